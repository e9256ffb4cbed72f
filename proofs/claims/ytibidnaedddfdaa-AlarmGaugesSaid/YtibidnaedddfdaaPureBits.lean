/- The plain law of math/bits: products, lengths, divisions of 128 bits; sort.Search. No program in sight. -/
import Derived.Test.YtibidnaedddfdaaForms
import Derived.Lib.Mul64
namespace Go.Proofs.Ytibidnaedddfdaa
open Go.RowKit
set_option linter.unusedVariables false
set_option linter.unusedSimpArgs false

abbrev Df {α} (x : Option α) : Prop := ∃ v, x = some v
theorem wrapU (n : Int) : IntKind.u64.wrap n = n % 18446744073709551616 := by simp [IntKind.wrap, IntKind.bits, IntKind.signed]
theorem wrapUN (a : Nat) (h : a < 18446744073709551616) : IntKind.u64.wrap (a : Int) = a := by rw [wrapU]; omega
theorem wrapU_has {n : Int} (h : IntKind.u64.has n) : IntKind.u64.wrap n = n := by
  simp [IntKind.has, IntKind.min, IntKind.max, IntKind.bits, IntKind.signed] at h; rw [wrapU]; omega
theorem hasU {n : Int} : IntKind.u64.has n ↔ 0 ≤ n ∧ n ≤ 18446744073709551615 := by simp [IntKind.has, IntKind.min, IntKind.max, IntKind.bits, IntKind.signed]
theorem hasU_nat {n : Int} (h : IntKind.u64.has n) : ∃ a : Nat, n = a ∧ a < 18446744073709551616 := by
  rw [hasU] at h
  exact ⟨n.toNat, by omega, by omega⟩
theorem shrN (a j : Nat) (hj : j ≤ 64) : shrK .u64 (a : Int) j = ((a / 2 ^ j : Nat) : Int) := by
  unfold shrK
  have e : min j IntKind.u64.bits = j := by simp [IntKind.bits]; omega
  rw [e, Int.fdiv_eq_ediv_of_nonneg _ (Int.le_of_lt (Int.pow_pos (by decide)))]
  simp
theorem andN (a b : Nat) (ha : a < 18446744073709551616) (hb : b < 18446744073709551616) : bitK .and .u64 (a : Int) (b : Int) = ((a &&& b : Nat) : Int) := by
  have h1 : (BitVec.ofInt 64 (a : Int)).toNat = a := by rw [BitVec.ofInt_natCast, BitVec.toNat_ofNat]; exact Nat.mod_eq_of_lt (by omega)
  have h2 : (BitVec.ofInt 64 (b : Int)).toNat = b := by rw [BitVec.ofInt_natCast, BitVec.toNat_ofNat]; exact Nat.mod_eq_of_lt (by omega)
  have h3 : a &&& b < 2 ^ 64 := Nat.and_lt_two_pow _ (by omega)
  show IntKind.u64.wrap (((BitVec.ofInt 64 (a : Int)) &&& (BitVec.ofInt 64 (b : Int))).toNat : Int) = _
  rw [BitVec.toNat_and, h1, h2, wrapUN _ (by omega)]
theorem maskN (a : Nat) (ha : a < 18446744073709551616) : bitK .and .u64 (a : Int) 4294967295 = ((a % 4294967296 : Nat) : Int) := by
  have h := andN a 4294967295 ha (by omega)
  have e : a &&& 4294967295 = a % 4294967296 := Nat.and_two_pow_sub_one_eq_mod a 32
  rw [e] at h
  exact h
theorem shr32N (a : Nat) : shrK .u64 (a : Int) 32 = ((a / 4294967296 : Nat) : Int) := shrN a 32 (by omega)
theorem mulNN (a b : Nat) : (a : Int) * (b : Int) = ((a * b : Nat) : Int) := (Int.natCast_mul a b).symm
theorem addNN (a b : Nat) : (a : Int) + (b : Int) = ((a + b : Nat) : Int) := (Int.natCast_add a b).symm
theorem wrapM (a : Nat) : IntKind.u64.wrap (a : Int) = ((a % 18446744073709551616 : Nat) : Int) := by rw [wrapU]; omega
theorem mul64_eq (N x y : Nat) (hx : x < 18446744073709551616) (hy : y < 18446744073709551616) : f_math_bits_Mul64 N (x : Int) (y : Int) = some (((x * y / 18446744073709551616 : Nat) : Int), ((x * y % 18446744073709551616 : Nat) : Int)) := by
  obtain ⟨bd, bt, bw, hhi⟩ := Lib.mul64_hi x y hx hy
  have ba := Lib.half_mul_le (a := x / 4294967296) (b := y / 4294967296) (by omega) (by omega)
  have bb := Lib.half_mul_le (a := x / 4294967296) (b := y % 4294967296) (by omega) (by omega)
  have bc := Lib.half_mul_le (a := x % 4294967296) (b := y / 4294967296) (by omega) (by omega)
  have ba' : x / 4294967296 * (y / 4294967296) < 18446744073709551616 := by omega
  have bb' : x / 4294967296 * (y % 4294967296) < 18446744073709551616 := by omega
  have bc' : x % 4294967296 * (y / 4294967296) < 18446744073709551616 := by omega
  have bh1 : x / 4294967296 * (y / 4294967296) + (x / 4294967296 * (y % 4294967296) + x % 4294967296 * (y % 4294967296) / 4294967296) / 4294967296 < 18446744073709551616 := by omega
  have bh : x / 4294967296 * (y / 4294967296) + (x / 4294967296 * (y % 4294967296) + x % 4294967296 * (y % 4294967296) / 4294967296) / 4294967296 + ((x / 4294967296 * (y % 4294967296) + x % 4294967296 * (y % 4294967296) / 4294967296) % 4294967296 + x % 4294967296 * (y / 4294967296)) / 4294967296 < 18446744073709551616 := by omega
  simp only [f_math_bits_Mul64, shr32N, maskN x hx, maskN y hy, mulNN, addNN, wrapUN _ bd, wrapUN _ bb', wrapUN _ bt, maskN _ bt, wrapUN _ bc', wrapUN _ bw, wrapUN _ ba', wrapUN _ bh1, wrapUN _ bh, wrapM (x * y)]
  rw [hhi]

/-! ### the length of a number -/
def Ln (x n : Nat) : Prop := 1 ≤ n ∧ 2 ^ (n - 1) ≤ x ∧ x < 2 ^ n
theorem Ln.shift {x m s : Nat} (h : Ln (x / 2 ^ s) m) : Ln x (m + s) := by
  obtain ⟨h1, h2, h3⟩ := h
  have hp : 0 < 2 ^ s := Nat.two_pow_pos s
  refine ⟨by omega, ?_, ?_⟩
  · have : 2 ^ (m - 1) * 2 ^ s ≤ x := (Nat.le_div_iff_mul_le hp).1 h2
    rw [show m + s - 1 = (m - 1) + s by omega, Nat.pow_add]; exact this
  · have := (Nat.div_lt_iff_lt_mul hp).1 h3
    rw [Nat.pow_add]; exact this
set_option maxRecDepth 20000 in
theorem tab8 : ∀ k : Nat, k < 256 → bix sc_256_252118 (k : Int) = some (((if k = 0 then 0 else k.log2 + 1 : Nat)) : Int) := by decide +kernel
theorem tab8_ln {k : Nat} (h0 : 0 < k) (h : k < 256) : ∃ n : Nat, bix sc_256_252118 (k : Int) = some (n : Int) ∧ Ln k n ∧ n ≤ 8 := by
  have e := tab8 k h
  rw [if_neg (by omega)] at e
  refine ⟨_, e, ⟨by omega, ?_, Nat.lt_log2_self⟩, ?_⟩
  · rw [Nat.add_sub_cancel]; exact Nat.log2_self_le (by omega)
  · have : k.log2 < 8 := (Nat.log2_lt (by omega)).2 h
    omega
theorem len64_eq (N : Nat) {x : Nat} (h0 : 0 < x) (hx : x < 18446744073709551616) : ∃ n : Nat, f_math_bits_Len64 N (x : Int) = some (n : Int) ∧ Ln x n ∧ n ≤ 64 := by
  have w64N : ∀ a : Nat, a < 9223372036854775808 → w64 (a : Int) = a := fun a h => w64_in (by unfold inI64; omega)
  have u8N : ∀ a : Nat, a < 256 → IntKind.u8.wrap (a : Int) = a := fun a h => by simp [IntKind.wrap, IntKind.bits, IntKind.signed]; omega
  have j2 : ∀ a b : Nat, 0 < a → a < 256 → b ≤ 56 → ∃ n : Nat, f_math_bits_Len64_j2 N (a : Int) (b : Int) = some ((n + b : Nat) : Int) ∧ Ln a n ∧ n ≤ 8 := fun a b h1 h2 hb => by
    obtain ⟨n, e1, e2, e3⟩ := tab8_ln h1 h2
    refine ⟨n, ?_, e2, e3⟩
    simp only [f_math_bits_Len64_j2, u8N a h2, e1, Option.bind_some, w64N n (by omega), addNN, Nat.add_comm b n, w64N (n + b) (by omega)]
  have j1 : ∀ a b : Nat, 0 < a → a < 65536 → b ≤ 48 → ∃ n : Nat, f_math_bits_Len64_j1 N (a : Int) (b : Int) = some ((n + b : Nat) : Int) ∧ Ln a n ∧ n ≤ 16 := fun a b h1 h2 hb => by
    unfold f_math_bits_Len64_j1
    by_cases hc : 256 ≤ a
    · rw [show decide ((256 : Int) ≤ (a : Int)) = true by simp; omega, cond_true, shrN a 8 (by omega)]
      have e8 : w64 ((b : Int) + 8) = ((b + 8 : Nat) : Int) := by rw [show ((b : Int) + 8) = ((b + 8 : Nat) : Int) by omega]; exact w64N _ (by omega)
      rw [e8]
      obtain ⟨n, e1, e2, e3⟩ := j2 (a / 2 ^ 8) (b + 8) (by omega) (by omega) (by omega)
      exact ⟨n + 8, by rw [e1, show n + (b + 8) = n + 8 + b by omega], e2.shift, by omega⟩
    · rw [show decide ((256 : Int) ≤ (a : Int)) = false by simp; omega, cond_false]
      obtain ⟨n, e1, e2, e3⟩ := j2 a b h1 (by omega) (by omega)
      exact ⟨n, e1, e2, by omega⟩
  have j0 : ∀ a b : Nat, 0 < a → a < 4294967296 → b ≤ 32 → ∃ n : Nat, f_math_bits_Len64_j0 N (a : Int) (b : Int) = some ((n + b : Nat) : Int) ∧ Ln a n ∧ n ≤ 32 := fun a b h1 h2 hb => by
    unfold f_math_bits_Len64_j0
    by_cases hc : 65536 ≤ a
    · rw [show decide ((65536 : Int) ≤ (a : Int)) = true by simp; omega, cond_true, shrN a 16 (by omega)]
      have e8 : w64 ((b : Int) + 16) = ((b + 16 : Nat) : Int) := by rw [show ((b : Int) + 16) = ((b + 16 : Nat) : Int) by omega]; exact w64N _ (by omega)
      rw [e8]
      obtain ⟨n, e1, e2, e3⟩ := j1 (a / 2 ^ 16) (b + 16) (by omega) (by omega) (by omega)
      exact ⟨n + 16, by rw [e1, show n + (b + 16) = n + 16 + b by omega], e2.shift, by omega⟩
    · rw [show decide ((65536 : Int) ≤ (a : Int)) = false by simp; omega, cond_false]
      obtain ⟨n, e1, e2, e3⟩ := j1 a b h1 (by omega) (by omega)
      exact ⟨n, e1, e2, by omega⟩
  unfold f_math_bits_Len64
  by_cases hc : 4294967296 ≤ x
  · rw [show decide ((4294967296 : Int) ≤ (x : Int)) = true by simp; omega, cond_true, shrN x 32 (by omega)]
    obtain ⟨n, e1, e2, e3⟩ := j0 (x / 2 ^ 32) 32 (by omega) (by omega) (by omega)
    exact ⟨n + 32, by rw [show ((32 : Int)) = ((32 : Nat) : Int) from rfl, e1], e2.shift, by omega⟩
  · rw [show decide ((4294967296 : Int) ≤ (x : Int)) = false by simp; omega, cond_false]
    obtain ⟨n, e1, e2, e3⟩ := j0 x 0 h0 (by omega) (by omega)
    exact ⟨n, e1, e2, by omega⟩
theorem lz_eq (N : Nat) {y : Nat} (h0 : 0 < y) (hy : y < 18446744073709551616) : ∃ s : Nat, f_math_bits_LeadingZeros64 N (y : Int) = some (s : Int) ∧ s ≤ 63 ∧ 9223372036854775808 ≤ y * 2 ^ s ∧ y * 2 ^ s < 18446744073709551616 := by
  obtain ⟨n, e1, ⟨e2, e3, e4⟩, e5⟩ := len64_eq N h0 hy
  refine ⟨64 - n, ?_, by omega, ?_, ?_⟩
  · simp only [f_math_bits_LeadingZeros64, e1, Option.bind_some]
    rw [w64_in (by unfold inI64; omega)]
    congr 1; omega
  · have := Nat.mul_le_mul_right (2 ^ (64 - n)) e3
    rw [← Nat.pow_add, show n - 1 + (64 - n) = 63 by omega] at this
    exact this
  · have := Nat.mul_lt_mul_of_pos_right e4 (Nat.two_pow_pos (64 - n))
    rw [← Nat.pow_add, show n + (64 - n) = 64 by omega] at this
    exact this
end Go.Proofs.Ytibidnaedddfdaa
