/- The plain law of harms. No program in sight. -/
import Derived.Test.YtkbooafdccnkeaaForms
namespace Go.Proofs.Ytkbooafdccnkeaa
open Go.RowKit
set_option linter.unusedVariables false

theorem isNaN_eq (N : Nat) (x : Int) : f_cmp_isNaN_int N x = some false := by simp [f_cmp_isNaN_int]
theorem compare_eq (N : Nat) (x y : Int) : f_cmp_Compare_int N x y = some (if x < y then -1 else if y < x then 1 else 0) := by
  simp only [f_cmp_Compare_int, isNaN_eq, Option.bind_some, cond_false, Bool.cond_decide]
  repeat' split
  all_goals first | rfl | omega
theorem small_ok : f_bournelaw33_small 1000 = some true := by decide +kernel
theorem w64_in' {n : Int} (h : inI64 n) : w64 n = n := w64_in h
theorem ix_cons {vals : List Int} {k : Nat} {x : Int} {r : List Int} (h : vals.drop k = x :: r) : ix vals (k : Int) = some x ∧ vals.drop (k + 1) = r ∧ k < vals.length := by
  have h1 : vals[k]? = some x := by have := congrArg (·[0]?) h; simpa using this
  refine ⟨by simp [ix, h1], by have := congrArg List.tail h; simpa [List.tail_drop] using this, (List.getElem?_eq_some_iff.1 h1).1⟩
theorem or_l1 (N : Nat) (vals : List Int) (kj : Option Int) (hl : vals.length ≤ 1000000) : ∀ (r : List Int) (k n : Nat), vals.drop k = r → r.length < n → f_cmp_Or_int_l1 N vals kj n (k : Int) = match r.find? (fun x => decide (x ≠ 0)) with | some x => some x | none => kj
  | [], k, n + 1, h, _ => by
    have : vals.length ≤ k := by simpa using h
    simp only [f_cmp_Or_int_l1, List.find?_nil]
    rw [show decide ((k : Int) < (vals.length : Int)) = false by simp; omega]
    rfl
  | x :: r, k, n + 1, h, hn => by
    obtain ⟨h1, h2, h3⟩ := ix_cons h
    simp only [f_cmp_Or_int_l1, h1, Option.bind_some]
    rw [show decide ((k : Int) < (vals.length : Int)) = true by simp; omega, cond_true, w64_in (by unfold inI64; omega)]
    have := or_l1 N vals kj hl r (k + 1) n h2 (by simp at hn; omega)
    rw [show ((k : Int) + 1) = ((k + 1 : Nat) : Int) by omega, this]
    simp only [List.find?_cons]
    cases decide (x ≠ 0) <;> rfl
def cm (x y : Int) : Int := if x < y then -1 else if y < x then 1 else 0
theorem cm0 {x y : Int} : cm x y = 0 ↔ x = y := by unfold cm; split <;> (try split) <;> omega
theorem cmlt {x y : Int} : cm x y < 0 ↔ x < y := by unfold cm; split <;> (try split) <;> omega
def lessB (x y : GHarm) : Bool := decide (x.Flood < y.Flood ∨ (x.Flood = y.Flood ∧ (x.Spill < y.Spill ∨ (x.Spill = y.Spill ∧ (x.Short < y.Short ∨ (x.Short = y.Short ∧ x.Moves < y.Moves))))))
theorem less_eq {N : Nat} (hN : 10 ≤ N) (x y : GHarm) : f_harm_Less N x y = some (lessB x y) := by
  have h : ∀ a b c d : Int, f_cmp_Or_int_l1 N [a, b, c, d] (some 0) N 0 = match [a, b, c, d].find? (fun x => decide (x ≠ 0)) with | some x => some x | none => some 0 := fun a b c d => or_l1 N [a, b, c, d] (some 0) (by simp) [a, b, c, d] 0 N rfl (by simp; omega)
  simp only [f_harm_Less, compare_eq, Option.bind_some, f_cmp_Or_int, f_cmp_Or_int_j0, ← cm.eq_1]
  rw [h]
  simp only [List.find?_cons, List.find?_nil, lessB, ne_eq, cm0]
  by_cases h1 : x.Flood = y.Flood <;> by_cases h2 : x.Spill = y.Spill <;> by_cases h3 : x.Short = y.Short <;> by_cases h4 : x.Moves = y.Moves <;> simp [h1, h2, h3, h4, cmlt]
def clampI (n : Int) : Int := if n < -9223372036854775808 then -9223372036854775808 else if 9223372036854775807 < n then 9223372036854775807 else n
theorem add_eq {N : Nat} {a b : Int} (ha : inI64 a) (hb : inI64 b) : f_exact_Add N a b = some (clampI (a + b)) := by
  unfold inI64 at ha hb
  by_cases h1 : 0 < b
  · have e : w64 (9223372036854775807 - b) = 9223372036854775807 - b := w64_in (by unfold inI64; omega)
    by_cases h2 : 9223372036854775807 - b < a
    · simp [f_exact_Add, h1, e, h2, clampI]; omega
    · have e2 : w64 (a + b) = a + b := w64_in (by unfold inI64; omega)
      simp [f_exact_Add, h1, e, h2, clampI, e2, Int.not_lt.2 (Int.le_of_lt h1)]; omega
  · by_cases h3 : b < 0
    · have e : w64 (-9223372036854775808 - b) = -9223372036854775808 - b := w64_in (by unfold inI64; omega)
      by_cases h2 : a < -9223372036854775808 - b
      · simp [f_exact_Add, h1, h3, e, h2, clampI]; omega
      · have e2 : w64 (a + b) = a + b := w64_in (by unfold inI64; omega)
        simp [f_exact_Add, h1, h3, e, h2, clampI, e2]; omega
    · have e2 : w64 (a + b) = a + b := w64_in (by unfold inI64; omega)
      simp [f_exact_Add, h1, h3, clampI, e2]; omega
def addH (x y : GHarm) : GHarm := ⟨clampI (x.Flood + y.Flood), clampI (x.Spill + y.Spill), clampI (x.Short + y.Short), clampI (x.Moves + y.Moves)⟩
theorem addH_eq {N : Nat} {x y : GHarm} (hx : x.ok) (hy : y.ok) : f_harm_Add N x y = some (addH x y) := by
  obtain ⟨a1, a2, a3, a4⟩ := hx
  obtain ⟨b1, b2, b3, b4⟩ := hy
  simp only [f_harm_Add, add_eq a1 b1, add_eq a2 b2, add_eq a3 b3, add_eq a4 b4, Option.bind_some]
  rfl
theorem clampI_in (n : Int) : inI64 (clampI n) := by unfold clampI inI64; split <;> (try split) <;> omega
theorem addH_ok (x y : GHarm) : (addH x y).ok := ⟨clampI_in _, clampI_in _, clampI_in _, clampI_in _⟩
theorem eqC_harm (x y : GHarm) : eqC x.v y.v = true ↔ x = y := by
  obtain ⟨a, b, c, d⟩ := x
  obtain ⟨a', b', c', d'⟩ := y
  simp [eqC, eqV]
def inB (x : Int) : Bool := decide (-1152921504606846976 ≤ x) && decide (x ≤ 1152921504606846976)
def cellsH (x y z : GHarm) : List Int := [x.Flood, x.Spill, x.Short, x.Moves, y.Flood, y.Spill, y.Short, y.Moves, z.Flood, z.Spill, z.Short, z.Moves]
theorem orders_l1 (N : Nat) (x y z : GHarm) (kj : Bool → Option Bool) : ∀ (r : List Int) (k n : Nat) (b : Bool), (cellsH x y z).drop k = r → r.length < n → f_bournelaw33_HarmOrders_l1 N x y z kj n b (k : Int) = kj (b && r.all inB)
  | [], k, n + 1, b, h, _ => by
    have : (cellsH x y z).length ≤ k := by simpa using h
    have h12 : (cellsH x y z).length = 12 := rfl
    simp only [f_bournelaw33_HarmOrders_l1]
    rw [← cellsH.eq_1, show decide ((k : Int) < ((cellsH x y z).length : Int)) = false by simp; omega]
    simp
  | c :: r, k, n + 1, b, h, hn => by
    obtain ⟨h1, h2, h3⟩ := ix_cons h
    have h12 : (cellsH x y z).length = 12 := rfl
    simp only [f_bournelaw33_HarmOrders_l1]
    rw [← cellsH.eq_1, show decide ((k : Int) < ((cellsH x y z).length : Int)) = true by simp; omega, cond_true]
    simp only [h1, Option.bind_some]
    rw [w64_in (show inI64 (0 - 1152921504606846976) by unfold inI64; omega), w64_in (show inI64 ((k : Int) + 1) by unfold inI64; omega)]
    have ih : ∀ b, f_bournelaw33_HarmOrders_l1 N x y z kj n b ((k : Int) + 1) = kj (b && r.all inB) := fun b => by
      have := orders_l1 N x y z kj r (k + 1) n b h2 (by simp at hn; omega)
      rw [show ((k : Int) + 1) = ((k + 1 : Nat) : Int) by omega, this]
    have e : (0 - 1152921504606846976 : Int) = -1152921504606846976 := rfl
    rw [e]
    cases b with
    | false => simp [ih]
    | true =>
      simp only [cond_true, Option.bind_some, Bool.true_and, List.all_cons, inB]
      cases h5 : decide (-1152921504606846976 ≤ c) <;> simp [ih]
theorem les_asym {x y : GHarm} (h1 : lessB x y = true) (h2 : lessB y x = true) : False := by
  simp only [lessB, decide_eq_true_eq] at h1 h2; omega
theorem les_tri {x y : GHarm} (h1 : lessB x y = false) (h2 : lessB y x = false) : x = y := by
  simp only [lessB, decide_eq_false_iff_not] at h1 h2
  obtain ⟨a, b, c, d⟩ := x
  obtain ⟨a', b', c', d'⟩ := y
  simp only [GHarm.mk.injEq] at *
  omega
theorem les_irr (x : GHarm) : lessB x x = false := by simp [lessB]
theorem les_trans {x y z : GHarm} (h1 : lessB x y = true) (h2 : lessB y z = true) : lessB x z = true := by
  simp only [lessB, decide_eq_true_eq] at h1 h2 ⊢; omega
theorem clampI_of {n : Int} (h : inI64 n) : clampI n = n := by unfold clampI inI64 at *; split <;> (try split) <;> omega
theorem inB_add {a b : Int} (h1 : inB a = true) (h2 : inB b = true) : clampI (a + b) = a + b := by
  simp only [inB, Bool.and_eq_true, decide_eq_true_eq] at h1 h2
  exact clampI_of (by unfold inI64; omega)
theorem les_add {x y z : GHarm} (h : (cellsH x y z).all inB = true) : lessB (addH x z) (addH y z) = lessB x y := by
  simp only [cellsH, List.all_cons, List.all_nil, Bool.and_eq_true] at h
  obtain ⟨a1, a2, a3, a4, b1, b2, b3, b4, c1, c2, c3, c4, _⟩ := h
  simp only [lessB, addH, inB_add a1 c1, inB_add a2 c2, inB_add a3 c3, inB_add a4 c4, inB_add b1 c1, inB_add b2 c2, inB_add b3 c3, inB_add b4 c4]
  congr 1
  apply propext
  omega
theorem clampI_ge {n m : Int} (hn : inI64 n) (hm : 0 ≤ m) : n ≤ clampI (n + m) := by unfold clampI inI64 at *; split <;> (try split) <;> omega
theorem les_grow {x z : GHarm} (hx : x.ok) (h1 : 0 ≤ z.Flood) (h2 : 0 ≤ z.Spill) (h3 : 0 ≤ z.Short) (h4 : 0 ≤ z.Moves) : lessB (addH x z) x = false := by
  obtain ⟨a, b, c, d⟩ := hx
  have e1 := clampI_ge a h1
  have e2 := clampI_ge b h2
  have e3 := clampI_ge c h3
  have e4 := clampI_ge d h4
  unfold lessB addH
  refine decide_eq_false ?_
  simp only
  omega
theorem addH_comm (x y : GHarm) : addH x y = addH y x := by simp only [addH, Int.add_comm]
theorem addH_zero {x : GHarm} (hx : x.ok) : addH x ⟨0, 0, 0, 0⟩ = x := by
  obtain ⟨a, b, c, d⟩ := hx
  simp only [addH, Int.add_zero, clampI_of a, clampI_of b, clampI_of c, clampI_of d]
theorem eqC_false {x y : GHarm} : eqC x.v y.v = false ↔ x ≠ y := by
  rw [← Bool.not_eq_true, eqC_harm]
theorem eqC_self (x : GHarm) : eqC x.v x.v = true := (eqC_harm x x).2 rfl
theorem orders_plain {x y z : GHarm} (hx : x.ok) (hy : y.ok) (hz : z.ok) : f_bournelaw33_HarmOrders 1000 x y z = some true := by
  have hl := orders_l1 1000 x y z (f_bournelaw33_HarmOrders_j0 1000 x y z true (lessB x y)) (cellsH x y z) 0 1000 true rfl (by simp [cellsH])
  simp only [f_bournelaw33_HarmOrders, small_ok, less_eq (show 10 ≤ 1000 by decide), Option.bind_some]
  have hb : cond ((lessB x y && lessB y x) || (!((eqC x.v y.v) == ((!lessB x y) && (!lessB y x))))) (some true)
      (Option.bind (cond (lessB x y) (some (lessB y z)) (some false)) fun b70 => Option.bind (cond b70 (some (!lessB x z)) (some false)) fun b80 => some b80) = some false := by
    cases h1 : lessB x y <;> cases h2 : lessB y x
    · have := les_tri h1 h2
      subst this
      simp [eqC_self]
    · have hne : eqC x.v y.v = false := eqC_false.2 fun e => by subst e; rw [les_irr] at h2; cases h2
      simp [hne]
    · have hne : eqC x.v y.v = false := eqC_false.2 fun e => by subst e; rw [les_irr] at h1; cases h1
      cases h3 : lessB y z
      · simp [hne]
      · simp [hne, les_trans h1 h3]
    · exact (les_asym h1 h2).elim
  rw [hb]
  simp only [Option.bind_some, cond_false]
  rw [show (0 : Int) = ((0 : Nat) : Int) from rfl, hl]
  simp only [f_bournelaw33_HarmOrders_j0, addH_eq hx hz, addH_eq hy hz, addH_eq hx hy, addH_eq hy hx, addH_eq hx (show (⟨0, 0, 0, 0⟩ : GHarm).ok by unfold GHarm.ok inI64; simp), less_eq (show 10 ≤ 1000 by decide), Option.bind_some, addH_zero hx, addH_comm y x, eqC_self, Bool.true_and, cond_true]
  have h1 : cond ((cellsH x y z).all inB) (some (!(lessB x y == lessB (addH x z) (addH y z)))) (some false) = some false := by
    cases h : (cellsH x y z).all inB
    · rfl
    · simp [les_add h]
  rw [h1]
  simp only [Option.bind_some, cond_false]
  cases h2 : (((decide (0 ≤ z.Flood)) && (decide (0 ≤ z.Spill))) && (decide (0 ≤ z.Short))) && (decide (0 ≤ z.Moves))
  · simp
  · simp only [Bool.and_eq_true, decide_eq_true_eq] at h2
    obtain ⟨⟨⟨c1, c2⟩, c3⟩, c4⟩ := h2
    simp [les_grow hx c1 c2 c3 c4]
end Go.Proofs.Ytkbooafdccnkeaa
