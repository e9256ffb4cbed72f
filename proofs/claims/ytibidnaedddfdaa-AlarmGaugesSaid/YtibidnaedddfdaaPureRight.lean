/- The plain law: basin.Right always answers. No program in sight. -/
import Derived.Test.YtibidnaedddfdaaPureDiv
namespace Go.Proofs.Ytibidnaedddfdaa
open Go.RowKit
set_option linter.unusedVariables false
set_option linter.unusedSimpArgs false

theorem cond_t (b x : Bool) : cond b true x = (b || x) := by cases b <;> rfl
theorem cond_f (b x : Bool) : cond b x false = (b && x) := by cases b <;> rfl
theorem bind_cond {α β} (b : Bool) (x y : Option α) (f : α → Option β) : Option.bind (cond b x y) f = cond b (Option.bind x f) (Option.bind y f) := by cases b <;> rfl
theorem w64_succ {k : Nat} (h : k < 4611686018427387904) : w64 ((k : Int) + 1) = ((k + 1 : Nat) : Int) := by rw [w64_n (by omega) (by omega)]; rfl
theorem lt_t {k L : Nat} (h : k < L) : decide ((k : Int) < (L : Int)) = true := by simp; omega
theorem lt_f {k L : Nat} (h : L ≤ k) : decide ((k : Int) < (L : Int)) = false := by simp; omega
theorem loop_df (L : Nat) (f : Nat → Int → Option Bool) (kj : Option Bool) (P : Nat → Prop) (hstop : ∀ n (k : Nat), L ≤ k → f (n + 1) (k : Int) = kj) (hstep : ∀ n (k : Nat), k < L → f (n + 1) (k : Int) = some false ∨ (P k ∧ f (n + 1) (k : Int) = f n ((k + 1 : Nat) : Int))) :
    ∀ n (k : Nat), L < n + k → k ≤ L → f n (k : Int) = some false ∨ ((∀ i, k ≤ i → i < L → P i) ∧ f n (k : Int) = kj)
  | 0, k, h, hk => by omega
  | n + 1, k, h, hk => by
    rcases Nat.lt_or_ge k L with hl | hl
    · rcases hstep n k hl with h1 | ⟨h1, h2⟩
      · exact .inl h1
      · rcases loop_df L f kj P hstop hstep n (k + 1) (by omega) (by omega) with h3 | ⟨h3, h4⟩
        · exact .inl (h2.trans h3)
        · refine .inr ⟨fun i hi hil => ?_, h2.trans h4⟩
          by_cases e : i = k
          · subst e; exact h1
          · exact h3 i (by omega) hil
    · exact .inr ⟨fun i hi hil => by omega, hstop n k hl⟩
/-- a loop that never leaves early -/
theorem loop_st {σ β : Type} (L : Nat) (f : Nat → Int → σ → Option β) (kj : σ → Option β) (I : σ → Prop) (hstop : ∀ n (k : Nat) s, L ≤ k → f (n + 1) (k : Int) s = kj s) (hstep : ∀ n (k : Nat) s, I s → k < L → ∃ s', I s' ∧ f (n + 1) (k : Int) s = f n ((k + 1 : Nat) : Int) s') :
    ∀ n (k : Nat) s, I s → L < n + k → k ≤ L → ∃ s', I s' ∧ f n (k : Int) s = kj s'
  | 0, k, s, _, h, hk => by omega
  | n + 1, k, s, hi, h, hk => by
    rcases Nat.lt_or_ge k L with hl | hl
    · obtain ⟨s1, i1, h1⟩ := hstep n k s hi hl
      obtain ⟨s2, i2, h2⟩ := loop_st L f kj I hstop hstep n (k + 1) s1 i1 (by omega) (by omega)
      exact ⟨s2, i2, h1.trans h2⟩
    · exact ⟨s, hi, hstop n k s hl⟩

def volB (n : Int) : Bool := decide (0 ≤ n) && decide (n ≤ 1125899906842624)
theorem volB_I {n : Int} (h : volB n = true) : volI n := by simpa [volB, volI] using h
theorem vol_eq (N : Nat) (n : Int) : f_basin_volume N n = some (volB n) := rfl
def inB (n lo hi : Int) : Bool := decide (lo ≤ n) && decide (n ≤ hi)
theorem in_eq (N : Nat) (n lo hi : Int) : f_basin_in N n lo hi = some (inB n lo hi) := rfl
theorem inB_I {n lo hi : Int} (h : inB n lo hi = true) : lo ≤ n ∧ n ≤ hi := by simpa [inB] using h
def fracB (a b : Int) : Bool := (volB a && volB b) && (decide (b ≠ 0) || decide (a = 0))
theorem frac_eq (N : Nat) (a b : Int) : f_basin_fraction N a b = some (fracB a b) := by
  simp only [f_basin_fraction, vol_eq, Option.bind_some, cond_some, cond_f, fracB]
theorem fracB_I {a b : Int} (h : fracB a b = true) : volI a ∧ volI b := by
  simp only [fracB, Bool.and_eq_true] at h
  exact ⟨volB_I h.1.1, volB_I h.1.2⟩
theorem index_eq (N : Nat) (n : Int) {L : Nat} (hL : L < 4611686018427387904) : f_basin_index N n (L : Int) = some (inB n 0 ((L : Int) - 1)) := by
  simp only [f_basin_index, in_eq, Option.bind_some]
  rw [w64_n (by omega) (by omega)]
def targB (L : Nat) (fr to : Int) : Bool := decide (to = -1) || (inB to 0 ((L : Int) - 1) && decide (to ≠ fr))
theorem target_eq (N : Nat) (b : GBasin) (fr to : Int) (hL : b.Places.length < 4611686018427387904) : f_basin_target N b fr to = some (targB b.Places.length fr to) := by
  simp only [f_basin_target, index_eq N _ hL, Option.bind_some, cond_some, cond_t, targB]
theorem targB_I {L : Nat} {fr to : Int} (h : targB L fr to = true) : to = -1 ∨ (0 ≤ to ∧ to < L) := by
  simp only [targB, Bool.or_eq_true, Bool.and_eq_true, decide_eq_true_eq] at h
  rcases h with h | h
  · exact .inl h
  · have := inB_I h.1; exact .inr ⟨this.1, by omega⟩

/-! ### the head -/
structure HeadOK (b : GBasin) : Prop where
  own : b.Owners.length ≤ 16
  cells : 0 ≤ b.Cells ∧ b.Cells ≤ 64
  pl : b.Places.length ≤ 64
  li : b.Links.length ≤ 96
  to : b.Towns.length ≤ 40
  ga : b.Gauges.length ≤ 128
  ro : b.Roads.length ≤ 128
  sh : b.Shelters.length ≤ 40
theorem bix_nat {s : ByteArray} {k : Nat} (h : k < s.size) : ∃ z, bix s (k : Int) = some z := by
  unfold bix
  rw [if_neg (by omega)]
  simp only [Int.toNat_natCast]
  exact ⟨_, by rw [getElem?_pos s k h]; rfl⟩
theorem head_eq {N : Nat} (hN : 1000 < N) (b : GBasin) : ∃ v, f_basin_rightHead N b = some v ∧ (v = true → HeadOK b) := by
  unfold f_basin_rightHead
  simp only [in_eq, Option.bind_some, cond_some, cond_t]
  generalize hB : (_ || !inB b.Err 0 1099511627776) = B
  cases B
  · simp only [Bool.or_eq_false_iff, decide_eq_false_iff_not, Bool.not_eq_false'] at hB
    obtain ⟨⟨⟨⟨⟨⟨⟨⟨⟨⟨h1, h2⟩, h3⟩, h4⟩, h5⟩, h6⟩, h7⟩, h8⟩, h9⟩, h10⟩, h11⟩ := hB
    have g2 := inB_I h2
    have g3 := inB_I h3
    have g4 := inB_I h4
    have hok : HeadOK b := ⟨by omega, by omega, by omega, by omega, by omega, by omega, by omega, by omega⟩
    simp only [cond_false]
    have hroom : ∃ v, f_basin_rightHead_j0 N b = some v := by
      unfold f_basin_rightHead_j0
      rcases loop_df b.Room.length (f_basin_rightHead_l3 N b (f_basin_rightHead_j2 N)) (f_basin_rightHead_j2 N) (fun _ => True) (fun n k h => by
        simp only [f_basin_rightHead_l3]; rw [lt_f h]; rfl) (fun n k h => by
        simp only [f_basin_rightHead_l3]
        rw [lt_t h, cond_true, ix_nat h]
        simp only [Option.bind_some, vol_eq, w64_succ (show k < 4611686018427387904 by omega)]
        cases volB b.Room[k]
        · exact .inl rfl
        · exact .inr ⟨trivial, rfl⟩) N 0 (by omega) (Nat.zero_le _) with h | ⟨_, h⟩
      · exact ⟨_, h⟩
      · exact ⟨true, h⟩
    rcases loop_df b.Name.size (f_basin_rightHead_l1 N b (f_basin_rightHead_j0 N b)) (f_basin_rightHead_j0 N b) (fun _ => True) (fun n k h => by
        simp only [f_basin_rightHead_l1]; rw [lt_f h]; rfl) (fun n k h => by
        simp only [f_basin_rightHead_l1]
        obtain ⟨z, hz⟩ := bix_nat h
        rw [lt_t h, cond_true, hz]
        simp only [Option.bind_some, w64_succ (show k < 4611686018427387904 by omega)]
        cases (decide (z < 32) || decide (126 < z) || decide (z = 34) || decide (z = 92))
        · exact .inr ⟨trivial, rfl⟩
        · exact .inl rfl) N 0 (by omega) (Nat.zero_le _) with h | ⟨_, h⟩
    · exact ⟨false, h, fun h => by cases h⟩
    · obtain ⟨v, hv⟩ := hroom
      exact ⟨v, h.trans hv, fun _ => hok⟩
  · exact ⟨false, rfl, fun h => by cases h⟩

/-! ### names -/
theorem isName_df {N : Nat} (hN : 1000 < N) (s : ByteArray) : Df (f_basin_isName N s) := by
  unfold f_basin_isName
  cases hB : (decide ((s.size : Int) < 1) || decide (24 < (s.size : Int)) || s == ByteArray.mk #[111, 117, 116])
  · simp only [Bool.or_eq_false_iff, decide_eq_false_iff_not] at hB
    obtain ⟨z, hz⟩ := bix_nat (s := s) (k := 0) (by omega)
    have hz' : bix s 0 = some z := hz
    simp only [cond_false, hz', Option.bind_some, cond_some, cond_t]
    refine Df.cond (fun _ => Df.mk _) fun _ => ?_
    rcases loop_df s.size (f_basin_isName_l1 N s (f_basin_isName_j0 N)) (f_basin_isName_j0 N) (fun _ => True) (fun n k h => by
        simp only [f_basin_isName_l1]; rw [lt_f h]; rfl) (fun n k h => by
        simp only [f_basin_isName_l1]
        obtain ⟨z, hz⟩ := bix_nat h
        rw [lt_t h, cond_true, hz]
        simp only [Option.bind_some, w64_succ (show k < 4611686018427387904 by omega)]
        cases (((decide (z < 97) || decide (122 < z)) && (decide (z < 48) || decide (57 < z))) && decide (z ≠ 95))
        · exact .inr ⟨trivial, rfl⟩
        · exact .inl rfl) N 1 (by omega) (by omega) with h | ⟨_, h⟩
    · exact ⟨_, h⟩
    · exact ⟨_, h⟩
  · simp only [cond_true, Option.bind_some]
    exact Df.mk _
theorem fresh_df {N : Nat} (hN : 1000 < N) (m : List (Gbasin_mark × Bool)) (a b : ByteArray) : Df (f_basin_fresh N m a b) := by
  have hj : ∀ s, Df (f_basin_fresh_j0 N m b s) := fun s => by
    unfold f_basin_fresh_j0
    exact Df.bind (isName_df hN b) fun _ _ => Df.cond (fun _ => Df.mk _) fun _ => Df.mk _
  unfold f_basin_fresh
  exact Df.cond (fun _ => hj _) fun _ => hj _
theorem check_df {N : Nat} (hN : 1000 < N) (m : List (Gbasin_mark × Bool)) (c : Bool) (a b : ByteArray) : ∃ v, f_basin_rightNames_1 N m c a b = some v := by
  unfold f_basin_rightNames_1
  exact Df.bind (fresh_df hN m a b) fun _ _ => Df.mk _
theorem names_df {N : Nat} (hN : 1000 < N) {b : GBasin} (hb : HeadOK b) : Df (f_basin_rightNames N b) := by
  obtain ⟨q1, q2, q3, q4, q5, q6, q7, q8⟩ := hb
  have st : ∀ {σ} (L : Nat) (f : Nat → Int → σ → Option Bool) (kj : σ → Option Bool), L ≤ 128 → (∀ n (k : Nat) s, L ≤ k → f (n + 1) (k : Int) s = kj s) → (∀ n (k : Nat) s, k < L → ∃ s', f (n + 1) (k : Int) s = f n ((k + 1 : Nat) : Int) s') → (∀ s, Df (kj s)) → ∀ s, Df (f N 0 s) := fun L f kj hL h1 h2 h3 s => by
    obtain ⟨s', _, e⟩ := loop_st L f kj (fun _ => True) h1 (fun n k s _ h => by obtain ⟨s', h'⟩ := h2 n k s h; exact ⟨s', trivial, h'⟩) N 0 s trivial (by omega) (Nat.zero_le _)
    obtain ⟨v, hv⟩ := h3 s'
    exact ⟨v, e.trans hv⟩
  have h13 : ∀ s : Bool × List (Gbasin_mark × Bool), Df (f_basin_rightNames_l13 N b (f_basin_rightNames_j12 N) N 0 s.1 s.2) := st (σ := Bool × List (Gbasin_mark × Bool)) b.Roads.length (fun n k s => f_basin_rightNames_l13 N b (f_basin_rightNames_j12 N) n k s.1 s.2) (fun s => f_basin_rightNames_j12 N s.1) (by omega) (fun n k s h => by simp only [f_basin_rightNames_l13]; rw [lt_f h]; rfl)
    (fun n k s h => by
      simp only [f_basin_rightNames_l13]
      rw [lt_t h, cond_true, ix_nat h]
      simp only [Option.bind_some]
      obtain ⟨v, hv⟩ := check_df hN s.2 s.1 (ByteArray.mk #[114, 111, 97, 100]) (b.Roads[k]).Name
      rw [hv]
      simp only [Option.bind_some, w64_succ (show k < 4611686018427387904 by omega)]
      exact ⟨(v.2, v.1), rfl⟩) (fun s => Df.mk _)
  have h11 : ∀ s : Bool × List (Gbasin_mark × Bool), Df (f_basin_rightNames_l11 N b (f_basin_rightNames_j10 N b) N 0 s.1 s.2) := st (σ := Bool × List (Gbasin_mark × Bool)) b.Gauges.length (fun n k s => f_basin_rightNames_l11 N b (f_basin_rightNames_j10 N b) n k s.1 s.2) (fun s => f_basin_rightNames_j10 N b s.1 s.2) (by omega) (fun n k s h => by simp only [f_basin_rightNames_l11]; rw [lt_f h]; rfl)
    (fun n k s h => by
      simp only [f_basin_rightNames_l11]
      rw [lt_t h, cond_true, ix_nat h]
      simp only [Option.bind_some]
      obtain ⟨v, hv⟩ := check_df hN s.2 s.1 (ByteArray.mk #[103, 97, 117, 103, 101]) (b.Gauges[k]).Name
      rw [hv]
      simp only [Option.bind_some, w64_succ (show k < 4611686018427387904 by omega)]
      exact ⟨(v.2, v.1), rfl⟩) (fun s => h13 s)
  have h9 : ∀ s : Bool × List (Gbasin_mark × Bool), Df (f_basin_rightNames_l9 N b (f_basin_rightNames_j8 N b) N 0 s.1 s.2) := st (σ := Bool × List (Gbasin_mark × Bool)) b.Shelters.length (fun n k s => f_basin_rightNames_l9 N b (f_basin_rightNames_j8 N b) n k s.1 s.2) (fun s => f_basin_rightNames_j8 N b s.1 s.2) (by omega) (fun n k s h => by simp only [f_basin_rightNames_l9]; rw [lt_f h]; rfl)
    (fun n k s h => by
      simp only [f_basin_rightNames_l9]
      rw [lt_t h, cond_true, ix_nat h]
      simp only [Option.bind_some]
      obtain ⟨v, hv⟩ := check_df hN s.2 s.1 (ByteArray.mk #[115, 104, 101, 108, 116, 101, 114]) (b.Shelters[k]).Name
      rw [hv]
      simp only [Option.bind_some, w64_succ (show k < 4611686018427387904 by omega)]
      exact ⟨(v.2, v.1), rfl⟩) (fun s => h11 s)
  have h7 : ∀ s : Bool × List (Gbasin_mark × Bool), Df (f_basin_rightNames_l7 N b (f_basin_rightNames_j6 N b) N 0 s.1 s.2) := st (σ := Bool × List (Gbasin_mark × Bool)) b.Towns.length (fun n k s => f_basin_rightNames_l7 N b (f_basin_rightNames_j6 N b) n k s.1 s.2) (fun s => f_basin_rightNames_j6 N b s.1 s.2) (by omega) (fun n k s h => by simp only [f_basin_rightNames_l7]; rw [lt_f h]; rfl)
    (fun n k s h => by
      simp only [f_basin_rightNames_l7]
      rw [lt_t h, cond_true, ix_nat h]
      simp only [Option.bind_some]
      obtain ⟨v, hv⟩ := check_df hN s.2 s.1 (ByteArray.mk #[116, 111, 119, 110]) (b.Towns[k]).Name
      rw [hv]
      simp only [Option.bind_some, w64_succ (show k < 4611686018427387904 by omega)]
      exact ⟨(v.2, v.1), rfl⟩) (fun s => h9 s)
  have h5 : ∀ s : Bool × List (Gbasin_mark × Bool), Df (f_basin_rightNames_l5 N b (f_basin_rightNames_j4 N b) N 0 s.1 s.2) := st (σ := Bool × List (Gbasin_mark × Bool)) b.Links.length (fun n k s => f_basin_rightNames_l5 N b (f_basin_rightNames_j4 N b) n k s.1 s.2) (fun s => f_basin_rightNames_j4 N b s.1 s.2) (by omega) (fun n k s h => by simp only [f_basin_rightNames_l5]; rw [lt_f h]; rfl)
    (fun n k s h => by
      simp only [f_basin_rightNames_l5]
      rw [lt_t h, cond_true, ix_nat h]
      simp only [Option.bind_some]
      obtain ⟨v, hv⟩ := check_df hN s.2 s.1 (ByteArray.mk #[108, 105, 110, 107]) (b.Links[k]).Name
      rw [hv]
      simp only [Option.bind_some, w64_succ (show k < 4611686018427387904 by omega)]
      exact ⟨(v.2, v.1), rfl⟩) (fun s => h7 s)
  have h3 : ∀ s : Bool × List (Gbasin_mark × Bool), Df (f_basin_rightNames_l3 N b (f_basin_rightNames_j2 N b) N 0 s.1 s.2) := st (σ := Bool × List (Gbasin_mark × Bool)) b.Places.length (fun n k s => f_basin_rightNames_l3 N b (f_basin_rightNames_j2 N b) n k s.1 s.2) (fun s => f_basin_rightNames_j2 N b s.1 s.2) (by omega) (fun n k s h => by simp only [f_basin_rightNames_l3]; rw [lt_f h]; rfl)
    (fun n k s h => by
      simp only [f_basin_rightNames_l3]
      rw [lt_t h, cond_true, ix_nat h]
      simp only [Option.bind_some]
      obtain ⟨v, hv⟩ := check_df hN s.2 s.1 (ByteArray.mk #[112, 108, 97, 99, 101]) (b.Places[k]).Name
      rw [hv]
      simp only [Option.bind_some, w64_succ (show k < 4611686018427387904 by omega)]
      exact ⟨(v.2, v.1), rfl⟩) (fun s => h5 s)
  have h1 : ∀ s : Bool × List (Gbasin_mark × Bool), Df (f_basin_rightNames_l1 N b (f_basin_rightNames_j0 N b) N 0 s.1 s.2) := st (σ := Bool × List (Gbasin_mark × Bool)) b.Owners.length (fun n k s => f_basin_rightNames_l1 N b (f_basin_rightNames_j0 N b) n k s.1 s.2) (fun s => f_basin_rightNames_j0 N b s.1 s.2) (by omega) (fun n k s h => by simp only [f_basin_rightNames_l1]; rw [lt_f h]; rfl)
    (fun n k s h => by
      simp only [f_basin_rightNames_l1]
      rw [lt_t h, cond_true, ix_nat h]
      simp only [Option.bind_some]
      obtain ⟨v, hv⟩ := check_df hN s.2 s.1 (ByteArray.mk #[111, 119, 110, 101, 114]) (b.Owners[k])
      rw [hv]
      simp only [Option.bind_some, w64_succ (show k < 4611686018427387904 by omega)]
      exact ⟨(v.2, v.1), rfl⟩) (fun s => h3 s)
  exact h1 (true, [])
end Go.Proofs.Ytibidnaedddfdaa
