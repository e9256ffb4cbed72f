/- The plain law: Div64 divides where it may; Scale; slopes; sort.Search; curves. No program in sight. -/
import Derived.Test.YtibidnaedddfdaaPureBits
namespace Go.Proofs.Ytibidnaedddfdaa
open Go.RowKit
set_option linter.unusedVariables false
set_option linter.unusedSimpArgs false

theorem Df.mk {α} (v : α) : Df (some v) := ⟨v, rfl⟩
theorem Df.bind {α β} {a : Option α} {f : α → Option β} (h : Df a) (k : ∀ v, a = some v → Df (f v)) : Df (Option.bind a f) := by
  obtain ⟨v, hv⟩ := h
  obtain ⟨u, hu⟩ := k v hv
  exact ⟨u, by rw [hv]; exact hu⟩
theorem Df.cond {α} {b : Bool} {x y : Option α} (h1 : b = true → Df x) (h2 : b = false → Df y) : Df (cond b x y) := by
  cases b
  · exact h2 rfl
  · exact h1 rfl
theorem cond_some {α} (b : Bool) (x y : α) : cond b (some x) (some y) = some (cond b x y) := by cases b <;> rfl
theorem ix_nat {α} {l : List α} {i : Nat} (h : i < l.length) : ix l (i : Int) = some l[i] := by simp [ix, h]
theorem Df.ix {α} {l : List α} {i : Int} (h0 : 0 ≤ i) (h : i < l.length) : Df (ix l i) := by
  obtain ⟨j, rfl⟩ : ∃ j : Nat, i = j := ⟨i.toNat, by omega⟩
  exact ⟨_, ix_nat (by omega)⟩
theorem w64_n {n : Int} (h0 : -9223372036854775808 ≤ n) (h1 : n ≤ 9223372036854775807) : w64 n = n := w64_in ⟨h0, h1⟩

theorem cntU {n : Int} : ∃ j, cntK (IntKind.u64.wrap n) = some j ∧ (j : Int) = IntKind.u64.wrap n := by
  have := (hasU.1 (has_wrap .u64 n)).1
  exact ⟨(IntKind.u64.wrap n).toNat, by unfold cntK; rw [if_neg (by omega)], by omega⟩
theorem quo_df {k : IntKind} {x y : Int} (h : y ≠ 0) : Df (quoK k x y) := ⟨_, by unfold quoK; rw [if_neg h]⟩
theorem rem_df {x y : Int} (h : y ≠ 0) : Df (remK x y) := ⟨_, by unfold remK; rw [if_neg h]⟩
theorem div_l1 (N : Nat) (lo y : Int) (j14 j17 : Nat) (kj : Int → Option (Int × Int)) (hk : ∀ v, Df (kj v)) : ∀ (n : Nat) (q r : Int), IntKind.u64.has q → q.toNat < n → Df (f_math_bits_Div64_l1 N lo y j14 j17 kj n q r)
  | 0, q, r, h, hn => by omega
  | n + 1, q, r, h, hn => by
    have hh := hasU.1 h
    unfold f_math_bits_Div64_l1
    refine Df.cond (fun hc => ?_) fun _ => hk _
    have h0 : q ≠ 0 := by
      rintro rfl
      have := (hasU.1 (has_wrap .u64 (IntKind.u64.wrap (4294967296 * r) + shrK .u64 (shlK .u64 lo j17) 32))).1
      simp [wrapU] at hc this
      omega
    have e : IntKind.u64.wrap (q - 1) = q - 1 := wrapU_has (hasU.2 (by omega))
    refine Df.cond (fun _ => hk _) fun _ => ?_
    exact div_l1 N lo y j14 j17 kj hk n _ _ (has_wrap _ _) (by rw [e]; omega)
theorem div_l3 (N : Nat) (lo y : Int) (j14 j17 : Nat) (kj : Int → Option (Int × Int)) (hk : ∀ v, Df (kj v)) : ∀ (n : Nat) (r q : Int), IntKind.u64.has q → q.toNat < n → Df (f_math_bits_Div64_l3 N lo y j14 j17 kj n r q)
  | 0, r, q, h, hn => by omega
  | n + 1, r, q, h, hn => by
    have hh := hasU.1 h
    unfold f_math_bits_Div64_l3
    refine Df.cond (fun hc => ?_) fun _ => hk _
    have h0 : q ≠ 0 := by
      rintro rfl
      have := (hasU.1 (has_wrap .u64 (IntKind.u64.wrap (4294967296 * r) + bitK .and .u64 (shlK .u64 lo j17) 4294967295))).1
      simp [wrapU] at hc this
      omega
    have e : IntKind.u64.wrap (q - 1) = q - 1 := wrapU_has (hasU.2 (by omega))
    refine Df.cond (fun _ => hk _) fun _ => ?_
    exact div_l3 N lo y j14 j17 kj hk n _ _ (has_wrap _ _) (by rw [e]; omega)
/-- the fuel -/
def BN : Nat := 36893488147419103232
theorem BN_gt : 18446744073709551616 < BN := by decide
theorem norm_ne {yn s : Nat} (hs : s ≤ 63) (e3 : 9223372036854775808 ≤ yn * 2 ^ s) (e4 : yn * 2 ^ s < 18446744073709551616) : shrK .u64 (shlK .u64 (yn : Int) s) 32 ≠ 0 := by
  have e9 : shlK .u64 (yn : Int) s = ((yn * 2 ^ s : Nat) : Int) := by
    unfold shlK
    have hm : min s IntKind.u64.bits = s := by simp [IntKind.bits]; omega
    have hp : ((yn : Int) * 2 ^ s) = ((yn * 2 ^ s : Nat) : Int) := by simp
    rw [hm, hp]
    exact wrapUN _ e4
  rw [e9, shr32N]
  generalize yn * 2 ^ s = t at e3 e4
  omega
theorem div_j2 (N : Nat) (hi lo y y8 : Int) (j14 j15 j16 j17 : Nat) (q v : Int) : Df (f_math_bits_Div64_j2 N hi lo y y8 j14 j15 j16 j17 q v) := by
  unfold f_math_bits_Div64_j2
  obtain ⟨j, hj, _⟩ := cntU (n := y8)
  rw [hj]
  exact Df.mk _
theorem div_j0 {N : Nat} (hN : 18446744073709551616 < N) (hi lo y y8 : Int) (j14 j15 j16 j17 : Nat) (q : Int) (hd : shrK .u64 (shlK .u64 y j14) 32 ≠ 0) : Df (f_math_bits_Div64_j0 N hi lo y y8 j14 j15 j16 j17 q) := by
  unfold f_math_bits_Div64_j0
  refine Df.bind (quo_df hd) fun z41 hz41 => ?_
  have hz41h := quoK_has hz41
  have hlt := (hasU.1 hz41h)
  exact div_l3 N lo y j14 j17 _ (fun v => div_j2 _ _ _ _ _ _ _ _ _ _ _) N _ z41 hz41h (by omega)
theorem div64_df {N : Nat} (hN : 18446744073709551616 < N) {hi lo y : Int} (h1 : IntKind.u64.has hi) (h2 : IntKind.u64.has lo) (h3 : IntKind.u64.has y) (h : hi < y) : Df (f_math_bits_Div64 N hi lo y) := by
  have g1 := hasU.1 h1
  have hy0 : y ≠ 0 := by omega
  have hyh : ¬ y ≤ hi := by omega
  unfold f_math_bits_Div64
  refine Df.cond (fun hc => absurd (of_decide_eq_true hc) hy0) fun _ => Df.cond (fun hc => absurd (of_decide_eq_true hc) hyh) fun _ => Df.cond (fun _ => ?_) fun _ => ?_
  · exact Df.bind (quo_df hy0) fun _ _ => Df.bind (rem_df hy0) fun _ _ => Df.mk _
  · obtain ⟨yn, ey, hy⟩ := hasU_nat h3
    obtain ⟨s, e1, e2, e3, e4⟩ := lz_eq N (show 0 < yn by omega) hy
    have hd : ∀ j : Nat, (j : Int) = IntKind.u64.wrap (s : Int) → shrK .u64 (shlK .u64 y j) 32 ≠ 0 := fun j hj => by
      rw [wrapUN s (by omega)] at hj
      have : j = s := by omega
      rw [this, ey]
      exact norm_ne e2 e3 e4
    rw [ey, e1]
    rw [← ey]
    refine Df.bind (Df.mk _) fun y8 hy8 => ?_
    have hy8' : y8 = (s : Int) := (Option.some.inj hy8).symm
    obtain ⟨j14, e5, e6⟩ := cntU (n := y8)
    obtain ⟨j16, e8, _⟩ := cntU (n := (64 - IntKind.u64.wrap y8))
    have hd' := hd j14 (by rw [e6, hy8'])
    rw [e5, e8]
    refine Df.bind (Df.mk _) fun a ha => Df.bind (Df.mk _) fun b hb => Df.bind (Df.mk _) fun c hc => Df.bind (Df.mk _) fun d hd2 => ?_
    have ea := Option.some.inj ha
    rw [← ea]
    refine Df.bind (quo_df hd') fun z18 hz => ?_
    have hzh := quoK_has hz
    have hlt := hasU.1 hzh
    exact div_l1 N lo y j14 d _ (fun v => div_j0 hN _ _ _ _ _ _ _ _ _ hd') N z18 _ hzh (by omega)
theorem scale_df {N : Nat} (hN : 18446744073709551616 < N) (a num den : Int) : Df (f_exact_Scale N a num den) := by
  unfold f_exact_Scale
  refine Df.cond (fun _ => Df.mk _) fun hc => ?_
  simp only [Bool.or_eq_false_iff, decide_eq_false_iff_not] at hc
  obtain ⟨⟨⟨⟨⟨c1, c2⟩, c3⟩, c4⟩, c5⟩, c6⟩ := hc
  obtain ⟨an, ea⟩ : ∃ n : Nat, a = n := ⟨a.toNat, by omega⟩
  obtain ⟨bn, eb⟩ : ∃ n : Nat, num = n := ⟨num.toNat, by omega⟩
  subst ea; subst eb
  rw [wrapUN an (by omega), wrapUN bn (by omega), mul64_eq N an bn (by omega) (by omega)]
  simp only [Option.bind_some]
  have hd : IntKind.u64.wrap den = den := wrapU_has (hasU.2 (by omega))
  rw [hd]
  refine Df.cond (fun _ => Df.mk _) fun hc => ?_
  simp only [decide_eq_false_iff_not] at hc
  have hlt : an * bn < 18446744073709551616 * 18446744073709551616 := Nat.mul_lt_mul'' (by omega) (by omega)
  refine Df.bind (div64_df hN (hasU.2 ⟨by omega, by omega⟩) (hasU.2 ⟨by omega, by omega⟩) (hasU.2 (by omega)) (by omega)) fun v _ => ?_
  exact Df.cond (fun _ => Df.mk _) fun _ => Df.mk _
theorem slope_df {N : Nat} (hN : 18446744073709551616 < N) {num den : Int} (h0 : 0 ≤ num) (h1 : 0 ≤ den) (h2 : den ≤ 9223372036854775807) : Df (f_basin_slope N num den) := by
  unfold f_basin_slope
  refine Df.cond (fun _ => Df.mk _) fun hc => ?_
  simp only [decide_eq_false_iff_not] at hc
  refine Df.cond (fun _ => Df.mk _) fun hc2 => ?_
  simp only [decide_eq_false_iff_not] at hc2
  obtain ⟨an, ea⟩ : ∃ n : Nat, num = n := ⟨num.toNat, by omega⟩
  obtain ⟨dn, ed⟩ : ∃ n : Nat, den = n := ⟨den.toNat, by omega⟩
  subst ea; subst ed
  rw [wrapUN an (by omega), wrapUN dn (by omega), show (1099511627776 : Int) = ((1099511627776 : Nat) : Int) from rfl, mul64_eq N an 1099511627776 (by omega) (by omega)]
  simp only [Option.bind_some]
  refine Df.bind (div64_df hN (hasU.2 ⟨by omega, by omega⟩) (hasU.2 ⟨by omega, by omega⟩) (hasU.2 (by omega)) (by omega)) fun v _ => ?_
  exact Df.cond (fun _ => Df.mk _) fun _ => Df.mk _

/-! ### sort.Search -/
theorem mid_eq {i j : Nat} (h : i + j < 9223372036854775808) : w64 (shrK .u64 (IntKind.u64.wrap (w64 ((i : Int) + (j : Int)))) 1) = (((i + j) / 2 : Nat) : Int) := by
  have e1 : w64 ((i : Int) + (j : Int)) = ((i + j : Nat) : Int) := by rw [w64_n (by omega) (by omega)]; rfl
  rw [e1, wrapUN _ (by omega), shrN _ 1 (by omega), w64_n (by omega) (by omega)]
theorem search_l1 {N : Nat} (f : Int → Option Bool) (L : Nat) (hL : L < 4611686018427387904) (hf : ∀ i : Nat, i < L → Df (f i)) (kj : Int → Option Int) : ∀ (n i j : Nat), i ≤ j → j ≤ L → j - i < n → (0 < i → f ((i - 1 : Nat) : Int) = some false) → (j < L → f (j : Int) = some true) →
    ∃ r : Nat, f_sort_Search_l1 N f kj n (i : Int) (j : Int) = kj (r : Int) ∧ r ≤ L ∧ (0 < r → f ((r - 1 : Nat) : Int) = some false) ∧ (r < L → f (r : Int) = some true)
  | 0, i, j, _, _, h, _, _ => by omega
  | n + 1, i, j, h1, h2, h3, h4, h5 => by
    unfold f_sort_Search_l1
    by_cases hij : i < j
    · rw [show decide ((i : Int) < (j : Int)) = true by simp; omega, cond_true, mid_eq (by omega)]
      obtain ⟨v, hv⟩ := hf ((i + j) / 2) (by omega)
      rw [hv]
      simp only [Option.bind_some]
      cases v
      · simp only [Bool.not_false, cond_true]
        have e : w64 ((((i + j) / 2 : Nat) : Int) + 1) = (((i + j) / 2 + 1 : Nat) : Int) := by rw [w64_n (by omega) (by omega)]; rfl
        rw [e]
        exact search_l1 f L hL hf kj n _ j (by omega) h2 (by omega) (fun _ => by rw [Nat.add_sub_cancel]; exact hv) h5
      · simp only [Bool.not_true, cond_false]
        exact search_l1 f L hL hf kj n i _ (by omega) (by omega) (by omega) h4 (fun _ => hv)
    · have e : i = j := by omega
      subst e
      rw [show decide ((i : Int) < (i : Int)) = false by simp, cond_false]
      exact ⟨i, rfl, h2, h4, h5⟩
theorem search_eq {N : Nat} (f : Int → Option Bool) (L : Nat) (hL : L < 4611686018427387904) (hN : L < N) (hf : ∀ i : Nat, i < L → Df (f i)) : ∃ r : Nat, f_sort_Search N (L : Int) f = some (r : Int) ∧ r ≤ L ∧ (0 < r → f ((r - 1 : Nat) : Int) = some false) ∧ (r < L → f (r : Int) = some true) := by
  obtain ⟨r, h1, h2⟩ := search_l1 (N := N) f L hL hf (f_sort_Search_j0 N) N 0 L (Nat.zero_le _) (Nat.le_refl _) (by omega) (fun h => absurd h (by omega)) (fun h => absurd h (by omega))
  exact ⟨r, h1, h2⟩

/-! ### curves -/
def volI (n : Int) : Prop := 0 ≤ n ∧ n ≤ 1125899906842624
def CurveOK (c : List GPoint) : Prop := 1 ≤ c.length ∧ c.length ≤ 32 ∧ ∀ (k : Nat) p, c[k]? = some p → volI p.X ∧ volI p.Y ∧ ∀ q, 0 < k → c[k - 1]? = some q → q.X < p.X ∧ q.Y ≤ p.Y
theorem curve_l1 {N : Nat} (c : List GPoint) (hl : c.length ≤ 32) : ∀ (n k : Nat), c.length < n + k → k ≤ c.length → ∃ v, f_curve_Right_l1 N c (f_curve_Right_j0 N) n (k : Int) = some v ∧ (v = true → ∀ (i : Nat) p, k ≤ i → c[i]? = some p → volI p.X ∧ volI p.Y ∧ ∀ q, 0 < i → c[i - 1]? = some q → q.X < p.X ∧ q.Y ≤ p.Y)
  | 0, k, h, hk => by omega
  | n + 1, k, h, hk => by
    unfold f_curve_Right_l1
    by_cases hc : k < c.length
    · rw [show decide ((k : Int) < (c.length : Int)) = true by simp; omega, cond_true, ix_nat hc]
      simp only [Option.bind_some]
      cases hb : (decide ((c[k]).X < 0) || decide (1125899906842624 < (c[k]).X) || decide ((c[k]).Y < 0) || decide (1125899906842624 < (c[k]).Y))
      · simp only [cond_false]
        simp only [Bool.or_eq_false_iff, decide_eq_false_iff_not] at hb
        obtain ⟨v, hv, hp⟩ := curve_l1 (N := N) c hl n (k + 1) (by omega) (by omega)
        have ek : w64 ((k : Int) + 1) = ((k + 1 : Nat) : Int) := by rw [w64_n (by omega) (by omega)]; rfl
        rw [ek, hv]
        by_cases h0 : 0 < k
        · have e1 : w64 ((k : Int) - 1) = ((k - 1 : Nat) : Int) := by rw [w64_n (by omega) (by omega)]; omega
          rw [show decide ((0 : Int) < (k : Int)) = true by simp; omega, e1, ix_nat (show k - 1 < c.length by omega)]
          simp only [cond_true, Option.bind_some, cond_some]
          cases hb2 : cond (decide ((c[k]).X ≤ (c[k - 1]).X)) true (decide ((c[k]).Y < (c[k - 1]).Y))
          · simp only [cond_false]
            refine ⟨v, rfl, fun hvt i p hi hip => ?_⟩
            by_cases e : i = k
            · subst e
              have : p = c[i] := by simpa [hc] using hip.symm
              subst this
              refine ⟨⟨by omega, by omega⟩, ⟨by omega, by omega⟩, fun q _ hq => ?_⟩
              have : q = c[i - 1] := by simpa [show i - 1 < c.length by omega] using hq.symm
              subst this
              cases h7 : decide ((c[i]).X ≤ (c[i - 1]).X) with
              | true => rw [h7] at hb2; simp at hb2
              | false =>
                rw [h7] at hb2
                simp only [cond_false, decide_eq_false_iff_not] at hb2 h7
                omega
            · exact hp hvt i p (by omega) hip
          · exact ⟨false, rfl, fun h => by cases h⟩
        · have e0 : k = 0 := by omega
          subst e0
          rw [show decide ((0 : Int) < ((0 : Nat) : Int)) = false by simp]
          simp only [cond_false, Option.bind_some]
          refine ⟨v, rfl, fun hvt i p hi hip => ?_⟩
          by_cases e : i = 0
          · subst e
            have : p = c[0] := by simpa [hc] using hip.symm
            subst this
            exact ⟨⟨by omega, by omega⟩, ⟨by omega, by omega⟩, fun q h _ => absurd h (by omega)⟩
          · exact hp hvt i p (by omega) hip
      · exact ⟨false, rfl, fun h => by cases h⟩
    · rw [show decide ((k : Int) < (c.length : Int)) = false by simp; omega, cond_false]
      refine ⟨true, rfl, fun _ i p hi hip => ?_⟩
      have := (List.getElem?_eq_some_iff.1 hip).1
      omega
theorem curve_right {N : Nat} (hN : 33 < N) (c : List GPoint) : ∃ v, f_curve_Right N c = some v ∧ (v = true → CurveOK c) := by
  unfold f_curve_Right
  cases hb : (decide ((c.length : Int) < 1) || decide (32 < (c.length : Int)))
  · simp only [Bool.or_eq_false_iff, decide_eq_false_iff_not] at hb
    obtain ⟨v, h1, h2⟩ := curve_l1 (N := N) c (by omega) N 0 (by omega) (by omega)
    exact ⟨v, h1, fun hv => ⟨by omega, by omega, fun k p hk => h2 hv k p (by omega) hk⟩⟩
  · exact ⟨false, rfl, fun h => by cases h⟩
theorem value_df {N : Nat} (hN : 18446744073709551616 < N) {c : List GPoint} (h1 : 1 ≤ c.length) (h2 : c.length ≤ 32) (x : Int) : Df (f_curve_value N c x) := by
  unfold f_curve_value
  obtain ⟨r, e1, e2, _⟩ := search_eq (N := N) (fun y => f_curve_value_1 N c x y) c.length (by omega) (by omega) fun i hi => by
    unfold f_curve_value_1
    rw [ix_nat hi]; exact Df.mk _
  rw [e1]
  simp only [Option.bind_some]
  refine Df.cond (fun _ => Df.bind (Df.ix (by omega) (by omega)) fun _ _ => Df.mk _) fun hc => ?_
  simp only [decide_eq_false_iff_not] at hc
  have e3 : w64 ((r : Int) - 1) = ((r - 1 : Nat) : Int) := by rw [w64_n (by omega) (by omega)]; omega
  rw [e3]
  refine Df.bind (Df.ix (by omega) (by omega)) fun _ _ => Df.cond (fun _ => Df.mk _) fun hc2 => ?_
  simp only [decide_eq_false_iff_not] at hc2
  exact Df.bind (Df.ix (by omega) (by omega)) fun _ _ => Df.bind (Df.ix (by omega) (by omega)) fun _ _ => Df.bind (scale_df hN _ _ _) fun _ _ => Df.mk _
theorem least_df {N : Nat} (hN : 18446744073709551616 < N) (c : List GPoint) (y : Int) : Df (f_curve_Least N c y) := by
  unfold f_curve_Least
  obtain ⟨v, e1, e2⟩ := curve_right (N := N) (by omega) c
  rw [e1]
  simp only [Option.bind_some]
  cases v
  · simp only [Bool.not_false, cond_true, Option.bind_some]; exact Df.mk _
  · obtain ⟨g1, g2, _⟩ := e2 rfl
    have e3 : w64 ((c.length : Int) - 1) = ((c.length - 1 : Nat) : Int) := by rw [w64_n (by omega) (by omega)]; omega
    rw [e3, ix_nat (show c.length - 1 < c.length by omega)]
    simp only [Bool.not_true, cond_false, Option.bind_some]
    refine Df.cond (fun _ => Df.mk _) fun hc => ?_
    simp only [decide_eq_false_iff_not] at hc
    obtain ⟨r, q1, q2, q3, _⟩ := search_eq (N := N) (fun x => f_curve_Least_1 N c y x) c.length (by omega) (by omega) fun i hi => by
      unfold f_curve_Least_1
      rw [ix_nat hi]; exact Df.mk _
    rw [q1]
    simp only [Option.bind_some]
    refine Df.cond (fun _ => Df.mk _) fun hr => ?_
    simp only [decide_eq_false_iff_not] at hr
    have hrl : r < c.length := by
      rcases Nat.lt_or_eq_of_le q2 with h | h
      · exact h
      · have := q3 (by omega)
        subst h
        unfold f_curve_Least_1 at this
        rw [ix_nat (show c.length - 1 < c.length by omega)] at this
        simp at this
        omega
    have e4 : w64 ((r : Int) - 1) = ((r - 1 : Nat) : Int) := by rw [w64_n (by omega) (by omega)]; omega
    rw [e4]
    exact Df.bind (Df.ix (by omega) (by omega)) fun _ _ => Df.bind (Df.ix (by omega) (by omega)) fun _ _ => Df.bind (Df.ix (by omega) (by omega)) fun _ _ => Df.bind (scale_df hN _ _ _) fun _ _ => Df.cond (fun _ => Df.mk _) fun _ => Df.mk _
end Go.Proofs.Ytibidnaedddfdaa
