/- The plain law: basin.Right always answers, second part. No program in sight. -/
import Derived.Test.YtibidnaedddfdaaPureRight
namespace Go.Proofs.Ytibidnaedddfdaa
open Go.RowKit
set_option linter.unusedVariables false
set_option linter.unusedSimpArgs false

/-! ### places -/
structure PlaceOK (b : GBasin) (p : GPlace) : Prop where
  lev : CurveOK p.Level
  num : volI p.Num
  den : volI p.Den
  down : p.Down = -1 ∨ (0 ≤ p.Down ∧ p.Down < b.Places.length)
  cap : volI p.Cap
  delay : 0 ≤ p.Delay ∧ p.Delay ≤ 240
theorem start_l4 {N : Nat} (p : GPlace) (kj : Int → Option Bool) (hl : p.Start.length ≤ 16) : ∀ (n : Nat) (s : Int) (k : Nat), p.Start.length < n + k → k ≤ p.Start.length → f_basin_rightPlaces_l4 N p kj n s (k : Int) = some false ∨ ∃ s', f_basin_rightPlaces_l4 N p kj n s (k : Int) = kj s'
  | 0, s, k, h, hk => by omega
  | n + 1, s, k, h, hk => by
    simp only [f_basin_rightPlaces_l4]
    rcases Nat.lt_or_ge k p.Start.length with hc | hc
    · rw [lt_t hc, cond_true, ix_nat hc]
      simp only [Option.bind_some, vol_eq, w64_succ (show k < 4611686018427387904 by omega)]
      cases volB p.Start[k]
      · exact .inl rfl
      · exact start_l4 (N := N) p kj hl n _ (k + 1) (by omega) (by omega)
    · rw [lt_f hc]; exact .inr ⟨s, rfl⟩
theorem rain_l5 {N : Nat} (b : GBasin) (p : GPlace) (i109 : Int) (kj : Int → Option Bool) (hc : 0 ≤ b.Cells ∧ b.Cells ≤ 64) : ∀ (n : Nat) (s : Int) (k : Nat), -1 ≤ s → s ≤ 64 → 65 < n + s → k < 100 → (k : Int) ≤ s + 1 → f_basin_rightPlaces_l5 N b p i109 kj n s (k : Int) = some false ∨ f_basin_rightPlaces_l5 N b p i109 kj n s (k : Int) = kj i109
  | 0, s, k, h1, h2, h3, h4, h5 => by omega
  | n + 1, s, k, h1, h2, h3, h4, h5 => by
    simp only [f_basin_rightPlaces_l5]
    rcases Nat.lt_or_ge k p.Rain.length with hk | hk
    · rw [lt_t hk, cond_true, ix_nat hk]
      simp only [Option.bind_some, vol_eq, cond_some, cond_t, w64_succ (show k < 4611686018427387904 by omega)]
      cases hB : (decide ((p.Rain[k]).Index ≤ s) || decide (b.Cells ≤ (p.Rain[k]).Index) || !volB (p.Rain[k]).Area)
      · simp only [Bool.or_eq_false_iff, decide_eq_false_iff_not] at hB
        obtain ⟨⟨g1, g2⟩, g3⟩ := hB
        exact rain_l5 (N := N) b p i109 kj hc n _ (k + 1) (by omega) (by omega) (by omega) (by omega) (by omega)
      · exact .inl rfl
    · rw [lt_f hk]; exact .inr rfl
theorem places_l1 {N : Nat} (hN : 1000 < N) (b : GBasin) (hb : HeadOK b) : ∀ (n : Nat) (s : Int) (k : Nat), b.Places.length < n + k → k ≤ b.Places.length → ∃ v, f_basin_rightPlaces_l1 N b (f_basin_rightPlaces_j0 N) n s (k : Int) = some v ∧ (v = true → ∀ (i : Nat) p, k ≤ i → b.Places[i]? = some p → PlaceOK b p)
  | 0, s, k, h, hk => by omega
  | n + 1, s, k, h, hk => by
    have q3 := hb.pl
    simp only [f_basin_rightPlaces_l1]
    rcases Nat.lt_or_ge k b.Places.length with hc | hc
    · rw [lt_t hc, cond_true, ix_nat hc]
      obtain ⟨cv, hcv, hcp⟩ := curve_right (N := N) (by omega) (b.Places[k]).Level
      simp only [Option.bind_some, in_eq, vol_eq, frac_eq, hcv, target_eq N b _ _ (show b.Places.length < 4611686018427387904 by omega), cond_some, cond_t]
      generalize hB : (_ || !targB b.Places.length (k : Int) (b.Places[k]).Down) = B
      cases B
      · simp only [Bool.or_eq_false_iff, decide_eq_false_iff_not, Bool.not_eq_false'] at hB
        obtain ⟨⟨⟨⟨⟨⟨⟨⟨h1, h2⟩, h3⟩, h4⟩, h5⟩, h6⟩, h7⟩, h8⟩, h9⟩ := hB
        have hst : (b.Places[k]).Start.length = b.Owners.length := by
          have : ((b.Places[k]).Start.length : Int) = (b.Owners.length : Int) := by simpa using h7
          omega
        have hP : PlaceOK b b.Places[k] := ⟨hcp h6, (fracB_I h8).1, (fracB_I h8).2, targB_I h9, volB_I h4, inB_I h3⟩
        simp only [cond_false]
        rcases start_l4 (N := N) b.Places[k] (f_basin_rightPlaces_j3 N b b.Places[k] (f_basin_rightPlaces_j2 N (k : Int) (f_basin_rightPlaces_l1 N b (f_basin_rightPlaces_j0 N) n))) (by have := hb.own; omega) N s 0 (by have := hb.own; omega) (Nat.zero_le _) with e | ⟨s', e⟩
        · exact ⟨false, e, fun h => by cases h⟩
        · have e0 : f_basin_rightPlaces_l4 N b.Places[k] (f_basin_rightPlaces_j3 N b b.Places[k] (f_basin_rightPlaces_j2 N (k : Int) (f_basin_rightPlaces_l1 N b (f_basin_rightPlaces_j0 N) n))) N s 0 = _ := e
          rw [e0]
          unfold f_basin_rightPlaces_j3
          rcases rain_l5 (N := N) b b.Places[k] s' (f_basin_rightPlaces_j2 N (k : Int) (f_basin_rightPlaces_l1 N b (f_basin_rightPlaces_j0 N) n)) hb.cells N (-1) 0 (by omega) (by omega) (by omega) (by omega) (by omega) with e | e
          · exact ⟨false, e, fun h => by cases h⟩
          · have e1 : f_basin_rightPlaces_l5 N b b.Places[k] s' (f_basin_rightPlaces_j2 N (k : Int) (f_basin_rightPlaces_l1 N b (f_basin_rightPlaces_j0 N) n)) N (-1) 0 = _ := e
            rw [e1]
            unfold f_basin_rightPlaces_j2
            rw [w64_succ (show k < 4611686018427387904 by omega)]
            obtain ⟨v, g1, g2⟩ := places_l1 hN b hb n s' (k + 1) (by omega) (by omega)
            refine ⟨v, g1, fun hv i p hi hp => ?_⟩
            by_cases ei : i = k
            · subst ei
              have : p = b.Places[i] := by simpa [hc] using hp.symm
              rw [this]; exact hP
            · exact g2 hv i p (by omega) hp
      · exact ⟨false, rfl, fun h => by cases h⟩
    · rw [lt_f hc]
      refine ⟨_, rfl, fun _ i p hi hp => ?_⟩
      have := (List.getElem?_eq_some_iff.1 hp).1
      omega
theorem places_eq {N : Nat} (hN : 1000 < N) (b : GBasin) (hb : HeadOK b) : ∃ v, f_basin_rightPlaces N b = some v ∧ (v = true → ∀ p ∈ b.Places, PlaceOK b p) := by
  obtain ⟨v, h1, h2⟩ := places_l1 hN b hb N 0 0 (by have := hb.pl; omega) (Nat.zero_le _)
  refine ⟨v, h1, fun hv p hp => ?_⟩
  obtain ⟨i, hi, rfl⟩ := List.mem_iff_getElem.1 hp
  exact h2 hv i _ (Nat.zero_le _) (by simp [hi])

/-! ### links -/
structure LinkOK (b : GBasin) (l : GLink) : Prop where
  kind : 0 ≤ l.Kind ∧ l.Kind ≤ 5
  fr : 0 ≤ l.From ∧ l.From < b.Places.length
  to : l.To = -1 ∨ (0 ≤ l.To ∧ l.To < b.Places.length)
  delay : 0 ≤ l.Delay ∧ l.Delay ≤ 240
  gate : l.Kind = 0 → CurveOK l.Rate ∧ CurveOK l.Band.Lo ∧ CurveOK l.Band.Hi ∧ volI l.BackNum ∧ volI l.BackDen
  part : l.Kind = 1 ∨ l.Kind = 5 ∨ l.Kind = 3 → volI l.Num ∧ 1 ≤ l.Den ∧ l.Den ≤ 1125899906842624
  seep : l.Kind = 4 → volI l.Num ∧ 1 ≤ l.Den ∧ l.Den ≤ 1125899906842624 ∧ volI l.BackNum ∧ volI l.BackDen ∧ l.To ≠ -1
theorem under_l3 {N : Nat} (hN : 18446744073709551616 < N) (a b : List GPoint) (ha : 1 ≤ a.length) (ha2 : a.length ≤ 32) (hb2 : b.length ≤ 32) : Df (f_curve_Under_j0 N a b) := by
  unfold f_curve_Under_j0
  rcases loop_df b.length (f_curve_Under_l3 N a b (f_curve_Under_j2 N)) (f_curve_Under_j2 N) (fun _ => True) (fun n k h => by
    simp only [f_curve_Under_l3]; rw [lt_f h]; rfl) (fun n k h => by
    simp only [f_curve_Under_l3]
    obtain ⟨v, hv⟩ := value_df hN ha ha2 (b[k]).X
    rw [lt_t h, cond_true, ix_nat h]
    simp only [Option.bind_some, hv, w64_succ (show k < 4611686018427387904 by omega)]
    cases (decide ((b[k]).Y < v.1) || decide (v.1 = (b[k]).Y) && v.2)
    · exact .inr ⟨trivial, rfl⟩
    · exact .inl rfl) N 0 (by omega) (Nat.zero_le _) with h | ⟨_, h⟩
  · exact ⟨_, h⟩
  · exact ⟨true, h⟩
theorem under_df {N : Nat} (hN : 18446744073709551616 < N) (a b : List GPoint) : Df (f_curve_Under N a b) := by
  unfold f_curve_Under
  obtain ⟨va, ea, pa⟩ := curve_right (N := N) (by omega) a
  obtain ⟨vb, eb, pb⟩ := curve_right (N := N) (by omega) b
  simp only [ea, eb, Option.bind_some, cond_some, cond_t]
  refine Df.cond (fun _ => Df.mk _) fun h => ?_
  simp only [Bool.or_eq_false_iff, Bool.not_eq_false'] at h
  obtain ⟨a1, a2, _⟩ := pa h.1
  obtain ⟨b1, b2, _⟩ := pb h.2
  rcases loop_df a.length (f_curve_Under_l1 N a b (f_curve_Under_j0 N a b)) (f_curve_Under_j0 N a b) (fun _ => True) (fun n k h => by
    simp only [f_curve_Under_l1]; rw [lt_f h]; rfl) (fun n k h => by
    simp only [f_curve_Under_l1]
    obtain ⟨v, hv⟩ := value_df hN b1 b2 (a[k]).X
    rw [lt_t h, cond_true, ix_nat h]
    simp only [Option.bind_some, hv, w64_succ (show k < 4611686018427387904 by omega)]
    cases decide (v.1 < (a[k]).Y)
    · exact .inr ⟨trivial, rfl⟩
    · exact .inl rfl) N 0 (by omega) (Nat.zero_le _) with h | ⟨_, h⟩
  · exact ⟨_, h⟩
  · obtain ⟨v, hv⟩ := under_l3 hN a b a1 a2 b2
    exact ⟨v, h.trans hv⟩
theorem fields_eq {N : Nat} (hN : 18446744073709551616 < N) (l : GLink) : ∃ v, f_basin_rightFields N l = some v ∧ (v = true →
    (l.Kind = 0 → CurveOK l.Rate ∧ CurveOK l.Band.Lo ∧ CurveOK l.Band.Hi ∧ volI l.BackNum ∧ volI l.BackDen) ∧ (l.Kind = 1 ∨ l.Kind = 5 ∨ l.Kind = 3 → volI l.Num ∧ 1 ≤ l.Den ∧ l.Den ≤ 1125899906842624) ∧
    (¬ (l.Kind = 0 ∨ l.Kind = 1 ∨ l.Kind = 5 ∨ l.Kind = 2 ∨ l.Kind = 3) → volI l.Num ∧ 1 ≤ l.Den ∧ l.Den ≤ 1125899906842624 ∧ volI l.BackNum ∧ volI l.BackDen ∧ l.To ≠ -1)) := by
  obtain ⟨v1, e1, p1⟩ := curve_right (N := N) (by omega) l.Rate
  obtain ⟨v2, e2, p2⟩ := curve_right (N := N) (by omega) l.Band.Lo
  obtain ⟨v3, e3, p3⟩ := curve_right (N := N) (by omega) l.Band.Hi
  obtain ⟨v4, e4⟩ := under_df hN l.Band.Lo l.Rate
  obtain ⟨v5, e5⟩ := under_df hN l.Rate l.Band.Hi
  unfold f_basin_rightFields
  by_cases k0 : l.Kind = 0
  · rw [show decide (l.Kind = 0) = true by simp [k0], cond_true]
    simp only [e1, e2, e3, e4, e5, in_eq, vol_eq, frac_eq, Option.bind_some, cond_some, cond_f]
    refine ⟨_, rfl, fun h => ?_⟩
    simp only [Bool.and_eq_true] at h
    obtain ⟨⟨⟨⟨⟨⟨⟨⟨⟨h1, h2⟩, h3⟩, h4⟩, h5⟩, h6⟩, h7⟩, h8⟩, h9⟩, h10⟩ := h
    exact ⟨fun _ => ⟨p1 h1, p2 h2, p3 h3, (fracB_I h9).1, (fracB_I h9).2⟩, fun h => by omega, fun h => absurd (.inl k0) h⟩
  · rw [show decide (l.Kind = 0) = false by simp [k0], cond_false]
    have hj : ∀ c : Bool, (c = true ↔ l.Kind = 1 ∨ l.Kind = 5) → ∃ v, f_basin_rightFields_j0 N l c = some v ∧ (v = true →
        (l.Kind = 0 → CurveOK l.Rate ∧ CurveOK l.Band.Lo ∧ CurveOK l.Band.Hi ∧ volI l.BackNum ∧ volI l.BackDen) ∧ (l.Kind = 1 ∨ l.Kind = 5 ∨ l.Kind = 3 → volI l.Num ∧ 1 ≤ l.Den ∧ l.Den ≤ 1125899906842624) ∧
        (¬ (l.Kind = 0 ∨ l.Kind = 1 ∨ l.Kind = 5 ∨ l.Kind = 2 ∨ l.Kind = 3) → volI l.Num ∧ 1 ≤ l.Den ∧ l.Den ≤ 1125899906842624 ∧ volI l.BackNum ∧ volI l.BackDen ∧ l.To ≠ -1)) := fun c hc => by
      unfold f_basin_rightFields_j0
      simp only [in_eq, vol_eq, frac_eq, Option.bind_some, cond_some, cond_f]
      cases c
      · have hn : ¬ (l.Kind = 1 ∨ l.Kind = 5) := fun h => by have := hc.2 h; cases this
        rw [cond_false]
        by_cases k2 : l.Kind = 2
        · rw [show decide (l.Kind = 2) = true by simp [k2], cond_true]
          exact ⟨_, rfl, fun _ => ⟨fun h => absurd h k0, fun h => by omega, fun h => absurd (.inr (.inr (.inr (.inl k2)))) h⟩⟩
        · rw [show decide (l.Kind = 2) = false by simp [k2], cond_false]
          by_cases k3 : l.Kind = 3
          · rw [show decide (l.Kind = 3) = true by simp [k3], cond_true]
            refine ⟨_, rfl, fun h => ?_⟩
            simp only [Bool.and_eq_true] at h
            obtain ⟨⟨⟨⟨h1, h2⟩, h3⟩, h4⟩, h5⟩ := h
            exact ⟨fun h => absurd h k0, fun _ => ⟨volB_I h1, inB_I h2⟩, fun h => absurd (.inr (.inr (.inr (.inr k3)))) h⟩
          · rw [show decide (l.Kind = 3) = false by simp [k3], cond_false]
            refine ⟨_, rfl, fun h => ?_⟩
            simp only [Bool.and_eq_true, decide_eq_true_eq] at h
            obtain ⟨⟨⟨h1, h2⟩, h3⟩, h4⟩ := h
            exact ⟨fun h => absurd h k0, fun h => by omega, fun _ => ⟨volB_I h1, (inB_I h2).1, (inB_I h2).2, (fracB_I h3).1, (fracB_I h3).2, h4⟩⟩
      · have hy := hc.1 rfl
        rw [cond_true]
        refine ⟨_, rfl, fun h => ?_⟩
        simp only [Bool.and_eq_true] at h
        obtain ⟨⟨h1, h2⟩, h3⟩ := h
        exact ⟨fun h => absurd h k0, fun _ => ⟨volB_I h2, inB_I h3⟩, fun h => by omega⟩
    by_cases k1 : l.Kind = 1
    · rw [show decide (l.Kind = 1) = true by simp [k1], cond_true]
      exact hj true (by simp [k1])
    · rw [show decide (l.Kind = 1) = false by simp [k1], cond_false]
      exact hj _ (by simp [k1])
theorem unused_df (N : Nat) (l : GLink) : Df (f_basin_rightUnused N l) := by
  unfold f_basin_rightUnused
  exact Df.cond (fun _ => Df.mk _) fun _ => Df.cond (fun _ => Df.mk _) fun _ => Df.cond (fun _ => Df.mk _) fun _ => Df.cond (fun _ => Df.mk _) fun _ => Df.cond (fun _ => Df.mk _) fun _ => Df.mk _
theorem links_eq {N : Nat} (hN : 18446744073709551616 < N) (b : GBasin) (hb : HeadOK b) : ∃ v, f_basin_rightLinks N b = some v ∧ (v = true → ∀ l ∈ b.Links, LinkOK b l) := by
  have q3 := hb.pl
  have q4 := hb.li
  unfold f_basin_rightLinks
  rcases loop_df b.Links.length (f_basin_rightLinks_l1 N b (f_basin_rightLinks_j0 N)) (f_basin_rightLinks_j0 N) (fun i => ∀ l, b.Links[i]? = some l → LinkOK b l) (fun n k h => by
    simp only [f_basin_rightLinks_l1]; rw [lt_f h]; rfl) (fun n k h => by
    simp only [f_basin_rightLinks_l1]
    obtain ⟨vf, ef, pf⟩ := fields_eq hN b.Links[k]
    obtain ⟨vu, eu⟩ := unused_df N b.Links[k]
    rw [lt_t h, cond_true, ix_nat h]
    simp only [Option.bind_some, in_eq, index_eq N _ (show b.Places.length < 4611686018427387904 by omega), target_eq N b _ _ (show b.Places.length < 4611686018427387904 by omega), ef, eu, cond_some, cond_t, w64_succ (show k < 4611686018427387904 by omega)]
    generalize hB : (_ || !vu) = B
    cases B
    · simp only [Bool.or_eq_false_iff, Bool.not_eq_false'] at hB
      obtain ⟨⟨⟨⟨⟨h1, h2⟩, h3⟩, h4⟩, h5⟩, h6⟩ := hB
      have i1 := inB_I h1
      have i2 := inB_I h2
      obtain ⟨f1, f2, f3⟩ := pf h5
      refine .inr ⟨fun l hl => ?_, rfl⟩
      have : l = b.Links[k] := by simpa [h] using hl.symm
      rw [this]
      exact ⟨i1, ⟨i2.1, by omega⟩, targB_I h3, inB_I h4, f1, f2, fun h4 => f3 (by omega)⟩
    · exact .inl rfl) N 0 (by omega) (Nat.zero_le _) with h | ⟨hp, h⟩
  · exact ⟨false, h, fun h => by cases h⟩
  · refine ⟨true, h, fun _ l hl => ?_⟩
    obtain ⟨i, hi, rfl⟩ := List.mem_iff_getElem.1 hl
    exact hp i (Nat.zero_le _) hi _ (by simp [hi])

/-! ### offices -/
theorem next_df (N : Nat) (b : GBasin) (o to : Int) (h : to = -1 ∨ (0 ≤ to ∧ to < b.Places.length)) : Df (f_basin_next N b o to) := by
  unfold f_basin_next
  refine Df.cond (fun _ => Df.mk _) fun hc => ?_
  simp only [decide_eq_false_iff_not] at hc
  exact Df.bind (Df.ix (by omega) (by omega)) fun _ _ => Df.mk _
theorem offices_df {N : Nat} (hN : 1000 < N) (b : GBasin) (hb : HeadOK b) (hp : ∀ p ∈ b.Places, PlaceOK b p) (hl : ∀ l ∈ b.Links, LinkOK b l) : Df (f_basin_rightOffices N b) := by
  have q3 := hb.pl
  have q4 := hb.li
  have hj : Df (f_basin_rightOffices_j0 N b) := by
    unfold f_basin_rightOffices_j0
    rcases loop_df b.Links.length (f_basin_rightOffices_l3 N b (f_basin_rightOffices_j2 N)) (f_basin_rightOffices_j2 N) (fun _ => True) (fun n k h => by
      simp only [f_basin_rightOffices_l3]; rw [lt_f h]; rfl) (fun n k h => by
      simp only [f_basin_rightOffices_l3]
      have ok := hl b.Links[k] (List.getElem_mem h)
      obtain ⟨x, hx⟩ := Df.ix (l := b.Places) ok.fr.1 ok.fr.2
      obtain ⟨v, hv⟩ := next_df N b x.Office (b.Links[k]).To ok.to
      rw [lt_t h, cond_true, ix_nat h]
      simp only [Option.bind_some, hx, hv, w64_succ (show k < 4611686018427387904 by omega)]
      have hz : ∃ z, (cond (!v) (some true) (Option.bind (cond (decide ((b.Links[k]).Kind = 4)) (Option.bind (ix b.Places (b.Links[k]).To) fun x140 => some (decide (x140.Office ≠ x.Office))) (some false)) fun b135 => some b135)) = some z := by
        refine Df.cond (fun _ => Df.mk _) fun _ => Df.bind (Df.cond (fun h4 => ?_) fun _ => Df.mk _) fun _ _ => Df.mk _
        have h4' : (b.Links[k]).Kind = 4 := by simpa using h4
        have := (ok.seep h4').2.2.2.2.2
        have := ok.to
        exact Df.bind (Df.ix (by omega) (by omega)) fun _ _ => Df.mk _
      obtain ⟨z, hz⟩ := hz
      rw [hz]
      simp only [Option.bind_some]
      cases z
      · exact .inr ⟨trivial, rfl⟩
      · exact .inl rfl) N 0 (by omega) (Nat.zero_le _) with h | ⟨_, h⟩
    · exact ⟨_, h⟩
    · exact ⟨true, h⟩
  unfold f_basin_rightOffices
  rcases loop_df b.Places.length (f_basin_rightOffices_l1 N b (f_basin_rightOffices_j0 N b)) (f_basin_rightOffices_j0 N b) (fun _ => True) (fun n k h => by
      simp only [f_basin_rightOffices_l1]; rw [lt_f h]; rfl) (fun n k h => by
      simp only [f_basin_rightOffices_l1]
      have ok := hp b.Places[k] (List.getElem_mem h)
      obtain ⟨v, hv⟩ := next_df N b (b.Places[k]).Office (b.Places[k]).Down ok.down
      rw [lt_t h, cond_true, ix_nat h]
      simp only [Option.bind_some, hv, w64_succ (show k < 4611686018427387904 by omega)]
      cases v
      · exact .inl rfl
      · exact .inr ⟨trivial, rfl⟩) N 0 (by omega) (Nat.zero_le _) with h | ⟨_, h⟩
  · exact ⟨_, h⟩
  · obtain ⟨v, hv⟩ := hj
    exact ⟨v, h.trans hv⟩

/-! ### slopes -/
theorem steep_l3 {N : Nat} (hN : 18446744073709551616 < N) (c : List GPoint) (hc : CurveOK c) (kj : Int → Option Int) : ∀ (n : Nat) (s : Int) (k : Nat), c.length < n + k → 1 ≤ k → k ≤ c.length → ∃ s', f_basin_steepest_l3 N c kj n s (k : Int) = kj s'
  | 0, s, k, h, h1, hk => by omega
  | n + 1, s, k, h, h1, hk => by
    obtain ⟨g1, g2, g3⟩ := hc
    simp only [f_basin_steepest_l3]
    rcases Nat.lt_or_ge k c.length with hl | hl
    · have e1 : w64 ((k : Int) - 1) = ((k - 1 : Nat) : Int) := by rw [w64_n (by omega) (by omega)]; omega
      rw [lt_t hl, cond_true, e1, ix_nat hl, ix_nat (show k - 1 < c.length by omega)]
      simp only [Option.bind_some, w64_succ (show k < 4611686018427387904 by omega)]
      obtain ⟨a1, a2, a3⟩ := g3 k c[k] (by simp [hl])
      obtain ⟨b1, b2, _⟩ := g3 (k - 1) c[k - 1] (by simp [show k - 1 < c.length by omega])
      obtain ⟨d1, d2⟩ := a3 c[k - 1] (by omega) (by simp [show k - 1 < c.length by omega])
      unfold volI at a1 a2 b1 b2
      obtain ⟨v, hv⟩ := slope_df hN (num := w64 ((c[k]).Y - (c[k - 1]).Y)) (den := w64 ((c[k]).X - (c[k - 1]).X)) (by rw [w64_n (by omega) (by omega)]; omega) (by rw [w64_n (by omega) (by omega)]; omega) (by rw [w64_n (by omega) (by omega)]; omega)
      rw [hv]
      exact steep_l3 hN c ⟨g1, g2, g3⟩ kj n _ (k + 1) (by omega) (by omega) (by omega)
    · rw [lt_f hl]; exact ⟨s, rfl⟩
theorem steep_df {N : Nat} (hN : 18446744073709551616 < N) (cs : List (List GPoint)) (hl : cs.length ≤ 3) (hc : ∀ c ∈ cs, CurveOK c) : Df (f_basin_steepest N cs) := by
  unfold f_basin_steepest
  have : ∀ (n : Nat) (s : Int) (k : Nat), cs.length < n + k → k ≤ cs.length → Df (f_basin_steepest_l1 N cs (f_basin_steepest_j0 N) n s (k : Int)) := by
    intro n
    induction n with
    | zero => intro s k h hk; omega
    | succ n ih =>
      intro s k h hk
      simp only [f_basin_steepest_l1]
      rcases Nat.lt_or_ge k cs.length with hl2 | hl2
      · rw [lt_t hl2, cond_true, ix_nat hl2]
        simp only [Option.bind_some]
        have ok := hc cs[k] (List.getElem_mem hl2)
        obtain ⟨s', e⟩ := steep_l3 hN cs[k] ok (f_basin_steepest_j2 N (k : Int) (f_basin_steepest_l1 N cs (f_basin_steepest_j0 N) n)) N s 1 (by have := ok.2.1; omega) (by omega) ok.1
        have e0 : f_basin_steepest_l3 N cs[k] (f_basin_steepest_j2 N (k : Int) (f_basin_steepest_l1 N cs (f_basin_steepest_j0 N) n)) N s 1 = _ := e
        rw [e0]
        unfold f_basin_steepest_j2
        rw [w64_succ (show k < 4611686018427387904 by omega)]
        exact ih s' (k + 1) (by omega) (by omega)
      · rw [lt_f hl2]; exact Df.mk _
  exact this N 0 0 (by omega) (Nat.zero_le _)
theorem upd_len {α} (l : List α) (i : Int) (x : α) : (upd l i x).length = l.length := by simp [upd]
theorem sl_l8 {N : Nat} (hN : 1000 < N) (l : List Int) (hl : l.length ≤ 64) : Df (f_basin_rightSlopes_j2 N l) := by
  unfold f_basin_rightSlopes_j2
  rcases loop_df l.length (f_basin_rightSlopes_l8 N l (f_basin_rightSlopes_j7 N)) (f_basin_rightSlopes_j7 N) (fun _ => True) (fun n k h => by
    simp only [f_basin_rightSlopes_l8]; rw [lt_f h]; rfl) (fun n k h => by
    simp only [f_basin_rightSlopes_l8]
    rw [lt_t h, cond_true, ix_nat h]
    simp only [Option.bind_some, w64_succ (show k < 4611686018427387904 by omega)]
    cases decide (1099511627776 < l[k])
    · exact .inr ⟨trivial, rfl⟩
    · exact .inl rfl) N 0 (by omega) (Nat.zero_le _) with h | ⟨_, h⟩
  · exact ⟨_, h⟩
  · exact ⟨true, h⟩
theorem sl_l3 {N : Nat} (hN : 18446744073709551616 < N) (b : GBasin) (hb : HeadOK b) (hl : ∀ l ∈ b.Links, LinkOK b l) (kj : List Int → Option Bool) : ∀ (n : Nat) (k : Nat) (s : List Int), s.length = b.Places.length → b.Links.length < n + k → k ≤ b.Links.length → ∃ s', s'.length = b.Places.length ∧ f_basin_rightSlopes_l3 N b kj n (k : Int) s = kj s'
  | 0, k, s, hs, h, hk => by omega
  | n + 1, k, s, hs, h, hk => by
    have q3 := hb.pl
    have q4 := hb.li
    simp only [f_basin_rightSlopes_l3]
    rcases Nat.lt_or_ge k b.Links.length with hc | hc
    · rw [lt_t hc, cond_true, ix_nat hc]
      simp only [Option.bind_some]
      have ok := hl b.Links[k] (List.getElem_mem hc)
      generalize b.Links[k] = l at ok
      have ih : ∀ s : List Int, s.length = b.Places.length → ∃ s', s'.length = b.Places.length ∧ f_basin_rightSlopes_j4 N (k : Int) (f_basin_rightSlopes_l3 N b kj n) s = kj s' := fun s hs => by
        unfold f_basin_rightSlopes_j4
        rw [w64_succ (show k < 4611686018427387904 by omega)]
        exact sl_l3 hN b hb hl kj n (k + 1) s hs (by omega) (by omega)
      obtain ⟨x, hx⟩ := Df.ix (l := s) ok.fr.1 (by rw [hs]; exact ok.fr.2)
      have j5 : ∀ c : Bool, (c = true → l.Kind = 1 ∨ l.Kind = 5 ∨ l.Kind = 3) → ∃ s', s'.length = b.Places.length ∧ f_basin_rightSlopes_j5 N s l (f_basin_rightSlopes_j4 N (k : Int) (f_basin_rightSlopes_l3 N b kj n)) c = kj s' := fun c hc => by
        unfold f_basin_rightSlopes_j5
        cases c
        · rw [cond_false]
          by_cases k4 : l.Kind = 4
          · rw [show decide (l.Kind = 4) = true by simp [k4], cond_true]
            obtain ⟨h1, h2, h3, h4, h5, h6⟩ := ok.seep k4
            obtain ⟨v, hv⟩ := slope_df hN h1.1 (show 0 ≤ l.Den by omega) (by omega)
            obtain ⟨v2, hv2⟩ := slope_df hN h4.1 h5.1 (show l.BackDen ≤ _ by have := h5.2; omega)
            have hto := ok.to
            obtain ⟨x2, hx2⟩ := Df.ix (l := upd s l.From (w64 (x + w64 (2 * v)))) (i := l.To) (by omega) (by rw [upd_len, hs]; omega)
            simp only [hx, hv, hx2, hv2, Option.bind_some]
            exact ih _ (by rw [upd_len, upd_len, hs])
          · rw [show decide (l.Kind = 4) = false by simp [k4], cond_false]
            exact ih s hs
        · rw [cond_true]
          obtain ⟨h1, h2, h3⟩ := ok.part (hc rfl)
          obtain ⟨v, hv⟩ := slope_df hN h1.1 (show 0 ≤ l.Den by omega) (by omega)
          simp only [hx, hv, Option.bind_some]
          exact ih _ (by rw [upd_len, hs])
      by_cases k0 : l.Kind = 0
      · rw [show decide (l.Kind = 0) = true by simp [k0], cond_true]
        obtain ⟨c1, c2, c3, c4, c5⟩ := ok.gate k0
        obtain ⟨v, hv⟩ := steep_df hN [l.Rate, l.Band.Lo, l.Band.Hi] (by simp) (by simp [c1, c2, c3])
        simp only [hx, hv, Option.bind_some]
        by_cases t0 : l.To = -1
        · rw [show decide (l.To ≠ -1) = false by simp [t0], cond_false]
          exact ih _ (by rw [upd_len, hs])
        · rw [show decide (l.To ≠ -1) = true by simp [t0], cond_true]
          have hto := ok.to
          obtain ⟨x2, hx2⟩ := Df.ix (l := upd s l.From (w64 (x + v))) (i := l.To) (by omega) (by rw [upd_len, hs]; omega)
          obtain ⟨v2, hv2⟩ := slope_df hN c4.1 c5.1 (show l.BackDen ≤ _ by have := c5.2; omega)
          simp only [hx2, hv2, Option.bind_some]
          exact ih _ (by rw [upd_len, upd_len, hs])
      · rw [show decide (l.Kind = 0) = false by simp [k0], cond_false]
        by_cases k1 : l.Kind = 1
        · rw [show decide (l.Kind = 1) = true by simp [k1], cond_true]
          exact j5 true fun _ => .inl k1
        · rw [show decide (l.Kind = 1) = false by simp [k1], cond_false]
          by_cases k5 : l.Kind = 5
          · rw [show decide (l.Kind = 5) = true by simp [k5], cond_true]
            exact j5 true fun _ => .inr (.inl k5)
          · rw [show decide (l.Kind = 5) = false by simp [k5], cond_false]
            exact j5 _ fun h => .inr (.inr (by simpa using h))
    · rw [lt_f hc]; exact ⟨s, hs, rfl⟩
theorem slopes_df {N : Nat} (hN : 18446744073709551616 < N) (b : GBasin) (hb : HeadOK b) (hp : ∀ p ∈ b.Places, PlaceOK b p) (hl : ∀ l ∈ b.Links, LinkOK b l) : Df (f_basin_rightSlopes N b) := by
  have q3 := hb.pl
  have q4 := hb.li
  unfold f_basin_rightSlopes
  rw [show mkok (b.Places.length : Int) (b.Places.length : Int) 8 = true by simp [mkok]; omega]
  simp only [chk, cond_true]
  have h1 : ∀ (n : Nat) (k : Nat) (s : List Int), s.length = b.Places.length → b.Places.length < n + k → k ≤ b.Places.length → ∃ s', s'.length = b.Places.length ∧ f_basin_rightSlopes_l1 N b (f_basin_rightSlopes_j0 N b) n (k : Int) s = f_basin_rightSlopes_j0 N b s' := by
    intro n
    induction n with
    | zero => intro k s hs h hk; omega
    | succ n ih =>
      intro k s hs h hk
      simp only [f_basin_rightSlopes_l1]
      rcases Nat.lt_or_ge k b.Places.length with hc | hc
      · have ok := hp b.Places[k] (List.getElem_mem hc)
        obtain ⟨v, hv⟩ := slope_df hN ok.num.1 ok.den.1 (by have := ok.den.2; omega)
        rw [lt_t hc, cond_true, ix_nat hc, ix_nat (show k < s.length by omega)]
        simp only [Option.bind_some, hv, w64_succ (show k < 4611686018427387904 by omega)]
        exact ih (k + 1) _ (by rw [upd_len, hs]) (by omega) (by omega)
      · rw [lt_f hc]; exact ⟨s, hs, rfl⟩
  obtain ⟨s1, g1, g2⟩ := h1 N 0 (List.replicate ((b.Places.length : Int) : Int).toNat 0) (by simp) (by omega) (Nat.zero_le _)
  have g2' : f_basin_rightSlopes_l1 N b (f_basin_rightSlopes_j0 N b) N 0 (List.replicate ((b.Places.length : Int) : Int).toNat 0) = _ := g2
  rw [g2']
  unfold f_basin_rightSlopes_j0
  obtain ⟨s2, g3, g4⟩ := sl_l3 hN b hb hl (f_basin_rightSlopes_j2 N) N 0 s1 g1 (by omega) (Nat.zero_le _)
  have g4' : f_basin_rightSlopes_l3 N b (f_basin_rightSlopes_j2 N) N 0 s1 = _ := g4
  rw [g4']
  exact sl_l8 (by omega) s2 (by omega)
end Go.Proofs.Ytibidnaedddfdaa
