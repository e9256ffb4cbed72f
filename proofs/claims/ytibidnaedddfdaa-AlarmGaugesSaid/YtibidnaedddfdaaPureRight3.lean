/- The plain law: basin.Right always answers, third part. No program in sight. -/
import Derived.Test.YtibidnaedddfdaaPureRight2
namespace Go.Proofs.Ytibidnaedddfdaa
open Go.RowKit
set_option linter.unusedVariables false
set_option linter.unusedSimpArgs false

theorem idx_eq (N : Nat) (n z : Int) : f_basin_index N n z = some (inB n 0 (w64 (z - 1))) := rfl
structure TownOK (b : GBasin) (t : GTown) : Prop where
  place : 0 ≤ t.Place ∧ t.Place < b.Places.length
  flood : volI t.Flood
  lead : 0 ≤ t.Lead ∧ t.Lead ≤ 24
  watch : volI t.Watch
  quorum : 0 ≤ t.Quorum ∧ t.Quorum ≤ 128
theorem towns_eq {N : Nat} (hN : 1000 < N) (b : GBasin) (hb : HeadOK b) : ∃ v, f_basin_rightTowns N b = some v ∧ (v = true → ∀ t ∈ b.Towns, TownOK b t) := by
  have q3 := hb.pl
  have q5 := hb.to
  have q8 := hb.sh
  have hj : Df (f_basin_rightTowns_j0 N b) := by
    unfold f_basin_rightTowns_j0
    rcases loop_df b.Shelters.length (f_basin_rightTowns_l3 N b (f_basin_rightTowns_j2 N)) (f_basin_rightTowns_j2 N) (fun _ => True) (fun n k h => by
      simp only [f_basin_rightTowns_l3]; rw [lt_f h]; rfl) (fun n k h => by
      simp only [f_basin_rightTowns_l3]
      rw [lt_t h, cond_true, ix_nat h]
      simp only [Option.bind_some, in_eq, w64_succ (show k < 4611686018427387904 by omega)]
      cases inB (b.Shelters[k]).Room 0 1073741824
      · exact .inl rfl
      · exact .inr ⟨trivial, rfl⟩) N 0 (by omega) (Nat.zero_le _) with h | ⟨_, h⟩
    · exact ⟨_, h⟩
    · exact ⟨true, h⟩
  unfold f_basin_rightTowns
  rcases loop_df b.Towns.length (f_basin_rightTowns_l1 N b (f_basin_rightTowns_j0 N b)) (f_basin_rightTowns_j0 N b) (fun i => ∀ t, b.Towns[i]? = some t → TownOK b t) (fun n k h => by
    simp only [f_basin_rightTowns_l1]; rw [lt_f h]; rfl) (fun n k h => by
    simp only [f_basin_rightTowns_l1]
    rw [lt_t h, cond_true, ix_nat h]
    simp only [Option.bind_some, in_eq, vol_eq, index_eq N _ (show b.Places.length < 4611686018427387904 by omega), cond_some, cond_t, w64_succ (show k < 4611686018427387904 by omega)]
    generalize hB : (_ || !inB (b.Towns[k]).Quorum 0 128) = B
    cases B
    · simp only [Bool.or_eq_false_iff, Bool.not_eq_false'] at hB
      obtain ⟨⟨⟨⟨⟨h1, h2⟩, h3⟩, h4⟩, h5⟩, h6⟩ := hB
      refine .inr ⟨fun t ht => ?_, rfl⟩
      have : t = b.Towns[k] := by simpa [h] using ht.symm
      rw [this]
      have i1 := inB_I h1
      exact ⟨⟨i1.1, by omega⟩, volB_I h2, inB_I h3, volB_I h5, inB_I h6⟩
    · exact .inl rfl) N 0 (by omega) (Nat.zero_le _) with h | ⟨hp, h⟩
  · exact ⟨false, h, fun h => by cases h⟩
  · obtain ⟨v, hv⟩ := hj
    refine ⟨v, h.trans hv, fun _ t ht => ?_⟩
    obtain ⟨i, hi, rfl⟩ := List.mem_iff_getElem.1 ht
    exact hp i (Nat.zero_le _) hi _ (by simp [hi])
theorem gauges_df {N : Nat} (hN : 1000 < N) (b : GBasin) (hb : HeadOK b) : Df (f_basin_rightGauges N b) := by
  have q6 := hb.ga
  unfold f_basin_rightGauges
  rcases loop_df b.Gauges.length (f_basin_rightGauges_l1 N b (f_basin_rightGauges_j0 N)) (f_basin_rightGauges_j0 N) (fun _ => True) (fun n k h => by
    simp only [f_basin_rightGauges_l1]; rw [lt_f h]; rfl) (fun n k h => by
    simp only [f_basin_rightGauges_l1]
    rw [lt_t h, cond_true, ix_nat h]
    simp only [Option.bind_some, in_eq, idx_eq, cond_some, cond_t, w64_succ (show k < 4611686018427387904 by omega)]
    generalize hB : (_ || !inB (b.Gauges[k]).Drift 0 1440) = B
    cases B
    · simp only [Bool.or_eq_false_iff, Bool.not_eq_false'] at hB
      have i1 := inB_I hB.1.1
      obtain ⟨z, hz⟩ := Df.ix (l := [(b.Places.length : Int), b.Cells, (b.Links.length : Int)]) (i := (b.Gauges[k]).Kind) i1.1 (by simp; omega)
      rw [hz]
      simp only [cond_false, Option.bind_some]
      cases inB (b.Gauges[k]).Target 0 (w64 (z - 1))
      · exact .inl rfl
      · exact .inr ⟨trivial, rfl⟩
    · exact .inl rfl) N 0 (by omega) (Nat.zero_le _) with h | ⟨_, h⟩
  · exact ⟨_, h⟩
  · exact ⟨true, h⟩
theorem roads_df {N : Nat} (hN : 1000 < N) (b : GBasin) (hb : HeadOK b) : Df (f_basin_rightRoads N b) := by
  have q7 := hb.ro
  unfold f_basin_rightRoads
  rcases loop_df b.Roads.length (f_basin_rightRoads_l1 N b (f_basin_rightRoads_j0 N)) (f_basin_rightRoads_j0 N) (fun _ => True) (fun n k h => by
    simp only [f_basin_rightRoads_l1]; rw [lt_f h]; rfl) (fun n k h => by
    simp only [f_basin_rightRoads_l1]
    rw [lt_t h, cond_true, ix_nat h]
    simp only [Option.bind_some, in_eq, vol_eq, idx_eq, cond_some, cond_t, cond_f, w64_succ (show k < 4611686018427387904 by omega)]
    generalize (_ || !volB (b.Roads[k]).Limit) = B
    cases B
    · simp only [cond_false]
      generalize ((decide ((b.Roads[k]).By = -1) && decide ((b.Roads[k]).Limit ≠ 0)) || _) = B2
      cases B2
      · exact .inr ⟨trivial, rfl⟩
      · exact .inl rfl
    · exact .inl rfl) N 0 (by omega) (Nat.zero_le _) with h | ⟨_, h⟩
  · exact ⟨_, h⟩
  · exact ⟨true, h⟩

structure RightOK (b : GBasin) : Prop where
  head : HeadOK b
  places : ∀ p ∈ b.Places, PlaceOK b p
  links : ∀ l ∈ b.Links, LinkOK b l
  towns : ∀ t ∈ b.Towns, TownOK b t
theorem chainB {b : Bool} {x : Option Bool} {f : Bool → Option Bool} (Q : Prop) {G : Option Bool → Prop} (h : b = true → ∃ v, x = some v ∧ (v = true → Q)) (k : ∀ c, (c = true → b = true ∧ Q) → G (f c)) : G (Option.bind (cond b (Option.bind x fun y => some y) (some false)) f) := by
  cases b
  · exact k false fun h => by cases h
  · obtain ⟨v, hv, hq⟩ := h rfl
    rw [hv]
    exact k v fun hc => ⟨rfl, hq hc⟩
theorem Df.q {x : Option Bool} (h : Df x) : ∃ v, x = some v ∧ (v = true → True) := by obtain ⟨v, hv⟩ := h; exact ⟨v, hv, fun _ => trivial⟩
theorem right_eq {N : Nat} (hN : 18446744073709551616 < N) (b : GBasin) : ∃ v, f_basin_Right N b = some v ∧ (v = true → RightOK b) := by
  have hN2 : 1000 < N := by omega
  unfold f_basin_Right
  obtain ⟨v0, e0, p0⟩ := head_eq hN2 b
  rw [e0]
  simp only [Option.bind_some]
  refine chainB True (G := fun x => ∃ v, x = some v ∧ (v = true → RightOK b)) (fun h => (names_df hN2 (p0 h)).q) fun c1 h1 => ?_
  refine chainB (∀ p ∈ b.Places, PlaceOK b p) (G := fun x => ∃ v, x = some v ∧ (v = true → RightOK b)) (fun h => places_eq hN2 b (p0 (h1 h).1)) fun c2 h2 => ?_
  have d2 : c2 = true → HeadOK b ∧ ∀ p ∈ b.Places, PlaceOK b p := fun h => ⟨p0 (h1 (h2 h).1).1, (h2 h).2⟩
  refine chainB (∀ l ∈ b.Links, LinkOK b l) (G := fun x => ∃ v, x = some v ∧ (v = true → RightOK b)) (fun h => links_eq hN b (d2 h).1) fun c3 h3 => ?_
  have d3 : c3 = true → HeadOK b ∧ (∀ p ∈ b.Places, PlaceOK b p) ∧ ∀ l ∈ b.Links, LinkOK b l := fun h => ⟨(d2 (h3 h).1).1, (d2 (h3 h).1).2, (h3 h).2⟩
  refine chainB True (G := fun x => ∃ v, x = some v ∧ (v = true → RightOK b)) (fun h => (offices_df hN2 b (d3 h).1 (d3 h).2.1 (d3 h).2.2).q) fun c4 h4 => ?_
  refine chainB True (G := fun x => ∃ v, x = some v ∧ (v = true → RightOK b)) (fun h => (slopes_df hN b (d3 (h4 h).1).1 (d3 (h4 h).1).2.1 (d3 (h4 h).1).2.2).q) fun c5 h5 => ?_
  refine chainB (∀ t ∈ b.Towns, TownOK b t) (G := fun x => ∃ v, x = some v ∧ (v = true → RightOK b)) (fun h => towns_eq hN2 b (d3 (h4 (h5 h).1).1).1) fun c6 h6 => ?_
  refine chainB True (G := fun x => ∃ v, x = some v ∧ (v = true → RightOK b)) (fun h => (gauges_df hN2 b (d3 (h4 (h5 (h6 h).1).1).1).1).q) fun c7 h7 => ?_
  refine chainB True (G := fun x => ∃ v, x = some v ∧ (v = true → RightOK b)) (fun h => (roads_df hN2 b (d3 (h4 (h5 (h6 (h7 h).1).1).1).1).1).q) fun c8 h8 => ?_
  refine ⟨c8, rfl, fun h => ?_⟩
  have d := d3 (h4 (h5 (h6 (h7 (h8 h).1).1).1).1).1
  exact ⟨d.1, d.2.1, d.2.2, (h6 (h7 (h8 h).1).1).2⟩
end Go.Proofs.Ytibidnaedddfdaa
