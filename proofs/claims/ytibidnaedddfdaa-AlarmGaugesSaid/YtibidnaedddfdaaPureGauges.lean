/- The plain law of AlarmGauges. No program in sight. -/
import Derived.Test.YtibidnaedddfdaaPureRight3
namespace Go.Proofs.Ytibidnaedddfdaa
open Go.RowKit
set_option linter.unusedVariables false
set_option linter.unusedSimpArgs false

def Dp {α} (x : Option α) (P : α → Prop) : Prop := ∃ v, x = some v ∧ P v
theorem Dp.mk {α} {P : α → Prop} {v : α} (h : P v) : Dp (some v) P := ⟨v, rfl, h⟩
theorem Dp.bind {α β} {P : β → Prop} {a : Option α} {f : α → Option β} (h : Df a) (k : ∀ v, a = some v → Dp (f v) P) : Dp (Option.bind a f) P := by
  obtain ⟨v, hv⟩ := h
  obtain ⟨u, hu, hp⟩ := k v hv
  exact ⟨u, by rw [hv]; exact hu, hp⟩
theorem Dp.cond {α} {P : α → Prop} {b : Bool} {x y : Option α} (h1 : b = true → Dp x P) (h2 : b = false → Dp y P) : Dp (cond b x y) P := by
  cases b
  · exact h2 rfl
  · exact h1 rfl
theorem add_df (N : Nat) (a b : Int) : Df (f_exact_Add N a b) := by
  unfold f_exact_Add
  exact Df.cond (fun _ => Df.mk _) fun _ => Df.cond (fun _ => Df.mk _) fun _ => Df.mk _
theorem gaugeOf_df (N : Nat) (b : GBasin) (r : GReading) : Df (f_fuse_gaugeOf N b r) := by
  unfold f_fuse_gaugeOf
  refine Df.cond (fun _ => Df.mk _) fun h => ?_
  simp only [Bool.or_eq_false_iff, decide_eq_false_iff_not] at h
  exact Df.bind (Df.ix (by omega) (by omega)) fun _ _ => Df.mk _
theorem meet_dp (N : Nat) (a b : GSpan) : Dp (f_span_Meet N a b) fun v => v.2 = true → v.1.Lo ≤ v.1.Hi := by
  unfold f_span_Meet f_span_Right
  simp only [Option.bind_some]
  refine Dp.cond (fun _ => Dp.mk fun h => by cases h) fun h => Dp.mk fun _ => ?_
  simpa using h
theorem volume_dp {N : Nat} (hN : 18446744073709551616 < N) (b : GBasin) (r : GReading) : Dp (f_fuse_Volume N b r) fun v => v.2 = true → v.1.Lo ≤ v.1.Hi := by
  have hj : ∀ y i, Dp (f_fuse_Volume_j0 N y i) fun v => v.2 = true → v.1.Lo ≤ v.1.Hi := fun y i => by
    unfold f_fuse_Volume_j0
    obtain ⟨v, h1, h2⟩ := meet_dp N ⟨y.1, i⟩ ⟨0, 1125899906842624⟩
    rw [h1]
    exact Dp.mk h2
  unfold f_fuse_Volume
  refine Dp.bind (gaugeOf_df N b r) fun g _ => Dp.cond (fun _ => Dp.mk fun h => by cases h) fun h => ?_
  simp only [Bool.or_eq_false_iff, decide_eq_false_iff_not] at h
  refine Dp.bind (Df.ix (by omega) (by omega)) fun x _ => ?_
  obtain ⟨v, hv, _⟩ := curve_right (N := N) (by omega) x.Level
  refine Dp.bind ⟨v, hv⟩ fun _ _ => Dp.cond (fun _ => Dp.mk fun h => by cases h) fun _ => ?_
  refine Dp.bind (least_df hN _ _) fun y _ => Dp.cond (fun _ => Dp.mk fun h => by cases h) fun _ => ?_
  exact Dp.bind (add_df _ _ _) fun _ _ => Dp.bind (least_df hN _ _) fun _ _ => Dp.cond (fun _ => hj _ _) fun _ => hj _ _
def Vol (N : Nat) (b : GBasin) (r : GReading) : GSpan × Bool := (f_fuse_Volume N b r).getD (⟨0, 0⟩, false)
theorem vol_some {N : Nat} (hN : 18446744073709551616 < N) (b : GBasin) (r : GReading) : f_fuse_Volume N b r = some (Vol N b r) ∧ ((Vol N b r).2 = true → (Vol N b r).1.Lo ≤ (Vol N b r).1.Hi) := by
  obtain ⟨v, h1, h2⟩ := volume_dp hN b r
  have e : Vol N b r = v := by unfold Vol; rw [h1]; rfl
  rw [e]; exact ⟨h1, h2⟩

/-! ### what counts -/
def inG (b : GBasin) (r : GReading) : Bool := !(decide (r.Gauge < 0) || decide ((b.Gauges.length : Int) ≤ r.Gauge))
def gof (b : GBasin) (r : GReading) : GGauge := (ix b.Gauges r.Gauge).getD default
def mineB (b : GBasin) (t : GTown) (r : GReading) : Bool := inG b r && !(decide ((gof b r).Kind ≠ 0) || decide ((gof b r).Target ≠ t.Place))
def hotB (N : Nat) (b : GBasin) (t : GTown) (r : GReading) : Bool := (Vol N b r).2 && decide (t.Watch < (Vol N b r).1.Lo)
theorem gof_eq {b : GBasin} {r : GReading} (h : inG b r = true) : ix b.Gauges r.Gauge = some (gof b r) ∧ 0 ≤ r.Gauge ∧ r.Gauge < b.Gauges.length := by
  simp only [inG, Bool.not_eq_true', Bool.or_eq_false_iff, decide_eq_false_iff_not] at h
  obtain ⟨v, hv⟩ := Df.ix (l := b.Gauges) (i := r.Gauge) (by omega) (by omega)
  exact ⟨by unfold gof; rw [hv]; rfl, by omega, by omega⟩
def stepA (N : Nat) (b : GBasin) (t : GTown) (A : List Bool) (r : GReading) : List Bool := if mineB b t r = true ∧ hotB N b t r = true then upd A r.Gauge true else A
def goA (N : Nat) (b : GBasin) (t : GTown) (A : List Bool) (rs : List GReading) : List Bool := rs.foldl (stepA N b t) A
def cnt (A : List Bool) : Nat := A.count true
theorem cnt_set : ∀ (A : List Bool) (i : Nat), (A.set i true).count true ≤ A.count true + 1 ∧ (A[i]? = some false → (A.set i true).count true = A.count true + 1) ∧ (A[i]? = some true → A.set i true = A)
  | [], i => by simp
  | a :: A, 0 => by cases a <;> simp
  | a :: A, i + 1 => by
    obtain ⟨h1, h2, h3⟩ := cnt_set A i
    simp only [List.set_cons_succ, List.count_cons, List.getElem?_cons_succ]
    exact ⟨by omega, fun h => by have := h2 h; omega, fun h => by rw [h3 h]⟩
def SubA (A B : List Bool) : Prop := A.length = B.length ∧ ∀ i : Nat, A[i]? = some true → B[i]? = some true
theorem cnt_le : ∀ (A B : List Bool), SubA A B → cnt A ≤ cnt B
  | [], B, _ => by simp [cnt]
  | a :: A, [], h => by simp [SubA] at h
  | a :: A, c :: B, ⟨h1, h2⟩ => by
    have ih := cnt_le A B ⟨by simpa using h1, fun i hi => by simpa using h2 (i + 1) (by simpa using hi)⟩
    unfold cnt at ih ⊢
    have h0 := h2 0
    simp only [List.count_cons]
    cases a <;> cases c <;> simp at h0 ⊢ <;> omega
theorem stepA_sub {N : Nat} {b : GBasin} {t : GTown} {A B : List Bool} (h : SubA A B) (r : GReading) : SubA (stepA N b t A r) (stepA N b t B r) := by
  unfold stepA
  split
  · refine ⟨by simp [upd, h.1], fun i hi => ?_⟩
    simp only [upd, List.getElem?_set] at hi ⊢
    have hl := h.1
    split at hi
    · rename_i e
      rw [if_pos e]
      split at hi
      · rw [if_pos (by omega)]
      · cases hi
    · rename_i e
      rw [if_neg e]
      exact h.2 i hi
  · exact h
theorem goA_sub {N : Nat} {b : GBasin} {t : GTown} : ∀ (rs : List GReading) {A B : List Bool}, SubA A B → SubA (goA N b t A rs) (goA N b t B rs)
  | [], _, _, h => h
  | r :: rs, _, _, h => goA_sub rs (stepA_sub h r)
theorem stepA_grow (N : Nat) (b : GBasin) (t : GTown) (A : List Bool) (r : GReading) : SubA A (stepA N b t A r) := by
  unfold stepA
  split
  · refine ⟨by simp [upd], fun i hi => ?_⟩
    simp only [upd, List.getElem?_set]
    have := (List.getElem?_eq_some_iff.1 hi).1
    split
    · rw [if_pos (by omega)]
    · exact hi
  · exact ⟨rfl, fun _ h => h⟩
theorem stepA_len (N : Nat) (b : GBasin) (t : GTown) (A : List Bool) (r : GReading) : (stepA N b t A r).length = A.length := (stepA_grow N b t A r).1.symm
theorem goA_filter (N : Nat) (b : GBasin) (t : GTown) : ∀ (rs : List GReading) (A : List Bool), goA N b t A (rs.filter (mineB b t)) = goA N b t A rs
  | [], _ => rfl
  | r :: rs, A => by
    by_cases h : mineB b t r = true
    · rw [List.filter_cons_of_pos h]
      exact goA_filter N b t rs _
    · rw [List.filter_cons_of_neg h, goA_filter N b t rs A]
      have e : stepA N b t A r = A := by unfold stepA; rw [if_neg (fun x => h x.1)]
      show goA N b t A rs = goA N b t (stepA N b t A r) rs
      rw [e]
theorem goA_cnt (N : Nat) (b : GBasin) (t : GTown) : ∀ (rs : List GReading) (A : List Bool), cnt (goA N b t A rs) ≤ cnt A + (rs.filter fun r => mineB b t r && hotB N b t r).length
  | [], A => by simp [goA]
  | r :: rs, A => by
    have ih := goA_cnt N b t rs (stepA N b t A r)
    have e : goA N b t A (r :: rs) = goA N b t (stepA N b t A r) rs := rfl
    rw [e]
    by_cases h : mineB b t r = true ∧ hotB N b t r = true
    · rw [List.filter_cons_of_pos (by simp [h.1, h.2])]
      have : cnt (stepA N b t A r) ≤ cnt A + 1 := by unfold stepA; rw [if_pos h]; exact (cnt_set A _).1
      simp only [List.length_cons]
      omega
    · rw [List.filter_cons_of_neg (by simpa using h)]
      have : stepA N b t A r = A := by unfold stepA; rw [if_neg h]
      rw [this] at ih ⊢
      exact ih

/-! ### Quorum -/
theorem quorum_l1 {N : Nat} (hN : 18446744073709551616 < N) (b : GBasin) (rs : List GReading) (t : GTown) (kj : Int → Option Bool) (hl : rs.length ≤ 100) (hg : b.Gauges.length ≤ 128) : ∀ (r : List GReading) (k n : Nat) (A : List Bool), rs.drop k = r → r.length < n → A.length = b.Gauges.length →
    f_alarm_Quorum_l1 N b rs t kj n (cnt A : Int) (k : Int) A = kj (cnt (goA N b t A r) : Int)
  | [], k, n + 1, A, h, hn, hA => by
    have : rs.length ≤ k := by simpa using h
    simp only [f_alarm_Quorum_l1]
    rw [lt_f this]
    rfl
  | r :: r', k, n + 1, A, h, hn, hA => by
    have h1 : rs[k]? = some r := by have := congrArg (·[0]?) h; simpa using this
    have h2 : rs.drop (k + 1) = r' := by have := congrArg List.tail h; simpa [List.tail_drop] using this
    have h3 : k < rs.length := (List.getElem?_eq_some_iff.1 h1).1
    have h4 : ix rs (k : Int) = some r := by simp [ix, h1]
    have hcl : cnt A ≤ 128 := by
      have : A.count true ≤ A.length := List.count_le_length
      unfold cnt; omega
    have ih := fun (A : List Bool) (hA : A.length = b.Gauges.length) => quorum_l1 hN b rs t kj hl hg r' (k + 1) n A h2 (by simp at hn; omega) hA
    have e0 : goA N b t A (r :: r') = goA N b t (stepA N b t A r) r' := rfl
    simp only [f_alarm_Quorum_l1]
    rw [lt_t h3, cond_true, h4]
    simp only [Option.bind_some, f_alarm_Quorum_j2, w64_succ (show k < 4611686018427387904 by omega)]
    rw [e0]
    cases hin : inG b r
    · have hin' : (decide (r.Gauge < 0) || decide ((b.Gauges.length : Int) ≤ r.Gauge)) = true := by unfold inG at hin; rwa [Bool.not_eq_false'] at hin
      rw [hin']
      simp only [cond_true, Option.bind_some]
      have : stepA N b t A r = A := by unfold stepA mineB; rw [hin]; simp
      rw [this]
      exact ih A hA
    · have hin' : (decide (r.Gauge < 0) || decide ((b.Gauges.length : Int) ≤ r.Gauge)) = false := by simpa [inG] using hin
      obtain ⟨g1, g2, g3⟩ := gof_eq hin
      obtain ⟨j, hj⟩ : ∃ j : Nat, r.Gauge = j := ⟨r.Gauge.toNat, by omega⟩
      have hjl : j < A.length := by omega
      have hix : ix A r.Gauge = some A[j] := by rw [hj]; exact ix_nat hjl
      rw [hin']
      simp only [cond_false, hix, Option.bind_some]
      have hupd : upd A r.Gauge true = A.set j true := by unfold upd; rw [hj]; rfl
      cases ha : A[j]
      · simp only [cond_false, g1, Option.bind_some]
        cases hown : (decide ((gof b r).Kind ≠ 0) || decide ((gof b r).Target ≠ t.Place))
        · obtain ⟨v1, v2⟩ := vol_some hN b r
          simp only [cond_false, v1, Option.bind_some]
          have ho : mineB b t r = true := by unfold mineB; rw [hin, hown]; rfl
          cases hhot : ((Vol N b r).2 && decide (t.Watch < (Vol N b r).1.Lo))
          · have : stepA N b t A r = A := by unfold stepA hotB; rw [hhot]; simp
            rw [this]
            exact ih A hA
          · have e1 : stepA N b t A r = upd A r.Gauge true := by unfold stepA; rw [if_pos ⟨ho, hhot⟩]
            have e2 : w64 ((cnt A : Int) + 1) = (cnt (upd A r.Gauge true) : Int) := by
              have := (cnt_set A j).2.1 (by rw [List.getElem?_eq_getElem hjl, ha])
              rw [w64_n (by omega) (by omega), hupd]
              unfold cnt; rw [this]; rfl
            rw [e1]
            simp only [cond_true]
            rw [e2]
            exact ih _ (by simp [upd, hA])
        · have : stepA N b t A r = A := by unfold stepA mineB; rw [hown]; simp
          rw [this]
          simp only [cond_true]
          exact ih A hA
      · have : stepA N b t A r = A := by
          unfold stepA
          split
          · rw [hupd]; exact (cnt_set A j).2.2 (by rw [List.getElem?_eq_getElem hjl, ha])
          · rfl
        rw [this]
        simp only [cond_true]
        exact ih A hA
def A0 (b : GBasin) : List Bool := List.replicate b.Gauges.length false
def Q (N : Nat) (b : GBasin) (t : GTown) (rs : List GReading) : Bool := !decide (t.Quorum ≤ 0) && decide (t.Quorum ≤ (cnt (goA N b t (A0 b) rs) : Int))
theorem quorum_eq {N : Nat} (hN : 18446744073709551616 < N) (b : GBasin) (town : Int) (t : GTown) (rs : List GReading) (hl : rs.length ≤ 100) (hg : b.Gauges.length ≤ 128) (ht : ix b.Towns town = some t) : f_alarm_Quorum N b town rs = some (Q N b t rs) := by
  obtain ⟨i1, i2⟩ := ix_lt ht
  unfold f_alarm_Quorum
  rw [show (decide (town < 0) || decide ((b.Towns.length : Int) ≤ town)) = false by simp; omega]
  simp only [cond_false, ht, Option.bind_some]
  unfold Q
  cases hq : decide (t.Quorum ≤ 0)
  · rw [show mkok (b.Gauges.length : Int) (b.Gauges.length : Int) 1 = true by simp [mkok]; omega]
    simp only [cond_false, chk, cond_true]
    have := quorum_l1 hN b rs t (f_alarm_Quorum_j0 N t) hl hg rs 0 N (A0 b) rfl (by omega) (by simp [A0])
    have c0 : cnt (A0 b) = 0 := by simp [cnt, A0, List.count_replicate]
    rw [c0] at this
    have h0 : f_alarm_Quorum_l1 N b rs t (f_alarm_Quorum_j0 N t) N 0 0 (List.replicate ((b.Gauges.length : Int) : Int).toNat false) = _ := this
    rw [h0]
    rfl
  · rfl

/-! ### the law -/
theorem gauges_l1 {N : Nat} (hN : 18446744073709551616 < N) (b : GBasin) (rs : List GReading) (t : GTown) (kj : Int → List GReading → Option Bool) (hl : rs.length ≤ 12) : ∀ (r : List GReading) (k n ab : Nat) (own : List GReading), rs.drop k = r → r.length < n → ab ≤ k → own.length ≤ k →
    f_bournelaw43_AlarmGauges_l1 N b rs t kj n (ab : Int) own (k : Int) = kj ((ab + (r.filter fun r => mineB b t r && hotB N b t r).length : Nat) : Int) (own ++ r.filter (mineB b t))
  | [], k, n + 1, ab, own, h, hn, _, _ => by
    have : rs.length ≤ k := by simpa using h
    simp only [f_bournelaw43_AlarmGauges_l1]
    rw [lt_f this]
    simp
  | r :: r', k, n + 1, ab, own, h, hn, hab, hown => by
    have h1 : rs[k]? = some r := by have := congrArg (·[0]?) h; simpa using this
    have h2 : rs.drop (k + 1) = r' := by have := congrArg List.tail h; simpa [List.tail_drop] using this
    have h3 : k < rs.length := (List.getElem?_eq_some_iff.1 h1).1
    have h4 : ix rs (k : Int) = some r := by simp [ix, h1]
    have ih := fun (ab : Nat) (own : List GReading) (ha : ab ≤ k + 1) (ho : own.length ≤ k + 1) => gauges_l1 hN b rs t kj hl r' (k + 1) n ab own h2 (by simp at hn; omega) ha ho
    simp only [f_bournelaw43_AlarmGauges_l1]
    rw [lt_t h3, cond_true, h4]
    simp only [Option.bind_some, f_bournelaw43_AlarmGauges_j2, w64_succ (show k < 4611686018427387904 by omega)]
    cases hin : inG b r
    · have hin' : (decide (r.Gauge < 0) || decide ((b.Gauges.length : Int) ≤ r.Gauge)) = true := by unfold inG at hin; rwa [Bool.not_eq_false'] at hin
      rw [hin']
      simp only [cond_true, Option.bind_some]
      have ho : mineB b t r = false := by unfold mineB; rw [hin]; rfl
      rw [List.filter_cons_of_neg (by simp [ho]), List.filter_cons_of_neg (by simp [ho])]
      exact ih ab own (by omega) (by omega)
    · have hin' : (decide (r.Gauge < 0) || decide ((b.Gauges.length : Int) ≤ r.Gauge)) = false := by simpa [inG] using hin
      obtain ⟨g1, g2, g3⟩ := gof_eq hin
      rw [hin']
      simp only [cond_false, g1, Option.bind_some, cond_some, cond_t]
      cases ho' : (decide ((gof b r).Kind ≠ 0) || decide ((gof b r).Target ≠ t.Place))
      · have ho : mineB b t r = true := by unfold mineB; rw [hin, ho']; rfl
        obtain ⟨v1, v2⟩ := vol_some hN b r
        rw [show room (own.length + 1) 32 = true by simp [room]; omega]
        simp only [cond_false, chk, cond_true, v1, Option.bind_some, f_span_Right, cond_some]
        have hr : (cond (Vol N b r).2 (decide ((Vol N b r).1.Lo ≤ (Vol N b r).1.Hi)) false && decide (t.Watch < (Vol N b r).1.Lo)) = hotB N b t r := by
          unfold hotB
          cases hv : (Vol N b r).2
          · rfl
          · have := v2 hv
            simp [this]
        rw [hr, List.filter_cons_of_pos (p := mineB b t) ho]
        cases hh : hotB N b t r
        · rw [List.filter_cons_of_neg (by simp [hh])]
          simp only [cond_false]
          rw [ih ab (own ++ [r]) (by omega) (by simp; omega)]
          simp
        · rw [List.filter_cons_of_pos (by simp [hh, ho])]
          simp only [cond_true]
          have e : w64 ((ab : Int) + 1) = ((ab + 1 : Nat) : Int) := w64_succ (by omega)
          rw [e, ih (ab + 1) (own ++ [r]) (by omega) (by simp; omega)]
          simp only [List.length_cons, List.append_assoc, List.singleton_append]
          congr 2; omega
      · have ho : mineB b t r = false := by unfold mineB; rw [ho']; simp
        rw [List.filter_cons_of_neg (by simp [ho]), List.filter_cons_of_neg (by simp [ho])]
        simp only [cond_true]
        exact ih ab own (by omega) (by omega)
theorem small43 : f_bournelaw43_small BN = some true := by decide +kernel
theorem few_nil {N : Nat} (hN : 0 < N) (b : GBasin) : ∃ v, f_bournelaw43_few N b [] [] = some v := by
  unfold f_bournelaw43_few
  obtain ⟨n, rfl⟩ : ∃ n, N = n + 1 := ⟨N - 1, by omega⟩
  refine Df.cond (fun _ => Df.mk _) fun _ => ?_
  simp only [f_bournelaw43_few_l1]
  exact Df.mk _
theorem gauges_plain (b : GBasin) (town : Int) (rs : List GReading) (more : GReading) : f_bournelaw43_AlarmGauges BN b town rs more = some true := by
  have hN := BN_gt
  unfold f_bournelaw43_AlarmGauges
  obtain ⟨vf, ef⟩ := few_nil (N := BN) (by omega) b
  obtain ⟨vr, er, pr⟩ := right_eq hN b
  simp only [small43, ef, er, Option.bind_some, cond_some, cond_t]
  generalize hB : (_ || !vr) = B
  cases B
  · simp only [Bool.or_eq_false_iff, decide_eq_false_iff_not, Bool.not_eq_false'] at hB
    obtain ⟨⟨⟨⟨h1, h2⟩, h3⟩, h4⟩, h5⟩ := hB
    have hg := (pr h5).head.ga
    obtain ⟨t, ht⟩ := Df.ix (l := b.Towns) (i := town) (by omega) (by omega)
    have q0 := fun (l : List GReading) (hl : l.length ≤ 100) => quorum_eq hN b town t l hl hg ht
    simp only [cond_false, ht, q0 rs (by omega), Option.bind_some]
    have hl1 := gauges_l1 hN b rs t (f_bournelaw43_AlarmGauges_j0 BN b town rs more true t (Q BN b t rs)) (by omega) rs 0 BN 0 [] rfl (by omega) (Nat.le_refl _) (Nat.zero_le _)
    have hl2 : f_bournelaw43_AlarmGauges_l1 BN b rs t (f_bournelaw43_AlarmGauges_j0 BN b town rs more true t (Q BN b t rs)) BN 0 [] 0 = _ := hl1
    rw [hl2, List.nil_append]
    unfold f_bournelaw43_AlarmGauges_j0
    have hfl : (rs.filter (mineB b t)).length ≤ 12 := Nat.le_trans (List.length_filter_le _ _) (by omega)
    have c0 : cnt (A0 b) = 0 := by simp [cnt, A0, List.count_replicate]
    have hcnt := goA_cnt BN b t rs (A0 b)
    rw [c0] at hcnt
    have hq1 : (Q BN b t rs && decide (((0 + (rs.filter fun r => mineB b t r && hotB BN b t r).length : Nat) : Int) < t.Quorum)) = false := by
      cases hQ : Q BN b t rs
      · rfl
      · simp only [Q, Bool.and_eq_true, decide_eq_true_eq] at hQ
        simp only [Bool.true_and, decide_eq_false_iff_not]
        omega
    have hq2 : Q BN b t (rs.filter (mineB b t)) = Q BN b t rs := by unfold Q; rw [goA_filter]
    rw [hq1, q0 _ (by omega), hq2]
    simp only [cond_false, Option.bind_some, beq_self_eq_true, Bool.not_true, cond_true]
    cases hQ : Q BN b t rs
    · rfl
    · rw [show room ([more].length + rs.length) 32 = true by simp [room]; omega, q0 ([more] ++ rs) (by simp; omega)]
      simp only [Bool.not_true, cond_false, chk, cond_true, Option.bind_some]
      have hm : Q BN b t ([more] ++ rs) = true := by
        simp only [Q, Bool.and_eq_true, decide_eq_true_eq] at hQ ⊢
        refine ⟨hQ.1, ?_⟩
        have e : goA BN b t (A0 b) ([more] ++ rs) = goA BN b t (stepA BN b t (A0 b) more) rs := rfl
        have := cnt_le _ _ (goA_sub (N := BN) (b := b) (t := t) rs (stepA_grow BN b t (A0 b) more))
        rw [e]
        omega
      rw [hm]
  · rfl
end Go.Proofs.Ytibidnaedddfdaa
