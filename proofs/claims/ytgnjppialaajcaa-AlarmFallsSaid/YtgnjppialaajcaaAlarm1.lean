/- Alarms. -/
import Derived.Test.YtgnjppialaajcaaFacts
namespace Go.Proofs.Ytgnjppialaajcaa
open Go.RowKit
set_option linter.unusedSimpArgs false
set_option linter.unusedVariables false


/-- What a sight demands. -/
def dem (t : GTown) (s : GSight) : Int := if 0 ≤ s.Crest ∧ s.Crest ≤ w64 (t.Lead + 1) then 3 else if 0 ≤ s.Crest ∧ s.Crest ≤ w64 (w64 (2 * t.Lead) + 2) then 2 else if 0 ≤ s.Crest ∨ s.Quorum = true then 1 else 0
/-- The alarm that follows. -/
def nxt (t : GTown) (a : GAlarm) (s : GSight) : GAlarm :=
  if a.Level ≤ dem t s then ⟨dem t s, 0, 0⟩
  else if 3 ≤ a.Level ∧ 0 ≤ s.Crest then ⟨a.Level, 0, 0⟩
  else
    let x := if a.Calm ≠ 0 then max (dem t s) a.Then else dem t s
    if 2 ≤ a.Calm then ⟨x, 0, 0⟩ else ⟨a.Level, w64 (a.Calm + 1), x⟩
def stA (t : GTown) (l : List GSight) (k : Nat) : GAlarm := (l.take k).foldl (nxt t) ⟨0, 0, 0⟩
def runL (t : GTown) (l : List GSight) (k : Nat) : List GAlarm := (List.range k).map fun i => stA t l (i + 1)
theorem stA_succ (t : GTown) {l : List GSight} {k : Nat} (h : k < l.length) : stA t l (k + 1) = nxt t (stA t l k) (gt l k) := by
  simp only [stA, List.take_succ_eq_append_getElem h, List.foldl_append, List.foldl_cons, List.foldl_nil, gt_nat]
  congr 1
  simp [List.getD, List.getElem?_eq_getElem h]
theorem runL_succ (t : GTown) (l : List GSight) (k : Nat) : runL t l (k + 1) = runL t l k ++ [stA t l (k + 1)] := by simp [runL, List.range_succ]
theorem dem_i (t : GTown) (s : GSight) : 0 ≤ dem t s ∧ dem t s ≤ 3 := by
  unfold dem
  repeat' split
  all_goals omega
theorem nxt_ok (t : GTown) (a : GAlarm) (s : GSight) (h : a.ok) : (nxt t a s).ok := by
  obtain ⟨h1, h2, h3⟩ := h
  have hd := dem_i t s
  have hw := w64_i (a.Calm + 1)
  simp only [nxt]
  repeat' split
  all_goals (refine ⟨?_, ?_, ?_⟩ <;> (dsimp only; unfold inI64 at *; omega))
theorem foldl_ok (t : GTown) : ∀ (l : List GSight) (a : GAlarm), a.ok → (l.foldl (nxt t) a).ok
  | [], _, h => h
  | s :: l, a, h => foldl_ok t l _ (nxt_ok t a s h)
theorem stA_ok (t : GTown) (l : List GSight) (k : Nat) : (stA t l k).ok := foldl_ok t _ _ (by refine ⟨?_, ?_, ?_⟩ <;> (dsimp only; unfold inI64; omega))

theorem gt_runL (t : GTown) (l : List GSight) (n i : Nat) (h : i < n) : gt (runL t l n) (i : Int) = stA t l (i + 1) := by
  rw [gt_nat]
  simp [runL, List.getD, h]

/-- What is known of the alarm behind k sights. -/
def Inv (t : GTown) (l : List GSight) (k : Nat) : Prop :=
  0 ≤ (stA t l k).Level ∧ (stA t l k).Level ≤ 3 ∧ (k = 0 → (stA t l k).Level = 0) ∧
  ((stA t l k).Calm = 0 ∨
   ((stA t l k).Calm = 1 ∧ ∃ j : Nat, k = j + 1 ∧ 1 ≤ j ∧ (stA t l k).Then = dem t (gt l j) ∧ dem t (gt l j) < (stA t l k).Level ∧ (stA t l j).Level = (stA t l k).Level ∧ ((stA t l k).Level = 3 → (gt l j).Crest < 0)) ∨
   ((stA t l k).Calm = 2 ∧ ∃ j : Nat, k = j + 2 ∧ 1 ≤ j ∧ (stA t l k).Then = max (dem t (gt l (j + 1 : Nat))) (dem t (gt l j)) ∧ dem t (gt l j) < (stA t l k).Level ∧ dem t (gt l (j + 1 : Nat)) < (stA t l k).Level ∧
      (stA t l j).Level = (stA t l k).Level ∧ (stA t l (j + 1)).Level = (stA t l k).Level ∧ ((stA t l k).Level = 3 → (gt l j).Crest < 0 ∧ (gt l (j + 1 : Nat)).Crest < 0)))
theorem inv_all (t : GTown) (l : List GSight) : ∀ k, k ≤ l.length → Inv t l k
  | 0, _ => by simp [Inv, stA]
  | k + 1, h => by
    have ih := inv_all t l k (by omega)
    have hs := stA_succ t (l := l) (k := k) (by omega)
    obtain ⟨i1, i2, i3, i4⟩ := ih
    have hd := dem_i t (gt l k)
    unfold Inv
    generalize hn : stA t l (k + 1) = b at *
    generalize ha : stA t l k = a at *
    subst hs
    unfold nxt
    by_cases c1 : a.Level ≤ dem t (gt l k)
    · rw [if_pos c1]
      exact ⟨hd.1, hd.2, by omega, .inl rfl⟩
    rw [if_neg c1]
    by_cases c2 : 3 ≤ a.Level ∧ 0 ≤ (gt l k).Crest
    · rw [if_pos c2]
      exact ⟨i1, i2, by omega, .inl rfl⟩
    rw [if_neg c2]
    have hk : 1 ≤ k := by
      cases k with
      | zero => have := i3 rfl; omega
      | succ k => omega
    rcases i4 with i4 | ⟨i4, j, rfl, j1, j2, j3, j4, j5⟩ | ⟨i4, j, rfl, j1, j2, j3, j4, j5, j6, j7⟩
    · simp only [i4]
      rw [if_neg (by decide), if_neg (by decide)]
      refine ⟨i1, i2, by omega, .inr (.inl ⟨(by decide +kernel : w64 (0 + 1) = 1), k, rfl, hk, rfl, by dsimp only; omega, by rw [ha], fun h3 => ?_⟩)⟩
      have h3' : a.Level = 3 := h3
      omega
    · simp only [i4]
      rw [if_neg (by decide), if_pos (by decide)]
      refine ⟨i1, i2, by omega, .inr (.inr ⟨(by decide +kernel : w64 (1 + 1) = 2), j, rfl, j1, ?_, j3, by dsimp only; omega, j4, by rw [ha], fun h3 => ?_⟩)⟩
      · show max (dem t (gt l _)) a.Then = _
        rw [j2]
      · have h3' : a.Level = 3 := h3
        exact ⟨j5 h3', by omega⟩
    · simp only [i4]
      have hx : (if (2 : Int) ≠ 0 then max (dem t (gt l ((j + 2 : Nat) : Int))) a.Then else dem t (gt l ((j + 2 : Nat) : Int))) = max (dem t (gt l ((j + 2 : Nat) : Int))) a.Then := if_pos (by decide)
      have hb : 0 ≤ max (dem t (gt l ((j + 2 : Nat) : Int))) a.Then ∧ max (dem t (gt l ((j + 2 : Nat) : Int))) a.Then ≤ 3 := by rw [j2]; omega
      rw [if_pos (by decide)]
      refine ⟨?_, ?_, by omega, .inl rfl⟩
      · exact hb.1
      · exact hb.2

theorem lvl_ge (t : GTown) (l : List GSight) {k : Nat} (h : k < l.length) : dem t (gt l k) ≤ (stA t l (k + 1)).Level := by
  have hs := stA_succ t (l := l) (k := k) h
  rw [hs]
  have hd := dem_i t (gt l k)
  simp only [nxt]
  repeat' split
  all_goals (dsimp only; omega)

theorem orders_1 (t : GTown) {l : List GSight} {k : Nat} (h : k < l.length) (h0 : 0 ≤ t.Lead) (h1 : t.Lead ≤ 24) : ¬ (((0 ≤ (gt l k).Crest ∧ (gt l k).Crest ≤ t.Lead + 1) ∧ (gt (runL t l l.length) k).Level ≠ 3) ∨ (gt (runL t l l.length) k).Level < dem t (gt l k)) := by
  rw [gt_runL t l l.length k h]
  have hv := lvl_ge t l h
  have h3 := (inv_all t l (k + 1) (by omega)).2.1
  rintro (⟨⟨c1, c2⟩, c3⟩ | c)
  · have : dem t (gt l k) = 3 := by
      unfold dem
      rw [w64_in (by unfold inI64; omega), if_pos ⟨c1, c2⟩]
    omega
  · omega
/-- What a step that leaves its level tells. -/
theorem falls (t : GTown) {l : List GSight} {k : Nat} (h : k < l.length) (hf : (stA t l (k + 1)).Level < (stA t l k).Level) :
    ∃ j : Nat, k = j + 2 ∧ 1 ≤ j ∧ (stA t l (k + 1)).Level = max (dem t (gt l k)) (max (dem t (gt l (j + 1 : Nat))) (dem t (gt l j))) ∧ dem t (gt l k) < (stA t l k).Level ∧ dem t (gt l j) < (stA t l k).Level ∧ dem t (gt l (j + 1 : Nat)) < (stA t l k).Level ∧
      (stA t l j).Level = (stA t l k).Level ∧ (stA t l (j + 1)).Level = (stA t l k).Level ∧ ((stA t l k).Level = 3 → (gt l k).Crest < 0 ∧ (gt l j).Crest < 0 ∧ (gt l (j + 1 : Nat)).Crest < 0) := by
  obtain ⟨i1, i2, i3, i4⟩ := inv_all t l k (by omega)
  have hs := stA_succ t (l := l) (k := k) h
  generalize hn : stA t l (k + 1) = b at *
  generalize ha : stA t l k = a at *
  subst hs
  unfold nxt at hf ⊢
  by_cases c1 : a.Level ≤ dem t (gt l k)
  · rw [if_pos c1] at hf; have hf' : dem t (gt l k) < a.Level := hf; omega
  rw [if_neg c1] at hf ⊢
  by_cases c2 : 3 ≤ a.Level ∧ 0 ≤ (gt l k).Crest
  · rw [if_pos c2] at hf; have hf' : a.Level < a.Level := hf; omega
  rw [if_neg c2] at hf ⊢
  rcases i4 with i4 | ⟨i4, j, rfl, j1, j2, j3, j4, j5⟩ | ⟨i4, j, rfl, j1, j2, j3, j4, j5, j6, j7⟩
  · simp only [i4] at hf; rw [if_neg (by decide)] at hf; have hf' : a.Level < a.Level := hf; omega
  · simp only [i4] at hf; rw [if_neg (by decide)] at hf; have hf' : a.Level < a.Level := hf; omega
  · simp only [i4]
    rw [if_pos (by decide)]
    refine ⟨j, rfl, j1, ?_, by omega, j3, j4, j5, j6, fun h3 => ⟨by omega, (j7 h3).1, (j7 h3).2⟩⟩
    show (if (2 : Int) ≠ 0 then max (dem t (gt l ((j + 2 : Nat) : Int))) a.Then else dem t (gt l ((j + 2 : Nat) : Int))) = _
    rw [if_pos (by decide), j2]
theorem falls_1 (t : GTown) {l : List GSight} {k : Nat} (h : k < l.length) : ¬ ((stA t l k).Level < (gt (runL t l l.length) k).Level ∧ (gt (runL t l l.length) k).Level ≠ dem t (gt l k)) := by
  rw [gt_runL t l l.length k h]
  rintro ⟨c1, c2⟩
  obtain ⟨i1, i2, i3, i4⟩ := inv_all t l k (by omega)
  have hs := stA_succ t (l := l) (k := k) h
  rw [hs] at c1 c2
  have h2 : (stA t l k).Calm = 2 → (stA t l k).Then < (stA t l k).Level := by
    intro e
    rcases i4 with i4 | ⟨i4, _⟩ | ⟨i4, j, rfl, j1, j2, j3, j4, _⟩
    · omega
    · omega
    · rw [j2]; omega
  have h3 : (stA t l k).Calm = 0 ∨ (stA t l k).Calm = 1 ∨ (stA t l k).Calm = 2 := by
    rcases i4 with i4 | ⟨i4, _⟩ | ⟨i4, _⟩
    · exact .inl i4
    · exact .inr (.inl i4)
    · exact .inr (.inr i4)
  simp only [nxt] at c1 c2
  split at c1
  · rename_i hc
    rw [if_pos hc] at c2
    exact c2 rfl
  · rename_i hc
    rw [if_neg hc] at c2
    split at c1
    · have c1' : (stA t l k).Level < (stA t l k).Level := c1
      omega
    · split at c1
      · rename_i hc2
        have h4 : (stA t l k).Calm = 2 := by omega
        have h5 := h2 h4
        rw [h4] at c1
        rw [if_pos (by decide)] at c1
        have c1' : (stA t l k).Level < max (dem t (gt l k)) (stA t l k).Then := c1
        omega
      · have c1' : (stA t l k).Level < (stA t l k).Level := c1
        omega
theorem falls_2 (t : GTown) {l : List GSight} {k : Nat} (h : k < l.length) (c1 : (gt (runL t l l.length) k).Level < (stA t l k).Level) : ¬ (k : Int) < 3 := by
  rw [gt_runL t l l.length k h] at c1
  obtain ⟨j, rfl, hj, _⟩ := falls t h c1
  omega
theorem falls_3 (t : GTown) {l : List GSight} {k : Nat} (h : k < l.length) (c1 : (gt (runL t l l.length) k).Level < (stA t l k).Level) :
    ¬ ((((((stA t l k).Level ≤ max (max (dem t (gt l k)) (dem t (gt l ((k : Int) - 1)))) (dem t (gt l ((k : Int) - 2)))) ∨ (gt (runL t l l.length) k).Level ≠ max (max (dem t (gt l k)) (dem t (gt l ((k : Int) - 1)))) (dem t (gt l ((k : Int) - 2)))) ∨
      (gt (runL t l l.length) ((k : Int) - 1)).Level ≠ (stA t l k).Level) ∨ (gt (runL t l l.length) ((k : Int) - 2)).Level ≠ (stA t l k).Level) ∨ (gt (runL t l l.length) ((k : Int) - 3)).Level ≠ (stA t l k).Level) := by
  rw [gt_runL t l l.length k h] at c1 ⊢
  obtain ⟨j, rfl, hj, j1, j2, j3, j4, j5, j6, _⟩ := falls t h c1
  obtain ⟨i, rfl⟩ : ∃ i, j = i + 1 := ⟨j - 1, by omega⟩
  have e1 : ((i + 1 + 2 : Nat) : Int) - 1 = (i + 1 + 1 : Nat) := by omega
  have e2 : ((i + 1 + 2 : Nat) : Int) - 2 = (i + 1 : Nat) := by omega
  have e3 : ((i + 1 + 2 : Nat) : Int) - 3 = (i : Nat) := by omega
  rw [e1, e2, e3, gt_runL t l l.length (i + 1 + 1) (by omega), gt_runL t l l.length (i + 1) (by omega), gt_runL t l l.length i (by omega)]
  rw [show i + 1 + 1 + 1 = i + 1 + 2 from rfl, j1]
  omega
theorem orders_2 (t : GTown) {l : List GSight} {k : Nat} (h : k < l.length) (c1 : ¬ ((((k : Int) = 0) ∨ (gt (runL t l l.length) ((k : Int) - 1)).Level ≠ 3) ∨ (gt (runL t l l.length) k).Level = 3)) :
    ¬ ((((k : Int) < 3 ∨ 0 ≤ (gt l k).Crest) ∨ 0 ≤ (gt l ((k : Int) - 1)).Crest) ∨ 0 ≤ (gt l ((k : Int) - 2)).Crest) := by
  rw [gt_runL t l l.length k h] at c1
  have hk : ¬ ((k : Int) = 0) := fun e => c1 (.inl (.inl e))
  obtain ⟨m, rfl⟩ : ∃ m, k = m + 1 := ⟨k - 1, by omega⟩
  have e1 : ((m + 1 : Nat) : Int) - 1 = (m : Nat) := by omega
  rw [e1, gt_runL t l l.length m (by omega)] at c1
  have h3 := (inv_all t l (m + 1 + 1) (by omega)).2.1
  have hm : (stA t l (m + 1)).Level = 3 := by
    by_cases e : (stA t l (m + 1)).Level = 3
    · exact e
    · exact absurd (.inl (.inr e)) c1
  obtain ⟨j, hj, j1, _, _, _, _, _, _, hc⟩ := falls t h (by
    have : ¬ (stA t l (m + 1 + 1)).Level = 3 := fun e => c1 (.inr e)
    omega)
  obtain ⟨d1, d2, d3⟩ := hc hm
  have hmj : m = j + 1 := by omega
  subst hmj
  have e2 : ((j + 1 + 1 : Nat) : Int) - 2 = (j : Nat) := by omega
  rw [e1, e2]
  omega

set_option maxRecDepth 10000 in
theorem demand_ret {S : Nat → Prop} {L : List HP} {h : Heap} (hs : St S L h) {v_t : Value} {t : GTown} (h_t : Rd S h RGTown v_t t) {v_s : Value} {s : GSight} (h_s : Rd S h RGSight v_s s) :
    Ret Try.prog 12 #[v_t, v_s] S h (fun v S' h' => v = .int .i64 (dem t s) ∧ inI64 (dem t s) ∧ St S' (L) h') := by
  refine Ret.go (l := [v_t, v_s]) 38 Try.func12 rfl Try.ntmps12 rfl fun B => ?_
  refine WF.seq ?_
  refine WF.rl ?_
  refine LF.boxp rfl h_t (fun e => by cases e) rfl hs fun q1 S2 h3 hs4 e5 k6 => ?_
  have k7 := h_s.mono e5
  refine LF.boxp rfl k7 (fun e => by cases e) rfl hs4 fun q8 S9 h10 hs11 e12 k13 => ?_
  refine LF.q 1 ?_
  refine QF.as_ rfl rfl ?_
  refine QF.ln ?_
  refine LF.nil (sb 4 rfl (sb 3 rfl (sb 2 rfl sb0))) ?_
  refine WF.seq ?_
  refine WF.block ?_
  refine WF.seq ?_
  refine WF.rp (.inl rfl) ?_
  refine QF.fa rfl k13 GSight.f_Crest fa_32_0 rfl fun q14 k15 => ?_
  refine QF.ldi ckP hs11.1 rfl k15 ty_3 rfl fun r16 => ?_
  refine QF.geq rfl rfl rfl ?_
  refine QF.mv rfl rfl ?_
  refine QF.cutv 7 16 (.bool ((decide (0 ≤ s.Crest)) && (decide (s.Crest ≤ (w64 (t.Lead + 1)))))) ?_ ?_
  · cases c17 : (decide (0 ≤ s.Crest))
    · skip
      have c17p := of_decide_eq_false c17
      refine QF.gnF rfl rfl rfl rfl rfl ?_
      refine QF.gnF rfl rfl rfl rfl rfl ?_
      refine QF.gnF rfl rfl rfl rfl rfl ?_
      refine QF.gnF rfl rfl rfl rfl rfl ?_
      refine QF.gnF rfl rfl rfl rfl rfl ?_
      refine QF.gnF rfl rfl rfl rfl rfl ?_
      refine QF.pick rfl rfl rfl ?_
      exact QF.cutn (sb 16 rfl (sb 9 rfl (sb 8 rfl (sb 7 rfl (sb 6 rfl (sb 4 rfl (sb 3 rfl (sb 2 rfl sb0))))))))
    · skip
      have c17p := of_decide_eq_true c17
      refine QF.gy rfl rfl rfl ?_
      refine QF.fa rfl k13 GSight.f_Crest fa_32_0 rfl fun q18 k19 => ?_
      refine QF.gy rfl rfl rfl ?_
      refine QF.ldi ckP hs11.1 rfl k19 ty_3 rfl fun r20 => ?_
      refine QF.gy rfl rfl rfl ?_
      have k21 := k6.mono e12
      refine QF.fa rfl k21 GTown.f_Lead fa_23_3 rfl fun q22 k23 => ?_
      refine QF.gy rfl rfl rfl ?_
      refine QF.ldi ckP hs11.1 rfl k23 ty_3 rfl fun r24 => ?_
      refine QF.gy rfl rfl rfl ?_
      refine QF.addw rfl rfl rfl ?_
      refine QF.gy rfl rfl rfl ?_
      refine QF.leq rfl rfl rfl ?_
      refine QF.pick rfl rfl rfl ?_
      exact QF.cutn (sb 16 rfl (sb 9 rfl (sb 8 rfl (sb 7 rfl (sb 6 rfl (sb 4 rfl (sb 3 rfl (sb 2 rfl sb0))))))))
  refine QF.as_ rfl rfl ?_
  refine QF.rp0 ?_
  refine WF.if_ rfl (fun c25 => ?_) (fun c25 => ?_)
  · skip
    replace c25 : ((0 ≤ s.Crest) ∧ (s.Crest ≤ (w64 (t.Lead + 1)))) := by simpa using c25
    refine WF.seq ?_
    refine WF.rp (.inl rfl) ?_
    refine QF.as_ rfl rfl ?_
    refine QF.rpn (sb 4 rfl sb0) ?_
    refine WF.ret (fun aa ww hf hw => ?_)
    have q26 : (3 : Int) = dem t s := by (simp only [dem]; repeat' split) <;> first | rfl | omega | (simp_all; done) | (simp_all; omega)
    exact rtg hf rfl hw (rvc (rvT hf (v := _) rfl) rv0) rfl (e5.trans e12) ⟨(congrArg (Value.int .i64) q26), (by rw [← q26]; exact (show inI64 3 by first | assumption | exact w64_i _ | (unfold inI64 at *; omega))), hs11⟩
  replace c25 : ¬ ((0 ≤ s.Crest) ∧ (s.Crest ≤ (w64 (t.Lead + 1)))) := by simpa using c25
  refine WF.seq ?_
  refine WF.rp (.inl rfl) ?_
  refine QF.fa rfl k13 GSight.f_Crest fa_32_0 rfl fun q27 k28 => ?_
  refine QF.ldi ckP hs11.1 rfl k28 ty_3 rfl fun r29 => ?_
  refine QF.geq rfl rfl rfl ?_
  refine QF.mv rfl rfl ?_
  refine QF.cutv 8 29 (.bool ((decide (0 ≤ s.Crest)) && (decide (s.Crest ≤ (w64 ((w64 (2 * t.Lead)) + 2)))))) ?_ ?_
  · cases c30 : (decide (0 ≤ s.Crest))
    · skip
      have c30p := of_decide_eq_false c30
      refine QF.gnF rfl rfl rfl rfl rfl ?_
      refine QF.gnF rfl rfl rfl rfl rfl ?_
      refine QF.gnF rfl rfl rfl rfl rfl ?_
      refine QF.gnF rfl rfl rfl rfl rfl ?_
      refine QF.gnF rfl rfl rfl rfl rfl ?_
      refine QF.gnF rfl rfl rfl rfl rfl ?_
      refine QF.gnF rfl rfl rfl rfl rfl ?_
      refine QF.pick rfl rfl rfl ?_
      exact QF.cutn (sb 29 rfl (sb 21 rfl (sb 20 rfl (sb 19 rfl (sb 18 rfl (sb 5 rfl (sb 16 rfl (sb 9 rfl (sb 8 rfl (sb 7 rfl (sb 6 rfl (sb 4 rfl (sb 3 rfl (sb 2 rfl sb0))))))))))))))
    · skip
      have c30p := of_decide_eq_true c30
      refine QF.gy rfl rfl rfl ?_
      refine QF.fa rfl k13 GSight.f_Crest fa_32_0 rfl fun q31 k32 => ?_
      refine QF.gy rfl rfl rfl ?_
      refine QF.ldi ckP hs11.1 rfl k32 ty_3 rfl fun r33 => ?_
      refine QF.gy rfl rfl rfl ?_
      have k34 := k6.mono e12
      refine QF.fa rfl k34 GTown.f_Lead fa_23_3 rfl fun q35 k36 => ?_
      refine QF.gy rfl rfl rfl ?_
      refine QF.ldi ckP hs11.1 rfl k36 ty_3 rfl fun r37 => ?_
      refine QF.gy rfl rfl rfl ?_
      refine QF.mulw rfl rfl rfl ?_
      refine QF.gy rfl rfl rfl ?_
      refine QF.addw rfl rfl rfl ?_
      refine QF.gy rfl rfl rfl ?_
      refine QF.leq rfl rfl rfl ?_
      refine QF.pick rfl rfl rfl ?_
      exact QF.cutn (sb 29 rfl (sb 21 rfl (sb 20 rfl (sb 19 rfl (sb 18 rfl (sb 5 rfl (sb 16 rfl (sb 9 rfl (sb 8 rfl (sb 7 rfl (sb 6 rfl (sb 4 rfl (sb 3 rfl (sb 2 rfl sb0))))))))))))))
  refine QF.as_ rfl rfl ?_
  refine QF.rpn (sb 17 rfl (sb 4 rfl (sb 3 rfl sb0))) ?_
  refine WF.if_ rfl (fun c38 => ?_) (fun c38 => ?_)
  · skip
    replace c38 : ((0 ≤ s.Crest) ∧ (s.Crest ≤ (w64 ((w64 (2 * t.Lead)) + 2)))) := by simpa using c38
    refine WF.seq ?_
    refine WF.rp (.inl rfl) ?_
    refine QF.as_ rfl rfl ?_
    refine QF.rpn (sb 4 rfl sb0) ?_
    refine WF.ret (fun aa ww hf hw => ?_)
    have q39 : (2 : Int) = dem t s := by (simp only [dem]; repeat' split) <;> first | rfl | omega | (simp_all; done) | (simp_all; omega)
    exact rtg hf rfl hw (rvc (rvT hf (v := _) rfl) rv0) rfl (e5.trans e12) ⟨(congrArg (Value.int .i64) q39), (by rw [← q39]; exact (show inI64 2 by first | assumption | exact w64_i _ | (unfold inI64 at *; omega))), hs11⟩
  replace c38 : ¬ ((0 ≤ s.Crest) ∧ (s.Crest ≤ (w64 ((w64 (2 * t.Lead)) + 2)))) := by simpa using c38
  refine WF.seq ?_
  refine WF.rp (.inl rfl) ?_
  refine QF.fa rfl k13 GSight.f_Crest fa_32_0 rfl fun q40 k41 => ?_
  refine QF.ldi ckP hs11.1 rfl k41 ty_3 rfl fun r42 => ?_
  refine QF.geq rfl rfl rfl ?_
  refine QF.mv rfl rfl ?_
  refine QF.cutv 3 37 (.bool ((decide (0 ≤ s.Crest)) || s.Quorum)) ?_ ?_
  · cases c43 : (decide (0 ≤ s.Crest))
    · skip
      have c43p := of_decide_eq_false c43
      refine QF.gy rfl rfl rfl ?_
      refine QF.fa rfl k13 GSight.f_Quorum fa_32_1 rfl fun q44 k45 => ?_
      refine QF.gy rfl rfl rfl ?_
      refine QF.ldb ckP hs11.1 rfl k45 ty_4 rfl ?_
      refine QF.pick rfl rfl rfl ?_
      exact QF.cutn (sb 37 rfl (sb 34 rfl (sb 33 rfl (sb 32 rfl (sb 31 rfl (sb 17 rfl (sb 4 rfl (sb 3 rfl sb0))))))))
    · skip
      have c43p := of_decide_eq_true c43
      refine QF.gnT rfl rfl rfl rfl rfl ?_
      refine QF.gnT rfl rfl rfl rfl rfl ?_
      refine QF.pick rfl rfl rfl ?_
      exact QF.cutn (sb 37 rfl (sb 34 rfl (sb 33 rfl (sb 32 rfl (sb 31 rfl (sb 17 rfl (sb 4 rfl (sb 3 rfl sb0))))))))
  refine QF.as_ rfl rfl ?_
  refine QF.rp0 ?_
  refine WF.if_ rfl (fun c46 => ?_) (fun c46 => ?_)
  · skip
    replace c46 : ((0 ≤ s.Crest) ∨ (s.Quorum = true)) := by simpa using c46
    refine WF.seq ?_
    refine WF.rp (.inl rfl) ?_
    refine QF.as_ rfl rfl ?_
    refine QF.rpn (sb 4 rfl sb0) ?_
    refine WF.ret (fun aa ww hf hw => ?_)
    have q47 : (1 : Int) = dem t s := by (simp only [dem]; repeat' split) <;> first | rfl | omega | (simp_all; done) | (simp_all; omega)
    exact rtg hf rfl hw (rvc (rvT hf (v := _) rfl) rv0) rfl (e5.trans e12) ⟨(congrArg (Value.int .i64) q47), (by rw [← q47]; exact (show inI64 1 by first | assumption | exact w64_i _ | (unfold inI64 at *; omega))), hs11⟩
  replace c46 : ¬ ((0 ≤ s.Crest) ∨ (s.Quorum = true)) := by simpa using c46
  refine WF.skip ?_
  refine WF.nilW ?_
  refine WF.seq ?_
  refine WF.rp (.inl rfl) ?_
  refine QF.as_ rfl rfl ?_
  refine QF.rpn (sb 4 rfl sb0) ?_
  refine WF.ret (fun aa ww hf hw => ?_)
  have q48 : (0 : Int) = dem t s := by (simp only [dem]; repeat' split) <;> first | rfl | omega | (simp_all; done) | (simp_all; omega)
  exact rtg hf rfl hw (rvc (rvT hf (v := _) rfl) rv0) rfl (e5.trans e12) ⟨(congrArg (Value.int .i64) q48), (by rw [← q48]; exact (show inI64 0 by first | assumption | exact w64_i _ | (unfold inI64 at *; omega))), hs11⟩

set_option maxRecDepth 10000 in
theorem rdemand_ret {S : Nat → Prop} {L : List HP} {h : Heap} (hs : St S L h) {v_t : Value} {t : GTown} (h_t : Rd S h RGTown v_t t) {v_s : Value} {s : GSight} (h_s : Rd S h RGSight v_s s) :
    Ret Try.prog 11 #[v_t, v_s] S h (fun v S' h' => v = .int .i64 (dem t s) ∧ inI64 (dem t s) ∧ St S' (L) h') := by
  refine Ret.go (l := [v_t, v_s]) 23 Try.func11 rfl Try.ntmps11 rfl fun B => ?_
  refine WF.seq ?_
  refine WF.rl ?_
  refine LF.boxp rfl h_t (fun e => by cases e) rfl hs fun q1 S2 h3 hs4 e5 k6 => ?_
  have k7 := h_s.mono e5
  refine LF.boxp rfl k7 (fun e => by cases e) rfl hs4 fun q8 S9 h10 hs11 e12 k13 => ?_
  refine LF.q 1 ?_
  refine QF.as_ rfl rfl ?_
  refine QF.ln ?_
  refine LF.nil (sb 4 rfl (sb 3 rfl (sb 2 rfl sb0))) ?_
  refine WF.seq ?_
  refine WF.seq ?_
  refine WF.rp (.inl rfl) ?_
  refine QF.fa rfl k13 GSight.f_Crest fa_32_0 rfl fun q14 k15 => ?_
  refine QF.ldi ckP hs11.1 rfl k15 ty_3 rfl fun r16 => ?_
  refine QF.lss rfl rfl rfl ?_
  refine QF.rp0 ?_
  refine WF.ifp rfl (fun c17 => ?_) (fun c17 => ?_)
  · skip
    refine WF.seq ?_
    refine WF.seq ?_
    refine WF.rp (.inl rfl) ?_
    refine QF.fa rfl k13 GSight.f_Quorum fa_32_1 rfl fun q18 k19 => ?_
    refine QF.ldb ckP hs11.1 rfl k19 ty_4 rfl ?_
    refine QF.rp0 ?_
    refine WF.if_ rfl (fun c20 => ?_) (fun c20 => ?_)
    · skip
      refine WF.seq ?_
      refine WF.rp (.inl rfl) ?_
      refine QF.as_ rfl rfl ?_
      refine QF.rpn (sb 4 rfl (sb 3 rfl (sb 2 rfl sb0))) ?_
      refine WF.ret (fun aa ww hf hw => ?_)
      have q21 : (1 : Int) = dem t s := by (simp only [dem]; repeat' split) <;> first | rfl | omega | (simp_all; done) | (simp_all; omega)
      exact rtg hf rfl hw (rvc (rvT hf (v := _) rfl) rv0) rfl (e5.trans e12) ⟨(congrArg (Value.int .i64) q21), (by rw [← q21]; exact (show inI64 1 by first | assumption | exact w64_i _ | (unfold inI64 at *; omega))), hs11⟩
    refine WF.skip ?_
    refine WF.seq ?_
    refine WF.rp (.inl rfl) ?_
    refine QF.as_ rfl rfl ?_
    refine QF.rpn (sb 4 rfl (sb 3 rfl (sb 2 rfl sb0))) ?_
    refine WF.ret (fun aa ww hf hw => ?_)
    have q22 : (0 : Int) = dem t s := by (simp only [dem]; repeat' split) <;> first | rfl | omega | (simp_all; done) | (simp_all; omega)
    exact rtg hf rfl hw (rvc (rvT hf (v := _) rfl) rv0) rfl (e5.trans e12) ⟨(congrArg (Value.int .i64) q22), (by rw [← q22]; exact (show inI64 0 by first | assumption | exact w64_i _ | (unfold inI64 at *; omega))), hs11⟩
  refine WF.skip ?_
  refine WF.seq ?_
  refine WF.seq ?_
  refine WF.rp (.inl rfl) ?_
  refine QF.fa rfl k13 GSight.f_Crest fa_32_0 rfl fun q23 k24 => ?_
  refine QF.ldi ckP hs11.1 rfl k24 ty_3 rfl fun r25 => ?_
  have k26 := k6.mono e12
  refine QF.fa rfl k26 GTown.f_Lead fa_23_3 rfl fun q27 k28 => ?_
  refine QF.ldi ckP hs11.1 rfl k28 ty_3 rfl fun r29 => ?_
  refine QF.addw rfl rfl rfl ?_
  refine QF.leq rfl rfl rfl ?_
  refine QF.rpn (sb 15 rfl (sb 4 rfl (sb 3 rfl (sb 2 rfl sb0)))) ?_
  refine WF.ifp rfl (fun c30 => ?_) (fun c30 => ?_)
  · skip
    refine WF.seq ?_
    refine WF.rp (.inl rfl) ?_
    refine QF.as_ rfl rfl ?_
    refine QF.rpn (sb 4 rfl (sb 3 rfl (sb 2 rfl sb0))) ?_
    refine WF.ret (fun aa ww hf hw => ?_)
    have q31 : (3 : Int) = dem t s := by (simp only [dem]; repeat' split) <;> first | rfl | omega | (simp_all; done) | (simp_all; omega)
    exact rtg hf rfl hw (rvc (rvT hf (v := _) rfl) rv0) rfl (e5.trans e12) ⟨(congrArg (Value.int .i64) q31), (by rw [← q31]; exact (show inI64 3 by first | assumption | exact w64_i _ | (unfold inI64 at *; omega))), hs11⟩
  refine WF.skip ?_
  refine WF.seq ?_
  refine WF.seq ?_
  refine WF.rp (.inl rfl) ?_
  refine QF.fa rfl k13 GSight.f_Crest fa_32_0 rfl fun q32 k33 => ?_
  refine QF.ldi ckP hs11.1 rfl k33 ty_3 rfl fun r34 => ?_
  refine QF.fa rfl k26 GTown.f_Lead fa_23_3 rfl fun q35 k36 => ?_
  refine QF.ldi ckP hs11.1 rfl k36 ty_3 rfl fun r37 => ?_
  refine QF.mulw rfl rfl rfl ?_
  refine QF.addw rfl rfl rfl ?_
  refine QF.leq rfl rfl rfl ?_
  refine QF.rpn (sb 22 rfl (sb 4 rfl sb0)) ?_
  refine WF.ifp rfl (fun c38 => ?_) (fun c38 => ?_)
  · skip
    refine WF.seq ?_
    refine WF.rp (.inl rfl) ?_
    refine QF.as_ rfl rfl ?_
    refine QF.rpn (sb 4 rfl sb0) ?_
    refine WF.ret (fun aa ww hf hw => ?_)
    have q39 : (2 : Int) = dem t s := by (simp only [dem]; repeat' split) <;> first | rfl | omega | (simp_all; done) | (simp_all; omega)
    exact rtg hf rfl hw (rvc (rvT hf (v := _) rfl) rv0) rfl (e5.trans e12) ⟨(congrArg (Value.int .i64) q39), (by rw [← q39]; exact (show inI64 2 by first | assumption | exact w64_i _ | (unfold inI64 at *; omega))), hs11⟩
  refine WF.skip ?_
  refine WF.seq ?_
  refine WF.rp (.inl rfl) ?_
  refine QF.as_ rfl rfl ?_
  refine QF.rpn (sb 4 rfl sb0) ?_
  refine WF.ret (fun aa ww hf hw => ?_)
  have q40 : (1 : Int) = dem t s := by (simp only [dem]; repeat' split) <;> first | rfl | omega | (simp_all; done) | (simp_all; omega)
  exact rtg hf rfl hw (rvc (rvT hf (v := _) rfl) rv0) rfl (e5.trans e12) ⟨(congrArg (Value.int .i64) q40), (by rw [← q40]; exact (show inI64 1 by first | assumption | exact w64_i _ | (unfold inI64 at *; omega))), hs11⟩

set_option maxRecDepth 10000 in
theorem next_ret {S : Nat → Prop} {L : List HP} {h : Heap} (hs : St S L h) {v_t : Value} {t : GTown} (h_t : Rd S h RGTown v_t t) {v_a : Value} {a : GAlarm} (h_a : Rd S h RGAlarm v_a a) {v_s : Value} {s : GSight} (h_s : Rd S h RGSight v_s s) :
    Ret Try.prog 9 #[v_t, v_a, v_s] S h (fun v S' h' => v = .agg (GAlarm.v (nxt t a s)).toArray ∧ GAlarm.ok (nxt t a s) ∧ St S' (L) h') := by
  refine Ret.go (l := [v_t, v_a, v_s]) 49 Try.func9 rfl Try.ntmps9 rfl fun B => ?_
  refine WF.seq ?_
  refine WF.rl ?_
  refine LF.boxp rfl h_t (fun e => by cases e) rfl hs fun q1 S2 h3 hs4 e5 k6 => ?_
  have k7 := h_a.mono e5
  refine LF.boxp rfl k7 (fun e => by cases e) rfl hs4 fun q8 S9 h10 hs11 e12 k13 => ?_
  have k14 := h_s.mono (e5.trans e12)
  refine LF.boxp rfl k14 (fun e => by cases e) rfl hs11 fun q15 S16 h17 hs18 e19 k20 => ?_
  refine LF.al zc_25 rfl hs18 fun b21 h22 hs23 e24 => ?_
  refine LF.nil (sb 6 rfl (sb 5 rfl (sb 4 rfl (sb 3 rfl sb0)))) ?_
  refine WF.seq ?_
  refine WF.rc (.inl rfl) hs23 ?_
  have k25 := k6.mono (e12.trans (e19.trans e24))
  refine QF.ld ckC hs23.1 rfl k25 ty_23 (fun e => by cases e) rfl fun v26 k27 => ?_
  have k28 := k20.mono e24
  refine QF.ld ckC hs23.1 rfl k28 ty_32 (fun e => by cases e) rfl fun v29 k30 => ?_
  refine QF.callp (v := .int .i64 (dem t s)) (Ψ := inI64 (dem t s)) rfl rfl rfl ca_12 rfl (fun h' o => (demand_ret (St.all h') (k27.mono (o.all hs23.1)) (k30.mono (o.all hs23.1))).mono fun _ _ _ _ p => ⟨p.1, p.2.1⟩) fun r31 => ?_
  refine QF.as_ rfl rfl ?_
  refine QF.rcn (sb 7 rfl (sb 6 rfl (sb 5 rfl (sb 4 rfl sb0)))) fun h32 hs33 e34 => ?_
  refine WF.seq ?_
  refine WF.seq ?_
  refine WF.rp (.inl rfl) ?_
  refine QF.mv rfl rfl ?_
  have k35 := k13.mono (e19.trans (e24.trans e34))
  refine QF.fa rfl k35 GAlarm.f_Level fa_25_0 rfl fun q36 k37 => ?_
  refine QF.ldi ckP hs33.1 rfl k37 ty_3 rfl fun r38 => ?_
  refine QF.geq rfl rfl rfl ?_
  refine QF.rp0 ?_
  refine WF.ifp rfl (fun c39 => ?_) (fun c39 => ?_)
  · skip
    refine WF.seq ?_
    refine WF.rl ?_
    refine LF.q 2 ?_
    refine QF.mv rfl rfl ?_
    refine QF.bld (cs := [.int .i64 (dem t s), .int .i64 0, .int .i64 0]) st_25 rfl rfl rfl ?_
    refine QF.ln ?_
    refine LF.st (vs := [.int .i64 (dem t s), .int .i64 0, .int .i64 0]) (cs' := [.int .i64 (dem t s), .int .i64 0, .int .i64 0]) rfl rfl rfl (by simp [Value.oneCell']) ty_25 rfl hs33 .head rfl rfl fun h40 hs41 e42 => ?_
    refine LF.nil (sb 7 rfl (sb 6 rfl (sb 5 rfl (sb 4 rfl sb0)))) ?_
    refine WF.ret (fun aa ww hf hw => ?_)
    have q43 : (⟨(dem t s), 0, 0⟩ : GAlarm) = nxt t a s := by (simp only [nxt]; repeat' split) <;> first | rfl | omega | (simp_all; done) | (simp_all; omega)
    exact rtg hf rfl hw (rvc (rvC hf hw hs41 rfl mh ty_25 rfl) rv0) rfl (e5.trans (e12.trans (e19.trans (e24.trans (e34.trans e42))))) ⟨(congrArg (fun x : GAlarm => Value.agg (GAlarm.v x).toArray) q43), (by rw [← q43]; exact ⟨r31, (show inI64 0 by first | assumption | exact w64_i _ | (unfold inI64 at *; omega)), (show inI64 0 by first | assumption | exact w64_i _ | (unfold inI64 at *; omega))⟩), (hs41.drop .head)⟩
  refine WF.skip ?_
  refine WF.seq ?_
  refine WF.seq ?_
  refine WF.rp (.inl rfl) ?_
  refine QF.fa rfl k35 GAlarm.f_Level fa_25_0 rfl fun q44 k45 => ?_
  refine QF.ldi ckP hs33.1 rfl k45 ty_3 rfl fun r46 => ?_
  refine QF.geq rfl rfl rfl ?_
  refine QF.mv rfl rfl ?_
  refine QF.cutv 4 25 (.bool ((decide (3 ≤ a.Level)) && (decide (0 ≤ s.Crest)))) ?_ ?_
  · cases c47 : (decide (3 ≤ a.Level))
    · skip
      have c47p := of_decide_eq_false c47
      refine QF.gnF rfl rfl rfl rfl rfl ?_
      refine QF.gnF rfl rfl rfl rfl rfl ?_
      refine QF.gnF rfl rfl rfl rfl rfl ?_
      refine QF.pick rfl rfl rfl ?_
      exact QF.cutn (sb 25 rfl (sb 21 rfl (sb 20 rfl (sb 19 rfl (sb 18 rfl (sb 15 rfl (sb 14 rfl (sb 13 rfl (sb 12 rfl (sb 7 rfl (sb 6 rfl (sb 5 rfl (sb 4 rfl sb0)))))))))))))
    · skip
      have c47p := of_decide_eq_true c47
      refine QF.gy rfl rfl rfl ?_
      have k48 := k28.mono e34
      refine QF.fa rfl k48 GSight.f_Crest fa_32_0 rfl fun q49 k50 => ?_
      refine QF.gy rfl rfl rfl ?_
      refine QF.ldi ckP hs33.1 rfl k50 ty_3 rfl fun r51 => ?_
      refine QF.gy rfl rfl rfl ?_
      refine QF.geq rfl rfl rfl ?_
      refine QF.pick rfl rfl rfl ?_
      exact QF.cutn (sb 25 rfl (sb 21 rfl (sb 20 rfl (sb 19 rfl (sb 18 rfl (sb 15 rfl (sb 14 rfl (sb 13 rfl (sb 12 rfl (sb 7 rfl (sb 6 rfl (sb 5 rfl (sb 4 rfl sb0)))))))))))))
  refine QF.rpn (sb 25 rfl (sb 7 rfl (sb 6 rfl (sb 4 rfl sb0)))) ?_
  refine WF.if_ rfl (fun c52 => ?_) (fun c52 => ?_)
  · skip
    replace c52 : ((3 ≤ a.Level) ∧ (0 ≤ s.Crest)) := by simpa using c52
    refine WF.seq ?_
    refine WF.rl ?_
    refine LF.q 3 ?_
    refine QF.fa rfl k35 GAlarm.f_Level fa_25_0 rfl fun q53 k54 => ?_
    refine QF.ldi ckP hs33.1 rfl k54 ty_3 rfl fun r55 => ?_
    refine QF.bld (cs := [.int .i64 a.Level, .int .i64 0, .int .i64 0]) st_25 rfl rfl rfl ?_
    refine QF.ln ?_
    refine LF.st (vs := [.int .i64 a.Level, .int .i64 0, .int .i64 0]) (cs' := [.int .i64 a.Level, .int .i64 0, .int .i64 0]) rfl rfl rfl (by simp [Value.oneCell']) ty_25 rfl hs33 .head rfl rfl fun h56 hs57 e58 => ?_
    refine LF.nil (sb 7 rfl (sb 6 rfl (sb 4 rfl sb0))) ?_
    refine WF.ret (fun aa ww hf hw => ?_)
    have q59 : (⟨a.Level, 0, 0⟩ : GAlarm) = nxt t a s := by (simp only [nxt]; repeat' split) <;> first | rfl | omega | (simp_all; done) | (simp_all; omega)
    exact rtg hf rfl hw (rvc (rvC hf hw hs57 rfl mh ty_25 rfl) rv0) rfl (e5.trans (e12.trans (e19.trans (e24.trans (e34.trans e58))))) ⟨(congrArg (fun x : GAlarm => Value.agg (GAlarm.v x).toArray) q59), (by rw [← q59]; exact ⟨r55, (show inI64 0 by first | assumption | exact w64_i _ | (unfold inI64 at *; omega)), (show inI64 0 by first | assumption | exact w64_i _ | (unfold inI64 at *; omega))⟩), (hs57.drop .head)⟩
  replace c52 : ¬ ((3 ≤ a.Level) ∧ (0 ≤ s.Crest)) := by simpa using c52
  refine WF.skip ?_
  refine WF.seq ?_
  refine WF.rp (.inl rfl) ?_
  refine QF.mv rfl rfl ?_
  refine QF.as_ rfl rfl ?_
  refine QF.rp0 ?_
  refine WF.seq ?_
  refine WF.seq ?_
  refine WF.rp (.inl rfl) ?_
  refine QF.fa rfl k35 GAlarm.f_Calm fa_25_1 rfl fun q60 k61 => ?_
  refine QF.ldi ckP hs33.1 rfl k61 ty_3 rfl fun r62 => ?_
  refine QF.neq rfl rfl rfl ?_
  refine QF.rp0 ?_
  refine WF.ifp rfl (fun c63 => ?_) (fun c63 => ?_)
  · skip
    refine WF.rp (.inl rfl) ?_
    refine QF.mv rfl rfl ?_
    refine QF.fa rfl k35 GAlarm.f_Then fa_25_2 rfl fun q64 k65 => ?_
    refine QF.ldi ckP hs33.1 rfl k65 ty_3 rfl fun r66 => ?_
    refine QF.max rfl rfl rfl ?_
    refine QF.as_ rfl rfl ?_
    refine QF.rpn (sb 8 rfl (sb 6 rfl (sb 4 rfl sb0))) ?_
    refine WF.seq ?_
    refine WF.seq ?_
    refine WF.rp (.inl rfl) ?_
    refine QF.fa rfl k35 GAlarm.f_Calm fa_25_1 rfl fun q67 k68 => ?_
    refine QF.ldi ckP hs33.1 rfl k68 ty_3 rfl fun r69 => ?_
    refine QF.geq rfl rfl rfl ?_
    refine QF.rp0 ?_
    refine WF.ifp rfl (fun c70 => ?_) (fun c70 => ?_)
    · skip
      refine WF.seq ?_
      refine WF.rl ?_
      refine LF.q 2 ?_
      refine QF.mv rfl rfl ?_
      refine QF.bld (cs := [.int .i64 (max (dem t s) a.Then), .int .i64 0, .int .i64 0]) st_25 rfl rfl rfl ?_
      refine QF.ln ?_
      refine LF.st (vs := [.int .i64 (max (dem t s) a.Then), .int .i64 0, .int .i64 0]) (cs' := [.int .i64 (max (dem t s) a.Then), .int .i64 0, .int .i64 0]) rfl rfl rfl (by simp [Value.oneCell']) ty_25 rfl hs33 .head rfl rfl fun h71 hs72 e73 => ?_
      refine LF.nil (sb 8 rfl (sb 6 rfl (sb 4 rfl sb0))) ?_
      refine WF.ret (fun aa ww hf hw => ?_)
      have q74 : (⟨(max (dem t s) a.Then), 0, 0⟩ : GAlarm) = nxt t a s := by (simp only [nxt]; repeat' split) <;> first | rfl | omega | (simp_all; done) | (simp_all; omega)
      exact rtg hf rfl hw (rvc (rvC hf hw hs72 rfl mh ty_25 rfl) rv0) rfl (e5.trans (e12.trans (e19.trans (e24.trans (e34.trans e73))))) ⟨(congrArg (fun x : GAlarm => Value.agg (GAlarm.v x).toArray) q74), (by rw [← q74]; exact ⟨(show inI64 (max (dem t s) a.Then) by first | assumption | exact w64_i _ | (unfold inI64 at *; omega)), (show inI64 0 by first | assumption | exact w64_i _ | (unfold inI64 at *; omega)), (show inI64 0 by first | assumption | exact w64_i _ | (unfold inI64 at *; omega))⟩), (hs72.drop .head)⟩
    refine WF.skip ?_
    refine WF.seq ?_
    refine WF.rl ?_
    refine LF.q 7 ?_
    refine QF.fa rfl k35 GAlarm.f_Level fa_25_0 rfl fun q75 k76 => ?_
    refine QF.ldi ckP hs33.1 rfl k76 ty_3 rfl fun r77 => ?_
    refine QF.fa rfl k35 GAlarm.f_Calm fa_25_1 rfl fun q78 k79 => ?_
    refine QF.ldi ckP hs33.1 rfl k79 ty_3 rfl fun r80 => ?_
    refine QF.addw rfl rfl rfl ?_
    refine QF.mv rfl rfl ?_
    refine QF.bld (cs := [.int .i64 a.Level, .int .i64 (w64 (a.Calm + 1)), .int .i64 (max (dem t s) a.Then)]) st_25 rfl rfl rfl ?_
    refine QF.ln ?_
    refine LF.st (vs := [.int .i64 a.Level, .int .i64 (w64 (a.Calm + 1)), .int .i64 (max (dem t s) a.Then)]) (cs' := [.int .i64 a.Level, .int .i64 (w64 (a.Calm + 1)), .int .i64 (max (dem t s) a.Then)]) rfl rfl rfl (by simp [Value.oneCell']) ty_25 rfl hs33 .head rfl rfl fun h81 hs82 e83 => ?_
    refine LF.nil (sb 6 rfl sb0) ?_
    refine WF.ret (fun aa ww hf hw => ?_)
    have q84 : (⟨a.Level, (w64 (a.Calm + 1)), (max (dem t s) a.Then)⟩ : GAlarm) = nxt t a s := by (simp only [nxt]; repeat' split) <;> first | rfl | omega | (simp_all; done) | (simp_all; omega)
    exact rtg hf rfl hw (rvc (rvC hf hw hs82 rfl mh ty_25 rfl) rv0) rfl (e5.trans (e12.trans (e19.trans (e24.trans (e34.trans e83))))) ⟨(congrArg (fun x : GAlarm => Value.agg (GAlarm.v x).toArray) q84), (by rw [← q84]; exact ⟨r77, (w64_i _), (show inI64 (max (dem t s) a.Then) by first | assumption | exact w64_i _ | (unfold inI64 at *; omega))⟩), (hs82.drop .head)⟩
  refine WF.skip ?_
  refine WF.seq ?_
  refine WF.seq ?_
  refine WF.rp (.inl rfl) ?_
  refine QF.fa rfl k35 GAlarm.f_Calm fa_25_1 rfl fun q85 k86 => ?_
  refine QF.ldi ckP hs33.1 rfl k86 ty_3 rfl fun r87 => ?_
  refine QF.geq rfl rfl rfl ?_
  refine QF.rpn (sb 39 rfl (sb 8 rfl (sb 6 rfl (sb 4 rfl sb0)))) ?_
  refine WF.ifp rfl (fun c88 => ?_) (fun c88 => ?_)
  · skip
    refine WF.seq ?_
    refine WF.rl ?_
    refine LF.q 2 ?_
    refine QF.mv rfl rfl ?_
    refine QF.bld (cs := [.int .i64 (dem t s), .int .i64 0, .int .i64 0]) st_25 rfl rfl rfl ?_
    refine QF.ln ?_
    refine LF.st (vs := [.int .i64 (dem t s), .int .i64 0, .int .i64 0]) (cs' := [.int .i64 (dem t s), .int .i64 0, .int .i64 0]) rfl rfl rfl (by simp [Value.oneCell']) ty_25 rfl hs33 .head rfl rfl fun h89 hs90 e91 => ?_
    refine LF.nil (sb 8 rfl (sb 6 rfl (sb 4 rfl sb0))) ?_
    refine WF.ret (fun aa ww hf hw => ?_)
    have q92 : (⟨(dem t s), 0, 0⟩ : GAlarm) = nxt t a s := by (simp only [nxt]; repeat' split) <;> first | rfl | omega | (simp_all; done) | (simp_all; omega)
    exact rtg hf rfl hw (rvc (rvC hf hw hs90 rfl mh ty_25 rfl) rv0) rfl (e5.trans (e12.trans (e19.trans (e24.trans (e34.trans e91))))) ⟨(congrArg (fun x : GAlarm => Value.agg (GAlarm.v x).toArray) q92), (by rw [← q92]; exact ⟨r31, (show inI64 0 by first | assumption | exact w64_i _ | (unfold inI64 at *; omega)), (show inI64 0 by first | assumption | exact w64_i _ | (unfold inI64 at *; omega))⟩), (hs90.drop .head)⟩
  refine WF.skip ?_
  refine WF.seq ?_
  refine WF.rl ?_
  refine LF.q 7 ?_
  refine QF.fa rfl k35 GAlarm.f_Level fa_25_0 rfl fun q93 k94 => ?_
  refine QF.ldi ckP hs33.1 rfl k94 ty_3 rfl fun r95 => ?_
  refine QF.fa rfl k35 GAlarm.f_Calm fa_25_1 rfl fun q96 k97 => ?_
  refine QF.ldi ckP hs33.1 rfl k97 ty_3 rfl fun r98 => ?_
  refine QF.addw rfl rfl rfl ?_
  refine QF.mv rfl rfl ?_
  refine QF.bld (cs := [.int .i64 a.Level, .int .i64 (w64 (a.Calm + 1)), .int .i64 (dem t s)]) st_25 rfl rfl rfl ?_
  refine QF.ln ?_
  refine LF.st (vs := [.int .i64 a.Level, .int .i64 (w64 (a.Calm + 1)), .int .i64 (dem t s)]) (cs' := [.int .i64 a.Level, .int .i64 (w64 (a.Calm + 1)), .int .i64 (dem t s)]) rfl rfl rfl (by simp [Value.oneCell']) ty_25 rfl hs33 .head rfl rfl fun h99 hs100 e101 => ?_
  refine LF.nil (sb 6 rfl sb0) ?_
  refine WF.ret (fun aa ww hf hw => ?_)
  have q102 : (⟨a.Level, (w64 (a.Calm + 1)), (dem t s)⟩ : GAlarm) = nxt t a s := by (simp only [nxt]; repeat' split) <;> first | rfl | omega | (simp_all; done) | (simp_all; omega)
  exact rtg hf rfl hw (rvc (rvC hf hw hs100 rfl mh ty_25 rfl) rv0) rfl (e5.trans (e12.trans (e19.trans (e24.trans (e34.trans e101))))) ⟨(congrArg (fun x : GAlarm => Value.agg (GAlarm.v x).toArray) q102), (by rw [← q102]; exact ⟨r95, (w64_i _), r31⟩), (hs100.drop .head)⟩

set_option maxRecDepth 10000 in
theorem rnext_ret {S : Nat → Prop} {L : List HP} {h : Heap} (hs : St S L h) {v_t : Value} {t : GTown} (h_t : Rd S h RGTown v_t t) {v_a : Value} {a : GAlarm} (h_a : Rd S h RGAlarm v_a a) {v_s : Value} {s : GSight} (h_s : Rd S h RGSight v_s s) :
    Ret Try.prog 10 #[v_t, v_a, v_s] S h (fun v S' h' => v = .agg (GAlarm.v (nxt t a s)).toArray ∧ GAlarm.ok (nxt t a s) ∧ St S' (L) h') := by
  refine Ret.go (l := [v_t, v_a, v_s]) 53 Try.func10 rfl Try.ntmps10 rfl fun B => ?_
  refine WF.seq ?_
  refine WF.rl ?_
  refine LF.boxp rfl h_t (fun e => by cases e) rfl hs fun q1 S2 h3 hs4 e5 k6 => ?_
  have k7 := h_a.mono e5
  refine LF.boxp rfl k7 (fun e => by cases e) rfl hs4 fun q8 S9 h10 hs11 e12 k13 => ?_
  have k14 := h_s.mono (e5.trans e12)
  refine LF.boxp rfl k14 (fun e => by cases e) rfl hs11 fun q15 S16 h17 hs18 e19 k20 => ?_
  refine LF.al zc_25 rfl hs18 fun b21 h22 hs23 e24 => ?_
  refine LF.nil (sb 6 rfl (sb 5 rfl (sb 4 rfl (sb 3 rfl sb0)))) ?_
  refine WF.seq ?_
  refine WF.rc (.inl rfl) hs23 ?_
  have k25 := k6.mono (e12.trans (e19.trans e24))
  refine QF.ld ckC hs23.1 rfl k25 ty_23 (fun e => by cases e) rfl fun v26 k27 => ?_
  have k28 := k20.mono e24
  refine QF.ld ckC hs23.1 rfl k28 ty_32 (fun e => by cases e) rfl fun v29 k30 => ?_
  refine QF.callp (v := .int .i64 (dem t s)) (Ψ := inI64 (dem t s)) rfl rfl rfl ca_11 rfl (fun h' o => (rdemand_ret (St.all h') (k27.mono (o.all hs23.1)) (k30.mono (o.all hs23.1))).mono fun _ _ _ _ p => ⟨p.1, p.2.1⟩) fun r31 => ?_
  refine QF.as_ rfl rfl ?_
  refine QF.rcn (sb 7 rfl (sb 6 rfl (sb 5 rfl (sb 4 rfl sb0)))) fun h32 hs33 e34 => ?_
  refine WF.seq ?_
  refine WF.seq ?_
  refine WF.rp (.inl rfl) ?_
  refine QF.mv rfl rfl ?_
  have k35 := k13.mono (e19.trans (e24.trans e34))
  refine QF.fa rfl k35 GAlarm.f_Level fa_25_0 rfl fun q36 k37 => ?_
  refine QF.ldi ckP hs33.1 rfl k37 ty_3 rfl fun r38 => ?_
  refine QF.geq rfl rfl rfl ?_
  refine QF.rp0 ?_
  refine WF.ifp rfl (fun c39 => ?_) (fun c39 => ?_)
  · skip
    refine WF.seq ?_
    refine WF.rl ?_
    refine LF.q 2 ?_
    refine QF.mv rfl rfl ?_
    refine QF.bld (cs := [.int .i64 (dem t s), .int .i64 0, .int .i64 0]) st_25 rfl rfl rfl ?_
    refine QF.ln ?_
    refine LF.st (vs := [.int .i64 (dem t s), .int .i64 0, .int .i64 0]) (cs' := [.int .i64 (dem t s), .int .i64 0, .int .i64 0]) rfl rfl rfl (by simp [Value.oneCell']) ty_25 rfl hs33 .head rfl rfl fun h40 hs41 e42 => ?_
    refine LF.nil (sb 7 rfl (sb 6 rfl (sb 5 rfl (sb 4 rfl sb0)))) ?_
    refine WF.ret (fun aa ww hf hw => ?_)
    have q43 : (⟨(dem t s), 0, 0⟩ : GAlarm) = nxt t a s := by (simp only [nxt]; repeat' split) <;> first | rfl | omega | (simp_all; done) | (simp_all; omega)
    exact rtg hf rfl hw (rvc (rvC hf hw hs41 rfl mh ty_25 rfl) rv0) rfl (e5.trans (e12.trans (e19.trans (e24.trans (e34.trans e42))))) ⟨(congrArg (fun x : GAlarm => Value.agg (GAlarm.v x).toArray) q43), (by rw [← q43]; exact ⟨r31, (show inI64 0 by first | assumption | exact w64_i _ | (unfold inI64 at *; omega)), (show inI64 0 by first | assumption | exact w64_i _ | (unfold inI64 at *; omega))⟩), (hs41.drop .head)⟩
  refine WF.skip ?_
  refine WF.seq ?_
  refine WF.seq ?_
  refine WF.rp (.inl rfl) ?_
  refine QF.fa rfl k35 GAlarm.f_Level fa_25_0 rfl fun q44 k45 => ?_
  refine QF.ldi ckP hs33.1 rfl k45 ty_3 rfl fun r46 => ?_
  refine QF.geq rfl rfl rfl ?_
  refine QF.mv rfl rfl ?_
  refine QF.cutv 4 25 (.bool ((decide (3 ≤ a.Level)) && (decide (0 ≤ s.Crest)))) ?_ ?_
  · cases c47 : (decide (3 ≤ a.Level))
    · skip
      have c47p := of_decide_eq_false c47
      refine QF.gnF rfl rfl rfl rfl rfl ?_
      refine QF.gnF rfl rfl rfl rfl rfl ?_
      refine QF.gnF rfl rfl rfl rfl rfl ?_
      refine QF.pick rfl rfl rfl ?_
      exact QF.cutn (sb 25 rfl (sb 21 rfl (sb 20 rfl (sb 19 rfl (sb 18 rfl (sb 15 rfl (sb 14 rfl (sb 13 rfl (sb 12 rfl (sb 7 rfl (sb 6 rfl (sb 5 rfl (sb 4 rfl sb0)))))))))))))
    · skip
      have c47p := of_decide_eq_true c47
      refine QF.gy rfl rfl rfl ?_
      have k48 := k28.mono e34
      refine QF.fa rfl k48 GSight.f_Crest fa_32_0 rfl fun q49 k50 => ?_
      refine QF.gy rfl rfl rfl ?_
      refine QF.ldi ckP hs33.1 rfl k50 ty_3 rfl fun r51 => ?_
      refine QF.gy rfl rfl rfl ?_
      refine QF.geq rfl rfl rfl ?_
      refine QF.pick rfl rfl rfl ?_
      exact QF.cutn (sb 25 rfl (sb 21 rfl (sb 20 rfl (sb 19 rfl (sb 18 rfl (sb 15 rfl (sb 14 rfl (sb 13 rfl (sb 12 rfl (sb 7 rfl (sb 6 rfl (sb 5 rfl (sb 4 rfl sb0)))))))))))))
  refine QF.rpn (sb 25 rfl (sb 7 rfl (sb 6 rfl (sb 4 rfl sb0)))) ?_
  refine WF.if_ rfl (fun c52 => ?_) (fun c52 => ?_)
  · skip
    replace c52 : ((3 ≤ a.Level) ∧ (0 ≤ s.Crest)) := by simpa using c52
    refine WF.seq ?_
    refine WF.rl ?_
    refine LF.q 3 ?_
    refine QF.fa rfl k35 GAlarm.f_Level fa_25_0 rfl fun q53 k54 => ?_
    refine QF.ldi ckP hs33.1 rfl k54 ty_3 rfl fun r55 => ?_
    refine QF.bld (cs := [.int .i64 a.Level, .int .i64 0, .int .i64 0]) st_25 rfl rfl rfl ?_
    refine QF.ln ?_
    refine LF.st (vs := [.int .i64 a.Level, .int .i64 0, .int .i64 0]) (cs' := [.int .i64 a.Level, .int .i64 0, .int .i64 0]) rfl rfl rfl (by simp [Value.oneCell']) ty_25 rfl hs33 .head rfl rfl fun h56 hs57 e58 => ?_
    refine LF.nil (sb 7 rfl (sb 6 rfl (sb 4 rfl sb0))) ?_
    refine WF.ret (fun aa ww hf hw => ?_)
    have q59 : (⟨a.Level, 0, 0⟩ : GAlarm) = nxt t a s := by (simp only [nxt]; repeat' split) <;> first | rfl | omega | (simp_all; done) | (simp_all; omega)
    exact rtg hf rfl hw (rvc (rvC hf hw hs57 rfl mh ty_25 rfl) rv0) rfl (e5.trans (e12.trans (e19.trans (e24.trans (e34.trans e58))))) ⟨(congrArg (fun x : GAlarm => Value.agg (GAlarm.v x).toArray) q59), (by rw [← q59]; exact ⟨r55, (show inI64 0 by first | assumption | exact w64_i _ | (unfold inI64 at *; omega)), (show inI64 0 by first | assumption | exact w64_i _ | (unfold inI64 at *; omega))⟩), (hs57.drop .head)⟩
  replace c52 : ¬ ((3 ≤ a.Level) ∧ (0 ≤ s.Crest)) := by simpa using c52
  refine WF.skip ?_
  refine WF.seq ?_
  refine WF.rp (.inl rfl) ?_
  refine QF.mv rfl rfl ?_
  refine QF.as_ rfl rfl ?_
  refine QF.rp0 ?_
  refine WF.seq ?_
  refine WF.seq ?_
  refine WF.rp (.inl rfl) ?_
  refine QF.fa rfl k35 GAlarm.f_Calm fa_25_1 rfl fun q60 k61 => ?_
  refine QF.ldi ckP hs33.1 rfl k61 ty_3 rfl fun r62 => ?_
  refine QF.neq rfl rfl rfl ?_
  refine QF.mv rfl rfl ?_
  refine QF.cutv 5 38 (.bool ((decide (a.Calm ≠ 0)) && (decide ((dem t s) < a.Then)))) ?_ ?_
  · cases c63 : (decide (a.Calm ≠ 0))
    · skip
      have c63p := of_decide_eq_false c63
      refine QF.gnF rfl rfl rfl rfl rfl ?_
      refine QF.gnF rfl rfl rfl rfl rfl ?_
      refine QF.gnF rfl rfl rfl rfl rfl ?_
      refine QF.gnF rfl rfl rfl rfl rfl ?_
      refine QF.pick rfl rfl rfl ?_
      exact QF.cutn (sb 38 rfl (sb 33 rfl (sb 32 rfl (sb 31 rfl (sb 30 rfl (sb 8 rfl (sb 29 rfl (sb 25 rfl (sb 7 rfl (sb 6 rfl (sb 4 rfl sb0)))))))))))
    · skip
      have c63p := of_decide_eq_true c63
      refine QF.gy rfl rfl rfl ?_
      refine QF.fa rfl k35 GAlarm.f_Then fa_25_2 rfl fun q64 k65 => ?_
      refine QF.gy rfl rfl rfl ?_
      refine QF.ldi ckP hs33.1 rfl k65 ty_3 rfl fun r66 => ?_
      refine QF.gy rfl rfl rfl ?_
      refine QF.mv rfl rfl ?_
      refine QF.gy rfl rfl rfl ?_
      refine QF.gtr rfl rfl rfl ?_
      refine QF.pick rfl rfl rfl ?_
      exact QF.cutn (sb 38 rfl (sb 33 rfl (sb 32 rfl (sb 31 rfl (sb 30 rfl (sb 8 rfl (sb 29 rfl (sb 25 rfl (sb 7 rfl (sb 6 rfl (sb 4 rfl sb0)))))))))))
  refine QF.rpn (sb 38 rfl (sb 8 rfl (sb 6 rfl (sb 4 rfl sb0)))) ?_
  refine WF.if_ rfl (fun c67 => ?_) (fun c67 => ?_)
  · skip
    replace c67 : ((a.Calm ≠ 0) ∧ ((dem t s) < a.Then)) := by simpa using c67
    refine WF.rp (.inl rfl) ?_
    refine QF.fa rfl k35 GAlarm.f_Then fa_25_2 rfl fun q68 k69 => ?_
    refine QF.ldi ckP hs33.1 rfl k69 ty_3 rfl fun r70 => ?_
    refine QF.as_ rfl rfl ?_
    refine QF.rpn (sb 8 rfl (sb 6 rfl (sb 4 rfl sb0))) ?_
    refine WF.seq ?_
    refine WF.seq ?_
    refine WF.rp (.inl rfl) ?_
    refine QF.fa rfl k35 GAlarm.f_Calm fa_25_1 rfl fun q71 k72 => ?_
    refine QF.ldi ckP hs33.1 rfl k72 ty_3 rfl fun r73 => ?_
    refine QF.geq rfl rfl rfl ?_
    refine QF.rp0 ?_
    refine WF.ifp rfl (fun c74 => ?_) (fun c74 => ?_)
    · skip
      refine WF.seq ?_
      refine WF.rl ?_
      refine LF.q 2 ?_
      refine QF.mv rfl rfl ?_
      refine QF.bld (cs := [.int .i64 a.Then, .int .i64 0, .int .i64 0]) st_25 rfl rfl rfl ?_
      refine QF.ln ?_
      refine LF.st (vs := [.int .i64 a.Then, .int .i64 0, .int .i64 0]) (cs' := [.int .i64 a.Then, .int .i64 0, .int .i64 0]) rfl rfl rfl (by simp [Value.oneCell']) ty_25 rfl hs33 .head rfl rfl fun h75 hs76 e77 => ?_
      refine LF.nil (sb 8 rfl (sb 6 rfl (sb 4 rfl sb0))) ?_
      refine WF.ret (fun aa ww hf hw => ?_)
      have q78 : (⟨a.Then, 0, 0⟩ : GAlarm) = nxt t a s := by (simp only [nxt]; repeat' split) <;> first | rfl | omega | (simp_all; done) | (simp_all; omega)
      exact rtg hf rfl hw (rvc (rvC hf hw hs76 rfl mh ty_25 rfl) rv0) rfl (e5.trans (e12.trans (e19.trans (e24.trans (e34.trans e77))))) ⟨(congrArg (fun x : GAlarm => Value.agg (GAlarm.v x).toArray) q78), (by rw [← q78]; exact ⟨r70, (show inI64 0 by first | assumption | exact w64_i _ | (unfold inI64 at *; omega)), (show inI64 0 by first | assumption | exact w64_i _ | (unfold inI64 at *; omega))⟩), (hs76.drop .head)⟩
    refine WF.skip ?_
    refine WF.seq ?_
    refine WF.rl ?_
    refine LF.q 7 ?_
    refine QF.fa rfl k35 GAlarm.f_Level fa_25_0 rfl fun q79 k80 => ?_
    refine QF.ldi ckP hs33.1 rfl k80 ty_3 rfl fun r81 => ?_
    refine QF.fa rfl k35 GAlarm.f_Calm fa_25_1 rfl fun q82 k83 => ?_
    refine QF.ldi ckP hs33.1 rfl k83 ty_3 rfl fun r84 => ?_
    refine QF.addw rfl rfl rfl ?_
    refine QF.mv rfl rfl ?_
    refine QF.bld (cs := [.int .i64 a.Level, .int .i64 (w64 (a.Calm + 1)), .int .i64 a.Then]) st_25 rfl rfl rfl ?_
    refine QF.ln ?_
    refine LF.st (vs := [.int .i64 a.Level, .int .i64 (w64 (a.Calm + 1)), .int .i64 a.Then]) (cs' := [.int .i64 a.Level, .int .i64 (w64 (a.Calm + 1)), .int .i64 a.Then]) rfl rfl rfl (by simp [Value.oneCell']) ty_25 rfl hs33 .head rfl rfl fun h85 hs86 e87 => ?_
    refine LF.nil (sb 6 rfl sb0) ?_
    refine WF.ret (fun aa ww hf hw => ?_)
    have q88 : (⟨a.Level, (w64 (a.Calm + 1)), a.Then⟩ : GAlarm) = nxt t a s := by (simp only [nxt]; repeat' split) <;> first | rfl | omega | (simp_all; done) | (simp_all; omega)
    exact rtg hf rfl hw (rvc (rvC hf hw hs86 rfl mh ty_25 rfl) rv0) rfl (e5.trans (e12.trans (e19.trans (e24.trans (e34.trans e87))))) ⟨(congrArg (fun x : GAlarm => Value.agg (GAlarm.v x).toArray) q88), (by rw [← q88]; exact ⟨r81, (w64_i _), r70⟩), (hs86.drop .head)⟩
  replace c67 : ¬ ((a.Calm ≠ 0) ∧ ((dem t s) < a.Then)) := by simpa using c67
  refine WF.skip ?_
  refine WF.seq ?_
  refine WF.seq ?_
  refine WF.rp (.inl rfl) ?_
  refine QF.fa rfl k35 GAlarm.f_Calm fa_25_1 rfl fun q89 k90 => ?_
  refine QF.ldi ckP hs33.1 rfl k90 ty_3 rfl fun r91 => ?_
  refine QF.geq rfl rfl rfl ?_
  refine QF.rp0 ?_
  refine WF.ifp rfl (fun c92 => ?_) (fun c92 => ?_)
  · skip
    refine WF.seq ?_
    refine WF.rl ?_
    refine LF.q 2 ?_
    refine QF.mv rfl rfl ?_
    refine QF.bld (cs := [.int .i64 (dem t s), .int .i64 0, .int .i64 0]) st_25 rfl rfl rfl ?_
    refine QF.ln ?_
    refine LF.st (vs := [.int .i64 (dem t s), .int .i64 0, .int .i64 0]) (cs' := [.int .i64 (dem t s), .int .i64 0, .int .i64 0]) rfl rfl rfl (by simp [Value.oneCell']) ty_25 rfl hs33 .head rfl rfl fun h93 hs94 e95 => ?_
    refine LF.nil (sb 8 rfl (sb 6 rfl (sb 4 rfl sb0))) ?_
    refine WF.ret (fun aa ww hf hw => ?_)
    have q96 : (⟨(dem t s), 0, 0⟩ : GAlarm) = nxt t a s := by (simp only [nxt]; repeat' split) <;> first | rfl | omega | (simp_all; done) | (simp_all; omega)
    exact rtg hf rfl hw (rvc (rvC hf hw hs94 rfl mh ty_25 rfl) rv0) rfl (e5.trans (e12.trans (e19.trans (e24.trans (e34.trans e95))))) ⟨(congrArg (fun x : GAlarm => Value.agg (GAlarm.v x).toArray) q96), (by rw [← q96]; exact ⟨r31, (show inI64 0 by first | assumption | exact w64_i _ | (unfold inI64 at *; omega)), (show inI64 0 by first | assumption | exact w64_i _ | (unfold inI64 at *; omega))⟩), (hs94.drop .head)⟩
  refine WF.skip ?_
  refine WF.seq ?_
  refine WF.rl ?_
  refine LF.q 7 ?_
  refine QF.fa rfl k35 GAlarm.f_Level fa_25_0 rfl fun q97 k98 => ?_
  refine QF.ldi ckP hs33.1 rfl k98 ty_3 rfl fun r99 => ?_
  refine QF.fa rfl k35 GAlarm.f_Calm fa_25_1 rfl fun q100 k101 => ?_
  refine QF.ldi ckP hs33.1 rfl k101 ty_3 rfl fun r102 => ?_
  refine QF.addw rfl rfl rfl ?_
  refine QF.mv rfl rfl ?_
  refine QF.bld (cs := [.int .i64 a.Level, .int .i64 (w64 (a.Calm + 1)), .int .i64 (dem t s)]) st_25 rfl rfl rfl ?_
  refine QF.ln ?_
  refine LF.st (vs := [.int .i64 a.Level, .int .i64 (w64 (a.Calm + 1)), .int .i64 (dem t s)]) (cs' := [.int .i64 a.Level, .int .i64 (w64 (a.Calm + 1)), .int .i64 (dem t s)]) rfl rfl rfl (by simp [Value.oneCell']) ty_25 rfl hs33 .head rfl rfl fun h103 hs104 e105 => ?_
  refine LF.nil (sb 6 rfl sb0) ?_
  refine WF.ret (fun aa ww hf hw => ?_)
  have q106 : (⟨a.Level, (w64 (a.Calm + 1)), (dem t s)⟩ : GAlarm) = nxt t a s := by (simp only [nxt]; repeat' split) <;> first | rfl | omega | (simp_all; done) | (simp_all; omega)
  exact rtg hf rfl hw (rvc (rvC hf hw hs104 rfl mh ty_25 rfl) rv0) rfl (e5.trans (e12.trans (e19.trans (e24.trans (e34.trans e105))))) ⟨(congrArg (fun x : GAlarm => Value.agg (GAlarm.v x).toArray) q106), (by rw [← q106]; exact ⟨r99, (w64_i _), r31⟩), (hs104.drop .head)⟩

set_option maxRecDepth 10000 in
theorem run_ret {S : Nat → Prop} {L : List HP} {h : Heap} (hs : St S L h) {v_t : Value} {t : GTown} (h_t : Rd S h RGTown v_t t) {v_sights : Value} {sights : (List GSight)} (h_sights : Sl S h RGSight v_sights sights) (hl : sights.length ≤ 1000000) :
    Ret Try.prog 7 #[v_t, v_sights] S h (fun v S' h' => St S' (OS RGAlarm 25 v (runL t sights sights.length) :: L) h') := by
  refine Ret.go (l := [v_t, v_sights]) 29 Try.func7 rfl Try.ntmps7 rfl fun B => ?_
  refine WF.seq ?_
  refine WF.rl ?_
  refine LF.boxp rfl h_t (fun e => by cases e) rfl hs fun q1 S2 h3 hs4 e5 k6 => ?_
  refine LF.q 1 ?_
  refine QF.as_ rfl rfl ?_
  refine QF.ln ?_
  refine LF.nil (sb 4 rfl (sb 2 rfl (sb 1 rfl sb0))) ?_
  refine WF.seq ?_
  refine WF.rl ?_
  refine LF.q 2 ?_
  refine QF.mv rfl rfl ?_
  have k7 := h_sights.mono' e5
  refine QF.len rfl k7 sl_26 rfl fun b8 => ?_
  unfold maxLen at b8
  refine QF.ln ?_
  refine LF.mk (r := RGAlarm) (zx := (⟨0, 0, 0⟩ : GAlarm)) (len := 0) (cap := sights.length) el_28 rfl ⟨rfl, by unfold GAlarm.ok inI64; simp⟩ rfl rfl (by omega) (by omega) (by unfold maxLen at *; omega) rfl hs4 fun v9 h10 hs11 e12 => ?_
  simp only [List.replicate_zero] at hs11
  refine LF.q 1 ?_
  refine QF.as_ rfl rfl ?_
  refine QF.ln ?_
  refine LF.nil (sb 5 rfl (sb 4 rfl (sb 2 rfl (sb 1 rfl sb0)))) ?_
  refine WF.seq ?_
  refine WF.rl ?_
  refine LF.q 1 ?_
  refine QF.bld (cs := [.int .i64 0, .int .i64 0, .int .i64 0]) st_25 rfl rfl rfl ?_
  refine QF.ln ?_
  refine LF.al zc_25 rfl hs11 fun b13 h14 hs15 e16 => ?_
  refine LF.st (vs := [.int .i64 0, .int .i64 0, .int .i64 0]) (cs' := [.int .i64 0, .int .i64 0, .int .i64 0]) rfl rfl rfl (by simp [Value.oneCell']) ty_25 rfl hs15 .head rfl rfl fun h17 hs18 e19 => ?_
  refine LF.nil (sb 6 rfl (sb 5 rfl (sb 4 rfl (sb 2 rfl (sb 1 rfl sb0))))) ?_
  refine WF.seq ?_
  refine WF.seq ?_
  refine WF.rp (.inl rfl) ?_
  refine QF.mv rfl rfl ?_
  have k20 := h_sights.mono' (e5.trans (e12.trans (e16.trans e19)))
  refine QF.len rfl k20 sl_26 rfl fun b21 => ?_
  unfold maxLen at b21
  refine QF.mv rfl rfl ?_
  refine QF.rp0 ?_
  refine WF.block ?_
  refine WF.loop (fun k a w => ∃ (v_5 : Value) (S' : Nat → Prop) (h' : Heap), Fr 29 a [(14, .int .i64 (↑sights.length : Int)), (13, v_sights), (6, .pointer (some ⟨b13, 0, none⟩)), (4, .slice none 0 0), (2, q1), (15, .int .i64 ((k : Int))), (5, v_5)] ∧ Wd B h' w ∧ St S' (Bx b13 25 [.int .i64 ((stA t sights k).Level), .int .i64 ((stA t sights k).Calm), .int .i64 ((stA t sights k).Then)] :: OS RGAlarm 25 v_5 (runL t sights k) :: L) h' ∧ Ext S2 h17 S' h' ∧ k ≤ sights.length ∧ (GAlarm.ok (stA t sights k))) (sights.length) 0 ?_ (fun _ _ _ hh => ?_) ?_
  · intro aa ww hf hw
    exact ⟨v9, _, _, hf.sub (sb 14 rfl (sb 13 rfl (sb 6 rfl (sb 4 rfl (sb 2 rfl (sb 15 rfl (sb 5 rfl sb0))))))), hw, hs18, Ext.refl _ _, (by omega), (stA_ok _ _ _)⟩
  · obtain ⟨_, _, _, _, _, _, _, hT, _⟩ := hh; exact hT
  rintro k aa ww ⟨v_5, S22, h23, hf, hw, hs24, e25, kT26, p27⟩
  refine WF.run ?_ hf hw
  clear hf hw ww aa
  obtain ⟨r28, r29, r30⟩ := p27
  refine WF.seq ?_
  refine WF.rp (.inl rfl) ?_
  refine QF.lss rfl rfl rfl ?_
  refine QF.rp0 ?_
  refine WF.seq ?_
  refine WF.ifp' rfl (fun c31 => ?_) (fun c31 => ?_)
  · skip
    refine WF.exitW rfl ?_
    refine WF.seq ?_
    refine WF.rp (.inl rfl) ?_
    refine QF.mv rfl rfl ?_
    refine QF.as_ rfl rfl ?_
    refine QF.rpn (sb 4 rfl sb0) ?_
    refine WF.ret (fun aa ww hf hw => ?_)
    have q32 : (runL t sights k) = runL t sights sights.length := by have hk : k = sights.length := (by omega); rw [hk]
    exact rtg hf rfl hw (rvc (rvT hf (v := _) rfl) rv0) rfl (e5.trans (e12.trans (e16.trans (e19.trans e25)))) (q32 ▸ (hs24.drop .head))
  refine WF.skip ?_
  refine WF.seq ?_
  refine WF.block ?_
  refine WF.seq ?_
  refine WF.rl ?_
  refine LF.q 2 ?_
  have k33 := k20.mono' e25
  refine QF.ixg rfl rfl k33 sl_26 (by omega) (by omega) rfl fun q34 k35 => ?_
  refine QF.ld ckP hs24.1 rfl k35 ty_32 (fun e => by cases e) rfl fun v36 k37 => ?_
  refine QF.ln ?_
  refine LF.al zc_32 rfl hs24 fun b38 h39 hs40 e41 => ?_
  have k42 := k37.mono e41
  obtain ⟨rfl, r44⟩ := RGSight.ex k42
  refine LF.st (vs := [.int .i64 ((gt sights ((k : Int))).Crest), .bool ((gt sights ((k : Int))).Quorum)]) (cs' := [.int .i64 ((gt sights ((k : Int))).Crest), .bool ((gt sights ((k : Int))).Quorum)]) rfl rfl rfl (by simp [Value.oneCell']) ty_32 rfl hs40 .head rfl rfl fun h45 hs46 e47 => ?_
  refine LF.nil (sb 8 rfl (sb 18 rfl (sb 17 rfl (sb 16 rfl (sb 14 rfl (sb 13 rfl (sb 6 rfl (sb 4 rfl (sb 2 rfl (sb 15 rfl (sb 5 rfl sb0))))))))))) ?_
  refine WF.seq ?_
  refine WF.rl ?_
  refine LF.q 3 ?_
  have k48 := k6.mono (e12.trans (e16.trans (e19.trans (e25.trans (e41.trans e47)))))
  refine QF.ld ckP hs46.1 rfl k48 ty_23 (fun e => by cases e) rfl fun v49 k50 => ?_
  refine QF.ldo (vs := [.int .i64 ((stA t sights k).Level), .int .i64 ((stA t sights k).Calm), .int .i64 ((stA t sights k).Then)]) ckP hs46 rfl (mt mh) rfl rfl ty_25 rfl rfl ?_
  refine QF.ldo (vs := [.int .i64 ((gt sights ((k : Int))).Crest), .bool ((gt sights ((k : Int))).Quorum)]) ckP hs46 rfl mh rfl rfl ty_32 rfl rfl ?_
  refine QF.ln ?_
  refine LF.call rfl rfl rfl ca_9 rfl (next_ret hs46 k50 (RGAlarm.mk (x := (stA t sights k)) ⟨r28, r29, r30⟩) (RGSight.mk (x := (gt sights ((k : Int)))) r44)) fun v51 S52 h53 e54 p => ?_
  obtain ⟨rfl, ⟨r56, r57, r58⟩, hs55⟩ := p
  refine LF.st (vs := [.int .i64 ((nxt t (stA t sights k) (gt sights ((k : Int)))).Level), .int .i64 ((nxt t (stA t sights k) (gt sights ((k : Int)))).Calm), .int .i64 ((nxt t (stA t sights k) (gt sights ((k : Int)))).Then)]) (cs' := [.int .i64 ((nxt t (stA t sights k) (gt sights ((k : Int)))).Level), .int .i64 ((nxt t (stA t sights k) (gt sights ((k : Int)))).Calm), .int .i64 ((nxt t (stA t sights k) (gt sights ((k : Int)))).Then)]) rfl rfl rfl (by simp [Value.oneCell']) ty_25 rfl hs55 (.tail .head) rfl rfl fun h59 hs60 e61 => ?_
  refine LF.nil (sb 22 rfl (sb 21 rfl (sb 20 rfl (sb 19 rfl (sb 8 rfl (sb 18 rfl (sb 17 rfl (sb 16 rfl (sb 14 rfl (sb 13 rfl (sb 6 rfl (sb 4 rfl (sb 2 rfl (sb 15 rfl (sb 5 rfl sb0))))))))))))))) ?_
  refine WF.rl ?_
  refine LF.q 2 ?_
  refine QF.mv rfl rfl ?_
  refine QF.ldo (vs := [.int .i64 ((nxt t (stA t sights k) (gt sights ((k : Int)))).Level), .int .i64 ((nxt t (stA t sights k) (gt sights ((k : Int)))).Calm), .int .i64 ((nxt t (stA t sights k) (gt sights ((k : Int)))).Then)]) ckP hs60 rfl (mt mh) rfl rfl ty_25 rfl rfl ?_
  refine QF.ln ?_
  refine LF.bs (cs := [.int .i64 ((nxt t (stA t sights k) (gt sights ((k : Int)))).Level), .int .i64 ((nxt t (stA t sights k) (gt sights ((k : Int)))).Calm), .int .i64 ((nxt t (stA t sights k) (gt sights ((k : Int)))).Then)]) el_28 rfl rfl rfl rfl (by simp) rfl hs60 fun b62 h63 hs64 e65 => ?_
  refine LF.app1 (r := RGAlarm) (l := (runL t sights k)) (xs := [(nxt t (stA t sights k) (gt sights ((k : Int))))]) rfl rfl el_28 rfl mh ⟨_, _, rfl, ⟨rfl, ⟨r56, r57, r58⟩⟩, rfl⟩ rfl rfl (by simp [runL]; omega) rfl hs64 (fun _ => (.tail (.tail (.tail .head)))) fun v66 h67 hs68 e69 => ?_
  have hs70 := hs68.drop .head
  refine LF.q 1 ?_
  refine QF.as_ rfl rfl ?_
  refine QF.ln ?_
  refine LF.nil (sb 5 rfl (sb 26 rfl (sb 25 rfl (sb 24 rfl (sb 23 rfl (sb 22 rfl (sb 21 rfl (sb 20 rfl (sb 19 rfl (sb 8 rfl (sb 18 rfl (sb 17 rfl (sb 16 rfl (sb 14 rfl (sb 13 rfl (sb 6 rfl (sb 4 rfl (sb 2 rfl (sb 15 rfl sb0))))))))))))))))))) ?_
  refine WF.nilW ?_
  refine WF.rp (.inl rfl) ?_
  have r71 : inI64 (((k : Int)) + 1) := by unfold inI64 at *; omega
  refine QF.add rfl rfl rfl r71 ?_
  refine QF.mv rfl rfl ?_
  refine QF.rpn (sb 15 rfl (sb 27 rfl (sb 5 rfl (sb 26 rfl (sb 25 rfl (sb 24 rfl (sb 23 rfl (sb 22 rfl (sb 21 rfl (sb 20 rfl (sb 19 rfl (sb 8 rfl (sb 18 rfl (sb 17 rfl (sb 16 rfl (sb 14 rfl (sb 13 rfl (sb 6 rfl (sb 4 rfl (sb 2 rfl sb0)))))))))))))))))))) ?_
  have hs72 := hs70.drop .head
  refine WF.nil (fun aa ww hf hw => ?_)
  refine ⟨v66, _, _, ?_, hw, ?_, (e25.trans (e41.trans (e47.trans (e54.trans (e61.trans (e65.trans e69)))))), (by omega), (stA_ok _ _ _)⟩
  · refine cast (congrArg (Fr _ aa) ?_) (hf.sub (sb 14 rfl (sb 13 rfl (sb 6 rfl (sb 4 rfl (sb 2 rfl (sb 15 rfl (sb 5 rfl sb0))))))) : Fr _ aa [(14, .int .i64 (↑sights.length : Int)), (13, v_sights), (6, .pointer (some ⟨b13, 0, none⟩)), (4, .slice none 0 0), (2, q1), (15, .int .i64 (((k : Int)) + 1)), (5, v66)])
    simp
  · refine cast (congrArg (fun l => St _ l _) ?_) hs72
    have hk : k < sights.length := (by omega); simp only [runL_succ, stA_succ t hk]

set_option maxRecDepth 10000 in
theorem rrun_ret {S : Nat → Prop} {L : List HP} {h : Heap} (hs : St S L h) {v_t : Value} {t : GTown} (h_t : Rd S h RGTown v_t t) {v_sights : Value} {sights : (List GSight)} (h_sights : Sl S h RGSight v_sights sights) (hl : sights.length ≤ 1000000) :
    Ret Try.prog 8 #[v_t, v_sights] S h (fun v S' h' => St S' (OS RGAlarm 25 v (runL t sights sights.length) :: L) h') := by
  refine Ret.go (l := [v_t, v_sights]) 27 Try.func8 rfl Try.ntmps8 rfl fun B => ?_
  refine WF.seq ?_
  refine WF.rl ?_
  refine LF.boxp rfl h_t (fun e => by cases e) rfl hs fun q1 S2 h3 hs4 e5 k6 => ?_
  refine LF.q 1 ?_
  refine QF.as_ rfl rfl ?_
  refine QF.ln ?_
  refine LF.nil (sb 4 rfl (sb 2 rfl (sb 1 rfl sb0))) ?_
  refine WF.seq ?_
  refine WF.rl ?_
  refine LF.q 1 ?_
  refine QF.bld (cs := [.int .i64 0, .int .i64 0, .int .i64 0]) st_25 rfl rfl rfl ?_
  refine QF.ln ?_
  refine LF.al zc_25 rfl hs4 fun b7 h8 hs9 e10 => ?_
  refine LF.st (vs := [.int .i64 0, .int .i64 0, .int .i64 0]) (cs' := [.int .i64 0, .int .i64 0, .int .i64 0]) rfl rfl rfl (by simp [Value.oneCell']) ty_25 rfl hs9 .head rfl rfl fun h11 hs12 e13 => ?_
  refine LF.nil (sb 5 rfl (sb 4 rfl (sb 2 rfl (sb 1 rfl sb0)))) ?_
  refine WF.seq ?_
  refine WF.rp (.inl rfl) ?_
  refine QF.as_ rfl rfl ?_
  refine QF.rp0 ?_
  refine WF.seq ?_
  refine WF.seq ?_
  refine WF.rp (.inl rfl) ?_
  refine QF.as_ rfl rfl ?_
  refine QF.rp0 ?_
  refine WF.block ?_
  have hs14 := hs12.nil RGAlarm 25
  refine WF.loop (fun k a w => ∃ (v_6 : Value) (S' : Nat → Prop) (h' : Heap), Fr 27 a [(5, .pointer (some ⟨b7, 0, none⟩)), (4, .slice none 0 0), (2, q1), (1, v_sights), (7, .int .i64 ((k : Int))), (6, v_6)] ∧ Wd B h' w ∧ St S' (OS RGAlarm 25 v_6 (runL t sights k) :: Bx b7 25 [.int .i64 ((stA t sights k).Level), .int .i64 ((stA t sights k).Calm), .int .i64 ((stA t sights k).Then)] :: L) h' ∧ Ext S2 h11 S' h' ∧ k ≤ sights.length ∧ (GAlarm.ok (stA t sights k))) (sights.length) 0 ?_ (fun _ _ _ hh => ?_) ?_
  · intro aa ww hf hw
    exact ⟨(.slice none 0 0), _, _, hf.sub (sb 5 rfl (sb 4 rfl (sb 2 rfl (sb 1 rfl (sb 7 rfl (sb 6 rfl sb0)))))), hw, hs14, Ext.refl _ _, (by omega), (stA_ok _ _ _)⟩
  · obtain ⟨_, _, _, _, _, _, _, hT, _⟩ := hh; exact hT
  rintro k aa ww ⟨v_6, S15, h16, hf, hw, hs17, e18, kT19, p20⟩
  refine WF.run ?_ hf hw
  clear hf hw ww aa
  obtain ⟨r21, r22, r23⟩ := p20
  refine WF.seq ?_
  refine WF.seq ?_
  refine WF.rp (.inl rfl) ?_
  refine QF.mv rfl rfl ?_
  refine QF.mv rfl rfl ?_
  have k24 := h_sights.mono' (e5.trans (e10.trans (e13.trans e18)))
  refine QF.len rfl k24 sl_26 rfl fun b25 => ?_
  unfold maxLen at b25
  refine QF.lss rfl rfl rfl ?_
  refine QF.rpn (sb 12 rfl (sb 11 rfl (sb 10 rfl (sb 9 rfl (sb 5 rfl (sb 4 rfl (sb 2 rfl (sb 1 rfl (sb 7 rfl (sb 6 rfl sb0)))))))))) ?_
  refine WF.ifp' rfl (fun c26 => ?_) (fun c26 => ?_)
  · skip
    refine WF.exitW rfl ?_
    refine WF.seq ?_
    refine WF.rp (.inl rfl) ?_
    refine QF.mv rfl rfl ?_
    refine QF.as_ rfl rfl ?_
    refine QF.rpn (sb 4 rfl sb0) ?_
    refine WF.ret (fun aa ww hf hw => ?_)
    have q27 : (runL t sights k) = runL t sights sights.length := by have hk : k = sights.length := (by omega); rw [hk]
    exact rtg hf rfl hw (rvc (rvT hf (v := _) rfl) rv0) rfl (e5.trans (e10.trans (e13.trans e18))) (q27 ▸ (hs17.drop (.tail .head)))
  refine WF.skip ?_
  refine WF.seq ?_
  refine WF.block ?_
  refine WF.seq ?_
  refine WF.rct 7 mo (by kernel_rfl) rfl hs17 ?_
  have k28 := k6.mono (e10.trans (e13.trans e18))
  refine QF.ld ckC hs17.1 rfl k28 ty_23 (fun e => by cases e) rfl fun v29 k30 => ?_
  refine QF.ldo (vs := [.int .i64 ((stA t sights k).Level), .int .i64 ((stA t sights k).Calm), .int .i64 ((stA t sights k).Then)]) ckC hs17 rfl (mt mh) rfl rfl ty_25 rfl rfl ?_
  refine QF.mv rfl rfl ?_
  refine QF.mv rfl rfl ?_
  have k31 := h_sights.mono' (e5.trans (e10.trans (e13.trans e18)))
  refine QF.ixg rfl rfl k31 sl_26 (by omega) (by omega) rfl fun q32 k33 => ?_
  refine QF.ld ckC hs17.1 rfl k33 ty_32 (fun e => by cases e) rfl fun v34 k35 => ?_
  refine QF.callp (v := .agg #[.int .i64 ((nxt t (stA t sights k) (gt sights ((k : Int)))).Level), .int .i64 ((nxt t (stA t sights k) (gt sights ((k : Int)))).Calm), .int .i64 ((nxt t (stA t sights k) (gt sights ((k : Int)))).Then)]) (Ψ := GAlarm.ok (nxt t (stA t sights k) (gt sights ((k : Int))))) rfl rfl rfl ca_10 rfl (fun h' o => (rnext_ret (St.all h') (k30.mono (o.all hs17.1)) ((RGAlarm.mk (x := (stA t sights k)) ⟨r21, r22, r23⟩).mono (o.all hs17.1)) (k35.mono (o.all hs17.1))).mono fun _ _ _ _ p => ⟨p.1, p.2.1⟩) fun r36 => ?_
  obtain ⟨r37, r38, r39⟩ := r36
  refine QF.rctn fun h40 hs41 e42 => ?_
  refine LF.st (vs := [.int .i64 ((nxt t (stA t sights k) (gt sights ((k : Int)))).Level), .int .i64 ((nxt t (stA t sights k) (gt sights ((k : Int)))).Calm), .int .i64 ((nxt t (stA t sights k) (gt sights ((k : Int)))).Then)]) (cs' := [.int .i64 ((nxt t (stA t sights k) (gt sights ((k : Int)))).Level), .int .i64 ((nxt t (stA t sights k) (gt sights ((k : Int)))).Calm), .int .i64 ((nxt t (stA t sights k) (gt sights ((k : Int)))).Then)]) rfl rfl rfl (by simp [Value.oneCell']) ty_25 rfl hs41 (.tail .head) rfl rfl fun h43 hs44 e45 => ?_
  refine LF.nil (sb 21 rfl (sb 20 rfl (sb 19 rfl (sb 18 rfl (sb 17 rfl (sb 16 rfl (sb 15 rfl (sb 12 rfl (sb 11 rfl (sb 10 rfl (sb 9 rfl (sb 5 rfl (sb 4 rfl (sb 2 rfl (sb 1 rfl (sb 7 rfl (sb 6 rfl sb0))))))))))))))))) ?_
  refine WF.rl ?_
  refine LF.q 2 ?_
  refine QF.mv rfl rfl ?_
  refine QF.ldo (vs := [.int .i64 ((nxt t (stA t sights k) (gt sights ((k : Int)))).Level), .int .i64 ((nxt t (stA t sights k) (gt sights ((k : Int)))).Calm), .int .i64 ((nxt t (stA t sights k) (gt sights ((k : Int)))).Then)]) ckP hs44 rfl (mt mh) rfl rfl ty_25 rfl rfl ?_
  refine QF.ln ?_
  refine LF.bs (cs := [.int .i64 ((nxt t (stA t sights k) (gt sights ((k : Int)))).Level), .int .i64 ((nxt t (stA t sights k) (gt sights ((k : Int)))).Calm), .int .i64 ((nxt t (stA t sights k) (gt sights ((k : Int)))).Then)]) el_28 rfl rfl rfl rfl (by simp) rfl hs44 fun b46 h47 hs48 e49 => ?_
  refine LF.app1 (r := RGAlarm) (l := (runL t sights k)) (xs := [(nxt t (stA t sights k) (gt sights ((k : Int))))]) rfl rfl el_28 rfl mh ⟨_, _, rfl, ⟨rfl, ⟨r37, r38, r39⟩⟩, rfl⟩ rfl rfl (by simp [runL]; omega) rfl hs48 (fun _ => (.tail .head)) fun v50 h51 hs52 e53 => ?_
  have hs54 := hs52.drop .head
  refine LF.q 1 ?_
  refine QF.as_ rfl rfl ?_
  refine QF.ln ?_
  refine LF.nil (sb 6 rfl (sb 25 rfl (sb 24 rfl (sb 23 rfl (sb 22 rfl (sb 21 rfl (sb 20 rfl (sb 19 rfl (sb 18 rfl (sb 17 rfl (sb 16 rfl (sb 15 rfl (sb 12 rfl (sb 11 rfl (sb 10 rfl (sb 9 rfl (sb 5 rfl (sb 4 rfl (sb 2 rfl (sb 1 rfl (sb 7 rfl sb0))))))))))))))))))))) ?_
  refine WF.nilW ?_
  refine WF.rp (.inl rfl) ?_
  refine QF.mv rfl rfl ?_
  have r55 : inI64 (((k : Int)) + 1) := by unfold inI64 at *; omega
  refine QF.add rfl rfl rfl r55 ?_
  refine QF.as_ rfl rfl ?_
  refine QF.rpn (sb 7 rfl (sb 14 rfl (sb 13 rfl (sb 6 rfl (sb 25 rfl (sb 24 rfl (sb 23 rfl (sb 22 rfl (sb 21 rfl (sb 20 rfl (sb 19 rfl (sb 18 rfl (sb 17 rfl (sb 16 rfl (sb 15 rfl (sb 12 rfl (sb 11 rfl (sb 10 rfl (sb 9 rfl (sb 5 rfl (sb 4 rfl (sb 2 rfl (sb 1 rfl sb0))))))))))))))))))))))) ?_
  refine WF.nil (fun aa ww hf hw => ?_)
  refine ⟨v50, _, _, ?_, hw, ?_, (e18.trans (e42.trans (e45.trans (e49.trans e53)))), (by omega), (stA_ok _ _ _)⟩
  · refine cast (congrArg (Fr _ aa) ?_) (hf.sub (sb 5 rfl (sb 4 rfl (sb 2 rfl (sb 1 rfl (sb 7 rfl (sb 6 rfl sb0)))))) : Fr _ aa [(5, .pointer (some ⟨b7, 0, none⟩)), (4, .slice none 0 0), (2, q1), (1, v_sights), (7, .int .i64 (((k : Int)) + 1)), (6, v50)])
    simp
  · refine cast (congrArg (fun l => St _ l _) ?_) hs54
    have hk : k < sights.length := (by omega); simp only [runL_succ, stA_succ t hk]

set_option maxRecDepth 10000 in
theorem small_ret {S : Nat → Prop} {L : List HP} {h : Heap} (hs : St S L h)  :
    Ret Try.prog 6 #[] S h (fun v S' h' => v = .bool true ∧ St S' (L) h') := by
  refine Ret.go (l := []) 44 Try.func6 rfl Try.ntmps6 rfl fun B => ?_
  refine WF.seq ?_
  refine WF.rp (.inl rfl) ?_
  refine QF.as_ rfl rfl ?_
  refine QF.rp0 ?_
  refine WF.seq ?_
  refine WF.rl ?_
  refine LF.q 1 ?_
  refine QF.bld (cs := [.string ByteArray.empty, .int .i64 0, .int .i64 0, .int .i64 3, .int .i64 0, .int .i64 0, .int .i64 0]) st_23 rfl rfl rfl ?_
  refine QF.ln ?_
  refine LF.al zc_23 rfl hs fun b1 h2 hs3 e4 => ?_
  refine LF.st (vs := [.string ByteArray.empty, .int .i64 0, .int .i64 0, .int .i64 3, .int .i64 0, .int .i64 0, .int .i64 0]) (cs' := [.string ByteArray.empty, .int .i64 0, .int .i64 0, .int .i64 3, .int .i64 0, .int .i64 0, .int .i64 0]) rfl rfl rfl (by simp [Value.oneCell']) ty_23 rfl hs3 .head rfl rfl fun h5 hs6 e7 => ?_
  refine LF.nil (sb 1 rfl (sb 0 rfl sb0)) ?_
  refine WF.seq ?_
  refine WF.rl ?_
  refine LF.q 8 ?_
  refine QF.ldo (vs := [.string ByteArray.empty, .int .i64 0, .int .i64 0, .int .i64 3, .int .i64 0, .int .i64 0, .int .i64 0]) ckP hs6 rfl mh rfl rfl ty_23 rfl rfl ?_
  refine QF.bld (cs := [.int .i64 9, .bool false]) st_32 rfl rfl rfl ?_
  refine QF.bld (cs := [.int .i64 8, .bool false]) st_32 rfl rfl rfl ?_
  refine QF.bld (cs := [.int .i64 4, .bool false]) st_32 rfl rfl rfl ?_
  refine QF.bld (cs := [.int .i64 5, .bool false]) st_32 rfl rfl rfl ?_
  refine QF.bld (cs := [.int .i64 (-1), .bool false]) st_32 rfl rfl rfl ?_
  refine QF.bld (cs := [.int .i64 (-1), .bool true]) st_32 rfl rfl rfl ?_
  refine QF.bld (cs := [.int .i64 (-1), .bool false]) st_32 rfl rfl rfl ?_
  refine QF.ln ?_
  refine LF.bs (cs := [.int .i64 9, .bool false, .int .i64 8, .bool false, .int .i64 4, .bool false, .int .i64 5, .bool false, .int .i64 (-1), .bool false, .int .i64 (-1), .bool true, .int .i64 (-1), .bool false]) el_26 rfl rfl rfl rfl (by simp) rfl hs6 fun b8 h9 hs10 e11 => ?_
  have hs12 := hs10.bxos (r := RGSight) (l := [(⟨9, false⟩ : GSight), (⟨8, false⟩ : GSight), (⟨4, false⟩ : GSight), (⟨5, false⟩ : GSight), (⟨(-1), false⟩ : GSight), (⟨(-1), true⟩ : GSight), (⟨(-1), false⟩ : GSight)]) .head ⟨_, _, rfl, ⟨rfl, (show inI64 9 by first | assumption | exact w64_i _ | (unfold inI64 at *; omega))⟩, ⟨_, _, rfl, ⟨rfl, (show inI64 8 by first | assumption | exact w64_i _ | (unfold inI64 at *; omega))⟩, ⟨_, _, rfl, ⟨rfl, (show inI64 4 by first | assumption | exact w64_i _ | (unfold inI64 at *; omega))⟩, ⟨_, _, rfl, ⟨rfl, (show inI64 5 by first | assumption | exact w64_i _ | (unfold inI64 at *; omega))⟩, ⟨_, _, rfl, ⟨rfl, (show inI64 (-1) by first | assumption | exact w64_i _ | (unfold inI64 at *; omega))⟩, ⟨_, _, rfl, ⟨rfl, (show inI64 (-1) by first | assumption | exact w64_i _ | (unfold inI64 at *; omega))⟩, ⟨_, _, rfl, ⟨rfl, (show inI64 (-1) by first | assumption | exact w64_i _ | (unfold inI64 at *; omega))⟩, rfl⟩⟩⟩⟩⟩⟩⟩ (by simp [maxLen])
  obtain ⟨S13, hs14, e15, k16⟩ := hs12.pubs .head
  refine LF.call rfl rfl rfl ca_7 rfl (run_ret hs14 (RGTown.mk (x := (⟨ByteArray.empty, 0, 0, 3, 0, 0, 0⟩ : GTown)) ⟨(by first | assumption | decide), (show inI64 0 by first | assumption | exact w64_i _ | (unfold inI64 at *; omega)), (show inI64 0 by first | assumption | exact w64_i _ | (unfold inI64 at *; omega)), (show inI64 3 by first | assumption | exact w64_i _ | (unfold inI64 at *; omega)), (show inI64 0 by first | assumption | exact w64_i _ | (unfold inI64 at *; omega)), (show inI64 0 by first | assumption | exact w64_i _ | (unfold inI64 at *; omega)), (show inI64 0 by first | assumption | exact w64_i _ | (unfold inI64 at *; omega))⟩) k16 (by simp)) fun v17 S18 h19 e20 p => ?_
  have hs21 := p
  refine LF.q 1 ?_
  refine QF.as_ rfl rfl ?_
  refine QF.ln ?_
  refine LF.nil (sb 2 rfl (sb 0 rfl sb0)) ?_
  refine WF.seq ?_
  refine WF.rl ?_
  refine LF.bs (cs := [.int .i64 1, .int .i64 2, .int .i64 3, .int .i64 3, .int .i64 3, .int .i64 3, .int .i64 1]) el_36 rfl rfl rfl rfl (by simp) rfl hs21 fun b22 h23 hs24 e25 => ?_
  refine LF.q 1 ?_
  refine QF.as_ rfl rfl ?_
  refine QF.ln ?_
  refine LF.nil (sb 3 rfl (sb 2 rfl (sb 0 rfl sb0))) ?_
  refine WF.seq ?_
  refine WF.seq ?_
  refine WF.rp (.inl rfl) ?_
  refine QF.as_ rfl rfl ?_
  refine QF.rp0 ?_
  refine WF.block ?_
  have hs26 := hs24.bxos (r := Rep.int) (l := [1, 2, 3, 3, 3, 3, 1]) .head ⟨_, _, rfl, ⟨rfl, (show inI64 1 by first | assumption | exact w64_i _ | (unfold inI64 at *; omega))⟩, ⟨_, _, rfl, ⟨rfl, (show inI64 2 by first | assumption | exact w64_i _ | (unfold inI64 at *; omega))⟩, ⟨_, _, rfl, ⟨rfl, (show inI64 3 by first | assumption | exact w64_i _ | (unfold inI64 at *; omega))⟩, ⟨_, _, rfl, ⟨rfl, (show inI64 3 by first | assumption | exact w64_i _ | (unfold inI64 at *; omega))⟩, ⟨_, _, rfl, ⟨rfl, (show inI64 3 by first | assumption | exact w64_i _ | (unfold inI64 at *; omega))⟩, ⟨_, _, rfl, ⟨rfl, (show inI64 3 by first | assumption | exact w64_i _ | (unfold inI64 at *; omega))⟩, ⟨_, _, rfl, ⟨rfl, (show inI64 1 by first | assumption | exact w64_i _ | (unfold inI64 at *; omega))⟩, rfl⟩⟩⟩⟩⟩⟩⟩ (by simp [maxLen])
  obtain ⟨S27, hs28, e29, k30⟩ := hs26.pubs .head
  refine WF.loop (fun k a w => ∃ (S' : Nat → Prop) (h' : Heap), Fr 44 a [(3, (.slice (some ⟨b22, 0, none⟩) 7 7)), (2, v17), (4, .int .i64 ((k : Int)))] ∧ Wd B h' w ∧ St S' (OS RGAlarm 25 v17 (runL (⟨ByteArray.empty, 0, 0, 3, 0, 0, 0⟩ : GTown) ([(⟨9, false⟩ : GSight), (⟨8, false⟩ : GSight), (⟨4, false⟩ : GSight), (⟨5, false⟩ : GSight), (⟨(-1), false⟩ : GSight), (⟨(-1), true⟩ : GSight), (⟨(-1), false⟩ : GSight)]) ([(⟨9, false⟩ : GSight), (⟨8, false⟩ : GSight), (⟨4, false⟩ : GSight), (⟨5, false⟩ : GSight), (⟨(-1), false⟩ : GSight), (⟨(-1), true⟩ : GSight), (⟨(-1), false⟩ : GSight)]).length) :: Bx b1 23 [.string ByteArray.empty, .int .i64 0, .int .i64 0, .int .i64 3, .int .i64 0, .int .i64 0, .int .i64 0] :: L) h' ∧ Ext S27 h23 S' h' ∧ k ≤ 7) (7) 0 ?_ (fun _ _ _ hh => ?_) ?_
  · intro aa ww hf hw
    exact ⟨_, _, hf.sub (sb 3 rfl (sb 2 rfl (sb 4 rfl sb0))), hw, hs28, Ext.refl _ _, (by omega)⟩
  · obtain ⟨_, _, _, _, _, _, hT⟩ := hh; exact hT
  rintro k aa ww ⟨S31, h32, hf, hw, hs33, e34, kT35⟩
  refine WF.run ?_ hf hw
  clear hf hw ww aa
  have h7 : ((([1, 2, 3, 3, 3, 3, 1] : List Int).length : Nat) : Int) = 7 := rfl
  refine WF.seq ?_
  refine WF.seq ?_
  refine WF.rp (.inl rfl) ?_
  refine QF.mv rfl rfl ?_
  refine QF.mv rfl rfl ?_
  have k36 := k30.mono' e34
  refine QF.len rfl k36 sl_36 rfl fun b37 => ?_
  unfold maxLen at b37
  refine QF.lss rfl rfl rfl ?_
  refine QF.rp0 ?_
  refine WF.ifp' rfl (fun c38 => ?_) (fun c38 => ?_)
  · skip
    refine WF.exitW rfl ?_
    refine WF.seq ?_
    refine WF.rp (.inl rfl) ?_
    refine QF.mv rfl rfl ?_
    refine QF.leno hs33 mh rfl sl_28 rfl fun b39 => ?_
    unfold maxLen at b39
    refine QF.mv rfl rfl ?_
    have k40 := k30.mono' e34
    refine QF.len rfl k40 sl_36 rfl fun b41 => ?_
    unfold maxLen at b41
    refine QF.eql rfl rfl rfl ?_
    refine QF.as_ rfl rfl ?_
    refine QF.rpn (sb 0 rfl sb0) ?_
    refine WF.ret (fun aa ww hf hw => ?_)
    have q42 : ((decide ((↑(runL (⟨ByteArray.empty, 0, 0, 3, 0, 0, 0⟩ : GTown) ([(⟨9, false⟩ : GSight), (⟨8, false⟩ : GSight), (⟨4, false⟩ : GSight), (⟨5, false⟩ : GSight), (⟨(-1), false⟩ : GSight), (⟨(-1), true⟩ : GSight), (⟨(-1), false⟩ : GSight)]) ([(⟨9, false⟩ : GSight), (⟨8, false⟩ : GSight), (⟨4, false⟩ : GSight), (⟨5, false⟩ : GSight), (⟨(-1), false⟩ : GSight), (⟨(-1), true⟩ : GSight), (⟨(-1), false⟩ : GSight)]).length).length : Int) = (↑([1, 2, 3, 3, 3, 3, 1]).length : Int))) : Bool) = true := by simp [runL]
    exact rtg hf rfl hw (rvc (rvT hf (v := _) rfl) rv0) rfl (e4.trans (e7.trans (e11.trans (e15.trans (e20.trans (e25.trans (e29.trans e34))))))) ⟨(congrArg Value.bool q42), ((hs33.drop .head).drop .head)⟩
  refine WF.skip ?_
  refine WF.seq ?_
  refine WF.block ?_
  refine WF.seq ?_
  refine WF.rp (.inr ⟨mo, by kernel_rfl⟩) ?_
  refine QF.mv rfl rfl ?_
  refine QF.mv rfl rfl ?_
  refine QF.leno hs33 mh rfl sl_28 rfl fun b43 => ?_
  unfold maxLen at b43
  refine QF.geq rfl rfl rfl ?_
  refine QF.mv rfl rfl ?_
  refine QF.cutv 11 38 (.bool ((decide ((↑(runL (⟨ByteArray.empty, 0, 0, 3, 0, 0, 0⟩ : GTown) ([(⟨9, false⟩ : GSight), (⟨8, false⟩ : GSight), (⟨4, false⟩ : GSight), (⟨5, false⟩ : GSight), (⟨(-1), false⟩ : GSight), (⟨(-1), true⟩ : GSight), (⟨(-1), false⟩ : GSight)]) ([(⟨9, false⟩ : GSight), (⟨8, false⟩ : GSight), (⟨4, false⟩ : GSight), (⟨5, false⟩ : GSight), (⟨(-1), false⟩ : GSight), (⟨(-1), true⟩ : GSight), (⟨(-1), false⟩ : GSight)]).length).length : Int) ≤ ((k : Int)))) || (decide (((gt (runL (⟨ByteArray.empty, 0, 0, 3, 0, 0, 0⟩ : GTown) ([(⟨9, false⟩ : GSight), (⟨8, false⟩ : GSight), (⟨4, false⟩ : GSight), (⟨5, false⟩ : GSight), (⟨(-1), false⟩ : GSight), (⟨(-1), true⟩ : GSight), (⟨(-1), false⟩ : GSight)]) ([(⟨9, false⟩ : GSight), (⟨8, false⟩ : GSight), (⟨4, false⟩ : GSight), (⟨5, false⟩ : GSight), (⟨(-1), false⟩ : GSight), (⟨(-1), true⟩ : GSight), (⟨(-1), false⟩ : GSight)]).length) ((k : Int))).Level) ≠ (gt ([1, 2, 3, 3, 3, 3, 1]) ((k : Int))))))) ?_ ?_
  · cases c44 : (decide ((↑(runL (⟨ByteArray.empty, 0, 0, 3, 0, 0, 0⟩ : GTown) ([(⟨9, false⟩ : GSight), (⟨8, false⟩ : GSight), (⟨4, false⟩ : GSight), (⟨5, false⟩ : GSight), (⟨(-1), false⟩ : GSight), (⟨(-1), true⟩ : GSight), (⟨(-1), false⟩ : GSight)]) ([(⟨9, false⟩ : GSight), (⟨8, false⟩ : GSight), (⟨4, false⟩ : GSight), (⟨5, false⟩ : GSight), (⟨(-1), false⟩ : GSight), (⟨(-1), true⟩ : GSight), (⟨(-1), false⟩ : GSight)]).length).length : Int) ≤ ((k : Int))))
    · skip
      have c44p := of_decide_eq_false c44
      refine QF.gy rfl rfl rfl ?_
      refine QF.mv rfl rfl ?_
      refine QF.gy rfl rfl rfl ?_
      refine QF.mv rfl rfl ?_
      refine QF.gy rfl rfl rfl ?_
      refine QF.ixog hs33 mh rfl rfl sl_28 (by omega) (by omega) rfl fun q45 k46 ep47 => ?_
      refine QF.gy rfl rfl rfl ?_
      refine QF.fa rfl k46 GAlarm.f_Level fa_25_0 rfl fun q48 k49 => ?_
      refine QF.gy rfl rfl rfl ?_
      refine QF.ldi ckP (fun _ x => x) rfl k49 ty_3 rfl fun r50 => ?_
      refine QF.gy rfl rfl rfl ?_
      refine QF.mv rfl rfl ?_
      refine QF.gy rfl rfl rfl ?_
      refine QF.mv rfl rfl ?_
      refine QF.gy rfl rfl rfl ?_
      have k51 := k30.mono' e34
      refine QF.ixg rfl rfl k51 sl_36 (by omega) (by omega) rfl fun q52 k53 => ?_
      refine QF.gy rfl rfl rfl ?_
      refine QF.ldi ckP hs33.1 rfl k53 ty_3 rfl fun r54 => ?_
      refine QF.gy rfl rfl rfl ?_
      refine QF.neq rfl rfl rfl ?_
      refine QF.pick rfl rfl rfl ?_
      exact QF.cutn (sb 38 rfl (sb 27 rfl (sb 26 rfl (sb 25 rfl (sb 24 rfl (sb 23 rfl (sb 20 rfl (sb 19 rfl (sb 18 rfl (sb 17 rfl (sb 3 rfl (sb 2 rfl (sb 4 rfl sb0)))))))))))))
    · skip
      have c44p := of_decide_eq_true c44
      refine QF.gnT rfl rfl rfl rfl rfl ?_
      refine QF.gnT rfl rfl rfl rfl rfl ?_
      refine QF.gnT rfl rfl rfl rfl rfl ?_
      refine QF.gnT rfl rfl rfl rfl rfl ?_
      refine QF.gnT rfl rfl rfl rfl rfl ?_
      refine QF.gnT rfl rfl rfl rfl rfl ?_
      refine QF.gnT rfl rfl rfl rfl rfl ?_
      refine QF.gnT rfl rfl rfl rfl rfl ?_
      refine QF.gnT rfl rfl rfl rfl rfl ?_
      refine QF.gnT rfl rfl rfl rfl rfl ?_
      refine QF.pick rfl rfl rfl ?_
      exact QF.cutn (sb 38 rfl (sb 27 rfl (sb 26 rfl (sb 25 rfl (sb 24 rfl (sb 23 rfl (sb 20 rfl (sb 19 rfl (sb 18 rfl (sb 17 rfl (sb 3 rfl (sb 2 rfl (sb 4 rfl sb0)))))))))))))
  refine QF.rpn (sb 38 rfl (sb 27 rfl (sb 26 rfl (sb 25 rfl (sb 24 rfl (sb 23 rfl (sb 20 rfl (sb 19 rfl (sb 18 rfl (sb 17 rfl (sb 3 rfl (sb 2 rfl (sb 4 rfl sb0))))))))))))) ?_
  refine WF.if_ rfl (fun c55 => ?_) (fun c55 => ?_)
  · skip
    replace c55 : (((↑(runL (⟨ByteArray.empty, 0, 0, 3, 0, 0, 0⟩ : GTown) ([(⟨9, false⟩ : GSight), (⟨8, false⟩ : GSight), (⟨4, false⟩ : GSight), (⟨5, false⟩ : GSight), (⟨(-1), false⟩ : GSight), (⟨(-1), true⟩ : GSight), (⟨(-1), false⟩ : GSight)]) ([(⟨9, false⟩ : GSight), (⟨8, false⟩ : GSight), (⟨4, false⟩ : GSight), (⟨5, false⟩ : GSight), (⟨(-1), false⟩ : GSight), (⟨(-1), true⟩ : GSight), (⟨(-1), false⟩ : GSight)]).length).length : Int) ≤ ((k : Int))) ∨ (((gt (runL (⟨ByteArray.empty, 0, 0, 3, 0, 0, 0⟩ : GTown) ([(⟨9, false⟩ : GSight), (⟨8, false⟩ : GSight), (⟨4, false⟩ : GSight), (⟨5, false⟩ : GSight), (⟨(-1), false⟩ : GSight), (⟨(-1), true⟩ : GSight), (⟨(-1), false⟩ : GSight)]) ([(⟨9, false⟩ : GSight), (⟨8, false⟩ : GSight), (⟨4, false⟩ : GSight), (⟨5, false⟩ : GSight), (⟨(-1), false⟩ : GSight), (⟨(-1), true⟩ : GSight), (⟨(-1), false⟩ : GSight)]).length) ((k : Int))).Level) ≠ (gt ([1, 2, 3, 3, 3, 3, 1]) ((k : Int))))) := by simpa using c55
    refine WF.seq ?_
    refine WF.rp (.inl rfl) ?_
    refine QF.as_ rfl rfl ?_
    refine QF.rpn (sb 0 rfl (sb 38 rfl (sb 27 rfl (sb 26 rfl (sb 25 rfl (sb 24 rfl (sb 23 rfl (sb 20 rfl (sb 19 rfl (sb 18 rfl (sb 17 rfl (sb 3 rfl (sb 2 rfl (sb 4 rfl sb0)))))))))))))) ?_
    refine WF.ret (fun aa ww hf hw => ?_)
    have q56 : (false : Bool) = true := by have hk : k < 7 := (by omega); have hc := c55; clear c55; exfalso; revert hc; have hk7 : k = 0 ∨ k = 1 ∨ k = 2 ∨ k = 3 ∨ k = 4 ∨ k = 5 ∨ k = 6 := (by omega); rcases hk7 with rfl | rfl | rfl | rfl | rfl | rfl | rfl <;> decide +kernel
    exact rtg hf rfl hw (rvc (rvT hf (v := _) rfl) rv0) rfl (e4.trans (e7.trans (e11.trans (e15.trans (e20.trans (e25.trans (e29.trans e34))))))) ⟨(congrArg Value.bool q56), ((hs33.drop .head).drop .head)⟩
  replace c55 : ¬ (((↑(runL (⟨ByteArray.empty, 0, 0, 3, 0, 0, 0⟩ : GTown) ([(⟨9, false⟩ : GSight), (⟨8, false⟩ : GSight), (⟨4, false⟩ : GSight), (⟨5, false⟩ : GSight), (⟨(-1), false⟩ : GSight), (⟨(-1), true⟩ : GSight), (⟨(-1), false⟩ : GSight)]) ([(⟨9, false⟩ : GSight), (⟨8, false⟩ : GSight), (⟨4, false⟩ : GSight), (⟨5, false⟩ : GSight), (⟨(-1), false⟩ : GSight), (⟨(-1), true⟩ : GSight), (⟨(-1), false⟩ : GSight)]).length).length : Int) ≤ ((k : Int))) ∨ (((gt (runL (⟨ByteArray.empty, 0, 0, 3, 0, 0, 0⟩ : GTown) ([(⟨9, false⟩ : GSight), (⟨8, false⟩ : GSight), (⟨4, false⟩ : GSight), (⟨5, false⟩ : GSight), (⟨(-1), false⟩ : GSight), (⟨(-1), true⟩ : GSight), (⟨(-1), false⟩ : GSight)]) ([(⟨9, false⟩ : GSight), (⟨8, false⟩ : GSight), (⟨4, false⟩ : GSight), (⟨5, false⟩ : GSight), (⟨(-1), false⟩ : GSight), (⟨(-1), true⟩ : GSight), (⟨(-1), false⟩ : GSight)]).length) ((k : Int))).Level) ≠ (gt ([1, 2, 3, 3, 3, 3, 1]) ((k : Int))))) := by simpa using c55
  refine WF.skip ?_
  refine WF.nilW ?_
  refine WF.rp (.inl rfl) ?_
  refine QF.mv rfl rfl ?_
  have r57 : inI64 (((k : Int)) + 1) := by unfold inI64 at *; omega
  refine QF.add rfl rfl rfl r57 ?_
  refine QF.as_ rfl rfl ?_
  refine QF.rpn (sb 4 rfl (sb 22 rfl (sb 21 rfl (sb 38 rfl (sb 27 rfl (sb 26 rfl (sb 25 rfl (sb 24 rfl (sb 23 rfl (sb 20 rfl (sb 19 rfl (sb 18 rfl (sb 17 rfl (sb 3 rfl (sb 2 rfl sb0))))))))))))))) ?_
  refine WF.nil (fun aa ww hf hw => ?_)
  refine ⟨_, _, ?_, hw, ?_, e34, (by omega)⟩
  · refine cast (congrArg (Fr _ aa) ?_) (hf.sub (sb 3 rfl (sb 2 rfl (sb 4 rfl sb0))) : Fr _ aa [(3, (.slice (some ⟨b22, 0, none⟩) 7 7)), (2, v17), (4, .int .i64 (((k : Int)) + 1))])
    simp
  · refine cast (congrArg (fun l => St _ l _) ?_) hs33
    rfl

end Go.Proofs.Ytgnjppialaajcaa
