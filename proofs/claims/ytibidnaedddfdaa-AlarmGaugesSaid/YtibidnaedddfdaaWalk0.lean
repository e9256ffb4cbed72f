/- Walks, part 0. By program. -/
import Derived.Test.YtibidnaedddfdaaFacts
import Derived.Test.YtibidnaedddfdaaForms
namespace Go.Proofs.Ytibidnaedddfdaa
open Go.RowKit
set_option linter.unusedVariables false
set_option linter.unusedSimpArgs false

set_option maxRecDepth 10000 in
set_option maxHeartbeats 2000000 in
theorem alarm_demand_ret {N : Nat} {S : Nat → Prop} {L : List HP} {h : Heap} (hs : St S L h) {v_p0_t : Value} {p0_t : GTown} (h_p0_t : Rd S h RGTown v_p0_t p0_t) {v_p1_s : Value} {p1_s : GSight} (h_p1_s : Rd S h RGSight v_p1_s p1_s) {r : Int} (E : f_alarm_demand N p0_t p1_s = some r) :
    Ret Try.prog 41 #[v_p0_t, v_p1_s] S h (fun v S' h' => v = .int .i64 r ∧ inI64 r ∧ St S' (L) h') := by
  refine Ret.go (l := [v_p0_t, v_p1_s]) 38 Try.func41 rfl Try.ntmps41 rfl fun B => ?_
  rw [f_alarm_demand] at E
  refine WF.seq ?_
  refine WF.rl ?_
  refine LF.boxp rfl h_p0_t (fun e => by cases e) rfl hs fun q1 S2 h3 hs4 e5 k6 => ?_
  have k7 := h_p1_s.mono e5
  refine LF.boxp rfl k7 (fun e => by cases e) rfl hs4 fun q8 S9 h10 hs11 e12 k13 => ?_
  refine LF.q 1 ?_
  refine QF.as_ rfl rfl ?_
  refine QF.ln ?_
  refine LF.nil (sb 3 rfl (sb 2 rfl sb0)) ?_
  refine WF.seq ?_
  refine WF.block ?_
  refine WF.seq ?_
  refine WF.rp (.inl rfl) ?_
  refine QF.fa rfl k13 GSight.f_Crest fa_52_0 rfl fun q14 k15 => ?_
  refine QF.ldi ckP hs11.1 rfl k15 ty_3 rfl fun r16 => ?_
  refine QF.geq rfl rfl rfl ?_
  refine QF.mv rfl rfl ?_
  refine QF.cutv 7 16 (.bool ((decide (0 ≤ p1_s.Crest)) && (decide (p1_s.Crest ≤ (w64 (p0_t.Lead + 1)))))) ?_ ?_
  · cases c17 : (decide (0 ≤ p1_s.Crest))
    · skip
      refine QF.gnF rfl rfl rfl rfl rfl ?_
      refine QF.gnF rfl rfl rfl rfl rfl ?_
      refine QF.gnF rfl rfl rfl rfl rfl ?_
      refine QF.gnF rfl rfl rfl rfl rfl ?_
      refine QF.gnF rfl rfl rfl rfl rfl ?_
      refine QF.gnF rfl rfl rfl rfl rfl ?_
      refine QF.pick rfl rfl rfl ?_
      exact QF.cutn (sb 16 rfl (sb 9 rfl (sb 8 rfl (sb 7 rfl (sb 6 rfl (sb 3 rfl (sb 2 rfl sb0)))))))
    · skip
      refine QF.gy rfl rfl rfl ?_
      refine QF.fa rfl k13 GSight.f_Crest fa_52_0 rfl fun q18 k19 => ?_
      refine QF.gy rfl rfl rfl ?_
      refine QF.ldi ckP hs11.1 rfl k19 ty_3 rfl fun r20 => ?_
      refine QF.gy rfl rfl rfl ?_
      have k21 := k6.mono e12
      refine QF.fa rfl k21 GTown.f_Lead fa_41_3 rfl fun q22 k23 => ?_
      refine QF.gy rfl rfl rfl ?_
      refine QF.ldi ckP hs11.1 rfl k23 ty_3 rfl fun r24 => ?_
      refine QF.gy rfl rfl rfl ?_
      refine QF.addw rfl rfl rfl ?_
      refine QF.gy rfl rfl rfl ?_
      refine QF.leq rfl rfl rfl ?_
      refine QF.pick rfl rfl rfl ?_
      exact QF.cutn (sb 16 rfl (sb 9 rfl (sb 8 rfl (sb 7 rfl (sb 6 rfl (sb 3 rfl (sb 2 rfl sb0)))))))
  refine QF.as_ rfl rfl ?_
  refine QF.rpn (sb 5 rfl (sb 3 rfl (sb 2 rfl sb0))) ?_
  refine WF.if_ rfl (fun c25 => ?_) (fun c25 => ?_)
  · skip
    have E := cdT c25 E
    refine WF.seq ?_
    refine WF.rp (.inl rfl) ?_
    refine QF.as_ rfl rfl ?_
    refine QF.rpn (sb 4 rfl sb0) ?_
    refine WF.ret (fun aa ww hf hw => ?_)
    cases E
    exact rtg hf rfl hw (rvc (rvT hf (v := _) rfl) rv0) rfl (e5.trans e12) ⟨rfl, (show inI64 3 by unfold inI64; omega), hs11⟩
  · skip
    have E := cdF c25 E
    refine WF.seq ?_
    refine WF.rp (.inl rfl) ?_
    refine QF.fa rfl k13 GSight.f_Crest fa_52_0 rfl fun q26 k27 => ?_
    refine QF.ldi ckP hs11.1 rfl k27 ty_3 rfl fun r28 => ?_
    refine QF.geq rfl rfl rfl ?_
    refine QF.mv rfl rfl ?_
    refine QF.cutv 8 29 (.bool ((decide (0 ≤ p1_s.Crest)) && (decide (p1_s.Crest ≤ (w64 ((w64 (2 * p0_t.Lead)) + 2)))))) ?_ ?_
    · cases c29 : (decide (0 ≤ p1_s.Crest))
      · skip
        refine QF.gnF rfl rfl rfl rfl rfl ?_
        refine QF.gnF rfl rfl rfl rfl rfl ?_
        refine QF.gnF rfl rfl rfl rfl rfl ?_
        refine QF.gnF rfl rfl rfl rfl rfl ?_
        refine QF.gnF rfl rfl rfl rfl rfl ?_
        refine QF.gnF rfl rfl rfl rfl rfl ?_
        refine QF.gnF rfl rfl rfl rfl rfl ?_
        refine QF.pick rfl rfl rfl ?_
        exact QF.cutn (sb 29 rfl (sb 21 rfl (sb 20 rfl (sb 19 rfl (sb 18 rfl (sb 5 rfl (sb 3 rfl (sb 2 rfl sb0))))))))
      · skip
        refine QF.gy rfl rfl rfl ?_
        refine QF.fa rfl k13 GSight.f_Crest fa_52_0 rfl fun q30 k31 => ?_
        refine QF.gy rfl rfl rfl ?_
        refine QF.ldi ckP hs11.1 rfl k31 ty_3 rfl fun r32 => ?_
        refine QF.gy rfl rfl rfl ?_
        have k33 := k6.mono e12
        refine QF.fa rfl k33 GTown.f_Lead fa_41_3 rfl fun q34 k35 => ?_
        refine QF.gy rfl rfl rfl ?_
        refine QF.ldi ckP hs11.1 rfl k35 ty_3 rfl fun r36 => ?_
        refine QF.gy rfl rfl rfl ?_
        refine QF.mulw rfl rfl rfl ?_
        refine QF.gy rfl rfl rfl ?_
        refine QF.addw rfl rfl rfl ?_
        refine QF.gy rfl rfl rfl ?_
        refine QF.leq rfl rfl rfl ?_
        refine QF.pick rfl rfl rfl ?_
        exact QF.cutn (sb 29 rfl (sb 21 rfl (sb 20 rfl (sb 19 rfl (sb 18 rfl (sb 5 rfl (sb 3 rfl (sb 2 rfl sb0))))))))
    refine QF.as_ rfl rfl ?_
    refine QF.rpn (sb 17 rfl (sb 3 rfl sb0)) ?_
    refine WF.if_ rfl (fun c37 => ?_) (fun c37 => ?_)
    · skip
      have E := cdT c37 E
      refine WF.seq ?_
      refine WF.rp (.inl rfl) ?_
      refine QF.as_ rfl rfl ?_
      refine QF.rpn (sb 4 rfl sb0) ?_
      refine WF.ret (fun aa ww hf hw => ?_)
      cases E
      exact rtg hf rfl hw (rvc (rvT hf (v := _) rfl) rv0) rfl (e5.trans e12) ⟨rfl, (show inI64 2 by unfold inI64; omega), hs11⟩
    · skip
      have E := cdF c37 E
      refine WF.seq ?_
      refine WF.rp (.inl rfl) ?_
      refine QF.fa rfl k13 GSight.f_Crest fa_52_0 rfl fun q38 k39 => ?_
      refine QF.ldi ckP hs11.1 rfl k39 ty_3 rfl fun r40 => ?_
      refine QF.geq rfl rfl rfl ?_
      refine QF.mv rfl rfl ?_
      refine QF.cutv 3 37 (.bool ((decide (0 ≤ p1_s.Crest)) || p1_s.Quorum)) ?_ ?_
      · cases c41 : (decide (0 ≤ p1_s.Crest))
        · skip
          refine QF.gy rfl rfl rfl ?_
          refine QF.fa rfl k13 GSight.f_Quorum fa_52_1 rfl fun q42 k43 => ?_
          refine QF.gy rfl rfl rfl ?_
          refine QF.ldb ckP hs11.1 rfl k43 ty_4 rfl ?_
          refine QF.pick rfl rfl rfl ?_
          exact QF.cutn (sb 37 rfl (sb 34 rfl (sb 33 rfl (sb 32 rfl (sb 31 rfl (sb 17 rfl (sb 3 rfl sb0)))))))
        · skip
          refine QF.gnT rfl rfl rfl rfl rfl ?_
          refine QF.gnT rfl rfl rfl rfl rfl ?_
          refine QF.pick rfl rfl rfl ?_
          exact QF.cutn (sb 37 rfl (sb 34 rfl (sb 33 rfl (sb 32 rfl (sb 31 rfl (sb 17 rfl (sb 3 rfl sb0)))))))
      refine QF.as_ rfl rfl ?_
      refine QF.rpn (sb 30 rfl sb0) ?_
      refine WF.if_ rfl (fun c44 => ?_) (fun c44 => ?_)
      · skip
        have E := cdT c44 E
        refine WF.seq ?_
        refine WF.rp (.inl rfl) ?_
        refine QF.as_ rfl rfl ?_
        refine QF.rpn (sb 4 rfl sb0) ?_
        refine WF.ret (fun aa ww hf hw => ?_)
        cases E
        exact rtg hf rfl hw (rvc (rvT hf (v := _) rfl) rv0) rfl (e5.trans e12) ⟨rfl, (show inI64 1 by unfold inI64; omega), hs11⟩
      · skip
        have E := cdF c44 E
        refine WF.skip ?_
        refine WF.nilW ?_
        refine WF.seq ?_
        refine WF.rp (.inl rfl) ?_
        refine QF.as_ rfl rfl ?_
        refine QF.rpn (sb 4 rfl sb0) ?_
        refine WF.ret (fun aa ww hf hw => ?_)
        cases E
        exact rtg hf rfl hw (rvc (rvT hf (v := _) rfl) rv0) rfl (e5.trans e12) ⟨rfl, (show inI64 0 by unfold inI64; omega), hs11⟩

set_option maxRecDepth 10000 in
set_option maxHeartbeats 2000000 in
theorem alarm_Next_ret {N : Nat} {S : Nat → Prop} {L : List HP} {h : Heap} (hs : St S L h) {v_p0_t : Value} {p0_t : GTown} (h_p0_t : Rd S h RGTown v_p0_t p0_t) {v_p1_a : Value} {p1_a : GAlarm} (h_p1_a : Rd S h RGAlarm v_p1_a p1_a) {v_p2_s : Value} {p2_s : GSight} (h_p2_s : Rd S h RGSight v_p2_s p2_s) {r : GAlarm} (E : f_alarm_Next N p0_t p1_a p2_s = some r) :
    Ret Try.prog 25 #[v_p0_t, v_p1_a, v_p2_s] S h (fun v S' h' => v = .agg #[.int .i64 r.Level, .int .i64 r.Calm, .int .i64 r.Then] ∧ GAlarm.ok r ∧ St S' (L) h') := by
  refine Ret.go (l := [v_p0_t, v_p1_a, v_p2_s]) 49 Try.func25 rfl Try.ntmps25 rfl fun B => ?_
  rw [f_alarm_Next] at E
  refine WF.seq ?_
  refine WF.rl ?_
  refine LF.boxp rfl h_p0_t (fun e => by cases e) rfl hs fun q1 S2 h3 hs4 e5 k6 => ?_
  have k7 := h_p1_a.mono e5
  refine LF.boxp rfl k7 (fun e => by cases e) rfl hs4 fun q8 S9 h10 hs11 e12 k13 => ?_
  have k14 := h_p2_s.mono (e5.trans e12)
  refine LF.boxp rfl k14 (fun e => by cases e) rfl hs11 fun q15 S16 h17 hs18 e19 k20 => ?_
  refine LF.al zc_55 rfl hs18 fun b21 h22 hs23 e24 => ?_
  refine LF.nil (sb 6 rfl (sb 5 rfl (sb 4 rfl (sb 3 rfl sb0)))) ?_
  refine WF.seq ?_
  refine WF.rc (.inl rfl) hs23 ?_
  have k25 := k6.mono (e12.trans (e19.trans e24))
  refine QF.ld ckC hs23.1 rfl k25 ty_41 (fun e => by cases e) rfl fun v26 k27 => ?_
  have k28 := k20.mono e24
  refine QF.ld ckC hs23.1 rfl k28 ty_52 (fun e => by cases e) rfl fun v29 k30 => ?_
  obtain ⟨y31, hy31, E⟩ := bd E
  refine QF.callp (v := .int .i64 y31) (Ψ := inI64 y31) rfl rfl rfl ca_41 rfl (fun h' o => (alarm_demand_ret (St.all h') (k27.mono (o.all hs23.1)) (k30.mono (o.all hs23.1)) hy31).mono fun _ _ _ _ p => ⟨p.1, p.2.1⟩) fun r32 => ?_
  have r33 := r32
  refine QF.as_ rfl rfl ?_
  refine QF.rcn (sb 7 rfl (sb 6 rfl (sb 5 rfl (sb 4 rfl sb0)))) fun h34 hs35 e36 => ?_
  refine WF.seq ?_
  refine WF.seq ?_
  refine WF.rp (.inl rfl) ?_
  refine QF.mv rfl rfl ?_
  have k37 := k13.mono (e19.trans (e24.trans e36))
  refine QF.fa rfl k37 GAlarm.f_Level fa_55_0 rfl fun q38 k39 => ?_
  refine QF.ldi ckP hs35.1 rfl k39 ty_3 rfl fun r40 => ?_
  refine QF.geq rfl rfl rfl ?_
  refine QF.rpn (sb 15 rfl (sb 7 rfl (sb 6 rfl (sb 5 rfl (sb 4 rfl sb0))))) ?_
  refine WF.if_ rfl (fun c41 => ?_) (fun c41 => ?_)
  · skip
    have E := cdT c41 E
    refine WF.seq ?_
    refine WF.rl ?_
    refine LF.q 2 ?_
    refine QF.mv rfl rfl ?_
    refine QF.bld (cs := [.int .i64 y31, .int .i64 0, .int .i64 0]) st_55 rfl rfl rfl ?_
    refine QF.ln ?_
    refine LF.st (vs := [.int .i64 y31, .int .i64 0, .int .i64 0]) (cs' := [.int .i64 y31, .int .i64 0, .int .i64 0]) rfl rfl rfl (one_cons rfl (one_cons rfl (one_cons rfl one_nil))) ty_55 rfl hs35 .head rfl rfl fun h42 hs43 e44 => ?_
    refine LF.nil (sb 6 rfl sb0) ?_
    refine WF.ret (fun aa ww hf hw => ?_)
    have hs45 := hs43.drop .head
    cases E
    exact rtg hf rfl hw (rvc (rvC hf hw hs43 rfl mh ty_55 rfl) rv0) rfl (e5.trans (e12.trans (e19.trans (e24.trans (e36.trans e44))))) ⟨rfl, ⟨r33, (show inI64 0 by unfold inI64; omega), (show inI64 0 by unfold inI64; omega)⟩, hs45⟩
  · skip
    have E := cdF c41 E
    refine WF.skip ?_
    refine WF.seq ?_
    refine WF.seq ?_
    refine WF.rp (.inl rfl) ?_
    refine QF.fa rfl k37 GAlarm.f_Level fa_55_0 rfl fun q46 k47 => ?_
    refine QF.ldi ckP hs35.1 rfl k47 ty_3 rfl fun r48 => ?_
    refine QF.geq rfl rfl rfl ?_
    refine QF.mv rfl rfl ?_
    refine QF.cutv 4 25 (.bool ((decide (3 ≤ p1_a.Level)) && (decide (0 ≤ p2_s.Crest)))) ?_ ?_
    · cases c49 : (decide (3 ≤ p1_a.Level))
      · skip
        refine QF.gnF rfl rfl rfl rfl rfl ?_
        refine QF.gnF rfl rfl rfl rfl rfl ?_
        refine QF.gnF rfl rfl rfl rfl rfl ?_
        refine QF.pick rfl rfl rfl ?_
        exact QF.cutn (sb 25 rfl (sb 21 rfl (sb 20 rfl (sb 19 rfl (sb 18 rfl (sb 15 rfl (sb 7 rfl (sb 6 rfl (sb 5 rfl (sb 4 rfl sb0))))))))))
      · skip
        refine QF.gy rfl rfl rfl ?_
        have k50 := k28.mono e36
        refine QF.fa rfl k50 GSight.f_Crest fa_52_0 rfl fun q51 k52 => ?_
        refine QF.gy rfl rfl rfl ?_
        refine QF.ldi ckP hs35.1 rfl k52 ty_3 rfl fun r53 => ?_
        refine QF.gy rfl rfl rfl ?_
        refine QF.geq rfl rfl rfl ?_
        refine QF.pick rfl rfl rfl ?_
        exact QF.cutn (sb 25 rfl (sb 21 rfl (sb 20 rfl (sb 19 rfl (sb 18 rfl (sb 15 rfl (sb 7 rfl (sb 6 rfl (sb 5 rfl (sb 4 rfl sb0))))))))))
    refine QF.rpn (sb 25 rfl (sb 7 rfl (sb 6 rfl (sb 4 rfl sb0)))) ?_
    refine WF.if_ rfl (fun c54 => ?_) (fun c54 => ?_)
    · skip
      have E := cdT c54 E
      refine WF.seq ?_
      refine WF.rl ?_
      refine LF.q 3 ?_
      refine QF.fa rfl k37 GAlarm.f_Level fa_55_0 rfl fun q55 k56 => ?_
      refine QF.ldi ckP hs35.1 rfl k56 ty_3 rfl fun r57 => ?_
      refine QF.bld (cs := [.int .i64 p1_a.Level, .int .i64 0, .int .i64 0]) st_55 rfl rfl rfl ?_
      refine QF.ln ?_
      refine LF.st (vs := [.int .i64 p1_a.Level, .int .i64 0, .int .i64 0]) (cs' := [.int .i64 p1_a.Level, .int .i64 0, .int .i64 0]) rfl rfl rfl (one_cons rfl (one_cons rfl (one_cons rfl one_nil))) ty_55 rfl hs35 .head rfl rfl fun h58 hs59 e60 => ?_
      refine LF.nil (sb 6 rfl sb0) ?_
      refine WF.ret (fun aa ww hf hw => ?_)
      have hs61 := hs59.drop .head
      cases E
      exact rtg hf rfl hw (rvc (rvC hf hw hs59 rfl mh ty_55 rfl) rv0) rfl (e5.trans (e12.trans (e19.trans (e24.trans (e36.trans e60))))) ⟨rfl, ⟨r57, (show inI64 0 by unfold inI64; omega), (show inI64 0 by unfold inI64; omega)⟩, hs61⟩
    · skip
      have E := cdF c54 E
      refine WF.skip ?_
      refine WF.seq ?_
      refine WF.rp (.inl rfl) ?_
      refine QF.mv rfl rfl ?_
      refine QF.as_ rfl rfl ?_
      refine QF.rpn (sb 8 rfl (sb 7 rfl (sb 6 rfl (sb 4 rfl sb0)))) ?_
      refine WF.seq ?_
      refine WF.seq ?_
      refine WF.rp (.inl rfl) ?_
      refine QF.fa rfl k37 GAlarm.f_Calm fa_55_1 rfl fun q62 k63 => ?_
      refine QF.ldi ckP hs35.1 rfl k63 ty_3 rfl fun r64 => ?_
      refine QF.neq rfl rfl rfl ?_
      refine QF.rpn (sb 32 rfl (sb 8 rfl (sb 7 rfl (sb 6 rfl (sb 4 rfl sb0))))) ?_
      refine WF.cut (fun a w => ∃ (i65 : Int) (S' : Nat → Prop) (h' : Heap), Fr 49 a [(6, .pointer (some ⟨b21, 0, none⟩)), (4, q8), (8, .int .i64 i65)] ∧ Wd B h' w ∧ St S' (Bx b21 55 [.int .i64 0, .int .i64 0, .int .i64 0] :: L) h' ∧ Ext S16 h34 S' h' ∧ inI64 i65 ∧ f_alarm_Next_j0 N p1_a i65 = some r) ?_ ?_
      · skip
        refine WF.if_ rfl (fun c67 => ?_) (fun c67 => ?_)
        · skip
          have E := cdT c67 E
          refine WF.rp (.inl rfl) ?_
          refine QF.mv rfl rfl ?_
          refine QF.fa rfl k37 GAlarm.f_Then fa_55_2 rfl fun q68 k69 => ?_
          refine QF.ldi ckP hs35.1 rfl k69 ty_3 rfl fun r70 => ?_
          refine QF.max rfl rfl rfl ?_
          refine QF.as_ rfl rfl ?_
          refine QF.rpn (sb 8 rfl (sb 6 rfl (sb 4 rfl sb0))) ?_
          refine WF.nil (fun aa ww hf hw => ?_)
          exact ⟨(max y31 p1_a.Then), _, _, hf.sub (sb 6 rfl (sb 4 rfl (sb 8 rfl sb0))), hw, hs35, (Ext.refl S16 h34), (inI64_max r33 r70), E⟩
        · skip
          have E := cdF c67 E
          refine WF.skip ?_
          refine WF.nil (fun aa ww hf hw => ?_)
          exact ⟨y31, _, _, hf.sub (sb 6 rfl (sb 4 rfl (sb 8 rfl sb0))), hw, hs35, (Ext.refl S16 h34), r33, E⟩
      · skip
        rintro aa ww ⟨i65, S71, h72, hf, hw, hs73, e74, r66, E⟩
        refine WF.run ?_ hf hw
        clear hf hw ww aa
        rw [f_alarm_Next_j0] at E
        refine WF.seq ?_
        refine WF.seq ?_
        refine WF.rp (.inl rfl) ?_
        have k75 := k37.mono e74
        refine QF.fa rfl k75 GAlarm.f_Calm fa_55_1 rfl fun q76 k77 => ?_
        refine QF.ldi ckP hs73.1 rfl k77 ty_3 rfl fun r78 => ?_
        refine QF.geq rfl rfl rfl ?_
        refine QF.rpn (sb 39 rfl (sb 6 rfl (sb 4 rfl (sb 8 rfl sb0)))) ?_
        refine WF.if_ rfl (fun c79 => ?_) (fun c79 => ?_)
        · skip
          have E := cdT c79 E
          refine WF.seq ?_
          refine WF.rl ?_
          refine LF.q 2 ?_
          refine QF.mv rfl rfl ?_
          refine QF.bld (cs := [.int .i64 i65, .int .i64 0, .int .i64 0]) st_55 rfl rfl rfl ?_
          refine QF.ln ?_
          refine LF.st (vs := [.int .i64 i65, .int .i64 0, .int .i64 0]) (cs' := [.int .i64 i65, .int .i64 0, .int .i64 0]) rfl rfl rfl (one_cons rfl (one_cons rfl (one_cons rfl one_nil))) ty_55 rfl hs73 .head rfl rfl fun h80 hs81 e82 => ?_
          refine LF.nil (sb 6 rfl sb0) ?_
          refine WF.ret (fun aa ww hf hw => ?_)
          have hs83 := hs81.drop .head
          cases E
          exact rtg hf rfl hw (rvc (rvC hf hw hs81 rfl mh ty_55 rfl) rv0) rfl (e5.trans (e12.trans (e19.trans (e24.trans (e36.trans (e74.trans e82)))))) ⟨rfl, ⟨r66, (show inI64 0 by unfold inI64; omega), (show inI64 0 by unfold inI64; omega)⟩, hs83⟩
        · skip
          have E := cdF c79 E
          refine WF.skip ?_
          refine WF.seq ?_
          refine WF.rl ?_
          refine LF.q 7 ?_
          refine QF.fa rfl k75 GAlarm.f_Level fa_55_0 rfl fun q84 k85 => ?_
          refine QF.ldi ckP hs73.1 rfl k85 ty_3 rfl fun r86 => ?_
          refine QF.fa rfl k75 GAlarm.f_Calm fa_55_1 rfl fun q87 k88 => ?_
          refine QF.ldi ckP hs73.1 rfl k88 ty_3 rfl fun r89 => ?_
          refine QF.addw rfl rfl rfl ?_
          refine QF.mv rfl rfl ?_
          refine QF.bld (cs := [.int .i64 p1_a.Level, .int .i64 (w64 (p1_a.Calm + 1)), .int .i64 i65]) st_55 rfl rfl rfl ?_
          refine QF.ln ?_
          refine LF.st (vs := [.int .i64 p1_a.Level, .int .i64 (w64 (p1_a.Calm + 1)), .int .i64 i65]) (cs' := [.int .i64 p1_a.Level, .int .i64 (w64 (p1_a.Calm + 1)), .int .i64 i65]) rfl rfl rfl (one_cons rfl (one_cons rfl (one_cons rfl one_nil))) ty_55 rfl hs73 .head rfl rfl fun h90 hs91 e92 => ?_
          refine LF.nil (sb 6 rfl sb0) ?_
          refine WF.ret (fun aa ww hf hw => ?_)
          have hs93 := hs91.drop .head
          cases E
          exact rtg hf rfl hw (rvc (rvC hf hw hs91 rfl mh ty_55 rfl) rv0) rfl (e5.trans (e12.trans (e19.trans (e24.trans (e36.trans (e74.trans e92)))))) ⟨rfl, ⟨r86, (w64_i _), r66⟩, hs93⟩

set_option maxRecDepth 10000 in
set_option maxHeartbeats 2000000 in
theorem alarm_Run_ret {N : Nat} {S : Nat → Prop} {L : List HP} {h : Heap} (hs : St S L h) {v_p0_t : Value} {p0_t : GTown} (h_p0_t : Rd S h RGTown v_p0_t p0_t) {v_p1_sights : Value} {p1_sights : (List GSight)} (h_p1_sights : Sl S h RGSight v_p1_sights p1_sights) {r : (List GAlarm)} (E : f_alarm_Run N p0_t p1_sights = some r) :
    Ret Try.prog 10 #[v_p0_t, v_p1_sights] S h (fun v S' h' => St S' (OS RGAlarm 55 v r :: L) h') := by
  refine Ret.go (l := [v_p0_t, v_p1_sights]) 29 Try.func10 rfl Try.ntmps10 rfl fun B => ?_
  rw [f_alarm_Run] at E
  refine WF.seq ?_
  refine WF.rl ?_
  refine LF.boxp rfl h_p0_t (fun e => by cases e) rfl hs fun q1 S2 h3 hs4 e5 k6 => ?_
  refine LF.q 1 ?_
  refine QF.as_ rfl rfl ?_
  refine QF.ln ?_
  refine LF.nil (sb 2 rfl (sb 1 rfl sb0)) ?_
  refine WF.seq ?_
  refine WF.rl ?_
  refine LF.q 2 ?_
  refine QF.mv rfl rfl ?_
  have k7 := h_p1_sights.mono' e5
  refine QF.len rfl k7 sl_53 rfl fun b8 => ?_
  unfold maxLen at b8
  refine QF.ln ?_
  obtain ⟨ck9, E⟩ := ck1 E
  refine LF.mke (r := RGAlarm) (zx := (⟨0, 0, 0⟩ : GAlarm)) el_49 rfl ⟨rfl, by unfold GAlarm.ok inI64; simp [IntKind.has, IntKind.min, IntKind.max, IntKind.bits, IntKind.signed]⟩ rfl rfl ck9 rfl rfl hs4 fun v10 h11 hs12 e13 => ?_
  refine LF.q 1 ?_
  refine QF.as_ rfl rfl ?_
  refine QF.ln ?_
  refine LF.nil (sb 5 rfl (sb 2 rfl (sb 1 rfl sb0))) ?_
  refine WF.seq ?_
  refine WF.rl ?_
  refine LF.q 1 ?_
  refine QF.bld (cs := [.int .i64 0, .int .i64 0, .int .i64 0]) st_55 rfl rfl rfl ?_
  refine QF.ln ?_
  refine LF.al zc_55 rfl hs12 fun b14 h15 hs16 e17 => ?_
  refine LF.st (vs := [.int .i64 0, .int .i64 0, .int .i64 0]) (cs' := [.int .i64 0, .int .i64 0, .int .i64 0]) rfl rfl rfl (one_cons rfl (one_cons rfl (one_cons rfl one_nil))) ty_55 rfl hs16 .head rfl rfl fun h18 hs19 e20 => ?_
  refine LF.nil (sb 6 rfl (sb 5 rfl (sb 2 rfl (sb 1 rfl sb0)))) ?_
  refine WF.seq ?_
  refine WF.seq ?_
  refine WF.rp (.inl rfl) ?_
  refine QF.mv rfl rfl ?_
  have k21 := h_p1_sights.mono' (e5.trans (e13.trans (e17.trans e20)))
  refine QF.len rfl k21 sl_53 rfl fun b22 => ?_
  unfold maxLen at b22
  refine QF.mv rfl rfl ?_
  refine QF.rpn (sb 15 rfl (sb 14 rfl (sb 13 rfl (sb 6 rfl (sb 5 rfl (sb 2 rfl sb0)))))) ?_
  refine WF.blockJ (fun a w => ∃ (v23 : Value) (l24 : List GAlarm) (S' : Nat → Prop) (h' : Heap), Fr 29 a [(5, v23)] ∧ Wd B h' w ∧ St S' (OS RGAlarm 55 v23 l24 :: L) h' ∧ Ext S2 h18 S' h' ∧ f_alarm_Run_j0 N l24 = some r) ?_ ?_
  · skip
    refine WF.loopF (fun n1 => fun a w => ∃ (v35 : Value) (l36 : List GAlarm) (i37 : Int) (i39 : Int) (i41 : Int) (i43 : Int) (S' : Nat → Prop) (h' : Heap), Fr 29 a [(14, .int .i64 (↑p1_sights.length : Int)), (13, v_p1_sights), (6, .pointer (some ⟨b14, 0, none⟩)), (2, q1), (5, v35), (15, .int .i64 i37)] ∧ Wd B h' w ∧ St S' (OS RGAlarm 55 v35 l36 :: Bx b14 55 [.int .i64 i39, .int .i64 i41, .int .i64 i43] :: L) h' ∧ Ext S2 h18 S' h' ∧ inI64 i37 ∧ inI64 i39 ∧ inI64 i41 ∧ inI64 i43 ∧ f_alarm_Run_l1 N p0_t p1_sights (f_alarm_Run_j0 N) n1 l36 i37 i39 i41 i43 = some r) N ?_ ?_ ?_
    · intro aa ww hf hw
      have hs45 := hs19.pick (.tail .head)
      exact ⟨v10, (List.replicate (0 : Int).toNat (⟨0, 0, 0⟩ : GAlarm)), 0, 0, 0, 0, _, _, hf.sub (sb 14 rfl (sb 13 rfl (sb 6 rfl (sb 2 rfl (sb 5 rfl (sb 15 rfl sb0)))))), hw, hs45, (Ext.refl S2 h18), (show inI64 0 by unfold inI64; omega), (show inI64 0 by unfold inI64; omega), (show inI64 0 by unfold inI64; omega), (show inI64 0 by unfold inI64; omega), E⟩
    · rintro aa ww ⟨_, _, _, _, _, _, _, _, _, _, _, _, _, _, _, _, E⟩
      rw [f_alarm_Run_l1] at E; cases E
    · skip
      rintro n1 aa ww ⟨v35, l36, i37, i39, i41, i43, S46, h47, hf, hw, hs48, e49, r38, r40, r42, r44, E⟩
      refine WF.run ?_ hf hw
      clear hf hw ww aa
      rw [f_alarm_Run_l1] at E
      refine WF.seq ?_
      refine WF.rp (.inl rfl) ?_
      refine QF.lss rfl rfl rfl ?_
      refine QF.rpn (sb 16 rfl (sb 14 rfl (sb 13 rfl (sb 6 rfl (sb 2 rfl (sb 5 rfl (sb 15 rfl sb0))))))) ?_
      refine WF.seq ?_
      refine WF.if_ rfl (fun c50 => ?_) (fun c50 => ?_)
      · skip
        have E := cdT c50 E
        refine WF.skip ?_
        refine WF.seq ?_
        refine WF.block ?_
        refine WF.seq ?_
        refine WF.rl ?_
        refine LF.q 2 ?_
        have k51 := k21.mono' e49
        obtain ⟨x52, hx52, E⟩ := bd E
        refine QF.ixe rfl rfl k51 sl_53 hx52 rfl fun q53 k54 => ?_
        refine QF.ld ckP hs48.1 rfl k54 ty_52 (fun e => by cases e) rfl fun v55 k56 => ?_
        refine QF.ln ?_
        refine LF.al zc_52 rfl hs48 fun b57 h58 hs59 e60 => ?_
        have k61 := k56.mono e60
        obtain ⟨rfl, r63⟩ := RGSight.ex k61
        refine LF.st (vs := [.int .i64 x52.Crest, .bool x52.Quorum]) (cs' := [.int .i64 x52.Crest, .bool x52.Quorum]) rfl rfl rfl (one_cons rfl (one_cons rfl one_nil)) ty_52 rfl hs59 .head rfl rfl fun h64 hs65 e66 => ?_
        refine LF.nil (sb 8 rfl (sb 14 rfl (sb 13 rfl (sb 6 rfl (sb 2 rfl (sb 5 rfl (sb 15 rfl sb0))))))) ?_
        refine WF.seq ?_
        refine WF.rl ?_
        refine LF.q 3 ?_
        have k67 := k6.mono (e13.trans (e17.trans (e20.trans (e49.trans (e60.trans e66)))))
        refine QF.ld ckP hs65.1 rfl k67 ty_41 (fun e => by cases e) rfl fun v68 k69 => ?_
        refine QF.ldo (vs := [.int .i64 i39, .int .i64 i41, .int .i64 i43]) ckP hs65 rfl (mt (mt mh)) rfl rfl ty_55 rfl rfl ?_
        refine QF.ldo (vs := [.int .i64 x52.Crest, .bool x52.Quorum]) ckP hs65 rfl mh rfl rfl ty_52 rfl rfl ?_
        refine QF.ln ?_
        obtain ⟨y70, hy70, E⟩ := bd E
        refine LF.callb rfl rfl rfl ca_25 rfl hs65 (alarm_Next_ret (St.all _) (k69.mono ⟨fun b hb => hs65.1 b hb, fun _ _ => rfl, Nat.le_refl _⟩) (RGAlarm.mk (x := (⟨i39, i41, i43⟩ : GAlarm)) ⟨r40, r42, r44⟩) (RGSight.mk (x := x52) r63) hy70) fun v71 S72 h73 hs75 e74 e80 p => ?_
        obtain ⟨rfl, ⟨r76, r77, r78⟩, hq79⟩ := p
        refine LF.st (vs := [.int .i64 y70.Level, .int .i64 y70.Calm, .int .i64 y70.Then]) (cs' := [.int .i64 y70.Level, .int .i64 y70.Calm, .int .i64 y70.Then]) rfl rfl rfl (one_cons rfl (one_cons rfl (one_cons rfl one_nil))) ty_55 rfl hs75 (.tail (.tail .head)) rfl rfl fun h81 hs82 e83 => ?_
        refine LF.nil (sb 14 rfl (sb 13 rfl (sb 6 rfl (sb 2 rfl (sb 5 rfl (sb 15 rfl sb0)))))) ?_
        refine WF.rl ?_
        refine LF.q 2 ?_
        refine QF.mv rfl rfl ?_
        refine QF.ldo (vs := [.int .i64 y70.Level, .int .i64 y70.Calm, .int .i64 y70.Then]) ckP hs82 rfl (mt (mt mh)) rfl rfl ty_55 rfl rfl ?_
        refine QF.ln ?_
        refine LF.bsq (cs := [.int .i64 y70.Level, .int .i64 y70.Calm, .int .i64 y70.Then]) el_49 rfl rfl rfl rfl rfl rfl rfl hs82 fun b84 h85 hs86 e87 => ?_
        obtain ⟨ck88, E⟩ := ck1 E
        refine LF.app2 (r := RGAlarm) (l := l36) (xs := ([y70] : List GAlarm)) rfl rfl el_49 rfl mh ⟨_, _, rfl, ⟨rfl, ⟨r76, r77, r78⟩⟩, rfl⟩ rfl rfl ck88 rfl hs86 (fun _ => (.tail (.tail .head))) fun v89 h90 hs91 e92 => ?_
        have hs93 := hs91.drop .head
        refine LF.q 1 ?_
        refine QF.as_ rfl rfl ?_
        refine QF.ln ?_
        refine LF.nil (sb 5 rfl (sb 14 rfl (sb 13 rfl (sb 6 rfl (sb 2 rfl (sb 15 rfl sb0)))))) ?_
        refine WF.nilW ?_
        refine WF.rp (.inl rfl) ?_
        refine QF.addw rfl rfl rfl ?_
        refine QF.mv rfl rfl ?_
        refine QF.rpn (sb 15 rfl (sb 5 rfl (sb 14 rfl (sb 13 rfl (sb 6 rfl (sb 2 rfl sb0)))))) ?_
        refine WF.nil (fun aa ww hf hw => ?_)
        have hs94 := hs93.pick (.tail (.tail .head))
        have hs95 := hs94.pick (.tail (.tail .head))
        have hs96 := hs95.drop (.tail (.tail .head))
        exact ⟨v89, (l36 ++ ([y70] : List GAlarm)), (w64 (i37 + 1)), y70.Level, y70.Calm, y70.Then, _, _, hf.sub (sb 14 rfl (sb 13 rfl (sb 6 rfl (sb 2 rfl (sb 5 rfl (sb 15 rfl sb0)))))), hw, hs96, (e49.trans (e60.trans (e66.trans (e74.trans (e83.trans (e87.trans e92)))))), (w64_i _), r76, r77, r78, E⟩
      · skip
        have E := cdF c50 E
        refine WF.exit rfl (fun aa ww hf hw => ?_)
        have hs97 := hs48.drop (.tail .head)
        exact ⟨v35, l36, _, _, hf.sub (sb 5 rfl sb0), hw, hs97, e49, E⟩
  · skip
    rintro aa ww ⟨v23, l24, S98, h99, hf, hw, hs100, e101, E⟩
    refine WF.run ?_ hf hw
    clear hf hw ww aa
    rw [f_alarm_Run_j0] at E
    refine WF.seq ?_
    refine WF.rp (.inl rfl) ?_
    refine QF.mv rfl rfl ?_
    refine QF.as_ rfl rfl ?_
    refine QF.rpn (sb 4 rfl sb0) ?_
    refine WF.ret (fun aa ww hf hw => ?_)
    cases E
    exact rtg hf rfl hw (rvc (rvT hf (v := _) rfl) rv0) rfl (e5.trans (e13.trans (e17.trans (e20.trans e101)))) hs100

set_option maxRecDepth 10000 in
set_option maxHeartbeats 2000000 in
theorem bournelaw43_small_ret {N : Nat} {S : Nat → Prop} {L : List HP} {h : Heap} (hs : St S L h)  {r : Bool} (E : f_bournelaw43_small N = some r) :
    Ret Try.prog 4 #[] S h (fun v S' h' => v = .bool r ∧ St S' (L) h') := by
  refine Ret.go (l := []) 44 Try.func4 rfl Try.ntmps4 rfl fun B => ?_
  rw [f_bournelaw43_small] at E
  refine WF.seq ?_
  refine WF.rp (.inl rfl) ?_
  refine QF.as_ rfl rfl ?_
  refine QF.rpn sb0 ?_
  refine WF.seq ?_
  refine WF.rl ?_
  refine LF.q 1 ?_
  refine QF.bld (cs := [.string ByteArray.empty, .int .i64 0, .int .i64 0, .int .i64 3, .int .i64 0, .int .i64 0, .int .i64 0]) st_41 rfl rfl rfl ?_
  refine QF.ln ?_
  refine LF.al zc_41 rfl hs fun b1 h2 hs3 e4 => ?_
  refine LF.st (vs := [.string ByteArray.empty, .int .i64 0, .int .i64 0, .int .i64 3, .int .i64 0, .int .i64 0, .int .i64 0]) (cs' := [.string ByteArray.empty, .int .i64 0, .int .i64 0, .int .i64 3, .int .i64 0, .int .i64 0, .int .i64 0]) rfl rfl rfl (one_cons rfl (one_cons rfl (one_cons rfl (one_cons rfl (one_cons rfl (one_cons rfl (one_cons rfl one_nil))))))) ty_41 rfl hs3 .head rfl rfl fun h5 hs6 e7 => ?_
  refine LF.nil (sb 1 rfl sb0) ?_
  refine WF.seq ?_
  refine WF.rl ?_
  refine LF.q 8 ?_
  refine QF.ldo (vs := [.string ByteArray.empty, .int .i64 0, .int .i64 0, .int .i64 3, .int .i64 0, .int .i64 0, .int .i64 0]) ckP hs6 rfl mh rfl rfl ty_41 rfl rfl ?_
  refine QF.bld (cs := [.int .i64 9, .bool false]) st_52 rfl rfl rfl ?_
  refine QF.bld (cs := [.int .i64 8, .bool false]) st_52 rfl rfl rfl ?_
  refine QF.bld (cs := [.int .i64 4, .bool false]) st_52 rfl rfl rfl ?_
  refine QF.bld (cs := [.int .i64 5, .bool false]) st_52 rfl rfl rfl ?_
  refine QF.bld (cs := [.int .i64 (-1), .bool false]) st_52 rfl rfl rfl ?_
  refine QF.bld (cs := [.int .i64 (-1), .bool true]) st_52 rfl rfl rfl ?_
  refine QF.bld (cs := [.int .i64 (-1), .bool false]) st_52 rfl rfl rfl ?_
  refine QF.ln ?_
  refine LF.bsq (cs := [.int .i64 9, .bool false, .int .i64 8, .bool false, .int .i64 4, .bool false, .int .i64 5, .bool false, .int .i64 (-1), .bool false, .int .i64 (-1), .bool true, .int .i64 (-1), .bool false]) el_53 rfl rfl rfl rfl rfl rfl rfl hs6 fun b8 h9 hs10 e11 => ?_
  have hs12 := hs10.bxos (r := RGSight) (l := ([(⟨9, false⟩ : GSight), (⟨8, false⟩ : GSight), (⟨4, false⟩ : GSight), (⟨5, false⟩ : GSight), (⟨(-1), false⟩ : GSight), (⟨(-1), true⟩ : GSight), (⟨(-1), false⟩ : GSight)] : List GSight)) .head ⟨_, _, rfl, ⟨rfl, (show inI64 9 by unfold inI64; omega)⟩, ⟨_, _, rfl, ⟨rfl, (show inI64 8 by unfold inI64; omega)⟩, ⟨_, _, rfl, ⟨rfl, (show inI64 4 by unfold inI64; omega)⟩, ⟨_, _, rfl, ⟨rfl, (show inI64 5 by unfold inI64; omega)⟩, ⟨_, _, rfl, ⟨rfl, (show inI64 (-1) by unfold inI64; omega)⟩, ⟨_, _, rfl, ⟨rfl, (show inI64 (-1) by unfold inI64; omega)⟩, ⟨_, _, rfl, ⟨rfl, (show inI64 (-1) by unfold inI64; omega)⟩, rfl⟩⟩⟩⟩⟩⟩⟩ (by simp [maxLen])
  obtain ⟨S13, hs14, e15, k16⟩ := hs12.pubs .head
  obtain ⟨y17, hy17, E⟩ := bd E
  refine LF.callb rfl rfl rfl ca_10 rfl hs14 (alarm_Run_ret (St.all _) (RGTown.mk (x := (⟨ByteArray.empty, 0, 0, 3, 0, 0, 0⟩ : GTown)) ⟨(by first | assumption | decide), (show inI64 0 by unfold inI64; omega), (show inI64 0 by unfold inI64; omega), (show inI64 3 by unfold inI64; omega), (show inI64 0 by unfold inI64; omega), (show inI64 0 by unfold inI64; omega), (show inI64 0 by unfold inI64; omega)⟩) (k16.mono (fun b hb => hs14.1 b hb) (fun _ _ => rfl)) hy17) fun v18 S19 h20 hs22 e21 e24 p => ?_
  have hq23 := p
  have hs25 := hs14.join e24 hq23 ⟨OS.flat (fun {_ _ _ _ _ _} k => k), trivial⟩
  simp only [List.cons_append, List.nil_append] at hs25
  refine LF.q 1 ?_
  refine QF.as_ rfl rfl ?_
  refine QF.ln ?_
  refine LF.nil (sb 2 rfl sb0) ?_
  refine WF.seq ?_
  refine WF.rl ?_
  refine LF.bsq (cs := [.int .i64 1, .int .i64 2, .int .i64 3, .int .i64 3, .int .i64 3, .int .i64 3, .int .i64 1]) el_29 rfl rfl rfl rfl rfl rfl rfl hs25 fun b26 h27 hs28 e29 => ?_
  refine LF.q 1 ?_
  refine QF.as_ rfl rfl ?_
  refine QF.ln ?_
  refine LF.nil (sb 3 rfl (sb 2 rfl sb0)) ?_
  refine WF.seq ?_
  refine WF.seq ?_
  refine WF.rp (.inl rfl) ?_
  refine QF.as_ rfl rfl ?_
  refine QF.rpn (sb 4 rfl (sb 3 rfl (sb 2 rfl sb0))) ?_
  have hs30 := hs28.bxos (r := Rep.int) (l := ([1, 2, 3, 3, 3, 3, 1] : List Int)) .head ⟨_, _, rfl, ⟨rfl, (show inI64 1 by unfold inI64; omega)⟩, ⟨_, _, rfl, ⟨rfl, (show inI64 2 by unfold inI64; omega)⟩, ⟨_, _, rfl, ⟨rfl, (show inI64 3 by unfold inI64; omega)⟩, ⟨_, _, rfl, ⟨rfl, (show inI64 3 by unfold inI64; omega)⟩, ⟨_, _, rfl, ⟨rfl, (show inI64 3 by unfold inI64; omega)⟩, ⟨_, _, rfl, ⟨rfl, (show inI64 3 by unfold inI64; omega)⟩, ⟨_, _, rfl, ⟨rfl, (show inI64 1 by unfold inI64; omega)⟩, rfl⟩⟩⟩⟩⟩⟩⟩ (by simp [maxLen])
  obtain ⟨S31, hs32, e33, k34⟩ := hs30.pubs .head
  refine WF.blockJ (fun a w => ∃ (S' : Nat → Prop) (h' : Heap), Fr 44 a [(3, (.slice (some ⟨b26, 0, none⟩) 7 7)), (2, v18)] ∧ Wd B h' w ∧ St S' (OS RGAlarm 55 v18 y17 :: L) h' ∧ Ext S31 h27 S' h' ∧ f_bournelaw43_small_j0 N y17 = some r) ?_ ?_
  · skip
    refine WF.loopF (fun n1 => fun a w => ∃ (i37 : Int) (S' : Nat → Prop) (h' : Heap), Fr 44 a [(3, (.slice (some ⟨b26, 0, none⟩) 7 7)), (2, v18), (4, .int .i64 i37)] ∧ Wd B h' w ∧ St S' (OS RGAlarm 55 v18 y17 :: L) h' ∧ Ext S31 h27 S' h' ∧ inI64 i37 ∧ f_bournelaw43_small_l1 N y17 (f_bournelaw43_small_j0 N y17) n1 i37 = some r) N ?_ ?_ ?_
    · intro aa ww hf hw
      have hs39 := hs32.drop (.tail .head)
      exact ⟨0, _, _, hf.sub (sb 3 rfl (sb 2 rfl (sb 4 rfl sb0))), hw, hs39, (Ext.refl S31 h27), (show inI64 0 by unfold inI64; omega), E⟩
    · rintro aa ww ⟨_, _, _, _, _, _, _, _, E⟩
      rw [f_bournelaw43_small_l1] at E; cases E
    · skip
      rintro n1 aa ww ⟨i37, S40, h41, hf, hw, hs42, e43, r38, E⟩
      refine WF.run ?_ hf hw
      clear hf hw ww aa
      rw [f_bournelaw43_small_l1] at E
      refine WF.seq ?_
      refine WF.seq ?_
      refine WF.rp (.inl rfl) ?_
      refine QF.mv rfl rfl ?_
      refine QF.mv rfl rfl ?_
      have k44 := k34.mono' e43
      refine QF.len rfl k44 sl_29 rfl fun b45 => ?_
      unfold maxLen at b45
      refine QF.lss rfl rfl rfl ?_
      refine QF.rpn (sb 20 rfl (sb 3 rfl (sb 2 rfl (sb 4 rfl sb0)))) ?_
      refine WF.if_ rfl (fun c46 => ?_) (fun c46 => ?_)
      · skip
        have E := cdT c46 E
        refine WF.skip ?_
        refine WF.seq ?_
        refine WF.block ?_
        refine WF.seq ?_
        refine WF.rp (.inr ⟨mo, by kernel_rfl⟩) ?_
        refine QF.mv rfl rfl ?_
        refine QF.mv rfl rfl ?_
        refine QF.leno hs42 mh rfl sl_49 rfl fun b47 => ?_
        unfold maxLen at b47
        refine QF.geq rfl rfl rfl ?_
        refine QF.mv rfl rfl ?_
        obtain ⟨b49, hb49, E⟩ := bd E
        refine QF.cutv 11 38 (.bool b49) ?_ ?_
        · cases c48 : (decide ((↑y17.length : Int) ≤ i37))
          · skip
            have hb49 := cdF c48 hb49
            refine QF.gy rfl rfl rfl ?_
            refine QF.mv rfl rfl ?_
            refine QF.gy rfl rfl rfl ?_
            refine QF.mv rfl rfl ?_
            refine QF.gy rfl rfl rfl ?_
            obtain ⟨x52, hx52, hb49⟩ := bd hb49
            refine QF.ixoe hs42 mh rfl rfl sl_49 hx52 rfl fun q50 ep51 => ?_
            refine QF.gy rfl rfl rfl ?_
            refine QF.fae rfl ep51 fa_55_0 rfl fun q53 ep54 => ?_
            refine QF.gy rfl rfl rfl ?_
            obtain ⟨x55, hx55, hb49⟩ := bd hb49
            have k56 := hs42.epAt mh hx55 GAlarm.f_Level ep54
            refine QF.ldi ckP (fun _ x => x) rfl k56 ty_3 rfl fun r57 => ?_
            refine QF.gy rfl rfl rfl ?_
            refine QF.mv rfl rfl ?_
            refine QF.gy rfl rfl rfl ?_
            refine QF.mv rfl rfl ?_
            refine QF.gy rfl rfl rfl ?_
            have k58 := k34.mono' e43
            obtain ⟨x59, hx59, hb49⟩ := bd hb49
            refine QF.ixe rfl rfl k58 sl_29 hx59 rfl fun q60 k61 => ?_
            refine QF.gy rfl rfl rfl ?_
            refine QF.ldi ckP hs42.1 rfl k61 ty_3 rfl fun r62 => ?_
            refine QF.gy rfl rfl rfl ?_
            refine QF.neq rfl rfl rfl ?_
            refine QF.pick rfl rfl rfl ?_
            cases hb49
            exact QF.cutn (sb 38 rfl (sb 27 rfl (sb 26 rfl (sb 25 rfl (sb 24 rfl (sb 23 rfl (sb 20 rfl (sb 3 rfl (sb 2 rfl (sb 4 rfl sb0))))))))))
          · skip
            have hb49 := cdT c48 hb49
            cases hb49
            refine QF.gnT rfl rfl rfl rfl rfl ?_
            refine QF.gnT rfl rfl rfl rfl rfl ?_
            refine QF.gnT rfl rfl rfl rfl rfl ?_
            refine QF.gnT rfl rfl rfl rfl rfl ?_
            refine QF.gnT rfl rfl rfl rfl rfl ?_
            refine QF.gnT rfl rfl rfl rfl rfl ?_
            refine QF.gnT rfl rfl rfl rfl rfl ?_
            refine QF.gnT rfl rfl rfl rfl rfl ?_
            refine QF.gnT rfl rfl rfl rfl rfl ?_
            refine QF.gnT rfl rfl rfl rfl rfl ?_
            refine QF.pick rfl rfl rfl ?_
            exact QF.cutn (sb 38 rfl (sb 27 rfl (sb 26 rfl (sb 25 rfl (sb 24 rfl (sb 23 rfl (sb 20 rfl (sb 3 rfl (sb 2 rfl (sb 4 rfl sb0))))))))))
        refine QF.rpn (sb 38 rfl (sb 3 rfl (sb 2 rfl (sb 4 rfl sb0)))) ?_
        refine WF.if_ rfl (fun c63 => ?_) (fun c63 => ?_)
        · skip
          have E := cdT c63 E
          refine WF.seq ?_
          refine WF.rp (.inl rfl) ?_
          refine QF.as_ rfl rfl ?_
          refine QF.rpn (sb 0 rfl sb0) ?_
          refine WF.ret (fun aa ww hf hw => ?_)
          have hs64 := hs42.drop .head
          cases E
          exact rtg hf rfl hw (rvc (rvT hf (v := _) rfl) rv0) rfl (e4.trans (e7.trans (e11.trans (e15.trans (e21.trans (e29.trans (e33.trans e43))))))) ⟨rfl, hs64⟩
        · skip
          have E := cdF c63 E
          refine WF.skip ?_
          refine WF.nilW ?_
          refine WF.rp (.inl rfl) ?_
          refine QF.mv rfl rfl ?_
          refine QF.addw rfl rfl rfl ?_
          refine QF.as_ rfl rfl ?_
          refine QF.rpn (sb 4 rfl (sb 3 rfl (sb 2 rfl sb0))) ?_
          refine WF.nil (fun aa ww hf hw => ?_)
          exact ⟨(w64 (i37 + 1)), _, _, hf.sub (sb 3 rfl (sb 2 rfl (sb 4 rfl sb0))), hw, hs42, e43, (w64_i _), E⟩
      · skip
        have E := cdF c46 E
        refine WF.exit rfl (fun aa ww hf hw => ?_)
        exact ⟨_, _, hf.sub (sb 3 rfl (sb 2 rfl sb0)), hw, hs42, e43, E⟩
  · skip
    rintro aa ww ⟨S65, h66, hf, hw, hs67, e68, E⟩
    refine WF.run ?_ hf hw
    clear hf hw ww aa
    rw [f_bournelaw43_small_j0] at E
    refine WF.seq ?_
    refine WF.rp (.inl rfl) ?_
    refine QF.mv rfl rfl ?_
    refine QF.leno hs67 mh rfl sl_49 rfl fun b69 => ?_
    unfold maxLen at b69
    refine QF.mv rfl rfl ?_
    have k70 := k34.mono' e68
    refine QF.len rfl k70 sl_29 rfl fun b71 => ?_
    unfold maxLen at b71
    refine QF.eql rfl rfl rfl ?_
    refine QF.as_ rfl rfl ?_
    refine QF.rpn (sb 0 rfl sb0) ?_
    refine WF.ret (fun aa ww hf hw => ?_)
    have hs72 := hs67.drop .head
    cases E
    exact rtg hf rfl hw (rvc (rvT hf (v := _) rfl) rv0) rfl (e4.trans (e7.trans (e11.trans (e15.trans (e21.trans (e29.trans (e33.trans e68))))))) ⟨rfl, hs72⟩

set_option maxRecDepth 10000 in
set_option maxHeartbeats 2000000 in
theorem bournelaw43_few_ret {N : Nat} {S : Nat → Prop} {L : List HP} {h : Heap} (hs : St S L h) {v_p0_b : Value} {p0_b : GBasin} (h_p0_b : Rd S h RGBasin v_p0_b p0_b) {v_p1_casts : Value} {p1_casts : (List GCast)} (h_p1_casts : Sl S h RGCast v_p1_casts p1_casts) {v_p2_ins : Value} {p2_ins : (List GInput)} (h_p2_ins : Sl S h RGInput v_p2_ins p2_ins) {r : Bool} (E : f_bournelaw43_few N p0_b p1_casts p2_ins = some r) :
    Ret Try.prog 5 #[v_p0_b, v_p1_casts, v_p2_ins] S h (fun v S' h' => v = .bool r ∧ St S' (L) h') := by
  refine Ret.go (l := [v_p0_b, v_p1_casts, v_p2_ins]) 77 Try.func5 rfl Try.ntmps5 rfl fun B => ?_
  rw [f_bournelaw43_few] at E
  refine WF.seq ?_
  refine WF.rl ?_
  refine LF.boxp rfl h_p0_b (fun e => by cases e) rfl hs fun q1 S2 h3 hs4 e5 k6 => ?_
  refine LF.q 1 ?_
  refine QF.as_ rfl rfl ?_
  refine QF.ln ?_
  refine LF.nil (sb 3 rfl (sb 1 rfl (sb 2 rfl sb0))) ?_
  refine WF.seq ?_
  refine WF.seq ?_
  refine WF.rp (.inl rfl) ?_
  refine QF.fa rfl k6 GBasin.f_Places fa_31_3 rfl fun q7 k8 => ?_
  refine QF.ldl ckP hs4.1 rfl k8 ty_23 rfl fun v9 k10 => ?_
  refine QF.len rfl k10 sl_23 rfl fun b11 => ?_
  unfold maxLen at b11
  refine QF.gtr rfl rfl rfl ?_
  refine QF.mv rfl rfl ?_
  refine QF.cutv 5 17 (.bool ((decide (6 < (↑p0_b.Places.length : Int))) || (decide (6 < (↑p0_b.Links.length : Int))))) ?_ ?_
  · cases c12 : (decide (6 < (↑p0_b.Places.length : Int)))
    · skip
      refine QF.gy rfl rfl rfl ?_
      refine QF.fa rfl k6 GBasin.f_Links fa_31_4 rfl fun q13 k14 => ?_
      refine QF.gy rfl rfl rfl ?_
      refine QF.ldl ckP hs4.1 rfl k14 ty_24 rfl fun v15 k16 => ?_
      refine QF.gy rfl rfl rfl ?_
      refine QF.len rfl k16 sl_24 rfl fun b17 => ?_
      unfold maxLen at b17
      refine QF.gy rfl rfl rfl ?_
      refine QF.gtr rfl rfl rfl ?_
      refine QF.pick rfl rfl rfl ?_
      exact QF.cutn (sb 17 rfl (sb 12 rfl (sb 11 rfl (sb 10 rfl (sb 9 rfl (sb 8 rfl (sb 3 rfl (sb 1 rfl (sb 2 rfl sb0)))))))))
    · skip
      refine QF.gnT rfl rfl rfl rfl rfl ?_
      refine QF.gnT rfl rfl rfl rfl rfl ?_
      refine QF.gnT rfl rfl rfl rfl rfl ?_
      refine QF.gnT rfl rfl rfl rfl rfl ?_
      refine QF.pick rfl rfl rfl ?_
      exact QF.cutn (sb 17 rfl (sb 12 rfl (sb 11 rfl (sb 10 rfl (sb 9 rfl (sb 8 rfl (sb 3 rfl (sb 1 rfl (sb 2 rfl sb0)))))))))
  refine QF.mv rfl rfl ?_
  refine QF.cutv 4 22 (.bool (((decide (6 < (↑p0_b.Places.length : Int))) || (decide (6 < (↑p0_b.Links.length : Int)))) || (decide (3 < (↑p1_casts.length : Int))))) ?_ ?_
  · cases c18 : ((decide (6 < (↑p0_b.Places.length : Int))) || (decide (6 < (↑p0_b.Links.length : Int))))
    · skip
      refine QF.gy rfl rfl rfl ?_
      refine QF.mv rfl rfl ?_
      refine QF.gy rfl rfl rfl ?_
      have k19 := h_p1_casts.mono' e5
      refine QF.len rfl k19 sl_56 rfl fun b20 => ?_
      unfold maxLen at b20
      refine QF.gy rfl rfl rfl ?_
      refine QF.gtr rfl rfl rfl ?_
      refine QF.pick rfl rfl rfl ?_
      exact QF.cutn (sb 22 rfl (sb 18 rfl (sb 17 rfl (sb 12 rfl (sb 11 rfl (sb 10 rfl (sb 9 rfl (sb 8 rfl (sb 3 rfl (sb 1 rfl (sb 2 rfl sb0)))))))))))
    · skip
      refine QF.gnT rfl rfl rfl rfl rfl ?_
      refine QF.gnT rfl rfl rfl rfl rfl ?_
      refine QF.gnT rfl rfl rfl rfl rfl ?_
      refine QF.pick rfl rfl rfl ?_
      exact QF.cutn (sb 22 rfl (sb 18 rfl (sb 17 rfl (sb 12 rfl (sb 11 rfl (sb 10 rfl (sb 9 rfl (sb 8 rfl (sb 3 rfl (sb 1 rfl (sb 2 rfl sb0)))))))))))
  refine QF.mv rfl rfl ?_
  refine QF.cutv 4 27 (.bool ((((decide (6 < (↑p0_b.Places.length : Int))) || (decide (6 < (↑p0_b.Links.length : Int)))) || (decide (3 < (↑p1_casts.length : Int)))) || (decide (6 < (↑p2_ins.length : Int))))) ?_ ?_
  · cases c21 : (((decide (6 < (↑p0_b.Places.length : Int))) || (decide (6 < (↑p0_b.Links.length : Int)))) || (decide (3 < (↑p1_casts.length : Int))))
    · skip
      refine QF.gy rfl rfl rfl ?_
      refine QF.mv rfl rfl ?_
      refine QF.gy rfl rfl rfl ?_
      have k22 := h_p2_ins.mono' e5
      refine QF.len rfl k22 sl_57 rfl fun b23 => ?_
      unfold maxLen at b23
      refine QF.gy rfl rfl rfl ?_
      refine QF.gtr rfl rfl rfl ?_
      refine QF.pick rfl rfl rfl ?_
      exact QF.cutn (sb 27 rfl (sb 23 rfl (sb 22 rfl (sb 18 rfl (sb 17 rfl (sb 12 rfl (sb 11 rfl (sb 10 rfl (sb 9 rfl (sb 8 rfl (sb 3 rfl (sb 1 rfl (sb 2 rfl sb0)))))))))))))
    · skip
      refine QF.gnT rfl rfl rfl rfl rfl ?_
      refine QF.gnT rfl rfl rfl rfl rfl ?_
      refine QF.gnT rfl rfl rfl rfl rfl ?_
      refine QF.pick rfl rfl rfl ?_
      exact QF.cutn (sb 27 rfl (sb 23 rfl (sb 22 rfl (sb 18 rfl (sb 17 rfl (sb 12 rfl (sb 11 rfl (sb 10 rfl (sb 9 rfl (sb 8 rfl (sb 3 rfl (sb 1 rfl (sb 2 rfl sb0)))))))))))))
  refine QF.rpn (sb 27 rfl (sb 2 rfl sb0)) ?_
  refine WF.if_ rfl (fun c24 => ?_) (fun c24 => ?_)
  · skip
    have E := cdT c24 E
    refine WF.seq ?_
    refine WF.rp (.inl rfl) ?_
    refine QF.as_ rfl rfl ?_
    refine QF.rpn (sb 6 rfl sb0) ?_
    refine WF.ret (fun aa ww hf hw => ?_)
    cases E
    exact rtg hf rfl hw (rvc (rvT hf (v := _) rfl) rv0) rfl e5 ⟨rfl, hs4⟩
  · skip
    have E := cdF c24 E
    refine WF.skip ?_
    refine WF.seq ?_
    refine WF.seq ?_
    refine WF.rp (.inl rfl) ?_
    refine QF.as_ rfl rfl ?_
    refine QF.rpn (sb 7 rfl (sb 2 rfl sb0)) ?_
    refine WF.blockJ (fun a w => ∃ (S' : Nat → Prop) (h' : Heap), Fr 77 a [] ∧ Wd B h' w ∧ St S' (L) h' ∧ Ext S2 h3 S' h' ∧ f_bournelaw43_few_j0 N = some r) ?_ ?_
    · skip
      refine WF.loopF (fun n1 => fun a w => ∃ (i27 : Int) (S' : Nat → Prop) (h' : Heap), Fr 77 a [(2, v_p2_ins), (7, .int .i64 i27)] ∧ Wd B h' w ∧ St S' (L) h' ∧ Ext S2 h3 S' h' ∧ inI64 i27 ∧ f_bournelaw43_few_l1 N p2_ins (f_bournelaw43_few_j0 N) n1 i27 = some r) N ?_ ?_ ?_
      · intro aa ww hf hw
        exact ⟨0, _, _, hf.sub (sb 2 rfl (sb 7 rfl sb0)), hw, hs4, (Ext.refl S2 h3), (show inI64 0 by unfold inI64; omega), E⟩
      · rintro aa ww ⟨_, _, _, _, _, _, _, _, E⟩
        rw [f_bournelaw43_few_l1] at E; cases E
      · skip
        rintro n1 aa ww ⟨i27, S29, h30, hf, hw, hs31, e32, r28, E⟩
        refine WF.run ?_ hf hw
        clear hf hw ww aa
        rw [f_bournelaw43_few_l1] at E
        refine WF.seq ?_
        refine WF.seq ?_
        refine WF.rp (.inl rfl) ?_
        refine QF.mv rfl rfl ?_
        refine QF.mv rfl rfl ?_
        have k33 := h_p2_ins.mono' (e5.trans e32)
        refine QF.len rfl k33 sl_57 rfl fun b34 => ?_
        unfold maxLen at b34
        refine QF.lss rfl rfl rfl ?_
        refine QF.rpn (sb 31 rfl (sb 2 rfl (sb 7 rfl sb0))) ?_
        refine WF.if_ rfl (fun c35 => ?_) (fun c35 => ?_)
        · skip
          have E := cdT c35 E
          refine WF.skip ?_
          refine WF.seq ?_
          refine WF.block ?_
          refine WF.seq ?_
          refine WF.rp (.inl rfl) ?_
          refine QF.mv rfl rfl ?_
          refine QF.mv rfl rfl ?_
          have k36 := h_p2_ins.mono' (e5.trans e32)
          obtain ⟨x37, hx37, E⟩ := bd E
          refine QF.ixe rfl rfl k36 sl_57 hx37 rfl fun q38 k39 => ?_
          refine QF.fa rfl k39 GInput.f_Faults fa_63_1 rfl fun q40 k41 => ?_
          refine QF.ldl ckP hs31.1 rfl k41 ty_58 rfl fun v42 k43 => ?_
          refine QF.len rfl k43 sl_58 rfl fun b44 => ?_
          unfold maxLen at b44
          refine QF.gtr rfl rfl rfl ?_
          refine QF.mv rfl rfl ?_
          obtain ⟨b46, hb46, E⟩ := bd E
          refine QF.cutv 8 49 (.bool b46) ?_ ?_
          · cases c45 : (decide (6 < (↑x37.Faults.length : Int)))
            · skip
              have hb46 := cdF c45 hb46
              refine QF.gy rfl rfl rfl ?_
              refine QF.mv rfl rfl ?_
              refine QF.gy rfl rfl rfl ?_
              refine QF.mv rfl rfl ?_
              refine QF.gy rfl rfl rfl ?_
              have k47 := h_p2_ins.mono' (e5.trans e32)
              obtain ⟨x48, hx48, hb46⟩ := bd hb46
              refine QF.ixe rfl rfl k47 sl_57 hx48 rfl fun q49 k50 => ?_
              refine QF.gy rfl rfl rfl ?_
              refine QF.fa rfl k50 GInput.f_Cmds fa_63_2 rfl fun q51 k52 => ?_
              refine QF.gy rfl rfl rfl ?_
              refine QF.ldl ckP hs31.1 rfl k52 ty_59 rfl fun v53 k54 => ?_
              refine QF.gy rfl rfl rfl ?_
              refine QF.len rfl k54 sl_59 rfl fun b55 => ?_
              unfold maxLen at b55
              refine QF.gy rfl rfl rfl ?_
              refine QF.gtr rfl rfl rfl ?_
              refine QF.pick rfl rfl rfl ?_
              cases hb46
              exact QF.cutn (sb 49 rfl (sb 41 rfl (sb 40 rfl (sb 39 rfl (sb 38 rfl (sb 37 rfl (sb 36 rfl (sb 35 rfl (sb 34 rfl (sb 31 rfl (sb 2 rfl (sb 7 rfl sb0))))))))))))
            · skip
              have hb46 := cdT c45 hb46
              cases hb46
              refine QF.gnT rfl rfl rfl rfl rfl ?_
              refine QF.gnT rfl rfl rfl rfl rfl ?_
              refine QF.gnT rfl rfl rfl rfl rfl ?_
              refine QF.gnT rfl rfl rfl rfl rfl ?_
              refine QF.gnT rfl rfl rfl rfl rfl ?_
              refine QF.gnT rfl rfl rfl rfl rfl ?_
              refine QF.gnT rfl rfl rfl rfl rfl ?_
              refine QF.pick rfl rfl rfl ?_
              exact QF.cutn (sb 49 rfl (sb 41 rfl (sb 40 rfl (sb 39 rfl (sb 38 rfl (sb 37 rfl (sb 36 rfl (sb 35 rfl (sb 34 rfl (sb 31 rfl (sb 2 rfl (sb 7 rfl sb0))))))))))))
          refine QF.mv rfl rfl ?_
          obtain ⟨b57, hb57, E⟩ := bd E
          refine QF.cutv 8 58 (.bool b57) ?_ ?_
          · cases c56 : b46
            · skip
              have hb57 := cdF c56 hb57
              refine QF.gy rfl rfl rfl ?_
              refine QF.mv rfl rfl ?_
              refine QF.gy rfl rfl rfl ?_
              refine QF.mv rfl rfl ?_
              refine QF.gy rfl rfl rfl ?_
              have k58 := h_p2_ins.mono' (e5.trans e32)
              obtain ⟨x59, hx59, hb57⟩ := bd hb57
              refine QF.ixe rfl rfl k58 sl_57 hx59 rfl fun q60 k61 => ?_
              refine QF.gy rfl rfl rfl ?_
              refine QF.fa rfl k61 GInput.f_Takes fa_63_3 rfl fun q62 k63 => ?_
              refine QF.gy rfl rfl rfl ?_
              refine QF.ldl ckP hs31.1 rfl k63 ty_60 rfl fun v64 k65 => ?_
              refine QF.gy rfl rfl rfl ?_
              refine QF.len rfl k65 sl_60 rfl fun b66 => ?_
              unfold maxLen at b66
              refine QF.gy rfl rfl rfl ?_
              refine QF.gtr rfl rfl rfl ?_
              refine QF.pick rfl rfl rfl ?_
              cases hb57
              exact QF.cutn (sb 58 rfl (sb 50 rfl (sb 49 rfl (sb 41 rfl (sb 40 rfl (sb 39 rfl (sb 38 rfl (sb 37 rfl (sb 36 rfl (sb 35 rfl (sb 34 rfl (sb 31 rfl (sb 2 rfl (sb 7 rfl sb0))))))))))))))
            · skip
              have hb57 := cdT c56 hb57
              cases hb57
              refine QF.gnT rfl rfl rfl rfl rfl ?_
              refine QF.gnT rfl rfl rfl rfl rfl ?_
              refine QF.gnT rfl rfl rfl rfl rfl ?_
              refine QF.gnT rfl rfl rfl rfl rfl ?_
              refine QF.gnT rfl rfl rfl rfl rfl ?_
              refine QF.gnT rfl rfl rfl rfl rfl ?_
              refine QF.gnT rfl rfl rfl rfl rfl ?_
              refine QF.pick rfl rfl rfl ?_
              exact QF.cutn (sb 58 rfl (sb 50 rfl (sb 49 rfl (sb 41 rfl (sb 40 rfl (sb 39 rfl (sb 38 rfl (sb 37 rfl (sb 36 rfl (sb 35 rfl (sb 34 rfl (sb 31 rfl (sb 2 rfl (sb 7 rfl sb0))))))))))))))
          refine QF.mv rfl rfl ?_
          obtain ⟨b68, hb68, E⟩ := bd E
          refine QF.cutv 8 67 (.bool b68) ?_ ?_
          · cases c67 : b57
            · skip
              have hb68 := cdF c67 hb68
              refine QF.gy rfl rfl rfl ?_
              refine QF.mv rfl rfl ?_
              refine QF.gy rfl rfl rfl ?_
              refine QF.mv rfl rfl ?_
              refine QF.gy rfl rfl rfl ?_
              have k69 := h_p2_ins.mono' (e5.trans e32)
              obtain ⟨x70, hx70, hb68⟩ := bd hb68
              refine QF.ixe rfl rfl k69 sl_57 hx70 rfl fun q71 k72 => ?_
              refine QF.gy rfl rfl rfl ?_
              refine QF.fa rfl k72 GInput.f_Swaps fa_63_4 rfl fun q73 k74 => ?_
              refine QF.gy rfl rfl rfl ?_
              refine QF.ldl ckP hs31.1 rfl k74 ty_61 rfl fun v75 k76 => ?_
              refine QF.gy rfl rfl rfl ?_
              refine QF.len rfl k76 sl_61 rfl fun b77 => ?_
              unfold maxLen at b77
              refine QF.gy rfl rfl rfl ?_
              refine QF.gtr rfl rfl rfl ?_
              refine QF.pick rfl rfl rfl ?_
              cases hb68
              exact QF.cutn (sb 67 rfl (sb 59 rfl (sb 58 rfl (sb 50 rfl (sb 49 rfl (sb 41 rfl (sb 40 rfl (sb 39 rfl (sb 38 rfl (sb 37 rfl (sb 36 rfl (sb 35 rfl (sb 34 rfl (sb 31 rfl (sb 2 rfl (sb 7 rfl sb0))))))))))))))))
            · skip
              have hb68 := cdT c67 hb68
              cases hb68
              refine QF.gnT rfl rfl rfl rfl rfl ?_
              refine QF.gnT rfl rfl rfl rfl rfl ?_
              refine QF.gnT rfl rfl rfl rfl rfl ?_
              refine QF.gnT rfl rfl rfl rfl rfl ?_
              refine QF.gnT rfl rfl rfl rfl rfl ?_
              refine QF.gnT rfl rfl rfl rfl rfl ?_
              refine QF.gnT rfl rfl rfl rfl rfl ?_
              refine QF.pick rfl rfl rfl ?_
              exact QF.cutn (sb 67 rfl (sb 59 rfl (sb 58 rfl (sb 50 rfl (sb 49 rfl (sb 41 rfl (sb 40 rfl (sb 39 rfl (sb 38 rfl (sb 37 rfl (sb 36 rfl (sb 35 rfl (sb 34 rfl (sb 31 rfl (sb 2 rfl (sb 7 rfl sb0))))))))))))))))
          refine QF.mv rfl rfl ?_
          obtain ⟨b79, hb79, E⟩ := bd E
          refine QF.cutv 8 76 (.bool b79) ?_ ?_
          · cases c78 : b68
            · skip
              have hb79 := cdF c78 hb79
              refine QF.gy rfl rfl rfl ?_
              refine QF.mv rfl rfl ?_
              refine QF.gy rfl rfl rfl ?_
              refine QF.mv rfl rfl ?_
              refine QF.gy rfl rfl rfl ?_
              have k80 := h_p2_ins.mono' (e5.trans e32)
              obtain ⟨x81, hx81, hb79⟩ := bd hb79
              refine QF.ixe rfl rfl k80 sl_57 hx81 rfl fun q82 k83 => ?_
              refine QF.gy rfl rfl rfl ?_
              refine QF.fa rfl k83 GInput.f_Rain fa_63_0 rfl fun q84 k85 => ?_
              refine QF.gy rfl rfl rfl ?_
              refine QF.ldl ckP hs31.1 rfl k85 ty_29 rfl fun v86 k87 => ?_
              refine QF.gy rfl rfl rfl ?_
              refine QF.len rfl k87 sl_29 rfl fun b88 => ?_
              unfold maxLen at b88
              refine QF.gy rfl rfl rfl ?_
              refine QF.gtr rfl rfl rfl ?_
              refine QF.pick rfl rfl rfl ?_
              cases hb79
              exact QF.cutn (sb 76 rfl (sb 68 rfl (sb 67 rfl (sb 59 rfl (sb 58 rfl (sb 50 rfl (sb 49 rfl (sb 41 rfl (sb 40 rfl (sb 39 rfl (sb 38 rfl (sb 37 rfl (sb 36 rfl (sb 35 rfl (sb 34 rfl (sb 31 rfl (sb 2 rfl (sb 7 rfl sb0))))))))))))))))))
            · skip
              have hb79 := cdT c78 hb79
              cases hb79
              refine QF.gnT rfl rfl rfl rfl rfl ?_
              refine QF.gnT rfl rfl rfl rfl rfl ?_
              refine QF.gnT rfl rfl rfl rfl rfl ?_
              refine QF.gnT rfl rfl rfl rfl rfl ?_
              refine QF.gnT rfl rfl rfl rfl rfl ?_
              refine QF.gnT rfl rfl rfl rfl rfl ?_
              refine QF.gnT rfl rfl rfl rfl rfl ?_
              refine QF.pick rfl rfl rfl ?_
              exact QF.cutn (sb 76 rfl (sb 68 rfl (sb 67 rfl (sb 59 rfl (sb 58 rfl (sb 50 rfl (sb 49 rfl (sb 41 rfl (sb 40 rfl (sb 39 rfl (sb 38 rfl (sb 37 rfl (sb 36 rfl (sb 35 rfl (sb 34 rfl (sb 31 rfl (sb 2 rfl (sb 7 rfl sb0))))))))))))))))))
          refine QF.rpn (sb 76 rfl (sb 2 rfl (sb 7 rfl sb0))) ?_
          refine WF.if_ rfl (fun c89 => ?_) (fun c89 => ?_)
          · skip
            have E := cdT c89 E
            refine WF.seq ?_
            refine WF.rp (.inl rfl) ?_
            refine QF.as_ rfl rfl ?_
            refine QF.rpn (sb 6 rfl sb0) ?_
            refine WF.ret (fun aa ww hf hw => ?_)
            cases E
            exact rtg hf rfl hw (rvc (rvT hf (v := _) rfl) rv0) rfl (e5.trans e32) ⟨rfl, hs31⟩
          · skip
            have E := cdF c89 E
            refine WF.skip ?_
            refine WF.nilW ?_
            refine WF.rp (.inl rfl) ?_
            refine QF.mv rfl rfl ?_
            refine QF.addw rfl rfl rfl ?_
            refine QF.as_ rfl rfl ?_
            refine QF.rpn (sb 7 rfl (sb 2 rfl sb0)) ?_
            refine WF.nil (fun aa ww hf hw => ?_)
            exact ⟨(w64 (i27 + 1)), _, _, hf.sub (sb 2 rfl (sb 7 rfl sb0)), hw, hs31, e32, (w64_i _), E⟩
        · skip
          have E := cdF c35 E
          refine WF.exit rfl (fun aa ww hf hw => ?_)
          exact ⟨_, _, hf.sub sb0, hw, hs31, e32, E⟩
    · skip
      rintro aa ww ⟨S90, h91, hf, hw, hs92, e93, E⟩
      refine WF.run ?_ hf hw
      clear hf hw ww aa
      rw [f_bournelaw43_few_j0] at E
      refine WF.seq ?_
      refine WF.rp (.inl rfl) ?_
      refine QF.as_ rfl rfl ?_
      refine QF.rpn (sb 6 rfl sb0) ?_
      refine WF.ret (fun aa ww hf hw => ?_)
      cases E
      exact rtg hf rfl hw (rvc (rvT hf (v := _) rfl) rv0) rfl (e5.trans e93) ⟨rfl, hs92⟩

set_option maxRecDepth 10000 in
set_option maxHeartbeats 2000000 in
theorem basin_in_ret {N : Nat} {S : Nat → Prop} {L : List HP} {h : Heap} (hs : St S L h) {p0_n : Int} (h_p0_n : inI64 p0_n) {p1_low : Int} (h_p1_low : inI64 p1_low) {p2_high : Int} (h_p2_high : inI64 p2_high) {r : Bool} (E : f_basin_in N p0_n p1_low p2_high = some r) :
    Ret Try.prog 26 #[.int .i64 p0_n, .int .i64 p1_low, .int .i64 p2_high] S h (fun v S' h' => v = .bool r ∧ St S' (L) h') := by
  refine Ret.go (l := [.int .i64 p0_n, .int .i64 p1_low, .int .i64 p2_high]) 15 Try.func26 rfl Try.ntmps26 rfl fun B => ?_
  rw [f_basin_in] at E
  refine WF.seq ?_
  refine WF.rp (.inl rfl) ?_
  refine QF.as_ rfl rfl ?_
  refine QF.rpn (sb 0 rfl (sb 1 rfl (sb 2 rfl sb0))) ?_
  refine WF.seq ?_
  refine WF.rp (.inl rfl) ?_
  refine QF.mv rfl rfl ?_
  refine QF.mv rfl rfl ?_
  refine QF.leq rfl rfl rfl ?_
  refine QF.mv rfl rfl ?_
  refine QF.cutv 4 14 (.bool ((decide (p1_low ≤ p0_n)) && (decide (p0_n ≤ p2_high)))) ?_ ?_
  · cases c1 : (decide (p1_low ≤ p0_n))
    · skip
      refine QF.gnF rfl rfl rfl rfl rfl ?_
      refine QF.gnF rfl rfl rfl rfl rfl ?_
      refine QF.gnF rfl rfl rfl rfl rfl ?_
      refine QF.pick rfl rfl rfl ?_
      exact QF.cutn (sb 14 rfl (sb 10 rfl (sb 9 rfl (sb 8 rfl (sb 7 rfl (sb 0 rfl (sb 1 rfl (sb 2 rfl sb0))))))))
    · skip
      refine QF.gy rfl rfl rfl ?_
      refine QF.mv rfl rfl ?_
      refine QF.gy rfl rfl rfl ?_
      refine QF.mv rfl rfl ?_
      refine QF.gy rfl rfl rfl ?_
      refine QF.leq rfl rfl rfl ?_
      refine QF.pick rfl rfl rfl ?_
      exact QF.cutn (sb 14 rfl (sb 10 rfl (sb 9 rfl (sb 8 rfl (sb 7 rfl (sb 0 rfl (sb 1 rfl (sb 2 rfl sb0))))))))
  refine QF.as_ rfl rfl ?_
  refine QF.rpn (sb 6 rfl sb0) ?_
  refine WF.ret (fun aa ww hf hw => ?_)
  cases E
  exact rtg hf rfl hw (rvc (rvT hf (v := _) rfl) rv0) rfl (Ext.refl S h) ⟨rfl, hs⟩

set_option maxRecDepth 10000 in
set_option maxHeartbeats 2000000 in
theorem basin_volume_ret {N : Nat} {S : Nat → Prop} {L : List HP} {h : Heap} (hs : St S L h) {p0_n : Int} (h_p0_n : inI64 p0_n) {r : Bool} (E : f_basin_volume N p0_n = some r) :
    Ret Try.prog 27 #[.int .i64 p0_n] S h (fun v S' h' => v = .bool r ∧ St S' (L) h') := by
  refine Ret.go (l := [.int .i64 p0_n]) 5 Try.func27 rfl Try.ntmps27 rfl fun B => ?_
  rw [f_basin_volume] at E
  refine WF.seq ?_
  refine WF.rp (.inl rfl) ?_
  refine QF.as_ rfl rfl ?_
  refine QF.rpn (sb 0 rfl sb0) ?_
  refine WF.seq ?_
  refine WF.rc (.inl rfl) hs ?_
  refine QF.mv rfl rfl ?_
  obtain ⟨y1, hy1, E⟩ := bd E
  refine QF.callp (v := .bool y1) (Ψ := True) rfl rfl rfl ca_26 rfl (fun h' o => (basin_in_ret (St.all h') h_p0_n (show inI64 0 by unfold inI64; omega) (show inI64 1125899906842624 by unfold inI64; omega) hy1).mono fun _ _ _ _ p => ⟨p.1, trivial⟩) fun r2 => ?_
  refine QF.as_ rfl rfl ?_
  refine QF.rcn (sb 2 rfl sb0) fun h3 hs4 e5 => ?_
  refine WF.ret (fun aa ww hf hw => ?_)
  cases E
  exact rtg hf rfl hw (rvc (rvT hf (v := _) rfl) rv0) rfl e5 ⟨rfl, hs4⟩

set_option maxRecDepth 10000 in
set_option maxHeartbeats 2000000 in
theorem basin_rightHead_ret {N : Nat} {S : Nat → Prop} {L : List HP} {h : Heap} (hs : St S L h) {v_p0_b : Value} {p0_b : GBasin} (h_p0_b : Rd S h RGBasin v_p0_b p0_b) {r : Bool} (E : f_basin_rightHead N p0_b = some r) :
    Ret Try.prog 11 #[v_p0_b] S h (fun v S' h' => v = .bool r ∧ St S' (L) h') := by
  refine Ret.go (l := [v_p0_b]) 109 Try.func11 rfl Try.ntmps11 rfl fun B => ?_
  rw [f_basin_rightHead] at E
  refine WF.seq ?_
  refine WF.rl ?_
  refine LF.boxp rfl h_p0_b (fun e => by cases e) rfl hs fun q1 S2 h3 hs4 e5 k6 => ?_
  refine LF.q 1 ?_
  refine QF.as_ rfl rfl ?_
  refine QF.ln ?_
  refine LF.nil (sb 1 rfl sb0) ?_
  refine WF.seq ?_
  refine WF.seq ?_
  refine WF.rc (.inl rfl) hs4 ?_
  refine QF.fa rfl k6 GBasin.f_Name fa_31_0 rfl fun q7 k8 => ?_
  refine QF.lds ckC hs4.1 rfl k8 ty_9 rfl fun r9 => ?_
  refine QF.lens rfl us_9 rfl ?_
  refine QF.gtr rfl rfl rfl ?_
  refine QF.mv rfl rfl ?_
  obtain ⟨b11, hb11, E⟩ := bd E
  refine QF.cutv 6 17 (.bool b11) ?_ ?_
  · cases c10 : (decide (500 < (↑p0_b.Name.size : Int)))
    · skip
      have hb11 := cdF c10 hb11
      refine QF.gy rfl rfl rfl ?_
      refine QF.fa rfl k6 GBasin.f_Owners fa_31_1 rfl fun q12 k13 => ?_
      refine QF.gy rfl rfl rfl ?_
      refine QF.ldl ckC hs4.1 rfl k13 ty_22 rfl fun v14 k15 => ?_
      refine QF.gy rfl rfl rfl ?_
      refine QF.len rfl k15 sl_22 rfl fun b16 => ?_
      unfold maxLen at b16
      refine QF.gy rfl rfl rfl ?_
      obtain ⟨y17, hy17, hb11⟩ := bd hb11
      refine QF.callp (v := .bool y17) (Ψ := True) rfl rfl rfl ca_26 rfl (fun h' o => (basin_in_ret (St.all h') (by unfold inI64; omega) (show inI64 1 by unfold inI64; omega) (show inI64 16 by unfold inI64; omega) hy17).mono fun _ _ _ _ p => ⟨p.1, trivial⟩) fun r18 => ?_
      refine QF.gy rfl rfl rfl ?_
      refine QF.not rfl rfl ?_
      refine QF.pick rfl rfl rfl ?_
      cases hb11
      exact QF.cutn (sb 17 rfl (sb 11 rfl (sb 10 rfl (sb 9 rfl (sb 8 rfl (sb 7 rfl (sb 1 rfl sb0)))))))
    · skip
      have hb11 := cdT c10 hb11
      cases hb11
      refine QF.gnT rfl rfl rfl rfl rfl ?_
      refine QF.gnT rfl rfl rfl rfl rfl ?_
      refine QF.gnT rfl rfl rfl rfl rfl ?_
      refine QF.gnT rfl rfl rfl rfl rfl ?_
      refine QF.gnT rfl rfl rfl rfl rfl ?_
      refine QF.pick rfl rfl rfl ?_
      exact QF.cutn (sb 17 rfl (sb 11 rfl (sb 10 rfl (sb 9 rfl (sb 8 rfl (sb 7 rfl (sb 1 rfl sb0)))))))
  refine QF.mv rfl rfl ?_
  obtain ⟨b20, hb20, E⟩ := bd E
  refine QF.cutv 5 23 (.bool b20) ?_ ?_
  · cases c19 : b11
    · skip
      have hb20 := cdF c19 hb20
      refine QF.gy rfl rfl rfl ?_
      refine QF.fa rfl k6 GBasin.f_Cells fa_31_2 rfl fun q21 k22 => ?_
      refine QF.gy rfl rfl rfl ?_
      refine QF.ldi ckC hs4.1 rfl k22 ty_3 rfl fun r23 => ?_
      refine QF.gy rfl rfl rfl ?_
      obtain ⟨y24, hy24, hb20⟩ := bd hb20
      refine QF.callp (v := .bool y24) (Ψ := True) rfl rfl rfl ca_26 rfl (fun h' o => (basin_in_ret (St.all h') r23 (show inI64 0 by unfold inI64; omega) (show inI64 64 by unfold inI64; omega) hy24).mono fun _ _ _ _ p => ⟨p.1, trivial⟩) fun r25 => ?_
      refine QF.gy rfl rfl rfl ?_
      refine QF.not rfl rfl ?_
      refine QF.pick rfl rfl rfl ?_
      cases hb20
      exact QF.cutn (sb 23 rfl (sb 18 rfl (sb 17 rfl (sb 11 rfl (sb 10 rfl (sb 9 rfl (sb 8 rfl (sb 7 rfl (sb 1 rfl sb0)))))))))
    · skip
      have hb20 := cdT c19 hb20
      cases hb20
      refine QF.gnT rfl rfl rfl rfl rfl ?_
      refine QF.gnT rfl rfl rfl rfl rfl ?_
      refine QF.gnT rfl rfl rfl rfl rfl ?_
      refine QF.gnT rfl rfl rfl rfl rfl ?_
      refine QF.pick rfl rfl rfl ?_
      exact QF.cutn (sb 23 rfl (sb 18 rfl (sb 17 rfl (sb 11 rfl (sb 10 rfl (sb 9 rfl (sb 8 rfl (sb 7 rfl (sb 1 rfl sb0)))))))))
  refine QF.mv rfl rfl ?_
  obtain ⟨b27, hb27, E⟩ := bd E
  refine QF.cutv 6 30 (.bool b27) ?_ ?_
  · cases c26 : b20
    · skip
      have hb27 := cdF c26 hb27
      refine QF.gy rfl rfl rfl ?_
      refine QF.fa rfl k6 GBasin.f_Places fa_31_3 rfl fun q28 k29 => ?_
      refine QF.gy rfl rfl rfl ?_
      refine QF.ldl ckC hs4.1 rfl k29 ty_23 rfl fun v30 k31 => ?_
      refine QF.gy rfl rfl rfl ?_
      refine QF.len rfl k31 sl_23 rfl fun b32 => ?_
      unfold maxLen at b32
      refine QF.gy rfl rfl rfl ?_
      obtain ⟨y33, hy33, hb27⟩ := bd hb27
      refine QF.callp (v := .bool y33) (Ψ := True) rfl rfl rfl ca_26 rfl (fun h' o => (basin_in_ret (St.all h') (by unfold inI64; omega) (show inI64 1 by unfold inI64; omega) (show inI64 64 by unfold inI64; omega) hy33).mono fun _ _ _ _ p => ⟨p.1, trivial⟩) fun r34 => ?_
      refine QF.gy rfl rfl rfl ?_
      refine QF.not rfl rfl ?_
      refine QF.pick rfl rfl rfl ?_
      cases hb27
      exact QF.cutn (sb 30 rfl (sb 24 rfl (sb 23 rfl (sb 18 rfl (sb 17 rfl (sb 11 rfl (sb 10 rfl (sb 9 rfl (sb 8 rfl (sb 7 rfl (sb 1 rfl sb0)))))))))))
    · skip
      have hb27 := cdT c26 hb27
      cases hb27
      refine QF.gnT rfl rfl rfl rfl rfl ?_
      refine QF.gnT rfl rfl rfl rfl rfl ?_
      refine QF.gnT rfl rfl rfl rfl rfl ?_
      refine QF.gnT rfl rfl rfl rfl rfl ?_
      refine QF.gnT rfl rfl rfl rfl rfl ?_
      refine QF.pick rfl rfl rfl ?_
      exact QF.cutn (sb 30 rfl (sb 24 rfl (sb 23 rfl (sb 18 rfl (sb 17 rfl (sb 11 rfl (sb 10 rfl (sb 9 rfl (sb 8 rfl (sb 7 rfl (sb 1 rfl sb0)))))))))))
  refine QF.mv rfl rfl ?_
  refine QF.cutv 5 36 (.bool (b27 || (decide (96 < (↑p0_b.Links.length : Int))))) ?_ ?_
  · cases c35 : b27
    · skip
      refine QF.gy rfl rfl rfl ?_
      refine QF.fa rfl k6 GBasin.f_Links fa_31_4 rfl fun q36 k37 => ?_
      refine QF.gy rfl rfl rfl ?_
      refine QF.ldl ckC hs4.1 rfl k37 ty_24 rfl fun v38 k39 => ?_
      refine QF.gy rfl rfl rfl ?_
      refine QF.len rfl k39 sl_24 rfl fun b40 => ?_
      unfold maxLen at b40
      refine QF.gy rfl rfl rfl ?_
      refine QF.gtr rfl rfl rfl ?_
      refine QF.pick rfl rfl rfl ?_
      exact QF.cutn (sb 36 rfl (sb 31 rfl (sb 30 rfl (sb 24 rfl (sb 23 rfl (sb 18 rfl (sb 17 rfl (sb 11 rfl (sb 10 rfl (sb 9 rfl (sb 8 rfl (sb 7 rfl (sb 1 rfl sb0)))))))))))))
    · skip
      refine QF.gnT rfl rfl rfl rfl rfl ?_
      refine QF.gnT rfl rfl rfl rfl rfl ?_
      refine QF.gnT rfl rfl rfl rfl rfl ?_
      refine QF.gnT rfl rfl rfl rfl rfl ?_
      refine QF.pick rfl rfl rfl ?_
      exact QF.cutn (sb 36 rfl (sb 31 rfl (sb 30 rfl (sb 24 rfl (sb 23 rfl (sb 18 rfl (sb 17 rfl (sb 11 rfl (sb 10 rfl (sb 9 rfl (sb 8 rfl (sb 7 rfl (sb 1 rfl sb0)))))))))))))
  refine QF.mv rfl rfl ?_
  refine QF.cutv 5 42 (.bool ((b27 || (decide (96 < (↑p0_b.Links.length : Int)))) || (decide (40 < (↑p0_b.Towns.length : Int))))) ?_ ?_
  · cases c41 : (b27 || (decide (96 < (↑p0_b.Links.length : Int))))
    · skip
      refine QF.gy rfl rfl rfl ?_
      refine QF.fa rfl k6 GBasin.f_Towns fa_31_5 rfl fun q42 k43 => ?_
      refine QF.gy rfl rfl rfl ?_
      refine QF.ldl ckC hs4.1 rfl k43 ty_25 rfl fun v44 k45 => ?_
      refine QF.gy rfl rfl rfl ?_
      refine QF.len rfl k45 sl_25 rfl fun b46 => ?_
      unfold maxLen at b46
      refine QF.gy rfl rfl rfl ?_
      refine QF.gtr rfl rfl rfl ?_
      refine QF.pick rfl rfl rfl ?_
      exact QF.cutn (sb 42 rfl (sb 37 rfl (sb 36 rfl (sb 31 rfl (sb 30 rfl (sb 24 rfl (sb 23 rfl (sb 18 rfl (sb 17 rfl (sb 11 rfl (sb 10 rfl (sb 9 rfl (sb 8 rfl (sb 7 rfl (sb 1 rfl sb0)))))))))))))))
    · skip
      refine QF.gnT rfl rfl rfl rfl rfl ?_
      refine QF.gnT rfl rfl rfl rfl rfl ?_
      refine QF.gnT rfl rfl rfl rfl rfl ?_
      refine QF.gnT rfl rfl rfl rfl rfl ?_
      refine QF.pick rfl rfl rfl ?_
      exact QF.cutn (sb 42 rfl (sb 37 rfl (sb 36 rfl (sb 31 rfl (sb 30 rfl (sb 24 rfl (sb 23 rfl (sb 18 rfl (sb 17 rfl (sb 11 rfl (sb 10 rfl (sb 9 rfl (sb 8 rfl (sb 7 rfl (sb 1 rfl sb0)))))))))))))))
  refine QF.mv rfl rfl ?_
  refine QF.cutv 5 48 (.bool (((b27 || (decide (96 < (↑p0_b.Links.length : Int)))) || (decide (40 < (↑p0_b.Towns.length : Int)))) || (decide (128 < (↑p0_b.Gauges.length : Int))))) ?_ ?_
  · cases c47 : ((b27 || (decide (96 < (↑p0_b.Links.length : Int)))) || (decide (40 < (↑p0_b.Towns.length : Int))))
    · skip
      refine QF.gy rfl rfl rfl ?_
      refine QF.fa rfl k6 GBasin.f_Gauges fa_31_6 rfl fun q48 k49 => ?_
      refine QF.gy rfl rfl rfl ?_
      refine QF.ldl ckC hs4.1 rfl k49 ty_26 rfl fun v50 k51 => ?_
      refine QF.gy rfl rfl rfl ?_
      refine QF.len rfl k51 sl_26 rfl fun b52 => ?_
      unfold maxLen at b52
      refine QF.gy rfl rfl rfl ?_
      refine QF.gtr rfl rfl rfl ?_
      refine QF.pick rfl rfl rfl ?_
      exact QF.cutn (sb 48 rfl (sb 43 rfl (sb 42 rfl (sb 37 rfl (sb 36 rfl (sb 31 rfl (sb 30 rfl (sb 24 rfl (sb 23 rfl (sb 18 rfl (sb 17 rfl (sb 11 rfl (sb 10 rfl (sb 9 rfl (sb 8 rfl (sb 7 rfl (sb 1 rfl sb0)))))))))))))))))
    · skip
      refine QF.gnT rfl rfl rfl rfl rfl ?_
      refine QF.gnT rfl rfl rfl rfl rfl ?_
      refine QF.gnT rfl rfl rfl rfl rfl ?_
      refine QF.gnT rfl rfl rfl rfl rfl ?_
      refine QF.pick rfl rfl rfl ?_
      exact QF.cutn (sb 48 rfl (sb 43 rfl (sb 42 rfl (sb 37 rfl (sb 36 rfl (sb 31 rfl (sb 30 rfl (sb 24 rfl (sb 23 rfl (sb 18 rfl (sb 17 rfl (sb 11 rfl (sb 10 rfl (sb 9 rfl (sb 8 rfl (sb 7 rfl (sb 1 rfl sb0)))))))))))))))))
  refine QF.mv rfl rfl ?_
  refine QF.cutv 5 54 (.bool ((((b27 || (decide (96 < (↑p0_b.Links.length : Int)))) || (decide (40 < (↑p0_b.Towns.length : Int)))) || (decide (128 < (↑p0_b.Gauges.length : Int)))) || (decide (128 < (↑p0_b.Roads.length : Int))))) ?_ ?_
  · cases c53 : (((b27 || (decide (96 < (↑p0_b.Links.length : Int)))) || (decide (40 < (↑p0_b.Towns.length : Int)))) || (decide (128 < (↑p0_b.Gauges.length : Int))))
    · skip
      refine QF.gy rfl rfl rfl ?_
      refine QF.fa rfl k6 GBasin.f_Roads fa_31_7 rfl fun q54 k55 => ?_
      refine QF.gy rfl rfl rfl ?_
      refine QF.ldl ckC hs4.1 rfl k55 ty_27 rfl fun v56 k57 => ?_
      refine QF.gy rfl rfl rfl ?_
      refine QF.len rfl k57 sl_27 rfl fun b58 => ?_
      unfold maxLen at b58
      refine QF.gy rfl rfl rfl ?_
      refine QF.gtr rfl rfl rfl ?_
      refine QF.pick rfl rfl rfl ?_
      exact QF.cutn (sb 54 rfl (sb 49 rfl (sb 48 rfl (sb 43 rfl (sb 42 rfl (sb 37 rfl (sb 36 rfl (sb 31 rfl (sb 30 rfl (sb 24 rfl (sb 23 rfl (sb 18 rfl (sb 17 rfl (sb 11 rfl (sb 10 rfl (sb 9 rfl (sb 8 rfl (sb 7 rfl (sb 1 rfl sb0)))))))))))))))))))
    · skip
      refine QF.gnT rfl rfl rfl rfl rfl ?_
      refine QF.gnT rfl rfl rfl rfl rfl ?_
      refine QF.gnT rfl rfl rfl rfl rfl ?_
      refine QF.gnT rfl rfl rfl rfl rfl ?_
      refine QF.pick rfl rfl rfl ?_
      exact QF.cutn (sb 54 rfl (sb 49 rfl (sb 48 rfl (sb 43 rfl (sb 42 rfl (sb 37 rfl (sb 36 rfl (sb 31 rfl (sb 30 rfl (sb 24 rfl (sb 23 rfl (sb 18 rfl (sb 17 rfl (sb 11 rfl (sb 10 rfl (sb 9 rfl (sb 8 rfl (sb 7 rfl (sb 1 rfl sb0)))))))))))))))))))
  refine QF.mv rfl rfl ?_
  refine QF.cutv 5 60 (.bool (((((b27 || (decide (96 < (↑p0_b.Links.length : Int)))) || (decide (40 < (↑p0_b.Towns.length : Int)))) || (decide (128 < (↑p0_b.Gauges.length : Int)))) || (decide (128 < (↑p0_b.Roads.length : Int)))) || (decide (40 < (↑p0_b.Shelters.length : Int))))) ?_ ?_
  · cases c59 : ((((b27 || (decide (96 < (↑p0_b.Links.length : Int)))) || (decide (40 < (↑p0_b.Towns.length : Int)))) || (decide (128 < (↑p0_b.Gauges.length : Int)))) || (decide (128 < (↑p0_b.Roads.length : Int))))
    · skip
      refine QF.gy rfl rfl rfl ?_
      refine QF.fa rfl k6 GBasin.f_Shelters fa_31_8 rfl fun q60 k61 => ?_
      refine QF.gy rfl rfl rfl ?_
      refine QF.ldl ckC hs4.1 rfl k61 ty_28 rfl fun v62 k63 => ?_
      refine QF.gy rfl rfl rfl ?_
      refine QF.len rfl k63 sl_28 rfl fun b64 => ?_
      unfold maxLen at b64
      refine QF.gy rfl rfl rfl ?_
      refine QF.gtr rfl rfl rfl ?_
      refine QF.pick rfl rfl rfl ?_
      exact QF.cutn (sb 60 rfl (sb 55 rfl (sb 54 rfl (sb 49 rfl (sb 48 rfl (sb 43 rfl (sb 42 rfl (sb 37 rfl (sb 36 rfl (sb 31 rfl (sb 30 rfl (sb 24 rfl (sb 23 rfl (sb 18 rfl (sb 17 rfl (sb 11 rfl (sb 10 rfl (sb 9 rfl (sb 8 rfl (sb 7 rfl (sb 1 rfl sb0)))))))))))))))))))))
    · skip
      refine QF.gnT rfl rfl rfl rfl rfl ?_
      refine QF.gnT rfl rfl rfl rfl rfl ?_
      refine QF.gnT rfl rfl rfl rfl rfl ?_
      refine QF.gnT rfl rfl rfl rfl rfl ?_
      refine QF.pick rfl rfl rfl ?_
      exact QF.cutn (sb 60 rfl (sb 55 rfl (sb 54 rfl (sb 49 rfl (sb 48 rfl (sb 43 rfl (sb 42 rfl (sb 37 rfl (sb 36 rfl (sb 31 rfl (sb 30 rfl (sb 24 rfl (sb 23 rfl (sb 18 rfl (sb 17 rfl (sb 11 rfl (sb 10 rfl (sb 9 rfl (sb 8 rfl (sb 7 rfl (sb 1 rfl sb0)))))))))))))))))))))
  refine QF.mv rfl rfl ?_
  refine QF.cutv 5 66 (.bool ((((((b27 || (decide (96 < (↑p0_b.Links.length : Int)))) || (decide (40 < (↑p0_b.Towns.length : Int)))) || (decide (128 < (↑p0_b.Gauges.length : Int)))) || (decide (128 < (↑p0_b.Roads.length : Int)))) || (decide (40 < (↑p0_b.Shelters.length : Int)))) || (decide ((↑p0_b.Room.length : Int) ≠ 3)))) ?_ ?_
  · cases c65 : (((((b27 || (decide (96 < (↑p0_b.Links.length : Int)))) || (decide (40 < (↑p0_b.Towns.length : Int)))) || (decide (128 < (↑p0_b.Gauges.length : Int)))) || (decide (128 < (↑p0_b.Roads.length : Int)))) || (decide (40 < (↑p0_b.Shelters.length : Int))))
    · skip
      refine QF.gy rfl rfl rfl ?_
      refine QF.fa rfl k6 GBasin.f_Room fa_31_9 rfl fun q66 k67 => ?_
      refine QF.gy rfl rfl rfl ?_
      refine QF.ldl ckC hs4.1 rfl k67 ty_29 rfl fun v68 k69 => ?_
      refine QF.gy rfl rfl rfl ?_
      refine QF.len rfl k69 sl_29 rfl fun b70 => ?_
      unfold maxLen at b70
      refine QF.gy rfl rfl rfl ?_
      refine QF.neq rfl rfl rfl ?_
      refine QF.pick rfl rfl rfl ?_
      exact QF.cutn (sb 66 rfl (sb 61 rfl (sb 60 rfl (sb 55 rfl (sb 54 rfl (sb 49 rfl (sb 48 rfl (sb 43 rfl (sb 42 rfl (sb 37 rfl (sb 36 rfl (sb 31 rfl (sb 30 rfl (sb 24 rfl (sb 23 rfl (sb 18 rfl (sb 17 rfl (sb 11 rfl (sb 10 rfl (sb 9 rfl (sb 8 rfl (sb 7 rfl (sb 1 rfl sb0)))))))))))))))))))))))
    · skip
      refine QF.gnT rfl rfl rfl rfl rfl ?_
      refine QF.gnT rfl rfl rfl rfl rfl ?_
      refine QF.gnT rfl rfl rfl rfl rfl ?_
      refine QF.gnT rfl rfl rfl rfl rfl ?_
      refine QF.pick rfl rfl rfl ?_
      exact QF.cutn (sb 66 rfl (sb 61 rfl (sb 60 rfl (sb 55 rfl (sb 54 rfl (sb 49 rfl (sb 48 rfl (sb 43 rfl (sb 42 rfl (sb 37 rfl (sb 36 rfl (sb 31 rfl (sb 30 rfl (sb 24 rfl (sb 23 rfl (sb 18 rfl (sb 17 rfl (sb 11 rfl (sb 10 rfl (sb 9 rfl (sb 8 rfl (sb 7 rfl (sb 1 rfl sb0)))))))))))))))))))))))
  refine QF.mv rfl rfl ?_
  obtain ⟨b72, hb72, E⟩ := bd E
  refine QF.cutv 5 72 (.bool b72) ?_ ?_
  · cases c71 : ((((((b27 || (decide (96 < (↑p0_b.Links.length : Int)))) || (decide (40 < (↑p0_b.Towns.length : Int)))) || (decide (128 < (↑p0_b.Gauges.length : Int)))) || (decide (128 < (↑p0_b.Roads.length : Int)))) || (decide (40 < (↑p0_b.Shelters.length : Int)))) || (decide ((↑p0_b.Room.length : Int) ≠ 3)))
    · skip
      have hb72 := cdF c71 hb72
      refine QF.gy rfl rfl rfl ?_
      refine QF.fa rfl k6 GBasin.f_Err fa_31_10 rfl fun q73 k74 => ?_
      refine QF.gy rfl rfl rfl ?_
      refine QF.ldi ckC hs4.1 rfl k74 ty_3 rfl fun r75 => ?_
      refine QF.gy rfl rfl rfl ?_
      obtain ⟨y76, hy76, hb72⟩ := bd hb72
      refine QF.callp (v := .bool y76) (Ψ := True) rfl rfl rfl ca_26 rfl (fun h' o => (basin_in_ret (St.all h') r75 (show inI64 0 by unfold inI64; omega) (show inI64 1099511627776 by unfold inI64; omega) hy76).mono fun _ _ _ _ p => ⟨p.1, trivial⟩) fun r77 => ?_
      refine QF.gy rfl rfl rfl ?_
      refine QF.not rfl rfl ?_
      refine QF.pick rfl rfl rfl ?_
      cases hb72
      exact QF.cutn (sb 72 rfl (sb 67 rfl (sb 66 rfl (sb 61 rfl (sb 60 rfl (sb 55 rfl (sb 54 rfl (sb 49 rfl (sb 48 rfl (sb 43 rfl (sb 42 rfl (sb 37 rfl (sb 36 rfl (sb 31 rfl (sb 30 rfl (sb 24 rfl (sb 23 rfl (sb 18 rfl (sb 17 rfl (sb 11 rfl (sb 10 rfl (sb 9 rfl (sb 8 rfl (sb 7 rfl (sb 1 rfl sb0)))))))))))))))))))))))))
    · skip
      have hb72 := cdT c71 hb72
      cases hb72
      refine QF.gnT rfl rfl rfl rfl rfl ?_
      refine QF.gnT rfl rfl rfl rfl rfl ?_
      refine QF.gnT rfl rfl rfl rfl rfl ?_
      refine QF.gnT rfl rfl rfl rfl rfl ?_
      refine QF.pick rfl rfl rfl ?_
      exact QF.cutn (sb 72 rfl (sb 67 rfl (sb 66 rfl (sb 61 rfl (sb 60 rfl (sb 55 rfl (sb 54 rfl (sb 49 rfl (sb 48 rfl (sb 43 rfl (sb 42 rfl (sb 37 rfl (sb 36 rfl (sb 31 rfl (sb 30 rfl (sb 24 rfl (sb 23 rfl (sb 18 rfl (sb 17 rfl (sb 11 rfl (sb 10 rfl (sb 9 rfl (sb 8 rfl (sb 7 rfl (sb 1 rfl sb0)))))))))))))))))))))))))
  refine QF.rcn (sb 72 rfl (sb 1 rfl sb0)) fun h78 hs79 e80 => ?_
  refine WF.if_ rfl (fun c81 => ?_) (fun c81 => ?_)
  · skip
    have E := cdT c81 E
    refine WF.seq ?_
    refine WF.rp (.inl rfl) ?_
    refine QF.as_ rfl rfl ?_
    refine QF.rpn (sb 2 rfl sb0) ?_
    refine WF.ret (fun aa ww hf hw => ?_)
    cases E
    exact rtg hf rfl hw (rvc (rvT hf (v := _) rfl) rv0) rfl (e5.trans e80) ⟨rfl, hs79⟩
  · skip
    have E := cdF c81 E
    refine WF.skip ?_
    refine WF.seq ?_
    refine WF.seq ?_
    refine WF.rp (.inl rfl) ?_
    have k82 := k6.mono e80
    refine QF.fa rfl k82 GBasin.f_Name fa_31_0 rfl fun q83 k84 => ?_
    refine QF.lds ckP hs79.1 rfl k84 ty_9 rfl fun r85 => ?_
    refine QF.lens rfl us_9 rfl ?_
    refine QF.mv rfl rfl ?_
    refine QF.rpn (sb 76 rfl (sb 75 rfl (sb 1 rfl sb0))) ?_
    refine WF.blockJ (fun a w => ∃ (S' : Nat → Prop) (h' : Heap), Fr 109 a [(1, q1)] ∧ Wd B h' w ∧ St S' (L) h' ∧ Ext S2 h78 S' h' ∧ f_basin_rightHead_j0 N p0_b = some r) ?_ ?_
    · skip
      refine WF.loopF (fun n1 => fun a w => ∃ (i88 : Int) (S' : Nat → Prop) (h' : Heap), Fr 109 a [(75, .int .i64 (↑p0_b.Name.size : Int)), (1, q1), (76, .int .i64 i88)] ∧ Wd B h' w ∧ St S' (L) h' ∧ Ext S2 h78 S' h' ∧ inI64 i88 ∧ f_basin_rightHead_l1 N p0_b (f_basin_rightHead_j0 N p0_b) n1 i88 = some r) N ?_ ?_ ?_
      · intro aa ww hf hw
        exact ⟨0, _, _, hf.sub (sb 75 rfl (sb 1 rfl (sb 76 rfl sb0))), hw, hs79, (Ext.refl S2 h78), (show inI64 0 by unfold inI64; omega), E⟩
      · rintro aa ww ⟨_, _, _, _, _, _, _, _, E⟩
        rw [f_basin_rightHead_l1] at E; cases E
      · skip
        rintro n1 aa ww ⟨i88, S90, h91, hf, hw, hs92, e93, r89, E⟩
        refine WF.run ?_ hf hw
        clear hf hw ww aa
        rw [f_basin_rightHead_l1] at E
        refine WF.seq ?_
        refine WF.rp (.inl rfl) ?_
        refine QF.lss rfl rfl rfl ?_
        refine QF.rpn (sb 77 rfl (sb 75 rfl (sb 1 rfl (sb 76 rfl sb0)))) ?_
        refine WF.seq ?_
        refine WF.if_ rfl (fun c94 => ?_) (fun c94 => ?_)
        · skip
          have E := cdT c94 E
          refine WF.skip ?_
          refine WF.seq ?_
          refine WF.block ?_
          refine WF.seq ?_
          refine WF.rp (.inl rfl) ?_
          refine QF.mv rfl rfl ?_
          refine QF.as_ rfl rfl ?_
          refine QF.rpn (sb 3 rfl (sb 75 rfl (sb 1 rfl (sb 76 rfl sb0)))) ?_
          refine WF.seq ?_
          refine WF.rp (.inl rfl) ?_
          have k95 := k82.mono e93
          refine QF.fa rfl k95 GBasin.f_Name fa_31_0 rfl fun q96 k97 => ?_
          refine QF.lds ckP hs92.1 rfl k97 ty_9 rfl fun r98 => ?_
          refine QF.mv rfl rfl ?_
          obtain ⟨z99, hz99, E⟩ := bd E
          have r100 := bix_has hz99
          refine QF.bixk rfl rfl us_9 hz99 rfl ?_
          refine QF.as_ rfl rfl ?_
          refine QF.rpn (sb 4 rfl (sb 75 rfl (sb 1 rfl (sb 76 rfl sb0)))) ?_
          refine WF.seq ?_
          refine WF.rp (.inl rfl) ?_
          refine QF.mv rfl rfl ?_
          refine QF.lss rfl rfl rfl ?_
          refine QF.mv rfl rfl ?_
          refine QF.cutv 3 88 (.bool ((decide (z99 < 32)) || (decide (126 < z99)))) ?_ ?_
          · cases c101 : (decide (z99 < 32))
            · skip
              refine QF.gy rfl rfl rfl ?_
              refine QF.mv rfl rfl ?_
              refine QF.gy rfl rfl rfl ?_
              refine QF.gtr rfl rfl rfl ?_
              refine QF.pick rfl rfl rfl ?_
              exact QF.cutn (sb 88 rfl (sb 85 rfl (sb 84 rfl (sb 83 rfl (sb 4 rfl (sb 75 rfl (sb 1 rfl (sb 76 rfl sb0))))))))
            · skip
              refine QF.gnT rfl rfl rfl rfl rfl ?_
              refine QF.gnT rfl rfl rfl rfl rfl ?_
              refine QF.pick rfl rfl rfl ?_
              exact QF.cutn (sb 88 rfl (sb 85 rfl (sb 84 rfl (sb 83 rfl (sb 4 rfl (sb 75 rfl (sb 1 rfl (sb 76 rfl sb0))))))))
          refine QF.mv rfl rfl ?_
          refine QF.cutv 3 92 (.bool (((decide (z99 < 32)) || (decide (126 < z99))) || (decide (z99 = 34)))) ?_ ?_
          · cases c102 : ((decide (z99 < 32)) || (decide (126 < z99)))
            · skip
              refine QF.gy rfl rfl rfl ?_
              refine QF.mv rfl rfl ?_
              refine QF.gy rfl rfl rfl ?_
              refine QF.eql rfl rfl rfl ?_
              refine QF.pick rfl rfl rfl ?_
              exact QF.cutn (sb 92 rfl (sb 89 rfl (sb 88 rfl (sb 85 rfl (sb 84 rfl (sb 83 rfl (sb 4 rfl (sb 75 rfl (sb 1 rfl (sb 76 rfl sb0))))))))))
            · skip
              refine QF.gnT rfl rfl rfl rfl rfl ?_
              refine QF.gnT rfl rfl rfl rfl rfl ?_
              refine QF.pick rfl rfl rfl ?_
              exact QF.cutn (sb 92 rfl (sb 89 rfl (sb 88 rfl (sb 85 rfl (sb 84 rfl (sb 83 rfl (sb 4 rfl (sb 75 rfl (sb 1 rfl (sb 76 rfl sb0))))))))))
          refine QF.mv rfl rfl ?_
          refine QF.cutv 3 96 (.bool ((((decide (z99 < 32)) || (decide (126 < z99))) || (decide (z99 = 34))) || (decide (z99 = 92)))) ?_ ?_
          · cases c103 : (((decide (z99 < 32)) || (decide (126 < z99))) || (decide (z99 = 34)))
            · skip
              refine QF.gy rfl rfl rfl ?_
              refine QF.mv rfl rfl ?_
              refine QF.gy rfl rfl rfl ?_
              refine QF.eql rfl rfl rfl ?_
              refine QF.pick rfl rfl rfl ?_
              exact QF.cutn (sb 96 rfl (sb 93 rfl (sb 92 rfl (sb 89 rfl (sb 88 rfl (sb 85 rfl (sb 84 rfl (sb 83 rfl (sb 4 rfl (sb 75 rfl (sb 1 rfl (sb 76 rfl sb0))))))))))))
            · skip
              refine QF.gnT rfl rfl rfl rfl rfl ?_
              refine QF.gnT rfl rfl rfl rfl rfl ?_
              refine QF.pick rfl rfl rfl ?_
              exact QF.cutn (sb 96 rfl (sb 93 rfl (sb 92 rfl (sb 89 rfl (sb 88 rfl (sb 85 rfl (sb 84 rfl (sb 83 rfl (sb 4 rfl (sb 75 rfl (sb 1 rfl (sb 76 rfl sb0))))))))))))
          refine QF.rpn (sb 96 rfl (sb 75 rfl (sb 1 rfl (sb 76 rfl sb0)))) ?_
          refine WF.if_ rfl (fun c104 => ?_) (fun c104 => ?_)
          · skip
            have E := cdT c104 E
            refine WF.seq ?_
            refine WF.rp (.inl rfl) ?_
            refine QF.as_ rfl rfl ?_
            refine QF.rpn (sb 2 rfl sb0) ?_
            refine WF.ret (fun aa ww hf hw => ?_)
            cases E
            exact rtg hf rfl hw (rvc (rvT hf (v := _) rfl) rv0) rfl (e5.trans (e80.trans e93)) ⟨rfl, hs92⟩
          · skip
            have E := cdF c104 E
            refine WF.skip ?_
            refine WF.nilW ?_
            refine WF.rp (.inl rfl) ?_
            refine QF.addw rfl rfl rfl ?_
            refine QF.mv rfl rfl ?_
            refine QF.rpn (sb 76 rfl (sb 75 rfl (sb 1 rfl sb0))) ?_
            refine WF.nil (fun aa ww hf hw => ?_)
            exact ⟨(w64 (i88 + 1)), _, _, hf.sub (sb 75 rfl (sb 1 rfl (sb 76 rfl sb0))), hw, hs92, e93, (w64_i _), E⟩
        · skip
          have E := cdF c94 E
          refine WF.exit rfl (fun aa ww hf hw => ?_)
          exact ⟨_, _, hf.sub (sb 1 rfl sb0), hw, hs92, e93, E⟩
    · skip
      rintro aa ww ⟨S105, h106, hf, hw, hs107, e108, E⟩
      refine WF.run ?_ hf hw
      clear hf hw ww aa
      rw [f_basin_rightHead_j0] at E
      refine WF.seq ?_
      refine WF.seq ?_
      refine WF.rp (.inl rfl) ?_
      have k109 := k82.mono e108
      refine QF.fa rfl k109 GBasin.f_Room fa_31_9 rfl fun q110 k111 => ?_
      refine QF.ldl ckP hs107.1 rfl k111 ty_29 rfl fun v112 k113 => ?_
      refine QF.len rfl k113 sl_29 rfl fun b114 => ?_
      unfold maxLen at b114
      refine QF.mv rfl rfl ?_
      refine QF.rpn (sb 101 rfl (sb 100 rfl (sb 99 rfl sb0))) ?_
      refine WF.blockJ (fun a w => ∃ (S' : Nat → Prop) (h' : Heap), Fr 109 a [] ∧ Wd B h' w ∧ St S' (L) h' ∧ Ext S105 h106 S' h' ∧ f_basin_rightHead_j2 N = some r) ?_ ?_
      · skip
        refine WF.loopF (fun n3 => fun a w => ∃ (i117 : Int) (S' : Nat → Prop) (h' : Heap), Fr 109 a [(100, .int .i64 (↑p0_b.Room.length : Int)), (99, v112), (101, .int .i64 i117)] ∧ Wd B h' w ∧ St S' (L) h' ∧ Ext S105 h106 S' h' ∧ inI64 i117 ∧ f_basin_rightHead_l3 N p0_b (f_basin_rightHead_j2 N) n3 i117 = some r) N ?_ ?_ ?_
        · intro aa ww hf hw
          exact ⟨0, _, _, hf.sub (sb 100 rfl (sb 99 rfl (sb 101 rfl sb0))), hw, hs107, (Ext.refl S105 h106), (show inI64 0 by unfold inI64; omega), E⟩
        · rintro aa ww ⟨_, _, _, _, _, _, _, _, E⟩
          rw [f_basin_rightHead_l3] at E; cases E
        · skip
          rintro n3 aa ww ⟨i117, S119, h120, hf, hw, hs121, e122, r118, E⟩
          refine WF.run ?_ hf hw
          clear hf hw ww aa
          rw [f_basin_rightHead_l3] at E
          refine WF.seq ?_
          refine WF.rp (.inl rfl) ?_
          refine QF.lss rfl rfl rfl ?_
          refine QF.rpn (sb 102 rfl (sb 100 rfl (sb 99 rfl (sb 101 rfl sb0)))) ?_
          refine WF.seq ?_
          refine WF.if_ rfl (fun c123 => ?_) (fun c123 => ?_)
          · skip
            have E := cdT c123 E
            refine WF.skip ?_
            refine WF.seq ?_
            refine WF.block ?_
            refine WF.seq ?_
            refine WF.rp (.inl rfl) ?_
            have k124 := k113.mono' e122
            obtain ⟨x125, hx125, E⟩ := bd E
            refine QF.ixe rfl rfl k124 sl_29 hx125 rfl fun q126 k127 => ?_
            refine QF.ldi ckP hs121.1 rfl k127 ty_3 rfl fun r128 => ?_
            refine QF.as_ rfl rfl ?_
            refine QF.rpn (sb 6 rfl (sb 100 rfl (sb 99 rfl (sb 101 rfl sb0)))) ?_
            refine WF.seq ?_
            refine WF.rc (.inl rfl) hs121 ?_
            refine QF.mv rfl rfl ?_
            obtain ⟨y129, hy129, E⟩ := bd E
            refine QF.callp (v := .bool y129) (Ψ := True) rfl rfl rfl ca_27 rfl (fun h' o => (basin_volume_ret (St.all h') r128 hy129).mono fun _ _ _ _ p => ⟨p.1, trivial⟩) fun r130 => ?_
            refine QF.not rfl rfl ?_
            refine QF.rcn (sb 107 rfl (sb 100 rfl (sb 99 rfl (sb 101 rfl sb0)))) fun h131 hs132 e133 => ?_
            refine WF.if_ rfl (fun c134 => ?_) (fun c134 => ?_)
            · skip
              have E := cdT c134 E
              refine WF.seq ?_
              refine WF.rp (.inl rfl) ?_
              refine QF.as_ rfl rfl ?_
              refine QF.rpn (sb 2 rfl sb0) ?_
              refine WF.ret (fun aa ww hf hw => ?_)
              cases E
              exact rtg hf rfl hw (rvc (rvT hf (v := _) rfl) rv0) rfl (e5.trans (e80.trans (e108.trans (e122.trans e133)))) ⟨rfl, hs132⟩
            · skip
              have E := cdF c134 E
              refine WF.skip ?_
              refine WF.nilW ?_
              refine WF.rp (.inl rfl) ?_
              refine QF.addw rfl rfl rfl ?_
              refine QF.mv rfl rfl ?_
              refine QF.rpn (sb 101 rfl (sb 100 rfl (sb 99 rfl sb0))) ?_
              refine WF.nil (fun aa ww hf hw => ?_)
              exact ⟨(w64 (i117 + 1)), _, _, hf.sub (sb 100 rfl (sb 99 rfl (sb 101 rfl sb0))), hw, hs132, (e122.trans e133), (w64_i _), E⟩
          · skip
            have E := cdF c123 E
            refine WF.exit rfl (fun aa ww hf hw => ?_)
            exact ⟨_, _, hf.sub sb0, hw, hs121, e122, E⟩
      · skip
        rintro aa ww ⟨S135, h136, hf, hw, hs137, e138, E⟩
        refine WF.run ?_ hf hw
        clear hf hw ww aa
        rw [f_basin_rightHead_j2] at E
        refine WF.seq ?_
        refine WF.rp (.inl rfl) ?_
        refine QF.as_ rfl rfl ?_
        refine QF.rpn (sb 2 rfl sb0) ?_
        refine WF.ret (fun aa ww hf hw => ?_)
        cases E
        exact rtg hf rfl hw (rvc (rvT hf (v := _) rfl) rv0) rfl (e5.trans (e80.trans (e108.trans e138))) ⟨rfl, hs137⟩

end Go.Proofs.Ytibidnaedddfdaa
