/- The law AlarmOrders holds for every input. No conditions. -/
import Derived.Test.YtgnjppialaajcaaAlarm1
import Derived.Test.YtgnjppialaajcaaCore9
namespace Go.Proofs.Ytgnjppialaajcaa
open Go.ChangeShapes Go.WideShapes Go.ChangeAt Go.RowKit
set_option linter.unusedSimpArgs false
set_option linter.unusedVariables false

namespace orders
set_option maxRecDepth 10000 in
theorem orders_ret {S : Nat → Prop} {L : List HP} {h : Heap} (hs : St S L h) {v_t : Value} {t : GTown} (h_t : Rd S h RGTown v_t t) {v_sights : Value} {sights : (List GSight)} (h_sights : Sl S h RGSight v_sights sights) :
    Ret Try.prog 4 #[v_t, v_sights] S h (fun v S' h' => v = .bool true ∧ St S' (L) h') := by
  refine Ret.go (l := [v_t, v_sights]) 118 Try.func4 rfl Try.ntmps4 rfl fun B => ?_
  refine WF.seq ?_
  refine WF.rl ?_
  refine LF.boxp rfl h_t (fun e => by cases e) rfl hs fun q1 S2 h3 hs4 e5 k6 => ?_
  refine LF.q 1 ?_
  refine QF.as_ rfl rfl ?_
  refine QF.ln ?_
  refine LF.nil (sb 4 rfl (sb 2 rfl (sb 1 rfl sb0))) ?_
  refine WF.seq ?_
  refine WF.rc (.inl rfl) hs4 ?_
  refine QF.callp (v := .bool (true)) (Ψ := True) rfl rfl rfl ca_6 rfl (fun h' o => (small_ret (St.all h')).mono fun _ _ _ _ p => ⟨p.1, trivial⟩) fun r7 => ?_
  refine QF.as_ rfl rfl ?_
  refine QF.rcn (sb 5 rfl (sb 4 rfl (sb 2 rfl (sb 1 rfl sb0)))) fun h8 hs9 e10 => ?_
  refine WF.seq ?_
  refine WF.seq ?_
  refine WF.rp (.inl rfl) ?_
  refine QF.mv rfl rfl ?_
  have k11 := h_sights.mono' (e5.trans e10)
  refine QF.len rfl k11 sl_26 rfl fun b12 => ?_
  unfold maxLen at b12
  refine QF.gtr rfl rfl rfl ?_
  refine QF.mv rfl rfl ?_
  refine QF.cutv 4 17 (.bool ((decide (100 < (↑sights.length : Int))) || (decide (t.Lead < 0)))) ?_ ?_
  · cases c13 : (decide (100 < (↑sights.length : Int)))
    · skip
      have c13p := of_decide_eq_false c13
      refine QF.gy rfl rfl rfl ?_
      have k14 := k6.mono e10
      refine QF.fa rfl k14 GTown.f_Lead fa_23_3 rfl fun q15 k16 => ?_
      refine QF.gy rfl rfl rfl ?_
      refine QF.ldi ckP hs9.1 rfl k16 ty_3 rfl fun r17 => ?_
      refine QF.gy rfl rfl rfl ?_
      refine QF.lss rfl rfl rfl ?_
      refine QF.pick rfl rfl rfl ?_
      exact QF.cutn (sb 17 rfl (sb 13 rfl (sb 12 rfl (sb 11 rfl (sb 10 rfl (sb 5 rfl (sb 4 rfl (sb 2 rfl (sb 1 rfl sb0)))))))))
    · skip
      have c13p := of_decide_eq_true c13
      refine QF.gnT rfl rfl rfl rfl rfl ?_
      refine QF.gnT rfl rfl rfl rfl rfl ?_
      refine QF.gnT rfl rfl rfl rfl rfl ?_
      refine QF.pick rfl rfl rfl ?_
      exact QF.cutn (sb 17 rfl (sb 13 rfl (sb 12 rfl (sb 11 rfl (sb 10 rfl (sb 5 rfl (sb 4 rfl (sb 2 rfl (sb 1 rfl sb0)))))))))
  refine QF.mv rfl rfl ?_
  refine QF.cutv 4 22 (.bool (((decide (100 < (↑sights.length : Int))) || (decide (t.Lead < 0))) || (decide (24 < t.Lead)))) ?_ ?_
  · cases c18 : ((decide (100 < (↑sights.length : Int))) || (decide (t.Lead < 0)))
    · skip
      have c18p : ¬ ((100 < (↑sights.length : Int)) ∨ (t.Lead < 0)) := by simpa using c18
      refine QF.gy rfl rfl rfl ?_
      have k19 := k6.mono e10
      refine QF.fa rfl k19 GTown.f_Lead fa_23_3 rfl fun q20 k21 => ?_
      refine QF.gy rfl rfl rfl ?_
      refine QF.ldi ckP hs9.1 rfl k21 ty_3 rfl fun r22 => ?_
      refine QF.gy rfl rfl rfl ?_
      refine QF.gtr rfl rfl rfl ?_
      refine QF.pick rfl rfl rfl ?_
      exact QF.cutn (sb 22 rfl (sb 18 rfl (sb 17 rfl (sb 13 rfl (sb 12 rfl (sb 11 rfl (sb 10 rfl (sb 5 rfl (sb 4 rfl (sb 2 rfl (sb 1 rfl sb0)))))))))))
    · skip
      have c18p : ((100 < (↑sights.length : Int)) ∨ (t.Lead < 0)) := by simpa using c18
      refine QF.gnT rfl rfl rfl rfl rfl ?_
      refine QF.gnT rfl rfl rfl rfl rfl ?_
      refine QF.gnT rfl rfl rfl rfl rfl ?_
      refine QF.pick rfl rfl rfl ?_
      exact QF.cutn (sb 22 rfl (sb 18 rfl (sb 17 rfl (sb 13 rfl (sb 12 rfl (sb 11 rfl (sb 10 rfl (sb 5 rfl (sb 4 rfl (sb 2 rfl (sb 1 rfl sb0)))))))))))
  refine QF.rpn (sb 22 rfl (sb 5 rfl (sb 4 rfl (sb 2 rfl (sb 1 rfl sb0))))) ?_
  refine WF.if_ rfl (fun c23 => ?_) (fun c23 => ?_)
  · skip
    replace c23 : (((100 < (↑sights.length : Int)) ∨ (t.Lead < 0)) ∨ (24 < t.Lead)) := by simpa using c23
    refine WF.seq ?_
    refine WF.rp (.inl rfl) ?_
    refine QF.mv rfl rfl ?_
    refine QF.as_ rfl rfl ?_
    refine QF.rpn (sb 4 rfl (sb 5 rfl (sb 2 rfl (sb 1 rfl sb0)))) ?_
    refine WF.ret (fun aa ww hf hw => ?_)
    have q24 : ((true) : Bool) = true := by first | rfl | (exfalso; simp_all [runL]; done)
    exact rtg hf rfl hw (rvc (rvT hf (v := _) rfl) rv0) rfl (e5.trans e10) ⟨(congrArg Value.bool q24), hs9⟩
  replace c23 : ¬ (((100 < (↑sights.length : Int)) ∨ (t.Lead < 0)) ∨ (24 < t.Lead)) := by simpa using c23
  refine WF.skip ?_
  refine WF.seq ?_
  refine WF.rl ?_
  refine LF.q 2 ?_
  have k25 := k6.mono e10
  refine QF.ld ckP hs9.1 rfl k25 ty_23 (fun e => by cases e) rfl fun v26 k27 => ?_
  refine QF.mv rfl rfl ?_
  refine QF.ln ?_
  have k28 := h_sights.mono' (e5.trans e10)
  refine LF.call rfl rfl rfl ca_7 rfl (run_ret hs9 k27 k28 (by omega)) fun v29 S30 h31 e32 p => ?_
  have hs33 := p
  refine LF.q 1 ?_
  refine QF.as_ rfl rfl ?_
  refine QF.ln ?_
  refine LF.nil (sb 6 rfl (sb 5 rfl (sb 4 rfl (sb 2 rfl (sb 1 rfl sb0))))) ?_
  refine WF.seq ?_
  refine WF.seq ?_
  refine WF.rp (.inl rfl) ?_
  refine QF.mv rfl rfl ?_
  refine QF.leno hs33 mh rfl sl_28 rfl fun b34 => ?_
  unfold maxLen at b34
  refine QF.mv rfl rfl ?_
  have k35 := h_sights.mono' (e5.trans (e10.trans e32))
  refine QF.len rfl k35 sl_26 rfl fun b36 => ?_
  unfold maxLen at b36
  refine QF.neq rfl rfl rfl ?_
  refine QF.rpn (sb 31 rfl (sb 6 rfl (sb 5 rfl (sb 4 rfl (sb 2 rfl (sb 1 rfl sb0)))))) ?_
  refine WF.ifp rfl (fun c37 => ?_) (fun c37 => ?_)
  · skip
    refine WF.seq ?_
    refine WF.rp (.inl rfl) ?_
    refine QF.as_ rfl rfl ?_
    refine QF.rpn (sb 4 rfl (sb 6 rfl (sb 5 rfl (sb 2 rfl (sb 1 rfl sb0))))) ?_
    refine WF.ret (fun aa ww hf hw => ?_)
    have q38 : (false : Bool) = true := by first | rfl | (exfalso; simp_all [runL]; done)
    exact rtg hf rfl hw (rvc (rvT hf (v := _) rfl) rv0) rfl (e5.trans (e10.trans e32)) ⟨(congrArg Value.bool q38), (hs33.drop .head)⟩
  refine WF.skip ?_
  refine WF.seq ?_
  refine WF.seq ?_
  refine WF.rp (.inl rfl) ?_
  refine QF.as_ rfl rfl ?_
  refine QF.rp0 ?_
  refine WF.block ?_
  refine WF.loop (fun k a w => ∃ (S' : Nat → Prop) (h' : Heap), Fr 118 a [(6, v29), (5, .bool (true)), (2, q1), (1, v_sights), (7, .int .i64 ((k : Int)))] ∧ Wd B h' w ∧ St S' (OS RGAlarm 25 v29 (runL t sights sights.length) :: L) h' ∧ Ext S30 h31 S' h' ∧ k ≤ sights.length) (sights.length) 0 ?_ (fun _ _ _ hh => ?_) ?_
  · intro aa ww hf hw
    exact ⟨_, _, hf.sub (sb 6 rfl (sb 5 rfl (sb 2 rfl (sb 1 rfl (sb 7 rfl sb0))))), hw, hs33, Ext.refl _ _, (by omega)⟩
  · obtain ⟨_, _, _, _, _, _, hT⟩ := hh; exact hT
  rintro k aa ww ⟨S39, h40, hf, hw, hs41, e42, kT43⟩
  refine WF.run ?_ hf hw
  clear hf hw ww aa
  have hlen : (((runL t sights sights.length).length : Nat) : Int) = (sights.length : Int) := by simp [runL]
  refine WF.seq ?_
  refine WF.seq ?_
  refine WF.rp (.inl rfl) ?_
  refine QF.mv rfl rfl ?_
  refine QF.mv rfl rfl ?_
  refine QF.leno hs41 mh rfl sl_28 rfl fun b44 => ?_
  unfold maxLen at b44
  refine QF.lss rfl rfl rfl ?_
  refine QF.rp0 ?_
  refine WF.ifp' rfl (fun c45 => ?_) (fun c45 => ?_)
  · skip
    refine WF.exitW rfl ?_
    refine WF.seq ?_
    refine WF.rp (.inl rfl) ?_
    refine QF.mv rfl rfl ?_
    refine QF.as_ rfl rfl ?_
    refine QF.rpn (sb 4 rfl sb0) ?_
    refine WF.ret (fun aa ww hf hw => ?_)
    have q46 : ((true) : Bool) = true := by first | rfl | (exfalso; simp_all [runL]; done)
    exact rtg hf rfl hw (rvc (rvT hf (v := _) rfl) rv0) rfl (e5.trans (e10.trans (e32.trans e42))) ⟨(congrArg Value.bool q46), (hs41.drop .head)⟩
  refine WF.skip ?_
  refine WF.seq ?_
  refine WF.block ?_
  refine WF.seq ?_
  refine WF.rp (.inl rfl) ?_
  refine QF.mv rfl rfl ?_
  refine QF.mv rfl rfl ?_
  have k47 := h_sights.mono' (e5.trans (e10.trans (e32.trans e42)))
  refine QF.ixg rfl rfl k47 sl_26 (by omega) (by omega) rfl fun q48 k49 => ?_
  refine QF.fa rfl k49 GSight.f_Crest fa_32_0 rfl fun q50 k51 => ?_
  refine QF.ldi ckP hs41.1 rfl k51 ty_3 rfl fun r52 => ?_
  refine QF.as_ rfl rfl ?_
  refine QF.rpn (sb 8 rfl (sb 42 rfl (sb 41 rfl (sb 40 rfl (sb 39 rfl (sb 38 rfl (sb 35 rfl (sb 34 rfl (sb 33 rfl (sb 32 rfl (sb 6 rfl (sb 5 rfl (sb 2 rfl (sb 1 rfl (sb 7 rfl sb0))))))))))))))) ?_
  refine WF.seq ?_
  refine WF.seq ?_
  refine WF.rc (.inr ⟨mo, by kernel_rfl⟩) hs41 ?_
  refine QF.mv rfl rfl ?_
  refine QF.geq rfl rfl rfl ?_
  refine QF.mv rfl rfl ?_
  refine QF.cutv 6 51 (.bool ((decide (0 ≤ ((gt sights ((k : Int))).Crest))) && (decide (((gt sights ((k : Int))).Crest) ≤ (t.Lead + 1))))) ?_ ?_
  · cases c53 : (decide (0 ≤ ((gt sights ((k : Int))).Crest)))
    · skip
      have c53p := of_decide_eq_false c53
      refine QF.gnF rfl rfl rfl rfl rfl ?_
      refine QF.gnF rfl rfl rfl rfl rfl ?_
      refine QF.gnF rfl rfl rfl rfl rfl ?_
      refine QF.gnF rfl rfl rfl rfl rfl ?_
      refine QF.gnF rfl rfl rfl rfl rfl ?_
      refine QF.pick rfl rfl rfl ?_
      exact QF.cutn (sb 51 rfl (sb 45 rfl (sb 44 rfl (sb 43 rfl (sb 8 rfl (sb 42 rfl (sb 41 rfl (sb 40 rfl (sb 39 rfl (sb 38 rfl (sb 35 rfl (sb 34 rfl (sb 33 rfl (sb 32 rfl (sb 6 rfl (sb 5 rfl (sb 2 rfl (sb 1 rfl (sb 7 rfl sb0)))))))))))))))))))
    · skip
      have c53p := of_decide_eq_true c53
      refine QF.gy rfl rfl rfl ?_
      refine QF.mv rfl rfl ?_
      refine QF.gy rfl rfl rfl ?_
      have k54 := k25.mono (e32.trans e42)
      refine QF.fa rfl k54 GTown.f_Lead fa_23_3 rfl fun q55 k56 => ?_
      refine QF.gy rfl rfl rfl ?_
      refine QF.ldi ckC hs41.1 rfl k56 ty_3 rfl fun r57 => ?_
      refine QF.gy rfl rfl rfl ?_
      have r58 : inI64 (t.Lead + 1) := by unfold inI64 at *; omega
      refine QF.add rfl rfl rfl r58 ?_
      refine QF.gy rfl rfl rfl ?_
      refine QF.leq rfl rfl rfl ?_
      refine QF.pick rfl rfl rfl ?_
      exact QF.cutn (sb 51 rfl (sb 45 rfl (sb 44 rfl (sb 43 rfl (sb 8 rfl (sb 42 rfl (sb 41 rfl (sb 40 rfl (sb 39 rfl (sb 38 rfl (sb 35 rfl (sb 34 rfl (sb 33 rfl (sb 32 rfl (sb 6 rfl (sb 5 rfl (sb 2 rfl (sb 1 rfl (sb 7 rfl sb0)))))))))))))))))))
  refine QF.mv rfl rfl ?_
  refine QF.cutv 7 59 (.bool (((decide (0 ≤ ((gt sights ((k : Int))).Crest))) && (decide (((gt sights ((k : Int))).Crest) ≤ (t.Lead + 1)))) && (decide (((gt (runL t sights sights.length) ((k : Int))).Level) ≠ 3)))) ?_ ?_
  · cases c59 : ((decide (0 ≤ ((gt sights ((k : Int))).Crest))) && (decide (((gt sights ((k : Int))).Crest) ≤ (t.Lead + 1))))
    · skip
      have c59p : ¬ ((0 ≤ ((gt sights ((k : Int))).Crest)) ∧ (((gt sights ((k : Int))).Crest) ≤ (t.Lead + 1))) := by simpa using c59
      refine QF.gnF rfl rfl rfl rfl rfl ?_
      refine QF.gnF rfl rfl rfl rfl rfl ?_
      refine QF.gnF rfl rfl rfl rfl rfl ?_
      refine QF.gnF rfl rfl rfl rfl rfl ?_
      refine QF.gnF rfl rfl rfl rfl rfl ?_
      refine QF.gnF rfl rfl rfl rfl rfl ?_
      refine QF.pick rfl rfl rfl ?_
      exact QF.cutn (sb 59 rfl (sb 52 rfl (sb 51 rfl (sb 45 rfl (sb 44 rfl (sb 43 rfl (sb 8 rfl (sb 42 rfl (sb 41 rfl (sb 40 rfl (sb 39 rfl (sb 38 rfl (sb 35 rfl (sb 34 rfl (sb 33 rfl (sb 32 rfl (sb 6 rfl (sb 5 rfl (sb 2 rfl (sb 1 rfl (sb 7 rfl sb0)))))))))))))))))))))
    · skip
      have c59p : ((0 ≤ ((gt sights ((k : Int))).Crest)) ∧ (((gt sights ((k : Int))).Crest) ≤ (t.Lead + 1))) := by simpa using c59
      refine QF.gy rfl rfl rfl ?_
      refine QF.mv rfl rfl ?_
      refine QF.gy rfl rfl rfl ?_
      refine QF.mv rfl rfl ?_
      refine QF.gy rfl rfl rfl ?_
      refine QF.ixog hs41 mh rfl rfl sl_28 (by omega) (by omega) rfl fun q60 k61 ep62 => ?_
      refine QF.gy rfl rfl rfl ?_
      refine QF.fa rfl k61 GAlarm.f_Level fa_25_0 rfl fun q63 k64 => ?_
      refine QF.gy rfl rfl rfl ?_
      refine QF.ldi ckC (fun _ x => x) rfl k64 ty_3 rfl fun r65 => ?_
      refine QF.gy rfl rfl rfl ?_
      refine QF.neq rfl rfl rfl ?_
      refine QF.pick rfl rfl rfl ?_
      exact QF.cutn (sb 59 rfl (sb 52 rfl (sb 51 rfl (sb 45 rfl (sb 44 rfl (sb 43 rfl (sb 8 rfl (sb 42 rfl (sb 41 rfl (sb 40 rfl (sb 39 rfl (sb 38 rfl (sb 35 rfl (sb 34 rfl (sb 33 rfl (sb 32 rfl (sb 6 rfl (sb 5 rfl (sb 2 rfl (sb 1 rfl (sb 7 rfl sb0)))))))))))))))))))))
  refine QF.mv rfl rfl ?_
  refine QF.cutv 13 73 (.bool ((((decide (0 ≤ ((gt sights ((k : Int))).Crest))) && (decide (((gt sights ((k : Int))).Crest) ≤ (t.Lead + 1)))) && (decide (((gt (runL t sights sights.length) ((k : Int))).Level) ≠ 3))) || (decide (((gt (runL t sights sights.length) ((k : Int))).Level) < (dem t (gt sights ((k : Int)))))))) ?_ ?_
  · cases c66 : (((decide (0 ≤ ((gt sights ((k : Int))).Crest))) && (decide (((gt sights ((k : Int))).Crest) ≤ (t.Lead + 1)))) && (decide (((gt (runL t sights sights.length) ((k : Int))).Level) ≠ 3)))
    · skip
      have c66p : ¬ (((0 ≤ ((gt sights ((k : Int))).Crest)) ∧ (((gt sights ((k : Int))).Crest) ≤ (t.Lead + 1))) ∧ (((gt (runL t sights sights.length) ((k : Int))).Level) ≠ 3)) := by simpa using c66
      refine QF.gy rfl rfl rfl ?_
      refine QF.mv rfl rfl ?_
      refine QF.gy rfl rfl rfl ?_
      refine QF.mv rfl rfl ?_
      refine QF.gy rfl rfl rfl ?_
      refine QF.ixog hs41 mh rfl rfl sl_28 (by omega) (by omega) rfl fun q67 k68 ep69 => ?_
      refine QF.gy rfl rfl rfl ?_
      refine QF.fa rfl k68 GAlarm.f_Level fa_25_0 rfl fun q70 k71 => ?_
      refine QF.gy rfl rfl rfl ?_
      refine QF.ldi ckC (fun _ x => x) rfl k71 ty_3 rfl fun r72 => ?_
      refine QF.gy rfl rfl rfl ?_
      have k73 := k25.mono (e32.trans e42)
      refine QF.ld ckC hs41.1 rfl k73 ty_23 (fun e => by cases e) rfl fun v74 k75 => ?_
      refine QF.gy rfl rfl rfl ?_
      refine QF.mv rfl rfl ?_
      refine QF.gy rfl rfl rfl ?_
      refine QF.mv rfl rfl ?_
      refine QF.gy rfl rfl rfl ?_
      have k76 := h_sights.mono' (e5.trans (e10.trans (e32.trans e42)))
      refine QF.ixg rfl rfl k76 sl_26 (by omega) (by omega) rfl fun q77 k78 => ?_
      refine QF.gy rfl rfl rfl ?_
      refine QF.ld ckC hs41.1 rfl k78 ty_32 (fun e => by cases e) rfl fun v79 k80 => ?_
      refine QF.gy rfl rfl rfl ?_
      refine QF.callp (v := .int .i64 (dem t (gt sights ((k : Int))))) (Ψ := inI64 (dem t (gt sights ((k : Int))))) rfl rfl rfl ca_11 rfl (fun h' o => (rdemand_ret (St.all h') (k75.mono (o.all hs41.1)) (k80.mono (o.all hs41.1))).mono fun _ _ _ _ p => ⟨p.1, p.2.1⟩) fun r81 => ?_
      refine QF.gy rfl rfl rfl ?_
      refine QF.lss rfl rfl rfl ?_
      refine QF.pick rfl rfl rfl ?_
      exact QF.cutn (sb 73 rfl (sb 60 rfl (sb 59 rfl (sb 52 rfl (sb 51 rfl (sb 45 rfl (sb 44 rfl (sb 43 rfl (sb 8 rfl (sb 42 rfl (sb 41 rfl (sb 40 rfl (sb 39 rfl (sb 38 rfl (sb 35 rfl (sb 34 rfl (sb 33 rfl (sb 32 rfl (sb 6 rfl (sb 5 rfl (sb 2 rfl (sb 1 rfl (sb 7 rfl sb0)))))))))))))))))))))))
    · skip
      have c66p : (((0 ≤ ((gt sights ((k : Int))).Crest)) ∧ (((gt sights ((k : Int))).Crest) ≤ (t.Lead + 1))) ∧ (((gt (runL t sights sights.length) ((k : Int))).Level) ≠ 3)) := by simpa using c66
      refine QF.gnT rfl rfl rfl rfl rfl ?_
      refine QF.gnT rfl rfl rfl rfl rfl ?_
      refine QF.gnT rfl rfl rfl rfl rfl ?_
      refine QF.gnT rfl rfl rfl rfl rfl ?_
      refine QF.gnT rfl rfl rfl rfl rfl ?_
      refine QF.gnT rfl rfl rfl rfl rfl ?_
      refine QF.gnT rfl rfl rfl rfl rfl ?_
      refine QF.gnT rfl rfl rfl rfl rfl ?_
      refine QF.gnT rfl rfl rfl rfl rfl ?_
      refine QF.gnT rfl rfl rfl rfl rfl ?_
      refine QF.gnT rfl rfl rfl rfl rfl ?_
      refine QF.gnT rfl rfl rfl rfl rfl ?_
      refine QF.pick rfl rfl rfl ?_
      exact QF.cutn (sb 73 rfl (sb 60 rfl (sb 59 rfl (sb 52 rfl (sb 51 rfl (sb 45 rfl (sb 44 rfl (sb 43 rfl (sb 8 rfl (sb 42 rfl (sb 41 rfl (sb 40 rfl (sb 39 rfl (sb 38 rfl (sb 35 rfl (sb 34 rfl (sb 33 rfl (sb 32 rfl (sb 6 rfl (sb 5 rfl (sb 2 rfl (sb 1 rfl (sb 7 rfl sb0)))))))))))))))))))))))
  refine QF.rcn (sb 73 rfl (sb 60 rfl (sb 59 rfl (sb 52 rfl (sb 51 rfl (sb 45 rfl (sb 44 rfl (sb 43 rfl (sb 8 rfl (sb 42 rfl (sb 41 rfl (sb 40 rfl (sb 39 rfl (sb 38 rfl (sb 35 rfl (sb 34 rfl (sb 33 rfl (sb 32 rfl (sb 6 rfl (sb 5 rfl (sb 2 rfl (sb 1 rfl (sb 7 rfl sb0))))))))))))))))))))))) fun h82 hs83 e84 => ?_
  refine WF.if_ rfl (fun c85 => ?_) (fun c85 => ?_)
  · skip
    replace c85 : ((((0 ≤ ((gt sights ((k : Int))).Crest)) ∧ (((gt sights ((k : Int))).Crest) ≤ (t.Lead + 1))) ∧ (((gt (runL t sights sights.length) ((k : Int))).Level) ≠ 3)) ∨ (((gt (runL t sights sights.length) ((k : Int))).Level) < (dem t (gt sights ((k : Int)))))) := by simpa using c85
    refine WF.seq ?_
    refine WF.rp (.inl rfl) ?_
    refine QF.as_ rfl rfl ?_
    refine QF.rpn (sb 4 rfl (sb 73 rfl (sb 60 rfl (sb 59 rfl (sb 52 rfl (sb 51 rfl (sb 45 rfl (sb 44 rfl (sb 43 rfl (sb 8 rfl (sb 42 rfl (sb 41 rfl (sb 40 rfl (sb 39 rfl (sb 38 rfl (sb 35 rfl (sb 34 rfl (sb 33 rfl (sb 32 rfl (sb 6 rfl (sb 5 rfl (sb 2 rfl (sb 1 rfl (sb 7 rfl sb0)))))))))))))))))))))))) ?_
    refine WF.ret (fun aa ww hf hw => ?_)
    have q86 : (false : Bool) = true := by exfalso; exact orders_1 t (by omega) (by omega) (by omega) c85
    exact rtg hf rfl hw (rvc (rvT hf (v := _) rfl) rv0) rfl (e5.trans (e10.trans (e32.trans (e42.trans e84)))) ⟨(congrArg Value.bool q86), (hs83.drop .head)⟩
  replace c85 : ¬ ((((0 ≤ ((gt sights ((k : Int))).Crest)) ∧ (((gt sights ((k : Int))).Crest) ≤ (t.Lead + 1))) ∧ (((gt (runL t sights sights.length) ((k : Int))).Level) ≠ 3)) ∨ (((gt (runL t sights sights.length) ((k : Int))).Level) < (dem t (gt sights ((k : Int)))))) := by simpa using c85
  refine WF.skip ?_
  refine WF.seq ?_
  refine WF.seq ?_
  refine WF.rp (.inl rfl) ?_
  refine QF.mv rfl rfl ?_
  refine QF.eql rfl rfl rfl ?_
  refine QF.mv rfl rfl ?_
  refine QF.cutv 8 84 (.bool ((decide (((k : Int)) = 0)) || (decide (((gt (runL t sights sights.length) (((k : Int)) - 1)).Level) ≠ 3)))) ?_ ?_
  · cases c87 : (decide (((k : Int)) = 0))
    · skip
      have c87p := of_decide_eq_false c87
      refine QF.gy rfl rfl rfl ?_
      refine QF.mv rfl rfl ?_
      refine QF.gy rfl rfl rfl ?_
      refine QF.mv rfl rfl ?_
      refine QF.gy rfl rfl rfl ?_
      have r88 : inI64 (((k : Int)) - 1) := by unfold inI64 at *; omega
      refine QF.sub_ rfl rfl rfl r88 ?_
      refine QF.gy rfl rfl rfl ?_
      refine QF.ixog hs83 mh rfl rfl sl_28 (by omega) (by omega) rfl fun q89 k90 ep91 => ?_
      refine QF.gy rfl rfl rfl ?_
      refine QF.fa rfl k90 GAlarm.f_Level fa_25_0 rfl fun q92 k93 => ?_
      refine QF.gy rfl rfl rfl ?_
      refine QF.ldi ckP (fun _ x => x) rfl k93 ty_3 rfl fun r94 => ?_
      refine QF.gy rfl rfl rfl ?_
      refine QF.neq rfl rfl rfl ?_
      refine QF.pick rfl rfl rfl ?_
      exact QF.cutn (sb 84 rfl (sb 76 rfl (sb 75 rfl (sb 74 rfl (sb 73 rfl (sb 60 rfl (sb 59 rfl (sb 52 rfl (sb 51 rfl (sb 45 rfl (sb 44 rfl (sb 43 rfl (sb 8 rfl (sb 42 rfl (sb 41 rfl (sb 40 rfl (sb 39 rfl (sb 38 rfl (sb 35 rfl (sb 34 rfl (sb 33 rfl (sb 32 rfl (sb 6 rfl (sb 5 rfl (sb 2 rfl (sb 1 rfl (sb 7 rfl sb0)))))))))))))))))))))))))))
    · skip
      have c87p := of_decide_eq_true c87
      refine QF.gnT rfl rfl rfl rfl rfl ?_
      refine QF.gnT rfl rfl rfl rfl rfl ?_
      refine QF.gnT rfl rfl rfl rfl rfl ?_
      refine QF.gnT rfl rfl rfl rfl rfl ?_
      refine QF.gnT rfl rfl rfl rfl rfl ?_
      refine QF.gnT rfl rfl rfl rfl rfl ?_
      refine QF.gnT rfl rfl rfl rfl rfl ?_
      refine QF.pick rfl rfl rfl ?_
      exact QF.cutn (sb 84 rfl (sb 76 rfl (sb 75 rfl (sb 74 rfl (sb 73 rfl (sb 60 rfl (sb 59 rfl (sb 52 rfl (sb 51 rfl (sb 45 rfl (sb 44 rfl (sb 43 rfl (sb 8 rfl (sb 42 rfl (sb 41 rfl (sb 40 rfl (sb 39 rfl (sb 38 rfl (sb 35 rfl (sb 34 rfl (sb 33 rfl (sb 32 rfl (sb 6 rfl (sb 5 rfl (sb 2 rfl (sb 1 rfl (sb 7 rfl sb0)))))))))))))))))))))))))))
  refine QF.mv rfl rfl ?_
  refine QF.cutv 7 92 (.bool (((decide (((k : Int)) = 0)) || (decide (((gt (runL t sights sights.length) (((k : Int)) - 1)).Level) ≠ 3))) || (decide (((gt (runL t sights sights.length) ((k : Int))).Level) = 3)))) ?_ ?_
  · cases c95 : ((decide (((k : Int)) = 0)) || (decide (((gt (runL t sights sights.length) (((k : Int)) - 1)).Level) ≠ 3)))
    · skip
      have c95p : ¬ ((((k : Int)) = 0) ∨ (((gt (runL t sights sights.length) (((k : Int)) - 1)).Level) ≠ 3)) := by simpa using c95
      refine QF.gy rfl rfl rfl ?_
      refine QF.mv rfl rfl ?_
      refine QF.gy rfl rfl rfl ?_
      refine QF.mv rfl rfl ?_
      refine QF.gy rfl rfl rfl ?_
      refine QF.ixog hs83 mh rfl rfl sl_28 (by omega) (by omega) rfl fun q96 k97 ep98 => ?_
      refine QF.gy rfl rfl rfl ?_
      refine QF.fa rfl k97 GAlarm.f_Level fa_25_0 rfl fun q99 k100 => ?_
      refine QF.gy rfl rfl rfl ?_
      refine QF.ldi ckP (fun _ x => x) rfl k100 ty_3 rfl fun r101 => ?_
      refine QF.gy rfl rfl rfl ?_
      refine QF.eql rfl rfl rfl ?_
      refine QF.pick rfl rfl rfl ?_
      exact QF.cutn (sb 92 rfl (sb 85 rfl (sb 84 rfl (sb 76 rfl (sb 75 rfl (sb 74 rfl (sb 73 rfl (sb 60 rfl (sb 59 rfl (sb 52 rfl (sb 51 rfl (sb 45 rfl (sb 44 rfl (sb 43 rfl (sb 8 rfl (sb 42 rfl (sb 41 rfl (sb 40 rfl (sb 39 rfl (sb 38 rfl (sb 35 rfl (sb 34 rfl (sb 33 rfl (sb 32 rfl (sb 6 rfl (sb 5 rfl (sb 2 rfl (sb 1 rfl (sb 7 rfl sb0)))))))))))))))))))))))))))))
    · skip
      have c95p : ((((k : Int)) = 0) ∨ (((gt (runL t sights sights.length) (((k : Int)) - 1)).Level) ≠ 3)) := by simpa using c95
      refine QF.gnT rfl rfl rfl rfl rfl ?_
      refine QF.gnT rfl rfl rfl rfl rfl ?_
      refine QF.gnT rfl rfl rfl rfl rfl ?_
      refine QF.gnT rfl rfl rfl rfl rfl ?_
      refine QF.gnT rfl rfl rfl rfl rfl ?_
      refine QF.gnT rfl rfl rfl rfl rfl ?_
      refine QF.pick rfl rfl rfl ?_
      exact QF.cutn (sb 92 rfl (sb 85 rfl (sb 84 rfl (sb 76 rfl (sb 75 rfl (sb 74 rfl (sb 73 rfl (sb 60 rfl (sb 59 rfl (sb 52 rfl (sb 51 rfl (sb 45 rfl (sb 44 rfl (sb 43 rfl (sb 8 rfl (sb 42 rfl (sb 41 rfl (sb 40 rfl (sb 39 rfl (sb 38 rfl (sb 35 rfl (sb 34 rfl (sb 33 rfl (sb 32 rfl (sb 6 rfl (sb 5 rfl (sb 2 rfl (sb 1 rfl (sb 7 rfl sb0)))))))))))))))))))))))))))))
  refine QF.rpn (sb 92 rfl (sb 85 rfl (sb 84 rfl (sb 76 rfl (sb 75 rfl (sb 74 rfl (sb 73 rfl (sb 60 rfl (sb 59 rfl (sb 52 rfl (sb 51 rfl (sb 45 rfl (sb 44 rfl (sb 43 rfl (sb 8 rfl (sb 42 rfl (sb 41 rfl (sb 40 rfl (sb 39 rfl (sb 38 rfl (sb 35 rfl (sb 34 rfl (sb 33 rfl (sb 32 rfl (sb 6 rfl (sb 5 rfl (sb 2 rfl (sb 1 rfl (sb 7 rfl sb0))))))))))))))))))))))))))))) ?_
  refine WF.if_ rfl (fun c102 => ?_) (fun c102 => ?_)
  · skip
    replace c102 : (((((k : Int)) = 0) ∨ (((gt (runL t sights sights.length) (((k : Int)) - 1)).Level) ≠ 3)) ∨ (((gt (runL t sights sights.length) ((k : Int))).Level) = 3)) := by simpa using c102
    refine WF.exitW rfl ?_
    refine WF.rp (.inl rfl) ?_
    refine QF.mv rfl rfl ?_
    have r103 : inI64 (((k : Int)) + 1) := by unfold inI64 at *; omega
    refine QF.add rfl rfl rfl r103 ?_
    refine QF.as_ rfl rfl ?_
    refine QF.rpn (sb 7 rfl (sb 37 rfl (sb 36 rfl (sb 92 rfl (sb 85 rfl (sb 84 rfl (sb 76 rfl (sb 75 rfl (sb 74 rfl (sb 73 rfl (sb 60 rfl (sb 59 rfl (sb 52 rfl (sb 51 rfl (sb 45 rfl (sb 44 rfl (sb 43 rfl (sb 8 rfl (sb 42 rfl (sb 41 rfl (sb 40 rfl (sb 39 rfl (sb 38 rfl (sb 35 rfl (sb 34 rfl (sb 33 rfl (sb 32 rfl (sb 6 rfl (sb 5 rfl (sb 2 rfl (sb 1 rfl sb0))))))))))))))))))))))))))))))) ?_
    refine WF.nil (fun aa ww hf hw => ?_)
    refine ⟨_, _, ?_, hw, ?_, (e42.trans e84), (by omega)⟩
    · refine cast (congrArg (Fr _ aa) ?_) (hf.sub (sb 6 rfl (sb 5 rfl (sb 2 rfl (sb 1 rfl (sb 7 rfl sb0))))) : Fr _ aa [(6, v29), (5, .bool (true)), (2, q1), (1, v_sights), (7, .int .i64 (((k : Int)) + 1))])
      simp
    · refine cast (congrArg (fun l => St _ l _) ?_) hs83
      rfl
  replace c102 : ¬ (((((k : Int)) = 0) ∨ (((gt (runL t sights sights.length) (((k : Int)) - 1)).Level) ≠ 3)) ∨ (((gt (runL t sights sights.length) ((k : Int))).Level) = 3)) := by simpa using c102
  refine WF.skip ?_
  refine WF.seq ?_
  refine WF.rp (.inl rfl) ?_
  refine QF.mv rfl rfl ?_
  refine QF.lss rfl rfl rfl ?_
  refine QF.mv rfl rfl ?_
  refine QF.cutv 3 98 (.bool ((decide (((k : Int)) < 3)) || (decide (0 ≤ ((gt sights ((k : Int))).Crest))))) ?_ ?_
  · cases c104 : (decide (((k : Int)) < 3))
    · skip
      have c104p := of_decide_eq_false c104
      refine QF.gy rfl rfl rfl ?_
      refine QF.mv rfl rfl ?_
      refine QF.gy rfl rfl rfl ?_
      refine QF.geq rfl rfl rfl ?_
      refine QF.pick rfl rfl rfl ?_
      exact QF.cutn (sb 98 rfl (sb 95 rfl (sb 94 rfl (sb 93 rfl (sb 92 rfl (sb 85 rfl (sb 84 rfl (sb 76 rfl (sb 75 rfl (sb 74 rfl (sb 73 rfl (sb 60 rfl (sb 59 rfl (sb 52 rfl (sb 51 rfl (sb 45 rfl (sb 44 rfl (sb 43 rfl (sb 8 rfl (sb 42 rfl (sb 41 rfl (sb 40 rfl (sb 39 rfl (sb 38 rfl (sb 35 rfl (sb 34 rfl (sb 33 rfl (sb 32 rfl (sb 6 rfl (sb 5 rfl (sb 2 rfl (sb 1 rfl (sb 7 rfl sb0)))))))))))))))))))))))))))))))))
    · skip
      have c104p := of_decide_eq_true c104
      refine QF.gnT rfl rfl rfl rfl rfl ?_
      refine QF.gnT rfl rfl rfl rfl rfl ?_
      refine QF.pick rfl rfl rfl ?_
      exact QF.cutn (sb 98 rfl (sb 95 rfl (sb 94 rfl (sb 93 rfl (sb 92 rfl (sb 85 rfl (sb 84 rfl (sb 76 rfl (sb 75 rfl (sb 74 rfl (sb 73 rfl (sb 60 rfl (sb 59 rfl (sb 52 rfl (sb 51 rfl (sb 45 rfl (sb 44 rfl (sb 43 rfl (sb 8 rfl (sb 42 rfl (sb 41 rfl (sb 40 rfl (sb 39 rfl (sb 38 rfl (sb 35 rfl (sb 34 rfl (sb 33 rfl (sb 32 rfl (sb 6 rfl (sb 5 rfl (sb 2 rfl (sb 1 rfl (sb 7 rfl sb0)))))))))))))))))))))))))))))))))
  refine QF.mv rfl rfl ?_
  refine QF.cutv 8 107 (.bool (((decide (((k : Int)) < 3)) || (decide (0 ≤ ((gt sights ((k : Int))).Crest)))) || (decide (0 ≤ ((gt sights (((k : Int)) - 1)).Crest))))) ?_ ?_
  · cases c105 : ((decide (((k : Int)) < 3)) || (decide (0 ≤ ((gt sights ((k : Int))).Crest))))
    · skip
      have c105p : ¬ ((((k : Int)) < 3) ∨ (0 ≤ ((gt sights ((k : Int))).Crest))) := by simpa using c105
      refine QF.gy rfl rfl rfl ?_
      refine QF.mv rfl rfl ?_
      refine QF.gy rfl rfl rfl ?_
      refine QF.mv rfl rfl ?_
      refine QF.gy rfl rfl rfl ?_
      have r106 : inI64 (((k : Int)) - 1) := by unfold inI64 at *; omega
      refine QF.sub_ rfl rfl rfl r106 ?_
      refine QF.gy rfl rfl rfl ?_
      have k107 := h_sights.mono' (e5.trans (e10.trans (e32.trans (e42.trans e84))))
      refine QF.ixg rfl rfl k107 sl_26 (by omega) (by omega) rfl fun q108 k109 => ?_
      refine QF.gy rfl rfl rfl ?_
      refine QF.fa rfl k109 GSight.f_Crest fa_32_0 rfl fun q110 k111 => ?_
      refine QF.gy rfl rfl rfl ?_
      refine QF.ldi ckP hs83.1 rfl k111 ty_3 rfl fun r112 => ?_
      refine QF.gy rfl rfl rfl ?_
      refine QF.geq rfl rfl rfl ?_
      refine QF.pick rfl rfl rfl ?_
      exact QF.cutn (sb 107 rfl (sb 99 rfl (sb 98 rfl (sb 95 rfl (sb 94 rfl (sb 93 rfl (sb 92 rfl (sb 85 rfl (sb 84 rfl (sb 76 rfl (sb 75 rfl (sb 74 rfl (sb 73 rfl (sb 60 rfl (sb 59 rfl (sb 52 rfl (sb 51 rfl (sb 45 rfl (sb 44 rfl (sb 43 rfl (sb 8 rfl (sb 42 rfl (sb 41 rfl (sb 40 rfl (sb 39 rfl (sb 38 rfl (sb 35 rfl (sb 34 rfl (sb 33 rfl (sb 32 rfl (sb 6 rfl (sb 5 rfl (sb 2 rfl (sb 1 rfl (sb 7 rfl sb0)))))))))))))))))))))))))))))))))))
    · skip
      have c105p : ((((k : Int)) < 3) ∨ (0 ≤ ((gt sights ((k : Int))).Crest))) := by simpa using c105
      refine QF.gnT rfl rfl rfl rfl rfl ?_
      refine QF.gnT rfl rfl rfl rfl rfl ?_
      refine QF.gnT rfl rfl rfl rfl rfl ?_
      refine QF.gnT rfl rfl rfl rfl rfl ?_
      refine QF.gnT rfl rfl rfl rfl rfl ?_
      refine QF.gnT rfl rfl rfl rfl rfl ?_
      refine QF.gnT rfl rfl rfl rfl rfl ?_
      refine QF.pick rfl rfl rfl ?_
      exact QF.cutn (sb 107 rfl (sb 99 rfl (sb 98 rfl (sb 95 rfl (sb 94 rfl (sb 93 rfl (sb 92 rfl (sb 85 rfl (sb 84 rfl (sb 76 rfl (sb 75 rfl (sb 74 rfl (sb 73 rfl (sb 60 rfl (sb 59 rfl (sb 52 rfl (sb 51 rfl (sb 45 rfl (sb 44 rfl (sb 43 rfl (sb 8 rfl (sb 42 rfl (sb 41 rfl (sb 40 rfl (sb 39 rfl (sb 38 rfl (sb 35 rfl (sb 34 rfl (sb 33 rfl (sb 32 rfl (sb 6 rfl (sb 5 rfl (sb 2 rfl (sb 1 rfl (sb 7 rfl sb0)))))))))))))))))))))))))))))))))))
  refine QF.mv rfl rfl ?_
  refine QF.cutv 8 116 (.bool ((((decide (((k : Int)) < 3)) || (decide (0 ≤ ((gt sights ((k : Int))).Crest)))) || (decide (0 ≤ ((gt sights (((k : Int)) - 1)).Crest)))) || (decide (0 ≤ ((gt sights (((k : Int)) - 2)).Crest))))) ?_ ?_
  · cases c113 : (((decide (((k : Int)) < 3)) || (decide (0 ≤ ((gt sights ((k : Int))).Crest)))) || (decide (0 ≤ ((gt sights (((k : Int)) - 1)).Crest))))
    · skip
      have c113p : ¬ (((((k : Int)) < 3) ∨ (0 ≤ ((gt sights ((k : Int))).Crest))) ∨ (0 ≤ ((gt sights (((k : Int)) - 1)).Crest))) := by simpa using c113
      refine QF.gy rfl rfl rfl ?_
      refine QF.mv rfl rfl ?_
      refine QF.gy rfl rfl rfl ?_
      refine QF.mv rfl rfl ?_
      refine QF.gy rfl rfl rfl ?_
      have r114 : inI64 (((k : Int)) - 2) := by unfold inI64 at *; omega
      refine QF.sub_ rfl rfl rfl r114 ?_
      refine QF.gy rfl rfl rfl ?_
      have k115 := h_sights.mono' (e5.trans (e10.trans (e32.trans (e42.trans e84))))
      refine QF.ixg rfl rfl k115 sl_26 (by omega) (by omega) rfl fun q116 k117 => ?_
      refine QF.gy rfl rfl rfl ?_
      refine QF.fa rfl k117 GSight.f_Crest fa_32_0 rfl fun q118 k119 => ?_
      refine QF.gy rfl rfl rfl ?_
      refine QF.ldi ckP hs83.1 rfl k119 ty_3 rfl fun r120 => ?_
      refine QF.gy rfl rfl rfl ?_
      refine QF.geq rfl rfl rfl ?_
      refine QF.pick rfl rfl rfl ?_
      exact QF.cutn (sb 116 rfl (sb 108 rfl (sb 107 rfl (sb 99 rfl (sb 98 rfl (sb 95 rfl (sb 94 rfl (sb 93 rfl (sb 92 rfl (sb 85 rfl (sb 84 rfl (sb 76 rfl (sb 75 rfl (sb 74 rfl (sb 73 rfl (sb 60 rfl (sb 59 rfl (sb 52 rfl (sb 51 rfl (sb 45 rfl (sb 44 rfl (sb 43 rfl (sb 8 rfl (sb 42 rfl (sb 41 rfl (sb 40 rfl (sb 39 rfl (sb 38 rfl (sb 35 rfl (sb 34 rfl (sb 33 rfl (sb 32 rfl (sb 6 rfl (sb 5 rfl (sb 2 rfl (sb 1 rfl (sb 7 rfl sb0)))))))))))))))))))))))))))))))))))))
    · skip
      have c113p : (((((k : Int)) < 3) ∨ (0 ≤ ((gt sights ((k : Int))).Crest))) ∨ (0 ≤ ((gt sights (((k : Int)) - 1)).Crest))) := by simpa using c113
      refine QF.gnT rfl rfl rfl rfl rfl ?_
      refine QF.gnT rfl rfl rfl rfl rfl ?_
      refine QF.gnT rfl rfl rfl rfl rfl ?_
      refine QF.gnT rfl rfl rfl rfl rfl ?_
      refine QF.gnT rfl rfl rfl rfl rfl ?_
      refine QF.gnT rfl rfl rfl rfl rfl ?_
      refine QF.gnT rfl rfl rfl rfl rfl ?_
      refine QF.pick rfl rfl rfl ?_
      exact QF.cutn (sb 116 rfl (sb 108 rfl (sb 107 rfl (sb 99 rfl (sb 98 rfl (sb 95 rfl (sb 94 rfl (sb 93 rfl (sb 92 rfl (sb 85 rfl (sb 84 rfl (sb 76 rfl (sb 75 rfl (sb 74 rfl (sb 73 rfl (sb 60 rfl (sb 59 rfl (sb 52 rfl (sb 51 rfl (sb 45 rfl (sb 44 rfl (sb 43 rfl (sb 8 rfl (sb 42 rfl (sb 41 rfl (sb 40 rfl (sb 39 rfl (sb 38 rfl (sb 35 rfl (sb 34 rfl (sb 33 rfl (sb 32 rfl (sb 6 rfl (sb 5 rfl (sb 2 rfl (sb 1 rfl (sb 7 rfl sb0)))))))))))))))))))))))))))))))))))))
  refine QF.rpn (sb 116 rfl (sb 108 rfl (sb 107 rfl (sb 99 rfl (sb 98 rfl (sb 95 rfl (sb 94 rfl (sb 93 rfl (sb 92 rfl (sb 85 rfl (sb 84 rfl (sb 76 rfl (sb 75 rfl (sb 74 rfl (sb 73 rfl (sb 60 rfl (sb 59 rfl (sb 52 rfl (sb 51 rfl (sb 45 rfl (sb 44 rfl (sb 43 rfl (sb 8 rfl (sb 42 rfl (sb 41 rfl (sb 40 rfl (sb 39 rfl (sb 38 rfl (sb 35 rfl (sb 34 rfl (sb 33 rfl (sb 32 rfl (sb 6 rfl (sb 5 rfl (sb 2 rfl (sb 1 rfl (sb 7 rfl sb0))))))))))))))))))))))))))))))))))))) ?_
  refine WF.if_ rfl (fun c121 => ?_) (fun c121 => ?_)
  · skip
    replace c121 : ((((((k : Int)) < 3) ∨ (0 ≤ ((gt sights ((k : Int))).Crest))) ∨ (0 ≤ ((gt sights (((k : Int)) - 1)).Crest))) ∨ (0 ≤ ((gt sights (((k : Int)) - 2)).Crest))) := by simpa using c121
    refine WF.seq ?_
    refine WF.rp (.inl rfl) ?_
    refine QF.as_ rfl rfl ?_
    refine QF.rpn (sb 4 rfl (sb 116 rfl (sb 108 rfl (sb 107 rfl (sb 99 rfl (sb 98 rfl (sb 95 rfl (sb 94 rfl (sb 93 rfl (sb 92 rfl (sb 85 rfl (sb 84 rfl (sb 76 rfl (sb 75 rfl (sb 74 rfl (sb 73 rfl (sb 60 rfl (sb 59 rfl (sb 52 rfl (sb 51 rfl (sb 45 rfl (sb 44 rfl (sb 43 rfl (sb 8 rfl (sb 42 rfl (sb 41 rfl (sb 40 rfl (sb 39 rfl (sb 38 rfl (sb 35 rfl (sb 34 rfl (sb 33 rfl (sb 32 rfl (sb 6 rfl (sb 5 rfl (sb 2 rfl (sb 1 rfl (sb 7 rfl sb0)))))))))))))))))))))))))))))))))))))) ?_
    refine WF.ret (fun aa ww hf hw => ?_)
    have q122 : (false : Bool) = true := by exfalso; exact orders_2 t (by omega) c102 c121
    exact rtg hf rfl hw (rvc (rvT hf (v := _) rfl) rv0) rfl (e5.trans (e10.trans (e32.trans (e42.trans e84)))) ⟨(congrArg Value.bool q122), (hs83.drop .head)⟩
  replace c121 : ¬ ((((((k : Int)) < 3) ∨ (0 ≤ ((gt sights ((k : Int))).Crest))) ∨ (0 ≤ ((gt sights (((k : Int)) - 1)).Crest))) ∨ (0 ≤ ((gt sights (((k : Int)) - 2)).Crest))) := by simpa using c121
  refine WF.skip ?_
  refine WF.nilW ?_
  refine WF.rp (.inl rfl) ?_
  refine QF.mv rfl rfl ?_
  have r123 : inI64 (((k : Int)) + 1) := by unfold inI64 at *; omega
  refine QF.add rfl rfl rfl r123 ?_
  refine QF.as_ rfl rfl ?_
  refine QF.rpn (sb 7 rfl (sb 37 rfl (sb 36 rfl (sb 116 rfl (sb 108 rfl (sb 107 rfl (sb 99 rfl (sb 98 rfl (sb 95 rfl (sb 94 rfl (sb 93 rfl (sb 92 rfl (sb 85 rfl (sb 84 rfl (sb 76 rfl (sb 75 rfl (sb 74 rfl (sb 73 rfl (sb 60 rfl (sb 59 rfl (sb 52 rfl (sb 51 rfl (sb 45 rfl (sb 44 rfl (sb 43 rfl (sb 8 rfl (sb 42 rfl (sb 41 rfl (sb 40 rfl (sb 39 rfl (sb 38 rfl (sb 35 rfl (sb 34 rfl (sb 33 rfl (sb 32 rfl (sb 6 rfl (sb 5 rfl (sb 2 rfl (sb 1 rfl sb0))))))))))))))))))))))))))))))))))))))) ?_
  refine WF.nil (fun aa ww hf hw => ?_)
  refine ⟨_, _, ?_, hw, ?_, (e42.trans e84), (by omega)⟩
  · refine cast (congrArg (Fr _ aa) ?_) (hf.sub (sb 6 rfl (sb 5 rfl (sb 2 rfl (sb 1 rfl (sb 7 rfl sb0))))) : Fr _ aa [(6, v29), (5, .bool (true)), (2, q1), (1, v_sights), (7, .int .i64 (((k : Int)) + 1))])
    simp
  · refine cast (congrArg (fun l => St _ l _) ?_) hs83
    rfl

theorem opens_9 : Opens Try.prog 9 Rep.str := opens_str (by kernel_rfl) Try.underlying9
theorem opens_3 : Opens Try.prog 3 Rep.int := opens_int (by kernel_rfl) Try.underlying3
theorem opens_23 : Opens Try.prog 23 RGTown := by
  have hc : Try.prog.cellsOf 23 = 7 := by kernel_rfl
  refine ⟨hc, fun {H enc w base spare held fuel cs x} h => ?_⟩
  obtain ⟨hl, hf⟩ := open_fields Try.underlying23 h
  rw [hc] at hl
  match cs, hl with
  | [c0, c1, c2, c3, c4, c5, c6], _ =>
    obtain ⟨y0, k0⟩ := hf 0 _ Rep.str rfl opens_9
    obtain ⟨e0, r0⟩ := k0
    obtain rfl : c0 = _ := (List.cons.inj (show [c0] = _ from e0)).1
    obtain ⟨y1, k1⟩ := hf 1 _ Rep.int rfl opens_3
    obtain ⟨e1, r1⟩ := k1
    obtain rfl : c1 = _ := (List.cons.inj (show [c1] = _ from e1)).1
    obtain ⟨y2, k2⟩ := hf 2 _ Rep.int rfl opens_3
    obtain ⟨e2, r2⟩ := k2
    obtain rfl : c2 = _ := (List.cons.inj (show [c2] = _ from e2)).1
    obtain ⟨y3, k3⟩ := hf 3 _ Rep.int rfl opens_3
    obtain ⟨e3, r3⟩ := k3
    obtain rfl : c3 = _ := (List.cons.inj (show [c3] = _ from e3)).1
    obtain ⟨y4, k4⟩ := hf 4 _ Rep.int rfl opens_3
    obtain ⟨e4, r4⟩ := k4
    obtain rfl : c4 = _ := (List.cons.inj (show [c4] = _ from e4)).1
    obtain ⟨y5, k5⟩ := hf 5 _ Rep.int rfl opens_3
    obtain ⟨e5, r5⟩ := k5
    obtain rfl : c5 = _ := (List.cons.inj (show [c5] = _ from e5)).1
    obtain ⟨y6, k6⟩ := hf 6 _ Rep.int rfl opens_3
    obtain ⟨e6, r6⟩ := k6
    obtain rfl : c6 = _ := (List.cons.inj (show [c6] = _ from e6)).1
    exact ⟨⟨y0, y1, y2, y3, y4, y5, y6⟩, ⟨rfl, ⟨r0, r1, r2, r3, r4, r5, r6⟩⟩⟩
theorem opens_4 : Opens Try.prog 4 Rep.bool := opens_bool (by kernel_rfl) Try.underlying4
theorem opens_32 : Opens Try.prog 32 RGSight := by
  have hc : Try.prog.cellsOf 32 = 2 := by kernel_rfl
  refine ⟨hc, fun {H enc w base spare held fuel cs x} h => ?_⟩
  obtain ⟨hl, hf⟩ := open_fields Try.underlying32 h
  rw [hc] at hl
  match cs, hl with
  | [c0, c1], _ =>
    obtain ⟨y0, k0⟩ := hf 0 _ Rep.int rfl opens_3
    obtain ⟨e0, r0⟩ := k0
    obtain rfl : c0 = _ := (List.cons.inj (show [c0] = _ from e0)).1
    obtain ⟨y1, k1⟩ := hf 1 _ Rep.bool rfl opens_4
    obtain rfl : c1 = _ := (List.cons.inj (show [c1] = _ from k1)).1
    exact ⟨⟨y0, y1⟩, ⟨rfl, r0⟩⟩
theorem opens_26 : Opens Try.prog 26 (Rep.sl RGSight) := opens_sl (by kernel_rfl) Try.underlying26 opens_32 rfl

set_option maxRecDepth 100000 in
theorem orders_holds_lifted (os : Os) (started : os.Started) (H : Type) (enc : TypeId × Value → H) :
    ReturnsInHanded {} Try.checked os 4 .any (Rows.alarmOrdersSpec.pre6 enc Try.prog Try.f4 Rows.alarmOrdersRow.domain false) (Rows.alarmOrdersSpec.post enc Try.prog Try.f4 false true false false) := by
  refine returnsInHanded_of_change (C := Try.checked) (by kernel_rfl) started (by kernel_rfl) Try.func4
    (ChangeSpec.witness6 (enc := enc) (C := Try.checked) false ⟨#[], #[.agg #[.string ByteArray.empty, .int .i64 0, .int .i64 0, .int .i64 0, .int .i64 0, .int .i64 0, .int .i64 0], .slice none 0 0], []⟩ 8 (by kernel_rfl) (by kernel_rfl) (by kernel_rfl) (by kernel_rfl)) ?_
  intro W base args ds gs before hval0 hW hcnd _
  have hval : ∀ (j : Nat) t v, Try.f4.params[j]? = some t → args[j]? = some v → Value.okWide Try.prog W .any base t v := hval0
  have hW' := hW
  obtain ⟨p, q, hA0, hV, rfl, hfz, hnd⟩ := hW
  have hA : DataW.TrodAll enc Try.prog W 0 (fun _ => true) true Try.f4.params.toList args.toList ds p := hA0
  rw [Try.params4] at hA hval
  obtain ⟨v0, vs0, d0, ds0, p0, q0, ha0, rfl, rfl, h0, r0⟩ := trodAll_cons hA
  obtain ⟨v1, vs1, d1, ds1, p1, q1, rfl, rfl, rfl, h1, r1⟩ := trodAll_cons r0
  obtain ⟨rfl, rfl, rfl⟩ := trodAll_nil r1
  obtain rfl : args = #[v0, v1] := by cases args; simp_all
  obtain ⟨rfl, rfl⟩ := trodVars_none hV
  obtain ⟨x0, k0⟩ := arg_st opens_23 rfl Try.underlying23 (hval 0 23 v0 rfl rfl) h0
  obtain ⟨x1, k1⟩ := arg_one opens_26 rfl rfl (ne_slice Try.underlying26 (hval 1 26 v1 rfl rfl)) h1
  refine (law_calls (orders_ret (St.all W.heap) k0 k1.sl)).mono fun e W' ⟨he, hb⟩ => ⟨_, he, ?_⟩
  exact law_post (tb := 4) (by kernel_rfl) (by kernel_rfl) hW' (by kernel_rfl) Try.underlying4 rfl rfl rfl rfl hb

theorem orders_holds : Rows.AlarmOrdersSaid :=
  OpenClaim.holds_of_wide 4 Try.f4 rfl rfl rfl rfl rfl rfl rfl ⟨rfl, rfl, rfl, rfl, rfl⟩ rfl rfl rfl rfl rfl (by kernel_rfl) Try.func4 (by kernel_rfl)
    (of_decide_eq_true (by kernel_rfl)) (by unfold Func.isWrapper; first | (rw [if_pos (by decide +kernel)]; kernel_rfl) | (rw [if_neg (by decide +kernel)]; exact ⟨rfl, rfl⟩))
    (fun os started H enc _ => orders_holds_lifted os started H enc)
end orders
end Go.Proofs.Ytgnjppialaajcaa
