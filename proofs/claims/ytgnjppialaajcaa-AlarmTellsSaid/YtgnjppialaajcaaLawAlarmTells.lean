/- The law AlarmTells holds for every input. No conditions. -/
import Derived.Test.YtgnjppialaajcaaAlarm1
import Derived.Test.YtgnjppialaajcaaCore9
namespace Go.Proofs.Ytgnjppialaajcaa
open Go.ChangeShapes Go.WideShapes Go.ChangeAt Go.RowKit
set_option linter.unusedSimpArgs false
set_option linter.unusedVariables false

namespace tells
set_option maxRecDepth 10000 in
theorem tells_ret {S : Nat → Prop} {L : List HP} {h : Heap} (hs : St S L h) {v_t : Value} {t : GTown} (h_t : Rd S h RGTown v_t t) {v_a : Value} {a : GAlarm} (h_a : Rd S h RGAlarm v_a a) {v_sights : Value} {sights : (List GSight)} (h_sights : Sl S h RGSight v_sights sights) :
    Ret Try.prog 3 #[v_t, v_a, v_sights] S h (fun v S' h' => v = .bool true ∧ St S' (L) h') := by
  refine Ret.go (l := [v_t, v_a, v_sights]) 60 Try.func3 rfl Try.ntmps3 rfl fun B => ?_
  refine WF.seq ?_
  refine WF.rl ?_
  refine LF.boxp rfl h_t (fun e => by cases e) rfl hs fun q1 S2 h3 hs4 e5 k6 => ?_
  have k7 := h_a.mono e5
  refine LF.boxp rfl k7 (fun e => by cases e) rfl hs4 fun q8 S9 h10 hs11 e12 k13 => ?_
  refine LF.q 1 ?_
  refine QF.as_ rfl rfl ?_
  refine QF.ln ?_
  refine LF.nil (sb 6 rfl (sb 4 rfl (sb 3 rfl (sb 2 rfl sb0)))) ?_
  refine WF.seq ?_
  refine WF.rc (.inl rfl) hs11 ?_
  refine QF.callp (v := .bool (true)) (Ψ := True) rfl rfl rfl ca_6 rfl (fun h' o => (small_ret (St.all h')).mono fun _ _ _ _ p => ⟨p.1, trivial⟩) fun r14 => ?_
  refine QF.as_ rfl rfl ?_
  refine QF.rcn (sb 7 rfl (sb 6 rfl (sb 4 rfl (sb 3 rfl (sb 2 rfl sb0))))) fun h15 hs16 e17 => ?_
  refine WF.seq ?_
  refine WF.seq ?_
  refine WF.rp (.inl rfl) ?_
  refine QF.mv rfl rfl ?_
  have k18 := h_sights.mono' (e5.trans (e12.trans e17))
  refine QF.len rfl k18 sl_26 rfl fun b19 => ?_
  unfold maxLen at b19
  refine QF.gtr rfl rfl rfl ?_
  refine QF.rp0 ?_
  refine WF.ifp rfl (fun c20 => ?_) (fun c20 => ?_)
  · skip
    refine WF.seq ?_
    refine WF.rp (.inl rfl) ?_
    refine QF.mv rfl rfl ?_
    refine QF.as_ rfl rfl ?_
    refine QF.rpn (sb 6 rfl (sb 7 rfl (sb 4 rfl (sb 3 rfl (sb 2 rfl sb0))))) ?_
    refine WF.ret (fun aa ww hf hw => ?_)
    have q21 : ((true) : Bool) = true := by first | rfl | (simp_all [eqC, eqV]; done)
    exact rtg hf rfl hw (rvc (rvT hf (v := _) rfl) rv0) rfl (e5.trans (e12.trans e17)) ⟨(congrArg Value.bool q21), hs16⟩
  refine WF.skip ?_
  refine WF.seq ?_
  refine WF.rl ?_
  refine LF.q 2 ?_
  have k22 := k6.mono (e12.trans e17)
  refine QF.ld ckP hs16.1 rfl k22 ty_23 (fun e => by cases e) rfl fun v23 k24 => ?_
  refine QF.mv rfl rfl ?_
  refine QF.ln ?_
  have k25 := h_sights.mono' (e5.trans (e12.trans e17))
  refine LF.call rfl rfl rfl ca_7 rfl (run_ret hs16 k24 k25 (by omega)) fun v26 S27 h28 e29 p => ?_
  have hs30 := p
  refine LF.q 1 ?_
  refine QF.as_ rfl rfl ?_
  refine QF.ln ?_
  refine LF.nil (sb 8 rfl (sb 7 rfl (sb 6 rfl (sb 4 rfl (sb 3 rfl (sb 2 rfl sb0)))))) ?_
  refine WF.seq ?_
  refine WF.rl ?_
  refine LF.q 2 ?_
  have k31 := k22.mono e29
  refine QF.ld ckP hs30.1 rfl k31 ty_23 (fun e => by cases e) rfl fun v32 k33 => ?_
  refine QF.mv rfl rfl ?_
  refine QF.ln ?_
  have k34 := h_sights.mono' (e5.trans (e12.trans (e17.trans e29)))
  refine LF.call rfl rfl rfl ca_8 rfl (rrun_ret hs30 k33 k34 (by omega)) fun v35 S36 h37 e38 p => ?_
  have hs39 := p
  refine LF.q 1 ?_
  refine QF.as_ rfl rfl ?_
  refine QF.ln ?_
  refine LF.nil (sb 9 rfl (sb 8 rfl (sb 7 rfl (sb 6 rfl (sb 4 rfl (sb 3 rfl (sb 2 rfl sb0))))))) ?_
  refine WF.seq ?_
  refine WF.seq ?_
  refine WF.rp (.inl rfl) ?_
  refine QF.mv rfl rfl ?_
  refine QF.leno hs39 (mt mh) rfl sl_28 rfl fun b40 => ?_
  unfold maxLen at b40
  refine QF.mv rfl rfl ?_
  refine QF.leno hs39 mh rfl sl_28 rfl fun b41 => ?_
  unfold maxLen at b41
  refine QF.neq rfl rfl rfl ?_
  refine QF.rpn (sb 26 rfl (sb 9 rfl (sb 8 rfl (sb 7 rfl (sb 6 rfl (sb 4 rfl (sb 3 rfl (sb 2 rfl sb0)))))))) ?_
  refine WF.ifp rfl (fun c42 => ?_) (fun c42 => ?_)
  · skip
    refine WF.seq ?_
    refine WF.rp (.inl rfl) ?_
    refine QF.as_ rfl rfl ?_
    refine QF.rpn (sb 6 rfl (sb 9 rfl (sb 8 rfl (sb 7 rfl (sb 4 rfl (sb 3 rfl (sb 2 rfl sb0))))))) ?_
    refine WF.ret (fun aa ww hf hw => ?_)
    have q43 : (false : Bool) = true := by first | rfl | (simp_all [eqC, eqV]; done)
    exact rtg hf rfl hw (rvc (rvT hf (v := _) rfl) rv0) rfl (e5.trans (e12.trans (e17.trans (e29.trans e38)))) ⟨(congrArg Value.bool q43), ((hs39.drop .head).drop .head)⟩
  refine WF.skip ?_
  refine WF.seq ?_
  refine WF.seq ?_
  refine WF.rp (.inl rfl) ?_
  refine QF.as_ rfl rfl ?_
  refine QF.rp0 ?_
  refine WF.block ?_
  refine WF.loop (fun k a w => ∃ (S' : Nat → Prop) (h' : Heap), Fr 60 a [(9, v35), (8, v26), (7, .bool (true)), (4, q8), (3, q1), (2, v_sights), (10, .int .i64 ((k : Int)))] ∧ Wd B h' w ∧ St S' (OS RGAlarm 25 v35 (runL t sights sights.length) :: OS RGAlarm 25 v26 (runL t sights sights.length) :: L) h' ∧ Ext S36 h37 S' h' ∧ k ≤ sights.length) (sights.length) 0 ?_ (fun _ _ _ hh => ?_) ?_
  · intro aa ww hf hw
    exact ⟨_, _, hf.sub (sb 9 rfl (sb 8 rfl (sb 7 rfl (sb 4 rfl (sb 3 rfl (sb 2 rfl (sb 10 rfl sb0))))))), hw, hs39, Ext.refl _ _, (by omega)⟩
  · obtain ⟨_, _, _, _, _, _, hT⟩ := hh; exact hT
  rintro k aa ww ⟨S44, h45, hf, hw, hs46, e47, kT48⟩
  refine WF.run ?_ hf hw
  clear hf hw ww aa
  have hlen : (runL t sights sights.length).length = sights.length := by simp [runL]
  refine WF.seq ?_
  refine WF.seq ?_
  refine WF.rp (.inl rfl) ?_
  refine QF.mv rfl rfl ?_
  refine QF.mv rfl rfl ?_
  refine QF.leno hs46 (mt mh) rfl sl_28 rfl fun b49 => ?_
  unfold maxLen at b49
  refine QF.lss rfl rfl rfl ?_
  refine QF.rpn (sb 30 rfl (sb 29 rfl (sb 28 rfl (sb 27 rfl (sb 9 rfl (sb 8 rfl (sb 7 rfl (sb 4 rfl (sb 3 rfl (sb 2 rfl (sb 10 rfl sb0))))))))))) ?_
  refine WF.ifp' rfl (fun c50 => ?_) (fun c50 => ?_)
  · skip
    refine WF.exitW rfl ?_
    refine WF.seq ?_
    refine WF.rp (.inl rfl) ?_
    refine QF.mv rfl rfl ?_
    refine QF.as_ rfl rfl ?_
    refine QF.rpn (sb 6 rfl sb0) ?_
    refine WF.ret (fun aa ww hf hw => ?_)
    have q51 : ((true) : Bool) = true := by first | rfl | (simp_all [eqC, eqV]; done)
    exact rtg hf rfl hw (rvc (rvT hf (v := _) rfl) rv0) rfl (e5.trans (e12.trans (e17.trans (e29.trans (e38.trans e47))))) ⟨(congrArg Value.bool q51), ((hs46.drop .head).drop .head)⟩
  refine WF.skip ?_
  refine WF.seq ?_
  refine WF.block ?_
  refine WF.seq ?_
  refine WF.rc (.inr ⟨mo, by kernel_rfl⟩) hs46 ?_
  refine QF.mv rfl rfl ?_
  refine QF.mv rfl rfl ?_
  refine QF.ixog hs46 (mt mh) rfl rfl sl_28 (by omega) (by omega) rfl fun q52 k53 ep54 => ?_
  refine QF.ld ckC (fun _ x => x) rfl k53 ty_25 (fun e => by cases e) rfl fun v55 k56 => ?_
  refine QF.mv rfl rfl ?_
  refine QF.mv rfl rfl ?_
  refine QF.ixog hs46 mh rfl rfl sl_28 (by omega) (by omega) rfl fun q57 k58 ep59 => ?_
  refine QF.ld ckC (fun _ x => x) rfl k58 ty_25 (fun e => by cases e) rfl fun v60 k61 => ?_
  obtain ⟨rfl, ⟨r63, r64, r65⟩⟩ := RGAlarm.ex k56
  obtain ⟨rfl, ⟨r67, r68, r69⟩⟩ := RGAlarm.ex k61
  refine QF.nes rfl rfl fl_25 rfl rfl rfl rfl ?_
  refine QF.mv rfl rfl ?_
  refine QF.cutv 16 58 (.bool ((!(eqC [.int .i64 ((gt (runL t sights sights.length) ((k : Int))).Level), .int .i64 ((gt (runL t sights sights.length) ((k : Int))).Calm), .int .i64 ((gt (runL t sights sights.length) ((k : Int))).Then)] [.int .i64 ((gt (runL t sights sights.length) ((k : Int))).Level), .int .i64 ((gt (runL t sights sights.length) ((k : Int))).Calm), .int .i64 ((gt (runL t sights sights.length) ((k : Int))).Then)])) || (!(eqC [.int .i64 ((nxt t a (gt sights ((k : Int)))).Level), .int .i64 ((nxt t a (gt sights ((k : Int)))).Calm), .int .i64 ((nxt t a (gt sights ((k : Int)))).Then)] [.int .i64 ((nxt t a (gt sights ((k : Int)))).Level), .int .i64 ((nxt t a (gt sights ((k : Int)))).Calm), .int .i64 ((nxt t a (gt sights ((k : Int)))).Then)])))) ?_ ?_
  · cases c70 : (!(eqC [.int .i64 ((gt (runL t sights sights.length) ((k : Int))).Level), .int .i64 ((gt (runL t sights sights.length) ((k : Int))).Calm), .int .i64 ((gt (runL t sights sights.length) ((k : Int))).Then)] [.int .i64 ((gt (runL t sights sights.length) ((k : Int))).Level), .int .i64 ((gt (runL t sights sights.length) ((k : Int))).Calm), .int .i64 ((gt (runL t sights sights.length) ((k : Int))).Then)]))
    · skip
      refine QF.gy rfl rfl rfl ?_
      have k71 := k31.mono (e38.trans e47)
      refine QF.ld ckC hs46.1 rfl k71 ty_23 (fun e => by cases e) rfl fun v72 k73 => ?_
      refine QF.gy rfl rfl rfl ?_
      have k74 := k13.mono (e17.trans (e29.trans (e38.trans e47)))
      refine QF.ld ckC hs46.1 rfl k74 ty_25 (fun e => by cases e) rfl fun v75 k76 => ?_
      refine QF.gy rfl rfl rfl ?_
      refine QF.mv rfl rfl ?_
      refine QF.gy rfl rfl rfl ?_
      refine QF.mv rfl rfl ?_
      refine QF.gy rfl rfl rfl ?_
      have k77 := h_sights.mono' (e5.trans (e12.trans (e17.trans (e29.trans (e38.trans e47)))))
      refine QF.ixg rfl rfl k77 sl_26 (by omega) (by omega) rfl fun q78 k79 => ?_
      refine QF.gy rfl rfl rfl ?_
      refine QF.ld ckC hs46.1 rfl k79 ty_32 (fun e => by cases e) rfl fun v80 k81 => ?_
      refine QF.gy rfl rfl rfl ?_
      refine QF.callp (v := .agg #[.int .i64 ((nxt t a (gt sights ((k : Int)))).Level), .int .i64 ((nxt t a (gt sights ((k : Int)))).Calm), .int .i64 ((nxt t a (gt sights ((k : Int)))).Then)]) (Ψ := GAlarm.ok (nxt t a (gt sights ((k : Int))))) rfl rfl rfl ca_9 rfl (fun h' o => (next_ret (St.all h') (k73.mono (o.all hs46.1)) (k76.mono (o.all hs46.1)) (k81.mono (o.all hs46.1))).mono fun _ _ _ _ p => ⟨p.1, p.2.1⟩) fun r82 => ?_
      obtain ⟨r83, r84, r85⟩ := r82
      refine QF.gy rfl rfl rfl ?_
      refine QF.ld ckC hs46.1 rfl k71 ty_23 (fun e => by cases e) rfl fun v86 k87 => ?_
      refine QF.gy rfl rfl rfl ?_
      refine QF.ld ckC hs46.1 rfl k74 ty_25 (fun e => by cases e) rfl fun v88 k89 => ?_
      refine QF.gy rfl rfl rfl ?_
      refine QF.mv rfl rfl ?_
      refine QF.gy rfl rfl rfl ?_
      refine QF.mv rfl rfl ?_
      refine QF.gy rfl rfl rfl ?_
      have k90 := h_sights.mono' (e5.trans (e12.trans (e17.trans (e29.trans (e38.trans e47)))))
      refine QF.ixg rfl rfl k90 sl_26 (by omega) (by omega) rfl fun q91 k92 => ?_
      refine QF.gy rfl rfl rfl ?_
      refine QF.ld ckC hs46.1 rfl k92 ty_32 (fun e => by cases e) rfl fun v93 k94 => ?_
      refine QF.gy rfl rfl rfl ?_
      refine QF.callp (v := .agg #[.int .i64 ((nxt t a (gt sights ((k : Int)))).Level), .int .i64 ((nxt t a (gt sights ((k : Int)))).Calm), .int .i64 ((nxt t a (gt sights ((k : Int)))).Then)]) (Ψ := GAlarm.ok (nxt t a (gt sights ((k : Int))))) rfl rfl rfl ca_10 rfl (fun h' o => (rnext_ret (St.all h') (k87.mono (o.all hs46.1)) (k89.mono (o.all hs46.1)) (k94.mono (o.all hs46.1))).mono fun _ _ _ _ p => ⟨p.1, p.2.1⟩) fun r95 => ?_
      obtain ⟨r96, r97, r98⟩ := r95
      refine QF.gy rfl rfl rfl ?_
      refine QF.nes rfl rfl fl_25 rfl rfl rfl rfl ?_
      refine QF.pick rfl rfl rfl ?_
      exact QF.cutn (sb 58 rfl (sb 42 rfl (sb 41 rfl (sb 40 rfl (sb 39 rfl (sb 38 rfl (sb 37 rfl (sb 36 rfl (sb 35 rfl (sb 34 rfl (sb 33 rfl (sb 30 rfl (sb 29 rfl (sb 28 rfl (sb 27 rfl (sb 9 rfl (sb 8 rfl (sb 7 rfl (sb 4 rfl (sb 3 rfl (sb 2 rfl (sb 10 rfl sb0))))))))))))))))))))))
    · skip
      refine QF.gnT rfl rfl rfl rfl rfl ?_
      refine QF.gnT rfl rfl rfl rfl rfl ?_
      refine QF.gnT rfl rfl rfl rfl rfl ?_
      refine QF.gnT rfl rfl rfl rfl rfl ?_
      refine QF.gnT rfl rfl rfl rfl rfl ?_
      refine QF.gnT rfl rfl rfl rfl rfl ?_
      refine QF.gnT rfl rfl rfl rfl rfl ?_
      refine QF.gnT rfl rfl rfl rfl rfl ?_
      refine QF.gnT rfl rfl rfl rfl rfl ?_
      refine QF.gnT rfl rfl rfl rfl rfl ?_
      refine QF.gnT rfl rfl rfl rfl rfl ?_
      refine QF.gnT rfl rfl rfl rfl rfl ?_
      refine QF.gnT rfl rfl rfl rfl rfl ?_
      refine QF.gnT rfl rfl rfl rfl rfl ?_
      refine QF.gnT rfl rfl rfl rfl rfl ?_
      refine QF.pick rfl rfl rfl ?_
      exact QF.cutn (sb 58 rfl (sb 42 rfl (sb 41 rfl (sb 40 rfl (sb 39 rfl (sb 38 rfl (sb 37 rfl (sb 36 rfl (sb 35 rfl (sb 34 rfl (sb 33 rfl (sb 30 rfl (sb 29 rfl (sb 28 rfl (sb 27 rfl (sb 9 rfl (sb 8 rfl (sb 7 rfl (sb 4 rfl (sb 3 rfl (sb 2 rfl (sb 10 rfl sb0))))))))))))))))))))))
  refine QF.rcn (sb 58 rfl (sb 42 rfl (sb 41 rfl (sb 40 rfl (sb 39 rfl (sb 38 rfl (sb 37 rfl (sb 36 rfl (sb 35 rfl (sb 34 rfl (sb 33 rfl (sb 30 rfl (sb 29 rfl (sb 28 rfl (sb 27 rfl (sb 9 rfl (sb 8 rfl (sb 7 rfl (sb 4 rfl (sb 3 rfl (sb 2 rfl (sb 10 rfl sb0)))))))))))))))))))))) fun h99 hs100 e101 => ?_
  refine WF.if_ rfl (fun c102 => ?_) (fun c102 => ?_)
  · skip
    replace c102 : (((!(eqC [.int .i64 ((gt (runL t sights sights.length) ((k : Int))).Level), .int .i64 ((gt (runL t sights sights.length) ((k : Int))).Calm), .int .i64 ((gt (runL t sights sights.length) ((k : Int))).Then)] [.int .i64 ((gt (runL t sights sights.length) ((k : Int))).Level), .int .i64 ((gt (runL t sights sights.length) ((k : Int))).Calm), .int .i64 ((gt (runL t sights sights.length) ((k : Int))).Then)])) = true) ∨ ((!(eqC [.int .i64 ((nxt t a (gt sights ((k : Int)))).Level), .int .i64 ((nxt t a (gt sights ((k : Int)))).Calm), .int .i64 ((nxt t a (gt sights ((k : Int)))).Then)] [.int .i64 ((nxt t a (gt sights ((k : Int)))).Level), .int .i64 ((nxt t a (gt sights ((k : Int)))).Calm), .int .i64 ((nxt t a (gt sights ((k : Int)))).Then)])) = true)) := by simpa using c102
    refine WF.seq ?_
    refine WF.rp (.inl rfl) ?_
    refine QF.as_ rfl rfl ?_
    refine QF.rpn (sb 6 rfl (sb 58 rfl (sb 42 rfl (sb 41 rfl (sb 40 rfl (sb 39 rfl (sb 38 rfl (sb 37 rfl (sb 36 rfl (sb 35 rfl (sb 34 rfl (sb 33 rfl (sb 30 rfl (sb 29 rfl (sb 28 rfl (sb 27 rfl (sb 9 rfl (sb 8 rfl (sb 7 rfl (sb 4 rfl (sb 3 rfl (sb 2 rfl (sb 10 rfl sb0))))))))))))))))))))))) ?_
    refine WF.ret (fun aa ww hf hw => ?_)
    have q103 : (false : Bool) = true := by first | rfl | (simp_all [eqC, eqV]; done)
    exact rtg hf rfl hw (rvc (rvT hf (v := _) rfl) rv0) rfl (e5.trans (e12.trans (e17.trans (e29.trans (e38.trans (e47.trans e101)))))) ⟨(congrArg Value.bool q103), ((hs100.drop .head).drop .head)⟩
  replace c102 : ¬ (((!(eqC [.int .i64 ((gt (runL t sights sights.length) ((k : Int))).Level), .int .i64 ((gt (runL t sights sights.length) ((k : Int))).Calm), .int .i64 ((gt (runL t sights sights.length) ((k : Int))).Then)] [.int .i64 ((gt (runL t sights sights.length) ((k : Int))).Level), .int .i64 ((gt (runL t sights sights.length) ((k : Int))).Calm), .int .i64 ((gt (runL t sights sights.length) ((k : Int))).Then)])) = true) ∨ ((!(eqC [.int .i64 ((nxt t a (gt sights ((k : Int)))).Level), .int .i64 ((nxt t a (gt sights ((k : Int)))).Calm), .int .i64 ((nxt t a (gt sights ((k : Int)))).Then)] [.int .i64 ((nxt t a (gt sights ((k : Int)))).Level), .int .i64 ((nxt t a (gt sights ((k : Int)))).Calm), .int .i64 ((nxt t a (gt sights ((k : Int)))).Then)])) = true)) := by simpa using c102
  refine WF.skip ?_
  refine WF.nilW ?_
  refine WF.rp (.inl rfl) ?_
  refine QF.mv rfl rfl ?_
  have r104 : inI64 (((k : Int)) + 1) := by unfold inI64 at *; omega
  refine QF.add rfl rfl rfl r104 ?_
  refine QF.as_ rfl rfl ?_
  refine QF.rpn (sb 10 rfl (sb 32 rfl (sb 31 rfl (sb 58 rfl (sb 42 rfl (sb 41 rfl (sb 40 rfl (sb 39 rfl (sb 38 rfl (sb 37 rfl (sb 36 rfl (sb 35 rfl (sb 34 rfl (sb 33 rfl (sb 30 rfl (sb 29 rfl (sb 28 rfl (sb 27 rfl (sb 9 rfl (sb 8 rfl (sb 7 rfl (sb 4 rfl (sb 3 rfl (sb 2 rfl sb0)))))))))))))))))))))))) ?_
  refine WF.nil (fun aa ww hf hw => ?_)
  refine ⟨_, _, ?_, hw, ?_, (e47.trans e101), (by simp [runL] at *; omega)⟩
  · refine cast (congrArg (Fr _ aa) ?_) (hf.sub (sb 9 rfl (sb 8 rfl (sb 7 rfl (sb 4 rfl (sb 3 rfl (sb 2 rfl (sb 10 rfl sb0))))))) : Fr _ aa [(9, v35), (8, v26), (7, .bool (true)), (4, q8), (3, q1), (2, v_sights), (10, .int .i64 (((k : Int)) + 1))])
    simp
  · refine cast (congrArg (fun l => St _ l _) ?_) hs100
    rfl

theorem opens_9 : Opens Try.prog 9 Rep.str := opens_str (by kernel_rfl) Try.underlying9
theorem opens_3 : Opens Try.prog 3 Rep.int := opens_int (by kernel_rfl) Try.underlying3
theorem opens_23 : Opens Try.prog 23 RGTown := by
  have hc : Try.prog.cellsOf 23 = 7 := by kernel_rfl
  refine ⟨hc, fun {H enc w base spare held fuel cs x} h => ?_⟩
  obtain ⟨hl, hf⟩ := open_fields Try.underlying23 h
  rw [hc] at hl
  match cs, hl with
  | [c0, c1, c2, c3, c4, c5, c6], _ =>
    obtain ⟨y0, k0⟩ := hf 0 _ Rep.str rfl opens_9
    obtain ⟨e0, r0⟩ := k0
    obtain rfl : c0 = _ := (List.cons.inj (show [c0] = _ from e0)).1
    obtain ⟨y1, k1⟩ := hf 1 _ Rep.int rfl opens_3
    obtain ⟨e1, r1⟩ := k1
    obtain rfl : c1 = _ := (List.cons.inj (show [c1] = _ from e1)).1
    obtain ⟨y2, k2⟩ := hf 2 _ Rep.int rfl opens_3
    obtain ⟨e2, r2⟩ := k2
    obtain rfl : c2 = _ := (List.cons.inj (show [c2] = _ from e2)).1
    obtain ⟨y3, k3⟩ := hf 3 _ Rep.int rfl opens_3
    obtain ⟨e3, r3⟩ := k3
    obtain rfl : c3 = _ := (List.cons.inj (show [c3] = _ from e3)).1
    obtain ⟨y4, k4⟩ := hf 4 _ Rep.int rfl opens_3
    obtain ⟨e4, r4⟩ := k4
    obtain rfl : c4 = _ := (List.cons.inj (show [c4] = _ from e4)).1
    obtain ⟨y5, k5⟩ := hf 5 _ Rep.int rfl opens_3
    obtain ⟨e5, r5⟩ := k5
    obtain rfl : c5 = _ := (List.cons.inj (show [c5] = _ from e5)).1
    obtain ⟨y6, k6⟩ := hf 6 _ Rep.int rfl opens_3
    obtain ⟨e6, r6⟩ := k6
    obtain rfl : c6 = _ := (List.cons.inj (show [c6] = _ from e6)).1
    exact ⟨⟨y0, y1, y2, y3, y4, y5, y6⟩, ⟨rfl, ⟨r0, r1, r2, r3, r4, r5, r6⟩⟩⟩
theorem opens_25 : Opens Try.prog 25 RGAlarm := by
  have hc : Try.prog.cellsOf 25 = 3 := by kernel_rfl
  refine ⟨hc, fun {H enc w base spare held fuel cs x} h => ?_⟩
  obtain ⟨hl, hf⟩ := open_fields Try.underlying25 h
  rw [hc] at hl
  match cs, hl with
  | [c0, c1, c2], _ =>
    obtain ⟨y0, k0⟩ := hf 0 _ Rep.int rfl opens_3
    obtain ⟨e0, r0⟩ := k0
    obtain rfl : c0 = _ := (List.cons.inj (show [c0] = _ from e0)).1
    obtain ⟨y1, k1⟩ := hf 1 _ Rep.int rfl opens_3
    obtain ⟨e1, r1⟩ := k1
    obtain rfl : c1 = _ := (List.cons.inj (show [c1] = _ from e1)).1
    obtain ⟨y2, k2⟩ := hf 2 _ Rep.int rfl opens_3
    obtain ⟨e2, r2⟩ := k2
    obtain rfl : c2 = _ := (List.cons.inj (show [c2] = _ from e2)).1
    exact ⟨⟨y0, y1, y2⟩, ⟨rfl, ⟨r0, r1, r2⟩⟩⟩
theorem opens_4 : Opens Try.prog 4 Rep.bool := opens_bool (by kernel_rfl) Try.underlying4
theorem opens_32 : Opens Try.prog 32 RGSight := by
  have hc : Try.prog.cellsOf 32 = 2 := by kernel_rfl
  refine ⟨hc, fun {H enc w base spare held fuel cs x} h => ?_⟩
  obtain ⟨hl, hf⟩ := open_fields Try.underlying32 h
  rw [hc] at hl
  match cs, hl with
  | [c0, c1], _ =>
    obtain ⟨y0, k0⟩ := hf 0 _ Rep.int rfl opens_3
    obtain ⟨e0, r0⟩ := k0
    obtain rfl : c0 = _ := (List.cons.inj (show [c0] = _ from e0)).1
    obtain ⟨y1, k1⟩ := hf 1 _ Rep.bool rfl opens_4
    obtain rfl : c1 = _ := (List.cons.inj (show [c1] = _ from k1)).1
    exact ⟨⟨y0, y1⟩, ⟨rfl, r0⟩⟩
theorem opens_26 : Opens Try.prog 26 (Rep.sl RGSight) := opens_sl (by kernel_rfl) Try.underlying26 opens_32 rfl

set_option maxRecDepth 100000 in
theorem tells_holds_lifted (os : Os) (started : os.Started) (H : Type) (enc : TypeId × Value → H) :
    ReturnsInHanded {} Try.checked os 3 .any (Rows.alarmTellsSpec.pre6 enc Try.prog Try.f3 Rows.alarmTellsRow.domain false) (Rows.alarmTellsSpec.post enc Try.prog Try.f3 false true false false) := by
  refine returnsInHanded_of_change (C := Try.checked) (by kernel_rfl) started (by kernel_rfl) Try.func3
    (ChangeSpec.witness6 (enc := enc) (C := Try.checked) false ⟨#[], #[.agg #[.string ByteArray.empty, .int .i64 0, .int .i64 0, .int .i64 0, .int .i64 0, .int .i64 0, .int .i64 0], .agg #[.int .i64 0, .int .i64 0, .int .i64 0], .slice none 0 0], []⟩ 8 (by kernel_rfl) (by kernel_rfl) (by kernel_rfl) (by kernel_rfl)) ?_
  intro W base args ds gs before hval0 hW hcnd _
  have hval : ∀ (j : Nat) t v, Try.f3.params[j]? = some t → args[j]? = some v → Value.okWide Try.prog W .any base t v := hval0
  have hW' := hW
  obtain ⟨p, q, hA0, hV, rfl, hfz, hnd⟩ := hW
  have hA : DataW.TrodAll enc Try.prog W 0 (fun _ => true) true Try.f3.params.toList args.toList ds p := hA0
  rw [Try.params3] at hA hval
  obtain ⟨v0, vs0, d0, ds0, p0, q0, ha0, rfl, rfl, h0, r0⟩ := trodAll_cons hA
  obtain ⟨v1, vs1, d1, ds1, p1, q1, rfl, rfl, rfl, h1, r1⟩ := trodAll_cons r0
  obtain ⟨v2, vs2, d2, ds2, p2, q2, rfl, rfl, rfl, h2, r2⟩ := trodAll_cons r1
  obtain ⟨rfl, rfl, rfl⟩ := trodAll_nil r2
  obtain rfl : args = #[v0, v1, v2] := by cases args; simp_all
  obtain ⟨rfl, rfl⟩ := trodVars_none hV
  obtain ⟨x0, k0⟩ := arg_st opens_23 rfl Try.underlying23 (hval 0 23 v0 rfl rfl) h0
  obtain ⟨x1, k1⟩ := arg_st opens_25 rfl Try.underlying25 (hval 1 25 v1 rfl rfl) h1
  obtain ⟨x2, k2⟩ := arg_one opens_26 rfl rfl (ne_slice Try.underlying26 (hval 2 26 v2 rfl rfl)) h2
  refine (law_calls (tells_ret (St.all W.heap) k0 k1 k2.sl)).mono fun e W' ⟨he, hb⟩ => ⟨_, he, ?_⟩
  exact law_post (tb := 4) (by kernel_rfl) (by kernel_rfl) hW' (by kernel_rfl) Try.underlying4 rfl rfl rfl rfl hb

theorem tells_holds : Rows.AlarmTellsSaid :=
  OpenClaim.holds_of_wide 3 Try.f3 rfl rfl rfl rfl rfl rfl rfl ⟨rfl, rfl, rfl, rfl, rfl⟩ rfl rfl rfl rfl rfl (by kernel_rfl) Try.func3 (by kernel_rfl)
    (of_decide_eq_true (by kernel_rfl)) (by unfold Func.isWrapper; first | (rw [if_pos (by decide +kernel)]; kernel_rfl) | (rw [if_neg (by decide +kernel)]; exact ⟨rfl, rfl⟩))
    (fun os started H enc _ => tells_holds_lifted os started H enc)
end tells
end Go.Proofs.Ytgnjppialaajcaa
