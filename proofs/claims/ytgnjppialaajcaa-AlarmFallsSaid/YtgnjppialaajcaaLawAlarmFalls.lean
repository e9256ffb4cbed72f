/- The law AlarmFalls holds for every input. No conditions. -/
import Derived.Test.YtgnjppialaajcaaAlarm1
import Derived.Test.YtgnjppialaajcaaCore9
namespace Go.Proofs.Ytgnjppialaajcaa
open Go.ChangeShapes Go.WideShapes Go.ChangeAt Go.RowKit
set_option linter.unusedSimpArgs false
set_option linter.unusedVariables false

namespace falls
set_option maxRecDepth 10000 in
theorem falls_ret {S : Nat → Prop} {L : List HP} {h : Heap} (hs : St S L h) {v_t : Value} {t : GTown} (h_t : Rd S h RGTown v_t t) {v_sights : Value} {sights : (List GSight)} (h_sights : Sl S h RGSight v_sights sights) :
    Ret Try.prog 5 #[v_t, v_sights] S h (fun v S' h' => v = .bool true ∧ St S' (L) h') := by
  refine Ret.go (l := [v_t, v_sights]) 125 Try.func5 rfl Try.ntmps5 rfl fun B => ?_
  refine WF.seq ?_
  refine WF.rl ?_
  refine LF.boxp rfl h_t (fun e => by cases e) rfl hs fun q1 S2 h3 hs4 e5 k6 => ?_
  refine LF.q 1 ?_
  refine QF.as_ rfl rfl ?_
  refine QF.ln ?_
  refine LF.nil (sb 4 rfl (sb 2 rfl (sb 1 rfl sb0))) ?_
  refine WF.seq ?_
  refine WF.rc (.inl rfl) hs4 ?_
  refine QF.callp (v := .bool (true)) (Ψ := True) rfl rfl rfl ca_6 rfl (fun h' o => (small_ret (St.all h')).mono fun _ _ _ _ p => ⟨p.1, trivial⟩) fun r7 => ?_
  refine QF.as_ rfl rfl ?_
  refine QF.rcn (sb 5 rfl (sb 4 rfl (sb 2 rfl (sb 1 rfl sb0)))) fun h8 hs9 e10 => ?_
  refine WF.seq ?_
  refine WF.seq ?_
  refine WF.rp (.inl rfl) ?_
  refine QF.mv rfl rfl ?_
  have k11 := h_sights.mono' (e5.trans e10)
  refine QF.len rfl k11 sl_26 rfl fun b12 => ?_
  unfold maxLen at b12
  refine QF.gtr rfl rfl rfl ?_
  refine QF.rp0 ?_
  refine WF.ifp rfl (fun c13 => ?_) (fun c13 => ?_)
  · skip
    refine WF.seq ?_
    refine WF.rp (.inl rfl) ?_
    refine QF.mv rfl rfl ?_
    refine QF.as_ rfl rfl ?_
    refine QF.rpn (sb 4 rfl (sb 5 rfl (sb 2 rfl (sb 1 rfl sb0)))) ?_
    refine WF.ret (fun aa ww hf hw => ?_)
    have q14 : ((true) : Bool) = true := by first | rfl | (exfalso; simp_all [runL]; done)
    exact rtg hf rfl hw (rvc (rvT hf (v := _) rfl) rv0) rfl (e5.trans e10) ⟨(congrArg Value.bool q14), hs9⟩
  refine WF.skip ?_
  refine WF.seq ?_
  refine WF.rl ?_
  refine LF.q 2 ?_
  have k15 := k6.mono e10
  refine QF.ld ckP hs9.1 rfl k15 ty_23 (fun e => by cases e) rfl fun v16 k17 => ?_
  refine QF.mv rfl rfl ?_
  refine QF.ln ?_
  have k18 := h_sights.mono' (e5.trans e10)
  refine LF.call rfl rfl rfl ca_7 rfl (run_ret hs9 k17 k18 (by omega)) fun v19 S20 h21 e22 p => ?_
  have hs23 := p
  refine LF.q 1 ?_
  refine QF.as_ rfl rfl ?_
  refine QF.ln ?_
  refine LF.nil (sb 6 rfl (sb 5 rfl (sb 4 rfl (sb 2 rfl (sb 1 rfl sb0))))) ?_
  refine WF.seq ?_
  refine WF.seq ?_
  refine WF.rp (.inl rfl) ?_
  refine QF.mv rfl rfl ?_
  refine QF.leno hs23 mh rfl sl_28 rfl fun b24 => ?_
  unfold maxLen at b24
  refine QF.mv rfl rfl ?_
  have k25 := h_sights.mono' (e5.trans (e10.trans e22))
  refine QF.len rfl k25 sl_26 rfl fun b26 => ?_
  unfold maxLen at b26
  refine QF.neq rfl rfl rfl ?_
  refine QF.rpn (sb 23 rfl (sb 6 rfl (sb 5 rfl (sb 4 rfl (sb 2 rfl (sb 1 rfl sb0)))))) ?_
  refine WF.ifp rfl (fun c27 => ?_) (fun c27 => ?_)
  · skip
    refine WF.seq ?_
    refine WF.rp (.inl rfl) ?_
    refine QF.as_ rfl rfl ?_
    refine QF.rpn (sb 4 rfl (sb 6 rfl (sb 5 rfl (sb 2 rfl (sb 1 rfl sb0))))) ?_
    refine WF.ret (fun aa ww hf hw => ?_)
    have q28 : (false : Bool) = true := by first | rfl | (exfalso; simp_all [runL]; done)
    exact rtg hf rfl hw (rvc (rvT hf (v := _) rfl) rv0) rfl (e5.trans (e10.trans e22)) ⟨(congrArg Value.bool q28), (hs23.drop .head)⟩
  refine WF.skip ?_
  refine WF.seq ?_
  refine WF.rp (.inl rfl) ?_
  refine QF.as_ rfl rfl ?_
  refine QF.rp0 ?_
  refine WF.seq ?_
  refine WF.seq ?_
  refine WF.rp (.inl rfl) ?_
  refine QF.as_ rfl rfl ?_
  refine QF.rp0 ?_
  refine WF.block ?_
  refine WF.loop (fun k a w => ∃ (S' : Nat → Prop) (h' : Heap), Fr 125 a [(6, v19), (5, .bool (true)), (2, q1), (1, v_sights), (8, .int .i64 ((k : Int))), (7, .int .i64 ((stA t sights k).Level))] ∧ Wd B h' w ∧ St S' (OS RGAlarm 25 v19 (runL t sights sights.length) :: L) h' ∧ Ext S20 h21 S' h' ∧ k ≤ sights.length) (sights.length) 0 ?_ (fun _ _ _ hh => ?_) ?_
  · intro aa ww hf hw
    exact ⟨_, _, hf.sub (sb 6 rfl (sb 5 rfl (sb 2 rfl (sb 1 rfl (sb 8 rfl (sb 7 rfl sb0)))))), hw, hs23, Ext.refl _ _, (by omega)⟩
  · obtain ⟨_, _, _, _, _, _, hT⟩ := hh; exact hT
  rintro k aa ww ⟨S29, h30, hf, hw, hs31, e32, kT33⟩
  refine WF.run ?_ hf hw
  clear hf hw ww aa
  have hlen : (((runL t sights sights.length).length : Nat) : Int) = (sights.length : Int) := by simp [runL]
  refine WF.seq ?_
  refine WF.seq ?_
  refine WF.rp (.inl rfl) ?_
  refine QF.mv rfl rfl ?_
  refine QF.mv rfl rfl ?_
  refine QF.leno hs31 mh rfl sl_28 rfl fun b34 => ?_
  unfold maxLen at b34
  refine QF.lss rfl rfl rfl ?_
  refine QF.rpn (sb 27 rfl (sb 26 rfl (sb 25 rfl (sb 24 rfl (sb 6 rfl (sb 5 rfl (sb 2 rfl (sb 1 rfl (sb 8 rfl (sb 7 rfl sb0)))))))))) ?_
  refine WF.ifp' rfl (fun c35 => ?_) (fun c35 => ?_)
  · skip
    refine WF.exitW rfl ?_
    refine WF.seq ?_
    refine WF.rp (.inl rfl) ?_
    refine QF.mv rfl rfl ?_
    refine QF.as_ rfl rfl ?_
    refine QF.rpn (sb 4 rfl sb0) ?_
    refine WF.ret (fun aa ww hf hw => ?_)
    have q36 : ((true) : Bool) = true := by first | rfl | (exfalso; simp_all [runL]; done)
    exact rtg hf rfl hw (rvc (rvT hf (v := _) rfl) rv0) rfl (e5.trans (e10.trans (e22.trans e32))) ⟨(congrArg Value.bool q36), (hs31.drop .head)⟩
  refine WF.skip ?_
  refine WF.seq ?_
  refine WF.block ?_
  refine WF.seq ?_
  refine WF.rc (.inr ⟨mo, by kernel_rfl⟩) hs31 ?_
  have k37 := k15.mono (e22.trans e32)
  refine QF.ld ckC hs31.1 rfl k37 ty_23 (fun e => by cases e) rfl fun v38 k39 => ?_
  refine QF.mv rfl rfl ?_
  refine QF.mv rfl rfl ?_
  have k40 := h_sights.mono' (e5.trans (e10.trans (e22.trans e32)))
  refine QF.ixg rfl rfl k40 sl_26 (by omega) (by omega) rfl fun q41 k42 => ?_
  refine QF.ld ckC hs31.1 rfl k42 ty_32 (fun e => by cases e) rfl fun v43 k44 => ?_
  refine QF.callp (v := .int .i64 (dem t (gt sights ((k : Int))))) (Ψ := inI64 (dem t (gt sights ((k : Int))))) rfl rfl rfl ca_11 rfl (fun h' o => (rdemand_ret (St.all h') (k39.mono (o.all hs31.1)) (k44.mono (o.all hs31.1))).mono fun _ _ _ _ p => ⟨p.1, p.2.1⟩) fun r45 => ?_
  refine QF.as_ rfl rfl ?_
  refine QF.rcn (sb 9 rfl (sb 35 rfl (sb 34 rfl (sb 33 rfl (sb 32 rfl (sb 31 rfl (sb 30 rfl (sb 27 rfl (sb 26 rfl (sb 25 rfl (sb 24 rfl (sb 6 rfl (sb 5 rfl (sb 2 rfl (sb 1 rfl (sb 8 rfl (sb 7 rfl sb0))))))))))))))))) fun h46 hs47 e48 => ?_
  refine WF.seq ?_
  refine WF.seq ?_
  refine WF.rp (.inl rfl) ?_
  refine QF.mv rfl rfl ?_
  refine QF.mv rfl rfl ?_
  refine QF.ixog hs47 mh rfl rfl sl_28 (by omega) (by omega) rfl fun q49 k50 ep51 => ?_
  refine QF.fa rfl k50 GAlarm.f_Level fa_25_0 rfl fun q52 k53 => ?_
  refine QF.ldi ckP (fun _ x => x) rfl k53 ty_3 rfl fun r54 => ?_
  refine QF.mv rfl rfl ?_
  refine QF.gtr rfl rfl rfl ?_
  refine QF.mv rfl rfl ?_
  refine QF.cutv 8 51 (.bool ((decide (((stA t sights k).Level) < ((gt (runL t sights sights.length) ((k : Int))).Level))) && (decide (((gt (runL t sights sights.length) ((k : Int))).Level) ≠ (dem t (gt sights ((k : Int)))))))) ?_ ?_
  · cases c55 : (decide (((stA t sights k).Level) < ((gt (runL t sights sights.length) ((k : Int))).Level)))
    · skip
      have c55p := of_decide_eq_false c55
      refine QF.gnF rfl rfl rfl rfl rfl ?_
      refine QF.gnF rfl rfl rfl rfl rfl ?_
      refine QF.gnF rfl rfl rfl rfl rfl ?_
      refine QF.gnF rfl rfl rfl rfl rfl ?_
      refine QF.gnF rfl rfl rfl rfl rfl ?_
      refine QF.gnF rfl rfl rfl rfl rfl ?_
      refine QF.gnF rfl rfl rfl rfl rfl ?_
      refine QF.pick rfl rfl rfl ?_
      exact QF.cutn (sb 51 rfl (sb 43 rfl (sb 42 rfl (sb 41 rfl (sb 40 rfl (sb 39 rfl (sb 38 rfl (sb 37 rfl (sb 36 rfl (sb 9 rfl (sb 35 rfl (sb 34 rfl (sb 33 rfl (sb 32 rfl (sb 31 rfl (sb 30 rfl (sb 27 rfl (sb 26 rfl (sb 25 rfl (sb 24 rfl (sb 6 rfl (sb 5 rfl (sb 2 rfl (sb 1 rfl (sb 8 rfl (sb 7 rfl sb0))))))))))))))))))))))))))
    · skip
      have c55p := of_decide_eq_true c55
      refine QF.gy rfl rfl rfl ?_
      refine QF.mv rfl rfl ?_
      refine QF.gy rfl rfl rfl ?_
      refine QF.mv rfl rfl ?_
      refine QF.gy rfl rfl rfl ?_
      refine QF.ixog hs47 mh rfl rfl sl_28 (by omega) (by omega) rfl fun q56 k57 ep58 => ?_
      refine QF.gy rfl rfl rfl ?_
      refine QF.fa rfl k57 GAlarm.f_Level fa_25_0 rfl fun q59 k60 => ?_
      refine QF.gy rfl rfl rfl ?_
      refine QF.ldi ckP (fun _ x => x) rfl k60 ty_3 rfl fun r61 => ?_
      refine QF.gy rfl rfl rfl ?_
      refine QF.mv rfl rfl ?_
      refine QF.gy rfl rfl rfl ?_
      refine QF.neq rfl rfl rfl ?_
      refine QF.pick rfl rfl rfl ?_
      exact QF.cutn (sb 51 rfl (sb 43 rfl (sb 42 rfl (sb 41 rfl (sb 40 rfl (sb 39 rfl (sb 38 rfl (sb 37 rfl (sb 36 rfl (sb 9 rfl (sb 35 rfl (sb 34 rfl (sb 33 rfl (sb 32 rfl (sb 31 rfl (sb 30 rfl (sb 27 rfl (sb 26 rfl (sb 25 rfl (sb 24 rfl (sb 6 rfl (sb 5 rfl (sb 2 rfl (sb 1 rfl (sb 8 rfl (sb 7 rfl sb0))))))))))))))))))))))))))
  refine QF.rpn (sb 51 rfl (sb 43 rfl (sb 42 rfl (sb 41 rfl (sb 40 rfl (sb 39 rfl (sb 38 rfl (sb 37 rfl (sb 36 rfl (sb 9 rfl (sb 35 rfl (sb 34 rfl (sb 33 rfl (sb 32 rfl (sb 31 rfl (sb 30 rfl (sb 27 rfl (sb 26 rfl (sb 25 rfl (sb 24 rfl (sb 6 rfl (sb 5 rfl (sb 2 rfl (sb 1 rfl (sb 8 rfl (sb 7 rfl sb0)))))))))))))))))))))))))) ?_
  refine WF.if_ rfl (fun c62 => ?_) (fun c62 => ?_)
  · skip
    replace c62 : ((((stA t sights k).Level) < ((gt (runL t sights sights.length) ((k : Int))).Level)) ∧ (((gt (runL t sights sights.length) ((k : Int))).Level) ≠ (dem t (gt sights ((k : Int)))))) := by simpa using c62
    refine WF.seq ?_
    refine WF.rp (.inl rfl) ?_
    refine QF.as_ rfl rfl ?_
    refine QF.rpn (sb 4 rfl (sb 51 rfl (sb 43 rfl (sb 42 rfl (sb 41 rfl (sb 40 rfl (sb 39 rfl (sb 38 rfl (sb 37 rfl (sb 36 rfl (sb 9 rfl (sb 35 rfl (sb 34 rfl (sb 33 rfl (sb 32 rfl (sb 31 rfl (sb 30 rfl (sb 27 rfl (sb 26 rfl (sb 25 rfl (sb 24 rfl (sb 6 rfl (sb 5 rfl (sb 2 rfl (sb 1 rfl (sb 8 rfl (sb 7 rfl sb0))))))))))))))))))))))))))) ?_
    refine WF.ret (fun aa ww hf hw => ?_)
    have q63 : (false : Bool) = true := by exfalso; exact falls_1 t (by omega) c62
    exact rtg hf rfl hw (rvc (rvT hf (v := _) rfl) rv0) rfl (e5.trans (e10.trans (e22.trans (e32.trans e48)))) ⟨(congrArg Value.bool q63), (hs47.drop .head)⟩
  replace c62 : ¬ ((((stA t sights k).Level) < ((gt (runL t sights sights.length) ((k : Int))).Level)) ∧ (((gt (runL t sights sights.length) ((k : Int))).Level) ≠ (dem t (gt sights ((k : Int)))))) := by simpa using c62
  refine WF.skip ?_
  refine WF.seq ?_
  refine WF.seq ?_
  refine WF.rp (.inl rfl) ?_
  refine QF.mv rfl rfl ?_
  refine QF.mv rfl rfl ?_
  refine QF.ixog hs47 mh rfl rfl sl_28 (by omega) (by omega) rfl fun q64 k65 ep66 => ?_
  refine QF.fa rfl k65 GAlarm.f_Level fa_25_0 rfl fun q67 k68 => ?_
  refine QF.ldi ckP (fun _ x => x) rfl k68 ty_3 rfl fun r69 => ?_
  refine QF.mv rfl rfl ?_
  refine QF.lss rfl rfl rfl ?_
  refine QF.rpn (sb 58 rfl (sb 57 rfl (sb 56 rfl (sb 55 rfl (sb 54 rfl (sb 53 rfl (sb 52 rfl (sb 51 rfl (sb 43 rfl (sb 42 rfl (sb 41 rfl (sb 40 rfl (sb 39 rfl (sb 38 rfl (sb 37 rfl (sb 36 rfl (sb 9 rfl (sb 35 rfl (sb 34 rfl (sb 33 rfl (sb 32 rfl (sb 31 rfl (sb 30 rfl (sb 27 rfl (sb 26 rfl (sb 25 rfl (sb 24 rfl (sb 6 rfl (sb 5 rfl (sb 2 rfl (sb 1 rfl (sb 8 rfl (sb 7 rfl sb0))))))))))))))))))))))))))))))))) ?_
  refine WF.ifp rfl (fun c70 => ?_) (fun c70 => ?_)
  · skip
    refine WF.seq ?_
    refine WF.seq ?_
    refine WF.rp (.inl rfl) ?_
    refine QF.mv rfl rfl ?_
    refine QF.lss rfl rfl rfl ?_
    refine QF.rpn (sb 60 rfl (sb 59 rfl (sb 58 rfl (sb 57 rfl (sb 56 rfl (sb 55 rfl (sb 54 rfl (sb 53 rfl (sb 52 rfl (sb 51 rfl (sb 43 rfl (sb 42 rfl (sb 41 rfl (sb 40 rfl (sb 39 rfl (sb 38 rfl (sb 37 rfl (sb 36 rfl (sb 9 rfl (sb 35 rfl (sb 34 rfl (sb 33 rfl (sb 32 rfl (sb 31 rfl (sb 30 rfl (sb 27 rfl (sb 26 rfl (sb 25 rfl (sb 24 rfl (sb 6 rfl (sb 5 rfl (sb 2 rfl (sb 1 rfl (sb 8 rfl (sb 7 rfl sb0))))))))))))))))))))))))))))))))))) ?_
    refine WF.ifp rfl (fun c71 => ?_) (fun c71 => ?_)
    · skip
      refine WF.seq ?_
      refine WF.rp (.inl rfl) ?_
      refine QF.as_ rfl rfl ?_
      refine QF.rpn (sb 4 rfl (sb 60 rfl (sb 59 rfl (sb 58 rfl (sb 57 rfl (sb 56 rfl (sb 55 rfl (sb 54 rfl (sb 53 rfl (sb 52 rfl (sb 51 rfl (sb 43 rfl (sb 42 rfl (sb 41 rfl (sb 40 rfl (sb 39 rfl (sb 38 rfl (sb 37 rfl (sb 36 rfl (sb 9 rfl (sb 35 rfl (sb 34 rfl (sb 33 rfl (sb 32 rfl (sb 31 rfl (sb 30 rfl (sb 27 rfl (sb 26 rfl (sb 25 rfl (sb 24 rfl (sb 6 rfl (sb 5 rfl (sb 2 rfl (sb 1 rfl (sb 8 rfl (sb 7 rfl sb0)))))))))))))))))))))))))))))))))))) ?_
      refine WF.ret (fun aa ww hf hw => ?_)
      have q72 : (false : Bool) = true := by exfalso; exact falls_2 t (by omega) c70 c71
      exact rtg hf rfl hw (rvc (rvT hf (v := _) rfl) rv0) rfl (e5.trans (e10.trans (e22.trans (e32.trans e48)))) ⟨(congrArg Value.bool q72), (hs47.drop .head)⟩
    refine WF.skip ?_
    refine WF.seq ?_
    refine WF.rc (.inr ⟨mo, by kernel_rfl⟩) hs47 ?_
    refine QF.mv rfl rfl ?_
    have k73 := k37.mono e48
    refine QF.ld ckC hs47.1 rfl k73 ty_23 (fun e => by cases e) rfl fun v74 k75 => ?_
    refine QF.mv rfl rfl ?_
    refine QF.mv rfl rfl ?_
    have r76 : inI64 (((k : Int)) - 1) := by unfold inI64 at *; omega
    refine QF.sub_ rfl rfl rfl r76 ?_
    have k77 := h_sights.mono' (e5.trans (e10.trans (e22.trans (e32.trans e48))))
    refine QF.ixg rfl rfl k77 sl_26 (by omega) (by omega) rfl fun q78 k79 => ?_
    refine QF.ld ckC hs47.1 rfl k79 ty_32 (fun e => by cases e) rfl fun v80 k81 => ?_
    refine QF.callp (v := .int .i64 (dem t (gt sights (((k : Int)) - 1)))) (Ψ := inI64 (dem t (gt sights (((k : Int)) - 1)))) rfl rfl rfl ca_11 rfl (fun h' o => (rdemand_ret (St.all h') (k75.mono (o.all hs47.1)) (k81.mono (o.all hs47.1))).mono fun _ _ _ _ p => ⟨p.1, p.2.1⟩) fun r82 => ?_
    refine QF.ld ckC hs47.1 rfl k73 ty_23 (fun e => by cases e) rfl fun v83 k84 => ?_
    refine QF.mv rfl rfl ?_
    refine QF.mv rfl rfl ?_
    have r85 : inI64 (((k : Int)) - 2) := by unfold inI64 at *; omega
    refine QF.sub_ rfl rfl rfl r85 ?_
    have k86 := h_sights.mono' (e5.trans (e10.trans (e22.trans (e32.trans e48))))
    refine QF.ixg rfl rfl k86 sl_26 (by omega) (by omega) rfl fun q87 k88 => ?_
    refine QF.ld ckC hs47.1 rfl k88 ty_32 (fun e => by cases e) rfl fun v89 k90 => ?_
    refine QF.callp (v := .int .i64 (dem t (gt sights (((k : Int)) - 2)))) (Ψ := inI64 (dem t (gt sights (((k : Int)) - 2)))) rfl rfl rfl ca_11 rfl (fun h' o => (rdemand_ret (St.all h') (k84.mono (o.all hs47.1)) (k90.mono (o.all hs47.1))).mono fun _ _ _ _ p => ⟨p.1, p.2.1⟩) fun r91 => ?_
    refine QF.max3 rfl rfl rfl rfl ?_
    refine QF.as_ rfl rfl ?_
    refine QF.rcn (sb 10 rfl (sb 76 rfl (sb 75 rfl (sb 74 rfl (sb 73 rfl (sb 72 rfl (sb 71 rfl (sb 70 rfl (sb 69 rfl (sb 68 rfl (sb 67 rfl (sb 66 rfl (sb 65 rfl (sb 64 rfl (sb 63 rfl (sb 62 rfl (sb 61 rfl (sb 60 rfl (sb 59 rfl (sb 58 rfl (sb 57 rfl (sb 56 rfl (sb 55 rfl (sb 54 rfl (sb 53 rfl (sb 52 rfl (sb 51 rfl (sb 43 rfl (sb 42 rfl (sb 41 rfl (sb 40 rfl (sb 39 rfl (sb 38 rfl (sb 37 rfl (sb 36 rfl (sb 9 rfl (sb 35 rfl (sb 34 rfl (sb 33 rfl (sb 32 rfl (sb 31 rfl (sb 30 rfl (sb 27 rfl (sb 26 rfl (sb 25 rfl (sb 24 rfl (sb 6 rfl (sb 5 rfl (sb 2 rfl (sb 1 rfl (sb 8 rfl (sb 7 rfl sb0)))))))))))))))))))))))))))))))))))))))))))))))))))) fun h92 hs93 e94 => ?_
    refine WF.seq ?_
    refine WF.rp (.inl rfl) ?_
    refine QF.mv rfl rfl ?_
    refine QF.mv rfl rfl ?_
    refine QF.geq rfl rfl rfl ?_
    refine QF.mv rfl rfl ?_
    refine QF.cutv 8 88 (.bool ((decide (((stA t sights k).Level) ≤ (max (max (dem t (gt sights ((k : Int)))) (dem t (gt sights (((k : Int)) - 1)))) (dem t (gt sights (((k : Int)) - 2)))))) || (decide (((gt (runL t sights sights.length) ((k : Int))).Level) ≠ (max (max (dem t (gt sights ((k : Int)))) (dem t (gt sights (((k : Int)) - 1)))) (dem t (gt sights (((k : Int)) - 2)))))))) ?_ ?_
    · cases c95 : (decide (((stA t sights k).Level) ≤ (max (max (dem t (gt sights ((k : Int)))) (dem t (gt sights (((k : Int)) - 1)))) (dem t (gt sights (((k : Int)) - 2))))))
      · skip
        have c95p := of_decide_eq_false c95
        refine QF.gy rfl rfl rfl ?_
        refine QF.mv rfl rfl ?_
        refine QF.gy rfl rfl rfl ?_
        refine QF.mv rfl rfl ?_
        refine QF.gy rfl rfl rfl ?_
        refine QF.ixog hs93 mh rfl rfl sl_28 (by omega) (by omega) rfl fun q96 k97 ep98 => ?_
        refine QF.gy rfl rfl rfl ?_
        refine QF.fa rfl k97 GAlarm.f_Level fa_25_0 rfl fun q99 k100 => ?_
        refine QF.gy rfl rfl rfl ?_
        refine QF.ldi ckP (fun _ x => x) rfl k100 ty_3 rfl fun r101 => ?_
        refine QF.gy rfl rfl rfl ?_
        refine QF.mv rfl rfl ?_
        refine QF.gy rfl rfl rfl ?_
        refine QF.neq rfl rfl rfl ?_
        refine QF.pick rfl rfl rfl ?_
        exact QF.cutn (sb 88 rfl (sb 80 rfl (sb 79 rfl (sb 78 rfl (sb 77 rfl (sb 10 rfl (sb 76 rfl (sb 75 rfl (sb 74 rfl (sb 73 rfl (sb 72 rfl (sb 71 rfl (sb 70 rfl (sb 69 rfl (sb 68 rfl (sb 67 rfl (sb 66 rfl (sb 65 rfl (sb 64 rfl (sb 63 rfl (sb 62 rfl (sb 61 rfl (sb 60 rfl (sb 59 rfl (sb 58 rfl (sb 57 rfl (sb 56 rfl (sb 55 rfl (sb 54 rfl (sb 53 rfl (sb 52 rfl (sb 51 rfl (sb 43 rfl (sb 42 rfl (sb 41 rfl (sb 40 rfl (sb 39 rfl (sb 38 rfl (sb 37 rfl (sb 36 rfl (sb 9 rfl (sb 35 rfl (sb 34 rfl (sb 33 rfl (sb 32 rfl (sb 31 rfl (sb 30 rfl (sb 27 rfl (sb 26 rfl (sb 25 rfl (sb 24 rfl (sb 6 rfl (sb 5 rfl (sb 2 rfl (sb 1 rfl (sb 8 rfl (sb 7 rfl sb0)))))))))))))))))))))))))))))))))))))))))))))))))))))))))
      · skip
        have c95p := of_decide_eq_true c95
        refine QF.gnT rfl rfl rfl rfl rfl ?_
        refine QF.gnT rfl rfl rfl rfl rfl ?_
        refine QF.gnT rfl rfl rfl rfl rfl ?_
        refine QF.gnT rfl rfl rfl rfl rfl ?_
        refine QF.gnT rfl rfl rfl rfl rfl ?_
        refine QF.gnT rfl rfl rfl rfl rfl ?_
        refine QF.gnT rfl rfl rfl rfl rfl ?_
        refine QF.pick rfl rfl rfl ?_
        exact QF.cutn (sb 88 rfl (sb 80 rfl (sb 79 rfl (sb 78 rfl (sb 77 rfl (sb 10 rfl (sb 76 rfl (sb 75 rfl (sb 74 rfl (sb 73 rfl (sb 72 rfl (sb 71 rfl (sb 70 rfl (sb 69 rfl (sb 68 rfl (sb 67 rfl (sb 66 rfl (sb 65 rfl (sb 64 rfl (sb 63 rfl (sb 62 rfl (sb 61 rfl (sb 60 rfl (sb 59 rfl (sb 58 rfl (sb 57 rfl (sb 56 rfl (sb 55 rfl (sb 54 rfl (sb 53 rfl (sb 52 rfl (sb 51 rfl (sb 43 rfl (sb 42 rfl (sb 41 rfl (sb 40 rfl (sb 39 rfl (sb 38 rfl (sb 37 rfl (sb 36 rfl (sb 9 rfl (sb 35 rfl (sb 34 rfl (sb 33 rfl (sb 32 rfl (sb 31 rfl (sb 30 rfl (sb 27 rfl (sb 26 rfl (sb 25 rfl (sb 24 rfl (sb 6 rfl (sb 5 rfl (sb 2 rfl (sb 1 rfl (sb 8 rfl (sb 7 rfl sb0)))))))))))))))))))))))))))))))))))))))))))))))))))))))))
    refine QF.mv rfl rfl ?_
    refine QF.cutv 9 98 (.bool (((decide (((stA t sights k).Level) ≤ (max (max (dem t (gt sights ((k : Int)))) (dem t (gt sights (((k : Int)) - 1)))) (dem t (gt sights (((k : Int)) - 2)))))) || (decide (((gt (runL t sights sights.length) ((k : Int))).Level) ≠ (max (max (dem t (gt sights ((k : Int)))) (dem t (gt sights (((k : Int)) - 1)))) (dem t (gt sights (((k : Int)) - 2))))))) || (decide (((gt (runL t sights sights.length) (((k : Int)) - 1)).Level) ≠ ((stA t sights k).Level))))) ?_ ?_
    · cases c102 : ((decide (((stA t sights k).Level) ≤ (max (max (dem t (gt sights ((k : Int)))) (dem t (gt sights (((k : Int)) - 1)))) (dem t (gt sights (((k : Int)) - 2)))))) || (decide (((gt (runL t sights sights.length) ((k : Int))).Level) ≠ (max (max (dem t (gt sights ((k : Int)))) (dem t (gt sights (((k : Int)) - 1)))) (dem t (gt sights (((k : Int)) - 2)))))))
      · skip
        have c102p : ¬ ((((stA t sights k).Level) ≤ (max (max (dem t (gt sights ((k : Int)))) (dem t (gt sights (((k : Int)) - 1)))) (dem t (gt sights (((k : Int)) - 2))))) ∨ (((gt (runL t sights sights.length) ((k : Int))).Level) ≠ (max (max (dem t (gt sights ((k : Int)))) (dem t (gt sights (((k : Int)) - 1)))) (dem t (gt sights (((k : Int)) - 2)))))) := by simpa using c102
        refine QF.gy rfl rfl rfl ?_
        refine QF.mv rfl rfl ?_
        refine QF.gy rfl rfl rfl ?_
        refine QF.mv rfl rfl ?_
        refine QF.gy rfl rfl rfl ?_
        have r103 : inI64 (((k : Int)) - 1) := by unfold inI64 at *; omega
        refine QF.sub_ rfl rfl rfl r103 ?_
        refine QF.gy rfl rfl rfl ?_
        refine QF.ixog hs93 mh rfl rfl sl_28 (by omega) (by omega) rfl fun q104 k105 ep106 => ?_
        refine QF.gy rfl rfl rfl ?_
        refine QF.fa rfl k105 GAlarm.f_Level fa_25_0 rfl fun q107 k108 => ?_
        refine QF.gy rfl rfl rfl ?_
        refine QF.ldi ckP (fun _ x => x) rfl k108 ty_3 rfl fun r109 => ?_
        refine QF.gy rfl rfl rfl ?_
        refine QF.mv rfl rfl ?_
        refine QF.gy rfl rfl rfl ?_
        refine QF.neq rfl rfl rfl ?_
        refine QF.pick rfl rfl rfl ?_
        exact QF.cutn (sb 98 rfl (sb 89 rfl (sb 88 rfl (sb 80 rfl (sb 79 rfl (sb 78 rfl (sb 77 rfl (sb 10 rfl (sb 76 rfl (sb 75 rfl (sb 74 rfl (sb 73 rfl (sb 72 rfl (sb 71 rfl (sb 70 rfl (sb 69 rfl (sb 68 rfl (sb 67 rfl (sb 66 rfl (sb 65 rfl (sb 64 rfl (sb 63 rfl (sb 62 rfl (sb 61 rfl (sb 60 rfl (sb 59 rfl (sb 58 rfl (sb 57 rfl (sb 56 rfl (sb 55 rfl (sb 54 rfl (sb 53 rfl (sb 52 rfl (sb 51 rfl (sb 43 rfl (sb 42 rfl (sb 41 rfl (sb 40 rfl (sb 39 rfl (sb 38 rfl (sb 37 rfl (sb 36 rfl (sb 9 rfl (sb 35 rfl (sb 34 rfl (sb 33 rfl (sb 32 rfl (sb 31 rfl (sb 30 rfl (sb 27 rfl (sb 26 rfl (sb 25 rfl (sb 24 rfl (sb 6 rfl (sb 5 rfl (sb 2 rfl (sb 1 rfl (sb 8 rfl (sb 7 rfl sb0)))))))))))))))))))))))))))))))))))))))))))))))))))))))))))
      · skip
        have c102p : ((((stA t sights k).Level) ≤ (max (max (dem t (gt sights ((k : Int)))) (dem t (gt sights (((k : Int)) - 1)))) (dem t (gt sights (((k : Int)) - 2))))) ∨ (((gt (runL t sights sights.length) ((k : Int))).Level) ≠ (max (max (dem t (gt sights ((k : Int)))) (dem t (gt sights (((k : Int)) - 1)))) (dem t (gt sights (((k : Int)) - 2)))))) := by simpa using c102
        refine QF.gnT rfl rfl rfl rfl rfl ?_
        refine QF.gnT rfl rfl rfl rfl rfl ?_
        refine QF.gnT rfl rfl rfl rfl rfl ?_
        refine QF.gnT rfl rfl rfl rfl rfl ?_
        refine QF.gnT rfl rfl rfl rfl rfl ?_
        refine QF.gnT rfl rfl rfl rfl rfl ?_
        refine QF.gnT rfl rfl rfl rfl rfl ?_
        refine QF.gnT rfl rfl rfl rfl rfl ?_
        refine QF.pick rfl rfl rfl ?_
        exact QF.cutn (sb 98 rfl (sb 89 rfl (sb 88 rfl (sb 80 rfl (sb 79 rfl (sb 78 rfl (sb 77 rfl (sb 10 rfl (sb 76 rfl (sb 75 rfl (sb 74 rfl (sb 73 rfl (sb 72 rfl (sb 71 rfl (sb 70 rfl (sb 69 rfl (sb 68 rfl (sb 67 rfl (sb 66 rfl (sb 65 rfl (sb 64 rfl (sb 63 rfl (sb 62 rfl (sb 61 rfl (sb 60 rfl (sb 59 rfl (sb 58 rfl (sb 57 rfl (sb 56 rfl (sb 55 rfl (sb 54 rfl (sb 53 rfl (sb 52 rfl (sb 51 rfl (sb 43 rfl (sb 42 rfl (sb 41 rfl (sb 40 rfl (sb 39 rfl (sb 38 rfl (sb 37 rfl (sb 36 rfl (sb 9 rfl (sb 35 rfl (sb 34 rfl (sb 33 rfl (sb 32 rfl (sb 31 rfl (sb 30 rfl (sb 27 rfl (sb 26 rfl (sb 25 rfl (sb 24 rfl (sb 6 rfl (sb 5 rfl (sb 2 rfl (sb 1 rfl (sb 8 rfl (sb 7 rfl sb0)))))))))))))))))))))))))))))))))))))))))))))))))))))))))))
    refine QF.mv rfl rfl ?_
    refine QF.cutv 9 108 (.bool ((((decide (((stA t sights k).Level) ≤ (max (max (dem t (gt sights ((k : Int)))) (dem t (gt sights (((k : Int)) - 1)))) (dem t (gt sights (((k : Int)) - 2)))))) || (decide (((gt (runL t sights sights.length) ((k : Int))).Level) ≠ (max (max (dem t (gt sights ((k : Int)))) (dem t (gt sights (((k : Int)) - 1)))) (dem t (gt sights (((k : Int)) - 2))))))) || (decide (((gt (runL t sights sights.length) (((k : Int)) - 1)).Level) ≠ ((stA t sights k).Level)))) || (decide (((gt (runL t sights sights.length) (((k : Int)) - 2)).Level) ≠ ((stA t sights k).Level))))) ?_ ?_
    · cases c110 : (((decide (((stA t sights k).Level) ≤ (max (max (dem t (gt sights ((k : Int)))) (dem t (gt sights (((k : Int)) - 1)))) (dem t (gt sights (((k : Int)) - 2)))))) || (decide (((gt (runL t sights sights.length) ((k : Int))).Level) ≠ (max (max (dem t (gt sights ((k : Int)))) (dem t (gt sights (((k : Int)) - 1)))) (dem t (gt sights (((k : Int)) - 2))))))) || (decide (((gt (runL t sights sights.length) (((k : Int)) - 1)).Level) ≠ ((stA t sights k).Level))))
      · skip
        have c110p : ¬ (((((stA t sights k).Level) ≤ (max (max (dem t (gt sights ((k : Int)))) (dem t (gt sights (((k : Int)) - 1)))) (dem t (gt sights (((k : Int)) - 2))))) ∨ (((gt (runL t sights sights.length) ((k : Int))).Level) ≠ (max (max (dem t (gt sights ((k : Int)))) (dem t (gt sights (((k : Int)) - 1)))) (dem t (gt sights (((k : Int)) - 2)))))) ∨ (((gt (runL t sights sights.length) (((k : Int)) - 1)).Level) ≠ ((stA t sights k).Level))) := by simpa using c110
        refine QF.gy rfl rfl rfl ?_
        refine QF.mv rfl rfl ?_
        refine QF.gy rfl rfl rfl ?_
        refine QF.mv rfl rfl ?_
        refine QF.gy rfl rfl rfl ?_
        have r111 : inI64 (((k : Int)) - 2) := by unfold inI64 at *; omega
        refine QF.sub_ rfl rfl rfl r111 ?_
        refine QF.gy rfl rfl rfl ?_
        refine QF.ixog hs93 mh rfl rfl sl_28 (by omega) (by omega) rfl fun q112 k113 ep114 => ?_
        refine QF.gy rfl rfl rfl ?_
        refine QF.fa rfl k113 GAlarm.f_Level fa_25_0 rfl fun q115 k116 => ?_
        refine QF.gy rfl rfl rfl ?_
        refine QF.ldi ckP (fun _ x => x) rfl k116 ty_3 rfl fun r117 => ?_
        refine QF.gy rfl rfl rfl ?_
        refine QF.mv rfl rfl ?_
        refine QF.gy rfl rfl rfl ?_
        refine QF.neq rfl rfl rfl ?_
        refine QF.pick rfl rfl rfl ?_
        exact QF.cutn (sb 108 rfl (sb 99 rfl (sb 98 rfl (sb 89 rfl (sb 88 rfl (sb 80 rfl (sb 79 rfl (sb 78 rfl (sb 77 rfl (sb 10 rfl (sb 76 rfl (sb 75 rfl (sb 74 rfl (sb 73 rfl (sb 72 rfl (sb 71 rfl (sb 70 rfl (sb 69 rfl (sb 68 rfl (sb 67 rfl (sb 66 rfl (sb 65 rfl (sb 64 rfl (sb 63 rfl (sb 62 rfl (sb 61 rfl (sb 60 rfl (sb 59 rfl (sb 58 rfl (sb 57 rfl (sb 56 rfl (sb 55 rfl (sb 54 rfl (sb 53 rfl (sb 52 rfl (sb 51 rfl (sb 43 rfl (sb 42 rfl (sb 41 rfl (sb 40 rfl (sb 39 rfl (sb 38 rfl (sb 37 rfl (sb 36 rfl (sb 9 rfl (sb 35 rfl (sb 34 rfl (sb 33 rfl (sb 32 rfl (sb 31 rfl (sb 30 rfl (sb 27 rfl (sb 26 rfl (sb 25 rfl (sb 24 rfl (sb 6 rfl (sb 5 rfl (sb 2 rfl (sb 1 rfl (sb 8 rfl (sb 7 rfl sb0)))))))))))))))))))))))))))))))))))))))))))))))))))))))))))))
      · skip
        have c110p : (((((stA t sights k).Level) ≤ (max (max (dem t (gt sights ((k : Int)))) (dem t (gt sights (((k : Int)) - 1)))) (dem t (gt sights (((k : Int)) - 2))))) ∨ (((gt (runL t sights sights.length) ((k : Int))).Level) ≠ (max (max (dem t (gt sights ((k : Int)))) (dem t (gt sights (((k : Int)) - 1)))) (dem t (gt sights (((k : Int)) - 2)))))) ∨ (((gt (runL t sights sights.length) (((k : Int)) - 1)).Level) ≠ ((stA t sights k).Level))) := by simpa using c110
        refine QF.gnT rfl rfl rfl rfl rfl ?_
        refine QF.gnT rfl rfl rfl rfl rfl ?_
        refine QF.gnT rfl rfl rfl rfl rfl ?_
        refine QF.gnT rfl rfl rfl rfl rfl ?_
        refine QF.gnT rfl rfl rfl rfl rfl ?_
        refine QF.gnT rfl rfl rfl rfl rfl ?_
        refine QF.gnT rfl rfl rfl rfl rfl ?_
        refine QF.gnT rfl rfl rfl rfl rfl ?_
        refine QF.pick rfl rfl rfl ?_
        exact QF.cutn (sb 108 rfl (sb 99 rfl (sb 98 rfl (sb 89 rfl (sb 88 rfl (sb 80 rfl (sb 79 rfl (sb 78 rfl (sb 77 rfl (sb 10 rfl (sb 76 rfl (sb 75 rfl (sb 74 rfl (sb 73 rfl (sb 72 rfl (sb 71 rfl (sb 70 rfl (sb 69 rfl (sb 68 rfl (sb 67 rfl (sb 66 rfl (sb 65 rfl (sb 64 rfl (sb 63 rfl (sb 62 rfl (sb 61 rfl (sb 60 rfl (sb 59 rfl (sb 58 rfl (sb 57 rfl (sb 56 rfl (sb 55 rfl (sb 54 rfl (sb 53 rfl (sb 52 rfl (sb 51 rfl (sb 43 rfl (sb 42 rfl (sb 41 rfl (sb 40 rfl (sb 39 rfl (sb 38 rfl (sb 37 rfl (sb 36 rfl (sb 9 rfl (sb 35 rfl (sb 34 rfl (sb 33 rfl (sb 32 rfl (sb 31 rfl (sb 30 rfl (sb 27 rfl (sb 26 rfl (sb 25 rfl (sb 24 rfl (sb 6 rfl (sb 5 rfl (sb 2 rfl (sb 1 rfl (sb 8 rfl (sb 7 rfl sb0)))))))))))))))))))))))))))))))))))))))))))))))))))))))))))))
    refine QF.mv rfl rfl ?_
    refine QF.cutv 9 118 (.bool (((((decide (((stA t sights k).Level) ≤ (max (max (dem t (gt sights ((k : Int)))) (dem t (gt sights (((k : Int)) - 1)))) (dem t (gt sights (((k : Int)) - 2)))))) || (decide (((gt (runL t sights sights.length) ((k : Int))).Level) ≠ (max (max (dem t (gt sights ((k : Int)))) (dem t (gt sights (((k : Int)) - 1)))) (dem t (gt sights (((k : Int)) - 2))))))) || (decide (((gt (runL t sights sights.length) (((k : Int)) - 1)).Level) ≠ ((stA t sights k).Level)))) || (decide (((gt (runL t sights sights.length) (((k : Int)) - 2)).Level) ≠ ((stA t sights k).Level)))) || (decide (((gt (runL t sights sights.length) (((k : Int)) - 3)).Level) ≠ ((stA t sights k).Level))))) ?_ ?_
    · cases c118 : ((((decide (((stA t sights k).Level) ≤ (max (max (dem t (gt sights ((k : Int)))) (dem t (gt sights (((k : Int)) - 1)))) (dem t (gt sights (((k : Int)) - 2)))))) || (decide (((gt (runL t sights sights.length) ((k : Int))).Level) ≠ (max (max (dem t (gt sights ((k : Int)))) (dem t (gt sights (((k : Int)) - 1)))) (dem t (gt sights (((k : Int)) - 2))))))) || (decide (((gt (runL t sights sights.length) (((k : Int)) - 1)).Level) ≠ ((stA t sights k).Level)))) || (decide (((gt (runL t sights sights.length) (((k : Int)) - 2)).Level) ≠ ((stA t sights k).Level))))
      · skip
        have c118p : ¬ ((((((stA t sights k).Level) ≤ (max (max (dem t (gt sights ((k : Int)))) (dem t (gt sights (((k : Int)) - 1)))) (dem t (gt sights (((k : Int)) - 2))))) ∨ (((gt (runL t sights sights.length) ((k : Int))).Level) ≠ (max (max (dem t (gt sights ((k : Int)))) (dem t (gt sights (((k : Int)) - 1)))) (dem t (gt sights (((k : Int)) - 2)))))) ∨ (((gt (runL t sights sights.length) (((k : Int)) - 1)).Level) ≠ ((stA t sights k).Level))) ∨ (((gt (runL t sights sights.length) (((k : Int)) - 2)).Level) ≠ ((stA t sights k).Level))) := by simpa using c118
        refine QF.gy rfl rfl rfl ?_
        refine QF.mv rfl rfl ?_
        refine QF.gy rfl rfl rfl ?_
        refine QF.mv rfl rfl ?_
        refine QF.gy rfl rfl rfl ?_
        have r119 : inI64 (((k : Int)) - 3) := by unfold inI64 at *; omega
        refine QF.sub_ rfl rfl rfl r119 ?_
        refine QF.gy rfl rfl rfl ?_
        refine QF.ixog hs93 mh rfl rfl sl_28 (by omega) (by omega) rfl fun q120 k121 ep122 => ?_
        refine QF.gy rfl rfl rfl ?_
        refine QF.fa rfl k121 GAlarm.f_Level fa_25_0 rfl fun q123 k124 => ?_
        refine QF.gy rfl rfl rfl ?_
        refine QF.ldi ckP (fun _ x => x) rfl k124 ty_3 rfl fun r125 => ?_
        refine QF.gy rfl rfl rfl ?_
        refine QF.mv rfl rfl ?_
        refine QF.gy rfl rfl rfl ?_
        refine QF.neq rfl rfl rfl ?_
        refine QF.pick rfl rfl rfl ?_
        exact QF.cutn (sb 118 rfl (sb 109 rfl (sb 108 rfl (sb 99 rfl (sb 98 rfl (sb 89 rfl (sb 88 rfl (sb 80 rfl (sb 79 rfl (sb 78 rfl (sb 77 rfl (sb 10 rfl (sb 76 rfl (sb 75 rfl (sb 74 rfl (sb 73 rfl (sb 72 rfl (sb 71 rfl (sb 70 rfl (sb 69 rfl (sb 68 rfl (sb 67 rfl (sb 66 rfl (sb 65 rfl (sb 64 rfl (sb 63 rfl (sb 62 rfl (sb 61 rfl (sb 60 rfl (sb 59 rfl (sb 58 rfl (sb 57 rfl (sb 56 rfl (sb 55 rfl (sb 54 rfl (sb 53 rfl (sb 52 rfl (sb 51 rfl (sb 43 rfl (sb 42 rfl (sb 41 rfl (sb 40 rfl (sb 39 rfl (sb 38 rfl (sb 37 rfl (sb 36 rfl (sb 9 rfl (sb 35 rfl (sb 34 rfl (sb 33 rfl (sb 32 rfl (sb 31 rfl (sb 30 rfl (sb 27 rfl (sb 26 rfl (sb 25 rfl (sb 24 rfl (sb 6 rfl (sb 5 rfl (sb 2 rfl (sb 1 rfl (sb 8 rfl (sb 7 rfl sb0)))))))))))))))))))))))))))))))))))))))))))))))))))))))))))))))
      · skip
        have c118p : ((((((stA t sights k).Level) ≤ (max (max (dem t (gt sights ((k : Int)))) (dem t (gt sights (((k : Int)) - 1)))) (dem t (gt sights (((k : Int)) - 2))))) ∨ (((gt (runL t sights sights.length) ((k : Int))).Level) ≠ (max (max (dem t (gt sights ((k : Int)))) (dem t (gt sights (((k : Int)) - 1)))) (dem t (gt sights (((k : Int)) - 2)))))) ∨ (((gt (runL t sights sights.length) (((k : Int)) - 1)).Level) ≠ ((stA t sights k).Level))) ∨ (((gt (runL t sights sights.length) (((k : Int)) - 2)).Level) ≠ ((stA t sights k).Level))) := by simpa using c118
        refine QF.gnT rfl rfl rfl rfl rfl ?_
        refine QF.gnT rfl rfl rfl rfl rfl ?_
        refine QF.gnT rfl rfl rfl rfl rfl ?_
        refine QF.gnT rfl rfl rfl rfl rfl ?_
        refine QF.gnT rfl rfl rfl rfl rfl ?_
        refine QF.gnT rfl rfl rfl rfl rfl ?_
        refine QF.gnT rfl rfl rfl rfl rfl ?_
        refine QF.gnT rfl rfl rfl rfl rfl ?_
        refine QF.pick rfl rfl rfl ?_
        exact QF.cutn (sb 118 rfl (sb 109 rfl (sb 108 rfl (sb 99 rfl (sb 98 rfl (sb 89 rfl (sb 88 rfl (sb 80 rfl (sb 79 rfl (sb 78 rfl (sb 77 rfl (sb 10 rfl (sb 76 rfl (sb 75 rfl (sb 74 rfl (sb 73 rfl (sb 72 rfl (sb 71 rfl (sb 70 rfl (sb 69 rfl (sb 68 rfl (sb 67 rfl (sb 66 rfl (sb 65 rfl (sb 64 rfl (sb 63 rfl (sb 62 rfl (sb 61 rfl (sb 60 rfl (sb 59 rfl (sb 58 rfl (sb 57 rfl (sb 56 rfl (sb 55 rfl (sb 54 rfl (sb 53 rfl (sb 52 rfl (sb 51 rfl (sb 43 rfl (sb 42 rfl (sb 41 rfl (sb 40 rfl (sb 39 rfl (sb 38 rfl (sb 37 rfl (sb 36 rfl (sb 9 rfl (sb 35 rfl (sb 34 rfl (sb 33 rfl (sb 32 rfl (sb 31 rfl (sb 30 rfl (sb 27 rfl (sb 26 rfl (sb 25 rfl (sb 24 rfl (sb 6 rfl (sb 5 rfl (sb 2 rfl (sb 1 rfl (sb 8 rfl (sb 7 rfl sb0)))))))))))))))))))))))))))))))))))))))))))))))))))))))))))))))
    refine QF.rpn (sb 118 rfl (sb 109 rfl (sb 108 rfl (sb 99 rfl (sb 98 rfl (sb 89 rfl (sb 88 rfl (sb 80 rfl (sb 79 rfl (sb 78 rfl (sb 77 rfl (sb 10 rfl (sb 76 rfl (sb 75 rfl (sb 74 rfl (sb 73 rfl (sb 72 rfl (sb 71 rfl (sb 70 rfl (sb 69 rfl (sb 68 rfl (sb 67 rfl (sb 66 rfl (sb 65 rfl (sb 64 rfl (sb 63 rfl (sb 62 rfl (sb 61 rfl (sb 60 rfl (sb 59 rfl (sb 58 rfl (sb 57 rfl (sb 56 rfl (sb 55 rfl (sb 54 rfl (sb 53 rfl (sb 52 rfl (sb 51 rfl (sb 43 rfl (sb 42 rfl (sb 41 rfl (sb 40 rfl (sb 39 rfl (sb 38 rfl (sb 37 rfl (sb 36 rfl (sb 9 rfl (sb 35 rfl (sb 34 rfl (sb 33 rfl (sb 32 rfl (sb 31 rfl (sb 30 rfl (sb 27 rfl (sb 26 rfl (sb 25 rfl (sb 24 rfl (sb 6 rfl (sb 5 rfl (sb 2 rfl (sb 1 rfl (sb 8 rfl (sb 7 rfl sb0))))))))))))))))))))))))))))))))))))))))))))))))))))))))))))))) ?_
    refine WF.if_ rfl (fun c126 => ?_) (fun c126 => ?_)
    · skip
      replace c126 : (((((((stA t sights k).Level) ≤ (max (max (dem t (gt sights ((k : Int)))) (dem t (gt sights (((k : Int)) - 1)))) (dem t (gt sights (((k : Int)) - 2))))) ∨ (((gt (runL t sights sights.length) ((k : Int))).Level) ≠ (max (max (dem t (gt sights ((k : Int)))) (dem t (gt sights (((k : Int)) - 1)))) (dem t (gt sights (((k : Int)) - 2)))))) ∨ (((gt (runL t sights sights.length) (((k : Int)) - 1)).Level) ≠ ((stA t sights k).Level))) ∨ (((gt (runL t sights sights.length) (((k : Int)) - 2)).Level) ≠ ((stA t sights k).Level))) ∨ (((gt (runL t sights sights.length) (((k : Int)) - 3)).Level) ≠ ((stA t sights k).Level))) := by simpa using c126
      refine WF.seq ?_
      refine WF.rp (.inl rfl) ?_
      refine QF.as_ rfl rfl ?_
      refine QF.rpn (sb 4 rfl (sb 118 rfl (sb 109 rfl (sb 108 rfl (sb 99 rfl (sb 98 rfl (sb 89 rfl (sb 88 rfl (sb 80 rfl (sb 79 rfl (sb 78 rfl (sb 77 rfl (sb 10 rfl (sb 76 rfl (sb 75 rfl (sb 74 rfl (sb 73 rfl (sb 72 rfl (sb 71 rfl (sb 70 rfl (sb 69 rfl (sb 68 rfl (sb 67 rfl (sb 66 rfl (sb 65 rfl (sb 64 rfl (sb 63 rfl (sb 62 rfl (sb 61 rfl (sb 60 rfl (sb 59 rfl (sb 58 rfl (sb 57 rfl (sb 56 rfl (sb 55 rfl (sb 54 rfl (sb 53 rfl (sb 52 rfl (sb 51 rfl (sb 43 rfl (sb 42 rfl (sb 41 rfl (sb 40 rfl (sb 39 rfl (sb 38 rfl (sb 37 rfl (sb 36 rfl (sb 9 rfl (sb 35 rfl (sb 34 rfl (sb 33 rfl (sb 32 rfl (sb 31 rfl (sb 30 rfl (sb 27 rfl (sb 26 rfl (sb 25 rfl (sb 24 rfl (sb 6 rfl (sb 5 rfl (sb 2 rfl (sb 1 rfl (sb 8 rfl (sb 7 rfl sb0)))))))))))))))))))))))))))))))))))))))))))))))))))))))))))))))) ?_
      refine WF.ret (fun aa ww hf hw => ?_)
      have q127 : (false : Bool) = true := by exfalso; exact falls_3 t (by omega) c70 c126
      exact rtg hf rfl hw (rvc (rvT hf (v := _) rfl) rv0) rfl (e5.trans (e10.trans (e22.trans (e32.trans (e48.trans e94))))) ⟨(congrArg Value.bool q127), (hs93.drop .head)⟩
    replace c126 : ¬ (((((((stA t sights k).Level) ≤ (max (max (dem t (gt sights ((k : Int)))) (dem t (gt sights (((k : Int)) - 1)))) (dem t (gt sights (((k : Int)) - 2))))) ∨ (((gt (runL t sights sights.length) ((k : Int))).Level) ≠ (max (max (dem t (gt sights ((k : Int)))) (dem t (gt sights (((k : Int)) - 1)))) (dem t (gt sights (((k : Int)) - 2)))))) ∨ (((gt (runL t sights sights.length) (((k : Int)) - 1)).Level) ≠ ((stA t sights k).Level))) ∨ (((gt (runL t sights sights.length) (((k : Int)) - 2)).Level) ≠ ((stA t sights k).Level))) ∨ (((gt (runL t sights sights.length) (((k : Int)) - 3)).Level) ≠ ((stA t sights k).Level))) := by simpa using c126
    refine WF.skip ?_
    refine WF.rp (.inl rfl) ?_
    refine QF.mv rfl rfl ?_
    refine QF.mv rfl rfl ?_
    refine QF.ixog hs93 mh rfl rfl sl_28 (by omega) (by omega) rfl fun q128 k129 ep130 => ?_
    refine QF.fa rfl k129 GAlarm.f_Level fa_25_0 rfl fun q131 k132 => ?_
    refine QF.ldi ckP (fun _ x => x) rfl k132 ty_3 rfl fun r133 => ?_
    refine QF.as_ rfl rfl ?_
    refine QF.rpn (sb 7 rfl (sb 123 rfl (sb 122 rfl (sb 121 rfl (sb 120 rfl (sb 119 rfl (sb 118 rfl (sb 109 rfl (sb 108 rfl (sb 99 rfl (sb 98 rfl (sb 89 rfl (sb 88 rfl (sb 80 rfl (sb 79 rfl (sb 78 rfl (sb 77 rfl (sb 10 rfl (sb 76 rfl (sb 75 rfl (sb 74 rfl (sb 73 rfl (sb 72 rfl (sb 71 rfl (sb 70 rfl (sb 69 rfl (sb 68 rfl (sb 67 rfl (sb 66 rfl (sb 65 rfl (sb 64 rfl (sb 63 rfl (sb 62 rfl (sb 61 rfl (sb 60 rfl (sb 59 rfl (sb 58 rfl (sb 57 rfl (sb 56 rfl (sb 55 rfl (sb 54 rfl (sb 53 rfl (sb 52 rfl (sb 51 rfl (sb 43 rfl (sb 42 rfl (sb 41 rfl (sb 40 rfl (sb 39 rfl (sb 38 rfl (sb 37 rfl (sb 36 rfl (sb 9 rfl (sb 35 rfl (sb 34 rfl (sb 33 rfl (sb 32 rfl (sb 31 rfl (sb 30 rfl (sb 27 rfl (sb 26 rfl (sb 25 rfl (sb 24 rfl (sb 6 rfl (sb 5 rfl (sb 2 rfl (sb 1 rfl (sb 8 rfl sb0)))))))))))))))))))))))))))))))))))))))))))))))))))))))))))))))))))) ?_
    refine WF.nilW ?_
    refine WF.rp (.inl rfl) ?_
    refine QF.mv rfl rfl ?_
    have r134 : inI64 (((k : Int)) + 1) := by unfold inI64 at *; omega
    refine QF.add rfl rfl rfl r134 ?_
    refine QF.as_ rfl rfl ?_
    refine QF.rpn (sb 8 rfl (sb 29 rfl (sb 28 rfl (sb 7 rfl (sb 123 rfl (sb 122 rfl (sb 121 rfl (sb 120 rfl (sb 119 rfl (sb 118 rfl (sb 109 rfl (sb 108 rfl (sb 99 rfl (sb 98 rfl (sb 89 rfl (sb 88 rfl (sb 80 rfl (sb 79 rfl (sb 78 rfl (sb 77 rfl (sb 10 rfl (sb 76 rfl (sb 75 rfl (sb 74 rfl (sb 73 rfl (sb 72 rfl (sb 71 rfl (sb 70 rfl (sb 69 rfl (sb 68 rfl (sb 67 rfl (sb 66 rfl (sb 65 rfl (sb 64 rfl (sb 63 rfl (sb 62 rfl (sb 61 rfl (sb 60 rfl (sb 59 rfl (sb 58 rfl (sb 57 rfl (sb 56 rfl (sb 55 rfl (sb 54 rfl (sb 53 rfl (sb 52 rfl (sb 51 rfl (sb 43 rfl (sb 42 rfl (sb 41 rfl (sb 40 rfl (sb 39 rfl (sb 38 rfl (sb 37 rfl (sb 36 rfl (sb 9 rfl (sb 35 rfl (sb 34 rfl (sb 33 rfl (sb 32 rfl (sb 31 rfl (sb 30 rfl (sb 27 rfl (sb 26 rfl (sb 25 rfl (sb 24 rfl (sb 6 rfl (sb 5 rfl (sb 2 rfl (sb 1 rfl sb0)))))))))))))))))))))))))))))))))))))))))))))))))))))))))))))))))))))) ?_
    refine WF.nil (fun aa ww hf hw => ?_)
    refine ⟨_, _, ?_, hw, ?_, (e32.trans (e48.trans e94)), (by omega)⟩
    · refine cast (congrArg (Fr _ aa) ?_) (hf.sub (sb 6 rfl (sb 5 rfl (sb 2 rfl (sb 1 rfl (sb 8 rfl (sb 7 rfl sb0)))))) : Fr _ aa [(6, v19), (5, .bool (true)), (2, q1), (1, v_sights), (8, .int .i64 (((k : Int)) + 1)), (7, .int .i64 ((gt (runL t sights sights.length) ((k : Int))).Level))])
      simp [gt_runL t sights sights.length k (show k < sights.length by omega)]
    · refine cast (congrArg (fun l => St _ l _) ?_) hs93
      rfl
  refine WF.skip ?_
  refine WF.rp (.inl rfl) ?_
  refine QF.mv rfl rfl ?_
  refine QF.mv rfl rfl ?_
  refine QF.ixog hs47 mh rfl rfl sl_28 (by omega) (by omega) rfl fun q135 k136 ep137 => ?_
  refine QF.fa rfl k136 GAlarm.f_Level fa_25_0 rfl fun q138 k139 => ?_
  refine QF.ldi ckP (fun _ x => x) rfl k139 ty_3 rfl fun r140 => ?_
  refine QF.as_ rfl rfl ?_
  refine QF.rpn (sb 7 rfl (sb 123 rfl (sb 122 rfl (sb 121 rfl (sb 120 rfl (sb 119 rfl (sb 58 rfl (sb 57 rfl (sb 56 rfl (sb 55 rfl (sb 54 rfl (sb 53 rfl (sb 52 rfl (sb 51 rfl (sb 43 rfl (sb 42 rfl (sb 41 rfl (sb 40 rfl (sb 39 rfl (sb 38 rfl (sb 37 rfl (sb 36 rfl (sb 9 rfl (sb 35 rfl (sb 34 rfl (sb 33 rfl (sb 32 rfl (sb 31 rfl (sb 30 rfl (sb 27 rfl (sb 26 rfl (sb 25 rfl (sb 24 rfl (sb 6 rfl (sb 5 rfl (sb 2 rfl (sb 1 rfl (sb 8 rfl sb0)))))))))))))))))))))))))))))))))))))) ?_
  refine WF.nilW ?_
  refine WF.rp (.inl rfl) ?_
  refine QF.mv rfl rfl ?_
  have r141 : inI64 (((k : Int)) + 1) := by unfold inI64 at *; omega
  refine QF.add rfl rfl rfl r141 ?_
  refine QF.as_ rfl rfl ?_
  refine QF.rpn (sb 8 rfl (sb 29 rfl (sb 28 rfl (sb 7 rfl (sb 123 rfl (sb 122 rfl (sb 121 rfl (sb 120 rfl (sb 119 rfl (sb 58 rfl (sb 57 rfl (sb 56 rfl (sb 55 rfl (sb 54 rfl (sb 53 rfl (sb 52 rfl (sb 51 rfl (sb 43 rfl (sb 42 rfl (sb 41 rfl (sb 40 rfl (sb 39 rfl (sb 38 rfl (sb 37 rfl (sb 36 rfl (sb 9 rfl (sb 35 rfl (sb 34 rfl (sb 33 rfl (sb 32 rfl (sb 31 rfl (sb 30 rfl (sb 27 rfl (sb 26 rfl (sb 25 rfl (sb 24 rfl (sb 6 rfl (sb 5 rfl (sb 2 rfl (sb 1 rfl sb0)))))))))))))))))))))))))))))))))))))))) ?_
  refine WF.nil (fun aa ww hf hw => ?_)
  refine ⟨_, _, ?_, hw, ?_, (e32.trans e48), (by omega)⟩
  · refine cast (congrArg (Fr _ aa) ?_) (hf.sub (sb 6 rfl (sb 5 rfl (sb 2 rfl (sb 1 rfl (sb 8 rfl (sb 7 rfl sb0)))))) : Fr _ aa [(6, v19), (5, .bool (true)), (2, q1), (1, v_sights), (8, .int .i64 (((k : Int)) + 1)), (7, .int .i64 ((gt (runL t sights sights.length) ((k : Int))).Level))])
    simp [gt_runL t sights sights.length k (show k < sights.length by omega)]
  · refine cast (congrArg (fun l => St _ l _) ?_) hs47
    rfl

theorem opens_9 : Opens Try.prog 9 Rep.str := opens_str (by kernel_rfl) Try.underlying9
theorem opens_3 : Opens Try.prog 3 Rep.int := opens_int (by kernel_rfl) Try.underlying3
theorem opens_23 : Opens Try.prog 23 RGTown := by
  have hc : Try.prog.cellsOf 23 = 7 := by kernel_rfl
  refine ⟨hc, fun {H enc w base spare held fuel cs x} h => ?_⟩
  obtain ⟨hl, hf⟩ := open_fields Try.underlying23 h
  rw [hc] at hl
  match cs, hl with
  | [c0, c1, c2, c3, c4, c5, c6], _ =>
    obtain ⟨y0, k0⟩ := hf 0 _ Rep.str rfl opens_9
    obtain ⟨e0, r0⟩ := k0
    obtain rfl : c0 = _ := (List.cons.inj (show [c0] = _ from e0)).1
    obtain ⟨y1, k1⟩ := hf 1 _ Rep.int rfl opens_3
    obtain ⟨e1, r1⟩ := k1
    obtain rfl : c1 = _ := (List.cons.inj (show [c1] = _ from e1)).1
    obtain ⟨y2, k2⟩ := hf 2 _ Rep.int rfl opens_3
    obtain ⟨e2, r2⟩ := k2
    obtain rfl : c2 = _ := (List.cons.inj (show [c2] = _ from e2)).1
    obtain ⟨y3, k3⟩ := hf 3 _ Rep.int rfl opens_3
    obtain ⟨e3, r3⟩ := k3
    obtain rfl : c3 = _ := (List.cons.inj (show [c3] = _ from e3)).1
    obtain ⟨y4, k4⟩ := hf 4 _ Rep.int rfl opens_3
    obtain ⟨e4, r4⟩ := k4
    obtain rfl : c4 = _ := (List.cons.inj (show [c4] = _ from e4)).1
    obtain ⟨y5, k5⟩ := hf 5 _ Rep.int rfl opens_3
    obtain ⟨e5, r5⟩ := k5
    obtain rfl : c5 = _ := (List.cons.inj (show [c5] = _ from e5)).1
    obtain ⟨y6, k6⟩ := hf 6 _ Rep.int rfl opens_3
    obtain ⟨e6, r6⟩ := k6
    obtain rfl : c6 = _ := (List.cons.inj (show [c6] = _ from e6)).1
    exact ⟨⟨y0, y1, y2, y3, y4, y5, y6⟩, ⟨rfl, ⟨r0, r1, r2, r3, r4, r5, r6⟩⟩⟩
theorem opens_4 : Opens Try.prog 4 Rep.bool := opens_bool (by kernel_rfl) Try.underlying4
theorem opens_32 : Opens Try.prog 32 RGSight := by
  have hc : Try.prog.cellsOf 32 = 2 := by kernel_rfl
  refine ⟨hc, fun {H enc w base spare held fuel cs x} h => ?_⟩
  obtain ⟨hl, hf⟩ := open_fields Try.underlying32 h
  rw [hc] at hl
  match cs, hl with
  | [c0, c1], _ =>
    obtain ⟨y0, k0⟩ := hf 0 _ Rep.int rfl opens_3
    obtain ⟨e0, r0⟩ := k0
    obtain rfl : c0 = _ := (List.cons.inj (show [c0] = _ from e0)).1
    obtain ⟨y1, k1⟩ := hf 1 _ Rep.bool rfl opens_4
    obtain rfl : c1 = _ := (List.cons.inj (show [c1] = _ from k1)).1
    exact ⟨⟨y0, y1⟩, ⟨rfl, r0⟩⟩
theorem opens_26 : Opens Try.prog 26 (Rep.sl RGSight) := opens_sl (by kernel_rfl) Try.underlying26 opens_32 rfl

set_option maxRecDepth 100000 in
theorem falls_holds_lifted (os : Os) (started : os.Started) (H : Type) (enc : TypeId × Value → H) :
    ReturnsInHanded {} Try.checked os 5 .any (Rows.alarmFallsSpec.pre6 enc Try.prog Try.f5 Rows.alarmFallsRow.domain false) (Rows.alarmFallsSpec.post enc Try.prog Try.f5 false true false false) := by
  refine returnsInHanded_of_change (C := Try.checked) (by kernel_rfl) started (by kernel_rfl) Try.func5
    (ChangeSpec.witness6 (enc := enc) (C := Try.checked) false ⟨#[], #[.agg #[.string ByteArray.empty, .int .i64 0, .int .i64 0, .int .i64 0, .int .i64 0, .int .i64 0, .int .i64 0], .slice none 0 0], []⟩ 8 (by kernel_rfl) (by kernel_rfl) (by kernel_rfl) (by kernel_rfl)) ?_
  intro W base args ds gs before hval0 hW hcnd _
  have hval : ∀ (j : Nat) t v, Try.f5.params[j]? = some t → args[j]? = some v → Value.okWide Try.prog W .any base t v := hval0
  have hW' := hW
  obtain ⟨p, q, hA0, hV, rfl, hfz, hnd⟩ := hW
  have hA : DataW.TrodAll enc Try.prog W 0 (fun _ => true) true Try.f5.params.toList args.toList ds p := hA0
  rw [Try.params5] at hA hval
  obtain ⟨v0, vs0, d0, ds0, p0, q0, ha0, rfl, rfl, h0, r0⟩ := trodAll_cons hA
  obtain ⟨v1, vs1, d1, ds1, p1, q1, rfl, rfl, rfl, h1, r1⟩ := trodAll_cons r0
  obtain ⟨rfl, rfl, rfl⟩ := trodAll_nil r1
  obtain rfl : args = #[v0, v1] := by cases args; simp_all
  obtain ⟨rfl, rfl⟩ := trodVars_none hV
  obtain ⟨x0, k0⟩ := arg_st opens_23 rfl Try.underlying23 (hval 0 23 v0 rfl rfl) h0
  obtain ⟨x1, k1⟩ := arg_one opens_26 rfl rfl (ne_slice Try.underlying26 (hval 1 26 v1 rfl rfl)) h1
  refine (law_calls (falls_ret (St.all W.heap) k0 k1.sl)).mono fun e W' ⟨he, hb⟩ => ⟨_, he, ?_⟩
  exact law_post (tb := 4) (by kernel_rfl) (by kernel_rfl) hW' (by kernel_rfl) Try.underlying4 rfl rfl rfl rfl hb

theorem falls_holds : Rows.AlarmFallsSaid :=
  OpenClaim.holds_of_wide 5 Try.f5 rfl rfl rfl rfl rfl rfl rfl ⟨rfl, rfl, rfl, rfl, rfl⟩ rfl rfl rfl rfl rfl (by kernel_rfl) Try.func5 (by kernel_rfl)
    (of_decide_eq_true (by kernel_rfl)) (by unfold Func.isWrapper; first | (rw [if_pos (by decide +kernel)]; kernel_rfl) | (rw [if_neg (by decide +kernel)]; exact ⟨rfl, rfl⟩))
    (fun os started H enc _ => falls_holds_lifted os started H enc)
end falls
end Go.Proofs.Ytgnjppialaajcaa
