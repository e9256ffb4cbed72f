/- Walks, part 2. By program. -/
import Derived.Test.YtkbooafdccnkeaaWalk1
namespace Go.Proofs.Ytkbooafdccnkeaa
open Go.RowKit
set_option linter.unusedVariables false
set_option linter.unusedSimpArgs false

set_option maxRecDepth 10000 in
set_option maxHeartbeats 2000000 in
theorem bournelaw33_HarmWorst_ret {N : Nat} {S : Nat → Prop} {L : List HP} {h : Heap} (hs : St S L h) {v_p0_l : Value} {p0_l : (List GHarm)} (h_p0_l : Sl S h RGHarm v_p0_l p0_l) {r : Bool} (E : f_bournelaw33_HarmWorst N p0_l = some r) :
    Ret Try.prog 3 #[v_p0_l] S h (fun v S' h' => v = .bool r ∧ St S' (L) h') := by
  refine Ret.go (l := [v_p0_l]) 61 Try.func3 rfl Try.ntmps3 rfl fun B => ?_
  rw [f_bournelaw33_HarmWorst] at E
  refine WF.seq ?_
  refine WF.rp (.inl rfl) ?_
  refine QF.as_ rfl rfl ?_
  refine QF.rpn (sb 2 rfl (sb 0 rfl sb0)) ?_
  refine WF.seq ?_
  refine WF.rc (.inl rfl) hs ?_
  obtain ⟨y1, hy1, E⟩ := bd E
  refine QF.callp (v := .bool y1) (Ψ := True) rfl rfl rfl ca_5 rfl (fun h' o => (bournelaw33_small_ret (St.all h') hy1).mono fun _ _ _ _ p => ⟨p.1, trivial⟩) fun r2 => ?_
  refine QF.as_ rfl rfl ?_
  refine QF.rcn (sb 3 rfl (sb 2 rfl (sb 0 rfl sb0))) fun h3 hs4 e5 => ?_
  refine WF.seq ?_
  refine WF.seq ?_
  refine WF.rp (.inl rfl) ?_
  refine QF.mv rfl rfl ?_
  have k6 := h_p0_l.mono' e5
  refine QF.len rfl k6 sl_22 rfl fun b7 => ?_
  unfold maxLen at b7
  refine QF.gtr rfl rfl rfl ?_
  refine QF.rpn (sb 11 rfl (sb 3 rfl (sb 2 rfl (sb 0 rfl sb0)))) ?_
  refine WF.if_ rfl (fun c8 => ?_) (fun c8 => ?_)
  · skip
    have E := cdT c8 E
    refine WF.seq ?_
    refine WF.rp (.inl rfl) ?_
    refine QF.mv rfl rfl ?_
    refine QF.as_ rfl rfl ?_
    refine QF.rpn (sb 2 rfl (sb 3 rfl (sb 0 rfl sb0))) ?_
    refine WF.ret (fun aa ww hf hw => ?_)
    cases E
    exact rtg hf rfl hw (rvc (rvT hf (v := _) rfl) rv0) rfl e5 ⟨rfl, hs4⟩
  · skip
    have E := cdF c8 E
    refine WF.skip ?_
    refine WF.seq ?_
    refine WF.rl ?_
    refine LF.q 1 ?_
    refine QF.mv rfl rfl ?_
    refine QF.ln ?_
    have k9 := h_p0_l.mono' e5
    obtain ⟨y10, hy10, E⟩ := bd E
    refine LF.callb rfl rfl rfl ca_6 rfl hs4 (harm_Worst_ret (St.all _) (k9.mono (fun b hb => hs4.1 b hb) (fun _ _ => rfl)) hy10) fun v11 S12 h13 hs15 e14 e21 p => ?_
    obtain ⟨rfl, ⟨r16, r17, r18, r19⟩, hq20⟩ := p
    refine LF.al zc_25 rfl hs15 fun b22 h23 hs24 e25 => ?_
    refine LF.st (vs := [.int .i64 y10.Flood, .int .i64 y10.Spill, .int .i64 y10.Short, .int .i64 y10.Moves]) (cs' := [.int .i64 y10.Flood, .int .i64 y10.Spill, .int .i64 y10.Short, .int .i64 y10.Moves]) rfl rfl rfl (by simp [Value.oneCell']) ty_25 rfl hs24 .head rfl rfl fun h26 hs27 e28 => ?_
    refine LF.nil (sb 4 rfl (sb 3 rfl (sb 2 rfl (sb 0 rfl sb0)))) ?_
    refine WF.seq ?_
    refine WF.rp (.inl rfl) ?_
    refine QF.mv rfl rfl ?_
    have k29 := h_p0_l.mono' (e5.trans (e14.trans (e25.trans e28)))
    refine QF.len rfl k29 sl_22 rfl fun b30 => ?_
    unfold maxLen at b30
    refine QF.eql rfl rfl rfl ?_
    refine QF.mv rfl rfl ?_
    refine QF.cutv 4 22 (.bool ((decide ((↑p0_l.length : Int) = 0)) && (eqC y10.v (⟨0, 0, 0, 0⟩ : GHarm).v))) ?_ ?_
    · cases c31 : (decide ((↑p0_l.length : Int) = 0))
      · skip
        refine QF.gnF rfl rfl rfl rfl rfl ?_
        refine QF.gnF rfl rfl rfl rfl rfl ?_
        refine QF.gnF rfl rfl rfl rfl rfl ?_
        refine QF.pick rfl rfl rfl ?_
        exact QF.cutn (sb 22 rfl (sb 18 rfl (sb 17 rfl (sb 16 rfl (sb 15 rfl (sb 4 rfl (sb 3 rfl (sb 2 rfl (sb 0 rfl sb0)))))))))
      · skip
        refine QF.gy rfl rfl rfl ?_
        refine QF.ldo (vs := [.int .i64 y10.Flood, .int .i64 y10.Spill, .int .i64 y10.Short, .int .i64 y10.Moves]) ckP hs27 rfl mh rfl rfl ty_25 rfl rfl ?_
        refine QF.gy rfl rfl rfl ?_
        refine QF.bld (cs := [.int .i64 0, .int .i64 0, .int .i64 0, .int .i64 0]) st_25 rfl rfl rfl ?_
        refine QF.gy rfl rfl rfl ?_
        refine QF.eqs rfl rfl fl_25 rfl rfl rfl rfl ?_
        refine QF.pick rfl rfl rfl ?_
        exact QF.cutn (sb 22 rfl (sb 18 rfl (sb 17 rfl (sb 16 rfl (sb 15 rfl (sb 4 rfl (sb 3 rfl (sb 2 rfl (sb 0 rfl sb0)))))))))
    refine QF.as_ rfl rfl ?_
    refine QF.rpn (sb 5 rfl (sb 4 rfl (sb 3 rfl (sb 2 rfl (sb 0 rfl sb0))))) ?_
    refine WF.seq ?_
    refine WF.rp (.inl rfl) ?_
    refine QF.as_ rfl rfl ?_
    refine QF.rpn (sb 6 rfl (sb 5 rfl (sb 4 rfl (sb 3 rfl (sb 2 rfl (sb 0 rfl sb0)))))) ?_
    refine WF.seq ?_
    refine WF.seq ?_
    refine WF.rp (.inl rfl) ?_
    refine QF.as_ rfl rfl ?_
    refine QF.rpn (sb 7 rfl (sb 6 rfl (sb 5 rfl (sb 4 rfl (sb 3 rfl (sb 2 rfl (sb 0 rfl sb0))))))) ?_
    refine WF.blockJ (fun a w => ∃ (b32 : Bool) (v33 : Value) (l34 : List GHarm) (S' : Nat → Prop) (h' : Heap), Fr 61 a [(4, .pointer (some ⟨b22, 0, none⟩)), (3, .bool y1), (2, .bool false), (5, .bool b32), (6, v33)] ∧ Wd B h' w ∧ St S' (OS RGHarm 25 v33 l34 :: Bx b22 25 [.int .i64 y10.Flood, .int .i64 y10.Spill, .int .i64 y10.Short, .int .i64 y10.Moves] :: L) h' ∧ Ext S h26 S' h' ∧ f_bournelaw33_HarmWorst_j0 N y1 y10 b32 l34 = some r) ?_ ?_
    · skip
      refine WF.loopF (fun n1 => fun a w => ∃ (b40 : Bool) (v41 : Value) (l42 : List GHarm) (i43 : Int) (S' : Nat → Prop) (h' : Heap), Fr 61 a [(4, .pointer (some ⟨b22, 0, none⟩)), (3, .bool y1), (2, .bool false), (0, v_p0_l), (5, .bool b40), (6, v41), (7, .int .i64 i43)] ∧ Wd B h' w ∧ St S' (OS RGHarm 25 v41 l42 :: Bx b22 25 [.int .i64 y10.Flood, .int .i64 y10.Spill, .int .i64 y10.Short, .int .i64 y10.Moves] :: L) h' ∧ Ext S h26 S' h' ∧ inI64 i43 ∧ f_bournelaw33_HarmWorst_l1 N p0_l y10 (f_bournelaw33_HarmWorst_j0 N y1 y10) n1 b40 l42 i43 = some r) N ?_ ?_ ?_
      · intro aa ww hf hw
        have hs45 := hs27.nil RGHarm 25
        exact ⟨((decide ((↑p0_l.length : Int) = 0)) && (eqC y10.v (⟨0, 0, 0, 0⟩ : GHarm).v)), (.slice none 0 0), ([]), 0, _, _, hf.sub (sb 4 rfl (sb 3 rfl (sb 2 rfl (sb 0 rfl (sb 5 rfl (sb 6 rfl (sb 7 rfl sb0))))))), hw, hs45, (Ext.refl S h26), (show inI64 0 by unfold inI64; omega), E⟩
      · rintro aa ww ⟨_, _, _, _, _, _, _, _, _, _, _, E⟩
        rw [f_bournelaw33_HarmWorst_l1] at E; cases E
      · skip
        rintro n1 aa ww ⟨b40, v41, l42, i43, S46, h47, hf, hw, hs48, e49, r44, E⟩
        refine WF.run ?_ hf hw
        clear hf hw ww aa
        rw [f_bournelaw33_HarmWorst_l1] at E
        refine WF.seq ?_
        refine WF.seq ?_
        refine WF.rp (.inl rfl) ?_
        refine QF.mv rfl rfl ?_
        refine QF.mv rfl rfl ?_
        have k50 := h_p0_l.mono' (e5.trans (e14.trans (e25.trans (e28.trans e49))))
        refine QF.len rfl k50 sl_22 rfl fun b51 => ?_
        unfold maxLen at b51
        refine QF.lss rfl rfl rfl ?_
        refine QF.rpn (sb 26 rfl (sb 25 rfl (sb 24 rfl (sb 23 rfl (sb 4 rfl (sb 3 rfl (sb 2 rfl (sb 0 rfl (sb 5 rfl (sb 6 rfl (sb 7 rfl sb0))))))))))) ?_
        refine WF.if_ rfl (fun c52 => ?_) (fun c52 => ?_)
        · skip
          have E := cdT c52 E
          refine WF.skip ?_
          refine WF.seq ?_
          refine WF.block ?_
          refine WF.seq ?_
          refine WF.rp (.inr ⟨mo, by kernel_rfl⟩) ?_
          refine QF.mv rfl rfl ?_
          refine QF.mv rfl rfl ?_
          obtain ⟨b54, hb54, E⟩ := bd E
          refine QF.cutv 7 37 (.bool b54) ?_ ?_
          · cases c53 : b40
            · skip
              have hb54 := cdF c53 hb54
              refine QF.gy rfl rfl rfl ?_
              refine QF.mv rfl rfl ?_
              refine QF.gy rfl rfl rfl ?_
              refine QF.mv rfl rfl ?_
              refine QF.gy rfl rfl rfl ?_
              have k55 := h_p0_l.mono' (e5.trans (e14.trans (e25.trans (e28.trans e49))))
              obtain ⟨x56, hx56, hb54⟩ := bd hb54
              refine QF.ixe rfl rfl k55 sl_22 hx56 rfl fun q57 k58 => ?_
              refine QF.gy rfl rfl rfl ?_
              refine QF.ld ckP hs48.1 rfl k58 ty_25 (fun e => by cases e) rfl fun v59 k60 => ?_
              refine QF.gy rfl rfl rfl ?_
              refine QF.ldo (vs := [.int .i64 y10.Flood, .int .i64 y10.Spill, .int .i64 y10.Short, .int .i64 y10.Moves]) ckP hs48 rfl (mt mh) rfl rfl ty_25 rfl rfl ?_
              refine QF.gy rfl rfl rfl ?_
              obtain ⟨rfl, ⟨r62, r63, r64, r65⟩⟩ := RGHarm.ex k60
              refine QF.eqs rfl rfl fl_25 rfl rfl rfl rfl ?_
              refine QF.pick rfl rfl rfl ?_
              cases hb54
              exact QF.cutn (sb 37 rfl (sb 30 rfl (sb 29 rfl (sb 26 rfl (sb 25 rfl (sb 24 rfl (sb 23 rfl (sb 4 rfl (sb 3 rfl (sb 2 rfl (sb 0 rfl (sb 5 rfl (sb 6 rfl (sb 7 rfl sb0))))))))))))))
            · skip
              have hb54 := cdT c53 hb54
              cases hb54
              refine QF.gnT rfl rfl rfl rfl rfl ?_
              refine QF.gnT rfl rfl rfl rfl rfl ?_
              refine QF.gnT rfl rfl rfl rfl rfl ?_
              refine QF.gnT rfl rfl rfl rfl rfl ?_
              refine QF.gnT rfl rfl rfl rfl rfl ?_
              refine QF.gnT rfl rfl rfl rfl rfl ?_
              refine QF.pick rfl rfl rfl ?_
              exact QF.cutn (sb 37 rfl (sb 30 rfl (sb 29 rfl (sb 26 rfl (sb 25 rfl (sb 24 rfl (sb 23 rfl (sb 4 rfl (sb 3 rfl (sb 2 rfl (sb 0 rfl (sb 5 rfl (sb 6 rfl (sb 7 rfl sb0))))))))))))))
          refine QF.as_ rfl rfl ?_
          refine QF.rpn (sb 5 rfl (sb 37 rfl (sb 30 rfl (sb 29 rfl (sb 26 rfl (sb 25 rfl (sb 24 rfl (sb 23 rfl (sb 4 rfl (sb 3 rfl (sb 2 rfl (sb 0 rfl (sb 6 rfl (sb 7 rfl sb0)))))))))))))) ?_
          refine WF.seq ?_
          refine WF.seq ?_
          refine WF.rc (.inr ⟨mo, by kernel_rfl⟩) hs48 ?_
          refine QF.ldo (vs := [.int .i64 y10.Flood, .int .i64 y10.Spill, .int .i64 y10.Short, .int .i64 y10.Moves]) ckC hs48 rfl (mt mh) rfl rfl ty_25 rfl rfl ?_
          refine QF.mv rfl rfl ?_
          refine QF.mv rfl rfl ?_
          have k66 := h_p0_l.mono' (e5.trans (e14.trans (e25.trans (e28.trans e49))))
          obtain ⟨x67, hx67, E⟩ := bd E
          refine QF.ixe rfl rfl k66 sl_22 hx67 rfl fun q68 k69 => ?_
          refine QF.ld ckC hs48.1 rfl k69 ty_25 (fun e => by cases e) rfl fun v70 k71 => ?_
          obtain ⟨y72, hy72, E⟩ := bd E
          refine QF.callp (v := .bool y72) (Ψ := True) rfl rfl rfl ca_7 rfl (fun h' o => (harm_Less_ret (St.all h') (RGHarm.mk (x := y10) ⟨r16, r17, r18, r19⟩) (k71.mono (o.all hs48.1)) hy72).mono fun _ _ _ _ p => ⟨p.1, trivial⟩) fun r73 => ?_
          refine QF.rcn (sb 43 rfl (sb 42 rfl (sb 41 rfl (sb 40 rfl (sb 39 rfl (sb 38 rfl (sb 5 rfl (sb 37 rfl (sb 30 rfl (sb 29 rfl (sb 26 rfl (sb 25 rfl (sb 24 rfl (sb 23 rfl (sb 4 rfl (sb 3 rfl (sb 2 rfl (sb 0 rfl (sb 6 rfl (sb 7 rfl sb0)))))))))))))))))))) fun h74 hs75 e76 => ?_
          refine WF.if_ rfl (fun c77 => ?_) (fun c77 => ?_)
          · skip
            have E := cdT c77 E
            refine WF.seq ?_
            refine WF.rp (.inl rfl) ?_
            refine QF.as_ rfl rfl ?_
            refine QF.rpn (sb 2 rfl (sb 43 rfl (sb 42 rfl (sb 41 rfl (sb 40 rfl (sb 39 rfl (sb 38 rfl (sb 5 rfl (sb 37 rfl (sb 30 rfl (sb 29 rfl (sb 26 rfl (sb 25 rfl (sb 24 rfl (sb 23 rfl (sb 4 rfl (sb 3 rfl (sb 0 rfl (sb 6 rfl (sb 7 rfl sb0)))))))))))))))))))) ?_
            refine WF.ret (fun aa ww hf hw => ?_)
            have hs78 := hs75.drop .head
            have hs79 := hs78.drop .head
            cases E
            exact rtg hf rfl hw (rvc (rvT hf (v := _) rfl) rv0) rfl (e5.trans (e14.trans (e25.trans (e28.trans (e49.trans e76))))) ⟨rfl, hs79⟩
          · skip
            have E := cdF c77 E
            refine WF.skip ?_
            refine WF.rl ?_
            refine LF.q 4 ?_
            refine QF.mv rfl rfl ?_
            refine QF.mv rfl rfl ?_
            have k80 := h_p0_l.mono' (e5.trans (e14.trans (e25.trans (e28.trans (e49.trans e76)))))
            obtain ⟨x81, hx81, E⟩ := bd E
            refine QF.ixe rfl rfl k80 sl_22 hx81 rfl fun q82 k83 => ?_
            refine QF.ld ckP hs75.1 rfl k83 ty_25 (fun e => by cases e) rfl fun v84 k85 => ?_
            refine QF.ln ?_
            obtain ⟨rfl, ⟨r87, r88, r89, r90⟩⟩ := RGHarm.ex k85
            refine LF.bsq (cs := [.int .i64 x81.Flood, .int .i64 x81.Spill, .int .i64 x81.Short, .int .i64 x81.Moves]) el_22 rfl rfl rfl rfl rfl rfl rfl hs75 fun b91 h92 hs93 e94 => ?_
            refine LF.q 1 ?_
            refine QF.mv rfl rfl ?_
            refine QF.ln ?_
            have hs95 := hs93.bxos (r := RGHarm) (l := ([x81] : List GHarm)) .head ⟨_, _, rfl, ⟨rfl, ⟨r87, r88, r89, r90⟩⟩, rfl⟩ (by simp [maxLen])
            obtain ⟨ck96, E⟩ := ck1 E
            refine LF.appS (r := RGHarm) (l := ([x81] : List GHarm)) (xs := l42) rfl rfl el_22 rfl (St.src hs95 (mt mh)) rfl ck96 rfl hs95 (fun _ => .head) fun v97 h98 hs99 e100 => ?_
            refine LF.q 1 ?_
            refine QF.as_ rfl rfl ?_
            refine QF.ln ?_
            refine LF.nil (sb 6 rfl (sb 50 rfl (sb 49 rfl (sb 48 rfl (sb 47 rfl (sb 46 rfl (sb 45 rfl (sb 44 rfl (sb 43 rfl (sb 42 rfl (sb 41 rfl (sb 40 rfl (sb 39 rfl (sb 38 rfl (sb 5 rfl (sb 37 rfl (sb 30 rfl (sb 29 rfl (sb 26 rfl (sb 25 rfl (sb 24 rfl (sb 23 rfl (sb 4 rfl (sb 3 rfl (sb 2 rfl (sb 0 rfl (sb 7 rfl sb0))))))))))))))))))))))))))) ?_
            refine WF.nilW ?_
            refine WF.rp (.inl rfl) ?_
            refine QF.mv rfl rfl ?_
            refine QF.addw rfl rfl rfl ?_
            refine QF.as_ rfl rfl ?_
            refine QF.rpn (sb 7 rfl (sb 28 rfl (sb 27 rfl (sb 6 rfl (sb 50 rfl (sb 49 rfl (sb 48 rfl (sb 47 rfl (sb 46 rfl (sb 45 rfl (sb 44 rfl (sb 43 rfl (sb 42 rfl (sb 41 rfl (sb 40 rfl (sb 39 rfl (sb 38 rfl (sb 5 rfl (sb 37 rfl (sb 30 rfl (sb 29 rfl (sb 26 rfl (sb 25 rfl (sb 24 rfl (sb 23 rfl (sb 4 rfl (sb 3 rfl (sb 2 rfl (sb 0 rfl sb0))))))))))))))))))))))))))))) ?_
            refine WF.nil (fun aa ww hf hw => ?_)
            have hs101 := hs99.pick (.tail (.tail .head))
            have hs102 := hs101.pick (.tail .head)
            have hs103 := hs102.drop (.tail (.tail .head))
            exact ⟨b54, v97, (([x81] : List GHarm) ++ l42), (w64 (i43 + 1)), _, _, hf.sub (sb 4 rfl (sb 3 rfl (sb 2 rfl (sb 0 rfl (sb 5 rfl (sb 6 rfl (sb 7 rfl sb0))))))), hw, hs103, (e49.trans (e76.trans (e94.trans e100))), (w64_i _), E⟩
        · skip
          have E := cdF c52 E
          refine WF.exit rfl (fun aa ww hf hw => ?_)
          exact ⟨b40, v41, l42, _, _, hf.sub (sb 4 rfl (sb 3 rfl (sb 2 rfl (sb 5 rfl (sb 6 rfl sb0))))), hw, hs48, e49, E⟩
    · skip
      rintro aa ww ⟨b32, v33, l34, S104, h105, hf, hw, hs106, e107, E⟩
      refine WF.run ?_ hf hw
      clear hf hw ww aa
      rw [f_bournelaw33_HarmWorst_j0] at E
      refine WF.seq ?_
      refine WF.rc (.inr ⟨mo, by kernel_rfl⟩) hs106 ?_
      refine QF.mv rfl rfl ?_
      refine QF.mv rfl rfl ?_
      refine QF.cutv 2 54 (.bool (y1 && b32)) ?_ ?_
      · cases c108 : y1
        · skip
          refine QF.gnF rfl rfl rfl rfl rfl ?_
          refine QF.pick rfl rfl rfl ?_
          exact QF.cutn (sb 54 rfl (sb 52 rfl (sb 51 rfl (sb 4 rfl (sb 3 rfl (sb 2 rfl (sb 5 rfl (sb 6 rfl sb0))))))))
        · skip
          refine QF.gy rfl rfl rfl ?_
          refine QF.mv rfl rfl ?_
          refine QF.pick rfl rfl rfl ?_
          exact QF.cutn (sb 54 rfl (sb 52 rfl (sb 51 rfl (sb 4 rfl (sb 3 rfl (sb 2 rfl (sb 5 rfl (sb 6 rfl sb0))))))))
      refine QF.mv rfl rfl ?_
      obtain ⟨b110, hb110, E⟩ := bd E
      refine QF.cutv 5 60 (.bool b110) ?_ ?_
      · cases c109 : (y1 && b32)
        · skip
          have hb110 := cdF c109 hb110
          cases hb110
          refine QF.gnF rfl rfl rfl rfl rfl ?_
          refine QF.gnF rfl rfl rfl rfl rfl ?_
          refine QF.gnF rfl rfl rfl rfl rfl ?_
          refine QF.gnF rfl rfl rfl rfl rfl ?_
          refine QF.pick rfl rfl rfl ?_
          exact QF.cutn (sb 60 rfl (sb 55 rfl (sb 54 rfl (sb 52 rfl (sb 51 rfl (sb 4 rfl (sb 3 rfl (sb 2 rfl (sb 5 rfl (sb 6 rfl sb0))))))))))
        · skip
          have hb110 := cdT c109 hb110
          refine QF.gy rfl rfl rfl ?_
          refine QF.mv rfl rfl ?_
          refine QF.gy rfl rfl rfl ?_
          obtain ⟨y111, hy111, hb110⟩ := bd hb110
          refine QF.callp (v := .agg #[.int .i64 y111.Flood, .int .i64 y111.Spill, .int .i64 y111.Short, .int .i64 y111.Moves]) (Ψ := GHarm.ok y111) rfl rfl rfl ca_6 rfl (fun h' o => (harm_Worst_ret (St.all h') ((hs106.oslAll mh).mono (fun b hb => Nat.lt_of_lt_of_le hb o.siz) (fun b hb => o.same b hb)) hy111).mono fun _ _ _ _ p => ⟨p.1, p.2.1⟩) fun r112 => ?_
          obtain ⟨r113, r114, r115, r116⟩ := r112
          refine QF.gy rfl rfl rfl ?_
          refine QF.ldo (vs := [.int .i64 y10.Flood, .int .i64 y10.Spill, .int .i64 y10.Short, .int .i64 y10.Moves]) ckC hs106 rfl (mt mh) rfl rfl ty_25 rfl rfl ?_
          refine QF.gy rfl rfl rfl ?_
          refine QF.eqs rfl rfl fl_25 rfl rfl rfl rfl ?_
          refine QF.pick rfl rfl rfl ?_
          cases hb110
          exact QF.cutn (sb 60 rfl (sb 55 rfl (sb 54 rfl (sb 52 rfl (sb 51 rfl (sb 4 rfl (sb 3 rfl (sb 2 rfl (sb 5 rfl (sb 6 rfl sb0))))))))))
      refine QF.as_ rfl rfl ?_
      refine QF.rcn (sb 2 rfl sb0) fun h117 hs118 e119 => ?_
      refine WF.ret (fun aa ww hf hw => ?_)
      have hs120 := hs118.drop .head
      have hs121 := hs120.drop .head
      cases E
      exact rtg hf rfl hw (rvc (rvT hf (v := _) rfl) rv0) rfl (e5.trans (e14.trans (e25.trans (e28.trans (e107.trans e119))))) ⟨rfl, hs121⟩

set_option maxRecDepth 10000 in
set_option maxHeartbeats 2000000 in
theorem harm_Add_ret {N : Nat} {S : Nat → Prop} {L : List HP} {h : Heap} (hs : St S L h) {v_p0_x : Value} {p0_x : GHarm} (h_p0_x : Rd S h RGHarm v_p0_x p0_x) {v_p1_y : Value} {p1_y : GHarm} (h_p1_y : Rd S h RGHarm v_p1_y p1_y) {r : GHarm} (E : f_harm_Add N p0_x p1_y = some r) :
    Ret Try.prog 8 #[v_p0_x, v_p1_y] S h (fun v S' h' => v = .agg #[.int .i64 r.Flood, .int .i64 r.Spill, .int .i64 r.Short, .int .i64 r.Moves] ∧ GHarm.ok r ∧ St S' (L) h') := by
  refine Ret.go (l := [v_p0_x, v_p1_y]) 26 Try.func8 rfl Try.ntmps8 rfl fun B => ?_
  rw [f_harm_Add] at E
  refine WF.seq ?_
  refine WF.rl ?_
  refine LF.boxp rfl h_p0_x (fun e => by cases e) rfl hs fun q1 S2 h3 hs4 e5 k6 => ?_
  have k7 := h_p1_y.mono e5
  refine LF.boxp rfl k7 (fun e => by cases e) rfl hs4 fun q8 S9 h10 hs11 e12 k13 => ?_
  refine LF.al zc_25 rfl hs11 fun b14 h15 hs16 e17 => ?_
  refine LF.nil (sb 4 rfl (sb 3 rfl (sb 2 rfl sb0))) ?_
  refine WF.seq ?_
  refine WF.rct 21 mo (by kernel_rfl) rfl hs16 ?_
  have k18 := k6.mono (e12.trans e17)
  refine QF.fa rfl k18 GHarm.f_Flood fa_25_0 rfl fun q19 k20 => ?_
  refine QF.ldi ckC hs16.1 rfl k20 ty_3 rfl fun r21 => ?_
  have k22 := k13.mono e17
  refine QF.fa rfl k22 GHarm.f_Flood fa_25_0 rfl fun q23 k24 => ?_
  refine QF.ldi ckC hs16.1 rfl k24 ty_3 rfl fun r25 => ?_
  obtain ⟨y26, hy26, E⟩ := bd E
  refine QF.callp (v := .int .i64 y26) (Ψ := inI64 y26) rfl rfl rfl ca_12 rfl (fun h' o => (exact_Add_ret (St.all h') r21 r25 hy26).mono fun _ _ _ _ p => ⟨p.1, p.2.1⟩) fun r27 => ?_
  have r28 := r27
  refine QF.fa rfl k18 GHarm.f_Spill fa_25_1 rfl fun q29 k30 => ?_
  refine QF.ldi ckC hs16.1 rfl k30 ty_3 rfl fun r31 => ?_
  refine QF.fa rfl k22 GHarm.f_Spill fa_25_1 rfl fun q32 k33 => ?_
  refine QF.ldi ckC hs16.1 rfl k33 ty_3 rfl fun r34 => ?_
  obtain ⟨y35, hy35, E⟩ := bd E
  refine QF.callp (v := .int .i64 y35) (Ψ := inI64 y35) rfl rfl rfl ca_12 rfl (fun h' o => (exact_Add_ret (St.all h') r31 r34 hy35).mono fun _ _ _ _ p => ⟨p.1, p.2.1⟩) fun r36 => ?_
  have r37 := r36
  refine QF.fa rfl k18 GHarm.f_Short fa_25_2 rfl fun q38 k39 => ?_
  refine QF.ldi ckC hs16.1 rfl k39 ty_3 rfl fun r40 => ?_
  refine QF.fa rfl k22 GHarm.f_Short fa_25_2 rfl fun q41 k42 => ?_
  refine QF.ldi ckC hs16.1 rfl k42 ty_3 rfl fun r43 => ?_
  obtain ⟨y44, hy44, E⟩ := bd E
  refine QF.callp (v := .int .i64 y44) (Ψ := inI64 y44) rfl rfl rfl ca_12 rfl (fun h' o => (exact_Add_ret (St.all h') r40 r43 hy44).mono fun _ _ _ _ p => ⟨p.1, p.2.1⟩) fun r45 => ?_
  have r46 := r45
  refine QF.fa rfl k18 GHarm.f_Moves fa_25_3 rfl fun q47 k48 => ?_
  refine QF.ldi ckC hs16.1 rfl k48 ty_3 rfl fun r49 => ?_
  refine QF.fa rfl k22 GHarm.f_Moves fa_25_3 rfl fun q50 k51 => ?_
  refine QF.ldi ckC hs16.1 rfl k51 ty_3 rfl fun r52 => ?_
  obtain ⟨y53, hy53, E⟩ := bd E
  refine QF.callp (v := .int .i64 y53) (Ψ := inI64 y53) rfl rfl rfl ca_12 rfl (fun h' o => (exact_Add_ret (St.all h') r49 r52 hy53).mono fun _ _ _ _ p => ⟨p.1, p.2.1⟩) fun r54 => ?_
  have r55 := r54
  refine QF.bld (cs := [.int .i64 y26, .int .i64 y35, .int .i64 y44, .int .i64 y53]) st_25 rfl rfl rfl ?_
  refine QF.rctn fun h56 hs57 e58 => ?_
  refine LF.st (vs := [.int .i64 y26, .int .i64 y35, .int .i64 y44, .int .i64 y53]) (cs' := [.int .i64 y26, .int .i64 y35, .int .i64 y44, .int .i64 y53]) rfl rfl rfl (by simp [Value.oneCell']) ty_25 rfl hs57 .head rfl rfl fun h59 hs60 e61 => ?_
  refine LF.nil (sb 4 rfl sb0) ?_
  refine WF.ret (fun aa ww hf hw => ?_)
  have hs62 := hs60.drop .head
  cases E
  exact rtg hf rfl hw (rvc (rvC hf hw hs60 rfl mh ty_25 rfl) rv0) rfl (e5.trans (e12.trans (e17.trans (e58.trans e61)))) ⟨rfl, ⟨r28, r37, r46, r55⟩, hs62⟩

set_option maxRecDepth 10000 in
set_option maxHeartbeats 2000000 in
theorem bournelaw33_HarmOrders_ret {N : Nat} {S : Nat → Prop} {L : List HP} {h : Heap} (hs : St S L h) {v_p0_x : Value} {p0_x : GHarm} (h_p0_x : Rd S h RGHarm v_p0_x p0_x) {v_p1_y : Value} {p1_y : GHarm} (h_p1_y : Rd S h RGHarm v_p1_y p1_y) {v_p2_z : Value} {p2_z : GHarm} (h_p2_z : Rd S h RGHarm v_p2_z p2_z) {r : Bool} (E : f_bournelaw33_HarmOrders N p0_x p1_y p2_z = some r) :
    Ret Try.prog 4 #[v_p0_x, v_p1_y, v_p2_z] S h (fun v S' h' => v = .bool r ∧ St S' (L) h') := by
  refine Ret.go (l := [v_p0_x, v_p1_y, v_p2_z]) 154 Try.func4 rfl Try.ntmps4 rfl fun B => ?_
  rw [f_bournelaw33_HarmOrders] at E
  refine WF.seq ?_
  refine WF.rl ?_
  refine LF.boxp rfl h_p0_x (fun e => by cases e) rfl hs fun q1 S2 h3 hs4 e5 k6 => ?_
  have k7 := h_p1_y.mono e5
  refine LF.boxp rfl k7 (fun e => by cases e) rfl hs4 fun q8 S9 h10 hs11 e12 k13 => ?_
  have k14 := h_p2_z.mono (e5.trans e12)
  refine LF.boxp rfl k14 (fun e => by cases e) rfl hs11 fun q15 S16 h17 hs18 e19 k20 => ?_
  refine LF.q 1 ?_
  refine QF.as_ rfl rfl ?_
  refine QF.ln ?_
  refine LF.nil (sb 6 rfl (sb 5 rfl (sb 4 rfl (sb 3 rfl sb0)))) ?_
  refine WF.seq ?_
  refine WF.rc (.inl rfl) hs18 ?_
  obtain ⟨y21, hy21, E⟩ := bd E
  refine QF.callp (v := .bool y21) (Ψ := True) rfl rfl rfl ca_5 rfl (fun h' o => (bournelaw33_small_ret (St.all h') hy21).mono fun _ _ _ _ p => ⟨p.1, trivial⟩) fun r22 => ?_
  refine QF.as_ rfl rfl ?_
  refine QF.rcn (sb 7 rfl (sb 6 rfl (sb 5 rfl (sb 4 rfl (sb 3 rfl sb0))))) fun h23 hs24 e25 => ?_
  refine WF.seq ?_
  refine WF.rc (.inl rfl) hs24 ?_
  have k26 := k6.mono (e12.trans (e19.trans e25))
  refine QF.ld ckC hs24.1 rfl k26 ty_25 (fun e => by cases e) rfl fun v27 k28 => ?_
  have k29 := k13.mono (e19.trans e25)
  refine QF.ld ckC hs24.1 rfl k29 ty_25 (fun e => by cases e) rfl fun v30 k31 => ?_
  obtain ⟨y32, hy32, E⟩ := bd E
  refine QF.callp (v := .bool y32) (Ψ := True) rfl rfl rfl ca_7 rfl (fun h' o => (harm_Less_ret (St.all h') (k28.mono (o.all hs24.1)) (k31.mono (o.all hs24.1)) hy32).mono fun _ _ _ _ p => ⟨p.1, trivial⟩) fun r33 => ?_
  refine QF.as_ rfl rfl ?_
  refine QF.rcn (sb 8 rfl (sb 7 rfl (sb 6 rfl (sb 5 rfl (sb 4 rfl (sb 3 rfl sb0)))))) fun h34 hs35 e36 => ?_
  refine WF.seq ?_
  refine WF.rc (.inl rfl) hs35 ?_
  have k37 := k29.mono e36
  refine QF.ld ckC hs35.1 rfl k37 ty_25 (fun e => by cases e) rfl fun v38 k39 => ?_
  have k40 := k26.mono e36
  refine QF.ld ckC hs35.1 rfl k40 ty_25 (fun e => by cases e) rfl fun v41 k42 => ?_
  obtain ⟨y43, hy43, E⟩ := bd E
  refine QF.callp (v := .bool y43) (Ψ := True) rfl rfl rfl ca_7 rfl (fun h' o => (harm_Less_ret (St.all h') (k39.mono (o.all hs35.1)) (k42.mono (o.all hs35.1)) hy43).mono fun _ _ _ _ p => ⟨p.1, trivial⟩) fun r44 => ?_
  refine QF.as_ rfl rfl ?_
  refine QF.rcn (sb 9 rfl (sb 8 rfl (sb 7 rfl (sb 6 rfl (sb 5 rfl (sb 4 rfl (sb 3 rfl sb0))))))) fun h45 hs46 e47 => ?_
  refine WF.seq ?_
  refine WF.seq ?_
  refine WF.rc (.inl rfl) hs46 ?_
  refine QF.mv rfl rfl ?_
  refine QF.mv rfl rfl ?_
  refine QF.cutv 2 24 (.bool (y32 && y43)) ?_ ?_
  · cases c48 : y32
    · skip
      refine QF.gnF rfl rfl rfl rfl rfl ?_
      refine QF.pick rfl rfl rfl ?_
      exact QF.cutn (sb 24 rfl (sb 22 rfl (sb 21 rfl (sb 9 rfl (sb 8 rfl (sb 7 rfl (sb 6 rfl (sb 5 rfl (sb 4 rfl (sb 3 rfl sb0))))))))))
    · skip
      refine QF.gy rfl rfl rfl ?_
      refine QF.mv rfl rfl ?_
      refine QF.pick rfl rfl rfl ?_
      exact QF.cutn (sb 24 rfl (sb 22 rfl (sb 21 rfl (sb 9 rfl (sb 8 rfl (sb 7 rfl (sb 6 rfl (sb 5 rfl (sb 4 rfl (sb 3 rfl sb0))))))))))
  refine QF.mv rfl rfl ?_
  refine QF.cutv 11 36 (.bool ((y32 && y43) || (!((eqC p0_x.v p1_y.v) == ((!y32) && (!y43)))))) ?_ ?_
  · cases c49 : (y32 && y43)
    · skip
      refine QF.gy rfl rfl rfl ?_
      have k50 := k40.mono e47
      refine QF.ld ckC hs46.1 rfl k50 ty_25 (fun e => by cases e) rfl fun v51 k52 => ?_
      refine QF.gy rfl rfl rfl ?_
      have k53 := k37.mono e47
      refine QF.ld ckC hs46.1 rfl k53 ty_25 (fun e => by cases e) rfl fun v54 k55 => ?_
      refine QF.gy rfl rfl rfl ?_
      obtain ⟨rfl, ⟨r57, r58, r59, r60⟩⟩ := RGHarm.ex k52
      obtain ⟨rfl, ⟨r62, r63, r64, r65⟩⟩ := RGHarm.ex k55
      refine QF.eqs rfl rfl fl_25 rfl rfl rfl rfl ?_
      refine QF.gy rfl rfl rfl ?_
      refine QF.mv rfl rfl ?_
      refine QF.gy rfl rfl rfl ?_
      refine QF.not rfl rfl ?_
      refine QF.gy rfl rfl rfl ?_
      refine QF.mv rfl rfl ?_
      refine QF.cutv 3 34 (.bool ((!y32) && (!y43))) ?_ ?_
      · cases c66 : (!y32)
        · skip
          refine QF.gnF rfl rfl rfl rfl rfl ?_
          refine QF.gnF rfl rfl rfl rfl rfl ?_
          refine QF.gy rfl rfl rfl ?_
          refine QF.pick rfl rfl rfl ?_
          exact QF.cutn (sb 34 rfl (sb 31 rfl (sb 30 rfl (sb 29 rfl (sb 28 rfl (sb 27 rfl (sb 26 rfl (sb 25 rfl (sb 24 rfl (sb 22 rfl (sb 21 rfl (sb 9 rfl (sb 8 rfl (sb 7 rfl (sb 6 rfl (sb 5 rfl (sb 4 rfl (sb 3 rfl sb0))))))))))))))))))
        · skip
          refine QF.gy rfl rfl rfl ?_
          refine QF.mv rfl rfl ?_
          refine QF.gy rfl rfl rfl ?_
          refine QF.not rfl rfl ?_
          refine QF.gy rfl rfl rfl ?_
          refine QF.pick rfl rfl rfl ?_
          exact QF.cutn (sb 34 rfl (sb 31 rfl (sb 30 rfl (sb 29 rfl (sb 28 rfl (sb 27 rfl (sb 26 rfl (sb 25 rfl (sb 24 rfl (sb 22 rfl (sb 21 rfl (sb 9 rfl (sb 8 rfl (sb 7 rfl (sb 6 rfl (sb 5 rfl (sb 4 rfl (sb 3 rfl sb0))))))))))))))))))
      refine QF.gy rfl rfl rfl ?_
      refine QF.neb rfl rfl ub_4 rfl ?_
      refine QF.pick rfl rfl rfl ?_
      exact QF.cutn (sb 36 rfl (sb 25 rfl (sb 24 rfl (sb 22 rfl (sb 21 rfl (sb 9 rfl (sb 8 rfl (sb 7 rfl (sb 6 rfl (sb 5 rfl (sb 4 rfl (sb 3 rfl sb0))))))))))))
    · skip
      refine QF.gnT rfl rfl rfl rfl rfl ?_
      refine QF.gnT rfl rfl rfl rfl rfl ?_
      refine QF.gnT rfl rfl rfl rfl rfl ?_
      refine QF.gnT rfl rfl rfl rfl rfl ?_
      refine QF.gnT rfl rfl rfl rfl rfl ?_
      refine QF.gnT rfl rfl rfl rfl rfl ?_
      refine QF.gnu rfl rfl rfl rfl rfl ?_
      refine QF.gnu rfl rfl rfl rfl rfl ?_
      refine QF.gnT rfl rfl rfl rfl rfl ?_
      refine QF.gnT rfl rfl rfl rfl rfl ?_
      refine QF.pick rfl rfl rfl ?_
      exact QF.cutn (sb 36 rfl (sb 25 rfl (sb 24 rfl (sb 22 rfl (sb 21 rfl (sb 9 rfl (sb 8 rfl (sb 7 rfl (sb 6 rfl (sb 5 rfl (sb 4 rfl (sb 3 rfl sb0))))))))))))
  refine QF.mv rfl rfl ?_
  obtain ⟨b68, hb68, E⟩ := bd E
  refine QF.cutv 13 50 (.bool b68) ?_ ?_
  · cases c67 : ((y32 && y43) || (!((eqC p0_x.v p1_y.v) == ((!y32) && (!y43)))))
    · skip
      have hb68 := cdF c67 hb68
      refine QF.gy rfl rfl rfl ?_
      refine QF.mv rfl rfl ?_
      refine QF.gy rfl rfl rfl ?_
      refine QF.mv rfl rfl ?_
      obtain ⟨b70, hb70, hb68⟩ := bd hb68
      refine QF.cutv 4 43 (.bool b70) ?_ ?_
      · cases c69 : y32
        · skip
          have hb70 := cdF c69 hb70
          cases hb70
          refine QF.gnF rfl rfl rfl rfl rfl ?_
          refine QF.gnF rfl rfl rfl rfl rfl ?_
          refine QF.gnF rfl rfl rfl rfl rfl ?_
          refine QF.gy rfl rfl rfl ?_
          refine QF.pick rfl rfl rfl ?_
          exact QF.cutn (sb 43 rfl (sb 39 rfl (sb 38 rfl (sb 37 rfl (sb 36 rfl (sb 25 rfl (sb 24 rfl (sb 22 rfl (sb 21 rfl (sb 9 rfl (sb 8 rfl (sb 7 rfl (sb 6 rfl (sb 5 rfl (sb 4 rfl (sb 3 rfl sb0))))))))))))))))
        · skip
          have hb70 := cdT c69 hb70
          refine QF.gy rfl rfl rfl ?_
          have k71 := k37.mono e47
          refine QF.ld ckC hs46.1 rfl k71 ty_25 (fun e => by cases e) rfl fun v72 k73 => ?_
          refine QF.gy rfl rfl rfl ?_
          have k74 := k20.mono (e25.trans (e36.trans e47))
          refine QF.ld ckC hs46.1 rfl k74 ty_25 (fun e => by cases e) rfl fun v75 k76 => ?_
          refine QF.gy rfl rfl rfl ?_
          obtain ⟨y77, hy77, hb70⟩ := bd hb70
          refine QF.callp (v := .bool y77) (Ψ := True) rfl rfl rfl ca_7 rfl (fun h' o => (harm_Less_ret (St.all h') (k73.mono (o.all hs46.1)) (k76.mono (o.all hs46.1)) hy77).mono fun _ _ _ _ p => ⟨p.1, trivial⟩) fun r78 => ?_
          refine QF.gy rfl rfl rfl ?_
          refine QF.pick rfl rfl rfl ?_
          cases hb70
          exact QF.cutn (sb 43 rfl (sb 39 rfl (sb 38 rfl (sb 37 rfl (sb 36 rfl (sb 25 rfl (sb 24 rfl (sb 22 rfl (sb 21 rfl (sb 9 rfl (sb 8 rfl (sb 7 rfl (sb 6 rfl (sb 5 rfl (sb 4 rfl (sb 3 rfl sb0))))))))))))))))
      refine QF.gy rfl rfl rfl ?_
      refine QF.mv rfl rfl ?_
      obtain ⟨b80, hb80, hb68⟩ := bd hb68
      refine QF.cutv 5 49 (.bool b80) ?_ ?_
      · cases c79 : b70
        · skip
          have hb80 := cdF c79 hb80
          cases hb80
          refine QF.gnF rfl rfl rfl rfl rfl ?_
          refine QF.gnF rfl rfl rfl rfl rfl ?_
          refine QF.gnF rfl rfl rfl rfl rfl ?_
          refine QF.gnF rfl rfl rfl rfl rfl ?_
          refine QF.gy rfl rfl rfl ?_
          refine QF.pick rfl rfl rfl ?_
          exact QF.cutn (sb 49 rfl (sb 44 rfl (sb 43 rfl (sb 39 rfl (sb 38 rfl (sb 37 rfl (sb 36 rfl (sb 25 rfl (sb 24 rfl (sb 22 rfl (sb 21 rfl (sb 9 rfl (sb 8 rfl (sb 7 rfl (sb 6 rfl (sb 5 rfl (sb 4 rfl (sb 3 rfl sb0))))))))))))))))))
        · skip
          have hb80 := cdT c79 hb80
          refine QF.gy rfl rfl rfl ?_
          have k81 := k40.mono e47
          refine QF.ld ckC hs46.1 rfl k81 ty_25 (fun e => by cases e) rfl fun v82 k83 => ?_
          refine QF.gy rfl rfl rfl ?_
          have k84 := k20.mono (e25.trans (e36.trans e47))
          refine QF.ld ckC hs46.1 rfl k84 ty_25 (fun e => by cases e) rfl fun v85 k86 => ?_
          refine QF.gy rfl rfl rfl ?_
          obtain ⟨y87, hy87, hb80⟩ := bd hb80
          refine QF.callp (v := .bool y87) (Ψ := True) rfl rfl rfl ca_7 rfl (fun h' o => (harm_Less_ret (St.all h') (k83.mono (o.all hs46.1)) (k86.mono (o.all hs46.1)) hy87).mono fun _ _ _ _ p => ⟨p.1, trivial⟩) fun r88 => ?_
          refine QF.gy rfl rfl rfl ?_
          refine QF.not rfl rfl ?_
          refine QF.gy rfl rfl rfl ?_
          refine QF.pick rfl rfl rfl ?_
          cases hb80
          exact QF.cutn (sb 49 rfl (sb 44 rfl (sb 43 rfl (sb 39 rfl (sb 38 rfl (sb 37 rfl (sb 36 rfl (sb 25 rfl (sb 24 rfl (sb 22 rfl (sb 21 rfl (sb 9 rfl (sb 8 rfl (sb 7 rfl (sb 6 rfl (sb 5 rfl (sb 4 rfl (sb 3 rfl sb0))))))))))))))))))
      refine QF.pick rfl rfl rfl ?_
      cases hb68
      exact QF.cutn (sb 50 rfl (sb 37 rfl (sb 36 rfl (sb 25 rfl (sb 24 rfl (sb 22 rfl (sb 21 rfl (sb 9 rfl (sb 8 rfl (sb 7 rfl (sb 6 rfl (sb 5 rfl (sb 4 rfl (sb 3 rfl sb0))))))))))))))
    · skip
      have hb68 := cdT c67 hb68
      cases hb68
      refine QF.gnT rfl rfl rfl rfl rfl ?_
      refine QF.gnT rfl rfl rfl rfl rfl ?_
      refine QF.gnu rfl rfl rfl rfl rfl ?_
      refine QF.gnu rfl rfl rfl rfl rfl ?_
      refine QF.gnu rfl rfl rfl rfl rfl ?_
      refine QF.gnT rfl rfl rfl rfl rfl ?_
      refine QF.gnT rfl rfl rfl rfl rfl ?_
      refine QF.gnu rfl rfl rfl rfl rfl ?_
      refine QF.gnu rfl rfl rfl rfl rfl ?_
      refine QF.gnu rfl rfl rfl rfl rfl ?_
      refine QF.gnu rfl rfl rfl rfl rfl ?_
      refine QF.gnT rfl rfl rfl rfl rfl ?_
      refine QF.pick rfl rfl rfl ?_
      exact QF.cutn (sb 50 rfl (sb 37 rfl (sb 36 rfl (sb 25 rfl (sb 24 rfl (sb 22 rfl (sb 21 rfl (sb 9 rfl (sb 8 rfl (sb 7 rfl (sb 6 rfl (sb 5 rfl (sb 4 rfl (sb 3 rfl sb0))))))))))))))
  refine QF.rcn (sb 50 rfl (sb 8 rfl (sb 7 rfl (sb 6 rfl (sb 5 rfl (sb 4 rfl (sb 3 rfl sb0))))))) fun h89 hs90 e91 => ?_
  refine WF.if_ rfl (fun c92 => ?_) (fun c92 => ?_)
  · skip
    have E := cdT c92 E
    refine WF.seq ?_
    refine WF.rp (.inl rfl) ?_
    refine QF.as_ rfl rfl ?_
    refine QF.rpn (sb 6 rfl (sb 8 rfl (sb 7 rfl (sb 5 rfl (sb 4 rfl (sb 3 rfl sb0)))))) ?_
    refine WF.ret (fun aa ww hf hw => ?_)
    cases E
    exact rtg hf rfl hw (rvc (rvT hf (v := _) rfl) rv0) rfl (e5.trans (e12.trans (e19.trans (e25.trans (e36.trans (e47.trans e91)))))) ⟨rfl, hs90⟩
  · skip
    have E := cdF c92 E
    refine WF.skip ?_
    refine WF.seq ?_
    refine WF.rp (.inl rfl) ?_
    refine QF.as_ rfl rfl ?_
    refine QF.rpn (sb 10 rfl (sb 8 rfl (sb 7 rfl (sb 6 rfl (sb 5 rfl (sb 4 rfl (sb 3 rfl sb0))))))) ?_
    refine WF.seq ?_
    refine WF.rl ?_
    refine LF.q 24 ?_
    have k93 := k40.mono (e47.trans e91)
    refine QF.fa rfl k93 GHarm.f_Flood fa_25_0 rfl fun q94 k95 => ?_
    refine QF.ldi ckP hs90.1 rfl k95 ty_3 rfl fun r96 => ?_
    refine QF.fa rfl k93 GHarm.f_Spill fa_25_1 rfl fun q97 k98 => ?_
    refine QF.ldi ckP hs90.1 rfl k98 ty_3 rfl fun r99 => ?_
    refine QF.fa rfl k93 GHarm.f_Short fa_25_2 rfl fun q100 k101 => ?_
    refine QF.ldi ckP hs90.1 rfl k101 ty_3 rfl fun r102 => ?_
    refine QF.fa rfl k93 GHarm.f_Moves fa_25_3 rfl fun q103 k104 => ?_
    refine QF.ldi ckP hs90.1 rfl k104 ty_3 rfl fun r105 => ?_
    have k106 := k37.mono (e47.trans e91)
    refine QF.fa rfl k106 GHarm.f_Flood fa_25_0 rfl fun q107 k108 => ?_
    refine QF.ldi ckP hs90.1 rfl k108 ty_3 rfl fun r109 => ?_
    refine QF.fa rfl k106 GHarm.f_Spill fa_25_1 rfl fun q110 k111 => ?_
    refine QF.ldi ckP hs90.1 rfl k111 ty_3 rfl fun r112 => ?_
    refine QF.fa rfl k106 GHarm.f_Short fa_25_2 rfl fun q113 k114 => ?_
    refine QF.ldi ckP hs90.1 rfl k114 ty_3 rfl fun r115 => ?_
    refine QF.fa rfl k106 GHarm.f_Moves fa_25_3 rfl fun q116 k117 => ?_
    refine QF.ldi ckP hs90.1 rfl k117 ty_3 rfl fun r118 => ?_
    have k119 := k20.mono (e25.trans (e36.trans (e47.trans e91)))
    refine QF.fa rfl k119 GHarm.f_Flood fa_25_0 rfl fun q120 k121 => ?_
    refine QF.ldi ckP hs90.1 rfl k121 ty_3 rfl fun r122 => ?_
    refine QF.fa rfl k119 GHarm.f_Spill fa_25_1 rfl fun q123 k124 => ?_
    refine QF.ldi ckP hs90.1 rfl k124 ty_3 rfl fun r125 => ?_
    refine QF.fa rfl k119 GHarm.f_Short fa_25_2 rfl fun q126 k127 => ?_
    refine QF.ldi ckP hs90.1 rfl k127 ty_3 rfl fun r128 => ?_
    refine QF.fa rfl k119 GHarm.f_Moves fa_25_3 rfl fun q129 k130 => ?_
    refine QF.ldi ckP hs90.1 rfl k130 ty_3 rfl fun r131 => ?_
    refine QF.ln ?_
    refine LF.bsq (cs := [.int .i64 p0_x.Flood, .int .i64 p0_x.Spill, .int .i64 p0_x.Short, .int .i64 p0_x.Moves, .int .i64 p1_y.Flood, .int .i64 p1_y.Spill, .int .i64 p1_y.Short, .int .i64 p1_y.Moves, .int .i64 p2_z.Flood, .int .i64 p2_z.Spill, .int .i64 p2_z.Short, .int .i64 p2_z.Moves]) el_29 rfl rfl rfl rfl rfl rfl rfl hs90 fun b132 h133 hs134 e135 => ?_
    refine LF.q 1 ?_
    refine QF.as_ rfl rfl ?_
    refine QF.ln ?_
    refine LF.nil (sb 11 rfl (sb 10 rfl (sb 8 rfl (sb 7 rfl (sb 6 rfl (sb 5 rfl (sb 4 rfl (sb 3 rfl sb0)))))))) ?_
    refine WF.seq ?_
    refine WF.rp (.inl rfl) ?_
    refine QF.as_ rfl rfl ?_
    refine QF.rpn (sb 12 rfl (sb 11 rfl (sb 10 rfl (sb 8 rfl (sb 7 rfl (sb 6 rfl (sb 5 rfl (sb 4 rfl (sb 3 rfl sb0))))))))) ?_
    refine WF.seq ?_
    refine WF.seq ?_
    refine WF.rp (.inl rfl) ?_
    refine QF.as_ rfl rfl ?_
    refine QF.rpn (sb 13 rfl (sb 12 rfl (sb 11 rfl (sb 10 rfl (sb 8 rfl (sb 7 rfl (sb 6 rfl (sb 5 rfl (sb 4 rfl (sb 3 rfl sb0)))))))))) ?_
    refine WF.blockJ (fun a w => ∃ (b136 : Bool) (S' : Nat → Prop) (h' : Heap), Fr 154 a [(8, .bool y32), (7, .bool y21), (6, .bool false), (5, q15), (4, q8), (3, q1), (12, .bool b136)] ∧ Wd B h' w ∧ St S' (L) h' ∧ Ext S16 h133 S' h' ∧ f_bournelaw33_HarmOrders_j0 N p0_x p1_y p2_z y21 y32 b136 = some r) ?_ ?_
    · skip
      have hs137 := hs134.bxos (r := Rep.int) (l := ([p0_x.Flood, p0_x.Spill, p0_x.Short, p0_x.Moves, p1_y.Flood, p1_y.Spill, p1_y.Short, p1_y.Moves, p2_z.Flood, p2_z.Spill, p2_z.Short, p2_z.Moves] : List Int)) .head ⟨_, _, rfl, ⟨rfl, r96⟩, ⟨_, _, rfl, ⟨rfl, r99⟩, ⟨_, _, rfl, ⟨rfl, r102⟩, ⟨_, _, rfl, ⟨rfl, r105⟩, ⟨_, _, rfl, ⟨rfl, r109⟩, ⟨_, _, rfl, ⟨rfl, r112⟩, ⟨_, _, rfl, ⟨rfl, r115⟩, ⟨_, _, rfl, ⟨rfl, r118⟩, ⟨_, _, rfl, ⟨rfl, r122⟩, ⟨_, _, rfl, ⟨rfl, r125⟩, ⟨_, _, rfl, ⟨rfl, r128⟩, ⟨_, _, rfl, ⟨rfl, r131⟩, rfl⟩⟩⟩⟩⟩⟩⟩⟩⟩⟩⟩⟩ (by simp [maxLen])
      obtain ⟨S138, hs139, e140, k141⟩ := hs137.pubs .head
      refine WF.loopF (fun n1 => fun a w => ∃ (b145 : Bool) (i146 : Int) (S' : Nat → Prop) (h' : Heap), Fr 154 a [(11, (.slice (some ⟨b132, 0, none⟩) 12 12)), (10, .int .i64 1152921504606846976), (8, .bool y32), (7, .bool y21), (6, .bool false), (5, q15), (4, q8), (3, q1), (12, .bool b145), (13, .int .i64 i146)] ∧ Wd B h' w ∧ St S' (L) h' ∧ Ext S138 h133 S' h' ∧ inI64 i146 ∧ f_bournelaw33_HarmOrders_l1 N p0_x p1_y p2_z (f_bournelaw33_HarmOrders_j0 N p0_x p1_y p2_z y21 y32) n1 b145 i146 = some r) N ?_ ?_ ?_
      · intro aa ww hf hw
        exact ⟨true, 0, _, _, hf.sub (sb 11 rfl (sb 10 rfl (sb 8 rfl (sb 7 rfl (sb 6 rfl (sb 5 rfl (sb 4 rfl (sb 3 rfl (sb 12 rfl (sb 13 rfl sb0)))))))))), hw, hs139, (Ext.refl S138 h133), (show inI64 0 by unfold inI64; omega), E⟩
      · rintro aa ww ⟨_, _, _, _, _, _, _, _, _, E⟩
        rw [f_bournelaw33_HarmOrders_l1] at E; cases E
      · skip
        rintro n1 aa ww ⟨b145, i146, S148, h149, hf, hw, hs150, e151, r147, E⟩
        refine WF.run ?_ hf hw
        clear hf hw ww aa
        rw [f_bournelaw33_HarmOrders_l1] at E
        refine WF.seq ?_
        refine WF.seq ?_
        refine WF.rp (.inl rfl) ?_
        refine QF.mv rfl rfl ?_
        refine QF.mv rfl rfl ?_
        have k152 := k141.mono' e151
        refine QF.len rfl k152 sl_29 rfl fun b153 => ?_
        unfold maxLen at b153
        refine QF.lss rfl rfl rfl ?_
        refine QF.rpn (sb 79 rfl (sb 78 rfl (sb 77 rfl (sb 76 rfl (sb 11 rfl (sb 10 rfl (sb 8 rfl (sb 7 rfl (sb 6 rfl (sb 5 rfl (sb 4 rfl (sb 3 rfl (sb 12 rfl (sb 13 rfl sb0)))))))))))))) ?_
        refine WF.if_ rfl (fun c154 => ?_) (fun c154 => ?_)
        · skip
          have E := cdT c154 E
          refine WF.skip ?_
          refine WF.seq ?_
          refine WF.block ?_
          refine WF.rp (.inl rfl) ?_
          refine QF.mv rfl rfl ?_
          refine QF.mv rfl rfl ?_
          obtain ⟨b156, hb156, E⟩ := bd E
          refine QF.cutv 8 91 (.bool b156) ?_ ?_
          · cases c155 : b145
            · skip
              have hb156 := cdF c155 hb156
              cases hb156
              refine QF.gnF rfl rfl rfl rfl rfl ?_
              refine QF.gnF rfl rfl rfl rfl rfl ?_
              refine QF.gnF rfl rfl rfl rfl rfl ?_
              refine QF.gnF rfl rfl rfl rfl rfl ?_
              refine QF.gnF rfl rfl rfl rfl rfl ?_
              refine QF.gnF rfl rfl rfl rfl rfl ?_
              refine QF.gnF rfl rfl rfl rfl rfl ?_
              refine QF.pick rfl rfl rfl ?_
              exact QF.cutn (sb 91 rfl (sb 83 rfl (sb 82 rfl (sb 79 rfl (sb 78 rfl (sb 77 rfl (sb 76 rfl (sb 11 rfl (sb 10 rfl (sb 8 rfl (sb 7 rfl (sb 6 rfl (sb 5 rfl (sb 4 rfl (sb 3 rfl (sb 12 rfl (sb 13 rfl sb0)))))))))))))))))
            · skip
              have hb156 := cdT c155 hb156
              refine QF.gy rfl rfl rfl ?_
              refine QF.mv rfl rfl ?_
              refine QF.gy rfl rfl rfl ?_
              refine QF.mv rfl rfl ?_
              refine QF.gy rfl rfl rfl ?_
              have k157 := k141.mono' e151
              obtain ⟨x158, hx158, hb156⟩ := bd hb156
              refine QF.ixe rfl rfl k157 sl_29 hx158 rfl fun q159 k160 => ?_
              refine QF.gy rfl rfl rfl ?_
              refine QF.ldi ckP hs150.1 rfl k160 ty_3 rfl fun r161 => ?_
              refine QF.gy rfl rfl rfl ?_
              refine QF.mv rfl rfl ?_
              refine QF.gy rfl rfl rfl ?_
              refine QF.negw rfl rfl ?_
              refine QF.gy rfl rfl rfl ?_
              refine QF.geq rfl rfl rfl ?_
              refine QF.pick rfl rfl rfl ?_
              cases hb156
              exact QF.cutn (sb 91 rfl (sb 83 rfl (sb 82 rfl (sb 79 rfl (sb 78 rfl (sb 77 rfl (sb 76 rfl (sb 11 rfl (sb 10 rfl (sb 8 rfl (sb 7 rfl (sb 6 rfl (sb 5 rfl (sb 4 rfl (sb 3 rfl (sb 12 rfl (sb 13 rfl sb0)))))))))))))))))
          refine QF.mv rfl rfl ?_
          obtain ⟨b163, hb163, E⟩ := bd E
          refine QF.cutv 7 99 (.bool b163) ?_ ?_
          · cases c162 : b156
            · skip
              have hb163 := cdF c162 hb163
              cases hb163
              refine QF.gnF rfl rfl rfl rfl rfl ?_
              refine QF.gnF rfl rfl rfl rfl rfl ?_
              refine QF.gnF rfl rfl rfl rfl rfl ?_
              refine QF.gnF rfl rfl rfl rfl rfl ?_
              refine QF.gnF rfl rfl rfl rfl rfl ?_
              refine QF.gnF rfl rfl rfl rfl rfl ?_
              refine QF.pick rfl rfl rfl ?_
              exact QF.cutn (sb 99 rfl (sb 92 rfl (sb 91 rfl (sb 83 rfl (sb 82 rfl (sb 79 rfl (sb 78 rfl (sb 77 rfl (sb 76 rfl (sb 11 rfl (sb 10 rfl (sb 8 rfl (sb 7 rfl (sb 6 rfl (sb 5 rfl (sb 4 rfl (sb 3 rfl (sb 12 rfl (sb 13 rfl sb0)))))))))))))))))))
            · skip
              have hb163 := cdT c162 hb163
              refine QF.gy rfl rfl rfl ?_
              refine QF.mv rfl rfl ?_
              refine QF.gy rfl rfl rfl ?_
              refine QF.mv rfl rfl ?_
              refine QF.gy rfl rfl rfl ?_
              have k164 := k141.mono' e151
              obtain ⟨x165, hx165, hb163⟩ := bd hb163
              refine QF.ixe rfl rfl k164 sl_29 hx165 rfl fun q166 k167 => ?_
              refine QF.gy rfl rfl rfl ?_
              refine QF.ldi ckP hs150.1 rfl k167 ty_3 rfl fun r168 => ?_
              refine QF.gy rfl rfl rfl ?_
              refine QF.mv rfl rfl ?_
              refine QF.gy rfl rfl rfl ?_
              refine QF.leq rfl rfl rfl ?_
              refine QF.pick rfl rfl rfl ?_
              cases hb163
              exact QF.cutn (sb 99 rfl (sb 92 rfl (sb 91 rfl (sb 83 rfl (sb 82 rfl (sb 79 rfl (sb 78 rfl (sb 77 rfl (sb 76 rfl (sb 11 rfl (sb 10 rfl (sb 8 rfl (sb 7 rfl (sb 6 rfl (sb 5 rfl (sb 4 rfl (sb 3 rfl (sb 12 rfl (sb 13 rfl sb0)))))))))))))))))))
          refine QF.as_ rfl rfl ?_
          refine QF.rpn (sb 12 rfl (sb 99 rfl (sb 92 rfl (sb 91 rfl (sb 83 rfl (sb 82 rfl (sb 79 rfl (sb 78 rfl (sb 77 rfl (sb 76 rfl (sb 11 rfl (sb 10 rfl (sb 8 rfl (sb 7 rfl (sb 6 rfl (sb 5 rfl (sb 4 rfl (sb 3 rfl (sb 13 rfl sb0))))))))))))))))))) ?_
          refine WF.nilW ?_
          refine WF.rp (.inl rfl) ?_
          refine QF.mv rfl rfl ?_
          refine QF.addw rfl rfl rfl ?_
          refine QF.as_ rfl rfl ?_
          refine QF.rpn (sb 13 rfl (sb 81 rfl (sb 80 rfl (sb 12 rfl (sb 99 rfl (sb 92 rfl (sb 91 rfl (sb 83 rfl (sb 82 rfl (sb 79 rfl (sb 78 rfl (sb 77 rfl (sb 76 rfl (sb 11 rfl (sb 10 rfl (sb 8 rfl (sb 7 rfl (sb 6 rfl (sb 5 rfl (sb 4 rfl (sb 3 rfl sb0))))))))))))))))))))) ?_
          refine WF.nil (fun aa ww hf hw => ?_)
          exact ⟨b163, (w64 (i146 + 1)), _, _, hf.sub (sb 11 rfl (sb 10 rfl (sb 8 rfl (sb 7 rfl (sb 6 rfl (sb 5 rfl (sb 4 rfl (sb 3 rfl (sb 12 rfl (sb 13 rfl sb0)))))))))), hw, hs150, e151, (w64_i _), E⟩
        · skip
          have E := cdF c154 E
          refine WF.exit rfl (fun aa ww hf hw => ?_)
          exact ⟨b145, _, _, hf.sub (sb 8 rfl (sb 7 rfl (sb 6 rfl (sb 5 rfl (sb 4 rfl (sb 3 rfl (sb 12 rfl sb0))))))), hw, hs150, (e140.trans e151), E⟩
    · skip
      rintro aa ww ⟨b136, S169, h170, hf, hw, hs171, e172, E⟩
      refine WF.run ?_ hf hw
      clear hf hw ww aa
      rw [f_bournelaw33_HarmOrders_j0] at E
      refine WF.seq ?_
      refine WF.seq ?_
      refine WF.rc (.inr ⟨mo, by kernel_rfl⟩) hs171 ?_
      refine QF.mv rfl rfl ?_
      refine QF.mv rfl rfl ?_
      obtain ⟨b174, hb174, E⟩ := bd E
      refine QF.cutv 10 111 (.bool b174) ?_ ?_
      · cases c173 : b136
        · skip
          have hb174 := cdF c173 hb174
          cases hb174
          refine QF.gnF rfl rfl rfl rfl rfl ?_
          refine QF.gnF rfl rfl rfl rfl rfl ?_
          refine QF.gnF rfl rfl rfl rfl rfl ?_
          refine QF.gnF rfl rfl rfl rfl rfl ?_
          refine QF.gnF rfl rfl rfl rfl rfl ?_
          refine QF.gnF rfl rfl rfl rfl rfl ?_
          refine QF.gnF rfl rfl rfl rfl rfl ?_
          refine QF.gnF rfl rfl rfl rfl rfl ?_
          refine QF.gnF rfl rfl rfl rfl rfl ?_
          refine QF.pick rfl rfl rfl ?_
          exact QF.cutn (sb 111 rfl (sb 101 rfl (sb 100 rfl (sb 8 rfl (sb 7 rfl (sb 6 rfl (sb 5 rfl (sb 4 rfl (sb 3 rfl (sb 12 rfl sb0))))))))))
        · skip
          have hb174 := cdT c173 hb174
          refine QF.gy rfl rfl rfl ?_
          refine QF.mv rfl rfl ?_
          refine QF.gy rfl rfl rfl ?_
          have k175 := k93.mono (e135.trans e172)
          refine QF.ld ckC hs171.1 rfl k175 ty_25 (fun e => by cases e) rfl fun v176 k177 => ?_
          refine QF.gy rfl rfl rfl ?_
          have k178 := k119.mono (e135.trans e172)
          refine QF.ld ckC hs171.1 rfl k178 ty_25 (fun e => by cases e) rfl fun v179 k180 => ?_
          refine QF.gy rfl rfl rfl ?_
          obtain ⟨y181, hy181, hb174⟩ := bd hb174
          refine QF.callp (v := .agg #[.int .i64 y181.Flood, .int .i64 y181.Spill, .int .i64 y181.Short, .int .i64 y181.Moves]) (Ψ := GHarm.ok y181) rfl rfl rfl ca_8 rfl (fun h' o => (harm_Add_ret (St.all h') (k177.mono (o.all hs171.1)) (k180.mono (o.all hs171.1)) hy181).mono fun _ _ _ _ p => ⟨p.1, p.2.1⟩) fun r182 => ?_
          obtain ⟨r183, r184, r185, r186⟩ := r182
          refine QF.gy rfl rfl rfl ?_
          have k187 := k106.mono (e135.trans e172)
          refine QF.ld ckC hs171.1 rfl k187 ty_25 (fun e => by cases e) rfl fun v188 k189 => ?_
          refine QF.gy rfl rfl rfl ?_
          refine QF.ld ckC hs171.1 rfl k178 ty_25 (fun e => by cases e) rfl fun v190 k191 => ?_
          refine QF.gy rfl rfl rfl ?_
          obtain ⟨y192, hy192, hb174⟩ := bd hb174
          refine QF.callp (v := .agg #[.int .i64 y192.Flood, .int .i64 y192.Spill, .int .i64 y192.Short, .int .i64 y192.Moves]) (Ψ := GHarm.ok y192) rfl rfl rfl ca_8 rfl (fun h' o => (harm_Add_ret (St.all h') (k189.mono (o.all hs171.1)) (k191.mono (o.all hs171.1)) hy192).mono fun _ _ _ _ p => ⟨p.1, p.2.1⟩) fun r193 => ?_
          obtain ⟨r194, r195, r196, r197⟩ := r193
          refine QF.gy rfl rfl rfl ?_
          obtain ⟨y198, hy198, hb174⟩ := bd hb174
          refine QF.callp (v := .bool y198) (Ψ := True) rfl rfl rfl ca_7 rfl (fun h' o => (harm_Less_ret (St.all h') (RGHarm.mk (x := y181) ⟨r183, r184, r185, r186⟩) (RGHarm.mk (x := y192) ⟨r194, r195, r196, r197⟩) hy198).mono fun _ _ _ _ p => ⟨p.1, trivial⟩) fun r199 => ?_
          refine QF.gy rfl rfl rfl ?_
          refine QF.neb rfl rfl ub_4 rfl ?_
          refine QF.pick rfl rfl rfl ?_
          cases hb174
          exact QF.cutn (sb 111 rfl (sb 101 rfl (sb 100 rfl (sb 8 rfl (sb 7 rfl (sb 6 rfl (sb 5 rfl (sb 4 rfl (sb 3 rfl (sb 12 rfl sb0))))))))))
      refine QF.rcn (sb 111 rfl (sb 7 rfl (sb 6 rfl (sb 5 rfl (sb 4 rfl (sb 3 rfl sb0)))))) fun h200 hs201 e202 => ?_
      refine WF.if_ rfl (fun c203 => ?_) (fun c203 => ?_)
      · skip
        have E := cdT c203 E
        refine WF.seq ?_
        refine WF.rp (.inl rfl) ?_
        refine QF.as_ rfl rfl ?_
        refine QF.rpn (sb 6 rfl (sb 7 rfl (sb 5 rfl (sb 4 rfl (sb 3 rfl sb0))))) ?_
        refine WF.ret (fun aa ww hf hw => ?_)
        cases E
        exact rtg hf rfl hw (rvc (rvT hf (v := _) rfl) rv0) rfl (e5.trans (e12.trans (e19.trans (e25.trans (e36.trans (e47.trans (e91.trans (e135.trans (e172.trans e202))))))))) ⟨rfl, hs201⟩
      · skip
        have E := cdF c203 E
        refine WF.skip ?_
        refine WF.seq ?_
        refine WF.seq ?_
        refine WF.rc (.inr ⟨mo, by kernel_rfl⟩) hs201 ?_
        have k204 := k119.mono (e135.trans (e172.trans e202))
        refine QF.fa rfl k204 GHarm.f_Flood fa_25_0 rfl fun q205 k206 => ?_
        refine QF.ldi ckC hs201.1 rfl k206 ty_3 rfl fun r207 => ?_
        refine QF.geq rfl rfl rfl ?_
        refine QF.mv rfl rfl ?_
        refine QF.cutv 4 119 (.bool ((decide (0 ≤ p2_z.Flood)) && (decide (0 ≤ p2_z.Spill)))) ?_ ?_
        · cases c208 : (decide (0 ≤ p2_z.Flood))
          · skip
            refine QF.gnF rfl rfl rfl rfl rfl ?_
            refine QF.gnF rfl rfl rfl rfl rfl ?_
            refine QF.gnF rfl rfl rfl rfl rfl ?_
            refine QF.pick rfl rfl rfl ?_
            exact QF.cutn (sb 119 rfl (sb 115 rfl (sb 114 rfl (sb 113 rfl (sb 112 rfl (sb 111 rfl (sb 7 rfl (sb 6 rfl (sb 5 rfl (sb 4 rfl (sb 3 rfl sb0)))))))))))
          · skip
            refine QF.gy rfl rfl rfl ?_
            refine QF.fa rfl k204 GHarm.f_Spill fa_25_1 rfl fun q209 k210 => ?_
            refine QF.gy rfl rfl rfl ?_
            refine QF.ldi ckC hs201.1 rfl k210 ty_3 rfl fun r211 => ?_
            refine QF.gy rfl rfl rfl ?_
            refine QF.geq rfl rfl rfl ?_
            refine QF.pick rfl rfl rfl ?_
            exact QF.cutn (sb 119 rfl (sb 115 rfl (sb 114 rfl (sb 113 rfl (sb 112 rfl (sb 111 rfl (sb 7 rfl (sb 6 rfl (sb 5 rfl (sb 4 rfl (sb 3 rfl sb0)))))))))))
        refine QF.mv rfl rfl ?_
        refine QF.cutv 4 124 (.bool (((decide (0 ≤ p2_z.Flood)) && (decide (0 ≤ p2_z.Spill))) && (decide (0 ≤ p2_z.Short)))) ?_ ?_
        · cases c212 : ((decide (0 ≤ p2_z.Flood)) && (decide (0 ≤ p2_z.Spill)))
          · skip
            refine QF.gnF rfl rfl rfl rfl rfl ?_
            refine QF.gnF rfl rfl rfl rfl rfl ?_
            refine QF.gnF rfl rfl rfl rfl rfl ?_
            refine QF.pick rfl rfl rfl ?_
            exact QF.cutn (sb 124 rfl (sb 120 rfl (sb 119 rfl (sb 115 rfl (sb 114 rfl (sb 113 rfl (sb 112 rfl (sb 111 rfl (sb 7 rfl (sb 6 rfl (sb 5 rfl (sb 4 rfl (sb 3 rfl sb0)))))))))))))
          · skip
            refine QF.gy rfl rfl rfl ?_
            refine QF.fa rfl k204 GHarm.f_Short fa_25_2 rfl fun q213 k214 => ?_
            refine QF.gy rfl rfl rfl ?_
            refine QF.ldi ckC hs201.1 rfl k214 ty_3 rfl fun r215 => ?_
            refine QF.gy rfl rfl rfl ?_
            refine QF.geq rfl rfl rfl ?_
            refine QF.pick rfl rfl rfl ?_
            exact QF.cutn (sb 124 rfl (sb 120 rfl (sb 119 rfl (sb 115 rfl (sb 114 rfl (sb 113 rfl (sb 112 rfl (sb 111 rfl (sb 7 rfl (sb 6 rfl (sb 5 rfl (sb 4 rfl (sb 3 rfl sb0)))))))))))))
        refine QF.mv rfl rfl ?_
        refine QF.cutv 4 129 (.bool ((((decide (0 ≤ p2_z.Flood)) && (decide (0 ≤ p2_z.Spill))) && (decide (0 ≤ p2_z.Short))) && (decide (0 ≤ p2_z.Moves)))) ?_ ?_
        · cases c216 : (((decide (0 ≤ p2_z.Flood)) && (decide (0 ≤ p2_z.Spill))) && (decide (0 ≤ p2_z.Short)))
          · skip
            refine QF.gnF rfl rfl rfl rfl rfl ?_
            refine QF.gnF rfl rfl rfl rfl rfl ?_
            refine QF.gnF rfl rfl rfl rfl rfl ?_
            refine QF.pick rfl rfl rfl ?_
            exact QF.cutn (sb 129 rfl (sb 125 rfl (sb 124 rfl (sb 120 rfl (sb 119 rfl (sb 115 rfl (sb 114 rfl (sb 113 rfl (sb 112 rfl (sb 111 rfl (sb 7 rfl (sb 6 rfl (sb 5 rfl (sb 4 rfl (sb 3 rfl sb0)))))))))))))))
          · skip
            refine QF.gy rfl rfl rfl ?_
            refine QF.fa rfl k204 GHarm.f_Moves fa_25_3 rfl fun q217 k218 => ?_
            refine QF.gy rfl rfl rfl ?_
            refine QF.ldi ckC hs201.1 rfl k218 ty_3 rfl fun r219 => ?_
            refine QF.gy rfl rfl rfl ?_
            refine QF.geq rfl rfl rfl ?_
            refine QF.pick rfl rfl rfl ?_
            exact QF.cutn (sb 129 rfl (sb 125 rfl (sb 124 rfl (sb 120 rfl (sb 119 rfl (sb 115 rfl (sb 114 rfl (sb 113 rfl (sb 112 rfl (sb 111 rfl (sb 7 rfl (sb 6 rfl (sb 5 rfl (sb 4 rfl (sb 3 rfl sb0)))))))))))))))
        refine QF.mv rfl rfl ?_
        obtain ⟨b221, hb221, E⟩ := bd E
        refine QF.cutv 6 136 (.bool b221) ?_ ?_
        · cases c220 : ((((decide (0 ≤ p2_z.Flood)) && (decide (0 ≤ p2_z.Spill))) && (decide (0 ≤ p2_z.Short))) && (decide (0 ≤ p2_z.Moves)))
          · skip
            have hb221 := cdF c220 hb221
            cases hb221
            refine QF.gnF rfl rfl rfl rfl rfl ?_
            refine QF.gnF rfl rfl rfl rfl rfl ?_
            refine QF.gnF rfl rfl rfl rfl rfl ?_
            refine QF.gnF rfl rfl rfl rfl rfl ?_
            refine QF.gnF rfl rfl rfl rfl rfl ?_
            refine QF.pick rfl rfl rfl ?_
            exact QF.cutn (sb 136 rfl (sb 130 rfl (sb 129 rfl (sb 125 rfl (sb 124 rfl (sb 120 rfl (sb 119 rfl (sb 115 rfl (sb 114 rfl (sb 113 rfl (sb 112 rfl (sb 111 rfl (sb 7 rfl (sb 6 rfl (sb 5 rfl (sb 4 rfl (sb 3 rfl sb0)))))))))))))))))
          · skip
            have hb221 := cdT c220 hb221
            refine QF.gy rfl rfl rfl ?_
            have k222 := k93.mono (e135.trans (e172.trans e202))
            refine QF.ld ckC hs201.1 rfl k222 ty_25 (fun e => by cases e) rfl fun v223 k224 => ?_
            refine QF.gy rfl rfl rfl ?_
            refine QF.ld ckC hs201.1 rfl k204 ty_25 (fun e => by cases e) rfl fun v225 k226 => ?_
            refine QF.gy rfl rfl rfl ?_
            obtain ⟨y227, hy227, hb221⟩ := bd hb221
            refine QF.callp (v := .agg #[.int .i64 y227.Flood, .int .i64 y227.Spill, .int .i64 y227.Short, .int .i64 y227.Moves]) (Ψ := GHarm.ok y227) rfl rfl rfl ca_8 rfl (fun h' o => (harm_Add_ret (St.all h') (k224.mono (o.all hs201.1)) (k226.mono (o.all hs201.1)) hy227).mono fun _ _ _ _ p => ⟨p.1, p.2.1⟩) fun r228 => ?_
            obtain ⟨r229, r230, r231, r232⟩ := r228
            refine QF.gy rfl rfl rfl ?_
            refine QF.ld ckC hs201.1 rfl k222 ty_25 (fun e => by cases e) rfl fun v233 k234 => ?_
            refine QF.gy rfl rfl rfl ?_
            obtain ⟨y235, hy235, hb221⟩ := bd hb221
            refine QF.callp (v := .bool y235) (Ψ := True) rfl rfl rfl ca_7 rfl (fun h' o => (harm_Less_ret (St.all h') (RGHarm.mk (x := y227) ⟨r229, r230, r231, r232⟩) (k234.mono (o.all hs201.1)) hy235).mono fun _ _ _ _ p => ⟨p.1, trivial⟩) fun r236 => ?_
            refine QF.pick rfl rfl rfl ?_
            cases hb221
            exact QF.cutn (sb 136 rfl (sb 130 rfl (sb 129 rfl (sb 125 rfl (sb 124 rfl (sb 120 rfl (sb 119 rfl (sb 115 rfl (sb 114 rfl (sb 113 rfl (sb 112 rfl (sb 111 rfl (sb 7 rfl (sb 6 rfl (sb 5 rfl (sb 4 rfl (sb 3 rfl sb0)))))))))))))))))
        refine QF.rcn (sb 136 rfl (sb 7 rfl (sb 6 rfl (sb 4 rfl (sb 3 rfl sb0))))) fun h237 hs238 e239 => ?_
        refine WF.if_ rfl (fun c240 => ?_) (fun c240 => ?_)
        · skip
          have E := cdT c240 E
          refine WF.seq ?_
          refine WF.rp (.inl rfl) ?_
          refine QF.as_ rfl rfl ?_
          refine QF.rpn (sb 6 rfl (sb 7 rfl (sb 4 rfl (sb 3 rfl sb0)))) ?_
          refine WF.ret (fun aa ww hf hw => ?_)
          cases E
          exact rtg hf rfl hw (rvc (rvT hf (v := _) rfl) rv0) rfl (e5.trans (e12.trans (e19.trans (e25.trans (e36.trans (e47.trans (e91.trans (e135.trans (e172.trans (e202.trans e239)))))))))) ⟨rfl, hs238⟩
        · skip
          have E := cdF c240 E
          refine WF.skip ?_
          refine WF.seq ?_
          refine WF.rc (.inr ⟨mo, by kernel_rfl⟩) hs238 ?_
          refine QF.mv rfl rfl ?_
          refine QF.mv rfl rfl ?_
          obtain ⟨b242, hb242, E⟩ := bd E
          refine QF.cutv 8 146 (.bool b242) ?_ ?_
          · cases c241 : y21
            · skip
              have hb242 := cdF c241 hb242
              cases hb242
              refine QF.gnF rfl rfl rfl rfl rfl ?_
              refine QF.gnF rfl rfl rfl rfl rfl ?_
              refine QF.gnF rfl rfl rfl rfl rfl ?_
              refine QF.gnF rfl rfl rfl rfl rfl ?_
              refine QF.gnF rfl rfl rfl rfl rfl ?_
              refine QF.gnF rfl rfl rfl rfl rfl ?_
              refine QF.gnF rfl rfl rfl rfl rfl ?_
              refine QF.pick rfl rfl rfl ?_
              exact QF.cutn (sb 146 rfl (sb 138 rfl (sb 137 rfl (sb 136 rfl (sb 7 rfl (sb 6 rfl (sb 4 rfl (sb 3 rfl sb0))))))))
            · skip
              have hb242 := cdT c241 hb242
              refine QF.gy rfl rfl rfl ?_
              have k243 := k93.mono (e135.trans (e172.trans (e202.trans e239)))
              refine QF.ld ckC hs238.1 rfl k243 ty_25 (fun e => by cases e) rfl fun v244 k245 => ?_
              refine QF.gy rfl rfl rfl ?_
              have k246 := k106.mono (e135.trans (e172.trans (e202.trans e239)))
              refine QF.ld ckC hs238.1 rfl k246 ty_25 (fun e => by cases e) rfl fun v247 k248 => ?_
              refine QF.gy rfl rfl rfl ?_
              obtain ⟨y249, hy249, hb242⟩ := bd hb242
              refine QF.callp (v := .agg #[.int .i64 y249.Flood, .int .i64 y249.Spill, .int .i64 y249.Short, .int .i64 y249.Moves]) (Ψ := GHarm.ok y249) rfl rfl rfl ca_8 rfl (fun h' o => (harm_Add_ret (St.all h') (k245.mono (o.all hs238.1)) (k248.mono (o.all hs238.1)) hy249).mono fun _ _ _ _ p => ⟨p.1, p.2.1⟩) fun r250 => ?_
              obtain ⟨r251, r252, r253, r254⟩ := r250
              refine QF.gy rfl rfl rfl ?_
              refine QF.ld ckC hs238.1 rfl k246 ty_25 (fun e => by cases e) rfl fun v255 k256 => ?_
              refine QF.gy rfl rfl rfl ?_
              refine QF.ld ckC hs238.1 rfl k243 ty_25 (fun e => by cases e) rfl fun v257 k258 => ?_
              refine QF.gy rfl rfl rfl ?_
              obtain ⟨y259, hy259, hb242⟩ := bd hb242
              refine QF.callp (v := .agg #[.int .i64 y259.Flood, .int .i64 y259.Spill, .int .i64 y259.Short, .int .i64 y259.Moves]) (Ψ := GHarm.ok y259) rfl rfl rfl ca_8 rfl (fun h' o => (harm_Add_ret (St.all h') (k256.mono (o.all hs238.1)) (k258.mono (o.all hs238.1)) hy259).mono fun _ _ _ _ p => ⟨p.1, p.2.1⟩) fun r260 => ?_
              obtain ⟨r261, r262, r263, r264⟩ := r260
              refine QF.gy rfl rfl rfl ?_
              refine QF.eqs rfl rfl fl_25 rfl rfl rfl rfl ?_
              refine QF.pick rfl rfl rfl ?_
              cases hb242
              exact QF.cutn (sb 146 rfl (sb 138 rfl (sb 137 rfl (sb 136 rfl (sb 7 rfl (sb 6 rfl (sb 4 rfl (sb 3 rfl sb0))))))))
          refine QF.mv rfl rfl ?_
          obtain ⟨b266, hb266, E⟩ := bd E
          refine QF.cutv 6 153 (.bool b266) ?_ ?_
          · cases c265 : b242
            · skip
              have hb266 := cdF c265 hb266
              cases hb266
              refine QF.gnF rfl rfl rfl rfl rfl ?_
              refine QF.gnF rfl rfl rfl rfl rfl ?_
              refine QF.gnF rfl rfl rfl rfl rfl ?_
              refine QF.gnF rfl rfl rfl rfl rfl ?_
              refine QF.gnF rfl rfl rfl rfl rfl ?_
              refine QF.pick rfl rfl rfl ?_
              exact QF.cutn (sb 153 rfl (sb 147 rfl (sb 146 rfl (sb 138 rfl (sb 137 rfl (sb 136 rfl (sb 7 rfl (sb 6 rfl (sb 4 rfl (sb 3 rfl sb0))))))))))
            · skip
              have hb266 := cdT c265 hb266
              refine QF.gy rfl rfl rfl ?_
              have k267 := k93.mono (e135.trans (e172.trans (e202.trans e239)))
              refine QF.ld ckC hs238.1 rfl k267 ty_25 (fun e => by cases e) rfl fun v268 k269 => ?_
              refine QF.gy rfl rfl rfl ?_
              refine QF.bld (cs := [.int .i64 0, .int .i64 0, .int .i64 0, .int .i64 0]) st_25 rfl rfl rfl ?_
              refine QF.gy rfl rfl rfl ?_
              obtain ⟨y270, hy270, hb266⟩ := bd hb266
              refine QF.callp (v := .agg #[.int .i64 y270.Flood, .int .i64 y270.Spill, .int .i64 y270.Short, .int .i64 y270.Moves]) (Ψ := GHarm.ok y270) rfl rfl rfl ca_8 rfl (fun h' o => (harm_Add_ret (St.all h') (k269.mono (o.all hs238.1)) (RGHarm.mk (x := (⟨0, 0, 0, 0⟩ : GHarm)) ⟨(show inI64 0 by unfold inI64; omega), (show inI64 0 by unfold inI64; omega), (show inI64 0 by unfold inI64; omega), (show inI64 0 by unfold inI64; omega)⟩) hy270).mono fun _ _ _ _ p => ⟨p.1, p.2.1⟩) fun r271 => ?_
              obtain ⟨r272, r273, r274, r275⟩ := r271
              refine QF.gy rfl rfl rfl ?_
              refine QF.ld ckC hs238.1 rfl k267 ty_25 (fun e => by cases e) rfl fun v276 k277 => ?_
              refine QF.gy rfl rfl rfl ?_
              obtain ⟨rfl, ⟨r279, r280, r281, r282⟩⟩ := RGHarm.ex k277
              refine QF.eqs rfl rfl fl_25 rfl rfl rfl rfl ?_
              refine QF.pick rfl rfl rfl ?_
              cases hb266
              exact QF.cutn (sb 153 rfl (sb 147 rfl (sb 146 rfl (sb 138 rfl (sb 137 rfl (sb 136 rfl (sb 7 rfl (sb 6 rfl (sb 4 rfl (sb 3 rfl sb0))))))))))
          refine QF.as_ rfl rfl ?_
          refine QF.rcn (sb 6 rfl sb0) fun h283 hs284 e285 => ?_
          refine WF.ret (fun aa ww hf hw => ?_)
          cases E
          exact rtg hf rfl hw (rvc (rvT hf (v := _) rfl) rv0) rfl (e5.trans (e12.trans (e19.trans (e25.trans (e36.trans (e47.trans (e91.trans (e135.trans (e172.trans (e202.trans (e239.trans e285))))))))))) ⟨rfl, hs284⟩

end Go.Proofs.Ytkbooafdccnkeaa
