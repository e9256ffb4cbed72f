/- Walks, part 5. By program. -/
import Derived.Test.YtibidnaedddfdaaWalk4
namespace Go.Proofs.Ytibidnaedddfdaa
open Go.RowKit
set_option linter.unusedVariables false
set_option linter.unusedSimpArgs false

set_option maxRecDepth 10000 in
set_option maxHeartbeats 2000000 in
theorem basin_rightLinks_ret {N : Nat} {S : Nat → Prop} {L : List HP} {h : Heap} (hs : St S L h) {v_p0_b : Value} {p0_b : GBasin} (h_p0_b : Rd S h RGBasin v_p0_b p0_b) {r : Bool} (E : f_basin_rightLinks N p0_b = some r) :
    Ret Try.prog 14 #[v_p0_b] S h (fun v S' h' => v = .bool r ∧ St S' (L) h') := by
  refine Ret.go (l := [v_p0_b]) 51 Try.func14 rfl Try.ntmps14 rfl fun B => ?_
  rw [f_basin_rightLinks] at E
  refine WF.seq ?_
  refine WF.rl ?_
  refine LF.boxp rfl h_p0_b (fun e => by cases e) rfl hs fun q1 S2 h3 hs4 e5 k6 => ?_
  refine LF.q 1 ?_
  refine QF.as_ rfl rfl ?_
  refine QF.ln ?_
  refine LF.nil (sb 1 rfl sb0) ?_
  refine WF.seq ?_
  refine WF.seq ?_
  refine WF.rp (.inl rfl) ?_
  refine QF.fa rfl k6 GBasin.f_Links fa_31_4 rfl fun q7 k8 => ?_
  refine QF.ldl ckP hs4.1 rfl k8 ty_24 rfl fun v9 k10 => ?_
  refine QF.len rfl k10 sl_24 rfl fun b11 => ?_
  unfold maxLen at b11
  refine QF.mv rfl rfl ?_
  refine QF.rpn (sb 8 rfl (sb 7 rfl (sb 6 rfl (sb 1 rfl sb0)))) ?_
  refine WF.blockJ (fun a w => ∃ (S' : Nat → Prop) (h' : Heap), Fr 51 a [] ∧ Wd B h' w ∧ St S' (L) h' ∧ Ext S2 h3 S' h' ∧ f_basin_rightLinks_j0 N = some r) ?_ ?_
  · skip
    refine WF.loopF (fun n1 => fun a w => ∃ (i14 : Int) (S' : Nat → Prop) (h' : Heap), Fr 51 a [(7, .int .i64 (↑p0_b.Links.length : Int)), (6, v9), (1, q1), (8, .int .i64 i14)] ∧ Wd B h' w ∧ St S' (L) h' ∧ Ext S2 h3 S' h' ∧ inI64 i14 ∧ f_basin_rightLinks_l1 N p0_b (f_basin_rightLinks_j0 N) n1 i14 = some r) N ?_ ?_ ?_
    · intro aa ww hf hw
      exact ⟨0, _, _, hf.sub (sb 7 rfl (sb 6 rfl (sb 1 rfl (sb 8 rfl sb0)))), hw, hs4, (Ext.refl S2 h3), (show inI64 0 by unfold inI64; omega), E⟩
    · rintro aa ww ⟨_, _, _, _, _, _, _, _, E⟩
      rw [f_basin_rightLinks_l1] at E; cases E
    · skip
      rintro n1 aa ww ⟨i14, S16, h17, hf, hw, hs18, e19, r15, E⟩
      refine WF.run ?_ hf hw
      clear hf hw ww aa
      rw [f_basin_rightLinks_l1] at E
      refine WF.seq ?_
      refine WF.rp (.inl rfl) ?_
      refine QF.lss rfl rfl rfl ?_
      refine QF.rpn (sb 9 rfl (sb 7 rfl (sb 6 rfl (sb 1 rfl (sb 8 rfl sb0))))) ?_
      refine WF.seq ?_
      refine WF.if_ rfl (fun c20 => ?_) (fun c20 => ?_)
      · skip
        have E := cdT c20 E
        refine WF.skip ?_
        refine WF.seq ?_
        refine WF.block ?_
        refine WF.seq ?_
        refine WF.rl ?_
        refine LF.q 2 ?_
        have k21 := k10.mono' e19
        obtain ⟨x22, hx22, E⟩ := bd E
        refine QF.ixe rfl rfl k21 sl_24 hx22 rfl fun q23 k24 => ?_
        refine QF.ld ckP hs18.1 rfl k24 ty_85 (fun e => by cases e) rfl fun v25 k26 => ?_
        refine QF.ln ?_
        refine LF.al zc_85 rfl hs18 fun b27 h28 hs29 e30 => ?_
        have k31 := k26.mono e30
        obtain ⟨v37, v39, v41, rfl, r33, r34, r35, r36, k38, k40, k42, r43, r44, r45, r46, r47, r48, r49, r50, r51, r52, r53⟩ := RGLink.ex k31
        refine LF.st (vs := [.string x22.Name, .int .i64 x22.Kind, .int .i64 x22.From, .int .i64 x22.To, v37, v39, v41, .int .i64 x22.Positions, .int .i64 x22.Speed, .int .i64 x22.Leak, .int .i64 x22.Crest, .int .i64 x22.Num, .int .i64 x22.Den, .int .i64 x22.Prime, .int .i64 x22.Break, .int .i64 x22.BackNum, .int .i64 x22.BackDen, .int .i64 x22.Delay]) (cs' := [.string x22.Name, .int .i64 x22.Kind, .int .i64 x22.From, .int .i64 x22.To, v37, v39, v41, .int .i64 x22.Positions, .int .i64 x22.Speed, .int .i64 x22.Leak, .int .i64 x22.Crest, .int .i64 x22.Num, .int .i64 x22.Den, .int .i64 x22.Prime, .int .i64 x22.Break, .int .i64 x22.BackNum, .int .i64 x22.BackDen, .int .i64 x22.Delay]) rfl rfl rfl (one_cons rfl (one_cons rfl (one_cons rfl (one_cons rfl (one_cons k38.one (one_cons k40.one (one_cons k42.one (one_cons rfl (one_cons rfl (one_cons rfl (one_cons rfl (one_cons rfl (one_cons rfl (one_cons rfl (one_cons rfl (one_cons rfl (one_cons rfl (one_cons rfl one_nil)))))))))))))))))) ty_85 rfl hs29 .head rfl rfl fun h54 hs55 e56 => ?_
        refine LF.nil (sb 4 rfl (sb 7 rfl (sb 6 rfl (sb 1 rfl (sb 8 rfl sb0))))) ?_
        refine WF.seq ?_
        refine WF.rc (.inl rfl) hs55 ?_
        refine QF.fao rfl fa_85_1 rfl ?_
        refine QF.ldo (vs := [.int .i64 x22.Kind]) ckC hs55 rfl mh rfl rfl ty_3 rfl rfl ?_
        obtain ⟨y57, hy57, E⟩ := bd E
        refine QF.callp (v := .bool y57) (Ψ := True) rfl rfl rfl ca_26 rfl (fun h' o => (basin_in_ret (St.all h') r34 (show inI64 0 by unfold inI64; omega) (show inI64 5 by unfold inI64; omega) hy57).mono fun _ _ _ _ p => ⟨p.1, trivial⟩) fun r58 => ?_
        refine QF.not rfl rfl ?_
        refine QF.mv rfl rfl ?_
        obtain ⟨b60, hb60, E⟩ := bd E
        refine QF.cutv 8 24 (.bool b60) ?_ ?_
        · cases c59 : (!y57)
          · skip
            have hb60 := cdF c59 hb60
            refine QF.gy rfl rfl rfl ?_
            refine QF.fao rfl fa_85_2 rfl ?_
            refine QF.gy rfl rfl rfl ?_
            refine QF.ldo (vs := [.int .i64 x22.From]) ckC hs55 rfl mh rfl rfl ty_3 rfl rfl ?_
            refine QF.gy rfl rfl rfl ?_
            have k61 := k6.mono (e19.trans (e30.trans e56))
            refine QF.fa rfl k61 GBasin.f_Places fa_31_3 rfl fun q62 k63 => ?_
            refine QF.gy rfl rfl rfl ?_
            refine QF.ldl ckC hs55.1 rfl k63 ty_23 rfl fun v64 k65 => ?_
            refine QF.gy rfl rfl rfl ?_
            refine QF.len rfl k65 sl_23 rfl fun b66 => ?_
            unfold maxLen at b66
            refine QF.gy rfl rfl rfl ?_
            obtain ⟨y67, hy67, hb60⟩ := bd hb60
            refine QF.callp (v := .bool y67) (Ψ := True) rfl rfl rfl ca_32 rfl (fun h' o => (basin_index_ret (St.all h') r35 (by unfold inI64; omega) hy67).mono fun _ _ _ _ p => ⟨p.1, trivial⟩) fun r68 => ?_
            refine QF.gy rfl rfl rfl ?_
            refine QF.not rfl rfl ?_
            refine QF.pick rfl rfl rfl ?_
            cases hb60
            exact QF.cutn (sb 24 rfl (sb 16 rfl (sb 15 rfl (sb 14 rfl (sb 13 rfl (sb 12 rfl (sb 4 rfl (sb 7 rfl (sb 6 rfl (sb 1 rfl (sb 8 rfl sb0)))))))))))
          · skip
            have hb60 := cdT c59 hb60
            cases hb60
            refine QF.gnT rfl rfl rfl rfl rfl ?_
            refine QF.gnT rfl rfl rfl rfl rfl ?_
            refine QF.gnT rfl rfl rfl rfl rfl ?_
            refine QF.gnT rfl rfl rfl rfl rfl ?_
            refine QF.gnT rfl rfl rfl rfl rfl ?_
            refine QF.gnT rfl rfl rfl rfl rfl ?_
            refine QF.gnT rfl rfl rfl rfl rfl ?_
            refine QF.pick rfl rfl rfl ?_
            exact QF.cutn (sb 24 rfl (sb 16 rfl (sb 15 rfl (sb 14 rfl (sb 13 rfl (sb 12 rfl (sb 4 rfl (sb 7 rfl (sb 6 rfl (sb 1 rfl (sb 8 rfl sb0)))))))))))
        refine QF.mv rfl rfl ?_
        obtain ⟨b70, hb70, E⟩ := bd E
        refine QF.cutv 8 33 (.bool b70) ?_ ?_
        · cases c69 : b60
          · skip
            have hb70 := cdF c69 hb70
            refine QF.gy rfl rfl rfl ?_
            have k71 := k6.mono (e19.trans (e30.trans e56))
            refine QF.ld ckC hs55.1 rfl k71 ty_31 (fun e => by cases e) rfl fun v72 k73 => ?_
            refine QF.gy rfl rfl rfl ?_
            refine QF.fao rfl fa_85_2 rfl ?_
            refine QF.gy rfl rfl rfl ?_
            refine QF.ldo (vs := [.int .i64 x22.From]) ckC hs55 rfl mh rfl rfl ty_3 rfl rfl ?_
            refine QF.gy rfl rfl rfl ?_
            refine QF.fao rfl fa_85_3 rfl ?_
            refine QF.gy rfl rfl rfl ?_
            refine QF.ldo (vs := [.int .i64 x22.To]) ckC hs55 rfl mh rfl rfl ty_3 rfl rfl ?_
            refine QF.gy rfl rfl rfl ?_
            obtain ⟨y74, hy74, hb70⟩ := bd hb70
            refine QF.callp (v := .bool y74) (Ψ := True) rfl rfl rfl ca_31 rfl (fun h' o => (basin_target_ret (St.all h') (k73.mono (o.all hs55.1)) r35 r36 hy74).mono fun _ _ _ _ p => ⟨p.1, trivial⟩) fun r75 => ?_
            refine QF.gy rfl rfl rfl ?_
            refine QF.not rfl rfl ?_
            refine QF.pick rfl rfl rfl ?_
            cases hb70
            exact QF.cutn (sb 33 rfl (sb 25 rfl (sb 24 rfl (sb 16 rfl (sb 15 rfl (sb 14 rfl (sb 13 rfl (sb 12 rfl (sb 4 rfl (sb 7 rfl (sb 6 rfl (sb 1 rfl (sb 8 rfl sb0)))))))))))))
          · skip
            have hb70 := cdT c69 hb70
            cases hb70
            refine QF.gnT rfl rfl rfl rfl rfl ?_
            refine QF.gnT rfl rfl rfl rfl rfl ?_
            refine QF.gnT rfl rfl rfl rfl rfl ?_
            refine QF.gnT rfl rfl rfl rfl rfl ?_
            refine QF.gnT rfl rfl rfl rfl rfl ?_
            refine QF.gnT rfl rfl rfl rfl rfl ?_
            refine QF.gnT rfl rfl rfl rfl rfl ?_
            refine QF.pick rfl rfl rfl ?_
            exact QF.cutn (sb 33 rfl (sb 25 rfl (sb 24 rfl (sb 16 rfl (sb 15 rfl (sb 14 rfl (sb 13 rfl (sb 12 rfl (sb 4 rfl (sb 7 rfl (sb 6 rfl (sb 1 rfl (sb 8 rfl sb0)))))))))))))
        refine QF.mv rfl rfl ?_
        obtain ⟨b77, hb77, E⟩ := bd E
        refine QF.cutv 5 39 (.bool b77) ?_ ?_
        · cases c76 : b70
          · skip
            have hb77 := cdF c76 hb77
            refine QF.gy rfl rfl rfl ?_
            refine QF.fao rfl fa_85_16 rfl ?_
            refine QF.gy rfl rfl rfl ?_
            refine QF.ldo (vs := [.int .i64 x22.Delay]) ckC hs55 rfl mh rfl rfl ty_3 rfl rfl ?_
            refine QF.gy rfl rfl rfl ?_
            obtain ⟨y78, hy78, hb77⟩ := bd hb77
            refine QF.callp (v := .bool y78) (Ψ := True) rfl rfl rfl ca_26 rfl (fun h' o => (basin_in_ret (St.all h') r53 (show inI64 0 by unfold inI64; omega) (show inI64 240 by unfold inI64; omega) hy78).mono fun _ _ _ _ p => ⟨p.1, trivial⟩) fun r79 => ?_
            refine QF.gy rfl rfl rfl ?_
            refine QF.not rfl rfl ?_
            refine QF.pick rfl rfl rfl ?_
            cases hb77
            exact QF.cutn (sb 39 rfl (sb 34 rfl (sb 33 rfl (sb 25 rfl (sb 24 rfl (sb 16 rfl (sb 15 rfl (sb 14 rfl (sb 13 rfl (sb 12 rfl (sb 4 rfl (sb 7 rfl (sb 6 rfl (sb 1 rfl (sb 8 rfl sb0)))))))))))))))
          · skip
            have hb77 := cdT c76 hb77
            cases hb77
            refine QF.gnT rfl rfl rfl rfl rfl ?_
            refine QF.gnT rfl rfl rfl rfl rfl ?_
            refine QF.gnT rfl rfl rfl rfl rfl ?_
            refine QF.gnT rfl rfl rfl rfl rfl ?_
            refine QF.pick rfl rfl rfl ?_
            exact QF.cutn (sb 39 rfl (sb 34 rfl (sb 33 rfl (sb 25 rfl (sb 24 rfl (sb 16 rfl (sb 15 rfl (sb 14 rfl (sb 13 rfl (sb 12 rfl (sb 4 rfl (sb 7 rfl (sb 6 rfl (sb 1 rfl (sb 8 rfl sb0)))))))))))))))
        refine QF.mv rfl rfl ?_
        obtain ⟨b81, hb81, E⟩ := bd E
        refine QF.cutv 4 44 (.bool b81) ?_ ?_
        · cases c80 : b77
          · skip
            have hb81 := cdF c80 hb81
            refine QF.gy rfl rfl rfl ?_
            refine QF.ldo (vs := [.string x22.Name, .int .i64 x22.Kind, .int .i64 x22.From, .int .i64 x22.To, v37, v39, v41, .int .i64 x22.Positions, .int .i64 x22.Speed, .int .i64 x22.Leak, .int .i64 x22.Crest, .int .i64 x22.Num, .int .i64 x22.Den, .int .i64 x22.Prime, .int .i64 x22.Break, .int .i64 x22.BackNum, .int .i64 x22.BackDen, .int .i64 x22.Delay]) ckC hs55 rfl mh rfl rfl ty_85 rfl rfl ?_
            refine QF.gy rfl rfl rfl ?_
            have k82 := k38.mono' e56
            have k83 := k40.mono' e56
            have k84 := k42.mono' e56
            obtain ⟨y85, hy85, hb81⟩ := bd hb81
            refine QF.callp (v := .bool y85) (Ψ := True) rfl rfl rfl ca_33 rfl (fun h' o => (basin_rightFields_ret (St.all h') (RGLink.mk (x := x22) r33 r34 r35 r36 (k82.mono' (o.all hs55.1)) (k83.mono' (o.all hs55.1)) (k84.mono' (o.all hs55.1)) r43 r44 r45 r46 r47 r48 r49 r50 r51 r52 r53) hy85).mono fun _ _ _ _ p => ⟨p.1, trivial⟩) fun r86 => ?_
            refine QF.gy rfl rfl rfl ?_
            refine QF.not rfl rfl ?_
            refine QF.pick rfl rfl rfl ?_
            cases hb81
            exact QF.cutn (sb 44 rfl (sb 40 rfl (sb 39 rfl (sb 34 rfl (sb 33 rfl (sb 25 rfl (sb 24 rfl (sb 16 rfl (sb 15 rfl (sb 14 rfl (sb 13 rfl (sb 12 rfl (sb 4 rfl (sb 7 rfl (sb 6 rfl (sb 1 rfl (sb 8 rfl sb0)))))))))))))))))
          · skip
            have hb81 := cdT c80 hb81
            cases hb81
            refine QF.gnT rfl rfl rfl rfl rfl ?_
            refine QF.gnT rfl rfl rfl rfl rfl ?_
            refine QF.gnT rfl rfl rfl rfl rfl ?_
            refine QF.pick rfl rfl rfl ?_
            exact QF.cutn (sb 44 rfl (sb 40 rfl (sb 39 rfl (sb 34 rfl (sb 33 rfl (sb 25 rfl (sb 24 rfl (sb 16 rfl (sb 15 rfl (sb 14 rfl (sb 13 rfl (sb 12 rfl (sb 4 rfl (sb 7 rfl (sb 6 rfl (sb 1 rfl (sb 8 rfl sb0)))))))))))))))))
        refine QF.mv rfl rfl ?_
        obtain ⟨b88, hb88, E⟩ := bd E
        refine QF.cutv 4 49 (.bool b88) ?_ ?_
        · cases c87 : b81
          · skip
            have hb88 := cdF c87 hb88
            refine QF.gy rfl rfl rfl ?_
            refine QF.ldo (vs := [.string x22.Name, .int .i64 x22.Kind, .int .i64 x22.From, .int .i64 x22.To, v37, v39, v41, .int .i64 x22.Positions, .int .i64 x22.Speed, .int .i64 x22.Leak, .int .i64 x22.Crest, .int .i64 x22.Num, .int .i64 x22.Den, .int .i64 x22.Prime, .int .i64 x22.Break, .int .i64 x22.BackNum, .int .i64 x22.BackDen, .int .i64 x22.Delay]) ckC hs55 rfl mh rfl rfl ty_85 rfl rfl ?_
            refine QF.gy rfl rfl rfl ?_
            have k89 := k38.mono' e56
            have k90 := k40.mono' e56
            have k91 := k42.mono' e56
            obtain ⟨y92, hy92, hb88⟩ := bd hb88
            refine QF.callp (v := .bool y92) (Ψ := True) rfl rfl rfl ca_34 rfl (fun h' o => (basin_rightUnused_ret (St.all h') (RGLink.mk (x := x22) r33 r34 r35 r36 (k89.mono' (o.all hs55.1)) (k90.mono' (o.all hs55.1)) (k91.mono' (o.all hs55.1)) r43 r44 r45 r46 r47 r48 r49 r50 r51 r52 r53) hy92).mono fun _ _ _ _ p => ⟨p.1, trivial⟩) fun r93 => ?_
            refine QF.gy rfl rfl rfl ?_
            refine QF.not rfl rfl ?_
            refine QF.pick rfl rfl rfl ?_
            cases hb88
            exact QF.cutn (sb 49 rfl (sb 45 rfl (sb 44 rfl (sb 40 rfl (sb 39 rfl (sb 34 rfl (sb 33 rfl (sb 25 rfl (sb 24 rfl (sb 16 rfl (sb 15 rfl (sb 14 rfl (sb 13 rfl (sb 12 rfl (sb 4 rfl (sb 7 rfl (sb 6 rfl (sb 1 rfl (sb 8 rfl sb0)))))))))))))))))))
          · skip
            have hb88 := cdT c87 hb88
            cases hb88
            refine QF.gnT rfl rfl rfl rfl rfl ?_
            refine QF.gnT rfl rfl rfl rfl rfl ?_
            refine QF.gnT rfl rfl rfl rfl rfl ?_
            refine QF.pick rfl rfl rfl ?_
            exact QF.cutn (sb 49 rfl (sb 45 rfl (sb 44 rfl (sb 40 rfl (sb 39 rfl (sb 34 rfl (sb 33 rfl (sb 25 rfl (sb 24 rfl (sb 16 rfl (sb 15 rfl (sb 14 rfl (sb 13 rfl (sb 12 rfl (sb 4 rfl (sb 7 rfl (sb 6 rfl (sb 1 rfl (sb 8 rfl sb0)))))))))))))))))))
        refine QF.rcn (sb 49 rfl (sb 7 rfl (sb 6 rfl (sb 1 rfl (sb 8 rfl sb0))))) fun h94 hs95 e96 => ?_
        refine WF.if_ rfl (fun c97 => ?_) (fun c97 => ?_)
        · skip
          have E := cdT c97 E
          refine WF.seq ?_
          refine WF.rp (.inl rfl) ?_
          refine QF.as_ rfl rfl ?_
          refine QF.rpn (sb 2 rfl sb0) ?_
          refine WF.ret (fun aa ww hf hw => ?_)
          have hs98 := hs95.drop .head
          cases E
          exact rtg hf rfl hw (rvc (rvT hf (v := _) rfl) rv0) rfl (e5.trans (e19.trans (e30.trans (e56.trans e96)))) ⟨rfl, hs98⟩
        · skip
          have E := cdF c97 E
          refine WF.skip ?_
          refine WF.nilW ?_
          refine WF.rp (.inl rfl) ?_
          refine QF.addw rfl rfl rfl ?_
          refine QF.mv rfl rfl ?_
          refine QF.rpn (sb 8 rfl (sb 7 rfl (sb 6 rfl (sb 1 rfl sb0)))) ?_
          refine WF.nil (fun aa ww hf hw => ?_)
          have hs99 := hs95.drop .head
          exact ⟨(w64 (i14 + 1)), _, _, hf.sub (sb 7 rfl (sb 6 rfl (sb 1 rfl (sb 8 rfl sb0)))), hw, hs99, (e19.trans (e30.trans (e56.trans e96))), (w64_i _), E⟩
      · skip
        have E := cdF c20 E
        refine WF.exit rfl (fun aa ww hf hw => ?_)
        exact ⟨_, _, hf.sub sb0, hw, hs18, e19, E⟩
  · skip
    rintro aa ww ⟨S100, h101, hf, hw, hs102, e103, E⟩
    refine WF.run ?_ hf hw
    clear hf hw ww aa
    rw [f_basin_rightLinks_j0] at E
    refine WF.seq ?_
    refine WF.rp (.inl rfl) ?_
    refine QF.as_ rfl rfl ?_
    refine QF.rpn (sb 2 rfl sb0) ?_
    refine WF.ret (fun aa ww hf hw => ?_)
    cases E
    exact rtg hf rfl hw (rvc (rvT hf (v := _) rfl) rv0) rfl (e5.trans e103) ⟨rfl, hs102⟩

set_option maxRecDepth 10000 in
set_option maxHeartbeats 2000000 in
theorem basin_next_ret {N : Nat} {S : Nat → Prop} {L : List HP} {h : Heap} (hs : St S L h) {v_p0_b : Value} {p0_b : GBasin} (h_p0_b : Rd S h RGBasin v_p0_b p0_b) {p1_office : Int} (h_p1_office : inI64 p1_office) {p2_to : Int} (h_p2_to : inI64 p2_to) {r : Bool} (E : f_basin_next N p0_b p1_office p2_to = some r) :
    Ret Try.prog 35 #[v_p0_b, .int .i64 p1_office, .int .i64 p2_to] S h (fun v S' h' => v = .bool r ∧ St S' (L) h') := by
  refine Ret.go (l := [v_p0_b, .int .i64 p1_office, .int .i64 p2_to]) 27 Try.func35 rfl Try.ntmps35 rfl fun B => ?_
  rw [f_basin_next] at E
  refine WF.seq ?_
  refine WF.rl ?_
  refine LF.boxp rfl h_p0_b (fun e => by cases e) rfl hs fun q1 S2 h3 hs4 e5 k6 => ?_
  refine LF.q 1 ?_
  refine QF.as_ rfl rfl ?_
  refine QF.ln ?_
  refine LF.nil (sb 3 rfl (sb 1 rfl (sb 2 rfl sb0))) ?_
  refine WF.seq ?_
  refine WF.seq ?_
  refine WF.rp (.inl rfl) ?_
  refine QF.mv rfl rfl ?_
  refine QF.eql rfl rfl rfl ?_
  refine QF.rpn (sb 9 rfl (sb 3 rfl (sb 1 rfl (sb 2 rfl sb0)))) ?_
  refine WF.if_ rfl (fun c7 => ?_) (fun c7 => ?_)
  · skip
    have E := cdT c7 E
    refine WF.seq ?_
    refine WF.rp (.inl rfl) ?_
    refine QF.mv rfl rfl ?_
    refine QF.eql rfl rfl rfl ?_
    refine QF.as_ rfl rfl ?_
    refine QF.rpn (sb 6 rfl sb0) ?_
    refine WF.ret (fun aa ww hf hw => ?_)
    cases E
    exact rtg hf rfl hw (rvc (rvT hf (v := _) rfl) rv0) rfl e5 ⟨rfl, hs4⟩
  · skip
    have E := cdF c7 E
    refine WF.skip ?_
    refine WF.seq ?_
    refine WF.rp (.inl rfl) ?_
    refine QF.fa rfl k6 GBasin.f_Places fa_31_3 rfl fun q8 k9 => ?_
    refine QF.ldl ckP hs4.1 rfl k9 ty_23 rfl fun v10 k11 => ?_
    refine QF.mv rfl rfl ?_
    obtain ⟨x12, hx12, E⟩ := bd E
    refine QF.ixe rfl rfl k11 sl_23 hx12 rfl fun q13 k14 => ?_
    refine QF.fa rfl k14 GPlace.f_Office fa_70_2 rfl fun q15 k16 => ?_
    refine QF.ldi ckP hs4.1 rfl k16 ty_3 rfl fun r17 => ?_
    refine QF.as_ rfl rfl ?_
    refine QF.rpn (sb 7 rfl (sb 1 rfl sb0)) ?_
    refine WF.seq ?_
    refine WF.rp (.inl rfl) ?_
    refine QF.mv rfl rfl ?_
    refine QF.mv rfl rfl ?_
    refine QF.eql rfl rfl rfl ?_
    refine QF.mv rfl rfl ?_
    refine QF.cutv 5 26 (.bool ((decide (x12.Office = p1_office)) || (decide (x12.Office = (w64 (p1_office + 1)))))) ?_ ?_
    · cases c18 : (decide (x12.Office = p1_office))
      · skip
        refine QF.gy rfl rfl rfl ?_
        refine QF.mv rfl rfl ?_
        refine QF.gy rfl rfl rfl ?_
        refine QF.mv rfl rfl ?_
        refine QF.gy rfl rfl rfl ?_
        refine QF.addw rfl rfl rfl ?_
        refine QF.gy rfl rfl rfl ?_
        refine QF.eql rfl rfl rfl ?_
        refine QF.pick rfl rfl rfl ?_
        exact QF.cutn (sb 26 rfl (sb 21 rfl (sb 20 rfl (sb 19 rfl (sb 18 rfl (sb 7 rfl (sb 1 rfl sb0)))))))
      · skip
        refine QF.gnT rfl rfl rfl rfl rfl ?_
        refine QF.gnT rfl rfl rfl rfl rfl ?_
        refine QF.gnT rfl rfl rfl rfl rfl ?_
        refine QF.gnT rfl rfl rfl rfl rfl ?_
        refine QF.pick rfl rfl rfl ?_
        exact QF.cutn (sb 26 rfl (sb 21 rfl (sb 20 rfl (sb 19 rfl (sb 18 rfl (sb 7 rfl (sb 1 rfl sb0)))))))
    refine QF.as_ rfl rfl ?_
    refine QF.rpn (sb 6 rfl sb0) ?_
    refine WF.ret (fun aa ww hf hw => ?_)
    cases E
    exact rtg hf rfl hw (rvc (rvT hf (v := _) rfl) rv0) rfl e5 ⟨rfl, hs4⟩

set_option maxRecDepth 10000 in
set_option maxHeartbeats 2000000 in
theorem basin_rightOffices_ret {N : Nat} {S : Nat → Prop} {L : List HP} {h : Heap} (hs : St S L h) {v_p0_b : Value} {p0_b : GBasin} (h_p0_b : Rd S h RGBasin v_p0_b p0_b) {r : Bool} (E : f_basin_rightOffices N p0_b = some r) :
    Ret Try.prog 15 #[v_p0_b] S h (fun v S' h' => v = .bool r ∧ St S' (L) h') := by
  refine Ret.go (l := [v_p0_b]) 60 Try.func15 rfl Try.ntmps15 rfl fun B => ?_
  rw [f_basin_rightOffices] at E
  refine WF.seq ?_
  refine WF.rl ?_
  refine LF.boxp rfl h_p0_b (fun e => by cases e) rfl hs fun q1 S2 h3 hs4 e5 k6 => ?_
  refine LF.q 1 ?_
  refine QF.as_ rfl rfl ?_
  refine QF.ln ?_
  refine LF.nil (sb 1 rfl sb0) ?_
  refine WF.seq ?_
  refine WF.seq ?_
  refine WF.rp (.inl rfl) ?_
  refine QF.fa rfl k6 GBasin.f_Places fa_31_3 rfl fun q7 k8 => ?_
  refine QF.ldl ckP hs4.1 rfl k8 ty_23 rfl fun v9 k10 => ?_
  refine QF.len rfl k10 sl_23 rfl fun b11 => ?_
  unfold maxLen at b11
  refine QF.mv rfl rfl ?_
  refine QF.rpn (sb 11 rfl (sb 10 rfl (sb 9 rfl (sb 1 rfl sb0)))) ?_
  refine WF.blockJ (fun a w => ∃ (S' : Nat → Prop) (h' : Heap), Fr 60 a [(1, q1)] ∧ Wd B h' w ∧ St S' (L) h' ∧ Ext S2 h3 S' h' ∧ f_basin_rightOffices_j0 N p0_b = some r) ?_ ?_
  · skip
    refine WF.loopF (fun n1 => fun a w => ∃ (i14 : Int) (S' : Nat → Prop) (h' : Heap), Fr 60 a [(10, .int .i64 (↑p0_b.Places.length : Int)), (9, v9), (1, q1), (11, .int .i64 i14)] ∧ Wd B h' w ∧ St S' (L) h' ∧ Ext S2 h3 S' h' ∧ inI64 i14 ∧ f_basin_rightOffices_l1 N p0_b (f_basin_rightOffices_j0 N p0_b) n1 i14 = some r) N ?_ ?_ ?_
    · intro aa ww hf hw
      exact ⟨0, _, _, hf.sub (sb 10 rfl (sb 9 rfl (sb 1 rfl (sb 11 rfl sb0)))), hw, hs4, (Ext.refl S2 h3), (show inI64 0 by unfold inI64; omega), E⟩
    · rintro aa ww ⟨_, _, _, _, _, _, _, _, E⟩
      rw [f_basin_rightOffices_l1] at E; cases E
    · skip
      rintro n1 aa ww ⟨i14, S16, h17, hf, hw, hs18, e19, r15, E⟩
      refine WF.run ?_ hf hw
      clear hf hw ww aa
      rw [f_basin_rightOffices_l1] at E
      refine WF.seq ?_
      refine WF.rp (.inl rfl) ?_
      refine QF.lss rfl rfl rfl ?_
      refine QF.rpn (sb 12 rfl (sb 10 rfl (sb 9 rfl (sb 1 rfl (sb 11 rfl sb0))))) ?_
      refine WF.seq ?_
      refine WF.if_ rfl (fun c20 => ?_) (fun c20 => ?_)
      · skip
        have E := cdT c20 E
        refine WF.skip ?_
        refine WF.seq ?_
        refine WF.block ?_
        refine WF.seq ?_
        refine WF.rl ?_
        refine LF.q 2 ?_
        have k21 := k10.mono' e19
        obtain ⟨x22, hx22, E⟩ := bd E
        refine QF.ixe rfl rfl k21 sl_23 hx22 rfl fun q23 k24 => ?_
        refine QF.ld ckP hs18.1 rfl k24 ty_70 (fun e => by cases e) rfl fun v25 k26 => ?_
        refine QF.ln ?_
        refine LF.al zc_70 rfl hs18 fun b27 h28 hs29 e30 => ?_
        have k31 := k26.mono e30
        obtain ⟨v37, v39, v46, rfl, r33, r34, r35, r36, k38, k40, r41, r42, r43, r44, r45, k47⟩ := RGPlace.ex k31
        refine LF.st (vs := [.string x22.Name, .int .i64 x22.Kind, .int .i64 x22.Office, .int .i64 x22.Cap, v37, v39, .int .i64 x22.Num, .int .i64 x22.Den, .int .i64 x22.Down, .int .i64 x22.Delay, .int .i64 x22.Floor, v46]) (cs' := [.string x22.Name, .int .i64 x22.Kind, .int .i64 x22.Office, .int .i64 x22.Cap, v37, v39, .int .i64 x22.Num, .int .i64 x22.Den, .int .i64 x22.Down, .int .i64 x22.Delay, .int .i64 x22.Floor, v46]) rfl rfl rfl (one_cons rfl (one_cons rfl (one_cons rfl (one_cons rfl (one_cons k38.one (one_cons k40.one (one_cons rfl (one_cons rfl (one_cons rfl (one_cons rfl (one_cons rfl (one_cons k47.one one_nil)))))))))))) ty_70 rfl hs29 .head rfl rfl fun h48 hs49 e50 => ?_
        refine LF.nil (sb 4 rfl (sb 10 rfl (sb 9 rfl (sb 1 rfl (sb 11 rfl sb0))))) ?_
        refine WF.seq ?_
        refine WF.rc (.inl rfl) hs49 ?_
        have k51 := k6.mono (e19.trans (e30.trans e50))
        refine QF.ld ckC hs49.1 rfl k51 ty_31 (fun e => by cases e) rfl fun v52 k53 => ?_
        refine QF.fao rfl fa_70_2 rfl ?_
        refine QF.ldo (vs := [.int .i64 x22.Office]) ckC hs49 rfl mh rfl rfl ty_3 rfl rfl ?_
        refine QF.fao rfl fa_70_8 rfl ?_
        refine QF.ldo (vs := [.int .i64 x22.Down]) ckC hs49 rfl mh rfl rfl ty_3 rfl rfl ?_
        obtain ⟨y54, hy54, E⟩ := bd E
        refine QF.callp (v := .bool y54) (Ψ := True) rfl rfl rfl ca_35 rfl (fun h' o => (basin_next_ret (St.all h') (k53.mono (o.all hs49.1)) r35 r43 hy54).mono fun _ _ _ _ p => ⟨p.1, trivial⟩) fun r55 => ?_
        refine QF.not rfl rfl ?_
        refine QF.rcn (sb 21 rfl (sb 10 rfl (sb 9 rfl (sb 1 rfl (sb 11 rfl sb0))))) fun h56 hs57 e58 => ?_
        refine WF.if_ rfl (fun c59 => ?_) (fun c59 => ?_)
        · skip
          have E := cdT c59 E
          refine WF.seq ?_
          refine WF.rp (.inl rfl) ?_
          refine QF.as_ rfl rfl ?_
          refine QF.rpn (sb 2 rfl sb0) ?_
          refine WF.ret (fun aa ww hf hw => ?_)
          have hs60 := hs57.drop .head
          cases E
          exact rtg hf rfl hw (rvc (rvT hf (v := _) rfl) rv0) rfl (e5.trans (e19.trans (e30.trans (e50.trans e58)))) ⟨rfl, hs60⟩
        · skip
          have E := cdF c59 E
          refine WF.skip ?_
          refine WF.nilW ?_
          refine WF.rp (.inl rfl) ?_
          refine QF.addw rfl rfl rfl ?_
          refine QF.mv rfl rfl ?_
          refine QF.rpn (sb 11 rfl (sb 10 rfl (sb 9 rfl (sb 1 rfl sb0)))) ?_
          refine WF.nil (fun aa ww hf hw => ?_)
          have hs61 := hs57.drop .head
          exact ⟨(w64 (i14 + 1)), _, _, hf.sub (sb 10 rfl (sb 9 rfl (sb 1 rfl (sb 11 rfl sb0)))), hw, hs61, (e19.trans (e30.trans (e50.trans e58))), (w64_i _), E⟩
      · skip
        have E := cdF c20 E
        refine WF.exit rfl (fun aa ww hf hw => ?_)
        exact ⟨_, _, hf.sub (sb 1 rfl sb0), hw, hs18, e19, E⟩
  · skip
    rintro aa ww ⟨S62, h63, hf, hw, hs64, e65, E⟩
    refine WF.run ?_ hf hw
    clear hf hw ww aa
    rw [f_basin_rightOffices_j0] at E
    refine WF.seq ?_
    refine WF.seq ?_
    refine WF.rp (.inl rfl) ?_
    have k66 := k6.mono e65
    refine QF.fa rfl k66 GBasin.f_Links fa_31_4 rfl fun q67 k68 => ?_
    refine QF.ldl ckP hs64.1 rfl k68 ty_24 rfl fun v69 k70 => ?_
    refine QF.len rfl k70 sl_24 rfl fun b71 => ?_
    unfold maxLen at b71
    refine QF.mv rfl rfl ?_
    refine QF.rpn (sb 26 rfl (sb 25 rfl (sb 24 rfl (sb 1 rfl sb0)))) ?_
    refine WF.blockJ (fun a w => ∃ (S' : Nat → Prop) (h' : Heap), Fr 60 a [] ∧ Wd B h' w ∧ St S' (L) h' ∧ Ext S62 h63 S' h' ∧ f_basin_rightOffices_j2 N = some r) ?_ ?_
    · skip
      refine WF.loopF (fun n3 => fun a w => ∃ (i74 : Int) (S' : Nat → Prop) (h' : Heap), Fr 60 a [(25, .int .i64 (↑p0_b.Links.length : Int)), (24, v69), (1, q1), (26, .int .i64 i74)] ∧ Wd B h' w ∧ St S' (L) h' ∧ Ext S62 h63 S' h' ∧ inI64 i74 ∧ f_basin_rightOffices_l3 N p0_b (f_basin_rightOffices_j2 N) n3 i74 = some r) N ?_ ?_ ?_
      · intro aa ww hf hw
        exact ⟨0, _, _, hf.sub (sb 25 rfl (sb 24 rfl (sb 1 rfl (sb 26 rfl sb0)))), hw, hs64, (Ext.refl S62 h63), (show inI64 0 by unfold inI64; omega), E⟩
      · rintro aa ww ⟨_, _, _, _, _, _, _, _, E⟩
        rw [f_basin_rightOffices_l3] at E; cases E
      · skip
        rintro n3 aa ww ⟨i74, S76, h77, hf, hw, hs78, e79, r75, E⟩
        refine WF.run ?_ hf hw
        clear hf hw ww aa
        rw [f_basin_rightOffices_l3] at E
        refine WF.seq ?_
        refine WF.rp (.inl rfl) ?_
        refine QF.lss rfl rfl rfl ?_
        refine QF.rpn (sb 27 rfl (sb 25 rfl (sb 24 rfl (sb 1 rfl (sb 26 rfl sb0))))) ?_
        refine WF.seq ?_
        refine WF.if_ rfl (fun c80 => ?_) (fun c80 => ?_)
        · skip
          have E := cdT c80 E
          refine WF.skip ?_
          refine WF.seq ?_
          refine WF.block ?_
          refine WF.seq ?_
          refine WF.rl ?_
          refine LF.q 2 ?_
          have k81 := k70.mono' e79
          obtain ⟨x82, hx82, E⟩ := bd E
          refine QF.ixe rfl rfl k81 sl_24 hx82 rfl fun q83 k84 => ?_
          refine QF.ld ckP hs78.1 rfl k84 ty_85 (fun e => by cases e) rfl fun v85 k86 => ?_
          refine QF.ln ?_
          refine LF.al zc_85 rfl hs78 fun b87 h88 hs89 e90 => ?_
          have k91 := k86.mono e90
          obtain ⟨v97, v99, v101, rfl, r93, r94, r95, r96, k98, k100, k102, r103, r104, r105, r106, r107, r108, r109, r110, r111, r112, r113⟩ := RGLink.ex k91
          refine LF.st (vs := [.string x82.Name, .int .i64 x82.Kind, .int .i64 x82.From, .int .i64 x82.To, v97, v99, v101, .int .i64 x82.Positions, .int .i64 x82.Speed, .int .i64 x82.Leak, .int .i64 x82.Crest, .int .i64 x82.Num, .int .i64 x82.Den, .int .i64 x82.Prime, .int .i64 x82.Break, .int .i64 x82.BackNum, .int .i64 x82.BackDen, .int .i64 x82.Delay]) (cs' := [.string x82.Name, .int .i64 x82.Kind, .int .i64 x82.From, .int .i64 x82.To, v97, v99, v101, .int .i64 x82.Positions, .int .i64 x82.Speed, .int .i64 x82.Leak, .int .i64 x82.Crest, .int .i64 x82.Num, .int .i64 x82.Den, .int .i64 x82.Prime, .int .i64 x82.Break, .int .i64 x82.BackNum, .int .i64 x82.BackDen, .int .i64 x82.Delay]) rfl rfl rfl (one_cons rfl (one_cons rfl (one_cons rfl (one_cons rfl (one_cons k98.one (one_cons k100.one (one_cons k102.one (one_cons rfl (one_cons rfl (one_cons rfl (one_cons rfl (one_cons rfl (one_cons rfl (one_cons rfl (one_cons rfl (one_cons rfl (one_cons rfl (one_cons rfl one_nil)))))))))))))))))) ty_85 rfl hs89 .head rfl rfl fun h114 hs115 e116 => ?_
          refine LF.nil (sb 6 rfl (sb 25 rfl (sb 24 rfl (sb 1 rfl (sb 26 rfl sb0))))) ?_
          refine WF.seq ?_
          refine WF.rp (.inl rfl) ?_
          have k117 := k66.mono (e79.trans (e90.trans e116))
          refine QF.fa rfl k117 GBasin.f_Places fa_31_3 rfl fun q118 k119 => ?_
          refine QF.ldl ckP hs115.1 rfl k119 ty_23 rfl fun v120 k121 => ?_
          refine QF.fao rfl fa_85_2 rfl ?_
          refine QF.ldo (vs := [.int .i64 x82.From]) ckP hs115 rfl mh rfl rfl ty_3 rfl rfl ?_
          obtain ⟨x122, hx122, E⟩ := bd E
          refine QF.ixe rfl rfl k121 sl_23 hx122 rfl fun q123 k124 => ?_
          refine QF.fa rfl k124 GPlace.f_Office fa_70_2 rfl fun q125 k126 => ?_
          refine QF.ldi ckP hs115.1 rfl k126 ty_3 rfl fun r127 => ?_
          refine QF.as_ rfl rfl ?_
          refine QF.rpn (sb 7 rfl (sb 6 rfl (sb 25 rfl (sb 24 rfl (sb 1 rfl (sb 26 rfl sb0)))))) ?_
          refine WF.seq ?_
          refine WF.rc (.inl rfl) hs115 ?_
          refine QF.ld ckC hs115.1 rfl k117 ty_31 (fun e => by cases e) rfl fun v128 k129 => ?_
          refine QF.mv rfl rfl ?_
          refine QF.fao rfl fa_85_3 rfl ?_
          refine QF.ldo (vs := [.int .i64 x82.To]) ckC hs115 rfl mh rfl rfl ty_3 rfl rfl ?_
          obtain ⟨y130, hy130, E⟩ := bd E
          refine QF.callp (v := .bool y130) (Ψ := True) rfl rfl rfl ca_35 rfl (fun h' o => (basin_next_ret (St.all h') (k129.mono (o.all hs115.1)) r127 r96 hy130).mono fun _ _ _ _ p => ⟨p.1, trivial⟩) fun r131 => ?_
          refine QF.not rfl rfl ?_
          refine QF.mv rfl rfl ?_
          obtain ⟨b133, hb133, E⟩ := bd E
          refine QF.cutv 15 58 (.bool b133) ?_ ?_
          · cases c132 : (!y130)
            · skip
              have hb133 := cdF c132 hb133
              refine QF.gy rfl rfl rfl ?_
              refine QF.fao rfl fa_85_1 rfl ?_
              refine QF.gy rfl rfl rfl ?_
              refine QF.ldo (vs := [.int .i64 x82.Kind]) ckC hs115 rfl mh rfl rfl ty_3 rfl rfl ?_
              refine QF.gy rfl rfl rfl ?_
              refine QF.eql rfl rfl rfl ?_
              refine QF.gy rfl rfl rfl ?_
              refine QF.mv rfl rfl ?_
              obtain ⟨b135, hb135, hb133⟩ := bd hb133
              refine QF.cutv 10 57 (.bool b135) ?_ ?_
              · cases c134 : (decide (x82.Kind = 4))
                · skip
                  have hb135 := cdF c134 hb135
                  cases hb135
                  refine QF.gnF rfl rfl rfl rfl rfl ?_
                  refine QF.gnF rfl rfl rfl rfl rfl ?_
                  refine QF.gnF rfl rfl rfl rfl rfl ?_
                  refine QF.gnF rfl rfl rfl rfl rfl ?_
                  refine QF.gnF rfl rfl rfl rfl rfl ?_
                  refine QF.gnF rfl rfl rfl rfl rfl ?_
                  refine QF.gnF rfl rfl rfl rfl rfl ?_
                  refine QF.gnF rfl rfl rfl rfl rfl ?_
                  refine QF.gnF rfl rfl rfl rfl rfl ?_
                  refine QF.gy rfl rfl rfl ?_
                  refine QF.pick rfl rfl rfl ?_
                  exact QF.cutn (sb 57 rfl (sb 47 rfl (sb 46 rfl (sb 45 rfl (sb 44 rfl (sb 43 rfl (sb 42 rfl (sb 41 rfl (sb 40 rfl (sb 39 rfl (sb 38 rfl (sb 37 rfl (sb 7 rfl (sb 6 rfl (sb 25 rfl (sb 24 rfl (sb 1 rfl (sb 26 rfl sb0))))))))))))))))))
                · skip
                  have hb135 := cdT c134 hb135
                  refine QF.gy rfl rfl rfl ?_
                  refine QF.fa rfl k117 GBasin.f_Places fa_31_3 rfl fun q136 k137 => ?_
                  refine QF.gy rfl rfl rfl ?_
                  refine QF.ldl ckC hs115.1 rfl k137 ty_23 rfl fun v138 k139 => ?_
                  refine QF.gy rfl rfl rfl ?_
                  refine QF.fao rfl fa_85_3 rfl ?_
                  refine QF.gy rfl rfl rfl ?_
                  refine QF.ldo (vs := [.int .i64 x82.To]) ckC hs115 rfl mh rfl rfl ty_3 rfl rfl ?_
                  refine QF.gy rfl rfl rfl ?_
                  obtain ⟨x140, hx140, hb135⟩ := bd hb135
                  refine QF.ixe rfl rfl k139 sl_23 hx140 rfl fun q141 k142 => ?_
                  refine QF.gy rfl rfl rfl ?_
                  refine QF.fa rfl k142 GPlace.f_Office fa_70_2 rfl fun q143 k144 => ?_
                  refine QF.gy rfl rfl rfl ?_
                  refine QF.ldi ckC hs115.1 rfl k144 ty_3 rfl fun r145 => ?_
                  refine QF.gy rfl rfl rfl ?_
                  refine QF.mv rfl rfl ?_
                  refine QF.gy rfl rfl rfl ?_
                  refine QF.neq rfl rfl rfl ?_
                  refine QF.gy rfl rfl rfl ?_
                  refine QF.pick rfl rfl rfl ?_
                  cases hb135
                  exact QF.cutn (sb 57 rfl (sb 47 rfl (sb 46 rfl (sb 45 rfl (sb 44 rfl (sb 43 rfl (sb 42 rfl (sb 41 rfl (sb 40 rfl (sb 39 rfl (sb 38 rfl (sb 37 rfl (sb 7 rfl (sb 6 rfl (sb 25 rfl (sb 24 rfl (sb 1 rfl (sb 26 rfl sb0))))))))))))))))))
              refine QF.pick rfl rfl rfl ?_
              cases hb133
              exact QF.cutn (sb 58 rfl (sb 43 rfl (sb 42 rfl (sb 41 rfl (sb 40 rfl (sb 39 rfl (sb 38 rfl (sb 37 rfl (sb 7 rfl (sb 6 rfl (sb 25 rfl (sb 24 rfl (sb 1 rfl (sb 26 rfl sb0))))))))))))))
            · skip
              have hb133 := cdT c132 hb133
              cases hb133
              refine QF.gnT rfl rfl rfl rfl rfl ?_
              refine QF.gnT rfl rfl rfl rfl rfl ?_
              refine QF.gnT rfl rfl rfl rfl rfl ?_
              refine QF.gnT rfl rfl rfl rfl rfl ?_
              refine QF.gnu rfl rfl rfl rfl rfl ?_
              refine QF.gnu rfl rfl rfl rfl rfl ?_
              refine QF.gnu rfl rfl rfl rfl rfl ?_
              refine QF.gnu rfl rfl rfl rfl rfl ?_
              refine QF.gnu rfl rfl rfl rfl rfl ?_
              refine QF.gnu rfl rfl rfl rfl rfl ?_
              refine QF.gnu rfl rfl rfl rfl rfl ?_
              refine QF.gnu rfl rfl rfl rfl rfl ?_
              refine QF.gnu rfl rfl rfl rfl rfl ?_
              refine QF.gnT rfl rfl rfl rfl rfl ?_
              refine QF.pick rfl rfl rfl ?_
              exact QF.cutn (sb 58 rfl (sb 43 rfl (sb 42 rfl (sb 41 rfl (sb 40 rfl (sb 39 rfl (sb 38 rfl (sb 37 rfl (sb 7 rfl (sb 6 rfl (sb 25 rfl (sb 24 rfl (sb 1 rfl (sb 26 rfl sb0))))))))))))))
          refine QF.rcn (sb 58 rfl (sb 25 rfl (sb 24 rfl (sb 1 rfl (sb 26 rfl sb0))))) fun h146 hs147 e148 => ?_
          refine WF.if_ rfl (fun c149 => ?_) (fun c149 => ?_)
          · skip
            have E := cdT c149 E
            refine WF.seq ?_
            refine WF.rp (.inl rfl) ?_
            refine QF.as_ rfl rfl ?_
            refine QF.rpn (sb 2 rfl sb0) ?_
            refine WF.ret (fun aa ww hf hw => ?_)
            have hs150 := hs147.drop .head
            cases E
            exact rtg hf rfl hw (rvc (rvT hf (v := _) rfl) rv0) rfl (e5.trans (e65.trans (e79.trans (e90.trans (e116.trans e148))))) ⟨rfl, hs150⟩
          · skip
            have E := cdF c149 E
            refine WF.skip ?_
            refine WF.nilW ?_
            refine WF.rp (.inl rfl) ?_
            refine QF.addw rfl rfl rfl ?_
            refine QF.mv rfl rfl ?_
            refine QF.rpn (sb 26 rfl (sb 25 rfl (sb 24 rfl (sb 1 rfl sb0)))) ?_
            refine WF.nil (fun aa ww hf hw => ?_)
            have hs151 := hs147.drop .head
            exact ⟨(w64 (i74 + 1)), _, _, hf.sub (sb 25 rfl (sb 24 rfl (sb 1 rfl (sb 26 rfl sb0)))), hw, hs151, (e79.trans (e90.trans (e116.trans e148))), (w64_i _), E⟩
        · skip
          have E := cdF c80 E
          refine WF.exit rfl (fun aa ww hf hw => ?_)
          exact ⟨_, _, hf.sub sb0, hw, hs78, e79, E⟩
    · skip
      rintro aa ww ⟨S152, h153, hf, hw, hs154, e155, E⟩
      refine WF.run ?_ hf hw
      clear hf hw ww aa
      rw [f_basin_rightOffices_j2] at E
      refine WF.seq ?_
      refine WF.rp (.inl rfl) ?_
      refine QF.as_ rfl rfl ?_
      refine QF.rpn (sb 2 rfl sb0) ?_
      refine WF.ret (fun aa ww hf hw => ?_)
      cases E
      exact rtg hf rfl hw (rvc (rvT hf (v := _) rfl) rv0) rfl (e5.trans (e65.trans e155)) ⟨rfl, hs154⟩

set_option maxRecDepth 10000 in
set_option maxHeartbeats 2000000 in
theorem basin_slope_ret {N : Nat} {S : Nat → Prop} {L : List HP} {h : Heap} (hs : St S L h) {p0_num : Int} (h_p0_num : inI64 p0_num) {p1_den : Int} (h_p1_den : inI64 p1_den) {r : Int} (E : f_basin_slope N p0_num p1_den = some r) :
    Ret Try.prog 36 #[.int .i64 p0_num, .int .i64 p1_den] S h (fun v S' h' => v = .int .i64 r ∧ inI64 r ∧ St S' (L) h') := by
  refine Ret.go (l := [.int .i64 p0_num, .int .i64 p1_den]) 34 Try.func36 rfl Try.ntmps36 rfl fun B => ?_
  rw [f_basin_slope] at E
  refine WF.seq ?_
  refine WF.rp (.inl rfl) ?_
  refine QF.as_ rfl rfl ?_
  refine QF.rpn (sb 0 rfl (sb 1 rfl sb0)) ?_
  refine WF.seq ?_
  refine WF.seq ?_
  refine WF.rp (.inl rfl) ?_
  refine QF.mv rfl rfl ?_
  refine QF.eql rfl rfl rfl ?_
  refine QF.rpn (sb 10 rfl (sb 0 rfl (sb 1 rfl sb0))) ?_
  refine WF.if_ rfl (fun c1 => ?_) (fun c1 => ?_)
  · skip
    have E := cdT c1 E
    refine WF.seq ?_
    refine WF.rp (.inl rfl) ?_
    refine QF.as_ rfl rfl ?_
    refine QF.rpn (sb 4 rfl sb0) ?_
    refine WF.ret (fun aa ww hf hw => ?_)
    cases E
    exact rtg hf rfl hw (rvc (rvT hf (v := _) rfl) rv0) rfl (Ext.refl S h) ⟨rfl, (show inI64 0 by unfold inI64; omega), hs⟩
  · skip
    have E := cdF c1 E
    refine WF.skip ?_
    refine WF.seq ?_
    refine WF.seq ?_
    refine WF.rp (.inl rfl) ?_
    refine QF.mv rfl rfl ?_
    refine QF.mv rfl rfl ?_
    refine QF.gtr rfl rfl rfl ?_
    refine QF.rpn (sb 13 rfl (sb 0 rfl (sb 1 rfl sb0))) ?_
    refine WF.if_ rfl (fun c2 => ?_) (fun c2 => ?_)
    · skip
      have E := cdT c2 E
      refine WF.seq ?_
      refine WF.rp (.inl rfl) ?_
      refine QF.as_ rfl rfl ?_
      refine QF.rpn (sb 4 rfl sb0) ?_
      refine WF.ret (fun aa ww hf hw => ?_)
      cases E
      exact rtg hf rfl hw (rvc (rvT hf (v := _) rfl) rv0) rfl (Ext.refl S h) ⟨rfl, (show inI64 1099511627777 by unfold inI64; omega), hs⟩
    · skip
      have E := cdF c2 E
      refine WF.skip ?_
      refine WF.seq ?_
      refine WF.rc (.inl rfl) hs ?_
      refine QF.mv rfl rfl ?_
      refine QF.convk rfl uk_3 uk_107 rfl ?_
      obtain ⟨y3, hy3, E⟩ := bd E
      refine QF.callp (v := .tuple #[.int .u64 y3.1, .int .u64 y3.2]) (Ψ := IntKind.has .u64 y3.1 ∧ IntKind.has .u64 y3.2) rfl rfl rfl ca_44 rfl (fun h' o => (math_bits_Mul64_ret (St.all h') (has_wrap _ _) (show IntKind.has .u64 1099511627776 by first | assumption | exact ⟨by decide, by decide⟩) hy3).mono fun _ _ _ _ p => ⟨p.1, ⟨p.2.1, p.2.2.1⟩⟩) fun r4 => ?_
      obtain ⟨r5, r6⟩ := r4
      refine QF.mv rfl rfl ?_
      refine QF.ext rfl rfl rfl ?_
      refine QF.ext rfl rfl rfl ?_
      refine QF.as_ rfl rfl ?_
      refine QF.as_ rfl rfl ?_
      refine QF.rcn (sb 6 rfl (sb 5 rfl (sb 1 rfl sb0))) fun h7 hs8 e9 => ?_
      refine WF.seq ?_
      refine WF.rc (.inl rfl) hs8 ?_
      refine QF.mv rfl rfl ?_
      refine QF.mv rfl rfl ?_
      refine QF.mv rfl rfl ?_
      refine QF.convk rfl uk_3 uk_107 rfl ?_
      obtain ⟨y10, hy10, E⟩ := bd E
      refine QF.callp (v := .tuple #[.int .u64 y10.1, .int .u64 y10.2]) (Ψ := IntKind.has .u64 y10.1 ∧ IntKind.has .u64 y10.2) rfl rfl rfl ca_45 rfl (fun h' o => (math_bits_Div64_ret (St.all h') r5 r6 (has_wrap _ _) hy10).mono fun _ _ _ _ p => ⟨p.1, ⟨p.2.1, p.2.2.1⟩⟩) fun r11 => ?_
      obtain ⟨r12, r13⟩ := r11
      refine QF.mv rfl rfl ?_
      refine QF.ext rfl rfl rfl ?_
      refine QF.ext rfl rfl rfl ?_
      refine QF.as_ rfl rfl ?_
      refine QF.as_ rfl rfl ?_
      refine QF.rcn (sb 8 rfl (sb 7 rfl sb0)) fun h14 hs15 e16 => ?_
      refine WF.seq ?_
      refine WF.seq ?_
      refine WF.rp (.inl rfl) ?_
      refine QF.mv rfl rfl ?_
      refine QF.neq rfl rfl rfl ?_
      refine QF.rpn (sb 29 rfl (sb 7 rfl sb0)) ?_
      refine WF.cut (fun a w => ∃ (i17 : Int) (S' : Nat → Prop) (h' : Heap), Fr 34 a [(7, .int .u64 i17)] ∧ Wd B h' w ∧ St S' (L) h' ∧ Ext S h14 S' h' ∧ IntKind.has .u64 i17 ∧ f_basin_slope_j0 N i17 = some r) ?_ ?_
      · skip
        refine WF.if_ rfl (fun c19 => ?_) (fun c19 => ?_)
        · skip
          have E := cdT c19 E
          refine WF.rp (.inl rfl) ?_
          refine QF.mv rfl rfl ?_
          refine QF.addk rfl rfl rfl ?_
          refine QF.as_ rfl rfl ?_
          refine QF.rpn (sb 7 rfl sb0) ?_
          refine WF.nil (fun aa ww hf hw => ?_)
          exact ⟨(IntKind.wrap .u64 (y10.1 + 1)), _, _, hf.sub (sb 7 rfl sb0), hw, hs15, (Ext.refl S h14), (has_wrap _ _), E⟩
        · skip
          have E := cdF c19 E
          refine WF.skip ?_
          refine WF.nil (fun aa ww hf hw => ?_)
          exact ⟨y10.1, _, _, hf.sub (sb 7 rfl sb0), hw, hs15, (Ext.refl S h14), r12, E⟩
      · skip
        rintro aa ww ⟨i17, S20, h21, hf, hw, hs22, e23, r18, E⟩
        refine WF.run ?_ hf hw
        clear hf hw ww aa
        rw [f_basin_slope_j0] at E
        refine WF.seq ?_
        refine WF.rp (.inl rfl) ?_
        refine QF.mv rfl rfl ?_
        refine QF.convk rfl uk_107 uk_3 rfl ?_
        refine QF.as_ rfl rfl ?_
        refine QF.rpn (sb 4 rfl sb0) ?_
        refine WF.ret (fun aa ww hf hw => ?_)
        cases E
        exact rtg hf rfl hw (rvc (rvT hf (v := _) rfl) rv0) rfl (e9.trans (e16.trans e23)) ⟨rfl, (w64_i _), hs22⟩

set_option maxRecDepth 10000 in
set_option maxHeartbeats 2000000 in
theorem basin_steepest_ret {N : Nat} {S : Nat → Prop} {L : List HP} {h : Heap} (hs : St S L h) {v_p0_curves : Value} {p0_curves : (List (List GPoint))} (h_p0_curves : Sl S h (Rep.sl RGPoint) v_p0_curves p0_curves) {r : Int} (E : f_basin_steepest N p0_curves = some r) :
    Ret Try.prog 37 #[v_p0_curves] S h (fun v S' h' => v = .int .i64 r ∧ inI64 r ∧ St S' (L) h') := by
  refine Ret.go (l := [v_p0_curves]) 48 Try.func37 rfl Try.ntmps37 rfl fun B => ?_
  rw [f_basin_steepest] at E
  refine WF.seq ?_
  refine WF.rp (.inl rfl) ?_
  refine QF.as_ rfl rfl ?_
  refine QF.rpn (sb 0 rfl sb0) ?_
  refine WF.seq ?_
  refine WF.rp (.inl rfl) ?_
  refine QF.as_ rfl rfl ?_
  refine QF.rpn (sb 3 rfl (sb 0 rfl sb0)) ?_
  refine WF.seq ?_
  refine WF.seq ?_
  refine WF.rp (.inl rfl) ?_
  refine QF.mv rfl rfl ?_
  refine QF.len rfl h_p0_curves sl_111 rfl fun b1 => ?_
  unfold maxLen at b1
  refine QF.mv rfl rfl ?_
  refine QF.rpn (sb 9 rfl (sb 8 rfl (sb 7 rfl (sb 3 rfl sb0)))) ?_
  refine WF.blockJ (fun a w => ∃ (i2 : Int) (S' : Nat → Prop) (h' : Heap), Fr 48 a [(3, .int .i64 i2)] ∧ Wd B h' w ∧ St S' (L) h' ∧ Ext S h S' h' ∧ inI64 i2 ∧ f_basin_steepest_j0 N i2 = some r) ?_ ?_
  · skip
    refine WF.loopF (fun n1 => fun a w => ∃ (i8 : Int) (i10 : Int) (S' : Nat → Prop) (h' : Heap), Fr 48 a [(8, .int .i64 (↑p0_curves.length : Int)), (7, v_p0_curves), (3, .int .i64 i8), (9, .int .i64 i10)] ∧ Wd B h' w ∧ St S' (L) h' ∧ Ext S h S' h' ∧ inI64 i8 ∧ inI64 i10 ∧ f_basin_steepest_l1 N p0_curves (f_basin_steepest_j0 N) n1 i8 i10 = some r) N ?_ ?_ ?_
    · intro aa ww hf hw
      exact ⟨0, 0, _, _, hf.sub (sb 8 rfl (sb 7 rfl (sb 3 rfl (sb 9 rfl sb0)))), hw, hs, (Ext.refl S h), (show inI64 0 by unfold inI64; omega), (show inI64 0 by unfold inI64; omega), E⟩
    · rintro aa ww ⟨_, _, _, _, _, _, _, _, _, _, E⟩
      rw [f_basin_steepest_l1] at E; cases E
    · skip
      rintro n1 aa ww ⟨i8, i10, S12, h13, hf, hw, hs14, e15, r9, r11, E⟩
      refine WF.run ?_ hf hw
      clear hf hw ww aa
      rw [f_basin_steepest_l1] at E
      refine WF.seq ?_
      refine WF.rp (.inl rfl) ?_
      refine QF.lss rfl rfl rfl ?_
      refine QF.rpn (sb 10 rfl (sb 8 rfl (sb 7 rfl (sb 3 rfl (sb 9 rfl sb0))))) ?_
      refine WF.seq ?_
      refine WF.if_ rfl (fun c16 => ?_) (fun c16 => ?_)
      · skip
        have E := cdT c16 E
        refine WF.skip ?_
        refine WF.seq ?_
        refine WF.blockJ (fun a w => ∃ (i17 : Int) (S' : Nat → Prop) (h' : Heap), Fr 48 a [(8, .int .i64 (↑p0_curves.length : Int)), (7, v_p0_curves), (9, .int .i64 i10), (3, .int .i64 i17)] ∧ Wd B h' w ∧ St S' (L) h' ∧ Ext S12 h13 S' h' ∧ inI64 i17 ∧ f_basin_steepest_j2 N i10 (f_basin_steepest_l1 N p0_curves (f_basin_steepest_j0 N) n1) i17 = some r) ?_ ?_
        · skip
          refine WF.seq ?_
          refine WF.rp (.inl rfl) ?_
          have k19 := h_p0_curves.mono' e15
          obtain ⟨x20, hx20, E⟩ := bd E
          refine QF.ixe rfl rfl k19 sl_111 hx20 rfl fun q21 k22 => ?_
          refine QF.ldl ckP hs14.1 rfl k22 ty_67 rfl fun v23 k24 => ?_
          refine QF.as_ rfl rfl ?_
          refine QF.rpn (sb 5 rfl (sb 8 rfl (sb 7 rfl (sb 3 rfl (sb 9 rfl sb0))))) ?_
          refine WF.seq ?_
          refine WF.rp (.inl rfl) ?_
          refine QF.as_ rfl rfl ?_
          refine QF.rpn (sb 6 rfl (sb 5 rfl (sb 8 rfl (sb 7 rfl (sb 3 rfl (sb 9 rfl sb0)))))) ?_
          refine WF.block ?_
          refine WF.loopF (fun n3 => fun a w => ∃ (i29 : Int) (i31 : Int) (S' : Nat → Prop) (h' : Heap), Fr 48 a [(5, v23), (8, .int .i64 (↑p0_curves.length : Int)), (7, v_p0_curves), (9, .int .i64 i10), (3, .int .i64 i29), (6, .int .i64 i31)] ∧ Wd B h' w ∧ St S' (L) h' ∧ Ext S12 h13 S' h' ∧ inI64 i29 ∧ inI64 i31 ∧ f_basin_steepest_l3 N x20 (f_basin_steepest_j2 N i10 (f_basin_steepest_l1 N p0_curves (f_basin_steepest_j0 N) n1)) n3 i29 i31 = some r) N ?_ ?_ ?_
          · intro aa ww hf hw
            exact ⟨i8, 1, _, _, hf.sub (sb 5 rfl (sb 8 rfl (sb 7 rfl (sb 9 rfl (sb 3 rfl (sb 6 rfl sb0)))))), hw, hs14, (Ext.refl S12 h13), r9, (show inI64 1 by unfold inI64; omega), E⟩
          · rintro aa ww ⟨_, _, _, _, _, _, _, _, _, _, E⟩
            rw [f_basin_steepest_l3] at E; cases E
          · skip
            rintro n3 aa ww ⟨i29, i31, S33, h34, hf, hw, hs35, e36, r30, r32, E⟩
            refine WF.run ?_ hf hw
            clear hf hw ww aa
            rw [f_basin_steepest_l3] at E
            refine WF.seq ?_
            refine WF.seq ?_
            refine WF.rp (.inl rfl) ?_
            refine QF.mv rfl rfl ?_
            refine QF.mv rfl rfl ?_
            have k37 := k24.mono' e36
            refine QF.len rfl k37 sl_67 rfl fun b38 => ?_
            unfold maxLen at b38
            refine QF.lss rfl rfl rfl ?_
            refine QF.rpn (sb 16 rfl (sb 5 rfl (sb 8 rfl (sb 7 rfl (sb 9 rfl (sb 3 rfl (sb 6 rfl sb0))))))) ?_
            refine WF.if_ rfl (fun c39 => ?_) (fun c39 => ?_)
            · skip
              have E := cdT c39 E
              refine WF.skip ?_
              refine WF.seq ?_
              refine WF.block ?_
              refine WF.rc (.inr ⟨mo, by kernel_rfl⟩) hs35 ?_
              refine QF.mv rfl rfl ?_
              refine QF.mv rfl rfl ?_
              refine QF.mv rfl rfl ?_
              have k40 := k24.mono' e36
              obtain ⟨x41, hx41, E⟩ := bd E
              refine QF.ixe rfl rfl k40 sl_67 hx41 rfl fun q42 k43 => ?_
              refine QF.fa rfl k43 GPoint.f_Y fa_98_1 rfl fun q44 k45 => ?_
              refine QF.ldi ckC hs35.1 rfl k45 ty_3 rfl fun r46 => ?_
              refine QF.mv rfl rfl ?_
              refine QF.mv rfl rfl ?_
              refine QF.subw rfl rfl rfl ?_
              have k47 := k24.mono' e36
              obtain ⟨x48, hx48, E⟩ := bd E
              refine QF.ixe rfl rfl k47 sl_67 hx48 rfl fun q49 k50 => ?_
              refine QF.fa rfl k50 GPoint.f_Y fa_98_1 rfl fun q51 k52 => ?_
              refine QF.ldi ckC hs35.1 rfl k52 ty_3 rfl fun r53 => ?_
              refine QF.subw rfl rfl rfl ?_
              refine QF.mv rfl rfl ?_
              refine QF.mv rfl rfl ?_
              have k54 := k24.mono' e36
              obtain ⟨x55, hx55, E⟩ := bd E
              refine QF.ixe rfl rfl k54 sl_67 hx55 rfl fun q56 k57 => ?_
              refine QF.fa rfl k57 GPoint.f_X fa_98_0 rfl fun q58 k59 => ?_
              refine QF.ldi ckC hs35.1 rfl k59 ty_3 rfl fun r60 => ?_
              refine QF.mv rfl rfl ?_
              refine QF.mv rfl rfl ?_
              refine QF.subw rfl rfl rfl ?_
              have k61 := k24.mono' e36
              obtain ⟨x62, hx62, E⟩ := bd E
              refine QF.ixe rfl rfl k61 sl_67 hx62 rfl fun q63 k64 => ?_
              refine QF.fa rfl k64 GPoint.f_X fa_98_0 rfl fun q65 k66 => ?_
              refine QF.ldi ckC hs35.1 rfl k66 ty_3 rfl fun r67 => ?_
              refine QF.subw rfl rfl rfl ?_
              obtain ⟨y68, hy68, E⟩ := bd E
              refine QF.callp (v := .int .i64 y68) (Ψ := inI64 y68) rfl rfl rfl ca_36 rfl (fun h' o => (basin_slope_ret (St.all h') (w64_i _) (w64_i _) hy68).mono fun _ _ _ _ p => ⟨p.1, p.2.1⟩) fun r69 => ?_
              have r70 := r69
              refine QF.max rfl rfl rfl ?_
              refine QF.as_ rfl rfl ?_
              refine QF.rcn (sb 3 rfl (sb 5 rfl (sb 8 rfl (sb 7 rfl (sb 9 rfl (sb 6 rfl sb0)))))) fun h71 hs72 e73 => ?_
              refine WF.nilW ?_
              refine WF.rp (.inl rfl) ?_
              refine QF.mv rfl rfl ?_
              refine QF.addw rfl rfl rfl ?_
              refine QF.as_ rfl rfl ?_
              refine QF.rpn (sb 6 rfl (sb 3 rfl (sb 5 rfl (sb 8 rfl (sb 7 rfl (sb 9 rfl sb0)))))) ?_
              refine WF.nil (fun aa ww hf hw => ?_)
              exact ⟨(max i29 y68), (w64 (i31 + 1)), _, _, hf.sub (sb 5 rfl (sb 8 rfl (sb 7 rfl (sb 9 rfl (sb 3 rfl (sb 6 rfl sb0)))))), hw, hs72, (e36.trans e73), (inI64_max r30 r70), (w64_i _), E⟩
            · skip
              have E := cdF c39 E
              refine WF.exitW rfl ?_
              refine WF.nil (fun aa ww hf hw => ?_)
              exact ⟨i29, _, _, hf.sub (sb 8 rfl (sb 7 rfl (sb 9 rfl (sb 3 rfl sb0)))), hw, hs35, e36, r30, E⟩
        · skip
          rintro aa ww ⟨i17, S74, h75, hf, hw, hs76, e77, r18, E⟩
          refine WF.run ?_ hf hw
          clear hf hw ww aa
          rw [f_basin_steepest_j2] at E
          refine WF.rp (.inl rfl) ?_
          refine QF.addw rfl rfl rfl ?_
          refine QF.mv rfl rfl ?_
          refine QF.rpn (sb 9 rfl (sb 8 rfl (sb 7 rfl (sb 3 rfl sb0)))) ?_
          refine WF.nil (fun aa ww hf hw => ?_)
          exact ⟨i17, (w64 (i10 + 1)), _, _, hf.sub (sb 8 rfl (sb 7 rfl (sb 3 rfl (sb 9 rfl sb0)))), hw, hs76, (e15.trans e77), r18, (w64_i _), E⟩
      · skip
        have E := cdF c16 E
        refine WF.exit rfl (fun aa ww hf hw => ?_)
        exact ⟨i8, _, _, hf.sub (sb 3 rfl sb0), hw, hs14, e15, r9, E⟩
  · skip
    rintro aa ww ⟨i2, S78, h79, hf, hw, hs80, e81, r3, E⟩
    refine WF.run ?_ hf hw
    clear hf hw ww aa
    rw [f_basin_steepest_j0] at E
    refine WF.seq ?_
    refine WF.rp (.inl rfl) ?_
    refine QF.mv rfl rfl ?_
    refine QF.as_ rfl rfl ?_
    refine QF.rpn (sb 2 rfl sb0) ?_
    refine WF.ret (fun aa ww hf hw => ?_)
    cases E
    exact rtg hf rfl hw (rvc (rvT hf (v := _) rfl) rv0) rfl e81 ⟨rfl, r3, hs80⟩

set_option maxRecDepth 10000 in
set_option maxHeartbeats 2000000 in
theorem basin_rightSlopes_ret {N : Nat} {S : Nat → Prop} {L : List HP} {h : Heap} (hs : St S L h) {v_p0_b : Value} {p0_b : GBasin} (h_p0_b : Rd S h RGBasin v_p0_b p0_b) {r : Bool} (E : f_basin_rightSlopes N p0_b = some r) :
    Ret Try.prog 16 #[v_p0_b] S h (fun v S' h' => v = .bool r ∧ St S' (L) h') := by
  refine Ret.go (l := [v_p0_b]) 128 Try.func16 rfl Try.ntmps16 rfl fun B => ?_
  rw [f_basin_rightSlopes] at E
  refine WF.seq ?_
  refine WF.rl ?_
  refine LF.boxp rfl h_p0_b (fun e => by cases e) rfl hs fun q1 S2 h3 hs4 e5 k6 => ?_
  refine LF.q 1 ?_
  refine QF.as_ rfl rfl ?_
  refine QF.ln ?_
  refine LF.nil (sb 1 rfl sb0) ?_
  refine WF.seq ?_
  refine WF.rl ?_
  refine LF.q 3 ?_
  refine QF.fa rfl k6 GBasin.f_Places fa_31_3 rfl fun q7 k8 => ?_
  refine QF.ldl ckP hs4.1 rfl k8 ty_23 rfl fun v9 k10 => ?_
  refine QF.len rfl k10 sl_23 rfl fun b11 => ?_
  unfold maxLen at b11
  refine QF.ln ?_
  obtain ⟨ck12, E⟩ := ck1 E
  refine LF.mke (r := Rep.int) (zx := 0) el_29 rfl ⟨rfl, by unfold inI64; omega⟩ rfl rfl ck12 rfl rfl hs4 fun v13 h14 hs15 e16 => ?_
  refine LF.q 1 ?_
  refine QF.as_ rfl rfl ?_
  refine QF.ln ?_
  refine LF.nil (sb 3 rfl (sb 1 rfl sb0)) ?_
  refine WF.seq ?_
  refine WF.seq ?_
  refine WF.rp (.inl rfl) ?_
  have k17 := k6.mono e16
  refine QF.fa rfl k17 GBasin.f_Places fa_31_3 rfl fun q18 k19 => ?_
  refine QF.ldl ckP hs15.1 rfl k19 ty_23 rfl fun v20 k21 => ?_
  refine QF.len rfl k21 sl_23 rfl fun b22 => ?_
  unfold maxLen at b22
  refine QF.mv rfl rfl ?_
  refine QF.rpn (sb 17 rfl (sb 16 rfl (sb 15 rfl (sb 3 rfl (sb 1 rfl sb0))))) ?_
  refine WF.blockJ (fun a w => ∃ (l23 : List Int) (S' : Nat → Prop) (h' : Heap), Fr 128 a [(3, v13), (1, q1)] ∧ Wd B h' w ∧ St S' (OS Rep.int 3 v13 l23 :: L) h' ∧ Ext S2 h14 S' h' ∧ f_basin_rightSlopes_j0 N p0_b l23 = some r) ?_ ?_
  · skip
    refine WF.loopF (fun n1 => fun a w => ∃ (i27 : Int) (l29 : List Int) (S' : Nat → Prop) (h' : Heap), Fr 128 a [(16, .int .i64 (↑p0_b.Places.length : Int)), (15, v20), (3, v13), (1, q1), (17, .int .i64 i27)] ∧ Wd B h' w ∧ St S' (OS Rep.int 3 v13 l29 :: L) h' ∧ Ext S2 h14 S' h' ∧ inI64 i27 ∧ f_basin_rightSlopes_l1 N p0_b (f_basin_rightSlopes_j0 N p0_b) n1 i27 l29 = some r) N ?_ ?_ ?_
    · intro aa ww hf hw
      exact ⟨0, (List.replicate ((↑p0_b.Places.length : Int) : Int).toNat 0), _, _, hf.sub (sb 16 rfl (sb 15 rfl (sb 3 rfl (sb 1 rfl (sb 17 rfl sb0))))), hw, hs15, (Ext.refl S2 h14), (show inI64 0 by unfold inI64; omega), E⟩
    · rintro aa ww ⟨_, _, _, _, _, _, _, _, _, E⟩
      rw [f_basin_rightSlopes_l1] at E; cases E
    · skip
      rintro n1 aa ww ⟨i27, l29, S30, h31, hf, hw, hs32, e33, r28, E⟩
      refine WF.run ?_ hf hw
      clear hf hw ww aa
      rw [f_basin_rightSlopes_l1] at E
      refine WF.seq ?_
      refine WF.rp (.inl rfl) ?_
      refine QF.lss rfl rfl rfl ?_
      refine QF.rpn (sb 18 rfl (sb 16 rfl (sb 15 rfl (sb 3 rfl (sb 1 rfl (sb 17 rfl sb0)))))) ?_
      refine WF.seq ?_
      refine WF.if_ rfl (fun c34 => ?_) (fun c34 => ?_)
      · skip
        have E := cdT c34 E
        refine WF.skip ?_
        refine WF.seq ?_
        refine WF.block ?_
        refine WF.seq ?_
        refine WF.rl ?_
        refine LF.q 3 ?_
        refine QF.mv rfl rfl ?_
        have k35 := k21.mono' e33
        obtain ⟨x36, hx36, E⟩ := bd E
        refine QF.ixe rfl rfl k35 sl_23 hx36 rfl fun q37 k38 => ?_
        refine QF.ld ckP hs32.1 rfl k38 ty_70 (fun e => by cases e) rfl fun v39 k40 => ?_
        refine QF.ln ?_
        refine LF.al zc_70 rfl hs32 fun b41 h42 hs43 e44 => ?_
        refine LF.q 1 ?_
        refine QF.as_ rfl rfl ?_
        refine QF.ln ?_
        have k45 := k40.mono e44
        obtain ⟨v51, v53, v60, rfl, r47, r48, r49, r50, k52, k54, r55, r56, r57, r58, r59, k61⟩ := RGPlace.ex k45
        refine LF.st (vs := [.string x36.Name, .int .i64 x36.Kind, .int .i64 x36.Office, .int .i64 x36.Cap, v51, v53, .int .i64 x36.Num, .int .i64 x36.Den, .int .i64 x36.Down, .int .i64 x36.Delay, .int .i64 x36.Floor, v60]) (cs' := [.string x36.Name, .int .i64 x36.Kind, .int .i64 x36.Office, .int .i64 x36.Cap, v51, v53, .int .i64 x36.Num, .int .i64 x36.Den, .int .i64 x36.Down, .int .i64 x36.Delay, .int .i64 x36.Floor, v60]) rfl rfl rfl (one_cons rfl (one_cons rfl (one_cons rfl (one_cons rfl (one_cons k52.one (one_cons k54.one (one_cons rfl (one_cons rfl (one_cons rfl (one_cons rfl (one_cons rfl (one_cons k61.one one_nil)))))))))))) ty_70 rfl hs43 .head rfl rfl fun h62 hs63 e64 => ?_
        refine LF.nil (sb 4 rfl (sb 5 rfl (sb 16 rfl (sb 15 rfl (sb 3 rfl (sb 1 rfl (sb 17 rfl sb0))))))) ?_
        refine WF.rl ?_
        refine LF.q 6 ?_
        refine QF.mv rfl rfl ?_
        refine QF.mv rfl rfl ?_
        refine QF.fao rfl fa_70_6 rfl ?_
        refine QF.ldo (vs := [.int .i64 x36.Num]) ckP hs63 rfl mh rfl rfl ty_3 rfl rfl ?_
        refine QF.fao rfl fa_70_7 rfl ?_
        refine QF.ldo (vs := [.int .i64 x36.Den]) ckP hs63 rfl mh rfl rfl ty_3 rfl rfl ?_
        refine QF.ln ?_
        obtain ⟨y65, hy65, E⟩ := bd E
        refine LF.callb rfl rfl rfl ca_36 rfl hs63 (basin_slope_ret (St.all _) r55 r56 hy65) fun v66 S67 h68 hs70 e69 e73 p => ?_
        obtain ⟨rfl, r71, hq72⟩ := p
        refine LF.q 1 ?_
        obtain ⟨x76, hx76, E⟩ := bd E
        refine QF.ixoe hs70 (mt mh) rfl rfl sl_29 hx76 rfl fun q74 ep75 => ?_
        refine QF.ln ?_
        obtain ⟨x77, hx77, E⟩ := bd E
        refine LF.ste (r := Rep.int) (l := l29) (i := i27) (x := x77) rfl rfl (⟨_, rfl, rfl, r71⟩ : Rd _ _ Rep.int _ y65) ep75 hx77 Upd.id ty_3 (fun _ => rfl) hs70 (.tail .head) fun h78 hs79 e80 => ?_
        refine LF.nil (sb 16 rfl (sb 15 rfl (sb 3 rfl (sb 1 rfl (sb 17 rfl sb0))))) ?_
        refine WF.nilW ?_
        refine WF.rp (.inl rfl) ?_
        refine QF.addw rfl rfl rfl ?_
        refine QF.mv rfl rfl ?_
        refine QF.rpn (sb 17 rfl (sb 16 rfl (sb 15 rfl (sb 3 rfl (sb 1 rfl sb0))))) ?_
        refine WF.nil (fun aa ww hf hw => ?_)
        have hs81 := hs79.pick (.tail .head)
        have hs82 := hs81.drop (.tail .head)
        exact ⟨(w64 (i27 + 1)), (upd l29 i27 y65), _, _, hf.sub (sb 16 rfl (sb 15 rfl (sb 3 rfl (sb 1 rfl (sb 17 rfl sb0))))), hw, hs82, (e33.trans (e44.trans (e64.trans (e69.trans e80)))), (w64_i _), E⟩
      · skip
        have E := cdF c34 E
        refine WF.exit rfl (fun aa ww hf hw => ?_)
        exact ⟨l29, _, _, hf.sub (sb 3 rfl (sb 1 rfl sb0)), hw, hs32, e33, E⟩
  · skip
    rintro aa ww ⟨l23, S83, h84, hf, hw, hs85, e86, E⟩
    refine WF.run ?_ hf hw
    clear hf hw ww aa
    rw [f_basin_rightSlopes_j0] at E
    refine WF.seq ?_
    refine WF.seq ?_
    refine WF.rp (.inl rfl) ?_
    have k87 := k17.mono e86
    refine QF.fa rfl k87 GBasin.f_Links fa_31_4 rfl fun q88 k89 => ?_
    refine QF.ldl ckP hs85.1 rfl k89 ty_24 rfl fun v90 k91 => ?_
    refine QF.len rfl k91 sl_24 rfl fun b92 => ?_
    unfold maxLen at b92
    refine QF.mv rfl rfl ?_
    refine QF.rpn (sb 34 rfl (sb 33 rfl (sb 32 rfl (sb 3 rfl sb0)))) ?_
    refine WF.blockJ (fun a w => ∃ (l93 : List Int) (S' : Nat → Prop) (h' : Heap), Fr 128 a [(3, v13)] ∧ Wd B h' w ∧ St S' (OS Rep.int 3 v13 l93 :: L) h' ∧ Ext S83 h84 S' h' ∧ f_basin_rightSlopes_j2 N l93 = some r) ?_ ?_
    · skip
      refine WF.loopF (fun n3 => fun a w => ∃ (i97 : Int) (l99 : List Int) (S' : Nat → Prop) (h' : Heap), Fr 128 a [(33, .int .i64 (↑p0_b.Links.length : Int)), (32, v90), (3, v13), (34, .int .i64 i97)] ∧ Wd B h' w ∧ St S' (OS Rep.int 3 v13 l99 :: L) h' ∧ Ext S83 h84 S' h' ∧ inI64 i97 ∧ f_basin_rightSlopes_l3 N p0_b (f_basin_rightSlopes_j2 N) n3 i97 l99 = some r) N ?_ ?_ ?_
      · intro aa ww hf hw
        exact ⟨0, l23, _, _, hf.sub (sb 33 rfl (sb 32 rfl (sb 3 rfl (sb 34 rfl sb0)))), hw, hs85, (Ext.refl S83 h84), (show inI64 0 by unfold inI64; omega), E⟩
      · rintro aa ww ⟨_, _, _, _, _, _, _, _, _, E⟩
        rw [f_basin_rightSlopes_l3] at E; cases E
      · skip
        rintro n3 aa ww ⟨i97, l99, S100, h101, hf, hw, hs102, e103, r98, E⟩
        refine WF.run ?_ hf hw
        clear hf hw ww aa
        rw [f_basin_rightSlopes_l3] at E
        refine WF.seq ?_
        refine WF.rp (.inl rfl) ?_
        refine QF.lss rfl rfl rfl ?_
        refine QF.rpn (sb 35 rfl (sb 33 rfl (sb 32 rfl (sb 3 rfl (sb 34 rfl sb0))))) ?_
        refine WF.seq ?_
        refine WF.if_ rfl (fun c104 => ?_) (fun c104 => ?_)
        · skip
          have E := cdT c104 E
          refine WF.skip ?_
          refine WF.seq ?_
          refine WF.blockJ (fun a w => ∃ (l105 : List Int) (S' : Nat → Prop) (h' : Heap), Fr 128 a [(33, .int .i64 (↑p0_b.Links.length : Int)), (32, v90), (3, v13), (34, .int .i64 i97)] ∧ Wd B h' w ∧ St S' (OS Rep.int 3 v13 l105 :: L) h' ∧ Ext S100 h101 S' h' ∧ f_basin_rightSlopes_j4 N i97 (f_basin_rightSlopes_l3 N p0_b (f_basin_rightSlopes_j2 N) n3) l105 = some r) ?_ ?_
          · skip
            refine WF.seq ?_
            refine WF.rl ?_
            refine LF.q 2 ?_
            have k106 := k91.mono' e103
            obtain ⟨x107, hx107, E⟩ := bd E
            refine QF.ixe rfl rfl k106 sl_24 hx107 rfl fun q108 k109 => ?_
            refine QF.ld ckP hs102.1 rfl k109 ty_85 (fun e => by cases e) rfl fun v110 k111 => ?_
            refine QF.ln ?_
            refine LF.al zc_85 rfl hs102 fun b112 h113 hs114 e115 => ?_
            have k116 := k111.mono e115
            obtain ⟨v122, v124, v126, rfl, r118, r119, r120, r121, k123, k125, k127, r128, r129, r130, r131, r132, r133, r134, r135, r136, r137, r138⟩ := RGLink.ex k116
            refine LF.st (vs := [.string x107.Name, .int .i64 x107.Kind, .int .i64 x107.From, .int .i64 x107.To, v122, v124, v126, .int .i64 x107.Positions, .int .i64 x107.Speed, .int .i64 x107.Leak, .int .i64 x107.Crest, .int .i64 x107.Num, .int .i64 x107.Den, .int .i64 x107.Prime, .int .i64 x107.Break, .int .i64 x107.BackNum, .int .i64 x107.BackDen, .int .i64 x107.Delay]) (cs' := [.string x107.Name, .int .i64 x107.Kind, .int .i64 x107.From, .int .i64 x107.To, v122, v124, v126, .int .i64 x107.Positions, .int .i64 x107.Speed, .int .i64 x107.Leak, .int .i64 x107.Crest, .int .i64 x107.Num, .int .i64 x107.Den, .int .i64 x107.Prime, .int .i64 x107.Break, .int .i64 x107.BackNum, .int .i64 x107.BackDen, .int .i64 x107.Delay]) rfl rfl rfl (one_cons rfl (one_cons rfl (one_cons rfl (one_cons rfl (one_cons k123.one (one_cons k125.one (one_cons k127.one (one_cons rfl (one_cons rfl (one_cons rfl (one_cons rfl (one_cons rfl (one_cons rfl (one_cons rfl (one_cons rfl (one_cons rfl (one_cons rfl (one_cons rfl one_nil)))))))))))))))))) ty_85 rfl hs114 .head rfl rfl fun h139 hs140 e141 => ?_
            refine LF.nil (sb 7 rfl (sb 33 rfl (sb 32 rfl (sb 3 rfl (sb 34 rfl sb0))))) ?_
            refine WF.seq ?_
            refine WF.rp (.inl rfl) ?_
            refine QF.fao rfl fa_85_1 rfl ?_
            refine QF.ldo (vs := [.int .i64 x107.Kind]) ckP hs140 rfl mh rfl rfl ty_3 rfl rfl ?_
            refine QF.rpn (sb 39 rfl (sb 7 rfl (sb 33 rfl (sb 32 rfl (sb 3 rfl (sb 34 rfl sb0)))))) ?_
            refine WF.block ?_
            refine WF.seq ?_
            refine WF.rp (.inl rfl) ?_
            refine QF.eql rfl rfl rfl ?_
            refine QF.as_ rfl rfl ?_
            refine QF.rpn (sb 40 rfl (sb 39 rfl (sb 7 rfl (sb 33 rfl (sb 32 rfl (sb 3 rfl (sb 34 rfl sb0))))))) ?_
            refine WF.if_ rfl (fun c142 => ?_) (fun c142 => ?_)
            · skip
              have E := cdT c142 E
              refine WF.seq ?_
              obtain ⟨x145, hx145, E⟩ := bd E
              obtain ⟨x146, hx146, E⟩ := bd E
              obtain ⟨y173, hy173, E⟩ := bd E
              obtain ⟨x178, hx178, E⟩ := bd E
              refine WF.ra (m := [(7, .pointer (some ⟨b112, 0, none⟩)), (33, .int .i64 (↑p0_b.Links.length : Int)), (32, v90), (3, v13), (34, .int .i64 i97)]) 17 (fun i v hh => match i with | 0 => v = v13 | 1 => v = .pointer (some ⟨b112, 2, none⟩) | 2 => v = .int .i64 x107.From ∧ inI64 x107.From | 3 => EP v13 (x107.From.toNat * (Rep.int).sz + 0) v | 4 => v = .int .i64 x146 ∧ inI64 x146 | 5 => v = .pointer (some ⟨b112, 4, none⟩) | 6 => Sl S100 hh RGPoint v x107.Rate | 7 => v = .pointer (some ⟨b112, 5, none⟩) | 8 => v = .pointer (some ⟨b112, 5, none⟩) | 9 => Sl S100 hh RGPoint v x107.Band.Lo | 10 => v = .pointer (some ⟨b112, 5, none⟩) | 11 => v = .pointer (some ⟨b112, 6, none⟩) | 12 => Sl S100 hh RGPoint v x107.Band.Hi | 13 => Sl (SN S100 h139 hh) hh (Rep.sl RGPoint) v ([x107.Rate, x107.Band.Lo, x107.Band.Hi] : List (List GPoint)) ∧ ∃ ad, v = .slice (some ad) 3 3 | 14 => v = .int .i64 y173 ∧ inI64 y173 | 15 => v = .int .i64 (w64 (x146 + y173)) ∧ inI64 (w64 (x146 + y173)) | 16 => EP v13 (x107.From.toNat * (Rep.int).sz + 0) v | _ => False) [[], [], [(1, 43)], [(0, 42), (2, 44)], [(3, 45)], [], [(5, 47)], [], [(7, 49)], [(8, 50)], [], [(10, 52)], [(11, 53)], [(6, 48), (9, 51), (12, 54)], [(13, 55)], [(4, 46), (14, 56)], [(0, 42), (2, 44)]] [(15, 57), (16, 58)] mo (by kernel_rfl) [7, 33, 32, 3, 34] rfl (by kernel_rfl) (by kernel_rfl) (by kernel_rfl) (sb 7 rfl (sb 33 rfl (sb 32 rfl (sb 3 rfl (sb 34 rfl sb0))))) (fun i v h1 h2 o1 o2 hr => ?_) ?_ ?_
              · match i, hr with
                | 0, hr => exact hr
                | 1, hr => exact hr
                | 2, hr => exact hr
                | 3, hr => exact hr
                | 4, hr => exact hr
                | 5, hr => exact hr
                | 6, hr => exact Sl.mono' hr (o2.ext fun b hb => Nat.lt_of_lt_of_le (hs140.1 b hb) o1.siz)
                | 7, hr => exact hr
                | 8, hr => exact hr
                | 9, hr => exact Sl.mono' hr (o2.ext fun b hb => Nat.lt_of_lt_of_le (hs140.1 b hb) o1.siz)
                | 10, hr => exact hr
                | 11, hr => exact hr
                | 12, hr => exact Sl.mono' hr (o2.ext fun b hb => Nat.lt_of_lt_of_le (hs140.1 b hb) o1.siz)
                | 13, hr => exact ⟨Sl.mono' hr.1 (SN.mono hs140.1 o1 o2), hr.2⟩
                | 14, hr => exact hr
                | 15, hr => exact hr
                | 16, hr => exact hr
                | _ + 17, hr => exact hr.elim
              · skip
                refine SAll.cons rfl ?_ ?_
                · intro mq hh o
                  have hsN := o.st hs140
                  refine LF.q 1 ?_
                  refine QF.mv rfl rfl ?_
                  refine QF.ln ?_
                  exact LF.aend (Old.refl _) rfl
                refine SAll.cons rfl ?_ ?_
                · intro mq hh o
                  have hsN := o.st hs140
                  refine LF.q 1 ?_
                  refine QF.fao rfl fa_85_2 rfl ?_
                  refine QF.ln ?_
                  exact LF.aend (Old.refl _) rfl
                refine SAll.cons rfl ?_ ?_
                · intro mq hh o
                  intro u179 f180
                  have hsN := o.st hs140
                  cases f180
                  refine LF.q 1 ?_
                  refine QF.ldo (vs := [.int .i64 x107.From]) ckP hsN rfl mh rfl rfl ty_3 rfl rfl ?_
                  refine QF.ln ?_
                  exact LF.aend (Old.refl _) ⟨rfl, r120⟩
                refine SAll.cons rfl ?_ ?_
                · intro mq hh o
                  intro u181 f182 u183 f184
                  have hsN := o.st hs140
                  cases f182
                  obtain ⟨rfl, r185⟩ := f184
                  refine LF.q 1 ?_
                  refine QF.ixoe hsN (mt mh) rfl rfl sl_29 hx145 rfl fun q186 ep187 => ?_
                  refine QF.ln ?_
                  exact LF.aend (Old.refl _) ep187
                refine SAll.cons rfl ?_ ?_
                · intro mq hh o
                  intro u188 f189
                  have hsN := o.st hs140
                  refine LF.q 1 ?_
                  have k190 := hsN.epAt (mt mh) hx146 Fld.id f189
                  refine QF.ldi ckP (fun _ x => x) rfl k190 ty_3 rfl fun r191 => ?_
                  refine QF.ln ?_
                  exact LF.aend (Old.refl _) ⟨rfl, r191⟩
                refine SAll.cons rfl ?_ ?_
                · intro mq hh o
                  have hsN := o.st hs140
                  refine LF.q 1 ?_
                  refine QF.fao rfl fa_85_4 rfl ?_
                  refine QF.ln ?_
                  exact LF.aend (Old.refl _) rfl
                refine SAll.cons rfl ?_ ?_
                · intro mq hh o
                  intro u192 f193
                  have hsN := o.st hs140
                  cases f193
                  refine LF.q 1 ?_
                  refine QF.ldo (vs := [v122]) ckP hsN rfl mh rfl rfl ty_67 rfl rfl ?_
                  refine QF.ln ?_
                  have k194 := k123.mono' (e141.trans (o.ext hs140.1))
                  exact LF.aend (Old.refl _) k194
                refine SAll.cons rfl ?_ ?_
                · intro mq hh o
                  have hsN := o.st hs140
                  refine LF.q 1 ?_
                  refine QF.fao rfl fa_85_5 rfl ?_
                  refine QF.ln ?_
                  exact LF.aend (Old.refl _) rfl
                refine SAll.cons rfl ?_ ?_
                · intro mq hh o
                  intro u195 f196
                  have hsN := o.st hs140
                  cases f196
                  refine LF.q 1 ?_
                  refine QF.fao rfl fa_83_0 rfl ?_
                  refine QF.ln ?_
                  exact LF.aend (Old.refl _) rfl
                refine SAll.cons rfl ?_ ?_
                · intro mq hh o
                  intro u197 f198
                  have hsN := o.st hs140
                  cases f198
                  refine LF.q 1 ?_
                  refine QF.ldo (vs := [v124]) ckP hsN rfl mh rfl rfl ty_67 rfl rfl ?_
                  refine QF.ln ?_
                  have k199 := k125.mono' (e141.trans (o.ext hs140.1))
                  exact LF.aend (Old.refl _) k199
                refine SAll.cons rfl ?_ ?_
                · intro mq hh o
                  have hsN := o.st hs140
                  refine LF.q 1 ?_
                  refine QF.fao rfl fa_85_5 rfl ?_
                  refine QF.ln ?_
                  exact LF.aend (Old.refl _) rfl
                refine SAll.cons rfl ?_ ?_
                · intro mq hh o
                  intro u200 f201
                  have hsN := o.st hs140
                  cases f201
                  refine LF.q 1 ?_
                  refine QF.fao rfl fa_83_1 rfl ?_
                  refine QF.ln ?_
                  exact LF.aend (Old.refl _) rfl
                refine SAll.cons rfl ?_ ?_
                · intro mq hh o
                  intro u202 f203
                  have hsN := o.st hs140
                  cases f203
                  refine LF.q 1 ?_
                  refine QF.ldo (vs := [v126]) ckP hsN rfl mh rfl rfl ty_67 rfl rfl ?_
                  refine QF.ln ?_
                  have k204 := k127.mono' (e141.trans (o.ext hs140.1))
                  exact LF.aend (Old.refl _) k204
                refine SAll.cons rfl ?_ ?_
                · intro mq hh o
                  intro u205 f206 u207 f208 u209 f210
                  have hsN := SN.st hs140 o
                  have f206 := Sl.mono' (S' := (SN S100 h139 hh)) f206 ⟨fun b hb => .inl hb, fun _ _ => rfl, Nat.le_refl _⟩
                  have f206 : Sl _ _ RGPoint u205 x107.Rate := f206
                  have f208 := Sl.mono' (S' := (SN S100 h139 hh)) f208 ⟨fun b hb => .inl hb, fun _ _ => rfl, Nat.le_refl _⟩
                  have f208 : Sl _ _ RGPoint u207 x107.Band.Lo := f208
                  have f210 := Sl.mono' (S' := (SN S100 h139 hh)) f210 ⟨fun b hb => .inl hb, fun _ _ => rfl, Nat.le_refl _⟩
                  have f210 : Sl _ _ RGPoint u209 x107.Band.Hi := f210
                  have hsF := hsN.fz
                  obtain ⟨ad211, cap212, rfl, b213⟩ := (f206).len
                  obtain ⟨ad214, cap215, rfl, b216⟩ := (f208).len
                  obtain ⟨ad217, cap218, rfl, b219⟩ := (f210).len
                  refine LF.bsq (cs := [(.slice ad211 x107.Rate.length cap212), (.slice ad214 x107.Band.Lo.length cap215), (.slice ad217 x107.Band.Hi.length cap218)]) el_111 rfl rfl rfl rfl rfl rfl rfl hsF fun b220 h221 hs222 e223 => ?_
                  have k224 := f210.mono' e223
                  have k225 := f208.mono' e223
                  have k226 := f206.mono' e223
                  have hs227 := hs222.bxos (r := (Rep.sl RGPoint)) (l := ([x107.Rate, x107.Band.Lo, x107.Band.Hi] : List (List GPoint))) .head ⟨_, _, rfl, ⟨_, rfl, k226⟩, ⟨_, _, rfl, ⟨_, rfl, k225⟩, ⟨_, _, rfl, ⟨_, rfl, k224⟩, rfl⟩⟩⟩ (by simp [maxLen])
                  obtain ⟨S228, hs229, e230, k231⟩ := hs227.pubs .head
                  have dn232 := Fz.done o (e223.trans e230) hs229
                  exact LF.aend dn232.1 ⟨Sl.mono' k231 dn232.2, _, rfl⟩
                refine SAll.cons rfl ?_ ?_
                · intro mq hh o
                  intro u233 f234
                  have hsN := SN.st hs140 o
                  obtain ⟨f234, ad235, rfl⟩ := f234
                  refine LF.callb rfl rfl rfl ca_37 rfl hsN (basin_steepest_ret (St.all _) (f234.mono (fun b hb => hsN.1 b hb) (fun _ _ => rfl)) hy173) fun v236 S237 h238 hs240 e239 e243 p => ?_
                  obtain ⟨rfl, r241, hq242⟩ := p
                  exact LF.aend ⟨e243.siz, fun b hb => e243.same b hb⟩ ⟨rfl, r241⟩
                refine SAll.cons rfl ?_ ?_
                · intro mq hh o
                  intro u244 f245 u246 f247
                  have hsN := o.st hs140
                  obtain ⟨rfl, r248⟩ := f245
                  obtain ⟨rfl, r249⟩ := f247
                  refine LF.q 1 ?_
                  refine QF.addw rfl rfl rfl ?_
                  refine QF.ln ?_
                  exact LF.aend (Old.refl _) ⟨rfl, (w64_i _)⟩
                refine SAll.cons rfl ?_ ?_
                · intro mq hh o
                  intro u250 f251 u252 f253
                  have hsN := o.st hs140
                  cases f251
                  obtain ⟨rfl, r254⟩ := f253
                  refine LF.q 1 ?_
                  refine QF.ixoe hsN (mt mh) rfl rfl sl_29 hx178 rfl fun q255 ep256 => ?_
                  refine QF.ln ?_
                  exact LF.aend (Old.refl _) ep256
                exact trivial
              intro h257 o258 u259 f260 u261 f262
              have hs263 := SN.st hs140 o258
              obtain ⟨rfl, r264⟩ := f260
              obtain ⟨x265, hx265, E⟩ := bd E
              refine LF.ste (r := Rep.int) (l := l99) (i := x107.From) (x := x265) rfl rfl (⟨_, rfl, rfl, r264⟩ : Rd _ _ Rep.int _ (w64 (x146 + y173))) f262 hx265 Upd.id ty_3 (fun _ => rfl) hs263 (.tail .head) fun h266 hs267 e268 => ?_
              refine LF.nil (sb 7 rfl (sb 33 rfl (sb 32 rfl (sb 3 rfl (sb 34 rfl sb0))))) ?_
              refine WF.seq ?_
              refine WF.rp (.inl rfl) ?_
              refine QF.fao rfl fa_85_3 rfl ?_
              refine QF.ldo (vs := [.int .i64 x107.To]) ckP hs267 rfl mh rfl rfl ty_3 rfl rfl ?_
              refine QF.neq rfl rfl rfl ?_
              refine QF.rpn (sb 61 rfl (sb 7 rfl (sb 33 rfl (sb 32 rfl (sb 3 rfl (sb 34 rfl sb0)))))) ?_
              refine WF.if_ rfl (fun c269 => ?_) (fun c269 => ?_)
              · skip
                have E := cdT c269 E
                refine WF.rct 12 mo (by kernel_rfl) rfl hs267 ?_
                refine QF.mv rfl rfl ?_
                refine QF.fao rfl fa_85_3 rfl ?_
                refine QF.ldo (vs := [.int .i64 x107.To]) ckC hs267 rfl mh rfl rfl ty_3 rfl rfl ?_
                obtain ⟨x272, hx272, E⟩ := bd E
                refine QF.ixoe hs267 (mt mh) rfl rfl sl_29 hx272 rfl fun q270 ep271 => ?_
                obtain ⟨x273, hx273, E⟩ := bd E
                have k274 := hs267.epAt (mt mh) hx273 Fld.id ep271
                refine QF.ldi ckC (fun _ x => x) rfl k274 ty_3 rfl fun r275 => ?_
                refine QF.fao rfl fa_85_14 rfl ?_
                refine QF.ldo (vs := [.int .i64 x107.BackNum]) ckC hs267 rfl mh rfl rfl ty_3 rfl rfl ?_
                refine QF.fao rfl fa_85_15 rfl ?_
                refine QF.ldo (vs := [.int .i64 x107.BackDen]) ckC hs267 rfl mh rfl rfl ty_3 rfl rfl ?_
                obtain ⟨y276, hy276, E⟩ := bd E
                refine QF.callp (v := .int .i64 y276) (Ψ := inI64 y276) rfl rfl rfl ca_36 rfl (fun h' o => (basin_slope_ret (St.all h') r136 r137 hy276).mono fun _ _ _ _ p => ⟨p.1, p.2.1⟩) fun r277 => ?_
                have r278 := r277
                refine QF.addw rfl rfl rfl ?_
                obtain ⟨x281, hx281, E⟩ := bd E
                refine QF.ixoe hs267 (mt mh) rfl rfl sl_29 hx281 rfl fun q279 ep280 => ?_
                refine QF.rctn fun h282 hs283 e284 => ?_
                obtain ⟨x285, hx285, E⟩ := bd E
                refine LF.ste (r := Rep.int) (l := (upd l99 x107.From (w64 (x146 + y173)))) (i := x107.To) (x := x285) rfl rfl (⟨_, rfl, rfl, (w64_i _)⟩ : Rd _ _ Rep.int _ (w64 (x273 + y276))) ep280 hx285 Upd.id ty_3 (fun _ => rfl) hs283 (.tail .head) fun h286 hs287 e288 => ?_
                refine LF.nil (sb 33 rfl (sb 32 rfl (sb 3 rfl (sb 34 rfl sb0)))) ?_
                refine WF.nilW ?_
                refine WF.nil (fun aa ww hf hw => ?_)
                have hs289 := hs287.pick (.tail .head)
                have hs290 := hs289.drop (.tail .head)
                exact ⟨(upd (upd l99 x107.From (w64 (x146 + y173))) x107.To (w64 (x273 + y276))), _, _, hf.sub (sb 33 rfl (sb 32 rfl (sb 3 rfl (sb 34 rfl sb0)))), hw, hs290, (e115.trans (e141.trans ((SN.ext hs140.1 o258).trans (e268.trans (e284.trans e288))))), E⟩
              · skip
                have E := cdF c269 E
                refine WF.skip ?_
                refine WF.nilW ?_
                refine WF.nil (fun aa ww hf hw => ?_)
                have hs291 := hs267.pick (.tail .head)
                have hs292 := hs291.drop (.tail .head)
                exact ⟨(upd l99 x107.From (w64 (x146 + y173))), _, _, hf.sub (sb 33 rfl (sb 32 rfl (sb 3 rfl (sb 34 rfl sb0)))), hw, hs292, (e115.trans (e141.trans ((SN.ext hs140.1 o258).trans e268))), E⟩
            · skip
              have E := cdF c142 E
              refine WF.seq ?_
              refine WF.seq ?_
              refine WF.rp (.inl rfl) ?_
              refine QF.eql rfl rfl rfl ?_
              refine QF.as_ rfl rfl ?_
              refine QF.rpn (sb 74 rfl (sb 39 rfl (sb 7 rfl (sb 33 rfl (sb 32 rfl (sb 3 rfl (sb 34 rfl sb0))))))) ?_
              refine WF.cut (fun a w => ∃ (b293 : Bool) (S' : Nat → Prop) (h' : Heap), Fr 128 a [(39, .int .i64 x107.Kind), (7, .pointer (some ⟨b112, 0, none⟩)), (33, .int .i64 (↑p0_b.Links.length : Int)), (32, v90), (3, v13), (34, .int .i64 i97), (74, .bool b293)] ∧ Wd B h' w ∧ St S' (Bx b112 85 [.string x107.Name, .int .i64 x107.Kind, .int .i64 x107.From, .int .i64 x107.To, v122, v124, v126, .int .i64 x107.Positions, .int .i64 x107.Speed, .int .i64 x107.Leak, .int .i64 x107.Crest, .int .i64 x107.Num, .int .i64 x107.Den, .int .i64 x107.Prime, .int .i64 x107.Break, .int .i64 x107.BackNum, .int .i64 x107.BackDen, .int .i64 x107.Delay] :: OS Rep.int 3 v13 l99 :: L) h' ∧ Ext S100 h139 S' h' ∧ f_basin_rightSlopes_j5 N l99 x107 (f_basin_rightSlopes_j4 N i97 (f_basin_rightSlopes_l3 N p0_b (f_basin_rightSlopes_j2 N) n3)) b293 = some r) ?_ ?_
              · skip
                refine WF.if_ rfl (fun c294 => ?_) (fun c294 => ?_)
                · skip
                  have E := cdT c294 E
                  refine WF.skip ?_
                  refine WF.nil (fun aa ww hf hw => ?_)
                  exact ⟨(decide (x107.Kind = 1)), _, _, hf.sub (sb 39 rfl (sb 7 rfl (sb 33 rfl (sb 32 rfl (sb 3 rfl (sb 34 rfl (sb 74 rfl sb0))))))), hw, hs140, (Ext.refl S100 h139), E⟩
                · skip
                  have E := cdF c294 E
                  refine WF.seq ?_
                  refine WF.rp (.inl rfl) ?_
                  refine QF.eql rfl rfl rfl ?_
                  refine QF.as_ rfl rfl ?_
                  refine QF.rpn (sb 74 rfl (sb 39 rfl (sb 7 rfl (sb 33 rfl (sb 32 rfl (sb 3 rfl (sb 34 rfl sb0))))))) ?_
                  refine WF.cut (fun a w => ∃ (b295 : Bool) (S' : Nat → Prop) (h' : Heap), Fr 128 a [(39, .int .i64 x107.Kind), (7, .pointer (some ⟨b112, 0, none⟩)), (33, .int .i64 (↑p0_b.Links.length : Int)), (32, v90), (3, v13), (34, .int .i64 i97), (74, .bool b295)] ∧ Wd B h' w ∧ St S' (Bx b112 85 [.string x107.Name, .int .i64 x107.Kind, .int .i64 x107.From, .int .i64 x107.To, v122, v124, v126, .int .i64 x107.Positions, .int .i64 x107.Speed, .int .i64 x107.Leak, .int .i64 x107.Crest, .int .i64 x107.Num, .int .i64 x107.Den, .int .i64 x107.Prime, .int .i64 x107.Break, .int .i64 x107.BackNum, .int .i64 x107.BackDen, .int .i64 x107.Delay] :: OS Rep.int 3 v13 l99 :: L) h' ∧ Ext S100 h139 S' h' ∧ f_basin_rightSlopes_j6 N (f_basin_rightSlopes_j5 N l99 x107 (f_basin_rightSlopes_j4 N i97 (f_basin_rightSlopes_l3 N p0_b (f_basin_rightSlopes_j2 N) n3))) b295 = some r) ?_ ?_
                  · skip
                    refine WF.if_ rfl (fun c296 => ?_) (fun c296 => ?_)
                    · skip
                      have E := cdT c296 E
                      refine WF.skip ?_
                      refine WF.nil (fun aa ww hf hw => ?_)
                      exact ⟨(decide (x107.Kind = 5)), _, _, hf.sub (sb 39 rfl (sb 7 rfl (sb 33 rfl (sb 32 rfl (sb 3 rfl (sb 34 rfl (sb 74 rfl sb0))))))), hw, hs140, (Ext.refl S100 h139), E⟩
                    · skip
                      have E := cdF c296 E
                      refine WF.rp (.inl rfl) ?_
                      refine QF.eql rfl rfl rfl ?_
                      refine QF.as_ rfl rfl ?_
                      refine QF.rpn (sb 74 rfl (sb 39 rfl (sb 7 rfl (sb 33 rfl (sb 32 rfl (sb 3 rfl (sb 34 rfl sb0))))))) ?_
                      refine WF.nil (fun aa ww hf hw => ?_)
                      exact ⟨(decide (x107.Kind = 3)), _, _, hf.sub (sb 39 rfl (sb 7 rfl (sb 33 rfl (sb 32 rfl (sb 3 rfl (sb 34 rfl (sb 74 rfl sb0))))))), hw, hs140, (Ext.refl S100 h139), E⟩
                  · skip
                    rintro aa ww ⟨b295, S297, h298, hf, hw, hs299, e300, E⟩
                    refine WF.run ?_ hf hw
                    clear hf hw ww aa
                    rw [f_basin_rightSlopes_j6] at E
                    refine WF.nil (fun aa ww hf hw => ?_)
                    exact ⟨b295, _, _, hf.sub (sb 39 rfl (sb 7 rfl (sb 33 rfl (sb 32 rfl (sb 3 rfl (sb 34 rfl (sb 74 rfl sb0))))))), hw, hs299, e300, E⟩
              · skip
                rintro aa ww ⟨b293, S301, h302, hf, hw, hs303, e304, E⟩
                refine WF.run ?_ hf hw
                clear hf hw ww aa
                rw [f_basin_rightSlopes_j5] at E
                refine WF.if_ rfl (fun c305 => ?_) (fun c305 => ?_)
                · skip
                  have E := cdT c305 E
                  refine WF.rct 12 mo (by kernel_rfl) rfl hs303 ?_
                  refine QF.mv rfl rfl ?_
                  refine QF.fao rfl fa_85_2 rfl ?_
                  refine QF.ldo (vs := [.int .i64 x107.From]) ckC hs303 rfl mh rfl rfl ty_3 rfl rfl ?_
                  obtain ⟨x308, hx308, E⟩ := bd E
                  refine QF.ixoe hs303 (mt mh) rfl rfl sl_29 hx308 rfl fun q306 ep307 => ?_
                  obtain ⟨x309, hx309, E⟩ := bd E
                  have k310 := hs303.epAt (mt mh) hx309 Fld.id ep307
                  refine QF.ldi ckC (fun _ x => x) rfl k310 ty_3 rfl fun r311 => ?_
                  refine QF.fao rfl fa_85_10 rfl ?_
                  refine QF.ldo (vs := [.int .i64 x107.Num]) ckC hs303 rfl mh rfl rfl ty_3 rfl rfl ?_
                  refine QF.fao rfl fa_85_11 rfl ?_
                  refine QF.ldo (vs := [.int .i64 x107.Den]) ckC hs303 rfl mh rfl rfl ty_3 rfl rfl ?_
                  obtain ⟨y312, hy312, E⟩ := bd E
                  refine QF.callp (v := .int .i64 y312) (Ψ := inI64 y312) rfl rfl rfl ca_36 rfl (fun h' o => (basin_slope_ret (St.all h') r132 r133 hy312).mono fun _ _ _ _ p => ⟨p.1, p.2.1⟩) fun r313 => ?_
                  have r314 := r313
                  refine QF.addw rfl rfl rfl ?_
                  obtain ⟨x317, hx317, E⟩ := bd E
                  refine QF.ixoe hs303 (mt mh) rfl rfl sl_29 hx317 rfl fun q315 ep316 => ?_
                  refine QF.rctn fun h318 hs319 e320 => ?_
                  obtain ⟨x321, hx321, E⟩ := bd E
                  refine LF.ste (r := Rep.int) (l := l99) (i := x107.From) (x := x321) rfl rfl (⟨_, rfl, rfl, (w64_i _)⟩ : Rd _ _ Rep.int _ (w64 (x309 + y312))) ep316 hx321 Upd.id ty_3 (fun _ => rfl) hs319 (.tail .head) fun h322 hs323 e324 => ?_
                  refine LF.nil (sb 33 rfl (sb 32 rfl (sb 3 rfl (sb 34 rfl sb0)))) ?_
                  refine WF.nilW ?_
                  refine WF.nil (fun aa ww hf hw => ?_)
                  have hs325 := hs323.pick (.tail .head)
                  have hs326 := hs325.drop (.tail .head)
                  exact ⟨(upd l99 x107.From (w64 (x309 + y312))), _, _, hf.sub (sb 33 rfl (sb 32 rfl (sb 3 rfl (sb 34 rfl sb0)))), hw, hs326, (e115.trans (e141.trans (e304.trans (e320.trans e324)))), E⟩
                · skip
                  have E := cdF c305 E
                  refine WF.seq ?_
                  refine WF.rp (.inl rfl) ?_
                  refine QF.eql rfl rfl rfl ?_
                  refine QF.as_ rfl rfl ?_
                  refine QF.rpn (sb 90 rfl (sb 7 rfl (sb 33 rfl (sb 32 rfl (sb 3 rfl (sb 34 rfl sb0)))))) ?_
                  refine WF.if_ rfl (fun c327 => ?_) (fun c327 => ?_)
                  · skip
                    have E := cdT c327 E
                    refine WF.seq ?_
                    refine WF.rct 13 mo (by kernel_rfl) rfl hs303 ?_
                    refine QF.mv rfl rfl ?_
                    refine QF.fao rfl fa_85_2 rfl ?_
                    refine QF.ldo (vs := [.int .i64 x107.From]) ckC hs303 rfl mh rfl rfl ty_3 rfl rfl ?_
                    obtain ⟨x330, hx330, E⟩ := bd E
                    refine QF.ixoe hs303 (mt mh) rfl rfl sl_29 hx330 rfl fun q328 ep329 => ?_
                    obtain ⟨x331, hx331, E⟩ := bd E
                    have k332 := hs303.epAt (mt mh) hx331 Fld.id ep329
                    refine QF.ldi ckC (fun _ x => x) rfl k332 ty_3 rfl fun r333 => ?_
                    refine QF.fao rfl fa_85_10 rfl ?_
                    refine QF.ldo (vs := [.int .i64 x107.Num]) ckC hs303 rfl mh rfl rfl ty_3 rfl rfl ?_
                    refine QF.fao rfl fa_85_11 rfl ?_
                    refine QF.ldo (vs := [.int .i64 x107.Den]) ckC hs303 rfl mh rfl rfl ty_3 rfl rfl ?_
                    obtain ⟨y334, hy334, E⟩ := bd E
                    refine QF.callp (v := .int .i64 y334) (Ψ := inI64 y334) rfl rfl rfl ca_36 rfl (fun h' o => (basin_slope_ret (St.all h') r132 r133 hy334).mono fun _ _ _ _ p => ⟨p.1, p.2.1⟩) fun r335 => ?_
                    have r336 := r335
                    refine QF.mulw rfl rfl rfl ?_
                    refine QF.addw rfl rfl rfl ?_
                    obtain ⟨x339, hx339, E⟩ := bd E
                    refine QF.ixoe hs303 (mt mh) rfl rfl sl_29 hx339 rfl fun q337 ep338 => ?_
                    refine QF.rctn fun h340 hs341 e342 => ?_
                    obtain ⟨x343, hx343, E⟩ := bd E
                    refine LF.ste (r := Rep.int) (l := l99) (i := x107.From) (x := x343) rfl rfl (⟨_, rfl, rfl, (w64_i _)⟩ : Rd _ _ Rep.int _ (w64 (x331 + (w64 (2 * y334))))) ep338 hx343 Upd.id ty_3 (fun _ => rfl) hs341 (.tail .head) fun h344 hs345 e346 => ?_
                    refine LF.nil (sb 7 rfl (sb 33 rfl (sb 32 rfl (sb 3 rfl (sb 34 rfl sb0))))) ?_
                    refine WF.rct 13 mo (by kernel_rfl) rfl hs345 ?_
                    refine QF.mv rfl rfl ?_
                    refine QF.fao rfl fa_85_3 rfl ?_
                    refine QF.ldo (vs := [.int .i64 x107.To]) ckC hs345 rfl mh rfl rfl ty_3 rfl rfl ?_
                    obtain ⟨x349, hx349, E⟩ := bd E
                    refine QF.ixoe hs345 (mt mh) rfl rfl sl_29 hx349 rfl fun q347 ep348 => ?_
                    obtain ⟨x350, hx350, E⟩ := bd E
                    have k351 := hs345.epAt (mt mh) hx350 Fld.id ep348
                    refine QF.ldi ckC (fun _ x => x) rfl k351 ty_3 rfl fun r352 => ?_
                    refine QF.fao rfl fa_85_14 rfl ?_
                    refine QF.ldo (vs := [.int .i64 x107.BackNum]) ckC hs345 rfl mh rfl rfl ty_3 rfl rfl ?_
                    refine QF.fao rfl fa_85_15 rfl ?_
                    refine QF.ldo (vs := [.int .i64 x107.BackDen]) ckC hs345 rfl mh rfl rfl ty_3 rfl rfl ?_
                    obtain ⟨y353, hy353, E⟩ := bd E
                    refine QF.callp (v := .int .i64 y353) (Ψ := inI64 y353) rfl rfl rfl ca_36 rfl (fun h' o => (basin_slope_ret (St.all h') r136 r137 hy353).mono fun _ _ _ _ p => ⟨p.1, p.2.1⟩) fun r354 => ?_
                    have r355 := r354
                    refine QF.mulw rfl rfl rfl ?_
                    refine QF.addw rfl rfl rfl ?_
                    obtain ⟨x358, hx358, E⟩ := bd E
                    refine QF.ixoe hs345 (mt mh) rfl rfl sl_29 hx358 rfl fun q356 ep357 => ?_
                    refine QF.rctn fun h359 hs360 e361 => ?_
                    obtain ⟨x362, hx362, E⟩ := bd E
                    refine LF.ste (r := Rep.int) (l := (upd l99 x107.From (w64 (x331 + (w64 (2 * y334)))))) (i := x107.To) (x := x362) rfl rfl (⟨_, rfl, rfl, (w64_i _)⟩ : Rd _ _ Rep.int _ (w64 (x350 + (w64 (2 * y353))))) ep357 hx362 Upd.id ty_3 (fun _ => rfl) hs360 (.tail .head) fun h363 hs364 e365 => ?_
                    refine LF.nil (sb 33 rfl (sb 32 rfl (sb 3 rfl (sb 34 rfl sb0)))) ?_
                    refine WF.nilW ?_
                    refine WF.nil (fun aa ww hf hw => ?_)
                    have hs366 := hs364.pick (.tail .head)
                    have hs367 := hs366.drop (.tail .head)
                    exact ⟨(upd (upd l99 x107.From (w64 (x331 + (w64 (2 * y334))))) x107.To (w64 (x350 + (w64 (2 * y353))))), _, _, hf.sub (sb 33 rfl (sb 32 rfl (sb 3 rfl (sb 34 rfl sb0)))), hw, hs367, (e115.trans (e141.trans (e304.trans (e342.trans (e346.trans (e361.trans e365)))))), E⟩
                  · skip
                    have E := cdF c327 E
                    refine WF.skip ?_
                    refine WF.nilW ?_
                    refine WF.nil (fun aa ww hf hw => ?_)
                    have hs368 := hs303.pick (.tail .head)
                    have hs369 := hs368.drop (.tail .head)
                    exact ⟨l99, _, _, hf.sub (sb 33 rfl (sb 32 rfl (sb 3 rfl (sb 34 rfl sb0)))), hw, hs369, (e115.trans (e141.trans e304)), E⟩
          · skip
            rintro aa ww ⟨l105, S370, h371, hf, hw, hs372, e373, E⟩
            refine WF.run ?_ hf hw
            clear hf hw ww aa
            rw [f_basin_rightSlopes_j4] at E
            refine WF.rp (.inl rfl) ?_
            refine QF.addw rfl rfl rfl ?_
            refine QF.mv rfl rfl ?_
            refine QF.rpn (sb 34 rfl (sb 33 rfl (sb 32 rfl (sb 3 rfl sb0)))) ?_
            refine WF.nil (fun aa ww hf hw => ?_)
            exact ⟨(w64 (i97 + 1)), l105, _, _, hf.sub (sb 33 rfl (sb 32 rfl (sb 3 rfl (sb 34 rfl sb0)))), hw, hs372, (e103.trans e373), (w64_i _), E⟩
        · skip
          have E := cdF c104 E
          refine WF.exit rfl (fun aa ww hf hw => ?_)
          exact ⟨l99, _, _, hf.sub (sb 3 rfl sb0), hw, hs102, e103, E⟩
    · skip
      rintro aa ww ⟨l93, S374, h375, hf, hw, hs376, e377, E⟩
      refine WF.run ?_ hf hw
      clear hf hw ww aa
      rw [f_basin_rightSlopes_j2] at E
      refine WF.seq ?_
      refine WF.seq ?_
      refine WF.rp (.inl rfl) ?_
      refine QF.mv rfl rfl ?_
      refine QF.leno hs376 mh rfl sl_29 rfl fun b378 => ?_
      unfold maxLen at b378
      refine QF.mv rfl rfl ?_
      refine QF.rpn (sb 121 rfl (sb 120 rfl (sb 119 rfl sb0))) ?_
      refine WF.blockJ (fun a w => ∃ (S' : Nat → Prop) (h' : Heap), Fr 128 a [] ∧ Wd B h' w ∧ St S' (L) h' ∧ Ext S374 h375 S' h' ∧ f_basin_rightSlopes_j7 N = some r) ?_ ?_
      · skip
        refine WF.loopF (fun n8 => fun a w => ∃ (i381 : Int) (S' : Nat → Prop) (h' : Heap), Fr 128 a [(120, .int .i64 (↑l93.length : Int)), (119, v13), (121, .int .i64 i381)] ∧ Wd B h' w ∧ St S' (OS Rep.int 3 v13 l93 :: L) h' ∧ Ext S374 h375 S' h' ∧ inI64 i381 ∧ f_basin_rightSlopes_l8 N l93 (f_basin_rightSlopes_j7 N) n8 i381 = some r) N ?_ ?_ ?_
        · intro aa ww hf hw
          exact ⟨0, _, _, hf.sub (sb 120 rfl (sb 119 rfl (sb 121 rfl sb0))), hw, hs376, (Ext.refl S374 h375), (show inI64 0 by unfold inI64; omega), E⟩
        · rintro aa ww ⟨_, _, _, _, _, _, _, _, E⟩
          rw [f_basin_rightSlopes_l8] at E; cases E
        · skip
          rintro n8 aa ww ⟨i381, S383, h384, hf, hw, hs385, e386, r382, E⟩
          refine WF.run ?_ hf hw
          clear hf hw ww aa
          rw [f_basin_rightSlopes_l8] at E
          refine WF.seq ?_
          refine WF.rp (.inl rfl) ?_
          refine QF.lss rfl rfl rfl ?_
          refine QF.rpn (sb 122 rfl (sb 120 rfl (sb 119 rfl (sb 121 rfl sb0)))) ?_
          refine WF.seq ?_
          refine WF.if_ rfl (fun c387 => ?_) (fun c387 => ?_)
          · skip
            have E := cdT c387 E
            refine WF.skip ?_
            refine WF.seq ?_
            refine WF.block ?_
            refine WF.seq ?_
            refine WF.rp (.inl rfl) ?_
            obtain ⟨x390, hx390, E⟩ := bd E
            refine QF.ixoe hs385 mh rfl rfl sl_29 hx390 rfl fun q388 ep389 => ?_
            obtain ⟨x391, hx391, E⟩ := bd E
            have k392 := hs385.epAt mh hx391 Fld.id ep389
            refine QF.ldi ckP (fun _ x => x) rfl k392 ty_3 rfl fun r393 => ?_
            refine QF.as_ rfl rfl ?_
            refine QF.rpn (sb 9 rfl (sb 120 rfl (sb 119 rfl (sb 121 rfl sb0)))) ?_
            refine WF.seq ?_
            refine WF.rp (.inl rfl) ?_
            refine QF.mv rfl rfl ?_
            refine QF.gtr rfl rfl rfl ?_
            refine QF.rpn (sb 126 rfl (sb 120 rfl (sb 119 rfl (sb 121 rfl sb0)))) ?_
            refine WF.if_ rfl (fun c394 => ?_) (fun c394 => ?_)
            · skip
              have E := cdT c394 E
              refine WF.seq ?_
              refine WF.rp (.inl rfl) ?_
              refine QF.as_ rfl rfl ?_
              refine QF.rpn (sb 2 rfl sb0) ?_
              refine WF.ret (fun aa ww hf hw => ?_)
              have hs395 := hs385.drop .head
              cases E
              exact rtg hf rfl hw (rvc (rvT hf (v := _) rfl) rv0) rfl (e5.trans (e16.trans (e86.trans (e377.trans e386)))) ⟨rfl, hs395⟩
            · skip
              have E := cdF c394 E
              refine WF.skip ?_
              refine WF.nilW ?_
              refine WF.rp (.inl rfl) ?_
              refine QF.addw rfl rfl rfl ?_
              refine QF.mv rfl rfl ?_
              refine QF.rpn (sb 121 rfl (sb 120 rfl (sb 119 rfl sb0))) ?_
              refine WF.nil (fun aa ww hf hw => ?_)
              exact ⟨(w64 (i381 + 1)), _, _, hf.sub (sb 120 rfl (sb 119 rfl (sb 121 rfl sb0))), hw, hs385, e386, (w64_i _), E⟩
          · skip
            have E := cdF c387 E
            refine WF.exit rfl (fun aa ww hf hw => ?_)
            have hs396 := hs385.drop .head
            exact ⟨_, _, hf.sub sb0, hw, hs396, e386, E⟩
      · skip
        rintro aa ww ⟨S397, h398, hf, hw, hs399, e400, E⟩
        refine WF.run ?_ hf hw
        clear hf hw ww aa
        rw [f_basin_rightSlopes_j7] at E
        refine WF.seq ?_
        refine WF.rp (.inl rfl) ?_
        refine QF.as_ rfl rfl ?_
        refine QF.rpn (sb 2 rfl sb0) ?_
        refine WF.ret (fun aa ww hf hw => ?_)
        cases E
        exact rtg hf rfl hw (rvc (rvT hf (v := _) rfl) rv0) rfl (e5.trans (e16.trans (e86.trans (e377.trans e400)))) ⟨rfl, hs399⟩

end Go.Proofs.Ytibidnaedddfdaa
