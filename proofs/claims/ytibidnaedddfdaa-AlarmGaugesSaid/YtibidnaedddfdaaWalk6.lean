/- Walks, part 6. By program. -/
import Derived.Test.YtibidnaedddfdaaWalk5
namespace Go.Proofs.Ytibidnaedddfdaa
open Go.RowKit
set_option linter.unusedVariables false
set_option linter.unusedSimpArgs false

set_option maxRecDepth 10000 in
set_option maxHeartbeats 2000000 in
theorem basin_rightTowns_ret {N : Nat} {S : Nat → Prop} {L : List HP} {h : Heap} (hs : St S L h) {v_p0_b : Value} {p0_b : GBasin} (h_p0_b : Rd S h RGBasin v_p0_b p0_b) {r : Bool} (E : f_basin_rightTowns N p0_b = some r) :
    Ret Try.prog 17 #[v_p0_b] S h (fun v S' h' => v = .bool r ∧ St S' (L) h') := by
  refine Ret.go (l := [v_p0_b]) 64 Try.func17 rfl Try.ntmps17 rfl fun B => ?_
  rw [f_basin_rightTowns] at E
  refine WF.seq ?_
  refine WF.rl ?_
  refine LF.boxp rfl h_p0_b (fun e => by cases e) rfl hs fun q1 S2 h3 hs4 e5 k6 => ?_
  refine LF.q 1 ?_
  refine QF.as_ rfl rfl ?_
  refine QF.ln ?_
  refine LF.nil (sb 1 rfl sb0) ?_
  refine WF.seq ?_
  refine WF.seq ?_
  refine WF.rp (.inl rfl) ?_
  refine QF.fa rfl k6 GBasin.f_Towns fa_31_5 rfl fun q7 k8 => ?_
  refine QF.ldl ckP hs4.1 rfl k8 ty_25 rfl fun v9 k10 => ?_
  refine QF.len rfl k10 sl_25 rfl fun b11 => ?_
  unfold maxLen at b11
  refine QF.mv rfl rfl ?_
  refine QF.rpn (sb 10 rfl (sb 9 rfl (sb 8 rfl (sb 1 rfl sb0)))) ?_
  refine WF.blockJ (fun a w => ∃ (S' : Nat → Prop) (h' : Heap), Fr 64 a [(1, q1)] ∧ Wd B h' w ∧ St S' (L) h' ∧ Ext S2 h3 S' h' ∧ f_basin_rightTowns_j0 N p0_b = some r) ?_ ?_
  · skip
    refine WF.loopF (fun n1 => fun a w => ∃ (i14 : Int) (S' : Nat → Prop) (h' : Heap), Fr 64 a [(9, .int .i64 (↑p0_b.Towns.length : Int)), (8, v9), (1, q1), (10, .int .i64 i14)] ∧ Wd B h' w ∧ St S' (L) h' ∧ Ext S2 h3 S' h' ∧ inI64 i14 ∧ f_basin_rightTowns_l1 N p0_b (f_basin_rightTowns_j0 N p0_b) n1 i14 = some r) N ?_ ?_ ?_
    · intro aa ww hf hw
      exact ⟨0, _, _, hf.sub (sb 9 rfl (sb 8 rfl (sb 1 rfl (sb 10 rfl sb0)))), hw, hs4, (Ext.refl S2 h3), (show inI64 0 by unfold inI64; omega), E⟩
    · rintro aa ww ⟨_, _, _, _, _, _, _, _, E⟩
      rw [f_basin_rightTowns_l1] at E; cases E
    · skip
      rintro n1 aa ww ⟨i14, S16, h17, hf, hw, hs18, e19, r15, E⟩
      refine WF.run ?_ hf hw
      clear hf hw ww aa
      rw [f_basin_rightTowns_l1] at E
      refine WF.seq ?_
      refine WF.rp (.inl rfl) ?_
      refine QF.lss rfl rfl rfl ?_
      refine QF.rpn (sb 11 rfl (sb 9 rfl (sb 8 rfl (sb 1 rfl (sb 10 rfl sb0))))) ?_
      refine WF.seq ?_
      refine WF.if_ rfl (fun c20 => ?_) (fun c20 => ?_)
      · skip
        have E := cdT c20 E
        refine WF.skip ?_
        refine WF.seq ?_
        refine WF.block ?_
        refine WF.seq ?_
        refine WF.rl ?_
        refine LF.q 2 ?_
        have k21 := k10.mono' e19
        obtain ⟨x22, hx22, E⟩ := bd E
        refine QF.ixe rfl rfl k21 sl_25 hx22 rfl fun q23 k24 => ?_
        refine QF.ld ckP hs18.1 rfl k24 ty_41 (fun e => by cases e) rfl fun v25 k26 => ?_
        refine QF.ln ?_
        refine LF.al zc_41 rfl hs18 fun b27 h28 hs29 e30 => ?_
        have k31 := k26.mono e30
        obtain ⟨rfl, ⟨r33, r34, r35, r36, r37, r38, r39⟩⟩ := RGTown.ex k31
        refine LF.st (vs := [.string x22.Name, .int .i64 x22.Place, .int .i64 x22.Flood, .int .i64 x22.Lead, .int .i64 x22.People, .int .i64 x22.Watch, .int .i64 x22.Quorum]) (cs' := [.string x22.Name, .int .i64 x22.Place, .int .i64 x22.Flood, .int .i64 x22.Lead, .int .i64 x22.People, .int .i64 x22.Watch, .int .i64 x22.Quorum]) rfl rfl rfl (one_cons rfl (one_cons rfl (one_cons rfl (one_cons rfl (one_cons rfl (one_cons rfl (one_cons rfl one_nil))))))) ty_41 rfl hs29 .head rfl rfl fun h40 hs41 e42 => ?_
        refine LF.nil (sb 4 rfl (sb 9 rfl (sb 8 rfl (sb 1 rfl (sb 10 rfl sb0))))) ?_
        refine WF.seq ?_
        refine WF.rc (.inl rfl) hs41 ?_
        refine QF.fao rfl fa_41_1 rfl ?_
        refine QF.ldo (vs := [.int .i64 x22.Place]) ckC hs41 rfl mh rfl rfl ty_3 rfl rfl ?_
        have k43 := k6.mono (e19.trans (e30.trans e42))
        refine QF.fa rfl k43 GBasin.f_Places fa_31_3 rfl fun q44 k45 => ?_
        refine QF.ldl ckC hs41.1 rfl k45 ty_23 rfl fun v46 k47 => ?_
        refine QF.len rfl k47 sl_23 rfl fun b48 => ?_
        unfold maxLen at b48
        obtain ⟨y49, hy49, E⟩ := bd E
        refine QF.callp (v := .bool y49) (Ψ := True) rfl rfl rfl ca_32 rfl (fun h' o => (basin_index_ret (St.all h') r34 (by unfold inI64; omega) hy49).mono fun _ _ _ _ p => ⟨p.1, trivial⟩) fun r50 => ?_
        refine QF.not rfl rfl ?_
        refine QF.mv rfl rfl ?_
        obtain ⟨b52, hb52, E⟩ := bd E
        refine QF.cutv 5 26 (.bool b52) ?_ ?_
        · cases c51 : (!y49)
          · skip
            have hb52 := cdF c51 hb52
            refine QF.gy rfl rfl rfl ?_
            refine QF.fao rfl fa_41_2 rfl ?_
            refine QF.gy rfl rfl rfl ?_
            refine QF.ldo (vs := [.int .i64 x22.Flood]) ckC hs41 rfl mh rfl rfl ty_3 rfl rfl ?_
            refine QF.gy rfl rfl rfl ?_
            obtain ⟨y53, hy53, hb52⟩ := bd hb52
            refine QF.callp (v := .bool y53) (Ψ := True) rfl rfl rfl ca_27 rfl (fun h' o => (basin_volume_ret (St.all h') r35 hy53).mono fun _ _ _ _ p => ⟨p.1, trivial⟩) fun r54 => ?_
            refine QF.gy rfl rfl rfl ?_
            refine QF.not rfl rfl ?_
            refine QF.pick rfl rfl rfl ?_
            cases hb52
            exact QF.cutn (sb 26 rfl (sb 21 rfl (sb 20 rfl (sb 19 rfl (sb 18 rfl (sb 17 rfl (sb 16 rfl (sb 15 rfl (sb 14 rfl (sb 4 rfl (sb 9 rfl (sb 8 rfl (sb 1 rfl (sb 10 rfl sb0))))))))))))))
          · skip
            have hb52 := cdT c51 hb52
            cases hb52
            refine QF.gnT rfl rfl rfl rfl rfl ?_
            refine QF.gnT rfl rfl rfl rfl rfl ?_
            refine QF.gnT rfl rfl rfl rfl rfl ?_
            refine QF.gnT rfl rfl rfl rfl rfl ?_
            refine QF.pick rfl rfl rfl ?_
            exact QF.cutn (sb 26 rfl (sb 21 rfl (sb 20 rfl (sb 19 rfl (sb 18 rfl (sb 17 rfl (sb 16 rfl (sb 15 rfl (sb 14 rfl (sb 4 rfl (sb 9 rfl (sb 8 rfl (sb 1 rfl (sb 10 rfl sb0))))))))))))))
        refine QF.mv rfl rfl ?_
        obtain ⟨b56, hb56, E⟩ := bd E
        refine QF.cutv 5 32 (.bool b56) ?_ ?_
        · cases c55 : b52
          · skip
            have hb56 := cdF c55 hb56
            refine QF.gy rfl rfl rfl ?_
            refine QF.fao rfl fa_41_3 rfl ?_
            refine QF.gy rfl rfl rfl ?_
            refine QF.ldo (vs := [.int .i64 x22.Lead]) ckC hs41 rfl mh rfl rfl ty_3 rfl rfl ?_
            refine QF.gy rfl rfl rfl ?_
            obtain ⟨y57, hy57, hb56⟩ := bd hb56
            refine QF.callp (v := .bool y57) (Ψ := True) rfl rfl rfl ca_26 rfl (fun h' o => (basin_in_ret (St.all h') r36 (show inI64 0 by unfold inI64; omega) (show inI64 24 by unfold inI64; omega) hy57).mono fun _ _ _ _ p => ⟨p.1, trivial⟩) fun r58 => ?_
            refine QF.gy rfl rfl rfl ?_
            refine QF.not rfl rfl ?_
            refine QF.pick rfl rfl rfl ?_
            cases hb56
            exact QF.cutn (sb 32 rfl (sb 27 rfl (sb 26 rfl (sb 21 rfl (sb 20 rfl (sb 19 rfl (sb 18 rfl (sb 17 rfl (sb 16 rfl (sb 15 rfl (sb 14 rfl (sb 4 rfl (sb 9 rfl (sb 8 rfl (sb 1 rfl (sb 10 rfl sb0))))))))))))))))
          · skip
            have hb56 := cdT c55 hb56
            cases hb56
            refine QF.gnT rfl rfl rfl rfl rfl ?_
            refine QF.gnT rfl rfl rfl rfl rfl ?_
            refine QF.gnT rfl rfl rfl rfl rfl ?_
            refine QF.gnT rfl rfl rfl rfl rfl ?_
            refine QF.pick rfl rfl rfl ?_
            exact QF.cutn (sb 32 rfl (sb 27 rfl (sb 26 rfl (sb 21 rfl (sb 20 rfl (sb 19 rfl (sb 18 rfl (sb 17 rfl (sb 16 rfl (sb 15 rfl (sb 14 rfl (sb 4 rfl (sb 9 rfl (sb 8 rfl (sb 1 rfl (sb 10 rfl sb0))))))))))))))))
        refine QF.mv rfl rfl ?_
        obtain ⟨b60, hb60, E⟩ := bd E
        refine QF.cutv 5 38 (.bool b60) ?_ ?_
        · cases c59 : b56
          · skip
            have hb60 := cdF c59 hb60
            refine QF.gy rfl rfl rfl ?_
            refine QF.fao rfl fa_41_4 rfl ?_
            refine QF.gy rfl rfl rfl ?_
            refine QF.ldo (vs := [.int .i64 x22.People]) ckC hs41 rfl mh rfl rfl ty_3 rfl rfl ?_
            refine QF.gy rfl rfl rfl ?_
            obtain ⟨y61, hy61, hb60⟩ := bd hb60
            refine QF.callp (v := .bool y61) (Ψ := True) rfl rfl rfl ca_26 rfl (fun h' o => (basin_in_ret (St.all h') r37 (show inI64 0 by unfold inI64; omega) (show inI64 1073741824 by unfold inI64; omega) hy61).mono fun _ _ _ _ p => ⟨p.1, trivial⟩) fun r62 => ?_
            refine QF.gy rfl rfl rfl ?_
            refine QF.not rfl rfl ?_
            refine QF.pick rfl rfl rfl ?_
            cases hb60
            exact QF.cutn (sb 38 rfl (sb 33 rfl (sb 32 rfl (sb 27 rfl (sb 26 rfl (sb 21 rfl (sb 20 rfl (sb 19 rfl (sb 18 rfl (sb 17 rfl (sb 16 rfl (sb 15 rfl (sb 14 rfl (sb 4 rfl (sb 9 rfl (sb 8 rfl (sb 1 rfl (sb 10 rfl sb0))))))))))))))))))
          · skip
            have hb60 := cdT c59 hb60
            cases hb60
            refine QF.gnT rfl rfl rfl rfl rfl ?_
            refine QF.gnT rfl rfl rfl rfl rfl ?_
            refine QF.gnT rfl rfl rfl rfl rfl ?_
            refine QF.gnT rfl rfl rfl rfl rfl ?_
            refine QF.pick rfl rfl rfl ?_
            exact QF.cutn (sb 38 rfl (sb 33 rfl (sb 32 rfl (sb 27 rfl (sb 26 rfl (sb 21 rfl (sb 20 rfl (sb 19 rfl (sb 18 rfl (sb 17 rfl (sb 16 rfl (sb 15 rfl (sb 14 rfl (sb 4 rfl (sb 9 rfl (sb 8 rfl (sb 1 rfl (sb 10 rfl sb0))))))))))))))))))
        refine QF.mv rfl rfl ?_
        obtain ⟨b64, hb64, E⟩ := bd E
        refine QF.cutv 5 44 (.bool b64) ?_ ?_
        · cases c63 : b60
          · skip
            have hb64 := cdF c63 hb64
            refine QF.gy rfl rfl rfl ?_
            refine QF.fao rfl fa_41_5 rfl ?_
            refine QF.gy rfl rfl rfl ?_
            refine QF.ldo (vs := [.int .i64 x22.Watch]) ckC hs41 rfl mh rfl rfl ty_3 rfl rfl ?_
            refine QF.gy rfl rfl rfl ?_
            obtain ⟨y65, hy65, hb64⟩ := bd hb64
            refine QF.callp (v := .bool y65) (Ψ := True) rfl rfl rfl ca_27 rfl (fun h' o => (basin_volume_ret (St.all h') r38 hy65).mono fun _ _ _ _ p => ⟨p.1, trivial⟩) fun r66 => ?_
            refine QF.gy rfl rfl rfl ?_
            refine QF.not rfl rfl ?_
            refine QF.pick rfl rfl rfl ?_
            cases hb64
            exact QF.cutn (sb 44 rfl (sb 39 rfl (sb 38 rfl (sb 33 rfl (sb 32 rfl (sb 27 rfl (sb 26 rfl (sb 21 rfl (sb 20 rfl (sb 19 rfl (sb 18 rfl (sb 17 rfl (sb 16 rfl (sb 15 rfl (sb 14 rfl (sb 4 rfl (sb 9 rfl (sb 8 rfl (sb 1 rfl (sb 10 rfl sb0))))))))))))))))))))
          · skip
            have hb64 := cdT c63 hb64
            cases hb64
            refine QF.gnT rfl rfl rfl rfl rfl ?_
            refine QF.gnT rfl rfl rfl rfl rfl ?_
            refine QF.gnT rfl rfl rfl rfl rfl ?_
            refine QF.gnT rfl rfl rfl rfl rfl ?_
            refine QF.pick rfl rfl rfl ?_
            exact QF.cutn (sb 44 rfl (sb 39 rfl (sb 38 rfl (sb 33 rfl (sb 32 rfl (sb 27 rfl (sb 26 rfl (sb 21 rfl (sb 20 rfl (sb 19 rfl (sb 18 rfl (sb 17 rfl (sb 16 rfl (sb 15 rfl (sb 14 rfl (sb 4 rfl (sb 9 rfl (sb 8 rfl (sb 1 rfl (sb 10 rfl sb0))))))))))))))))))))
        refine QF.mv rfl rfl ?_
        obtain ⟨b68, hb68, E⟩ := bd E
        refine QF.cutv 5 50 (.bool b68) ?_ ?_
        · cases c67 : b64
          · skip
            have hb68 := cdF c67 hb68
            refine QF.gy rfl rfl rfl ?_
            refine QF.fao rfl fa_41_6 rfl ?_
            refine QF.gy rfl rfl rfl ?_
            refine QF.ldo (vs := [.int .i64 x22.Quorum]) ckC hs41 rfl mh rfl rfl ty_3 rfl rfl ?_
            refine QF.gy rfl rfl rfl ?_
            obtain ⟨y69, hy69, hb68⟩ := bd hb68
            refine QF.callp (v := .bool y69) (Ψ := True) rfl rfl rfl ca_26 rfl (fun h' o => (basin_in_ret (St.all h') r39 (show inI64 0 by unfold inI64; omega) (show inI64 128 by unfold inI64; omega) hy69).mono fun _ _ _ _ p => ⟨p.1, trivial⟩) fun r70 => ?_
            refine QF.gy rfl rfl rfl ?_
            refine QF.not rfl rfl ?_
            refine QF.pick rfl rfl rfl ?_
            cases hb68
            exact QF.cutn (sb 50 rfl (sb 45 rfl (sb 44 rfl (sb 39 rfl (sb 38 rfl (sb 33 rfl (sb 32 rfl (sb 27 rfl (sb 26 rfl (sb 21 rfl (sb 20 rfl (sb 19 rfl (sb 18 rfl (sb 17 rfl (sb 16 rfl (sb 15 rfl (sb 14 rfl (sb 4 rfl (sb 9 rfl (sb 8 rfl (sb 1 rfl (sb 10 rfl sb0))))))))))))))))))))))
          · skip
            have hb68 := cdT c67 hb68
            cases hb68
            refine QF.gnT rfl rfl rfl rfl rfl ?_
            refine QF.gnT rfl rfl rfl rfl rfl ?_
            refine QF.gnT rfl rfl rfl rfl rfl ?_
            refine QF.gnT rfl rfl rfl rfl rfl ?_
            refine QF.pick rfl rfl rfl ?_
            exact QF.cutn (sb 50 rfl (sb 45 rfl (sb 44 rfl (sb 39 rfl (sb 38 rfl (sb 33 rfl (sb 32 rfl (sb 27 rfl (sb 26 rfl (sb 21 rfl (sb 20 rfl (sb 19 rfl (sb 18 rfl (sb 17 rfl (sb 16 rfl (sb 15 rfl (sb 14 rfl (sb 4 rfl (sb 9 rfl (sb 8 rfl (sb 1 rfl (sb 10 rfl sb0))))))))))))))))))))))
        refine QF.rcn (sb 50 rfl (sb 9 rfl (sb 8 rfl (sb 1 rfl (sb 10 rfl sb0))))) fun h71 hs72 e73 => ?_
        refine WF.if_ rfl (fun c74 => ?_) (fun c74 => ?_)
        · skip
          have E := cdT c74 E
          refine WF.seq ?_
          refine WF.rp (.inl rfl) ?_
          refine QF.as_ rfl rfl ?_
          refine QF.rpn (sb 2 rfl sb0) ?_
          refine WF.ret (fun aa ww hf hw => ?_)
          have hs75 := hs72.drop .head
          cases E
          exact rtg hf rfl hw (rvc (rvT hf (v := _) rfl) rv0) rfl (e5.trans (e19.trans (e30.trans (e42.trans e73)))) ⟨rfl, hs75⟩
        · skip
          have E := cdF c74 E
          refine WF.skip ?_
          refine WF.nilW ?_
          refine WF.rp (.inl rfl) ?_
          refine QF.addw rfl rfl rfl ?_
          refine QF.mv rfl rfl ?_
          refine QF.rpn (sb 10 rfl (sb 9 rfl (sb 8 rfl (sb 1 rfl sb0)))) ?_
          refine WF.nil (fun aa ww hf hw => ?_)
          have hs76 := hs72.drop .head
          exact ⟨(w64 (i14 + 1)), _, _, hf.sub (sb 9 rfl (sb 8 rfl (sb 1 rfl (sb 10 rfl sb0)))), hw, hs76, (e19.trans (e30.trans (e42.trans e73))), (w64_i _), E⟩
      · skip
        have E := cdF c20 E
        refine WF.exit rfl (fun aa ww hf hw => ?_)
        exact ⟨_, _, hf.sub (sb 1 rfl sb0), hw, hs18, e19, E⟩
  · skip
    rintro aa ww ⟨S77, h78, hf, hw, hs79, e80, E⟩
    refine WF.run ?_ hf hw
    clear hf hw ww aa
    rw [f_basin_rightTowns_j0] at E
    refine WF.seq ?_
    refine WF.seq ?_
    refine WF.rp (.inl rfl) ?_
    have k81 := k6.mono e80
    refine QF.fa rfl k81 GBasin.f_Shelters fa_31_8 rfl fun q82 k83 => ?_
    refine QF.ldl ckP hs79.1 rfl k83 ty_28 rfl fun v84 k85 => ?_
    refine QF.len rfl k85 sl_28 rfl fun b86 => ?_
    unfold maxLen at b86
    refine QF.mv rfl rfl ?_
    refine QF.rpn (sb 55 rfl (sb 54 rfl (sb 53 rfl sb0))) ?_
    refine WF.blockJ (fun a w => ∃ (S' : Nat → Prop) (h' : Heap), Fr 64 a [] ∧ Wd B h' w ∧ St S' (L) h' ∧ Ext S77 h78 S' h' ∧ f_basin_rightTowns_j2 N = some r) ?_ ?_
    · skip
      refine WF.loopF (fun n3 => fun a w => ∃ (i89 : Int) (S' : Nat → Prop) (h' : Heap), Fr 64 a [(54, .int .i64 (↑p0_b.Shelters.length : Int)), (53, v84), (55, .int .i64 i89)] ∧ Wd B h' w ∧ St S' (L) h' ∧ Ext S77 h78 S' h' ∧ inI64 i89 ∧ f_basin_rightTowns_l3 N p0_b (f_basin_rightTowns_j2 N) n3 i89 = some r) N ?_ ?_ ?_
      · intro aa ww hf hw
        exact ⟨0, _, _, hf.sub (sb 54 rfl (sb 53 rfl (sb 55 rfl sb0))), hw, hs79, (Ext.refl S77 h78), (show inI64 0 by unfold inI64; omega), E⟩
      · rintro aa ww ⟨_, _, _, _, _, _, _, _, E⟩
        rw [f_basin_rightTowns_l3] at E; cases E
      · skip
        rintro n3 aa ww ⟨i89, S91, h92, hf, hw, hs93, e94, r90, E⟩
        refine WF.run ?_ hf hw
        clear hf hw ww aa
        rw [f_basin_rightTowns_l3] at E
        refine WF.seq ?_
        refine WF.rp (.inl rfl) ?_
        refine QF.lss rfl rfl rfl ?_
        refine QF.rpn (sb 56 rfl (sb 54 rfl (sb 53 rfl (sb 55 rfl sb0)))) ?_
        refine WF.seq ?_
        refine WF.if_ rfl (fun c95 => ?_) (fun c95 => ?_)
        · skip
          have E := cdT c95 E
          refine WF.skip ?_
          refine WF.seq ?_
          refine WF.block ?_
          refine WF.seq ?_
          refine WF.rl ?_
          refine LF.q 2 ?_
          have k96 := k85.mono' e94
          obtain ⟨x97, hx97, E⟩ := bd E
          refine QF.ixe rfl rfl k96 sl_28 hx97 rfl fun q98 k99 => ?_
          refine QF.ld ckP hs93.1 rfl k99 ty_87 (fun e => by cases e) rfl fun v100 k101 => ?_
          refine QF.ln ?_
          refine LF.al zc_87 rfl hs93 fun b102 h103 hs104 e105 => ?_
          have k106 := k101.mono e105
          obtain ⟨rfl, ⟨r108, r109⟩⟩ := RGShelter.ex k106
          refine LF.st (vs := [.string x97.Name, .int .i64 x97.Room]) (cs' := [.string x97.Name, .int .i64 x97.Room]) rfl rfl rfl (one_cons rfl (one_cons rfl one_nil)) ty_87 rfl hs104 .head rfl rfl fun h110 hs111 e112 => ?_
          refine LF.nil (sb 6 rfl (sb 54 rfl (sb 53 rfl (sb 55 rfl sb0)))) ?_
          refine WF.seq ?_
          refine WF.rc (.inl rfl) hs111 ?_
          refine QF.fao rfl fa_87_1 rfl ?_
          refine QF.ldo (vs := [.int .i64 x97.Room]) ckC hs111 rfl mh rfl rfl ty_3 rfl rfl ?_
          obtain ⟨y113, hy113, E⟩ := bd E
          refine QF.callp (v := .bool y113) (Ψ := True) rfl rfl rfl ca_26 rfl (fun h' o => (basin_in_ret (St.all h') r109 (show inI64 0 by unfold inI64; omega) (show inI64 1073741824 by unfold inI64; omega) hy113).mono fun _ _ _ _ p => ⟨p.1, trivial⟩) fun r114 => ?_
          refine QF.not rfl rfl ?_
          refine QF.rcn (sb 62 rfl (sb 54 rfl (sb 53 rfl (sb 55 rfl sb0)))) fun h115 hs116 e117 => ?_
          refine WF.if_ rfl (fun c118 => ?_) (fun c118 => ?_)
          · skip
            have E := cdT c118 E
            refine WF.seq ?_
            refine WF.rp (.inl rfl) ?_
            refine QF.as_ rfl rfl ?_
            refine QF.rpn (sb 2 rfl sb0) ?_
            refine WF.ret (fun aa ww hf hw => ?_)
            have hs119 := hs116.drop .head
            cases E
            exact rtg hf rfl hw (rvc (rvT hf (v := _) rfl) rv0) rfl (e5.trans (e80.trans (e94.trans (e105.trans (e112.trans e117))))) ⟨rfl, hs119⟩
          · skip
            have E := cdF c118 E
            refine WF.skip ?_
            refine WF.nilW ?_
            refine WF.rp (.inl rfl) ?_
            refine QF.addw rfl rfl rfl ?_
            refine QF.mv rfl rfl ?_
            refine QF.rpn (sb 55 rfl (sb 54 rfl (sb 53 rfl sb0))) ?_
            refine WF.nil (fun aa ww hf hw => ?_)
            have hs120 := hs116.drop .head
            exact ⟨(w64 (i89 + 1)), _, _, hf.sub (sb 54 rfl (sb 53 rfl (sb 55 rfl sb0))), hw, hs120, (e94.trans (e105.trans (e112.trans e117))), (w64_i _), E⟩
        · skip
          have E := cdF c95 E
          refine WF.exit rfl (fun aa ww hf hw => ?_)
          exact ⟨_, _, hf.sub sb0, hw, hs93, e94, E⟩
    · skip
      rintro aa ww ⟨S121, h122, hf, hw, hs123, e124, E⟩
      refine WF.run ?_ hf hw
      clear hf hw ww aa
      rw [f_basin_rightTowns_j2] at E
      refine WF.seq ?_
      refine WF.rp (.inl rfl) ?_
      refine QF.as_ rfl rfl ?_
      refine QF.rpn (sb 2 rfl sb0) ?_
      refine WF.ret (fun aa ww hf hw => ?_)
      cases E
      exact rtg hf rfl hw (rvc (rvT hf (v := _) rfl) rv0) rfl (e5.trans (e80.trans e124)) ⟨rfl, hs123⟩

set_option maxRecDepth 10000 in
set_option maxHeartbeats 2000000 in
theorem basin_rightGauges_ret {N : Nat} {S : Nat → Prop} {L : List HP} {h : Heap} (hs : St S L h) {v_p0_b : Value} {p0_b : GBasin} (h_p0_b : Rd S h RGBasin v_p0_b p0_b) {r : Bool} (E : f_basin_rightGauges N p0_b = some r) :
    Ret Try.prog 18 #[v_p0_b] S h (fun v S' h' => v = .bool r ∧ St S' (L) h') := by
  refine Ret.go (l := [v_p0_b]) 47 Try.func18 rfl Try.ntmps18 rfl fun B => ?_
  rw [f_basin_rightGauges] at E
  refine WF.seq ?_
  refine WF.rl ?_
  refine LF.boxp rfl h_p0_b (fun e => by cases e) rfl hs fun q1 S2 h3 hs4 e5 k6 => ?_
  refine LF.q 1 ?_
  refine QF.as_ rfl rfl ?_
  refine QF.ln ?_
  refine LF.nil (sb 1 rfl sb0) ?_
  refine WF.seq ?_
  refine WF.seq ?_
  refine WF.rp (.inl rfl) ?_
  refine QF.fa rfl k6 GBasin.f_Gauges fa_31_6 rfl fun q7 k8 => ?_
  refine QF.ldl ckP hs4.1 rfl k8 ty_26 rfl fun v9 k10 => ?_
  refine QF.len rfl k10 sl_26 rfl fun b11 => ?_
  unfold maxLen at b11
  refine QF.mv rfl rfl ?_
  refine QF.rpn (sb 9 rfl (sb 8 rfl (sb 7 rfl (sb 1 rfl sb0)))) ?_
  refine WF.blockJ (fun a w => ∃ (S' : Nat → Prop) (h' : Heap), Fr 47 a [] ∧ Wd B h' w ∧ St S' (L) h' ∧ Ext S2 h3 S' h' ∧ f_basin_rightGauges_j0 N = some r) ?_ ?_
  · skip
    refine WF.loopF (fun n1 => fun a w => ∃ (i14 : Int) (S' : Nat → Prop) (h' : Heap), Fr 47 a [(8, .int .i64 (↑p0_b.Gauges.length : Int)), (7, v9), (1, q1), (9, .int .i64 i14)] ∧ Wd B h' w ∧ St S' (L) h' ∧ Ext S2 h3 S' h' ∧ inI64 i14 ∧ f_basin_rightGauges_l1 N p0_b (f_basin_rightGauges_j0 N) n1 i14 = some r) N ?_ ?_ ?_
    · intro aa ww hf hw
      exact ⟨0, _, _, hf.sub (sb 8 rfl (sb 7 rfl (sb 1 rfl (sb 9 rfl sb0)))), hw, hs4, (Ext.refl S2 h3), (show inI64 0 by unfold inI64; omega), E⟩
    · rintro aa ww ⟨_, _, _, _, _, _, _, _, E⟩
      rw [f_basin_rightGauges_l1] at E; cases E
    · skip
      rintro n1 aa ww ⟨i14, S16, h17, hf, hw, hs18, e19, r15, E⟩
      refine WF.run ?_ hf hw
      clear hf hw ww aa
      rw [f_basin_rightGauges_l1] at E
      refine WF.seq ?_
      refine WF.rp (.inl rfl) ?_
      refine QF.lss rfl rfl rfl ?_
      refine QF.rpn (sb 10 rfl (sb 8 rfl (sb 7 rfl (sb 1 rfl (sb 9 rfl sb0))))) ?_
      refine WF.seq ?_
      refine WF.if_ rfl (fun c20 => ?_) (fun c20 => ?_)
      · skip
        have E := cdT c20 E
        refine WF.skip ?_
        refine WF.seq ?_
        refine WF.block ?_
        refine WF.seq ?_
        refine WF.rl ?_
        refine LF.q 2 ?_
        have k21 := k10.mono' e19
        obtain ⟨x22, hx22, E⟩ := bd E
        refine QF.ixe rfl rfl k21 sl_26 hx22 rfl fun q23 k24 => ?_
        refine QF.ld ckP hs18.1 rfl k24 ty_44 (fun e => by cases e) rfl fun v25 k26 => ?_
        refine QF.ln ?_
        refine LF.al zc_44 rfl hs18 fun b27 h28 hs29 e30 => ?_
        have k31 := k26.mono e30
        obtain ⟨rfl, ⟨r33, r34, r35, r36, r37⟩⟩ := RGGauge.ex k31
        refine LF.st (vs := [.string x22.Name, .int .i64 x22.Kind, .int .i64 x22.Target, .int .i64 x22.Err, .int .i64 x22.Drift]) (cs' := [.string x22.Name, .int .i64 x22.Kind, .int .i64 x22.Target, .int .i64 x22.Err, .int .i64 x22.Drift]) rfl rfl rfl (one_cons rfl (one_cons rfl (one_cons rfl (one_cons rfl (one_cons rfl one_nil))))) ty_44 rfl hs29 .head rfl rfl fun h38 hs39 e40 => ?_
        refine LF.nil (sb 4 rfl (sb 8 rfl (sb 7 rfl (sb 1 rfl (sb 9 rfl sb0))))) ?_
        refine WF.seq ?_
        refine WF.seq ?_
        refine WF.rc (.inl rfl) hs39 ?_
        refine QF.fao rfl fa_44_1 rfl ?_
        refine QF.ldo (vs := [.int .i64 x22.Kind]) ckC hs39 rfl mh rfl rfl ty_3 rfl rfl ?_
        obtain ⟨y41, hy41, E⟩ := bd E
        refine QF.callp (v := .bool y41) (Ψ := True) rfl rfl rfl ca_26 rfl (fun h' o => (basin_in_ret (St.all h') r34 (show inI64 0 by unfold inI64; omega) (show inI64 2 by unfold inI64; omega) hy41).mono fun _ _ _ _ p => ⟨p.1, trivial⟩) fun r42 => ?_
        refine QF.not rfl rfl ?_
        refine QF.mv rfl rfl ?_
        obtain ⟨b44, hb44, E⟩ := bd E
        refine QF.cutv 5 22 (.bool b44) ?_ ?_
        · cases c43 : (!y41)
          · skip
            have hb44 := cdF c43 hb44
            refine QF.gy rfl rfl rfl ?_
            refine QF.fao rfl fa_44_3 rfl ?_
            refine QF.gy rfl rfl rfl ?_
            refine QF.ldo (vs := [.int .i64 x22.Err]) ckC hs39 rfl mh rfl rfl ty_3 rfl rfl ?_
            refine QF.gy rfl rfl rfl ?_
            obtain ⟨y45, hy45, hb44⟩ := bd hb44
            refine QF.callp (v := .bool y45) (Ψ := True) rfl rfl rfl ca_26 rfl (fun h' o => (basin_in_ret (St.all h') r36 (show inI64 0 by unfold inI64; omega) (show inI64 1099511627776 by unfold inI64; omega) hy45).mono fun _ _ _ _ p => ⟨p.1, trivial⟩) fun r46 => ?_
            refine QF.gy rfl rfl rfl ?_
            refine QF.not rfl rfl ?_
            refine QF.pick rfl rfl rfl ?_
            cases hb44
            exact QF.cutn (sb 22 rfl (sb 17 rfl (sb 16 rfl (sb 15 rfl (sb 14 rfl (sb 13 rfl (sb 4 rfl (sb 8 rfl (sb 7 rfl (sb 1 rfl (sb 9 rfl sb0)))))))))))
          · skip
            have hb44 := cdT c43 hb44
            cases hb44
            refine QF.gnT rfl rfl rfl rfl rfl ?_
            refine QF.gnT rfl rfl rfl rfl rfl ?_
            refine QF.gnT rfl rfl rfl rfl rfl ?_
            refine QF.gnT rfl rfl rfl rfl rfl ?_
            refine QF.pick rfl rfl rfl ?_
            exact QF.cutn (sb 22 rfl (sb 17 rfl (sb 16 rfl (sb 15 rfl (sb 14 rfl (sb 13 rfl (sb 4 rfl (sb 8 rfl (sb 7 rfl (sb 1 rfl (sb 9 rfl sb0)))))))))))
        refine QF.mv rfl rfl ?_
        obtain ⟨b48, hb48, E⟩ := bd E
        refine QF.cutv 5 28 (.bool b48) ?_ ?_
        · cases c47 : b44
          · skip
            have hb48 := cdF c47 hb48
            refine QF.gy rfl rfl rfl ?_
            refine QF.fao rfl fa_44_4 rfl ?_
            refine QF.gy rfl rfl rfl ?_
            refine QF.ldo (vs := [.int .i64 x22.Drift]) ckC hs39 rfl mh rfl rfl ty_3 rfl rfl ?_
            refine QF.gy rfl rfl rfl ?_
            obtain ⟨y49, hy49, hb48⟩ := bd hb48
            refine QF.callp (v := .bool y49) (Ψ := True) rfl rfl rfl ca_26 rfl (fun h' o => (basin_in_ret (St.all h') r37 (show inI64 0 by unfold inI64; omega) (show inI64 1440 by unfold inI64; omega) hy49).mono fun _ _ _ _ p => ⟨p.1, trivial⟩) fun r50 => ?_
            refine QF.gy rfl rfl rfl ?_
            refine QF.not rfl rfl ?_
            refine QF.pick rfl rfl rfl ?_
            cases hb48
            exact QF.cutn (sb 28 rfl (sb 23 rfl (sb 22 rfl (sb 17 rfl (sb 16 rfl (sb 15 rfl (sb 14 rfl (sb 13 rfl (sb 4 rfl (sb 8 rfl (sb 7 rfl (sb 1 rfl (sb 9 rfl sb0)))))))))))))
          · skip
            have hb48 := cdT c47 hb48
            cases hb48
            refine QF.gnT rfl rfl rfl rfl rfl ?_
            refine QF.gnT rfl rfl rfl rfl rfl ?_
            refine QF.gnT rfl rfl rfl rfl rfl ?_
            refine QF.gnT rfl rfl rfl rfl rfl ?_
            refine QF.pick rfl rfl rfl ?_
            exact QF.cutn (sb 28 rfl (sb 23 rfl (sb 22 rfl (sb 17 rfl (sb 16 rfl (sb 15 rfl (sb 14 rfl (sb 13 rfl (sb 4 rfl (sb 8 rfl (sb 7 rfl (sb 1 rfl (sb 9 rfl sb0)))))))))))))
        refine QF.rcn (sb 28 rfl (sb 4 rfl (sb 8 rfl (sb 7 rfl (sb 1 rfl (sb 9 rfl sb0)))))) fun h51 hs52 e53 => ?_
        refine WF.if_ rfl (fun c54 => ?_) (fun c54 => ?_)
        · skip
          have E := cdT c54 E
          refine WF.seq ?_
          refine WF.rp (.inl rfl) ?_
          refine QF.as_ rfl rfl ?_
          refine QF.rpn (sb 2 rfl sb0) ?_
          refine WF.ret (fun aa ww hf hw => ?_)
          have hs55 := hs52.drop .head
          cases E
          exact rtg hf rfl hw (rvc (rvT hf (v := _) rfl) rv0) rfl (e5.trans (e19.trans (e30.trans (e40.trans e53)))) ⟨rfl, hs55⟩
        · skip
          have E := cdF c54 E
          refine WF.skip ?_
          refine WF.seq ?_
          refine WF.rl ?_
          refine LF.q 9 ?_
          have k56 := k6.mono (e19.trans (e30.trans (e40.trans e53)))
          refine QF.fa rfl k56 GBasin.f_Places fa_31_3 rfl fun q57 k58 => ?_
          refine QF.ldl ckP hs52.1 rfl k58 ty_23 rfl fun v59 k60 => ?_
          refine QF.len rfl k60 sl_23 rfl fun b61 => ?_
          unfold maxLen at b61
          refine QF.fa rfl k56 GBasin.f_Cells fa_31_2 rfl fun q62 k63 => ?_
          refine QF.ldi ckP hs52.1 rfl k63 ty_3 rfl fun r64 => ?_
          refine QF.fa rfl k56 GBasin.f_Links fa_31_4 rfl fun q65 k66 => ?_
          refine QF.ldl ckP hs52.1 rfl k66 ty_24 rfl fun v67 k68 => ?_
          refine QF.len rfl k68 sl_24 rfl fun b69 => ?_
          unfold maxLen at b69
          refine QF.blda (cs := [.int .i64 (↑p0_b.Places.length : Int), .int .i64 p0_b.Cells, .int .i64 (↑p0_b.Links.length : Int)]) al_96 rfl rfl rfl ?_
          refine QF.ln ?_
          refine LF.al zc_96 rfl hs52 fun b70 h71 hs72 e73 => ?_
          refine LF.st (vs := [.int .i64 (↑p0_b.Places.length : Int), .int .i64 p0_b.Cells, .int .i64 (↑p0_b.Links.length : Int)]) (cs' := [.int .i64 (↑p0_b.Places.length : Int), .int .i64 p0_b.Cells, .int .i64 (↑p0_b.Links.length : Int)]) rfl rfl rfl (one_cons rfl (one_cons rfl (one_cons rfl one_nil))) ty_96 rfl hs72 .head rfl rfl fun h74 hs75 e76 => ?_
          refine LF.nil (sb 5 rfl (sb 4 rfl (sb 8 rfl (sb 7 rfl (sb 1 rfl (sb 9 rfl sb0)))))) ?_
          refine WF.seq ?_
          refine WF.rc (.inr ⟨mo, by kernel_rfl⟩) hs75 ?_
          refine QF.fao rfl fa_44_2 rfl ?_
          refine QF.ldo (vs := [.int .i64 x22.Target]) ckC hs75 rfl (mt mh) rfl rfl ty_3 rfl rfl ?_
          refine QF.fao rfl fa_44_1 rfl ?_
          refine QF.ldo (vs := [.int .i64 x22.Kind]) ckC hs75 rfl (mt mh) rfl rfl ty_3 rfl rfl ?_
          obtain ⟨z77, hz77, E⟩ := bd E
          have q78 := ix_lt hz77
          refine QF.ixb rfl rfl ar_96 q78.1 q78.2 rfl ?_
          refine QF.ldb' (l := ([(↑p0_b.Places.length : Int), p0_b.Cells, (↑p0_b.Links.length : Int)] : List Int)) (Value.int .i64) ckC hs75 rfl mh rfl hz77 ty_3 rfl ?_
          have r79 : inI64 z77 := ixall (p := fun z => inI64 z) (all_cons (by unfold inI64; omega) (all_cons r64 (all_cons (by unfold inI64; omega) all_nil))) hz77
          obtain ⟨y80, hy80, E⟩ := bd E
          refine QF.callp (v := .bool y80) (Ψ := True) rfl rfl rfl ca_32 rfl (fun h' o => (basin_index_ret (St.all h') r35 r79 hy80).mono fun _ _ _ _ p => ⟨p.1, trivial⟩) fun r81 => ?_
          refine QF.not rfl rfl ?_
          refine QF.rcn (sb 45 rfl (sb 8 rfl (sb 7 rfl (sb 1 rfl (sb 9 rfl sb0))))) fun h82 hs83 e84 => ?_
          refine WF.if_ rfl (fun c85 => ?_) (fun c85 => ?_)
          · skip
            have E := cdT c85 E
            refine WF.seq ?_
            refine WF.rp (.inl rfl) ?_
            refine QF.as_ rfl rfl ?_
            refine QF.rpn (sb 2 rfl sb0) ?_
            refine WF.ret (fun aa ww hf hw => ?_)
            have hs86 := hs83.drop .head
            have hs87 := hs86.drop .head
            cases E
            exact rtg hf rfl hw (rvc (rvT hf (v := _) rfl) rv0) rfl (e5.trans (e19.trans (e30.trans (e40.trans (e53.trans (e73.trans (e76.trans e84))))))) ⟨rfl, hs87⟩
          · skip
            have E := cdF c85 E
            refine WF.skip ?_
            refine WF.nilW ?_
            refine WF.rp (.inl rfl) ?_
            refine QF.addw rfl rfl rfl ?_
            refine QF.mv rfl rfl ?_
            refine QF.rpn (sb 9 rfl (sb 8 rfl (sb 7 rfl (sb 1 rfl sb0)))) ?_
            refine WF.nil (fun aa ww hf hw => ?_)
            have hs88 := hs83.drop .head
            have hs89 := hs88.drop .head
            exact ⟨(w64 (i14 + 1)), _, _, hf.sub (sb 8 rfl (sb 7 rfl (sb 1 rfl (sb 9 rfl sb0)))), hw, hs89, (e19.trans (e30.trans (e40.trans (e53.trans (e73.trans (e76.trans e84)))))), (w64_i _), E⟩
      · skip
        have E := cdF c20 E
        refine WF.exit rfl (fun aa ww hf hw => ?_)
        exact ⟨_, _, hf.sub sb0, hw, hs18, e19, E⟩
  · skip
    rintro aa ww ⟨S90, h91, hf, hw, hs92, e93, E⟩
    refine WF.run ?_ hf hw
    clear hf hw ww aa
    rw [f_basin_rightGauges_j0] at E
    refine WF.seq ?_
    refine WF.rp (.inl rfl) ?_
    refine QF.as_ rfl rfl ?_
    refine QF.rpn (sb 2 rfl sb0) ?_
    refine WF.ret (fun aa ww hf hw => ?_)
    cases E
    exact rtg hf rfl hw (rvc (rvT hf (v := _) rfl) rv0) rfl (e5.trans e93) ⟨rfl, hs92⟩

set_option maxRecDepth 10000 in
set_option maxHeartbeats 2000000 in
theorem basin_rightRoads_ret {N : Nat} {S : Nat → Prop} {L : List HP} {h : Heap} (hs : St S L h) {v_p0_b : Value} {p0_b : GBasin} (h_p0_b : Rd S h RGBasin v_p0_b p0_b) {r : Bool} (E : f_basin_rightRoads N p0_b = some r) :
    Ret Try.prog 19 #[v_p0_b] S h (fun v S' h' => v = .bool r ∧ St S' (L) h') := by
  refine Ret.go (l := [v_p0_b]) 80 Try.func19 rfl Try.ntmps19 rfl fun B => ?_
  rw [f_basin_rightRoads] at E
  refine WF.seq ?_
  refine WF.rl ?_
  refine LF.boxp rfl h_p0_b (fun e => by cases e) rfl hs fun q1 S2 h3 hs4 e5 k6 => ?_
  refine LF.q 1 ?_
  refine QF.as_ rfl rfl ?_
  refine QF.ln ?_
  refine LF.nil (sb 1 rfl sb0) ?_
  refine WF.seq ?_
  refine WF.seq ?_
  refine WF.rp (.inl rfl) ?_
  refine QF.fa rfl k6 GBasin.f_Roads fa_31_7 rfl fun q7 k8 => ?_
  refine QF.ldl ckP hs4.1 rfl k8 ty_27 rfl fun v9 k10 => ?_
  refine QF.len rfl k10 sl_27 rfl fun b11 => ?_
  unfold maxLen at b11
  refine QF.mv rfl rfl ?_
  refine QF.rpn (sb 8 rfl (sb 7 rfl (sb 6 rfl (sb 1 rfl sb0)))) ?_
  refine WF.blockJ (fun a w => ∃ (S' : Nat → Prop) (h' : Heap), Fr 80 a [] ∧ Wd B h' w ∧ St S' (L) h' ∧ Ext S2 h3 S' h' ∧ f_basin_rightRoads_j0 N = some r) ?_ ?_
  · skip
    refine WF.loopF (fun n1 => fun a w => ∃ (i14 : Int) (S' : Nat → Prop) (h' : Heap), Fr 80 a [(7, .int .i64 (↑p0_b.Roads.length : Int)), (6, v9), (1, q1), (8, .int .i64 i14)] ∧ Wd B h' w ∧ St S' (L) h' ∧ Ext S2 h3 S' h' ∧ inI64 i14 ∧ f_basin_rightRoads_l1 N p0_b (f_basin_rightRoads_j0 N) n1 i14 = some r) N ?_ ?_ ?_
    · intro aa ww hf hw
      exact ⟨0, _, _, hf.sub (sb 7 rfl (sb 6 rfl (sb 1 rfl (sb 8 rfl sb0)))), hw, hs4, (Ext.refl S2 h3), (show inI64 0 by unfold inI64; omega), E⟩
    · rintro aa ww ⟨_, _, _, _, _, _, _, _, E⟩
      rw [f_basin_rightRoads_l1] at E; cases E
    · skip
      rintro n1 aa ww ⟨i14, S16, h17, hf, hw, hs18, e19, r15, E⟩
      refine WF.run ?_ hf hw
      clear hf hw ww aa
      rw [f_basin_rightRoads_l1] at E
      refine WF.seq ?_
      refine WF.rp (.inl rfl) ?_
      refine QF.lss rfl rfl rfl ?_
      refine QF.rpn (sb 9 rfl (sb 7 rfl (sb 6 rfl (sb 1 rfl (sb 8 rfl sb0))))) ?_
      refine WF.seq ?_
      refine WF.if_ rfl (fun c20 => ?_) (fun c20 => ?_)
      · skip
        have E := cdT c20 E
        refine WF.skip ?_
        refine WF.seq ?_
        refine WF.block ?_
        refine WF.seq ?_
        refine WF.rl ?_
        refine LF.q 2 ?_
        have k21 := k10.mono' e19
        obtain ⟨x22, hx22, E⟩ := bd E
        refine QF.ixe rfl rfl k21 sl_27 hx22 rfl fun q23 k24 => ?_
        refine QF.ld ckP hs18.1 rfl k24 ty_89 (fun e => by cases e) rfl fun v25 k26 => ?_
        refine QF.ln ?_
        refine LF.al zc_89 rfl hs18 fun b27 h28 hs29 e30 => ?_
        have k31 := k26.mono e30
        obtain ⟨rfl, ⟨r33, r34, r35, r36, r37, r38, r39⟩⟩ := RGRoad.ex k31
        refine LF.st (vs := [.string x22.Name, .int .i64 x22.From, .int .i64 x22.To, .int .i64 x22.Hours, .int .i64 x22.Flow, .int .i64 x22.By, .int .i64 x22.Limit]) (cs' := [.string x22.Name, .int .i64 x22.From, .int .i64 x22.To, .int .i64 x22.Hours, .int .i64 x22.Flow, .int .i64 x22.By, .int .i64 x22.Limit]) rfl rfl rfl (one_cons rfl (one_cons rfl (one_cons rfl (one_cons rfl (one_cons rfl (one_cons rfl (one_cons rfl one_nil))))))) ty_89 rfl hs29 .head rfl rfl fun h40 hs41 e42 => ?_
        refine LF.nil (sb 4 rfl (sb 7 rfl (sb 6 rfl (sb 1 rfl (sb 8 rfl sb0))))) ?_
        refine WF.seq ?_
        refine WF.seq ?_
        refine WF.rc (.inl rfl) hs41 ?_
        refine QF.fao rfl fa_89_1 rfl ?_
        refine QF.ldo (vs := [.int .i64 x22.From]) ckC hs41 rfl mh rfl rfl ty_3 rfl rfl ?_
        have k43 := k6.mono (e19.trans (e30.trans e42))
        refine QF.fa rfl k43 GBasin.f_Towns fa_31_5 rfl fun q44 k45 => ?_
        refine QF.ldl ckC hs41.1 rfl k45 ty_25 rfl fun v46 k47 => ?_
        refine QF.len rfl k47 sl_25 rfl fun b48 => ?_
        unfold maxLen at b48
        obtain ⟨y49, hy49, E⟩ := bd E
        refine QF.callp (v := .bool y49) (Ψ := True) rfl rfl rfl ca_32 rfl (fun h' o => (basin_index_ret (St.all h') r34 (by unfold inI64; omega) hy49).mono fun _ _ _ _ p => ⟨p.1, trivial⟩) fun r50 => ?_
        refine QF.not rfl rfl ?_
        refine QF.mv rfl rfl ?_
        obtain ⟨b52, hb52, E⟩ := bd E
        refine QF.cutv 12 31 (.bool b52) ?_ ?_
        · cases c51 : (!y49)
          · skip
            have hb52 := cdF c51 hb52
            refine QF.gy rfl rfl rfl ?_
            refine QF.fao rfl fa_89_2 rfl ?_
            refine QF.gy rfl rfl rfl ?_
            refine QF.ldo (vs := [.int .i64 x22.To]) ckC hs41 rfl mh rfl rfl ty_3 rfl rfl ?_
            refine QF.gy rfl rfl rfl ?_
            refine QF.fa rfl k43 GBasin.f_Towns fa_31_5 rfl fun q53 k54 => ?_
            refine QF.gy rfl rfl rfl ?_
            refine QF.ldl ckC hs41.1 rfl k54 ty_25 rfl fun v55 k56 => ?_
            refine QF.gy rfl rfl rfl ?_
            refine QF.len rfl k56 sl_25 rfl fun b57 => ?_
            unfold maxLen at b57
            refine QF.gy rfl rfl rfl ?_
            refine QF.fa rfl k43 GBasin.f_Shelters fa_31_8 rfl fun q58 k59 => ?_
            refine QF.gy rfl rfl rfl ?_
            refine QF.ldl ckC hs41.1 rfl k59 ty_28 rfl fun v60 k61 => ?_
            refine QF.gy rfl rfl rfl ?_
            refine QF.len rfl k61 sl_28 rfl fun b62 => ?_
            unfold maxLen at b62
            refine QF.gy rfl rfl rfl ?_
            refine QF.addw rfl rfl rfl ?_
            refine QF.gy rfl rfl rfl ?_
            obtain ⟨y63, hy63, hb52⟩ := bd hb52
            refine QF.callp (v := .bool y63) (Ψ := True) rfl rfl rfl ca_32 rfl (fun h' o => (basin_index_ret (St.all h') r35 (w64_i _) hy63).mono fun _ _ _ _ p => ⟨p.1, trivial⟩) fun r64 => ?_
            refine QF.gy rfl rfl rfl ?_
            refine QF.not rfl rfl ?_
            refine QF.pick rfl rfl rfl ?_
            cases hb52
            exact QF.cutn (sb 31 rfl (sb 19 rfl (sb 18 rfl (sb 17 rfl (sb 16 rfl (sb 15 rfl (sb 14 rfl (sb 13 rfl (sb 12 rfl (sb 4 rfl (sb 7 rfl (sb 6 rfl (sb 1 rfl (sb 8 rfl sb0))))))))))))))
          · skip
            have hb52 := cdT c51 hb52
            cases hb52
            refine QF.gnT rfl rfl rfl rfl rfl ?_
            refine QF.gnT rfl rfl rfl rfl rfl ?_
            refine QF.gnT rfl rfl rfl rfl rfl ?_
            refine QF.gnT rfl rfl rfl rfl rfl ?_
            refine QF.gnT rfl rfl rfl rfl rfl ?_
            refine QF.gnT rfl rfl rfl rfl rfl ?_
            refine QF.gnT rfl rfl rfl rfl rfl ?_
            refine QF.gnT rfl rfl rfl rfl rfl ?_
            refine QF.gnT rfl rfl rfl rfl rfl ?_
            refine QF.gnT rfl rfl rfl rfl rfl ?_
            refine QF.gnT rfl rfl rfl rfl rfl ?_
            refine QF.pick rfl rfl rfl ?_
            exact QF.cutn (sb 31 rfl (sb 19 rfl (sb 18 rfl (sb 17 rfl (sb 16 rfl (sb 15 rfl (sb 14 rfl (sb 13 rfl (sb 12 rfl (sb 4 rfl (sb 7 rfl (sb 6 rfl (sb 1 rfl (sb 8 rfl sb0))))))))))))))
        refine QF.mv rfl rfl ?_
        refine QF.cutv 6 38 (.bool (b52 || (decide (x22.From = x22.To)))) ?_ ?_
        · cases c65 : b52
          · skip
            refine QF.gy rfl rfl rfl ?_
            refine QF.fao rfl fa_89_1 rfl ?_
            refine QF.gy rfl rfl rfl ?_
            refine QF.ldo (vs := [.int .i64 x22.From]) ckC hs41 rfl mh rfl rfl ty_3 rfl rfl ?_
            refine QF.gy rfl rfl rfl ?_
            refine QF.fao rfl fa_89_2 rfl ?_
            refine QF.gy rfl rfl rfl ?_
            refine QF.ldo (vs := [.int .i64 x22.To]) ckC hs41 rfl mh rfl rfl ty_3 rfl rfl ?_
            refine QF.gy rfl rfl rfl ?_
            refine QF.eql rfl rfl rfl ?_
            refine QF.pick rfl rfl rfl ?_
            exact QF.cutn (sb 38 rfl (sb 32 rfl (sb 31 rfl (sb 19 rfl (sb 18 rfl (sb 17 rfl (sb 16 rfl (sb 15 rfl (sb 14 rfl (sb 13 rfl (sb 12 rfl (sb 4 rfl (sb 7 rfl (sb 6 rfl (sb 1 rfl (sb 8 rfl sb0))))))))))))))))
          · skip
            refine QF.gnT rfl rfl rfl rfl rfl ?_
            refine QF.gnT rfl rfl rfl rfl rfl ?_
            refine QF.gnT rfl rfl rfl rfl rfl ?_
            refine QF.gnT rfl rfl rfl rfl rfl ?_
            refine QF.gnT rfl rfl rfl rfl rfl ?_
            refine QF.pick rfl rfl rfl ?_
            exact QF.cutn (sb 38 rfl (sb 32 rfl (sb 31 rfl (sb 19 rfl (sb 18 rfl (sb 17 rfl (sb 16 rfl (sb 15 rfl (sb 14 rfl (sb 13 rfl (sb 12 rfl (sb 4 rfl (sb 7 rfl (sb 6 rfl (sb 1 rfl (sb 8 rfl sb0))))))))))))))))
        refine QF.mv rfl rfl ?_
        obtain ⟨b67, hb67, E⟩ := bd E
        refine QF.cutv 5 44 (.bool b67) ?_ ?_
        · cases c66 : (b52 || (decide (x22.From = x22.To)))
          · skip
            have hb67 := cdF c66 hb67
            refine QF.gy rfl rfl rfl ?_
            refine QF.fao rfl fa_89_3 rfl ?_
            refine QF.gy rfl rfl rfl ?_
            refine QF.ldo (vs := [.int .i64 x22.Hours]) ckC hs41 rfl mh rfl rfl ty_3 rfl rfl ?_
            refine QF.gy rfl rfl rfl ?_
            obtain ⟨y68, hy68, hb67⟩ := bd hb67
            refine QF.callp (v := .bool y68) (Ψ := True) rfl rfl rfl ca_26 rfl (fun h' o => (basin_in_ret (St.all h') r36 (show inI64 1 by unfold inI64; omega) (show inI64 24 by unfold inI64; omega) hy68).mono fun _ _ _ _ p => ⟨p.1, trivial⟩) fun r69 => ?_
            refine QF.gy rfl rfl rfl ?_
            refine QF.not rfl rfl ?_
            refine QF.pick rfl rfl rfl ?_
            cases hb67
            exact QF.cutn (sb 44 rfl (sb 39 rfl (sb 38 rfl (sb 32 rfl (sb 31 rfl (sb 19 rfl (sb 18 rfl (sb 17 rfl (sb 16 rfl (sb 15 rfl (sb 14 rfl (sb 13 rfl (sb 12 rfl (sb 4 rfl (sb 7 rfl (sb 6 rfl (sb 1 rfl (sb 8 rfl sb0))))))))))))))))))
          · skip
            have hb67 := cdT c66 hb67
            cases hb67
            refine QF.gnT rfl rfl rfl rfl rfl ?_
            refine QF.gnT rfl rfl rfl rfl rfl ?_
            refine QF.gnT rfl rfl rfl rfl rfl ?_
            refine QF.gnT rfl rfl rfl rfl rfl ?_
            refine QF.pick rfl rfl rfl ?_
            exact QF.cutn (sb 44 rfl (sb 39 rfl (sb 38 rfl (sb 32 rfl (sb 31 rfl (sb 19 rfl (sb 18 rfl (sb 17 rfl (sb 16 rfl (sb 15 rfl (sb 14 rfl (sb 13 rfl (sb 12 rfl (sb 4 rfl (sb 7 rfl (sb 6 rfl (sb 1 rfl (sb 8 rfl sb0))))))))))))))))))
        refine QF.mv rfl rfl ?_
        obtain ⟨b71, hb71, E⟩ := bd E
        refine QF.cutv 5 50 (.bool b71) ?_ ?_
        · cases c70 : b67
          · skip
            have hb71 := cdF c70 hb71
            refine QF.gy rfl rfl rfl ?_
            refine QF.fao rfl fa_89_4 rfl ?_
            refine QF.gy rfl rfl rfl ?_
            refine QF.ldo (vs := [.int .i64 x22.Flow]) ckC hs41 rfl mh rfl rfl ty_3 rfl rfl ?_
            refine QF.gy rfl rfl rfl ?_
            obtain ⟨y72, hy72, hb71⟩ := bd hb71
            refine QF.callp (v := .bool y72) (Ψ := True) rfl rfl rfl ca_26 rfl (fun h' o => (basin_in_ret (St.all h') r37 (show inI64 0 by unfold inI64; omega) (show inI64 1073741824 by unfold inI64; omega) hy72).mono fun _ _ _ _ p => ⟨p.1, trivial⟩) fun r73 => ?_
            refine QF.gy rfl rfl rfl ?_
            refine QF.not rfl rfl ?_
            refine QF.pick rfl rfl rfl ?_
            cases hb71
            exact QF.cutn (sb 50 rfl (sb 45 rfl (sb 44 rfl (sb 39 rfl (sb 38 rfl (sb 32 rfl (sb 31 rfl (sb 19 rfl (sb 18 rfl (sb 17 rfl (sb 16 rfl (sb 15 rfl (sb 14 rfl (sb 13 rfl (sb 12 rfl (sb 4 rfl (sb 7 rfl (sb 6 rfl (sb 1 rfl (sb 8 rfl sb0))))))))))))))))))))
          · skip
            have hb71 := cdT c70 hb71
            cases hb71
            refine QF.gnT rfl rfl rfl rfl rfl ?_
            refine QF.gnT rfl rfl rfl rfl rfl ?_
            refine QF.gnT rfl rfl rfl rfl rfl ?_
            refine QF.gnT rfl rfl rfl rfl rfl ?_
            refine QF.pick rfl rfl rfl ?_
            exact QF.cutn (sb 50 rfl (sb 45 rfl (sb 44 rfl (sb 39 rfl (sb 38 rfl (sb 32 rfl (sb 31 rfl (sb 19 rfl (sb 18 rfl (sb 17 rfl (sb 16 rfl (sb 15 rfl (sb 14 rfl (sb 13 rfl (sb 12 rfl (sb 4 rfl (sb 7 rfl (sb 6 rfl (sb 1 rfl (sb 8 rfl sb0))))))))))))))))))))
        refine QF.mv rfl rfl ?_
        obtain ⟨b75, hb75, E⟩ := bd E
        refine QF.cutv 5 56 (.bool b75) ?_ ?_
        · cases c74 : b71
          · skip
            have hb75 := cdF c74 hb75
            refine QF.gy rfl rfl rfl ?_
            refine QF.fao rfl fa_89_6 rfl ?_
            refine QF.gy rfl rfl rfl ?_
            refine QF.ldo (vs := [.int .i64 x22.Limit]) ckC hs41 rfl mh rfl rfl ty_3 rfl rfl ?_
            refine QF.gy rfl rfl rfl ?_
            obtain ⟨y76, hy76, hb75⟩ := bd hb75
            refine QF.callp (v := .bool y76) (Ψ := True) rfl rfl rfl ca_27 rfl (fun h' o => (basin_volume_ret (St.all h') r39 hy76).mono fun _ _ _ _ p => ⟨p.1, trivial⟩) fun r77 => ?_
            refine QF.gy rfl rfl rfl ?_
            refine QF.not rfl rfl ?_
            refine QF.pick rfl rfl rfl ?_
            cases hb75
            exact QF.cutn (sb 56 rfl (sb 51 rfl (sb 50 rfl (sb 45 rfl (sb 44 rfl (sb 39 rfl (sb 38 rfl (sb 32 rfl (sb 31 rfl (sb 19 rfl (sb 18 rfl (sb 17 rfl (sb 16 rfl (sb 15 rfl (sb 14 rfl (sb 13 rfl (sb 12 rfl (sb 4 rfl (sb 7 rfl (sb 6 rfl (sb 1 rfl (sb 8 rfl sb0))))))))))))))))))))))
          · skip
            have hb75 := cdT c74 hb75
            cases hb75
            refine QF.gnT rfl rfl rfl rfl rfl ?_
            refine QF.gnT rfl rfl rfl rfl rfl ?_
            refine QF.gnT rfl rfl rfl rfl rfl ?_
            refine QF.gnT rfl rfl rfl rfl rfl ?_
            refine QF.pick rfl rfl rfl ?_
            exact QF.cutn (sb 56 rfl (sb 51 rfl (sb 50 rfl (sb 45 rfl (sb 44 rfl (sb 39 rfl (sb 38 rfl (sb 32 rfl (sb 31 rfl (sb 19 rfl (sb 18 rfl (sb 17 rfl (sb 16 rfl (sb 15 rfl (sb 14 rfl (sb 13 rfl (sb 12 rfl (sb 4 rfl (sb 7 rfl (sb 6 rfl (sb 1 rfl (sb 8 rfl sb0))))))))))))))))))))))
        refine QF.rcn (sb 56 rfl (sb 4 rfl (sb 7 rfl (sb 6 rfl (sb 1 rfl (sb 8 rfl sb0)))))) fun h78 hs79 e80 => ?_
        refine WF.if_ rfl (fun c81 => ?_) (fun c81 => ?_)
        · skip
          have E := cdT c81 E
          refine WF.seq ?_
          refine WF.rp (.inl rfl) ?_
          refine QF.as_ rfl rfl ?_
          refine QF.rpn (sb 2 rfl sb0) ?_
          refine WF.ret (fun aa ww hf hw => ?_)
          have hs82 := hs79.drop .head
          cases E
          exact rtg hf rfl hw (rvc (rvT hf (v := _) rfl) rv0) rfl (e5.trans (e19.trans (e30.trans (e42.trans e80)))) ⟨rfl, hs82⟩
        · skip
          have E := cdF c81 E
          refine WF.skip ?_
          refine WF.seq ?_
          refine WF.rc (.inl rfl) hs79 ?_
          refine QF.fao rfl fa_89_5 rfl ?_
          refine QF.ldo (vs := [.int .i64 x22.By]) ckC hs79 rfl mh rfl rfl ty_3 rfl rfl ?_
          refine QF.eql rfl rfl rfl ?_
          refine QF.mv rfl rfl ?_
          refine QF.cutv 4 64 (.bool ((decide (x22.By = (-1))) && (decide (x22.Limit ≠ 0)))) ?_ ?_
          · cases c83 : (decide (x22.By = (-1)))
            · skip
              refine QF.gnF rfl rfl rfl rfl rfl ?_
              refine QF.gnF rfl rfl rfl rfl rfl ?_
              refine QF.gnF rfl rfl rfl rfl rfl ?_
              refine QF.pick rfl rfl rfl ?_
              exact QF.cutn (sb 64 rfl (sb 60 rfl (sb 59 rfl (sb 58 rfl (sb 57 rfl (sb 56 rfl (sb 4 rfl (sb 7 rfl (sb 6 rfl (sb 1 rfl (sb 8 rfl sb0)))))))))))
            · skip
              refine QF.gy rfl rfl rfl ?_
              refine QF.fao rfl fa_89_6 rfl ?_
              refine QF.gy rfl rfl rfl ?_
              refine QF.ldo (vs := [.int .i64 x22.Limit]) ckC hs79 rfl mh rfl rfl ty_3 rfl rfl ?_
              refine QF.gy rfl rfl rfl ?_
              refine QF.neq rfl rfl rfl ?_
              refine QF.pick rfl rfl rfl ?_
              exact QF.cutn (sb 64 rfl (sb 60 rfl (sb 59 rfl (sb 58 rfl (sb 57 rfl (sb 56 rfl (sb 4 rfl (sb 7 rfl (sb 6 rfl (sb 1 rfl (sb 8 rfl sb0)))))))))))
          refine QF.mv rfl rfl ?_
          obtain ⟨b85, hb85, E⟩ := bd E
          refine QF.cutv 13 78 (.bool b85) ?_ ?_
          · cases c84 : ((decide (x22.By = (-1))) && (decide (x22.Limit ≠ 0)))
            · skip
              have hb85 := cdF c84 hb85
              refine QF.gy rfl rfl rfl ?_
              refine QF.fao rfl fa_89_5 rfl ?_
              refine QF.gy rfl rfl rfl ?_
              refine QF.ldo (vs := [.int .i64 x22.By]) ckC hs79 rfl mh rfl rfl ty_3 rfl rfl ?_
              refine QF.gy rfl rfl rfl ?_
              refine QF.neq rfl rfl rfl ?_
              refine QF.gy rfl rfl rfl ?_
              refine QF.mv rfl rfl ?_
              obtain ⟨b87, hb87, hb85⟩ := bd hb85
              refine QF.cutv 8 77 (.bool b87) ?_ ?_
              · cases c86 : (decide (x22.By ≠ (-1)))
                · skip
                  have hb87 := cdF c86 hb87
                  cases hb87
                  refine QF.gnF rfl rfl rfl rfl rfl ?_
                  refine QF.gnF rfl rfl rfl rfl rfl ?_
                  refine QF.gnF rfl rfl rfl rfl rfl ?_
                  refine QF.gnF rfl rfl rfl rfl rfl ?_
                  refine QF.gnF rfl rfl rfl rfl rfl ?_
                  refine QF.gnF rfl rfl rfl rfl rfl ?_
                  refine QF.gnF rfl rfl rfl rfl rfl ?_
                  refine QF.gy rfl rfl rfl ?_
                  refine QF.pick rfl rfl rfl ?_
                  exact QF.cutn (sb 77 rfl (sb 69 rfl (sb 68 rfl (sb 67 rfl (sb 66 rfl (sb 65 rfl (sb 64 rfl (sb 60 rfl (sb 59 rfl (sb 58 rfl (sb 57 rfl (sb 56 rfl (sb 4 rfl (sb 7 rfl (sb 6 rfl (sb 1 rfl (sb 8 rfl sb0)))))))))))))))))
                · skip
                  have hb87 := cdT c86 hb87
                  refine QF.gy rfl rfl rfl ?_
                  refine QF.fao rfl fa_89_5 rfl ?_
                  refine QF.gy rfl rfl rfl ?_
                  refine QF.ldo (vs := [.int .i64 x22.By]) ckC hs79 rfl mh rfl rfl ty_3 rfl rfl ?_
                  refine QF.gy rfl rfl rfl ?_
                  have k88 := k43.mono e80
                  refine QF.fa rfl k88 GBasin.f_Places fa_31_3 rfl fun q89 k90 => ?_
                  refine QF.gy rfl rfl rfl ?_
                  refine QF.ldl ckC hs79.1 rfl k90 ty_23 rfl fun v91 k92 => ?_
                  refine QF.gy rfl rfl rfl ?_
                  refine QF.len rfl k92 sl_23 rfl fun b93 => ?_
                  unfold maxLen at b93
                  refine QF.gy rfl rfl rfl ?_
                  obtain ⟨y94, hy94, hb87⟩ := bd hb87
                  refine QF.callp (v := .bool y94) (Ψ := True) rfl rfl rfl ca_32 rfl (fun h' o => (basin_index_ret (St.all h') r38 (by unfold inI64; omega) hy94).mono fun _ _ _ _ p => ⟨p.1, trivial⟩) fun r95 => ?_
                  refine QF.gy rfl rfl rfl ?_
                  refine QF.not rfl rfl ?_
                  refine QF.gy rfl rfl rfl ?_
                  refine QF.pick rfl rfl rfl ?_
                  cases hb87
                  exact QF.cutn (sb 77 rfl (sb 69 rfl (sb 68 rfl (sb 67 rfl (sb 66 rfl (sb 65 rfl (sb 64 rfl (sb 60 rfl (sb 59 rfl (sb 58 rfl (sb 57 rfl (sb 56 rfl (sb 4 rfl (sb 7 rfl (sb 6 rfl (sb 1 rfl (sb 8 rfl sb0)))))))))))))))))
              refine QF.pick rfl rfl rfl ?_
              cases hb85
              exact QF.cutn (sb 78 rfl (sb 65 rfl (sb 64 rfl (sb 60 rfl (sb 59 rfl (sb 58 rfl (sb 57 rfl (sb 56 rfl (sb 4 rfl (sb 7 rfl (sb 6 rfl (sb 1 rfl (sb 8 rfl sb0)))))))))))))
            · skip
              have hb85 := cdT c84 hb85
              cases hb85
              refine QF.gnT rfl rfl rfl rfl rfl ?_
              refine QF.gnT rfl rfl rfl rfl rfl ?_
              refine QF.gnT rfl rfl rfl rfl rfl ?_
              refine QF.gnT rfl rfl rfl rfl rfl ?_
              refine QF.gnu rfl rfl rfl rfl rfl ?_
              refine QF.gnu rfl rfl rfl rfl rfl ?_
              refine QF.gnu rfl rfl rfl rfl rfl ?_
              refine QF.gnu rfl rfl rfl rfl rfl ?_
              refine QF.gnu rfl rfl rfl rfl rfl ?_
              refine QF.gnu rfl rfl rfl rfl rfl ?_
              refine QF.gnu rfl rfl rfl rfl rfl ?_
              refine QF.gnT rfl rfl rfl rfl rfl ?_
              refine QF.pick rfl rfl rfl ?_
              exact QF.cutn (sb 78 rfl (sb 65 rfl (sb 64 rfl (sb 60 rfl (sb 59 rfl (sb 58 rfl (sb 57 rfl (sb 56 rfl (sb 4 rfl (sb 7 rfl (sb 6 rfl (sb 1 rfl (sb 8 rfl sb0)))))))))))))
          refine QF.rcn (sb 78 rfl (sb 7 rfl (sb 6 rfl (sb 1 rfl (sb 8 rfl sb0))))) fun h96 hs97 e98 => ?_
          refine WF.if_ rfl (fun c99 => ?_) (fun c99 => ?_)
          · skip
            have E := cdT c99 E
            refine WF.seq ?_
            refine WF.rp (.inl rfl) ?_
            refine QF.as_ rfl rfl ?_
            refine QF.rpn (sb 2 rfl sb0) ?_
            refine WF.ret (fun aa ww hf hw => ?_)
            have hs100 := hs97.drop .head
            cases E
            exact rtg hf rfl hw (rvc (rvT hf (v := _) rfl) rv0) rfl (e5.trans (e19.trans (e30.trans (e42.trans (e80.trans e98))))) ⟨rfl, hs100⟩
          · skip
            have E := cdF c99 E
            refine WF.skip ?_
            refine WF.nilW ?_
            refine WF.rp (.inl rfl) ?_
            refine QF.addw rfl rfl rfl ?_
            refine QF.mv rfl rfl ?_
            refine QF.rpn (sb 8 rfl (sb 7 rfl (sb 6 rfl (sb 1 rfl sb0)))) ?_
            refine WF.nil (fun aa ww hf hw => ?_)
            have hs101 := hs97.drop .head
            exact ⟨(w64 (i14 + 1)), _, _, hf.sub (sb 7 rfl (sb 6 rfl (sb 1 rfl (sb 8 rfl sb0)))), hw, hs101, (e19.trans (e30.trans (e42.trans (e80.trans e98)))), (w64_i _), E⟩
      · skip
        have E := cdF c20 E
        refine WF.exit rfl (fun aa ww hf hw => ?_)
        exact ⟨_, _, hf.sub sb0, hw, hs18, e19, E⟩
  · skip
    rintro aa ww ⟨S102, h103, hf, hw, hs104, e105, E⟩
    refine WF.run ?_ hf hw
    clear hf hw ww aa
    rw [f_basin_rightRoads_j0] at E
    refine WF.seq ?_
    refine WF.rp (.inl rfl) ?_
    refine QF.as_ rfl rfl ?_
    refine QF.rpn (sb 2 rfl sb0) ?_
    refine WF.ret (fun aa ww hf hw => ?_)
    cases E
    exact rtg hf rfl hw (rvc (rvT hf (v := _) rfl) rv0) rfl (e5.trans e105) ⟨rfl, hs104⟩

set_option maxRecDepth 10000 in
set_option maxHeartbeats 2000000 in
theorem basin_Right_ret {N : Nat} {S : Nat → Prop} {L : List HP} {h : Heap} (hs : St S L h) {v_p0_b : Value} {p0_b : GBasin} (h_p0_b : Rd S h RGBasin v_p0_b p0_b) {r : Bool} (E : f_basin_Right N p0_b = some r) :
    Ret Try.prog 6 #[v_p0_b] S h (fun v S' h' => v = .bool r ∧ St S' (L) h') := by
  refine Ret.go (l := [v_p0_b]) 37 Try.func6 rfl Try.ntmps6 rfl fun B => ?_
  rw [f_basin_Right] at E
  refine WF.seq ?_
  refine WF.rl ?_
  refine LF.boxp rfl h_p0_b (fun e => by cases e) rfl hs fun q1 S2 h3 hs4 e5 k6 => ?_
  refine LF.q 1 ?_
  refine QF.as_ rfl rfl ?_
  refine QF.ln ?_
  refine LF.nil (sb 1 rfl sb0) ?_
  refine WF.seq ?_
  refine WF.rc (.inl rfl) hs4 ?_
  refine QF.ld ckC hs4.1 rfl k6 ty_31 (fun e => by cases e) rfl fun v7 k8 => ?_
  obtain ⟨y9, hy9, E⟩ := bd E
  refine QF.callp (v := .bool y9) (Ψ := True) rfl rfl rfl ca_11 rfl (fun h' o => (basin_rightHead_ret (St.all h') (k8.mono (o.all hs4.1)) hy9).mono fun _ _ _ _ p => ⟨p.1, trivial⟩) fun r10 => ?_
  refine QF.mv rfl rfl ?_
  obtain ⟨b12, hb12, E⟩ := bd E
  refine QF.cutv 3 8 (.bool b12) ?_ ?_
  · cases c11 : y9
    · skip
      have hb12 := cdF c11 hb12
      cases hb12
      refine QF.gnF rfl rfl rfl rfl rfl ?_
      refine QF.gnF rfl rfl rfl rfl rfl ?_
      refine QF.pick rfl rfl rfl ?_
      exact QF.cutn (sb 8 rfl (sb 5 rfl (sb 4 rfl (sb 3 rfl (sb 1 rfl sb0)))))
    · skip
      have hb12 := cdT c11 hb12
      refine QF.gy rfl rfl rfl ?_
      refine QF.ld ckC hs4.1 rfl k6 ty_31 (fun e => by cases e) rfl fun v13 k14 => ?_
      refine QF.gy rfl rfl rfl ?_
      obtain ⟨y15, hy15, hb12⟩ := bd hb12
      refine QF.callp (v := .bool y15) (Ψ := True) rfl rfl rfl ca_12 rfl (fun h' o => (basin_rightNames_ret (St.all h') (k14.mono (o.all hs4.1)) hy15).mono fun _ _ _ _ p => ⟨p.1, trivial⟩) fun r16 => ?_
      refine QF.pick rfl rfl rfl ?_
      cases hb12
      exact QF.cutn (sb 8 rfl (sb 5 rfl (sb 4 rfl (sb 3 rfl (sb 1 rfl sb0)))))
  refine QF.mv rfl rfl ?_
  obtain ⟨b18, hb18, E⟩ := bd E
  refine QF.cutv 3 12 (.bool b18) ?_ ?_
  · cases c17 : b12
    · skip
      have hb18 := cdF c17 hb18
      cases hb18
      refine QF.gnF rfl rfl rfl rfl rfl ?_
      refine QF.gnF rfl rfl rfl rfl rfl ?_
      refine QF.pick rfl rfl rfl ?_
      exact QF.cutn (sb 12 rfl (sb 9 rfl (sb 8 rfl (sb 5 rfl (sb 4 rfl (sb 3 rfl (sb 1 rfl sb0)))))))
    · skip
      have hb18 := cdT c17 hb18
      refine QF.gy rfl rfl rfl ?_
      refine QF.ld ckC hs4.1 rfl k6 ty_31 (fun e => by cases e) rfl fun v19 k20 => ?_
      refine QF.gy rfl rfl rfl ?_
      obtain ⟨y21, hy21, hb18⟩ := bd hb18
      refine QF.callp (v := .bool y21) (Ψ := True) rfl rfl rfl ca_13 rfl (fun h' o => (basin_rightPlaces_ret (St.all h') (k20.mono (o.all hs4.1)) hy21).mono fun _ _ _ _ p => ⟨p.1, trivial⟩) fun r22 => ?_
      refine QF.pick rfl rfl rfl ?_
      cases hb18
      exact QF.cutn (sb 12 rfl (sb 9 rfl (sb 8 rfl (sb 5 rfl (sb 4 rfl (sb 3 rfl (sb 1 rfl sb0)))))))
  refine QF.mv rfl rfl ?_
  obtain ⟨b24, hb24, E⟩ := bd E
  refine QF.cutv 3 16 (.bool b24) ?_ ?_
  · cases c23 : b18
    · skip
      have hb24 := cdF c23 hb24
      cases hb24
      refine QF.gnF rfl rfl rfl rfl rfl ?_
      refine QF.gnF rfl rfl rfl rfl rfl ?_
      refine QF.pick rfl rfl rfl ?_
      exact QF.cutn (sb 16 rfl (sb 13 rfl (sb 12 rfl (sb 9 rfl (sb 8 rfl (sb 5 rfl (sb 4 rfl (sb 3 rfl (sb 1 rfl sb0)))))))))
    · skip
      have hb24 := cdT c23 hb24
      refine QF.gy rfl rfl rfl ?_
      refine QF.ld ckC hs4.1 rfl k6 ty_31 (fun e => by cases e) rfl fun v25 k26 => ?_
      refine QF.gy rfl rfl rfl ?_
      obtain ⟨y27, hy27, hb24⟩ := bd hb24
      refine QF.callp (v := .bool y27) (Ψ := True) rfl rfl rfl ca_14 rfl (fun h' o => (basin_rightLinks_ret (St.all h') (k26.mono (o.all hs4.1)) hy27).mono fun _ _ _ _ p => ⟨p.1, trivial⟩) fun r28 => ?_
      refine QF.pick rfl rfl rfl ?_
      cases hb24
      exact QF.cutn (sb 16 rfl (sb 13 rfl (sb 12 rfl (sb 9 rfl (sb 8 rfl (sb 5 rfl (sb 4 rfl (sb 3 rfl (sb 1 rfl sb0)))))))))
  refine QF.mv rfl rfl ?_
  obtain ⟨b30, hb30, E⟩ := bd E
  refine QF.cutv 3 20 (.bool b30) ?_ ?_
  · cases c29 : b24
    · skip
      have hb30 := cdF c29 hb30
      cases hb30
      refine QF.gnF rfl rfl rfl rfl rfl ?_
      refine QF.gnF rfl rfl rfl rfl rfl ?_
      refine QF.pick rfl rfl rfl ?_
      exact QF.cutn (sb 20 rfl (sb 17 rfl (sb 16 rfl (sb 13 rfl (sb 12 rfl (sb 9 rfl (sb 8 rfl (sb 5 rfl (sb 4 rfl (sb 3 rfl (sb 1 rfl sb0)))))))))))
    · skip
      have hb30 := cdT c29 hb30
      refine QF.gy rfl rfl rfl ?_
      refine QF.ld ckC hs4.1 rfl k6 ty_31 (fun e => by cases e) rfl fun v31 k32 => ?_
      refine QF.gy rfl rfl rfl ?_
      obtain ⟨y33, hy33, hb30⟩ := bd hb30
      refine QF.callp (v := .bool y33) (Ψ := True) rfl rfl rfl ca_15 rfl (fun h' o => (basin_rightOffices_ret (St.all h') (k32.mono (o.all hs4.1)) hy33).mono fun _ _ _ _ p => ⟨p.1, trivial⟩) fun r34 => ?_
      refine QF.pick rfl rfl rfl ?_
      cases hb30
      exact QF.cutn (sb 20 rfl (sb 17 rfl (sb 16 rfl (sb 13 rfl (sb 12 rfl (sb 9 rfl (sb 8 rfl (sb 5 rfl (sb 4 rfl (sb 3 rfl (sb 1 rfl sb0)))))))))))
  refine QF.mv rfl rfl ?_
  obtain ⟨b36, hb36, E⟩ := bd E
  refine QF.cutv 3 24 (.bool b36) ?_ ?_
  · cases c35 : b30
    · skip
      have hb36 := cdF c35 hb36
      cases hb36
      refine QF.gnF rfl rfl rfl rfl rfl ?_
      refine QF.gnF rfl rfl rfl rfl rfl ?_
      refine QF.pick rfl rfl rfl ?_
      exact QF.cutn (sb 24 rfl (sb 21 rfl (sb 20 rfl (sb 17 rfl (sb 16 rfl (sb 13 rfl (sb 12 rfl (sb 9 rfl (sb 8 rfl (sb 5 rfl (sb 4 rfl (sb 3 rfl (sb 1 rfl sb0)))))))))))))
    · skip
      have hb36 := cdT c35 hb36
      refine QF.gy rfl rfl rfl ?_
      refine QF.ld ckC hs4.1 rfl k6 ty_31 (fun e => by cases e) rfl fun v37 k38 => ?_
      refine QF.gy rfl rfl rfl ?_
      obtain ⟨y39, hy39, hb36⟩ := bd hb36
      refine QF.callp (v := .bool y39) (Ψ := True) rfl rfl rfl ca_16 rfl (fun h' o => (basin_rightSlopes_ret (St.all h') (k38.mono (o.all hs4.1)) hy39).mono fun _ _ _ _ p => ⟨p.1, trivial⟩) fun r40 => ?_
      refine QF.pick rfl rfl rfl ?_
      cases hb36
      exact QF.cutn (sb 24 rfl (sb 21 rfl (sb 20 rfl (sb 17 rfl (sb 16 rfl (sb 13 rfl (sb 12 rfl (sb 9 rfl (sb 8 rfl (sb 5 rfl (sb 4 rfl (sb 3 rfl (sb 1 rfl sb0)))))))))))))
  refine QF.mv rfl rfl ?_
  obtain ⟨b42, hb42, E⟩ := bd E
  refine QF.cutv 3 28 (.bool b42) ?_ ?_
  · cases c41 : b36
    · skip
      have hb42 := cdF c41 hb42
      cases hb42
      refine QF.gnF rfl rfl rfl rfl rfl ?_
      refine QF.gnF rfl rfl rfl rfl rfl ?_
      refine QF.pick rfl rfl rfl ?_
      exact QF.cutn (sb 28 rfl (sb 25 rfl (sb 24 rfl (sb 21 rfl (sb 20 rfl (sb 17 rfl (sb 16 rfl (sb 13 rfl (sb 12 rfl (sb 9 rfl (sb 8 rfl (sb 5 rfl (sb 4 rfl (sb 3 rfl (sb 1 rfl sb0)))))))))))))))
    · skip
      have hb42 := cdT c41 hb42
      refine QF.gy rfl rfl rfl ?_
      refine QF.ld ckC hs4.1 rfl k6 ty_31 (fun e => by cases e) rfl fun v43 k44 => ?_
      refine QF.gy rfl rfl rfl ?_
      obtain ⟨y45, hy45, hb42⟩ := bd hb42
      refine QF.callp (v := .bool y45) (Ψ := True) rfl rfl rfl ca_17 rfl (fun h' o => (basin_rightTowns_ret (St.all h') (k44.mono (o.all hs4.1)) hy45).mono fun _ _ _ _ p => ⟨p.1, trivial⟩) fun r46 => ?_
      refine QF.pick rfl rfl rfl ?_
      cases hb42
      exact QF.cutn (sb 28 rfl (sb 25 rfl (sb 24 rfl (sb 21 rfl (sb 20 rfl (sb 17 rfl (sb 16 rfl (sb 13 rfl (sb 12 rfl (sb 9 rfl (sb 8 rfl (sb 5 rfl (sb 4 rfl (sb 3 rfl (sb 1 rfl sb0)))))))))))))))
  refine QF.mv rfl rfl ?_
  obtain ⟨b48, hb48, E⟩ := bd E
  refine QF.cutv 3 32 (.bool b48) ?_ ?_
  · cases c47 : b42
    · skip
      have hb48 := cdF c47 hb48
      cases hb48
      refine QF.gnF rfl rfl rfl rfl rfl ?_
      refine QF.gnF rfl rfl rfl rfl rfl ?_
      refine QF.pick rfl rfl rfl ?_
      exact QF.cutn (sb 32 rfl (sb 29 rfl (sb 28 rfl (sb 25 rfl (sb 24 rfl (sb 21 rfl (sb 20 rfl (sb 17 rfl (sb 16 rfl (sb 13 rfl (sb 12 rfl (sb 9 rfl (sb 8 rfl (sb 5 rfl (sb 4 rfl (sb 3 rfl (sb 1 rfl sb0)))))))))))))))))
    · skip
      have hb48 := cdT c47 hb48
      refine QF.gy rfl rfl rfl ?_
      refine QF.ld ckC hs4.1 rfl k6 ty_31 (fun e => by cases e) rfl fun v49 k50 => ?_
      refine QF.gy rfl rfl rfl ?_
      obtain ⟨y51, hy51, hb48⟩ := bd hb48
      refine QF.callp (v := .bool y51) (Ψ := True) rfl rfl rfl ca_18 rfl (fun h' o => (basin_rightGauges_ret (St.all h') (k50.mono (o.all hs4.1)) hy51).mono fun _ _ _ _ p => ⟨p.1, trivial⟩) fun r52 => ?_
      refine QF.pick rfl rfl rfl ?_
      cases hb48
      exact QF.cutn (sb 32 rfl (sb 29 rfl (sb 28 rfl (sb 25 rfl (sb 24 rfl (sb 21 rfl (sb 20 rfl (sb 17 rfl (sb 16 rfl (sb 13 rfl (sb 12 rfl (sb 9 rfl (sb 8 rfl (sb 5 rfl (sb 4 rfl (sb 3 rfl (sb 1 rfl sb0)))))))))))))))))
  refine QF.mv rfl rfl ?_
  obtain ⟨b54, hb54, E⟩ := bd E
  refine QF.cutv 3 36 (.bool b54) ?_ ?_
  · cases c53 : b48
    · skip
      have hb54 := cdF c53 hb54
      cases hb54
      refine QF.gnF rfl rfl rfl rfl rfl ?_
      refine QF.gnF rfl rfl rfl rfl rfl ?_
      refine QF.pick rfl rfl rfl ?_
      exact QF.cutn (sb 36 rfl (sb 33 rfl (sb 32 rfl (sb 29 rfl (sb 28 rfl (sb 25 rfl (sb 24 rfl (sb 21 rfl (sb 20 rfl (sb 17 rfl (sb 16 rfl (sb 13 rfl (sb 12 rfl (sb 9 rfl (sb 8 rfl (sb 5 rfl (sb 4 rfl (sb 3 rfl (sb 1 rfl sb0)))))))))))))))))))
    · skip
      have hb54 := cdT c53 hb54
      refine QF.gy rfl rfl rfl ?_
      refine QF.ld ckC hs4.1 rfl k6 ty_31 (fun e => by cases e) rfl fun v55 k56 => ?_
      refine QF.gy rfl rfl rfl ?_
      obtain ⟨y57, hy57, hb54⟩ := bd hb54
      refine QF.callp (v := .bool y57) (Ψ := True) rfl rfl rfl ca_19 rfl (fun h' o => (basin_rightRoads_ret (St.all h') (k56.mono (o.all hs4.1)) hy57).mono fun _ _ _ _ p => ⟨p.1, trivial⟩) fun r58 => ?_
      refine QF.pick rfl rfl rfl ?_
      cases hb54
      exact QF.cutn (sb 36 rfl (sb 33 rfl (sb 32 rfl (sb 29 rfl (sb 28 rfl (sb 25 rfl (sb 24 rfl (sb 21 rfl (sb 20 rfl (sb 17 rfl (sb 16 rfl (sb 13 rfl (sb 12 rfl (sb 9 rfl (sb 8 rfl (sb 5 rfl (sb 4 rfl (sb 3 rfl (sb 1 rfl sb0)))))))))))))))))))
  refine QF.as_ rfl rfl ?_
  refine QF.rcn (sb 2 rfl sb0) fun h59 hs60 e61 => ?_
  refine WF.ret (fun aa ww hf hw => ?_)
  cases E
  exact rtg hf rfl hw (rvc (rvT hf (v := _) rfl) rv0) rfl (e5.trans e61) ⟨rfl, hs60⟩

end Go.Proofs.Ytibidnaedddfdaa
