/- Walks, part 2. By program. -/
import Derived.Test.YtibidnaedddfdaaWalk1
namespace Go.Proofs.Ytibidnaedddfdaa
open Go.RowKit
set_option linter.unusedVariables false
set_option linter.unusedSimpArgs false

set_option maxRecDepth 10000 in
set_option maxHeartbeats 2000000 in
theorem curve_Right_ret {N : Nat} {S : Nat → Prop} {L : List HP} {h : Heap} (hs : St S L h) {v_p0_c : Value} {p0_c : (List GPoint)} (h_p0_c : Sl S h RGPoint v_p0_c p0_c) {r : Bool} (E : f_curve_Right N p0_c = some r) :
    Ret Try.prog 21 #[v_p0_c] S h (fun v S' h' => v = .bool r ∧ St S' (L) h') := by
  refine Ret.go (l := [v_p0_c]) 63 Try.func21 rfl Try.ntmps21 rfl fun B => ?_
  rw [f_curve_Right] at E
  refine WF.seq ?_
  refine WF.rp (.inl rfl) ?_
  refine QF.as_ rfl rfl ?_
  refine QF.rpn (sb 0 rfl sb0) ?_
  refine WF.seq ?_
  refine WF.seq ?_
  refine WF.rp (.inl rfl) ?_
  refine QF.mv rfl rfl ?_
  refine QF.len rfl h_p0_c sl_67 rfl fun b1 => ?_
  unfold maxLen at b1
  refine QF.lss rfl rfl rfl ?_
  refine QF.mv rfl rfl ?_
  refine QF.cutv 4 12 (.bool ((decide ((↑p0_c.length : Int) < 1)) || (decide (32 < (↑p0_c.length : Int))))) ?_ ?_
  · cases c2 : (decide ((↑p0_c.length : Int) < 1))
    · skip
      refine QF.gy rfl rfl rfl ?_
      refine QF.mv rfl rfl ?_
      refine QF.gy rfl rfl rfl ?_
      refine QF.len rfl h_p0_c sl_67 rfl fun b3 => ?_
      unfold maxLen at b3
      refine QF.gy rfl rfl rfl ?_
      refine QF.gtr rfl rfl rfl ?_
      refine QF.pick rfl rfl rfl ?_
      exact QF.cutn (sb 12 rfl (sb 8 rfl (sb 7 rfl (sb 6 rfl (sb 5 rfl (sb 0 rfl sb0))))))
    · skip
      refine QF.gnT rfl rfl rfl rfl rfl ?_
      refine QF.gnT rfl rfl rfl rfl rfl ?_
      refine QF.gnT rfl rfl rfl rfl rfl ?_
      refine QF.pick rfl rfl rfl ?_
      exact QF.cutn (sb 12 rfl (sb 8 rfl (sb 7 rfl (sb 6 rfl (sb 5 rfl (sb 0 rfl sb0))))))
  refine QF.rpn (sb 12 rfl (sb 0 rfl sb0)) ?_
  refine WF.if_ rfl (fun c4 => ?_) (fun c4 => ?_)
  · skip
    have E := cdT c4 E
    refine WF.seq ?_
    refine WF.rp (.inl rfl) ?_
    refine QF.as_ rfl rfl ?_
    refine QF.rpn (sb 2 rfl sb0) ?_
    refine WF.ret (fun aa ww hf hw => ?_)
    cases E
    exact rtg hf rfl hw (rvc (rvT hf (v := _) rfl) rv0) rfl (Ext.refl S h) ⟨rfl, hs⟩
  · skip
    have E := cdF c4 E
    refine WF.skip ?_
    refine WF.seq ?_
    refine WF.seq ?_
    refine WF.rp (.inl rfl) ?_
    refine QF.mv rfl rfl ?_
    refine QF.len rfl h_p0_c sl_67 rfl fun b5 => ?_
    unfold maxLen at b5
    refine QF.mv rfl rfl ?_
    refine QF.rpn (sb 15 rfl (sb 14 rfl (sb 13 rfl (sb 0 rfl sb0)))) ?_
    refine WF.blockJ (fun a w => ∃ (S' : Nat → Prop) (h' : Heap), Fr 63 a [] ∧ Wd B h' w ∧ St S' (L) h' ∧ Ext S h S' h' ∧ f_curve_Right_j0 N = some r) ?_ ?_
    · skip
      refine WF.loopF (fun n1 => fun a w => ∃ (i8 : Int) (S' : Nat → Prop) (h' : Heap), Fr 63 a [(14, .int .i64 (↑p0_c.length : Int)), (13, v_p0_c), (0, v_p0_c), (15, .int .i64 i8)] ∧ Wd B h' w ∧ St S' (L) h' ∧ Ext S h S' h' ∧ inI64 i8 ∧ f_curve_Right_l1 N p0_c (f_curve_Right_j0 N) n1 i8 = some r) N ?_ ?_ ?_
      · intro aa ww hf hw
        exact ⟨0, _, _, hf.sub (sb 14 rfl (sb 13 rfl (sb 0 rfl (sb 15 rfl sb0)))), hw, hs, (Ext.refl S h), (show inI64 0 by unfold inI64; omega), E⟩
      · rintro aa ww ⟨_, _, _, _, _, _, _, _, E⟩
        rw [f_curve_Right_l1] at E; cases E
      · skip
        rintro n1 aa ww ⟨i8, S10, h11, hf, hw, hs12, e13, r9, E⟩
        refine WF.run ?_ hf hw
        clear hf hw ww aa
        rw [f_curve_Right_l1] at E
        refine WF.seq ?_
        refine WF.rp (.inl rfl) ?_
        refine QF.lss rfl rfl rfl ?_
        refine QF.rpn (sb 16 rfl (sb 14 rfl (sb 13 rfl (sb 0 rfl (sb 15 rfl sb0))))) ?_
        refine WF.seq ?_
        refine WF.if_ rfl (fun c14 => ?_) (fun c14 => ?_)
        · skip
          have E := cdT c14 E
          refine WF.skip ?_
          refine WF.seq ?_
          refine WF.block ?_
          refine WF.seq ?_
          refine WF.rl ?_
          refine LF.q 3 ?_
          refine QF.mv rfl rfl ?_
          have k15 := h_p0_c.mono' e13
          obtain ⟨x16, hx16, E⟩ := bd E
          refine QF.ixe rfl rfl k15 sl_67 hx16 rfl fun q17 k18 => ?_
          refine QF.ld ckP hs12.1 rfl k18 ty_98 (fun e => by cases e) rfl fun v19 k20 => ?_
          refine QF.ln ?_
          refine LF.al zc_98 rfl hs12 fun b21 h22 hs23 e24 => ?_
          refine LF.q 1 ?_
          refine QF.as_ rfl rfl ?_
          refine QF.ln ?_
          have k25 := k20.mono e24
          obtain ⟨rfl, ⟨r27, r28⟩⟩ := RGPoint.ex k25
          refine LF.st (vs := [.int .i64 x16.X, .int .i64 x16.Y]) (cs' := [.int .i64 x16.X, .int .i64 x16.Y]) rfl rfl rfl (one_cons rfl (one_cons rfl one_nil)) ty_98 rfl hs23 .head rfl rfl fun h29 hs30 e31 => ?_
          refine LF.nil (sb 3 rfl (sb 4 rfl (sb 14 rfl (sb 13 rfl (sb 0 rfl (sb 15 rfl sb0)))))) ?_
          refine WF.seq ?_
          refine WF.seq ?_
          refine WF.rp (.inl rfl) ?_
          refine QF.fao rfl fa_98_0 rfl ?_
          refine QF.ldo (vs := [.int .i64 x16.X]) ckP hs30 rfl mh rfl rfl ty_3 rfl rfl ?_
          refine QF.lss rfl rfl rfl ?_
          refine QF.mv rfl rfl ?_
          refine QF.cutv 4 27 (.bool ((decide (x16.X < 0)) || (decide (1125899906842624 < x16.X)))) ?_ ?_
          · cases c32 : (decide (x16.X < 0))
            · skip
              refine QF.gy rfl rfl rfl ?_
              refine QF.fao rfl fa_98_0 rfl ?_
              refine QF.gy rfl rfl rfl ?_
              refine QF.ldo (vs := [.int .i64 x16.X]) ckP hs30 rfl mh rfl rfl ty_3 rfl rfl ?_
              refine QF.gy rfl rfl rfl ?_
              refine QF.gtr rfl rfl rfl ?_
              refine QF.pick rfl rfl rfl ?_
              exact QF.cutn (sb 27 rfl (sb 23 rfl (sb 22 rfl (sb 21 rfl (sb 20 rfl (sb 3 rfl (sb 4 rfl (sb 14 rfl (sb 13 rfl (sb 0 rfl (sb 15 rfl sb0)))))))))))
            · skip
              refine QF.gnT rfl rfl rfl rfl rfl ?_
              refine QF.gnT rfl rfl rfl rfl rfl ?_
              refine QF.gnT rfl rfl rfl rfl rfl ?_
              refine QF.pick rfl rfl rfl ?_
              exact QF.cutn (sb 27 rfl (sb 23 rfl (sb 22 rfl (sb 21 rfl (sb 20 rfl (sb 3 rfl (sb 4 rfl (sb 14 rfl (sb 13 rfl (sb 0 rfl (sb 15 rfl sb0)))))))))))
          refine QF.mv rfl rfl ?_
          refine QF.cutv 4 32 (.bool (((decide (x16.X < 0)) || (decide (1125899906842624 < x16.X))) || (decide (x16.Y < 0)))) ?_ ?_
          · cases c33 : ((decide (x16.X < 0)) || (decide (1125899906842624 < x16.X)))
            · skip
              refine QF.gy rfl rfl rfl ?_
              refine QF.fao rfl fa_98_1 rfl ?_
              refine QF.gy rfl rfl rfl ?_
              refine QF.ldo (vs := [.int .i64 x16.Y]) ckP hs30 rfl mh rfl rfl ty_3 rfl rfl ?_
              refine QF.gy rfl rfl rfl ?_
              refine QF.lss rfl rfl rfl ?_
              refine QF.pick rfl rfl rfl ?_
              exact QF.cutn (sb 32 rfl (sb 28 rfl (sb 27 rfl (sb 23 rfl (sb 22 rfl (sb 21 rfl (sb 20 rfl (sb 3 rfl (sb 4 rfl (sb 14 rfl (sb 13 rfl (sb 0 rfl (sb 15 rfl sb0)))))))))))))
            · skip
              refine QF.gnT rfl rfl rfl rfl rfl ?_
              refine QF.gnT rfl rfl rfl rfl rfl ?_
              refine QF.gnT rfl rfl rfl rfl rfl ?_
              refine QF.pick rfl rfl rfl ?_
              exact QF.cutn (sb 32 rfl (sb 28 rfl (sb 27 rfl (sb 23 rfl (sb 22 rfl (sb 21 rfl (sb 20 rfl (sb 3 rfl (sb 4 rfl (sb 14 rfl (sb 13 rfl (sb 0 rfl (sb 15 rfl sb0)))))))))))))
          refine QF.mv rfl rfl ?_
          refine QF.cutv 4 37 (.bool ((((decide (x16.X < 0)) || (decide (1125899906842624 < x16.X))) || (decide (x16.Y < 0))) || (decide (1125899906842624 < x16.Y)))) ?_ ?_
          · cases c34 : (((decide (x16.X < 0)) || (decide (1125899906842624 < x16.X))) || (decide (x16.Y < 0)))
            · skip
              refine QF.gy rfl rfl rfl ?_
              refine QF.fao rfl fa_98_1 rfl ?_
              refine QF.gy rfl rfl rfl ?_
              refine QF.ldo (vs := [.int .i64 x16.Y]) ckP hs30 rfl mh rfl rfl ty_3 rfl rfl ?_
              refine QF.gy rfl rfl rfl ?_
              refine QF.gtr rfl rfl rfl ?_
              refine QF.pick rfl rfl rfl ?_
              exact QF.cutn (sb 37 rfl (sb 33 rfl (sb 32 rfl (sb 28 rfl (sb 27 rfl (sb 23 rfl (sb 22 rfl (sb 21 rfl (sb 20 rfl (sb 3 rfl (sb 4 rfl (sb 14 rfl (sb 13 rfl (sb 0 rfl (sb 15 rfl sb0)))))))))))))))
            · skip
              refine QF.gnT rfl rfl rfl rfl rfl ?_
              refine QF.gnT rfl rfl rfl rfl rfl ?_
              refine QF.gnT rfl rfl rfl rfl rfl ?_
              refine QF.pick rfl rfl rfl ?_
              exact QF.cutn (sb 37 rfl (sb 33 rfl (sb 32 rfl (sb 28 rfl (sb 27 rfl (sb 23 rfl (sb 22 rfl (sb 21 rfl (sb 20 rfl (sb 3 rfl (sb 4 rfl (sb 14 rfl (sb 13 rfl (sb 0 rfl (sb 15 rfl sb0)))))))))))))))
          refine QF.rpn (sb 37 rfl (sb 3 rfl (sb 4 rfl (sb 14 rfl (sb 13 rfl (sb 0 rfl (sb 15 rfl sb0))))))) ?_
          refine WF.if_ rfl (fun c35 => ?_) (fun c35 => ?_)
          · skip
            have E := cdT c35 E
            refine WF.seq ?_
            refine WF.rp (.inl rfl) ?_
            refine QF.as_ rfl rfl ?_
            refine QF.rpn (sb 2 rfl sb0) ?_
            refine WF.ret (fun aa ww hf hw => ?_)
            have hs36 := hs30.drop .head
            cases E
            exact rtg hf rfl hw (rvc (rvT hf (v := _) rfl) rv0) rfl (e13.trans (e24.trans e31)) ⟨rfl, hs36⟩
          · skip
            have E := cdF c35 E
            refine WF.skip ?_
            refine WF.seq ?_
            refine WF.rp (.inr ⟨mo, by kernel_rfl⟩) ?_
            refine QF.mv rfl rfl ?_
            refine QF.gtr rfl rfl rfl ?_
            refine QF.mv rfl rfl ?_
            obtain ⟨b38, hb38, E⟩ := bd E
            refine QF.cutv 21 61 (.bool b38) ?_ ?_
            · cases c37 : (decide (0 < i8))
              · skip
                have hb38 := cdF c37 hb38
                cases hb38
                refine QF.gnF rfl rfl rfl rfl rfl ?_
                refine QF.gnF rfl rfl rfl rfl rfl ?_
                refine QF.gnF rfl rfl rfl rfl rfl ?_
                refine QF.gnF rfl rfl rfl rfl rfl ?_
                refine QF.gnF rfl rfl rfl rfl rfl ?_
                refine QF.gnF rfl rfl rfl rfl rfl ?_
                refine QF.gnF rfl rfl rfl rfl rfl ?_
                refine QF.gnF rfl rfl rfl rfl rfl ?_
                refine QF.gnF rfl rfl rfl rfl rfl ?_
                refine QF.gnF rfl rfl rfl rfl rfl ?_
                refine QF.gnu rfl rfl rfl rfl rfl ?_
                refine QF.gnu rfl rfl rfl rfl rfl ?_
                refine QF.gnu rfl rfl rfl rfl rfl ?_
                refine QF.gnu rfl rfl rfl rfl rfl ?_
                refine QF.gnu rfl rfl rfl rfl rfl ?_
                refine QF.gnu rfl rfl rfl rfl rfl ?_
                refine QF.gnu rfl rfl rfl rfl rfl ?_
                refine QF.gnu rfl rfl rfl rfl rfl ?_
                refine QF.gnu rfl rfl rfl rfl rfl ?_
                refine QF.gnF rfl rfl rfl rfl rfl ?_
                refine QF.pick rfl rfl rfl ?_
                exact QF.cutn (sb 61 rfl (sb 40 rfl (sb 39 rfl (sb 38 rfl (sb 37 rfl (sb 3 rfl (sb 4 rfl (sb 14 rfl (sb 13 rfl (sb 0 rfl (sb 15 rfl sb0)))))))))))
              · skip
                have hb38 := cdT c37 hb38
                refine QF.gy rfl rfl rfl ?_
                refine QF.fao rfl fa_98_0 rfl ?_
                refine QF.gy rfl rfl rfl ?_
                refine QF.ldo (vs := [.int .i64 x16.X]) ckP hs30 rfl mh rfl rfl ty_3 rfl rfl ?_
                refine QF.gy rfl rfl rfl ?_
                refine QF.mv rfl rfl ?_
                refine QF.gy rfl rfl rfl ?_
                refine QF.mv rfl rfl ?_
                refine QF.gy rfl rfl rfl ?_
                refine QF.subw rfl rfl rfl ?_
                refine QF.gy rfl rfl rfl ?_
                have k39 := h_p0_c.mono' (e13.trans (e24.trans e31))
                obtain ⟨x40, hx40, hb38⟩ := bd hb38
                refine QF.ixe rfl rfl k39 sl_67 hx40 rfl fun q41 k42 => ?_
                refine QF.gy rfl rfl rfl ?_
                refine QF.fa rfl k42 GPoint.f_X fa_98_0 rfl fun q43 k44 => ?_
                refine QF.gy rfl rfl rfl ?_
                refine QF.ldi ckP hs30.1 rfl k44 ty_3 rfl fun r45 => ?_
                refine QF.gy rfl rfl rfl ?_
                refine QF.leq rfl rfl rfl ?_
                refine QF.gy rfl rfl rfl ?_
                refine QF.mv rfl rfl ?_
                obtain ⟨b47, hb47, hb38⟩ := bd hb38
                refine QF.cutv 10 60 (.bool b47) ?_ ?_
                · cases c46 : (decide (x16.X ≤ x40.X))
                  · skip
                    have hb47 := cdF c46 hb47
                    refine QF.gy rfl rfl rfl ?_
                    refine QF.fao rfl fa_98_1 rfl ?_
                    refine QF.gy rfl rfl rfl ?_
                    refine QF.ldo (vs := [.int .i64 x16.Y]) ckP hs30 rfl mh rfl rfl ty_3 rfl rfl ?_
                    refine QF.gy rfl rfl rfl ?_
                    refine QF.mv rfl rfl ?_
                    refine QF.gy rfl rfl rfl ?_
                    refine QF.mv rfl rfl ?_
                    refine QF.gy rfl rfl rfl ?_
                    refine QF.subw rfl rfl rfl ?_
                    refine QF.gy rfl rfl rfl ?_
                    have k48 := h_p0_c.mono' (e13.trans (e24.trans e31))
                    obtain ⟨x49, hx49, hb47⟩ := bd hb47
                    refine QF.ixe rfl rfl k48 sl_67 hx49 rfl fun q50 k51 => ?_
                    refine QF.gy rfl rfl rfl ?_
                    refine QF.fa rfl k51 GPoint.f_Y fa_98_1 rfl fun q52 k53 => ?_
                    refine QF.gy rfl rfl rfl ?_
                    refine QF.ldi ckP hs30.1 rfl k53 ty_3 rfl fun r54 => ?_
                    refine QF.gy rfl rfl rfl ?_
                    refine QF.lss rfl rfl rfl ?_
                    refine QF.gy rfl rfl rfl ?_
                    refine QF.pick rfl rfl rfl ?_
                    cases hb47
                    exact QF.cutn (sb 60 rfl (sb 50 rfl (sb 49 rfl (sb 48 rfl (sb 47 rfl (sb 46 rfl (sb 45 rfl (sb 44 rfl (sb 43 rfl (sb 42 rfl (sb 41 rfl (sb 40 rfl (sb 39 rfl (sb 38 rfl (sb 37 rfl (sb 3 rfl (sb 4 rfl (sb 14 rfl (sb 13 rfl (sb 0 rfl (sb 15 rfl sb0)))))))))))))))))))))
                  · skip
                    have hb47 := cdT c46 hb47
                    cases hb47
                    refine QF.gnT rfl rfl rfl rfl rfl ?_
                    refine QF.gnT rfl rfl rfl rfl rfl ?_
                    refine QF.gnT rfl rfl rfl rfl rfl ?_
                    refine QF.gnT rfl rfl rfl rfl rfl ?_
                    refine QF.gnT rfl rfl rfl rfl rfl ?_
                    refine QF.gnT rfl rfl rfl rfl rfl ?_
                    refine QF.gnT rfl rfl rfl rfl rfl ?_
                    refine QF.gnT rfl rfl rfl rfl rfl ?_
                    refine QF.gnT rfl rfl rfl rfl rfl ?_
                    refine QF.gy rfl rfl rfl ?_
                    refine QF.pick rfl rfl rfl ?_
                    exact QF.cutn (sb 60 rfl (sb 50 rfl (sb 49 rfl (sb 48 rfl (sb 47 rfl (sb 46 rfl (sb 45 rfl (sb 44 rfl (sb 43 rfl (sb 42 rfl (sb 41 rfl (sb 40 rfl (sb 39 rfl (sb 38 rfl (sb 37 rfl (sb 3 rfl (sb 4 rfl (sb 14 rfl (sb 13 rfl (sb 0 rfl (sb 15 rfl sb0)))))))))))))))))))))
                refine QF.pick rfl rfl rfl ?_
                cases hb38
                exact QF.cutn (sb 61 rfl (sb 40 rfl (sb 39 rfl (sb 38 rfl (sb 37 rfl (sb 3 rfl (sb 4 rfl (sb 14 rfl (sb 13 rfl (sb 0 rfl (sb 15 rfl sb0)))))))))))
            refine QF.rpn (sb 61 rfl (sb 14 rfl (sb 13 rfl (sb 0 rfl (sb 15 rfl sb0))))) ?_
            refine WF.if_ rfl (fun c55 => ?_) (fun c55 => ?_)
            · skip
              have E := cdT c55 E
              refine WF.seq ?_
              refine WF.rp (.inl rfl) ?_
              refine QF.as_ rfl rfl ?_
              refine QF.rpn (sb 2 rfl sb0) ?_
              refine WF.ret (fun aa ww hf hw => ?_)
              have hs56 := hs30.drop .head
              cases E
              exact rtg hf rfl hw (rvc (rvT hf (v := _) rfl) rv0) rfl (e13.trans (e24.trans e31)) ⟨rfl, hs56⟩
            · skip
              have E := cdF c55 E
              refine WF.skip ?_
              refine WF.nilW ?_
              refine WF.rp (.inl rfl) ?_
              refine QF.addw rfl rfl rfl ?_
              refine QF.mv rfl rfl ?_
              refine QF.rpn (sb 15 rfl (sb 14 rfl (sb 13 rfl (sb 0 rfl sb0)))) ?_
              refine WF.nil (fun aa ww hf hw => ?_)
              have hs57 := hs30.drop .head
              exact ⟨(w64 (i8 + 1)), _, _, hf.sub (sb 14 rfl (sb 13 rfl (sb 0 rfl (sb 15 rfl sb0)))), hw, hs57, (e13.trans (e24.trans e31)), (w64_i _), E⟩
        · skip
          have E := cdF c14 E
          refine WF.exit rfl (fun aa ww hf hw => ?_)
          exact ⟨_, _, hf.sub sb0, hw, hs12, e13, E⟩
    · skip
      rintro aa ww ⟨S58, h59, hf, hw, hs60, e61, E⟩
      refine WF.run ?_ hf hw
      clear hf hw ww aa
      rw [f_curve_Right_j0] at E
      refine WF.seq ?_
      refine WF.rp (.inl rfl) ?_
      refine QF.as_ rfl rfl ?_
      refine QF.rpn (sb 2 rfl sb0) ?_
      refine WF.ret (fun aa ww hf hw => ?_)
      cases E
      exact rtg hf rfl hw (rvc (rvT hf (v := _) rfl) rv0) rfl e61 ⟨rfl, hs60⟩

set_option maxRecDepth 10000 in
set_option maxHeartbeats 2000000 in
theorem basin_fraction_ret {N : Nat} {S : Nat → Prop} {L : List HP} {h : Heap} (hs : St S L h) {p0_num : Int} (h_p0_num : inI64 p0_num) {p1_den : Int} (h_p1_den : inI64 p1_den) {r : Bool} (E : f_basin_fraction N p0_num p1_den = some r) :
    Ret Try.prog 30 #[.int .i64 p0_num, .int .i64 p1_den] S h (fun v S' h' => v = .bool r ∧ St S' (L) h') := by
  refine Ret.go (l := [.int .i64 p0_num, .int .i64 p1_den]) 19 Try.func30 rfl Try.ntmps30 rfl fun B => ?_
  rw [f_basin_fraction] at E
  refine WF.seq ?_
  refine WF.rp (.inl rfl) ?_
  refine QF.as_ rfl rfl ?_
  refine QF.rpn (sb 0 rfl (sb 1 rfl sb0)) ?_
  refine WF.seq ?_
  refine WF.rc (.inl rfl) hs ?_
  refine QF.mv rfl rfl ?_
  obtain ⟨y1, hy1, E⟩ := bd E
  refine QF.callp (v := .bool y1) (Ψ := True) rfl rfl rfl ca_27 rfl (fun h' o => (basin_volume_ret (St.all h') h_p0_num hy1).mono fun _ _ _ _ p => ⟨p.1, trivial⟩) fun r2 => ?_
  refine QF.mv rfl rfl ?_
  obtain ⟨b4, hb4, E⟩ := bd E
  refine QF.cutv 3 10 (.bool b4) ?_ ?_
  · cases c3 : y1
    · skip
      have hb4 := cdF c3 hb4
      cases hb4
      refine QF.gnF rfl rfl rfl rfl rfl ?_
      refine QF.gnF rfl rfl rfl rfl rfl ?_
      refine QF.pick rfl rfl rfl ?_
      exact QF.cutn (sb 10 rfl (sb 7 rfl (sb 6 rfl (sb 5 rfl (sb 0 rfl (sb 1 rfl sb0))))))
    · skip
      have hb4 := cdT c3 hb4
      refine QF.gy rfl rfl rfl ?_
      refine QF.mv rfl rfl ?_
      refine QF.gy rfl rfl rfl ?_
      obtain ⟨y5, hy5, hb4⟩ := bd hb4
      refine QF.callp (v := .bool y5) (Ψ := True) rfl rfl rfl ca_27 rfl (fun h' o => (basin_volume_ret (St.all h') h_p1_den hy5).mono fun _ _ _ _ p => ⟨p.1, trivial⟩) fun r6 => ?_
      refine QF.pick rfl rfl rfl ?_
      cases hb4
      exact QF.cutn (sb 10 rfl (sb 7 rfl (sb 6 rfl (sb 5 rfl (sb 0 rfl (sb 1 rfl sb0))))))
  refine QF.mv rfl rfl ?_
  refine QF.cutv 7 18 (.bool (b4 && ((decide (p1_den ≠ 0)) || (decide (p0_num = 0))))) ?_ ?_
  · cases c7 : b4
    · skip
      refine QF.gnF rfl rfl rfl rfl rfl ?_
      refine QF.gnF rfl rfl rfl rfl rfl ?_
      refine QF.gnF rfl rfl rfl rfl rfl ?_
      refine QF.gnu rfl rfl rfl rfl rfl ?_
      refine QF.gnu rfl rfl rfl rfl rfl ?_
      refine QF.gnF rfl rfl rfl rfl rfl ?_
      refine QF.pick rfl rfl rfl ?_
      exact QF.cutn (sb 18 rfl (sb 11 rfl (sb 10 rfl (sb 7 rfl (sb 6 rfl (sb 5 rfl (sb 0 rfl (sb 1 rfl sb0))))))))
    · skip
      refine QF.gy rfl rfl rfl ?_
      refine QF.mv rfl rfl ?_
      refine QF.gy rfl rfl rfl ?_
      refine QF.neq rfl rfl rfl ?_
      refine QF.gy rfl rfl rfl ?_
      refine QF.mv rfl rfl ?_
      refine QF.cutv 3 17 (.bool ((decide (p1_den ≠ 0)) || (decide (p0_num = 0)))) ?_ ?_
      · cases c8 : (decide (p1_den ≠ 0))
        · skip
          refine QF.gy rfl rfl rfl ?_
          refine QF.mv rfl rfl ?_
          refine QF.gy rfl rfl rfl ?_
          refine QF.eql rfl rfl rfl ?_
          refine QF.gy rfl rfl rfl ?_
          refine QF.pick rfl rfl rfl ?_
          exact QF.cutn (sb 17 rfl (sb 14 rfl (sb 13 rfl (sb 12 rfl (sb 11 rfl (sb 10 rfl (sb 7 rfl (sb 6 rfl (sb 5 rfl (sb 0 rfl (sb 1 rfl sb0)))))))))))
        · skip
          refine QF.gnT rfl rfl rfl rfl rfl ?_
          refine QF.gnT rfl rfl rfl rfl rfl ?_
          refine QF.gy rfl rfl rfl ?_
          refine QF.pick rfl rfl rfl ?_
          exact QF.cutn (sb 17 rfl (sb 14 rfl (sb 13 rfl (sb 12 rfl (sb 11 rfl (sb 10 rfl (sb 7 rfl (sb 6 rfl (sb 5 rfl (sb 0 rfl (sb 1 rfl sb0)))))))))))
      refine QF.pick rfl rfl rfl ?_
      exact QF.cutn (sb 18 rfl (sb 11 rfl (sb 10 rfl (sb 7 rfl (sb 6 rfl (sb 5 rfl (sb 0 rfl (sb 1 rfl sb0))))))))
  refine QF.as_ rfl rfl ?_
  refine QF.rcn (sb 4 rfl sb0) fun h9 hs10 e11 => ?_
  refine WF.ret (fun aa ww hf hw => ?_)
  cases E
  exact rtg hf rfl hw (rvc (rvT hf (v := _) rfl) rv0) rfl e11 ⟨rfl, hs10⟩

set_option maxRecDepth 10000 in
set_option maxHeartbeats 2000000 in
theorem basin_index_ret {N : Nat} {S : Nat → Prop} {L : List HP} {h : Heap} (hs : St S L h) {p0_n : Int} (h_p0_n : inI64 p0_n) {p1_length : Int} (h_p1_length : inI64 p1_length) {r : Bool} (E : f_basin_index N p0_n p1_length = some r) :
    Ret Try.prog 32 #[.int .i64 p0_n, .int .i64 p1_length] S h (fun v S' h' => v = .bool r ∧ St S' (L) h') := by
  refine Ret.go (l := [.int .i64 p0_n, .int .i64 p1_length]) 9 Try.func32 rfl Try.ntmps32 rfl fun B => ?_
  rw [f_basin_index] at E
  refine WF.seq ?_
  refine WF.rp (.inl rfl) ?_
  refine QF.as_ rfl rfl ?_
  refine QF.rpn (sb 0 rfl (sb 1 rfl sb0)) ?_
  refine WF.seq ?_
  refine WF.rc (.inl rfl) hs ?_
  refine QF.mv rfl rfl ?_
  refine QF.mv rfl rfl ?_
  refine QF.subw rfl rfl rfl ?_
  obtain ⟨y1, hy1, E⟩ := bd E
  refine QF.callp (v := .bool y1) (Ψ := True) rfl rfl rfl ca_26 rfl (fun h' o => (basin_in_ret (St.all h') h_p0_n (show inI64 0 by unfold inI64; omega) (w64_i _) hy1).mono fun _ _ _ _ p => ⟨p.1, trivial⟩) fun r2 => ?_
  refine QF.as_ rfl rfl ?_
  refine QF.rcn (sb 4 rfl sb0) fun h3 hs4 e5 => ?_
  refine WF.ret (fun aa ww hf hw => ?_)
  cases E
  exact rtg hf rfl hw (rvc (rvT hf (v := _) rfl) rv0) rfl e5 ⟨rfl, hs4⟩

set_option maxRecDepth 10000 in
set_option maxHeartbeats 2000000 in
theorem basin_target_ret {N : Nat} {S : Nat → Prop} {L : List HP} {h : Heap} (hs : St S L h) {v_p0_b : Value} {p0_b : GBasin} (h_p0_b : Rd S h RGBasin v_p0_b p0_b) {p1_from : Int} (h_p1_from : inI64 p1_from) {p2_to : Int} (h_p2_to : inI64 p2_to) {r : Bool} (E : f_basin_target N p0_b p1_from p2_to = some r) :
    Ret Try.prog 31 #[v_p0_b, .int .i64 p1_from, .int .i64 p2_to] S h (fun v S' h' => v = .bool r ∧ St S' (L) h') := by
  refine Ret.go (l := [v_p0_b, .int .i64 p1_from, .int .i64 p2_to]) 21 Try.func31 rfl Try.ntmps31 rfl fun B => ?_
  rw [f_basin_target] at E
  refine WF.seq ?_
  refine WF.rl ?_
  refine LF.boxp rfl h_p0_b (fun e => by cases e) rfl hs fun q1 S2 h3 hs4 e5 k6 => ?_
  refine LF.q 1 ?_
  refine QF.as_ rfl rfl ?_
  refine QF.ln ?_
  refine LF.nil (sb 3 rfl (sb 1 rfl (sb 2 rfl sb0))) ?_
  refine WF.seq ?_
  refine WF.rc (.inl rfl) hs4 ?_
  refine QF.mv rfl rfl ?_
  refine QF.eql rfl rfl rfl ?_
  refine QF.mv rfl rfl ?_
  obtain ⟨b8, hb8, E⟩ := bd E
  refine QF.cutv 11 20 (.bool b8) ?_ ?_
  · cases c7 : (decide (p2_to = (-1)))
    · skip
      have hb8 := cdF c7 hb8
      refine QF.gy rfl rfl rfl ?_
      refine QF.mv rfl rfl ?_
      refine QF.gy rfl rfl rfl ?_
      refine QF.fa rfl k6 GBasin.f_Places fa_31_3 rfl fun q9 k10 => ?_
      refine QF.gy rfl rfl rfl ?_
      refine QF.ldl ckC hs4.1 rfl k10 ty_23 rfl fun v11 k12 => ?_
      refine QF.gy rfl rfl rfl ?_
      refine QF.len rfl k12 sl_23 rfl fun b13 => ?_
      unfold maxLen at b13
      refine QF.gy rfl rfl rfl ?_
      obtain ⟨y14, hy14, hb8⟩ := bd hb8
      refine QF.callp (v := .bool y14) (Ψ := True) rfl rfl rfl ca_32 rfl (fun h' o => (basin_index_ret (St.all h') h_p2_to (by unfold inI64; omega) hy14).mono fun _ _ _ _ p => ⟨p.1, trivial⟩) fun r15 => ?_
      refine QF.gy rfl rfl rfl ?_
      refine QF.mv rfl rfl ?_
      refine QF.cutv 4 19 (.bool (y14 && (decide (p2_to ≠ p1_from)))) ?_ ?_
      · cases c16 : y14
        · skip
          refine QF.gnF rfl rfl rfl rfl rfl ?_
          refine QF.gnF rfl rfl rfl rfl rfl ?_
          refine QF.gnF rfl rfl rfl rfl rfl ?_
          refine QF.gy rfl rfl rfl ?_
          refine QF.pick rfl rfl rfl ?_
          exact QF.cutn (sb 19 rfl (sb 15 rfl (sb 14 rfl (sb 13 rfl (sb 12 rfl (sb 11 rfl (sb 10 rfl (sb 9 rfl (sb 8 rfl (sb 7 rfl (sb 3 rfl (sb 1 rfl (sb 2 rfl sb0)))))))))))))
        · skip
          refine QF.gy rfl rfl rfl ?_
          refine QF.mv rfl rfl ?_
          refine QF.gy rfl rfl rfl ?_
          refine QF.mv rfl rfl ?_
          refine QF.gy rfl rfl rfl ?_
          refine QF.neq rfl rfl rfl ?_
          refine QF.gy rfl rfl rfl ?_
          refine QF.pick rfl rfl rfl ?_
          exact QF.cutn (sb 19 rfl (sb 15 rfl (sb 14 rfl (sb 13 rfl (sb 12 rfl (sb 11 rfl (sb 10 rfl (sb 9 rfl (sb 8 rfl (sb 7 rfl (sb 3 rfl (sb 1 rfl (sb 2 rfl sb0)))))))))))))
      refine QF.pick rfl rfl rfl ?_
      cases hb8
      exact QF.cutn (sb 20 rfl (sb 9 rfl (sb 8 rfl (sb 7 rfl (sb 3 rfl (sb 1 rfl (sb 2 rfl sb0)))))))
    · skip
      have hb8 := cdT c7 hb8
      cases hb8
      refine QF.gnT rfl rfl rfl rfl rfl ?_
      refine QF.gnT rfl rfl rfl rfl rfl ?_
      refine QF.gnT rfl rfl rfl rfl rfl ?_
      refine QF.gnT rfl rfl rfl rfl rfl ?_
      refine QF.gnT rfl rfl rfl rfl rfl ?_
      refine QF.gnT rfl rfl rfl rfl rfl ?_
      refine QF.gnu rfl rfl rfl rfl rfl ?_
      refine QF.gnu rfl rfl rfl rfl rfl ?_
      refine QF.gnu rfl rfl rfl rfl rfl ?_
      refine QF.gnT rfl rfl rfl rfl rfl ?_
      refine QF.pick rfl rfl rfl ?_
      exact QF.cutn (sb 20 rfl (sb 9 rfl (sb 8 rfl (sb 7 rfl (sb 3 rfl (sb 1 rfl (sb 2 rfl sb0)))))))
  refine QF.as_ rfl rfl ?_
  refine QF.rcn (sb 6 rfl sb0) fun h17 hs18 e19 => ?_
  refine WF.ret (fun aa ww hf hw => ?_)
  cases E
  exact rtg hf rfl hw (rvc (rvT hf (v := _) rfl) rv0) rfl (e5.trans e19) ⟨rfl, hs18⟩

set_option maxRecDepth 10000 in
set_option maxHeartbeats 2000000 in
theorem basin_rightPlaces_ret {N : Nat} {S : Nat → Prop} {L : List HP} {h : Heap} (hs : St S L h) {v_p0_b : Value} {p0_b : GBasin} (h_p0_b : Rd S h RGBasin v_p0_b p0_b) {r : Bool} (E : f_basin_rightPlaces N p0_b = some r) :
    Ret Try.prog 13 #[v_p0_b] S h (fun v S' h' => v = .bool r ∧ St S' (L) h') := by
  refine Ret.go (l := [v_p0_b]) 122 Try.func13 rfl Try.ntmps13 rfl fun B => ?_
  rw [f_basin_rightPlaces] at E
  refine WF.seq ?_
  refine WF.rl ?_
  refine LF.boxp rfl h_p0_b (fun e => by cases e) rfl hs fun q1 S2 h3 hs4 e5 k6 => ?_
  refine LF.q 1 ?_
  refine QF.as_ rfl rfl ?_
  refine QF.ln ?_
  refine LF.nil (sb 1 rfl sb0) ?_
  refine WF.seq ?_
  refine WF.rp (.inl rfl) ?_
  refine QF.as_ rfl rfl ?_
  refine QF.rpn (sb 3 rfl (sb 1 rfl sb0)) ?_
  refine WF.seq ?_
  refine WF.seq ?_
  refine WF.rp (.inl rfl) ?_
  refine QF.fa rfl k6 GBasin.f_Places fa_31_3 rfl fun q7 k8 => ?_
  refine QF.ldl ckP hs4.1 rfl k8 ty_23 rfl fun v9 k10 => ?_
  refine QF.len rfl k10 sl_23 rfl fun b11 => ?_
  unfold maxLen at b11
  refine QF.mv rfl rfl ?_
  refine QF.rpn (sb 14 rfl (sb 13 rfl (sb 12 rfl (sb 3 rfl (sb 1 rfl sb0))))) ?_
  refine WF.blockJ (fun a w => ∃ (i12 : Int) (S' : Nat → Prop) (h' : Heap), Fr 122 a [(3, .int .i64 i12)] ∧ Wd B h' w ∧ St S' (L) h' ∧ Ext S2 h3 S' h' ∧ inI64 i12 ∧ f_basin_rightPlaces_j0 N i12 = some r) ?_ ?_
  · skip
    refine WF.loopF (fun n1 => fun a w => ∃ (i18 : Int) (i20 : Int) (S' : Nat → Prop) (h' : Heap), Fr 122 a [(13, .int .i64 (↑p0_b.Places.length : Int)), (12, v9), (1, q1), (3, .int .i64 i18), (14, .int .i64 i20)] ∧ Wd B h' w ∧ St S' (L) h' ∧ Ext S2 h3 S' h' ∧ inI64 i18 ∧ inI64 i20 ∧ f_basin_rightPlaces_l1 N p0_b (f_basin_rightPlaces_j0 N) n1 i18 i20 = some r) N ?_ ?_ ?_
    · intro aa ww hf hw
      exact ⟨0, 0, _, _, hf.sub (sb 13 rfl (sb 12 rfl (sb 1 rfl (sb 3 rfl (sb 14 rfl sb0))))), hw, hs4, (Ext.refl S2 h3), (show inI64 0 by unfold inI64; omega), (show inI64 0 by unfold inI64; omega), E⟩
    · rintro aa ww ⟨_, _, _, _, _, _, _, _, _, _, E⟩
      rw [f_basin_rightPlaces_l1] at E; cases E
    · skip
      rintro n1 aa ww ⟨i18, i20, S22, h23, hf, hw, hs24, e25, r19, r21, E⟩
      refine WF.run ?_ hf hw
      clear hf hw ww aa
      rw [f_basin_rightPlaces_l1] at E
      refine WF.seq ?_
      refine WF.rp (.inl rfl) ?_
      refine QF.lss rfl rfl rfl ?_
      refine QF.rpn (sb 15 rfl (sb 13 rfl (sb 12 rfl (sb 1 rfl (sb 3 rfl (sb 14 rfl sb0)))))) ?_
      refine WF.seq ?_
      refine WF.if_ rfl (fun c26 => ?_) (fun c26 => ?_)
      · skip
        have E := cdT c26 E
        refine WF.skip ?_
        refine WF.seq ?_
        refine WF.blockJ (fun a w => ∃ (i27 : Int) (S' : Nat → Prop) (h' : Heap), Fr 122 a [(13, .int .i64 (↑p0_b.Places.length : Int)), (12, v9), (1, q1), (14, .int .i64 i20), (3, .int .i64 i27)] ∧ Wd B h' w ∧ St S' (L) h' ∧ Ext S22 h23 S' h' ∧ inI64 i27 ∧ f_basin_rightPlaces_j2 N i20 (f_basin_rightPlaces_l1 N p0_b (f_basin_rightPlaces_j0 N) n1) i27 = some r) ?_ ?_
        · skip
          refine WF.seq ?_
          refine WF.rl ?_
          refine LF.q 3 ?_
          refine QF.mv rfl rfl ?_
          have k29 := k10.mono' e25
          obtain ⟨x30, hx30, E⟩ := bd E
          refine QF.ixe rfl rfl k29 sl_23 hx30 rfl fun q31 k32 => ?_
          refine QF.ld ckP hs24.1 rfl k32 ty_70 (fun e => by cases e) rfl fun v33 k34 => ?_
          refine QF.ln ?_
          refine LF.al zc_70 rfl hs24 fun b35 h36 hs37 e38 => ?_
          refine LF.q 1 ?_
          refine QF.as_ rfl rfl ?_
          refine QF.ln ?_
          have k39 := k34.mono e38
          obtain ⟨v45, v47, v54, rfl, r41, r42, r43, r44, k46, k48, r49, r50, r51, r52, r53, k55⟩ := RGPlace.ex k39
          refine LF.st (vs := [.string x30.Name, .int .i64 x30.Kind, .int .i64 x30.Office, .int .i64 x30.Cap, v45, v47, .int .i64 x30.Num, .int .i64 x30.Den, .int .i64 x30.Down, .int .i64 x30.Delay, .int .i64 x30.Floor, v54]) (cs' := [.string x30.Name, .int .i64 x30.Kind, .int .i64 x30.Office, .int .i64 x30.Cap, v45, v47, .int .i64 x30.Num, .int .i64 x30.Den, .int .i64 x30.Down, .int .i64 x30.Delay, .int .i64 x30.Floor, v54]) rfl rfl rfl (one_cons rfl (one_cons rfl (one_cons rfl (one_cons rfl (one_cons k46.one (one_cons k48.one (one_cons rfl (one_cons rfl (one_cons rfl (one_cons rfl (one_cons rfl (one_cons k55.one one_nil)))))))))))) ty_70 rfl hs37 .head rfl rfl fun h56 hs57 e58 => ?_
          refine LF.nil (sb 4 rfl (sb 5 rfl (sb 13 rfl (sb 12 rfl (sb 1 rfl (sb 3 rfl (sb 14 rfl sb0))))))) ?_
          refine WF.seq ?_
          refine WF.seq ?_
          refine WF.rc (.inl rfl) hs57 ?_
          refine QF.fao rfl fa_70_1 rfl ?_
          refine QF.ldo (vs := [.int .i64 x30.Kind]) ckC hs57 rfl mh rfl rfl ty_3 rfl rfl ?_
          obtain ⟨y59, hy59, E⟩ := bd E
          refine QF.callp (v := .bool y59) (Ψ := True) rfl rfl rfl ca_26 rfl (fun h' o => (basin_in_ret (St.all h') r42 (show inI64 0 by unfold inI64; omega) (show inI64 3 by unfold inI64; omega) hy59).mono fun _ _ _ _ p => ⟨p.1, trivial⟩) fun r60 => ?_
          refine QF.not rfl rfl ?_
          refine QF.mv rfl rfl ?_
          obtain ⟨b62, hb62, E⟩ := bd E
          refine QF.cutv 5 28 (.bool b62) ?_ ?_
          · cases c61 : (!y59)
            · skip
              have hb62 := cdF c61 hb62
              refine QF.gy rfl rfl rfl ?_
              refine QF.fao rfl fa_70_2 rfl ?_
              refine QF.gy rfl rfl rfl ?_
              refine QF.ldo (vs := [.int .i64 x30.Office]) ckC hs57 rfl mh rfl rfl ty_3 rfl rfl ?_
              refine QF.gy rfl rfl rfl ?_
              obtain ⟨y63, hy63, hb62⟩ := bd hb62
              refine QF.callp (v := .bool y63) (Ψ := True) rfl rfl rfl ca_26 rfl (fun h' o => (basin_in_ret (St.all h') r43 (show inI64 0 by unfold inI64; omega) (show inI64 2 by unfold inI64; omega) hy63).mono fun _ _ _ _ p => ⟨p.1, trivial⟩) fun r64 => ?_
              refine QF.gy rfl rfl rfl ?_
              refine QF.not rfl rfl ?_
              refine QF.pick rfl rfl rfl ?_
              cases hb62
              exact QF.cutn (sb 28 rfl (sb 23 rfl (sb 22 rfl (sb 21 rfl (sb 20 rfl (sb 19 rfl (sb 4 rfl (sb 5 rfl (sb 13 rfl (sb 12 rfl (sb 1 rfl (sb 3 rfl (sb 14 rfl sb0)))))))))))))
            · skip
              have hb62 := cdT c61 hb62
              cases hb62
              refine QF.gnT rfl rfl rfl rfl rfl ?_
              refine QF.gnT rfl rfl rfl rfl rfl ?_
              refine QF.gnT rfl rfl rfl rfl rfl ?_
              refine QF.gnT rfl rfl rfl rfl rfl ?_
              refine QF.pick rfl rfl rfl ?_
              exact QF.cutn (sb 28 rfl (sb 23 rfl (sb 22 rfl (sb 21 rfl (sb 20 rfl (sb 19 rfl (sb 4 rfl (sb 5 rfl (sb 13 rfl (sb 12 rfl (sb 1 rfl (sb 3 rfl (sb 14 rfl sb0)))))))))))))
          refine QF.mv rfl rfl ?_
          obtain ⟨b66, hb66, E⟩ := bd E
          refine QF.cutv 5 34 (.bool b66) ?_ ?_
          · cases c65 : b62
            · skip
              have hb66 := cdF c65 hb66
              refine QF.gy rfl rfl rfl ?_
              refine QF.fao rfl fa_70_9 rfl ?_
              refine QF.gy rfl rfl rfl ?_
              refine QF.ldo (vs := [.int .i64 x30.Delay]) ckC hs57 rfl mh rfl rfl ty_3 rfl rfl ?_
              refine QF.gy rfl rfl rfl ?_
              obtain ⟨y67, hy67, hb66⟩ := bd hb66
              refine QF.callp (v := .bool y67) (Ψ := True) rfl rfl rfl ca_26 rfl (fun h' o => (basin_in_ret (St.all h') r52 (show inI64 0 by unfold inI64; omega) (show inI64 240 by unfold inI64; omega) hy67).mono fun _ _ _ _ p => ⟨p.1, trivial⟩) fun r68 => ?_
              refine QF.gy rfl rfl rfl ?_
              refine QF.not rfl rfl ?_
              refine QF.pick rfl rfl rfl ?_
              cases hb66
              exact QF.cutn (sb 34 rfl (sb 29 rfl (sb 28 rfl (sb 23 rfl (sb 22 rfl (sb 21 rfl (sb 20 rfl (sb 19 rfl (sb 4 rfl (sb 5 rfl (sb 13 rfl (sb 12 rfl (sb 1 rfl (sb 3 rfl (sb 14 rfl sb0)))))))))))))))
            · skip
              have hb66 := cdT c65 hb66
              cases hb66
              refine QF.gnT rfl rfl rfl rfl rfl ?_
              refine QF.gnT rfl rfl rfl rfl rfl ?_
              refine QF.gnT rfl rfl rfl rfl rfl ?_
              refine QF.gnT rfl rfl rfl rfl rfl ?_
              refine QF.pick rfl rfl rfl ?_
              exact QF.cutn (sb 34 rfl (sb 29 rfl (sb 28 rfl (sb 23 rfl (sb 22 rfl (sb 21 rfl (sb 20 rfl (sb 19 rfl (sb 4 rfl (sb 5 rfl (sb 13 rfl (sb 12 rfl (sb 1 rfl (sb 3 rfl (sb 14 rfl sb0)))))))))))))))
          refine QF.mv rfl rfl ?_
          obtain ⟨b70, hb70, E⟩ := bd E
          refine QF.cutv 5 40 (.bool b70) ?_ ?_
          · cases c69 : b66
            · skip
              have hb70 := cdF c69 hb70
              refine QF.gy rfl rfl rfl ?_
              refine QF.fao rfl fa_70_3 rfl ?_
              refine QF.gy rfl rfl rfl ?_
              refine QF.ldo (vs := [.int .i64 x30.Cap]) ckC hs57 rfl mh rfl rfl ty_3 rfl rfl ?_
              refine QF.gy rfl rfl rfl ?_
              obtain ⟨y71, hy71, hb70⟩ := bd hb70
              refine QF.callp (v := .bool y71) (Ψ := True) rfl rfl rfl ca_27 rfl (fun h' o => (basin_volume_ret (St.all h') r44 hy71).mono fun _ _ _ _ p => ⟨p.1, trivial⟩) fun r72 => ?_
              refine QF.gy rfl rfl rfl ?_
              refine QF.not rfl rfl ?_
              refine QF.pick rfl rfl rfl ?_
              cases hb70
              exact QF.cutn (sb 40 rfl (sb 35 rfl (sb 34 rfl (sb 29 rfl (sb 28 rfl (sb 23 rfl (sb 22 rfl (sb 21 rfl (sb 20 rfl (sb 19 rfl (sb 4 rfl (sb 5 rfl (sb 13 rfl (sb 12 rfl (sb 1 rfl (sb 3 rfl (sb 14 rfl sb0)))))))))))))))))
            · skip
              have hb70 := cdT c69 hb70
              cases hb70
              refine QF.gnT rfl rfl rfl rfl rfl ?_
              refine QF.gnT rfl rfl rfl rfl rfl ?_
              refine QF.gnT rfl rfl rfl rfl rfl ?_
              refine QF.gnT rfl rfl rfl rfl rfl ?_
              refine QF.pick rfl rfl rfl ?_
              exact QF.cutn (sb 40 rfl (sb 35 rfl (sb 34 rfl (sb 29 rfl (sb 28 rfl (sb 23 rfl (sb 22 rfl (sb 21 rfl (sb 20 rfl (sb 19 rfl (sb 4 rfl (sb 5 rfl (sb 13 rfl (sb 12 rfl (sb 1 rfl (sb 3 rfl (sb 14 rfl sb0)))))))))))))))))
          refine QF.mv rfl rfl ?_
          obtain ⟨b74, hb74, E⟩ := bd E
          refine QF.cutv 5 46 (.bool b74) ?_ ?_
          · cases c73 : b70
            · skip
              have hb74 := cdF c73 hb74
              refine QF.gy rfl rfl rfl ?_
              refine QF.fao rfl fa_70_10 rfl ?_
              refine QF.gy rfl rfl rfl ?_
              refine QF.ldo (vs := [.int .i64 x30.Floor]) ckC hs57 rfl mh rfl rfl ty_3 rfl rfl ?_
              refine QF.gy rfl rfl rfl ?_
              obtain ⟨y75, hy75, hb74⟩ := bd hb74
              refine QF.callp (v := .bool y75) (Ψ := True) rfl rfl rfl ca_27 rfl (fun h' o => (basin_volume_ret (St.all h') r53 hy75).mono fun _ _ _ _ p => ⟨p.1, trivial⟩) fun r76 => ?_
              refine QF.gy rfl rfl rfl ?_
              refine QF.not rfl rfl ?_
              refine QF.pick rfl rfl rfl ?_
              cases hb74
              exact QF.cutn (sb 46 rfl (sb 41 rfl (sb 40 rfl (sb 35 rfl (sb 34 rfl (sb 29 rfl (sb 28 rfl (sb 23 rfl (sb 22 rfl (sb 21 rfl (sb 20 rfl (sb 19 rfl (sb 4 rfl (sb 5 rfl (sb 13 rfl (sb 12 rfl (sb 1 rfl (sb 3 rfl (sb 14 rfl sb0)))))))))))))))))))
            · skip
              have hb74 := cdT c73 hb74
              cases hb74
              refine QF.gnT rfl rfl rfl rfl rfl ?_
              refine QF.gnT rfl rfl rfl rfl rfl ?_
              refine QF.gnT rfl rfl rfl rfl rfl ?_
              refine QF.gnT rfl rfl rfl rfl rfl ?_
              refine QF.pick rfl rfl rfl ?_
              exact QF.cutn (sb 46 rfl (sb 41 rfl (sb 40 rfl (sb 35 rfl (sb 34 rfl (sb 29 rfl (sb 28 rfl (sb 23 rfl (sb 22 rfl (sb 21 rfl (sb 20 rfl (sb 19 rfl (sb 4 rfl (sb 5 rfl (sb 13 rfl (sb 12 rfl (sb 1 rfl (sb 3 rfl (sb 14 rfl sb0)))))))))))))))))))
          refine QF.mv rfl rfl ?_
          obtain ⟨b78, hb78, E⟩ := bd E
          refine QF.cutv 5 52 (.bool b78) ?_ ?_
          · cases c77 : b74
            · skip
              have hb78 := cdF c77 hb78
              refine QF.gy rfl rfl rfl ?_
              refine QF.fao rfl fa_70_4 rfl ?_
              refine QF.gy rfl rfl rfl ?_
              refine QF.ldo (vs := [v45]) ckC hs57 rfl mh rfl rfl ty_67 rfl rfl ?_
              refine QF.gy rfl rfl rfl ?_
              have k79 := k46.mono' e58
              obtain ⟨y80, hy80, hb78⟩ := bd hb78
              refine QF.callp (v := .bool y80) (Ψ := True) rfl rfl rfl ca_21 rfl (fun h' o => (curve_Right_ret (St.all h') (k79.mono' (o.all hs57.1)) hy80).mono fun _ _ _ _ p => ⟨p.1, trivial⟩) fun r81 => ?_
              refine QF.gy rfl rfl rfl ?_
              refine QF.not rfl rfl ?_
              refine QF.pick rfl rfl rfl ?_
              cases hb78
              exact QF.cutn (sb 52 rfl (sb 47 rfl (sb 46 rfl (sb 41 rfl (sb 40 rfl (sb 35 rfl (sb 34 rfl (sb 29 rfl (sb 28 rfl (sb 23 rfl (sb 22 rfl (sb 21 rfl (sb 20 rfl (sb 19 rfl (sb 4 rfl (sb 5 rfl (sb 13 rfl (sb 12 rfl (sb 1 rfl (sb 3 rfl (sb 14 rfl sb0)))))))))))))))))))))
            · skip
              have hb78 := cdT c77 hb78
              cases hb78
              refine QF.gnT rfl rfl rfl rfl rfl ?_
              refine QF.gnT rfl rfl rfl rfl rfl ?_
              refine QF.gnT rfl rfl rfl rfl rfl ?_
              refine QF.gnT rfl rfl rfl rfl rfl ?_
              refine QF.pick rfl rfl rfl ?_
              exact QF.cutn (sb 52 rfl (sb 47 rfl (sb 46 rfl (sb 41 rfl (sb 40 rfl (sb 35 rfl (sb 34 rfl (sb 29 rfl (sb 28 rfl (sb 23 rfl (sb 22 rfl (sb 21 rfl (sb 20 rfl (sb 19 rfl (sb 4 rfl (sb 5 rfl (sb 13 rfl (sb 12 rfl (sb 1 rfl (sb 3 rfl (sb 14 rfl sb0)))))))))))))))))))))
          refine QF.mv rfl rfl ?_
          refine QF.cutv 8 61 (.bool (b78 || (decide ((↑x30.Start.length : Int) ≠ (↑p0_b.Owners.length : Int))))) ?_ ?_
          · cases c82 : b78
            · skip
              refine QF.gy rfl rfl rfl ?_
              refine QF.fao rfl fa_70_5 rfl ?_
              refine QF.gy rfl rfl rfl ?_
              refine QF.ldo (vs := [v47]) ckC hs57 rfl mh rfl rfl ty_29 rfl rfl ?_
              refine QF.gy rfl rfl rfl ?_
              have k83 := k48.mono' e58
              refine QF.len rfl k83 sl_29 rfl fun b84 => ?_
              unfold maxLen at b84
              refine QF.gy rfl rfl rfl ?_
              have k85 := k6.mono (e25.trans (e38.trans e58))
              refine QF.fa rfl k85 GBasin.f_Owners fa_31_1 rfl fun q86 k87 => ?_
              refine QF.gy rfl rfl rfl ?_
              refine QF.ldl ckC hs57.1 rfl k87 ty_22 rfl fun v88 k89 => ?_
              refine QF.gy rfl rfl rfl ?_
              refine QF.len rfl k89 sl_22 rfl fun b90 => ?_
              unfold maxLen at b90
              refine QF.gy rfl rfl rfl ?_
              refine QF.neq rfl rfl rfl ?_
              refine QF.pick rfl rfl rfl ?_
              exact QF.cutn (sb 61 rfl (sb 53 rfl (sb 52 rfl (sb 47 rfl (sb 46 rfl (sb 41 rfl (sb 40 rfl (sb 35 rfl (sb 34 rfl (sb 29 rfl (sb 28 rfl (sb 23 rfl (sb 22 rfl (sb 21 rfl (sb 20 rfl (sb 19 rfl (sb 4 rfl (sb 5 rfl (sb 13 rfl (sb 12 rfl (sb 1 rfl (sb 3 rfl (sb 14 rfl sb0)))))))))))))))))))))))
            · skip
              refine QF.gnT rfl rfl rfl rfl rfl ?_
              refine QF.gnT rfl rfl rfl rfl rfl ?_
              refine QF.gnT rfl rfl rfl rfl rfl ?_
              refine QF.gnT rfl rfl rfl rfl rfl ?_
              refine QF.gnT rfl rfl rfl rfl rfl ?_
              refine QF.gnT rfl rfl rfl rfl rfl ?_
              refine QF.gnT rfl rfl rfl rfl rfl ?_
              refine QF.pick rfl rfl rfl ?_
              exact QF.cutn (sb 61 rfl (sb 53 rfl (sb 52 rfl (sb 47 rfl (sb 46 rfl (sb 41 rfl (sb 40 rfl (sb 35 rfl (sb 34 rfl (sb 29 rfl (sb 28 rfl (sb 23 rfl (sb 22 rfl (sb 21 rfl (sb 20 rfl (sb 19 rfl (sb 4 rfl (sb 5 rfl (sb 13 rfl (sb 12 rfl (sb 1 rfl (sb 3 rfl (sb 14 rfl sb0)))))))))))))))))))))))
          refine QF.mv rfl rfl ?_
          obtain ⟨b92, hb92, E⟩ := bd E
          refine QF.cutv 7 69 (.bool b92) ?_ ?_
          · cases c91 : (b78 || (decide ((↑x30.Start.length : Int) ≠ (↑p0_b.Owners.length : Int))))
            · skip
              have hb92 := cdF c91 hb92
              refine QF.gy rfl rfl rfl ?_
              refine QF.fao rfl fa_70_6 rfl ?_
              refine QF.gy rfl rfl rfl ?_
              refine QF.ldo (vs := [.int .i64 x30.Num]) ckC hs57 rfl mh rfl rfl ty_3 rfl rfl ?_
              refine QF.gy rfl rfl rfl ?_
              refine QF.fao rfl fa_70_7 rfl ?_
              refine QF.gy rfl rfl rfl ?_
              refine QF.ldo (vs := [.int .i64 x30.Den]) ckC hs57 rfl mh rfl rfl ty_3 rfl rfl ?_
              refine QF.gy rfl rfl rfl ?_
              obtain ⟨y93, hy93, hb92⟩ := bd hb92
              refine QF.callp (v := .bool y93) (Ψ := True) rfl rfl rfl ca_30 rfl (fun h' o => (basin_fraction_ret (St.all h') r49 r50 hy93).mono fun _ _ _ _ p => ⟨p.1, trivial⟩) fun r94 => ?_
              refine QF.gy rfl rfl rfl ?_
              refine QF.not rfl rfl ?_
              refine QF.pick rfl rfl rfl ?_
              cases hb92
              exact QF.cutn (sb 69 rfl (sb 62 rfl (sb 61 rfl (sb 53 rfl (sb 52 rfl (sb 47 rfl (sb 46 rfl (sb 41 rfl (sb 40 rfl (sb 35 rfl (sb 34 rfl (sb 29 rfl (sb 28 rfl (sb 23 rfl (sb 22 rfl (sb 21 rfl (sb 20 rfl (sb 19 rfl (sb 4 rfl (sb 5 rfl (sb 13 rfl (sb 12 rfl (sb 1 rfl (sb 3 rfl (sb 14 rfl sb0)))))))))))))))))))))))))
            · skip
              have hb92 := cdT c91 hb92
              cases hb92
              refine QF.gnT rfl rfl rfl rfl rfl ?_
              refine QF.gnT rfl rfl rfl rfl rfl ?_
              refine QF.gnT rfl rfl rfl rfl rfl ?_
              refine QF.gnT rfl rfl rfl rfl rfl ?_
              refine QF.gnT rfl rfl rfl rfl rfl ?_
              refine QF.gnT rfl rfl rfl rfl rfl ?_
              refine QF.pick rfl rfl rfl ?_
              exact QF.cutn (sb 69 rfl (sb 62 rfl (sb 61 rfl (sb 53 rfl (sb 52 rfl (sb 47 rfl (sb 46 rfl (sb 41 rfl (sb 40 rfl (sb 35 rfl (sb 34 rfl (sb 29 rfl (sb 28 rfl (sb 23 rfl (sb 22 rfl (sb 21 rfl (sb 20 rfl (sb 19 rfl (sb 4 rfl (sb 5 rfl (sb 13 rfl (sb 12 rfl (sb 1 rfl (sb 3 rfl (sb 14 rfl sb0)))))))))))))))))))))))))
          refine QF.mv rfl rfl ?_
          obtain ⟨b96, hb96, E⟩ := bd E
          refine QF.cutv 7 77 (.bool b96) ?_ ?_
          · cases c95 : b92
            · skip
              have hb96 := cdF c95 hb96
              refine QF.gy rfl rfl rfl ?_
              have k97 := k6.mono (e25.trans (e38.trans e58))
              refine QF.ld ckC hs57.1 rfl k97 ty_31 (fun e => by cases e) rfl fun v98 k99 => ?_
              refine QF.gy rfl rfl rfl ?_
              refine QF.mv rfl rfl ?_
              refine QF.gy rfl rfl rfl ?_
              refine QF.fao rfl fa_70_8 rfl ?_
              refine QF.gy rfl rfl rfl ?_
              refine QF.ldo (vs := [.int .i64 x30.Down]) ckC hs57 rfl mh rfl rfl ty_3 rfl rfl ?_
              refine QF.gy rfl rfl rfl ?_
              obtain ⟨y100, hy100, hb96⟩ := bd hb96
              refine QF.callp (v := .bool y100) (Ψ := True) rfl rfl rfl ca_31 rfl (fun h' o => (basin_target_ret (St.all h') (k99.mono (o.all hs57.1)) r21 r51 hy100).mono fun _ _ _ _ p => ⟨p.1, trivial⟩) fun r101 => ?_
              refine QF.gy rfl rfl rfl ?_
              refine QF.not rfl rfl ?_
              refine QF.pick rfl rfl rfl ?_
              cases hb96
              exact QF.cutn (sb 77 rfl (sb 70 rfl (sb 69 rfl (sb 62 rfl (sb 61 rfl (sb 53 rfl (sb 52 rfl (sb 47 rfl (sb 46 rfl (sb 41 rfl (sb 40 rfl (sb 35 rfl (sb 34 rfl (sb 29 rfl (sb 28 rfl (sb 23 rfl (sb 22 rfl (sb 21 rfl (sb 20 rfl (sb 19 rfl (sb 4 rfl (sb 5 rfl (sb 13 rfl (sb 12 rfl (sb 1 rfl (sb 3 rfl (sb 14 rfl sb0)))))))))))))))))))))))))))
            · skip
              have hb96 := cdT c95 hb96
              cases hb96
              refine QF.gnT rfl rfl rfl rfl rfl ?_
              refine QF.gnT rfl rfl rfl rfl rfl ?_
              refine QF.gnT rfl rfl rfl rfl rfl ?_
              refine QF.gnT rfl rfl rfl rfl rfl ?_
              refine QF.gnT rfl rfl rfl rfl rfl ?_
              refine QF.gnT rfl rfl rfl rfl rfl ?_
              refine QF.pick rfl rfl rfl ?_
              exact QF.cutn (sb 77 rfl (sb 70 rfl (sb 69 rfl (sb 62 rfl (sb 61 rfl (sb 53 rfl (sb 52 rfl (sb 47 rfl (sb 46 rfl (sb 41 rfl (sb 40 rfl (sb 35 rfl (sb 34 rfl (sb 29 rfl (sb 28 rfl (sb 23 rfl (sb 22 rfl (sb 21 rfl (sb 20 rfl (sb 19 rfl (sb 4 rfl (sb 5 rfl (sb 13 rfl (sb 12 rfl (sb 1 rfl (sb 3 rfl (sb 14 rfl sb0)))))))))))))))))))))))))))
          refine QF.rcn (sb 77 rfl (sb 5 rfl (sb 13 rfl (sb 12 rfl (sb 1 rfl (sb 3 rfl (sb 14 rfl sb0))))))) fun h102 hs103 e104 => ?_
          refine WF.if_ rfl (fun c105 => ?_) (fun c105 => ?_)
          · skip
            have E := cdT c105 E
            refine WF.seq ?_
            refine WF.rp (.inl rfl) ?_
            refine QF.as_ rfl rfl ?_
            refine QF.rpn (sb 2 rfl sb0) ?_
            refine WF.ret (fun aa ww hf hw => ?_)
            have hs106 := hs103.drop .head
            cases E
            exact rtg hf rfl hw (rvc (rvT hf (v := _) rfl) rv0) rfl (e5.trans (e25.trans (e38.trans (e58.trans e104)))) ⟨rfl, hs106⟩
          · skip
            have E := cdF c105 E
            refine WF.skip ?_
            refine WF.seq ?_
            refine WF.seq ?_
            refine WF.rp (.inl rfl) ?_
            refine QF.fao rfl fa_70_5 rfl ?_
            refine QF.ldo (vs := [v47]) ckP hs103 rfl mh rfl rfl ty_29 rfl rfl ?_
            have k107 := k48.mono' (e58.trans e104)
            refine QF.len rfl k107 sl_29 rfl fun b108 => ?_
            unfold maxLen at b108
            refine QF.mv rfl rfl ?_
            refine QF.rpn (sb 81 rfl (sb 80 rfl (sb 79 rfl (sb 5 rfl (sb 13 rfl (sb 12 rfl (sb 1 rfl (sb 3 rfl (sb 14 rfl sb0))))))))) ?_
            refine WF.blockJ (fun a w => ∃ (i109 : Int) (S' : Nat → Prop) (h' : Heap), Fr 122 a [(5, .pointer (some ⟨b35, 0, none⟩)), (13, .int .i64 (↑p0_b.Places.length : Int)), (12, v9), (1, q1), (14, .int .i64 i20), (3, .int .i64 i109)] ∧ Wd B h' w ∧ St S' (Bx b35 70 [.string x30.Name, .int .i64 x30.Kind, .int .i64 x30.Office, .int .i64 x30.Cap, v45, v47, .int .i64 x30.Num, .int .i64 x30.Den, .int .i64 x30.Down, .int .i64 x30.Delay, .int .i64 x30.Floor, v54] :: L) h' ∧ Ext S22 h102 S' h' ∧ inI64 i109 ∧ f_basin_rightPlaces_j3 N p0_b x30 (f_basin_rightPlaces_j2 N i20 (f_basin_rightPlaces_l1 N p0_b (f_basin_rightPlaces_j0 N) n1)) i109 = some r) ?_ ?_
            · skip
              refine WF.loopF (fun n4 => fun a w => ∃ (i115 : Int) (i117 : Int) (S' : Nat → Prop) (h' : Heap), Fr 122 a [(80, .int .i64 (↑x30.Start.length : Int)), (79, v47), (5, .pointer (some ⟨b35, 0, none⟩)), (13, .int .i64 (↑p0_b.Places.length : Int)), (12, v9), (1, q1), (14, .int .i64 i20), (3, .int .i64 i115), (81, .int .i64 i117)] ∧ Wd B h' w ∧ St S' (Bx b35 70 [.string x30.Name, .int .i64 x30.Kind, .int .i64 x30.Office, .int .i64 x30.Cap, v45, v47, .int .i64 x30.Num, .int .i64 x30.Den, .int .i64 x30.Down, .int .i64 x30.Delay, .int .i64 x30.Floor, v54] :: L) h' ∧ Ext S22 h102 S' h' ∧ inI64 i115 ∧ inI64 i117 ∧ f_basin_rightPlaces_l4 N x30 (f_basin_rightPlaces_j3 N p0_b x30 (f_basin_rightPlaces_j2 N i20 (f_basin_rightPlaces_l1 N p0_b (f_basin_rightPlaces_j0 N) n1))) n4 i115 i117 = some r) N ?_ ?_ ?_
              · intro aa ww hf hw
                exact ⟨i18, 0, _, _, hf.sub (sb 80 rfl (sb 79 rfl (sb 5 rfl (sb 13 rfl (sb 12 rfl (sb 1 rfl (sb 14 rfl (sb 3 rfl (sb 81 rfl sb0))))))))), hw, hs103, (Ext.refl S22 h102), r19, (show inI64 0 by unfold inI64; omega), E⟩
              · rintro aa ww ⟨_, _, _, _, _, _, _, _, _, _, E⟩
                rw [f_basin_rightPlaces_l4] at E; cases E
              · skip
                rintro n4 aa ww ⟨i115, i117, S119, h120, hf, hw, hs121, e122, r116, r118, E⟩
                refine WF.run ?_ hf hw
                clear hf hw ww aa
                rw [f_basin_rightPlaces_l4] at E
                refine WF.seq ?_
                refine WF.rp (.inl rfl) ?_
                refine QF.lss rfl rfl rfl ?_
                refine QF.rpn (sb 82 rfl (sb 80 rfl (sb 79 rfl (sb 5 rfl (sb 13 rfl (sb 12 rfl (sb 1 rfl (sb 14 rfl (sb 3 rfl (sb 81 rfl sb0)))))))))) ?_
                refine WF.seq ?_
                refine WF.if_ rfl (fun c123 => ?_) (fun c123 => ?_)
                · skip
                  have E := cdT c123 E
                  refine WF.skip ?_
                  refine WF.seq ?_
                  refine WF.block ?_
                  refine WF.seq ?_
                  refine WF.rp (.inl rfl) ?_
                  have k124 := k107.mono' e122
                  obtain ⟨x125, hx125, E⟩ := bd E
                  refine QF.ixe rfl rfl k124 sl_29 hx125 rfl fun q126 k127 => ?_
                  refine QF.ldi ckP hs121.1 rfl k127 ty_3 rfl fun r128 => ?_
                  refine QF.as_ rfl rfl ?_
                  refine QF.rpn (sb 7 rfl (sb 80 rfl (sb 79 rfl (sb 5 rfl (sb 13 rfl (sb 12 rfl (sb 1 rfl (sb 14 rfl (sb 3 rfl (sb 81 rfl sb0)))))))))) ?_
                  refine WF.seq ?_
                  refine WF.seq ?_
                  refine WF.rc (.inl rfl) hs121 ?_
                  refine QF.mv rfl rfl ?_
                  obtain ⟨y129, hy129, E⟩ := bd E
                  refine QF.callp (v := .bool y129) (Ψ := True) rfl rfl rfl ca_27 rfl (fun h' o => (basin_volume_ret (St.all h') r128 hy129).mono fun _ _ _ _ p => ⟨p.1, trivial⟩) fun r130 => ?_
                  refine QF.not rfl rfl ?_
                  refine QF.rcn (sb 87 rfl (sb 7 rfl (sb 80 rfl (sb 79 rfl (sb 5 rfl (sb 13 rfl (sb 12 rfl (sb 1 rfl (sb 14 rfl (sb 3 rfl (sb 81 rfl sb0))))))))))) fun h131 hs132 e133 => ?_
                  refine WF.if_ rfl (fun c134 => ?_) (fun c134 => ?_)
                  · skip
                    have E := cdT c134 E
                    refine WF.seq ?_
                    refine WF.rp (.inl rfl) ?_
                    refine QF.as_ rfl rfl ?_
                    refine QF.rpn (sb 2 rfl sb0) ?_
                    refine WF.ret (fun aa ww hf hw => ?_)
                    have hs135 := hs132.drop .head
                    cases E
                    exact rtg hf rfl hw (rvc (rvT hf (v := _) rfl) rv0) rfl (e5.trans (e25.trans (e38.trans (e58.trans (e104.trans (e122.trans e133)))))) ⟨rfl, hs135⟩
                  · skip
                    have E := cdF c134 E
                    refine WF.skip ?_
                    refine WF.rp (.inl rfl) ?_
                    refine QF.mv rfl rfl ?_
                    refine QF.mv rfl rfl ?_
                    refine QF.addw rfl rfl rfl ?_
                    refine QF.as_ rfl rfl ?_
                    refine QF.rpn (sb 3 rfl (sb 80 rfl (sb 79 rfl (sb 5 rfl (sb 13 rfl (sb 12 rfl (sb 1 rfl (sb 14 rfl (sb 81 rfl sb0))))))))) ?_
                    refine WF.nilW ?_
                    refine WF.rp (.inl rfl) ?_
                    refine QF.addw rfl rfl rfl ?_
                    refine QF.mv rfl rfl ?_
                    refine QF.rpn (sb 81 rfl (sb 3 rfl (sb 80 rfl (sb 79 rfl (sb 5 rfl (sb 13 rfl (sb 12 rfl (sb 1 rfl (sb 14 rfl sb0))))))))) ?_
                    refine WF.nil (fun aa ww hf hw => ?_)
                    exact ⟨(w64 (i115 + x125)), (w64 (i117 + 1)), _, _, hf.sub (sb 80 rfl (sb 79 rfl (sb 5 rfl (sb 13 rfl (sb 12 rfl (sb 1 rfl (sb 14 rfl (sb 3 rfl (sb 81 rfl sb0))))))))), hw, hs132, (e122.trans e133), (w64_i _), (w64_i _), E⟩
                · skip
                  have E := cdF c123 E
                  refine WF.exit rfl (fun aa ww hf hw => ?_)
                  exact ⟨i115, _, _, hf.sub (sb 5 rfl (sb 13 rfl (sb 12 rfl (sb 1 rfl (sb 14 rfl (sb 3 rfl sb0)))))), hw, hs121, e122, r116, E⟩
            · skip
              rintro aa ww ⟨i109, S136, h137, hf, hw, hs138, e139, r110, E⟩
              refine WF.run ?_ hf hw
              clear hf hw ww aa
              rw [f_basin_rightPlaces_j3] at E
              refine WF.seq ?_
              refine WF.rp (.inl rfl) ?_
              refine QF.as_ rfl rfl ?_
              refine QF.rpn (sb 8 rfl (sb 5 rfl (sb 13 rfl (sb 12 rfl (sb 1 rfl (sb 14 rfl (sb 3 rfl sb0))))))) ?_
              refine WF.seq ?_
              refine WF.rp (.inl rfl) ?_
              refine QF.fao rfl fa_70_11 rfl ?_
              refine QF.ldo (vs := [v54]) ckP hs138 rfl mh rfl rfl ty_68 rfl rfl ?_
              have k140 := k55.mono' (e58.trans (e104.trans e139))
              refine QF.len rfl k140 sl_68 rfl fun b141 => ?_
              unfold maxLen at b141
              refine QF.mv rfl rfl ?_
              refine QF.rpn (sb 95 rfl (sb 94 rfl (sb 93 rfl (sb 8 rfl (sb 13 rfl (sb 12 rfl (sb 1 rfl (sb 14 rfl (sb 3 rfl sb0))))))))) ?_
              refine WF.block ?_
              refine WF.loopF (fun n5 => fun a w => ∃ (i146 : Int) (i148 : Int) (S' : Nat → Prop) (h' : Heap), Fr 122 a [(94, .int .i64 (↑x30.Rain.length : Int)), (93, v54), (13, .int .i64 (↑p0_b.Places.length : Int)), (12, v9), (1, q1), (14, .int .i64 i20), (3, .int .i64 i109), (8, .int .i64 i146), (95, .int .i64 i148)] ∧ Wd B h' w ∧ St S' (L) h' ∧ Ext S136 h137 S' h' ∧ inI64 i146 ∧ inI64 i148 ∧ f_basin_rightPlaces_l5 N p0_b x30 i109 (f_basin_rightPlaces_j2 N i20 (f_basin_rightPlaces_l1 N p0_b (f_basin_rightPlaces_j0 N) n1)) n5 i146 i148 = some r) N ?_ ?_ ?_
              · intro aa ww hf hw
                have hs150 := hs138.drop .head
                exact ⟨(-1), 0, _, _, hf.sub (sb 94 rfl (sb 93 rfl (sb 13 rfl (sb 12 rfl (sb 1 rfl (sb 14 rfl (sb 3 rfl (sb 8 rfl (sb 95 rfl sb0))))))))), hw, hs150, (Ext.refl S136 h137), (show inI64 (-1) by unfold inI64; omega), (show inI64 0 by unfold inI64; omega), E⟩
              · rintro aa ww ⟨_, _, _, _, _, _, _, _, _, _, E⟩
                rw [f_basin_rightPlaces_l5] at E; cases E
              · skip
                rintro n5 aa ww ⟨i146, i148, S151, h152, hf, hw, hs153, e154, r147, r149, E⟩
                refine WF.run ?_ hf hw
                clear hf hw ww aa
                rw [f_basin_rightPlaces_l5] at E
                refine WF.seq ?_
                refine WF.rp (.inl rfl) ?_
                refine QF.lss rfl rfl rfl ?_
                refine QF.rpn (sb 96 rfl (sb 94 rfl (sb 93 rfl (sb 13 rfl (sb 12 rfl (sb 1 rfl (sb 14 rfl (sb 3 rfl (sb 8 rfl (sb 95 rfl sb0)))))))))) ?_
                refine WF.seq ?_
                refine WF.if_ rfl (fun c155 => ?_) (fun c155 => ?_)
                · skip
                  have E := cdT c155 E
                  refine WF.skip ?_
                  refine WF.seq ?_
                  refine WF.block ?_
                  refine WF.seq ?_
                  refine WF.rl ?_
                  refine LF.q 2 ?_
                  have k156 := k140.mono' e154
                  obtain ⟨x157, hx157, E⟩ := bd E
                  refine QF.ixe rfl rfl k156 sl_68 hx157 rfl fun q158 k159 => ?_
                  refine QF.ld ckP hs153.1 rfl k159 ty_93 (fun e => by cases e) rfl fun v160 k161 => ?_
                  refine QF.ln ?_
                  refine LF.al zc_93 rfl hs153 fun b162 h163 hs164 e165 => ?_
                  have k166 := k161.mono e165
                  obtain ⟨rfl, ⟨r168, r169⟩⟩ := RGCell.ex k166
                  refine LF.st (vs := [.int .i64 x157.Index, .int .i64 x157.Area]) (cs' := [.int .i64 x157.Index, .int .i64 x157.Area]) rfl rfl rfl (one_cons rfl (one_cons rfl one_nil)) ty_93 rfl hs164 .head rfl rfl fun h170 hs171 e172 => ?_
                  refine LF.nil (sb 10 rfl (sb 94 rfl (sb 93 rfl (sb 13 rfl (sb 12 rfl (sb 1 rfl (sb 14 rfl (sb 3 rfl (sb 8 rfl (sb 95 rfl sb0)))))))))) ?_
                  refine WF.seq ?_
                  refine WF.seq ?_
                  refine WF.rc (.inl rfl) hs171 ?_
                  refine QF.fao rfl fa_93_0 rfl ?_
                  refine QF.ldo (vs := [.int .i64 x157.Index]) ckC hs171 rfl mh rfl rfl ty_3 rfl rfl ?_
                  refine QF.mv rfl rfl ?_
                  refine QF.leq rfl rfl rfl ?_
                  refine QF.mv rfl rfl ?_
                  refine QF.cutv 6 109 (.bool ((decide (x157.Index ≤ i146)) || (decide (p0_b.Cells ≤ x157.Index)))) ?_ ?_
                  · cases c173 : (decide (x157.Index ≤ i146))
                    · skip
                      refine QF.gy rfl rfl rfl ?_
                      refine QF.fao rfl fa_93_0 rfl ?_
                      refine QF.gy rfl rfl rfl ?_
                      refine QF.ldo (vs := [.int .i64 x157.Index]) ckC hs171 rfl mh rfl rfl ty_3 rfl rfl ?_
                      refine QF.gy rfl rfl rfl ?_
                      have k174 := k6.mono (e25.trans (e38.trans (e58.trans (e104.trans (e139.trans (e154.trans (e165.trans e172)))))))
                      refine QF.fa rfl k174 GBasin.f_Cells fa_31_2 rfl fun q175 k176 => ?_
                      refine QF.gy rfl rfl rfl ?_
                      refine QF.ldi ckC hs171.1 rfl k176 ty_3 rfl fun r177 => ?_
                      refine QF.gy rfl rfl rfl ?_
                      refine QF.geq rfl rfl rfl ?_
                      refine QF.pick rfl rfl rfl ?_
                      exact QF.cutn (sb 109 rfl (sb 103 rfl (sb 102 rfl (sb 101 rfl (sb 100 rfl (sb 99 rfl (sb 10 rfl (sb 94 rfl (sb 93 rfl (sb 13 rfl (sb 12 rfl (sb 1 rfl (sb 14 rfl (sb 3 rfl (sb 8 rfl (sb 95 rfl sb0))))))))))))))))
                    · skip
                      refine QF.gnT rfl rfl rfl rfl rfl ?_
                      refine QF.gnT rfl rfl rfl rfl rfl ?_
                      refine QF.gnT rfl rfl rfl rfl rfl ?_
                      refine QF.gnT rfl rfl rfl rfl rfl ?_
                      refine QF.gnT rfl rfl rfl rfl rfl ?_
                      refine QF.pick rfl rfl rfl ?_
                      exact QF.cutn (sb 109 rfl (sb 103 rfl (sb 102 rfl (sb 101 rfl (sb 100 rfl (sb 99 rfl (sb 10 rfl (sb 94 rfl (sb 93 rfl (sb 13 rfl (sb 12 rfl (sb 1 rfl (sb 14 rfl (sb 3 rfl (sb 8 rfl (sb 95 rfl sb0))))))))))))))))
                  refine QF.mv rfl rfl ?_
                  obtain ⟨b179, hb179, E⟩ := bd E
                  refine QF.cutv 5 115 (.bool b179) ?_ ?_
                  · cases c178 : ((decide (x157.Index ≤ i146)) || (decide (p0_b.Cells ≤ x157.Index)))
                    · skip
                      have hb179 := cdF c178 hb179
                      refine QF.gy rfl rfl rfl ?_
                      refine QF.fao rfl fa_93_1 rfl ?_
                      refine QF.gy rfl rfl rfl ?_
                      refine QF.ldo (vs := [.int .i64 x157.Area]) ckC hs171 rfl mh rfl rfl ty_3 rfl rfl ?_
                      refine QF.gy rfl rfl rfl ?_
                      obtain ⟨y180, hy180, hb179⟩ := bd hb179
                      refine QF.callp (v := .bool y180) (Ψ := True) rfl rfl rfl ca_27 rfl (fun h' o => (basin_volume_ret (St.all h') r169 hy180).mono fun _ _ _ _ p => ⟨p.1, trivial⟩) fun r181 => ?_
                      refine QF.gy rfl rfl rfl ?_
                      refine QF.not rfl rfl ?_
                      refine QF.pick rfl rfl rfl ?_
                      cases hb179
                      exact QF.cutn (sb 115 rfl (sb 110 rfl (sb 109 rfl (sb 103 rfl (sb 102 rfl (sb 101 rfl (sb 100 rfl (sb 99 rfl (sb 10 rfl (sb 94 rfl (sb 93 rfl (sb 13 rfl (sb 12 rfl (sb 1 rfl (sb 14 rfl (sb 3 rfl (sb 8 rfl (sb 95 rfl sb0))))))))))))))))))
                    · skip
                      have hb179 := cdT c178 hb179
                      cases hb179
                      refine QF.gnT rfl rfl rfl rfl rfl ?_
                      refine QF.gnT rfl rfl rfl rfl rfl ?_
                      refine QF.gnT rfl rfl rfl rfl rfl ?_
                      refine QF.gnT rfl rfl rfl rfl rfl ?_
                      refine QF.pick rfl rfl rfl ?_
                      exact QF.cutn (sb 115 rfl (sb 110 rfl (sb 109 rfl (sb 103 rfl (sb 102 rfl (sb 101 rfl (sb 100 rfl (sb 99 rfl (sb 10 rfl (sb 94 rfl (sb 93 rfl (sb 13 rfl (sb 12 rfl (sb 1 rfl (sb 14 rfl (sb 3 rfl (sb 8 rfl (sb 95 rfl sb0))))))))))))))))))
                  refine QF.rcn (sb 115 rfl (sb 10 rfl (sb 94 rfl (sb 93 rfl (sb 13 rfl (sb 12 rfl (sb 1 rfl (sb 14 rfl (sb 3 rfl (sb 95 rfl sb0)))))))))) fun h182 hs183 e184 => ?_
                  refine WF.if_ rfl (fun c185 => ?_) (fun c185 => ?_)
                  · skip
                    have E := cdT c185 E
                    refine WF.seq ?_
                    refine WF.rp (.inl rfl) ?_
                    refine QF.as_ rfl rfl ?_
                    refine QF.rpn (sb 2 rfl sb0) ?_
                    refine WF.ret (fun aa ww hf hw => ?_)
                    have hs186 := hs183.drop .head
                    cases E
                    exact rtg hf rfl hw (rvc (rvT hf (v := _) rfl) rv0) rfl (e5.trans (e25.trans (e38.trans (e58.trans (e104.trans (e139.trans (e154.trans (e165.trans (e172.trans e184))))))))) ⟨rfl, hs186⟩
                  · skip
                    have E := cdF c185 E
                    refine WF.skip ?_
                    refine WF.rp (.inl rfl) ?_
                    refine QF.fao rfl fa_93_0 rfl ?_
                    refine QF.ldo (vs := [.int .i64 x157.Index]) ckP hs183 rfl mh rfl rfl ty_3 rfl rfl ?_
                    refine QF.as_ rfl rfl ?_
                    refine QF.rpn (sb 8 rfl (sb 94 rfl (sb 93 rfl (sb 13 rfl (sb 12 rfl (sb 1 rfl (sb 14 rfl (sb 3 rfl (sb 95 rfl sb0))))))))) ?_
                    refine WF.nilW ?_
                    refine WF.rp (.inl rfl) ?_
                    refine QF.addw rfl rfl rfl ?_
                    refine QF.mv rfl rfl ?_
                    refine QF.rpn (sb 95 rfl (sb 8 rfl (sb 94 rfl (sb 93 rfl (sb 13 rfl (sb 12 rfl (sb 1 rfl (sb 14 rfl (sb 3 rfl sb0))))))))) ?_
                    refine WF.nil (fun aa ww hf hw => ?_)
                    have hs187 := hs183.drop .head
                    exact ⟨x157.Index, (w64 (i148 + 1)), _, _, hf.sub (sb 94 rfl (sb 93 rfl (sb 13 rfl (sb 12 rfl (sb 1 rfl (sb 14 rfl (sb 3 rfl (sb 8 rfl (sb 95 rfl sb0))))))))), hw, hs187, (e154.trans (e165.trans (e172.trans e184))), r168, (w64_i _), E⟩
                · skip
                  have E := cdF c155 E
                  refine WF.exitW rfl ?_
                  refine WF.nil (fun aa ww hf hw => ?_)
                  exact ⟨i109, _, _, hf.sub (sb 13 rfl (sb 12 rfl (sb 1 rfl (sb 14 rfl (sb 3 rfl sb0))))), hw, hs153, (e38.trans (e58.trans (e104.trans (e139.trans e154)))), r110, E⟩
        · skip
          rintro aa ww ⟨i27, S188, h189, hf, hw, hs190, e191, r28, E⟩
          refine WF.run ?_ hf hw
          clear hf hw ww aa
          rw [f_basin_rightPlaces_j2] at E
          refine WF.rp (.inl rfl) ?_
          refine QF.addw rfl rfl rfl ?_
          refine QF.mv rfl rfl ?_
          refine QF.rpn (sb 14 rfl (sb 13 rfl (sb 12 rfl (sb 1 rfl (sb 3 rfl sb0))))) ?_
          refine WF.nil (fun aa ww hf hw => ?_)
          exact ⟨i27, (w64 (i20 + 1)), _, _, hf.sub (sb 13 rfl (sb 12 rfl (sb 1 rfl (sb 3 rfl (sb 14 rfl sb0))))), hw, hs190, (e25.trans e191), r28, (w64_i _), E⟩
      · skip
        have E := cdF c26 E
        refine WF.exit rfl (fun aa ww hf hw => ?_)
        exact ⟨i18, _, _, hf.sub (sb 3 rfl sb0), hw, hs24, e25, r19, E⟩
  · skip
    rintro aa ww ⟨i12, S192, h193, hf, hw, hs194, e195, r13, E⟩
    refine WF.run ?_ hf hw
    clear hf hw ww aa
    rw [f_basin_rightPlaces_j0] at E
    refine WF.seq ?_
    refine WF.rp (.inl rfl) ?_
    refine QF.mv rfl rfl ?_
    refine QF.leq rfl rfl rfl ?_
    refine QF.as_ rfl rfl ?_
    refine QF.rpn (sb 2 rfl sb0) ?_
    refine WF.ret (fun aa ww hf hw => ?_)
    cases E
    exact rtg hf rfl hw (rvc (rvT hf (v := _) rfl) rv0) rfl (e5.trans e195) ⟨rfl, hs194⟩

end Go.Proofs.Ytibidnaedddfdaa
