/- Walks, part 1. By program. -/
import Derived.Test.YtibidnaedddfdaaWalk0
namespace Go.Proofs.Ytibidnaedddfdaa
open Go.RowKit
set_option linter.unusedVariables false
set_option linter.unusedSimpArgs false

set_option maxRecDepth 10000 in
set_option maxHeartbeats 2000000 in
theorem basin_isName_ret {N : Nat} {S : Nat → Prop} {L : List HP} {h : Heap} (hs : St S L h) {p0_s : ByteArray} (h_p0_s : p0_s.size ≤ maxLen) {r : Bool} (E : f_basin_isName N p0_s = some r) :
    Ret Try.prog 42 #[.string p0_s] S h (fun v S' h' => v = .bool r ∧ St S' (L) h') := by
  refine Ret.go (l := [.string p0_s]) 54 Try.func42 rfl Try.ntmps42 rfl fun B => ?_
  rw [f_basin_isName] at E
  refine WF.seq ?_
  refine WF.rp (.inl rfl) ?_
  refine QF.as_ rfl rfl ?_
  refine QF.rpn (sb 0 rfl sb0) ?_
  refine WF.seq ?_
  refine WF.seq ?_
  refine WF.rp (.inl rfl) ?_
  refine QF.mv rfl rfl ?_
  refine QF.lens rfl us_9 rfl ?_
  refine QF.lss rfl rfl rfl ?_
  refine QF.mv rfl rfl ?_
  refine QF.cutv 4 12 (.bool ((decide ((↑p0_s.size : Int) < 1)) || (decide (24 < (↑p0_s.size : Int))))) ?_ ?_
  · cases c1 : (decide ((↑p0_s.size : Int) < 1))
    · skip
      refine QF.gy rfl rfl rfl ?_
      refine QF.mv rfl rfl ?_
      refine QF.gy rfl rfl rfl ?_
      refine QF.lens rfl us_9 rfl ?_
      refine QF.gy rfl rfl rfl ?_
      refine QF.gtr rfl rfl rfl ?_
      refine QF.pick rfl rfl rfl ?_
      exact QF.cutn (sb 12 rfl (sb 8 rfl (sb 7 rfl (sb 6 rfl (sb 5 rfl (sb 0 rfl sb0))))))
    · skip
      refine QF.gnT rfl rfl rfl rfl rfl ?_
      refine QF.gnT rfl rfl rfl rfl rfl ?_
      refine QF.gnT rfl rfl rfl rfl rfl ?_
      refine QF.pick rfl rfl rfl ?_
      exact QF.cutn (sb 12 rfl (sb 8 rfl (sb 7 rfl (sb 6 rfl (sb 5 rfl (sb 0 rfl sb0))))))
  refine QF.mv rfl rfl ?_
  refine QF.cutv 3 16 (.bool (((decide ((↑p0_s.size : Int) < 1)) || (decide (24 < (↑p0_s.size : Int)))) || (p0_s == (ByteArray.mk #[111, 117, 116])))) ?_ ?_
  · cases c2 : ((decide ((↑p0_s.size : Int) < 1)) || (decide (24 < (↑p0_s.size : Int))))
    · skip
      refine QF.gy rfl rfl rfl ?_
      refine QF.mv rfl rfl ?_
      refine QF.gy rfl rfl rfl ?_
      refine QF.eqstr rfl rfl rfl ?_
      refine QF.pick rfl rfl rfl ?_
      exact QF.cutn (sb 16 rfl (sb 13 rfl (sb 12 rfl (sb 8 rfl (sb 7 rfl (sb 6 rfl (sb 5 rfl (sb 0 rfl sb0))))))))
    · skip
      refine QF.gnT rfl rfl rfl rfl rfl ?_
      refine QF.gnT rfl rfl rfl rfl rfl ?_
      refine QF.pick rfl rfl rfl ?_
      exact QF.cutn (sb 16 rfl (sb 13 rfl (sb 12 rfl (sb 8 rfl (sb 7 rfl (sb 6 rfl (sb 5 rfl (sb 0 rfl sb0))))))))
  refine QF.mv rfl rfl ?_
  obtain ⟨b4, hb4, E⟩ := bd E
  refine QF.cutv 4 21 (.bool b4) ?_ ?_
  · cases c3 : (((decide ((↑p0_s.size : Int) < 1)) || (decide (24 < (↑p0_s.size : Int)))) || (p0_s == (ByteArray.mk #[111, 117, 116])))
    · skip
      have hb4 := cdF c3 hb4
      refine QF.gy rfl rfl rfl ?_
      refine QF.mv rfl rfl ?_
      refine QF.gy rfl rfl rfl ?_
      obtain ⟨z5, hz5, hb4⟩ := bd hb4
      have r6 := bix_has hz5
      refine QF.bixk rfl rfl us_9 hz5 rfl ?_
      refine QF.gy rfl rfl rfl ?_
      refine QF.lss rfl rfl rfl ?_
      refine QF.pick rfl rfl rfl ?_
      cases hb4
      exact QF.cutn (sb 21 rfl (sb 17 rfl (sb 16 rfl (sb 13 rfl (sb 12 rfl (sb 8 rfl (sb 7 rfl (sb 6 rfl (sb 5 rfl (sb 0 rfl sb0))))))))))
    · skip
      have hb4 := cdT c3 hb4
      cases hb4
      refine QF.gnT rfl rfl rfl rfl rfl ?_
      refine QF.gnT rfl rfl rfl rfl rfl ?_
      refine QF.gnT rfl rfl rfl rfl rfl ?_
      refine QF.pick rfl rfl rfl ?_
      exact QF.cutn (sb 21 rfl (sb 17 rfl (sb 16 rfl (sb 13 rfl (sb 12 rfl (sb 8 rfl (sb 7 rfl (sb 6 rfl (sb 5 rfl (sb 0 rfl sb0))))))))))
  refine QF.mv rfl rfl ?_
  obtain ⟨b8, hb8, E⟩ := bd E
  refine QF.cutv 4 26 (.bool b8) ?_ ?_
  · cases c7 : b4
    · skip
      have hb8 := cdF c7 hb8
      refine QF.gy rfl rfl rfl ?_
      refine QF.mv rfl rfl ?_
      refine QF.gy rfl rfl rfl ?_
      obtain ⟨z9, hz9, hb8⟩ := bd hb8
      have r10 := bix_has hz9
      refine QF.bixk rfl rfl us_9 hz9 rfl ?_
      refine QF.gy rfl rfl rfl ?_
      refine QF.gtr rfl rfl rfl ?_
      refine QF.pick rfl rfl rfl ?_
      cases hb8
      exact QF.cutn (sb 26 rfl (sb 22 rfl (sb 21 rfl (sb 17 rfl (sb 16 rfl (sb 13 rfl (sb 12 rfl (sb 8 rfl (sb 7 rfl (sb 6 rfl (sb 5 rfl (sb 0 rfl sb0))))))))))))
    · skip
      have hb8 := cdT c7 hb8
      cases hb8
      refine QF.gnT rfl rfl rfl rfl rfl ?_
      refine QF.gnT rfl rfl rfl rfl rfl ?_
      refine QF.gnT rfl rfl rfl rfl rfl ?_
      refine QF.pick rfl rfl rfl ?_
      exact QF.cutn (sb 26 rfl (sb 22 rfl (sb 21 rfl (sb 17 rfl (sb 16 rfl (sb 13 rfl (sb 12 rfl (sb 8 rfl (sb 7 rfl (sb 6 rfl (sb 5 rfl (sb 0 rfl sb0))))))))))))
  refine QF.rpn (sb 26 rfl (sb 0 rfl sb0)) ?_
  refine WF.if_ rfl (fun c11 => ?_) (fun c11 => ?_)
  · skip
    have E := cdT c11 E
    refine WF.seq ?_
    refine WF.rp (.inl rfl) ?_
    refine QF.as_ rfl rfl ?_
    refine QF.rpn (sb 2 rfl sb0) ?_
    refine WF.ret (fun aa ww hf hw => ?_)
    cases E
    exact rtg hf rfl hw (rvc (rvT hf (v := _) rfl) rv0) rfl (Ext.refl S h) ⟨rfl, hs⟩
  · skip
    have E := cdF c11 E
    refine WF.skip ?_
    refine WF.seq ?_
    refine WF.seq ?_
    refine WF.rp (.inl rfl) ?_
    refine QF.as_ rfl rfl ?_
    refine QF.rpn (sb 3 rfl (sb 0 rfl sb0)) ?_
    refine WF.blockJ (fun a w => ∃ (S' : Nat → Prop) (h' : Heap), Fr 54 a [] ∧ Wd B h' w ∧ St S' (L) h' ∧ Ext S h S' h' ∧ f_basin_isName_j0 N = some r) ?_ ?_
    · skip
      refine WF.loopF (fun n1 => fun a w => ∃ (i14 : Int) (S' : Nat → Prop) (h' : Heap), Fr 54 a [(0, .string p0_s), (3, .int .i64 i14)] ∧ Wd B h' w ∧ St S' (L) h' ∧ Ext S h S' h' ∧ inI64 i14 ∧ f_basin_isName_l1 N p0_s (f_basin_isName_j0 N) n1 i14 = some r) N ?_ ?_ ?_
      · intro aa ww hf hw
        exact ⟨1, _, _, hf.sub (sb 0 rfl (sb 3 rfl sb0)), hw, hs, (Ext.refl S h), (show inI64 1 by unfold inI64; omega), E⟩
      · rintro aa ww ⟨_, _, _, _, _, _, _, _, E⟩
        rw [f_basin_isName_l1] at E; cases E
      · skip
        rintro n1 aa ww ⟨i14, S16, h17, hf, hw, hs18, e19, r15, E⟩
        refine WF.run ?_ hf hw
        clear hf hw ww aa
        rw [f_basin_isName_l1] at E
        refine WF.seq ?_
        refine WF.seq ?_
        refine WF.rp (.inl rfl) ?_
        refine QF.mv rfl rfl ?_
        refine QF.mv rfl rfl ?_
        refine QF.lens rfl us_9 rfl ?_
        refine QF.lss rfl rfl rfl ?_
        refine QF.rpn (sb 30 rfl (sb 0 rfl (sb 3 rfl sb0))) ?_
        refine WF.if_ rfl (fun c20 => ?_) (fun c20 => ?_)
        · skip
          have E := cdT c20 E
          refine WF.skip ?_
          refine WF.seq ?_
          refine WF.block ?_
          refine WF.seq ?_
          refine WF.rp (.inl rfl) ?_
          refine QF.mv rfl rfl ?_
          refine QF.mv rfl rfl ?_
          obtain ⟨z21, hz21, E⟩ := bd E
          have r22 := bix_has hz21
          refine QF.bixk rfl rfl us_9 hz21 rfl ?_
          refine QF.as_ rfl rfl ?_
          refine QF.rpn (sb 4 rfl (sb 0 rfl (sb 3 rfl sb0))) ?_
          refine WF.seq ?_
          refine WF.rp (.inl rfl) ?_
          refine QF.mv rfl rfl ?_
          refine QF.lss rfl rfl rfl ?_
          refine QF.mv rfl rfl ?_
          refine QF.cutv 3 41 (.bool ((decide (z21 < 97)) || (decide (122 < z21)))) ?_ ?_
          · cases c23 : (decide (z21 < 97))
            · skip
              refine QF.gy rfl rfl rfl ?_
              refine QF.mv rfl rfl ?_
              refine QF.gy rfl rfl rfl ?_
              refine QF.gtr rfl rfl rfl ?_
              refine QF.pick rfl rfl rfl ?_
              exact QF.cutn (sb 41 rfl (sb 38 rfl (sb 37 rfl (sb 36 rfl (sb 4 rfl (sb 0 rfl (sb 3 rfl sb0)))))))
            · skip
              refine QF.gnT rfl rfl rfl rfl rfl ?_
              refine QF.gnT rfl rfl rfl rfl rfl ?_
              refine QF.pick rfl rfl rfl ?_
              exact QF.cutn (sb 41 rfl (sb 38 rfl (sb 37 rfl (sb 36 rfl (sb 4 rfl (sb 0 rfl (sb 3 rfl sb0)))))))
          refine QF.mv rfl rfl ?_
          refine QF.cutv 7 49 (.bool (((decide (z21 < 97)) || (decide (122 < z21))) && ((decide (z21 < 48)) || (decide (57 < z21))))) ?_ ?_
          · cases c24 : ((decide (z21 < 97)) || (decide (122 < z21)))
            · skip
              refine QF.gnF rfl rfl rfl rfl rfl ?_
              refine QF.gnF rfl rfl rfl rfl rfl ?_
              refine QF.gnF rfl rfl rfl rfl rfl ?_
              refine QF.gnu rfl rfl rfl rfl rfl ?_
              refine QF.gnu rfl rfl rfl rfl rfl ?_
              refine QF.gnF rfl rfl rfl rfl rfl ?_
              refine QF.pick rfl rfl rfl ?_
              exact QF.cutn (sb 49 rfl (sb 42 rfl (sb 41 rfl (sb 38 rfl (sb 37 rfl (sb 36 rfl (sb 4 rfl (sb 0 rfl (sb 3 rfl sb0)))))))))
            · skip
              refine QF.gy rfl rfl rfl ?_
              refine QF.mv rfl rfl ?_
              refine QF.gy rfl rfl rfl ?_
              refine QF.lss rfl rfl rfl ?_
              refine QF.gy rfl rfl rfl ?_
              refine QF.mv rfl rfl ?_
              refine QF.cutv 3 48 (.bool ((decide (z21 < 48)) || (decide (57 < z21)))) ?_ ?_
              · cases c25 : (decide (z21 < 48))
                · skip
                  refine QF.gy rfl rfl rfl ?_
                  refine QF.mv rfl rfl ?_
                  refine QF.gy rfl rfl rfl ?_
                  refine QF.gtr rfl rfl rfl ?_
                  refine QF.gy rfl rfl rfl ?_
                  refine QF.pick rfl rfl rfl ?_
                  exact QF.cutn (sb 48 rfl (sb 45 rfl (sb 44 rfl (sb 43 rfl (sb 42 rfl (sb 41 rfl (sb 38 rfl (sb 37 rfl (sb 36 rfl (sb 4 rfl (sb 0 rfl (sb 3 rfl sb0))))))))))))
                · skip
                  refine QF.gnT rfl rfl rfl rfl rfl ?_
                  refine QF.gnT rfl rfl rfl rfl rfl ?_
                  refine QF.gy rfl rfl rfl ?_
                  refine QF.pick rfl rfl rfl ?_
                  exact QF.cutn (sb 48 rfl (sb 45 rfl (sb 44 rfl (sb 43 rfl (sb 42 rfl (sb 41 rfl (sb 38 rfl (sb 37 rfl (sb 36 rfl (sb 4 rfl (sb 0 rfl (sb 3 rfl sb0))))))))))))
              refine QF.pick rfl rfl rfl ?_
              exact QF.cutn (sb 49 rfl (sb 42 rfl (sb 41 rfl (sb 38 rfl (sb 37 rfl (sb 36 rfl (sb 4 rfl (sb 0 rfl (sb 3 rfl sb0)))))))))
          refine QF.mv rfl rfl ?_
          refine QF.cutv 3 53 (.bool ((((decide (z21 < 97)) || (decide (122 < z21))) && ((decide (z21 < 48)) || (decide (57 < z21)))) && (decide (z21 ≠ 95)))) ?_ ?_
          · cases c26 : (((decide (z21 < 97)) || (decide (122 < z21))) && ((decide (z21 < 48)) || (decide (57 < z21))))
            · skip
              refine QF.gnF rfl rfl rfl rfl rfl ?_
              refine QF.gnF rfl rfl rfl rfl rfl ?_
              refine QF.pick rfl rfl rfl ?_
              exact QF.cutn (sb 53 rfl (sb 50 rfl (sb 49 rfl (sb 42 rfl (sb 41 rfl (sb 38 rfl (sb 37 rfl (sb 36 rfl (sb 4 rfl (sb 0 rfl (sb 3 rfl sb0)))))))))))
            · skip
              refine QF.gy rfl rfl rfl ?_
              refine QF.mv rfl rfl ?_
              refine QF.gy rfl rfl rfl ?_
              refine QF.neq rfl rfl rfl ?_
              refine QF.pick rfl rfl rfl ?_
              exact QF.cutn (sb 53 rfl (sb 50 rfl (sb 49 rfl (sb 42 rfl (sb 41 rfl (sb 38 rfl (sb 37 rfl (sb 36 rfl (sb 4 rfl (sb 0 rfl (sb 3 rfl sb0)))))))))))
          refine QF.rpn (sb 53 rfl (sb 0 rfl (sb 3 rfl sb0))) ?_
          refine WF.if_ rfl (fun c27 => ?_) (fun c27 => ?_)
          · skip
            have E := cdT c27 E
            refine WF.seq ?_
            refine WF.rp (.inl rfl) ?_
            refine QF.as_ rfl rfl ?_
            refine QF.rpn (sb 2 rfl sb0) ?_
            refine WF.ret (fun aa ww hf hw => ?_)
            cases E
            exact rtg hf rfl hw (rvc (rvT hf (v := _) rfl) rv0) rfl e19 ⟨rfl, hs18⟩
          · skip
            have E := cdF c27 E
            refine WF.skip ?_
            refine WF.nilW ?_
            refine WF.rp (.inl rfl) ?_
            refine QF.mv rfl rfl ?_
            refine QF.addw rfl rfl rfl ?_
            refine QF.as_ rfl rfl ?_
            refine QF.rpn (sb 3 rfl (sb 0 rfl sb0)) ?_
            refine WF.nil (fun aa ww hf hw => ?_)
            exact ⟨(w64 (i14 + 1)), _, _, hf.sub (sb 0 rfl (sb 3 rfl sb0)), hw, hs18, e19, (w64_i _), E⟩
        · skip
          have E := cdF c20 E
          refine WF.exit rfl (fun aa ww hf hw => ?_)
          exact ⟨_, _, hf.sub sb0, hw, hs18, e19, E⟩
    · skip
      rintro aa ww ⟨S28, h29, hf, hw, hs30, e31, E⟩
      refine WF.run ?_ hf hw
      clear hf hw ww aa
      rw [f_basin_isName_j0] at E
      refine WF.seq ?_
      refine WF.rp (.inl rfl) ?_
      refine QF.as_ rfl rfl ?_
      refine QF.rpn (sb 2 rfl sb0) ?_
      refine WF.ret (fun aa ww hf hw => ?_)
      cases E
      exact rtg hf rfl hw (rvc (rvT hf (v := _) rfl) rv0) rfl e31 ⟨rfl, hs30⟩

set_option maxRecDepth 10000 in
set_option maxHeartbeats 2000000 in
theorem basin_fresh_ret {N : Nat} {S : Nat → Prop} {L : List HP} {h : Heap} {b_p0_seen : Nat} {p0_seen : (List (Gbasin_mark × Bool))} (hs : St S (MP (fun k : Gbasin_mark => Value.agg (Gbasin_mark.v k).toArray) Value.bool b_p0_seen p0_seen :: L) h) {p1_sort : ByteArray} (h_p1_sort : p1_sort.size ≤ maxLen) {p2_name : ByteArray} (h_p2_name : p2_name.size ≤ maxLen) {r : Bool × (List (Gbasin_mark × Bool))} (E : f_basin_fresh N p0_seen p1_sort p2_name = some r) :
    Ret Try.prog 29 #[.map (some b_p0_seen), .string p1_sort, .string p2_name] S h (fun v S' h' => v = .bool r.1 ∧ St S' (MP (fun k : Gbasin_mark => Value.agg (Gbasin_mark.v k).toArray) Value.bool b_p0_seen r.2 :: L) h') := by
  refine Ret.go (l := [.map (some b_p0_seen), .string p1_sort, .string p2_name]) 23 Try.func29 rfl Try.ntmps29 rfl fun B => ?_
  rw [f_basin_fresh] at E
  refine WF.seq ?_
  refine WF.rp (.inl rfl) ?_
  refine QF.as_ rfl rfl ?_
  refine QF.rpn (sb 0 rfl (sb 1 rfl (sb 2 rfl sb0))) ?_
  refine WF.seq ?_
  refine WF.seq ?_
  refine WF.rp (.inl rfl) ?_
  refine QF.mv rfl rfl ?_
  refine QF.eqstr rfl rfl rfl ?_
  refine QF.rpn (sb 9 rfl (sb 0 rfl (sb 1 rfl (sb 2 rfl sb0)))) ?_
  refine WF.cut (fun a w => ∃ (s1 : ByteArray) (S' : Nat → Prop) (h' : Heap), Fr 23 a [(0, .map (some b_p0_seen)), (2, .string p2_name), (1, .string s1)] ∧ Wd B h' w ∧ St S' (MP (fun k : Gbasin_mark => Value.agg (Gbasin_mark.v k).toArray) Value.bool b_p0_seen p0_seen :: L) h' ∧ Ext S h S' h' ∧ s1.size ≤ maxLen ∧ f_basin_fresh_j0 N p0_seen p2_name s1 = some r) ?_ ?_
  · skip
    refine WF.if_ rfl (fun c3 => ?_) (fun c3 => ?_)
    · skip
      have E := cdT c3 E
      refine WF.rp (.inl rfl) ?_
      refine QF.as_ rfl rfl ?_
      refine QF.rpn (sb 1 rfl (sb 0 rfl (sb 2 rfl sb0))) ?_
      refine WF.nil (fun aa ww hf hw => ?_)
      exact ⟨(ByteArray.mk #[116, 111, 119, 110]), _, _, hf.sub (sb 0 rfl (sb 2 rfl (sb 1 rfl sb0))), hw, hs, (Ext.refl S h), (by decide), E⟩
    · skip
      have E := cdF c3 E
      refine WF.skip ?_
      refine WF.nil (fun aa ww hf hw => ?_)
      exact ⟨p1_sort, _, _, hf.sub (sb 0 rfl (sb 2 rfl (sb 1 rfl sb0))), hw, hs, (Ext.refl S h), h_p1_sort, E⟩
  · skip
    rintro aa ww ⟨s1, S4, h5, hf, hw, hs6, e7, r2, E⟩
    refine WF.run ?_ hf hw
    clear hf hw ww aa
    rw [f_basin_fresh_j0] at E
    refine WF.seq ?_
    refine WF.rl ?_
    refine LF.q 3 ?_
    refine QF.mv rfl rfl ?_
    refine QF.mv rfl rfl ?_
    refine QF.bld (cs := [.string s1, .string p2_name]) st_104 rfl rfl rfl ?_
    refine QF.ln ?_
    refine LF.al zc_104 rfl hs6 fun b8 h9 hs10 e11 => ?_
    refine LF.st (vs := [.string s1, .string p2_name]) (cs' := [.string s1, .string p2_name]) rfl rfl rfl (one_cons rfl (one_cons rfl one_nil)) ty_104 rfl hs10 .head rfl rfl fun h12 hs13 e14 => ?_
    refine LF.nil (sb 7 rfl (sb 0 rfl (sb 2 rfl sb0))) ?_
    refine WF.seq ?_
    refine WF.seq ?_
    refine WF.rc (.inl rfl) hs13 ?_
    refine QF.mv rfl rfl ?_
    obtain ⟨y15, hy15, E⟩ := bd E
    refine QF.callp (v := .bool y15) (Ψ := True) rfl rfl rfl ca_42 rfl (fun h' o => (basin_isName_ret (St.all h') h_p2_name hy15).mono fun _ _ _ _ p => ⟨p.1, trivial⟩) fun r16 => ?_
    refine QF.not rfl rfl ?_
    refine QF.mv rfl rfl ?_
    refine QF.cutv 4 20 (.bool ((!y15) || ((mget (fun k : Gbasin_mark => Value.agg (Gbasin_mark.v k).toArray) p0_seen (⟨s1, p2_name⟩ : Gbasin_mark)).getD false))) ?_ ?_
    · cases c17 : (!y15)
      · skip
        refine QF.gy rfl rfl rfl ?_
        refine QF.mv rfl rfl ?_
        refine QF.gy rfl rfl rfl ?_
        refine QF.ldo (vs := [.string s1, .string p2_name]) ckC hs13 rfl mh rfl rfl ty_104 rfl rfl ?_
        refine QF.gy rfl rfl rfl ?_
        refine QF.lkp (k0 := (⟨s1, p2_name⟩ : Gbasin_mark)) (z := false) ckC hs13 (mt mh) rfl rfl um_79 kok_104 zv_4 rfl rfl ?_
        refine QF.pick rfl rfl rfl ?_
        exact QF.cutn (sb 20 rfl (sb 16 rfl (sb 15 rfl (sb 14 rfl (sb 13 rfl (sb 7 rfl (sb 0 rfl (sb 2 rfl sb0))))))))
      · skip
        refine QF.gnT rfl rfl rfl rfl rfl ?_
        refine QF.gnT rfl rfl rfl rfl rfl ?_
        refine QF.gnT rfl rfl rfl rfl rfl ?_
        refine QF.pick rfl rfl rfl ?_
        exact QF.cutn (sb 20 rfl (sb 16 rfl (sb 15 rfl (sb 14 rfl (sb 13 rfl (sb 7 rfl (sb 0 rfl (sb 2 rfl sb0))))))))
    refine QF.rcn (sb 20 rfl (sb 7 rfl (sb 0 rfl sb0))) fun h18 hs19 e20 => ?_
    refine WF.if_ rfl (fun c21 => ?_) (fun c21 => ?_)
    · skip
      have E := cdT c21 E
      refine WF.seq ?_
      refine WF.rp (.inl rfl) ?_
      refine QF.as_ rfl rfl ?_
      refine QF.rpn (sb 6 rfl sb0) ?_
      refine WF.ret (fun aa ww hf hw => ?_)
      have hs22 := hs19.pick (.tail .head)
      have hs23 := hs22.drop (.tail .head)
      cases E
      exact rtg hf rfl hw (rvc (rvT hf (v := _) rfl) rv0) rfl (e7.trans (e11.trans (e14.trans e20))) ⟨rfl, hs23⟩
    · skip
      have E := cdF c21 E
      refine WF.skip ?_
      refine WF.seq ?_
      refine WF.rl ?_
      refine LF.q 2 ?_
      refine QF.mv rfl rfl ?_
      refine QF.ldo (vs := [.string s1, .string p2_name]) ckP hs19 rfl mh rfl rfl ty_104 rfl rfl ?_
      refine QF.ln ?_
      refine LF.mup (k0 := (⟨s1, p2_name⟩ : Gbasin_mark)) (x := true) hs19 (.tail .head) rfl rfl rfl um_79 kok_104 fun h24 hs25 e26 => ?_
      refine LF.nil sb0 ?_
      refine WF.seq ?_
      refine WF.rp (.inl rfl) ?_
      refine QF.as_ rfl rfl ?_
      refine QF.rpn (sb 6 rfl sb0) ?_
      refine WF.ret (fun aa ww hf hw => ?_)
      have hs27 := hs25.pick (.tail .head)
      have hs28 := hs27.drop (.tail .head)
      cases E
      exact rtg hf rfl hw (rvc (rvT hf (v := _) rfl) rv0) rfl (e7.trans (e11.trans (e14.trans (e20.trans e26)))) ⟨rfl, hs28⟩

set_option maxRecDepth 10000 in
set_option maxHeartbeats 2000000 in
theorem basin_rightNames_1_ret {N : Nat} {S : Nat → Prop} {L : List HP} {h : Heap} {b_c2_ : Nat} {c2_ : (List (Gbasin_mark × Bool))} {b_c2__0 : Nat} {b_c3_ : Nat} {c3_ : Bool} (hs : St S (Bx b_c2_ 79 [.map (some b_c2__0)] :: MP (fun k : Gbasin_mark => Value.agg (Gbasin_mark.v k).toArray) Value.bool b_c2__0 c2_ :: Bx b_c3_ 4 [.bool c3_] :: L) h) {p0_sort : ByteArray} (h_p0_sort : p0_sort.size ≤ maxLen) {p1_name : ByteArray} (h_p1_name : p1_name.size ≤ maxLen) {r : (List (Gbasin_mark × Bool)) × Bool} (E : f_basin_rightNames_1 N c2_ c3_ p0_sort p1_name = some r) :
    Ret Try.prog 28 #[.string p0_sort, .string p1_name, .pointer (some ⟨b_c2_, 0, none⟩), .pointer (some ⟨b_c3_, 0, none⟩)] S h (fun v S' h' => v = .tuple #[] ∧ St S' (Bx b_c2_ 79 [.map (some b_c2__0)] :: MP (fun k : Gbasin_mark => Value.agg (Gbasin_mark.v k).toArray) Value.bool b_c2__0 r.1 :: Bx b_c3_ 4 [.bool r.2] :: L) h') := by
  refine Ret.go (l := [.string p0_sort, .string p1_name, .pointer (some ⟨b_c2_, 0, none⟩), .pointer (some ⟨b_c3_, 0, none⟩)]) 13 Try.func28 rfl Try.ntmps28 rfl fun B => ?_
  rw [f_basin_rightNames_1] at E
  refine WF.rl ?_
  refine LF.q 3 ?_
  refine QF.ldo (vs := [.map (some b_c2__0)]) ckP hs rfl mh rfl rfl ty_79 rfl rfl ?_
  refine QF.mv rfl rfl ?_
  refine QF.mv rfl rfl ?_
  refine QF.ln ?_
  have hs1 := hs.pick (.tail .head)
  obtain ⟨y2, hy2, E⟩ := bd E
  refine LF.call rfl rfl rfl ca_29 rfl (basin_fresh_ret hs1 h_p0_sort h_p1_name hy2) fun v3 S4 h5 e6 p => ?_
  obtain ⟨rfl, hq7⟩ := p
  refine LF.q 3 ?_
  refine QF.mv rfl rfl ?_
  refine QF.cutv 2 12 (.bool (y2.1 && c3_)) ?_ ?_
  · cases c8 : y2.1
    · skip
      refine QF.gnF rfl rfl rfl rfl rfl ?_
      refine QF.pick rfl rfl rfl ?_
      exact QF.cutn (sb 12 rfl (sb 10 rfl (sb 9 rfl (sb 8 rfl (sb 7 rfl (sb 6 rfl (sb 0 rfl (sb 1 rfl (sb 2 rfl (sb 3 rfl sb0))))))))))
    · skip
      refine QF.gy rfl rfl rfl ?_
      refine QF.ldo (vs := [.bool c3_]) ckP hq7 rfl (mt (mt mh)) rfl rfl ty_4 rfl rfl ?_
      refine QF.pick rfl rfl rfl ?_
      exact QF.cutn (sb 12 rfl (sb 10 rfl (sb 9 rfl (sb 8 rfl (sb 7 rfl (sb 6 rfl (sb 0 rfl (sb 1 rfl (sb 2 rfl (sb 3 rfl sb0))))))))))
  refine QF.ln ?_
  refine LF.st (vs := [.bool (y2.1 && c3_)]) (cs' := [.bool (y2.1 && c3_)]) rfl rfl rfl (one_cons rfl one_nil) ty_4 rfl hq7 (.tail (.tail .head)) rfl rfl fun h9 hs10 e11 => ?_
  refine LF.nil sb0 ?_
  refine WF.nil (fun aa ww hf hw => ?_)
  have hs12 := hs10.pick (.tail (.tail .head))
  have hs13 := hs12.pick (.tail .head)
  have hs14 := hs13.pick (.tail (.tail .head))
  cases E
  exact rtg hf rfl hw rv0 rfl (e6.trans e11) ⟨rfl, hs14⟩

set_option maxRecDepth 10000 in
set_option maxHeartbeats 2000000 in
theorem basin_rightNames_ret {N : Nat} {S : Nat → Prop} {L : List HP} {h : Heap} (hs : St S L h) {v_p0_b : Value} {p0_b : GBasin} (h_p0_b : Rd S h RGBasin v_p0_b p0_b) {r : Bool} (E : f_basin_rightNames N p0_b = some r) :
    Ret Try.prog 12 #[v_p0_b] S h (fun v S' h' => v = .bool r ∧ St S' (L) h') := by
  refine Ret.go (l := [v_p0_b]) 106 Try.func12 rfl Try.ntmps12 rfl fun B => ?_
  rw [f_basin_rightNames] at E
  refine WF.seq ?_
  refine WF.rl ?_
  refine LF.boxp rfl h_p0_b (fun e => by cases e) rfl hs fun q1 S2 h3 hs4 e5 k6 => ?_
  refine LF.q 1 ?_
  refine QF.as_ rfl rfl ?_
  refine QF.ln ?_
  refine LF.nil (sb 1 rfl sb0) ?_
  refine WF.seq ?_
  refine WF.rl ?_
  refine LF.mkm (K := 0) (E := 0) rfl hs4 (fun k : Gbasin_mark => Value.agg (Gbasin_mark.v k).toArray) Value.bool fun b7 h8 hs9 e10 => ?_
  refine LF.al zc_79 rfl hs9 fun b11 h12 hs13 e14 => ?_
  refine LF.st (vs := [.map (some b7)]) (cs' := [.map (some b7)]) rfl rfl rfl (one_cons rfl one_nil) ty_79 rfl hs13 .head rfl rfl fun h15 hs16 e17 => ?_
  refine LF.nil (sb 3 rfl (sb 1 rfl sb0)) ?_
  refine WF.seq ?_
  refine WF.rl ?_
  refine LF.al zc_4 rfl hs16 fun b18 h19 hs20 e21 => ?_
  refine LF.st (vs := [.bool true]) (cs' := [.bool true]) rfl rfl rfl (one_cons rfl one_nil) ty_4 rfl hs20 .head rfl rfl fun h22 hs23 e24 => ?_
  refine LF.nil (sb 4 rfl (sb 3 rfl (sb 1 rfl sb0))) ?_
  refine WF.seq ?_
  refine WF.rp (.inl rfl) ?_
  refine QF.mkf rfl rfl rfl ?_
  refine QF.as_ rfl rfl ?_
  refine QF.rpn (sb 5 rfl (sb 4 rfl (sb 1 rfl sb0))) ?_
  refine WF.seq ?_
  refine WF.seq ?_
  refine WF.rp (.inl rfl) ?_
  have k25 := k6.mono (e10.trans (e14.trans (e17.trans (e21.trans e24))))
  refine QF.fa rfl k25 GBasin.f_Owners fa_31_1 rfl fun q26 k27 => ?_
  refine QF.ldl ckP hs23.1 rfl k27 ty_22 rfl fun v28 k29 => ?_
  refine QF.len rfl k29 sl_22 rfl fun b30 => ?_
  unfold maxLen at b30
  refine QF.mv rfl rfl ?_
  refine QF.rpn (sb 25 rfl (sb 24 rfl (sb 23 rfl (sb 5 rfl (sb 4 rfl (sb 1 rfl sb0)))))) ?_
  refine WF.blockJ (fun a w => ∃ (b31 : Bool) (l32 : (List (Gbasin_mark × Bool))) (S' : Nat → Prop) (h' : Heap), Fr 106 a [(5, .func (.func 28) #[] #[.pointer (some ⟨b11, 0, none⟩), .pointer (some ⟨b18, 0, none⟩)]), (4, .pointer (some ⟨b18, 0, none⟩)), (1, q1)] ∧ Wd B h' w ∧ St S' (Bx b18 4 [.bool b31] :: Bx b11 79 [.map (some b7)] :: MP (fun k : Gbasin_mark => Value.agg (Gbasin_mark.v k).toArray) Value.bool b7 l32 :: L) h' ∧ Ext S2 h22 S' h' ∧ f_basin_rightNames_j0 N p0_b b31 l32 = some r) ?_ ?_
  · skip
    refine WF.loopF (fun n1 => fun a w => ∃ (i37 : Int) (b39 : Bool) (l40 : (List (Gbasin_mark × Bool))) (S' : Nat → Prop) (h' : Heap), Fr 106 a [(24, .int .i64 (↑p0_b.Owners.length : Int)), (23, v28), (5, .func (.func 28) #[] #[.pointer (some ⟨b11, 0, none⟩), .pointer (some ⟨b18, 0, none⟩)]), (4, .pointer (some ⟨b18, 0, none⟩)), (1, q1), (25, .int .i64 i37)] ∧ Wd B h' w ∧ St S' (Bx b18 4 [.bool b39] :: Bx b11 79 [.map (some b7)] :: MP (fun k : Gbasin_mark => Value.agg (Gbasin_mark.v k).toArray) Value.bool b7 l40 :: L) h' ∧ Ext S2 h22 S' h' ∧ inI64 i37 ∧ f_basin_rightNames_l1 N p0_b (f_basin_rightNames_j0 N p0_b) n1 i37 b39 l40 = some r) N ?_ ?_ ?_
    · intro aa ww hf hw
      exact ⟨0, true, ([] : (List (Gbasin_mark × Bool))), _, _, hf.sub (sb 24 rfl (sb 23 rfl (sb 5 rfl (sb 4 rfl (sb 1 rfl (sb 25 rfl sb0)))))), hw, hs23, (Ext.refl S2 h22), (show inI64 0 by unfold inI64; omega), E⟩
    · rintro aa ww ⟨_, _, _, _, _, _, _, _, _, _, E⟩
      rw [f_basin_rightNames_l1] at E; cases E
    · skip
      rintro n1 aa ww ⟨i37, b39, l40, S41, h42, hf, hw, hs43, e44, r38, E⟩
      refine WF.run ?_ hf hw
      clear hf hw ww aa
      rw [f_basin_rightNames_l1] at E
      refine WF.seq ?_
      refine WF.rp (.inl rfl) ?_
      refine QF.lss rfl rfl rfl ?_
      refine QF.rpn (sb 26 rfl (sb 24 rfl (sb 23 rfl (sb 5 rfl (sb 4 rfl (sb 1 rfl (sb 25 rfl sb0))))))) ?_
      refine WF.seq ?_
      refine WF.if_ rfl (fun c45 => ?_) (fun c45 => ?_)
      · skip
        have E := cdT c45 E
        refine WF.skip ?_
        refine WF.seq ?_
        refine WF.block ?_
        refine WF.seq ?_
        refine WF.rp (.inl rfl) ?_
        have k46 := k29.mono' e44
        obtain ⟨x47, hx47, E⟩ := bd E
        refine QF.ixe rfl rfl k46 sl_22 hx47 rfl fun q48 k49 => ?_
        refine QF.lds ckP hs43.1 rfl k49 ty_9 rfl fun r50 => ?_
        refine QF.as_ rfl rfl ?_
        refine QF.rpn (sb 7 rfl (sb 24 rfl (sb 23 rfl (sb 5 rfl (sb 4 rfl (sb 1 rfl (sb 25 rfl sb0))))))) ?_
        refine WF.rl ?_
        refine LF.q 2 ?_
        refine QF.mv rfl rfl ?_
        refine QF.mv rfl rfl ?_
        refine QF.ln ?_
        have hs51 := hs43.pick (.tail (.tail .head))
        have hs52 := hs51.pick (.tail (.tail .head))
        obtain ⟨y53, hy53, E⟩ := bd E
        refine LF.call rfl rfl rfl ca_28 rfl (basin_rightNames_1_ret hs52 (by decide) r50 hy53) fun v54 S55 h56 e57 p => ?_
        obtain ⟨rfl, hq58⟩ := p
        refine LF.nil (sb 24 rfl (sb 23 rfl (sb 5 rfl (sb 4 rfl (sb 1 rfl (sb 25 rfl sb0)))))) ?_
        refine WF.nilW ?_
        refine WF.rp (.inl rfl) ?_
        refine QF.addw rfl rfl rfl ?_
        refine QF.mv rfl rfl ?_
        refine QF.rpn (sb 25 rfl (sb 24 rfl (sb 23 rfl (sb 5 rfl (sb 4 rfl (sb 1 rfl sb0)))))) ?_
        refine WF.nil (fun aa ww hf hw => ?_)
        have hs59 := hq58.pick (.tail .head)
        have hs60 := hs59.pick (.tail .head)
        have hs61 := hs60.pick (.tail (.tail .head))
        exact ⟨(w64 (i37 + 1)), y53.2, y53.1, _, _, hf.sub (sb 24 rfl (sb 23 rfl (sb 5 rfl (sb 4 rfl (sb 1 rfl (sb 25 rfl sb0)))))), hw, hs61, (e44.trans e57), (w64_i _), E⟩
      · skip
        have E := cdF c45 E
        refine WF.exit rfl (fun aa ww hf hw => ?_)
        exact ⟨b39, l40, _, _, hf.sub (sb 5 rfl (sb 4 rfl (sb 1 rfl sb0))), hw, hs43, e44, E⟩
  · skip
    rintro aa ww ⟨b31, l32, S62, h63, hf, hw, hs64, e65, E⟩
    refine WF.run ?_ hf hw
    clear hf hw ww aa
    rw [f_basin_rightNames_j0] at E
    refine WF.seq ?_
    refine WF.seq ?_
    refine WF.rp (.inl rfl) ?_
    have k66 := k25.mono e65
    refine QF.fa rfl k66 GBasin.f_Places fa_31_3 rfl fun q67 k68 => ?_
    refine QF.ldl ckP hs64.1 rfl k68 ty_23 rfl fun v69 k70 => ?_
    refine QF.len rfl k70 sl_23 rfl fun b71 => ?_
    unfold maxLen at b71
    refine QF.mv rfl rfl ?_
    refine QF.rpn (sb 36 rfl (sb 35 rfl (sb 34 rfl (sb 5 rfl (sb 4 rfl (sb 1 rfl sb0)))))) ?_
    refine WF.blockJ (fun a w => ∃ (b72 : Bool) (l73 : (List (Gbasin_mark × Bool))) (S' : Nat → Prop) (h' : Heap), Fr 106 a [(5, .func (.func 28) #[] #[.pointer (some ⟨b11, 0, none⟩), .pointer (some ⟨b18, 0, none⟩)]), (4, .pointer (some ⟨b18, 0, none⟩)), (1, q1)] ∧ Wd B h' w ∧ St S' (Bx b18 4 [.bool b72] :: Bx b11 79 [.map (some b7)] :: MP (fun k : Gbasin_mark => Value.agg (Gbasin_mark.v k).toArray) Value.bool b7 l73 :: L) h' ∧ Ext S62 h63 S' h' ∧ f_basin_rightNames_j2 N p0_b b72 l73 = some r) ?_ ?_
    · skip
      refine WF.loopF (fun n3 => fun a w => ∃ (i78 : Int) (b80 : Bool) (l81 : (List (Gbasin_mark × Bool))) (S' : Nat → Prop) (h' : Heap), Fr 106 a [(35, .int .i64 (↑p0_b.Places.length : Int)), (34, v69), (5, .func (.func 28) #[] #[.pointer (some ⟨b11, 0, none⟩), .pointer (some ⟨b18, 0, none⟩)]), (4, .pointer (some ⟨b18, 0, none⟩)), (1, q1), (36, .int .i64 i78)] ∧ Wd B h' w ∧ St S' (Bx b18 4 [.bool b80] :: Bx b11 79 [.map (some b7)] :: MP (fun k : Gbasin_mark => Value.agg (Gbasin_mark.v k).toArray) Value.bool b7 l81 :: L) h' ∧ Ext S62 h63 S' h' ∧ inI64 i78 ∧ f_basin_rightNames_l3 N p0_b (f_basin_rightNames_j2 N p0_b) n3 i78 b80 l81 = some r) N ?_ ?_ ?_
      · intro aa ww hf hw
        exact ⟨0, b31, l32, _, _, hf.sub (sb 35 rfl (sb 34 rfl (sb 5 rfl (sb 4 rfl (sb 1 rfl (sb 36 rfl sb0)))))), hw, hs64, (Ext.refl S62 h63), (show inI64 0 by unfold inI64; omega), E⟩
      · rintro aa ww ⟨_, _, _, _, _, _, _, _, _, _, E⟩
        rw [f_basin_rightNames_l3] at E; cases E
      · skip
        rintro n3 aa ww ⟨i78, b80, l81, S82, h83, hf, hw, hs84, e85, r79, E⟩
        refine WF.run ?_ hf hw
        clear hf hw ww aa
        rw [f_basin_rightNames_l3] at E
        refine WF.seq ?_
        refine WF.rp (.inl rfl) ?_
        refine QF.lss rfl rfl rfl ?_
        refine QF.rpn (sb 37 rfl (sb 35 rfl (sb 34 rfl (sb 5 rfl (sb 4 rfl (sb 1 rfl (sb 36 rfl sb0))))))) ?_
        refine WF.seq ?_
        refine WF.if_ rfl (fun c86 => ?_) (fun c86 => ?_)
        · skip
          have E := cdT c86 E
          refine WF.skip ?_
          refine WF.seq ?_
          refine WF.block ?_
          refine WF.seq ?_
          refine WF.rl ?_
          refine LF.q 2 ?_
          have k87 := k70.mono' e85
          obtain ⟨x88, hx88, E⟩ := bd E
          refine QF.ixe rfl rfl k87 sl_23 hx88 rfl fun q89 k90 => ?_
          refine QF.ld ckP hs84.1 rfl k90 ty_70 (fun e => by cases e) rfl fun v91 k92 => ?_
          refine QF.ln ?_
          refine LF.al zc_70 rfl hs84 fun b93 h94 hs95 e96 => ?_
          have k97 := k92.mono e96
          obtain ⟨v103, v105, v112, rfl, r99, r100, r101, r102, k104, k106, r107, r108, r109, r110, r111, k113⟩ := RGPlace.ex k97
          refine LF.st (vs := [.string x88.Name, .int .i64 x88.Kind, .int .i64 x88.Office, .int .i64 x88.Cap, v103, v105, .int .i64 x88.Num, .int .i64 x88.Den, .int .i64 x88.Down, .int .i64 x88.Delay, .int .i64 x88.Floor, v112]) (cs' := [.string x88.Name, .int .i64 x88.Kind, .int .i64 x88.Office, .int .i64 x88.Cap, v103, v105, .int .i64 x88.Num, .int .i64 x88.Den, .int .i64 x88.Down, .int .i64 x88.Delay, .int .i64 x88.Floor, v112]) rfl rfl rfl (one_cons rfl (one_cons rfl (one_cons rfl (one_cons rfl (one_cons k104.one (one_cons k106.one (one_cons rfl (one_cons rfl (one_cons rfl (one_cons rfl (one_cons rfl (one_cons k113.one one_nil)))))))))))) ty_70 rfl hs95 .head rfl rfl fun h114 hs115 e116 => ?_
          refine LF.nil (sb 9 rfl (sb 35 rfl (sb 34 rfl (sb 5 rfl (sb 4 rfl (sb 1 rfl (sb 36 rfl sb0))))))) ?_
          refine WF.rl ?_
          refine LF.q 3 ?_
          refine QF.mv rfl rfl ?_
          refine QF.fao rfl fa_70_0 rfl ?_
          refine QF.ldo (vs := [.string x88.Name]) ckP hs115 rfl mh rfl rfl ty_9 rfl rfl ?_
          refine QF.ln ?_
          have hs117 := hs115.pick (.tail .head)
          have hs118 := hs117.pick (.tail (.tail (.tail .head)))
          have hs119 := hs118.pick (.tail (.tail (.tail .head)))
          obtain ⟨y120, hy120, E⟩ := bd E
          refine LF.call rfl rfl rfl ca_28 rfl (basin_rightNames_1_ret hs119 (by decide) r99 hy120) fun v121 S122 h123 e124 p => ?_
          obtain ⟨rfl, hq125⟩ := p
          refine LF.nil (sb 35 rfl (sb 34 rfl (sb 5 rfl (sb 4 rfl (sb 1 rfl (sb 36 rfl sb0)))))) ?_
          refine WF.nilW ?_
          refine WF.rp (.inl rfl) ?_
          refine QF.addw rfl rfl rfl ?_
          refine QF.mv rfl rfl ?_
          refine QF.rpn (sb 36 rfl (sb 35 rfl (sb 34 rfl (sb 5 rfl (sb 4 rfl (sb 1 rfl sb0)))))) ?_
          refine WF.nil (fun aa ww hf hw => ?_)
          have hs126 := hq125.pick (.tail .head)
          have hs127 := hs126.pick (.tail .head)
          have hs128 := hs127.pick (.tail (.tail .head))
          have hs129 := hs128.drop (.tail (.tail (.tail .head)))
          exact ⟨(w64 (i78 + 1)), y120.2, y120.1, _, _, hf.sub (sb 35 rfl (sb 34 rfl (sb 5 rfl (sb 4 rfl (sb 1 rfl (sb 36 rfl sb0)))))), hw, hs129, (e85.trans (e96.trans (e116.trans e124))), (w64_i _), E⟩
        · skip
          have E := cdF c86 E
          refine WF.exit rfl (fun aa ww hf hw => ?_)
          exact ⟨b80, l81, _, _, hf.sub (sb 5 rfl (sb 4 rfl (sb 1 rfl sb0))), hw, hs84, e85, E⟩
    · skip
      rintro aa ww ⟨b72, l73, S130, h131, hf, hw, hs132, e133, E⟩
      refine WF.run ?_ hf hw
      clear hf hw ww aa
      rw [f_basin_rightNames_j2] at E
      refine WF.seq ?_
      refine WF.seq ?_
      refine WF.rp (.inl rfl) ?_
      have k134 := k66.mono e133
      refine QF.fa rfl k134 GBasin.f_Links fa_31_4 rfl fun q135 k136 => ?_
      refine QF.ldl ckP hs132.1 rfl k136 ty_24 rfl fun v137 k138 => ?_
      refine QF.len rfl k138 sl_24 rfl fun b139 => ?_
      unfold maxLen at b139
      refine QF.mv rfl rfl ?_
      refine QF.rpn (sb 48 rfl (sb 47 rfl (sb 46 rfl (sb 5 rfl (sb 4 rfl (sb 1 rfl sb0)))))) ?_
      refine WF.blockJ (fun a w => ∃ (b140 : Bool) (l141 : (List (Gbasin_mark × Bool))) (S' : Nat → Prop) (h' : Heap), Fr 106 a [(5, .func (.func 28) #[] #[.pointer (some ⟨b11, 0, none⟩), .pointer (some ⟨b18, 0, none⟩)]), (4, .pointer (some ⟨b18, 0, none⟩)), (1, q1)] ∧ Wd B h' w ∧ St S' (Bx b18 4 [.bool b140] :: Bx b11 79 [.map (some b7)] :: MP (fun k : Gbasin_mark => Value.agg (Gbasin_mark.v k).toArray) Value.bool b7 l141 :: L) h' ∧ Ext S130 h131 S' h' ∧ f_basin_rightNames_j4 N p0_b b140 l141 = some r) ?_ ?_
      · skip
        refine WF.loopF (fun n5 => fun a w => ∃ (i146 : Int) (b148 : Bool) (l149 : (List (Gbasin_mark × Bool))) (S' : Nat → Prop) (h' : Heap), Fr 106 a [(47, .int .i64 (↑p0_b.Links.length : Int)), (46, v137), (5, .func (.func 28) #[] #[.pointer (some ⟨b11, 0, none⟩), .pointer (some ⟨b18, 0, none⟩)]), (4, .pointer (some ⟨b18, 0, none⟩)), (1, q1), (48, .int .i64 i146)] ∧ Wd B h' w ∧ St S' (Bx b18 4 [.bool b148] :: Bx b11 79 [.map (some b7)] :: MP (fun k : Gbasin_mark => Value.agg (Gbasin_mark.v k).toArray) Value.bool b7 l149 :: L) h' ∧ Ext S130 h131 S' h' ∧ inI64 i146 ∧ f_basin_rightNames_l5 N p0_b (f_basin_rightNames_j4 N p0_b) n5 i146 b148 l149 = some r) N ?_ ?_ ?_
        · intro aa ww hf hw
          exact ⟨0, b72, l73, _, _, hf.sub (sb 47 rfl (sb 46 rfl (sb 5 rfl (sb 4 rfl (sb 1 rfl (sb 48 rfl sb0)))))), hw, hs132, (Ext.refl S130 h131), (show inI64 0 by unfold inI64; omega), E⟩
        · rintro aa ww ⟨_, _, _, _, _, _, _, _, _, _, E⟩
          rw [f_basin_rightNames_l5] at E; cases E
        · skip
          rintro n5 aa ww ⟨i146, b148, l149, S150, h151, hf, hw, hs152, e153, r147, E⟩
          refine WF.run ?_ hf hw
          clear hf hw ww aa
          rw [f_basin_rightNames_l5] at E
          refine WF.seq ?_
          refine WF.rp (.inl rfl) ?_
          refine QF.lss rfl rfl rfl ?_
          refine QF.rpn (sb 49 rfl (sb 47 rfl (sb 46 rfl (sb 5 rfl (sb 4 rfl (sb 1 rfl (sb 48 rfl sb0))))))) ?_
          refine WF.seq ?_
          refine WF.if_ rfl (fun c154 => ?_) (fun c154 => ?_)
          · skip
            have E := cdT c154 E
            refine WF.skip ?_
            refine WF.seq ?_
            refine WF.block ?_
            refine WF.seq ?_
            refine WF.rl ?_
            refine LF.q 2 ?_
            have k155 := k138.mono' e153
            obtain ⟨x156, hx156, E⟩ := bd E
            refine QF.ixe rfl rfl k155 sl_24 hx156 rfl fun q157 k158 => ?_
            refine QF.ld ckP hs152.1 rfl k158 ty_85 (fun e => by cases e) rfl fun v159 k160 => ?_
            refine QF.ln ?_
            refine LF.al zc_85 rfl hs152 fun b161 h162 hs163 e164 => ?_
            have k165 := k160.mono e164
            obtain ⟨v171, v173, v175, rfl, r167, r168, r169, r170, k172, k174, k176, r177, r178, r179, r180, r181, r182, r183, r184, r185, r186, r187⟩ := RGLink.ex k165
            refine LF.st (vs := [.string x156.Name, .int .i64 x156.Kind, .int .i64 x156.From, .int .i64 x156.To, v171, v173, v175, .int .i64 x156.Positions, .int .i64 x156.Speed, .int .i64 x156.Leak, .int .i64 x156.Crest, .int .i64 x156.Num, .int .i64 x156.Den, .int .i64 x156.Prime, .int .i64 x156.Break, .int .i64 x156.BackNum, .int .i64 x156.BackDen, .int .i64 x156.Delay]) (cs' := [.string x156.Name, .int .i64 x156.Kind, .int .i64 x156.From, .int .i64 x156.To, v171, v173, v175, .int .i64 x156.Positions, .int .i64 x156.Speed, .int .i64 x156.Leak, .int .i64 x156.Crest, .int .i64 x156.Num, .int .i64 x156.Den, .int .i64 x156.Prime, .int .i64 x156.Break, .int .i64 x156.BackNum, .int .i64 x156.BackDen, .int .i64 x156.Delay]) rfl rfl rfl (one_cons rfl (one_cons rfl (one_cons rfl (one_cons rfl (one_cons k172.one (one_cons k174.one (one_cons k176.one (one_cons rfl (one_cons rfl (one_cons rfl (one_cons rfl (one_cons rfl (one_cons rfl (one_cons rfl (one_cons rfl (one_cons rfl (one_cons rfl (one_cons rfl one_nil)))))))))))))))))) ty_85 rfl hs163 .head rfl rfl fun h188 hs189 e190 => ?_
            refine LF.nil (sb 11 rfl (sb 47 rfl (sb 46 rfl (sb 5 rfl (sb 4 rfl (sb 1 rfl (sb 48 rfl sb0))))))) ?_
            refine WF.rl ?_
            refine LF.q 3 ?_
            refine QF.mv rfl rfl ?_
            refine QF.fao rfl fa_85_0 rfl ?_
            refine QF.ldo (vs := [.string x156.Name]) ckP hs189 rfl mh rfl rfl ty_9 rfl rfl ?_
            refine QF.ln ?_
            have hs191 := hs189.pick (.tail .head)
            have hs192 := hs191.pick (.tail (.tail (.tail .head)))
            have hs193 := hs192.pick (.tail (.tail (.tail .head)))
            obtain ⟨y194, hy194, E⟩ := bd E
            refine LF.call rfl rfl rfl ca_28 rfl (basin_rightNames_1_ret hs193 (by decide) r167 hy194) fun v195 S196 h197 e198 p => ?_
            obtain ⟨rfl, hq199⟩ := p
            refine LF.nil (sb 47 rfl (sb 46 rfl (sb 5 rfl (sb 4 rfl (sb 1 rfl (sb 48 rfl sb0)))))) ?_
            refine WF.nilW ?_
            refine WF.rp (.inl rfl) ?_
            refine QF.addw rfl rfl rfl ?_
            refine QF.mv rfl rfl ?_
            refine QF.rpn (sb 48 rfl (sb 47 rfl (sb 46 rfl (sb 5 rfl (sb 4 rfl (sb 1 rfl sb0)))))) ?_
            refine WF.nil (fun aa ww hf hw => ?_)
            have hs200 := hq199.pick (.tail .head)
            have hs201 := hs200.pick (.tail .head)
            have hs202 := hs201.pick (.tail (.tail .head))
            have hs203 := hs202.drop (.tail (.tail (.tail .head)))
            exact ⟨(w64 (i146 + 1)), y194.2, y194.1, _, _, hf.sub (sb 47 rfl (sb 46 rfl (sb 5 rfl (sb 4 rfl (sb 1 rfl (sb 48 rfl sb0)))))), hw, hs203, (e153.trans (e164.trans (e190.trans e198))), (w64_i _), E⟩
          · skip
            have E := cdF c154 E
            refine WF.exit rfl (fun aa ww hf hw => ?_)
            exact ⟨b148, l149, _, _, hf.sub (sb 5 rfl (sb 4 rfl (sb 1 rfl sb0))), hw, hs152, e153, E⟩
      · skip
        rintro aa ww ⟨b140, l141, S204, h205, hf, hw, hs206, e207, E⟩
        refine WF.run ?_ hf hw
        clear hf hw ww aa
        rw [f_basin_rightNames_j4] at E
        refine WF.seq ?_
        refine WF.seq ?_
        refine WF.rp (.inl rfl) ?_
        have k208 := k134.mono e207
        refine QF.fa rfl k208 GBasin.f_Towns fa_31_5 rfl fun q209 k210 => ?_
        refine QF.ldl ckP hs206.1 rfl k210 ty_25 rfl fun v211 k212 => ?_
        refine QF.len rfl k212 sl_25 rfl fun b213 => ?_
        unfold maxLen at b213
        refine QF.mv rfl rfl ?_
        refine QF.rpn (sb 60 rfl (sb 59 rfl (sb 58 rfl (sb 5 rfl (sb 4 rfl (sb 1 rfl sb0)))))) ?_
        refine WF.blockJ (fun a w => ∃ (b214 : Bool) (l215 : (List (Gbasin_mark × Bool))) (S' : Nat → Prop) (h' : Heap), Fr 106 a [(5, .func (.func 28) #[] #[.pointer (some ⟨b11, 0, none⟩), .pointer (some ⟨b18, 0, none⟩)]), (4, .pointer (some ⟨b18, 0, none⟩)), (1, q1)] ∧ Wd B h' w ∧ St S' (Bx b18 4 [.bool b214] :: Bx b11 79 [.map (some b7)] :: MP (fun k : Gbasin_mark => Value.agg (Gbasin_mark.v k).toArray) Value.bool b7 l215 :: L) h' ∧ Ext S204 h205 S' h' ∧ f_basin_rightNames_j6 N p0_b b214 l215 = some r) ?_ ?_
        · skip
          refine WF.loopF (fun n7 => fun a w => ∃ (i220 : Int) (b222 : Bool) (l223 : (List (Gbasin_mark × Bool))) (S' : Nat → Prop) (h' : Heap), Fr 106 a [(59, .int .i64 (↑p0_b.Towns.length : Int)), (58, v211), (5, .func (.func 28) #[] #[.pointer (some ⟨b11, 0, none⟩), .pointer (some ⟨b18, 0, none⟩)]), (4, .pointer (some ⟨b18, 0, none⟩)), (1, q1), (60, .int .i64 i220)] ∧ Wd B h' w ∧ St S' (Bx b18 4 [.bool b222] :: Bx b11 79 [.map (some b7)] :: MP (fun k : Gbasin_mark => Value.agg (Gbasin_mark.v k).toArray) Value.bool b7 l223 :: L) h' ∧ Ext S204 h205 S' h' ∧ inI64 i220 ∧ f_basin_rightNames_l7 N p0_b (f_basin_rightNames_j6 N p0_b) n7 i220 b222 l223 = some r) N ?_ ?_ ?_
          · intro aa ww hf hw
            exact ⟨0, b140, l141, _, _, hf.sub (sb 59 rfl (sb 58 rfl (sb 5 rfl (sb 4 rfl (sb 1 rfl (sb 60 rfl sb0)))))), hw, hs206, (Ext.refl S204 h205), (show inI64 0 by unfold inI64; omega), E⟩
          · rintro aa ww ⟨_, _, _, _, _, _, _, _, _, _, E⟩
            rw [f_basin_rightNames_l7] at E; cases E
          · skip
            rintro n7 aa ww ⟨i220, b222, l223, S224, h225, hf, hw, hs226, e227, r221, E⟩
            refine WF.run ?_ hf hw
            clear hf hw ww aa
            rw [f_basin_rightNames_l7] at E
            refine WF.seq ?_
            refine WF.rp (.inl rfl) ?_
            refine QF.lss rfl rfl rfl ?_
            refine QF.rpn (sb 61 rfl (sb 59 rfl (sb 58 rfl (sb 5 rfl (sb 4 rfl (sb 1 rfl (sb 60 rfl sb0))))))) ?_
            refine WF.seq ?_
            refine WF.if_ rfl (fun c228 => ?_) (fun c228 => ?_)
            · skip
              have E := cdT c228 E
              refine WF.skip ?_
              refine WF.seq ?_
              refine WF.block ?_
              refine WF.seq ?_
              refine WF.rl ?_
              refine LF.q 2 ?_
              have k229 := k212.mono' e227
              obtain ⟨x230, hx230, E⟩ := bd E
              refine QF.ixe rfl rfl k229 sl_25 hx230 rfl fun q231 k232 => ?_
              refine QF.ld ckP hs226.1 rfl k232 ty_41 (fun e => by cases e) rfl fun v233 k234 => ?_
              refine QF.ln ?_
              refine LF.al zc_41 rfl hs226 fun b235 h236 hs237 e238 => ?_
              have k239 := k234.mono e238
              obtain ⟨rfl, ⟨r241, r242, r243, r244, r245, r246, r247⟩⟩ := RGTown.ex k239
              refine LF.st (vs := [.string x230.Name, .int .i64 x230.Place, .int .i64 x230.Flood, .int .i64 x230.Lead, .int .i64 x230.People, .int .i64 x230.Watch, .int .i64 x230.Quorum]) (cs' := [.string x230.Name, .int .i64 x230.Place, .int .i64 x230.Flood, .int .i64 x230.Lead, .int .i64 x230.People, .int .i64 x230.Watch, .int .i64 x230.Quorum]) rfl rfl rfl (one_cons rfl (one_cons rfl (one_cons rfl (one_cons rfl (one_cons rfl (one_cons rfl (one_cons rfl one_nil))))))) ty_41 rfl hs237 .head rfl rfl fun h248 hs249 e250 => ?_
              refine LF.nil (sb 13 rfl (sb 59 rfl (sb 58 rfl (sb 5 rfl (sb 4 rfl (sb 1 rfl (sb 60 rfl sb0))))))) ?_
              refine WF.rl ?_
              refine LF.q 3 ?_
              refine QF.mv rfl rfl ?_
              refine QF.fao rfl fa_41_0 rfl ?_
              refine QF.ldo (vs := [.string x230.Name]) ckP hs249 rfl mh rfl rfl ty_9 rfl rfl ?_
              refine QF.ln ?_
              have hs251 := hs249.pick (.tail .head)
              have hs252 := hs251.pick (.tail (.tail (.tail .head)))
              have hs253 := hs252.pick (.tail (.tail (.tail .head)))
              obtain ⟨y254, hy254, E⟩ := bd E
              refine LF.call rfl rfl rfl ca_28 rfl (basin_rightNames_1_ret hs253 (by decide) r241 hy254) fun v255 S256 h257 e258 p => ?_
              obtain ⟨rfl, hq259⟩ := p
              refine LF.nil (sb 59 rfl (sb 58 rfl (sb 5 rfl (sb 4 rfl (sb 1 rfl (sb 60 rfl sb0)))))) ?_
              refine WF.nilW ?_
              refine WF.rp (.inl rfl) ?_
              refine QF.addw rfl rfl rfl ?_
              refine QF.mv rfl rfl ?_
              refine QF.rpn (sb 60 rfl (sb 59 rfl (sb 58 rfl (sb 5 rfl (sb 4 rfl (sb 1 rfl sb0)))))) ?_
              refine WF.nil (fun aa ww hf hw => ?_)
              have hs260 := hq259.pick (.tail .head)
              have hs261 := hs260.pick (.tail .head)
              have hs262 := hs261.pick (.tail (.tail .head))
              have hs263 := hs262.drop (.tail (.tail (.tail .head)))
              exact ⟨(w64 (i220 + 1)), y254.2, y254.1, _, _, hf.sub (sb 59 rfl (sb 58 rfl (sb 5 rfl (sb 4 rfl (sb 1 rfl (sb 60 rfl sb0)))))), hw, hs263, (e227.trans (e238.trans (e250.trans e258))), (w64_i _), E⟩
            · skip
              have E := cdF c228 E
              refine WF.exit rfl (fun aa ww hf hw => ?_)
              exact ⟨b222, l223, _, _, hf.sub (sb 5 rfl (sb 4 rfl (sb 1 rfl sb0))), hw, hs226, e227, E⟩
        · skip
          rintro aa ww ⟨b214, l215, S264, h265, hf, hw, hs266, e267, E⟩
          refine WF.run ?_ hf hw
          clear hf hw ww aa
          rw [f_basin_rightNames_j6] at E
          refine WF.seq ?_
          refine WF.seq ?_
          refine WF.rp (.inl rfl) ?_
          have k268 := k208.mono e267
          refine QF.fa rfl k268 GBasin.f_Shelters fa_31_8 rfl fun q269 k270 => ?_
          refine QF.ldl ckP hs266.1 rfl k270 ty_28 rfl fun v271 k272 => ?_
          refine QF.len rfl k272 sl_28 rfl fun b273 => ?_
          unfold maxLen at b273
          refine QF.mv rfl rfl ?_
          refine QF.rpn (sb 72 rfl (sb 71 rfl (sb 70 rfl (sb 5 rfl (sb 4 rfl (sb 1 rfl sb0)))))) ?_
          refine WF.blockJ (fun a w => ∃ (b274 : Bool) (l275 : (List (Gbasin_mark × Bool))) (S' : Nat → Prop) (h' : Heap), Fr 106 a [(5, .func (.func 28) #[] #[.pointer (some ⟨b11, 0, none⟩), .pointer (some ⟨b18, 0, none⟩)]), (4, .pointer (some ⟨b18, 0, none⟩)), (1, q1)] ∧ Wd B h' w ∧ St S' (Bx b18 4 [.bool b274] :: Bx b11 79 [.map (some b7)] :: MP (fun k : Gbasin_mark => Value.agg (Gbasin_mark.v k).toArray) Value.bool b7 l275 :: L) h' ∧ Ext S264 h265 S' h' ∧ f_basin_rightNames_j8 N p0_b b274 l275 = some r) ?_ ?_
          · skip
            refine WF.loopF (fun n9 => fun a w => ∃ (i280 : Int) (b282 : Bool) (l283 : (List (Gbasin_mark × Bool))) (S' : Nat → Prop) (h' : Heap), Fr 106 a [(71, .int .i64 (↑p0_b.Shelters.length : Int)), (70, v271), (5, .func (.func 28) #[] #[.pointer (some ⟨b11, 0, none⟩), .pointer (some ⟨b18, 0, none⟩)]), (4, .pointer (some ⟨b18, 0, none⟩)), (1, q1), (72, .int .i64 i280)] ∧ Wd B h' w ∧ St S' (Bx b18 4 [.bool b282] :: Bx b11 79 [.map (some b7)] :: MP (fun k : Gbasin_mark => Value.agg (Gbasin_mark.v k).toArray) Value.bool b7 l283 :: L) h' ∧ Ext S264 h265 S' h' ∧ inI64 i280 ∧ f_basin_rightNames_l9 N p0_b (f_basin_rightNames_j8 N p0_b) n9 i280 b282 l283 = some r) N ?_ ?_ ?_
            · intro aa ww hf hw
              exact ⟨0, b214, l215, _, _, hf.sub (sb 71 rfl (sb 70 rfl (sb 5 rfl (sb 4 rfl (sb 1 rfl (sb 72 rfl sb0)))))), hw, hs266, (Ext.refl S264 h265), (show inI64 0 by unfold inI64; omega), E⟩
            · rintro aa ww ⟨_, _, _, _, _, _, _, _, _, _, E⟩
              rw [f_basin_rightNames_l9] at E; cases E
            · skip
              rintro n9 aa ww ⟨i280, b282, l283, S284, h285, hf, hw, hs286, e287, r281, E⟩
              refine WF.run ?_ hf hw
              clear hf hw ww aa
              rw [f_basin_rightNames_l9] at E
              refine WF.seq ?_
              refine WF.rp (.inl rfl) ?_
              refine QF.lss rfl rfl rfl ?_
              refine QF.rpn (sb 73 rfl (sb 71 rfl (sb 70 rfl (sb 5 rfl (sb 4 rfl (sb 1 rfl (sb 72 rfl sb0))))))) ?_
              refine WF.seq ?_
              refine WF.if_ rfl (fun c288 => ?_) (fun c288 => ?_)
              · skip
                have E := cdT c288 E
                refine WF.skip ?_
                refine WF.seq ?_
                refine WF.block ?_
                refine WF.seq ?_
                refine WF.rl ?_
                refine LF.q 2 ?_
                have k289 := k272.mono' e287
                obtain ⟨x290, hx290, E⟩ := bd E
                refine QF.ixe rfl rfl k289 sl_28 hx290 rfl fun q291 k292 => ?_
                refine QF.ld ckP hs286.1 rfl k292 ty_87 (fun e => by cases e) rfl fun v293 k294 => ?_
                refine QF.ln ?_
                refine LF.al zc_87 rfl hs286 fun b295 h296 hs297 e298 => ?_
                have k299 := k294.mono e298
                obtain ⟨rfl, ⟨r301, r302⟩⟩ := RGShelter.ex k299
                refine LF.st (vs := [.string x290.Name, .int .i64 x290.Room]) (cs' := [.string x290.Name, .int .i64 x290.Room]) rfl rfl rfl (one_cons rfl (one_cons rfl one_nil)) ty_87 rfl hs297 .head rfl rfl fun h303 hs304 e305 => ?_
                refine LF.nil (sb 15 rfl (sb 71 rfl (sb 70 rfl (sb 5 rfl (sb 4 rfl (sb 1 rfl (sb 72 rfl sb0))))))) ?_
                refine WF.rl ?_
                refine LF.q 3 ?_
                refine QF.mv rfl rfl ?_
                refine QF.fao rfl fa_87_0 rfl ?_
                refine QF.ldo (vs := [.string x290.Name]) ckP hs304 rfl mh rfl rfl ty_9 rfl rfl ?_
                refine QF.ln ?_
                have hs306 := hs304.pick (.tail .head)
                have hs307 := hs306.pick (.tail (.tail (.tail .head)))
                have hs308 := hs307.pick (.tail (.tail (.tail .head)))
                obtain ⟨y309, hy309, E⟩ := bd E
                refine LF.call rfl rfl rfl ca_28 rfl (basin_rightNames_1_ret hs308 (by decide) r301 hy309) fun v310 S311 h312 e313 p => ?_
                obtain ⟨rfl, hq314⟩ := p
                refine LF.nil (sb 71 rfl (sb 70 rfl (sb 5 rfl (sb 4 rfl (sb 1 rfl (sb 72 rfl sb0)))))) ?_
                refine WF.nilW ?_
                refine WF.rp (.inl rfl) ?_
                refine QF.addw rfl rfl rfl ?_
                refine QF.mv rfl rfl ?_
                refine QF.rpn (sb 72 rfl (sb 71 rfl (sb 70 rfl (sb 5 rfl (sb 4 rfl (sb 1 rfl sb0)))))) ?_
                refine WF.nil (fun aa ww hf hw => ?_)
                have hs315 := hq314.pick (.tail .head)
                have hs316 := hs315.pick (.tail .head)
                have hs317 := hs316.pick (.tail (.tail .head))
                have hs318 := hs317.drop (.tail (.tail (.tail .head)))
                exact ⟨(w64 (i280 + 1)), y309.2, y309.1, _, _, hf.sub (sb 71 rfl (sb 70 rfl (sb 5 rfl (sb 4 rfl (sb 1 rfl (sb 72 rfl sb0)))))), hw, hs318, (e287.trans (e298.trans (e305.trans e313))), (w64_i _), E⟩
              · skip
                have E := cdF c288 E
                refine WF.exit rfl (fun aa ww hf hw => ?_)
                exact ⟨b282, l283, _, _, hf.sub (sb 5 rfl (sb 4 rfl (sb 1 rfl sb0))), hw, hs286, e287, E⟩
          · skip
            rintro aa ww ⟨b274, l275, S319, h320, hf, hw, hs321, e322, E⟩
            refine WF.run ?_ hf hw
            clear hf hw ww aa
            rw [f_basin_rightNames_j8] at E
            refine WF.seq ?_
            refine WF.seq ?_
            refine WF.rp (.inl rfl) ?_
            have k323 := k268.mono e322
            refine QF.fa rfl k323 GBasin.f_Gauges fa_31_6 rfl fun q324 k325 => ?_
            refine QF.ldl ckP hs321.1 rfl k325 ty_26 rfl fun v326 k327 => ?_
            refine QF.len rfl k327 sl_26 rfl fun b328 => ?_
            unfold maxLen at b328
            refine QF.mv rfl rfl ?_
            refine QF.rpn (sb 84 rfl (sb 83 rfl (sb 82 rfl (sb 5 rfl (sb 4 rfl (sb 1 rfl sb0)))))) ?_
            refine WF.blockJ (fun a w => ∃ (b329 : Bool) (l330 : (List (Gbasin_mark × Bool))) (S' : Nat → Prop) (h' : Heap), Fr 106 a [(5, .func (.func 28) #[] #[.pointer (some ⟨b11, 0, none⟩), .pointer (some ⟨b18, 0, none⟩)]), (4, .pointer (some ⟨b18, 0, none⟩)), (1, q1)] ∧ Wd B h' w ∧ St S' (Bx b18 4 [.bool b329] :: Bx b11 79 [.map (some b7)] :: MP (fun k : Gbasin_mark => Value.agg (Gbasin_mark.v k).toArray) Value.bool b7 l330 :: L) h' ∧ Ext S319 h320 S' h' ∧ f_basin_rightNames_j10 N p0_b b329 l330 = some r) ?_ ?_
            · skip
              refine WF.loopF (fun n11 => fun a w => ∃ (i335 : Int) (b337 : Bool) (l338 : (List (Gbasin_mark × Bool))) (S' : Nat → Prop) (h' : Heap), Fr 106 a [(83, .int .i64 (↑p0_b.Gauges.length : Int)), (82, v326), (5, .func (.func 28) #[] #[.pointer (some ⟨b11, 0, none⟩), .pointer (some ⟨b18, 0, none⟩)]), (4, .pointer (some ⟨b18, 0, none⟩)), (1, q1), (84, .int .i64 i335)] ∧ Wd B h' w ∧ St S' (Bx b18 4 [.bool b337] :: Bx b11 79 [.map (some b7)] :: MP (fun k : Gbasin_mark => Value.agg (Gbasin_mark.v k).toArray) Value.bool b7 l338 :: L) h' ∧ Ext S319 h320 S' h' ∧ inI64 i335 ∧ f_basin_rightNames_l11 N p0_b (f_basin_rightNames_j10 N p0_b) n11 i335 b337 l338 = some r) N ?_ ?_ ?_
              · intro aa ww hf hw
                exact ⟨0, b274, l275, _, _, hf.sub (sb 83 rfl (sb 82 rfl (sb 5 rfl (sb 4 rfl (sb 1 rfl (sb 84 rfl sb0)))))), hw, hs321, (Ext.refl S319 h320), (show inI64 0 by unfold inI64; omega), E⟩
              · rintro aa ww ⟨_, _, _, _, _, _, _, _, _, _, E⟩
                rw [f_basin_rightNames_l11] at E; cases E
              · skip
                rintro n11 aa ww ⟨i335, b337, l338, S339, h340, hf, hw, hs341, e342, r336, E⟩
                refine WF.run ?_ hf hw
                clear hf hw ww aa
                rw [f_basin_rightNames_l11] at E
                refine WF.seq ?_
                refine WF.rp (.inl rfl) ?_
                refine QF.lss rfl rfl rfl ?_
                refine QF.rpn (sb 85 rfl (sb 83 rfl (sb 82 rfl (sb 5 rfl (sb 4 rfl (sb 1 rfl (sb 84 rfl sb0))))))) ?_
                refine WF.seq ?_
                refine WF.if_ rfl (fun c343 => ?_) (fun c343 => ?_)
                · skip
                  have E := cdT c343 E
                  refine WF.skip ?_
                  refine WF.seq ?_
                  refine WF.block ?_
                  refine WF.seq ?_
                  refine WF.rl ?_
                  refine LF.q 2 ?_
                  have k344 := k327.mono' e342
                  obtain ⟨x345, hx345, E⟩ := bd E
                  refine QF.ixe rfl rfl k344 sl_26 hx345 rfl fun q346 k347 => ?_
                  refine QF.ld ckP hs341.1 rfl k347 ty_44 (fun e => by cases e) rfl fun v348 k349 => ?_
                  refine QF.ln ?_
                  refine LF.al zc_44 rfl hs341 fun b350 h351 hs352 e353 => ?_
                  have k354 := k349.mono e353
                  obtain ⟨rfl, ⟨r356, r357, r358, r359, r360⟩⟩ := RGGauge.ex k354
                  refine LF.st (vs := [.string x345.Name, .int .i64 x345.Kind, .int .i64 x345.Target, .int .i64 x345.Err, .int .i64 x345.Drift]) (cs' := [.string x345.Name, .int .i64 x345.Kind, .int .i64 x345.Target, .int .i64 x345.Err, .int .i64 x345.Drift]) rfl rfl rfl (one_cons rfl (one_cons rfl (one_cons rfl (one_cons rfl (one_cons rfl one_nil))))) ty_44 rfl hs352 .head rfl rfl fun h361 hs362 e363 => ?_
                  refine LF.nil (sb 17 rfl (sb 83 rfl (sb 82 rfl (sb 5 rfl (sb 4 rfl (sb 1 rfl (sb 84 rfl sb0))))))) ?_
                  refine WF.rl ?_
                  refine LF.q 3 ?_
                  refine QF.mv rfl rfl ?_
                  refine QF.fao rfl fa_44_0 rfl ?_
                  refine QF.ldo (vs := [.string x345.Name]) ckP hs362 rfl mh rfl rfl ty_9 rfl rfl ?_
                  refine QF.ln ?_
                  have hs364 := hs362.pick (.tail .head)
                  have hs365 := hs364.pick (.tail (.tail (.tail .head)))
                  have hs366 := hs365.pick (.tail (.tail (.tail .head)))
                  obtain ⟨y367, hy367, E⟩ := bd E
                  refine LF.call rfl rfl rfl ca_28 rfl (basin_rightNames_1_ret hs366 (by decide) r356 hy367) fun v368 S369 h370 e371 p => ?_
                  obtain ⟨rfl, hq372⟩ := p
                  refine LF.nil (sb 83 rfl (sb 82 rfl (sb 5 rfl (sb 4 rfl (sb 1 rfl (sb 84 rfl sb0)))))) ?_
                  refine WF.nilW ?_
                  refine WF.rp (.inl rfl) ?_
                  refine QF.addw rfl rfl rfl ?_
                  refine QF.mv rfl rfl ?_
                  refine QF.rpn (sb 84 rfl (sb 83 rfl (sb 82 rfl (sb 5 rfl (sb 4 rfl (sb 1 rfl sb0)))))) ?_
                  refine WF.nil (fun aa ww hf hw => ?_)
                  have hs373 := hq372.pick (.tail .head)
                  have hs374 := hs373.pick (.tail .head)
                  have hs375 := hs374.pick (.tail (.tail .head))
                  have hs376 := hs375.drop (.tail (.tail (.tail .head)))
                  exact ⟨(w64 (i335 + 1)), y367.2, y367.1, _, _, hf.sub (sb 83 rfl (sb 82 rfl (sb 5 rfl (sb 4 rfl (sb 1 rfl (sb 84 rfl sb0)))))), hw, hs376, (e342.trans (e353.trans (e363.trans e371))), (w64_i _), E⟩
                · skip
                  have E := cdF c343 E
                  refine WF.exit rfl (fun aa ww hf hw => ?_)
                  exact ⟨b337, l338, _, _, hf.sub (sb 5 rfl (sb 4 rfl (sb 1 rfl sb0))), hw, hs341, e342, E⟩
            · skip
              rintro aa ww ⟨b329, l330, S377, h378, hf, hw, hs379, e380, E⟩
              refine WF.run ?_ hf hw
              clear hf hw ww aa
              rw [f_basin_rightNames_j10] at E
              refine WF.seq ?_
              refine WF.seq ?_
              refine WF.rp (.inl rfl) ?_
              have k381 := k323.mono e380
              refine QF.fa rfl k381 GBasin.f_Roads fa_31_7 rfl fun q382 k383 => ?_
              refine QF.ldl ckP hs379.1 rfl k383 ty_27 rfl fun v384 k385 => ?_
              refine QF.len rfl k385 sl_27 rfl fun b386 => ?_
              unfold maxLen at b386
              refine QF.mv rfl rfl ?_
              refine QF.rpn (sb 96 rfl (sb 95 rfl (sb 94 rfl (sb 5 rfl (sb 4 rfl sb0))))) ?_
              refine WF.blockJ (fun a w => ∃ (b387 : Bool) (S' : Nat → Prop) (h' : Heap), Fr 106 a [(4, .pointer (some ⟨b18, 0, none⟩))] ∧ Wd B h' w ∧ St S' (Bx b18 4 [.bool b387] :: L) h' ∧ Ext S377 h378 S' h' ∧ f_basin_rightNames_j12 N b387 = some r) ?_ ?_
              · skip
                refine WF.loopF (fun n13 => fun a w => ∃ (i392 : Int) (b394 : Bool) (l395 : (List (Gbasin_mark × Bool))) (S' : Nat → Prop) (h' : Heap), Fr 106 a [(95, .int .i64 (↑p0_b.Roads.length : Int)), (94, v384), (5, .func (.func 28) #[] #[.pointer (some ⟨b11, 0, none⟩), .pointer (some ⟨b18, 0, none⟩)]), (4, .pointer (some ⟨b18, 0, none⟩)), (96, .int .i64 i392)] ∧ Wd B h' w ∧ St S' (Bx b18 4 [.bool b394] :: Bx b11 79 [.map (some b7)] :: MP (fun k : Gbasin_mark => Value.agg (Gbasin_mark.v k).toArray) Value.bool b7 l395 :: L) h' ∧ Ext S377 h378 S' h' ∧ inI64 i392 ∧ f_basin_rightNames_l13 N p0_b (f_basin_rightNames_j12 N) n13 i392 b394 l395 = some r) N ?_ ?_ ?_
                · intro aa ww hf hw
                  exact ⟨0, b329, l330, _, _, hf.sub (sb 95 rfl (sb 94 rfl (sb 5 rfl (sb 4 rfl (sb 96 rfl sb0))))), hw, hs379, (Ext.refl S377 h378), (show inI64 0 by unfold inI64; omega), E⟩
                · rintro aa ww ⟨_, _, _, _, _, _, _, _, _, _, E⟩
                  rw [f_basin_rightNames_l13] at E; cases E
                · skip
                  rintro n13 aa ww ⟨i392, b394, l395, S396, h397, hf, hw, hs398, e399, r393, E⟩
                  refine WF.run ?_ hf hw
                  clear hf hw ww aa
                  rw [f_basin_rightNames_l13] at E
                  refine WF.seq ?_
                  refine WF.rp (.inl rfl) ?_
                  refine QF.lss rfl rfl rfl ?_
                  refine QF.rpn (sb 97 rfl (sb 95 rfl (sb 94 rfl (sb 5 rfl (sb 4 rfl (sb 96 rfl sb0)))))) ?_
                  refine WF.seq ?_
                  refine WF.if_ rfl (fun c400 => ?_) (fun c400 => ?_)
                  · skip
                    have E := cdT c400 E
                    refine WF.skip ?_
                    refine WF.seq ?_
                    refine WF.block ?_
                    refine WF.seq ?_
                    refine WF.rl ?_
                    refine LF.q 2 ?_
                    have k401 := k385.mono' e399
                    obtain ⟨x402, hx402, E⟩ := bd E
                    refine QF.ixe rfl rfl k401 sl_27 hx402 rfl fun q403 k404 => ?_
                    refine QF.ld ckP hs398.1 rfl k404 ty_89 (fun e => by cases e) rfl fun v405 k406 => ?_
                    refine QF.ln ?_
                    refine LF.al zc_89 rfl hs398 fun b407 h408 hs409 e410 => ?_
                    have k411 := k406.mono e410
                    obtain ⟨rfl, ⟨r413, r414, r415, r416, r417, r418, r419⟩⟩ := RGRoad.ex k411
                    refine LF.st (vs := [.string x402.Name, .int .i64 x402.From, .int .i64 x402.To, .int .i64 x402.Hours, .int .i64 x402.Flow, .int .i64 x402.By, .int .i64 x402.Limit]) (cs' := [.string x402.Name, .int .i64 x402.From, .int .i64 x402.To, .int .i64 x402.Hours, .int .i64 x402.Flow, .int .i64 x402.By, .int .i64 x402.Limit]) rfl rfl rfl (one_cons rfl (one_cons rfl (one_cons rfl (one_cons rfl (one_cons rfl (one_cons rfl (one_cons rfl one_nil))))))) ty_89 rfl hs409 .head rfl rfl fun h420 hs421 e422 => ?_
                    refine LF.nil (sb 19 rfl (sb 95 rfl (sb 94 rfl (sb 5 rfl (sb 4 rfl (sb 96 rfl sb0)))))) ?_
                    refine WF.rl ?_
                    refine LF.q 3 ?_
                    refine QF.mv rfl rfl ?_
                    refine QF.fao rfl fa_89_0 rfl ?_
                    refine QF.ldo (vs := [.string x402.Name]) ckP hs421 rfl mh rfl rfl ty_9 rfl rfl ?_
                    refine QF.ln ?_
                    have hs423 := hs421.pick (.tail .head)
                    have hs424 := hs423.pick (.tail (.tail (.tail .head)))
                    have hs425 := hs424.pick (.tail (.tail (.tail .head)))
                    obtain ⟨y426, hy426, E⟩ := bd E
                    refine LF.call rfl rfl rfl ca_28 rfl (basin_rightNames_1_ret hs425 (by decide) r413 hy426) fun v427 S428 h429 e430 p => ?_
                    obtain ⟨rfl, hq431⟩ := p
                    refine LF.nil (sb 95 rfl (sb 94 rfl (sb 5 rfl (sb 4 rfl (sb 96 rfl sb0))))) ?_
                    refine WF.nilW ?_
                    refine WF.rp (.inl rfl) ?_
                    refine QF.addw rfl rfl rfl ?_
                    refine QF.mv rfl rfl ?_
                    refine QF.rpn (sb 96 rfl (sb 95 rfl (sb 94 rfl (sb 5 rfl (sb 4 rfl sb0))))) ?_
                    refine WF.nil (fun aa ww hf hw => ?_)
                    have hs432 := hq431.pick (.tail .head)
                    have hs433 := hs432.pick (.tail .head)
                    have hs434 := hs433.pick (.tail (.tail .head))
                    have hs435 := hs434.drop (.tail (.tail (.tail .head)))
                    exact ⟨(w64 (i392 + 1)), y426.2, y426.1, _, _, hf.sub (sb 95 rfl (sb 94 rfl (sb 5 rfl (sb 4 rfl (sb 96 rfl sb0))))), hw, hs435, (e399.trans (e410.trans (e422.trans e430))), (w64_i _), E⟩
                  · skip
                    have E := cdF c400 E
                    refine WF.exit rfl (fun aa ww hf hw => ?_)
                    have hs436 := hs398.drop (.tail .head)
                    have hs437 := hs436.drop (.tail .head)
                    exact ⟨b394, _, _, hf.sub (sb 4 rfl sb0), hw, hs437, e399, E⟩
              · skip
                rintro aa ww ⟨b387, S438, h439, hf, hw, hs440, e441, E⟩
                refine WF.run ?_ hf hw
                clear hf hw ww aa
                rw [f_basin_rightNames_j12] at E
                refine WF.seq ?_
                refine WF.rp (.inl rfl) ?_
                refine QF.ldo (vs := [.bool b387]) ckP hs440 rfl mh rfl rfl ty_4 rfl rfl ?_
                refine QF.as_ rfl rfl ?_
                refine QF.rpn (sb 2 rfl sb0) ?_
                refine WF.ret (fun aa ww hf hw => ?_)
                have hs442 := hs440.drop .head
                cases E
                exact rtg hf rfl hw (rvc (rvT hf (v := _) rfl) rv0) rfl (e5.trans (e10.trans (e14.trans (e17.trans (e21.trans (e24.trans (e65.trans (e133.trans (e207.trans (e267.trans (e322.trans (e380.trans e441)))))))))))) ⟨rfl, hs442⟩

end Go.Proofs.Ytibidnaedddfdaa
