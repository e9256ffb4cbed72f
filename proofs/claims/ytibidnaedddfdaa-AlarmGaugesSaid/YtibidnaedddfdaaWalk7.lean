/- Walks, part 7. By program. -/
import Derived.Test.YtibidnaedddfdaaWalk6
namespace Go.Proofs.Ytibidnaedddfdaa
open Go.RowKit
set_option linter.unusedVariables false
set_option linter.unusedSimpArgs false

set_option maxRecDepth 10000 in
set_option maxHeartbeats 2000000 in
theorem fuse_gaugeOf_ret {N : Nat} {S : Nat → Prop} {L : List HP} {h : Heap} (hs : St S L h) {v_p0_b : Value} {p0_b : GBasin} (h_p0_b : Rd S h RGBasin v_p0_b p0_b) {v_p1_r : Value} {p1_r : GReading} (h_p1_r : Rd S h RGReading v_p1_r p1_r) {r : GGauge × Bool} (E : f_fuse_gaugeOf N p0_b p1_r = some r) :
    Ret Try.prog 20 #[v_p0_b, v_p1_r] S h (fun v S' h' => v = .tuple #[.agg #[.string r.1.Name, .int .i64 r.1.Kind, .int .i64 r.1.Target, .int .i64 r.1.Err, .int .i64 r.1.Drift], .bool r.2] ∧ GGauge.ok r.1 ∧ St S' (L) h') := by
  refine Ret.go (l := [v_p0_b, v_p1_r]) 24 Try.func20 rfl Try.ntmps20 rfl fun B => ?_
  rw [f_fuse_gaugeOf] at E
  refine WF.seq ?_
  refine WF.rl ?_
  refine LF.boxp rfl h_p0_b (fun e => by cases e) rfl hs fun q1 S2 h3 hs4 e5 k6 => ?_
  have k7 := h_p1_r.mono e5
  refine LF.boxp rfl k7 (fun e => by cases e) rfl hs4 fun q8 S9 h10 hs11 e12 k13 => ?_
  refine LF.al zc_44 rfl hs11 fun b14 h15 hs16 e17 => ?_
  refine LF.q 1 ?_
  refine QF.as_ rfl rfl ?_
  refine QF.ln ?_
  refine LF.nil (sb 4 rfl (sb 3 rfl (sb 2 rfl sb0))) ?_
  refine WF.seq ?_
  refine WF.seq ?_
  refine WF.rp (.inl rfl) ?_
  have k18 := k13.mono e17
  refine QF.fa rfl k18 GReading.f_Gauge fa_36_0 rfl fun q19 k20 => ?_
  refine QF.ldi ckP hs16.1 rfl k20 ty_3 rfl fun r21 => ?_
  refine QF.lss rfl rfl rfl ?_
  refine QF.mv rfl rfl ?_
  refine QF.cutv 7 16 (.bool ((decide (p1_r.Gauge < 0)) || (decide ((↑p0_b.Gauges.length : Int) ≤ p1_r.Gauge)))) ?_ ?_
  · cases c22 : (decide (p1_r.Gauge < 0))
    · skip
      refine QF.gy rfl rfl rfl ?_
      refine QF.fa rfl k18 GReading.f_Gauge fa_36_0 rfl fun q23 k24 => ?_
      refine QF.gy rfl rfl rfl ?_
      refine QF.ldi ckP hs16.1 rfl k24 ty_3 rfl fun r25 => ?_
      refine QF.gy rfl rfl rfl ?_
      have k26 := k6.mono (e12.trans e17)
      refine QF.fa rfl k26 GBasin.f_Gauges fa_31_6 rfl fun q27 k28 => ?_
      refine QF.gy rfl rfl rfl ?_
      refine QF.ldl ckP hs16.1 rfl k28 ty_26 rfl fun v29 k30 => ?_
      refine QF.gy rfl rfl rfl ?_
      refine QF.len rfl k30 sl_26 rfl fun b31 => ?_
      unfold maxLen at b31
      refine QF.gy rfl rfl rfl ?_
      refine QF.geq rfl rfl rfl ?_
      refine QF.pick rfl rfl rfl ?_
      exact QF.cutn (sb 16 rfl (sb 9 rfl (sb 8 rfl (sb 7 rfl (sb 6 rfl (sb 4 rfl (sb 3 rfl (sb 2 rfl sb0))))))))
    · skip
      refine QF.gnT rfl rfl rfl rfl rfl ?_
      refine QF.gnT rfl rfl rfl rfl rfl ?_
      refine QF.gnT rfl rfl rfl rfl rfl ?_
      refine QF.gnT rfl rfl rfl rfl rfl ?_
      refine QF.gnT rfl rfl rfl rfl rfl ?_
      refine QF.gnT rfl rfl rfl rfl rfl ?_
      refine QF.pick rfl rfl rfl ?_
      exact QF.cutn (sb 16 rfl (sb 9 rfl (sb 8 rfl (sb 7 rfl (sb 6 rfl (sb 4 rfl (sb 3 rfl (sb 2 rfl sb0))))))))
  refine QF.rpn (sb 16 rfl (sb 4 rfl (sb 3 rfl (sb 2 rfl sb0)))) ?_
  refine WF.if_ rfl (fun c32 => ?_) (fun c32 => ?_)
  · skip
    have E := cdT c32 E
    refine WF.seq ?_
    refine WF.rl ?_
    refine LF.q 1 ?_
    refine QF.bld (cs := [.string ByteArray.empty, .int .i64 0, .int .i64 0, .int .i64 0, .int .i64 0]) st_44 rfl rfl rfl ?_
    refine QF.ln ?_
    refine LF.st (vs := [.string ByteArray.empty, .int .i64 0, .int .i64 0, .int .i64 0, .int .i64 0]) (cs' := [.string ByteArray.empty, .int .i64 0, .int .i64 0, .int .i64 0, .int .i64 0]) rfl rfl rfl (one_cons rfl (one_cons rfl (one_cons rfl (one_cons rfl (one_cons rfl one_nil))))) ty_44 rfl hs16 .head rfl rfl fun h33 hs34 e35 => ?_
    refine LF.q 1 ?_
    refine QF.as_ rfl rfl ?_
    refine QF.ln ?_
    refine LF.nil (sb 5 rfl (sb 4 rfl sb0)) ?_
    refine WF.ret (fun aa ww hf hw => ?_)
    have hs36 := hs34.drop .head
    cases E
    exact rtg hf rfl hw (rvc (rvC hf hw hs34 rfl mh ty_44 rfl) (rvc (rvT hf (v := _) rfl) rv0)) rfl (e5.trans (e12.trans (e17.trans e35))) ⟨rfl, ⟨(by first | assumption | decide), (show inI64 0 by unfold inI64; omega), (show inI64 0 by unfold inI64; omega), (show inI64 0 by unfold inI64; omega), (show inI64 0 by unfold inI64; omega)⟩, hs36⟩
  · skip
    have E := cdF c32 E
    refine WF.skip ?_
    refine WF.seq ?_
    refine WF.rl ?_
    refine LF.q 6 ?_
    have k37 := k6.mono (e12.trans e17)
    refine QF.fa rfl k37 GBasin.f_Gauges fa_31_6 rfl fun q38 k39 => ?_
    refine QF.ldl ckP hs16.1 rfl k39 ty_26 rfl fun v40 k41 => ?_
    refine QF.fa rfl k18 GReading.f_Gauge fa_36_0 rfl fun q42 k43 => ?_
    refine QF.ldi ckP hs16.1 rfl k43 ty_3 rfl fun r44 => ?_
    obtain ⟨x45, hx45, E⟩ := bd E
    refine QF.ixe rfl rfl k41 sl_26 hx45 rfl fun q46 k47 => ?_
    refine QF.ld ckP hs16.1 rfl k47 ty_44 (fun e => by cases e) rfl fun v48 k49 => ?_
    refine QF.ln ?_
    obtain ⟨rfl, ⟨r51, r52, r53, r54, r55⟩⟩ := RGGauge.ex k49
    refine LF.st (vs := [.string x45.Name, .int .i64 x45.Kind, .int .i64 x45.Target, .int .i64 x45.Err, .int .i64 x45.Drift]) (cs' := [.string x45.Name, .int .i64 x45.Kind, .int .i64 x45.Target, .int .i64 x45.Err, .int .i64 x45.Drift]) rfl rfl rfl (one_cons rfl (one_cons rfl (one_cons rfl (one_cons rfl (one_cons rfl one_nil))))) ty_44 rfl hs16 .head rfl rfl fun h56 hs57 e58 => ?_
    refine LF.q 1 ?_
    refine QF.as_ rfl rfl ?_
    refine QF.ln ?_
    refine LF.nil (sb 5 rfl (sb 4 rfl sb0)) ?_
    refine WF.ret (fun aa ww hf hw => ?_)
    have hs59 := hs57.drop .head
    cases E
    exact rtg hf rfl hw (rvc (rvC hf hw hs57 rfl mh ty_44 rfl) (rvc (rvT hf (v := _) rfl) rv0)) rfl (e5.trans (e12.trans (e17.trans e58))) ⟨rfl, ⟨r51, r52, r53, r54, r55⟩, hs59⟩

set_option maxRecDepth 10000 in
set_option maxHeartbeats 2000000 in
theorem curve_Least_1_ret {N : Nat} {S : Nat → Prop} {L : List HP} {h : Heap} (hs : St S L h) {p0_i : Int} (h_p0_i : inI64 p0_i) {v_c1_ : Value} {c1_ : (List GPoint)} (h_c1_ : Pt S h (Rep.sl RGPoint) v_c1_ c1_) {v_c2_ : Value} {c2_ : Int} (h_c2_ : Pt S h Rep.int v_c2_ c2_) {r : Bool} (E : f_curve_Least_1 N c1_ c2_ p0_i = some r) :
    Ret Try.prog 39 #[.int .i64 p0_i, v_c1_, v_c2_] S h (fun v S' h' => v = .bool r ∧ St S' (L) h') := by
  refine Ret.go (l := [.int .i64 p0_i, v_c1_, v_c2_]) 12 Try.func39 rfl Try.ntmps39 rfl fun B => ?_
  rw [f_curve_Least_1] at E
  refine WF.seq ?_
  refine WF.rp (.inl rfl) ?_
  refine QF.as_ rfl rfl ?_
  refine QF.rpn (sb 0 rfl (sb 1 rfl (sb 2 rfl sb0))) ?_
  refine WF.seq ?_
  refine WF.rp (.inr ⟨mo, by kernel_rfl⟩) ?_
  refine QF.ldl ckP hs.1 rfl h_c1_ ty_67 rfl fun v1 k2 => ?_
  refine QF.mv rfl rfl ?_
  obtain ⟨x3, hx3, E⟩ := bd E
  refine QF.ixe rfl rfl k2 sl_67 hx3 rfl fun q4 k5 => ?_
  refine QF.fa rfl k5 GPoint.f_Y fa_98_1 rfl fun q6 k7 => ?_
  refine QF.ldi ckP hs.1 rfl k7 ty_3 rfl fun r8 => ?_
  refine QF.ldi ckP hs.1 rfl h_c2_ ty_3 rfl fun r9 => ?_
  refine QF.geq rfl rfl rfl ?_
  refine QF.as_ rfl rfl ?_
  refine QF.rpn (sb 4 rfl sb0) ?_
  refine WF.ret (fun aa ww hf hw => ?_)
  cases E
  exact rtg hf rfl hw (rvc (rvT hf (v := _) rfl) rv0) rfl (Ext.refl S h) ⟨rfl, hs⟩

set_option maxRecDepth 10000 in
set_option maxHeartbeats 2000000 in
theorem curve_Least_ret {N : Nat} {S : Nat → Prop} {L : List HP} {h : Heap} (hs : St S L h) {v_p0_c : Value} {p0_c : (List GPoint)} (h_p0_c : Sl S h RGPoint v_p0_c p0_c) {p1_y : Int} (h_p1_y : inI64 p1_y) {r : Int × Bool} (E : f_curve_Least N p0_c p1_y = some r) :
    Ret Try.prog 22 #[v_p0_c, .int .i64 p1_y] S h (fun v S' h' => v = .tuple #[.int .i64 r.1, .bool r.2] ∧ inI64 r.1 ∧ St S' (L) h') := by
  refine Ret.go (l := [v_p0_c, .int .i64 p1_y]) 69 Try.func22 rfl Try.ntmps22 rfl fun B => ?_
  rw [f_curve_Least] at E
  refine WF.seq ?_
  refine WF.rl ?_
  refine LF.boxp rfl (Rd.ofSl h_p0_c) (fun _ => rfl) rfl hs fun q1 S2 h3 hs4 e5 k6 => ?_
  refine LF.boxp rfl (⟨_, rfl, rfl, h_p1_y⟩ : Rd _ _ Rep.int _ p1_y) (fun _ => rfl) rfl hs4 fun q7 S8 h9 hs10 e11 k12 => ?_
  refine LF.q 2 ?_
  refine QF.as_ rfl rfl ?_
  refine QF.as_ rfl rfl ?_
  refine QF.ln ?_
  refine LF.nil (sb 3 rfl (sb 2 rfl sb0)) ?_
  refine WF.seq ?_
  refine WF.seq ?_
  refine WF.rc (.inr ⟨mo, by kernel_rfl⟩) hs10 ?_
  have k13 := k6.mono e11
  refine QF.ldl ckC hs10.1 rfl k13 ty_67 rfl fun v14 k15 => ?_
  obtain ⟨y16, hy16, E⟩ := bd E
  refine QF.callp (v := .bool y16) (Ψ := True) rfl rfl rfl ca_21 rfl (fun h' o => (curve_Right_ret (St.all h') (k15.mono' (o.all hs10.1)) hy16).mono fun _ _ _ _ p => ⟨p.1, trivial⟩) fun r17 => ?_
  refine QF.not rfl rfl ?_
  refine QF.mv rfl rfl ?_
  obtain ⟨b19, hb19, E⟩ := bd E
  refine QF.cutv 10 24 (.bool b19) ?_ ?_
  · cases c18 : (!y16)
    · skip
      have hb19 := cdF c18 hb19
      refine QF.gy rfl rfl rfl ?_
      refine QF.ldi ckC hs10.1 rfl k12 ty_3 rfl fun r20 => ?_
      refine QF.gy rfl rfl rfl ?_
      refine QF.ldl ckC hs10.1 rfl k13 ty_67 rfl fun v21 k22 => ?_
      refine QF.gy rfl rfl rfl ?_
      refine QF.ldl ckC hs10.1 rfl k13 ty_67 rfl fun v23 k24 => ?_
      refine QF.gy rfl rfl rfl ?_
      refine QF.len rfl k24 sl_67 rfl fun b25 => ?_
      unfold maxLen at b25
      refine QF.gy rfl rfl rfl ?_
      refine QF.subw rfl rfl rfl ?_
      refine QF.gy rfl rfl rfl ?_
      obtain ⟨x26, hx26, hb19⟩ := bd hb19
      refine QF.ixe rfl rfl k22 sl_67 hx26 rfl fun q27 k28 => ?_
      refine QF.gy rfl rfl rfl ?_
      refine QF.fa rfl k28 GPoint.f_Y fa_98_1 rfl fun q29 k30 => ?_
      refine QF.gy rfl rfl rfl ?_
      refine QF.ldi ckC hs10.1 rfl k30 ty_3 rfl fun r31 => ?_
      refine QF.gy rfl rfl rfl ?_
      refine QF.gtr rfl rfl rfl ?_
      refine QF.pick rfl rfl rfl ?_
      cases hb19
      exact QF.cutn (sb 24 rfl (sb 14 rfl (sb 13 rfl (sb 12 rfl (sb 11 rfl (sb 3 rfl (sb 2 rfl sb0)))))))
    · skip
      have hb19 := cdT c18 hb19
      cases hb19
      refine QF.gnT rfl rfl rfl rfl rfl ?_
      refine QF.gnT rfl rfl rfl rfl rfl ?_
      refine QF.gnT rfl rfl rfl rfl rfl ?_
      refine QF.gnT rfl rfl rfl rfl rfl ?_
      refine QF.gnT rfl rfl rfl rfl rfl ?_
      refine QF.gnT rfl rfl rfl rfl rfl ?_
      refine QF.gnT rfl rfl rfl rfl rfl ?_
      refine QF.gnT rfl rfl rfl rfl rfl ?_
      refine QF.gnT rfl rfl rfl rfl rfl ?_
      refine QF.pick rfl rfl rfl ?_
      exact QF.cutn (sb 24 rfl (sb 14 rfl (sb 13 rfl (sb 12 rfl (sb 11 rfl (sb 3 rfl (sb 2 rfl sb0)))))))
  refine QF.rcn (sb 24 rfl (sb 3 rfl (sb 2 rfl sb0))) fun h32 hs33 e34 => ?_
  refine WF.if_ rfl (fun c35 => ?_) (fun c35 => ?_)
  · skip
    have E := cdT c35 E
    refine WF.seq ?_
    refine WF.rp (.inl rfl) ?_
    refine QF.as_ rfl rfl ?_
    refine QF.as_ rfl rfl ?_
    refine QF.rpn (sb 5 rfl (sb 4 rfl sb0)) ?_
    refine WF.ret (fun aa ww hf hw => ?_)
    cases E
    exact rtg hf rfl hw (rvc (rvT hf (v := _) rfl) (rvc (rvT hf (v := _) rfl) rv0)) rfl (e5.trans (e11.trans e34)) ⟨rfl, (show inI64 0 by unfold inI64; omega), hs33⟩
  · skip
    have E := cdF c35 E
    refine WF.skip ?_
    refine WF.seq ?_
    refine WF.rc (.inl rfl) hs33 ?_
    have k36 := k13.mono e34
    refine QF.ldl ckC hs33.1 rfl k36 ty_67 rfl fun v37 k38 => ?_
    refine QF.len rfl k38 sl_67 rfl fun b39 => ?_
    unfold maxLen at b39
    refine QF.mkf rfl rfl rfl ?_
    have k40 := k12.mono e34
    have kf41 : Rd S8 h32 (Rep.fn Try.prog (fun x : Int => ([.int .i64 x] : List Value)) (fun x : Int => inI64 x) (fun y : Bool => .bool y) (fun y : Bool => True)) (.func (.func 39) #[] #[q1, q7]) (fun x => f_curve_Least_1 N p0_c p1_y x) := Rd.ofFn 39 #[q1, q7] ca_39 fun S' h' s' e' L hs x y h1 h2 => (curve_Least_1_ret hs h1 (k36.mono'' s' e') (k40.mono'' s' e') h2).mono fun _ _ _ _ p => ⟨p.1, trivial, p.2⟩
    obtain ⟨y42, hy42, E⟩ := bd E
    refine QF.callp (v := .int .i64 y42) (Ψ := inI64 y42) rfl rfl rfl ca_38 rfl (fun h' o => (sort_Search_ret (St.all h') (by unfold inI64; omega) (kf41.mono (o.all hs33.1)) hy42).mono fun _ _ _ _ p => ⟨p.1, p.2.1⟩) fun r43 => ?_
    have r44 := r43
    refine QF.as_ rfl rfl ?_
    refine QF.rcn (sb 6 rfl (sb 3 rfl (sb 2 rfl sb0))) fun h45 hs46 e47 => ?_
    refine WF.seq ?_
    refine WF.seq ?_
    refine WF.rp (.inl rfl) ?_
    refine QF.mv rfl rfl ?_
    refine QF.eql rfl rfl rfl ?_
    refine QF.rpn (sb 30 rfl (sb 6 rfl (sb 3 rfl (sb 2 rfl sb0)))) ?_
    refine WF.if_ rfl (fun c48 => ?_) (fun c48 => ?_)
    · skip
      have E := cdT c48 E
      refine WF.seq ?_
      refine WF.rp (.inl rfl) ?_
      refine QF.as_ rfl rfl ?_
      refine QF.as_ rfl rfl ?_
      refine QF.rpn (sb 5 rfl (sb 4 rfl sb0)) ?_
      refine WF.ret (fun aa ww hf hw => ?_)
      cases E
      exact rtg hf rfl hw (rvc (rvT hf (v := _) rfl) (rvc (rvT hf (v := _) rfl) rv0)) rfl (e5.trans (e11.trans (e34.trans e47))) ⟨rfl, (show inI64 0 by unfold inI64; omega), hs46⟩
    · skip
      have E := cdF c48 E
      refine WF.skip ?_
      refine WF.seq ?_
      refine WF.rl ?_
      refine LF.q 5 ?_
      have k49 := k36.mono e47
      refine QF.ldl ckP hs46.1 rfl k49 ty_67 rfl fun v50 k51 => ?_
      refine QF.mv rfl rfl ?_
      refine QF.subw rfl rfl rfl ?_
      obtain ⟨x52, hx52, E⟩ := bd E
      refine QF.ixe rfl rfl k51 sl_67 hx52 rfl fun q53 k54 => ?_
      refine QF.ld ckP hs46.1 rfl k54 ty_98 (fun e => by cases e) rfl fun v55 k56 => ?_
      refine QF.ln ?_
      refine LF.al zc_98 rfl hs46 fun b57 h58 hs59 e60 => ?_
      have k61 := k56.mono e60
      obtain ⟨rfl, ⟨r63, r64⟩⟩ := RGPoint.ex k61
      refine LF.st (vs := [.int .i64 x52.X, .int .i64 x52.Y]) (cs' := [.int .i64 x52.X, .int .i64 x52.Y]) rfl rfl rfl (one_cons rfl (one_cons rfl one_nil)) ty_98 rfl hs59 .head rfl rfl fun h65 hs66 e67 => ?_
      refine LF.nil (sb 7 rfl (sb 6 rfl (sb 3 rfl (sb 2 rfl sb0)))) ?_
      refine WF.seq ?_
      refine WF.rc (.inr ⟨mo, by kernel_rfl⟩) hs66 ?_
      have k68 := k40.mono (e47.trans (e60.trans e67))
      refine QF.ldi ckC hs66.1 rfl k68 ty_3 rfl fun r69 => ?_
      refine QF.fao rfl fa_98_1 rfl ?_
      refine QF.ldo (vs := [.int .i64 x52.Y]) ckC hs66 rfl mh rfl rfl ty_3 rfl rfl ?_
      refine QF.subw rfl rfl rfl ?_
      have k70 := k49.mono (e60.trans e67)
      refine QF.ldl ckC hs66.1 rfl k70 ty_67 rfl fun v71 k72 => ?_
      refine QF.mv rfl rfl ?_
      obtain ⟨x73, hx73, E⟩ := bd E
      refine QF.ixe rfl rfl k72 sl_67 hx73 rfl fun q74 k75 => ?_
      refine QF.fa rfl k75 GPoint.f_X fa_98_0 rfl fun q76 k77 => ?_
      refine QF.ldi ckC hs66.1 rfl k77 ty_3 rfl fun r78 => ?_
      refine QF.fao rfl fa_98_0 rfl ?_
      refine QF.ldo (vs := [.int .i64 x52.X]) ckC hs66 rfl mh rfl rfl ty_3 rfl rfl ?_
      refine QF.subw rfl rfl rfl ?_
      refine QF.ldl ckC hs66.1 rfl k70 ty_67 rfl fun v79 k80 => ?_
      refine QF.mv rfl rfl ?_
      obtain ⟨x81, hx81, E⟩ := bd E
      refine QF.ixe rfl rfl k80 sl_67 hx81 rfl fun q82 k83 => ?_
      refine QF.fa rfl k83 GPoint.f_Y fa_98_1 rfl fun q84 k85 => ?_
      refine QF.ldi ckC hs66.1 rfl k85 ty_3 rfl fun r86 => ?_
      refine QF.fao rfl fa_98_1 rfl ?_
      refine QF.ldo (vs := [.int .i64 x52.Y]) ckC hs66 rfl mh rfl rfl ty_3 rfl rfl ?_
      refine QF.subw rfl rfl rfl ?_
      obtain ⟨y87, hy87, E⟩ := bd E
      refine QF.callp (v := .tuple #[.int .i64 y87.1, .int .i64 y87.2.1, .bool y87.2.2]) (Ψ := inI64 y87.1 ∧ inI64 y87.2.1) rfl rfl rfl ca_40 rfl (fun h' o => (exact_Scale_ret (St.all h') (w64_i _) (w64_i _) (w64_i _) hy87).mono fun _ _ _ _ p => ⟨p.1, ⟨p.2.1, p.2.2.1⟩⟩) fun r88 => ?_
      obtain ⟨r89, r90⟩ := r88
      refine QF.mv rfl rfl ?_
      refine QF.ext rfl rfl rfl ?_
      refine QF.ext rfl rfl rfl ?_
      refine QF.ext rfl rfl rfl ?_
      refine QF.as_ rfl rfl ?_
      refine QF.as_ rfl rfl ?_
      refine QF.as_ rfl rfl ?_
      refine QF.rcn (sb 9 rfl (sb 8 rfl (sb 7 rfl sb0))) fun h91 hs92 e93 => ?_
      refine WF.seq ?_
      refine WF.seq ?_
      refine WF.rp (.inl rfl) ?_
      refine QF.mv rfl rfl ?_
      refine QF.gtr rfl rfl rfl ?_
      refine QF.rpn (sb 62 rfl (sb 8 rfl (sb 7 rfl sb0))) ?_
      refine WF.cut (fun a w => ∃ (i94 : Int) (S' : Nat → Prop) (h' : Heap), Fr 69 a [(7, .pointer (some ⟨b57, 0, none⟩)), (8, .int .i64 i94)] ∧ Wd B h' w ∧ St S' (Bx b57 98 [.int .i64 x52.X, .int .i64 x52.Y] :: L) h' ∧ Ext S8 h91 S' h' ∧ inI64 i94 ∧ f_curve_Least_j0 N x52 i94 = some r) ?_ ?_
      · skip
        refine WF.if_ rfl (fun c96 => ?_) (fun c96 => ?_)
        · skip
          have E := cdT c96 E
          refine WF.rp (.inl rfl) ?_
          refine QF.mv rfl rfl ?_
          refine QF.addw rfl rfl rfl ?_
          refine QF.as_ rfl rfl ?_
          refine QF.rpn (sb 8 rfl (sb 7 rfl sb0)) ?_
          refine WF.nil (fun aa ww hf hw => ?_)
          exact ⟨(w64 (y87.1 + 1)), _, _, hf.sub (sb 7 rfl (sb 8 rfl sb0)), hw, hs92, (Ext.refl S8 h91), (w64_i _), E⟩
        · skip
          have E := cdF c96 E
          refine WF.skip ?_
          refine WF.nil (fun aa ww hf hw => ?_)
          exact ⟨y87.1, _, _, hf.sub (sb 7 rfl (sb 8 rfl sb0)), hw, hs92, (Ext.refl S8 h91), r89, E⟩
      · skip
        rintro aa ww ⟨i94, S97, h98, hf, hw, hs99, e100, r95, E⟩
        refine WF.run ?_ hf hw
        clear hf hw ww aa
        rw [f_curve_Least_j0] at E
        refine WF.seq ?_
        refine WF.rp (.inl rfl) ?_
        refine QF.fao rfl fa_98_0 rfl ?_
        refine QF.ldo (vs := [.int .i64 x52.X]) ckP hs99 rfl mh rfl rfl ty_3 rfl rfl ?_
        refine QF.mv rfl rfl ?_
        refine QF.addw rfl rfl rfl ?_
        refine QF.as_ rfl rfl ?_
        refine QF.as_ rfl rfl ?_
        refine QF.rpn (sb 5 rfl (sb 4 rfl sb0)) ?_
        refine WF.ret (fun aa ww hf hw => ?_)
        have hs101 := hs99.drop .head
        cases E
        exact rtg hf rfl hw (rvc (rvT hf (v := _) rfl) (rvc (rvT hf (v := _) rfl) rv0)) rfl (e5.trans (e11.trans (e34.trans (e47.trans (e60.trans (e67.trans (e93.trans e100))))))) ⟨rfl, (w64_i _), hs101⟩

set_option maxRecDepth 10000 in
set_option maxHeartbeats 2000000 in
theorem exact_Add_ret {N : Nat} {S : Nat → Prop} {L : List HP} {h : Heap} (hs : St S L h) {p0_a : Int} (h_p0_a : inI64 p0_a) {p1_b : Int} (h_p1_b : inI64 p1_b) {r : Int} (E : f_exact_Add N p0_a p1_b = some r) :
    Ret Try.prog 23 #[.int .i64 p0_a, .int .i64 p1_b] S h (fun v S' h' => v = .int .i64 r ∧ inI64 r ∧ St S' (L) h') := by
  refine Ret.go (l := [.int .i64 p0_a, .int .i64 p1_b]) 24 Try.func23 rfl Try.ntmps23 rfl fun B => ?_
  rw [f_exact_Add] at E
  refine WF.seq ?_
  refine WF.rp (.inl rfl) ?_
  refine QF.as_ rfl rfl ?_
  refine QF.rpn (sb 0 rfl (sb 1 rfl sb0)) ?_
  refine WF.seq ?_
  refine WF.seq ?_
  refine WF.rp (.inl rfl) ?_
  refine QF.mv rfl rfl ?_
  refine QF.gtr rfl rfl rfl ?_
  refine QF.mv rfl rfl ?_
  refine QF.cutv 5 12 (.bool ((decide (0 < p1_b)) && (decide ((w64 (9223372036854775807 - p1_b)) < p0_a)))) ?_ ?_
  · cases c1 : (decide (0 < p1_b))
    · skip
      refine QF.gnF rfl rfl rfl rfl rfl ?_
      refine QF.gnF rfl rfl rfl rfl rfl ?_
      refine QF.gnF rfl rfl rfl rfl rfl ?_
      refine QF.gnF rfl rfl rfl rfl rfl ?_
      refine QF.pick rfl rfl rfl ?_
      exact QF.cutn (sb 12 rfl (sb 7 rfl (sb 6 rfl (sb 5 rfl (sb 0 rfl (sb 1 rfl sb0))))))
    · skip
      refine QF.gy rfl rfl rfl ?_
      refine QF.mv rfl rfl ?_
      refine QF.gy rfl rfl rfl ?_
      refine QF.mv rfl rfl ?_
      refine QF.gy rfl rfl rfl ?_
      refine QF.subw rfl rfl rfl ?_
      refine QF.gy rfl rfl rfl ?_
      refine QF.gtr rfl rfl rfl ?_
      refine QF.pick rfl rfl rfl ?_
      exact QF.cutn (sb 12 rfl (sb 7 rfl (sb 6 rfl (sb 5 rfl (sb 0 rfl (sb 1 rfl sb0))))))
  refine QF.rpn (sb 12 rfl (sb 0 rfl (sb 1 rfl sb0))) ?_
  refine WF.if_ rfl (fun c2 => ?_) (fun c2 => ?_)
  · skip
    have E := cdT c2 E
    refine WF.seq ?_
    refine WF.rp (.inl rfl) ?_
    refine QF.as_ rfl rfl ?_
    refine QF.rpn (sb 4 rfl sb0) ?_
    refine WF.ret (fun aa ww hf hw => ?_)
    cases E
    exact rtg hf rfl hw (rvc (rvT hf (v := _) rfl) rv0) rfl (Ext.refl S h) ⟨rfl, (show inI64 9223372036854775807 by unfold inI64; omega), hs⟩
  · skip
    have E := cdF c2 E
    refine WF.skip ?_
    refine WF.seq ?_
    refine WF.seq ?_
    refine WF.rp (.inl rfl) ?_
    refine QF.mv rfl rfl ?_
    refine QF.lss rfl rfl rfl ?_
    refine QF.mv rfl rfl ?_
    refine QF.cutv 5 20 (.bool ((decide (p1_b < 0)) && (decide (p0_a < (w64 ((-9223372036854775808) - p1_b)))))) ?_ ?_
    · cases c3 : (decide (p1_b < 0))
      · skip
        refine QF.gnF rfl rfl rfl rfl rfl ?_
        refine QF.gnF rfl rfl rfl rfl rfl ?_
        refine QF.gnF rfl rfl rfl rfl rfl ?_
        refine QF.gnF rfl rfl rfl rfl rfl ?_
        refine QF.pick rfl rfl rfl ?_
        exact QF.cutn (sb 20 rfl (sb 15 rfl (sb 14 rfl (sb 13 rfl (sb 12 rfl (sb 0 rfl (sb 1 rfl sb0)))))))
      · skip
        refine QF.gy rfl rfl rfl ?_
        refine QF.mv rfl rfl ?_
        refine QF.gy rfl rfl rfl ?_
        refine QF.mv rfl rfl ?_
        refine QF.gy rfl rfl rfl ?_
        refine QF.subw rfl rfl rfl ?_
        refine QF.gy rfl rfl rfl ?_
        refine QF.lss rfl rfl rfl ?_
        refine QF.pick rfl rfl rfl ?_
        exact QF.cutn (sb 20 rfl (sb 15 rfl (sb 14 rfl (sb 13 rfl (sb 12 rfl (sb 0 rfl (sb 1 rfl sb0)))))))
    refine QF.rpn (sb 20 rfl (sb 0 rfl (sb 1 rfl sb0))) ?_
    refine WF.if_ rfl (fun c4 => ?_) (fun c4 => ?_)
    · skip
      have E := cdT c4 E
      refine WF.seq ?_
      refine WF.rp (.inl rfl) ?_
      refine QF.as_ rfl rfl ?_
      refine QF.rpn (sb 4 rfl sb0) ?_
      refine WF.ret (fun aa ww hf hw => ?_)
      cases E
      exact rtg hf rfl hw (rvc (rvT hf (v := _) rfl) rv0) rfl (Ext.refl S h) ⟨rfl, (show inI64 (-9223372036854775808) by unfold inI64; omega), hs⟩
    · skip
      have E := cdF c4 E
      refine WF.skip ?_
      refine WF.seq ?_
      refine WF.rp (.inl rfl) ?_
      refine QF.mv rfl rfl ?_
      refine QF.mv rfl rfl ?_
      refine QF.addw rfl rfl rfl ?_
      refine QF.as_ rfl rfl ?_
      refine QF.rpn (sb 4 rfl sb0) ?_
      refine WF.ret (fun aa ww hf hw => ?_)
      cases E
      exact rtg hf rfl hw (rvc (rvT hf (v := _) rfl) rv0) rfl (Ext.refl S h) ⟨rfl, (w64_i _), hs⟩

set_option maxRecDepth 10000 in
set_option maxHeartbeats 2000000 in
theorem span_Right_ret {N : Nat} {S : Nat → Prop} {L : List HP} {h : Heap} (hs : St S L h) {v_p0_s : Value} {p0_s : GSpan} (h_p0_s : Rd S h RGSpan v_p0_s p0_s) {r : Bool} (E : f_span_Right N p0_s = some r) :
    Ret Try.prog 9 #[v_p0_s] S h (fun v S' h' => v = .bool r ∧ St S' (L) h') := by
  refine Ret.go (l := [v_p0_s]) 8 Try.func9 rfl Try.ntmps9 rfl fun B => ?_
  rw [f_span_Right] at E
  refine WF.seq ?_
  refine WF.rl ?_
  refine LF.boxp rfl h_p0_s (fun e => by cases e) rfl hs fun q1 S2 h3 hs4 e5 k6 => ?_
  refine LF.q 1 ?_
  refine QF.as_ rfl rfl ?_
  refine QF.ln ?_
  refine LF.nil (sb 1 rfl sb0) ?_
  refine WF.seq ?_
  refine WF.rp (.inl rfl) ?_
  refine QF.fa rfl k6 GSpan.f_Lo fa_34_0 rfl fun q7 k8 => ?_
  refine QF.ldi ckP hs4.1 rfl k8 ty_3 rfl fun r9 => ?_
  refine QF.fa rfl k6 GSpan.f_Hi fa_34_1 rfl fun q10 k11 => ?_
  refine QF.ldi ckP hs4.1 rfl k11 ty_3 rfl fun r12 => ?_
  refine QF.leq rfl rfl rfl ?_
  refine QF.as_ rfl rfl ?_
  refine QF.rpn (sb 2 rfl sb0) ?_
  refine WF.ret (fun aa ww hf hw => ?_)
  cases E
  exact rtg hf rfl hw (rvc (rvT hf (v := _) rfl) rv0) rfl e5 ⟨rfl, hs4⟩

set_option maxRecDepth 10000 in
set_option maxHeartbeats 2000000 in
theorem span_Meet_ret {N : Nat} {S : Nat → Prop} {L : List HP} {h : Heap} (hs : St S L h) {v_p0_a : Value} {p0_a : GSpan} (h_p0_a : Rd S h RGSpan v_p0_a p0_a) {v_p1_b : Value} {p1_b : GSpan} (h_p1_b : Rd S h RGSpan v_p1_b p1_b) {r : GSpan × Bool} (E : f_span_Meet N p0_a p1_b = some r) :
    Ret Try.prog 24 #[v_p0_a, v_p1_b] S h (fun v S' h' => v = .tuple #[.agg #[.int .i64 r.1.Lo, .int .i64 r.1.Hi], .bool r.2] ∧ GSpan.ok r.1 ∧ St S' (L) h') := by
  refine Ret.go (l := [v_p0_a, v_p1_b]) 23 Try.func24 rfl Try.ntmps24 rfl fun B => ?_
  rw [f_span_Meet] at E
  refine WF.seq ?_
  refine WF.rl ?_
  refine LF.boxp rfl h_p0_a (fun e => by cases e) rfl hs fun q1 S2 h3 hs4 e5 k6 => ?_
  have k7 := h_p1_b.mono e5
  refine LF.boxp rfl k7 (fun e => by cases e) rfl hs4 fun q8 S9 h10 hs11 e12 k13 => ?_
  refine LF.al zc_34 rfl hs11 fun b14 h15 hs16 e17 => ?_
  refine LF.q 1 ?_
  refine QF.as_ rfl rfl ?_
  refine QF.ln ?_
  refine LF.nil (sb 4 rfl (sb 3 rfl (sb 2 rfl sb0))) ?_
  refine WF.seq ?_
  refine WF.rl ?_
  refine LF.q 11 ?_
  have k18 := k6.mono (e12.trans e17)
  refine QF.fa rfl k18 GSpan.f_Lo fa_34_0 rfl fun q19 k20 => ?_
  refine QF.ldi ckP hs16.1 rfl k20 ty_3 rfl fun r21 => ?_
  have k22 := k13.mono e17
  refine QF.fa rfl k22 GSpan.f_Lo fa_34_0 rfl fun q23 k24 => ?_
  refine QF.ldi ckP hs16.1 rfl k24 ty_3 rfl fun r25 => ?_
  refine QF.max rfl rfl rfl ?_
  refine QF.fa rfl k18 GSpan.f_Hi fa_34_1 rfl fun q26 k27 => ?_
  refine QF.ldi ckP hs16.1 rfl k27 ty_3 rfl fun r28 => ?_
  refine QF.fa rfl k22 GSpan.f_Hi fa_34_1 rfl fun q29 k30 => ?_
  refine QF.ldi ckP hs16.1 rfl k30 ty_3 rfl fun r31 => ?_
  refine QF.min rfl rfl rfl ?_
  refine QF.bld (cs := [.int .i64 (max p0_a.Lo p1_b.Lo), .int .i64 (min p0_a.Hi p1_b.Hi)]) st_34 rfl rfl rfl ?_
  refine QF.ln ?_
  refine LF.al zc_34 rfl hs16 fun b32 h33 hs34 e35 => ?_
  refine LF.st (vs := [.int .i64 (max p0_a.Lo p1_b.Lo), .int .i64 (min p0_a.Hi p1_b.Hi)]) (cs' := [.int .i64 (max p0_a.Lo p1_b.Lo), .int .i64 (min p0_a.Hi p1_b.Hi)]) rfl rfl rfl (one_cons rfl (one_cons rfl one_nil)) ty_34 rfl hs34 .head rfl rfl fun h36 hs37 e38 => ?_
  refine LF.nil (sb 6 rfl (sb 4 rfl sb0)) ?_
  refine WF.seq ?_
  refine WF.seq ?_
  refine WF.rc (.inl rfl) hs37 ?_
  refine QF.ldo (vs := [.int .i64 (max p0_a.Lo p1_b.Lo), .int .i64 (min p0_a.Hi p1_b.Hi)]) ckC hs37 rfl mh rfl rfl ty_34 rfl rfl ?_
  obtain ⟨y39, hy39, E⟩ := bd E
  refine QF.callp (v := .bool y39) (Ψ := True) rfl rfl rfl ca_9 rfl (fun h' o => (span_Right_ret (St.all h') (RGSpan.mk (x := (⟨(max p0_a.Lo p1_b.Lo), (min p0_a.Hi p1_b.Hi)⟩ : GSpan)) ⟨(inI64_max r21 r25), (inI64_min r28 r31)⟩) hy39).mono fun _ _ _ _ p => ⟨p.1, trivial⟩) fun r40 => ?_
  refine QF.not rfl rfl ?_
  refine QF.rcn (sb 20 rfl (sb 6 rfl (sb 4 rfl sb0))) fun h41 hs42 e43 => ?_
  refine WF.if_ rfl (fun c44 => ?_) (fun c44 => ?_)
  · skip
    have E := cdT c44 E
    refine WF.seq ?_
    refine WF.rl ?_
    refine LF.q 1 ?_
    refine QF.bld (cs := [.int .i64 0, .int .i64 0]) st_34 rfl rfl rfl ?_
    refine QF.ln ?_
    refine LF.st (vs := [.int .i64 0, .int .i64 0]) (cs' := [.int .i64 0, .int .i64 0]) rfl rfl rfl (one_cons rfl (one_cons rfl one_nil)) ty_34 rfl hs42 (.tail .head) rfl rfl fun h45 hs46 e47 => ?_
    refine LF.q 1 ?_
    refine QF.as_ rfl rfl ?_
    refine QF.ln ?_
    refine LF.nil (sb 5 rfl (sb 4 rfl sb0)) ?_
    refine WF.ret (fun aa ww hf hw => ?_)
    have hs48 := hs46.pick (.tail .head)
    have hs49 := hs48.drop (.tail .head)
    have hs50 := hs49.drop .head
    cases E
    exact rtg hf rfl hw (rvc (rvC hf hw hs49 rfl mh ty_34 rfl) (rvc (rvT hf (v := _) rfl) rv0)) rfl (e5.trans (e12.trans (e17.trans (e35.trans (e38.trans (e43.trans e47)))))) ⟨rfl, ⟨(show inI64 0 by unfold inI64; omega), (show inI64 0 by unfold inI64; omega)⟩, hs50⟩
  · skip
    have E := cdF c44 E
    refine WF.skip ?_
    refine WF.seq ?_
    refine WF.rl ?_
    refine LF.q 1 ?_
    refine QF.ldo (vs := [.int .i64 (max p0_a.Lo p1_b.Lo), .int .i64 (min p0_a.Hi p1_b.Hi)]) ckP hs42 rfl mh rfl rfl ty_34 rfl rfl ?_
    refine QF.ln ?_
    refine LF.st (vs := [.int .i64 (max p0_a.Lo p1_b.Lo), .int .i64 (min p0_a.Hi p1_b.Hi)]) (cs' := [.int .i64 (max p0_a.Lo p1_b.Lo), .int .i64 (min p0_a.Hi p1_b.Hi)]) rfl rfl rfl (one_cons rfl (one_cons rfl one_nil)) ty_34 rfl hs42 (.tail .head) rfl rfl fun h51 hs52 e53 => ?_
    refine LF.q 1 ?_
    refine QF.as_ rfl rfl ?_
    refine QF.ln ?_
    refine LF.nil (sb 5 rfl (sb 4 rfl sb0)) ?_
    refine WF.ret (fun aa ww hf hw => ?_)
    have hs54 := hs52.pick (.tail .head)
    have hs55 := hs54.drop (.tail .head)
    have hs56 := hs55.drop .head
    cases E
    exact rtg hf rfl hw (rvc (rvC hf hw hs55 rfl mh ty_34 rfl) (rvc (rvT hf (v := _) rfl) rv0)) rfl (e5.trans (e12.trans (e17.trans (e35.trans (e38.trans (e43.trans e53)))))) ⟨rfl, ⟨(inI64_max r21 r25), (inI64_min r28 r31)⟩, hs56⟩

set_option maxRecDepth 10000 in
set_option maxHeartbeats 2000000 in
theorem fuse_Volume_ret {N : Nat} {S : Nat → Prop} {L : List HP} {h : Heap} (hs : St S L h) {v_p0_b : Value} {p0_b : GBasin} (h_p0_b : Rd S h RGBasin v_p0_b p0_b) {v_p1_r : Value} {p1_r : GReading} (h_p1_r : Rd S h RGReading v_p1_r p1_r) {r : GSpan × Bool} (E : f_fuse_Volume N p0_b p1_r = some r) :
    Ret Try.prog 8 #[v_p0_b, v_p1_r] S h (fun v S' h' => v = .tuple #[.agg #[.int .i64 r.1.Lo, .int .i64 r.1.Hi], .bool r.2] ∧ GSpan.ok r.1 ∧ St S' (L) h') := by
  refine Ret.go (l := [v_p0_b, v_p1_r]) 81 Try.func8 rfl Try.ntmps8 rfl fun B => ?_
  rw [f_fuse_Volume] at E
  refine WF.seq ?_
  refine WF.rl ?_
  refine LF.boxp rfl h_p0_b (fun e => by cases e) rfl hs fun q1 S2 h3 hs4 e5 k6 => ?_
  have k7 := h_p1_r.mono e5
  refine LF.boxp rfl k7 (fun e => by cases e) rfl hs4 fun q8 S9 h10 hs11 e12 k13 => ?_
  refine LF.al zc_34 rfl hs11 fun b14 h15 hs16 e17 => ?_
  refine LF.q 1 ?_
  refine QF.as_ rfl rfl ?_
  refine QF.ln ?_
  refine LF.nil (sb 4 rfl (sb 3 rfl (sb 2 rfl sb0))) ?_
  refine WF.seq ?_
  refine WF.rl ?_
  refine LF.q 2 ?_
  have k18 := k6.mono (e12.trans e17)
  refine QF.ld ckP hs16.1 rfl k18 ty_31 (fun e => by cases e) rfl fun v19 k20 => ?_
  have k21 := k13.mono e17
  refine QF.ld ckP hs16.1 rfl k21 ty_36 (fun e => by cases e) rfl fun v22 k23 => ?_
  refine QF.ln ?_
  obtain ⟨y24, hy24, E⟩ := bd E
  refine LF.callb rfl rfl rfl ca_20 rfl hs16 (fuse_gaugeOf_ret (St.all _) (k20.mono ⟨fun b hb => hs16.1 b hb, fun _ _ => rfl, Nat.le_refl _⟩) (k23.mono ⟨fun b hb => hs16.1 b hb, fun _ _ => rfl, Nat.le_refl _⟩) hy24) fun v25 S26 h27 hs29 e28 e36 p => ?_
  obtain ⟨rfl, ⟨r30, r31, r32, r33, r34⟩, hq35⟩ := p
  refine LF.q 3 ?_
  refine QF.mv rfl rfl ?_
  refine QF.ext rfl rfl rfl ?_
  refine QF.ext rfl rfl rfl ?_
  refine QF.ln ?_
  refine LF.al zc_44 rfl hs29 fun b37 h38 hs39 e40 => ?_
  refine LF.st (vs := [.string y24.1.Name, .int .i64 y24.1.Kind, .int .i64 y24.1.Target, .int .i64 y24.1.Err, .int .i64 y24.1.Drift]) (cs' := [.string y24.1.Name, .int .i64 y24.1.Kind, .int .i64 y24.1.Target, .int .i64 y24.1.Err, .int .i64 y24.1.Drift]) rfl rfl rfl (one_cons rfl (one_cons rfl (one_cons rfl (one_cons rfl (one_cons rfl one_nil))))) ty_44 rfl hs39 .head rfl rfl fun h41 hs42 e43 => ?_
  refine LF.q 1 ?_
  refine QF.as_ rfl rfl ?_
  refine QF.ln ?_
  refine LF.nil (sb 7 rfl (sb 6 rfl (sb 4 rfl (sb 3 rfl (sb 2 rfl sb0))))) ?_
  refine WF.seq ?_
  refine WF.seq ?_
  refine WF.rp (.inl rfl) ?_
  refine QF.mv rfl rfl ?_
  refine QF.not rfl rfl ?_
  refine QF.mv rfl rfl ?_
  refine QF.cutv 4 25 (.bool ((!y24.2) || (decide (y24.1.Kind ≠ 0)))) ?_ ?_
  · cases c44 : (!y24.2)
    · skip
      refine QF.gy rfl rfl rfl ?_
      refine QF.fao rfl fa_44_1 rfl ?_
      refine QF.gy rfl rfl rfl ?_
      refine QF.ldo (vs := [.int .i64 y24.1.Kind]) ckP hs42 rfl mh rfl rfl ty_3 rfl rfl ?_
      refine QF.gy rfl rfl rfl ?_
      refine QF.neq rfl rfl rfl ?_
      refine QF.pick rfl rfl rfl ?_
      exact QF.cutn (sb 25 rfl (sb 21 rfl (sb 20 rfl (sb 19 rfl (sb 7 rfl (sb 6 rfl (sb 4 rfl (sb 3 rfl (sb 2 rfl sb0)))))))))
    · skip
      refine QF.gnT rfl rfl rfl rfl rfl ?_
      refine QF.gnT rfl rfl rfl rfl rfl ?_
      refine QF.gnT rfl rfl rfl rfl rfl ?_
      refine QF.pick rfl rfl rfl ?_
      exact QF.cutn (sb 25 rfl (sb 21 rfl (sb 20 rfl (sb 19 rfl (sb 7 rfl (sb 6 rfl (sb 4 rfl (sb 3 rfl (sb 2 rfl sb0)))))))))
  refine QF.mv rfl rfl ?_
  refine QF.cutv 4 30 (.bool (((!y24.2) || (decide (y24.1.Kind ≠ 0))) || (decide (y24.1.Target < 0)))) ?_ ?_
  · cases c45 : ((!y24.2) || (decide (y24.1.Kind ≠ 0)))
    · skip
      refine QF.gy rfl rfl rfl ?_
      refine QF.fao rfl fa_44_2 rfl ?_
      refine QF.gy rfl rfl rfl ?_
      refine QF.ldo (vs := [.int .i64 y24.1.Target]) ckP hs42 rfl mh rfl rfl ty_3 rfl rfl ?_
      refine QF.gy rfl rfl rfl ?_
      refine QF.lss rfl rfl rfl ?_
      refine QF.pick rfl rfl rfl ?_
      exact QF.cutn (sb 30 rfl (sb 26 rfl (sb 25 rfl (sb 21 rfl (sb 20 rfl (sb 19 rfl (sb 7 rfl (sb 6 rfl (sb 4 rfl (sb 3 rfl (sb 2 rfl sb0)))))))))))
    · skip
      refine QF.gnT rfl rfl rfl rfl rfl ?_
      refine QF.gnT rfl rfl rfl rfl rfl ?_
      refine QF.gnT rfl rfl rfl rfl rfl ?_
      refine QF.pick rfl rfl rfl ?_
      exact QF.cutn (sb 30 rfl (sb 26 rfl (sb 25 rfl (sb 21 rfl (sb 20 rfl (sb 19 rfl (sb 7 rfl (sb 6 rfl (sb 4 rfl (sb 3 rfl (sb 2 rfl sb0)))))))))))
  refine QF.mv rfl rfl ?_
  refine QF.cutv 7 38 (.bool ((((!y24.2) || (decide (y24.1.Kind ≠ 0))) || (decide (y24.1.Target < 0))) || (decide ((↑p0_b.Places.length : Int) ≤ y24.1.Target)))) ?_ ?_
  · cases c46 : (((!y24.2) || (decide (y24.1.Kind ≠ 0))) || (decide (y24.1.Target < 0)))
    · skip
      refine QF.gy rfl rfl rfl ?_
      refine QF.fao rfl fa_44_2 rfl ?_
      refine QF.gy rfl rfl rfl ?_
      refine QF.ldo (vs := [.int .i64 y24.1.Target]) ckP hs42 rfl mh rfl rfl ty_3 rfl rfl ?_
      refine QF.gy rfl rfl rfl ?_
      have k47 := k18.mono (e28.trans (e40.trans e43))
      refine QF.fa rfl k47 GBasin.f_Places fa_31_3 rfl fun q48 k49 => ?_
      refine QF.gy rfl rfl rfl ?_
      refine QF.ldl ckP hs42.1 rfl k49 ty_23 rfl fun v50 k51 => ?_
      refine QF.gy rfl rfl rfl ?_
      refine QF.len rfl k51 sl_23 rfl fun b52 => ?_
      unfold maxLen at b52
      refine QF.gy rfl rfl rfl ?_
      refine QF.geq rfl rfl rfl ?_
      refine QF.pick rfl rfl rfl ?_
      exact QF.cutn (sb 38 rfl (sb 31 rfl (sb 30 rfl (sb 26 rfl (sb 25 rfl (sb 21 rfl (sb 20 rfl (sb 19 rfl (sb 7 rfl (sb 6 rfl (sb 4 rfl (sb 3 rfl (sb 2 rfl sb0)))))))))))))
    · skip
      refine QF.gnT rfl rfl rfl rfl rfl ?_
      refine QF.gnT rfl rfl rfl rfl rfl ?_
      refine QF.gnT rfl rfl rfl rfl rfl ?_
      refine QF.gnT rfl rfl rfl rfl rfl ?_
      refine QF.gnT rfl rfl rfl rfl rfl ?_
      refine QF.gnT rfl rfl rfl rfl rfl ?_
      refine QF.pick rfl rfl rfl ?_
      exact QF.cutn (sb 38 rfl (sb 31 rfl (sb 30 rfl (sb 26 rfl (sb 25 rfl (sb 21 rfl (sb 20 rfl (sb 19 rfl (sb 7 rfl (sb 6 rfl (sb 4 rfl (sb 3 rfl (sb 2 rfl sb0)))))))))))))
  refine QF.rpn (sb 38 rfl (sb 6 rfl (sb 4 rfl (sb 3 rfl (sb 2 rfl sb0))))) ?_
  refine WF.if_ rfl (fun c53 => ?_) (fun c53 => ?_)
  · skip
    have E := cdT c53 E
    refine WF.seq ?_
    refine WF.rl ?_
    refine LF.q 1 ?_
    refine QF.bld (cs := [.int .i64 0, .int .i64 0]) st_34 rfl rfl rfl ?_
    refine QF.ln ?_
    refine LF.st (vs := [.int .i64 0, .int .i64 0]) (cs' := [.int .i64 0, .int .i64 0]) rfl rfl rfl (one_cons rfl (one_cons rfl one_nil)) ty_34 rfl hs42 (.tail .head) rfl rfl fun h54 hs55 e56 => ?_
    refine LF.q 1 ?_
    refine QF.as_ rfl rfl ?_
    refine QF.ln ?_
    refine LF.nil (sb 5 rfl (sb 4 rfl sb0)) ?_
    refine WF.ret (fun aa ww hf hw => ?_)
    have hs57 := hs55.pick (.tail .head)
    have hs58 := hs57.drop (.tail .head)
    have hs59 := hs58.drop .head
    cases E
    exact rtg hf rfl hw (rvc (rvC hf hw hs58 rfl mh ty_34 rfl) (rvc (rvT hf (v := _) rfl) rv0)) rfl (e5.trans (e12.trans (e17.trans (e28.trans (e40.trans (e43.trans e56)))))) ⟨rfl, ⟨(show inI64 0 by unfold inI64; omega), (show inI64 0 by unfold inI64; omega)⟩, hs59⟩
  · skip
    have E := cdF c53 E
    refine WF.skip ?_
    refine WF.seq ?_
    refine WF.rp (.inl rfl) ?_
    have k60 := k18.mono (e28.trans (e40.trans e43))
    refine QF.fa rfl k60 GBasin.f_Places fa_31_3 rfl fun q61 k62 => ?_
    refine QF.ldl ckP hs42.1 rfl k62 ty_23 rfl fun v63 k64 => ?_
    refine QF.fao rfl fa_44_2 rfl ?_
    refine QF.ldo (vs := [.int .i64 y24.1.Target]) ckP hs42 rfl mh rfl rfl ty_3 rfl rfl ?_
    obtain ⟨x65, hx65, E⟩ := bd E
    refine QF.ixe rfl rfl k64 sl_23 hx65 rfl fun q66 k67 => ?_
    refine QF.fa rfl k67 GPlace.f_Level fa_70_4 rfl fun q68 k69 => ?_
    refine QF.ldl ckP hs42.1 rfl k69 ty_67 rfl fun v70 k71 => ?_
    refine QF.as_ rfl rfl ?_
    refine QF.rpn (sb 8 rfl (sb 4 rfl (sb 3 rfl sb0))) ?_
    refine WF.seq ?_
    refine WF.seq ?_
    refine WF.rc (.inl rfl) hs42 ?_
    refine QF.mv rfl rfl ?_
    obtain ⟨y72, hy72, E⟩ := bd E
    refine QF.callp (v := .bool y72) (Ψ := True) rfl rfl rfl ca_21 rfl (fun h' o => (curve_Right_ret (St.all h') (k71.mono' (o.all hs42.1)) hy72).mono fun _ _ _ _ p => ⟨p.1, trivial⟩) fun r73 => ?_
    refine QF.not rfl rfl ?_
    refine QF.rcn (sb 49 rfl (sb 8 rfl (sb 4 rfl (sb 3 rfl sb0)))) fun h74 hs75 e76 => ?_
    refine WF.if_ rfl (fun c77 => ?_) (fun c77 => ?_)
    · skip
      have E := cdT c77 E
      refine WF.seq ?_
      refine WF.rl ?_
      refine LF.q 1 ?_
      refine QF.bld (cs := [.int .i64 0, .int .i64 0]) st_34 rfl rfl rfl ?_
      refine QF.ln ?_
      refine LF.st (vs := [.int .i64 0, .int .i64 0]) (cs' := [.int .i64 0, .int .i64 0]) rfl rfl rfl (one_cons rfl (one_cons rfl one_nil)) ty_34 rfl hs75 (.tail .head) rfl rfl fun h78 hs79 e80 => ?_
      refine LF.q 1 ?_
      refine QF.as_ rfl rfl ?_
      refine QF.ln ?_
      refine LF.nil (sb 5 rfl (sb 4 rfl sb0)) ?_
      refine WF.ret (fun aa ww hf hw => ?_)
      have hs81 := hs79.pick (.tail .head)
      have hs82 := hs81.drop (.tail .head)
      have hs83 := hs82.drop .head
      cases E
      exact rtg hf rfl hw (rvc (rvC hf hw hs82 rfl mh ty_34 rfl) (rvc (rvT hf (v := _) rfl) rv0)) rfl (e5.trans (e12.trans (e17.trans (e28.trans (e40.trans (e43.trans (e76.trans e80))))))) ⟨rfl, ⟨(show inI64 0 by unfold inI64; omega), (show inI64 0 by unfold inI64; omega)⟩, hs83⟩
    · skip
      have E := cdF c77 E
      refine WF.skip ?_
      refine WF.seq ?_
      refine WF.rc (.inl rfl) hs75 ?_
      refine QF.mv rfl rfl ?_
      have k84 := k21.mono (e28.trans (e40.trans (e43.trans e76)))
      refine QF.fa rfl k84 GReading.f_Value fa_36_2 rfl fun q85 k86 => ?_
      refine QF.fa rfl k86 GSpan.f_Lo fa_34_0 rfl fun q87 k88 => ?_
      refine QF.ldi ckC hs75.1 rfl k88 ty_3 rfl fun r89 => ?_
      have k90 := k71.mono' e76
      obtain ⟨y91, hy91, E⟩ := bd E
      refine QF.callp (v := .tuple #[.int .i64 y91.1, .bool y91.2]) (Ψ := inI64 y91.1) rfl rfl rfl ca_22 rfl (fun h' o => (curve_Least_ret (St.all h') (k90.mono' (o.all hs75.1)) r89 hy91).mono fun _ _ _ _ p => ⟨p.1, p.2.1⟩) fun r92 => ?_
      have r93 := r92
      refine QF.mv rfl rfl ?_
      refine QF.ext rfl rfl rfl ?_
      refine QF.ext rfl rfl rfl ?_
      refine QF.as_ rfl rfl ?_
      refine QF.as_ rfl rfl ?_
      refine QF.rcn (sb 7 rfl (sb 9 rfl (sb 8 rfl (sb 4 rfl (sb 3 rfl sb0))))) fun h94 hs95 e96 => ?_
      refine WF.seq ?_
      refine WF.seq ?_
      refine WF.rp (.inl rfl) ?_
      refine QF.mv rfl rfl ?_
      refine QF.not rfl rfl ?_
      refine QF.rpn (sb 60 rfl (sb 9 rfl (sb 8 rfl (sb 4 rfl (sb 3 rfl sb0))))) ?_
      refine WF.if_ rfl (fun c97 => ?_) (fun c97 => ?_)
      · skip
        have E := cdT c97 E
        refine WF.seq ?_
        refine WF.rl ?_
        refine LF.q 1 ?_
        refine QF.bld (cs := [.int .i64 0, .int .i64 0]) st_34 rfl rfl rfl ?_
        refine QF.ln ?_
        refine LF.st (vs := [.int .i64 0, .int .i64 0]) (cs' := [.int .i64 0, .int .i64 0]) rfl rfl rfl (one_cons rfl (one_cons rfl one_nil)) ty_34 rfl hs95 (.tail .head) rfl rfl fun h98 hs99 e100 => ?_
        refine LF.q 1 ?_
        refine QF.as_ rfl rfl ?_
        refine QF.ln ?_
        refine LF.nil (sb 5 rfl (sb 4 rfl sb0)) ?_
        refine WF.ret (fun aa ww hf hw => ?_)
        have hs101 := hs99.pick (.tail .head)
        have hs102 := hs101.drop (.tail .head)
        have hs103 := hs102.drop .head
        cases E
        exact rtg hf rfl hw (rvc (rvC hf hw hs102 rfl mh ty_34 rfl) (rvc (rvT hf (v := _) rfl) rv0)) rfl (e5.trans (e12.trans (e17.trans (e28.trans (e40.trans (e43.trans (e76.trans (e96.trans e100)))))))) ⟨rfl, ⟨(show inI64 0 by unfold inI64; omega), (show inI64 0 by unfold inI64; omega)⟩, hs103⟩
      · skip
        have E := cdF c97 E
        refine WF.skip ?_
        refine WF.seq ?_
        refine WF.rp (.inl rfl) ?_
        refine QF.as_ rfl rfl ?_
        refine QF.rpn (sb 10 rfl (sb 9 rfl (sb 8 rfl (sb 4 rfl (sb 3 rfl sb0))))) ?_
        refine WF.seq ?_
        refine WF.seq ?_
        refine WF.rc (.inl rfl) hs95 ?_
        refine QF.mv rfl rfl ?_
        have k104 := k84.mono e96
        refine QF.fa rfl k104 GReading.f_Value fa_36_2 rfl fun q105 k106 => ?_
        refine QF.fa rfl k106 GSpan.f_Hi fa_34_1 rfl fun q107 k108 => ?_
        refine QF.ldi ckC hs95.1 rfl k108 ty_3 rfl fun r109 => ?_
        obtain ⟨y110, hy110, E⟩ := bd E
        refine QF.callp (v := .int .i64 y110) (Ψ := inI64 y110) rfl rfl rfl ca_23 rfl (fun h' o => (exact_Add_ret (St.all h') r109 (show inI64 1 by unfold inI64; omega) hy110).mono fun _ _ _ _ p => ⟨p.1, p.2.1⟩) fun r111 => ?_
        have r112 := r111
        have k113 := k71.mono' (e76.trans e96)
        obtain ⟨y114, hy114, E⟩ := bd E
        refine QF.callp (v := .tuple #[.int .i64 y114.1, .bool y114.2]) (Ψ := inI64 y114.1) rfl rfl rfl ca_22 rfl (fun h' o => (curve_Least_ret (St.all h') (k113.mono' (o.all hs95.1)) r112 hy114).mono fun _ _ _ _ p => ⟨p.1, p.2.1⟩) fun r115 => ?_
        have r116 := r115
        refine QF.mv rfl rfl ?_
        refine QF.ext rfl rfl rfl ?_
        refine QF.ext rfl rfl rfl ?_
        refine QF.as_ rfl rfl ?_
        refine QF.as_ rfl rfl ?_
        refine QF.rcn (sb 12 rfl (sb 11 rfl (sb 10 rfl (sb 9 rfl (sb 4 rfl sb0))))) fun h117 hs118 e119 => ?_
        refine WF.seq ?_
        refine WF.rp (.inl rfl) ?_
        refine QF.mv rfl rfl ?_
        refine QF.rpn (sb 71 rfl (sb 11 rfl (sb 10 rfl (sb 9 rfl (sb 4 rfl sb0))))) ?_
        refine WF.cut (fun a w => ∃ (i120 : Int) (S' : Nat → Prop) (h' : Heap), Fr 81 a [(9, .int .i64 y91.1), (4, .pointer (some ⟨b14, 0, none⟩)), (10, .int .i64 i120)] ∧ Wd B h' w ∧ St S' (Bx b14 34 [.int .i64 0, .int .i64 0] :: L) h' ∧ Ext S9 h117 S' h' ∧ inI64 i120 ∧ f_fuse_Volume_j0 N y91 i120 = some r) ?_ ?_
        · skip
          refine WF.if_ rfl (fun c122 => ?_) (fun c122 => ?_)
          · skip
            have E := cdT c122 E
            refine WF.rp (.inl rfl) ?_
            refine QF.mv rfl rfl ?_
            refine QF.subw rfl rfl rfl ?_
            refine QF.as_ rfl rfl ?_
            refine QF.rpn (sb 10 rfl (sb 9 rfl (sb 4 rfl sb0))) ?_
            refine WF.nil (fun aa ww hf hw => ?_)
            have hs123 := hs118.pick (.tail .head)
            have hs124 := hs123.drop (.tail .head)
            exact ⟨(w64 (y114.1 - 1)), _, _, hf.sub (sb 9 rfl (sb 4 rfl (sb 10 rfl sb0))), hw, hs124, (Ext.refl S9 h117), (w64_i _), E⟩
          · skip
            have E := cdF c122 E
            refine WF.skip ?_
            refine WF.nil (fun aa ww hf hw => ?_)
            have hs125 := hs118.pick (.tail .head)
            have hs126 := hs125.drop (.tail .head)
            exact ⟨1125899906842624, _, _, hf.sub (sb 9 rfl (sb 4 rfl (sb 10 rfl sb0))), hw, hs126, (Ext.refl S9 h117), (show inI64 1125899906842624 by unfold inI64; omega), E⟩
        · skip
          rintro aa ww ⟨i120, S127, h128, hf, hw, hs129, e130, r121, E⟩
          refine WF.run ?_ hf hw
          clear hf hw ww aa
          rw [f_fuse_Volume_j0] at E
          refine WF.seq ?_
          refine WF.rl ?_
          refine LF.q 4 ?_
          refine QF.mv rfl rfl ?_
          refine QF.mv rfl rfl ?_
          refine QF.bld (cs := [.int .i64 y91.1, .int .i64 i120]) st_34 rfl rfl rfl ?_
          refine QF.bld (cs := [.int .i64 0, .int .i64 1125899906842624]) st_34 rfl rfl rfl ?_
          refine QF.ln ?_
          obtain ⟨y131, hy131, E⟩ := bd E
          refine LF.callb rfl rfl rfl ca_24 rfl hs129 (span_Meet_ret (St.all _) (RGSpan.mk (x := (⟨y91.1, i120⟩ : GSpan)) ⟨r93, r121⟩) (RGSpan.mk (x := (⟨0, 1125899906842624⟩ : GSpan)) ⟨(show inI64 0 by unfold inI64; omega), (show inI64 1125899906842624 by unfold inI64; omega)⟩) hy131) fun v132 S133 h134 hs136 e135 e140 p => ?_
          obtain ⟨rfl, ⟨r137, r138⟩, hq139⟩ := p
          refine LF.q 2 ?_
          refine QF.ext rfl rfl rfl ?_
          refine QF.ext rfl rfl rfl ?_
          refine QF.ln ?_
          refine LF.st (vs := [.int .i64 y131.1.Lo, .int .i64 y131.1.Hi]) (cs' := [.int .i64 y131.1.Lo, .int .i64 y131.1.Hi]) rfl rfl rfl (one_cons rfl (one_cons rfl one_nil)) ty_34 rfl hs136 .head rfl rfl fun h141 hs142 e143 => ?_
          refine LF.q 1 ?_
          refine QF.as_ rfl rfl ?_
          refine QF.ln ?_
          refine LF.nil (sb 5 rfl (sb 4 rfl sb0)) ?_
          refine WF.ret (fun aa ww hf hw => ?_)
          have hs144 := hs142.drop .head
          cases E
          exact rtg hf rfl hw (rvc (rvC hf hw hs142 rfl mh ty_34 rfl) (rvc (rvT hf (v := _) rfl) rv0)) rfl (e5.trans (e12.trans (e17.trans (e28.trans (e40.trans (e43.trans (e76.trans (e96.trans (e119.trans (e130.trans (e135.trans e143))))))))))) ⟨rfl, ⟨r137, r138⟩, hs144⟩

set_option maxRecDepth 10000 in
set_option maxHeartbeats 2000000 in
theorem alarm_Quorum_ret {N : Nat} {S : Nat → Prop} {L : List HP} {h : Heap} (hs : St S L h) {v_p0_b : Value} {p0_b : GBasin} (h_p0_b : Rd S h RGBasin v_p0_b p0_b) {p1_town : Int} (h_p1_town : inI64 p1_town) {v_p2_readings : Value} {p2_readings : (List GReading)} (h_p2_readings : Sl S h RGReading v_p2_readings p2_readings) {r : Bool} (E : f_alarm_Quorum N p0_b p1_town p2_readings = some r) :
    Ret Try.prog 7 #[v_p0_b, .int .i64 p1_town, v_p2_readings] S h (fun v S' h' => v = .bool r ∧ St S' (L) h') := by
  refine Ret.go (l := [v_p0_b, .int .i64 p1_town, v_p2_readings]) 107 Try.func7 rfl Try.ntmps7 rfl fun B => ?_
  rw [f_alarm_Quorum] at E
  refine WF.seq ?_
  refine WF.rl ?_
  refine LF.boxp rfl h_p0_b (fun e => by cases e) rfl hs fun q1 S2 h3 hs4 e5 k6 => ?_
  refine LF.q 1 ?_
  refine QF.as_ rfl rfl ?_
  refine QF.ln ?_
  refine LF.nil (sb 3 rfl (sb 1 rfl (sb 2 rfl sb0))) ?_
  refine WF.seq ?_
  refine WF.seq ?_
  refine WF.rp (.inl rfl) ?_
  refine QF.mv rfl rfl ?_
  refine QF.lss rfl rfl rfl ?_
  refine QF.mv rfl rfl ?_
  refine QF.cutv 6 23 (.bool ((decide (p1_town < 0)) || (decide ((↑p0_b.Towns.length : Int) ≤ p1_town)))) ?_ ?_
  · cases c7 : (decide (p1_town < 0))
    · skip
      refine QF.gy rfl rfl rfl ?_
      refine QF.mv rfl rfl ?_
      refine QF.gy rfl rfl rfl ?_
      refine QF.fa rfl k6 GBasin.f_Towns fa_31_5 rfl fun q8 k9 => ?_
      refine QF.gy rfl rfl rfl ?_
      refine QF.ldl ckP hs4.1 rfl k9 ty_25 rfl fun v10 k11 => ?_
      refine QF.gy rfl rfl rfl ?_
      refine QF.len rfl k11 sl_25 rfl fun b12 => ?_
      unfold maxLen at b12
      refine QF.gy rfl rfl rfl ?_
      refine QF.geq rfl rfl rfl ?_
      refine QF.pick rfl rfl rfl ?_
      exact QF.cutn (sb 23 rfl (sb 17 rfl (sb 16 rfl (sb 15 rfl (sb 3 rfl (sb 1 rfl (sb 2 rfl sb0)))))))
    · skip
      refine QF.gnT rfl rfl rfl rfl rfl ?_
      refine QF.gnT rfl rfl rfl rfl rfl ?_
      refine QF.gnT rfl rfl rfl rfl rfl ?_
      refine QF.gnT rfl rfl rfl rfl rfl ?_
      refine QF.gnT rfl rfl rfl rfl rfl ?_
      refine QF.pick rfl rfl rfl ?_
      exact QF.cutn (sb 23 rfl (sb 17 rfl (sb 16 rfl (sb 15 rfl (sb 3 rfl (sb 1 rfl (sb 2 rfl sb0)))))))
  refine QF.mv rfl rfl ?_
  obtain ⟨b14, hb14, E⟩ := bd E
  refine QF.cutv 8 32 (.bool b14) ?_ ?_
  · cases c13 : ((decide (p1_town < 0)) || (decide ((↑p0_b.Towns.length : Int) ≤ p1_town)))
    · skip
      have hb14 := cdF c13 hb14
      refine QF.gy rfl rfl rfl ?_
      refine QF.fa rfl k6 GBasin.f_Towns fa_31_5 rfl fun q15 k16 => ?_
      refine QF.gy rfl rfl rfl ?_
      refine QF.ldl ckP hs4.1 rfl k16 ty_25 rfl fun v17 k18 => ?_
      refine QF.gy rfl rfl rfl ?_
      refine QF.mv rfl rfl ?_
      refine QF.gy rfl rfl rfl ?_
      obtain ⟨x19, hx19, hb14⟩ := bd hb14
      refine QF.ixe rfl rfl k18 sl_25 hx19 rfl fun q20 k21 => ?_
      refine QF.gy rfl rfl rfl ?_
      refine QF.fa rfl k21 GTown.f_Quorum fa_41_6 rfl fun q22 k23 => ?_
      refine QF.gy rfl rfl rfl ?_
      refine QF.ldi ckP hs4.1 rfl k23 ty_3 rfl fun r24 => ?_
      refine QF.gy rfl rfl rfl ?_
      refine QF.leq rfl rfl rfl ?_
      refine QF.pick rfl rfl rfl ?_
      cases hb14
      exact QF.cutn (sb 32 rfl (sb 24 rfl (sb 23 rfl (sb 17 rfl (sb 16 rfl (sb 15 rfl (sb 3 rfl (sb 1 rfl (sb 2 rfl sb0)))))))))
    · skip
      have hb14 := cdT c13 hb14
      cases hb14
      refine QF.gnT rfl rfl rfl rfl rfl ?_
      refine QF.gnT rfl rfl rfl rfl rfl ?_
      refine QF.gnT rfl rfl rfl rfl rfl ?_
      refine QF.gnT rfl rfl rfl rfl rfl ?_
      refine QF.gnT rfl rfl rfl rfl rfl ?_
      refine QF.gnT rfl rfl rfl rfl rfl ?_
      refine QF.gnT rfl rfl rfl rfl rfl ?_
      refine QF.pick rfl rfl rfl ?_
      exact QF.cutn (sb 32 rfl (sb 24 rfl (sb 23 rfl (sb 17 rfl (sb 16 rfl (sb 15 rfl (sb 3 rfl (sb 1 rfl (sb 2 rfl sb0)))))))))
  refine QF.rpn (sb 32 rfl (sb 3 rfl (sb 1 rfl (sb 2 rfl sb0)))) ?_
  refine WF.if_ rfl (fun c25 => ?_) (fun c25 => ?_)
  · skip
    have E := cdT c25 E
    refine WF.seq ?_
    refine WF.rp (.inl rfl) ?_
    refine QF.as_ rfl rfl ?_
    refine QF.rpn (sb 6 rfl sb0) ?_
    refine WF.ret (fun aa ww hf hw => ?_)
    cases E
    exact rtg hf rfl hw (rvc (rvT hf (v := _) rfl) rv0) rfl e5 ⟨rfl, hs4⟩
  · skip
    have E := cdF c25 E
    refine WF.skip ?_
    refine WF.seq ?_
    refine WF.rl ?_
    refine LF.q 5 ?_
    refine QF.fa rfl k6 GBasin.f_Towns fa_31_5 rfl fun q26 k27 => ?_
    refine QF.ldl ckP hs4.1 rfl k27 ty_25 rfl fun v28 k29 => ?_
    refine QF.mv rfl rfl ?_
    obtain ⟨x30, hx30, E⟩ := bd E
    refine QF.ixe rfl rfl k29 sl_25 hx30 rfl fun q31 k32 => ?_
    refine QF.ld ckP hs4.1 rfl k32 ty_41 (fun e => by cases e) rfl fun v33 k34 => ?_
    refine QF.ln ?_
    refine LF.al zc_41 rfl hs4 fun b35 h36 hs37 e38 => ?_
    have k39 := k34.mono e38
    obtain ⟨rfl, ⟨r41, r42, r43, r44, r45, r46, r47⟩⟩ := RGTown.ex k39
    refine LF.st (vs := [.string x30.Name, .int .i64 x30.Place, .int .i64 x30.Flood, .int .i64 x30.Lead, .int .i64 x30.People, .int .i64 x30.Watch, .int .i64 x30.Quorum]) (cs' := [.string x30.Name, .int .i64 x30.Place, .int .i64 x30.Flood, .int .i64 x30.Lead, .int .i64 x30.People, .int .i64 x30.Watch, .int .i64 x30.Quorum]) rfl rfl rfl (one_cons rfl (one_cons rfl (one_cons rfl (one_cons rfl (one_cons rfl (one_cons rfl (one_cons rfl one_nil))))))) ty_41 rfl hs37 .head rfl rfl fun h48 hs49 e50 => ?_
    refine LF.nil (sb 7 rfl (sb 3 rfl (sb 2 rfl sb0))) ?_
    refine WF.seq ?_
    refine WF.rl ?_
    refine LF.q 3 ?_
    have k51 := k6.mono (e38.trans e50)
    refine QF.fa rfl k51 GBasin.f_Gauges fa_31_6 rfl fun q52 k53 => ?_
    refine QF.ldl ckP hs49.1 rfl k53 ty_26 rfl fun v54 k55 => ?_
    refine QF.len rfl k55 sl_26 rfl fun b56 => ?_
    unfold maxLen at b56
    refine QF.ln ?_
    obtain ⟨ck57, E⟩ := ck1 E
    refine LF.mke (r := Rep.bool) (zx := false) el_64 rfl rfl rfl rfl ck57 rfl rfl hs49 fun v58 h59 hs60 e61 => ?_
    refine LF.q 1 ?_
    refine QF.as_ rfl rfl ?_
    refine QF.ln ?_
    refine LF.nil (sb 8 rfl (sb 7 rfl (sb 3 rfl (sb 2 rfl sb0)))) ?_
    refine WF.seq ?_
    refine WF.rp (.inl rfl) ?_
    refine QF.as_ rfl rfl ?_
    refine QF.rpn (sb 9 rfl (sb 8 rfl (sb 7 rfl (sb 3 rfl (sb 2 rfl sb0))))) ?_
    refine WF.seq ?_
    refine WF.seq ?_
    refine WF.rp (.inl rfl) ?_
    refine QF.mv rfl rfl ?_
    have k62 := h_p2_readings.mono' (e5.trans (e38.trans (e50.trans e61)))
    refine QF.len rfl k62 sl_32 rfl fun b63 => ?_
    unfold maxLen at b63
    refine QF.mv rfl rfl ?_
    refine QF.rpn (sb 44 rfl (sb 43 rfl (sb 42 rfl (sb 9 rfl (sb 8 rfl (sb 7 rfl (sb 3 rfl sb0))))))) ?_
    refine WF.blockJ (fun a w => ∃ (i64 : Int) (S' : Nat → Prop) (h' : Heap), Fr 107 a [(7, .pointer (some ⟨b35, 0, none⟩)), (9, .int .i64 i64)] ∧ Wd B h' w ∧ St S' (Bx b35 41 [.string x30.Name, .int .i64 x30.Place, .int .i64 x30.Flood, .int .i64 x30.Lead, .int .i64 x30.People, .int .i64 x30.Watch, .int .i64 x30.Quorum] :: L) h' ∧ Ext S2 h59 S' h' ∧ inI64 i64 ∧ f_alarm_Quorum_j0 N x30 i64 = some r) ?_ ?_
    · skip
      refine WF.loopF (fun n1 => fun a w => ∃ (i71 : Int) (i73 : Int) (l75 : List Bool) (S' : Nat → Prop) (h' : Heap), Fr 107 a [(43, .int .i64 (↑p2_readings.length : Int)), (42, v_p2_readings), (8, v58), (7, .pointer (some ⟨b35, 0, none⟩)), (3, q1), (9, .int .i64 i71), (44, .int .i64 i73)] ∧ Wd B h' w ∧ St S' (OS Rep.bool 4 v58 l75 :: Bx b35 41 [.string x30.Name, .int .i64 x30.Place, .int .i64 x30.Flood, .int .i64 x30.Lead, .int .i64 x30.People, .int .i64 x30.Watch, .int .i64 x30.Quorum] :: L) h' ∧ Ext S2 h59 S' h' ∧ inI64 i71 ∧ inI64 i73 ∧ f_alarm_Quorum_l1 N p0_b p2_readings x30 (f_alarm_Quorum_j0 N x30) n1 i71 i73 l75 = some r) N ?_ ?_ ?_
      · intro aa ww hf hw
        exact ⟨0, 0, (List.replicate ((↑p0_b.Gauges.length : Int) : Int).toNat false), _, _, hf.sub (sb 43 rfl (sb 42 rfl (sb 8 rfl (sb 7 rfl (sb 3 rfl (sb 9 rfl (sb 44 rfl sb0))))))), hw, hs60, (Ext.refl S2 h59), (show inI64 0 by unfold inI64; omega), (show inI64 0 by unfold inI64; omega), E⟩
      · rintro aa ww ⟨_, _, _, _, _, _, _, _, _, _, _, E⟩
        rw [f_alarm_Quorum_l1] at E; cases E
      · skip
        rintro n1 aa ww ⟨i71, i73, l75, S76, h77, hf, hw, hs78, e79, r72, r74, E⟩
        refine WF.run ?_ hf hw
        clear hf hw ww aa
        rw [f_alarm_Quorum_l1] at E
        refine WF.seq ?_
        refine WF.rp (.inl rfl) ?_
        refine QF.lss rfl rfl rfl ?_
        refine QF.rpn (sb 45 rfl (sb 43 rfl (sb 42 rfl (sb 8 rfl (sb 7 rfl (sb 3 rfl (sb 9 rfl (sb 44 rfl sb0)))))))) ?_
        refine WF.seq ?_
        refine WF.if_ rfl (fun c80 => ?_) (fun c80 => ?_)
        · skip
          have E := cdT c80 E
          refine WF.skip ?_
          refine WF.seq ?_
          refine WF.blockJ (fun a w => ∃ (i81 : Int) (l83 : List Bool) (S' : Nat → Prop) (h' : Heap), Fr 107 a [(43, .int .i64 (↑p2_readings.length : Int)), (42, v_p2_readings), (8, v58), (7, .pointer (some ⟨b35, 0, none⟩)), (3, q1), (44, .int .i64 i73), (9, .int .i64 i81)] ∧ Wd B h' w ∧ St S' (OS Rep.bool 4 v58 l83 :: Bx b35 41 [.string x30.Name, .int .i64 x30.Place, .int .i64 x30.Flood, .int .i64 x30.Lead, .int .i64 x30.People, .int .i64 x30.Watch, .int .i64 x30.Quorum] :: L) h' ∧ Ext S76 h77 S' h' ∧ inI64 i81 ∧ f_alarm_Quorum_j2 N i73 (f_alarm_Quorum_l1 N p0_b p2_readings x30 (f_alarm_Quorum_j0 N x30) n1) i81 l83 = some r) ?_ ?_
          · skip
            refine WF.seq ?_
            refine WF.rl ?_
            refine LF.q 2 ?_
            have k84 := k62.mono' e79
            obtain ⟨x85, hx85, E⟩ := bd E
            refine QF.ixe rfl rfl k84 sl_32 hx85 rfl fun q86 k87 => ?_
            refine QF.ld ckP hs78.1 rfl k87 ty_36 (fun e => by cases e) rfl fun v88 k89 => ?_
            refine QF.ln ?_
            refine LF.al zc_36 rfl hs78 fun b90 h91 hs92 e93 => ?_
            have k94 := k89.mono e93
            obtain ⟨rfl, ⟨r96, r97, r98, r99⟩⟩ := RGReading.ex k94
            refine LF.st (vs := [.int .i64 x85.Gauge, .int .i64 x85.Hour, .int .i64 x85.Value.Lo, .int .i64 x85.Value.Hi]) (cs' := [.int .i64 x85.Gauge, .int .i64 x85.Hour, .int .i64 x85.Value.Lo, .int .i64 x85.Value.Hi]) rfl rfl rfl (one_cons rfl (one_cons rfl (one_cons rfl (one_cons rfl one_nil)))) ty_36 rfl hs92 .head rfl rfl fun h100 hs101 e102 => ?_
            refine LF.nil (sb 11 rfl (sb 43 rfl (sb 42 rfl (sb 8 rfl (sb 7 rfl (sb 3 rfl (sb 9 rfl (sb 44 rfl sb0)))))))) ?_
            refine WF.seq ?_
            refine WF.seq ?_
            refine WF.rp (.inl rfl) ?_
            refine QF.fao rfl fa_36_0 rfl ?_
            refine QF.ldo (vs := [.int .i64 x85.Gauge]) ckP hs101 rfl mh rfl rfl ty_3 rfl rfl ?_
            refine QF.lss rfl rfl rfl ?_
            refine QF.mv rfl rfl ?_
            refine QF.cutv 7 58 (.bool ((decide (x85.Gauge < 0)) || (decide ((↑p0_b.Gauges.length : Int) ≤ x85.Gauge)))) ?_ ?_
            · cases c103 : (decide (x85.Gauge < 0))
              · skip
                refine QF.gy rfl rfl rfl ?_
                refine QF.fao rfl fa_36_0 rfl ?_
                refine QF.gy rfl rfl rfl ?_
                refine QF.ldo (vs := [.int .i64 x85.Gauge]) ckP hs101 rfl mh rfl rfl ty_3 rfl rfl ?_
                refine QF.gy rfl rfl rfl ?_
                have k104 := k51.mono (e61.trans (e79.trans (e93.trans e102)))
                refine QF.fa rfl k104 GBasin.f_Gauges fa_31_6 rfl fun q105 k106 => ?_
                refine QF.gy rfl rfl rfl ?_
                refine QF.ldl ckP hs101.1 rfl k106 ty_26 rfl fun v107 k108 => ?_
                refine QF.gy rfl rfl rfl ?_
                refine QF.len rfl k108 sl_26 rfl fun b109 => ?_
                unfold maxLen at b109
                refine QF.gy rfl rfl rfl ?_
                refine QF.geq rfl rfl rfl ?_
                refine QF.pick rfl rfl rfl ?_
                exact QF.cutn (sb 58 rfl (sb 51 rfl (sb 50 rfl (sb 49 rfl (sb 48 rfl (sb 11 rfl (sb 43 rfl (sb 42 rfl (sb 8 rfl (sb 7 rfl (sb 3 rfl (sb 9 rfl (sb 44 rfl sb0)))))))))))))
              · skip
                refine QF.gnT rfl rfl rfl rfl rfl ?_
                refine QF.gnT rfl rfl rfl rfl rfl ?_
                refine QF.gnT rfl rfl rfl rfl rfl ?_
                refine QF.gnT rfl rfl rfl rfl rfl ?_
                refine QF.gnT rfl rfl rfl rfl rfl ?_
                refine QF.gnT rfl rfl rfl rfl rfl ?_
                refine QF.pick rfl rfl rfl ?_
                exact QF.cutn (sb 58 rfl (sb 51 rfl (sb 50 rfl (sb 49 rfl (sb 48 rfl (sb 11 rfl (sb 43 rfl (sb 42 rfl (sb 8 rfl (sb 7 rfl (sb 3 rfl (sb 9 rfl (sb 44 rfl sb0)))))))))))))
            refine QF.mv rfl rfl ?_
            obtain ⟨b111, hb111, E⟩ := bd E
            refine QF.cutv 6 65 (.bool b111) ?_ ?_
            · cases c110 : ((decide (x85.Gauge < 0)) || (decide ((↑p0_b.Gauges.length : Int) ≤ x85.Gauge)))
              · skip
                have hb111 := cdF c110 hb111
                refine QF.gy rfl rfl rfl ?_
                refine QF.mv rfl rfl ?_
                refine QF.gy rfl rfl rfl ?_
                refine QF.fao rfl fa_36_0 rfl ?_
                refine QF.gy rfl rfl rfl ?_
                refine QF.ldo (vs := [.int .i64 x85.Gauge]) ckP hs101 rfl mh rfl rfl ty_3 rfl rfl ?_
                refine QF.gy rfl rfl rfl ?_
                obtain ⟨x114, hx114, hb111⟩ := bd hb111
                refine QF.ixoe hs101 (mt mh) rfl rfl sl_64 hx114 rfl fun q112 ep113 => ?_
                refine QF.gy rfl rfl rfl ?_
                obtain ⟨x115, hx115, hb111⟩ := bd hb111
                have k116 := hs101.epAt (mt mh) hx115 Fld.id ep113
                refine QF.ldb ckP (fun _ x => x) rfl k116 ty_4 rfl ?_
                refine QF.pick rfl rfl rfl ?_
                cases hb111
                exact QF.cutn (sb 65 rfl (sb 59 rfl (sb 58 rfl (sb 51 rfl (sb 50 rfl (sb 49 rfl (sb 48 rfl (sb 11 rfl (sb 43 rfl (sb 42 rfl (sb 8 rfl (sb 7 rfl (sb 3 rfl (sb 9 rfl (sb 44 rfl sb0)))))))))))))))
              · skip
                have hb111 := cdT c110 hb111
                cases hb111
                refine QF.gnT rfl rfl rfl rfl rfl ?_
                refine QF.gnT rfl rfl rfl rfl rfl ?_
                refine QF.gnT rfl rfl rfl rfl rfl ?_
                refine QF.gnT rfl rfl rfl rfl rfl ?_
                refine QF.gnT rfl rfl rfl rfl rfl ?_
                refine QF.pick rfl rfl rfl ?_
                exact QF.cutn (sb 65 rfl (sb 59 rfl (sb 58 rfl (sb 51 rfl (sb 50 rfl (sb 49 rfl (sb 48 rfl (sb 11 rfl (sb 43 rfl (sb 42 rfl (sb 8 rfl (sb 7 rfl (sb 3 rfl (sb 9 rfl (sb 44 rfl sb0)))))))))))))))
            refine QF.rpn (sb 65 rfl (sb 11 rfl (sb 43 rfl (sb 42 rfl (sb 8 rfl (sb 7 rfl (sb 3 rfl (sb 9 rfl (sb 44 rfl sb0))))))))) ?_
            refine WF.if_ rfl (fun c117 => ?_) (fun c117 => ?_)
            · skip
              have E := cdT c117 E
              refine WF.exit rfl (fun aa ww hf hw => ?_)
              have hs118 := hs101.pick (.tail (.tail .head))
              have hs119 := hs118.pick (.tail (.tail .head))
              have hs120 := hs119.drop (.tail (.tail .head))
              exact ⟨i71, l75, _, _, hf.sub (sb 43 rfl (sb 42 rfl (sb 8 rfl (sb 7 rfl (sb 3 rfl (sb 44 rfl (sb 9 rfl sb0))))))), hw, hs120, (e93.trans e102), r72, E⟩
            · skip
              have E := cdF c117 E
              refine WF.skip ?_
              refine WF.seq ?_
              refine WF.rl ?_
              refine LF.q 6 ?_
              have k121 := k51.mono (e61.trans (e79.trans (e93.trans e102)))
              refine QF.fa rfl k121 GBasin.f_Gauges fa_31_6 rfl fun q122 k123 => ?_
              refine QF.ldl ckP hs101.1 rfl k123 ty_26 rfl fun v124 k125 => ?_
              refine QF.fao rfl fa_36_0 rfl ?_
              refine QF.ldo (vs := [.int .i64 x85.Gauge]) ckP hs101 rfl mh rfl rfl ty_3 rfl rfl ?_
              obtain ⟨x126, hx126, E⟩ := bd E
              refine QF.ixe rfl rfl k125 sl_26 hx126 rfl fun q127 k128 => ?_
              refine QF.ld ckP hs101.1 rfl k128 ty_44 (fun e => by cases e) rfl fun v129 k130 => ?_
              refine QF.ln ?_
              refine LF.al zc_44 rfl hs101 fun b131 h132 hs133 e134 => ?_
              have k135 := k130.mono e134
              obtain ⟨rfl, ⟨r137, r138, r139, r140, r141⟩⟩ := RGGauge.ex k135
              refine LF.st (vs := [.string x126.Name, .int .i64 x126.Kind, .int .i64 x126.Target, .int .i64 x126.Err, .int .i64 x126.Drift]) (cs' := [.string x126.Name, .int .i64 x126.Kind, .int .i64 x126.Target, .int .i64 x126.Err, .int .i64 x126.Drift]) rfl rfl rfl (one_cons rfl (one_cons rfl (one_cons rfl (one_cons rfl (one_cons rfl one_nil))))) ty_44 rfl hs133 .head rfl rfl fun h142 hs143 e144 => ?_
              refine LF.nil (sb 12 rfl (sb 11 rfl (sb 43 rfl (sb 42 rfl (sb 8 rfl (sb 7 rfl (sb 3 rfl (sb 9 rfl (sb 44 rfl sb0))))))))) ?_
              refine WF.seq ?_
              refine WF.seq ?_
              refine WF.rp (.inl rfl) ?_
              refine QF.fao rfl fa_44_1 rfl ?_
              refine QF.ldo (vs := [.int .i64 x126.Kind]) ckP hs143 rfl mh rfl rfl ty_3 rfl rfl ?_
              refine QF.neq rfl rfl rfl ?_
              refine QF.mv rfl rfl ?_
              refine QF.cutv 6 81 (.bool ((decide (x126.Kind ≠ 0)) || (decide (x126.Target ≠ x30.Place)))) ?_ ?_
              · cases c145 : (decide (x126.Kind ≠ 0))
                · skip
                  refine QF.gy rfl rfl rfl ?_
                  refine QF.fao rfl fa_44_2 rfl ?_
                  refine QF.gy rfl rfl rfl ?_
                  refine QF.ldo (vs := [.int .i64 x126.Target]) ckP hs143 rfl mh rfl rfl ty_3 rfl rfl ?_
                  refine QF.gy rfl rfl rfl ?_
                  refine QF.fao rfl fa_41_1 rfl ?_
                  refine QF.gy rfl rfl rfl ?_
                  refine QF.ldo (vs := [.int .i64 x30.Place]) ckP hs143 rfl (mt (mt (mt mh))) rfl rfl ty_3 rfl rfl ?_
                  refine QF.gy rfl rfl rfl ?_
                  refine QF.neq rfl rfl rfl ?_
                  refine QF.pick rfl rfl rfl ?_
                  exact QF.cutn (sb 81 rfl (sb 75 rfl (sb 74 rfl (sb 73 rfl (sb 72 rfl (sb 12 rfl (sb 11 rfl (sb 43 rfl (sb 42 rfl (sb 8 rfl (sb 7 rfl (sb 3 rfl (sb 9 rfl (sb 44 rfl sb0))))))))))))))
                · skip
                  refine QF.gnT rfl rfl rfl rfl rfl ?_
                  refine QF.gnT rfl rfl rfl rfl rfl ?_
                  refine QF.gnT rfl rfl rfl rfl rfl ?_
                  refine QF.gnT rfl rfl rfl rfl rfl ?_
                  refine QF.gnT rfl rfl rfl rfl rfl ?_
                  refine QF.pick rfl rfl rfl ?_
                  exact QF.cutn (sb 81 rfl (sb 75 rfl (sb 74 rfl (sb 73 rfl (sb 72 rfl (sb 12 rfl (sb 11 rfl (sb 43 rfl (sb 42 rfl (sb 8 rfl (sb 7 rfl (sb 3 rfl (sb 9 rfl (sb 44 rfl sb0))))))))))))))
              refine QF.rpn (sb 81 rfl (sb 11 rfl (sb 43 rfl (sb 42 rfl (sb 8 rfl (sb 7 rfl (sb 3 rfl (sb 9 rfl (sb 44 rfl sb0))))))))) ?_
              refine WF.if_ rfl (fun c146 => ?_) (fun c146 => ?_)
              · skip
                have E := cdT c146 E
                refine WF.exit rfl (fun aa ww hf hw => ?_)
                have hs147 := hs143.pick (.tail (.tail (.tail .head)))
                have hs148 := hs147.pick (.tail (.tail (.tail .head)))
                have hs149 := hs148.drop (.tail (.tail .head))
                have hs150 := hs149.drop (.tail (.tail .head))
                exact ⟨i71, l75, _, _, hf.sub (sb 43 rfl (sb 42 rfl (sb 8 rfl (sb 7 rfl (sb 3 rfl (sb 44 rfl (sb 9 rfl sb0))))))), hw, hs150, (e93.trans (e102.trans (e134.trans e144))), r72, E⟩
              · skip
                have E := cdF c146 E
                refine WF.skip ?_
                refine WF.seq ?_
                refine WF.rl ?_
                refine LF.q 2 ?_
                have k151 := k121.mono (e134.trans e144)
                refine QF.ld ckP hs143.1 rfl k151 ty_31 (fun e => by cases e) rfl fun v152 k153 => ?_
                refine QF.ldo (vs := [.int .i64 x85.Gauge, .int .i64 x85.Hour, .int .i64 x85.Value.Lo, .int .i64 x85.Value.Hi]) ckP hs143 rfl (mt mh) rfl rfl ty_36 rfl rfl ?_
                refine QF.ln ?_
                obtain ⟨y154, hy154, E⟩ := bd E
                refine LF.callb rfl rfl rfl ca_8 rfl hs143 (fuse_Volume_ret (St.all _) (k153.mono ⟨fun b hb => hs143.1 b hb, fun _ _ => rfl, Nat.le_refl _⟩) (RGReading.mk (x := x85) ⟨r96, r97, r98, r99⟩) hy154) fun v155 S156 h157 hs159 e158 e163 p => ?_
                obtain ⟨rfl, ⟨r160, r161⟩, hq162⟩ := p
                refine LF.q 3 ?_
                refine QF.mv rfl rfl ?_
                refine QF.ext rfl rfl rfl ?_
                refine QF.ext rfl rfl rfl ?_
                refine QF.ln ?_
                refine LF.al zc_34 rfl hs159 fun b164 h165 hs166 e167 => ?_
                refine LF.st (vs := [.int .i64 y154.1.Lo, .int .i64 y154.1.Hi]) (cs' := [.int .i64 y154.1.Lo, .int .i64 y154.1.Hi]) rfl rfl rfl (one_cons rfl (one_cons rfl one_nil)) ty_34 rfl hs166 .head rfl rfl fun h168 hs169 e170 => ?_
                refine LF.q 1 ?_
                refine QF.as_ rfl rfl ?_
                refine QF.ln ?_
                refine LF.nil (sb 14 rfl (sb 13 rfl (sb 11 rfl (sb 43 rfl (sb 42 rfl (sb 8 rfl (sb 7 rfl (sb 3 rfl (sb 9 rfl (sb 44 rfl sb0)))))))))) ?_
                refine WF.seq ?_
                refine WF.rp (.inl rfl) ?_
                refine QF.mv rfl rfl ?_
                refine QF.mv rfl rfl ?_
                refine QF.cutv 6 95 (.bool (y154.2 && (decide (x30.Watch < y154.1.Lo)))) ?_ ?_
                · cases c171 : y154.2
                  · skip
                    refine QF.gnF rfl rfl rfl rfl rfl ?_
                    refine QF.gnF rfl rfl rfl rfl rfl ?_
                    refine QF.gnF rfl rfl rfl rfl rfl ?_
                    refine QF.gnF rfl rfl rfl rfl rfl ?_
                    refine QF.gnF rfl rfl rfl rfl rfl ?_
                    refine QF.pick rfl rfl rfl ?_
                    exact QF.cutn (sb 95 rfl (sb 89 rfl (sb 88 rfl (sb 14 rfl (sb 13 rfl (sb 11 rfl (sb 43 rfl (sb 42 rfl (sb 8 rfl (sb 7 rfl (sb 3 rfl (sb 9 rfl (sb 44 rfl sb0)))))))))))))
                  · skip
                    refine QF.gy rfl rfl rfl ?_
                    refine QF.fao rfl fa_34_0 rfl ?_
                    refine QF.gy rfl rfl rfl ?_
                    refine QF.ldo (vs := [.int .i64 y154.1.Lo]) ckP hs169 rfl mh rfl rfl ty_3 rfl rfl ?_
                    refine QF.gy rfl rfl rfl ?_
                    refine QF.fao rfl fa_41_5 rfl ?_
                    refine QF.gy rfl rfl rfl ?_
                    refine QF.ldo (vs := [.int .i64 x30.Watch]) ckP hs169 rfl (mt (mt (mt (mt mh)))) rfl rfl ty_3 rfl rfl ?_
                    refine QF.gy rfl rfl rfl ?_
                    refine QF.gtr rfl rfl rfl ?_
                    refine QF.pick rfl rfl rfl ?_
                    exact QF.cutn (sb 95 rfl (sb 89 rfl (sb 88 rfl (sb 14 rfl (sb 13 rfl (sb 11 rfl (sb 43 rfl (sb 42 rfl (sb 8 rfl (sb 7 rfl (sb 3 rfl (sb 9 rfl (sb 44 rfl sb0)))))))))))))
                refine QF.rpn (sb 95 rfl (sb 11 rfl (sb 43 rfl (sb 42 rfl (sb 8 rfl (sb 7 rfl (sb 3 rfl (sb 9 rfl (sb 44 rfl sb0))))))))) ?_
                refine WF.if_ rfl (fun c172 => ?_) (fun c172 => ?_)
                · skip
                  have E := cdT c172 E
                  refine WF.seq ?_
                  refine WF.rl ?_
                  refine LF.q 4 ?_
                  refine QF.mv rfl rfl ?_
                  refine QF.fao rfl fa_36_0 rfl ?_
                  refine QF.ldo (vs := [.int .i64 x85.Gauge]) ckP hs169 rfl (mt (mt mh)) rfl rfl ty_3 rfl rfl ?_
                  obtain ⟨x175, hx175, E⟩ := bd E
                  refine QF.ixoe hs169 (mt (mt (mt mh))) rfl rfl sl_64 hx175 rfl fun q173 ep174 => ?_
                  refine QF.ln ?_
                  obtain ⟨x176, hx176, E⟩ := bd E
                  refine LF.ste (r := Rep.bool) (l := l75) (i := x85.Gauge) (x := x176) rfl rfl (⟨_, rfl, rfl⟩ : Rd _ _ Rep.bool _ true) ep174 hx176 Upd.id ty_4 (fun _ => rfl) hs169 (.tail (.tail (.tail .head))) fun h177 hs178 e179 => ?_
                  refine LF.nil (sb 43 rfl (sb 42 rfl (sb 8 rfl (sb 7 rfl (sb 3 rfl (sb 9 rfl (sb 44 rfl sb0))))))) ?_
                  refine WF.rp (.inl rfl) ?_
                  refine QF.mv rfl rfl ?_
                  refine QF.addw rfl rfl rfl ?_
                  refine QF.as_ rfl rfl ?_
                  refine QF.rpn (sb 9 rfl (sb 43 rfl (sb 42 rfl (sb 8 rfl (sb 7 rfl (sb 3 rfl (sb 44 rfl sb0))))))) ?_
                  refine WF.nil (fun aa ww hf hw => ?_)
                  have hs180 := hs178.pick (.tail (.tail (.tail (.tail .head))))
                  have hs181 := hs180.pick (.tail (.tail (.tail (.tail .head))))
                  have hs182 := hs181.drop (.tail (.tail .head))
                  have hs183 := hs182.drop (.tail (.tail .head))
                  have hs184 := hs183.drop (.tail (.tail .head))
                  exact ⟨(w64 (i71 + 1)), (upd l75 x85.Gauge true), _, _, hf.sub (sb 43 rfl (sb 42 rfl (sb 8 rfl (sb 7 rfl (sb 3 rfl (sb 44 rfl (sb 9 rfl sb0))))))), hw, hs184, (e93.trans (e102.trans (e134.trans (e144.trans (e158.trans (e167.trans (e170.trans e179))))))), (w64_i _), E⟩
                · skip
                  have E := cdF c172 E
                  refine WF.skip ?_
                  refine WF.nil (fun aa ww hf hw => ?_)
                  have hs185 := hs169.pick (.tail (.tail (.tail (.tail .head))))
                  have hs186 := hs185.pick (.tail (.tail (.tail (.tail .head))))
                  have hs187 := hs186.drop (.tail (.tail .head))
                  have hs188 := hs187.drop (.tail (.tail .head))
                  have hs189 := hs188.drop (.tail (.tail .head))
                  exact ⟨i71, l75, _, _, hf.sub (sb 43 rfl (sb 42 rfl (sb 8 rfl (sb 7 rfl (sb 3 rfl (sb 44 rfl (sb 9 rfl sb0))))))), hw, hs189, (e93.trans (e102.trans (e134.trans (e144.trans (e158.trans (e167.trans e170)))))), r72, E⟩
          · skip
            rintro aa ww ⟨i81, l83, S190, h191, hf, hw, hs192, e193, r82, E⟩
            refine WF.run ?_ hf hw
            clear hf hw ww aa
            rw [f_alarm_Quorum_j2] at E
            refine WF.rp (.inl rfl) ?_
            refine QF.addw rfl rfl rfl ?_
            refine QF.mv rfl rfl ?_
            refine QF.rpn (sb 44 rfl (sb 43 rfl (sb 42 rfl (sb 8 rfl (sb 7 rfl (sb 3 rfl (sb 9 rfl sb0))))))) ?_
            refine WF.nil (fun aa ww hf hw => ?_)
            exact ⟨i81, (w64 (i73 + 1)), l83, _, _, hf.sub (sb 43 rfl (sb 42 rfl (sb 8 rfl (sb 7 rfl (sb 3 rfl (sb 9 rfl (sb 44 rfl sb0))))))), hw, hs192, (e79.trans e193), r82, (w64_i _), E⟩
        · skip
          have E := cdF c80 E
          refine WF.exit rfl (fun aa ww hf hw => ?_)
          have hs194 := hs78.pick (.tail .head)
          have hs195 := hs194.drop (.tail .head)
          exact ⟨i71, _, _, hf.sub (sb 7 rfl (sb 9 rfl sb0)), hw, hs195, e79, r72, E⟩
    · skip
      rintro aa ww ⟨i64, S196, h197, hf, hw, hs198, e199, r65, E⟩
      refine WF.run ?_ hf hw
      clear hf hw ww aa
      rw [f_alarm_Quorum_j0] at E
      refine WF.seq ?_
      refine WF.rp (.inl rfl) ?_
      refine QF.mv rfl rfl ?_
      refine QF.fao rfl fa_41_6 rfl ?_
      refine QF.ldo (vs := [.int .i64 x30.Quorum]) ckP hs198 rfl mh rfl rfl ty_3 rfl rfl ?_
      refine QF.geq rfl rfl rfl ?_
      refine QF.as_ rfl rfl ?_
      refine QF.rpn (sb 6 rfl sb0) ?_
      refine WF.ret (fun aa ww hf hw => ?_)
      have hs200 := hs198.drop .head
      cases E
      exact rtg hf rfl hw (rvc (rvT hf (v := _) rfl) rv0) rfl (e5.trans (e38.trans (e50.trans (e61.trans e199)))) ⟨rfl, hs200⟩

end Go.Proofs.Ytibidnaedddfdaa
