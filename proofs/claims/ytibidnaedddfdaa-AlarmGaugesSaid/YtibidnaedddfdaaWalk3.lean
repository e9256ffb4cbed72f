/- Walks, part 3. By program. -/
import Derived.Test.YtibidnaedddfdaaWalk2
namespace Go.Proofs.Ytibidnaedddfdaa
open Go.RowKit
set_option linter.unusedVariables false
set_option linter.unusedSimpArgs false

set_option maxRecDepth 10000 in
set_option maxHeartbeats 2000000 in
theorem sort_Search_ret {N : Nat} {S : Nat → Prop} {L : List HP} {h : Heap} (hs : St S L h) {p0_n : Int} (h_p0_n : inI64 p0_n) {v_p1_f : Value} {p1_f : (Int → Option Bool)} (h_p1_f : Rd S h (Rep.fn Try.prog (fun x : Int => ([.int .i64 x] : List Value)) (fun x : Int => inI64 x) (fun y : Bool => .bool y) (fun y : Bool => True)) v_p1_f p1_f) {r : Int} (E : f_sort_Search N p0_n p1_f = some r) :
    Ret Try.prog 38 #[.int .i64 p0_n, v_p1_f] S h (fun v S' h' => v = .int .i64 r ∧ inI64 r ∧ St S' (L) h') := by
  refine Ret.go (l := [.int .i64 p0_n, v_p1_f]) 26 Try.func38 rfl Try.ntmps38 rfl fun B => ?_
  rw [f_sort_Search] at E
  obtain ⟨fn1, cp2, rfl, cb3, kf4⟩ := h_p1_f.fn
  refine WF.seq ?_
  refine WF.rp (.inl rfl) ?_
  refine QF.as_ rfl rfl ?_
  refine QF.rpn (sb 0 rfl (sb 1 rfl sb0)) ?_
  refine WF.seq ?_
  refine WF.rp (.inl rfl) ?_
  refine QF.mv rfl rfl ?_
  refine QF.as_ rfl rfl ?_
  refine QF.as_ rfl rfl ?_
  refine QF.rpn (sb 6 rfl (sb 5 rfl (sb 1 rfl sb0))) ?_
  refine WF.seq ?_
  refine WF.blockJ (fun a w => ∃ (i5 : Int) (S' : Nat → Prop) (h' : Heap), Fr 26 a [(5, .int .i64 i5)] ∧ Wd B h' w ∧ St S' (L) h' ∧ Ext S h S' h' ∧ inI64 i5 ∧ f_sort_Search_j0 N i5 = some r) ?_ ?_
  · skip
    refine WF.loopF (fun n1 => fun a w => ∃ (i11 : Int) (i13 : Int) (S' : Nat → Prop) (h' : Heap), Fr 26 a [(1, (.func (.func fn1) #[] cp2)), (5, .int .i64 i11), (6, .int .i64 i13)] ∧ Wd B h' w ∧ St S' (L) h' ∧ Ext S h S' h' ∧ inI64 i11 ∧ inI64 i13 ∧ f_sort_Search_l1 N p1_f (f_sort_Search_j0 N) n1 i11 i13 = some r) N ?_ ?_ ?_
    · intro aa ww hf hw
      exact ⟨0, p0_n, _, _, hf.sub (sb 1 rfl (sb 5 rfl (sb 6 rfl sb0))), hw, hs, (Ext.refl S h), (show inI64 0 by unfold inI64; omega), h_p0_n, E⟩
    · rintro aa ww ⟨_, _, _, _, _, _, _, _, _, _, E⟩
      rw [f_sort_Search_l1] at E; cases E
    · skip
      rintro n1 aa ww ⟨i11, i13, S15, h16, hf, hw, hs17, e18, r12, r14, E⟩
      refine WF.run ?_ hf hw
      clear hf hw ww aa
      rw [f_sort_Search_l1] at E
      refine WF.seq ?_
      refine WF.seq ?_
      refine WF.rp (.inl rfl) ?_
      refine QF.mv rfl rfl ?_
      refine QF.mv rfl rfl ?_
      refine QF.lss rfl rfl rfl ?_
      refine QF.rpn (sb 11 rfl (sb 1 rfl (sb 5 rfl (sb 6 rfl sb0)))) ?_
      refine WF.if_ rfl (fun c19 => ?_) (fun c19 => ?_)
      · skip
        have E := cdT c19 E
        refine WF.skip ?_
        refine WF.block ?_
        refine WF.seq ?_
        refine WF.rp (.inl rfl) ?_
        refine QF.mv rfl rfl ?_
        refine QF.mv rfl rfl ?_
        refine QF.addw rfl rfl rfl ?_
        refine QF.convk rfl uk_3 uk_112 rfl ?_
        refine QF.shrk (j := 1) rfl rfl rfl rfl ?_
        refine QF.convk rfl uk_112 uk_3 rfl ?_
        refine QF.as_ rfl rfl ?_
        refine QF.rpn (sb 7 rfl (sb 1 rfl (sb 5 rfl (sb 6 rfl sb0)))) ?_
        refine WF.seq ?_
        refine WF.rc (.inl rfl) hs17 ?_
        refine QF.mv rfl rfl ?_
        refine QF.mv rfl rfl ?_
        obtain ⟨y20, hy20, E⟩ := bd E
        refine QF.callp (v := .bool y20) (Ψ := True) rfl rfl rfl cb3 rfl (fun h' o => (kf4 _ h' (fun b hb => Nat.lt_of_lt_of_le (hs17.1 b (e18.sub b hb)) o.siz) (fun b hb => (o.same b (hs17.1 b (e18.sub b hb))).trans (e18.same b hb)) [] (St.all h') _ _ (w64_i _) hy20).mono fun _ _ _ _ p => ⟨p.1, trivial⟩) fun r21 => ?_
        refine QF.not rfl rfl ?_
        refine QF.rcn (sb 21 rfl (sb 7 rfl (sb 1 rfl (sb 5 rfl (sb 6 rfl sb0))))) fun h22 hs23 e24 => ?_
        refine WF.if_ rfl (fun c25 => ?_) (fun c25 => ?_)
        · skip
          have E := cdT c25 E
          refine WF.rp (.inl rfl) ?_
          refine QF.mv rfl rfl ?_
          refine QF.addw rfl rfl rfl ?_
          refine QF.as_ rfl rfl ?_
          refine QF.rpn (sb 5 rfl (sb 1 rfl (sb 6 rfl sb0))) ?_
          refine WF.nilW ?_
          refine WF.nil (fun aa ww hf hw => ?_)
          exact ⟨(w64 ((w64 (shrK .u64 (IntKind.wrap .u64 (w64 (i11 + i13))) 1)) + 1)), i13, _, _, hf.sub (sb 1 rfl (sb 5 rfl (sb 6 rfl sb0))), hw, hs23, (e18.trans e24), (w64_i _), r14, E⟩
        · skip
          have E := cdF c25 E
          refine WF.rp (.inl rfl) ?_
          refine QF.mv rfl rfl ?_
          refine QF.as_ rfl rfl ?_
          refine QF.rpn (sb 6 rfl (sb 1 rfl (sb 5 rfl sb0))) ?_
          refine WF.nilW ?_
          refine WF.nil (fun aa ww hf hw => ?_)
          exact ⟨i11, (w64 (shrK .u64 (IntKind.wrap .u64 (w64 (i11 + i13))) 1)), _, _, hf.sub (sb 1 rfl (sb 5 rfl (sb 6 rfl sb0))), hw, hs23, (e18.trans e24), r12, (w64_i _), E⟩
      · skip
        have E := cdF c19 E
        refine WF.exit rfl (fun aa ww hf hw => ?_)
        exact ⟨i11, _, _, hf.sub (sb 5 rfl sb0), hw, hs17, e18, r12, E⟩
  · skip
    rintro aa ww ⟨i5, S26, h27, hf, hw, hs28, e29, r6, E⟩
    refine WF.run ?_ hf hw
    clear hf hw ww aa
    rw [f_sort_Search_j0] at E
    refine WF.seq ?_
    refine WF.rp (.inl rfl) ?_
    refine QF.mv rfl rfl ?_
    refine QF.as_ rfl rfl ?_
    refine QF.rpn (sb 4 rfl sb0) ?_
    refine WF.ret (fun aa ww hf hw => ?_)
    cases E
    exact rtg hf rfl hw (rvc (rvT hf (v := _) rfl) rv0) rfl e29 ⟨rfl, r6, hs28⟩

set_option maxRecDepth 10000 in
set_option maxHeartbeats 2000000 in
theorem curve_value_1_ret {N : Nat} {S : Nat → Prop} {L : List HP} {h : Heap} (hs : St S L h) {p0_i : Int} (h_p0_i : inI64 p0_i) {v_c1_ : Value} {c1_ : (List GPoint)} (h_c1_ : Pt S h (Rep.sl RGPoint) v_c1_ c1_) {v_c2_ : Value} {c2_ : Int} (h_c2_ : Pt S h Rep.int v_c2_ c2_) {r : Bool} (E : f_curve_value_1 N c1_ c2_ p0_i = some r) :
    Ret Try.prog 48 #[.int .i64 p0_i, v_c1_, v_c2_] S h (fun v S' h' => v = .bool r ∧ St S' (L) h') := by
  refine Ret.go (l := [.int .i64 p0_i, v_c1_, v_c2_]) 12 Try.func48 rfl Try.ntmps48 rfl fun B => ?_
  rw [f_curve_value_1] at E
  refine WF.seq ?_
  refine WF.rp (.inl rfl) ?_
  refine QF.as_ rfl rfl ?_
  refine QF.rpn (sb 0 rfl (sb 1 rfl (sb 2 rfl sb0))) ?_
  refine WF.seq ?_
  refine WF.rp (.inr ⟨mo, by kernel_rfl⟩) ?_
  refine QF.ldl ckP hs.1 rfl h_c1_ ty_67 rfl fun v1 k2 => ?_
  refine QF.mv rfl rfl ?_
  obtain ⟨x3, hx3, E⟩ := bd E
  refine QF.ixe rfl rfl k2 sl_67 hx3 rfl fun q4 k5 => ?_
  refine QF.fa rfl k5 GPoint.f_X fa_98_0 rfl fun q6 k7 => ?_
  refine QF.ldi ckP hs.1 rfl k7 ty_3 rfl fun r8 => ?_
  refine QF.ldi ckP hs.1 rfl h_c2_ ty_3 rfl fun r9 => ?_
  refine QF.gtr rfl rfl rfl ?_
  refine QF.as_ rfl rfl ?_
  refine QF.rpn (sb 4 rfl sb0) ?_
  refine WF.ret (fun aa ww hf hw => ?_)
  cases E
  exact rtg hf rfl hw (rvc (rvT hf (v := _) rfl) rv0) rfl (Ext.refl S h) ⟨rfl, hs⟩

set_option maxRecDepth 10000 in
set_option maxHeartbeats 2000000 in
theorem math_bits_Mul64_ret {N : Nat} {S : Nat → Prop} {L : List HP} {h : Heap} (hs : St S L h) {p0_x : Int} (h_p0_x : IntKind.has .u64 p0_x) {p1_y : Int} (h_p1_y : IntKind.has .u64 p1_y) {r : Int × Int} (E : f_math_bits_Mul64 N p0_x p1_y = some r) :
    Ret Try.prog 44 #[.int .u64 p0_x, .int .u64 p1_y] S h (fun v S' h' => v = .tuple #[.int .u64 r.1, .int .u64 r.2] ∧ IntKind.has .u64 r.1 ∧ IntKind.has .u64 r.2 ∧ St S' (L) h') := by
  refine Ret.go (l := [.int .u64 p0_x, .int .u64 p1_y]) 51 Try.func44 rfl Try.ntmps44 rfl fun B => ?_
  rw [f_math_bits_Mul64] at E
  refine WF.seq ?_
  refine WF.rp (.inl rfl) ?_
  refine QF.as_ rfl rfl ?_
  refine QF.as_ rfl rfl ?_
  refine QF.rpn (sb 0 rfl (sb 1 rfl sb0)) ?_
  refine WF.seq ?_
  refine WF.rp (.inl rfl) ?_
  refine QF.mv rfl rfl ?_
  refine QF.andk rfl rfl rfl ?_
  refine QF.as_ rfl rfl ?_
  refine QF.rpn (sb 6 rfl (sb 0 rfl (sb 1 rfl sb0))) ?_
  refine WF.seq ?_
  refine WF.rp (.inl rfl) ?_
  refine QF.mv rfl rfl ?_
  refine QF.shrk (j := 32) rfl rfl rfl rfl ?_
  refine QF.as_ rfl rfl ?_
  refine QF.rpn (sb 7 rfl (sb 6 rfl (sb 0 rfl (sb 1 rfl sb0)))) ?_
  refine WF.seq ?_
  refine WF.rp (.inl rfl) ?_
  refine QF.mv rfl rfl ?_
  refine QF.andk rfl rfl rfl ?_
  refine QF.as_ rfl rfl ?_
  refine QF.rpn (sb 8 rfl (sb 7 rfl (sb 6 rfl (sb 0 rfl (sb 1 rfl sb0))))) ?_
  refine WF.seq ?_
  refine WF.rp (.inl rfl) ?_
  refine QF.mv rfl rfl ?_
  refine QF.shrk (j := 32) rfl rfl rfl rfl ?_
  refine QF.as_ rfl rfl ?_
  refine QF.rpn (sb 9 rfl (sb 8 rfl (sb 7 rfl (sb 6 rfl (sb 0 rfl (sb 1 rfl sb0)))))) ?_
  refine WF.seq ?_
  refine WF.rp (.inl rfl) ?_
  refine QF.mv rfl rfl ?_
  refine QF.mv rfl rfl ?_
  refine QF.mulk rfl rfl rfl ?_
  refine QF.as_ rfl rfl ?_
  refine QF.rpn (sb 10 rfl (sb 9 rfl (sb 8 rfl (sb 7 rfl (sb 6 rfl (sb 0 rfl (sb 1 rfl sb0))))))) ?_
  refine WF.seq ?_
  refine WF.rp (.inl rfl) ?_
  refine QF.mv rfl rfl ?_
  refine QF.mv rfl rfl ?_
  refine QF.mulk rfl rfl rfl ?_
  refine QF.mv rfl rfl ?_
  refine QF.shrk (j := 32) rfl rfl rfl rfl ?_
  refine QF.addk rfl rfl rfl ?_
  refine QF.as_ rfl rfl ?_
  refine QF.rpn (sb 11 rfl (sb 9 rfl (sb 7 rfl (sb 6 rfl (sb 0 rfl (sb 1 rfl sb0)))))) ?_
  refine WF.seq ?_
  refine WF.rp (.inl rfl) ?_
  refine QF.mv rfl rfl ?_
  refine QF.andk rfl rfl rfl ?_
  refine QF.as_ rfl rfl ?_
  refine QF.rpn (sb 12 rfl (sb 11 rfl (sb 9 rfl (sb 7 rfl (sb 6 rfl (sb 0 rfl (sb 1 rfl sb0))))))) ?_
  refine WF.seq ?_
  refine WF.rp (.inl rfl) ?_
  refine QF.mv rfl rfl ?_
  refine QF.shrk (j := 32) rfl rfl rfl rfl ?_
  refine QF.as_ rfl rfl ?_
  refine QF.rpn (sb 13 rfl (sb 12 rfl (sb 9 rfl (sb 7 rfl (sb 6 rfl (sb 0 rfl (sb 1 rfl sb0))))))) ?_
  refine WF.seq ?_
  refine WF.rp (.inl rfl) ?_
  refine QF.mv rfl rfl ?_
  refine QF.mv rfl rfl ?_
  refine QF.mv rfl rfl ?_
  refine QF.mulk rfl rfl rfl ?_
  refine QF.addk rfl rfl rfl ?_
  refine QF.as_ rfl rfl ?_
  refine QF.rpn (sb 12 rfl (sb 13 rfl (sb 9 rfl (sb 7 rfl (sb 0 rfl (sb 1 rfl sb0)))))) ?_
  refine WF.seq ?_
  refine WF.rp (.inl rfl) ?_
  refine QF.mv rfl rfl ?_
  refine QF.mv rfl rfl ?_
  refine QF.mulk rfl rfl rfl ?_
  refine QF.mv rfl rfl ?_
  refine QF.addk rfl rfl rfl ?_
  refine QF.mv rfl rfl ?_
  refine QF.shrk (j := 32) rfl rfl rfl rfl ?_
  refine QF.addk rfl rfl rfl ?_
  refine QF.as_ rfl rfl ?_
  refine QF.rpn (sb 4 rfl (sb 0 rfl (sb 1 rfl sb0))) ?_
  refine WF.seq ?_
  refine WF.rp (.inl rfl) ?_
  refine QF.mv rfl rfl ?_
  refine QF.mv rfl rfl ?_
  refine QF.mulk rfl rfl rfl ?_
  refine QF.as_ rfl rfl ?_
  refine QF.rpn (sb 5 rfl (sb 4 rfl sb0)) ?_
  refine WF.ret (fun aa ww hf hw => ?_)
  cases E
  exact rtg hf rfl hw (rvc (rvT hf (v := _) rfl) (rvc (rvT hf (v := _) rfl) rv0)) rfl (Ext.refl S h) ⟨rfl, (has_wrap _ _), (has_wrap _ _), hs⟩

set_option maxRecDepth 10000 in
set_option maxHeartbeats 2000000 in
theorem math_bits_Len64_ret {N : Nat} {S : Nat → Prop} {L : List HP} {h : Heap} (hs : St S L h) {p0_x : Int} (h_p0_x : IntKind.has .u64 p0_x) {r : Int} (E : f_math_bits_Len64 N p0_x = some r) :
    Ret Try.prog 49 #[.int .u64 p0_x] S h (fun v S' h' => v = .int .i64 r ∧ inI64 r ∧ St S' (L) h') := by
  refine Ret.go (l := [.int .u64 p0_x]) 25 Try.func49 rfl Try.ntmps49 rfl fun B => ?_
  rw [f_math_bits_Len64] at E
  refine WF.seq ?_
  refine WF.rp (.inl rfl) ?_
  refine QF.as_ rfl rfl ?_
  refine QF.rpn (sb 2 rfl (sb 0 rfl sb0)) ?_
  refine WF.seq ?_
  refine WF.seq ?_
  refine WF.rp (.inl rfl) ?_
  refine QF.mv rfl rfl ?_
  refine QF.geq rfl rfl rfl ?_
  refine QF.rpn (sb 4 rfl (sb 2 rfl (sb 0 rfl sb0))) ?_
  refine WF.cut (fun a w => ∃ (i1 : Int) (i3 : Int) (S' : Nat → Prop) (h' : Heap), Fr 25 a [(0, .int .u64 i1), (2, .int .i64 i3)] ∧ Wd B h' w ∧ St S' (L) h' ∧ Ext S h S' h' ∧ IntKind.has .u64 i1 ∧ inI64 i3 ∧ f_math_bits_Len64_j0 N i1 i3 = some r) ?_ ?_
  · skip
    refine WF.if_ rfl (fun c5 => ?_) (fun c5 => ?_)
    · skip
      have E := cdT c5 E
      refine WF.seq ?_
      refine WF.rp (.inl rfl) ?_
      refine QF.mv rfl rfl ?_
      refine QF.shrk (j := 32) rfl rfl rfl rfl ?_
      refine QF.as_ rfl rfl ?_
      refine QF.rpn (sb 0 rfl sb0) ?_
      refine WF.rp (.inl rfl) ?_
      refine QF.as_ rfl rfl ?_
      refine QF.rpn (sb 2 rfl (sb 0 rfl sb0)) ?_
      refine WF.nil (fun aa ww hf hw => ?_)
      exact ⟨(shrK .u64 p0_x 32), 32, _, _, hf.sub (sb 0 rfl (sb 2 rfl sb0)), hw, hs, (Ext.refl S h), (has_shr _ h_p0_x _), (show inI64 32 by unfold inI64; omega), E⟩
    · skip
      have E := cdF c5 E
      refine WF.skip ?_
      refine WF.nil (fun aa ww hf hw => ?_)
      exact ⟨p0_x, 0, _, _, hf.sub (sb 0 rfl (sb 2 rfl sb0)), hw, hs, (Ext.refl S h), h_p0_x, (show inI64 0 by unfold inI64; omega), E⟩
  · skip
    rintro aa ww ⟨i1, i3, S6, h7, hf, hw, hs8, e9, r2, r4, E⟩
    refine WF.run ?_ hf hw
    clear hf hw ww aa
    rw [f_math_bits_Len64_j0] at E
    refine WF.seq ?_
    refine WF.seq ?_
    refine WF.rp (.inl rfl) ?_
    refine QF.mv rfl rfl ?_
    refine QF.geq rfl rfl rfl ?_
    refine QF.rpn (sb 8 rfl (sb 0 rfl (sb 2 rfl sb0))) ?_
    refine WF.cut (fun a w => ∃ (i10 : Int) (i12 : Int) (S' : Nat → Prop) (h' : Heap), Fr 25 a [(0, .int .u64 i10), (2, .int .i64 i12)] ∧ Wd B h' w ∧ St S' (L) h' ∧ Ext S6 h7 S' h' ∧ IntKind.has .u64 i10 ∧ inI64 i12 ∧ f_math_bits_Len64_j1 N i10 i12 = some r) ?_ ?_
    · skip
      refine WF.if_ rfl (fun c14 => ?_) (fun c14 => ?_)
      · skip
        have E := cdT c14 E
        refine WF.seq ?_
        refine WF.rp (.inl rfl) ?_
        refine QF.mv rfl rfl ?_
        refine QF.shrk (j := 16) rfl rfl rfl rfl ?_
        refine QF.as_ rfl rfl ?_
        refine QF.rpn (sb 0 rfl (sb 2 rfl sb0)) ?_
        refine WF.rp (.inl rfl) ?_
        refine QF.mv rfl rfl ?_
        refine QF.addw rfl rfl rfl ?_
        refine QF.as_ rfl rfl ?_
        refine QF.rpn (sb 2 rfl (sb 0 rfl sb0)) ?_
        refine WF.nil (fun aa ww hf hw => ?_)
        exact ⟨(shrK .u64 i1 16), (w64 (i3 + 16)), _, _, hf.sub (sb 0 rfl (sb 2 rfl sb0)), hw, hs8, (Ext.refl S6 h7), (has_shr _ r2 _), (w64_i _), E⟩
      · skip
        have E := cdF c14 E
        refine WF.skip ?_
        refine WF.nil (fun aa ww hf hw => ?_)
        exact ⟨i1, i3, _, _, hf.sub (sb 0 rfl (sb 2 rfl sb0)), hw, hs8, (Ext.refl S6 h7), r2, r4, E⟩
    · skip
      rintro aa ww ⟨i10, i12, S15, h16, hf, hw, hs17, e18, r11, r13, E⟩
      refine WF.run ?_ hf hw
      clear hf hw ww aa
      rw [f_math_bits_Len64_j1] at E
      refine WF.seq ?_
      refine WF.seq ?_
      refine WF.rp (.inl rfl) ?_
      refine QF.mv rfl rfl ?_
      refine QF.geq rfl rfl rfl ?_
      refine QF.rpn (sb 14 rfl (sb 0 rfl (sb 2 rfl sb0))) ?_
      refine WF.cut (fun a w => ∃ (i19 : Int) (i21 : Int) (S' : Nat → Prop) (h' : Heap), Fr 25 a [(0, .int .u64 i19), (2, .int .i64 i21)] ∧ Wd B h' w ∧ St S' (L) h' ∧ Ext S15 h16 S' h' ∧ IntKind.has .u64 i19 ∧ inI64 i21 ∧ f_math_bits_Len64_j2 N i19 i21 = some r) ?_ ?_
      · skip
        refine WF.if_ rfl (fun c23 => ?_) (fun c23 => ?_)
        · skip
          have E := cdT c23 E
          refine WF.seq ?_
          refine WF.rp (.inl rfl) ?_
          refine QF.mv rfl rfl ?_
          refine QF.shrk (j := 8) rfl rfl rfl rfl ?_
          refine QF.as_ rfl rfl ?_
          refine QF.rpn (sb 0 rfl (sb 2 rfl sb0)) ?_
          refine WF.rp (.inl rfl) ?_
          refine QF.mv rfl rfl ?_
          refine QF.addw rfl rfl rfl ?_
          refine QF.as_ rfl rfl ?_
          refine QF.rpn (sb 2 rfl (sb 0 rfl sb0)) ?_
          refine WF.nil (fun aa ww hf hw => ?_)
          exact ⟨(shrK .u64 i10 8), (w64 (i12 + 8)), _, _, hf.sub (sb 0 rfl (sb 2 rfl sb0)), hw, hs17, (Ext.refl S15 h16), (has_shr _ r11 _), (w64_i _), E⟩
        · skip
          have E := cdF c23 E
          refine WF.skip ?_
          refine WF.nil (fun aa ww hf hw => ?_)
          exact ⟨i10, i12, _, _, hf.sub (sb 0 rfl (sb 2 rfl sb0)), hw, hs17, (Ext.refl S15 h16), r11, r13, E⟩
      · skip
        rintro aa ww ⟨i19, i21, S24, h25, hf, hw, hs26, e27, r20, r22, E⟩
        refine WF.run ?_ hf hw
        clear hf hw ww aa
        rw [f_math_bits_Len64_j2] at E
        refine WF.seq ?_
        refine WF.rp (.inl rfl) ?_
        refine QF.mv rfl rfl ?_
        refine QF.mv rfl rfl ?_
        refine QF.convk rfl uk_107 uk_5 rfl ?_
        obtain ⟨z28, hz28, E⟩ := bd E
        have r29 := bix_has hz28
        refine QF.bixk rfl rfl us_9 hz28 rfl ?_
        refine QF.convk rfl uk_5 uk_3 rfl ?_
        refine QF.addw rfl rfl rfl ?_
        refine QF.as_ rfl rfl ?_
        refine QF.rpn (sb 2 rfl sb0) ?_
        refine WF.ret (fun aa ww hf hw => ?_)
        cases E
        exact rtg hf rfl hw (rvc (rvT hf (v := _) rfl) rv0) rfl (e9.trans (e18.trans e27)) ⟨rfl, (w64_i _), hs26⟩

set_option maxRecDepth 10000 in
set_option maxHeartbeats 2000000 in
theorem math_bits_LeadingZeros64_ret {N : Nat} {S : Nat → Prop} {L : List HP} {h : Heap} (hs : St S L h) {p0_x : Int} (h_p0_x : IntKind.has .u64 p0_x) {r : Int} (E : f_math_bits_LeadingZeros64 N p0_x = some r) :
    Ret Try.prog 47 #[.int .u64 p0_x] S h (fun v S' h' => v = .int .i64 r ∧ inI64 r ∧ St S' (L) h') := by
  refine Ret.go (l := [.int .u64 p0_x]) 6 Try.func47 rfl Try.ntmps47 rfl fun B => ?_
  rw [f_math_bits_LeadingZeros64] at E
  refine WF.seq ?_
  refine WF.rp (.inl rfl) ?_
  refine QF.as_ rfl rfl ?_
  refine QF.rpn (sb 0 rfl sb0) ?_
  refine WF.seq ?_
  refine WF.rc (.inl rfl) hs ?_
  refine QF.mv rfl rfl ?_
  obtain ⟨y1, hy1, E⟩ := bd E
  refine QF.callp (v := .int .i64 y1) (Ψ := inI64 y1) rfl rfl rfl ca_49 rfl (fun h' o => (math_bits_Len64_ret (St.all h') h_p0_x hy1).mono fun _ _ _ _ p => ⟨p.1, p.2.1⟩) fun r2 => ?_
  have r3 := r2
  refine QF.subw rfl rfl rfl ?_
  refine QF.as_ rfl rfl ?_
  refine QF.rcn (sb 2 rfl sb0) fun h4 hs5 e6 => ?_
  refine WF.ret (fun aa ww hf hw => ?_)
  cases E
  exact rtg hf rfl hw (rvc (rvT hf (v := _) rfl) rv0) rfl e6 ⟨rfl, (w64_i _), hs5⟩

set_option maxRecDepth 10000 in
set_option maxHeartbeats 2000000 in
theorem math_bits_Div64_ret {N : Nat} {S : Nat → Prop} {L : List HP} {h : Heap} (hs : St S L h) {p0_hi : Int} (h_p0_hi : IntKind.has .u64 p0_hi) {p1_lo : Int} (h_p1_lo : IntKind.has .u64 p1_lo) {p2_y : Int} (h_p2_y : IntKind.has .u64 p2_y) {r : Int × Int} (E : f_math_bits_Div64 N p0_hi p1_lo p2_y = some r) :
    Ret Try.prog 45 #[.int .u64 p0_hi, .int .u64 p1_lo, .int .u64 p2_y] S h (fun v S' h' => v = .tuple #[.int .u64 r.1, .int .u64 r.2] ∧ IntKind.has .u64 r.1 ∧ IntKind.has .u64 r.2 ∧ St S' (L) h') := by
  refine Ret.go (l := [.int .u64 p0_hi, .int .u64 p1_lo, .int .u64 p2_y]) 135 Try.func45 rfl Try.ntmps45 rfl fun B => ?_
  rw [f_math_bits_Div64] at E
  refine WF.seq ?_
  refine WF.rp (.inl rfl) ?_
  refine QF.as_ rfl rfl ?_
  refine QF.as_ rfl rfl ?_
  refine QF.rpn (sb 0 rfl (sb 1 rfl (sb 2 rfl sb0))) ?_
  refine WF.seq ?_
  refine WF.seq ?_
  refine WF.rp (.inl rfl) ?_
  refine QF.mv rfl rfl ?_
  refine QF.eql rfl rfl rfl ?_
  refine QF.rpn (sb 20 rfl (sb 0 rfl (sb 1 rfl (sb 2 rfl sb0)))) ?_
  refine WF.if_ rfl (fun c1 => ?_) (fun c1 => ?_)
  · skip
    have E := cdT c1 E
    cases E
  · skip
    have E := cdF c1 E
    refine WF.skip ?_
    refine WF.seq ?_
    refine WF.seq ?_
    refine WF.rp (.inl rfl) ?_
    refine QF.mv rfl rfl ?_
    refine QF.mv rfl rfl ?_
    refine QF.leq rfl rfl rfl ?_
    refine QF.rpn (sb 24 rfl (sb 0 rfl (sb 1 rfl (sb 2 rfl sb0)))) ?_
    refine WF.if_ rfl (fun c2 => ?_) (fun c2 => ?_)
    · skip
      have E := cdT c2 E
      cases E
    · skip
      have E := cdF c2 E
      refine WF.skip ?_
      refine WF.seq ?_
      refine WF.seq ?_
      refine WF.rp (.inl rfl) ?_
      refine QF.mv rfl rfl ?_
      refine QF.eql rfl rfl rfl ?_
      refine QF.rpn (sb 27 rfl (sb 0 rfl (sb 1 rfl (sb 2 rfl sb0)))) ?_
      refine WF.if_ rfl (fun c3 => ?_) (fun c3 => ?_)
      · skip
        have E := cdT c3 E
        refine WF.seq ?_
        refine WF.rp (.inr ⟨mo, by kernel_rfl⟩) ?_
        refine QF.mv rfl rfl ?_
        refine QF.mv rfl rfl ?_
        obtain ⟨z4, hz4, E⟩ := bd E
        have r5 : IntKind.has .u64 z4 := quoK_has hz4
        refine QF.quok rfl rfl rfl hz4 ?_
        refine QF.mv rfl rfl ?_
        refine QF.mv rfl rfl ?_
        obtain ⟨z6, hz6, E⟩ := bd E
        have r7 : IntKind.has .u64 z6 := remK_has h_p1_lo hz6
        refine QF.remk rfl rfl rfl hz6 ?_
        refine QF.as_ rfl rfl ?_
        refine QF.as_ rfl rfl ?_
        refine QF.rpn (sb 7 rfl (sb 6 rfl sb0)) ?_
        refine WF.ret (fun aa ww hf hw => ?_)
        cases E
        exact rtg hf rfl hw (rvc (rvT hf (v := _) rfl) (rvc (rvT hf (v := _) rfl) rv0)) rfl (Ext.refl S h) ⟨rfl, r5, r7, hs⟩
      · skip
        have E := cdF c3 E
        refine WF.skip ?_
        refine WF.seq ?_
        refine WF.rc (.inl rfl) hs ?_
        refine QF.mv rfl rfl ?_
        obtain ⟨y8, hy8, E⟩ := bd E
        refine QF.callp (v := .int .i64 y8) (Ψ := inI64 y8) rfl rfl rfl ca_47 rfl (fun h' o => (math_bits_LeadingZeros64_ret (St.all h') h_p2_y hy8).mono fun _ _ _ _ p => ⟨p.1, p.2.1⟩) fun r9 => ?_
        have r10 := r9
        refine QF.convk rfl uk_3 uk_112 rfl ?_
        refine QF.as_ rfl rfl ?_
        refine QF.rcn (sb 8 rfl (sb 0 rfl (sb 1 rfl (sb 2 rfl sb0)))) fun h11 hs12 e13 => ?_
        refine WF.seq ?_
        refine WF.rp (.inl rfl) ?_
        refine QF.mv rfl rfl ?_
        refine QF.mv rfl rfl ?_
        obtain ⟨j14, hj14, E⟩ := bd E
        refine QF.shlk (j := j14) rfl rfl rfl hj14 ?_
        refine QF.as_ rfl rfl ?_
        refine QF.rpn (sb 2 rfl (sb 8 rfl (sb 0 rfl (sb 1 rfl sb0)))) ?_
        refine WF.seq ?_
        refine WF.rp (.inl rfl) ?_
        refine QF.mv rfl rfl ?_
        refine QF.shrk (j := 32) rfl rfl rfl rfl ?_
        refine QF.as_ rfl rfl ?_
        refine QF.rpn (sb 9 rfl (sb 2 rfl (sb 8 rfl (sb 0 rfl (sb 1 rfl sb0))))) ?_
        refine WF.seq ?_
        refine WF.rp (.inl rfl) ?_
        refine QF.mv rfl rfl ?_
        refine QF.andk rfl rfl rfl ?_
        refine QF.as_ rfl rfl ?_
        refine QF.rpn (sb 10 rfl (sb 9 rfl (sb 2 rfl (sb 8 rfl (sb 0 rfl (sb 1 rfl sb0)))))) ?_
        refine WF.seq ?_
        refine WF.rp (.inl rfl) ?_
        refine QF.mv rfl rfl ?_
        refine QF.mv rfl rfl ?_
        obtain ⟨j15, hj15, E⟩ := bd E
        refine QF.shlk (j := j15) rfl rfl rfl hj15 ?_
        refine QF.mv rfl rfl ?_
        refine QF.mv rfl rfl ?_
        refine QF.subk rfl rfl rfl ?_
        obtain ⟨j16, hj16, E⟩ := bd E
        refine QF.shrk (j := j16) rfl rfl rfl hj16 ?_
        refine QF.ork rfl rfl rfl ?_
        refine QF.as_ rfl rfl ?_
        refine QF.rpn (sb 11 rfl (sb 10 rfl (sb 9 rfl (sb 2 rfl (sb 8 rfl (sb 1 rfl sb0)))))) ?_
        refine WF.seq ?_
        refine WF.rp (.inl rfl) ?_
        refine QF.mv rfl rfl ?_
        refine QF.mv rfl rfl ?_
        obtain ⟨j17, hj17, E⟩ := bd E
        refine QF.shlk (j := j17) rfl rfl rfl hj17 ?_
        refine QF.as_ rfl rfl ?_
        refine QF.rpn (sb 12 rfl (sb 11 rfl (sb 10 rfl (sb 9 rfl (sb 2 rfl (sb 8 rfl sb0)))))) ?_
        refine WF.seq ?_
        refine WF.rp (.inl rfl) ?_
        refine QF.mv rfl rfl ?_
        refine QF.shrk (j := 32) rfl rfl rfl rfl ?_
        refine QF.as_ rfl rfl ?_
        refine QF.rpn (sb 13 rfl (sb 12 rfl (sb 11 rfl (sb 10 rfl (sb 9 rfl (sb 2 rfl (sb 8 rfl sb0))))))) ?_
        refine WF.seq ?_
        refine WF.rp (.inl rfl) ?_
        refine QF.mv rfl rfl ?_
        refine QF.andk rfl rfl rfl ?_
        refine QF.as_ rfl rfl ?_
        refine QF.rpn (sb 14 rfl (sb 13 rfl (sb 11 rfl (sb 10 rfl (sb 9 rfl (sb 2 rfl (sb 8 rfl sb0))))))) ?_
        refine WF.seq ?_
        refine WF.rp (.inl rfl) ?_
        refine QF.mv rfl rfl ?_
        refine QF.mv rfl rfl ?_
        obtain ⟨z18, hz18, E⟩ := bd E
        have r19 : IntKind.has .u64 z18 := quoK_has hz18
        refine QF.quok rfl rfl rfl hz18 ?_
        refine QF.as_ rfl rfl ?_
        refine QF.rpn (sb 15 rfl (sb 14 rfl (sb 13 rfl (sb 11 rfl (sb 10 rfl (sb 9 rfl (sb 2 rfl (sb 8 rfl sb0)))))))) ?_
        refine WF.seq ?_
        refine WF.rp (.inl rfl) ?_
        refine QF.mv rfl rfl ?_
        refine QF.mv rfl rfl ?_
        refine QF.mv rfl rfl ?_
        refine QF.mulk rfl rfl rfl ?_
        refine QF.subk rfl rfl rfl ?_
        refine QF.as_ rfl rfl ?_
        refine QF.rpn (sb 16 rfl (sb 15 rfl (sb 14 rfl (sb 13 rfl (sb 11 rfl (sb 10 rfl (sb 9 rfl (sb 2 rfl (sb 8 rfl sb0))))))))) ?_
        refine WF.seq ?_
        refine WF.blockJ (fun a w => ∃ (i20 : Int) (S' : Nat → Prop) (h' : Heap), Fr 135 a [(14, .int .u64 (bitK .and .u64 (shlK .u64 p1_lo j17) 4294967295)), (13, .int .u64 (shrK .u64 (shlK .u64 p1_lo j17) 32)), (11, .int .u64 (bitK .or .u64 (shlK .u64 p0_hi j15) (shrK .u64 p1_lo j16))), (10, .int .u64 (bitK .and .u64 (shlK .u64 p2_y j14) 4294967295)), (9, .int .u64 (shrK .u64 (shlK .u64 p2_y j14) 32)), (2, .int .u64 (shlK .u64 p2_y j14)), (8, .int .u64 (IntKind.wrap .u64 y8)), (15, .int .u64 i20)] ∧ Wd B h' w ∧ St S' (L) h' ∧ Ext S h11 S' h' ∧ IntKind.has .u64 i20 ∧ f_math_bits_Div64_j0 N p0_hi p1_lo p2_y y8 j14 j15 j16 j17 i20 = some r) ?_ ?_
        · skip
          refine WF.loopF (fun n1 => fun a w => ∃ (i26 : Int) (i28 : Int) (S' : Nat → Prop) (h' : Heap), Fr 135 a [(14, .int .u64 (bitK .and .u64 (shlK .u64 p1_lo j17) 4294967295)), (13, .int .u64 (shrK .u64 (shlK .u64 p1_lo j17) 32)), (11, .int .u64 (bitK .or .u64 (shlK .u64 p0_hi j15) (shrK .u64 p1_lo j16))), (10, .int .u64 (bitK .and .u64 (shlK .u64 p2_y j14) 4294967295)), (9, .int .u64 (shrK .u64 (shlK .u64 p2_y j14) 32)), (2, .int .u64 (shlK .u64 p2_y j14)), (8, .int .u64 (IntKind.wrap .u64 y8)), (15, .int .u64 i26), (16, .int .u64 i28)] ∧ Wd B h' w ∧ St S' (L) h' ∧ Ext S h11 S' h' ∧ IntKind.has .u64 i26 ∧ IntKind.has .u64 i28 ∧ f_math_bits_Div64_l1 N p1_lo p2_y j14 j17 (f_math_bits_Div64_j0 N p0_hi p1_lo p2_y y8 j14 j15 j16 j17) n1 i26 i28 = some r) N ?_ ?_ ?_
          · intro aa ww hf hw
            exact ⟨z18, (IntKind.wrap .u64 ((bitK .or .u64 (shlK .u64 p0_hi j15) (shrK .u64 p1_lo j16)) - (IntKind.wrap .u64 (z18 * (shrK .u64 (shlK .u64 p2_y j14) 32))))), _, _, hf.sub (sb 14 rfl (sb 13 rfl (sb 11 rfl (sb 10 rfl (sb 9 rfl (sb 2 rfl (sb 8 rfl (sb 15 rfl (sb 16 rfl sb0))))))))), hw, hs12, (Ext.refl S h11), r19, (has_wrap _ _), E⟩
          · rintro aa ww ⟨_, _, _, _, _, _, _, _, _, _, E⟩
            rw [f_math_bits_Div64_l1] at E; cases E
          · skip
            rintro n1 aa ww ⟨i26, i28, S30, h31, hf, hw, hs32, e33, r27, r29, E⟩
            refine WF.run ?_ hf hw
            clear hf hw ww aa
            rw [f_math_bits_Div64_l1] at E
            refine WF.seq ?_
            refine WF.seq ?_
            refine WF.rp (.inl rfl) ?_
            refine QF.mv rfl rfl ?_
            refine QF.geq rfl rfl rfl ?_
            refine QF.mv rfl rfl ?_
            refine QF.cutv 9 78 (.bool ((decide (4294967296 ≤ i26)) || (decide ((IntKind.wrap .u64 ((IntKind.wrap .u64 (4294967296 * i28)) + (shrK .u64 (shlK .u64 p1_lo j17) 32))) < (IntKind.wrap .u64 (i26 * (bitK .and .u64 (shlK .u64 p2_y j14) 4294967295))))))) ?_ ?_
            · cases c34 : (decide (4294967296 ≤ i26))
              · skip
                refine QF.gy rfl rfl rfl ?_
                refine QF.mv rfl rfl ?_
                refine QF.gy rfl rfl rfl ?_
                refine QF.mv rfl rfl ?_
                refine QF.gy rfl rfl rfl ?_
                refine QF.mulk rfl rfl rfl ?_
                refine QF.gy rfl rfl rfl ?_
                refine QF.mv rfl rfl ?_
                refine QF.gy rfl rfl rfl ?_
                refine QF.mulk rfl rfl rfl ?_
                refine QF.gy rfl rfl rfl ?_
                refine QF.mv rfl rfl ?_
                refine QF.gy rfl rfl rfl ?_
                refine QF.addk rfl rfl rfl ?_
                refine QF.gy rfl rfl rfl ?_
                refine QF.gtr rfl rfl rfl ?_
                refine QF.pick rfl rfl rfl ?_
                exact QF.cutn (sb 78 rfl (sb 69 rfl (sb 68 rfl (sb 67 rfl (sb 14 rfl (sb 13 rfl (sb 11 rfl (sb 10 rfl (sb 9 rfl (sb 2 rfl (sb 8 rfl (sb 15 rfl (sb 16 rfl sb0)))))))))))))
              · skip
                refine QF.gnT rfl rfl rfl rfl rfl ?_
                refine QF.gnT rfl rfl rfl rfl rfl ?_
                refine QF.gnT rfl rfl rfl rfl rfl ?_
                refine QF.gnT rfl rfl rfl rfl rfl ?_
                refine QF.gnT rfl rfl rfl rfl rfl ?_
                refine QF.gnT rfl rfl rfl rfl rfl ?_
                refine QF.gnT rfl rfl rfl rfl rfl ?_
                refine QF.gnT rfl rfl rfl rfl rfl ?_
                refine QF.pick rfl rfl rfl ?_
                exact QF.cutn (sb 78 rfl (sb 69 rfl (sb 68 rfl (sb 67 rfl (sb 14 rfl (sb 13 rfl (sb 11 rfl (sb 10 rfl (sb 9 rfl (sb 2 rfl (sb 8 rfl (sb 15 rfl (sb 16 rfl sb0)))))))))))))
            refine QF.rpn (sb 78 rfl (sb 14 rfl (sb 13 rfl (sb 11 rfl (sb 10 rfl (sb 9 rfl (sb 2 rfl (sb 8 rfl (sb 15 rfl (sb 16 rfl sb0)))))))))) ?_
            refine WF.if_ rfl (fun c35 => ?_) (fun c35 => ?_)
            · skip
              have E := cdT c35 E
              refine WF.skip ?_
              refine WF.block ?_
              refine WF.seq ?_
              refine WF.rp (.inl rfl) ?_
              refine QF.mv rfl rfl ?_
              refine QF.subk rfl rfl rfl ?_
              refine QF.as_ rfl rfl ?_
              refine QF.rpn (sb 15 rfl (sb 14 rfl (sb 13 rfl (sb 11 rfl (sb 10 rfl (sb 9 rfl (sb 2 rfl (sb 8 rfl (sb 16 rfl sb0))))))))) ?_
              refine WF.seq ?_
              refine WF.rp (.inl rfl) ?_
              refine QF.mv rfl rfl ?_
              refine QF.mv rfl rfl ?_
              refine QF.addk rfl rfl rfl ?_
              refine QF.as_ rfl rfl ?_
              refine QF.rpn (sb 16 rfl (sb 15 rfl (sb 14 rfl (sb 13 rfl (sb 11 rfl (sb 10 rfl (sb 9 rfl (sb 2 rfl (sb 8 rfl sb0))))))))) ?_
              refine WF.seq ?_
              refine WF.rp (.inl rfl) ?_
              refine QF.mv rfl rfl ?_
              refine QF.geq rfl rfl rfl ?_
              refine QF.rpn (sb 85 rfl (sb 16 rfl (sb 15 rfl (sb 14 rfl (sb 13 rfl (sb 11 rfl (sb 10 rfl (sb 9 rfl (sb 2 rfl (sb 8 rfl sb0)))))))))) ?_
              refine WF.if_ rfl (fun c36 => ?_) (fun c36 => ?_)
              · skip
                have E := cdT c36 E
                refine WF.exit rfl (fun aa ww hf hw => ?_)
                exact ⟨(IntKind.wrap .u64 (i26 - 1)), _, _, hf.sub (sb 14 rfl (sb 13 rfl (sb 11 rfl (sb 10 rfl (sb 9 rfl (sb 2 rfl (sb 8 rfl (sb 15 rfl sb0)))))))), hw, hs32, e33, (has_wrap _ _), E⟩
              · skip
                have E := cdF c36 E
                refine WF.skip ?_
                refine WF.nilW ?_
                refine WF.nil (fun aa ww hf hw => ?_)
                exact ⟨(IntKind.wrap .u64 (i26 - 1)), (IntKind.wrap .u64 (i28 + (shrK .u64 (shlK .u64 p2_y j14) 32))), _, _, hf.sub (sb 14 rfl (sb 13 rfl (sb 11 rfl (sb 10 rfl (sb 9 rfl (sb 2 rfl (sb 8 rfl (sb 15 rfl (sb 16 rfl sb0))))))))), hw, hs32, e33, (has_wrap _ _), (has_wrap _ _), E⟩
            · skip
              have E := cdF c35 E
              refine WF.exit rfl (fun aa ww hf hw => ?_)
              exact ⟨i26, _, _, hf.sub (sb 14 rfl (sb 13 rfl (sb 11 rfl (sb 10 rfl (sb 9 rfl (sb 2 rfl (sb 8 rfl (sb 15 rfl sb0)))))))), hw, hs32, e33, r27, E⟩
        · skip
          rintro aa ww ⟨i20, S37, h38, hf, hw, hs39, e40, r21, E⟩
          refine WF.run ?_ hf hw
          clear hf hw ww aa
          rw [f_math_bits_Div64_j0] at E
          refine WF.seq ?_
          refine WF.rp (.inl rfl) ?_
          refine QF.mv rfl rfl ?_
          refine QF.mulk rfl rfl rfl ?_
          refine QF.mv rfl rfl ?_
          refine QF.addk rfl rfl rfl ?_
          refine QF.mv rfl rfl ?_
          refine QF.mv rfl rfl ?_
          refine QF.mulk rfl rfl rfl ?_
          refine QF.subk rfl rfl rfl ?_
          refine QF.as_ rfl rfl ?_
          refine QF.rpn (sb 17 rfl (sb 14 rfl (sb 10 rfl (sb 9 rfl (sb 2 rfl (sb 8 rfl (sb 15 rfl sb0))))))) ?_
          refine WF.seq ?_
          refine WF.rp (.inl rfl) ?_
          refine QF.mv rfl rfl ?_
          refine QF.mv rfl rfl ?_
          obtain ⟨z41, hz41, E⟩ := bd E
          have r42 : IntKind.has .u64 z41 := quoK_has hz41
          refine QF.quok rfl rfl rfl hz41 ?_
          refine QF.as_ rfl rfl ?_
          refine QF.rpn (sb 18 rfl (sb 17 rfl (sb 14 rfl (sb 10 rfl (sb 9 rfl (sb 2 rfl (sb 8 rfl (sb 15 rfl sb0)))))))) ?_
          refine WF.seq ?_
          refine WF.rp (.inl rfl) ?_
          refine QF.mv rfl rfl ?_
          refine QF.mv rfl rfl ?_
          refine QF.mv rfl rfl ?_
          refine QF.mulk rfl rfl rfl ?_
          refine QF.subk rfl rfl rfl ?_
          refine QF.as_ rfl rfl ?_
          refine QF.rpn (sb 16 rfl (sb 18 rfl (sb 17 rfl (sb 14 rfl (sb 10 rfl (sb 9 rfl (sb 2 rfl (sb 8 rfl (sb 15 rfl sb0))))))))) ?_
          refine WF.seq ?_
          refine WF.blockJ (fun a w => ∃ (i43 : Int) (S' : Nat → Prop) (h' : Heap), Fr 135 a [(17, .int .u64 (IntKind.wrap .u64 ((IntKind.wrap .u64 ((IntKind.wrap .u64 ((bitK .or .u64 (shlK .u64 p0_hi j15) (shrK .u64 p1_lo j16)) * 4294967296)) + (shrK .u64 (shlK .u64 p1_lo j17) 32))) - (IntKind.wrap .u64 (i20 * (shlK .u64 p2_y j14)))))), (14, .int .u64 (bitK .and .u64 (shlK .u64 p1_lo j17) 4294967295)), (2, .int .u64 (shlK .u64 p2_y j14)), (8, .int .u64 (IntKind.wrap .u64 y8)), (15, .int .u64 i20), (18, .int .u64 i43)] ∧ Wd B h' w ∧ St S' (L) h' ∧ Ext S37 h38 S' h' ∧ IntKind.has .u64 i43 ∧ f_math_bits_Div64_j2 N p0_hi p1_lo p2_y y8 j14 j15 j16 j17 i20 i43 = some r) ?_ ?_
          · skip
            refine WF.loopF (fun n3 => fun a w => ∃ (i49 : Int) (i51 : Int) (S' : Nat → Prop) (h' : Heap), Fr 135 a [(17, .int .u64 (IntKind.wrap .u64 ((IntKind.wrap .u64 ((IntKind.wrap .u64 ((bitK .or .u64 (shlK .u64 p0_hi j15) (shrK .u64 p1_lo j16)) * 4294967296)) + (shrK .u64 (shlK .u64 p1_lo j17) 32))) - (IntKind.wrap .u64 (i20 * (shlK .u64 p2_y j14)))))), (14, .int .u64 (bitK .and .u64 (shlK .u64 p1_lo j17) 4294967295)), (10, .int .u64 (bitK .and .u64 (shlK .u64 p2_y j14) 4294967295)), (9, .int .u64 (shrK .u64 (shlK .u64 p2_y j14) 32)), (2, .int .u64 (shlK .u64 p2_y j14)), (8, .int .u64 (IntKind.wrap .u64 y8)), (15, .int .u64 i20), (16, .int .u64 i49), (18, .int .u64 i51)] ∧ Wd B h' w ∧ St S' (L) h' ∧ Ext S37 h38 S' h' ∧ IntKind.has .u64 i49 ∧ IntKind.has .u64 i51 ∧ f_math_bits_Div64_l3 N p1_lo p2_y j14 j17 (f_math_bits_Div64_j2 N p0_hi p1_lo p2_y y8 j14 j15 j16 j17 i20) n3 i49 i51 = some r) N ?_ ?_ ?_
            · intro aa ww hf hw
              exact ⟨(IntKind.wrap .u64 ((IntKind.wrap .u64 ((IntKind.wrap .u64 ((IntKind.wrap .u64 ((bitK .or .u64 (shlK .u64 p0_hi j15) (shrK .u64 p1_lo j16)) * 4294967296)) + (shrK .u64 (shlK .u64 p1_lo j17) 32))) - (IntKind.wrap .u64 (i20 * (shlK .u64 p2_y j14))))) - (IntKind.wrap .u64 (z41 * (shrK .u64 (shlK .u64 p2_y j14) 32))))), z41, _, _, hf.sub (sb 17 rfl (sb 14 rfl (sb 10 rfl (sb 9 rfl (sb 2 rfl (sb 8 rfl (sb 15 rfl (sb 16 rfl (sb 18 rfl sb0))))))))), hw, hs39, (Ext.refl S37 h38), (has_wrap _ _), r42, E⟩
            · rintro aa ww ⟨_, _, _, _, _, _, _, _, _, _, E⟩
              rw [f_math_bits_Div64_l3] at E; cases E
            · skip
              rintro n3 aa ww ⟨i49, i51, S53, h54, hf, hw, hs55, e56, r50, r52, E⟩
              refine WF.run ?_ hf hw
              clear hf hw ww aa
              rw [f_math_bits_Div64_l3] at E
              refine WF.seq ?_
              refine WF.seq ?_
              refine WF.rp (.inl rfl) ?_
              refine QF.mv rfl rfl ?_
              refine QF.geq rfl rfl rfl ?_
              refine QF.mv rfl rfl ?_
              refine QF.cutv 9 113 (.bool ((decide (4294967296 ≤ i51)) || (decide ((IntKind.wrap .u64 ((IntKind.wrap .u64 (4294967296 * i49)) + (bitK .and .u64 (shlK .u64 p1_lo j17) 4294967295))) < (IntKind.wrap .u64 (i51 * (bitK .and .u64 (shlK .u64 p2_y j14) 4294967295))))))) ?_ ?_
              · cases c57 : (decide (4294967296 ≤ i51))
                · skip
                  refine QF.gy rfl rfl rfl ?_
                  refine QF.mv rfl rfl ?_
                  refine QF.gy rfl rfl rfl ?_
                  refine QF.mv rfl rfl ?_
                  refine QF.gy rfl rfl rfl ?_
                  refine QF.mulk rfl rfl rfl ?_
                  refine QF.gy rfl rfl rfl ?_
                  refine QF.mv rfl rfl ?_
                  refine QF.gy rfl rfl rfl ?_
                  refine QF.mulk rfl rfl rfl ?_
                  refine QF.gy rfl rfl rfl ?_
                  refine QF.mv rfl rfl ?_
                  refine QF.gy rfl rfl rfl ?_
                  refine QF.addk rfl rfl rfl ?_
                  refine QF.gy rfl rfl rfl ?_
                  refine QF.gtr rfl rfl rfl ?_
                  refine QF.pick rfl rfl rfl ?_
                  exact QF.cutn (sb 113 rfl (sb 104 rfl (sb 103 rfl (sb 102 rfl (sb 17 rfl (sb 14 rfl (sb 10 rfl (sb 9 rfl (sb 2 rfl (sb 8 rfl (sb 15 rfl (sb 16 rfl (sb 18 rfl sb0)))))))))))))
                · skip
                  refine QF.gnT rfl rfl rfl rfl rfl ?_
                  refine QF.gnT rfl rfl rfl rfl rfl ?_
                  refine QF.gnT rfl rfl rfl rfl rfl ?_
                  refine QF.gnT rfl rfl rfl rfl rfl ?_
                  refine QF.gnT rfl rfl rfl rfl rfl ?_
                  refine QF.gnT rfl rfl rfl rfl rfl ?_
                  refine QF.gnT rfl rfl rfl rfl rfl ?_
                  refine QF.gnT rfl rfl rfl rfl rfl ?_
                  refine QF.pick rfl rfl rfl ?_
                  exact QF.cutn (sb 113 rfl (sb 104 rfl (sb 103 rfl (sb 102 rfl (sb 17 rfl (sb 14 rfl (sb 10 rfl (sb 9 rfl (sb 2 rfl (sb 8 rfl (sb 15 rfl (sb 16 rfl (sb 18 rfl sb0)))))))))))))
              refine QF.rpn (sb 113 rfl (sb 17 rfl (sb 14 rfl (sb 10 rfl (sb 9 rfl (sb 2 rfl (sb 8 rfl (sb 15 rfl (sb 16 rfl (sb 18 rfl sb0)))))))))) ?_
              refine WF.if_ rfl (fun c58 => ?_) (fun c58 => ?_)
              · skip
                have E := cdT c58 E
                refine WF.skip ?_
                refine WF.block ?_
                refine WF.seq ?_
                refine WF.rp (.inl rfl) ?_
                refine QF.mv rfl rfl ?_
                refine QF.subk rfl rfl rfl ?_
                refine QF.as_ rfl rfl ?_
                refine QF.rpn (sb 18 rfl (sb 17 rfl (sb 14 rfl (sb 10 rfl (sb 9 rfl (sb 2 rfl (sb 8 rfl (sb 15 rfl (sb 16 rfl sb0))))))))) ?_
                refine WF.seq ?_
                refine WF.rp (.inl rfl) ?_
                refine QF.mv rfl rfl ?_
                refine QF.mv rfl rfl ?_
                refine QF.addk rfl rfl rfl ?_
                refine QF.as_ rfl rfl ?_
                refine QF.rpn (sb 16 rfl (sb 18 rfl (sb 17 rfl (sb 14 rfl (sb 10 rfl (sb 9 rfl (sb 2 rfl (sb 8 rfl (sb 15 rfl sb0))))))))) ?_
                refine WF.seq ?_
                refine WF.rp (.inl rfl) ?_
                refine QF.mv rfl rfl ?_
                refine QF.geq rfl rfl rfl ?_
                refine QF.rpn (sb 120 rfl (sb 16 rfl (sb 18 rfl (sb 17 rfl (sb 14 rfl (sb 10 rfl (sb 9 rfl (sb 2 rfl (sb 8 rfl (sb 15 rfl sb0)))))))))) ?_
                refine WF.if_ rfl (fun c59 => ?_) (fun c59 => ?_)
                · skip
                  have E := cdT c59 E
                  refine WF.exit rfl (fun aa ww hf hw => ?_)
                  exact ⟨(IntKind.wrap .u64 (i51 - 1)), _, _, hf.sub (sb 17 rfl (sb 14 rfl (sb 2 rfl (sb 8 rfl (sb 15 rfl (sb 18 rfl sb0)))))), hw, hs55, e56, (has_wrap _ _), E⟩
                · skip
                  have E := cdF c59 E
                  refine WF.skip ?_
                  refine WF.nilW ?_
                  refine WF.nil (fun aa ww hf hw => ?_)
                  exact ⟨(IntKind.wrap .u64 (i49 + (shrK .u64 (shlK .u64 p2_y j14) 32))), (IntKind.wrap .u64 (i51 - 1)), _, _, hf.sub (sb 17 rfl (sb 14 rfl (sb 10 rfl (sb 9 rfl (sb 2 rfl (sb 8 rfl (sb 15 rfl (sb 16 rfl (sb 18 rfl sb0))))))))), hw, hs55, e56, (has_wrap _ _), (has_wrap _ _), E⟩
              · skip
                have E := cdF c58 E
                refine WF.exit rfl (fun aa ww hf hw => ?_)
                exact ⟨i51, _, _, hf.sub (sb 17 rfl (sb 14 rfl (sb 2 rfl (sb 8 rfl (sb 15 rfl (sb 18 rfl sb0)))))), hw, hs55, e56, r52, E⟩
          · skip
            rintro aa ww ⟨i43, S60, h61, hf, hw, hs62, e63, r44, E⟩
            refine WF.run ?_ hf hw
            clear hf hw ww aa
            rw [f_math_bits_Div64_j2] at E
            refine WF.seq ?_
            refine WF.rp (.inl rfl) ?_
            refine QF.mv rfl rfl ?_
            refine QF.mulk rfl rfl rfl ?_
            refine QF.mv rfl rfl ?_
            refine QF.addk rfl rfl rfl ?_
            refine QF.mv rfl rfl ?_
            refine QF.mulk rfl rfl rfl ?_
            refine QF.mv rfl rfl ?_
            refine QF.addk rfl rfl rfl ?_
            refine QF.mv rfl rfl ?_
            refine QF.mv rfl rfl ?_
            refine QF.mulk rfl rfl rfl ?_
            refine QF.subk rfl rfl rfl ?_
            refine QF.mv rfl rfl ?_
            obtain ⟨j64, hj64, E⟩ := bd E
            refine QF.shrk (j := j64) rfl rfl rfl hj64 ?_
            refine QF.as_ rfl rfl ?_
            refine QF.as_ rfl rfl ?_
            refine QF.rpn (sb 7 rfl (sb 6 rfl sb0)) ?_
            refine WF.ret (fun aa ww hf hw => ?_)
            cases E
            exact rtg hf rfl hw (rvc (rvT hf (v := _) rfl) (rvc (rvT hf (v := _) rfl) rv0)) rfl (e13.trans (e40.trans e63)) ⟨rfl, (has_wrap _ _), (has_shr _ (has_wrap _ _) _), hs62⟩

set_option maxRecDepth 10000 in
set_option maxHeartbeats 2000000 in
theorem exact_Scale_ret {N : Nat} {S : Nat → Prop} {L : List HP} {h : Heap} (hs : St S L h) {p0_a : Int} (h_p0_a : inI64 p0_a) {p1_num : Int} (h_p1_num : inI64 p1_num) {p2_den : Int} (h_p2_den : inI64 p2_den) {r : Int × Int × Bool} (E : f_exact_Scale N p0_a p1_num p2_den = some r) :
    Ret Try.prog 40 #[.int .i64 p0_a, .int .i64 p1_num, .int .i64 p2_den] S h (fun v S' h' => v = .tuple #[.int .i64 r.1, .int .i64 r.2.1, .bool r.2.2] ∧ inI64 r.1 ∧ inI64 r.2.1 ∧ St S' (L) h') := by
  refine Ret.go (l := [.int .i64 p0_a, .int .i64 p1_num, .int .i64 p2_den]) 61 Try.func40 rfl Try.ntmps40 rfl fun B => ?_
  rw [f_exact_Scale] at E
  refine WF.seq ?_
  refine WF.rp (.inl rfl) ?_
  refine QF.as_ rfl rfl ?_
  refine QF.as_ rfl rfl ?_
  refine QF.as_ rfl rfl ?_
  refine QF.rpn (sb 0 rfl (sb 1 rfl (sb 2 rfl sb0))) ?_
  refine WF.seq ?_
  refine WF.seq ?_
  refine WF.rp (.inl rfl) ?_
  refine QF.mv rfl rfl ?_
  refine QF.lss rfl rfl rfl ?_
  refine QF.mv rfl rfl ?_
  refine QF.cutv 3 18 (.bool ((decide (p0_a < 0)) || (decide (1125899906842624 < p0_a)))) ?_ ?_
  · cases c1 : (decide (p0_a < 0))
    · skip
      refine QF.gy rfl rfl rfl ?_
      refine QF.mv rfl rfl ?_
      refine QF.gy rfl rfl rfl ?_
      refine QF.gtr rfl rfl rfl ?_
      refine QF.pick rfl rfl rfl ?_
      exact QF.cutn (sb 18 rfl (sb 15 rfl (sb 14 rfl (sb 13 rfl (sb 0 rfl (sb 1 rfl (sb 2 rfl sb0)))))))
    · skip
      refine QF.gnT rfl rfl rfl rfl rfl ?_
      refine QF.gnT rfl rfl rfl rfl rfl ?_
      refine QF.pick rfl rfl rfl ?_
      exact QF.cutn (sb 18 rfl (sb 15 rfl (sb 14 rfl (sb 13 rfl (sb 0 rfl (sb 1 rfl (sb 2 rfl sb0)))))))
  refine QF.mv rfl rfl ?_
  refine QF.cutv 3 22 (.bool (((decide (p0_a < 0)) || (decide (1125899906842624 < p0_a))) || (decide (p1_num < 0)))) ?_ ?_
  · cases c2 : ((decide (p0_a < 0)) || (decide (1125899906842624 < p0_a)))
    · skip
      refine QF.gy rfl rfl rfl ?_
      refine QF.mv rfl rfl ?_
      refine QF.gy rfl rfl rfl ?_
      refine QF.lss rfl rfl rfl ?_
      refine QF.pick rfl rfl rfl ?_
      exact QF.cutn (sb 22 rfl (sb 19 rfl (sb 18 rfl (sb 15 rfl (sb 14 rfl (sb 13 rfl (sb 0 rfl (sb 1 rfl (sb 2 rfl sb0)))))))))
    · skip
      refine QF.gnT rfl rfl rfl rfl rfl ?_
      refine QF.gnT rfl rfl rfl rfl rfl ?_
      refine QF.pick rfl rfl rfl ?_
      exact QF.cutn (sb 22 rfl (sb 19 rfl (sb 18 rfl (sb 15 rfl (sb 14 rfl (sb 13 rfl (sb 0 rfl (sb 1 rfl (sb 2 rfl sb0)))))))))
  refine QF.mv rfl rfl ?_
  refine QF.cutv 3 26 (.bool ((((decide (p0_a < 0)) || (decide (1125899906842624 < p0_a))) || (decide (p1_num < 0))) || (decide (1125899906842624 < p1_num)))) ?_ ?_
  · cases c3 : (((decide (p0_a < 0)) || (decide (1125899906842624 < p0_a))) || (decide (p1_num < 0)))
    · skip
      refine QF.gy rfl rfl rfl ?_
      refine QF.mv rfl rfl ?_
      refine QF.gy rfl rfl rfl ?_
      refine QF.gtr rfl rfl rfl ?_
      refine QF.pick rfl rfl rfl ?_
      exact QF.cutn (sb 26 rfl (sb 23 rfl (sb 22 rfl (sb 19 rfl (sb 18 rfl (sb 15 rfl (sb 14 rfl (sb 13 rfl (sb 0 rfl (sb 1 rfl (sb 2 rfl sb0)))))))))))
    · skip
      refine QF.gnT rfl rfl rfl rfl rfl ?_
      refine QF.gnT rfl rfl rfl rfl rfl ?_
      refine QF.pick rfl rfl rfl ?_
      exact QF.cutn (sb 26 rfl (sb 23 rfl (sb 22 rfl (sb 19 rfl (sb 18 rfl (sb 15 rfl (sb 14 rfl (sb 13 rfl (sb 0 rfl (sb 1 rfl (sb 2 rfl sb0)))))))))))
  refine QF.mv rfl rfl ?_
  refine QF.cutv 3 30 (.bool (((((decide (p0_a < 0)) || (decide (1125899906842624 < p0_a))) || (decide (p1_num < 0))) || (decide (1125899906842624 < p1_num))) || (decide (p2_den < 1)))) ?_ ?_
  · cases c4 : ((((decide (p0_a < 0)) || (decide (1125899906842624 < p0_a))) || (decide (p1_num < 0))) || (decide (1125899906842624 < p1_num)))
    · skip
      refine QF.gy rfl rfl rfl ?_
      refine QF.mv rfl rfl ?_
      refine QF.gy rfl rfl rfl ?_
      refine QF.lss rfl rfl rfl ?_
      refine QF.pick rfl rfl rfl ?_
      exact QF.cutn (sb 30 rfl (sb 27 rfl (sb 26 rfl (sb 23 rfl (sb 22 rfl (sb 19 rfl (sb 18 rfl (sb 15 rfl (sb 14 rfl (sb 13 rfl (sb 0 rfl (sb 1 rfl (sb 2 rfl sb0)))))))))))))
    · skip
      refine QF.gnT rfl rfl rfl rfl rfl ?_
      refine QF.gnT rfl rfl rfl rfl rfl ?_
      refine QF.pick rfl rfl rfl ?_
      exact QF.cutn (sb 30 rfl (sb 27 rfl (sb 26 rfl (sb 23 rfl (sb 22 rfl (sb 19 rfl (sb 18 rfl (sb 15 rfl (sb 14 rfl (sb 13 rfl (sb 0 rfl (sb 1 rfl (sb 2 rfl sb0)))))))))))))
  refine QF.mv rfl rfl ?_
  refine QF.cutv 3 34 (.bool ((((((decide (p0_a < 0)) || (decide (1125899906842624 < p0_a))) || (decide (p1_num < 0))) || (decide (1125899906842624 < p1_num))) || (decide (p2_den < 1))) || (decide (1125899906842624 < p2_den)))) ?_ ?_
  · cases c5 : (((((decide (p0_a < 0)) || (decide (1125899906842624 < p0_a))) || (decide (p1_num < 0))) || (decide (1125899906842624 < p1_num))) || (decide (p2_den < 1)))
    · skip
      refine QF.gy rfl rfl rfl ?_
      refine QF.mv rfl rfl ?_
      refine QF.gy rfl rfl rfl ?_
      refine QF.gtr rfl rfl rfl ?_
      refine QF.pick rfl rfl rfl ?_
      exact QF.cutn (sb 34 rfl (sb 31 rfl (sb 30 rfl (sb 27 rfl (sb 26 rfl (sb 23 rfl (sb 22 rfl (sb 19 rfl (sb 18 rfl (sb 15 rfl (sb 14 rfl (sb 13 rfl (sb 0 rfl (sb 1 rfl (sb 2 rfl sb0)))))))))))))))
    · skip
      refine QF.gnT rfl rfl rfl rfl rfl ?_
      refine QF.gnT rfl rfl rfl rfl rfl ?_
      refine QF.pick rfl rfl rfl ?_
      exact QF.cutn (sb 34 rfl (sb 31 rfl (sb 30 rfl (sb 27 rfl (sb 26 rfl (sb 23 rfl (sb 22 rfl (sb 19 rfl (sb 18 rfl (sb 15 rfl (sb 14 rfl (sb 13 rfl (sb 0 rfl (sb 1 rfl (sb 2 rfl sb0)))))))))))))))
  refine QF.rpn (sb 34 rfl (sb 0 rfl (sb 1 rfl (sb 2 rfl sb0)))) ?_
  refine WF.if_ rfl (fun c6 => ?_) (fun c6 => ?_)
  · skip
    have E := cdT c6 E
    refine WF.seq ?_
    refine WF.rp (.inl rfl) ?_
    refine QF.as_ rfl rfl ?_
    refine QF.as_ rfl rfl ?_
    refine QF.as_ rfl rfl ?_
    refine QF.rpn (sb 8 rfl (sb 7 rfl (sb 6 rfl sb0))) ?_
    refine WF.ret (fun aa ww hf hw => ?_)
    cases E
    exact rtg hf rfl hw (rvc (rvT hf (v := _) rfl) (rvc (rvT hf (v := _) rfl) (rvc (rvT hf (v := _) rfl) rv0))) rfl (Ext.refl S h) ⟨rfl, (show inI64 0 by unfold inI64; omega), (show inI64 0 by unfold inI64; omega), hs⟩
  · skip
    have E := cdF c6 E
    refine WF.skip ?_
    refine WF.seq ?_
    refine WF.rc (.inl rfl) hs ?_
    refine QF.mv rfl rfl ?_
    refine QF.convk rfl uk_3 uk_107 rfl ?_
    refine QF.mv rfl rfl ?_
    refine QF.convk rfl uk_3 uk_107 rfl ?_
    obtain ⟨y7, hy7, E⟩ := bd E
    refine QF.callp (v := .tuple #[.int .u64 y7.1, .int .u64 y7.2]) (Ψ := IntKind.has .u64 y7.1 ∧ IntKind.has .u64 y7.2) rfl rfl rfl ca_44 rfl (fun h' o => (math_bits_Mul64_ret (St.all h') (has_wrap _ _) (has_wrap _ _) hy7).mono fun _ _ _ _ p => ⟨p.1, ⟨p.2.1, p.2.2.1⟩⟩) fun r8 => ?_
    obtain ⟨r9, r10⟩ := r8
    refine QF.mv rfl rfl ?_
    refine QF.ext rfl rfl rfl ?_
    refine QF.ext rfl rfl rfl ?_
    refine QF.as_ rfl rfl ?_
    refine QF.as_ rfl rfl ?_
    refine QF.rcn (sb 10 rfl (sb 9 rfl (sb 2 rfl sb0))) fun h11 hs12 e13 => ?_
    refine WF.seq ?_
    refine WF.seq ?_
    refine WF.rp (.inl rfl) ?_
    refine QF.mv rfl rfl ?_
    refine QF.mv rfl rfl ?_
    refine QF.convk rfl uk_3 uk_107 rfl ?_
    refine QF.geq rfl rfl rfl ?_
    refine QF.rpn (sb 46 rfl (sb 10 rfl (sb 9 rfl (sb 2 rfl sb0)))) ?_
    refine WF.if_ rfl (fun c14 => ?_) (fun c14 => ?_)
    · skip
      have E := cdT c14 E
      refine WF.seq ?_
      refine WF.rp (.inl rfl) ?_
      refine QF.as_ rfl rfl ?_
      refine QF.as_ rfl rfl ?_
      refine QF.as_ rfl rfl ?_
      refine QF.rpn (sb 8 rfl (sb 7 rfl (sb 6 rfl sb0))) ?_
      refine WF.ret (fun aa ww hf hw => ?_)
      cases E
      exact rtg hf rfl hw (rvc (rvT hf (v := _) rfl) (rvc (rvT hf (v := _) rfl) (rvc (rvT hf (v := _) rfl) rv0))) rfl e13 ⟨rfl, (show inI64 0 by unfold inI64; omega), (show inI64 0 by unfold inI64; omega), hs12⟩
    · skip
      have E := cdF c14 E
      refine WF.skip ?_
      refine WF.seq ?_
      refine WF.rc (.inl rfl) hs12 ?_
      refine QF.mv rfl rfl ?_
      refine QF.mv rfl rfl ?_
      refine QF.mv rfl rfl ?_
      refine QF.convk rfl uk_3 uk_107 rfl ?_
      obtain ⟨y15, hy15, E⟩ := bd E
      refine QF.callp (v := .tuple #[.int .u64 y15.1, .int .u64 y15.2]) (Ψ := IntKind.has .u64 y15.1 ∧ IntKind.has .u64 y15.2) rfl rfl rfl ca_45 rfl (fun h' o => (math_bits_Div64_ret (St.all h') r9 r10 (has_wrap _ _) hy15).mono fun _ _ _ _ p => ⟨p.1, ⟨p.2.1, p.2.2.1⟩⟩) fun r16 => ?_
      obtain ⟨r17, r18⟩ := r16
      refine QF.mv rfl rfl ?_
      refine QF.ext rfl rfl rfl ?_
      refine QF.ext rfl rfl rfl ?_
      refine QF.as_ rfl rfl ?_
      refine QF.as_ rfl rfl ?_
      refine QF.rcn (sb 12 rfl (sb 11 rfl sb0)) fun h19 hs20 e21 => ?_
      refine WF.seq ?_
      refine WF.seq ?_
      refine WF.rp (.inl rfl) ?_
      refine QF.mv rfl rfl ?_
      refine QF.gtr rfl rfl rfl ?_
      refine QF.rpn (sb 56 rfl (sb 12 rfl (sb 11 rfl sb0))) ?_
      refine WF.if_ rfl (fun c22 => ?_) (fun c22 => ?_)
      · skip
        have E := cdT c22 E
        refine WF.seq ?_
        refine WF.rp (.inl rfl) ?_
        refine QF.as_ rfl rfl ?_
        refine QF.as_ rfl rfl ?_
        refine QF.as_ rfl rfl ?_
        refine QF.rpn (sb 8 rfl (sb 7 rfl (sb 6 rfl sb0))) ?_
        refine WF.ret (fun aa ww hf hw => ?_)
        cases E
        exact rtg hf rfl hw (rvc (rvT hf (v := _) rfl) (rvc (rvT hf (v := _) rfl) (rvc (rvT hf (v := _) rfl) rv0))) rfl (e13.trans e21) ⟨rfl, (show inI64 0 by unfold inI64; omega), (show inI64 0 by unfold inI64; omega), hs20⟩
      · skip
        have E := cdF c22 E
        refine WF.skip ?_
        refine WF.seq ?_
        refine WF.rp (.inl rfl) ?_
        refine QF.mv rfl rfl ?_
        refine QF.convk rfl uk_107 uk_3 rfl ?_
        refine QF.mv rfl rfl ?_
        refine QF.convk rfl uk_107 uk_3 rfl ?_
        refine QF.as_ rfl rfl ?_
        refine QF.as_ rfl rfl ?_
        refine QF.as_ rfl rfl ?_
        refine QF.rpn (sb 8 rfl (sb 7 rfl (sb 6 rfl sb0))) ?_
        refine WF.ret (fun aa ww hf hw => ?_)
        cases E
        exact rtg hf rfl hw (rvc (rvT hf (v := _) rfl) (rvc (rvT hf (v := _) rfl) (rvc (rvT hf (v := _) rfl) rv0))) rfl (e13.trans e21) ⟨rfl, (w64_i _), (w64_i _), hs20⟩

set_option maxRecDepth 10000 in
set_option maxHeartbeats 2000000 in
theorem curve_value_ret {N : Nat} {S : Nat → Prop} {L : List HP} {h : Heap} (hs : St S L h) {v_p0_c : Value} {p0_c : (List GPoint)} (h_p0_c : Sl S h RGPoint v_p0_c p0_c) {p1_x : Int} (h_p1_x : inI64 p1_x) {r : Int × Bool} (E : f_curve_value N p0_c p1_x = some r) :
    Ret Try.prog 46 #[v_p0_c, .int .i64 p1_x] S h (fun v S' h' => v = .tuple #[.int .i64 r.1, .bool r.2] ∧ inI64 r.1 ∧ St S' (L) h') := by
  refine Ret.go (l := [v_p0_c, .int .i64 p1_x]) 63 Try.func46 rfl Try.ntmps46 rfl fun B => ?_
  rw [f_curve_value] at E
  refine WF.seq ?_
  refine WF.rl ?_
  refine LF.boxp rfl (Rd.ofSl h_p0_c) (fun _ => rfl) rfl hs fun q1 S2 h3 hs4 e5 k6 => ?_
  refine LF.boxp rfl (⟨_, rfl, rfl, h_p1_x⟩ : Rd _ _ Rep.int _ p1_x) (fun _ => rfl) rfl hs4 fun q7 S8 h9 hs10 e11 k12 => ?_
  refine LF.q 2 ?_
  refine QF.as_ rfl rfl ?_
  refine QF.as_ rfl rfl ?_
  refine QF.ln ?_
  refine LF.nil (sb 3 rfl (sb 2 rfl sb0)) ?_
  refine WF.seq ?_
  refine WF.rc (.inl rfl) hs10 ?_
  have k13 := k6.mono e11
  refine QF.ldl ckC hs10.1 rfl k13 ty_67 rfl fun v14 k15 => ?_
  refine QF.len rfl k15 sl_67 rfl fun b16 => ?_
  unfold maxLen at b16
  refine QF.mkf rfl rfl rfl ?_
  have kf17 : Rd S8 h9 (Rep.fn Try.prog (fun x : Int => ([.int .i64 x] : List Value)) (fun x : Int => inI64 x) (fun y : Bool => .bool y) (fun y : Bool => True)) (.func (.func 48) #[] #[q1, q7]) (fun x => f_curve_value_1 N p0_c p1_x x) := Rd.ofFn 48 #[q1, q7] ca_48 fun S' h' s' e' L hs x y h1 h2 => (curve_value_1_ret hs h1 (k13.mono'' s' e') (k12.mono'' s' e') h2).mono fun _ _ _ _ p => ⟨p.1, trivial, p.2⟩
  obtain ⟨y18, hy18, E⟩ := bd E
  refine QF.callp (v := .int .i64 y18) (Ψ := inI64 y18) rfl rfl rfl ca_38 rfl (fun h' o => (sort_Search_ret (St.all h') (by unfold inI64; omega) (kf17.mono (o.all hs10.1)) hy18).mono fun _ _ _ _ p => ⟨p.1, p.2.1⟩) fun r19 => ?_
  have r20 := r19
  refine QF.as_ rfl rfl ?_
  refine QF.rcn (sb 6 rfl (sb 3 rfl (sb 2 rfl sb0))) fun h21 hs22 e23 => ?_
  refine WF.seq ?_
  refine WF.seq ?_
  refine WF.rp (.inl rfl) ?_
  refine QF.mv rfl rfl ?_
  refine QF.eql rfl rfl rfl ?_
  refine QF.rpn (sb 16 rfl (sb 6 rfl (sb 3 rfl (sb 2 rfl sb0)))) ?_
  refine WF.if_ rfl (fun c24 => ?_) (fun c24 => ?_)
  · skip
    have E := cdT c24 E
    refine WF.seq ?_
    refine WF.rp (.inl rfl) ?_
    have k25 := k13.mono e23
    refine QF.ldl ckP hs22.1 rfl k25 ty_67 rfl fun v26 k27 => ?_
    obtain ⟨x28, hx28, E⟩ := bd E
    refine QF.ixe rfl rfl k27 sl_67 hx28 rfl fun q29 k30 => ?_
    refine QF.fa rfl k30 GPoint.f_Y fa_98_1 rfl fun q31 k32 => ?_
    refine QF.ldi ckP hs22.1 rfl k32 ty_3 rfl fun r33 => ?_
    refine QF.as_ rfl rfl ?_
    refine QF.as_ rfl rfl ?_
    refine QF.rpn (sb 5 rfl (sb 4 rfl sb0)) ?_
    refine WF.ret (fun aa ww hf hw => ?_)
    cases E
    exact rtg hf rfl hw (rvc (rvT hf (v := _) rfl) (rvc (rvT hf (v := _) rfl) rv0)) rfl (e5.trans (e11.trans e23)) ⟨rfl, r33, hs22⟩
  · skip
    have E := cdF c24 E
    refine WF.skip ?_
    refine WF.seq ?_
    refine WF.rl ?_
    refine LF.q 5 ?_
    have k34 := k13.mono e23
    refine QF.ldl ckP hs22.1 rfl k34 ty_67 rfl fun v35 k36 => ?_
    refine QF.mv rfl rfl ?_
    refine QF.subw rfl rfl rfl ?_
    obtain ⟨x37, hx37, E⟩ := bd E
    refine QF.ixe rfl rfl k36 sl_67 hx37 rfl fun q38 k39 => ?_
    refine QF.ld ckP hs22.1 rfl k39 ty_98 (fun e => by cases e) rfl fun v40 k41 => ?_
    refine QF.ln ?_
    refine LF.al zc_98 rfl hs22 fun b42 h43 hs44 e45 => ?_
    have k46 := k41.mono e45
    obtain ⟨rfl, ⟨r48, r49⟩⟩ := RGPoint.ex k46
    refine LF.st (vs := [.int .i64 x37.X, .int .i64 x37.Y]) (cs' := [.int .i64 x37.X, .int .i64 x37.Y]) rfl rfl rfl (one_cons rfl (one_cons rfl one_nil)) ty_98 rfl hs44 .head rfl rfl fun h50 hs51 e52 => ?_
    refine LF.nil (sb 7 rfl (sb 6 rfl (sb 3 rfl (sb 2 rfl sb0)))) ?_
    refine WF.seq ?_
    refine WF.seq ?_
    refine WF.rp (.inl rfl) ?_
    refine QF.mv rfl rfl ?_
    have k53 := k34.mono (e45.trans e52)
    refine QF.ldl ckP hs51.1 rfl k53 ty_67 rfl fun v54 k55 => ?_
    refine QF.len rfl k55 sl_67 rfl fun b56 => ?_
    unfold maxLen at b56
    refine QF.eql rfl rfl rfl ?_
    refine QF.rpn (sb 29 rfl (sb 7 rfl (sb 6 rfl (sb 3 rfl (sb 2 rfl sb0))))) ?_
    refine WF.if_ rfl (fun c57 => ?_) (fun c57 => ?_)
    · skip
      have E := cdT c57 E
      refine WF.seq ?_
      refine WF.rp (.inl rfl) ?_
      refine QF.fao rfl fa_98_1 rfl ?_
      refine QF.ldo (vs := [.int .i64 x37.Y]) ckP hs51 rfl mh rfl rfl ty_3 rfl rfl ?_
      refine QF.as_ rfl rfl ?_
      refine QF.as_ rfl rfl ?_
      refine QF.rpn (sb 5 rfl (sb 4 rfl sb0)) ?_
      refine WF.ret (fun aa ww hf hw => ?_)
      have hs58 := hs51.drop .head
      cases E
      exact rtg hf rfl hw (rvc (rvT hf (v := _) rfl) (rvc (rvT hf (v := _) rfl) rv0)) rfl (e5.trans (e11.trans (e23.trans (e45.trans e52)))) ⟨rfl, r49, hs58⟩
    · skip
      have E := cdF c57 E
      refine WF.skip ?_
      refine WF.seq ?_
      refine WF.rc (.inr ⟨mo, by kernel_rfl⟩) hs51 ?_
      have k59 := k12.mono (e23.trans (e45.trans e52))
      refine QF.ldi ckC hs51.1 rfl k59 ty_3 rfl fun r60 => ?_
      refine QF.fao rfl fa_98_0 rfl ?_
      refine QF.ldo (vs := [.int .i64 x37.X]) ckC hs51 rfl mh rfl rfl ty_3 rfl rfl ?_
      refine QF.subw rfl rfl rfl ?_
      refine QF.ldl ckC hs51.1 rfl k53 ty_67 rfl fun v61 k62 => ?_
      refine QF.mv rfl rfl ?_
      obtain ⟨x63, hx63, E⟩ := bd E
      refine QF.ixe rfl rfl k62 sl_67 hx63 rfl fun q64 k65 => ?_
      refine QF.fa rfl k65 GPoint.f_Y fa_98_1 rfl fun q66 k67 => ?_
      refine QF.ldi ckC hs51.1 rfl k67 ty_3 rfl fun r68 => ?_
      refine QF.fao rfl fa_98_1 rfl ?_
      refine QF.ldo (vs := [.int .i64 x37.Y]) ckC hs51 rfl mh rfl rfl ty_3 rfl rfl ?_
      refine QF.subw rfl rfl rfl ?_
      refine QF.ldl ckC hs51.1 rfl k53 ty_67 rfl fun v69 k70 => ?_
      refine QF.mv rfl rfl ?_
      obtain ⟨x71, hx71, E⟩ := bd E
      refine QF.ixe rfl rfl k70 sl_67 hx71 rfl fun q72 k73 => ?_
      refine QF.fa rfl k73 GPoint.f_X fa_98_0 rfl fun q74 k75 => ?_
      refine QF.ldi ckC hs51.1 rfl k75 ty_3 rfl fun r76 => ?_
      refine QF.fao rfl fa_98_0 rfl ?_
      refine QF.ldo (vs := [.int .i64 x37.X]) ckC hs51 rfl mh rfl rfl ty_3 rfl rfl ?_
      refine QF.subw rfl rfl rfl ?_
      obtain ⟨y77, hy77, E⟩ := bd E
      refine QF.callp (v := .tuple #[.int .i64 y77.1, .int .i64 y77.2.1, .bool y77.2.2]) (Ψ := inI64 y77.1 ∧ inI64 y77.2.1) rfl rfl rfl ca_40 rfl (fun h' o => (exact_Scale_ret (St.all h') (w64_i _) (w64_i _) (w64_i _) hy77).mono fun _ _ _ _ p => ⟨p.1, ⟨p.2.1, p.2.2.1⟩⟩) fun r78 => ?_
      obtain ⟨r79, r80⟩ := r78
      refine QF.mv rfl rfl ?_
      refine QF.ext rfl rfl rfl ?_
      refine QF.ext rfl rfl rfl ?_
      refine QF.ext rfl rfl rfl ?_
      refine QF.as_ rfl rfl ?_
      refine QF.as_ rfl rfl ?_
      refine QF.as_ rfl rfl ?_
      refine QF.rcn (sb 9 rfl (sb 8 rfl (sb 7 rfl sb0))) fun h81 hs82 e83 => ?_
      refine WF.seq ?_
      refine WF.rp (.inl rfl) ?_
      refine QF.fao rfl fa_98_1 rfl ?_
      refine QF.ldo (vs := [.int .i64 x37.Y]) ckP hs82 rfl mh rfl rfl ty_3 rfl rfl ?_
      refine QF.mv rfl rfl ?_
      refine QF.addw rfl rfl rfl ?_
      refine QF.mv rfl rfl ?_
      refine QF.gtr rfl rfl rfl ?_
      refine QF.as_ rfl rfl ?_
      refine QF.as_ rfl rfl ?_
      refine QF.rpn (sb 5 rfl (sb 4 rfl sb0)) ?_
      refine WF.ret (fun aa ww hf hw => ?_)
      have hs84 := hs82.drop .head
      cases E
      exact rtg hf rfl hw (rvc (rvT hf (v := _) rfl) (rvc (rvT hf (v := _) rfl) rv0)) rfl (e5.trans (e11.trans (e23.trans (e45.trans (e52.trans e83))))) ⟨rfl, (w64_i _), hs84⟩

set_option maxRecDepth 10000 in
set_option maxHeartbeats 2000000 in
theorem curve_Under_ret {N : Nat} {S : Nat → Prop} {L : List HP} {h : Heap} (hs : St S L h) {v_p0_a : Value} {p0_a : (List GPoint)} (h_p0_a : Sl S h RGPoint v_p0_a p0_a) {v_p1_b : Value} {p1_b : (List GPoint)} (h_p1_b : Sl S h RGPoint v_p1_b p1_b) {r : Bool} (E : f_curve_Under N p0_a p1_b = some r) :
    Ret Try.prog 43 #[v_p0_a, v_p1_b] S h (fun v S' h' => v = .bool r ∧ St S' (L) h') := by
  refine Ret.go (l := [v_p0_a, v_p1_b]) 66 Try.func43 rfl Try.ntmps43 rfl fun B => ?_
  rw [f_curve_Under] at E
  refine WF.seq ?_
  refine WF.rp (.inl rfl) ?_
  refine QF.as_ rfl rfl ?_
  refine QF.rpn (sb 0 rfl (sb 1 rfl sb0)) ?_
  refine WF.seq ?_
  refine WF.seq ?_
  refine WF.rc (.inl rfl) hs ?_
  refine QF.mv rfl rfl ?_
  obtain ⟨y1, hy1, E⟩ := bd E
  refine QF.callp (v := .bool y1) (Ψ := True) rfl rfl rfl ca_21 rfl (fun h' o => (curve_Right_ret (St.all h') (h_p0_a.mono' (o.all hs.1)) hy1).mono fun _ _ _ _ p => ⟨p.1, trivial⟩) fun r2 => ?_
  refine QF.not rfl rfl ?_
  refine QF.mv rfl rfl ?_
  obtain ⟨b4, hb4, E⟩ := bd E
  refine QF.cutv 4 20 (.bool b4) ?_ ?_
  · cases c3 : (!y1)
    · skip
      have hb4 := cdF c3 hb4
      refine QF.gy rfl rfl rfl ?_
      refine QF.mv rfl rfl ?_
      refine QF.gy rfl rfl rfl ?_
      obtain ⟨y5, hy5, hb4⟩ := bd hb4
      refine QF.callp (v := .bool y5) (Ψ := True) rfl rfl rfl ca_21 rfl (fun h' o => (curve_Right_ret (St.all h') (h_p1_b.mono' (o.all hs.1)) hy5).mono fun _ _ _ _ p => ⟨p.1, trivial⟩) fun r6 => ?_
      refine QF.gy rfl rfl rfl ?_
      refine QF.not rfl rfl ?_
      refine QF.pick rfl rfl rfl ?_
      cases hb4
      exact QF.cutn (sb 20 rfl (sb 16 rfl (sb 15 rfl (sb 14 rfl (sb 13 rfl (sb 0 rfl (sb 1 rfl sb0)))))))
    · skip
      have hb4 := cdT c3 hb4
      cases hb4
      refine QF.gnT rfl rfl rfl rfl rfl ?_
      refine QF.gnT rfl rfl rfl rfl rfl ?_
      refine QF.gnT rfl rfl rfl rfl rfl ?_
      refine QF.pick rfl rfl rfl ?_
      exact QF.cutn (sb 20 rfl (sb 16 rfl (sb 15 rfl (sb 14 rfl (sb 13 rfl (sb 0 rfl (sb 1 rfl sb0)))))))
  refine QF.rcn (sb 20 rfl (sb 0 rfl (sb 1 rfl sb0))) fun h7 hs8 e9 => ?_
  refine WF.if_ rfl (fun c10 => ?_) (fun c10 => ?_)
  · skip
    have E := cdT c10 E
    refine WF.seq ?_
    refine WF.rp (.inl rfl) ?_
    refine QF.as_ rfl rfl ?_
    refine QF.rpn (sb 4 rfl sb0) ?_
    refine WF.ret (fun aa ww hf hw => ?_)
    cases E
    exact rtg hf rfl hw (rvc (rvT hf (v := _) rfl) rv0) rfl e9 ⟨rfl, hs8⟩
  · skip
    have E := cdF c10 E
    refine WF.skip ?_
    refine WF.seq ?_
    refine WF.seq ?_
    refine WF.rp (.inl rfl) ?_
    refine QF.mv rfl rfl ?_
    have k11 := h_p0_a.mono' e9
    refine QF.len rfl k11 sl_67 rfl fun b12 => ?_
    unfold maxLen at b12
    refine QF.mv rfl rfl ?_
    refine QF.rpn (sb 23 rfl (sb 22 rfl (sb 21 rfl (sb 0 rfl (sb 1 rfl sb0))))) ?_
    refine WF.blockJ (fun a w => ∃ (S' : Nat → Prop) (h' : Heap), Fr 66 a [(0, v_p0_a), (1, v_p1_b)] ∧ Wd B h' w ∧ St S' (L) h' ∧ Ext S h7 S' h' ∧ f_curve_Under_j0 N p0_a p1_b = some r) ?_ ?_
    · skip
      refine WF.loopF (fun n1 => fun a w => ∃ (i15 : Int) (S' : Nat → Prop) (h' : Heap), Fr 66 a [(22, .int .i64 (↑p0_a.length : Int)), (21, v_p0_a), (0, v_p0_a), (1, v_p1_b), (23, .int .i64 i15)] ∧ Wd B h' w ∧ St S' (L) h' ∧ Ext S h7 S' h' ∧ inI64 i15 ∧ f_curve_Under_l1 N p0_a p1_b (f_curve_Under_j0 N p0_a p1_b) n1 i15 = some r) N ?_ ?_ ?_
      · intro aa ww hf hw
        exact ⟨0, _, _, hf.sub (sb 22 rfl (sb 21 rfl (sb 0 rfl (sb 1 rfl (sb 23 rfl sb0))))), hw, hs8, (Ext.refl S h7), (show inI64 0 by unfold inI64; omega), E⟩
      · rintro aa ww ⟨_, _, _, _, _, _, _, _, E⟩
        rw [f_curve_Under_l1] at E; cases E
      · skip
        rintro n1 aa ww ⟨i15, S17, h18, hf, hw, hs19, e20, r16, E⟩
        refine WF.run ?_ hf hw
        clear hf hw ww aa
        rw [f_curve_Under_l1] at E
        refine WF.seq ?_
        refine WF.rp (.inl rfl) ?_
        refine QF.lss rfl rfl rfl ?_
        refine QF.rpn (sb 24 rfl (sb 22 rfl (sb 21 rfl (sb 0 rfl (sb 1 rfl (sb 23 rfl sb0)))))) ?_
        refine WF.seq ?_
        refine WF.if_ rfl (fun c21 => ?_) (fun c21 => ?_)
        · skip
          have E := cdT c21 E
          refine WF.skip ?_
          refine WF.seq ?_
          refine WF.block ?_
          refine WF.seq ?_
          refine WF.rl ?_
          refine LF.q 2 ?_
          have k22 := k11.mono' e20
          obtain ⟨x23, hx23, E⟩ := bd E
          refine QF.ixe rfl rfl k22 sl_67 hx23 rfl fun q24 k25 => ?_
          refine QF.ld ckP hs19.1 rfl k25 ty_98 (fun e => by cases e) rfl fun v26 k27 => ?_
          refine QF.ln ?_
          refine LF.al zc_98 rfl hs19 fun b28 h29 hs30 e31 => ?_
          have k32 := k27.mono e31
          obtain ⟨rfl, ⟨r34, r35⟩⟩ := RGPoint.ex k32
          refine LF.st (vs := [.int .i64 x23.X, .int .i64 x23.Y]) (cs' := [.int .i64 x23.X, .int .i64 x23.Y]) rfl rfl rfl (one_cons rfl (one_cons rfl one_nil)) ty_98 rfl hs30 .head rfl rfl fun h36 hs37 e38 => ?_
          refine LF.nil (sb 6 rfl (sb 22 rfl (sb 21 rfl (sb 0 rfl (sb 1 rfl (sb 23 rfl sb0)))))) ?_
          refine WF.seq ?_
          refine WF.rc (.inl rfl) hs37 ?_
          refine QF.mv rfl rfl ?_
          refine QF.fao rfl fa_98_0 rfl ?_
          refine QF.ldo (vs := [.int .i64 x23.X]) ckC hs37 rfl mh rfl rfl ty_3 rfl rfl ?_
          have k39 := h_p1_b.mono' (e9.trans (e20.trans (e31.trans e38)))
          obtain ⟨y40, hy40, E⟩ := bd E
          refine QF.callp (v := .tuple #[.int .i64 y40.1, .bool y40.2]) (Ψ := inI64 y40.1) rfl rfl rfl ca_46 rfl (fun h' o => (curve_value_ret (St.all h') (k39.mono' (o.all hs37.1)) r34 hy40).mono fun _ _ _ _ p => ⟨p.1, p.2.1⟩) fun r41 => ?_
          have r42 := r41
          refine QF.mv rfl rfl ?_
          refine QF.ext rfl rfl rfl ?_
          refine QF.ext rfl rfl rfl ?_
          refine QF.as_ rfl rfl ?_
          refine QF.as_ rfl rfl ?_
          refine QF.rcn (sb 7 rfl (sb 6 rfl (sb 22 rfl (sb 21 rfl (sb 0 rfl (sb 1 rfl (sb 23 rfl sb0))))))) fun h43 hs44 e45 => ?_
          refine WF.seq ?_
          refine WF.rp (.inl rfl) ?_
          refine QF.fao rfl fa_98_1 rfl ?_
          refine QF.ldo (vs := [.int .i64 x23.Y]) ckP hs44 rfl mh rfl rfl ty_3 rfl rfl ?_
          refine QF.mv rfl rfl ?_
          refine QF.gtr rfl rfl rfl ?_
          refine QF.rpn (sb 37 rfl (sb 22 rfl (sb 21 rfl (sb 0 rfl (sb 1 rfl (sb 23 rfl sb0)))))) ?_
          refine WF.if_ rfl (fun c46 => ?_) (fun c46 => ?_)
          · skip
            have E := cdT c46 E
            refine WF.seq ?_
            refine WF.rp (.inl rfl) ?_
            refine QF.as_ rfl rfl ?_
            refine QF.rpn (sb 4 rfl sb0) ?_
            refine WF.ret (fun aa ww hf hw => ?_)
            have hs47 := hs44.drop .head
            cases E
            exact rtg hf rfl hw (rvc (rvT hf (v := _) rfl) rv0) rfl (e9.trans (e20.trans (e31.trans (e38.trans e45)))) ⟨rfl, hs47⟩
          · skip
            have E := cdF c46 E
            refine WF.skip ?_
            refine WF.nilW ?_
            refine WF.rp (.inl rfl) ?_
            refine QF.addw rfl rfl rfl ?_
            refine QF.mv rfl rfl ?_
            refine QF.rpn (sb 23 rfl (sb 22 rfl (sb 21 rfl (sb 0 rfl (sb 1 rfl sb0))))) ?_
            refine WF.nil (fun aa ww hf hw => ?_)
            have hs48 := hs44.drop .head
            exact ⟨(w64 (i15 + 1)), _, _, hf.sub (sb 22 rfl (sb 21 rfl (sb 0 rfl (sb 1 rfl (sb 23 rfl sb0))))), hw, hs48, (e20.trans (e31.trans (e38.trans e45))), (w64_i _), E⟩
        · skip
          have E := cdF c21 E
          refine WF.exit rfl (fun aa ww hf hw => ?_)
          exact ⟨_, _, hf.sub (sb 0 rfl (sb 1 rfl sb0)), hw, hs19, e20, E⟩
    · skip
      rintro aa ww ⟨S49, h50, hf, hw, hs51, e52, E⟩
      refine WF.run ?_ hf hw
      clear hf hw ww aa
      rw [f_curve_Under_j0] at E
      refine WF.seq ?_
      refine WF.seq ?_
      refine WF.rp (.inl rfl) ?_
      refine QF.mv rfl rfl ?_
      have k53 := h_p1_b.mono' (e9.trans e52)
      refine QF.len rfl k53 sl_67 rfl fun b54 => ?_
      unfold maxLen at b54
      refine QF.mv rfl rfl ?_
      refine QF.rpn (sb 41 rfl (sb 40 rfl (sb 39 rfl (sb 0 rfl sb0)))) ?_
      refine WF.blockJ (fun a w => ∃ (S' : Nat → Prop) (h' : Heap), Fr 66 a [] ∧ Wd B h' w ∧ St S' (L) h' ∧ Ext S49 h50 S' h' ∧ f_curve_Under_j2 N = some r) ?_ ?_
      · skip
        refine WF.loopF (fun n3 => fun a w => ∃ (i57 : Int) (S' : Nat → Prop) (h' : Heap), Fr 66 a [(40, .int .i64 (↑p1_b.length : Int)), (39, v_p1_b), (0, v_p0_a), (41, .int .i64 i57)] ∧ Wd B h' w ∧ St S' (L) h' ∧ Ext S49 h50 S' h' ∧ inI64 i57 ∧ f_curve_Under_l3 N p0_a p1_b (f_curve_Under_j2 N) n3 i57 = some r) N ?_ ?_ ?_
        · intro aa ww hf hw
          exact ⟨0, _, _, hf.sub (sb 40 rfl (sb 39 rfl (sb 0 rfl (sb 41 rfl sb0)))), hw, hs51, (Ext.refl S49 h50), (show inI64 0 by unfold inI64; omega), E⟩
        · rintro aa ww ⟨_, _, _, _, _, _, _, _, E⟩
          rw [f_curve_Under_l3] at E; cases E
        · skip
          rintro n3 aa ww ⟨i57, S59, h60, hf, hw, hs61, e62, r58, E⟩
          refine WF.run ?_ hf hw
          clear hf hw ww aa
          rw [f_curve_Under_l3] at E
          refine WF.seq ?_
          refine WF.rp (.inl rfl) ?_
          refine QF.lss rfl rfl rfl ?_
          refine QF.rpn (sb 42 rfl (sb 40 rfl (sb 39 rfl (sb 0 rfl (sb 41 rfl sb0))))) ?_
          refine WF.seq ?_
          refine WF.if_ rfl (fun c63 => ?_) (fun c63 => ?_)
          · skip
            have E := cdT c63 E
            refine WF.skip ?_
            refine WF.seq ?_
            refine WF.block ?_
            refine WF.seq ?_
            refine WF.rl ?_
            refine LF.q 2 ?_
            have k64 := k53.mono' e62
            obtain ⟨x65, hx65, E⟩ := bd E
            refine QF.ixe rfl rfl k64 sl_67 hx65 rfl fun q66 k67 => ?_
            refine QF.ld ckP hs61.1 rfl k67 ty_98 (fun e => by cases e) rfl fun v68 k69 => ?_
            refine QF.ln ?_
            refine LF.al zc_98 rfl hs61 fun b70 h71 hs72 e73 => ?_
            have k74 := k69.mono e73
            obtain ⟨rfl, ⟨r76, r77⟩⟩ := RGPoint.ex k74
            refine LF.st (vs := [.int .i64 x65.X, .int .i64 x65.Y]) (cs' := [.int .i64 x65.X, .int .i64 x65.Y]) rfl rfl rfl (one_cons rfl (one_cons rfl one_nil)) ty_98 rfl hs72 .head rfl rfl fun h78 hs79 e80 => ?_
            refine LF.nil (sb 10 rfl (sb 40 rfl (sb 39 rfl (sb 0 rfl (sb 41 rfl sb0))))) ?_
            refine WF.seq ?_
            refine WF.rc (.inl rfl) hs79 ?_
            refine QF.mv rfl rfl ?_
            refine QF.fao rfl fa_98_0 rfl ?_
            refine QF.ldo (vs := [.int .i64 x65.X]) ckC hs79 rfl mh rfl rfl ty_3 rfl rfl ?_
            have k81 := h_p0_a.mono' (e9.trans (e52.trans (e62.trans (e73.trans e80))))
            obtain ⟨y82, hy82, E⟩ := bd E
            refine QF.callp (v := .tuple #[.int .i64 y82.1, .bool y82.2]) (Ψ := inI64 y82.1) rfl rfl rfl ca_46 rfl (fun h' o => (curve_value_ret (St.all h') (k81.mono' (o.all hs79.1)) r76 hy82).mono fun _ _ _ _ p => ⟨p.1, p.2.1⟩) fun r83 => ?_
            have r84 := r83
            refine QF.mv rfl rfl ?_
            refine QF.ext rfl rfl rfl ?_
            refine QF.ext rfl rfl rfl ?_
            refine QF.as_ rfl rfl ?_
            refine QF.as_ rfl rfl ?_
            refine QF.rcn (sb 12 rfl (sb 11 rfl (sb 10 rfl (sb 40 rfl (sb 39 rfl (sb 0 rfl (sb 41 rfl sb0))))))) fun h85 hs86 e87 => ?_
            refine WF.seq ?_
            refine WF.rp (.inl rfl) ?_
            refine QF.mv rfl rfl ?_
            refine QF.fao rfl fa_98_1 rfl ?_
            refine QF.ldo (vs := [.int .i64 x65.Y]) ckP hs86 rfl mh rfl rfl ty_3 rfl rfl ?_
            refine QF.gtr rfl rfl rfl ?_
            refine QF.mv rfl rfl ?_
            refine QF.cutv 8 64 (.bool ((decide (x65.Y < y82.1)) || ((decide (y82.1 = x65.Y)) && y82.2))) ?_ ?_
            · cases c88 : (decide (x65.Y < y82.1))
              · skip
                refine QF.gy rfl rfl rfl ?_
                refine QF.mv rfl rfl ?_
                refine QF.gy rfl rfl rfl ?_
                refine QF.fao rfl fa_98_1 rfl ?_
                refine QF.gy rfl rfl rfl ?_
                refine QF.ldo (vs := [.int .i64 x65.Y]) ckP hs86 rfl mh rfl rfl ty_3 rfl rfl ?_
                refine QF.gy rfl rfl rfl ?_
                refine QF.eql rfl rfl rfl ?_
                refine QF.gy rfl rfl rfl ?_
                refine QF.mv rfl rfl ?_
                refine QF.cutv 2 63 (.bool ((decide (y82.1 = x65.Y)) && y82.2)) ?_ ?_
                · cases c89 : (decide (y82.1 = x65.Y))
                  · skip
                    refine QF.gnF rfl rfl rfl rfl rfl ?_
                    refine QF.gy rfl rfl rfl ?_
                    refine QF.pick rfl rfl rfl ?_
                    exact QF.cutn (sb 63 rfl (sb 61 rfl (sb 60 rfl (sb 59 rfl (sb 58 rfl (sb 57 rfl (sb 56 rfl (sb 55 rfl (sb 54 rfl (sb 53 rfl (sb 52 rfl (sb 12 rfl (sb 11 rfl (sb 10 rfl (sb 40 rfl (sb 39 rfl (sb 0 rfl (sb 41 rfl sb0))))))))))))))))))
                  · skip
                    refine QF.gy rfl rfl rfl ?_
                    refine QF.mv rfl rfl ?_
                    refine QF.gy rfl rfl rfl ?_
                    refine QF.pick rfl rfl rfl ?_
                    exact QF.cutn (sb 63 rfl (sb 61 rfl (sb 60 rfl (sb 59 rfl (sb 58 rfl (sb 57 rfl (sb 56 rfl (sb 55 rfl (sb 54 rfl (sb 53 rfl (sb 52 rfl (sb 12 rfl (sb 11 rfl (sb 10 rfl (sb 40 rfl (sb 39 rfl (sb 0 rfl (sb 41 rfl sb0))))))))))))))))))
                refine QF.pick rfl rfl rfl ?_
                exact QF.cutn (sb 64 rfl (sb 56 rfl (sb 55 rfl (sb 54 rfl (sb 53 rfl (sb 52 rfl (sb 12 rfl (sb 11 rfl (sb 10 rfl (sb 40 rfl (sb 39 rfl (sb 0 rfl (sb 41 rfl sb0)))))))))))))
              · skip
                refine QF.gnT rfl rfl rfl rfl rfl ?_
                refine QF.gnT rfl rfl rfl rfl rfl ?_
                refine QF.gnT rfl rfl rfl rfl rfl ?_
                refine QF.gnT rfl rfl rfl rfl rfl ?_
                refine QF.gnT rfl rfl rfl rfl rfl ?_
                refine QF.gnu rfl rfl rfl rfl rfl ?_
                refine QF.gnT rfl rfl rfl rfl rfl ?_
                refine QF.pick rfl rfl rfl ?_
                exact QF.cutn (sb 64 rfl (sb 56 rfl (sb 55 rfl (sb 54 rfl (sb 53 rfl (sb 52 rfl (sb 12 rfl (sb 11 rfl (sb 10 rfl (sb 40 rfl (sb 39 rfl (sb 0 rfl (sb 41 rfl sb0)))))))))))))
            refine QF.rpn (sb 64 rfl (sb 40 rfl (sb 39 rfl (sb 0 rfl (sb 41 rfl sb0))))) ?_
            refine WF.if_ rfl (fun c90 => ?_) (fun c90 => ?_)
            · skip
              have E := cdT c90 E
              refine WF.seq ?_
              refine WF.rp (.inl rfl) ?_
              refine QF.as_ rfl rfl ?_
              refine QF.rpn (sb 4 rfl sb0) ?_
              refine WF.ret (fun aa ww hf hw => ?_)
              have hs91 := hs86.drop .head
              cases E
              exact rtg hf rfl hw (rvc (rvT hf (v := _) rfl) rv0) rfl (e9.trans (e52.trans (e62.trans (e73.trans (e80.trans e87))))) ⟨rfl, hs91⟩
            · skip
              have E := cdF c90 E
              refine WF.skip ?_
              refine WF.nilW ?_
              refine WF.rp (.inl rfl) ?_
              refine QF.addw rfl rfl rfl ?_
              refine QF.mv rfl rfl ?_
              refine QF.rpn (sb 41 rfl (sb 40 rfl (sb 39 rfl (sb 0 rfl sb0)))) ?_
              refine WF.nil (fun aa ww hf hw => ?_)
              have hs92 := hs86.drop .head
              exact ⟨(w64 (i57 + 1)), _, _, hf.sub (sb 40 rfl (sb 39 rfl (sb 0 rfl (sb 41 rfl sb0)))), hw, hs92, (e62.trans (e73.trans (e80.trans e87))), (w64_i _), E⟩
          · skip
            have E := cdF c63 E
            refine WF.exit rfl (fun aa ww hf hw => ?_)
            exact ⟨_, _, hf.sub sb0, hw, hs61, e62, E⟩
      · skip
        rintro aa ww ⟨S93, h94, hf, hw, hs95, e96, E⟩
        refine WF.run ?_ hf hw
        clear hf hw ww aa
        rw [f_curve_Under_j2] at E
        refine WF.seq ?_
        refine WF.rp (.inl rfl) ?_
        refine QF.as_ rfl rfl ?_
        refine QF.rpn (sb 4 rfl sb0) ?_
        refine WF.ret (fun aa ww hf hw => ?_)
        cases E
        exact rtg hf rfl hw (rvc (rvT hf (v := _) rfl) rv0) rfl (e9.trans (e52.trans e96)) ⟨rfl, hs95⟩

end Go.Proofs.Ytibidnaedddfdaa
