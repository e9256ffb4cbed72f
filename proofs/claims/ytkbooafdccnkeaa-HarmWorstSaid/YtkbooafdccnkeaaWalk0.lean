/- Walks, part 0. By program. -/
import Derived.Test.YtkbooafdccnkeaaFacts
import Derived.Test.YtkbooafdccnkeaaForms
namespace Go.Proofs.Ytkbooafdccnkeaa
open Go.RowKit
set_option linter.unusedVariables false
set_option linter.unusedSimpArgs false

set_option maxRecDepth 10000 in
set_option maxHeartbeats 2000000 in
theorem exact_Sub_ret {N : Nat} {S : Nat → Prop} {L : List HP} {h : Heap} (hs : St S L h) {p0_a : Int} (h_p0_a : inI64 p0_a) {p1_b : Int} (h_p1_b : inI64 p1_b) {r : Int} (E : f_exact_Sub N p0_a p1_b = some r) :
    Ret Try.prog 22 #[.int .i64 p0_a, .int .i64 p1_b] S h (fun v S' h' => v = .int .i64 r ∧ inI64 r ∧ St S' (L) h') := by
  refine Ret.go (l := [.int .i64 p0_a, .int .i64 p1_b]) 24 Try.func22 rfl Try.ntmps22 rfl fun B => ?_
  rw [f_exact_Sub] at E
  refine WF.seq ?_
  refine WF.rp (.inl rfl) ?_
  refine QF.as_ rfl rfl ?_
  refine QF.rpn (sb 4 rfl (sb 0 rfl (sb 1 rfl sb0))) ?_
  refine WF.seq ?_
  refine WF.seq ?_
  refine WF.rp (.inl rfl) ?_
  refine QF.mv rfl rfl ?_
  refine QF.lss rfl rfl rfl ?_
  refine QF.mv rfl rfl ?_
  refine QF.cutv 5 12 (.bool ((decide (p1_b < 0)) && (decide ((w64 (9223372036854775807 + p1_b)) < p0_a)))) ?_ ?_
  · cases c1 : (decide (p1_b < 0))
    · skip
      refine QF.gnF rfl rfl rfl rfl rfl ?_
      refine QF.gnF rfl rfl rfl rfl rfl ?_
      refine QF.gnF rfl rfl rfl rfl rfl ?_
      refine QF.gnF rfl rfl rfl rfl rfl ?_
      refine QF.pick rfl rfl rfl ?_
      exact QF.cutn (sb 12 rfl (sb 7 rfl (sb 6 rfl (sb 5 rfl (sb 4 rfl (sb 0 rfl (sb 1 rfl sb0)))))))
    · skip
      refine QF.gy rfl rfl rfl ?_
      refine QF.mv rfl rfl ?_
      refine QF.gy rfl rfl rfl ?_
      refine QF.mv rfl rfl ?_
      refine QF.gy rfl rfl rfl ?_
      refine QF.addw rfl rfl rfl ?_
      refine QF.gy rfl rfl rfl ?_
      refine QF.gtr rfl rfl rfl ?_
      refine QF.pick rfl rfl rfl ?_
      exact QF.cutn (sb 12 rfl (sb 7 rfl (sb 6 rfl (sb 5 rfl (sb 4 rfl (sb 0 rfl (sb 1 rfl sb0)))))))
  refine QF.rpn (sb 12 rfl (sb 4 rfl (sb 0 rfl (sb 1 rfl sb0)))) ?_
  refine WF.if_ rfl (fun c2 => ?_) (fun c2 => ?_)
  · skip
    have E := cdT c2 E
    refine WF.seq ?_
    refine WF.rp (.inl rfl) ?_
    refine QF.as_ rfl rfl ?_
    refine QF.rpn (sb 4 rfl (sb 0 rfl (sb 1 rfl sb0))) ?_
    refine WF.ret (fun aa ww hf hw => ?_)
    cases E
    exact rtg hf rfl hw (rvc (rvT hf (v := _) rfl) rv0) rfl (Ext.refl S h) ⟨rfl, (show inI64 9223372036854775807 by unfold inI64; omega), hs⟩
  · skip
    have E := cdF c2 E
    refine WF.skip ?_
    refine WF.seq ?_
    refine WF.seq ?_
    refine WF.rp (.inl rfl) ?_
    refine QF.mv rfl rfl ?_
    refine QF.gtr rfl rfl rfl ?_
    refine QF.mv rfl rfl ?_
    refine QF.cutv 5 20 (.bool ((decide (0 < p1_b)) && (decide (p0_a < (w64 ((-9223372036854775808) + p1_b)))))) ?_ ?_
    · cases c3 : (decide (0 < p1_b))
      · skip
        refine QF.gnF rfl rfl rfl rfl rfl ?_
        refine QF.gnF rfl rfl rfl rfl rfl ?_
        refine QF.gnF rfl rfl rfl rfl rfl ?_
        refine QF.gnF rfl rfl rfl rfl rfl ?_
        refine QF.pick rfl rfl rfl ?_
        exact QF.cutn (sb 20 rfl (sb 15 rfl (sb 14 rfl (sb 13 rfl (sb 12 rfl (sb 4 rfl (sb 0 rfl (sb 1 rfl sb0))))))))
      · skip
        refine QF.gy rfl rfl rfl ?_
        refine QF.mv rfl rfl ?_
        refine QF.gy rfl rfl rfl ?_
        refine QF.mv rfl rfl ?_
        refine QF.gy rfl rfl rfl ?_
        refine QF.addw rfl rfl rfl ?_
        refine QF.gy rfl rfl rfl ?_
        refine QF.lss rfl rfl rfl ?_
        refine QF.pick rfl rfl rfl ?_
        exact QF.cutn (sb 20 rfl (sb 15 rfl (sb 14 rfl (sb 13 rfl (sb 12 rfl (sb 4 rfl (sb 0 rfl (sb 1 rfl sb0))))))))
    refine QF.rpn (sb 20 rfl (sb 4 rfl (sb 0 rfl (sb 1 rfl sb0)))) ?_
    refine WF.if_ rfl (fun c4 => ?_) (fun c4 => ?_)
    · skip
      have E := cdT c4 E
      refine WF.seq ?_
      refine WF.rp (.inl rfl) ?_
      refine QF.as_ rfl rfl ?_
      refine QF.rpn (sb 4 rfl (sb 0 rfl (sb 1 rfl sb0))) ?_
      refine WF.ret (fun aa ww hf hw => ?_)
      cases E
      exact rtg hf rfl hw (rvc (rvT hf (v := _) rfl) rv0) rfl (Ext.refl S h) ⟨rfl, (show inI64 (-9223372036854775808) by unfold inI64; omega), hs⟩
    · skip
      have E := cdF c4 E
      refine WF.skip ?_
      refine WF.seq ?_
      refine WF.rp (.inl rfl) ?_
      refine QF.mv rfl rfl ?_
      refine QF.mv rfl rfl ?_
      refine QF.subw rfl rfl rfl ?_
      refine QF.as_ rfl rfl ?_
      refine QF.rpn (sb 4 rfl sb0) ?_
      refine WF.ret (fun aa ww hf hw => ?_)
      cases E
      exact rtg hf rfl hw (rvc (rvT hf (v := _) rfl) rv0) rfl (Ext.refl S h) ⟨rfl, (w64_i _), hs⟩

set_option maxRecDepth 10000 in
set_option maxHeartbeats 2000000 in
theorem harm_distance_ret {N : Nat} {S : Nat → Prop} {L : List HP} {h : Heap} (hs : St S L h) {p0_x : Int} (h_p0_x : inI64 p0_x) {p1_y : Int} (h_p1_y : inI64 p1_y) {r : Int} (E : f_harm_distance N p0_x p1_y = some r) :
    Ret Try.prog 21 #[.int .i64 p0_x, .int .i64 p1_y] S h (fun v S' h' => v = .int .i64 r ∧ inI64 r ∧ St S' (L) h') := by
  refine Ret.go (l := [.int .i64 p0_x, .int .i64 p1_y]) 15 Try.func21 rfl Try.ntmps21 rfl fun B => ?_
  rw [f_harm_distance] at E
  refine WF.seq ?_
  refine WF.rp (.inl rfl) ?_
  refine QF.as_ rfl rfl ?_
  refine QF.rpn (sb 4 rfl (sb 0 rfl (sb 1 rfl sb0))) ?_
  refine WF.seq ?_
  refine WF.rc (.inl rfl) hs ?_
  refine QF.mv rfl rfl ?_
  refine QF.mv rfl rfl ?_
  obtain ⟨y1, hy1, E⟩ := bd E
  refine QF.callp (v := .int .i64 y1) (Ψ := inI64 y1) rfl rfl rfl ca_22 rfl (fun h' o => (exact_Sub_ret (St.all h') h_p0_x h_p1_y hy1).mono fun _ _ _ _ p => ⟨p.1, p.2.1⟩) fun r2 => ?_
  have r3 := r2
  refine QF.as_ rfl rfl ?_
  refine QF.rcn (sb 5 rfl (sb 4 rfl sb0)) fun h4 hs5 e6 => ?_
  refine WF.seq ?_
  refine WF.seq ?_
  refine WF.rp (.inl rfl) ?_
  refine QF.mv rfl rfl ?_
  refine QF.eql rfl rfl rfl ?_
  refine QF.rpn (sb 10 rfl (sb 5 rfl (sb 4 rfl sb0))) ?_
  refine WF.if_ rfl (fun c7 => ?_) (fun c7 => ?_)
  · skip
    have E := cdT c7 E
    refine WF.seq ?_
    refine WF.rp (.inl rfl) ?_
    refine QF.as_ rfl rfl ?_
    refine QF.rpn (sb 4 rfl (sb 5 rfl sb0)) ?_
    refine WF.ret (fun aa ww hf hw => ?_)
    cases E
    exact rtg hf rfl hw (rvc (rvT hf (v := _) rfl) rv0) rfl e6 ⟨rfl, (show inI64 9223372036854775807 by unfold inI64; omega), hs5⟩
  · skip
    have E := cdF c7 E
    refine WF.skip ?_
    refine WF.seq ?_
    refine WF.rp (.inl rfl) ?_
    refine QF.mv rfl rfl ?_
    refine QF.mv rfl rfl ?_
    refine QF.negw rfl rfl ?_
    refine QF.max rfl rfl rfl ?_
    refine QF.as_ rfl rfl ?_
    refine QF.rpn (sb 4 rfl sb0) ?_
    refine WF.ret (fun aa ww hf hw => ?_)
    cases E
    exact rtg hf rfl hw (rvc (rvT hf (v := _) rfl) rv0) rfl e6 ⟨rfl, (inI64_max r3 (w64_i _)), hs5⟩

set_option maxRecDepth 10000 in
set_option maxHeartbeats 2000000 in
theorem harm_moved_ret {N : Nat} {S : Nat → Prop} {L : List HP} {h : Heap} (hs : St S L h) {v_p0_p : Value} {p0_p : GSpan} (h_p0_p : Rd S h RGSpan v_p0_p p0_p) {v_p1_q : Value} {p1_q : GSpan} (h_p1_q : Rd S h RGSpan v_p1_q p1_q) {r : Int} (E : f_harm_moved N p0_p p1_q = some r) :
    Ret Try.prog 13 #[v_p0_p, v_p1_q] S h (fun v S' h' => v = .int .i64 r ∧ inI64 r ∧ St S' (L) h') := by
  refine Ret.go (l := [v_p0_p, v_p1_q]) 42 Try.func13 rfl Try.ntmps13 rfl fun B => ?_
  rw [f_harm_moved] at E
  refine WF.seq ?_
  refine WF.rl ?_
  refine LF.boxp rfl h_p0_p (fun e => by cases e) rfl hs fun q1 S2 h3 hs4 e5 k6 => ?_
  have k7 := h_p1_q.mono e5
  refine LF.boxp rfl k7 (fun e => by cases e) rfl hs4 fun q8 S9 h10 hs11 e12 k13 => ?_
  refine LF.q 1 ?_
  refine QF.as_ rfl rfl ?_
  refine QF.ln ?_
  refine LF.nil (sb 4 rfl (sb 3 rfl (sb 2 rfl sb0))) ?_
  refine WF.seq ?_
  refine WF.seq ?_
  refine WF.rp (.inl rfl) ?_
  refine QF.fa rfl k13 GSpan.f_Lo fa_56_0 rfl fun q14 k15 => ?_
  refine QF.ldi ckP hs11.1 rfl k15 ty_3 rfl fun r16 => ?_
  have k17 := k6.mono e12
  refine QF.fa rfl k17 GSpan.f_Lo fa_56_0 rfl fun q18 k19 => ?_
  refine QF.ldi ckP hs11.1 rfl k19 ty_3 rfl fun r20 => ?_
  refine QF.gtr rfl rfl rfl ?_
  refine QF.mv rfl rfl ?_
  refine QF.cutv 6 16 (.bool ((decide (p0_p.Lo < p1_q.Lo)) && (decide (p0_p.Hi < p1_q.Hi)))) ?_ ?_
  · cases c21 : (decide (p0_p.Lo < p1_q.Lo))
    · skip
      refine QF.gnF rfl rfl rfl rfl rfl ?_
      refine QF.gnF rfl rfl rfl rfl rfl ?_
      refine QF.gnF rfl rfl rfl rfl rfl ?_
      refine QF.gnF rfl rfl rfl rfl rfl ?_
      refine QF.gnF rfl rfl rfl rfl rfl ?_
      refine QF.pick rfl rfl rfl ?_
      exact QF.cutn (sb 16 rfl (sb 10 rfl (sb 9 rfl (sb 8 rfl (sb 7 rfl (sb 6 rfl (sb 5 rfl (sb 4 rfl (sb 3 rfl (sb 2 rfl sb0))))))))))
    · skip
      refine QF.gy rfl rfl rfl ?_
      refine QF.fa rfl k13 GSpan.f_Hi fa_56_1 rfl fun q22 k23 => ?_
      refine QF.gy rfl rfl rfl ?_
      refine QF.ldi ckP hs11.1 rfl k23 ty_3 rfl fun r24 => ?_
      refine QF.gy rfl rfl rfl ?_
      refine QF.fa rfl k17 GSpan.f_Hi fa_56_1 rfl fun q25 k26 => ?_
      refine QF.gy rfl rfl rfl ?_
      refine QF.ldi ckP hs11.1 rfl k26 ty_3 rfl fun r27 => ?_
      refine QF.gy rfl rfl rfl ?_
      refine QF.gtr rfl rfl rfl ?_
      refine QF.pick rfl rfl rfl ?_
      exact QF.cutn (sb 16 rfl (sb 10 rfl (sb 9 rfl (sb 8 rfl (sb 7 rfl (sb 6 rfl (sb 5 rfl (sb 4 rfl (sb 3 rfl (sb 2 rfl sb0))))))))))
  refine QF.mv rfl rfl ?_
  refine QF.cutv 13 30 (.bool (((decide (p0_p.Lo < p1_q.Lo)) && (decide (p0_p.Hi < p1_q.Hi))) || ((decide (p1_q.Lo < p0_p.Lo)) && (decide (p1_q.Hi < p0_p.Hi))))) ?_ ?_
  · cases c28 : ((decide (p0_p.Lo < p1_q.Lo)) && (decide (p0_p.Hi < p1_q.Hi)))
    · skip
      refine QF.gy rfl rfl rfl ?_
      refine QF.fa rfl k13 GSpan.f_Lo fa_56_0 rfl fun q29 k30 => ?_
      refine QF.gy rfl rfl rfl ?_
      refine QF.ldi ckP hs11.1 rfl k30 ty_3 rfl fun r31 => ?_
      refine QF.gy rfl rfl rfl ?_
      refine QF.fa rfl k17 GSpan.f_Lo fa_56_0 rfl fun q32 k33 => ?_
      refine QF.gy rfl rfl rfl ?_
      refine QF.ldi ckP hs11.1 rfl k33 ty_3 rfl fun r34 => ?_
      refine QF.gy rfl rfl rfl ?_
      refine QF.lss rfl rfl rfl ?_
      refine QF.gy rfl rfl rfl ?_
      refine QF.mv rfl rfl ?_
      refine QF.cutv 6 29 (.bool ((decide (p1_q.Lo < p0_p.Lo)) && (decide (p1_q.Hi < p0_p.Hi)))) ?_ ?_
      · cases c35 : (decide (p1_q.Lo < p0_p.Lo))
        · skip
          refine QF.gnF rfl rfl rfl rfl rfl ?_
          refine QF.gnF rfl rfl rfl rfl rfl ?_
          refine QF.gnF rfl rfl rfl rfl rfl ?_
          refine QF.gnF rfl rfl rfl rfl rfl ?_
          refine QF.gnF rfl rfl rfl rfl rfl ?_
          refine QF.gy rfl rfl rfl ?_
          refine QF.pick rfl rfl rfl ?_
          exact QF.cutn (sb 29 rfl (sb 23 rfl (sb 22 rfl (sb 21 rfl (sb 20 rfl (sb 19 rfl (sb 18 rfl (sb 17 rfl (sb 16 rfl (sb 10 rfl (sb 9 rfl (sb 8 rfl (sb 7 rfl (sb 6 rfl (sb 5 rfl (sb 4 rfl (sb 3 rfl (sb 2 rfl sb0))))))))))))))))))
        · skip
          refine QF.gy rfl rfl rfl ?_
          refine QF.fa rfl k13 GSpan.f_Hi fa_56_1 rfl fun q36 k37 => ?_
          refine QF.gy rfl rfl rfl ?_
          refine QF.ldi ckP hs11.1 rfl k37 ty_3 rfl fun r38 => ?_
          refine QF.gy rfl rfl rfl ?_
          refine QF.fa rfl k17 GSpan.f_Hi fa_56_1 rfl fun q39 k40 => ?_
          refine QF.gy rfl rfl rfl ?_
          refine QF.ldi ckP hs11.1 rfl k40 ty_3 rfl fun r41 => ?_
          refine QF.gy rfl rfl rfl ?_
          refine QF.lss rfl rfl rfl ?_
          refine QF.gy rfl rfl rfl ?_
          refine QF.pick rfl rfl rfl ?_
          exact QF.cutn (sb 29 rfl (sb 23 rfl (sb 22 rfl (sb 21 rfl (sb 20 rfl (sb 19 rfl (sb 18 rfl (sb 17 rfl (sb 16 rfl (sb 10 rfl (sb 9 rfl (sb 8 rfl (sb 7 rfl (sb 6 rfl (sb 5 rfl (sb 4 rfl (sb 3 rfl (sb 2 rfl sb0))))))))))))))))))
      refine QF.pick rfl rfl rfl ?_
      exact QF.cutn (sb 30 rfl (sb 17 rfl (sb 16 rfl (sb 10 rfl (sb 9 rfl (sb 8 rfl (sb 7 rfl (sb 6 rfl (sb 5 rfl (sb 4 rfl (sb 3 rfl (sb 2 rfl sb0))))))))))))
    · skip
      refine QF.gnT rfl rfl rfl rfl rfl ?_
      refine QF.gnT rfl rfl rfl rfl rfl ?_
      refine QF.gnT rfl rfl rfl rfl rfl ?_
      refine QF.gnT rfl rfl rfl rfl rfl ?_
      refine QF.gnT rfl rfl rfl rfl rfl ?_
      refine QF.gnT rfl rfl rfl rfl rfl ?_
      refine QF.gnu rfl rfl rfl rfl rfl ?_
      refine QF.gnu rfl rfl rfl rfl rfl ?_
      refine QF.gnu rfl rfl rfl rfl rfl ?_
      refine QF.gnu rfl rfl rfl rfl rfl ?_
      refine QF.gnu rfl rfl rfl rfl rfl ?_
      refine QF.gnT rfl rfl rfl rfl rfl ?_
      refine QF.pick rfl rfl rfl ?_
      exact QF.cutn (sb 30 rfl (sb 17 rfl (sb 16 rfl (sb 10 rfl (sb 9 rfl (sb 8 rfl (sb 7 rfl (sb 6 rfl (sb 5 rfl (sb 4 rfl (sb 3 rfl (sb 2 rfl sb0))))))))))))
  refine QF.rpn (sb 30 rfl (sb 4 rfl (sb 3 rfl (sb 2 rfl sb0)))) ?_
  refine WF.if_ rfl (fun c42 => ?_) (fun c42 => ?_)
  · skip
    have E := cdT c42 E
    refine WF.seq ?_
    refine WF.rc (.inr ⟨mo, by kernel_rfl⟩) hs11 ?_
    refine QF.fa rfl k17 GSpan.f_Lo fa_56_0 rfl fun q43 k44 => ?_
    refine QF.ldi ckC hs11.1 rfl k44 ty_3 rfl fun r45 => ?_
    refine QF.fa rfl k13 GSpan.f_Lo fa_56_0 rfl fun q46 k47 => ?_
    refine QF.ldi ckC hs11.1 rfl k47 ty_3 rfl fun r48 => ?_
    obtain ⟨y49, hy49, E⟩ := bd E
    refine QF.callp (v := .int .i64 y49) (Ψ := inI64 y49) rfl rfl rfl ca_21 rfl (fun h' o => (harm_distance_ret (St.all h') r45 r48 hy49).mono fun _ _ _ _ p => ⟨p.1, p.2.1⟩) fun r50 => ?_
    have r51 := r50
    refine QF.fa rfl k17 GSpan.f_Hi fa_56_1 rfl fun q52 k53 => ?_
    refine QF.ldi ckC hs11.1 rfl k53 ty_3 rfl fun r54 => ?_
    refine QF.fa rfl k13 GSpan.f_Hi fa_56_1 rfl fun q55 k56 => ?_
    refine QF.ldi ckC hs11.1 rfl k56 ty_3 rfl fun r57 => ?_
    obtain ⟨y58, hy58, E⟩ := bd E
    refine QF.callp (v := .int .i64 y58) (Ψ := inI64 y58) rfl rfl rfl ca_21 rfl (fun h' o => (harm_distance_ret (St.all h') r54 r57 hy58).mono fun _ _ _ _ p => ⟨p.1, p.2.1⟩) fun r59 => ?_
    have r60 := r59
    refine QF.min rfl rfl rfl ?_
    refine QF.as_ rfl rfl ?_
    refine QF.rcn (sb 4 rfl sb0) fun h61 hs62 e63 => ?_
    refine WF.ret (fun aa ww hf hw => ?_)
    cases E
    exact rtg hf rfl hw (rvc (rvT hf (v := _) rfl) rv0) rfl (e5.trans (e12.trans e63)) ⟨rfl, (inI64_min r51 r60), hs62⟩
  · skip
    have E := cdF c42 E
    refine WF.skip ?_
    refine WF.seq ?_
    refine WF.rp (.inl rfl) ?_
    refine QF.as_ rfl rfl ?_
    refine QF.rpn (sb 4 rfl sb0) ?_
    refine WF.ret (fun aa ww hf hw => ?_)
    cases E
    exact rtg hf rfl hw (rvc (rvT hf (v := _) rfl) rv0) rfl (e5.trans e12) ⟨rfl, (show inI64 0 by unfold inI64; omega), hs11⟩

set_option maxRecDepth 10000 in
set_option maxHeartbeats 2000000 in
theorem exact_Add_ret {N : Nat} {S : Nat → Prop} {L : List HP} {h : Heap} (hs : St S L h) {p0_a : Int} (h_p0_a : inI64 p0_a) {p1_b : Int} (h_p1_b : inI64 p1_b) {r : Int} (E : f_exact_Add N p0_a p1_b = some r) :
    Ret Try.prog 12 #[.int .i64 p0_a, .int .i64 p1_b] S h (fun v S' h' => v = .int .i64 r ∧ inI64 r ∧ St S' (L) h') := by
  refine Ret.go (l := [.int .i64 p0_a, .int .i64 p1_b]) 24 Try.func12 rfl Try.ntmps12 rfl fun B => ?_
  rw [f_exact_Add] at E
  refine WF.seq ?_
  refine WF.rp (.inl rfl) ?_
  refine QF.as_ rfl rfl ?_
  refine QF.rpn (sb 4 rfl (sb 0 rfl (sb 1 rfl sb0))) ?_
  refine WF.seq ?_
  refine WF.seq ?_
  refine WF.rp (.inl rfl) ?_
  refine QF.mv rfl rfl ?_
  refine QF.gtr rfl rfl rfl ?_
  refine QF.mv rfl rfl ?_
  refine QF.cutv 5 12 (.bool ((decide (0 < p1_b)) && (decide ((w64 (9223372036854775807 - p1_b)) < p0_a)))) ?_ ?_
  · cases c1 : (decide (0 < p1_b))
    · skip
      refine QF.gnF rfl rfl rfl rfl rfl ?_
      refine QF.gnF rfl rfl rfl rfl rfl ?_
      refine QF.gnF rfl rfl rfl rfl rfl ?_
      refine QF.gnF rfl rfl rfl rfl rfl ?_
      refine QF.pick rfl rfl rfl ?_
      exact QF.cutn (sb 12 rfl (sb 7 rfl (sb 6 rfl (sb 5 rfl (sb 4 rfl (sb 0 rfl (sb 1 rfl sb0)))))))
    · skip
      refine QF.gy rfl rfl rfl ?_
      refine QF.mv rfl rfl ?_
      refine QF.gy rfl rfl rfl ?_
      refine QF.mv rfl rfl ?_
      refine QF.gy rfl rfl rfl ?_
      refine QF.subw rfl rfl rfl ?_
      refine QF.gy rfl rfl rfl ?_
      refine QF.gtr rfl rfl rfl ?_
      refine QF.pick rfl rfl rfl ?_
      exact QF.cutn (sb 12 rfl (sb 7 rfl (sb 6 rfl (sb 5 rfl (sb 4 rfl (sb 0 rfl (sb 1 rfl sb0)))))))
  refine QF.rpn (sb 12 rfl (sb 4 rfl (sb 0 rfl (sb 1 rfl sb0)))) ?_
  refine WF.if_ rfl (fun c2 => ?_) (fun c2 => ?_)
  · skip
    have E := cdT c2 E
    refine WF.seq ?_
    refine WF.rp (.inl rfl) ?_
    refine QF.as_ rfl rfl ?_
    refine QF.rpn (sb 4 rfl (sb 0 rfl (sb 1 rfl sb0))) ?_
    refine WF.ret (fun aa ww hf hw => ?_)
    cases E
    exact rtg hf rfl hw (rvc (rvT hf (v := _) rfl) rv0) rfl (Ext.refl S h) ⟨rfl, (show inI64 9223372036854775807 by unfold inI64; omega), hs⟩
  · skip
    have E := cdF c2 E
    refine WF.skip ?_
    refine WF.seq ?_
    refine WF.seq ?_
    refine WF.rp (.inl rfl) ?_
    refine QF.mv rfl rfl ?_
    refine QF.lss rfl rfl rfl ?_
    refine QF.mv rfl rfl ?_
    refine QF.cutv 5 20 (.bool ((decide (p1_b < 0)) && (decide (p0_a < (w64 ((-9223372036854775808) - p1_b)))))) ?_ ?_
    · cases c3 : (decide (p1_b < 0))
      · skip
        refine QF.gnF rfl rfl rfl rfl rfl ?_
        refine QF.gnF rfl rfl rfl rfl rfl ?_
        refine QF.gnF rfl rfl rfl rfl rfl ?_
        refine QF.gnF rfl rfl rfl rfl rfl ?_
        refine QF.pick rfl rfl rfl ?_
        exact QF.cutn (sb 20 rfl (sb 15 rfl (sb 14 rfl (sb 13 rfl (sb 12 rfl (sb 4 rfl (sb 0 rfl (sb 1 rfl sb0))))))))
      · skip
        refine QF.gy rfl rfl rfl ?_
        refine QF.mv rfl rfl ?_
        refine QF.gy rfl rfl rfl ?_
        refine QF.mv rfl rfl ?_
        refine QF.gy rfl rfl rfl ?_
        refine QF.subw rfl rfl rfl ?_
        refine QF.gy rfl rfl rfl ?_
        refine QF.lss rfl rfl rfl ?_
        refine QF.pick rfl rfl rfl ?_
        exact QF.cutn (sb 20 rfl (sb 15 rfl (sb 14 rfl (sb 13 rfl (sb 12 rfl (sb 4 rfl (sb 0 rfl (sb 1 rfl sb0))))))))
    refine QF.rpn (sb 20 rfl (sb 4 rfl (sb 0 rfl (sb 1 rfl sb0)))) ?_
    refine WF.if_ rfl (fun c4 => ?_) (fun c4 => ?_)
    · skip
      have E := cdT c4 E
      refine WF.seq ?_
      refine WF.rp (.inl rfl) ?_
      refine QF.as_ rfl rfl ?_
      refine QF.rpn (sb 4 rfl (sb 0 rfl (sb 1 rfl sb0))) ?_
      refine WF.ret (fun aa ww hf hw => ?_)
      cases E
      exact rtg hf rfl hw (rvc (rvT hf (v := _) rfl) rv0) rfl (Ext.refl S h) ⟨rfl, (show inI64 (-9223372036854775808) by unfold inI64; omega), hs⟩
    · skip
      have E := cdF c4 E
      refine WF.skip ?_
      refine WF.seq ?_
      refine WF.rp (.inl rfl) ?_
      refine QF.mv rfl rfl ?_
      refine QF.mv rfl rfl ?_
      refine QF.addw rfl rfl rfl ?_
      refine QF.as_ rfl rfl ?_
      refine QF.rpn (sb 4 rfl sb0) ?_
      refine WF.ret (fun aa ww hf hw => ?_)
      cases E
      exact rtg hf rfl hw (rvc (rvT hf (v := _) rfl) rv0) rfl (Ext.refl S h) ⟨rfl, (w64_i _), hs⟩

set_option maxRecDepth 10000 in
set_option maxHeartbeats 2000000 in
theorem harm_flooded_ret {N : Nat} {S : Nat → Prop} {L : List HP} {h : Heap} (hs : St S L h) {v_p0_b : Value} {p0_b : GBasin} (h_p0_b : Rd S h RGBasin v_p0_b p0_b) {p1_n : Int} (h_p1_n : inI64 p1_n) {v_p2_peak : Value} {p2_peak : (Int → Option Int)} (h_p2_peak : Rd S h (Rep.fn Try.prog (fun x : Int => ([.int .i64 x] : List Value)) (fun x : Int => inI64 x) (fun y : Int => .int .i64 y) (fun y : Int => inI64 y)) v_p2_peak p2_peak) {r : Int} (E : f_harm_flooded N p0_b p1_n p2_peak = some r) :
    Ret Try.prog 14 #[v_p0_b, .int .i64 p1_n, v_p2_peak] S h (fun v S' h' => v = .int .i64 r ∧ inI64 r ∧ St S' (L) h') := by
  refine Ret.go (l := [v_p0_b, .int .i64 p1_n, v_p2_peak]) 39 Try.func14 rfl Try.ntmps14 rfl fun B => ?_
  rw [f_harm_flooded] at E
  obtain ⟨fn1, cp2, rfl, cb3, kf4⟩ := h_p2_peak.fn
  refine WF.seq ?_
  refine WF.rl ?_
  refine LF.boxp rfl h_p0_b (fun e => by cases e) rfl hs fun q5 S6 h7 hs8 e9 k10 => ?_
  refine LF.q 1 ?_
  refine QF.as_ rfl rfl ?_
  refine QF.ln ?_
  refine LF.nil (sb 6 rfl (sb 3 rfl (sb 1 rfl (sb 2 rfl sb0)))) ?_
  refine WF.seq ?_
  refine WF.rp (.inl rfl) ?_
  refine QF.as_ rfl rfl ?_
  refine QF.rpn (sb 7 rfl (sb 6 rfl (sb 3 rfl (sb 1 rfl (sb 2 rfl sb0))))) ?_
  refine WF.seq ?_
  refine WF.seq ?_
  refine WF.rp (.inl rfl) ?_
  refine QF.fa rfl k10 GBasin.f_Towns fa_48_5 rfl fun q11 k12 => ?_
  refine QF.ldl ckP hs8.1 rfl k12 ty_41 rfl fun v13 k14 => ?_
  refine QF.len rfl k14 sl_41 rfl fun b15 => ?_
  unfold maxLen at b15
  refine QF.mv rfl rfl ?_
  refine QF.rpn (sb 13 rfl (sb 12 rfl (sb 11 rfl (sb 7 rfl (sb 6 rfl (sb 1 rfl (sb 2 rfl sb0))))))) ?_
  refine WF.blockJ (fun a w => ∃ (i16 : Int) (S' : Nat → Prop) (h' : Heap), Fr 39 a [(6, .int .i64 0), (7, .int .i64 i16)] ∧ Wd B h' w ∧ St S' (L) h' ∧ Ext S6 h7 S' h' ∧ inI64 i16 ∧ f_harm_flooded_j0 N i16 = some r) ?_ ?_
  · skip
    refine WF.loopF (fun n1 => fun a w => ∃ (i22 : Int) (i24 : Int) (S' : Nat → Prop) (h' : Heap), Fr 39 a [(12, .int .i64 (↑p0_b.Towns.length : Int)), (11, v13), (6, .int .i64 0), (1, .int .i64 p1_n), (2, (.func (.func fn1) #[] cp2)), (7, .int .i64 i22), (13, .int .i64 i24)] ∧ Wd B h' w ∧ St S' (L) h' ∧ Ext S6 h7 S' h' ∧ inI64 i22 ∧ inI64 i24 ∧ f_harm_flooded_l1 N p0_b p1_n p2_peak (f_harm_flooded_j0 N) n1 i22 i24 = some r) N ?_ ?_ ?_
    · intro aa ww hf hw
      exact ⟨0, 0, _, _, hf.sub (sb 12 rfl (sb 11 rfl (sb 6 rfl (sb 1 rfl (sb 2 rfl (sb 7 rfl (sb 13 rfl sb0))))))), hw, hs8, (Ext.refl S6 h7), (show inI64 0 by unfold inI64; omega), (show inI64 0 by unfold inI64; omega), E⟩
    · rintro aa ww ⟨_, _, _, _, _, _, _, _, _, _, E⟩
      rw [f_harm_flooded_l1] at E; cases E
    · skip
      rintro n1 aa ww ⟨i22, i24, S26, h27, hf, hw, hs28, e29, r23, r25, E⟩
      refine WF.run ?_ hf hw
      clear hf hw ww aa
      rw [f_harm_flooded_l1] at E
      refine WF.seq ?_
      refine WF.rp (.inl rfl) ?_
      refine QF.lss rfl rfl rfl ?_
      refine QF.rpn (sb 14 rfl (sb 12 rfl (sb 11 rfl (sb 6 rfl (sb 1 rfl (sb 2 rfl (sb 7 rfl (sb 13 rfl sb0)))))))) ?_
      refine WF.seq ?_
      refine WF.if_ rfl (fun c30 => ?_) (fun c30 => ?_)
      · skip
        have E := cdT c30 E
        refine WF.skip ?_
        refine WF.seq ?_
        refine WF.blockJ (fun a w => ∃ (i31 : Int) (x33 : GTown) (i41 : Int) (b43 : Bool) (b44 : Bool) (b45 : Bool) (b46 : Bool) (b47 : Bool) (S' : Nat → Prop) (h' : Heap), Fr 39 a [(14, .bool (decide (i24 < (↑p0_b.Towns.length : Int)))), (12, .int .i64 (↑p0_b.Towns.length : Int)), (11, v13), (6, .int .i64 0), (1, .int .i64 p1_n), (2, (.func (.func fn1) #[] cp2)), (13, .int .i64 i24), (7, .int .i64 i31), (16, .agg #[.string x33.Name, .int .i64 x33.Place, .int .i64 x33.Flood, .int .i64 x33.Lead, .int .i64 x33.People, .int .i64 x33.Watch, .int .i64 x33.Quorum]), (18, .int .i64 i41), (19, .bool b43), (20, .bool b44), (25, .bool b45), (26, .bool b46), (34, .bool b47)] ∧ Wd B h' w ∧ St S' (L) h' ∧ Ext S26 h27 S' h' ∧ inI64 i31 ∧ GTown.ok x33 ∧ inI64 i41 ∧ f_harm_flooded_j2 N i24 (f_harm_flooded_l1 N p0_b p1_n p2_peak (f_harm_flooded_j0 N) n1) i31 x33 i41 b43 b44 b45 b46 b47 = some r) ?_ ?_
        · skip
          refine WF.seq ?_
          refine WF.rl ?_
          refine LF.q 2 ?_
          have k48 := k14.mono' e29
          obtain ⟨x49, hx49, E⟩ := bd E
          refine QF.ixe rfl rfl k48 sl_41 hx49 rfl fun q50 k51 => ?_
          refine QF.ld ckP hs28.1 rfl k51 ty_40 (fun e => by cases e) rfl fun v52 k53 => ?_
          refine QF.ln ?_
          refine LF.al zc_40 rfl hs28 fun b54 h55 hs56 e57 => ?_
          have k58 := k53.mono e57
          obtain ⟨rfl, ⟨r60, r61, r62, r63, r64, r65, r66⟩⟩ := RGTown.ex k58
          refine LF.st (vs := [.string x49.Name, .int .i64 x49.Place, .int .i64 x49.Flood, .int .i64 x49.Lead, .int .i64 x49.People, .int .i64 x49.Watch, .int .i64 x49.Quorum]) (cs' := [.string x49.Name, .int .i64 x49.Place, .int .i64 x49.Flood, .int .i64 x49.Lead, .int .i64 x49.People, .int .i64 x49.Watch, .int .i64 x49.Quorum]) rfl rfl rfl (by simp [Value.oneCell']) ty_40 rfl hs56 .head rfl rfl fun h67 hs68 e69 => ?_
          refine LF.nil (sb 9 rfl (sb 16 rfl (sb 15 rfl (sb 14 rfl (sb 12 rfl (sb 11 rfl (sb 6 rfl (sb 1 rfl (sb 2 rfl (sb 7 rfl (sb 13 rfl sb0))))))))))) ?_
          refine WF.seq ?_
          refine WF.rc (.inr ⟨mo, by kernel_rfl⟩) hs68 ?_
          refine QF.fao rfl fa_40_1 rfl ?_
          refine QF.ldo (vs := [.int .i64 x49.Place]) ckC hs68 rfl mh rfl rfl ty_3 rfl rfl ?_
          refine QF.geq rfl rfl rfl ?_
          refine QF.mv rfl rfl ?_
          refine QF.cutv 5 25 (.bool ((decide (0 ≤ x49.Place)) && (decide (x49.Place < p1_n)))) ?_ ?_
          · cases c70 : (decide (0 ≤ x49.Place))
            · skip
              refine QF.gnF rfl rfl rfl rfl rfl ?_
              refine QF.gnF rfl rfl rfl rfl rfl ?_
              refine QF.gnF rfl rfl rfl rfl rfl ?_
              refine QF.gnF rfl rfl rfl rfl rfl ?_
              refine QF.pick rfl rfl rfl ?_
              exact QF.cutn (sb 25 rfl (sb 20 rfl (sb 19 rfl (sb 18 rfl (sb 17 rfl (sb 9 rfl (sb 16 rfl (sb 15 rfl (sb 14 rfl (sb 12 rfl (sb 11 rfl (sb 6 rfl (sb 1 rfl (sb 2 rfl (sb 7 rfl (sb 13 rfl sb0))))))))))))))))
            · skip
              refine QF.gy rfl rfl rfl ?_
              refine QF.fao rfl fa_40_1 rfl ?_
              refine QF.gy rfl rfl rfl ?_
              refine QF.ldo (vs := [.int .i64 x49.Place]) ckC hs68 rfl mh rfl rfl ty_3 rfl rfl ?_
              refine QF.gy rfl rfl rfl ?_
              refine QF.mv rfl rfl ?_
              refine QF.gy rfl rfl rfl ?_
              refine QF.lss rfl rfl rfl ?_
              refine QF.pick rfl rfl rfl ?_
              exact QF.cutn (sb 25 rfl (sb 20 rfl (sb 19 rfl (sb 18 rfl (sb 17 rfl (sb 9 rfl (sb 16 rfl (sb 15 rfl (sb 14 rfl (sb 12 rfl (sb 11 rfl (sb 6 rfl (sb 1 rfl (sb 2 rfl (sb 7 rfl (sb 13 rfl sb0))))))))))))))))
          refine QF.mv rfl rfl ?_
          obtain ⟨b72, hb72, E⟩ := bd E
          refine QF.cutv 8 34 (.bool b72) ?_ ?_
          · cases c71 : ((decide (0 ≤ x49.Place)) && (decide (x49.Place < p1_n)))
            · skip
              have hb72 := cdF c71 hb72
              cases hb72
              refine QF.gnF rfl rfl rfl rfl rfl ?_
              refine QF.gnF rfl rfl rfl rfl rfl ?_
              refine QF.gnF rfl rfl rfl rfl rfl ?_
              refine QF.gnF rfl rfl rfl rfl rfl ?_
              refine QF.gnF rfl rfl rfl rfl rfl ?_
              refine QF.gnF rfl rfl rfl rfl rfl ?_
              refine QF.gnF rfl rfl rfl rfl rfl ?_
              refine QF.pick rfl rfl rfl ?_
              exact QF.cutn (sb 34 rfl (sb 26 rfl (sb 25 rfl (sb 20 rfl (sb 19 rfl (sb 18 rfl (sb 17 rfl (sb 9 rfl (sb 16 rfl (sb 15 rfl (sb 14 rfl (sb 12 rfl (sb 11 rfl (sb 6 rfl (sb 1 rfl (sb 2 rfl (sb 7 rfl (sb 13 rfl sb0))))))))))))))))))
            · skip
              have hb72 := cdT c71 hb72
              refine QF.gy rfl rfl rfl ?_
              refine QF.mv rfl rfl ?_
              refine QF.gy rfl rfl rfl ?_
              refine QF.fao rfl fa_40_1 rfl ?_
              refine QF.gy rfl rfl rfl ?_
              refine QF.ldo (vs := [.int .i64 x49.Place]) ckC hs68 rfl mh rfl rfl ty_3 rfl rfl ?_
              refine QF.gy rfl rfl rfl ?_
              obtain ⟨y73, hy73, hb72⟩ := bd hb72
              refine QF.callp (v := .int .i64 y73) (Ψ := inI64 y73) rfl rfl rfl cb3 rfl (fun h' o => (kf4 _ h' (fun b hb => Nat.lt_of_lt_of_le (hs68.1 b ((e9.trans (e29.trans (e57.trans e69))).sub b hb)) o.siz) (fun b hb => (o.same b (hs68.1 b ((e9.trans (e29.trans (e57.trans e69))).sub b hb))).trans ((e9.trans (e29.trans (e57.trans e69))).same b hb)) [] (St.all h') _ _ r61 hy73).mono fun _ _ _ _ p => ⟨p.1, p.2.1⟩) fun r74 => ?_
              have r75 := r74
              refine QF.gy rfl rfl rfl ?_
              refine QF.fao rfl fa_40_2 rfl ?_
              refine QF.gy rfl rfl rfl ?_
              refine QF.ldo (vs := [.int .i64 x49.Flood]) ckC hs68 rfl mh rfl rfl ty_3 rfl rfl ?_
              refine QF.gy rfl rfl rfl ?_
              refine QF.gtr rfl rfl rfl ?_
              refine QF.pick rfl rfl rfl ?_
              cases hb72
              exact QF.cutn (sb 34 rfl (sb 26 rfl (sb 25 rfl (sb 20 rfl (sb 19 rfl (sb 18 rfl (sb 17 rfl (sb 9 rfl (sb 16 rfl (sb 15 rfl (sb 14 rfl (sb 12 rfl (sb 11 rfl (sb 6 rfl (sb 1 rfl (sb 2 rfl (sb 7 rfl (sb 13 rfl sb0))))))))))))))))))
          refine QF.rcn (sb 34 rfl (sb 26 rfl (sb 25 rfl (sb 20 rfl (sb 19 rfl (sb 18 rfl (sb 17 rfl (sb 9 rfl (sb 16 rfl (sb 15 rfl (sb 14 rfl (sb 12 rfl (sb 11 rfl (sb 6 rfl (sb 1 rfl (sb 2 rfl (sb 7 rfl (sb 13 rfl sb0)))))))))))))))))) fun h76 hs77 e78 => ?_
          refine WF.if_ rfl (fun c79 => ?_) (fun c79 => ?_)
          · skip
            have E := cdT c79 E
            refine WF.rp (.inl rfl) ?_
            refine QF.mv rfl rfl ?_
            refine QF.addw rfl rfl rfl ?_
            refine QF.as_ rfl rfl ?_
            refine QF.rpn (sb 7 rfl (sb 36 rfl (sb 35 rfl (sb 34 rfl (sb 26 rfl (sb 25 rfl (sb 20 rfl (sb 19 rfl (sb 18 rfl (sb 17 rfl (sb 9 rfl (sb 16 rfl (sb 15 rfl (sb 14 rfl (sb 12 rfl (sb 11 rfl (sb 6 rfl (sb 1 rfl (sb 2 rfl (sb 13 rfl sb0)))))))))))))))))))) ?_
            refine WF.nil (fun aa ww hf hw => ?_)
            have hs80 := hs77.drop .head
            exact ⟨(w64 (i22 + 1)), x49, x49.Place, (decide (0 ≤ x49.Place)), (decide (0 ≤ x49.Place)), ((decide (0 ≤ x49.Place)) && (decide (x49.Place < p1_n))), ((decide (0 ≤ x49.Place)) && (decide (x49.Place < p1_n))), b72, _, _, hf.sub (sb 14 rfl (sb 12 rfl (sb 11 rfl (sb 6 rfl (sb 1 rfl (sb 2 rfl (sb 13 rfl (sb 7 rfl (sb 16 rfl (sb 18 rfl (sb 19 rfl (sb 20 rfl (sb 25 rfl (sb 26 rfl (sb 34 rfl sb0))))))))))))))), hw, hs80, (e57.trans (e69.trans e78)), (w64_i _), ⟨r60, r61, r62, r63, r64, r65, r66⟩, r61, E⟩
          · skip
            have E := cdF c79 E
            refine WF.skip ?_
            refine WF.nil (fun aa ww hf hw => ?_)
            have hs81 := hs77.drop .head
            exact ⟨i22, x49, x49.Place, (decide (0 ≤ x49.Place)), (decide (0 ≤ x49.Place)), ((decide (0 ≤ x49.Place)) && (decide (x49.Place < p1_n))), ((decide (0 ≤ x49.Place)) && (decide (x49.Place < p1_n))), b72, _, _, hf.sub (sb 14 rfl (sb 12 rfl (sb 11 rfl (sb 6 rfl (sb 1 rfl (sb 2 rfl (sb 13 rfl (sb 7 rfl (sb 16 rfl (sb 18 rfl (sb 19 rfl (sb 20 rfl (sb 25 rfl (sb 26 rfl (sb 34 rfl sb0))))))))))))))), hw, hs81, (e57.trans (e69.trans e78)), r23, ⟨r60, r61, r62, r63, r64, r65, r66⟩, r61, E⟩
        · skip
          rintro aa ww ⟨i31, x33, i41, b43, b44, b45, b46, b47, S82, h83, hf, hw, hs84, e85, r32, ⟨r34, r35, r36, r37, r38, r39, r40⟩, r42, E⟩
          refine WF.run ?_ hf hw
          clear hf hw ww aa
          rw [f_harm_flooded_j2] at E
          refine WF.rp (.inl rfl) ?_
          refine QF.addw rfl rfl rfl ?_
          refine QF.mv rfl rfl ?_
          refine QF.rpn (sb 13 rfl (sb 37 rfl (sb 14 rfl (sb 12 rfl (sb 11 rfl (sb 6 rfl (sb 1 rfl (sb 2 rfl (sb 7 rfl (sb 16 rfl (sb 18 rfl (sb 19 rfl (sb 20 rfl (sb 25 rfl (sb 26 rfl (sb 34 rfl sb0)))))))))))))))) ?_
          refine WF.nil (fun aa ww hf hw => ?_)
          exact ⟨i31, (w64 (i24 + 1)), _, _, hf.sub (sb 12 rfl (sb 11 rfl (sb 6 rfl (sb 1 rfl (sb 2 rfl (sb 7 rfl (sb 13 rfl sb0))))))), hw, hs84, (e29.trans e85), r32, (w64_i _), E⟩
      · skip
        have E := cdF c30 E
        refine WF.exit rfl (fun aa ww hf hw => ?_)
        exact ⟨i22, _, _, hf.sub (sb 6 rfl (sb 7 rfl sb0)), hw, hs28, e29, r23, E⟩
  · skip
    rintro aa ww ⟨i16, S86, h87, hf, hw, hs88, e89, r17, E⟩
    refine WF.run ?_ hf hw
    clear hf hw ww aa
    rw [f_harm_flooded_j0] at E
    refine WF.seq ?_
    refine WF.rp (.inl rfl) ?_
    refine QF.mv rfl rfl ?_
    refine QF.as_ rfl rfl ?_
    refine QF.rpn (sb 6 rfl sb0) ?_
    refine WF.ret (fun aa ww hf hw => ?_)
    cases E
    exact rtg hf rfl hw (rvc (rvT hf (v := _) rfl) rv0) rfl (e9.trans e89) ⟨rfl, r17, hs88⟩

set_option maxRecDepth 10000 in
set_option maxHeartbeats 2000000 in
theorem harm_spilling_ret {N : Nat} {S : Nat → Prop} {L : List HP} {h : Heap} (hs : St S L h) {v_p0_b : Value} {p0_b : GBasin} (h_p0_b : Rd S h RGBasin v_p0_b p0_b) {p1_n : Int} (h_p1_n : inI64 p1_n) {v_p2_spill : Value} {p2_spill : (Int → Option Int)} (h_p2_spill : Rd S h (Rep.fn Try.prog (fun x : Int => ([.int .i64 x] : List Value)) (fun x : Int => inI64 x) (fun y : Int => .int .i64 y) (fun y : Int => inI64 y)) v_p2_spill p2_spill) {r : Int} (E : f_harm_spilling N p0_b p1_n p2_spill = some r) :
    Ret Try.prog 16 #[v_p0_b, .int .i64 p1_n, v_p2_spill] S h (fun v S' h' => v = .int .i64 r ∧ inI64 r ∧ St S' (L) h') := by
  refine Ret.go (l := [v_p0_b, .int .i64 p1_n, v_p2_spill]) 34 Try.func16 rfl Try.ntmps16 rfl fun B => ?_
  rw [f_harm_spilling] at E
  obtain ⟨fn1, cp2, rfl, cb3, kf4⟩ := h_p2_spill.fn
  refine WF.seq ?_
  refine WF.rl ?_
  refine LF.boxp rfl h_p0_b (fun e => by cases e) rfl hs fun q5 S6 h7 hs8 e9 k10 => ?_
  refine LF.q 1 ?_
  refine QF.as_ rfl rfl ?_
  refine QF.ln ?_
  refine LF.nil (sb 6 rfl (sb 3 rfl (sb 1 rfl (sb 2 rfl sb0)))) ?_
  refine WF.seq ?_
  refine WF.rp (.inl rfl) ?_
  refine QF.as_ rfl rfl ?_
  refine QF.rpn (sb 7 rfl (sb 6 rfl (sb 3 rfl (sb 1 rfl (sb 2 rfl sb0))))) ?_
  refine WF.seq ?_
  refine WF.seq ?_
  refine WF.rp (.inl rfl) ?_
  refine QF.mv rfl rfl ?_
  refine QF.fa rfl k10 GBasin.f_Places fa_48_3 rfl fun q11 k12 => ?_
  refine QF.ldl ckP hs8.1 rfl k12 ty_38 rfl fun v13 k14 => ?_
  refine QF.len rfl k14 sl_38 rfl fun b15 => ?_
  unfold maxLen at b15
  refine QF.min rfl rfl rfl ?_
  refine QF.mv rfl rfl ?_
  refine QF.rpn (sb 14 rfl (sb 13 rfl (sb 7 rfl (sb 6 rfl (sb 3 rfl (sb 2 rfl sb0)))))) ?_
  refine WF.blockJ (fun a w => ∃ (i16 : Int) (S' : Nat → Prop) (h' : Heap), Fr 34 a [(6, .int .i64 0), (7, .int .i64 i16)] ∧ Wd B h' w ∧ St S' (L) h' ∧ Ext S6 h7 S' h' ∧ inI64 i16 ∧ f_harm_spilling_j0 N i16 = some r) ?_ ?_
  · skip
    refine WF.loopF (fun n1 => fun a w => ∃ (i22 : Int) (i24 : Int) (S' : Nat → Prop) (h' : Heap), Fr 34 a [(13, .int .i64 (min p1_n (↑p0_b.Places.length : Int))), (6, .int .i64 0), (3, q5), (2, (.func (.func fn1) #[] cp2)), (7, .int .i64 i22), (14, .int .i64 i24)] ∧ Wd B h' w ∧ St S' (L) h' ∧ Ext S6 h7 S' h' ∧ inI64 i22 ∧ inI64 i24 ∧ f_harm_spilling_l1 N p0_b p1_n p2_spill (f_harm_spilling_j0 N) n1 i22 i24 = some r) N ?_ ?_ ?_
    · intro aa ww hf hw
      exact ⟨0, 0, _, _, hf.sub (sb 13 rfl (sb 6 rfl (sb 3 rfl (sb 2 rfl (sb 7 rfl (sb 14 rfl sb0)))))), hw, hs8, (Ext.refl S6 h7), (show inI64 0 by unfold inI64; omega), (show inI64 0 by unfold inI64; omega), E⟩
    · rintro aa ww ⟨_, _, _, _, _, _, _, _, _, _, E⟩
      rw [f_harm_spilling_l1] at E; cases E
    · skip
      rintro n1 aa ww ⟨i22, i24, S26, h27, hf, hw, hs28, e29, r23, r25, E⟩
      refine WF.run ?_ hf hw
      clear hf hw ww aa
      rw [f_harm_spilling_l1] at E
      refine WF.seq ?_
      refine WF.rp (.inl rfl) ?_
      refine QF.lss rfl rfl rfl ?_
      refine QF.rpn (sb 15 rfl (sb 13 rfl (sb 6 rfl (sb 3 rfl (sb 2 rfl (sb 7 rfl (sb 14 rfl sb0))))))) ?_
      refine WF.seq ?_
      refine WF.if_ rfl (fun c30 => ?_) (fun c30 => ?_)
      · skip
        have E := cdT c30 E
        refine WF.skip ?_
        refine WF.seq ?_
        refine WF.blockJ (fun a w => ∃ (i31 : Int) (i33 : Int) (i35 : Int) (v37 : Value) (l38 : List GPlace) (i40 : Int) (i42 : Int) (b44 : Bool) (b45 : Bool) (b46 : Bool) (S' : Nat → Prop) (h' : Heap), Fr 34 a [(15, .bool (decide (i24 < (min p1_n (↑p0_b.Places.length : Int))))), (13, .int .i64 (min p1_n (↑p0_b.Places.length : Int))), (6, .int .i64 0), (3, q5), (2, (.func (.func fn1) #[] cp2)), (14, .int .i64 i24), (7, .int .i64 i31), (8, .int .i64 i33), (16, .int .i64 i35), (18, v37), (19, .int .i64 i40), (22, .int .i64 i42), (23, .bool b44), (24, .bool b45), (29, .bool b46)] ∧ Wd B h' w ∧ St S' (L) h' ∧ Ext S26 h27 S' h' ∧ inI64 i31 ∧ inI64 i33 ∧ inI64 i35 ∧ Sl S' h' RGPlace v37 l38 ∧ inI64 i40 ∧ inI64 i42 ∧ f_harm_spilling_j2 N i24 (f_harm_spilling_l1 N p0_b p1_n p2_spill (f_harm_spilling_j0 N) n1) i31 i33 i35 l38 i40 i42 b44 b45 b46 = some r) ?_ ?_
        · skip
          refine WF.seq ?_
          refine WF.rp (.inl rfl) ?_
          refine QF.mv rfl rfl ?_
          refine QF.as_ rfl rfl ?_
          refine QF.rpn (sb 8 rfl (sb 16 rfl (sb 15 rfl (sb 13 rfl (sb 6 rfl (sb 3 rfl (sb 2 rfl (sb 7 rfl (sb 14 rfl sb0))))))))) ?_
          refine WF.seq ?_
          refine WF.rc (.inl rfl) hs28 ?_
          have k47 := k10.mono e29
          refine QF.fa rfl k47 GBasin.f_Places fa_48_3 rfl fun q48 k49 => ?_
          refine QF.ldl ckC hs28.1 rfl k49 ty_38 rfl fun v50 k51 => ?_
          refine QF.mv rfl rfl ?_
          obtain ⟨x52, hx52, E⟩ := bd E
          refine QF.ixe rfl rfl k51 sl_38 hx52 rfl fun q53 k54 => ?_
          refine QF.fa rfl k54 GPlace.f_Kind fa_37_1 rfl fun q55 k56 => ?_
          refine QF.ldi ckC hs28.1 rfl k56 ty_3 rfl fun r57 => ?_
          refine QF.eql rfl rfl rfl ?_
          refine QF.mv rfl rfl ?_
          obtain ⟨b59, hb59, E⟩ := bd E
          refine QF.cutv 5 29 (.bool b59) ?_ ?_
          · cases c58 : (decide (x52.Kind = 1))
            · skip
              have hb59 := cdF c58 hb59
              cases hb59
              refine QF.gnF rfl rfl rfl rfl rfl ?_
              refine QF.gnF rfl rfl rfl rfl rfl ?_
              refine QF.gnF rfl rfl rfl rfl rfl ?_
              refine QF.gnF rfl rfl rfl rfl rfl ?_
              refine QF.pick rfl rfl rfl ?_
              exact QF.cutn (sb 29 rfl (sb 24 rfl (sb 23 rfl (sb 22 rfl (sb 21 rfl (sb 20 rfl (sb 19 rfl (sb 18 rfl (sb 17 rfl (sb 8 rfl (sb 16 rfl (sb 15 rfl (sb 13 rfl (sb 6 rfl (sb 3 rfl (sb 2 rfl (sb 7 rfl (sb 14 rfl sb0))))))))))))))))))
            · skip
              have hb59 := cdT c58 hb59
              refine QF.gy rfl rfl rfl ?_
              refine QF.mv rfl rfl ?_
              refine QF.gy rfl rfl rfl ?_
              refine QF.mv rfl rfl ?_
              refine QF.gy rfl rfl rfl ?_
              obtain ⟨y60, hy60, hb59⟩ := bd hb59
              refine QF.callp (v := .int .i64 y60) (Ψ := inI64 y60) rfl rfl rfl cb3 rfl (fun h' o => (kf4 _ h' (fun b hb => Nat.lt_of_lt_of_le (hs28.1 b ((e9.trans e29).sub b hb)) o.siz) (fun b hb => (o.same b (hs28.1 b ((e9.trans e29).sub b hb))).trans ((e9.trans e29).same b hb)) [] (St.all h') _ _ r25 hy60).mono fun _ _ _ _ p => ⟨p.1, p.2.1⟩) fun r61 => ?_
              have r62 := r61
              refine QF.gy rfl rfl rfl ?_
              refine QF.gtr rfl rfl rfl ?_
              refine QF.pick rfl rfl rfl ?_
              cases hb59
              exact QF.cutn (sb 29 rfl (sb 24 rfl (sb 23 rfl (sb 22 rfl (sb 21 rfl (sb 20 rfl (sb 19 rfl (sb 18 rfl (sb 17 rfl (sb 8 rfl (sb 16 rfl (sb 15 rfl (sb 13 rfl (sb 6 rfl (sb 3 rfl (sb 2 rfl (sb 7 rfl (sb 14 rfl sb0))))))))))))))))))
          refine QF.rcn (sb 29 rfl (sb 24 rfl (sb 23 rfl (sb 22 rfl (sb 21 rfl (sb 20 rfl (sb 19 rfl (sb 18 rfl (sb 17 rfl (sb 8 rfl (sb 16 rfl (sb 15 rfl (sb 13 rfl (sb 6 rfl (sb 3 rfl (sb 2 rfl (sb 7 rfl (sb 14 rfl sb0)))))))))))))))))) fun h63 hs64 e65 => ?_
          refine WF.if_ rfl (fun c66 => ?_) (fun c66 => ?_)
          · skip
            have E := cdT c66 E
            refine WF.rp (.inl rfl) ?_
            refine QF.mv rfl rfl ?_
            refine QF.addw rfl rfl rfl ?_
            refine QF.as_ rfl rfl ?_
            refine QF.rpn (sb 7 rfl (sb 31 rfl (sb 30 rfl (sb 29 rfl (sb 24 rfl (sb 23 rfl (sb 22 rfl (sb 21 rfl (sb 20 rfl (sb 19 rfl (sb 18 rfl (sb 17 rfl (sb 8 rfl (sb 16 rfl (sb 15 rfl (sb 13 rfl (sb 6 rfl (sb 3 rfl (sb 2 rfl (sb 14 rfl sb0)))))))))))))))))))) ?_
            refine WF.nil (fun aa ww hf hw => ?_)
            have k67 := k51.mono' e65
            exact ⟨(w64 (i22 + 1)), i24, i24, v50, p0_b.Places, i24, x52.Kind, (decide (x52.Kind = 1)), (decide (x52.Kind = 1)), b59, _, _, hf.sub (sb 15 rfl (sb 13 rfl (sb 6 rfl (sb 3 rfl (sb 2 rfl (sb 14 rfl (sb 7 rfl (sb 8 rfl (sb 16 rfl (sb 18 rfl (sb 19 rfl (sb 22 rfl (sb 23 rfl (sb 24 rfl (sb 29 rfl sb0))))))))))))))), hw, hs64, e65, (w64_i _), r25, r25, k67, r25, r57, E⟩
          · skip
            have E := cdF c66 E
            refine WF.skip ?_
            refine WF.nil (fun aa ww hf hw => ?_)
            have k68 := k51.mono' e65
            exact ⟨i22, i24, i24, v50, p0_b.Places, i24, x52.Kind, (decide (x52.Kind = 1)), (decide (x52.Kind = 1)), b59, _, _, hf.sub (sb 15 rfl (sb 13 rfl (sb 6 rfl (sb 3 rfl (sb 2 rfl (sb 14 rfl (sb 7 rfl (sb 8 rfl (sb 16 rfl (sb 18 rfl (sb 19 rfl (sb 22 rfl (sb 23 rfl (sb 24 rfl (sb 29 rfl sb0))))))))))))))), hw, hs64, e65, r23, r25, r25, k68, r25, r57, E⟩
        · skip
          rintro aa ww ⟨i31, i33, i35, v37, l38, i40, i42, b44, b45, b46, S69, h70, hf, hw, hs71, e72, r32, r34, r36, k39, r41, r43, E⟩
          refine WF.run ?_ hf hw
          clear hf hw ww aa
          rw [f_harm_spilling_j2] at E
          refine WF.rp (.inl rfl) ?_
          refine QF.addw rfl rfl rfl ?_
          refine QF.mv rfl rfl ?_
          refine QF.rpn (sb 14 rfl (sb 32 rfl (sb 15 rfl (sb 13 rfl (sb 6 rfl (sb 3 rfl (sb 2 rfl (sb 7 rfl (sb 8 rfl (sb 16 rfl (sb 18 rfl (sb 19 rfl (sb 22 rfl (sb 23 rfl (sb 24 rfl (sb 29 rfl sb0)))))))))))))))) ?_
          refine WF.nil (fun aa ww hf hw => ?_)
          exact ⟨i31, (w64 (i24 + 1)), _, _, hf.sub (sb 13 rfl (sb 6 rfl (sb 3 rfl (sb 2 rfl (sb 7 rfl (sb 14 rfl sb0)))))), hw, hs71, (e29.trans e72), r32, (w64_i _), E⟩
      · skip
        have E := cdF c30 E
        refine WF.exit rfl (fun aa ww hf hw => ?_)
        exact ⟨i22, _, _, hf.sub (sb 6 rfl (sb 7 rfl sb0)), hw, hs28, e29, r23, E⟩
  · skip
    rintro aa ww ⟨i16, S73, h74, hf, hw, hs75, e76, r17, E⟩
    refine WF.run ?_ hf hw
    clear hf hw ww aa
    rw [f_harm_spilling_j0] at E
    refine WF.seq ?_
    refine WF.rp (.inl rfl) ?_
    refine QF.mv rfl rfl ?_
    refine QF.as_ rfl rfl ?_
    refine QF.rpn (sb 6 rfl sb0) ?_
    refine WF.ret (fun aa ww hf hw => ?_)
    cases E
    exact rtg hf rfl hw (rvc (rvT hf (v := _) rfl) rv0) rfl (e9.trans e76) ⟨rfl, r17, hs75⟩

set_option maxRecDepth 10000 in
set_option maxHeartbeats 2000000 in
theorem harm_missing_ret {N : Nat} {S : Nat → Prop} {L : List HP} {h : Heap} (hs : St S L h) {v_p0_b : Value} {p0_b : GBasin} (h_p0_b : Rd S h RGBasin v_p0_b p0_b) {p1_n : Int} (h_p1_n : inI64 p1_n) {v_p2_volume : Value} {p2_volume : (Int → Option Int)} (h_p2_volume : Rd S h (Rep.fn Try.prog (fun x : Int => ([.int .i64 x] : List Value)) (fun x : Int => inI64 x) (fun y : Int => .int .i64 y) (fun y : Int => inI64 y)) v_p2_volume p2_volume) {r : Int} (E : f_harm_missing N p0_b p1_n p2_volume = some r) :
    Ret Try.prog 18 #[v_p0_b, .int .i64 p1_n, v_p2_volume] S h (fun v S' h' => v = .int .i64 r ∧ inI64 r ∧ St S' (L) h') := by
  refine Ret.go (l := [v_p0_b, .int .i64 p1_n, v_p2_volume]) 35 Try.func18 rfl Try.ntmps18 rfl fun B => ?_
  rw [f_harm_missing] at E
  obtain ⟨fn1, cp2, rfl, cb3, kf4⟩ := h_p2_volume.fn
  refine WF.seq ?_
  refine WF.rl ?_
  refine LF.boxp rfl h_p0_b (fun e => by cases e) rfl hs fun q5 S6 h7 hs8 e9 k10 => ?_
  refine LF.q 1 ?_
  refine QF.as_ rfl rfl ?_
  refine QF.ln ?_
  refine LF.nil (sb 6 rfl (sb 3 rfl (sb 1 rfl (sb 2 rfl sb0)))) ?_
  refine WF.seq ?_
  refine WF.rp (.inl rfl) ?_
  refine QF.as_ rfl rfl ?_
  refine QF.rpn (sb 7 rfl (sb 6 rfl (sb 3 rfl (sb 1 rfl (sb 2 rfl sb0))))) ?_
  refine WF.seq ?_
  refine WF.seq ?_
  refine WF.rp (.inl rfl) ?_
  refine QF.mv rfl rfl ?_
  refine QF.fa rfl k10 GBasin.f_Places fa_48_3 rfl fun q11 k12 => ?_
  refine QF.ldl ckP hs8.1 rfl k12 ty_38 rfl fun v13 k14 => ?_
  refine QF.len rfl k14 sl_38 rfl fun b15 => ?_
  unfold maxLen at b15
  refine QF.min rfl rfl rfl ?_
  refine QF.mv rfl rfl ?_
  refine QF.rpn (sb 15 rfl (sb 14 rfl (sb 7 rfl (sb 6 rfl (sb 3 rfl (sb 2 rfl sb0)))))) ?_
  refine WF.blockJ (fun a w => ∃ (i16 : Int) (S' : Nat → Prop) (h' : Heap), Fr 35 a [(6, .int .i64 0), (7, .int .i64 i16)] ∧ Wd B h' w ∧ St S' (L) h' ∧ Ext S6 h7 S' h' ∧ inI64 i16 ∧ f_harm_missing_j0 N i16 = some r) ?_ ?_
  · skip
    refine WF.loopF (fun n1 => fun a w => ∃ (i22 : Int) (i24 : Int) (S' : Nat → Prop) (h' : Heap), Fr 35 a [(14, .int .i64 (min p1_n (↑p0_b.Places.length : Int))), (6, .int .i64 0), (3, q5), (2, (.func (.func fn1) #[] cp2)), (7, .int .i64 i22), (15, .int .i64 i24)] ∧ Wd B h' w ∧ St S' (L) h' ∧ Ext S6 h7 S' h' ∧ inI64 i22 ∧ inI64 i24 ∧ f_harm_missing_l1 N p0_b p1_n p2_volume (f_harm_missing_j0 N) n1 i22 i24 = some r) N ?_ ?_ ?_
    · intro aa ww hf hw
      exact ⟨0, 0, _, _, hf.sub (sb 14 rfl (sb 6 rfl (sb 3 rfl (sb 2 rfl (sb 7 rfl (sb 15 rfl sb0)))))), hw, hs8, (Ext.refl S6 h7), (show inI64 0 by unfold inI64; omega), (show inI64 0 by unfold inI64; omega), E⟩
    · rintro aa ww ⟨_, _, _, _, _, _, _, _, _, _, E⟩
      rw [f_harm_missing_l1] at E; cases E
    · skip
      rintro n1 aa ww ⟨i22, i24, S26, h27, hf, hw, hs28, e29, r23, r25, E⟩
      refine WF.run ?_ hf hw
      clear hf hw ww aa
      rw [f_harm_missing_l1] at E
      refine WF.seq ?_
      refine WF.rp (.inl rfl) ?_
      refine QF.lss rfl rfl rfl ?_
      refine QF.rpn (sb 16 rfl (sb 14 rfl (sb 6 rfl (sb 3 rfl (sb 2 rfl (sb 7 rfl (sb 15 rfl sb0))))))) ?_
      refine WF.seq ?_
      refine WF.if_ rfl (fun c30 => ?_) (fun c30 => ?_)
      · skip
        have E := cdT c30 E
        refine WF.skip ?_
        refine WF.seq ?_
        refine WF.blockJ (fun a w => ∃ (i31 : Int) (i33 : Int) (i35 : Int) (i37 : Int) (v39 : Value) (l40 : List GPlace) (i42 : Int) (i44 : Int) (i46 : Int) (i48 : Int) (i50 : Int) (i52 : Int) (b54 : Bool) (S' : Nat → Prop) (h' : Heap), Fr 35 a [(16, .bool (decide (i24 < (min p1_n (↑p0_b.Places.length : Int))))), (14, .int .i64 (min p1_n (↑p0_b.Places.length : Int))), (6, .int .i64 0), (3, q5), (2, (.func (.func fn1) #[] cp2)), (15, .int .i64 i24), (7, .int .i64 i31), (8, .int .i64 i33), (9, .int .i64 i35), (17, .int .i64 i37), (19, v39), (20, .int .i64 i42), (23, .int .i64 i44), (25, .int .i64 i46), (26, .int .i64 i48), (27, .int .i64 i50), (28, .int .i64 i52), (29, .bool b54)] ∧ Wd B h' w ∧ St S' (L) h' ∧ Ext S26 h27 S' h' ∧ inI64 i31 ∧ inI64 i33 ∧ inI64 i35 ∧ inI64 i37 ∧ Sl S' h' RGPlace v39 l40 ∧ inI64 i42 ∧ inI64 i44 ∧ inI64 i46 ∧ inI64 i48 ∧ inI64 i50 ∧ inI64 i52 ∧ f_harm_missing_j2 N i24 (f_harm_missing_l1 N p0_b p1_n p2_volume (f_harm_missing_j0 N) n1) i31 i33 i35 i37 l40 i42 i44 i46 i48 i50 i52 b54 = some r) ?_ ?_
        · skip
          refine WF.seq ?_
          refine WF.rp (.inl rfl) ?_
          refine QF.mv rfl rfl ?_
          refine QF.as_ rfl rfl ?_
          refine QF.rpn (sb 8 rfl (sb 17 rfl (sb 16 rfl (sb 14 rfl (sb 6 rfl (sb 3 rfl (sb 2 rfl (sb 7 rfl (sb 15 rfl sb0))))))))) ?_
          refine WF.seq ?_
          refine WF.rc (.inr ⟨mo, by kernel_rfl⟩) hs28 ?_
          have k55 := k10.mono e29
          refine QF.fa rfl k55 GBasin.f_Places fa_48_3 rfl fun q56 k57 => ?_
          refine QF.ldl ckC hs28.1 rfl k57 ty_38 rfl fun v58 k59 => ?_
          refine QF.mv rfl rfl ?_
          obtain ⟨x60, hx60, E⟩ := bd E
          refine QF.ixe rfl rfl k59 sl_38 hx60 rfl fun q61 k62 => ?_
          refine QF.fa rfl k62 GPlace.f_Floor fa_37_10 rfl fun q63 k64 => ?_
          refine QF.ldi ckC hs28.1 rfl k64 ty_3 rfl fun r65 => ?_
          refine QF.mv rfl rfl ?_
          refine QF.mv rfl rfl ?_
          obtain ⟨y66, hy66, E⟩ := bd E
          refine QF.callp (v := .int .i64 y66) (Ψ := inI64 y66) rfl rfl rfl cb3 rfl (fun h' o => (kf4 _ h' (fun b hb => Nat.lt_of_lt_of_le (hs28.1 b ((e9.trans e29).sub b hb)) o.siz) (fun b hb => (o.same b (hs28.1 b ((e9.trans e29).sub b hb))).trans ((e9.trans e29).same b hb)) [] (St.all h') _ _ r25 hy66).mono fun _ _ _ _ p => ⟨p.1, p.2.1⟩) fun r67 => ?_
          have r68 := r67
          obtain ⟨y69, hy69, E⟩ := bd E
          refine QF.callp (v := .int .i64 y69) (Ψ := inI64 y69) rfl rfl rfl ca_22 rfl (fun h' o => (exact_Sub_ret (St.all h') r65 r68 hy69).mono fun _ _ _ _ p => ⟨p.1, p.2.1⟩) fun r70 => ?_
          have r71 := r70
          refine QF.as_ rfl rfl ?_
          refine QF.rcn (sb 9 rfl (sb 27 rfl (sb 26 rfl (sb 25 rfl (sb 24 rfl (sb 23 rfl (sb 22 rfl (sb 21 rfl (sb 20 rfl (sb 19 rfl (sb 18 rfl (sb 8 rfl (sb 17 rfl (sb 16 rfl (sb 14 rfl (sb 6 rfl (sb 3 rfl (sb 2 rfl (sb 7 rfl (sb 15 rfl sb0)))))))))))))))))))) fun h72 hs73 e74 => ?_
          refine WF.seq ?_
          refine WF.rp (.inl rfl) ?_
          refine QF.mv rfl rfl ?_
          refine QF.gtr rfl rfl rfl ?_
          refine QF.rpn (sb 29 rfl (sb 28 rfl (sb 9 rfl (sb 27 rfl (sb 26 rfl (sb 25 rfl (sb 24 rfl (sb 23 rfl (sb 22 rfl (sb 21 rfl (sb 20 rfl (sb 19 rfl (sb 18 rfl (sb 8 rfl (sb 17 rfl (sb 16 rfl (sb 14 rfl (sb 6 rfl (sb 3 rfl (sb 2 rfl (sb 7 rfl (sb 15 rfl sb0)))))))))))))))))))))) ?_
          refine WF.if_ rfl (fun c75 => ?_) (fun c75 => ?_)
          · skip
            have E := cdT c75 E
            refine WF.rc (.inl rfl) hs73 ?_
            refine QF.mv rfl rfl ?_
            refine QF.mv rfl rfl ?_
            obtain ⟨y76, hy76, E⟩ := bd E
            refine QF.callp (v := .int .i64 y76) (Ψ := inI64 y76) rfl rfl rfl ca_12 rfl (fun h' o => (exact_Add_ret (St.all h') r23 r71 hy76).mono fun _ _ _ _ p => ⟨p.1, p.2.1⟩) fun r77 => ?_
            have r78 := r77
            refine QF.as_ rfl rfl ?_
            refine QF.rcn (sb 7 rfl (sb 32 rfl (sb 31 rfl (sb 30 rfl (sb 29 rfl (sb 28 rfl (sb 9 rfl (sb 27 rfl (sb 26 rfl (sb 25 rfl (sb 24 rfl (sb 23 rfl (sb 22 rfl (sb 21 rfl (sb 20 rfl (sb 19 rfl (sb 18 rfl (sb 8 rfl (sb 17 rfl (sb 16 rfl (sb 14 rfl (sb 6 rfl (sb 3 rfl (sb 2 rfl (sb 15 rfl sb0))))))))))))))))))))))))) fun h79 hs80 e81 => ?_
            refine WF.nil (fun aa ww hf hw => ?_)
            have k82 := k59.mono' (e74.trans e81)
            exact ⟨y76, i24, y69, i24, v58, p0_b.Places, i24, x60.Floor, i24, y66, y69, y69, (decide (0 < y69)), _, _, hf.sub (sb 16 rfl (sb 14 rfl (sb 6 rfl (sb 3 rfl (sb 2 rfl (sb 15 rfl (sb 7 rfl (sb 8 rfl (sb 9 rfl (sb 17 rfl (sb 19 rfl (sb 20 rfl (sb 23 rfl (sb 25 rfl (sb 26 rfl (sb 27 rfl (sb 28 rfl (sb 29 rfl sb0)))))))))))))))))), hw, hs80, (e74.trans e81), r78, r25, r71, r25, k82, r25, r65, r25, r68, r71, r71, E⟩
          · skip
            have E := cdF c75 E
            refine WF.skip ?_
            refine WF.nil (fun aa ww hf hw => ?_)
            have k83 := k59.mono' e74
            exact ⟨i22, i24, y69, i24, v58, p0_b.Places, i24, x60.Floor, i24, y66, y69, y69, (decide (0 < y69)), _, _, hf.sub (sb 16 rfl (sb 14 rfl (sb 6 rfl (sb 3 rfl (sb 2 rfl (sb 15 rfl (sb 7 rfl (sb 8 rfl (sb 9 rfl (sb 17 rfl (sb 19 rfl (sb 20 rfl (sb 23 rfl (sb 25 rfl (sb 26 rfl (sb 27 rfl (sb 28 rfl (sb 29 rfl sb0)))))))))))))))))), hw, hs73, e74, r23, r25, r71, r25, k83, r25, r65, r25, r68, r71, r71, E⟩
        · skip
          rintro aa ww ⟨i31, i33, i35, i37, v39, l40, i42, i44, i46, i48, i50, i52, b54, S84, h85, hf, hw, hs86, e87, r32, r34, r36, r38, k41, r43, r45, r47, r49, r51, r53, E⟩
          refine WF.run ?_ hf hw
          clear hf hw ww aa
          rw [f_harm_missing_j2] at E
          refine WF.rp (.inl rfl) ?_
          refine QF.addw rfl rfl rfl ?_
          refine QF.mv rfl rfl ?_
          refine QF.rpn (sb 15 rfl (sb 33 rfl (sb 16 rfl (sb 14 rfl (sb 6 rfl (sb 3 rfl (sb 2 rfl (sb 7 rfl (sb 8 rfl (sb 9 rfl (sb 17 rfl (sb 19 rfl (sb 20 rfl (sb 23 rfl (sb 25 rfl (sb 26 rfl (sb 27 rfl (sb 28 rfl (sb 29 rfl sb0))))))))))))))))))) ?_
          refine WF.nil (fun aa ww hf hw => ?_)
          exact ⟨i31, (w64 (i24 + 1)), _, _, hf.sub (sb 14 rfl (sb 6 rfl (sb 3 rfl (sb 2 rfl (sb 7 rfl (sb 15 rfl sb0)))))), hw, hs86, (e29.trans e87), r32, (w64_i _), E⟩
      · skip
        have E := cdF c30 E
        refine WF.exit rfl (fun aa ww hf hw => ?_)
        exact ⟨i22, _, _, hf.sub (sb 6 rfl (sb 7 rfl sb0)), hw, hs28, e29, r23, E⟩
  · skip
    rintro aa ww ⟨i16, S88, h89, hf, hw, hs90, e91, r17, E⟩
    refine WF.run ?_ hf hw
    clear hf hw ww aa
    rw [f_harm_missing_j0] at E
    refine WF.seq ?_
    refine WF.rp (.inl rfl) ?_
    refine QF.mv rfl rfl ?_
    refine QF.as_ rfl rfl ?_
    refine QF.rpn (sb 6 rfl sb0) ?_
    refine WF.ret (fun aa ww hf hw => ?_)
    cases E
    exact rtg hf rfl hw (rvc (rvT hf (v := _) rfl) rv0) rfl (e9.trans e91) ⟨rfl, r17, hs90⟩

set_option maxRecDepth 10000 in
set_option maxHeartbeats 2000000 in
theorem harm_Hour_1_ret {N : Nat} {S : Nat → Prop} {L : List HP} {h : Heap} (hs : St S L h) {p0_i : Int} (h_p0_i : inI64 p0_i) {v_c1_ : Value} {c1_ : (List GSpan)} (h_c1_ : Pt S h (Rep.sl RGSpan) v_c1_ c1_) {r : Int} (E : f_harm_Hour_1 N c1_ p0_i = some r) :
    Ret Try.prog 15 #[.int .i64 p0_i, v_c1_] S h (fun v S' h' => v = .int .i64 r ∧ inI64 r ∧ St S' (L) h') := by
  refine Ret.go (l := [.int .i64 p0_i, v_c1_]) 9 Try.func15 rfl Try.ntmps15 rfl fun B => ?_
  rw [f_harm_Hour_1] at E
  refine WF.seq ?_
  refine WF.rp (.inl rfl) ?_
  refine QF.as_ rfl rfl ?_
  refine QF.rpn (sb 3 rfl (sb 0 rfl (sb 1 rfl sb0))) ?_
  refine WF.seq ?_
  refine WF.rp (.inl rfl) ?_
  refine QF.ldl ckP hs.1 rfl h_c1_ ty_50 rfl fun v1 k2 => ?_
  refine QF.mv rfl rfl ?_
  obtain ⟨x3, hx3, E⟩ := bd E
  refine QF.ixe rfl rfl k2 sl_50 hx3 rfl fun q4 k5 => ?_
  refine QF.fa rfl k5 GSpan.f_Hi fa_56_1 rfl fun q6 k7 => ?_
  refine QF.ldi ckP hs.1 rfl k7 ty_3 rfl fun r8 => ?_
  refine QF.as_ rfl rfl ?_
  refine QF.rpn (sb 3 rfl sb0) ?_
  refine WF.ret (fun aa ww hf hw => ?_)
  cases E
  exact rtg hf rfl hw (rvc (rvT hf (v := _) rfl) rv0) rfl (Ext.refl S h) ⟨rfl, r8, hs⟩

set_option maxRecDepth 10000 in
set_option maxHeartbeats 2000000 in
theorem harm_Hour_2_ret {N : Nat} {S : Nat → Prop} {L : List HP} {h : Heap} (hs : St S L h) {p0_i : Int} (h_p0_i : inI64 p0_i) {v_c1_ : Value} {c1_ : (List GSpan)} (h_c1_ : Pt S h (Rep.sl RGSpan) v_c1_ c1_) {r : Int} (E : f_harm_Hour_2 N c1_ p0_i = some r) :
    Ret Try.prog 17 #[.int .i64 p0_i, v_c1_] S h (fun v S' h' => v = .int .i64 r ∧ inI64 r ∧ St S' (L) h') := by
  refine Ret.go (l := [.int .i64 p0_i, v_c1_]) 9 Try.func17 rfl Try.ntmps17 rfl fun B => ?_
  rw [f_harm_Hour_2] at E
  refine WF.seq ?_
  refine WF.rp (.inl rfl) ?_
  refine QF.as_ rfl rfl ?_
  refine QF.rpn (sb 3 rfl (sb 0 rfl (sb 1 rfl sb0))) ?_
  refine WF.seq ?_
  refine WF.rp (.inl rfl) ?_
  refine QF.ldl ckP hs.1 rfl h_c1_ ty_50 rfl fun v1 k2 => ?_
  refine QF.mv rfl rfl ?_
  obtain ⟨x3, hx3, E⟩ := bd E
  refine QF.ixe rfl rfl k2 sl_50 hx3 rfl fun q4 k5 => ?_
  refine QF.fa rfl k5 GSpan.f_Hi fa_56_1 rfl fun q6 k7 => ?_
  refine QF.ldi ckP hs.1 rfl k7 ty_3 rfl fun r8 => ?_
  refine QF.as_ rfl rfl ?_
  refine QF.rpn (sb 3 rfl sb0) ?_
  refine WF.ret (fun aa ww hf hw => ?_)
  cases E
  exact rtg hf rfl hw (rvc (rvT hf (v := _) rfl) rv0) rfl (Ext.refl S h) ⟨rfl, r8, hs⟩

set_option maxRecDepth 10000 in
set_option maxHeartbeats 2000000 in
theorem harm_Hour_3_ret {N : Nat} {S : Nat → Prop} {L : List HP} {h : Heap} (hs : St S L h) {p0_i : Int} (h_p0_i : inI64 p0_i) {v_c1_ : Value} {c1_ : GHull} (h_c1_ : Pt S h RGHull v_c1_ c1_) {r : Int} (E : f_harm_Hour_3 N c1_ p0_i = some r) :
    Ret Try.prog 19 #[.int .i64 p0_i, v_c1_] S h (fun v S' h' => v = .int .i64 r ∧ inI64 r ∧ St S' (L) h') := by
  refine Ret.go (l := [.int .i64 p0_i, v_c1_]) 10 Try.func19 rfl Try.ntmps19 rfl fun B => ?_
  rw [f_harm_Hour_3] at E
  refine WF.seq ?_
  refine WF.rp (.inl rfl) ?_
  refine QF.as_ rfl rfl ?_
  refine QF.rpn (sb 3 rfl (sb 0 rfl (sb 1 rfl sb0))) ?_
  refine WF.seq ?_
  refine WF.rp (.inl rfl) ?_
  refine QF.fa rfl h_c1_ GHull.f_Vol fa_54_1 rfl fun q1 k2 => ?_
  refine QF.ldl ckP hs.1 rfl k2 ty_50 rfl fun v3 k4 => ?_
  refine QF.mv rfl rfl ?_
  obtain ⟨x5, hx5, E⟩ := bd E
  refine QF.ixe rfl rfl k4 sl_50 hx5 rfl fun q6 k7 => ?_
  refine QF.fa rfl k7 GSpan.f_Lo fa_56_0 rfl fun q8 k9 => ?_
  refine QF.ldi ckP hs.1 rfl k9 ty_3 rfl fun r10 => ?_
  refine QF.as_ rfl rfl ?_
  refine QF.rpn (sb 3 rfl sb0) ?_
  refine WF.ret (fun aa ww hf hw => ?_)
  cases E
  exact rtg hf rfl hw (rvc (rvT hf (v := _) rfl) rv0) rfl (Ext.refl S h) ⟨rfl, r10, hs⟩

set_option maxRecDepth 10000 in
set_option maxHeartbeats 2000000 in
theorem harm_Hour_ret {N : Nat} {S : Nat → Prop} {L : List HP} {h : Heap} (hs : St S L h) {v_p0_b : Value} {p0_b : GBasin} (h_p0_b : Rd S h RGBasin v_p0_b p0_b) {v_p1_h0 : Value} {p1_h0 : GHull} (h_p1_h0 : Rd S h RGHull v_p1_h0 p1_h0) {v_p2_h1 : Value} {p2_h1 : GHull} (h_p2_h1 : Rd S h RGHull v_p2_h1 p2_h1) {v_p3_peaks : Value} {p3_peaks : (List GSpan)} (h_p3_peaks : Sl S h RGSpan v_p3_peaks p3_peaks) {v_p4_spills : Value} {p4_spills : (List GSpan)} (h_p4_spills : Sl S h RGSpan v_p4_spills p4_spills) {r : GHarm} (E : f_harm_Hour N p0_b p1_h0 p2_h1 p3_peaks p4_spills = some r) :
    Ret Try.prog 9 #[v_p0_b, v_p1_h0, v_p2_h1, v_p3_peaks, v_p4_spills] S h (fun v S' h' => v = .agg #[.int .i64 r.Flood, .int .i64 r.Spill, .int .i64 r.Short, .int .i64 r.Moves] ∧ GHarm.ok r ∧ St S' (L) h') := by
  refine Ret.go (l := [v_p0_b, v_p1_h0, v_p2_h1, v_p3_peaks, v_p4_spills]) 57 Try.func9 rfl Try.ntmps9 rfl fun B => ?_
  rw [f_harm_Hour] at E
  refine WF.seq ?_
  refine WF.rl ?_
  refine LF.boxp rfl h_p0_b (fun e => by cases e) rfl hs fun q1 S2 h3 hs4 e5 k6 => ?_
  have k7 := h_p1_h0.mono e5
  refine LF.boxp rfl k7 (fun e => by cases e) rfl hs4 fun q8 S9 h10 hs11 e12 k13 => ?_
  have k14 := h_p2_h1.mono (e5.trans e12)
  refine LF.boxp rfl k14 (fun e => by cases e) rfl hs11 fun q15 S16 h17 hs18 e19 k20 => ?_
  have k21 := h_p3_peaks.mono' (e5.trans (e12.trans e19))
  refine LF.boxp rfl (Rd.ofSl k21) (fun _ => rfl) rfl hs18 fun q22 S23 h24 hs25 e26 k27 => ?_
  have k28 := h_p4_spills.mono' (e5.trans (e12.trans (e19.trans e26)))
  refine LF.boxp rfl (Rd.ofSl k28) (fun _ => rfl) rfl hs25 fun q29 S30 h31 hs32 e33 k34 => ?_
  refine LF.al zc_25 rfl hs32 fun b35 h36 hs37 e38 => ?_
  refine LF.nil (sb 10 rfl (sb 9 rfl (sb 8 rfl (sb 7 rfl (sb 6 rfl (sb 5 rfl sb0)))))) ?_
  refine WF.seq ?_
  refine WF.rp (.inl rfl) ?_
  refine QF.as_ rfl rfl ?_
  refine QF.rpn (sb 11 rfl (sb 10 rfl (sb 9 rfl (sb 8 rfl (sb 7 rfl (sb 6 rfl (sb 5 rfl sb0))))))) ?_
  refine WF.seq ?_
  refine WF.seq ?_
  refine WF.rp (.inl rfl) ?_
  have k39 := k13.mono (e19.trans (e26.trans (e33.trans e38)))
  refine QF.fa rfl k39 GHull.f_Links fa_54_3 rfl fun q40 k41 => ?_
  refine QF.ldl ckP hs37.1 rfl k41 ty_52 rfl fun v42 k43 => ?_
  refine QF.len rfl k43 sl_52 rfl fun b44 => ?_
  unfold maxLen at b44
  have k45 := k20.mono (e26.trans (e33.trans e38))
  refine QF.fa rfl k45 GHull.f_Links fa_54_3 rfl fun q46 k47 => ?_
  refine QF.ldl ckP hs37.1 rfl k47 ty_52 rfl fun v48 k49 => ?_
  refine QF.len rfl k49 sl_52 rfl fun b50 => ?_
  unfold maxLen at b50
  refine QF.min rfl rfl rfl ?_
  refine QF.mv rfl rfl ?_
  refine QF.rpn (sb 20 rfl (sb 19 rfl (sb 11 rfl (sb 10 rfl (sb 9 rfl (sb 8 rfl (sb 7 rfl (sb 6 rfl (sb 5 rfl sb0))))))))) ?_
  refine WF.blockJ (fun a w => ∃ (i51 : Int) (S' : Nat → Prop) (h' : Heap), Fr 57 a [(10, .pointer (some ⟨b35, 0, none⟩)), (9, q29), (8, q22), (7, q15), (5, q1), (11, .int .i64 i51)] ∧ Wd B h' w ∧ St S' (Bx b35 25 [.int .i64 0, .int .i64 0, .int .i64 0, .int .i64 0] :: L) h' ∧ Ext S30 h36 S' h' ∧ inI64 i51 ∧ f_harm_Hour_j0 N p0_b p2_h1 p3_peaks p4_spills i51 = some r) ?_ ?_
  · skip
    refine WF.loopF (fun n1 => fun a w => ∃ (i57 : Int) (i59 : Int) (S' : Nat → Prop) (h' : Heap), Fr 57 a [(19, .int .i64 (min (↑p1_h0.Links.length : Int) (↑p2_h1.Links.length : Int))), (10, .pointer (some ⟨b35, 0, none⟩)), (9, q29), (8, q22), (7, q15), (6, q8), (5, q1), (11, .int .i64 i57), (20, .int .i64 i59)] ∧ Wd B h' w ∧ St S' (Bx b35 25 [.int .i64 0, .int .i64 0, .int .i64 0, .int .i64 0] :: L) h' ∧ Ext S30 h36 S' h' ∧ inI64 i57 ∧ inI64 i59 ∧ f_harm_Hour_l1 N p1_h0 p2_h1 (f_harm_Hour_j0 N p0_b p2_h1 p3_peaks p4_spills) n1 i57 i59 = some r) N ?_ ?_ ?_
    · intro aa ww hf hw
      exact ⟨0, 0, _, _, hf.sub (sb 19 rfl (sb 10 rfl (sb 9 rfl (sb 8 rfl (sb 7 rfl (sb 6 rfl (sb 5 rfl (sb 11 rfl (sb 20 rfl sb0))))))))), hw, hs37, (Ext.refl S30 h36), (show inI64 0 by unfold inI64; omega), (show inI64 0 by unfold inI64; omega), E⟩
    · rintro aa ww ⟨_, _, _, _, _, _, _, _, _, _, E⟩
      rw [f_harm_Hour_l1] at E; cases E
    · skip
      rintro n1 aa ww ⟨i57, i59, S61, h62, hf, hw, hs63, e64, r58, r60, E⟩
      refine WF.run ?_ hf hw
      clear hf hw ww aa
      rw [f_harm_Hour_l1] at E
      refine WF.seq ?_
      refine WF.rp (.inl rfl) ?_
      refine QF.lss rfl rfl rfl ?_
      refine QF.rpn (sb 21 rfl (sb 19 rfl (sb 10 rfl (sb 9 rfl (sb 8 rfl (sb 7 rfl (sb 6 rfl (sb 5 rfl (sb 11 rfl (sb 20 rfl sb0)))))))))) ?_
      refine WF.seq ?_
      refine WF.if_ rfl (fun c65 => ?_) (fun c65 => ?_)
      · skip
        have E := cdT c65 E
        refine WF.skip ?_
        refine WF.seq ?_
        refine WF.block ?_
        refine WF.seq ?_
        refine WF.rp (.inl rfl) ?_
        refine QF.mv rfl rfl ?_
        refine QF.as_ rfl rfl ?_
        refine QF.rpn (sb 12 rfl (sb 22 rfl (sb 21 rfl (sb 19 rfl (sb 10 rfl (sb 9 rfl (sb 8 rfl (sb 7 rfl (sb 6 rfl (sb 5 rfl (sb 11 rfl (sb 20 rfl sb0)))))))))))) ?_
        refine WF.rc (.inr ⟨mo, by kernel_rfl⟩) hs63 ?_
        refine QF.mv rfl rfl ?_
        have k66 := k39.mono e64
        refine QF.fa rfl k66 GHull.f_Links fa_54_3 rfl fun q67 k68 => ?_
        refine QF.ldl ckC hs63.1 rfl k68 ty_52 rfl fun v69 k70 => ?_
        refine QF.mv rfl rfl ?_
        obtain ⟨x71, hx71, E⟩ := bd E
        refine QF.ixe rfl rfl k70 sl_52 hx71 rfl fun q72 k73 => ?_
        refine QF.fa rfl k73 GKnown.f_Pos fa_61_0 rfl fun q74 k75 => ?_
        refine QF.ld ckC hs63.1 rfl k75 ty_56 (fun e => by cases e) rfl fun v76 k77 => ?_
        have k78 := k45.mono e64
        refine QF.fa rfl k78 GHull.f_Links fa_54_3 rfl fun q79 k80 => ?_
        refine QF.ldl ckC hs63.1 rfl k80 ty_52 rfl fun v81 k82 => ?_
        refine QF.mv rfl rfl ?_
        obtain ⟨x83, hx83, E⟩ := bd E
        refine QF.ixe rfl rfl k82 sl_52 hx83 rfl fun q84 k85 => ?_
        refine QF.fa rfl k85 GKnown.f_Pos fa_61_0 rfl fun q86 k87 => ?_
        refine QF.ld ckC hs63.1 rfl k87 ty_56 (fun e => by cases e) rfl fun v88 k89 => ?_
        obtain ⟨y90, hy90, E⟩ := bd E
        refine QF.callp (v := .int .i64 y90) (Ψ := inI64 y90) rfl rfl rfl ca_13 rfl (fun h' o => (harm_moved_ret (St.all h') (k77.mono (o.all hs63.1)) (k89.mono (o.all hs63.1)) hy90).mono fun _ _ _ _ p => ⟨p.1, p.2.1⟩) fun r91 => ?_
        have r92 := r91
        obtain ⟨y93, hy93, E⟩ := bd E
        refine QF.callp (v := .int .i64 y93) (Ψ := inI64 y93) rfl rfl rfl ca_12 rfl (fun h' o => (exact_Add_ret (St.all h') r58 r92 hy93).mono fun _ _ _ _ p => ⟨p.1, p.2.1⟩) fun r94 => ?_
        have r95 := r94
        refine QF.as_ rfl rfl ?_
        refine QF.rcn (sb 11 rfl (sb 37 rfl (sb 36 rfl (sb 35 rfl (sb 34 rfl (sb 33 rfl (sb 32 rfl (sb 31 rfl (sb 30 rfl (sb 29 rfl (sb 28 rfl (sb 27 rfl (sb 26 rfl (sb 25 rfl (sb 24 rfl (sb 23 rfl (sb 12 rfl (sb 22 rfl (sb 21 rfl (sb 19 rfl (sb 10 rfl (sb 9 rfl (sb 8 rfl (sb 7 rfl (sb 6 rfl (sb 5 rfl (sb 20 rfl sb0))))))))))))))))))))))))))) fun h96 hs97 e98 => ?_
        refine WF.nilW ?_
        refine WF.rp (.inl rfl) ?_
        refine QF.addw rfl rfl rfl ?_
        refine QF.mv rfl rfl ?_
        refine QF.rpn (sb 20 rfl (sb 38 rfl (sb 11 rfl (sb 37 rfl (sb 36 rfl (sb 35 rfl (sb 34 rfl (sb 33 rfl (sb 32 rfl (sb 31 rfl (sb 30 rfl (sb 29 rfl (sb 28 rfl (sb 27 rfl (sb 26 rfl (sb 25 rfl (sb 24 rfl (sb 23 rfl (sb 12 rfl (sb 22 rfl (sb 21 rfl (sb 19 rfl (sb 10 rfl (sb 9 rfl (sb 8 rfl (sb 7 rfl (sb 6 rfl (sb 5 rfl sb0)))))))))))))))))))))))))))) ?_
        refine WF.nil (fun aa ww hf hw => ?_)
        exact ⟨y93, (w64 (i59 + 1)), _, _, hf.sub (sb 19 rfl (sb 10 rfl (sb 9 rfl (sb 8 rfl (sb 7 rfl (sb 6 rfl (sb 5 rfl (sb 11 rfl (sb 20 rfl sb0))))))))), hw, hs97, (e64.trans e98), r95, (w64_i _), E⟩
      · skip
        have E := cdF c65 E
        refine WF.exit rfl (fun aa ww hf hw => ?_)
        exact ⟨i57, _, _, hf.sub (sb 10 rfl (sb 9 rfl (sb 8 rfl (sb 7 rfl (sb 5 rfl (sb 11 rfl sb0)))))), hw, hs63, e64, r58, E⟩
  · skip
    rintro aa ww ⟨i51, S99, h100, hf, hw, hs101, e102, r52, E⟩
    refine WF.run ?_ hf hw
    clear hf hw ww aa
    rw [f_harm_Hour_j0] at E
    refine WF.seq ?_
    refine WF.rct 18 mo (by kernel_rfl) rfl hs101 ?_
    have k103 := k6.mono (e12.trans (e19.trans (e26.trans (e33.trans (e38.trans e102)))))
    refine QF.ld ckC hs101.1 rfl k103 ty_48 (fun e => by cases e) rfl fun v104 k105 => ?_
    have k106 := k27.mono (e33.trans (e38.trans e102))
    refine QF.ldl ckC hs101.1 rfl k106 ty_50 rfl fun v107 k108 => ?_
    refine QF.len rfl k108 sl_50 rfl fun b109 => ?_
    unfold maxLen at b109
    refine QF.mkf rfl rfl rfl ?_
    have kf110 : Rd S99 h100 (Rep.fn Try.prog (fun x : Int => ([.int .i64 x] : List Value)) (fun x : Int => inI64 x) (fun y : Int => .int .i64 y) (fun y : Int => inI64 y)) (.func (.func 15) #[] #[q22]) (fun x => f_harm_Hour_1 N p3_peaks x) := Rd.ofFn 15 #[q22] ca_15 fun S' h' s' e' L hs x y h1 h2 => (harm_Hour_1_ret hs h1 (k106.mono'' s' e') h2).mono fun _ _ _ _ p => p
    obtain ⟨y111, hy111, E⟩ := bd E
    refine QF.callp (v := .int .i64 y111) (Ψ := inI64 y111) rfl rfl rfl ca_14 rfl (fun h' o => (harm_flooded_ret (St.all h') (k105.mono (o.all hs101.1)) (by unfold inI64; omega) (kf110.mono (o.all hs101.1)) hy111).mono fun _ _ _ _ p => ⟨p.1, p.2.1⟩) fun r112 => ?_
    have r113 := r112
    refine QF.ld ckC hs101.1 rfl k103 ty_48 (fun e => by cases e) rfl fun v114 k115 => ?_
    have k116 := k34.mono (e38.trans e102)
    refine QF.ldl ckC hs101.1 rfl k116 ty_50 rfl fun v117 k118 => ?_
    refine QF.len rfl k118 sl_50 rfl fun b119 => ?_
    unfold maxLen at b119
    refine QF.mkf rfl rfl rfl ?_
    have kf120 : Rd S99 h100 (Rep.fn Try.prog (fun x : Int => ([.int .i64 x] : List Value)) (fun x : Int => inI64 x) (fun y : Int => .int .i64 y) (fun y : Int => inI64 y)) (.func (.func 17) #[] #[q29]) (fun x => f_harm_Hour_2 N p4_spills x) := Rd.ofFn 17 #[q29] ca_17 fun S' h' s' e' L hs x y h1 h2 => (harm_Hour_2_ret hs h1 (k116.mono'' s' e') h2).mono fun _ _ _ _ p => p
    obtain ⟨y121, hy121, E⟩ := bd E
    refine QF.callp (v := .int .i64 y121) (Ψ := inI64 y121) rfl rfl rfl ca_16 rfl (fun h' o => (harm_spilling_ret (St.all h') (k115.mono (o.all hs101.1)) (by unfold inI64; omega) (kf120.mono (o.all hs101.1)) hy121).mono fun _ _ _ _ p => ⟨p.1, p.2.1⟩) fun r122 => ?_
    have r123 := r122
    refine QF.ld ckC hs101.1 rfl k103 ty_48 (fun e => by cases e) rfl fun v124 k125 => ?_
    have k126 := k45.mono e102
    refine QF.fa rfl k126 GHull.f_Vol fa_54_1 rfl fun q127 k128 => ?_
    refine QF.ldl ckC hs101.1 rfl k128 ty_50 rfl fun v129 k130 => ?_
    refine QF.len rfl k130 sl_50 rfl fun b131 => ?_
    unfold maxLen at b131
    refine QF.mkf rfl rfl rfl ?_
    have kf132 : Rd S99 h100 (Rep.fn Try.prog (fun x : Int => ([.int .i64 x] : List Value)) (fun x : Int => inI64 x) (fun y : Int => .int .i64 y) (fun y : Int => inI64 y)) (.func (.func 19) #[] #[q15]) (fun x => f_harm_Hour_3 N p2_h1 x) := Rd.ofFn 19 #[q15] ca_19 fun S' h' s' e' L hs x y h1 h2 => (harm_Hour_3_ret hs h1 (k126.mono'' s' e') h2).mono fun _ _ _ _ p => p
    obtain ⟨y133, hy133, E⟩ := bd E
    refine QF.callp (v := .int .i64 y133) (Ψ := inI64 y133) rfl rfl rfl ca_18 rfl (fun h' o => (harm_missing_ret (St.all h') (k125.mono (o.all hs101.1)) (by unfold inI64; omega) (kf132.mono (o.all hs101.1)) hy133).mono fun _ _ _ _ p => ⟨p.1, p.2.1⟩) fun r134 => ?_
    have r135 := r134
    refine QF.mv rfl rfl ?_
    refine QF.bld (cs := [.int .i64 y111, .int .i64 y121, .int .i64 y133, .int .i64 i51]) st_25 rfl rfl rfl ?_
    refine QF.rctn fun h136 hs137 e138 => ?_
    refine LF.st (vs := [.int .i64 y111, .int .i64 y121, .int .i64 y133, .int .i64 i51]) (cs' := [.int .i64 y111, .int .i64 y121, .int .i64 y133, .int .i64 i51]) rfl rfl rfl (by simp [Value.oneCell']) ty_25 rfl hs137 .head rfl rfl fun h139 hs140 e141 => ?_
    refine LF.nil (sb 10 rfl sb0) ?_
    refine WF.ret (fun aa ww hf hw => ?_)
    have hs142 := hs140.drop .head
    cases E
    exact rtg hf rfl hw (rvc (rvC hf hw hs140 rfl mh ty_25 rfl) rv0) rfl (e5.trans (e12.trans (e19.trans (e26.trans (e33.trans (e38.trans (e102.trans (e138.trans e141)))))))) ⟨rfl, ⟨r113, r123, r135, r52⟩, hs142⟩

end Go.Proofs.Ytkbooafdccnkeaa
