/- Walks, part 1. By program. -/
import Derived.Test.YtkbooafdccnkeaaWalk0
namespace Go.Proofs.Ytkbooafdccnkeaa
open Go.RowKit
set_option linter.unusedVariables false
set_option linter.unusedSimpArgs false

set_option maxRecDepth 10000 in
set_option maxHeartbeats 2000000 in
theorem cmp_isNaN_int_ret {N : Nat} {S : Nat → Prop} {L : List HP} {h : Heap} (hs : St S L h) {p0_x : Int} (h_p0_x : inI64 p0_x) {r : Bool} (E : f_cmp_isNaN_int N p0_x = some r) :
    Ret Try.prog 20 #[.int .i64 p0_x] S h (fun v S' h' => v = .bool r ∧ St S' (L) h') := by
  refine Ret.go (l := [.int .i64 p0_x]) 6 Try.func20 rfl Try.ntmps20 rfl fun B => ?_
  rw [f_cmp_isNaN_int] at E
  refine WF.seq ?_
  refine WF.rp (.inl rfl) ?_
  refine QF.as_ rfl rfl ?_
  refine QF.rpn (sb 2 rfl (sb 0 rfl sb0)) ?_
  refine WF.seq ?_
  refine WF.rp (.inl rfl) ?_
  refine QF.mv rfl rfl ?_
  refine QF.mv rfl rfl ?_
  refine QF.neq rfl rfl rfl ?_
  refine QF.as_ rfl rfl ?_
  refine QF.rpn (sb 2 rfl sb0) ?_
  refine WF.ret (fun aa ww hf hw => ?_)
  cases E
  exact rtg hf rfl hw (rvc (rvT hf (v := _) rfl) rv0) rfl (Ext.refl S h) ⟨rfl, hs⟩

set_option maxRecDepth 10000 in
set_option maxHeartbeats 2000000 in
theorem cmp_Compare_int_ret {N : Nat} {S : Nat → Prop} {L : List HP} {h : Heap} (hs : St S L h) {p0_x : Int} (h_p0_x : inI64 p0_x) {p1_y : Int} (h_p1_y : inI64 p1_y) {r : Int} (E : f_cmp_Compare_int N p0_x p1_y = some r) :
    Ret Try.prog 11 #[.int .i64 p0_x, .int .i64 p1_y] S h (fun v S' h' => v = .int .i64 r ∧ inI64 r ∧ St S' (L) h') := by
  refine Ret.go (l := [.int .i64 p0_x, .int .i64 p1_y]) 20 Try.func11 rfl Try.ntmps11 rfl fun B => ?_
  rw [f_cmp_Compare_int] at E
  refine WF.seq ?_
  refine WF.rp (.inl rfl) ?_
  refine QF.as_ rfl rfl ?_
  refine QF.rpn (sb 4 rfl (sb 0 rfl (sb 1 rfl sb0))) ?_
  refine WF.seq ?_
  refine WF.rc (.inl rfl) hs ?_
  refine QF.mv rfl rfl ?_
  obtain ⟨y1, hy1, E⟩ := bd E
  refine QF.callp (v := .bool y1) (Ψ := True) rfl rfl rfl ca_20 rfl (fun h' o => (cmp_isNaN_int_ret (St.all h') h_p0_x hy1).mono fun _ _ _ _ p => ⟨p.1, trivial⟩) fun r2 => ?_
  refine QF.as_ rfl rfl ?_
  refine QF.rcn (sb 5 rfl (sb 4 rfl (sb 0 rfl (sb 1 rfl sb0)))) fun h3 hs4 e5 => ?_
  refine WF.seq ?_
  refine WF.rc (.inl rfl) hs4 ?_
  refine QF.mv rfl rfl ?_
  obtain ⟨y6, hy6, E⟩ := bd E
  refine QF.callp (v := .bool y6) (Ψ := True) rfl rfl rfl ca_20 rfl (fun h' o => (cmp_isNaN_int_ret (St.all h') h_p1_y hy6).mono fun _ _ _ _ p => ⟨p.1, trivial⟩) fun r7 => ?_
  refine QF.as_ rfl rfl ?_
  refine QF.rcn (sb 6 rfl (sb 5 rfl (sb 4 rfl (sb 0 rfl (sb 1 rfl sb0))))) fun h8 hs9 e10 => ?_
  refine WF.seq ?_
  refine WF.seq ?_
  refine WF.rp (.inl rfl) ?_
  refine QF.mv rfl rfl ?_
  refine QF.rpn (sb 11 rfl (sb 6 rfl (sb 4 rfl (sb 0 rfl (sb 1 rfl sb0))))) ?_
  refine WF.if_ rfl (fun c11 => ?_) (fun c11 => ?_)
  · skip
    have E := cdT c11 E
    refine WF.seq ?_
    refine WF.seq ?_
    refine WF.rp (.inl rfl) ?_
    refine QF.mv rfl rfl ?_
    refine QF.rpn (sb 12 rfl (sb 6 rfl (sb 4 rfl (sb 0 rfl (sb 1 rfl sb0))))) ?_
    refine WF.if_ rfl (fun c12 => ?_) (fun c12 => ?_)
    · skip
      have E := cdT c12 E
      refine WF.seq ?_
      refine WF.rp (.inl rfl) ?_
      refine QF.as_ rfl rfl ?_
      refine QF.rpn (sb 4 rfl (sb 6 rfl (sb 0 rfl (sb 1 rfl sb0)))) ?_
      refine WF.ret (fun aa ww hf hw => ?_)
      cases E
      exact rtg hf rfl hw (rvc (rvT hf (v := _) rfl) rv0) rfl (e5.trans e10) ⟨rfl, (show inI64 0 by unfold inI64; omega), hs9⟩
    · skip
      have E := cdF c12 E
      refine WF.skip ?_
      refine WF.seq ?_
      refine WF.rp (.inl rfl) ?_
      refine QF.as_ rfl rfl ?_
      refine QF.rpn (sb 4 rfl (sb 6 rfl (sb 0 rfl (sb 1 rfl sb0)))) ?_
      refine WF.ret (fun aa ww hf hw => ?_)
      cases E
      exact rtg hf rfl hw (rvc (rvT hf (v := _) rfl) rv0) rfl (e5.trans e10) ⟨rfl, (show inI64 (-1) by unfold inI64; omega), hs9⟩
  · skip
    have E := cdF c11 E
    refine WF.skip ?_
    refine WF.seq ?_
    refine WF.seq ?_
    refine WF.rp (.inl rfl) ?_
    refine QF.mv rfl rfl ?_
    refine QF.rpn (sb 13 rfl (sb 4 rfl (sb 0 rfl (sb 1 rfl sb0)))) ?_
    refine WF.if_ rfl (fun c13 => ?_) (fun c13 => ?_)
    · skip
      have E := cdT c13 E
      refine WF.seq ?_
      refine WF.rp (.inl rfl) ?_
      refine QF.as_ rfl rfl ?_
      refine QF.rpn (sb 4 rfl (sb 0 rfl (sb 1 rfl sb0))) ?_
      refine WF.ret (fun aa ww hf hw => ?_)
      cases E
      exact rtg hf rfl hw (rvc (rvT hf (v := _) rfl) rv0) rfl (e5.trans e10) ⟨rfl, (show inI64 1 by unfold inI64; omega), hs9⟩
    · skip
      have E := cdF c13 E
      refine WF.skip ?_
      refine WF.seq ?_
      refine WF.seq ?_
      refine WF.rp (.inl rfl) ?_
      refine QF.mv rfl rfl ?_
      refine QF.mv rfl rfl ?_
      refine QF.lss rfl rfl rfl ?_
      refine QF.rpn (sb 16 rfl (sb 4 rfl (sb 0 rfl (sb 1 rfl sb0)))) ?_
      refine WF.if_ rfl (fun c14 => ?_) (fun c14 => ?_)
      · skip
        have E := cdT c14 E
        refine WF.seq ?_
        refine WF.rp (.inl rfl) ?_
        refine QF.as_ rfl rfl ?_
        refine QF.rpn (sb 4 rfl (sb 0 rfl (sb 1 rfl sb0))) ?_
        refine WF.ret (fun aa ww hf hw => ?_)
        cases E
        exact rtg hf rfl hw (rvc (rvT hf (v := _) rfl) rv0) rfl (e5.trans e10) ⟨rfl, (show inI64 (-1) by unfold inI64; omega), hs9⟩
      · skip
        have E := cdF c14 E
        refine WF.skip ?_
        refine WF.seq ?_
        refine WF.seq ?_
        refine WF.rp (.inl rfl) ?_
        refine QF.mv rfl rfl ?_
        refine QF.mv rfl rfl ?_
        refine QF.gtr rfl rfl rfl ?_
        refine QF.rpn (sb 19 rfl (sb 4 rfl sb0)) ?_
        refine WF.if_ rfl (fun c15 => ?_) (fun c15 => ?_)
        · skip
          have E := cdT c15 E
          refine WF.seq ?_
          refine WF.rp (.inl rfl) ?_
          refine QF.as_ rfl rfl ?_
          refine QF.rpn (sb 4 rfl sb0) ?_
          refine WF.ret (fun aa ww hf hw => ?_)
          cases E
          exact rtg hf rfl hw (rvc (rvT hf (v := _) rfl) rv0) rfl (e5.trans e10) ⟨rfl, (show inI64 1 by unfold inI64; omega), hs9⟩
        · skip
          have E := cdF c15 E
          refine WF.skip ?_
          refine WF.seq ?_
          refine WF.rp (.inl rfl) ?_
          refine QF.as_ rfl rfl ?_
          refine QF.rpn (sb 4 rfl sb0) ?_
          refine WF.ret (fun aa ww hf hw => ?_)
          cases E
          exact rtg hf rfl hw (rvc (rvT hf (v := _) rfl) rv0) rfl (e5.trans e10) ⟨rfl, (show inI64 0 by unfold inI64; omega), hs9⟩

set_option maxRecDepth 10000 in
set_option maxHeartbeats 2000000 in
theorem cmp_Or_int_ret {N : Nat} {S : Nat → Prop} {L : List HP} {h : Heap} (hs : St S L h) {v_p0_vals : Value} {p0_vals : (List Int)} (h_p0_vals : Sl S h Rep.int v_p0_vals p0_vals) {r : Int} (E : f_cmp_Or_int N p0_vals = some r) :
    Ret Try.prog 10 #[v_p0_vals] S h (fun v S' h' => v = .int .i64 r ∧ inI64 r ∧ St S' (L) h') := by
  refine Ret.go (l := [v_p0_vals]) 18 Try.func10 rfl Try.ntmps10 rfl fun B => ?_
  rw [f_cmp_Or_int] at E
  refine WF.seq ?_
  refine WF.rp (.inl rfl) ?_
  refine QF.as_ rfl rfl ?_
  refine QF.rpn (sb 2 rfl (sb 0 rfl sb0)) ?_
  refine WF.seq ?_
  refine WF.rp (.inl rfl) ?_
  refine QF.as_ rfl rfl ?_
  refine QF.rpn (sb 3 rfl (sb 2 rfl (sb 0 rfl sb0))) ?_
  refine WF.seq ?_
  refine WF.seq ?_
  refine WF.rp (.inl rfl) ?_
  refine QF.mv rfl rfl ?_
  refine QF.len rfl h_p0_vals sl_29 rfl fun b1 => ?_
  unfold maxLen at b1
  refine QF.mv rfl rfl ?_
  refine QF.rpn (sb 8 rfl (sb 7 rfl (sb 6 rfl (sb 3 rfl (sb 2 rfl sb0))))) ?_
  refine WF.blockJ (fun a w => ∃ (S' : Nat → Prop) (h' : Heap), Fr 18 a [(3, .int .i64 0), (2, .int .i64 0)] ∧ Wd B h' w ∧ St S' (L) h' ∧ Ext S h S' h' ∧ f_cmp_Or_int_j0 N = some r) ?_ ?_
  · skip
    refine WF.loopF (fun n1 => fun a w => ∃ (i4 : Int) (S' : Nat → Prop) (h' : Heap), Fr 18 a [(7, .int .i64 (↑p0_vals.length : Int)), (6, v_p0_vals), (3, .int .i64 0), (2, .int .i64 0), (8, .int .i64 i4)] ∧ Wd B h' w ∧ St S' (L) h' ∧ Ext S h S' h' ∧ inI64 i4 ∧ f_cmp_Or_int_l1 N p0_vals (f_cmp_Or_int_j0 N) n1 i4 = some r) N ?_ ?_ ?_
    · intro aa ww hf hw
      exact ⟨0, _, _, hf.sub (sb 7 rfl (sb 6 rfl (sb 3 rfl (sb 2 rfl (sb 8 rfl sb0))))), hw, hs, (Ext.refl S h), (show inI64 0 by unfold inI64; omega), E⟩
    · rintro aa ww ⟨_, _, _, _, _, _, _, _, E⟩
      rw [f_cmp_Or_int_l1] at E; cases E
    · skip
      rintro n1 aa ww ⟨i4, S6, h7, hf, hw, hs8, e9, r5, E⟩
      refine WF.run ?_ hf hw
      clear hf hw ww aa
      rw [f_cmp_Or_int_l1] at E
      refine WF.seq ?_
      refine WF.rp (.inl rfl) ?_
      refine QF.lss rfl rfl rfl ?_
      refine QF.rpn (sb 9 rfl (sb 7 rfl (sb 6 rfl (sb 3 rfl (sb 2 rfl (sb 8 rfl sb0)))))) ?_
      refine WF.seq ?_
      refine WF.if_ rfl (fun c10 => ?_) (fun c10 => ?_)
      · skip
        have E := cdT c10 E
        refine WF.skip ?_
        refine WF.seq ?_
        refine WF.block ?_
        refine WF.seq ?_
        refine WF.rp (.inl rfl) ?_
        have k11 := h_p0_vals.mono' e9
        obtain ⟨x12, hx12, E⟩ := bd E
        refine QF.ixe rfl rfl k11 sl_29 hx12 rfl fun q13 k14 => ?_
        refine QF.ldi ckP hs8.1 rfl k14 ty_3 rfl fun r15 => ?_
        refine QF.as_ rfl rfl ?_
        refine QF.rpn (sb 5 rfl (sb 11 rfl (sb 10 rfl (sb 9 rfl (sb 7 rfl (sb 6 rfl (sb 3 rfl (sb 2 rfl (sb 8 rfl sb0))))))))) ?_
        refine WF.seq ?_
        refine WF.rp (.inl rfl) ?_
        refine QF.mv rfl rfl ?_
        refine QF.mv rfl rfl ?_
        refine QF.neq rfl rfl rfl ?_
        refine QF.rpn (sb 14 rfl (sb 13 rfl (sb 12 rfl (sb 5 rfl (sb 11 rfl (sb 10 rfl (sb 9 rfl (sb 7 rfl (sb 6 rfl (sb 3 rfl (sb 2 rfl (sb 8 rfl sb0)))))))))))) ?_
        refine WF.if_ rfl (fun c16 => ?_) (fun c16 => ?_)
        · skip
          have E := cdT c16 E
          refine WF.seq ?_
          refine WF.rp (.inl rfl) ?_
          refine QF.mv rfl rfl ?_
          refine QF.as_ rfl rfl ?_
          refine QF.rpn (sb 2 rfl (sb 15 rfl (sb 14 rfl (sb 13 rfl (sb 12 rfl (sb 5 rfl (sb 11 rfl (sb 10 rfl (sb 9 rfl (sb 7 rfl (sb 6 rfl (sb 3 rfl (sb 8 rfl sb0))))))))))))) ?_
          refine WF.ret (fun aa ww hf hw => ?_)
          cases E
          exact rtg hf rfl hw (rvc (rvT hf (v := _) rfl) rv0) rfl e9 ⟨rfl, r15, hs8⟩
        · skip
          have E := cdF c16 E
          refine WF.skip ?_
          refine WF.nilW ?_
          refine WF.rp (.inl rfl) ?_
          refine QF.addw rfl rfl rfl ?_
          refine QF.mv rfl rfl ?_
          refine QF.rpn (sb 8 rfl (sb 16 rfl (sb 14 rfl (sb 13 rfl (sb 12 rfl (sb 5 rfl (sb 11 rfl (sb 10 rfl (sb 9 rfl (sb 7 rfl (sb 6 rfl (sb 3 rfl (sb 2 rfl sb0))))))))))))) ?_
          refine WF.nil (fun aa ww hf hw => ?_)
          exact ⟨(w64 (i4 + 1)), _, _, hf.sub (sb 7 rfl (sb 6 rfl (sb 3 rfl (sb 2 rfl (sb 8 rfl sb0))))), hw, hs8, e9, (w64_i _), E⟩
      · skip
        have E := cdF c10 E
        refine WF.exit rfl (fun aa ww hf hw => ?_)
        exact ⟨_, _, hf.sub (sb 3 rfl (sb 2 rfl sb0)), hw, hs8, e9, E⟩
  · skip
    rintro aa ww ⟨S17, h18, hf, hw, hs19, e20, E⟩
    refine WF.run ?_ hf hw
    clear hf hw ww aa
    rw [f_cmp_Or_int_j0] at E
    refine WF.seq ?_
    refine WF.rp (.inl rfl) ?_
    refine QF.mv rfl rfl ?_
    refine QF.as_ rfl rfl ?_
    refine QF.rpn (sb 2 rfl sb0) ?_
    refine WF.ret (fun aa ww hf hw => ?_)
    cases E
    exact rtg hf rfl hw (rvc (rvT hf (v := _) rfl) rv0) rfl e20 ⟨rfl, (show inI64 0 by unfold inI64; omega), hs19⟩

set_option maxRecDepth 10000 in
set_option maxHeartbeats 2000000 in
theorem harm_Less_ret {N : Nat} {S : Nat → Prop} {L : List HP} {h : Heap} (hs : St S L h) {v_p0_x : Value} {p0_x : GHarm} (h_p0_x : Rd S h RGHarm v_p0_x p0_x) {v_p1_y : Value} {p1_y : GHarm} (h_p1_y : Rd S h RGHarm v_p1_y p1_y) {r : Bool} (E : f_harm_Less N p0_x p1_y = some r) :
    Ret Try.prog 7 #[v_p0_x, v_p1_y] S h (fun v S' h' => v = .bool r ∧ St S' (L) h') := by
  refine Ret.go (l := [v_p0_x, v_p1_y]) 28 Try.func7 rfl Try.ntmps7 rfl fun B => ?_
  rw [f_harm_Less] at E
  refine WF.seq ?_
  refine WF.rl ?_
  refine LF.boxp rfl h_p0_x (fun e => by cases e) rfl hs fun q1 S2 h3 hs4 e5 k6 => ?_
  have k7 := h_p1_y.mono e5
  refine LF.boxp rfl k7 (fun e => by cases e) rfl hs4 fun q8 S9 h10 hs11 e12 k13 => ?_
  refine LF.q 1 ?_
  refine QF.as_ rfl rfl ?_
  refine QF.ln ?_
  refine LF.nil (sb 4 rfl (sb 3 rfl (sb 2 rfl sb0))) ?_
  refine WF.seq ?_
  obtain ⟨y21, hy21, E⟩ := bd E
  obtain ⟨y30, hy30, E⟩ := bd E
  obtain ⟨y39, hy39, E⟩ := bd E
  obtain ⟨y48, hy48, E⟩ := bd E
  obtain ⟨y60, hy60, E⟩ := bd E
  refine WF.ra (m := [(3, q8), (2, q1)]) 24 (fun i v hh => match i with | 0 => Pt (SN S9 h10 hh) hh Rep.int v p0_x.Flood | 1 => v = .int .i64 p0_x.Flood ∧ inI64 p0_x.Flood | 2 => Pt (SN S9 h10 hh) hh Rep.int v p1_y.Flood | 3 => v = .int .i64 p1_y.Flood ∧ inI64 p1_y.Flood | 4 => v = .int .i64 y21 ∧ inI64 y21 | 5 => Pt (SN S9 h10 hh) hh Rep.int v p0_x.Spill | 6 => v = .int .i64 p0_x.Spill ∧ inI64 p0_x.Spill | 7 => Pt (SN S9 h10 hh) hh Rep.int v p1_y.Spill | 8 => v = .int .i64 p1_y.Spill ∧ inI64 p1_y.Spill | 9 => v = .int .i64 y30 ∧ inI64 y30 | 10 => Pt (SN S9 h10 hh) hh Rep.int v p0_x.Short | 11 => v = .int .i64 p0_x.Short ∧ inI64 p0_x.Short | 12 => Pt (SN S9 h10 hh) hh Rep.int v p1_y.Short | 13 => v = .int .i64 p1_y.Short ∧ inI64 p1_y.Short | 14 => v = .int .i64 y39 ∧ inI64 y39 | 15 => Pt (SN S9 h10 hh) hh Rep.int v p0_x.Moves | 16 => v = .int .i64 p0_x.Moves ∧ inI64 p0_x.Moves | 17 => Pt (SN S9 h10 hh) hh Rep.int v p1_y.Moves | 18 => v = .int .i64 p1_y.Moves ∧ inI64 p1_y.Moves | 19 => v = .int .i64 y48 ∧ inI64 y48 | 20 => Sl (SN S9 h10 hh) hh Rep.int v ([y21, y30, y39, y48] : List Int) | 21 => v = .int .i64 y60 ∧ inI64 y60 | 22 => v = .bool (decide (y60 < 0)) | 23 => v = .bool (decide (y60 < 0)) | _ => False) [[], [(0, 5)], [], [(2, 7)], [(1, 6), (3, 8)], [], [(5, 10)], [], [(7, 12)], [(6, 11), (8, 13)], [], [(10, 15)], [], [(12, 17)], [(11, 16), (13, 18)], [], [(15, 20)], [], [(17, 22)], [(16, 21), (18, 23)], [(4, 9), (9, 14), (14, 19), (19, 24)], [(20, 25)], [(21, 26)], [(22, 27)]] [(23, 4)] mo (by kernel_rfl) [3, 2] rfl (by kernel_rfl) (by kernel_rfl) (by kernel_rfl) (sb 3 rfl (sb 2 rfl sb0)) (fun i v h1 h2 o1 o2 hr => ?_) ?_ ?_
  · match i, hr with
    | 0, hr => exact Pt2.mono hr (SN.mono hs11.1 o1 o2)
    | 1, hr => exact hr
    | 2, hr => exact Pt2.mono hr (SN.mono hs11.1 o1 o2)
    | 3, hr => exact hr
    | 4, hr => exact hr
    | 5, hr => exact Pt2.mono hr (SN.mono hs11.1 o1 o2)
    | 6, hr => exact hr
    | 7, hr => exact Pt2.mono hr (SN.mono hs11.1 o1 o2)
    | 8, hr => exact hr
    | 9, hr => exact hr
    | 10, hr => exact Pt2.mono hr (SN.mono hs11.1 o1 o2)
    | 11, hr => exact hr
    | 12, hr => exact Pt2.mono hr (SN.mono hs11.1 o1 o2)
    | 13, hr => exact hr
    | 14, hr => exact hr
    | 15, hr => exact Pt2.mono hr (SN.mono hs11.1 o1 o2)
    | 16, hr => exact hr
    | 17, hr => exact Pt2.mono hr (SN.mono hs11.1 o1 o2)
    | 18, hr => exact hr
    | 19, hr => exact hr
    | 20, hr => exact Sl.mono' hr (SN.mono hs11.1 o1 o2)
    | 21, hr => exact hr
    | 22, hr => exact hr
    | 23, hr => exact hr
    | _ + 24, hr => exact hr.elim
  · skip
    refine SAll.cons rfl ?_ ?_
    · intro mq hh o
      have hsN := SN.st hs11 o
      refine LF.q 1 ?_
      have k63 := k6.mono (e12.trans (SN.ext hs11.1 o))
      refine QF.fa rfl k63 GHarm.f_Flood fa_25_0 rfl fun q64 k65 => ?_
      refine QF.ln ?_
      exact LF.aend (Old.refl _) k65
    refine SAll.cons rfl ?_ ?_
    · intro mq hh o
      intro u66 f67
      have hsN := SN.st hs11 o
      have f67 : Pt _ _ Rep.int u66 p0_x.Flood := f67
      refine LF.q 1 ?_
      refine QF.ldi ckP hsN.1 rfl f67 ty_3 rfl fun r68 => ?_
      refine QF.ln ?_
      exact LF.aend (Old.refl _) ⟨rfl, r68⟩
    refine SAll.cons rfl ?_ ?_
    · intro mq hh o
      have hsN := SN.st hs11 o
      refine LF.q 1 ?_
      have k69 := k13.mono (SN.ext hs11.1 o)
      refine QF.fa rfl k69 GHarm.f_Flood fa_25_0 rfl fun q70 k71 => ?_
      refine QF.ln ?_
      exact LF.aend (Old.refl _) k71
    refine SAll.cons rfl ?_ ?_
    · intro mq hh o
      intro u72 f73
      have hsN := SN.st hs11 o
      have f73 : Pt _ _ Rep.int u72 p1_y.Flood := f73
      refine LF.q 1 ?_
      refine QF.ldi ckP hsN.1 rfl f73 ty_3 rfl fun r74 => ?_
      refine QF.ln ?_
      exact LF.aend (Old.refl _) ⟨rfl, r74⟩
    refine SAll.cons rfl ?_ ?_
    · intro mq hh o
      intro u75 f76 u77 f78
      have hsN := SN.st hs11 o
      obtain ⟨rfl, r79⟩ := f76
      obtain ⟨rfl, r80⟩ := f78
      refine LF.callb rfl rfl rfl ca_11 rfl hsN (cmp_Compare_int_ret (St.all _) r79 r80 hy21) fun v81 S82 h83 hs85 e84 e88 p => ?_
      obtain ⟨rfl, r86, hq87⟩ := p
      exact LF.aend ⟨e88.siz, fun b hb => e88.same b hb⟩ ⟨rfl, r86⟩
    refine SAll.cons rfl ?_ ?_
    · intro mq hh o
      have hsN := SN.st hs11 o
      refine LF.q 1 ?_
      have k89 := k6.mono (e12.trans (SN.ext hs11.1 o))
      refine QF.fa rfl k89 GHarm.f_Spill fa_25_1 rfl fun q90 k91 => ?_
      refine QF.ln ?_
      exact LF.aend (Old.refl _) k91
    refine SAll.cons rfl ?_ ?_
    · intro mq hh o
      intro u92 f93
      have hsN := SN.st hs11 o
      have f93 : Pt _ _ Rep.int u92 p0_x.Spill := f93
      refine LF.q 1 ?_
      refine QF.ldi ckP hsN.1 rfl f93 ty_3 rfl fun r94 => ?_
      refine QF.ln ?_
      exact LF.aend (Old.refl _) ⟨rfl, r94⟩
    refine SAll.cons rfl ?_ ?_
    · intro mq hh o
      have hsN := SN.st hs11 o
      refine LF.q 1 ?_
      have k95 := k13.mono (SN.ext hs11.1 o)
      refine QF.fa rfl k95 GHarm.f_Spill fa_25_1 rfl fun q96 k97 => ?_
      refine QF.ln ?_
      exact LF.aend (Old.refl _) k97
    refine SAll.cons rfl ?_ ?_
    · intro mq hh o
      intro u98 f99
      have hsN := SN.st hs11 o
      have f99 : Pt _ _ Rep.int u98 p1_y.Spill := f99
      refine LF.q 1 ?_
      refine QF.ldi ckP hsN.1 rfl f99 ty_3 rfl fun r100 => ?_
      refine QF.ln ?_
      exact LF.aend (Old.refl _) ⟨rfl, r100⟩
    refine SAll.cons rfl ?_ ?_
    · intro mq hh o
      intro u101 f102 u103 f104
      have hsN := SN.st hs11 o
      obtain ⟨rfl, r105⟩ := f102
      obtain ⟨rfl, r106⟩ := f104
      refine LF.callb rfl rfl rfl ca_11 rfl hsN (cmp_Compare_int_ret (St.all _) r105 r106 hy30) fun v107 S108 h109 hs111 e110 e114 p => ?_
      obtain ⟨rfl, r112, hq113⟩ := p
      exact LF.aend ⟨e114.siz, fun b hb => e114.same b hb⟩ ⟨rfl, r112⟩
    refine SAll.cons rfl ?_ ?_
    · intro mq hh o
      have hsN := SN.st hs11 o
      refine LF.q 1 ?_
      have k115 := k6.mono (e12.trans (SN.ext hs11.1 o))
      refine QF.fa rfl k115 GHarm.f_Short fa_25_2 rfl fun q116 k117 => ?_
      refine QF.ln ?_
      exact LF.aend (Old.refl _) k117
    refine SAll.cons rfl ?_ ?_
    · intro mq hh o
      intro u118 f119
      have hsN := SN.st hs11 o
      have f119 : Pt _ _ Rep.int u118 p0_x.Short := f119
      refine LF.q 1 ?_
      refine QF.ldi ckP hsN.1 rfl f119 ty_3 rfl fun r120 => ?_
      refine QF.ln ?_
      exact LF.aend (Old.refl _) ⟨rfl, r120⟩
    refine SAll.cons rfl ?_ ?_
    · intro mq hh o
      have hsN := SN.st hs11 o
      refine LF.q 1 ?_
      have k121 := k13.mono (SN.ext hs11.1 o)
      refine QF.fa rfl k121 GHarm.f_Short fa_25_2 rfl fun q122 k123 => ?_
      refine QF.ln ?_
      exact LF.aend (Old.refl _) k123
    refine SAll.cons rfl ?_ ?_
    · intro mq hh o
      intro u124 f125
      have hsN := SN.st hs11 o
      have f125 : Pt _ _ Rep.int u124 p1_y.Short := f125
      refine LF.q 1 ?_
      refine QF.ldi ckP hsN.1 rfl f125 ty_3 rfl fun r126 => ?_
      refine QF.ln ?_
      exact LF.aend (Old.refl _) ⟨rfl, r126⟩
    refine SAll.cons rfl ?_ ?_
    · intro mq hh o
      intro u127 f128 u129 f130
      have hsN := SN.st hs11 o
      obtain ⟨rfl, r131⟩ := f128
      obtain ⟨rfl, r132⟩ := f130
      refine LF.callb rfl rfl rfl ca_11 rfl hsN (cmp_Compare_int_ret (St.all _) r131 r132 hy39) fun v133 S134 h135 hs137 e136 e140 p => ?_
      obtain ⟨rfl, r138, hq139⟩ := p
      exact LF.aend ⟨e140.siz, fun b hb => e140.same b hb⟩ ⟨rfl, r138⟩
    refine SAll.cons rfl ?_ ?_
    · intro mq hh o
      have hsN := SN.st hs11 o
      refine LF.q 1 ?_
      have k141 := k6.mono (e12.trans (SN.ext hs11.1 o))
      refine QF.fa rfl k141 GHarm.f_Moves fa_25_3 rfl fun q142 k143 => ?_
      refine QF.ln ?_
      exact LF.aend (Old.refl _) k143
    refine SAll.cons rfl ?_ ?_
    · intro mq hh o
      intro u144 f145
      have hsN := SN.st hs11 o
      have f145 : Pt _ _ Rep.int u144 p0_x.Moves := f145
      refine LF.q 1 ?_
      refine QF.ldi ckP hsN.1 rfl f145 ty_3 rfl fun r146 => ?_
      refine QF.ln ?_
      exact LF.aend (Old.refl _) ⟨rfl, r146⟩
    refine SAll.cons rfl ?_ ?_
    · intro mq hh o
      have hsN := SN.st hs11 o
      refine LF.q 1 ?_
      have k147 := k13.mono (SN.ext hs11.1 o)
      refine QF.fa rfl k147 GHarm.f_Moves fa_25_3 rfl fun q148 k149 => ?_
      refine QF.ln ?_
      exact LF.aend (Old.refl _) k149
    refine SAll.cons rfl ?_ ?_
    · intro mq hh o
      intro u150 f151
      have hsN := SN.st hs11 o
      have f151 : Pt _ _ Rep.int u150 p1_y.Moves := f151
      refine LF.q 1 ?_
      refine QF.ldi ckP hsN.1 rfl f151 ty_3 rfl fun r152 => ?_
      refine QF.ln ?_
      exact LF.aend (Old.refl _) ⟨rfl, r152⟩
    refine SAll.cons rfl ?_ ?_
    · intro mq hh o
      intro u153 f154 u155 f156
      have hsN := SN.st hs11 o
      obtain ⟨rfl, r157⟩ := f154
      obtain ⟨rfl, r158⟩ := f156
      refine LF.callb rfl rfl rfl ca_11 rfl hsN (cmp_Compare_int_ret (St.all _) r157 r158 hy48) fun v159 S160 h161 hs163 e162 e166 p => ?_
      obtain ⟨rfl, r164, hq165⟩ := p
      exact LF.aend ⟨e166.siz, fun b hb => e166.same b hb⟩ ⟨rfl, r164⟩
    refine SAll.cons rfl ?_ ?_
    · intro mq hh o
      intro u167 f168 u169 f170 u171 f172 u173 f174
      have hsN := SN.st hs11 o
      obtain ⟨rfl, r175⟩ := f168
      obtain ⟨rfl, r176⟩ := f170
      obtain ⟨rfl, r177⟩ := f172
      obtain ⟨rfl, r178⟩ := f174
      have hsF := hsN.fz
      refine LF.bsq (cs := [.int .i64 y21, .int .i64 y30, .int .i64 y39, .int .i64 y48]) el_29 rfl rfl rfl rfl rfl rfl rfl hsF fun b179 h180 hs181 e182 => ?_
      have hs183 := hs181.bxos (r := Rep.int) (l := ([y21, y30, y39, y48] : List Int)) .head ⟨_, _, rfl, ⟨rfl, r175⟩, ⟨_, _, rfl, ⟨rfl, r176⟩, ⟨_, _, rfl, ⟨rfl, r177⟩, ⟨_, _, rfl, ⟨rfl, r178⟩, rfl⟩⟩⟩⟩ (by simp [maxLen])
      obtain ⟨S184, hs185, e186, k187⟩ := hs183.pubs .head
      have dn188 := Fz.done o (e182.trans e186) hs185
      exact LF.aend dn188.1 (Sl.mono' k187 dn188.2)
    refine SAll.cons rfl ?_ ?_
    · intro mq hh o
      intro u189 f190
      have hsN := SN.st hs11 o
      have f190 : Sl _ _ Rep.int u189 ([y21, y30, y39, y48] : List Int) := f190
      refine LF.callb rfl rfl rfl ca_10 rfl hsN (cmp_Or_int_ret (St.all _) (f190.mono (fun b hb => hsN.1 b hb) (fun _ _ => rfl)) hy60) fun v191 S192 h193 hs195 e194 e198 p => ?_
      obtain ⟨rfl, r196, hq197⟩ := p
      exact LF.aend ⟨e198.siz, fun b hb => e198.same b hb⟩ ⟨rfl, r196⟩
    refine SAll.cons rfl ?_ ?_
    · intro mq hh o
      intro u199 f200
      have hsN := SN.st hs11 o
      obtain ⟨rfl, r201⟩ := f200
      refine LF.q 1 ?_
      refine QF.lss rfl rfl rfl ?_
      refine QF.ln ?_
      exact LF.aend (Old.refl _) rfl
    refine SAll.cons rfl ?_ ?_
    · intro mq hh o
      intro u202 f203
      have hsN := SN.st hs11 o
      cases f203
      refine LF.q 1 ?_
      refine QF.as_ rfl rfl ?_
      refine QF.ln ?_
      exact LF.aend (Old.refl _) rfl
    exact trivial
  intro h204 o205 u206 f207
  have hs208 := SN.st hs11 o205
  cases f207
  refine LF.nil (sb 4 rfl sb0) ?_
  refine WF.ret (fun aa ww hf hw => ?_)
  cases E
  exact rtg hf rfl hw (rvc (rvT hf (v := _) rfl) rv0) rfl (e5.trans (e12.trans (SN.ext hs11.1 o205))) ⟨rfl, hs208⟩

set_option maxRecDepth 10000 in
set_option maxHeartbeats 2000000 in
theorem harm_Worst_ret {N : Nat} {S : Nat → Prop} {L : List HP} {h : Heap} (hs : St S L h) {v_p0_l : Value} {p0_l : (List GHarm)} (h_p0_l : Sl S h RGHarm v_p0_l p0_l) {r : GHarm} (E : f_harm_Worst N p0_l = some r) :
    Ret Try.prog 6 #[v_p0_l] S h (fun v S' h' => v = .agg #[.int .i64 r.Flood, .int .i64 r.Spill, .int .i64 r.Short, .int .i64 r.Moves] ∧ GHarm.ok r ∧ St S' (L) h') := by
  refine Ret.go (l := [v_p0_l]) 23 Try.func6 rfl Try.ntmps6 rfl fun B => ?_
  rw [f_harm_Worst] at E
  refine WF.seq ?_
  refine WF.rl ?_
  refine LF.al zc_25 rfl hs fun b1 h2 hs3 e4 => ?_
  refine LF.nil (sb 2 rfl (sb 0 rfl sb0)) ?_
  refine WF.seq ?_
  refine WF.rl ?_
  refine LF.al zc_25 rfl hs3 fun b5 h6 hs7 e8 => ?_
  refine LF.nil (sb 3 rfl (sb 2 rfl (sb 0 rfl sb0))) ?_
  refine WF.seq ?_
  refine WF.seq ?_
  refine WF.rp (.inl rfl) ?_
  refine QF.mv rfl rfl ?_
  have k9 := h_p0_l.mono' (e4.trans e8)
  refine QF.len rfl k9 sl_22 rfl fun b10 => ?_
  unfold maxLen at b10
  refine QF.mv rfl rfl ?_
  refine QF.rpn (sb 8 rfl (sb 7 rfl (sb 6 rfl (sb 3 rfl (sb 2 rfl sb0))))) ?_
  refine WF.blockJ (fun a w => ∃ (i11 : Int) (i13 : Int) (i15 : Int) (i17 : Int) (S' : Nat → Prop) (h' : Heap), Fr 23 a [(3, .pointer (some ⟨b5, 0, none⟩)), (2, .pointer (some ⟨b1, 0, none⟩))] ∧ Wd B h' w ∧ St S' (Bx b5 25 [.int .i64 i11, .int .i64 i13, .int .i64 i15, .int .i64 i17] :: Bx b1 25 [.int .i64 0, .int .i64 0, .int .i64 0, .int .i64 0] :: L) h' ∧ Ext S h6 S' h' ∧ inI64 i11 ∧ inI64 i13 ∧ inI64 i15 ∧ inI64 i17 ∧ f_harm_Worst_j0 N i11 i13 i15 i17 = some r) ?_ ?_
  · skip
    refine WF.loopF (fun n1 => fun a w => ∃ (i29 : Int) (i31 : Int) (i33 : Int) (i35 : Int) (i37 : Int) (S' : Nat → Prop) (h' : Heap), Fr 23 a [(7, .int .i64 (↑p0_l.length : Int)), (6, v_p0_l), (3, .pointer (some ⟨b5, 0, none⟩)), (2, .pointer (some ⟨b1, 0, none⟩)), (8, .int .i64 i29)] ∧ Wd B h' w ∧ St S' (Bx b5 25 [.int .i64 i31, .int .i64 i33, .int .i64 i35, .int .i64 i37] :: Bx b1 25 [.int .i64 0, .int .i64 0, .int .i64 0, .int .i64 0] :: L) h' ∧ Ext S h6 S' h' ∧ inI64 i29 ∧ inI64 i31 ∧ inI64 i33 ∧ inI64 i35 ∧ inI64 i37 ∧ f_harm_Worst_l1 N p0_l (f_harm_Worst_j0 N) n1 i29 i31 i33 i35 i37 = some r) N ?_ ?_ ?_
    · intro aa ww hf hw
      exact ⟨0, 0, 0, 0, 0, _, _, hf.sub (sb 7 rfl (sb 6 rfl (sb 3 rfl (sb 2 rfl (sb 8 rfl sb0))))), hw, hs7, (Ext.refl S h6), (show inI64 0 by unfold inI64; omega), (show inI64 0 by unfold inI64; omega), (show inI64 0 by unfold inI64; omega), (show inI64 0 by unfold inI64; omega), (show inI64 0 by unfold inI64; omega), E⟩
    · rintro aa ww ⟨_, _, _, _, _, _, _, _, _, _, _, _, _, _, _, _, E⟩
      rw [f_harm_Worst_l1] at E; cases E
    · skip
      rintro n1 aa ww ⟨i29, i31, i33, i35, i37, S39, h40, hf, hw, hs41, e42, r30, r32, r34, r36, r38, E⟩
      refine WF.run ?_ hf hw
      clear hf hw ww aa
      rw [f_harm_Worst_l1] at E
      refine WF.seq ?_
      refine WF.rp (.inl rfl) ?_
      refine QF.lss rfl rfl rfl ?_
      refine QF.rpn (sb 9 rfl (sb 7 rfl (sb 6 rfl (sb 3 rfl (sb 2 rfl (sb 8 rfl sb0)))))) ?_
      refine WF.seq ?_
      refine WF.if_ rfl (fun c43 => ?_) (fun c43 => ?_)
      · skip
        have E := cdT c43 E
        refine WF.skip ?_
        refine WF.seq ?_
        refine WF.blockJ (fun a w => ∃ (i44 : Int) (i46 : Int) (x48 : GHarm) (i53 : Int) (b55 : Bool) (b56 : Bool) (b57 : Bool) (i58 : Int) (i60 : Int) (i62 : Int) (i64 : Int) (S' : Nat → Prop) (h' : Heap), Fr 23 a [(9, .bool (decide (i29 < (↑p0_l.length : Int)))), (7, .int .i64 (↑p0_l.length : Int)), (6, v_p0_l), (3, .pointer (some ⟨b5, 0, none⟩)), (2, .pointer (some ⟨b1, 0, none⟩)), (8, .int .i64 i29), (4, .int .i64 i44), (10, .int .i64 i46), (12, .agg #[.int .i64 x48.Flood, .int .i64 x48.Spill, .int .i64 x48.Short, .int .i64 x48.Moves]), (13, .int .i64 i53), (14, .bool b55), (15, .bool b56), (19, .bool b57)] ∧ Wd B h' w ∧ St S' (Bx b5 25 [.int .i64 i58, .int .i64 i60, .int .i64 i62, .int .i64 i64] :: Bx b1 25 [.int .i64 0, .int .i64 0, .int .i64 0, .int .i64 0] :: L) h' ∧ Ext S39 h40 S' h' ∧ inI64 i44 ∧ inI64 i46 ∧ GHarm.ok x48 ∧ inI64 i53 ∧ inI64 i58 ∧ inI64 i60 ∧ inI64 i62 ∧ inI64 i64 ∧ f_harm_Worst_j2 N i29 (f_harm_Worst_l1 N p0_l (f_harm_Worst_j0 N) n1) i44 i46 x48 i53 b55 b56 b57 i58 i60 i62 i64 = some r) ?_ ?_
        · skip
          refine WF.seq ?_
          refine WF.rl ?_
          refine LF.q 3 ?_
          refine QF.mv rfl rfl ?_
          have k66 := k9.mono' e42
          obtain ⟨x67, hx67, E⟩ := bd E
          refine QF.ixe rfl rfl k66 sl_22 hx67 rfl fun q68 k69 => ?_
          refine QF.ld ckP hs41.1 rfl k69 ty_25 (fun e => by cases e) rfl fun v70 k71 => ?_
          refine QF.ln ?_
          refine LF.al zc_25 rfl hs41 fun b72 h73 hs74 e75 => ?_
          refine LF.q 1 ?_
          refine QF.as_ rfl rfl ?_
          refine QF.ln ?_
          have k76 := k71.mono e75
          obtain ⟨rfl, ⟨r78, r79, r80, r81⟩⟩ := RGHarm.ex k76
          refine LF.st (vs := [.int .i64 x67.Flood, .int .i64 x67.Spill, .int .i64 x67.Short, .int .i64 x67.Moves]) (cs' := [.int .i64 x67.Flood, .int .i64 x67.Spill, .int .i64 x67.Short, .int .i64 x67.Moves]) rfl rfl rfl (by simp [Value.oneCell']) ty_25 rfl hs74 .head rfl rfl fun h82 hs83 e84 => ?_
          refine LF.nil (sb 4 rfl (sb 5 rfl (sb 12 rfl (sb 11 rfl (sb 10 rfl (sb 9 rfl (sb 7 rfl (sb 6 rfl (sb 3 rfl (sb 2 rfl (sb 8 rfl sb0))))))))))) ?_
          refine WF.seq ?_
          refine WF.rc (.inl rfl) hs83 ?_
          refine QF.mv rfl rfl ?_
          refine QF.eql rfl rfl rfl ?_
          refine QF.mv rfl rfl ?_
          obtain ⟨b86, hb86, E⟩ := bd E
          refine QF.cutv 4 19 (.bool b86) ?_ ?_
          · cases c85 : (decide (i29 = 0))
            · skip
              have hb86 := cdF c85 hb86
              refine QF.gy rfl rfl rfl ?_
              refine QF.ldo (vs := [.int .i64 i31, .int .i64 i33, .int .i64 i35, .int .i64 i37]) ckC hs83 rfl (mt mh) rfl rfl ty_25 rfl rfl ?_
              refine QF.gy rfl rfl rfl ?_
              refine QF.ldo (vs := [.int .i64 x67.Flood, .int .i64 x67.Spill, .int .i64 x67.Short, .int .i64 x67.Moves]) ckC hs83 rfl mh rfl rfl ty_25 rfl rfl ?_
              refine QF.gy rfl rfl rfl ?_
              obtain ⟨y87, hy87, hb86⟩ := bd hb86
              refine QF.callp (v := .bool y87) (Ψ := True) rfl rfl rfl ca_7 rfl (fun h' o => (harm_Less_ret (St.all h') (RGHarm.mk (x := (⟨i31, i33, i35, i37⟩ : GHarm)) ⟨r32, r34, r36, r38⟩) (RGHarm.mk (x := x67) ⟨r78, r79, r80, r81⟩) hy87).mono fun _ _ _ _ p => ⟨p.1, trivial⟩) fun r88 => ?_
              refine QF.pick rfl rfl rfl ?_
              cases hb86
              exact QF.cutn (sb 19 rfl (sb 15 rfl (sb 14 rfl (sb 13 rfl (sb 4 rfl (sb 5 rfl (sb 12 rfl (sb 11 rfl (sb 10 rfl (sb 9 rfl (sb 7 rfl (sb 6 rfl (sb 3 rfl (sb 2 rfl (sb 8 rfl sb0)))))))))))))))
            · skip
              have hb86 := cdT c85 hb86
              cases hb86
              refine QF.gnT rfl rfl rfl rfl rfl ?_
              refine QF.gnT rfl rfl rfl rfl rfl ?_
              refine QF.gnT rfl rfl rfl rfl rfl ?_
              refine QF.pick rfl rfl rfl ?_
              exact QF.cutn (sb 19 rfl (sb 15 rfl (sb 14 rfl (sb 13 rfl (sb 4 rfl (sb 5 rfl (sb 12 rfl (sb 11 rfl (sb 10 rfl (sb 9 rfl (sb 7 rfl (sb 6 rfl (sb 3 rfl (sb 2 rfl (sb 8 rfl sb0)))))))))))))))
          refine QF.rcn (sb 19 rfl (sb 15 rfl (sb 14 rfl (sb 13 rfl (sb 4 rfl (sb 5 rfl (sb 12 rfl (sb 11 rfl (sb 10 rfl (sb 9 rfl (sb 7 rfl (sb 6 rfl (sb 3 rfl (sb 2 rfl (sb 8 rfl sb0))))))))))))))) fun h89 hs90 e91 => ?_
          refine WF.if_ rfl (fun c92 => ?_) (fun c92 => ?_)
          · skip
            have E := cdT c92 E
            refine WF.rl ?_
            refine LF.q 1 ?_
            refine QF.ldo (vs := [.int .i64 x67.Flood, .int .i64 x67.Spill, .int .i64 x67.Short, .int .i64 x67.Moves]) ckP hs90 rfl mh rfl rfl ty_25 rfl rfl ?_
            refine QF.ln ?_
            refine LF.st (vs := [.int .i64 x67.Flood, .int .i64 x67.Spill, .int .i64 x67.Short, .int .i64 x67.Moves]) (cs' := [.int .i64 x67.Flood, .int .i64 x67.Spill, .int .i64 x67.Short, .int .i64 x67.Moves]) rfl rfl rfl (by simp [Value.oneCell']) ty_25 rfl hs90 (.tail .head) rfl rfl fun h93 hs94 e95 => ?_
            refine LF.nil (sb 20 rfl (sb 19 rfl (sb 15 rfl (sb 14 rfl (sb 13 rfl (sb 4 rfl (sb 5 rfl (sb 12 rfl (sb 11 rfl (sb 10 rfl (sb 9 rfl (sb 7 rfl (sb 6 rfl (sb 3 rfl (sb 2 rfl (sb 8 rfl sb0)))))))))))))))) ?_
            refine WF.nil (fun aa ww hf hw => ?_)
            have hs96 := hs94.pick (.tail (.tail .head))
            have hs97 := hs96.pick (.tail (.tail .head))
            have hs98 := hs97.drop (.tail (.tail .head))
            exact ⟨i29, i29, x67, i29, (decide (i29 = 0)), (decide (i29 = 0)), b86, x67.Flood, x67.Spill, x67.Short, x67.Moves, _, _, hf.sub (sb 9 rfl (sb 7 rfl (sb 6 rfl (sb 3 rfl (sb 2 rfl (sb 8 rfl (sb 4 rfl (sb 10 rfl (sb 12 rfl (sb 13 rfl (sb 14 rfl (sb 15 rfl (sb 19 rfl sb0))))))))))))), hw, hs98, (e75.trans (e84.trans (e91.trans e95))), r30, r30, ⟨r78, r79, r80, r81⟩, r30, r78, r79, r80, r81, E⟩
          · skip
            have E := cdF c92 E
            refine WF.skip ?_
            refine WF.nil (fun aa ww hf hw => ?_)
            have hs99 := hs90.pick (.tail (.tail .head))
            have hs100 := hs99.pick (.tail (.tail .head))
            have hs101 := hs100.drop (.tail (.tail .head))
            exact ⟨i29, i29, x67, i29, (decide (i29 = 0)), (decide (i29 = 0)), b86, i31, i33, i35, i37, _, _, hf.sub (sb 9 rfl (sb 7 rfl (sb 6 rfl (sb 3 rfl (sb 2 rfl (sb 8 rfl (sb 4 rfl (sb 10 rfl (sb 12 rfl (sb 13 rfl (sb 14 rfl (sb 15 rfl (sb 19 rfl sb0))))))))))))), hw, hs101, (e75.trans (e84.trans e91)), r30, r30, ⟨r78, r79, r80, r81⟩, r30, r32, r34, r36, r38, E⟩
        · skip
          rintro aa ww ⟨i44, i46, x48, i53, b55, b56, b57, i58, i60, i62, i64, S102, h103, hf, hw, hs104, e105, r45, r47, ⟨r49, r50, r51, r52⟩, r54, r59, r61, r63, r65, E⟩
          refine WF.run ?_ hf hw
          clear hf hw ww aa
          rw [f_harm_Worst_j2] at E
          refine WF.rp (.inl rfl) ?_
          refine QF.addw rfl rfl rfl ?_
          refine QF.mv rfl rfl ?_
          refine QF.rpn (sb 8 rfl (sb 21 rfl (sb 9 rfl (sb 7 rfl (sb 6 rfl (sb 3 rfl (sb 2 rfl (sb 4 rfl (sb 10 rfl (sb 12 rfl (sb 13 rfl (sb 14 rfl (sb 15 rfl (sb 19 rfl sb0)))))))))))))) ?_
          refine WF.nil (fun aa ww hf hw => ?_)
          exact ⟨(w64 (i29 + 1)), i58, i60, i62, i64, _, _, hf.sub (sb 7 rfl (sb 6 rfl (sb 3 rfl (sb 2 rfl (sb 8 rfl sb0))))), hw, hs104, (e42.trans e105), (w64_i _), r59, r61, r63, r65, E⟩
      · skip
        have E := cdF c43 E
        refine WF.exit rfl (fun aa ww hf hw => ?_)
        exact ⟨i31, i33, i35, i37, _, _, hf.sub (sb 3 rfl (sb 2 rfl sb0)), hw, hs41, e42, r32, r34, r36, r38, E⟩
  · skip
    rintro aa ww ⟨i11, i13, i15, i17, S106, h107, hf, hw, hs108, e109, r12, r14, r16, r18, E⟩
    refine WF.run ?_ hf hw
    clear hf hw ww aa
    rw [f_harm_Worst_j0] at E
    refine WF.seq ?_
    refine WF.rl ?_
    refine LF.q 1 ?_
    refine QF.ldo (vs := [.int .i64 i11, .int .i64 i13, .int .i64 i15, .int .i64 i17]) ckP hs108 rfl mh rfl rfl ty_25 rfl rfl ?_
    refine QF.ln ?_
    refine LF.st (vs := [.int .i64 i11, .int .i64 i13, .int .i64 i15, .int .i64 i17]) (cs' := [.int .i64 i11, .int .i64 i13, .int .i64 i15, .int .i64 i17]) rfl rfl rfl (by simp [Value.oneCell']) ty_25 rfl hs108 (.tail .head) rfl rfl fun h110 hs111 e112 => ?_
    refine LF.nil (sb 2 rfl sb0) ?_
    refine WF.ret (fun aa ww hf hw => ?_)
    have hs113 := hs111.pick (.tail .head)
    have hs114 := hs113.drop (.tail .head)
    have hs115 := hs114.drop .head
    cases E
    exact rtg hf rfl hw (rvc (rvC hf hw hs114 rfl mh ty_25 rfl) rv0) rfl (e4.trans (e8.trans (e109.trans e112))) ⟨rfl, ⟨r12, r14, r16, r18⟩, hs115⟩

set_option maxRecDepth 10000 in
set_option maxHeartbeats 2000000 in
theorem bournelaw33_small_ret {N : Nat} {S : Nat → Prop} {L : List HP} {h : Heap} (hs : St S L h)  {r : Bool} (E : f_bournelaw33_small N = some r) :
    Ret Try.prog 5 #[] S h (fun v S' h' => v = .bool r ∧ St S' (L) h') := by
  refine Ret.go (l := []) 54 Try.func5 rfl Try.ntmps5 rfl fun B => ?_
  rw [f_bournelaw33_small] at E
  refine WF.seq ?_
  refine WF.rp (.inl rfl) ?_
  refine QF.as_ rfl rfl ?_
  refine QF.rpn (sb 0 rfl sb0) ?_
  refine WF.seq ?_
  refine WF.rl ?_
  refine LF.q 1 ?_
  refine QF.bld (cs := [.int .i64 0, .int .i64 5, .int .i64 9, .int .i64 9]) st_25 rfl rfl rfl ?_
  refine QF.ln ?_
  refine LF.al zc_25 rfl hs fun b1 h2 hs3 e4 => ?_
  refine LF.st (vs := [.int .i64 0, .int .i64 5, .int .i64 9, .int .i64 9]) (cs' := [.int .i64 0, .int .i64 5, .int .i64 9, .int .i64 9]) rfl rfl rfl (by simp [Value.oneCell']) ty_25 rfl hs3 .head rfl rfl fun h5 hs6 e7 => ?_
  refine LF.nil (sb 1 rfl (sb 0 rfl sb0)) ?_
  refine WF.seq ?_
  refine WF.rl ?_
  refine LF.q 1 ?_
  refine QF.bld (cs := [.int .i64 1, .int .i64 0, .int .i64 0, .int .i64 0]) st_25 rfl rfl rfl ?_
  refine QF.ln ?_
  refine LF.al zc_25 rfl hs6 fun b8 h9 hs10 e11 => ?_
  refine LF.st (vs := [.int .i64 1, .int .i64 0, .int .i64 0, .int .i64 0]) (cs' := [.int .i64 1, .int .i64 0, .int .i64 0, .int .i64 0]) rfl rfl rfl (by simp [Value.oneCell']) ty_25 rfl hs10 .head rfl rfl fun h12 hs13 e14 => ?_
  refine LF.nil (sb 2 rfl (sb 1 rfl (sb 0 rfl sb0))) ?_
  refine WF.seq ?_
  refine WF.rl ?_
  refine LF.q 1 ?_
  refine QF.bld (cs := [.int .i64 0, .int .i64 0]) st_33 rfl rfl rfl ?_
  refine QF.ln ?_
  refine LF.bsq (cs := [.int .i64 0, .int .i64 0]) el_34 rfl rfl rfl rfl rfl rfl rfl hs13 fun b15 h16 hs17 e18 => ?_
  refine LF.q 1 ?_
  refine QF.as_ rfl rfl ?_
  refine QF.ln ?_
  refine LF.nil (sb 3 rfl (sb 2 rfl (sb 1 rfl (sb 0 rfl sb0)))) ?_
  refine WF.seq ?_
  have hs19 := hs17.bxos (r := RGPoint) (l := ([(⟨0, 0⟩ : GPoint)] : List GPoint)) .head ⟨_, _, rfl, ⟨rfl, ⟨(show inI64 0 by unfold inI64; omega), (show inI64 0 by unfold inI64; omega)⟩⟩, rfl⟩ (by simp [maxLen])
  obtain ⟨S20, hs21, e22, k23⟩ := hs19.pubs .head
  refine WF.rl ?_
  refine LF.q 2 ?_
  refine QF.mv rfl rfl ?_
  refine QF.bld (cs := [.string ByteArray.empty, .int .i64 1, .int .i64 0, .int .i64 0, (.slice (some ⟨b15, 0, none⟩) 1 1), .slice none 0 0, .int .i64 0, .int .i64 0, .int .i64 0, .int .i64 0, .int .i64 7, .slice none 0 0]) st_37 rfl rfl rfl ?_
  refine QF.ln ?_
  refine LF.bsq (cs := [.string ByteArray.empty, .int .i64 1, .int .i64 0, .int .i64 0, (.slice (some ⟨b15, 0, none⟩) 1 1), .slice none 0 0, .int .i64 0, .int .i64 0, .int .i64 0, .int .i64 0, .int .i64 7, .slice none 0 0]) el_38 rfl rfl rfl rfl rfl rfl rfl hs21 fun b24 h25 hs26 e27 => ?_
  refine LF.q 1 ?_
  refine QF.bld (cs := [.string ByteArray.empty, .int .i64 0, .int .i64 3, .int .i64 0, .int .i64 0, .int .i64 0, .int .i64 0]) st_40 rfl rfl rfl ?_
  refine QF.ln ?_
  refine LF.bsq (cs := [.string ByteArray.empty, .int .i64 0, .int .i64 3, .int .i64 0, .int .i64 0, .int .i64 0, .int .i64 0]) el_41 rfl rfl rfl rfl rfl rfl rfl hs26 fun b28 h29 hs30 e31 => ?_
  refine LF.q 1 ?_
  have k32 := k23.mono' (e27.trans e31)
  have hs33 := hs30.bxos (r := RGPlace) (l := ([(⟨ByteArray.empty, 1, 0, 0, ([(⟨0, 0⟩ : GPoint)] : List GPoint), [], 0, 0, 0, 0, 7, []⟩ : GPlace)] : List GPlace)) (.tail .head) ⟨_, _, rfl, ⟨_, _, _, rfl, (by first | assumption | decide), (show inI64 1 by unfold inI64; omega), (show inI64 0 by unfold inI64; omega), (show inI64 0 by unfold inI64; omega), k32, (.inl ⟨rfl, rfl⟩), (show inI64 0 by unfold inI64; omega), (show inI64 0 by unfold inI64; omega), (show inI64 0 by unfold inI64; omega), (show inI64 0 by unfold inI64; omega), (show inI64 7 by unfold inI64; omega), (.inl ⟨rfl, rfl⟩)⟩, rfl⟩ (by simp [maxLen])
  obtain ⟨S34, hs35, e36, k37⟩ := hs33.pubs (.tail .head)
  have hs38 := hs35.bxos (r := RGTown) (l := ([(⟨ByteArray.empty, 0, 3, 0, 0, 0, 0⟩ : GTown)] : List GTown)) .head ⟨_, _, rfl, ⟨rfl, ⟨(by first | assumption | decide), (show inI64 0 by unfold inI64; omega), (show inI64 3 by unfold inI64; omega), (show inI64 0 by unfold inI64; omega), (show inI64 0 by unfold inI64; omega), (show inI64 0 by unfold inI64; omega), (show inI64 0 by unfold inI64; omega)⟩⟩, rfl⟩ (by simp [maxLen])
  obtain ⟨S39, hs40, e41, k42⟩ := hs38.pubs .head
  refine QF.bld (cs := [.string ByteArray.empty, .slice none 0 0, .int .i64 0, (.slice (some ⟨b24, 0, none⟩) 1 1), .slice none 0 0, (.slice (some ⟨b28, 0, none⟩) 1 1), .slice none 0 0, .slice none 0 0, .slice none 0 0, .slice none 0 0, .int .i64 0]) st_48 rfl rfl rfl ?_
  refine QF.ln ?_
  refine LF.al zc_48 rfl hs40 fun b43 h44 hs45 e46 => ?_
  refine LF.st (vs := [.string ByteArray.empty, .slice none 0 0, .int .i64 0, (.slice (some ⟨b24, 0, none⟩) 1 1), .slice none 0 0, (.slice (some ⟨b28, 0, none⟩) 1 1), .slice none 0 0, .slice none 0 0, .slice none 0 0, .slice none 0 0, .int .i64 0]) (cs' := [.string ByteArray.empty, .slice none 0 0, .int .i64 0, (.slice (some ⟨b24, 0, none⟩) 1 1), .slice none 0 0, (.slice (some ⟨b28, 0, none⟩) 1 1), .slice none 0 0, .slice none 0 0, .slice none 0 0, .slice none 0 0, .int .i64 0]) rfl rfl rfl (by simp [Value.oneCell']) ty_48 rfl hs45 .head rfl rfl fun h47 hs48 e49 => ?_
  refine LF.nil (sb 4 rfl (sb 2 rfl (sb 1 rfl (sb 0 rfl sb0)))) ?_
  refine WF.seq ?_
  refine WF.rl ?_
  refine LF.q 3 ?_
  refine QF.ldo (vs := [.string ByteArray.empty, .slice none 0 0, .int .i64 0, (.slice (some ⟨b24, 0, none⟩) 1 1), .slice none 0 0, (.slice (some ⟨b28, 0, none⟩) 1 1), .slice none 0 0, .slice none 0 0, .slice none 0 0, .slice none 0 0, .int .i64 0]) ckP hs48 rfl mh rfl rfl ty_48 rfl rfl ?_
  refine QF.bld (cs := [.int .i64 0, .slice none 0 0, .slice none 0 0, .slice none 0 0]) st_54 rfl rfl rfl ?_
  refine QF.bld (cs := [.int .i64 5, .int .i64 9]) st_56 rfl rfl rfl ?_
  refine QF.ln ?_
  refine LF.bsq (cs := [.int .i64 5, .int .i64 9]) el_50 rfl rfl rfl rfl rfl rfl rfl hs48 fun b50 h51 hs52 e53 => ?_
  refine LF.q 2 ?_
  have hs54 := hs52.bxos (r := RGSpan) (l := ([(⟨5, 9⟩ : GSpan)] : List GSpan)) .head ⟨_, _, rfl, ⟨rfl, ⟨(show inI64 5 by unfold inI64; omega), (show inI64 9 by unfold inI64; omega)⟩⟩, rfl⟩ (by simp [maxLen])
  obtain ⟨S55, hs56, e57, k58⟩ := hs54.pubs .head
  refine QF.bld (cs := [.int .i64 0, (.slice (some ⟨b50, 0, none⟩) 1 1), .slice none 0 0, .slice none 0 0]) st_54 rfl rfl rfl ?_
  refine QF.bld (cs := [.int .i64 0, .int .i64 4]) st_56 rfl rfl rfl ?_
  refine QF.ln ?_
  refine LF.bsq (cs := [.int .i64 0, .int .i64 4]) el_50 rfl rfl rfl rfl rfl rfl rfl hs56 fun b59 h60 hs61 e62 => ?_
  refine LF.q 1 ?_
  refine QF.bld (cs := [.int .i64 0, .int .i64 1]) st_56 rfl rfl rfl ?_
  refine QF.ln ?_
  refine LF.bsq (cs := [.int .i64 0, .int .i64 1]) el_50 rfl rfl rfl rfl rfl rfl rfl hs61 fun b63 h64 hs65 e66 => ?_
  have hs67 := hs65.bxos (r := RGSpan) (l := ([(⟨0, 4⟩ : GSpan)] : List GSpan)) (.tail .head) ⟨_, _, rfl, ⟨rfl, ⟨(show inI64 0 by unfold inI64; omega), (show inI64 4 by unfold inI64; omega)⟩⟩, rfl⟩ (by simp [maxLen])
  obtain ⟨S68, hs69, e70, k71⟩ := hs67.pubs (.tail .head)
  have hs72 := hs69.bxos (r := RGSpan) (l := ([(⟨0, 1⟩ : GSpan)] : List GSpan)) .head ⟨_, _, rfl, ⟨rfl, ⟨(show inI64 0 by unfold inI64; omega), (show inI64 1 by unfold inI64; omega)⟩⟩, rfl⟩ (by simp [maxLen])
  obtain ⟨S73, hs74, e75, k76⟩ := hs72.pubs .head
  have k77 := k37.mono' (e41.trans (e46.trans (e49.trans (e53.trans (e57.trans (e62.trans (e66.trans (e70.trans e75))))))))
  have k78 := k42.mono' (e46.trans (e49.trans (e53.trans (e57.trans (e62.trans (e66.trans (e70.trans e75)))))))
  have k79 := k58.mono' (e62.trans (e66.trans (e70.trans e75)))
  have k80 := k71.mono' e75
  obtain ⟨y81, hy81, E⟩ := bd E
  refine LF.callb rfl rfl rfl ca_9 rfl hs74 (harm_Hour_ret (St.all _) (RGBasin.mk (x := (⟨ByteArray.empty, [], 0, ([(⟨ByteArray.empty, 1, 0, 0, ([(⟨0, 0⟩ : GPoint)] : List GPoint), [], 0, 0, 0, 0, 7, []⟩ : GPlace)] : List GPlace), [], ([(⟨ByteArray.empty, 0, 3, 0, 0, 0, 0⟩ : GTown)] : List GTown), [], [], [], [], 0⟩ : GBasin)) (by first | assumption | decide) (.inl ⟨rfl, rfl⟩) (show inI64 0 by unfold inI64; omega) (k77.mono (fun b hb => hs74.1 b hb) (fun _ _ => rfl)) (.inl ⟨rfl, rfl⟩) (k78.mono (fun b hb => hs74.1 b hb) (fun _ _ => rfl)) (.inl ⟨rfl, rfl⟩) (.inl ⟨rfl, rfl⟩) (.inl ⟨rfl, rfl⟩) (.inl ⟨rfl, rfl⟩) (show inI64 0 by unfold inI64; omega)) (RGHull.mk (x := (⟨0, [], [], []⟩ : GHull)) (show inI64 0 by unfold inI64; omega) (.inl ⟨rfl, rfl⟩) (.inl ⟨rfl, rfl⟩) (.inl ⟨rfl, rfl⟩)) (RGHull.mk (x := (⟨0, ([(⟨5, 9⟩ : GSpan)] : List GSpan), [], []⟩ : GHull)) (show inI64 0 by unfold inI64; omega) (k79.mono (fun b hb => hs74.1 b hb) (fun _ _ => rfl)) (.inl ⟨rfl, rfl⟩) (.inl ⟨rfl, rfl⟩)) (k80.mono (fun b hb => hs74.1 b hb) (fun _ _ => rfl)) (k76.mono (fun b hb => hs74.1 b hb) (fun _ _ => rfl)) hy81) fun v82 S83 h84 hs86 e85 e92 p => ?_
  obtain ⟨rfl, ⟨r87, r88, r89, r90⟩, hq91⟩ := p
  refine LF.al zc_25 rfl hs86 fun b93 h94 hs95 e96 => ?_
  refine LF.st (vs := [.int .i64 y81.Flood, .int .i64 y81.Spill, .int .i64 y81.Short, .int .i64 y81.Moves]) (cs' := [.int .i64 y81.Flood, .int .i64 y81.Spill, .int .i64 y81.Short, .int .i64 y81.Moves]) rfl rfl rfl (by simp [Value.oneCell']) ty_25 rfl hs95 .head rfl rfl fun h97 hs98 e99 => ?_
  refine LF.nil (sb 5 rfl (sb 2 rfl (sb 1 rfl (sb 0 rfl sb0)))) ?_
  refine WF.seq ?_
  obtain ⟨y100, hy100, E⟩ := bd E
  obtain ⟨b104, hb104, E⟩ := bd E
  obtain ⟨b120, hb120, E⟩ := bd E
  obtain ⟨b127, hb127, E⟩ := bd E
  refine WF.cut (fun a w => ∃ (S' : Nat → Prop) (h' : Heap), Fr 54 a [(0, .bool (b127 && (eqC y81.v (⟨1, 1, 2, 0⟩ : GHarm).v)))] ∧ Wd B h' w ∧ St S' (Bx b93 25 [.int .i64 y81.Flood, .int .i64 y81.Spill, .int .i64 y81.Short, .int .i64 y81.Moves] :: Bx b43 48 [.string ByteArray.empty, .slice none 0 0, .int .i64 0, (.slice (some ⟨b24, 0, none⟩) 1 1), .slice none 0 0, (.slice (some ⟨b28, 0, none⟩) 1 1), .slice none 0 0, .slice none 0 0, .slice none 0 0, .slice none 0 0, .int .i64 0] :: Bx b8 25 [.int .i64 1, .int .i64 0, .int .i64 0, .int .i64 0] :: Bx b1 25 [.int .i64 0, .int .i64 5, .int .i64 9, .int .i64 9] :: L) h' ∧ Ext S73 h97 S' h') ?_ ?_
  · skip
    cases c129 : y100
    · skip
      have hb104 := cdF c129 hb104
      cases hb104
      have hb120 := cdF rfl hb120
      cases hb120
      have hb127 := cdF rfl hb127
      cases hb127
      refine WF.ra (m := [(5, .pointer (some ⟨b93, 0, none⟩)), (2, .pointer (some ⟨b8, 0, none⟩)), (1, .pointer (some ⟨b1, 0, none⟩))]) 29 (fun i v hh => match i with | 0 => v = .agg #[.int .i64 0, .int .i64 5, .int .i64 9, .int .i64 9] ∧ inI64 0 ∧ inI64 5 ∧ inI64 9 ∧ inI64 9 | 1 => v = .agg #[.int .i64 1, .int .i64 0, .int .i64 0, .int .i64 0] ∧ inI64 1 ∧ inI64 0 ∧ inI64 0 ∧ inI64 0 | 2 => v = .bool y100 | 3 => v = .bool y100 | 4 => v = undef | 5 => v = undef | 6 => v = undef | 7 => v = undef | 8 => v = .bool false | 9 => v = .bool false | 10 => v = undef | 11 => v = undef | 12 => v = undef | 13 => v = undef | 14 => v = undef | 15 => v = undef | 16 => v = undef | 17 => v = .bool false | 18 => v = .bool false | 19 => v = undef | 20 => v = undef | 21 => v = undef | 22 => v = .bool false | 23 => v = .bool false | 24 => v = undef | 25 => v = undef | 26 => v = undef | 27 => v = .bool false | 28 => v = .bool false | _ => False) [[], [], [(0, 26), (1, 27)], [(2, 28)], [(3, 29)], [(3, 29)], [(3, 29)], [(3, 29)], [(3, 29), (7, 33)], [(8, 34)], [(9, 35)], [(9, 35)], [(9, 35)], [(9, 35)], [(9, 35)], [(9, 35)], [(9, 35)], [(9, 35), (16, 42)], [(17, 43)], [(18, 44)], [(18, 44)], [(18, 44)], [(18, 44), (21, 47)], [(22, 48)], [(23, 49)], [(23, 49)], [(23, 49)], [(23, 49), (26, 52)], [(27, 53)]] [(28, 0)] mo (by kernel_rfl) [5, 2, 1] rfl (by kernel_rfl) (by kernel_rfl) (by kernel_rfl) (sb 5 rfl (sb 2 rfl (sb 1 rfl sb0))) (fun i v h1 h2 o1 o2 hr => ?_) ?_ ?_
      · match i, hr with
        | 0, hr => exact hr
        | 1, hr => exact hr
        | 2, hr => exact hr
        | 3, hr => exact hr
        | 4, hr => exact hr
        | 5, hr => exact hr
        | 6, hr => exact hr
        | 7, hr => exact hr
        | 8, hr => exact hr
        | 9, hr => exact hr
        | 10, hr => exact hr
        | 11, hr => exact hr
        | 12, hr => exact hr
        | 13, hr => exact hr
        | 14, hr => exact hr
        | 15, hr => exact hr
        | 16, hr => exact hr
        | 17, hr => exact hr
        | 18, hr => exact hr
        | 19, hr => exact hr
        | 20, hr => exact hr
        | 21, hr => exact hr
        | 22, hr => exact hr
        | 23, hr => exact hr
        | 24, hr => exact hr
        | 25, hr => exact hr
        | 26, hr => exact hr
        | 27, hr => exact hr
        | 28, hr => exact hr
        | _ + 29, hr => exact hr.elim
      · skip
        refine SAll.cons rfl ?_ ?_
        · intro mq hh o
          have hsN := SN.st hs98 o
          refine LF.q 1 ?_
          refine QF.ldo (vs := [.int .i64 0, .int .i64 5, .int .i64 9, .int .i64 9]) ckP hsN rfl (mt (mt (mt mh))) rfl rfl ty_25 rfl rfl ?_
          refine QF.ln ?_
          exact LF.aend (Old.refl _) ⟨rfl, (show inI64 0 by unfold inI64; omega), (show inI64 5 by unfold inI64; omega), (show inI64 9 by unfold inI64; omega), (show inI64 9 by unfold inI64; omega)⟩
        refine SAll.cons rfl ?_ ?_
        · intro mq hh o
          have hsN := SN.st hs98 o
          refine LF.q 1 ?_
          refine QF.ldo (vs := [.int .i64 1, .int .i64 0, .int .i64 0, .int .i64 0]) ckP hsN rfl (mt (mt mh)) rfl rfl ty_25 rfl rfl ?_
          refine QF.ln ?_
          exact LF.aend (Old.refl _) ⟨rfl, (show inI64 1 by unfold inI64; omega), (show inI64 0 by unfold inI64; omega), (show inI64 0 by unfold inI64; omega), (show inI64 0 by unfold inI64; omega)⟩
        refine SAll.cons rfl ?_ ?_
        · intro mq hh o
          intro u130 f131 u132 f133
          have hsN := SN.st hs98 o
          obtain ⟨rfl, r134, r135, r136, r137⟩ := f131
          obtain ⟨rfl, r138, r139, r140, r141⟩ := f133
          refine LF.callb rfl rfl rfl ca_7 rfl hsN (harm_Less_ret (St.all _) (RGHarm.mk (x := (⟨0, 5, 9, 9⟩ : GHarm)) ⟨r134, r135, r136, r137⟩) (RGHarm.mk (x := (⟨1, 0, 0, 0⟩ : GHarm)) ⟨r138, r139, r140, r141⟩) hy100) fun v142 S143 h144 hs146 e145 e148 p => ?_
          obtain ⟨rfl, hq147⟩ := p
          exact LF.aend ⟨e148.siz, fun b hb => e148.same b hb⟩ rfl
        refine SAll.cons rfl ?_ ?_
        · intro mq hh o
          intro u149 f150
          have hsN := SN.st hs98 o
          cases f150
          refine LF.q 1 ?_
          refine QF.mv rfl rfl ?_
          refine QF.ln ?_
          exact LF.aend (Old.refl _) rfl
        refine SAll.cons rfl ?_ ?_
        · intro mq hh o
          intro u151 f152
          have hsN := SN.st hs98 o
          obtain rfl : u151 = .bool false := Eq.trans f152 (congrArg Value.bool c129)
          exact ⟨29, rfl, .inr ⟨_, rfl, (by simp [yb, undef]), rfl⟩⟩
        refine SAll.cons rfl ?_ ?_
        · intro mq hh o
          intro u153 f154
          have hsN := SN.st hs98 o
          obtain rfl : u153 = .bool false := Eq.trans f154 (congrArg Value.bool c129)
          exact ⟨29, rfl, .inr ⟨_, rfl, (by simp [yb, undef]), rfl⟩⟩
        refine SAll.cons rfl ?_ ?_
        · intro mq hh o
          intro u155 f156
          have hsN := SN.st hs98 o
          obtain rfl : u155 = .bool false := Eq.trans f156 (congrArg Value.bool c129)
          exact ⟨29, rfl, .inr ⟨_, rfl, (by simp [yb, undef]), rfl⟩⟩
        refine SAll.cons rfl ?_ ?_
        · intro mq hh o
          intro u157 f158
          have hsN := SN.st hs98 o
          obtain rfl : u157 = .bool false := Eq.trans f158 (congrArg Value.bool c129)
          exact ⟨29, rfl, .inr ⟨_, rfl, (by simp [yb, undef]), rfl⟩⟩
        refine SAll.cons rfl ?_ ?_
        · intro mq hh o
          intro u159 f160 u161 f162
          have hsN := SN.st hs98 o
          obtain rfl : u159 = .bool false := Eq.trans f160 (congrArg Value.bool c129)
          cases f162
          refine LF.q 1 ?_
          refine QF.pick rfl rfl rfl ?_
          refine QF.ln ?_
          exact LF.aend (Old.refl _) rfl
        refine SAll.cons rfl ?_ ?_
        · intro mq hh o
          intro u163 f164
          have hsN := SN.st hs98 o
          cases f164
          refine LF.q 1 ?_
          refine QF.mv rfl rfl ?_
          refine QF.ln ?_
          exact LF.aend (Old.refl _) rfl
        refine SAll.cons rfl ?_ ?_
        · intro mq hh o
          intro u165 f166
          have hsN := SN.st hs98 o
          cases f166
          exact ⟨35, rfl, .inr ⟨_, rfl, (by simp [yb, undef]), rfl⟩⟩
        refine SAll.cons rfl ?_ ?_
        · intro mq hh o
          intro u167 f168
          have hsN := SN.st hs98 o
          cases f168
          exact ⟨35, rfl, .inr ⟨_, rfl, (by simp [yb, undef]), rfl⟩⟩
        refine SAll.cons rfl ?_ ?_
        · intro mq hh o
          intro u169 f170
          have hsN := SN.st hs98 o
          cases f170
          exact ⟨35, rfl, .inr ⟨_, rfl, (by simp [yb, undef]), rfl⟩⟩
        refine SAll.cons rfl ?_ ?_
        · intro mq hh o
          intro u171 f172
          have hsN := SN.st hs98 o
          cases f172
          exact ⟨35, rfl, .inr ⟨_, rfl, (by simp [yb, undef]), rfl⟩⟩
        refine SAll.cons rfl ?_ ?_
        · intro mq hh o
          intro u173 f174
          have hsN := SN.st hs98 o
          cases f174
          exact ⟨35, rfl, .inr ⟨_, rfl, (by simp [yb, undef]), rfl⟩⟩
        refine SAll.cons rfl ?_ ?_
        · intro mq hh o
          intro u175 f176
          have hsN := SN.st hs98 o
          cases f176
          exact ⟨35, rfl, .inr ⟨_, rfl, (by simp [yb, undef]), rfl⟩⟩
        refine SAll.cons rfl ?_ ?_
        · intro mq hh o
          intro u177 f178
          have hsN := SN.st hs98 o
          cases f178
          exact ⟨35, rfl, .inr ⟨_, rfl, (by simp [yb, undef]), rfl⟩⟩
        refine SAll.cons rfl ?_ ?_
        · intro mq hh o
          intro u179 f180 u181 f182
          have hsN := SN.st hs98 o
          cases f180
          cases f182
          refine LF.q 1 ?_
          refine QF.pick rfl rfl rfl ?_
          refine QF.ln ?_
          exact LF.aend (Old.refl _) rfl
        refine SAll.cons rfl ?_ ?_
        · intro mq hh o
          intro u183 f184
          have hsN := SN.st hs98 o
          cases f184
          refine LF.q 1 ?_
          refine QF.mv rfl rfl ?_
          refine QF.ln ?_
          exact LF.aend (Old.refl _) rfl
        refine SAll.cons rfl ?_ ?_
        · intro mq hh o
          intro u185 f186
          have hsN := SN.st hs98 o
          cases f186
          exact ⟨44, rfl, .inr ⟨_, rfl, (by simp [yb, undef]), rfl⟩⟩
        refine SAll.cons rfl ?_ ?_
        · intro mq hh o
          intro u187 f188
          have hsN := SN.st hs98 o
          cases f188
          exact ⟨44, rfl, .inr ⟨_, rfl, (by simp [yb, undef]), rfl⟩⟩
        refine SAll.cons rfl ?_ ?_
        · intro mq hh o
          intro u189 f190
          have hsN := SN.st hs98 o
          cases f190
          exact ⟨44, rfl, .inr ⟨_, rfl, (by simp [yb, undef]), rfl⟩⟩
        refine SAll.cons rfl ?_ ?_
        · intro mq hh o
          intro u191 f192 u193 f194
          have hsN := SN.st hs98 o
          cases f192
          cases f194
          refine LF.q 1 ?_
          refine QF.pick rfl rfl rfl ?_
          refine QF.ln ?_
          exact LF.aend (Old.refl _) rfl
        refine SAll.cons rfl ?_ ?_
        · intro mq hh o
          intro u195 f196
          have hsN := SN.st hs98 o
          cases f196
          refine LF.q 1 ?_
          refine QF.mv rfl rfl ?_
          refine QF.ln ?_
          exact LF.aend (Old.refl _) rfl
        refine SAll.cons rfl ?_ ?_
        · intro mq hh o
          intro u197 f198
          have hsN := SN.st hs98 o
          cases f198
          exact ⟨49, rfl, .inr ⟨_, rfl, (by simp [yb, undef]), rfl⟩⟩
        refine SAll.cons rfl ?_ ?_
        · intro mq hh o
          intro u199 f200
          have hsN := SN.st hs98 o
          cases f200
          exact ⟨49, rfl, .inr ⟨_, rfl, (by simp [yb, undef]), rfl⟩⟩
        refine SAll.cons rfl ?_ ?_
        · intro mq hh o
          intro u201 f202
          have hsN := SN.st hs98 o
          cases f202
          exact ⟨49, rfl, .inr ⟨_, rfl, (by simp [yb, undef]), rfl⟩⟩
        refine SAll.cons rfl ?_ ?_
        · intro mq hh o
          intro u203 f204 u205 f206
          have hsN := SN.st hs98 o
          cases f204
          cases f206
          refine LF.q 1 ?_
          refine QF.pick rfl rfl rfl ?_
          refine QF.ln ?_
          exact LF.aend (Old.refl _) rfl
        refine SAll.cons rfl ?_ ?_
        · intro mq hh o
          intro u207 f208
          have hsN := SN.st hs98 o
          cases f208
          refine LF.q 1 ?_
          refine QF.as_ rfl rfl ?_
          refine QF.ln ?_
          exact LF.aend (Old.refl _) rfl
        exact trivial
      intro h209 o210 u211 f212
      have hs213 := SN.st hs98 o210
      cases f212
      refine LF.nil (sb 0 rfl sb0) ?_
      exact WF.nil (fun aa ww hf hw => ⟨_, _, hf.sub (sb 0 rfl sb0), hw, hs213, (SN.ext hs98.1 o210)⟩)
    · skip
      have hb104 := cdT c129 hb104
      obtain ⟨y214, hy214, hb104⟩ := bd hb104
      cases hb104
      cases c216 : (!y214)
      · skip
        have hb120 := cdF c216 hb120
        cases hb120
        have hb127 := cdF rfl hb127
        cases hb127
        refine WF.ra (m := [(5, .pointer (some ⟨b93, 0, none⟩)), (2, .pointer (some ⟨b8, 0, none⟩)), (1, .pointer (some ⟨b1, 0, none⟩))]) 29 (fun i v hh => match i with | 0 => v = .agg #[.int .i64 0, .int .i64 5, .int .i64 9, .int .i64 9] ∧ inI64 0 ∧ inI64 5 ∧ inI64 9 ∧ inI64 9 | 1 => v = .agg #[.int .i64 1, .int .i64 0, .int .i64 0, .int .i64 0] ∧ inI64 1 ∧ inI64 0 ∧ inI64 0 ∧ inI64 0 | 2 => v = .bool y100 | 3 => v = .bool y100 | 4 => v = .agg #[.int .i64 1, .int .i64 0, .int .i64 0, .int .i64 0] ∧ inI64 1 ∧ inI64 0 ∧ inI64 0 ∧ inI64 0 | 5 => v = .agg #[.int .i64 0, .int .i64 5, .int .i64 9, .int .i64 9] ∧ inI64 0 ∧ inI64 5 ∧ inI64 9 ∧ inI64 9 | 6 => v = .bool y214 | 7 => v = .bool (!y214) | 8 => v = .bool (!y214) | 9 => v = .bool (!y214) | 10 => v = undef | 11 => v = undef | 12 => v = undef | 13 => v = undef | 14 => v = undef | 15 => v = undef | 16 => v = undef | 17 => v = .bool false | 18 => v = .bool false | 19 => v = undef | 20 => v = undef | 21 => v = undef | 22 => v = .bool false | 23 => v = .bool false | 24 => v = undef | 25 => v = undef | 26 => v = undef | 27 => v = .bool false | 28 => v = .bool false | _ => False) [[], [], [(0, 26), (1, 27)], [(2, 28)], [(3, 29)], [(3, 29)], [(4, 30), (5, 31), (3, 29)], [(6, 32), (3, 29)], [(3, 29), (7, 33)], [(8, 34)], [(9, 35)], [(9, 35)], [(9, 35)], [(9, 35)], [(9, 35)], [(9, 35)], [(9, 35)], [(9, 35), (16, 42)], [(17, 43)], [(18, 44)], [(18, 44)], [(18, 44)], [(18, 44), (21, 47)], [(22, 48)], [(23, 49)], [(23, 49)], [(23, 49)], [(23, 49), (26, 52)], [(27, 53)]] [(28, 0)] mo (by kernel_rfl) [5, 2, 1] rfl (by kernel_rfl) (by kernel_rfl) (by kernel_rfl) (sb 5 rfl (sb 2 rfl (sb 1 rfl sb0))) (fun i v h1 h2 o1 o2 hr => ?_) ?_ ?_
        · match i, hr with
          | 0, hr => exact hr
          | 1, hr => exact hr
          | 2, hr => exact hr
          | 3, hr => exact hr
          | 4, hr => exact hr
          | 5, hr => exact hr
          | 6, hr => exact hr
          | 7, hr => exact hr
          | 8, hr => exact hr
          | 9, hr => exact hr
          | 10, hr => exact hr
          | 11, hr => exact hr
          | 12, hr => exact hr
          | 13, hr => exact hr
          | 14, hr => exact hr
          | 15, hr => exact hr
          | 16, hr => exact hr
          | 17, hr => exact hr
          | 18, hr => exact hr
          | 19, hr => exact hr
          | 20, hr => exact hr
          | 21, hr => exact hr
          | 22, hr => exact hr
          | 23, hr => exact hr
          | 24, hr => exact hr
          | 25, hr => exact hr
          | 26, hr => exact hr
          | 27, hr => exact hr
          | 28, hr => exact hr
          | _ + 29, hr => exact hr.elim
        · skip
          refine SAll.cons rfl ?_ ?_
          · intro mq hh o
            have hsN := SN.st hs98 o
            refine LF.q 1 ?_
            refine QF.ldo (vs := [.int .i64 0, .int .i64 5, .int .i64 9, .int .i64 9]) ckP hsN rfl (mt (mt (mt mh))) rfl rfl ty_25 rfl rfl ?_
            refine QF.ln ?_
            exact LF.aend (Old.refl _) ⟨rfl, (show inI64 0 by unfold inI64; omega), (show inI64 5 by unfold inI64; omega), (show inI64 9 by unfold inI64; omega), (show inI64 9 by unfold inI64; omega)⟩
          refine SAll.cons rfl ?_ ?_
          · intro mq hh o
            have hsN := SN.st hs98 o
            refine LF.q 1 ?_
            refine QF.ldo (vs := [.int .i64 1, .int .i64 0, .int .i64 0, .int .i64 0]) ckP hsN rfl (mt (mt mh)) rfl rfl ty_25 rfl rfl ?_
            refine QF.ln ?_
            exact LF.aend (Old.refl _) ⟨rfl, (show inI64 1 by unfold inI64; omega), (show inI64 0 by unfold inI64; omega), (show inI64 0 by unfold inI64; omega), (show inI64 0 by unfold inI64; omega)⟩
          refine SAll.cons rfl ?_ ?_
          · intro mq hh o
            intro u217 f218 u219 f220
            have hsN := SN.st hs98 o
            obtain ⟨rfl, r221, r222, r223, r224⟩ := f218
            obtain ⟨rfl, r225, r226, r227, r228⟩ := f220
            refine LF.callb rfl rfl rfl ca_7 rfl hsN (harm_Less_ret (St.all _) (RGHarm.mk (x := (⟨0, 5, 9, 9⟩ : GHarm)) ⟨r221, r222, r223, r224⟩) (RGHarm.mk (x := (⟨1, 0, 0, 0⟩ : GHarm)) ⟨r225, r226, r227, r228⟩) hy100) fun v229 S230 h231 hs233 e232 e235 p => ?_
            obtain ⟨rfl, hq234⟩ := p
            exact LF.aend ⟨e235.siz, fun b hb => e235.same b hb⟩ rfl
          refine SAll.cons rfl ?_ ?_
          · intro mq hh o
            intro u236 f237
            have hsN := SN.st hs98 o
            cases f237
            refine LF.q 1 ?_
            refine QF.mv rfl rfl ?_
            refine QF.ln ?_
            exact LF.aend (Old.refl _) rfl
          refine SAll.cons rfl ?_ ?_
          · intro mq hh o
            intro u238 f239
            have hsN := SN.st hs98 o
            obtain rfl : u238 = .bool true := Eq.trans f239 (congrArg Value.bool c129)
            refine ⟨29, rfl, .inl ⟨rfl, ?_⟩⟩
            refine LF.q 1 ?_
            refine QF.ldo (vs := [.int .i64 1, .int .i64 0, .int .i64 0, .int .i64 0]) ckP hsN rfl (mt (mt mh)) rfl rfl ty_25 rfl rfl ?_
            refine QF.ln ?_
            exact LF.aend (Old.refl _) ⟨rfl, (show inI64 1 by unfold inI64; omega), (show inI64 0 by unfold inI64; omega), (show inI64 0 by unfold inI64; omega), (show inI64 0 by unfold inI64; omega)⟩
          refine SAll.cons rfl ?_ ?_
          · intro mq hh o
            intro u240 f241
            have hsN := SN.st hs98 o
            obtain rfl : u240 = .bool true := Eq.trans f241 (congrArg Value.bool c129)
            refine ⟨29, rfl, .inl ⟨rfl, ?_⟩⟩
            refine LF.q 1 ?_
            refine QF.ldo (vs := [.int .i64 0, .int .i64 5, .int .i64 9, .int .i64 9]) ckP hsN rfl (mt (mt (mt mh))) rfl rfl ty_25 rfl rfl ?_
            refine QF.ln ?_
            exact LF.aend (Old.refl _) ⟨rfl, (show inI64 0 by unfold inI64; omega), (show inI64 5 by unfold inI64; omega), (show inI64 9 by unfold inI64; omega), (show inI64 9 by unfold inI64; omega)⟩
          refine SAll.cons rfl ?_ ?_
          · intro mq hh o
            intro u242 f243 u244 f245 u246 f247
            have hsN := SN.st hs98 o
            obtain ⟨rfl, r248, r249, r250, r251⟩ := f243
            obtain ⟨rfl, r252, r253, r254, r255⟩ := f245
            obtain rfl : u246 = .bool true := Eq.trans f247 (congrArg Value.bool c129)
            refine ⟨29, rfl, .inl ⟨rfl, ?_⟩⟩
            refine LF.callb rfl rfl rfl ca_7 rfl hsN (harm_Less_ret (St.all _) (RGHarm.mk (x := (⟨1, 0, 0, 0⟩ : GHarm)) ⟨r248, r249, r250, r251⟩) (RGHarm.mk (x := (⟨0, 5, 9, 9⟩ : GHarm)) ⟨r252, r253, r254, r255⟩) hy214) fun v256 S257 h258 hs260 e259 e262 p => ?_
            obtain ⟨rfl, hq261⟩ := p
            exact LF.aend ⟨e262.siz, fun b hb => e262.same b hb⟩ rfl
          refine SAll.cons rfl ?_ ?_
          · intro mq hh o
            intro u263 f264 u265 f266
            have hsN := SN.st hs98 o
            cases f264
            obtain rfl : u265 = .bool true := Eq.trans f266 (congrArg Value.bool c129)
            refine ⟨29, rfl, .inl ⟨rfl, ?_⟩⟩
            refine LF.q 1 ?_
            refine QF.not rfl rfl ?_
            refine QF.ln ?_
            exact LF.aend (Old.refl _) rfl
          refine SAll.cons rfl ?_ ?_
          · intro mq hh o
            intro u267 f268 u269 f270
            have hsN := SN.st hs98 o
            obtain rfl : u267 = .bool true := Eq.trans f268 (congrArg Value.bool c129)
            cases f270
            refine LF.q 1 ?_
            refine QF.pick rfl rfl rfl ?_
            refine QF.ln ?_
            exact LF.aend (Old.refl _) rfl
          refine SAll.cons rfl ?_ ?_
          · intro mq hh o
            intro u271 f272
            have hsN := SN.st hs98 o
            cases f272
            refine LF.q 1 ?_
            refine QF.mv rfl rfl ?_
            refine QF.ln ?_
            exact LF.aend (Old.refl _) rfl
          refine SAll.cons rfl ?_ ?_
          · intro mq hh o
            intro u273 f274
            have hsN := SN.st hs98 o
            obtain rfl : u273 = .bool false := Eq.trans f274 (congrArg Value.bool c216)
            exact ⟨35, rfl, .inr ⟨_, rfl, (by simp [yb, undef]), rfl⟩⟩
          refine SAll.cons rfl ?_ ?_
          · intro mq hh o
            intro u275 f276
            have hsN := SN.st hs98 o
            obtain rfl : u275 = .bool false := Eq.trans f276 (congrArg Value.bool c216)
            exact ⟨35, rfl, .inr ⟨_, rfl, (by simp [yb, undef]), rfl⟩⟩
          refine SAll.cons rfl ?_ ?_
          · intro mq hh o
            intro u277 f278
            have hsN := SN.st hs98 o
            obtain rfl : u277 = .bool false := Eq.trans f278 (congrArg Value.bool c216)
            exact ⟨35, rfl, .inr ⟨_, rfl, (by simp [yb, undef]), rfl⟩⟩
          refine SAll.cons rfl ?_ ?_
          · intro mq hh o
            intro u279 f280
            have hsN := SN.st hs98 o
            obtain rfl : u279 = .bool false := Eq.trans f280 (congrArg Value.bool c216)
            exact ⟨35, rfl, .inr ⟨_, rfl, (by simp [yb, undef]), rfl⟩⟩
          refine SAll.cons rfl ?_ ?_
          · intro mq hh o
            intro u281 f282
            have hsN := SN.st hs98 o
            obtain rfl : u281 = .bool false := Eq.trans f282 (congrArg Value.bool c216)
            exact ⟨35, rfl, .inr ⟨_, rfl, (by simp [yb, undef]), rfl⟩⟩
          refine SAll.cons rfl ?_ ?_
          · intro mq hh o
            intro u283 f284
            have hsN := SN.st hs98 o
            obtain rfl : u283 = .bool false := Eq.trans f284 (congrArg Value.bool c216)
            exact ⟨35, rfl, .inr ⟨_, rfl, (by simp [yb, undef]), rfl⟩⟩
          refine SAll.cons rfl ?_ ?_
          · intro mq hh o
            intro u285 f286
            have hsN := SN.st hs98 o
            obtain rfl : u285 = .bool false := Eq.trans f286 (congrArg Value.bool c216)
            exact ⟨35, rfl, .inr ⟨_, rfl, (by simp [yb, undef]), rfl⟩⟩
          refine SAll.cons rfl ?_ ?_
          · intro mq hh o
            intro u287 f288 u289 f290
            have hsN := SN.st hs98 o
            obtain rfl : u287 = .bool false := Eq.trans f288 (congrArg Value.bool c216)
            cases f290
            refine LF.q 1 ?_
            refine QF.pick rfl rfl rfl ?_
            refine QF.ln ?_
            exact LF.aend (Old.refl _) rfl
          refine SAll.cons rfl ?_ ?_
          · intro mq hh o
            intro u291 f292
            have hsN := SN.st hs98 o
            cases f292
            refine LF.q 1 ?_
            refine QF.mv rfl rfl ?_
            refine QF.ln ?_
            exact LF.aend (Old.refl _) rfl
          refine SAll.cons rfl ?_ ?_
          · intro mq hh o
            intro u293 f294
            have hsN := SN.st hs98 o
            cases f294
            exact ⟨44, rfl, .inr ⟨_, rfl, (by simp [yb, undef]), rfl⟩⟩
          refine SAll.cons rfl ?_ ?_
          · intro mq hh o
            intro u295 f296
            have hsN := SN.st hs98 o
            cases f296
            exact ⟨44, rfl, .inr ⟨_, rfl, (by simp [yb, undef]), rfl⟩⟩
          refine SAll.cons rfl ?_ ?_
          · intro mq hh o
            intro u297 f298
            have hsN := SN.st hs98 o
            cases f298
            exact ⟨44, rfl, .inr ⟨_, rfl, (by simp [yb, undef]), rfl⟩⟩
          refine SAll.cons rfl ?_ ?_
          · intro mq hh o
            intro u299 f300 u301 f302
            have hsN := SN.st hs98 o
            cases f300
            cases f302
            refine LF.q 1 ?_
            refine QF.pick rfl rfl rfl ?_
            refine QF.ln ?_
            exact LF.aend (Old.refl _) rfl
          refine SAll.cons rfl ?_ ?_
          · intro mq hh o
            intro u303 f304
            have hsN := SN.st hs98 o
            cases f304
            refine LF.q 1 ?_
            refine QF.mv rfl rfl ?_
            refine QF.ln ?_
            exact LF.aend (Old.refl _) rfl
          refine SAll.cons rfl ?_ ?_
          · intro mq hh o
            intro u305 f306
            have hsN := SN.st hs98 o
            cases f306
            exact ⟨49, rfl, .inr ⟨_, rfl, (by simp [yb, undef]), rfl⟩⟩
          refine SAll.cons rfl ?_ ?_
          · intro mq hh o
            intro u307 f308
            have hsN := SN.st hs98 o
            cases f308
            exact ⟨49, rfl, .inr ⟨_, rfl, (by simp [yb, undef]), rfl⟩⟩
          refine SAll.cons rfl ?_ ?_
          · intro mq hh o
            intro u309 f310
            have hsN := SN.st hs98 o
            cases f310
            exact ⟨49, rfl, .inr ⟨_, rfl, (by simp [yb, undef]), rfl⟩⟩
          refine SAll.cons rfl ?_ ?_
          · intro mq hh o
            intro u311 f312 u313 f314
            have hsN := SN.st hs98 o
            cases f312
            cases f314
            refine LF.q 1 ?_
            refine QF.pick rfl rfl rfl ?_
            refine QF.ln ?_
            exact LF.aend (Old.refl _) rfl
          refine SAll.cons rfl ?_ ?_
          · intro mq hh o
            intro u315 f316
            have hsN := SN.st hs98 o
            cases f316
            refine LF.q 1 ?_
            refine QF.as_ rfl rfl ?_
            refine QF.ln ?_
            exact LF.aend (Old.refl _) rfl
          exact trivial
        intro h317 o318 u319 f320
        have hs321 := SN.st hs98 o318
        cases f320
        refine LF.nil (sb 0 rfl sb0) ?_
        exact WF.nil (fun aa ww hf hw => ⟨_, _, hf.sub (sb 0 rfl sb0), hw, hs321, (SN.ext hs98.1 o318)⟩)
      · skip
        have hb120 := cdT c216 hb120
        obtain ⟨y331, hy331, hb120⟩ := bd hb120
        cases hb120
        cases c337 : (eqC y331.v (⟨1, 0, 0, 0⟩ : GHarm).v)
        · skip
          have hb127 := cdF c337 hb127
          cases hb127
          refine WF.ra (m := [(5, .pointer (some ⟨b93, 0, none⟩)), (2, .pointer (some ⟨b8, 0, none⟩)), (1, .pointer (some ⟨b1, 0, none⟩))]) 29 (fun i v hh => match i with | 0 => v = .agg #[.int .i64 0, .int .i64 5, .int .i64 9, .int .i64 9] ∧ inI64 0 ∧ inI64 5 ∧ inI64 9 ∧ inI64 9 | 1 => v = .agg #[.int .i64 1, .int .i64 0, .int .i64 0, .int .i64 0] ∧ inI64 1 ∧ inI64 0 ∧ inI64 0 ∧ inI64 0 | 2 => v = .bool y100 | 3 => v = .bool y100 | 4 => v = .agg #[.int .i64 1, .int .i64 0, .int .i64 0, .int .i64 0] ∧ inI64 1 ∧ inI64 0 ∧ inI64 0 ∧ inI64 0 | 5 => v = .agg #[.int .i64 0, .int .i64 5, .int .i64 9, .int .i64 9] ∧ inI64 0 ∧ inI64 5 ∧ inI64 9 ∧ inI64 9 | 6 => v = .bool y214 | 7 => v = .bool (!y214) | 8 => v = .bool (!y214) | 9 => v = .bool (!y214) | 10 => v = .agg #[.int .i64 0, .int .i64 5, .int .i64 9, .int .i64 9] ∧ inI64 0 ∧ inI64 5 ∧ inI64 9 ∧ inI64 9 | 11 => v = .agg #[.int .i64 1, .int .i64 0, .int .i64 0, .int .i64 0] ∧ inI64 1 ∧ inI64 0 ∧ inI64 0 ∧ inI64 0 | 12 => v = .agg #[.int .i64 0, .int .i64 5, .int .i64 9, .int .i64 9] ∧ inI64 0 ∧ inI64 5 ∧ inI64 9 ∧ inI64 9 | 13 => Sl (SN S73 h97 hh) hh RGHarm v ([(⟨0, 5, 9, 9⟩ : GHarm), (⟨1, 0, 0, 0⟩ : GHarm), (⟨0, 5, 9, 9⟩ : GHarm)] : List GHarm) | 14 => v = .agg #[.int .i64 y331.Flood, .int .i64 y331.Spill, .int .i64 y331.Short, .int .i64 y331.Moves] ∧ inI64 y331.Flood ∧ inI64 y331.Spill ∧ inI64 y331.Short ∧ inI64 y331.Moves | 15 => v = .agg #[.int .i64 1, .int .i64 0, .int .i64 0, .int .i64 0] ∧ inI64 1 ∧ inI64 0 ∧ inI64 0 ∧ inI64 0 | 16 => v = .bool (eqC y331.v (⟨1, 0, 0, 0⟩ : GHarm).v) | 17 => v = .bool (eqC y331.v (⟨1, 0, 0, 0⟩ : GHarm).v) | 18 => v = .bool (eqC y331.v (⟨1, 0, 0, 0⟩ : GHarm).v) | 19 => v = undef | 20 => v = undef | 21 => v = undef | 22 => v = .bool false | 23 => v = .bool false | 24 => v = undef | 25 => v = undef | 26 => v = undef | 27 => v = .bool false | 28 => v = .bool false | _ => False) [[], [], [(0, 26), (1, 27)], [(2, 28)], [(3, 29)], [(3, 29)], [(4, 30), (5, 31), (3, 29)], [(6, 32), (3, 29)], [(3, 29), (7, 33)], [(8, 34)], [(9, 35)], [(9, 35)], [(9, 35)], [(10, 36), (11, 37), (12, 38), (9, 35)], [(13, 39), (9, 35)], [(9, 35)], [(14, 40), (15, 41), (9, 35)], [(9, 35), (16, 42)], [(17, 43)], [(18, 44)], [(18, 44)], [(18, 44)], [(18, 44), (21, 47)], [(22, 48)], [(23, 49)], [(23, 49)], [(23, 49)], [(23, 49), (26, 52)], [(27, 53)]] [(28, 0)] mo (by kernel_rfl) [5, 2, 1] rfl (by kernel_rfl) (by kernel_rfl) (by kernel_rfl) (sb 5 rfl (sb 2 rfl (sb 1 rfl sb0))) (fun i v h1 h2 o1 o2 hr => ?_) ?_ ?_
          · match i, hr with
            | 0, hr => exact hr
            | 1, hr => exact hr
            | 2, hr => exact hr
            | 3, hr => exact hr
            | 4, hr => exact hr
            | 5, hr => exact hr
            | 6, hr => exact hr
            | 7, hr => exact hr
            | 8, hr => exact hr
            | 9, hr => exact hr
            | 10, hr => exact hr
            | 11, hr => exact hr
            | 12, hr => exact hr
            | 13, hr => exact Sl.mono' hr (SN.mono hs98.1 o1 o2)
            | 14, hr => exact hr
            | 15, hr => exact hr
            | 16, hr => exact hr
            | 17, hr => exact hr
            | 18, hr => exact hr
            | 19, hr => exact hr
            | 20, hr => exact hr
            | 21, hr => exact hr
            | 22, hr => exact hr
            | 23, hr => exact hr
            | 24, hr => exact hr
            | 25, hr => exact hr
            | 26, hr => exact hr
            | 27, hr => exact hr
            | 28, hr => exact hr
            | _ + 29, hr => exact hr.elim
          · skip
            refine SAll.cons rfl ?_ ?_
            · intro mq hh o
              have hsN := SN.st hs98 o
              refine LF.q 1 ?_
              refine QF.ldo (vs := [.int .i64 0, .int .i64 5, .int .i64 9, .int .i64 9]) ckP hsN rfl (mt (mt (mt mh))) rfl rfl ty_25 rfl rfl ?_
              refine QF.ln ?_
              exact LF.aend (Old.refl _) ⟨rfl, (show inI64 0 by unfold inI64; omega), (show inI64 5 by unfold inI64; omega), (show inI64 9 by unfold inI64; omega), (show inI64 9 by unfold inI64; omega)⟩
            refine SAll.cons rfl ?_ ?_
            · intro mq hh o
              have hsN := SN.st hs98 o
              refine LF.q 1 ?_
              refine QF.ldo (vs := [.int .i64 1, .int .i64 0, .int .i64 0, .int .i64 0]) ckP hsN rfl (mt (mt mh)) rfl rfl ty_25 rfl rfl ?_
              refine QF.ln ?_
              exact LF.aend (Old.refl _) ⟨rfl, (show inI64 1 by unfold inI64; omega), (show inI64 0 by unfold inI64; omega), (show inI64 0 by unfold inI64; omega), (show inI64 0 by unfold inI64; omega)⟩
            refine SAll.cons rfl ?_ ?_
            · intro mq hh o
              intro u338 f339 u340 f341
              have hsN := SN.st hs98 o
              obtain ⟨rfl, r342, r343, r344, r345⟩ := f339
              obtain ⟨rfl, r346, r347, r348, r349⟩ := f341
              refine LF.callb rfl rfl rfl ca_7 rfl hsN (harm_Less_ret (St.all _) (RGHarm.mk (x := (⟨0, 5, 9, 9⟩ : GHarm)) ⟨r342, r343, r344, r345⟩) (RGHarm.mk (x := (⟨1, 0, 0, 0⟩ : GHarm)) ⟨r346, r347, r348, r349⟩) hy100) fun v350 S351 h352 hs354 e353 e356 p => ?_
              obtain ⟨rfl, hq355⟩ := p
              exact LF.aend ⟨e356.siz, fun b hb => e356.same b hb⟩ rfl
            refine SAll.cons rfl ?_ ?_
            · intro mq hh o
              intro u357 f358
              have hsN := SN.st hs98 o
              cases f358
              refine LF.q 1 ?_
              refine QF.mv rfl rfl ?_
              refine QF.ln ?_
              exact LF.aend (Old.refl _) rfl
            refine SAll.cons rfl ?_ ?_
            · intro mq hh o
              intro u359 f360
              have hsN := SN.st hs98 o
              obtain rfl : u359 = .bool true := Eq.trans f360 (congrArg Value.bool c129)
              refine ⟨29, rfl, .inl ⟨rfl, ?_⟩⟩
              refine LF.q 1 ?_
              refine QF.ldo (vs := [.int .i64 1, .int .i64 0, .int .i64 0, .int .i64 0]) ckP hsN rfl (mt (mt mh)) rfl rfl ty_25 rfl rfl ?_
              refine QF.ln ?_
              exact LF.aend (Old.refl _) ⟨rfl, (show inI64 1 by unfold inI64; omega), (show inI64 0 by unfold inI64; omega), (show inI64 0 by unfold inI64; omega), (show inI64 0 by unfold inI64; omega)⟩
            refine SAll.cons rfl ?_ ?_
            · intro mq hh o
              intro u361 f362
              have hsN := SN.st hs98 o
              obtain rfl : u361 = .bool true := Eq.trans f362 (congrArg Value.bool c129)
              refine ⟨29, rfl, .inl ⟨rfl, ?_⟩⟩
              refine LF.q 1 ?_
              refine QF.ldo (vs := [.int .i64 0, .int .i64 5, .int .i64 9, .int .i64 9]) ckP hsN rfl (mt (mt (mt mh))) rfl rfl ty_25 rfl rfl ?_
              refine QF.ln ?_
              exact LF.aend (Old.refl _) ⟨rfl, (show inI64 0 by unfold inI64; omega), (show inI64 5 by unfold inI64; omega), (show inI64 9 by unfold inI64; omega), (show inI64 9 by unfold inI64; omega)⟩
            refine SAll.cons rfl ?_ ?_
            · intro mq hh o
              intro u363 f364 u365 f366 u367 f368
              have hsN := SN.st hs98 o
              obtain ⟨rfl, r369, r370, r371, r372⟩ := f364
              obtain ⟨rfl, r373, r374, r375, r376⟩ := f366
              obtain rfl : u367 = .bool true := Eq.trans f368 (congrArg Value.bool c129)
              refine ⟨29, rfl, .inl ⟨rfl, ?_⟩⟩
              refine LF.callb rfl rfl rfl ca_7 rfl hsN (harm_Less_ret (St.all _) (RGHarm.mk (x := (⟨1, 0, 0, 0⟩ : GHarm)) ⟨r369, r370, r371, r372⟩) (RGHarm.mk (x := (⟨0, 5, 9, 9⟩ : GHarm)) ⟨r373, r374, r375, r376⟩) hy214) fun v377 S378 h379 hs381 e380 e383 p => ?_
              obtain ⟨rfl, hq382⟩ := p
              exact LF.aend ⟨e383.siz, fun b hb => e383.same b hb⟩ rfl
            refine SAll.cons rfl ?_ ?_
            · intro mq hh o
              intro u384 f385 u386 f387
              have hsN := SN.st hs98 o
              cases f385
              obtain rfl : u386 = .bool true := Eq.trans f387 (congrArg Value.bool c129)
              refine ⟨29, rfl, .inl ⟨rfl, ?_⟩⟩
              refine LF.q 1 ?_
              refine QF.not rfl rfl ?_
              refine QF.ln ?_
              exact LF.aend (Old.refl _) rfl
            refine SAll.cons rfl ?_ ?_
            · intro mq hh o
              intro u388 f389 u390 f391
              have hsN := SN.st hs98 o
              obtain rfl : u388 = .bool true := Eq.trans f389 (congrArg Value.bool c129)
              cases f391
              refine LF.q 1 ?_
              refine QF.pick rfl rfl rfl ?_
              refine QF.ln ?_
              exact LF.aend (Old.refl _) rfl
            refine SAll.cons rfl ?_ ?_
            · intro mq hh o
              intro u392 f393
              have hsN := SN.st hs98 o
              cases f393
              refine LF.q 1 ?_
              refine QF.mv rfl rfl ?_
              refine QF.ln ?_
              exact LF.aend (Old.refl _) rfl
            refine SAll.cons rfl ?_ ?_
            · intro mq hh o
              intro u394 f395
              have hsN := SN.st hs98 o
              obtain rfl : u394 = .bool true := Eq.trans f395 (congrArg Value.bool c216)
              refine ⟨35, rfl, .inl ⟨rfl, ?_⟩⟩
              refine LF.q 1 ?_
              refine QF.ldo (vs := [.int .i64 0, .int .i64 5, .int .i64 9, .int .i64 9]) ckP hsN rfl (mt (mt (mt mh))) rfl rfl ty_25 rfl rfl ?_
              refine QF.ln ?_
              exact LF.aend (Old.refl _) ⟨rfl, (show inI64 0 by unfold inI64; omega), (show inI64 5 by unfold inI64; omega), (show inI64 9 by unfold inI64; omega), (show inI64 9 by unfold inI64; omega)⟩
            refine SAll.cons rfl ?_ ?_
            · intro mq hh o
              intro u396 f397
              have hsN := SN.st hs98 o
              obtain rfl : u396 = .bool true := Eq.trans f397 (congrArg Value.bool c216)
              refine ⟨35, rfl, .inl ⟨rfl, ?_⟩⟩
              refine LF.q 1 ?_
              refine QF.ldo (vs := [.int .i64 1, .int .i64 0, .int .i64 0, .int .i64 0]) ckP hsN rfl (mt (mt mh)) rfl rfl ty_25 rfl rfl ?_
              refine QF.ln ?_
              exact LF.aend (Old.refl _) ⟨rfl, (show inI64 1 by unfold inI64; omega), (show inI64 0 by unfold inI64; omega), (show inI64 0 by unfold inI64; omega), (show inI64 0 by unfold inI64; omega)⟩
            refine SAll.cons rfl ?_ ?_
            · intro mq hh o
              intro u398 f399
              have hsN := SN.st hs98 o
              obtain rfl : u398 = .bool true := Eq.trans f399 (congrArg Value.bool c216)
              refine ⟨35, rfl, .inl ⟨rfl, ?_⟩⟩
              refine LF.q 1 ?_
              refine QF.ldo (vs := [.int .i64 0, .int .i64 5, .int .i64 9, .int .i64 9]) ckP hsN rfl (mt (mt (mt mh))) rfl rfl ty_25 rfl rfl ?_
              refine QF.ln ?_
              exact LF.aend (Old.refl _) ⟨rfl, (show inI64 0 by unfold inI64; omega), (show inI64 5 by unfold inI64; omega), (show inI64 9 by unfold inI64; omega), (show inI64 9 by unfold inI64; omega)⟩
            refine SAll.cons rfl ?_ ?_
            · intro mq hh o
              intro u400 f401 u402 f403 u404 f405 u406 f407
              have hsN := SN.st hs98 o
              obtain ⟨rfl, r408, r409, r410, r411⟩ := f401
              obtain ⟨rfl, r412, r413, r414, r415⟩ := f403
              obtain ⟨rfl, r416, r417, r418, r419⟩ := f405
              obtain rfl : u406 = .bool true := Eq.trans f407 (congrArg Value.bool c216)
              refine ⟨35, rfl, .inl ⟨rfl, ?_⟩⟩
              have hsF := hsN.fz
              refine LF.bsq (cs := [.int .i64 0, .int .i64 5, .int .i64 9, .int .i64 9, .int .i64 1, .int .i64 0, .int .i64 0, .int .i64 0, .int .i64 0, .int .i64 5, .int .i64 9, .int .i64 9]) el_22 rfl rfl rfl rfl rfl rfl rfl hsF fun b420 h421 hs422 e423 => ?_
              have hs424 := hs422.bxos (r := RGHarm) (l := ([(⟨0, 5, 9, 9⟩ : GHarm), (⟨1, 0, 0, 0⟩ : GHarm), (⟨0, 5, 9, 9⟩ : GHarm)] : List GHarm)) .head ⟨_, _, rfl, ⟨rfl, ⟨r408, r409, r410, r411⟩⟩, ⟨_, _, rfl, ⟨rfl, ⟨r412, r413, r414, r415⟩⟩, ⟨_, _, rfl, ⟨rfl, ⟨r416, r417, r418, r419⟩⟩, rfl⟩⟩⟩ (by simp [maxLen])
              obtain ⟨S425, hs426, e427, k428⟩ := hs424.pubs .head
              have dn429 := Fz.done o (e423.trans e427) hs426
              exact LF.aend dn429.1 (Sl.mono' k428 dn429.2)
            refine SAll.cons rfl ?_ ?_
            · intro mq hh o
              intro u430 f431 u432 f433
              have hsN := SN.st hs98 o
              have f431 : Sl _ _ RGHarm u430 ([(⟨0, 5, 9, 9⟩ : GHarm), (⟨1, 0, 0, 0⟩ : GHarm), (⟨0, 5, 9, 9⟩ : GHarm)] : List GHarm) := f431
              obtain rfl : u432 = .bool true := Eq.trans f433 (congrArg Value.bool c216)
              refine ⟨35, rfl, .inl ⟨rfl, ?_⟩⟩
              refine LF.callb rfl rfl rfl ca_6 rfl hsN (harm_Worst_ret (St.all _) (f431.mono (fun b hb => hsN.1 b hb) (fun _ _ => rfl)) hy331) fun v434 S435 h436 hs438 e437 e444 p => ?_
              obtain ⟨rfl, ⟨r439, r440, r441, r442⟩, hq443⟩ := p
              exact LF.aend ⟨e444.siz, fun b hb => e444.same b hb⟩ ⟨rfl, r439, r440, r441, r442⟩
            refine SAll.cons rfl ?_ ?_
            · intro mq hh o
              intro u445 f446
              have hsN := SN.st hs98 o
              obtain rfl : u445 = .bool true := Eq.trans f446 (congrArg Value.bool c216)
              refine ⟨35, rfl, .inl ⟨rfl, ?_⟩⟩
              refine LF.q 1 ?_
              refine QF.ldo (vs := [.int .i64 1, .int .i64 0, .int .i64 0, .int .i64 0]) ckP hsN rfl (mt (mt mh)) rfl rfl ty_25 rfl rfl ?_
              refine QF.ln ?_
              exact LF.aend (Old.refl _) ⟨rfl, (show inI64 1 by unfold inI64; omega), (show inI64 0 by unfold inI64; omega), (show inI64 0 by unfold inI64; omega), (show inI64 0 by unfold inI64; omega)⟩
            refine SAll.cons rfl ?_ ?_
            · intro mq hh o
              intro u447 f448 u449 f450 u451 f452
              have hsN := SN.st hs98 o
              obtain ⟨rfl, r453, r454, r455, r456⟩ := f448
              obtain ⟨rfl, r457, r458, r459, r460⟩ := f450
              obtain rfl : u451 = .bool true := Eq.trans f452 (congrArg Value.bool c216)
              refine ⟨35, rfl, .inl ⟨rfl, ?_⟩⟩
              refine LF.q 1 ?_
              refine QF.eqs rfl rfl fl_25 rfl rfl rfl rfl ?_
              refine QF.ln ?_
              exact LF.aend (Old.refl _) rfl
            refine SAll.cons rfl ?_ ?_
            · intro mq hh o
              intro u461 f462 u463 f464
              have hsN := SN.st hs98 o
              obtain rfl : u461 = .bool true := Eq.trans f462 (congrArg Value.bool c216)
              cases f464
              refine LF.q 1 ?_
              refine QF.pick rfl rfl rfl ?_
              refine QF.ln ?_
              exact LF.aend (Old.refl _) rfl
            refine SAll.cons rfl ?_ ?_
            · intro mq hh o
              intro u465 f466
              have hsN := SN.st hs98 o
              cases f466
              refine LF.q 1 ?_
              refine QF.mv rfl rfl ?_
              refine QF.ln ?_
              exact LF.aend (Old.refl _) rfl
            refine SAll.cons rfl ?_ ?_
            · intro mq hh o
              intro u467 f468
              have hsN := SN.st hs98 o
              obtain rfl : u467 = .bool false := Eq.trans f468 (congrArg Value.bool c337)
              exact ⟨44, rfl, .inr ⟨_, rfl, (by simp [yb, undef]), rfl⟩⟩
            refine SAll.cons rfl ?_ ?_
            · intro mq hh o
              intro u469 f470
              have hsN := SN.st hs98 o
              obtain rfl : u469 = .bool false := Eq.trans f470 (congrArg Value.bool c337)
              exact ⟨44, rfl, .inr ⟨_, rfl, (by simp [yb, undef]), rfl⟩⟩
            refine SAll.cons rfl ?_ ?_
            · intro mq hh o
              intro u471 f472
              have hsN := SN.st hs98 o
              obtain rfl : u471 = .bool false := Eq.trans f472 (congrArg Value.bool c337)
              exact ⟨44, rfl, .inr ⟨_, rfl, (by simp [yb, undef]), rfl⟩⟩
            refine SAll.cons rfl ?_ ?_
            · intro mq hh o
              intro u473 f474 u475 f476
              have hsN := SN.st hs98 o
              obtain rfl : u473 = .bool false := Eq.trans f474 (congrArg Value.bool c337)
              cases f476
              refine LF.q 1 ?_
              refine QF.pick rfl rfl rfl ?_
              refine QF.ln ?_
              exact LF.aend (Old.refl _) rfl
            refine SAll.cons rfl ?_ ?_
            · intro mq hh o
              intro u477 f478
              have hsN := SN.st hs98 o
              cases f478
              refine LF.q 1 ?_
              refine QF.mv rfl rfl ?_
              refine QF.ln ?_
              exact LF.aend (Old.refl _) rfl
            refine SAll.cons rfl ?_ ?_
            · intro mq hh o
              intro u479 f480
              have hsN := SN.st hs98 o
              cases f480
              exact ⟨49, rfl, .inr ⟨_, rfl, (by simp [yb, undef]), rfl⟩⟩
            refine SAll.cons rfl ?_ ?_
            · intro mq hh o
              intro u481 f482
              have hsN := SN.st hs98 o
              cases f482
              exact ⟨49, rfl, .inr ⟨_, rfl, (by simp [yb, undef]), rfl⟩⟩
            refine SAll.cons rfl ?_ ?_
            · intro mq hh o
              intro u483 f484
              have hsN := SN.st hs98 o
              cases f484
              exact ⟨49, rfl, .inr ⟨_, rfl, (by simp [yb, undef]), rfl⟩⟩
            refine SAll.cons rfl ?_ ?_
            · intro mq hh o
              intro u485 f486 u487 f488
              have hsN := SN.st hs98 o
              cases f486
              cases f488
              refine LF.q 1 ?_
              refine QF.pick rfl rfl rfl ?_
              refine QF.ln ?_
              exact LF.aend (Old.refl _) rfl
            refine SAll.cons rfl ?_ ?_
            · intro mq hh o
              intro u489 f490
              have hsN := SN.st hs98 o
              cases f490
              refine LF.q 1 ?_
              refine QF.as_ rfl rfl ?_
              refine QF.ln ?_
              exact LF.aend (Old.refl _) rfl
            exact trivial
          intro h491 o492 u493 f494
          have hs495 := SN.st hs98 o492
          cases f494
          refine LF.nil (sb 0 rfl sb0) ?_
          exact WF.nil (fun aa ww hf hw => ⟨_, _, hf.sub (sb 0 rfl sb0), hw, hs495, (SN.ext hs98.1 o492)⟩)
        · skip
          have hb127 := cdT c337 hb127
          obtain ⟨y496, hy496, hb127⟩ := bd hb127
          cases hb127
          cases c502 : (eqC y496.v (⟨0, 0, 0, 0⟩ : GHarm).v)
          · skip
            refine WF.ra (m := [(5, .pointer (some ⟨b93, 0, none⟩)), (2, .pointer (some ⟨b8, 0, none⟩)), (1, .pointer (some ⟨b1, 0, none⟩))]) 29 (fun i v hh => match i with | 0 => v = .agg #[.int .i64 0, .int .i64 5, .int .i64 9, .int .i64 9] ∧ inI64 0 ∧ inI64 5 ∧ inI64 9 ∧ inI64 9 | 1 => v = .agg #[.int .i64 1, .int .i64 0, .int .i64 0, .int .i64 0] ∧ inI64 1 ∧ inI64 0 ∧ inI64 0 ∧ inI64 0 | 2 => v = .bool y100 | 3 => v = .bool y100 | 4 => v = .agg #[.int .i64 1, .int .i64 0, .int .i64 0, .int .i64 0] ∧ inI64 1 ∧ inI64 0 ∧ inI64 0 ∧ inI64 0 | 5 => v = .agg #[.int .i64 0, .int .i64 5, .int .i64 9, .int .i64 9] ∧ inI64 0 ∧ inI64 5 ∧ inI64 9 ∧ inI64 9 | 6 => v = .bool y214 | 7 => v = .bool (!y214) | 8 => v = .bool (!y214) | 9 => v = .bool (!y214) | 10 => v = .agg #[.int .i64 0, .int .i64 5, .int .i64 9, .int .i64 9] ∧ inI64 0 ∧ inI64 5 ∧ inI64 9 ∧ inI64 9 | 11 => v = .agg #[.int .i64 1, .int .i64 0, .int .i64 0, .int .i64 0] ∧ inI64 1 ∧ inI64 0 ∧ inI64 0 ∧ inI64 0 | 12 => v = .agg #[.int .i64 0, .int .i64 5, .int .i64 9, .int .i64 9] ∧ inI64 0 ∧ inI64 5 ∧ inI64 9 ∧ inI64 9 | 13 => Sl (SN S73 h97 hh) hh RGHarm v ([(⟨0, 5, 9, 9⟩ : GHarm), (⟨1, 0, 0, 0⟩ : GHarm), (⟨0, 5, 9, 9⟩ : GHarm)] : List GHarm) | 14 => v = .agg #[.int .i64 y331.Flood, .int .i64 y331.Spill, .int .i64 y331.Short, .int .i64 y331.Moves] ∧ inI64 y331.Flood ∧ inI64 y331.Spill ∧ inI64 y331.Short ∧ inI64 y331.Moves | 15 => v = .agg #[.int .i64 1, .int .i64 0, .int .i64 0, .int .i64 0] ∧ inI64 1 ∧ inI64 0 ∧ inI64 0 ∧ inI64 0 | 16 => v = .bool (eqC y331.v (⟨1, 0, 0, 0⟩ : GHarm).v) | 17 => v = .bool (eqC y331.v (⟨1, 0, 0, 0⟩ : GHarm).v) | 18 => v = .bool (eqC y331.v (⟨1, 0, 0, 0⟩ : GHarm).v) | 19 => v = .agg #[.int .i64 y496.Flood, .int .i64 y496.Spill, .int .i64 y496.Short, .int .i64 y496.Moves] ∧ inI64 y496.Flood ∧ inI64 y496.Spill ∧ inI64 y496.Short ∧ inI64 y496.Moves | 20 => v = .agg #[.int .i64 0, .int .i64 0, .int .i64 0, .int .i64 0] ∧ inI64 0 ∧ inI64 0 ∧ inI64 0 ∧ inI64 0 | 21 => v = .bool (eqC y496.v (⟨0, 0, 0, 0⟩ : GHarm).v) | 22 => v = .bool (eqC y496.v (⟨0, 0, 0, 0⟩ : GHarm).v) | 23 => v = .bool (eqC y496.v (⟨0, 0, 0, 0⟩ : GHarm).v) | 24 => v = undef | 25 => v = undef | 26 => v = undef | 27 => v = .bool false | 28 => v = .bool false | _ => False) [[], [], [(0, 26), (1, 27)], [(2, 28)], [(3, 29)], [(3, 29)], [(4, 30), (5, 31), (3, 29)], [(6, 32), (3, 29)], [(3, 29), (7, 33)], [(8, 34)], [(9, 35)], [(9, 35)], [(9, 35)], [(10, 36), (11, 37), (12, 38), (9, 35)], [(13, 39), (9, 35)], [(9, 35)], [(14, 40), (15, 41), (9, 35)], [(9, 35), (16, 42)], [(17, 43)], [(18, 44)], [(18, 44)], [(19, 45), (20, 46), (18, 44)], [(18, 44), (21, 47)], [(22, 48)], [(23, 49)], [(23, 49)], [(23, 49)], [(23, 49), (26, 52)], [(27, 53)]] [(28, 0)] mo (by kernel_rfl) [5, 2, 1] rfl (by kernel_rfl) (by kernel_rfl) (by kernel_rfl) (sb 5 rfl (sb 2 rfl (sb 1 rfl sb0))) (fun i v h1 h2 o1 o2 hr => ?_) ?_ ?_
            · match i, hr with
              | 0, hr => exact hr
              | 1, hr => exact hr
              | 2, hr => exact hr
              | 3, hr => exact hr
              | 4, hr => exact hr
              | 5, hr => exact hr
              | 6, hr => exact hr
              | 7, hr => exact hr
              | 8, hr => exact hr
              | 9, hr => exact hr
              | 10, hr => exact hr
              | 11, hr => exact hr
              | 12, hr => exact hr
              | 13, hr => exact Sl.mono' hr (SN.mono hs98.1 o1 o2)
              | 14, hr => exact hr
              | 15, hr => exact hr
              | 16, hr => exact hr
              | 17, hr => exact hr
              | 18, hr => exact hr
              | 19, hr => exact hr
              | 20, hr => exact hr
              | 21, hr => exact hr
              | 22, hr => exact hr
              | 23, hr => exact hr
              | 24, hr => exact hr
              | 25, hr => exact hr
              | 26, hr => exact hr
              | 27, hr => exact hr
              | 28, hr => exact hr
              | _ + 29, hr => exact hr.elim
            · skip
              refine SAll.cons rfl ?_ ?_
              · intro mq hh o
                have hsN := SN.st hs98 o
                refine LF.q 1 ?_
                refine QF.ldo (vs := [.int .i64 0, .int .i64 5, .int .i64 9, .int .i64 9]) ckP hsN rfl (mt (mt (mt mh))) rfl rfl ty_25 rfl rfl ?_
                refine QF.ln ?_
                exact LF.aend (Old.refl _) ⟨rfl, (show inI64 0 by unfold inI64; omega), (show inI64 5 by unfold inI64; omega), (show inI64 9 by unfold inI64; omega), (show inI64 9 by unfold inI64; omega)⟩
              refine SAll.cons rfl ?_ ?_
              · intro mq hh o
                have hsN := SN.st hs98 o
                refine LF.q 1 ?_
                refine QF.ldo (vs := [.int .i64 1, .int .i64 0, .int .i64 0, .int .i64 0]) ckP hsN rfl (mt (mt mh)) rfl rfl ty_25 rfl rfl ?_
                refine QF.ln ?_
                exact LF.aend (Old.refl _) ⟨rfl, (show inI64 1 by unfold inI64; omega), (show inI64 0 by unfold inI64; omega), (show inI64 0 by unfold inI64; omega), (show inI64 0 by unfold inI64; omega)⟩
              refine SAll.cons rfl ?_ ?_
              · intro mq hh o
                intro u503 f504 u505 f506
                have hsN := SN.st hs98 o
                obtain ⟨rfl, r507, r508, r509, r510⟩ := f504
                obtain ⟨rfl, r511, r512, r513, r514⟩ := f506
                refine LF.callb rfl rfl rfl ca_7 rfl hsN (harm_Less_ret (St.all _) (RGHarm.mk (x := (⟨0, 5, 9, 9⟩ : GHarm)) ⟨r507, r508, r509, r510⟩) (RGHarm.mk (x := (⟨1, 0, 0, 0⟩ : GHarm)) ⟨r511, r512, r513, r514⟩) hy100) fun v515 S516 h517 hs519 e518 e521 p => ?_
                obtain ⟨rfl, hq520⟩ := p
                exact LF.aend ⟨e521.siz, fun b hb => e521.same b hb⟩ rfl
              refine SAll.cons rfl ?_ ?_
              · intro mq hh o
                intro u522 f523
                have hsN := SN.st hs98 o
                cases f523
                refine LF.q 1 ?_
                refine QF.mv rfl rfl ?_
                refine QF.ln ?_
                exact LF.aend (Old.refl _) rfl
              refine SAll.cons rfl ?_ ?_
              · intro mq hh o
                intro u524 f525
                have hsN := SN.st hs98 o
                obtain rfl : u524 = .bool true := Eq.trans f525 (congrArg Value.bool c129)
                refine ⟨29, rfl, .inl ⟨rfl, ?_⟩⟩
                refine LF.q 1 ?_
                refine QF.ldo (vs := [.int .i64 1, .int .i64 0, .int .i64 0, .int .i64 0]) ckP hsN rfl (mt (mt mh)) rfl rfl ty_25 rfl rfl ?_
                refine QF.ln ?_
                exact LF.aend (Old.refl _) ⟨rfl, (show inI64 1 by unfold inI64; omega), (show inI64 0 by unfold inI64; omega), (show inI64 0 by unfold inI64; omega), (show inI64 0 by unfold inI64; omega)⟩
              refine SAll.cons rfl ?_ ?_
              · intro mq hh o
                intro u526 f527
                have hsN := SN.st hs98 o
                obtain rfl : u526 = .bool true := Eq.trans f527 (congrArg Value.bool c129)
                refine ⟨29, rfl, .inl ⟨rfl, ?_⟩⟩
                refine LF.q 1 ?_
                refine QF.ldo (vs := [.int .i64 0, .int .i64 5, .int .i64 9, .int .i64 9]) ckP hsN rfl (mt (mt (mt mh))) rfl rfl ty_25 rfl rfl ?_
                refine QF.ln ?_
                exact LF.aend (Old.refl _) ⟨rfl, (show inI64 0 by unfold inI64; omega), (show inI64 5 by unfold inI64; omega), (show inI64 9 by unfold inI64; omega), (show inI64 9 by unfold inI64; omega)⟩
              refine SAll.cons rfl ?_ ?_
              · intro mq hh o
                intro u528 f529 u530 f531 u532 f533
                have hsN := SN.st hs98 o
                obtain ⟨rfl, r534, r535, r536, r537⟩ := f529
                obtain ⟨rfl, r538, r539, r540, r541⟩ := f531
                obtain rfl : u532 = .bool true := Eq.trans f533 (congrArg Value.bool c129)
                refine ⟨29, rfl, .inl ⟨rfl, ?_⟩⟩
                refine LF.callb rfl rfl rfl ca_7 rfl hsN (harm_Less_ret (St.all _) (RGHarm.mk (x := (⟨1, 0, 0, 0⟩ : GHarm)) ⟨r534, r535, r536, r537⟩) (RGHarm.mk (x := (⟨0, 5, 9, 9⟩ : GHarm)) ⟨r538, r539, r540, r541⟩) hy214) fun v542 S543 h544 hs546 e545 e548 p => ?_
                obtain ⟨rfl, hq547⟩ := p
                exact LF.aend ⟨e548.siz, fun b hb => e548.same b hb⟩ rfl
              refine SAll.cons rfl ?_ ?_
              · intro mq hh o
                intro u549 f550 u551 f552
                have hsN := SN.st hs98 o
                cases f550
                obtain rfl : u551 = .bool true := Eq.trans f552 (congrArg Value.bool c129)
                refine ⟨29, rfl, .inl ⟨rfl, ?_⟩⟩
                refine LF.q 1 ?_
                refine QF.not rfl rfl ?_
                refine QF.ln ?_
                exact LF.aend (Old.refl _) rfl
              refine SAll.cons rfl ?_ ?_
              · intro mq hh o
                intro u553 f554 u555 f556
                have hsN := SN.st hs98 o
                obtain rfl : u553 = .bool true := Eq.trans f554 (congrArg Value.bool c129)
                cases f556
                refine LF.q 1 ?_
                refine QF.pick rfl rfl rfl ?_
                refine QF.ln ?_
                exact LF.aend (Old.refl _) rfl
              refine SAll.cons rfl ?_ ?_
              · intro mq hh o
                intro u557 f558
                have hsN := SN.st hs98 o
                cases f558
                refine LF.q 1 ?_
                refine QF.mv rfl rfl ?_
                refine QF.ln ?_
                exact LF.aend (Old.refl _) rfl
              refine SAll.cons rfl ?_ ?_
              · intro mq hh o
                intro u559 f560
                have hsN := SN.st hs98 o
                obtain rfl : u559 = .bool true := Eq.trans f560 (congrArg Value.bool c216)
                refine ⟨35, rfl, .inl ⟨rfl, ?_⟩⟩
                refine LF.q 1 ?_
                refine QF.ldo (vs := [.int .i64 0, .int .i64 5, .int .i64 9, .int .i64 9]) ckP hsN rfl (mt (mt (mt mh))) rfl rfl ty_25 rfl rfl ?_
                refine QF.ln ?_
                exact LF.aend (Old.refl _) ⟨rfl, (show inI64 0 by unfold inI64; omega), (show inI64 5 by unfold inI64; omega), (show inI64 9 by unfold inI64; omega), (show inI64 9 by unfold inI64; omega)⟩
              refine SAll.cons rfl ?_ ?_
              · intro mq hh o
                intro u561 f562
                have hsN := SN.st hs98 o
                obtain rfl : u561 = .bool true := Eq.trans f562 (congrArg Value.bool c216)
                refine ⟨35, rfl, .inl ⟨rfl, ?_⟩⟩
                refine LF.q 1 ?_
                refine QF.ldo (vs := [.int .i64 1, .int .i64 0, .int .i64 0, .int .i64 0]) ckP hsN rfl (mt (mt mh)) rfl rfl ty_25 rfl rfl ?_
                refine QF.ln ?_
                exact LF.aend (Old.refl _) ⟨rfl, (show inI64 1 by unfold inI64; omega), (show inI64 0 by unfold inI64; omega), (show inI64 0 by unfold inI64; omega), (show inI64 0 by unfold inI64; omega)⟩
              refine SAll.cons rfl ?_ ?_
              · intro mq hh o
                intro u563 f564
                have hsN := SN.st hs98 o
                obtain rfl : u563 = .bool true := Eq.trans f564 (congrArg Value.bool c216)
                refine ⟨35, rfl, .inl ⟨rfl, ?_⟩⟩
                refine LF.q 1 ?_
                refine QF.ldo (vs := [.int .i64 0, .int .i64 5, .int .i64 9, .int .i64 9]) ckP hsN rfl (mt (mt (mt mh))) rfl rfl ty_25 rfl rfl ?_
                refine QF.ln ?_
                exact LF.aend (Old.refl _) ⟨rfl, (show inI64 0 by unfold inI64; omega), (show inI64 5 by unfold inI64; omega), (show inI64 9 by unfold inI64; omega), (show inI64 9 by unfold inI64; omega)⟩
              refine SAll.cons rfl ?_ ?_
              · intro mq hh o
                intro u565 f566 u567 f568 u569 f570 u571 f572
                have hsN := SN.st hs98 o
                obtain ⟨rfl, r573, r574, r575, r576⟩ := f566
                obtain ⟨rfl, r577, r578, r579, r580⟩ := f568
                obtain ⟨rfl, r581, r582, r583, r584⟩ := f570
                obtain rfl : u571 = .bool true := Eq.trans f572 (congrArg Value.bool c216)
                refine ⟨35, rfl, .inl ⟨rfl, ?_⟩⟩
                have hsF := hsN.fz
                refine LF.bsq (cs := [.int .i64 0, .int .i64 5, .int .i64 9, .int .i64 9, .int .i64 1, .int .i64 0, .int .i64 0, .int .i64 0, .int .i64 0, .int .i64 5, .int .i64 9, .int .i64 9]) el_22 rfl rfl rfl rfl rfl rfl rfl hsF fun b585 h586 hs587 e588 => ?_
                have hs589 := hs587.bxos (r := RGHarm) (l := ([(⟨0, 5, 9, 9⟩ : GHarm), (⟨1, 0, 0, 0⟩ : GHarm), (⟨0, 5, 9, 9⟩ : GHarm)] : List GHarm)) .head ⟨_, _, rfl, ⟨rfl, ⟨r573, r574, r575, r576⟩⟩, ⟨_, _, rfl, ⟨rfl, ⟨r577, r578, r579, r580⟩⟩, ⟨_, _, rfl, ⟨rfl, ⟨r581, r582, r583, r584⟩⟩, rfl⟩⟩⟩ (by simp [maxLen])
                obtain ⟨S590, hs591, e592, k593⟩ := hs589.pubs .head
                have dn594 := Fz.done o (e588.trans e592) hs591
                exact LF.aend dn594.1 (Sl.mono' k593 dn594.2)
              refine SAll.cons rfl ?_ ?_
              · intro mq hh o
                intro u595 f596 u597 f598
                have hsN := SN.st hs98 o
                have f596 : Sl _ _ RGHarm u595 ([(⟨0, 5, 9, 9⟩ : GHarm), (⟨1, 0, 0, 0⟩ : GHarm), (⟨0, 5, 9, 9⟩ : GHarm)] : List GHarm) := f596
                obtain rfl : u597 = .bool true := Eq.trans f598 (congrArg Value.bool c216)
                refine ⟨35, rfl, .inl ⟨rfl, ?_⟩⟩
                refine LF.callb rfl rfl rfl ca_6 rfl hsN (harm_Worst_ret (St.all _) (f596.mono (fun b hb => hsN.1 b hb) (fun _ _ => rfl)) hy331) fun v599 S600 h601 hs603 e602 e609 p => ?_
                obtain ⟨rfl, ⟨r604, r605, r606, r607⟩, hq608⟩ := p
                exact LF.aend ⟨e609.siz, fun b hb => e609.same b hb⟩ ⟨rfl, r604, r605, r606, r607⟩
              refine SAll.cons rfl ?_ ?_
              · intro mq hh o
                intro u610 f611
                have hsN := SN.st hs98 o
                obtain rfl : u610 = .bool true := Eq.trans f611 (congrArg Value.bool c216)
                refine ⟨35, rfl, .inl ⟨rfl, ?_⟩⟩
                refine LF.q 1 ?_
                refine QF.ldo (vs := [.int .i64 1, .int .i64 0, .int .i64 0, .int .i64 0]) ckP hsN rfl (mt (mt mh)) rfl rfl ty_25 rfl rfl ?_
                refine QF.ln ?_
                exact LF.aend (Old.refl _) ⟨rfl, (show inI64 1 by unfold inI64; omega), (show inI64 0 by unfold inI64; omega), (show inI64 0 by unfold inI64; omega), (show inI64 0 by unfold inI64; omega)⟩
              refine SAll.cons rfl ?_ ?_
              · intro mq hh o
                intro u612 f613 u614 f615 u616 f617
                have hsN := SN.st hs98 o
                obtain ⟨rfl, r618, r619, r620, r621⟩ := f613
                obtain ⟨rfl, r622, r623, r624, r625⟩ := f615
                obtain rfl : u616 = .bool true := Eq.trans f617 (congrArg Value.bool c216)
                refine ⟨35, rfl, .inl ⟨rfl, ?_⟩⟩
                refine LF.q 1 ?_
                refine QF.eqs rfl rfl fl_25 rfl rfl rfl rfl ?_
                refine QF.ln ?_
                exact LF.aend (Old.refl _) rfl
              refine SAll.cons rfl ?_ ?_
              · intro mq hh o
                intro u626 f627 u628 f629
                have hsN := SN.st hs98 o
                obtain rfl : u626 = .bool true := Eq.trans f627 (congrArg Value.bool c216)
                cases f629
                refine LF.q 1 ?_
                refine QF.pick rfl rfl rfl ?_
                refine QF.ln ?_
                exact LF.aend (Old.refl _) rfl
              refine SAll.cons rfl ?_ ?_
              · intro mq hh o
                intro u630 f631
                have hsN := SN.st hs98 o
                cases f631
                refine LF.q 1 ?_
                refine QF.mv rfl rfl ?_
                refine QF.ln ?_
                exact LF.aend (Old.refl _) rfl
              refine SAll.cons rfl ?_ ?_
              · intro mq hh o
                intro u632 f633
                have hsN := SN.st hs98 o
                obtain rfl : u632 = .bool true := Eq.trans f633 (congrArg Value.bool c337)
                refine ⟨44, rfl, .inl ⟨rfl, ?_⟩⟩
                refine LF.callb rfl rfl rfl ca_6 rfl hsN (harm_Worst_ret (St.all _) (.inl ⟨rfl, rfl⟩ : Sl _ _ RGHarm _ []) hy496) fun v634 S635 h636 hs638 e637 e644 p => ?_
                obtain ⟨rfl, ⟨r639, r640, r641, r642⟩, hq643⟩ := p
                exact LF.aend ⟨e644.siz, fun b hb => e644.same b hb⟩ ⟨rfl, r639, r640, r641, r642⟩
              refine SAll.cons rfl ?_ ?_
              · intro mq hh o
                intro u645 f646
                have hsN := SN.st hs98 o
                obtain rfl : u645 = .bool true := Eq.trans f646 (congrArg Value.bool c337)
                refine ⟨44, rfl, .inl ⟨rfl, ?_⟩⟩
                refine LF.q 1 ?_
                refine QF.bld (cs := [.int .i64 0, .int .i64 0, .int .i64 0, .int .i64 0]) st_25 rfl rfl rfl ?_
                refine QF.ln ?_
                exact LF.aend (Old.refl _) ⟨rfl, (show inI64 0 by unfold inI64; omega), (show inI64 0 by unfold inI64; omega), (show inI64 0 by unfold inI64; omega), (show inI64 0 by unfold inI64; omega)⟩
              refine SAll.cons rfl ?_ ?_
              · intro mq hh o
                intro u647 f648 u649 f650 u651 f652
                have hsN := SN.st hs98 o
                obtain ⟨rfl, r653, r654, r655, r656⟩ := f648
                obtain ⟨rfl, r657, r658, r659, r660⟩ := f650
                obtain rfl : u651 = .bool true := Eq.trans f652 (congrArg Value.bool c337)
                refine ⟨44, rfl, .inl ⟨rfl, ?_⟩⟩
                refine LF.q 1 ?_
                refine QF.eqs rfl rfl fl_25 rfl rfl rfl rfl ?_
                refine QF.ln ?_
                exact LF.aend (Old.refl _) rfl
              refine SAll.cons rfl ?_ ?_
              · intro mq hh o
                intro u661 f662 u663 f664
                have hsN := SN.st hs98 o
                obtain rfl : u661 = .bool true := Eq.trans f662 (congrArg Value.bool c337)
                cases f664
                refine LF.q 1 ?_
                refine QF.pick rfl rfl rfl ?_
                refine QF.ln ?_
                exact LF.aend (Old.refl _) rfl
              refine SAll.cons rfl ?_ ?_
              · intro mq hh o
                intro u665 f666
                have hsN := SN.st hs98 o
                cases f666
                refine LF.q 1 ?_
                refine QF.mv rfl rfl ?_
                refine QF.ln ?_
                exact LF.aend (Old.refl _) rfl
              refine SAll.cons rfl ?_ ?_
              · intro mq hh o
                intro u667 f668
                have hsN := SN.st hs98 o
                obtain rfl : u667 = .bool false := Eq.trans f668 (congrArg Value.bool c502)
                exact ⟨49, rfl, .inr ⟨_, rfl, (by simp [yb, undef]), rfl⟩⟩
              refine SAll.cons rfl ?_ ?_
              · intro mq hh o
                intro u669 f670
                have hsN := SN.st hs98 o
                obtain rfl : u669 = .bool false := Eq.trans f670 (congrArg Value.bool c502)
                exact ⟨49, rfl, .inr ⟨_, rfl, (by simp [yb, undef]), rfl⟩⟩
              refine SAll.cons rfl ?_ ?_
              · intro mq hh o
                intro u671 f672
                have hsN := SN.st hs98 o
                obtain rfl : u671 = .bool false := Eq.trans f672 (congrArg Value.bool c502)
                exact ⟨49, rfl, .inr ⟨_, rfl, (by simp [yb, undef]), rfl⟩⟩
              refine SAll.cons rfl ?_ ?_
              · intro mq hh o
                intro u673 f674 u675 f676
                have hsN := SN.st hs98 o
                obtain rfl : u673 = .bool false := Eq.trans f674 (congrArg Value.bool c502)
                cases f676
                refine LF.q 1 ?_
                refine QF.pick rfl rfl rfl ?_
                refine QF.ln ?_
                exact LF.aend (Old.refl _) rfl
              refine SAll.cons rfl ?_ ?_
              · intro mq hh o
                intro u677 f678
                have hsN := SN.st hs98 o
                cases f678
                refine LF.q 1 ?_
                refine QF.as_ rfl rfl ?_
                refine QF.ln ?_
                exact LF.aend (Old.refl _) rfl
              exact trivial
            intro h679 o680 u681 f682
            have hs683 := SN.st hs98 o680
            cases f682
            refine LF.nil (sb 0 rfl sb0) ?_
            exact WF.nil (fun aa ww hf hw => ⟨_, _, hf.sub (sb 0 rfl sb0), hw, hs683, (SN.ext hs98.1 o680)⟩)
          · skip
            refine WF.ra (m := [(5, .pointer (some ⟨b93, 0, none⟩)), (2, .pointer (some ⟨b8, 0, none⟩)), (1, .pointer (some ⟨b1, 0, none⟩))]) 29 (fun i v hh => match i with | 0 => v = .agg #[.int .i64 0, .int .i64 5, .int .i64 9, .int .i64 9] ∧ inI64 0 ∧ inI64 5 ∧ inI64 9 ∧ inI64 9 | 1 => v = .agg #[.int .i64 1, .int .i64 0, .int .i64 0, .int .i64 0] ∧ inI64 1 ∧ inI64 0 ∧ inI64 0 ∧ inI64 0 | 2 => v = .bool y100 | 3 => v = .bool y100 | 4 => v = .agg #[.int .i64 1, .int .i64 0, .int .i64 0, .int .i64 0] ∧ inI64 1 ∧ inI64 0 ∧ inI64 0 ∧ inI64 0 | 5 => v = .agg #[.int .i64 0, .int .i64 5, .int .i64 9, .int .i64 9] ∧ inI64 0 ∧ inI64 5 ∧ inI64 9 ∧ inI64 9 | 6 => v = .bool y214 | 7 => v = .bool (!y214) | 8 => v = .bool (!y214) | 9 => v = .bool (!y214) | 10 => v = .agg #[.int .i64 0, .int .i64 5, .int .i64 9, .int .i64 9] ∧ inI64 0 ∧ inI64 5 ∧ inI64 9 ∧ inI64 9 | 11 => v = .agg #[.int .i64 1, .int .i64 0, .int .i64 0, .int .i64 0] ∧ inI64 1 ∧ inI64 0 ∧ inI64 0 ∧ inI64 0 | 12 => v = .agg #[.int .i64 0, .int .i64 5, .int .i64 9, .int .i64 9] ∧ inI64 0 ∧ inI64 5 ∧ inI64 9 ∧ inI64 9 | 13 => Sl (SN S73 h97 hh) hh RGHarm v ([(⟨0, 5, 9, 9⟩ : GHarm), (⟨1, 0, 0, 0⟩ : GHarm), (⟨0, 5, 9, 9⟩ : GHarm)] : List GHarm) | 14 => v = .agg #[.int .i64 y331.Flood, .int .i64 y331.Spill, .int .i64 y331.Short, .int .i64 y331.Moves] ∧ inI64 y331.Flood ∧ inI64 y331.Spill ∧ inI64 y331.Short ∧ inI64 y331.Moves | 15 => v = .agg #[.int .i64 1, .int .i64 0, .int .i64 0, .int .i64 0] ∧ inI64 1 ∧ inI64 0 ∧ inI64 0 ∧ inI64 0 | 16 => v = .bool (eqC y331.v (⟨1, 0, 0, 0⟩ : GHarm).v) | 17 => v = .bool (eqC y331.v (⟨1, 0, 0, 0⟩ : GHarm).v) | 18 => v = .bool (eqC y331.v (⟨1, 0, 0, 0⟩ : GHarm).v) | 19 => v = .agg #[.int .i64 y496.Flood, .int .i64 y496.Spill, .int .i64 y496.Short, .int .i64 y496.Moves] ∧ inI64 y496.Flood ∧ inI64 y496.Spill ∧ inI64 y496.Short ∧ inI64 y496.Moves | 20 => v = .agg #[.int .i64 0, .int .i64 0, .int .i64 0, .int .i64 0] ∧ inI64 0 ∧ inI64 0 ∧ inI64 0 ∧ inI64 0 | 21 => v = .bool (eqC y496.v (⟨0, 0, 0, 0⟩ : GHarm).v) | 22 => v = .bool (eqC y496.v (⟨0, 0, 0, 0⟩ : GHarm).v) | 23 => v = .bool (eqC y496.v (⟨0, 0, 0, 0⟩ : GHarm).v) | 24 => v = .agg #[.int .i64 y81.Flood, .int .i64 y81.Spill, .int .i64 y81.Short, .int .i64 y81.Moves] ∧ inI64 y81.Flood ∧ inI64 y81.Spill ∧ inI64 y81.Short ∧ inI64 y81.Moves | 25 => v = .agg #[.int .i64 1, .int .i64 1, .int .i64 2, .int .i64 0] ∧ inI64 1 ∧ inI64 1 ∧ inI64 2 ∧ inI64 0 | 26 => v = .bool (eqC y81.v (⟨1, 1, 2, 0⟩ : GHarm).v) | 27 => v = .bool (eqC y81.v (⟨1, 1, 2, 0⟩ : GHarm).v) | 28 => v = .bool (eqC y81.v (⟨1, 1, 2, 0⟩ : GHarm).v) | _ => False) [[], [], [(0, 26), (1, 27)], [(2, 28)], [(3, 29)], [(3, 29)], [(4, 30), (5, 31), (3, 29)], [(6, 32), (3, 29)], [(3, 29), (7, 33)], [(8, 34)], [(9, 35)], [(9, 35)], [(9, 35)], [(10, 36), (11, 37), (12, 38), (9, 35)], [(13, 39), (9, 35)], [(9, 35)], [(14, 40), (15, 41), (9, 35)], [(9, 35), (16, 42)], [(17, 43)], [(18, 44)], [(18, 44)], [(19, 45), (20, 46), (18, 44)], [(18, 44), (21, 47)], [(22, 48)], [(23, 49)], [(23, 49)], [(24, 50), (25, 51), (23, 49)], [(23, 49), (26, 52)], [(27, 53)]] [(28, 0)] mo (by kernel_rfl) [5, 2, 1] rfl (by kernel_rfl) (by kernel_rfl) (by kernel_rfl) (sb 5 rfl (sb 2 rfl (sb 1 rfl sb0))) (fun i v h1 h2 o1 o2 hr => ?_) ?_ ?_
            · match i, hr with
              | 0, hr => exact hr
              | 1, hr => exact hr
              | 2, hr => exact hr
              | 3, hr => exact hr
              | 4, hr => exact hr
              | 5, hr => exact hr
              | 6, hr => exact hr
              | 7, hr => exact hr
              | 8, hr => exact hr
              | 9, hr => exact hr
              | 10, hr => exact hr
              | 11, hr => exact hr
              | 12, hr => exact hr
              | 13, hr => exact Sl.mono' hr (SN.mono hs98.1 o1 o2)
              | 14, hr => exact hr
              | 15, hr => exact hr
              | 16, hr => exact hr
              | 17, hr => exact hr
              | 18, hr => exact hr
              | 19, hr => exact hr
              | 20, hr => exact hr
              | 21, hr => exact hr
              | 22, hr => exact hr
              | 23, hr => exact hr
              | 24, hr => exact hr
              | 25, hr => exact hr
              | 26, hr => exact hr
              | 27, hr => exact hr
              | 28, hr => exact hr
              | _ + 29, hr => exact hr.elim
            · skip
              refine SAll.cons rfl ?_ ?_
              · intro mq hh o
                have hsN := SN.st hs98 o
                refine LF.q 1 ?_
                refine QF.ldo (vs := [.int .i64 0, .int .i64 5, .int .i64 9, .int .i64 9]) ckP hsN rfl (mt (mt (mt mh))) rfl rfl ty_25 rfl rfl ?_
                refine QF.ln ?_
                exact LF.aend (Old.refl _) ⟨rfl, (show inI64 0 by unfold inI64; omega), (show inI64 5 by unfold inI64; omega), (show inI64 9 by unfold inI64; omega), (show inI64 9 by unfold inI64; omega)⟩
              refine SAll.cons rfl ?_ ?_
              · intro mq hh o
                have hsN := SN.st hs98 o
                refine LF.q 1 ?_
                refine QF.ldo (vs := [.int .i64 1, .int .i64 0, .int .i64 0, .int .i64 0]) ckP hsN rfl (mt (mt mh)) rfl rfl ty_25 rfl rfl ?_
                refine QF.ln ?_
                exact LF.aend (Old.refl _) ⟨rfl, (show inI64 1 by unfold inI64; omega), (show inI64 0 by unfold inI64; omega), (show inI64 0 by unfold inI64; omega), (show inI64 0 by unfold inI64; omega)⟩
              refine SAll.cons rfl ?_ ?_
              · intro mq hh o
                intro u684 f685 u686 f687
                have hsN := SN.st hs98 o
                obtain ⟨rfl, r688, r689, r690, r691⟩ := f685
                obtain ⟨rfl, r692, r693, r694, r695⟩ := f687
                refine LF.callb rfl rfl rfl ca_7 rfl hsN (harm_Less_ret (St.all _) (RGHarm.mk (x := (⟨0, 5, 9, 9⟩ : GHarm)) ⟨r688, r689, r690, r691⟩) (RGHarm.mk (x := (⟨1, 0, 0, 0⟩ : GHarm)) ⟨r692, r693, r694, r695⟩) hy100) fun v696 S697 h698 hs700 e699 e702 p => ?_
                obtain ⟨rfl, hq701⟩ := p
                exact LF.aend ⟨e702.siz, fun b hb => e702.same b hb⟩ rfl
              refine SAll.cons rfl ?_ ?_
              · intro mq hh o
                intro u703 f704
                have hsN := SN.st hs98 o
                cases f704
                refine LF.q 1 ?_
                refine QF.mv rfl rfl ?_
                refine QF.ln ?_
                exact LF.aend (Old.refl _) rfl
              refine SAll.cons rfl ?_ ?_
              · intro mq hh o
                intro u705 f706
                have hsN := SN.st hs98 o
                obtain rfl : u705 = .bool true := Eq.trans f706 (congrArg Value.bool c129)
                refine ⟨29, rfl, .inl ⟨rfl, ?_⟩⟩
                refine LF.q 1 ?_
                refine QF.ldo (vs := [.int .i64 1, .int .i64 0, .int .i64 0, .int .i64 0]) ckP hsN rfl (mt (mt mh)) rfl rfl ty_25 rfl rfl ?_
                refine QF.ln ?_
                exact LF.aend (Old.refl _) ⟨rfl, (show inI64 1 by unfold inI64; omega), (show inI64 0 by unfold inI64; omega), (show inI64 0 by unfold inI64; omega), (show inI64 0 by unfold inI64; omega)⟩
              refine SAll.cons rfl ?_ ?_
              · intro mq hh o
                intro u707 f708
                have hsN := SN.st hs98 o
                obtain rfl : u707 = .bool true := Eq.trans f708 (congrArg Value.bool c129)
                refine ⟨29, rfl, .inl ⟨rfl, ?_⟩⟩
                refine LF.q 1 ?_
                refine QF.ldo (vs := [.int .i64 0, .int .i64 5, .int .i64 9, .int .i64 9]) ckP hsN rfl (mt (mt (mt mh))) rfl rfl ty_25 rfl rfl ?_
                refine QF.ln ?_
                exact LF.aend (Old.refl _) ⟨rfl, (show inI64 0 by unfold inI64; omega), (show inI64 5 by unfold inI64; omega), (show inI64 9 by unfold inI64; omega), (show inI64 9 by unfold inI64; omega)⟩
              refine SAll.cons rfl ?_ ?_
              · intro mq hh o
                intro u709 f710 u711 f712 u713 f714
                have hsN := SN.st hs98 o
                obtain ⟨rfl, r715, r716, r717, r718⟩ := f710
                obtain ⟨rfl, r719, r720, r721, r722⟩ := f712
                obtain rfl : u713 = .bool true := Eq.trans f714 (congrArg Value.bool c129)
                refine ⟨29, rfl, .inl ⟨rfl, ?_⟩⟩
                refine LF.callb rfl rfl rfl ca_7 rfl hsN (harm_Less_ret (St.all _) (RGHarm.mk (x := (⟨1, 0, 0, 0⟩ : GHarm)) ⟨r715, r716, r717, r718⟩) (RGHarm.mk (x := (⟨0, 5, 9, 9⟩ : GHarm)) ⟨r719, r720, r721, r722⟩) hy214) fun v723 S724 h725 hs727 e726 e729 p => ?_
                obtain ⟨rfl, hq728⟩ := p
                exact LF.aend ⟨e729.siz, fun b hb => e729.same b hb⟩ rfl
              refine SAll.cons rfl ?_ ?_
              · intro mq hh o
                intro u730 f731 u732 f733
                have hsN := SN.st hs98 o
                cases f731
                obtain rfl : u732 = .bool true := Eq.trans f733 (congrArg Value.bool c129)
                refine ⟨29, rfl, .inl ⟨rfl, ?_⟩⟩
                refine LF.q 1 ?_
                refine QF.not rfl rfl ?_
                refine QF.ln ?_
                exact LF.aend (Old.refl _) rfl
              refine SAll.cons rfl ?_ ?_
              · intro mq hh o
                intro u734 f735 u736 f737
                have hsN := SN.st hs98 o
                obtain rfl : u734 = .bool true := Eq.trans f735 (congrArg Value.bool c129)
                cases f737
                refine LF.q 1 ?_
                refine QF.pick rfl rfl rfl ?_
                refine QF.ln ?_
                exact LF.aend (Old.refl _) rfl
              refine SAll.cons rfl ?_ ?_
              · intro mq hh o
                intro u738 f739
                have hsN := SN.st hs98 o
                cases f739
                refine LF.q 1 ?_
                refine QF.mv rfl rfl ?_
                refine QF.ln ?_
                exact LF.aend (Old.refl _) rfl
              refine SAll.cons rfl ?_ ?_
              · intro mq hh o
                intro u740 f741
                have hsN := SN.st hs98 o
                obtain rfl : u740 = .bool true := Eq.trans f741 (congrArg Value.bool c216)
                refine ⟨35, rfl, .inl ⟨rfl, ?_⟩⟩
                refine LF.q 1 ?_
                refine QF.ldo (vs := [.int .i64 0, .int .i64 5, .int .i64 9, .int .i64 9]) ckP hsN rfl (mt (mt (mt mh))) rfl rfl ty_25 rfl rfl ?_
                refine QF.ln ?_
                exact LF.aend (Old.refl _) ⟨rfl, (show inI64 0 by unfold inI64; omega), (show inI64 5 by unfold inI64; omega), (show inI64 9 by unfold inI64; omega), (show inI64 9 by unfold inI64; omega)⟩
              refine SAll.cons rfl ?_ ?_
              · intro mq hh o
                intro u742 f743
                have hsN := SN.st hs98 o
                obtain rfl : u742 = .bool true := Eq.trans f743 (congrArg Value.bool c216)
                refine ⟨35, rfl, .inl ⟨rfl, ?_⟩⟩
                refine LF.q 1 ?_
                refine QF.ldo (vs := [.int .i64 1, .int .i64 0, .int .i64 0, .int .i64 0]) ckP hsN rfl (mt (mt mh)) rfl rfl ty_25 rfl rfl ?_
                refine QF.ln ?_
                exact LF.aend (Old.refl _) ⟨rfl, (show inI64 1 by unfold inI64; omega), (show inI64 0 by unfold inI64; omega), (show inI64 0 by unfold inI64; omega), (show inI64 0 by unfold inI64; omega)⟩
              refine SAll.cons rfl ?_ ?_
              · intro mq hh o
                intro u744 f745
                have hsN := SN.st hs98 o
                obtain rfl : u744 = .bool true := Eq.trans f745 (congrArg Value.bool c216)
                refine ⟨35, rfl, .inl ⟨rfl, ?_⟩⟩
                refine LF.q 1 ?_
                refine QF.ldo (vs := [.int .i64 0, .int .i64 5, .int .i64 9, .int .i64 9]) ckP hsN rfl (mt (mt (mt mh))) rfl rfl ty_25 rfl rfl ?_
                refine QF.ln ?_
                exact LF.aend (Old.refl _) ⟨rfl, (show inI64 0 by unfold inI64; omega), (show inI64 5 by unfold inI64; omega), (show inI64 9 by unfold inI64; omega), (show inI64 9 by unfold inI64; omega)⟩
              refine SAll.cons rfl ?_ ?_
              · intro mq hh o
                intro u746 f747 u748 f749 u750 f751 u752 f753
                have hsN := SN.st hs98 o
                obtain ⟨rfl, r754, r755, r756, r757⟩ := f747
                obtain ⟨rfl, r758, r759, r760, r761⟩ := f749
                obtain ⟨rfl, r762, r763, r764, r765⟩ := f751
                obtain rfl : u752 = .bool true := Eq.trans f753 (congrArg Value.bool c216)
                refine ⟨35, rfl, .inl ⟨rfl, ?_⟩⟩
                have hsF := hsN.fz
                refine LF.bsq (cs := [.int .i64 0, .int .i64 5, .int .i64 9, .int .i64 9, .int .i64 1, .int .i64 0, .int .i64 0, .int .i64 0, .int .i64 0, .int .i64 5, .int .i64 9, .int .i64 9]) el_22 rfl rfl rfl rfl rfl rfl rfl hsF fun b766 h767 hs768 e769 => ?_
                have hs770 := hs768.bxos (r := RGHarm) (l := ([(⟨0, 5, 9, 9⟩ : GHarm), (⟨1, 0, 0, 0⟩ : GHarm), (⟨0, 5, 9, 9⟩ : GHarm)] : List GHarm)) .head ⟨_, _, rfl, ⟨rfl, ⟨r754, r755, r756, r757⟩⟩, ⟨_, _, rfl, ⟨rfl, ⟨r758, r759, r760, r761⟩⟩, ⟨_, _, rfl, ⟨rfl, ⟨r762, r763, r764, r765⟩⟩, rfl⟩⟩⟩ (by simp [maxLen])
                obtain ⟨S771, hs772, e773, k774⟩ := hs770.pubs .head
                have dn775 := Fz.done o (e769.trans e773) hs772
                exact LF.aend dn775.1 (Sl.mono' k774 dn775.2)
              refine SAll.cons rfl ?_ ?_
              · intro mq hh o
                intro u776 f777 u778 f779
                have hsN := SN.st hs98 o
                have f777 : Sl _ _ RGHarm u776 ([(⟨0, 5, 9, 9⟩ : GHarm), (⟨1, 0, 0, 0⟩ : GHarm), (⟨0, 5, 9, 9⟩ : GHarm)] : List GHarm) := f777
                obtain rfl : u778 = .bool true := Eq.trans f779 (congrArg Value.bool c216)
                refine ⟨35, rfl, .inl ⟨rfl, ?_⟩⟩
                refine LF.callb rfl rfl rfl ca_6 rfl hsN (harm_Worst_ret (St.all _) (f777.mono (fun b hb => hsN.1 b hb) (fun _ _ => rfl)) hy331) fun v780 S781 h782 hs784 e783 e790 p => ?_
                obtain ⟨rfl, ⟨r785, r786, r787, r788⟩, hq789⟩ := p
                exact LF.aend ⟨e790.siz, fun b hb => e790.same b hb⟩ ⟨rfl, r785, r786, r787, r788⟩
              refine SAll.cons rfl ?_ ?_
              · intro mq hh o
                intro u791 f792
                have hsN := SN.st hs98 o
                obtain rfl : u791 = .bool true := Eq.trans f792 (congrArg Value.bool c216)
                refine ⟨35, rfl, .inl ⟨rfl, ?_⟩⟩
                refine LF.q 1 ?_
                refine QF.ldo (vs := [.int .i64 1, .int .i64 0, .int .i64 0, .int .i64 0]) ckP hsN rfl (mt (mt mh)) rfl rfl ty_25 rfl rfl ?_
                refine QF.ln ?_
                exact LF.aend (Old.refl _) ⟨rfl, (show inI64 1 by unfold inI64; omega), (show inI64 0 by unfold inI64; omega), (show inI64 0 by unfold inI64; omega), (show inI64 0 by unfold inI64; omega)⟩
              refine SAll.cons rfl ?_ ?_
              · intro mq hh o
                intro u793 f794 u795 f796 u797 f798
                have hsN := SN.st hs98 o
                obtain ⟨rfl, r799, r800, r801, r802⟩ := f794
                obtain ⟨rfl, r803, r804, r805, r806⟩ := f796
                obtain rfl : u797 = .bool true := Eq.trans f798 (congrArg Value.bool c216)
                refine ⟨35, rfl, .inl ⟨rfl, ?_⟩⟩
                refine LF.q 1 ?_
                refine QF.eqs rfl rfl fl_25 rfl rfl rfl rfl ?_
                refine QF.ln ?_
                exact LF.aend (Old.refl _) rfl
              refine SAll.cons rfl ?_ ?_
              · intro mq hh o
                intro u807 f808 u809 f810
                have hsN := SN.st hs98 o
                obtain rfl : u807 = .bool true := Eq.trans f808 (congrArg Value.bool c216)
                cases f810
                refine LF.q 1 ?_
                refine QF.pick rfl rfl rfl ?_
                refine QF.ln ?_
                exact LF.aend (Old.refl _) rfl
              refine SAll.cons rfl ?_ ?_
              · intro mq hh o
                intro u811 f812
                have hsN := SN.st hs98 o
                cases f812
                refine LF.q 1 ?_
                refine QF.mv rfl rfl ?_
                refine QF.ln ?_
                exact LF.aend (Old.refl _) rfl
              refine SAll.cons rfl ?_ ?_
              · intro mq hh o
                intro u813 f814
                have hsN := SN.st hs98 o
                obtain rfl : u813 = .bool true := Eq.trans f814 (congrArg Value.bool c337)
                refine ⟨44, rfl, .inl ⟨rfl, ?_⟩⟩
                refine LF.callb rfl rfl rfl ca_6 rfl hsN (harm_Worst_ret (St.all _) (.inl ⟨rfl, rfl⟩ : Sl _ _ RGHarm _ []) hy496) fun v815 S816 h817 hs819 e818 e825 p => ?_
                obtain ⟨rfl, ⟨r820, r821, r822, r823⟩, hq824⟩ := p
                exact LF.aend ⟨e825.siz, fun b hb => e825.same b hb⟩ ⟨rfl, r820, r821, r822, r823⟩
              refine SAll.cons rfl ?_ ?_
              · intro mq hh o
                intro u826 f827
                have hsN := SN.st hs98 o
                obtain rfl : u826 = .bool true := Eq.trans f827 (congrArg Value.bool c337)
                refine ⟨44, rfl, .inl ⟨rfl, ?_⟩⟩
                refine LF.q 1 ?_
                refine QF.bld (cs := [.int .i64 0, .int .i64 0, .int .i64 0, .int .i64 0]) st_25 rfl rfl rfl ?_
                refine QF.ln ?_
                exact LF.aend (Old.refl _) ⟨rfl, (show inI64 0 by unfold inI64; omega), (show inI64 0 by unfold inI64; omega), (show inI64 0 by unfold inI64; omega), (show inI64 0 by unfold inI64; omega)⟩
              refine SAll.cons rfl ?_ ?_
              · intro mq hh o
                intro u828 f829 u830 f831 u832 f833
                have hsN := SN.st hs98 o
                obtain ⟨rfl, r834, r835, r836, r837⟩ := f829
                obtain ⟨rfl, r838, r839, r840, r841⟩ := f831
                obtain rfl : u832 = .bool true := Eq.trans f833 (congrArg Value.bool c337)
                refine ⟨44, rfl, .inl ⟨rfl, ?_⟩⟩
                refine LF.q 1 ?_
                refine QF.eqs rfl rfl fl_25 rfl rfl rfl rfl ?_
                refine QF.ln ?_
                exact LF.aend (Old.refl _) rfl
              refine SAll.cons rfl ?_ ?_
              · intro mq hh o
                intro u842 f843 u844 f845
                have hsN := SN.st hs98 o
                obtain rfl : u842 = .bool true := Eq.trans f843 (congrArg Value.bool c337)
                cases f845
                refine LF.q 1 ?_
                refine QF.pick rfl rfl rfl ?_
                refine QF.ln ?_
                exact LF.aend (Old.refl _) rfl
              refine SAll.cons rfl ?_ ?_
              · intro mq hh o
                intro u846 f847
                have hsN := SN.st hs98 o
                cases f847
                refine LF.q 1 ?_
                refine QF.mv rfl rfl ?_
                refine QF.ln ?_
                exact LF.aend (Old.refl _) rfl
              refine SAll.cons rfl ?_ ?_
              · intro mq hh o
                intro u848 f849
                have hsN := SN.st hs98 o
                obtain rfl : u848 = .bool true := Eq.trans f849 (congrArg Value.bool c502)
                refine ⟨49, rfl, .inl ⟨rfl, ?_⟩⟩
                refine LF.q 1 ?_
                refine QF.ldo (vs := [.int .i64 y81.Flood, .int .i64 y81.Spill, .int .i64 y81.Short, .int .i64 y81.Moves]) ckP hsN rfl mh rfl rfl ty_25 rfl rfl ?_
                refine QF.ln ?_
                exact LF.aend (Old.refl _) ⟨rfl, r87, r88, r89, r90⟩
              refine SAll.cons rfl ?_ ?_
              · intro mq hh o
                intro u850 f851
                have hsN := SN.st hs98 o
                obtain rfl : u850 = .bool true := Eq.trans f851 (congrArg Value.bool c502)
                refine ⟨49, rfl, .inl ⟨rfl, ?_⟩⟩
                refine LF.q 1 ?_
                refine QF.bld (cs := [.int .i64 1, .int .i64 1, .int .i64 2, .int .i64 0]) st_25 rfl rfl rfl ?_
                refine QF.ln ?_
                exact LF.aend (Old.refl _) ⟨rfl, (show inI64 1 by unfold inI64; omega), (show inI64 1 by unfold inI64; omega), (show inI64 2 by unfold inI64; omega), (show inI64 0 by unfold inI64; omega)⟩
              refine SAll.cons rfl ?_ ?_
              · intro mq hh o
                intro u852 f853 u854 f855 u856 f857
                have hsN := SN.st hs98 o
                obtain ⟨rfl, r858, r859, r860, r861⟩ := f853
                obtain ⟨rfl, r862, r863, r864, r865⟩ := f855
                obtain rfl : u856 = .bool true := Eq.trans f857 (congrArg Value.bool c502)
                refine ⟨49, rfl, .inl ⟨rfl, ?_⟩⟩
                refine LF.q 1 ?_
                refine QF.eqs rfl rfl fl_25 rfl rfl rfl rfl ?_
                refine QF.ln ?_
                exact LF.aend (Old.refl _) rfl
              refine SAll.cons rfl ?_ ?_
              · intro mq hh o
                intro u866 f867 u868 f869
                have hsN := SN.st hs98 o
                obtain rfl : u866 = .bool true := Eq.trans f867 (congrArg Value.bool c502)
                cases f869
                refine LF.q 1 ?_
                refine QF.pick rfl rfl rfl ?_
                refine QF.ln ?_
                exact LF.aend (Old.refl _) rfl
              refine SAll.cons rfl ?_ ?_
              · intro mq hh o
                intro u870 f871
                have hsN := SN.st hs98 o
                cases f871
                refine LF.q 1 ?_
                refine QF.as_ rfl rfl ?_
                refine QF.ln ?_
                exact LF.aend (Old.refl _) rfl
              exact trivial
            intro h872 o873 u874 f875
            have hs876 := SN.st hs98 o873
            cases f875
            refine LF.nil (sb 0 rfl sb0) ?_
            exact WF.nil (fun aa ww hf hw => ⟨_, _, hf.sub (sb 0 rfl sb0), hw, hs876, (SN.ext hs98.1 o873)⟩)
  rintro aa ww ⟨S877, h878, hf, hw, hs879, e880⟩
  refine WF.run ?_ hf hw
  clear hf hw ww aa
  refine WF.ret (fun aa ww hf hw => ?_)
  have hs881 := hs879.drop .head
  have hs882 := hs881.drop .head
  have hs883 := hs882.drop .head
  have hs884 := hs883.drop .head
  cases E
  exact rtg hf rfl hw (rvc (rvT hf (v := _) rfl) rv0) rfl (e4.trans (e7.trans (e11.trans (e14.trans (e18.trans (e22.trans (e27.trans (e31.trans (e36.trans (e41.trans (e46.trans (e49.trans (e53.trans (e57.trans (e62.trans (e66.trans (e70.trans (e75.trans (e85.trans (e96.trans (e99.trans e880))))))))))))))))))))) ⟨rfl, hs884⟩

end Go.Proofs.Ytkbooafdccnkeaa
