/- Walks, part 8. By program. -/
import Derived.Test.YtibidnaedddfdaaWalk7
namespace Go.Proofs.Ytibidnaedddfdaa
open Go.RowKit
set_option linter.unusedVariables false
set_option linter.unusedSimpArgs false

set_option maxRecDepth 10000 in
set_option maxHeartbeats 2000000 in
theorem bournelaw43_AlarmGauges_ret {N : Nat} {S : Nat → Prop} {L : List HP} {h : Heap} (hs : St S L h) {v_p0_b : Value} {p0_b : GBasin} (h_p0_b : Rd S h RGBasin v_p0_b p0_b) {p1_town : Int} (h_p1_town : inI64 p1_town) {v_p2_readings : Value} {p2_readings : (List GReading)} (h_p2_readings : Sl S h RGReading v_p2_readings p2_readings) {v_p3_more : Value} {p3_more : GReading} (h_p3_more : Rd S h RGReading v_p3_more p3_more) {r : Bool} (E : f_bournelaw43_AlarmGauges N p0_b p1_town p2_readings p3_more = some r) :
    Ret Try.prog 3 #[v_p0_b, .int .i64 p1_town, v_p2_readings, v_p3_more] S h (fun v S' h' => v = .bool r ∧ St S' (L) h') := by
  refine Ret.go (l := [v_p0_b, .int .i64 p1_town, v_p2_readings, v_p3_more]) 154 Try.func3 rfl Try.ntmps3 rfl fun B => ?_
  rw [f_bournelaw43_AlarmGauges] at E
  refine WF.seq ?_
  refine WF.rl ?_
  refine LF.boxp rfl h_p0_b (fun e => by cases e) rfl hs fun q1 S2 h3 hs4 e5 k6 => ?_
  have k7 := h_p3_more.mono e5
  refine LF.boxp rfl k7 (fun e => by cases e) rfl hs4 fun q8 S9 h10 hs11 e12 k13 => ?_
  refine LF.q 1 ?_
  refine QF.as_ rfl rfl ?_
  refine QF.ln ?_
  refine LF.nil (sb 7 rfl (sb 4 rfl (sb 1 rfl (sb 2 rfl sb0)))) ?_
  refine WF.seq ?_
  refine WF.rc (.inl rfl) hs11 ?_
  obtain ⟨y14, hy14, E⟩ := bd E
  refine QF.callp (v := .bool y14) (Ψ := True) rfl rfl rfl ca_4 rfl (fun h' o => (bournelaw43_small_ret (St.all h') hy14).mono fun _ _ _ _ p => ⟨p.1, trivial⟩) fun r15 => ?_
  refine QF.as_ rfl rfl ?_
  refine QF.rcn (sb 9 rfl (sb 7 rfl (sb 4 rfl (sb 1 rfl (sb 2 rfl sb0))))) fun h16 hs17 e18 => ?_
  refine WF.seq ?_
  refine WF.rc (.inl rfl) hs17 ?_
  have k19 := k6.mono (e12.trans e18)
  refine QF.ld ckC hs17.1 rfl k19 ty_31 (fun e => by cases e) rfl fun v20 k21 => ?_
  obtain ⟨y22, hy22, E⟩ := bd E
  refine QF.callp (v := .bool y22) (Ψ := True) rfl rfl rfl ca_5 rfl (fun h' o => (bournelaw43_few_ret (St.all h') (k21.mono (o.all hs17.1)) (.inl ⟨rfl, rfl⟩ : Sl _ _ RGCast _ []) (.inl ⟨rfl, rfl⟩ : Sl _ _ RGInput _ []) hy22).mono fun _ _ _ _ p => ⟨p.1, trivial⟩) fun r23 => ?_
  refine QF.as_ rfl rfl ?_
  refine QF.rcn (sb 10 rfl (sb 9 rfl (sb 7 rfl (sb 4 rfl (sb 1 rfl (sb 2 rfl sb0)))))) fun h24 hs25 e26 => ?_
  refine WF.seq ?_
  refine WF.seq ?_
  refine WF.rc (.inl rfl) hs25 ?_
  refine QF.mv rfl rfl ?_
  refine QF.not rfl rfl ?_
  refine QF.mv rfl rfl ?_
  refine QF.cutv 4 28 (.bool ((!y22) || (decide (12 < (↑p2_readings.length : Int))))) ?_ ?_
  · cases c27 : (!y22)
    · skip
      refine QF.gy rfl rfl rfl ?_
      refine QF.mv rfl rfl ?_
      refine QF.gy rfl rfl rfl ?_
      have k28 := h_p2_readings.mono' (e5.trans (e12.trans (e18.trans e26)))
      refine QF.len rfl k28 sl_32 rfl fun b29 => ?_
      unfold maxLen at b29
      refine QF.gy rfl rfl rfl ?_
      refine QF.gtr rfl rfl rfl ?_
      refine QF.pick rfl rfl rfl ?_
      exact QF.cutn (sb 28 rfl (sb 24 rfl (sb 23 rfl (sb 22 rfl (sb 10 rfl (sb 9 rfl (sb 7 rfl (sb 4 rfl (sb 1 rfl (sb 2 rfl sb0))))))))))
    · skip
      refine QF.gnT rfl rfl rfl rfl rfl ?_
      refine QF.gnT rfl rfl rfl rfl rfl ?_
      refine QF.gnT rfl rfl rfl rfl rfl ?_
      refine QF.pick rfl rfl rfl ?_
      exact QF.cutn (sb 28 rfl (sb 24 rfl (sb 23 rfl (sb 22 rfl (sb 10 rfl (sb 9 rfl (sb 7 rfl (sb 4 rfl (sb 1 rfl (sb 2 rfl sb0))))))))))
  refine QF.mv rfl rfl ?_
  refine QF.cutv 3 32 (.bool (((!y22) || (decide (12 < (↑p2_readings.length : Int)))) || (decide (p1_town < 0)))) ?_ ?_
  · cases c30 : ((!y22) || (decide (12 < (↑p2_readings.length : Int))))
    · skip
      refine QF.gy rfl rfl rfl ?_
      refine QF.mv rfl rfl ?_
      refine QF.gy rfl rfl rfl ?_
      refine QF.lss rfl rfl rfl ?_
      refine QF.pick rfl rfl rfl ?_
      exact QF.cutn (sb 32 rfl (sb 29 rfl (sb 28 rfl (sb 24 rfl (sb 23 rfl (sb 22 rfl (sb 10 rfl (sb 9 rfl (sb 7 rfl (sb 4 rfl (sb 1 rfl (sb 2 rfl sb0))))))))))))
    · skip
      refine QF.gnT rfl rfl rfl rfl rfl ?_
      refine QF.gnT rfl rfl rfl rfl rfl ?_
      refine QF.pick rfl rfl rfl ?_
      exact QF.cutn (sb 32 rfl (sb 29 rfl (sb 28 rfl (sb 24 rfl (sb 23 rfl (sb 22 rfl (sb 10 rfl (sb 9 rfl (sb 7 rfl (sb 4 rfl (sb 1 rfl (sb 2 rfl sb0))))))))))))
  refine QF.mv rfl rfl ?_
  refine QF.cutv 6 39 (.bool ((((!y22) || (decide (12 < (↑p2_readings.length : Int)))) || (decide (p1_town < 0))) || (decide ((↑p0_b.Towns.length : Int) ≤ p1_town)))) ?_ ?_
  · cases c31 : (((!y22) || (decide (12 < (↑p2_readings.length : Int)))) || (decide (p1_town < 0)))
    · skip
      refine QF.gy rfl rfl rfl ?_
      refine QF.mv rfl rfl ?_
      refine QF.gy rfl rfl rfl ?_
      have k32 := k19.mono e26
      refine QF.fa rfl k32 GBasin.f_Towns fa_31_5 rfl fun q33 k34 => ?_
      refine QF.gy rfl rfl rfl ?_
      refine QF.ldl ckC hs25.1 rfl k34 ty_25 rfl fun v35 k36 => ?_
      refine QF.gy rfl rfl rfl ?_
      refine QF.len rfl k36 sl_25 rfl fun b37 => ?_
      unfold maxLen at b37
      refine QF.gy rfl rfl rfl ?_
      refine QF.geq rfl rfl rfl ?_
      refine QF.pick rfl rfl rfl ?_
      exact QF.cutn (sb 39 rfl (sb 33 rfl (sb 32 rfl (sb 29 rfl (sb 28 rfl (sb 24 rfl (sb 23 rfl (sb 22 rfl (sb 10 rfl (sb 9 rfl (sb 7 rfl (sb 4 rfl (sb 1 rfl (sb 2 rfl sb0))))))))))))))
    · skip
      refine QF.gnT rfl rfl rfl rfl rfl ?_
      refine QF.gnT rfl rfl rfl rfl rfl ?_
      refine QF.gnT rfl rfl rfl rfl rfl ?_
      refine QF.gnT rfl rfl rfl rfl rfl ?_
      refine QF.gnT rfl rfl rfl rfl rfl ?_
      refine QF.pick rfl rfl rfl ?_
      exact QF.cutn (sb 39 rfl (sb 33 rfl (sb 32 rfl (sb 29 rfl (sb 28 rfl (sb 24 rfl (sb 23 rfl (sb 22 rfl (sb 10 rfl (sb 9 rfl (sb 7 rfl (sb 4 rfl (sb 1 rfl (sb 2 rfl sb0))))))))))))))
  refine QF.mv rfl rfl ?_
  obtain ⟨b39, hb39, E⟩ := bd E
  refine QF.cutv 4 44 (.bool b39) ?_ ?_
  · cases c38 : ((((!y22) || (decide (12 < (↑p2_readings.length : Int)))) || (decide (p1_town < 0))) || (decide ((↑p0_b.Towns.length : Int) ≤ p1_town)))
    · skip
      have hb39 := cdF c38 hb39
      refine QF.gy rfl rfl rfl ?_
      have k40 := k19.mono e26
      refine QF.ld ckC hs25.1 rfl k40 ty_31 (fun e => by cases e) rfl fun v41 k42 => ?_
      refine QF.gy rfl rfl rfl ?_
      obtain ⟨y43, hy43, hb39⟩ := bd hb39
      refine QF.callp (v := .bool y43) (Ψ := True) rfl rfl rfl ca_6 rfl (fun h' o => (basin_Right_ret (St.all h') (k42.mono (o.all hs25.1)) hy43).mono fun _ _ _ _ p => ⟨p.1, trivial⟩) fun r44 => ?_
      refine QF.gy rfl rfl rfl ?_
      refine QF.not rfl rfl ?_
      refine QF.pick rfl rfl rfl ?_
      cases hb39
      exact QF.cutn (sb 44 rfl (sb 40 rfl (sb 39 rfl (sb 33 rfl (sb 32 rfl (sb 29 rfl (sb 28 rfl (sb 24 rfl (sb 23 rfl (sb 22 rfl (sb 10 rfl (sb 9 rfl (sb 7 rfl (sb 4 rfl (sb 1 rfl (sb 2 rfl sb0))))))))))))))))
    · skip
      have hb39 := cdT c38 hb39
      cases hb39
      refine QF.gnT rfl rfl rfl rfl rfl ?_
      refine QF.gnT rfl rfl rfl rfl rfl ?_
      refine QF.gnT rfl rfl rfl rfl rfl ?_
      refine QF.pick rfl rfl rfl ?_
      exact QF.cutn (sb 44 rfl (sb 40 rfl (sb 39 rfl (sb 33 rfl (sb 32 rfl (sb 29 rfl (sb 28 rfl (sb 24 rfl (sb 23 rfl (sb 22 rfl (sb 10 rfl (sb 9 rfl (sb 7 rfl (sb 4 rfl (sb 1 rfl (sb 2 rfl sb0))))))))))))))))
  refine QF.rcn (sb 44 rfl (sb 9 rfl (sb 7 rfl (sb 4 rfl (sb 1 rfl (sb 2 rfl sb0)))))) fun h45 hs46 e47 => ?_
  refine WF.if_ rfl (fun c48 => ?_) (fun c48 => ?_)
  · skip
    have E := cdT c48 E
    refine WF.seq ?_
    refine WF.rp (.inl rfl) ?_
    refine QF.mv rfl rfl ?_
    refine QF.as_ rfl rfl ?_
    refine QF.rpn (sb 8 rfl sb0) ?_
    refine WF.ret (fun aa ww hf hw => ?_)
    cases E
    exact rtg hf rfl hw (rvc (rvT hf (v := _) rfl) rv0) rfl (e5.trans (e12.trans (e18.trans (e26.trans e47)))) ⟨rfl, hs46⟩
  · skip
    have E := cdF c48 E
    refine WF.skip ?_
    refine WF.seq ?_
    refine WF.rl ?_
    refine LF.q 5 ?_
    have k49 := k19.mono (e26.trans e47)
    refine QF.fa rfl k49 GBasin.f_Towns fa_31_5 rfl fun q50 k51 => ?_
    refine QF.ldl ckP hs46.1 rfl k51 ty_25 rfl fun v52 k53 => ?_
    refine QF.mv rfl rfl ?_
    obtain ⟨x54, hx54, E⟩ := bd E
    refine QF.ixe rfl rfl k53 sl_25 hx54 rfl fun q55 k56 => ?_
    refine QF.ld ckP hs46.1 rfl k56 ty_41 (fun e => by cases e) rfl fun v57 k58 => ?_
    refine QF.ln ?_
    refine LF.al zc_41 rfl hs46 fun b59 h60 hs61 e62 => ?_
    have k63 := k58.mono e62
    obtain ⟨rfl, ⟨r65, r66, r67, r68, r69, r70, r71⟩⟩ := RGTown.ex k63
    refine LF.st (vs := [.string x54.Name, .int .i64 x54.Place, .int .i64 x54.Flood, .int .i64 x54.Lead, .int .i64 x54.People, .int .i64 x54.Watch, .int .i64 x54.Quorum]) (cs' := [.string x54.Name, .int .i64 x54.Place, .int .i64 x54.Flood, .int .i64 x54.Lead, .int .i64 x54.People, .int .i64 x54.Watch, .int .i64 x54.Quorum]) rfl rfl rfl (one_cons rfl (one_cons rfl (one_cons rfl (one_cons rfl (one_cons rfl (one_cons rfl (one_cons rfl one_nil))))))) ty_41 rfl hs61 .head rfl rfl fun h72 hs73 e74 => ?_
    refine LF.nil (sb 11 rfl (sb 9 rfl (sb 7 rfl (sb 4 rfl (sb 1 rfl (sb 2 rfl sb0)))))) ?_
    refine WF.seq ?_
    refine WF.rc (.inl rfl) hs73 ?_
    have k75 := k49.mono (e62.trans e74)
    refine QF.ld ckC hs73.1 rfl k75 ty_31 (fun e => by cases e) rfl fun v76 k77 => ?_
    refine QF.mv rfl rfl ?_
    refine QF.mv rfl rfl ?_
    have k78 := h_p2_readings.mono' (e5.trans (e12.trans (e18.trans (e26.trans (e47.trans (e62.trans e74))))))
    obtain ⟨y79, hy79, E⟩ := bd E
    refine QF.callp (v := .bool y79) (Ψ := True) rfl rfl rfl ca_7 rfl (fun h' o => (alarm_Quorum_ret (St.all h') (k77.mono (o.all hs73.1)) h_p1_town (k78.mono' (o.all hs73.1)) hy79).mono fun _ _ _ _ p => ⟨p.1, trivial⟩) fun r80 => ?_
    refine QF.as_ rfl rfl ?_
    refine QF.rcn (sb 12 rfl (sb 11 rfl (sb 9 rfl (sb 7 rfl (sb 4 rfl (sb 1 rfl (sb 2 rfl sb0))))))) fun h81 hs82 e83 => ?_
    refine WF.seq ?_
    refine WF.rp (.inl rfl) ?_
    refine QF.as_ rfl rfl ?_
    refine QF.rpn (sb 13 rfl (sb 12 rfl (sb 11 rfl (sb 9 rfl (sb 7 rfl (sb 4 rfl (sb 1 rfl (sb 2 rfl sb0)))))))) ?_
    refine WF.seq ?_
    refine WF.rp (.inl rfl) ?_
    refine QF.as_ rfl rfl ?_
    refine QF.rpn (sb 14 rfl (sb 13 rfl (sb 12 rfl (sb 11 rfl (sb 9 rfl (sb 7 rfl (sb 4 rfl (sb 1 rfl (sb 2 rfl sb0))))))))) ?_
    refine WF.seq ?_
    refine WF.seq ?_
    refine WF.rp (.inl rfl) ?_
    refine QF.as_ rfl rfl ?_
    refine QF.rpn (sb 15 rfl (sb 14 rfl (sb 13 rfl (sb 12 rfl (sb 11 rfl (sb 9 rfl (sb 7 rfl (sb 4 rfl (sb 1 rfl (sb 2 rfl sb0)))))))))) ?_
    refine WF.blockJ (fun a w => ∃ (i84 : Int) (v86 : Value) (l87 : List GReading) (S' : Nat → Prop) (h' : Heap), Fr 154 a [(12, .bool y79), (11, .pointer (some ⟨b59, 0, none⟩)), (9, .bool y14), (7, q8), (4, q1), (1, .int .i64 p1_town), (2, v_p2_readings), (13, .int .i64 i84), (14, v86)] ∧ Wd B h' w ∧ St S' (OS RGReading 36 v86 l87 :: Bx b59 41 [.string x54.Name, .int .i64 x54.Place, .int .i64 x54.Flood, .int .i64 x54.Lead, .int .i64 x54.People, .int .i64 x54.Watch, .int .i64 x54.Quorum] :: L) h' ∧ Ext S9 h81 S' h' ∧ inI64 i84 ∧ f_bournelaw43_AlarmGauges_j0 N p0_b p1_town p2_readings p3_more y14 x54 y79 i84 l87 = some r) ?_ ?_
    · skip
      refine WF.loopF (fun n1 => fun a w => ∃ (i94 : Int) (v96 : Value) (l97 : List GReading) (i98 : Int) (S' : Nat → Prop) (h' : Heap), Fr 154 a [(12, .bool y79), (11, .pointer (some ⟨b59, 0, none⟩)), (9, .bool y14), (7, q8), (4, q1), (1, .int .i64 p1_town), (2, v_p2_readings), (13, .int .i64 i94), (14, v96), (15, .int .i64 i98)] ∧ Wd B h' w ∧ St S' (OS RGReading 36 v96 l97 :: Bx b59 41 [.string x54.Name, .int .i64 x54.Place, .int .i64 x54.Flood, .int .i64 x54.Lead, .int .i64 x54.People, .int .i64 x54.Watch, .int .i64 x54.Quorum] :: L) h' ∧ Ext S9 h81 S' h' ∧ inI64 i94 ∧ inI64 i98 ∧ f_bournelaw43_AlarmGauges_l1 N p0_b p2_readings x54 (f_bournelaw43_AlarmGauges_j0 N p0_b p1_town p2_readings p3_more y14 x54 y79) n1 i94 l97 i98 = some r) N ?_ ?_ ?_
      · intro aa ww hf hw
        have hs100 := hs82.nil RGReading 36
        exact ⟨0, (.slice none 0 0), ([]), 0, _, _, hf.sub (sb 12 rfl (sb 11 rfl (sb 9 rfl (sb 7 rfl (sb 4 rfl (sb 1 rfl (sb 2 rfl (sb 13 rfl (sb 14 rfl (sb 15 rfl sb0)))))))))), hw, hs100, (Ext.refl S9 h81), (show inI64 0 by unfold inI64; omega), (show inI64 0 by unfold inI64; omega), E⟩
      · rintro aa ww ⟨_, _, _, _, _, _, _, _, _, _, _, _, E⟩
        rw [f_bournelaw43_AlarmGauges_l1] at E; cases E
      · skip
        rintro n1 aa ww ⟨i94, v96, l97, i98, S101, h102, hf, hw, hs103, e104, r95, r99, E⟩
        refine WF.run ?_ hf hw
        clear hf hw ww aa
        rw [f_bournelaw43_AlarmGauges_l1] at E
        refine WF.seq ?_
        refine WF.seq ?_
        refine WF.rp (.inl rfl) ?_
        refine QF.mv rfl rfl ?_
        refine QF.mv rfl rfl ?_
        have k105 := h_p2_readings.mono' (e5.trans (e12.trans (e18.trans (e26.trans (e47.trans (e62.trans (e74.trans (e83.trans e104))))))))
        refine QF.len rfl k105 sl_32 rfl fun b106 => ?_
        unfold maxLen at b106
        refine QF.lss rfl rfl rfl ?_
        refine QF.rpn (sb 58 rfl (sb 12 rfl (sb 11 rfl (sb 9 rfl (sb 7 rfl (sb 4 rfl (sb 1 rfl (sb 2 rfl (sb 13 rfl (sb 14 rfl (sb 15 rfl sb0))))))))))) ?_
        refine WF.if_ rfl (fun c107 => ?_) (fun c107 => ?_)
        · skip
          have E := cdT c107 E
          refine WF.skip ?_
          refine WF.seq ?_
          refine WF.blockJ (fun a w => ∃ (i108 : Int) (v110 : Value) (l111 : List GReading) (S' : Nat → Prop) (h' : Heap), Fr 154 a [(12, .bool y79), (11, .pointer (some ⟨b59, 0, none⟩)), (9, .bool y14), (7, q8), (4, q1), (1, .int .i64 p1_town), (2, v_p2_readings), (15, .int .i64 i98), (13, .int .i64 i108), (14, v110)] ∧ Wd B h' w ∧ St S' (OS RGReading 36 v110 l111 :: Bx b59 41 [.string x54.Name, .int .i64 x54.Place, .int .i64 x54.Flood, .int .i64 x54.Lead, .int .i64 x54.People, .int .i64 x54.Watch, .int .i64 x54.Quorum] :: L) h' ∧ Ext S101 h102 S' h' ∧ inI64 i108 ∧ f_bournelaw43_AlarmGauges_j2 N i98 (f_bournelaw43_AlarmGauges_l1 N p0_b p2_readings x54 (f_bournelaw43_AlarmGauges_j0 N p0_b p1_town p2_readings p3_more y14 x54 y79) n1) i108 l111 = some r) ?_ ?_
          · skip
            refine WF.seq ?_
            refine WF.rp (.inl rfl) ?_
            refine QF.mv rfl rfl ?_
            refine QF.mv rfl rfl ?_
            have k112 := h_p2_readings.mono' (e5.trans (e12.trans (e18.trans (e26.trans (e47.trans (e62.trans (e74.trans (e83.trans e104))))))))
            obtain ⟨x113, hx113, E⟩ := bd E
            refine QF.ixe rfl rfl k112 sl_32 hx113 rfl fun q114 k115 => ?_
            refine QF.fa rfl k115 GReading.f_Gauge fa_36_0 rfl fun q116 k117 => ?_
            refine QF.ldi ckP hs103.1 rfl k117 ty_3 rfl fun r118 => ?_
            refine QF.as_ rfl rfl ?_
            refine QF.rpn (sb 16 rfl (sb 12 rfl (sb 11 rfl (sb 9 rfl (sb 7 rfl (sb 4 rfl (sb 1 rfl (sb 2 rfl (sb 13 rfl (sb 14 rfl (sb 15 rfl sb0))))))))))) ?_
            refine WF.seq ?_
            refine WF.seq ?_
            refine WF.rp (.inr ⟨mo, by kernel_rfl⟩) ?_
            refine QF.mv rfl rfl ?_
            refine QF.lss rfl rfl rfl ?_
            refine QF.mv rfl rfl ?_
            refine QF.cutv 6 74 (.bool ((decide (x113.Gauge < 0)) || (decide ((↑p0_b.Gauges.length : Int) ≤ x113.Gauge)))) ?_ ?_
            · cases c119 : (decide (x113.Gauge < 0))
              · skip
                refine QF.gy rfl rfl rfl ?_
                refine QF.mv rfl rfl ?_
                refine QF.gy rfl rfl rfl ?_
                have k120 := k75.mono (e83.trans e104)
                refine QF.fa rfl k120 GBasin.f_Gauges fa_31_6 rfl fun q121 k122 => ?_
                refine QF.gy rfl rfl rfl ?_
                refine QF.ldl ckP hs103.1 rfl k122 ty_26 rfl fun v123 k124 => ?_
                refine QF.gy rfl rfl rfl ?_
                refine QF.len rfl k124 sl_26 rfl fun b125 => ?_
                unfold maxLen at b125
                refine QF.gy rfl rfl rfl ?_
                refine QF.geq rfl rfl rfl ?_
                refine QF.pick rfl rfl rfl ?_
                exact QF.cutn (sb 74 rfl (sb 68 rfl (sb 67 rfl (sb 66 rfl (sb 16 rfl (sb 12 rfl (sb 11 rfl (sb 9 rfl (sb 7 rfl (sb 4 rfl (sb 1 rfl (sb 2 rfl (sb 13 rfl (sb 14 rfl (sb 15 rfl sb0)))))))))))))))
              · skip
                refine QF.gnT rfl rfl rfl rfl rfl ?_
                refine QF.gnT rfl rfl rfl rfl rfl ?_
                refine QF.gnT rfl rfl rfl rfl rfl ?_
                refine QF.gnT rfl rfl rfl rfl rfl ?_
                refine QF.gnT rfl rfl rfl rfl rfl ?_
                refine QF.pick rfl rfl rfl ?_
                exact QF.cutn (sb 74 rfl (sb 68 rfl (sb 67 rfl (sb 66 rfl (sb 16 rfl (sb 12 rfl (sb 11 rfl (sb 9 rfl (sb 7 rfl (sb 4 rfl (sb 1 rfl (sb 2 rfl (sb 13 rfl (sb 14 rfl (sb 15 rfl sb0)))))))))))))))
            refine QF.mv rfl rfl ?_
            obtain ⟨b127, hb127, E⟩ := bd E
            refine QF.cutv 8 83 (.bool b127) ?_ ?_
            · cases c126 : ((decide (x113.Gauge < 0)) || (decide ((↑p0_b.Gauges.length : Int) ≤ x113.Gauge)))
              · skip
                have hb127 := cdF c126 hb127
                refine QF.gy rfl rfl rfl ?_
                have k128 := k75.mono (e83.trans e104)
                refine QF.fa rfl k128 GBasin.f_Gauges fa_31_6 rfl fun q129 k130 => ?_
                refine QF.gy rfl rfl rfl ?_
                refine QF.ldl ckP hs103.1 rfl k130 ty_26 rfl fun v131 k132 => ?_
                refine QF.gy rfl rfl rfl ?_
                refine QF.mv rfl rfl ?_
                refine QF.gy rfl rfl rfl ?_
                obtain ⟨x133, hx133, hb127⟩ := bd hb127
                refine QF.ixe rfl rfl k132 sl_26 hx133 rfl fun q134 k135 => ?_
                refine QF.gy rfl rfl rfl ?_
                refine QF.fa rfl k135 GGauge.f_Kind fa_44_1 rfl fun q136 k137 => ?_
                refine QF.gy rfl rfl rfl ?_
                refine QF.ldi ckP hs103.1 rfl k137 ty_3 rfl fun r138 => ?_
                refine QF.gy rfl rfl rfl ?_
                refine QF.neq rfl rfl rfl ?_
                refine QF.pick rfl rfl rfl ?_
                cases hb127
                exact QF.cutn (sb 83 rfl (sb 75 rfl (sb 74 rfl (sb 68 rfl (sb 67 rfl (sb 66 rfl (sb 16 rfl (sb 12 rfl (sb 11 rfl (sb 9 rfl (sb 7 rfl (sb 4 rfl (sb 1 rfl (sb 2 rfl (sb 13 rfl (sb 14 rfl (sb 15 rfl sb0)))))))))))))))))
              · skip
                have hb127 := cdT c126 hb127
                cases hb127
                refine QF.gnT rfl rfl rfl rfl rfl ?_
                refine QF.gnT rfl rfl rfl rfl rfl ?_
                refine QF.gnT rfl rfl rfl rfl rfl ?_
                refine QF.gnT rfl rfl rfl rfl rfl ?_
                refine QF.gnT rfl rfl rfl rfl rfl ?_
                refine QF.gnT rfl rfl rfl rfl rfl ?_
                refine QF.gnT rfl rfl rfl rfl rfl ?_
                refine QF.pick rfl rfl rfl ?_
                exact QF.cutn (sb 83 rfl (sb 75 rfl (sb 74 rfl (sb 68 rfl (sb 67 rfl (sb 66 rfl (sb 16 rfl (sb 12 rfl (sb 11 rfl (sb 9 rfl (sb 7 rfl (sb 4 rfl (sb 1 rfl (sb 2 rfl (sb 13 rfl (sb 14 rfl (sb 15 rfl sb0)))))))))))))))))
            refine QF.mv rfl rfl ?_
            obtain ⟨b140, hb140, E⟩ := bd E
            refine QF.cutv 10 94 (.bool b140) ?_ ?_
            · cases c139 : b127
              · skip
                have hb140 := cdF c139 hb140
                refine QF.gy rfl rfl rfl ?_
                have k141 := k75.mono (e83.trans e104)
                refine QF.fa rfl k141 GBasin.f_Gauges fa_31_6 rfl fun q142 k143 => ?_
                refine QF.gy rfl rfl rfl ?_
                refine QF.ldl ckP hs103.1 rfl k143 ty_26 rfl fun v144 k145 => ?_
                refine QF.gy rfl rfl rfl ?_
                refine QF.mv rfl rfl ?_
                refine QF.gy rfl rfl rfl ?_
                obtain ⟨x146, hx146, hb140⟩ := bd hb140
                refine QF.ixe rfl rfl k145 sl_26 hx146 rfl fun q147 k148 => ?_
                refine QF.gy rfl rfl rfl ?_
                refine QF.fa rfl k148 GGauge.f_Target fa_44_2 rfl fun q149 k150 => ?_
                refine QF.gy rfl rfl rfl ?_
                refine QF.ldi ckP hs103.1 rfl k150 ty_3 rfl fun r151 => ?_
                refine QF.gy rfl rfl rfl ?_
                refine QF.fao rfl fa_41_1 rfl ?_
                refine QF.gy rfl rfl rfl ?_
                refine QF.ldo (vs := [.int .i64 x54.Place]) ckP hs103 rfl (mt mh) rfl rfl ty_3 rfl rfl ?_
                refine QF.gy rfl rfl rfl ?_
                refine QF.neq rfl rfl rfl ?_
                refine QF.pick rfl rfl rfl ?_
                cases hb140
                exact QF.cutn (sb 94 rfl (sb 84 rfl (sb 83 rfl (sb 75 rfl (sb 74 rfl (sb 68 rfl (sb 67 rfl (sb 66 rfl (sb 16 rfl (sb 12 rfl (sb 11 rfl (sb 9 rfl (sb 7 rfl (sb 4 rfl (sb 1 rfl (sb 2 rfl (sb 13 rfl (sb 14 rfl (sb 15 rfl sb0)))))))))))))))))))
              · skip
                have hb140 := cdT c139 hb140
                cases hb140
                refine QF.gnT rfl rfl rfl rfl rfl ?_
                refine QF.gnT rfl rfl rfl rfl rfl ?_
                refine QF.gnT rfl rfl rfl rfl rfl ?_
                refine QF.gnT rfl rfl rfl rfl rfl ?_
                refine QF.gnT rfl rfl rfl rfl rfl ?_
                refine QF.gnT rfl rfl rfl rfl rfl ?_
                refine QF.gnT rfl rfl rfl rfl rfl ?_
                refine QF.gnT rfl rfl rfl rfl rfl ?_
                refine QF.gnT rfl rfl rfl rfl rfl ?_
                refine QF.pick rfl rfl rfl ?_
                exact QF.cutn (sb 94 rfl (sb 84 rfl (sb 83 rfl (sb 75 rfl (sb 74 rfl (sb 68 rfl (sb 67 rfl (sb 66 rfl (sb 16 rfl (sb 12 rfl (sb 11 rfl (sb 9 rfl (sb 7 rfl (sb 4 rfl (sb 1 rfl (sb 2 rfl (sb 13 rfl (sb 14 rfl (sb 15 rfl sb0)))))))))))))))))))
            refine QF.rpn (sb 94 rfl (sb 12 rfl (sb 11 rfl (sb 9 rfl (sb 7 rfl (sb 4 rfl (sb 1 rfl (sb 2 rfl (sb 13 rfl (sb 14 rfl (sb 15 rfl sb0))))))))))) ?_
            refine WF.if_ rfl (fun c152 => ?_) (fun c152 => ?_)
            · skip
              have E := cdT c152 E
              refine WF.exit rfl (fun aa ww hf hw => ?_)
              exact ⟨i94, v96, l97, _, _, hf.sub (sb 12 rfl (sb 11 rfl (sb 9 rfl (sb 7 rfl (sb 4 rfl (sb 1 rfl (sb 2 rfl (sb 15 rfl (sb 13 rfl (sb 14 rfl sb0)))))))))), hw, hs103, (Ext.refl S101 h102), r95, E⟩
            · skip
              have E := cdF c152 E
              refine WF.skip ?_
              refine WF.seq ?_
              refine WF.rl ?_
              refine LF.q 5 ?_
              refine QF.mv rfl rfl ?_
              refine QF.mv rfl rfl ?_
              refine QF.mv rfl rfl ?_
              have k153 := h_p2_readings.mono' (e5.trans (e12.trans (e18.trans (e26.trans (e47.trans (e62.trans (e74.trans (e83.trans e104))))))))
              obtain ⟨x154, hx154, E⟩ := bd E
              refine QF.ixe rfl rfl k153 sl_32 hx154 rfl fun q155 k156 => ?_
              refine QF.ld ckP hs103.1 rfl k156 ty_36 (fun e => by cases e) rfl fun v157 k158 => ?_
              refine QF.ln ?_
              obtain ⟨rfl, ⟨r160, r161, r162, r163⟩⟩ := RGReading.ex k158
              refine LF.bsq (cs := [.int .i64 x154.Gauge, .int .i64 x154.Hour, .int .i64 x154.Value.Lo, .int .i64 x154.Value.Hi]) el_32 rfl rfl rfl rfl rfl rfl rfl hs103 fun b164 h165 hs166 e167 => ?_
              obtain ⟨ck168, E⟩ := ck1 E
              refine LF.app2 (r := RGReading) (l := l97) (xs := ([x154] : List GReading)) rfl rfl el_32 rfl mh ⟨_, _, rfl, ⟨rfl, ⟨r160, r161, r162, r163⟩⟩, rfl⟩ rfl rfl ck168 rfl hs166 (fun _ => (.tail .head)) fun v169 h170 hs171 e172 => ?_
              have hs173 := hs171.drop .head
              refine LF.q 1 ?_
              refine QF.as_ rfl rfl ?_
              refine QF.ln ?_
              refine LF.nil (sb 14 rfl (sb 12 rfl (sb 11 rfl (sb 9 rfl (sb 7 rfl (sb 4 rfl (sb 1 rfl (sb 2 rfl (sb 13 rfl (sb 15 rfl sb0)))))))))) ?_
              refine WF.seq ?_
              obtain ⟨x178, hx178, E⟩ := bd E
              obtain ⟨y183, hy183, E⟩ := bd E
              refine WF.raf (m := [(14, v169), (12, .bool y79), (11, .pointer (some ⟨b59, 0, none⟩)), (9, .bool y14), (7, q8), (4, q1), (1, .int .i64 p1_town), (2, v_p2_readings), (13, .int .i64 i94), (15, .int .i64 i98)]) 10 [8] (fun i v hh => match i with | 0 => Rd S101 hh RGBasin v p0_b | 1 => Sl S101 hh RGReading v p2_readings | 2 => v = .int .i64 i98 ∧ inI64 i98 | 3 => Pt S101 hh RGReading v x178 | 4 => Rd S101 hh RGReading v x178 | 5 => v = .tuple #[.agg #[.int .i64 y183.1.Lo, .int .i64 y183.1.Hi], .bool y183.2] ∧ inI64 y183.1.Lo ∧ inI64 y183.1.Hi | 6 => v = .tuple #[.agg #[.int .i64 y183.1.Lo, .int .i64 y183.1.Hi], .bool y183.2] ∧ inI64 y183.1.Lo ∧ inI64 y183.1.Hi | 7 => v = .agg #[.int .i64 y183.1.Lo, .int .i64 y183.1.Hi] ∧ inI64 y183.1.Lo ∧ inI64 y183.1.Hi | 8 => v = .bool y183.2 | 9 => AlR h170 34 [.int .i64 0, .int .i64 0] v hh | _ => False) [[], [], [], [(1, 104), (2, 105)], [(3, 106)], [(0, 103), (4, 107)], [(5, 108)], [(6, 102)], [(6, 102)], []] [(7, 109), (8, 110), (9, 17)] mo (by kernel_rfl) [14, 12, 11, 9, 7, 4, 1, 2, 13, 15] rfl (by kernel_rfl) (by kernel_rfl) (by kernel_rfl) (sb 14 rfl (sb 12 rfl (sb 11 rfl (sb 9 rfl (sb 7 rfl (sb 4 rfl (sb 1 rfl (sb 2 rfl (sb 13 rfl (sb 15 rfl sb0)))))))))) (fun i v h1 h2 o1 o2 hr => ?_) ?_ ?_ ?_
              · match i, hr with
                | 0, hr => exact Rd.mono hr (o2.ext fun b hb => Nat.lt_of_lt_of_le (hs173.1 b hb) o1.siz)
                | 1, hr => exact Sl.mono' hr (o2.ext fun b hb => Nat.lt_of_lt_of_le (hs173.1 b hb) o1.siz)
                | 2, hr => exact hr
                | 3, hr => exact Pt2.mono hr (o2.ext fun b hb => Nat.lt_of_lt_of_le (hs173.1 b hb) o1.siz)
                | 4, hr => exact Rd.mono hr (o2.ext fun b hb => Nat.lt_of_lt_of_le (hs173.1 b hb) o1.siz)
                | 5, hr => exact hr
                | 6, hr => exact hr
                | 7, hr => exact hr
                | 8, hr => exact hr
                | 9, hr => exact hr.mono o2
                | _ + 10, hr => exact hr.elim
              · skip
                refine FAll.cons [(6, 102)] (by kernel_rfl) rfl rfl (by kernel_rfl) ?_ ?_
                · intro mq hh o
                  intro u188 f189
                  obtain ⟨rfl, r190, r191⟩ := f189
                  intro a hf
                  exact ⟨.bool y183.2, yields_ext hf rfl rfl, rfl⟩
                exact trivial
              · skip
                refine SAll.cons rfl ?_ ?_
                · intro mq hh o
                  have hsN := o.st hs173
                  refine LF.q 1 ?_
                  have k192 := k75.mono (e83.trans (e104.trans (e167.trans (e172.trans (o.ext hs173.1)))))
                  refine QF.ld ckP hsN.1 rfl k192 ty_31 (fun e => by cases e) rfl fun v193 k194 => ?_
                  refine QF.ln ?_
                  exact LF.aend (Old.refl _) k194
                refine SAll.cons rfl ?_ ?_
                · intro mq hh o
                  have hsN := o.st hs173
                  refine LF.q 1 ?_
                  refine QF.mv rfl rfl ?_
                  refine QF.ln ?_
                  have k195 := h_p2_readings.mono' (e5.trans (e12.trans (e18.trans (e26.trans (e47.trans (e62.trans (e74.trans (e83.trans (e104.trans (e167.trans (e172.trans (o.ext hs173.1))))))))))))
                  exact LF.aend (Old.refl _) k195
                refine SAll.cons rfl ?_ ?_
                · intro mq hh o
                  have hsN := o.st hs173
                  refine LF.q 1 ?_
                  refine QF.mv rfl rfl ?_
                  refine QF.ln ?_
                  exact LF.aend (Old.refl _) ⟨rfl, r99⟩
                refine SAll.cons rfl ?_ ?_
                · intro mq hh o
                  intro u196 f197 u198 f199
                  have hsN := o.st hs173
                  have f197 : Sl _ _ RGReading u196 p2_readings := f197
                  obtain ⟨rfl, r200⟩ := f199
                  refine LF.q 1 ?_
                  refine QF.ixe rfl rfl f197 sl_32 hx178 rfl fun q201 k202 => ?_
                  refine QF.ln ?_
                  exact LF.aend (Old.refl _) k202
                refine SAll.cons rfl ?_ ?_
                · intro mq hh o
                  intro u203 f204
                  have hsN := o.st hs173
                  have f204 : Pt _ _ RGReading u203 x178 := f204
                  refine LF.q 1 ?_
                  refine QF.ld ckP hsN.1 rfl f204 ty_36 (fun e => by cases e) rfl fun v205 k206 => ?_
                  refine QF.ln ?_
                  exact LF.aend (Old.refl _) k206
                refine SAll.cons rfl ?_ ?_
                · intro mq hh o
                  intro u207 f208 u209 f210
                  have hsN := SN.st hs173 o
                  have f208 := Rd.mono (S' := (SN S101 h170 hh)) f208 ⟨fun b hb => .inl hb, fun _ _ => rfl, Nat.le_refl _⟩
                  have f208 : Rd _ _ RGBasin u207 p0_b := f208
                  have f210 := Rd.mono (S' := (SN S101 h170 hh)) f210 ⟨fun b hb => .inl hb, fun _ _ => rfl, Nat.le_refl _⟩
                  have f210 : Rd _ _ RGReading u209 x178 := f210
                  refine LF.callb rfl rfl rfl ca_8 rfl hsN (fuse_Volume_ret (St.all _) (f208.mono ⟨fun b hb => hsN.1 b hb, fun _ _ => rfl, Nat.le_refl _⟩) (f210.mono ⟨fun b hb => hsN.1 b hb, fun _ _ => rfl, Nat.le_refl _⟩) hy183) fun v211 S212 h213 hs215 e214 e219 p => ?_
                  obtain ⟨rfl, ⟨r216, r217⟩, hq218⟩ := p
                  exact LF.aend ⟨e219.siz, fun b hb => e219.same b hb⟩ ⟨rfl, r216, r217⟩
                refine SAll.cons rfl ?_ ?_
                · intro mq hh o
                  intro u220 f221
                  have hsN := o.st hs173
                  obtain ⟨rfl, r222, r223⟩ := f221
                  refine LF.q 1 ?_
                  refine QF.mv rfl rfl ?_
                  refine QF.ln ?_
                  exact LF.aend (Old.refl _) ⟨rfl, r222, r223⟩
                refine SAll.cons rfl ?_ ?_
                · intro mq hh o
                  intro u224 f225
                  have hsN := o.st hs173
                  obtain ⟨rfl, r226, r227⟩ := f225
                  refine LF.q 1 ?_
                  refine QF.ext rfl rfl rfl ?_
                  refine QF.ln ?_
                  exact LF.aend (Old.refl _) ⟨rfl, r226, r227⟩
                refine SAll.cons rfl ?_ ?_
                · intro mq hh o
                  intro u228 f229
                  have hsN := o.st hs173
                  obtain ⟨rfl, r230, r231⟩ := f229
                  refine LF.q 1 ?_
                  refine QF.ext rfl rfl rfl ?_
                  refine QF.ln ?_
                  exact LF.aend (Old.refl _) rfl
                refine SAll.cons rfl ?_ ?_
                · intro mq hh o
                  refine LF.alA o zc_34 rfl fun _ h' o' r' => ?_
                  exact LF.aend o' r'
                exact trivial
              intro h232 o233 u234 f235 u236 f237 u238 f239
              obtain ⟨b241, rfl, hs240⟩ := f239.st hs173 o233
              obtain ⟨rfl, r242, r243⟩ := f235
              cases f237
              refine LF.st (vs := [.int .i64 y183.1.Lo, .int .i64 y183.1.Hi]) (cs' := [.int .i64 y183.1.Lo, .int .i64 y183.1.Hi]) rfl rfl rfl (one_cons rfl (one_cons rfl one_nil)) ty_34 rfl hs240 .head rfl rfl fun h244 hs245 e246 => ?_
              refine LF.q 1 ?_
              refine QF.as_ rfl rfl ?_
              refine QF.ln ?_
              refine LF.nil (sb 18 rfl (sb 17 rfl (sb 14 rfl (sb 12 rfl (sb 11 rfl (sb 9 rfl (sb 7 rfl (sb 4 rfl (sb 1 rfl (sb 2 rfl (sb 13 rfl (sb 15 rfl sb0)))))))))))) ?_
              refine WF.seq ?_
              refine WF.rc (.inl rfl) hs245 ?_
              refine QF.mv rfl rfl ?_
              refine QF.mv rfl rfl ?_
              obtain ⟨b248, hb248, E⟩ := bd E
              refine QF.cutv 3 115 (.bool b248) ?_ ?_
              · cases c247 : y183.2
                · skip
                  have hb248 := cdF c247 hb248
                  cases hb248
                  refine QF.gnF rfl rfl rfl rfl rfl ?_
                  refine QF.gnF rfl rfl rfl rfl rfl ?_
                  refine QF.pick rfl rfl rfl ?_
                  exact QF.cutn (sb 115 rfl (sb 112 rfl (sb 111 rfl (sb 18 rfl (sb 17 rfl (sb 14 rfl (sb 12 rfl (sb 11 rfl (sb 9 rfl (sb 7 rfl (sb 4 rfl (sb 1 rfl (sb 2 rfl (sb 13 rfl (sb 15 rfl sb0)))))))))))))))
                · skip
                  have hb248 := cdT c247 hb248
                  refine QF.gy rfl rfl rfl ?_
                  refine QF.ldo (vs := [.int .i64 y183.1.Lo, .int .i64 y183.1.Hi]) ckC hs245 rfl mh rfl rfl ty_34 rfl rfl ?_
                  refine QF.gy rfl rfl rfl ?_
                  obtain ⟨y249, hy249, hb248⟩ := bd hb248
                  refine QF.callp (v := .bool y249) (Ψ := True) rfl rfl rfl ca_9 rfl (fun h' o => (span_Right_ret (St.all h') (RGSpan.mk (x := y183.1) ⟨r242, r243⟩) hy249).mono fun _ _ _ _ p => ⟨p.1, trivial⟩) fun r250 => ?_
                  refine QF.pick rfl rfl rfl ?_
                  cases hb248
                  exact QF.cutn (sb 115 rfl (sb 112 rfl (sb 111 rfl (sb 18 rfl (sb 17 rfl (sb 14 rfl (sb 12 rfl (sb 11 rfl (sb 9 rfl (sb 7 rfl (sb 4 rfl (sb 1 rfl (sb 2 rfl (sb 13 rfl (sb 15 rfl sb0)))))))))))))))
              refine QF.mv rfl rfl ?_
              refine QF.cutv 6 122 (.bool (b248 && (decide (x54.Watch < y183.1.Lo)))) ?_ ?_
              · cases c251 : b248
                · skip
                  refine QF.gnF rfl rfl rfl rfl rfl ?_
                  refine QF.gnF rfl rfl rfl rfl rfl ?_
                  refine QF.gnF rfl rfl rfl rfl rfl ?_
                  refine QF.gnF rfl rfl rfl rfl rfl ?_
                  refine QF.gnF rfl rfl rfl rfl rfl ?_
                  refine QF.pick rfl rfl rfl ?_
                  exact QF.cutn (sb 122 rfl (sb 116 rfl (sb 115 rfl (sb 112 rfl (sb 111 rfl (sb 18 rfl (sb 17 rfl (sb 14 rfl (sb 12 rfl (sb 11 rfl (sb 9 rfl (sb 7 rfl (sb 4 rfl (sb 1 rfl (sb 2 rfl (sb 13 rfl (sb 15 rfl sb0)))))))))))))))))
                · skip
                  refine QF.gy rfl rfl rfl ?_
                  refine QF.fao rfl fa_34_0 rfl ?_
                  refine QF.gy rfl rfl rfl ?_
                  refine QF.ldo (vs := [.int .i64 y183.1.Lo]) ckC hs245 rfl mh rfl rfl ty_3 rfl rfl ?_
                  refine QF.gy rfl rfl rfl ?_
                  refine QF.fao rfl fa_41_5 rfl ?_
                  refine QF.gy rfl rfl rfl ?_
                  refine QF.ldo (vs := [.int .i64 x54.Watch]) ckC hs245 rfl (mt (mt mh)) rfl rfl ty_3 rfl rfl ?_
                  refine QF.gy rfl rfl rfl ?_
                  refine QF.gtr rfl rfl rfl ?_
                  refine QF.pick rfl rfl rfl ?_
                  exact QF.cutn (sb 122 rfl (sb 116 rfl (sb 115 rfl (sb 112 rfl (sb 111 rfl (sb 18 rfl (sb 17 rfl (sb 14 rfl (sb 12 rfl (sb 11 rfl (sb 9 rfl (sb 7 rfl (sb 4 rfl (sb 1 rfl (sb 2 rfl (sb 13 rfl (sb 15 rfl sb0)))))))))))))))))
              refine QF.rcn (sb 122 rfl (sb 14 rfl (sb 12 rfl (sb 11 rfl (sb 9 rfl (sb 7 rfl (sb 4 rfl (sb 1 rfl (sb 2 rfl (sb 13 rfl (sb 15 rfl sb0))))))))))) fun h252 hs253 e254 => ?_
              refine WF.if_ rfl (fun c255 => ?_) (fun c255 => ?_)
              · skip
                have E := cdT c255 E
                refine WF.rp (.inl rfl) ?_
                refine QF.mv rfl rfl ?_
                refine QF.addw rfl rfl rfl ?_
                refine QF.as_ rfl rfl ?_
                refine QF.rpn (sb 13 rfl (sb 14 rfl (sb 12 rfl (sb 11 rfl (sb 9 rfl (sb 7 rfl (sb 4 rfl (sb 1 rfl (sb 2 rfl (sb 15 rfl sb0)))))))))) ?_
                refine WF.nil (fun aa ww hf hw => ?_)
                have hs256 := hs253.pick (.tail (.tail .head))
                have hs257 := hs256.pick (.tail (.tail .head))
                have hs258 := hs257.drop (.tail (.tail .head))
                exact ⟨(w64 (i94 + 1)), v169, (l97 ++ ([x154] : List GReading)), _, _, hf.sub (sb 12 rfl (sb 11 rfl (sb 9 rfl (sb 7 rfl (sb 4 rfl (sb 1 rfl (sb 2 rfl (sb 15 rfl (sb 13 rfl (sb 14 rfl sb0)))))))))), hw, hs258, (e167.trans (e172.trans ((o233.ext hs173.1).trans (e246.trans e254)))), (w64_i _), E⟩
              · skip
                have E := cdF c255 E
                refine WF.skip ?_
                refine WF.nil (fun aa ww hf hw => ?_)
                have hs259 := hs253.pick (.tail (.tail .head))
                have hs260 := hs259.pick (.tail (.tail .head))
                have hs261 := hs260.drop (.tail (.tail .head))
                exact ⟨i94, v169, (l97 ++ ([x154] : List GReading)), _, _, hf.sub (sb 12 rfl (sb 11 rfl (sb 9 rfl (sb 7 rfl (sb 4 rfl (sb 1 rfl (sb 2 rfl (sb 15 rfl (sb 13 rfl (sb 14 rfl sb0)))))))))), hw, hs261, (e167.trans (e172.trans ((o233.ext hs173.1).trans (e246.trans e254)))), r95, E⟩
          · skip
            rintro aa ww ⟨i108, v110, l111, S262, h263, hf, hw, hs264, e265, r109, E⟩
            refine WF.run ?_ hf hw
            clear hf hw ww aa
            rw [f_bournelaw43_AlarmGauges_j2] at E
            refine WF.rp (.inl rfl) ?_
            refine QF.mv rfl rfl ?_
            refine QF.addw rfl rfl rfl ?_
            refine QF.as_ rfl rfl ?_
            refine QF.rpn (sb 15 rfl (sb 12 rfl (sb 11 rfl (sb 9 rfl (sb 7 rfl (sb 4 rfl (sb 1 rfl (sb 2 rfl (sb 13 rfl (sb 14 rfl sb0)))))))))) ?_
            refine WF.nil (fun aa ww hf hw => ?_)
            exact ⟨i108, v110, l111, (w64 (i98 + 1)), _, _, hf.sub (sb 12 rfl (sb 11 rfl (sb 9 rfl (sb 7 rfl (sb 4 rfl (sb 1 rfl (sb 2 rfl (sb 13 rfl (sb 14 rfl (sb 15 rfl sb0)))))))))), hw, hs264, (e104.trans e265), r109, (w64_i _), E⟩
        · skip
          have E := cdF c107 E
          refine WF.exit rfl (fun aa ww hf hw => ?_)
          exact ⟨i94, v96, l97, _, _, hf.sub (sb 12 rfl (sb 11 rfl (sb 9 rfl (sb 7 rfl (sb 4 rfl (sb 1 rfl (sb 2 rfl (sb 13 rfl (sb 14 rfl sb0))))))))), hw, hs103, e104, r95, E⟩
    · skip
      rintro aa ww ⟨i84, v86, l87, S266, h267, hf, hw, hs268, e269, r85, E⟩
      refine WF.run ?_ hf hw
      clear hf hw ww aa
      rw [f_bournelaw43_AlarmGauges_j0] at E
      refine WF.seq ?_
      refine WF.seq ?_
      refine WF.rc (.inl rfl) hs268 ?_
      refine QF.mv rfl rfl ?_
      refine QF.mv rfl rfl ?_
      refine QF.cutv 5 131 (.bool (y79 && (decide (i84 < x54.Quorum)))) ?_ ?_
      · cases c270 : y79
        · skip
          refine QF.gnF rfl rfl rfl rfl rfl ?_
          refine QF.gnF rfl rfl rfl rfl rfl ?_
          refine QF.gnF rfl rfl rfl rfl rfl ?_
          refine QF.gnF rfl rfl rfl rfl rfl ?_
          refine QF.pick rfl rfl rfl ?_
          exact QF.cutn (sb 131 rfl (sb 126 rfl (sb 125 rfl (sb 12 rfl (sb 11 rfl (sb 9 rfl (sb 7 rfl (sb 4 rfl (sb 1 rfl (sb 2 rfl (sb 13 rfl (sb 14 rfl sb0))))))))))))
        · skip
          refine QF.gy rfl rfl rfl ?_
          refine QF.mv rfl rfl ?_
          refine QF.gy rfl rfl rfl ?_
          refine QF.fao rfl fa_41_6 rfl ?_
          refine QF.gy rfl rfl rfl ?_
          refine QF.ldo (vs := [.int .i64 x54.Quorum]) ckC hs268 rfl (mt mh) rfl rfl ty_3 rfl rfl ?_
          refine QF.gy rfl rfl rfl ?_
          refine QF.lss rfl rfl rfl ?_
          refine QF.pick rfl rfl rfl ?_
          exact QF.cutn (sb 131 rfl (sb 126 rfl (sb 125 rfl (sb 12 rfl (sb 11 rfl (sb 9 rfl (sb 7 rfl (sb 4 rfl (sb 1 rfl (sb 2 rfl (sb 13 rfl (sb 14 rfl sb0))))))))))))
      refine QF.mv rfl rfl ?_
      obtain ⟨b272, hb272, E⟩ := bd E
      refine QF.cutv 7 139 (.bool b272) ?_ ?_
      · cases c271 : (y79 && (decide (i84 < x54.Quorum)))
        · skip
          have hb272 := cdF c271 hb272
          refine QF.gy rfl rfl rfl ?_
          have k273 := k75.mono (e83.trans e269)
          refine QF.ld ckC hs268.1 rfl k273 ty_31 (fun e => by cases e) rfl fun v274 k275 => ?_
          refine QF.gy rfl rfl rfl ?_
          refine QF.mv rfl rfl ?_
          refine QF.gy rfl rfl rfl ?_
          refine QF.mv rfl rfl ?_
          refine QF.gy rfl rfl rfl ?_
          obtain ⟨y276, hy276, hb272⟩ := bd hb272
          refine QF.callp (v := .bool y276) (Ψ := True) rfl rfl rfl ca_7 rfl (fun h' o => (alarm_Quorum_ret (St.all h') (k275.mono (o.all hs268.1)) h_p1_town ((hs268.oslAll mh).mono (fun b hb => Nat.lt_of_lt_of_le hb o.siz) (fun b hb => o.same b hb)) hy276).mono fun _ _ _ _ p => ⟨p.1, trivial⟩) fun r277 => ?_
          refine QF.gy rfl rfl rfl ?_
          refine QF.mv rfl rfl ?_
          refine QF.gy rfl rfl rfl ?_
          refine QF.neb rfl rfl ub_4 rfl ?_
          refine QF.pick rfl rfl rfl ?_
          cases hb272
          exact QF.cutn (sb 139 rfl (sb 132 rfl (sb 131 rfl (sb 126 rfl (sb 125 rfl (sb 12 rfl (sb 11 rfl (sb 9 rfl (sb 7 rfl (sb 4 rfl (sb 1 rfl (sb 2 rfl (sb 13 rfl (sb 14 rfl sb0))))))))))))))
        · skip
          have hb272 := cdT c271 hb272
          cases hb272
          refine QF.gnT rfl rfl rfl rfl rfl ?_
          refine QF.gnT rfl rfl rfl rfl rfl ?_
          refine QF.gnT rfl rfl rfl rfl rfl ?_
          refine QF.gnT rfl rfl rfl rfl rfl ?_
          refine QF.gnT rfl rfl rfl rfl rfl ?_
          refine QF.gnT rfl rfl rfl rfl rfl ?_
          refine QF.pick rfl rfl rfl ?_
          exact QF.cutn (sb 139 rfl (sb 132 rfl (sb 131 rfl (sb 126 rfl (sb 125 rfl (sb 12 rfl (sb 11 rfl (sb 9 rfl (sb 7 rfl (sb 4 rfl (sb 1 rfl (sb 2 rfl (sb 13 rfl (sb 14 rfl sb0))))))))))))))
      refine QF.rcn (sb 139 rfl (sb 12 rfl (sb 9 rfl (sb 7 rfl (sb 4 rfl (sb 1 rfl (sb 2 rfl sb0))))))) fun h278 hs279 e280 => ?_
      refine WF.if_ rfl (fun c281 => ?_) (fun c281 => ?_)
      · skip
        have E := cdT c281 E
        refine WF.seq ?_
        refine WF.rp (.inl rfl) ?_
        refine QF.as_ rfl rfl ?_
        refine QF.rpn (sb 8 rfl sb0) ?_
        refine WF.ret (fun aa ww hf hw => ?_)
        have hs282 := hs279.drop .head
        have hs283 := hs282.drop .head
        cases E
        exact rtg hf rfl hw (rvc (rvT hf (v := _) rfl) rv0) rfl (e5.trans (e12.trans (e18.trans (e26.trans (e47.trans (e62.trans (e74.trans (e83.trans (e269.trans e280))))))))) ⟨rfl, hs283⟩
      · skip
        have E := cdF c281 E
        refine WF.skip ?_
        refine WF.seq ?_
        obtain ⟨b316, hb316, E⟩ := bd E
        refine WF.cut (fun a w => ∃ (S' : Nat → Prop) (h' : Heap), Fr 154 a [(8, .bool b316)] ∧ Wd B h' w ∧ St S' (OS RGReading 36 v86 l87 :: Bx b59 41 [.string x54.Name, .int .i64 x54.Place, .int .i64 x54.Flood, .int .i64 x54.Lead, .int .i64 x54.People, .int .i64 x54.Watch, .int .i64 x54.Quorum] :: L) h' ∧ Ext S266 h278 S' h') ?_ ?_
        · skip
          rcases bft y14 with c317 | c317
          · skip
            have hb316 := cdF c317 hb316
            have q318 := Option.some.inj hb316
            subst q318
            refine WF.ra (m := [(12, .bool y79), (9, .bool y14), (7, q8), (4, q1), (1, .int .i64 p1_town), (2, v_p2_readings)]) 15 (fun i v hh => match i with | 0 => v = .bool y14 | 1 => v = .bool y14 | 2 => v = undef | 3 => v = undef | 4 => v = undef | 5 => v = undef | 6 => v = undef | 7 => v = undef | 8 => v = undef | 9 => v = undef | 10 => v = undef | 11 => v = undef | 12 => v = undef | 13 => v = .bool false | 14 => v = .bool false | _ => False) [[], [(0, 140)], [(1, 141)], [(1, 141)], [(1, 141)], [(4, 144)], [(4, 144)], [(4, 144)], [(4, 144)], [(4, 144)], [(4, 144)], [(4, 144)], [(1, 141)], [(1, 141), (12, 152)], [(13, 153)]] [(14, 8)] mo (by kernel_rfl) [12, 9, 7, 4, 1, 2] rfl (by kernel_rfl) (by kernel_rfl) (by kernel_rfl) (sb 12 rfl (sb 9 rfl (sb 7 rfl (sb 4 rfl (sb 1 rfl (sb 2 rfl sb0)))))) (fun i v h1 h2 o1 o2 hr => ?_) ?_ ?_
            · match i, hr with
              | 0, hr => exact hr
              | 1, hr => exact hr
              | 2, hr => exact hr
              | 3, hr => exact hr
              | 4, hr => exact hr
              | 5, hr => exact hr
              | 6, hr => exact hr
              | 7, hr => exact hr
              | 8, hr => exact hr
              | 9, hr => exact hr
              | 10, hr => exact hr
              | 11, hr => exact hr
              | 12, hr => exact hr
              | 13, hr => exact hr
              | 14, hr => exact hr
              | _ + 15, hr => exact hr.elim
            · skip
              refine SAll.cons rfl ?_ ?_
              · intro mq hh o
                have hsN := o.st hs279
                refine LF.q 1 ?_
                refine QF.mv rfl rfl ?_
                refine QF.ln ?_
                exact LF.aend (Old.refl _) rfl
              refine SAll.cons rfl ?_ ?_
              · intro mq hh o
                intro u319 f320
                have hsN := o.st hs279
                cases f320
                refine LF.q 1 ?_
                refine QF.mv rfl rfl ?_
                refine QF.ln ?_
                exact LF.aend (Old.refl _) rfl
              refine SAll.cons rfl ?_ ?_
              · intro mq hh o
                intro u321 f322
                have hsN := o.st hs279
                obtain rfl : u321 = .bool false := Eq.trans f322 (congrArg Value.bool c317)
                exact ⟨141, rfl, .inr ⟨_, rfl, (by simp [yb, undef]), rfl⟩⟩
              refine SAll.cons rfl ?_ ?_
              · intro mq hh o
                intro u323 f324
                have hsN := o.st hs279
                obtain rfl : u323 = .bool false := Eq.trans f324 (congrArg Value.bool c317)
                exact ⟨141, rfl, .inr ⟨_, rfl, (by simp [yb, undef]), rfl⟩⟩
              refine SAll.cons rfl ?_ ?_
              · intro mq hh o
                intro u325 f326
                have hsN := o.st hs279
                obtain rfl : u325 = .bool false := Eq.trans f326 (congrArg Value.bool c317)
                exact ⟨141, rfl, .inr ⟨_, rfl, (by simp [yb, undef]), rfl⟩⟩
              refine SAll.cons rfl ?_ ?_
              · intro mq hh o
                intro u327 f328
                have hsN := o.st hs279
                cases f328
                exact ⟨144, rfl, .inr ⟨_, rfl, (by simp [yb, undef]), rfl⟩⟩
              refine SAll.cons rfl ?_ ?_
              · intro mq hh o
                intro u329 f330
                have hsN := o.st hs279
                cases f330
                exact ⟨144, rfl, .inr ⟨_, rfl, (by simp [yb, undef]), rfl⟩⟩
              refine SAll.cons rfl ?_ ?_
              · intro mq hh o
                intro u331 f332
                have hsN := o.st hs279
                cases f332
                exact ⟨144, rfl, .inr ⟨_, rfl, (by simp [yb, undef]), rfl⟩⟩
              refine SAll.cons rfl ?_ ?_
              · intro mq hh o
                intro u333 f334
                have hsN := SN.st hs279 o
                cases f334
                exact ⟨144, rfl, .inr ⟨_, rfl, (by simp [yb, undef]), rfl⟩⟩
              refine SAll.cons rfl ?_ ?_
              · intro mq hh o
                intro u335 f336
                have hsN := o.st hs279
                cases f336
                exact ⟨144, rfl, .inr ⟨_, rfl, (by simp [yb, undef]), rfl⟩⟩
              refine SAll.cons rfl ?_ ?_
              · intro mq hh o
                intro u337 f338
                have hsN := SN.st hs279 o
                cases f338
                exact ⟨144, rfl, .inr ⟨_, rfl, (by simp [yb, undef]), rfl⟩⟩
              refine SAll.cons rfl ?_ ?_
              · intro mq hh o
                intro u339 f340
                have hsN := SN.st hs279 o
                cases f340
                exact ⟨144, rfl, .inr ⟨_, rfl, (by simp [yb, undef]), rfl⟩⟩
              refine SAll.cons rfl ?_ ?_
              · intro mq hh o
                intro u341 f342
                have hsN := o.st hs279
                obtain rfl : u341 = .bool false := Eq.trans f342 (congrArg Value.bool c317)
                exact ⟨141, rfl, .inr ⟨_, rfl, (by simp [yb, undef]), rfl⟩⟩
              refine SAll.cons rfl ?_ ?_
              · intro mq hh o
                intro u343 f344 u345 f346
                have hsN := o.st hs279
                obtain rfl : u343 = .bool false := Eq.trans f344 (congrArg Value.bool c317)
                cases f346
                refine LF.q 1 ?_
                refine QF.pick rfl rfl rfl ?_
                refine QF.ln ?_
                exact LF.aend (Old.refl _) rfl
              refine SAll.cons rfl ?_ ?_
              · intro mq hh o
                intro u347 f348
                have hsN := o.st hs279
                cases f348
                refine LF.q 1 ?_
                refine QF.as_ rfl rfl ?_
                refine QF.ln ?_
                exact LF.aend (Old.refl _) rfl
              exact trivial
            intro h349 o350 u351 f352
            have hs353 := SN.st hs279 o350
            cases f352
            refine LF.nil (sb 8 rfl sb0) ?_
            exact WF.nil (fun aa ww hf hw => ⟨_, _, hf.sub (sb 8 rfl sb0), hw, hs353, (SN.ext hs279.1 o350)⟩)
          · skip
            have hb316 := cdT c317 hb316
            obtain ⟨b354, hb354, hb316⟩ := bd hb316
            rcases bft (!y79) with c355 | c355
            · skip
              have hb354 := cdF c355 hb354
              obtain ⟨ck377, hb354⟩ := ck1 hb354
              obtain ⟨y385, hy385, hb354⟩ := bd hb354
              have q387 := Option.some.inj hb354
              subst q387
              have q388 := Option.some.inj hb316
              subst q388
              refine WF.ra (m := [(12, .bool y79), (9, .bool y14), (7, q8), (4, q1), (1, .int .i64 p1_town), (2, v_p2_readings)]) 15 (fun i v hh => match i with | 0 => v = .bool y14 | 1 => v = .bool y14 | 2 => v = .bool y79 | 3 => v = .bool (!y79) | 4 => v = .bool (!y79) | 5 => Rd S266 hh RGBasin v p0_b | 6 => v = .int .i64 p1_town ∧ inI64 p1_town | 7 => Rd S266 hh RGReading v p3_more | 8 => Sl (SN S266 h278 hh) hh RGReading v ([p3_more] : List GReading) ∧ ∃ ad, v = .slice (some ad) 1 1 | 9 => Sl S266 hh RGReading v p2_readings | 10 => Sl (SN S266 h278 hh) hh RGReading v (([p3_more] : List GReading) ++ p2_readings) | 11 => v = .bool y385 | 12 => v = .bool y385 | 13 => v = .bool y385 | 14 => v = .bool y385 | _ => False) [[], [(0, 140)], [(1, 141)], [(2, 142), (1, 141)], [(3, 143), (1, 141)], [(4, 144)], [(4, 144)], [(4, 144)], [(7, 147), (4, 144)], [(4, 144)], [(8, 148), (9, 149), (4, 144)], [(5, 145), (6, 146), (10, 150), (4, 144)], [(4, 144), (11, 151), (1, 141)], [(1, 141), (12, 152)], [(13, 153)]] [(14, 8)] mo (by kernel_rfl) [12, 9, 7, 4, 1, 2] rfl (by kernel_rfl) (by kernel_rfl) (by kernel_rfl) (sb 12 rfl (sb 9 rfl (sb 7 rfl (sb 4 rfl (sb 1 rfl (sb 2 rfl sb0)))))) (fun i v h1 h2 o1 o2 hr => ?_) ?_ ?_
              · match i, hr with
                | 0, hr => exact hr
                | 1, hr => exact hr
                | 2, hr => exact hr
                | 3, hr => exact hr
                | 4, hr => exact hr
                | 5, hr => exact Rd.mono hr (o2.ext fun b hb => Nat.lt_of_lt_of_le (hs279.1 b hb) o1.siz)
                | 6, hr => exact hr
                | 7, hr => exact Rd.mono hr (o2.ext fun b hb => Nat.lt_of_lt_of_le (hs279.1 b hb) o1.siz)
                | 8, hr => exact ⟨Sl.mono' hr.1 (SN.mono hs279.1 o1 o2), hr.2⟩
                | 9, hr => exact Sl.mono' hr (o2.ext fun b hb => Nat.lt_of_lt_of_le (hs279.1 b hb) o1.siz)
                | 10, hr => exact Sl.mono' hr (SN.mono hs279.1 o1 o2)
                | 11, hr => exact hr
                | 12, hr => exact hr
                | 13, hr => exact hr
                | 14, hr => exact hr
                | _ + 15, hr => exact hr.elim
              · skip
                refine SAll.cons rfl ?_ ?_
                · intro mq hh o
                  have hsN := o.st hs279
                  refine LF.q 1 ?_
                  refine QF.mv rfl rfl ?_
                  refine QF.ln ?_
                  exact LF.aend (Old.refl _) rfl
                refine SAll.cons rfl ?_ ?_
                · intro mq hh o
                  intro u389 f390
                  have hsN := o.st hs279
                  cases f390
                  refine LF.q 1 ?_
                  refine QF.mv rfl rfl ?_
                  refine QF.ln ?_
                  exact LF.aend (Old.refl _) rfl
                refine SAll.cons rfl ?_ ?_
                · intro mq hh o
                  intro u391 f392
                  have hsN := o.st hs279
                  obtain rfl : u391 = .bool true := Eq.trans f392 (congrArg Value.bool c317)
                  refine ⟨141, rfl, .inl ⟨rfl, ?_⟩⟩
                  refine LF.q 1 ?_
                  refine QF.mv rfl rfl ?_
                  refine QF.ln ?_
                  exact LF.aend (Old.refl _) rfl
                refine SAll.cons rfl ?_ ?_
                · intro mq hh o
                  intro u393 f394 u395 f396
                  have hsN := o.st hs279
                  cases f394
                  obtain rfl : u395 = .bool true := Eq.trans f396 (congrArg Value.bool c317)
                  refine ⟨141, rfl, .inl ⟨rfl, ?_⟩⟩
                  refine LF.q 1 ?_
                  refine QF.not rfl rfl ?_
                  refine QF.ln ?_
                  exact LF.aend (Old.refl _) rfl
                refine SAll.cons rfl ?_ ?_
                · intro mq hh o
                  intro u397 f398 u399 f400
                  have hsN := o.st hs279
                  cases f398
                  obtain rfl : u399 = .bool true := Eq.trans f400 (congrArg Value.bool c317)
                  refine ⟨141, rfl, .inl ⟨rfl, ?_⟩⟩
                  refine LF.q 1 ?_
                  refine QF.mv rfl rfl ?_
                  refine QF.ln ?_
                  exact LF.aend (Old.refl _) rfl
                refine SAll.cons rfl ?_ ?_
                · intro mq hh o
                  intro u401 f402
                  have hsN := o.st hs279
                  obtain rfl : u401 = .bool false := Eq.trans f402 (congrArg Value.bool c355)
                  refine ⟨144, rfl, .inl ⟨rfl, ?_⟩⟩
                  refine LF.q 1 ?_
                  have k403 := k75.mono (e83.trans (e269.trans (e280.trans (o.ext hs279.1))))
                  refine QF.ld ckP hsN.1 rfl k403 ty_31 (fun e => by cases e) rfl fun v404 k405 => ?_
                  refine QF.ln ?_
                  exact LF.aend (Old.refl _) k405
                refine SAll.cons rfl ?_ ?_
                · intro mq hh o
                  intro u406 f407
                  have hsN := o.st hs279
                  obtain rfl : u406 = .bool false := Eq.trans f407 (congrArg Value.bool c355)
                  refine ⟨144, rfl, .inl ⟨rfl, ?_⟩⟩
                  refine LF.q 1 ?_
                  refine QF.mv rfl rfl ?_
                  refine QF.ln ?_
                  exact LF.aend (Old.refl _) ⟨rfl, h_p1_town⟩
                refine SAll.cons rfl ?_ ?_
                · intro mq hh o
                  intro u408 f409
                  have hsN := o.st hs279
                  obtain rfl : u408 = .bool false := Eq.trans f409 (congrArg Value.bool c355)
                  refine ⟨144, rfl, .inl ⟨rfl, ?_⟩⟩
                  refine LF.q 1 ?_
                  have k410 := k13.mono (e18.trans (e26.trans (e47.trans (e62.trans (e74.trans (e83.trans (e269.trans (e280.trans (o.ext hs279.1)))))))))
                  refine QF.ld ckP hsN.1 rfl k410 ty_36 (fun e => by cases e) rfl fun v411 k412 => ?_
                  refine QF.ln ?_
                  exact LF.aend (Old.refl _) k412
                refine SAll.cons rfl ?_ ?_
                · intro mq hh o
                  intro u413 f414 u415 f416
                  have hsN := SN.st hs279 o
                  have f414 := Rd.mono (S' := (SN S266 h278 hh)) f414 ⟨fun b hb => .inl hb, fun _ _ => rfl, Nat.le_refl _⟩
                  have f414 : Rd _ _ RGReading u413 p3_more := f414
                  obtain rfl : u415 = .bool false := Eq.trans f416 (congrArg Value.bool c355)
                  refine ⟨144, rfl, .inl ⟨rfl, ?_⟩⟩
                  have hsF := hsN.fz
                  obtain ⟨rfl, ⟨r418, r419, r420, r421⟩⟩ := RGReading.ex f414
                  refine LF.bsq (cs := [.int .i64 p3_more.Gauge, .int .i64 p3_more.Hour, .int .i64 p3_more.Value.Lo, .int .i64 p3_more.Value.Hi]) el_32 rfl rfl rfl rfl rfl rfl rfl hsF fun b422 h423 hs424 e425 => ?_
                  have hs426 := hs424.bxos (r := RGReading) (l := ([p3_more] : List GReading)) .head ⟨_, _, rfl, ⟨rfl, ⟨r418, r419, r420, r421⟩⟩, rfl⟩ (by simp [maxLen])
                  obtain ⟨S427, hs428, e429, k430⟩ := hs426.pubs .head
                  have dn431 := Fz.done o (e425.trans e429) hs428
                  exact LF.aend dn431.1 ⟨Sl.mono' k430 dn431.2, _, rfl⟩
                refine SAll.cons rfl ?_ ?_
                · intro mq hh o
                  intro u432 f433
                  have hsN := o.st hs279
                  obtain rfl : u432 = .bool false := Eq.trans f433 (congrArg Value.bool c355)
                  refine ⟨144, rfl, .inl ⟨rfl, ?_⟩⟩
                  refine LF.q 1 ?_
                  refine QF.mv rfl rfl ?_
                  refine QF.ln ?_
                  have k434 := h_p2_readings.mono' (e5.trans (e12.trans (e18.trans (e26.trans (e47.trans (e62.trans (e74.trans (e83.trans (e269.trans (e280.trans (o.ext hs279.1)))))))))))
                  exact LF.aend (Old.refl _) k434
                refine SAll.cons rfl ?_ ?_
                · intro mq hh o
                  intro u435 f436 u437 f438 u439 f440
                  have hsN := SN.st hs279 o
                  obtain ⟨f436, ad441, rfl⟩ := f436
                  have f438 := Sl.mono' (S' := (SN S266 h278 hh)) f438 ⟨fun b hb => .inl hb, fun _ _ => rfl, Nat.le_refl _⟩
                  have f438 : Sl _ _ RGReading u437 p2_readings := f438
                  obtain rfl : u439 = .bool false := Eq.trans f440 (congrArg Value.bool c355)
                  refine ⟨144, rfl, .inl ⟨rfl, ?_⟩⟩
                  have hsF := hsN.fz
                  refine LF.appF (r := RGReading) (l := ([p3_more] : List GReading)) (xs := p2_readings) rfl f436 rfl rfl el_32 rfl (Sl.src f438) rfl ck377 rfl hsF fun v442 S443 h444 hs445 e446 k447 => ?_
                  have dn448 := Fz.done o e446 hs445
                  exact LF.aend dn448.1 (Sl.mono' k447 dn448.2)
                refine SAll.cons rfl ?_ ?_
                · intro mq hh o
                  intro u449 f450 u451 f452 u453 f454 u455 f456
                  have hsN := SN.st hs279 o
                  have f450 := Rd.mono (S' := (SN S266 h278 hh)) f450 ⟨fun b hb => .inl hb, fun _ _ => rfl, Nat.le_refl _⟩
                  have f450 : Rd _ _ RGBasin u449 p0_b := f450
                  obtain ⟨rfl, r457⟩ := f452
                  have f454 : Sl _ _ RGReading u453 (([p3_more] : List GReading) ++ p2_readings) := f454
                  obtain rfl : u455 = .bool false := Eq.trans f456 (congrArg Value.bool c355)
                  refine ⟨144, rfl, .inl ⟨rfl, ?_⟩⟩
                  refine LF.callb rfl rfl rfl ca_7 rfl hsN (alarm_Quorum_ret (St.all _) (f450.mono ⟨fun b hb => hsN.1 b hb, fun _ _ => rfl, Nat.le_refl _⟩) r457 (f454.mono (fun b hb => hsN.1 b hb) (fun _ _ => rfl)) hy385) fun v458 S459 h460 hs462 e461 e464 p => ?_
                  obtain ⟨rfl, hq463⟩ := p
                  exact LF.aend ⟨e464.siz, fun b hb => e464.same b hb⟩ rfl
                refine SAll.cons rfl ?_ ?_
                · intro mq hh o
                  intro u465 f466 u467 f468 u469 f470
                  have hsN := o.st hs279
                  obtain rfl : u465 = .bool false := Eq.trans f466 (congrArg Value.bool c355)
                  cases f468
                  obtain rfl : u469 = .bool true := Eq.trans f470 (congrArg Value.bool c317)
                  refine ⟨141, rfl, .inl ⟨rfl, ?_⟩⟩
                  refine LF.q 1 ?_
                  refine QF.pick rfl rfl rfl ?_
                  refine QF.ln ?_
                  exact LF.aend (Old.refl _) rfl
                refine SAll.cons rfl ?_ ?_
                · intro mq hh o
                  intro u471 f472 u473 f474
                  have hsN := o.st hs279
                  obtain rfl : u471 = .bool true := Eq.trans f472 (congrArg Value.bool c317)
                  cases f474
                  refine LF.q 1 ?_
                  refine QF.pick rfl rfl rfl ?_
                  refine QF.ln ?_
                  exact LF.aend (Old.refl _) rfl
                refine SAll.cons rfl ?_ ?_
                · intro mq hh o
                  intro u475 f476
                  have hsN := o.st hs279
                  cases f476
                  refine LF.q 1 ?_
                  refine QF.as_ rfl rfl ?_
                  refine QF.ln ?_
                  exact LF.aend (Old.refl _) rfl
                exact trivial
              intro h477 o478 u479 f480
              have hs481 := SN.st hs279 o478
              cases f480
              refine LF.nil (sb 8 rfl sb0) ?_
              exact WF.nil (fun aa ww hf hw => ⟨_, _, hf.sub (sb 8 rfl sb0), hw, hs481, (SN.ext hs279.1 o478)⟩)
            · skip
              have hb354 := cdT c355 hb354
              have q482 := Option.some.inj hb354
              subst q482
              have q483 := Option.some.inj hb316
              subst q483
              refine WF.ra (m := [(12, .bool y79), (9, .bool y14), (7, q8), (4, q1), (1, .int .i64 p1_town), (2, v_p2_readings)]) 15 (fun i v hh => match i with | 0 => v = .bool y14 | 1 => v = .bool y14 | 2 => v = .bool y79 | 3 => v = .bool (!y79) | 4 => v = .bool (!y79) | 5 => v = undef | 6 => v = undef | 7 => v = undef | 8 => v = undef | 9 => v = undef | 10 => v = undef | 11 => v = undef | 12 => v = .bool true | 13 => v = .bool true | 14 => v = .bool true | _ => False) [[], [(0, 140)], [(1, 141)], [(2, 142), (1, 141)], [(3, 143), (1, 141)], [(4, 144)], [(4, 144)], [(4, 144)], [(4, 144)], [(4, 144)], [(4, 144)], [(4, 144)], [(4, 144), (11, 151), (1, 141)], [(1, 141), (12, 152)], [(13, 153)]] [(14, 8)] mo (by kernel_rfl) [12, 9, 7, 4, 1, 2] rfl (by kernel_rfl) (by kernel_rfl) (by kernel_rfl) (sb 12 rfl (sb 9 rfl (sb 7 rfl (sb 4 rfl (sb 1 rfl (sb 2 rfl sb0)))))) (fun i v h1 h2 o1 o2 hr => ?_) ?_ ?_
              · match i, hr with
                | 0, hr => exact hr
                | 1, hr => exact hr
                | 2, hr => exact hr
                | 3, hr => exact hr
                | 4, hr => exact hr
                | 5, hr => exact hr
                | 6, hr => exact hr
                | 7, hr => exact hr
                | 8, hr => exact hr
                | 9, hr => exact hr
                | 10, hr => exact hr
                | 11, hr => exact hr
                | 12, hr => exact hr
                | 13, hr => exact hr
                | 14, hr => exact hr
                | _ + 15, hr => exact hr.elim
              · skip
                refine SAll.cons rfl ?_ ?_
                · intro mq hh o
                  have hsN := o.st hs279
                  refine LF.q 1 ?_
                  refine QF.mv rfl rfl ?_
                  refine QF.ln ?_
                  exact LF.aend (Old.refl _) rfl
                refine SAll.cons rfl ?_ ?_
                · intro mq hh o
                  intro u484 f485
                  have hsN := o.st hs279
                  cases f485
                  refine LF.q 1 ?_
                  refine QF.mv rfl rfl ?_
                  refine QF.ln ?_
                  exact LF.aend (Old.refl _) rfl
                refine SAll.cons rfl ?_ ?_
                · intro mq hh o
                  intro u486 f487
                  have hsN := o.st hs279
                  obtain rfl : u486 = .bool true := Eq.trans f487 (congrArg Value.bool c317)
                  refine ⟨141, rfl, .inl ⟨rfl, ?_⟩⟩
                  refine LF.q 1 ?_
                  refine QF.mv rfl rfl ?_
                  refine QF.ln ?_
                  exact LF.aend (Old.refl _) rfl
                refine SAll.cons rfl ?_ ?_
                · intro mq hh o
                  intro u488 f489 u490 f491
                  have hsN := o.st hs279
                  cases f489
                  obtain rfl : u490 = .bool true := Eq.trans f491 (congrArg Value.bool c317)
                  refine ⟨141, rfl, .inl ⟨rfl, ?_⟩⟩
                  refine LF.q 1 ?_
                  refine QF.not rfl rfl ?_
                  refine QF.ln ?_
                  exact LF.aend (Old.refl _) rfl
                refine SAll.cons rfl ?_ ?_
                · intro mq hh o
                  intro u492 f493 u494 f495
                  have hsN := o.st hs279
                  cases f493
                  obtain rfl : u494 = .bool true := Eq.trans f495 (congrArg Value.bool c317)
                  refine ⟨141, rfl, .inl ⟨rfl, ?_⟩⟩
                  refine LF.q 1 ?_
                  refine QF.mv rfl rfl ?_
                  refine QF.ln ?_
                  exact LF.aend (Old.refl _) rfl
                refine SAll.cons rfl ?_ ?_
                · intro mq hh o
                  intro u496 f497
                  have hsN := o.st hs279
                  obtain rfl : u496 = .bool true := Eq.trans f497 (congrArg Value.bool c355)
                  exact ⟨144, rfl, .inr ⟨_, rfl, (by simp [yb, undef]), rfl⟩⟩
                refine SAll.cons rfl ?_ ?_
                · intro mq hh o
                  intro u498 f499
                  have hsN := o.st hs279
                  obtain rfl : u498 = .bool true := Eq.trans f499 (congrArg Value.bool c355)
                  exact ⟨144, rfl, .inr ⟨_, rfl, (by simp [yb, undef]), rfl⟩⟩
                refine SAll.cons rfl ?_ ?_
                · intro mq hh o
                  intro u500 f501
                  have hsN := o.st hs279
                  obtain rfl : u500 = .bool true := Eq.trans f501 (congrArg Value.bool c355)
                  exact ⟨144, rfl, .inr ⟨_, rfl, (by simp [yb, undef]), rfl⟩⟩
                refine SAll.cons rfl ?_ ?_
                · intro mq hh o
                  intro u502 f503
                  have hsN := SN.st hs279 o
                  obtain rfl : u502 = .bool true := Eq.trans f503 (congrArg Value.bool c355)
                  exact ⟨144, rfl, .inr ⟨_, rfl, (by simp [yb, undef]), rfl⟩⟩
                refine SAll.cons rfl ?_ ?_
                · intro mq hh o
                  intro u504 f505
                  have hsN := o.st hs279
                  obtain rfl : u504 = .bool true := Eq.trans f505 (congrArg Value.bool c355)
                  exact ⟨144, rfl, .inr ⟨_, rfl, (by simp [yb, undef]), rfl⟩⟩
                refine SAll.cons rfl ?_ ?_
                · intro mq hh o
                  intro u506 f507
                  have hsN := SN.st hs279 o
                  obtain rfl : u506 = .bool true := Eq.trans f507 (congrArg Value.bool c355)
                  exact ⟨144, rfl, .inr ⟨_, rfl, (by simp [yb, undef]), rfl⟩⟩
                refine SAll.cons rfl ?_ ?_
                · intro mq hh o
                  intro u508 f509
                  have hsN := SN.st hs279 o
                  obtain rfl : u508 = .bool true := Eq.trans f509 (congrArg Value.bool c355)
                  exact ⟨144, rfl, .inr ⟨_, rfl, (by simp [yb, undef]), rfl⟩⟩
                refine SAll.cons rfl ?_ ?_
                · intro mq hh o
                  intro u510 f511 u512 f513 u514 f515
                  have hsN := o.st hs279
                  obtain rfl : u510 = .bool true := Eq.trans f511 (congrArg Value.bool c355)
                  cases f513
                  obtain rfl : u514 = .bool true := Eq.trans f515 (congrArg Value.bool c317)
                  refine ⟨141, rfl, .inl ⟨rfl, ?_⟩⟩
                  refine LF.q 1 ?_
                  refine QF.pick rfl rfl rfl ?_
                  refine QF.ln ?_
                  exact LF.aend (Old.refl _) rfl
                refine SAll.cons rfl ?_ ?_
                · intro mq hh o
                  intro u516 f517 u518 f519
                  have hsN := o.st hs279
                  obtain rfl : u516 = .bool true := Eq.trans f517 (congrArg Value.bool c317)
                  cases f519
                  refine LF.q 1 ?_
                  refine QF.pick rfl rfl rfl ?_
                  refine QF.ln ?_
                  exact LF.aend (Old.refl _) rfl
                refine SAll.cons rfl ?_ ?_
                · intro mq hh o
                  intro u520 f521
                  have hsN := o.st hs279
                  cases f521
                  refine LF.q 1 ?_
                  refine QF.as_ rfl rfl ?_
                  refine QF.ln ?_
                  exact LF.aend (Old.refl _) rfl
                exact trivial
              intro h522 o523 u524 f525
              have hs526 := SN.st hs279 o523
              cases f525
              refine LF.nil (sb 8 rfl sb0) ?_
              exact WF.nil (fun aa ww hf hw => ⟨_, _, hf.sub (sb 8 rfl sb0), hw, hs526, (SN.ext hs279.1 o523)⟩)
        rintro aa ww ⟨S527, h528, hf, hw, hs529, e530⟩
        refine WF.run ?_ hf hw
        clear hf hw ww aa
        refine WF.ret (fun aa ww hf hw => ?_)
        have hs531 := hs529.drop .head
        have hs532 := hs531.drop .head
        cases E
        exact rtg hf rfl hw (rvc (rvT hf (v := _) rfl) rv0) rfl (e5.trans (e12.trans (e18.trans (e26.trans (e47.trans (e62.trans (e74.trans (e83.trans (e269.trans (e280.trans e530)))))))))) ⟨rfl, hs532⟩

end Go.Proofs.Ytibidnaedddfdaa
