/- Walks, part 4. By program. -/
import Derived.Test.YtibidnaedddfdaaWalk3
namespace Go.Proofs.Ytibidnaedddfdaa
open Go.RowKit
set_option linter.unusedVariables false
set_option linter.unusedSimpArgs false

set_option maxRecDepth 10000 in
set_option maxHeartbeats 2000000 in
theorem basin_rightFields_ret {N : Nat} {S : Nat → Prop} {L : List HP} {h : Heap} (hs : St S L h) {v_p0_l : Value} {p0_l : GLink} (h_p0_l : Rd S h RGLink v_p0_l p0_l) {r : Bool} (E : f_basin_rightFields N p0_l = some r) :
    Ret Try.prog 33 #[v_p0_l] S h (fun v S' h' => v = .bool r ∧ St S' (L) h') := by
  refine Ret.go (l := [v_p0_l]) 152 Try.func33 rfl Try.ntmps33 rfl fun B => ?_
  rw [f_basin_rightFields] at E
  refine WF.seq ?_
  refine WF.rl ?_
  refine LF.boxp rfl h_p0_l (fun e => by cases e) rfl hs fun q1 S2 h3 hs4 e5 k6 => ?_
  refine LF.q 1 ?_
  refine QF.as_ rfl rfl ?_
  refine QF.ln ?_
  refine LF.nil (sb 1 rfl sb0) ?_
  refine WF.seq ?_
  refine WF.seq ?_
  refine WF.rp (.inl rfl) ?_
  refine QF.fa rfl k6 GLink.f_Kind fa_85_1 rfl fun q7 k8 => ?_
  refine QF.ldi ckP hs4.1 rfl k8 ty_3 rfl fun r9 => ?_
  refine QF.rpn (sb 4 rfl (sb 1 rfl sb0)) ?_
  refine WF.block ?_
  refine WF.seq ?_
  refine WF.rp (.inl rfl) ?_
  refine QF.eql rfl rfl rfl ?_
  refine QF.as_ rfl rfl ?_
  refine QF.rpn (sb 5 rfl (sb 4 rfl (sb 1 rfl sb0))) ?_
  refine WF.if_ rfl (fun c10 => ?_) (fun c10 => ?_)
  · skip
    have E := cdT c10 E
    refine WF.seq ?_
    refine WF.rc (.inl rfl) hs4 ?_
    refine QF.fa rfl k6 GLink.f_Rate fa_85_4 rfl fun q11 k12 => ?_
    refine QF.ldl ckC hs4.1 rfl k12 ty_67 rfl fun v13 k14 => ?_
    obtain ⟨y15, hy15, E⟩ := bd E
    refine QF.callp (v := .bool y15) (Ψ := True) rfl rfl rfl ca_21 rfl (fun h' o => (curve_Right_ret (St.all h') (k14.mono' (o.all hs4.1)) hy15).mono fun _ _ _ _ p => ⟨p.1, trivial⟩) fun r16 => ?_
    refine QF.mv rfl rfl ?_
    obtain ⟨b18, hb18, E⟩ := bd E
    refine QF.cutv 5 15 (.bool b18) ?_ ?_
    · cases c17 : y15
      · skip
        have hb18 := cdF c17 hb18
        cases hb18
        refine QF.gnF rfl rfl rfl rfl rfl ?_
        refine QF.gnF rfl rfl rfl rfl rfl ?_
        refine QF.gnF rfl rfl rfl rfl rfl ?_
        refine QF.gnF rfl rfl rfl rfl rfl ?_
        refine QF.pick rfl rfl rfl ?_
        exact QF.cutn (sb 15 rfl (sb 10 rfl (sb 9 rfl (sb 8 rfl (sb 7 rfl (sb 5 rfl (sb 4 rfl (sb 1 rfl sb0))))))))
      · skip
        have hb18 := cdT c17 hb18
        refine QF.gy rfl rfl rfl ?_
        refine QF.fa rfl k6 GLink.f_Band fa_85_5 rfl fun q19 k20 => ?_
        refine QF.gy rfl rfl rfl ?_
        refine QF.fa rfl k20 GBand.f_Lo fa_83_0 rfl fun q21 k22 => ?_
        refine QF.gy rfl rfl rfl ?_
        refine QF.ldl ckC hs4.1 rfl k22 ty_67 rfl fun v23 k24 => ?_
        refine QF.gy rfl rfl rfl ?_
        obtain ⟨y25, hy25, hb18⟩ := bd hb18
        refine QF.callp (v := .bool y25) (Ψ := True) rfl rfl rfl ca_21 rfl (fun h' o => (curve_Right_ret (St.all h') (k24.mono' (o.all hs4.1)) hy25).mono fun _ _ _ _ p => ⟨p.1, trivial⟩) fun r26 => ?_
        refine QF.pick rfl rfl rfl ?_
        cases hb18
        exact QF.cutn (sb 15 rfl (sb 10 rfl (sb 9 rfl (sb 8 rfl (sb 7 rfl (sb 5 rfl (sb 4 rfl (sb 1 rfl sb0))))))))
    refine QF.mv rfl rfl ?_
    obtain ⟨b28, hb28, E⟩ := bd E
    refine QF.cutv 5 21 (.bool b28) ?_ ?_
    · cases c27 : b18
      · skip
        have hb28 := cdF c27 hb28
        cases hb28
        refine QF.gnF rfl rfl rfl rfl rfl ?_
        refine QF.gnF rfl rfl rfl rfl rfl ?_
        refine QF.gnF rfl rfl rfl rfl rfl ?_
        refine QF.gnF rfl rfl rfl rfl rfl ?_
        refine QF.pick rfl rfl rfl ?_
        exact QF.cutn (sb 21 rfl (sb 16 rfl (sb 15 rfl (sb 10 rfl (sb 9 rfl (sb 8 rfl (sb 7 rfl (sb 5 rfl (sb 4 rfl (sb 1 rfl sb0))))))))))
      · skip
        have hb28 := cdT c27 hb28
        refine QF.gy rfl rfl rfl ?_
        refine QF.fa rfl k6 GLink.f_Band fa_85_5 rfl fun q29 k30 => ?_
        refine QF.gy rfl rfl rfl ?_
        refine QF.fa rfl k30 GBand.f_Hi fa_83_1 rfl fun q31 k32 => ?_
        refine QF.gy rfl rfl rfl ?_
        refine QF.ldl ckC hs4.1 rfl k32 ty_67 rfl fun v33 k34 => ?_
        refine QF.gy rfl rfl rfl ?_
        obtain ⟨y35, hy35, hb28⟩ := bd hb28
        refine QF.callp (v := .bool y35) (Ψ := True) rfl rfl rfl ca_21 rfl (fun h' o => (curve_Right_ret (St.all h') (k34.mono' (o.all hs4.1)) hy35).mono fun _ _ _ _ p => ⟨p.1, trivial⟩) fun r36 => ?_
        refine QF.pick rfl rfl rfl ?_
        cases hb28
        exact QF.cutn (sb 21 rfl (sb 16 rfl (sb 15 rfl (sb 10 rfl (sb 9 rfl (sb 8 rfl (sb 7 rfl (sb 5 rfl (sb 4 rfl (sb 1 rfl sb0))))))))))
    refine QF.mv rfl rfl ?_
    obtain ⟨b38, hb38, E⟩ := bd E
    refine QF.cutv 7 29 (.bool b38) ?_ ?_
    · cases c37 : b28
      · skip
        have hb38 := cdF c37 hb38
        cases hb38
        refine QF.gnF rfl rfl rfl rfl rfl ?_
        refine QF.gnF rfl rfl rfl rfl rfl ?_
        refine QF.gnF rfl rfl rfl rfl rfl ?_
        refine QF.gnF rfl rfl rfl rfl rfl ?_
        refine QF.gnF rfl rfl rfl rfl rfl ?_
        refine QF.gnF rfl rfl rfl rfl rfl ?_
        refine QF.pick rfl rfl rfl ?_
        exact QF.cutn (sb 29 rfl (sb 22 rfl (sb 21 rfl (sb 16 rfl (sb 15 rfl (sb 10 rfl (sb 9 rfl (sb 8 rfl (sb 7 rfl (sb 5 rfl (sb 4 rfl (sb 1 rfl sb0))))))))))))
      · skip
        have hb38 := cdT c37 hb38
        refine QF.gy rfl rfl rfl ?_
        refine QF.fa rfl k6 GLink.f_Band fa_85_5 rfl fun q39 k40 => ?_
        refine QF.gy rfl rfl rfl ?_
        refine QF.fa rfl k40 GBand.f_Lo fa_83_0 rfl fun q41 k42 => ?_
        refine QF.gy rfl rfl rfl ?_
        refine QF.ldl ckC hs4.1 rfl k42 ty_67 rfl fun v43 k44 => ?_
        refine QF.gy rfl rfl rfl ?_
        refine QF.fa rfl k6 GLink.f_Rate fa_85_4 rfl fun q45 k46 => ?_
        refine QF.gy rfl rfl rfl ?_
        refine QF.ldl ckC hs4.1 rfl k46 ty_67 rfl fun v47 k48 => ?_
        refine QF.gy rfl rfl rfl ?_
        obtain ⟨y49, hy49, hb38⟩ := bd hb38
        refine QF.callp (v := .bool y49) (Ψ := True) rfl rfl rfl ca_43 rfl (fun h' o => (curve_Under_ret (St.all h') (k44.mono' (o.all hs4.1)) (k48.mono' (o.all hs4.1)) hy49).mono fun _ _ _ _ p => ⟨p.1, trivial⟩) fun r50 => ?_
        refine QF.pick rfl rfl rfl ?_
        cases hb38
        exact QF.cutn (sb 29 rfl (sb 22 rfl (sb 21 rfl (sb 16 rfl (sb 15 rfl (sb 10 rfl (sb 9 rfl (sb 8 rfl (sb 7 rfl (sb 5 rfl (sb 4 rfl (sb 1 rfl sb0))))))))))))
    refine QF.mv rfl rfl ?_
    obtain ⟨b52, hb52, E⟩ := bd E
    refine QF.cutv 7 37 (.bool b52) ?_ ?_
    · cases c51 : b38
      · skip
        have hb52 := cdF c51 hb52
        cases hb52
        refine QF.gnF rfl rfl rfl rfl rfl ?_
        refine QF.gnF rfl rfl rfl rfl rfl ?_
        refine QF.gnF rfl rfl rfl rfl rfl ?_
        refine QF.gnF rfl rfl rfl rfl rfl ?_
        refine QF.gnF rfl rfl rfl rfl rfl ?_
        refine QF.gnF rfl rfl rfl rfl rfl ?_
        refine QF.pick rfl rfl rfl ?_
        exact QF.cutn (sb 37 rfl (sb 30 rfl (sb 29 rfl (sb 22 rfl (sb 21 rfl (sb 16 rfl (sb 15 rfl (sb 10 rfl (sb 9 rfl (sb 8 rfl (sb 7 rfl (sb 5 rfl (sb 4 rfl (sb 1 rfl sb0))))))))))))))
      · skip
        have hb52 := cdT c51 hb52
        refine QF.gy rfl rfl rfl ?_
        refine QF.fa rfl k6 GLink.f_Rate fa_85_4 rfl fun q53 k54 => ?_
        refine QF.gy rfl rfl rfl ?_
        refine QF.ldl ckC hs4.1 rfl k54 ty_67 rfl fun v55 k56 => ?_
        refine QF.gy rfl rfl rfl ?_
        refine QF.fa rfl k6 GLink.f_Band fa_85_5 rfl fun q57 k58 => ?_
        refine QF.gy rfl rfl rfl ?_
        refine QF.fa rfl k58 GBand.f_Hi fa_83_1 rfl fun q59 k60 => ?_
        refine QF.gy rfl rfl rfl ?_
        refine QF.ldl ckC hs4.1 rfl k60 ty_67 rfl fun v61 k62 => ?_
        refine QF.gy rfl rfl rfl ?_
        obtain ⟨y63, hy63, hb52⟩ := bd hb52
        refine QF.callp (v := .bool y63) (Ψ := True) rfl rfl rfl ca_43 rfl (fun h' o => (curve_Under_ret (St.all h') (k56.mono' (o.all hs4.1)) (k62.mono' (o.all hs4.1)) hy63).mono fun _ _ _ _ p => ⟨p.1, trivial⟩) fun r64 => ?_
        refine QF.pick rfl rfl rfl ?_
        cases hb52
        exact QF.cutn (sb 37 rfl (sb 30 rfl (sb 29 rfl (sb 22 rfl (sb 21 rfl (sb 16 rfl (sb 15 rfl (sb 10 rfl (sb 9 rfl (sb 8 rfl (sb 7 rfl (sb 5 rfl (sb 4 rfl (sb 1 rfl sb0))))))))))))))
    refine QF.mv rfl rfl ?_
    obtain ⟨b66, hb66, E⟩ := bd E
    refine QF.cutv 4 42 (.bool b66) ?_ ?_
    · cases c65 : b52
      · skip
        have hb66 := cdF c65 hb66
        cases hb66
        refine QF.gnF rfl rfl rfl rfl rfl ?_
        refine QF.gnF rfl rfl rfl rfl rfl ?_
        refine QF.gnF rfl rfl rfl rfl rfl ?_
        refine QF.pick rfl rfl rfl ?_
        exact QF.cutn (sb 42 rfl (sb 38 rfl (sb 37 rfl (sb 30 rfl (sb 29 rfl (sb 22 rfl (sb 21 rfl (sb 16 rfl (sb 15 rfl (sb 10 rfl (sb 9 rfl (sb 8 rfl (sb 7 rfl (sb 5 rfl (sb 4 rfl (sb 1 rfl sb0))))))))))))))))
      · skip
        have hb66 := cdT c65 hb66
        refine QF.gy rfl rfl rfl ?_
        refine QF.fa rfl k6 GLink.f_Positions fa_85_6 rfl fun q67 k68 => ?_
        refine QF.gy rfl rfl rfl ?_
        refine QF.ldi ckC hs4.1 rfl k68 ty_3 rfl fun r69 => ?_
        refine QF.gy rfl rfl rfl ?_
        obtain ⟨y70, hy70, hb66⟩ := bd hb66
        refine QF.callp (v := .bool y70) (Ψ := True) rfl rfl rfl ca_26 rfl (fun h' o => (basin_in_ret (St.all h') r69 (show inI64 0 by unfold inI64; omega) (show inI64 64 by unfold inI64; omega) hy70).mono fun _ _ _ _ p => ⟨p.1, trivial⟩) fun r71 => ?_
        refine QF.pick rfl rfl rfl ?_
        cases hb66
        exact QF.cutn (sb 42 rfl (sb 38 rfl (sb 37 rfl (sb 30 rfl (sb 29 rfl (sb 22 rfl (sb 21 rfl (sb 16 rfl (sb 15 rfl (sb 10 rfl (sb 9 rfl (sb 8 rfl (sb 7 rfl (sb 5 rfl (sb 4 rfl (sb 1 rfl sb0))))))))))))))))
    refine QF.mv rfl rfl ?_
    obtain ⟨b73, hb73, E⟩ := bd E
    refine QF.cutv 6 49 (.bool b73) ?_ ?_
    · cases c72 : b66
      · skip
        have hb73 := cdF c72 hb73
        cases hb73
        refine QF.gnF rfl rfl rfl rfl rfl ?_
        refine QF.gnF rfl rfl rfl rfl rfl ?_
        refine QF.gnF rfl rfl rfl rfl rfl ?_
        refine QF.gnF rfl rfl rfl rfl rfl ?_
        refine QF.gnF rfl rfl rfl rfl rfl ?_
        refine QF.pick rfl rfl rfl ?_
        exact QF.cutn (sb 49 rfl (sb 43 rfl (sb 42 rfl (sb 38 rfl (sb 37 rfl (sb 30 rfl (sb 29 rfl (sb 22 rfl (sb 21 rfl (sb 16 rfl (sb 15 rfl (sb 10 rfl (sb 9 rfl (sb 8 rfl (sb 7 rfl (sb 5 rfl (sb 4 rfl (sb 1 rfl sb0))))))))))))))))))
      · skip
        have hb73 := cdT c72 hb73
        refine QF.gy rfl rfl rfl ?_
        refine QF.fa rfl k6 GLink.f_Speed fa_85_7 rfl fun q74 k75 => ?_
        refine QF.gy rfl rfl rfl ?_
        refine QF.ldi ckC hs4.1 rfl k75 ty_3 rfl fun r76 => ?_
        refine QF.gy rfl rfl rfl ?_
        refine QF.fa rfl k6 GLink.f_Positions fa_85_6 rfl fun q77 k78 => ?_
        refine QF.gy rfl rfl rfl ?_
        refine QF.ldi ckC hs4.1 rfl k78 ty_3 rfl fun r79 => ?_
        refine QF.gy rfl rfl rfl ?_
        obtain ⟨y80, hy80, hb73⟩ := bd hb73
        refine QF.callp (v := .bool y80) (Ψ := True) rfl rfl rfl ca_26 rfl (fun h' o => (basin_in_ret (St.all h') r76 (show inI64 0 by unfold inI64; omega) r79 hy80).mono fun _ _ _ _ p => ⟨p.1, trivial⟩) fun r81 => ?_
        refine QF.pick rfl rfl rfl ?_
        cases hb73
        exact QF.cutn (sb 49 rfl (sb 43 rfl (sb 42 rfl (sb 38 rfl (sb 37 rfl (sb 30 rfl (sb 29 rfl (sb 22 rfl (sb 21 rfl (sb 16 rfl (sb 15 rfl (sb 10 rfl (sb 9 rfl (sb 8 rfl (sb 7 rfl (sb 5 rfl (sb 4 rfl (sb 1 rfl sb0))))))))))))))))))
    refine QF.mv rfl rfl ?_
    obtain ⟨b83, hb83, E⟩ := bd E
    refine QF.cutv 4 54 (.bool b83) ?_ ?_
    · cases c82 : b73
      · skip
        have hb83 := cdF c82 hb83
        cases hb83
        refine QF.gnF rfl rfl rfl rfl rfl ?_
        refine QF.gnF rfl rfl rfl rfl rfl ?_
        refine QF.gnF rfl rfl rfl rfl rfl ?_
        refine QF.pick rfl rfl rfl ?_
        exact QF.cutn (sb 54 rfl (sb 50 rfl (sb 49 rfl (sb 43 rfl (sb 42 rfl (sb 38 rfl (sb 37 rfl (sb 30 rfl (sb 29 rfl (sb 22 rfl (sb 21 rfl (sb 16 rfl (sb 15 rfl (sb 10 rfl (sb 9 rfl (sb 8 rfl (sb 7 rfl (sb 5 rfl (sb 4 rfl (sb 1 rfl sb0))))))))))))))))))))
      · skip
        have hb83 := cdT c82 hb83
        refine QF.gy rfl rfl rfl ?_
        refine QF.fa rfl k6 GLink.f_Leak fa_85_8 rfl fun q84 k85 => ?_
        refine QF.gy rfl rfl rfl ?_
        refine QF.ldi ckC hs4.1 rfl k85 ty_3 rfl fun r86 => ?_
        refine QF.gy rfl rfl rfl ?_
        obtain ⟨y87, hy87, hb83⟩ := bd hb83
        refine QF.callp (v := .bool y87) (Ψ := True) rfl rfl rfl ca_27 rfl (fun h' o => (basin_volume_ret (St.all h') r86 hy87).mono fun _ _ _ _ p => ⟨p.1, trivial⟩) fun r88 => ?_
        refine QF.pick rfl rfl rfl ?_
        cases hb83
        exact QF.cutn (sb 54 rfl (sb 50 rfl (sb 49 rfl (sb 43 rfl (sb 42 rfl (sb 38 rfl (sb 37 rfl (sb 30 rfl (sb 29 rfl (sb 22 rfl (sb 21 rfl (sb 16 rfl (sb 15 rfl (sb 10 rfl (sb 9 rfl (sb 8 rfl (sb 7 rfl (sb 5 rfl (sb 4 rfl (sb 1 rfl sb0))))))))))))))))))))
    refine QF.mv rfl rfl ?_
    obtain ⟨b90, hb90, E⟩ := bd E
    refine QF.cutv 6 61 (.bool b90) ?_ ?_
    · cases c89 : b83
      · skip
        have hb90 := cdF c89 hb90
        cases hb90
        refine QF.gnF rfl rfl rfl rfl rfl ?_
        refine QF.gnF rfl rfl rfl rfl rfl ?_
        refine QF.gnF rfl rfl rfl rfl rfl ?_
        refine QF.gnF rfl rfl rfl rfl rfl ?_
        refine QF.gnF rfl rfl rfl rfl rfl ?_
        refine QF.pick rfl rfl rfl ?_
        exact QF.cutn (sb 61 rfl (sb 55 rfl (sb 54 rfl (sb 50 rfl (sb 49 rfl (sb 43 rfl (sb 42 rfl (sb 38 rfl (sb 37 rfl (sb 30 rfl (sb 29 rfl (sb 22 rfl (sb 21 rfl (sb 16 rfl (sb 15 rfl (sb 10 rfl (sb 9 rfl (sb 8 rfl (sb 7 rfl (sb 5 rfl (sb 4 rfl (sb 1 rfl sb0))))))))))))))))))))))
      · skip
        have hb90 := cdT c89 hb90
        refine QF.gy rfl rfl rfl ?_
        refine QF.fa rfl k6 GLink.f_BackNum fa_85_14 rfl fun q91 k92 => ?_
        refine QF.gy rfl rfl rfl ?_
        refine QF.ldi ckC hs4.1 rfl k92 ty_3 rfl fun r93 => ?_
        refine QF.gy rfl rfl rfl ?_
        refine QF.fa rfl k6 GLink.f_BackDen fa_85_15 rfl fun q94 k95 => ?_
        refine QF.gy rfl rfl rfl ?_
        refine QF.ldi ckC hs4.1 rfl k95 ty_3 rfl fun r96 => ?_
        refine QF.gy rfl rfl rfl ?_
        obtain ⟨y97, hy97, hb90⟩ := bd hb90
        refine QF.callp (v := .bool y97) (Ψ := True) rfl rfl rfl ca_30 rfl (fun h' o => (basin_fraction_ret (St.all h') r93 r96 hy97).mono fun _ _ _ _ p => ⟨p.1, trivial⟩) fun r98 => ?_
        refine QF.pick rfl rfl rfl ?_
        cases hb90
        exact QF.cutn (sb 61 rfl (sb 55 rfl (sb 54 rfl (sb 50 rfl (sb 49 rfl (sb 43 rfl (sb 42 rfl (sb 38 rfl (sb 37 rfl (sb 30 rfl (sb 29 rfl (sb 22 rfl (sb 21 rfl (sb 16 rfl (sb 15 rfl (sb 10 rfl (sb 9 rfl (sb 8 rfl (sb 7 rfl (sb 5 rfl (sb 4 rfl (sb 1 rfl sb0))))))))))))))))))))))
    refine QF.mv rfl rfl ?_
    refine QF.cutv 9 71 (.bool (b90 && ((decide (p0_l.To ≠ (-1))) || (decide (p0_l.BackDen = 0))))) ?_ ?_
    · cases c99 : b90
      · skip
        refine QF.gnF rfl rfl rfl rfl rfl ?_
        refine QF.gnF rfl rfl rfl rfl rfl ?_
        refine QF.gnF rfl rfl rfl rfl rfl ?_
        refine QF.gnF rfl rfl rfl rfl rfl ?_
        refine QF.gnu rfl rfl rfl rfl rfl ?_
        refine QF.gnu rfl rfl rfl rfl rfl ?_
        refine QF.gnu rfl rfl rfl rfl rfl ?_
        refine QF.gnF rfl rfl rfl rfl rfl ?_
        refine QF.pick rfl rfl rfl ?_
        exact QF.cutn (sb 71 rfl (sb 62 rfl (sb 61 rfl (sb 55 rfl (sb 54 rfl (sb 50 rfl (sb 49 rfl (sb 43 rfl (sb 42 rfl (sb 38 rfl (sb 37 rfl (sb 30 rfl (sb 29 rfl (sb 22 rfl (sb 21 rfl (sb 16 rfl (sb 15 rfl (sb 10 rfl (sb 9 rfl (sb 8 rfl (sb 7 rfl (sb 5 rfl (sb 4 rfl (sb 1 rfl sb0))))))))))))))))))))))))
      · skip
        refine QF.gy rfl rfl rfl ?_
        refine QF.fa rfl k6 GLink.f_To fa_85_3 rfl fun q100 k101 => ?_
        refine QF.gy rfl rfl rfl ?_
        refine QF.ldi ckC hs4.1 rfl k101 ty_3 rfl fun r102 => ?_
        refine QF.gy rfl rfl rfl ?_
        refine QF.neq rfl rfl rfl ?_
        refine QF.gy rfl rfl rfl ?_
        refine QF.mv rfl rfl ?_
        refine QF.cutv 4 70 (.bool ((decide (p0_l.To ≠ (-1))) || (decide (p0_l.BackDen = 0)))) ?_ ?_
        · cases c103 : (decide (p0_l.To ≠ (-1)))
          · skip
            refine QF.gy rfl rfl rfl ?_
            refine QF.fa rfl k6 GLink.f_BackDen fa_85_15 rfl fun q104 k105 => ?_
            refine QF.gy rfl rfl rfl ?_
            refine QF.ldi ckC hs4.1 rfl k105 ty_3 rfl fun r106 => ?_
            refine QF.gy rfl rfl rfl ?_
            refine QF.eql rfl rfl rfl ?_
            refine QF.gy rfl rfl rfl ?_
            refine QF.pick rfl rfl rfl ?_
            exact QF.cutn (sb 70 rfl (sb 66 rfl (sb 65 rfl (sb 64 rfl (sb 63 rfl (sb 62 rfl (sb 61 rfl (sb 55 rfl (sb 54 rfl (sb 50 rfl (sb 49 rfl (sb 43 rfl (sb 42 rfl (sb 38 rfl (sb 37 rfl (sb 30 rfl (sb 29 rfl (sb 22 rfl (sb 21 rfl (sb 16 rfl (sb 15 rfl (sb 10 rfl (sb 9 rfl (sb 8 rfl (sb 7 rfl (sb 5 rfl (sb 4 rfl (sb 1 rfl sb0))))))))))))))))))))))))))))
          · skip
            refine QF.gnT rfl rfl rfl rfl rfl ?_
            refine QF.gnT rfl rfl rfl rfl rfl ?_
            refine QF.gnT rfl rfl rfl rfl rfl ?_
            refine QF.gy rfl rfl rfl ?_
            refine QF.pick rfl rfl rfl ?_
            exact QF.cutn (sb 70 rfl (sb 66 rfl (sb 65 rfl (sb 64 rfl (sb 63 rfl (sb 62 rfl (sb 61 rfl (sb 55 rfl (sb 54 rfl (sb 50 rfl (sb 49 rfl (sb 43 rfl (sb 42 rfl (sb 38 rfl (sb 37 rfl (sb 30 rfl (sb 29 rfl (sb 22 rfl (sb 21 rfl (sb 16 rfl (sb 15 rfl (sb 10 rfl (sb 9 rfl (sb 8 rfl (sb 7 rfl (sb 5 rfl (sb 4 rfl (sb 1 rfl sb0))))))))))))))))))))))))))))
        refine QF.pick rfl rfl rfl ?_
        exact QF.cutn (sb 71 rfl (sb 62 rfl (sb 61 rfl (sb 55 rfl (sb 54 rfl (sb 50 rfl (sb 49 rfl (sb 43 rfl (sb 42 rfl (sb 38 rfl (sb 37 rfl (sb 30 rfl (sb 29 rfl (sb 22 rfl (sb 21 rfl (sb 16 rfl (sb 15 rfl (sb 10 rfl (sb 9 rfl (sb 8 rfl (sb 7 rfl (sb 5 rfl (sb 4 rfl (sb 1 rfl sb0))))))))))))))))))))))))
    refine QF.as_ rfl rfl ?_
    refine QF.rcn (sb 2 rfl sb0) fun h107 hs108 e109 => ?_
    refine WF.ret (fun aa ww hf hw => ?_)
    cases E
    exact rtg hf rfl hw (rvc (rvT hf (v := _) rfl) rv0) rfl (e5.trans e109) ⟨rfl, hs108⟩
  · skip
    have E := cdF c10 E
    refine WF.seq ?_
    refine WF.seq ?_
    refine WF.rp (.inl rfl) ?_
    refine QF.eql rfl rfl rfl ?_
    refine QF.as_ rfl rfl ?_
    refine QF.rpn (sb 72 rfl (sb 4 rfl (sb 1 rfl sb0))) ?_
    refine WF.cut (fun a w => ∃ (b110 : Bool) (S' : Nat → Prop) (h' : Heap), Fr 152 a [(4, .int .i64 p0_l.Kind), (1, q1), (72, .bool b110)] ∧ Wd B h' w ∧ St S' (L) h' ∧ Ext S2 h3 S' h' ∧ f_basin_rightFields_j0 N p0_l b110 = some r) ?_ ?_
    · skip
      refine WF.if_ rfl (fun c111 => ?_) (fun c111 => ?_)
      · skip
        have E := cdT c111 E
        refine WF.skip ?_
        refine WF.nil (fun aa ww hf hw => ?_)
        exact ⟨(decide (p0_l.Kind = 1)), _, _, hf.sub (sb 4 rfl (sb 1 rfl (sb 72 rfl sb0))), hw, hs4, (Ext.refl S2 h3), E⟩
      · skip
        have E := cdF c111 E
        refine WF.rp (.inl rfl) ?_
        refine QF.eql rfl rfl rfl ?_
        refine QF.as_ rfl rfl ?_
        refine QF.rpn (sb 72 rfl (sb 4 rfl (sb 1 rfl sb0))) ?_
        refine WF.nil (fun aa ww hf hw => ?_)
        exact ⟨(decide (p0_l.Kind = 5)), _, _, hf.sub (sb 4 rfl (sb 1 rfl (sb 72 rfl sb0))), hw, hs4, (Ext.refl S2 h3), E⟩
    · skip
      rintro aa ww ⟨b110, S112, h113, hf, hw, hs114, e115, E⟩
      refine WF.run ?_ hf hw
      clear hf hw ww aa
      rw [f_basin_rightFields_j0] at E
      refine WF.if_ rfl (fun c116 => ?_) (fun c116 => ?_)
      · skip
        have E := cdT c116 E
        refine WF.seq ?_
        refine WF.rc (.inl rfl) hs114 ?_
        have k117 := k6.mono e115
        refine QF.fa rfl k117 GLink.f_Crest fa_85_9 rfl fun q118 k119 => ?_
        refine QF.ldi ckC hs114.1 rfl k119 ty_3 rfl fun r120 => ?_
        obtain ⟨y121, hy121, E⟩ := bd E
        refine QF.callp (v := .bool y121) (Ψ := True) rfl rfl rfl ca_27 rfl (fun h' o => (basin_volume_ret (St.all h') r120 hy121).mono fun _ _ _ _ p => ⟨p.1, trivial⟩) fun r122 => ?_
        refine QF.mv rfl rfl ?_
        obtain ⟨b124, hb124, E⟩ := bd E
        refine QF.cutv 4 82 (.bool b124) ?_ ?_
        · cases c123 : y121
          · skip
            have hb124 := cdF c123 hb124
            cases hb124
            refine QF.gnF rfl rfl rfl rfl rfl ?_
            refine QF.gnF rfl rfl rfl rfl rfl ?_
            refine QF.gnF rfl rfl rfl rfl rfl ?_
            refine QF.pick rfl rfl rfl ?_
            exact QF.cutn (sb 82 rfl (sb 78 rfl (sb 77 rfl (sb 76 rfl (sb 75 rfl (sb 4 rfl (sb 1 rfl (sb 72 rfl sb0))))))))
          · skip
            have hb124 := cdT c123 hb124
            refine QF.gy rfl rfl rfl ?_
            refine QF.fa rfl k117 GLink.f_Num fa_85_10 rfl fun q125 k126 => ?_
            refine QF.gy rfl rfl rfl ?_
            refine QF.ldi ckC hs114.1 rfl k126 ty_3 rfl fun r127 => ?_
            refine QF.gy rfl rfl rfl ?_
            obtain ⟨y128, hy128, hb124⟩ := bd hb124
            refine QF.callp (v := .bool y128) (Ψ := True) rfl rfl rfl ca_27 rfl (fun h' o => (basin_volume_ret (St.all h') r127 hy128).mono fun _ _ _ _ p => ⟨p.1, trivial⟩) fun r129 => ?_
            refine QF.pick rfl rfl rfl ?_
            cases hb124
            exact QF.cutn (sb 82 rfl (sb 78 rfl (sb 77 rfl (sb 76 rfl (sb 75 rfl (sb 4 rfl (sb 1 rfl (sb 72 rfl sb0))))))))
        refine QF.mv rfl rfl ?_
        obtain ⟨b131, hb131, E⟩ := bd E
        refine QF.cutv 4 87 (.bool b131) ?_ ?_
        · cases c130 : b124
          · skip
            have hb131 := cdF c130 hb131
            cases hb131
            refine QF.gnF rfl rfl rfl rfl rfl ?_
            refine QF.gnF rfl rfl rfl rfl rfl ?_
            refine QF.gnF rfl rfl rfl rfl rfl ?_
            refine QF.pick rfl rfl rfl ?_
            exact QF.cutn (sb 87 rfl (sb 83 rfl (sb 82 rfl (sb 78 rfl (sb 77 rfl (sb 76 rfl (sb 75 rfl (sb 4 rfl (sb 1 rfl (sb 72 rfl sb0))))))))))
          · skip
            have hb131 := cdT c130 hb131
            refine QF.gy rfl rfl rfl ?_
            refine QF.fa rfl k117 GLink.f_Den fa_85_11 rfl fun q132 k133 => ?_
            refine QF.gy rfl rfl rfl ?_
            refine QF.ldi ckC hs114.1 rfl k133 ty_3 rfl fun r134 => ?_
            refine QF.gy rfl rfl rfl ?_
            obtain ⟨y135, hy135, hb131⟩ := bd hb131
            refine QF.callp (v := .bool y135) (Ψ := True) rfl rfl rfl ca_26 rfl (fun h' o => (basin_in_ret (St.all h') r134 (show inI64 1 by unfold inI64; omega) (show inI64 1125899906842624 by unfold inI64; omega) hy135).mono fun _ _ _ _ p => ⟨p.1, trivial⟩) fun r136 => ?_
            refine QF.pick rfl rfl rfl ?_
            cases hb131
            exact QF.cutn (sb 87 rfl (sb 83 rfl (sb 82 rfl (sb 78 rfl (sb 77 rfl (sb 76 rfl (sb 75 rfl (sb 4 rfl (sb 1 rfl (sb 72 rfl sb0))))))))))
        refine QF.as_ rfl rfl ?_
        refine QF.rcn (sb 2 rfl sb0) fun h137 hs138 e139 => ?_
        refine WF.ret (fun aa ww hf hw => ?_)
        cases E
        exact rtg hf rfl hw (rvc (rvT hf (v := _) rfl) rv0) rfl (e5.trans (e115.trans e139)) ⟨rfl, hs138⟩
      · skip
        have E := cdF c116 E
        refine WF.seq ?_
        refine WF.rp (.inl rfl) ?_
        refine QF.eql rfl rfl rfl ?_
        refine QF.as_ rfl rfl ?_
        refine QF.rpn (sb 88 rfl (sb 4 rfl (sb 1 rfl sb0))) ?_
        refine WF.if_ rfl (fun c140 => ?_) (fun c140 => ?_)
        · skip
          have E := cdT c140 E
          refine WF.seq ?_
          refine WF.rc (.inl rfl) hs114 ?_
          have k141 := k6.mono e115
          refine QF.fa rfl k141 GLink.f_Num fa_85_10 rfl fun q142 k143 => ?_
          refine QF.ldi ckC hs114.1 rfl k143 ty_3 rfl fun r144 => ?_
          obtain ⟨y145, hy145, E⟩ := bd E
          refine QF.callp (v := .bool y145) (Ψ := True) rfl rfl rfl ca_27 rfl (fun h' o => (basin_volume_ret (St.all h') r144 hy145).mono fun _ _ _ _ p => ⟨p.1, trivial⟩) fun r146 => ?_
          refine QF.mv rfl rfl ?_
          obtain ⟨b148, hb148, E⟩ := bd E
          refine QF.cutv 4 97 (.bool b148) ?_ ?_
          · cases c147 : y145
            · skip
              have hb148 := cdF c147 hb148
              cases hb148
              refine QF.gnF rfl rfl rfl rfl rfl ?_
              refine QF.gnF rfl rfl rfl rfl rfl ?_
              refine QF.gnF rfl rfl rfl rfl rfl ?_
              refine QF.pick rfl rfl rfl ?_
              exact QF.cutn (sb 97 rfl (sb 93 rfl (sb 92 rfl (sb 91 rfl (sb 90 rfl (sb 88 rfl (sb 4 rfl (sb 1 rfl sb0))))))))
            · skip
              have hb148 := cdT c147 hb148
              refine QF.gy rfl rfl rfl ?_
              refine QF.fa rfl k141 GLink.f_Positions fa_85_6 rfl fun q149 k150 => ?_
              refine QF.gy rfl rfl rfl ?_
              refine QF.ldi ckC hs114.1 rfl k150 ty_3 rfl fun r151 => ?_
              refine QF.gy rfl rfl rfl ?_
              obtain ⟨y152, hy152, hb148⟩ := bd hb148
              refine QF.callp (v := .bool y152) (Ψ := True) rfl rfl rfl ca_26 rfl (fun h' o => (basin_in_ret (St.all h') r151 (show inI64 1 by unfold inI64; omega) (show inI64 64 by unfold inI64; omega) hy152).mono fun _ _ _ _ p => ⟨p.1, trivial⟩) fun r153 => ?_
              refine QF.pick rfl rfl rfl ?_
              cases hb148
              exact QF.cutn (sb 97 rfl (sb 93 rfl (sb 92 rfl (sb 91 rfl (sb 90 rfl (sb 88 rfl (sb 4 rfl (sb 1 rfl sb0))))))))
          refine QF.mv rfl rfl ?_
          obtain ⟨b155, hb155, E⟩ := bd E
          refine QF.cutv 6 104 (.bool b155) ?_ ?_
          · cases c154 : b148
            · skip
              have hb155 := cdF c154 hb155
              cases hb155
              refine QF.gnF rfl rfl rfl rfl rfl ?_
              refine QF.gnF rfl rfl rfl rfl rfl ?_
              refine QF.gnF rfl rfl rfl rfl rfl ?_
              refine QF.gnF rfl rfl rfl rfl rfl ?_
              refine QF.gnF rfl rfl rfl rfl rfl ?_
              refine QF.pick rfl rfl rfl ?_
              exact QF.cutn (sb 104 rfl (sb 98 rfl (sb 97 rfl (sb 93 rfl (sb 92 rfl (sb 91 rfl (sb 90 rfl (sb 88 rfl (sb 4 rfl (sb 1 rfl sb0))))))))))
            · skip
              have hb155 := cdT c154 hb155
              refine QF.gy rfl rfl rfl ?_
              refine QF.fa rfl k141 GLink.f_Speed fa_85_7 rfl fun q156 k157 => ?_
              refine QF.gy rfl rfl rfl ?_
              refine QF.ldi ckC hs114.1 rfl k157 ty_3 rfl fun r158 => ?_
              refine QF.gy rfl rfl rfl ?_
              refine QF.fa rfl k141 GLink.f_Positions fa_85_6 rfl fun q159 k160 => ?_
              refine QF.gy rfl rfl rfl ?_
              refine QF.ldi ckC hs114.1 rfl k160 ty_3 rfl fun r161 => ?_
              refine QF.gy rfl rfl rfl ?_
              obtain ⟨y162, hy162, hb155⟩ := bd hb155
              refine QF.callp (v := .bool y162) (Ψ := True) rfl rfl rfl ca_26 rfl (fun h' o => (basin_in_ret (St.all h') r158 (show inI64 0 by unfold inI64; omega) r161 hy162).mono fun _ _ _ _ p => ⟨p.1, trivial⟩) fun r163 => ?_
              refine QF.pick rfl rfl rfl ?_
              cases hb155
              exact QF.cutn (sb 104 rfl (sb 98 rfl (sb 97 rfl (sb 93 rfl (sb 92 rfl (sb 91 rfl (sb 90 rfl (sb 88 rfl (sb 4 rfl (sb 1 rfl sb0))))))))))
          refine QF.as_ rfl rfl ?_
          refine QF.rcn (sb 2 rfl sb0) fun h164 hs165 e166 => ?_
          refine WF.ret (fun aa ww hf hw => ?_)
          cases E
          exact rtg hf rfl hw (rvc (rvT hf (v := _) rfl) rv0) rfl (e5.trans (e115.trans e166)) ⟨rfl, hs165⟩
        · skip
          have E := cdF c140 E
          refine WF.seq ?_
          refine WF.rp (.inl rfl) ?_
          refine QF.eql rfl rfl rfl ?_
          refine QF.as_ rfl rfl ?_
          refine QF.rpn (sb 105 rfl (sb 1 rfl sb0)) ?_
          refine WF.if_ rfl (fun c167 => ?_) (fun c167 => ?_)
          · skip
            have E := cdT c167 E
            refine WF.seq ?_
            refine WF.rc (.inl rfl) hs114 ?_
            have k168 := k6.mono e115
            refine QF.fa rfl k168 GLink.f_Num fa_85_10 rfl fun q169 k170 => ?_
            refine QF.ldi ckC hs114.1 rfl k170 ty_3 rfl fun r171 => ?_
            obtain ⟨y172, hy172, E⟩ := bd E
            refine QF.callp (v := .bool y172) (Ψ := True) rfl rfl rfl ca_27 rfl (fun h' o => (basin_volume_ret (St.all h') r171 hy172).mono fun _ _ _ _ p => ⟨p.1, trivial⟩) fun r173 => ?_
            refine QF.mv rfl rfl ?_
            obtain ⟨b175, hb175, E⟩ := bd E
            refine QF.cutv 4 114 (.bool b175) ?_ ?_
            · cases c174 : y172
              · skip
                have hb175 := cdF c174 hb175
                cases hb175
                refine QF.gnF rfl rfl rfl rfl rfl ?_
                refine QF.gnF rfl rfl rfl rfl rfl ?_
                refine QF.gnF rfl rfl rfl rfl rfl ?_
                refine QF.pick rfl rfl rfl ?_
                exact QF.cutn (sb 114 rfl (sb 110 rfl (sb 109 rfl (sb 108 rfl (sb 107 rfl (sb 105 rfl (sb 1 rfl sb0)))))))
              · skip
                have hb175 := cdT c174 hb175
                refine QF.gy rfl rfl rfl ?_
                refine QF.fa rfl k168 GLink.f_Den fa_85_11 rfl fun q176 k177 => ?_
                refine QF.gy rfl rfl rfl ?_
                refine QF.ldi ckC hs114.1 rfl k177 ty_3 rfl fun r178 => ?_
                refine QF.gy rfl rfl rfl ?_
                obtain ⟨y179, hy179, hb175⟩ := bd hb175
                refine QF.callp (v := .bool y179) (Ψ := True) rfl rfl rfl ca_26 rfl (fun h' o => (basin_in_ret (St.all h') r178 (show inI64 1 by unfold inI64; omega) (show inI64 1125899906842624 by unfold inI64; omega) hy179).mono fun _ _ _ _ p => ⟨p.1, trivial⟩) fun r180 => ?_
                refine QF.pick rfl rfl rfl ?_
                cases hb175
                exact QF.cutn (sb 114 rfl (sb 110 rfl (sb 109 rfl (sb 108 rfl (sb 107 rfl (sb 105 rfl (sb 1 rfl sb0)))))))
            refine QF.mv rfl rfl ?_
            obtain ⟨b182, hb182, E⟩ := bd E
            refine QF.cutv 4 119 (.bool b182) ?_ ?_
            · cases c181 : b175
              · skip
                have hb182 := cdF c181 hb182
                cases hb182
                refine QF.gnF rfl rfl rfl rfl rfl ?_
                refine QF.gnF rfl rfl rfl rfl rfl ?_
                refine QF.gnF rfl rfl rfl rfl rfl ?_
                refine QF.pick rfl rfl rfl ?_
                exact QF.cutn (sb 119 rfl (sb 115 rfl (sb 114 rfl (sb 110 rfl (sb 109 rfl (sb 108 rfl (sb 107 rfl (sb 105 rfl (sb 1 rfl sb0)))))))))
              · skip
                have hb182 := cdT c181 hb182
                refine QF.gy rfl rfl rfl ?_
                refine QF.fa rfl k168 GLink.f_Prime fa_85_12 rfl fun q183 k184 => ?_
                refine QF.gy rfl rfl rfl ?_
                refine QF.ldi ckC hs114.1 rfl k184 ty_3 rfl fun r185 => ?_
                refine QF.gy rfl rfl rfl ?_
                obtain ⟨y186, hy186, hb182⟩ := bd hb182
                refine QF.callp (v := .bool y186) (Ψ := True) rfl rfl rfl ca_27 rfl (fun h' o => (basin_volume_ret (St.all h') r185 hy186).mono fun _ _ _ _ p => ⟨p.1, trivial⟩) fun r187 => ?_
                refine QF.pick rfl rfl rfl ?_
                cases hb182
                exact QF.cutn (sb 119 rfl (sb 115 rfl (sb 114 rfl (sb 110 rfl (sb 109 rfl (sb 108 rfl (sb 107 rfl (sb 105 rfl (sb 1 rfl sb0)))))))))
            refine QF.mv rfl rfl ?_
            obtain ⟨b189, hb189, E⟩ := bd E
            refine QF.cutv 4 124 (.bool b189) ?_ ?_
            · cases c188 : b182
              · skip
                have hb189 := cdF c188 hb189
                cases hb189
                refine QF.gnF rfl rfl rfl rfl rfl ?_
                refine QF.gnF rfl rfl rfl rfl rfl ?_
                refine QF.gnF rfl rfl rfl rfl rfl ?_
                refine QF.pick rfl rfl rfl ?_
                exact QF.cutn (sb 124 rfl (sb 120 rfl (sb 119 rfl (sb 115 rfl (sb 114 rfl (sb 110 rfl (sb 109 rfl (sb 108 rfl (sb 107 rfl (sb 105 rfl (sb 1 rfl sb0)))))))))))
              · skip
                have hb189 := cdT c188 hb189
                refine QF.gy rfl rfl rfl ?_
                refine QF.fa rfl k168 GLink.f_Break fa_85_13 rfl fun q190 k191 => ?_
                refine QF.gy rfl rfl rfl ?_
                refine QF.ldi ckC hs114.1 rfl k191 ty_3 rfl fun r192 => ?_
                refine QF.gy rfl rfl rfl ?_
                obtain ⟨y193, hy193, hb189⟩ := bd hb189
                refine QF.callp (v := .bool y193) (Ψ := True) rfl rfl rfl ca_27 rfl (fun h' o => (basin_volume_ret (St.all h') r192 hy193).mono fun _ _ _ _ p => ⟨p.1, trivial⟩) fun r194 => ?_
                refine QF.pick rfl rfl rfl ?_
                cases hb189
                exact QF.cutn (sb 124 rfl (sb 120 rfl (sb 119 rfl (sb 115 rfl (sb 114 rfl (sb 110 rfl (sb 109 rfl (sb 108 rfl (sb 107 rfl (sb 105 rfl (sb 1 rfl sb0)))))))))))
            refine QF.mv rfl rfl ?_
            refine QF.cutv 6 131 (.bool (b189 && (decide (p0_l.Break < p0_l.Prime)))) ?_ ?_
            · cases c195 : b189
              · skip
                refine QF.gnF rfl rfl rfl rfl rfl ?_
                refine QF.gnF rfl rfl rfl rfl rfl ?_
                refine QF.gnF rfl rfl rfl rfl rfl ?_
                refine QF.gnF rfl rfl rfl rfl rfl ?_
                refine QF.gnF rfl rfl rfl rfl rfl ?_
                refine QF.pick rfl rfl rfl ?_
                exact QF.cutn (sb 131 rfl (sb 125 rfl (sb 124 rfl (sb 120 rfl (sb 119 rfl (sb 115 rfl (sb 114 rfl (sb 110 rfl (sb 109 rfl (sb 108 rfl (sb 107 rfl (sb 105 rfl (sb 1 rfl sb0)))))))))))))
              · skip
                refine QF.gy rfl rfl rfl ?_
                refine QF.fa rfl k168 GLink.f_Break fa_85_13 rfl fun q196 k197 => ?_
                refine QF.gy rfl rfl rfl ?_
                refine QF.ldi ckC hs114.1 rfl k197 ty_3 rfl fun r198 => ?_
                refine QF.gy rfl rfl rfl ?_
                refine QF.fa rfl k168 GLink.f_Prime fa_85_12 rfl fun q199 k200 => ?_
                refine QF.gy rfl rfl rfl ?_
                refine QF.ldi ckC hs114.1 rfl k200 ty_3 rfl fun r201 => ?_
                refine QF.gy rfl rfl rfl ?_
                refine QF.lss rfl rfl rfl ?_
                refine QF.pick rfl rfl rfl ?_
                exact QF.cutn (sb 131 rfl (sb 125 rfl (sb 124 rfl (sb 120 rfl (sb 119 rfl (sb 115 rfl (sb 114 rfl (sb 110 rfl (sb 109 rfl (sb 108 rfl (sb 107 rfl (sb 105 rfl (sb 1 rfl sb0)))))))))))))
            refine QF.as_ rfl rfl ?_
            refine QF.rcn (sb 2 rfl sb0) fun h202 hs203 e204 => ?_
            refine WF.ret (fun aa ww hf hw => ?_)
            cases E
            exact rtg hf rfl hw (rvc (rvT hf (v := _) rfl) rv0) rfl (e5.trans (e115.trans e204)) ⟨rfl, hs203⟩
          · skip
            have E := cdF c167 E
            refine WF.skip ?_
            refine WF.nilW ?_
            refine WF.seq ?_
            refine WF.rc (.inl rfl) hs114 ?_
            have k205 := k6.mono e115
            refine QF.fa rfl k205 GLink.f_Num fa_85_10 rfl fun q206 k207 => ?_
            refine QF.ldi ckC hs114.1 rfl k207 ty_3 rfl fun r208 => ?_
            obtain ⟨y209, hy209, E⟩ := bd E
            refine QF.callp (v := .bool y209) (Ψ := True) rfl rfl rfl ca_27 rfl (fun h' o => (basin_volume_ret (St.all h') r208 hy209).mono fun _ _ _ _ p => ⟨p.1, trivial⟩) fun r210 => ?_
            refine QF.mv rfl rfl ?_
            obtain ⟨b212, hb212, E⟩ := bd E
            refine QF.cutv 4 139 (.bool b212) ?_ ?_
            · cases c211 : y209
              · skip
                have hb212 := cdF c211 hb212
                cases hb212
                refine QF.gnF rfl rfl rfl rfl rfl ?_
                refine QF.gnF rfl rfl rfl rfl rfl ?_
                refine QF.gnF rfl rfl rfl rfl rfl ?_
                refine QF.pick rfl rfl rfl ?_
                exact QF.cutn (sb 139 rfl (sb 135 rfl (sb 134 rfl (sb 133 rfl (sb 132 rfl (sb 105 rfl (sb 1 rfl sb0)))))))
              · skip
                have hb212 := cdT c211 hb212
                refine QF.gy rfl rfl rfl ?_
                refine QF.fa rfl k205 GLink.f_Den fa_85_11 rfl fun q213 k214 => ?_
                refine QF.gy rfl rfl rfl ?_
                refine QF.ldi ckC hs114.1 rfl k214 ty_3 rfl fun r215 => ?_
                refine QF.gy rfl rfl rfl ?_
                obtain ⟨y216, hy216, hb212⟩ := bd hb212
                refine QF.callp (v := .bool y216) (Ψ := True) rfl rfl rfl ca_26 rfl (fun h' o => (basin_in_ret (St.all h') r215 (show inI64 1 by unfold inI64; omega) (show inI64 1125899906842624 by unfold inI64; omega) hy216).mono fun _ _ _ _ p => ⟨p.1, trivial⟩) fun r217 => ?_
                refine QF.pick rfl rfl rfl ?_
                cases hb212
                exact QF.cutn (sb 139 rfl (sb 135 rfl (sb 134 rfl (sb 133 rfl (sb 132 rfl (sb 105 rfl (sb 1 rfl sb0)))))))
            refine QF.mv rfl rfl ?_
            obtain ⟨b219, hb219, E⟩ := bd E
            refine QF.cutv 6 146 (.bool b219) ?_ ?_
            · cases c218 : b212
              · skip
                have hb219 := cdF c218 hb219
                cases hb219
                refine QF.gnF rfl rfl rfl rfl rfl ?_
                refine QF.gnF rfl rfl rfl rfl rfl ?_
                refine QF.gnF rfl rfl rfl rfl rfl ?_
                refine QF.gnF rfl rfl rfl rfl rfl ?_
                refine QF.gnF rfl rfl rfl rfl rfl ?_
                refine QF.pick rfl rfl rfl ?_
                exact QF.cutn (sb 146 rfl (sb 140 rfl (sb 139 rfl (sb 135 rfl (sb 134 rfl (sb 133 rfl (sb 132 rfl (sb 105 rfl (sb 1 rfl sb0)))))))))
              · skip
                have hb219 := cdT c218 hb219
                refine QF.gy rfl rfl rfl ?_
                refine QF.fa rfl k205 GLink.f_BackNum fa_85_14 rfl fun q220 k221 => ?_
                refine QF.gy rfl rfl rfl ?_
                refine QF.ldi ckC hs114.1 rfl k221 ty_3 rfl fun r222 => ?_
                refine QF.gy rfl rfl rfl ?_
                refine QF.fa rfl k205 GLink.f_BackDen fa_85_15 rfl fun q223 k224 => ?_
                refine QF.gy rfl rfl rfl ?_
                refine QF.ldi ckC hs114.1 rfl k224 ty_3 rfl fun r225 => ?_
                refine QF.gy rfl rfl rfl ?_
                obtain ⟨y226, hy226, hb219⟩ := bd hb219
                refine QF.callp (v := .bool y226) (Ψ := True) rfl rfl rfl ca_30 rfl (fun h' o => (basin_fraction_ret (St.all h') r222 r225 hy226).mono fun _ _ _ _ p => ⟨p.1, trivial⟩) fun r227 => ?_
                refine QF.pick rfl rfl rfl ?_
                cases hb219
                exact QF.cutn (sb 146 rfl (sb 140 rfl (sb 139 rfl (sb 135 rfl (sb 134 rfl (sb 133 rfl (sb 132 rfl (sb 105 rfl (sb 1 rfl sb0)))))))))
            refine QF.mv rfl rfl ?_
            refine QF.cutv 4 151 (.bool (b219 && (decide (p0_l.To ≠ (-1))))) ?_ ?_
            · cases c228 : b219
              · skip
                refine QF.gnF rfl rfl rfl rfl rfl ?_
                refine QF.gnF rfl rfl rfl rfl rfl ?_
                refine QF.gnF rfl rfl rfl rfl rfl ?_
                refine QF.pick rfl rfl rfl ?_
                exact QF.cutn (sb 151 rfl (sb 147 rfl (sb 146 rfl (sb 140 rfl (sb 139 rfl (sb 135 rfl (sb 134 rfl (sb 133 rfl (sb 132 rfl (sb 105 rfl (sb 1 rfl sb0)))))))))))
              · skip
                refine QF.gy rfl rfl rfl ?_
                refine QF.fa rfl k205 GLink.f_To fa_85_3 rfl fun q229 k230 => ?_
                refine QF.gy rfl rfl rfl ?_
                refine QF.ldi ckC hs114.1 rfl k230 ty_3 rfl fun r231 => ?_
                refine QF.gy rfl rfl rfl ?_
                refine QF.neq rfl rfl rfl ?_
                refine QF.pick rfl rfl rfl ?_
                exact QF.cutn (sb 151 rfl (sb 147 rfl (sb 146 rfl (sb 140 rfl (sb 139 rfl (sb 135 rfl (sb 134 rfl (sb 133 rfl (sb 132 rfl (sb 105 rfl (sb 1 rfl sb0)))))))))))
            refine QF.as_ rfl rfl ?_
            refine QF.rcn (sb 2 rfl sb0) fun h232 hs233 e234 => ?_
            refine WF.ret (fun aa ww hf hw => ?_)
            cases E
            exact rtg hf rfl hw (rvc (rvT hf (v := _) rfl) rv0) rfl (e5.trans (e115.trans e234)) ⟨rfl, hs233⟩

set_option maxRecDepth 10000 in
set_option maxHeartbeats 2000000 in
theorem basin_rightUnused_ret {N : Nat} {S : Nat → Prop} {L : List HP} {h : Heap} (hs : St S L h) {v_p0_l : Value} {p0_l : GLink} (h_p0_l : Rd S h RGLink v_p0_l p0_l) {r : Bool} (E : f_basin_rightUnused N p0_l = some r) :
    Ret Try.prog 34 #[v_p0_l] S h (fun v S' h' => v = .bool r ∧ St S' (L) h') := by
  refine Ret.go (l := [v_p0_l]) 112 Try.func34 rfl Try.ntmps34 rfl fun B => ?_
  rw [f_basin_rightUnused] at E
  refine WF.seq ?_
  refine WF.rl ?_
  refine LF.boxp rfl h_p0_l (fun e => by cases e) rfl hs fun q1 S2 h3 hs4 e5 k6 => ?_
  refine LF.q 1 ?_
  refine QF.as_ rfl rfl ?_
  refine QF.ln ?_
  refine LF.nil (sb 1 rfl sb0) ?_
  refine WF.seq ?_
  refine WF.rp (.inl rfl) ?_
  refine QF.fa rfl k6 GLink.f_Kind fa_85_1 rfl fun q7 k8 => ?_
  refine QF.ldi ckP hs4.1 rfl k8 ty_3 rfl fun r9 => ?_
  refine QF.eql rfl rfl rfl ?_
  refine QF.as_ rfl rfl ?_
  refine QF.rpn (sb 3 rfl (sb 1 rfl sb0)) ?_
  refine WF.seq ?_
  refine WF.seq ?_
  refine WF.rp (.inl rfl) ?_
  refine QF.mv rfl rfl ?_
  refine QF.not rfl rfl ?_
  refine QF.mv rfl rfl ?_
  refine QF.cutv 24 33 (.bool ((!(decide (p0_l.Kind = 0))) && ((((decide (0 < (↑p0_l.Rate.length : Int))) || (decide (0 < (↑p0_l.Band.Lo.length : Int)))) || (decide (0 < (↑p0_l.Band.Hi.length : Int)))) || (decide (p0_l.Leak ≠ 0))))) ?_ ?_
  · cases c10 : (!(decide (p0_l.Kind = 0)))
    · skip
      refine QF.gnF rfl rfl rfl rfl rfl ?_
      refine QF.gnF rfl rfl rfl rfl rfl ?_
      refine QF.gnF rfl rfl rfl rfl rfl ?_
      refine QF.gnF rfl rfl rfl rfl rfl ?_
      refine QF.gnF rfl rfl rfl rfl rfl ?_
      refine QF.gnu rfl rfl rfl rfl rfl ?_
      refine QF.gnu rfl rfl rfl rfl rfl ?_
      refine QF.gnu rfl rfl rfl rfl rfl ?_
      refine QF.gnu rfl rfl rfl rfl rfl ?_
      refine QF.gnu rfl rfl rfl rfl rfl ?_
      refine QF.gnF rfl rfl rfl rfl rfl ?_
      refine QF.gnF rfl rfl rfl rfl rfl ?_
      refine QF.gnu rfl rfl rfl rfl rfl ?_
      refine QF.gnu rfl rfl rfl rfl rfl ?_
      refine QF.gnu rfl rfl rfl rfl rfl ?_
      refine QF.gnu rfl rfl rfl rfl rfl ?_
      refine QF.gnu rfl rfl rfl rfl rfl ?_
      refine QF.gnF rfl rfl rfl rfl rfl ?_
      refine QF.gnF rfl rfl rfl rfl rfl ?_
      refine QF.gnu rfl rfl rfl rfl rfl ?_
      refine QF.gnu rfl rfl rfl rfl rfl ?_
      refine QF.gnu rfl rfl rfl rfl rfl ?_
      refine QF.gnF rfl rfl rfl rfl rfl ?_
      refine QF.pick rfl rfl rfl ?_
      exact QF.cutn (sb 33 rfl (sb 9 rfl (sb 8 rfl (sb 7 rfl (sb 3 rfl (sb 1 rfl sb0))))))
    · skip
      refine QF.gy rfl rfl rfl ?_
      refine QF.fa rfl k6 GLink.f_Rate fa_85_4 rfl fun q11 k12 => ?_
      refine QF.gy rfl rfl rfl ?_
      refine QF.ldl ckP hs4.1 rfl k12 ty_67 rfl fun v13 k14 => ?_
      refine QF.gy rfl rfl rfl ?_
      refine QF.len rfl k14 sl_67 rfl fun b15 => ?_
      unfold maxLen at b15
      refine QF.gy rfl rfl rfl ?_
      refine QF.gtr rfl rfl rfl ?_
      refine QF.gy rfl rfl rfl ?_
      refine QF.mv rfl rfl ?_
      refine QF.cutv 6 20 (.bool ((decide (0 < (↑p0_l.Rate.length : Int))) || (decide (0 < (↑p0_l.Band.Lo.length : Int))))) ?_ ?_
      · cases c16 : (decide (0 < (↑p0_l.Rate.length : Int)))
        · skip
          refine QF.gy rfl rfl rfl ?_
          refine QF.fa rfl k6 GLink.f_Band fa_85_5 rfl fun q17 k18 => ?_
          refine QF.gy rfl rfl rfl ?_
          refine QF.fa rfl k18 GBand.f_Lo fa_83_0 rfl fun q19 k20 => ?_
          refine QF.gy rfl rfl rfl ?_
          refine QF.ldl ckP hs4.1 rfl k20 ty_67 rfl fun v21 k22 => ?_
          refine QF.gy rfl rfl rfl ?_
          refine QF.len rfl k22 sl_67 rfl fun b23 => ?_
          unfold maxLen at b23
          refine QF.gy rfl rfl rfl ?_
          refine QF.gtr rfl rfl rfl ?_
          refine QF.gy rfl rfl rfl ?_
          refine QF.pick rfl rfl rfl ?_
          exact QF.cutn (sb 20 rfl (sb 14 rfl (sb 13 rfl (sb 12 rfl (sb 11 rfl (sb 10 rfl (sb 9 rfl (sb 8 rfl (sb 7 rfl (sb 3 rfl (sb 1 rfl sb0)))))))))))
        · skip
          refine QF.gnT rfl rfl rfl rfl rfl ?_
          refine QF.gnT rfl rfl rfl rfl rfl ?_
          refine QF.gnT rfl rfl rfl rfl rfl ?_
          refine QF.gnT rfl rfl rfl rfl rfl ?_
          refine QF.gnT rfl rfl rfl rfl rfl ?_
          refine QF.gy rfl rfl rfl ?_
          refine QF.pick rfl rfl rfl ?_
          exact QF.cutn (sb 20 rfl (sb 14 rfl (sb 13 rfl (sb 12 rfl (sb 11 rfl (sb 10 rfl (sb 9 rfl (sb 8 rfl (sb 7 rfl (sb 3 rfl (sb 1 rfl sb0)))))))))))
      refine QF.gy rfl rfl rfl ?_
      refine QF.mv rfl rfl ?_
      refine QF.cutv 6 27 (.bool (((decide (0 < (↑p0_l.Rate.length : Int))) || (decide (0 < (↑p0_l.Band.Lo.length : Int)))) || (decide (0 < (↑p0_l.Band.Hi.length : Int))))) ?_ ?_
      · cases c24 : ((decide (0 < (↑p0_l.Rate.length : Int))) || (decide (0 < (↑p0_l.Band.Lo.length : Int))))
        · skip
          refine QF.gy rfl rfl rfl ?_
          refine QF.fa rfl k6 GLink.f_Band fa_85_5 rfl fun q25 k26 => ?_
          refine QF.gy rfl rfl rfl ?_
          refine QF.fa rfl k26 GBand.f_Hi fa_83_1 rfl fun q27 k28 => ?_
          refine QF.gy rfl rfl rfl ?_
          refine QF.ldl ckP hs4.1 rfl k28 ty_67 rfl fun v29 k30 => ?_
          refine QF.gy rfl rfl rfl ?_
          refine QF.len rfl k30 sl_67 rfl fun b31 => ?_
          unfold maxLen at b31
          refine QF.gy rfl rfl rfl ?_
          refine QF.gtr rfl rfl rfl ?_
          refine QF.gy rfl rfl rfl ?_
          refine QF.pick rfl rfl rfl ?_
          exact QF.cutn (sb 27 rfl (sb 21 rfl (sb 20 rfl (sb 14 rfl (sb 13 rfl (sb 12 rfl (sb 11 rfl (sb 10 rfl (sb 9 rfl (sb 8 rfl (sb 7 rfl (sb 3 rfl (sb 1 rfl sb0)))))))))))))
        · skip
          refine QF.gnT rfl rfl rfl rfl rfl ?_
          refine QF.gnT rfl rfl rfl rfl rfl ?_
          refine QF.gnT rfl rfl rfl rfl rfl ?_
          refine QF.gnT rfl rfl rfl rfl rfl ?_
          refine QF.gnT rfl rfl rfl rfl rfl ?_
          refine QF.gy rfl rfl rfl ?_
          refine QF.pick rfl rfl rfl ?_
          exact QF.cutn (sb 27 rfl (sb 21 rfl (sb 20 rfl (sb 14 rfl (sb 13 rfl (sb 12 rfl (sb 11 rfl (sb 10 rfl (sb 9 rfl (sb 8 rfl (sb 7 rfl (sb 3 rfl (sb 1 rfl sb0)))))))))))))
      refine QF.gy rfl rfl rfl ?_
      refine QF.mv rfl rfl ?_
      refine QF.cutv 4 32 (.bool ((((decide (0 < (↑p0_l.Rate.length : Int))) || (decide (0 < (↑p0_l.Band.Lo.length : Int)))) || (decide (0 < (↑p0_l.Band.Hi.length : Int)))) || (decide (p0_l.Leak ≠ 0)))) ?_ ?_
      · cases c32 : (((decide (0 < (↑p0_l.Rate.length : Int))) || (decide (0 < (↑p0_l.Band.Lo.length : Int)))) || (decide (0 < (↑p0_l.Band.Hi.length : Int))))
        · skip
          refine QF.gy rfl rfl rfl ?_
          refine QF.fa rfl k6 GLink.f_Leak fa_85_8 rfl fun q33 k34 => ?_
          refine QF.gy rfl rfl rfl ?_
          refine QF.ldi ckP hs4.1 rfl k34 ty_3 rfl fun r35 => ?_
          refine QF.gy rfl rfl rfl ?_
          refine QF.neq rfl rfl rfl ?_
          refine QF.gy rfl rfl rfl ?_
          refine QF.pick rfl rfl rfl ?_
          exact QF.cutn (sb 32 rfl (sb 28 rfl (sb 27 rfl (sb 21 rfl (sb 20 rfl (sb 14 rfl (sb 13 rfl (sb 12 rfl (sb 11 rfl (sb 10 rfl (sb 9 rfl (sb 8 rfl (sb 7 rfl (sb 3 rfl (sb 1 rfl sb0)))))))))))))))
        · skip
          refine QF.gnT rfl rfl rfl rfl rfl ?_
          refine QF.gnT rfl rfl rfl rfl rfl ?_
          refine QF.gnT rfl rfl rfl rfl rfl ?_
          refine QF.gy rfl rfl rfl ?_
          refine QF.pick rfl rfl rfl ?_
          exact QF.cutn (sb 32 rfl (sb 28 rfl (sb 27 rfl (sb 21 rfl (sb 20 rfl (sb 14 rfl (sb 13 rfl (sb 12 rfl (sb 11 rfl (sb 10 rfl (sb 9 rfl (sb 8 rfl (sb 7 rfl (sb 3 rfl (sb 1 rfl sb0)))))))))))))))
      refine QF.pick rfl rfl rfl ?_
      exact QF.cutn (sb 33 rfl (sb 9 rfl (sb 8 rfl (sb 7 rfl (sb 3 rfl (sb 1 rfl sb0))))))
  refine QF.rpn (sb 33 rfl (sb 3 rfl (sb 1 rfl sb0))) ?_
  refine WF.if_ rfl (fun c36 => ?_) (fun c36 => ?_)
  · skip
    have E := cdT c36 E
    refine WF.seq ?_
    refine WF.rp (.inl rfl) ?_
    refine QF.as_ rfl rfl ?_
    refine QF.rpn (sb 2 rfl sb0) ?_
    refine WF.ret (fun aa ww hf hw => ?_)
    cases E
    exact rtg hf rfl hw (rvc (rvT hf (v := _) rfl) rv0) rfl e5 ⟨rfl, hs4⟩
  · skip
    have E := cdF c36 E
    refine WF.skip ?_
    refine WF.seq ?_
    refine WF.seq ?_
    refine WF.rp (.inl rfl) ?_
    refine QF.mv rfl rfl ?_
    refine QF.not rfl rfl ?_
    refine QF.mv rfl rfl ?_
    refine QF.cutv 4 40 (.bool ((!(decide (p0_l.Kind = 0))) && (decide (p0_l.Kind ≠ 2)))) ?_ ?_
    · cases c37 : (!(decide (p0_l.Kind = 0)))
      · skip
        refine QF.gnF rfl rfl rfl rfl rfl ?_
        refine QF.gnF rfl rfl rfl rfl rfl ?_
        refine QF.gnF rfl rfl rfl rfl rfl ?_
        refine QF.pick rfl rfl rfl ?_
        exact QF.cutn (sb 40 rfl (sb 36 rfl (sb 35 rfl (sb 34 rfl (sb 33 rfl (sb 3 rfl (sb 1 rfl sb0)))))))
      · skip
        refine QF.gy rfl rfl rfl ?_
        refine QF.fa rfl k6 GLink.f_Kind fa_85_1 rfl fun q38 k39 => ?_
        refine QF.gy rfl rfl rfl ?_
        refine QF.ldi ckP hs4.1 rfl k39 ty_3 rfl fun r40 => ?_
        refine QF.gy rfl rfl rfl ?_
        refine QF.neq rfl rfl rfl ?_
        refine QF.pick rfl rfl rfl ?_
        exact QF.cutn (sb 40 rfl (sb 36 rfl (sb 35 rfl (sb 34 rfl (sb 33 rfl (sb 3 rfl (sb 1 rfl sb0)))))))
    refine QF.mv rfl rfl ?_
    refine QF.cutv 9 50 (.bool (((!(decide (p0_l.Kind = 0))) && (decide (p0_l.Kind ≠ 2))) && ((decide (p0_l.Positions ≠ 0)) || (decide (p0_l.Speed ≠ 0))))) ?_ ?_
    · cases c41 : ((!(decide (p0_l.Kind = 0))) && (decide (p0_l.Kind ≠ 2)))
      · skip
        refine QF.gnF rfl rfl rfl rfl rfl ?_
        refine QF.gnF rfl rfl rfl rfl rfl ?_
        refine QF.gnF rfl rfl rfl rfl rfl ?_
        refine QF.gnF rfl rfl rfl rfl rfl ?_
        refine QF.gnu rfl rfl rfl rfl rfl ?_
        refine QF.gnu rfl rfl rfl rfl rfl ?_
        refine QF.gnu rfl rfl rfl rfl rfl ?_
        refine QF.gnF rfl rfl rfl rfl rfl ?_
        refine QF.pick rfl rfl rfl ?_
        exact QF.cutn (sb 50 rfl (sb 41 rfl (sb 40 rfl (sb 36 rfl (sb 35 rfl (sb 34 rfl (sb 33 rfl (sb 3 rfl (sb 1 rfl sb0)))))))))
      · skip
        refine QF.gy rfl rfl rfl ?_
        refine QF.fa rfl k6 GLink.f_Positions fa_85_6 rfl fun q42 k43 => ?_
        refine QF.gy rfl rfl rfl ?_
        refine QF.ldi ckP hs4.1 rfl k43 ty_3 rfl fun r44 => ?_
        refine QF.gy rfl rfl rfl ?_
        refine QF.neq rfl rfl rfl ?_
        refine QF.gy rfl rfl rfl ?_
        refine QF.mv rfl rfl ?_
        refine QF.cutv 4 49 (.bool ((decide (p0_l.Positions ≠ 0)) || (decide (p0_l.Speed ≠ 0)))) ?_ ?_
        · cases c45 : (decide (p0_l.Positions ≠ 0))
          · skip
            refine QF.gy rfl rfl rfl ?_
            refine QF.fa rfl k6 GLink.f_Speed fa_85_7 rfl fun q46 k47 => ?_
            refine QF.gy rfl rfl rfl ?_
            refine QF.ldi ckP hs4.1 rfl k47 ty_3 rfl fun r48 => ?_
            refine QF.gy rfl rfl rfl ?_
            refine QF.neq rfl rfl rfl ?_
            refine QF.gy rfl rfl rfl ?_
            refine QF.pick rfl rfl rfl ?_
            exact QF.cutn (sb 49 rfl (sb 45 rfl (sb 44 rfl (sb 43 rfl (sb 42 rfl (sb 41 rfl (sb 40 rfl (sb 36 rfl (sb 35 rfl (sb 34 rfl (sb 33 rfl (sb 3 rfl (sb 1 rfl sb0)))))))))))))
          · skip
            refine QF.gnT rfl rfl rfl rfl rfl ?_
            refine QF.gnT rfl rfl rfl rfl rfl ?_
            refine QF.gnT rfl rfl rfl rfl rfl ?_
            refine QF.gy rfl rfl rfl ?_
            refine QF.pick rfl rfl rfl ?_
            exact QF.cutn (sb 49 rfl (sb 45 rfl (sb 44 rfl (sb 43 rfl (sb 42 rfl (sb 41 rfl (sb 40 rfl (sb 36 rfl (sb 35 rfl (sb 34 rfl (sb 33 rfl (sb 3 rfl (sb 1 rfl sb0)))))))))))))
        refine QF.pick rfl rfl rfl ?_
        exact QF.cutn (sb 50 rfl (sb 41 rfl (sb 40 rfl (sb 36 rfl (sb 35 rfl (sb 34 rfl (sb 33 rfl (sb 3 rfl (sb 1 rfl sb0)))))))))
    refine QF.rpn (sb 50 rfl (sb 3 rfl (sb 1 rfl sb0))) ?_
    refine WF.if_ rfl (fun c49 => ?_) (fun c49 => ?_)
    · skip
      have E := cdT c49 E
      refine WF.seq ?_
      refine WF.rp (.inl rfl) ?_
      refine QF.as_ rfl rfl ?_
      refine QF.rpn (sb 2 rfl sb0) ?_
      refine WF.ret (fun aa ww hf hw => ?_)
      cases E
      exact rtg hf rfl hw (rvc (rvT hf (v := _) rfl) rv0) rfl e5 ⟨rfl, hs4⟩
    · skip
      have E := cdF c49 E
      refine WF.skip ?_
      refine WF.seq ?_
      refine WF.seq ?_
      refine WF.rp (.inl rfl) ?_
      refine QF.fa rfl k6 GLink.f_Kind fa_85_1 rfl fun q50 k51 => ?_
      refine QF.ldi ckP hs4.1 rfl k51 ty_3 rfl fun r52 => ?_
      refine QF.neq rfl rfl rfl ?_
      refine QF.mv rfl rfl ?_
      refine QF.cutv 4 58 (.bool ((decide (p0_l.Kind ≠ 1)) && (decide (p0_l.Kind ≠ 5)))) ?_ ?_
      · cases c53 : (decide (p0_l.Kind ≠ 1))
        · skip
          refine QF.gnF rfl rfl rfl rfl rfl ?_
          refine QF.gnF rfl rfl rfl rfl rfl ?_
          refine QF.gnF rfl rfl rfl rfl rfl ?_
          refine QF.pick rfl rfl rfl ?_
          exact QF.cutn (sb 58 rfl (sb 54 rfl (sb 53 rfl (sb 52 rfl (sb 51 rfl (sb 50 rfl (sb 3 rfl (sb 1 rfl sb0))))))))
        · skip
          refine QF.gy rfl rfl rfl ?_
          refine QF.fa rfl k6 GLink.f_Kind fa_85_1 rfl fun q54 k55 => ?_
          refine QF.gy rfl rfl rfl ?_
          refine QF.ldi ckP hs4.1 rfl k55 ty_3 rfl fun r56 => ?_
          refine QF.gy rfl rfl rfl ?_
          refine QF.neq rfl rfl rfl ?_
          refine QF.pick rfl rfl rfl ?_
          exact QF.cutn (sb 58 rfl (sb 54 rfl (sb 53 rfl (sb 52 rfl (sb 51 rfl (sb 50 rfl (sb 3 rfl (sb 1 rfl sb0))))))))
      refine QF.mv rfl rfl ?_
      refine QF.cutv 4 63 (.bool (((decide (p0_l.Kind ≠ 1)) && (decide (p0_l.Kind ≠ 5))) && (decide (p0_l.Crest ≠ 0)))) ?_ ?_
      · cases c57 : ((decide (p0_l.Kind ≠ 1)) && (decide (p0_l.Kind ≠ 5)))
        · skip
          refine QF.gnF rfl rfl rfl rfl rfl ?_
          refine QF.gnF rfl rfl rfl rfl rfl ?_
          refine QF.gnF rfl rfl rfl rfl rfl ?_
          refine QF.pick rfl rfl rfl ?_
          exact QF.cutn (sb 63 rfl (sb 59 rfl (sb 58 rfl (sb 54 rfl (sb 53 rfl (sb 52 rfl (sb 51 rfl (sb 50 rfl (sb 3 rfl (sb 1 rfl sb0))))))))))
        · skip
          refine QF.gy rfl rfl rfl ?_
          refine QF.fa rfl k6 GLink.f_Crest fa_85_9 rfl fun q58 k59 => ?_
          refine QF.gy rfl rfl rfl ?_
          refine QF.ldi ckP hs4.1 rfl k59 ty_3 rfl fun r60 => ?_
          refine QF.gy rfl rfl rfl ?_
          refine QF.neq rfl rfl rfl ?_
          refine QF.pick rfl rfl rfl ?_
          exact QF.cutn (sb 63 rfl (sb 59 rfl (sb 58 rfl (sb 54 rfl (sb 53 rfl (sb 52 rfl (sb 51 rfl (sb 50 rfl (sb 3 rfl (sb 1 rfl sb0))))))))))
      refine QF.rpn (sb 63 rfl (sb 3 rfl (sb 1 rfl sb0))) ?_
      refine WF.if_ rfl (fun c61 => ?_) (fun c61 => ?_)
      · skip
        have E := cdT c61 E
        refine WF.seq ?_
        refine WF.rp (.inl rfl) ?_
        refine QF.as_ rfl rfl ?_
        refine QF.rpn (sb 2 rfl sb0) ?_
        refine WF.ret (fun aa ww hf hw => ?_)
        cases E
        exact rtg hf rfl hw (rvc (rvT hf (v := _) rfl) rv0) rfl e5 ⟨rfl, hs4⟩
      · skip
        have E := cdF c61 E
        refine WF.skip ?_
        refine WF.seq ?_
        refine WF.seq ?_
        refine WF.rp (.inl rfl) ?_
        refine QF.mv rfl rfl ?_
        refine QF.mv rfl rfl ?_
        refine QF.cutv 4 69 (.bool ((decide (p0_l.Kind = 0)) && (decide (p0_l.Num ≠ 0)))) ?_ ?_
        · cases c62 : (decide (p0_l.Kind = 0))
          · skip
            refine QF.gnF rfl rfl rfl rfl rfl ?_
            refine QF.gnF rfl rfl rfl rfl rfl ?_
            refine QF.gnF rfl rfl rfl rfl rfl ?_
            refine QF.pick rfl rfl rfl ?_
            exact QF.cutn (sb 69 rfl (sb 65 rfl (sb 64 rfl (sb 63 rfl (sb 3 rfl (sb 1 rfl sb0))))))
          · skip
            refine QF.gy rfl rfl rfl ?_
            refine QF.fa rfl k6 GLink.f_Num fa_85_10 rfl fun q63 k64 => ?_
            refine QF.gy rfl rfl rfl ?_
            refine QF.ldi ckP hs4.1 rfl k64 ty_3 rfl fun r65 => ?_
            refine QF.gy rfl rfl rfl ?_
            refine QF.neq rfl rfl rfl ?_
            refine QF.pick rfl rfl rfl ?_
            exact QF.cutn (sb 69 rfl (sb 65 rfl (sb 64 rfl (sb 63 rfl (sb 3 rfl (sb 1 rfl sb0))))))
        refine QF.mv rfl rfl ?_
        refine QF.cutv 12 82 (.bool (((decide (p0_l.Kind = 0)) && (decide (p0_l.Num ≠ 0))) || (((decide (p0_l.Kind = 0)) || (decide (p0_l.Kind = 2))) && (decide (p0_l.Den ≠ 0))))) ?_ ?_
        · cases c66 : ((decide (p0_l.Kind = 0)) && (decide (p0_l.Num ≠ 0)))
          · skip
            refine QF.gy rfl rfl rfl ?_
            refine QF.mv rfl rfl ?_
            refine QF.gy rfl rfl rfl ?_
            refine QF.mv rfl rfl ?_
            refine QF.cutv 4 76 (.bool ((decide (p0_l.Kind = 0)) || (decide (p0_l.Kind = 2)))) ?_ ?_
            · cases c67 : (decide (p0_l.Kind = 0))
              · skip
                refine QF.gy rfl rfl rfl ?_
                refine QF.fa rfl k6 GLink.f_Kind fa_85_1 rfl fun q68 k69 => ?_
                refine QF.gy rfl rfl rfl ?_
                refine QF.ldi ckP hs4.1 rfl k69 ty_3 rfl fun r70 => ?_
                refine QF.gy rfl rfl rfl ?_
                refine QF.eql rfl rfl rfl ?_
                refine QF.gy rfl rfl rfl ?_
                refine QF.pick rfl rfl rfl ?_
                exact QF.cutn (sb 76 rfl (sb 72 rfl (sb 71 rfl (sb 70 rfl (sb 69 rfl (sb 65 rfl (sb 64 rfl (sb 63 rfl (sb 3 rfl (sb 1 rfl sb0))))))))))
              · skip
                refine QF.gnT rfl rfl rfl rfl rfl ?_
                refine QF.gnT rfl rfl rfl rfl rfl ?_
                refine QF.gnT rfl rfl rfl rfl rfl ?_
                refine QF.gy rfl rfl rfl ?_
                refine QF.pick rfl rfl rfl ?_
                exact QF.cutn (sb 76 rfl (sb 72 rfl (sb 71 rfl (sb 70 rfl (sb 69 rfl (sb 65 rfl (sb 64 rfl (sb 63 rfl (sb 3 rfl (sb 1 rfl sb0))))))))))
            refine QF.gy rfl rfl rfl ?_
            refine QF.mv rfl rfl ?_
            refine QF.cutv 4 81 (.bool (((decide (p0_l.Kind = 0)) || (decide (p0_l.Kind = 2))) && (decide (p0_l.Den ≠ 0)))) ?_ ?_
            · cases c71 : ((decide (p0_l.Kind = 0)) || (decide (p0_l.Kind = 2)))
              · skip
                refine QF.gnF rfl rfl rfl rfl rfl ?_
                refine QF.gnF rfl rfl rfl rfl rfl ?_
                refine QF.gnF rfl rfl rfl rfl rfl ?_
                refine QF.gy rfl rfl rfl ?_
                refine QF.pick rfl rfl rfl ?_
                exact QF.cutn (sb 81 rfl (sb 77 rfl (sb 76 rfl (sb 72 rfl (sb 71 rfl (sb 70 rfl (sb 69 rfl (sb 65 rfl (sb 64 rfl (sb 63 rfl (sb 3 rfl (sb 1 rfl sb0))))))))))))
              · skip
                refine QF.gy rfl rfl rfl ?_
                refine QF.fa rfl k6 GLink.f_Den fa_85_11 rfl fun q72 k73 => ?_
                refine QF.gy rfl rfl rfl ?_
                refine QF.ldi ckP hs4.1 rfl k73 ty_3 rfl fun r74 => ?_
                refine QF.gy rfl rfl rfl ?_
                refine QF.neq rfl rfl rfl ?_
                refine QF.gy rfl rfl rfl ?_
                refine QF.pick rfl rfl rfl ?_
                exact QF.cutn (sb 81 rfl (sb 77 rfl (sb 76 rfl (sb 72 rfl (sb 71 rfl (sb 70 rfl (sb 69 rfl (sb 65 rfl (sb 64 rfl (sb 63 rfl (sb 3 rfl (sb 1 rfl sb0))))))))))))
            refine QF.pick rfl rfl rfl ?_
            exact QF.cutn (sb 82 rfl (sb 70 rfl (sb 69 rfl (sb 65 rfl (sb 64 rfl (sb 63 rfl (sb 3 rfl (sb 1 rfl sb0))))))))
          · skip
            refine QF.gnT rfl rfl rfl rfl rfl ?_
            refine QF.gnT rfl rfl rfl rfl rfl ?_
            refine QF.gnu rfl rfl rfl rfl rfl ?_
            refine QF.gnu rfl rfl rfl rfl rfl ?_
            refine QF.gnu rfl rfl rfl rfl rfl ?_
            refine QF.gnT rfl rfl rfl rfl rfl ?_
            refine QF.gnT rfl rfl rfl rfl rfl ?_
            refine QF.gnu rfl rfl rfl rfl rfl ?_
            refine QF.gnu rfl rfl rfl rfl rfl ?_
            refine QF.gnu rfl rfl rfl rfl rfl ?_
            refine QF.gnT rfl rfl rfl rfl rfl ?_
            refine QF.pick rfl rfl rfl ?_
            exact QF.cutn (sb 82 rfl (sb 70 rfl (sb 69 rfl (sb 65 rfl (sb 64 rfl (sb 63 rfl (sb 3 rfl (sb 1 rfl sb0))))))))
        refine QF.rpn (sb 82 rfl (sb 3 rfl (sb 1 rfl sb0))) ?_
        refine WF.if_ rfl (fun c75 => ?_) (fun c75 => ?_)
        · skip
          have E := cdT c75 E
          refine WF.seq ?_
          refine WF.rp (.inl rfl) ?_
          refine QF.as_ rfl rfl ?_
          refine QF.rpn (sb 2 rfl sb0) ?_
          refine WF.ret (fun aa ww hf hw => ?_)
          cases E
          exact rtg hf rfl hw (rvc (rvT hf (v := _) rfl) rv0) rfl e5 ⟨rfl, hs4⟩
        · skip
          have E := cdF c75 E
          refine WF.skip ?_
          refine WF.seq ?_
          refine WF.seq ?_
          refine WF.rp (.inl rfl) ?_
          refine QF.fa rfl k6 GLink.f_Kind fa_85_1 rfl fun q76 k77 => ?_
          refine QF.ldi ckP hs4.1 rfl k77 ty_3 rfl fun r78 => ?_
          refine QF.neq rfl rfl rfl ?_
          refine QF.mv rfl rfl ?_
          refine QF.cutv 9 95 (.bool ((decide (p0_l.Kind ≠ 3)) && ((decide (p0_l.Prime ≠ 0)) || (decide (p0_l.Break ≠ 0))))) ?_ ?_
          · cases c79 : (decide (p0_l.Kind ≠ 3))
            · skip
              refine QF.gnF rfl rfl rfl rfl rfl ?_
              refine QF.gnF rfl rfl rfl rfl rfl ?_
              refine QF.gnF rfl rfl rfl rfl rfl ?_
              refine QF.gnF rfl rfl rfl rfl rfl ?_
              refine QF.gnu rfl rfl rfl rfl rfl ?_
              refine QF.gnu rfl rfl rfl rfl rfl ?_
              refine QF.gnu rfl rfl rfl rfl rfl ?_
              refine QF.gnF rfl rfl rfl rfl rfl ?_
              refine QF.pick rfl rfl rfl ?_
              exact QF.cutn (sb 95 rfl (sb 86 rfl (sb 85 rfl (sb 84 rfl (sb 83 rfl (sb 82 rfl (sb 3 rfl (sb 1 rfl sb0))))))))
            · skip
              refine QF.gy rfl rfl rfl ?_
              refine QF.fa rfl k6 GLink.f_Prime fa_85_12 rfl fun q80 k81 => ?_
              refine QF.gy rfl rfl rfl ?_
              refine QF.ldi ckP hs4.1 rfl k81 ty_3 rfl fun r82 => ?_
              refine QF.gy rfl rfl rfl ?_
              refine QF.neq rfl rfl rfl ?_
              refine QF.gy rfl rfl rfl ?_
              refine QF.mv rfl rfl ?_
              refine QF.cutv 4 94 (.bool ((decide (p0_l.Prime ≠ 0)) || (decide (p0_l.Break ≠ 0)))) ?_ ?_
              · cases c83 : (decide (p0_l.Prime ≠ 0))
                · skip
                  refine QF.gy rfl rfl rfl ?_
                  refine QF.fa rfl k6 GLink.f_Break fa_85_13 rfl fun q84 k85 => ?_
                  refine QF.gy rfl rfl rfl ?_
                  refine QF.ldi ckP hs4.1 rfl k85 ty_3 rfl fun r86 => ?_
                  refine QF.gy rfl rfl rfl ?_
                  refine QF.neq rfl rfl rfl ?_
                  refine QF.gy rfl rfl rfl ?_
                  refine QF.pick rfl rfl rfl ?_
                  exact QF.cutn (sb 94 rfl (sb 90 rfl (sb 89 rfl (sb 88 rfl (sb 87 rfl (sb 86 rfl (sb 85 rfl (sb 84 rfl (sb 83 rfl (sb 82 rfl (sb 3 rfl (sb 1 rfl sb0))))))))))))
                · skip
                  refine QF.gnT rfl rfl rfl rfl rfl ?_
                  refine QF.gnT rfl rfl rfl rfl rfl ?_
                  refine QF.gnT rfl rfl rfl rfl rfl ?_
                  refine QF.gy rfl rfl rfl ?_
                  refine QF.pick rfl rfl rfl ?_
                  exact QF.cutn (sb 94 rfl (sb 90 rfl (sb 89 rfl (sb 88 rfl (sb 87 rfl (sb 86 rfl (sb 85 rfl (sb 84 rfl (sb 83 rfl (sb 82 rfl (sb 3 rfl (sb 1 rfl sb0))))))))))))
              refine QF.pick rfl rfl rfl ?_
              exact QF.cutn (sb 95 rfl (sb 86 rfl (sb 85 rfl (sb 84 rfl (sb 83 rfl (sb 82 rfl (sb 3 rfl (sb 1 rfl sb0))))))))
          refine QF.rpn (sb 95 rfl (sb 3 rfl (sb 1 rfl sb0))) ?_
          refine WF.if_ rfl (fun c87 => ?_) (fun c87 => ?_)
          · skip
            have E := cdT c87 E
            refine WF.seq ?_
            refine WF.rp (.inl rfl) ?_
            refine QF.as_ rfl rfl ?_
            refine QF.rpn (sb 2 rfl sb0) ?_
            refine WF.ret (fun aa ww hf hw => ?_)
            cases E
            exact rtg hf rfl hw (rvc (rvT hf (v := _) rfl) rv0) rfl e5 ⟨rfl, hs4⟩
          · skip
            have E := cdF c87 E
            refine WF.skip ?_
            refine WF.seq ?_
            refine WF.rp (.inl rfl) ?_
            refine QF.mv rfl rfl ?_
            refine QF.mv rfl rfl ?_
            refine QF.cutv 4 101 (.bool ((decide (p0_l.Kind = 0)) || (decide (p0_l.Kind = 4)))) ?_ ?_
            · cases c88 : (decide (p0_l.Kind = 0))
              · skip
                refine QF.gy rfl rfl rfl ?_
                refine QF.fa rfl k6 GLink.f_Kind fa_85_1 rfl fun q89 k90 => ?_
                refine QF.gy rfl rfl rfl ?_
                refine QF.ldi ckP hs4.1 rfl k90 ty_3 rfl fun r91 => ?_
                refine QF.gy rfl rfl rfl ?_
                refine QF.eql rfl rfl rfl ?_
                refine QF.pick rfl rfl rfl ?_
                exact QF.cutn (sb 101 rfl (sb 97 rfl (sb 96 rfl (sb 95 rfl (sb 3 rfl (sb 1 rfl sb0))))))
              · skip
                refine QF.gnT rfl rfl rfl rfl rfl ?_
                refine QF.gnT rfl rfl rfl rfl rfl ?_
                refine QF.gnT rfl rfl rfl rfl rfl ?_
                refine QF.pick rfl rfl rfl ?_
                exact QF.cutn (sb 101 rfl (sb 97 rfl (sb 96 rfl (sb 95 rfl (sb 3 rfl (sb 1 rfl sb0))))))
            refine QF.mv rfl rfl ?_
            refine QF.cutv 9 111 (.bool (((decide (p0_l.Kind = 0)) || (decide (p0_l.Kind = 4))) || ((decide (p0_l.BackNum = 0)) && (decide (p0_l.BackDen = 0))))) ?_ ?_
            · cases c92 : ((decide (p0_l.Kind = 0)) || (decide (p0_l.Kind = 4)))
              · skip
                refine QF.gy rfl rfl rfl ?_
                refine QF.fa rfl k6 GLink.f_BackNum fa_85_14 rfl fun q93 k94 => ?_
                refine QF.gy rfl rfl rfl ?_
                refine QF.ldi ckP hs4.1 rfl k94 ty_3 rfl fun r95 => ?_
                refine QF.gy rfl rfl rfl ?_
                refine QF.eql rfl rfl rfl ?_
                refine QF.gy rfl rfl rfl ?_
                refine QF.mv rfl rfl ?_
                refine QF.cutv 4 110 (.bool ((decide (p0_l.BackNum = 0)) && (decide (p0_l.BackDen = 0)))) ?_ ?_
                · cases c96 : (decide (p0_l.BackNum = 0))
                  · skip
                    refine QF.gnF rfl rfl rfl rfl rfl ?_
                    refine QF.gnF rfl rfl rfl rfl rfl ?_
                    refine QF.gnF rfl rfl rfl rfl rfl ?_
                    refine QF.gy rfl rfl rfl ?_
                    refine QF.pick rfl rfl rfl ?_
                    exact QF.cutn (sb 110 rfl (sb 106 rfl (sb 105 rfl (sb 104 rfl (sb 103 rfl (sb 102 rfl (sb 101 rfl (sb 97 rfl (sb 96 rfl (sb 95 rfl (sb 3 rfl (sb 1 rfl sb0))))))))))))
                  · skip
                    refine QF.gy rfl rfl rfl ?_
                    refine QF.fa rfl k6 GLink.f_BackDen fa_85_15 rfl fun q97 k98 => ?_
                    refine QF.gy rfl rfl rfl ?_
                    refine QF.ldi ckP hs4.1 rfl k98 ty_3 rfl fun r99 => ?_
                    refine QF.gy rfl rfl rfl ?_
                    refine QF.eql rfl rfl rfl ?_
                    refine QF.gy rfl rfl rfl ?_
                    refine QF.pick rfl rfl rfl ?_
                    exact QF.cutn (sb 110 rfl (sb 106 rfl (sb 105 rfl (sb 104 rfl (sb 103 rfl (sb 102 rfl (sb 101 rfl (sb 97 rfl (sb 96 rfl (sb 95 rfl (sb 3 rfl (sb 1 rfl sb0))))))))))))
                refine QF.pick rfl rfl rfl ?_
                exact QF.cutn (sb 111 rfl (sb 102 rfl (sb 101 rfl (sb 97 rfl (sb 96 rfl (sb 95 rfl (sb 3 rfl (sb 1 rfl sb0))))))))
              · skip
                refine QF.gnT rfl rfl rfl rfl rfl ?_
                refine QF.gnT rfl rfl rfl rfl rfl ?_
                refine QF.gnT rfl rfl rfl rfl rfl ?_
                refine QF.gnT rfl rfl rfl rfl rfl ?_
                refine QF.gnu rfl rfl rfl rfl rfl ?_
                refine QF.gnu rfl rfl rfl rfl rfl ?_
                refine QF.gnu rfl rfl rfl rfl rfl ?_
                refine QF.gnT rfl rfl rfl rfl rfl ?_
                refine QF.pick rfl rfl rfl ?_
                exact QF.cutn (sb 111 rfl (sb 102 rfl (sb 101 rfl (sb 97 rfl (sb 96 rfl (sb 95 rfl (sb 3 rfl (sb 1 rfl sb0))))))))
            refine QF.as_ rfl rfl ?_
            refine QF.rpn (sb 2 rfl sb0) ?_
            refine WF.ret (fun aa ww hf hw => ?_)
            cases E
            exact rtg hf rfl hw (rvc (rvT hf (v := _) rfl) rv0) rfl e5 ⟨rfl, hs4⟩

end Go.Proofs.Ytibidnaedddfdaa
