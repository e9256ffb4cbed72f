/- The law AlarmTells holds for every input. No conditions. -/
import Derived.Test.YtgnjppialaajcaaAlarm1
import Derived.Test.YtgnjppialaajcaaCore9
namespace Go.Proofs.Ytgnjppialaajcaa
open Go.ChangeShapes Go.WideShapes Go.ChangeAt Go.RowKit
set_option linter.unusedSimpArgs false
set_option linter.unusedVariables false

namespace tells
theorem opens_9 : Opens Try.prog 9 Rep.str := opens_str (by kernel_rfl) Try.underlying9
theorem opens_3 : Opens Try.prog 3 Rep.int := opens_int (by kernel_rfl) Try.underlying3
theorem opens_23 : Opens Try.prog 23 RGTown := by
  have hc : Try.prog.cellsOf 23 = 7 := by kernel_rfl
  refine ⟨hc, fun {H enc w base spare held fuel cs x} h => ?_⟩
  obtain ⟨hl, hf⟩ := open_fields Try.underlying23 h
  rw [hc] at hl
  match cs, hl with
  | [c0, c1, c2, c3, c4, c5, c6], _ =>
    obtain ⟨y0, k0⟩ := hf 0 _ Rep.str rfl opens_9
    obtain ⟨e0, r0⟩ := k0
    obtain rfl : c0 = _ := (List.cons.inj (show [c0] = _ from e0)).1
    obtain ⟨y1, k1⟩ := hf 1 _ Rep.int rfl opens_3
    obtain ⟨e1, r1⟩ := k1
    obtain rfl : c1 = _ := (List.cons.inj (show [c1] = _ from e1)).1
    obtain ⟨y2, k2⟩ := hf 2 _ Rep.int rfl opens_3
    obtain ⟨e2, r2⟩ := k2
    obtain rfl : c2 = _ := (List.cons.inj (show [c2] = _ from e2)).1
    obtain ⟨y3, k3⟩ := hf 3 _ Rep.int rfl opens_3
    obtain ⟨e3, r3⟩ := k3
    obtain rfl : c3 = _ := (List.cons.inj (show [c3] = _ from e3)).1
    obtain ⟨y4, k4⟩ := hf 4 _ Rep.int rfl opens_3
    obtain ⟨e4, r4⟩ := k4
    obtain rfl : c4 = _ := (List.cons.inj (show [c4] = _ from e4)).1
    obtain ⟨y5, k5⟩ := hf 5 _ Rep.int rfl opens_3
    obtain ⟨e5, r5⟩ := k5
    obtain rfl : c5 = _ := (List.cons.inj (show [c5] = _ from e5)).1
    obtain ⟨y6, k6⟩ := hf 6 _ Rep.int rfl opens_3
    obtain ⟨e6, r6⟩ := k6
    obtain rfl : c6 = _ := (List.cons.inj (show [c6] = _ from e6)).1
    exact ⟨⟨y0, y1, y2, y3, y4, y5, y6⟩, ⟨rfl, ⟨r0, r1, r2, r3, r4, r5, r6⟩⟩⟩
theorem opens_25 : Opens Try.prog 25 RGAlarm := by
  have hc : Try.prog.cellsOf 25 = 3 := by kernel_rfl
  refine ⟨hc, fun {H enc w base spare held fuel cs x} h => ?_⟩
  obtain ⟨hl, hf⟩ := open_fields Try.underlying25 h
  rw [hc] at hl
  match cs, hl with
  | [c0, c1, c2], _ =>
    obtain ⟨y0, k0⟩ := hf 0 _ Rep.int rfl opens_3
    obtain ⟨e0, r0⟩ := k0
    obtain rfl : c0 = _ := (List.cons.inj (show [c0] = _ from e0)).1
    obtain ⟨y1, k1⟩ := hf 1 _ Rep.int rfl opens_3
    obtain ⟨e1, r1⟩ := k1
    obtain rfl : c1 = _ := (List.cons.inj (show [c1] = _ from e1)).1
    obtain ⟨y2, k2⟩ := hf 2 _ Rep.int rfl opens_3
    obtain ⟨e2, r2⟩ := k2
    obtain rfl : c2 = _ := (List.cons.inj (show [c2] = _ from e2)).1
    exact ⟨⟨y0, y1, y2⟩, ⟨rfl, ⟨r0, r1, r2⟩⟩⟩
theorem opens_4 : Opens Try.prog 4 Rep.bool := opens_bool (by kernel_rfl) Try.underlying4
theorem opens_32 : Opens Try.prog 32 RGSight := by
  have hc : Try.prog.cellsOf 32 = 2 := by kernel_rfl
  refine ⟨hc, fun {H enc w base spare held fuel cs x} h => ?_⟩
  obtain ⟨hl, hf⟩ := open_fields Try.underlying32 h
  rw [hc] at hl
  match cs, hl with
  | [c0, c1], _ =>
    obtain ⟨y0, k0⟩ := hf 0 _ Rep.int rfl opens_3
    obtain ⟨e0, r0⟩ := k0
    obtain rfl : c0 = _ := (List.cons.inj (show [c0] = _ from e0)).1
    obtain ⟨y1, k1⟩ := hf 1 _ Rep.bool rfl opens_4
    obtain rfl : c1 = _ := (List.cons.inj (show [c1] = _ from k1)).1
    exact ⟨⟨y0, y1⟩, ⟨rfl, r0⟩⟩
theorem opens_26 : Opens Try.prog 26 (Rep.sl RGSight) := opens_sl (by kernel_rfl) Try.underlying26 opens_32 rfl

set_option maxRecDepth 100000 in
theorem tells_holds_lifted (os : Os) (started : os.Started) (H : Type) (enc : TypeId × Value → H) :
    ReturnsInHanded {} Try.checked os 3 .any (Rows.alarmTellsSpec.pre6 enc Try.prog Try.f3 Rows.alarmTellsRow.domain false) (Rows.alarmTellsSpec.post enc Try.prog Try.f3 false true false false) := by
  refine returnsInHanded_of_change (C := Try.checked) (by kernel_rfl) started (by kernel_rfl) Try.func3
    (ChangeSpec.witness6 (enc := enc) (C := Try.checked) false ⟨#[], #[.agg #[.string ByteArray.empty, .int .i64 0, .int .i64 0, .int .i64 0, .int .i64 0, .int .i64 0, .int .i64 0], .agg #[.int .i64 0, .int .i64 0, .int .i64 0], .slice none 0 0], []⟩ 8 (by kernel_rfl) (by kernel_rfl) (by kernel_rfl) (by kernel_rfl)) ?_
  intro W base args ds gs before hval0 hW hcnd _
  have hval : ∀ (j : Nat) t v, Try.f3.params[j]? = some t → args[j]? = some v → Value.okWide Try.prog W .any base t v := hval0
  have hW' := hW
  obtain ⟨p, q, hA0, hV, rfl, hfz, hnd⟩ := hW
  have hA : DataW.TrodAll enc Try.prog W 0 (fun _ => true) true Try.f3.params.toList args.toList ds p := hA0
  rw [Try.params3] at hA hval
  obtain ⟨v0, vs0, d0, ds0, p0, q0, ha0, rfl, rfl, h0, r0⟩ := trodAll_cons hA
  obtain ⟨v1, vs1, d1, ds1, p1, q1, rfl, rfl, rfl, h1, r1⟩ := trodAll_cons r0
  obtain ⟨v2, vs2, d2, ds2, p2, q2, rfl, rfl, rfl, h2, r2⟩ := trodAll_cons r1
  obtain ⟨rfl, rfl, rfl⟩ := trodAll_nil r2
  obtain rfl : args = #[v0, v1, v2] := by cases args; simp_all
  obtain ⟨rfl, rfl⟩ := trodVars_none hV
  obtain ⟨x0, k0⟩ := arg_st opens_23 rfl Try.underlying23 (hval 0 23 v0 rfl rfl) h0
  obtain ⟨x1, k1⟩ := arg_st opens_25 rfl Try.underlying25 (hval 1 25 v1 rfl rfl) h1
  obtain ⟨x2, k2⟩ := arg_one opens_26 rfl rfl (ne_slice Try.underlying26 (hval 2 26 v2 rfl rfl)) h2
  refine (law_calls (tells_ret (St.all W.heap) k0 k1 k2.sl)).mono fun e W' ⟨he, hb⟩ => ⟨_, he, ?_⟩
  exact law_post (tb := 4) (by kernel_rfl) (by kernel_rfl) hW' (by kernel_rfl) Try.underlying4 rfl rfl rfl rfl hb

theorem tells_holds : Rows.AlarmTellsSaid :=
  OpenClaim.holds_of_wide 3 Try.f3 rfl rfl rfl rfl rfl rfl rfl ⟨rfl, rfl, rfl, rfl, rfl⟩ rfl rfl rfl rfl rfl (by kernel_rfl) Try.func3 (by kernel_rfl)
    (of_decide_eq_true (by kernel_rfl)) (by unfold Func.isWrapper; first | (rw [if_pos (by decide +kernel)]; kernel_rfl) | (rw [if_neg (by decide +kernel)]; exact ⟨rfl, rfl⟩))
    (fun os started H enc _ => tells_holds_lifted os started H enc)
end tells
end Go.Proofs.Ytgnjppialaajcaa
