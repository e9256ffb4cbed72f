/- The law HarmOrders holds for every input. No conditions. -/
import Derived.Test.YtkbooafdccnkeaaWalk2
import Derived.Test.YtkbooafdccnkeaaPure
import Derived.Test.YtkbooafdccnkeaaCore9
namespace Go.Proofs.Ytkbooafdccnkeaa
open Go.ChangeShapes Go.WideShapes Go.ChangeAt Go.RowKit
set_option linter.unusedVariables false
set_option linter.unusedSimpArgs false

namespace horders
theorem horders_ret {S : Nat → Prop} {L : List HP} {h : Heap} (hs : St S L h) {v0 : Value} {x0 : GHarm} (k0 : Rd S h RGHarm v0 x0) {v1 : Value} {x1 : GHarm} (k1 : Rd S h RGHarm v1 x1) {v2 : Value} {x2 : GHarm} (k2 : Rd S h RGHarm v2 x2) : Ret Try.prog 4 #[v0, v1, v2] S h (fun v S' h' => v = .bool true ∧ St S' L h') :=
  bournelaw33_HarmOrders_ret hs k0 k1 k2 (orders_plain (RGHarm.ex k0).2 (RGHarm.ex k1).2 (RGHarm.ex k2).2)

theorem opens_3 : Opens Try.prog 3 Rep.int := opens_int (by kernel_rfl) Try.underlying3
theorem opens_25 : Opens Try.prog 25 RGHarm := by
  have hc : Try.prog.cellsOf 25 = 4 := by kernel_rfl
  refine ⟨hc, fun {H enc w base spare held fuel cs x} h => ?_⟩
  obtain ⟨hl, hf⟩ := open_fields Try.underlying25 h
  rw [hc] at hl
  match cs, hl with
  | [c0, c1, c2, c3], _ =>
    obtain ⟨y0, k0⟩ := hf 0 _ Rep.int rfl opens_3
    obtain ⟨e0, r0⟩ := k0
    obtain rfl : c0 = _ := (List.cons.inj (show [c0] = _ from e0)).1
    obtain ⟨y1, k1⟩ := hf 1 _ Rep.int rfl opens_3
    obtain ⟨e1, r1⟩ := k1
    obtain rfl : c1 = _ := (List.cons.inj (show [c1] = _ from e1)).1
    obtain ⟨y2, k2⟩ := hf 2 _ Rep.int rfl opens_3
    obtain ⟨e2, r2⟩ := k2
    obtain rfl : c2 = _ := (List.cons.inj (show [c2] = _ from e2)).1
    obtain ⟨y3, k3⟩ := hf 3 _ Rep.int rfl opens_3
    obtain ⟨e3, r3⟩ := k3
    obtain rfl : c3 = _ := (List.cons.inj (show [c3] = _ from e3)).1
    exact ⟨⟨y0, y1, y2, y3⟩, ⟨rfl, ⟨r0, r1, r2, r3⟩⟩⟩

set_option maxRecDepth 100000 in
theorem horders_holds_lifted (os : Os) (started : os.Started) (H : Type) (enc : TypeId × Value → H) :
    ReturnsInHanded {} Try.checked os 4 .any (Rows.harmOrdersSpec.pre6 enc Try.prog Try.f4 Rows.harmOrdersRow.domain false) (Rows.harmOrdersSpec.post enc Try.prog Try.f4 false true false false) := by
  refine returnsInHanded_of_change (C := Try.checked) (by kernel_rfl) started (by kernel_rfl) Try.func4
    (ChangeSpec.witness6 (enc := enc) (C := Try.checked) false ⟨#[], #[.agg #[.int .i64 0, .int .i64 0, .int .i64 0, .int .i64 0], .agg #[.int .i64 0, .int .i64 0, .int .i64 0, .int .i64 0], .agg #[.int .i64 0, .int .i64 0, .int .i64 0, .int .i64 0]], []⟩ 8 (by kernel_rfl) (by kernel_rfl) (by kernel_rfl) (by kernel_rfl)) ?_
  intro W base args ds gs before hval0 hW hcnd _
  have hval : ∀ (j : Nat) t v, Try.f4.params[j]? = some t → args[j]? = some v → Value.okWide Try.prog W .any base t v := hval0
  have hW' := hW
  obtain ⟨p, q, hA0, hV, rfl, hfz, hnd⟩ := hW
  have hA : DataW.TrodAll enc Try.prog W 0 (fun _ => true) true Try.f4.params.toList args.toList ds p := hA0
  rw [Try.params4] at hA hval
  obtain ⟨v0, vs0, d0, ds0, p0, q0, ha0, rfl, rfl, h0, r0⟩ := trodAll_cons hA
  obtain ⟨v1, vs1, d1, ds1, p1, q1, rfl, rfl, rfl, h1, r1⟩ := trodAll_cons r0
  obtain ⟨v2, vs2, d2, ds2, p2, q2, rfl, rfl, rfl, h2, r2⟩ := trodAll_cons r1
  obtain ⟨rfl, rfl, rfl⟩ := trodAll_nil r2
  obtain rfl : args = #[v0, v1, v2] := by cases args; simp_all
  obtain ⟨rfl, rfl⟩ := trodVars_none hV
  obtain ⟨x0, k0⟩ := arg_st opens_25 rfl Try.underlying25 (hval 0 25 v0 rfl rfl) h0
  obtain ⟨x1, k1⟩ := arg_st opens_25 rfl Try.underlying25 (hval 1 25 v1 rfl rfl) h1
  obtain ⟨x2, k2⟩ := arg_st opens_25 rfl Try.underlying25 (hval 2 25 v2 rfl rfl) h2
  refine (law_calls (horders_ret (St.all W.heap) k0 k1 k2)).mono fun e W' ⟨he, hb⟩ => ⟨_, he, ?_⟩
  exact law_post (tb := 4) (by kernel_rfl) (by kernel_rfl) hW' (by kernel_rfl) Try.underlying4 rfl rfl rfl rfl hb

theorem horders_holds : Rows.HarmOrdersSaid :=
  OpenClaim.holds_of_wide 4 Try.f4 rfl rfl rfl rfl rfl rfl rfl ⟨rfl, rfl, rfl, rfl, rfl⟩ rfl rfl rfl rfl rfl (by kernel_rfl) Try.func4 (by kernel_rfl)
    (of_decide_eq_true (by kernel_rfl)) (by unfold Func.isWrapper; first | (rw [if_pos (by decide +kernel)]; kernel_rfl) | (rw [if_neg (by decide +kernel)]; exact ⟨rfl, rfl⟩))
    (fun os started H enc _ => horders_holds_lifted os started H enc)
end horders
end Go.Proofs.Ytkbooafdccnkeaa
