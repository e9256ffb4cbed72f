/- The law HarmWorst holds for every input. No conditions. -/
import Derived.Test.YtkbooafdccnkeaaWalk2
import Derived.Test.YtkbooafdccnkeaaPureW
import Derived.Test.YtkbooafdccnkeaaCore9
namespace Go.Proofs.Ytkbooafdccnkeaa
open Go.ChangeShapes Go.WideShapes Go.ChangeAt Go.RowKit
set_option linter.unusedVariables false
set_option linter.unusedSimpArgs false

namespace hworst
theorem hworst_ret {S : Nat → Prop} {L : List HP} {h : Heap} (hs : St S L h) {v0 : Value} {x0 : (List GHarm)} (k0 : Sl S h RGHarm v0 x0) : Ret Try.prog 3 #[v0] S h (fun v S' h' => v = .bool true ∧ St S' L h') :=
  bournelaw33_HarmWorst_ret hs k0 (worst_plain x0)

theorem opens_3 : Opens Try.prog 3 Rep.int := opens_int (by kernel_rfl) Try.underlying3
theorem opens_25 : Opens Try.prog 25 RGHarm := by
  have hc : Try.prog.cellsOf 25 = 4 := by kernel_rfl
  refine ⟨hc, fun {H enc w base spare held fuel cs x} h => ?_⟩
  obtain ⟨hl, hf⟩ := open_fields Try.underlying25 h
  rw [hc] at hl
  match cs, hl with
  | [c0, c1, c2, c3], _ =>
    obtain ⟨y0, k0⟩ := hf 0 _ Rep.int rfl opens_3
    obtain ⟨e0, r0⟩ := k0
    obtain rfl : c0 = _ := (List.cons.inj (show [c0] = _ from e0)).1
    obtain ⟨y1, k1⟩ := hf 1 _ Rep.int rfl opens_3
    obtain ⟨e1, r1⟩ := k1
    obtain rfl : c1 = _ := (List.cons.inj (show [c1] = _ from e1)).1
    obtain ⟨y2, k2⟩ := hf 2 _ Rep.int rfl opens_3
    obtain ⟨e2, r2⟩ := k2
    obtain rfl : c2 = _ := (List.cons.inj (show [c2] = _ from e2)).1
    obtain ⟨y3, k3⟩ := hf 3 _ Rep.int rfl opens_3
    obtain ⟨e3, r3⟩ := k3
    obtain rfl : c3 = _ := (List.cons.inj (show [c3] = _ from e3)).1
    exact ⟨⟨y0, y1, y2, y3⟩, ⟨rfl, ⟨r0, r1, r2, r3⟩⟩⟩
theorem opens_22 : Opens Try.prog 22 (Rep.sl RGHarm) := opens_sl (by kernel_rfl) Try.underlying22 opens_25 rfl

set_option maxRecDepth 100000 in
theorem hworst_holds_lifted (os : Os) (started : os.Started) (H : Type) (enc : TypeId × Value → H) :
    ReturnsInHanded {} Try.checked os 3 .any (Rows.harmWorstSpec.pre6 enc Try.prog Try.f3 Rows.harmWorstRow.domain false) (Rows.harmWorstSpec.post enc Try.prog Try.f3 false true false false) := by
  refine returnsInHanded_of_change (C := Try.checked) (by kernel_rfl) started (by kernel_rfl) Try.func3
    (ChangeSpec.witness6 (enc := enc) (C := Try.checked) false ⟨#[], #[.slice none 0 0], []⟩ 8 (by kernel_rfl) (by kernel_rfl) (by kernel_rfl) (by kernel_rfl)) ?_
  intro W base args ds gs before hval0 hW hcnd _
  have hval : ∀ (j : Nat) t v, Try.f3.params[j]? = some t → args[j]? = some v → Value.okWide Try.prog W .any base t v := hval0
  have hW' := hW
  obtain ⟨p, q, hA0, hV, rfl, hfz, hnd⟩ := hW
  have hA : DataW.TrodAll enc Try.prog W 0 (fun _ => true) true Try.f3.params.toList args.toList ds p := hA0
  rw [Try.params3] at hA hval
  obtain ⟨v0, vs0, d0, ds0, p0, q0, ha0, rfl, rfl, h0, r0⟩ := trodAll_cons hA
  obtain ⟨rfl, rfl, rfl⟩ := trodAll_nil r0
  obtain rfl : args = #[v0] := by cases args; simp_all
  obtain ⟨rfl, rfl⟩ := trodVars_none hV
  obtain ⟨x0, k0⟩ := arg_one opens_22 rfl rfl (ne_slice Try.underlying22 (hval 0 22 v0 rfl rfl)) h0
  refine (law_calls (hworst_ret (St.all W.heap) k0.sl)).mono fun e W' ⟨he, hb⟩ => ⟨_, he, ?_⟩
  exact law_post (tb := 4) (by kernel_rfl) (by kernel_rfl) hW' (by kernel_rfl) Try.underlying4 rfl rfl rfl rfl hb

theorem hworst_holds : Rows.HarmWorstSaid :=
  OpenClaim.holds_of_wide 3 Try.f3 rfl rfl rfl rfl rfl rfl rfl ⟨rfl, rfl, rfl, rfl, rfl⟩ rfl rfl rfl rfl rfl (by kernel_rfl) Try.func3 (by kernel_rfl)
    (of_decide_eq_true (by kernel_rfl)) (by unfold Func.isWrapper; first | (rw [if_pos (by decide +kernel)]; kernel_rfl) | (rw [if_neg (by decide +kernel)]; exact ⟨rfl, rfl⟩))
    (fun os started H enc _ => hworst_holds_lifted os started H enc)
end hworst
end Go.Proofs.Ytkbooafdccnkeaa
