/-
  No cell of these rows narrows 'for every input' (looked for: loops, veiled, ifaces, maps, wideKeys, modest, calm, conditions, laid).
  DERIVED. THE GIVEN ROWS OF THIS SEAT. 6 by the template 'for every input the law returns true; each argument reads behind the call as it read before'; 0 by the template 'total and deterministic' (their statements: YtedgiljmffngoaaGreatTotals.lean).
  GIVEN WITH THE SEED: the statements are not yours to turn. If you find one false, say at which input.
  Laid BY PROGRAM, IN A SANDBOX (cutbox-rows.mjs): the forced cells as the released guide's own fill.sh prints them over the translation 9dca308919adf2ff… (all of the seat's roots in one cut). By AI agents, Wed Nov 11 2026. No macro, syntax, notation, axiom, sorry.
-/
import Derived.Test.YtedgiljmffngoaaGreatChecked
import GoSem.Claim
import GoSem.ClaimJoined
import GoSem.ClaimMapViews
import Derived.JoinedTies
import Derived.KernelRfl
namespace Go.Proofs.YtedgiljmffngoaaGreat
/- THE CELL 'sum', in the pinned program and in every row, IS THE sha256 OF THE DUMP (.gsa) THAT YtedgiljmffngoaaGreatProg.lean LOADS. Nothing in Lean hashes anything: it is a label: what it is worth is what the hold of that sum in a sandbox is worth. -/
noncomputable def Tryz.pinned : Pinned := { name := "ytedgiljmffngoaagreat", sum := "9dca308919adf2ff6f76d85aaef2e33de794953ff4c582ff7e4ba5af7229c4e6", checked := Tryz.checked }
namespace Rows
def none {H : Type} : Left H := { results := [], args := [] }

/-- 'bournelaw34.PlanGrows': WHATEVER THE INPUT: true; the input reads as it did. -/
def planGrowsSpec : ChangeSpec := { name := "planGrows", fn := fun _ => fun
  | [d1, d2, d3, d4, d5, d6, d7] => { results := [.lit (.bool true)], args := [d1, d2, d3, d4, d5, d6, d7] }
  | _ => none }
def planGrowsRow : OpenClaim := { program := "ytedgiljmffngoaagreat", sum := "9dca308919adf2ff6f76d85aaef2e33de794953ff4c582ff7e4ba5af7229c4e6", func := "bourne/bournelaw34.PlanGrows", spec := "planGrows", inPlace := ["slices.overlaps[bourne/api.Sum]"], unfollowed := true, recurses := true, named := ["math/bits.divideError", "math/bits.overflowError"], plainKeys := false, apart := false }
def PlanGrowsSaid : Prop := planGrowsRow.holds Tryz.pinned (OpenSpec.ofChange planGrowsSpec)

/-- ITS FALSE NEIGHBOUR: 'it returns false'. Refute it at one input. -/
def planGrowsWrong : ChangeSpec := { name := "planGrows", fn := fun _ => fun
  | [d1, d2, d3, d4, d5, d6, d7] => { results := [.lit (.bool false)], args := [d1, d2, d3, d4, d5, d6, d7] }
  | _ => none }
def PlanGrowsWrongFalsely : Prop := planGrowsRow.holds Tryz.pinned (OpenSpec.ofChange planGrowsWrong)

/-- 'bournelaw33.HarmCovers': WHATEVER THE INPUT: true; the input reads as it did. -/
def harmCoversSpec : ChangeSpec := { name := "harmCovers", fn := fun _ => fun
  | [d1, d2, d3, d4, d5] => { results := [.lit (.bool true)], args := [d1, d2, d3, d4, d5] }
  | _ => none }
def harmCoversRow : OpenClaim := { program := "ytedgiljmffngoaagreat", sum := "9dca308919adf2ff6f76d85aaef2e33de794953ff4c582ff7e4ba5af7229c4e6", func := "bourne/bournelaw33.HarmCovers", spec := "harmCovers", inPlace := ["slices.overlaps[bourne/api.Sum]", "internal/reflectlite.ValueOf", "internal/reflectlite.Swapper", "(internal/reflectlite.Value).Len"], unfollowed := true, recurses := true, named := ["math/bits.divideError", "math/bits.overflowError"], plainKeys := false, apart := false }
def HarmCoversSaid : Prop := harmCoversRow.holds Tryz.pinned (OpenSpec.ofChange harmCoversSpec)

/-- ITS FALSE NEIGHBOUR: 'it returns false'. Refute it at one input. -/
def harmCoversWrong : ChangeSpec := { name := "harmCovers", fn := fun _ => fun
  | [d1, d2, d3, d4, d5] => { results := [.lit (.bool false)], args := [d1, d2, d3, d4, d5] }
  | _ => none }
def HarmCoversWrongFalsely : Prop := harmCoversRow.holds Tryz.pinned (OpenSpec.ofChange harmCoversWrong)

/-- 'bournelaw22.RunConserves': WHATEVER THE INPUT: true; the input reads as it did. -/
def runConservesSpec : ChangeSpec := { name := "runConserves", fn := fun _ => fun
  | [d1, d2, d3, d4] => { results := [.lit (.bool true)], args := [d1, d2, d3, d4] }
  | _ => none }
def runConservesRow : OpenClaim := { program := "ytedgiljmffngoaagreat", sum := "9dca308919adf2ff6f76d85aaef2e33de794953ff4c582ff7e4ba5af7229c4e6", func := "bourne/bournelaw22.RunConserves", spec := "runConserves", inPlace := ["internal/reflectlite.ValueOf", "internal/reflectlite.Swapper", "(internal/reflectlite.Value).Len", "internal/abi.NoEscape", "math/bits.Add64", "math/bits.Sub64"], unfollowed := true, recurses := true, named := ["math/bits.divideError", "math/bits.overflowError"], plainKeys := false, apart := false }
def RunConservesSaid : Prop := runConservesRow.holds Tryz.pinned (OpenSpec.ofChange runConservesSpec)

/-- ITS FALSE NEIGHBOUR: 'it returns false'. Refute it at one input. -/
def runConservesWrong : ChangeSpec := { name := "runConserves", fn := fun _ => fun
  | [d1, d2, d3, d4] => { results := [.lit (.bool false)], args := [d1, d2, d3, d4] }
  | _ => none }
def RunConservesWrongFalsely : Prop := runConservesRow.holds Tryz.pinned (OpenSpec.ofChange runConservesWrong)

/-- 'bournelaw22.RunSplits': WHATEVER THE INPUT: true; the input reads as it did. -/
def runSplitsSpec : ChangeSpec := { name := "runSplits", fn := fun _ => fun
  | [d1, d2, d3, d4] => { results := [.lit (.bool true)], args := [d1, d2, d3, d4] }
  | _ => none }
def runSplitsRow : OpenClaim := { program := "ytedgiljmffngoaagreat", sum := "9dca308919adf2ff6f76d85aaef2e33de794953ff4c582ff7e4ba5af7229c4e6", func := "bourne/bournelaw22.RunSplits", spec := "runSplits", inPlace := ["internal/reflectlite.ValueOf", "internal/reflectlite.Swapper", "(internal/reflectlite.Value).Len", "internal/abi.NoEscape", "math/bits.Add64", "math/bits.Sub64"], unfollowed := true, recurses := true, named := ["math/bits.divideError", "math/bits.overflowError"], plainKeys := false, apart := false }
def RunSplitsSaid : Prop := runSplitsRow.holds Tryz.pinned (OpenSpec.ofChange runSplitsSpec)

/-- ITS FALSE NEIGHBOUR: 'it returns false'. Refute it at one input. -/
def runSplitsWrong : ChangeSpec := { name := "runSplits", fn := fun _ => fun
  | [d1, d2, d3, d4] => { results := [.lit (.bool false)], args := [d1, d2, d3, d4] }
  | _ => none }
def RunSplitsWrongFalsely : Prop := runSplitsRow.holds Tryz.pinned (OpenSpec.ofChange runSplitsWrong)

/-- 'bournelaw22.RunFlows': WHATEVER THE INPUT: true; the input reads as it did. -/
def runFlowsSpec : ChangeSpec := { name := "runFlows", fn := fun _ => fun
  | [d1, d2, d3, d4, d5] => { results := [.lit (.bool true)], args := [d1, d2, d3, d4, d5] }
  | _ => none }
def runFlowsRow : OpenClaim := { program := "ytedgiljmffngoaagreat", sum := "9dca308919adf2ff6f76d85aaef2e33de794953ff4c582ff7e4ba5af7229c4e6", func := "bourne/bournelaw22.RunFlows", spec := "runFlows", inPlace := ["internal/reflectlite.ValueOf", "internal/reflectlite.Swapper", "(internal/reflectlite.Value).Len", "internal/abi.NoEscape", "math/bits.Add64", "math/bits.Sub64"], unfollowed := true, recurses := true, named := ["math/bits.divideError", "math/bits.overflowError"], plainKeys := false, apart := false }
def RunFlowsSaid : Prop := runFlowsRow.holds Tryz.pinned (OpenSpec.ofChange runFlowsSpec)

/-- ITS FALSE NEIGHBOUR: 'it returns false'. Refute it at one input. -/
def runFlowsWrong : ChangeSpec := { name := "runFlows", fn := fun _ => fun
  | [d1, d2, d3, d4, d5] => { results := [.lit (.bool false)], args := [d1, d2, d3, d4, d5] }
  | _ => none }
def RunFlowsWrongFalsely : Prop := runFlowsRow.holds Tryz.pinned (OpenSpec.ofChange runFlowsWrong)

/-- 'bournelaw22.RunPasses': WHATEVER THE INPUT: true; the input reads as it did. -/
def runPassesSpec : ChangeSpec := { name := "runPasses", fn := fun _ => fun
  | [d1, d2, d3] => { results := [.lit (.bool true)], args := [d1, d2, d3] }
  | _ => none }
def runPassesRow : OpenClaim := { program := "ytedgiljmffngoaagreat", sum := "9dca308919adf2ff6f76d85aaef2e33de794953ff4c582ff7e4ba5af7229c4e6", func := "bourne/bournelaw22.RunPasses", spec := "runPasses", inPlace := ["internal/reflectlite.ValueOf", "internal/reflectlite.Swapper", "(internal/reflectlite.Value).Len", "internal/abi.NoEscape", "math/bits.Add64", "math/bits.Sub64"], unfollowed := true, recurses := true, named := ["math/bits.divideError", "math/bits.overflowError"], plainKeys := false, apart := false }
def RunPassesSaid : Prop := runPassesRow.holds Tryz.pinned (OpenSpec.ofChange runPassesSpec)

/-- ITS FALSE NEIGHBOUR: 'it returns false'. Refute it at one input. -/
def runPassesWrong : ChangeSpec := { name := "runPasses", fn := fun _ => fun
  | [d1, d2, d3] => { results := [.lit (.bool false)], args := [d1, d2, d3] }
  | _ => none }
def RunPassesWrongFalsely : Prop := runPassesRow.holds Tryz.pinned (OpenSpec.ofChange runPassesWrong)

/- THE SECOND FORM. 'bulk': how many values and letters a reading holds, each counted each time it is reached (what is shared counts as often as it is met; a slice's spare places count too). A statement '..UptoSaid' is the law's where the arguments, and the package variables that the reading takes, are together of bulk at most 1048576: NARROWER than '..Said'. Prove '..Said' where nothing that the law and all that it calls make is longer than what came in: it says more and counts as full. Else prove '..UptoSaid'. A law counts once. -/
mutual
def uptoBulk {H : Type} : DataW H → Nat
  | .lit (.string bytes) => bytes.length + 1
  | .lit _ => 1
  | .nil => 1
  | .ptr d => uptoBulk d + 1
  | .slice elems spare => uptoBulkAll elems + uptoBulkAll spare + 1
  | .agg parts => uptoBulkAll parts + 1
  | .iface _ d => uptoBulk d + 1
  | .map entries => uptoBulkEntries entries + 1
  | .held _ => 1
def uptoBulkAll {H : Type} : List (DataW H) → Nat
  | [] => 0
  | d :: r => uptoBulk d + uptoBulkAll r
def uptoBulkEntries {H : Type} : List (Lit × DataW H) → Nat
  | [] => 0
  | x :: r => uptoBulkEntry x + uptoBulkEntries r
def uptoBulkEntry {H : Type} : Lit × DataW H → Nat
  | (.string bytes, d) => bytes.length + uptoBulk d + 1
  | (_, d) => uptoBulk d + 1
 end
def uptoSmall : (H : Type) → List (DataW H) → Bool := fun _ ds => decide (uptoBulkAll ds ≤ 1048576)
def OpenSpec.upto (s : _root_.Go.ChangeSpec) : _root_.Go.OpenSpec := { _root_.Go.OpenSpec.ofChange s with cond := some uptoSmall }

/-- 'bournelaw34.PlanGrows', WHERE WHAT IT READS IS OF BULK AT MOST 1048576: true; the input reads as it did. -/
def planGrowsUptoRow : OpenClaim := { program := "ytedgiljmffngoaagreat", sum := "9dca308919adf2ff6f76d85aaef2e33de794953ff4c582ff7e4ba5af7229c4e6", func := "bourne/bournelaw34.PlanGrows", spec := "planGrows", inPlace := ["slices.overlaps[bourne/api.Sum]"], unfollowed := true, recurses := true, named := ["math/bits.divideError", "math/bits.overflowError"], plainKeys := false, apart := false, narrowed := true }
def PlanGrowsUptoSaid : Prop := planGrowsUptoRow.holds Tryz.pinned (OpenSpec.upto planGrowsSpec)

/-- 'bournelaw33.HarmCovers', WHERE WHAT IT READS IS OF BULK AT MOST 1048576: true; the input reads as it did. -/
def harmCoversUptoRow : OpenClaim := { program := "ytedgiljmffngoaagreat", sum := "9dca308919adf2ff6f76d85aaef2e33de794953ff4c582ff7e4ba5af7229c4e6", func := "bourne/bournelaw33.HarmCovers", spec := "harmCovers", inPlace := ["slices.overlaps[bourne/api.Sum]", "internal/reflectlite.ValueOf", "internal/reflectlite.Swapper", "(internal/reflectlite.Value).Len"], unfollowed := true, recurses := true, named := ["math/bits.divideError", "math/bits.overflowError"], plainKeys := false, apart := false, narrowed := true }
def HarmCoversUptoSaid : Prop := harmCoversUptoRow.holds Tryz.pinned (OpenSpec.upto harmCoversSpec)

/-- 'bournelaw22.RunConserves', WHERE WHAT IT READS IS OF BULK AT MOST 1048576: true; the input reads as it did. -/
def runConservesUptoRow : OpenClaim := { program := "ytedgiljmffngoaagreat", sum := "9dca308919adf2ff6f76d85aaef2e33de794953ff4c582ff7e4ba5af7229c4e6", func := "bourne/bournelaw22.RunConserves", spec := "runConserves", inPlace := ["internal/reflectlite.ValueOf", "internal/reflectlite.Swapper", "(internal/reflectlite.Value).Len", "internal/abi.NoEscape", "math/bits.Add64", "math/bits.Sub64"], unfollowed := true, recurses := true, named := ["math/bits.divideError", "math/bits.overflowError"], plainKeys := false, apart := false, narrowed := true }
def RunConservesUptoSaid : Prop := runConservesUptoRow.holds Tryz.pinned (OpenSpec.upto runConservesSpec)

/-- 'bournelaw22.RunSplits', WHERE WHAT IT READS IS OF BULK AT MOST 1048576: true; the input reads as it did. -/
def runSplitsUptoRow : OpenClaim := { program := "ytedgiljmffngoaagreat", sum := "9dca308919adf2ff6f76d85aaef2e33de794953ff4c582ff7e4ba5af7229c4e6", func := "bourne/bournelaw22.RunSplits", spec := "runSplits", inPlace := ["internal/reflectlite.ValueOf", "internal/reflectlite.Swapper", "(internal/reflectlite.Value).Len", "internal/abi.NoEscape", "math/bits.Add64", "math/bits.Sub64"], unfollowed := true, recurses := true, named := ["math/bits.divideError", "math/bits.overflowError"], plainKeys := false, apart := false, narrowed := true }
def RunSplitsUptoSaid : Prop := runSplitsUptoRow.holds Tryz.pinned (OpenSpec.upto runSplitsSpec)

/-- 'bournelaw22.RunFlows', WHERE WHAT IT READS IS OF BULK AT MOST 1048576: true; the input reads as it did. -/
def runFlowsUptoRow : OpenClaim := { program := "ytedgiljmffngoaagreat", sum := "9dca308919adf2ff6f76d85aaef2e33de794953ff4c582ff7e4ba5af7229c4e6", func := "bourne/bournelaw22.RunFlows", spec := "runFlows", inPlace := ["internal/reflectlite.ValueOf", "internal/reflectlite.Swapper", "(internal/reflectlite.Value).Len", "internal/abi.NoEscape", "math/bits.Add64", "math/bits.Sub64"], unfollowed := true, recurses := true, named := ["math/bits.divideError", "math/bits.overflowError"], plainKeys := false, apart := false, narrowed := true }
def RunFlowsUptoSaid : Prop := runFlowsUptoRow.holds Tryz.pinned (OpenSpec.upto runFlowsSpec)

/-- 'bournelaw22.RunPasses', WHERE WHAT IT READS IS OF BULK AT MOST 1048576: true; the input reads as it did. -/
def runPassesUptoRow : OpenClaim := { program := "ytedgiljmffngoaagreat", sum := "9dca308919adf2ff6f76d85aaef2e33de794953ff4c582ff7e4ba5af7229c4e6", func := "bourne/bournelaw22.RunPasses", spec := "runPasses", inPlace := ["internal/reflectlite.ValueOf", "internal/reflectlite.Swapper", "(internal/reflectlite.Value).Len", "internal/abi.NoEscape", "math/bits.Add64", "math/bits.Sub64"], unfollowed := true, recurses := true, named := ["math/bits.divideError", "math/bits.overflowError"], plainKeys := false, apart := false, narrowed := true }
def RunPassesUptoSaid : Prop := runPassesUptoRow.holds Tryz.pinned (OpenSpec.upto runPassesSpec)

end Rows
end Go.Proofs.YtedgiljmffngoaaGreat
