/-
  No cell of these rows narrows 'for every input' (looked for: loops, veiled, ifaces, maps, wideKeys, modest, calm, conditions, laid).
  DERIVED. THE GIVEN ROWS OF THIS SEAT. 6 by the template 'for every input the law returns true; each argument reads behind the call as it read before'; 0 by the template 'total and deterministic' (their statements: YtblcgjadhemlbaaGreatTotals.lean).
  GIVEN WITH THE SEED: the statements are not yours to turn. If you find one false, say at which input.
  Laid BY PROGRAM, IN A SANDBOX (cutbox-rows.mjs): the forced cells as the released guide's own fill.sh prints them over the translation 860b555803c74736… (all of the seat's roots in one cut). By AI agents, Wed Nov 11 2026. No macro, syntax, notation, axiom, sorry.
-/
import Derived.Test.YtblcgjadhemlbaaGreatChecked
import GoSem.Claim
import GoSem.ClaimJoined
import GoSem.ClaimMapViews
import Derived.JoinedTies
import Derived.KernelRfl
namespace Go.Proofs.YtblcgjadhemlbaaGreat
/- THE CELL 'sum', in the pinned program and in every row, IS THE sha256 OF THE DUMP (.gsa) THAT YtblcgjadhemlbaaGreatProg.lean LOADS. Nothing in Lean hashes anything: it is a label: what it is worth is what the hold of that sum in a sandbox is worth. -/
noncomputable def Tryz.pinned : Pinned := { name := "ytblcgjadhemlbaagreat", sum := "860b555803c74736248601c0b52b3195b32bbe2dea7692d7516de1cbf3a4d196", checked := Tryz.checked }
namespace Rows
def none {H : Type} : Left H := { results := [], args := [] }

/-- 'bournelaw21.StepConserves': WHATEVER THE INPUT: true; the input reads as it did. -/
def stepConservesSpec : ChangeSpec := { name := "stepConserves", fn := fun _ => fun
  | [d1, d2, d3] => { results := [.lit (.bool true)], args := [d1, d2, d3] }
  | _ => none }
def stepConservesRow : OpenClaim := { program := "ytblcgjadhemlbaagreat", sum := "860b555803c74736248601c0b52b3195b32bbe2dea7692d7516de1cbf3a4d196", func := "bourne/bournelaw21.StepConserves", spec := "stepConserves", inPlace := ["internal/reflectlite.ValueOf", "internal/reflectlite.Swapper", "(internal/reflectlite.Value).Len"], unfollowed := true, recurses := true, named := ["math/bits.divideError", "math/bits.overflowError"], plainKeys := false, apart := false }
def StepConservesSaid : Prop := stepConservesRow.holds Tryz.pinned (OpenSpec.ofChange stepConservesSpec)

/-- ITS FALSE NEIGHBOUR: 'it returns false'. Refute it at one input. -/
def stepConservesWrong : ChangeSpec := { name := "stepConserves", fn := fun _ => fun
  | [d1, d2, d3] => { results := [.lit (.bool false)], args := [d1, d2, d3] }
  | _ => none }
def StepConservesWrongFalsely : Prop := stepConservesRow.holds Tryz.pinned (OpenSpec.ofChange stepConservesWrong)

/-- 'bournelaw21.StepRight': WHATEVER THE INPUT: true; the input reads as it did. -/
def stepRightSpec : ChangeSpec := { name := "stepRight", fn := fun _ => fun
  | [d1, d2, d3] => { results := [.lit (.bool true)], args := [d1, d2, d3] }
  | _ => none }
def stepRightRow : OpenClaim := { program := "ytblcgjadhemlbaagreat", sum := "860b555803c74736248601c0b52b3195b32bbe2dea7692d7516de1cbf3a4d196", func := "bourne/bournelaw21.StepRight", spec := "stepRight", inPlace := ["internal/reflectlite.ValueOf", "internal/reflectlite.Swapper", "(internal/reflectlite.Value).Len"], unfollowed := true, recurses := true, named := ["math/bits.divideError", "math/bits.overflowError"], plainKeys := false, apart := false }
def StepRightSaid : Prop := stepRightRow.holds Tryz.pinned (OpenSpec.ofChange stepRightSpec)

/-- ITS FALSE NEIGHBOUR: 'it returns false'. Refute it at one input. -/
def stepRightWrong : ChangeSpec := { name := "stepRight", fn := fun _ => fun
  | [d1, d2, d3] => { results := [.lit (.bool false)], args := [d1, d2, d3] }
  | _ => none }
def StepRightWrongFalsely : Prop := stepRightRow.holds Tryz.pinned (OpenSpec.ofChange stepRightWrong)

/-- 'bournelaw21.StepMoves': WHATEVER THE INPUT: true; the input reads as it did. -/
def stepMovesSpec : ChangeSpec := { name := "stepMoves", fn := fun _ => fun
  | [d1, d2, d3] => { results := [.lit (.bool true)], args := [d1, d2, d3] }
  | _ => none }
def stepMovesRow : OpenClaim := { program := "ytblcgjadhemlbaagreat", sum := "860b555803c74736248601c0b52b3195b32bbe2dea7692d7516de1cbf3a4d196", func := "bourne/bournelaw21.StepMoves", spec := "stepMoves", inPlace := ["internal/reflectlite.ValueOf", "internal/reflectlite.Swapper", "(internal/reflectlite.Value).Len"], unfollowed := true, recurses := true, named := ["math/bits.divideError", "math/bits.overflowError"], plainKeys := false, apart := false }
def StepMovesSaid : Prop := stepMovesRow.holds Tryz.pinned (OpenSpec.ofChange stepMovesSpec)

/-- ITS FALSE NEIGHBOUR: 'it returns false'. Refute it at one input. -/
def stepMovesWrong : ChangeSpec := { name := "stepMoves", fn := fun _ => fun
  | [d1, d2, d3] => { results := [.lit (.bool false)], args := [d1, d2, d3] }
  | _ => none }
def StepMovesWrongFalsely : Prop := stepMovesRow.holds Tryz.pinned (OpenSpec.ofChange stepMovesWrong)

/-- 'bournelaw21.StepGates': WHATEVER THE INPUT: true; the input reads as it did. -/
def stepGatesSpec : ChangeSpec := { name := "stepGates", fn := fun _ => fun
  | [d1, d2, d3] => { results := [.lit (.bool true)], args := [d1, d2, d3] }
  | _ => none }
def stepGatesRow : OpenClaim := { program := "ytblcgjadhemlbaagreat", sum := "860b555803c74736248601c0b52b3195b32bbe2dea7692d7516de1cbf3a4d196", func := "bourne/bournelaw21.StepGates", spec := "stepGates", inPlace := ["internal/reflectlite.ValueOf", "internal/reflectlite.Swapper", "(internal/reflectlite.Value).Len"], unfollowed := true, recurses := true, named := ["math/bits.divideError", "math/bits.overflowError"], plainKeys := false, apart := false }
def StepGatesSaid : Prop := stepGatesRow.holds Tryz.pinned (OpenSpec.ofChange stepGatesSpec)

/-- ITS FALSE NEIGHBOUR: 'it returns false'. Refute it at one input. -/
def stepGatesWrong : ChangeSpec := { name := "stepGates", fn := fun _ => fun
  | [d1, d2, d3] => { results := [.lit (.bool false)], args := [d1, d2, d3] }
  | _ => none }
def StepGatesWrongFalsely : Prop := stepGatesRow.holds Tryz.pinned (OpenSpec.ofChange stepGatesWrong)

/-- 'bournelaw21.StepTakes': WHATEVER THE INPUT: true; the input reads as it did. -/
def stepTakesSpec : ChangeSpec := { name := "stepTakes", fn := fun _ => fun
  | [d1, d2, d3] => { results := [.lit (.bool true)], args := [d1, d2, d3] }
  | _ => none }
def stepTakesRow : OpenClaim := { program := "ytblcgjadhemlbaagreat", sum := "860b555803c74736248601c0b52b3195b32bbe2dea7692d7516de1cbf3a4d196", func := "bourne/bournelaw21.StepTakes", spec := "stepTakes", inPlace := ["internal/reflectlite.ValueOf", "internal/reflectlite.Swapper", "(internal/reflectlite.Value).Len"], unfollowed := true, recurses := true, named := ["math/bits.divideError", "math/bits.overflowError"], plainKeys := false, apart := false }
def StepTakesSaid : Prop := stepTakesRow.holds Tryz.pinned (OpenSpec.ofChange stepTakesSpec)

/-- ITS FALSE NEIGHBOUR: 'it returns false'. Refute it at one input. -/
def stepTakesWrong : ChangeSpec := { name := "stepTakes", fn := fun _ => fun
  | [d1, d2, d3] => { results := [.lit (.bool false)], args := [d1, d2, d3] }
  | _ => none }
def StepTakesWrongFalsely : Prop := stepTakesRow.holds Tryz.pinned (OpenSpec.ofChange stepTakesWrong)

/-- 'bournelaw21.StepMore': WHATEVER THE INPUT: true; the input reads as it did. -/
def stepMoreSpec : ChangeSpec := { name := "stepMore", fn := fun _ => fun
  | [d1, d2, d3, d4, d5] => { results := [.lit (.bool true)], args := [d1, d2, d3, d4, d5] }
  | _ => none }
def stepMoreRow : OpenClaim := { program := "ytblcgjadhemlbaagreat", sum := "860b555803c74736248601c0b52b3195b32bbe2dea7692d7516de1cbf3a4d196", func := "bourne/bournelaw21.StepMore", spec := "stepMore", inPlace := ["internal/reflectlite.ValueOf", "internal/reflectlite.Swapper", "(internal/reflectlite.Value).Len"], unfollowed := true, recurses := true, named := ["math/bits.divideError", "math/bits.overflowError"], plainKeys := false, apart := false }
def StepMoreSaid : Prop := stepMoreRow.holds Tryz.pinned (OpenSpec.ofChange stepMoreSpec)

/-- ITS FALSE NEIGHBOUR: 'it returns false'. Refute it at one input. -/
def stepMoreWrong : ChangeSpec := { name := "stepMore", fn := fun _ => fun
  | [d1, d2, d3, d4, d5] => { results := [.lit (.bool false)], args := [d1, d2, d3, d4, d5] }
  | _ => none }
def StepMoreWrongFalsely : Prop := stepMoreRow.holds Tryz.pinned (OpenSpec.ofChange stepMoreWrong)

/- THE SECOND FORM. 'bulk': how many values and letters a reading holds, each counted each time it is reached (what is shared counts as often as it is met; a slice's spare places count too). A statement '..UptoSaid' is the law's where the arguments, and the package variables that the reading takes, are together of bulk at most 1048576: NARROWER than '..Said'. Prove '..Said' where nothing that the law and all that it calls make is longer than what came in: it says more and counts as full. Else prove '..UptoSaid'. A law counts once. -/
mutual
def uptoBulk {H : Type} : DataW H → Nat
  | .lit (.string bytes) => bytes.length + 1
  | .lit _ => 1
  | .nil => 1
  | .ptr d => uptoBulk d + 1
  | .slice elems spare => uptoBulkAll elems + uptoBulkAll spare + 1
  | .agg parts => uptoBulkAll parts + 1
  | .iface _ d => uptoBulk d + 1
  | .map entries => uptoBulkEntries entries + 1
  | .held _ => 1
def uptoBulkAll {H : Type} : List (DataW H) → Nat
  | [] => 0
  | d :: r => uptoBulk d + uptoBulkAll r
def uptoBulkEntries {H : Type} : List (Lit × DataW H) → Nat
  | [] => 0
  | x :: r => uptoBulkEntry x + uptoBulkEntries r
def uptoBulkEntry {H : Type} : Lit × DataW H → Nat
  | (.string bytes, d) => bytes.length + uptoBulk d + 1
  | (_, d) => uptoBulk d + 1
 end
def uptoSmall : (H : Type) → List (DataW H) → Bool := fun _ ds => decide (uptoBulkAll ds ≤ 1048576)
def OpenSpec.upto (s : _root_.Go.ChangeSpec) : _root_.Go.OpenSpec := { _root_.Go.OpenSpec.ofChange s with cond := some uptoSmall }

/-- 'bournelaw21.StepConserves', WHERE WHAT IT READS IS OF BULK AT MOST 1048576: true; the input reads as it did. -/
def stepConservesUptoRow : OpenClaim := { program := "ytblcgjadhemlbaagreat", sum := "860b555803c74736248601c0b52b3195b32bbe2dea7692d7516de1cbf3a4d196", func := "bourne/bournelaw21.StepConserves", spec := "stepConserves", inPlace := ["internal/reflectlite.ValueOf", "internal/reflectlite.Swapper", "(internal/reflectlite.Value).Len"], unfollowed := true, recurses := true, named := ["math/bits.divideError", "math/bits.overflowError"], plainKeys := false, apart := false, narrowed := true }
def StepConservesUptoSaid : Prop := stepConservesUptoRow.holds Tryz.pinned (OpenSpec.upto stepConservesSpec)

/-- 'bournelaw21.StepRight', WHERE WHAT IT READS IS OF BULK AT MOST 1048576: true; the input reads as it did. -/
def stepRightUptoRow : OpenClaim := { program := "ytblcgjadhemlbaagreat", sum := "860b555803c74736248601c0b52b3195b32bbe2dea7692d7516de1cbf3a4d196", func := "bourne/bournelaw21.StepRight", spec := "stepRight", inPlace := ["internal/reflectlite.ValueOf", "internal/reflectlite.Swapper", "(internal/reflectlite.Value).Len"], unfollowed := true, recurses := true, named := ["math/bits.divideError", "math/bits.overflowError"], plainKeys := false, apart := false, narrowed := true }
def StepRightUptoSaid : Prop := stepRightUptoRow.holds Tryz.pinned (OpenSpec.upto stepRightSpec)

/-- 'bournelaw21.StepMoves', WHERE WHAT IT READS IS OF BULK AT MOST 1048576: true; the input reads as it did. -/
def stepMovesUptoRow : OpenClaim := { program := "ytblcgjadhemlbaagreat", sum := "860b555803c74736248601c0b52b3195b32bbe2dea7692d7516de1cbf3a4d196", func := "bourne/bournelaw21.StepMoves", spec := "stepMoves", inPlace := ["internal/reflectlite.ValueOf", "internal/reflectlite.Swapper", "(internal/reflectlite.Value).Len"], unfollowed := true, recurses := true, named := ["math/bits.divideError", "math/bits.overflowError"], plainKeys := false, apart := false, narrowed := true }
def StepMovesUptoSaid : Prop := stepMovesUptoRow.holds Tryz.pinned (OpenSpec.upto stepMovesSpec)

/-- 'bournelaw21.StepGates', WHERE WHAT IT READS IS OF BULK AT MOST 1048576: true; the input reads as it did. -/
def stepGatesUptoRow : OpenClaim := { program := "ytblcgjadhemlbaagreat", sum := "860b555803c74736248601c0b52b3195b32bbe2dea7692d7516de1cbf3a4d196", func := "bourne/bournelaw21.StepGates", spec := "stepGates", inPlace := ["internal/reflectlite.ValueOf", "internal/reflectlite.Swapper", "(internal/reflectlite.Value).Len"], unfollowed := true, recurses := true, named := ["math/bits.divideError", "math/bits.overflowError"], plainKeys := false, apart := false, narrowed := true }
def StepGatesUptoSaid : Prop := stepGatesUptoRow.holds Tryz.pinned (OpenSpec.upto stepGatesSpec)

/-- 'bournelaw21.StepTakes', WHERE WHAT IT READS IS OF BULK AT MOST 1048576: true; the input reads as it did. -/
def stepTakesUptoRow : OpenClaim := { program := "ytblcgjadhemlbaagreat", sum := "860b555803c74736248601c0b52b3195b32bbe2dea7692d7516de1cbf3a4d196", func := "bourne/bournelaw21.StepTakes", spec := "stepTakes", inPlace := ["internal/reflectlite.ValueOf", "internal/reflectlite.Swapper", "(internal/reflectlite.Value).Len"], unfollowed := true, recurses := true, named := ["math/bits.divideError", "math/bits.overflowError"], plainKeys := false, apart := false, narrowed := true }
def StepTakesUptoSaid : Prop := stepTakesUptoRow.holds Tryz.pinned (OpenSpec.upto stepTakesSpec)

/-- 'bournelaw21.StepMore', WHERE WHAT IT READS IS OF BULK AT MOST 1048576: true; the input reads as it did. -/
def stepMoreUptoRow : OpenClaim := { program := "ytblcgjadhemlbaagreat", sum := "860b555803c74736248601c0b52b3195b32bbe2dea7692d7516de1cbf3a4d196", func := "bourne/bournelaw21.StepMore", spec := "stepMore", inPlace := ["internal/reflectlite.ValueOf", "internal/reflectlite.Swapper", "(internal/reflectlite.Value).Len"], unfollowed := true, recurses := true, named := ["math/bits.divideError", "math/bits.overflowError"], plainKeys := false, apart := false, narrowed := true }
def StepMoreUptoSaid : Prop := stepMoreUptoRow.holds Tryz.pinned (OpenSpec.upto stepMoreSpec)

end Rows
end Go.Proofs.YtblcgjadhemlbaaGreat
