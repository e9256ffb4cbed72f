/-
  No cell of these rows narrows 'for every input' (looked for: loops, veiled, ifaces, maps, wideKeys, modest, calm, conditions, laid).
  DERIVED. THE GIVEN ROWS OF THIS SEAT. 5 by the template 'for every input the law returns true; each argument reads behind the call as it read before'; 0 by the template 'total and deterministic' (their statements: YtabonambpbofgaaGreatTotals.lean).
  GIVEN WITH THE SEED: the statements are not yours to turn. If you find one false, say at which input.
  Laid BY PROGRAM, IN A SANDBOX (cutbox-rows.mjs): the forced cells as the released guide's own fill.sh prints them over the translation 4c184daf30e2c014… (all of the seat's roots in one cut). By AI agents, Wed Nov 11 2026. No macro, syntax, notation, axiom, sorry.
-/
import Derived.Test.YtabonambpbofgaaGreatChecked
import GoSem.Claim
import GoSem.ClaimJoined
import GoSem.ClaimMapViews
import Derived.JoinedTies
import Derived.KernelRfl
namespace Go.Proofs.YtabonambpbofgaaGreat
/- THE CELL 'sum', in the pinned program and in every row, IS THE sha256 OF THE DUMP (.gsa) THAT YtabonambpbofgaaGreatProg.lean LOADS. Nothing in Lean hashes anything: it is a label: what it is worth is what the hold of that sum in a sandbox is worth. -/
noncomputable def Tryz.pinned : Pinned := { name := "ytabonambpbofgaagreat", sum := "4c184daf30e2c0144890ccbed225b076d5909f725b97392a8997b7f82c05d1c9", checked := Tryz.checked }
namespace Rows
def none {H : Type} : Left H := { results := [], args := [] }

/-- 'bournelaw47.BranchShares': WHATEVER THE INPUT: true; the input reads as it did. -/
def branchSharesSpec : ChangeSpec := { name := "branchShares", fn := fun _ => fun
  | [d1, d2, d3, d4] => { results := [.lit (.bool true)], args := [d1, d2, d3, d4] }
  | _ => none }
def branchSharesRow : OpenClaim := { program := "ytabonambpbofgaagreat", sum := "4c184daf30e2c0144890ccbed225b076d5909f725b97392a8997b7f82c05d1c9", func := "bourne/bournelaw47.BranchShares", spec := "branchShares", inPlace := ["internal/reflectlite.ValueOf", "internal/reflectlite.Swapper", "(internal/reflectlite.Value).Len"], unfollowed := true, recurses := true, named := ["math/bits.divideError", "math/bits.overflowError"], plainKeys := false, apart := false }
def BranchSharesSaid : Prop := branchSharesRow.holds Tryz.pinned (OpenSpec.ofChange branchSharesSpec)

/-- ITS FALSE NEIGHBOUR: 'it returns false'. Refute it at one input. -/
def branchSharesWrong : ChangeSpec := { name := "branchShares", fn := fun _ => fun
  | [d1, d2, d3, d4] => { results := [.lit (.bool false)], args := [d1, d2, d3, d4] }
  | _ => none }
def BranchSharesWrongFalsely : Prop := branchSharesRow.holds Tryz.pinned (OpenSpec.ofChange branchSharesWrong)

/-- 'bournelaw47.BranchTells': WHATEVER THE INPUT: true; the input reads as it did. -/
def branchTellsSpec : ChangeSpec := { name := "branchTells", fn := fun _ => fun
  | [d1, d2, d3] => { results := [.lit (.bool true)], args := [d1, d2, d3] }
  | _ => none }
def branchTellsRow : OpenClaim := { program := "ytabonambpbofgaagreat", sum := "4c184daf30e2c0144890ccbed225b076d5909f725b97392a8997b7f82c05d1c9", func := "bourne/bournelaw47.BranchTells", spec := "branchTells", inPlace := ["internal/reflectlite.ValueOf", "internal/reflectlite.Swapper", "(internal/reflectlite.Value).Len"], unfollowed := true, recurses := true, named := ["math/bits.divideError", "math/bits.overflowError"], plainKeys := false, apart := false }
def BranchTellsSaid : Prop := branchTellsRow.holds Tryz.pinned (OpenSpec.ofChange branchTellsSpec)

/-- ITS FALSE NEIGHBOUR: 'it returns false'. Refute it at one input. -/
def branchTellsWrong : ChangeSpec := { name := "branchTells", fn := fun _ => fun
  | [d1, d2, d3] => { results := [.lit (.bool false)], args := [d1, d2, d3] }
  | _ => none }
def BranchTellsWrongFalsely : Prop := branchTellsRow.holds Tryz.pinned (OpenSpec.ofChange branchTellsWrong)

/-- 'bournelaw47.BranchPrunes': WHATEVER THE INPUT: true; the input reads as it did. -/
def branchPrunesSpec : ChangeSpec := { name := "branchPrunes", fn := fun _ => fun
  | [d1, d2, d3, d4] => { results := [.lit (.bool true)], args := [d1, d2, d3, d4] }
  | _ => none }
def branchPrunesRow : OpenClaim := { program := "ytabonambpbofgaagreat", sum := "4c184daf30e2c0144890ccbed225b076d5909f725b97392a8997b7f82c05d1c9", func := "bourne/bournelaw47.BranchPrunes", spec := "branchPrunes", inPlace := ["internal/reflectlite.ValueOf", "internal/reflectlite.Swapper", "(internal/reflectlite.Value).Len"], unfollowed := true, recurses := true, named := ["math/bits.divideError", "math/bits.overflowError"], plainKeys := false, apart := false }
def BranchPrunesSaid : Prop := branchPrunesRow.holds Tryz.pinned (OpenSpec.ofChange branchPrunesSpec)

/-- ITS FALSE NEIGHBOUR: 'it returns false'. Refute it at one input. -/
def branchPrunesWrong : ChangeSpec := { name := "branchPrunes", fn := fun _ => fun
  | [d1, d2, d3, d4] => { results := [.lit (.bool false)], args := [d1, d2, d3, d4] }
  | _ => none }
def BranchPrunesWrongFalsely : Prop := branchPrunesRow.holds Tryz.pinned (OpenSpec.ofChange branchPrunesWrong)

/-- 'bournelaw47.BranchFolds': WHATEVER THE INPUT: true; the input reads as it did. -/
def branchFoldsSpec : ChangeSpec := { name := "branchFolds", fn := fun _ => fun
  | [d1, d2, d3] => { results := [.lit (.bool true)], args := [d1, d2, d3] }
  | _ => none }
def branchFoldsRow : OpenClaim := { program := "ytabonambpbofgaagreat", sum := "4c184daf30e2c0144890ccbed225b076d5909f725b97392a8997b7f82c05d1c9", func := "bourne/bournelaw47.BranchFolds", spec := "branchFolds", inPlace := ["internal/reflectlite.ValueOf", "internal/reflectlite.Swapper", "(internal/reflectlite.Value).Len"], unfollowed := true, recurses := true, named := ["math/bits.divideError", "math/bits.overflowError"], plainKeys := false, apart := false }
def BranchFoldsSaid : Prop := branchFoldsRow.holds Tryz.pinned (OpenSpec.ofChange branchFoldsSpec)

/-- ITS FALSE NEIGHBOUR: 'it returns false'. Refute it at one input. -/
def branchFoldsWrong : ChangeSpec := { name := "branchFolds", fn := fun _ => fun
  | [d1, d2, d3] => { results := [.lit (.bool false)], args := [d1, d2, d3] }
  | _ => none }
def BranchFoldsWrongFalsely : Prop := branchFoldsRow.holds Tryz.pinned (OpenSpec.ofChange branchFoldsWrong)

/-- 'bournelaw47.BranchConserves': WHATEVER THE INPUT: true; the input reads as it did. -/
def branchConservesSpec : ChangeSpec := { name := "branchConserves", fn := fun _ => fun
  | [d1, d2, d3] => { results := [.lit (.bool true)], args := [d1, d2, d3] }
  | _ => none }
def branchConservesRow : OpenClaim := { program := "ytabonambpbofgaagreat", sum := "4c184daf30e2c0144890ccbed225b076d5909f725b97392a8997b7f82c05d1c9", func := "bourne/bournelaw47.BranchConserves", spec := "branchConserves", inPlace := ["internal/reflectlite.ValueOf", "internal/reflectlite.Swapper", "(internal/reflectlite.Value).Len", "math/bits.Add64", "math/bits.Sub64"], unfollowed := true, recurses := true, named := ["math/bits.divideError", "math/bits.overflowError"], plainKeys := false, apart := false }
def BranchConservesSaid : Prop := branchConservesRow.holds Tryz.pinned (OpenSpec.ofChange branchConservesSpec)

/-- ITS FALSE NEIGHBOUR: 'it returns false'. Refute it at one input. -/
def branchConservesWrong : ChangeSpec := { name := "branchConserves", fn := fun _ => fun
  | [d1, d2, d3] => { results := [.lit (.bool false)], args := [d1, d2, d3] }
  | _ => none }
def BranchConservesWrongFalsely : Prop := branchConservesRow.holds Tryz.pinned (OpenSpec.ofChange branchConservesWrong)

/- THE SECOND FORM. 'bulk': how many values and letters a reading holds, each counted each time it is reached (what is shared counts as often as it is met; a slice's spare places count too). A statement '..UptoSaid' is the law's where the arguments, and the package variables that the reading takes, are together of bulk at most 1048576: NARROWER than '..Said'. Prove '..Said' where nothing that the law and all that it calls make is longer than what came in: it says more and counts as full. Else prove '..UptoSaid'. A law counts once. -/
mutual
def uptoBulk {H : Type} : DataW H → Nat
  | .lit (.string bytes) => bytes.length + 1
  | .lit _ => 1
  | .nil => 1
  | .ptr d => uptoBulk d + 1
  | .slice elems spare => uptoBulkAll elems + uptoBulkAll spare + 1
  | .agg parts => uptoBulkAll parts + 1
  | .iface _ d => uptoBulk d + 1
  | .map entries => uptoBulkEntries entries + 1
  | .held _ => 1
def uptoBulkAll {H : Type} : List (DataW H) → Nat
  | [] => 0
  | d :: r => uptoBulk d + uptoBulkAll r
def uptoBulkEntries {H : Type} : List (Lit × DataW H) → Nat
  | [] => 0
  | x :: r => uptoBulkEntry x + uptoBulkEntries r
def uptoBulkEntry {H : Type} : Lit × DataW H → Nat
  | (.string bytes, d) => bytes.length + uptoBulk d + 1
  | (_, d) => uptoBulk d + 1
 end
def uptoSmall : (H : Type) → List (DataW H) → Bool := fun _ ds => decide (uptoBulkAll ds ≤ 1048576)
def OpenSpec.upto (s : _root_.Go.ChangeSpec) : _root_.Go.OpenSpec := { _root_.Go.OpenSpec.ofChange s with cond := some uptoSmall }

/-- 'bournelaw47.BranchShares', WHERE WHAT IT READS IS OF BULK AT MOST 1048576: true; the input reads as it did. -/
def branchSharesUptoRow : OpenClaim := { program := "ytabonambpbofgaagreat", sum := "4c184daf30e2c0144890ccbed225b076d5909f725b97392a8997b7f82c05d1c9", func := "bourne/bournelaw47.BranchShares", spec := "branchShares", inPlace := ["internal/reflectlite.ValueOf", "internal/reflectlite.Swapper", "(internal/reflectlite.Value).Len"], unfollowed := true, recurses := true, named := ["math/bits.divideError", "math/bits.overflowError"], plainKeys := false, apart := false, narrowed := true }
def BranchSharesUptoSaid : Prop := branchSharesUptoRow.holds Tryz.pinned (OpenSpec.upto branchSharesSpec)

/-- 'bournelaw47.BranchTells', WHERE WHAT IT READS IS OF BULK AT MOST 1048576: true; the input reads as it did. -/
def branchTellsUptoRow : OpenClaim := { program := "ytabonambpbofgaagreat", sum := "4c184daf30e2c0144890ccbed225b076d5909f725b97392a8997b7f82c05d1c9", func := "bourne/bournelaw47.BranchTells", spec := "branchTells", inPlace := ["internal/reflectlite.ValueOf", "internal/reflectlite.Swapper", "(internal/reflectlite.Value).Len"], unfollowed := true, recurses := true, named := ["math/bits.divideError", "math/bits.overflowError"], plainKeys := false, apart := false, narrowed := true }
def BranchTellsUptoSaid : Prop := branchTellsUptoRow.holds Tryz.pinned (OpenSpec.upto branchTellsSpec)

/-- 'bournelaw47.BranchPrunes', WHERE WHAT IT READS IS OF BULK AT MOST 1048576: true; the input reads as it did. -/
def branchPrunesUptoRow : OpenClaim := { program := "ytabonambpbofgaagreat", sum := "4c184daf30e2c0144890ccbed225b076d5909f725b97392a8997b7f82c05d1c9", func := "bourne/bournelaw47.BranchPrunes", spec := "branchPrunes", inPlace := ["internal/reflectlite.ValueOf", "internal/reflectlite.Swapper", "(internal/reflectlite.Value).Len"], unfollowed := true, recurses := true, named := ["math/bits.divideError", "math/bits.overflowError"], plainKeys := false, apart := false, narrowed := true }
def BranchPrunesUptoSaid : Prop := branchPrunesUptoRow.holds Tryz.pinned (OpenSpec.upto branchPrunesSpec)

/-- 'bournelaw47.BranchFolds', WHERE WHAT IT READS IS OF BULK AT MOST 1048576: true; the input reads as it did. -/
def branchFoldsUptoRow : OpenClaim := { program := "ytabonambpbofgaagreat", sum := "4c184daf30e2c0144890ccbed225b076d5909f725b97392a8997b7f82c05d1c9", func := "bourne/bournelaw47.BranchFolds", spec := "branchFolds", inPlace := ["internal/reflectlite.ValueOf", "internal/reflectlite.Swapper", "(internal/reflectlite.Value).Len"], unfollowed := true, recurses := true, named := ["math/bits.divideError", "math/bits.overflowError"], plainKeys := false, apart := false, narrowed := true }
def BranchFoldsUptoSaid : Prop := branchFoldsUptoRow.holds Tryz.pinned (OpenSpec.upto branchFoldsSpec)

/-- 'bournelaw47.BranchConserves', WHERE WHAT IT READS IS OF BULK AT MOST 1048576: true; the input reads as it did. -/
def branchConservesUptoRow : OpenClaim := { program := "ytabonambpbofgaagreat", sum := "4c184daf30e2c0144890ccbed225b076d5909f725b97392a8997b7f82c05d1c9", func := "bourne/bournelaw47.BranchConserves", spec := "branchConserves", inPlace := ["internal/reflectlite.ValueOf", "internal/reflectlite.Swapper", "(internal/reflectlite.Value).Len", "math/bits.Add64", "math/bits.Sub64"], unfollowed := true, recurses := true, named := ["math/bits.divideError", "math/bits.overflowError"], plainKeys := false, apart := false, narrowed := true }
def BranchConservesUptoSaid : Prop := branchConservesUptoRow.holds Tryz.pinned (OpenSpec.upto branchConservesSpec)

end Rows
end Go.Proofs.YtabonambpbofgaaGreat
