/-
  No cell of these rows narrows 'for every input' (looked for: loops, veiled, ifaces, maps, wideKeys, modest, calm, conditions, laid).
  DERIVED. THE GIVEN ROWS OF THIS SEAT. 5 by the template 'for every input the law returns true; each argument reads behind the call as it read before'; 0 by the template 'total and deterministic' (their statements: YtibidnaedddfdaaGreatTotals.lean).
  GIVEN WITH THE SEED: the statements are not yours to turn. If you find one false, say at which input.
  Laid BY PROGRAM, IN A SANDBOX (cutbox-rows.mjs): the forced cells as the released guide's own fill.sh prints them over the translation 569c0c8c39e27e35… (all of the seat's roots in one cut). By AI agents, Wed Nov 11 2026. No macro, syntax, notation, axiom, sorry.
-/
import Derived.Test.YtibidnaedddfdaaGreatChecked
import GoSem.Claim
import GoSem.ClaimJoined
import GoSem.ClaimMapViews
import Derived.JoinedTies
import Derived.KernelRfl
namespace Go.Proofs.YtibidnaedddfdaaGreat
/- THE CELL 'sum', in the pinned program and in every row, IS THE sha256 OF THE DUMP (.gsa) THAT YtibidnaedddfdaaGreatProg.lean LOADS. Nothing in Lean hashes anything: it is a label: what it is worth is what the hold of that sum in a sandbox is worth. -/
noncomputable def Tryz.pinned : Pinned := { name := "ytibidnaedddfdaagreat", sum := "569c0c8c39e27e3509bfab8fa4ceda67923c407ff0692dc3ec2c253191f0fa6f", checked := Tryz.checked }
namespace Rows
def none {H : Type} : Left H := { results := [], args := [] }

/-- 'bournelaw27.HullRight': WHATEVER THE INPUT: true; the input reads as it did. -/
def hullRightSpec : ChangeSpec := { name := "hullRight", fn := fun _ => fun
  | [d1, d2, d3, d4, d5] => { results := [.lit (.bool true)], args := [d1, d2, d3, d4, d5] }
  | _ => none }
def hullRightRow : OpenClaim := { program := "ytibidnaedddfdaagreat", sum := "569c0c8c39e27e3509bfab8fa4ceda67923c407ff0692dc3ec2c253191f0fa6f", func := "bourne/bournelaw27.HullRight", spec := "hullRight", inPlace := ["slices.overlaps[bourne/api.Sum]"], unfollowed := true, recurses := true, named := ["math/bits.divideError", "math/bits.overflowError"], plainKeys := false, apart := false }
def HullRightSaid : Prop := hullRightRow.holds Tryz.pinned (OpenSpec.ofChange hullRightSpec)

/-- ITS FALSE NEIGHBOUR: 'it returns false'. Refute it at one input. -/
def hullRightWrong : ChangeSpec := { name := "hullRight", fn := fun _ => fun
  | [d1, d2, d3, d4, d5] => { results := [.lit (.bool false)], args := [d1, d2, d3, d4, d5] }
  | _ => none }
def HullRightWrongFalsely : Prop := hullRightRow.holds Tryz.pinned (OpenSpec.ofChange hullRightWrong)

/-- 'bournelaw43.AlarmMore': WHATEVER THE INPUT: true; the input reads as it did. -/
def alarmMoreSpec : ChangeSpec := { name := "alarmMore", fn := fun _ => fun
  | [d1, d2, d3, d4, d5, d6] => { results := [.lit (.bool true)], args := [d1, d2, d3, d4, d5, d6] }
  | _ => none }
def alarmMoreRow : OpenClaim := { program := "ytibidnaedddfdaagreat", sum := "569c0c8c39e27e3509bfab8fa4ceda67923c407ff0692dc3ec2c253191f0fa6f", func := "bourne/bournelaw43.AlarmMore", spec := "alarmMore", inPlace := ["slices.overlaps[bourne/api.Sum]"], unfollowed := true, recurses := true, named := ["math/bits.divideError", "math/bits.overflowError"], plainKeys := false, apart := false }
def AlarmMoreSaid : Prop := alarmMoreRow.holds Tryz.pinned (OpenSpec.ofChange alarmMoreSpec)

/-- ITS FALSE NEIGHBOUR: 'it returns false'. Refute it at one input. -/
def alarmMoreWrong : ChangeSpec := { name := "alarmMore", fn := fun _ => fun
  | [d1, d2, d3, d4, d5, d6] => { results := [.lit (.bool false)], args := [d1, d2, d3, d4, d5, d6] }
  | _ => none }
def AlarmMoreWrongFalsely : Prop := alarmMoreRow.holds Tryz.pinned (OpenSpec.ofChange alarmMoreWrong)

/-- 'bournelaw27.HullTells': WHATEVER THE INPUT: true; the input reads as it did. -/
def hullTellsSpec : ChangeSpec := { name := "hullTells", fn := fun _ => fun
  | [d1, d2, d3, d4, d5, d6] => { results := [.lit (.bool true)], args := [d1, d2, d3, d4, d5, d6] }
  | _ => none }
def hullTellsRow : OpenClaim := { program := "ytibidnaedddfdaagreat", sum := "569c0c8c39e27e3509bfab8fa4ceda67923c407ff0692dc3ec2c253191f0fa6f", func := "bourne/bournelaw27.HullTells", spec := "hullTells", inPlace := ["slices.overlaps[bourne/api.Sum]"], unfollowed := true, recurses := true, named := ["math/bits.divideError", "math/bits.overflowError"], plainKeys := false, apart := false }
def HullTellsSaid : Prop := hullTellsRow.holds Tryz.pinned (OpenSpec.ofChange hullTellsSpec)

/-- ITS FALSE NEIGHBOUR: 'it returns false'. Refute it at one input. -/
def hullTellsWrong : ChangeSpec := { name := "hullTells", fn := fun _ => fun
  | [d1, d2, d3, d4, d5, d6] => { results := [.lit (.bool false)], args := [d1, d2, d3, d4, d5, d6] }
  | _ => none }
def HullTellsWrongFalsely : Prop := hullTellsRow.holds Tryz.pinned (OpenSpec.ofChange hullTellsWrong)

/-- 'bournelaw27.HullExact': WHATEVER THE INPUT: true; the input reads as it did. -/
def hullExactSpec : ChangeSpec := { name := "hullExact", fn := fun _ => fun
  | [d1, d2, d3] => { results := [.lit (.bool true)], args := [d1, d2, d3] }
  | _ => none }
def hullExactRow : OpenClaim := { program := "ytibidnaedddfdaagreat", sum := "569c0c8c39e27e3509bfab8fa4ceda67923c407ff0692dc3ec2c253191f0fa6f", func := "bourne/bournelaw27.HullExact", spec := "hullExact", inPlace := ["slices.overlaps[bourne/api.Sum]"], unfollowed := true, recurses := true, named := ["math/bits.divideError", "math/bits.overflowError"], plainKeys := false, apart := false }
def HullExactSaid : Prop := hullExactRow.holds Tryz.pinned (OpenSpec.ofChange hullExactSpec)

/-- ITS FALSE NEIGHBOUR: 'it returns false'. Refute it at one input. -/
def hullExactWrong : ChangeSpec := { name := "hullExact", fn := fun _ => fun
  | [d1, d2, d3] => { results := [.lit (.bool false)], args := [d1, d2, d3] }
  | _ => none }
def HullExactWrongFalsely : Prop := hullExactRow.holds Tryz.pinned (OpenSpec.ofChange hullExactWrong)

/-- 'bournelaw43.AlarmSees': WHATEVER THE INPUT: true; the input reads as it did. -/
def alarmSeesSpec : ChangeSpec := { name := "alarmSees", fn := fun _ => fun
  | [d1, d2, d3, d4, d5, d6, d7, d8] => { results := [.lit (.bool true)], args := [d1, d2, d3, d4, d5, d6, d7, d8] }
  | _ => none }
def alarmSeesRow : OpenClaim := { program := "ytibidnaedddfdaagreat", sum := "569c0c8c39e27e3509bfab8fa4ceda67923c407ff0692dc3ec2c253191f0fa6f", func := "bourne/bournelaw43.AlarmSees", spec := "alarmSees", inPlace := ["slices.overlaps[bourne/api.Sum]"], unfollowed := true, recurses := true, named := ["math/bits.divideError", "math/bits.overflowError"], plainKeys := false, apart := false }
def AlarmSeesSaid : Prop := alarmSeesRow.holds Tryz.pinned (OpenSpec.ofChange alarmSeesSpec)

/-- ITS FALSE NEIGHBOUR: 'it returns false'. Refute it at one input. -/
def alarmSeesWrong : ChangeSpec := { name := "alarmSees", fn := fun _ => fun
  | [d1, d2, d3, d4, d5, d6, d7, d8] => { results := [.lit (.bool false)], args := [d1, d2, d3, d4, d5, d6, d7, d8] }
  | _ => none }
def AlarmSeesWrongFalsely : Prop := alarmSeesRow.holds Tryz.pinned (OpenSpec.ofChange alarmSeesWrong)

/- THE SECOND FORM. 'bulk': how many values and letters a reading holds, each counted each time it is reached (what is shared counts as often as it is met; a slice's spare places count too). A statement '..UptoSaid' is the law's where the arguments, and the package variables that the reading takes, are together of bulk at most 1048576: NARROWER than '..Said'. Prove '..Said' where nothing that the law and all that it calls make is longer than what came in: it says more and counts as full. Else prove '..UptoSaid'. A law counts once. -/
mutual
def uptoBulk {H : Type} : DataW H → Nat
  | .lit (.string bytes) => bytes.length + 1
  | .lit _ => 1
  | .nil => 1
  | .ptr d => uptoBulk d + 1
  | .slice elems spare => uptoBulkAll elems + uptoBulkAll spare + 1
  | .agg parts => uptoBulkAll parts + 1
  | .iface _ d => uptoBulk d + 1
  | .map entries => uptoBulkEntries entries + 1
  | .held _ => 1
def uptoBulkAll {H : Type} : List (DataW H) → Nat
  | [] => 0
  | d :: r => uptoBulk d + uptoBulkAll r
def uptoBulkEntries {H : Type} : List (Lit × DataW H) → Nat
  | [] => 0
  | x :: r => uptoBulkEntry x + uptoBulkEntries r
def uptoBulkEntry {H : Type} : Lit × DataW H → Nat
  | (.string bytes, d) => bytes.length + uptoBulk d + 1
  | (_, d) => uptoBulk d + 1
 end
def uptoSmall : (H : Type) → List (DataW H) → Bool := fun _ ds => decide (uptoBulkAll ds ≤ 1048576)
def OpenSpec.upto (s : _root_.Go.ChangeSpec) : _root_.Go.OpenSpec := { _root_.Go.OpenSpec.ofChange s with cond := some uptoSmall }

/-- 'bournelaw27.HullRight', WHERE WHAT IT READS IS OF BULK AT MOST 1048576: true; the input reads as it did. -/
def hullRightUptoRow : OpenClaim := { program := "ytibidnaedddfdaagreat", sum := "569c0c8c39e27e3509bfab8fa4ceda67923c407ff0692dc3ec2c253191f0fa6f", func := "bourne/bournelaw27.HullRight", spec := "hullRight", inPlace := ["slices.overlaps[bourne/api.Sum]"], unfollowed := true, recurses := true, named := ["math/bits.divideError", "math/bits.overflowError"], plainKeys := false, apart := false, narrowed := true }
def HullRightUptoSaid : Prop := hullRightUptoRow.holds Tryz.pinned (OpenSpec.upto hullRightSpec)

/-- 'bournelaw43.AlarmMore', WHERE WHAT IT READS IS OF BULK AT MOST 1048576: true; the input reads as it did. -/
def alarmMoreUptoRow : OpenClaim := { program := "ytibidnaedddfdaagreat", sum := "569c0c8c39e27e3509bfab8fa4ceda67923c407ff0692dc3ec2c253191f0fa6f", func := "bourne/bournelaw43.AlarmMore", spec := "alarmMore", inPlace := ["slices.overlaps[bourne/api.Sum]"], unfollowed := true, recurses := true, named := ["math/bits.divideError", "math/bits.overflowError"], plainKeys := false, apart := false, narrowed := true }
def AlarmMoreUptoSaid : Prop := alarmMoreUptoRow.holds Tryz.pinned (OpenSpec.upto alarmMoreSpec)

/-- 'bournelaw27.HullTells', WHERE WHAT IT READS IS OF BULK AT MOST 1048576: true; the input reads as it did. -/
def hullTellsUptoRow : OpenClaim := { program := "ytibidnaedddfdaagreat", sum := "569c0c8c39e27e3509bfab8fa4ceda67923c407ff0692dc3ec2c253191f0fa6f", func := "bourne/bournelaw27.HullTells", spec := "hullTells", inPlace := ["slices.overlaps[bourne/api.Sum]"], unfollowed := true, recurses := true, named := ["math/bits.divideError", "math/bits.overflowError"], plainKeys := false, apart := false, narrowed := true }
def HullTellsUptoSaid : Prop := hullTellsUptoRow.holds Tryz.pinned (OpenSpec.upto hullTellsSpec)

/-- 'bournelaw27.HullExact', WHERE WHAT IT READS IS OF BULK AT MOST 1048576: true; the input reads as it did. -/
def hullExactUptoRow : OpenClaim := { program := "ytibidnaedddfdaagreat", sum := "569c0c8c39e27e3509bfab8fa4ceda67923c407ff0692dc3ec2c253191f0fa6f", func := "bourne/bournelaw27.HullExact", spec := "hullExact", inPlace := ["slices.overlaps[bourne/api.Sum]"], unfollowed := true, recurses := true, named := ["math/bits.divideError", "math/bits.overflowError"], plainKeys := false, apart := false, narrowed := true }
def HullExactUptoSaid : Prop := hullExactUptoRow.holds Tryz.pinned (OpenSpec.upto hullExactSpec)

/-- 'bournelaw43.AlarmSees', WHERE WHAT IT READS IS OF BULK AT MOST 1048576: true; the input reads as it did. -/
def alarmSeesUptoRow : OpenClaim := { program := "ytibidnaedddfdaagreat", sum := "569c0c8c39e27e3509bfab8fa4ceda67923c407ff0692dc3ec2c253191f0fa6f", func := "bourne/bournelaw43.AlarmSees", spec := "alarmSees", inPlace := ["slices.overlaps[bourne/api.Sum]"], unfollowed := true, recurses := true, named := ["math/bits.divideError", "math/bits.overflowError"], plainKeys := false, apart := false, narrowed := true }
def AlarmSeesUptoSaid : Prop := alarmSeesUptoRow.holds Tryz.pinned (OpenSpec.upto alarmSeesSpec)

end Rows
end Go.Proofs.YtibidnaedddfdaaGreat
