import Derived.Test.YtibidnaedddfdaaGreatCCore19
import Derived.Maps.RangeRun
namespace Go.Proofs.YtibidnaedddfdaaGreat
open Go.RowKit
open Go.ChangeMaps (setBlock)
set_option linter.unusedVariables false
set_option linter.unusedSimpArgs false
section
variable {P:Program}{ops:Array Oper}{Q:Exit→Act→World→Prop}{n:FN}{m:SM}{rest:List Oper}
variable {d:Nat}{ty:TypeId}{pos:String}{af:Array Edge}{X:Operand}{B:World}{h:AX}{S:Nat→Prop}{L:List HP}{t kt et:TypeId}{b r:Nat}
variable {κ β:Type}{kv:κ→Value}{vv:β→Value}{l rem:List (κ×β)}
end
end Go.Proofs.YtibidnaedddfdaaGreat
