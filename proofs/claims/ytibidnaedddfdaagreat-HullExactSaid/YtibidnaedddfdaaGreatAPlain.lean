import Derived.Test.YtibidnaedddfdaaGreatAPureExact
import Derived.Test.YtibidnaedddfdaaGreatAInsert
namespace Go.Proofs.YtibidnaedddfdaaGreat
set_option linter.unusedSimpArgs false
set_option linter.unusedVariables false
open Go.RowKit
theorem UT:En BN=some true:=by decide +kernel
theorem On (b:AJ) (s t:AV):Dh BN b s t=some true:=Tf (by unfold BN;omega) UT b s t
end Go.Proofs.YtibidnaedddfdaaGreat
