/- probitylaw03.TypesTight returns true for every input, and each argument reads CO as it read before; where the listed package-level X0 hold what the X6 text RJ. -/
import Derived.Test.YtgjocfjdecjhoaaGreatDoorCards
import Derived.WalkKit
import Derived.ProofKit
import Derived.OpenShut
import Derived.ShutString
import Derived.LaidMore
import Derived.Lay
import Derived.SevenTiedAt
set_option linter.unusedSimpArgs false
set_option linter.unusedVariables false
set_option linter.defProp false
set_option maxHeartbeats 32000000
set_option maxRecDepth 100000
namespace Go.Proofs.YtgjocfjdecjhoaaGreatDoor.typesTight
open Go Go.ChangeShapes Go.WideShapes Go.ChangeAt Go.RowKit
open Go.ChangeMaps (open_string shut_string)
set_option linter.unusedVariables false
def closed:joinedFacts Tryz.pinned.checked.prog 5 Tryz.f5 Rows.typesTightSpec Rows.typesTightRow=true:=by kernel_rfl
end Go.Proofs.YtgjocfjdecjhoaaGreatDoor.typesTight
