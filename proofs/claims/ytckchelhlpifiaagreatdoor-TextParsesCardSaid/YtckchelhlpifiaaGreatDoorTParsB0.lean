/- Io.Ip returns true for every input, and each argument reads Lh as it read before; where the listed package-level Dc hold FV the GV text AI1. -/
import Derived.Test.YtckchelhlpifiaaGreatDoorCards
import Derived.Test.YtckchelhlpifiaaGreatDoorTie
import Derived.WalkKit
import Derived.ProofKit
import Derived.OpenShut
import Derived.ShutString
import Derived.LaidMore
import Derived.Lay
set_option linter.unusedSimpArgs false
set_option linter.unusedVariables false
set_option linter.defProp false
set_option maxHeartbeats 32000000
set_option maxRecDepth 100000
namespace Go.Proofs.YtckchelhlpifiaaGreatDoor.textParses
open Go Go.ChangeShapes Go.WideShapes Go.ChangeAt Go.RowKit
open Go.ChangeMaps (open_string shut_string)
set_option linter.unusedVariables false
def closed:joinedFacts Tryz.pinned.checked.prog 3 Tryz.f3 Rows.textParsesSpec Rows.textParsesRow=true:=by kernel_rfl
end Go.Proofs.YtckchelhlpifiaaGreatDoor.textParses
