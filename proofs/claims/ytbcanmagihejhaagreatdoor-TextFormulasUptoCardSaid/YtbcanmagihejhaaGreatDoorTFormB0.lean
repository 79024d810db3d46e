/- probitylaw02.TextFormulas returns true for every input of bulk at most 1048576, and each argument reads afterwards as it read before; where the listed package-level variables hold what the program's text lays. -/
import Derived.Test.YtbcanmagihejhaaGreatDoorRows
import Derived.Test.YtbcanmagihejhaaGreatDoorCards
import Derived.Test.YtbcanmagihejhaaGreatDoorTie
import Derived.WalkKit
import Derived.ProofKit
import Derived.OpenShut
import Derived.ShutString
import Derived.ChangeOld
import Derived.Below
import Derived.LaidMore
import Derived.Lay
import Derived.Stop.Joined
import Derived.SevenTiedAt
import Derived.ChangeReads
import Derived.JoinedCond
import Derived.Deep.DeepHandedRow
set_option linter.unusedSimpArgs false
set_option linter.unusedVariables false
namespace Go.Proofs.YtbcanmagihejhaaGreatDoor.textFormulas
open Go Go.ChangeShapes Go.WideShapes Go.ChangeAt Go.RowKit
open Go.ChangeMaps (open_string shut_string)
set_option linter.unusedVariables false
theorem closed:joinedFacts Tryz.pinned.checked.prog 6 Tryz.f6 (Rows.OpenSpec.upto Rows.textFormulasSpec).bare Rows.textFormulasUptoRow=true:=by kernel_rfl
end Go.Proofs.YtbcanmagihejhaaGreatDoor.textFormulas
