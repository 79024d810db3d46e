/- probitylaw02.TextFormulas returns true for every input of bulk at most 1048576, and each argument reads afterwards as it read before; where the listed package-level variables hold what the program's text lays. -/
import Derived.Test.YtbcanmagihejhaaGreatDoorTFormA
import Derived.Test.YtbcanmagihejhaaGreatDoorTFormB0
import Derived.Test.YtbcanmagihejhaaGreatDoorRows
import Derived.Test.YtbcanmagihejhaaGreatDoorCards
import Derived.Test.YtbcanmagihejhaaGreatDoorTie
import Derived.WalkKit
import Derived.ProofKit
import Derived.OpenShut
import Derived.ShutString
import Derived.ChangeOld
import Derived.Below
import Derived.LaidMore
import Derived.Lay
import Derived.Stop.Joined
import Derived.SevenTiedAt
import Derived.ChangeReads
import Derived.JoinedCond
import Derived.Deep.DeepHandedRow
set_option linter.unusedSimpArgs false
set_option linter.unusedVariables false
namespace Go.Proofs.YtbcanmagihejhaaGreatDoor.textFormulas
open Go Go.ChangeShapes Go.WideShapes Go.ChangeAt Go.RowKit
open Go.ChangeMaps (open_string shut_string)
set_option linter.unusedVariables false
theorem over:Rows.TextFormulasUptoSaid :=
 OpenClaim.holds_of_cond 6 Tryz.f6 rfl rfl rfl rfl rfl rfl rfl ⟨rfl,rfl,rfl,rfl,rfl⟩ rfl rfl rfl rfl rfl (by kernel_rfl) Tryz.func6 closed
  (of_decide_eq_true (by kernel_rfl)) (by unfold Func.isWrapper;rw [if_neg (of_decide_eq_false (by kernel_rfl))];exact ⟨rfl,rfl⟩)
  (fun os started H enc _ F=>by rw [OpenClaim.pre_eq_preRow];exact lifted os started H enc F)
end Go.Proofs.YtbcanmagihejhaaGreatDoor.textFormulas
