/- probitylaw03.TypesTight returns true for every input, and each argument reads CO as it read before; where the listed package-level X0 hold what the X6 text RJ. -/
import Derived.Test.YtgjocfjdecjhoaaGreatDoorITTigA
import Derived.Test.YtgjocfjdecjhoaaGreatDoorITTigB0
set_option linter.unusedSimpArgs false
set_option linter.unusedVariables false
set_option linter.defProp false
set_option maxHeartbeats 32000000
set_option maxRecDepth 100000
namespace Go.Proofs.YtgjocfjdecjhoaaGreatDoor.typesTight
open Go Go.ChangeShapes Go.WideShapes Go.ChangeAt Go.RowKit
open Go.ChangeMaps (open_string shut_string)
set_option linter.unusedVariables false
def named:Tryz.prog.funcNamed "probity/probitylaw03.TypesTight"=some 5:=by kernel_rfl
def wanted:([22,22].all fun u=> !Tryz.prog.wantsStandIn u)=true:=by kernel_rfl
set_option linter.unusedVariables false
def over:Rows.TypesTightSaid :=
 OpenClaim.holds_of_wide 5 Tryz.f5 rfl rfl rfl rfl rfl rfl rfl ⟨rfl,rfl,rfl,rfl,rfl⟩ rfl rfl rfl rfl rfl (by kernel_rfl) Tryz.func5 closed
  (of_decide_eq_true (by kernel_rfl)) (by unfold Func.isWrapper;rw[if_neg (of_decide_eq_false (by kernel_rfl))];exact⟨rfl,rfl⟩)
  (fun os a H enc _=>lifted os a H enc)
end Go.Proofs.YtgjocfjdecjhoaaGreatDoor.typesTight
