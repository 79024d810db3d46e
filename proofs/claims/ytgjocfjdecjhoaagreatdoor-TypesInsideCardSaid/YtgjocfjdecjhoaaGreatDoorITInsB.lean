/- probitylaw03.TypesInside returns true for every input, and each argument reads CO as it read before; where the listed package-level X0 hold what the X6 text RJ. -/
import Derived.Test.YtgjocfjdecjhoaaGreatDoorITInsA
import Derived.Test.YtgjocfjdecjhoaaGreatDoorITInsB0
set_option linter.unusedSimpArgs false
set_option linter.unusedVariables false
set_option linter.defProp false
set_option maxHeartbeats 32000000
set_option maxRecDepth 100000
namespace Go.Proofs.YtgjocfjdecjhoaaGreatDoor.typesInside
open Go Go.ChangeShapes Go.WideShapes Go.ChangeAt Go.RowKit
open Go.ChangeMaps (open_string shut_string)
set_option linter.unusedVariables false
def named:Tryz.prog.funcNamed "probity/probitylaw03.TypesInside"=some 4:=by kernel_rfl
def wanted:([22,22].all fun u=> !Tryz.prog.wantsStandIn u)=true:=by kernel_rfl
set_option linter.unusedVariables false
def over:Rows.TypesInsideSaid :=
 OpenClaim.holds_of_wide 4 Tryz.f4 rfl rfl rfl rfl rfl rfl rfl ⟨rfl,rfl,rfl,rfl,rfl⟩ rfl rfl rfl rfl rfl (by kernel_rfl) Tryz.func4 closed
  (of_decide_eq_true (by kernel_rfl)) (by unfold Func.isWrapper;rw[if_neg (of_decide_eq_false (by kernel_rfl))];exact⟨rfl,rfl⟩)
  (fun os a H enc _=>lifted os a H enc)
end Go.Proofs.YtgjocfjdecjhoaaGreatDoor.typesInside
