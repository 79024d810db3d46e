/- probitylaw03.TypesTurned returns true for every input, and each argument reads Ll as it read before; where the listed package-level Cx hold what the Cg text xA. -/
import Derived.Test.YtgjocfjdecjhoaaGreatDoorTTurnB
import Derived.Test.YtgjocfjdecjhoaaGreatDoorTTieP
set_option linter.unusedSimpArgs false
set_option linter.unusedVariables false
set_option linter.defProp false
set_option maxHeartbeats 32000000
set_option maxRecDepth 100000
namespace Go.Proofs.YtgjocfjdecjhoaaGreatDoor.typesTurned
open Go Go.ChangeShapes Go.WideShapes Go.ChangeAt Go.RowKit
open Go.ChangeMaps (open_string shut_string)
set_option linter.unusedVariables false
theorem proved:Rows.TypesTurnedCardSaid :=
 Claim7.holds_tied_plain_at .later [] [.data,.data,.data,.data,.sentinel,.sentinel,.pinned] true (true,"b3b6d53f2c480d9f8d9c47f460a80e76f436af0f4602b41f8e68b2f39be5a596") true
  over (fun _ h=>by cases h) (by kernel_rfl) (fun _ h=>by cases h) Aw4 rfl ⟨rfl,rfl⟩ (by kernel_rfl) rfl
  (fun f fn hf hfn=>by
    obtain rfl:f=3:=Option.some.inj ((show Tryz.prog.funcNamed "probity/probitylaw03.TypesTurned"=some 3 by kernel_rfl).symm.trans hf) |>.symm
    obtain rfl:fn=Tryz.f3:=(Option.some.inj (Tryz.func3.symm.trans hfn)).symm
    exact⟨by kernel_rfl,fun j t ht=>by
     rw[Tryz.params3]at ht;have hm:t∈[22,23,5]:=by simpa using Array.mem_of_getElem? ht
     have RM:([22,23,5].all fun u=> !Tryz.prog.wantsStandIn u)=true:=by kernel_rfl
     exact(show Tryz.prog.wantsStandIn t=false by simpa using List.all_eq_true.1 RM t hm)⟩)
  (by kernel_rfl)
#print axioms proved
end Go.Proofs.YtgjocfjdecjhoaaGreatDoor.typesTurned
