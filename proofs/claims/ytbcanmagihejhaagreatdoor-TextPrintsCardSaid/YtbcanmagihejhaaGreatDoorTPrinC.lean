/- IP.GY returns true for every input, and each argument reads LV as it read before; where the listed package-level Cy hold Fm the BO text uf. -/
import Derived.Test.YtbcanmagihejhaaGreatDoorTPrinB
import Derived.Test.YtbcanmagihejhaaGreatDoorTTieP
set_option linter.unusedSimpArgs false
set_option linter.unusedVariables false
set_option linter.defProp false
set_option maxHeartbeats 32000000
set_option maxRecDepth 100000
namespace Go.Proofs.YtbcanmagihejhaaGreatDoor.textPrints
open Go Go.ChangeShapes Go.WideShapes Go.ChangeAt Go.RowKit
open Go.ChangeMaps (open_string shut_string)
set_option linter.unusedVariables false
theorem proved:Rows.TextPrintsCardSaid :=
 Claim7.holds_tied_plain_at .later [] [.data,.data,.data,.data,.sentinel,.sentinel,.pinned] true (true,"884f91fcede66cb50dd3708c697445f2eb294473f33ea99f843fc50d1bf3554c") true
  over (fun _ h=>by cases h) (by kernel_rfl) (fun _ h=>by cases h) Ay5 rfl ⟨rfl,rfl⟩ (by kernel_rfl) rfl
  (fun f fn hf hfn=>by
    obtain rfl:f=5:=Option.some.inj ((show Tryz.prog.funcNamed "probity/probitylaw02.TextPrints"=some 5 by kernel_rfl).symm.trans hf) |>.symm
    obtain rfl:fn=Tryz.f5:=(Option.some.inj (Tryz.func5.symm.trans hfn)).symm
    exact⟨by kernel_rfl,fun j t ht=>by
     rw[Tryz.params5]at ht;have hm:t∈[22,52,52]:=by simpa using Array.mem_of_getElem? ht
     have Fp:([22,52,52].all fun u=> !Tryz.prog.wantsStandIn u)=true:=by kernel_rfl
     exact(show Tryz.prog.wantsStandIn t=false by simpa using List.all_eq_true.1 Fp t hm)⟩)
  (by kernel_rfl)
#print axioms proved
end Go.Proofs.YtbcanmagihejhaaGreatDoor.textPrints
