/- Io.Ip returns true for every input, and each argument reads Lh as it read before; where the listed package-level Dc hold FV the GV text AI1. -/
import Derived.Test.YtckchelhlpifiaaGreatDoorTParsB
set_option linter.unusedSimpArgs false
set_option linter.unusedVariables false
set_option linter.defProp false
set_option maxHeartbeats 32000000
set_option maxRecDepth 100000
namespace Go.Proofs.YtckchelhlpifiaaGreatDoor.textParses
open Go Go.ChangeShapes Go.WideShapes Go.ChangeAt Go.RowKit
open Go.ChangeMaps (open_string shut_string)
set_option linter.unusedVariables false
theorem proved:Rows.TextParsesCardSaid :=
 Claim7.holds_tied_plain_at .later [] [.data,.data,.data,.data,.sentinel,.sentinel,.pinned] true (true,"83fad05e3a1a2846dc56c5532d0c2182e3cc6c8520b6f6da185a3a7f53f43ab9") true
  over (fun _ h=>by cases h) (by kernel_rfl) (fun _ h=>by cases h) textParses_row_tie rfl ⟨rfl,rfl⟩ (by kernel_rfl) rfl
  (fun f fn hf hfn=>by
    obtain rfl:f=3:=Option.some.inj ((show Tryz.prog.funcNamed "probity/probitylaw02.TextParses"=some 3 by kernel_rfl).symm.trans hf) |>.symm
    obtain rfl:fn=Tryz.f3:=(Option.some.inj (Tryz.func3.symm.trans hfn)).symm
    exact⟨by kernel_rfl,fun j t ht=>by
     rw[Tryz.params3]at ht;have hm:t∈[23,25,9]:=by simpa using Array.mem_of_getElem? ht
     have Fv:([23,25,9].all fun u=> !Tryz.prog.wantsStandIn u)=true:=by kernel_rfl
     exact(show Tryz.prog.wantsStandIn t=false by simpa using List.all_eq_true.1 Fv t hm)⟩)
  (by kernel_rfl)
#print axioms proved
end Go.Proofs.YtckchelhlpifiaaGreatDoor.textParses
