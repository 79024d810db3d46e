/- probitylaw03.TypesTight returns true for every input, and each argument reads CO as it read before; where the listed package-level X0 hold what the X6 text RJ. -/
import Derived.Test.YtgjocfjdecjhoaaGreatDoorITTigB
import Derived.Test.YtgjocfjdecjhoaaGreatDoorITTieG
set_option linter.unusedSimpArgs false
set_option linter.unusedVariables false
set_option linter.defProp false
set_option maxHeartbeats 32000000
set_option maxRecDepth 100000
namespace Go.Proofs.YtgjocfjdecjhoaaGreatDoor.typesTight
open Go Go.ChangeShapes Go.WideShapes Go.ChangeAt Go.RowKit
open Go.ChangeMaps (open_string shut_string)
set_option linter.unusedVariables false
theorem proved:Rows.TypesTightCardSaid :=
 Claim7.holds_tied_plain_at .later [] [.data,.data,.data,.data,.sentinel,.sentinel,.pinned] true (true,"b3b6d53f2c480d9f8d9c47f460a80e76f436af0f4602b41f8e68b2f39be5a596") true
  over (fun _ h=>by cases h) (by kernel_rfl) (fun _ h=>by cases h) AT8 rfl ⟨rfl,rfl⟩ (by kernel_rfl) rfl
  (fun f fn b a=>by
    obtain rfl:f=5:=Option.some.inj (named.symm.trans b) |>.symm;obtain rfl:fn=Tryz.f5:=(Option.some.inj (Tryz.func5.symm.trans a)).symm
    exact⟨by kernel_rfl,fun j t ht=>by
     rw[Tryz.params5]at ht;have c:t∈[22,22]:=by simpa using Array.mem_of_getElem? ht
     exact(show Tryz.prog.wantsStandIn t=false by simpa using List.all_eq_true.1 wanted t c)⟩)
  (by kernel_rfl)
#print axioms proved
end Go.Proofs.YtgjocfjdecjhoaaGreatDoor.typesTight
