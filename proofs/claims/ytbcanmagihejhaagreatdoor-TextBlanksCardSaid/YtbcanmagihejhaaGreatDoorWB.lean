/- The law on second lines and missing ones: the walk. -/
import Derived.Test.YtbcanmagihejhaaGreatDoorRF
import Derived.Test.YtbcanmagihejhaaGreatDoorPC
set_option linter.unusedSimpArgs false
set_option linter.unusedVariables false
namespace Go.Proofs.T
open Go Go.Ab
set_option maxRecDepth 100000
theorem sub_at {α:Type}{s:List α}{k:Nat}{b:α}(h:s[k]? =some b):sub s k 1=some [b]:=by
 obtain ⟨hk,rfl⟩:=List.getElem?_eq_some_iff.1 h
 rw [sub_of om,List.drop_eq_getElem_cons hk];rfl
theorem ten_of {b:UInt8}:(b=10/\decide ((b.toNat:Int)=10)=true)\/(b≠10/\decide ((b.toNat:Int)=10)=false):=by
 by_cases h:b=10
 ·subst h;exact .inl ⟨rfl,rfl⟩
 ·refine .inr ⟨h,decide_eq_false fun e=>h ?_⟩
  have:b.toNat=10:=om
  exact UInt8.toNat_inj.1 this
end Go.Proofs.T
