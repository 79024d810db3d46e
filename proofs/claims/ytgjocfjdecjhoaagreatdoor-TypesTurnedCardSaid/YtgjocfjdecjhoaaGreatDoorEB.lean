/- VX of any kind, in bounds. -/
import Derived.Test.YtgjocfjdecjhoaaGreatDoorSA
set_option linter.unusedSimpArgs false
set_option linter.unusedVariables false
set_option linter.defProp false
set_option maxHeartbeats 32000000
set_option maxRecDepth 100000
namespace Go.Proofs.T
open Go Go.Ab
def SmW (n:Int):Prop:= -1<=n/\n<=1000000001
structure WkT (w m n:Nat) (T:Tn):Prop where
 name:T.name.length<=31
 u9:T.u9.length<=n
 lot:∀ l∈T.u9,SmW l.id/\SmW l.y8
 G9:T.G9.length<=n
 Du:∀ c∈T.G9,c.name.length<=31/\(1<=c.kind/\c.kind<=3)/\SmW c.low/\SmW c.high
 reqs:T.reqs.length<=n
 req:∀ r∈T.reqs,r.name.length<=31/\r.rel.length<=2/\SmW r.value
 AJ:T.AJ.length<=n
 tie:∀ s∈T.AJ,s.length<=31
 J9:T.J9.length<=n
 combo:∀ c∈T.J9,c.length<=12/\∀ k∈c,SmW k
 low:SmW T.low
 high:SmW T.high
 y8:SmW T.y8
 V9:SmW T.V9
 tim:SmW T.t.q/\SmW T.t.b/\SmW T.t.g/\SmW T.t.p/\SmW T.t.s
 f:WfE w T.f
 fp:R0 T.f<=m
end Go.Proofs.T
