/- NH: two lists of numbers, a text, two numbers of ck bits. -/
import Derived.Test.YtckchelhlpifiaaGreatDoorWA
import Derived.Test.YtckchelhlpifiaaGreatDoorWB
set_option linter.unusedSimpArgs false
set_option linter.unusedVariables false
set_option linter.defProp false
set_option maxHeartbeats 32000000
set_option maxRecDepth 100000
namespace Go.Proofs.T
open Go Go.Ab Go.Ab.KQ
section
variable {Z:St}{f:Nat}{cs:List Value}{P:Program}
def Vn {t e:TypeId}{n:Nat}(ht:P.underlying t=some (.array n e))(h:CL P Z f t cs):∃ (g:Nat) (ps:List (List Value)),cs=ps.flatten/\ps.length=n/\∀ p∈ps,CL P Z g e p:=by
 cases f with
 |zero=>exact h.elim
 | succ f=>
   unfold CL at h;rw[ht]at h;obtain⟨ps,h1,h2,h3⟩:=h;exact⟨f,ps,h1,h2,fun p hp=>(h3 p hp).2⟩
def AK8 (h:CL Tryz.prog Z f 23 cs):∃ v0 v1 l0 l1,cs=[v0,v1]/\Y9 Z v0 l0/\Y9 Z v1 l1/\l0.length<=9223372036854775807/\l1.length<=9223372036854775807:=by
 obtain⟨g,ps,rfl,p1,p2⟩:=Vn Tryz.underlying23 h
 match ps,p1,p2 with
 | [x0,x1],_,p2=>
   obtain⟨v0,l0,rfl,m0⟩:=gA Tryz.underlying22 Tryz.underlying3 kR (p2 x0 (by simp));obtain⟨v1,l1,rfl,m1⟩:=gA Tryz.underlying22 Tryz.underlying3 kR (p2 x1 (by simp));exact⟨v0,v1,l0,l1,rfl,m0,m1,rQ Tryz.underlying22 (p2 _ (by simp)) m0,rQ Tryz.underlying22 (p2 [v1] (by simp)) m1⟩
def u16_in {t:TypeId}(ht:P.underlying t=some (.int .u16))(h:CL P Z f t cs):∃ n:Nat,cs=[.int .u16 (n:Nat)]/\n<65536:=by
 cases f with
 |zero=>exact h.elim
 | succ f=>
   unfold CL at h;rw[ht]at h;obtain⟨n,h1,h2⟩:=h;have e1:IntKind.u16.min=0:=rfl;have e2:IntKind.u16.max=65535:=rfl;simp only[Lit.wf,y6,IK,e1,e2]at h2;refine⟨n.toNat,?_,om⟩;rw[h1,show(n.toNat:Int)=n by omega]
end
def gh {Z:St}{f:Nat}{cs:List Value}(h:CL Tryz.prog Z f 25 cs):∃ q0 q1 q2:Nat,cs=[.int .u16 (q0:Nat),.int .u16 (q1:Nat),.int .u16 (q2:Nat)]/\q0<65536/\q1<65536/\q2<65536:=by
 obtain⟨g,ps,rfl,p1,p2⟩:=Vn Tryz.underlying25 h
 match ps,p1,p2 with
 | [x0,x1,x2],_,p2=>
   obtain⟨a0,rfl,m0⟩:=u16_in Tryz.underlying24 (p2 x0 (by simp));obtain⟨a1,rfl,m1⟩:=u16_in Tryz.underlying24 (p2 x1 (by simp));obtain⟨a2,rfl,m2⟩:=u16_in Tryz.underlying24 (p2 x2 (by simp));exact⟨a0,a1,a2,rfl,m0,m1,m2⟩
end Go.Proofs.T
