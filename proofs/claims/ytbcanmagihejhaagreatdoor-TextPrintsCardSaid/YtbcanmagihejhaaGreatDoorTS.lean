/- SX the listed Cy lay: the row of the AI2 of ten. -/
import Derived.Test.YtbcanmagihejhaaGreatDoorTDoor
import Derived.Test.YtbcanmagihejhaaGreatDoorRows
import Derived.ProofKit
import Derived.OpenShut
import Derived.ShutString
import Derived.LaidMore
import Derived.SevenTiedAt
set_option linter.unusedSimpArgs false
set_option linter.unusedVariables false
set_option linter.defProp false
set_option maxHeartbeats 32000000
set_option maxRecDepth 100000
namespace Go.Proofs.YtbcanmagihejhaaGreatDoor
open Go Go.ChangeShapes Go.WideShapes Go.ChangeAt Go.RowKit
def oG {H:Type}{enc:TypeId×Value->H}{P:Program}{w:World}{a:Nat->Bool}{held:Bool}{m:Nat}{e:TypeId}{cs:List Value}{l:Int}{q:List MemPlace}(ht:P.underlying e=some (.int .u64)) (h:DataW.trod enc P w 0 a held m e cs=some (.lit (.int .u64 l),q)):cs=[.int .u64 l]:=by
 cases m with
 |zero=>simp[DataW.trod]at h
 | succ m=>
   unfold DataW.trod at h;rw[ht]at h;split at h<;>simp_all
def Ag3 {W:World}(h:laidMetH Tryz.prog Rows.textManyRow.laid W):∃ (arr:Array Value) (e:TypeId) (f:Nat×Nat),W.heap[1]? =some (.cells arr e f)/\arr.size=20/\∀ (i:Nat) (v:Value),T.T7[i]? =some v->arr[i]? =some v:=by
 rw[MakeChecks.laidMetH_plain _ _ _ (by kernel_rfl)]at h;obtain⟨H,b,-,-⟩:=h;obtain⟨g0,t0,cs0,f0,p0,q0,hg0,ht0,hv0,hd0,b,-⟩:=b;obtain⟨g1,t1,cs1,f1,p1,q1,hg1,ht1,hv1,hd1,b,-⟩:=b;obtain⟨g2,t2,cs2,f2,p2,q2,hg2,ht2,hv2,hd2,-,-⟩:=b;have e:Tryz.prog.globalNamed "internal/strconv.uint64pow10"=some 1:=by kernel_rfl
 obtain rfl:=Option.some.inj (e.symm.trans hg2);have y:(Tryz.prog.globals[1]?).map (·.type)=some 235:=by kernel_rfl
 obtain rfl:=Option.some.inj (y.symm.trans ht2);simp only[World.var?,hg2,Option.bind_some]at hv2;have E:Tryz.prog.underlying 235=some (.array 20 180):=by kernel_rfl
 obtain⟨xs,m,-,F,a,G,hi⟩:=DataW.trod_array E hd2;have j:Tryz.prog.cellsOf 180=1:=by kernel_rfl
 have p:xs.map (·.1)=[1,10,100,1000,10000,100000,1000000,10000000,100000000,1000000000,10000000000,100000000000,1000000000000,10000000000000,100000000000000,1000000000000000,10000000000000000,100000000000000000,1000000000000000000,10000000000000000000].map fun n=>DataW.lit (.int .u64 n):=by
  have:=congrArg Prod.fst F;injection this with c;exact c.symm
 have key:∀ (i:Nat) (v:Value),T.T7[i]? =some v->cs2.toList[i]? =some v:=by
  intro i v g;have o:T.T7=([1,10,100,1000,10000,100000,1000000,10000000,100000000,1000000000,10000000000,100000000000,1000000000000,10000000000000,100000000000000,1000000000000000,10000000000000000,100000000000000000,1000000000000000000,10000000000000000000]:List Int).map fun n=>Value.int .u64 n:=rfl;rw[o,List.getElem?_map]at g;obtain⟨n,u,rfl⟩:=Option.map_eq_some_iff.1 g;have l:i<20:=(List.getElem?_eq_some_iff.1 u).1;have c:(xs.map (·.1))[i]? =some (.lit (.int .u64 n)):=by rw[p,List.getElem?_map,u];rfl
  rw[List.getElem?_map]at c;obtain⟨⟨d,q⟩,z,A⟩:=Option.map_eq_some_iff.1 c;cases A;have r:=hi i l;rw[z,j,Nat.mul_one]at r;have B:=oG (by kernel_rfl) r;have s:((cs2.toList.drop i).take 1)[0]? =some (.int .u64 n):=by rw[B];rfl
  rw[List.getElem?_take,if_pos (by omega),List.getElem?_drop,Nat.add_zero]at s;exact s
 split at hv2
 ·rename_i arr e f D;cases hv2
  exact ⟨_,_,_,D,by have C:Tryz.prog.cellsOf 235=20:=by kernel_rfl
                    rw[C]at a;simpa using a,fun i v g=>by have:=key i v g;simpa using this⟩
 ·cases hv2
def OO:Ab.QF T.start:=fun b C h=>by obtain⟨-,rfl⟩:=T.EE h;rfl
def XD {A9:Ab.Env}{w:World}(F:A9.lo=w.heap.size) (r:A9.w0=w) (G:8<=w.heap.size){arr:Array Value}{e:TypeId}{f:Nat×Nat}(y:w.heap[1]? =some (.cells arr e f)) (m:arr.size=20) (u:∀ (i:Nat) (v:Value),T.T7[i]? =some v->arr[i]? =some v) :
  ∃ O,Ab.Rel A9 O T.start w/\Ab.CL O 8/\∀ b,T.start.n<=b->O b=none:=by
 refine⟨fun b=>if b=1 then some ⟨1,0,arr.size⟩else if b<8 then some ⟨b,0,0⟩else none,⟨fun b d=>?_,fun b q C a j=>?_,fun b q a=>?_,fun b q C _ j p=>?_,fun b q C D I _ j p=>?_,by omega,fun _ _=>by rw[r]⟩,fun g o=>?_,fun b d=>?_⟩
 ·show(Ab.Tr.nil.set 1 (⟨T.T7,true,false,0,.row none⟩:Ab.Blk)).get b=none;have A:8<=b:=d;rw[Ab.Tr.N4,if_neg (by omega)];rfl
 ·obtain⟨rfl,rfl⟩:=T.EE j;rw[if_pos rfl]at a;cases a;obtain⟨lo,hi⟩:=f;have H:T.T7.length=20:=rfl;have c:∃ v,T.T7[19]? =some v:=⟨_,rfl⟩
  obtain⟨s,c⟩:=c;have B:19<arr.size:=by
   have:=u 19 s c;exact(Array.getElem?_eq_some_iff.1 this).1
  refine .row rfl ⟨arr,e,lo,hi,y,rfl,by show 0+T.T7.length<=arr.size;omega,fun h=>?_,fun v l=>(T.Jy v l).1,fun i v l=>?_⟩ Ab.Typed.none
  ·have E:A9.lo<=1:=h;omega
  ·obtain⟨n,rfl⟩:=(T.Jy v (List.mem_of_getElem? l)).2;exact⟨_,by show arr[0+i]? =_;rw[Nat.zero_add];exact u i _ l,.J8 rfl⟩
 ·split at a
  ·cases a;show 1<w.heap.size;omega
  ·split at a
   ·cases a;show b<w.heap.size;omega
   ·cases a
 ·obtain⟨rfl,rfl⟩:=T.EE j;cases p
 ·obtain⟨rfl,rfl⟩:=T.EE j;cases p
 ·by_cases h:g=1
  ·subst h;exact⟨_,if_pos rfl,fun _ _=>m⟩
  ·exact⟨0,by show(if g=1 then _ else if g<8 then _ else none)=_;rw[if_neg h,if_pos o],fun z _=>absurd z h⟩
 ·have A:8<=b:=d;show(if b=1 then _ else if b<8 then _ else none)=none;rw[if_neg (by omega),if_neg (by omega)]
end Go.Proofs.YtbcanmagihejhaaGreatDoor
