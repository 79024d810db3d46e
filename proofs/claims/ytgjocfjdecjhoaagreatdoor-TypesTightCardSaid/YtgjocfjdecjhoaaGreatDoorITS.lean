/- RO the listed X0 lay: the row of the AU7 of ten. -/
import Derived.Test.YtgjocfjdecjhoaaGreatDoorITDoor
import Derived.Test.YtgjocfjdecjhoaaGreatDoorRows
import Derived.ProofKit
import Derived.OpenShut
import Derived.ShutString
import Derived.LaidMore
import Derived.SevenTiedAt
set_option linter.unusedSimpArgs false
set_option linter.unusedVariables false
set_option linter.defProp false
set_option maxHeartbeats 32000000
set_option maxRecDepth 100000
namespace Go.Proofs.YtgjocfjdecjhoaaGreatDoor
open Go Go.ChangeShapes Go.WideShapes Go.ChangeAt Go.RowKit
def qS {H:Type}{enc:TypeId×Value->H}{P:Program}{w:World}{a:Nat->Bool}{held:Bool}{m:Nat}{e:TypeId}{cs:List Value}{l:Int}{q:List MemPlace}(ht:P.underlying e=some (.int .u64)) (h:DataW.trod enc P w 0 a held m e cs=some (.lit (.int .u64 l),q)):cs=[.int .u64 l]:=by
 cases m with
 |zero=>simp[DataW.trod]at h
 | succ m=>
   unfold DataW.trod at h;rw[ht]at h;split at h<;>simp_all
def AK7 {W:World}(h:laidMetH Tryz.prog Rows.typesTurnedRow.laid W):∃ (arr:Array Value) (e:TypeId) (f:Nat×Nat),W.heap[0]? =some (.cells arr e f)/\arr.size=20/\∀ (i:Nat) (v:Value),T.AO[i]? =some v->arr[i]? =some v:=by
 rw[MakeChecks.laidMetH_plain _ _ _ (by kernel_rfl)]at h;obtain⟨ps,b,-,-⟩:=h;obtain⟨g0,t0,cs0,f0,p0,q0,hg0,ht0,hv0,hd0,b,-⟩:=b;obtain⟨g1,t1,cs1,f1,p1,q1,hg1,ht1,hv1,hd1,b,-⟩:=b;obtain⟨g2,t2,cs2,f2,p2,q2,hg2,ht2,hv2,hd2,-,-⟩:=b;have e:Tryz.prog.globalNamed "internal/strconv.uint64pow10"=some 0:=by kernel_rfl
 obtain rfl:=Option.some.inj (e.symm.trans hg2);have u:(Tryz.prog.globals[0]?).map (·.type)=some 253:=by kernel_rfl
 obtain rfl:=Option.some.inj (u.symm.trans ht2);simp only[World.var?,hg2,Option.bind_some]at hv2;have D:Tryz.prog.underlying 253=some (.array 20 101):=by kernel_rfl
 obtain⟨xs,m,-,E,a,F,hi⟩:=DataW.trod_array D hd2;have j:Tryz.prog.cellsOf 101=1:=by kernel_rfl
 have o:xs.map (·.1)=[1,10,100,1000,10000,100000,1000000,10000000,100000000,1000000000,10000000000,100000000000,1000000000000,10000000000000,100000000000000,1000000000000000,10000000000000000,100000000000000000,1000000000000000000,10000000000000000000].map fun n=>DataW.lit (.int .u64 n):=by
  have:=congrArg Prod.fst E;injection this with c;exact c.symm
 have key:∀ (i:Nat) (v:Value),T.AO[i]? =some v->cs2.toList[i]? =some v:=by
  intro i v g;have l:T.AO=([1,10,100,1000,10000,100000,1000000,10000000,100000000,1000000000,10000000000,100000000000,1000000000000,10000000000000,100000000000000,1000000000000000,10000000000000000,100000000000000000,1000000000000000000,10000000000000000000]:List Int).map fun n=>Value.int .u64 n:=rfl;rw[l,List.getElem?_map]at g;obtain⟨n,s,rfl⟩:=Option.map_eq_some_iff.1 g;have k:i<20:=(List.getElem?_eq_some_iff.1 s).1;have c:(xs.map (·.1))[i]? =some (.lit (.int .u64 n)):=by rw[o,List.getElem?_map,s];rfl
  rw[List.getElem?_map]at c;obtain⟨⟨d,q⟩,y,z⟩:=Option.map_eq_some_iff.1 c;cases z;have p:=hi i k;rw[y,j,Nat.mul_one]at p;have A:=qS (by kernel_rfl) p;have r:((cs2.toList.drop i).take 1)[0]? =some (.int .u64 n):=by rw[A];rfl
  rw[List.getElem?_take,if_pos (by omega),List.getElem?_drop,Nat.add_zero]at r;exact r
 split at hv2
 ·rename_i arr e f C;cases hv2
  exact ⟨_,_,_,C,by have B:Tryz.prog.cellsOf 253=20:=by kernel_rfl
                    rw[B]at a;simpa using a,fun i v g=>by have:=key i v g;simpa using this⟩
 ·cases hv2
def PW:Ab.Rl T.start:=fun b C h=>by obtain⟨-,rfl⟩:=T.EH h;rfl
def Yt {B8:Ab.Env}{w:World}(E:B8.lo=w.heap.size) (p:B8.w0=w) (F:10<=w.heap.size){arr:Array Value}{e:TypeId}{f:Nat×Nat}(u:w.heap[0]? =some (.cells arr e f)) (l:arr.size=20) (s:∀ (i:Nat) (v:Value),T.AO[i]? =some v->arr[i]? =some v) :
  ∃ O,Ab.Rel B8 O T.start w/\Ab.Bw O 10/\∀ b,T.start.n<=b->O b=none:=by
 refine⟨fun b=>if b=0 then some ⟨0,0,arr.size⟩else if b<10 then some ⟨b,0,0⟩else none,⟨fun b d=>?_,fun b q C a j=>?_,fun b q a=>?_,fun b q C _ j o=>?_,fun b q C B H _ j o=>?_,by omega,fun _ _=>by rw[p]⟩,fun g m=>?_,fun b d=>?_⟩
 ·show(Ab.Tr.nil.set 0 (⟨T.AO,true,false,0,.row none⟩:Ab.Blk)).get b=none;have z:10<=b:=d;rw[Ab.Tr.BF,if_neg (by omega)];rfl
 ·obtain⟨rfl,rfl⟩:=T.EH j;rw[if_pos rfl]at a;cases a;obtain⟨lo,hi⟩:=f;have G:T.AO.length=20:=rfl;have c:∃ v,T.AO[19]? =some v:=⟨_,rfl⟩
  obtain⟨r,c⟩:=c;have A:19<arr.size:=by
   have:=s 19 r c;exact(Array.getElem?_eq_some_iff.1 this).1
  refine .row rfl ⟨arr,e,lo,hi,u,rfl,by show 0+T.AO.length<=arr.size;omega,fun h=>?_,fun v k=>(T.Kn v k).1,fun i v k=>?_⟩ Ab.Typed.none
  ·have D:B8.lo<=0:=h;omega
  ·obtain⟨n,rfl⟩:=(T.Kn v (List.mem_of_getElem? k)).2;exact⟨_,by show arr[0+i]? =_;rw[Nat.zero_add];exact s i _ k,.I3 rfl⟩
 ·split at a
  ·cases a;show 0<w.heap.size;omega
  ·split at a
   ·cases a;show b<w.heap.size;omega
   ·cases a
 ·obtain⟨rfl,rfl⟩:=T.EH j;cases o
 ·obtain⟨rfl,rfl⟩:=T.EH j;cases o
 ·by_cases h:g=0
  ·subst h;exact⟨_,if_pos rfl,fun _ _=>l⟩
  ·exact⟨0,by show(if g=0 then _ else if g<10 then _ else none)=_;rw[if_neg h,if_pos m],fun y _=>absurd y h⟩
 ·have z:10<=b:=d;show(if b=0 then _ else if b<10 then _ else none)=none;rw[if_neg (by omega),if_neg (by omega)]
end Go.Proofs.YtgjocfjdecjhoaaGreatDoor
