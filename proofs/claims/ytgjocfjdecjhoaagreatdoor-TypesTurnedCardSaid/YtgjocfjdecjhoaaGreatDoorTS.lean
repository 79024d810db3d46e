/- So the listed Cx lay: the row of the AL0 of ten. -/
import Derived.Test.YtgjocfjdecjhoaaGreatDoorTDoor
import Derived.Test.YtgjocfjdecjhoaaGreatDoorRows
import Derived.ProofKit
import Derived.OpenShut
import Derived.ShutString
import Derived.LaidMore
import Derived.SevenTiedAt
set_option linter.unusedSimpArgs false
set_option linter.unusedVariables false
set_option linter.defProp false
set_option maxHeartbeats 32000000
set_option maxRecDepth 100000
namespace Go.Proofs.YtgjocfjdecjhoaaGreatDoor
open Go Go.ChangeShapes Go.WideShapes Go.ChangeAt Go.RowKit
def nu {H:Type}{enc:TypeId×Value->H}{P:Program}{w:World}{spare:Nat->Bool}{held:Bool}{m:Nat}{e:TypeId}{cs:List Value}{l:Int}{q:List MemPlace}(ht:P.underlying e=some (.int .u64)) (h:DataW.trod enc P w 0 spare held m e cs=some (.lit (.int .u64 l),q)):cs=[.int .u64 l]:=by
 cases m with
 |zero=>simp[DataW.trod]at h
 | succ m=>
   unfold DataW.trod at h;rw[ht]at h;split at h<;>simp_all
def Ah2 {W:World}(h:laidMetH Tryz.prog Rows.typesTurnedRow.laid W):∃ (arr:Array Value) (e:TypeId) (f:Nat×Nat),W.heap[0]? =some (.cells arr e f)/\arr.size=20/\∀ (i:Nat) (v:Value),T.AE[i]? =some v->arr[i]? =some v:=by
 rw[MakeChecks.laidMetH_plain _ _ _ (by kernel_rfl)]at h;obtain⟨ps,hv,-,-⟩:=h;obtain⟨g0,t0,cs0,f0,p0,q0,hg0,ht0,hv0,hd0,hv,-⟩:=hv;obtain⟨g1,t1,cs1,f1,p1,q1,hg1,ht1,hv1,hd1,hv,-⟩:=hv;obtain⟨g2,t2,cs2,f2,p2,q2,hg2,ht2,hv2,hd2,-,-⟩:=hv;have e:Tryz.prog.globalNamed "internal/strconv.uint64pow10"=some 0:=by kernel_rfl
 obtain rfl:=Option.some.inj (e.symm.trans hg2);have et:(Tryz.prog.globals[0]?).map (·.type)=some 253:=by kernel_rfl
 obtain rfl:=Option.some.inj (et.symm.trans ht2);simp only[World.var?,hg2,Option.bind_some]at hv2;have hu:Tryz.prog.underlying 253=some (.array 20 101):=by kernel_rfl
 obtain⟨xs,m,-,hx,hlen,hxl,hi⟩:=DataW.trod_array hu hd2;have Ah3:Tryz.prog.cellsOf 101=1:=by kernel_rfl
 have hxm:xs.map (·.1)=[1,10,100,1000,10000,100000,1000000,10000000,100000000,1000000000,10000000000,100000000000,1000000000000,10000000000000,100000000000000,1000000000000000,10000000000000000,100000000000000000,1000000000000000000,10000000000000000000].map fun n=>DataW.lit (.int .u64 n):=by
  have:=congrArg Prod.fst hx;injection this with h1;exact h1.symm
 have key:∀ (i:Nat) (v:Value),T.AE[i]? =some v->cs2.toList[i]? =some v:=by
  intro i v hp;have hp':T.AE=([1,10,100,1000,10000,100000,1000000,10000000,100000000,1000000000,10000000000,100000000000,1000000000000,10000000000000,100000000000000,1000000000000000,10000000000000000,100000000000000000,1000000000000000000,10000000000000000000]:List Int).map fun n=>Value.int .u64 n:=rfl;rw[hp',List.getElem?_map]at hp;obtain⟨n,hn,rfl⟩:=Option.map_eq_some_iff.1 hp;have Av3:i<20:=(List.getElem?_eq_some_iff.1 hn).1;have h1:(xs.map (·.1))[i]? =some (.lit (.int .u64 n)):=by rw[hxm,List.getElem?_map,hn];rfl
  rw[List.getElem?_map]at h1;obtain⟨⟨d,q⟩,h2,h3⟩:=Option.map_eq_some_iff.1 h1;cases h3;have h4:=hi i Av3;rw[h2,Ah3,Nat.mul_one]at h4;have h5:=nu (by kernel_rfl) h4;have h6:((cs2.toList.drop i).take 1)[0]? =some (.int .u64 n):=by rw[h5];rfl
  rw[List.getElem?_take,if_pos (by omega),List.getElem?_drop,Nat.add_zero]at h6;exact h6
 split at hv2
 ·rename_i arr e f hh;cases hv2
  exact ⟨_,_,_,hh,by have hc:Tryz.prog.cellsOf 253=20:=by kernel_rfl
                     rw[hc]at hlen;simpa using hlen,fun i v hp=>by have:=key i v hp;simpa using this⟩
 ·cases hv2
def OW:Ab.QW T.start:=fun b C h=>by obtain⟨-,rfl⟩:=T.Dl h;rfl
def Xl {B8:Ab.Env}{w:World}(hb:B8.lo=w.heap.size) (hw0:B8.w0=w) (hg:10<=w.heap.size){arr:Array Value}{e:TypeId}{f:Nat×Nat}(h0:w.heap[0]? =some (.cells arr e f)) (h20:arr.size=20) (hp:∀ (i:Nat) (v:Value),T.AE[i]? =some v->arr[i]? =some v) :
  ∃ O,Ab.Rel B8 O T.start w/\Ab.Bm O 10/\∀ b,T.start.n<=b->O b=none:=by
 refine⟨fun b=>if b=0 then some ⟨0,0,arr.size⟩else if b<10 then some ⟨b,0,0⟩else none,⟨fun b hb'=>?_,fun b q C hq hC=>?_,fun b q hq=>?_,fun b q C _ hC ho=>?_,fun b q C b' q' _ hC ho=>?_,by omega,fun _ _=>by rw[hw0]⟩,fun g hg'=>?_,fun b hb'=>?_⟩
 ·show(Ab.Tr.nil.set 0 (⟨T.AE,true,false,0,.row none⟩:Ab.Blk)).get b=none;have h8:10<=b:=hb';rw[Ab.Tr.Au,if_neg (by omega)];rfl
 ·obtain⟨rfl,rfl⟩:=T.Dl hC;rw[if_pos rfl]at hq;cases hq;obtain⟨lo,hi⟩:=f;have hl:T.AE.length=20:=rfl;have h19:∃ v,T.AE[19]? =some v:=⟨_,rfl⟩
  obtain⟨v19,h19⟩:=h19;have hsz:19<arr.size:=by
   have:=hp 19 v19 h19;exact(Array.getElem?_eq_some_iff.1 this).1
  refine .row rfl ⟨arr,e,lo,hi,h0,rfl,by show 0+T.AE.length<=arr.size;omega,fun h=>?_,fun v hv=>(T.KJ v hv).1,fun i v hv=>?_⟩ Ab.Typed.none
  ·have h':B8.lo<=0:=h;omega
  ·obtain⟨n,rfl⟩:=(T.KJ v (List.mem_of_getElem? hv)).2;exact⟨_,by show arr[0+i]? =_;rw[Nat.zero_add];exact hp i _ hv,.I1 rfl⟩
 ·split at hq
  ·cases hq;show 0<w.heap.size;omega
  ·split at hq
   ·cases hq;show b<w.heap.size;omega
   ·cases hq
 ·obtain⟨rfl,rfl⟩:=T.Dl hC;cases ho
 ·obtain⟨rfl,rfl⟩:=T.Dl hC;cases ho
 ·by_cases h:g=0
  ·subst h;exact⟨_,if_pos rfl,fun _ _=>h20⟩
  ·exact⟨0,by show(if g=0 then _ else if g<10 then _ else none)=_;rw[if_neg h,if_pos hg'],fun h1 _=>absurd h1 h⟩
 ·have h8:10<=b:=hb';show(if b=0 then _ else if b<10 then _ else none)=none;rw[if_neg (by omega),if_neg (by omega)]
end Go.Proofs.YtgjocfjdecjhoaaGreatDoor
