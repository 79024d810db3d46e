/- The walk of Ip, from the tG package-level Dc and the arguments. -/
import Derived.Test.YtckchelhlpifiaaGreatDoorWC
set_option linter.unusedSimpArgs false
set_option linter.unusedVariables false
set_option linter.defProp false
set_option maxHeartbeats 32000000
set_option maxRecDepth 100000
namespace Go.Proofs.YtckchelhlpifiaaGreatDoor
open Go Go.ChangeShapes Go.WideShapes Go.ChangeAt Go.RowKit
def nv (m:Nat):Ab.KQ.FB Tryz.prog (m+6) 23=true:=by kernel_rfl
def ui (m:Nat):Ab.KQ.FB Tryz.prog (m+6) 9=true:=by kernel_rfl
def oA (m:Nat):Ab.KQ.FB Tryz.prog (m+6) 25=true:=by kernel_rfl
def AK7 {P:Program}{Z:Ab.St}{t:TypeId}{f:Nat}{cs:List Value}(ht:P.underlying t=some .string) (h:Ab.KQ.CL P Z f t cs):∃ s,cs=[.string s]:=by
 cases f with
 |zero=>exact h.elim
 | succ f=>
   unfold Ab.KQ.CL at h;rw[ht]at h;obtain⟨s,h1,-⟩:=h;exact⟨s,h1⟩
def aN {H:Type}{enc:TypeId×Value->H}{f0 f1 f2:Nat}{x0 x1 x2:DataW H×List MemPlace}(cs0 cs1:Array Value) (s:ByteArray){w:World}(h0:DataW.trod enc Tryz.prog w 0 (fun _=>true) true f0 23 cs0.toList=some x0) (h1:DataW.trod enc Tryz.prog w 0 (fun _=>true) true f1 25 cs1.toList=some x1) (h2:DataW.trod enc Tryz.prog w 0 (fun _=>true) true f2 9 [.string s]=some x2) (hd0:Ab.KQ.FB Tryz.prog f0 23=true) (hd1:Ab.KQ.FB Tryz.prog f1 25=true) (hd2:Ab.KQ.FB Tryz.prog f2 9=true)
  (hs:s.data.toList.length<=9223372036854775807) (hg:8<=w.heap.size) (hE:T.Lk w) {arr:Array Value}{e:TypeId}{f:Nat×Nat} (hc:w.heap[1]? =some (.cells arr e f)) (h20:arr.size=20) (hp:∀ (i:Nat) (v:Value),T.BG[i]? =some v->arr[i]? =some v) :
  Calls Tryz.prog 3 #[.agg cs0,.agg cs1,.string s] w fun e w'=>e= .returned (.bool true)/\Below w.heap.size w w':=by
 let A8:Ab.Env:=⟨w.heap.size,fun n c=>Ab.codeOk Tryz.prog n 8 c,w⟩
 have ML:∀ n c,A8.chk n c=Ab.codeOk Tryz.prog n 8 c:=fun _ _=>rfl;obtain⟨O,hI⟩:=jY (A8:=A8) rfl rfl hg hc h20 hp;obtain⟨Z1,O1,c0,i1,k1,l1,v1,a1,t1⟩:=Ab.KQ.imp (A8:=A8) (Nat.le_refl _) f0 23 _ _ h0 hd0 _ O hI;obtain⟨Z2,O2,c1,i2,k2,l2,v2,a2,t2⟩:=Ab.KQ.imp (A8:=A8) (Nat.le_refl _) f1 25 _ _ h1 hd1 Z1 O1 i1;obtain⟨Z3,O3,c2,i3,k3,l3,v3,a3,t3⟩:=Ab.KQ.imp (A8:=A8) (Nat.le_refl _) f2 9 _ _ h2 hd2 Z2 O2 i2;obtain⟨u0,u1,m0,m1,rfl,g0,g1,y0,y1⟩:=T.AK8 a1;obtain⟨q0,q1,q2,rfl,n0,n1,n2⟩:=T.gh a2;obtain⟨s',rfl⟩:=AK7 Tryz.underlying9 a3;have Av6:=T.vw ((k1.trans k2).trans k3);have e0:cs0=⟨cs0.toList⟩:=rfl;have e1:cs1=⟨cs1.toList⟩:=rfl;rw[e0,e1];cases v3 with
 | cons vv vn=>
   cases vn;cases vv with
   |H5 hvv=>
   have hev:=T.Uo (raw:=s.data.toList) (g0.J3 (T.fC (k2.trans k3))) (g1.J3 (T.fC (k2.trans k3))) y0 y1 hs n0 n1 n2 Av6 (Nat.lt_of_lt_of_le (show(1:Nat)<9 by omega) ((k1.trans k2).trans k3).n);refine(Ab.YB (A8:=A8) T.mixed ML T.bJ (T.vx ML hg hE) Tryz.func3 rfl hev i3.rel i3.free i3.Ad5 (.cons (.agg t1 (v1.mono (Ab.Place.le_trans l2 l3))) (.cons (.agg t2 (v2.mono l3)) (.cons (.H5 rfl) .nil)))).mono ?_;rintro en w' ⟨r,v',O',⟨Z',rfl⟩,rfl,r1,r2,r3⟩;exact⟨by cases r3;rfl,pU i3.own r2⟩
end Go.Proofs.YtckchelhlpifiaaGreatDoor
