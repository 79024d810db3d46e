/- UR: two lists of numbers, a byte. -/
import Derived.Test.YtgjocfjdecjhoaaGreatDoorWA
import Derived.Test.YtgjocfjdecjhoaaGreatDoorTT
set_option linter.unusedSimpArgs false
set_option linter.unusedVariables false
set_option linter.defProp false
set_option maxHeartbeats 32000000
set_option maxRecDepth 100000
namespace Go.Proofs.T
open Go Go.Ab Go.Ab.NU
section
variable {Z:St}{f:Nat}{cs:List Value}{P:Program}
def qh {t e:TypeId}{n:Nat}(ht:P.underlying t=some (.array n e))(h:DX P Z f t cs):∃ (g:Nat) (ps:List (List Value)),cs=ps.flatten/\ps.length=n/\∀ p∈ps,DX P Z g e p:=by
 cases f with
 |zero=>exact h.elim
 | succ f=>
   unfold DX at h;rw[ht]at h;obtain⟨ps,h1,h2,h3⟩:=h;exact⟨f,ps,h1,h2,fun p hp=>(h3 p hp).2⟩
def AJ2 (h:DX Tryz.prog Z f 23 cs):∃ v0 v1 l0 l1,cs=[v0,v1]/\Aw Z v0 l0/\Aw Z v1 l1/\l0.length<=9223372036854775807/\l1.length<=9223372036854775807:=by
 obtain⟨g,ps,rfl,p1,p2⟩:=qh Tryz.underlying23 h
 match ps,p1,p2 with
 | [x0,x1],_,p2=>
   obtain⟨v0,l0,rfl,m0⟩:=Uz Tryz.underlying22 Tryz.underlying3 kR (p2 x0 (by simp));obtain⟨v1,l1,rfl,m1⟩:=Uz Tryz.underlying22 Tryz.underlying3 kR (p2 x1 (by simp));exact⟨v0,v1,l0,l1,rfl,m0,m1,bP Tryz.underlying22 (p2 _ (by simp)) m0,bP Tryz.underlying22 (p2 [v1] (by simp)) m1⟩
def u8_in {t:TypeId}(ht:P.underlying t=some (.int .u8))(h:DX P Z f t cs):∃ n:Nat,cs=[.int .u8 (n:Nat)]/\n<256:=by
 cases f with
 |zero=>exact h.elim
 | succ f=>
   unfold DX at h;rw[ht]at h;obtain⟨n,h1,h2⟩:=h;have e1:IntKind.u8.min=0:=rfl;have e2:IntKind.u8.max=255:=rfl;simp only[Lit.wf,Q7,Dn,e1,e2]at h2;refine⟨n.toNat,?_,om⟩;rw[h1,show(n.toNat:Int)=n by omega]
end
end Go.Proofs.T
namespace Go.Proofs.YtgjocfjdecjhoaaGreatDoor
open Go Go.ChangeShapes Go.WideShapes Go.ChangeAt Go.RowKit
def mq (m:Nat):Ab.NU.Eo Tryz.prog (m+6) 23=true:=by kernel_rfl
def vG (m:Nat):Ab.NU.Eo Tryz.prog (m+6) 5=true:=by kernel_rfl
def bO {H:Type}{enc:TypeId×Value->H}{f0 f1 f2:Nat}{x0 x1 x2:DataW H×List MemPlace}(sa:Option Addr) (sl sc:Nat) (cs1:Array Value) (u:Value){w:World}(h0:DataW.trod enc Tryz.prog w 0 (fun _=>true) true f0 22 [.slice sa sl sc]=some x0) (h1:DataW.trod enc Tryz.prog w 0 (fun _=>true) true f1 23 cs1.toList=some x1) (h2:DataW.trod enc Tryz.prog w 0 (fun _=>true) true f2 5 [u]=some x2) (hd0:Ab.NU.Eo Tryz.prog f0 22=true) (hd1:Ab.NU.Eo Tryz.prog f1 23=true) (hd2:Ab.NU.Eo Tryz.prog f2 5=true)
  (hg:10<=w.heap.size) (hE:T.LK w) {arr:Array Value}{e:TypeId}{f:Nat×Nat} (hc:w.heap[0]? =some (.cells arr e f)) (h20:arr.size=20) (hp:∀ (i:Nat) (v:Value),T.AE[i]? =some v->arr[i]? =some v) :
  Calls Tryz.prog 3 #[.slice sa sl sc,.agg cs1,u] w fun e w'=>e= .returned (.bool true)/\Below w.heap.size w w':=by
 let B8:Ab.Env:=⟨w.heap.size,fun n c=>Ab.codeOk Tryz.prog n 10 c,w⟩
 have Fu:∀ n c,B8.chk n c=Ab.codeOk Tryz.prog n 10 c:=fun _ _=>rfl;obtain⟨O,hI⟩:=jH (B8:=B8) rfl rfl hg hc h20 hp;obtain⟨Z1,O1,c0,i1,k1,l1,v1,a1,t1⟩:=Ab.NU.imp (B8:=B8) (Nat.le_refl _) f0 22 _ _ h0 hd0 _ O hI;obtain⟨Z2,O2,c1,i2,k2,l2,v2,a2,t2⟩:=Ab.NU.imp (B8:=B8) (Nat.le_refl _) f1 23 _ _ h1 hd1 Z1 O1 i1;obtain⟨Z3,O3,c2,i3,k3,l3,v3,a3,t3⟩:=Ab.NU.imp (B8:=B8) (Nat.le_refl _) f2 5 _ _ h2 hd2 Z2 O2 i2;obtain⟨u0,m0,rfl,g0⟩:=T.Uz Tryz.underlying22 Tryz.underlying3 (by kernel_rfl) a1;have y0:=T.bP Tryz.underlying22 a1 g0;obtain⟨w0,w1,ls0,ls1,rfl,g1,g2,n0,n1⟩:=T.AJ2 a2;obtain⟨q,rfl,hq⟩:=T.u8_in Tryz.underlying5 a3;have Au1:=T.vH ((k1.trans k2).trans k3);have e1:cs1=⟨cs1.toList⟩:=rfl;rw[e1];have hev:=T.XL (n:=(q:Nat)) (g0.H4 (T.VA (k2.trans k3))) y0 (g1.H4 (T.VA k3)) n0 (g2.H4 (T.VA k3)) n1 (by omega) (by omega) Au1 (Nat.lt_of_lt_of_le (show(0:Nat)<11 by omega) ((k1.trans k2).trans k3).n);cases v1 with
 | cons vv vn=>
   cases vn;cases v3 with
   | cons vu vm=>
     cases vm;refine(Ab.XM (B8:=B8) T.mixed Fu T.bQ (T.vI Fu hg hE) Tryz.func3 rfl hev i3.rel i3.free i3.Af3 (.cons (vv.mono (Ab.Place.le_trans l2 l3)) (.cons (.agg t2 (v2.mono l3)) (.cons vu .nil)))).mono ?_;rintro en w' ⟨r,v',O',⟨Z',rfl⟩,rfl,r1,r2,r3⟩;exact⟨by cases r3;rfl,mr i3.own r2⟩
end Go.Proofs.YtgjocfjdecjhoaaGreatDoor
