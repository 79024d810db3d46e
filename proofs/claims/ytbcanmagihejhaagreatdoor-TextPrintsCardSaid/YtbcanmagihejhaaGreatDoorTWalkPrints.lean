/- The walk of GY, from the uj package-level Cy and the arguments. -/
import Derived.Test.YtbcanmagihejhaaGreatDoorWB
set_option linter.unusedSimpArgs false
set_option linter.unusedVariables false
set_option linter.defProp false
set_option maxHeartbeats 32000000
set_option maxRecDepth 100000
namespace Go.Proofs.YtbcanmagihejhaaGreatDoor
open Go Go.ChangeShapes Go.WideShapes Go.ChangeAt Go.RowKit
def Zf (m:Nat):Ab.PG.Fz Tryz.prog (m+6) 52=true:=by kernel_rfl
def dN {H:Type}{enc:TypeId×Value->H}{f0 f1 f2:Nat}{x0 x1 x2:DataW H×List MemPlace}(sa:Option Addr) (sl sc:Nat) (cs1 cs2:Array Value){w:World}(h0:DataW.trod enc Tryz.prog w 0 (fun _=>true) true f0 22 [.slice sa sl sc]=some x0) (h1:DataW.trod enc Tryz.prog w 0 (fun _=>true) true f1 52 cs1.toList=some x1) (h2:DataW.trod enc Tryz.prog w 0 (fun _=>true) true f2 52 cs2.toList=some x2) (hd0:Ab.PG.Fz Tryz.prog f0 22=true) (hd1:Ab.PG.Fz Tryz.prog f1 52=true) (hd2:Ab.PG.Fz Tryz.prog f2 52=true)
  (hg:8<=w.heap.size) (hE:T.Lz w) {arr:Array Value}{e:TypeId}{f:Nat×Nat} (hc:w.heap[1]? =some (.cells arr e f)) (h20:arr.size=20) (hp:∀ (i:Nat) (v:Value),T.T7[i]? =some v->arr[i]? =some v) :
  Calls Tryz.prog 5 #[.slice sa sl sc,.agg cs1,.agg cs2] w fun e w'=>e= .returned (.bool true)/\Below w.heap.size w w':=by
 let A9:Ab.Env:=⟨w.heap.size,fun n c=>Ab.codeOk Tryz.prog n 8 c,w⟩
 have MV:∀ n c,A9.chk n c=Ab.codeOk Tryz.prog n 8 c:=fun _ _=>rfl;obtain⟨O,hI⟩:=mA (A9:=A9) rfl rfl hg hc h20 hp;obtain⟨Z1,O1,c0,i1,k1,l1,v1,a1,t1⟩:=Ab.PG.imp (A9:=A9) (Nat.le_refl _) f0 22 _ _ h0 hd0 _ O hI;obtain⟨Z2,O2,c1,i2,k2,l2,v2,a2,t2⟩:=Ab.PG.imp (A9:=A9) (Nat.le_refl _) f1 52 _ _ h1 hd1 Z1 O1 i1;obtain⟨Z3,O3,c2,i3,k3,l3,v3,a3,t3⟩:=Ab.PG.imp (A9:=A9) (Nat.le_refl _) f2 52 _ _ h2 hd2 Z2 O2 i2;obtain⟨u0,m0,rfl,g0⟩:=T.ye Tryz.underlying22 Tryz.underlying3 (by kernel_rfl) a1;have y0:=T.AT9 Tryz.underlying22 a1 g0;obtain⟨q0,q1,q2,rfl,n0,n1,n2⟩:=T.Zg a2;obtain⟨r0,r1,r2,rfl,o0,o1,o2⟩:=T.Zg a3;have BF0:=T.yf ((k1.trans k2).trans k3);have e1:cs1=⟨cs1.toList⟩:=rfl;have e2:cs2=⟨cs2.toList⟩:=rfl;rw[e1,e2];have hev:=T.Ze (g0.I4 (T.yg (k2.trans k3))) y0 n0 n1 n2 o0 o1 o2 BF0 (Nat.lt_of_lt_of_le (show(1:Nat)<9 by omega) ((k1.trans k2).trans k3).n);cases v1 with
 | cons vv vn=>
   cases vn;refine(Ab.Zh (A9:=A9) T.mixed MV T.dP (T.yh MV hg hE) Tryz.func5 rfl hev i3.rel i3.free i3.Al3 (.cons (vv.mono (Ab.Place.le_trans l2 l3)) (.cons (.agg t2 (v2.mono l3)) (.cons (.agg t3 v3) .nil)))).mono ?_;rintro en w' ⟨r,v',O',⟨Z',rfl⟩,rfl,r1,r2,r3⟩;exact⟨by cases r3;rfl,tI i3.own r2⟩
end Go.Proofs.YtbcanmagihejhaaGreatDoor
