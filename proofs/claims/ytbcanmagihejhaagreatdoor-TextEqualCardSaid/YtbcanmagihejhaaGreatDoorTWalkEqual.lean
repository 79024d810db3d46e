/- The walk of HU, from the kF package-level Cy and the arguments. -/
import Derived.Test.YtbcanmagihejhaaGreatDoorWA
import Derived.Test.YtbcanmagihejhaaGreatDoorWB
set_option linter.unusedSimpArgs false
set_option linter.unusedVariables false
set_option maxHeartbeats 32000000
set_option maxRecDepth 100000
namespace Go.Proofs.YtbcanmagihejhaaGreatDoor
open Go Go.ChangeShapes Go.WideShapes Go.ChangeAt Go.RowKit
theorem jB (m:Nat):Ab.Ou.Et Tryz.prog (m+6) 23=true:=by kernel_rfl
theorem jC (m:Nat):Ab.Ou.Et Tryz.prog (m+6) 52=true:=by kernel_rfl
theorem bo {H:Type}{enc:TypeId×Value->H}{f0 f1:Nat}{x0 x1:DataW H×List MemPlace}(cs0 cs1:Array Value){w:World}(h0:DataW.trod enc Tryz.prog w 0 (fun _=>true) true f0 23 cs0.toList=some x0) (h1:DataW.trod enc Tryz.prog w 0 (fun _=>true) true f1 52 cs1.toList=some x1) (hd0:Ab.Ou.Et Tryz.prog f0 23=true) (hd1:Ab.Ou.Et Tryz.prog f1 52=true)
  (hg:8<=w.heap.size) {arr:Array Value} {e:TypeId} {f:Nat×Nat} (hc:w.heap[1]? =some (.cells arr e f)) (h20:arr.size=20) (hp:∀ (i:Nat) (v:Value),T.P9[i]? =some v->arr[i]? =some v) :
  Calls Tryz.prog 11 #[.agg cs0,.agg cs1] w fun e w'=>e= .returned (.bool true)/\Below w.heap.size w w':=by
 let base:Ab.Env:=⟨w.heap.size,fun n c=>Ab.codeOk Tryz.prog n 8 c⟩
 have Dn:∀ n c,base.chk n c=Ab.codeOk Tryz.prog n 8 c:=fun _ _=>rfl;obtain ⟨O,hI⟩:=bq (base:=base) rfl hg hc h20 hp;obtain ⟨Z1,O1,c0,i1,k1,l1,v1,a1,t1⟩:=Ab.Ou.imp (base:=base) (Nat.le_refl _) f0 23 _ _ h0 hd0 _ O hI;obtain ⟨Z2,O2,c1,i2,k2,l2,v2,a2,t2⟩:=Ab.Ou.imp (base:=base) (Nat.le_refl _) f1 52 _ _ h1 hd1 Z1 O1 i1;obtain ⟨w0,w1,ls0,ls1,rfl,g0,g1,n0,n1⟩:=T.sX a1;obtain ⟨q0,q1,q2,rfl,m0,m1,m2⟩:=T.eL a2;have AM0:=T.oU (k1.trans k2);have hev:=T.Vf (g0.E8 (T.Ys k2)) (g1.E8 (T.Ys k2)) n0 n1 m0 m1 m2 AM0 (Nat.lt_of_lt_of_le (show (1:Nat)<9 by omega) (k1.trans k2).n);have e0:cs0=⟨cs0.toList⟩:=rfl;have e1:cs1=⟨cs1.toList⟩:=rfl;rw [e0,e1];have v1':=v1.mono l2;refine (Ab.Un (base:=base) T.mixed Dn T.XH (T.oV Dn) Tryz.func11 rfl hev i2.rel i2.free i2.yn (.cons (.agg t1 v1') (.cons (.agg t2 v2) .nil))).mono ?_;rintro en w' ⟨r,v',O',⟨Z',rfl⟩,rfl,r1,r2,r3⟩;exact ⟨by cases r3;rfl,jD i2.own r2⟩
end Go.Proofs.YtbcanmagihejhaaGreatDoor
