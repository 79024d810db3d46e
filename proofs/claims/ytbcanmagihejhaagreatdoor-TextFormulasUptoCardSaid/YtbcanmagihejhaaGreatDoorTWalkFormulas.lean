/- The walk of TextFormulas, from the world's package-level variables and the arguments. -/
import Derived.Test.YtbcanmagihejhaaGreatDoorWA
import Derived.Test.YtbcanmagihejhaaGreatDoorWB
import Derived.Test.YtbcanmagihejhaaGreatDoorWC
set_option linter.unusedSimpArgs false
set_option linter.unusedVariables false
namespace Go.Proofs.YtbcanmagihejhaaGreatDoor
open Go Go.ChangeShapes Go.WideShapes Go.ChangeAt Go.RowKit
theorem dataOk23 (m:Nat):Ab.Args.dataOk Tryz.prog (m+6) 23=true:=by kernel_rfl
theorem dataOk9 (m:Nat):Ab.Args.dataOk Tryz.prog (m+6) 9=true:=by kernel_rfl
theorem dataOk55 (m:Nat):Ab.Args.dataOk Tryz.prog (m+6) 55=true:=by kernel_rfl
theorem str_in {P:Program}{Z:Ab.St}{t:TypeId}{f:Nat}{cs:List Value}(ht:P.underlying t=some .string) (h:Ab.Args.AbIn P Z f t cs):∃ s,cs=[.string s]:=by
 cases f with
 | zero=>exact h.elim
 | succ f =>
   unfold Ab.Args.AbIn at h
   rw [ht] at h
   obtain ⟨s,h1,-⟩:=h
   exact ⟨s,h1⟩
theorem walkFormulas {H:Type}{enc:TypeId×Value->H}{f0 f1 f2:Nat}{x0 x1 x2:DataW H×List MemPlace}(cs0:Array Value) (s:ByteArray) (cs2:Array Value){w:World}(h0:DataW.trod enc Tryz.prog w 0 (fun _=>true) true f0 23 cs0.toList=some x0) (h1:DataW.trod enc Tryz.prog w 0 (fun _=>true) true f1 9 [.string s]=some x1) (h2:DataW.trod enc Tryz.prog w 0 (fun _=>true) true f2 55 cs2.toList=some x2) (hd0:Ab.Args.dataOk Tryz.prog f0 23=true) (hd1:Ab.Args.dataOk Tryz.prog f1 9=true) (hd2:Ab.Args.dataOk Tryz.prog f2 55=true)
  (hs:s.data.toList.length<=2000000) (hg:8<=w.heap.size) (hE:T.ErrVar w) {arr:Array Value} {e:TypeId} {f:Nat×Nat} (hc:w.heap[1]? =some (.cells arr e f)) (h20:arr.size=20) (hp:∀ (i:Nat) (v:Value),T.pows[i]? =some v->arr[i]? =some v) :
  Calls Tryz.prog 6 #[.agg cs0,.string s,.agg cs2] w fun e w'=>e= .returned (.bool true)/\Below w.heap.size w w':=by
 let base:Ab.Env:=⟨w.heap.size,fun n c=>Ab.codeOk Tryz.prog n 8 c,w⟩
 have hchk:∀ n c,base.chk n c=Ab.codeOk Tryz.prog n 8 c:=fun _ _=>rfl
 obtain ⟨O,hI⟩:=start_inv (base:=base) rfl rfl hg hc h20 hp
 obtain ⟨Z1,O1,c0,i1,k1,l1,v1,a1,t1⟩:=Ab.Args.imp (base:=base) (Nat.le_refl _) f0 23 _ _ h0 hd0 _ O hI
 obtain ⟨Z2,O2,c1,i2,k2,l2,v2,a2,t2⟩:=Ab.Args.imp (base:=base) (Nat.le_refl _) f1 9 _ _ h1 hd1 Z1 O1 i1
 obtain ⟨Z3,O3,c2,i3,k3,l3,v3,a3,t3⟩:=Ab.Args.imp (base:=base) (Nat.le_refl _) f2 55 _ _ h2 hd2 Z2 O2 i2
 obtain ⟨u0,u1,m0,m1,rfl,g0,g1,y0,y1⟩:=T.two_in a1
 obtain ⟨s',rfl⟩:=str_in Tryz.underlying9 a2
 obtain ⟨q0,q1,rfl,n0,n1⟩:=T.twos_in a3
 have hp20:=T.pows_kp ((k1.trans k2).trans k3)
 have e0:cs0=⟨cs0.toList⟩:=rfl
 have e2:cs2=⟨cs2.toList⟩:=rfl
 rw [e0,e2]
 cases v2.mono l3 with
 | cons vv vn =>
   cases vn
   cases vv with
   | scal hvv =>
   have hev:=T.formulas_walk (raw:=s.data.toList) (g0.keep (T.keep_kp (k2.trans k3))) (g1.keep (T.keep_kp (k2.trans k3))) y0 y1 hs n0 n1 hp20 (Nat.lt_of_lt_of_le (show (1:Nat)<9 by omega) ((k1.trans k2).trans k3).n)
   refine (Ab.calls_of_ev (base:=base) T.mixed hchk T.funcsOk_HS (T.sums_ok hchk hg hE) Tryz.func6 rfl hev i3.rel i3.free i3.glob (.cons (.agg t1 (v1.mono (Ab.Place.le_trans l2 l3))) (.cons (.scal rfl) (.cons (.agg t3 v3) .nil)))).mono ?_
   rintro en w' ⟨r,v',O',⟨Z',rfl⟩,rfl,r1,r2,r3⟩
   exact ⟨by cases r3;rfl,below_of i3.own r2⟩
end Go.Proofs.YtbcanmagihejhaaGreatDoor
