/- The walk of TextTree, from the world's package-level variables and the arguments. -/
import Derived.Test.YtbcanmagihejhaaGreatDoorWA
import Derived.Test.YtbcanmagihejhaaGreatDoorWB
set_option linter.unusedSimpArgs false
set_option linter.unusedVariables false
namespace Go.Proofs.YtbcanmagihejhaaGreatDoor
open Go Go.ChangeShapes Go.WideShapes Go.ChangeAt Go.RowKit
theorem dataOk52 (m:Nat):Ab.Args.dataOk Tryz.prog (m+6) 52=true:=by kernel_rfl
theorem walkTree {H:Type}{enc:TypeId×Value->H}{f0 f1:Nat}{x0 x1:DataW H×List MemPlace}(sa:Option Addr) (sl sc:Nat) (cs1:Array Value){w:World}(h0:DataW.trod enc Tryz.prog w 0 (fun _=>true) true f0 22 [.slice sa sl sc]=some x0) (h1:DataW.trod enc Tryz.prog w 0 (fun _=>true) true f1 52 cs1.toList=some x1) (hd0:Ab.Args.dataOk Tryz.prog f0 22=true) (hd1:Ab.Args.dataOk Tryz.prog f1 52=true)
  (hg:8<=w.heap.size) {arr:Array Value} {e:TypeId} {f:Nat×Nat} (hc:w.heap[1]? =some (.cells arr e f)) (h20:arr.size=20) (hp:∀ (i:Nat) (v:Value),T.pows[i]? =some v->arr[i]? =some v) :
  Calls Tryz.prog 7 #[.slice sa sl sc,.agg cs1] w fun e w'=>e= .returned (.bool true)/\Below w.heap.size w w':=by
 let base:Ab.Env:=⟨w.heap.size,fun n c=>Ab.codeOk Tryz.prog n 8 c⟩
 have hchk:∀ n c,base.chk n c=Ab.codeOk Tryz.prog n 8 c:=fun _ _=>rfl
 obtain ⟨O,hI⟩:=start_inv (base:=base) rfl hg hc h20 hp
 obtain ⟨Z1,O1,c0,i1,k1,l1,v1,a1,t1⟩:=Ab.Args.imp (base:=base) (Nat.le_refl _) f0 22 _ _ h0 hd0 _ O hI
 obtain ⟨Z2,O2,c1,i2,k2,l2,v2,a2,t2⟩:=Ab.Args.imp (base:=base) (Nat.le_refl _) f1 52 _ _ h1 hd1 Z1 O1 i1
 obtain ⟨v0,ls,rfl,g0⟩:=T.ai_ints Tryz.underlying22 Tryz.underlying3 (by kernel_rfl) a1
 have hlen:=T.ai_len Tryz.underlying22 a1 g0
 obtain ⟨q0,q1,q2,rfl,m0,m1,m2⟩:=T.three_in a2
 have hp20:=T.pows_kp (k1.trans k2)
 have hev:=T.tree_walk (g0.keep (T.keep_kp k2)) hlen m0 m1 m2 hp20 (Nat.lt_of_lt_of_le (show (1:Nat)<9 by omega) (k1.trans k2).n)
 have e1:cs1=⟨cs1.toList⟩:=rfl
 rw [e1]
 cases v1.mono l2 with
 | cons vv _ =>
   refine (Ab.calls_of_ev (base:=base) T.mixed hchk T.funcsOk_HS (T.sums_ok hchk) Tryz.func7 rfl hev i2.rel i2.free i2.glob (.cons vv (.cons (.agg t2 v2) .nil))).mono ?_
   rintro en w' ⟨r,v',O',⟨Z',rfl⟩,rfl,r1,r2,r3⟩
   exact ⟨by cases r3;rfl,below_of i2.own r2⟩
end Go.Proofs.YtbcanmagihejhaaGreatDoor
