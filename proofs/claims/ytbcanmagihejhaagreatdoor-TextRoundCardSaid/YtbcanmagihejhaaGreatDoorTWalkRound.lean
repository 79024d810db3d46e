/- The walk of TextRound, from the world's package-level variables and the argument's list. -/
import Derived.Test.YtbcanmagihejhaaGreatDoorWA
import Derived.Test.YtbcanmagihejhaaGreatDoorSD
set_option linter.unusedSimpArgs false
set_option linter.unusedVariables false
namespace Go.Proofs.YtbcanmagihejhaaGreatDoor
open Go Go.ChangeShapes Go.WideShapes Go.ChangeAt Go.RowKit
theorem walkRound {H:Type}{enc:TypeId×Value->H}{f0:Nat}{x0:DataW H×List MemPlace}(sa:Option Addr) (sl sc:Nat){w:World}(h0:DataW.trod enc Tryz.prog w 0 (fun _=>true) true f0 22 [.slice sa sl sc]=some x0) (hd0:Ab.Args.dataOk Tryz.prog f0 22=true)
  (hg:8<=w.heap.size) {arr:Array Value} {e:TypeId} {f:Nat×Nat} (hc:w.heap[1]? =some (.cells arr e f)) (h20:arr.size=20) (hp:∀ (i:Nat) (v:Value),T.pows[i]? =some v->arr[i]? =some v) :
  Calls Tryz.prog 4 #[.slice sa sl sc] w fun e w'=>e= .returned (.bool true)/\Below w.heap.size w w':=by
 let base:Ab.Env:=⟨w.heap.size,fun n c=>Ab.codeOk Tryz.prog n 8 c⟩
 have hchk:∀ n c,base.chk n c=Ab.codeOk Tryz.prog n 8 c:=fun _ _=>rfl
 obtain ⟨O,hI⟩:=start_inv (base:=base) rfl hg hc h20 hp
 obtain ⟨Z1,O1,c0,i1,k1,l1,v1,a1,t1⟩:=Ab.Args.imp (base:=base) (Nat.le_refl _) f0 22 _ _ h0 hd0 _ O hI
 obtain ⟨v0,ls,rfl,g1⟩:=T.ai_ints Tryz.underlying22 Tryz.underlying3 (by kernel_rfl) a1
 have hlen:=T.ai_len Tryz.underlying22 a1 g1
 have hp20:=T.pows_kp k1
 have hev:=T.round_walk (g1.keep (T.keep_kp (Ab.Args.Kp.refl _))) hlen hp20 (Nat.lt_of_lt_of_le (show (1:Nat)<9 by omega) k1.n)
 cases v1 with
 | cons vv _ =>
   refine (Ab.calls_of_ev (base:=base) T.mixed hchk T.funcsOk_HS (T.sums_ok hchk) Tryz.func4 rfl hev i1.rel i1.free i1.glob (.cons vv .nil)).mono ?_
   rintro en w' ⟨r,v',O',⟨Z',rfl⟩,rfl,r1,r2,r3⟩
   refine ⟨by cases r3;rfl,below_of i1.own r2⟩
end Go.Proofs.YtbcanmagihejhaaGreatDoor
