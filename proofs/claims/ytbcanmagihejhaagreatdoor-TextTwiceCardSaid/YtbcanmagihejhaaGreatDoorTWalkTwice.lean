/- The walk of TextTwice, from the world's package-level variables and the argument's list. -/
import Derived.Test.YtbcanmagihejhaaGreatDoorWA
import Derived.Test.YtbcanmagihejhaaGreatDoorWB
set_option linter.unusedSimpArgs false
set_option linter.unusedVariables false
namespace Go.Proofs.YtbcanmagihejhaaGreatDoor
open Go Go.ChangeShapes Go.WideShapes Go.ChangeAt Go.RowKit
theorem walkTwice {H:Type}{enc:TypeId×Value→H}{f0:Nat}{x0:DataW H×List MemPlace}(sa:Option Addr) (sl sc:Nat){n:Int}(hn:0≤n∧n<256){w:World}(h0:DataW.trod enc Tryz.prog w 0 (fun _=>true) true f0 22 [.slice sa sl sc]=some x0) (hd0:Ab.Args.dataOk Tryz.prog f0 22=true)
  (hg:8≤w.heap.size) {arr:Array Value} {e:TypeId} {f:Nat×Nat} (hc:w.heap[1]? =some (.cells arr e f)) (hp:∀ (i:Nat) (v:Value),T.pows[i]? =some v→arr[i]? =some v) :
  Calls Tryz.prog 9 #[.slice sa sl sc,.int .u8 n] w fun e w'=>e= .returned (.bool true)∧Below w.heap.size w w':=by
 let base:Ab.Env:=⟨w.heap.size,fun n c=>Ab.codeOk Tryz.prog n 8 c⟩
 have hchk:∀ n c,base.chk n c=Ab.codeOk Tryz.prog n 8 c:=fun _ _=>rfl
 obtain ⟨ρ,hI⟩:=start_inv (base:=base) rfl hg hc hp
 obtain ⟨σ1,ρ1,c0,i1,k1,l1,v1,a1,t1⟩:=Ab.Args.imp (base:=base) (Nat.le_refl _) f0 22 _ _ h0 hd0 _ ρ hI
 obtain ⟨v0,ls,rfl,g1⟩:=T.ai_ints Tryz.underlying22 Tryz.underlying3 (by kernel_rfl) a1
 have hlen:=T.ai_len Tryz.underlying22 a1 g1
 have ha:n.tmod 5=((n.tmod 5).toNat:Nat):=by rw [Int.tmod_eq_emod_of_nonneg hn.1];omega
 have ha2:(n.tmod 5).toNat<5:=by rw [Int.tmod_eq_emod_of_nonneg hn.1];omega
 have hev:=T.twice_walk ha2 ha (g1.keep (T.keep_kp (Ab.Args.Kp.refl _))) hlen (T.pows_kp k1)
 cases v1 with
 | cons vv _ =>
   refine (Ab.calls_of_ev (base:=base) T.mixed hchk T.funcsOk_HS (T.sums_ok hchk) Tryz.func9 rfl hev i1.rel i1.free i1.glob (.cons vv (.cons (.scal rfl) .nil))).mono ?_
   rintro en w' ⟨r,v',ρ',⟨σ',rfl⟩,rfl,r1,r2,r3⟩
   refine ⟨by cases r3;rfl,below_of i1.own r2⟩
end Go.Proofs.YtbcanmagihejhaaGreatDoor
