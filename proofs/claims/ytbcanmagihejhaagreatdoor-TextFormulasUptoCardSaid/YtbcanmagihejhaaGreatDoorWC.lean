/- Facts on the types of the translation. -/
import Derived.Test.YtbcanmagihejhaaGreatDoorAbD
import Derived.Test.YtbcanmagihejhaaGreatDoorTA
import Derived.Test.YtbcanmagihejhaaGreatDoorProg
import Derived.KernelRfl
import Derived.Test.YtbcanmagihejhaaGreatDoorWA
import Derived.Test.YtbcanmagihejhaaGreatDoorWB
import Derived.Test.YtbcanmagihejhaaGreatDoorRows
import Derived.Test.YtbcanmagihejhaaGreatDoorCards
import Derived.Test.YtbcanmagihejhaaGreatDoorTie
import Derived.WalkKit
import Derived.ProofKit
import Derived.OpenShut
import Derived.ShutString
import Derived.ChangeOld
import Derived.Below
import Derived.LaidMore
import Derived.Lay
import Derived.Stop.Joined
import Derived.SevenTiedAt
import Derived.ChangeReads
import Derived.Deep.DeepHandedRow
set_option linter.unusedSimpArgs false
set_option linter.unusedVariables false
namespace Go.Proofs.T
open Go Go.Ab
section
variable {fr:Fr} {Z:St} {x ix a v:Operand} {ve:Value}
end
end Go.Proofs.T
namespace Go.Proofs.T
open Go Go.Ab Go.Ab.Args
theorem ai_array {P:Program}{Z:St}{t e:TypeId}{n:Nat}(ht:P.underlying t=some (.array n e)){f:Nat}{cs:List Value}(h:AbIn P Z f t cs):∃ (g:Nat) (ps:List (List Value)),cs=ps.flatten/\ps.length=n/\∀ p∈ps,AbIn P Z g e p:=by
 cases f with
 | zero=>exact h.elim
 | succ f =>
   unfold AbIn at h
   rw [ht] at h
   obtain ⟨ps,h1,h2,h3⟩:=h
   exact ⟨f,ps,h1,h2,fun p hp=>(h3 p hp).2⟩
theorem two_in {Z:St}{f:Nat}{cs:List Value}(h:AbIn Tryz.prog Z f 23 cs):∃ v0 v1 l0 l1,cs=[v0,v1]/\ArgInts Z v0 l0/\ArgInts Z v1 l1/\l0.length<=9223372036854775807/\l1.length<=9223372036854775807:=by
 obtain ⟨g,ps,rfl,p1,p2⟩:=ai_array Tryz.underlying23 h
 match ps,p1,p2 with
 | [x0,x1],_,p2 =>
   obtain ⟨v0,l0,rfl,m0⟩:=ai_ints Tryz.underlying22 Tryz.underlying3 (by kernel_rfl) (p2 x0 (by simp))
   obtain ⟨v1,l1,rfl,m1⟩:=ai_ints Tryz.underlying22 Tryz.underlying3 (by kernel_rfl) (p2 x1 (by simp))
   exact ⟨v0,v1,l0,l1,rfl,m0,m1,ai_len Tryz.underlying22 (p2 _ (by simp)) m0,ai_len Tryz.underlying22 (p2 [v1] (by simp)) m1⟩
theorem u16_in {P:Program}{Z:St}{t:TypeId}(ht:P.underlying t=some (.int .u16)){f:Nat}{cs:List Value}(h:AbIn P Z f t cs):∃ n:Nat,cs=[.int .u16 (n:Nat)]/\n<65536:=by
 cases f with
 | zero=>exact h.elim
 | succ f =>
   unfold AbIn at h
   rw [ht] at h
   obtain ⟨n,h1,h2⟩:=h
   have e1:IntKind.u16.min=0:=rfl
   have e2:IntKind.u16.max=65535:=rfl
   simp only [Lit.wf,Bool.and_eq_true,decide_eq_true_eq,e1,e2] at h2
   refine ⟨n.toNat,?_,om⟩
   rw [h1,show ((n.toNat:Nat):Int)=n by omega]
theorem twos_in {Z:St}{f:Nat}{cs:List Value}(h:AbIn Tryz.prog Z f 55 cs):∃ q0 q1:Nat,cs=[.int .u16 (q0:Nat),.int .u16 (q1:Nat)]/\q0<65536/\q1<65536:=by
 obtain ⟨g,ps,rfl,p1,p2⟩:=ai_array Tryz.underlying55 h
 match ps,p1,p2 with
 | [x0,x1],_,p2 =>
   obtain ⟨a0,rfl,m0⟩:=u16_in Tryz.underlying24 (p2 x0 (by simp))
   obtain ⟨a1,rfl,m1⟩:=u16_in Tryz.underlying24 (p2 x1 (by simp))
   exact ⟨a0,a1,rfl,m0,m1⟩
end Go.Proofs.T
namespace Go.Proofs.YtbcanmagihejhaaGreatDoor.bulks
theorem one_le {H:Type}(d:DataW H):1<=Rows.uptoBulk d:=by
 cases d with
 | lit l=>cases l <;> simp [Rows.uptoBulk]
 | nil=>simp [Rows.uptoBulk]
 | ptr d=>simp [Rows.uptoBulk]
 | slice elems spare=>simp [Rows.uptoBulk]
 | agg parts=>simp [Rows.uptoBulk]
 | iface t d=>simp [Rows.uptoBulk]
 | map entries=>simp [Rows.uptoBulk]
 | held h=>simp [Rows.uptoBulk]
theorem part_le {H:Type}{d:DataW H}{l:List (DataW H)}(h:d∈l):Rows.uptoBulk d<=Rows.uptoBulkAll l:=by
 induction l with
 | nil=>cases h
 | cons x r ih =>
   simp only [Rows.uptoBulkAll]
   cases List.mem_cons.1 h with
   | inl e=>subst e;omega
   | inr e=>have:=ih e;omega
theorem append {H:Type}(l r:List (DataW H)):Rows.uptoBulkAll (l++r)=Rows.uptoBulkAll l+Rows.uptoBulkAll r:=by
 induction l with
 | nil=>simp [Rows.uptoBulkAll]
 | cons x l ih=>simp only [List.cons_append,Rows.uptoBulkAll,ih];omega
theorem length_le {H:Type}(l:List (DataW H)):l.length<=Rows.uptoBulkAll l:=by
 induction l with
 | nil=>simp [Rows.uptoBulkAll]
 | cons x r ih=>have:=one_le x;simp only [Rows.uptoBulkAll,List.length_cons];omega
theorem string_eq {H:Type}(bytes:List UInt8):Rows.uptoBulk (DataW.lit (H:=H) (.string bytes))=bytes.length+1:=by
 simp [Rows.uptoBulk]
theorem bound {H:Type}{l:List (DataW H)}(hk:Rows.uptoSmall H l=true):Rows.uptoBulkAll l<=1048576:=by
 simpa [Rows.uptoSmall] using hk
end Go.Proofs.YtbcanmagihejhaaGreatDoor.bulks
namespace Go.Proofs.YtbcanmagihejhaaGreatDoor
open Go Go.ChangeShapes Go.WideShapes Go.ChangeAt Go.RowKit
theorem witness_row_shaped {H:Type}{enc:TypeId×Value->H}{C:Checked}{os:Os}{f:FuncId}{fn:Func}{s:OpenSpec}{conds:List PathCond}{apart:Bool}{laid:List (String×DataW Unit)}(modest:Bool) (w0:World) (args:Array Value) (hos:w0.os=os)
  (hsh:(w0.forCall (fun _ _=>0) ⟨#[],args,[]⟩).Shaped C.prog)
  (hok:Input.okWideB C.prog (w0.forCall (fun _ _=>0) ⟨#[],args,[]⟩) f ⟨#[],args,[]⟩=true)
  (hrow:s.preRow enc C.prog fn conds apart laid (w0.forCall (fun _ _=>0) ⟨#[],args,[]⟩).memory args) :
  ∃ (w:World) (tape:Tape) (i:Input),w.os=os/\(w.forCall tape i).Shaped C.prog/\i.vars=[]/\Input.okWide C.prog (w.forCall tape i) .any w.heap.size f i /\
   s.preRow enc C.prog fn conds apart laid (w.forCall tape i).memory i.args/\({ modest:=modest }:Assume).holds C.prog (lone (Frame.enter C.prog f i.args .normal) [] (w.forCall tape i)) :=
 ⟨w0,fun _ _=>0,⟨#[],args,[]⟩,hos,hsh,(Input.okWide_of_okWideB (base:=0) hok).1,(Input.okWide_of_okWideB hok).2,hrow,by
  simp only [Assume.holds]
  exact ⟨by simp,by simp,fun _=>Modest.zero,by simp,by simp⟩⟩
end Go.Proofs.YtbcanmagihejhaaGreatDoor
