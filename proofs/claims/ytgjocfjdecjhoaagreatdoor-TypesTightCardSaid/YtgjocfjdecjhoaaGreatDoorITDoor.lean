/- The Ig that the text BT4 lean on are sound. -/
import Derived.Test.YtgjocfjdecjhoaaGreatDoorITB
set_option linter.unusedSimpArgs false
set_option linter.unusedVariables false
set_option linter.defProp false
set_option maxHeartbeats 32000000
set_option maxRecDepth 100000
namespace Go.Proofs.T
open Go Go.Ab
def Kn:∀ v∈AO,L8 v=true/\∃ n,v= .int .u64 n:=by
 intro v a;unfold AO at a;simp only[W1,EP,EK]at a;rcases a with rfl|rfl|rfl|rfl|rfl|rfl|rfl|rfl|rfl|rfl|rfl|rfl|rfl|rfl|rfl|rfl|rfl|rfl|rfl|rfl<;>exact⟨rfl,_,rfl⟩
def EH {b:Nat}{B:Blk}(h:start.blk b=some B):b=0/\B=⟨AO,true,false,0,.row none⟩:=by
 obtain⟨c,e⟩:=AM h;have a:(Tr.nil.set 0 (⟨AO,true,false,0,.row none⟩:Blk)).get b=some B:=c;rw[Tr.BF]at a;split at a
 ·rename_i d;cases a;exact⟨d,rfl⟩
 ·cases a
def oc {B8:Env}{O:Ab.Place}{Z:St}{w:World} (f:Rel B8 O Z w) (r:Bw O 10) (z:Z.read 0 0 20=some AO):Rel { B8 with lo:=w.heap.size,w0:=w } (fun b=>if b<10 then O b else none) start w:=by
 obtain⟨B,p,A⟩:=A8 (show ob (Z.Gc 0) (fun B=>sub B.cells 0 20)=some AO from z);obtain⟨m,h0,-⟩:=r 0 om;obtain⟨s1,s2⟩:=sub_eq A;refine⟨fun b a=>?_,fun b q C a d=>?_,fun b q a=>?_,fun b q C _ d g=>?_,fun b q C D F _ d g=>?_,Bh _,fun _ _=>rfl⟩
 ·show(Tr.nil.set 0 (⟨AO,true,false,0,.row none⟩:Blk)).get b=none;have s:10<=b:=a;rw[Tr.BF,z0z om];rfl
 ·obtain⟨rfl,rfl⟩:=EH d;change(if 0<10 then O 0 else none)=some q at a;rw[z1z om,h0]at a;cases a;obtain⟨arr,e,lo,hi,a1,a2,a3,a4,a5,a6⟩:=f.row 0 _ B h0 p;have u:=f.dom 0 _ h0;refine .row rfl ⟨arr,e,lo,hi,a1,a2,?_,fun h=>?_,fun v c=>(Kn v c).1,fun i v c=>?_⟩
  ·have:AO.length=20:=rfl;show 0+AO.length<=m;have k:0+B.cells.length<=m:=a3;omega
  ·have E:w.heap.size<=0:=h;have y:0<w.heap.size:=u;omega
  ·obtain⟨n,rfl⟩:=(Kn v (Ag c)).2;have j:B.cells[i]? =some (.int .u64 n):=by
    rw[s2,NG,List.getElem?_take]at c;split at c
    ·exact c
    ·cases c
   obtain⟨v',l,o⟩:=a6 i _ j;refine⟨v',l,?_⟩;cases o;exact .I3 rfl
 ·change(if b<10 then O b else none)=some q at a;split at a
  ·exact f.dom b q a
  ·cases a
 ·obtain⟨rfl,rfl⟩:=EH d;cases g
 ·obtain⟨rfl,rfl⟩:=EH d;cases g
def xT:Gd Tryz.prog CS1 10 Tryz.prog.funcs.toList 0=true:=kR
def mixed:Tryz.prog.follows .mixedOrders=true:=kR
def od {x:Option CR}(h:gE x=true):∃ Z,x=some ⟨false,.bool true,Z⟩:=by
 unfold gE at h;split at h
 ·subst h;exact⟨_,rfl⟩
 ·cases h
def kO {B8:Env}(j:∀ n c,B8.chk n c=codeOk Tryz.prog n 10 c) (q:10<=B8.lo) (m:Kb B8.w0):Jz Tryz.prog B8 10 HS:=by
 intro g s a run o e Z r h;unfold HS at a;split at a
 ·rename_i d;subst d;cases a;cases e with
  | nil=>
    obtain⟨k,l⟩:=H9 (show bb (Cy (Z.read 0 0 20) (some AO)) (some ⟨false,.bool true,Z⟩)=some r from h);cases l;refine⟨.refl _,fun O w vs' N i y z f u=>?_⟩;cases u;obtain⟨Z1,a⟩:=od san;exact cD mixed j xT (fun lo w0 _ _=>AP1 kH) (by rfl) (fun b B p=>by obtain⟨-,rfl⟩:=EH p;rfl) rfl a Z (N:=N) i f (oc i f (Mj k))
  |cons v e=>cases h
 ·split at a
  ·rename_i d;subst d;cases a;exact yu (fun x h=>Mj h) h
  ·split at a
   ·rename_i d;subst d;cases a;exact AF3 q m h
   ·exact AP1 kH g s a run o e Z r h
def Ts:Gd Tryz.prog HS 10 Tryz.prog.funcs.toList 0=true:=kR
end Go.Proofs.T
