/- The Hv Aa the text BQ4 lean on are sound. -/
import Derived.Test.YtbcanmagihejhaaGreatDoorTB
set_option linter.unusedSimpArgs false
set_option linter.unusedVariables false
set_option linter.defProp false
set_option maxHeartbeats 32000000
set_option maxRecDepth 100000
namespace Go.Proofs.T
open Go Go.Ab
def Jy:∀ v∈T7,N2 v=true/\∃ n,v= .int .u64 n:=by
 intro v a;unfold T7 at a;simp only[V9,LN,MJ]at a;rcases a with rfl|rfl|rfl|rfl|rfl|rfl|rfl|rfl|rfl|rfl|rfl|rfl|rfl|rfl|rfl|rfl|rfl|rfl|rfl|rfl<;>exact⟨rfl,_,rfl⟩
def EE {b:Nat}{B:Blk}(h:start.blk b=some B):b=1/\B=⟨T7,true,false,0,.row none⟩:=by
 obtain⟨c,e⟩:=AM h;have a:(Tr.nil.set 1 (⟨T7,true,false,0,.row none⟩:Blk)).get b=some B:=c;rw[Tr.N4]at a;split at a
 ·rename_i d;cases a;exact⟨d,rfl⟩
 ·cases a
def mX {A9:Env}{O:Ab.Place}{Z:St}{w:World} (f:Rel A9 O Z w) (s:CL O 8) (A:Z.read 1 0 20=some T7):Rel { A9 with lo:=w.heap.size,w0:=w } (fun b=>if b<8 then O b else none) start w:=by
 obtain⟨B,r,D⟩:=A8 (show ob (Z.EI 1) (fun B=>sub B.cells 0 20)=some T7 from A);obtain⟨m,h0,-⟩:=s 1 om;obtain⟨s1,s2⟩:=sub_eq D;refine⟨fun b a=>?_,fun b q C a d=>?_,fun b q a=>?_,fun b q C _ d g=>?_,fun b q C E G _ d g=>?_,AP _,fun _ _=>rfl⟩
 ·show(Tr.nil.set 1 (⟨T7,true,false,0,.row none⟩:Blk)).get b=none;have u:8<=b:=a;rw[Tr.N4,z0z om];rfl
 ·obtain⟨rfl,rfl⟩:=EE d;change(if 1<8 then O 1 else none)=some q at a;rw[z1z om,h0]at a;cases a;obtain⟨arr,e,lo,hi,a1,a2,a3,a4,a5,a6⟩:=f.row 1 _ B h0 r;have y:=f.dom 1 _ h0;refine .row rfl ⟨arr,e,lo,hi,a1,a2,?_,fun h=>?_,fun v c=>(Jy v c).1,fun i v c=>?_⟩
  ·have:T7.length=20:=rfl;show 0+T7.length<=m;have l:0+B.cells.length<=m:=a3;omega
  ·have F:w.heap.size<=1:=h;have z:1<w.heap.size:=y;omega
  ·obtain⟨n,rfl⟩:=(Jy v (y6 c)).2;have j:B.cells[i]? =some (.int .u64 n):=by
    rw[s2,Ma,List.getElem?_take]at c;split at c
    ·exact c
    ·cases c
   obtain⟨v',o,p⟩:=a6 i _ j;refine⟨v',o,?_⟩;cases p;exact .J8 rfl
 ·change(if b<8 then O b else none)=some q at a;split at a
  ·exact f.dom b q a
  ·cases a
 ·obtain⟨rfl,rfl⟩:=EE d;cases g
 ·obtain⟨rfl,rfl⟩:=EE d;cases g
def uO:GK Tryz.prog CS1 8 Tryz.prog.funcs.toList 0=true:=kR
def mixed:Tryz.prog.follows .mixedOrders=true:=kR
def mY {x:Option CR}(h:dJ x=true):∃ Z,x=some ⟨false,.bool true,Z⟩:=by
 unfold dJ at h;split at h
 ·subst h;exact⟨_,rfl⟩
 ·cases h
def yh {A9:Env}(i:∀ n c,A9.chk n c=codeOk Tryz.prog n 8 c) (q:8<=A9.lo) (m:Lz A9.w0):JU Tryz.prog A9 8 HS:=by
 intro g s a run o vs Z r h;unfold HS at a;split at a
 ·rename_i d;subst d;cases a;cases vs with
  | nil=>
    obtain⟨j,l⟩:=J4 (show bb (Aj (Z.read 1 0 20) (some T7)) (some ⟨false,.bool true,Z⟩)=some r from h);cases l;refine⟨.refl _,fun O w vs' N f y z e u=>?_⟩;cases u;obtain⟨Z1,a⟩:=mY san;exact Zl mixed i uO (fun lo w0 _ _=>AD3 gy) (by rfl) (fun b B p=>by obtain⟨-,rfl⟩:=EE p;rfl) rfl a Z (N:=N) f e (mX f e (MD j))
  |cons v vs=>cases h
 ·split at a
  ·rename_i d;subst d;cases a;exact vj (fun x h=>MD h) h
  ·split at a
   ·rename_i d;subst d;cases a;exact yN q m h
   ·exact AD3 gy g s a run o vs Z r h
def dP:GK Tryz.prog HS 8 Tryz.prog.funcs.toList 0=true:=kR
end Go.Proofs.T
