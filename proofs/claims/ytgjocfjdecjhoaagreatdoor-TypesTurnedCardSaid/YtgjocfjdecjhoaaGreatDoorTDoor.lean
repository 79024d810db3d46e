/- The Hw that the text BK7 lean on are sound. -/
import Derived.Test.YtgjocfjdecjhoaaGreatDoorTB
set_option linter.unusedSimpArgs false
set_option linter.unusedVariables false
set_option linter.defProp false
set_option maxHeartbeats 32000000
set_option maxRecDepth 100000
namespace Go.Proofs.T
open Go Go.Ab
def KJ:∀ v∈AE,K4 v=true/\∃ n,v= .int .u64 n:=by
 intro v hv;unfold AE at hv;simp only[Y5,FN,Em]at hv;rcases hv with rfl|rfl|rfl|rfl|rfl|rfl|rfl|rfl|rfl|rfl|rfl|rfl|rfl|rfl|rfl|rfl|rfl|rfl|rfl|rfl<;>exact⟨rfl,_,rfl⟩
def Dl {b:Nat}{B:Blk}(h:start.blk b=some B):b=0/\B=⟨AE,true,false,0,.row none⟩:=by
 obtain⟨h1,h2⟩:=AH h;have h3:(Tr.nil.set 0 (⟨AE,true,false,0,.row none⟩:Blk)).get b=some B:=h1;rw[Tr.Au]at h3;split at h3
 ·rename_i hb;cases h3;exact⟨hb,rfl⟩
 ·cases h3
def mM {B8:Env}{O:Ab.Place}{Z:St}{w:World} (hR:Rel B8 O Z w) (hG:Bm O 10) (hr:Z.read 0 0 20=some AE):Rel { B8 with lo:=w.heap.size,w0:=w } (fun b=>if b<10 then O b else none) start w:=by
 obtain⟨B,hB,hs⟩:=A8 (show ob (Z.GK 0) (fun B=>sub B.cells 0 20)=some AE from hr);obtain⟨m,h0,-⟩:=hG 0 om;obtain⟨s1,s2⟩:=sub_eq hs;refine⟨fun b hb=>?_,fun b q C hb hC=>?_,fun b q hb=>?_,fun b q C _ hC ho=>?_,fun b q C b' q' _ hC ho=>?_,BF _,fun _ _=>rfl⟩
 ·show(Tr.nil.set 0 (⟨AE,true,false,0,.row none⟩:Blk)).get b=none;have hb':10<=b:=hb;rw[Tr.Au,z0z om];rfl
 ·obtain⟨rfl,rfl⟩:=Dl hC;change(if 0<10 then O 0 else none)=some q at hb;rw[z1z om,h0]at hb;cases hb;obtain⟨arr,e,lo,hi,a1,a2,a3,a4,a5,a6⟩:=hR.row 0 _ B h0 hB;have hd:=hR.dom 0 _ h0;refine .row rfl ⟨arr,e,lo,hi,a1,a2,?_,fun h=>?_,fun v hv=>(KJ v hv).1,fun i v hv=>?_⟩
  ·have:AE.length=20:=rfl;show 0+AE.length<=m;have a3':0+B.cells.length<=m:=a3;omega
  ·have h':w.heap.size<=0:=h;have hd':0<w.heap.size:=hd;omega
  ·obtain⟨n,rfl⟩:=(KJ v (Bs hv)).2;have hv':B.cells[i]? =some (.int .u64 n):=by
    rw[s2,Sv,List.getElem?_take]at hv;split at hv
    ·exact hv
    ·cases hv
   obtain⟨v',b1,b2⟩:=a6 i _ hv';refine⟨v',b1,?_⟩;cases b2;exact .I1 rfl
 ·change(if b<10 then O b else none)=some q at hb;split at hb
  ·exact hR.dom b q hb
  ·cases hb
 ·obtain⟨rfl,rfl⟩:=Dl hC;cases ho
 ·obtain⟨rfl,rfl⟩:=Dl hC;cases ho
def ur:GL Tryz.prog CS1 10 Tryz.prog.funcs.toList 0=true:=kR
def mixed:Tryz.prog.follows .mixedOrders=true:=kR
def mN {x:Option CR}(h:eV x=true):∃ Z,x=some ⟨false,.bool true,Z⟩:=by
 unfold eV at h;split at h
 ·subst h;exact⟨_,rfl⟩
 ·cases h
def vI {B8:Env}(Fu:∀ n c,B8.chk n c=codeOk Tryz.prog n 10 c) (hl:10<=B8.lo) (hE:LK B8.w0):JV Tryz.prog B8 10 HS:=by
 intro g s hs run hX vs Z r h;unfold HS at hs;split at hs
 ·rename_i hg;subst hg;cases hs;cases vs with
  | nil=>
    obtain⟨h1,h2⟩:=G7 (show bb (CJ (Z.read 0 0 20) (some AE)) (some ⟨false,.bool true,Z⟩)=some r from h);cases h2;refine⟨.refl _,fun O w vs' N hR hF hN hG hv=>?_⟩;cases hv;obtain⟨Z1,hs⟩:=mN san;exact aR mixed Fu ur (fun lo w0 _ _=>AF8 ie) (by rfl) (fun b B hb=>by obtain⟨-,rfl⟩:=Dl hb;rfl) rfl hs Z (N:=N) hR hG (mM hR hG (ME h1))
  |cons v vs=>cases h
 ·split at hs
  ·rename_i hg;subst hg;cases hs;exact wW (fun x h=>ME h) h
  ·split at hs
   ·rename_i hg;subst hg;cases hs;exact zO hl hE h
   ·exact AF8 ie g s hs run hX vs Z r h
def bQ:GL Tryz.prog HS 10 Tryz.prog.funcs.toList 0=true:=kR
end Go.Proofs.T
