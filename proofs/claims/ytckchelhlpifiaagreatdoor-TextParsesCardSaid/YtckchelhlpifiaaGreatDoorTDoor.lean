/- The Hz AS the text BJ1 lean on are sound. -/
import Derived.Test.YtckchelhlpifiaaGreatDoorTB
set_option linter.unusedSimpArgs false
set_option linter.unusedVariables false
set_option linter.defProp false
set_option maxHeartbeats 32000000
set_option maxRecDepth 100000
namespace Go.Proofs.T
open Go Go.Ab
def Jy:∀ v∈BG,J9 v=true/\∃ n,v= .int .u64 n:=by
 intro v hv;unfold BG at hv;simp only[BJ,LA,Ly]at hv;rcases hv with rfl|rfl|rfl|rfl|rfl|rfl|rfl|rfl|rfl|rfl|rfl|rfl|rfl|rfl|rfl|rfl|rfl|rfl|rfl|rfl<;>exact⟨rfl,_,rfl⟩
def Dd {b:Nat}{B:Blk}(h:start.blk b=some B):b=1/\B=⟨BG,true,false,0,.row none⟩:=by
 obtain⟨h1,h2⟩:=AA h;have h3:(Tr.nil.set 1 (⟨BG,true,false,0,.row none⟩:Blk)).get b=some B:=h1;rw[Tr.BA]at h3;split at h3
 ·rename_i hb;cases h3;exact⟨hb,rfl⟩
 ·cases h3
def lH {A8:Env}{O:Ab.Place}{Z:St}{w:World} (hR:Rel A8 O Z w) (hG:Bo O 8) (hr:Z.read 1 0 20=some BG):Rel { A8 with lo:=w.heap.size,w0:=w } (fun b=>if b<8 then O b else none) start w:=by
 obtain⟨B,hB,hs⟩:=A5 (show ob (Z.Dg 1) (fun B=>sub B.cells 0 20)=some BG from hr);obtain⟨m,h0,-⟩:=hG 1 om;obtain⟨s1,s2⟩:=sub_eq hs;refine⟨fun b hb=>?_,fun b q C hb hC=>?_,fun b q hb=>?_,fun b q C _ hC ho=>?_,fun b q C b' q' _ hC ho=>?_,AR _,fun _ _=>rfl⟩
 ·show(Tr.nil.set 1 (⟨BG,true,false,0,.row none⟩:Blk)).get b=none;have hb':8<=b:=hb;rw[Tr.BA,z0z om];rfl
 ·obtain⟨rfl,rfl⟩:=Dd hC;change(if 1<8 then O 1 else none)=some q at hb;rw[z1z om,h0]at hb;cases hb;obtain⟨arr,e,lo,hi,a1,a2,a3,a4,a5,a6⟩:=hR.row 1 _ B h0 hB;have hd:=hR.dom 1 _ h0;refine .row rfl ⟨arr,e,lo,hi,a1,a2,?_,fun h=>?_,fun v hv=>(Jy v hv).1,fun i v hv=>?_⟩
  ·have:BG.length=20:=rfl;show 0+BG.length<=m;have a3':0+B.cells.length<=m:=a3;omega
  ·have h':w.heap.size<=1:=h;have hd':1<w.heap.size:=hd;omega
  ·obtain⟨n,rfl⟩:=(Jy v (W8 hv)).2;have hv':B.cells[i]? =some (.int .u64 n):=by
    rw[s2,UU,List.getElem?_take]at hv;split at hv
    ·exact hv
    ·cases hv
   obtain⟨v',b1,b2⟩:=a6 i _ hv';refine⟨v',b1,?_⟩;cases b2;exact .H5 rfl
 ·change(if b<8 then O b else none)=some q at hb;split at hb
  ·exact hR.dom b q hb
  ·cases hb
 ·obtain⟨rfl,rfl⟩:=Dd hC;cases ho
 ·obtain⟨rfl,rfl⟩:=Dd hC;cases ho
def sX:GL Tryz.prog CS1 8 Tryz.prog.funcs.toList 0=true:=kR
def mixed:Tryz.prog.follows .mixedOrders=true:=kR
def lI {x:Option CR}(h:cF x=true):∃ Z,x=some ⟨false,.bool true,Z⟩:=by
 unfold cF at h;split at h
 ·subst h;exact⟨_,rfl⟩
 ·cases h
def vx {A8:Env}(ML:∀ n c,A8.chk n c=codeOk Tryz.prog n 8 c) (hl:8<=A8.lo) (hE:Lk A8.w0):JU Tryz.prog A8 8 HS:=by
 intro g s hs run hX vs Z r h;unfold HS at hs;split at hs
 ·rename_i hg;subst hg;cases hs;cases vs with
  | nil=>
    obtain⟨h1,h2⟩:=H3 (show bb (BM (Z.read 1 0 20) (some BG)) (some ⟨false,.bool true,Z⟩)=some r from h);cases h2;refine⟨.refl _,fun O w vs' N hR hF hN hG hv=>?_⟩;cases hv;obtain⟨Z1,hs⟩:=lI san;exact Yn mixed ML sX (fun lo w0 _ _=>zg ft) (by rfl) (fun b B hb=>by obtain⟨-,rfl⟩:=Dd hb;rfl) rfl hs Z (N:=N) hR hG (lH hR hG (Lv h1))
  |cons v vs=>cases h
 ·split at hs
  ·rename_i hg;subst hg;cases hs;exact uR (fun x h=>Lv h) h
  ·split at hs
   ·rename_i hg;subst hg;cases hs;exact xL hl hE h
   ·exact zg ft g s hs run hX vs Z r h
def bJ:GL Tryz.prog HS 8 Tryz.prog.funcs.toList 0=true:=kR
end Go.Proofs.T
