/- The summaries that the text claims lean on are sound. -/
import Derived.Test.YtbcanmagihejhaaGreatDoorTB
import Derived.Test.YtbcanmagihejhaaGreatDoorAbD
set_option linter.unusedSimpArgs false
set_option linter.unusedVariables false
namespace Go.Proofs.T
open Go Go.Ab
set_option maxRecDepth 1000000
theorem pows_cell:∀ v∈pows,isCell v=true/\∃ n,v= .int .u64 n:=by
 intro v hv
 unfold pows at hv
 simp only [List.mem_cons,List.not_mem_nil,or_false] at hv
 rcases hv with rfl|rfl|rfl|rfl|rfl|rfl|rfl|rfl|rfl|rfl|rfl|rfl|rfl|rfl|rfl|rfl|rfl|rfl|rfl|rfl <;> exact ⟨rfl,_,rfl⟩
theorem start_blk {b:Nat}{B:Blk}(h:start.blk b=some B):b=1/\B=⟨pows,true,false,0,.row none⟩:=by
 obtain ⟨h1,h2⟩:=blk_get h
 have h3:(Tr.nil.set 1 (⟨pows,true,false,0,.row none⟩:Blk)).get b=some B:=h1
 rw [Tr.get_set] at h3
 split at h3
 ·rename_i hb;cases h3;exact ⟨hb,rfl⟩
 ·cases h3
theorem start_rel {base:Env} {O:Ab.Place} {Z:St} {w:World} (hR:Rel base O Z w) (hG:Glob O 8) (hr:Z.read 1 0 20=some pows):Rel { base with lo:=w.heap.size,w0:=w } (fun b=>if b<8 then O b else none) start w:=by
 obtain ⟨B,hB,hs⟩:=ob_eq (show ob (Z.rblk 1) (fun B=>sub B.cells 0 20)=some pows from hr)
 obtain ⟨m,h0,-⟩:=hG 1 om
 obtain ⟨s1,s2⟩:=sub_eq hs
 refine ⟨fun b hb=>?_,fun b q C hb hC=>?_,fun b q hb=>?_,fun b q C _ hC ho=>?_,fun b q C b' q' _ hC ho=>?_,Nat.le_refl _,fun _ _=>rfl⟩
 ·show (Tr.nil.set 1 (⟨pows,true,false,0,.row none⟩:Blk)).get b=none
  have hb':8<=b:=hb
  rw [Tr.get_set,if_neg om];rfl
 ·obtain ⟨rfl,rfl⟩:=start_blk hC
  change (if 1<8 then O 1 else none)=some q at hb
  rw [if_pos om,h0] at hb
  cases hb
  obtain ⟨arr,e,lo,hi,a1,a2,a3,a4,a5,a6⟩:=hR.row 1 _ B h0 hB
  have hd:=hR.dom 1 _ h0
  refine .row rfl ⟨arr,e,lo,hi,a1,a2,?_,fun h=>?_,fun v hv=>(pows_cell v hv).1,fun i v hv=>?_⟩
  ·have:pows.length=20:=rfl
   show 0+pows.length<=m
   have a3':0+B.cells.length<=m:=a3
   omega
  ·have h':w.heap.size<=1:=h
   have hd':1<w.heap.size:=hd
   omega
  ·obtain ⟨n,rfl⟩:=(pows_cell v (List.mem_of_getElem? hv)).2
   have hv':B.cells[i]? =some (.int .u64 n):=by
    rw [s2,List.drop_zero,List.getElem?_take] at hv
    split at hv
    ·exact hv
    ·cases hv
   obtain ⟨v',b1,b2⟩:=a6 i _ hv'
   refine ⟨v',b1,?_⟩
   cases b2
   exact .scal rfl
 ·change (if b<8 then O b else none)=some q at hb
  split at hb
  ·exact hR.dom b q hb
  ·cases hb
 ·obtain ⟨rfl,rfl⟩:=start_blk hC;cases ho
 ·obtain ⟨rfl,rfl⟩:=start_blk hC;cases ho
theorem funcs_ok:funcsOk Tryz.prog CS1 8 Tryz.prog.funcs.toList 0=true:=by kernel_rfl
theorem mixed:Tryz.prog.follows .mixedOrders=true:=by kernel_rfl
theorem okTrue_eq {x:Option CR}(h:okTrue x=true):∃ Z,x=some ⟨false,.bool true,Z⟩:=by
 unfold okTrue at h
 split at h
 ·subst h;exact ⟨_,rfl⟩
 ·cases h
theorem sums_ok {base:Env}(hchk:∀ n c,base.chk n c=codeOk Tryz.prog n 8 c) (hl:8<=base.lo) (hE:ErrVar base.w0):SumsOk Tryz.prog base 8 HS:=by
 intro g s hs run hX vs Z r h
 unfold HS at hs
 split at hs
 ·rename_i hg
  subst hg
  cases hs
  cases vs with
  | nil =>
    obtain ⟨h1,h2⟩:=bb_eq (show bb (sameRow (Z.read 1 0 20) (some pows)) (some ⟨false,.bool true,Z⟩)=some r from h)
    cases h2
    refine ⟨.refl _,fun O w vs' N hR hF hN hG hv=>?_⟩
    cases hv
    obtain ⟨Z1,hs⟩:=okTrue_eq san
    exact closed_sum2 mixed hchk funcs_ok (fun lo w0 _ _=>sums1 okParts) (by rfl) (fun b B hb=>by obtain ⟨-,rfl⟩:=start_blk hb;rfl) rfl hs Z (N:=N) hR hG (start_rel hR hG (sameRow_eq h1))
  | cons v vs=>cases h
 ·split at hs
  ·rename_i hg;subst hg;cases hs;exact itoF_ok (fun x h=>sameRow_eq h) h
  ·split at hs
   ·rename_i hg;subst hg;cases hs;exact atoF_ok hl hE h
   ·exact sums1 okParts g s hs run hX vs Z r h
theorem funcsOk_HS:funcsOk Tryz.prog HS 8 Tryz.prog.funcs.toList 0=true:=by kernel_rfl
end Go.Proofs.T
