/- text.dQ on a closure with two captured values; AW7. -/
import Derived.Test.YtbcanmagihejhaaGreatDoorTI
set_option linter.unusedSimpArgs false
set_option linter.unusedVariables false
set_option maxHeartbeats 32000000
set_option maxRecDepth 100000
namespace Go.Proofs.T
open Go Go.Ab
open Nat (reduceMul reduceEqDiff reduceAdd)
theorem ZX {vs:List Value}{Z:St}{Q:CR->Prop}{u:Hd Q}{c0 c1 c2 c3:Code}(hb:Tryz.f38.body=some (.seq c0 (.seq c1 (.seq c2 (.seq c3 .ret)))))
  (h:Ev (Gx Tryz.prog c0 c2 c3 3 2 86 86 [.cell 2 86] (lim Tryz.prog HS) vs Z) Q u):Ev (go Tryz.prog HS (.fn 38) vs Z) Q u:=by
 have e:parts=(c0,c1,c2,c3):=by unfold parts;rw [hb]
 have e2:go Tryz.prog HS (.fn 38) vs Z=MM.f (lim Tryz.prog HS) vs Z:=rfl;rw [e2];unfold MM;rw [e];exact h
theorem qI {β:Type}{fr:Fr}{Z:St}{f:Fr->St->Option β}:nrm ⟨.normal,fr,Z⟩ f=f fr Z:=rfl
theorem xU {β:Type}{fr:Fr}{Z:St}{f:Fr->St->Option β}{g:Value->Fr->St->Option β}:nrp ⟨.normal,fr,Z⟩ f g=f fr Z:=rfl
theorem xV {β:Type}{fr:Fr}{Z:St}{v:Value}{f:Fr->St->Option β}{g:Value->Fr->St->Option β}:nrp ⟨.pan v,fr,Z⟩ f g=g v fr Z:=rfl
theorem Oo {Z:St}{b p:Nat}{e:Int}(h:Z.A5 b=some [.int .i64 0,.int .i64 0]) (hb:b<Z.n):Jd Tryz.prog 86 (.pointer (some ⟨b,0,none⟩)) (.agg ⟨[.int .i64 p,.int .i64 e]⟩) Z=some (((Z.new [.int .i64 0,.int .i64 0] (some 86)).upd Z.n [.int .i64 p,.int .i64 e]).upd b [.int .i64 p,.int .i64 e]):=by
 have hz:y7 Tryz.prog 86=some (.agg ⟨[.int .i64 0,.int .i64 0]⟩):=by kernel_rfl
 have hs:size? Tryz.prog 86=some 2:=by kernel_rfl
 have st:∀ (s:St) (q:Nat) (x y a c:Value),s.A5 q=some [x,y]->Ih Tryz.prog s 86 (.pointer (some ⟨q,0,none⟩)) (.agg ⟨[a,c]⟩)=some (s.upd q [a,c]):=by
  intro s q x y a c hq;unfold Ih;rw [show at? (.pointer (some ⟨q,0,none⟩))=some (q,0) from rfl,C6,Hu,hs,C6];show s.write q 0 [a,c]=_;rw [Jb,hq,C6];rfl
 unfold Jd;rw [hz,C6,show ptrTo Z.n= .pointer (some ⟨Z.n,0,none⟩) from rfl];rw [st _ Z.n (.int .i64 0) (.int .i64 0) _ _ (cL),C6];refine gS ?_;rw [C6,show sub [Value.int .i64 (p:Nat),.int .i64 e] 0 2=some [.int .i64 (p:Nat),.int .i64 e] from rfl,C6,C6];rw [st _ b (.int .i64 0) (.int .i64 0) _ _ (by rw [D1 om,F5 om];exact h)]
theorem ZY {p:Nat}{e:Int}:RC 86 (fault p e)=some (.agg ⟨[.int .i64 (p:Nat),.int .i64 e]⟩):=rfl
theorem Pg {g:Nat}{x y:Value}{Z:St}{R:CR->Prop}
  (hb:Ev (go Tryz.prog HS (.fn g) [x,y] (Z.new [.int .i64 0,.int .i64 0] (some 86))) (fun r=>Z.n<r.Z.n/\r.Z.A5 Z.n=some [.int .i64 0,.int .i64 0]/\((r.pan=false/\r.v= .tuple ⟨[]⟩)\/∃ p e,r.pan=true/\r.v=fault p e)/\R r) ⟨⟩) :
  Ev (go Tryz.prog HS (.fn 38) [.func (.func g) ⟨[]⟩ ⟨[x,y]⟩] Z) (fun r=>∃ r0 Z' p e,R r0/\C5 Z.n r0.Z Z'/\r=⟨false,.agg ⟨[.int .i64 (p:Nat),.int .i64 e]⟩,Z'⟩/\((r0.pan=false/\r0.v= .tuple ⟨[]⟩/\p=0/\e=0)\/(r0.pan=true/\r0.v=fault p e))) ⟨⟩:=by
 refine ZX rfl ?_;unfold Gx;refine gS1 @qI ?_;refine hb.mono ?_;rintro ⟨pn,v,Z1⟩ ⟨hn,ho,hc,hR⟩;rcases hc with ⟨h1,h2⟩|⟨p,e,h1,h2⟩
 ·obtain rfl:pn=false:=h1;obtain rfl:v= .tuple ⟨[]⟩:=h2;refine gS1 (a3N @xU @qI @ho) ?_;exact ⟨⟨false,.tuple ⟨[]⟩,Z1⟩,_,0,0,hR,C5.upd .refl _,rfl,.inl ⟨rfl,rfl,rfl,rfl⟩⟩
 ·obtain rfl:pn=true:=h1;obtain rfl:v=fault p e:=h2;simp (maxSteps:=8000000) (disch:=first|exact dS|fail) only [↓bD,bW,reduceMul,reduceEqDiff,reduceAdd,Nat.reduceBEq,reduceIte,Option.isNone_none,xV,ho,ZY,Oo ho hn];exact ⟨⟨true,fault p e,Z1⟩,_,p,e,hR,C5.upd (C5.BJ (C5.KZ .refl _) (Nat.le_refl _) _) _,rfl,.inr ⟨rfl,rfl⟩⟩
def z20:List Value:=[str [],.slice none 0 0,.slice none 0 0,.slice none 0 0,.int .i64 0,.int .i64 0,str [],.int .i64 0,.int .i64 0,str [],.slice none 0 0,.slice none 0 0,.int .i64 0,.slice none 0 0,.int .i64 0,.int .i64 0,.int .i64 0,.int .i64 0,.int .i64 0,.int .i64 0]
theorem Ar.Pd {Z Z':St}{cells:List Value}{T:Tn}(h:Ar Z cells T) (hE:o0 Z Z'):Ar Z' cells T:=by
 obtain ⟨vl,vc,vr,ex,vt,vk,h1,h2,h3,h4,h5,h6,vs,h7,h8⟩:=h;exact ⟨vl,vc,vr,ex,vt,vk,h1,SL.E8 h2 hE,SL.E8 h3 hE,SL.E8 h4 hE,h5.E8 hE,SL.E8 h6 hE,vs,SL.E8 h7 hE,h8.mono fun _ _ hx=>SL.E8 hx hE⟩
theorem Ar.cells {Z:St}{cells:List Value}{T:Tn}(h:Ar Z cells T):∃ a0 a1 a2 a3 a4 a5 a6 a7 a8 a9 a10 a11 a12 a13 a14 a15 a16 a17 a18 a19,cells=[a0,a1,a2,a3,a4,a5,a6,a7,a8,a9,a10,a11,a12,a13,a14,a15,a16,a17,a18,a19]:=by
 obtain ⟨vl,vc,vr,ex,vt,vk,rfl,-,-,-,h5,-⟩:=h;obtain ⟨c1,c2,c3,c4,c5,rfl⟩:=fc5 h5;exact ⟨_,_,_,_,_,_,_,_,_,_,_,_,_,_,_,_,_,_,_,_,rfl⟩
def PcP (Z:St) (c:Nat) (R:Except Er Tn) (r:CR):Prop:=match R with
 | .ok T=>∃ Z' cells,r=⟨false,.tuple ⟨[]⟩,Z'⟩/\C5 c Z Z'/\Z'.A5 c=some cells/\∀ H:List Nat,(∀ q∈H,q<Z.n)->Ar (H6 Z' H) cells T
 | .error (p,e)=>∃ Z',r=⟨true,fault p e,Z'⟩/\Ext Z Z'
theorem Sw {Z:St}{s:By}{b c:Nat}(hs:s.length<=4000) (hl:∀ (l:By) (a:Nat),l∈I3 10 s->a<=s.length+1->Kc l a) (hb:Z.row b=some [str s]) (hc:Z.A5 c=some z20) (hcl:c<Z.n) :
  Ev (go Tryz.prog HS (.fn 39) [.pointer (some ⟨b,0,none⟩),.pointer (some ⟨c,0,none⟩)] Z) (PcP Z c (Cj s)) ⟨⟩:=by
 refine D7 Tryz.func39 rfl rfl ?_;refine gS1 @hb ?_;refine (dR hs hl).mono ?_;intro r;cases hR:Cj s with
 | error pe =>
   obtain ⟨p,e⟩:=pe;rintro ⟨Z1,rfl,hE⟩;refine gS ?_;exact ⟨_,rfl,hE⟩
 | ok T =>
   rintro ⟨Z1,cells,rfl,hE,hT⟩;have hc1:Z1.A5 c=some z20:=by rw [A6 (hE.same c hcl)];exact hc
   obtain ⟨a0,a1,a2,a3,a4,a5,a6,a7,a8,a9,a10,a11,a12,a13,a14,a15,a16,a17,a18,a19,rfl⟩:=(hT [] (by simp)).cells;unfold z20 at hc1;refine gS1 (aI @hc1 @Tryz.results39) ?_;refine ⟨_,_,rfl,(C5.of hE).upd _,C8,fun H hH=>(hT (c::H) ?_).Pd (I5 (Nat.le_refl _) fun q _ hm=>⟨fun h=>hm (List.mem_cons_of_mem _ h),D9 fun e=>hm (by rw [e];exact List.mem_cons_self ..)⟩)⟩;intro q hq;rcases List.mem_cons.1 hq with rfl|hq
   ·exact hcl
   ·exact hH q hq
def CaP (Z:St) (c:Nat) (R:Except Er Tn) (r:CR):Prop:=match R with
 | .ok T=>∃ Z' cells,r=⟨false,.agg ⟨[.int .i64 0,.int .i64 0]⟩,Z'⟩/\C5 c Z Z'/\Z'.A5 c=some cells/\∀ H:List Nat,(∀ q∈H,q<Z.n)->Ar (H6 Z' H) cells T
 | .error (p,e)=>∃ Z',r=⟨false,.agg ⟨[.int .i64 (p:Nat),.int .i64 e]⟩,Z'⟩/\Ext Z Z'
theorem ZZ {Z:St}{s:By}{b c:Nat}(hs:s.length<=4000) (hl:∀ (l:By) (a:Nat),l∈I3 10 s->a<=s.length+1->Kc l a) (hb:Z.row b=some [str s]) (hc:Z.A5 c=some z20) (hbl:b<Z.n) (hcl:c<Z.n) :
  Ev (go Tryz.prog HS (.fn 38) [.func (.func 39) ⟨[]⟩ ⟨[.pointer (some ⟨b,0,none⟩),.pointer (some ⟨c,0,none⟩)]⟩] Z) (CaP Z c (Cj s)) ⟨⟩:=by
 refine (Pg (R:=PcP (Z.new [.int .i64 0,.int .i64 0] (some 86)) c (Cj s)) ((Sw (b:=b) (c:=c) (s:=s) hs hl (by rw [Af om];exact hb) (by rw [F5 om];exact hc) (by simp;omega)).mono ?_)).mono ?_
 ·intro r hr;cases hR:Cj s with
  | ok T =>
    rw [hR] at hr;obtain ⟨Z',cells,rfl,hE,ho,hT⟩:=hr;have hn:=hE.n;simp at hn;refine ⟨by dsimp only;omega,?_,.inl ⟨rfl,rfl⟩,Z',cells,rfl,hE,ho,hT⟩;dsimp only;rw [hE.A5 (by simp) om];exact cL
  | error pe =>
    obtain ⟨p,e⟩:=pe;rw [hR] at hr;obtain ⟨Z',rfl,hE⟩:=hr;have hn:=hE.n;simp at hn;refine ⟨by dsimp only;omega,?_,.inr ⟨p,e,rfl,rfl⟩,Z',rfl,hE⟩;dsimp only;rw [A6 (hE.same _ (by simp))];exact cL
 ·rintro r ⟨r0,Z',p,e,hr,hE,rfl,hx⟩;have hn:=hE.n;cases hR:Cj s with
  | ok T =>
    rw [hR] at hr;obtain ⟨Z1,cells,rfl,hE1,ho,hT⟩:=hr;rcases hx with ⟨-,-,rfl,rfl⟩|⟨hx,-⟩
    rotate_left
    ·cases hx
    have hn1:=hE1.n;simp at hn1;dsimp only at hn hE;refine ⟨Z',cells,rfl,⟨om,fun q h1 h2=>?_⟩,?_,fun H hH=>?_⟩
    ·rw [hE.same q om om,hE1.same q (by simp;omega) h2,M7,if_neg om]
    ·rw [hE.A5 om om];exact ho
    ·refine (hT (Z.n::H) fun q hq=>?_).Pd (I5 hn fun q hq hm=>⟨fun h=>hm (List.mem_cons_of_mem _ h),?_⟩)
     ·rcases List.mem_cons.1 hq with rfl|hq
      ·simp
      ·have:=hH q hq;simp;omega
     ·exact hE.row hq fun e=>hm (by rw [e];exact List.mem_cons_self ..)
  | error pe =>
    obtain ⟨p',e'⟩:=pe;rw [hR] at hr;obtain ⟨Z1,rfl,hE1⟩:=hr;rcases hx with ⟨hx,-⟩|⟨-,hx⟩
    ·cases hx
    have hn1:=hE1.n;simp at hn1;dsimp only at hn hE hx;obtain ⟨h1,h2⟩:p'=p/\e'=e:=by
     unfold fault at hx;simp at hx;exact ⟨om,hx.2⟩
    subst h1 h2;refine ⟨Z',rfl,⟨om,fun q h1=>?_⟩⟩;rw [hE.same q om om,hE1.same q (by simp;omega),M7,if_neg om]
noncomputable def RD (s:By):Except Er Tn:=if 4000<s.length then .error (0,2) else Cj s
def PaP (Z:St) (R:Except Er Tn) (r:CR):Prop:=match R with
 | .ok T=>∃ Z' cells,r=⟨false,.tuple ⟨[.agg ⟨cells⟩,.int .i64 0,.int .i64 0]⟩,Z'⟩/\Ext Z Z'/\∀ H:List Nat,(∀ q∈H,q<Z.n)->Ar (H6 Z' H) cells T
 | .error (p,e)=>∃ Z',r=⟨false,.tuple ⟨[.agg ⟨z20⟩,.int .i64 (p:Nat),.int .i64 e]⟩,Z'⟩/\Ext Z Z'
theorem dT {Z:St}{s:By}(hl:s.length<=4000->∀ (l:By) (a:Nat),l∈I3 10 s->a<=s.length+1->Kc l a) (he:s.length<=4000->∀ p e,Cj s= .error (p,e)->e≠0) (hlen:s.length<1000000000) :
  Ev (go Tryz.prog HS (.fn 18) [str s] Z) (PaP Z (RD s)) ⟨⟩:=by
 refine D7 Tryz.func18 rfl rfl ?_;have e4:decide ((4000:Int)<((s.length:Nat):Int))=decide (4000<s.length):=by rw [Bool.eq_iff_iff,decide_eq_true_iff,decide_eq_true_iff];omega
 unfold RD;cases h4:decide (4000<s.length) with
 | true =>
   rw [if_pos (of_decide_eq_true h4)];refine gS1 (a3N @e4 @h4 @Tryz.results18) ?_;exact ⟨_,rfl,eX⟩
 | false =>
   have h5:=of_decide_eq_false h4;have hs:s.length<=4000:=om;rw [if_neg h5];refine gS1 (aI @e4 @h4) ?_;refine (ZZ (b:=Z.n) (c:=Z.n+1+1) hs (hl hs) ?_ ?_ ?_ ?_).mono ?_
   ·exact cL
   ·unfold z20;exact cL
   ·simp;omega
   ·simp
   ·intro r hr;cases hR:Cj s with
    | ok T =>
      rw [hR] at hr;obtain ⟨Z',cells,rfl,hE,ho,hT⟩:=hr;have hn:=hE.n;simp at hn;obtain ⟨a0,a1,a2,a3,a4,a5,a6,a7,a8,a9,a10,a11,a12,a13,a14,a15,a16,a17,a18,a19,rfl⟩:=(hT [] (by simp)).cells;have hrc:=A8 ho;have hro:Z'.A5 (Z.n+1)=some [str [],.slice none 0 0,.slice none 0 0,.slice none 0 0,.int .i64 0,.int .i64 0,str [],.int .i64 0,.int .i64 0,str [],.slice none 0 0,.slice none 0 0,.int .i64 0,.slice none 0 0,.int .i64 0,.int .i64 0,.int .i64 0,.int .i64 0,.int .i64 0,.int .i64 0]:=by
       rw [hE.A5 (by simp) om];exact cL
      refine gS1 (a4N @ho @hrc @hro @Tryz.results18) ?_;refine ⟨_,_,rfl,?_,fun H hH=>?_⟩
      ·exact (((C5.ext (Z0:=Z) hE (((Ext.new _ _).trans (.new _ _)).trans (.new _ _)) om).AF _).upd om _).upd om _
      ·refine (hT ((Z.n+1)::H) fun q hq=>?_).Pd (I5 (by simp) fun q hq hm=>⟨fun h=>hm (List.mem_cons_of_mem _ h),?_⟩)
       ·rcases List.mem_cons.1 hq with rfl|hq
        ·simp
        ·have:=hH q hq;simp;omega
       ·rw [D9 fun e=>hm (by rw [e];exact List.mem_cons_self ..),D9 om,Af om]
    | error pe =>
      obtain ⟨p,e⟩:=pe;rw [hR] at hr;obtain ⟨Z',rfl,hE⟩:=hr;have hn:=hE.n;simp at hn;have he0:=he hs p e hR;have hro:Z'.A5 (Z.n+1)=some [str [],.slice none 0 0,.slice none 0 0,.slice none 0 0,.int .i64 0,.int .i64 0,str [],.int .i64 0,.int .i64 0,str [],.slice none 0 0,.slice none 0 0,.int .i64 0,.slice none 0 0,.int .i64 0,.int .i64 0,.int .i64 0,.int .i64 0,.int .i64 0,.int .i64 0]:=by
       rw [A6 (hE.same _ (by simp))];exact cL
      have d0:decide (e=0)=false:=decide_eq_false he0;refine gS1 (a3N @hro @d0 @Tryz.results18) ?_;refine H3.intro (by (repeat first|simp (disch:=omega) only [B9,C9,C0,I9,L9,M0,I8,N8,W3 (Ext.refl _)]|rw [D0 (by kernel_rfl)]);first|done|rfl) ?_;refine gS1 (aI @hro @Tryz.results18) ?_;exact ⟨_,rfl,((((((Ext.new _ _).trans (.new _ _)).trans (.new _ _)).trans hE).AF _).upd om _).upd om _⟩
end Go.Proofs.T
namespace Go.Proofs.T
open Go Go.Ab
theorem bJ:AK (some P9) (some P9)=true:=by kernel_rfl
theorem Ze {Z:St}(h:Z.read 1 0 20=some P9):go Tryz.prog HS (.fn 12) [] Z=some ⟨false,.bool true,Z⟩:=by
 have e2:go Tryz.prog HS (.fn 12) [] Z=bb (AK (Z.read 1 0 20) (some P9)) (some ⟨false,.bool true,Z⟩):=rfl;rw [e2,h,bJ];rfl
end Go.Proofs.T
