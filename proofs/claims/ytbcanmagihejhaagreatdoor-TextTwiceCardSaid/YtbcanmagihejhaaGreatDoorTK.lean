/- text.caught on a closure with two captured values; Parse. -/
import Derived.Test.YtbcanmagihejhaaGreatDoorTI
set_option linter.unusedSimpArgs false
set_option linter.unusedVariables false
namespace Go.Proofs.T
open Go Go.Ab
open Nat (reduceMul reduceEqDiff reduceAdd)
set_option maxRecDepth 100000
theorem caught_go {vs:List Value}{σ:St}{Q:CR→Prop}{u:Hd Q}{c0 c1 c2 c3:Code}(hb:Tryz.f38.body=some (.seq c0 (.seq c1 (.seq c2 (.seq c3 .ret)))))
  (h:Ev (caughtF2 Tryz.prog c0 c2 c3 3 2 86 86 [.cell 2 86] (lim Tryz.prog HS) vs σ) Q u):Ev (go Tryz.prog HS (.fn 38) vs σ) Q u:=by
 have e:parts=(c0,c1,c2,c3):=by unfold parts;rw [hb]
 have e2:go Tryz.prog HS (.fn 38) vs σ=caughtT.f (lim Tryz.prog HS) vs σ:=rfl
 rw [e2]
 unfold caughtT
 rw [e]
 exact h
theorem nrm_n {β:Type}{fr:Fr}{σ:St}{f:Fr→St→Option β}:nrm ⟨.normal,fr,σ⟩ f=f fr σ:=rfl
theorem nrp_n {β:Type}{fr:Fr}{σ:St}{f:Fr→St→Option β}{g:Value→Fr→St→Option β}:nrp ⟨.normal,fr,σ⟩ f g=f fr σ:=rfl
theorem nrp_p {β:Type}{fr:Fr}{σ:St}{v:Value}{f:Fr→St→Option β}{g:Value→Fr→St→Option β}:nrp ⟨.pan v,fr,σ⟩ f g=g v fr σ:=rfl
theorem caughtV_fault {σ:St}{b p:Nat}{e:Int}(h:σ.orow b=some [.int .i64 0,.int .i64 0]) (hb:b<σ.n):caughtV Tryz.prog 86 (.pointer (some ⟨b,0,none⟩)) (.agg ⟨[.int .i64 p,.int .i64 e]⟩) σ=some (((σ.new [.int .i64 0,.int .i64 0] (some 86)).upd σ.n [.int .i64 p,.int .i64 e]).upd b [.int .i64 p,.int .i64 e]):=by
 have hz:zero? Tryz.prog 86=some (.agg ⟨[.int .i64 0,.int .i64 0]⟩):=by kernel_rfl
 have hs:size? Tryz.prog 86=some 2:=by kernel_rfl
 have st:∀ (s:St) (q:Nat) (x y a c:Value),s.orow q=some [x,y]→storeV Tryz.prog s 86 (.pointer (some ⟨q,0,none⟩)) (.agg ⟨[a,c]⟩)=some (s.upd q [a,c]):=by
  intro s q x y a c hq
  unfold storeV
  rw [show at? (.pointer (some ⟨q,0,none⟩))=some (q,0) from rfl,ob_some,pr_mk,hs,ob_some]
  show s.write q 0 [a,c]=_
  rw [write_eq,hq,ob_some]
  rfl
 unfold caughtV
 rw [hz,ob_some,show ptrTo σ.n= .pointer (some ⟨σ.n,0,none⟩) from rfl]
 rw [st _ σ.n (.int .i64 0) (.int .i64 0) _ _ (cL),ob_some]
 refine gS ?_
 rw [ob_some,show sub [Value.int .i64 (p:Nat),.int .i64 e] 0 2=some [.int .i64 (p:Nat),.int .i64 e] from rfl,ob_some,ob_some]
 rw [st _ b (.int .i64 0) (.int .i64 0) _ _ (by rw [orow_upd_ne (by omega),orow_new_ne (by omega)];exact h)]
theorem ifc_fault {p:Nat}{e:Int}:ifaceOf 86 (fault p e)=some (.agg ⟨[.int .i64 (p:Nat),.int .i64 e]⟩):=rfl
set_option maxHeartbeats 4000000 in
theorem caught_ok {g:Nat}{x y:Value}{σ:St}{R:CR→Prop}
  (hb:Ev (go Tryz.prog HS (.fn g) [x,y] (σ.new [.int .i64 0,.int .i64 0] (some 86))) (fun r=>σ.n<r.σ.n∧r.σ.orow σ.n=some [.int .i64 0,.int .i64 0]∧((r.pan=false∧r.v= .tuple ⟨[]⟩)∨∃ p e,r.pan=true∧r.v=fault p e)∧R r) ⟨⟩) :
  Ev (go Tryz.prog HS (.fn 38) [.func (.func g) ⟨[]⟩ ⟨[x,y]⟩] σ) (fun r=>∃ r0 σ' p e,R r0∧ExtX σ.n r0.σ σ'∧r=⟨false,.agg ⟨[.int .i64 (p:Nat),.int .i64 e]⟩,σ'⟩∧((r0.pan=false∧r0.v= .tuple ⟨[]⟩∧p=0∧e=0)∨(r0.pan=true∧r0.v=fault p e))) ⟨⟩:=by
 refine caught_go rfl ?_
 unfold caughtF2
 refine gS1 @nrm_n ?_
 refine hb.mono ?_
 rintro ⟨pn,v,σ1⟩ ⟨hn,ho,hc,hR⟩
 rcases hc with ⟨h1,h2⟩|⟨p,e,h1,h2⟩
 ·obtain rfl:pn=false:=h1
  obtain rfl:v= .tuple ⟨[]⟩:=h2
  refine gS1 (aI @nrp_n (aI @nrm_n @ho)) ?_
  exact ⟨⟨false,.tuple ⟨[]⟩,σ1⟩,_,0,0,hR,ExtX.upd .refl _,rfl,.inl ⟨rfl,rfl,rfl,rfl⟩⟩
 ·obtain rfl:pn=true:=h1
  obtain rfl:v=fault p e:=h2
  simp (maxSteps:=8000000) (disch:=first|exact dS|fail) only [↓bD,bW,reduceMul,reduceEqDiff,reduceAdd,Nat.reduceBEq,reduceIte,Option.isNone_none,nrp_p,ho,ifc_fault,caughtV_fault ho hn]
  exact ⟨⟨true,fault p e,σ1⟩,_,p,e,hR,ExtX.upd (ExtX.updF (ExtX.newF .refl _) (Nat.le_refl _) _) _,rfl,.inr ⟨rfl,rfl⟩⟩
def z20:List Value:=[str [],.slice none 0 0,.slice none 0 0,.slice none 0 0,.int .i64 0,.int .i64 0,str [],.int .i64 0,.int .i64 0,str [],.slice none 0 0,.slice none 0 0,.int .i64 0,.slice none 0 0,.int .i64 0,.int .i64 0,.int .i64 0,.int .i64 0,.int .i64 0,.int .i64 0]
theorem TnAt.keepH {σ σ':St}{cells:List Value}{T:Tn}(h:TnAt σ cells T) (hE:Keep σ σ'):TnAt σ' cells T:=by
 obtain ⟨vl,vc,vr,ex,vt,vk,h1,h2,h3,h4,h5,h6,vs,h7,h8⟩:=h
 exact ⟨vl,vc,vr,ex,vt,vk,h1,SL.keep h2 hE,SL.keep h3 hE,SL.keep h4 hE,h5.keep hE,SL.keep h6 hE,vs,SL.keep h7 hE,h8.mono fun _ _ hx=>SL.keep hx hE⟩
theorem TnAt.cells {σ:St}{cells:List Value}{T:Tn}(h:TnAt σ cells T):∃ a0 a1 a2 a3 a4 a5 a6 a7 a8 a9 a10 a11 a12 a13 a14 a15 a16 a17 a18 a19,cells=[a0,a1,a2,a3,a4,a5,a6,a7,a8,a9,a10,a11,a12,a13,a14,a15,a16,a17,a18,a19]:=by
 obtain ⟨vl,vc,vr,ex,vt,vk,rfl,-,-,-,h5,-⟩:=h
 obtain ⟨c1,c2,c3,c4,c5,rfl⟩:=fc5 h5
 exact ⟨_,_,_,_,_,_,_,_,_,_,_,_,_,_,_,_,_,_,_,_,rfl⟩
def PcP (σ:St) (c:Nat) (R:Except Er Tn) (r:CR):Prop:=match R with
 | .ok T=>∃ σ' cells,r=⟨false,.tuple ⟨[]⟩,σ'⟩∧ExtX c σ σ'∧σ'.orow c=some cells∧∀ H:List Nat,(∀ q∈H,q<σ.n)→TnAt (hide σ' H) cells T
 | .error (p,e)=>∃ σ',r=⟨true,fault p e,σ'⟩∧Ext σ σ'
set_option maxHeartbeats 4000000 in
theorem pclosure_ok {σ:St}{s:By}{b c:Nat}(hs:s.length≤4000) (hl:∀ (l:By) (a:Nat),l∈splitB 10 s→a≤s.length+1→LineOk l a) (hb:σ.row b=some [str s]) (hc:σ.orow c=some z20) (hcl:c<σ.n) :
  Ev (go Tryz.prog HS (.fn 39) [.pointer (some ⟨b,0,none⟩),.pointer (some ⟨c,0,none⟩)] σ) (PcP σ c (parseS s)) ⟨⟩:=by
 refine ev_go Tryz.func39 rfl rfl ?_
 refine gS1 @hb ?_
 refine (parse_ok hs hl).mono ?_
 intro r
 cases hR:parseS s with
 | error pe =>
   obtain ⟨p,e⟩:=pe
   rintro ⟨σ1,rfl,hE⟩
   refine gS ?_
   exact ⟨_,rfl,hE⟩
 | ok T =>
   rintro ⟨σ1,cells,rfl,hE,hT⟩
   have hc1:σ1.orow c=some z20:=by rw [orow_congr (hE.same c hcl)];exact hc
   obtain ⟨a0,a1,a2,a3,a4,a5,a6,a7,a8,a9,a10,a11,a12,a13,a14,a15,a16,a17,a18,a19,rfl⟩:=(hT [] (by simp)).cells
   unfold z20 at hc1
   refine gS1 (aI @hc1 @Tryz.results39) ?_
   refine ⟨_,_,rfl,(ExtX.of hE).upd _,orow_upd_same,fun H hH=>(hT (c::H) ?_).keepH (keep_hide (Nat.le_refl _) fun q _ hm=>⟨fun h=>hm (List.mem_cons_of_mem _ h),row_upd_ne fun e=>hm (by rw [e];exact List.mem_cons_self ..)⟩)⟩
   intro q hq
   rcases List.mem_cons.1 hq with rfl|hq
   ·exact hcl
   ·exact hH q hq
def CaP (σ:St) (c:Nat) (R:Except Er Tn) (r:CR):Prop:=match R with
 | .ok T=>∃ σ' cells,r=⟨false,.agg ⟨[.int .i64 0,.int .i64 0]⟩,σ'⟩∧ExtX c σ σ'∧σ'.orow c=some cells∧∀ H:List Nat,(∀ q∈H,q<σ.n)→TnAt (hide σ' H) cells T
 | .error (p,e)=>∃ σ',r=⟨false,.agg ⟨[.int .i64 (p:Nat),.int .i64 e]⟩,σ'⟩∧Ext σ σ'
theorem cparse_ok {σ:St}{s:By}{b c:Nat}(hs:s.length≤4000) (hl:∀ (l:By) (a:Nat),l∈splitB 10 s→a≤s.length+1→LineOk l a) (hb:σ.row b=some [str s]) (hc:σ.orow c=some z20) (hbl:b<σ.n) (hcl:c<σ.n) :
  Ev (go Tryz.prog HS (.fn 38) [.func (.func 39) ⟨[]⟩ ⟨[.pointer (some ⟨b,0,none⟩),.pointer (some ⟨c,0,none⟩)]⟩] σ) (CaP σ c (parseS s)) ⟨⟩:=by
 refine (caught_ok (R:=PcP (σ.new [.int .i64 0,.int .i64 0] (some 86)) c (parseS s)) ((pclosure_ok (b:=b) (c:=c) (s:=s) hs hl (by rw [row_new_ne (by omega)];exact hb) (by rw [orow_new_ne (by omega)];exact hc) (by simp;omega)).mono ?_)).mono ?_
 ·intro r hr
  cases hR:parseS s with
  | ok T =>
    rw [hR] at hr
    obtain ⟨σ',cells,rfl,hE,ho,hT⟩:=hr
    have hn:=hE.n
    simp at hn
    refine ⟨by dsimp only;omega,?_,.inl ⟨rfl,rfl⟩,σ',cells,rfl,hE,ho,hT⟩
    dsimp only
    rw [hE.orow (by simp) (by omega)];exact cL
  | error pe =>
    obtain ⟨p,e⟩:=pe
    rw [hR] at hr
    obtain ⟨σ',rfl,hE⟩:=hr
    have hn:=hE.n
    simp at hn
    refine ⟨by dsimp only;omega,?_,.inr ⟨p,e,rfl,rfl⟩,σ',rfl,hE⟩
    dsimp only
    rw [orow_congr (hE.same _ (by simp))];exact cL
 ·rintro r ⟨r0,σ',p,e,hr,hE,rfl,hx⟩
  have hn:=hE.n
  cases hR:parseS s with
  | ok T =>
    rw [hR] at hr
    obtain ⟨σ1,cells,rfl,hE1,ho,hT⟩:=hr
    rcases hx with ⟨-,-,rfl,rfl⟩|⟨hx,-⟩
    rotate_left
    ·cases hx
    have hn1:=hE1.n
    simp at hn1
    dsimp only at hn hE
    refine ⟨σ',cells,rfl,⟨by omega,fun q h1 h2=>?_⟩,?_,fun H hH=>?_⟩
    ·rw [hE.same q (by omega) (by omega),hE1.same q (by simp;omega) h2,new_get,if_neg (by omega)]
    ·rw [hE.orow (by omega) (by omega)];exact ho
    ·refine (hT (σ.n::H) fun q hq=>?_).keepH (keep_hide hn fun q hq hm=>⟨fun h=>hm (List.mem_cons_of_mem _ h),?_⟩)
     ·rcases List.mem_cons.1 hq with rfl|hq
      ·simp
      ·have:=hH q hq;simp;omega
     ·exact hE.row hq fun e=>hm (by rw [e];exact List.mem_cons_self ..)
  | error pe =>
    obtain ⟨p',e'⟩:=pe
    rw [hR] at hr
    obtain ⟨σ1,rfl,hE1⟩:=hr
    rcases hx with ⟨hx,-⟩|⟨-,hx⟩
    ·cases hx
    have hn1:=hE1.n
    simp at hn1
    dsimp only at hn hE hx
    obtain ⟨h1,h2⟩:p'=p∧e'=e:=by
     unfold fault at hx
     simp at hx
     exact ⟨by omega,hx.2⟩
    subst h1 h2
    refine ⟨σ',rfl,⟨by omega,fun q h1=>?_⟩⟩
    rw [hE.same q (by omega) (by omega),hE1.same q (by simp;omega),new_get,if_neg (by omega)]
noncomputable def parseT (s:By):Except Er Tn:=if 4000<s.length then .error (0,2) else parseS s
def PaP (σ:St) (R:Except Er Tn) (r:CR):Prop:=match R with
 | .ok T=>∃ σ' cells,r=⟨false,.tuple ⟨[.agg ⟨cells⟩,.int .i64 0,.int .i64 0]⟩,σ'⟩∧Ext σ σ'∧∀ H:List Nat,(∀ q∈H,q<σ.n)→TnAt (hide σ' H) cells T
 | .error (p,e)=>∃ σ',r=⟨false,.tuple ⟨[.agg ⟨z20⟩,.int .i64 (p:Nat),.int .i64 e]⟩,σ'⟩∧Ext σ σ'
set_option maxHeartbeats 8000000 in
theorem Parse_ok {σ:St}{s:By}(hl:s.length≤4000→∀ (l:By) (a:Nat),l∈splitB 10 s→a≤s.length+1→LineOk l a) (he:s.length≤4000→∀ p e,parseS s= .error (p,e)→e≠0) (hlen:s.length<1000000000) :
  Ev (go Tryz.prog HS (.fn 18) [str s] σ) (PaP σ (parseT s)) ⟨⟩:=by
 refine ev_go Tryz.func18 rfl rfl ?_
 have e4:decide ((4000:Int)<((s.length:Nat):Int))=decide (4000<s.length):=by rw [Bool.eq_iff_iff,decide_eq_true_iff,decide_eq_true_iff];omega
 unfold parseT
 cases h4:decide (4000<s.length) with
 | true =>
   rw [if_pos (of_decide_eq_true h4)]
   refine gS1 (aI @e4 (aI @h4 @Tryz.results18)) ?_
   exact ⟨_,rfl,eX⟩
 | false =>
   have h5:=of_decide_eq_false h4
   have hs:s.length≤4000:=by omega
   rw [if_neg h5]
   refine gS1 (aI @e4 @h4) ?_
   refine (cparse_ok (b:=σ.n) (c:=σ.n+1+1) hs (hl hs) ?_ ?_ ?_ ?_).mono ?_
   ·exact cL
   ·unfold z20;exact cL
   ·simp;omega
   ·simp
   ·intro r hr
    cases hR:parseS s with
    | ok T =>
      rw [hR] at hr
      obtain ⟨σ',cells,rfl,hE,ho,hT⟩:=hr
      have hn:=hE.n
      simp at hn
      obtain ⟨a0,a1,a2,a3,a4,a5,a6,a7,a8,a9,a10,a11,a12,a13,a14,a15,a16,a17,a18,a19,rfl⟩:=(hT [] (by simp)).cells
      have hrc:=row_of ho
      have hro:σ'.orow (σ.n+1)=some [str [],.slice none 0 0,.slice none 0 0,.slice none 0 0,.int .i64 0,.int .i64 0,str [],.int .i64 0,.int .i64 0,str [],.slice none 0 0,.slice none 0 0,.int .i64 0,.slice none 0 0,.int .i64 0,.int .i64 0,.int .i64 0,.int .i64 0,.int .i64 0,.int .i64 0]:=by
       rw [hE.orow (by simp) (by omega)];exact cL
      refine gS1 (aI @ho (aI @hrc (aI @hro @Tryz.results18))) ?_
      refine ⟨_,_,rfl,?_,fun H hH=>?_⟩
      ·exact (((ExtX.ext (σ0:=σ) hE (((Ext.new _ _).trans (.new _ _)).trans (.new _ _)) (by omega)).new' _).upd (by omega) _).upd (by omega) _
      ·refine (hT ((σ.n+1)::H) fun q hq=>?_).keepH (keep_hide (by simp) fun q hq hm=>⟨fun h=>hm (List.mem_cons_of_mem _ h),?_⟩)
       ·rcases List.mem_cons.1 hq with rfl|hq
        ·simp
        ·have:=hH q hq;simp;omega
       ·rw [row_upd_ne fun e=>hm (by rw [e];exact List.mem_cons_self ..),row_upd_ne (by omega),row_new_ne (by omega)]
    | error pe =>
      obtain ⟨p,e⟩:=pe
      rw [hR] at hr
      obtain ⟨σ',rfl,hE⟩:=hr
      have hn:=hE.n
      simp at hn
      have he0:=he hs p e hR
      have hro:σ'.orow (σ.n+1)=some [str [],.slice none 0 0,.slice none 0 0,.slice none 0 0,.int .i64 0,.int .i64 0,str [],.int .i64 0,.int .i64 0,str [],.slice none 0 0,.slice none 0 0,.int .i64 0,.slice none 0 0,.int .i64 0,.int .i64 0,.int .i64 0,.int .i64 0,.int .i64 0,.int .i64 0]:=by
       rw [orow_congr (hE.same _ (by simp))];exact cL
      have d0:decide (e=0)=false:=decide_eq_false he0
      refine gS1 (aI @hro (aI @d0 @Tryz.results18)) ?_
      refine Must.intro (by (repeat first|simp (disch:=omega) only [as_read,as_upd,as_newb,rok_read,rok_eff,rok_nil,bi_true,as_nil,as_e (Ext.refl _)]|rw [as_ord (by kernel_rfl)]);first|done|rfl) ?_
      refine gS1 (aI @hro @Tryz.results18) ?_
      exact ⟨_,rfl,((((((Ext.new _ _).trans (.new _ _)).trans (.new _ _)).trans hE).new' _).upd (by omega) _).upd (by omega) _⟩
end Go.Proofs.T
namespace Go.Proofs.T
open Go Go.Ab
open Nat (reduceMul reduceEqDiff reduceAdd)
set_option maxRecDepth 100000
noncomputable def saysB (s:By) (a e:Int):Bool:=match parseT s with
 | .ok _=>decide (0=a)&&decide (0=e)
 | .error (p,f)=>decide ((p:Int)=a)&&decide (f=e)
def Fine (s:By):Prop:=(s.length≤4000→∀ (l:By) (a:Nat),l∈splitB 10 s→a≤s.length+1→LineOk l a)∧(s.length≤4000→∀ p e,parseS s= .error (p,e)→e≠0)∧s.length<1000000000
theorem parses_ok {σ:St}{s:By}{a e:Int}(h:Fine s) :
  Ev (go Tryz.prog HS (.fn 29) [str s,.int .i64 a,.int .i64 e] σ) (fun r=>∃ σ',r=⟨false,.bool (saysB s a e),σ'⟩∧Ext σ σ') ⟨⟩:=by
 refine ev_go Tryz.func29 rfl rfl ?_
 refine gS ?_
 refine (Parse_ok h.1 h.2.1 h.2.2).mono ?_
 intro r
 unfold saysB
 cases hR:parseT s with
 | ok T =>
   rintro ⟨σ1,cells,rfl,hE,hT⟩
   obtain ⟨a0,a1,a2,a3,a4,a5,a6,a7,a8,a9,a10,a11,a12,a13,a14,a15,a16,a17,a18,a19,rfl⟩:=(hT [] (by simp)).cells
   cases x1:decide (0=a) <;> cases x2:decide (0=e) <;> simp (maxSteps:=8000000) (disch:=first|exact dS|fail) only [↓bD,bW,reduceMul,reduceEqDiff,reduceAdd,Nat.reduceBEq,reduceIte,Option.isNone_none,x1,x2,yu_t,yu_f,Tryz.results29] <;> exact ⟨_,rfl,(hE.new' _).upd hE.n _⟩
 | error pe =>
   obtain ⟨p,f⟩:=pe
   rintro ⟨σ1,rfl,hE⟩
   unfold z20
   cases x1:decide ((p:Int)=a) <;> cases x2:decide (f=e) <;> simp (maxSteps:=8000000) (disch:=first|exact dS|fail) only [↓bD,bW,reduceMul,reduceEqDiff,reduceAdd,Nat.reduceBEq,reduceIte,Option.isNone_none,x1,x2,yu_t,yu_f,Tryz.results29] <;> exact ⟨_,rfl,(hE.new' _).upd hE.n _⟩
theorem pows_self:sameRow (some pows) (some pows)=true:=by kernel_rfl
theorem sanity_ok {σ:St}(h:σ.read 1 0 20=some pows):go Tryz.prog HS (.fn 12) [] σ=some ⟨false,.bool true,σ⟩:=by
 have e2:go Tryz.prog HS (.fn 12) [] σ=bb (sameRow (σ.read 1 0 20) (some pows)) (some ⟨false,.bool true,σ⟩):=rfl
 rw [e2,h,pows_self];rfl
end Go.Proofs.T
