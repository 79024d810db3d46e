/- The program's Formula. -/
import Derived.Test.YtbcanmagihejhaaGreatDoorTH
set_option linter.unusedSimpArgs false
set_option linter.unusedVariables false
namespace Go.Proofs.T
open Go Go.Ab
open Nat (reduceMul reduceEqDiff reduceAdd)
set_option maxRecDepth 100000
def z5:List Value:=[str [],.int .i64 0,.int .i64 0,str [],.slice none 0 0]
def FcP (Z:St) (c:Nat) (R:Except Er Ex) (r:CR):Prop:=match R with
 | .ok e=>∃ Z' row,r=⟨false,.tuple ⟨[]⟩,Z'⟩/\ExtX c Z Z'/\Z'.orow c=some row/\Fresh (fun q=>q<Z.n) Z' row e
 | .error (p,e)=>∃ Z',r=⟨true,fault p e,Z'⟩/\Ext Z Z'
set_option maxHeartbeats 4000000 in
theorem fclosure_ok {Z:St}{s:By}{b c:Nat}(hs:s.length<10000000) (hsh:ShortF (fToks s 0)) (hb:Z.row b=some [str s]) (hc:Z.orow c=some z5) (hcl:c<Z.n) :
  Ev (go Tryz.prog HS (.fn 50) [.pointer (some ⟨b,0,none⟩),.pointer (some ⟨c,0,none⟩)] Z) (FcP Z c (readS (fToks s 0))) ⟨⟩:=by
 refine ev_go Tryz.func50 rfl rfl ?_
 have hlen0:(fToks s 0).length<=s.length+1:=by
  unfold fToks;rw [List.length_append];have:=fT_len (s:=s) (from':=0) s.length 0;simp;omega
 have hpos:0<(fToks s 0).length:=by unfold fToks;simp
 refine gS1 @hb ?_
 refine (ftokens_ok (from':=0) hs om).mono ?_
 rintro r ⟨fv,Z1,rfl,hol,hE1⟩
 obtain ⟨fa,rfl⟩:=OL.shape hol
 have hol':=OL.sl hol
 refine gS ?_
 refine (read_ok hol' hpos ends_ftoks hsh om).mono ?_
 intro r
 cases hR:readS (fToks s 0) with
 | error pe =>
   obtain ⟨p,e⟩:=pe
   rintro ⟨Z2,rfl,hE2⟩
   refine gS ?_
   exact ⟨_,rfl,hE1.trans hE2⟩
 | ok e =>
   rintro ⟨Z2,row,rfl,hE2,hf2⟩
   obtain ⟨u1,u2,u3,u4,u5,rfl⟩:=hf2.five
   have n1:=hE1.n
   have hc1:Z2.orow c=some z5:=by rw [hE2.orow om,hE1.orow hcl];exact hc
   unfold z5 at hc1
   refine gS1 @hc1 ?_
   try refine Must.intro (by (repeat first|simp (disch:=omega) only [as_read,as_upd,as_newb,rok_read,rok_eff,rok_nil,bi_true,as_nil,as_e hE1,as_e hE2]|rw [as_ord (by kernel_rfl)]);first|done|rfl) ?_
   try simp (maxSteps:=8000000) (disch:=first|exact dS|fail) only [↓bD,bW,reduceMul,reduceEqDiff,reduceAdd,Nat.reduceBEq,reduceIte,Option.isNone_none,hc1,Tryz.results50]
   refine ⟨_,_,rfl,(ExtX.of (hE1.trans hE2)).upd _,orow_upd_same,?_⟩
   exact (hf2.extX (b:=c) (ExtX.upd .refl _) (by show c<Z1.n;omega)).weak fun q hq=>by show q<Z1.n;omega
def FaP (Z:St) (c:Nat) (R:Except Er Ex) (r:CR):Prop:=match R with
 | .ok e=>∃ Z' row,r=⟨false,.agg ⟨[.int .i64 0,.int .i64 0]⟩,Z'⟩/\ExtX c Z Z'/\Z'.orow c=some row/\Fresh (fun q=>q<Z.n) Z' row e
 | .error (p,e)=>∃ Z',r=⟨false,.agg ⟨[.int .i64 (p:Nat),.int .i64 e]⟩,Z'⟩/\Ext Z Z'
theorem cformula_ok {Z:St}{s:By}{b c:Nat}(hs:s.length<10000000) (hsh:ShortF (fToks s 0)) (hb:Z.row b=some [str s]) (hc:Z.orow c=some z5) (hbl:b<Z.n) (hcl:c<Z.n) :
  Ev (go Tryz.prog HS (.fn 38) [.func (.func 50) ⟨[]⟩ ⟨[.pointer (some ⟨b,0,none⟩),.pointer (some ⟨c,0,none⟩)]⟩] Z) (FaP Z c (readS (fToks s 0))) ⟨⟩:=by
 refine (caught_ok (R:=FcP (Z.new [.int .i64 0,.int .i64 0] (some 86)) c (readS (fToks s 0))) ((fclosure_ok (b:=b) (c:=c) (s:=s) hs hsh (by rw [row_new_ne om];exact hb) (by rw [orow_new_ne om];exact hc) (by simp;omega)).mono ?_)).mono ?_
 ·intro r hr
  cases hR:readS (fToks s 0) with
  | ok T =>
    rw [hR] at hr
    obtain ⟨Z',row,rfl,hE,ho,hT⟩:=hr
    have hn:=hE.n
    simp at hn
    refine ⟨by dsimp only;omega,?_,.inl ⟨rfl,rfl⟩,Z',row,rfl,hE,ho,hT⟩
    dsimp only
    rw [hE.orow (by simp) om];exact cL
  | error pe =>
    obtain ⟨p,e⟩:=pe
    rw [hR] at hr
    obtain ⟨Z',rfl,hE⟩:=hr
    have hn:=hE.n
    simp at hn
    refine ⟨by dsimp only;omega,?_,.inr ⟨p,e,rfl,rfl⟩,Z',rfl,hE⟩
    dsimp only
    rw [orow_congr (hE.same _ (by simp))];exact cL
 ·rintro r ⟨r0,Z',p,e,hr,hE,rfl,hx⟩
  have hn:=hE.n
  cases hR:readS (fToks s 0) with
  | ok T =>
    rw [hR] at hr
    obtain ⟨Z1,row,rfl,hE1,ho,hT⟩:=hr
    rcases hx with ⟨-,-,rfl,rfl⟩|⟨hx,-⟩
    rotate_left
    ·cases hx
    have hn1:=hE1.n
    simp at hn1
    dsimp only at hn hE
    refine ⟨Z',row,rfl,⟨om,fun q h1 h2=>?_⟩,?_,?_⟩
    ·rw [hE.same q om om,hE1.same q (by simp;omega) h2,new_get,if_neg om]
    ·rw [hE.orow om om];exact ho
    ·exact (hT.extX hE (by simp)).weak fun q hq=>by simp;omega
  | error pe =>
    obtain ⟨p',e'⟩:=pe
    rw [hR] at hr
    obtain ⟨Z1,rfl,hE1⟩:=hr
    rcases hx with ⟨hx,-⟩|⟨-,hx⟩
    ·cases hx
    have hn1:=hE1.n
    simp at hn1
    dsimp only at hn hE hx
    obtain ⟨h1,h2⟩:p'=p/\e'=e:=by
     unfold fault at hx
     simp at hx
     exact ⟨om,hx.2⟩
    subst h1 h2
    refine ⟨Z',rfl,⟨om,fun q h1=>?_⟩⟩
    rw [hE.same q om om,hE1.same q (by simp;omega),new_get,if_neg om]
def FoP (Z:St) (R:Except Er Ex) (r:CR):Prop:=match R with
 | .ok e=>∃ Z' row,r=⟨false,.tuple ⟨[.agg ⟨row⟩,.int .i64 0,.int .i64 0]⟩,Z'⟩/\Ext Z Z'/\Fresh (fun q=>q<Z.n) Z' row e
 | .error (p,e)=>∃ Z',r=⟨false,.tuple ⟨[.agg ⟨z5⟩,.int .i64 (p:Nat),.int .i64 e]⟩,Z'⟩/\Ext Z Z'
set_option maxHeartbeats 8000000 in
theorem Formula_ok {Z:St}{s:By}(hs:s.length<10000000) (hsh:ShortF (fToks s 0)) (he:∀ p e,readS (fToks s 0)= .error (p,e)->e≠0) :
  Ev (go Tryz.prog HS (.fn 24) [str s] Z) (FoP Z (readS (fToks s 0))) ⟨⟩:=by
 refine ev_go Tryz.func24 rfl rfl ?_
 refine gS ?_
 refine (cformula_ok (b:=Z.n) (c:=Z.n+1+1) hs hsh ?_ ?_ ?_ ?_).mono ?_
 ·exact cL
 ·unfold z5;exact cL
 ·simp;omega
 ·simp
 ·intro r hr
  cases hR:readS (fToks s 0) with
  | ok T =>
    rw [hR] at hr
    obtain ⟨Z',row,rfl,hE,ho,hT⟩:=hr
    have hn:=hE.n
    simp at hn
    obtain ⟨u1,u2,u3,u4,u5,rfl⟩:=hT.five
    have hrc:=row_of ho
    have hro:Z'.orow (Z.n+1)=some [str [],.int .i64 0,.int .i64 0,str [],.slice none 0 0]:=by
     rw [hE.orow (by simp) om];exact cL
    refine gS1 (aI @ho (aI @hrc (aI @hro @Tryz.results24))) ?_
    have EN:Ext Z (((Z.new [str s]).new [str [],.int .i64 0,.int .i64 0,str [],.slice none 0 0]).new [str [],.int .i64 0,.int .i64 0,str [],.slice none 0 0]):=((Ext.new _ _).trans (.new _ _)).trans (.new _ _)
    refine ⟨_,_,rfl,?_,?_⟩
    ·exact (((ExtX.ext (Z0:=Z) hE (((Ext.new _ _).trans (.new _ _)).trans (.new _ _)) om).new' _).upd om _).upd om _
    ·exact ((hT.ext ((Ext.new' (.refl _) [.int .i64 0,.int .i64 0]).upd (Nat.le_refl _) [.int .i64 0,.int .i64 0])).extX (b:=Z.n+1) (ExtX.upd .refl _) (by show Z.n+1<Z.n+3;omega)).weak fun q hq=>by show q<Z.n+3;omega
  | error pe =>
    obtain ⟨p,e⟩:=pe
    rw [hR] at hr
    obtain ⟨Z',rfl,hE⟩:=hr
    have hn:=hE.n
    simp at hn
    have he0:=he _ _ hR
    have e0:decide (e=0)=false:=decide_eq_false he0
    have hro:Z'.orow (Z.n+1)=some [str [],.int .i64 0,.int .i64 0,str [],.slice none 0 0]:=by
     rw [hE.orow (by simp)];exact cL
    refine gS1 (aI @e0 (aI @hro @Tryz.results24)) ?_
    try refine Must.intro (by (repeat first|simp (disch:=omega) only [as_read,as_upd,as_newb,asx (Ext.refl _)]|rw [as_ord (by kernel_rfl)]);first|done|rfl) ?_
    try simp (maxSteps:=8000000) (disch:=first|exact dS|fail) only [↓bD,bW,reduceMul,reduceEqDiff,reduceAdd,Nat.reduceBEq,reduceIte,Option.isNone_none,Tryz.results24]
    exact ⟨_,rfl,((((((Ext.new _ _).trans (.new _ _)).trans (.new _ _)).trans hE).new' _).upd om _).upd om _⟩
end Go.Proofs.T
