/- The G6 interval of a DY nC ends are small. -/
import Derived.Test.YtgjocfjdecjhoaaGreatDoorCA
set_option linter.unusedSimpArgs false
set_option linter.unusedVariables false
set_option linter.defProp false
set_option maxHeartbeats 32000000
set_option maxRecDepth 100000
namespace Go.Proofs.T
open Go Go.Ab
open Nat (reduceMul reduceEqDiff reduceAdd)
def DU {α:Type}:=@nm α
def XT {T:Tn}{e:Ex}{P:JC}(h:Iv T e P):∀ {Z:St}{ca row:List Value},(∀ n d,P n d->RS n d)->Good Z ca T->P6 Z row e->Ev (gO 71 [.agg ⟨ca⟩,.agg ⟨row⟩] Z) (fun r=>∃ n d m e c Z',r=⟨false,.tuple ⟨[P8 n d,P8 m e,.int .i64 c]⟩,Z'⟩/\(c=0->P n d/\P m e)/\Ext Z Z') ⟨⟩:=by
 induction h with
 | @num n d nm l P h=>
   intro Z ca row hP hT he;obtain⟨v,B9,rfl,-,-,-⟩:=he;have hca:=hT.len;have hfa:sub ca 0 20=some ca:=C8 om om;refine C9 Tryz.func71 rfl rfl ?_;simp(maxSteps:=8000000) (disch:=first|exact dS|fail) only[↓bD,bW,reduceMul,reduceEqDiff,reduceAdd,Nat.reduceBEq,reduceIte,Option.isNone_none,hfa,K9,Tryz.results71];refine dW ?_;simp(maxSteps:=8000000) (disch:=first|exact dS|fail) only[↓bD,bW,reduceMul,reduceEqDiff,reduceAdd,Nat.reduceBEq,reduceIte,Option.isNone_none,hfa,K9,Tryz.results71];exact⟨n,d,n,d,0,_,rfl,fun _=>⟨h,h⟩,eX⟩
 | @name n d nm l P h=>
   intro Z ca row hP hT he;obtain⟨v,B9,rfl,-,-,-⟩:=he;have hca:=hT.len;have hfa:sub ca 0 20=some ca:=C8 om om;have d1:decide (([110,97,109,101]:By)=[110,117,109])=false:=by decide
   refine C9 Tryz.func71 rfl rfl ?_;simp(maxSteps:=8000000) (disch:=first|exact dS|fail) only[↓bD,bW,reduceMul,reduceEqDiff,reduceAdd,Nat.reduceBEq,reduceIte,Option.isNone_none,hfa,nmB,d1];obtain⟨S1,hS1⟩:=DU (((((Z.new ca).new [str [110,97,109,101],.int .i64 n,.int .i64 d,str nm,v]).new [.int .i64 0,.int .i64 0] (some 29)).new [.int .i64 0,.int .i64 0] (some 29)));rw[hS1];have E1:Ext Z S1:=by rw[<- hS1];exact eX
   have n1:S1.n=Z.n+4:=by rw[<- hS1];rfl
   have x2:S1.A7 (Z.n+1+1)=some [.int .i64 0,.int .i64 0]:=by rw[<- hS1];exact cL
   have x3:S1.A7 (Z.n+1+1+1)=some [.int .i64 0,.int .i64 0]:=by rw[<- hS1];exact cL
   refine(NY (s:=nm) (hT.mono E1)).mono ?_;rintro r ⟨Z2,rfl,hE2⟩;have n2:=hE2.n;have y2:=eT (hE2.A7 om) x2;have y3:=eT (hE2.A7 om) x3;have hE:Ext Z Z2:=E1.trans hE2;unfold PY;cases hk:(W0 T nm).2.2 with
   | false=>
     refine gS1 (aI hk (aI y2 (aI y3 @Tryz.results71))) ?_;exact⟨0,0,0,0,_,_,rfl,fun h=>om,eX⟩
   | true=>
     obtain⟨h1,h2⟩:=h hk;cases hl:decide ((W0 T nm).2.1<(W0 T nm).1)with
     | true=>
       refine gS1 (aI hk (aI hl (aI y2 (aI y3 @Tryz.results71)))) ?_;exact⟨0,0,0,0,_,_,rfl,fun h=>om,eX⟩
     | false=>
       refine gS1 (aI hk hl) ?_;refine bX.mono ?_;rintro r ⟨Z3,rfl,hE3⟩;have n3:=hE3.n;refine gS ?_;refine bX.mono ?_;rintro r ⟨Z4,rfl,hE4⟩;have n4:=hE4.n;have z2:=eT (hE4.A7 om) (eT (hE3.A7 om) y2);have z3:=eT (hE4.A7 om) (eT (hE3.A7 om) y3);have hE':Ext Z Z4:=hE.trans (hE3.trans hE4);unfold P8;refine gS1 (aI z2 (aI z3 @Tryz.results71)) ?_;exact⟨_,_,_,_,0,_,rfl,fun _=>⟨h1,h2⟩,eX⟩
 | @op o nm n d a b A B P h1 h2 ha hb hA hB hPP iha ihb=>
   intro Z ca row hP hT he;obtain⟨v,B9,rfl,hsl,-,hex⟩:=he;obtain⟨BB,off,sp,c,cells,r1,r2,rfl,l3,l4,s1,s2,x1,x2⟩:=FU hsl hex;have hca:=hT.len;have hfa:sub ca 0 20=some ca:=C8 om om;have d1:decide (o=[110,117,109])=false:=z4z h1;have d2:decide (o=[110,97,109,101])=false:=z4z h2;refine C9 Tryz.func71 rfl rfl ?_;refine gS1 (aI hfa (aI d1 (aI d2 (aI l4 (aI s1 @AG))))) ?_;obtain⟨R,hR⟩:∃ R:List Value,[str o,.int .i64 n,.int .i64 d,str nm,.slice (some ⟨BB,off,sp⟩) 2 c]=R:=⟨_,rfl⟩
   obtain⟨S1,hS1⟩:=DU (((((Z.new ca).new R).new [.int .i64 0,.int .i64 0] (some 29)).new [.int .i64 0,.int .i64 0] (some 29)));rw[hR,hS1];have E1:Ext Z S1:=by rw[<- hS1];exact eX
   have n1:S1.n=Z.n+4:=by rw[<- hS1];rfl
   have x2':S1.A7 (Z.n+1+1)=some [.int .i64 0,.int .i64 0]:=by rw[<- hS1];exact cL
   have x3':S1.A7 (Z.n+1+1+1)=some [.int .i64 0,.int .i64 0]:=by rw[<- hS1];exact cL
   have x0':S1.row Z.n=some ca:=by rw[<- hS1];exact cL
   have x1':S1.row (Z.n+1)=some R:=by rw[<- hS1];exact cL
   refine(iha hA (hT.mono E1) (x1.mono E1)).mono ?_;rintro r ⟨xn,xd,ym,ye,c1,Z2,rfl,k1,hE2⟩;have n2:=hE2.n;have y0:=eT (hE2.row om) x0';have y1:=eT (hE2.row om) x1';have y2:=eT (hE2.A7 om) x2';have y3:=eT (hE2.A7 om) x3';have C0:Cl Z2 [(Z.n,ca),(Z.n+1,R),(Z.n+1+1,[.int .i64 0,.int .i64 0]),(Z.n+1+1+1,[.int .i64 0,.int .i64 0])]:=⟨⟨om,by rw[hE2.A7 om,<- hS1];exact cL⟩,⟨om,by rw[hE2.A7 om,<- hS1];exact cL⟩,⟨om,y2⟩,⟨om,y3⟩,trivial⟩
   have y4:=eT (hE2.row om) (eT (E1.row l3) l4);have hE:Ext Z Z2:=E1.trans hE2;unfold P8;refine gS1 (asx hE2) ?_;refine dW1 (asx hE2) ?_;refine gS ?_;obtain⟨S2,hS2⟩:=DU (((((Z2.new [.int .i64 0,.int .i64 0] (some 29)).new [.int .i64 0,.int .i64 0] (some 29)).upd Z2.n [.int .i64 xn,.int .i64 xd]).upd (Z2.n+1) [.int .i64 ym,.int .i64 ye]));rw[hS2];have E2:Ext Z2 S2:=by rw[<- hS2];exact eX
   have m2:S2.n=Z2.n+2:=by rw[<- hS2];rfl
   have C2:Cl S2 [(Z2.n,[.int .i64 xn,.int .i64 xd]),(Z2.n+1,[.int .i64 ym,.int .i64 ye])]:=⟨⟨om,by rw[<- hS2];exact cL⟩,⟨om,by rw[<- hS2];exact cL⟩,trivial⟩
   have C1:Cl S2 [(Z.n,ca),(Z.n+1,R),(Z.n+1+1,[.int .i64 0,.int .i64 0]),(Z.n+1+1+1,[.int .i64 0,.int .i64 0])]:=C0.ext E2;have y4:=eT (E2.row om) y4;have hE:Ext Z S2:=hE.trans E2;obtain⟨⟨-,f0⟩,⟨-,f1⟩,⟨-,f2⟩,⟨-,f3⟩,-⟩:=C1;by_cases he:c1=0
   case neg=>
    have e1:decide (c1=0)=false:=z4z he;refine gS1 (aI e1 (aI f2 (aI f3 @Tryz.results71))) ?_;exact⟨0,0,0,0,c1,_,rfl,fun h=>absurd h he,eX⟩
   subst he;obtain⟨pX,pY⟩:=k1 rfl;have f0r:=A9 f0;have f1r:=A9 f1;rw[<- hR]at f1r;refine gS1 (aI f0r (aI hfa (aI f1r (aI y4 (aI s2 @AG))))) ?_;refine(ihb hB (hT.mono hE) (x2.mono hE)).mono ?_;rintro r ⟨un,ud,vm,ve,c2,Z3,rfl,k2,hE3⟩;have n3:=hE3.n;unfold P8;refine gS1 (asx hE3) ?_;refine dW1 (asx hE3) ?_;refine gS ?_;obtain⟨S3,hS3⟩:=DU (((((Z3.new [.int .i64 0,.int .i64 0] (some 29)).new [.int .i64 0,.int .i64 0] (some 29)).upd Z3.n [.int .i64 un,.int .i64 ud]).upd (Z3.n+1) [.int .i64 vm,.int .i64 ve]));rw[hS3];have E3:Ext Z3 S3:=by rw[<- hS3];exact eX
   have m3:S3.n=Z3.n+2:=by rw[<- hS3];rfl
   have hE:Ext Z S3:=hE.trans (hE3.trans E3);have C2':Cl S2 [(Z2.n,[.int .i64 xn,.int .i64 xd]),(Z2.n+1,[.int .i64 ym,.int .i64 ye]),(Z.n,ca),(Z.n+1,R),(Z.n+1+1,[.int .i64 0,.int .i64 0]),(Z.n+1+1+1,[.int .i64 0,.int .i64 0])]:=⟨C2.1,C2.2.1,C0.ext E2⟩
   have C3:Cl S3 [(Z3.n,[.int .i64 un,.int .i64 ud]),(Z3.n+1,[.int .i64 vm,.int .i64 ve]),(Z2.n,[.int .i64 xn,.int .i64 xd]),(Z2.n+1,[.int .i64 ym,.int .i64 ye]),(Z.n,ca),(Z.n+1,R),(Z.n+1+1,[.int .i64 0,.int .i64 0]),(Z.n+1+1+1,[.int .i64 0,.int .i64 0])] :=
    ⟨⟨om,by rw[<- hS3];exact cL⟩,⟨om,by rw[<- hS3];exact cL⟩,(C2'.ext hE3).ext E3⟩
   obtain⟨-,-,-,-,-,-,⟨-,f2⟩,⟨-,f3⟩,-⟩:=id C3;by_cases he:c2=0
   case neg=>
    have e1:decide (c2=0)=false:=z4z he;refine gS1 (aI e1 (aI f2 (aI f3 @Tryz.results71))) ?_;exact⟨0,0,0,0,c2,_,rfl,fun h=>absurd h he,eX⟩
   subst he;obtain⟨pU,pV⟩:=k2 rfl;refine gS ?_;refine bX.mono ?_;rintro r ⟨Z4,rfl,hE4⟩;have n4:=hE4.n;unfold P8;obtain⟨-,-,-,-,-,⟨-,wR⟩,-⟩:=C3.ext hE4;have wR':=A9 wR;rw[<- hR]at wR';refine gS1 wR' ?_;rw[hR]at wR';obtain⟨S4,hS4⟩:=DU (((Z4.new [.int .i64 0,.int .i64 0] (some 29)).upd Z4.n [.int .i64 0,.int .i64 1]));rw[hS4];have E4:Ext Z4 S4:=by rw[<- hS4];exact eX
   have m4:S4.n=Z4.n+1:=by rw[<- hS4];rfl
   have hE:Ext Z S4:=hE.trans (hE4.trans E4)
   have CC:Cl S4 [(Z4.n,[.int .i64 0,.int .i64 1]),(Z3.n,[.int .i64 un,.int .i64 ud]),(Z3.n+1,[.int .i64 vm,.int .i64 ve]),(Z2.n,[.int .i64 xn,.int .i64 xd]),(Z2.n+1,[.int .i64 ym,.int .i64 ye]),(Z.n,ca),(Z.n+1,R),(Z.n+1+1,[.int .i64 0,.int .i64 0]),(Z.n+1+1+1,[.int .i64 0,.int .i64 0])] :=
    ⟨⟨om,by rw[<- hS4];exact cL⟩,(C3.ext hE4).ext E4⟩
   clear hS4 hS3 hS2 hS1 C3 C2' C2 C0 f0 f1 f2 f3 f0r f1r x0' x1' x2' x3' y0 y1 y2 y3 iha ihb;obtain⟨⟨-,w16⟩,⟨-,w13⟩,⟨-,w14⟩,⟨-,w10⟩,⟨-,w11⟩,-,⟨-,wR⟩,⟨-,o2⟩,⟨-,o3⟩,-⟩:=id CC;have VH:=A9 w16;have BX:=A9 w13;have BG:=A9 w14;have BZ:=A9 w10;have BH:=A9 w11;have pA1:=hA _ _ pX;have pA2:=hA _ _ pY;have pB1:=hB _ _ pU;have pB2:=hB _ _ pV;by_cases g0:o=JD
   case pos=>
    subst g0;unfold OpP at hPP;rw[z1z rfl]at hPP;have gg:decide ((JD:By)=[43])=true:=by decide
    refine gS1 (aI gg (aI BZ (aI BH (aI BX (aI BG VH))))) ?_;refine(fL pA1 pB1).mono ?_;rintro r ⟨τ0,rfl,e0⟩;have nn0:=e0.n
    try unfold P8
    have CC:=CC.ext e0;obtain⟨⟨-,w16⟩,⟨-,w13⟩,⟨-,w14⟩,⟨-,w10⟩,⟨-,w11⟩,-,⟨-,wR⟩,⟨-,o2⟩,⟨-,o3⟩,-⟩:=id CC;have BZ:=A9 w10;have BH:=A9 w11;have BX:=A9 w13;have BG:=A9 w14;refine gS1 (aI BZ (aI BH (aI BX BG))) ?_;obtain⟨T0,hT0⟩:=DU (((τ0.new [.int .i64 0,.int .i64 0] (some 29)).upd τ0.n [.int .i64 (qn (xn*ud+un*xd) (xd*ud)),.int .i64 (qd (xn*ud+un*xd) (xd*ud))]));rw[hT0];have F0:Ext τ0 T0:=by rw[<- hT0];exact eX
    have mm0:T0.n=τ0.n+1:=by rw[<- hT0];rfl
    have hE:Ext Z T0:=hE.trans (e0.trans F0);have D0:Cl T0 [(τ0.n,[.int .i64 (qn (xn*ud+un*xd) (xd*ud)),.int .i64 (qd (xn*ud+un*xd) (xd*ud))])]:=⟨⟨om,by rw[<- hT0];exact cL⟩,trivial⟩
    have CC:Cl T0 [(Z4.n,[.int .i64 0,.int .i64 1]),(Z3.n,[.int .i64 un,.int .i64 ud]),(Z3.n+1,[.int .i64 vm,.int .i64 ve]),(Z2.n,[.int .i64 xn,.int .i64 xd]),(Z2.n+1,[.int .i64 ym,.int .i64 ye]),(Z.n,ca),(Z.n+1,R),(Z.n+1+1,[.int .i64 0,.int .i64 0]),(Z.n+1+1+1,[.int .i64 0,.int .i64 0])]:=CC.ext F0;obtain⟨⟨-,w16⟩,⟨-,w13⟩,⟨-,w14⟩,⟨-,w10⟩,⟨-,w11⟩,-,⟨-,wR⟩,⟨-,o2⟩,⟨-,o3⟩,-⟩:=id CC;refine(fL pA2 pB2).mono ?_;rintro r ⟨τ1,rfl,e1⟩;have nn1:=e1.n
    try unfold P8
    have CC:=CC.ext e1;obtain⟨⟨-,w16⟩,⟨-,w13⟩,⟨-,w14⟩,⟨-,w10⟩,⟨-,w11⟩,-,⟨-,wR⟩,⟨-,o2⟩,⟨-,o3⟩,-⟩:=id CC;have BZ:=A9 w10;have BH:=A9 w11;have BX:=A9 w13;have BG:=A9 w14;have D0:=D0.ext e1;obtain⟨⟨-,v0⟩,-⟩:=id D0;have v0r:=A9 v0;refine gS1 (aI BZ (aI BH (aI BX (aI BG v0r)))) ?_;obtain⟨T1,hT1⟩:=DU (((τ1.new [.int .i64 0,.int .i64 0] (some 29)).upd τ1.n [.int .i64 (qn (ym*ve+vm*ye) (ye*ve)),.int .i64 (qd (ym*ve+vm*ye) (ye*ve))]));rw[hT1];have F1:Ext τ1 T1:=by rw[<- hT1];exact eX
    have mm1:T1.n=τ1.n+1:=by rw[<- hT1];rfl
    have hE:Ext Z T1:=hE.trans (e1.trans F1);have D1:Cl T1 [(τ1.n,[.int .i64 (qn (ym*ve+vm*ye) (ye*ve)),.int .i64 (qd (ym*ve+vm*ye) (ye*ve))]),(τ0.n,[.int .i64 (qn (xn*ud+un*xd) (xd*ud)),.int .i64 (qd (xn*ud+un*xd) (xd*ud))])]:=⟨⟨om,by rw[<- hT1];exact cL⟩,D0.ext F1⟩
    have CC:Cl T1 [(Z4.n,[.int .i64 0,.int .i64 1]),(Z3.n,[.int .i64 un,.int .i64 ud]),(Z3.n+1,[.int .i64 vm,.int .i64 ve]),(Z2.n,[.int .i64 xn,.int .i64 xd]),(Z2.n+1,[.int .i64 ym,.int .i64 ye]),(Z.n,ca),(Z.n+1,R),(Z.n+1+1,[.int .i64 0,.int .i64 0]),(Z.n+1+1+1,[.int .i64 0,.int .i64 0])]:=CC.ext F1;obtain⟨⟨-,w16⟩,⟨-,w13⟩,⟨-,w14⟩,⟨-,w10⟩,⟨-,w11⟩,-,⟨-,wR⟩,⟨-,o2⟩,⟨-,o3⟩,-⟩:=id CC;refine(MY (qs:=[(qn (xn*ud+un*xd) (xd*ud),qd (xn*ud+un*xd) (xd*ud)),(qn (ym*ve+vm*ye) (ye*ve),qd (ym*ve+vm*ye) (ye*ve))]) hP (JT (by simp[jL]) (cL) (cL) rfl rfl) (JT (by simp) (cL) (cL) rfl rfl) (by simp) (by simp) ?_).mono ?_
    ·intro q hq;simp only[Y5,FN,Em]at hq;rcases hq with rfl|rfl
     ·exact hPP _ _ _ _ pX pU
     ·exact hPP _ _ _ _ pY pV
    rintro r ⟨zn,zd,zm,ze,Z9,rfl,z1,z2,e9⟩;have nn9:=e9.n;simp only[F6]at nn9;have o2':Z9.A7 (Z.n+1+1)=some [.int .i64 0,.int .i64 0]:=by rw[e9.A7 (cL)];exact cL1 o2
    have o3':Z9.A7 (Z.n+1+1+1)=some [.int .i64 0,.int .i64 0]:=by rw[e9.A7 (cL)];exact cL1 o3
    have hE:Ext Z Z9:=Ext.trans (eX) e9
    try unfold P8
    refine gS1 (aI o2' (aI o3' @Tryz.results71)) ?_;exact⟨zn,zd,zm,ze,0,_,rfl,fun _=>⟨z1,z2⟩,eX⟩
   by_cases g1:o=PD
   case pos=>
    subst g1;unfold OpP at hPP;rw[z0z (by decide)]at hPP;rw[z1z rfl]at hPP;have gg:decide ((PD:By)=[45])=true:=by decide
    have h0_:decide ((PD:By)=[43])=false:=by decide
    refine gS1 (aI gg (aI h0_ (aI BZ (aI BH (aI BX (aI BG VH)))))) ?_;refine(fM pA1 pB2).mono ?_;rintro r ⟨τ0,rfl,e0⟩;have nn0:=e0.n
    try unfold P8
    have CC:=CC.ext e0;obtain⟨⟨-,w16⟩,⟨-,w13⟩,⟨-,w14⟩,⟨-,w10⟩,⟨-,w11⟩,-,⟨-,wR⟩,⟨-,o2⟩,⟨-,o3⟩,-⟩:=id CC;have BZ:=A9 w10;have BH:=A9 w11;have BX:=A9 w13;have BG:=A9 w14;refine gS1 (aI BZ (aI BH (aI BX BG))) ?_;obtain⟨T0,hT0⟩:=DU (((τ0.new [.int .i64 0,.int .i64 0] (some 29)).upd τ0.n [.int .i64 (qn (xn*ve-vm*xd) (xd*ve)),.int .i64 (qd (xn*ve-vm*xd) (xd*ve))]));rw[hT0];have F0:Ext τ0 T0:=by rw[<- hT0];exact eX
    have mm0:T0.n=τ0.n+1:=by rw[<- hT0];rfl
    have hE:Ext Z T0:=hE.trans (e0.trans F0);have D0:Cl T0 [(τ0.n,[.int .i64 (qn (xn*ve-vm*xd) (xd*ve)),.int .i64 (qd (xn*ve-vm*xd) (xd*ve))])]:=⟨⟨om,by rw[<- hT0];exact cL⟩,trivial⟩
    have CC:Cl T0 [(Z4.n,[.int .i64 0,.int .i64 1]),(Z3.n,[.int .i64 un,.int .i64 ud]),(Z3.n+1,[.int .i64 vm,.int .i64 ve]),(Z2.n,[.int .i64 xn,.int .i64 xd]),(Z2.n+1,[.int .i64 ym,.int .i64 ye]),(Z.n,ca),(Z.n+1,R),(Z.n+1+1,[.int .i64 0,.int .i64 0]),(Z.n+1+1+1,[.int .i64 0,.int .i64 0])]:=CC.ext F0;obtain⟨⟨-,w16⟩,⟨-,w13⟩,⟨-,w14⟩,⟨-,w10⟩,⟨-,w11⟩,-,⟨-,wR⟩,⟨-,o2⟩,⟨-,o3⟩,-⟩:=id CC;refine(fM pA2 pB1).mono ?_;rintro r ⟨τ1,rfl,e1⟩;have nn1:=e1.n
    try unfold P8
    have CC:=CC.ext e1;obtain⟨⟨-,w16⟩,⟨-,w13⟩,⟨-,w14⟩,⟨-,w10⟩,⟨-,w11⟩,-,⟨-,wR⟩,⟨-,o2⟩,⟨-,o3⟩,-⟩:=id CC;have BZ:=A9 w10;have BH:=A9 w11;have BX:=A9 w13;have BG:=A9 w14;have D0:=D0.ext e1;obtain⟨⟨-,v0⟩,-⟩:=id D0;have v0r:=A9 v0;refine gS1 (aI BZ (aI BH (aI BX (aI BG v0r)))) ?_;obtain⟨T1,hT1⟩:=DU (((τ1.new [.int .i64 0,.int .i64 0] (some 29)).upd τ1.n [.int .i64 (qn (ym*ud-un*ye) (ye*ud)),.int .i64 (qd (ym*ud-un*ye) (ye*ud))]));rw[hT1];have F1:Ext τ1 T1:=by rw[<- hT1];exact eX
    have mm1:T1.n=τ1.n+1:=by rw[<- hT1];rfl
    have hE:Ext Z T1:=hE.trans (e1.trans F1);have D1:Cl T1 [(τ1.n,[.int .i64 (qn (ym*ud-un*ye) (ye*ud)),.int .i64 (qd (ym*ud-un*ye) (ye*ud))]),(τ0.n,[.int .i64 (qn (xn*ve-vm*xd) (xd*ve)),.int .i64 (qd (xn*ve-vm*xd) (xd*ve))])]:=⟨⟨om,by rw[<- hT1];exact cL⟩,D0.ext F1⟩
    have CC:Cl T1 [(Z4.n,[.int .i64 0,.int .i64 1]),(Z3.n,[.int .i64 un,.int .i64 ud]),(Z3.n+1,[.int .i64 vm,.int .i64 ve]),(Z2.n,[.int .i64 xn,.int .i64 xd]),(Z2.n+1,[.int .i64 ym,.int .i64 ye]),(Z.n,ca),(Z.n+1,R),(Z.n+1+1,[.int .i64 0,.int .i64 0]),(Z.n+1+1+1,[.int .i64 0,.int .i64 0])]:=CC.ext F1;obtain⟨⟨-,w16⟩,⟨-,w13⟩,⟨-,w14⟩,⟨-,w10⟩,⟨-,w11⟩,-,⟨-,wR⟩,⟨-,o2⟩,⟨-,o3⟩,-⟩:=id CC;refine(MY (qs:=[(qn (xn*ve-vm*xd) (xd*ve),qd (xn*ve-vm*xd) (xd*ve)),(qn (ym*ud-un*ye) (ye*ud),qd (ym*ud-un*ye) (ye*ud))]) hP (JT (by simp[jL]) (cL) (cL) rfl rfl) (JT (by simp) (cL) (cL) rfl rfl) (by simp) (by simp) ?_).mono ?_
    ·intro q hq;simp only[Y5,FN,Em]at hq;rcases hq with rfl|rfl
     ·exact hPP _ _ _ _ pX pV
     ·exact hPP _ _ _ _ pY pU
    rintro r ⟨zn,zd,zm,ze,Z9,rfl,z1,z2,e9⟩;have nn9:=e9.n;simp only[F6]at nn9;have o2':Z9.A7 (Z.n+1+1)=some [.int .i64 0,.int .i64 0]:=by rw[e9.A7 (cL)];exact cL1 o2
    have o3':Z9.A7 (Z.n+1+1+1)=some [.int .i64 0,.int .i64 0]:=by rw[e9.A7 (cL)];exact cL1 o3
    have hE:Ext Z Z9:=Ext.trans (eX) e9
    try unfold P8
    refine gS1 (aI o2' (aI o3' @Tryz.results71)) ?_;exact⟨zn,zd,zm,ze,0,_,rfl,fun _=>⟨z1,z2⟩,eX⟩
   by_cases g2:o=JI
   case pos=>
    subst g2;unfold OpP at hPP;rw[z0z (by decide)]at hPP;rw[z0z (by decide)]at hPP;rw[z1z rfl]at hPP;have gg:decide ((JI:By)=[42])=true:=by decide
    have h0_:decide ((JI:By)=[43])=false:=by decide
    have h1_:decide ((JI:By)=[45])=false:=by decide
    refine gS1 (aI gg (aI h0_ (aI h1_ (aI BZ (aI BH (aI BX (aI BG VH))))))) ?_;refine(PZ pA1 pB1).mono ?_;rintro r ⟨τ0,rfl,e0⟩;have nn0:=e0.n
    try unfold P8
    have CC:=CC.ext e0;obtain⟨⟨-,w16⟩,⟨-,w13⟩,⟨-,w14⟩,⟨-,w10⟩,⟨-,w11⟩,-,⟨-,wR⟩,⟨-,o2⟩,⟨-,o3⟩,-⟩:=id CC;have BZ:=A9 w10;have BH:=A9 w11;have BX:=A9 w13;have BG:=A9 w14;refine gS1 (aI BZ (aI BH (aI BX BG))) ?_;obtain⟨T0,hT0⟩:=DU (((τ0.new [.int .i64 0,.int .i64 0] (some 29)).upd τ0.n [.int .i64 (qn (xn*un) (xd*ud)),.int .i64 (qd (xn*un) (xd*ud))]));rw[hT0];have F0:Ext τ0 T0:=by rw[<- hT0];exact eX
    have mm0:T0.n=τ0.n+1:=by rw[<- hT0];rfl
    have hE:Ext Z T0:=hE.trans (e0.trans F0);have D0:Cl T0 [(τ0.n,[.int .i64 (qn (xn*un) (xd*ud)),.int .i64 (qd (xn*un) (xd*ud))])]:=⟨⟨om,by rw[<- hT0];exact cL⟩,trivial⟩
    have CC:Cl T0 [(Z4.n,[.int .i64 0,.int .i64 1]),(Z3.n,[.int .i64 un,.int .i64 ud]),(Z3.n+1,[.int .i64 vm,.int .i64 ve]),(Z2.n,[.int .i64 xn,.int .i64 xd]),(Z2.n+1,[.int .i64 ym,.int .i64 ye]),(Z.n,ca),(Z.n+1,R),(Z.n+1+1,[.int .i64 0,.int .i64 0]),(Z.n+1+1+1,[.int .i64 0,.int .i64 0])]:=CC.ext F0;obtain⟨⟨-,w16⟩,⟨-,w13⟩,⟨-,w14⟩,⟨-,w10⟩,⟨-,w11⟩,-,⟨-,wR⟩,⟨-,o2⟩,⟨-,o3⟩,-⟩:=id CC;refine(PZ pA1 pB2).mono ?_;rintro r ⟨τ1,rfl,e1⟩;have nn1:=e1.n
    try unfold P8
    have CC:=CC.ext e1;obtain⟨⟨-,w16⟩,⟨-,w13⟩,⟨-,w14⟩,⟨-,w10⟩,⟨-,w11⟩,-,⟨-,wR⟩,⟨-,o2⟩,⟨-,o3⟩,-⟩:=id CC;have BZ:=A9 w10;have BH:=A9 w11;have BX:=A9 w13;have BG:=A9 w14;have D0:=D0.ext e1;obtain⟨⟨-,v0⟩,-⟩:=id D0;have v0r:=A9 v0;refine gS1 (aI BZ (aI BH (aI BX (aI BG v0r)))) ?_;obtain⟨T1,hT1⟩:=DU (((τ1.new [.int .i64 0,.int .i64 0] (some 29)).upd τ1.n [.int .i64 (qn (xn*vm) (xd*ve)),.int .i64 (qd (xn*vm) (xd*ve))]));rw[hT1];have F1:Ext τ1 T1:=by rw[<- hT1];exact eX
    have mm1:T1.n=τ1.n+1:=by rw[<- hT1];rfl
    have hE:Ext Z T1:=hE.trans (e1.trans F1);have D1:Cl T1 [(τ1.n,[.int .i64 (qn (xn*vm) (xd*ve)),.int .i64 (qd (xn*vm) (xd*ve))]),(τ0.n,[.int .i64 (qn (xn*un) (xd*ud)),.int .i64 (qd (xn*un) (xd*ud))])]:=⟨⟨om,by rw[<- hT1];exact cL⟩,D0.ext F1⟩
    have CC:Cl T1 [(Z4.n,[.int .i64 0,.int .i64 1]),(Z3.n,[.int .i64 un,.int .i64 ud]),(Z3.n+1,[.int .i64 vm,.int .i64 ve]),(Z2.n,[.int .i64 xn,.int .i64 xd]),(Z2.n+1,[.int .i64 ym,.int .i64 ye]),(Z.n,ca),(Z.n+1,R),(Z.n+1+1,[.int .i64 0,.int .i64 0]),(Z.n+1+1+1,[.int .i64 0,.int .i64 0])]:=CC.ext F1;obtain⟨⟨-,w16⟩,⟨-,w13⟩,⟨-,w14⟩,⟨-,w10⟩,⟨-,w11⟩,-,⟨-,wR⟩,⟨-,o2⟩,⟨-,o3⟩,-⟩:=id CC;refine(PZ pA2 pB1).mono ?_;rintro r ⟨τ2,rfl,e2⟩;have nn2:=e2.n
    try unfold P8
    have CC:=CC.ext e2;obtain⟨⟨-,w16⟩,⟨-,w13⟩,⟨-,w14⟩,⟨-,w10⟩,⟨-,w11⟩,-,⟨-,wR⟩,⟨-,o2⟩,⟨-,o3⟩,-⟩:=id CC;have BZ:=A9 w10;have BH:=A9 w11;have BX:=A9 w13;have BG:=A9 w14;have D1:=D1.ext e2;obtain⟨⟨-,v1⟩,⟨-,v0⟩,-⟩:=id D1;have v0r:=A9 v0;have v1r:=A9 v1;refine gS1 (aI BZ (aI BH (aI BX (aI BG (aI v0r v1r))))) ?_;obtain⟨T2,hT2⟩:=DU (((τ2.new [.int .i64 0,.int .i64 0] (some 29)).upd τ2.n [.int .i64 (qn (ym*un) (ye*ud)),.int .i64 (qd (ym*un) (ye*ud))]));rw[hT2];have F2:Ext τ2 T2:=by rw[<- hT2];exact eX
    have mm2:T2.n=τ2.n+1:=by rw[<- hT2];rfl
    have hE:Ext Z T2:=hE.trans (e2.trans F2);have D2:Cl T2 [(τ2.n,[.int .i64 (qn (ym*un) (ye*ud)),.int .i64 (qd (ym*un) (ye*ud))]),(τ1.n,[.int .i64 (qn (xn*vm) (xd*ve)),.int .i64 (qd (xn*vm) (xd*ve))]),(τ0.n,[.int .i64 (qn (xn*un) (xd*ud)),.int .i64 (qd (xn*un) (xd*ud))])]:=⟨⟨om,by rw[<- hT2];exact cL⟩,D1.ext F2⟩
    have CC:Cl T2 [(Z4.n,[.int .i64 0,.int .i64 1]),(Z3.n,[.int .i64 un,.int .i64 ud]),(Z3.n+1,[.int .i64 vm,.int .i64 ve]),(Z2.n,[.int .i64 xn,.int .i64 xd]),(Z2.n+1,[.int .i64 ym,.int .i64 ye]),(Z.n,ca),(Z.n+1,R),(Z.n+1+1,[.int .i64 0,.int .i64 0]),(Z.n+1+1+1,[.int .i64 0,.int .i64 0])]:=CC.ext F2;obtain⟨⟨-,w16⟩,⟨-,w13⟩,⟨-,w14⟩,⟨-,w10⟩,⟨-,w11⟩,-,⟨-,wR⟩,⟨-,o2⟩,⟨-,o3⟩,-⟩:=id CC;refine(PZ pA2 pB2).mono ?_;rintro r ⟨τ3,rfl,e3⟩;have nn3:=e3.n
    try unfold P8
    have CC:=CC.ext e3;obtain⟨⟨-,w16⟩,⟨-,w13⟩,⟨-,w14⟩,⟨-,w10⟩,⟨-,w11⟩,-,⟨-,wR⟩,⟨-,o2⟩,⟨-,o3⟩,-⟩:=id CC;have BZ:=A9 w10;have BH:=A9 w11;have BX:=A9 w13;have BG:=A9 w14;have D2:=D2.ext e3;obtain⟨⟨-,v2⟩,⟨-,v1⟩,⟨-,v0⟩,-⟩:=id D2;have v0r:=A9 v0;have v1r:=A9 v1;have v2r:=A9 v2;refine gS1 (aI BZ (aI BH (aI BX (aI BG (aI v0r (aI v1r v2r)))))) ?_;obtain⟨T3,hT3⟩:=DU (((τ3.new [.int .i64 0,.int .i64 0] (some 29)).upd τ3.n [.int .i64 (qn (ym*vm) (ye*ve)),.int .i64 (qd (ym*vm) (ye*ve))]));rw[hT3];have F3:Ext τ3 T3:=by rw[<- hT3];exact eX
    have mm3:T3.n=τ3.n+1:=by rw[<- hT3];rfl
    have hE:Ext Z T3:=hE.trans (e3.trans F3);have D3:Cl T3 [(τ3.n,[.int .i64 (qn (ym*vm) (ye*ve)),.int .i64 (qd (ym*vm) (ye*ve))]),(τ2.n,[.int .i64 (qn (ym*un) (ye*ud)),.int .i64 (qd (ym*un) (ye*ud))]),(τ1.n,[.int .i64 (qn (xn*vm) (xd*ve)),.int .i64 (qd (xn*vm) (xd*ve))]),(τ0.n,[.int .i64 (qn (xn*un) (xd*ud)),.int .i64 (qd (xn*un) (xd*ud))])]:=⟨⟨om,by rw[<- hT3];exact cL⟩,D2.ext F3⟩
    have CC:Cl T3 [(Z4.n,[.int .i64 0,.int .i64 1]),(Z3.n,[.int .i64 un,.int .i64 ud]),(Z3.n+1,[.int .i64 vm,.int .i64 ve]),(Z2.n,[.int .i64 xn,.int .i64 xd]),(Z2.n+1,[.int .i64 ym,.int .i64 ye]),(Z.n,ca),(Z.n+1,R),(Z.n+1+1,[.int .i64 0,.int .i64 0]),(Z.n+1+1+1,[.int .i64 0,.int .i64 0])]:=CC.ext F3;obtain⟨⟨-,w16⟩,⟨-,w13⟩,⟨-,w14⟩,⟨-,w10⟩,⟨-,w11⟩,-,⟨-,wR⟩,⟨-,o2⟩,⟨-,o3⟩,-⟩:=id CC;refine(MY (qs:=[(qn (xn*un) (xd*ud),qd (xn*un) (xd*ud)),(qn (xn*vm) (xd*ve),qd (xn*vm) (xd*ve)),(qn (ym*un) (ye*ud),qd (ym*un) (ye*ud)),(qn (ym*vm) (ye*ve),qd (ym*vm) (ye*ve))]) hP (JT (by simp[jL]) (cL) (cL) rfl rfl) (JT (by simp) (cL) (cL) rfl rfl) (by simp) (by simp) ?_).mono ?_
    ·intro q hq;simp only[Y5,FN,Em]at hq;rcases hq with rfl|rfl|rfl|rfl
     ·exact hPP _ _ _ _ pX pU
     ·exact hPP _ _ _ _ pX pV
     ·exact hPP _ _ _ _ pY pU
     ·exact hPP _ _ _ _ pY pV
    rintro r ⟨zn,zd,zm,ze,Z9,rfl,z1,z2,e9⟩;have nn9:=e9.n;simp only[F6]at nn9;have o2':Z9.A7 (Z.n+1+1)=some [.int .i64 0,.int .i64 0]:=by rw[e9.A7 (cL)];exact cL1 o2
    have o3':Z9.A7 (Z.n+1+1+1)=some [.int .i64 0,.int .i64 0]:=by rw[e9.A7 (cL)];exact cL1 o3
    have hE:Ext Z Z9:=Ext.trans (eX) e9
    try unfold P8
    refine gS1 (aI o2' (aI o3' @Tryz.results71)) ?_;exact⟨zn,zd,zm,ze,0,_,rfl,fun _=>⟨z1,z2⟩,eX⟩
   by_cases g3:o=HB
   case pos=>
    subst g3;unfold OpP at hPP;rw[z0z (by decide)]at hPP;rw[z0z (by decide)]at hPP;rw[z0z (by decide)]at hPP;rw[z1z rfl]at hPP;have gg:decide ((HB:By)=[47])=true:=by decide
    have h0_:decide ((HB:By)=[43])=false:=by decide
    have h1_:decide ((HB:By)=[45])=false:=by decide
    have h2_:decide ((HB:By)=[42])=false:=by decide
    refine gS1 (aI gg (aI h0_ (aI h1_ (aI h2_ (aI BZ (aI BH (aI BX (aI BG VH)))))))) ?_;have rz:RS 0 1:=⟨om,om,om,om,by decide⟩
    refine(VJ pB1 rz).mono ?_;rintro r ⟨c5,Z5,rfl,hE5⟩;have n5:=hE5.n;have CC:=CC.ext hE5;have hE:=hE.trans hE5;obtain⟨⟨-,w16⟩,⟨-,w13⟩,⟨-,w14⟩,⟨-,w10⟩,⟨-,w11⟩,-,⟨-,wR⟩,⟨-,o2⟩,⟨-,o3⟩,-⟩:=id CC;have VH:=A9 w16;have BX:=A9 w13;have BG:=A9 w14;have BZ:=A9 w10;have BH:=A9 w11;cases q1:decide (0<c5)with
    | true=>
      refine gS1 (aI q1 (aI (asx hE5) (aI BZ (aI BH (aI BX (aI BG VH)))))) ?_;refine(HK pA1 pB1 (hPP _ _ _ _ pX pU).1).mono ?_;rintro r ⟨τ0,rfl,e0⟩;have nn0:=e0.n
      try unfold P8
      have CC:=CC.ext e0;obtain⟨⟨-,w16⟩,⟨-,w13⟩,⟨-,w14⟩,⟨-,w10⟩,⟨-,w11⟩,-,⟨-,wR⟩,⟨-,o2⟩,⟨-,o3⟩,-⟩:=id CC;have BZ:=A9 w10;have BH:=A9 w11;have BX:=A9 w13;have BG:=A9 w14;refine gS1 (aI BZ (aI BH (aI BX BG))) ?_;obtain⟨T0,hT0⟩:=DU (((τ0.new [.int .i64 0,.int .i64 0] (some 29)).upd τ0.n [.int .i64 (qn (xn*ud) (xd*un)),.int .i64 (qd (xn*ud) (xd*un))]));rw[hT0];have F0:Ext τ0 T0:=by rw[<- hT0];exact eX
      have mm0:T0.n=τ0.n+1:=by rw[<- hT0];rfl
      have hE:Ext Z T0:=hE.trans (e0.trans F0);have D0:Cl T0 [(τ0.n,[.int .i64 (qn (xn*ud) (xd*un)),.int .i64 (qd (xn*ud) (xd*un))])]:=⟨⟨om,by rw[<- hT0];exact cL⟩,trivial⟩
      have CC:Cl T0 [(Z4.n,[.int .i64 0,.int .i64 1]),(Z3.n,[.int .i64 un,.int .i64 ud]),(Z3.n+1,[.int .i64 vm,.int .i64 ve]),(Z2.n,[.int .i64 xn,.int .i64 xd]),(Z2.n+1,[.int .i64 ym,.int .i64 ye]),(Z.n,ca),(Z.n+1,R),(Z.n+1+1,[.int .i64 0,.int .i64 0]),(Z.n+1+1+1,[.int .i64 0,.int .i64 0])]:=CC.ext F0;obtain⟨⟨-,w16⟩,⟨-,w13⟩,⟨-,w14⟩,⟨-,w10⟩,⟨-,w11⟩,-,⟨-,wR⟩,⟨-,o2⟩,⟨-,o3⟩,-⟩:=id CC;refine(HK pA1 pB2 (hPP _ _ _ _ pX pV).1).mono ?_;rintro r ⟨τ1,rfl,e1⟩;have nn1:=e1.n
      try unfold P8
      have CC:=CC.ext e1;obtain⟨⟨-,w16⟩,⟨-,w13⟩,⟨-,w14⟩,⟨-,w10⟩,⟨-,w11⟩,-,⟨-,wR⟩,⟨-,o2⟩,⟨-,o3⟩,-⟩:=id CC;have BZ:=A9 w10;have BH:=A9 w11;have BX:=A9 w13;have BG:=A9 w14;have D0:=D0.ext e1;obtain⟨⟨-,v0⟩,-⟩:=id D0;have v0r:=A9 v0;refine gS1 (aI BZ (aI BH (aI BX (aI BG v0r)))) ?_;obtain⟨T1,hT1⟩:=DU (((τ1.new [.int .i64 0,.int .i64 0] (some 29)).upd τ1.n [.int .i64 (qn (xn*ve) (xd*vm)),.int .i64 (qd (xn*ve) (xd*vm))]));rw[hT1];have F1:Ext τ1 T1:=by rw[<- hT1];exact eX
      have mm1:T1.n=τ1.n+1:=by rw[<- hT1];rfl
      have hE:Ext Z T1:=hE.trans (e1.trans F1);have D1:Cl T1 [(τ1.n,[.int .i64 (qn (xn*ve) (xd*vm)),.int .i64 (qd (xn*ve) (xd*vm))]),(τ0.n,[.int .i64 (qn (xn*ud) (xd*un)),.int .i64 (qd (xn*ud) (xd*un))])]:=⟨⟨om,by rw[<- hT1];exact cL⟩,D0.ext F1⟩
      have CC:Cl T1 [(Z4.n,[.int .i64 0,.int .i64 1]),(Z3.n,[.int .i64 un,.int .i64 ud]),(Z3.n+1,[.int .i64 vm,.int .i64 ve]),(Z2.n,[.int .i64 xn,.int .i64 xd]),(Z2.n+1,[.int .i64 ym,.int .i64 ye]),(Z.n,ca),(Z.n+1,R),(Z.n+1+1,[.int .i64 0,.int .i64 0]),(Z.n+1+1+1,[.int .i64 0,.int .i64 0])]:=CC.ext F1;obtain⟨⟨-,w16⟩,⟨-,w13⟩,⟨-,w14⟩,⟨-,w10⟩,⟨-,w11⟩,-,⟨-,wR⟩,⟨-,o2⟩,⟨-,o3⟩,-⟩:=id CC;refine(HK pA2 pB1 (hPP _ _ _ _ pY pU).1).mono ?_;rintro r ⟨τ2,rfl,e2⟩;have nn2:=e2.n
      try unfold P8
      have CC:=CC.ext e2;obtain⟨⟨-,w16⟩,⟨-,w13⟩,⟨-,w14⟩,⟨-,w10⟩,⟨-,w11⟩,-,⟨-,wR⟩,⟨-,o2⟩,⟨-,o3⟩,-⟩:=id CC;have BZ:=A9 w10;have BH:=A9 w11;have BX:=A9 w13;have BG:=A9 w14;have D1:=D1.ext e2;obtain⟨⟨-,v1⟩,⟨-,v0⟩,-⟩:=id D1;have v0r:=A9 v0;have v1r:=A9 v1;refine gS1 (aI BZ (aI BH (aI BX (aI BG (aI v0r v1r))))) ?_;obtain⟨T2,hT2⟩:=DU (((τ2.new [.int .i64 0,.int .i64 0] (some 29)).upd τ2.n [.int .i64 (qn (ym*ud) (ye*un)),.int .i64 (qd (ym*ud) (ye*un))]));rw[hT2];have F2:Ext τ2 T2:=by rw[<- hT2];exact eX
      have mm2:T2.n=τ2.n+1:=by rw[<- hT2];rfl
      have hE:Ext Z T2:=hE.trans (e2.trans F2);have D2:Cl T2 [(τ2.n,[.int .i64 (qn (ym*ud) (ye*un)),.int .i64 (qd (ym*ud) (ye*un))]),(τ1.n,[.int .i64 (qn (xn*ve) (xd*vm)),.int .i64 (qd (xn*ve) (xd*vm))]),(τ0.n,[.int .i64 (qn (xn*ud) (xd*un)),.int .i64 (qd (xn*ud) (xd*un))])]:=⟨⟨om,by rw[<- hT2];exact cL⟩,D1.ext F2⟩
      have CC:Cl T2 [(Z4.n,[.int .i64 0,.int .i64 1]),(Z3.n,[.int .i64 un,.int .i64 ud]),(Z3.n+1,[.int .i64 vm,.int .i64 ve]),(Z2.n,[.int .i64 xn,.int .i64 xd]),(Z2.n+1,[.int .i64 ym,.int .i64 ye]),(Z.n,ca),(Z.n+1,R),(Z.n+1+1,[.int .i64 0,.int .i64 0]),(Z.n+1+1+1,[.int .i64 0,.int .i64 0])]:=CC.ext F2;obtain⟨⟨-,w16⟩,⟨-,w13⟩,⟨-,w14⟩,⟨-,w10⟩,⟨-,w11⟩,-,⟨-,wR⟩,⟨-,o2⟩,⟨-,o3⟩,-⟩:=id CC;refine(HK pA2 pB2 (hPP _ _ _ _ pY pV).1).mono ?_;rintro r ⟨τ3,rfl,e3⟩;have nn3:=e3.n
      try unfold P8
      have CC:=CC.ext e3;obtain⟨⟨-,w16⟩,⟨-,w13⟩,⟨-,w14⟩,⟨-,w10⟩,⟨-,w11⟩,-,⟨-,wR⟩,⟨-,o2⟩,⟨-,o3⟩,-⟩:=id CC;have BZ:=A9 w10;have BH:=A9 w11;have BX:=A9 w13;have BG:=A9 w14;have D2:=D2.ext e3;obtain⟨⟨-,v2⟩,⟨-,v1⟩,⟨-,v0⟩,-⟩:=id D2;have v0r:=A9 v0;have v1r:=A9 v1;have v2r:=A9 v2;refine gS1 (aI BZ (aI BH (aI BX (aI BG (aI v0r (aI v1r v2r)))))) ?_;obtain⟨T3,hT3⟩:=DU (((τ3.new [.int .i64 0,.int .i64 0] (some 29)).upd τ3.n [.int .i64 (qn (ym*ve) (ye*vm)),.int .i64 (qd (ym*ve) (ye*vm))]));rw[hT3];have F3:Ext τ3 T3:=by rw[<- hT3];exact eX
      have mm3:T3.n=τ3.n+1:=by rw[<- hT3];rfl
      have hE:Ext Z T3:=hE.trans (e3.trans F3);have D3:Cl T3 [(τ3.n,[.int .i64 (qn (ym*ve) (ye*vm)),.int .i64 (qd (ym*ve) (ye*vm))]),(τ2.n,[.int .i64 (qn (ym*ud) (ye*un)),.int .i64 (qd (ym*ud) (ye*un))]),(τ1.n,[.int .i64 (qn (xn*ve) (xd*vm)),.int .i64 (qd (xn*ve) (xd*vm))]),(τ0.n,[.int .i64 (qn (xn*ud) (xd*un)),.int .i64 (qd (xn*ud) (xd*un))])]:=⟨⟨om,by rw[<- hT3];exact cL⟩,D2.ext F3⟩
      have CC:Cl T3 [(Z4.n,[.int .i64 0,.int .i64 1]),(Z3.n,[.int .i64 un,.int .i64 ud]),(Z3.n+1,[.int .i64 vm,.int .i64 ve]),(Z2.n,[.int .i64 xn,.int .i64 xd]),(Z2.n+1,[.int .i64 ym,.int .i64 ye]),(Z.n,ca),(Z.n+1,R),(Z.n+1+1,[.int .i64 0,.int .i64 0]),(Z.n+1+1+1,[.int .i64 0,.int .i64 0])]:=CC.ext F3;obtain⟨⟨-,w16⟩,⟨-,w13⟩,⟨-,w14⟩,⟨-,w10⟩,⟨-,w11⟩,-,⟨-,wR⟩,⟨-,o2⟩,⟨-,o3⟩,-⟩:=id CC;refine(MY (qs:=[(qn (xn*ud) (xd*un),qd (xn*ud) (xd*un)),(qn (xn*ve) (xd*vm),qd (xn*ve) (xd*vm)),(qn (ym*ud) (ye*un),qd (ym*ud) (ye*un)),(qn (ym*ve) (ye*vm),qd (ym*ve) (ye*vm))]) hP (JT (by simp[jL]) (cL) (cL) rfl rfl) (JT (by simp) (cL) (cL) rfl rfl) (by simp) (by simp) ?_).mono ?_
      ·intro q hq;simp only[Y5,FN,Em]at hq;rcases hq with rfl|rfl|rfl|rfl
       ·exact(hPP _ _ _ _ pX pU).2
       ·exact(hPP _ _ _ _ pX pV).2
       ·exact(hPP _ _ _ _ pY pU).2
       ·exact(hPP _ _ _ _ pY pV).2
      rintro r ⟨zn,zd,zm,ze,Z9,rfl,z1,z2,e9⟩;have nn9:=e9.n;simp only[F6]at nn9;have o2':Z9.A7 (Z.n+1+1)=some [.int .i64 0,.int .i64 0]:=by rw[e9.A7 (cL)];exact cL1 o2
      have o3':Z9.A7 (Z.n+1+1+1)=some [.int .i64 0,.int .i64 0]:=by rw[e9.A7 (cL)];exact cL1 o3
      have hE:Ext Z Z9:=Ext.trans (eX) e9
      try unfold P8
      refine gS1 (aI o2' (aI o3' @Tryz.results71)) ?_;exact⟨zn,zd,zm,ze,0,_,rfl,fun _=>⟨z1,z2⟩,eX⟩
    | false=>
      refine gS1 (aI q1 (aI (asx hE5) (aI BZ (aI BH (aI BX (aI BG VH)))))) ?_;refine(VJ pB2 rz).mono ?_;rintro r ⟨c6,Z6,rfl,hE6⟩;have n6:=hE6.n;have CC:=CC.ext hE6;have hE:=hE.trans hE6;obtain⟨⟨-,w16⟩,⟨-,w13⟩,⟨-,w14⟩,⟨-,w10⟩,⟨-,w11⟩,-,⟨-,wR⟩,⟨-,o2⟩,⟨-,o3⟩,-⟩:=id CC;have VH:=A9 w16;have BX:=A9 w13;have BG:=A9 w14;have BZ:=A9 w10;have BH:=A9 w11;cases q2:decide (c6<0)with
      | false=>
        refine gS1 (aI q2 (aI (asx hE5) (aI (asx hE6) (aI o2 (aI o3 @Tryz.results71))))) ?_;exact⟨0,0,0,0,15,_,rfl,fun h=>om,eX⟩
      | true=>
        refine gS1 (aI q2 (aI (asx hE5) (aI (asx hE6) (aI BZ (aI BH (aI BX (aI BG VH))))))) ?_;refine(HK pA1 pB1 (hPP _ _ _ _ pX pU).1).mono ?_;rintro r ⟨τ0,rfl,e0⟩;have nn0:=e0.n
        try unfold P8
        have CC:=CC.ext e0;obtain⟨⟨-,w16⟩,⟨-,w13⟩,⟨-,w14⟩,⟨-,w10⟩,⟨-,w11⟩,-,⟨-,wR⟩,⟨-,o2⟩,⟨-,o3⟩,-⟩:=id CC;have BZ:=A9 w10;have BH:=A9 w11;have BX:=A9 w13;have BG:=A9 w14;refine gS1 (aI BZ (aI BH (aI BX BG))) ?_;obtain⟨T0,hT0⟩:=DU (((τ0.new [.int .i64 0,.int .i64 0] (some 29)).upd τ0.n [.int .i64 (qn (xn*ud) (xd*un)),.int .i64 (qd (xn*ud) (xd*un))]));rw[hT0];have F0:Ext τ0 T0:=by rw[<- hT0];exact eX
        have mm0:T0.n=τ0.n+1:=by rw[<- hT0];rfl
        have hE:Ext Z T0:=hE.trans (e0.trans F0);have D0:Cl T0 [(τ0.n,[.int .i64 (qn (xn*ud) (xd*un)),.int .i64 (qd (xn*ud) (xd*un))])]:=⟨⟨om,by rw[<- hT0];exact cL⟩,trivial⟩
        have CC:Cl T0 [(Z4.n,[.int .i64 0,.int .i64 1]),(Z3.n,[.int .i64 un,.int .i64 ud]),(Z3.n+1,[.int .i64 vm,.int .i64 ve]),(Z2.n,[.int .i64 xn,.int .i64 xd]),(Z2.n+1,[.int .i64 ym,.int .i64 ye]),(Z.n,ca),(Z.n+1,R),(Z.n+1+1,[.int .i64 0,.int .i64 0]),(Z.n+1+1+1,[.int .i64 0,.int .i64 0])]:=CC.ext F0;obtain⟨⟨-,w16⟩,⟨-,w13⟩,⟨-,w14⟩,⟨-,w10⟩,⟨-,w11⟩,-,⟨-,wR⟩,⟨-,o2⟩,⟨-,o3⟩,-⟩:=id CC;refine(HK pA1 pB2 (hPP _ _ _ _ pX pV).1).mono ?_;rintro r ⟨τ1,rfl,e1⟩;have nn1:=e1.n
        try unfold P8
        have CC:=CC.ext e1;obtain⟨⟨-,w16⟩,⟨-,w13⟩,⟨-,w14⟩,⟨-,w10⟩,⟨-,w11⟩,-,⟨-,wR⟩,⟨-,o2⟩,⟨-,o3⟩,-⟩:=id CC;have BZ:=A9 w10;have BH:=A9 w11;have BX:=A9 w13;have BG:=A9 w14;have D0:=D0.ext e1;obtain⟨⟨-,v0⟩,-⟩:=id D0;have v0r:=A9 v0;refine gS1 (aI BZ (aI BH (aI BX (aI BG v0r)))) ?_;obtain⟨T1,hT1⟩:=DU (((τ1.new [.int .i64 0,.int .i64 0] (some 29)).upd τ1.n [.int .i64 (qn (xn*ve) (xd*vm)),.int .i64 (qd (xn*ve) (xd*vm))]));rw[hT1];have F1:Ext τ1 T1:=by rw[<- hT1];exact eX
        have mm1:T1.n=τ1.n+1:=by rw[<- hT1];rfl
        have hE:Ext Z T1:=hE.trans (e1.trans F1);have D1:Cl T1 [(τ1.n,[.int .i64 (qn (xn*ve) (xd*vm)),.int .i64 (qd (xn*ve) (xd*vm))]),(τ0.n,[.int .i64 (qn (xn*ud) (xd*un)),.int .i64 (qd (xn*ud) (xd*un))])]:=⟨⟨om,by rw[<- hT1];exact cL⟩,D0.ext F1⟩
        have CC:Cl T1 [(Z4.n,[.int .i64 0,.int .i64 1]),(Z3.n,[.int .i64 un,.int .i64 ud]),(Z3.n+1,[.int .i64 vm,.int .i64 ve]),(Z2.n,[.int .i64 xn,.int .i64 xd]),(Z2.n+1,[.int .i64 ym,.int .i64 ye]),(Z.n,ca),(Z.n+1,R),(Z.n+1+1,[.int .i64 0,.int .i64 0]),(Z.n+1+1+1,[.int .i64 0,.int .i64 0])]:=CC.ext F1;obtain⟨⟨-,w16⟩,⟨-,w13⟩,⟨-,w14⟩,⟨-,w10⟩,⟨-,w11⟩,-,⟨-,wR⟩,⟨-,o2⟩,⟨-,o3⟩,-⟩:=id CC;refine(HK pA2 pB1 (hPP _ _ _ _ pY pU).1).mono ?_;rintro r ⟨τ2,rfl,e2⟩;have nn2:=e2.n
        try unfold P8
        have CC:=CC.ext e2;obtain⟨⟨-,w16⟩,⟨-,w13⟩,⟨-,w14⟩,⟨-,w10⟩,⟨-,w11⟩,-,⟨-,wR⟩,⟨-,o2⟩,⟨-,o3⟩,-⟩:=id CC;have BZ:=A9 w10;have BH:=A9 w11;have BX:=A9 w13;have BG:=A9 w14;have D1:=D1.ext e2;obtain⟨⟨-,v1⟩,⟨-,v0⟩,-⟩:=id D1;have v0r:=A9 v0;have v1r:=A9 v1;refine gS1 (aI BZ (aI BH (aI BX (aI BG (aI v0r v1r))))) ?_;obtain⟨T2,hT2⟩:=DU (((τ2.new [.int .i64 0,.int .i64 0] (some 29)).upd τ2.n [.int .i64 (qn (ym*ud) (ye*un)),.int .i64 (qd (ym*ud) (ye*un))]));rw[hT2];have F2:Ext τ2 T2:=by rw[<- hT2];exact eX
        have mm2:T2.n=τ2.n+1:=by rw[<- hT2];rfl
        have hE:Ext Z T2:=hE.trans (e2.trans F2);have D2:Cl T2 [(τ2.n,[.int .i64 (qn (ym*ud) (ye*un)),.int .i64 (qd (ym*ud) (ye*un))]),(τ1.n,[.int .i64 (qn (xn*ve) (xd*vm)),.int .i64 (qd (xn*ve) (xd*vm))]),(τ0.n,[.int .i64 (qn (xn*ud) (xd*un)),.int .i64 (qd (xn*ud) (xd*un))])]:=⟨⟨om,by rw[<- hT2];exact cL⟩,D1.ext F2⟩
        have CC:Cl T2 [(Z4.n,[.int .i64 0,.int .i64 1]),(Z3.n,[.int .i64 un,.int .i64 ud]),(Z3.n+1,[.int .i64 vm,.int .i64 ve]),(Z2.n,[.int .i64 xn,.int .i64 xd]),(Z2.n+1,[.int .i64 ym,.int .i64 ye]),(Z.n,ca),(Z.n+1,R),(Z.n+1+1,[.int .i64 0,.int .i64 0]),(Z.n+1+1+1,[.int .i64 0,.int .i64 0])]:=CC.ext F2;obtain⟨⟨-,w16⟩,⟨-,w13⟩,⟨-,w14⟩,⟨-,w10⟩,⟨-,w11⟩,-,⟨-,wR⟩,⟨-,o2⟩,⟨-,o3⟩,-⟩:=id CC;refine(HK pA2 pB2 (hPP _ _ _ _ pY pV).1).mono ?_;rintro r ⟨τ3,rfl,e3⟩;have nn3:=e3.n
        try unfold P8
        have CC:=CC.ext e3;obtain⟨⟨-,w16⟩,⟨-,w13⟩,⟨-,w14⟩,⟨-,w10⟩,⟨-,w11⟩,-,⟨-,wR⟩,⟨-,o2⟩,⟨-,o3⟩,-⟩:=id CC;have BZ:=A9 w10;have BH:=A9 w11;have BX:=A9 w13;have BG:=A9 w14;have D2:=D2.ext e3;obtain⟨⟨-,v2⟩,⟨-,v1⟩,⟨-,v0⟩,-⟩:=id D2;have v0r:=A9 v0;have v1r:=A9 v1;have v2r:=A9 v2;refine gS1 (aI BZ (aI BH (aI BX (aI BG (aI v0r (aI v1r v2r)))))) ?_;obtain⟨T3,hT3⟩:=DU (((τ3.new [.int .i64 0,.int .i64 0] (some 29)).upd τ3.n [.int .i64 (qn (ym*ve) (ye*vm)),.int .i64 (qd (ym*ve) (ye*vm))]));rw[hT3];have F3:Ext τ3 T3:=by rw[<- hT3];exact eX
        have mm3:T3.n=τ3.n+1:=by rw[<- hT3];rfl
        have hE:Ext Z T3:=hE.trans (e3.trans F3);have D3:Cl T3 [(τ3.n,[.int .i64 (qn (ym*ve) (ye*vm)),.int .i64 (qd (ym*ve) (ye*vm))]),(τ2.n,[.int .i64 (qn (ym*ud) (ye*un)),.int .i64 (qd (ym*ud) (ye*un))]),(τ1.n,[.int .i64 (qn (xn*ve) (xd*vm)),.int .i64 (qd (xn*ve) (xd*vm))]),(τ0.n,[.int .i64 (qn (xn*ud) (xd*un)),.int .i64 (qd (xn*ud) (xd*un))])]:=⟨⟨om,by rw[<- hT3];exact cL⟩,D2.ext F3⟩
        have CC:Cl T3 [(Z4.n,[.int .i64 0,.int .i64 1]),(Z3.n,[.int .i64 un,.int .i64 ud]),(Z3.n+1,[.int .i64 vm,.int .i64 ve]),(Z2.n,[.int .i64 xn,.int .i64 xd]),(Z2.n+1,[.int .i64 ym,.int .i64 ye]),(Z.n,ca),(Z.n+1,R),(Z.n+1+1,[.int .i64 0,.int .i64 0]),(Z.n+1+1+1,[.int .i64 0,.int .i64 0])]:=CC.ext F3;obtain⟨⟨-,w16⟩,⟨-,w13⟩,⟨-,w14⟩,⟨-,w10⟩,⟨-,w11⟩,-,⟨-,wR⟩,⟨-,o2⟩,⟨-,o3⟩,-⟩:=id CC;refine(MY (qs:=[(qn (xn*ud) (xd*un),qd (xn*ud) (xd*un)),(qn (xn*ve) (xd*vm),qd (xn*ve) (xd*vm)),(qn (ym*ud) (ye*un),qd (ym*ud) (ye*un)),(qn (ym*ve) (ye*vm),qd (ym*ve) (ye*vm))]) hP (JT (by simp[jL]) (cL) (cL) rfl rfl) (JT (by simp) (cL) (cL) rfl rfl) (by simp) (by simp) ?_).mono ?_
        ·intro q hq;simp only[Y5,FN,Em]at hq;rcases hq with rfl|rfl|rfl|rfl
         ·exact(hPP _ _ _ _ pX pU).2
         ·exact(hPP _ _ _ _ pX pV).2
         ·exact(hPP _ _ _ _ pY pU).2
         ·exact(hPP _ _ _ _ pY pV).2
        rintro r ⟨zn,zd,zm,ze,Z9,rfl,z1,z2,e9⟩;have nn9:=e9.n;simp only[F6]at nn9;have o2':Z9.A7 (Z.n+1+1)=some [.int .i64 0,.int .i64 0]:=by rw[e9.A7 (cL)];exact cL1 o2
        have o3':Z9.A7 (Z.n+1+1+1)=some [.int .i64 0,.int .i64 0]:=by rw[e9.A7 (cL)];exact cL1 o3
        have hE:Ext Z Z9:=Ext.trans (eX) e9
        try unfold P8
        refine gS1 (aI o2' (aI o3' @Tryz.results71)) ?_;exact⟨zn,zd,zm,ze,0,_,rfl,fun _=>⟨z1,z2⟩,eX⟩
   case neg=>
    unfold OpP at hPP;rw[z0z g0,z0z g1,z0z g2,z0z g3]at hPP;obtain⟨pa,pb⟩:=hPP;have f0:decide (o=[43])=false:=z4z g0;have f1:decide (o=[45])=false:=z4z g1;have f2:decide (o=[42])=false:=z4z g2;have f3:decide (o=[47])=false:=z4z g3;cases f4:decide (o=[109,105,110])
    case' true=>
     refine gS1 (aI f0 (aI @f1 (aI f2 (aI f3 (aI f4 (aI BZ BX)))))) ?_;refine(VK pA1 pB1).mono ?_;rintro r ⟨x,y,Z5,rfl,vL,e5⟩;have n5:=e5.n;have CC:=CC.ext e5;have hE:=hE.trans e5;obtain⟨⟨-,w16⟩,⟨-,w13⟩,⟨-,w14⟩,⟨-,w10⟩,⟨-,w11⟩,-,⟨-,wR⟩,⟨-,o2⟩,⟨-,o3⟩,-⟩:=id CC;have BH:=A9 w11;have BG:=A9 w14;refine gS1 (aI (asx e5) (aI BH BG)) ?_;refine(VK pA2 pB2).mono ?_
    case' false=>
     refine gS1 (aI f0 (aI @f1 (aI f2 (aI f3 (aI f4 (aI BZ BX)))))) ?_;refine(VM pA1 pB1).mono ?_;rintro r ⟨x,y,Z5,rfl,vL,e5⟩;have n5:=e5.n;have CC:=CC.ext e5;have hE:=hE.trans e5;obtain⟨⟨-,w16⟩,⟨-,w13⟩,⟨-,w14⟩,⟨-,w10⟩,⟨-,w11⟩,-,⟨-,wR⟩,⟨-,o2⟩,⟨-,o3⟩,-⟩:=id CC;have BH:=A9 w11;have BG:=A9 w14;refine gS1 (aI (asx e5) (aI BH BG)) ?_;refine(VM pA2 pB2).mono ?_
    all_goals
     rintro r ⟨x',y',Z6,rfl,AJ5,e6⟩;have n6:=e6.n;have CC:=CC.ext e6;have hE:=hE.trans e6;obtain⟨⟨-,w16⟩,⟨-,w13⟩,⟨-,w14⟩,⟨-,w10⟩,⟨-,w11⟩,-,⟨-,wR⟩,⟨-,o2⟩,⟨-,o3⟩,-⟩:=id CC
     try unfold P8
     refine gS1 (aI (asx e5) (aI (asx e6) (aI o2 (aI o3 @G3)))) ?_;refine gS1 (aI o2 (aI o3 @Tryz.results71)) ?_;exact⟨x,y,x',y',0,_,rfl,fun _=>⟨vL.pick (pa _ _ pX) (pb _ _ pU),AJ5.pick (pa _ _ pY) (pb _ _ pV)⟩,eX⟩
end Go.Proofs.T
