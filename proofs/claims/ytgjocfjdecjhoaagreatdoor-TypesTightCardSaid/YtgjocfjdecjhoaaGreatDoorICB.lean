/- The H3 interval of a CQ pQ ends are small. -/
import Derived.Test.YtgjocfjdecjhoaaGreatDoorICA
set_option linter.unusedSimpArgs false
set_option linter.unusedVariables false
set_option linter.defProp false
set_option maxHeartbeats 32000000
set_option maxRecDepth 100000
namespace Go.Proofs.T
open Go Go.Ab
open Nat (reduceMul reduceEqDiff reduceAdd)
def Yi {T:Tn}{e:Ex}{P:Jc}(h:Iv T e P):∀ {Z:St}{ca row:List Value},(∀ n d,P n d->RS n d)->Good Z ca T->P8 Z row e->Ev (gO 71 [.agg ⟨ca⟩,.agg ⟨row⟩] Z) (fun r=>∃ n d m e c Z',r=⟨false,.tuple ⟨[R5 n d,R5 m e,.int .i64 c]⟩,Z'⟩/\(c=0->P n d/\P m e)/\Ext Z Z') ⟨⟩:=by
 induction h with
 | @num n d nm l P h=>
   intro Z ca row hP hT he;obtain⟨v,B9,rfl,-,-,-⟩:=he;have d0:=hT.len;have b4:sub ca 0 20=some ca:=C9 om om;refine C8 Tryz.func71 rfl rfl ?_;simp(maxSteps:=8000000) (disch:=first|exact dS|fail) only[↓bD,bW,reduceMul,reduceEqDiff,reduceAdd,Nat.reduceBEq,reduceIte,Option.isNone_none,b4,K8,Tryz.results71];refine dW ?_;simp(maxSteps:=8000000) (disch:=first|exact dS|fail) only[↓bD,bW,reduceMul,reduceEqDiff,reduceAdd,Nat.reduceBEq,reduceIte,Option.isNone_none,b4,K8,Tryz.results71];exact⟨n,d,n,d,0,_,rfl,fun _=>⟨h,h⟩,eX⟩
 | @name n d nm l P h=>
   intro Z ca row hP hT he;obtain⟨v,B9,rfl,-,-,-⟩:=he;have d0:=hT.len;have b4:sub ca 0 20=some ca:=C9 om om;have d1:decide (([110,97,109,101]:By)=[110,117,109])=false:=by decide
   refine C8 Tryz.func71 rfl rfl ?_;simp(maxSteps:=8000000) (disch:=first|exact dS|fail) only[↓bD,bW,reduceMul,reduceEqDiff,reduceAdd,Nat.reduceBEq,reduceIte,Option.isNone_none,b4,nmB,d1];obtain⟨S1,a2⟩:=nW (((((Z.new ca).new [str [110,97,109,101],.int .i64 n,.int .i64 d,str nm,v]).new [.int .i64 0,.int .i64 0] (some 29)).new [.int .i64 0,.int .i64 0] (some 29)));rw[a2];have E1:Ext Z S1:=by rw[<- a2];exact eX
   have n1:S1.n=Z.n+4:=by rw[<- a2];rfl
   have x2:S1.A7 (Z.n+1+1)=some [.int .i64 0,.int .i64 0]:=by rw[<- a2];exact cL
   have x3:S1.A7 (Z.n+1+1+1)=some [.int .i64 0,.int .i64 0]:=by rw[<- a2];exact cL
   refine(IV (s:=nm) (hT.mono E1)).mono ?_;rintro r ⟨Z2,rfl,a1⟩;have n2:=a1.n;have y2:=eT (a1.A7 om) x2;have y3:=eT (a1.A7 om) x3;have K:Ext Z Z2:=E1.trans a1;unfold Kl;cases hk:(N4 T nm).2.2 with
   | false=>
     refine gS1 (aI hk (aI y2 (aI y3 @Tryz.results71))) ?_;exact⟨0,0,0,0,_,_,rfl,fun h=>om,eX⟩
   | true=>
     obtain⟨h1,h2⟩:=h hk;cases hl:decide ((N4 T nm).2.1<(N4 T nm).1)with
     | true=>
       refine gS1 (aI hk (aI hl (aI y2 (aI y3 @Tryz.results71)))) ?_;exact⟨0,0,0,0,_,_,rfl,fun h=>om,eX⟩
     | false=>
       refine gS1 (aI hk hl) ?_;refine dL.mono ?_;rintro r ⟨W,rfl,a6⟩;have n3:=a6.n;refine gS ?_;refine dL.mono ?_;rintro r ⟨Z4,rfl,a9⟩;have n4:=a9.n;have z2:=eT (a9.A7 om) (eT (a6.A7 om) y2);have z3:=eT (a9.A7 om) (eT (a6.A7 om) y3);have f5:Ext Z Z4:=K.trans (a6.trans a9);unfold R5;refine gS1 (aI z2 (aI z3 @Tryz.results71)) ?_;exact⟨_,_,_,_,0,_,rfl,fun _=>⟨h1,h2⟩,eX⟩
 | @op o nm n d a b A B P h1 h2 ha hb hA hB hPP iha ihb=>
   intro Z ca row hP hT he;obtain⟨v,B9,rfl,e8,-,e7⟩:=he;obtain⟨BB,off,sp,c,cells,r1,r2,rfl,l3,l4,s1,s2,x1,x2⟩:=Dh e8 e7;have d0:=hT.len;have b4:sub ca 0 20=some ca:=C9 om om;have d1:decide (o=[110,117,109])=false:=z4z h1;have d2:decide (o=[110,97,109,101])=false:=z4z h2;refine C8 Tryz.func71 rfl rfl ?_;refine gS1 (aI b4 (aI d1 (aI d2 (aI l4 (aI s1 @j7))))) ?_;obtain⟨R,hR⟩:∃ R:List Value,[str o,.int .i64 n,.int .i64 d,str nm,.slice (some ⟨BB,off,sp⟩) 2 c]=R:=⟨_,rfl⟩
   obtain⟨S1,a2⟩:=nW (((((Z.new ca).new R).new [.int .i64 0,.int .i64 0] (some 29)).new [.int .i64 0,.int .i64 0] (some 29)));rw[hR,a2];have E1:Ext Z S1:=by rw[<- a2];exact eX
   have n1:S1.n=Z.n+4:=by rw[<- a2];rfl
   have d8:S1.A7 (Z.n+1+1)=some [.int .i64 0,.int .i64 0]:=by rw[<- a2];exact cL
   have d9:S1.A7 (Z.n+1+1+1)=some [.int .i64 0,.int .i64 0]:=by rw[<- a2];exact cL
   have d6:S1.row Z.n=some ca:=by rw[<- a2];exact cL
   have d7:S1.row (Z.n+1)=some R:=by rw[<- a2];exact cL
   refine(iha hA (hT.mono E1) (x1.mono E1)).mono ?_;rintro r ⟨z,f,I,E,c1,Z2,rfl,k1,a1⟩;have n2:=a1.n;have y0:=eT (a1.row om) d6;have y1:=eT (a1.row om) d7;have y2:=eT (a1.A7 om) d8;have y3:=eT (a1.A7 om) d9;have C0:Cl Z2 [(Z.n,ca),(Z.n+1,R),(Z.n+1+1,[.int .i64 0,.int .i64 0]),(Z.n+1+1+1,[.int .i64 0,.int .i64 0])]:=⟨⟨om,by rw[a1.A7 om,<- a2];exact cL⟩,⟨om,by rw[a1.A7 om,<- a2];exact cL⟩,⟨om,y2⟩,⟨om,y3⟩,trivial⟩
   have y4:=eT (a1.row om) (eT (E1.row l3) l4);have K:Ext Z Z2:=E1.trans a1;unfold R5;refine gS1 (asx a1) ?_;refine dW1 (asx a1) ?_;refine gS ?_;obtain⟨S2,b5⟩:=nW (((((Z2.new [.int .i64 0,.int .i64 0] (some 29)).new [.int .i64 0,.int .i64 0] (some 29)).upd Z2.n [.int .i64 z,.int .i64 f]).upd (Z2.n+1) [.int .i64 I,.int .i64 E]));rw[b5];have E2:Ext Z2 S2:=by rw[<- b5];exact eX
   have m2:S2.n=Z2.n+2:=by rw[<- b5];rfl
   have C2:Cl S2 [(Z2.n,[.int .i64 z,.int .i64 f]),(Z2.n+1,[.int .i64 I,.int .i64 E])]:=⟨⟨om,by rw[<- b5];exact cL⟩,⟨om,by rw[<- b5];exact cL⟩,trivial⟩
   have C1:Cl S2 [(Z.n,ca),(Z.n+1,R),(Z.n+1+1,[.int .i64 0,.int .i64 0]),(Z.n+1+1+1,[.int .i64 0,.int .i64 0])]:=C0.ext E2;have y4:=eT (E2.row om) y4;have K:Ext Z S2:=K.trans E2;obtain⟨⟨-,f0⟩,⟨-,f1⟩,⟨-,f2⟩,⟨-,f3⟩,-⟩:=C1;by_cases he:c1=0
   case neg=>
    have e1:decide (c1=0)=false:=z4z he;refine gS1 (aI e1 (aI f2 (aI f3 @Tryz.results71))) ?_;exact⟨0,0,0,0,c1,_,rfl,fun h=>absurd h he,eX⟩
   subst he;obtain⟨pX,pY⟩:=k1 rfl;have c9:=A9 f0;have c4:=A9 f1;rw[<- hR]at c4;refine gS1 (aI c9 (aI b4 (aI c4 (aI y4 (aI s2 @j7))))) ?_;refine(ihb hB (hT.mono K) (x2.mono K)).mono ?_;rintro r ⟨D,u,F,C,c2,W,rfl,k2,a6⟩;have n3:=a6.n;unfold R5;refine gS1 (asx a6) ?_;refine dW1 (asx a6) ?_;refine gS ?_;obtain⟨S3,hS3⟩:=nW (((((W.new [.int .i64 0,.int .i64 0] (some 29)).new [.int .i64 0,.int .i64 0] (some 29)).upd W.n [.int .i64 D,.int .i64 u]).upd (W.n+1) [.int .i64 F,.int .i64 C]));rw[hS3];have E3:Ext W S3:=by rw[<- hS3];exact eX
   have m3:S3.n=W.n+2:=by rw[<- hS3];rfl
   have K:Ext Z S3:=K.trans (a6.trans E3);have c8:Cl S2 [(Z2.n,[.int .i64 z,.int .i64 f]),(Z2.n+1,[.int .i64 I,.int .i64 E]),(Z.n,ca),(Z.n+1,R),(Z.n+1+1,[.int .i64 0,.int .i64 0]),(Z.n+1+1+1,[.int .i64 0,.int .i64 0])]:=⟨C2.1,C2.2.1,C0.ext E2⟩
   have C3:Cl S3 [(W.n,[.int .i64 D,.int .i64 u]),(W.n+1,[.int .i64 F,.int .i64 C]),(Z2.n,[.int .i64 z,.int .i64 f]),(Z2.n+1,[.int .i64 I,.int .i64 E]),(Z.n,ca),(Z.n+1,R),(Z.n+1+1,[.int .i64 0,.int .i64 0]),(Z.n+1+1+1,[.int .i64 0,.int .i64 0])] :=
    ⟨⟨om,by rw[<- hS3];exact cL⟩,⟨om,by rw[<- hS3];exact cL⟩,(c8.ext a6).ext E3⟩
   obtain⟨-,-,-,-,-,-,⟨-,f2⟩,⟨-,f3⟩,-⟩:=id C3;by_cases he:c2=0
   case neg=>
    have e1:decide (c2=0)=false:=z4z he;refine gS1 (aI e1 (aI f2 (aI f3 @Tryz.results71))) ?_;exact⟨0,0,0,0,c2,_,rfl,fun h=>absurd h he,eX⟩
   subst he;obtain⟨pU,pV⟩:=k2 rfl;refine gS ?_;refine dL.mono ?_;rintro r ⟨Z4,rfl,a9⟩;have n4:=a9.n;unfold R5;obtain⟨-,-,-,-,-,⟨-,Y⟩,-⟩:=C3.ext a9;have c7:=A9 Y;rw[<- hR]at c7;refine gS1 c7 ?_;rw[hR]at c7;obtain⟨S4,hS4⟩:=nW (((Z4.new [.int .i64 0,.int .i64 0] (some 29)).upd Z4.n [.int .i64 0,.int .i64 1]));rw[hS4];have E4:Ext Z4 S4:=by rw[<- hS4];exact eX
   have m4:S4.n=Z4.n+1:=by rw[<- hS4];rfl
   have K:Ext Z S4:=K.trans (a9.trans E4)
   have p:Cl S4 [(Z4.n,[.int .i64 0,.int .i64 1]),(W.n,[.int .i64 D,.int .i64 u]),(W.n+1,[.int .i64 F,.int .i64 C]),(Z2.n,[.int .i64 z,.int .i64 f]),(Z2.n+1,[.int .i64 I,.int .i64 E]),(Z.n,ca),(Z.n+1,R),(Z.n+1+1,[.int .i64 0,.int .i64 0]),(Z.n+1+1+1,[.int .i64 0,.int .i64 0])] :=
    ⟨⟨om,by rw[<- hS4];exact cL⟩,(C3.ext a9).ext E4⟩
   clear hS4 hS3 b5 a2 C3 c8 C2 C0 f0 f1 f2 f3 c9 c4 d6 d7 d8 d9 y0 y1 y2 y3 iha ihb;obtain⟨⟨-,G⟩,⟨-,k⟩,⟨-,i⟩,⟨-,j⟩,⟨-,g⟩,-,⟨-,Y⟩,⟨-,N⟩,⟨-,O⟩,-⟩:=id p;have WV:=A9 G;have S:=A9 k;have L:=A9 i;have U:=A9 j;have M:=A9 g;have a7:=hA _ _ pX;have a8:=hA _ _ pY;have a3:=hB _ _ pU;have a4:=hB _ _ pV;by_cases g0:o=FL
   case pos=>
    subst g0;unfold OpP at hPP;rw[z1z rfl]at hPP;have gg:decide ((FL:By)=[43])=true:=by decide
    refine gS1 (aI gg (aI U (aI M (aI S (aI L WV))))) ?_;refine(gp a7 a3).mono ?_;rintro r ⟨H,rfl,e0⟩;have c0:=e0.n
    try unfold R5
    have p:=p.ext e0;obtain⟨⟨-,G⟩,⟨-,k⟩,⟨-,i⟩,⟨-,j⟩,⟨-,g⟩,-,⟨-,Y⟩,⟨-,N⟩,⟨-,O⟩,-⟩:=id p;have U:=A9 j;have M:=A9 g;have S:=A9 k;have L:=A9 i;refine gS1 (aI U (aI M (aI S L))) ?_;obtain⟨T0,hT0⟩:=nW (((H.new [.int .i64 0,.int .i64 0] (some 29)).upd H.n [.int .i64 (qn (z*u+D*f) (f*u)),.int .i64 (qd (z*u+D*f) (f*u))]));rw[hT0];have F0:Ext H T0:=by rw[<- hT0];exact eX
    have b8:T0.n=H.n+1:=by rw[<- hT0];rfl
    have K:Ext Z T0:=K.trans (e0.trans F0);have D0:Cl T0 [(H.n,[.int .i64 (qn (z*u+D*f) (f*u)),.int .i64 (qd (z*u+D*f) (f*u))])]:=⟨⟨om,by rw[<- hT0];exact cL⟩,trivial⟩
    have p:Cl T0 [(Z4.n,[.int .i64 0,.int .i64 1]),(W.n,[.int .i64 D,.int .i64 u]),(W.n+1,[.int .i64 F,.int .i64 C]),(Z2.n,[.int .i64 z,.int .i64 f]),(Z2.n+1,[.int .i64 I,.int .i64 E]),(Z.n,ca),(Z.n+1,R),(Z.n+1+1,[.int .i64 0,.int .i64 0]),(Z.n+1+1+1,[.int .i64 0,.int .i64 0])]:=p.ext F0;obtain⟨⟨-,G⟩,⟨-,k⟩,⟨-,i⟩,⟨-,j⟩,⟨-,g⟩,-,⟨-,Y⟩,⟨-,N⟩,⟨-,O⟩,-⟩:=id p;refine(gp a8 a4).mono ?_;rintro r ⟨J,rfl,e1⟩;have c3:=e1.n
    try unfold R5
    have p:=p.ext e1;obtain⟨⟨-,G⟩,⟨-,k⟩,⟨-,i⟩,⟨-,j⟩,⟨-,g⟩,-,⟨-,Y⟩,⟨-,N⟩,⟨-,O⟩,-⟩:=id p;have U:=A9 j;have M:=A9 g;have S:=A9 k;have L:=A9 i;have D0:=D0.ext e1;obtain⟨⟨-,v0⟩,-⟩:=id D0;have V:=A9 v0;refine gS1 (aI U (aI M (aI S (aI L V)))) ?_;obtain⟨T1,hT1⟩:=nW (((J.new [.int .i64 0,.int .i64 0] (some 29)).upd J.n [.int .i64 (qn (I*C+F*E) (E*C)),.int .i64 (qd (I*C+F*E) (E*C))]));rw[hT1];have F1:Ext J T1:=by rw[<- hT1];exact eX
    have b9:T1.n=J.n+1:=by rw[<- hT1];rfl
    have K:Ext Z T1:=K.trans (e1.trans F1);have D1:Cl T1 [(J.n,[.int .i64 (qn (I*C+F*E) (E*C)),.int .i64 (qd (I*C+F*E) (E*C))]),(H.n,[.int .i64 (qn (z*u+D*f) (f*u)),.int .i64 (qd (z*u+D*f) (f*u))])]:=⟨⟨om,by rw[<- hT1];exact cL⟩,D0.ext F1⟩
    have p:Cl T1 [(Z4.n,[.int .i64 0,.int .i64 1]),(W.n,[.int .i64 D,.int .i64 u]),(W.n+1,[.int .i64 F,.int .i64 C]),(Z2.n,[.int .i64 z,.int .i64 f]),(Z2.n+1,[.int .i64 I,.int .i64 E]),(Z.n,ca),(Z.n+1,R),(Z.n+1+1,[.int .i64 0,.int .i64 0]),(Z.n+1+1+1,[.int .i64 0,.int .i64 0])]:=p.ext F1;obtain⟨⟨-,G⟩,⟨-,k⟩,⟨-,i⟩,⟨-,j⟩,⟨-,g⟩,-,⟨-,Y⟩,⟨-,N⟩,⟨-,O⟩,-⟩:=id p;refine(NA (qs:=[(qn (z*u+D*f) (f*u),qd (z*u+D*f) (f*u)),(qn (I*C+F*E) (E*C),qd (I*C+F*E) (E*C))]) hP (Jx (by simp[kj]) (cL) (cL) rfl rfl) (Jx (by simp) (cL) (cL) rfl rfl) (by simp) (by simp) ?_).mono ?_
    ·intro q hq;simp only[W1,EP,EK]at hq;rcases hq with rfl|rfl
     ·exact hPP _ _ _ _ pX pU
     ·exact hPP _ _ _ _ pY pV
    rintro r ⟨zn,zd,zm,ze,Z9,rfl,z1,z2,e9⟩;have b0:=e9.n;simp only[G3]at b0;have b1:Z9.A7 (Z.n+1+1)=some [.int .i64 0,.int .i64 0]:=by rw[e9.A7 (cL)];exact cL1 N
    have b2:Z9.A7 (Z.n+1+1+1)=some [.int .i64 0,.int .i64 0]:=by rw[e9.A7 (cL)];exact cL1 O
    have K:Ext Z Z9:=Ext.trans (eX) e9
    try unfold R5
    refine gS1 (aI b1 (aI b2 @Tryz.results71)) ?_;exact⟨zn,zd,zm,ze,0,_,rfl,fun _=>⟨z1,z2⟩,eX⟩
   by_cases g1:o=Jj
   case pos=>
    subst g1;unfold OpP at hPP;rw[z0z (by decide)]at hPP;rw[z1z rfl]at hPP;have gg:decide ((Jj:By)=[45])=true:=by decide
    have h0_:decide ((Jj:By)=[43])=false:=by decide
    refine gS1 (aI gg (aI h0_ (aI U (aI M (aI S (aI L WV)))))) ?_;refine(gu a7 a4).mono ?_;rintro r ⟨H,rfl,e0⟩;have c0:=e0.n
    try unfold R5
    have p:=p.ext e0;obtain⟨⟨-,G⟩,⟨-,k⟩,⟨-,i⟩,⟨-,j⟩,⟨-,g⟩,-,⟨-,Y⟩,⟨-,N⟩,⟨-,O⟩,-⟩:=id p;have U:=A9 j;have M:=A9 g;have S:=A9 k;have L:=A9 i;refine gS1 (aI U (aI M (aI S L))) ?_;obtain⟨T0,hT0⟩:=nW (((H.new [.int .i64 0,.int .i64 0] (some 29)).upd H.n [.int .i64 (qn (z*C-F*f) (f*C)),.int .i64 (qd (z*C-F*f) (f*C))]));rw[hT0];have F0:Ext H T0:=by rw[<- hT0];exact eX
    have b8:T0.n=H.n+1:=by rw[<- hT0];rfl
    have K:Ext Z T0:=K.trans (e0.trans F0);have D0:Cl T0 [(H.n,[.int .i64 (qn (z*C-F*f) (f*C)),.int .i64 (qd (z*C-F*f) (f*C))])]:=⟨⟨om,by rw[<- hT0];exact cL⟩,trivial⟩
    have p:Cl T0 [(Z4.n,[.int .i64 0,.int .i64 1]),(W.n,[.int .i64 D,.int .i64 u]),(W.n+1,[.int .i64 F,.int .i64 C]),(Z2.n,[.int .i64 z,.int .i64 f]),(Z2.n+1,[.int .i64 I,.int .i64 E]),(Z.n,ca),(Z.n+1,R),(Z.n+1+1,[.int .i64 0,.int .i64 0]),(Z.n+1+1+1,[.int .i64 0,.int .i64 0])]:=p.ext F0;obtain⟨⟨-,G⟩,⟨-,k⟩,⟨-,i⟩,⟨-,j⟩,⟨-,g⟩,-,⟨-,Y⟩,⟨-,N⟩,⟨-,O⟩,-⟩:=id p;refine(gu a8 a3).mono ?_;rintro r ⟨J,rfl,e1⟩;have c3:=e1.n
    try unfold R5
    have p:=p.ext e1;obtain⟨⟨-,G⟩,⟨-,k⟩,⟨-,i⟩,⟨-,j⟩,⟨-,g⟩,-,⟨-,Y⟩,⟨-,N⟩,⟨-,O⟩,-⟩:=id p;have U:=A9 j;have M:=A9 g;have S:=A9 k;have L:=A9 i;have D0:=D0.ext e1;obtain⟨⟨-,v0⟩,-⟩:=id D0;have V:=A9 v0;refine gS1 (aI U (aI M (aI S (aI L V)))) ?_;obtain⟨T1,hT1⟩:=nW (((J.new [.int .i64 0,.int .i64 0] (some 29)).upd J.n [.int .i64 (qn (I*u-D*E) (E*u)),.int .i64 (qd (I*u-D*E) (E*u))]));rw[hT1];have F1:Ext J T1:=by rw[<- hT1];exact eX
    have b9:T1.n=J.n+1:=by rw[<- hT1];rfl
    have K:Ext Z T1:=K.trans (e1.trans F1);have D1:Cl T1 [(J.n,[.int .i64 (qn (I*u-D*E) (E*u)),.int .i64 (qd (I*u-D*E) (E*u))]),(H.n,[.int .i64 (qn (z*C-F*f) (f*C)),.int .i64 (qd (z*C-F*f) (f*C))])]:=⟨⟨om,by rw[<- hT1];exact cL⟩,D0.ext F1⟩
    have p:Cl T1 [(Z4.n,[.int .i64 0,.int .i64 1]),(W.n,[.int .i64 D,.int .i64 u]),(W.n+1,[.int .i64 F,.int .i64 C]),(Z2.n,[.int .i64 z,.int .i64 f]),(Z2.n+1,[.int .i64 I,.int .i64 E]),(Z.n,ca),(Z.n+1,R),(Z.n+1+1,[.int .i64 0,.int .i64 0]),(Z.n+1+1+1,[.int .i64 0,.int .i64 0])]:=p.ext F1;obtain⟨⟨-,G⟩,⟨-,k⟩,⟨-,i⟩,⟨-,j⟩,⟨-,g⟩,-,⟨-,Y⟩,⟨-,N⟩,⟨-,O⟩,-⟩:=id p;refine(NA (qs:=[(qn (z*C-F*f) (f*C),qd (z*C-F*f) (f*C)),(qn (I*u-D*E) (E*u),qd (I*u-D*E) (E*u))]) hP (Jx (by simp[kj]) (cL) (cL) rfl rfl) (Jx (by simp) (cL) (cL) rfl rfl) (by simp) (by simp) ?_).mono ?_
    ·intro q hq;simp only[W1,EP,EK]at hq;rcases hq with rfl|rfl
     ·exact hPP _ _ _ _ pX pV
     ·exact hPP _ _ _ _ pY pU
    rintro r ⟨zn,zd,zm,ze,Z9,rfl,z1,z2,e9⟩;have b0:=e9.n;simp only[G3]at b0;have b1:Z9.A7 (Z.n+1+1)=some [.int .i64 0,.int .i64 0]:=by rw[e9.A7 (cL)];exact cL1 N
    have b2:Z9.A7 (Z.n+1+1+1)=some [.int .i64 0,.int .i64 0]:=by rw[e9.A7 (cL)];exact cL1 O
    have K:Ext Z Z9:=Ext.trans (eX) e9
    try unfold R5
    refine gS1 (aI b1 (aI b2 @Tryz.results71)) ?_;exact⟨zn,zd,zm,ze,0,_,rfl,fun _=>⟨z1,z2⟩,eX⟩
   by_cases g2:o=Hx
   case pos=>
    subst g2;unfold OpP at hPP;rw[z0z (by decide)]at hPP;rw[z0z (by decide)]at hPP;rw[z1z rfl]at hPP;have gg:decide ((Hx:By)=[42])=true:=by decide
    have h0_:decide ((Hx:By)=[43])=false:=by decide
    have h1_:decide ((Hx:By)=[45])=false:=by decide
    refine gS1 (aI gg (aI h0_ (aI h1_ (aI U (aI M (aI S (aI L WV))))))) ?_;refine(QV a7 a3).mono ?_;rintro r ⟨H,rfl,e0⟩;have c0:=e0.n
    try unfold R5
    have p:=p.ext e0;obtain⟨⟨-,G⟩,⟨-,k⟩,⟨-,i⟩,⟨-,j⟩,⟨-,g⟩,-,⟨-,Y⟩,⟨-,N⟩,⟨-,O⟩,-⟩:=id p;have U:=A9 j;have M:=A9 g;have S:=A9 k;have L:=A9 i;refine gS1 (aI U (aI M (aI S L))) ?_;obtain⟨T0,hT0⟩:=nW (((H.new [.int .i64 0,.int .i64 0] (some 29)).upd H.n [.int .i64 (qn (z*D) (f*u)),.int .i64 (qd (z*D) (f*u))]));rw[hT0];have F0:Ext H T0:=by rw[<- hT0];exact eX
    have b8:T0.n=H.n+1:=by rw[<- hT0];rfl
    have K:Ext Z T0:=K.trans (e0.trans F0);have D0:Cl T0 [(H.n,[.int .i64 (qn (z*D) (f*u)),.int .i64 (qd (z*D) (f*u))])]:=⟨⟨om,by rw[<- hT0];exact cL⟩,trivial⟩
    have p:Cl T0 [(Z4.n,[.int .i64 0,.int .i64 1]),(W.n,[.int .i64 D,.int .i64 u]),(W.n+1,[.int .i64 F,.int .i64 C]),(Z2.n,[.int .i64 z,.int .i64 f]),(Z2.n+1,[.int .i64 I,.int .i64 E]),(Z.n,ca),(Z.n+1,R),(Z.n+1+1,[.int .i64 0,.int .i64 0]),(Z.n+1+1+1,[.int .i64 0,.int .i64 0])]:=p.ext F0;obtain⟨⟨-,G⟩,⟨-,k⟩,⟨-,i⟩,⟨-,j⟩,⟨-,g⟩,-,⟨-,Y⟩,⟨-,N⟩,⟨-,O⟩,-⟩:=id p;refine(QV a7 a4).mono ?_;rintro r ⟨J,rfl,e1⟩;have c3:=e1.n
    try unfold R5
    have p:=p.ext e1;obtain⟨⟨-,G⟩,⟨-,k⟩,⟨-,i⟩,⟨-,j⟩,⟨-,g⟩,-,⟨-,Y⟩,⟨-,N⟩,⟨-,O⟩,-⟩:=id p;have U:=A9 j;have M:=A9 g;have S:=A9 k;have L:=A9 i;have D0:=D0.ext e1;obtain⟨⟨-,v0⟩,-⟩:=id D0;have V:=A9 v0;refine gS1 (aI U (aI M (aI S (aI L V)))) ?_;obtain⟨T1,hT1⟩:=nW (((J.new [.int .i64 0,.int .i64 0] (some 29)).upd J.n [.int .i64 (qn (z*F) (f*C)),.int .i64 (qd (z*F) (f*C))]));rw[hT1];have F1:Ext J T1:=by rw[<- hT1];exact eX
    have b9:T1.n=J.n+1:=by rw[<- hT1];rfl
    have K:Ext Z T1:=K.trans (e1.trans F1);have D1:Cl T1 [(J.n,[.int .i64 (qn (z*F) (f*C)),.int .i64 (qd (z*F) (f*C))]),(H.n,[.int .i64 (qn (z*D) (f*u)),.int .i64 (qd (z*D) (f*u))])]:=⟨⟨om,by rw[<- hT1];exact cL⟩,D0.ext F1⟩
    have p:Cl T1 [(Z4.n,[.int .i64 0,.int .i64 1]),(W.n,[.int .i64 D,.int .i64 u]),(W.n+1,[.int .i64 F,.int .i64 C]),(Z2.n,[.int .i64 z,.int .i64 f]),(Z2.n+1,[.int .i64 I,.int .i64 E]),(Z.n,ca),(Z.n+1,R),(Z.n+1+1,[.int .i64 0,.int .i64 0]),(Z.n+1+1+1,[.int .i64 0,.int .i64 0])]:=p.ext F1;obtain⟨⟨-,G⟩,⟨-,k⟩,⟨-,i⟩,⟨-,j⟩,⟨-,g⟩,-,⟨-,Y⟩,⟨-,N⟩,⟨-,O⟩,-⟩:=id p;refine(QV a8 a3).mono ?_;rintro r ⟨X,rfl,e2⟩;have d4:=e2.n
    try unfold R5
    have p:=p.ext e2;obtain⟨⟨-,G⟩,⟨-,k⟩,⟨-,i⟩,⟨-,j⟩,⟨-,g⟩,-,⟨-,Y⟩,⟨-,N⟩,⟨-,O⟩,-⟩:=id p;have U:=A9 j;have M:=A9 g;have S:=A9 k;have L:=A9 i;have D1:=D1.ext e2;obtain⟨⟨-,v1⟩,⟨-,v0⟩,-⟩:=id D1;have V:=A9 v0;have a5:=A9 v1;refine gS1 (aI U (aI M (aI S (aI L (aI V a5))))) ?_;obtain⟨T2,hT2⟩:=nW (((X.new [.int .i64 0,.int .i64 0] (some 29)).upd X.n [.int .i64 (qn (I*D) (E*u)),.int .i64 (qd (I*D) (E*u))]));rw[hT2];have F2:Ext X T2:=by rw[<- hT2];exact eX
    have mm2:T2.n=X.n+1:=by rw[<- hT2];rfl
    have K:Ext Z T2:=K.trans (e2.trans F2);have D2:Cl T2 [(X.n,[.int .i64 (qn (I*D) (E*u)),.int .i64 (qd (I*D) (E*u))]),(J.n,[.int .i64 (qn (z*F) (f*C)),.int .i64 (qd (z*F) (f*C))]),(H.n,[.int .i64 (qn (z*D) (f*u)),.int .i64 (qd (z*D) (f*u))])]:=⟨⟨om,by rw[<- hT2];exact cL⟩,D1.ext F2⟩
    have p:Cl T2 [(Z4.n,[.int .i64 0,.int .i64 1]),(W.n,[.int .i64 D,.int .i64 u]),(W.n+1,[.int .i64 F,.int .i64 C]),(Z2.n,[.int .i64 z,.int .i64 f]),(Z2.n+1,[.int .i64 I,.int .i64 E]),(Z.n,ca),(Z.n+1,R),(Z.n+1+1,[.int .i64 0,.int .i64 0]),(Z.n+1+1+1,[.int .i64 0,.int .i64 0])]:=p.ext F2;obtain⟨⟨-,G⟩,⟨-,k⟩,⟨-,i⟩,⟨-,j⟩,⟨-,g⟩,-,⟨-,Y⟩,⟨-,N⟩,⟨-,O⟩,-⟩:=id p;refine(QV a8 a4).mono ?_;rintro r ⟨a0,rfl,e3⟩;have d5:=e3.n
    try unfold R5
    have p:=p.ext e3;obtain⟨⟨-,G⟩,⟨-,k⟩,⟨-,i⟩,⟨-,j⟩,⟨-,g⟩,-,⟨-,Y⟩,⟨-,N⟩,⟨-,O⟩,-⟩:=id p;have U:=A9 j;have M:=A9 g;have S:=A9 k;have L:=A9 i;have D2:=D2.ext e3;obtain⟨⟨-,v2⟩,⟨-,v1⟩,⟨-,v0⟩,-⟩:=id D2;have V:=A9 v0;have a5:=A9 v1;have b7:=A9 v2;refine gS1 (aI U (aI M (aI S (aI L (aI V (aI a5 b7)))))) ?_;obtain⟨T3,hT3⟩:=nW (((a0.new [.int .i64 0,.int .i64 0] (some 29)).upd a0.n [.int .i64 (qn (I*F) (E*C)),.int .i64 (qd (I*F) (E*C))]));rw[hT3];have F3:Ext a0 T3:=by rw[<- hT3];exact eX
    have d3:T3.n=a0.n+1:=by rw[<- hT3];rfl
    have K:Ext Z T3:=K.trans (e3.trans F3);have D3:Cl T3 [(a0.n,[.int .i64 (qn (I*F) (E*C)),.int .i64 (qd (I*F) (E*C))]),(X.n,[.int .i64 (qn (I*D) (E*u)),.int .i64 (qd (I*D) (E*u))]),(J.n,[.int .i64 (qn (z*F) (f*C)),.int .i64 (qd (z*F) (f*C))]),(H.n,[.int .i64 (qn (z*D) (f*u)),.int .i64 (qd (z*D) (f*u))])]:=⟨⟨om,by rw[<- hT3];exact cL⟩,D2.ext F3⟩
    have p:Cl T3 [(Z4.n,[.int .i64 0,.int .i64 1]),(W.n,[.int .i64 D,.int .i64 u]),(W.n+1,[.int .i64 F,.int .i64 C]),(Z2.n,[.int .i64 z,.int .i64 f]),(Z2.n+1,[.int .i64 I,.int .i64 E]),(Z.n,ca),(Z.n+1,R),(Z.n+1+1,[.int .i64 0,.int .i64 0]),(Z.n+1+1+1,[.int .i64 0,.int .i64 0])]:=p.ext F3;obtain⟨⟨-,G⟩,⟨-,k⟩,⟨-,i⟩,⟨-,j⟩,⟨-,g⟩,-,⟨-,Y⟩,⟨-,N⟩,⟨-,O⟩,-⟩:=id p;refine(NA (qs:=[(qn (z*D) (f*u),qd (z*D) (f*u)),(qn (z*F) (f*C),qd (z*F) (f*C)),(qn (I*D) (E*u),qd (I*D) (E*u)),(qn (I*F) (E*C),qd (I*F) (E*C))]) hP (Jx (by simp[kj]) (cL) (cL) rfl rfl) (Jx (by simp) (cL) (cL) rfl rfl) (by simp) (by simp) ?_).mono ?_
    ·intro q hq;simp only[W1,EP,EK]at hq;rcases hq with rfl|rfl|rfl|rfl
     ·exact hPP _ _ _ _ pX pU
     ·exact hPP _ _ _ _ pX pV
     ·exact hPP _ _ _ _ pY pU
     ·exact hPP _ _ _ _ pY pV
    rintro r ⟨zn,zd,zm,ze,Z9,rfl,z1,z2,e9⟩;have b0:=e9.n;simp only[G3]at b0;have b1:Z9.A7 (Z.n+1+1)=some [.int .i64 0,.int .i64 0]:=by rw[e9.A7 (cL)];exact cL1 N
    have b2:Z9.A7 (Z.n+1+1+1)=some [.int .i64 0,.int .i64 0]:=by rw[e9.A7 (cL)];exact cL1 O
    have K:Ext Z Z9:=Ext.trans (eX) e9
    try unfold R5
    refine gS1 (aI b1 (aI b2 @Tryz.results71)) ?_;exact⟨zn,zd,zm,ze,0,_,rfl,fun _=>⟨z1,z2⟩,eX⟩
   by_cases g3:o=Dm
   case pos=>
    subst g3;unfold OpP at hPP;rw[z0z (by decide)]at hPP;rw[z0z (by decide)]at hPP;rw[z0z (by decide)]at hPP;rw[z1z rfl]at hPP;have gg:decide ((Dm:By)=[47])=true:=by decide
    have h0_:decide ((Dm:By)=[43])=false:=by decide
    have h1_:decide ((Dm:By)=[45])=false:=by decide
    have h2_:decide ((Dm:By)=[42])=false:=by decide
    refine gS1 (aI gg (aI h0_ (aI h1_ (aI h2_ (aI U (aI M (aI S (aI L WV)))))))) ?_;have rz:RS 0 1:=⟨om,om,om,om,by decide⟩
    refine(WW a3 rz).mono ?_;rintro r ⟨c5,Z5,rfl,b3⟩;have n5:=b3.n;have p:=p.ext b3;have K:=K.trans b3;obtain⟨⟨-,G⟩,⟨-,k⟩,⟨-,i⟩,⟨-,j⟩,⟨-,g⟩,-,⟨-,Y⟩,⟨-,N⟩,⟨-,O⟩,-⟩:=id p;have WV:=A9 G;have S:=A9 k;have L:=A9 i;have U:=A9 j;have M:=A9 g;cases q1:decide (0<c5)with
    | true=>
      refine gS1 (aI q1 (aI (asx b3) (aI U (aI M (aI S (aI L WV)))))) ?_;refine(Hg a7 a3 (hPP _ _ _ _ pX pU).1).mono ?_;rintro r ⟨H,rfl,e0⟩;have c0:=e0.n
      try unfold R5
      have p:=p.ext e0;obtain⟨⟨-,G⟩,⟨-,k⟩,⟨-,i⟩,⟨-,j⟩,⟨-,g⟩,-,⟨-,Y⟩,⟨-,N⟩,⟨-,O⟩,-⟩:=id p;have U:=A9 j;have M:=A9 g;have S:=A9 k;have L:=A9 i;refine gS1 (aI U (aI M (aI S L))) ?_;obtain⟨T0,hT0⟩:=nW (((H.new [.int .i64 0,.int .i64 0] (some 29)).upd H.n [.int .i64 (qn (z*u) (f*D)),.int .i64 (qd (z*u) (f*D))]));rw[hT0];have F0:Ext H T0:=by rw[<- hT0];exact eX
      have b8:T0.n=H.n+1:=by rw[<- hT0];rfl
      have K:Ext Z T0:=K.trans (e0.trans F0);have D0:Cl T0 [(H.n,[.int .i64 (qn (z*u) (f*D)),.int .i64 (qd (z*u) (f*D))])]:=⟨⟨om,by rw[<- hT0];exact cL⟩,trivial⟩
      have p:Cl T0 [(Z4.n,[.int .i64 0,.int .i64 1]),(W.n,[.int .i64 D,.int .i64 u]),(W.n+1,[.int .i64 F,.int .i64 C]),(Z2.n,[.int .i64 z,.int .i64 f]),(Z2.n+1,[.int .i64 I,.int .i64 E]),(Z.n,ca),(Z.n+1,R),(Z.n+1+1,[.int .i64 0,.int .i64 0]),(Z.n+1+1+1,[.int .i64 0,.int .i64 0])]:=p.ext F0;obtain⟨⟨-,G⟩,⟨-,k⟩,⟨-,i⟩,⟨-,j⟩,⟨-,g⟩,-,⟨-,Y⟩,⟨-,N⟩,⟨-,O⟩,-⟩:=id p;refine(Hg a7 a4 (hPP _ _ _ _ pX pV).1).mono ?_;rintro r ⟨J,rfl,e1⟩;have c3:=e1.n
      try unfold R5
      have p:=p.ext e1;obtain⟨⟨-,G⟩,⟨-,k⟩,⟨-,i⟩,⟨-,j⟩,⟨-,g⟩,-,⟨-,Y⟩,⟨-,N⟩,⟨-,O⟩,-⟩:=id p;have U:=A9 j;have M:=A9 g;have S:=A9 k;have L:=A9 i;have D0:=D0.ext e1;obtain⟨⟨-,v0⟩,-⟩:=id D0;have V:=A9 v0;refine gS1 (aI U (aI M (aI S (aI L V)))) ?_;obtain⟨T1,hT1⟩:=nW (((J.new [.int .i64 0,.int .i64 0] (some 29)).upd J.n [.int .i64 (qn (z*C) (f*F)),.int .i64 (qd (z*C) (f*F))]));rw[hT1];have F1:Ext J T1:=by rw[<- hT1];exact eX
      have b9:T1.n=J.n+1:=by rw[<- hT1];rfl
      have K:Ext Z T1:=K.trans (e1.trans F1);have D1:Cl T1 [(J.n,[.int .i64 (qn (z*C) (f*F)),.int .i64 (qd (z*C) (f*F))]),(H.n,[.int .i64 (qn (z*u) (f*D)),.int .i64 (qd (z*u) (f*D))])]:=⟨⟨om,by rw[<- hT1];exact cL⟩,D0.ext F1⟩
      have p:Cl T1 [(Z4.n,[.int .i64 0,.int .i64 1]),(W.n,[.int .i64 D,.int .i64 u]),(W.n+1,[.int .i64 F,.int .i64 C]),(Z2.n,[.int .i64 z,.int .i64 f]),(Z2.n+1,[.int .i64 I,.int .i64 E]),(Z.n,ca),(Z.n+1,R),(Z.n+1+1,[.int .i64 0,.int .i64 0]),(Z.n+1+1+1,[.int .i64 0,.int .i64 0])]:=p.ext F1;obtain⟨⟨-,G⟩,⟨-,k⟩,⟨-,i⟩,⟨-,j⟩,⟨-,g⟩,-,⟨-,Y⟩,⟨-,N⟩,⟨-,O⟩,-⟩:=id p;refine(Hg a8 a3 (hPP _ _ _ _ pY pU).1).mono ?_;rintro r ⟨X,rfl,e2⟩;have d4:=e2.n
      try unfold R5
      have p:=p.ext e2;obtain⟨⟨-,G⟩,⟨-,k⟩,⟨-,i⟩,⟨-,j⟩,⟨-,g⟩,-,⟨-,Y⟩,⟨-,N⟩,⟨-,O⟩,-⟩:=id p;have U:=A9 j;have M:=A9 g;have S:=A9 k;have L:=A9 i;have D1:=D1.ext e2;obtain⟨⟨-,v1⟩,⟨-,v0⟩,-⟩:=id D1;have V:=A9 v0;have a5:=A9 v1;refine gS1 (aI U (aI M (aI S (aI L (aI V a5))))) ?_;obtain⟨T2,hT2⟩:=nW (((X.new [.int .i64 0,.int .i64 0] (some 29)).upd X.n [.int .i64 (qn (I*u) (E*D)),.int .i64 (qd (I*u) (E*D))]));rw[hT2];have F2:Ext X T2:=by rw[<- hT2];exact eX
      have mm2:T2.n=X.n+1:=by rw[<- hT2];rfl
      have K:Ext Z T2:=K.trans (e2.trans F2);have D2:Cl T2 [(X.n,[.int .i64 (qn (I*u) (E*D)),.int .i64 (qd (I*u) (E*D))]),(J.n,[.int .i64 (qn (z*C) (f*F)),.int .i64 (qd (z*C) (f*F))]),(H.n,[.int .i64 (qn (z*u) (f*D)),.int .i64 (qd (z*u) (f*D))])]:=⟨⟨om,by rw[<- hT2];exact cL⟩,D1.ext F2⟩
      have p:Cl T2 [(Z4.n,[.int .i64 0,.int .i64 1]),(W.n,[.int .i64 D,.int .i64 u]),(W.n+1,[.int .i64 F,.int .i64 C]),(Z2.n,[.int .i64 z,.int .i64 f]),(Z2.n+1,[.int .i64 I,.int .i64 E]),(Z.n,ca),(Z.n+1,R),(Z.n+1+1,[.int .i64 0,.int .i64 0]),(Z.n+1+1+1,[.int .i64 0,.int .i64 0])]:=p.ext F2;obtain⟨⟨-,G⟩,⟨-,k⟩,⟨-,i⟩,⟨-,j⟩,⟨-,g⟩,-,⟨-,Y⟩,⟨-,N⟩,⟨-,O⟩,-⟩:=id p;refine(Hg a8 a4 (hPP _ _ _ _ pY pV).1).mono ?_;rintro r ⟨a0,rfl,e3⟩;have d5:=e3.n
      try unfold R5
      have p:=p.ext e3;obtain⟨⟨-,G⟩,⟨-,k⟩,⟨-,i⟩,⟨-,j⟩,⟨-,g⟩,-,⟨-,Y⟩,⟨-,N⟩,⟨-,O⟩,-⟩:=id p;have U:=A9 j;have M:=A9 g;have S:=A9 k;have L:=A9 i;have D2:=D2.ext e3;obtain⟨⟨-,v2⟩,⟨-,v1⟩,⟨-,v0⟩,-⟩:=id D2;have V:=A9 v0;have a5:=A9 v1;have b7:=A9 v2;refine gS1 (aI U (aI M (aI S (aI L (aI V (aI a5 b7)))))) ?_;obtain⟨T3,hT3⟩:=nW (((a0.new [.int .i64 0,.int .i64 0] (some 29)).upd a0.n [.int .i64 (qn (I*C) (E*F)),.int .i64 (qd (I*C) (E*F))]));rw[hT3];have F3:Ext a0 T3:=by rw[<- hT3];exact eX
      have d3:T3.n=a0.n+1:=by rw[<- hT3];rfl
      have K:Ext Z T3:=K.trans (e3.trans F3);have D3:Cl T3 [(a0.n,[.int .i64 (qn (I*C) (E*F)),.int .i64 (qd (I*C) (E*F))]),(X.n,[.int .i64 (qn (I*u) (E*D)),.int .i64 (qd (I*u) (E*D))]),(J.n,[.int .i64 (qn (z*C) (f*F)),.int .i64 (qd (z*C) (f*F))]),(H.n,[.int .i64 (qn (z*u) (f*D)),.int .i64 (qd (z*u) (f*D))])]:=⟨⟨om,by rw[<- hT3];exact cL⟩,D2.ext F3⟩
      have p:Cl T3 [(Z4.n,[.int .i64 0,.int .i64 1]),(W.n,[.int .i64 D,.int .i64 u]),(W.n+1,[.int .i64 F,.int .i64 C]),(Z2.n,[.int .i64 z,.int .i64 f]),(Z2.n+1,[.int .i64 I,.int .i64 E]),(Z.n,ca),(Z.n+1,R),(Z.n+1+1,[.int .i64 0,.int .i64 0]),(Z.n+1+1+1,[.int .i64 0,.int .i64 0])]:=p.ext F3;obtain⟨⟨-,G⟩,⟨-,k⟩,⟨-,i⟩,⟨-,j⟩,⟨-,g⟩,-,⟨-,Y⟩,⟨-,N⟩,⟨-,O⟩,-⟩:=id p;refine(NA (qs:=[(qn (z*u) (f*D),qd (z*u) (f*D)),(qn (z*C) (f*F),qd (z*C) (f*F)),(qn (I*u) (E*D),qd (I*u) (E*D)),(qn (I*C) (E*F),qd (I*C) (E*F))]) hP (Jx (by simp[kj]) (cL) (cL) rfl rfl) (Jx (by simp) (cL) (cL) rfl rfl) (by simp) (by simp) ?_).mono ?_
      ·intro q hq;simp only[W1,EP,EK]at hq;rcases hq with rfl|rfl|rfl|rfl
       ·exact(hPP _ _ _ _ pX pU).2
       ·exact(hPP _ _ _ _ pX pV).2
       ·exact(hPP _ _ _ _ pY pU).2
       ·exact(hPP _ _ _ _ pY pV).2
      rintro r ⟨zn,zd,zm,ze,Z9,rfl,z1,z2,e9⟩;have b0:=e9.n;simp only[G3]at b0;have b1:Z9.A7 (Z.n+1+1)=some [.int .i64 0,.int .i64 0]:=by rw[e9.A7 (cL)];exact cL1 N
      have b2:Z9.A7 (Z.n+1+1+1)=some [.int .i64 0,.int .i64 0]:=by rw[e9.A7 (cL)];exact cL1 O
      have K:Ext Z Z9:=Ext.trans (eX) e9
      try unfold R5
      refine gS1 (aI b1 (aI b2 @Tryz.results71)) ?_;exact⟨zn,zd,zm,ze,0,_,rfl,fun _=>⟨z1,z2⟩,eX⟩
    | false=>
      refine gS1 (aI q1 (aI (asx b3) (aI U (aI M (aI S (aI L WV)))))) ?_;refine(WW a4 rz).mono ?_;rintro r ⟨c6,Z6,rfl,b6⟩;have n6:=b6.n;have p:=p.ext b6;have K:=K.trans b6;obtain⟨⟨-,G⟩,⟨-,k⟩,⟨-,i⟩,⟨-,j⟩,⟨-,g⟩,-,⟨-,Y⟩,⟨-,N⟩,⟨-,O⟩,-⟩:=id p;have WV:=A9 G;have S:=A9 k;have L:=A9 i;have U:=A9 j;have M:=A9 g;cases q2:decide (c6<0)with
      | false=>
        refine gS1 (aI q2 (aI (asx b3) (aI (asx b6) (aI N (aI O @Tryz.results71))))) ?_;exact⟨0,0,0,0,15,_,rfl,fun h=>om,eX⟩
      | true=>
        refine gS1 (aI q2 (aI (asx b3) (aI (asx b6) (aI U (aI M (aI S (aI L WV))))))) ?_;refine(Hg a7 a3 (hPP _ _ _ _ pX pU).1).mono ?_;rintro r ⟨H,rfl,e0⟩;have c0:=e0.n
        try unfold R5
        have p:=p.ext e0;obtain⟨⟨-,G⟩,⟨-,k⟩,⟨-,i⟩,⟨-,j⟩,⟨-,g⟩,-,⟨-,Y⟩,⟨-,N⟩,⟨-,O⟩,-⟩:=id p;have U:=A9 j;have M:=A9 g;have S:=A9 k;have L:=A9 i;refine gS1 (aI U (aI M (aI S L))) ?_;obtain⟨T0,hT0⟩:=nW (((H.new [.int .i64 0,.int .i64 0] (some 29)).upd H.n [.int .i64 (qn (z*u) (f*D)),.int .i64 (qd (z*u) (f*D))]));rw[hT0];have F0:Ext H T0:=by rw[<- hT0];exact eX
        have b8:T0.n=H.n+1:=by rw[<- hT0];rfl
        have K:Ext Z T0:=K.trans (e0.trans F0);have D0:Cl T0 [(H.n,[.int .i64 (qn (z*u) (f*D)),.int .i64 (qd (z*u) (f*D))])]:=⟨⟨om,by rw[<- hT0];exact cL⟩,trivial⟩
        have p:Cl T0 [(Z4.n,[.int .i64 0,.int .i64 1]),(W.n,[.int .i64 D,.int .i64 u]),(W.n+1,[.int .i64 F,.int .i64 C]),(Z2.n,[.int .i64 z,.int .i64 f]),(Z2.n+1,[.int .i64 I,.int .i64 E]),(Z.n,ca),(Z.n+1,R),(Z.n+1+1,[.int .i64 0,.int .i64 0]),(Z.n+1+1+1,[.int .i64 0,.int .i64 0])]:=p.ext F0;obtain⟨⟨-,G⟩,⟨-,k⟩,⟨-,i⟩,⟨-,j⟩,⟨-,g⟩,-,⟨-,Y⟩,⟨-,N⟩,⟨-,O⟩,-⟩:=id p;refine(Hg a7 a4 (hPP _ _ _ _ pX pV).1).mono ?_;rintro r ⟨J,rfl,e1⟩;have c3:=e1.n
        try unfold R5
        have p:=p.ext e1;obtain⟨⟨-,G⟩,⟨-,k⟩,⟨-,i⟩,⟨-,j⟩,⟨-,g⟩,-,⟨-,Y⟩,⟨-,N⟩,⟨-,O⟩,-⟩:=id p;have U:=A9 j;have M:=A9 g;have S:=A9 k;have L:=A9 i;have D0:=D0.ext e1;obtain⟨⟨-,v0⟩,-⟩:=id D0;have V:=A9 v0;refine gS1 (aI U (aI M (aI S (aI L V)))) ?_;obtain⟨T1,hT1⟩:=nW (((J.new [.int .i64 0,.int .i64 0] (some 29)).upd J.n [.int .i64 (qn (z*C) (f*F)),.int .i64 (qd (z*C) (f*F))]));rw[hT1];have F1:Ext J T1:=by rw[<- hT1];exact eX
        have b9:T1.n=J.n+1:=by rw[<- hT1];rfl
        have K:Ext Z T1:=K.trans (e1.trans F1);have D1:Cl T1 [(J.n,[.int .i64 (qn (z*C) (f*F)),.int .i64 (qd (z*C) (f*F))]),(H.n,[.int .i64 (qn (z*u) (f*D)),.int .i64 (qd (z*u) (f*D))])]:=⟨⟨om,by rw[<- hT1];exact cL⟩,D0.ext F1⟩
        have p:Cl T1 [(Z4.n,[.int .i64 0,.int .i64 1]),(W.n,[.int .i64 D,.int .i64 u]),(W.n+1,[.int .i64 F,.int .i64 C]),(Z2.n,[.int .i64 z,.int .i64 f]),(Z2.n+1,[.int .i64 I,.int .i64 E]),(Z.n,ca),(Z.n+1,R),(Z.n+1+1,[.int .i64 0,.int .i64 0]),(Z.n+1+1+1,[.int .i64 0,.int .i64 0])]:=p.ext F1;obtain⟨⟨-,G⟩,⟨-,k⟩,⟨-,i⟩,⟨-,j⟩,⟨-,g⟩,-,⟨-,Y⟩,⟨-,N⟩,⟨-,O⟩,-⟩:=id p;refine(Hg a8 a3 (hPP _ _ _ _ pY pU).1).mono ?_;rintro r ⟨X,rfl,e2⟩;have d4:=e2.n
        try unfold R5
        have p:=p.ext e2;obtain⟨⟨-,G⟩,⟨-,k⟩,⟨-,i⟩,⟨-,j⟩,⟨-,g⟩,-,⟨-,Y⟩,⟨-,N⟩,⟨-,O⟩,-⟩:=id p;have U:=A9 j;have M:=A9 g;have S:=A9 k;have L:=A9 i;have D1:=D1.ext e2;obtain⟨⟨-,v1⟩,⟨-,v0⟩,-⟩:=id D1;have V:=A9 v0;have a5:=A9 v1;refine gS1 (aI U (aI M (aI S (aI L (aI V a5))))) ?_;obtain⟨T2,hT2⟩:=nW (((X.new [.int .i64 0,.int .i64 0] (some 29)).upd X.n [.int .i64 (qn (I*u) (E*D)),.int .i64 (qd (I*u) (E*D))]));rw[hT2];have F2:Ext X T2:=by rw[<- hT2];exact eX
        have mm2:T2.n=X.n+1:=by rw[<- hT2];rfl
        have K:Ext Z T2:=K.trans (e2.trans F2);have D2:Cl T2 [(X.n,[.int .i64 (qn (I*u) (E*D)),.int .i64 (qd (I*u) (E*D))]),(J.n,[.int .i64 (qn (z*C) (f*F)),.int .i64 (qd (z*C) (f*F))]),(H.n,[.int .i64 (qn (z*u) (f*D)),.int .i64 (qd (z*u) (f*D))])]:=⟨⟨om,by rw[<- hT2];exact cL⟩,D1.ext F2⟩
        have p:Cl T2 [(Z4.n,[.int .i64 0,.int .i64 1]),(W.n,[.int .i64 D,.int .i64 u]),(W.n+1,[.int .i64 F,.int .i64 C]),(Z2.n,[.int .i64 z,.int .i64 f]),(Z2.n+1,[.int .i64 I,.int .i64 E]),(Z.n,ca),(Z.n+1,R),(Z.n+1+1,[.int .i64 0,.int .i64 0]),(Z.n+1+1+1,[.int .i64 0,.int .i64 0])]:=p.ext F2;obtain⟨⟨-,G⟩,⟨-,k⟩,⟨-,i⟩,⟨-,j⟩,⟨-,g⟩,-,⟨-,Y⟩,⟨-,N⟩,⟨-,O⟩,-⟩:=id p;refine(Hg a8 a4 (hPP _ _ _ _ pY pV).1).mono ?_;rintro r ⟨a0,rfl,e3⟩;have d5:=e3.n
        try unfold R5
        have p:=p.ext e3;obtain⟨⟨-,G⟩,⟨-,k⟩,⟨-,i⟩,⟨-,j⟩,⟨-,g⟩,-,⟨-,Y⟩,⟨-,N⟩,⟨-,O⟩,-⟩:=id p;have U:=A9 j;have M:=A9 g;have S:=A9 k;have L:=A9 i;have D2:=D2.ext e3;obtain⟨⟨-,v2⟩,⟨-,v1⟩,⟨-,v0⟩,-⟩:=id D2;have V:=A9 v0;have a5:=A9 v1;have b7:=A9 v2;refine gS1 (aI U (aI M (aI S (aI L (aI V (aI a5 b7)))))) ?_;obtain⟨T3,hT3⟩:=nW (((a0.new [.int .i64 0,.int .i64 0] (some 29)).upd a0.n [.int .i64 (qn (I*C) (E*F)),.int .i64 (qd (I*C) (E*F))]));rw[hT3];have F3:Ext a0 T3:=by rw[<- hT3];exact eX
        have d3:T3.n=a0.n+1:=by rw[<- hT3];rfl
        have K:Ext Z T3:=K.trans (e3.trans F3);have D3:Cl T3 [(a0.n,[.int .i64 (qn (I*C) (E*F)),.int .i64 (qd (I*C) (E*F))]),(X.n,[.int .i64 (qn (I*u) (E*D)),.int .i64 (qd (I*u) (E*D))]),(J.n,[.int .i64 (qn (z*C) (f*F)),.int .i64 (qd (z*C) (f*F))]),(H.n,[.int .i64 (qn (z*u) (f*D)),.int .i64 (qd (z*u) (f*D))])]:=⟨⟨om,by rw[<- hT3];exact cL⟩,D2.ext F3⟩
        have p:Cl T3 [(Z4.n,[.int .i64 0,.int .i64 1]),(W.n,[.int .i64 D,.int .i64 u]),(W.n+1,[.int .i64 F,.int .i64 C]),(Z2.n,[.int .i64 z,.int .i64 f]),(Z2.n+1,[.int .i64 I,.int .i64 E]),(Z.n,ca),(Z.n+1,R),(Z.n+1+1,[.int .i64 0,.int .i64 0]),(Z.n+1+1+1,[.int .i64 0,.int .i64 0])]:=p.ext F3;obtain⟨⟨-,G⟩,⟨-,k⟩,⟨-,i⟩,⟨-,j⟩,⟨-,g⟩,-,⟨-,Y⟩,⟨-,N⟩,⟨-,O⟩,-⟩:=id p;refine(NA (qs:=[(qn (z*u) (f*D),qd (z*u) (f*D)),(qn (z*C) (f*F),qd (z*C) (f*F)),(qn (I*u) (E*D),qd (I*u) (E*D)),(qn (I*C) (E*F),qd (I*C) (E*F))]) hP (Jx (by simp[kj]) (cL) (cL) rfl rfl) (Jx (by simp) (cL) (cL) rfl rfl) (by simp) (by simp) ?_).mono ?_
        ·intro q hq;simp only[W1,EP,EK]at hq;rcases hq with rfl|rfl|rfl|rfl
         ·exact(hPP _ _ _ _ pX pU).2
         ·exact(hPP _ _ _ _ pX pV).2
         ·exact(hPP _ _ _ _ pY pU).2
         ·exact(hPP _ _ _ _ pY pV).2
        rintro r ⟨zn,zd,zm,ze,Z9,rfl,z1,z2,e9⟩;have b0:=e9.n;simp only[G3]at b0;have b1:Z9.A7 (Z.n+1+1)=some [.int .i64 0,.int .i64 0]:=by rw[e9.A7 (cL)];exact cL1 N
        have b2:Z9.A7 (Z.n+1+1+1)=some [.int .i64 0,.int .i64 0]:=by rw[e9.A7 (cL)];exact cL1 O
        have K:Ext Z Z9:=Ext.trans (eX) e9
        try unfold R5
        refine gS1 (aI b1 (aI b2 @Tryz.results71)) ?_;exact⟨zn,zd,zm,ze,0,_,rfl,fun _=>⟨z1,z2⟩,eX⟩
   case neg=>
    unfold OpP at hPP;rw[z0z g0,z0z g1,z0z g2,z0z g3]at hPP;obtain⟨pa,pb⟩:=hPP;have f0:decide (o=[43])=false:=z4z g0;have f1:decide (o=[45])=false:=z4z g1;have f2:decide (o=[42])=false:=z4z g2;have f3:decide (o=[47])=false:=z4z g3;cases f4:decide (o=[109,105,110])
    case' true=>
     refine gS1 (aI f0 (aI @f1 (aI f2 (aI f3 (aI f4 (aI U S)))))) ?_;refine(WX a7 a3).mono ?_;rintro r ⟨x,y,Z5,rfl,xk,e5⟩;have n5:=e5.n;have p:=p.ext e5;have K:=K.trans e5;obtain⟨⟨-,G⟩,⟨-,k⟩,⟨-,i⟩,⟨-,j⟩,⟨-,g⟩,-,⟨-,Y⟩,⟨-,N⟩,⟨-,O⟩,-⟩:=id p;have M:=A9 g;have L:=A9 i;refine gS1 (aI (asx e5) (aI M L)) ?_;refine(WX a8 a4).mono ?_
    case' false=>
     refine gS1 (aI f0 (aI @f1 (aI f2 (aI f3 (aI f4 (aI U S)))))) ?_;refine(WY a7 a3).mono ?_;rintro r ⟨x,y,Z5,rfl,xk,e5⟩;have n5:=e5.n;have p:=p.ext e5;have K:=K.trans e5;obtain⟨⟨-,G⟩,⟨-,k⟩,⟨-,i⟩,⟨-,j⟩,⟨-,g⟩,-,⟨-,Y⟩,⟨-,N⟩,⟨-,O⟩,-⟩:=id p;have M:=A9 g;have L:=A9 i;refine gS1 (aI (asx e5) (aI M L)) ?_;refine(WY a8 a4).mono ?_
    all_goals
     rintro r ⟨x',y',Z6,rfl,e4,e6⟩;have n6:=e6.n;have p:=p.ext e6;have K:=K.trans e6;obtain⟨⟨-,G⟩,⟨-,k⟩,⟨-,i⟩,⟨-,j⟩,⟨-,g⟩,-,⟨-,Y⟩,⟨-,N⟩,⟨-,O⟩,-⟩:=id p
     try unfold R5
     refine gS1 (aI (asx e5) (aI (asx e6) (aI N (aI O @G6)))) ?_;refine gS1 (aI N (aI O @Tryz.results71)) ?_;exact⟨x,y,x',y',0,_,rfl,fun _=>⟨xk.pick (pa _ _ pX) (pb _ _ pU),e4.pick (pa _ _ pY) (pb _ _ pV)⟩,eX⟩
end Go.Proofs.T
