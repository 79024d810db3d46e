/- The F9 Aq6. -/
import Derived.Test.YtckchelhlpifiaaGreatDoorVA
set_option linter.unusedSimpArgs false
set_option linter.unusedVariables false
set_option linter.defProp false
set_option maxHeartbeats 32000000
set_option maxRecDepth 100000
namespace Go.Proofs.T
open Go Go.Ab
section
variable {row:List Value}{e e':Ex}
noncomputable def faC (l:List Nat):Code:=HF l ((Tryz.f212).body.getD .skip)
def AW1:faC []= .seq (faC [0]) (faC [1]):=kR
def AW2:faC [1]= .seq (faC [1,0]) (faC [1,1]):=kR
def AW3:faC [1,1]= .seq (faC [1,1,0]) (faC [1,1,1]):=kR
def AW0:faC [1,1,1]= .seq (faC [1,1,1,0]) (faC [1,1,1,1]):=kR
def yw:faC [1,1,1,1]= .seq (faC [1,1,1,1,0]) (faC [1,1,1,1,1]):=kR
def LK {L:Nat->Prop}{Z:St}{lo blk:Nat}{op:By}{lX:List Value}(he:L9 L Z row e) (he':L9 L Z lX e') (hlo:lo<=blk) (hlt:blk<Z.n) (HD:Z.A7 blk=some (row++lX)) (hL:∀ q,L q->q<lo):
  L9 L Z [str op,.int .i64 0,.int .i64 0,str [],.slice (some ⟨blk,0,none⟩) 2 2] (.mk op 0 0 [] [e,e']):=by
 obtain⟨c1,c2,c3,c4,c5,rfl⟩:=he.Bj;obtain⟨f1,f2,f3,f4,f5,rfl⟩:=he'.Bj;have hol:OL lo Z 5 (.slice (some ⟨blk,0,none⟩) 2 2) [[c1,c2,c3,c4,c5],[f1,f2,f3,f4,f5]]:=OL.mk (cells:=[c1,c2,c3,c4,c5,f1,f2,f3,f4,f5]) rfl rfl (by simp) (.inl rfl) hlo hlt HD;exact fun H hH=>⟨_,[[c1,c2,c3,c4,c5],[f1,f2,f3,f4,f5]],rfl,(OL.J5 hol fun q hq=>hL q (hH q hq)).sl,by simp,_,_,rfl,he H hH,_,_,rfl,he' H hH,rfl⟩
def RrP (L:Nat->Prop) (Z:St) (b:Nat) (tv:Value) (A1:List Tok) (C8:List Value) (R:Except Er Fx) (r:Res):Prop:=∃ fr' τ' row,r=⟨.ret,fr',τ'⟩/\fr'.get 2=some (.pointer (some ⟨Z.n,0,none⟩))/\τ'.A7 Z.n=some row/\RfP L Z b tv A1 C8 R ⟨false,.agg ⟨row⟩,τ'⟩
section
variable {L:Nat->Prop}{b:Nat}{Z S τ:St}{tv:Value}{A1:List Tok}{k p:Nat}{C8:List Value}{F:Nat->Nat->Except Er Fx}{fr:Fr}
def RfP.err {q k:Nat}{er:Int}(hE:B9 b Z τ) (hf:L9 (fun q=>L q\/q=Z.n) τ row e') (he:er≠0) (hk:k<A1.length) (hb:b≠Z.n) (ho:τ.A7 b=some (tv:: .int .i64 (k:Nat):: .int .i64 (q:Nat):: .int .i64 er::C8)):
  RfP L Z b tv A1 C8 (.error (q,er)) ⟨false,.agg ⟨row⟩,τ.upd Z.n row⟩ :=
 ⟨_,row,e',rfl,hE.As nL _,(hf.K4 (b:=Z.n) (B9.upd .refl _) (.inr rfl)).KO fun q hq=> .inl hq,he,k,hk,by rw[I1 hb];exact ho⟩
def RfP.okk {d k p:Nat}(hE:B9 b Z τ) (hf:L9 (fun q=>L q\/q=Z.n) τ row e) (hk:k<A1.length) (hb:b≠Z.n) (ho:τ.A7 b=some (tv:: .int .i64 (k:Nat):: .int .i64 0:: .int .i64 0::C8)):
  RfP L Z b tv A1 C8 (.ok (e,d,k,p)) ⟨false,.agg ⟨row⟩,τ.upd Z.n row⟩ :=
 ⟨_,row,e,rfl,hE.As nL _,(hf.K4 (b:=Z.n) (B9.upd .refl _) (.inr rfl)).KO fun q hq=> .inl hq,rfl,hk,by rw[I1 hb];exact ho⟩
def ga (ES:Ext Z S) (nS:S.n=Z.n+1) (zS:S.A7 Z.n=some [str [],.int .i64 0,.int .i64 0,str [],.slice none 0 0]) (h1:Sc S b tv A1 k (.int .i64 0:: .int .i64 0::C8)) (hbl:b<Z.n) (C7:Ends A1) (hb:L b) (hL:∀ q,L q->q<Z.n) (g0:fr.get 0=some (.pointer (some ⟨b,0,none⟩))) (g2:fr.get 2=some (.pointer (some ⟨Z.n,0,none⟩))) (g3:fr.get 3=some (str (A9 A1 k).1))
  (h40:(A9 A1 k).1≠[40]) (hmm:(decide ((A9 A1 k).1=GJ)||decide ((A9 A1 k).1=HC))=false) (hd:DY F0 (A9 A1 k).1=false) (hlen:(A9 A1 k).1.length<10000000) :
  Ev (lim Tryz.prog HS none (faC [1,1,1,1,1]) fr S) (RrP L Z b tv A1 C8 (GI F A1 k p)) ⟨⟩:=by
 have hkl:=h1.k;have hkn:=h1.len;have e1:(k:Int)+1=((k+1:Nat):Int):=om;have hr:=h1.row;have hrr:=A6 hr;have hbn:b≠Z.n:=om;unfold GI;rw[z0z (by rw[hd];simp),z0z h40,z0z (by rw[hmm];simp)];simp only[faC,Tryz.f212,J4,M0,BP,BQ,BR,BS];refine gS1 g3 ?_;refine Gn.mono ?_;rintro r rfl;rw[IB];cases hn:BB (A9 A1 k).1 with
 | false=>
   rw[z0z (by simp)];refine gS1 (aI g0 g2) ?_;refine(Y6 (e:=12) h1).mono ?_;rintro r ⟨Z2,rfl,X2,o2⟩;have hz:=eT (X2.A7 om om) zS;refine gS1 (aI g2 hz) ?_;exact⟨_,_,_,rfl,fR1 g2,cL,RfP.err ((B9.of ES).trans X2) CX om hkl hbn o2⟩
 | true=>
   have hk1:=C7 k _ (I9 hkl) (by intro e;rw[e]at hn;cases hn);rw[z1z rfl];refine gV1 (aI g0 (aI g2 (aI g3 (aI hr (aI hrr (aI e1 zS)))))) ?_;exact⟨_,_,_,rfl,fR1 g2,cL,RfP.okk (τ:=S.upd b (tv:: .int .i64 (k+1:Nat):: .int .i64 0:: .int .i64 0::C8)) ((B9.of ES).upd _) CX hk1 hbn (cL)⟩
def sw (ES:Ext Z S) (nS:S.n=Z.n+1) (zS:S.A7 Z.n=some [str [],.int .i64 0,.int .i64 0,str [],.slice none 0 0]) (h1:Sc S b tv A1 k (.int .i64 0:: .int .i64 0::C8)) (hbl:b<Z.n) (C7:Ends A1) (hb:L b) (hL:∀ q,L q->q<Z.n) (g0:fr.get 0=some (.pointer (some ⟨b,0,none⟩))) (g2:fr.get 2=some (.pointer (some ⟨Z.n,0,none⟩))) (g3:fr.get 3=some (str (A9 A1 k).1)) (hF:∀ (M:Nat->Prop) (Z':St) (k' p':Nat),M b->(∀ q,M q->q<Z'.n)->k<k'->Sc Z' b tv A1 k' (.int .i64 0:: .int .i64 0::C8)->Ev (gO 171 [.pointer (some ⟨b,0,none⟩)] Z') (RfP M Z' b tv A1 C8 (F k' p')) ⟨⟩) (hB:∀ k' p',Bd k' p' (F k' p'))
  (h40:(A9 A1 k).1≠[40]) (hmm:(decide ((A9 A1 k).1=GJ)||decide ((A9 A1 k).1=HC))=true) (hd:DY F0 (A9 A1 k).1=false) :
  Ev (lim Tryz.prog HS none (faC [1,1,1,1]) fr S) (RrP L Z b tv A1 C8 (GI F A1 k p)) ⟨⟩:=by
 have hkl:=h1.k;have hkn:=h1.len;have e1:(k:Int)+1=((k+1:Nat):Int):=om;have hr:=h1.row;have hrr:=A6 hr;have hbn:b≠Z.n:=om;have hne:(A9 A1 k).1≠[]:=by intro e;rw[e]at hmm;cases hmm
 have hk1:=C7 k _ (I9 hkl) hne;unfold GI;rw[z0z (by rw[hd];simp),z0z h40,z1z hmm];obtain⟨X,hX⟩:=nm (faC [1,1,1,1,1]);rw[yw,hX];simp only[faC,Tryz.f212,J4,M0,BP,BQ,BR,BS];obtain⟨op,hop⟩:=nm ((A9 A1 k).1);rw[hop]at g3 hmm ⊢;have go1:∀ {fr:Fr}{Q:Res->Prop}{c:Code},True:=fun{fr Q c}=>trivial;have yY:(decide (op=[109,105,110])||decide (op=[109,97,120]))=true:=hmm;obtain⟨S1,hS1⟩:=nm (S.upd b (tv:: .int .i64 (k+1:Nat):: .int .i64 0:: .int .i64 0::C8));have X1:B9 b S S1:=by rw[<- hS1];exact B9.refl.upd _
 have n1:S1.n=S.n:=by rw[<- hS1];rfl
 have o1:S1.A7 b=some (tv:: .int .i64 (k+1:Nat):: .int .i64 0:: .int .i64 0::C8):=by rw[<- hS1];exact cL
 have sx:=h1.K4 X1 o1 hk1;have XS1:B9 b Z S1:=(B9.of ES).trans X1;have z1:=eT (X1.A7 om om) zS;cases m1:decide (op=[109,105,110])
 case' false=>
  have m2:decide (op=[109,97,120])=true:=by rw[m1,VD]at yY;exact yY
 case' true=>have m2:True:=trivial
 all_goals
  refine gV1 (aI g0 (aI g2 (aI g3 (aI m1 (aI m2 (aI hr (aI hrr (aI e1 hS1)))))))) ?_
  try rw[hS1]
  refine(Hh (w:=[40]) sx C7 (by simp)).mono ?_;rintro r ⟨Z2,rfl,X2,w2⟩;have n2:=X2.n;have XS2:=XS1.trans X2;have z2:=eT (X2.A7 om om) z1;cases hs1:X7 A1 [40] (k+1)with
  | error pe=>
    obtain⟨q,er⟩:=pe;rw[hs1]at w2;obtain⟨o2,BK⟩:=w2;have rr2:=A6 o2;have d0:decide (er=0)=false:=z4z BK;refine gV1 (aI g0 (aI g2 (aI rr2 (aI d0 z2)))) ?_;rw[D9];exact⟨_,_,_,rfl,fR1 g2,cL,RfP.err XS2 CX BK om hbn o2⟩
  | ok k1 =>
    rw[hs1]at w2;obtain⟨BI1,o2⟩:=w2;have rr2:=A6 o2;have BP8:=ER hs1;have sc2:=sx.K4 X2 o2 BI1;rw[C1];refine gV1 (aI g0 (aI g2 rr2)) ?_;refine(hF (fun q=>L q\/q=Z.n) Z2 k1 p (.inl hb) (by rintro q (hq|rfl);have:=hL q hq;omega;omega) om sc2).mono ?_;rintro r ⟨Z3,lY,e3,rfl,X3,f3,w3⟩;obtain⟨a1,a2,a3,a4,a5,rfl⟩:=f3.Bj;have n3:=X3.n;obtain⟨S3,hS3⟩:=nm (((Z3.new [str [],.int .i64 0,.int .i64 0,str [],.slice none 0 0] (some 35)).upd Z3.n [a1,a2,a3,a4,a5]));have E3:Ext Z3 S3:=by rw[<- hS3];exact eX
    have m3:S3.n=Z3.n+1:=by rw[<- hS3];rfl
    have XS3:B9 b Z S3:=(XS2.trans X3).trans (.of E3);have z3:=eT (E3.A7 om) (eT (X3.A7 om om) z2);have c3:S3.A7 Z3.n=some [a1,a2,a3,a4,a5]:=by rw[<- hS3];exact cL
    have fa3:L9 (fun q=>(L q\/q=Z.n)\/q=Z3.n) S3 [a1,a2,a3,a4,a5] e3:=f3.more E3 fun q hq=>by
     rcases hq with hq|rfl
     ·exact .inl hq
     ·exact .inr nL
    cases hF1:F k1 p with
    | error pe=>
      obtain⟨q,er⟩:=pe;rw[hF1]at w3;obtain⟨BK,k3,hk3,o3⟩:=w3;have q3:S3.A7 b=some _:=(E3.A7 om).trans o3;have rr3:=A6 q3;have d0:decide (er=0)=false:=z4z BK;refine gV1 (aI g0 (aI g2 (aI hS3 (aI rr3 (aI d0 z3))))) ?_;rw[D9];exact⟨_,_,_,rfl,fR1 g2,cL,RfP.err XS3 CX BK hk3 hbn q3⟩
    | ok x =>
      obtain⟨e3',d3,k2,p2⟩:=x;rw[hF1]at w3;obtain⟨rfl,hk2,o3⟩:=w3;have q3:S3.A7 b=some _:=(E3.A7 om).trans o3;have rr3:=A6 q3;have sc3:=h1.K4 (X1.trans (X2.trans (X3.trans (.of E3)))) q3 hk2;rw[C1];dsimp only;refine gV1 (aI g0 (aI g2 (aI hS3 rr3))) ?_
      try rw[hS3]
      refine(Hh (w:=[44]) sc3 C7 (by simp)).mono ?_;rintro r ⟨Z4,rfl,X4,w4⟩;have n4:=X4.n;have XS4:=XS3.trans X4;have z4:=eT (X4.A7 om om) z3;cases hs2:X7 A1 [44] k2 with
      | error pe=>
        obtain⟨q,er⟩:=pe;rw[hs2]at w4;obtain⟨o4,BK⟩:=w4;have rr4:=A6 o4;have d0:decide (er=0)=false:=z4z BK;refine gV1 (aI g0 (aI g2 (aI rr4 (aI d0 z4)))) ?_;rw[D9];exact⟨_,_,_,rfl,fR1 g2,cL,RfP.err XS4 CX BK hk2 hbn o4⟩
      | ok k3=>
        rw[hs2]at w4;obtain⟨BI2,o4⟩:=w4;have rr4:=A6 o4;have BP9:=ER hs2;have sc4:=sc3.K4 X4 o4 BI2;have kY:k<k3:=by have:=(hB _ _ _ _ _ _ hF1).1;omega
        rw[C1];refine gV1 (aI g0 (aI g2 rr4)) ?_;refine(hF (fun q=>(L q\/q=Z.n)\/q=Z3.n) Z4 k3 p2 (.inl (.inl hb)) (by rintro q ((hq|rfl)|rfl);have:=hL q hq;omega;omega;omega) kY sc4).mono ?_;rintro r ⟨Z5,gw,e5,rfl,X5,f5,w5⟩;obtain⟨b1,b2,b3,b4,b5,rfl⟩:=f5.Bj;have n5:=X5.n;obtain⟨S5,hS5⟩:=nm (((Z5.new [str [],.int .i64 0,.int .i64 0,str [],.slice none 0 0] (some 35)).upd Z5.n [b1,b2,b3,b4,b5]));have E5:Ext Z5 S5:=by rw[<- hS5];exact eX
        have m5:S5.n=Z5.n+1:=by rw[<- hS5];rfl
        have XS5:B9 b Z S5:=(XS4.trans X5).trans (.of E5);have z5':=eT (E5.A7 om) (eT (X5.A7 om om) z4);have c5:S5.A7 Z5.n=some [b1,b2,b3,b4,b5]:=by rw[<- hS5];exact cL
        have c35:=eT (E5.A7 om) (eT (X5.A7 om om) (eT (X4.A7 om om) c3));have fa5:L9 (fun q=>(L q\/q=Z.n)\/q=Z3.n) S5 [a1,a2,a3,a4,a5] e3:=((fa3.K4 X4 (.inl (.inl hb))).K4 X5 (.inl (.inl hb))).ext E5;have fb5:L9 (fun q=>(L q\/q=Z.n)\/q=Z3.n) S5 [b1,b2,b3,b4,b5] e5:=f5.ext E5
        -- the node,at the state before it is built
        have fin:∀ {T:St},B9 b S5 T->B9 b Z (T.new ([a1,a2,a3,a4,a5]++[b1,b2,b3,b4,b5]))/\L9 (fun q=>L q\/q=Z.n) (T.new ([a1,a2,a3,a4,a5]++[b1,b2,b3,b4,b5])) [str op,.int .i64 0,.int .i64 0,str [],.slice (some ⟨T.n,0,none⟩) 2 2] (.mk op 0 0 [] [e3,e5]):=fun{T} hT=>
         ⟨(XS5.trans hT).LL _,LK (lo:=T.n) (((fa5.K4 hT (.inl (.inl hb))).ext (.new _ _)).KO fun q hq=> .inl hq) (((fb5.K4 hT (.inl (.inl hb))).ext (.new _ _)).KO fun q hq=> .inl hq) nL (by simp) (M7 nL nL) (by
           have:=hT.n;rintro q (hq|rfl)
           ·have:=hL q hq;omega
           ·omega)⟩
        cases hF2:F k3 p2 with
        | error pe=>
          obtain⟨q,er⟩:=pe;rw[hF2]at w5;obtain⟨BK,k5,hk5,o5⟩:=w5;have q5:S5.A7 b=some _:=(E5.A7 om).trans o5;have rr5:=A6 q5;have d0:decide (er=0)=false:=z4z BK;have ca:=A6 c35;have cb:=A6 c5;refine gV1 (aI g0 (aI g2 (aI g3 (aI hS5 (aI rr5 (aI d0 (aI z5' (aI ca cb)))))))) ?_;rw[D9];obtain⟨y1,y2⟩:=fin (T:=S5) .refl;exact⟨_,_,_,rfl,fR1 g2,cL,RfP.err y1 y2 BK hk5 hbn (cL1 q5)⟩
        | ok x=>
          obtain⟨e5',d5,k4,p4⟩:=x;rw[hF2]at w5;obtain⟨rfl,hk4,o5⟩:=w5;have q5:S5.A7 b=some _:=(E5.A7 om).trans o5;have rr5:=A6 q5;have sc5:=sc4.K4 (X5.trans (.of E5)) q5 hk4;rw[C1];dsimp only;refine gV1 (aI g0 (aI g2 (aI hS5 rr5))) ?_
          try rw[hS5]
          refine(Hh (w:=[41]) sc5 C7 (by simp)).mono ?_;rintro r ⟨Z6,rfl,X6,w6⟩;have n6:=X6.n;have z6:=eT (X6.A7 om om) z5';have ca:Z6.row Z3.n=some [a1,a2,a3,a4,a5]:=A6 ((X6.A7 om om).trans c35);have cb:Z6.row Z5.n=some [b1,b2,b3,b4,b5]:=A6 ((X6.A7 om om).trans c5);obtain⟨y1,y2⟩:=fin X6;refine gV1 (aI g0 (aI g2 (aI g3 (aI z6 (aI ca cb))))) ?_;cases hs3:X7 A1 [41] k4 with
          | error pe=>
            obtain⟨q,er⟩:=pe;rw[hs3]at w6;obtain⟨o6,BK⟩:=w6;rw[D9];exact⟨_,_,_,rfl,fR1 g2,cL,RfP.err y1 y2 BK hk4 hbn (cL1 o6)⟩
          | ok k5=>
            rw[hs3]at w6;obtain⟨hk5,o6⟩:=w6;rw[C1];exact⟨_,_,_,rfl,fR1 g2,cL,RfP.okk y1 y2 hk5 hbn (cL1 o6)⟩
end
end
section
variable {L:Nat->Prop}{b:Nat}{Z S τ:St}{tv:Value}{A1:List Tok}{k p:Nat}{C8:List Value}{F:Nat->Nat->Except Er Fx}{fr:Fr}
def gZ (ES:Ext Z S) (nS:S.n=Z.n+1) (zS:S.A7 Z.n=some [str [],.int .i64 0,.int .i64 0,str [],.slice none 0 0]) (h1:Sc S b tv A1 k (.int .i64 0:: .int .i64 0::C8)) (hbl:b<Z.n) (C7:Ends A1) (hb:L b) (hL:∀ q,L q->q<Z.n) (g0:fr.get 0=some (.pointer (some ⟨b,0,none⟩))) (g2:fr.get 2=some (.pointer (some ⟨Z.n,0,none⟩))) (g3:fr.get 3=some (str (A9 A1 k).1)) (hF:∀ (M:Nat->Prop) (Z':St) (k' p':Nat),M b->(∀ q,M q->q<Z'.n)->k<k'->Sc Z' b tv A1 k' (.int .i64 0:: .int .i64 0::C8)->Ev (gO 171 [.pointer (some ⟨b,0,none⟩)] Z') (RfP M Z' b tv A1 C8 (F k' p')) ⟨⟩) (hB:∀ k' p',Bd k' p' (F k' p')) (hd:DY F0 (A9 A1 k).1=false) (hlen:(A9 A1 k).1.length<10000000) :
  Ev (lim Tryz.prog HS none (faC [1,1,1]) fr S) (RrP L Z b tv A1 C8 (GI F A1 k p)) ⟨⟩:=by
 have hkl:=h1.k;have hkn:=h1.len;have e1:(k:Int)+1=((k+1:Nat):Int):=om;have hr:=h1.row;have hrr:=A6 hr;have hbn:b≠Z.n:=om;obtain⟨Y,hY⟩:=nm (faC [1,1,1,1]);rw[AW0,hY];simp only[faC,Tryz.f212,J4,M0,BP,BQ,BR,BS];cases c40:decide ((A9 A1 k).1=[40])with
 | false=>
   have h40:=z9z c40;refine gS1 (aI g3 c40) ?_;rw[<- hY];cases hmm:(decide ((A9 A1 k).1=GJ)||decide ((A9 A1 k).1=HC))with
   |true=>exact(sw ES nS zS h1 hbl C7 hb hL (fR1 g0) (fR1 g2) (fR1 g3) hF hB h40 hmm hd).mono fun r hr=>hr
   | false=>
     obtain⟨Z,hZ⟩:=nm (faC [1,1,1,1,1]);rw[yw,hZ];simp only[faC,Tryz.f212,J4,M0,BP,BQ,BR,BS];have hm2:=hmm;rw[SK]at hm2;have m1:decide ((A9 A1 k).1=[109,105,110])=false:=hm2.1;have m2:decide ((A9 A1 k).1=[109,97,120])=false:=hm2.2;refine gS1 (aI g3 (aI m1 m2)) ?_;rw[<- hZ];exact(ga ES nS zS h1 hbl C7 hb hL (fR1 g0) (fR1 g2) (fR1 g3) h40 hmm hd hlen).mono fun r hr=>hr
 | true=>
   clear hY;have h40:=z6z c40;have hk1:=C7 k _ (I9 hkl) (by rw[h40];simp);unfold GI;rw[z0z (by rw[hd];simp),z1z h40];rw[h40]at g3;have c40:decide (([40]:By)=[40])=true:=rfl;obtain⟨S1,hS1⟩:=nm (S.upd b (tv:: .int .i64 (k+1:Nat):: .int .i64 0:: .int .i64 0::C8));have X1:B9 b S S1:=by rw[<- hS1];exact B9.refl.upd _
   have n1:S1.n=S.n:=by rw[<- hS1];rfl
   have o1:S1.A7 b=some (tv:: .int .i64 (k+1:Nat):: .int .i64 0:: .int .i64 0::C8):=by rw[<- hS1];exact cL
   have sx:=h1.K4 X1 o1 hk1;have XS1:B9 b Z S1:=(B9.of ES).trans X1;have z1:=eT (X1.A7 om om) zS;refine gV1 (aI g0 (aI g2 (aI g3 (aI c40 (aI hr (aI hrr (aI e1 hS1))))))) ?_
   try rw[hS1]
   refine(hF (fun q=>L q\/q=Z.n) S1 (k+1) p (.inl hb) (by rintro q (hq|rfl);have:=hL q hq;omega;omega) om sx).mono ?_;rintro r ⟨Z3,lY,e3,rfl,X3,f3,w3⟩;obtain⟨a1,a2,a3,a4,a5,rfl⟩:=f3.Bj;have n3:=X3.n;obtain⟨S3,hS3⟩:=nm (((Z3.new [str [],.int .i64 0,.int .i64 0,str [],.slice none 0 0] (some 35)).upd Z3.n [a1,a2,a3,a4,a5]));have E3:Ext Z3 S3:=by rw[<- hS3];exact eX
   have m3:S3.n=Z3.n+1:=by rw[<- hS3];rfl
   have XS3:B9 b Z S3:=(XS1.trans X3).trans (.of E3);have z3:=eT (E3.A7 om) (eT (X3.A7 om om) z1);have c3:S3.A7 Z3.n=some [a1,a2,a3,a4,a5]:=by rw[<- hS3];exact cL
   have fa3:L9 (fun q=>L q\/q=Z.n) S3 [a1,a2,a3,a4,a5] e3:=f3.ext E3;cases hF1:F (k+1) p with
   | error pe=>
     obtain⟨q,er⟩:=pe;rw[hF1]at w3;obtain⟨BK,k3,hk3,o3⟩:=w3;have q3:S3.A7 b=some _:=(E3.A7 om).trans o3;have rr3:=A6 q3;have rc3:=A6 c3;have d0:decide (er=0)=false:=z4z BK;refine gV1 (aI g0 (aI g2 (aI hS3 (aI rr3 (aI rc3 (aI d0 z3)))))) ?_;rw[D9];exact⟨_,_,_,rfl,fR1 g2,cL,RfP.err XS3 fa3 BK hk3 hbn q3⟩
   | ok x=>
     obtain⟨e3',d3,k2,p2⟩:=x;rw[hF1]at w3;obtain⟨rfl,hk2,o3⟩:=w3;have q3:S3.A7 b=some _:=(E3.A7 om).trans o3;have rr3:=A6 q3;have sc3:=h1.K4 (X1.trans (X3.trans (.of E3))) q3 hk2;rw[C1];dsimp only;refine gV1 (aI g0 (aI g2 (aI hS3 rr3))) ?_
     try rw[hS3]
     refine(Hh (w:=[41]) sc3 C7 (by simp)).mono ?_;rintro r ⟨Z6,rfl,X6,w6⟩;have n6:=X6.n;have z6:=eT (X6.A7 om om) z3;have ca:Z6.row Z3.n=some [a1,a2,a3,a4,a5]:=A6 ((X6.A7 om om).trans c3);have fa6:=fa3.K4 X6 (.inl hb);refine gV1 (aI g0 (aI g2 (aI z6 ca))) ?_;cases hs3:X7 A1 [41] k2 with
     | error pe=>
       obtain⟨q,er⟩:=pe;rw[hs3]at w6;obtain⟨o6,BK⟩:=w6;rw[D9];exact⟨_,_,_,rfl,fR1 g2,cL,RfP.err (XS3.trans X6) fa6 BK hk2 hbn o6⟩
     | ok k5=>
       rw[hs3]at w6;obtain⟨hk5,o6⟩:=w6;rw[C1];exact⟨_,_,_,rfl,fR1 g2,cL,RfP.okk (XS3.trans X6) fa6 hk5 hbn o6⟩
def AB9 (A1:List Tok):Prop:=∀ t∈A1,t.1.length<10000000/\(DY F0 t.1=true->∃ n,Vm n t.1)
def Zc (h:Sc Z b tv A1 k (.int .i64 0:: .int .i64 0::C8)) (C7:Ends A1) (lZ:AB9 A1) (hb:L b) (hL:∀ q,L q->q<Z.n) (hF:∀ (M:Nat->Prop) (Z':St) (k' p':Nat),M b->(∀ q,M q->q<Z'.n)->k<k'->Sc Z' b tv A1 k' (.int .i64 0:: .int .i64 0::C8)->Ev (gO 171 [.pointer (some ⟨b,0,none⟩)] Z') (RfP M Z' b tv A1 C8 (F k' p')) ⟨⟩) (hB:∀ k' p',Bd k' p' (F k' p')) :
  Ev (gO 212 [.pointer (some ⟨b,0,none⟩)] Z) (RfP L Z b tv A1 C8 (GI F A1 k p)) ⟨⟩:=by
 have hbl:=h.lt;have hkl:=h.k;obtain⟨hlen,hdt⟩:=lZ _ (W8 (I9 hkl));refine D0 (body:=faC []) Tryz.func212 kR rfl ?_;obtain⟨X,hX⟩:=nm (faC [1,1,1]);rw[AW1,AW2,AW3,hX];simp only[faC,Tryz.f212,J4,M0,BP,BQ,BR,BS];refine gS ?_;obtain⟨S,hS⟩:=nm (Z.new [str [],.int .i64 0,.int .i64 0,str [],.slice none 0 0] (some 35));have ES:Ext Z S:=by rw[<- hS];exact eX
 have nS:S.n=Z.n+1:=by rw[<- hS];rfl
 have zS:S.A7 Z.n=some [str [],.int .i64 0,.int .i64 0,str [],.slice none 0 0]:=by rw[<- hS];exact cL
 have h1:=h.ext ES;rw[hS];clear hS;refine(K5 h1).mono ?_;rintro r rfl;have last:∀ {fr:Fr},DY F0 (A9 A1 k).1=false->fr.get 0=some (.pointer (some ⟨b,0,none⟩))->fr.get 2=some (.pointer (some ⟨Z.n,0,none⟩))->fr.get 3=some (str (A9 A1 k).1)->Ev (lim Tryz.prog HS none X fr S) (RrP L Z b tv A1 C8 (GI F A1 k p)) ⟨⟩:=fun{fr} hd g0 g2 g3=>by
  rw[<- hX];exact gZ ES nS zS h1 hbl C7 hb hL g0 g2 g3 hF hB hd hlen
 clear hX;cases hs:(A9 A1 k).1 with
 | nil=>
   have d0:decide (([]:By)=[])=true:=rfl;refine gS1 d0 ?_;refine(last (by rw[hs];rfl) (fR) (fR) (by rw[hs];rfl)).mono ?_;rintro r ⟨fr',τ',row,rfl,b2,bz,hR⟩;obtain⟨Z9,sy,e9,hq,-,hf9,-⟩:=id hR;cases hq;obtain⟨y1,y2,y3,y4,y5,rfl⟩:=hf9.Bj;have bzr:=A6 bz;refine gS1 (aI b2 (aI bz (aI bzr @Tryz.results212))) ?_;exact hR
 | cons c w=>
   have d0:decide ((c::w:By)=[])=false:=rfl;have q1:sub (c::w) 0 1=some [c]:=rfl;have hdc:F0 (c.toNat:Int)=on F0 c:=rfl;refine gS1 (aI d0 (aI q1 @I4)) ?_;refine Cd.mono ?_;rintro r rfl;cases hd:on F0 c with
   | false=>
     refine gS1 (aI hdc @hd) ?_;refine(last (by rw[hs,Ek];exact hd) (fR) (fR) (by rw[hs];rfl)).mono ?_;rintro r ⟨fr',τ',row,rfl,b2,bz,hR⟩;obtain⟨Z9,sy,e9,hq,-,hf9,-⟩:=id hR;cases hq;obtain⟨y1,y2,y3,y4,y5,rfl⟩:=hf9.Bj;have bzr:=A6 bz;refine gS1 (aI b2 (aI bz (aI bzr @Tryz.results212))) ?_;exact hR
   | true=>
     have hh:DY F0 (A9 A1 k).1=true:=by rw[hs,Ek];exact hd
     obtain⟨n0,hn0⟩:=hdt hh;have eF:GI F A1 k p=Lx A1 k p:=by unfold GI;rw[z1z hh]
     rw[eF];refine gS1 (aI hdc @hd) ?_;refine(UI (L:=fun q=>L q\/q=Z.n) (p:=p) h1 C7 hlen hn0 (by rw[hs];simp)).mono ?_;rintro r ⟨Z3,lY,e3,rfl,X3,f3,w3⟩;obtain⟨a1,a2,a3,a4,a5,rfl⟩:=f3.Bj;have n3:=X3.n;have z3:=eT (X3.A7 om om) zS;have hbn:b≠Z.n:=om;refine gS1 (aI z3 @Tryz.results212) ?_;cases hD:Lx A1 k p with
     | error pe=>
       obtain⟨q,er⟩:=pe;rw[hD]at w3;obtain⟨BK,k3,hk3,o3⟩:=w3;exact RfP.err ((B9.of ES).trans X3) f3 BK hk3 hbn o3
     | ok x=>
       obtain⟨e3',d3,k2,p2⟩:=x;rw[hD]at w3;obtain⟨rfl,hk2,o3⟩:=w3;exact RfP.okk ((B9.of ES).trans X3) f3 hk2 hbn o3
end
end Go.Proofs.T
namespace Go.Proofs.T
open Go Go.Ab
open Nat (reduceMul reduceEqDiff reduceAdd)
def mG {t:By}:opB [42,47] t=(decide (t=[42])||decide (t=[47])):=by
 match t with
 | []=>rfl
 | [c]=>
   by_cases h1:c=42
   ·subst h1;rfl
   ·by_cases h2:c=47
    ·subst h2;rfl
    ·have e1:decide (([c]:By)=[42])=false:=z4z (by simp[h1]);have e2:decide (([c]:By)=[47])=false:=z4z (by simp[h2]);rw[e1,e2];show(!decide (Bh c [42,47]<0))=false;have k1:((42:UInt8)==c)=false:=by rw[Zj];exact fun h=>h1 h.symm
     have k2:((47:UInt8)==c)=false:=by rw[Zj];exact fun h=>h2 h.symm
     rw[Eo,Eo,k1,k2];rfl
 | c::d::r=>
   have e1:decide ((c::d::r:By)=[42])=false:=z4z (by simp);have e2:decide ((c::d::r:By)=[47])=false:=z4z (by simp);rw[e1,e2];rfl
def mH {t:By}:opB [43,45] t=(decide (t=[43])||decide (t=[45])):=by
 match t with
 | []=>rfl
 | [c]=>
   by_cases h1:c=43
   ·subst h1;rfl
   ·by_cases h2:c=45
    ·subst h2;rfl
    ·have e1:decide (([c]:By)=[43])=false:=z4z (by simp[h1]);have e2:decide (([c]:By)=[45])=false:=z4z (by simp[h2]);rw[e1,e2];show(!decide (Bh c [43,45]<0))=false;have k1:((43:UInt8)==c)=false:=by rw[Zj];exact fun h=>h1 h.symm
     have k2:((45:UInt8)==c)=false:=by rw[Zj];exact fun h=>h2 h.symm
     rw[Eo,Eo,k1,k2];rfl
 | c::d::r=>
   have e1:decide ((c::d::r:By)=[43])=false:=z4z (by simp);have e2:decide ((c::d::r:By)=[45])=false:=z4z (by simp);rw[e1,e2];rfl
section
variable {L:Nat->Prop}{b:Nat}{Z S τ:St}{tv:Value}{A1:List Tok}{k p:Nat}{C8:List Value}{A:Nat->Nat->Except Er Fx}
def ChJ (L:Nat->Prop) (Z:St) (x b:Nat) (tv:Value) (A1:List Tok) (C8:List Value) (A:Nat->Nat->Except Er Fx) (ops:By) (k:Nat) (R:Except Er Fx) (j:Nat) (Z':St):Prop :=
 ∃ row e,B9 b Z Z'/\x<Z'.n/\Z'.A7 x=some row/\Z'.A7 Z.n=some [str [],.int .i64 0,.int .i64 0,str [],.slice none 0 0]/\L9 (fun q=>(L q\/q=Z.n)\/q=x) Z' row e /\
  ((∃ d k' p',j=A1.length-k'/\k'<A1.length/\k<k'/\Z'.A7 b=some (tv:: .int .i64 (k':Nat):: .int .i64 0:: .int .i64 0::C8)/\Cz A ops A1 (A1.length-k') (e,d,k',p')=R) \/
   (∃ q er k',j=0/\R= .error (q,er)/\er≠0/\k'<A1.length/\Z'.A7 b=some (tv:: .int .i64 (k':Nat):: .int .i64 (q:Nat):: .int .i64 er::C8)))
def mI (h:Sc Z b tv A1 k (.int .i64 0:: .int .i64 0::C8)) (C7:Ends A1) (hb:L b) (hL:∀ q,L q->q<Z.n)
  (hA:∀ (M:Nat->Prop) (Z':St) (k' p':Nat),M b->(∀ q,M q->q<Z'.n)->k<=k'->Sc Z' b tv A1 k' (.int .i64 0:: .int .i64 0::C8)->Ev (gO 212 [.pointer (some ⟨b,0,none⟩)] Z') (RfP M Z' b tv A1 C8 (A k' p')) ⟨⟩)
  (hB:∀ k' p',Bd k' p' (A k' p')) :
  Ev (gO 195 [.pointer (some ⟨b,0,none⟩)] Z) (RfP L Z b tv A1 C8 (Bs A [42,47] A1 k p)) ⟨⟩:=by
 have hbl:=h.lt;have hkl:=h.k;have hkn:=h.len;have hbn:b≠Z.n:=om;refine D0 Tryz.func195 rfl rfl ?_;refine gS ?_;obtain⟨S,hS⟩:=nm (Z.new [str [],.int .i64 0,.int .i64 0,str [],.slice none 0 0] (some 35));have ES:Ext Z S:=by rw[<- hS];exact eX
 have nS:S.n=Z.n+1:=by rw[<- hS];rfl
 have zS:S.A7 Z.n=some [str [],.int .i64 0,.int .i64 0,str [],.slice none 0 0]:=by rw[<- hS];exact cL
 have h1:=h.ext ES;rw[hS];clear hS;refine(hA (fun q=>L q\/q=Z.n) S k p (.inl hb) (by rintro q (hq|rfl);have:=hL q hq;omega;omega) nL h1).mono ?_;rintro r ⟨Z3,lY,e3,rfl,X3,f3,w3⟩;obtain⟨a1,a2,a3,a4,a5,rfl⟩:=f3.Bj;have n3:=X3.n;obtain⟨S3,hS3⟩:=nm (((Z3.new [str [],.int .i64 0,.int .i64 0,str [],.slice none 0 0] (some 35)).upd Z3.n [a1,a2,a3,a4,a5]));have E3:Ext Z3 S3:=by rw[<- hS3];exact eX
 have m3:S3.n=Z3.n+1:=by rw[<- hS3];rfl
 have XS3:B9 b Z S3:=((B9.of ES).trans X3).trans (.of E3);have z3:=eT (E3.A7 om) (eT (X3.A7 om om) zS);have c3:S3.A7 Z3.n=some [a1,a2,a3,a4,a5]:=by rw[<- hS3];exact cL
 have fa3:L9 (fun q=>(L q\/q=Z.n)\/q=Z3.n) S3 [a1,a2,a3,a4,a5] e3:=f3.more E3 fun q hq=>by
  rcases hq with hq|rfl
  ·exact .inl hq
  ·exact .inr nL
 obtain⟨RR,hRR⟩:=nm (Bs A [42,47] A1 k p);have hJ0:∃ j,ChJ L Z Z3.n b tv A1 C8 A [42,47] k RR j S3:=by
  unfold Bs at hRR;cases hA1:A k p with
  | error pe=>
    obtain⟨q,er⟩:=pe;rw[hA1]at w3 hRR;obtain⟨BK,k3,hk3,o3⟩:=w3;exact⟨0,_,e3,XS3,om,c3,z3,fa3,.inr ⟨q,er,k3,rfl,by rw[<- hRR];rfl,BK,hk3,by rw[E3.A7 om];exact o3⟩⟩
  | ok x=>
    obtain⟨e3',d3,k3,p3⟩:=x;rw[hA1]at w3 hRR;obtain⟨rfl,hk3,o3⟩:=w3;exact⟨_,_,e3,XS3,om,c3,z3,fa3,.inl ⟨d3,k3,p3,rfl,hk3,(hB _ _ _ _ _ _ hA1).1,by rw[E3.A7 om];exact o3,by rw[<- hRR];rfl⟩⟩
 rw[hRR];refine gS1 hS3 ?_
 try rw[hS3]
 clear hS3 w3 hRR;obtain⟨j0,hJ0⟩:=hJ0
 refine V9 (fun j fr Z'=>fr.get 0=some (.pointer (some ⟨b,0,none⟩))/\fr.get 2=some (.pointer (some ⟨Z.n,0,none⟩))/\fr.get 3=some (.pointer (some ⟨Z3.n,0,none⟩))/\ChJ L Z Z3.n b tv A1 C8 A [42,47] k RR j Z')
  (fun r=>∃ fr Z' row e,r=⟨.exit 0,fr,Z'⟩/\fr.get 2=some (.pointer (some ⟨Z.n,0,none⟩))/\fr.get 3=some (.pointer (some ⟨Z3.n,0,none⟩))/\B9 b Z Z'/\Z3.n<Z'.n/\Z'.A7 Z3.n=some row/\Z'.A7 Z.n=some [str [],.int .i64 0,.int .i64 0,str [],.slice none 0 0]/\L9 (fun q=>(L q\/q=Z.n)\/q=Z3.n) Z' row e /\
    ((∃ d k' p',RR= .ok (e,d,k',p')/\k'<A1.length/\Z'.A7 b=some (tv:: .int .i64 (k':Nat):: .int .i64 0:: .int .i64 0::C8)) \/
     (∃ q er k',RR= .error (q,er)/\er≠0/\k'<A1.length/\Z'.A7 b=some (tv:: .int .i64 (k':Nat):: .int .i64 (q:Nat):: .int .i64 er::C8)))) j0 ?_ ?_ ?_
 ·exact⟨fR,fR,fR,hJ0⟩
 ·rintro j fr Z' ⟨g0,g2,g3,row,e,XE,hx,cx,zx,fx,hc⟩;have nE:=XE.n;rcases hc with⟨d,k',p',rfl,hk',hkk,ob,hch⟩|⟨q,er,k',rfl,hRe,BK,hk',ob⟩
  ·have rb:=A6 ob;have sc:=h.K4 XE ob hk';obtain⟨f,hff⟩:∃ f,A1.length-k'=f+1:=⟨A1.length-k'-1,om⟩
   rw[hff,AM,mG]at hch;have e1:(k':Int)+1=((k'+1:Nat):Int):=om;refine gV1 (aI g0 rb) ?_;refine(K5 sc).mono ?_;rintro r rfl;have stop:(decide ((A9 A1 k').1=[42])||decide ((A9 A1 k').1=[47]))=false->RR= .ok (e,d,k',p'):=fun hf=>by
    rw[z0z (by rw[hf];simp)]at hch;exact hch.symm
   -- the operator and FV follows
   have go1:(decide ((A9 A1 k').1=[42])||decide ((A9 A1 k').1=[47]))=true->k'+1<A1.length:=fun ht=>by
    refine C7 k' _ (I9 hk') fun e0=>?_;rw[e0]at ht;cases ht
   cases m1:decide ((A9 A1 k').1=[42])
   case' false=>
    refine gS1 (aI m1 g0) ?_;refine(K5 sc).mono ?_;rintro r rfl;cases m2:decide ((A9 A1 k').1=[47])
    case' false=>
     refine gS1 (aI m2 (a3N @G9 @H2 @Q9)) ?_;exact⟨_,_,row,e,rfl,fR1 g2,fR1 g3,XE,hx,cx,zx,fx,.inl ⟨d,k',p',stop (by rw[m1,m2];rfl),hk',ob⟩⟩
    case' true=>have hop:(decide ((A9 A1 k').1=[42])||decide ((A9 A1 k').1=[47]))=true:=by rw[m1,m2];rfl
   case' true=>
    have m2:True:=trivial;have hop:(decide ((A9 A1 k').1=[42])||decide ((A9 A1 k').1=[47]))=true:=by rw[m1];rfl
   all_goals
    have hk1:=go1 hop;rw[z1z hop]at hch;refine gS1 (aI m1 (aI m2 g0)) ?_;refine(K5 sc).mono ?_;rintro r rfl;obtain⟨op,Zk⟩:=nm ((A9 A1 k').1);obtain⟨S1,hS1⟩:=nm (Z'.upd b (tv:: .int .i64 (k'+1:Nat):: .int .i64 0:: .int .i64 0::C8));have X1:B9 b Z' S1:=by rw[<- hS1];exact B9.refl.upd _
    have n1:S1.n=Z'.n:=by rw[<- hS1];rfl
    have o1:S1.A7 b=some (tv:: .int .i64 (k'+1:Nat):: .int .i64 0:: .int .i64 0::C8):=by rw[<- hS1];exact cL
    have sc1:=h.K4 (XE.trans X1) o1 hk1;have hbx:b≠Z3.n:=om;simp(maxSteps:=8000000) (disch:=first|exact dS|fail) only[↓bD,bVn,↓bVd,reduceMul,reduceEqDiff,reduceAdd,Nat.reduceBEq,reduceIte,Option.isNone_none,g0,rb,ob,e1,hS1]
    try rw[hS1]
    refine(hA (fun q=>(L q\/q=Z.n)\/q=Z3.n) S1 (k'+1) p' (.inl (.inl hb)) (by rintro q ((hq|rfl)|rfl);have:=hL q hq;omega;omega;omega) om sc1).mono ?_;rintro r ⟨Z5,gw,e5,rfl,X5,f5,w5⟩;obtain⟨b1,b2,b3,b4,b5,rfl⟩:=f5.Bj;obtain⟨x1,x2,x3,x4,x5,rfl⟩:=fx.Bj;have n5:=X5.n;obtain⟨S5,hS5⟩:=nm (((Z5.new [str [],.int .i64 0,.int .i64 0,str [],.slice none 0 0] (some 35)).upd Z5.n [b1,b2,b3,b4,b5]));have E5:Ext Z5 S5:=by rw[<- hS5];exact eX
    have m5:S5.n=Z5.n+1:=by rw[<- hS5];rfl
    have XX:B9 b Z' S5:=(X1.trans X5).trans (.of E5);have XS5:B9 b Z S5:=XE.trans XX;have z5':=eT (XX.A7 om om) zx;have c5:S5.A7 Z5.n=some [b1,b2,b3,b4,b5]:=by rw[<- hS5];exact cL
    have c35:=eT (XX.A7 om om) cx;have fa5:L9 (fun q=>(L q\/q=Z.n)\/q=Z3.n) S5 [x1,x2,x3,x4,x5] e:=fx.K4 XX (.inl (.inl hb));have fb5:L9 (fun q=>(L q\/q=Z.n)\/q=Z3.n) S5 [b1,b2,b3,b4,b5] e5:=f5.ext E5;have ca:=A6 c35;have cb:=A6 c5;have y2:L9 (fun q=>(L q\/q=Z.n)\/q=Z3.n) ((S5.new ([x1,x2,x3,x4,x5]++[b1,b2,b3,b4,b5])).upd Z3.n [str op,.int .i64 0,.int .i64 0,str [],.slice (some ⟨S5.n,0,none⟩) 2 2]) [str op,.int .i64 0,.int .i64 0,str [],.slice (some ⟨S5.n,0,none⟩) 2 2] (.mk op 0 0 [] [e,e5]):=by
     refine(LK (lo:=S5.n) (fa5.ext (.new _ _)) (fb5.ext (.new _ _)) nL (by simp) (M7 nL nL) ?_).K4 (b:=Z3.n) (B9.upd .refl _) (.inr rfl);rintro q ((hq|rfl)|rfl)
     ·have:=hL q hq;omega
     ·omega
     ·omega
    have y1:B9 b Z ((S5.new ([x1,x2,x3,x4,x5]++[b1,b2,b3,b4,b5])).upd Z3.n [str op,.int .i64 0,.int .i64 0,str [],.slice (some ⟨S5.n,0,none⟩) 2 2]):=(XS5.LL _).As om _;refine gS1 (aI g0 (aI g2 (aI g3 (aI hS5 (aI ca (aI cb (aI c35 (aI Zk @H6)))))))) ?_
    try rw[Zk]
    cases hA2:A (k'+1) p' with
    | error pe=>
      obtain⟨q,er⟩:=pe;rw[hA2]at w5 hch;obtain⟨BK,k5,hk5,o5⟩:=w5;have q5:S5.A7 b=some _:=(E5.A7 om).trans o5;exact⟨0,om,fR1 g0,fR1 g2,fR1 g3,_,_,y1,by show Z3.n<S5.n+1;omega,cL,cL1 z5',y2,.inr ⟨q,er,k5,rfl,by rw[<- hch,D9],BK,hk5,cL1 q5⟩⟩
    | ok x=>
      obtain⟨e5',d5,k5,p5⟩:=x;rw[hA2]at w5 hch;obtain⟨rfl,hk5,o5⟩:=w5;have q5:S5.A7 b=some _:=(E5.A7 om).trans o5;have hb5:=(hB _ _ _ _ _ _ hA2).1;rw[C1]at hch;dsimp only at hch;rw[Zk]at hch
      exact⟨A1.length-k5,om,fR1 g0,fR1 g2,fR1 g3,_,_,y1,by show Z3.n<S5.n+1;omega,cL,cL1 z5',y2,.inl ⟨1+max d d5,k5,p5+1,rfl,hk5,om,cL1 q5,by
       rw[<- hch];exact JW (k0:=k) (fun k p _ e d k' p' hx=>(hB _ _ _ _ _ _ hx).1) _ _ _ _ _ _ om om om om fun k hk=>UR hk⟩⟩
  ·have rb:=A6 ob;have d0:decide (er=0)=false:=z4z BK;refine gV1 (aI g0 (aI rb (aI d0 (a3N @G9 @H2 @Q9)))) ?_;exact⟨_,_,row,e,rfl,fR1 g2,fR1 g3,XE,hx,cx,zx,fx,.inr ⟨q,er,k',hRe,BK,hk',ob⟩⟩
 ·rintro r ⟨fr,Z',row,e,rfl,g2,g3,XE,hx,cx,zx,fx,hc⟩;obtain⟨x1,x2,x3,x4,x5,rfl⟩:=fx.Bj;have rx:=A6 cx;have fx':L9 (fun q=>L q\/q=Z.n) Z' [x1,x2,x3,x4,x5] e:=fx.KO fun q hq=> .inl hq;refine gS1 (aI g2 (aI g3 (aI rx (aI zx @Tryz.results195)))) ?_;rcases hc with⟨d,k',p',hR,hk',ob⟩|⟨q,er,k',hR,BK,hk',ob⟩
  ·rw[hR];exact RfP.okk XE fx' hk' hbn ob
  ·rw[hR];exact RfP.err XE fx' BK hk' hbn ob
def tF (h:Sc Z b tv A1 k (.int .i64 0:: .int .i64 0::C8)) (C7:Ends A1) (hb:L b) (hL:∀ q,L q->q<Z.n)
  (hA:∀ (M:Nat->Prop) (Z':St) (k' p':Nat),M b->(∀ q,M q->q<Z'.n)->k<=k'->Sc Z' b tv A1 k' (.int .i64 0:: .int .i64 0::C8)->Ev (gO 195 [.pointer (some ⟨b,0,none⟩)] Z') (RfP M Z' b tv A1 C8 (A k' p')) ⟨⟩)
  (hB:∀ k' p',Bd k' p' (A k' p')) :
  Ev (gO 171 [.pointer (some ⟨b,0,none⟩)] Z) (RfP L Z b tv A1 C8 (Bs A [43,45] A1 k p)) ⟨⟩:=by
 have hbl:=h.lt;have hkl:=h.k;have hkn:=h.len;have hbn:b≠Z.n:=om;refine D0 Tryz.func171 rfl rfl ?_;refine gS ?_;obtain⟨S,hS⟩:=nm (Z.new [str [],.int .i64 0,.int .i64 0,str [],.slice none 0 0] (some 35));have ES:Ext Z S:=by rw[<- hS];exact eX
 have nS:S.n=Z.n+1:=by rw[<- hS];rfl
 have zS:S.A7 Z.n=some [str [],.int .i64 0,.int .i64 0,str [],.slice none 0 0]:=by rw[<- hS];exact cL
 have h1:=h.ext ES;rw[hS];clear hS;refine(hA (fun q=>L q\/q=Z.n) S k p (.inl hb) (by rintro q (hq|rfl);have:=hL q hq;omega;omega) nL h1).mono ?_;rintro r ⟨Z3,lY,e3,rfl,X3,f3,w3⟩;obtain⟨a1,a2,a3,a4,a5,rfl⟩:=f3.Bj;have n3:=X3.n;obtain⟨S3,hS3⟩:=nm (((Z3.new [str [],.int .i64 0,.int .i64 0,str [],.slice none 0 0] (some 35)).upd Z3.n [a1,a2,a3,a4,a5]));have E3:Ext Z3 S3:=by rw[<- hS3];exact eX
 have m3:S3.n=Z3.n+1:=by rw[<- hS3];rfl
 have XS3:B9 b Z S3:=((B9.of ES).trans X3).trans (.of E3);have z3:=eT (E3.A7 om) (eT (X3.A7 om om) zS);have c3:S3.A7 Z3.n=some [a1,a2,a3,a4,a5]:=by rw[<- hS3];exact cL
 have fa3:L9 (fun q=>(L q\/q=Z.n)\/q=Z3.n) S3 [a1,a2,a3,a4,a5] e3:=f3.more E3 fun q hq=>by
  rcases hq with hq|rfl
  ·exact .inl hq
  ·exact .inr nL
 obtain⟨RR,hRR⟩:=nm (Bs A [43,45] A1 k p);have hJ0:∃ j,ChJ L Z Z3.n b tv A1 C8 A [43,45] k RR j S3:=by
  unfold Bs at hRR;cases hA1:A k p with
  | error pe=>
    obtain⟨q,er⟩:=pe;rw[hA1]at w3 hRR;obtain⟨BK,k3,hk3,o3⟩:=w3;exact⟨0,_,e3,XS3,om,c3,z3,fa3,.inr ⟨q,er,k3,rfl,by rw[<- hRR];rfl,BK,hk3,by rw[E3.A7 om];exact o3⟩⟩
  | ok x=>
    obtain⟨e3',d3,k3,p3⟩:=x;rw[hA1]at w3 hRR;obtain⟨rfl,hk3,o3⟩:=w3;exact⟨_,_,e3,XS3,om,c3,z3,fa3,.inl ⟨d3,k3,p3,rfl,hk3,(hB _ _ _ _ _ _ hA1).1,by rw[E3.A7 om];exact o3,by rw[<- hRR];rfl⟩⟩
 rw[hRR];refine gS1 hS3 ?_
 try rw[hS3]
 clear hS3 w3 hRR;obtain⟨j0,hJ0⟩:=hJ0
 refine V9 (fun j fr Z'=>fr.get 0=some (.pointer (some ⟨b,0,none⟩))/\fr.get 2=some (.pointer (some ⟨Z.n,0,none⟩))/\fr.get 3=some (.pointer (some ⟨Z3.n,0,none⟩))/\ChJ L Z Z3.n b tv A1 C8 A [43,45] k RR j Z')
  (fun r=>∃ fr Z' row e,r=⟨.exit 0,fr,Z'⟩/\fr.get 2=some (.pointer (some ⟨Z.n,0,none⟩))/\fr.get 3=some (.pointer (some ⟨Z3.n,0,none⟩))/\B9 b Z Z'/\Z3.n<Z'.n/\Z'.A7 Z3.n=some row/\Z'.A7 Z.n=some [str [],.int .i64 0,.int .i64 0,str [],.slice none 0 0]/\L9 (fun q=>(L q\/q=Z.n)\/q=Z3.n) Z' row e /\
    ((∃ d k' p',RR= .ok (e,d,k',p')/\k'<A1.length/\Z'.A7 b=some (tv:: .int .i64 (k':Nat):: .int .i64 0:: .int .i64 0::C8)) \/
     (∃ q er k',RR= .error (q,er)/\er≠0/\k'<A1.length/\Z'.A7 b=some (tv:: .int .i64 (k':Nat):: .int .i64 (q:Nat):: .int .i64 er::C8)))) j0 ?_ ?_ ?_
 ·exact⟨fR,fR,fR,hJ0⟩
 ·rintro j fr Z' ⟨g0,g2,g3,row,e,XE,hx,cx,zx,fx,hc⟩;have nE:=XE.n;rcases hc with⟨d,k',p',rfl,hk',hkk,ob,hch⟩|⟨q,er,k',rfl,hRe,BK,hk',ob⟩
  ·have rb:=A6 ob;have sc:=h.K4 XE ob hk';obtain⟨f,hff⟩:∃ f,A1.length-k'=f+1:=⟨A1.length-k'-1,om⟩
   rw[hff,AM,mH]at hch;have e1:(k':Int)+1=((k'+1:Nat):Int):=om;refine gV1 (aI g0 rb) ?_;refine(K5 sc).mono ?_;rintro r rfl;have stop:(decide ((A9 A1 k').1=[43])||decide ((A9 A1 k').1=[45]))=false->RR= .ok (e,d,k',p'):=fun hf=>by
    rw[z0z (by rw[hf];simp)]at hch;exact hch.symm
   -- the operator and FV follows
   have go1:(decide ((A9 A1 k').1=[43])||decide ((A9 A1 k').1=[45]))=true->k'+1<A1.length:=fun ht=>by
    refine C7 k' _ (I9 hk') fun e0=>?_;rw[e0]at ht;cases ht
   cases m1:decide ((A9 A1 k').1=[43])
   case' false=>
    refine gS1 (aI m1 g0) ?_;refine(K5 sc).mono ?_;rintro r rfl;cases m2:decide ((A9 A1 k').1=[45])
    case' false=>
     refine gS1 (aI m2 (a3N @G9 @H2 @Q9)) ?_;exact⟨_,_,row,e,rfl,fR1 g2,fR1 g3,XE,hx,cx,zx,fx,.inl ⟨d,k',p',stop (by rw[m1,m2];rfl),hk',ob⟩⟩
    case' true=>have hop:(decide ((A9 A1 k').1=[43])||decide ((A9 A1 k').1=[45]))=true:=by rw[m1,m2];rfl
   case' true=>
    have m2:True:=trivial;have hop:(decide ((A9 A1 k').1=[43])||decide ((A9 A1 k').1=[45]))=true:=by rw[m1];rfl
   all_goals
    have hk1:=go1 hop;rw[z1z hop]at hch;refine gS1 (aI m1 (aI m2 g0)) ?_;refine(K5 sc).mono ?_;rintro r rfl;obtain⟨op,Zk⟩:=nm ((A9 A1 k').1);obtain⟨S1,hS1⟩:=nm (Z'.upd b (tv:: .int .i64 (k'+1:Nat):: .int .i64 0:: .int .i64 0::C8));have X1:B9 b Z' S1:=by rw[<- hS1];exact B9.refl.upd _
    have n1:S1.n=Z'.n:=by rw[<- hS1];rfl
    have o1:S1.A7 b=some (tv:: .int .i64 (k'+1:Nat):: .int .i64 0:: .int .i64 0::C8):=by rw[<- hS1];exact cL
    have sc1:=h.K4 (XE.trans X1) o1 hk1;have hbx:b≠Z3.n:=om;simp(maxSteps:=8000000) (disch:=first|exact dS|fail) only[↓bD,bVn,↓bVd,reduceMul,reduceEqDiff,reduceAdd,Nat.reduceBEq,reduceIte,Option.isNone_none,g0,rb,ob,e1,hS1]
    try rw[hS1]
    refine(hA (fun q=>(L q\/q=Z.n)\/q=Z3.n) S1 (k'+1) p' (.inl (.inl hb)) (by rintro q ((hq|rfl)|rfl);have:=hL q hq;omega;omega;omega) om sc1).mono ?_;rintro r ⟨Z5,gw,e5,rfl,X5,f5,w5⟩;obtain⟨b1,b2,b3,b4,b5,rfl⟩:=f5.Bj;obtain⟨x1,x2,x3,x4,x5,rfl⟩:=fx.Bj;have n5:=X5.n;obtain⟨S5,hS5⟩:=nm (((Z5.new [str [],.int .i64 0,.int .i64 0,str [],.slice none 0 0] (some 35)).upd Z5.n [b1,b2,b3,b4,b5]));have E5:Ext Z5 S5:=by rw[<- hS5];exact eX
    have m5:S5.n=Z5.n+1:=by rw[<- hS5];rfl
    have XX:B9 b Z' S5:=(X1.trans X5).trans (.of E5);have XS5:B9 b Z S5:=XE.trans XX;have z5':=eT (XX.A7 om om) zx;have c5:S5.A7 Z5.n=some [b1,b2,b3,b4,b5]:=by rw[<- hS5];exact cL
    have c35:=eT (XX.A7 om om) cx;have fa5:L9 (fun q=>(L q\/q=Z.n)\/q=Z3.n) S5 [x1,x2,x3,x4,x5] e:=fx.K4 XX (.inl (.inl hb));have fb5:L9 (fun q=>(L q\/q=Z.n)\/q=Z3.n) S5 [b1,b2,b3,b4,b5] e5:=f5.ext E5;have ca:=A6 c35;have cb:=A6 c5;have y2:L9 (fun q=>(L q\/q=Z.n)\/q=Z3.n) ((S5.new ([x1,x2,x3,x4,x5]++[b1,b2,b3,b4,b5])).upd Z3.n [str op,.int .i64 0,.int .i64 0,str [],.slice (some ⟨S5.n,0,none⟩) 2 2]) [str op,.int .i64 0,.int .i64 0,str [],.slice (some ⟨S5.n,0,none⟩) 2 2] (.mk op 0 0 [] [e,e5]):=by
     refine(LK (lo:=S5.n) (fa5.ext (.new _ _)) (fb5.ext (.new _ _)) nL (by simp) (M7 nL nL) ?_).K4 (b:=Z3.n) (B9.upd .refl _) (.inr rfl);rintro q ((hq|rfl)|rfl)
     ·have:=hL q hq;omega
     ·omega
     ·omega
    have y1:B9 b Z ((S5.new ([x1,x2,x3,x4,x5]++[b1,b2,b3,b4,b5])).upd Z3.n [str op,.int .i64 0,.int .i64 0,str [],.slice (some ⟨S5.n,0,none⟩) 2 2]):=(XS5.LL _).As om _;refine gS1 (aI g0 (aI g2 (aI g3 (aI hS5 (aI ca (aI cb (aI c35 (aI Zk @H6)))))))) ?_
    try rw[Zk]
    cases hA2:A (k'+1) p' with
    | error pe=>
      obtain⟨q,er⟩:=pe;rw[hA2]at w5 hch;obtain⟨BK,k5,hk5,o5⟩:=w5;have q5:S5.A7 b=some _:=(E5.A7 om).trans o5;exact⟨0,om,fR1 g0,fR1 g2,fR1 g3,_,_,y1,by show Z3.n<S5.n+1;omega,cL,cL1 z5',y2,.inr ⟨q,er,k5,rfl,by rw[<- hch,D9],BK,hk5,cL1 q5⟩⟩
    | ok x=>
      obtain⟨e5',d5,k5,p5⟩:=x;rw[hA2]at w5 hch;obtain⟨rfl,hk5,o5⟩:=w5;have q5:S5.A7 b=some _:=(E5.A7 om).trans o5;have hb5:=(hB _ _ _ _ _ _ hA2).1;rw[C1]at hch;dsimp only at hch;rw[Zk]at hch
      exact⟨A1.length-k5,om,fR1 g0,fR1 g2,fR1 g3,_,_,y1,by show Z3.n<S5.n+1;omega,cL,cL1 z5',y2,.inl ⟨1+max d d5,k5,p5+1,rfl,hk5,om,cL1 q5,by
       rw[<- hch];exact JW (k0:=k) (fun k p _ e d k' p' hx=>(hB _ _ _ _ _ _ hx).1) _ _ _ _ _ _ om om om om fun k hk=>UR hk⟩⟩
  ·have rb:=A6 ob;have d0:decide (er=0)=false:=z4z BK;refine gV1 (aI g0 (aI rb (aI d0 (a3N @G9 @H2 @Q9)))) ?_;exact⟨_,_,row,e,rfl,fR1 g2,fR1 g3,XE,hx,cx,zx,fx,.inr ⟨q,er,k',hRe,BK,hk',ob⟩⟩
 ·rintro r ⟨fr,Z',row,e,rfl,g2,g3,XE,hx,cx,zx,fx,hc⟩;obtain⟨x1,x2,x3,x4,x5,rfl⟩:=fx.Bj;have rx:=A6 cx;have fx':L9 (fun q=>L q\/q=Z.n) Z' [x1,x2,x3,x4,x5] e:=fx.KO fun q hq=> .inl hq;refine gS1 (aI g2 (aI g3 (aI rx (aI zx @Tryz.results171)))) ?_;rcases hc with⟨d,k',p',hR,hk',ob⟩|⟨q,er,k',hR,BK,hk',ob⟩
  ·rw[hR];exact RfP.okk XE fx' hk' hbn ob
  ·rw[hR];exact RfP.err XE fx' BK hk' hbn ob
def Vy (C7:Ends A1) (lZ:AB9 A1):∀ (f:Nat) (L:Nat->Prop) (Z:St) (k p:Nat),A1.length-k<=f->L b->(∀ q,L q->q<Z.n)->Sc Z b tv A1 k (.int .i64 0:: .int .i64 0::C8) ->
  Ev (gO 171 [.pointer (some ⟨b,0,none⟩)] Z) (RfP L Z b tv A1 C8 (LN A1 f k p)) ⟨⟩:=by
 intro f;induction f with
 |zero=>intro L Z k p hf hb hL h;have:=h.k;omega
 | succ f ih=>
   intro L Z k p hf hb hL h;refine tF (A:=fun k p=>Bs (GI (LN A1 f) A1) [42,47] A1 k p) h C7 hb hL ?_ fun k p=>Hk (fun k p=>IW (GN f) k p) k p;intro M Z' k' p' hM hML hk h';refine mI (A:=GI (LN A1 f) A1) h' C7 hM hML ?_ fun k p=>IW (GN f) k p;intro M2 Z2 k2 p2 hM2 Ar6 hk2 h2;refine Zc h2 C7 lZ hM2 Ar6 ?_ (GN f);intro M3 Z3 k3 p3 hM3 Ar7 hk3 h3;exact ih M3 Z3 k3 p3 (by have:=h2.k;omega) hM3 Ar7 h3
end
end Go.Proofs.T
namespace Go.Proofs.T
open Go Go.Ab
section
variable {k p a:Nat}{A:Nat->Nat->Except Er Fx}{ops t s:By}
def YO:∀ (l:By) (n:Nat),l.all (on F0)=true->W7 n l<(n+1)*10 ^ l.length
 | [],n,_=>by simp[W7]
 | c::l,n,h=>by
   rw[UT,y6]at h;have hc:=NJ h.1;have:=YO l (10*n+(c.toNat+208) % 256) h.2;have e:W7 n (c::l)=W7 (10*n+(c.toNat+208) % 256) l:=rfl;rw[e,Ah,GO];have e2:(c.toNat+208) % 256=c.toNat-48:=om;rw[e2]at this ⊢;refine z5z this ?_;have h3:10*n+(c.toNat-48)+1<=(n+1)*10:=om
   calc (10*n+(c.toNat-48)+1)*10 ^ l.length<=((n+1)*10)*10 ^ l.length:=UJ _ h3
    _=(n+1)*(10 ^ l.length*10):=by rw[EV,CG 10]
def xF {v:Nat}{rs:By}(hr:rs.all (on F0)=true) (hv:v<=1000000000) (hl:rs.length<=6) (h9:v<1000000000\/rs=[]):
  Ni (W7 v rs / Nat.gcd (W7 v rs) (10 ^ rs.length):Nat) (10 ^ rs.length / Nat.gcd (W7 v rs) (10 ^ rs.length):Nat):=by
 have hp0:0<10 ^ rs.length:=Wl om;have hN:W7 v rs<=1000000000*10 ^ rs.length:=by
  rcases h9 with h9|h9
  ·have h1:=YO rs v hr;have h2:(v+1)*10 ^ rs.length<=1000000000*10 ^ rs.length:=UJ _ om;omega
  ·subst h9;show v<=1000000000*10 ^ 0;omega
 have h6:10 ^ rs.length∣1000000:=by
  have e:(1000000:Nat)=10 ^ rs.length*10 ^ (6-rs.length):=by rw[<- qU];have:rs.length+(6-rs.length)=6:=om
                                                             rw[this]
  exact⟨_,e⟩
 generalize W7 v rs=N at *;generalize 10 ^ rs.length=D at *;have XL:=zL (n:=(N:Nat)) (d:=(D:Nat)) om;rw[fA.1,fA.2]at XL;obtain⟨g,hg⟩:=nm (Nat.gcd N D);have hg0:0<g:=by rw[<- hg];exact cu _ hp0
 obtain⟨n',hn'⟩:g∣N:=by rw[<- hg];exact Nat.gcd_dvd_left _ _
 obtain⟨d',hd'⟩:g∣D:=by rw[<- hg];exact Nat.gcd_dvd_right _ _
 rw[hg]at XL ⊢;have e1:N / g=n':=by rw[hn',zo _ hg0]
 have e2:D / g=d':=by rw[hd',zo _ hg0]
 rw[e1,e2]at XL ⊢;refine qV XL.1 XL.2 om ?_ ?_
 ·obtain⟨c,hc⟩:=h6;have:(1000000:Nat)=d'*(g*c):=by rw[hc,hd',CG g d',EV]
  have h7:1000000 % d'=0:=Nat.mod_eq_zero_of_dvd ⟨_,this⟩;have:((1000000 % d':Nat):Int)=0:=by rw[h7];rfl
  exact this
 ·have h8:g*n'<=g*(1000000000*d'):=by
   rw[<- hn',<- EV,CG g 1000000000,EV,<- hd'];exact hN
  have:=Nat.le_of_mul_le_mul_left h8 hg0;omega
def YP (A1:List Tok):Prop:=∀ t∈A1,DY F0 t.1=true->∃ n,Vm n t.1/\(t.1.drop (n+1)).all (on F0)=true
def YP.Ax3 {A1:List Tok}(h:YP A1) (hl:Gf A1):AB9 A1:=fun t ht=>⟨hl t ht,fun hd=>by obtain⟨n,h1,-⟩:=h t ht hd;exact⟨n,h1⟩⟩
section
variable {A1:List Tok}
def Rd1 (A1:List Tok) (p:Nat) (R:Except Er Fx):Prop:=(∀ e d k p',R= .ok (e,d,k,p')->p<=p'/\FW d (p'-p) e/\k<A1.length)/\∀ q er,R= .error (q,er)->er≠0
def Oi {w:By}(C7:Ends A1) (hw:w≠[]) (hk:k<A1.length):(∀ k',X7 A1 w k= .ok k'->k'=k+1/\k'<A1.length)/\∀ q er,X7 A1 w k= .error (q,er)->er≠0:=by
 unfold X7;by_cases h:(A9 A1 k).1=w
 ·rw[z1z h];exact⟨fun k' e=>by cases e;exact⟨rfl,C7 k _ (I9 hk) (by rw[h];exact hw)⟩,fun q er e=>by cases e⟩
 ·rw[z0z h];exact⟨fun k' e=>by(cases e),fun q er e=>by cases e;omega⟩
def AN6 (C7:Ends A1) (hd:YP A1)(hk:k<A1.length) (hh:DY F0 (A9 A1 k).1=true):Rd1 A1 p (Lx A1 k p):=by
 obtain⟨n,h1,h2⟩:=hd _ (W8 (I9 hk)) hh;have gR:=fO h1;have hne:(A9 A1 k).1≠[]:=by intro e;rw[e]at hh;cases hh
 have hk1:=C7 k _ (I9 hk) hne;unfold Lx;rw[gR];dsimp only;split
 ·split
  ·rename_i c1 c2;simp only[y6,IJ,IK]at c2;refine⟨fun e d k' p' e=>?_,fun q er e=>by cases e⟩;cases e;refine⟨om,?_,hk1⟩;rw[show p+1-p=1 by omega];exact .num (xF h2 c2.1.1 c2.1.2 c2.2)
  ·exact⟨fun e d k' p' e=>by(cases e),fun q er e=>by cases e;omega⟩
 ·exact⟨fun e d k' p' e=>by(cases e),fun q er e=>by cases e;omega⟩
def AN7 {F:Nat->Nat->Except Er Fx}(C7:Ends A1) (hd:YP A1)(hk:k<A1.length) (hF:∀ k' p',k<k'->k'<A1.length->Rd1 A1 p' (F k' p')) (hB:∀ k p,Bd k p (F k p)):Rd1 A1 p (GI F A1 k p):=by
 have nx:(A9 A1 k).1≠[]->k+1<A1.length:=C7 k _ (I9 hk);unfold GI;split
 ·rename_i h;exact AN6 C7 hd hk h
 ·split
  ·rename_i h;have hk1:=nx (by rw[h];simp);obtain⟨f1,f2⟩:=hF (k+1) p om hk1;cases hR:F (k+1) p with
   |error pe=>obtain⟨q,er⟩:=pe;rw[D9];exact⟨fun e d k' p' e=>by(cases e),fun q' er' e=>by cases e;exact f2 _ _ hR⟩
   | ok x=>
     obtain⟨e1,d1,k1,p1⟩:=x;obtain⟨a1,a2,a3⟩:=f1 _ _ _ _ hR;rw[C1];dsimp only;obtain⟨s1,s2⟩:=Oi (w:=[41]) C7 (by simp) a3;cases hs:X7 A1 [41] k1 with
     |error pe=>obtain⟨q,er⟩:=pe;rw[D9];exact⟨fun e d k' p' e=>by(cases e),fun q' er' e=>by cases e;exact s2 _ _ hs⟩
     | ok k2=>
       rw[C1];exact⟨fun e d k' p' e=>by cases e;exact⟨a1,a2,(s1 _ hs).2⟩,fun q' er' e=>by(cases e)⟩
  ·split
   ·rename_i h40 hmm;have hne:(A9 A1 k).1≠[]:=by intro e;rw[e]at hmm;cases hmm
    have hk1:=nx hne;obtain⟨s1,s2⟩:=Oi (w:=[40]) C7 (by simp) hk1;cases hs:X7 A1 [40] (k+1)with
    |error pe=>obtain⟨q,er⟩:=pe;rw[D9];exact⟨fun e d k' p' e=>by(cases e),fun q' er' e=>by cases e;exact s2 _ _ hs⟩
    | ok k1 =>
      obtain⟨rfl,hl1⟩:=s1 _ hs;rw[C1];obtain⟨f1,f2⟩:=hF (k+1+1) p om hl1;cases hR:F (k+1+1) p with
      |error pe=>obtain⟨q,er⟩:=pe;rw[D9];exact⟨fun e d k' p' e=>by(cases e),fun q' er' e=>by cases e;exact f2 _ _ hR⟩
      | ok x=>
        obtain⟨e1,d1,k2,p2⟩:=x;obtain⟨a1,a2,a3⟩:=f1 _ _ _ _ hR;have b1:=(hB _ _ _ _ _ _ hR).1;rw[C1];dsimp only;obtain⟨s3,s4⟩:=Oi (w:=[44]) C7 (by simp) a3;cases hs2:X7 A1 [44] k2 with
        |error pe=>obtain⟨q,er⟩:=pe;rw[D9];exact⟨fun e d k' p' e=>by(cases e),fun q' er' e=>by cases e;exact s4 _ _ hs2⟩
        | ok k3=>
          obtain⟨rfl,hl3⟩:=s3 _ hs2;rw[C1];obtain⟨f3,f4⟩:=hF (k2+1) p2 om hl3;cases hR2:F (k2+1) p2 with
          |error pe=>obtain⟨q,er⟩:=pe;rw[D9];exact⟨fun e d k' p' e=>by(cases e),fun q' er' e=>by cases e;exact f4 _ _ hR2⟩
          | ok x=>
            obtain⟨e4,d4,k4,p4⟩:=x;obtain⟨c1,c2,c3⟩:=f3 _ _ _ _ hR2;rw[C1];dsimp only;obtain⟨s5,s6⟩:=Oi (w:=[41]) C7 (by simp) c3;cases hs3:X7 A1 [41] k4 with
            |error pe=>obtain⟨q,er⟩:=pe;rw[D9];exact⟨fun e d k' p' e=>by(cases e),fun q' er' e=>by cases e;exact s6 _ _ hs3⟩
            | ok k5=>
              rw[C1];refine⟨fun e d k' p' e=>?_,fun q' er' e=>by(cases e)⟩;cases e;refine⟨om,?_,(s5 _ hs3).2⟩;rw[show p4+1-p=(p2-p)+(p4-p2)+1 by omega];refine .mm ?_ a2 c2;rw[IJ,z3z,z3z]at hmm;exact hmm
   ·rename_i hmm;split
    ·rename_i hn;have hk1:=nx (by intro e;rw[e]at hn;cases hn);refine⟨fun e d k' p' e=>?_,fun q' er' e=>by(cases e)⟩;cases e;refine⟨om,?_,hk1⟩;rw[show p+1-p=1 by omega];rw[dL,SK,Gz,Gz]at hmm;exact .name hn hmm.1 hmm.2
    ·exact⟨fun e d k' p' e=>by(cases e),fun q er e=>by cases e;omega⟩
def kG (C7:Ends A1) (hop:∀ t,opB ops t=true->t=[43]\/t=[45]\/t=[42]\/t=[47]){k0:Nat}(hA:∀ k p,k0<k->k<A1.length->Rd1 A1 p (A k p)) (hB:∀ k p,Bd k p (A k p)):
  ∀ (f:Nat) (e:Ex) (d k p p0:Nat),k0<=k->k<A1.length->p0<=p->FW d (p-p0) e->Rd1 A1 p0 (Cz A ops A1 f (e,d,k,p)):=by
 intro f;induction f with
 |zero=>intro e d k p p0 h0 hk hp hf;exact⟨fun e d k' p' e=>by cases e;exact⟨hp,hf,hk⟩,fun q er e=>by(cases e)⟩
 | succ f ih=>
   intro e d k p p0 h0 hk hp hf;rw[AM];by_cases ho:opB ops (A9 A1 k).1=true
   ·rw[z1z ho];have hk1:=C7 k _ (I9 hk) (AN8 ho);obtain⟨f1,f2⟩:=hA (k+1) p om hk1;cases hR:A (k+1) p with
    |error pe=>obtain⟨q,er⟩:=pe;rw[D9];exact⟨fun e d k' p' e=>by(cases e),fun q' er' e=>by cases e;exact f2 _ _ hR⟩
    | ok x=>
      obtain⟨e1,d1,k1,p1⟩:=x;obtain⟨a1,a2,a3⟩:=f1 _ _ _ _ hR;have b1:=(hB _ _ _ _ _ _ hR).1;rw[C1];dsimp only;refine ih _ _ _ _ p0 om a3 om ?_;rw[show p1+1-p0=(p-p0)+(p1-p)+1 by omega];exact .bin (hop _ ho) hf a2
   ·rw[z0z ho];exact⟨fun e d k' p' e=>by cases e;exact⟨hp,hf,hk⟩,fun q er e=>by(cases e)⟩
def YQ (C7:Ends A1) (hop:∀ t,opB ops t=true->t=[43]\/t=[45]\/t=[42]\/t=[47])(hk:k<A1.length) (hA:∀ k' p',k<=k'->k'<A1.length->Rd1 A1 p' (A k' p')) (hB:∀ k p,Bd k p (A k p)):Rd1 A1 p (Bs A ops A1 k p):=by
 unfold Bs;obtain⟨f1,f2⟩:=hA k p nL hk;cases hR:A k p with
 |error pe=>obtain⟨q,er⟩:=pe;rw[D9];exact⟨fun e d k' p' e=>by(cases e),fun q' er' e=>by cases e;exact f2 _ _ hR⟩
 | ok x=>
   obtain⟨e1,d1,k1,p1⟩:=x;obtain⟨a1,a2,a3⟩:=f1 _ _ _ _ hR;have b1:=(hB _ _ _ _ _ _ hR).1;rw[C1];exact kG (k0:=k) C7 hop (fun k' p' h1 h2=>hA k' p' om h2) hB _ _ _ _ _ _ om a3 a1 a2
def AN9 (h:opB [42,47] t=true):t=[43]\/t=[45]\/t=[42]\/t=[47]:=by
 rw[mG,IJ,z3z,z3z]at h;rcases h with h|h<;>simp[h]
def AO0 (h:opB [43,45] t=true):t=[43]\/t=[45]\/t=[42]\/t=[47]:=by
 rw[mH,IJ,z3z,z3z]at h;rcases h with h|h<;>simp[h]
def qW (C7:Ends A1) (hd:YP A1):∀ (f k p:Nat),A1.length-k<=f->k<A1.length->Rd1 A1 p (LN A1 f k p):=by
 intro f;induction f with
 |zero=>intro k p h1 h2;omega
 | succ f ih=>
   intro k p h1 h2;refine YQ C7 (fun t=>AO0) h2 (fun k' p' h3 h4=>?_) fun k p=>Hk (fun k p=>IW (GN f) k p) k p;refine YQ C7 (fun t=>AN9) h4 (fun k2 p2 h5 h6=>?_) fun k p=>IW (GN f) k p;exact AN7 C7 hd h6 (fun k3 p3 h7 h8=>ih k3 p3 om h8) (GN f)
def eJ (C7:Ends A1) (hd:YP A1) (h0:0<A1.length){q:Nat}{er:Int}(h:Ke A1= .error (q,er)):er≠0:=by
 obtain⟨f1,f2⟩:=qW C7 hd A1.length 0 0 om h0;unfold Ke at h;cases hR:LN A1 A1.length 0 0 with
 |error pe=>obtain⟨q',er'⟩:=pe;rw[hR,D9]at h;cases h;exact f2 _ _ hR
 | ok x=>
   obtain⟨e,d,k,p⟩:=x;rw[hR,C1]at h;dsimp only at h;split at h
   ·split at h
    ·cases h;omega
    ·cases h
   ·cases h;omega
end
def AO1:∀ (f k:Nat),∀ t∈fT s a f k,DY F0 t.1=true->∃ n,Vm n t.1/\(t.1.drop (n+1)).all (on F0)=true:=by
 intro f;induction f with
 |zero=>intro k t ht;unfold fT at ht;cases ht
 | succ f ih=>
   intro k t ht hh;unfold fT at ht;cases hc:s[k]? with
   |none=>rw[hc]at ht;cases ht
   | some c=>
     rw[hc]at ht;dsimp only at ht;split at ht
     ·exact ih _ t ht hh
     ·rcases BJ.1 ht with rfl|ht
      ·dsimp only at hh ⊢;have OS:=Mn hc;obtain⟨hk1,hk2⟩:=List.getElem?_eq_some_iff.1 hc;obtain⟨m,hm⟩:∃ m,L7 s k c=k+m:=⟨L7 s k c-k,om⟩
       rw[hm,zp]at hh ⊢;have tl:((s.drop k).take m).length=m:=by rw[Dh,Ei];omega
       have tg:∀ j,j<m->((s.drop k).take m)[j]? =s[k+j]? :=fun j hj=>by rw[List.getElem?_take,z1z hj,List.getElem?_drop]
       have h0:((s.drop k).take m)[0]? =some c:=by rw[tg 0 om];exact hc
       have hcd:on F0 c=true:=by
        cases ht:(s.drop k).take m with
        |nil=>rw[ht]at h0;cases h0
        |cons x w=>rw[ht]at h0 hh;cases h0;exact hh
       have hcl:on Di c=false:=by
        cases h:on Di c
        ·rfl
        ·rw[fP h]at hcd;cases hcd
       have hq:L7 s k c=if (decide (k+I0 F0 s k<s.length)&&decide (s[k+I0 F0 s k]? =some 46)&&decide (k+I0 F0 s k+1<min (k+I0 F0 s k+1) s.length+I0 F0 s (min (k+I0 F0 s k+1) s.length)))=true
         then min (k+I0 F0 s k+1) s.length+I0 F0 s (min (k+I0 F0 s k+1) s.length)else k+I0 F0 s k:=by
        unfold L7;rw[z0z (by rw[hcl];simp),z1z hcd]
       have n46:∀ {x:UInt8},on F0 x=true->x≠46:=fun{x} h e=>by rw[e]at h;exact absurd h (by decide)
       rw[hm]at hq;split at hq
       ·rename_i hx;rw[y6,y6,z3z,z3z,z3z]at hx;obtain⟨⟨x1,x2⟩,x3⟩:=hx;rw[Um om]at hq x3;obtain⟨r,hr⟩:=nm (I0 F0 s k);rw[hr]at hq x1 x2 x3;refine⟨r,⟨om,fun j x hj=>?_⟩,?_⟩
        ·have hjm:j<m:=by
          have:=(List.getElem?_eq_some_iff.1 hj).1;omega
         rw[tg j hjm]at hj;rcases aZ j r with h|h|h
         ·obtain⟨y,hy,hy2⟩:=HU (p:=F0) (s:=s) (k:=k) (j:=j) om;rw[hj]at hy;cases hy;exact⟨fun e=>absurd e (n46 hy2),fun e=>om⟩
         ·subst h;rw[x2]at hj;cases hj;exact⟨fun _=>rfl,fun _=>rfl⟩
         ·obtain⟨y,hy,hy2⟩:=HU (p:=F0) (s:=s) (k:=k+r+1) (j:=j-(r+1)) om;rw[show k+r+1+(j-(r+1))=k+j by omega,hj]at hy;cases hy;exact⟨fun e=>absurd e (n46 hy2),fun e=>om⟩
        ·rw[HA];intro x hx;obtain⟨i,hi⟩:=WI.1 hx;rw[List.getElem?_drop]at hi;have him:r+1+i<m:=by
          have:=(List.getElem?_eq_some_iff.1 hi).1;omega
         rw[tg _ him]at hi;obtain⟨y,hy,hy2⟩:=HU (p:=F0) (s:=s) (k:=k+r+1) (j:=i) om;rw[show k+r+1+i=k+(r+1+i) by omega,hi]at hy;cases hy;exact hy2
       ·refine⟨m,⟨om,fun j x hj=>?_⟩,by rw[Ti om];rfl⟩;have hjm:j<m:=by
         have:=(List.getElem?_eq_some_iff.1 hj).1;omega
        rw[tg j hjm]at hj;obtain⟨y,hy,hy2⟩:=HU (p:=F0) (s:=s) (k:=k) (j:=j) om;rw[hj]at hy;cases hy;exact⟨fun e=>absurd e (n46 hy2),fun e=>om⟩
      ·exact ih _ t ht hh
def NV:YP (CE s a):=by
 intro t ht hh;unfold CE at ht;rcases DK.1 ht with ht|ht
 ·exact AO1 _ _ t ht hh
 ·rw[GK]at ht;subst ht;cases hh
end
def z5:List Value:=[str [],.int .i64 0,.int .i64 0,str [],.slice none 0 0]
def FcP (Z:St) (c:Nat) (R:Except Er Ex) (r:CR):Prop:=match R with
 | .ok e=>∃ Z' row,r=⟨false,.tuple ⟨[]⟩,Z'⟩/\B9 c Z Z'/\Z'.A7 c=some row/\L9 (fun q=>q<Z.n) Z' row e
 | .error (p,e)=>∃ Z',r=⟨true,fault p e,Z'⟩/\Ext Z Z'
def FoP (Z:St) (R:Except Er Ex) (r:CR):Prop:=match R with
 | .ok e=>∃ Z' row,r=⟨false,.tuple ⟨[.agg ⟨row⟩,.int .i64 0,.int .i64 0]⟩,Z'⟩/\Ext Z Z'/\L9 (fun q=>q<Z.n) Z' row e
 | .error (p,e)=>∃ Z',r=⟨false,.tuple ⟨[.agg ⟨z5⟩,.int .i64 (p:Nat),.int .i64 e]⟩,Z'⟩/\Ext Z Z'
def oZ {Z:St}{s:By}{from' to:Nat}{A1:List Tok}(hft:from'<=to) (hto:to<=s.length) (hs:s.length<10000000) (ht:fT (s.take to) 0 (to-from') from'++[([],to)]=A1) (C7:Ends A1) (An9:YP A1) (hsh:Gf A1) :
  Ev (gO 132 [str s,.int .i64 (from':Nat),.int .i64 (to:Nat)] Z) (FoP Z (Ke A1)) ⟨⟩:=by
 refine D0 Tryz.func132 rfl rfl ?_;have dN:0<A1.length:=by rw[<- ht];simp
 have BL2:A1.length<=10000001:=by
  have:=UX (s:=s.take to) (from':=0) (to-from') from'
  rw[<- ht,BD,cj];rw[Dh]at this;omega
 refine gS ?_;refine(cR hft hto hs).mono ?_;rw[ht];rintro r ⟨fv,Z1,rfl,hol,hE1⟩;obtain⟨fa,rfl⟩:=OL.shape hol;rw[z2z]at *;have n1:=hE1.n;simp only[N8]at n1;have AD3:=OL.sl hol;have BI0:I2 (.slice fa A1.length A1.length)≠some Z1.n:=fun e=>by have:=(hol.blk e).2;omega
 refine gV1 (aI @EO @EP) ?_;obtain⟨S,hS⟩:=nm (Z1.new [.slice fa A1.length A1.length,.int .i64 0,.int .i64 0,.int .i64 0]);have E1:Ext Z1 S:=by rw[<- hS];exact eX
 have ES:Ext Z S:=(Ext.trans (.new _ _) hE1).trans E1;have nS:S.n=Z1.n+1:=by rw[<- hS];rfl
 have zS:S.A7 Z.n=some [str [],.int .i64 0,.int .i64 0,str [],.slice none 0 0]:=eT (E1.A7 om) (eT (hE1.A7 (by simp)) cL);have oS:S.A7 Z1.n=some [.slice fa A1.length A1.length,.int .i64 (0:Nat),.int .i64 0,.int .i64 0]:=by rw[<- hS];exact cL
 have h:Sc S Z1.n (.slice fa A1.length A1.length) A1 0 [.int .i64 0,.int .i64 0]:=⟨oS,om,AD3.mono E1,BI0,dN,om⟩
 try rw[hS]
 clear hS;obtain⟨rd1,rd2⟩:=qW C7 An9 A1.length 0 0 om dN;refine(Vy (C8:=[]) C7 (An9.Ax3 hsh) A1.length (fun q=>q<S.n) S 0 0 om om (fun q hq=>hq) h).mono ?_;rintro r ⟨Z3,lY,e3,rfl,X3,f3,w3⟩;obtain⟨a1,a2,a3,a4,a5,rfl⟩:=f3.Bj;have n3:=X3.n;obtain⟨S3,hS3⟩:=nm (((Z3.new [str [],.int .i64 0,.int .i64 0,str [],.slice none 0 0] (some 35)).upd Z3.n [a1,a2,a3,a4,a5]));have E3:Ext Z3 S3:=by rw[<- hS3];exact eX
 have m3:S3.n=Z3.n+1:=by rw[<- hS3];rfl
 have XS3:B9 Z1.n S S3:=X3.trans (.of E3);have c3:S3.A7 Z3.n=some [a1,a2,a3,a4,a5]:=by rw[<- hS3];exact cL
 have rc3:=A6 c3;have fa3:L9 (fun q=>q<S.n) S3 [a1,a2,a3,a4,a5] e3:=f3.ext E3;have hbn:Z1.n≠Z.n:=om;unfold Ke;cases hF1:LN A1 A1.length 0 0 with
 | error pe=>
   obtain⟨q,er⟩:=pe;rw[hF1]at w3;obtain⟨BK,k3,hk3,o3⟩:=w3;have q3:S3.A7 Z1.n=some _:=(E3.A7 om).trans o3;have rr3:=A6 q3;have d0:decide (er=0)=false:=z4z BK;rw[D9];refine gV1 (aI @EO (aI @EP (aI hS3 (aI rr3 d0)))) ?_
   try rw[hS3]
   have rb9:=A6 q3;have d9:decide (er=0)=false:=d0;have z9:=eT (XS3.A7 om om) zS;refine gV1 (aI @EO (aI @EP (aI rb9 (aI d9 (aI z9 (a3N @G9 @H2 @Tryz.results132)))))) ?_
   try refine Ar.intro (by(repeat first|simp(disch:=omega) only[DH,Gc,Bq,asx (Ext.refl _)]|rw[IT (by kernel_rfl)]);first|done|rfl) ?_
   try(refine gSd (a9N @Aj @Ak @Al @O5 @O6 @O7 @O8 @O9 @P6) (aI @Am (aI @V1 (aI @EO (aI @EP (aI rb9 (aI z9 (a3N @G9 @H2 @Tryz.results132))))))) ?_;try exact⟨⟩)
   exact⟨_,rfl,(XS3.ext ES om).upd om _⟩
 | ok x=>
   obtain⟨e3',d3,k2,p2⟩:=x;obtain⟨-,hfw,-⟩:=rd1 _ _ _ _ hF1;have hbd:=(GN _ _ _ _ _ _ _ hF1)
   rw[hF1]at w3;obtain⟨rfl,hk2,o3⟩:=w3;have q3:S3.A7 Z1.n=some _:=(E3.A7 om).trans o3;have rr3:=A6 q3;have sc3:=h.K4 XS3 q3 hk2;rw[Oq]at hfw;rw[C1];dsimp only;refine gV1 (aI @EO (aI @EP (aI hS3 rr3))) ?_
   try rw[hS3]
   refine(K5 sc3).mono ?_;rintro r rfl;cases ce:decide ((A9 A1 k2).1=[])with
   | false=>
     rw[z0z (z9z ce)];refine gS1 ce ?_;refine(Y6 (e:=12) sc3).mono ?_;rintro r ⟨Z4,rfl,X4,o4⟩;have n4:=X4.n;have XS4:=XS3.trans X4;have rr4:=A6 o4;refine gV1 (aI @EO (aI @EP rr4)) ?_;have rb9:=A6 o4;have d9:decide ((12:Int)=0)=false:=rfl;have z9:=eT (XS4.A7 om om) zS;refine gV1 (aI @EO (aI @EP (aI rb9 (aI d9 (aI z9 (a3N @G9 @H2 @Tryz.results132)))))) ?_
     try refine Ar.intro (by(repeat first|simp(disch:=omega) only[DH,Gc,Bq,asx (Ext.refl _)]|rw[IT (by kernel_rfl)]);first|done|rfl) ?_
     try(refine gSd (a9N @Aj @Ak @Al @O5 @O6 @O7 @O8 @O9 @P6) (aI @Am (aI @V1 (aI @EO (aI @EP (aI rb9 (aI z9 (a3N @G9 @H2 @Tryz.results132))))))) ?_;try exact⟨⟩)
     exact⟨_,rfl,(XS4.ext ES om).upd om _⟩
   | true=>
     rw[z1z (z6z ce)];have ax:Ag S3 [a1,a2,a3,a4,a5] e3:=fa3.at;have hp9:p2<=1000000000:=om;have e60:decide ((60:Int)<(p2:Int))=decide (60<p2):=by rw[z7z,z3z,z3z];omega
     have e12:decide ((12:Int)<(d3:Int))=decide (12<d3):=by rw[z7z,z3z,z3z];omega
     refine gV1 (aI @EO (aI @EP (aI ce (aI rr3 rc3)))) ?_;refine(TX _ (MF _) hp9 hfw ax).mono ?_;rintro r ⟨Z4,rfl,hE4⟩;have n4:=hE4.n;have q4:Z4.A7 Z1.n=some _:=(hE4.A7 om).trans q3;have rr4:=A6 q4;have rc4:=eT (hE4.row om) rc3;have XS4:=XS3.trans (.of hE4)
     -- too Ad1
     have many:∀ {τ:St},Ext Z4 τ->Sc (τ.upd Z1.n [.slice fa A1.length A1.length,.int .i64 (0:Nat),.int .i64 0,.int .i64 0]) Z1.n (.slice fa A1.length A1.length) A1 0 [.int .i64 0,.int .i64 0]/\τ.A7 Z1.n=some [.slice fa A1.length A1.length,.int .i64 (k2:Nat),.int .i64 0,.int .i64 0]/\B9 Z1.n S (τ.upd Z1.n [.slice fa A1.length A1.length,.int .i64 (0:Nat),.int .i64 0,.int .i64 0]):=fun{τ} hT=>by
      have X:B9 Z1.n S (τ.upd Z1.n [.slice fa A1.length A1.length,.int .i64 (0:Nat),.int .i64 0,.int .i64 0]):=(XS4.trans (.of hT)).upd _;exact⟨h.K4 X D5 dN,(hT.A7 om).trans q4,X⟩
     cases h60:decide (60<p2)with
     | true=>
       rw[z1z (by simp)];obtain⟨scm,qm,Xm⟩:=many (.refl Z4);have rqm:=A6 qm;refine gV1 (aI @EO (aI @EP (aI e60 (aI h60 (aI @G9 (aI @H2 (aI qm rqm))))))) ?_;refine(Y6 (e:=2) scm).mono ?_;rintro r ⟨Z6,rfl,X6,o6⟩;have n6:=X6.n;simp only[Po]at n6;have XS6:=Xm.trans X6;have rr6:=A6 o6;refine gV1 (aI @EO (aI @EP rr6)) ?_;have rb9:=A6 o6;have d9:decide ((2:Int)=0)=false:=rfl;have z9:=eT (XS6.A7 om om) zS;refine gV1 (aI @EO (aI @EP (aI rb9 (aI d9 (aI z9 (a3N @G9 @H2 @Tryz.results132)))))) ?_
       try refine Ar.intro (by(repeat first|simp(disch:=omega) only[DH,Gc,Bq,asx (Ext.refl _)]|rw[IT (by kernel_rfl)]);first|done|rfl) ?_
       try(refine gSd (a9N @Aj @Ak @Al @O5 @O6 @O7 @O8 @O9 @P6) (aI @Am (aI @V1 (aI @EO (aI @EP (aI rb9 (aI z9 (a3N @G9 @H2 @Tryz.results132))))))) ?_;try exact⟨⟩)
       exact⟨_,rfl,(XS6.ext ES om).upd om _⟩
     | false=>
       refine gV1 (aI @EO (aI @EP (aI e60 (aI h60 rc4)))) ?_;refine(TY _ (MF _) hp9 hfw (ax.mono hE4)).mono ?_;rintro r ⟨Z5,rfl,hE5⟩;have n5:=hE5.n;cases h12:decide (12<d3)with
       | true=>
         rw[z1z (by simp)];obtain⟨scm,qm,Xm⟩:=many hE5;have rqm:=A6 qm;refine gV1 (aI @EO (aI @EP (aI e12 (aI h12 (aI @G9 (aI @H2 (aI qm rqm))))))) ?_;refine(Y6 (e:=2) scm).mono ?_;rintro r ⟨Z6,rfl,X6,o6⟩;have n6:=X6.n;simp only[Po]at n6;have XS6:=Xm.trans X6;have rr6:=A6 o6;refine gV1 (aI @EO (aI @EP rr6)) ?_;have rb9:=A6 o6;have d9:decide ((2:Int)=0)=false:=rfl;have z9:=eT (XS6.A7 om om) zS;refine gV1 (aI @EO (aI @EP (aI rb9 (aI d9 (aI z9 (a3N @G9 @H2 @Tryz.results132)))))) ?_
         try refine Ar.intro (by(repeat first|simp(disch:=omega) only[DH,Gc,Bq,asx (Ext.refl _)]|rw[IT (by kernel_rfl)]);first|done|rfl) ?_
         try(refine gSd (a9N @Aj @Ak @Al @O5 @O6 @O7 @O8 @O9 @P6) (aI @Am (aI @V1 (aI @EO (aI @EP (aI rb9 (aI z9 (a3N @G9 @H2 @Tryz.results132))))))) ?_;try exact⟨⟩)
         exact⟨_,rfl,(XS6.ext ES om).upd om _⟩
       | false=>
         rw[z0z (by simp)];have q5:Z5.A7 Z1.n=some _:=(hE5.A7 om).trans q4;have rr5:=A6 q5;have rc5:=eT (hE5.row om) rc4;have XS5:=XS4.trans (.of hE5);have z5':=eT (XS5.A7 om om) zS;refine gV1 (aI @EO (aI @EP (aI e12 (aI h12 (aI rr5 (aI rc5 (aI z5' (a3N @G9 @H2 @Tryz.results132)))))))) ?_;refine⟨_,[a1,a2,a3,a4,a5],rfl,(XS5.ext ES om).upd om _,?_⟩;exact(((fa3.ext hE4).ext hE5).K4 (b:=Z.n) (B9.upd .refl _) (by show Z.n<S.n;omega)).KO fun q hq=>by show q<S.n;omega
def QA:List By:=[[116,101,110,100,101,114],[108,111,116],[99,114,105,116,101,114,105,111,110],[114,101,113,117,105,114,101],[112,114,105,99,101],[102,111,114,109,117,108,97],[116,105,101],[109,111,115,116],[99,111,109,98,111],[98,117,100,103,101,116],[116,105,109,101,115],[103,114,97,100,101],[111,102,102,101,114],[108,101,115,115],[60,61],[62,61],[115,112,101,101,100],[108,111,119],[49],[50],[48],[48,48,55],[49,48,48,48,48,48,48,48,48,49],[48,46,53],[49,46,53,48],[43],[45],[42],[47],[40],[41],[44],[109,105,110],[109,97,120],[10],[10],[63],[95,120],[120,95,49]]
def uO {x:Nat}(h:x<39):∃ p:By,sub (QA.map str) x 1=some [str p]/\p.length<=10:=by
 obtain⟨p,hp⟩:=E8 (l:=QA) (k:=x) h;refine⟨p,N3 (by rw[List.getElem?_map,hp];rfl),?_⟩;exact z6z (HA.1 (show QA.all (fun p=>decide (p.length<=10))=true by decide) p (W8 hp))
noncomputable def spC (l:List Nat):Code:=HF l ((Tryz.f7).body.getD .skip)
def Aa4:spC []= .seq (spC [0]) (spC [1]):=kR
def Aa5:spC [1]= .seq (spC [1,0]) (spC [1,1]):=kR
noncomputable def nV:List Oper:=match spC [1,0]with
 | .region _ ops _=>ops.toList
 |_=>[]
noncomputable def spP:Array (Nat×Operand):=match nV with
 | ⟨_,.buildSlice _ _ ps,_,_,_,_⟩::_=>ps
 |_=>#[]
def AH4:spC [1,0]= .region 1 nV.toArray false:=kR
def AH5:∃ p1 a1 p2 a2,nV=[⟨some 7,.buildSlice 36 39 spP,36,p1,a1,none⟩,⟨some 3,.assign (.tmp 7),36,p2,a2,none⟩]:=⟨_,_,_,_,rfl⟩
def uP {fr:Fr}:Fq Tryz.prog fr 36 39 spP=some (QA.map str,fun n=> .slice (some ⟨n,0,none⟩) 39 39):=kR
def nW {fr:Fr}{Z:St}:Ev (lim Tryz.prog HS none (spC [1,0]) fr Z) (fun r=>r=⟨.normal,(fr.set 7 (.slice (some ⟨Z.n,0,none⟩) 39 39)).set 3 (.slice (some ⟨Z.n,0,none⟩) 39 39),Z.new (QA.map str)⟩) ⟨⟩:=by
 obtain⟨p1,a1,p2,a2,e⟩:=AH5;rw[AH4,e,Sp,Ji,uP,J7];dsimp only;refine gS ?_;try exact⟨⟩
def Wp {Z:St}{v:Value}{l:List Int}(hl:Y9 Z v l) (hll:l.length<=9223372036854775807) :
  Ev (gO 7 [v] Z) (fun r=>∃ (s:By) (Z':St),r=⟨false,str s,Z'⟩/\s.length<=660/\Ext Z Z') ⟨⟩:=by
 obtain⟨a,c,b,off,cells,rfl,l1,l2⟩:=hl.1.use;refine D0 (body:=spC []) Tryz.func7 kR rfl ?_;obtain⟨X,hX⟩:=nm (spC [1,0]);rw[Aa4,Aa5,hX];simp only[spC,Tryz.f7,J4,M0,BP,BQ,BR,BS];refine gS ?_;rw[<- hX];refine nW.mono ?_;rintro r rfl;clear hX;refine gS ?_;obtain⟨S,hS⟩:=nm (Z.new (QA.map str));have ES:Ext Z S:=by rw[<- hS];exact eX
 have rS:S.row Z.n=some (QA.map str):=by rw[<- hS];exact D1 nL nL
 rw[hS];clear hS
 refine F4 (min l.length 60) (fun i fr Z'=>∃ s:By,fr.get 0=some (.slice a l.length c)/\fr.get 3=some (.slice (some ⟨Z.n,0,none⟩) 39 39)/\fr.get 5=some (.int .i64 (i:Nat))/\fr.get 4=some (str s)/\s.length<=11*i/\Z'=S)
  (fun r=>∃ fr s,r=⟨.exit 0,fr,S⟩/\fr.get 4=some (str s)/\s.length<=660) ?_ ?_ ?_ ?_
 ·exact⟨[],fR,fR,fR,fR,by simp,rfl⟩
 ·rintro i fr Z' hi ⟨s,g0,g3,g5,g4,hs,rfl⟩;have hi1:i<l.length:=om;obtain⟨y,hy⟩:=E8 hi1;obtain⟨sp,rfl,l3,l4⟩:=l1 om;have s1:=l2 i y hy;have lS:=eT (ES.row l3) l4;have c1:decide ((i:Int)<(l.length:Int))=true:=dT;have c2:decide ((i:Int)<60)=true:=dT;have c3:decide (i<l.length)=true:=Aq hi1;have e3:(i:Int)+1=((i+1:Nat):Int):=om;have AH6:=hl.2 y (W8 hy);refine gS1 (aI g0 (aI g3 (aI g4 (aI g5 (aI c1 (aI c2 (aI c3 (aI lS (aI s1 @Df))))))))) ?_;have e78:(2:Int)*((39:Nat):Int)=78:=rfl;rw[e78];refine(UY AH6 om om).mono ?_;rintro r rfl;have x0:=Int.emod_nonneg y (show(78:Int)≠0 by omega);have x1:=Int.emod_lt_of_pos y (show(0:Int)<78 by omega);obtain⟨X,hX⟩:=aH x0;rw[hX]at x1;rw[hX];have e5:(X:Int).tmod ((39:Nat):Int)=((X % 39:Nat):Int):=Jj;have Aa6:X % 39<39:=Hg _ om;obtain⟨p,hp,hpl⟩:=uO Aa6;have hX2:decide (X % 39<39)=true:=Aq Aa6;have e6:decide ((X:Int)<((39:Nat):Int))=decide (X<39):=by rw[z7z,z3z,z3z];omega
  cases h39:decide (X<39)
  all_goals
   refine gS1 (aI g0 (aI g3 (aI g4 (aI g5 (aI e5 (aI hp (aI hX2 (aI rS (aI e6 (aI h39 e3)))))))))) ?_;exact⟨_,fR1 g0,fR1 g3,fR,fR,by simp;omega,by trivial⟩
 ·rintro fr Z' ⟨s,g0,g3,g5,g4,hs,rfl⟩;cases c1:decide (((min l.length 60:Nat):Int)<(l.length:Int))with
  | false=>
    refine gS1 (aI g0 (aI g5 c1)) ?_;exact⟨_,s,rfl,fR1 g4,om⟩
  | true=>
    have c2:decide (((min l.length 60:Nat):Int)<60)=false:=z4z (by have:=z6z c1;omega);refine gS1 (aI g0 (aI g5 (aI c1 c2))) ?_;exact⟨_,s,rfl,fR1 g4,om⟩
 rintro r ⟨fr,s,rfl,g4,hs⟩;refine gS1 (aI g4 @Tryz.results7) ?_;exact⟨s,_,rfl,hs,ES⟩
end Go.Proofs.T
