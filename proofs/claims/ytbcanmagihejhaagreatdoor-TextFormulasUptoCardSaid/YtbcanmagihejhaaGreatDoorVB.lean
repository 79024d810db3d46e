/- The reference's factors. -/
import Derived.Test.YtbcanmagihejhaaGreatDoorVA
set_option linter.unusedSimpArgs false
set_option linter.unusedVariables false
namespace Go.Proofs.T
open Go Go.Ab
open Nat (reduceMul reduceEqDiff reduceAdd)
set_option maxRecDepth 100000
noncomputable def faC (l:List Nat):Code:=cdAt l ((Tryz.f174).body.getD .skip)
theorem fa_e0:faC []= .seq (faC [0]) (faC [1]):=by kernel_rfl
theorem fa_e1:faC [1]= .seq (faC [1,0]) (faC [1,1]):=by kernel_rfl
theorem fa_e2:faC [1,1]= .seq (faC [1,1,0]) (faC [1,1,1]):=by kernel_rfl
theorem fa_f0:faC [1,1,1]= .seq (faC [1,1,1,0]) (faC [1,1,1,1]):=by kernel_rfl
theorem fa_g0:faC [1,1,1,1]= .seq (faC [1,1,1,1,0]) (faC [1,1,1,1,1]):=by kernel_rfl
theorem fresh_node {L:Nat->Prop}{Z:St}{lo blk:Nat}{op:By}{row row':List Value}{e e':Ex}(he:Fresh L Z row e) (he':Fresh L Z row' e') (hlo:lo<=blk) (hlt:blk<Z.n) (hrow:Z.orow blk=some (row++row')) (hL:∀ q,L q->q<lo) :
  Fresh L Z [str op,.int .i64 0,.int .i64 0,str [],.slice (some ⟨blk,0,none⟩) 2 2] (.mk op 0 0 [] [e,e']):=by
 obtain ⟨c1,c2,c3,c4,c5,rfl⟩:=he.five
 obtain ⟨f1,f2,f3,f4,f5,rfl⟩:=he'.five
 have hol:OL lo Z 5 (.slice (some ⟨blk,0,none⟩) 2 2) [[c1,c2,c3,c4,c5],[f1,f2,f3,f4,f5]]:=OL.mk (cells:=[c1,c2,c3,c4,c5,f1,f2,f3,f4,f5]) rfl rfl (by simp) (.inl rfl) hlo hlt hrow
 exact fun H hH=>⟨_,[[c1,c2,c3,c4,c5],[f1,f2,f3,f4,f5]],rfl,(OL.hide hol fun q hq=>hL q (hH q hq)).sl,by simp,_,_,rfl,he H hH,_,_,rfl,he' H hH,rfl⟩
def RrP (L:Nat->Prop) (Z:St) (b:Nat) (tv:Value) (toks:List Tok) (rest:List Value) (R:Except Er Fx) (r:Res):Prop:=∃ fr' τ' row,r=⟨.ret,fr',τ'⟩/\fr'.get 2=some (.pointer (some ⟨Z.n,0,none⟩))/\τ'.orow Z.n=some row/\RfP L Z b tv toks rest R ⟨false,.agg ⟨row⟩,τ'⟩
section
variable {L:Nat->Prop} {b:Nat} {Z S τ:St} {tv:Value} {toks:List Tok} {k p:Nat} {rest:List Value} {F:Nat->Nat->Except Er Fx} {fr:Fr}
theorem RfP.err {row:List Value}{e':Ex}{q k:Nat}{er:Int}(hE:ExtX b Z τ) (hf:Fresh (fun q=>L q\/q=Z.n) τ row e') (he:er≠0) (hk:k<toks.length) (hb:b≠Z.n) (ho:τ.orow b=some (tv:: .int .i64 (k:Nat):: .int .i64 (q:Nat):: .int .i64 er::rest)) :
  RfP L Z b tv toks rest (.error (q,er)) ⟨false,.agg ⟨row⟩,τ.upd Z.n row⟩ :=
 ⟨_,row,e',rfl,hE.updF (Nat.le_refl _) _,(hf.extX (b:=Z.n) (ExtX.upd .refl _) (.inr rfl)).weak fun q hq=> .inl hq,he,k,hk,by rw [orow_upd_ne hb];exact ho⟩
theorem RfP.okk {row:List Value}{e:Ex}{d k p:Nat}(hE:ExtX b Z τ) (hf:Fresh (fun q=>L q\/q=Z.n) τ row e) (hk:k<toks.length) (hb:b≠Z.n) (ho:τ.orow b=some (tv:: .int .i64 (k:Nat):: .int .i64 0:: .int .i64 0::rest)) :
  RfP L Z b tv toks rest (.ok (e,d,k,p)) ⟨false,.agg ⟨row⟩,τ.upd Z.n row⟩ :=
 ⟨_,row,e,rfl,hE.updF (Nat.le_refl _) _,(hf.extX (b:=Z.n) (ExtX.upd .refl _) (.inr rfl)).weak fun q hq=> .inl hq,rfl,hk,by rw [orow_upd_ne hb];exact ho⟩
set_option maxHeartbeats 4000000 in
theorem rfac_name (ES:Ext Z S) (nS:S.n=Z.n+1) (zS:S.orow Z.n=some [str [],.int .i64 0,.int .i64 0,str [],.slice none 0 0]) (h1:Sc S b tv toks k (.int .i64 0:: .int .i64 0::rest)) (hbl:b<Z.n) (hends:Ends toks) (hb:L b) (hL:∀ q,L q->q<Z.n) (g0:fr.get 0=some (.pointer (some ⟨b,0,none⟩))) (g2:fr.get 2=some (.pointer (some ⟨Z.n,0,none⟩))) (g3:fr.get 3=some (str (tokA toks k).1))
  (h40:(tokA toks k).1≠[40]) (hmm:(decide ((tokA toks k).1=minB)||decide ((tokA toks k).1=maxB))=false) (hd:headB digB (tokA toks k).1=false) (hlen:(tokA toks k).1.length<10000000) :
  Ev (lim Tryz.prog HS none (faC [1,1,1,1,1]) fr S) (RrP L Z b tv toks rest (facS F toks k p)) ⟨⟩:=by
 have hkl:=h1.k
 have hkn:=h1.len
 have e1:((k:Nat):Int)+1=((k+1:Nat):Int):=om
 have hr:=h1.row
 have hrr:=row_of hr
 have hbn:b≠Z.n:=om
 unfold facS
 rw [if_neg (by rw [hd];simp),if_neg h40,if_neg (by rw [hmm];simp)]
 simp only [faC,Tryz.f174,gd_some,cd_nil,cd_0,cd_1,cd_2,cd_3]
 refine gS1 @g3 ?_
 refine risname_ok.mono ?_
 rintro r rfl
 rw [rname_eq]
 cases hn:nameB (tokA toks k).1 with
 | false =>
   rw [if_neg (by simp)]
   refine gS1 (aI @g0 @g2) ?_
   refine (rdfail_ok (e:=12) h1).mono ?_
   rintro r ⟨Z2,rfl,X2,o2⟩
   have hz:Z2.orow Z.n=some [str [],.int .i64 0,.int .i64 0,str [],.slice none 0 0]:=by rw [X2.orow om om];exact zS
   refine gS1 (aI @g2 @hz) ?_
   exact ⟨_,_,_,rfl,fR1 g2,cL,RfP.err ((ExtX.of ES).trans X2) fresh_leaf om hkl hbn o2⟩
 | true =>
   have hk1:=hends k _ (tokA_at hkl) (by intro e;rw [e] at hn;cases hn)
   rw [if_pos rfl]
   simp (maxSteps:=8000000) (disch:=first|exact dS|fail) only [↓bD,bW,reduceMul,reduceEqDiff,reduceAdd,Nat.reduceBEq,reduceIte,Option.isNone_none,↓ld108,↓ld158,↓ld179,↓fa110_0,↓fa110_1,↓fa110_2,↓fa110_3,↓fa179_0,↓fa179_1,ia108,nn_ptr,g0,g2,g3,hr,hrr,e1,zS]
   exact ⟨_,_,_,rfl,fR1 g2,cL,RfP.okk (τ:=S.upd b (tv:: .int .i64 (k+1:Nat):: .int .i64 0:: .int .i64 0::rest)) ((ExtX.of ES).upd _) fresh_leaf hk1 hbn (cL)⟩
set_option maxHeartbeats 8000000 in
theorem rfac_mm (ES:Ext Z S) (nS:S.n=Z.n+1) (zS:S.orow Z.n=some [str [],.int .i64 0,.int .i64 0,str [],.slice none 0 0]) (h1:Sc S b tv toks k (.int .i64 0:: .int .i64 0::rest)) (hbl:b<Z.n) (hends:Ends toks) (hb:L b) (hL:∀ q,L q->q<Z.n) (g0:fr.get 0=some (.pointer (some ⟨b,0,none⟩))) (g2:fr.get 2=some (.pointer (some ⟨Z.n,0,none⟩))) (g3:fr.get 3=some (str (tokA toks k).1)) (hF:∀ (M:Nat->Prop) (Z':St) (k' p':Nat),M b->(∀ q,M q->q<Z'.n)->k<k'->Sc Z' b tv toks k' (.int .i64 0:: .int .i64 0::rest)->Ev (go Tryz.prog HS (.fn 90) [.pointer (some ⟨b,0,none⟩)] Z') (RfP M Z' b tv toks rest (F k' p')) ⟨⟩) (hB:∀ k' p',Bd k' p' (F k' p'))
  (h40:(tokA toks k).1≠[40]) (hmm:(decide ((tokA toks k).1=minB)||decide ((tokA toks k).1=maxB))=true) (hd:headB digB (tokA toks k).1=false) :
  Ev (lim Tryz.prog HS none (faC [1,1,1,1]) fr S) (RrP L Z b tv toks rest (facS F toks k p)) ⟨⟩:=by
 have hkl:=h1.k
 have hkn:=h1.len
 have e1:((k:Nat):Int)+1=((k+1:Nat):Int):=om
 have hr:=h1.row
 have hrr:=row_of hr
 have hbn:b≠Z.n:=om
 have hne:(tokA toks k).1≠[]:=by intro e;rw [e] at hmm;cases hmm
 have hk1:=hends k _ (tokA_at hkl) hne
 unfold facS
 rw [if_neg (by rw [hd];simp),if_neg h40,if_pos hmm]
 obtain ⟨X,hX⟩:∃ X,faC [1,1,1,1,1]=X:=⟨_,rfl⟩
 rw [fa_g0,hX]
 simp only [faC,Tryz.f174,gd_some,cd_nil,cd_0,cd_1,cd_2,cd_3]
 obtain ⟨op,hop⟩:∃ op,(tokA toks k).1=op:=⟨_,rfl⟩
 rw [hop] at g3 hmm ⊢
 have go1:∀ {fr:Fr} {Q:Res->Prop} {c:Code},True:=fun {fr Q c}=>trivial
 have hmm2:(decide (op=[109,105,110])||decide (op=[109,97,120]))=true:=hmm
 obtain ⟨S1,hS1⟩:∃ S1,S.upd b (tv:: .int .i64 (k+1:Nat):: .int .i64 0:: .int .i64 0::rest)=S1:=⟨_,rfl⟩
 have X1:ExtX b S S1:=by rw [<- hS1];exact ExtX.refl.upd _
 have n1:S1.n=S.n:=by rw [<- hS1];rfl
 have o1:S1.orow b=some (tv:: .int .i64 (k+1:Nat):: .int .i64 0:: .int .i64 0::rest):=by rw [<- hS1];exact cL
 have hS1c:=h1.extX X1 o1 hk1
 have XS1:ExtX b Z S1:=(ExtX.of ES).trans X1
 have z1:S1.orow Z.n=some [str [],.int .i64 0,.int .i64 0,str [],.slice none 0 0]:=by rw [X1.orow om om];exact zS
 cases m1:decide (op=[109,105,110])
 case' false =>
  have m2:decide (op=[109,97,120])=true:=by rw [m1,Bool.false_or] at hmm2;exact hmm2
 case' true=>have m2:True:=trivial
 all_goals
  simp (maxSteps:=8000000) (disch:=first|exact dS|fail) only [↓bD,bW,reduceMul,reduceEqDiff,reduceAdd,Nat.reduceBEq,reduceIte,Option.isNone_none,↓ld108,↓ld158,↓ld179,↓fa110_0,↓fa110_1,↓fa110_2,↓fa110_3,↓fa179_0,↓fa179_1,ia108,nn_ptr,g0,g2,g3,m1,m2,hr,hrr,e1,hS1,yu_t,yu_f]
  try rw [hS1]
  refine (rdskip_ok (w:=[40]) hS1c hends (by simp)).mono ?_
  rintro r ⟨Z2,rfl,X2,w2⟩
  have n2:=X2.n
  have XS2:=XS1.trans X2
  have z2:Z2.orow Z.n=some [str [],.int .i64 0,.int .i64 0,str [],.slice none 0 0]:=by rw [X2.orow om om];exact z1
  cases hs1:skipS toks [40] (k+1) with
  | error pe =>
    obtain ⟨q,er⟩:=pe
    rw [hs1] at w2
    obtain ⟨o2,hne0⟩:=w2
    have rr2:=row_of o2
    have d0:decide (er=0)=false:=decide_eq_false hne0
    simp (maxSteps:=8000000) (disch:=first|exact dS|fail) only [↓bD,bW,reduceMul,reduceEqDiff,reduceAdd,Nat.reduceBEq,reduceIte,Option.isNone_none,↓ld108,↓ld158,↓ld179,↓fa110_0,↓fa110_1,↓fa110_2,↓fa110_3,↓fa179_0,↓fa179_1,ia108,nn_ptr,g0,g2,rr2,d0,z2]
    rw [thenR_er]
    exact ⟨_,_,_,rfl,fR1 g2,cL,RfP.err XS2 fresh_leaf hne0 om hbn o2⟩
  | ok k1 =>
    rw [hs1] at w2
    obtain ⟨hk1l,o2⟩:=w2
    have rr2:=row_of o2
    have hk1e:=skipS_ok hs1
    have sc2:=hS1c.extX X2 o2 hk1l
    rw [thenR_ok]
    simp (maxSteps:=8000000) (disch:=first|exact dS|fail) only [↓bD,bW,reduceMul,reduceEqDiff,reduceAdd,Nat.reduceBEq,reduceIte,Option.isNone_none,↓ld108,↓ld158,↓ld179,↓fa110_0,↓fa110_1,↓fa110_2,↓fa110_3,↓fa179_0,↓fa179_1,ia108,nn_ptr,g0,g2,rr2]
    refine (hF (fun q=>L q\/q=Z.n) Z2 k1 p (.inl hb) (by rintro q (hq|rfl);have:=hL q hq;omega;omega) om sc2).mono ?_
    rintro r ⟨Z3,row3,e3,rfl,X3,f3,w3⟩
    obtain ⟨a1,a2,a3,a4,a5,rfl⟩:=f3.five
    have n3:=X3.n
    obtain ⟨S3,hS3⟩:∃ S3,((Z3.new [str [],.int .i64 0,.int .i64 0,str [],.slice none 0 0] (some 35)).upd Z3.n [a1,a2,a3,a4,a5])=S3:=⟨_,rfl⟩
    have E3:Ext Z3 S3:=by rw [<- hS3];exact eX
    have m3:S3.n=Z3.n+1:=by rw [<- hS3];rfl
    have XS3:ExtX b Z S3:=(XS2.trans X3).trans (.of E3)
    have z3:S3.orow Z.n=some [str [],.int .i64 0,.int .i64 0,str [],.slice none 0 0]:=by rw [E3.orow om,X3.orow om om];exact z2
    have c3:S3.orow Z3.n=some [a1,a2,a3,a4,a5]:=by rw [<- hS3];exact cL
    have fa3:Fresh (fun q=>(L q\/q=Z.n)\/q=Z3.n) S3 [a1,a2,a3,a4,a5] e3:=f3.more E3 fun q hq=>by
     rcases hq with hq|rfl
     ·exact .inl hq
     ·exact .inr (Nat.le_refl _)
    cases hF1:F k1 p with
    | error pe =>
      obtain ⟨q,er⟩:=pe
      rw [hF1] at w3
      obtain ⟨hne0,k3,hk3,o3⟩:=w3
      have q3:S3.orow b=some _:=(E3.orow om).trans o3
      have rr3:=row_of q3
      have d0:decide (er=0)=false:=decide_eq_false hne0
      simp (maxSteps:=8000000) (disch:=first|exact dS|fail) only [↓bD,bW,reduceMul,reduceEqDiff,reduceAdd,Nat.reduceBEq,reduceIte,Option.isNone_none,↓ld108,↓ld158,↓ld179,↓fa110_0,↓fa110_1,↓fa110_2,↓fa110_3,↓fa179_0,↓fa179_1,ia108,nn_ptr,g0,g2,hS3,rr3,d0,z3]
      rw [thenR_er]
      exact ⟨_,_,_,rfl,fR1 g2,cL,RfP.err XS3 fresh_leaf hne0 hk3 hbn q3⟩
    | ok x =>
      obtain ⟨e3',d3,k2,p2⟩:=x
      rw [hF1] at w3
      obtain ⟨rfl,hk2,o3⟩:=w3
      have q3:S3.orow b=some _:=(E3.orow om).trans o3
      have rr3:=row_of q3
      have sc3:=h1.extX (X1.trans (X2.trans (X3.trans (.of E3)))) q3 hk2
      rw [thenR_ok]
      dsimp only
      simp (maxSteps:=8000000) (disch:=first|exact dS|fail) only [↓bD,bW,reduceMul,reduceEqDiff,reduceAdd,Nat.reduceBEq,reduceIte,Option.isNone_none,↓ld108,↓ld158,↓ld179,↓fa110_0,↓fa110_1,↓fa110_2,↓fa110_3,↓fa179_0,↓fa179_1,ia108,nn_ptr,g0,g2,hS3,rr3]
      try rw [hS3]
      refine (rdskip_ok (w:=[44]) sc3 hends (by simp)).mono ?_
      rintro r ⟨Z4,rfl,X4,w4⟩
      have n4:=X4.n
      have XS4:=XS3.trans X4
      have z4:Z4.orow Z.n=some [str [],.int .i64 0,.int .i64 0,str [],.slice none 0 0]:=by rw [X4.orow om om];exact z3
      cases hs2:skipS toks [44] k2 with
      | error pe =>
        obtain ⟨q,er⟩:=pe
        rw [hs2] at w4
        obtain ⟨o4,hne0⟩:=w4
        have rr4:=row_of o4
        have d0:decide (er=0)=false:=decide_eq_false hne0
        simp (maxSteps:=8000000) (disch:=first|exact dS|fail) only [↓bD,bW,reduceMul,reduceEqDiff,reduceAdd,Nat.reduceBEq,reduceIte,Option.isNone_none,↓ld108,↓ld158,↓ld179,↓fa110_0,↓fa110_1,↓fa110_2,↓fa110_3,↓fa179_0,↓fa179_1,ia108,nn_ptr,g0,g2,rr4,d0,z4]
        rw [thenR_er]
        exact ⟨_,_,_,rfl,fR1 g2,cL,RfP.err XS4 fresh_leaf hne0 hk2 hbn o4⟩
      | ok k3 =>
        rw [hs2] at w4
        obtain ⟨hk3l,o4⟩:=w4
        have rr4:=row_of o4
        have hk3e:=skipS_ok hs2
        have sc4:=sc3.extX X4 o4 hk3l
        have hk12:k<k3:=by have:=(hB _ _ _ _ _ _ hF1).1;omega
        rw [thenR_ok]
        simp (maxSteps:=8000000) (disch:=first|exact dS|fail) only [↓bD,bW,reduceMul,reduceEqDiff,reduceAdd,Nat.reduceBEq,reduceIte,Option.isNone_none,↓ld108,↓ld158,↓ld179,↓fa110_0,↓fa110_1,↓fa110_2,↓fa110_3,↓fa179_0,↓fa179_1,ia108,nn_ptr,g0,g2,rr4]
        refine (hF (fun q=>(L q\/q=Z.n)\/q=Z3.n) Z4 k3 p2 (.inl (.inl hb)) (by rintro q ((hq|rfl)|rfl);have:=hL q hq;omega;omega;omega) hk12 sc4).mono ?_
        rintro r ⟨Z5,row5,e5,rfl,X5,f5,w5⟩
        obtain ⟨b1,b2,b3,b4,b5,rfl⟩:=f5.five
        have n5:=X5.n
        obtain ⟨S5,hS5⟩:∃ S5,((Z5.new [str [],.int .i64 0,.int .i64 0,str [],.slice none 0 0] (some 35)).upd Z5.n [b1,b2,b3,b4,b5])=S5:=⟨_,rfl⟩
        have E5:Ext Z5 S5:=by rw [<- hS5];exact eX
        have m5:S5.n=Z5.n+1:=by rw [<- hS5];rfl
        have XS5:ExtX b Z S5:=(XS4.trans X5).trans (.of E5)
        have z5':S5.orow Z.n=some [str [],.int .i64 0,.int .i64 0,str [],.slice none 0 0]:=by rw [E5.orow om,X5.orow om om];exact z4
        have c5:S5.orow Z5.n=some [b1,b2,b3,b4,b5]:=by rw [<- hS5];exact cL
        have c35:S5.orow Z3.n=some [a1,a2,a3,a4,a5]:=by rw [E5.orow om,X5.orow om om,X4.orow om om];exact c3
        have fa5:Fresh (fun q=>(L q\/q=Z.n)\/q=Z3.n) S5 [a1,a2,a3,a4,a5] e3:=((fa3.extX X4 (.inl (.inl hb))).extX X5 (.inl (.inl hb))).ext E5
        have fb5:Fresh (fun q=>(L q\/q=Z.n)\/q=Z3.n) S5 [b1,b2,b3,b4,b5] e5:=f5.ext E5
        -- the node,at the state before it is built
        have fin:∀ {T:St},ExtX b S5 T->ExtX b Z (T.new ([a1,a2,a3,a4,a5]++[b1,b2,b3,b4,b5]))/\Fresh (fun q=>L q\/q=Z.n) (T.new ([a1,a2,a3,a4,a5]++[b1,b2,b3,b4,b5])) [str op,.int .i64 0,.int .i64 0,str [],.slice (some ⟨T.n,0,none⟩) 2 2] (.mk op 0 0 [] [e3,e5]):=fun {T} hT =>
         ⟨(XS5.trans hT).newF _,fresh_node (lo:=T.n) (((fa5.extX hT (.inl (.inl hb))).ext (.new _ _)).weak fun q hq=> .inl hq) (((fb5.extX hT (.inl (.inl hb))).ext (.new _ _)).weak fun q hq=> .inl hq) (Nat.le_refl _) (by simp) (orow_new_same (Nat.le_refl _) (Nat.le_refl _)) (by
           have:=hT.n
           rintro q (hq|rfl)
           ·have:=hL q hq;omega
           ·omega)⟩
        cases hF2:F k3 p2 with
        | error pe =>
          obtain ⟨q,er⟩:=pe
          rw [hF2] at w5
          obtain ⟨hne0,k5,hk5,o5⟩:=w5
          have q5:S5.orow b=some _:=(E5.orow om).trans o5
          have rr5:=row_of q5
          have d0:decide (er=0)=false:=decide_eq_false hne0
          have ca:=row_of c35
          have cb:=row_of c5
          simp (maxSteps:=8000000) (disch:=first|exact dS|fail) only [↓bD,bW,reduceMul,reduceEqDiff,reduceAdd,Nat.reduceBEq,reduceIte,Option.isNone_none,↓ld108,↓ld158,↓ld179,↓fa110_0,↓fa110_1,↓fa110_2,↓fa110_3,↓fa179_0,↓fa179_1,ia108,nn_ptr,g0,g2,g3,hS5,rr5,d0,z5',ca,cb]
          rw [thenR_er]
          obtain ⟨y1,y2⟩:=fin (T:=S5) .refl
          exact ⟨_,_,_,rfl,fR1 g2,cL,RfP.err y1 y2 hne0 hk5 hbn (cL1 q5)⟩
        | ok x =>
          obtain ⟨e5',d5,k4,p4⟩:=x
          rw [hF2] at w5
          obtain ⟨rfl,hk4,o5⟩:=w5
          have q5:S5.orow b=some _:=(E5.orow om).trans o5
          have rr5:=row_of q5
          have sc5:=sc4.extX (X5.trans (.of E5)) q5 hk4
          rw [thenR_ok]
          dsimp only
          simp (maxSteps:=8000000) (disch:=first|exact dS|fail) only [↓bD,bW,reduceMul,reduceEqDiff,reduceAdd,Nat.reduceBEq,reduceIte,Option.isNone_none,↓ld108,↓ld158,↓ld179,↓fa110_0,↓fa110_1,↓fa110_2,↓fa110_3,↓fa179_0,↓fa179_1,ia108,nn_ptr,g0,g2,hS5,rr5]
          try rw [hS5]
          refine (rdskip_ok (w:=[41]) sc5 hends (by simp)).mono ?_
          rintro r ⟨Z6,rfl,X6,w6⟩
          have n6:=X6.n
          have z6:Z6.orow Z.n=some [str [],.int .i64 0,.int .i64 0,str [],.slice none 0 0]:=by rw [X6.orow om om];exact z5'
          have ca:Z6.row Z3.n=some [a1,a2,a3,a4,a5]:=row_of ((X6.orow om om).trans c35)
          have cb:Z6.row Z5.n=some [b1,b2,b3,b4,b5]:=row_of ((X6.orow om om).trans c5)
          obtain ⟨y1,y2⟩:=fin X6
          simp (maxSteps:=8000000) (disch:=first|exact dS|fail) only [↓bD,bW,reduceMul,reduceEqDiff,reduceAdd,Nat.reduceBEq,reduceIte,Option.isNone_none,↓ld108,↓ld158,↓ld179,↓fa110_0,↓fa110_1,↓fa110_2,↓fa110_3,↓fa179_0,↓fa179_1,ia108,nn_ptr,g0,g2,g3,z6,ca,cb]
          cases hs3:skipS toks [41] k4 with
          | error pe =>
            obtain ⟨q,er⟩:=pe
            rw [hs3] at w6
            obtain ⟨o6,hne0⟩:=w6
            rw [thenR_er]
            exact ⟨_,_,_,rfl,fR1 g2,cL,RfP.err y1 y2 hne0 hk4 hbn (cL1 o6)⟩
          | ok k5 =>
            rw [hs3] at w6
            obtain ⟨hk5,o6⟩:=w6
            rw [thenR_ok]
            exact ⟨_,_,_,rfl,fR1 g2,cL,RfP.okk y1 y2 hk5 hbn (cL1 o6)⟩
end
end Go.Proofs.T
namespace Go.Proofs.T
open Go Go.Ab
open Nat (reduceMul reduceEqDiff reduceAdd)
set_option maxRecDepth 100000
section
variable {L:Nat->Prop} {b:Nat} {Z S τ:St} {tv:Value} {toks:List Tok} {k p:Nat} {rest:List Value} {F:Nat->Nat->Except Er Fx} {fr:Fr}
set_option maxHeartbeats 4000000 in
theorem rfac_rest (ES:Ext Z S) (nS:S.n=Z.n+1) (zS:S.orow Z.n=some [str [],.int .i64 0,.int .i64 0,str [],.slice none 0 0]) (h1:Sc S b tv toks k (.int .i64 0:: .int .i64 0::rest)) (hbl:b<Z.n) (hends:Ends toks) (hb:L b) (hL:∀ q,L q->q<Z.n) (g0:fr.get 0=some (.pointer (some ⟨b,0,none⟩))) (g2:fr.get 2=some (.pointer (some ⟨Z.n,0,none⟩))) (g3:fr.get 3=some (str (tokA toks k).1)) (hF:∀ (M:Nat->Prop) (Z':St) (k' p':Nat),M b->(∀ q,M q->q<Z'.n)->k<k'->Sc Z' b tv toks k' (.int .i64 0:: .int .i64 0::rest)->Ev (go Tryz.prog HS (.fn 90) [.pointer (some ⟨b,0,none⟩)] Z') (RfP M Z' b tv toks rest (F k' p')) ⟨⟩) (hB:∀ k' p',Bd k' p' (F k' p')) (hd:headB digB (tokA toks k).1=false) (hlen:(tokA toks k).1.length<10000000) :
  Ev (lim Tryz.prog HS none (faC [1,1,1]) fr S) (RrP L Z b tv toks rest (facS F toks k p)) ⟨⟩:=by
 have hkl:=h1.k
 have hkn:=h1.len
 have e1:((k:Nat):Int)+1=((k+1:Nat):Int):=om
 have hr:=h1.row
 have hrr:=row_of hr
 have hbn:b≠Z.n:=om
 obtain ⟨Y,hY⟩:∃ Y,faC [1,1,1,1]=Y:=⟨_,rfl⟩
 rw [fa_f0,hY]
 simp only [faC,Tryz.f174,gd_some,cd_nil,cd_0,cd_1,cd_2,cd_3]
 cases c40:decide ((tokA toks k).1=[40]) with
 | false =>
   have h40:=of_decide_eq_false c40
   refine gS1 (aI @g3 @c40) ?_
   rw [<- hY]
   cases hmm:(decide ((tokA toks k).1=minB)||decide ((tokA toks k).1=maxB)) with
   | true=>exact (rfac_mm ES nS zS h1 hbl hends hb hL (fR1 g0) (fR1 g2) (fR1 g3) hF hB h40 hmm hd).mono fun r hr=>hr
   | false =>
     obtain ⟨Z,hZ⟩:∃ Z,faC [1,1,1,1,1]=Z:=⟨_,rfl⟩
     rw [fa_g0,hZ]
     simp only [faC,Tryz.f174,gd_some,cd_nil,cd_0,cd_1,cd_2,cd_3]
     have hm2:=hmm
     rw [Bool.or_eq_false_iff] at hm2
     have m1:decide ((tokA toks k).1=[109,105,110])=false:=hm2.1
     have m2:decide ((tokA toks k).1=[109,97,120])=false:=hm2.2
     refine gS1 (aI @g3 (aI @m1 (aI @m2 (aI @yu_t @yu_f)))) ?_
     rw [<- hZ]
     exact (rfac_name ES nS zS h1 hbl hends hb hL (fR1 g0) (fR1 g2) (fR1 g3) h40 hmm hd hlen).mono fun r hr=>hr
 | true =>
   clear hY
   have h40:=of_decide_eq_true c40
   have hk1:=hends k _ (tokA_at hkl) (by rw [h40];simp)
   unfold facS
   rw [if_neg (by rw [hd];simp),if_pos h40]
   rw [h40] at g3
   have c40:decide (([40]:By)=[40])=true:=rfl
   obtain ⟨S1,hS1⟩:∃ S1,S.upd b (tv:: .int .i64 (k+1:Nat):: .int .i64 0:: .int .i64 0::rest)=S1:=⟨_,rfl⟩
   have X1:ExtX b S S1:=by rw [<- hS1];exact ExtX.refl.upd _
   have n1:S1.n=S.n:=by rw [<- hS1];rfl
   have o1:S1.orow b=some (tv:: .int .i64 (k+1:Nat):: .int .i64 0:: .int .i64 0::rest):=by rw [<- hS1];exact cL
   have hS1c:=h1.extX X1 o1 hk1
   have XS1:ExtX b Z S1:=(ExtX.of ES).trans X1
   have z1:S1.orow Z.n=some [str [],.int .i64 0,.int .i64 0,str [],.slice none 0 0]:=by rw [X1.orow om om];exact zS
   simp (maxSteps:=8000000) (disch:=first|exact dS|fail) only [↓bD,bW,reduceMul,reduceEqDiff,reduceAdd,Nat.reduceBEq,reduceIte,Option.isNone_none,↓ld108,↓ld158,↓ld179,↓fa110_0,↓fa110_1,↓fa110_2,↓fa110_3,↓fa179_0,↓fa179_1,ia108,nn_ptr,g0,g2,g3,c40,hr,hrr,e1,hS1]
   try rw [hS1]
   refine (hF (fun q=>L q\/q=Z.n) S1 (k+1) p (.inl hb) (by rintro q (hq|rfl);have:=hL q hq;omega;omega) om hS1c).mono ?_
   rintro r ⟨Z3,row3,e3,rfl,X3,f3,w3⟩
   obtain ⟨a1,a2,a3,a4,a5,rfl⟩:=f3.five
   have n3:=X3.n
   obtain ⟨S3,hS3⟩:∃ S3,((Z3.new [str [],.int .i64 0,.int .i64 0,str [],.slice none 0 0] (some 35)).upd Z3.n [a1,a2,a3,a4,a5])=S3:=⟨_,rfl⟩
   have E3:Ext Z3 S3:=by rw [<- hS3];exact eX
   have m3:S3.n=Z3.n+1:=by rw [<- hS3];rfl
   have XS3:ExtX b Z S3:=(XS1.trans X3).trans (.of E3)
   have z3:S3.orow Z.n=some [str [],.int .i64 0,.int .i64 0,str [],.slice none 0 0]:=by rw [E3.orow om,X3.orow om om];exact z1
   have c3:S3.orow Z3.n=some [a1,a2,a3,a4,a5]:=by rw [<- hS3];exact cL
   have fa3:Fresh (fun q=>L q\/q=Z.n) S3 [a1,a2,a3,a4,a5] e3:=f3.ext E3
   cases hF1:F (k+1) p with
   | error pe =>
     obtain ⟨q,er⟩:=pe
     rw [hF1] at w3
     obtain ⟨hne0,k3,hk3,o3⟩:=w3
     have q3:S3.orow b=some _:=(E3.orow om).trans o3
     have rr3:=row_of q3
     have rc3:=row_of c3
     have d0:decide (er=0)=false:=decide_eq_false hne0
     simp (maxSteps:=8000000) (disch:=first|exact dS|fail) only [↓bD,bW,reduceMul,reduceEqDiff,reduceAdd,Nat.reduceBEq,reduceIte,Option.isNone_none,↓ld108,↓ld158,↓ld179,↓fa110_0,↓fa110_1,↓fa110_2,↓fa110_3,↓fa179_0,↓fa179_1,ia108,nn_ptr,g0,g2,hS3,rr3,rc3,d0,z3]
     rw [thenR_er]
     exact ⟨_,_,_,rfl,fR1 g2,cL,RfP.err XS3 fa3 hne0 hk3 hbn q3⟩
   | ok x =>
     obtain ⟨e3',d3,k2,p2⟩:=x
     rw [hF1] at w3
     obtain ⟨rfl,hk2,o3⟩:=w3
     have q3:S3.orow b=some _:=(E3.orow om).trans o3
     have rr3:=row_of q3
     have sc3:=h1.extX (X1.trans (X3.trans (.of E3))) q3 hk2
     rw [thenR_ok]
     dsimp only
     simp (maxSteps:=8000000) (disch:=first|exact dS|fail) only [↓bD,bW,reduceMul,reduceEqDiff,reduceAdd,Nat.reduceBEq,reduceIte,Option.isNone_none,↓ld108,↓ld158,↓ld179,↓fa110_0,↓fa110_1,↓fa110_2,↓fa110_3,↓fa179_0,↓fa179_1,ia108,nn_ptr,g0,g2,hS3,rr3]
     try rw [hS3]
     refine (rdskip_ok (w:=[41]) sc3 hends (by simp)).mono ?_
     rintro r ⟨Z6,rfl,X6,w6⟩
     have n6:=X6.n
     have z6:Z6.orow Z.n=some [str [],.int .i64 0,.int .i64 0,str [],.slice none 0 0]:=by rw [X6.orow om om];exact z3
     have ca:Z6.row Z3.n=some [a1,a2,a3,a4,a5]:=row_of ((X6.orow om om).trans c3)
     have fa6:=fa3.extX X6 (.inl hb)
     simp (maxSteps:=8000000) (disch:=first|exact dS|fail) only [↓bD,bW,reduceMul,reduceEqDiff,reduceAdd,Nat.reduceBEq,reduceIte,Option.isNone_none,↓ld108,↓ld158,↓ld179,↓fa110_0,↓fa110_1,↓fa110_2,↓fa110_3,↓fa179_0,↓fa179_1,ia108,nn_ptr,g0,g2,z6,ca]
     cases hs3:skipS toks [41] k2 with
     | error pe =>
       obtain ⟨q,er⟩:=pe
       rw [hs3] at w6
       obtain ⟨o6,hne0⟩:=w6
       rw [thenR_er]
       exact ⟨_,_,_,rfl,fR1 g2,cL,RfP.err (XS3.trans X6) fa6 hne0 hk2 hbn o6⟩
     | ok k5 =>
       rw [hs3] at w6
       obtain ⟨hk5,o6⟩:=w6
       rw [thenR_ok]
       exact ⟨_,_,_,rfl,fR1 g2,cL,RfP.okk (XS3.trans X6) fa6 hk5 hbn o6⟩
def Dots (toks:List Tok):Prop:=∀ t∈toks,t.1.length<10000000/\(headB digB t.1=true->∃ n,DotAt n t.1)
set_option maxHeartbeats 4000000 in
theorem rfactor_ok (h:Sc Z b tv toks k (.int .i64 0:: .int .i64 0::rest)) (hends:Ends toks) (hdots:Dots toks) (hb:L b) (hL:∀ q,L q->q<Z.n) (hF:∀ (M:Nat->Prop) (Z':St) (k' p':Nat),M b->(∀ q,M q->q<Z'.n)->k<k'->Sc Z' b tv toks k' (.int .i64 0:: .int .i64 0::rest)->Ev (go Tryz.prog HS (.fn 90) [.pointer (some ⟨b,0,none⟩)] Z') (RfP M Z' b tv toks rest (F k' p')) ⟨⟩) (hB:∀ k' p',Bd k' p' (F k' p')) :
  Ev (go Tryz.prog HS (.fn 174) [.pointer (some ⟨b,0,none⟩)] Z) (RfP L Z b tv toks rest (facS F toks k p)) ⟨⟩:=by
 have hbl:=h.lt
 have hkl:=h.k
 obtain ⟨hlen,hdt⟩:=hdots _ (List.mem_of_getElem? (tokA_at hkl))
 refine ev_go (body:=faC []) Tryz.func174 (by kernel_rfl) rfl ?_
 obtain ⟨X,hX⟩:∃ X,faC [1,1,1]=X:=⟨_,rfl⟩
 rw [fa_e0,fa_e1,fa_e2,hX]
 simp only [faC,Tryz.f174,gd_some,cd_nil,cd_0,cd_1,cd_2,cd_3]
 refine gS ?_
 obtain ⟨S,hS⟩:∃ S,Z.new [str [],.int .i64 0,.int .i64 0,str [],.slice none 0 0] (some 35)=S:=⟨_,rfl⟩
 have ES:Ext Z S:=by rw [<- hS];exact eX
 have nS:S.n=Z.n+1:=by rw [<- hS];rfl
 have zS:S.orow Z.n=some [str [],.int .i64 0,.int .i64 0,str [],.slice none 0 0]:=by rw [<- hS];exact cL
 have h1:=h.ext ES
 rw [hS]
 clear hS
 refine (rdtext_ok h1).mono ?_
 rintro r rfl
 have last:∀ {fr:Fr},headB digB (tokA toks k).1=false->fr.get 0=some (.pointer (some ⟨b,0,none⟩))->fr.get 2=some (.pointer (some ⟨Z.n,0,none⟩))->fr.get 3=some (str (tokA toks k).1)->Ev (lim Tryz.prog HS none X fr S) (RrP L Z b tv toks rest (facS F toks k p)) ⟨⟩:=fun {fr} hd g0 g2 g3=>by
  rw [<- hX]
  exact rfac_rest ES nS zS h1 hbl hends hb hL g0 g2 g3 hF hB hd hlen
 clear hX
 cases hs:(tokA toks k).1 with
 | nil =>
   have d0:decide (([]:By)=[])=true:=rfl
   refine gS1 (aI @d0 (aI @yu_t @yu_f)) ?_
   refine (last (by rw [hs];rfl) (fR) (fR) (by rw [hs];rfl)).mono ?_
   rintro r ⟨fr',τ',row,rfl,b2,bz,hR⟩
   obtain ⟨Z9,row9,e9,hq,-,hf9,-⟩:=id hR
   cases hq
   obtain ⟨y1,y2,y3,y4,y5,rfl⟩:=hf9.five
   have bzr:=row_of bz
   refine gS1 (aI @b2 (aI @bz (aI @bzr @Tryz.results174))) ?_
   exact hR
 | cons c w =>
   have d0:decide ((c::w:By)=[])=false:=rfl
   have q1:sub (c::w) 0 1=some [c]:=rfl
   have hdc:digB ((c.toNat:Nat):Int)=on digB c:=rfl
   refine gS1 (aI @d0 (aI @q1 (aI @oneB_one (aI @yu_t @yu_f)))) ?_
   refine rdigit_ok.mono ?_
   rintro r rfl
   cases hd:on digB c with
   | false =>
     refine gS1 (aI @hdc (aI @hd (aI @yu_t @yu_f))) ?_
     refine (last (by rw [hs,headB_cons];exact hd) (fR) (fR) (by rw [hs];rfl)).mono ?_
     rintro r ⟨fr',τ',row,rfl,b2,bz,hR⟩
     obtain ⟨Z9,row9,e9,hq,-,hf9,-⟩:=id hR
     cases hq
     obtain ⟨y1,y2,y3,y4,y5,rfl⟩:=hf9.five
     have bzr:=row_of bz
     refine gS1 (aI @b2 (aI @bz (aI @bzr @Tryz.results174))) ?_
     exact hR
   | true =>
     have hh:headB digB (tokA toks k).1=true:=by rw [hs,headB_cons];exact hd
     obtain ⟨n0,hn0⟩:=hdt hh
     have eF:facS F toks k p=decS toks k p:=by unfold facS;rw [if_pos hh]
     rw [eF]
     refine gS1 (aI @hdc (aI @hd (aI @yu_t @yu_f))) ?_
     refine (rdecimal2_ok (L:=fun q=>L q\/q=Z.n) (p:=p) h1 hends hlen hn0 (by rw [hs];simp)).mono ?_
     rintro r ⟨Z3,row3,e3,rfl,X3,f3,w3⟩
     obtain ⟨a1,a2,a3,a4,a5,rfl⟩:=f3.five
     have n3:=X3.n
     have z3:Z3.orow Z.n=some [str [],.int .i64 0,.int .i64 0,str [],.slice none 0 0]:=by rw [X3.orow om om];exact zS
     have hbn:b≠Z.n:=om
     refine gS1 (aI @z3 @Tryz.results174) ?_
     cases hD:decS toks k p with
     | error pe =>
       obtain ⟨q,er⟩:=pe
       rw [hD] at w3
       obtain ⟨hne0,k3,hk3,o3⟩:=w3
       exact RfP.err ((ExtX.of ES).trans X3) f3 hne0 hk3 hbn o3
     | ok x =>
       obtain ⟨e3',d3,k2,p2⟩:=x
       rw [hD] at w3
       obtain ⟨rfl,hk2,o3⟩:=w3
       exact RfP.okk ((ExtX.of ES).trans X3) f3 hk2 hbn o3
end
end Go.Proofs.T
namespace Go.Proofs.T
open Go Go.Ab
open Nat (reduceMul reduceEqDiff reduceAdd)
set_option maxRecDepth 100000
theorem op_mul {t:By}:opB [42,47] t=(decide (t=[42])||decide (t=[47])):=by
 match t with
 | []=>rfl
 | [c] =>
   by_cases h1:c=42
   ·subst h1;rfl
   ·by_cases h2:c=47
    ·subst h2;rfl
    ·have e1:decide (([c]:By)=[42])=false:=decide_eq_false (by simp [h1])
     have e2:decide (([c]:By)=[47])=false:=decide_eq_false (by simp [h2])
     rw [e1,e2]
     show (!decide (idxL c [42,47]<0))=false
     have k1:((42:UInt8)==c)=false:=by rw [beq_eq_false_iff_ne];exact fun h=>h1 h.symm
     have k2:((47:UInt8)==c)=false:=by rw [beq_eq_false_iff_ne];exact fun h=>h2 h.symm
     rw [idxL_cons,idxL_cons,k1,k2]
     rfl
 | c::d::r =>
   have e1:decide ((c::d::r:By)=[42])=false:=decide_eq_false (by simp)
   have e2:decide ((c::d::r:By)=[47])=false:=decide_eq_false (by simp)
   rw [e1,e2];rfl
theorem op_add {t:By}:opB [43,45] t=(decide (t=[43])||decide (t=[45])):=by
 match t with
 | []=>rfl
 | [c] =>
   by_cases h1:c=43
   ·subst h1;rfl
   ·by_cases h2:c=45
    ·subst h2;rfl
    ·have e1:decide (([c]:By)=[43])=false:=decide_eq_false (by simp [h1])
     have e2:decide (([c]:By)=[45])=false:=decide_eq_false (by simp [h2])
     rw [e1,e2]
     show (!decide (idxL c [43,45]<0))=false
     have k1:((43:UInt8)==c)=false:=by rw [beq_eq_false_iff_ne];exact fun h=>h1 h.symm
     have k2:((45:UInt8)==c)=false:=by rw [beq_eq_false_iff_ne];exact fun h=>h2 h.symm
     rw [idxL_cons,idxL_cons,k1,k2]
     rfl
 | c::d::r =>
   have e1:decide ((c::d::r:By)=[43])=false:=decide_eq_false (by simp)
   have e2:decide ((c::d::r:By)=[45])=false:=decide_eq_false (by simp)
   rw [e1,e2];rfl
section
variable {L:Nat->Prop} {b:Nat} {Z S τ:St} {tv:Value} {toks:List Tok} {k p:Nat} {rest:List Value} {A:Nat->Nat->Except Er Fx}
def ChJ (L:Nat->Prop) (Z:St) (x b:Nat) (tv:Value) (toks:List Tok) (rest:List Value) (A:Nat->Nat->Except Er Fx) (ops:By) (k:Nat) (R:Except Er Fx) (j:Nat) (Z':St):Prop :=
 ∃ row e,ExtX b Z Z'/\x<Z'.n/\Z'.orow x=some row/\Z'.orow Z.n=some [str [],.int .i64 0,.int .i64 0,str [],.slice none 0 0]/\Fresh (fun q=>(L q\/q=Z.n)\/q=x) Z' row e /\
  ((∃ d k' p',j=toks.length-k'/\k'<toks.length/\k<k'/\Z'.orow b=some (tv:: .int .i64 (k':Nat):: .int .i64 0:: .int .i64 0::rest)/\chainF A ops toks (toks.length-k') (e,d,k',p')=R) \/
   (∃ q er k',j=0/\R= .error (q,er)/\er≠0/\k'<toks.length/\Z'.orow b=some (tv:: .int .i64 (k':Nat):: .int .i64 (q:Nat):: .int .i64 er::rest)))
set_option maxHeartbeats 8000000 in
theorem rterm_ok (h:Sc Z b tv toks k (.int .i64 0:: .int .i64 0::rest)) (hends:Ends toks) (hb:L b) (hL:∀ q,L q->q<Z.n)
  (hA:∀ (M:Nat->Prop) (Z':St) (k' p':Nat),M b->(∀ q,M q->q<Z'.n)->k<=k'->Sc Z' b tv toks k' (.int .i64 0:: .int .i64 0::rest)->Ev (go Tryz.prog HS (.fn 174) [.pointer (some ⟨b,0,none⟩)] Z') (RfP M Z' b tv toks rest (A k' p')) ⟨⟩)
  (hB:∀ k' p',Bd k' p' (A k' p')) :
  Ev (go Tryz.prog HS (.fn 135) [.pointer (some ⟨b,0,none⟩)] Z) (RfP L Z b tv toks rest (chainS A [42,47] toks k p)) ⟨⟩:=by
 have hbl:=h.lt
 have hkl:=h.k
 have hkn:=h.len
 have hbn:b≠Z.n:=om
 refine ev_go Tryz.func135 rfl rfl ?_
 refine gS ?_
 obtain ⟨S,hS⟩:∃ S,Z.new [str [],.int .i64 0,.int .i64 0,str [],.slice none 0 0] (some 35)=S:=⟨_,rfl⟩
 have ES:Ext Z S:=by rw [<- hS];exact eX
 have nS:S.n=Z.n+1:=by rw [<- hS];rfl
 have zS:S.orow Z.n=some [str [],.int .i64 0,.int .i64 0,str [],.slice none 0 0]:=by rw [<- hS];exact cL
 have h1:=h.ext ES
 rw [hS]
 clear hS
 refine (hA (fun q=>L q\/q=Z.n) S k p (.inl hb) (by rintro q (hq|rfl);have:=hL q hq;omega;omega) (Nat.le_refl _) h1).mono ?_
 rintro r ⟨Z3,row3,e3,rfl,X3,f3,w3⟩
 obtain ⟨a1,a2,a3,a4,a5,rfl⟩:=f3.five
 have n3:=X3.n
 obtain ⟨S3,hS3⟩:∃ S3,((Z3.new [str [],.int .i64 0,.int .i64 0,str [],.slice none 0 0] (some 35)).upd Z3.n [a1,a2,a3,a4,a5])=S3:=⟨_,rfl⟩
 have E3:Ext Z3 S3:=by rw [<- hS3];exact eX
 have m3:S3.n=Z3.n+1:=by rw [<- hS3];rfl
 have XS3:ExtX b Z S3:=((ExtX.of ES).trans X3).trans (.of E3)
 have z3:S3.orow Z.n=some [str [],.int .i64 0,.int .i64 0,str [],.slice none 0 0]:=by rw [E3.orow om,X3.orow om om];exact zS
 have c3:S3.orow Z3.n=some [a1,a2,a3,a4,a5]:=by rw [<- hS3];exact cL
 have fa3:Fresh (fun q=>(L q\/q=Z.n)\/q=Z3.n) S3 [a1,a2,a3,a4,a5] e3:=f3.more E3 fun q hq=>by
  rcases hq with hq|rfl
  ·exact .inl hq
  ·exact .inr (Nat.le_refl _)
 obtain ⟨RR,hRR⟩:∃ RR,chainS A [42,47] toks k p=RR:=⟨_,rfl⟩
 have hJ0:∃ j,ChJ L Z Z3.n b tv toks rest A [42,47] k RR j S3:=by
  unfold chainS at hRR
  cases hA1:A k p with
  | error pe =>
    obtain ⟨q,er⟩:=pe
    rw [hA1] at w3 hRR
    obtain ⟨hne0,k3,hk3,o3⟩:=w3
    exact ⟨0,_,e3,XS3,om,c3,z3,fa3,.inr ⟨q,er,k3,rfl,by rw [<- hRR];rfl,hne0,hk3,by rw [E3.orow om];exact o3⟩⟩
  | ok x =>
    obtain ⟨e3',d3,k3,p3⟩:=x
    rw [hA1] at w3 hRR
    obtain ⟨rfl,hk3,o3⟩:=w3
    exact ⟨_,_,e3,XS3,om,c3,z3,fa3,.inl ⟨d3,k3,p3,rfl,hk3,(hB _ _ _ _ _ _ hA1).1,by rw [E3.orow om];exact o3,by rw [<- hRR];rfl⟩⟩
 rw [hRR]
 refine gS1 @hS3 ?_
 try rw [hS3]
 clear hS3 w3 hRR
 obtain ⟨j0,hJ0⟩:=hJ0
 refine ev_loop (fun j fr Z'=>fr.get 0=some (.pointer (some ⟨b,0,none⟩))/\fr.get 2=some (.pointer (some ⟨Z.n,0,none⟩))/\fr.get 3=some (.pointer (some ⟨Z3.n,0,none⟩))/\ChJ L Z Z3.n b tv toks rest A [42,47] k RR j Z')
  (fun r=>∃ fr Z' row e,r=⟨.exit 0,fr,Z'⟩/\fr.get 2=some (.pointer (some ⟨Z.n,0,none⟩))/\fr.get 3=some (.pointer (some ⟨Z3.n,0,none⟩))/\ExtX b Z Z'/\Z3.n<Z'.n/\Z'.orow Z3.n=some row/\Z'.orow Z.n=some [str [],.int .i64 0,.int .i64 0,str [],.slice none 0 0]/\Fresh (fun q=>(L q\/q=Z.n)\/q=Z3.n) Z' row e /\
    ((∃ d k' p',RR= .ok (e,d,k',p')/\k'<toks.length/\Z'.orow b=some (tv:: .int .i64 (k':Nat):: .int .i64 0:: .int .i64 0::rest)) \/
     (∃ q er k',RR= .error (q,er)/\er≠0/\k'<toks.length/\Z'.orow b=some (tv:: .int .i64 (k':Nat):: .int .i64 (q:Nat):: .int .i64 er::rest)))) j0 ?_ ?_ ?_
 ·exact ⟨fR,fR,fR,hJ0⟩
 ·rintro j fr Z' ⟨g0,g2,g3,row,e,XE,hx,cx,zx,fx,hc⟩
  have nE:=XE.n
  rcases hc with ⟨d,k',p',rfl,hk',hkk,ob,hch⟩|⟨q,er,k',rfl,hRe,hne0,hk',ob⟩
  ·have rb:=row_of ob
   have sc:=h.extX XE ob hk'
   obtain ⟨f,hff⟩:∃ f,toks.length-k'=f+1:=⟨toks.length-k'-1,om⟩
   rw [hff,chainF_succ,op_mul] at hch
   have e1:((k':Nat):Int)+1=((k'+1:Nat):Int):=om
   simp (maxSteps:=8000000) (disch:=first|exact dS|fail) only [↓bD,bW,reduceMul,reduceEqDiff,reduceAdd,Nat.reduceBEq,reduceIte,Option.isNone_none,↓ld108,↓ld158,↓ld179,↓fa110_0,↓fa110_1,↓fa110_2,↓fa110_3,↓fa179_0,↓fa179_1,ia108,nn_ptr,g0,rb,yu_t,yu_f]
   refine (rdtext_ok sc).mono ?_
   rintro r rfl
   have stop:(decide ((tokA toks k').1=[42])||decide ((tokA toks k').1=[47]))=false->RR= .ok (e,d,k',p'):=fun hf=>by
    rw [if_neg (by rw [hf];simp)] at hch;exact hch.symm
   -- the operator and what follows
   have go1:(decide ((tokA toks k').1=[42])||decide ((tokA toks k').1=[47]))=true->k'+1<toks.length:=fun ht=>by
    refine hends k' _ (tokA_at hk') fun e0=>?_
    rw [e0] at ht;cases ht
   cases m1:decide ((tokA toks k').1=[42])
   case' false =>
    refine gS1 (aI @m1 (aI @g0 (aI @yu_t @yu_f))) ?_
    refine (rdtext_ok sc).mono ?_
    rintro r rfl
    cases m2:decide ((tokA toks k').1=[47])
    case' false =>
     refine gS1 (aI @m2 (aI @yu_t (aI @yu_f @lp_exit))) ?_
     exact ⟨_,_,row,e,rfl,fR1 g2,fR1 g3,XE,hx,cx,zx,fx,.inl ⟨d,k',p',stop (by rw [m1,m2];rfl),hk',ob⟩⟩
    case' true=>have hop:(decide ((tokA toks k').1=[42])||decide ((tokA toks k').1=[47]))=true:=by rw [m1,m2];rfl
   case' true =>
    have m2:True:=trivial
    have hop:(decide ((tokA toks k').1=[42])||decide ((tokA toks k').1=[47]))=true:=by rw [m1];rfl
   all_goals
    have hk1:=go1 hop
    rw [if_pos hop] at hch
    refine gS1 (aI @m1 (aI @m2 (aI @g0 (aI @yu_t @yu_f)))) ?_
    refine (rdtext_ok sc).mono ?_
    rintro r rfl
    obtain ⟨op,hopn⟩:∃ op,(tokA toks k').1=op:=⟨_,rfl⟩
    obtain ⟨S1,hS1⟩:∃ S1,Z'.upd b (tv:: .int .i64 (k'+1:Nat):: .int .i64 0:: .int .i64 0::rest)=S1:=⟨_,rfl⟩
    have X1:ExtX b Z' S1:=by rw [<- hS1];exact ExtX.refl.upd _
    have n1:S1.n=Z'.n:=by rw [<- hS1];rfl
    have o1:S1.orow b=some (tv:: .int .i64 (k'+1:Nat):: .int .i64 0:: .int .i64 0::rest):=by rw [<- hS1];exact cL
    have sc1:=h.extX (XE.trans X1) o1 hk1
    have hbx:b≠Z3.n:=om
    simp (maxSteps:=8000000) (disch:=first|exact dS|fail) only [↓bD,bW,reduceMul,reduceEqDiff,reduceAdd,Nat.reduceBEq,reduceIte,Option.isNone_none,↓ld108,↓ld158,↓ld179,↓fa110_0,↓fa110_1,↓fa110_2,↓fa110_3,↓fa179_0,↓fa179_1,ia108,nn_ptr,g0,rb,ob,e1,hS1]
    try rw [hS1]
    refine (hA (fun q=>(L q\/q=Z.n)\/q=Z3.n) S1 (k'+1) p' (.inl (.inl hb)) (by rintro q ((hq|rfl)|rfl);have:=hL q hq;omega;omega;omega) om sc1).mono ?_
    rintro r ⟨Z5,row5,e5,rfl,X5,f5,w5⟩
    obtain ⟨b1,b2,b3,b4,b5,rfl⟩:=f5.five
    obtain ⟨x1,x2,x3,x4,x5,rfl⟩:=fx.five
    have n5:=X5.n
    obtain ⟨S5,hS5⟩:∃ S5,((Z5.new [str [],.int .i64 0,.int .i64 0,str [],.slice none 0 0] (some 35)).upd Z5.n [b1,b2,b3,b4,b5])=S5:=⟨_,rfl⟩
    have E5:Ext Z5 S5:=by rw [<- hS5];exact eX
    have m5:S5.n=Z5.n+1:=by rw [<- hS5];rfl
    have XX:ExtX b Z' S5:=(X1.trans X5).trans (.of E5)
    have XS5:ExtX b Z S5:=XE.trans XX
    have z5':S5.orow Z.n=some [str [],.int .i64 0,.int .i64 0,str [],.slice none 0 0]:=by rw [XX.orow om om];exact zx
    have c5:S5.orow Z5.n=some [b1,b2,b3,b4,b5]:=by rw [<- hS5];exact cL
    have c35:S5.orow Z3.n=some [x1,x2,x3,x4,x5]:=by rw [XX.orow om om];exact cx
    have fa5:Fresh (fun q=>(L q\/q=Z.n)\/q=Z3.n) S5 [x1,x2,x3,x4,x5] e:=fx.extX XX (.inl (.inl hb))
    have fb5:Fresh (fun q=>(L q\/q=Z.n)\/q=Z3.n) S5 [b1,b2,b3,b4,b5] e5:=f5.ext E5
    have ca:=row_of c35
    have cb:=row_of c5
    have y2:Fresh (fun q=>(L q\/q=Z.n)\/q=Z3.n) ((S5.new ([x1,x2,x3,x4,x5]++[b1,b2,b3,b4,b5])).upd Z3.n [str op,.int .i64 0,.int .i64 0,str [],.slice (some ⟨S5.n,0,none⟩) 2 2]) [str op,.int .i64 0,.int .i64 0,str [],.slice (some ⟨S5.n,0,none⟩) 2 2] (.mk op 0 0 [] [e,e5]):=by
     refine (fresh_node (lo:=S5.n) (fa5.ext (.new _ _)) (fb5.ext (.new _ _)) (Nat.le_refl _) (by simp) (orow_new_same (Nat.le_refl _) (Nat.le_refl _)) ?_).extX (b:=Z3.n) (ExtX.upd .refl _) (.inr rfl)
     rintro q ((hq|rfl)|rfl)
     ·have:=hL q hq;omega
     ·omega
     ·omega
    have y1:ExtX b Z ((S5.new ([x1,x2,x3,x4,x5]++[b1,b2,b3,b4,b5])).upd Z3.n [str op,.int .i64 0,.int .i64 0,str [],.slice (some ⟨S5.n,0,none⟩) 2 2]):=(XS5.newF _).updF om _
    refine gS1 (aI @g0 (aI @g2 (aI @g3 (aI @hS5 (aI @ca (aI @cb (aI @c35 (aI @hopn @lp_normal)))))))) ?_
    try rw [hopn]
    cases hA2:A (k'+1) p' with
    | error pe =>
      obtain ⟨q,er⟩:=pe
      rw [hA2] at w5 hch
      obtain ⟨hne0,k5,hk5,o5⟩:=w5
      have q5:S5.orow b=some _:=(E5.orow om).trans o5
      exact ⟨0,om,fR1 g0,fR1 g2,fR1 g3,_,_,y1,by show Z3.n<S5.n+1;omega,cL,cL1 z5',y2,.inr ⟨q,er,k5,rfl,by rw [<- hch,thenR_er],hne0,hk5,cL1 q5⟩⟩
    | ok x =>
      obtain ⟨e5',d5,k5,p5⟩:=x
      rw [hA2] at w5 hch
      obtain ⟨rfl,hk5,o5⟩:=w5
      have q5:S5.orow b=some _:=(E5.orow om).trans o5
      have hb5:=(hB _ _ _ _ _ _ hA2).1
      rw [thenR_ok] at hch
      dsimp only at hch
      rw [hopn] at hch
      exact ⟨toks.length-k5,om,fR1 g0,fR1 g2,fR1 g3,_,_,y1,by show Z3.n<S5.n+1;omega,cL,cL1 z5',y2,.inl ⟨1+max d d5,k5,p5+1,rfl,hk5,om,cL1 q5,by
       rw [<- hch]
       exact chainF_fuel (k0:=k) (fun k p _ e d k' p' hx=>(hB _ _ _ _ _ _ hx).1) _ _ _ _ _ _ om om om om fun k hk=>opB_end hk⟩⟩
  ·have rb:=row_of ob
   have d0:decide (er=0)=false:=decide_eq_false hne0
   simp (maxSteps:=8000000) (disch:=first|exact dS|fail) only [↓bD,bW,reduceMul,reduceEqDiff,reduceAdd,Nat.reduceBEq,reduceIte,Option.isNone_none,↓ld108,↓ld158,↓ld179,↓fa110_0,↓fa110_1,↓fa110_2,↓fa110_3,↓fa179_0,↓fa179_1,ia108,nn_ptr,g0,rb,d0,yu_t,yu_f,lp_exit]
   exact ⟨_,_,row,e,rfl,fR1 g2,fR1 g3,XE,hx,cx,zx,fx,.inr ⟨q,er,k',hRe,hne0,hk',ob⟩⟩
 ·rintro r ⟨fr,Z',row,e,rfl,g2,g3,XE,hx,cx,zx,fx,hc⟩
  obtain ⟨x1,x2,x3,x4,x5,rfl⟩:=fx.five
  have rx:=row_of cx
  have fx':Fresh (fun q=>L q\/q=Z.n) Z' [x1,x2,x3,x4,x5] e:=fx.weak fun q hq=> .inl hq
  refine gS1 (aI @g2 (aI @g3 (aI @rx (aI @zx @Tryz.results135)))) ?_
  rcases hc with ⟨d,k',p',hR,hk',ob⟩|⟨q,er,k',hR,hne0,hk',ob⟩
  ·rw [hR];exact RfP.okk XE fx' hk' hbn ob
  ·rw [hR];exact RfP.err XE fx' hne0 hk' hbn ob
set_option maxHeartbeats 8000000 in
theorem rsum_ok (h:Sc Z b tv toks k (.int .i64 0:: .int .i64 0::rest)) (hends:Ends toks) (hb:L b) (hL:∀ q,L q->q<Z.n)
  (hA:∀ (M:Nat->Prop) (Z':St) (k' p':Nat),M b->(∀ q,M q->q<Z'.n)->k<=k'->Sc Z' b tv toks k' (.int .i64 0:: .int .i64 0::rest)->Ev (go Tryz.prog HS (.fn 135) [.pointer (some ⟨b,0,none⟩)] Z') (RfP M Z' b tv toks rest (A k' p')) ⟨⟩)
  (hB:∀ k' p',Bd k' p' (A k' p')) :
  Ev (go Tryz.prog HS (.fn 90) [.pointer (some ⟨b,0,none⟩)] Z) (RfP L Z b tv toks rest (chainS A [43,45] toks k p)) ⟨⟩:=by
 have hbl:=h.lt
 have hkl:=h.k
 have hkn:=h.len
 have hbn:b≠Z.n:=om
 refine ev_go Tryz.func90 rfl rfl ?_
 refine gS ?_
 obtain ⟨S,hS⟩:∃ S,Z.new [str [],.int .i64 0,.int .i64 0,str [],.slice none 0 0] (some 35)=S:=⟨_,rfl⟩
 have ES:Ext Z S:=by rw [<- hS];exact eX
 have nS:S.n=Z.n+1:=by rw [<- hS];rfl
 have zS:S.orow Z.n=some [str [],.int .i64 0,.int .i64 0,str [],.slice none 0 0]:=by rw [<- hS];exact cL
 have h1:=h.ext ES
 rw [hS]
 clear hS
 refine (hA (fun q=>L q\/q=Z.n) S k p (.inl hb) (by rintro q (hq|rfl);have:=hL q hq;omega;omega) (Nat.le_refl _) h1).mono ?_
 rintro r ⟨Z3,row3,e3,rfl,X3,f3,w3⟩
 obtain ⟨a1,a2,a3,a4,a5,rfl⟩:=f3.five
 have n3:=X3.n
 obtain ⟨S3,hS3⟩:∃ S3,((Z3.new [str [],.int .i64 0,.int .i64 0,str [],.slice none 0 0] (some 35)).upd Z3.n [a1,a2,a3,a4,a5])=S3:=⟨_,rfl⟩
 have E3:Ext Z3 S3:=by rw [<- hS3];exact eX
 have m3:S3.n=Z3.n+1:=by rw [<- hS3];rfl
 have XS3:ExtX b Z S3:=((ExtX.of ES).trans X3).trans (.of E3)
 have z3:S3.orow Z.n=some [str [],.int .i64 0,.int .i64 0,str [],.slice none 0 0]:=by rw [E3.orow om,X3.orow om om];exact zS
 have c3:S3.orow Z3.n=some [a1,a2,a3,a4,a5]:=by rw [<- hS3];exact cL
 have fa3:Fresh (fun q=>(L q\/q=Z.n)\/q=Z3.n) S3 [a1,a2,a3,a4,a5] e3:=f3.more E3 fun q hq=>by
  rcases hq with hq|rfl
  ·exact .inl hq
  ·exact .inr (Nat.le_refl _)
 obtain ⟨RR,hRR⟩:∃ RR,chainS A [43,45] toks k p=RR:=⟨_,rfl⟩
 have hJ0:∃ j,ChJ L Z Z3.n b tv toks rest A [43,45] k RR j S3:=by
  unfold chainS at hRR
  cases hA1:A k p with
  | error pe =>
    obtain ⟨q,er⟩:=pe
    rw [hA1] at w3 hRR
    obtain ⟨hne0,k3,hk3,o3⟩:=w3
    exact ⟨0,_,e3,XS3,om,c3,z3,fa3,.inr ⟨q,er,k3,rfl,by rw [<- hRR];rfl,hne0,hk3,by rw [E3.orow om];exact o3⟩⟩
  | ok x =>
    obtain ⟨e3',d3,k3,p3⟩:=x
    rw [hA1] at w3 hRR
    obtain ⟨rfl,hk3,o3⟩:=w3
    exact ⟨_,_,e3,XS3,om,c3,z3,fa3,.inl ⟨d3,k3,p3,rfl,hk3,(hB _ _ _ _ _ _ hA1).1,by rw [E3.orow om];exact o3,by rw [<- hRR];rfl⟩⟩
 rw [hRR]
 refine gS1 @hS3 ?_
 try rw [hS3]
 clear hS3 w3 hRR
 obtain ⟨j0,hJ0⟩:=hJ0
 refine ev_loop (fun j fr Z'=>fr.get 0=some (.pointer (some ⟨b,0,none⟩))/\fr.get 2=some (.pointer (some ⟨Z.n,0,none⟩))/\fr.get 3=some (.pointer (some ⟨Z3.n,0,none⟩))/\ChJ L Z Z3.n b tv toks rest A [43,45] k RR j Z')
  (fun r=>∃ fr Z' row e,r=⟨.exit 0,fr,Z'⟩/\fr.get 2=some (.pointer (some ⟨Z.n,0,none⟩))/\fr.get 3=some (.pointer (some ⟨Z3.n,0,none⟩))/\ExtX b Z Z'/\Z3.n<Z'.n/\Z'.orow Z3.n=some row/\Z'.orow Z.n=some [str [],.int .i64 0,.int .i64 0,str [],.slice none 0 0]/\Fresh (fun q=>(L q\/q=Z.n)\/q=Z3.n) Z' row e /\
    ((∃ d k' p',RR= .ok (e,d,k',p')/\k'<toks.length/\Z'.orow b=some (tv:: .int .i64 (k':Nat):: .int .i64 0:: .int .i64 0::rest)) \/
     (∃ q er k',RR= .error (q,er)/\er≠0/\k'<toks.length/\Z'.orow b=some (tv:: .int .i64 (k':Nat):: .int .i64 (q:Nat):: .int .i64 er::rest)))) j0 ?_ ?_ ?_
 ·exact ⟨fR,fR,fR,hJ0⟩
 ·rintro j fr Z' ⟨g0,g2,g3,row,e,XE,hx,cx,zx,fx,hc⟩
  have nE:=XE.n
  rcases hc with ⟨d,k',p',rfl,hk',hkk,ob,hch⟩|⟨q,er,k',rfl,hRe,hne0,hk',ob⟩
  ·have rb:=row_of ob
   have sc:=h.extX XE ob hk'
   obtain ⟨f,hff⟩:∃ f,toks.length-k'=f+1:=⟨toks.length-k'-1,om⟩
   rw [hff,chainF_succ,op_add] at hch
   have e1:((k':Nat):Int)+1=((k'+1:Nat):Int):=om
   simp (maxSteps:=8000000) (disch:=first|exact dS|fail) only [↓bD,bW,reduceMul,reduceEqDiff,reduceAdd,Nat.reduceBEq,reduceIte,Option.isNone_none,↓ld108,↓ld158,↓ld179,↓fa110_0,↓fa110_1,↓fa110_2,↓fa110_3,↓fa179_0,↓fa179_1,ia108,nn_ptr,g0,rb,yu_t,yu_f]
   refine (rdtext_ok sc).mono ?_
   rintro r rfl
   have stop:(decide ((tokA toks k').1=[43])||decide ((tokA toks k').1=[45]))=false->RR= .ok (e,d,k',p'):=fun hf=>by
    rw [if_neg (by rw [hf];simp)] at hch;exact hch.symm
   -- the operator and what follows
   have go1:(decide ((tokA toks k').1=[43])||decide ((tokA toks k').1=[45]))=true->k'+1<toks.length:=fun ht=>by
    refine hends k' _ (tokA_at hk') fun e0=>?_
    rw [e0] at ht;cases ht
   cases m1:decide ((tokA toks k').1=[43])
   case' false =>
    refine gS1 (aI @m1 (aI @g0 (aI @yu_t @yu_f))) ?_
    refine (rdtext_ok sc).mono ?_
    rintro r rfl
    cases m2:decide ((tokA toks k').1=[45])
    case' false =>
     refine gS1 (aI @m2 (aI @yu_t (aI @yu_f @lp_exit))) ?_
     exact ⟨_,_,row,e,rfl,fR1 g2,fR1 g3,XE,hx,cx,zx,fx,.inl ⟨d,k',p',stop (by rw [m1,m2];rfl),hk',ob⟩⟩
    case' true=>have hop:(decide ((tokA toks k').1=[43])||decide ((tokA toks k').1=[45]))=true:=by rw [m1,m2];rfl
   case' true =>
    have m2:True:=trivial
    have hop:(decide ((tokA toks k').1=[43])||decide ((tokA toks k').1=[45]))=true:=by rw [m1];rfl
   all_goals
    have hk1:=go1 hop
    rw [if_pos hop] at hch
    refine gS1 (aI @m1 (aI @m2 (aI @g0 (aI @yu_t @yu_f)))) ?_
    refine (rdtext_ok sc).mono ?_
    rintro r rfl
    obtain ⟨op,hopn⟩:∃ op,(tokA toks k').1=op:=⟨_,rfl⟩
    obtain ⟨S1,hS1⟩:∃ S1,Z'.upd b (tv:: .int .i64 (k'+1:Nat):: .int .i64 0:: .int .i64 0::rest)=S1:=⟨_,rfl⟩
    have X1:ExtX b Z' S1:=by rw [<- hS1];exact ExtX.refl.upd _
    have n1:S1.n=Z'.n:=by rw [<- hS1];rfl
    have o1:S1.orow b=some (tv:: .int .i64 (k'+1:Nat):: .int .i64 0:: .int .i64 0::rest):=by rw [<- hS1];exact cL
    have sc1:=h.extX (XE.trans X1) o1 hk1
    have hbx:b≠Z3.n:=om
    simp (maxSteps:=8000000) (disch:=first|exact dS|fail) only [↓bD,bW,reduceMul,reduceEqDiff,reduceAdd,Nat.reduceBEq,reduceIte,Option.isNone_none,↓ld108,↓ld158,↓ld179,↓fa110_0,↓fa110_1,↓fa110_2,↓fa110_3,↓fa179_0,↓fa179_1,ia108,nn_ptr,g0,rb,ob,e1,hS1]
    try rw [hS1]
    refine (hA (fun q=>(L q\/q=Z.n)\/q=Z3.n) S1 (k'+1) p' (.inl (.inl hb)) (by rintro q ((hq|rfl)|rfl);have:=hL q hq;omega;omega;omega) om sc1).mono ?_
    rintro r ⟨Z5,row5,e5,rfl,X5,f5,w5⟩
    obtain ⟨b1,b2,b3,b4,b5,rfl⟩:=f5.five
    obtain ⟨x1,x2,x3,x4,x5,rfl⟩:=fx.five
    have n5:=X5.n
    obtain ⟨S5,hS5⟩:∃ S5,((Z5.new [str [],.int .i64 0,.int .i64 0,str [],.slice none 0 0] (some 35)).upd Z5.n [b1,b2,b3,b4,b5])=S5:=⟨_,rfl⟩
    have E5:Ext Z5 S5:=by rw [<- hS5];exact eX
    have m5:S5.n=Z5.n+1:=by rw [<- hS5];rfl
    have XX:ExtX b Z' S5:=(X1.trans X5).trans (.of E5)
    have XS5:ExtX b Z S5:=XE.trans XX
    have z5':S5.orow Z.n=some [str [],.int .i64 0,.int .i64 0,str [],.slice none 0 0]:=by rw [XX.orow om om];exact zx
    have c5:S5.orow Z5.n=some [b1,b2,b3,b4,b5]:=by rw [<- hS5];exact cL
    have c35:S5.orow Z3.n=some [x1,x2,x3,x4,x5]:=by rw [XX.orow om om];exact cx
    have fa5:Fresh (fun q=>(L q\/q=Z.n)\/q=Z3.n) S5 [x1,x2,x3,x4,x5] e:=fx.extX XX (.inl (.inl hb))
    have fb5:Fresh (fun q=>(L q\/q=Z.n)\/q=Z3.n) S5 [b1,b2,b3,b4,b5] e5:=f5.ext E5
    have ca:=row_of c35
    have cb:=row_of c5
    have y2:Fresh (fun q=>(L q\/q=Z.n)\/q=Z3.n) ((S5.new ([x1,x2,x3,x4,x5]++[b1,b2,b3,b4,b5])).upd Z3.n [str op,.int .i64 0,.int .i64 0,str [],.slice (some ⟨S5.n,0,none⟩) 2 2]) [str op,.int .i64 0,.int .i64 0,str [],.slice (some ⟨S5.n,0,none⟩) 2 2] (.mk op 0 0 [] [e,e5]):=by
     refine (fresh_node (lo:=S5.n) (fa5.ext (.new _ _)) (fb5.ext (.new _ _)) (Nat.le_refl _) (by simp) (orow_new_same (Nat.le_refl _) (Nat.le_refl _)) ?_).extX (b:=Z3.n) (ExtX.upd .refl _) (.inr rfl)
     rintro q ((hq|rfl)|rfl)
     ·have:=hL q hq;omega
     ·omega
     ·omega
    have y1:ExtX b Z ((S5.new ([x1,x2,x3,x4,x5]++[b1,b2,b3,b4,b5])).upd Z3.n [str op,.int .i64 0,.int .i64 0,str [],.slice (some ⟨S5.n,0,none⟩) 2 2]):=(XS5.newF _).updF om _
    refine gS1 (aI @g0 (aI @g2 (aI @g3 (aI @hS5 (aI @ca (aI @cb (aI @c35 (aI @hopn @lp_normal)))))))) ?_
    try rw [hopn]
    cases hA2:A (k'+1) p' with
    | error pe =>
      obtain ⟨q,er⟩:=pe
      rw [hA2] at w5 hch
      obtain ⟨hne0,k5,hk5,o5⟩:=w5
      have q5:S5.orow b=some _:=(E5.orow om).trans o5
      exact ⟨0,om,fR1 g0,fR1 g2,fR1 g3,_,_,y1,by show Z3.n<S5.n+1;omega,cL,cL1 z5',y2,.inr ⟨q,er,k5,rfl,by rw [<- hch,thenR_er],hne0,hk5,cL1 q5⟩⟩
    | ok x =>
      obtain ⟨e5',d5,k5,p5⟩:=x
      rw [hA2] at w5 hch
      obtain ⟨rfl,hk5,o5⟩:=w5
      have q5:S5.orow b=some _:=(E5.orow om).trans o5
      have hb5:=(hB _ _ _ _ _ _ hA2).1
      rw [thenR_ok] at hch
      dsimp only at hch
      rw [hopn] at hch
      exact ⟨toks.length-k5,om,fR1 g0,fR1 g2,fR1 g3,_,_,y1,by show Z3.n<S5.n+1;omega,cL,cL1 z5',y2,.inl ⟨1+max d d5,k5,p5+1,rfl,hk5,om,cL1 q5,by
       rw [<- hch]
       exact chainF_fuel (k0:=k) (fun k p _ e d k' p' hx=>(hB _ _ _ _ _ _ hx).1) _ _ _ _ _ _ om om om om fun k hk=>opB_end hk⟩⟩
  ·have rb:=row_of ob
   have d0:decide (er=0)=false:=decide_eq_false hne0
   simp (maxSteps:=8000000) (disch:=first|exact dS|fail) only [↓bD,bW,reduceMul,reduceEqDiff,reduceAdd,Nat.reduceBEq,reduceIte,Option.isNone_none,↓ld108,↓ld158,↓ld179,↓fa110_0,↓fa110_1,↓fa110_2,↓fa110_3,↓fa179_0,↓fa179_1,ia108,nn_ptr,g0,rb,d0,yu_t,yu_f,lp_exit]
   exact ⟨_,_,row,e,rfl,fR1 g2,fR1 g3,XE,hx,cx,zx,fx,.inr ⟨q,er,k',hRe,hne0,hk',ob⟩⟩
 ·rintro r ⟨fr,Z',row,e,rfl,g2,g3,XE,hx,cx,zx,fx,hc⟩
  obtain ⟨x1,x2,x3,x4,x5,rfl⟩:=fx.five
  have rx:=row_of cx
  have fx':Fresh (fun q=>L q\/q=Z.n) Z' [x1,x2,x3,x4,x5] e:=fx.weak fun q hq=> .inl hq
  refine gS1 (aI @g2 (aI @g3 (aI @rx (aI @zx @Tryz.results90)))) ?_
  rcases hc with ⟨d,k',p',hR,hk',ob⟩|⟨q,er,k',hR,hne0,hk',ob⟩
  ·rw [hR];exact RfP.okk XE fx' hk' hbn ob
  ·rw [hR];exact RfP.err XE fx' hne0 hk' hbn ob
theorem rformula_ok (hends:Ends toks) (hdots:Dots toks):∀ (f:Nat) (L:Nat->Prop) (Z:St) (k p:Nat),toks.length-k<=f->L b->(∀ q,L q->q<Z.n)->Sc Z b tv toks k (.int .i64 0:: .int .i64 0::rest) ->
  Ev (go Tryz.prog HS (.fn 90) [.pointer (some ⟨b,0,none⟩)] Z) (RfP L Z b tv toks rest (fmlF toks f k p)) ⟨⟩:=by
 intro f
 induction f with
 | zero=>intro L Z k p hf hb hL h;have:=h.k;omega
 | succ f ih =>
   intro L Z k p hf hb hL h
   refine rsum_ok (A:=fun k p=>chainS (facS (fmlF toks f) toks) [42,47] toks k p) h hends hb hL ?_ fun k p=>chainS_bd (fun k p=>facS_bd (fmlF_bd f) k p) k p
   intro M Z' k' p' hM hML hk h'
   refine rterm_ok (A:=facS (fmlF toks f) toks) h' hends hM hML ?_ fun k p=>facS_bd (fmlF_bd f) k p
   intro M2 Z2 k2 p2 hM2 hML2 hk2 h2
   refine rfactor_ok h2 hends hdots hM2 hML2 ?_ (fmlF_bd f)
   intro M3 Z3 k3 p3 hM3 hML3 hk3 h3
   exact ih M3 Z3 k3 p3 (by have:=h2.k;omega) hM3 hML3 h3
end
end Go.Proofs.T
