/- The reference's read and Formula. -/
import Derived.Test.YtbcanmagihejhaaGreatDoorPE
import Derived.Test.YtbcanmagihejhaaGreatDoorSB
import Derived.Test.YtbcanmagihejhaaGreatDoorRC
import Derived.Test.YtbcanmagihejhaaGreatDoorRA
import Derived.Test.YtbcanmagihejhaaGreatDoorBA
set_option linter.unusedSimpArgs false
set_option linter.unusedVariables false
namespace Go.Proofs.T
open Go Go.Ab
open Nat (reduceMul reduceEqDiff reduceAdd)
set_option maxRecDepth 100000
set_option maxHeartbeats 8000000 in
theorem rread_ok {Z:St}{s:By}{from' to:Nat}{toks:List Tok}(hft:from'<=to) (hto:to<=s.length) (hs:s.length<10000000) (ht:fT (s.take to) 0 (to-from') from'++[([],to)]=toks) (hends:Ends toks) (hdig:DigT toks) (hsh:ShortF toks) :
  Ev (go Tryz.prog HS (.fn 53) [str s,.int .i64 (from':Nat),.int .i64 (to:Nat)] Z) (FoP Z (readS toks)) ⟨⟩:=by
 refine ev_go Tryz.func53 rfl rfl ?_
 have hlen0:0<toks.length:=by rw [<- ht];simp
 have hlen1:toks.length<=10000001:=by
  have:=fT_len (s:=s.take to) (from':=0) (to-from') from'
  rw [<- ht,List.length_append,List.length_singleton]
  rw [List.length_take] at this
  omega
 refine gS ?_
 refine (rparts_ok' hft hto hs).mono ?_
 rw [ht]
 rintro r ⟨fv,Z1,rfl,hol,hE1⟩
 obtain ⟨fa,rfl⟩:=OL.shape hol
 rw [List.length_map] at *
 have n1:=hE1.n
 simp only [new_n] at n1
 have hol':=OL.sl hol
 have hblk:blkOf (.slice fa toks.length toks.length)≠some Z1.n:=fun e=>by have:=(hol.blk e).2;omega
 simp (maxSteps:=8000000) (disch:=first|exact dS|fail) only [↓bD,bW,reduceMul,reduceEqDiff,reduceAdd,Nat.reduceBEq,reduceIte,Option.isNone_none,↓ld108,↓ld158,↓ld179,↓fa110_0,↓fa110_1,↓fa110_2,↓fa110_3,↓fa179_0,↓fa179_1,ia108,nn_ptr,bv110,ze110]
 obtain ⟨S,hS⟩:∃ S,Z1.new [.slice fa toks.length toks.length,.int .i64 0,.int .i64 0,.int .i64 0]=S:=⟨_,rfl⟩
 have E1:Ext Z1 S:=by rw [<- hS];exact eX
 have ES:Ext Z S:=(Ext.trans (.new _ _) hE1).trans E1
 have nS:S.n=Z1.n+1:=by rw [<- hS];rfl
 have zS:S.orow Z.n=some [str [],.int .i64 0,.int .i64 0,str [],.slice none 0 0]:=by rw [E1.orow om,hE1.orow (by simp)];exact cL
 have oS:S.orow Z1.n=some [.slice fa toks.length toks.length,.int .i64 (0:Nat),.int .i64 0,.int .i64 0]:=by rw [<- hS];exact cL
 have h:Sc S Z1.n (.slice fa toks.length toks.length) toks 0 [.int .i64 0,.int .i64 0]:=⟨oS,om,hol'.mono E1,hblk,hlen0,om⟩
 try rw [hS]
 clear hS
 obtain ⟨rd1,rd2⟩:=fml_rd hends hdig toks.length 0 0 om hlen0
 refine (rformula_ok (rest:=[]) hends (hdig.dots hsh) toks.length (fun q=>q<S.n) S 0 0 om om (fun q hq=>hq) h).mono ?_
 rintro r ⟨Z3,row3,e3,rfl,X3,f3,w3⟩
 obtain ⟨a1,a2,a3,a4,a5,rfl⟩:=f3.five
 have n3:=X3.n
 obtain ⟨S3,hS3⟩:∃ S3,((Z3.new [str [],.int .i64 0,.int .i64 0,str [],.slice none 0 0] (some 35)).upd Z3.n [a1,a2,a3,a4,a5])=S3:=⟨_,rfl⟩
 have E3:Ext Z3 S3:=by rw [<- hS3];exact eX
 have m3:S3.n=Z3.n+1:=by rw [<- hS3];rfl
 have XS3:ExtX Z1.n S S3:=X3.trans (.of E3)
 have c3:S3.orow Z3.n=some [a1,a2,a3,a4,a5]:=by rw [<- hS3];exact cL
 have rc3:=row_of c3
 have fa3:Fresh (fun q=>q<S.n) S3 [a1,a2,a3,a4,a5] e3:=f3.ext E3
 have hbn:Z1.n≠Z.n:=om
 unfold readS
 cases hF1:fmlF toks toks.length 0 0 with
 | error pe =>
   obtain ⟨q,er⟩:=pe
   rw [hF1] at w3
   obtain ⟨hne0,k3,hk3,o3⟩:=w3
   have q3:S3.orow Z1.n=some _:=(E3.orow om).trans o3
   have rr3:=row_of q3
   have d0:decide (er=0)=false:=decide_eq_false hne0
   rw [thenR_er]
   simp (maxSteps:=8000000) (disch:=first|exact dS|fail) only [↓bD,bW,reduceMul,reduceEqDiff,reduceAdd,Nat.reduceBEq,reduceIte,Option.isNone_none,↓ld108,↓ld158,↓ld179,↓fa110_0,↓fa110_1,↓fa110_2,↓fa110_3,↓fa179_0,↓fa179_1,ia108,nn_ptr,bv110,ze110,hS3,rr3,d0,yu_t,yu_f]
   try rw [hS3]
   have rb9:=row_of q3
   have d9:decide (er=0)=false:=d0
   have z9:S3.orow Z.n=some [str [],.int .i64 0,.int .i64 0,str [],.slice none 0 0]:=by rw [XS3.orow om om];exact zS
   simp (maxSteps:=8000000) (disch:=first|exact dS|fail) only [↓bD,bW,reduceMul,reduceEqDiff,reduceAdd,Nat.reduceBEq,reduceIte,Option.isNone_none,↓ld108,↓ld158,↓ld179,↓fa110_0,↓fa110_1,↓fa110_2,↓fa110_3,↓fa179_0,↓fa179_1,ia108,nn_ptr,bv110,ze110,rb9,d9,z9,yu_t,yu_f,Tryz.results53]
   try refine Must.intro (by (repeat first|simp (disch:=omega) only [as_read,as_upd,as_newb,asx (Ext.refl _)]|rw [as_ord (by kernel_rfl)]);first|done|rfl) ?_
   try simp (maxSteps:=8000000) (disch:=first|exact dS|fail) only [↓bD,bW,reduceMul,reduceEqDiff,reduceAdd,Nat.reduceBEq,reduceIte,Option.isNone_none,↓ld108,↓ld158,↓ld179,↓fa110_0,↓fa110_1,↓fa110_2,↓fa110_3,↓fa179_0,↓fa179_1,ia108,nn_ptr,bv110,ze110,rb9,z9,yu_t,yu_f,Tryz.results53]
   exact ⟨_,rfl,(XS3.ext ES om).upd om _⟩
 | ok x =>
   obtain ⟨e3',d3,k2,p2⟩:=x
   obtain ⟨-,hfw,-⟩:=rd1 _ _ _ _ hF1
   have hbd:=(fmlF_bd _ _ _ _ _ _ _ hF1)
   rw [hF1] at w3
   obtain ⟨rfl,hk2,o3⟩:=w3
   have q3:S3.orow Z1.n=some _:=(E3.orow om).trans o3
   have rr3:=row_of q3
   have sc3:=h.extX XS3 q3 hk2
   rw [Nat.sub_zero] at hfw
   rw [thenR_ok]
   dsimp only
   simp (maxSteps:=8000000) (disch:=first|exact dS|fail) only [↓bD,bW,reduceMul,reduceEqDiff,reduceAdd,Nat.reduceBEq,reduceIte,Option.isNone_none,↓ld108,↓ld158,↓ld179,↓fa110_0,↓fa110_1,↓fa110_2,↓fa110_3,↓fa179_0,↓fa179_1,ia108,nn_ptr,bv110,ze110,hS3,rr3,yu_t,yu_f]
   try rw [hS3]
   refine (rdtext_ok sc3).mono ?_
   rintro r rfl
   cases ce:decide ((tokA toks k2).1=[]) with
   | false =>
     rw [if_neg (of_decide_eq_false ce)]
     refine gS1 (aI @ce (aI @yu_t @yu_f)) ?_
     refine (rdfail_ok (e:=12) sc3).mono ?_
     rintro r ⟨Z4,rfl,X4,o4⟩
     have n4:=X4.n
     have XS4:=XS3.trans X4
     have rr4:=row_of o4
     simp (maxSteps:=8000000) (disch:=first|exact dS|fail) only [↓bD,bW,reduceMul,reduceEqDiff,reduceAdd,Nat.reduceBEq,reduceIte,Option.isNone_none,↓ld108,↓ld158,↓ld179,↓fa110_0,↓fa110_1,↓fa110_2,↓fa110_3,↓fa179_0,↓fa179_1,ia108,nn_ptr,bv110,ze110,rr4,yu_t,yu_f]
     have rb9:=row_of o4
     have d9:decide ((12:Int)=0)=false:=rfl
     have z9:Z4.orow Z.n=some [str [],.int .i64 0,.int .i64 0,str [],.slice none 0 0]:=by rw [XS4.orow om om];exact zS
     simp (maxSteps:=8000000) (disch:=first|exact dS|fail) only [↓bD,bW,reduceMul,reduceEqDiff,reduceAdd,Nat.reduceBEq,reduceIte,Option.isNone_none,↓ld108,↓ld158,↓ld179,↓fa110_0,↓fa110_1,↓fa110_2,↓fa110_3,↓fa179_0,↓fa179_1,ia108,nn_ptr,bv110,ze110,rb9,d9,z9,yu_t,yu_f,Tryz.results53]
     try refine Must.intro (by (repeat first|simp (disch:=omega) only [as_read,as_upd,as_newb,asx (Ext.refl _)]|rw [as_ord (by kernel_rfl)]);first|done|rfl) ?_
     try simp (maxSteps:=8000000) (disch:=first|exact dS|fail) only [↓bD,bW,reduceMul,reduceEqDiff,reduceAdd,Nat.reduceBEq,reduceIte,Option.isNone_none,↓ld108,↓ld158,↓ld179,↓fa110_0,↓fa110_1,↓fa110_2,↓fa110_3,↓fa179_0,↓fa179_1,ia108,nn_ptr,bv110,ze110,rb9,z9,yu_t,yu_f,Tryz.results53]
     exact ⟨_,rfl,(XS4.ext ES om).upd om _⟩
   | true =>
     rw [if_pos (of_decide_eq_true ce)]
     have ax:ExAt S3 [a1,a2,a3,a4,a5] e3:=fa3.at
     have hp9:p2<=1000000000:=om
     have e60:decide ((60:Int)<((p2:Nat):Int))=decide (60<p2):=by rw [Bool.eq_iff_iff,decide_eq_true_iff,decide_eq_true_iff];omega
     have e12:decide ((12:Int)<((d3:Nat):Int))=decide (12<d3):=by rw [Bool.eq_iff_iff,decide_eq_true_iff,decide_eq_true_iff];omega
     simp (maxSteps:=8000000) (disch:=first|exact dS|fail) only [↓bD,bW,reduceMul,reduceEqDiff,reduceAdd,Nat.reduceBEq,reduceIte,Option.isNone_none,↓ld108,↓ld158,↓ld179,↓fa110_0,↓fa110_1,↓fa110_2,↓fa110_3,↓fa179_0,↓fa179_1,ia108,nn_ptr,bv110,ze110,ce,rr3,rc3,yu_t,yu_f]
     refine (rparts_ok _ (Nat.lt_succ_self _) hp9 hfw ax).mono ?_
     rintro r ⟨Z4,rfl,hE4⟩
     have n4:=hE4.n
     have q4:Z4.orow Z1.n=some _:=(hE4.orow om).trans q3
     have rr4:=row_of q4
     have rc4:Z4.row Z3.n=some [a1,a2,a3,a4,a5]:=by rw [hE4.row om];exact rc3
     have XS4:=XS3.trans (.of hE4)
     -- too great
     have many:∀ {τ:St},Ext Z4 τ->Sc (τ.upd Z1.n [.slice fa toks.length toks.length,.int .i64 (0:Nat),.int .i64 0,.int .i64 0]) Z1.n (.slice fa toks.length toks.length) toks 0 [.int .i64 0,.int .i64 0]/\τ.orow Z1.n=some [.slice fa toks.length toks.length,.int .i64 (k2:Nat),.int .i64 0,.int .i64 0]/\ExtX Z1.n S (τ.upd Z1.n [.slice fa toks.length toks.length,.int .i64 (0:Nat),.int .i64 0,.int .i64 0]):=fun {τ} hT=>by
      have X:ExtX Z1.n S (τ.upd Z1.n [.slice fa toks.length toks.length,.int .i64 (0:Nat),.int .i64 0,.int .i64 0]):=(XS4.trans (.of hT)).upd _
      exact ⟨h.extX X orow_upd_same hlen0,(hT.orow om).trans q4,X⟩
     cases h60:decide (60<p2) with
     | true =>
       rw [if_pos (by simp)]
       obtain ⟨scm,qm,Xm⟩:=many (.refl Z4)
       have rqm:=row_of qm
       simp (maxSteps:=8000000) (disch:=first|exact dS|fail) only [↓bD,bW,reduceMul,reduceEqDiff,reduceAdd,Nat.reduceBEq,reduceIte,Option.isNone_none,↓ld108,↓ld158,↓ld179,↓fa110_0,↓fa110_1,↓fa110_2,↓fa110_3,↓fa179_0,↓fa179_1,ia108,nn_ptr,bv110,ze110,e60,h60,yu_t,yu_f,qm,rqm]
       refine (rdfail_ok (e:=2) scm).mono ?_
       rintro r ⟨Z6,rfl,X6,o6⟩
       have n6:=X6.n
       simp only [upd_n] at n6
       have XS6:=Xm.trans X6
       have rr6:=row_of o6
       simp (maxSteps:=8000000) (disch:=first|exact dS|fail) only [↓bD,bW,reduceMul,reduceEqDiff,reduceAdd,Nat.reduceBEq,reduceIte,Option.isNone_none,↓ld108,↓ld158,↓ld179,↓fa110_0,↓fa110_1,↓fa110_2,↓fa110_3,↓fa179_0,↓fa179_1,ia108,nn_ptr,bv110,ze110,rr6,yu_t,yu_f]
       have rb9:=row_of o6
       have d9:decide ((2:Int)=0)=false:=rfl
       have z9:Z6.orow Z.n=some [str [],.int .i64 0,.int .i64 0,str [],.slice none 0 0]:=by rw [XS6.orow om om];exact zS
       simp (maxSteps:=8000000) (disch:=first|exact dS|fail) only [↓bD,bW,reduceMul,reduceEqDiff,reduceAdd,Nat.reduceBEq,reduceIte,Option.isNone_none,↓ld108,↓ld158,↓ld179,↓fa110_0,↓fa110_1,↓fa110_2,↓fa110_3,↓fa179_0,↓fa179_1,ia108,nn_ptr,bv110,ze110,rb9,d9,z9,yu_t,yu_f,Tryz.results53]
       try refine Must.intro (by (repeat first|simp (disch:=omega) only [as_read,as_upd,as_newb,asx (Ext.refl _)]|rw [as_ord (by kernel_rfl)]);first|done|rfl) ?_
       try simp (maxSteps:=8000000) (disch:=first|exact dS|fail) only [↓bD,bW,reduceMul,reduceEqDiff,reduceAdd,Nat.reduceBEq,reduceIte,Option.isNone_none,↓ld108,↓ld158,↓ld179,↓fa110_0,↓fa110_1,↓fa110_2,↓fa110_3,↓fa179_0,↓fa179_1,ia108,nn_ptr,bv110,ze110,rb9,z9,yu_t,yu_f,Tryz.results53]
       exact ⟨_,rfl,(XS6.ext ES om).upd om _⟩
     | false =>
       simp (maxSteps:=8000000) (disch:=first|exact dS|fail) only [↓bD,bW,reduceMul,reduceEqDiff,reduceAdd,Nat.reduceBEq,reduceIte,Option.isNone_none,↓ld108,↓ld158,↓ld179,↓fa110_0,↓fa110_1,↓fa110_2,↓fa110_3,↓fa179_0,↓fa179_1,ia108,nn_ptr,bv110,ze110,e60,h60,rc4,yu_t,yu_f]
       refine (rdepth_ok _ (Nat.lt_succ_self _) hp9 hfw (ax.mono hE4)).mono ?_
       rintro r ⟨Z5,rfl,hE5⟩
       have n5:=hE5.n
       cases h12:decide (12<d3) with
       | true =>
         rw [if_pos (by simp)]
         obtain ⟨scm,qm,Xm⟩:=many hE5
         have rqm:=row_of qm
         simp (maxSteps:=8000000) (disch:=first|exact dS|fail) only [↓bD,bW,reduceMul,reduceEqDiff,reduceAdd,Nat.reduceBEq,reduceIte,Option.isNone_none,↓ld108,↓ld158,↓ld179,↓fa110_0,↓fa110_1,↓fa110_2,↓fa110_3,↓fa179_0,↓fa179_1,ia108,nn_ptr,bv110,ze110,e12,h12,yu_t,yu_f,qm,rqm]
         refine (rdfail_ok (e:=2) scm).mono ?_
         rintro r ⟨Z6,rfl,X6,o6⟩
         have n6:=X6.n
         simp only [upd_n] at n6
         have XS6:=Xm.trans X6
         have rr6:=row_of o6
         simp (maxSteps:=8000000) (disch:=first|exact dS|fail) only [↓bD,bW,reduceMul,reduceEqDiff,reduceAdd,Nat.reduceBEq,reduceIte,Option.isNone_none,↓ld108,↓ld158,↓ld179,↓fa110_0,↓fa110_1,↓fa110_2,↓fa110_3,↓fa179_0,↓fa179_1,ia108,nn_ptr,bv110,ze110,rr6,yu_t,yu_f]
         have rb9:=row_of o6
         have d9:decide ((2:Int)=0)=false:=rfl
         have z9:Z6.orow Z.n=some [str [],.int .i64 0,.int .i64 0,str [],.slice none 0 0]:=by rw [XS6.orow om om];exact zS
         simp (maxSteps:=8000000) (disch:=first|exact dS|fail) only [↓bD,bW,reduceMul,reduceEqDiff,reduceAdd,Nat.reduceBEq,reduceIte,Option.isNone_none,↓ld108,↓ld158,↓ld179,↓fa110_0,↓fa110_1,↓fa110_2,↓fa110_3,↓fa179_0,↓fa179_1,ia108,nn_ptr,bv110,ze110,rb9,d9,z9,yu_t,yu_f,Tryz.results53]
         try refine Must.intro (by (repeat first|simp (disch:=omega) only [as_read,as_upd,as_newb,asx (Ext.refl _)]|rw [as_ord (by kernel_rfl)]);first|done|rfl) ?_
         try simp (maxSteps:=8000000) (disch:=first|exact dS|fail) only [↓bD,bW,reduceMul,reduceEqDiff,reduceAdd,Nat.reduceBEq,reduceIte,Option.isNone_none,↓ld108,↓ld158,↓ld179,↓fa110_0,↓fa110_1,↓fa110_2,↓fa110_3,↓fa179_0,↓fa179_1,ia108,nn_ptr,bv110,ze110,rb9,z9,yu_t,yu_f,Tryz.results53]
         exact ⟨_,rfl,(XS6.ext ES om).upd om _⟩
       | false =>
         rw [if_neg (by simp)]
         have q5:Z5.orow Z1.n=some _:=(hE5.orow om).trans q4
         have rr5:=row_of q5
         have rc5:Z5.row Z3.n=some [a1,a2,a3,a4,a5]:=by rw [hE5.row om];exact rc4
         have XS5:=XS4.trans (.of hE5)
         have z5':Z5.orow Z.n=some [str [],.int .i64 0,.int .i64 0,str [],.slice none 0 0]:=by rw [XS5.orow om om];exact zS
         simp (maxSteps:=8000000) (disch:=first|exact dS|fail) only [↓bD,bW,reduceMul,reduceEqDiff,reduceAdd,Nat.reduceBEq,reduceIte,Option.isNone_none,↓ld108,↓ld158,↓ld179,↓fa110_0,↓fa110_1,↓fa110_2,↓fa110_3,↓fa179_0,↓fa179_1,ia108,nn_ptr,bv110,ze110,e12,h12,rr5,rc5,z5',yu_t,yu_f,Tryz.results53]
         refine ⟨_,[a1,a2,a3,a4,a5],rfl,(XS5.ext ES om).upd om _,?_⟩
         exact (((fa3.ext hE4).ext hE5).extX (b:=Z.n) (ExtX.upd .refl _) (by show Z.n<S.n;omega)).weak fun q hq=>by show q<S.n;omega
theorem rFormula_ok {Z:St}{s:By}(hs:s.length<10000000) (hsh:ShortF (fToks s 0)) :
  Ev (go Tryz.prog HS (.fn 25) [str s] Z) (FoP Z (readS (fToks s 0))) ⟨⟩:=by
 have ht:fT (s.take s.length) 0 (s.length-0) 0++[([],s.length)]=fToks s 0:=by
  unfold fToks
  rw [List.take_length,Nat.sub_zero,Nat.zero_add]
 refine ev_go Tryz.func25 rfl rfl ?_
 refine gS ?_
 refine (rread_ok (from':=0) (Nat.zero_le _) (Nat.le_refl _) hs ht ends_ftoks fToks_dig hsh).mono ?_
 intro r
 cases hR:readS (fToks s 0) with
 | error pe =>
   obtain ⟨p,e⟩:=pe
   rintro ⟨Z',rfl,hE⟩
   have hn:=hE.n
   simp only [new_n] at hn
   have zr:Z'.orow Z.n=some [str [],.int .i64 0,.int .i64 0,str [],.slice none 0 0]:=by rw [hE.orow (by simp)];exact cL
   unfold Go.Proofs.T.z5
   refine gS1 (aI @zr @Tryz.results25) ?_
   exact ⟨_,rfl,(Ext.trans (.new _ _) hE).upd om _⟩
 | ok e =>
   rintro ⟨Z',row,rfl,hE,hf⟩
   obtain ⟨u1,u2,u3,u4,u5,rfl⟩:=hf.five
   have hn:=hE.n
   simp only [new_n] at hn
   have zr:Z'.orow Z.n=some [str [],.int .i64 0,.int .i64 0,str [],.slice none 0 0]:=by rw [hE.orow (by simp)];exact cL
   refine gS1 (aI @zr @Tryz.results25) ?_
   exact ⟨_,_,rfl,(Ext.trans (.new _ _) hE).upd om _,(hf.extX (b:=Z.n) (ExtX.upd .refl _) (by show Z.n<Z.n+1;omega)).weak fun q hq=>by show q<Z.n+1;omega⟩
end Go.Proofs.T
namespace Go.Proofs.T
open Go Go.Ab
open Nat (reduceMul reduceEqDiff reduceAdd)
set_option maxRecDepth 100000
def soupP:List By:=[[116,101,110,100,101,114],[108,111,116],[99,114,105,116,101,114,105,111,110],[114,101,113,117,105,114,101],[112,114,105,99,101],[102,111,114,109,117,108,97],[116,105,101],[109,111,115,116],[99,111,109,98,111],[98,117,100,103,101,116],[116,105,109,101,115],[103,114,97,100,101],[111,102,102,101,114],[108,101,115,115],[60,61],[62,61],[115,112,101,101,100],[108,111,119],[49],[50],[48],[48,48,55],[49,48,48,48,48,48,48,48,48,49],[48,46,53],[49,46,53,48],[43],[45],[42],[47],[40],[41],[44],[109,105,110],[109,97,120],[10],[10],[63],[95,120],[120,95,49]]
theorem soup_at {x:Nat}(h:x<39):∃ p:By,sub (soupP.map str) x 1=some [str p]/\p.length<=10:=by
 obtain ⟨p,hp⟩:=at_some (l:=soupP) (k:=x) h
 refine ⟨p,sub_at1 (by rw [List.getElem?_map,hp];rfl),?_⟩
 exact of_decide_eq_true (List.all_eq_true.1 (show soupP.all (fun p=>decide (p.length<=10))=true by decide) p (List.mem_of_getElem? hp))
noncomputable def spC (l:List Nat):Code:=cdAt l ((Tryz.f15).body.getD .skip)
theorem sp_e0:spC []= .seq (spC [0]) (spC [1]):=by kernel_rfl
theorem sp_e1:spC [1]= .seq (spC [1,0]) (spC [1,1]):=by kernel_rfl
noncomputable def spOps:List Oper:=match spC [1,0] with
 | .region _ ops _=>ops.toList
 | _=>[]
noncomputable def spP:Array (Nat×Operand):=match spOps with
 | ⟨_,.buildSlice _ _ ps,_,_,_,_⟩::_=>ps
 | _=>#[]
theorem sp_reg:spC [1,0]= .region 1 spOps.toArray false:=by kernel_rfl
theorem sp_ops:∃ p1 a1 p2 a2,spOps=[⟨some 7,.buildSlice 36 39 spP,36,p1,a1,none⟩,⟨some 3,.assign (.tmp 7),36,p2,a2,none⟩]:=⟨_,_,_,_,rfl⟩
theorem soup_sl {fr:Fr}:nSlice Tryz.prog fr 36 39 spP=some (soupP.map str,fun n=> .slice (some ⟨n,0,none⟩) 39 39):=by kernel_rfl
theorem sp_parts {fr:Fr}{Z:St}:Ev (lim Tryz.prog HS none (spC [1,0]) fr Z) (fun r=>r=⟨.normal,(fr.set 7 (.slice (some ⟨Z.n,0,none⟩) 39 39)).set 3 (.slice (some ⟨Z.n,0,none⟩) 39 39),Z.new (soupP.map str)⟩) ⟨⟩:=by
 obtain ⟨p1,a1,p2,a2,e⟩:=sp_ops
 rw [sp_reg,e,er_region,evV_buildSlice,soup_sl,ev_some]
 dsimp only
 refine gS ?_;try exact ⟨⟩
set_option maxHeartbeats 4000000 in
theorem rsoup_ok {Z:St}{v:Value}{l:List Int}(hl:ArgInts Z v l) (hll:l.length<=9223372036854775807) :
  Ev (go Tryz.prog HS (.fn 15) [v] Z) (fun r=>∃ (s:By) (Z':St),r=⟨false,str s,Z'⟩/\s.length<=660/\Ext Z Z') ⟨⟩:=by
 obtain ⟨a,c,b,off,cells,rfl,l1,l2⟩:=hl.1.use
 refine ev_go (body:=spC []) Tryz.func15 (by kernel_rfl) rfl ?_
 obtain ⟨X,hX⟩:∃ X,spC [1,0]=X:=⟨_,rfl⟩
 rw [sp_e0,sp_e1,hX]
 simp only [spC,Tryz.f15,gd_some,cd_nil,cd_0,cd_1,cd_2,cd_3]
 refine gS ?_
 rw [<- hX]
 refine sp_parts.mono ?_
 rintro r rfl
 clear hX
 refine gS ?_
 obtain ⟨S,hS⟩:∃ S,Z.new (soupP.map str)=S:=⟨_,rfl⟩
 have ES:Ext Z S:=by rw [<- hS];exact eX
 have rS:S.row Z.n=some (soupP.map str):=by rw [<- hS];exact row_new_same (Nat.le_refl _) (Nat.le_refl _)
 rw [hS]
 clear hS
 refine ev_count (min l.length 60) (fun i fr Z'=>∃ s:By,fr.get 0=some (.slice a l.length c)/\fr.get 3=some (.slice (some ⟨Z.n,0,none⟩) 39 39)/\fr.get 5=some (.int .i64 (i:Nat))/\fr.get 4=some (str s)/\s.length<=11*i/\Z'=S)
  (fun r=>∃ fr s,r=⟨.exit 0,fr,S⟩/\fr.get 4=some (str s)/\s.length<=660) ?_ ?_ ?_ ?_
 ·exact ⟨[],fR,fR,fR,fR,by simp,rfl⟩
 ·rintro i fr Z' hi ⟨s,g0,g3,g5,g4,hs,rfl⟩
  have hi1:i<l.length:=om
  obtain ⟨y,hy⟩:=at_some hi1
  obtain ⟨sp,rfl,l3,l4⟩:=l1 om
  have s1:=l2 i y hy
  have lS:Z'.row b=some cells:=by rw [ES.row l3];exact l4
  have c1:decide (((i:Nat):Int)<((l.length:Nat):Int))=true:=decide_eq_true om
  have c2:decide (((i:Nat):Int)<60)=true:=decide_eq_true om
  have c3:decide (i<l.length)=true:=decide_eq_true hi1
  have e3:((i:Nat):Int)+1=((i+1:Nat):Int):=om
  have hn64:=hl.2 y (List.mem_of_getElem? hy)
  refine gS1 (aI @g0 (aI @g3 (aI @g4 (aI @g5 (aI @c1 (aI @c2 (aI @c3 (aI @lS (aI @s1 (aI @Nat.mul_one (aI @yu_t @yu_f))))))))))) ?_
  have e78:(2:Int)*((39:Nat):Int)=78:=rfl
  rw [e78]
  refine (mod1_ok hn64 om om).mono ?_
  rintro r rfl
  have x0:=Int.emod_nonneg y (show (78:Int)≠0 by omega)
  have x1:=Int.emod_lt_of_pos y (show (0:Int)<78 by omega)
  obtain ⟨X,hX⟩:=Int.eq_ofNat_of_zero_le x0
  rw [hX] at x1
  rw [hX]
  have e5:((X:Nat):Int).tmod ((39:Nat):Int)=((X % 39:Nat):Int):=tmod_nat
  have hX39:X % 39<39:=Nat.mod_lt _ om
  obtain ⟨p,hp,hpl⟩:=soup_at hX39
  have hX2:decide (X % 39<39)=true:=decide_eq_true hX39
  have e6:decide (((X:Nat):Int)<((39:Nat):Int))=decide (X<39):=by rw [Bool.eq_iff_iff,decide_eq_true_iff,decide_eq_true_iff];omega
  cases h39:decide (X<39) with
  | true =>
    refine gS1 (aI @g0 (aI @g3 (aI @g4 (aI @g5 (aI @e5 (aI @hp (aI @hX2 (aI @rS (aI @e6 (aI @h39 (aI @e3 (aI @yu_t @yu_f)))))))))))) ?_
    exact ⟨_,fR1 g0,fR1 g3,fR,fR,by simp;omega,by trivial⟩
  | false =>
    refine gS1 (aI @g0 (aI @g3 (aI @g4 (aI @g5 (aI @e5 (aI @hp (aI @hX2 (aI @rS (aI @e6 (aI @h39 (aI @e3 (aI @yu_t @yu_f)))))))))))) ?_
    exact ⟨_,fR1 g0,fR1 g3,fR,fR,by simp;omega,by trivial⟩
 ·rintro fr Z' ⟨s,g0,g3,g5,g4,hs,rfl⟩
  cases c1:decide (((min l.length 60:Nat):Int)<((l.length:Nat):Int)) with
  | false =>
    refine gS1 (aI @g0 (aI @g5 (aI @c1 (aI @yu_t @yu_f)))) ?_
    exact ⟨_,s,rfl,fR1 g4,om⟩
  | true =>
    have c2:decide (((min l.length 60:Nat):Int)<60)=false:=decide_eq_false (by have:=of_decide_eq_true c1;omega)
    refine gS1 (aI @g0 (aI @g5 (aI @c1 (aI @c2 (aI @yu_t @yu_f))))) ?_
    exact ⟨_,s,rfl,fR1 g4,om⟩
 rintro r ⟨fr,s,rfl,g4,hs⟩
 refine gS1 (aI @g4 @Tryz.results15) ?_
 exact ⟨s,_,rfl,hs,ES⟩
end Go.Proofs.T
