/- The reference's maker of tenders: its times, its formula, its end. -/
import Derived.Test.YtbcanmagihejhaaGreatDoorRE
set_option linter.unusedSimpArgs false
set_option linter.unusedVariables false
namespace Go.Proofs.T
open Go Go.Ab
open Nat (reduceMul reduceEqDiff reduceAdd)
set_option maxRecDepth 100000
set_option maxHeartbeats 32000000 in
theorem md_rest {Z τ0:St}{fr0:Fr}{q p:Nat}{v:Value}{l:List Int}{H0:List Nat}{a0 a1 a2 a3 a4 a5 a11 a12 a13 a14:Value}(hH0:∀ c∈H0,c<Z.n) (hl:ArgInts (hide Z H0) v l) (hll:l.length<=9223372036854775807) (hq:Z.n<q) (hqp:q<p)
  (h0:MdS Z q p v l [a0,a1,a2,a3,a4,a5,str [],.int .i64 0,.int .i64 0,str [],.slice none 0 0,a11,a12,a13,a14,.int .i64 0,.int .i64 0,.int .i64 0,.int .i64 0,.int .i64 0] fr0 τ0) (hz:τ0.orow Z.n=some row0) :
  Ev (lim Tryz.prog HS none (mdC [1,1,1,1,1,1,1,1,1,1]) fr0 τ0) (fun r=>∃ fr τ cs,∃ (x1 x2 x3 x4 x5:Value) (e:Ex) (k m:Nat) (a b c d s:Nat),r=⟨.ret,fr,τ.upd Z.n cs⟩/\fr.get 2=some (.pointer (some ⟨Z.n,0,none⟩)) /\
   cs=[a0,a1,a2,a3,a4,a5,x1,x2,x3,x4,x5,a11,a12,a13,a14,.int .i64 (a:Nat),.int .i64 (b:Nat),.int .i64 (c:Nat),.int .i64 (d:Nat),.int .i64 (s:Nat)]/\ExtM q p τ0 τ/\Ext Z τ/\Z.n<τ.n /\
   ExX (hide (τ.upd Z.n cs) H0) [x1,x2,x3,x4,x5] e/\FSw k m e/\k<=4/\m<=16/\a<20/\b<40/\c<60/\d<80/\s<20) ⟨⟩:=by
 obtain ⟨g2,g3,g4,hE,hQ,rp,hp⟩:=h0
 have rr:=row_of rp
 simp only [mdC,Tryz.f14,gd_some,cd_nil,cd_0,cd_1,cd_2,cd_3]
 try simp (maxSteps:=8000000) (disch:=first|exact dS|fail) only [↓bD,bU,reduceMul,reduceEqDiff,reduceAdd,Nat.reduceBEq,reduceIte,Option.isNone_none,bunAP,g2,g3,g4]
 refine (nxg (n:=20) hl hll hE om om hQ om om).mono ?_
 rintro r ⟨a,τ1,rfl,ha,Ea,Qa,Xa⟩
 have na:=Xa.n
 have rp:τ1.orow p=some _:=(Xa.orow om om).trans rp
 refine gU1 (aI @bunAP (aI @gw15 (aI @g2 (aI @g3 (aI @g4 @rp))))) ?_
 obtain ⟨S1,hS1⟩:∃ S,τ1.upd p [a0,a1,a2,a3,a4,a5,str [],.int .i64 0,.int .i64 0,str [],.slice none 0 0,a11,a12,a13,a14,.int .i64 (a:Nat),.int .i64 0,.int .i64 0,.int .i64 0,.int .i64 0]=S:=⟨_,rfl⟩
 rw [hS1]
 have U1:ExtM q p τ0 S1:=by rw [<- hS1];exact (ExtM.xq Xa).upd
 have n1:S1.n=τ1.n:=by rw [<- hS1];rfl
 have rp:S1.orow p=some [a0,a1,a2,a3,a4,a5,str [],.int .i64 0,.int .i64 0,str [],.slice none 0 0,a11,a12,a13,a14,.int .i64 (a:Nat),.int .i64 0,.int .i64 0,.int .i64 0,.int .i64 0]:=by rw [<- hS1];exact cL
 have rr:=row_of rp
 have E1:Ext Z S1:=by rw [<- hS1];exact Ea.upd om _
 have Q1:GQ q v l S1:=by rw [<- hS1];exact Qa.x (ExtX.refl.upd _) om om
 clear hS1
 try simp (maxSteps:=8000000) (disch:=first|exact dS|fail) only [↓bD,bU,reduceMul,reduceEqDiff,reduceAdd,Nat.reduceBEq,reduceIte,Option.isNone_none,bunAP,g2,g3,g4,rr]
 refine (nxg (n:=20) hl hll E1 om om Q1 om om).mono ?_
 rintro r ⟨b,τ2,rfl,hb,Eb,Qb,Xb⟩
 have nb:=Xb.n
 have rp:τ2.orow p=some _:=(Xb.orow om om).trans rp
 obtain ⟨b2,hb2⟩:∃ b2:Nat,(a:Int)+(b:Int)=(b2:Int):=⟨a+b,om⟩
 refine gU1 (aI @bunAP (aI @gw16 (aI @g2 (aI @g3 (aI @g4 (aI @rp @hb2)))))) ?_
 refine Must.intro (by (repeat first|simp (disch:=omega) only [as_read,as_upd,as_newb,asx (Ext.refl _),as_extx (b:=p) Xb om]|rw [as_ord (by kernel_rfl)]);first|done|rfl) ?_
 try simp (maxSteps:=8000000) (disch:=first|exact dS|fail) only [↓bD,bU,reduceMul,reduceEqDiff,reduceAdd,Nat.reduceBEq,reduceIte,Option.isNone_none,bunAP,g2,g3,g4]
 obtain ⟨S2,hS2⟩:∃ S,τ2.upd p [a0,a1,a2,a3,a4,a5,str [],.int .i64 0,.int .i64 0,str [],.slice none 0 0,a11,a12,a13,a14,.int .i64 (a:Nat),.int .i64 (b2:Nat),.int .i64 0,.int .i64 0,.int .i64 0]=S:=⟨_,rfl⟩
 rw [hS2]
 have U2:ExtM q p τ0 S2:=by rw [<- hS2];exact (U1.trans (.xq Xb)).upd
 have n2:S2.n=τ2.n:=by rw [<- hS2];rfl
 have rp:S2.orow p=some [a0,a1,a2,a3,a4,a5,str [],.int .i64 0,.int .i64 0,str [],.slice none 0 0,a11,a12,a13,a14,.int .i64 (a:Nat),.int .i64 (b2:Nat),.int .i64 0,.int .i64 0,.int .i64 0]:=by rw [<- hS2];exact cL
 have rr:=row_of rp
 have E2:Ext Z S2:=by rw [<- hS2];exact Eb.upd om _
 have Q2:GQ q v l S2:=by rw [<- hS2];exact Qb.x (ExtX.refl.upd _) om om
 clear hS2
 try simp (maxSteps:=8000000) (disch:=first|exact dS|fail) only [↓bD,bU,reduceMul,reduceEqDiff,reduceAdd,Nat.reduceBEq,reduceIte,Option.isNone_none,bunAP,g2,g3,g4,rr]
 refine (nxg (n:=20) hl hll E2 om om Q2 om om).mono ?_
 rintro r ⟨c,τ3,rfl,hc,Ec,Qc,Xc⟩
 have nc:=Xc.n
 have rp:τ3.orow p=some _:=(Xc.orow om om).trans rp
 obtain ⟨c2,hc2⟩:∃ c2:Nat,(b2:Int)+(c:Int)=(c2:Int):=⟨b2+c,om⟩
 refine gU1 (aI @bunAP (aI @gw17 (aI @g2 (aI @g3 (aI @g4 (aI @rp @hc2)))))) ?_
 refine Must.intro (by (repeat first|simp (disch:=omega) only [as_read,as_upd,as_newb,asx (Ext.refl _),as_extx (b:=p) Xc om]|rw [as_ord (by kernel_rfl)]);first|done|rfl) ?_
 try simp (maxSteps:=8000000) (disch:=first|exact dS|fail) only [↓bD,bU,reduceMul,reduceEqDiff,reduceAdd,Nat.reduceBEq,reduceIte,Option.isNone_none,bunAP,g2,g3,g4]
 obtain ⟨S3,hS3⟩:∃ S,τ3.upd p [a0,a1,a2,a3,a4,a5,str [],.int .i64 0,.int .i64 0,str [],.slice none 0 0,a11,a12,a13,a14,.int .i64 (a:Nat),.int .i64 (b2:Nat),.int .i64 (c2:Nat),.int .i64 0,.int .i64 0]=S:=⟨_,rfl⟩
 rw [hS3]
 have U3:ExtM q p τ0 S3:=by rw [<- hS3];exact (U2.trans (.xq Xc)).upd
 have n3:S3.n=τ3.n:=by rw [<- hS3];rfl
 have rp:S3.orow p=some [a0,a1,a2,a3,a4,a5,str [],.int .i64 0,.int .i64 0,str [],.slice none 0 0,a11,a12,a13,a14,.int .i64 (a:Nat),.int .i64 (b2:Nat),.int .i64 (c2:Nat),.int .i64 0,.int .i64 0]:=by rw [<- hS3];exact cL
 have rr:=row_of rp
 have E3:Ext Z S3:=by rw [<- hS3];exact Ec.upd om _
 have Q3:GQ q v l S3:=by rw [<- hS3];exact Qc.x (ExtX.refl.upd _) om om
 clear hS3
 try simp (maxSteps:=8000000) (disch:=first|exact dS|fail) only [↓bD,bU,reduceMul,reduceEqDiff,reduceAdd,Nat.reduceBEq,reduceIte,Option.isNone_none,bunAP,g2,g3,g4,rr]
 refine (nxg (n:=20) hl hll E3 om om Q3 om om).mono ?_
 rintro r ⟨d,τ4,rfl,hd,Ed,Qd,Xd⟩
 have nd:=Xd.n
 have rp:τ4.orow p=some _:=(Xd.orow om om).trans rp
 obtain ⟨d2,hd2⟩:∃ d2:Nat,(c2:Int)+(d:Int)=(d2:Int):=⟨c2+d,om⟩
 refine gU1 (aI @bunAP (aI @gw18 (aI @g2 (aI @g3 (aI @g4 (aI @rp @hd2)))))) ?_
 refine Must.intro (by (repeat first|simp (disch:=omega) only [as_read,as_upd,as_newb,asx (Ext.refl _),as_extx (b:=p) Xd om]|rw [as_ord (by kernel_rfl)]);first|done|rfl) ?_
 try simp (maxSteps:=8000000) (disch:=first|exact dS|fail) only [↓bD,bU,reduceMul,reduceEqDiff,reduceAdd,Nat.reduceBEq,reduceIte,Option.isNone_none,bunAP,g2,g3,g4]
 obtain ⟨S4,hS4⟩:∃ S,τ4.upd p [a0,a1,a2,a3,a4,a5,str [],.int .i64 0,.int .i64 0,str [],.slice none 0 0,a11,a12,a13,a14,.int .i64 (a:Nat),.int .i64 (b2:Nat),.int .i64 (c2:Nat),.int .i64 (d2:Nat),.int .i64 0]=S:=⟨_,rfl⟩
 rw [hS4]
 have U4:ExtM q p τ0 S4:=by rw [<- hS4];exact (U3.trans (.xq Xd)).upd
 have n4:S4.n=τ4.n:=by rw [<- hS4];rfl
 have rp:S4.orow p=some [a0,a1,a2,a3,a4,a5,str [],.int .i64 0,.int .i64 0,str [],.slice none 0 0,a11,a12,a13,a14,.int .i64 (a:Nat),.int .i64 (b2:Nat),.int .i64 (c2:Nat),.int .i64 (d2:Nat),.int .i64 0]:=by rw [<- hS4];exact cL
 have E4:Ext Z S4:=by rw [<- hS4];exact Ed.upd om _
 have Q4:GQ q v l S4:=by rw [<- hS4];exact Qd.x (ExtX.refl.upd _) om om
 clear hS4
 try simp (maxSteps:=8000000) (disch:=first|exact dS|fail) only [↓bD,bU,reduceMul,reduceEqDiff,reduceAdd,Nat.reduceBEq,reduceIte,Option.isNone_none,bunAP,g2,g3,g4]
 refine (nxg (n:=20) hl hll E4 om om Q4 om om).mono ?_
 rintro r ⟨s,τ5,rfl,hs,Es,Qs,Xs⟩
 have ns:=Xs.n
 have rp:τ5.orow p=some _:=(Xs.orow om om).trans rp
 refine gU1 (aI @bunAP (aI @gw19 (aI @g2 (aI @g3 (aI @g4 @rp))))) ?_
 obtain ⟨S5,hS5⟩:∃ S,τ5.upd p [a0,a1,a2,a3,a4,a5,str [],.int .i64 0,.int .i64 0,str [],.slice none 0 0,a11,a12,a13,a14,.int .i64 (a:Nat),.int .i64 (b2:Nat),.int .i64 (c2:Nat),.int .i64 (d2:Nat),.int .i64 (s:Nat)]=S:=⟨_,rfl⟩
 rw [hS5]
 have U5:ExtM q p τ0 S5:=by rw [<- hS5];exact (U4.trans (.xq Xs)).upd
 have n5:S5.n=τ5.n:=by rw [<- hS5];rfl
 have rp:S5.orow p=some [a0,a1,a2,a3,a4,a5,str [],.int .i64 0,.int .i64 0,str [],.slice none 0 0,a11,a12,a13,a14,.int .i64 (a:Nat),.int .i64 (b2:Nat),.int .i64 (c2:Nat),.int .i64 (d2:Nat),.int .i64 (s:Nat)]:=by rw [<- hS5];exact cL
 have E5:Ext Z S5:=by rw [<- hS5];exact Es.upd om _
 have Q5:GQ q v l S5:=by rw [<- hS5];exact Qs.x (ExtX.refl.upd _) om om
 clear hS5
 try simp (maxSteps:=8000000) (disch:=first|exact dS|fail) only [↓bD,bU,reduceMul,reduceEqDiff,reduceAdd,Nat.reduceBEq,reduceIte,Option.isNone_none,bunAP,g2,g3,g4]
 refine (nxg (n:=4) hl hll E5 om om Q5 om om).mono ?_
 rintro r ⟨dp,τ6,rfl,hdp,Edp,Qdp,Xdp⟩
 have ndp:=Xdp.n
 have rp:τ6.orow p=some _:=(Xdp.orow om om).trans rp
 try simp (maxSteps:=8000000) (disch:=first|exact dS|fail) only [↓bD,bU,reduceMul,reduceEqDiff,reduceAdd,Nat.reduceBEq,reduceIte,Option.isNone_none,bunAP,g2,g3,g4]
 refine names_ok.mono ?_
 rintro r ⟨bn,τ7,rfl,F7,bn1,bn2,rn⟩
 have n7:=F7.n
 have rp:τ7.orow p=some _:=(F7.orow om).trans rp
 have E7:Ext Z τ7:=Edp.trans F7
 have Q7:=Qdp.ext F7 om
 have U7:ExtM q p τ0 τ7:=(U5.trans (.xq Xdp)).trans (.of F7)
 obtain ⟨H,hHd⟩:∃ H,(Z.n::q::p::H0)=H:=⟨_,rfl⟩
 have hHm:∀ c∈H,Z.n<=c\/c∈H0:=by
  intro c hc
  rw [<- hHd] at hc
  simp only [List.mem_cons] at hc
  rcases hc with rfl|rfl|rfl|h <;> first|(left;omega)|exact .inr h
 have hHl:∀ c∈H,c<τ0.n:=fun c hc=>by
  rw [<- hHd] at hc
  simp only [List.mem_cons] at hc
  rcases hc with rfl|rfl|rfl|h <;> first|omega|(have:=hH0 c h;omega)
 have hqH:q∈H:=by rw [<- hHd];simp
 have hn0:=U5.n
 have hbn:bn∉H:=fun h=>by have:=hHl bn h;omega
 have hsl:SL (hide τ7 H) 1 (.slice (some ⟨bn,0,none⟩) 5 5) (madeN.map fun s=>[str s]):=by
  refine .inr ⟨bn,0,none,5,_,rfl,by rw [hide_n];exact bn2,by rw [hide_row hbn];exact row_of rn,?_⟩
  intro k r hk
  match k,hk with
  | 0,hk=>cases hk;rfl
  | 1,hk=>cases hk;rfl
  | 2,hk=>cases hk;rfl
  | 3,hk=>cases hk;rfl
  | 4,hk=>cases hk;rfl
 try simp (maxSteps:=8000000) (disch:=first|exact dS|fail) only [↓bD,bU,reduceMul,reduceEqDiff,reduceAdd,Nat.reduceBEq,reduceIte,Option.isNone_none,bunAP,g2,g3,g4]
 refine (tree_ok madeN_ok dp om (H:=H) (fun c hc=>by have:=hHl c hc;omega) (mk_ms hl hll E7 hHm om Q7 hqH) hsl).mono ?_
 rintro r ⟨row,e,k,m,τ8,rfl,hM8,X8,hx,hf,hk,hm⟩
 have n8:=X8.n
 have rp:τ8.orow p=some _:=(X8.orow om om).trans rp
 obtain ⟨x1,x2,x3,x4,x5,rfl⟩:=fc5 hx.to
 have U8:ExtM q p τ0 τ8:=U7.trans (.xq X8)
 have rz:τ8.orow Z.n=some row0:=by rw [U8.orow om om om];exact hz
 unfold row0 at rz
 refine gU1 (aI @bunAP (aI @gw6 (aI @g2 (aI @g3 (aI @g4 (aI @rp @rz)))))) ?_
 have hmx:m<=16:=by
  have:2 ^ (dp+1)<=16:=Nat.le_trans (Nat.pow_le_pow_right om (show dp+1<=4 by omega)) (by decide)
  omega
 refine ⟨_,_,_,x1,x2,x3,x4,x5,e,k,m,a,b2,c2,d2,s,rfl,fR1 g2,rfl,U8.upd,(X8.ext E7 om).upd om _,by simp;omega,?_,hf,om,hmx,om,om,om,om,om⟩
 refine hx.keep (keep_hide (by simp) fun c hc hm=>?_)
 have h1:c≠Z.n:=fun e=>hm (by rw [<- hHd,e];simp)
 have h2:c≠p:=fun e=>hm (by rw [<- hHd,e];simp)
 exact ⟨fun h=>hm (by rw [<- hHd];simp [h]),by rw [row_upd_ne h1,row_upd_ne h2]⟩
end Go.Proofs.T
namespace Go.Proofs.T
open Go Go.Ab
open Nat (reduceMul reduceEqDiff reduceAdd)
set_option maxRecDepth 100000
theorem all2_map {α:Type}{R:Value->List Int->Prop}{f:α->Value}{g:α->List Int}:∀ {L:List α},(∀ y∈L,R (f y) (g y))->All2 R (L.map f) (L.map g):=by
 intro L
 induction L with
 | nil=>intro _;trivial
 | cons y L ih=>intro h;exact ⟨h y (List.mem_cons_self ..),ih fun z hz=>h z (List.mem_cons_of_mem _ hz)⟩
theorem made_of {nm:By}{L1:List Lot}{L2:List Crit}{L3:List Req}{L4:List By}{L5:List (List Int)}{b c d bu q1 q2 q3 q4 q5 k m:Nat}{e:Ex}
  (n1:nameB nm=true) (n2:nm.length<=9) (a1:1<=L1.length) (a2:L1.length<=3) (a3:Rise L1) (a4:∀ y∈L1,1<=y.id/\y.id<=1+2*(L1.length:Int)/\0<=y.most/\y.most<=199)
  (b1:L2.length<=3) (b2:L2.map Crit.name=critN.take L2.length) (b3:∀ c∈L2,(c.kind=1\/c.kind=2)/\0<=c.low/\c.low<=3/\0<=c.high/\c.high<=8)
  (c1:L3.length<=2) (c2:∀ x∈L3,(wordB x.name=true/\x.name.length<=9)/\([[60,61],[62,61]]:List By).contains x.rel=true/\0<=x.value/\x.value<=7)
  (d1:L4.length<=3) (d2:L4=tiesM.take L4.length) (e1:L5.length<=2) (e2:∀ y∈L5,∃ a b,y=[a,b]/\1<=a/\a<b/\b<=9)
  (f1:FSw k m e) (f2:k<=4) (f3:m<=16) (g1:b<100) (g2:c<100) (g3:d<100) (g4:bu<2000) (h1:q1<20) (h2:q2<40) (h3:q3<60) (h4:q4<80) (h5:q5<20) :
  MadeT ⟨nm,L1,L2,L3,(b:Nat),10+(c:Nat),e,L4,(d:Nat),L5,(bu:Nat),⟨(q1:Nat),(q2:Nat),(q3:Nat),(q4:Nat),(q5:Nat)⟩⟩:=by
 obtain ⟨u1,u2⟩:=crit_take L2.length b1
 obtain ⟨v1,v2⟩:=ties_take L4.length d1
 rw [<- b2] at u1 u2
 rw [<- d2] at v1 v2
 have cn:∀ c∈L2,wordB c.name=true/\c.name.length<=9:=fun c hc=>u2 _ (List.mem_map.2 ⟨c,hc,rfl⟩)
 have sm:∀ {n:Int},0<=n->n<5000->SmN n:=fun h1 h2=>⟨h1,om⟩
 have i9:∀ {n:Int},0<=n->n<5000->In9 n:=fun h1 h2=>⟨h1,om⟩
 refine ⟨⟨n1,by show L1.length<=12;omega,fun h=>?_,fun l hl=>?_,rise_nodup a3,by show L2.length<=12;omega,fun c hc=>?_,u1,by show L3.length<=24;omega,fun r hr=>?_,i9 (by (try dsimp only);omega) (by (try dsimp only);omega),i9 (by (try dsimp only);omega) (by (try dsimp only);omega),⟨k,m,f1.fw,om,om⟩,by show L4.length<=12;omega,fun w hw=>(v2 w hw).1,v1,i9 (by (try dsimp only);omega) (by (try dsimp only);omega),by show L5.length<=12;omega,fun c hc=>?_,i9 (by (try dsimp only);omega) (by (try dsimp only);omega),i9 (by (try dsimp only);omega) (by (try dsimp only);omega),i9 (by (try dsimp only);omega) (by (try dsimp only);omega),i9 (by (try dsimp only);omega) (by (try dsimp only);omega),i9 (by (try dsimp only);omega) (by (try dsimp only);omega),i9 (by (try dsimp only);omega) (by (try dsimp only);omega)⟩,
  ⟨fun l hl=>?_,fun c hc=>?_,fun r hr=>?_,fun l hl n hn=>?_,sm (by (try dsimp only);omega) (by (try dsimp only);omega),sm (by (try dsimp only);omega) (by (try dsimp only);omega),sm (by (try dsimp only);omega) (by (try dsimp only);omega),sm (by (try dsimp only);omega) (by (try dsimp only);omega),sm (by (try dsimp only);omega) (by (try dsimp only);omega),sm (by (try dsimp only);omega) (by (try dsimp only);omega),sm (by (try dsimp only);omega) (by (try dsimp only);omega),sm (by (try dsimp only);omega) (by (try dsimp only);omega),sm (by (try dsimp only);omega) (by (try dsimp only);omega)⟩,
  n2,a2,b1,fun c hc=>(cn c hc).2,c1,fun r hr=>(c2 r hr).1.2,d1,fun w hw=>(v2 w hw).2,e1,fun c hc=>?_,⟨k,m,f1,om,f3⟩⟩
 ·have h':L1=[]:=h
  rw [h'] at a1;simp at a1
 ·obtain ⟨z1,z2,z3,z4⟩:=a4 l hl
  exact ⟨z1,om,i9 z3 om⟩
 ·obtain ⟨z1,z2,z3,z4,z5⟩:=b3 c hc
  exact ⟨(cn c hc).1,z1,i9 z2 om,i9 z4 om⟩
 ·obtain ⟨z1,z2,z3,z4⟩:=c2 r hr
  exact ⟨z1.1,z2,i9 z3 om⟩
 ·obtain ⟨a,b,rfl,z1,z2,z3⟩:=e2 c hc
  refine ⟨by simp,by simp,?_,fun n hn=>?_⟩
  ·simp only [List.nodup_cons,List.mem_singleton,List.not_mem_nil,not_false_eq_true,List.nodup_nil,and_true];omega
  ·simp only [List.mem_cons,List.not_mem_nil,or_false] at hn
   omega
 ·obtain ⟨z1,z2,z3,z4⟩:=a4 l hl
  exact ⟨sm om om,sm z3 om⟩
 ·obtain ⟨z1,z2,z3,z4,z5⟩:=b3 c hc
  exact ⟨z1,sm z2 om,sm z4 om⟩
 ·obtain ⟨z1,z2,z3,z4⟩:=c2 r hr
  exact sm z3 om
 ·obtain ⟨a,b,rfl,z1,z2,z3⟩:=e2 l hl
  simp only [List.mem_cons,List.not_mem_nil,or_false] at hn
  exact sm om om
 ·obtain ⟨a,b,rfl,-⟩:=e2 c hc
  simp
theorem tname_at {x:Nat}(h:(x:Int)<3):∃ s,sub ([str [67,104,97,105,114,115],str [116],str [76,111,116,95,55]]:List Value) x 1=some [str s]/\nameB s=true/\s.length<=9:=by
 have:x=0\/x=1\/x=2:=om
 rcases this with rfl|rfl|rfl
 ·exact ⟨_,rfl,by decide,by decide⟩
 ·exact ⟨_,rfl,by decide,by decide⟩
 ·exact ⟨_,rfl,by decide,by decide⟩
set_option maxHeartbeats 32000000 in
theorem rmadeY_ok {Z:St}{v:Value}{l:List Int}(H0:List Nat) (hH0:∀ c∈H0,c<Z.n) (hl:ArgInts (hide Z H0) v l) (hll:l.length<=9223372036854775807) :
  Ev (go Tryz.prog HS (.fn 14) [v] Z) (fun r=>∃ cells T Z',r=⟨false,.agg ⟨cells⟩,Z'⟩/\Ext Z Z'/\TnY (hide Z' H0) cells T/\MadeT T) ⟨⟩:=by
 have hv:∃ a n c,v= .slice a n c:=by
  obtain ⟨a,c,b,off,cells,h,-⟩:=hl.1.use;exact ⟨a,_,c,h⟩
 have hvc:cellsL v=[v]/\isTup v=false:=by obtain ⟨a,n,c,rfl⟩:=hv;exact ⟨rfl,rfl⟩
 refine ev_go Tryz.func14 rfl rfl ?_
 refine gU1 (aI @splice_succ (aI @bunAP (aI (hvc.1) (aI (hvc.2) (aI @ze75 @bv75))))) ?_
 obtain ⟨S0,hS0⟩:∃ S,(((Z.new [str [],.slice none 0 0,.slice none 0 0,.slice none 0 0,.int .i64 0,.int .i64 0,str [],.int .i64 0,.int .i64 0,str [],.slice none 0 0,.slice none 0 0,.int .i64 0,.slice none 0 0,.int .i64 0,.int .i64 0,.int .i64 0,.int .i64 0,.int .i64 0,.int .i64 0] (some 41)).new [v,.int .i64 0]).new [str [67,104,97,105,114,115],str [116],str [76,111,116,95,55]])=S:=⟨_,rfl⟩
 rw [hS0]
 obtain ⟨q,hq⟩:∃ q,Z.n+1=q:=⟨_,rfl⟩
 rw [hq]
 have E0:Ext Z S0:=by rw [<- hS0];exact eX
 have n0:S0.n=Z.n+3:=by rw [<- hS0];rfl
 have Q0:GQ q v l S0:=⟨0,Nat.zero_le _,by rw [<- hS0,<- hq];exact cL⟩
 have z0:S0.orow Z.n=some row0:=by rw [<- hS0];unfold row0;exact cL
 have k0:S0.row (Z.n+2)=some [str [67,104,97,105,114,115],str [116],str [76,111,116,95,55]]:=by rw [<- hS0];exact cL
 clear hS0
 refine (nxg (n:=3) hl hll E0 om om Q0 om om).mono ?_
 rintro r ⟨a,τ1,rfl,ha,Ea,Qa,Xa⟩
 have na:=Xa.n
 have z1:τ1.orow Z.n=some row0:=by rw [Xa.orow om om];exact z0
 have k1:τ1.row (Z.n+2)=some [str [67,104,97,105,114,115],str [116],str [76,111,116,95,55]]:=by rw [Xa.row om om];exact k0
 obtain ⟨nm,hnm,nm1,nm2⟩:=tname_at ha
 have q2:Z.n+1+1=Z.n+2:=rfl
 refine gU1 (aI @splice_succ (aI @bunAP (aI @q2 (aI @k1 @hnm)))) ?_
 refine (nxg (n:=5) hl hll Ea om om Qa om om).mono ?_
 rintro r ⟨b,τ2,rfl,hb,Eb,Qb,Xb⟩
 have nb:=Xb.n
 refine gU1 (aI @splice_succ @bunAP) ?_
 refine (nxg (n:=90) hl hll Eb om om Qb om om).mono ?_
 rintro r ⟨c,τ3,rfl,hc,Ec,Qc,Xc⟩
 have nc:=Xc.n
 refine gU1 (aI @splice_succ @bunAP) ?_
 refine (nxg (n:=4) hl hll Ec om om Qc om om).mono ?_
 rintro r ⟨d,τ4,rfl,hd,Ed,Qd,Xd⟩
 have nd:=Xd.n
 refine gU1 (aI @splice_succ @bunAP) ?_
 refine (nxg (n:=2000) hl hll Ed om om Qd om om).mono ?_
 rintro r ⟨e,τ5,rfl,he,Ee,Qe,Xe⟩
 have ne:=Xe.n
 have z5:τ5.orow Z.n=some row0:=by rw [Xe.orow om om,Xd.orow om om,Xc.orow om om,Xb.orow om om];exact z1
 simp (maxSteps:=8000000) (disch:=first|exact dS|fail) only [↓bD,bU,reduceMul,reduceEqDiff,reduceAdd,Nat.reduceBEq,reduceIte,Option.isNone_none,splice_succ,bunAP,asx (Ext.refl _)]
 refine Must.intro (by simp (disch:=omega) only [as_read,as_upd,as_newb,asx (Ext.refl _),as_extx (b:=Z.n+2) Xa om,as_extx (b:=Z.n+2) Xb om,as_extx (b:=Z.n+2) Xc om,as_extx (b:=Z.n+2) Xd om,as_extx (b:=Z.n+2) Xe om];first|done|rfl) ?_
 obtain ⟨p,hp⟩:∃ p,τ5.n=p:=⟨_,rfl⟩
 refine gU1 (aI @splice_succ @bunAP) ?_
 obtain ⟨S6,hS6⟩:∃ S,((τ5.new [str [],.slice none 0 0,.slice none 0 0,.slice none 0 0,.int .i64 0,.int .i64 0,str [],.int .i64 0,.int .i64 0,str [],.slice none 0 0,.slice none 0 0,.int .i64 0,.slice none 0 0,.int .i64 0,.int .i64 0,.int .i64 0,.int .i64 0,.int .i64 0,.int .i64 0] (some 41)).upd τ5.n [str nm,.slice none 0 0,.slice none 0 0,.slice none 0 0,.int .i64 (b:Nat),.int .i64 (10+(c:Nat)),str [],.int .i64 0,.int .i64 0,str [],.slice none 0 0,.slice none 0 0,.int .i64 (d:Nat),.slice none 0 0,.int .i64 (e:Nat),.int .i64 0,.int .i64 0,.int .i64 0,.int .i64 0,.int .i64 0])=S:=⟨_,rfl⟩
 rw [hS6]
 have F6:Ext τ5 S6:=by rw [<- hS6];exact eX
 have E6:Ext Z S6:=Ee.trans F6
 have n6:S6.n=p+1:=by rw [<- hS6,<- hp];rfl
 have rp:S6.orow p=some [str nm,.slice none 0 0,.slice none 0 0,.slice none 0 0,.int .i64 (b:Nat),.int .i64 (10+(c:Nat)),str [],.int .i64 0,.int .i64 0,str [],.slice none 0 0,.slice none 0 0,.int .i64 (d:Nat),.slice none 0 0,.int .i64 (e:Nat),.int .i64 0,.int .i64 0,.int .i64 0,.int .i64 0,.int .i64 0]:=by rw [<- hS6,<- hp];exact cL
 have z6:S6.orow Z.n=some row0:=by rw [F6.orow om];exact z5
 have Q6:=Qe.ext F6 om
 clear hS6
 rw [hp]
 refine (nxg (n:=3) hl hll E6 om om Q6 om om).mono ?_
 rintro r ⟨f,τ7,rfl,hf,Ef,Qf,Xf⟩
 have nf:=Xf.n
 have z7:τ7.orow Z.n=some row0:=by rw [Xf.orow om om];exact z6
 have rp:=(Xf.orow (b:=p) om om).trans rp
 obtain ⟨nl,hnl,nl1,nl3⟩:∃ nl:Nat,1+(f:Int)=(nl:Int)/\1<=nl/\nl<=3:=⟨f+1,om,om,om⟩
 refine gU1 (aI @splice_succ (aI @bunAP @hnl)) ?_
 refine (md_lots (nl:=nl) hl hll (show Z.n<=q by omega) (show q<p by omega) ⟨fR,fR,fR,Ef,Qf,rp,om⟩ (fR) nl3 (fR)).mono ?_
 rintro r ⟨fr8,τ8,u1,L1,rfl,M8,X8,ho1,hL1,hR1,hB1⟩
 have n8:=X8.n
 refine gU1 (aI @splice_succ @bunAP) ?_
 refine (md_crits hl hll (show Z.n<=q by omega) (show q<p by omega) ⟨fR1 @M8.g2,fR1 @M8.g3,fR1 @M8.g4,M8.E,M8.Q,M8.r,M8.lt⟩ (fR)).mono ?_
 rintro r ⟨fr9,τ9,u2,L2,rfl,M9,X9,ho2,hL2,hN2,hC2⟩
 have n9:=X9.n
 refine gU1 (aI @splice_succ @bunAP) ?_
 refine (md_reqs hl hll (show Z.n<=q by omega) (show q<p by omega) ⟨fR1 @M9.g2,fR1 @M9.g3,fR1 @M9.g4,M9.E,M9.Q,M9.r,M9.lt⟩ (fR)).mono ?_
 rintro r ⟨fr10,τ10,u3,L3,rfl,M10,X10,ho3,hL3,hC3⟩
 have n10:=X10.n
 have lt10:=M10.lt
 refine gU1 (aI @splice_succ @bunAP) ?_
 obtain ⟨S10,hS10⟩:∃ S,τ10.new [str [112,114,105,99,101],str [115,112,101,101,100],str [99,111,109,102,111,114,116]]=S:=⟨_,rfl⟩
 rw [hS10]
 have F10:Ext τ10 S10:=by rw [<- hS10];exact eX
 have nS10:S10.n=τ10.n+1:=by rw [<- hS10];rfl
 have rt0:S10.orow τ10.n=some [str [112,114,105,99,101],str [115,112,101,101,100],str [99,111,109,102,111,114,116]]:=by rw [<- hS10];exact cL
 clear hS10
 refine (md_ties (nt:=τ10.n) hl hll (show Z.n<=q by omega) (show q<p by omega) ⟨fR1 @M10.g2,fR1 @M10.g3,fR1 @M10.g4,M10.E.trans F10,M10.Q.ext F10 om,(F10.orow M10.lt).trans M10.r,om⟩ (fR) (fR) rt0 om om om).mono ?_
 rintro r ⟨fr11,τ11,u4,L4,rfl,M11,X11,ho4,hL4,hC4⟩
 have n11:=X11.n
 refine gU1 (aI @splice_succ @bunAP) ?_
 refine (md_combos hl hll (show Z.n<=q by omega) (show q<p by omega) ⟨fR1 @M11.g2,fR1 @M11.g3,fR1 @M11.g4,M11.E,M11.Q,M11.r,M11.lt⟩ (fR)).mono ?_
 rintro r ⟨fr12,τ12,u5,L5,rfl,M12,X12,ho5,hL5,hC5⟩
 have n12:=X12.n
 have Y11:ExtM q p τ8 τ12:=(((X9.trans X10).trans (.of F10)).trans X11).trans X12
 have z12:τ12.orow Z.n=some row0:=by rw [Y11.orow om om om,X8.orow om om om];exact z7
 simp only [en_normal,en_exit,en_ret,ex_normal,ex_exit,ee_normal,ev_ob,ev_some,Nat.reduceBEq,Nat.reduceEqDiff,reduceIte,beq_same,decide_true,br_true,br_false]
 refine (md_rest hH0 hl hll (show Z.n<q by omega) (show q<p by omega) ⟨fR1 @M12.g2,fR1 @M12.g3,fR1 @M12.g4,M12.E,M12.Q,M12.r,M12.lt⟩ z12).mono ?_
 rintro r ⟨fr13,τ13,cs,x1,x2,x3,x4,x5,ex,k,m,q1,q2,q3,q4,q5,rfl,g2,hcs,X13,E13,lt13,hx,hf,hk,hm,t1,t2,t3,t4,t5⟩
 have hfull:sub cs 0 20=some cs:=by rw [hcs];rfl
 refine gU1 (aI @splice_succ (aI @bunAP (aI @g2 (aI @hfull @Tryz.results14)))) ?_
 have hH0':∀ {lo:Nat},Z.n<lo->∀ c∈H0,c<lo:=fun h c hc=>by have:=hH0 c hc;omega
 have n13:=X13.n
 have p1:=OL.hide (OL.upd (p:=Z.n) (cs:=cs) (OL.keepM ho1 (Y11.trans X13) om om) om) (hH0' om)
 have p2:=OL.hide (OL.upd (p:=Z.n) (cs:=cs) (OL.keepM ho2 ((((X10.trans (.of F10)).trans X11).trans X12).trans X13) om om) om) (hH0' om)
 have p3:=OL.hide (OL.upd (p:=Z.n) (cs:=cs) (OL.keepM ho3 ((((ExtM.of F10).trans X11).trans X12).trans X13) om om) om) (hH0' om)
 have p4:=OL.hide (OL.upd (p:=Z.n) (cs:=cs) (OL.keepM ho4 (X12.trans X13) om om) om) (hH0' om)
 have p5:=OL.hide (OL.upd (p:=Z.n) (cs:=cs) (OL.keepM ho5 X13 om om) om) (hH0' om)
 have hM:=made_of (nm:=nm) (L1:=L1) (L2:=L2) (L3:=L3) (L4:=L4) (L5:=L5.map Prod.snd) (b:=b) (c:=c) (d:=d) (bu:=e) (q1:=q1) (q2:=q2) (q3:=q3) (q4:=q4) (q5:=q5) nm1 nm2 om om hR1 hB1 hL2 hN2 hC2 hL3 hC3 hL4 hC4 (by rw [List.length_map];exact hL5)
  (fun y hy=>by obtain ⟨x,hx1,rfl⟩:=List.mem_map.1 hy;exact (hC5 x hx1).2.2) hf hk hm om om om om t1 t2 t3 t4 t5
 refine ⟨cs,⟨nm,L1,L2,L3,(b:Nat),10+(c:Nat),ex,L4,(d:Nat),L5.map Prod.snd,(e:Nat),⟨(q1:Nat),(q2:Nat),(q3:Nat),(q4:Nat),(q5:Nat)⟩⟩,_,rfl,E13.upd (Nat.le_refl _) _,⟨u1,u2,u3,[x1,x2,x3,x4,x5],u4,u5,L5.map Prod.fst,hcs,p1,p2,p3,hx,p4,?_,all2_map fun y hy=>?_⟩,hM⟩
 ·rw [List.map_map]
  exact p5
 ·exact (OL.hide (OL.upd (p:=Z.n) (cs:=cs) (OL.keepM (hC5 y hy).2.1 X13 om om) om) (hH0' om)).sl
theorem rmade_ok {Z:St}{v:Value}{l:List Int}(H0:List Nat) (hH0:∀ c∈H0,c<Z.n) (hl:ArgInts (hide Z H0) v l) (hll:l.length<=9223372036854775807) :
  Ev (go Tryz.prog HS (.fn 14) [v] Z) (fun r=>∃ cells T Z',r=⟨false,.agg ⟨cells⟩,Z'⟩/\Ext Z Z'/\TnAt (hide Z' H0) cells T/\MadeT T) ⟨⟩:=by
 refine (rmadeY_ok H0 hH0 hl hll).mono ?_
 rintro r ⟨cells,T,Z1,rfl,h1,h2,h3⟩
 exact ⟨cells,T,Z1,rfl,h1,h2.tn,h3⟩
end Go.Proofs.T
