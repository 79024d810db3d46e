/- The J4 Hs of AV: its times, its FE, its end. -/
import Derived.Test.YtbcanmagihejhaaGreatDoorRE
set_option linter.unusedSimpArgs false
set_option linter.unusedVariables false
set_option maxHeartbeats 32000000
set_option maxRecDepth 100000
namespace Go.Proofs.T
open Go Go.Ab
open Nat (reduceMul reduceEqDiff reduceAdd)
theorem lq {Z τ0:St}{fr0:Fr}{q p:Nat}{v:Value}{l:List Int}{H0:List Nat}{a0 a1 a2 a3 a4 a5 a11 a12 a13 a14:Value}(hH0:∀ c∈H0,c<Z.n) (hl:Y8 (H6 Z H0) v l) (hll:l.length<=9223372036854775807) (hq:Z.n<q) (hqp:q<p)
  (h0:MdS Z q p v l [a0,a1,a2,a3,a4,a5,str [],.int .i64 0,.int .i64 0,str [],.slice none 0 0,a11,a12,a13,a14,.int .i64 0,.int .i64 0,.int .i64 0,.int .i64 0,.int .i64 0] fr0 τ0) (hz:τ0.A5 Z.n=some Ox) :
  Ev (lim Tryz.prog HS none (mdC [1,1,1,1,1,1,1,1,1,1]) fr0 τ0) (fun r=>∃ fr τ cs,∃ (x1 x2 x3 x4 x5:Value) (e:Ex) (k m:Nat) (a b c d s:Nat),r=⟨.ret,fr,τ.upd Z.n cs⟩/\fr.get 2=some (.pointer (some ⟨Z.n,0,none⟩)) /\
   cs=[a0,a1,a2,a3,a4,a5,x1,x2,x3,x4,x5,a11,a12,a13,a14,.int .i64 (a:Nat),.int .i64 (b:Nat),.int .i64 (c:Nat),.int .i64 (d:Nat),.int .i64 (s:Nat)]/\P4 q p τ0 τ/\Ext Z τ/\Z.n<τ.n /\
   ExX (H6 (τ.upd Z.n cs) H0) [x1,x2,x3,x4,x5] e/\FSw k m e/\k<=4/\m<=16/\a<20/\b<40/\c<60/\d<80/\s<20) ⟨⟩:=by
 obtain ⟨g2,g3,g4,hE,hQ,rp,hp⟩:=h0;have rr:=A8 rp;simp only [mdC,Tryz.f14,F9,I7,U9,V0,V6,V7]
 try (refine gU1 (a4N @A7 @g2 @g3 @g4) ?_;try exact ⟨⟩)
 refine (nxg (n:=20) hl hll hE om om hQ om om).mono ?_;rintro r ⟨a,τ1,rfl,ha,Ea,Qa,Xa⟩;have na:=Xa.n;have rp:τ1.A5 p=some _:=(Xa.A5 om om).trans rp;refine gU1 (a6N @A7 @AI2 @g2 @g3 @g4 @rp) ?_;obtain ⟨S1,hS1⟩:∃ S,τ1.upd p [a0,a1,a2,a3,a4,a5,str [],.int .i64 0,.int .i64 0,str [],.slice none 0 0,a11,a12,a13,a14,.int .i64 (a:Nat),.int .i64 0,.int .i64 0,.int .i64 0,.int .i64 0]=S:=⟨_,rfl⟩
 rw [hS1];have U1:P4 q p τ0 S1:=by rw [<- hS1];exact (P4.xq Xa).upd
 have n1:S1.n=τ1.n:=by rw [<- hS1];rfl
 have rp:S1.A5 p=some [a0,a1,a2,a3,a4,a5,str [],.int .i64 0,.int .i64 0,str [],.slice none 0 0,a11,a12,a13,a14,.int .i64 (a:Nat),.int .i64 0,.int .i64 0,.int .i64 0,.int .i64 0]:=by rw [<- hS1];exact cL
 have rr:=A8 rp;have E1:Ext Z S1:=by rw [<- hS1];exact Ea.upd om _
 have Q1:GQ q v l S1:=by rw [<- hS1];exact Qa.x (C5.refl.upd _) om om
 clear hS1
 try (refine gU1 (a5N @A7 @g2 @g3 @g4 @rr) ?_;try exact ⟨⟩)
 refine (nxg (n:=20) hl hll E1 om om Q1 om om).mono ?_;rintro r ⟨b,τ2,rfl,hb,Eb,Qb,Xb⟩;have nb:=Xb.n;have rp:τ2.A5 p=some _:=(Xb.A5 om om).trans rp;obtain ⟨b2,hb2⟩:∃ b2:Nat,(a:Int)+(b:Int)=(b2:Int):=⟨a+b,om⟩
 refine gU1 (a7N @A7 @AI3 @g2 @g3 @g4 @rp @hb2) ?_;refine H3.intro (by (repeat first|simp (disch:=omega) only [B9,C9,C0,asx (Ext.refl _),P0 (b:=p) Xb om]|rw [D0 (by kernel_rfl)]);first|done|rfl) ?_
 try (refine gU1 (a4N @A7 @g2 @g3 @g4) ?_;try exact ⟨⟩)
 obtain ⟨S2,hS2⟩:∃ S,τ2.upd p [a0,a1,a2,a3,a4,a5,str [],.int .i64 0,.int .i64 0,str [],.slice none 0 0,a11,a12,a13,a14,.int .i64 (a:Nat),.int .i64 (b2:Nat),.int .i64 0,.int .i64 0,.int .i64 0]=S:=⟨_,rfl⟩
 rw [hS2];have U2:P4 q p τ0 S2:=by rw [<- hS2];exact (U1.trans (.xq Xb)).upd
 have n2:S2.n=τ2.n:=by rw [<- hS2];rfl
 have rp:S2.A5 p=some [a0,a1,a2,a3,a4,a5,str [],.int .i64 0,.int .i64 0,str [],.slice none 0 0,a11,a12,a13,a14,.int .i64 (a:Nat),.int .i64 (b2:Nat),.int .i64 0,.int .i64 0,.int .i64 0]:=by rw [<- hS2];exact cL
 have rr:=A8 rp;have E2:Ext Z S2:=by rw [<- hS2];exact Eb.upd om _
 have Q2:GQ q v l S2:=by rw [<- hS2];exact Qb.x (C5.refl.upd _) om om
 clear hS2
 try (refine gU1 (a5N @A7 @g2 @g3 @g4 @rr) ?_;try exact ⟨⟩)
 refine (nxg (n:=20) hl hll E2 om om Q2 om om).mono ?_;rintro r ⟨c,τ3,rfl,hc,Ec,Qc,Xc⟩;have nc:=Xc.n;have rp:τ3.A5 p=some _:=(Xc.A5 om om).trans rp;obtain ⟨c2,hc2⟩:∃ c2:Nat,(b2:Int)+(c:Int)=(c2:Int):=⟨b2+c,om⟩
 refine gU1 (a7N @A7 @AI4 @g2 @g3 @g4 @rp @hc2) ?_;refine H3.intro (by (repeat first|simp (disch:=omega) only [B9,C9,C0,asx (Ext.refl _),P0 (b:=p) Xc om]|rw [D0 (by kernel_rfl)]);first|done|rfl) ?_
 try (refine gU1 (a4N @A7 @g2 @g3 @g4) ?_;try exact ⟨⟩)
 obtain ⟨S3,hS3⟩:∃ S,τ3.upd p [a0,a1,a2,a3,a4,a5,str [],.int .i64 0,.int .i64 0,str [],.slice none 0 0,a11,a12,a13,a14,.int .i64 (a:Nat),.int .i64 (b2:Nat),.int .i64 (c2:Nat),.int .i64 0,.int .i64 0]=S:=⟨_,rfl⟩
 rw [hS3];have U3:P4 q p τ0 S3:=by rw [<- hS3];exact (U2.trans (.xq Xc)).upd
 have n3:S3.n=τ3.n:=by rw [<- hS3];rfl
 have rp:S3.A5 p=some [a0,a1,a2,a3,a4,a5,str [],.int .i64 0,.int .i64 0,str [],.slice none 0 0,a11,a12,a13,a14,.int .i64 (a:Nat),.int .i64 (b2:Nat),.int .i64 (c2:Nat),.int .i64 0,.int .i64 0]:=by rw [<- hS3];exact cL
 have rr:=A8 rp;have E3:Ext Z S3:=by rw [<- hS3];exact Ec.upd om _
 have Q3:GQ q v l S3:=by rw [<- hS3];exact Qc.x (C5.refl.upd _) om om
 clear hS3
 try (refine gU1 (a5N @A7 @g2 @g3 @g4 @rr) ?_;try exact ⟨⟩)
 refine (nxg (n:=20) hl hll E3 om om Q3 om om).mono ?_;rintro r ⟨d,τ4,rfl,hd,Ed,Qd,Xd⟩;have nd:=Xd.n;have rp:τ4.A5 p=some _:=(Xd.A5 om om).trans rp;obtain ⟨d2,hd2⟩:∃ d2:Nat,(c2:Int)+(d:Int)=(d2:Int):=⟨c2+d,om⟩
 refine gU1 (a7N @A7 @AI5 @g2 @g3 @g4 @rp @hd2) ?_;refine H3.intro (by (repeat first|simp (disch:=omega) only [B9,C9,C0,asx (Ext.refl _),P0 (b:=p) Xd om]|rw [D0 (by kernel_rfl)]);first|done|rfl) ?_
 try (refine gU1 (a4N @A7 @g2 @g3 @g4) ?_;try exact ⟨⟩)
 obtain ⟨S4,hS4⟩:∃ S,τ4.upd p [a0,a1,a2,a3,a4,a5,str [],.int .i64 0,.int .i64 0,str [],.slice none 0 0,a11,a12,a13,a14,.int .i64 (a:Nat),.int .i64 (b2:Nat),.int .i64 (c2:Nat),.int .i64 (d2:Nat),.int .i64 0]=S:=⟨_,rfl⟩
 rw [hS4];have U4:P4 q p τ0 S4:=by rw [<- hS4];exact (U3.trans (.xq Xd)).upd
 have n4:S4.n=τ4.n:=by rw [<- hS4];rfl
 have rp:S4.A5 p=some [a0,a1,a2,a3,a4,a5,str [],.int .i64 0,.int .i64 0,str [],.slice none 0 0,a11,a12,a13,a14,.int .i64 (a:Nat),.int .i64 (b2:Nat),.int .i64 (c2:Nat),.int .i64 (d2:Nat),.int .i64 0]:=by rw [<- hS4];exact cL
 have E4:Ext Z S4:=by rw [<- hS4];exact Ed.upd om _
 have Q4:GQ q v l S4:=by rw [<- hS4];exact Qd.x (C5.refl.upd _) om om
 clear hS4
 try (refine gU1 (a4N @A7 @g2 @g3 @g4) ?_;try exact ⟨⟩)
 refine (nxg (n:=20) hl hll E4 om om Q4 om om).mono ?_;rintro r ⟨s,τ5,rfl,hs,Es,Qs,Xs⟩;have ns:=Xs.n;have rp:τ5.A5 p=some _:=(Xs.A5 om om).trans rp;refine gU1 (a6N @A7 @AI6 @g2 @g3 @g4 @rp) ?_;obtain ⟨S5,hS5⟩:∃ S,τ5.upd p [a0,a1,a2,a3,a4,a5,str [],.int .i64 0,.int .i64 0,str [],.slice none 0 0,a11,a12,a13,a14,.int .i64 (a:Nat),.int .i64 (b2:Nat),.int .i64 (c2:Nat),.int .i64 (d2:Nat),.int .i64 (s:Nat)]=S:=⟨_,rfl⟩
 rw [hS5];have U5:P4 q p τ0 S5:=by rw [<- hS5];exact (U4.trans (.xq Xs)).upd
 have n5:S5.n=τ5.n:=by rw [<- hS5];rfl
 have rp:S5.A5 p=some [a0,a1,a2,a3,a4,a5,str [],.int .i64 0,.int .i64 0,str [],.slice none 0 0,a11,a12,a13,a14,.int .i64 (a:Nat),.int .i64 (b2:Nat),.int .i64 (c2:Nat),.int .i64 (d2:Nat),.int .i64 (s:Nat)]:=by rw [<- hS5];exact cL
 have E5:Ext Z S5:=by rw [<- hS5];exact Es.upd om _
 have Q5:GQ q v l S5:=by rw [<- hS5];exact Qs.x (C5.refl.upd _) om om
 clear hS5
 try (refine gU1 (a4N @A7 @g2 @g3 @g4) ?_;try exact ⟨⟩)
 refine (nxg (n:=4) hl hll E5 om om Q5 om om).mono ?_;rintro r ⟨dp,τ6,rfl,hdp,Edp,Qdp,Xdp⟩;have ndp:=Xdp.n;have rp:τ6.A5 p=some _:=(Xdp.A5 om om).trans rp
 try (refine gU1 (a4N @A7 @g2 @g3 @g4) ?_;try exact ⟨⟩)
 refine Mv.mono ?_;rintro r ⟨bn,τ7,rfl,F7,bn1,bn2,rn⟩;have n7:=F7.n;have rp:τ7.A5 p=some _:=(F7.A5 om).trans rp;have E7:Ext Z τ7:=Edp.trans F7;have Q7:=Qdp.ext F7 om;have U7:P4 q p τ0 τ7:=(U5.trans (.xq Xdp)).trans (.of F7);obtain ⟨H,hHd⟩:∃ H,(Z.n::q::p::H0)=H:=⟨_,rfl⟩
 have hHm:∀ c∈H,Z.n<=c\/c∈H0:=by
  intro c hc;rw [<- hHd] at hc;simp only [List.mem_cons] at hc;rcases hc with rfl|rfl|rfl|h <;> first|(left;omega)|exact .inr h
 have hHl:∀ c∈H,c<τ0.n:=fun c hc=>by
  rw [<- hHd] at hc;simp only [List.mem_cons] at hc;rcases hc with rfl|rfl|rfl|h <;> first|omega|(have:=hH0 c h;omega)
 have hqH:q∈H:=by rw [<- hHd];simp
 have hn0:=U5.n;have hbn:bn∉H:=fun h=>by have:=hHl bn h;omega
 have hsl:SL (H6 τ7 H) 1 (.slice (some ⟨bn,0,none⟩) 5 5) (qW.map fun s=>[str s]):=by
  refine .inr ⟨bn,0,none,5,_,rfl,by rw [Cz];exact bn2,by rw [BG hbn];exact A8 rn,?_⟩;intro k r hk
  match k,hk with
  | 0,hk=>cases hk;rfl
  | 1,hk=>cases hk;rfl
  | 2,hk=>cases hk;rfl
  | 3,hk=>cases hk;rfl
  | 4,hk=>cases hk;rfl
 try (refine gU1 (a4N @A7 @g2 @g3 @g4) ?_;try exact ⟨⟩)
 refine (kR iI dp om (H:=H) (fun c hc=>by have:=hHl c hc;omega) (qX hl hll E7 hHm om Q7 hqH) hsl).mono ?_;rintro r ⟨row,e,k,m,τ8,rfl,hM8,X8,hx,hf,hk,hm⟩;have n8:=X8.n;have rp:τ8.A5 p=some _:=(X8.A5 om om).trans rp;obtain ⟨x1,x2,x3,x4,x5,rfl⟩:=fc5 hx.to;have U8:P4 q p τ0 τ8:=U7.trans (.xq X8);have rz:τ8.A5 Z.n=some Ox:=by rw [U8.A5 om om om];exact hz
 unfold Ox at rz;refine gU1 (a7N @A7 @gw6 @g2 @g3 @g4 @rp @rz) ?_;have hmx:m<=16:=by
  have:2 ^ (dp+1)<=16:=Nat.le_trans (Nat.pow_le_pow_right om (show dp+1<=4 by omega)) (by decide);omega
 refine ⟨_,_,_,x1,x2,x3,x4,x5,e,k,m,a,b2,c2,d2,s,rfl,fR1 g2,rfl,U8.upd,(X8.ext E7 om).upd om _,by simp;omega,?_,hf,om,hmx,om,om,om,om,om⟩;refine hx.E8 (I5 (by simp) fun c hc hm=>?_);have h1:c≠Z.n:=fun e=>hm (by rw [<- hHd,e];simp);have h2:c≠p:=fun e=>hm (by rw [<- hHd,e];simp);exact ⟨fun h=>hm (by rw [<- hHd];simp [h]),by rw [D9 h1,D9 h2]⟩
theorem fE {α:Type}{R:Value->List Int->Prop}{f:α->Value}{g:α->List Int}:∀ {L:List α},(∀ y∈L,R (f y) (g y))->CB R (L.map f) (L.map g):=by
 intro L;induction L with
 | nil=>intro _;trivial
 | cons y L ih=>intro h;exact ⟨h y (List.mem_cons_self ..),ih fun z hz=>h z (List.mem_cons_of_mem _ hz)⟩
theorem ll {nm:By}{L1:List Lot}{L2:List R0}{L3:List Req}{L4:List By}{L5:List (List Int)}{b c d bu q1 q2 q3 q4 q5 k m:Nat}{e:Ex}
  (n1:AL nm=true) (n2:nm.length<=9) (a1:1<=L1.length) (a2:L1.length<=3) (a3:Oj L1) (a4:∀ y∈L1,1<=y.id/\y.id<=1+2*(L1.length:Int)/\0<=y.D5/\y.D5<=199)
  (b1:L2.length<=3) (b2:L2.map R0.name=LH.take L2.length) (b3:∀ c∈L2,(c.kind=1\/c.kind=2)/\0<=c.low/\c.low<=3/\0<=c.high/\c.high<=8)
  (c1:L3.length<=2) (c2:∀ x∈L3,(Y0 x.name=true/\x.name.length<=9)/\([[60,61],[62,61]]:List By).contains x.rel=true/\0<=x.value/\x.value<=7)
  (d1:L4.length<=3) (d2:L4=JT.take L4.length) (e1:L5.length<=2) (e2:∀ y∈L5,∃ a b,y=[a,b]/\1<=a/\a<b/\b<=9)
  (f1:FSw k m e) (f2:k<=4) (f3:m<=16) (g1:b<100) (g2:c<100) (g3:d<100) (g4:bu<2000) (h1:q1<20) (h2:q2<40) (h3:q3<60) (h4:q4<80) (h5:q5<20) :
  PX ⟨nm,L1,L2,L3,(b:Nat),10+(c:Nat),e,L4,(d:Nat),L5,(bu:Nat),⟨(q1:Nat),(q2:Nat),(q3:Nat),(q4:Nat),(q5:Nat)⟩⟩:=by
 obtain ⟨u1,u2⟩:=ZM L2.length b1;obtain ⟨v1,v2⟩:=ZK L4.length d1;rw [<- b2] at u1 u2;rw [<- d2] at v1 v2;have cn:∀ c∈L2,Y0 c.name=true/\c.name.length<=9:=fun c hc=>u2 _ (List.mem_map.2 ⟨c,hc,rfl⟩);have sm:∀ {n:Int},0<=n->n<5000->SmN n:=fun h1 h2=>⟨h1,om⟩
 have i9:∀ {n:Int},0<=n->n<5000->In9 n:=fun h1 h2=>⟨h1,om⟩
 refine ⟨⟨n1,by show L1.length<=12;omega,fun h=>?_,fun l hl=>?_,VU a3,by show L2.length<=12;omega,fun c hc=>?_,u1,by show L3.length<=24;omega,fun r hr=>?_,i9 (by (try dsimp only);omega) (by (try dsimp only);omega),i9 (by (try dsimp only);omega) (by (try dsimp only);omega),⟨k,m,f1.fw,om,om⟩,by show L4.length<=12;omega,fun w hw=>(v2 w hw).1,v1,i9 (by (try dsimp only);omega) (by (try dsimp only);omega),by show L5.length<=12;omega,fun c hc=>?_,i9 (by (try dsimp only);omega) (by (try dsimp only);omega),i9 (by (try dsimp only);omega) (by (try dsimp only);omega),i9 (by (try dsimp only);omega) (by (try dsimp only);omega),i9 (by (try dsimp only);omega) (by (try dsimp only);omega),i9 (by (try dsimp only);omega) (by (try dsimp only);omega),i9 (by (try dsimp only);omega) (by (try dsimp only);omega)⟩,
  ⟨fun l hl=>?_,fun c hc=>?_,fun r hr=>?_,fun l hl n hn=>?_,sm (by (try dsimp only);omega) (by (try dsimp only);omega),sm (by (try dsimp only);omega) (by (try dsimp only);omega),sm (by (try dsimp only);omega) (by (try dsimp only);omega),sm (by (try dsimp only);omega) (by (try dsimp only);omega),sm (by (try dsimp only);omega) (by (try dsimp only);omega),sm (by (try dsimp only);omega) (by (try dsimp only);omega),sm (by (try dsimp only);omega) (by (try dsimp only);omega),sm (by (try dsimp only);omega) (by (try dsimp only);omega),sm (by (try dsimp only);omega) (by (try dsimp only);omega)⟩,
  n2,a2,b1,fun c hc=>(cn c hc).2,c1,fun r hr=>(c2 r hr).1.2,d1,fun w hw=>(v2 w hw).2,e1,fun c hc=>?_,⟨k,m,f1,om,f3⟩⟩
 ·have h':L1=[]:=h;rw [h'] at a1;simp at a1
 ·obtain ⟨z1,z2,z3,z4⟩:=a4 l hl;exact ⟨z1,om,i9 z3 om⟩
 ·obtain ⟨z1,z2,z3,z4,z5⟩:=b3 c hc;exact ⟨(cn c hc).1,z1,i9 z2 om,i9 z4 om⟩
 ·obtain ⟨z1,z2,z3,z4⟩:=c2 r hr;exact ⟨z1.1,z2,i9 z3 om⟩
 ·obtain ⟨a,b,rfl,z1,z2,z3⟩:=e2 c hc;refine ⟨by simp,by simp,?_,fun n hn=>?_⟩
  ·simp only [List.nodup_cons,List.mem_singleton,List.not_mem_nil,not_false_eq_true,List.nodup_nil,and_true];omega
  ·simp only [List.mem_cons,List.not_mem_nil,or_false] at hn;omega
 ·obtain ⟨z1,z2,z3,z4⟩:=a4 l hl;exact ⟨sm om om,sm z3 om⟩
 ·obtain ⟨z1,z2,z3,z4,z5⟩:=b3 c hc;exact ⟨z1,sm z2 om,sm z4 om⟩
 ·obtain ⟨z1,z2,z3,z4⟩:=c2 r hr;exact sm z3 om
 ·obtain ⟨a,b,rfl,z1,z2,z3⟩:=e2 l hl;simp only [List.mem_cons,List.not_mem_nil,or_false] at hn;exact sm om om
 ·obtain ⟨a,b,rfl,-⟩:=e2 c hc;simp
theorem fF {x:Nat}(h:(x:Int)<3):∃ s,sub ([str [67,104,97,105,114,115],str [116],str [76,111,116,95,55]]:List Value) x 1=some [str s]/\AL s=true/\s.length<=9:=by
 have:x=0\/x=1\/x=2:=om;rcases this with rfl|rfl|rfl
 ·exact ⟨_,rfl,by decide,by decide⟩
 ·exact ⟨_,rfl,by decide,by decide⟩
 ·exact ⟨_,rfl,by decide,by decide⟩
theorem Pj {Z:St}{v:Value}{l:List Int}(H0:List Nat) (hH0:∀ c∈H0,c<Z.n) (hl:Y8 (H6 Z H0) v l) (hll:l.length<=9223372036854775807) :
  Ev (go Tryz.prog HS (.fn 14) [v] Z) (fun r=>∃ cells T Z',r=⟨false,.agg ⟨cells⟩,Z'⟩/\Ext Z Z'/\TnY (H6 Z' H0) cells T/\PX T) ⟨⟩:=by
 have hv:∃ a n c,v= .slice a n c:=by
  obtain ⟨a,c,b,off,cells,h,-⟩:=hl.1.use;exact ⟨a,_,c,h⟩
 have hvc:K3 v=[v]/\CQ v=false:=by obtain ⟨a,n,c,rfl⟩:=hv;exact ⟨rfl,rfl⟩
 refine D7 Tryz.func14 rfl rfl ?_;refine gU1 (a6N @A1 @A7 (hvc.1) (hvc.2) @AH0 @AH1) ?_;obtain ⟨S0,hS0⟩:∃ S,(((Z.new [str [],.slice none 0 0,.slice none 0 0,.slice none 0 0,.int .i64 0,.int .i64 0,str [],.int .i64 0,.int .i64 0,str [],.slice none 0 0,.slice none 0 0,.int .i64 0,.slice none 0 0,.int .i64 0,.int .i64 0,.int .i64 0,.int .i64 0,.int .i64 0,.int .i64 0] (some 41)).new [v,.int .i64 0]).new [str [67,104,97,105,114,115],str [116],str [76,111,116,95,55]])=S:=⟨_,rfl⟩
 rw [hS0];obtain ⟨q,hq⟩:∃ q,Z.n+1=q:=⟨_,rfl⟩
 rw [hq];have E0:Ext Z S0:=by rw [<- hS0];exact eX
 have n0:S0.n=Z.n+3:=by rw [<- hS0];rfl
 have Q0:GQ q v l S0:=⟨0,Nat.zero_le _,by rw [<- hS0,<- hq];exact cL⟩
 have z0:S0.A5 Z.n=some Ox:=by rw [<- hS0];unfold Ox;exact cL
 have k0:S0.row (Z.n+2)=some [str [67,104,97,105,114,115],str [116],str [76,111,116,95,55]]:=by rw [<- hS0];exact cL
 clear hS0;refine (nxg (n:=3) hl hll E0 om om Q0 om om).mono ?_;rintro r ⟨a,τ1,rfl,ha,Ea,Qa,Xa⟩;have na:=Xa.n;have z1:τ1.A5 Z.n=some Ox:=by rw [Xa.A5 om om];exact z0
 have k1:τ1.row (Z.n+2)=some [str [67,104,97,105,114,115],str [116],str [76,111,116,95,55]]:=by rw [Xa.row om om];exact k0
 obtain ⟨nm,hnm,nm1,nm2⟩:=fF ha;have q2:Z.n+1+1=Z.n+2:=rfl;refine gU1 (a5N @A1 @A7 @q2 @k1 @hnm) ?_;refine (nxg (n:=5) hl hll Ea om om Qa om om).mono ?_;rintro r ⟨b,τ2,rfl,hb,Eb,Qb,Xb⟩;have nb:=Xb.n;refine gU1 (aI @A1 @A7) ?_;refine (nxg (n:=90) hl hll Eb om om Qb om om).mono ?_;rintro r ⟨c,τ3,rfl,hc,Ec,Qc,Xc⟩;have nc:=Xc.n;refine gU1 (aI @A1 @A7) ?_;refine (nxg (n:=4) hl hll Ec om om Qc om om).mono ?_;rintro r ⟨d,τ4,rfl,hd,Ed,Qd,Xd⟩;have nd:=Xd.n;refine gU1 (aI @A1 @A7) ?_;refine (nxg (n:=2000) hl hll Ed om om Qd om om).mono ?_;rintro r ⟨e,τ5,rfl,he,Ee,Qe,Xe⟩;have ne:=Xe.n;have z5:τ5.A5 Z.n=some Ox:=by rw [Xe.A5 om om,Xd.A5 om om,Xc.A5 om om,Xb.A5 om om];exact z1
 simp (maxSteps:=8000000) (disch:=first|exact dS|fail) only [↓bD,bU,reduceMul,reduceEqDiff,reduceAdd,Nat.reduceBEq,reduceIte,Option.isNone_none,A1,A7,asx (Ext.refl _)];refine H3.intro (by simp (disch:=omega) only [B9,C9,C0,asx (Ext.refl _),P0 (b:=Z.n+2) Xa om,P0 (b:=Z.n+2) Xb om,P0 (b:=Z.n+2) Xc om,P0 (b:=Z.n+2) Xd om,P0 (b:=Z.n+2) Xe om];first|done|rfl) ?_;obtain ⟨p,hp⟩:∃ p,τ5.n=p:=⟨_,rfl⟩
 refine gU1 (aI @A1 @A7) ?_;obtain ⟨S6,hS6⟩:∃ S,((τ5.new [str [],.slice none 0 0,.slice none 0 0,.slice none 0 0,.int .i64 0,.int .i64 0,str [],.int .i64 0,.int .i64 0,str [],.slice none 0 0,.slice none 0 0,.int .i64 0,.slice none 0 0,.int .i64 0,.int .i64 0,.int .i64 0,.int .i64 0,.int .i64 0,.int .i64 0] (some 41)).upd τ5.n [str nm,.slice none 0 0,.slice none 0 0,.slice none 0 0,.int .i64 (b:Nat),.int .i64 (10+(c:Nat)),str [],.int .i64 0,.int .i64 0,str [],.slice none 0 0,.slice none 0 0,.int .i64 (d:Nat),.slice none 0 0,.int .i64 (e:Nat),.int .i64 0,.int .i64 0,.int .i64 0,.int .i64 0,.int .i64 0])=S:=⟨_,rfl⟩
 rw [hS6];have F6:Ext τ5 S6:=by rw [<- hS6];exact eX
 have E6:Ext Z S6:=Ee.trans F6;have n6:S6.n=p+1:=by rw [<- hS6,<- hp];rfl
 have rp:S6.A5 p=some [str nm,.slice none 0 0,.slice none 0 0,.slice none 0 0,.int .i64 (b:Nat),.int .i64 (10+(c:Nat)),str [],.int .i64 0,.int .i64 0,str [],.slice none 0 0,.slice none 0 0,.int .i64 (d:Nat),.slice none 0 0,.int .i64 (e:Nat),.int .i64 0,.int .i64 0,.int .i64 0,.int .i64 0,.int .i64 0]:=by rw [<- hS6,<- hp];exact cL
 have z6:S6.A5 Z.n=some Ox:=by rw [F6.A5 om];exact z5
 have Q6:=Qe.ext F6 om;clear hS6;rw [hp];refine (nxg (n:=3) hl hll E6 om om Q6 om om).mono ?_;rintro r ⟨f,τ7,rfl,hf,Ef,Qf,Xf⟩;have nf:=Xf.n;have z7:τ7.A5 Z.n=some Ox:=by rw [Xf.A5 om om];exact z6
 have rp:=(Xf.A5 (b:=p) om om).trans rp;obtain ⟨nl,hnl,nl1,nl3⟩:∃ nl:Nat,1+(f:Int)=(nl:Int)/\1<=nl/\nl<=3:=⟨f+1,om,om,om⟩
 refine gU1 (a3N @A1 @A7 @hnl) ?_;refine (lp (nl:=nl) hl hll (show Z.n<=q by omega) (show q<p by omega) ⟨fR,fR,fR,Ef,Qf,rp,om⟩ (fR) nl3 (fR)).mono ?_;rintro r ⟨fr8,τ8,u1,L1,rfl,M8,X8,ho1,hL1,hR1,hB1⟩;have n8:=X8.n;refine gU1 (aI @A1 @A7) ?_;refine (ct hl hll (show Z.n<=q by omega) (show q<p by omega) ⟨fR1 @M8.g2,fR1 @M8.g3,fR1 @M8.g4,M8.E,M8.Q,M8.r,M8.lt⟩ (fR)).mono ?_;rintro r ⟨fr9,τ9,u2,L2,rfl,M9,X9,ho2,hL2,hN2,hC2⟩;have n9:=X9.n;refine gU1 (aI @A1 @A7) ?_;refine (ki hl hll (show Z.n<=q by omega) (show q<p by omega) ⟨fR1 @M9.g2,fR1 @M9.g3,fR1 @M9.g4,M9.E,M9.Q,M9.r,M9.lt⟩ (fR)).mono ?_;rintro r ⟨Aa1,τ10,u3,L3,rfl,M10,X10,ho3,hL3,hC3⟩;have n10:=X10.n;have Aa2:=M10.lt;refine gU1 (aI @A1 @A7) ?_;obtain ⟨S10,fG⟩:∃ S,τ10.new [str [112,114,105,99,101],str [115,112,101,101,100],str [99,111,109,102,111,114,116]]=S:=⟨_,rfl⟩
 rw [fG];have F10:Ext τ10 S10:=by rw [<- fG];exact eX
 have Aa3:S10.n=τ10.n+1:=by rw [<- fG];rfl
 have rt0:S10.A5 τ10.n=some [str [112,114,105,99,101],str [115,112,101,101,100],str [99,111,109,102,111,114,116]]:=by rw [<- fG];exact cL
 clear fG;refine (lK (nt:=τ10.n) hl hll (show Z.n<=q by omega) (show q<p by omega) ⟨fR1 @M10.g2,fR1 @M10.g3,fR1 @M10.g4,M10.E.trans F10,M10.Q.ext F10 om,(F10.A5 M10.lt).trans M10.r,om⟩ (fR) (fR) rt0 om om om).mono ?_;rintro r ⟨Aa4,τ11,u4,L4,rfl,M11,X11,ho4,hL4,hC4⟩;have n11:=X11.n;refine gU1 (aI @A1 @A7) ?_;refine (aD hl hll (show Z.n<=q by omega) (show q<p by omega) ⟨fR1 @M11.g2,fR1 @M11.g3,fR1 @M11.g4,M11.E,M11.Q,M11.r,M11.lt⟩ (fR)).mono ?_;rintro r ⟨Aa5,τ12,u5,L5,rfl,M12,X12,ho5,hL5,hC5⟩;have n12:=X12.n;have Y11:P4 q p τ8 τ12:=(((X9.trans X10).trans (.of F10)).trans X11).trans X12;have z12:τ12.A5 Z.n=some Ox:=by rw [Y11.A5 om om om,X8.A5 om om om];exact z7
 simp only [W4,YF,fH,Pr,YG,Ps,D3,K4,Nat.reduceBEq,Nat.reduceEqDiff,reduceIte,Tb,decide_true,YH,Tc];refine (lq hH0 hl hll (show Z.n<q by omega) (show q<p by omega) ⟨fR1 @M12.g2,fR1 @M12.g3,fR1 @M12.g4,M12.E,M12.Q,M12.r,M12.lt⟩ z12).mono ?_;rintro r ⟨Aa6,τ13,cs,x1,x2,x3,x4,x5,ex,k,m,q1,q2,q3,q4,q5,rfl,g2,hcs,X13,E13,Aa7,hx,hf,hk,hm,t1,t2,t3,t4,t5⟩;have Pt:sub cs 0 20=some cs:=by rw [hcs];rfl
 refine gU1 (a5N @A1 @A7 @g2 @Pt @Tryz.results14) ?_;have aE:∀ {lo:Nat},Z.n<lo->∀ c∈H0,c<lo:=fun h c hc=>by have:=hH0 c hc;omega
 have n13:=X13.n;have p1:=OL.H6 (OL.upd (p:=Z.n) (cs:=cs) (OL.Pu ho1 (Y11.trans X13) om om) om) (aE om);have p2:=OL.H6 (OL.upd (p:=Z.n) (cs:=cs) (OL.Pu ho2 ((((X10.trans (.of F10)).trans X11).trans X12).trans X13) om om) om) (aE om);have p3:=OL.H6 (OL.upd (p:=Z.n) (cs:=cs) (OL.Pu ho3 ((((P4.of F10).trans X11).trans X12).trans X13) om om) om) (aE om);have p4:=OL.H6 (OL.upd (p:=Z.n) (cs:=cs) (OL.Pu ho4 (X12.trans X13) om om) om) (aE om);have p5:=OL.H6 (OL.upd (p:=Z.n) (cs:=cs) (OL.Pu ho5 X13 om om) om) (aE om)
 have hM:=ll (nm:=nm) (L1:=L1) (L2:=L2) (L3:=L3) (L4:=L4) (L5:=L5.map Prod.snd) (b:=b) (c:=c) (d:=d) (bu:=e) (q1:=q1) (q2:=q2) (q3:=q3) (q4:=q4) (q5:=q5) nm1 nm2 om om hR1 hB1 hL2 hN2 hC2 hL3 hC3 hL4 hC4 (by rw [List.length_map];exact hL5)
  (fun y hy=>by obtain ⟨x,hx1,rfl⟩:=List.mem_map.1 hy;exact (hC5 x hx1).2.2) hf hk hm om om om om t1 t2 t3 t4 t5
 refine ⟨cs,⟨nm,L1,L2,L3,(b:Nat),10+(c:Nat),ex,L4,(d:Nat),L5.map Prod.snd,(e:Nat),⟨(q1:Nat),(q2:Nat),(q3:Nat),(q4:Nat),(q5:Nat)⟩⟩,_,rfl,E13.upd (Nat.le_refl _) _,⟨u1,u2,u3,[x1,x2,x3,x4,x5],u4,u5,L5.map Prod.fst,hcs,p1,p2,p3,hx,p4,?_,fE fun y hy=>?_⟩,hM⟩
 ·rw [List.map_map];exact p5
 ·exact (OL.H6 (OL.upd (p:=Z.n) (cs:=cs) (OL.Pu (hC5 y hy).2.1 X13 om om) om) (aE om)).sl
end Go.Proofs.T
