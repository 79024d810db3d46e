/- The H3 iC of AO2 3: a AH1. -/
import Derived.Test.YtgjocfjdecjhoaaGreatDoorITY
set_option linter.unusedSimpArgs false
set_option linter.unusedVariables false
set_option linter.defProp false
set_option maxHeartbeats 32000000
set_option maxRecDepth 100000
namespace Go.Proofs.T
open Go Go.Ab
open Nat (reduceMul reduceEqDiff reduceAdd)
def Cr {s:By}(h:s.length<=30):FOk 1 (J4 s):= .name h
def FP {o:By}{j k:Nat}{a b:Ex}(c:o≠K8) (d:o≠nmB) (g:o.length<=4) (e:FOk j a) (f:FOk k b):FOk (j+k) (K4 o a b):= .op c d g e f
def Ae1 {x:Nat}(h:(x:Int)<4):∃ dd,sub ([.int .i64 1,.int .i64 2,.int .i64 10,.int .i64 4]:List Value) x 1=some [.int .i64 dd]/\dd∈dds:=by
 have:x=0\/x=1\/x=2\/x=3:=om;rcases this with rfl|rfl|rfl|rfl
 ·exact⟨1,rfl,by decide⟩
 ·exact⟨2,rfl,by decide⟩
 ·exact⟨10,rfl,by decide⟩
 ·exact⟨4,rfl,by decide⟩
def Aw5 {x:Nat}(h:(x:Int)<2):∃ o,sub ([str [109,105,110],str [109,97,120]]:List Value) x 1=some [str o]/\(o=Q7\/o=R4):=by
 have:x=0\/x=1:=om;rcases this with rfl|rfl
 ·exact⟨Q7,rfl,.inl rfl⟩
 ·exact⟨R4,rfl,.inr rfl⟩
def IvS (T:Tn) (e:Ex):Prop:=Iv T e (BdQ 80 144)/\Su T e
def iR {Z:St}{q:Nat}{v vc:Value}{l:List Int}{ca:List Value}{T:Tn}(H:List Nat) (yB:∀ x∈H,x<Z.n) (hM:MS H q v l Z) (i4:ca.length=20) (hc:sub ca 2 1=some [vc]) (g7:PQ (N5 Z H) vc T.G7) (i5:T.G7.length<=16) (hR:Rng T) (e7:∀ c∈T.G7,c.name∈cn) :
  Ev (gO 27 [.pointer (some ⟨q,0,none⟩),.agg ⟨ca⟩] Z) (fun r=>∃ row e j Z',r=⟨false,.agg ⟨row⟩,Z'⟩/\MS H q v l Z'/\J9 q Z Z'/\P8 (N5 Z' H) row e/\FOk j e/\j<=5/\IvS T e) ⟨⟩:=by
 have hq:=hM.lt;have g8:sub ca 0 20=some ca:=C9 om om;obtain⟨aa,cc,cb,co,i3,rfl,c1,c2⟩:=g7.use;refine C8 Tryz.func27 rfl rfl ?_;refine gS1 g8 ?_;refine(MI (n:=9) hM.new.new om om).mono ?_;rintro r ⟨x1,Z1,rfl,i,g1,d5⟩;have n1:=d5.n;simp only[G3]at n1;refine gS ?_;refine(MI (n:=4) g1.new om om).mono ?_;rintro r ⟨x2,Z2,rfl,A,g2,c7⟩;have n2:=c7.n;simp only[G3]at n2;have k2:Z2.row Z1.n=some [.int .i64 1,.int .i64 2,.int .i64 10,.int .i64 4]:=eT (c7.row (by simp) om) cL;obtain⟨dd,ix,hdd⟩:=Ae1 A;obtain⟨dd1,BY5⟩:=wF hdd;refine gS1 (aI k2 ix) ?_;refine(ZJ (n:=1+(x1:Int)) (d:=dd) om om om om om).mono ?_;rintro r ⟨w,Z3,rfl,u,hw⟩;have n3:=u.n;have h0:=(hw Z).len;have wt:=kG (n:=1+(x1:Int)) (d:=dd) om om hdd;have a3:1<=1+(x1:Int):=om;have a4:1+(x1:Int)<=9:=om;obtain⟨WN,hWN⟩:=nW (1+(x1:Int));rw[hWN]at hw wt a3 a4;refine gS ?_;obtain⟨S3,hS3⟩:=nW (((Z3.new [str [],.int .i64 0,.int .i64 0,str [],.slice none 0 0] (some 32)).upd Z3.n w));rw[hS3];have E3:Ext Z3 S3:=by rw[<- hS3];exact eX
 have j3:S3.n=Z3.n+1:=by rw[<- hS3];rfl
 have X3:J9 q Z S3:=(((J9.of (Ext.Q3 (Ext.Q3 (.refl _) _) _)).trans d5).trans ((J9.of (.new _ _)).trans c7)).trans (J9.of (u.trans E3));have C3:Cl S3 [(Z.n,ca),(Z.n+1,[str [],.int .i64 0,.int .i64 0,str [],.slice none 0 0]),(Z3.n,w)]:=by
  have D1:Cl ((Z.new ca).new [str [],.int .i64 0,.int .i64 0,str [],.slice none 0 0] (some 32)) [(Z.n,ca),(Z.n+1,[str [],.int .i64 0,.int .i64 0,str [],.slice none 0 0])]:=⟨⟨by simp;omega,cL⟩,⟨by simp,cL⟩,trivial⟩
  have D2:Cl S3 [(Z.n,ca),(Z.n+1,[str [],.int .i64 0,.int .i64 0,str [],.slice none 0 0])]:=(((Cl.BX c7 (by intro p hp;simp at hp;rcases hp with rfl|rfl<;>(show _≠q;simp;omega)) ((Cl.BX d5 (by intro p hp;simp at hp;rcases hp with rfl|rfl<;>(show _≠q;simp;omega)) D1).ext (.new _ _))).ext u).ext E3)
  exact⟨D2.1,D2.2.1,⟨om,by rw[<- hS3];exact cL⟩,trivial⟩
 have M3:MS H q v l S3:=(g2.ext u).ext E3;refine(MI (n:=8) M3 om om).mono ?_;rintro r ⟨x3,Z4,rfl,J,a9,d6⟩;have n4:=d6.n;have X4:=X3.trans d6;have C4:Cl Z4 [(Z.n,ca),(Z.n+1,[str [],.int .i64 0,.int .i64 0,str [],.slice none 0 0]),(Z3.n,w)]:=Cl.BX d6 (by intro p hp;simp at hp;rcases hp with rfl|rfl|rfl<;>(show _≠q;simp;omega)) C3;clear C3 hS3 k2 ix;refine Br.intro (fun h=>by cases h) (fun _=>?_);have G0:True:=trivial;refine Ev.mono (R:=fun r=>∃ fr,r=⟨.normal,fr,Z4⟩/\fr.get 0=some (.pointer (some ⟨q,0,none⟩))/\fr.get 3=some (.pointer (some ⟨Z.n,0,none⟩))/\fr.get 4=some (.pointer (some ⟨Z.n+1,0,none⟩))/\fr.get 5=some (.pointer (some ⟨Z3.n,0,none⟩))/\fr.get 6=some (.int .i64 (x3:Nat))) (v:=⟨⟩) ?_ ?_
 ·refine gS ?_;exact⟨_,rfl,fR,fR,fR,fR,fR⟩
 rintro r ⟨fr,rfl,g0,g3,C,K,g6⟩;simp only[Gp];obtain⟨⟨-,a0⟩,⟨-,a1⟩,⟨-,a2⟩,-⟩:=id C4;have a6:=A9 a0;have c4:=A9 a2;refine Ol (fun fr τ=>τ=Z4/\fr.get 0=some (.pointer (some ⟨q,0,none⟩))/\fr.get 3=some (.pointer (some ⟨Z.n,0,none⟩))/\fr.get 4=some (.pointer (some ⟨Z.n+1,0,none⟩))/\fr.get 5=some (.pointer (some ⟨Z3.n,0,none⟩))/\∃ kd:Nat,fr.get 6=some (.int .i64 (kd:Nat))/\kd<8/\(T.G7.length=0->kd<=2)) ?_ ?_
 ·by_cases z0:T.G7.length=0
  ·have d0:decide ((T.G7.length:Int)=0)=true:=dT;by_cases z2:2<x3
   ·have Y:decide (2<(x3:Int))=true:=dT;have e3:(x3:Int).tmod 3=((x3 % 3:Nat):Int):=rfl;refine gS1 (aI g3 (aI g6 (aI a6 (aI hc (aI d0 (aI Y e3)))))) ?_;exact⟨_,_,rfl,rfl,fR1 g0,fR1 g3,fR1 C,fR1 K,x3 % 3,fR,om,om⟩
   ·have Y:decide (2<(x3:Int))=false:=dF;refine gS1 (aI g3 (aI g6 (aI a6 (aI hc (aI d0 Y))))) ?_;exact⟨_,_,rfl,rfl,fR1 g0,fR1 g3,fR1 C,fR1 K,x3,fR1 g6,om,om⟩
  ·have d0:decide ((T.G7.length:Int)=0)=false:=dF;refine gS1 (aI g3 (aI g6 (aI a6 (aI hc d0)))) ?_;exact⟨_,_,rfl,rfl,fR1 g0,fR1 g3,fR1 C,fR1 K,x3,fR1 g6,om,om⟩
 clear g0 g3 C K g6 fr;rintro fr τ ⟨rfl,g0,g3,C,K,kd,g6,i8,h5⟩;have d8:Z.n+1≠q:=om;have G:∀ x∈(Z.n+1)::H,x<τ.n:=by
  intro x I;rcases W1.1 I with rfl|I
  ·omega
  ·have:=yB x I;omega
 have done:∀ (τ:St),MS H q v l τ->J9 q Z τ->Z.n+2<=τ.n->∀ (row:List Value) (e:Ex) (j:Nat) (Z8:St),Ext τ Z8->P8 (N5 Z8 ((Z.n+1)::H)) row e->FOk j e->j<=5->IvS T e->MS H q v l (Z8.upd (Z.n+1) row)/\J9 q Z (Z8.upd (Z.n+1) row)/\P8 (N5 (Z8.upd (Z.n+1) row) H) row e:=by
  intro τ a9 X4 k9 row e j Z8 hE I _ _ _;have d4:=a9.ext hE;have hk:FG (N5 Z8 ((Z.n+1)::H)) (N5 (Z8.upd (Z.n+1) row) H):=AZ nL fun c hc hm=>by
   simp only[W1,not_or]at hm;exact⟨hm.2,Ae hm.1⟩
  refine⟨⟨d4.mem,?_,hM.arg.I2 (AZ (by have:=X4.n;have:=hE.n;simp;omega) fun c hc hm=>⟨hm,by rw[Ae om,hE.row (by have:=X4.n;omega),X4.row hc fun h=>hm (h ▸ hM.mem)]⟩),d4.len⟩,⟨by have:=X4.n;have:=hE.n;simp;omega,fun b hb g9=>by rw[Aa,z0z om,hE.same b (by have:=X4.n;omega),X4.same b hb g9]⟩,I.I2 hk⟩;obtain⟨k,r1,r2,r3⟩:=d4.UJ;exact⟨k,by rw[K9 om];exact r1,r2,r3⟩
 have lw:=(hw Z).len;clear h0;have M:sub w 0 5=some w:=C9 om om;obtain⟨⟨-,a0⟩,⟨-,a1⟩,⟨-,a2⟩,-⟩:=id C4;have a6:=A9 a0;have c4:=A9 a2;by_cases h2:kd=0
 ·subst h2;have e0:decide (((0:Nat):Int)=0)=true:=by decide
  refine gS1 (aI g0 (aI g3 (aI C (aI K (aI g6 (aI e0 (aI a6 (aI c4 M)))))))) ?_;refine DT.mono ?_;rintro r ⟨t0,u0,rfl,f,a⟩;have L:=f.n;have a:=a (N5 u0 ((Z.n+1)::H));have m:Ext τ u0:=f;have F:=C4.ext m;obtain⟨⟨-,N⟩,⟨-,o⟩,⟨-,y⟩,-⟩:=id F;have g:=A9 y;have l0:=a.len;refine gS1 (aI g (aI M (aI o (aI C (aI K (aI (asx f) (aI @G6 @Tryz.results27))))))) ?_;refine DT.mono ?_;rintro r ⟨t1,u1,rfl,s,i⟩;have a8:=s.n;have i:=i (N5 u1 ((Z.n+1)::H));have a:=a.I2 (I9 s);have m:Ext τ u1:=m.trans s;have F:=C4.ext m;obtain⟨⟨-,N⟩,⟨-,o⟩,⟨-,y⟩,-⟩:=id F;have g:=A9 y;have l1:=i.len;refine gS1 (aI g (aI M (aI o (aI C (aI K (aI (asx f) (aI (asx s) (aI @G6 @Tryz.results27)))))))) ?_;refine(Cx ((Z.n+1)::H) (fun x I=>by have:=G x I;have:=L;have:=a8;omega) a i).mono ?_;rintro r ⟨t2,u2,rfl,B,A⟩;have b6:=B.n;have a:=a.I2 (I9 B);have i:=i.I2 (I9 B);have m:Ext τ u2:=m.trans B;have F:=C4.ext m;obtain⟨⟨-,N⟩,⟨-,o⟩,⟨-,y⟩,-⟩:=id F;have g:=A9 y;have l2:=A.len;refine gS1 (aI g (aI M (aI o (aI C (aI K (aI (asx f) (aI (asx s) (aI (asx B) (aI @G6 @Tryz.results27))))))))) ?_;refine(Cx ((Z.n+1)::H) (fun x I=>by have:=G x I;have:=L;have:=a8;have:=b6;omega) (hw _) A).mono ?_;rintro r ⟨t3,u3,rfl,u,J⟩;have b9:=u.n;have a:=a.I2 (I9 u);have i:=i.I2 (I9 u);have A:=A.I2 (I9 u);have m:Ext τ u3:=m.trans u;have F:=C4.ext m;obtain⟨⟨-,N⟩,⟨-,o⟩,⟨-,y⟩,-⟩:=id F;have g:=A9 y;have l3:=J.len;refine gS1 (aI g (aI M (aI o (aI C (aI K (aI (asx f) (aI (asx s) (aI (asx B) (aI (asx u) (aI @G6 @Tryz.results27)))))))))) ?_
  try refine dW1 (aI (asx f) (aI (asx s) (aI (asx B) (asx u)))) ?_
  try(refine gS1 (aI o (aI C @Tryz.results27)) ?_;try exact⟨⟩)
  have O:FOk (1+(1+1)) (K4 Hx (DS (qn WN dd) (qd WN dd)) (K4 Dm (J4 Bp) (J4 J8))):=FP (by decide) (by decide) (by decide) (MA wt) (FP (by decide) (by decide) (by decide) (Cr (by decide)) (Cr (by decide)));have X:IvS T (K4 Hx (DS (qn WN dd) (qd WN dd)) (K4 Dm (J4 Bp) (J4 J8))):=⟨iv0 hR wt,.k0 ⟨a3,a4,hdd⟩⟩
  obtain⟨d1,Y,d3⟩:=done _ a9 X4 om t3 _ _ u3 m J O om X;exact⟨t3,_,_,_,rfl,d1,Y,d3,O,om,X⟩
 have e0:decide ((kd:Int)=0)=false:=dF;by_cases h3:kd=1
 ·subst h3;have e1:decide (((1:Nat):Int)=1)=true:=by decide
  refine gS1 (aI g0 (aI g3 (aI C (aI K (aI g6 (aI e0 (aI e1 (aI a6 (aI c4 M))))))))) ?_;refine(ZJ (n:=1) (d:=1) om om om om om).mono ?_;rintro r ⟨t0,u0,rfl,f,a⟩;have L:=f.n;have a:=a (N5 u0 ((Z.n+1)::H));have m:Ext τ u0:=f;have F:=C4.ext m;obtain⟨⟨-,N⟩,⟨-,o⟩,⟨-,y⟩,-⟩:=id F;have g:=A9 y;have l0:=a.len;refine gS1 (aI g (aI M (aI o (aI C (aI K (aI (asx f) (aI @G6 @Tryz.results27))))))) ?_;refine DT.mono ?_;rintro r ⟨t1,u1,rfl,s,i⟩;have a8:=s.n;have i:=i (N5 u1 ((Z.n+1)::H));have a:=a.I2 (I9 s);have m:Ext τ u1:=m.trans s;have F:=C4.ext m;obtain⟨⟨-,N⟩,⟨-,o⟩,⟨-,y⟩,-⟩:=id F;have g:=A9 y;have l1:=i.len;refine gS1 (aI g (aI M (aI o (aI C (aI K (aI (asx f) (aI (asx s) (aI @G6 @Tryz.results27)))))))) ?_;refine DT.mono ?_;rintro r ⟨t2,u2,rfl,B,A⟩;have b6:=B.n;have A:=A (N5 u2 ((Z.n+1)::H));have a:=a.I2 (I9 B);have i:=i.I2 (I9 B);have m:Ext τ u2:=m.trans B;have F:=C4.ext m;obtain⟨⟨-,N⟩,⟨-,o⟩,⟨-,y⟩,-⟩:=id F;have g:=A9 y;have l2:=A.len;refine gS1 (aI g (aI M (aI o (aI C (aI K (aI (asx f) (aI (asx s) (aI (asx B) (aI @G6 @Tryz.results27))))))))) ?_;refine DT.mono ?_;rintro r ⟨t3,u3,rfl,u,J⟩;have b9:=u.n;have J:=J (N5 u3 ((Z.n+1)::H));have a:=a.I2 (I9 u);have i:=i.I2 (I9 u);have A:=A.I2 (I9 u);have m:Ext τ u3:=m.trans u;have F:=C4.ext m;obtain⟨⟨-,N⟩,⟨-,o⟩,⟨-,y⟩,-⟩:=id F;have g:=A9 y;have l3:=J.len;refine gS1 (aI g (aI M (aI o (aI C (aI K (aI (asx f) (aI (asx s) (aI (asx B) (aI (asx u) (aI @G6 @Tryz.results27)))))))))) ?_;refine(Cx ((Z.n+1)::H) (fun x I=>by have:=G x I;have:=L;have:=a8;have:=b6;have:=b9;omega) A J).mono ?_;rintro r ⟨t4,u4,rfl,S,a7⟩;have d9:=S.n;have a:=a.I2 (I9 S);have i:=i.I2 (I9 S);have A:=A.I2 (I9 S);have J:=J.I2 (I9 S);have m:Ext τ u4:=m.trans S;have F:=C4.ext m;obtain⟨⟨-,N⟩,⟨-,o⟩,⟨-,y⟩,-⟩:=id F;have g:=A9 y;have l4:=a7.len;refine gS1 (aI g (aI M (aI o (aI C (aI K (aI (asx f) (aI (asx s) (aI (asx B) (aI (asx u) (aI (asx S) (aI @G6 @Tryz.results27))))))))))) ?_;refine(Cx ((Z.n+1)::H) (fun x I=>by have:=G x I;have:=L;have:=a8;have:=b6;have:=b9;have:=d9;omega) i a7).mono ?_;rintro r ⟨t5,u5,rfl,U,b5⟩;have f0:=U.n;have a:=a.I2 (I9 U);have i:=i.I2 (I9 U);have A:=A.I2 (I9 U);have J:=J.I2 (I9 U);have a7:=a7.I2 (I9 U);have m:Ext τ u5:=m.trans U;have F:=C4.ext m;obtain⟨⟨-,N⟩,⟨-,o⟩,⟨-,y⟩,-⟩:=id F;have g:=A9 y;have l5:=b5.len;refine gS1 (aI g (aI M (aI o (aI C (aI K (aI (asx f) (aI (asx s) (aI (asx B) (aI (asx u) (aI (asx S) (aI (asx U) (aI @G6 @Tryz.results27)))))))))))) ?_;refine(Cx ((Z.n+1)::H) (fun x I=>by have:=G x I;have:=L;have:=a8;have:=b6;have:=b9;have:=d9;have:=f0;omega) a b5).mono ?_;rintro r ⟨t6,u6,rfl,V,c8⟩;have i0:=V.n;have a:=a.I2 (I9 V);have i:=i.I2 (I9 V);have A:=A.I2 (I9 V);have J:=J.I2 (I9 V);have a7:=a7.I2 (I9 V);have b5:=b5.I2 (I9 V);have m:Ext τ u6:=m.trans V;have F:=C4.ext m;obtain⟨⟨-,N⟩,⟨-,o⟩,⟨-,y⟩,-⟩:=id F;have g:=A9 y;have l6:=c8.len;refine gS1 (aI g (aI M (aI o (aI C (aI K (aI (asx f) (aI (asx s) (aI (asx B) (aI (asx u) (aI (asx S) (aI (asx U) (aI (asx V) (aI @G6 @Tryz.results27))))))))))))) ?_;refine(Cx ((Z.n+1)::H) (fun x I=>by have:=G x I;have:=L;have:=a8;have:=b6;have:=b9;have:=d9;have:=f0;have:=i0;omega) c8 (hw _)).mono ?_;rintro r ⟨t7,u7,rfl,W,e9⟩;have j4:=W.n;have a:=a.I2 (I9 W);have i:=i.I2 (I9 W);have A:=A.I2 (I9 W);have J:=J.I2 (I9 W);have a7:=a7.I2 (I9 W);have b5:=b5.I2 (I9 W);have c8:=c8.I2 (I9 W);have m:Ext τ u7:=m.trans W;have F:=C4.ext m;obtain⟨⟨-,N⟩,⟨-,o⟩,⟨-,y⟩,-⟩:=id F;have g:=A9 y;have l7:=e9.len;refine gS1 (aI g (aI M (aI o (aI C (aI K (aI (asx f) (aI (asx s) (aI (asx B) (aI (asx u) (aI (asx S) (aI (asx U) (aI (asx V) (aI (asx W) (aI @G6 @Tryz.results27)))))))))))))) ?_
  try refine dW1 (aI (asx f) (aI (asx s) (aI (asx B) (aI (asx u) (aI (asx S) (aI (asx U) (aI (asx V) (asx W)))))))) ?_
  try(refine gS1 (aI o (aI C @Tryz.results27)) ?_;try exact⟨⟩)
  have O:FOk ((1+(1+(1+1)))+1) (K4 Dm (K4 Jj (DS 1 1) (K4 Dm (J4 J8) (K4 FL (J4 J8) (J4 Bp)))) (DS (qn WN dd) (qd WN dd))):=FP (by decide) (by decide) (by decide) (FP (by decide) (by decide) (by decide) (.num (rq1 om om) om (by decide)) (FP (by decide) (by decide) (by decide) (Cr (by decide)) (FP (by decide) (by decide) (by decide) (Cr (by decide)) (Cr (by decide))))) (MA wt);have X:IvS T (K4 Dm (K4 Jj (DS 1 1) (K4 Dm (J4 J8) (K4 FL (J4 J8) (J4 Bp)))) (DS (qn WN dd) (qd WN dd))):=⟨iv1 hR a3 a4 hdd,.k1 ⟨a3,a4,hdd⟩⟩
  obtain⟨d1,Y,d3⟩:=done _ a9 X4 om t7 _ _ u7 m e9 O om X;exact⟨t7,_,_,_,rfl,d1,Y,d3,O,om,X⟩
 have e1:decide ((kd:Int)=1)=false:=dF;by_cases h4:kd=2
 ·subst h4;have e2:decide (((2:Nat):Int)=2)=true:=by decide
  refine gS1 (aI g0 (aI g3 (aI C (aI K (aI g6 (aI e0 (aI e1 (aI e2 (aI a6 (aI c4 (aI a1 (aI M @Tryz.results27)))))))))))) ?_;have m:Ext τ τ:= .refl _
  try refine dW1 (asx m) ?_
  try(refine gS1 (aI o (aI C @Tryz.results27)) ?_;try exact⟨⟩)
  have O:FOk 1 (DS (qn WN dd) (qd WN dd)):=MA wt;have X:IvS T (DS (qn WN dd) (qd WN dd)):=⟨iv2 wt,.k2 ⟨a3,a4,hdd⟩⟩
  obtain⟨d1,Y,d3⟩:=done _ a9 X4 om w _ _ τ m (hw _) O om X;exact⟨w,_,_,_,rfl,d1,Y,d3,O,om,X⟩
 have e2:decide ((kd:Int)=2)=false:=dF;have z:0<T.G7.length:=by
  rcases Wf T.G7.length with h|h
  ·have:=h5 h;omega
  ·exact h
 obtain⟨sp,rfl,l3,l4⟩:=c1 z;have e8:cb∉H:=fun hb=>by rw[KF hb]at l4;cases l4
 have d7:cb≠q:=fun h=>e8 (h ▸ hM.mem);rw[Bx e8]at l4;rw[EY]at l3;have z5:=eT (X4.row l3 d7) l4;refine gS1 (aI g0 (aI g3 (aI g6 (aI e0 (aI e1 (aI e2 (aI a6 hc))))))) ?_;refine(MI (n:=(T.G7.length:Nat)) a9 om om).mono ?_;rintro r ⟨y0,p0,rfl,i6,f2,wG⟩;have j5:=wG.n;have C5:=Cl.BX wG (by intro p hp;simp at hp;rcases hp with rfl|rfl|rfl<;>(show _≠q;simp;omega)) C4;obtain⟨⟨-,N⟩,⟨-,o⟩,⟨-,y⟩,-⟩:=id C5;have i2:=A9 N;have z5:=eT (wG.row (by have:=X4.n;omega) d7) z5;obtain⟨cr0,AH2⟩:=I1 (show y0<T.G7.length by omega);obtain⟨-,nm0,-⟩:=c2 y0 cr0 AH2;obtain⟨ne0,nl0,wH,-⟩:=hR.Dn cr0 (Ag AH2);have b8:CN T cr0.name:=⟨e7 _ (Ag AH2),_,Ag AH2,rfl⟩
 refine gS1 (aI z5 (aI nm0 @j7)) ?_;refine DT.mono ?_;rintro r ⟨tc0,s0,rfl,gF,oA⟩;have k4:=gF.n;have i9:=(oA Z).len;refine gS1 (asx gF) ?_
 try refine Ct.intro (by(repeat first|simp(disch:=omega) only[O4,G6,G9,asx gF,V6 wG]|rw[W6 (by kernel_rfl)]);first|done|rfl) ?_
 obtain⟨P0,c5⟩:=nW (((s0.new [str [],.int .i64 0,.int .i64 0,str [],.slice none 0 0] (some 32)).upd s0.n tc0))
 try rw[c5]
 have c0:Ext s0 P0:=by rw[<- c5];exact eX
 have j1:P0.n=s0.n+1:=by rw[<- c5];rfl
 have z5:=eT (c0.row (by have:=X4.n;omega)) (eT (gF.row (by have:=X4.n;omega)) z5);have M0:MS H q v l P0:=(f2.ext gF).ext c0;have f9:J9 q Z P0:=(X4.trans wG).trans (J9.of (gF.trans c0));have e4:Cl P0 [(s0.n,tc0),(Z.n,ca),(Z.n+1,[str [],.int .i64 0,.int .i64 0,str [],.slice none 0 0]),(Z3.n,w)]:=⟨⟨om,by rw[<- c5];exact cL⟩,(C5.ext gF).ext c0⟩
 clear C5;obtain⟨⟨-,N⟩,⟨-,o⟩,⟨-,y⟩,⟨-,b3⟩,-⟩:=id e4;have e5:=A9 o;refine gS1 (aI g0 (aI g3 (aI e5 hc))) ?_;refine(MI (n:=(T.G7.length:Nat)) M0 om om).mono ?_;rintro r ⟨y1,p1,rfl,i7,f7,wI⟩;have j6:=wI.n;have C5:=Cl.BX wI (by intro p hp;simp at hp;rcases hp with rfl|rfl|rfl|rfl<;>(show _≠q;simp;omega)) e4;obtain⟨⟨-,N⟩,⟨-,o⟩,⟨-,y⟩,⟨-,b3⟩,-⟩:=id C5;have e5:=A9 o;have z5:=eT (wI.row (by have:=X4.n;omega) d7) z5;obtain⟨cr1,AH3⟩:=I1 (show y1<T.G7.length by omega);obtain⟨-,nm1,-⟩:=c2 y1 cr1 AH3;obtain⟨d8,nl1,Aw6,-⟩:=hR.Dn cr1 (Ag AH3);have e6:CN T cr1.name:=⟨e7 _ (Ag AH3),_,Ag AH3,rfl⟩
 refine gS1 (aI z5 (aI nm1 @j7)) ?_;refine DT.mono ?_;rintro r ⟨tc1,s1,rfl,gG,c9⟩;have k8:=gG.n;have j0:=(c9 Z).len;refine gS1 (asx gG) ?_
 try refine Ct.intro (by(repeat first|simp(disch:=omega) only[O4,G6,G9,asx gG,V6 wI]|rw[W6 (by kernel_rfl)]);first|done|rfl) ?_
 obtain⟨P1,c6⟩:=nW (((s1.new [str [],.int .i64 0,.int .i64 0,str [],.slice none 0 0] (some 32)).upd s1.n tc1))
 try rw[c6]
 have c3:Ext s1 P1:=by rw[<- c6];exact eX
 have j2:P1.n=s1.n+1:=by rw[<- c6];rfl
 have z5:=eT (c3.row (by have:=X4.n;omega)) (eT (gG.row (by have:=X4.n;omega)) z5);have M1:MS H q v l P1:=(f7.ext gG).ext c3;have b7:J9 q Z P1:=(f9.trans wI).trans (J9.of (gG.trans c3));have a5:Cl P1 [(s1.n,tc1),(s0.n,tc0),(Z.n,ca),(Z.n+1,[str [],.int .i64 0,.int .i64 0,str [],.slice none 0 0]),(Z3.n,w)]:=⟨⟨om,by rw[<- c6];exact cL⟩,(C5.ext gG).ext c3⟩
 clear C5;obtain⟨⟨-,N⟩,⟨-,o⟩,⟨-,y⟩,⟨-,b3⟩,⟨-,b4⟩,-⟩:=id a5;have g:=A9 y;obtain⟨⟨-,bd⟩,⟨-,bc⟩,⟨-,N⟩,⟨-,o⟩,⟨-,y⟩,-⟩:=id a5;have D:=A9 bc;have E:=A9 bd;have g:=A9 y;have fc:sub tc0 0 5=some tc0:=C9 om om;have fd:sub tc1 0 5=some tc1:=C9 om om;have G:∀ x∈(Z.n+1)::H,x<P1.n:=fun x I=>by have:=G x I;omega
 by_cases h6:kd=3
 ·subst h6;have f3:decide (((3:Nat):Int)=3)=true:=by decide
  refine gS1 (aI g6 (aI f3 (aI D (aI E (aI g (aI fc (aI fd (aI M (aI g0 (aI C K)))))))))) ?_;refine(Cx ((Z.n+1)::H) (fun x I=>by have:=G x I;omega) (hw _) (oA _)).mono ?_;rintro r ⟨t0,u0,rfl,f,a⟩;have L:=f.n;have m:Ext P1 u0:=f;have F:=a5.ext m;obtain⟨⟨-,bd⟩,⟨-,bc⟩,⟨-,N⟩,⟨-,o⟩,⟨-,y⟩,-⟩:=id F;have g:=A9 y;have D:=A9 bc;have E:=A9 bd;have l0:=a.len;refine gS1 (aI g (aI M (aI o (aI C (aI K (aI fc (aI fd (aI D (aI E (aI (asx f) (aI @G6 @Tryz.results27))))))))))) ?_
  try refine dW1 (asx f) ?_
  try(refine gS1 (aI o (aI C @Tryz.results27)) ?_;try exact⟨⟩)
  have O:FOk (1+1) (K4 Hx (DS (qn WN dd) (qd WN dd)) (J4 cr0.name)):=FP (by decide) (by decide) (by decide) (MA wt) (Cr wH);have X:IvS T (K4 Hx (DS (qn WN dd) (qd WN dd)) (J4 cr0.name)):=⟨iv3 hR wt ne0 nl0,.k3 ⟨a3,a4,hdd⟩ b8⟩
  obtain⟨d1,Y,d3⟩:=done _ M1 b7 om t0 _ _ u0 m a O om X;exact⟨t0,_,_,_,rfl,d1,Y,d3,O,om,X⟩
 have f3:decide ((kd:Int)=3)=false:=dF;by_cases h7:kd=4
 ·subst h7;have f4:decide (((4:Nat):Int)=4)=true:=by decide
  have f3:decide (((4:Nat):Int)=3)=false:=by decide
  refine gS1 (aI g6 (aI f3 (aI f4 (aI D (aI E (aI g (aI fc (aI fd (aI M (aI g0 (aI C K))))))))))) ?_;refine(Cx ((Z.n+1)::H) (fun x I=>by have:=G x I;omega) (hw _) (oA _)).mono ?_;rintro r ⟨t0,u0,rfl,f,a⟩;have L:=f.n;have m:Ext P1 u0:=f;have F:=a5.ext m;obtain⟨⟨-,bd⟩,⟨-,bc⟩,⟨-,N⟩,⟨-,o⟩,⟨-,y⟩,-⟩:=id F;have g:=A9 y;have D:=A9 bc;have E:=A9 bd;have l0:=a.len;refine gS1 (aI g (aI M (aI o (aI C (aI K (aI fc (aI fd (aI D (aI E (aI (asx f) (aI @G6 @Tryz.results27))))))))))) ?_
  try refine dW1 (asx f) ?_
  try(refine gS1 (aI o (aI C @Tryz.results27)) ?_;try exact⟨⟩)
  have O:FOk (1+1) (K4 Hx (DS (qn WN dd) (qd WN dd)) (J4 cr0.name)):=FP (by decide) (by decide) (by decide) (MA wt) (Cr wH);have X:IvS T (K4 Hx (DS (qn WN dd) (qd WN dd)) (J4 cr0.name)):=⟨iv3 hR wt ne0 nl0,.k3 ⟨a3,a4,hdd⟩ b8⟩
  obtain⟨d1,Y,d3⟩:=done _ M1 b7 om t0 _ _ u0 m a O om X;exact⟨t0,_,_,_,rfl,d1,Y,d3,O,om,X⟩
 have f4:decide ((kd:Int)=4)=false:=dF;by_cases h9:kd=6
 ·subst h9;have f6:decide (((6:Nat):Int)=6)=true:=by decide
  have f3:decide (((6:Nat):Int)=3)=false:=by decide
  have f4:decide (((6:Nat):Int)=4)=false:=by decide
  have f5:decide (((6:Nat):Int)=5)=false:=by decide
  refine gS1 (aI g6 (aI f3 (aI f4 (aI f5 (aI f6 (aI D (aI E (aI g (aI fc (aI fd (aI M (aI g0 (aI C K))))))))))))) ?_;refine(Cx ((Z.n+1)::H) (fun x I=>by have:=G x I;omega) (oA _) (c9 _)).mono ?_;rintro r ⟨t0,u0,rfl,f,a⟩;have L:=f.n;have m:Ext P1 u0:=f;have F:=a5.ext m;obtain⟨⟨-,bd⟩,⟨-,bc⟩,⟨-,N⟩,⟨-,o⟩,⟨-,y⟩,-⟩:=id F;have g:=A9 y;have D:=A9 bc;have E:=A9 bd;have l0:=a.len;refine gS1 (aI g (aI M (aI o (aI C (aI K (aI fc (aI fd (aI D (aI E (aI (asx f) (aI @G6 @Tryz.results27))))))))))) ?_
  try refine dW1 (asx f) ?_
  try(refine gS1 (aI o (aI C @Tryz.results27)) ?_;try exact⟨⟩)
  have O:FOk (1+1) (K4 Hx (J4 cr0.name) (J4 cr1.name)):=FP (by decide) (by decide) (by decide) (Cr wH) (Cr Aw6);have X:IvS T (K4 Hx (J4 cr0.name) (J4 cr1.name)):=⟨iv6 hR ne0 nl0 d8 nl1,.k6 b8 e6⟩
  obtain⟨d1,Y,d3⟩:=done _ M1 b7 om t0 _ _ u0 m a O om X;exact⟨t0,_,_,_,rfl,d1,Y,d3,O,om,X⟩
 have f6:decide ((kd:Int)=6)=false:=dF;by_cases h8:kd=5
 ·subst h8;have f3:decide (((5:Nat):Int)=3)=false:=by decide
  have f4:decide (((5:Nat):Int)=4)=false:=by decide
  have f5:decide (((5:Nat):Int)=5)=true:=by decide
  refine gS1 (aI g6 (aI f3 (aI f4 (aI f5 g0)))) ?_;refine(MI (n:=2) M1.new om om).mono ?_;rintro r ⟨y5,p5,rfl,h1,f8,wJ⟩;have i1:=wJ.n;simp only[G3]at i1;have C7:=Cl.BX wJ (by intro p hp;simp at hp;rcases hp with rfl|rfl|rfl|rfl|rfl<;>(show _≠q;simp;omega)) (a5.ext (.new _ _));obtain⟨⟨-,bd⟩,⟨-,bc⟩,⟨-,N⟩,⟨-,o⟩,⟨-,y⟩,-⟩:=id C7;have D:=A9 bc;have E:=A9 bd;have g:=A9 y;obtain⟨oo,iy,hoo⟩:=Aw5 h1;have X7:J9 q Z p5:=b7.trans ((J9.of (.new _ _)).trans wJ);have kk:p5.row P1.n=some [str [109,105,110],str [109,97,120]]:=eT (wJ.row (by simp) (by have:=M1.lt;omega)) cL;have G:∀ x∈(Z.n+1)::H,x<p5.n:=fun x I=>by have:=G x I;omega
  have ol:oo≠K8/\oo≠nmB/\oo.length<=4:=by rcases hoo with rfl|rfl<;>decide
  refine gS1 (aI kk (aI iy (aI g0 (aI K (aI D (aI E (aI g (aI fc (aI fd M))))))))) ?_;refine(Cx ((Z.n+1)::H) (fun x I=>by have:=G x I;omega) (oA _) (hw _)).mono ?_;rintro r ⟨t0,u0,rfl,f,a⟩;have L:=f.n;have m:Ext p5 u0:=f;have F:=C7.ext m;obtain⟨⟨-,bd⟩,⟨-,bc⟩,⟨-,N⟩,⟨-,o⟩,⟨-,y⟩,-⟩:=id F;have g:=A9 y;have D:=A9 bc;have E:=A9 bd;have l0:=a.len;simp(maxSteps:=8000000) (disch:=first|exact dS|fail) only[↓bD,bW,reduceMul,reduceEqDiff,reduceAdd,Nat.reduceBEq,reduceIte,Option.isNone_none,g,M,o,C,K,fc,fd,asx (Ext.refl _),V6 wJ,G9,D,E,asx f,G6,Tryz.results27]
  try refine dW1 (asx f) ?_
  try(refine gS1 (aI o (aI C @Tryz.results27)) ?_;try exact⟨⟩)
  have O:FOk (1+1) (K4 oo (J4 cr0.name) (DS (qn WN dd) (qd WN dd))):=FP ol.1 ol.2.1 ol.2.2 (Cr wH) (MA wt);have X:IvS T (K4 oo (J4 cr0.name) (DS (qn WN dd) (qd WN dd))):=⟨iv5 hR wt ne0 nl0 hoo,.k5 ⟨a3,a4,hdd⟩ b8 hoo⟩
  obtain⟨d1,Y,d3⟩:=done _ f8 X7 om t0 _ _ u0 m a O om X;exact⟨t0,_,_,_,rfl,d1,Y,d3,O,om,X⟩
 have f5:decide ((kd:Int)=5)=false:=dF;refine gS1 (aI g6 (aI f3 (aI f4 (aI f5 (aI f6 (aI D (aI E (aI g (aI fc (aI fd (aI M (aI g0 (aI C K))))))))))))) ?_;refine(Cx ((Z.n+1)::H) (fun x I=>by have:=G x I;omega) (hw _) (c9 _)).mono ?_;rintro r ⟨t0,u0,rfl,f,a⟩;have L:=f.n;have m:Ext P1 u0:=f;have F:=a5.ext m;obtain⟨⟨-,bd⟩,⟨-,bc⟩,⟨-,N⟩,⟨-,o⟩,⟨-,y⟩,-⟩:=id F;have g:=A9 y;have D:=A9 bc;have E:=A9 bd;have l0:=a.len;refine gS1 (aI g (aI M (aI o (aI C (aI K (aI fc (aI fd (aI D (aI E (aI (asx f) (aI @G6 @Tryz.results27))))))))))) ?_;refine(Cx ((Z.n+1)::H) (fun x I=>by have:=G x I;have:=L;omega) (oA _) a).mono ?_;rintro r ⟨t1,u1,rfl,s,i⟩;have a8:=s.n;have a:=a.I2 (I9 s);have m:Ext P1 u1:=m.trans s;have F:=a5.ext m;obtain⟨⟨-,bd⟩,⟨-,bc⟩,⟨-,N⟩,⟨-,o⟩,⟨-,y⟩,-⟩:=id F;have g:=A9 y;have D:=A9 bc;have E:=A9 bd;have l1:=i.len;refine gS1 (aI g (aI M (aI o (aI C (aI K (aI fc (aI fd (aI D (aI E (aI (asx f) (aI (asx s) (aI @G6 @Tryz.results27)))))))))))) ?_
 try refine dW1 (aI (asx f) (asx s)) ?_
 try(refine gS1 (aI o (aI C @Tryz.results27)) ?_;try exact⟨⟩)
 have O:FOk (1+(1+1)) (K4 Dm (J4 cr0.name) (K4 FL (DS (qn WN dd) (qd WN dd)) (J4 cr1.name))):=FP (by decide) (by decide) (by decide) (Cr wH) (FP (by decide) (by decide) (by decide) (MA wt) (Cr Aw6));have X:IvS T (K4 Dm (J4 cr0.name) (K4 FL (DS (qn WN dd) (qd WN dd)) (J4 cr1.name))):=⟨iv7 hR wt ne0 nl0 d8 nl1,.k7 ⟨a3,a4,hdd⟩ b8 e6⟩
 obtain⟨d1,Y,d3⟩:=done _ M1 b7 om t1 _ _ u1 m i O om X;exact⟨t1,_,_,_,rfl,d1,Y,d3,O,om,X⟩
end Go.Proofs.T
