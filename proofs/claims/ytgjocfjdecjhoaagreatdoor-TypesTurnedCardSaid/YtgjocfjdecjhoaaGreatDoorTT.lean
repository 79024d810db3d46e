/- oh on the types of the Jg. -/
import Derived.Test.YtgjocfjdecjhoaaGreatDoorTZB
import Derived.Test.YtgjocfjdecjhoaaGreatDoorCF
set_option linter.unusedSimpArgs false
set_option linter.unusedVariables false
set_option linter.defProp false
set_option maxHeartbeats 32000000
set_option maxRecDepth 100000
namespace Go.Proofs.T
open Go Go.Ab
section
variable {fr:Fr}{Z:St}{x ix a v:Operand}{ve:Value}
def Am0 {b off i:Nat}:Gp Tryz.prog 23 (.pointer (some ⟨b,off,none⟩)) i=bb (Nat.blt i 2) (some (.pointer (some ⟨b,off+i*1,none⟩))):=kR
end
end Go.Proofs.T
namespace Go.Proofs.T
open Go Go.Ab Go.V6
open Nat (reduceMul reduceEqDiff reduceAdd)
def zD {Z:St}(h:Z.read 0 0 20=some AE):go Tryz.prog HS (.fn 8) [] Z=some ⟨false,.bool true,Z⟩:=by
 have e2:go Tryz.prog HS (.fn 8) [] Z=bb (CJ (Z.read 0 0 20) (some AE)) (some ⟨false,.bool true,Z⟩):=rfl;rw[e2,h,Nr];rfl
def Lv {P:Program}{H:Dq}{f:Tgt}{vs:List Value}{Z:St}{Q:CR->Prop}{uq:Hd Q}(h:∀ S,S=Z->Ev (go P H f vs S) Q uq):Ev (go P H f vs Z) Q uq:=h Z rfl
def Al9 {w:Nat}(h:w<4):∃ o,sub ([str [43],str [42],str [109,105,110],str [109,97,120]]:List Value) w 1=some [str o]/\Sy o:=by
 have:w=0\/w=1\/w=2\/w=3:=om;rcases this with rfl|rfl|rfl|rfl
 ·exact⟨_,rfl,.inl rfl⟩
 ·exact⟨_,rfl,.inr (.inl rfl)⟩
 ·exact⟨_,rfl,.inr (.inr (.inl rfl))⟩
 ·exact⟨_,rfl,.inr (.inr (.inr rfl))⟩
def AS4 {w:Nat}(h:w<2):∃ o,sub ([str [109,105,110],str [109,97,120]]:List Value) w 1=some [str o]/\(o=R3\/o=R6):=by
 have:w=0\/w=1:=om;rcases this with rfl|rfl
 ·exact⟨_,rfl,.inl rfl⟩
 ·exact⟨_,rfl,.inr rfl⟩
def sL {a:Bool}{i j:Tmp}:Ay Tryz.prog .neq 4 (.tmp i) (.tmp j) (.bool a) (.bool a)=some (.bool false):=by cases a<;>kernel_rfl
def sM {p q:Int×Int}(h1:p.1=q.1) (h2:p.2=0↔q.2=0):(GG p).1=(GG q).1/\decide ((GG q).2=0)=decide ((GG p).2=0):=by
 obtain⟨p1,p2⟩:=p;obtain⟨q1,q2⟩:=q;simp only at h1 h2;subst h1;unfold GG;by_cases h:p2=0
 ·have h':=h2.1 h;subst h;subst h';exact⟨rfl,rfl⟩
 ·have h':q2≠0:=fun e=>h (h2.2 e);rw[z1z h,z1z h'];exact⟨rfl,by simp[h,h']⟩
def SC {a:Int}:decide (a=a)=true:=sI
def twenty {l:List Value}(h:l.length=20):∃ a b c d e f g h i j k m n o p q r s t u,l=[a,b,c,d,e,f,g,h,i,j,k,m,n,o,p,q,r,s,t,u]:=by
 match l,h with
 | [a,b,c,d,e,f,g,h,i,j,k,m,n,o,p,q,r,s,t,u],_=>exact⟨a,b,c,d,e,f,g,h,i,j,k,m,n,o,p,q,r,s,t,u,rfl⟩
def GOk.bd {T:Tn}(h:GOk T):BdT T :=
 ⟨h.ok.low,h.ok.high,fun c hc=>⟨(h.ok.Du c hc).2.2.1,(h.ok.Du c hc).2.2.2⟩⟩
def XL {Z:St}{v v0 v1:Value}{l l0 l1:List Int}{n:Int}(hl:Aw (M8 Z []) v l) (hll:l.length<=9223372036854775807) (hl0:Aw (M8 Z []) v0 l0) (Az4:l0.length<=9223372036854775807) (hl1:Aw (M8 Z []) v1 l1) (Az5:l1.length<=9223372036854775807)
  (hn0:0<=n) (hn1:n<256) (hp:Z.read 0 0 20=some AE) (hp1:0<Z.n) :
  Ev (gO 3 [v,.agg ⟨[v0,v1]⟩,.int .u8 n] Z) (fun r=>∃ Z',r=⟨false,.bool true,Z'⟩) ⟨⟩:=by
 obtain⟨d0,n0,e0,rfl⟩:∃ a n c,v= .slice a n c:=by
  obtain⟨a,c,b,off,cells,h,-⟩:=hl.1.use;exact⟨a,_,c,h⟩
 obtain⟨d1,n1,e1,rfl⟩:∃ a n c,v0= .slice a n c:=by
  obtain⟨a,c,b,off,cells,h,-⟩:=hl0.1.use;exact⟨a,_,c,h⟩
 obtain⟨d2,n2,e2,rfl⟩:∃ a n c,v1= .slice a n c:=by
  obtain⟨a,c,b,off,cells,h,-⟩:=hl1.1.use;exact⟨a,_,c,h⟩
 have EA:Ext Z (Z.new [.slice d1 n1 e1,.slice d2 n2 e2]):=eX;refine C9 Tryz.func3 rfl rfl ?_;simp(maxSteps:=8000000) (disch:=first|exact dS|fail) only[↓bD,bW,reduceMul,reduceEqDiff,reduceAdd,Nat.reduceBEq,reduceIte,Option.isNone_none,zD (Cd EA hp1 hp)];refine(yQ [] (by simp) (hl.H4 (H2 EA)) hll).mono ?_;rintro r ⟨ca,T,Z1,rfl,E1,hT,hG,jf,hff,hjf⟩;have k1:=E1.n;simp only[F6]at k1;obtain⟨c0,c1,c2,c3,c4,c5,c6,c7,c8,c9,c10,c11,c12,c13,c14,c15,c16,c17,c18,c19,rfl⟩:=twenty hT.tn.len;have EB:=EA.trans E1;have qb:Z1.row Z.n=some [.slice d1 n1 e1,.slice d2 n2 e2]:=eT (E1.row (by simp)) cL;refine gS1 (aI @Am0 qb) ?_;refine Lv ?_;intro S1 hS1;have F1:Ext Z1 S1:=by rw[hS1];exact eX
 have m1:S1.n=Z1.n+2:=by rw[hS1];rfl
 have tt1:S1.row Z1.n=some [c0,c1,c2,c3,c4,c5,c6,c7,c8,c9,c10,c11,c12,c13,c14,c15,c16,c17,c18,c19]:=by rw[hS1];exact cL
 have on:S1.row (Z1.n+1)=some (Zi.map fun s=>str s):=by rw[hS1];exact cL
 have qb1:=eT (F1.row om) qb;have E2:=EB.trans F1;have mkl:∀ {S:St},S1.n<=S.n->S.row (Z1.n+1)=some (Zi.map fun s=>str s)->SL (M8 S []) 1 (.slice (some ⟨Z1.n+1,0,none⟩) 5 5) (Zi.map fun s=>[str s]):=by
  intro S hn hr;refine .inr ⟨Z1.n+1,0,none,5,_,rfl,by rw[EG];omega,by rw[Bn (by simp)];exact hr,?_⟩;intro k r hk
  match k,hk with
  |0,hk=>cases hk;rfl
  |1,hk=>cases hk;rfl
  |2,hk=>cases hk;rfl
  |3,hk=>cases hk;rfl
  |4,hk=>cases hk;rfl
 refine(Zj Zk [] (by simp) (hl0.H4 (H2 E2)) Az4 (mkl nL on)).mono ?_;rintro r ⟨ra,ea,ka,ma,Z2,rfl,G2,xa,fa,hka,hma⟩;obtain⟨x1,x2,x3,x4,x5,rfl⟩:=fc5 xa.to;have k2:=G2.n;have E3:=E2.trans G2;have qb2:=eT (G2.row om) qb1;refine gS1 (aI @Am0 qb2) ?_;refine Lv ?_;intro S3 hS3;have F3:Ext Z2 S3:=by rw[hS3];exact eX
 have m3:S3.n=Z2.n+1:=by rw[hS3];rfl
 have ra3:S3.row Z2.n=some [x1,x2,x3,x4,x5]:=by rw[hS3];exact cL
 have E4:=E3.trans F3;have on3:S3.row (Z1.n+1)=some (Zi.map fun s=>str s):=eT (F3.row om) (eT (G2.row om) on);refine(Zj Zk [] (by simp) (hl1.H4 (H2 E4)) Az5 (mkl om on3)).mono ?_;rintro r ⟨rb,eb,kb,mb,Z4,rfl,G4,xb,fb,hkb,hmb⟩;obtain⟨y1,y2,y3,y4,y5,rfl⟩:=fc5 xb.to;have k4:=G4.n;have E5:=E4.trans G4;have ra4:=eT (G4.row om) ra3;obtain⟨w,hw,hw4⟩:∃ w:Nat,n.tmod 4=(w:Nat)/\w<4:=⟨(n.tmod 4).toNat,by rw[Int.toNat_of_nonneg (Int.tmod_nonneg _ hn0)],by have:=Int.tmod_lt_of_pos n (show(0:Int)<4 by omega);omega⟩
 obtain⟨op,ho,hsy⟩:=Al9 hw4;have hwb:Nat.blt w 4=true:=by rw[Bt];exact hw4
 have Az6:nat? (.int .u8 (w:Int))=some w:=qI;have tt4:=eT (G4.row om) (eT (F3.row om) (eT (G2.row om) tt1));refine gS1 (aI hw (aI ho (aI hwb (aI Az6 (aI ra4 tt4))))) ?_;refine Lv ?_;intro S5 hS5;obtain⟨ca,hca⟩:∃ l:List Value,[c0,c1,c2,c3,c4,c5,c6,c7,c8,c9,c10,c11,c12,c13,c14,c15,c16,c17,c18,c19]=l:=⟨_,rfl⟩
 obtain⟨rx,hrx⟩:∃ l:List Value,[str op,.int .i64 0,.int .i64 0,str [],.slice (some ⟨Z4.n+1+1,0,none⟩) 2 2]=l:=⟨_,rfl⟩
 obtain⟨ry,hry⟩:∃ l:List Value,[str op,.int .i64 0,.int .i64 0,str [],.slice (some ⟨Z4.n+1+1+1+1,0,none⟩) 2 2]=l:=⟨_,rfl⟩
 have F5:Ext Z4 S5:=by rw[hS5];exact eX
 have m5:S5.n=Z4.n+6:=by rw[hS5];rfl
 have E6:=E5.trans F5;have tt5:S5.row Z1.n=some ca:=by rw[F5.row om,<- hca];exact tt4
 have ra5:=eT (F5.row om) ra4;have rxs:S5.row (Z4.n+1+1+1)=some rx:=by rw[hS5,<- hrx];exact cL
 have rys:S5.row (Z4.n+1+1+1+1+1)=some ry:=by rw[hS5,<- hry];exact cL
 have bxs:S5.row (Z4.n+1+1)=some ([x1,x2,x3,x4,x5]++[y1,y2,y3,y4,y5]):=by rw[hS5];exact cL
 have bys:S5.row (Z4.n+1+1+1+1)=some ([y1,y2,y3,y4,y5]++[x1,x2,x3,x4,x5]):=by rw[hS5];exact cL
 have kx:Dr (M8 Z2 []) S5:=(H2 (F3.trans (G4.trans F5))).trans Mc;have ky:Dr (M8 Z4 []) S5:=(H2 F5).trans Mc;have axa:P6 S5 [x1,x2,x3,x4,x5] ea:=xa.to.H4 kx;have axb:P6 S5 [y1,y2,y3,y4,y5] eb:=xb.to.H4 ky;have ex:P6 S5 rx (.mk op 0 0 [] [ea,eb]):=by rw[<- hrx];exact VW om bxs rfl axa axb
 have ey:P6 S5 ry (.mk op 0 0 [] [eb,ea]):=by rw[<- hry];exact VW om bys rfl axb axa
 have hTn:HW S5 ca T:=by rw[<- hca];exact(hT.H4 ((H2 (F1.trans (G2.trans (F3.trans (G4.trans F5))))).trans Mc)).tn
 have wa:=sK fa.fw;have wb:=sK fb.fw;have lop:op.length<=4:=by rcases hsy with rfl|rfl|rfl|rfl<;>decide
 have wx:WfE 2 (.mk op 0 0 [] [ea,eb]):=Dt.2 ⟨lop,by decide,⟨om,om⟩,⟨om,om⟩,by simp,AL.2 ⟨wa,AL.2 ⟨wb,EO⟩⟩⟩;have wy:WfE 2 (.mk op 0 0 [] [eb,ea]):=Dt.2 ⟨lop,by decide,⟨om,om⟩,⟨om,om⟩,by simp,AL.2 ⟨wb,AL.2 ⟨wa,EO⟩⟩⟩;have hcr:T.G9.length<=1000:=by have:=hG.ok.G9;omega
 have pw:∀ {S:St},Ext S5 S->S.read 0 0 20=some AE:=fun h=>Cd (E6.trans h) hp1 hp;rw[hca,hrx];clear hS5;refine(Yh hTn hcr wx om ex (pw (.refl _)) om).mono ?_;rintro r ⟨Z6,rfl,H6⟩;have k6:=H6.n;have tt6:=eT (H6.row om) tt5;have lca:=hTn.len;have hfa:sub ca 0 20=some ca:=C8 om om;have Az7:sub rx 0 5=some rx:=C8 (by have:=ex.len;omega) (by have:=ex.len;omega);have Am1:sub ry 0 5=some ry:=C8 (by have:=ey.len;omega) (by have:=ey.len;omega);have ry6:=eT (H6.row om) rys;have rx6:=eT (H6.row om) rxs;unfold AO3;refine gS1 (aI tt6 (aI ry6 (aI hfa Am1))) ?_;refine(Yh (hTn.mono H6) hcr wy om (ey.mono H6) (pw H6) om).mono ?_;rintro r ⟨Z7,rfl,H7⟩;have k7:=H7.n;have I7:=H6.trans H7;have tt7:=eT (H7.row om) tt6;have rx7:=eT (H7.row om) rx6;have ry7:=eT (H7.row om) ry6;unfold AO3;refine gS1 (aI tt7 (aI rx7 (aI hfa Az7))) ?_;refine(KX hG.bd (hTn.mono I7) hcr wx om (ex.mono I7) (pw I7) om).mono ?_;rintro r ⟨Z8,rfl,H8⟩;have k8:=H8.n;have I8:=I7.trans H8;have tt8:=eT (H8.row om) tt7;have ry8:=eT (H8.row om) ry7;unfold Zl qv P7;refine gS1 (aI tt8 (aI ry8 (aI hfa Am1))) ?_;refine Lv ?_;intro S9 hS9;obtain⟨q1,q2⟩:=YL (T:=T) hsy fa.fw fb.fw om om;obtain⟨q3,q4⟩:=Vl hG.bd hsy fa.fw fb.fw om om;generalize Mk T (.mk op 0 0 [] [ea,eb])=U1 at q1 q2 ⊢;generalize Mk T (.mk op 0 0 [] [eb,ea])=U2 at q1 q2 ⊢;obtain⟨q5,q6⟩:=sM q1 q2;obtain⟨⟨⟨⟨an,ad⟩,⟨bn,bd⟩⟩,ge⟩,hR1⟩:∃ p,DP T (.mk op 0 0 [] [ea,eb])=p:=⟨_,rfl⟩
 obtain⟨⟨r2,he⟩,hR2⟩:∃ p,DP T (.mk op 0 0 [] [eb,ea])=p:=⟨_,rfl⟩
 rw[hR1]at hS9 ⊢;rw[hR1,hR2]at q3 q4;obtain rfl:_=r2:=q3;have q7:decide (he=0)=decide (ge=0):=by rw[z7z,z3z,z3z];exact q4.symm
 have F9:Ext Z8 S9:=by rw[hS9];exact eX
 have m9:S9.n=Z8.n+2:=by rw[hS9];rfl
 have I9:=I8.trans F9;have l1:S9.row Z8.n=some [.int .i64 an,.int .i64 ad]:=by rw[hS9];exact cL
 have l2:S9.row (Z8.n+1)=some [.int .i64 bn,.int .i64 bd]:=by rw[hS9];exact cL
 clear hS9;refine(KX hG.bd (hTn.mono I9) hcr wy om (ey.mono I9) (pw I9) om).mono ?_;rw[hR2];rintro r ⟨Z10,rfl,H10⟩;have k10:=H10.n;have I10:=I9.trans H10;have tta:=eT (H10.row om) (eT (F9.row om) tt8);have raa:=eT (I10.row om) ra5;have l1a:=eT (H10.row om) l1;have l2a:=eT (H10.row om) l2;unfold Zl qv P7;obtain⟨⟨us,ue⟩,hus⟩:∃ p,GG U1=p:=⟨_,rfl⟩
 obtain⟨⟨vs,ve⟩,hvs⟩:∃ p,GG U2=p:=⟨_,rfl⟩
 rw[hus,hvs]at q5 q6 ⊢;obtain rfl:us=vs:=q5;have q8:decide (ve=0)=decide (ue=0):=q6;obtain⟨w2,hw2,Am2⟩:∃ w:Nat,n.tmod 2=(w:Nat)/\w<2:=⟨(n.tmod 2).toNat,by rw[Int.toNat_of_nonneg (Int.tmod_nonneg _ hn0)],by have:=Int.tmod_lt_of_pos n (show(0:Int)<2 by omega);omega⟩
 obtain⟨opm,hom,hmm⟩:=AS4 Am2;have Az8:Nat.blt w2 2=true:=by rw[Bt];exact Am2
 refine gS1 (aI tta (aI raa (aI l1a (aI l2a (aI q7 (aI q8 (aI @sL (aI hw2 (aI hom (aI Az8 (a5N @qI @G5 @SC @Bool.and_self @br))))))))))) ?_;refine Ca.intro (by(repeat first|simp(disch:=omega) only[M9,G3,G8,asx (Ext.refl _)]|rw[V8 (by kernel_rfl)]);rfl) ?_;refine gS1 (aI tta (aI raa (aI l1a l2a))) ?_;refine Lv ?_;intro Sb hSb;obtain⟨rz,hrz⟩:∃ l:List Value,[str opm,.int .i64 0,.int .i64 0,str [],.slice (some ⟨Z10.n+1+1+1,0,none⟩) 2 2]=l:=⟨_,rfl⟩
 have Fb:Ext Z10 Sb:=by rw[hSb];exact eX
 have mSb:Sb.n=Z10.n+5:=by rw[hSb];rfl
 have Ib:=I10.trans Fb;have zr:Sb.row (Z10.n+1+1+1+1)=some rz:=by rw[hSb,<- hrz];exact cL
 have bz:Sb.row (Z10.n+1+1+1)=some ([x1,x2,x3,x4,x5]++[x1,x2,x3,x4,x5]):=by rw[hSb];exact cL
 have ttb:=eT (Fb.row om) tta;have rab:=eT (Fb.row om) raa;have axz:P6 Sb [x1,x2,x3,x4,x5] ea:=axa.mono Ib;have ez:P6 Sb rz (.mk opm 0 0 [] [ea,ea]):=by rw[<- hrz];exact VW om bz rfl axz axz
 have lom:opm.length<=4:=by rcases hmm with rfl|rfl<;>decide
 have wz:WfE 2 (.mk opm 0 0 [] [ea,ea]):=Dt.2 ⟨lom,by decide,⟨om,om⟩,⟨om,om⟩,by simp,AL.2 ⟨wa,AL.2 ⟨wa,EO⟩⟩⟩;have Az9:sub rz 0 5=some rz:=C8 (by have:=ez.len;omega) (by have:=ez.len;omega);have pz:R0 (.mk opm 0 0 [] [ea,ea])<=63:=by
  have:=(QX fa.fw).2.2;rw[X0,N4,N4,R2];omega
 obtain⟨tw1,tw2⟩:=YM (T:=T) hmm fa.fw om;rw[hrz];clear hSb;refine(KX hG.bd (hTn.mono Ib) hcr wz om ez (pw Ib) om).mono ?_;obtain⟨⟨⟨⟨cn,cd⟩,⟨dn,dd⟩⟩,gz⟩,hRz⟩:∃ p,DP T (.mk opm 0 0 [] [ea,ea])=p:=⟨_,rfl⟩
 obtain⟨⟨⟨⟨fn,fd⟩,⟨gn,gd⟩⟩,ga⟩,hRa⟩:∃ p,DP T ea=p:=⟨_,rfl⟩
 rw[hRz];rintro r ⟨Zc,rfl,Hc⟩;have kc:=Hc.n;have Ic:=Ib.trans Hc;have ttc:=eT (Hc.row om) ttb;have rac:=eT (Hc.row om) rab;have zrc:=eT (Hc.row om) zr;unfold Zl qv P7;refine gS1 (aI ttc (aI rac hfa)) ?_;refine Lv ?_;intro Sd hSd;have Fd:Ext Zc Sd:=by rw[hSd];exact eX
 have mSd:Sd.n=Zc.n+2:=by rw[hSd];rfl
 have w1:Sd.row Zc.n=some [.int .i64 cn,.int .i64 cd]:=by rw[hSd];exact cL
 have w2':Sd.row (Zc.n+1)=some [.int .i64 dn,.int .i64 dd]:=by rw[hSd];exact cL
 have zrd:=eT (Fd.row om) zrc;have Id:=Ic.trans Fd;clear hSd;refine(KX hG.bd (hTn.mono Id) hcr wa om (axa.mono Id) (pw Id) om).mono ?_;rw[hRa];rintro r ⟨Ze,rfl,He⟩;have ke:=He.n;have Ie:=Id.trans He;have w1e:=eT (He.row om) w1;have w2e:=eT (He.row om) w2';have zre:=eT (He.row om) zrd;unfold Zl qv P7;refine gS1 (aI zre Az9) ?_;refine Lv ?_;intro Sf hSf;have Ff:Ext Ze Sf:=by rw[hSf];exact eX
 have mSf:Sf.n=Ze.n+2:=by rw[hSf];rfl
 have v1:Sf.row Ze.n=some [.int .i64 fn,.int .i64 fd]:=by rw[hSf];exact cL
 have v2:Sf.row (Ze.n+1)=some [.int .i64 gn,.int .i64 gd]:=by rw[hSf];exact cL
 have w1f:=eT (Ff.row om) w1e;have w2f:=eT (Ff.row om) w2e;clear hSf;refine(SD wz om pz om (ez.mono (Hc.trans (Fd.trans (He.trans Ff))))).mono ?_;rintro r ⟨Zg,rfl,Hg⟩;have v1g:=eT (Hg.row om) v1;have v2g:=eT (Hg.row om) v2;have w1g:=eT (Hg.row om) w1f;have w2g:=eT (Hg.row om) w2f;cases hr:AD (.mk opm 0 0 [] [ea,ea])with
 | false=>
   have e:=tw1 hr;rw[hRz]at e;cases e;refine gS1 (aI @SC @Tryz.results3) ?_;exact⟨_,rfl⟩
 | true=>
   have e:=tw2 hr;rw[hRz,hRa]at e;cases e;refine gS1 (aI v1g (aI v2g (aI w1g (aI w2g (a4N @G5 @SC @Bool.and_self @Tryz.results3))))) ?_;exact⟨_,rfl⟩
end Go.Proofs.T
