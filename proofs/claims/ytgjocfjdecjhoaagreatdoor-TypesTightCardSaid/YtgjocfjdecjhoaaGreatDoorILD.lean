/- The law that the ends of the interval are values: the walk. -/
import Derived.Test.YtgjocfjdecjhoaaGreatDoorILC
import Derived.Test.YtgjocfjdecjhoaaGreatDoorIWA
set_option linter.unusedSimpArgs false
set_option linter.unusedVariables false
set_option linter.defProp false
set_option maxHeartbeats 32000000
set_option maxRecDepth 100000
namespace Go.Proofs.T
open Go Go.Ab Go.N9
open Nat (reduceMul reduceEqDiff reduceAdd)
def gK {Z:St}{v vm:Value}{l lm:List Int}(hl:BG (N5 Z []) v l) (i7:l.length<=9223372036854775807) (e6:BG (N5 Z []) vm lm) (g3:lm.length<=9223372036854775807) (b2:Z.read 0 0 20=some AO) (f0:0<Z.n) :
  Ev (gO 5 [v,vm] Z) (fun r=>∃ Z',r=⟨false,.bool true,Z'⟩) ⟨⟩:=by
 obtain⟨d0,n0,e0,rfl⟩:∃ a n c,v= .slice a n c:=by
  obtain⟨a,c,b,off,cells,h,-⟩:=hl.1.use;exact⟨a,_,c,h⟩
 obtain⟨d1,n1,e1,rfl⟩:∃ a n c,vm= .slice a n c:=by
  obtain⟨a,c,b,off,cells,h,-⟩:=e6.1.use;exact⟨a,_,c,h⟩
 refine C8 Tryz.func5 rfl rfl ?_;simp(maxSteps:=8000000) (disch:=first|exact dS|fail) only[↓bD,bW,reduceMul,reduceEqDiff,reduceAdd,Nat.reduceBEq,reduceIte,Option.isNone_none,kL b2];refine(iP [] (by simp) hl i7).mono ?_;rintro r ⟨ca,T,W,rfl,E1,hT,hG,⟨jf,i1,i6⟩,l7,h5⟩;have k1:=E1.n;have hB:=hG.bd;have a3:Jb W ca T:=(hT.I2 KG).tn;have h9:T.G7.length<=1000:=by have:=hG.ok.G7;omega
 obtain⟨c0,c1,c2,c3,c4,c5,c6,c7,c8,c9,b8,b9,d3,d4,d5,d6,d7,d8,d9,e2,rfl⟩:=twenty a3.len;refine gS ?_;refine PL ?_;intro S1 a1;have F1:Ext W S1:=by rw[a1];exact eX
 have m1:S1.n=W.n+2:=by rw[a1];rfl
 have f9:S1.row W.n=some [c0,c1,c2,c3,c4,c5,c6,c7,c8,c9,b8,b9,d3,d4,d5,d6,d7,d8,d9,e2]:=by rw[a1];exact cL
 have on:S1.row (W.n+1)=some (AQ5.map fun s=>str s):=by rw[a1];exact cL
 obtain⟨ca,e5⟩:∃ l:List Value,[c0,c1,c2,c3,c4,c5,c6,c7,c8,c9,b8,b9,d3,d4,d5,d6,d7,d8,d9,e2]=l:=⟨_,rfl⟩
 rw[e5]at a3 f9;clear a1 e5;have EB:=E1.trans F1;have m4:=a3.len;have b1:sub ca 0 20=some ca:=C9 om om
 refine(xJ vH [] (by simp) (e6.I2 (I9 EB)) g3 (.inr ⟨W.n+1,0,none,5,_,rfl,by rw[EY];omega,by rw[Bx (by simp)];exact on,fun k r hk=>by
   match k,hk with
   |0,hk=>cases hk;rfl
   |1,hk=>cases hk;rfl
   |2,hk=>cases hk;rfl
   |3,hk=>cases hk;rfl
   |4,hk=>cases hk;rfl⟩)).mono ?_
 rintro r ⟨ra,ea,ka,ma,Z2,rfl,G2,xa,fa,l9,m0⟩;obtain⟨x1,x2,x3,x4,x5,rfl⟩:=fc5 xa.to;have k2:=G2.n;have fw:=fa.fw;have a5:P8 Z2 [x1,x2,x3,x4,x5] ea:=xa.to.I2 KG;have g0:=eT (G2.row om) f9;have wa:=Ac0 fw;refine gS1 (aI g0 b1) ?_;refine PL ?_;intro S3 a4;have F3:Ext Z2 S3:=by rw[a4];exact eX
 have m3:S3.n=Z2.n+1:=by rw[a4];rfl
 have k9:S3.row Z2.n=some [x1,x2,x3,x4,x5]:=by rw[a4];exact cL
 have l2:=eT (F3.row om) g0;clear a4;have a7:=F1.trans (G2.trans F3);have E3:=E1.trans a7;obtain⟨⟨J,er⟩,hR⟩:∃ p,Me T ea=p:=⟨_,rfl⟩
 refine(Vv hB (a3.mono a7) h9 wa om (a5.mono F3) (CB E3 f0 b2) om).mono ?_;rw[hR];rintro r ⟨X,rfl,H4⟩;have k4:=H4.n;have g1:=eT (H4.row om) l2;have f7:=eT (H4.row om) k9;unfold oE qv P6;refine gS1 (aI g1 f7) ?_;refine PL ?_;intro S5 a2;have F5:Ext X S5:=by rw[a2];exact eX
 have m5:S5.n=X.n+2:=by rw[a2];rfl
 have i9:S5.row X.n=some [.int .i64 J.1.n,.int .i64 J.1.d]:=by rw[a2];exact cL
 have i2:S5.row (X.n+1)=some [.int .i64 J.2.n,.int .i64 J.2.d]:=by rw[a2];exact cL
 have l3:=eT (F5.row om) g1;have l0:=eT (F5.row om) f7;clear a2;have b6:=F3.trans (H4.trans F5);have E5:=E3.trans (H4.trans F5);refine(ar wa om (a5.mono b6) (CB E5 f0 b2) om (by have:=JS fw;omega)).mono ?_;rintro r ⟨vn,Z6,rfl,H6,hN⟩;have k6:=H6.n;have l4:=eT (H6.row om) l3;have f8:=eT (H6.row om) l0;have j0:=eT (H6.row om) i9;have i3:=eT (H6.row om) i2;have U:=hN.strs;have b7:=b6.trans H6;have E6:=E5.trans H6;generalize M:(if AF ea=true then dedup (S8 ea)else[])=NN at hN U;obtain⟨an,nc,nb,no,ncs,rfl,a6,b3⟩:=Hy.use U;cases b0:decide (er=0)with
 | false=>
   refine gS1 (aI b0 (a3N @D6 @D8 @Tryz.results5)) ?_;exact⟨_,rfl⟩
 |true=>
 refine gS1 (aI b0 f8) ?_;refine(AJ5 fw (a5.mono b7) om).mono ?_;rintro r ⟨Z7,rfl,H7⟩;have k7:=H7.n;have g2:=eT (H7.row om) l4;have l1:=eT (H7.row om) f8;have j3:=eT (H7.row om) j0;have i4:=eT (H7.row om) i3;have h1:=b7.trans H7;have E7:=E6.trans H7;obtain rfl:er=0:=z6z b0;obtain⟨hre,hrE⟩:=nr fw hR;rw[z1z hre]at M;subst M;cases cN:decide ((((S8 ea).length:Nat):Int)=(((dedup (S8 ea)).length:Nat):Int))with
 | false=>
   refine gS1 (aI cN (a3N @D6 @D8 @Tryz.results5)) ?_;exact⟨_,rfl⟩
 |true=>
 have h3:(dedup (S8 ea)).length=(S8 ea).length:=by have:=z6z cN;omega
 obtain⟨e7,i0⟩:=mg h3;cases c5:decide (5<(((dedup (S8 ea)).length:Nat):Int))with
 | true=>
   refine gS1 (aI cN (aI c5 (a3N @D6 @D8 @Tryz.results5))) ?_;exact⟨_,rfl⟩
 |false=>
 refine gS1 (aI cN c5) ?_;rw[i0]at U a6 b3 c5 ⊢;obtain⟨NN,M⟩:=nW (S8 ea);have a0:K5 T ea:=aq (YD h5) fw hrE;rw[M]at e7 U a6 b3 c5 ⊢;obtain⟨N,hNe⟩:=nW NN.length;rw[hNe]at a6 c5 U ⊢;have a8:N<=5:=by have:=z9z c5;omega
 have l5:0<2 ^ N:=mD om;have l6:2 ^ N<=32:=mE (n:=2) om a8;have i8:=hG.wk i1 i6;have e3:∀ {O:St},Ext Z7 O->Good O ca T:=fun h=>⟨a3.mono (a7.trans (H4.trans (F5.trans (H6.trans (H7.trans h))))),i8⟩
 have f6:W.n<Z7.n:=om;have j4:Z2.n<Z7.n:=om;have n4:X.n+1<Z7.n:=om
 refine G8 (2 ^ N) (fun j u O=>Ext Z7 O/\u.get 14=some (.int .i64 j)/\u.get 12=some (.bool (GD (isB T NN ea J.1) j))/\u.get 13=some (.bool (GD (isB T NN ea J.2) j))/\u.get 5=some (.bool true)/\u.get 6=some (.pointer (some ⟨W.n,0,none⟩))/\u.get 7=some (.pointer (some ⟨Z2.n,0,none⟩))/\u.get 8=some (.pointer (some ⟨X.n,0,none⟩))/\u.get 9=some (.pointer (some ⟨X.n+1,0,none⟩))/\u.get 11=some (.slice an N nc))
  (fun r=>∃ u O,r=⟨.exit 0,u,O⟩/\u.get 12=some (.bool (GD (isB T NN ea J.1) (2 ^ N)))/\u.get 13=some (.bool (GD (isB T NN ea J.2) (2 ^ N)))/\u.get 5=some (.bool true)) ?_ ?_ ?_ ?_
 ·exact⟨.refl _,fR,fR,fR,fR,fR,fR,fR,fR,fR⟩
 ·rintro j u O hj ⟨hE,o,g,m,D,E,F,y,z,f⟩;have cj:decide (j<2 ^ N)=true:=AW hj;have nE:=hE.n;simp(maxSteps:=8000000) (disch:=first|exact dS|fail) only[↓bD,bW,reduceMul,reduceEqDiff,reduceAdd,Nat.reduceBEq,reduceIte,Option.isNone_none,o,f,jx a8,cj]
  refine G8 N (fun i u G=>Ext O G/\u.get 16=some (.int .i64 i)/\(∃ v,u.get 15=some v/\OL O.n G 1 v (((Cj T NN j).take i).map fun n=>[.int .i64 n]))/\u.get 14=some (.int .i64 j)/\u.get 12=some (.bool (GD (isB T NN ea J.1) j))/\u.get 13=some (.bool (GD (isB T NN ea J.2) j))/\u.get 5=some (.bool true)/\u.get 6=some (.pointer (some ⟨W.n,0,none⟩))/\u.get 7=some (.pointer (some ⟨Z2.n,0,none⟩))/\u.get 8=some (.pointer (some ⟨X.n,0,none⟩))/\u.get 9=some (.pointer (some ⟨X.n+1,0,none⟩))/\u.get 11=some (.slice an N nc))
   (fun r=>∃ u G,r=⟨.exit 2,u,G⟩/\Ext O G/\(∃ v,u.get 15=some v/\OL O.n G 1 v ((Cj T NN j).map fun n=>[.int .i64 n]))/\u.get 14=some (.int .i64 j)/\u.get 12=some (.bool (GD (isB T NN ea J.1) j))/\u.get 13=some (.bool (GD (isB T NN ea J.2) j))/\u.get 5=some (.bool true)/\u.get 6=some (.pointer (some ⟨W.n,0,none⟩))/\u.get 7=some (.pointer (some ⟨Z2.n,0,none⟩))/\u.get 8=some (.pointer (some ⟨X.n,0,none⟩))/\u.get 9=some (.pointer (some ⟨X.n+1,0,none⟩))/\u.get 11=some (.slice an N nc)) ?_ ?_ ?_ ?_
  ·exact⟨.refl _,fR,⟨_,fR,OL.nil⟩,fR1 o,fR1 g,fR1 m,fR1 D,fR1 E,fR1 F,fR1 y,fR1 z,fR1 f⟩
  ·clear o g m D E F y z f u;rintro i u G hi ⟨K,Y,⟨v,R,ho⟩,o,g,m,D,E,F,y,z,f⟩;have j5:=K.n;have ci:=M4 hi;have bi:Nat.blt i N=true:=by rw[BW];exact hi
   obtain⟨nm,V⟩:∃ nm,NN[i]? =some nm:=⟨_,List.getElem?_eq_getElem om⟩
   obtain⟨sp,rfl,j6,k0⟩:=a6 om;have k3:=b3 i nm V;have k5:G.row nb=some ncs:=by rw[((H7.trans hE).trans K).row j6];exact k0
   have b4:G.row W.n=some ca:=by rw[(hE.trans K).row f6];exact g2
   obtain⟨a,b,a9,h6,h7,h8⟩:=a0 nm (by rw[M];exact Ag V);have e4:=KL a9;simp(maxSteps:=8000000) (disch:=first|exact dS|fail) only[↓bD,bW,reduceMul,reduceEqDiff,reduceAdd,Nat.reduceBEq,reduceIte,Option.isNone_none,Y,R,o,E,f,ci,bi,k5,k3,b4,b1,Ip];refine(IV (s:=nm) (e3 (hE.trans K))).mono ?_;rintro r ⟨Za,rfl,Ha⟩;rw[e4];unfold Kl;have na:=Ha.n;have h2:Ext O Za:=K.trans Ha;have e9:=OL.ext ho Ha;obtain⟨bt,hbt⟩:∃ bt:Nat,j / 2 ^ i % 2=bt:=⟨_,rfl⟩
   have g4:bt<2:=by rw[<- hbt];exact IP _ om
   have w1:L9 .i64 (b-a)=b-a:=by rw[o7];exact wrap64_in om om
   have w2:L9 .i64 ((b-a)*(bt:Int))=(b-a)*(bt:Int):=by
    have:bt=0\/bt=1:=om;rcases this with rfl|rfl
    ·rw[o7,wrap64_in om om]
    ·rw[o7,wrap64_in om om]
   have pk:(Cj T NN j)[i]? =some ((b-a)*(bt:Int)):=by rw[TL V,hbt];unfold wid;rw[e4]
   have f3:(((Cj T NN j).take i).map fun n=>[Value.int .i64 n]).length=i:=by rw[z2z,Jw,Gt];omega
   have jd:j / 2 ^ i<9223372036854775808:=by have:=KD j (2 ^ i);omega
   simp(maxSteps:=8000000) (disch:=first|exact dS|fail) only[↓bD,bU,reduceMul,reduceEqDiff,reduceAdd,Nat.reduceBEq,reduceIte,Option.isNone_none,A6,W8,Y8,X9,V7,Y0,V8,V9,W0,L7,I4,J5,J3,I5,I6,asx Ha,R,o,Y,w1,AG0 (show i<=64 by omega),AF9 jd,hbt,w2];refine Y1 (row:=[.int .i64 ((b-a)*(bt:Int))]) (fun _ _ _ _=>Av) (OL.ext e9 (.new _ _)) (K0 nL nL) rfl om (by simp;omega) ?_;intro v' Zb e8 hA m2;obtain⟨va,f4⟩:=OL.shape e8;have eb:Ext O Zb:=App.ext hA (h2.trans (.new _ _)) (OL.ext e9 (.new _ _)) nL;rw[f4];refine gU1 (aI @A6 (aI @W8 (aI @Y8 (aI @X9 (aI @V7 (aI @Y0 (aI @V8 (aI @V9 (aI @W0 (aI @L7 (aI @I4 (aI @J5 (aI @J3 (aI @I5 (aI @I6 Y))))))))))))))) ?_;rw[<- f4];refine⟨eb,fR,⟨v',fR,?_⟩,fR1 o,fR1 g,fR1 m,fR1 D,fR1 E,fR1 F,fR1 y,fR1 z,fR1 f⟩;rw[Rv,pk,HI];exact e8
  ·clear o g m D E F y z f u;rintro u G ⟨K,Y,⟨v,R,ho⟩,o,g,m,D,E,F,y,z,f⟩;rw[Og (by rw[Gt];omega)]at ho;refine gS1 (aI Y (aI f @Kt)) ?_;exact⟨_,_,rfl,K,⟨v,fR1 R,ho⟩,fR1 o,fR1 g,fR1 m,fR1 D,fR1 E,fR1 F,fR1 y,fR1 z,fR1 f⟩
  clear o g m D E F y z f u;rintro r ⟨u,G,rfl,K,⟨v,R,ho⟩,o,g,m,D,E,F,y,z,f⟩;have j5:=K.n;have S:=hE.trans K;have b4:=eT (S.row f6) g2;have k8:=eT (S.row j4) l1;have f5:=OL.sl ho;obtain⟨va,vc,vb,vo,m6,hv,-,-⟩:=SL.use f5;have f3:((Cj T NN j).map fun n=>[Value.int .i64 n]).length=N:=by rw[z2z,Gt,hNe]
  rw[f3]at hv;subst hv;have h0:∀ n∈Cj T NN j,BN n:=by
   intro n hn;obtain⟨i,hi⟩:=List.getElem?_of_mem hn;have i5:i<NN.length:=by have:=(List.getElem?_eq_some_iff.1 hi).1;rw[Gt]at this;exact this
   obtain⟨nm,V⟩:∃ nm,NN[i]? =some nm:=⟨_,List.getElem?_eq_getElem i5⟩
   obtain⟨a,b,a9,h6,h7,h8⟩:=a0 nm (by rw[M];exact Ag V);rw[TL V]at hi;cases hi;unfold wid;rw[KL a9];have g4:j / 2 ^ i % 2<2:=IP _ om;have:j / 2 ^ i % 2=0\/j / 2 ^ i % 2=1:=om;rcases this with e|e<;>rw[e]<;>exact⟨by simp<;>omega,by simp<;>omega⟩
  have h4:Hy G (.slice an N nc) NN:=SL.mono U (H7.trans S);refine gS1 (aI R (aI E (aI F (aI f (aI b4 (aI k8 b1)))))) ?_;refine(ZY (names:=NN) om (by rw[Gt];omega) h0 fw (e3 S) (a5.mono (h1.trans S)) h4 f5 a0).mono ?_;rintro r ⟨q,b,Zv,rfl,Hv,kq,vq⟩;have nv:=Hv.n;have A:=S.trans Hv;have C:=eT (A.row om) j3;have B:=eT (A.row om) i4;have H:=Vp (w:=J.1) vq;have I:=Vp (w:=J.2) vq;generalize GD (isB T NN ea J.1) j=f1 at H g;generalize GD (isB T NN ea J.2) j=f2 at I m;have q1:=AQ2 (a:=q) (b:=J.1);have L:=AQ2 (a:=q) (b:=J.2);unfold qv P6;cases b with
  | false=>
    cases f1<;>cases f2
    ·refine gS1 (aI g (aI m (aI C (aI B (aI @D6 (aI @D8 o)))))) ?_;exact⟨(A.Q3 _).upd om _,trivial,by rw[H];rfl,by rw[I];rfl,fR1 D,fR1 E,fR1 F,fR1 y,fR1 z,fR1 f⟩
    ·refine gS1 (aI g (aI m (aI C (aI B (aI @D6 (aI @D8 o)))))) ?_;exact⟨(A.Q3 _).upd om _,trivial,by rw[H];rfl,by rw[I];rfl,fR1 D,fR1 E,fR1 F,fR1 y,fR1 z,fR1 f⟩
    ·refine gS1 (aI g (aI m (aI C (aI B (aI @D6 (aI @D8 o)))))) ?_;exact⟨(A.Q3 _).upd om _,trivial,by rw[H];rfl,by rw[I];rfl,fR1 D,fR1 E,fR1 F,fR1 y,fR1 z,fR1 f⟩
    ·refine gS1 (aI g (aI m (aI C (aI B (aI @D6 (aI @D8 o)))))) ?_;exact⟨(A.Q3 _).upd om _,trivial,by rw[H];rfl,by rw[I];rfl,fR1 D,fR1 E,fR1 F,fR1 y,fR1 z,fR1 f⟩
  | true=>
    cases d1:decide (q=J.1)<;>cases d2:decide (q=J.2)<;>rw[d1]at q1 H<;>rw[d2]at L I<;>cases f1<;>cases f2
    ·refine gS1 (aI g (aI m (aI y (aI z (aI C (aI B (aI @D6 (aI @D8 (aI o (aI @F4 (aI q1 L))))))))))) ?_;exact⟨(A.Q3 _).upd om _,trivial,by rw[H];rfl,by rw[I];rfl,fR1 D,fR1 E,fR1 F,fR1 y,fR1 z,fR1 f⟩
    ·refine gS1 (aI g (aI m (aI y (aI z (aI C (aI B (aI @D6 (aI @D8 (aI o (aI @F4 (aI q1 L))))))))))) ?_;exact⟨(A.Q3 _).upd om _,trivial,by rw[H];rfl,by rw[I];rfl,fR1 D,fR1 E,fR1 F,fR1 y,fR1 z,fR1 f⟩
    ·refine gS1 (aI g (aI m (aI y (aI z (aI C (aI B (aI @D6 (aI @D8 (aI o (aI @F4 (aI q1 L))))))))))) ?_;exact⟨(A.Q3 _).upd om _,trivial,by rw[H];rfl,by rw[I];rfl,fR1 D,fR1 E,fR1 F,fR1 y,fR1 z,fR1 f⟩
    ·refine gS1 (aI g (aI m (aI y (aI z (aI C (aI B (aI @D6 (aI @D8 (aI o (aI @F4 (aI q1 L))))))))))) ?_;exact⟨(A.Q3 _).upd om _,trivial,by rw[H];rfl,by rw[I];rfl,fR1 D,fR1 E,fR1 F,fR1 y,fR1 z,fR1 f⟩
    ·refine gS1 (aI g (aI m (aI y (aI z (aI C (aI B (aI @D6 (aI @D8 (aI o (aI @F4 (aI q1 L))))))))))) ?_;exact⟨(A.Q3 _).upd om _,trivial,by rw[H];rfl,by rw[I];rfl,fR1 D,fR1 E,fR1 F,fR1 y,fR1 z,fR1 f⟩
    ·refine gS1 (aI g (aI m (aI y (aI z (aI C (aI B (aI @D6 (aI @D8 (aI o (aI @F4 (aI q1 L))))))))))) ?_;exact⟨(A.Q3 _).upd om _,trivial,by rw[H];rfl,by rw[I];rfl,fR1 D,fR1 E,fR1 F,fR1 y,fR1 z,fR1 f⟩
    ·refine gS1 (aI g (aI m (aI y (aI z (aI C (aI B (aI @D6 (aI @D8 (aI o (aI @F4 (aI q1 L))))))))))) ?_;exact⟨(A.Q3 _).upd om _,trivial,by rw[H];rfl,by rw[I];rfl,fR1 D,fR1 E,fR1 F,fR1 y,fR1 z,fR1 f⟩
    ·refine gS1 (aI g (aI m (aI y (aI z (aI C (aI B (aI @D6 (aI @D8 (aI o (aI @F4 (aI q1 L))))))))))) ?_;exact⟨(A.Q3 _).upd om _,trivial,by rw[H];rfl,by rw[I];rfl,fR1 D,fR1 E,fR1 F,fR1 y,fR1 z,fR1 f⟩
    ·refine gS1 (aI g (aI m (aI y (aI z (aI C (aI B (aI @D6 (aI @D8 (aI o (aI @F4 (aI q1 L))))))))))) ?_;exact⟨(A.Q3 _).upd om _,trivial,by rw[H];rfl,by rw[I];rfl,fR1 D,fR1 E,fR1 F,fR1 y,fR1 z,fR1 f⟩
    ·refine gS1 (aI g (aI m (aI y (aI z (aI C (aI B (aI @D6 (aI @D8 (aI o (aI @F4 (aI q1 L))))))))))) ?_;exact⟨(A.Q3 _).upd om _,trivial,by rw[H];rfl,by rw[I];rfl,fR1 D,fR1 E,fR1 F,fR1 y,fR1 z,fR1 f⟩
    ·refine gS1 (aI g (aI m (aI y (aI z (aI C (aI B (aI @D6 (aI @D8 (aI o (aI @F4 (aI q1 L))))))))))) ?_;exact⟨(A.Q3 _).upd om _,trivial,by rw[H];rfl,by rw[I];rfl,fR1 D,fR1 E,fR1 F,fR1 y,fR1 z,fR1 f⟩
    ·refine gS1 (aI g (aI m (aI y (aI z (aI C (aI B (aI @D6 (aI @D8 (aI o (aI @F4 (aI q1 L))))))))))) ?_;exact⟨(A.Q3 _).upd om _,trivial,by rw[H];rfl,by rw[I];rfl,fR1 D,fR1 E,fR1 F,fR1 y,fR1 z,fR1 f⟩
    ·refine gS1 (aI g (aI m (aI y (aI z (aI C (aI B (aI @D6 (aI @D8 (aI o (aI @F4 (aI q1 L))))))))))) ?_;exact⟨(A.Q3 _).upd om _,trivial,by rw[H];rfl,by rw[I];rfl,fR1 D,fR1 E,fR1 F,fR1 y,fR1 z,fR1 f⟩
    ·refine gS1 (aI g (aI m (aI y (aI z (aI C (aI B (aI @D6 (aI @D8 (aI o (aI @F4 (aI q1 L))))))))))) ?_;exact⟨(A.Q3 _).upd om _,trivial,by rw[H];rfl,by rw[I];rfl,fR1 D,fR1 E,fR1 F,fR1 y,fR1 z,fR1 f⟩
    ·refine gS1 (aI g (aI m (aI y (aI z (aI C (aI B (aI @D6 (aI @D8 (aI o (aI @F4 (aI q1 L))))))))))) ?_;exact⟨(A.Q3 _).upd om _,trivial,by rw[H];rfl,by rw[I];rfl,fR1 D,fR1 E,fR1 F,fR1 y,fR1 z,fR1 f⟩
    ·refine gS1 (aI g (aI m (aI y (aI z (aI C (aI B (aI @D6 (aI @D8 (aI o (aI @F4 (aI q1 L))))))))))) ?_;exact⟨(A.Q3 _).upd om _,trivial,by rw[H];rfl,by rw[I];rfl,fR1 D,fR1 E,fR1 F,fR1 y,fR1 z,fR1 f⟩
 ·rintro u O ⟨hE,o,g,m,D,E,F,y,z,f⟩;have cj:decide (2 ^ N<2 ^ N)=false:=Kt;simp(maxSteps:=8000000) (disch:=first|exact dS|fail) only[↓bD,bW,reduceMul,reduceEqDiff,reduceAdd,Nat.reduceBEq,reduceIte,Option.isNone_none,o,f,jx a8,cj];exact⟨_,_,rfl,fR1 g,fR1 m,fR1 D⟩
 rintro r ⟨u,O,rfl,g,m,D⟩;have b5:(S8 ea).Nodup:=by rw[M];exact e7
 obtain⟨j1,q1,L⟩:=TM hB fw a0 b5 hrE J.1 (.inl rfl);obtain⟨j2,q3,q4⟩:=TM hB fw a0 b5 hrE J.2 (.inr rfl);rw[M]at q1 L q3 q4;rw[hNe]at q1 q3;have H:GD (isB T NN ea J.1) (2 ^ N)=true:=PI (i:=j1) (AW L) _ q1;have I:GD (isB T NN ea J.2) (2 ^ N)=true:=PI (i:=j2) (AW q4) _ q3;rw[H]at g;rw[I]at m;refine gS1 (aI g (aI m (aI D (a3N @D6 @D8 @Tryz.results5)))) ?_;exact⟨_,rfl⟩
end Go.Proofs.T
namespace Go.Proofs.YtgjocfjdecjhoaaGreatDoor
open Go Go.ChangeShapes Go.WideShapes Go.ChangeAt Go.RowKit
def AH5 {H:Type}{enc:TypeId×Value->H}{f0 f1:Nat}{x0 x1:DataW H×List MemPlace}(sa:Option Addr) (sl sc:Nat) (ta:Option Addr) (tl tc:Nat){w:World}(h0:DataW.trod enc Tryz.prog w 0 (fun _=>true) true f0 22 [.slice sa sl sc]=some x0) (h1:DataW.trod enc Tryz.prog w 0 (fun _=>true) true f1 22 [.slice ta tl tc]=some x1) (hd0:Ab.Nt.GR Tryz.prog f0 22=true) (hd1:Ab.Nt.GR Tryz.prog f1 22=true)
  (hg:10<=w.heap.size) (hE:T.Kb w) {arr:Array Value}{e:TypeId}{f:Nat×Nat} (hc:w.heap[0]? =some (.cells arr e f)) (h20:arr.size=20) (hp:∀ (i:Nat) (v:Value),T.AO[i]? =some v->arr[i]? =some v) :
  Calls Tryz.prog 5 #[.slice sa sl sc,.slice ta tl tc] w fun e w'=>e= .returned (.bool true)/\Below w.heap.size w w':=by
 let B8:Ab.Env:=⟨w.heap.size,fun n c=>Ab.codeOk Tryz.prog n 10 c,w⟩
 have FC:∀ n c,B8.chk n c=Ab.codeOk Tryz.prog n 10 c:=fun _ _=>rfl;obtain⟨O,hI⟩:=Vy (B8:=B8) rfl rfl hg hc h20 hp;obtain⟨Z1,O1,c0,i1,k1,l1,v1,a1,t1⟩:=Ab.Nt.imp (B8:=B8) (Nat.le_refl _) f0 22 _ _ h0 hd0 _ O hI;obtain⟨Z2,O2,c1,i2,k2,l2,v2,a2,t2⟩:=Ab.Nt.imp (B8:=B8) (Nat.le_refl _) f1 22 _ _ h1 hd1 Z1 O1 i1;obtain⟨u0,m0,rfl,g0⟩:=T.RD Tryz.underlying22 Tryz.underlying3 (by kernel_rfl) a1;have y0:=T.YN Tryz.underlying22 a1 g0;obtain⟨u1,m1,rfl,g1⟩:=T.RD Tryz.underlying22 Tryz.underlying3 (by kernel_rfl) a2;have y1:=T.YN Tryz.underlying22 a2 g1;have Ae5:=T.kM (k1.trans k2);have hev:=T.gK (g0.I2 (T.RE k2)) y0 (g1.I2 (T.RE (Ab.Nt.Kp.refl _))) y1 Ae5 (Nat.lt_of_lt_of_le (show(0:Nat)<11 by omega) (k1.trans k2).n);cases v1 with
 | cons vv vn=>
   cases vn;cases v2 with
   | cons vu vm=>
     cases vm;refine(Ab.QA (B8:=B8) T.mixed FC T.Ts (T.kO FC hg hE) Tryz.func5 rfl hev i2.rel i2.free i2.Ac7 (.cons (vv.mono l2) (.cons vu .nil))).mono ?_;rintro en w' ⟨r,v',O',⟨Z',rfl⟩,rfl,r1,r2,r3⟩;exact⟨by cases r3;rfl,cE i2.own r2⟩
end Go.Proofs.YtgjocfjdecjhoaaGreatDoor
