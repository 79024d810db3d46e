/- The BO Print of Ag of any kind. -/
import Derived.Test.YtbcanmagihejhaaGreatDoorSD
import Derived.Test.YtbcanmagihejhaaGreatDoorRH
import Derived.Test.YtbcanmagihejhaaGreatDoorVG
import Derived.Test.YtbcanmagihejhaaGreatDoorED
import Derived.Test.YtbcanmagihejhaaGreatDoorWA
set_option linter.unusedSimpArgs false
set_option linter.unusedVariables false
set_option linter.defProp false
set_option maxHeartbeats 32000000
set_option maxRecDepth 100000
namespace Go.Proofs.T
open Go Go.Ab
section
variable {T:Tn}
def NH {s:By}(e:Cc s= .ok T):BL T:=by
 unfold Cc at e;split at e
 ·cases e
 ·exact Ws e
def WkT.cap {w m n:Nat}(h:WkT w m n T) (b:n<=100):Cap T:=⟨by have:=h.F9;omega,by have:=h.E9;omega,by have:=h.reqs;omega,by have:=h.H2;omega,by have:=h.C8;omega,fun c a=>by have:=(h.combo c a).1;omega⟩
def Om (h:BL T/\(DY T).length<=4000):Cc (Bt T)= .ok T:=by
 rw[Jg h.1];unfold Cc;rw[z0z (by have:=h.2;omega)];exact Oo h.1
def dK {U:Tn}(e:Cc (Bt T)= .ok U):PrT T (if LD T U=true then Bt T else[]):=by
 cases h:LD T U with
 | true=>
   obtain rfl:=sh h;have a:=NH e;refine⟨fun c=>(by rw[z1z rfl,Jg c.1]),fun c=>?_⟩;exfalso;refine c ⟨a,?_⟩;rw[<- Jg a];unfold Cc at e;split at e
   ·cases e
   ·omega
 | false=>
   refine⟨fun c=>?_,fun _=>rfl⟩;rw[Om c]at e;cases e;rw[SB]at h;cases h
def dL {x:Er}(e:Cc (Bt T)= .error x):PrT T []:=⟨fun c=>(by rw[Om c]at e;cases e),fun _=>rfl⟩
def SC {Z:St}{ca:List Value}(q:Bj Z ca T) (E:WkT 4 1000 100 T) (y:Z.read 1 0 20=some T7) (u:1<Z.n):
  Ev (gO 17 [.agg ⟨ca⟩] Z) (fun r=>∃ s Z',r=⟨false,str s,Z'⟩/\Ext Z Z'/\PrT T s) ⟨⟩:=by
 obtain⟨S,O,V,M,W,Q,v,-⟩:=q.parts;have g:=v.all;refine G1 Tryz.func17 rfl rfl ?_;refine gU1 (aI @A6 (aI @C7 g)) ?_;have i:Ext Z (Z.new ca):=eX;refine(lp (q.mono i) E (Bs i u y) (by simp;omega)).mono ?_;rintro r ⟨K,rfl,j⟩;refine gU1 (aI @A6 @C7) ?_;have I:=j.n;simp only[K9]at I;refine(Tb (fun h l a H _=>Rw (by have:=SD H;rw[Dt]at this;omega)) (fun _=>Rv)).mono ?_;have z:∀ U,Cc (Bt T)= .ok U->Cap U:=fun U h=>(NH h).cap;have b:∀ U,Cc (Bt T)= .ok U->PrT T (if LD T U=true then Bt T else[]):=fun U h=>dK h;have A:∀ x,Cc (Bt T)= .error x->PrT T []:=fun x h=>dL h;have c:∀ p e,Cc (Bt T)= .error (p,e)->e≠0:=by
  intro p e h;unfold Cc at h;split at h
  ·cases h;omega
  ·exact Rv p e h
 generalize Bt T=s at z b A c ⊢;generalize Cc s=R at z b A c ⊢;intro r D;cases R with
 | error pe=>
   obtain⟨p,e⟩:=pe;obtain⟨Z2,rfl,d⟩:=D;have G:decide (e=0)=false:=z4z (c p e rfl);unfold z20;refine gU1 (aI @A6 (aI @C7 (aI G (a3N @H7 @I0 @Tryz.results17)))) ?_;exact⟨_,_,rfl,((i.trans j).trans d).trans (eX),A _ rfl⟩
 | ok U=>
   obtain⟨Z2,cells,rfl,d,F⟩:=D;have f:Bj Z2 cells U:=(F [] (by simp)).OT Md;have N:=d.n;have J:Z2.row Z.n=some ca:=eT (d.row om) (eT (j.row (by simp)) cL);obtain⟨a0,a1,a2,a3,a4,a5,a6,a7,a8,a9,a10,a11,a12,a13,a14,a15,a16,a17,a18,a19,rfl⟩:=f.cells;refine gU1 (aI @A6 (aI @C7 (aI @H7 (aI @I0 (aI J g))))) ?_;have o:Ext Z Z2:=(i.trans j).trans d;refine(NI (q.mono (o.trans (eX))) (f.mono (eX)) (E.cap nL) (z U rfl)).mono ?_;rintro r ⟨L,rfl,B⟩;have m:=b U rfl;cases C:LD T U with
   | true=>
     rw[C]at m;refine gU1 (a6N @A6 @C7 @H7 @I0 @XP @Tryz.results17) ?_;exact⟨_,_,rfl,(o.trans (eX)).trans B,m⟩
   | false=>
     rw[C]at m;refine gU1 (a6N @A6 @C7 @H7 @I0 @SY @Tryz.results17) ?_;exact⟨_,_,rfl,(o.trans (eX)).trans B,m⟩
end
end Go.Proofs.T
namespace Go.Proofs.T
open Go Go.Ab
open Nat (reduceMul reduceEqDiff reduceAdd)
noncomputable def prC (l:List Nat):Code:=JE l ((Tryz.f5).body.getD .skip)
def AT2:prC []= .seq (prC [0]) (prC [1]):=kR
def AT3:prC [1]= .seq (prC [1,0]) (prC [1,1]):=kR
def AT4:prC [1,1]= .seq (prC [1,1,0]) (prC [1,1,1]):=kR
def AT5:prC [1,1,1]= .seq (prC [1,1,1,0]) (prC [1,1,1,1]):=kR
def AT6:prC [1,1,1,1]= .seq (prC [1,1,1,1,0]) (prC [1,1,1,1,1]):=kR
def AT7:prC [1,1,1,1,1]= .seq (prC [1,1,1,1,1,0]) (prC [1,1,1,1,1,1]):=kR
def OB {Z Z':St}{cells:List Value}{T:Tn}(h:TnY (J0 Z []) cells T) (a:Ext Z Z'):TnY (J0 Z' []) cells T:=h.I4 (HX a)
def AT8 {m:St}{fr:Fr}{b p:Nat}{ca:List Value}{V:Tn}{s:By}{r0 r1 r2:Int}(I:TnY (J0 m []) ca V) (hW:WkT 3 42 38 V) (hb:m.row b=some ca) (b0:b<m.n) (wr:m.row p=some [.int .i64 r0,.int .i64 r1,.int .i64 r2]) (b1:p<m.n) (M:X6 r0) (N:X6 r1) (O:X6 r2) (hp:m.read 1 0 20=some T7) (L:1<m.n)
  (g5:fr.get 5=some (.pointer (some ⟨p,0,none⟩))) (g7:fr.get 7=some (.bool true)) (G:fr.get 8=some (.pointer (some ⟨b,0,none⟩))) (g9:fr.get 9=some (str s)) :
  Ev (lim Tryz.prog HS none (prC [1,1,1,1,1,0]) fr m) (fun r=>∃ fr' τ',r=⟨.normal,fr',τ'⟩/\fr'.get 7=some (.bool true)/\fr'.get 8=some (.pointer (some ⟨b,0,none⟩))/\fr'.get 9=some (str s)/\Ext m τ') ⟨⟩:=by
 obtain⟨c0,c1,c2,c3,c4,c5,c6,c7,c8,c9,a0,a1,a2,a3,a4,a5,a6,a7,a8,a9,rfl⟩:=I.tn.cells;obtain⟨vl,vc,vr,ex,vt,vk,hpa,AF1,-⟩:=I.tn.parts;obtain⟨la,lc,lb,lo,lcs,rfl,-,-⟩:=AF1.use;have q:some [c1]=some [Value.slice la V.F9.length lc]:=hpa.p1;obtain rfl:c1=Value.slice la V.F9.length lc:=by injection q with h;injection h
 clear hpa AF1 q;simp only[prC,Tryz.f5,J2,M1,y7,y8,y9,AA];refine gU1 (aI @A6 (aI @C7 (aI G hb))) ?_;cases ht:decide (0<(V.F9.length:Int))with
 | false=>
   refine gU1 (aI @A6 @C7) ?_;exact⟨_,_,rfl,fR1 g7,fR1 G,fR1 g9,.refl _⟩
 | true=>
   refine gU1 (aI @A6 (aI @C7 (aI @AN3 (aI @AN4 (aI G (aI g5 (aI hb wr))))))) ?_;refine(gb (H:=[]) (by simp) I hW om om om M N O).mono ?_;rintro r ⟨cU,U,a,rfl,Y,K,hX⟩;obtain⟨u,v,y,z,A,B,C,D,E,F,d10,d11,c,d,e,f,g,i,j,l,rfl⟩:=K.tn.cells;refine gU1 (aI @A6 @C7) ?_;obtain⟨S,hS⟩:=nW (((a.new [str [],.slice none 0 0,.slice none 0 0,.slice none 0 0,.int .i64 0,.int .i64 0,str [],.int .i64 0,.int .i64 0,str [],.slice none 0 0,.slice none 0 0,.int .i64 0,.slice none 0 0,.int .i64 0,.int .i64 0,.int .i64 0,.int .i64 0,.int .i64 0,.int .i64 0] (some 41)).upd a.n [u,v,y,z,A,B,C,D,E,F,d10,d11,c,d,e,f,g,i,j,l]));have ED:Ext a S:=by rw[<- hS];exact eX
   have nS:S.n=a.n+1:=by rw[<- hS];rfl
   have rt:S.row a.n=some [u,v,y,z,A,B,C,D,E,F,d10,d11,c,d,e,f,g,i,j,l]:=by rw[<- hS];exact cL
   rw[hS];have tU:Bj S [u,v,y,z,A,B,C,D,E,F,d10,d11,c,d,e,f,g,i,j,l] U:=(OB K ED).tn;have hz:WkT 4 1000 100 U:=hX.up om om om;have Z:=Y.trans ED;have n2:=Y.n;have pS:S.read 1 0 20=some T7:=Bs Z L hp;have R:1<S.n:=om;clear I K hX hS hW
   try(refine gP1 @rt ?_;try exact⟨⟩)
   refine(SC tU hz pS R).mono ?_;rintro r ⟨s1,X,rfl,o,hs⟩;have W:X.row a.n=some [u,v,y,z,A,B,C,D,E,F,d10,d11,c,d,e,f,g,i,j,l]:=eT (o.row om) rt;refine gU1 (aI @A6 (aI @C7 W)) ?_;refine(Ry (tU.mono o) hz).mono ?_;rintro r ⟨s2,b2,rfl,J,Q⟩;obtain rfl:=Q.uni hs;have ds:decide (s2=s2)=true:=AK rfl;refine gU1 (aI @A6 (aI @C7 ds)) ?_
   try refine dW1 (aI (asx o) (aI (asx J) (asx (o.trans J)))) ?_
   try(refine gP1 ds ?_;try exact⟨⟩)
   exact⟨_,_,rfl,fR1 g7,fR1 G,fR1 g9,(Z.trans o).trans J⟩
def yb {u:St}{fr:Fr}{b:Nat}{M:List Value}{V:Tn}{s:By}(N:Bj u M V) (hz:WkT 4 1000 100 V) (hs:PrT V s) (hb:u.row b=some M) (A:b<u.n)
  (j:fr.get 7=some (.bool true)) (v:fr.get 8=some (.pointer (some ⟨b,0,none⟩))) (m:fr.get 9=some (str s)) :
  Ev (lim Tryz.prog HS none (prC [1,1,1,1,1,1]) fr u) (fun r=>∃ fr' τ',r=⟨.ret,fr',τ'⟩/\fr'.get 6=some (.bool true)) ⟨⟩:=by
 obtain⟨c0,c1,c2,c3,c4,c5,c6,c7,c8,c9,O,Q,R,S,W,X,Y,Z,a0,a1,rfl⟩:=N.cells;simp only[prC,Tryz.f5,J2,M1,y7,y8,y9,AA];refine gU1 (aI @A6 (aI @C7 m)) ?_;refine(Tb (fun h l a hl _=>Rw (by have:=SD hl;rw[Dt]at this;omega)) (fun _=>Rv)).mono ?_;by_cases y:s=[]
 ·subst y;have i:decide (([]:By)=[])=true:=rfl;intro r q;cases o:Cc []with
  | error pe=>
    rw[o]at q;obtain⟨p,e⟩:=pe;obtain⟨d,rfl,f⟩:=q;unfold z20;refine gU1 (aI @A6 (aI @C7 (aI j (aI v (aI m i))))) ?_;exact⟨_,_,rfl,fR⟩
  | ok U=>
    rw[o]at q;obtain⟨d,cells,rfl,f,z⟩:=q;obtain⟨u0,u1,u2,u3,u4,u5,u6,u7,u8,u9,C,D,E,F,G,H,I,J,K,L,rfl⟩:=(z [] (by simp)).cells;refine gU1 (aI @A6 (aI @C7 (aI j (aI v (aI m i))))) ?_;exact⟨_,_,rfl,fR⟩
 ·obtain⟨c,a2,B⟩:=hs.right y;have i:decide (s=[])=false:=z4z y;have o:Cc s= .ok V:=by rw[B];unfold Cc;rw[z0z om];exact Oo c
  rw[o];rintro r ⟨d,cells,rfl,f,z⟩;have g:Bj d cells V:=(z [] (by simp)).OT Md;obtain⟨u0,u1,u2,u3,u4,u5,u6,u7,u8,u9,C,D,E,F,G,H,I,J,K,L,rfl⟩:=g.cells;have n2:=f.n;have rt:=eT (f.row A) hb;refine gU1 (aI @A6 (aI @C7 (aI j (aI v (aI m (aI i @rt)))))) ?_;refine(NI (N.mono (f.trans (eX))) (g.mono (eX)) c.cap c.cap).mono ?_;rintro r ⟨a3,rfl,E3⟩;rw[SB];refine gU1 (aI @A6 (aI @C7 j)) ?_;exact⟨_,_,rfl,fR⟩
def Ze {Z:St}{v:Value}{l:List Int}{F q1 q2 G I J:Int}(O:BX (J0 Z []) v l) (Q:l.length<=9223372036854775807) (R:X6 F) (U:X6 q1) (W:X6 q2) (Y:X6 G) (b0:X6 I) (b1:X6 J) (hp:Z.read 1 0 20=some T7) (m:1<Z.n) :
  Ev (gO 5 [v,.agg ⟨[.int .i64 F,.int .i64 q1,.int .i64 q2]⟩,.agg ⟨[.int .i64 G,.int .i64 I,.int .i64 J]⟩] Z) (fun r=>∃ Z',r=⟨false,.bool true,Z'⟩) ⟨⟩:=by
 have hv:∃ a n c,v= .slice a n c:=by
  obtain⟨a,c,b,off,cells,h,-⟩:=O.1.use;exact⟨a,_,c,h⟩
 obtain⟨ia,il,ic,rfl⟩:=hv;obtain⟨S0,hS0⟩:=nW ((Z.new [.int .i64 F,.int .i64 q1,.int .i64 q2]).new [.int .i64 G,.int .i64 I,.int .i64 J]);have D:Ext Z S0:=by rw[<- hS0];exact eX
 have b6:S0.n=Z.n+2:=by rw[<- hS0];rfl
 have y:S0.row Z.n=some [.int .i64 F,.int .i64 q1,.int .i64 q2]:=by rw[<- hS0];exact cL
 have z:S0.row (Z.n+1)=some [.int .i64 G,.int .i64 I,.int .i64 J]:=by rw[<- hS0];exact cL
 refine G1 (body:=prC []) Tryz.func5 kR rfl ?_;obtain⟨X,N⟩:=nW (prC [1,1,1,1,1]);rw[AT2,AT3,AT4,AT5,AT6,N];simp only[prC,Tryz.f5,J2,M1,y7,y8,y9,AA];simp(maxSteps:=8000000) (disch:=first|exact dS|fail) only[↓bD,bU,reduceMul,reduceEqDiff,reduceAdd,Nat.reduceBEq,reduceIte,Option.isNone_none,A6,C7,FY,hS0,lQ (Bs D m hp)];refine(jw [] (by simp) (O.I4 (HX D)) Q).mono ?_;rintro r ⟨cT,T,Z1,rfl,e,L,hM⟩;have F1:=e.n;obtain⟨a0,a1,a2,a3,a4,a5,a6,a7,a8,a9,a10,a11,a12,a13,a14,a15,a16,a17,a18,a19,rfl⟩:=L.tn.cells;have wq:=eT (e.row om) y;have wr:=eT (e.row om) z;refine gU1 (aI @A6 (aI @C7 (aI @AN3 (aI @AN4 wq)))) ?_;refine(gb (H:=[]) (by simp) L (yc hM) om om om R U W).mono ?_;rintro r ⟨cV,V,g,rfl,i,M,hW⟩;have F2:=i.n;obtain⟨c0,c1,c2,c3,c4,c5,c6,c7,c8,c9,c10,c11,c12,c13,c14,c15,c16,c17,c18,c19,rfl⟩:=M.tn.cells;have A:=eT (i.row om) wr;refine gU1 (aI @A6 @C7) ?_;refine dW1 (aI (asx e) (aI (asx i) (asx (e.trans i)))) ?_;refine gU1 (aI @A6 @C7) ?_;obtain⟨S,hS⟩:=nW (((g.new [str [],.slice none 0 0,.slice none 0 0,.slice none 0 0,.int .i64 0,.int .i64 0,str [],.int .i64 0,.int .i64 0,str [],.slice none 0 0,.slice none 0 0,.int .i64 0,.slice none 0 0,.int .i64 0,.int .i64 0,.int .i64 0,.int .i64 0,.int .i64 0,.int .i64 0] (some 41)).upd g.n [c0,c1,c2,c3,c4,c5,c6,c7,c8,c9,c10,c11,c12,c13,c14,c15,c16,c17,c18,c19]));have E:Ext g S:=by rw[<- hS];exact eX
 have nS:S.n=g.n+1:=by rw[<- hS];rfl
 have rt:S.row g.n=some [c0,c1,c2,c3,c4,c5,c6,c7,c8,c9,c10,c11,c12,c13,c14,c15,c16,c17,c18,c19]:=by rw[<- hS];exact cL
 have b4:=eT (E.row om) A;rw[hS];have u:TnY (J0 S []) [c0,c1,c2,c3,c4,c5,c6,c7,c8,c9,c10,c11,c12,c13,c14,c15,c16,c17,c18,c19] V:=OB M E;have tV:Bj S [c0,c1,c2,c3,c4,c5,c6,c7,c8,c9,c10,c11,c12,c13,c14,c15,c16,c17,c18,c19] V:=u.tn;have hz:WkT 4 1000 100 V:=hW.up om om om;have pS:S.read 1 0 20=some T7:=Bs (((D.trans e).trans i).trans E) m hp;have o:1<S.n:=om;clear L M hM hS wq y z wr A O D e i E;refine(SC tV hz pS o).mono ?_;rintro r ⟨s,Z3,rfl,j,hs⟩;have F3:=j.n;have p:Z3.row g.n=some [c0,c1,c2,c3,c4,c5,c6,c7,c8,c9,c10,c11,c12,c13,c14,c15,c16,c17,c18,c19]:=eT (j.row om) rt;refine gU1 (aI @A6 (aI @C7 p)) ?_;refine(Ry (tV.mono j) hz).mono ?_;rintro r ⟨s',Z4,rfl,C,b2⟩;obtain rfl:=b2.uni hs;have F4:=C.n;have q:=eT (C.row om) p;have b3:=eT (C.row om) (eT (j.row om) b4);have ds:decide (s'=s')=true:=AK rfl;have f:=j.trans C;refine gU1 (aI @A6 (aI @C7 ds)) ?_;rw[<- N,AT7];clear N X;refine Du (fun d B=>d.get 7=some (.bool true)/\d.get 8=some (.pointer (some ⟨g.n,0,none⟩))/\d.get 9=some (str s')/\Ext Z4 B) ?_ ?_
 ·exact AT8 (OB u f) hW q om b3 om Y b0 b1 (Bs f o pS) om (fR) (fR) (fR) (fR)
 rintro d B ⟨g7,g8,g9,K⟩;have F5:=K.n;refine(yb (tV.mono (f.trans K)) hz hs (by rw[K.row om];exact q) om g7 g8 g9).mono ?_;rintro r ⟨b5,b7,rfl,g6⟩;refine gU1 (aI @A6 (aI @C7 (aI g6 @Tryz.results5))) ?_;exact⟨_,rfl⟩
end Go.Proofs.T
namespace Go.Proofs.T
open Go Go.Ab Go.Ab.PG
def Zg {Z:St}{f:Nat}{cs:List Value}(h:Ei Tryz.prog Z f 52 cs):∃ q0 q1 q2:Int,cs=[.int .i64 q0,.int .i64 q1,.int .i64 q2]/\X6 q0/\X6 q1/\X6 q2:=by
 obtain⟨l,e,rfl,d⟩:=AU3 Tryz.underlying52 Tryz.underlying3 h
 match l,e,d with
 | [a,b,c],_,d=>exact⟨a,b,c,rfl,d a (by simp),d b (by simp),d c (by simp)⟩
end Go.Proofs.T
