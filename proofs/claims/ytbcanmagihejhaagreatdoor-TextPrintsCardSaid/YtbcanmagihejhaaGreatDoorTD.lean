/- AC4 with plain fields: name, FT, G4, C9, times. -/
import Derived.Test.YtbcanmagihejhaaGreatDoorTC
set_option linter.unusedSimpArgs false
set_option linter.unusedVariables false
set_option linter.defProp false
set_option maxHeartbeats 32000000
set_option maxRecDepth 100000
namespace Go.Proofs.T
open Go Go.Ab
section
variable {Z ZL:St}{bt bx:Nat}{T:Tn}{tv:Value}{A7:List Tok}{k:Nat}{tx:By}{from':Nat}{v:Nat->Value}{fc vs:List Value}
def BU (A7:List Tok) (T:Tn) (k:Nat):Except Er (Tn×Nat) :=
 if W0 (E8 A7 k).1 then .ok ({ T with name:=(E8 A7 k).1 },k+1)else .error ((E8 A7 k).2,12)
def Hc (A7:List Tok) (T:Tn) (k:Nat):Except Er (Tn×Nat):=V6 (W3 A7 k) fun(n,k)=> .ok ({ T with G4:=n },k)
def Cx (A7:List Tok) (T:Tn) (k:Nat):Except Er (Tn×Nat):=V6 (W3 A7 k) fun(n,k)=> .ok ({ T with C9:=n },k)
def Et (A7:List Tok) (T:Tn) (k:Nat):Except Er (Tn×Nat):=V6 (W3 A7 k) fun(a,k)=>V6 (W3 A7 k) fun(b,k)=> .ok ({ T with low:=a,high:=b },k)
def sq {s:By}(h:W0 s=true):s≠[]:=by rintro rfl;simp[W0,GB]at h
def lu (h:Ln ZL Z bt bx T tv A7 k (N9 tx from' bt) v fc vs) (n:Ends A7) (l:En A7) :
  Ev (gO 114 [.pointer (some ⟨bx,0,none⟩)] Z) (LnP ZL bt bx tv A7 (N9 tx from' bt) (BU A7 T k)) ⟨⟩:=by
 have a:=R9 h.sc.k;have z:=l _ (y6 a);refine G1 Tryz.func114 rfl rfl ?_;refine gS ?_;refine(Y9 h.sc a).mono ?_;rintro r ⟨o,rfl,f⟩;refine gS ?_;refine(HY om).mono ?_;rintro r rfl;refine gS ?_;have c:=h.N6 f;refine(P1 c.sc a).mono ?_;unfold BU;rintro r (⟨b,rfl⟩|⟨b,p,rfl,g⟩)
 case inr=>
  refine gS ?_;refine T3.intro kR ?_;refine gS ?_;rw[z0z (by rw[b];simp)];exact⟨_,rfl,(c.N6 g).ext⟩
 rw[z1z b];have m:=C1 c.sc.row;unfold N9 at m;obtain⟨c1,c2,c3,c4,s,rfl⟩:=fc5 c.fx;refine gS1 m ?_;refine(BV c.sc a).mono ?_;rintro r ⟨q,rfl,i,j⟩;have e:=c.step i j (n k _ a (sq b));have d:=e.row;unfold tnR Ae at d;have u:=h.btl;have y:=h.bxg;refine gS1 d ?_;refine dW1 (Ir c e) ?_;refine gS1 @Tryz.results114 ?_;exact⟨_,_,_,_,rfl,e.put { T with name:=(E8 A7 k).1 } rfl rfl rfl⟩
def yY (h:Ln ZL Z bt bx T tv A7 k (N9 tx from' bt) v fc vs) (l:Ends A7) (g:En A7) :
  Ev (gO 124 [.pointer (some ⟨bx,0,none⟩)] Z) (LnP ZL bt bx tv A7 (N9 tx from' bt) (Hc A7 T k)) ⟨⟩:=by
 refine G1 Tryz.func124 rfl rfl ?_;have j:=C1 h.sc.row;unfold N9 at j;obtain⟨c1,c2,c3,c4,o,rfl⟩:=fc5 h.fx;refine gS1 j ?_;refine(Gk h.sc l g).mono ?_;intro r;unfold Hc;cases s:W3 A7 k with
 | error pe=>
   obtain⟨p,e⟩:=pe;rintro⟨Z',rfl,i⟩;refine gS ?_;refine T3.intro kR ?_;refine dW1 (Bz i) ?_;refine gS ?_;rw[I8];exact⟨_,rfl,(h.N6 i).ext⟩
 | ok ak=>
   obtain⟨n,y⟩:=ak;rintro⟨m,rfl,c,f,d⟩;rw[F0];have b:=h.step c f d;have a:=b.row;unfold tnR Ae at a;have q:=h.btl;have u:=h.bxg;unfold Nt;refine gS1 a ?_;refine dW1 (Ir h b) ?_;refine gS1 @Tryz.results124 ?_;exact⟨_,_,_,_,rfl,b.put { T with G4:=n } rfl rfl rfl⟩
def lz (h:Ln ZL Z bt bx T tv A7 k (N9 tx from' bt) v fc vs) (l:Ends A7) (g:En A7) :
  Ev (gO 127 [.pointer (some ⟨bx,0,none⟩)] Z) (LnP ZL bt bx tv A7 (N9 tx from' bt) (Cx A7 T k)) ⟨⟩:=by
 refine G1 Tryz.func127 rfl rfl ?_;have j:=C1 h.sc.row;unfold N9 at j;obtain⟨c1,c2,c3,c4,o,rfl⟩:=fc5 h.fx;refine gS1 j ?_;refine(Gk h.sc l g).mono ?_;intro r;unfold Cx;cases s:W3 A7 k with
 | error pe=>
   obtain⟨p,e⟩:=pe;rintro⟨Z',rfl,i⟩;refine gS ?_;refine T3.intro kR ?_;refine dW1 (Bz i) ?_;refine gS ?_;rw[I8];exact⟨_,rfl,(h.N6 i).ext⟩
 | ok ak=>
   obtain⟨n,y⟩:=ak;rintro⟨m,rfl,c,f,d⟩;rw[F0];have b:=h.step c f d;have a:=b.row;unfold tnR Ae at a;have q:=h.btl;have u:=h.bxg;unfold Nt;refine gS1 a ?_;refine dW1 (Ir h b) ?_;refine gS1 @Tryz.results127 ?_;exact⟨_,_,_,_,rfl,b.put { T with C9:=n } rfl rfl rfl⟩
def ss (h:Ln ZL Z bt bx T tv A7 k (N9 tx from' bt) v fc vs) (s:Ends A7) (d:En A7) :
  Ev (gO 121 [.pointer (some ⟨bx,0,none⟩)] Z) (LnP ZL bt bx tv A7 (N9 tx from' bt) (Et A7 T k)) ⟨⟩:=by
 refine G1 Tryz.func121 rfl rfl ?_;have u:=C1 h.sc.row;unfold N9 at u;obtain⟨c1,c2,c3,c4,F,rfl⟩:=fc5 h.fx;refine gS1 u ?_;refine(Gk h.sc s d).mono ?_;intro r;unfold Et;cases G:W3 A7 k with
 | error pe=>
   obtain⟨p,e⟩:=pe;rintro⟨Z',rfl,b⟩;refine gS ?_;refine T3.intro kR ?_;refine dW1 (Bz b) ?_;refine gS ?_;rw[I8];exact⟨_,rfl,(h.N6 b).ext⟩
 | ok ak=>
   obtain⟨n,C⟩:=ak;rintro⟨D,rfl,c,o,j⟩;rw[F0];have a:=h.step c o j;refine gS ?_;refine(Gk a.sc s d).mono ?_;intro r
   try dsimp only
   cases A:W3 A7 C with
   | error pe=>
     obtain⟨p,e⟩:=pe;rintro⟨Z',rfl,b⟩;refine gS ?_;refine T3.intro kR ?_;have z:=h.btl;have B:=h.bxg;refine dW1 (aI @P0 (aI @T5 (aI @T6 (aI @N5 (aI @o6 (aI (Bz b) (aI (Ir h a) (dM c)))))))) ?_;refine gS ?_;rw[I8];exact⟨_,rfl,(a.N6 b).ext⟩
   | ok ak=>
     obtain⟨m,H⟩:=ak;rintro⟨E,rfl,i,q,l⟩;rw[F0];have g:=a.step i q l;have f:=g.row;unfold tnR Ae at f;have z:=h.btl;have B:=h.bxg;unfold Nt;refine gS1 f ?_;refine dW1 (aI (Ir h a) (Ir a g)) ?_;refine gS1 @Tryz.results121 ?_;have y:=g.put { T with low:=n } rfl rfl rfl;exact⟨_,_,_,_,rfl,y.put { T with low:=n,high:=m } rfl rfl rfl⟩
end
section
variable {Z ZL:St}{bt bx:Nat}{T:Tn}{tv:Value}{A7:List Tok}{k:Nat}{tx:By}{from':Nat}{v:Nat->Value}{fc vs:List Value}
def Bn (A7:List Tok) (T:Tn) (k:Nat):Except Er (Tn×Nat) :=
 V6 (HN A7 k) fun w=>V6 (Ha A7 [[60,61],[62,61]] (k+1)) fun(r,k)=>V6 (W3 A7 k) fun(n,k)=> .ok ({ T with reqs:=T.reqs++[⟨w,r,n⟩] },k)
def Rf {s:By}(h:R4 s=true):s≠[]:=by rintro rfl;simp[R4,W0,GB]at h
def df (h:Ln ZL Z bt bx T tv A7 k (N9 tx from' bt) v fc vs) (D:Ends A7) (B:En A7) (a0:T.reqs.length<=100000) :
  Ev (gO 119 [.pointer (some ⟨bx,0,none⟩)] Z) (LnP ZL bt bx tv A7 (N9 tx from' bt) (Bn A7 T k)) ⟨⟩:=by
 have s:=R9 h.sc.k;refine G1 Tryz.func119 rfl rfl ?_;refine gS ?_;refine(gH h.sc B s).mono ?_;unfold Bn HN;have a4:=h.sc.lt;have hL:=h.btl;have hg:=h.bxg;have a1:=h.ext.n;rintro r (⟨f,b,rfl,c⟩|⟨f,b,rfl,c⟩)
 case inr=>
  refine gS ?_;rw[z0z (by rw[f];simp),I8];exact⟨_,rfl,(h.N6 c).ext⟩
 rw[z1z f,F0];have a5:=c.n;refine gS ?_;have z:G5 bx Z ((b.new [str [],str [],.int .i64 0] (some 82)).upd b.n [str (E8 A7 k).1,str [],.int .i64 0]):=eXX;have q1:=(h.N6 c).sc.row;have h2:=h.step z (cL1 q1) h.sc.k;refine(BV h2.sc s).mono ?_;rintro r ⟨U,rfl,d,q3⟩;have h3:=h2.step d q3 (D k _ s (Rf f));have N:=d.n;simp at N;have c3:U.B8 b.n=some [str (E8 A7 k).1,str [],.int .i64 0]:=eT (d.B8 (by simp) om) cL;refine gS ?_;have h4:=h3.N6 (Ext.new (t:=none) U [str [60,61],str [62,61]]);refine(AN5 h4.sc D (Mz (l:=[[60,61],[62,61]])) (by decide) (by decide)).mono ?_;intro r
 try dsimp only
 cases a2:Ha A7 [[60,61],[62,61]] (k+1)with
 | error pe=>
   obtain⟨p,e⟩:=pe;rintro⟨Z',rfl,J⟩;refine gS ?_;rw[I8];exact⟨_,rfl,(h4.N6 J).ext⟩
 | ok ak=>
   obtain⟨w,k2⟩:=ak;rintro⟨V,rfl,g,q5,L⟩;rw[F0];have O:=g.n;simp at O;have C:V.B8 b.n=some [str (E8 A7 k).1,str [],.int .i64 0]:=by rw[g.B8 (by simp;omega) om];exact cL1 c3
   have G:=C1 C;refine gS1 (aI C G) ?_;have A:G5 bx Z (V.upd b.n [str (E8 A7 k).1,str w,.int .i64 0]):=G5.De (((z.trans d).Sk _).trans g) om _;have h6:=h.step A (cL1 q5) L;refine(Gk h6.sc D B).mono ?_;intro r
   try dsimp only
   cases a3:W3 A7 k2 with
   | error pe=>
     obtain⟨p,e⟩:=pe;rintro⟨Z',rfl,J⟩;refine gS ?_;rw[I8];exact⟨_,rfl,(h6.N6 J).ext⟩
   | ok ak=>
     obtain⟨m,k3⟩:=ak;rintro⟨F,rfl,o,q7,M⟩;rw[F0];have Q:=o.n;simp at Q;have W:F.B8 b.n=some [str (E8 A7 k).1,str w,.int .i64 0]:=eT (o.B8 (by simp;omega) om) cL;have H:=C1 W;have K:G5 bx Z (F.upd b.n [str (E8 A7 k).1,str w,.int .i64 m]):=G5.De (A.trans o) om _;have y:=h.step K (cL1 q7) M;have S:=C1 y.sc.row;have ht:=C1 y.row;unfold N9 at S;obtain⟨c1,c2,c3,c4,C,rfl⟩:=fc5 y.fx;unfold tnR Ae at ht;obtain⟨a,ha⟩:=OL.shape (y.sl 2 om);rw[ha]at ht;rw[I2 om]at S ht;unfold Nt;refine gU1 (aI @A6 (aI @P2 (aI @R5 (aI @R6 (aI @K6 (aI @R2 (aI @P5 (aI @K4 (aI @K5 (aI @H5 (aI W (aI H (aI S ht))))))))))))) ?_;have u:=y.N6 (Ext.new (t:=none) (F.upd b.n [str (E8 A7 k).1,str w,.int .i64 m]) [str (E8 A7 k).1,str w,.int .i64 m]);have q:=u.sl 2 om;have X:=u.dx 2 om;have Y:K3 (v 2)≠some b.n:=fun e=>by have:=((h.sl 2 om).blk e).2;omega
     rw[ha]at q X Y;rw[show(Cg T vs 2).length=T.reqs.length from z2z ..]at *;refine J6 (lo:=ZL.n) (D0:=T.reqs.map Req.row) (row:=[str (E8 A7 k).1,str w,.int .i64 m]) (fun _ _ _ _=>R1) q (G6 nL nL) (G3 (by simp) (by simp)) (by rw[z2z];omega) (by have:=u.ext.n;simp at this ⊢;omega) ?_;intro v' E g1 g2 g3;have ro:E.B8 bt=some (tnR T v [c1,c2,c3,c4,C]):=by
      rw[B9 (g2.same bt (by simp;omega) fun e=>by have:=(q.blk e).1;omega)];exact u.row
     obtain⟨a',rfl⟩:=OL.shape g1;have I:=u.app (T':={ T with reqs:=T.reqs++[⟨(E8 A7 k).1,w,m⟩] }) (vs':=vs) (i:=2) om (by rw[ha];exact g2) (by show OL _ _ 3 _ (List.map _ _);rw[Ah];exact g1) (by intro j hj R;match j,hj,R with|0,_,_=>rfl|1,_,_=>rfl|3,_,_=>rfl|4,_,_=>rfl) rfl u.iv;unfold tnR Ae at ro;refine gS1 ro ?_;refine dW1 (aI (Fy g2 X) (Fy g2 Y)) ?_;refine gS1 @Tryz.results119 ?_;exact⟨_,_,_,_,rfl,I⟩
end
section
variable {Z ZL:St}{bt bx:Nat}{T:Tn}{tv:Value}{A7:List Tok}{k:Nat}{tx:By}{from':Nat}{v:Nat->Value}{fc vs:List Value}
def Fj:By:=[103,114,97,100,101]
def CH:By:=[111,102,102,101,114]
def Dy:By:=[108,101,115,115]
def o7 (A7:List Tok) (T:Tn) (k:Nat):Except Er (Tn×Nat) :=
 V6 (HN A7 k) fun w=>if (T.E9.any fun c=>decide (c.name=w))=true then .error ((E8 A7 k).2,13)else
  V6 (Ha A7 [Fj,CH] (k+1)) fun(o,k)=>V6 (W3 A7 k) fun(lo,k)=>V6 (W3 A7 k) fun(hi,k)=>
   .ok ({ T with E9:=T.E9++[⟨w,cond (decide (o=CH)) 2 1,lo,hi,decide ((E8 A7 k).1=Dy)⟩] },cond (decide ((E8 A7 k).1=Dy)) (k+1) k)
def Yr {Z:St}{x:S8}{w:By}{c1 c2 c3 c4:Value}{bn:Nat}(a:Z.row bn=some [str w,c1,c2,c3,c4]) (b:bn<Z.n) :
  Ev (gO 162 [.agg ⟨x.row⟩,.pointer (some ⟨bn,0,none⟩)] Z) (fun r=>∃ Z2,r=⟨false,.bool (decide (x.name=w)),Z2⟩/\Ext Z Z2) ⟨⟩:=by
 refine G1 Tryz.func162 rfl rfl ?_;rw[show x.row=[str x.name,.int .i64 x.kind,.int .i64 x.low,.int .i64 x.high,.bool x.less]from rfl];refine gS1 (aI a @Tryz.results162) ?_;exact⟨_,rfl,eX⟩
def Vn (h:Ln ZL Z bt bx T tv A7 k (N9 tx from' bt) v fc vs) (W:Ends A7) (L:En A7) (d5:T.E9.length<=100000) :
  Ev (gO 117 [.pointer (some ⟨bx,0,none⟩)] Z) (LnP ZL bt bx tv A7 (N9 tx from' bt) (o7 A7 T k)) ⟨⟩:=by
 have U:=R9 h.sc.k;refine G1 Tryz.func117 rfl rfl ?_;refine gS ?_;refine(gH h.sc L U).mono ?_;unfold o7 HN;have d8:=h.sc.lt;have hL:=h.btl;have hg:=h.bxg;have d6:=h.ext.n;rintro r (⟨S,f,rfl,O⟩|⟨S,f,rfl,O⟩)
 case inr=>
  refine gS ?_;rw[z0z (by rw[S];simp),I8];exact⟨_,rfl,(h.N6 O).ext⟩
 rw[z1z S,F0];have d9:=O.n;have q1:=(h.N6 O).sc.row;have b0:G5 bx Z ((f.new [str [],.int .i64 0,.int .i64 0,.int .i64 0,.bool false] (some 80)).upd f.n [str (E8 A7 k).1,.int .i64 1,.int .i64 0,.int .i64 0,.bool false]):=eXX;have h2:=h.step b0 (cL1 q1) h.sc.k;have s:=C1 h2.sc.row;have ht:=C1 h2.row;unfold N9 at s;obtain⟨e1,e2,e3,e4,e5,rfl⟩:=fc5 h2.fx;unfold tnR Ae at ht;obtain⟨a,ha⟩:=OL.shape (h2.sl 1 om);rw[ha]at ht;rw[I2 om,CQ om]at s ht;refine gS1 (aI s ht) ?_;have b2:=OL.sl (h2.sl 1 om);rw[ha]at b2;rw[show(Cg T vs 1).length=T.E9.length from z2z ..]at *;refine(kP (p:=fun c=>decide (c.name=(E8 A7 k).1)) (fs:=[]) b2 om fun Z' x E _=>?_).mono ?_
 ·refine Yr (bn:=f.n) (w:=(E8 A7 k).1) (c1:= .int .i64 1) (c2:= .int .i64 0) (c3:= .int .i64 0) (c4:= .bool false) ?_ ?_
  ·rw[E.row (by simp)];exact cL
  ·have:=E.n;simp at this;omega
 rintro r ⟨Z2,rfl,D⟩;have d0:=D.n;simp at d0;refine gS ?_;have h3:=h2.N6 D;refine(P1 h3.sc U).mono ?_;rintro r (⟨Bv,rfl⟩|⟨Bv,Z3,rfl,b1⟩)
 case inr=>
  refine gS ?_;refine T3.intro kR ?_;refine gS ?_;refine dW1 (aI (Bz D) (Bz b1)) ?_;refine gS ?_;rw[z1z (by simpa using Bv)];exact⟨_,rfl,(h3.N6 b1).ext⟩
 rw[z0z (by simpa using Bv)];refine gS ?_;refine dW1 (aI (Bz D) (Bz (Ext.refl Z2))) ?_;refine gS ?_;have QM:G5 bx Z Z2:=b0.trans (.of D);have c2:Z2.B8 f.n=some [str (E8 A7 k).1,.int .i64 1,.int .i64 0,.int .i64 0,.bool false]:=by rw[B9 (D.same _ (by simp))];exact cL
 refine(BV h3.sc U).mono ?_;rintro r ⟨Z4,rfl,Q,q4⟩;have c0:=W k _ U (Rf S);have e0:=Q.n;have h4:=h3.step Q q4 c0;have c4:=eT (Q.B8 om om) c2;refine gS ?_;have a9:=h4.N6 (Ext.new (t:=none) Z4 [str Fj,str CH]);refine(AN5 a9.sc W (Mz (l:=[Fj,CH])) (by decide) (by decide)).mono ?_;intro r
 try dsimp only
 cases d7:Ha A7 [Fj,CH] (k+1)with
 | error pe=>
   obtain⟨p,e⟩:=pe;rintro⟨Z',rfl,E⟩;refine gS ?_;rw[I8];exact⟨_,rfl,(a9.N6 E).ext⟩
 | ok ak =>
   obtain⟨o,k2⟩:=ak;rintro⟨Z5,rfl,a3,q5,b4⟩;rw[F0];have d3:=a3.n;simp at d3;have c5:Z5.B8 f.n=some [str (E8 A7 k).1,.int .i64 1,.int .i64 0,.int .i64 0,.bool false]:=by rw[a3.B8 (by simp;omega) om];exact cL1 c4
   have b6:=C1 c5;have Xp:G5 bx Z Z5:=((QM.trans Q).Sk _).trans a3;have b3:decide (o=[111,102,102,101,114])=decide (o=CH):=rfl;cases ho:decide (o=CH)with
   | false =>
     refine gS1 (aI b3 ho) ?_;have J:=Xp;have c6:=c5;have h6:=h.step J q5 b4;refine(Gk h6.sc W L).mono ?_;intro r
     try dsimp only
     cases b8:W3 A7 k2 with
     | error pe=>
       obtain⟨p,e⟩:=pe;rintro⟨Z',rfl,E⟩;refine gS ?_;rw[I8];exact⟨_,rfl,(h6.N6 E).ext⟩
     | ok ak=>
       obtain⟨lo,k3⟩:=ak;rintro⟨Z7,rfl,m,q7,a4⟩;rw[F0];have a6:=m.n
       try simp at a6
       have c7:Z7.B8 f.n=some [str (E8 A7 k).1,.int .i64 1,.int .i64 0,.int .i64 0,.bool false]:=by rw[m.B8 (by(try simp);omega) om];exact c6
       have h7:=h6.step m q7 a4;refine gS ?_;refine(Gk h7.sc W L).mono ?_;intro r
       try dsimp only
       cases b9:W3 A7 k3 with
       | error pe=>
         obtain⟨p,e⟩:=pe;rintro⟨Z',rfl,E⟩;refine gS ?_;rw[I8];exact⟨_,rfl,(h7.N6 E).ext⟩
       | ok ak=>
         obtain⟨hi,V⟩:=ak;rintro⟨Z8,rfl,z,q8,a5⟩;rw[F0];have d4:=z.n;have c8:=eT (z.B8 om om) c7;have a2:=C1 c8;unfold Nt;refine gS1 (aI c8 a2) ?_;have cO:G5 bx Z ((Z8.upd f.n [str (E8 A7 k).1,.int .i64 1,.int .i64 lo,.int .i64 0,.bool false]).upd f.n [str (E8 A7 k).1,.int .i64 1,.int .i64 lo,.int .i64 hi,.bool false]):=((((J.trans m).trans z).De om _).De om _)
         have h8:=h.step cO (cL1 q8) a5;have C:=R9 h8.sc.k;refine(Y9 h8.sc C).mono ?_;rintro r ⟨Z9,rfl,q⟩;have a7:=q.n;simp at a7;have I:=h8.N6 q;have X:=cO.trans (.of q);have c9:Z9.B8 f.n=some [str (E8 A7 k).1,.int .i64 1,.int .i64 lo,.int .i64 hi,.bool false]:=by rw[B9 (q.same _ (by simp;omega))];exact cL
         have b7:=C1 c9;have K:decide ((E8 A7 V).1=[108,101,115,115])=decide ((E8 A7 V).1=Dy):=rfl;cases R:decide ((E8 A7 V).1=Dy)
         case' false=>
          refine gS1 (aI K R) ?_;have s:=C1 I.sc.row;have ht:=C1 I.row;unfold N9 at s;obtain⟨f1,f2,f3,f4,f5,A⟩:=fc5 I.fx;cases A;unfold tnR Ae at ht;rw[ha]at ht;have cr:=C1 c9
          try rw[I2 om]at s ht
          refine gU1 (aI @A6 (aI @P2 (aI @R5 (aI @R1 (aI @K6 (aI @R2 (aI @P5 (aI @K4 (aI @K5 (aI @H5 (aI s (aI ht cr)))))))))))) ?_;have b:=I.N6 (Ext.new (t:=none) Z9 [str (E8 A7 k).1,.int .i64 1,.int .i64 lo,.int .i64 hi,.bool false]);have d:=b.sl 1 om;have M:=b.dx 1 om;have N:K3 (v 1)≠some f.n:=fun e=>by have:=((h.sl 1 om).blk e).2;omega
          rw[ha]at d M N
          try rw[show(Cg T vs 1).length=T.E9.length from z2z ..]at *
          refine J6 (lo:=ZL.n) (D0:=T.E9.map S8.row) (row:=[str (E8 A7 k).1,.int .i64 1,.int .i64 lo,.int .i64 hi,.bool false]) (fun _ _ _ _=>R6) d (G6 nL nL) (G3 (by simp) (by simp)) (by rw[z2z];omega) (by have:=b.ext.n;simp at this ⊢;omega) ?_;intro v' y G g2 g3;have ro:y.B8 bt=some (tnR T v [e1,e2,e3,e4,e5]):=by
           rw[B9 (g2.same bt (by simp;omega) fun e=>by have:=(d.blk e).1;omega)];exact b.row
          obtain⟨a',rfl⟩:=OL.shape G;have H:=b.app (T':={ T with E9:=T.E9++[⟨(E8 A7 k).1,1,lo,hi,false⟩] }) (vs':=vs) (i:=1) om (by rw[ha];exact g2) (by show OL _ _ 5 _ (List.map _ _);rw[Ah];exact G) (by intro j hj B;match j,hj,B with|0,_,_=>rfl|2,_,_=>rfl|3,_,_=>rfl|4,_,_=>rfl) rfl b.iv
         case' true=>
          refine gS1 (aI K R) ?_;refine(BV I.sc C).mono ?_;rintro r ⟨u,rfl,cP,a8⟩;have b5:=cP.n;have F:=eT (cP.B8 om om) c9;have Y:=C1 F;refine gS1 (aI F Y) ?_;have a0:G5 bx Z (u.upd f.n [str (E8 A7 k).1,.int .i64 1,.int .i64 lo,.int .i64 hi,.bool true]):=(X.trans cP).De om _;have g:=h.step a0 (cL1 a8) (W V _ C (by intro e;rw[e]at R;cases R));have a1:(u.upd f.n [str (E8 A7 k).1,.int .i64 1,.int .i64 lo,.int .i64 hi,.bool true]).B8 f.n=some [str (E8 A7 k).1,.int .i64 1,.int .i64 lo,.int .i64 hi,.bool true]:=G8;have s:=C1 g.sc.row;have ht:=C1 g.row;unfold N9 at s;obtain⟨f1,f2,f3,f4,f5,A⟩:=fc5 g.fx;cases A;unfold tnR Ae at ht;rw[ha]at ht;have cr:=C1 a1
          try rw[I2 om]at s ht
          refine gU1 (aI @A6 (aI @P2 (aI @R5 (aI @R1 (aI @K6 (aI @R2 (aI @P5 (aI @K4 (aI @K5 (aI @H5 (aI s (aI ht cr)))))))))))) ?_;have b:=g.N6 (Ext.new (t:=none) (u.upd f.n [str (E8 A7 k).1,.int .i64 1,.int .i64 lo,.int .i64 hi,.bool true]) [str (E8 A7 k).1,.int .i64 1,.int .i64 lo,.int .i64 hi,.bool true]);have d:=b.sl 1 om;have M:=b.dx 1 om;have N:K3 (v 1)≠some f.n:=fun e=>by have:=((h.sl 1 om).blk e).2;omega
          rw[ha]at d M N
          try rw[show(Cg T vs 1).length=T.E9.length from z2z ..]at *
          refine J6 (lo:=ZL.n) (D0:=T.E9.map S8.row) (row:=[str (E8 A7 k).1,.int .i64 1,.int .i64 lo,.int .i64 hi,.bool true]) (fun _ _ _ _=>R6) d (G6 nL nL) (G3 (by simp) (by simp)) (by rw[z2z];omega) (by have:=b.ext.n;simp at this ⊢;omega) ?_;intro v' y G g2 g3;have ro:y.B8 bt=some (tnR T v [e1,e2,e3,e4,e5]):=by
           rw[B9 (g2.same bt (by simp;omega) fun e=>by have:=(d.blk e).1;omega)];exact b.row
          obtain⟨a',rfl⟩:=OL.shape G;have H:=b.app (T':={ T with E9:=T.E9++[⟨(E8 A7 k).1,1,lo,hi,true⟩] }) (vs':=vs) (i:=1) om (by rw[ha];exact g2) (by show OL _ _ 5 _ (List.map _ _);rw[Ah];exact G) (by intro j hj B;match j,hj,B with|0,_,_=>rfl|2,_,_=>rfl|3,_,_=>rfl|4,_,_=>rfl) rfl b.iv
         all_goals
          unfold tnR Ae at ro;refine gS1 ro ?_;refine dW1 (aI (Fy g2 M) (Fy g2 N)) ?_;refine gS1 @Tryz.results117 ?_;exact⟨_,_,_,_,rfl,H⟩
   | true =>
     refine gS1 (aI b3 (aI ho (aI c5 b6))) ?_;have J:G5 bx Z (Z5.upd f.n [str (E8 A7 k).1,.int .i64 2,.int .i64 0,.int .i64 0,.bool false]):=Xp.De om _;have c6:(Z5.upd f.n [str (E8 A7 k).1,.int .i64 2,.int .i64 0,.int .i64 0,.bool false]).B8 f.n=some [str (E8 A7 k).1,.int .i64 2,.int .i64 0,.int .i64 0,.bool false]:=G8;have h6:=h.step J (cL1 q5) b4;refine(Gk h6.sc W L).mono ?_;intro r
     try dsimp only
     cases b8:W3 A7 k2 with
     | error pe=>
       obtain⟨p,e⟩:=pe;rintro⟨Z',rfl,E⟩;refine gS ?_;rw[I8];exact⟨_,rfl,(h6.N6 E).ext⟩
     | ok ak=>
       obtain⟨lo,k3⟩:=ak;rintro⟨Z7,rfl,m,q7,a4⟩;rw[F0];have a6:=m.n
       try simp at a6
       have c7:Z7.B8 f.n=some [str (E8 A7 k).1,.int .i64 2,.int .i64 0,.int .i64 0,.bool false]:=by rw[m.B8 (by(try simp);omega) om];exact c6
       have h7:=h6.step m q7 a4;refine gS ?_;refine(Gk h7.sc W L).mono ?_;intro r
       try dsimp only
       cases b9:W3 A7 k3 with
       | error pe=>
         obtain⟨p,e⟩:=pe;rintro⟨Z',rfl,E⟩;refine gS ?_;rw[I8];exact⟨_,rfl,(h7.N6 E).ext⟩
       | ok ak=>
         obtain⟨hi,V⟩:=ak;rintro⟨Z8,rfl,z,q8,a5⟩;rw[F0];have d4:=z.n;have c8:=eT (z.B8 om om) c7;have a2:=C1 c8;unfold Nt;refine gS1 (aI c8 a2) ?_;have cO:G5 bx Z ((Z8.upd f.n [str (E8 A7 k).1,.int .i64 2,.int .i64 lo,.int .i64 0,.bool false]).upd f.n [str (E8 A7 k).1,.int .i64 2,.int .i64 lo,.int .i64 hi,.bool false]):=((((J.trans m).trans z).De om _).De om _)
         have h8:=h.step cO (cL1 q8) a5;have C:=R9 h8.sc.k;refine(Y9 h8.sc C).mono ?_;rintro r ⟨Z9,rfl,q⟩;have a7:=q.n;simp at a7;have I:=h8.N6 q;have X:=cO.trans (.of q);have c9:Z9.B8 f.n=some [str (E8 A7 k).1,.int .i64 2,.int .i64 lo,.int .i64 hi,.bool false]:=by rw[B9 (q.same _ (by simp;omega))];exact cL
         have b7:=C1 c9;have K:decide ((E8 A7 V).1=[108,101,115,115])=decide ((E8 A7 V).1=Dy):=rfl;cases R:decide ((E8 A7 V).1=Dy)
         case' false=>
          refine gS1 (aI K R) ?_;have s:=C1 I.sc.row;have ht:=C1 I.row;unfold N9 at s;obtain⟨f1,f2,f3,f4,f5,A⟩:=fc5 I.fx;cases A;unfold tnR Ae at ht;rw[ha]at ht;have cr:=C1 c9
          try rw[I2 om]at s ht
          refine gU1 (aI @A6 (aI @P2 (aI @R5 (aI @R1 (aI @K6 (aI @R2 (aI @P5 (aI @K4 (aI @K5 (aI @H5 (aI s (aI ht cr)))))))))))) ?_;have b:=I.N6 (Ext.new (t:=none) Z9 [str (E8 A7 k).1,.int .i64 2,.int .i64 lo,.int .i64 hi,.bool false]);have d:=b.sl 1 om;have M:=b.dx 1 om;have N:K3 (v 1)≠some f.n:=fun e=>by have:=((h.sl 1 om).blk e).2;omega
          rw[ha]at d M N
          try rw[show(Cg T vs 1).length=T.E9.length from z2z ..]at *
          refine J6 (lo:=ZL.n) (D0:=T.E9.map S8.row) (row:=[str (E8 A7 k).1,.int .i64 2,.int .i64 lo,.int .i64 hi,.bool false]) (fun _ _ _ _=>R6) d (G6 nL nL) (G3 (by simp) (by simp)) (by rw[z2z];omega) (by have:=b.ext.n;simp at this ⊢;omega) ?_;intro v' y G g2 g3;have ro:y.B8 bt=some (tnR T v [e1,e2,e3,e4,e5]):=by
           rw[B9 (g2.same bt (by simp;omega) fun e=>by have:=(d.blk e).1;omega)];exact b.row
          obtain⟨a',rfl⟩:=OL.shape G;have H:=b.app (T':={ T with E9:=T.E9++[⟨(E8 A7 k).1,2,lo,hi,false⟩] }) (vs':=vs) (i:=1) om (by rw[ha];exact g2) (by show OL _ _ 5 _ (List.map _ _);rw[Ah];exact G) (by intro j hj B;match j,hj,B with|0,_,_=>rfl|2,_,_=>rfl|3,_,_=>rfl|4,_,_=>rfl) rfl b.iv
         case' true=>
          refine gS1 (aI K R) ?_;refine(BV I.sc C).mono ?_;rintro r ⟨u,rfl,cP,a8⟩;have b5:=cP.n;have F:=eT (cP.B8 om om) c9;have Y:=C1 F;refine gS1 (aI F Y) ?_;have a0:G5 bx Z (u.upd f.n [str (E8 A7 k).1,.int .i64 2,.int .i64 lo,.int .i64 hi,.bool true]):=(X.trans cP).De om _;have g:=h.step a0 (cL1 a8) (W V _ C (by intro e;rw[e]at R;cases R));have a1:(u.upd f.n [str (E8 A7 k).1,.int .i64 2,.int .i64 lo,.int .i64 hi,.bool true]).B8 f.n=some [str (E8 A7 k).1,.int .i64 2,.int .i64 lo,.int .i64 hi,.bool true]:=G8;have s:=C1 g.sc.row;have ht:=C1 g.row;unfold N9 at s;obtain⟨f1,f2,f3,f4,f5,A⟩:=fc5 g.fx;cases A;unfold tnR Ae at ht;rw[ha]at ht;have cr:=C1 a1
          try rw[I2 om]at s ht
          refine gU1 (aI @A6 (aI @P2 (aI @R5 (aI @R1 (aI @K6 (aI @R2 (aI @P5 (aI @K4 (aI @K5 (aI @H5 (aI s (aI ht cr)))))))))))) ?_;have b:=g.N6 (Ext.new (t:=none) (u.upd f.n [str (E8 A7 k).1,.int .i64 2,.int .i64 lo,.int .i64 hi,.bool true]) [str (E8 A7 k).1,.int .i64 2,.int .i64 lo,.int .i64 hi,.bool true]);have d:=b.sl 1 om;have M:=b.dx 1 om;have N:K3 (v 1)≠some f.n:=fun e=>by have:=((h.sl 1 om).blk e).2;omega
          rw[ha]at d M N
          try rw[show(Cg T vs 1).length=T.E9.length from z2z ..]at *
          refine J6 (lo:=ZL.n) (D0:=T.E9.map S8.row) (row:=[str (E8 A7 k).1,.int .i64 2,.int .i64 lo,.int .i64 hi,.bool true]) (fun _ _ _ _=>R6) d (G6 nL nL) (G3 (by simp) (by simp)) (by rw[z2z];omega) (by have:=b.ext.n;simp at this ⊢;omega) ?_;intro v' y G g2 g3;have ro:y.B8 bt=some (tnR T v [e1,e2,e3,e4,e5]):=by
           rw[B9 (g2.same bt (by simp;omega) fun e=>by have:=(d.blk e).1;omega)];exact b.row
          obtain⟨a',rfl⟩:=OL.shape G;have H:=b.app (T':={ T with E9:=T.E9++[⟨(E8 A7 k).1,2,lo,hi,true⟩] }) (vs':=vs) (i:=1) om (by rw[ha];exact g2) (by show OL _ _ 5 _ (List.map _ _);rw[Ah];exact G) (by intro j hj B;match j,hj,B with|0,_,_=>rfl|2,_,_=>rfl|3,_,_=>rfl|4,_,_=>rfl) rfl b.iv
         all_goals
          unfold tnR Ae at ro;refine gS1 ro ?_;refine dW1 (aI (Fy g2 M) (Fy g2 N)) ?_;refine gS1 @Tryz.results117 ?_;exact⟨_,_,_,_,rfl,H⟩
end
section
variable {Z ZL:St}{bt bx:Nat}{T:Tn}{tv:Value}{A7:List Tok}{k:Nat}{tx:By}{from':Nat}{v:Nat->Value}{fc vs:List Value}
def Fk:By:=[112,114,105,99,101]
def Na (A7:List Tok):Nat->Tn->Nat->Except Er (Tn×Nat)
 |0,T,k=> .ok (T,k)
 | f+1,T,k=>if (decide (T.H2.length=0)|| !decide ((E8 A7 k).1=[]))=true then
    if (decide ((E8 A7 k).1=Fk)||R4 (E8 A7 k).1)=true then
     if T.H2.contains (E8 A7 k).1=true then .error ((E8 A7 k).2,13)else
      if T.H2.length<12 then Na A7 f { T with H2:=T.H2++[(E8 A7 k).1] } (k+1)else .error ((E8 A7 k).2,2)
    else .error ((E8 A7 k).2,12)
   else .ok (T,k)
def Hb {A7:List Tok}{f:Nat}{T:Tn}{k:Nat}:Na A7 (f+1) T k=(if (decide (T.H2.length=0)|| !decide ((E8 A7 k).1=[]))=true then
   if (decide ((E8 A7 k).1=Fk)||R4 (E8 A7 k).1)=true then
    if T.H2.contains (E8 A7 k).1=true then .error ((E8 A7 k).2,13)else
     if T.H2.length<12 then Na A7 f { T with H2:=T.H2++[(E8 A7 k).1] } (k+1)else .error ((E8 A7 k).2,2)
   else .error ((E8 A7 k).2,12)
  else .ok (T,k)):=rfl
def LS (A7:List Tok) (T:Tn) (k:Nat):Except Er (Tn×Nat):=Na A7 (A7.length-k) T k
def yj {lo:Nat}{v:Value}{Z:St}(h:OL lo Z 1 v (Cg T vs 3)):∃ a,v= .slice a T.H2.length T.H2.length:=by
 obtain⟨a,b⟩:=OL.shape h;rw[show(Cg T vs 3).length=T.H2.length from z2z ..]at b;exact⟨a,b⟩
def AU4 (h:Ln ZL Z bt bx T tv A7 k (N9 tx from' bt) v fc vs) (I6:Ends A7) (a4:En A7) (F:T.H2.length<=100000) :
  Ev (gO 123 [.pointer (some ⟨bx,0,none⟩)] Z) (LnP ZL bt bx tv A7 (N9 tx from' bt) (LS A7 T k)) ⟨⟩:=by
 refine G1 Tryz.func123 rfl rfl ?_;refine gS ?_
 refine BE (fun j fr Z'=>∃ T' k' v' G vs',j=A7.length-k'/\fr.get 0=some (.pointer (some ⟨bx,0,none⟩))/\Ln ZL Z' bt bx T' tv A7 k' (N9 tx from' bt) v' G vs'/\Na A7 j T' k'=LS A7 T k/\T'.H2.length<=100000)
  (fun r=>match LS A7 T k with
    | .ok (T',k')=>∃ fr Z' v fc vs,r=⟨.exit 0,fr,Z'⟩/\Ln ZL Z' bt bx T' tv A7 k' (N9 tx from' bt) v fc vs
    | .error (p,e)=>∃ fr Z',r=⟨.pan (fault p e),fr,Z'⟩/\G5 bt ZL Z') (A7.length-k) ?_ ?_ ?_
 ·exact⟨T,k,v,fc,vs,rfl,fR,h,rfl,F⟩
 ·rintro j fr Z' ⟨T',k',v',G,vs',rfl,d,g,hT,a5⟩;rw[<- hT];clear hT F;obtain⟨f,hf⟩:∃ f,A7.length-k'=f+1:=⟨A7.length-k'-1,by have:=g.sc.k;omega⟩
  rw[hf];rw[Hb];have b:=R9 g.sc.k;have hs:=a4 _ (y6 b);have hx:=C1 g.sc.row;have ht:=C1 g.row;unfold N9 at hx;obtain⟨c1,c2,c3,c4,c5,rfl⟩:=fc5 g.fx;unfold tnR Ae at ht;obtain⟨a,ha⟩:=yj (g.sl 3 om);rw[ha]at ht;have l1:=g.btl;have l2:=g.bxg;have l3:=g.ext.n;have l4:=g.sc.lt;have ez:decide ((T'.H2.length:Int)=0)=decide (T'.H2.length=0):=by rw[z7z];simp
  have O:decide ((T'.H2.length:Int)<12)=decide (T'.H2.length<12):=by rw[z7z];simp;omega
  generalize hw:E8 A7 k'=w at *;cases hz:decide (T'.H2.length=0)
  case' true=>
   have U:True:=trivial;refine gS1 (aI d (aI hx (aI ht (aI ez hz)))) ?_;rw[z1z (by first|rfl|(rw[U];rfl))];refine(Y9 g.sc b).mono ?_;rintro r ⟨K,rfl,H⟩;have y:=g.N6 H
  case' false=>
   refine gS1 (aI d (aI hx (aI ht (aI ez hz)))) ?_;refine(Y9 g.sc b).mono ?_;rintro r ⟨Z1,rfl,a0⟩;have Y:=g.N6 a0;cases U:decide (w.1=[])
   case true=>
     refine gS1 (aI d (aI U @BS)) ?_;rw[z0z (by simp)];exact⟨_,_,_,_,_,rfl,Y⟩
   refine gS1 (aI d U) ?_;rw[z1z (by first|rfl|(rw[U];rfl))];refine(Y9 Y.sc b).mono ?_;rintro r ⟨K,rfl,H⟩;have y:=Y.N6 H
  all_goals
   have A:=C1 y.sc.row;have q:=C1 y.row;unfold N9 at A;unfold tnR Ae at q;rw[ha]at q;have S:decide (w.1=[112,114,105,99,101])=decide (w.1=Fk):=rfl;cases hp:decide (w.1=Fk)
   case' true=>
    refine gS1 (aI d (aI S hp)) ?_;refine(P1 y.sc b).mono ?_;rintro r (⟨o,rfl⟩|⟨o,-⟩)
    case inr=>cases o
    rw[z1z (by rfl)];refine gS1 (aI d (aI A q)) ?_;have J:HL K (.slice a T'.H2.length T'.H2.length) T'.H2:=by rw[<- ha];exact OL.sl (y.sl 3 om)
    refine(DB J om).mono ?_;rintro r rfl;refine gS1 d ?_;refine(P1 y.sc b).mono ?_;rintro r (⟨l,rfl⟩|⟨l,W,rfl,c⟩)
    case inr=>
     refine gS ?_;refine T3.intro kR ?_;refine dW1 (aI @P0 (aI @T5 (aI @T6 (aI @N5 (aI @o6 (aI (Bz (Ext.refl K)) (Bz c))))))) ?_;refine gS ?_;rw[z1z (by simpa using l)];exact⟨_,_,rfl,(y.N6 c).ext⟩
    rw[z0z (by simpa using l)];refine gS1 (aI d (aI A q)) ?_;refine dW1 (aI @P0 (aI @T5 (aI @T6 (aI @N5 (aI @o6 (Bz (Ext.refl K))))))) ?_;refine gS1 (aI d (aI A (aI q O))) ?_;refine(P1 y.sc b).mono ?_;rintro r (⟨l,rfl⟩|⟨l,W,rfl,c⟩)
    case inr=>
     refine gS ?_;refine T3.intro kR ?_;refine dW1 (aI @P0 (aI @T5 (aI @T6 (aI @N5 (aI @o6 (aI (Bz (Ext.refl K)) (Bz c))))))) ?_;refine gS ?_;rw[z0z (z9z l)];exact⟨_,_,rfl,(y.N6 c).ext⟩
    rw[z1z (z6z l)];refine gS1 (aI d (aI A q)) ?_;refine dW1 (aI @P0 (aI @T5 (aI @T6 (aI @N5 (aI @o6 (Bz (Ext.refl K))))))) ?_;refine gS1 (aI d (aI A q)) ?_;refine(BV y.sc b).mono ?_;rintro r ⟨M,rfl,D,q6⟩;have E:=y.step D q6 (I6 k' _ b (by rw[z6z hp];decide));refine gU1 (aI @A6 (aI @P2 (aI @R5 (aI @R6 (aI @R1 (aI @K6 (aI @P5 (aI @K4 (aI @K5 (aI @H5 d)))))))))) ?_;have z:=E.N6 (Ext.new (t:=none) M [str w.1]);have m:=z.sl 3 om;have N:=z.dx 3 om;rw[ha]at m N;refine J6 (lo:=ZL.n) (D0:=T'.H2.map fun s=>[str s]) (row:=[str w.1]) (fun _ _ _ _=>R2) m (G6 nL nL) (G3 (by simp) (by simp)) (by rw[z2z];omega) (by have:=z.ext.n;simp at this ⊢;omega) ?_;intro v9 X Q g2 g3;have a3:bt<M.n:=z5z E.btl E.ext.n;have V:X.B8 bt=some (tnR T' v' [c1,c2,c3,c4,c5]):=by
     rw[B9 (g2.same bt (by simp;omega) fun e=>by have:=(m.blk e).1;omega)];exact z.row
    obtain⟨a',rfl⟩:=OL.shape Q;have R:=z.app (T':={ T' with H2:=T'.H2++[w.1] }) (vs':=vs') (i:=3) om (by rw[ha];exact g2) (by show OL _ _ 1 _ (List.map _ _);rw[Ah];exact Q) (by intro j hj I;match j,hj,I with|0,_,_=>rfl|1,_,_=>rfl|2,_,_=>rfl|4,_,_=>rfl) rfl z.iv;unfold tnR Ae at V;refine gS1 V ?_;refine dW1 (aI @P0 (aI @T5 (aI @T6 (aI @N5 (aI @o6 (aI (dM D) (aI (Ir y E) (Fy g2 N)))))))) ?_
   case' false=>
    refine gS1 (aI d (aI S hp)) ?_;refine(UZ om).mono ?_;rintro r ⟨L,rfl,a1⟩;have C:=y.N6 a1;refine gS ?_;refine(P1 C.sc b).mono ?_;rintro r (⟨o,rfl⟩|⟨o,Z4,rfl,a2⟩)
    case inr=>
     refine gS ?_;refine T3.intro kR ?_;refine gS ?_;rw[z0z (by rw[o];simp)];exact⟨_,_,rfl,(C.N6 a2).ext⟩
    rw[z1z (by rw[o];rfl)];have B:=C1 C.sc.row;have u:=C1 C.row;unfold N9 at B;unfold tnR Ae at u;rw[ha]at u;refine gS1 (aI d (aI B u)) ?_;have J:HL L (.slice a T'.H2.length T'.H2.length) T'.H2:=by rw[<- ha];exact OL.sl (C.sl 3 om)
    refine(DB J om).mono ?_;rintro r rfl;refine gS1 d ?_;refine(P1 C.sc b).mono ?_;rintro r (⟨l,rfl⟩|⟨l,W,rfl,c⟩)
    case inr=>
     refine gS ?_;refine T3.intro kR ?_;refine dW1 (aI @P0 (aI @T5 (aI @T6 (aI @N5 (aI @o6 (aI (Bz (Ext.refl L)) (Bz c))))))) ?_;refine gS ?_;rw[z1z (by simpa using l)];exact⟨_,_,rfl,(C.N6 c).ext⟩
    rw[z0z (by simpa using l)];refine gS1 (aI d (aI B u)) ?_;refine dW1 (aI @P0 (aI @T5 (aI @T6 (aI @N5 (aI @o6 (Bz (Ext.refl L))))))) ?_;refine gS1 (aI d (aI B (aI u O))) ?_;refine(P1 C.sc b).mono ?_;rintro r (⟨l,rfl⟩|⟨l,W,rfl,c⟩)
    case inr=>
     refine gS ?_;refine T3.intro kR ?_;refine dW1 (aI @P0 (aI @T5 (aI @T6 (aI @N5 (aI @o6 (aI (Bz (Ext.refl L)) (Bz c))))))) ?_;refine gS ?_;rw[z0z (z9z l)];exact⟨_,_,rfl,(C.N6 c).ext⟩
    rw[z1z (z6z l)];refine gS1 (aI d (aI B u)) ?_;refine dW1 (aI @P0 (aI @T5 (aI @T6 (aI @N5 (aI @o6 (Bz (Ext.refl L))))))) ?_;refine gS1 (aI d (aI B u)) ?_;refine(BV C.sc b).mono ?_;rintro r ⟨M,rfl,D,q6⟩;have E:=C.step D q6 (I6 k' _ b (Rf o));refine gU1 (aI @A6 (aI @P2 (aI @R5 (aI @R6 (aI @R1 (aI @K6 (aI @P5 (aI @K4 (aI @K5 (aI @H5 d)))))))))) ?_;have z:=E.N6 (Ext.new (t:=none) M [str w.1]);have m:=z.sl 3 om;have N:=z.dx 3 om;rw[ha]at m N;refine J6 (lo:=ZL.n) (D0:=T'.H2.map fun s=>[str s]) (row:=[str w.1]) (fun _ _ _ _=>R2) m (G6 nL nL) (G3 (by simp) (by simp)) (by rw[z2z];omega) (by have:=z.ext.n;simp at this ⊢;omega) ?_;intro v9 X Q g2 g3;have a3:bt<M.n:=z5z E.btl E.ext.n;have V:X.B8 bt=some (tnR T' v' [c1,c2,c3,c4,c5]):=by
     rw[B9 (g2.same bt (by simp;omega) fun e=>by have:=(m.blk e).1;omega)];exact z.row
    obtain⟨a',rfl⟩:=OL.shape Q;have R:=z.app (T':={ T' with H2:=T'.H2++[w.1] }) (vs':=vs') (i:=3) om (by rw[ha];exact g2) (by show OL _ _ 1 _ (List.map _ _);rw[Ah];exact Q) (by intro j hj I;match j,hj,I with|0,_,_=>rfl|1,_,_=>rfl|2,_,_=>rfl|4,_,_=>rfl) rfl z.iv;unfold tnR Ae at V;refine gS1 V ?_;refine dW1 (aI @P0 (aI @T5 (aI @T6 (aI @N5 (aI @o6 (aI (dM D) (aI (Ir C E) (Fy g2 N)))))))) ?_
   all_goals
    refine gS1 @R8 ?_;refine⟨f,om,_,k'+1,_,_,_,om,fR1 d,R,rfl,?_⟩;rw[W4];have:=z6z l;simp;omega
 ·intro r;cases hR:LS A7 T k with
  | error pe=>
    obtain⟨p,e⟩:=pe;rintro⟨fr,Z',rfl,hE⟩;refine gS ?_;exact⟨_,rfl,hE⟩
  | ok ak=>
    obtain⟨T',k'⟩:=ak;rintro⟨fr,Z',v',G,vs',rfl,g⟩;refine gS1 @Tryz.results123 ?_;exact⟨_,_,_,_,rfl,g⟩
end
section
variable {l:List Int}{s:Int}
section
variable {Z:St}
def Ju (l:List Int) (s:Int):Nat->Bool
 |0=>false
 |k+1=>Ju l s k||decide (l[k]? =some s)
def dh (l:List Int) (s:Int) (k:Nat):Ju l s k=true↔∃ i,i<k/\l[i]? =some s:=by
 induction k with
 |zero=>simp[Ju]
 | succ k ih=>
   simp only[Ju,II,ih,z3z];constructor
   ·rintro(⟨i,b,a⟩|h)
    ·exact⟨i,om,a⟩
    ·exact⟨k,om,h⟩
   ·rintro⟨i,b,a⟩;by_cases e:i=k
    ·subst e;exact .inr a
    ·exact .inl ⟨i,om,a⟩
def PL (l:List Int) (s:Int):Ju l s l.length=l.contains s:=by
 rw[z7z,dh,nM,eZ];constructor
 ·rintro⟨i,-,h⟩;exact⟨i,h⟩
 ·rintro⟨i,h⟩;obtain⟨a,_⟩:=List.getElem?_eq_some_iff.1 h;exact⟨i,a,h⟩
def di {v:Value}(z:GG Z v l) (C:l.length<=4294967296):
  Ev (gO 198 [v,.int .i64 s] Z) (fun r=>∃ n:Int,r=⟨false,.int .i64 n,Z⟩/\(0<=n↔l.contains s=true)/\ -1<=n/\n<4294967297) ⟨⟩:=by
 obtain⟨a,c,b,off,cells,rfl,u,p⟩:=SL.use z;rw[z2z]at *;refine G1 Tryz.func198 rfl rfl ?_;refine gS ?_
 refine BE (fun j fr Z'=>∃ k,j=l.length-k/\k<=l.length/\fr.get 0=some (.slice a l.length c)/\fr.get 1=some (.int .i64 s)/\fr.get 7=some (.int .i64 l.length)/\fr.get 8=some (.int .i64 k)/\Z'=Z/\Ju l s k=false)
  (fun r=>(∃ fr,r=⟨.exit 0,fr,Z⟩/\Ju l s l.length=false)\/(∃ fr k,r=⟨.ret,fr,Z⟩/\fr.get 4=some (.int .i64 (k:Nat))/\k<l.length/\l.contains s=true)) l.length ?_ ?_ ?_
 ·refine⟨0,rfl,om,?_,?_,?_,?_,rfl,rfl⟩
  all_goals exact fR
 ·rintro j fr Z' ⟨k,rfl,y,f,g,i,o,rfl,e⟩;by_cases q:k<l.length
  ·obtain⟨sp,rfl,B,A⟩:=u om;obtain⟨x,hx⟩:∃ x,l[k]? =some x:=⟨_,List.getElem?_eq_getElem q⟩
   have p:=p k _ (by rw[List.getElem?_map,hx];rfl);rw[Fh]at p;have d:decide (k<l.length)=true:=by simpa using q
   refine gS1 (aI f (aI g (aI i (aI o (aI @IY (aI d (aI A (aI @Fh p)))))))) ?_;refine Br.intro (fun m=>?_) (fun m=>?_)
   ·obtain rfl:s=x:=by simpa using m
    refine gS1 (aI f (aI g (aI i (aI o @VF)))) ?_;refine .inr ⟨_,k,rfl,fR,q,?_⟩;rw[nM];exact y6 hx
   ·have m:s≠x:=by simpa using m
    refine gS1 (aI f (aI g (aI i (aI o (aI @JY @R8))))) ?_;refine⟨l.length-(k+1),om,k+1,rfl,om,fR1 f,fR1 g,fR1 i,fR,by trivial,?_⟩;show(Ju l s k||decide (l[k]? =some s))=false;rw[e,hx]
    simpa using fun h=>m h.symm
  ·have d:decide (k<l.length)=false:=by simpa using q
   obtain rfl:k=l.length:=om;refine gS1 (aI f (aI g (aI i (aI o (aI @IY (aI d @BS)))))) ?_;exact .inl ⟨_,rfl,e⟩
 ·rintro r (⟨fr,rfl,e⟩|⟨fr,k,rfl,g4,y,e⟩)
  ·refine gS1 @Tryz.results198 ?_;refine⟨-1,rfl,?_,om,om⟩;rw[<- PL,e];simp
  ·refine gS1 (aI @Tryz.results198 g4) ?_;exact⟨k,rfl,by rw[e];simp,om,om⟩
def TE {v:Value}(e:GG Z v l) (h:l.length<=4294967296):
  Ev (gO 166 [v,.int .i64 s] Z) (fun r=>r=⟨false,.bool (l.contains s),Z⟩) ⟨⟩:=by
 have d:=e;obtain⟨a,c,b,off,cells,rfl,i,j⟩:=SL.use e;rw[z2z]at *;refine G1 Tryz.func166 rfl rfl ?_;refine gS ?_;refine(di d h).mono ?_;rintro r ⟨n,rfl,f,m,o⟩;have g:(!decide (n<0))=l.contains s:=by
  rw[z7z,<- f];simp
 refine gS1 (aI @Tryz.results166 g) ?_;try exact⟨⟩
end
def Dn (A7:List Tok):Nat->List Int->Nat->Except Er (List Int×Nat)
 |0,l,k=> .ok (l,k)
 | f+1,l,k=>if (decide (l.length<2)|| !decide ((E8 A7 k).1=[]))=true then
    V6 (rdNum A7 1 (fun n=> !(l.contains n)) k) fun(n,k1)=>if l.length=12 then .error ((E8 A7 k).2,2)else Dn A7 f (l++[(n:Int)]) k1
   else .ok (l,k)
def Gz {A7:List Tok}{f:Nat}{k:Nat}:Dn A7 (f+1) l k=(if (decide (l.length<2)|| !decide ((E8 A7 k).1=[]))=true then
   V6 (rdNum A7 1 (fun n=> !(l.contains n)) k) fun(n,k1)=>if l.length=12 then .error ((E8 A7 k).2,2)else Dn A7 f (l++[(n:Int)]) k1
  else .ok (l,k)):=rfl
def Eu (A7:List Tok) (T:Tn) (k:Nat):Except Er (Tn×Nat):=V6 (Dn A7 (A7.length-k) [] k) fun(l,k)=> .ok ({ T with C8:=T.C8++[l] },k)
def th {d:Type}{A7:List Tok}{k c:Nat}{R:Except Int d}{a:d}(h:rd1 A7 k R= .ok (a,c)):c=k+1:=by
 cases R with
 |ok b=>cases h;rfl
 |error e=>cases h
section
variable {Z ZL:St}{bt bx:Nat}{T:Tn}{tv:Value}{A7:List Tok}{k:Nat}{tx:By}{from':Nat}{v:Nat->Value}{fc vs:List Value}
def Zr {n:Nat}{c:Nat}{w:Value}(e:Z.row c=some [w]) (d:GG Z w l) (i:l.length<=100):
  Ev (gO 165 [.int .i64 (n:Nat),.pointer (some ⟨c,0,none⟩)] Z) (fun r=>∃ Z2,r=⟨false,.bool (!(l.contains (n:Int))),Z2⟩/\Ext Z Z2) ⟨⟩:=by
 obtain⟨a,f,b,off,cells,rfl,g,h⟩:=SL.use d;rw[z2z]at *;refine G1 Tryz.func165 rfl rfl ?_;refine gS1 e ?_;refine(TE d om).mono ?_;rintro r rfl;refine gS1 @Tryz.results165 ?_;exact⟨_,rfl,.refl _⟩
def ti (h:Ln ZL Z bt bx T tv A7 k (N9 tx from' bt) v fc vs) (I6:Ends A7) (a3:En A7) (a5:vs.length<=100000):
  Ev (gO 125 [.pointer (some ⟨bx,0,none⟩)] Z) (LnP ZL bt bx tv A7 (N9 tx from' bt) (Eu A7 T k)) ⟨⟩:=by
 have m1:=h.btl;have m2:=h.bxg;have m3:=h.ext.n;have m4:=h.sc.lt;refine G1 Tryz.func125 rfl rfl ?_;refine gS ?_
 refine BE (fun j fr Z'=>∃ l k' w,j=A7.length-k'/\fr.get 0=some (.pointer (some ⟨bx,0,none⟩))/\fr.get 2=some (.pointer (some ⟨Z.n,0,none⟩))/\G5 bx Z Z'/\Z'.B8 bx=some (tv:: .int .i64 (k':Nat)::N9 tx from' bt)/\k'<A7.length /\
   Z.n<Z'.n/\Z'.B8 Z.n=some [w]/\OL (Z.n+1) Z' 1 w (l.map fun n=>[.int .i64 n])/\Dn A7 j l k'=Dn A7 (A7.length-k) [] k/\l.length<=12)
  (fun r=>match Dn A7 (A7.length-k) [] k with
    | .ok (l,k')=>∃ fr Z' w,r=⟨.exit 0,fr,Z'⟩/\fr.get 0=some (.pointer (some ⟨bx,0,none⟩))/\fr.get 2=some (.pointer (some ⟨Z.n,0,none⟩))/\G5 bx Z Z'/\Z'.B8 bx=some (tv:: .int .i64 (k':Nat)::N9 tx from' bt)/\k'<A7.length /\
       Z.n<Z'.n/\Z'.B8 Z.n=some [w]/\OL (Z.n+1) Z' 1 w (l.map fun n=>[.int .i64 n])
    | .error (p,e)=>∃ fr Z',r=⟨.pan (fault p e),fr,Z'⟩/\G5 bt ZL Z') (A7.length-k) ?_ ?_ ?_
 ·exact⟨[],k,.slice none 0 0,rfl,fR,fR,eXX,cL1 @h.sc.row,h.sc.k,by simp,cL,OL.nil,rfl,by simp⟩
 ·rintro j fr Z' ⟨l,k',w,rfl,c,g2,D,F,M,hc,O,g,hT,hl⟩;rw[<- hT];clear hT;obtain⟨f,hf⟩:∃ f,A7.length-k'=f+1:=⟨A7.length-k'-1,om⟩
  rw[hf,Gz];have S:=h.step D F M;have G:=R9 M;have C:=C1 O;obtain⟨a,rfl⟩:=OL.shape g;rw[z2z]at *;have ez:decide ((l.length:Int)<2)=decide (l.length<2):=by rw[z7z];simp;omega
  have K:decide ((l.length:Int)=12)=decide (l.length=12):=by rw[z7z];simp;omega
  cases hz:decide (l.length<2)
  case' true=>
   have u:True:=trivial;refine gS1 (aI c (aI g2 (aI C (aI ez hz)))) ?_;rw[z1z (by first|rfl|(rw[u];rfl))];refine(Y9 S.sc G).mono ?_;rintro r ⟨Z2,rfl,b⟩;have A:=S.N6 b;have QM:G5 bx Z Z2:=D.trans (.of b);have o2:Z2.B8 Z.n=some [.slice a l.length l.length]:=by rw[B9 (b.same _ om)];exact O
   have H:OL (Z.n+1) Z2 1 (.slice a l.length l.length) (l.map fun n=>[.int .i64 n]):=OL.ext g b
  case' false=>
   refine gS1 (aI c (aI g2 (aI C (aI ez hz)))) ?_;refine(Y9 S.sc G).mono ?_;rintro r ⟨Z1,rfl,o⟩;have W:=S.N6 o;have Nz:G5 bx Z Z1:=D.trans (.of o);have o1:Z1.B8 Z.n=some [.slice a l.length l.length]:=by rw[B9 (o.same _ om)];exact O
   have R:=OL.ext g o;have a7:=o.n;cases u:decide ((E8 A7 k').1=[])
   case true=>
     refine gS1 (aI c (aI g2 (aI u @BS))) ?_;rw[z0z (by simp)];exact⟨_,_,_,rfl,fR1 c,fR1 g2,Nz,W.sc.row,M,om,o1,R⟩
   refine gS1 (aI c (aI g2 u)) ?_;rw[z1z (by first|rfl|(rw[u];rfl))];refine(Y9 W.sc G).mono ?_;rintro r ⟨Z2,rfl,b⟩;have A:=W.N6 b;have QM:G5 bx Z Z2:=Nz.trans (.of b);have o2:Z2.B8 Z.n=some [.slice a l.length l.length]:=by rw[B9 (b.same _ om)];exact o1
   have H:OL (Z.n+1) Z2 1 (.slice a l.length l.length) (l.map fun n=>[.int .i64 n]):=OL.ext R b
  all_goals
   have a8:=b.n;refine gS1 (aI c g2) ?_;refine(iA (fs:=[]) (cs:=[.pointer (some ⟨Z.n,0,none⟩)]) (nw:=fun n=> !(l.contains n)) A.sc I6 a3 fun Z' n L _=>?_).mono ?_
   ·refine Zr (w:= .slice a l.length l.length) ?_ (OL.sl (OL.ext H L)) om;rw[L.row om];exact C1 o2
   intro r;cases hR:rdNum A7 1 (fun n=> !(l.contains n)) k' with
   | error pe=>
     obtain⟨p,e⟩:=pe;rintro⟨V,rfl,d⟩;refine gS1 (aI c g2) ?_;rw[I8];exact⟨_,_,rfl,(A.N6 d).ext⟩
   | ok ak=>
     obtain⟨n,k1⟩:=ak;rintro⟨V,rfl,d,q3,N⟩;rw[F0]
     try dsimp only
     have a6:=th hR;have tj:=QM.trans d;have o3:=eT (d.B8 om om) o2;have a4:OL (Z.n+1) V 1 (.slice a l.length l.length) (l.map fun n=>[.int .i64 n]):=OL.W7 H d om;have Q:=C1 o3;have a9:=d.n;unfold Nt;cases m:decide (l.length=12)with
     | true=>
       rw[z1z (z6z m)];refine gS1 (aI c (aI g2 (aI Q (aI K m)))) ?_;exact⟨_,_,rfl,(h.step tj q3 N).ext⟩
     | false=>
       rw[z0z (z9z m)];refine gU1 (aI @A6 (aI @R5 (aI @R6 (aI @R1 (aI @K6 (aI @R2 (aI @P5 (aI @K4 (aI @K5 (aI @H5 (aI c (aI g2 (aI Q (aI K m)))))))))))))) ?_;have y:=OL.ext a4 (Ext.new (t:=none) V [.int .i64 n]);refine J6 (lo:=Z.n+1) (D0:=l.map fun n=>[.int .i64 n]) (row:=[.int .i64 n]) (fun _ _ _ _=>P2) (by first|exact y|(rw[z2z];exact y)) (G6 nL nL) (G3 (by simp) (by simp)) (by rw[z2z];omega) (by simp;omega) ?_;intro w9 Z9 J E d3;have U:Z9.B8 Z.n=some [.slice a l.length l.length]:=by
        rw[B9 (E.same _ (by simp;omega) fun e=>by have:=(y.blk e).1;omega)];exact cL1 o3
       have Y:G5 bx Z Z9:=G5.app E (tj.Sk _) y om;have q9:Z9.B8 bx=some (tv:: .int .i64 (k1:Nat)::N9 tx from' bt):=by
        rw[B9 (E.same bx (by simp;omega) fun e=>by have:=(y.blk e).1;omega)];exact cL1 q3
       obtain⟨a',rfl⟩:=OL.shape J;have a1:=E.n;simp at a1;refine gS1 (aI c (aI g2 (aI U @R8))) ?_;refine⟨f,om,l++[(n:Int)],k1,_,om,fR1 c,fR1 g2,Y.De om _,cL1 q9,N,by(try simp);omega,(by first|rfl|exact G8),?_,rfl,?_⟩
       ·rw[Ah];exact OL.Ip J om
       ·rw[W4];have:=z9z m;simp;omega
 ·intro r;unfold Eu;cases hR:Dn A7 (A7.length-k) [] k with
  | error pe=>
    obtain⟨p,e⟩:=pe;rintro⟨fr,Z',rfl,D⟩;refine gS ?_;rw[I8];exact⟨_,rfl,D⟩
  | ok ak=>
    obtain⟨l,k1⟩:=ak;rintro⟨fr,Z',w,rfl,c,g2,D,F,M,hc,O,g⟩;rw[F0];have A:=h.step D F M;have hx:=C1 A.sc.row;have ht:=C1 A.row;have C:=C1 O;unfold N9 at hx;obtain⟨c1,c2,c3,c4,c5,rfl⟩:=fc5 A.fx;unfold tnR Ae at ht;obtain⟨a,ha⟩:=OL.shape (A.sl 4 om);rw[show(Cg T vs 4).length=vs.length from z2z ..]at ha;rw[ha]at ht;obtain⟨aw,rfl⟩:=OL.shape g;refine gU1 (aI @A6 (aI @P2 (aI @R5 (aI @R6 (aI @R1 (aI @K6 (aI @R2 (aI @K4 (aI @K5 (aI @H5 (aI c (aI g2 (aI hx (aI ht C)))))))))))))) ?_;rw[z2z]at *;have I:=A.N6 (Ext.new (t:=none) Z' [.slice aw l.length l.length]);have B:=I.sl 4 om;have J:=I.dx 4 om;have E:K3 (v 4)≠some Z.n:=fun e=>by have:=((h.sl 4 om).blk e).2;omega
    rw[ha]at B J E;refine J6 (lo:=ZL.n) (D0:=vs.map fun x=>[x]) (row:=[.slice aw l.length l.length]) (fun _ _ _ _=>P5) (by first|exact B|(rw[z2z];exact B)) (G6 nL nL) (G3 (by simp) (by simp)) (by rw[z2z];omega) (by have:=I.ext.n;simp at this ⊢;omega) ?_;intro v9 Z9 g1 z g3;have hn:=D.n;have U:Z9.B8 bt=some (tnR T v [c1,c2,c3,c4,c5]):=by
     rw[B9 (z.same bt (by simp;omega) fun e=>by have:=(B.blk e).1;omega)];exact I.row
    obtain⟨a',rfl⟩:=OL.shape g1;have a0:GG (J0 (Z'.new [.slice aw l.length l.length] none) (held bt bx v)) (.slice aw l.length l.length) l:=by
     refine(OL.J0 (OL.ext g (Ext.new (t:=none) Z' [.slice aw l.length l.length])) fun q F=>?_).sl;rcases Cm.1 F with e|e|⟨i,hi,e⟩|e
     ·omega
     ·omega
     ·have:=((h.sl i hi).blk e).2;omega
     ·omega
    have X:=I.app (T':={ T with C8:=T.C8++[l] }) (vs':=vs++[.slice aw l.length l.length]) (i:=4) om (by rw[ha];exact z) (by show OL _ _ 1 _ (List.map _ _);rw[Ah];exact g1) (by intro j hj a2;match j,hj,a2 with|0,_,_=>rfl|1,_,_=>rfl|2,_,_=>rfl|3,_,_=>rfl|4,_,F=>exact absurd rfl F) rfl (EK.app a0 I.iv);unfold tnR Ae at U;refine gS1 U ?_;refine dW1 (aI @P0 (aI @T5 (aI @T6 (aI @N5 (aI @o6 (aI (Fy z J) (Fy z E))))))) ?_;refine gS1 @Tryz.results125 ?_;exact⟨_,_,_,_,rfl,X⟩
end
end
section
variable {Z ZL:St}{bt bx:Nat}{T:Tn}{tv:Value}{A7:List Tok}{k:Nat}{tx:By}{from':Nat}{v:Nat->Value}{fc vs:List Value}
def Gy (i:Nat) (T:Tn) (n:Int):Tn:=match i with
 |0=>{ T with t:={ T.t with q:=n } }
 |1=>{ T with t:={ T.t with b:=n } }
 |2=>{ T with t:={ T.t with g:=n } }
 |3=>{ T with t:={ T.t with p:=n } }
 |_=>{ T with t:={ T.t with s:=n } }
def IL (A7:List Tok):Nat->Tn->Nat->Except Er (Tn×Nat)
 |0,T,k=> .ok (T,k)
 |f+1,T,k=>V6 (W3 A7 k) fun(n,k)=>IL A7 f (Gy (4-f) T n) k
def Ak {A7:List Tok}{f:Nat}{T:Tn}{k:Nat}:IL A7 (f+1) T k=V6 (W3 A7 k) fun(n,k)=>IL A7 f (Gy (4-f) T n) k:=rfl
def Dp (A7:List Tok) (T:Tn) (k:Nat):Except Er (Tn×Nat):=IL A7 5 T k
def ri (h:Ln ZL Z bt bx T tv A7 k (N9 tx from' bt) v fc vs) (H:Ends A7) (C:En A7) :
  Ev (gO 128 [.pointer (some ⟨bx,0,none⟩)] Z) (LnP ZL bt bx tv A7 (N9 tx from' bt) (Dp A7 T k)) ⟨⟩:=by
 have U:=h.btl;have V:=h.bxg;have W:=h.ext.n;have X:=h.sc.lt;have G:=C1 h.sc.row;unfold N9 at G;refine G1 Tryz.func128 rfl rfl ?_;refine gS1 G ?_
 refine I9 5 (fun i fr Z'=>∃ T' k' v' d vs',fr.get 0=some (.pointer (some ⟨bx,0,none⟩))/\fr.get 26=some (.slice (some ⟨Z.n,0,none⟩) 5 5)/\fr.get 27=some (.int .i64 5)/\fr.get 28=some (.int .i64 (i:Nat))/\Z.n<Z'.n /\
   Z'.row Z.n=some [.pointer (some ⟨bt,15,none⟩),.pointer (some ⟨bt,16,none⟩),.pointer (some ⟨bt,17,none⟩),.pointer (some ⟨bt,18,none⟩),.pointer (some ⟨bt,19,none⟩)] /\
   Ln ZL Z' bt bx T' tv A7 k' (N9 tx from' bt) v' d vs'/\IL A7 (5-i) T' k'=Dp A7 T k)
  (fun r=>match Dp A7 T k with
    | .ok (T',k')=>∃ fr Z' v fc vs,r=⟨.exit 0,fr,Z'⟩/\Ln ZL Z' bt bx T' tv A7 k' (N9 tx from' bt) v fc vs
    | .error (p,e)=>∃ fr Z',r=⟨.pan (fault p e),fr,Z'⟩/\G5 bt ZL Z') ?_ ?_ ?_ ?_
 ·exact⟨T,k,v,fc,vs,fR,fR,fR,fR,by simp,cL,h.N6 (.new _ _),rfl⟩
 ·rintro i fr Z' hi ⟨T',k',v',d,vs',l,a,b,g,F,A,j,m⟩;rw[<- m];clear m;have Q:=R9 j.sc.k;have q:decide ((i:Int)<5)=true:=by rw[z3z];omega
  have s:decide (i<5)=true:=by rw[z3z];omega
  have I:(i:Int)+1=((i+1:Nat):Int):=om;have O:sub [.pointer (some ⟨bt,15,none⟩),.pointer (some ⟨bt,16,none⟩),.pointer (some ⟨bt,17,none⟩),.pointer (some ⟨bt,18,none⟩),.pointer (some ⟨bt,19,none⟩)] i 1=some [Value.pointer (some ⟨bt,15+i,none⟩)]:=by
   obtain rfl|rfl|rfl|rfl|rfl:i=0\/i=1\/i=2\/i=3\/i=4:=om
   all_goals rfl
  obtain⟨f,L⟩:∃ f,5-i=f+1:=⟨4-i,om⟩
  rw[L,Ak];have M:Nat.blt i 5=true:=by rw[EJ];exact hi
  refine gS1 (aI l (aI a (aI b (aI g (aI A (aI O (aI q (aI s @Fh)))))))) ?_;refine(Gk j.sc H C).mono ?_;intro r;cases K:W3 A7 k' with
  | error pe=>
    obtain⟨p,e⟩:=pe;rintro⟨E,rfl,c⟩;refine gS ?_;rw[I8];exact⟨_,_,rfl,(j.N6 c).ext⟩
  | ok ak=>
    obtain⟨n,R⟩:=ak;rintro⟨E,rfl,c,q3,z⟩;rw[F0]
    try dsimp only
    have u:=j.step c q3 z;have B:E.row Z.n=_:=(c.row F om).trans A;have N:=c.n;obtain⟨c1,c2,c3,c4,o,rfl⟩:=fc5 u.fx;have S:=u.row;have D:M5 (tnR T' v' [c1,c2,c3,c4,o]) (15+i) [.int .i64 (n:Nat)]=some (tnR (Gy i T' n) v' [c1,c2,c3,c4,o]):=by
     obtain rfl|rfl|rfl|rfl|rfl:i=0\/i=1\/i=2\/i=3\/i=4:=om
     all_goals rfl
    unfold Nt;refine gS1 (aI S (aI D (aI l (aI a (aI b (aI g I)))))) ?_;have y:4-f=i:=om;refine⟨Gy i T' n,R,v',[c1,c2,c3,c4,o],vs',fR1 l,fR1 a,fR1 b,fR,by(try simp);omega,cL1 B,?_,?_⟩
    ·refine u.put (Gy i T' n) ?_ ?_ ?_
     all_goals (obtain rfl|rfl|rfl|rfl|rfl:i=0\/i=1\/i=2\/i=3\/i=4:=om)
     all_goals rfl
    ·rw[y,show 5-(i+1)=f by omega]
 ·rintro fr Z' ⟨T',k',v',d,vs',l,a,b,g,F,A,j,m⟩;rw[<- m];clear m;have q:decide (((5:Nat):Int)<5)=false:=rfl;refine gS1 (aI l (aI a (aI b (aI g (aI q @BS))))) ?_;exact⟨_,_,_,_,_,rfl,j⟩
 ·intro r;cases K:Dp A7 T k with
  | error pe=>
    obtain⟨p,e⟩:=pe;rintro⟨fr,Z',rfl,J⟩;refine gS ?_;exact⟨_,rfl,J⟩
  | ok ak=>
    obtain⟨T',k'⟩:=ak;rintro⟨fr,Z',v',d,vs',rfl,j⟩;refine gS1 @Tryz.results128 ?_;exact⟨_,_,_,_,rfl,j⟩
end
end Go.Proofs.T
