/- The R7 that Good makes, by Fl form; Fl values fit, and lie in Fl DP. -/
import Derived.Test.YtgjocfjdecjhoaaGreatDoorITX
import Derived.Test.YtgjocfjdecjhoaaGreatDoorICD
set_option linter.unusedSimpArgs false
set_option linter.unusedVariables false
set_option linter.defProp false
set_option maxHeartbeats 32000000
set_option maxRecDepth 100000
namespace Go.Proofs.T
open Go Go.Ab Go.N9
section
variable {e:Ex}{D k:Nat}{s:By}{U:Tn}{N n d:Int}
def Ad9 (j:0<D):(low N D).1.natAbs<=N.natAbs/\(low N D).2<=D/\(0<N->0<(low N D).1)/\(0<=N->0<=(low N D).1):=by
 obtain⟨i,f⟩:=NU (N:=N) j;have p:=i.1;have g:Nat.gcd N.natAbs D∣N.natAbs:=Nat.gcd_dvd_left _ _;have l:(0:Int)<=(D:Int):=om;refine⟨?_,KD _ _,fun h=>?_,fun h=>?_⟩
 ·show(N / (Nat.gcd N.natAbs D:Nat)).natAbs<=_;rw[HE g];exact KD _ _
 ·have k:0<N*((low N D).2:Int):=Int.mul_pos h om;rw[<- f]at k;exact Decidable.byContradiction fun c=>by
   have:=Int.mul_nonpos_of_nonneg_of_nonpos l (show(low N D).1<=0 by omega);rw[Int.mul_comm]at this;omega
 ·have k:0<=N*((low N D).2:Int):=Int.mul_nonneg h om;rw[<- f]at k;refine Decidable.byContradiction fun c=>?_;have:0<(D:Int)* -(low N D).1:=Int.mul_pos om om;rw[Int.mul_neg,Int.mul_comm]at this;omega
def YG {A B:Nat}(c:0<D) (h:N.natAbs<=A) (i:D<=B) (j:A<=9223372036854775807) (l:B<=9223372036854775807):∃ z,fit (low N D)=some z/\z.n.natAbs<=A/\z.d<=B/\(0<N->0<z.n)/\(0<=N->0<=z.n):=by
 obtain⟨m,o,f,g⟩:=Ad9 (N:=N) c;refine⟨⟨(low N D).1,(low N D).2⟩,?_,by show(low N D).1.natAbs<=A;omega,by show((low N D).2:Int)<=B;omega,f,g⟩;unfold fit;rw[z1z ⟨om,om,om⟩]
def Bq (N D:Nat) (q:Q):Prop:=q.n.natAbs<=N/\q.d<=D
def Bq.le {N f c:Nat}{q:Q}(h:Bq N D q) (g:N<=f) (i:D<=c):Bq f c q:=⟨by have:=h.1;omega,by have:=h.2;omega⟩
def bp {q:Q}(c:q.Ok) (h:q.d<=D):q.d.natAbs<=D/\0<q.d.natAbs:=by have:=c.d1;exact⟨om,om⟩
section
variable {a b:Q}{N1 D1 N2 D2:Nat}
def vN (h:a.Ok) (i:b.Ok) (f:Bq N1 D1 a) (g:Bq N2 D2 b) (m:N1*D2+N2*D1<=9223372036854775807) (l:D1*D2<=9223372036854775807):
  ∃ z,opV [43] a b=some z/\Bq (N1*D2+N2*D1) (D1*D2) z/\(0<a.n->0<=b.n->0<z.n):=by
 obtain⟨c,j⟩:=bp h f.2;obtain⟨b1,b2⟩:=bp i g.2;have u:(a.n*b.d+b.n*a.d).natAbs<=N1*D2+N2*D1:=by
  refine j9 (Int.natAbs_add_le _ _) ?_;rw[Int.natAbs_mul,Int.natAbs_mul];exact Nat.add_le_add (IT f.1 b1) (IT g.1 c)
 obtain⟨z,v,y,A,B,-⟩:=YG (N:=a.n*b.d+b.n*a.d) (Nat.mul_pos j b2) u (IT c b1) m l;refine⟨z,v,⟨y,A⟩,fun p q=>B ?_⟩;have r:=i.d1;have o:=h.d1;have:=Int.mul_pos p (show 0<b.d by omega);have:=Int.mul_nonneg q (show 0<=a.d by omega);omega
def AR0 (l:a.Ok) (m:b.Ok) (f:Bq N1 D1 a) (g:Bq N2 D2 b) (j:N1*D2+N2*D1<=9223372036854775807) (i:D1*D2<=9223372036854775807):
  ∃ z,opV [45] a b=some z/\Bq (N1*D2+N2*D1) (D1*D2) z:=by
 obtain⟨c,h⟩:=bp l f.2;obtain⟨b1,b2⟩:=bp m g.2;have o:(a.n*b.d+ -b.n*a.d).natAbs<=N1*D2+N2*D1:=by
  refine j9 (Int.natAbs_add_le _ _) ?_;rw[Int.natAbs_mul,Int.natAbs_mul,Int.natAbs_neg];exact Nat.add_le_add (IT f.1 b1) (IT g.1 c)
 obtain⟨z,p,q,r,-,-⟩:=YG (N:=a.n*b.d+ -b.n*a.d) (Nat.mul_pos h b2) o (IT c b1) j i;exact⟨z,p,⟨q,r⟩⟩
def vO (l:a.Ok) (m:b.Ok) (c:Bq N1 D1 a) (f:Bq N2 D2 b) (j:N1*N2<=9223372036854775807) (i:D1*D2<=9223372036854775807):
  ∃ z,opV [42] a b=some z/\Bq (N1*N2) (D1*D2) z:=by
 obtain⟨g,h⟩:=bp l c.2;obtain⟨b1,b2⟩:=bp m f.2;have o:(a.n*b.n).natAbs<=N1*N2:=by rw[Int.natAbs_mul];exact IT c.1 f.1
 obtain⟨z,p,q,r,-,-⟩:=YG (N:=a.n*b.n) (Nat.mul_pos h b2) o (IT g b1) j i;exact⟨z,p,⟨q,r⟩⟩
def kC (l:a.Ok) (m:b.Ok) (c:Bq N1 D1 a) (f:Bq N2 D2 b) (p:0<b.n) (j:N1*D2<=9223372036854775807) (i:D1*N2<=9223372036854775807):
  ∃ z,opV [47] a b=some z/\Bq (N1*D2) (D1*N2) z:=by
 obtain⟨g,h⟩:=bp l c.2;obtain⟨b1,b2⟩:=bp m f.2;have o:(a.n*(b.n.sign*b.d)).natAbs<=N1*D2:=by rw[Int.sign_eq_one_of_pos p,Int.one_mul,Int.natAbs_mul];exact IT c.1 b1
 obtain⟨z,q,r,u,-,-⟩:=YG (N:=a.n*(b.n.sign*b.d)) (Nat.mul_pos h (show 0<b.n.natAbs by omega)) o (IT g f.1) j i;refine⟨z,?_,⟨r,u⟩⟩;show Ir a b=some z;unfold Ir;rw[z0z om];exact q
def BJ1 {o:By}{N:Nat}(c:o=Q7\/o=R4) (f:Bq N D a) (g:Bq N D b):∃ z,opV o a b=some z/\Bq N D z:=by
 rcases c with rfl|rfl
 ·exact⟨if AJ a b<0 then a else b,rfl,by split<;>assumption⟩
 ·exact⟨if AJ a b<0 then b else a,rfl,by split<;>assumption⟩
end
def cn:List By:=[[115,112,101,101,100],[99,111,109,102,111,114,116],[119,101,105,103,104,116]]
def kD:∀ s∈cn,AP s=true/\s≠Q7/\s≠R4/\s≠J8/\s≠Bp:=by decide
def CN (T:Tn) (s:By):Prop:=s∈cn/\∃ c∈T.G7,c.name=s
def Wg (n d:Int):Prop:=1<=n/\n<=9/\d∈dds
def wE (n d:Int):Ex:=DS (qn n d) (qd n d)
inductive Su (T:Tn):Ex->Prop
 |k0 {n d:Int} (w:Wg n d):Su T (K4 Hx (wE n d) (K4 Dm (J4 Bp) (J4 J8)))
 |k1 {n d:Int} (w:Wg n d):Su T (K4 Dm (K4 Jj (DS 1 1) (K4 Dm (J4 J8) (K4 FL (J4 J8) (J4 Bp)))) (wE n d))
 |k2 {n d:Int} (w:Wg n d):Su T (wE n d)
 |k3 {n d:Int}{s:By} (w:Wg n d) (h:CN T s):Su T (K4 Hx (wE n d) (J4 s))
 |k5 {n d:Int}{s o:By} (w:Wg n d) (h:CN T s) (ho:o=Q7\/o=R4):Su T (K4 o (J4 s) (wE n d))
 |k6 {s t:By} (h:CN T s) (h':CN T t):Su T (K4 Hx (J4 s) (J4 t))
 |k7 {n d:Int}{s t:By} (w:Wg n d) (h:CN T s) (h':CN T t):Su T (K4 Dm (J4 s) (K4 FL (wE n d) (J4 t)))
inductive Fm (T:Tn):Nat->Ex->Prop
 |one {e:Ex} (h:Su T e):Fm T 0 e
 |sum {k:Nat}{o:By}{e f:Ex} (h:Fm T k e) (hf:Su T f) (ho:o=FL\/o=Jj):Fm T (k+1) (K4 o e f)
def iQ (T:Tn) (e:Ex):Prop:=(∃ k,k<=3/\Fm T k e)\/e=K4 Dm (J4 Bp) (J4 J8)
def CN.congr {T:Tn}(h:T.G7=U.G7)(c:CN T s):CN U s:=⟨c.1,h ▸ c.2⟩
def Su.congr {T:Tn}(h:T.G7=U.G7)(f:Su T e):Su U e:=by
 cases f with
 |k0 w=>exact .k0 w
 |k1 w=>exact .k1 w
 |k2 w=>exact .k2 w
 |k3 w a=>exact .k3 w (a.congr h)
 |k5 w a c=>exact .k5 w (a.congr h) c
 |k6 a b=>exact .k6 (a.congr h) (b.congr h)
 |k7 w a b=>exact .k7 w (a.congr h) (b.congr h)
def Fm.congr {T:Tn}(h:T.G7=U.G7)(c:Fm T k e):Fm U k e:=by
 induction c with
 |one c=>exact .one (c.congr h)
 |sum _ f g i=>exact .sum i (f.congr h) g
def gD (w:Wg n d):Jk (qn n d) (qd n d):=by
 obtain⟨f,g,c⟩:=w;obtain⟨k,rfl⟩:∃ k:Nat,n=k:=⟨n.toNat,om⟩
 refine(cu (n:=k) (d:=d) om ?_).1;have:d=1\/d=2\/d=10\/d=4:=by simpa[dds]using c
 rcases this with rfl|rfl|rfl|rfl<;>decide
def vP:Jk 1 1:=by
 have:=(cu (n:=1) (d:=1) om (by decide)).1;have c:qn ((1:Nat):Int) 1=1:=by decide
 have f:qd ((1:Nat):Int) 1=1:=by decide
 rw[c,f]at this;exact this
def AR1 {T:Tn}(h:Su T e):∃ k m,FW k m e/\k<=5/\m<=9:=by
 have c:∀ {n d:Int},Wg n d->FW 1 1 (wE n d):=fun w=> .num (gD w);have fs:∀ {s:By},CN T s->FW 1 1 (J4 s):=fun h=> .name (kD _ h.1).1 (kD _ h.1).2.1 (kD _ h.1).2.2.1;have f:FW 1 1 (J4 J8):= .name (by decide) (by decide) (by decide);have g:FW 1 1 (J4 Bp):= .name (by decide) (by decide) (by decide);cases h with
 |k0 w=>exact⟨_,_,.bin (.inr (.inr (.inl rfl))) (c w) (.bin (.inr (.inr (.inr rfl))) g f),om,om⟩
 |k1 w=>exact⟨_,_,.bin (.inr (.inr (.inr rfl))) (.bin (.inr (.inl rfl)) (.num vP) (.bin (.inr (.inr (.inr rfl))) f (.bin (.inl rfl) f g))) (c w),om,om⟩
 |k2 w=>exact⟨_,_,c w,om,om⟩
 |k3 w a=>exact⟨_,_,.bin (.inr (.inr (.inl rfl))) (c w) (fs a),om,om⟩
 |k5 w a i=>exact⟨_,_,.mm i (fs a) (c w),om,om⟩
 |k6 a b=>exact⟨_,_,.bin (.inr (.inr (.inl rfl))) (fs a) (fs b),om,om⟩
 |k7 w a b=>exact⟨_,_,.bin (.inr (.inr (.inr rfl))) (fs a) (.bin (.inl rfl) (c w) (fs b)),om,om⟩
def Av8 {T:Tn}{n:Nat}(h:Fm T n e):∃ k m,FW k m e/\k<=5+n/\m<=9+10*n:=by
 induction h with
 |one h=>obtain⟨k,m,c,f,g⟩:=AR1 h;exact⟨k,m,c,om,om⟩
 | sum _ hf ho ih=>
   obtain⟨k,m,c,f,g⟩:=ih;obtain⟨j,i,g1,g2,g3⟩:=AR1 hf;exact⟨_,_,.bin (by rcases ho with rfl|rfl<;>first|exact .inl rfl|exact .inr (.inl rfl)) c g1,om,om⟩
def kE {T:Tn}(h:iQ T e):∃ k m,FW k m e/\k<=8/\m<=39:=by
 rcases h with⟨n,i,h⟩|rfl
 ·obtain⟨k,m,c,f,g⟩:=Av8 h;exact⟨k,m,c,om,om⟩
 ·exact⟨_,_,.bin (.inr (.inr (.inr rfl))) (.name (by decide) (by decide) (by decide)) (.name (by decide) (by decide) (by decide)),om,om⟩
structure SE (T:Tn):Prop where
 rng:Rng T
 lh:∀ c∈T.G7,c.low<=c.high
def Ti {T:Tn}(h:s=J8\/s=Bp):O5 T s=some (T.low,T.high):=by unfold O5;rw[z1z h]
def kF {T:Tn}(h:SE T)(o:CN T s):∃ a b,O5 T s=some (a,b)/\0<=a/\a<=b/\b<=4:=by
 obtain⟨l,c,m,rfl⟩:=o;obtain⟨-,-,-,n1,n2⟩:=kD _ l;unfold O5;rw[z0z (by rintro(e|e)<;>first|exact n1 e|exact n2 e)];cases f:T.G7.find? (fun x=>decide (x.name=c.name))with
 | none=>
   have:=List.find?_eq_none.1 f c m;simp at this
 | some x=>
   have g:=(Mx f).1;obtain⟨-,-,-,i,p,q,j⟩:=h.rng.Dn x g;exact⟨x.low,x.high,rfl,i,h.lh x g,j⟩
def Av9 {i:Int}(c:0<=i) (f:i<=100):(ofQ i).Ok:=Wv om om
section
variable {T:Tn}
def Kc (h:SE T)(c:s=J8\/s=Bp):Vb T (J4 s) fun q=>Bq 8 1 q/\0<q.n:=by
 have:=h.rng.l1;have:=h.rng.l3;have:=h.rng.h1;have:=h.rng.h5;refine .name (Ti c) om fun i f g=>⟨Av9 om om,⟨by show i.natAbs<=8;omega,by show(1:Int)<=_;omega⟩,by show 0<i;omega⟩
def LG (h:SE T)(g:CN T s):Vb T (J4 s) fun q=>Bq 4 1 q/\0<=q.n:=by
 obtain⟨a,b,c,j,f,l⟩:=kF h g;exact .name c f fun i m o=>⟨Av9 om om,⟨by show i.natAbs<=4;omega,by show(1:Int)<=_;omega⟩,by show 0<=i;omega⟩
def vQ (w:Wg n d):Vb T (wE n d) fun q=>Bq 9 10 q/\0<q.n:=by
 have c:=kG w.1 w.2.1 w.2.2;have:=c.n1;have:=c.n9;have:=c.d10;exact .num (Kq (gD w)) ⟨⟨by show(qn n d).natAbs<=9;omega,by show qd n d<=10;omega⟩,by show 0<qn n d;omega⟩
def AR2 (h:SE T):Vb T (K4 Dm (J4 Bp) (J4 J8)) (Bq 8 8) :=
 .op (.inr (.inr (.inr (.inl rfl)))) (Kc h (.inr rfl)) (Kc h (.inl rfl)) fun x y g i f c=>⟨fun _=>c.2,kC g i f.1 c.1 c.2 (by decide) (by decide)⟩
def vR (h:SE T)(u:Su T e):Vb T e (Bq 240 144):=by
 cases u with
 | k0 w=>
   refine .op (.inr (.inr (.inl rfl))) (vQ w) (AR2 h) fun x y g i f c=>⟨fun e=>absurd e (by decide),?_⟩
   obtain⟨z,j,l⟩:=vO g i f.1 c (by decide) (by decide);exact⟨z,j,l.le (by decide) (by decide)⟩
 | k1 w=>
   have m:Vb T (K4 FL (J4 J8) (J4 Bp)) fun q=>Bq 16 1 q/\0<q.n :=
    .op (.inl rfl) (Kc h (.inl rfl)) (Kc h (.inr rfl)) fun x y g i f c=>⟨fun e=>absurd e (by decide),by
     obtain⟨z,j,l,r⟩:=vN g i f.1 c.1 (by decide) (by decide);exact⟨z,j,l,r f.2 (by have:=c.2;omega)⟩⟩
   have v:Vb T (K4 Dm (J4 J8) (K4 FL (J4 J8) (J4 Bp))) (Bq 8 16) :=
    .op (.inr (.inr (.inr (.inl rfl)))) (Kc h (.inl rfl)) m fun x y g i f c=>⟨fun _=>c.2,kC g i f.1 c.1 c.2 (by decide) (by decide)⟩
   have A:Vb T (K4 Jj (DS 1 1) (K4 Dm (J4 J8) (K4 FL (J4 J8) (J4 Bp)))) (Bq 24 16) :=
    .op (.inr (.inl rfl)) (.num (P:=Bq 1 1) (Kq vP) ⟨by decide,by decide⟩) v fun x y g i f c=>⟨fun e=>absurd e (by decide),AR0 g i f c (by decide) (by decide)⟩
   refine .op (.inr (.inr (.inr (.inl rfl)))) A (vQ w) fun x y g i f c=>⟨fun _=>c.2,kC g i f c.1 c.2 (by decide) (by decide)⟩
 | k2 w=>
   have p:=kG w.1 w.2.1 w.2.2;have:=p.n1;have:=p.n9;have:=p.d10;exact .num (Kq (gD w)) ⟨by show(qn _ _).natAbs<=240;omega,by show qd _ _<=144;omega⟩
 | k3 w a=>
   refine .op (.inr (.inr (.inl rfl))) (vQ w) (LG h a) fun x y g i f c=>⟨fun e=>absurd e (by decide),?_⟩
   obtain⟨z,j,l⟩:=vO g i f.1 c.1 (by decide) (by decide);exact⟨z,j,l.le (by decide) (by decide)⟩
 | @k5 n d s o w a ho=>
   refine .op (by rcases ho with rfl|rfl<;>first|exact .inr (.inr (.inr (.inr (.inl rfl))))|exact .inr (.inr (.inr (.inr (.inr rfl))))) (LG h a) (vQ w) fun x y g i f c=>⟨fun e=>absurd e (by rcases ho with rfl|rfl<;>decide),?_⟩
   exact BJ1 ho (f.1.le (by decide) (by decide)) (c.1.le (by decide) (by decide))
 | k6 a b=>
   refine .op (.inr (.inr (.inl rfl))) (LG h a) (LG h b) fun x y g i f c=>⟨fun e=>absurd e (by decide),?_⟩
   obtain⟨z,j,l⟩:=vO g i f.1 c.1 (by decide) (by decide);exact⟨z,j,l.le (by decide) (by decide)⟩
 | @k7 n d s t w a b=>
   have m:Vb T (K4 FL (wE n d) (J4 t)) fun q=>Bq 49 10 q/\0<q.n :=
    .op (.inl rfl) (vQ w) (LG h b) fun x y g i f c=>⟨fun e=>absurd e (by decide),by
     obtain⟨z,j,l,r⟩:=vN g i f.1 c.1 (by decide) (by decide);exact⟨z,j,l,r f.2 c.2⟩⟩
   refine .op (.inr (.inr (.inr (.inl rfl)))) (LG h a) m fun x y g i f c=>⟨fun _=>c.2,?_⟩
   obtain⟨z,j,l⟩:=kC g i f.1 c.1 c.2 (by decide) (by decide);exact⟨z,j,l.le (by decide) (by decide)⟩
def fN:Nat->Nat
 |0=>240
 |k+1=>fN k*144+240*144 ^ (k+1)
def Aw0 (h:SE T)(r:k<=3) (g:Fm T k e):Vb T e (Bq (fN k) (144 ^ (k+1))):=by
 induction g with
 |one g=>exact vR h g
 | @sum k o e f g hf ho ih=>
   have c:fN k*144+240*144 ^ (k+1)<=9223372036854775807/\144 ^ (k+1)*144<=9223372036854775807:=by
    have:k=0\/k=1\/k=2:=om;rcases this with rfl|rfl|rfl<;>decide
   rcases ho with rfl|rfl
   ·refine .op (.inl rfl) (ih om) (vR h hf) fun x y l m i j=>⟨fun e=>absurd e (by decide),?_⟩
    obtain⟨z,p,q,-⟩:=vN l m i j c.1 c.2;exact⟨z,p,q⟩
   ·exact .op (.inr (.inl rfl)) (ih om) (vR h hf) fun x y l m i j=>⟨fun e=>absurd e (by decide),AR0 l m i j c.1 c.2⟩
def AG1 (h:SE T)(c:iQ T e):∃ x,Me T e=(x,0)/\Dr x/\∀ s,Sat T s->∃ v,Fs s e=some v/\Btw x v:=by
 have k:∃ P,Vb T e P:=by
  rcases c with⟨k,g,c⟩|rfl
  ·exact⟨_,Aw0 h g c⟩
  ·exact⟨_,AR2 h⟩
 obtain⟨P,f⟩:=k;obtain⟨x,h1,h2,-,-,h3⟩:=vB f;obtain⟨k,m,f1,f2,f3⟩:=kE c;refine⟨x,?_,h2,fun s i=>?_⟩
 ·unfold Me;rw[Ww f1 om,AW (show m<=60 by omega),z1z rfl,h1]
 ·obtain⟨v,j,-,l⟩:=h3 s i;exact⟨v,j,l⟩
end
end
section
variable {T:Tn}{e:Ex}
def JS {k m:Nat}(h:FW k m e):(S8 e).length<=m:=by
 induction h with
 |num h=>rw[No];simp
 |name g i j=>rw[Gr];simp
 |bin a d f b c=>rw[El (JD (lY a)),CU];omega
 |mm a d f b c=>rw[El (JD (mm6 a)),CU];omega
def xM (T:Tn) (nm:By):Prop:=∃ a b,O5 T nm=some (a,b)/\a<=b/\ -1000000000<=a/\b<=1000000000
def K5 (T:Tn) (e:Ex):Prop:=∀ nm∈S8 e,xM T nm
def AK {o:By}{a b:Ex}(f:Op6 o) (c:K5 T a) (d:K5 T b):K5 T (K4 o a b):=by
 intro nm h;unfold K4 at h;rw[El (JD f),EM]at h;rcases h with h|h
 ·exact c nm h
 ·exact d nm h
def FY {n d:Int}:K5 T (DS n d):=by
 intro nm h;unfold DS at h;rw[No]at h;cases h
def Mi {s:By}(a:xM T s):K5 T (J4 s):=by
 intro nm h;unfold J4 at h;rw[Gr,JB]at h;rw[h];exact a
def gJ (h:SE T) (i:iQ T e):K5 T e:=by
 have v:=h.rng.l1;have y:=h.rng.l3;have z:=h.rng.h1;have A:=h.rng.h5;have g:K5 T (J4 J8):=Mi ⟨_,_,Ti (.inl rfl),om,om,om⟩;have l:K5 T (J4 Bp):=Mi ⟨_,_,Ti (.inr rfl),om,om,om⟩;have c:∀ {s},CN T s->K5 T (J4 s):=fun d=>by
  obtain⟨a,b,q1,B,u,C⟩:=kF h d;exact Mi ⟨a,b,q1,u,om,om⟩
 have m:Op6 FL:= .inl rfl;have o:Op6 Jj:= .inr (.inl rfl);have n:Op6 Hx:= .inr (.inr (.inl rfl));have f:Op6 Dm:= .inr (.inr (.inr (.inl rfl)));have p:∀ {e},Su T e->K5 T e:=by
  intro e d;cases d with
  |k0 w=>exact AK n FY (AK f l g)
  |k1 w=>exact AK f (AK o FY (AK f g (AK m g l))) FY
  |k2 w=>exact FY
  |k3 w a=>exact AK n FY (c a)
  |k5 w a j=>exact AK (mm6 j) (c a) FY
  |k6 a b=>exact AK n (c a) (c b)
  |k7 w a b=>exact AK f (c a) (AK m FY (c b))
 rcases i with⟨k,-,i⟩|rfl
 ·induction i with
  |one d=>exact p d
  |sum _ q j r=>exact AK (by rcases j with rfl|rfl;exact m;exact o) r (p q)
 ·exact AK f l g
end
end Go.Proofs.T
