/- The G6 fW of AF1 3: numbers, Y6. -/
import Derived.Test.YtgjocfjdecjhoaaGreatDoorCC
import Derived.Test.YtgjocfjdecjhoaaGreatDoorRR
set_option linter.unusedSimpArgs false
set_option linter.unusedVariables false
set_option linter.defProp false
set_option maxHeartbeats 32000000
set_option maxRecDepth 100000
namespace Go.Proofs.T
open Go Go.Ab
open Nat (reduceMul reduceEqDiff reduceAdd)
theorem vq {Z:St}{n m:Int}(h1:Bk n) (h3:0<m) (h4:m<=4294967296) :
  Ev (go Tryz.prog HS (.fn 44) [.int .i64 n,.int .i64 m] Z) (fun r=>r=⟨false,.int .i64 (n % m),Z⟩) ⟨⟩:=by
 obtain⟨h1,h2⟩:=h1;have hm0:m≠0:=om;have a1:=Int.tmod_lt_of_pos n h3;have a2: -m<n.tmod m:=by
  have:=Int.lt_tmod_of_pos n h3;omega
 have e:(n.tmod m+m).tmod m=n % m:=by
  rw[Int.tmod_eq_emod_of_nonneg om,Int.add_emod_right];rw[Int.tmod_def];exact Int.sub_mul_emod_self_left _ _ _
 refine C9 Tryz.func44 rfl rfl ?_;refine gS1 (aI @Tryz.results44 @e) ?_;try exact⟨⟩
theorem oH {Z:St}{q k:Nat}{v:Value}{l:List Int}{n:Int}(H:List Nat) (hH:q∈H) (hm:oI Z q v l k) (hl:Aw (M8 Z H) v l) (hll:l.length<=9223372036854775807) (h1:0<n) (h2:n<=1000) :
  Ev (go Tryz.prog HS (.fn 26) [.pointer (some ⟨q,0,none⟩),.int .i64 n] Z) (fun r=>∃ x k' Z',r=⟨false,.int .i64 x,Z'⟩/\0<=x/\x<n/\oI Z' q v l k'/\J7 q Z Z') ⟨⟩:=by
 obtain⟨a,c,b,off,cells,rfl,l1,l2⟩:=hl.1.use;have ro:=hm.row;have rr:=A9 ro;have hk:=hm.le;refine C9 Tryz.func26 rfl rfl ?_;by_cases hlt:k<l.length
 ·have c1:decide (k<l.length)=true:=decide_eq_true hlt;obtain⟨y,hy⟩:=H5 hlt;obtain⟨sp,rfl,l3,l4⟩:=l1 om;have hbq:b∉H:=fun hb=>by rw[Ja hb]at l4;cases l4
  have hne:b≠q:=fun h=>hbq (h ▸ hH);rw[Bn hbq]at l4;rw[EG]at l3;have s1:=l2 k y hy;have e1:(((k+1:Nat):Int)-1)=(k:Int):=om;refine gS1 (a7N @rr @ro @c1 @l4 @s1 @e1 @Qr) ?_;have AL8:=hl.2 y (List.mem_of_getElem? hy);refine(vq AL8 h1 om).mono ?_;rintro r rfl;simp(maxSteps:=8000000) (disch:=first|exact dS|fail) only[↓bD,bW,reduceMul,reduceEqDiff,reduceAdd,Nat.reduceBEq,reduceIte,Option.isNone_none,asx (Ext.refl _),Tryz.results26]
  try refine Ca.intro (by(repeat first|simp(disch:=omega) only[M9,G3,G8,asx (Ext.refl _)]|rw[V8 (by kernel_rfl)]);first|done|rfl) ?_
  try(refine gS1 @Tryz.results26 ?_;try exact⟨⟩)
  exact⟨_,k+1,_,rfl,Int.emod_nonneg _ om,Int.emod_lt_of_pos _ h1,⟨cL,hm.lt,om⟩,J7.refl.upd _⟩
 ·have c1:decide (k<l.length)=false:=decide_eq_false hlt;refine gS1 (a4N @rr @c1 @Qr @Tryz.results26) ?_;exact⟨0,k,_,rfl,om,h1,hm,.refl⟩
theorem jc {l:List Value}(h:l.length=5):∃ a b c d e,l=[a,b,c,d,e]:=by
 match l,h with
 | [a,b,c,d,e],_=>exact⟨a,b,c,d,e,rfl⟩
theorem Tj {Z:St}{n:Int}(h1: -1000000000<n) (h2:n<1000000000):Ev (go Tryz.prog HS (.fn 134) [.int .i64 n] Z) (fun r=>r=⟨false,.bool true,Z⟩) ⟨⟩:=by
 have c1:decide (-1000000000<n)=true:=by simpa using h1
 have c2:decide (n<1000000000)=true:=by simpa using h2
 refine C9 Tryz.func134 rfl rfl ?_;refine gS1 (a5N @c1 @c2 @D9 @F4 @Tryz.results134) ?_;try exact⟨⟩
theorem oJ {Z:St}{n d:Int}(h1: -1000000000<n) (h2:n<1000000000) (h3: -1000000000<d) (h4:d<1000000000) (h5:d≠0) :
  Ev (go Tryz.prog HS (.fn 72) [.int .i64 n,.int .i64 d] Z) (fun r=>∃ Z',r=⟨false,.tuple ⟨[.agg ⟨[.int .i64 (qn n d),.int .i64 (qd n d)]⟩,.bool true]⟩,Z'⟩/\Ext Z Z') ⟨⟩:=by
 have c5:decide (d=0)=false:=by simpa using h5
 refine C9 Tryz.func72 rfl rfl ?_;refine gS1 @c5 ?_;refine(Tj h1 h2).mono ?_;rintro r rfl;refine gS1 @D9 ?_;refine(Tj h3 h4).mono ?_;rintro r rfl;refine gS ?_;refine(Gl ⟨om,om⟩ ⟨om,om⟩ h5).mono ?_;rintro r ⟨Z2,rfl,e2⟩;have n2:=e2.n;have o2:Z2.A7 Z.n=some [.int .i64 0,.int .i64 0]:=by rw[e2.A7 (cL)];exact cL
 have hE:Ext Z Z2:=Ext.trans (eX) e2;refine gS1 (aI @o2 @Tryz.results72) ?_;exact⟨_,rfl,eX⟩
def Dz (n d:Int):Ex:= .mk K9 n d [] []
def P5 (s:By):Ex:= .mk nmB 0 0 s []
def Q3 (o:By) (a b:Ex):Ex:= .mk o 0 0 [] [a,b]
theorem DA {Z:St}{s:By}:Ev (go Tryz.prog HS (.fn 30) [str s] Z) (fun r=>∃ row Z',r=⟨false,.agg ⟨row⟩,Z'⟩/\Ext Z Z'/\∀ τ,P6 τ row (P5 s)) ⟨⟩:=by
 refine C9 Tryz.func30 rfl rfl ?_;refine gS1 @Tryz.results30 ?_;exact⟨_,_,rfl,eX,fun τ=>nr⟩
theorem YA {Z:St}{n d:Int}(h1: -1000000000<n) (h2:n<1000000000) (h3: -1000000000<d) (h4:d<1000000000) (h5:d≠0):Ev (go Tryz.prog HS (.fn 68) [.int .i64 n,.int .i64 d] Z) (fun r=>∃ row Z',r=⟨false,.agg ⟨row⟩,Z'⟩/\Ext Z Z'/\∀ τ,P6 τ row (Dz (qn n d) (qd n d))) ⟨⟩:=by
 refine C9 Tryz.func68 rfl rfl ?_;refine gS ?_;refine(oJ h1 h2 h3 h4 h5).mono ?_;rintro r ⟨Z2,rfl,hE2⟩;have x2:Z2.A7 Z.n=some [str [],.int .i64 0,.int .i64 0,str [],.slice none 0 0]:=by rw[hE2.A7 (cL)];exact cL
 have n2:=hE2.n;simp only[F6]at n2;refine gS1 (aI @x2 @Tryz.results68) ?_;exact⟨_,_,rfl,Ext.upd (Ext.upd (Ext.W6 (Ext.trans (Ext.W6 (.refl _) _) hE2) _) om _) om _,fun τ=>nr⟩
theorem Cm {Z:St}{o:By}{ra rb:List Value}{a b:Ex}(H:List Nat) (hH:∀ q∈H,q<Z.n) (ha:P6 (M8 Z H) ra a) (hb:P6 (M8 Z H) rb b):Ev (go Tryz.prog HS (.fn 28) [str o,.agg ⟨ra⟩,.agg ⟨rb⟩] Z) (fun r=>∃ row Z',r=⟨false,.agg ⟨row⟩,Z'⟩/\Ext Z Z'/\P6 (M8 Z' H) row (Q3 o a b)) ⟨⟩:=by
 have la:=ha.len;have lb:=hb.len;have fa:sub ra 0 5=some ra:=C8 om om;have fb:sub rb 0 5=some rb:=C8 om om;refine C9 Tryz.func28 rfl rfl ?_;obtain⟨a1,a2,a3,a4,a5,rfl⟩:=jc la;obtain⟨b1,b2,b3,b4,b5,rfl⟩:=jc lb;refine gS1 (a3N @fa @fb @Tryz.results28) ?_;refine⟨_,_,rfl,eX,?_⟩
 have hE:∀ (S:St),S=((((Z.new [a1,a2,a3,a4,a5]).new [b1,b2,b3,b4,b5]).new [str [],.int .i64 0,.int .i64 0,str [],.slice none 0 0] (some 32)).new [a1,a2,a3,a4,a5,b1,b2,b3,b4,b5]).upd (Z.n+1+1) [str o,.int .i64 0,.int .i64 0,str [],.slice (some ⟨Z.n+1+1+1,0,none⟩) 2 2]->Ext Z S/\S.n=Z.n+4/\S.row (Z.n+1+1+1)=some [a1,a2,a3,a4,a5,b1,b2,b3,b4,b5] :=
  fun S hS=>by subst hS;exact⟨eX,rfl,cL⟩
 obtain⟨E,nn,ro⟩:=hE _ rfl;exact VW (by rw[EG];omega) (by rw[Bn fun h=>by have:=hH _ h;omega];exact ro) rfl (ha.H4 (H2 E)) (hb.H4 (H2 E))
theorem Cl.BN {q:Nat}{Z Z':St}(hE:J7 q Z Z'):∀ {l:List (Nat×List Value)},(∀ p∈l,p.1≠q)->Cl Z l->Cl Z' l
 | [],_,_=>trivial
 | (b,cs)::l,hn,h=>⟨⟨Nat.lt_of_lt_of_le h.1.1 hE.n,by rw[hE.A7 h.1.1 (hn (b,cs) (by simp))];exact h.1.2⟩,Cl.BN hE (fun p hp=>hn p (by simp[hp])) h.2⟩
theorem Lb {H:List Nat}{q:Nat}{v:Value}{l:List Int}{Z:St}{n:Int}(h:MS H q v l Z) (h1:0<n) (h2:n<=1000) :
  Ev (go Tryz.prog HS (.fn 26) [.pointer (some ⟨q,0,none⟩),.int .i64 n] Z) (fun r=>∃ (x:Nat) (Z':St),r=⟨false,.int .i64 (x:Nat),Z'⟩/\(x:Int)<n/\MS H q v l Z'/\J7 q Z Z') ⟨⟩:=by
 obtain⟨k,hk⟩:=h.Sx;refine(oH H h.mem hk h.arg h.len h1 h2).mono ?_;rintro r ⟨x,k',Z',rfl,x0,x1,hm,hE⟩;obtain⟨X,rfl⟩:=Int.eq_ofNat_of_zero_le x0;exact⟨X,Z',rfl,x1,⟨h.mem,⟨k',hm⟩,h.arg.H4 (hE.Md h.mem),h.len⟩,hE⟩
end Go.Proofs.T
namespace Go.Proofs.T
open Go Go.Ab
section
variable {n d A B:Int}{s o t:By}
structure Rng (T:Tn):Prop where
 l1:1<=T.low
 l3:T.low<=3
 h1:T.low+1<=T.high
 h5:T.high<=T.low+5
 Du:∀ c∈T.G9,c.name≠N9/\c.name≠Dp/\c.name.length<=30/\0<=c.low/\c.low<=4/\0<=c.high/\c.high<=4
def XP {α:Type}{p:α->Bool}:∀ {l:List α}{x:α},l.find? p=some x->x∈l/\p x=true
 | [],x,h=>by cases h
 | a::l,x,h=>by
   rw[List.find?_cons]at h;cases hp:p a with
   |true=>rw[hp]at h;cases h;exact⟨by simp,hp⟩
   |false=>rw[hp]at h;obtain⟨h1,h2⟩:=XP h;exact⟨by simp[h1],h2⟩
def LQ {a b:Int}(h1: -A<=a) (h2:a<=A) (h3: -B<=b) (h4:b<=B): -(A*B)<=a*b/\a*b<=A*B:=by
 have h:=Int.natAbs_mul a b;have h5:a.natAbs*b.natAbs<=A.natAbs*B.natAbs:=mz om om;have h6:((A.natAbs*B.natAbs:Nat):Int)=A*B:=by
  rw[Int.natCast_mul,Int.natAbs_of_nonneg om,Int.natAbs_of_nonneg om]
 omega
def AD0 (hn:0<n) (hd:0<d):0<qn n d:=by
 unfold qn;rw[z0z om];have hg0:0<Int.gcd n d:=Int.gcd_pos_of_ne_zero_right _ om;obtain⟨k,hk⟩:((Int.gcd n d:Nat):Int)∣n:=Int.gcd_dvd_left _ _;obtain⟨g,hgg⟩:=nm (Int.gcd n d);rw[hgg]at hk hg0 ⊢;have e1:n / (g:Int)=k:=by rw[hk,TQ _ om]
 rw[e1];rcases Int.lt_or_le 0 k with h|h
 ·exact h
 ·exfalso;have:=Int.mul_nonpos_of_nonneg_of_nonpos (show(0:Int)<=(g:Int) by omega) h;omega
def rq1 (h1: -1000000000<n) (h2:n<1000000000):RS n 1:=⟨h1,h2,om,om,by simp[Int.gcd]⟩
def Whole (A B:Int):JC:=fun a b=>b=1/\A<=a/\a<=B
def Whole.rq (hA: -1000000000<A) (hB:B<1000000000) (h:Whole A B n d):RS n d:=by
 obtain⟨rfl,h1,h2⟩:=h;exact rq1 om om
section
variable {T:Tn}
def VG (T:Tn):W0 T N9=(T.low,T.high,true):=by unfold W0;rw[z1z rfl]
def bV (T:Tn):W0 T Dp=(T.low,T.high,true):=by unfold W0;rw[z0z (by decide),z1z rfl]
def XQ (h:Rng T)(h1:s≠N9) (h2:s≠Dp) (hk:(W0 T s).2.2=true):0<=(W0 T s).1/\(W0 T s).1<=4/\0<=(W0 T s).2.1/\(W0 T s).2.1<=4:=by
 unfold W0 at hk ⊢;rw[z0z h1,z0z h2]at hk ⊢;cases hf:T.G9.find? (fun x=>decide (x.name=s))with
 |none=>rw[hf]at hk;cases hk
 | some x=>
   obtain⟨-,-,-,a,b,c,d⟩:=h.Du x (XP hf).1;exact⟨a,b,c,d⟩
def MW (s:By) (hs:s=N9\/s=Dp):Iv T (P5 s) (fun a b=>b=1/\(a=T.low\/a=T.high)):=by
 refine .name fun _=>?_;rcases hs with rfl|rfl
 ·rw[VG];exact⟨⟨rfl,.inl rfl⟩,⟨rfl,.inr rfl⟩⟩
 ·rw[bV];exact⟨⟨rfl,.inl rfl⟩,⟨rfl,.inr rfl⟩⟩
def KH (h:Rng T)(h1:s≠N9) (h2:s≠Dp):Iv T (P5 s) (Whole 0 4) :=
 .name fun hk=>by obtain⟨a,b,c,d⟩:=XQ h h1 h2 hk;exact⟨⟨rfl,a,b⟩,⟨rfl,c,d⟩⟩
structure Wt (n d:Int):Prop where
 rq:RS n d
 n1:1<=n
 n9:n<=9
 d10:d<=10
 dec:(1000000:Int) % d=0
def XR:Iv T (Dz n d) (fun a b=>a=n/\b=d):= .num ⟨rfl,rfl⟩
def LR (h:Wt n d):FOk 1 (Dz n d):= .num h.rq (by have:=h.n1;omega) h.dec
def nA {A B P:JC}(h:∀ n d m e,A n d->B m e->P (qn (n*e+m*d) (d*e)) (qd (n*e+m*d) (d*e))):OpP JD A B P:=by unfold OpP;rw[z1z rfl];exact h
def AD1 {A B P:JC}(h:∀ n d m e,A n d->B m e->P (qn (n*e-m*d) (d*e)) (qd (n*e-m*d) (d*e))):OpP PD A B P:=by unfold OpP;rw[z0z (by decide),z1z rfl];exact h
def nB {A B P:JC}(h:∀ n d m e,A n d->B m e->P (qn (n*m) (d*e)) (qd (n*m) (d*e))):OpP JI A B P:=by unfold OpP;rw[z0z (by decide),z0z (by decide),z1z rfl];exact h
def fK {A B P:JC}(h:∀ n d m e,A n d->B m e->m≠0/\P (qn (n*e) (d*m)) (qd (n*e) (d*m))):OpP HB A B P:=by unfold OpP;rw[z0z (by decide),z0z (by decide),z0z (by decide),z1z rfl];exact h
def Au4 {A B P:JC}(ho:o=R3\/o=R6) (h1:∀ n d,A n d->P n d) (h2:∀ n d,B n d->P n d):OpP o A B P:=by
 unfold OpP;rcases ho with rfl|rfl
 ·rw[z0z (by decide),z0z (by decide),z0z (by decide),z0z (by decide)];exact⟨h1,h2⟩
 ·rw[z0z (by decide),z0z (by decide),z0z (by decide),z0z (by decide)];exact⟨h1,h2⟩
def Hn {a b:Ex}{A B P:JC}(h1:o≠K9) (h2:o≠nmB) (ha:Iv T a A) (hb:Iv T b B) (hA:∀ n d,A n d->RS n d) (hB:∀ n d,B n d->RS n d) (hP:OpP o A B P):Iv T (Q3 o a b) P:= .op h1 h2 ha hb hA hB hP
def MX (h:Rng T):∀ n d,(d=1/\(n=T.low\/n=T.high))->RS n d:=by
 rintro n d ⟨rfl,hn⟩;have:=h.l1;have:=h.l3;have:=h.h1;have:=h.h5;exact rq1 om om
def XS (h:Wt n d):∀ a b,(a=n/\b=d)->RS a b:=by rintro a b ⟨rfl,rfl⟩;exact h.rq
def iv0 (h:Rng T)(w:Wt n d):Iv T (Q3 JI (Dz n d) (Q3 HB (P5 Dp) (P5 N9))) (BdQ 80 144):=by
 have a1:=h.l1;have a2:=h.l3;have a3:=h.h1;have a4:=h.h5;have b1:=w.n1;have b2:=w.n9;have b3:=w.d10;have b4:=w.rq.d1;have i1:Iv T (Q3 HB (P5 Dp) (P5 N9)) (BdQ 8 8):=by
  refine Hn (by decide) (by decide) (MW Dp (.inr rfl)) (MW N9 (.inl rfl)) (MX h) (MX h) (fK ?_);rintro n d m e ⟨rfl,hn⟩ ⟨rfl,hm⟩;exact⟨om,Sl om om om om om om om⟩
 refine Hn (by decide) (by decide) XR i1 (XS w) (fun _ _ h=>h.1) (nB ?_);rintro a b m e ⟨rfl,rfl⟩ ⟨hr,m1,m2,m3⟩;have e1:=hr.d1;have p1:=LQ (a:=a) (b:=m) (A:=9) (B:=8) om om m1 m2;have p2:=LQ (a:=b) (b:=e) (A:=10) (B:=8) om om om m3;have p3:b*e≠0:=Int.mul_ne_zero om om;exact Sl p3 om om om om om om
def iv2 (w:Wt n d):Iv T (Dz n d) (BdQ 80 144):= .num ⟨w.rq,by have:=w.n1;omega,by have:=w.n9;omega,by have:=w.d10;omega⟩
def iv3 (h:Rng T)(w:Wt n d)(h1:s≠N9) (h2:s≠Dp):Iv T (Q3 JI (Dz n d) (P5 s)) (BdQ 80 144):=by
 have b1:=w.n1;have b2:=w.n9;have b3:=w.d10;have b4:=w.rq.d1;refine Hn (by decide) (by decide) XR (KH h h1 h2) (XS w) (fun _ _ h=>h.rq om om) (nB ?_);rintro a b m e ⟨rfl,rfl⟩ ⟨rfl,m1,m2⟩;have p1:=LQ (a:=a) (b:=m) (A:=9) (B:=4) om om om om;exact Sl om om om om om om om
def iv5 (h:Rng T)(w:Wt n d)(h1:s≠N9) (h2:s≠Dp) (ho:o=R3\/o=R6):Iv T (Q3 o (P5 s) (Dz n d)) (BdQ 80 144):=by
 have b1:=w.n1;have b2:=w.n9;have b3:=w.d10;have b4:=w.rq.d1;refine Hn (by rcases ho with rfl|rfl<;>decide) (by rcases ho with rfl|rfl<;>decide) (KH h h1 h2) XR (fun _ _ h=>h.rq om om) (XS w) (Au4 ho ?_ ?_)
 ·intro a b hab;have hr:=hab.rq om om;obtain⟨rfl,m1,m2⟩:=hab;exact⟨hr,om,om,om⟩
 ·rintro a b ⟨rfl,rfl⟩;exact⟨w.rq,om,om,om⟩
def iv6 (h:Rng T)(h1:s≠N9) (h2:s≠Dp) (h3:t≠N9) (h4:t≠Dp):Iv T (Q3 JI (P5 s) (P5 t)) (BdQ 80 144):=by
 refine Hn (by decide) (by decide) (KH h h1 h2) (KH h h3 h4) (fun _ _ h=>h.rq om om) (fun _ _ h=>h.rq om om) (nB ?_);rintro a b m e ⟨rfl,a1,a2⟩ ⟨rfl,m1,m2⟩;have p1:=LQ (a:=a) (b:=m) (A:=4) (B:=4) om om om om;exact Sl om om om om om om om
def iv7 (h:Rng T)(w:Wt n d)(h1:s≠N9) (h2:s≠Dp) (h3:t≠N9) (h4:t≠Dp):Iv T (Q3 HB (P5 s) (Q3 JD (Dz n d) (P5 t))) (BdQ 80 144):=by
 have b1:=w.n1;have b2:=w.n9;have b3:=w.d10;have b4:=w.rq.d1;have i1:Iv T (Q3 JD (Dz n d) (P5 t)) (fun a b=>BdQ 49 10 a b/\0<a):=by
  refine Hn (by decide) (by decide) XR (KH h h3 h4) (XS w) (fun _ _ h=>h.rq om om) (nA ?_);rintro a b m e ⟨rfl,rfl⟩ ⟨rfl,m1,m2⟩;have p1:=LQ (a:=m) (b:=b) (A:=4) (B:=10) om om om om;have p2:0<=m*b:=Int.mul_nonneg m1 om;exact⟨Sl om om om om om om om,AD0 om om⟩
 refine Hn (by decide) (by decide) (KH h h1 h2) i1 (fun _ _ h=>h.rq om om) (fun _ _ h=>h.1.1) (fK ?_);rintro a b m e ⟨rfl,a1,a2⟩ ⟨⟨hr,m1,m2,m3⟩,m4⟩;have e1:=hr.d1;have p1:=LQ (a:=a) (b:=e) (A:=4) (B:=10) om om om om;exact⟨om,Sl om om om om om om om⟩
end
end
def dds:List Int:=[1,2,10,4]
theorem Ad5:(([1,2,3,4,5,6,7,8,9]:List Int).all fun n=>dds.all fun d=>decide ((1000000:Int) % qd n d=0))=true:=by kernel_rfl
theorem AI2 {n:Int}(h1:1<=n) (h2:n<=9):n∈([1,2,3,4,5,6,7,8,9]:List Int):=by
 have:n=1\/n=2\/n=3\/n=4\/n=5\/n=6\/n=7\/n=8\/n=9:=om
 simpa using this
theorem uR {d:Int}(h:d∈dds):1<=d/\d<=10:=by
 have:d=1\/d=2\/d=10\/d=4:=by simpa[dds]using h
 omega
theorem AI3 {n d:Int}(h1:1<=n) (h2:n<=9) (h:d∈dds):Wt (qn n d) (qd n d):=by
 obtain⟨d1,d10⟩:=uR h;obtain⟨a,b,c,e⟩:=fC (n:=n) (d:=d) (N:=9) (D:=10) om om om om om;refine⟨⟨om,om,c,om,(Wz om).1⟩,?_,b,e,?_⟩
 ·have:=AD0 (n:=n) (d:=d) om om;omega
 ·have h3:=List.all_eq_true.1 Ad5 n (AI2 h1 h2);have h4:=List.all_eq_true.1 h3 d h;exact of_decide_eq_true h4
def q1f (x y:Int):Int×Int:=(qn (x*1) (1*y),qd (x*1) (1*y))
def q2f (p:Int×Int):Int×Int:=(qn (1*p.2-p.1*1) (1*p.2),qd (1*p.2-p.1*1) (1*p.2))
def q3f (p w:Int×Int):Int×Int:=(qn (p.1*w.2) (p.2*w.1),qd (p.1*w.2) (p.2*w.1))
def okf (s:Int×Int):Bool:=decide (-80<=s.1)&&decide (s.1<=80)&&decide (s.2<=144)
theorem BJ6:(([1,2,3]:List Int).all fun lo=>([1,2,3,4,5]:List Int).all fun df=>[lo,lo+df].all fun x=>[lo+lo,lo+(lo+df),(lo+df)+(lo+df)].all fun y=>
  ([1,2,3,4,5,6,7,8,9]:List Int).all fun n=>dds.all fun d=>okf (q3f (q2f (q1f x y)) (qn n d,qd n d)))=true:=by kernel_rfl
theorem uS {lo df x y n d:Int}(h1:1<=lo) (h2:lo<=3) (h3:1<=df) (h4:df<=5) (hx:x=lo\/x=lo+df) (hy:y=lo+lo\/y=lo+(lo+df)\/y=(lo+df)+(lo+df)) (n1:1<=n) (n9:n<=9) (hd:d∈dds) :
  okf (q3f (q2f (q1f x y)) (qn n d,qd n d))=true:=by
 have b1:lo=1\/lo=2\/lo=3:=om;have a1:=List.all_eq_true.1 BJ6 lo (by simpa using b1);have b2:df=1\/df=2\/df=3\/df=4\/df=5:=om;have a2:=List.all_eq_true.1 a1 df (by simpa using b2);have a3:=List.all_eq_true.1 a2 x (by simpa using hx);have a4:=List.all_eq_true.1 a3 y (by simpa using hy);have a5:=List.all_eq_true.1 a4 n (AI2 n1 n9);exact List.all_eq_true.1 a5 d hd
theorem iv1 {T:Tn}(h:Rng T){n d:Int}(n1:1<=n) (n9:n<=9) (hd:d∈dds) :
  Iv T (Q3 HB (Q3 PD (Dz 1 1) (Q3 HB (P5 N9) (Q3 JD (P5 N9) (P5 Dp)))) (Dz (qn n d) (qd n d))) (BdQ 80 144):=by
 have a1:=h.l1;have a2:=h.l3;have a3:=h.h1;have a4:=h.h5;have w:=AI3 n1 n9 hd;obtain⟨lo,hlo⟩:∃ lo,T.low=lo:=⟨_,rfl⟩
 obtain⟨df,hdf⟩:∃ df,T.high=lo+df:=⟨T.high-lo,om⟩
 have i1:Iv T (Q3 JD (P5 N9) (P5 Dp)) (fun a b=>b=1/\(a=lo+lo\/a=lo+(lo+df)\/a=(lo+df)+(lo+df))):=by
  refine Hn (by decide) (by decide) (MW N9 (.inl rfl)) (MW Dp (.inr rfl)) (MX h) (MX h) (nA ?_);rintro n d m e ⟨rfl,hn⟩ ⟨rfl,hm⟩;have e1:=nT (n:=n*1+m*1) (d:=1*1) om (by simp[Int.gcd]);rw[e1.1,e1.2];rw[hlo,hdf]at hn hm;exact⟨om,om⟩
 have r1:∀ n d,(d=1/\(n=lo+lo\/n=lo+(lo+df)\/n=(lo+df)+(lo+df)))->RS n d:=by
  rintro n d ⟨rfl,hn⟩;exact rq1 om om
 have i2:Iv T (Q3 HB (P5 N9) (Q3 JD (P5 N9) (P5 Dp))) (fun a b=>BdQ 8 16 a b/\∃ x y,(x=lo\/x=lo+df)/\(y=lo+lo\/y=lo+(lo+df)\/y=(lo+df)+(lo+df))/\(a,b)=q1f x y):=by
  refine Hn (by decide) (by decide) (MW N9 (.inl rfl)) i1 (MX h) r1 (fK ?_);rintro n d m e ⟨rfl,hn⟩ ⟨rfl,hm⟩;rw[hlo,hdf]at hn;exact⟨om,Sl om om om om om om om,n,m,hn,hm,rfl⟩
 have i3:Iv T (Q3 PD (Dz 1 1) (Q3 HB (P5 N9) (Q3 JD (P5 N9) (P5 Dp)))) (fun a b=>BdQ 24 16 a b/\∃ x y,(x=lo\/x=lo+df)/\(y=lo+lo\/y=lo+(lo+df)\/y=(lo+df)+(lo+df))/\(a,b)=q2f (q1f x y)):=by
  refine Hn (by decide) (by decide) (A:=fun a b=>a=1/\b=1) (.num ⟨rfl,rfl⟩) i2 (by rintro a b ⟨rfl,rfl⟩;exact rq1 om om) (fun _ _ h=>h.1.1) (AD1 ?_);rintro n d m e ⟨rfl,rfl⟩ ⟨⟨hr,m1,m2,m3⟩,x,y,hx,hy,hq⟩;have e1:=hr.d1;refine⟨Sl om om om om om om om,x,y,hx,hy,?_⟩;rw[<- hq];rfl
 refine Hn (by decide) (by decide) i3 XR (fun _ _ h=>h.1.1) (XS w) (fK ?_);rintro a b m e ⟨⟨hr,m1,m2,m3⟩,x,y,hx,hy,hq⟩ ⟨rfl,rfl⟩;have b1:=w.n1;have b2:=w.n9;have b3:=w.d10;have b4:=w.rq.d1;have e1:=hr.d1;refine⟨om,?_⟩;have hc:=uS (lo:=lo) (df:=df) om om om om hx hy n1 n9 hd;rw[<- hq]at hc;unfold okf q3f at hc;simp only[Bool.and_eq_true,decide_eq_true_eq]at hc;obtain⟨⟨c1,c2⟩,c3⟩:=hc;have p3:b*qn n d≠0:=Int.mul_ne_zero om om;obtain⟨g1,g2⟩:=Wz (n:=a*qd n d) p3;exact⟨⟨om,om,g2,om,g1⟩,c1,c2,c3⟩
end Go.Proofs.T
