/- The H3 iC of AO2 3: numbers, R7. -/
import Derived.Test.YtgjocfjdecjhoaaGreatDoorICC
import Derived.Test.YtgjocfjdecjhoaaGreatDoorIRR
set_option linter.unusedSimpArgs false
set_option linter.unusedVariables false
set_option linter.defProp false
set_option maxHeartbeats 32000000
set_option maxRecDepth 100000
namespace Go.Proofs.T
open Go Go.Ab
open Nat (reduceMul reduceEqDiff reduceAdd)
theorem iT {Z:St}{n m:Int}(a:BN n) (b:0<m) (h:m<=4294967296) :
  Ev (go Tryz.prog HS (.fn 44) [.int .i64 n,.int .i64 m] Z) (fun r=>r=⟨false,.int .i64 (n % m),Z⟩) ⟨⟩:=by
 obtain⟨a,g⟩:=a;have c:m≠0:=om;have d:=Int.tmod_lt_of_pos n b;have f: -m<n.tmod m:=by
  have:=Int.lt_tmod_of_pos n b;omega
 have e:(n.tmod m+m).tmod m=n % m:=by
  rw[Int.tmod_eq_emod_of_nonneg om,Int.add_emod_right];rw[Int.tmod_def];exact Int.sub_mul_emod_self_left _ _ _
 refine C8 Tryz.func44 rfl rfl ?_;refine gS1 (aI @Tryz.results44 @e) ?_;try exact⟨⟩
theorem qm {Z:St}{q k:Nat}{v:Value}{l:List Int}{n:Int}(H:List Nat) (u:q∈H) (f:qo Z q v l k) (j:BG (N5 Z H) v l) (A:l.length<=9223372036854775807) (i:0<n) (F:n<=1000) :
  Ev (go Tryz.prog HS (.fn 26) [.pointer (some ⟨q,0,none⟩),.int .i64 n] Z) (fun r=>∃ x k' Z',r=⟨false,.int .i64 x,Z'⟩/\0<=x/\x<n/\qo Z' q v l k'/\J9 q Z Z') ⟨⟩:=by
 obtain⟨a,c,b,off,cells,rfl,C,D⟩:=j.1.use;have o:=f.row;have p:=A9 o;have G:=f.le;refine C8 Tryz.func26 rfl rfl ?_;by_cases d:k<l.length
 ·have c1:decide (k<l.length)=true:=decide_eq_true d;obtain⟨y,m⟩:=I1 d;obtain⟨sp,rfl,l3,l4⟩:=C om;have e:b∉H:=fun z=>by rw[KF z]at l4;cases l4
  have B:b≠q:=fun h=>e (h ▸ u);rw[Bx e]at l4;rw[EY]at l3;have E:=D k y m;have s:(((k+1:Nat):Int)-1)=(k:Int):=om;refine gS1 (a7N @p @o @c1 @l4 @E @s @SF) ?_;have g:=j.2 y (List.mem_of_getElem? m);refine(iT g i om).mono ?_;rintro r rfl;simp(maxSteps:=8000000) (disch:=first|exact dS|fail) only[↓bD,bW,reduceMul,reduceEqDiff,reduceAdd,Nat.reduceBEq,reduceIte,Option.isNone_none,asx (Ext.refl _),Tryz.results26]
  try refine Ct.intro (by(repeat first|simp(disch:=omega) only[O4,G6,G9,asx (Ext.refl _)]|rw[W6 (by kernel_rfl)]);first|done|rfl) ?_
  try(refine gS1 @Tryz.results26 ?_;try exact⟨⟩)
  exact⟨_,k+1,_,rfl,Int.emod_nonneg _ om,Int.emod_lt_of_pos _ i,⟨cL,f.lt,om⟩,J9.refl.upd _⟩
 ·have c1:decide (k<l.length)=false:=decide_eq_false d;refine gS1 (a4N @p @c1 @SF @Tryz.results26) ?_;exact⟨0,k,_,rfl,om,i,f,.refl⟩
theorem dZ {l:List Value}(h:l.length=5):∃ a b c d e,l=[a,b,c,d,e]:=by
 match l,h with
 | [a,b,c,d,e],_=>exact⟨a,b,c,d,e,rfl⟩
theorem Uz {Z:St}{n:Int}(b: -1000000000<n) (c:n<1000000000):Ev (go Tryz.prog HS (.fn 134) [.int .i64 n] Z) (fun r=>r=⟨false,.bool true,Z⟩) ⟨⟩:=by
 have c1:decide (-1000000000<n)=true:=by simpa using b
 have a:decide (n<1000000000)=true:=by simpa using c
 refine C8 Tryz.func134 rfl rfl ?_;refine gS1 (a5N @c1 @a @D6 @D8 @Tryz.results134) ?_;try exact⟨⟩
theorem qq {Z:St}{n d:Int}(e: -1000000000<n) (f:n<1000000000) (g: -1000000000<d) (h:d<1000000000) (b:d≠0) :
  Ev (go Tryz.prog HS (.fn 72) [.int .i64 n,.int .i64 d] Z) (fun r=>∃ Z',r=⟨false,.tuple ⟨[.agg ⟨[.int .i64 (qn n d),.int .i64 (qd n d)]⟩,.bool true]⟩,Z'⟩/\Ext Z Z') ⟨⟩:=by
 have c:decide (d=0)=false:=by simpa using b
 refine C8 Tryz.func72 rfl rfl ?_;refine gS1 @c ?_;refine(Uz e f).mono ?_;rintro r rfl;refine gS1 @D6 ?_;refine(Uz g h).mono ?_;rintro r rfl;refine gS ?_;refine(HF ⟨om,om⟩ ⟨om,om⟩ b).mono ?_;rintro r ⟨Z2,rfl,a⟩;have k:=a.n;have i:Z2.A7 Z.n=some [.int .i64 0,.int .i64 0]:=by rw[a.A7 (cL)];exact cL
 have j:Ext Z Z2:=Ext.trans (eX) a;refine gS1 (aI @i @Tryz.results72) ?_;exact⟨_,rfl,eX⟩
def DS (n d:Int):Ex:= .mk K8 n d [] []
def J4 (s:By):Ex:= .mk nmB 0 0 s []
def K4 (o:By) (a b:Ex):Ex:= .mk o 0 0 [] [a,b]
theorem DT {Z:St}{s:By}:Ev (go Tryz.prog HS (.fn 30) [str s] Z) (fun r=>∃ row Z',r=⟨false,.agg ⟨row⟩,Z'⟩/\Ext Z Z'/\∀ τ,P8 τ row (J4 s)) ⟨⟩:=by
 refine C8 Tryz.func30 rfl rfl ?_;refine gS1 @Tryz.results30 ?_;exact⟨_,_,rfl,eX,fun τ=>qP⟩
theorem ZJ {Z:St}{n d:Int}(c: -1000000000<n) (e:n<1000000000) (f: -1000000000<d) (g:d<1000000000) (h:d≠0):Ev (go Tryz.prog HS (.fn 68) [.int .i64 n,.int .i64 d] Z) (fun r=>∃ row Z',r=⟨false,.agg ⟨row⟩,Z'⟩/\Ext Z Z'/\∀ τ,P8 τ row (DS (qn n d) (qd n d))) ⟨⟩:=by
 refine C8 Tryz.func68 rfl rfl ?_;refine gS ?_;refine(qq c e f g h).mono ?_;rintro r ⟨b,rfl,a⟩;have j:b.A7 Z.n=some [str [],.int .i64 0,.int .i64 0,str [],.slice none 0 0]:=by rw[a.A7 (cL)];exact cL
 have i:=a.n;simp only[G3]at i;refine gS1 (aI @j @Tryz.results68) ?_;exact⟨_,_,rfl,Ext.upd (Ext.upd (Ext.Q3 (Ext.trans (Ext.Q3 (.refl _) _) a) _) om _) om _,fun τ=>qP⟩
theorem Cx {Z:St}{o:By}{ra rb:List Value}{a b:Ex}(H:List Nat) (p:∀ q∈H,q<Z.n) (i:P8 (N5 Z H) ra a) (j:P8 (N5 Z H) rb b):Ev (go Tryz.prog HS (.fn 28) [str o,.agg ⟨ra⟩,.agg ⟨rb⟩] Z) (fun r=>∃ row Z',r=⟨false,.agg ⟨row⟩,Z'⟩/\Ext Z Z'/\P8 (N5 Z' H) row (K4 o a b)) ⟨⟩:=by
 have u:=i.len;have v:=j.len;have k:sub ra 0 5=some ra:=C9 om om;have l:sub rb 0 5=some rb:=C9 om om;refine C8 Tryz.func28 rfl rfl ?_;obtain⟨c,d,e,f,g,rfl⟩:=dZ u;obtain⟨b1,b2,b3,b4,b5,rfl⟩:=dZ v;refine gS1 (a3N @k @l @Tryz.results28) ?_;refine⟨_,_,rfl,eX,?_⟩
 have m:∀ (S:St),S=((((Z.new [c,d,e,f,g]).new [b1,b2,b3,b4,b5]).new [str [],.int .i64 0,.int .i64 0,str [],.slice none 0 0] (some 32)).new [c,d,e,f,g,b1,b2,b3,b4,b5]).upd (Z.n+1+1) [str o,.int .i64 0,.int .i64 0,str [],.slice (some ⟨Z.n+1+1+1,0,none⟩) 2 2]->Ext Z S/\S.n=Z.n+4/\S.row (Z.n+1+1+1)=some [c,d,e,f,g,b1,b2,b3,b4,b5] :=
  fun S s=>by subst s;exact⟨eX,rfl,cL⟩
 obtain⟨E,z,y⟩:=m _ rfl;exact AU3 (by rw[EY];omega) (by rw[Bx fun h=>by have:=p _ h;omega];exact y) rfl (i.I2 (I9 E)) (j.I2 (I9 E))
theorem Cl.BX {q:Nat}{Z Z':St}(hE:J9 q Z Z'):∀ {l:List (Nat×List Value)},(∀ p∈l,p.1≠q)->Cl Z l->Cl Z' l
 | [],_,_=>trivial
 | (b,cs)::l,hn,h=>⟨⟨Nat.lt_of_lt_of_le h.1.1 hE.n,by rw[hE.A7 h.1.1 (hn (b,cs) (by simp))];exact h.1.2⟩,Cl.BX hE (fun p hp=>hn p (by simp[hp])) h.2⟩
theorem MI {H:List Nat}{q:Nat}{v:Value}{l:List Int}{Z:St}{n:Int}(h:MS H q v l Z) (b:0<n) (c:n<=1000) :
  Ev (go Tryz.prog HS (.fn 26) [.pointer (some ⟨q,0,none⟩),.int .i64 n] Z) (fun r=>∃ (x:Nat) (Z':St),r=⟨false,.int .i64 (x:Nat),Z'⟩/\(x:Int)<n/\MS H q v l Z'/\J9 q Z Z') ⟨⟩:=by
 obtain⟨k,d⟩:=h.UJ;refine(qm H h.mem d h.arg h.len b c).mono ?_;rintro r ⟨x,f,Z',rfl,g,i,e,a⟩;obtain⟨X,rfl⟩:=Int.eq_ofNat_of_zero_le g;exact⟨X,Z',rfl,i,⟨h.mem,⟨f,e⟩,h.arg.I2 (a.NI h.mem),h.len⟩,a⟩
end Go.Proofs.T
namespace Go.Proofs.T
open Go Go.Ab
section
variable {n d A B:Int}{s o t:By}
structure Rng (T:Tn):Prop where
 l1:1<=T.low
 l3:T.low<=3
 h1:T.low+1<=T.high
 h5:T.high<=T.low+5
 Dn:∀ c∈T.G7,c.name≠J8/\c.name≠Bp/\c.name.length<=30/\0<=c.low/\c.low<=4/\0<=c.high/\c.high<=4
def Mx {b:Type}{p:b->Bool}:∀ {l:List b}{x:b},l.find? p=some x->x∈l/\p x=true
 | [],x,h=>by cases h
 | a::l,x,h=>by
   rw[List.find?_cons]at h;cases hp:p a with
   |true=>rw[hp]at h;cases h;exact⟨by simp,hp⟩
   |false=>rw[hp]at h;obtain⟨h1,h2⟩:=Mx h;exact⟨by simp[h1],h2⟩
def Lz {a b:Int}(c: -A<=a) (e:a<=A) (f: -B<=b) (g:b<=B): -(A*B)<=a*b/\a*b<=A*B:=by
 have h:=Int.natAbs_mul a b;have i:a.natAbs*b.natAbs<=A.natAbs*B.natAbs:=IT om om;have j:((A.natAbs*B.natAbs:Nat):Int)=A*B:=by
  rw[Int.natCast_mul,Int.natAbs_of_nonneg om,Int.natAbs_of_nonneg om]
 omega
def AM1 (f:0<n) (e:0<d):0<qn n d:=by
 unfold qn;rw[z0z om];have a:0<Int.gcd n d:=Int.gcd_pos_of_ne_zero_right _ om;obtain⟨k,b⟩:((Int.gcd n d:Nat):Int)∣n:=Int.gcd_dvd_left _ _;obtain⟨g,hgg⟩:=nW (Int.gcd n d);rw[hgg]at b a ⊢;have c:n / (g:Int)=k:=by rw[b,Ue _ om]
 rw[c];rcases Int.lt_or_le 0 k with h|h
 ·exact h
 ·exfalso;have:=Int.mul_nonpos_of_nonneg_of_nonpos (show(0:Int)<=(g:Int) by omega) h;omega
def rq1 (a: -1000000000<n) (b:n<1000000000):RS n 1:=⟨a,b,om,om,by simp[Int.gcd]⟩
def Whole (A B:Int):Jc:=fun a b=>b=1/\A<=a/\a<=B
def Whole.rq (c: -1000000000<A) (e:B<1000000000) (h:Whole A B n d):RS n d:=by
 obtain⟨rfl,a,b⟩:=h;exact rq1 om om
section
variable {T:Tn}
def WU (T:Tn):N4 T J8=(T.low,T.high,true):=by unfold N4;rw[z1z rfl]
def dK (T:Tn):N4 T Bp=(T.low,T.high,true):=by unfold N4;rw[z0z (by decide),z1z rfl]
def Yf (h:Rng T)(g:s≠J8) (i:s≠Bp) (e:(N4 T s).2.2=true):0<=(N4 T s).1/\(N4 T s).1<=4/\0<=(N4 T s).2.1/\(N4 T s).2.1<=4:=by
 unfold N4 at e ⊢;rw[z0z g,z0z i]at e ⊢;cases f:T.G7.find? (fun x=>decide (x.name=s))with
 |none=>rw[f]at e;cases e
 | some x=>
   obtain⟨-,-,-,a,b,c,d⟩:=h.Dn x (Mx f).1;exact⟨a,b,c,d⟩
def My (s:By) (c:s=J8\/s=Bp):Iv T (J4 s) (fun a b=>b=1/\(a=T.low\/a=T.high)):=by
 refine .name fun _=>?_;rcases c with rfl|rfl
 ·rw[WU];exact⟨⟨rfl,.inl rfl⟩,⟨rfl,.inr rfl⟩⟩
 ·rw[dK];exact⟨⟨rfl,.inl rfl⟩,⟨rfl,.inr rfl⟩⟩
def Kk (h:Rng T)(e:s≠J8) (f:s≠Bp):Iv T (J4 s) (Whole 0 4) :=
 .name fun g=>by obtain⟨a,b,c,d⟩:=Yf h e f g;exact⟨⟨rfl,a,b⟩,⟨rfl,c,d⟩⟩
structure Wt (n d:Int):Prop where
 rq:RS n d
 n1:1<=n
 n9:n<=9
 d10:d<=10
 dec:(1000000:Int) % d=0
def Yg:Iv T (DS n d) (fun a b=>a=n/\b=d):= .num ⟨rfl,rfl⟩
def MA (h:Wt n d):FOk 1 (DS n d):= .num h.rq (by have:=h.n1;omega) h.dec
def pO {A B P:Jc}(h:∀ n d m e,A n d->B m e->P (qn (n*e+m*d) (d*e)) (qd (n*e+m*d) (d*e))):OpP FL A B P:=by unfold OpP;rw[z1z rfl];exact h
def AM2 {A B P:Jc}(h:∀ n d m e,A n d->B m e->P (qn (n*e-m*d) (d*e)) (qd (n*e-m*d) (d*e))):OpP Jj A B P:=by unfold OpP;rw[z0z (by decide),z1z rfl];exact h
def pP {A B P:Jc}(h:∀ n d m e,A n d->B m e->P (qn (n*m) (d*e)) (qd (n*m) (d*e))):OpP Hx A B P:=by unfold OpP;rw[z0z (by decide),z0z (by decide),z1z rfl];exact h
def gm {A B P:Jc}(h:∀ n d m e,A n d->B m e->m≠0/\P (qn (n*e) (d*m)) (qd (n*e) (d*m))):OpP Dm A B P:=by unfold OpP;rw[z0z (by decide),z0z (by decide),z0z (by decide),z1z rfl];exact h
def BD4 {A B P:Jc}(c:o=Q7\/o=R4) (a:∀ n d,A n d->P n d) (b:∀ n d,B n d->P n d):OpP o A B P:=by
 unfold OpP;rcases c with rfl|rfl
 ·rw[z0z (by decide),z0z (by decide),z0z (by decide),z0z (by decide)];exact⟨a,b⟩
 ·rw[z0z (by decide),z0z (by decide),z0z (by decide),z0z (by decide)];exact⟨a,b⟩
def IU {a b:Ex}{A B P:Jc}(c:o≠K8) (e:o≠nmB) (i:Iv T a A) (j:Iv T b B) (f:∀ n d,A n d->RS n d) (g:∀ n d,B n d->RS n d) (h:OpP o A B P):Iv T (K4 o a b) P:= .op c e i j f g h
def Mz (h:Rng T):∀ n d,(d=1/\(n=T.low\/n=T.high))->RS n d:=by
 rintro n d ⟨rfl,a⟩;have:=h.l1;have:=h.l3;have:=h.h1;have:=h.h5;exact rq1 om om
def Yh (h:Wt n d):∀ a b,(a=n/\b=d)->RS a b:=by rintro a b ⟨rfl,rfl⟩;exact h.rq
def iv0 (h:Rng T)(w:Wt n d):Iv T (K4 Hx (DS n d) (K4 Dm (J4 Bp) (J4 J8))) (BdQ 80 144):=by
 have l:=h.l1;have p:=h.l3;have q:=h.h1;have r:=h.h5;have u:=w.n1;have v:=w.n9;have y:=w.d10;have z:=w.rq.d1;have f:Iv T (K4 Dm (J4 Bp) (J4 J8)) (BdQ 8 8):=by
  refine IU (by decide) (by decide) (My Bp (.inr rfl)) (My J8 (.inl rfl)) (Mz h) (Mz h) (gm ?_);rintro n d m e ⟨rfl,E⟩ ⟨rfl,D⟩;exact⟨om,Tz om om om om om om om⟩
 refine IU (by decide) (by decide) Yg f (Yh w) (fun _ _ h=>h.1) (pP ?_);rintro a b m e ⟨rfl,rfl⟩ ⟨c,g,i,j⟩;have C:=c.d1;have F:=Lz (a:=a) (b:=m) (A:=9) (B:=8) om om g i;have G:=Lz (a:=b) (b:=e) (A:=10) (B:=8) om om om j;have k:b*e≠0:=Int.mul_ne_zero om om;exact Tz k om om om om om om
def iv2 (w:Wt n d):Iv T (DS n d) (BdQ 80 144):= .num ⟨w.rq,by have:=w.n1;omega,by have:=w.n9;omega,by have:=w.d10;omega⟩
def iv3 (h:Rng T)(w:Wt n d)(c:s≠J8) (f:s≠Bp):Iv T (K4 Hx (DS n d) (J4 s)) (BdQ 80 144):=by
 have g:=w.n1;have i:=w.n9;have j:=w.d10;have k:=w.rq.d1;refine IU (by decide) (by decide) Yg (Kk h c f) (Yh w) (fun _ _ h=>h.rq om om) (pP ?_);rintro a b m e ⟨rfl,rfl⟩ ⟨rfl,l,p⟩;have q:=Lz (a:=a) (b:=m) (A:=9) (B:=4) om om om om;exact Tz om om om om om om om
def iv5 (h:Rng T)(w:Wt n d)(f:s≠J8) (g:s≠Bp) (e:o=Q7\/o=R4):Iv T (K4 o (J4 s) (DS n d)) (BdQ 80 144):=by
 have j:=w.n1;have k:=w.n9;have l:=w.d10;have m:=w.rq.d1;refine IU (by rcases e with rfl|rfl<;>decide) (by rcases e with rfl|rfl<;>decide) (Kk h f g) Yg (fun _ _ h=>h.rq om om) (Yh w) (BD4 e ?_ ?_)
 ·intro a b c;have i:=c.rq om om;obtain⟨rfl,p,q⟩:=c;exact⟨i,om,om,om⟩
 ·rintro a b ⟨rfl,rfl⟩;exact⟨w.rq,om,om,om⟩
def iv6 (h:Rng T)(c:s≠J8) (f:s≠Bp) (g:t≠J8) (i:t≠Bp):Iv T (K4 Hx (J4 s) (J4 t)) (BdQ 80 144):=by
 refine IU (by decide) (by decide) (Kk h c f) (Kk h g i) (fun _ _ h=>h.rq om om) (fun _ _ h=>h.rq om om) (pP ?_);rintro a b m e ⟨rfl,j,k⟩ ⟨rfl,l,p⟩;have q:=Lz (a:=a) (b:=m) (A:=4) (B:=4) om om om om;exact Tz om om om om om om om
def iv7 (h:Rng T)(w:Wt n d)(f:s≠J8) (g:s≠Bp) (i:t≠J8) (j:t≠Bp):Iv T (K4 Dm (J4 s) (K4 FL (DS n d) (J4 t))) (BdQ 80 144):=by
 have v:=w.n1;have y:=w.n9;have z:=w.d10;have C:=w.rq.d1;have l:Iv T (K4 FL (DS n d) (J4 t)) (fun a b=>BdQ 49 10 a b/\0<a):=by
  refine IU (by decide) (by decide) Yg (Kk h i j) (Yh w) (fun _ _ h=>h.rq om om) (pO ?_);rintro a b m e ⟨rfl,rfl⟩ ⟨rfl,c,p⟩;have q:=Lz (a:=m) (b:=b) (A:=4) (B:=10) om om om om;have G:0<=m*b:=Int.mul_nonneg c om;exact⟨Tz om om om om om om om,AM1 om om⟩
 refine IU (by decide) (by decide) (Kk h f g) l (fun _ _ h=>h.rq om om) (fun _ _ h=>h.1.1) (gm ?_);rintro a b m e ⟨rfl,r,u⟩ ⟨⟨k,c,p,E⟩,F⟩;have D:=k.d1;have q:=Lz (a:=a) (b:=e) (A:=4) (B:=10) om om om om;exact⟨om,Tz om om om om om om om⟩
end
end
section
variable {n d:Int}
def dds:List Int:=[1,2,10,4]
def Am3:(([1,2,3,4,5,6,7,8,9]:List Int).all fun n=>dds.all fun d=>decide ((1000000:Int) % qd n d=0))=true:=kR
def AS1 (a:1<=n) (b:n<=9):n∈([1,2,3,4,5,6,7,8,9]:List Int):=by
 have:n=1\/n=2\/n=3\/n=4\/n=5\/n=6\/n=7\/n=8\/n=9:=om
 simpa using this
def wF (h:d∈dds):1<=d/\d<=10:=by
 have:d=1\/d=2\/d=10\/d=4:=by simpa[dds]using h
 omega
def kG (f:1<=n) (g:n<=9) (h:d∈dds):Wt (qn n d) (qd n d):=by
 obtain⟨k,d10⟩:=wF h;obtain⟨a,b,c,e⟩:=gX (n:=n) (d:=d) (N:=9) (D:=10) om om om om om;refine⟨⟨om,om,c,om,(YT om).1⟩,?_,b,e,?_⟩
 ·have:=AM1 (n:=n) (d:=d) om om;omega
 ·have i:=GY.1 Am3 n (AS1 f g);have j:=GY.1 i d h;exact z6z j
def q1f (x y:Int):Int×Int:=(qn (x*1) (1*y),qd (x*1) (1*y))
def q2f (p:Int×Int):Int×Int:=(qn (1*p.2-p.1*1) (1*p.2),qd (1*p.2-p.1*1) (1*p.2))
def q3f (p w:Int×Int):Int×Int:=(qn (p.1*w.2) (p.2*w.1),qd (p.1*w.2) (p.2*w.1))
def okf (s:Int×Int):Bool:=decide (-80<=s.1)&&decide (s.1<=80)&&decide (s.2<=144)
def BS2:(([1,2,3]:List Int).all fun lo=>([1,2,3,4,5]:List Int).all fun df=>[lo,lo+df].all fun x=>[lo+lo,lo+(lo+df),(lo+df)+(lo+df)].all fun y=>
  ([1,2,3,4,5,6,7,8,9]:List Int).all fun n=>dds.all fun d=>okf (q3f (q2f (q1f x y)) (qn n d,qd n d)))=true:=kR
def xH {lo df x y:Int}(o:1<=lo) (p:lo<=3) (q:1<=df) (r:df<=5) (j:x=lo\/x=lo+df) (k:y=lo+lo\/y=lo+(lo+df)\/y=(lo+df)+(lo+df)) (l:1<=n) (m:n<=9) (i:d∈dds):
  okf (q3f (q2f (q1f x y)) (qn n d,qd n d))=true:=by
 have g:lo=1\/lo=2\/lo=3:=om;have a:=GY.1 BS2 lo (by simpa using g);have h:df=1\/df=2\/df=3\/df=4\/df=5:=om;have b:=GY.1 a df (by simpa using h);have c:=GY.1 b x (by simpa using j);have e:=GY.1 c y (by simpa using k);have f:=GY.1 e n (AS1 l m);exact GY.1 f d i
def iv1 {T:Tn}(h:Rng T)(r:1<=n) (s:n<=9) (q:d∈dds):
  Iv T (K4 Dm (K4 Jj (DS 1 1) (K4 Dm (J4 J8) (K4 FL (J4 J8) (J4 Bp)))) (DS (qn n d) (qd n d))) (BdQ 80 144):=by
 have H:=h.l1;have I:=h.l3;have J:=h.h1;have K:=h.h5;have w:=kG r s q;obtain⟨lo,c⟩:=nW T.low;obtain⟨df,hdf⟩:∃ df,T.high=lo+df:=⟨T.high-lo,om⟩
 have z:Iv T (K4 FL (J4 J8) (J4 Bp)) (fun a b=>b=1/\(a=lo+lo\/a=lo+(lo+df)\/a=(lo+df)+(lo+df))):=by
  refine IU (by decide) (by decide) (My J8 (.inl rfl)) (My Bp (.inr rfl)) (Mz h) (Mz h) (pO ?_);rintro n d m e ⟨rfl,f⟩ ⟨rfl,j⟩;have g:=qF (n:=n*1+m*1) (d:=1*1) om (by simp[Int.gcd]);rw[g.1,g.2];rw[c,hdf]at f j;exact⟨om,om⟩
 have r1:∀ n d,(d=1/\(n=lo+lo\/n=lo+(lo+df)\/n=(lo+df)+(lo+df)))->RS n d:=by
  rintro n d ⟨rfl,f⟩;exact rq1 om om
 have B:Iv T (K4 Dm (J4 J8) (K4 FL (J4 J8) (J4 Bp))) (fun a b=>BdQ 8 16 a b/\∃ x y,(x=lo\/x=lo+df)/\(y=lo+lo\/y=lo+(lo+df)\/y=(lo+df)+(lo+df))/\(a,b)=q1f x y):=by
  refine IU (by decide) (by decide) (My J8 (.inl rfl)) z (Mz h) r1 (gm ?_);rintro n d m e ⟨rfl,f⟩ ⟨rfl,j⟩;rw[c,hdf]at f;exact⟨om,Tz om om om om om om om,n,m,f,j,rfl⟩
 have C:Iv T (K4 Jj (DS 1 1) (K4 Dm (J4 J8) (K4 FL (J4 J8) (J4 Bp)))) (fun a b=>BdQ 24 16 a b/\∃ x y,(x=lo\/x=lo+df)/\(y=lo+lo\/y=lo+(lo+df)\/y=(lo+df)+(lo+df))/\(a,b)=q2f (q1f x y)):=by
  refine IU (by decide) (by decide) (A:=fun a b=>a=1/\b=1) (.num ⟨rfl,rfl⟩) B (by rintro a b ⟨rfl,rfl⟩;exact rq1 om om) (fun _ _ h=>h.1.1) (AM2 ?_);rintro n d m e ⟨rfl,rfl⟩ ⟨⟨l,D,E,F⟩,x,y,o,p,k⟩;have g:=l.d1;refine⟨Tz om om om om om om om,x,y,o,p,?_⟩;rw[<- k];rfl
 refine IU (by decide) (by decide) C Yg (fun _ _ h=>h.1.1) (Yh w) (gm ?_);rintro a b m e ⟨⟨l,D,E,F⟩,x,y,o,p,k⟩ ⟨rfl,rfl⟩;have L:=w.n1;have M:=w.n9;have N:=w.d10;have O:=w.rq.d1;have g:=l.d1;refine⟨om,?_⟩;have i:=xH (lo:=lo) (df:=df) om om om om o p r s q;rw[<- k]at i;unfold okf q3f at i;simp only[R2,EO]at i;obtain⟨⟨c1,u⟩,v⟩:=i;have G:b*qn n d≠0:=Int.mul_ne_zero om om;obtain⟨g1,g2⟩:=YT (n:=a*qd n d) G;exact⟨⟨om,om,g2,om,g1⟩,c1,u,v⟩
end
end Go.Proofs.T
