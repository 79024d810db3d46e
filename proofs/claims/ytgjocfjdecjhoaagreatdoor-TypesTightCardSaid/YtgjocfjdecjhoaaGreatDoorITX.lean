/- AU8 of R7, as exact Ap9 numbers, and how UK lie in DP. -/
import Derived.Test.YtgjocfjdecjhoaaGreatDoorITYA
set_option linter.unusedSimpArgs false
set_option linter.unusedVariables false
set_option linter.defProp false
set_option maxHeartbeats 32000000
set_option maxRecDepth 100000
namespace Go.Proofs.T
open Go Go.Ab Go.N9
section
variable {d n:Int}{s:By->Int}{op nm:By}
def rat (q:Q):Rat:=(q.n:Rat) / (q.d:Rat)
def cast_pos (h:1<=d):(0:Rat)<(d:Rat):=Rat.intCast_pos.2 om
def Cw {q:Q}(h:1<=q.d):rat q*(q.d:Rat)=(q.n:Rat):=Rat.div_mul_cancel (Rat.ne_of_gt (cast_pos h))
def NK {a b c:Rat}(e:0<c) (h:a*c=b*c):a=b :=
 Rat.le_antisymm (Rat.le_of_mul_le_mul_right (by rw[h];exact Rat.le_refl) e) (Rat.le_of_mul_le_mul_right (by rw[h];exact Rat.le_refl) e)
def ID {a b:Q}(c:1<=a.d) (e:1<=b.d):leQ a b↔rat a<=rat b:=by
 have i:=Cw c;have j:=Cw e;have p:(0:Rat)<(a.d:Rat)*(b.d:Rat):=Rat.mul_pos (cast_pos c) (cast_pos e);have f:((a.n*b.d:Int):Rat)=rat a*((a.d:Rat)*(b.d:Rat)):=by rw[Rat.intCast_mul,<- i,Rat.mul_assoc]
 have g:((b.n*a.d:Int):Rat)=rat b*((a.d:Rat)*(b.d:Rat)):=by rw[Rat.intCast_mul,<- j,Rat.mul_assoc,Rat.mul_comm (b.d:Rat)]
 unfold leQ;rw[<- Rat.intCast_le_intCast,f,g];constructor
 ·exact fun h=>Rat.le_of_mul_le_mul_right h p
 ·exact fun h=>Rat.mul_le_mul_of_nonneg_right h (Rat.le_of_lt p)
def Wj {q:Q}{N D:Int}(b:1<=q.d) (h:Is q N D):rat q*(D:Rat)=(N:Rat):=by
 refine NK (cast_pos b) ?_;have c:=Cw b;have a:((q.n*D:Int):Rat)=((N*q.d:Int):Rat):=by rw[show q.n*D=N*q.d from h]
 rw[Rat.intCast_mul,Rat.intCast_mul]at a;rw[<- a,<- c,Rat.mul_assoc,Rat.mul_assoc,Rat.mul_comm (D:Rat)]
def Ge {a b q:Q}(c:a.Ok) (e:b.Ok) (h:QI a b=some q):q.Ok/\rat q=rat a+rat b:=by
 obtain⟨f,g⟩:=QX c e h;refine⟨f,?_⟩;have k:=Wj f.d1 g;have i:=Cw c.d1;have j:=Cw e.d1;refine NK (Rat.mul_pos (cast_pos c.d1) (cast_pos e.d1)) ?_;rw[Rat.intCast_mul,Rat.intCast_add,Rat.intCast_mul,Rat.intCast_mul]at k;rw[k,<- i,<- j]
 grind
def Gf {a b q:Q}(c:a.Ok) (e:b.Ok) (h:Ry a b=some q):q.Ok/\rat q=rat a-rat b:=by
 obtain⟨f,g⟩:=QY c e h;refine⟨f,?_⟩;have k:=Wj f.d1 g;have i:=Cw c.d1;have j:=Cw e.d1;refine NK (Rat.mul_pos (cast_pos c.d1) (cast_pos e.d1)) ?_;rw[Rat.intCast_mul,Rat.intCast_add,Rat.intCast_mul,Rat.intCast_mul,Rat.intCast_neg]at k;rw[k,<- i,<- j]
 grind
def Au {a b q:Q}(c:a.Ok) (e:b.Ok) (h:UC a b=some q):q.Ok/\rat q=rat a*rat b:=by
 obtain⟨f,g⟩:=WM c e h;refine⟨f,?_⟩;have k:=Wj f.d1 g;have i:=Cw c.d1;have j:=Cw e.d1;refine NK (Rat.mul_pos (cast_pos c.d1) (cast_pos e.d1)) ?_;rw[Rat.intCast_mul,Rat.intCast_mul]at k;rw[k,<- i,<- j]
 grind
def Fe {a b q:Q}(c:a.Ok) (g:b.Ok) (i:0<b.n) (h:Ir a b=some q):q.Ok/\rat q*rat b=rat a:=by
 obtain⟨e,-,f⟩:=Ga c h;refine⟨e,?_⟩;rw[Int.sign_eq_one_of_pos i,Int.one_mul,Int.natAbs_of_nonneg om]at f;have k:=Wj e.d1 f;have j:=Cw c.d1;have l:=Cw g.d1;refine NK (Rat.mul_pos (cast_pos c.d1) (cast_pos g.d1)) ?_;rw[Rat.intCast_mul,Rat.intCast_mul]at k;rw[<- j,<- l]at k
 grind
def QZ {b:Q}(a:1<=b.d) (h:0<b.n):0<rat b:=by
 have k:=Cw a;have:(0:Rat)<rat b*(b.d:Rat):=by rw[k];exact Rat.intCast_pos.2 h
 exact(Rat.mul_pos_iff_of_pos_right (cast_pos a)).1 this
def neg_mul_neg (a b:Rat): -a* -b=a*b:=by rw[Rat.neg_mul,Rat.mul_neg,Rat.neg_neg]
def NL {a c d y m:Rat}(f:m<=a*c) (g:m<=a*d) (i:c<=y) (j:y<=d):m<=a*y:=by
 rcases Rat.le_total (a:=0) (b:=a)with h|h
 ·exact Rat.le_trans f (Rat.mul_le_mul_of_nonneg_left i h)
 ·have e:0<= -a:=by have:=Rat.neg_le_neg h;rwa [Rat.neg_zero]at this
  have k:=Rat.mul_le_mul_of_nonneg_left (Rat.neg_le_neg j) e;rw[neg_mul_neg,neg_mul_neg]at k;exact Rat.le_trans g k
def Rz {a c d y m:Rat}(b:a*c<=m) (e:a*d<=m) (f:c<=y) (g:y<=d):a*y<=m:=by
 have k:=NL (a:= -a) (c:=c) (d:=d) (y:=y) (m:= -m) (by rw[Rat.neg_mul];exact Rat.neg_le_neg b) (by rw[Rat.neg_mul];exact Rat.neg_le_neg e) f g;rw[Rat.neg_mul]at k;exact Rat.neg_le_neg_iff.1 k
def Qh {a b c d x y m M:Rat}(o:m<=a*c) (p:m<=a*d) (q:m<=b*c) (r:m<=b*d) (u:a*c<=M) (v:a*d<=M) (z:b*c<=M) (A:b*d<=M)
  (g:a<=x) (h:x<=b) (e:c<=y) (f:y<=d):m<=x*y/\x*y<=M:=by
 have i:=NL o p e f;have j:=NL q r e f;have k:=Rz u v e f;have l:=Rz z A e f;rw[Rat.mul_comm a y]at i k;rw[Rat.mul_comm b y]at j l;rw[Rat.mul_comm x y];exact⟨NL i j g h,Rz k l g h⟩
def Wk {c y:Rat}(a:0<c) (h:c<=y):y⁻¹<=c⁻¹:=by
 have b:0<y:=by
  rcases Rat.le_iff_lt_or_eq.1 h with k|k
  ·grind
  ·rw[<- k];exact a
 have e:c*c⁻¹=1:=Rat.mul_inv_cancel _ (Rat.ne_of_gt a);have f:y*y⁻¹=1:=Rat.mul_inv_cancel _ (Rat.ne_of_gt b);have p:=Rat.mul_pos a b;refine Rat.le_of_mul_le_mul_right (c:=c*y) ?_ p;have g:y⁻¹*(c*y)=c*(y*y⁻¹):=by rw[Rat.mul_comm c y,<- Rat.mul_assoc,Rat.mul_comm y⁻¹ y,Rat.mul_comm]
 have i:c⁻¹*(c*y)=y*(c*c⁻¹):=by rw[<- Rat.mul_assoc,Rat.mul_comm c⁻¹ c,Rat.mul_comm]
 rw[g,i,e,f,Rat.mul_one,Rat.mul_one];exact h
def IE {q x y:Rat}(a:0<y) (h:q*y=x):q=x*y⁻¹:=by
 rw[<- h,Rat.mul_assoc,Rat.mul_inv_cancel _ (Rat.ne_of_gt a),Rat.mul_one]
def opV (op:By) (x y:Q):Option Q :=
 if op=[43]then QI x y
 else if op=[45]then Ry x y
 else if op=[42]then UC x y
 else if op=[47]then Ir x y
 else if op=Q7 then some (if AJ x y<0 then x else y)
 else some (if AJ x y<0 then y else x)
mutual
def Fs (s:By->Int):Ex->Option Q
 | .mk op n d nm args=>match args with
   | []=>if op=K8 then some ⟨n,d⟩else some (ofQ (s nm))
   | e::es=>match Fs s e with
     |none=>none
     | some x=>match yF s es with
       |some [y]=>opV op x y
       |_=>none
def yF (s:By->Int):List Ex->Option (List Q)
 | []=>some []
 | e::es=>match Fs s e with
   |none=>none
   | some x=>match yF s es with
     |none=>none
     |some xs=>some (x::xs)
end
def Bz:Fs s (.mk op n d nm [])=if op=K8 then some ⟨n,d⟩else some (ofQ (s nm)):=by unfold Fs;rfl
def EZ {a b:Ex}:Fs s (.mk op n d nm [a,b])=(Fs s a).bind fun x=>(Fs s b).bind fun y=>opV op x y:=by
 rw[Fs.eq_2];cases Fs s a with
 |none=>rfl
 | some x=>
   rw[yF.eq_2];cases Fs s b with
   |none=>rfl
   |some y=>rw[yF.eq_1];rfl
def Yx {a b:Q}:AJ b a= -AJ a b:=by
 unfold AJ;rw[<- Int.sign_neg];congr 1;omega
instance {a b:Q}:Decidable (leQ a b):=by unfold leQ;exact inferInstance
def yG {x y:Q}(e:x.Ok) (f:y.Ok):(if AJ x y<0 then x else y)=CG x [y]:=by
 show _=if AJ y x<0 then y else x
 by_cases b:AJ x y<0
 ·have a:¬ AJ y x<0:=by rw[Yx];omega
  rw[z1z b,z0z a]
 ·by_cases a:AJ y x<0
  ·rw[z0z b,z1z a]
  ·rw[z0z b,z0z a];have g:leQ y x:=Decidable.byContradiction fun c=>b (Qi.2 c);have h:leQ x y:=Decidable.byContradiction fun c=>a (Qi.2 c);exact qT f e g h
def yH {x y:Q}:(if AJ x y<0 then y else x)=CH x [y]:=by
 show _=if 0<AJ y x then y else x
 have e:=@Yx x y;by_cases h:AJ x y<0
 ·rw[z1z h,z1z om]
 ·rw[z0z h,z0z om]
def Btw (x:QQ) (v:Q):Prop:=v.Ok/\leQ x.1 v/\leQ v x.2
def Hm {m:Q}{l:List Q}(b:∀ x∈m::l,x.Ok):∀ x∈m::l,rat (CG m l)<=rat x:=by
 intro x a;have c:=b m (HV ..);obtain⟨-,e,f⟩:=Wl c fun x a=>b x (De _ a);have k:=NM c fun x a=>b x (De _ a);rcases W1.1 a with rfl|h
 ·exact(ID k.d1 c.d1).1 e
 ·exact(ID k.d1 (b x a).d1).1 (f x h)
def Hn {m:Q}{l:List Q}(b:∀ x∈m::l,x.Ok):∀ x∈m::l,rat x<=rat (CH m l):=by
 intro x a;have c:=b m (HV ..);obtain⟨-,e,f⟩:=Wm c fun x a=>b x (De _ a);have k:=NO c fun x a=>b x (De _ a);rcases W1.1 a with rfl|h
 ·exact(ID c.d1 k.d1).1 e
 ·exact(ID (b x a).d1 k.d1).1 (f x h)
def NP {m:Q}{l:List Q}(a:∀ x∈m::l,x.Ok):CG m l∈m::l:=by
 rcases(Wl (a m (HV ..)) fun x b=>a x (De _ b)).1 with e|e
 ·rw[e];exact HV ..
 ·exact De _ e
def NQ {m:Q}{l:List Q}(a:∀ x∈m::l,x.Ok):CH m l∈m::l:=by
 rcases(Wm (a m (HV ..)) fun x b=>a x (De _ b)).1 with e|e
 ·rw[e];exact HV ..
 ·exact De _ e
end
def Op6 (op:By):Prop:=op=[43]\/op=[45]\/op=[42]\/op=[47]\/op=Q7\/op=R4
def Cu (op:By) (x y:QQ) (w:Q):Prop:=∃ u v,(u=x.1\/u=x.2)/\(v=y.1\/v=y.2)/\opV op u v=some w
def EJ {f:Q->Q->Option Q}{p q:Q×Q}{z:QQ}:BI f [p,q]= .ok z↔∃ x y,f p.1 p.2=some x/\f q.1 q.2=some y/\z=(CG x [y],CH x [y]):=by
 unfold BI;rw[nj];cases a:f p.1 p.2 with
 |none=>simp
 | some x=>
   cases b:f q.1 q.2 with
   |none=>simp
   |some y=>simp[TY,eq_comm]
def DM {f:Q->Q->Option Q}{p q r s:Q×Q}{z:QQ}:BI f [p,q,r,s]= .ok z↔∃ x y u v,f p.1 p.2=some x/\f q.1 q.2=some y/\f r.1 r.2=some u/\f s.1 s.2=some v/\z=(CG x [y,u,v],CH x [y,u,v]):=by
 unfold BI;rw[eB];cases a:f p.1 p.2 with
 |none=>simp
 | some x=>
   cases b:f q.1 q.2 with
   |none=>simp
   | some y=>
     cases c:f r.1 r.2 with
     |none=>simp
     | some u=>
       cases d:f s.1 s.2 with
       |none=>simp
       |some v=>simp[TY,eq_comm]
def eD {op:By}{x y z:Q}(c:Op6 op) (a:x.Ok) (b:y.Ok) (h:opV op x y=some z):z.Ok:=by
 unfold opV at h;rcases c with rfl|rfl|rfl|rfl|rfl|rfl
 ·exact(Ge a b h).1
 ·exact(Gf a b h).1
 ·exact(Au a b h).1
 ·exact(Ga a h).1
 ·simp(decide:=true) only[GZ,FB]at h;cases h;split<;>assumption
 ·simp(decide:=true) only[GZ,FB]at h;cases h;split<;>assumption
def Qr {x y:QQ}:opI [43] x y=BI QI [(x.1,y.1),(x.2,y.2)]:=rfl
def Qs {x y:QQ}:opI [45] x y=BI Ry [(x.1,y.2),(x.2,y.1)]:=rfl
def Qt {x y:QQ}:opI [42] x y=BI UC (N6 x y):=rfl
def Qu {x y:QQ}:opI [47] x y=if y.1.n<=0/\0<=y.2.n then .error 15 else BI Ir (N6 x y):=rfl
def Qv {x y:QQ}:opI Q7 x y= .ok (CG x.1 [y.1],CG x.2 [y.2]):=rfl
def RA {x y:QQ}:opI R4 x y= .ok (CH x.1 [y.1],CH x.2 [y.2]):=rfl
def Nv {u v:Q}(a:u.Ok) (b:v.Ok):opV Q7 u v=some (CG u [v]):=by rw[<- yG a b];rfl
def Nw {u v:Q}:opV R4 u v=some (CH u [v]):=by rw[<- yH];rfl
def Hu {a b:Q}(d:a.Ok) (e:b.Ok):∀ x∈[a,b],x.Ok:=by
 intro x c;simp only[W1,EP,EK]at c;rcases c with rfl|rfl<;>assumption
def Lk {a b c d:Q}(f:a.Ok) (g:b.Ok) (h:c.Ok) (i:d.Ok):∀ x∈[a,b,c,d],x.Ok:=by
 intro x e;simp only[W1,EP,EK]at e;rcases e with rfl|rfl|rfl|rfl<;>assumption
def Tf {op:By}(C:Op6 op){x y z:QQ}(f:Dr x) (l:Dr y) (h:opI op x y= .ok z):Cu op x y z.1/\Cu op x y z.2:=by
 have j:∀ {w},opV op x.1 y.1=some w->Cu op x y w:=fun h=>⟨_,_,.inl rfl,.inl rfl,h⟩
 have n:∀ {w},opV op x.1 y.2=some w->Cu op x y w:=fun h=>⟨_,_,.inl rfl,.inr rfl,h⟩
 have o:∀ {w},opV op x.2 y.1=some w->Cu op x y w:=fun h=>⟨_,_,.inr rfl,.inl rfl,h⟩
 have k:∀ {w},opV op x.2 y.2=some w->Cu op x y w:=fun h=>⟨_,_,.inr rfl,.inr rfl,h⟩
 have ok:=@eD op;have two:∀ {a b:Q},a.Ok->b.Ok->Cu op x y a->Cu op x y b->Cu op x y (CG a [b])/\Cu op x y (CH a [b]):=by
  intro a b r s g i;have u:=NP (Hu r s);have v:=NQ (Hu r s);simp only[W1,EP,EK]at u v;constructor
  ·rcases u with e|e<;>(rw[e];assumption)
  ·rcases v with e|e<;>(rw[e];assumption)
 have m:∀ {a b c d:Q},a.Ok->b.Ok->c.Ok->d.Ok->Cu op x y a->Cu op x y b->Cu op x y c->Cu op x y d->Cu op x y (CG a [b,c,d])/\Cu op x y (CH a [b,c,d]):=by
  intro a b c d r s A B g i p q;have u:=NP (Lk r s A B);have v:=NQ (Lk r s A B);simp only[W1,EP,EK]at u v;constructor
  ·rcases u with e|e|e|e<;>(rw[e];assumption)
  ·rcases v with e|e|e|e<;>(rw[e];assumption)
 rcases C with rfl|rfl|rfl|rfl|rfl|rfl
 ·rw[Qr,EJ]at h;obtain⟨a,b,g,i,rfl⟩:=h;exact two (Ge f.1 l.1 g).1 (Ge f.2 l.2 i).1 (j g) (k i)
 ·rw[Qs,EJ]at h;obtain⟨a,b,g,i,rfl⟩:=h;exact two (Gf f.1 l.2 g).1 (Gf f.2 l.1 i).1 (n g) (o i)
 ·rw[Qt,N6,DM]at h;obtain⟨a,b,c,d,g,i,p,q,rfl⟩:=h;exact m (Au f.1 l.1 g).1 (Au f.1 l.2 i).1 (Au f.2 l.1 p).1 (Au f.2 l.2 q).1 (j g) (n i) (o p) (k q)
 ·rw[Qu]at h;split at h
  ·cases h
  rw[N6,DM]at h;obtain⟨a,b,c,d,g,i,p,q,rfl⟩:=h;exact m (Ga f.1 g).1 (Ga f.1 i).1 (Ga f.2 p).1 (Ga f.2 q).1 (j g) (n i) (o p) (k q)
 ·rw[Qv]at h;cases h;exact⟨j (Nv f.1 l.1),k (Nv f.2 l.2)⟩
 ·rw[RA]at h;cases h;exact⟨j Nw,k Nw⟩
def Ad5 {z:QQ}{w:Q}(b:Dr z) (a:w.Ok) (c:rat z.1<=rat w) (d:rat w<=rat z.2):Btw z w:=⟨a,(ID b.1.d1 a.d1).2 c,(ID a.d1 b.2.d1).2 d⟩
def gC {a b c d:Rat}(e:a<=b) (f:c<=d):a+c<=b+d:=Rat.le_trans (Rat.add_le_add_right.2 e) (Rat.add_le_add_left.2 f)
def sub_le {a b c d:Rat}(e:a<=b) (f:c<=d):a-d<=b-c:=by
 rw[Rat.sub_eq_add_neg,Rat.sub_eq_add_neg];exact gC e (Rat.neg_le_neg f)
def AF6 {op:By}(R:Op6 op){x y z:QQ}(g:Dr x) (f:Dr y) (S:op=[47]->0<y.1.n/\0<y.2.n) (h:opI op x y= .ok z){u v w:Q}(p:Btw x u) (i:Btw y v) (r:opV op u v=some w):Btw z w:=by
 have U:=SP g f h;have V:=eD R p.1 i.1 r;have D:=(ID g.1.d1 p.1.d1).1 p.2.1;have E:=(ID p.1.d1 g.2.d1).1 p.2.2;have F:=(ID f.1.d1 i.1.d1).1 i.2.1;have G:=(ID i.1.d1 f.2.d1).1 i.2.2;refine Ad5 U V ?_ ?_<;>clear U
 all_goals rcases R with rfl|rfl|rfl|rfl|rfl|rfl
 ·rw[Qr,EJ]at h;obtain⟨a,b,B,C,rfl⟩:=h;obtain⟨q,j⟩:=Ge g.1 f.1 B;obtain⟨k2,o⟩:=Ge g.2 f.2 C;rw[(Ge p.1 i.1 r).2];exact Rat.le_trans (Hm (Hu q k2) a (by simp)) (j ▸ gC D F)
 ·rw[Qs,EJ]at h;obtain⟨a,b,B,C,rfl⟩:=h;obtain⟨q,j⟩:=Gf g.1 f.2 B;obtain⟨k2,o⟩:=Gf g.2 f.1 C;rw[(Gf p.1 i.1 r).2];exact Rat.le_trans (Hm (Hu q k2) a (by simp)) (j ▸ sub_le D G)
 ·rw[Qt,N6,DM]at h;obtain⟨a,b,c,d,B,C,H,I,rfl⟩:=h;obtain⟨q,j⟩:=Au g.1 f.1 B;obtain⟨k2,o⟩:=Au g.1 f.2 C;obtain⟨k3,s⟩:=Au g.2 f.1 H;obtain⟨k4,A⟩:=Au g.2 f.2 I;have l:=Hm (Lk q k2 k3 k4);have m:=Hn (Lk q k2 k3 k4);rw[(Au p.1 i.1 r).2];exact(Qh (M:=rat (CH a [b,c,d])) (j ▸ l a (by simp)) (o ▸ l b (by simp)) (s ▸ l c (by simp)) (A ▸ l d (by simp)) (j ▸ m a (by simp)) (o ▸ m b (by simp)) (s ▸ m c (by simp)) (A ▸ m d (by simp)) D E F G).1
 ·obtain⟨q1,L⟩:=S rfl;rw[Qu,z0z om,N6,DM]at h;obtain⟨a,b,c,d,B,C,H,I,rfl⟩:=h;have J:=QZ f.1.d1 q1;have N:=QZ f.2.d1 L;have K:0<rat v:=by grind
  have O:0<v.n:=by
   have:=Cw i.1.d1;have k:=Rat.mul_pos K (cast_pos i.1.d1);rw[this]at k;exact Rat.intCast_pos.1 k
  obtain⟨q,j⟩:=Fe g.1 f.1 q1 B;obtain⟨k2,o⟩:=Fe g.1 f.2 L C;obtain⟨k3,s⟩:=Fe g.2 f.1 q1 H;obtain⟨k4,A⟩:=Fe g.2 f.2 L I;have j:=IE J j;have o:=IE N o;have s:=IE J s;have A:=IE N A;have l:=Hm (Lk q k2 k3 k4);have m:=Hn (Lk q k2 k3 k4);rw[IE K (Fe p.1 i.1 O r).2];exact(Qh (M:=rat (CH a [b,c,d])) (c:=(rat y.2)⁻¹) (d:=(rat y.1)⁻¹) (o ▸ l b (by simp)) (j ▸ l a (by simp)) (A ▸ l d (by simp)) (s ▸ l c (by simp)) (o ▸ m b (by simp)) (j ▸ m a (by simp)) (A ▸ m d (by simp)) (s ▸ m c (by simp)) D E (Wk K G) (Wk J F)).1
 ·rw[Qv]at h;cases h;rw[Nv p.1 i.1]at r;cases r;have l:=Hm (Hu g.1 f.1);have mm:=NP (Hu p.1 i.1);simp only[W1,EP,EK]at mm;rcases mm with e|e
  ·rw[e];exact Rat.le_trans (l x.1 (by simp)) D
  ·rw[e];exact Rat.le_trans (l y.1 (by simp)) F
 ·rw[RA]at h;cases h;rw[Nw]at r;cases r;have l:=Hn (Hu p.1 i.1);have mm:=NQ (Hu g.1 f.1);simp only[W1,EP,EK]at mm;rcases mm with e|e
  ·rw[e];exact Rat.le_trans D (l u (by simp))
  ·rw[e];exact Rat.le_trans F (l v (by simp))
 ·rw[Qr,EJ]at h;obtain⟨a,b,B,C,rfl⟩:=h;obtain⟨q,j⟩:=Ge g.1 f.1 B;obtain⟨k2,o⟩:=Ge g.2 f.2 C;rw[(Ge p.1 i.1 r).2];exact Rat.le_trans (o ▸ gC E G) (Hn (Hu q k2) b (by simp))
 ·rw[Qs,EJ]at h;obtain⟨a,b,B,C,rfl⟩:=h;obtain⟨q,j⟩:=Gf g.1 f.2 B;obtain⟨k2,o⟩:=Gf g.2 f.1 C;rw[(Gf p.1 i.1 r).2];exact Rat.le_trans (o ▸ sub_le E F) (Hn (Hu q k2) b (by simp))
 ·rw[Qt,N6,DM]at h;obtain⟨a,b,c,d,B,C,H,I,rfl⟩:=h;obtain⟨q,j⟩:=Au g.1 f.1 B;obtain⟨k2,o⟩:=Au g.1 f.2 C;obtain⟨k3,s⟩:=Au g.2 f.1 H;obtain⟨k4,A⟩:=Au g.2 f.2 I;have l:=Hm (Lk q k2 k3 k4);have m:=Hn (Lk q k2 k3 k4);rw[(Au p.1 i.1 r).2];exact(Qh (m:=rat (CG a [b,c,d])) (j ▸ l a (by simp)) (o ▸ l b (by simp)) (s ▸ l c (by simp)) (A ▸ l d (by simp)) (j ▸ m a (by simp)) (o ▸ m b (by simp)) (s ▸ m c (by simp)) (A ▸ m d (by simp)) D E F G).2
 ·obtain⟨q1,L⟩:=S rfl;rw[Qu,z0z om,N6,DM]at h;obtain⟨a,b,c,d,B,C,H,I,rfl⟩:=h;have J:=QZ f.1.d1 q1;have N:=QZ f.2.d1 L;have K:0<rat v:=by grind
  have O:0<v.n:=by
   have:=Cw i.1.d1;have k:=Rat.mul_pos K (cast_pos i.1.d1);rw[this]at k;exact Rat.intCast_pos.1 k
  obtain⟨q,j⟩:=Fe g.1 f.1 q1 B;obtain⟨k2,o⟩:=Fe g.1 f.2 L C;obtain⟨k3,s⟩:=Fe g.2 f.1 q1 H;obtain⟨k4,A⟩:=Fe g.2 f.2 L I;have j:=IE J j;have o:=IE N o;have s:=IE J s;have A:=IE N A;have l:=Hm (Lk q k2 k3 k4);have m:=Hn (Lk q k2 k3 k4);rw[IE K (Fe p.1 i.1 O r).2];exact(Qh (m:=rat (CG a [b,c,d])) (c:=(rat y.2)⁻¹) (d:=(rat y.1)⁻¹) (o ▸ l b (by simp)) (j ▸ l a (by simp)) (A ▸ l d (by simp)) (s ▸ l c (by simp)) (o ▸ m b (by simp)) (j ▸ m a (by simp)) (A ▸ m d (by simp)) (s ▸ m c (by simp)) D E (Wk K G) (Wk J F)).2
 ·rw[Qv]at h;cases h;rw[Nv p.1 i.1]at r;cases r;have l:=Hm (Hu p.1 i.1);have mm:=NP (Hu g.2 f.2);simp only[W1,EP,EK]at mm;rcases mm with e|e
  ·rw[e];exact Rat.le_trans (l u (by simp)) E
  ·rw[e];exact Rat.le_trans (l v (by simp)) G
 ·rw[RA]at h;cases h;rw[Nw]at r;cases r;have l:=Hn (Hu g.2 f.2);have mm:=NQ (Hu p.1 i.1);simp only[W1,EP,EK]at mm;rcases mm with e|e
  ·rw[e];exact Rat.le_trans E (l x.2 (by simp))
  ·rw[e];exact Rat.le_trans G (l y.2 (by simp))
def Ad4 {op:By}(f:Op6 op){x y:QQ}(g:op=[47]->0<y.1.n) (h:∀ u v,(u=x.1\/u=x.2)->(v=y.1\/v=y.2)->∃ w,opV op u v=some w):∃ z,opI op x y= .ok z:=by
 obtain⟨a,e⟩:=h _ _ (.inl rfl) (.inl rfl);obtain⟨b,h2⟩:=h _ _ (.inl rfl) (.inr rfl);obtain⟨c,h3⟩:=h _ _ (.inr rfl) (.inl rfl);obtain⟨d,h4⟩:=h _ _ (.inr rfl) (.inr rfl);rcases f with rfl|rfl|rfl|rfl|rfl|rfl
 ·exact⟨_,by rw[Qr,EJ];exact⟨_,_,e,h4,rfl⟩⟩
 ·exact⟨_,by rw[Qs,EJ];exact⟨_,_,h2,h3,rfl⟩⟩
 ·exact⟨_,by rw[Qt,N6,DM];exact⟨_,_,_,_,e,h2,h3,h4,rfl⟩⟩
 ·have:=g rfl;exact⟨_,by rw[Qu,z0z om,N6,DM];exact⟨_,_,_,_,e,h2,h3,h4,rfl⟩⟩
 ·exact⟨_,Qv⟩
 ·exact⟨_,RA⟩
section
variable {e:Ex}{nm o op:By}{n d:Int}{T:Tn}{k m:Nat}
inductive Vb (T:Tn):Ex->(Q->Prop)->Prop
 |num {n d:Int}{P:Q->Prop} (ok:Q.Ok ⟨n,d⟩) (h:P ⟨n,d⟩):Vb T (.mk K8 n d [] []) P
 |name {nm:By}{a b:Int}{P:Q->Prop} (hb:O5 T nm=some (a,b)) (hab:a<=b) (h:∀ i,a<=i->i<=b->(ofQ i).Ok/\P (ofQ i)):Vb T (.mk nmB 0 0 nm []) P
 |op {o:By}{a b:Ex}{A B P:Q->Prop} (ho:Op6 o) (ha:Vb T a A) (hb:Vb T b B) (hP:∀ x y,x.Ok->y.Ok->A x->B y->(o=[47]->0<y.n)/\∃ z,opV o x y=some z/\P z):Vb T (.mk o 0 0 [] [a,b]) P
def Sat (T:Tn) (s:By->Int):Prop:=∀ nm a b,O5 T nm=some (a,b)->a<=b->a<=s nm/\s nm<=b
def vA {a b:Int}(h:a<=b):leQ (ofQ a) (ofQ b):=by
 show a*1<=b*1;omega
def vB {P:Q->Prop}(h:Vb T e P):∃ x,U7 T e= .ok x/\Dr x/\P x.1/\P x.2/\∀ s,Sat T s->∃ v,Fs s e=some v/\P v/\Btw x v:=by
 induction h with
 | @num n d P ok h=>
   refine⟨(⟨n,d⟩,⟨n,d⟩),?_,⟨ok,ok⟩,h,h,fun s _=>⟨⟨n,d⟩,?_,h,ok,Nu _,Nu _⟩⟩
   ·rw[AD];unfold HK;rw[z1z rfl]
   ·rw[Bz,z1z rfl]
 | @name nm a b P hb hab h=>
   obtain⟨G,H⟩:=h a (Int.le_refl _) hab;obtain⟨b1,b2⟩:=h b hab (Int.le_refl _);refine⟨(ofQ a,ofQ b),?_,⟨G,b1⟩,H,b2,fun s j=>?_⟩
   ·rw[AD];unfold HK;rw[z0z (by decide),hb];simp only[z0z (show ¬ b<a by omega)]
   ·obtain⟨D,E⟩:=j nm a b hb hab;obtain⟨c1,q⟩:=h (s nm) D E;exact⟨ofQ (s nm),by rw[Bz,z0z (by decide)],q,c1,vA D,vA E⟩
 | @op o a b A B P ho ha hb hP iha ihb=>
   obtain⟨x,J,f,r,F,K⟩:=iha;obtain⟨y,y1,y2,y3,y4,y5⟩:=ihb;have l:∀ u,(u=x.1\/u=x.2)->u.Ok/\A u:=by rintro u (rfl|rfl)<;>first|exact⟨f.1,r⟩|exact⟨f.2,F⟩
   have p:∀ u,(u=y.1\/u=y.2)->u.Ok/\B u:=by rintro u (rfl|rfl)<;>first|exact⟨y2.1,y3⟩|exact⟨y2.2,y4⟩
   obtain⟨z,c⟩:=Ad4 (x:=x) (y:=y) ho (fun e=>(hP _ _ f.1 y2.1 r y3).1 e) fun u v g i=>by
    obtain⟨z,c,-⟩:=(hP u v (l u g).1 (p v i).1 (l u g).2 (p v i).2).2;exact⟨z,c⟩
   have C:∀ w,Cu o x y w->P w:=by
    rintro w ⟨u,v,g,i,I⟩;obtain⟨z,c,k⟩:=(hP u v (l u g).1 (p v i).1 (l u g).2 (p v i).2).2;rw[I]at c;cases c;exact k
   obtain⟨c1,q⟩:=Tf ho f y2 c;refine⟨z,by rw[Ax,J,y1];exact c,SP f y2 c,C _ c1,C _ q,fun s j=>?_⟩;obtain⟨u,u1,u2,u3⟩:=K s j;obtain⟨v,v1,v2,v3⟩:=y5 s j;obtain⟨w,w1,w2⟩:=(hP u v u3.1 v3.1 u2 v2).2;refine⟨w,by rw[EZ,u1,v1];exact w1,w2,AF6 ho f y2 (fun e=>⟨(hP _ _ f.1 y2.1 r y3).1 e,(hP _ _ f.2 y2.2 F y4).1 e⟩) c u3 v3 w1⟩
mutual
def S8:Ex->List By
 | .mk op _ _ nm args=>TN args++if op=nmB then[nm]else[]
def TN:List Ex->List By
 | []=>[]
 |e::es=>S8 e++TN es
end
def Nq {args:List Ex}:S8 (.mk op n d nm args)=TN args++if op=nmB then[nm]else[]:=by unfold S8;rfl
def Nr:TN []=[]:=by unfold TN;rfl
def Kz {es:List Ex}:TN (e::es)=S8 e++TN es:=by rw[TN.eq_2]
def El {a b:Ex}(h:op≠nmB):S8 (.mk op n d nm [a,b])=S8 a++S8 b:=by rw[Nq,Kz,Kz,Nr,z0z h,Du,Du]
def JD (h:Op6 o):o≠nmB:=by rcases h with rfl|rfl|rfl|rfl|rfl|rfl<;>decide
def lY (h:o=[43]\/o=[45]\/o=[42]\/o=[47]):Op6 o:=by rcases h with h|h|h|h<;>simp[Op6,h]
def mm6 (h:o=Q7\/o=R4):Op6 o:=by rcases h with h|h<;>simp[Op6,h]
def No:S8 (.mk K8 n d [] [])=[]:=by rw[Nq,Nr,z0z (by decide)];rfl
def Gr:S8 (.mk nmB 0 0 nm [])=[nm]:=by rw[Nq,Nr,z1z rfl];rfl
def MX (h:FW k m e){s t:By->Int}:(∀ nm∈S8 e,s nm=t nm)->Fs s e=Fs t e:=by
 induction h with
 |num h=>intro _;rw[Bz,Bz,z1z rfl,z1z rfl]
 |name b c f=>intro h;rw[Bz,Bz,z0z (by decide),z0z (by decide),h _ (by rw[Gr];simp)]
 | bin ho ha hb iha ihb=>
   intro h;rw[El (JD (lY ho))]at h;rw[EZ,EZ,iha fun x a=>h x (by simp[a]),ihb fun x a=>h x (by simp[a])]
 | mm ho ha hb iha ihb=>
   intro h;rw[El (JD (mm6 ho))]at h;rw[EZ,EZ,iha fun x a=>h x (by simp[a]),ihb fun x a=>h x (by simp[a])]
def Nn (T:Tn) (s:By->Int):Prop:=∀ nm a b,O5 T nm=some (a,b)->s nm=a\/s nm=b
def bh {T:Tn}(y:BdT T){k j m i:Nat}{o:By}{a b:Ex}(C:Op6 o) (z:FW k m a) (A:FW j i b)
  (g:(S8 a).Nodup->∀ {x:QQ},U7 T a= .ok x->∀ w,(w=x.1\/w=x.2)->∃ s,Nn T s/\Fs s a=some w)
  (l:(S8 b).Nodup->∀ {x:QQ},U7 T b= .ok x->∀ w,(w=x.1\/w=x.2)->∃ s,Nn T s/\Fs s b=some w)
  (B:(S8 (.mk o 0 0 [] [a,b])).Nodup) {x:QQ} (D:U7 T (.mk o 0 0 [] [a,b])= .ok x):∀ w,(w=x.1\/w=x.2)->∃ s,Nn T s/\Fs s (.mk o 0 0 [] [a,b])=some w:=by
 rw[El (JD C),List.nodup_append]at B;obtain⟨I,J,K⟩:=B;rw[Ax]at D;obtain⟨u,v,h1,h2,h3⟩:=Oo D;obtain⟨c1,c2⟩:=Tf C (VA y z h1) (VA y A h2) h3;intro w H;have E:Cu o u v w:=by rcases H with rfl|rfl<;>assumption
 obtain⟨p,q,F,G,f⟩:=E;obtain⟨s,s1,s2⟩:=g I h1 p F;obtain⟨t,t1,t2⟩:=l J h2 q G;refine⟨fun nm=>if nm∈S8 a then s nm else t nm,fun nm a' r h=>?_,?_⟩
 ·dsimp only;split
  ·exact s1 nm a' r h
  ·exact t1 nm a' r h
 ·rw[EZ,MX z (t:=s) fun nm c=>z1z c,MX A (t:=t) fun nm c=>z0z fun h=>K nm h nm c rfl,s2,t2];exact f
def tight (q:BdT T)(h:FW k m e):(S8 e).Nodup->∀ {x:QQ},U7 T e= .ok x->∀ w,(w=x.1\/w=x.2)->∃ s,Nn T s/\Fs s e=some w:=by
 induction h with
 | @num n d h=>
   intro _ x c w p;rw[AD]at c;unfold HK at c;rw[z1z rfl]at c;cases c;refine⟨fun nm=>((O5 T nm).getD (0,0)).1,fun nm a b h=> .inl (by dsimp only;rw[h];rfl),?_⟩;rw[Bz,z1z rfl];rcases p with rfl|rfl<;>rfl
 | @name nm h1 h2 h3=>
   intro _ x c w p;rw[AD]at c;unfold HK at c;rw[z0z (by decide)]at c;cases f:O5 T nm with
   |none=>rw[f]at c;cases c
   | some ab=>
     obtain⟨a,b⟩:=ab;rw[f]at c;dsimp only at c;split at c
     ·cases c
     ·cases c;rcases p with rfl|rfl
      ·refine⟨fun nm=>((O5 T nm).getD (0,0)).1,fun nm a b h=> .inl (by dsimp only;rw[h];rfl),?_⟩;rw[Bz,z0z (by decide),f];rfl
      ·refine⟨fun nm=>((O5 T nm).getD (0,0)).2,fun nm a b h=> .inr (by dsimp only;rw[h];rfl),?_⟩;rw[Bz,z0z (by decide),f];rfl
 |bin h j f g i=>exact fun l x c=>bh q (lY h) j f g i l c
 |mm h j f g i=>exact fun l x c=>bh q (mm6 h) j f g i l c
end
end Go.Proofs.T
