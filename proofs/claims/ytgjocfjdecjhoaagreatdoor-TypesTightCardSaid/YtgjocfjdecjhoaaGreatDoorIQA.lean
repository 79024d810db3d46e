/- Plain arithmetic of two BJ0 of 64 bits. -/
set_option linter.unusedSimpArgs false
set_option linter.unusedVariables false
set_option linter.defProp false
set_option maxHeartbeats 32000000
set_option maxRecDepth 100000
namespace Go.N9
def Av4 {x y:Int}(r:0<=x/\x<18446744073709551616) (s:0<=y/\y<18446744073709551616) :
  let x0:=x % 4294967296;let x1:=x / 4294967296;let y0:=y % 4294967296;let y1:=y / 4294967296
  let w0:=x0*y0;let t:=x1*y0+w0 / 4294967296;let w1:=t % 4294967296+x0*y1
  (0<=w0/\w0<18446744073709551616)/\(0<=x1*y0/\x1*y0<18446744073709551616)/\(0<=t/\t<18446744073709551616)/\(0<=x0*y1/\x0*y1<18446744073709551616)/\(0<=w1/\w1<18446744073709551616)/\(0<=x1*y1/\x1*y1<18446744073709551616) /\
    x1*y1+t / 4294967296+w1 / 4294967296=x*y / 18446744073709551616:=by
 intro x0 x1 y0 y1 w0 t w1;have f:0<=x0/\x0<=4294967295:=by omega
 have g:0<=x1/\x1<=4294967295:=by omega
 have h:0<=y0/\y0<=4294967295:=by omega
 have i:0<=y1/\y1<=4294967295:=by omega
 have pos:∀ {a b:Int},0<=a/\a<=4294967295->0<=b/\b<=4294967295->0<=a*b/\a*b<=18446744065119617025:=fun j d=>
  ⟨Int.mul_nonneg j.1 d.1,Int.le_trans (Int.mul_le_mul j.2 d.2 d.1 (by omega)) (by omega)⟩
 have n:=pos f h;have p:=pos g h;have o:=pos f i;have q:=pos g i;have e:w0=x0*y0:=rfl;have ht:t=x1*y0+w0 / 4294967296:=rfl;have m:w1=t % 4294967296+x0*y1:=rfl;have k:x=x1*4294967296+x0:=by omega
 have l:y=y1*4294967296+y0:=by omega
 have c:x*y=(x1*y1)*18446744073709551616+(x1*y0)*4294967296+(x0*y1)*4294967296+x0*y0:=by
  rw[k,l];grind
 clear_value x0 x1 y0 y1
 generalize x0*y0=P00 at *;generalize x1*y0=P10 at *;generalize x0*y1=P01 at *;generalize x1*y1=P11 at *;subst e;refine⟨by omega,by omega,by omega,by omega,by omega,by omega,?_⟩;rw[c];omega
structure Jy (u un yn1 yn0 q r:Int):Prop where
 rem:r=u-q*yn1
 G4:(u*4294967296+un) / (yn1*4294967296+yn0)<=q
 AE:q<=4294967297
section
variable {u un yn1 yn0 q r:Int}
def bz (a:0<yn1*4294967296+yn0):(u*4294967296+un) / (yn1*4294967296+yn0)<=q↔u*4294967296+un<(q+1)*(yn1*4294967296+yn0):=by
 rw[<- Int.lt_add_one_iff,Int.ediv_lt_iff_lt_mul a]
def PS (l:2147483648<=yn1/\yn1<4294967296) (a:0<=yn0/\yn0<4294967296) (f:0<=u/\u<yn1*4294967296+yn0) (i:0<=un/\un<4294967296):Jy u un yn1 yn0 (u / yn1) (u-u / yn1*yn1):=by
 have b:0<yn1*4294967296+yn0:=by omega
 have j:yn1*(u / yn1)+u % yn1=u:=Int.mul_ediv_add_emod u yn1;have k:=Int.emod_lt_of_pos u (show 0<yn1 by omega);have d:=Int.emod_nonneg u (show yn1≠0 by omega);have c:0<=u / yn1:=Int.ediv_nonneg f.1 (by omega);generalize u / yn1=Q at *;generalize u % yn1=R at *;refine⟨rfl,?_,?_⟩
 ·rw[bz b];have e:(Q+1)*(yn1*4294967296+yn0)=(yn1*Q)*4294967296+yn1*4294967296+(Q+1)*yn0:=by grind
  have g:0<=(Q+1)*yn0:=Int.mul_nonneg (by omega) a.1;rw[e];generalize yn1*Q=A at *;generalize (Q+1)*yn0=B at *;omega
 ·refine Int.not_lt.1 fun h=>?_;have:4294967298*yn1<=yn1*Q:=by rw[Int.mul_comm yn1 Q];exact Int.mul_le_mul_of_nonneg_right (by omega) (by omega)
  generalize yn1*Q=A at *;omega
def Ri (c:Jy u un yn1 yn0 q r) (k:2147483648<=yn1/\yn1<4294967296) (f:0<=yn0/\yn0<4294967296) (j:0<=u/\u<yn1*4294967296+yn0) (i:0<=un/\un<4294967296)
  (a:4294967296<=q\/4294967296*r+un<q*yn0):Jy u un yn1 yn0 (q-1) (r+yn1):=by
 obtain⟨b,g,h⟩:=c;have d:0<yn1*4294967296+yn0:=by omega
 refine⟨by rw[b];grind,?_,by omega⟩;rw[bz d,Int.sub_add_cancel];have e:q*(yn1*4294967296+yn0)=(q*yn1)*4294967296+q*yn0:=by grind
 rcases a with a|a
 ·have:4294967296*(yn1*4294967296+yn0)<=q*(yn1*4294967296+yn0):=Int.mul_le_mul_of_nonneg_right a (by omega);omega
 ·rw[e];generalize q*yn1=A at *;generalize q*yn0=B at *;omega
def OV (b:Jy u un yn1 yn0 q r) (i:2147483648<=yn1/\yn1<4294967296) (d:0<=yn0/\yn0<4294967296)
  (h:q*yn0<=4294967296*r+un):q=(u*4294967296+un) / (yn1*4294967296+yn0):=by
 obtain⟨f,a,g⟩:=b;have c:0<yn1*4294967296+yn0:=by omega
 refine Int.le_antisymm ?_ a;rw[Int.le_ediv_iff_mul_le c];have e:q*(yn1*4294967296+yn0)=(q*yn1)*4294967296+q*yn0:=by grind
 rw[e];generalize q*yn1=A at *;generalize q*yn0=B at *;omega
end
def kJ {a b:Int}{e1 e2 e:Nat}(g:Nat.Coprime a.natAbs e) (h:e1∣e) (i:Nat.Coprime e1 e2):Nat.Coprime (a*(e2:Int)+b*(e1:Int)).natAbs e1:=by
 have d:Nat.gcd (a*(e2:Int)+b*(e1:Int)).natAbs e1∣e1:=Nat.gcd_dvd_right _ _;have f:Nat.gcd (a*(e2:Int)+b*(e1:Int)).natAbs e1∣(a*(e2:Int)+b*(e1:Int)).natAbs:=Nat.gcd_dvd_left _ _;show Nat.gcd (a*(e2:Int)+b*(e1:Int)).natAbs e1=1;generalize Nat.gcd (a*(e2:Int)+b*(e1:Int)).natAbs e1=c at *;have j:(c:Int)∣a*(e2:Int)+b*(e1:Int):=Int.ofNat_dvd_left.2 f;have k:(c:Int)∣b*(e1:Int):=Int.dvd_trans (Int.natCast_dvd_natCast.2 d) (Int.dvd_mul_left _ _);have l:(c:Int)∣a*(e2:Int):=(Int.dvd_add_left k).1 j;have m:c∣a.natAbs*e2:=by
  have:=Int.ofNat_dvd_left.1 l
  rwa [Int.natAbs_mul,Int.natAbs_natCast]at this
 have n:c∣a.natAbs:=(Nat.Coprime.coprime_dvd_left d i).dvd_of_dvd_mul_right m;exact Nat.eq_one_of_dvd_one (by rw[<- (show Nat.gcd a.natAbs e=1 from g)];exact Nat.dvd_gcd n (Nat.dvd_trans d h))
def Ys {h i:Int}{d1 d2:Nat}(m:Nat.gcd h.natAbs d1=1) (n:Nat.gcd i.natAbs d2=1) (c:0<d1){t:Int}(ht:t=h*(d2 / Nat.gcd d1 d2:Nat)+i*(d1 / Nat.gcd d1 d2:Nat)) :
  Nat.gcd (t.natAbs / Nat.gcd t.natAbs (Nat.gcd d1 d2)) ((d1 / Nat.gcd d1 d2)*(d2 / Nat.gcd t.natAbs (Nat.gcd d1 d2)))=1:=by
 have g:0<Nat.gcd d1 d2:=Nat.gcd_pos_of_pos_left _ c;have f:Nat.Coprime (d1 / Nat.gcd d1 d2) (d2 / Nat.gcd d1 d2):=Nat.coprime_div_gcd_div_gcd g;have a:d1 / Nat.gcd d1 d2∣d1:=Nat.div_dvd_of_dvd (Nat.gcd_dvd_left _ _);have b:d2 / Nat.gcd d1 d2∣d2:=Nat.div_dvd_of_dvd (Nat.gcd_dvd_right _ _);have c1:Nat.Coprime t.natAbs (d1 / Nat.gcd d1 d2):=by rw[ht];exact kJ m a f
 have j:Nat.Coprime t.natAbs (d2 / Nat.gcd d1 d2):=by rw[ht,Int.add_comm];exact kJ n b f.symm
 have o:0<Nat.gcd t.natAbs (Nat.gcd d1 d2):=Nat.gcd_pos_of_pos_right _ g;have d:Nat.gcd t.natAbs (Nat.gcd d1 d2)∣Nat.gcd d1 d2:=Nat.gcd_dvd_right _ _;have k:Nat.Coprime (t.natAbs / Nat.gcd t.natAbs (Nat.gcd d1 d2)) (Nat.gcd d1 d2 / Nat.gcd t.natAbs (Nat.gcd d1 d2)):=Nat.coprime_div_gcd_div_gcd o;have e:t.natAbs / Nat.gcd t.natAbs (Nat.gcd d1 d2)∣t.natAbs:=Nat.div_dvd_of_dvd (Nat.gcd_dvd_left _ _);have l:d2 / Nat.gcd t.natAbs (Nat.gcd d1 d2)=(d2 / Nat.gcd d1 d2)*(Nat.gcd d1 d2 / Nat.gcd t.natAbs (Nat.gcd d1 d2)):=by
  have p:d2=(d2 / Nat.gcd d1 d2)*Nat.gcd d1 d2:=(Nat.div_mul_cancel (Nat.gcd_dvd_right _ _)).symm;rw(occs:= .pos [1]) [p];rw[Nat.mul_div_assoc _ d]
 rw[l];exact Nat.Coprime.mul_right (Nat.Coprime.coprime_dvd_left e c1) (Nat.Coprime.mul_right (Nat.Coprime.coprime_dvd_left e j) k)
section
variable {n1 n2 t:Int}{d1 d2:Nat}
def IY (n:Int) (d:Nat):Prop:=0<d/\Nat.gcd n.natAbs d=1
def low (N:Int) (D:Nat):Int×Nat:=(N / (Nat.gcd N.natAbs D:Nat),D / Nat.gcd N.natAbs D)
def qC {N n:Int}{D d G:Nat}(c:0<G) (b:N=G*n) (a:D=G*d) (e:Nat.gcd n.natAbs d=1):low N D=(n,d):=by
 have h:Nat.gcd N.natAbs D=G:=by
  rw[b,a,Int.natAbs_mul,Int.natAbs_natCast,Nat.gcd_mul_left,e,Nat.mul_one]
 unfold low;rw[h,b,a,Int.mul_ediv_cancel_left _ (by omega),Nat.mul_div_cancel_left _ c]
def HE {h:Nat}(a:h∣t.natAbs):(t / (h:Int)).natAbs=t.natAbs / h:=by
 obtain⟨k,b⟩:=Int.ofNat_dvd_left.2 a;rcases Nat.eq_zero_or_pos h with rfl|c
 ·simp
 ·rw[b,Int.mul_ediv_cancel_left _ (by omega),Int.natAbs_mul,Int.natAbs_natCast,Nat.mul_div_cancel_left _ c]
def xw (b:IY n1 d1) (h:IY n2 d2)(ht:t=n1*(d2 / Nat.gcd d1 d2:Nat)+n2*(d1 / Nat.gcd d1 d2:Nat)):
  low (n1*d2+n2*d1) (d1*d2)=(t / (Nat.gcd t.natAbs (Nat.gcd d1 d2):Nat),(d1 / Nat.gcd d1 d2)*(d2 / Nat.gcd t.natAbs (Nat.gcd d1 d2))):=by
 have d:0<Nat.gcd d1 d2:=Nat.gcd_pos_of_pos_left _ b.1;have j:0<Nat.gcd t.natAbs (Nat.gcd d1 d2):=Nat.gcd_pos_of_pos_right _ d;have i:=Ys b.2 h.2 b.1 ht;have f:d1=Nat.gcd d1 d2*(d1 / Nat.gcd d1 d2):=(Nat.mul_div_cancel' (Nat.gcd_dvd_left _ _)).symm;have k:d2=Nat.gcd d1 d2*(d2 / Nat.gcd d1 d2):=(Nat.mul_div_cancel' (Nat.gcd_dvd_right _ _)).symm;have a:(Nat.gcd t.natAbs (Nat.gcd d1 d2):Nat)∣t.natAbs:=Nat.gcd_dvd_left _ _;have c:Nat.gcd t.natAbs (Nat.gcd d1 d2)∣d2:=Nat.dvd_trans (Nat.gcd_dvd_right _ _) (Nat.gcd_dvd_right _ _);have l:t=(Nat.gcd t.natAbs (Nat.gcd d1 d2):Nat)*(t / (Nat.gcd t.natAbs (Nat.gcd d1 d2):Nat)):=(Int.mul_ediv_cancel' (Int.ofNat_dvd_left.2 a)).symm;have m:d2=Nat.gcd t.natAbs (Nat.gcd d1 d2)*(d2 / Nat.gcd t.natAbs (Nat.gcd d1 d2)):=(Nat.mul_div_cancel' c).symm;refine qC (G:=Nat.gcd d1 d2*Nat.gcd t.natAbs (Nat.gcd d1 d2)) (Nat.mul_pos d j) ?_ ?_ (by rw[HE a];exact i)
 ·have e:n1*(d2:Int)+n2*(d1:Int)=(Nat.gcd d1 d2:Nat)*t:=by
   rw[ht];have n:(d1:Int)=(Nat.gcd d1 d2:Nat)*((d1 / Nat.gcd d1 d2:Nat):Int):=by rw[<- Int.natCast_mul,<- f]
   have o:(d2:Int)=(Nat.gcd d1 d2:Nat)*((d2 / Nat.gcd d1 d2:Nat):Int):=by rw[<- Int.natCast_mul,<- k]
   generalize ((d1 / Nat.gcd d1 d2:Nat):Int)=E1 at *;generalize ((d2 / Nat.gcd d1 d2:Nat):Int)=E2 at *;rw[n,o];generalize ((Nat.gcd d1 d2:Nat):Int)=g
   grind
  rw[e,Int.natCast_mul,Int.mul_assoc,<- l]
 ·have e:d1*d2=(Nat.gcd d1 d2*(d1 / Nat.gcd d1 d2))*(Nat.gcd t.natAbs (Nat.gcd d1 d2)*(d2 / Nat.gcd t.natAbs (Nat.gcd d1 d2))):=by rw[<- f,<- m]
  rw[e,Nat.mul_assoc,Nat.mul_assoc,Nat.mul_left_comm (d1 / Nat.gcd d1 d2)]
def xy (d:IY n1 d1) (f:IY n2 d2):
  low (n1*n2) (d1*d2)=((n1 / (Nat.gcd n1.natAbs d2:Nat))*(n2 / (Nat.gcd n2.natAbs d1:Nat)),(d1 / Nat.gcd n2.natAbs d1)*(d2 / Nat.gcd n1.natAbs d2)):=by
 have g:0<Nat.gcd n1.natAbs d2:=Nat.gcd_pos_of_pos_right _ f.1;have h:0<Nat.gcd n2.natAbs d1:=Nat.gcd_pos_of_pos_right _ d.1;have a:Nat.gcd n1.natAbs d2∣n1.natAbs:=Nat.gcd_dvd_left _ _;have c:Nat.gcd n1.natAbs d2∣d2:=Nat.gcd_dvd_right _ _;have b:Nat.gcd n2.natAbs d1∣n2.natAbs:=Nat.gcd_dvd_left _ _;have i:Nat.gcd n2.natAbs d1∣d1:=Nat.gcd_dvd_right _ _;have m:n1=(Nat.gcd n1.natAbs d2:Nat)*(n1 / (Nat.gcd n1.natAbs d2:Nat)):=(Int.mul_ediv_cancel' (Int.ofNat_dvd_left.2 a)).symm;have n:n2=(Nat.gcd n2.natAbs d1:Nat)*(n2 / (Nat.gcd n2.natAbs d1:Nat)):=(Int.mul_ediv_cancel' (Int.ofNat_dvd_left.2 b)).symm;have o:d2=Nat.gcd n1.natAbs d2*(d2 / Nat.gcd n1.natAbs d2):=(Nat.mul_div_cancel' c).symm;have p:d1=Nat.gcd n2.natAbs d1*(d1 / Nat.gcd n2.natAbs d1):=(Nat.mul_div_cancel' i).symm;have c1:Nat.Coprime (n1.natAbs / Nat.gcd n1.natAbs d2) (d2 / Nat.gcd n1.natAbs d2):=Nat.coprime_div_gcd_div_gcd g;have j:Nat.Coprime (n2.natAbs / Nat.gcd n2.natAbs d1) (d1 / Nat.gcd n2.natAbs d1):=Nat.coprime_div_gcd_div_gcd h;have k:Nat.Coprime (n1.natAbs / Nat.gcd n1.natAbs d2) (d1 / Nat.gcd n2.natAbs d1):=Nat.Coprime.coprime_dvd_left (Nat.div_dvd_of_dvd a) (Nat.Coprime.coprime_dvd_right (Nat.div_dvd_of_dvd i) d.2);have l:Nat.Coprime (n2.natAbs / Nat.gcd n2.natAbs d1) (d2 / Nat.gcd n1.natAbs d2):=Nat.Coprime.coprime_dvd_left (Nat.div_dvd_of_dvd b) (Nat.Coprime.coprime_dvd_right (Nat.div_dvd_of_dvd c) f.2);refine qC (G:=Nat.gcd n1.natAbs d2*Nat.gcd n2.natAbs d1) (Nat.mul_pos g h) ?_ ?_ ?_
 ·rw[Int.natCast_mul];have e:n1*n2=((Nat.gcd n1.natAbs d2:Nat)*(n1 / (Nat.gcd n1.natAbs d2:Nat)))*((Nat.gcd n2.natAbs d1:Nat)*(n2 / (Nat.gcd n2.natAbs d1:Nat))):=by rw[<- m,<- n]
  rw[e];generalize (n1 / (Nat.gcd n1.natAbs d2:Nat))=A;generalize (n2 / (Nat.gcd n2.natAbs d1:Nat))=B;generalize ((Nat.gcd n1.natAbs d2:Nat):Int)=C;generalize ((Nat.gcd n2.natAbs d1:Nat):Int)=D
  grind
 ·have e:d1*d2=(Nat.gcd n2.natAbs d1*(d1 / Nat.gcd n2.natAbs d1))*(Nat.gcd n1.natAbs d2*(d2 / Nat.gcd n1.natAbs d2)):=by rw[<- o,<- p]
  rw[e];generalize d1 / Nat.gcd n2.natAbs d1=A;generalize d2 / Nat.gcd n1.natAbs d2=B;generalize Nat.gcd n1.natAbs d2=C;generalize Nat.gcd n2.natAbs d1=D
  grind
 ·rw[Int.natAbs_mul,HE a,HE b];exact Nat.Coprime.mul_left (Nat.Coprime.mul_right k c1) (Nat.Coprime.mul_right j l)
def qD (a:IY n1 d1) (b:IY n2 d2) (h:n1*d2=n2*d1):n1=n2/\d1=d2:=by
 have d:d1∣d2:=by
  refine Nat.Coprime.dvd_of_dvd_mul_left (k:=d1) (m:=n1.natAbs) (Nat.Coprime.symm a.2) ?_;have:=congrArg Int.natAbs h;rw[Int.natAbs_mul,Int.natAbs_mul,Int.natAbs_natCast,Int.natAbs_natCast]at this;rw[this];exact Nat.dvd_mul_left _ _
 have e:d2∣d1:=by
  refine Nat.Coprime.dvd_of_dvd_mul_left (k:=d2) (m:=n2.natAbs) (Nat.Coprime.symm b.2) ?_;have:=congrArg Int.natAbs h;rw[Int.natAbs_mul,Int.natAbs_mul,Int.natAbs_natCast,Int.natAbs_natCast]at this;rw[<- this];exact Nat.dvd_mul_left _ _
 have c:d1=d2:=Nat.dvd_antisymm d e;subst c;have:=a.1;exact⟨Int.eq_of_mul_eq_mul_right (by omega) h,rfl⟩
end
structure Q where
 n:Int
 d:Int
 deriving DecidableEq
structure Q.Ok (q:Q):Prop where
 n1: -9223372036854775808<=q.n
 n2:q.n<=9223372036854775807
 d1:1<=q.d
 d2:q.d<=9223372036854775807
 low:Nat.gcd q.n.natAbs q.d.natAbs=1
def fit (p:Int×Nat):Option Q:=if -9223372036854775808<=p.1/\p.1<=9223372036854775807/\p.2<=9223372036854775807 then some ⟨p.1,p.2⟩else none
def QI (a b:Q):Option Q:=fit (low (a.n*b.d+b.n*a.d) (a.d.natAbs*b.d.natAbs))
def Ry (a b:Q):Option Q:=QI a ⟨-b.n,b.d⟩
def UC (a b:Q):Option Q:=fit (low (a.n*b.n) (a.d.natAbs*b.d.natAbs))
def Ir (a b:Q):Option Q:=if b.n=0 then none else fit (low (a.n*(b.n.sign*b.d)) (a.d.natAbs*b.n.natAbs))
def AJ (a b:Q):Int:=(a.n*b.d-b.n*a.d).sign
def ofQ (n:Int):Q:=⟨n,1⟩
def Q.Ok.AA6 {q:Q}(h:q.Ok):IY q.n q.d.natAbs:=⟨by have:=h.d1;omega,h.low⟩
def Wv {n:Int}(a: -9223372036854775808<=n) (b:n<=9223372036854775807):(ofQ n).Ok:=⟨a,b,by show(1:Int)<=1;omega,by show(1:Int)<=_;omega,Nat.gcd_one_right _⟩
def NU {N:Int}{D:Nat}(c:0<D):IY (low N D).1 (low N D).2/\(low N D).1*D=N*(low N D).2:=by
 have d:0<Nat.gcd N.natAbs D:=Nat.gcd_pos_of_pos_right _ c;have a:Nat.gcd N.natAbs D∣N.natAbs:=Nat.gcd_dvd_left _ _;have b:Nat.gcd N.natAbs D∣D:=Nat.gcd_dvd_right _ _;refine⟨⟨?_,?_⟩,?_⟩
 ·exact Nat.div_pos (Nat.le_of_dvd c b) d
 ·show Nat.gcd (N / (Nat.gcd N.natAbs D:Nat)).natAbs (D / Nat.gcd N.natAbs D)=1;rw[HE a];exact Nat.coprime_div_gcd_div_gcd d
 ·show N / (Nat.gcd N.natAbs D:Nat)*(D:Nat)=N*((D / Nat.gcd N.natAbs D:Nat):Int);have e:N=(Nat.gcd N.natAbs D:Nat)*(N / (Nat.gcd N.natAbs D:Nat)):=(Int.mul_ediv_cancel' (Int.ofNat_dvd_left.2 a)).symm;have f:(D:Int)=(Nat.gcd N.natAbs D:Nat)*((D / Nat.gcd N.natAbs D:Nat):Int):=by rw[<- Int.natCast_mul,Nat.mul_div_cancel' b]
  generalize g:N / (Nat.gcd N.natAbs D:Nat)=A at *;generalize ((D / Nat.gcd N.natAbs D:Nat):Int)=B at *;generalize ((Nat.gcd N.natAbs D:Nat):Int)=G at *;rw[e,f]
  grind
def MB {p:Int×Nat}{q:Q}(b:IY p.1 p.2) (h:fit p=some q):q.Ok/\q=⟨p.1,p.2⟩:=by
 unfold fit at h;split at h
 ·cases h;rename_i a;have:=b.1;exact⟨⟨a.1,a.2.1,by show(1:Int)<=(p.2:Nat);omega,by show(p.2:Int)<=_;omega,by show Nat.gcd p.1.natAbs (p.2:Int).natAbs=1;rw[Int.natAbs_natCast];exact b.2⟩,rfl⟩
 ·cases h
def Is (q:Q) (N D:Int):Prop:=q.n*D=N*q.d
def BZ {d:Int}(h:1<=d):(d.natAbs:Int)=d:=by omega
def QX {a b q:Q}(c:a.Ok) (e:b.Ok) (h:QI a b=some q):q.Ok/\Is q (a.n*b.d+b.n*a.d) (a.d*b.d):=by
 have i:0<a.d.natAbs*b.d.natAbs:=Nat.mul_pos (by have:=c.d1;omega) (by have:=e.d1;omega);obtain⟨f,g⟩:=NU (N:=a.n*b.d+b.n*a.d) i;obtain⟨h3,h4⟩:=MB f h;subst h4;refine⟨h3,?_⟩;show(low _ _).1*(a.d*b.d)=_*(((low _ _).2:Nat):Int);rw[<- g,Int.natCast_mul,BZ c.d1,BZ e.d1]
def WM {a b q:Q}(c:a.Ok) (e:b.Ok) (h:UC a b=some q):q.Ok/\Is q (a.n*b.n) (a.d*b.d):=by
 have i:0<a.d.natAbs*b.d.natAbs:=Nat.mul_pos (by have:=c.d1;omega) (by have:=e.d1;omega);obtain⟨f,g⟩:=NU (N:=a.n*b.n) i;obtain⟨h3,h4⟩:=MB f h;subst h4;refine⟨h3,?_⟩;show(low _ _).1*(a.d*b.d)=_*(((low _ _).2:Nat):Int);rw[<- g,Int.natCast_mul,BZ c.d1,BZ e.d1]
def leQ (a b:Q):Prop:=a.n*b.d<=b.n*a.d
def Nu (a:Q):leQ a a:=Int.le_refl _
def WC (a b:Q):leQ a b\/leQ b a:=Int.le_total _ _
def LI {a b c:Q}(j:a.Ok) (k:b.Ok) (l:c.Ok) (h:leQ a b) (i:leQ b c):leQ a c:=by
 unfold leQ at *;have p:=j.d1;have q:=k.d1;have r:=l.d1;have m:a.n*b.d*c.d<=b.n*a.d*c.d:=Int.mul_le_mul_of_nonneg_right h (by omega);have o:b.n*c.d*a.d<=c.n*b.d*a.d:=Int.mul_le_mul_of_nonneg_right i (by omega);refine Int.le_of_mul_le_mul_right (a:=b.d) ?_ (by omega);have e:a.n*c.d*b.d=a.n*b.d*c.d:=by grind
 have f:b.n*a.d*c.d=b.n*c.d*a.d:=by grind
 have g:c.n*a.d*b.d=c.n*b.d*a.d:=by grind
 rw[e,g];exact Int.le_trans m (f ▸ o)
def qT {a b:Q}(c:a.Ok) (f:b.Ok) (m:leQ a b) (o:leQ b a):a=b:=by
 have e:a.n*b.d=b.n*a.d:=Int.le_antisymm m o;have k:=qD c.AA6 f.AA6 (by rw[BZ f.d1,BZ c.d1];exact e);have h:=c.d1;have j:=f.d1;obtain⟨g,ad⟩:=a;obtain⟨bn,bd⟩:=b;obtain⟨k1,k2⟩:=k;have:ad=bd:=by
  have p:ad.natAbs=bd.natAbs:=k2;have i:1<=ad:=h;have l:1<=bd:=j;omega
 rw[this,show g=bn from k1]
def Qi {a b:Q}:AJ a b<0↔¬ leQ b a:=by
 unfold AJ leQ;rw[Int.sign_neg_iff];omega
def YO {a b:Q}:0<AJ a b↔¬ leQ a b:=by
 unfold AJ leQ;rw[Int.sign_pos_iff];omega
def CG (m:Q) (l:List Q):Q:=l.foldl (fun m x=>if AJ x m<0 then x else m) m
def CH (m:Q) (l:List Q):Q:=l.foldl (fun m x=>if 0<AJ x m then x else m) m
def oV {m y:Q}{l:List Q}:CG m (y::l)=CG (if AJ y m<0 then y else m) l:=rfl
def oW {m y:Q}{l:List Q}:CH m (y::l)=CH (if 0<AJ y m then y else m) l:=rfl
def Wl {l:List Q}:∀ {m:Q},m.Ok->(∀ x∈l,x.Ok)->(CG m l=m\/CG m l∈l)/\leQ (CG m l) m/\∀ x∈l,leQ (CG m l) x:=by
 induction l with
 |nil=>intro m _ _;exact⟨.inl rfl,Nu _,fun x h=>nomatch h⟩
 | cons y l ih=>
   intro m f n;have g:=n y (List.mem_cons_self ..);have a:∀ x∈l,x.Ok:=fun x b=>n x (List.mem_cons_of_mem _ b);rw[oV];by_cases c:AJ y m<0
   ·rw[if_pos c];obtain⟨d,e,i⟩:=ih g a;have k:(CG y l).Ok:=by
     rcases d with h|h
     ·rw[h];exact g
     ·exact a _ h
    refine⟨.inr ?_,?_,?_⟩
    ·rcases d with h|h
     ·rw[h];exact List.mem_cons_self ..
     ·exact List.mem_cons_of_mem _ h
    ·exact LI k g f e ((WC y m).resolve_right (Qi.1 c))
    ·intro x b;rcases List.mem_cons.1 b with rfl|b
     ·exact e
     ·exact i x b
   ·rw[if_neg c];obtain⟨d,e,i⟩:=ih f a;have k:(CG m l).Ok:=by
     rcases d with h|h
     ·rw[h];exact f
     ·exact a _ h
    have j:leQ m y:=Classical.byContradiction fun h=>c (Qi.2 h);refine⟨?_,e,?_⟩
    ·rcases d with h|h
     ·exact .inl h
     ·exact .inr (List.mem_cons_of_mem _ h)
    ·intro x b;rcases List.mem_cons.1 b with rfl|b
     ·exact LI k f g e j
     ·exact i x b
def Wm {l:List Q}:∀ {m:Q},m.Ok->(∀ x∈l,x.Ok)->(CH m l=m\/CH m l∈l)/\leQ m (CH m l)/\∀ x∈l,leQ x (CH m l):=by
 induction l with
 |nil=>intro m _ _;exact⟨.inl rfl,Nu _,fun x h=>nomatch h⟩
 | cons y l ih=>
   intro m f n;have g:=n y (List.mem_cons_self ..);have a:∀ x∈l,x.Ok:=fun x b=>n x (List.mem_cons_of_mem _ b);rw[oW];by_cases c:0<AJ y m
   ·rw[if_pos c];obtain⟨d,e,i⟩:=ih g a;have k:(CH y l).Ok:=by
     rcases d with h|h
     ·rw[h];exact g
     ·exact a _ h
    refine⟨.inr ?_,?_,?_⟩
    ·rcases d with h|h
     ·rw[h];exact List.mem_cons_self ..
     ·exact List.mem_cons_of_mem _ h
    ·exact LI f g k ((WC y m).resolve_left (YO.1 c)) e
    ·intro x b;rcases List.mem_cons.1 b with rfl|b
     ·exact e
     ·exact i x b
   ·rw[if_neg c];obtain⟨d,e,i⟩:=ih f a;have k:(CH m l).Ok:=by
     rcases d with h|h
     ·rw[h];exact f
     ·exact a _ h
    have j:leQ y m:=Classical.byContradiction fun h=>c (YO.2 h);refine⟨?_,e,?_⟩
    ·rcases d with h|h
     ·exact .inl h
     ·exact .inr (List.mem_cons_of_mem _ h)
    ·intro x b;rcases List.mem_cons.1 b with rfl|b
     ·exact LI g f k j e
     ·exact i x b
end Go.N9
namespace Go.Proofs.T
open Go.N9
section
variable {s s1 s2:Bool}{n N1 N2 D1 D2:Nat}
def sg (s:Bool) (n:Int):Int:=if s=true then -n else n
def Xi:(sg s n).natAbs=n:=by
 unfold sg;cases s<;>simp
def gQ {h:Nat}(a:h∣n):sg s n / (h:Int)=sg s ((n / h:Nat):Int):=by
 obtain⟨k,rfl⟩:=a;rcases Nat.eq_zero_or_pos h with rfl|b
 ·simp[sg]
 ·rw[Nat.mul_div_cancel_left _ b];unfold sg;cases s
  ·simp only[Bool.false_eq_true,if_false];rw[Int.natCast_mul,Int.mul_ediv_cancel_left _ (by omega)]
  ·simp only[if_true];rw[Int.natCast_mul,<- Int.mul_neg,Int.mul_ediv_cancel_left _ (by omega)]
def Af0 {t:Bool}{a b:Int}:sg s a*sg t b=sg (s != t) (a*b):=by
 unfold sg;cases s<;>cases t<;>simp[Int.neg_mul,Int.mul_neg]
def oK (a:IY (sg s1 N1) D1) (b:IY (sg s2 N2) D2) (ht:sg s n=sg s1 N1*((D2 / Nat.gcd D1 D2:Nat):Int)+sg s2 N2*((D1 / Nat.gcd D1 D2:Nat):Int)):
  low (sg s1 N1*D2+sg s2 N2*D1) (D1*D2)=(sg s ((n / Nat.gcd (Nat.gcd D1 D2) (n % Nat.gcd D1 D2):Nat):Int),(D1 / Nat.gcd D1 D2)*(D2 / Nat.gcd (Nat.gcd D1 D2) (n % Nat.gcd D1 D2))):=by
 have e:=xw a b ht;rw[Xi]at e;have c:Nat.gcd (Nat.gcd D1 D2) (n % Nat.gcd D1 D2)=Nat.gcd n (Nat.gcd D1 D2):=by
  rw[Nat.gcd_comm (Nat.gcd D1 D2),<- Nat.gcd_rec,Nat.gcd_comm]
 rw[c,e,gQ (Nat.gcd_dvd_left _ _)]
def cM (a:IY (sg s1 N1) D1) (b:IY (sg s2 N2) D2):
  low (sg s1 N1*sg s2 N2) (D1*D2)=(sg (s1 != s2) (((N1 / Nat.gcd N1 D2:Nat):Int)*((N2 / Nat.gcd N2 D1:Nat):Int)),(D1 / Nat.gcd N2 D1)*(D2 / Nat.gcd N1 D2)):=by
 rw[xy a b,Xi,Xi,gQ (Nat.gcd_dvd_left _ _),gQ (Nat.gcd_dvd_left _ _),Af0]
def cO {D:Nat}(h:0<D):low 0 D=(0,1):=by
 unfold low;rw[Int.natAbs_zero,Nat.gcd_zero_left,Nat.div_self h,Int.zero_ediv]
end
def cR {s:Bool}{a b:Int}:sg s (a*b)=sg s a*b:=by
 unfold sg;cases s<;>simp[Int.neg_mul]
def xK {x y:Int}{c d:Nat}(i:0<c) (j:0<d) (ht:x*((d / Nat.gcd c d:Nat):Int)+y*((c / Nat.gcd c d:Nat):Int)=0):low (x*d+y*c) (c*d)=(0,1):=by
 have f:(c:Int)=((c / Nat.gcd c d:Nat):Int)*(Nat.gcd c d:Nat):=by rw[<- Int.natCast_mul,Nat.div_mul_cancel (Nat.gcd_dvd_left _ _)]
 have h:(d:Int)=((d / Nat.gcd c d:Nat):Int)*(Nat.gcd c d:Nat):=by rw[<- Int.natCast_mul,Nat.div_mul_cancel (Nat.gcd_dvd_right _ _)]
 have e:x*(d:Int)+y*(c:Int)=0:=by
  generalize ((c / Nat.gcd c d:Nat):Int)=a at *;generalize ((d / Nat.gcd c d:Nat):Int)=b at *;generalize ((Nat.gcd c d:Nat):Int)=g at *;rw[f,h,<- Int.mul_assoc,<- Int.mul_assoc,<- Int.add_mul,ht,Int.zero_mul]
 rw[e,cO (Nat.mul_pos i j)]
end Go.Proofs.T
namespace Go.N9
def oO {hi lo p:Int}(j:0<p) (d:18446744073709551616 % p=0) (b:0<=lo/\lo<18446744073709551616) :
  (hi*18446744073709551616+lo)*p=(hi*p+lo / (18446744073709551616 / p))*18446744073709551616+lo*p % 18446744073709551616/\0<=lo / (18446744073709551616 / p)/\lo / (18446744073709551616 / p)<p:=by
 obtain⟨k,c⟩:=Int.dvd_of_emod_eq_zero d;have a:0<k:=by
  refine Int.not_le.1 fun h=>?_;have:p*k<=0:=Int.mul_nonpos_of_nonneg_of_nonpos (by omega) h;omega
 have f:18446744073709551616 / p=k:=by rw[c,Int.mul_ediv_cancel_left _ (by omega)]
 rw[f];have l:=Int.mul_ediv_add_emod lo k;have m:=Int.emod_nonneg lo (show k≠0 by omega);have n:=Int.emod_lt_of_pos lo a;have o:0<=lo / k:=Int.ediv_nonneg b.1 (by omega);have q:lo / k<p:=by
  refine Int.ediv_lt_of_lt_mul a ?_;rw[<- c];exact b.2
 refine⟨?_,o,q⟩;generalize lo / k=A at *;generalize lo % k=B at *;have e:lo*p=A*18446744073709551616+B*p:=by rw[<- l,c];grind
 have r:0<=B*p:=Int.mul_nonneg m (by omega);have s:B*p<18446744073709551616:=by rw[c,Int.mul_comm p k];exact Int.mul_lt_mul_of_pos_right n j
 have g:lo*p % 18446744073709551616=B*p:=by rw[e];omega
 rw[g];have i:(hi*18446744073709551616+lo)*p=hi*p*18446744073709551616+lo*p:=by grind
 rw[i,e]
 grind
def xt {u a b Y q1 r1 q0 r0:Int}(h:0<Y) (g:u*4294967296+a=q1*Y+r1) (d:0<=r1/\r1<Y) (f:r1*4294967296+b=q0*Y+r0) (c:0<=r0/\r0<Y) :
  (u*18446744073709551616+(a*4294967296+b)) / Y=q1*4294967296+q0/\(u*18446744073709551616+(a*4294967296+b)) % Y=r0:=by
 have e:u*18446744073709551616+(a*4294967296+b)=(q1*4294967296+q0)*Y+r0:=by grind
 rw[e];constructor
 ·rw[Int.add_comm,Int.add_mul_ediv_right _ _ (by omega),Int.ediv_eq_zero_of_lt c.1 c.2,Int.zero_add]
 ·rw[Int.add_comm,Int.add_mul_emod_self_right,Int.emod_eq_of_lt c.1 c.2]
def pf {U y p:Int}(a:0<p) (b:0<y):U*p / (y*p)=U / y/\U*p % (y*p) / p=U % y:=by
 constructor
 ·exact Int.mul_ediv_mul_of_pos_left _ _ a
 ·rw[Int.mul_comm U p,Int.mul_comm y p,Int.mul_emod_mul_of_pos _ _ a,Int.mul_comm p,Int.mul_ediv_cancel _ (by omega)]
def Iu {u b a yn0 q r:Int}(d:Jy u b a yn0 q r) (g:2147483648<=a/\a<4294967296) (c:0<=yn0/\yn0<4294967296) (i:0<=b/\b<4294967296) (e:q<=4294967296) (j:4294967296<=r):q=(u*4294967296+b) / (a*4294967296+yn0):=by
 refine OV d g c ?_;by_cases f:0<=q
 ·have h:q*yn0<=4294967296*yn0:=Int.mul_le_mul_of_nonneg_right e c.1;omega
 ·have h:q*yn0<=0:=Int.mul_nonpos_of_nonpos_of_nonneg (by omega) c.1;omega
def km {hi lo y:Int}{n s:Nat}(m:0<=hi) (r:hi<y) (p:0<=lo/\lo<18446744073709551616) (v:y<18446744073709551616) (q:n+s=64) (h:y<2 ^ n) (i:1<=n/\2 ^ (n-1)<=y) :
  (9223372036854775808<=y*2 ^ s/\y*2 ^ s<18446744073709551616)/\(0<=hi*2 ^ s/\hi*2 ^ s<18446744073709551616)/\(0<=lo / 2 ^ n/\lo / 2 ^ n<2 ^ s/\lo / 2 ^ n<18446744073709551616)/\hi*2 ^ s+lo / 2 ^ n<y*2 ^ s /\
    (hi*18446744073709551616+lo)*2 ^ s=(hi*2 ^ s+lo / 2 ^ n)*18446744073709551616+lo*2 ^ s % 18446744073709551616:=by
 have g:(0:Int)<2 ^ s:=Int.pow_pos (by omega);have u:(0:Int)<2 ^ n:=Int.pow_pos (by omega);have a:(2:Int) ^ s*2 ^ n=18446744073709551616:=by rw[<- Int.pow_add,Nat.add_comm,q];decide
 have b:(2:Int) ^ s*2 ^ (n-1)=9223372036854775808:=by rw[<- Int.pow_add,show s+(n-1)=63 by omega];decide
 have l:18446744073709551616 / (2:Int) ^ s=2 ^ n:=by rw[<- a,Int.mul_ediv_cancel_left _ (by omega)]
 have o:18446744073709551616 % (2:Int) ^ s=0:=by rw[<- a,Int.mul_emod_right]
 obtain⟨d,e,f⟩:=oO (hi:=hi) g o p;rw[l]at d e f;have c1:y*2 ^ s<2 ^ n*2 ^ s:=Int.mul_lt_mul_of_pos_right h g;have c:(2:Int) ^ (n-1)*2 ^ s<=y*2 ^ s:=Int.mul_le_mul_of_nonneg_right i.2 (by omega);have j:(hi+1)*2 ^ s<=y*2 ^ s:=Int.mul_le_mul_of_nonneg_right (by omega) (by omega);have k:0<=hi*2 ^ s:=Int.mul_nonneg m (by omega);rw[Int.mul_comm (2 ^ n),a]at c1;rw[Int.mul_comm (2 ^ (n-1)),b]at c;rw[Int.add_mul,Int.one_mul]at j;exact⟨⟨c,c1⟩,⟨k,by omega⟩,⟨e,f,by omega⟩,by omega,d⟩
end Go.N9
