/- Plain arithmetic of two BB0 of 64 bits. -/
set_option linter.unusedSimpArgs false
set_option linter.unusedVariables false
set_option linter.defProp false
set_option maxHeartbeats 32000000
set_option maxRecDepth 100000
namespace Go.V6
def An0 {x y:Int}(hx:0<=x/\x<18446744073709551616) (hy:0<=y/\y<18446744073709551616) :
  let x0:=x % 4294967296;let x1:=x / 4294967296;let y0:=y % 4294967296;let y1:=y / 4294967296
  let w0:=x0*y0;let t:=x1*y0+w0 / 4294967296;let w1:=t % 4294967296+x0*y1
  (0<=w0/\w0<18446744073709551616)/\(0<=x1*y0/\x1*y0<18446744073709551616)/\(0<=t/\t<18446744073709551616)/\(0<=x0*y1/\x0*y1<18446744073709551616)/\(0<=w1/\w1<18446744073709551616)/\(0<=x1*y1/\x1*y1<18446744073709551616) /\
    x1*y1+t / 4294967296+w1 / 4294967296=x*y / 18446744073709551616:=by
 intro x0 x1 y0 y1 w0 t w1;have a0:0<=x0/\x0<=4294967295:=by omega
 have a1:0<=x1/\x1<=4294967295:=by omega
 have b0:0<=y0/\y0<=4294967295:=by omega
 have b1:0<=y1/\y1<=4294967295:=by omega
 have pos:∀ {a b:Int},0<=a/\a<=4294967295->0<=b/\b<=4294967295->0<=a*b/\a*b<=18446744065119617025:=fun ha hb=>
  ⟨Int.mul_nonneg ha.1 hb.1,Int.le_trans (Int.mul_le_mul ha.2 hb.2 hb.1 (by omega)) (by omega)⟩
 have p00:=pos a0 b0;have p10:=pos a1 b0;have p01:=pos a0 b1;have p11:=pos a1 b1;have hw0:w0=x0*y0:=rfl;have ht:t=x1*y0+w0 / 4294967296:=rfl;have hw1:w1=t % 4294967296+x0*y1:=rfl;have ex:x=x1*4294967296+x0:=by omega
 have ey:y=y1*4294967296+y0:=by omega
 have exy:x*y=(x1*y1)*18446744073709551616+(x1*y0)*4294967296+(x0*y1)*4294967296+x0*y0:=by
  rw[ex,ey];grind
 clear_value x0 x1 y0 y1
 generalize x0*y0=P00 at *;generalize x1*y0=P10 at *;generalize x0*y1=P01 at *;generalize x1*y1=P11 at *;subst hw0;refine⟨by omega,by omega,by omega,by omega,by omega,by omega,?_⟩;rw[exy];omega
structure JU (u un yn1 yn0 q r:Int):Prop where
 rem:r=u-q*yn1
 F8:(u*4294967296+un) / (yn1*4294967296+yn0)<=q
 y8:q<=4294967297
section
variable {u un yn1 yn0 q r:Int}
def aP (h1:0<yn1*4294967296+yn0):(u*4294967296+un) / (yn1*4294967296+yn0)<=q↔u*4294967296+un<(q+1)*(yn1*4294967296+yn0):=by
 rw[<- Int.lt_add_one_iff,Int.ediv_lt_iff_lt_mul h1]
def OS (hy:2147483648<=yn1/\yn1<4294967296) (h0:0<=yn0/\yn0<4294967296) (hu:0<=u/\u<yn1*4294967296+yn0) (hn:0<=un/\un<4294967296):JU u un yn1 yn0 (u / yn1) (u-u / yn1*yn1):=by
 have hp:0<yn1*4294967296+yn0:=by omega
 have hq:yn1*(u / yn1)+u % yn1=u:=Int.mul_ediv_add_emod u yn1;have hr:=Int.emod_lt_of_pos u (show 0<yn1 by omega);have hr0:=Int.emod_nonneg u (show yn1≠0 by omega);have hq0:0<=u / yn1:=Int.ediv_nonneg hu.1 (by omega);generalize u / yn1=Q at *;generalize u % yn1=R at *;refine⟨rfl,?_,?_⟩
 ·rw[aP hp];have e:(Q+1)*(yn1*4294967296+yn0)=(yn1*Q)*4294967296+yn1*4294967296+(Q+1)*yn0:=by grind
  have e2:0<=(Q+1)*yn0:=Int.mul_nonneg (by omega) h0.1;rw[e];generalize yn1*Q=A at *;generalize (Q+1)*yn0=B at *;omega
 ·refine Int.not_lt.1 fun hc=>?_;have:4294967298*yn1<=yn1*Q:=by rw[Int.mul_comm yn1 Q];exact Int.mul_le_mul_of_nonneg_right (by omega) (by omega)
  generalize yn1*Q=A at *;omega
def QT (hd:JU u un yn1 yn0 q r) (hy:2147483648<=yn1/\yn1<4294967296) (h0:0<=yn0/\yn0<4294967296) (hu:0<=u/\u<yn1*4294967296+yn0) (hn:0<=un/\un<4294967296)
  (hc:4294967296<=q\/4294967296*r+un<q*yn0):JU u un yn1 yn0 (q-1) (r+yn1):=by
 obtain⟨h1,h2,h3⟩:=hd;have hp:0<yn1*4294967296+yn0:=by omega
 refine⟨by rw[h1];grind,?_,by omega⟩;rw[aP hp,Int.sub_add_cancel];have e:q*(yn1*4294967296+yn0)=(q*yn1)*4294967296+q*yn0:=by grind
 rcases hc with hc|hc
 ·have:4294967296*(yn1*4294967296+yn0)<=q*(yn1*4294967296+yn0):=Int.mul_le_mul_of_nonneg_right hc (by omega);omega
 ·rw[e];generalize q*yn1=A at *;generalize q*yn0=B at *;omega
def NZ (hd:JU u un yn1 yn0 q r) (hy:2147483648<=yn1/\yn1<4294967296) (h0:0<=yn0/\yn0<4294967296)
  (hc:q*yn0<=4294967296*r+un):q=(u*4294967296+un) / (yn1*4294967296+yn0):=by
 obtain⟨h1,h2,h3⟩:=hd;have hp:0<yn1*4294967296+yn0:=by omega
 refine Int.le_antisymm ?_ h2;rw[Int.le_ediv_iff_mul_le hp];have e:q*(yn1*4294967296+yn0)=(q*yn1)*4294967296+q*yn0:=by grind
 rw[e];generalize q*yn1=A at *;generalize q*yn0=B at *;omega
end
def ij {n1 n2:Int}{e1 e2 d1:Nat}(h1:Nat.Coprime n1.natAbs d1) (hd:e1∣d1) (he:Nat.Coprime e1 e2):Nat.Coprime (n1*(e2:Int)+n2*(e1:Int)).natAbs e1:=by
 have hc1:Nat.gcd (n1*(e2:Int)+n2*(e1:Int)).natAbs e1∣e1:=Nat.gcd_dvd_right _ _;have hc2:Nat.gcd (n1*(e2:Int)+n2*(e1:Int)).natAbs e1∣(n1*(e2:Int)+n2*(e1:Int)).natAbs:=Nat.gcd_dvd_left _ _;show Nat.gcd (n1*(e2:Int)+n2*(e1:Int)).natAbs e1=1;generalize Nat.gcd (n1*(e2:Int)+n2*(e1:Int)).natAbs e1=c at *;have k1:(c:Int)∣n1*(e2:Int)+n2*(e1:Int):=Int.ofNat_dvd_left.2 hc2;have k2:(c:Int)∣n2*(e1:Int):=Int.dvd_trans (Int.natCast_dvd_natCast.2 hc1) (Int.dvd_mul_left _ _);have k3:(c:Int)∣n1*(e2:Int):=(Int.dvd_add_left k2).1 k1;have k4:c∣n1.natAbs*e2:=by
  have:=Int.ofNat_dvd_left.1 k3
  rwa [Int.natAbs_mul,Int.natAbs_natCast]at this
 have k5:c∣n1.natAbs:=(Nat.Coprime.coprime_dvd_left hc1 he).dvd_of_dvd_mul_right k4;exact Nat.eq_one_of_dvd_one (by rw[<- (show Nat.gcd n1.natAbs d1=1 from h1)];exact Nat.dvd_gcd k5 (Nat.dvd_trans hc1 hd))
def Xk {n1 n2:Int}{d1 d2:Nat}(h1:Nat.gcd n1.natAbs d1=1) (h2:Nat.gcd n2.natAbs d2=1) (hd1:0<d1){t:Int}(ht:t=n1*(d2 / Nat.gcd d1 d2:Nat)+n2*(d1 / Nat.gcd d1 d2:Nat)) :
  Nat.gcd (t.natAbs / Nat.gcd t.natAbs (Nat.gcd d1 d2)) ((d1 / Nat.gcd d1 d2)*(d2 / Nat.gcd t.natAbs (Nat.gcd d1 d2)))=1:=by
 have hg:0<Nat.gcd d1 d2:=Nat.gcd_pos_of_pos_left _ hd1;have he:Nat.Coprime (d1 / Nat.gcd d1 d2) (d2 / Nat.gcd d1 d2):=Nat.coprime_div_gcd_div_gcd hg;have e1d:d1 / Nat.gcd d1 d2∣d1:=Nat.div_dvd_of_dvd (Nat.gcd_dvd_left _ _);have e2d:d2 / Nat.gcd d1 d2∣d2:=Nat.div_dvd_of_dvd (Nat.gcd_dvd_right _ _);have c1:Nat.Coprime t.natAbs (d1 / Nat.gcd d1 d2):=by rw[ht];exact ij h1 e1d he
 have c2:Nat.Coprime t.natAbs (d2 / Nat.gcd d1 d2):=by rw[ht,Int.add_comm];exact ij h2 e2d he.symm
 have hh:0<Nat.gcd t.natAbs (Nat.gcd d1 d2):=Nat.gcd_pos_of_pos_right _ hg;have hhg:Nat.gcd t.natAbs (Nat.gcd d1 d2)∣Nat.gcd d1 d2:=Nat.gcd_dvd_right _ _;have c3:Nat.Coprime (t.natAbs / Nat.gcd t.natAbs (Nat.gcd d1 d2)) (Nat.gcd d1 d2 / Nat.gcd t.natAbs (Nat.gcd d1 d2)):=Nat.coprime_div_gcd_div_gcd hh;have hN:t.natAbs / Nat.gcd t.natAbs (Nat.gcd d1 d2)∣t.natAbs:=Nat.div_dvd_of_dvd (Nat.gcd_dvd_left _ _);have ed:d2 / Nat.gcd t.natAbs (Nat.gcd d1 d2)=(d2 / Nat.gcd d1 d2)*(Nat.gcd d1 d2 / Nat.gcd t.natAbs (Nat.gcd d1 d2)):=by
  have x1:d2=(d2 / Nat.gcd d1 d2)*Nat.gcd d1 d2:=(Nat.div_mul_cancel (Nat.gcd_dvd_right _ _)).symm;rw(occs:= .pos [1]) [x1];rw[Nat.mul_div_assoc _ hhg]
 rw[ed];exact Nat.Coprime.mul_right (Nat.Coprime.coprime_dvd_left hN c1) (Nat.Coprime.mul_right (Nat.Coprime.coprime_dvd_left hN c2) c3)
section
variable {n1 n2 t:Int}{d1 d2:Nat}
def Hq (n:Int) (d:Nat):Prop:=0<d/\Nat.gcd n.natAbs d=1
def low (N:Int) (D:Nat):Int×Nat:=(N / (Nat.gcd N.natAbs D:Nat),D / Nat.gcd N.natAbs D)
def nP {N n:Int}{D d G:Nat}(hG:0<G) (hN:N=G*n) (hD:D=G*d) (hc:Nat.gcd n.natAbs d=1):low N D=(n,d):=by
 have h:Nat.gcd N.natAbs D=G:=by
  rw[hN,hD,Int.natAbs_mul,Int.natAbs_natCast,Nat.gcd_mul_left,hc,Nat.mul_one]
 unfold low;rw[h,hN,hD,Int.mul_ediv_cancel_left _ (by omega),Nat.mul_div_cancel_left _ hG]
def IT {h:Nat}(hd:h∣t.natAbs):(t / (h:Int)).natAbs=t.natAbs / h:=by
 obtain⟨k,hk⟩:=Int.ofNat_dvd_left.2 hd;rcases Nat.eq_zero_or_pos h with rfl|hp
 ·simp
 ·rw[hk,Int.mul_ediv_cancel_left _ (by omega),Int.natAbs_mul,Int.natAbs_natCast,Nat.mul_div_cancel_left _ hp]
def vQ (h1:Hq n1 d1) (h2:Hq n2 d2)(ht:t=n1*(d2 / Nat.gcd d1 d2:Nat)+n2*(d1 / Nat.gcd d1 d2:Nat)):
  low (n1*d2+n2*d1) (d1*d2)=(t / (Nat.gcd t.natAbs (Nat.gcd d1 d2):Nat),(d1 / Nat.gcd d1 d2)*(d2 / Nat.gcd t.natAbs (Nat.gcd d1 d2))):=by
 have hg:0<Nat.gcd d1 d2:=Nat.gcd_pos_of_pos_left _ h1.1;have hh:0<Nat.gcd t.natAbs (Nat.gcd d1 d2):=Nat.gcd_pos_of_pos_right _ hg;have hc:=Xk h1.2 h2.2 h1.1 ht;have x1:d1=Nat.gcd d1 d2*(d1 / Nat.gcd d1 d2):=(Nat.mul_div_cancel' (Nat.gcd_dvd_left _ _)).symm;have x2:d2=Nat.gcd d1 d2*(d2 / Nat.gcd d1 d2):=(Nat.mul_div_cancel' (Nat.gcd_dvd_right _ _)).symm;have hth:(Nat.gcd t.natAbs (Nat.gcd d1 d2):Nat)∣t.natAbs:=Nat.gcd_dvd_left _ _;have hhd:Nat.gcd t.natAbs (Nat.gcd d1 d2)∣d2:=Nat.dvd_trans (Nat.gcd_dvd_right _ _) (Nat.gcd_dvd_right _ _);have x3:t=(Nat.gcd t.natAbs (Nat.gcd d1 d2):Nat)*(t / (Nat.gcd t.natAbs (Nat.gcd d1 d2):Nat)):=(Int.mul_ediv_cancel' (Int.ofNat_dvd_left.2 hth)).symm;have x4:d2=Nat.gcd t.natAbs (Nat.gcd d1 d2)*(d2 / Nat.gcd t.natAbs (Nat.gcd d1 d2)):=(Nat.mul_div_cancel' hhd).symm;refine nP (G:=Nat.gcd d1 d2*Nat.gcd t.natAbs (Nat.gcd d1 d2)) (Nat.mul_pos hg hh) ?_ ?_ (by rw[IT hth];exact hc)
 ·have e:n1*(d2:Int)+n2*(d1:Int)=(Nat.gcd d1 d2:Nat)*t:=by
   rw[ht];have y1:(d1:Int)=(Nat.gcd d1 d2:Nat)*((d1 / Nat.gcd d1 d2:Nat):Int):=by rw[<- Int.natCast_mul,<- x1]
   have y2:(d2:Int)=(Nat.gcd d1 d2:Nat)*((d2 / Nat.gcd d1 d2:Nat):Int):=by rw[<- Int.natCast_mul,<- x2]
   generalize ((d1 / Nat.gcd d1 d2:Nat):Int)=E1 at *;generalize ((d2 / Nat.gcd d1 d2:Nat):Int)=E2 at *;rw[y1,y2];generalize ((Nat.gcd d1 d2:Nat):Int)=g
   grind
  rw[e,Int.natCast_mul,Int.mul_assoc,<- x3]
 ·have e:d1*d2=(Nat.gcd d1 d2*(d1 / Nat.gcd d1 d2))*(Nat.gcd t.natAbs (Nat.gcd d1 d2)*(d2 / Nat.gcd t.natAbs (Nat.gcd d1 d2))):=by rw[<- x1,<- x4]
  rw[e,Nat.mul_assoc,Nat.mul_assoc,Nat.mul_left_comm (d1 / Nat.gcd d1 d2)]
def vR (h1:Hq n1 d1) (h2:Hq n2 d2):
  low (n1*n2) (d1*d2)=((n1 / (Nat.gcd n1.natAbs d2:Nat))*(n2 / (Nat.gcd n2.natAbs d1:Nat)),(d1 / Nat.gcd n2.natAbs d1)*(d2 / Nat.gcd n1.natAbs d2)):=by
 have hg:0<Nat.gcd n1.natAbs d2:=Nat.gcd_pos_of_pos_right _ h2.1;have hh:0<Nat.gcd n2.natAbs d1:=Nat.gcd_pos_of_pos_right _ h1.1;have g1:Nat.gcd n1.natAbs d2∣n1.natAbs:=Nat.gcd_dvd_left _ _;have g2:Nat.gcd n1.natAbs d2∣d2:=Nat.gcd_dvd_right _ _;have k1:Nat.gcd n2.natAbs d1∣n2.natAbs:=Nat.gcd_dvd_left _ _;have k2:Nat.gcd n2.natAbs d1∣d1:=Nat.gcd_dvd_right _ _;have x1:n1=(Nat.gcd n1.natAbs d2:Nat)*(n1 / (Nat.gcd n1.natAbs d2:Nat)):=(Int.mul_ediv_cancel' (Int.ofNat_dvd_left.2 g1)).symm;have x2:n2=(Nat.gcd n2.natAbs d1:Nat)*(n2 / (Nat.gcd n2.natAbs d1:Nat)):=(Int.mul_ediv_cancel' (Int.ofNat_dvd_left.2 k1)).symm;have x3:d2=Nat.gcd n1.natAbs d2*(d2 / Nat.gcd n1.natAbs d2):=(Nat.mul_div_cancel' g2).symm;have x4:d1=Nat.gcd n2.natAbs d1*(d1 / Nat.gcd n2.natAbs d1):=(Nat.mul_div_cancel' k2).symm;have c1:Nat.Coprime (n1.natAbs / Nat.gcd n1.natAbs d2) (d2 / Nat.gcd n1.natAbs d2):=Nat.coprime_div_gcd_div_gcd hg;have c2:Nat.Coprime (n2.natAbs / Nat.gcd n2.natAbs d1) (d1 / Nat.gcd n2.natAbs d1):=Nat.coprime_div_gcd_div_gcd hh;have c3:Nat.Coprime (n1.natAbs / Nat.gcd n1.natAbs d2) (d1 / Nat.gcd n2.natAbs d1):=Nat.Coprime.coprime_dvd_left (Nat.div_dvd_of_dvd g1) (Nat.Coprime.coprime_dvd_right (Nat.div_dvd_of_dvd k2) h1.2);have c4:Nat.Coprime (n2.natAbs / Nat.gcd n2.natAbs d1) (d2 / Nat.gcd n1.natAbs d2):=Nat.Coprime.coprime_dvd_left (Nat.div_dvd_of_dvd k1) (Nat.Coprime.coprime_dvd_right (Nat.div_dvd_of_dvd g2) h2.2);refine nP (G:=Nat.gcd n1.natAbs d2*Nat.gcd n2.natAbs d1) (Nat.mul_pos hg hh) ?_ ?_ ?_
 ·rw[Int.natCast_mul];have e:n1*n2=((Nat.gcd n1.natAbs d2:Nat)*(n1 / (Nat.gcd n1.natAbs d2:Nat)))*((Nat.gcd n2.natAbs d1:Nat)*(n2 / (Nat.gcd n2.natAbs d1:Nat))):=by rw[<- x1,<- x2]
  rw[e];generalize (n1 / (Nat.gcd n1.natAbs d2:Nat))=A;generalize (n2 / (Nat.gcd n2.natAbs d1:Nat))=B;generalize ((Nat.gcd n1.natAbs d2:Nat):Int)=C;generalize ((Nat.gcd n2.natAbs d1:Nat):Int)=D
  grind
 ·have e:d1*d2=(Nat.gcd n2.natAbs d1*(d1 / Nat.gcd n2.natAbs d1))*(Nat.gcd n1.natAbs d2*(d2 / Nat.gcd n1.natAbs d2)):=by rw[<- x3,<- x4]
  rw[e];generalize d1 / Nat.gcd n2.natAbs d1=A;generalize d2 / Nat.gcd n1.natAbs d2=B;generalize Nat.gcd n1.natAbs d2=C;generalize Nat.gcd n2.natAbs d1=D
  grind
 ·rw[Int.natAbs_mul,IT g1,IT k1];exact Nat.Coprime.mul_left (Nat.Coprime.mul_right c3 c1) (Nat.Coprime.mul_right c2 c4)
def nQ (h1:Hq n1 d1) (h2:Hq n2 d2) (h:n1*d2=n2*d1):n1=n2/\d1=d2:=by
 have k1:d1∣d2:=by
  refine Nat.Coprime.dvd_of_dvd_mul_left (k:=d1) (m:=n1.natAbs) (Nat.Coprime.symm h1.2) ?_;have:=congrArg Int.natAbs h;rw[Int.natAbs_mul,Int.natAbs_mul,Int.natAbs_natCast,Int.natAbs_natCast]at this;rw[this];exact Nat.dvd_mul_left _ _
 have k2:d2∣d1:=by
  refine Nat.Coprime.dvd_of_dvd_mul_left (k:=d2) (m:=n2.natAbs) (Nat.Coprime.symm h2.2) ?_;have:=congrArg Int.natAbs h;rw[Int.natAbs_mul,Int.natAbs_mul,Int.natAbs_natCast,Int.natAbs_natCast]at this;rw[<- this];exact Nat.dvd_mul_left _ _
 have hd:d1=d2:=Nat.dvd_antisymm k1 k2;subst hd;have:=h1.1;exact⟨Int.eq_of_mul_eq_mul_right (by omega) h,rfl⟩
end
structure Q where
 n:Int
 d:Int
 deriving DecidableEq
structure Q.Ok (q:Q):Prop where
 n1: -9223372036854775808<=q.n
 n2:q.n<=9223372036854775807
 d1:1<=q.d
 d2:q.d<=9223372036854775807
 low:Nat.gcd q.n.natAbs q.d.natAbs=1
def fit (p:Int×Nat):Option Q:=if -9223372036854775808<=p.1/\p.1<=9223372036854775807/\p.2<=9223372036854775807 then some ⟨p.1,p.2⟩else none
def PT (a b:Q):Option Q:=fit (low (a.n*b.d+b.n*a.d) (a.d.natAbs*b.d.natAbs))
def YJ (a b:Q):Option Q:=PT a ⟨-b.n,b.d⟩
def Kd (a b:Q):Option Q:=fit (low (a.n*b.n) (a.d.natAbs*b.d.natAbs))
def MP (a b:Q):Option Q:=if b.n=0 then none else fit (low (a.n*(b.n.sign*b.d)) (a.d.natAbs*b.n.natAbs))
def DR (a b:Q):Int:=(a.n*b.d-b.n*a.d).sign
def ofQ (n:Int):Q:=⟨n,1⟩
def To (a b:Q):PT a b=PT b a:=by
 unfold PT;rw[Int.add_comm,Nat.mul_comm]
def KL (a b:Q):Kd a b=Kd b a:=by
 unfold Kd;rw[Int.mul_comm,Nat.mul_comm]
def Q.Ok.yJ {q:Q}(h:q.Ok):Hq q.n q.d.natAbs:=⟨by have:=h.d1;omega,h.low⟩
def oU {n:Int}(h1: -9223372036854775808<=n) (h2:n<=9223372036854775807):(ofQ n).Ok:=⟨h1,h2,by show(1:Int)<=1;omega,by show(1:Int)<=_;omega,Nat.gcd_one_right _⟩
def Pc {N:Int}{D:Nat}(hD:0<D):Hq (low N D).1 (low N D).2/\(low N D).1*D=N*(low N D).2:=by
 have hg:0<Nat.gcd N.natAbs D:=Nat.gcd_pos_of_pos_right _ hD;have g1:Nat.gcd N.natAbs D∣N.natAbs:=Nat.gcd_dvd_left _ _;have g2:Nat.gcd N.natAbs D∣D:=Nat.gcd_dvd_right _ _;refine⟨⟨?_,?_⟩,?_⟩
 ·exact Nat.div_pos (Nat.le_of_dvd hD g2) hg
 ·show Nat.gcd (N / (Nat.gcd N.natAbs D:Nat)).natAbs (D / Nat.gcd N.natAbs D)=1;rw[IT g1];exact Nat.coprime_div_gcd_div_gcd hg
 ·show N / (Nat.gcd N.natAbs D:Nat)*(D:Nat)=N*((D / Nat.gcd N.natAbs D:Nat):Int);have x1:N=(Nat.gcd N.natAbs D:Nat)*(N / (Nat.gcd N.natAbs D:Nat)):=(Int.mul_ediv_cancel' (Int.ofNat_dvd_left.2 g1)).symm;have x2:(D:Int)=(Nat.gcd N.natAbs D:Nat)*((D / Nat.gcd N.natAbs D:Nat):Int):=by rw[<- Int.natCast_mul,Nat.mul_div_cancel' g2]
  generalize hA:N / (Nat.gcd N.natAbs D:Nat)=A at *;generalize ((D / Nat.gcd N.natAbs D:Nat):Int)=B at *;generalize ((Nat.gcd N.natAbs D:Nat):Int)=G at *;rw[x1,x2]
  grind
def LS {p:Int×Nat}{q:Q}(hp:Hq p.1 p.2) (h:fit p=some q):q.Ok/\q=⟨p.1,p.2⟩:=by
 unfold fit at h;split at h
 ·cases h;rename_i hc;have:=hp.1;exact⟨⟨hc.1,hc.2.1,by show(1:Int)<=(p.2:Nat);omega,by show(p.2:Int)<=_;omega,by show Nat.gcd p.1.natAbs (p.2:Int).natAbs=1;rw[Int.natAbs_natCast];exact hp.2⟩,rfl⟩
 ·cases h
def Is (q:Q) (N D:Int):Prop:=q.n*D=N*q.d
def BO {d:Int}(h:1<=d):(d.natAbs:Int)=d:=by omega
def Vj {a b q:Q}(ha:a.Ok) (hb:b.Ok) (h:PT a b=some q):q.Ok/\Is q (a.n*b.d+b.n*a.d) (a.d*b.d):=by
 have hD:0<a.d.natAbs*b.d.natAbs:=Nat.mul_pos (by have:=ha.d1;omega) (by have:=hb.d1;omega);obtain⟨h1,h2⟩:=Pc (N:=a.n*b.d+b.n*a.d) hD;obtain⟨h3,h4⟩:=LS h1 h;subst h4;refine⟨h3,?_⟩;show(low _ _).1*(a.d*b.d)=_*(((low _ _).2:Nat):Int);rw[<- h2,Int.natCast_mul,BO ha.d1,BO hb.d1]
def KG {a b q:Q}(ha:a.Ok) (hb:b.Ok) (h:Kd a b=some q):q.Ok/\Is q (a.n*b.n) (a.d*b.d):=by
 have hD:0<a.d.natAbs*b.d.natAbs:=Nat.mul_pos (by have:=ha.d1;omega) (by have:=hb.d1;omega);obtain⟨h1,h2⟩:=Pc (N:=a.n*b.n) hD;obtain⟨h3,h4⟩:=LS h1 h;subst h4;refine⟨h3,?_⟩;show(low _ _).1*(a.d*b.d)=_*(((low _ _).2:Nat):Int);rw[<- h2,Int.natCast_mul,BO ha.d1,BO hb.d1]
def leQ (a b:Q):Prop:=a.n*b.d<=b.n*a.d
def aj (a:Q):leQ a a:=Int.le_refl _
def Up (a b:Q):leQ a b\/leQ b a:=Int.le_total _ _
def Kb {a b c:Q}(ha:a.Ok) (hb:b.Ok) (hc:c.Ok) (h1:leQ a b) (h2:leQ b c):leQ a c:=by
 unfold leQ at *;have d1:=ha.d1;have d2:=hb.d1;have d3:=hc.d1;have k1:a.n*b.d*c.d<=b.n*a.d*c.d:=Int.mul_le_mul_of_nonneg_right h1 (by omega);have k2:b.n*c.d*a.d<=c.n*b.d*a.d:=Int.mul_le_mul_of_nonneg_right h2 (by omega);refine Int.le_of_mul_le_mul_right (a:=b.d) ?_ (by omega);have e1:a.n*c.d*b.d=a.n*b.d*c.d:=by grind
 have e2:b.n*a.d*c.d=b.n*c.d*a.d:=by grind
 have e3:c.n*a.d*b.d=c.n*b.d*a.d:=by grind
 rw[e1,e3];exact Int.le_trans k1 (e2 ▸ k2)
def ak {a b:Q}(ha:a.Ok) (hb:b.Ok) (h1:leQ a b) (h2:leQ b a):a=b:=by
 have e:a.n*b.d=b.n*a.d:=Int.le_antisymm h1 h2;have k:=nQ ha.yJ hb.yJ (by rw[BO hb.d1,BO ha.d1];exact e);have d1:=ha.d1;have d2:=hb.d1;obtain⟨an,ad⟩:=a;obtain⟨bn,bd⟩:=b;obtain⟨k1,k2⟩:=k;have:ad=bd:=by
  have k2':ad.natAbs=bd.natAbs:=k2;have d1':1<=ad:=d1;have d2':1<=bd:=d2;omega
 rw[this,show an=bn from k1]
def ir {a b:Q}:DR a b<0↔¬ leQ b a:=by
 unfold DR leQ;rw[Int.sign_neg_iff];omega
def iu {a b:Q}:0<DR a b↔¬ leQ a b:=by
 unfold DR leQ;rw[Int.sign_pos_iff];omega
def Co (m:Q) (l:List Q):Q:=l.foldl (fun m x=>if DR x m<0 then x else m) m
def Cp (m:Q) (l:List Q):Q:=l.foldl (fun m x=>if 0<DR x m then x else m) m
def mE {m y:Q}{l:List Q}:Co m (y::l)=Co (if DR y m<0 then y else m) l:=rfl
def mF {m y:Q}{l:List Q}:Cp m (y::l)=Cp (if 0<DR y m then y else m) l:=rfl
def Wj {l:List Q}:∀ {m:Q},m.Ok->(∀ x∈l,x.Ok)->(Co m l=m\/Co m l∈l)/\leQ (Co m l) m/\∀ x∈l,leQ (Co m l) x:=by
 induction l with
 |nil=>intro m _ _;exact⟨.inl rfl,aj _,fun x h=>nomatch h⟩
 | cons y l ih=>
   intro m hm hl;have hy:=hl y (List.mem_cons_self ..);have hl':∀ x∈l,x.Ok:=fun x hx=>hl x (List.mem_cons_of_mem _ hx);rw[mE];by_cases c:DR y m<0
   ·rw[if_pos c];obtain⟨h1,h2,h3⟩:=ih hy hl';have hz:(Co y l).Ok:=by
     rcases h1 with h|h
     ·rw[h];exact hy
     ·exact hl' _ h
    refine⟨.inr ?_,?_,?_⟩
    ·rcases h1 with h|h
     ·rw[h];exact List.mem_cons_self ..
     ·exact List.mem_cons_of_mem _ h
    ·exact Kb hz hy hm h2 ((Up y m).resolve_right (ir.1 c))
    ·intro x hx;rcases List.mem_cons.1 hx with rfl|hx
     ·exact h2
     ·exact h3 x hx
   ·rw[if_neg c];obtain⟨h1,h2,h3⟩:=ih hm hl';have hz:(Co m l).Ok:=by
     rcases h1 with h|h
     ·rw[h];exact hm
     ·exact hl' _ h
    have hmy:leQ m y:=Classical.byContradiction fun h=>c (ir.2 h);refine⟨?_,h2,?_⟩
    ·rcases h1 with h|h
     ·exact .inl h
     ·exact .inr (List.mem_cons_of_mem _ h)
    ·intro x hx;rcases List.mem_cons.1 hx with rfl|hx
     ·exact Kb hz hm hy h2 hmy
     ·exact h3 x hx
def Wk {l:List Q}:∀ {m:Q},m.Ok->(∀ x∈l,x.Ok)->(Cp m l=m\/Cp m l∈l)/\leQ m (Cp m l)/\∀ x∈l,leQ x (Cp m l):=by
 induction l with
 |nil=>intro m _ _;exact⟨.inl rfl,aj _,fun x h=>nomatch h⟩
 | cons y l ih=>
   intro m hm hl;have hy:=hl y (List.mem_cons_self ..);have hl':∀ x∈l,x.Ok:=fun x hx=>hl x (List.mem_cons_of_mem _ hx);rw[mF];by_cases c:0<DR y m
   ·rw[if_pos c];obtain⟨h1,h2,h3⟩:=ih hy hl';have hz:(Cp y l).Ok:=by
     rcases h1 with h|h
     ·rw[h];exact hy
     ·exact hl' _ h
    refine⟨.inr ?_,?_,?_⟩
    ·rcases h1 with h|h
     ·rw[h];exact List.mem_cons_self ..
     ·exact List.mem_cons_of_mem _ h
    ·exact Kb hm hy hz ((Up y m).resolve_left (iu.1 c)) h2
    ·intro x hx;rcases List.mem_cons.1 hx with rfl|hx
     ·exact h2
     ·exact h3 x hx
   ·rw[if_neg c];obtain⟨h1,h2,h3⟩:=ih hm hl';have hz:(Cp m l).Ok:=by
     rcases h1 with h|h
     ·rw[h];exact hm
     ·exact hl' _ h
    have hmy:leQ y m:=Classical.byContradiction fun h=>c (iu.2 h);refine⟨?_,h2,?_⟩
    ·rcases h1 with h|h
     ·exact .inl h
     ·exact .inr (List.mem_cons_of_mem _ h)
    ·intro x hx;rcases List.mem_cons.1 hx with rfl|hx
     ·exact Kb hy hm hz hmy h2
     ·exact h3 x hx
def Nj {m m':Q}{l l':List Q}(hl:∀ x∈m::l,x.Ok) (h:∀ x,x∈m::l↔x∈m'::l'):Co m l=Co m' l':=by
 have hm:=hl m (List.mem_cons_self ..);have hl1:∀ x∈l,x.Ok:=fun x hx=>hl x (List.mem_cons_of_mem _ hx);have hm':=hl m' ((h m').2 (List.mem_cons_self ..));have hl2:∀ x∈l',x.Ok:=fun x hx=>hl x ((h x).2 (List.mem_cons_of_mem _ hx));obtain⟨a1,a2,a3⟩:=Wj hm hl1;obtain⟨b1,b2,b3⟩:=Wj hm' hl2;have ma:Co m l∈m::l:=by
  rcases a1 with h|h
  ·rw[h];exact List.mem_cons_self ..
  ·exact List.mem_cons_of_mem _ h
 have mb:Co m' l'∈m'::l':=by
  rcases b1 with h|h
  ·rw[h];exact List.mem_cons_self ..
  ·exact List.mem_cons_of_mem _ h
 refine ak (hl _ ma) (hl _ ((h _).2 mb)) ?_ ?_
 ·rcases List.mem_cons.1 ((h _).2 mb)with e|e
  ·rw[e];exact a2
  ·exact a3 _ e
 ·rcases List.mem_cons.1 ((h _).1 ma)with e|e
  ·rw[e];exact b2
  ·exact b3 _ e
def Nk {m m':Q}{l l':List Q}(hl:∀ x∈m::l,x.Ok) (h:∀ x,x∈m::l↔x∈m'::l'):Cp m l=Cp m' l':=by
 have hm:=hl m (List.mem_cons_self ..);have hl1:∀ x∈l,x.Ok:=fun x hx=>hl x (List.mem_cons_of_mem _ hx);have hm':=hl m' ((h m').2 (List.mem_cons_self ..));have hl2:∀ x∈l',x.Ok:=fun x hx=>hl x ((h x).2 (List.mem_cons_of_mem _ hx));obtain⟨a1,a2,a3⟩:=Wk hm hl1;obtain⟨b1,b2,b3⟩:=Wk hm' hl2;have ma:Cp m l∈m::l:=by
  rcases a1 with h|h
  ·rw[h];exact List.mem_cons_self ..
  ·exact List.mem_cons_of_mem _ h
 have mb:Cp m' l'∈m'::l':=by
  rcases b1 with h|h
  ·rw[h];exact List.mem_cons_self ..
  ·exact List.mem_cons_of_mem _ h
 refine ak (hl _ ma) (hl _ ((h _).2 mb)) ?_ ?_
 ·rcases List.mem_cons.1 ((h _).1 ma)with e|e
  ·rw[e];exact b2
  ·exact b3 _ e
 ·rcases List.mem_cons.1 ((h _).2 mb)with e|e
  ·rw[e];exact a2
  ·exact a3 _ e
end Go.V6
namespace Go.Proofs.T
open Go.V6
section
variable {s s1 s2:Bool}{n N1 N2 D1 D2:Nat}
def sg (s:Bool) (n:Int):Int:=if s=true then -n else n
def WS:(sg s n).natAbs=n:=by
 unfold sg;cases s<;>simp
def ei {h:Nat}(hd:h∣n):sg s n / (h:Int)=sg s ((n / h:Nat):Int):=by
 obtain⟨k,rfl⟩:=hd;rcases Nat.eq_zero_or_pos h with rfl|hp
 ·simp[sg]
 ·rw[Nat.mul_div_cancel_left _ hp];unfold sg;cases s
  ·simp only[Bool.false_eq_true,if_false];rw[Int.natCast_mul,Int.mul_ediv_cancel_left _ (by omega)]
  ·simp only[if_true];rw[Int.natCast_mul,<- Int.mul_neg,Int.mul_ediv_cancel_left _ (by omega)]
def AU7 {t:Bool}{a b:Int}:sg s a*sg t b=sg (s != t) (a*b):=by
 unfold sg;cases s<;>cases t<;>simp[Int.neg_mul,Int.mul_neg]
def lh (h1:Hq (sg s1 N1) D1) (h2:Hq (sg s2 N2) D2) (ht:sg s n=sg s1 N1*((D2 / Nat.gcd D1 D2:Nat):Int)+sg s2 N2*((D1 / Nat.gcd D1 D2:Nat):Int)):
  low (sg s1 N1*D2+sg s2 N2*D1) (D1*D2)=(sg s ((n / Nat.gcd (Nat.gcd D1 D2) (n % Nat.gcd D1 D2):Nat):Int),(D1 / Nat.gcd D1 D2)*(D2 / Nat.gcd (Nat.gcd D1 D2) (n % Nat.gcd D1 D2))):=by
 have e:=vQ h1 h2 ht;rw[WS]at e;have hg:Nat.gcd (Nat.gcd D1 D2) (n % Nat.gcd D1 D2)=Nat.gcd n (Nat.gcd D1 D2):=by
  rw[Nat.gcd_comm (Nat.gcd D1 D2),<- Nat.gcd_rec,Nat.gcd_comm]
 rw[hg,e,ei (Nat.gcd_dvd_left _ _)]
def ae (h1:Hq (sg s1 N1) D1) (h2:Hq (sg s2 N2) D2):
  low (sg s1 N1*sg s2 N2) (D1*D2)=(sg (s1 != s2) (((N1 / Nat.gcd N1 D2:Nat):Int)*((N2 / Nat.gcd N2 D1:Nat):Int)),(D1 / Nat.gcd N2 D1)*(D2 / Nat.gcd N1 D2)):=by
 rw[vR h1 h2,WS,WS,ei (Nat.gcd_dvd_left _ _),ei (Nat.gcd_dvd_left _ _),AU7]
def ag {D:Nat}(h:0<D):low 0 D=(0,1):=by
 unfold low;rw[Int.natAbs_zero,Nat.gcd_zero_left,Nat.div_self h,Int.zero_ediv]
end
def aq {s:Bool}{a b:Int}:sg s (a*b)=sg s a*b:=by
 unfold sg;cases s<;>simp[Int.neg_mul]
def uU {x y:Int}{D1 D2:Nat}(h1:0<D1) (h2:0<D2) (ht:x*((D2 / Nat.gcd D1 D2:Nat):Int)+y*((D1 / Nat.gcd D1 D2:Nat):Int)=0):low (x*D2+y*D1) (D1*D2)=(0,1):=by
 have e1:(D1:Int)=((D1 / Nat.gcd D1 D2:Nat):Int)*(Nat.gcd D1 D2:Nat):=by rw[<- Int.natCast_mul,Nat.div_mul_cancel (Nat.gcd_dvd_left _ _)]
 have e2:(D2:Int)=((D2 / Nat.gcd D1 D2:Nat):Int)*(Nat.gcd D1 D2:Nat):=by rw[<- Int.natCast_mul,Nat.div_mul_cancel (Nat.gcd_dvd_right _ _)]
 have e:x*(D2:Int)+y*(D1:Int)=0:=by
  generalize ((D1 / Nat.gcd D1 D2:Nat):Int)=a at *;generalize ((D2 / Nat.gcd D1 D2:Nat):Int)=b at *;generalize ((Nat.gcd D1 D2:Nat):Int)=g at *;rw[e1,e2,<- Int.mul_assoc,<- Int.mul_assoc,<- Int.add_mul,ht,Int.zero_mul]
 rw[e,ag (Nat.mul_pos h1 h2)]
end Go.Proofs.T
namespace Go.V6
def lz {hi lo p:Int}(hp:0<p) (hpd:18446744073709551616 % p=0) (hlo:0<=lo/\lo<18446744073709551616) :
  (hi*18446744073709551616+lo)*p=(hi*p+lo / (18446744073709551616 / p))*18446744073709551616+lo*p % 18446744073709551616/\0<=lo / (18446744073709551616 / p)/\lo / (18446744073709551616 / p)<p:=by
 obtain⟨k,hk⟩:=Int.dvd_of_emod_eq_zero hpd;have hk0:0<k:=by
  refine Int.not_le.1 fun h=>?_;have:p*k<=0:=Int.mul_nonpos_of_nonneg_of_nonpos (by omega) h;omega
 have e1:18446744073709551616 / p=k:=by rw[hk,Int.mul_ediv_cancel_left _ (by omega)]
 rw[e1];have m1:=Int.mul_ediv_add_emod lo k;have m2:=Int.emod_nonneg lo (show k≠0 by omega);have m3:=Int.emod_lt_of_pos lo hk0;have m4:0<=lo / k:=Int.ediv_nonneg hlo.1 (by omega);have m5:lo / k<p:=by
  refine Int.ediv_lt_of_lt_mul hk0 ?_;rw[<- hk];exact hlo.2
 refine⟨?_,m4,m5⟩;generalize lo / k=A at *;generalize lo % k=B at *;have e2:lo*p=A*18446744073709551616+B*p:=by rw[<- m1,hk];grind
 have b1:0<=B*p:=Int.mul_nonneg m2 (by omega);have b2:B*p<18446744073709551616:=by rw[hk,Int.mul_comm p k];exact Int.mul_lt_mul_of_pos_right m3 hp
 have e3:lo*p % 18446744073709551616=B*p:=by rw[e2];omega
 rw[e3];have e4:(hi*18446744073709551616+lo)*p=hi*p*18446744073709551616+lo*p:=by grind
 rw[e4,e2]
 grind
def vO {u a b Y q1 r1 q0 r0:Int}(hY:0<Y) (h1:u*4294967296+a=q1*Y+r1) (hr1:0<=r1/\r1<Y) (h0:r1*4294967296+b=q0*Y+r0) (hr0:0<=r0/\r0<Y) :
  (u*18446744073709551616+(a*4294967296+b)) / Y=q1*4294967296+q0/\(u*18446744073709551616+(a*4294967296+b)) % Y=r0:=by
 have e:u*18446744073709551616+(a*4294967296+b)=(q1*4294967296+q0)*Y+r0:=by grind
 rw[e];constructor
 ·rw[Int.add_comm,Int.add_mul_ediv_right _ _ (by omega),Int.ediv_eq_zero_of_lt hr0.1 hr0.2,Int.zero_add]
 ·rw[Int.add_comm,Int.add_mul_emod_self_right,Int.emod_eq_of_lt hr0.1 hr0.2]
def nG {U y p:Int}(hp:0<p) (hy:0<y):U*p / (y*p)=U / y/\U*p % (y*p) / p=U % y:=by
 constructor
 ·exact Int.mul_ediv_mul_of_pos_left _ _ hp
 ·rw[Int.mul_comm U p,Int.mul_comm y p,Int.mul_emod_mul_of_pos _ _ hp,Int.mul_comm p,Int.mul_ediv_cancel _ (by omega)]
def IM {u un yn1 yn0 q r:Int}(hd:JU u un yn1 yn0 q r) (hy:2147483648<=yn1/\yn1<4294967296) (h0:0<=yn0/\yn0<4294967296) (hn:0<=un/\un<4294967296) (hq:q<=4294967296) (hr:4294967296<=r):q=(u*4294967296+un) / (yn1*4294967296+yn0):=by
 refine NZ hd hy h0 ?_;by_cases hq0:0<=q
 ·have k1:q*yn0<=4294967296*yn0:=Int.mul_le_mul_of_nonneg_right hq h0.1;omega
 ·have k1:q*yn0<=0:=Int.mul_nonpos_of_nonpos_of_nonneg (by omega) h0.1;omega
def jM {hi lo y:Int}{n s:Nat}(h0:0<=hi) (h1:hi<y) (hl:0<=lo/\lo<18446744073709551616) (hy:y<18446744073709551616) (hn:n+s=64) (b1:y<2 ^ n) (b2:1<=n/\2 ^ (n-1)<=y) :
  (9223372036854775808<=y*2 ^ s/\y*2 ^ s<18446744073709551616)/\(0<=hi*2 ^ s/\hi*2 ^ s<18446744073709551616)/\(0<=lo / 2 ^ n/\lo / 2 ^ n<2 ^ s/\lo / 2 ^ n<18446744073709551616)/\hi*2 ^ s+lo / 2 ^ n<y*2 ^ s /\
    (hi*18446744073709551616+lo)*2 ^ s=(hi*2 ^ s+lo / 2 ^ n)*18446744073709551616+lo*2 ^ s % 18446744073709551616:=by
 have hp:(0:Int)<2 ^ s:=Int.pow_pos (by omega);have hk:(0:Int)<2 ^ n:=Int.pow_pos (by omega);have hpk:(2:Int) ^ s*2 ^ n=18446744073709551616:=by rw[<- Int.pow_add,Nat.add_comm,hn];decide
 have BC4:(2:Int) ^ s*2 ^ (n-1)=9223372036854775808:=by rw[<- Int.pow_add,show s+(n-1)=63 by omega];decide
 have e1:18446744073709551616 / (2:Int) ^ s=2 ^ n:=by rw[<- hpk,Int.mul_ediv_cancel_left _ (by omega)]
 have hd:18446744073709551616 % (2:Int) ^ s=0:=by rw[<- hpk,Int.mul_emod_right]
 obtain⟨d1,d2,d3⟩:=lz (hi:=hi) hp hd hl;rw[e1]at d1 d2 d3;have c1:y*2 ^ s<2 ^ n*2 ^ s:=Int.mul_lt_mul_of_pos_right b1 hp;have c2:(2:Int) ^ (n-1)*2 ^ s<=y*2 ^ s:=Int.mul_le_mul_of_nonneg_right b2.2 (by omega);have c3:(hi+1)*2 ^ s<=y*2 ^ s:=Int.mul_le_mul_of_nonneg_right (by omega) (by omega);have c4:0<=hi*2 ^ s:=Int.mul_nonneg h0 (by omega);rw[Int.mul_comm (2 ^ n),hpk]at c1;rw[Int.mul_comm (2 ^ (n-1)),BC4]at c2;rw[Int.add_mul,Int.one_mul]at c3;exact⟨⟨c2,c1⟩,⟨c4,by omega⟩,⟨d2,d3,by omega⟩,by omega,d1⟩
end Go.V6
