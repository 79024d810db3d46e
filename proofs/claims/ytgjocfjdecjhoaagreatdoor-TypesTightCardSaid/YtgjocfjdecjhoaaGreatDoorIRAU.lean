/- ratio: ZR. -/
import Derived.Test.YtgjocfjdecjhoaaGreatDoorIRAT
import Derived.Test.YtgjocfjdecjhoaaGreatDoorIRF
set_option linter.unusedSimpArgs false
set_option linter.unusedVariables false
set_option linter.defProp false
set_option maxHeartbeats 32000000
set_option maxRecDepth 100000
namespace Go.Proofs.T
open Go Go.Ab Go.N9
open Nat (reduceMul reduceEqDiff reduceAdd)
def kT {x y:Operand}{a b c d:Int}:Aq Tryz.prog .eql 107 x y (.agg ⟨[.int .u64 a,.int .u64 b]⟩) (.agg ⟨[.int .u64 c,.int .u64 d]⟩)=some (.bool (decide (a=c)&&decide (b=d))):=by
 have he:eqF Tryz.prog 9999 ⟨[.int .u64 a,.int .u64 b]⟩ ⟨[.int .u64 c,.int .u64 d]⟩ (Tryz.prog.fieldsOf 107).toList=bi (a==c) (bi (b==d) (some true) (some false)) (some false):=kR;have h:=Vx (x:=x) (y:=y) rfl kR kR kR he;rw[YP,YP,RH,RH,dR]at h;exact h.1
def gW {a b:Int}(ha:0<=a) (ha':a<=9223372036854775808) (hb:0<=b) (hb':b<=9223372036854775808):0<=a*b/\a*b<=85070591730234615865843651857942052864:=by
 refine⟨Int.mul_nonneg ha hb,?_⟩;have:=Int.mul_le_mul ha' hb' hb om;omega
def jS {Z:St}{s1 s2:Bool}{N1 N2 D1 D2:Nat}(h1:IY (sg s1 N1) D1) (h2:IY (sg s2 N2) D2) (b1:N1<=9223372036854775808) (b2:N2<=9223372036854775808) (b3:D1<=9223372036854775808) (b4:D2<=9223372036854775808) :
  Ev (gO 95 [fv s1 (N1:Nat) (D1:Nat),fv s2 (N2:Nat) (D2:Nat)] Z) (fun r=>∃ Z',r=⟨false,Ek (fit (low (sg s1 N1*D2+sg s2 N2*D1) (D1*D2))),Z'⟩/\Ext Z Z') ⟨⟩:=by
 have p1:=h1.1;have p2:=h2.1;refine C8 Tryz.func95 rfl rfl ?_;unfold fv mc;refine gS ?_;refine Kg.mono ?_;rintro r rfl;obtain⟨g,hg⟩:=nW (Nat.gcd D1 D2);have g0:0<g:=by rw[<- hg];exact Nat.gcd_pos_of_pos_left _ p1
 have gl:g<=9223372036854775808:=by rw[<- hg];exact j9 (Nat.gcd_le_left _ p1) b3
 rw[hg];have dl:∀ (a b:Nat),a<=9223372036854775808->0<=((a / b:Nat):Int)/\((a / b:Nat):Int)<=9223372036854775808:=fun a b ha=>by
  have:a / b<=a:=KD _ _;generalize a / b=c at *;exact⟨om,om⟩
 have tq:∀ (a b:Nat),a<=9223372036854775808->IntKind.u64.wrap (Int.tdiv (a:Int) (b:Int))=((a / b:Nat):Int):=fun a b ha=>by
  have:=dl a b ha;rw[<- Int.ofNat_tdiv];exact Fi this.1 om
 have uq:∀ (a b:Nat),a<=9223372036854775808->U64 ((a / b:Nat):Int):=fun a b ha=>by
  have:=dl a b ha;exact⟨this.1,om⟩
 have zg:decide ((g:Int)=0)=false:=dF;simp(maxSteps:=8000000) (disch:=first|exact dS|fail) only[↓bD,bW,reduceMul,reduceEqDiff,reduceAdd,Nat.reduceBEq,reduceIte,Option.isNone_none,tq D2 g b4,zg];refine(Ci (a:=(N1:Int)) ⟨om,om⟩ (uq D2 g b4)).mono ?_;rintro r ⟨Z2,rfl,hE2⟩;have k2:=hE2.n;simp only[G3]at k2;have r0:Z2.row Z.n=some [.bool s1,.int .u64 (N1:Nat),.int .u64 (D1:Nat)]:=eT (hE2.row (cL)) cL;have r1:Z2.row (Z.n+1)=some [.bool s2,.int .u64 (N2:Nat),.int .u64 (D2:Nat)]:=eT (hE2.row (cL)) cL;have E2:Ext Z Z2:=Ext.trans (eX) hE2;simp(maxSteps:=8000000) (disch:=first|exact dS|fail) only[↓bD,bW,reduceMul,reduceEqDiff,reduceAdd,Nat.reduceBEq,reduceIte,Option.isNone_none,r0,r1,tq D1 g b3,zg];refine(Ci (a:=(N2:Int)) ⟨om,om⟩ (uq D1 g b3)).mono ?_;rintro r ⟨Z3,rfl,hE3⟩;have k3:=hE3.n;have r0:=eT (hE3.row om) r0;have r1:=eT (hE3.row om) r1;have E3:=E2.trans hE3;have z3:Z3.A7 (Z.n+1+1)=some [.int .i64 0,.int .i64 0]:=eT (hE3.A7 om) (eT (hE2.A7 (cL)) cL);obtain⟨A,hA⟩:=nW ((N1:Int)*((D2 / g:Nat):Int));obtain⟨B,hB⟩:=nW ((N2:Int)*((D1 / g:Nat):Int));have wA:=gW (a:=(N1:Int)) om om (dl D2 g b4).1 (dl D2 g b4).2;have wB:=gW (a:=(N2:Int)) om om (dl D1 g b3).1 (dl D1 g b3).2;rw[hA]at wA;rw[hB]at wB;rw[hA,hB];unfold wv II;refine gS1 (aI (asx hE2) (aI (asx hE3) (aI @G9 (aI @G6 (aI r0 r1))))) ?_;refine Ji (fun r=>∃ (fr':Fr) (τ:St) (s:Bool) (n:Int),r=⟨.normal,fr',τ⟩/\fr'.get 2=some (.pointer (some ⟨Z.n,0,none⟩))/\fr'.get 3=some (.pointer (some ⟨Z.n+1,0,none⟩))/\fr'.get 4=some (.pointer (some ⟨Z.n+1+1,0,none⟩))/\fr'.get 6=some (.int .u64 (g:Int))/\fr'.get 9=some (.pointer (some ⟨Z3.n+1+1,0,none⟩))/\fr'.get 10=some (.bool s)/\Ext Z3 τ/\Z3.n+3<=τ.n/\τ.A7 (Z3.n+1+1)=some (II n)/\0<=n/\n<=170141183460469231731687303715884105728/\sg s n=sg s1 A+sg s2 B) ?_ ?_
 ·by_cases hs:s1=s2
  ·have hb:bi s1 s2 (!s2)=true:=by subst hs;cases s1<;>rfl
   refine gS1 hb ?_;refine(zq (m:=A) (n:=B) ⟨wA.1,om⟩ ⟨wB.1,om⟩ om).mono ?_;rintro r ⟨Z4,rfl,hE4⟩;have k4:=hE4.n;simp only[G3,HH]at k4;have o4:Z4.A7 (Z3.n+1+1)=some [.int .u64 0,.int .u64 0]:=eT (hE4.A7 (by simp;try omega)) cL;unfold wv II;refine gS1 (aI o4 (aI (asx hE4) @G6)) ?_
   try refine dW1 (asx hE4) ?_
   try(refine gS1 o4 ?_;try exact⟨⟩)
   exact⟨_,_,s1,A+B,rfl,fR,fR,fR,fR,fR,fR,(Ext.trans (eX) hE4).upd om _,by simp;omega,cL,om,om,by subst hs;unfold sg;split<;>omega⟩
  ·have hb:bi s1 s2 (!s2)=false:=by cases s1<;>cases s2<;>first|rfl|exact absurd rfl hs
   refine gS1 hb ?_;refine(KU (m:=A) (n:=B)).mono ?_;rintro r ⟨Z4,rfl,hE4⟩;have k4:=hE4.n;simp only[G3,HH]at k4;have a4:Z4.row Z3.n=some (II A):=by unfold II;rw[hE4.row (by simp;try omega)];exact cL
   have b4':Z4.row (Z3.n+1)=some (II B):=by unfold II;rw[hE4.row (by simp;try omega)];exact cL
   have o4:Z4.A7 (Z3.n+1+1)=some [.int .u64 0,.int .u64 0]:=eT (hE4.A7 (by simp;try omega)) cL;have E4:Ext Z3 Z4:=Ext.trans (eX) hE4;have r1':=eT (E4.row om) r1;unfold II at a4 b4';by_cases hc:A<B
   ·have hd:decide (Fz A B<0)=true:=by unfold Fz;rw[z1z hc];rfl
    refine gS1 (aI hd (aI a4 b4')) ?_;refine(jP (m:=B) (n:=A) ⟨wB.1,om⟩ ⟨wA.1,om⟩ om).mono ?_;rintro r ⟨Z5,rfl,hE5⟩;have k5:=hE5.n;have o5:=eT (hE5.A7 om) o4;have BS5:=eT (hE5.row om) r1';unfold wv II;refine gS1 (aI o5 (aI BS5 (aI (asx hE5) @G6))) ?_
    try refine dW1 (asx hE5) ?_
    try(refine gS1 o5 ?_;try exact⟨⟩)
    exact⟨_,_,s2,B-A,rfl,fR,fR,fR,fR,fR,fR,(E4.trans hE5).upd om _,by simp;omega,cL,om,om,by unfold sg;cases s1<;>cases s2<;>first|exact absurd rfl hs|(simp;omega)⟩
   ·have hd:decide (Fz A B<0)=false:=by unfold Fz;rw[z0z hc];split<;>rfl
    refine gS1 (aI hd (aI a4 b4')) ?_;refine(jP (m:=A) (n:=B) ⟨wA.1,om⟩ ⟨wB.1,om⟩ om).mono ?_;rintro r ⟨Z5,rfl,hE5⟩;have k5:=hE5.n;have o5:=eT (hE5.A7 om) o4;unfold wv II;refine gS1 (aI o5 (aI (asx hE5) @G6)) ?_
    try refine dW1 (asx hE5) ?_
    try(refine gS1 o5 ?_;try exact⟨⟩)
    exact⟨_,_,s1,A-B,rfl,fR,fR,fR,fR,fR,fR,(E4.trans hE5).upd om _,by simp;omega,cL,om,om,by unfold sg;cases s1<;>cases s2<;>first|exact absurd rfl hs|(simp;omega)⟩
 rintro r ⟨fr,τ,s,n,rfl,g2,g3,g4,g6,g9,g10,E4,k4,o4,n0,nl,hsn⟩;have z4:=eT (E4.A7 om) z3;have r0:=eT (E4.row om) r0;have r1:=eT (E4.row om) r1;have E4:=E3.trans E4;rw[<- hA,<- hB,cR,cR]at hsn;clear hE2 hE3 hA hB wA wB A B;obtain⟨M,rfl⟩:=FM n0;have hz:(decide ((M:Int) / 18446744073709551616=0)&&decide ((M:Int) % 18446744073709551616=0))=decide (M=0):=by
  rw[z7z,R2,z3z,z3z,z3z];omega
 unfold II at o4;have o4r:=A9 o4;cases c0:decide (M=0)with
 | true=>
   have m0:=z6z c0;subst m0;have ht:sg s1 N1*((D2 / Nat.gcd D1 D2:Nat):Int)+sg s2 N2*((D1 / Nat.gcd D1 D2:Nat):Int)=0:=by
    rw[hg,<- hsn];cases s<;>rfl
   rw[xK p1 p2 ht];refine gS1 (aI g2 (aI g3 (aI g4 (aI g6 (aI g9 (aI g10 (aI o4r (aI @kT (aI hz c0))))))))) ?_;refine Gk.mono ?_;rintro r ⟨Z5,rfl,hE5⟩;have k5:=hE5.n;have z5:=eT (hE5.A7 om) z4;unfold qv P6 DJ;refine gS1 (aI g4 (aI z5 @Tryz.results95)) ?_;exact⟨_,rfl,(E4.trans hE5).upd om _⟩
 |false=>
 have m0:0<M:=by have:=z9z c0;omega
 have hp:=oK (n:=M) (s:=s) h1 h2 (by rw[hg];exact hsn);rw[hg]at hp;rw[hp];have wM:W2 (M:Int):=⟨om,om⟩
 have q1:(M:Int) / (g:Int)=((M / g:Nat):Int):=rfl;have q2:(M:Int) % (g:Int)=((M % g:Nat):Int):=rfl;refine gS1 (aI g2 (aI g3 (aI g4 (aI g6 (aI g9 (aI g10 (aI o4r (aI @kT (aI hz c0))))))))) ?_;refine(aQ (b:=(g:Int)) wM om om).mono ?_;rintro r ⟨Z5,rfl,hE5⟩;have k5:=hE5.n;rw[q1,q2];unfold wv II;refine gS1 (aI g2 (aI g3 (aI g4 (aI g6 (aI g9 g10))))) ?_;refine Kg.mono ?_;rintro r rfl;obtain⟨h,hh⟩:=nW (Nat.gcd g (M % g));have hh0:0<h:=by rw[<- hh];exact Nat.gcd_pos_of_pos_left _ g0
 have hhl:h<=9223372036854775808:=by rw[<- hh];exact j9 (Nat.gcd_le_left _ g0) gl
 rw[hh];have q3:(M:Int) / (h:Int)=((M / h:Nat):Int):=rfl;have w5:=eT (hE5.A7 om) o4;have w5r:=A9 w5;refine gS1 (aI g2 (aI g3 (aI g4 (aI g6 (aI g9 (aI g10 w5r)))))) ?_;refine(aQ (n:=(M:Int)) (b:=(h:Int)) wM om om).mono ?_;rintro r ⟨Z6,rfl,hE6⟩;have k6:=hE6.n;simp only[G3,HH]at k6;rw[q3];have w6:Z6.A7 (Z3.n+1+1)=some [.int .u64 ((M:Int) / 18446744073709551616),.int .u64 ((M:Int) % 18446744073709551616)]:=by rw[hE6.A7 (by simp;omega)];exact cL1 w5
 have E6:Ext Z Z6:=(E4.trans hE5).trans (Ext.trans (eX) hE6);have r0:Z6.row Z.n=some [.bool s1,.int .u64 (N1:Nat),.int .u64 (D1:Nat)]:=by rw[hE6.row (by simp;omega),Ae om,CY om,hE5.row om];exact r0
 have r1:Z6.row (Z.n+1)=some [.bool s2,.int .u64 (N2:Nat),.int .u64 (D2:Nat)]:=by rw[hE6.row (by simp;omega),Ae om,CY om,hE5.row om];exact r1
 have z6:Z6.A7 (Z.n+1+1)=some [.int .i64 0,.int .i64 0]:=by rw[hE6.A7 (by simp;omega),K9 om,M9 om,hE5.A7 om];exact z4
 unfold wv II;have zh:decide ((h:Int)=0)=false:=dF;simp(maxSteps:=8000000) (disch:=first|exact dS|fail) only[↓bD,bW,reduceMul,reduceEqDiff,reduceAdd,Nat.reduceBEq,reduceIte,Option.isNone_none,g2,g3,g4,g6,g9,g10,w6,r0,r1,tq D1 g b3,tq D2 h b4,zg,zh];refine(Ci (uq D1 g b3) (uq D2 h b4)).mono ?_;rintro r ⟨Z7,rfl,hE7⟩;have k7:=hE7.n;simp only[HH]at k7;have z7:Z7.A7 (Z.n+1+1)=some [.int .i64 0,.int .i64 0]:=by rw[hE7.A7 (by simp;omega),K9 om];exact z6
 have ml:0<=((M / h:Nat):Int)/\((M / h:Nat):Int)<=170141183460469231731687303715884105728:=by
  have:M / h<=M:=KD _ _;generalize M / h=c at *;exact⟨om,om⟩
 have pd:=gW (dl D1 g b3).1 (dl D1 g b3).2 (dl D2 h b4).1 (dl D2 h b4).2;refine gS1 (aI g2 (aI g3 (aI g4 (aI g6 (aI g9 g10))))) ?_;refine(jY (s:=s) (n:=((M / h:Nat):Int)) (d:=((D1 / g:Nat):Int)*((D2 / h:Nat):Int)) ⟨ml.1,om⟩ ⟨pd.1,om⟩).mono ?_;rintro r ⟨Z8,rfl,hE8⟩;have k8:=hE8.n;have z8:=eT (hE8.A7 om) z7;have ed:((((D1 / g:Nat):Int)*((D2 / h:Nat):Int)).toNat)=D1 / g*(D2 / h):=by rw[<- Int.natCast_mul,Jq]
 rw[ed];unfold Ek qv P6;refine gS1 (aI g2 (aI g3 (aI g4 (aI g6 (aI g9 (aI g10 (aI z8 (aI (asx hE7) (aI (asx hE8) (a3N @G6 @G9 @Tryz.results95)))))))))) ?_
 try refine dW1 (aI (asx hE7) (asx hE8)) ?_
 try(refine gS1 (aI g4 (aI z8 @Tryz.results95)) ?_;try exact⟨⟩)
 exact⟨_,rfl,((Ext.trans (E6.upd om _) hE7).trans hE8).upd om _⟩
end Go.Proofs.T
namespace Go.Proofs.T
open Go Go.Ab Go.N9
def fvq (q:Q):Value:=fv (decide (q.n<0)) (q.n.natAbs:Int) (q.d.natAbs:Int)
def JI {n:Int}:sg (decide (n<0)) (n.natAbs:Int)=n:=by
 unfold sg;by_cases h:n<0
 ·rw[AW h,z1z rfl];omega
 ·rw[z4z h,z0z (by simp)];omega
def tQ {n:Int}:sg (!decide (n<0)) (n.natAbs:Int)= -n:=by
 unfold sg;by_cases h:n<0
 ·rw[AW h,z0z (by simp)];omega
 ·rw[z4z h,z1z (by rfl)];omega
def JJ {Z:St}{a b:Q}{g:Nat}{fs cs:List Value}{o:Option Q}(i:a.Ok) (j:b.Ok)
  (v:∀ τ:St,Ext Z τ->Ev (go Tryz.prog HS (.fn g) (fs++[fvq a,fvq b]++cs) τ) (fun r=>∃ τ',r=⟨false,Ek o,τ'⟩/\Ext τ τ') ⟨⟩) :
  Ev (gO 94 [qv a,qv b,.func (.func g) ⟨fs⟩ ⟨cs⟩] Z) (fun r=>∃ Z',r=⟨false,Ek o,Z'⟩/\Ext Z Z') ⟨⟩:=by
 refine C8 Tryz.func94 rfl rfl ?_;unfold qv P6;refine gS ?_;refine(ae i j).mono ?_;rintro r ⟨Z2,rfl,f⟩;have y:=f.n;simp only[G3]at y;have r0:Z2.row Z.n=some [.int .i64 a.n,.int .i64 a.d]:=eT (f.row (cL)) cL;have r1:Z2.row (Z.n+1)=some [.int .i64 b.n,.int .i64 b.d]:=eT (f.row (cL)) cL;have z:Z2.A7 (Z.n+1+1)=some [.int .i64 0,.int .i64 0]:=eT (f.A7 (cL)) cL;have s:Ext Z Z2:=Ext.trans (eX) f;refine gS1 (aI r0 r1) ?_;refine(Xj (q:=a) ⟨i.n1,i.n2⟩ ⟨by have:=i.d1;omega,i.d2⟩).mono ?_;rintro r ⟨B,rfl,c⟩;have D:=c.n;have l:=eT (c.row om) r1;refine gS1 l ?_;refine(Xj (q:=b) ⟨j.n1,j.n2⟩ ⟨by have:=j.d1;omega,j.d2⟩).mono ?_;rintro r ⟨u,rfl,e⟩;have E:=e.n;have m:=(s.trans c).trans e;have A:=eT (e.A7 om) (eT (c.A7 om) z);refine gS1 (aI (asx c) (asx e)) ?_;have k:=v u m;unfold fvq at k;refine k.mono ?_;rintro r ⟨C,rfl,h⟩;have F:=h.n;have p:=eT (h.A7 om) A;unfold Ek qv P6;refine gS1 (aI p (aI (asx c) (aI (asx e) (aI (asx h) @Tryz.results94)))) ?_
 try refine dW1 (aI (asx c) (aI (asx e) (asx h))) ?_
 try(refine gS1 (aI p @Tryz.results94) ?_;try exact⟨⟩)
 exact⟨_,rfl,(m.trans h).upd om _⟩
end Go.Proofs.T
namespace Go.Proofs.T
open Go Go.Ab Go.N9
open Nat (reduceMul reduceEqDiff reduceAdd)
section
variable {Z τ:St}{x y:Int}
def bbS {a:Bool}:(a != a)=false:=by cases a<;>rfl
def PD {q:Q}(h:q.Ok):IY (sg (decide (q.n<0)) (q.n.natAbs:Int)) q.d.natAbs:=by rw[JI];exact h.AA6
def FJ {q:Q}(h:q.Ok):q.n.natAbs<=9223372036854775808/\q.d.natAbs<=9223372036854775808:=by
 have:=h.n1;have:=h.n2;have:=h.d1;have:=h.d2;exact⟨om,om⟩
def Xh {q:Q}(h:q.Ok):(q.d.natAbs:Int)=q.d:=by have:=h.d1;omega
def AA7 {a b:Q}(c:a.Ok) (f:b.Ok):Ev (gO 95 [fvq a,fvq b] τ) (fun r=>∃ τ',r=⟨false,Ek (QI a b),τ'⟩/\Ext τ τ') ⟨⟩:=by
 have h:=jS (Z:=τ) (PD c) (PD f) (FJ c).1 (FJ f).1 (FJ c).2 (FJ f).2;have e:fit (low (sg (decide (a.n<0)) (a.n.natAbs:Int)*(b.d.natAbs:Int)+sg (decide (b.n<0)) (b.n.natAbs:Int)*(a.d.natAbs:Int)) (a.d.natAbs*b.d.natAbs))=QI a b:=by
  rw[JI,JI,Xh c,Xh f];rfl
 rw[e]at h;exact h
def mZ {a b:Q}(c:a.Ok) (d:b.Ok):Ev (gO 97 [fvq a,fvq b] τ) (fun r=>∃ τ',r=⟨false,Ek (UC a b),τ'⟩/\Ext τ τ') ⟨⟩:=by
 have h:=VZ (Z:=τ) (PD c) (PD d) (FJ c).1 (FJ d).1 (FJ c).2 (FJ d).2;rw[JI,JI]at h;exact h
def AA8 {a b:Q}(g:a.Ok) (f:b.Ok):Ev (gO 96 [fvq a,fvq b] τ) (fun r=>∃ τ',r=⟨false,Ek (Ry a b),τ'⟩/\Ext τ τ') ⟨⟩:=by
 have j:IY (sg (!decide (b.n<0)) (b.n.natAbs:Int)) b.d.natAbs:=by rw[tQ];exact⟨f.AA6.1,by rw[Int.natAbs_neg];exact f.low⟩
 refine C8 Tryz.func96 rfl rfl ?_;unfold fvq fv mc;refine gS ?_;refine(jS (PD g) j (FJ g).1 (FJ f).1 (FJ g).2 (FJ f).2).mono ?_;rintro r ⟨h,rfl,c⟩;have i:=c.n;simp only[G3,HH]at i;have k:h.A7 (τ.n+1+1)=some [.int .i64 0,.int .i64 0]:=eT (c.A7 (cL)) cL;have e:fit (low (sg (decide (a.n<0)) (a.n.natAbs:Int)*(b.d.natAbs:Int)+sg (!decide (b.n<0)) (b.n.natAbs:Int)*(a.d.natAbs:Int)) (a.d.natAbs*b.d.natAbs))=Ry a b:=by
  rw[JI,tQ,Xh g,Xh f];rfl
 rw[e];unfold Ek qv P6;refine gS1 (aI k (aI (asx c) @Tryz.results96)) ?_;exact⟨_,rfl,(Ext.trans (eX) c).upd om _⟩
def AA9 {a b:Q}(j:a.Ok) (g:b.Ok){p:Nat}(u:p<τ.n) (k:τ.row p=some (P6 b)):Ev (gO 98 [fvq a,fvq b,.pointer (some ⟨p,0,none⟩)] τ) (fun r=>∃ τ',r=⟨false,Ek (Ir a b),τ'⟩/\Ext τ τ') ⟨⟩:=by
 unfold P6 at k;refine C8 Tryz.func98 rfl rfl ?_;unfold fvq fv mc;cases f:decide (b.n=0)with
 | true=>
   have q:Ir a b=none:=by unfold Ir;rw[z1z (z6z f)]
   refine gS1 (aI k f) ?_;refine Gk.mono ?_;rintro r ⟨i,rfl,c⟩;have l:=c.n;simp only[G3]at l;have m:i.A7 (τ.n+1+1)=some [.int .i64 0,.int .i64 0]:=eT (c.A7 (cL)) cL;unfold qv P6 DJ;refine gS1 (aI m @Tryz.results98) ?_;rw[q];exact⟨_,rfl,(Ext.trans (eX) c).upd om _⟩
 |false=>
 have o:=z9z f;have s:IY (sg (decide (b.n<0)) (b.d.natAbs:Int)) b.n.natAbs:=⟨om,by rw[Xi,RW];exact g.low⟩
 refine gS1 (aI k f) ?_;refine(VZ (PD j) s (FJ j).1 (FJ g).2 (FJ j).2 (FJ g).1).mono ?_;rintro r ⟨i,rfl,c⟩;have l:=c.n;simp only[G3]at l;have m:i.A7 (τ.n+1+1)=some [.int .i64 0,.int .i64 0]:=eT (c.A7 (cL)) cL;have es:sg (decide (b.n<0)) (b.d.natAbs:Int)=b.n.sign*b.d:=by
  rw[Xh g];unfold sg;by_cases h:b.n<0
  ·rw[AW h,z1z rfl,Int.sign_eq_neg_one_of_neg h,Int.neg_mul,Int.one_mul]
  ·rw[z4z h,z0z (by simp),Int.sign_eq_one_of_pos om,Int.one_mul]
 have e:fit (low (sg (decide (a.n<0)) (a.n.natAbs:Int)*sg (decide (b.n<0)) (b.d.natAbs:Int)) (a.d.natAbs*b.n.natAbs))=Ir a b:=by
  rw[JI,es];unfold Ir;rw[z0z o]
 rw[e];unfold Ek qv P6;refine gS1 (aI m (aI (asx c) @Tryz.results98)) ?_;exact⟨_,rfl,(Ext.trans (eX) c).upd om _⟩
def iW {a b:Q}(d:a.Ok) (e:b.Ok):Ev (gO 45 [qv a,qv b] Z) (fun r=>∃ Z',r=⟨false,Ek (QI a b),Z'⟩/\Ext Z Z') ⟨⟩:=by
 refine C8 Tryz.func45 rfl rfl ?_;unfold qv P6;refine gS ?_;refine(JJ (fs:=[]) (cs:=[]) d e fun τ _=>AA7 d e).mono ?_;rintro r ⟨f,rfl,c⟩;have g:=c.n;simp only[G3]at g;have h:f.A7 (Z.n+1+1)=some [.int .i64 0,.int .i64 0]:=eT (c.A7 (cL)) cL;unfold Ek qv P6;refine gS1 (aI h (aI (asx c) @Tryz.results45)) ?_;exact⟨_,rfl,(Ext.trans (eX) c).upd om _⟩
def iX {a b:Q}(d:a.Ok) (e:b.Ok):Ev (gO 46 [qv a,qv b] Z) (fun r=>∃ Z',r=⟨false,Ek (Ry a b),Z'⟩/\Ext Z Z') ⟨⟩:=by
 refine C8 Tryz.func46 rfl rfl ?_;unfold qv P6;refine gS ?_;refine(JJ (fs:=[]) (cs:=[]) d e fun τ _=>AA8 d e).mono ?_;rintro r ⟨f,rfl,c⟩;have g:=c.n;simp only[G3]at g;have h:f.A7 (Z.n+1+1)=some [.int .i64 0,.int .i64 0]:=eT (c.A7 (cL)) cL;unfold Ek qv P6;refine gS1 (aI h (aI (asx c) @Tryz.results46)) ?_;exact⟨_,rfl,(Ext.trans (eX) c).upd om _⟩
def gh {a b:Q}(d:a.Ok) (e:b.Ok):Ev (gO 47 [qv a,qv b] Z) (fun r=>∃ Z',r=⟨false,Ek (UC a b),Z'⟩/\Ext Z Z') ⟨⟩:=by
 refine C8 Tryz.func47 rfl rfl ?_;unfold qv P6;refine gS ?_;refine(JJ (fs:=[]) (cs:=[]) d e fun τ _=>mZ d e).mono ?_;rintro r ⟨f,rfl,c⟩;have g:=c.n;simp only[G3]at g;have h:f.A7 (Z.n+1+1)=some [.int .i64 0,.int .i64 0]:=eT (c.A7 (cL)) cL;unfold Ek qv P6;refine gS1 (aI h (aI (asx c) @Tryz.results47)) ?_;exact⟨_,rfl,(Ext.trans (eX) c).upd om _⟩
def WO {a b:Q}(e:a.Ok) (f:b.Ok):Ev (gO 48 [qv a,qv b] Z) (fun r=>∃ Z',r=⟨false,Ek (Ir a b),Z'⟩/\Ext Z Z') ⟨⟩:=by
 refine C8 Tryz.func48 rfl rfl ?_;unfold qv P6;refine gS ?_;refine(JJ (fs:=[]) (cs:=[.pointer (some ⟨Z.n+1,0,none⟩)]) e f fun τ d=>AA9 e f (by have:=d.n;simp at this;omega) (by unfold P6;rw[d.row (cL)];exact cL)).mono ?_;rintro r ⟨g,rfl,c⟩;have h:=c.n;simp only[G3]at h;have i:g.A7 (Z.n+1+1)=some [.int .i64 0,.int .i64 0]:=eT (c.A7 (cL)) cL;unfold Ek qv P6;refine gS1 (aI i (aI (asx c) @Tryz.results48)) ?_;exact⟨_,rfl,(Ext.trans (eX) c).upd om _⟩
def Ky:Fz x y=(x-y).sign:=by
 unfold Fz;by_cases h:x<y
 ·rw[z1z h,Int.sign_eq_neg_one_of_neg om]
 ·rw[z0z h];by_cases a:y<x
  ·rw[z1z a,Int.sign_eq_one_of_pos om]
  ·rw[z0z a,show x-y=0 by omega,Int.sign_zero]
def Qp: -1<=Fz x y/\Fz x y<=1:=by
 unfold Fz
 repeat' split
 all_goals omega
def NW {a b:Q}(p:a.Ok) (s:b.Ok):Ev (gO 16 [qv a,qv b] Z) (fun r=>∃ Z',r=⟨false,.int .i64 (AJ a b),Z'⟩/\Ext Z Z') ⟨⟩:=by
 have a1:=p.d1;have b1:=s.d1;obtain⟨W,X⟩:=FJ p;obtain⟨qb1,qb2⟩:=FJ s;refine C8 Tryz.func16 rfl rfl ?_;unfold qv P6;refine gS ?_;refine(ae p s).mono ?_;rintro r ⟨Z2,rfl,l⟩;have S:=l.n;simp only[G3]at S;have r0:Z2.row Z.n=some [.int .i64 a.n,.int .i64 a.d]:=eT (l.row (cL)) cL;have r1:Z2.row (Z.n+1)=some [.int .i64 b.n,.int .i64 b.d]:=eT (l.row (cL)) cL;have N:Ext Z Z2:=Ext.trans (eX) l;refine gS1 (aI r0 r1) ?_;refine(Xj (q:=a) ⟨p.n1,p.n2⟩ ⟨om,p.d2⟩).mono ?_;rintro r ⟨Z3,rfl,h⟩;have k3:=h.n;have z:=eT (h.row om) r1;refine gS1 z ?_;refine(Xj (q:=b) ⟨s.n1,s.n2⟩ ⟨om,s.d2⟩).mono ?_;rintro r ⟨D,rfl,i⟩;have k4:=i.n;have C:=(N.trans h).trans i;have r0:=eT (i.row om) (eT (h.row om) r0);have r1:=eT (i.row om) z;have ea:∀ {x:Int},0<=x->AJ a b=AJ a b:=fun _=>rfl;unfold fv mc;refine gS1 (aI (asx h) (aI (asx i) (aI @G9 @G6))) ?_
 try refine dW1 (aI (asx h) (asx i)) ?_
 try(refine gS ?_;try exact⟨⟩)
 have J:U64 (a.n.natAbs:Int):=⟨om,om⟩
 have K:U64 (b.d.natAbs:Int):=⟨om,om⟩
 have L:U64 (b.n.natAbs:Int):=⟨om,om⟩
 have M:U64 (a.d.natAbs:Int):=⟨om,om⟩
 cases m:decide (a.n<0)<;>cases o:decide (b.n<0)
 ·refine gS1 (aI @ag (aI m (aI o @bbS))) ?_;refine(Ci J K).mono ?_;rintro r ⟨Z5,rfl,c⟩;have H:=c.n;simp only[G3,HH]at H;have A:Z5.row D.n=some [.bool false,.int .u64 (a.n.natAbs:Int),.int .u64 (a.d.natAbs:Int)]:=eT (c.row (by simp;try omega)) cL;have I:Z5.row (D.n+1)=some [.bool false,.int .u64 (b.n.natAbs:Int),.int .u64 (b.d.natAbs:Int)]:=eT (c.row (by simp;try omega)) cL;have G:Ext Z Z5:=C.trans (Ext.trans (eX) c);refine gS1 (aI A I) ?_;refine(Ci L M).mono ?_;rintro r ⟨O,rfl,e⟩;have U:=e.n;have u:=eT (e.row om) A;refine gS ?_;refine KU.mono ?_;rintro r ⟨R,rfl,f⟩;have V:=f.n;have B:=eT (f.row om) u;have j:Fz ((a.n.natAbs:Int)*(b.d.natAbs:Int)) ((b.n.natAbs:Int)*(a.d.natAbs:Int))=AJ a b:=by
   rw[Ky,Xh p,Xh s];unfold AJ;have E:=z9z m;have F:=z9z o;rw[show(a.n.natAbs:Int)=a.n by omega,show(b.n.natAbs:Int)=b.n by omega]
  have g:L9 .i64 (Fz ((a.n.natAbs:Int)*(b.d.natAbs:Int)) ((b.n.natAbs:Int)*(a.d.natAbs:Int)))=AJ a b:=by
   have:=Qp (x:=(a.n.natAbs:Int)*(b.d.natAbs:Int)) (y:=(b.n.natAbs:Int)*(a.d.natAbs:Int));rw[XT om om];exact j
  have k:IntKind.i64.wrap (AJ a b)=AJ a b:=by
   have:=Qp (x:=(a.n.natAbs:Int)*(b.d.natAbs:Int)) (y:=(b.n.natAbs:Int)*(a.d.natAbs:Int));exact wrap64_in om om
  have v:IntKind.i64.wrap (Fz ((a.n.natAbs:Int)*(b.d.natAbs:Int)) ((b.n.natAbs:Int)*(a.d.natAbs:Int)))=AJ a b:=by rw[<- o7];exact g
  refine gS1 (aI (asx c) (aI (asx e) (aI (asx f) (aI @G9 (aI @G6 (aI B (aI v (aI k (aI j (aI g @Tryz.results16)))))))))) ?_
  try refine dW1 (aI (asx c) (aI (asx e) (asx f))) ?_
  try(refine gS1 (aI B (aI v (aI k (aI j (aI g @Tryz.results16))))) ?_;try exact⟨⟩)
  exact⟨_,rfl,(G.trans e).trans f⟩
 ·simp(maxSteps:=8000000) (disch:=first|exact dS|fail) only[↓bD,bW,reduceMul,reduceEqDiff,reduceAdd,Nat.reduceBEq,reduceIte,Option.isNone_none,ag,m,o,r0,r1,show(false != true)=true from rfl];refine jT.mono ?_;rintro r rfl;have j:Fz a.n b.n=AJ a b:=by
   unfold AJ;have E:=z9z m;have F:=z6z o;have Y:0<=a.n*b.d:=Int.mul_nonneg om om;have z2:b.n*a.d<0:=Int.mul_neg_of_neg_of_pos F om;rw[Ky,Int.sign_eq_one_of_pos om,Int.sign_eq_one_of_pos om]
  refine gS1 (aI j @Tryz.results16) ?_;exact⟨_,rfl,C.trans (eX)⟩
 ·simp(maxSteps:=8000000) (disch:=first|exact dS|fail) only[↓bD,bW,reduceMul,reduceEqDiff,reduceAdd,Nat.reduceBEq,reduceIte,Option.isNone_none,ag,m,o,r0,r1,show(true != false)=true from rfl];refine jT.mono ?_;rintro r rfl;have j:Fz a.n b.n=AJ a b:=by
   unfold AJ;have E:=z6z m;have F:=z9z o;have Y:a.n*b.d<0:=Int.mul_neg_of_neg_of_pos E om;have z2:0<=b.n*a.d:=Int.mul_nonneg om om;rw[Ky,Int.sign_eq_neg_one_of_neg om,Int.sign_eq_neg_one_of_neg om]
  refine gS1 (aI j @Tryz.results16) ?_;exact⟨_,rfl,C.trans (eX)⟩
 ·refine gS1 (aI @ag (aI m (aI o @bbS))) ?_;refine(Ci J K).mono ?_;rintro r ⟨Z5,rfl,c⟩;have H:=c.n;simp only[G3,HH]at H;have A:Z5.row D.n=some [.bool true,.int .u64 (a.n.natAbs:Int),.int .u64 (a.d.natAbs:Int)]:=eT (c.row (by simp;try omega)) cL;have I:Z5.row (D.n+1)=some [.bool true,.int .u64 (b.n.natAbs:Int),.int .u64 (b.d.natAbs:Int)]:=eT (c.row (by simp;try omega)) cL;have G:Ext Z Z5:=C.trans (Ext.trans (eX) c);refine gS1 (aI A I) ?_;refine(Ci L M).mono ?_;rintro r ⟨O,rfl,e⟩;have U:=e.n;have u:=eT (e.row om) A;refine gS ?_;refine KU.mono ?_;rintro r ⟨R,rfl,f⟩;have V:=f.n;have B:=eT (f.row om) u;have j:0-Fz ((a.n.natAbs:Int)*(b.d.natAbs:Int)) ((b.n.natAbs:Int)*(a.d.natAbs:Int))=AJ a b:=by
   rw[Ky,Xh p,Xh s];unfold AJ;have E:=z6z m;have F:=z6z o;rw[show(a.n.natAbs:Int)= -a.n by omega,show(b.n.natAbs:Int)= -b.n by omega,Int.zero_sub,<- Int.sign_neg];congr 1;rw[Int.neg_mul,Int.neg_mul];omega
  have g:L9 .i64 (0-Fz ((a.n.natAbs:Int)*(b.d.natAbs:Int)) ((b.n.natAbs:Int)*(a.d.natAbs:Int)))=AJ a b:=by
   have:=Qp (x:=(a.n.natAbs:Int)*(b.d.natAbs:Int)) (y:=(b.n.natAbs:Int)*(a.d.natAbs:Int));rw[XT om om];exact j
  have k:IntKind.i64.wrap (AJ a b)=AJ a b:=by
   have:=Qp (x:=(a.n.natAbs:Int)*(b.d.natAbs:Int)) (y:=(b.n.natAbs:Int)*(a.d.natAbs:Int));exact wrap64_in om om
  have v:IntKind.i64.wrap (0-Fz ((a.n.natAbs:Int)*(b.d.natAbs:Int)) ((b.n.natAbs:Int)*(a.d.natAbs:Int)))=AJ a b:=by rw[<- o7];exact g
  refine gS1 (aI (asx c) (aI (asx e) (aI (asx f) (aI @G9 (aI @G6 (aI B (aI v (aI k (aI j (aI g @Tryz.results16)))))))))) ?_
  try refine dW1 (aI (asx c) (aI (asx e) (asx f))) ?_
  try(refine gS1 (aI B (aI v (aI k (aI j (aI g @Tryz.results16))))) ?_;try exact⟨⟩)
  exact⟨_,rfl,(G.trans e).trans f⟩
end
end Go.Proofs.T
