/- ratio: YI. -/
import Derived.Test.YtgjocfjdecjhoaaGreatDoorRAT
import Derived.Test.YtgjocfjdecjhoaaGreatDoorRF
set_option linter.unusedSimpArgs false
set_option linter.unusedVariables false
set_option linter.defProp false
set_option maxHeartbeats 32000000
set_option maxRecDepth 100000
namespace Go.Proofs.T
open Go Go.Ab Go.V6
open Nat (reduceMul reduceEqDiff reduceAdd)
def iz {x y:Operand}{a b c d:Int}:Ay Tryz.prog .eql 107 x y (.agg ⟨[.int .u64 a,.int .u64 b]⟩) (.agg ⟨[.int .u64 c,.int .u64 d]⟩)=some (.bool (decide (a=c)&&decide (b=d))):=by
 have he:eqF Tryz.prog 9999 ⟨[.int .u64 a,.int .u64 b]⟩ ⟨[.int .u64 c,.int .u64 d]⟩ (Tryz.prog.fieldsOf 107).toList=bi (a==c) (bi (b==d) (some true) (some false)) (some false):=kR;have h:=Uk (x:=x) (y:=y) rfl kR kR kR he;rw[Wv,Wv,Pw,Pw,bh]at h;exact h.1
def er {a b:Int}(ha:0<=a) (ha':a<=9223372036854775808) (hb:0<=b) (hb':b<=9223372036854775808):0<=a*b/\a*b<=85070591730234615865843651857942052864:=by
 refine⟨Int.mul_nonneg ha hb,?_⟩;have:=Int.mul_le_mul ha' hb' hb om;omega
def gv {Z:St}{s1 s2:Bool}{N1 N2 D1 D2:Nat}(h1:Hq (sg s1 N1) D1) (h2:Hq (sg s2 N2) D2) (b1:N1<=9223372036854775808) (b2:N2<=9223372036854775808) (b3:D1<=9223372036854775808) (b4:D2<=9223372036854775808) :
  Ev (gO 95 [fv s1 (N1:Nat) (D1:Nat),fv s2 (N2:Nat) (D2:Nat)] Z) (fun r=>∃ Z',r=⟨false,GC (fit (low (sg s1 N1*D2+sg s2 N2*D1) (D1*D2))),Z'⟩/\Ext Z Z') ⟨⟩:=by
 have p1:=h1.1;have p2:=h2.1;refine C9 Tryz.func95 rfl rfl ?_;unfold fv kV;refine gS ?_;refine KC.mono ?_;rintro r rfl;obtain⟨g,hg⟩:=nm (Nat.gcd D1 D2);have g0:0<g:=by rw[<- hg];exact Nat.gcd_pos_of_pos_left _ p1
 have gl:g<=9223372036854775808:=by rw[<- hg];exact AV (Nat.gcd_le_left _ p1) b3
 rw[hg];have dl:∀ (a b:Nat),a<=9223372036854775808->0<=((a / b:Nat):Int)/\((a / b:Nat):Int)<=9223372036854775808:=fun a b ha=>by
  have:a / b<=a:=OX _ _;generalize a / b=c at *;exact⟨om,om⟩
 have tq:∀ (a b:Nat),a<=9223372036854775808->IntKind.u64.wrap (Int.tdiv (a:Int) (b:Int))=((a / b:Nat):Int):=fun a b ha=>by
  have:=dl a b ha;rw[<- Int.ofNat_tdiv];exact FO this.1 om
 have uq:∀ (a b:Nat),a<=9223372036854775808->U64 ((a / b:Nat):Int):=fun a b ha=>by
  have:=dl a b ha;exact⟨this.1,om⟩
 have zg:decide ((g:Int)=0)=false:=dF;simp(maxSteps:=8000000) (disch:=first|exact dS|fail) only[↓bD,bW,reduceMul,reduceEqDiff,reduceAdd,Nat.reduceBEq,reduceIte,Option.isNone_none,tq D2 g b4,zg];refine(CK (a:=(N1:Int)) ⟨om,om⟩ (uq D2 g b4)).mono ?_;rintro r ⟨Z2,rfl,hE2⟩;have k2:=hE2.n;simp only[F6]at k2;have r0:Z2.row Z.n=some [.bool s1,.int .u64 (N1:Nat),.int .u64 (D1:Nat)]:=eT (hE2.row (cL)) cL;have r1:Z2.row (Z.n+1)=some [.bool s2,.int .u64 (N2:Nat),.int .u64 (D2:Nat)]:=eT (hE2.row (cL)) cL;have E2:Ext Z Z2:=Ext.trans (eX) hE2;simp(maxSteps:=8000000) (disch:=first|exact dS|fail) only[↓bD,bW,reduceMul,reduceEqDiff,reduceAdd,Nat.reduceBEq,reduceIte,Option.isNone_none,r0,r1,tq D1 g b3,zg];refine(CK (a:=(N2:Int)) ⟨om,om⟩ (uq D1 g b3)).mono ?_;rintro r ⟨Z3,rfl,hE3⟩;have k3:=hE3.n;have r0:=eT (hE3.row om) r0;have r1:=eT (hE3.row om) r1;have E3:=E2.trans hE3;have z3:Z3.A7 (Z.n+1+1)=some [.int .i64 0,.int .i64 0]:=eT (hE3.A7 om) (eT (hE2.A7 (cL)) cL);obtain⟨A,hA⟩:=nm ((N1:Int)*((D2 / g:Nat):Int));obtain⟨B,hB⟩:=nm ((N2:Int)*((D1 / g:Nat):Int));have wA:=er (a:=(N1:Int)) om om (dl D2 g b4).1 (dl D2 g b4).2;have wB:=er (a:=(N2:Int)) om om (dl D1 g b3).1 (dl D1 g b3).2;rw[hA]at wA;rw[hB]at wB;rw[hA,hB];unfold wv Hi;refine gS1 (aI (asx hE2) (aI (asx hE3) (aI @G8 (aI @G3 (aI r0 r1))))) ?_;refine JH (fun r=>∃ (fr':Fr) (τ:St) (s:Bool) (n:Int),r=⟨.normal,fr',τ⟩/\fr'.get 2=some (.pointer (some ⟨Z.n,0,none⟩))/\fr'.get 3=some (.pointer (some ⟨Z.n+1,0,none⟩))/\fr'.get 4=some (.pointer (some ⟨Z.n+1+1,0,none⟩))/\fr'.get 6=some (.int .u64 (g:Int))/\fr'.get 9=some (.pointer (some ⟨Z3.n+1+1,0,none⟩))/\fr'.get 10=some (.bool s)/\Ext Z3 τ/\Z3.n+3<=τ.n/\τ.A7 (Z3.n+1+1)=some (Hi n)/\0<=n/\n<=170141183460469231731687303715884105728/\sg s n=sg s1 A+sg s2 B) ?_ ?_
 ·by_cases hs:s1=s2
  ·have hb:bi s1 s2 (!s2)=true:=by subst hs;cases s1<;>rfl
   refine gS1 hb ?_;refine(xw (m:=A) (n:=B) ⟨wA.1,om⟩ ⟨wB.1,om⟩ om).mono ?_;rintro r ⟨Z4,rfl,hE4⟩;have k4:=hE4.n;simp only[F6,Gn]at k4;have o4:Z4.A7 (Z3.n+1+1)=some [.int .u64 0,.int .u64 0]:=eT (hE4.A7 (by simp;try omega)) cL;unfold wv Hi;refine gS1 (aI o4 (aI (asx hE4) @G3)) ?_
   try refine dW1 (asx hE4) ?_
   try(refine gS1 o4 ?_;try exact⟨⟩)
   exact⟨_,_,s1,A+B,rfl,fR,fR,fR,fR,fR,fR,(Ext.trans (eX) hE4).upd om _,by simp;omega,cL,om,om,by subst hs;unfold sg;split<;>omega⟩
  ·have hb:bi s1 s2 (!s2)=false:=by cases s1<;>cases s2<;>first|rfl|exact absurd rfl hs
   refine gS1 hb ?_;refine(Jp (m:=A) (n:=B)).mono ?_;rintro r ⟨Z4,rfl,hE4⟩;have k4:=hE4.n;simp only[F6,Gn]at k4;have a4:Z4.row Z3.n=some (Hi A):=by unfold Hi;rw[hE4.row (by simp;try omega)];exact cL
   have b4':Z4.row (Z3.n+1)=some (Hi B):=by unfold Hi;rw[hE4.row (by simp;try omega)];exact cL
   have o4:Z4.A7 (Z3.n+1+1)=some [.int .u64 0,.int .u64 0]:=eT (hE4.A7 (by simp;try omega)) cL;have E4:Ext Z3 Z4:=Ext.trans (eX) hE4;have r1':=eT (E4.row om) r1;unfold Hi at a4 b4';by_cases hc:A<B
   ·have hd:decide (Fj A B<0)=true:=by unfold Fj;rw[z1z hc];rfl
    refine gS1 (aI hd (aI a4 b4')) ?_;refine(gj (m:=B) (n:=A) ⟨wB.1,om⟩ ⟨wA.1,om⟩ om).mono ?_;rintro r ⟨Z5,rfl,hE5⟩;have k5:=hE5.n;have o5:=eT (hE5.A7 om) o4;have BJ7:=eT (hE5.row om) r1';unfold wv Hi;refine gS1 (aI o5 (aI BJ7 (aI (asx hE5) @G3))) ?_
    try refine dW1 (asx hE5) ?_
    try(refine gS1 o5 ?_;try exact⟨⟩)
    exact⟨_,_,s2,B-A,rfl,fR,fR,fR,fR,fR,fR,(E4.trans hE5).upd om _,by simp;omega,cL,om,om,by unfold sg;cases s1<;>cases s2<;>first|exact absurd rfl hs|(simp;omega)⟩
   ·have hd:decide (Fj A B<0)=false:=by unfold Fj;rw[z0z hc];split<;>rfl
    refine gS1 (aI hd (aI a4 b4')) ?_;refine(gj (m:=A) (n:=B) ⟨wA.1,om⟩ ⟨wB.1,om⟩ om).mono ?_;rintro r ⟨Z5,rfl,hE5⟩;have k5:=hE5.n;have o5:=eT (hE5.A7 om) o4;unfold wv Hi;refine gS1 (aI o5 (aI (asx hE5) @G3)) ?_
    try refine dW1 (asx hE5) ?_
    try(refine gS1 o5 ?_;try exact⟨⟩)
    exact⟨_,_,s1,A-B,rfl,fR,fR,fR,fR,fR,fR,(E4.trans hE5).upd om _,by simp;omega,cL,om,om,by unfold sg;cases s1<;>cases s2<;>first|exact absurd rfl hs|(simp;omega)⟩
 rintro r ⟨fr,τ,s,n,rfl,g2,g3,g4,g6,g9,g10,E4,k4,o4,n0,nl,hsn⟩;have z4:=eT (E4.A7 om) z3;have r0:=eT (E4.row om) r0;have r1:=eT (E4.row om) r1;have E4:=E3.trans E4;rw[<- hA,<- hB,aq,aq]at hsn;clear hE2 hE3 hA hB wA wB A B;obtain⟨M,rfl⟩:=Fo n0;have hz:(decide ((M:Int) / 18446744073709551616=0)&&decide ((M:Int) % 18446744073709551616=0))=decide (M=0):=by
  rw[z7z,Q7,z3z,z3z,z3z];omega
 unfold Hi at o4;have o4r:=A9 o4;cases c0:decide (M=0)with
 | true=>
   have m0:=z6z c0;subst m0;have ht:sg s1 N1*((D2 / Nat.gcd D1 D2:Nat):Int)+sg s2 N2*((D1 / Nat.gcd D1 D2:Nat):Int)=0:=by
    rw[hg,<- hsn];cases s<;>rfl
   rw[uU p1 p2 ht];refine gS1 (aI g2 (aI g3 (aI g4 (aI g6 (aI g9 (aI g10 (aI o4r (aI @iz (aI hz c0))))))))) ?_;refine GP.mono ?_;rintro r ⟨Z5,rfl,hE5⟩;have k5:=hE5.n;have z5:=eT (hE5.A7 om) z4;unfold qv P7 GH;refine gS1 (aI g4 (aI z5 @Tryz.results95)) ?_;exact⟨_,rfl,(E4.trans hE5).upd om _⟩
 |false=>
 have m0:0<M:=by have:=z9z c0;omega
 have hp:=lh (n:=M) (s:=s) h1 h2 (by rw[hg];exact hsn);rw[hg]at hp;rw[hp];have wM:W2 (M:Int):=⟨om,om⟩
 have q1:(M:Int) / (g:Int)=((M / g:Nat):Int):=rfl;have q2:(M:Int) % (g:Int)=((M % g:Nat):Int):=rfl;refine gS1 (aI g2 (aI g3 (aI g4 (aI g6 (aI g9 (aI g10 (aI o4r (aI @iz (aI hz c0))))))))) ?_;refine(ZI (b:=(g:Int)) wM om om).mono ?_;rintro r ⟨Z5,rfl,hE5⟩;have k5:=hE5.n;rw[q1,q2];unfold wv Hi;refine gS1 (aI g2 (aI g3 (aI g4 (aI g6 (aI g9 g10))))) ?_;refine KC.mono ?_;rintro r rfl;obtain⟨h,hh⟩:=nm (Nat.gcd g (M % g));have hh0:0<h:=by rw[<- hh];exact Nat.gcd_pos_of_pos_left _ g0
 have hhl:h<=9223372036854775808:=by rw[<- hh];exact AV (Nat.gcd_le_left _ g0) gl
 rw[hh];have q3:(M:Int) / (h:Int)=((M / h:Nat):Int):=rfl;have w5:=eT (hE5.A7 om) o4;have w5r:=A9 w5;refine gS1 (aI g2 (aI g3 (aI g4 (aI g6 (aI g9 (aI g10 w5r)))))) ?_;refine(ZI (n:=(M:Int)) (b:=(h:Int)) wM om om).mono ?_;rintro r ⟨Z6,rfl,hE6⟩;have k6:=hE6.n;simp only[F6,Gn]at k6;rw[q3];have w6:Z6.A7 (Z3.n+1+1)=some [.int .u64 ((M:Int) / 18446744073709551616),.int .u64 ((M:Int) % 18446744073709551616)]:=by rw[hE6.A7 (by simp;omega)];exact cL1 w5
 have E6:Ext Z Z6:=(E4.trans hE5).trans (Ext.trans (eX) hE6);have r0:Z6.row Z.n=some [.bool s1,.int .u64 (N1:Nat),.int .u64 (D1:Nat)]:=by rw[hE6.row (by simp;omega),AX om,CI om,hE5.row om];exact r0
 have r1:Z6.row (Z.n+1)=some [.bool s2,.int .u64 (N2:Nat),.int .u64 (D2:Nat)]:=by rw[hE6.row (by simp;omega),AX om,CI om,hE5.row om];exact r1
 have z6:Z6.A7 (Z.n+1+1)=some [.int .i64 0,.int .i64 0]:=by rw[hE6.A7 (by simp;omega),K0 om,M4 om,hE5.A7 om];exact z4
 unfold wv Hi;have zh:decide ((h:Int)=0)=false:=dF;simp(maxSteps:=8000000) (disch:=first|exact dS|fail) only[↓bD,bW,reduceMul,reduceEqDiff,reduceAdd,Nat.reduceBEq,reduceIte,Option.isNone_none,g2,g3,g4,g6,g9,g10,w6,r0,r1,tq D1 g b3,tq D2 h b4,zg,zh];refine(CK (uq D1 g b3) (uq D2 h b4)).mono ?_;rintro r ⟨Z7,rfl,hE7⟩;have k7:=hE7.n;simp only[Gn]at k7;have z7:Z7.A7 (Z.n+1+1)=some [.int .i64 0,.int .i64 0]:=by rw[hE7.A7 (by simp;omega),K0 om];exact z6
 have ml:0<=((M / h:Nat):Int)/\((M / h:Nat):Int)<=170141183460469231731687303715884105728:=by
  have:M / h<=M:=OX _ _;generalize M / h=c at *;exact⟨om,om⟩
 have pd:=er (dl D1 g b3).1 (dl D1 g b3).2 (dl D2 h b4).1 (dl D2 h b4).2;refine gS1 (aI g2 (aI g3 (aI g4 (aI g6 (aI g9 g10))))) ?_;refine(iD (s:=s) (n:=((M / h:Nat):Int)) (d:=((D1 / g:Nat):Int)*((D2 / h:Nat):Int)) ⟨ml.1,om⟩ ⟨pd.1,om⟩).mono ?_;rintro r ⟨Z8,rfl,hE8⟩;have k8:=hE8.n;have z8:=eT (hE8.A7 om) z7;have ed:((((D1 / g:Nat):Int)*((D2 / h:Nat):Int)).toNat)=D1 / g*(D2 / h):=by rw[<- Int.natCast_mul,OO]
 rw[ed];unfold GC qv P7;refine gS1 (aI g2 (aI g3 (aI g4 (aI g6 (aI g9 (aI g10 (aI z8 (aI (asx hE7) (aI (asx hE8) (a3N @G3 @G8 @Tryz.results95)))))))))) ?_
 try refine dW1 (aI (asx hE7) (asx hE8)) ?_
 try(refine gS1 (aI g4 (aI z8 @Tryz.results95)) ?_;try exact⟨⟩)
 exact⟨_,rfl,((Ext.trans (E6.upd om _) hE7).trans hE8).upd om _⟩
end Go.Proofs.T
namespace Go.Proofs.T
open Go Go.Ab Go.V6
def fvq (q:Q):Value:=fv (decide (q.n<0)) (q.n.natAbs:Int) (q.d.natAbs:Int)
def Ii {n:Int}:sg (decide (n<0)) (n.natAbs:Int)=n:=by
 unfold sg;by_cases h:n<0
 ·rw[Be h,z1z rfl];omega
 ·rw[z4z h,z0z (by simp)];omega
def rF {n:Int}:sg (!decide (n<0)) (n.natAbs:Int)= -n:=by
 unfold sg;by_cases h:n<0
 ·rw[Be h,z0z (by simp)];omega
 ·rw[z4z h,z1z (by rfl)];omega
def Ij {Z:St}{a b:Q}{g:Nat}{fs cs:List Value}{o:Option Q}(ha:a.Ok) (hb:b.Ok)
  (hf:∀ τ:St,Ext Z τ->Ev (go Tryz.prog HS (.fn g) (fs++[fvq a,fvq b]++cs) τ) (fun r=>∃ τ',r=⟨false,GC o,τ'⟩/\Ext τ τ') ⟨⟩) :
  Ev (gO 94 [qv a,qv b,.func (.func g) ⟨fs⟩ ⟨cs⟩] Z) (fun r=>∃ Z',r=⟨false,GC o,Z'⟩/\Ext Z Z') ⟨⟩:=by
 refine C9 Tryz.func94 rfl rfl ?_;unfold qv P7;refine gS ?_;refine(ZQ ha hb).mono ?_;rintro r ⟨Z2,rfl,hE2⟩;have k2:=hE2.n;simp only[F6]at k2;have r0:Z2.row Z.n=some [.int .i64 a.n,.int .i64 a.d]:=eT (hE2.row (cL)) cL;have r1:Z2.row (Z.n+1)=some [.int .i64 b.n,.int .i64 b.d]:=eT (hE2.row (cL)) cL;have z2:Z2.A7 (Z.n+1+1)=some [.int .i64 0,.int .i64 0]:=eT (hE2.A7 (cL)) cL;have E2:Ext Z Z2:=Ext.trans (eX) hE2;refine gS1 (aI r0 r1) ?_;refine(WT (q:=a) ⟨ha.n1,ha.n2⟩ ⟨by have:=ha.d1;omega,ha.d2⟩).mono ?_;rintro r ⟨Z3,rfl,hE3⟩;have k3:=hE3.n;have r1':=eT (hE3.row om) r1;refine gS1 r1' ?_;refine(WT (q:=b) ⟨hb.n1,hb.n2⟩ ⟨by have:=hb.d1;omega,hb.d2⟩).mono ?_;rintro r ⟨Z4,rfl,hE4⟩;have k4:=hE4.n;have E4:=(E2.trans hE3).trans hE4;have z4:=eT (hE4.A7 om) (eT (hE3.A7 om) z2);refine gS1 (aI (asx hE3) (asx hE4)) ?_;have hf':=hf Z4 E4;unfold fvq at hf';refine hf'.mono ?_;rintro r ⟨Z5,rfl,hE5⟩;have k5:=hE5.n;have z5:=eT (hE5.A7 om) z4;unfold GC qv P7;refine gS1 (aI z5 (aI (asx hE3) (aI (asx hE4) (aI (asx hE5) @Tryz.results94)))) ?_
 try refine dW1 (aI (asx hE3) (aI (asx hE4) (asx hE5))) ?_
 try(refine gS1 (aI z5 @Tryz.results94) ?_;try exact⟨⟩)
 exact⟨_,rfl,(E4.trans hE5).upd om _⟩
end Go.Proofs.T
namespace Go.Proofs.T
open Go Go.Ab Go.V6
open Nat (reduceMul reduceEqDiff reduceAdd)
theorem bbS {a:Bool}:(a != a)=false:=by cases a<;>rfl
section
variable {Z τ:St}{x y:Int}
def Nx {q:Q}(h:q.Ok):Hq (sg (decide (q.n<0)) (q.n.natAbs:Int)) q.d.natAbs:=by rw[Ii];exact h.yJ
def Ek {q:Q}(h:q.Ok):q.n.natAbs<=9223372036854775808/\q.d.natAbs<=9223372036854775808:=by
 have:=h.n1;have:=h.n2;have:=h.d1;have:=h.d2;exact⟨om,om⟩
def WR {q:Q}(h:q.Ok):(q.d.natAbs:Int)=q.d:=by have:=h.d1;omega
def yK {a b:Q}(ha:a.Ok) (hb:b.Ok):Ev (gO 95 [fvq a,fvq b] τ) (fun r=>∃ τ',r=⟨false,GC (PT a b),τ'⟩/\Ext τ τ') ⟨⟩:=by
 have h:=gv (Z:=τ) (Nx ha) (Nx hb) (Ek ha).1 (Ek hb).1 (Ek ha).2 (Ek hb).2;have e:fit (low (sg (decide (a.n<0)) (a.n.natAbs:Int)*(b.d.natAbs:Int)+sg (decide (b.n<0)) (b.n.natAbs:Int)*(a.d.natAbs:Int)) (a.d.natAbs*b.d.natAbs))=PT a b:=by
  rw[Ii,Ii,WR ha,WR hb];rfl
 rw[e]at h;exact h
def kU {a b:Q}(ha:a.Ok) (hb:b.Ok):Ev (gO 97 [fvq a,fvq b] τ) (fun r=>∃ τ',r=⟨false,GC (Kd a b),τ'⟩/\Ext τ τ') ⟨⟩:=by
 have h:=US (Z:=τ) (Nx ha) (Nx hb) (Ek ha).1 (Ek hb).1 (Ek ha).2 (Ek hb).2;rw[Ii,Ii]at h;exact h
def yL {a b:Q}(ha:a.Ok) (hb:b.Ok):Ev (gO 96 [fvq a,fvq b] τ) (fun r=>∃ τ',r=⟨false,GC (YJ a b),τ'⟩/\Ext τ τ') ⟨⟩:=by
 have l2:Hq (sg (!decide (b.n<0)) (b.n.natAbs:Int)) b.d.natAbs:=by rw[rF];exact⟨hb.yJ.1,by rw[Int.natAbs_neg];exact hb.low⟩
 refine C9 Tryz.func96 rfl rfl ?_;unfold fvq fv kV;refine gS ?_;refine(gv (Nx ha) l2 (Ek ha).1 (Ek hb).1 (Ek ha).2 (Ek hb).2).mono ?_;rintro r ⟨Z2,rfl,hE2⟩;have k2:=hE2.n;simp only[F6,Gn]at k2;have z2:Z2.A7 (τ.n+1+1)=some [.int .i64 0,.int .i64 0]:=eT (hE2.A7 (cL)) cL;have e:fit (low (sg (decide (a.n<0)) (a.n.natAbs:Int)*(b.d.natAbs:Int)+sg (!decide (b.n<0)) (b.n.natAbs:Int)*(a.d.natAbs:Int)) (a.d.natAbs*b.d.natAbs))=YJ a b:=by
  rw[Ii,rF,WR ha,WR hb];rfl
 rw[e];unfold GC qv P7;refine gS1 (aI z2 (aI (asx hE2) @Tryz.results96)) ?_;exact⟨_,rfl,(Ext.trans (eX) hE2).upd om _⟩
def yM {a b:Q}(ha:a.Ok) (hb:b.Ok){p:Nat}(hp:p<τ.n) (hr:τ.row p=some (P7 b)):Ev (gO 98 [fvq a,fvq b,.pointer (some ⟨p,0,none⟩)] τ) (fun r=>∃ τ',r=⟨false,GC (MP a b),τ'⟩/\Ext τ τ') ⟨⟩:=by
 unfold P7 at hr;refine C9 Tryz.func98 rfl rfl ?_;unfold fvq fv kV;cases c0:decide (b.n=0)with
 | true=>
   have f0:MP a b=none:=by unfold MP;rw[z1z (z6z c0)]
   refine gS1 (aI hr c0) ?_;refine GP.mono ?_;rintro r ⟨Z2,rfl,hE2⟩;have k2:=hE2.n;simp only[F6]at k2;have z2:Z2.A7 (τ.n+1+1)=some [.int .i64 0,.int .i64 0]:=eT (hE2.A7 (cL)) cL;unfold qv P7 GH;refine gS1 (aI z2 @Tryz.results98) ?_;rw[f0];exact⟨_,rfl,(Ext.trans (eX) hE2).upd om _⟩
 |false=>
 have b0:=z9z c0;have l2:Hq (sg (decide (b.n<0)) (b.d.natAbs:Int)) b.n.natAbs:=⟨om,by rw[WS,QH];exact hb.low⟩
 refine gS1 (aI hr c0) ?_;refine(US (Nx ha) l2 (Ek ha).1 (Ek hb).2 (Ek ha).2 (Ek hb).1).mono ?_;rintro r ⟨Z2,rfl,hE2⟩;have k2:=hE2.n;simp only[F6]at k2;have z2:Z2.A7 (τ.n+1+1)=some [.int .i64 0,.int .i64 0]:=eT (hE2.A7 (cL)) cL;have es:sg (decide (b.n<0)) (b.d.natAbs:Int)=b.n.sign*b.d:=by
  rw[WR hb];unfold sg;by_cases h:b.n<0
  ·rw[Be h,z1z rfl,Int.sign_eq_neg_one_of_neg h,Int.neg_mul,Int.one_mul]
  ·rw[z4z h,z0z (by simp),Int.sign_eq_one_of_pos om,Int.one_mul]
 have e:fit (low (sg (decide (a.n<0)) (a.n.natAbs:Int)*sg (decide (b.n<0)) (b.d.natAbs:Int)) (a.d.natAbs*b.n.natAbs))=MP a b:=by
  rw[Ii,es];unfold MP;rw[z0z b0]
 rw[e];unfold GC qv P7;refine gS1 (aI z2 (aI (asx hE2) @Tryz.results98)) ?_;exact⟨_,rfl,(Ext.trans (eX) hE2).upd om _⟩
def yN {a b:Q}(ha:a.Ok) (hb:b.Ok):Ev (gO 45 [qv a,qv b] Z) (fun r=>∃ Z',r=⟨false,GC (PT a b),Z'⟩/\Ext Z Z') ⟨⟩:=by
 refine C9 Tryz.func45 rfl rfl ?_;unfold qv P7;refine gS ?_;refine(Ij (fs:=[]) (cs:=[]) ha hb fun τ _=>yK ha hb).mono ?_;rintro r ⟨Z2,rfl,hE2⟩;have k2:=hE2.n;simp only[F6]at k2;have z2:Z2.A7 (Z.n+1+1)=some [.int .i64 0,.int .i64 0]:=eT (hE2.A7 (cL)) cL;unfold GC qv P7;refine gS1 (aI z2 (aI (asx hE2) @Tryz.results45)) ?_;exact⟨_,rfl,(Ext.trans (eX) hE2).upd om _⟩
def yO {a b:Q}(ha:a.Ok) (hb:b.Ok):Ev (gO 46 [qv a,qv b] Z) (fun r=>∃ Z',r=⟨false,GC (YJ a b),Z'⟩/\Ext Z Z') ⟨⟩:=by
 refine C9 Tryz.func46 rfl rfl ?_;unfold qv P7;refine gS ?_;refine(Ij (fs:=[]) (cs:=[]) ha hb fun τ _=>yL ha hb).mono ?_;rintro r ⟨Z2,rfl,hE2⟩;have k2:=hE2.n;simp only[F6]at k2;have z2:Z2.A7 (Z.n+1+1)=some [.int .i64 0,.int .i64 0]:=eT (hE2.A7 (cL)) cL;unfold GC qv P7;refine gS1 (aI z2 (aI (asx hE2) @Tryz.results46)) ?_;exact⟨_,rfl,(Ext.trans (eX) hE2).upd om _⟩
def vE {a b:Q}(ha:a.Ok) (hb:b.Ok):Ev (gO 47 [qv a,qv b] Z) (fun r=>∃ Z',r=⟨false,GC (Kd a b),Z'⟩/\Ext Z Z') ⟨⟩:=by
 refine C9 Tryz.func47 rfl rfl ?_;unfold qv P7;refine gS ?_;refine(Ij (fs:=[]) (cs:=[]) ha hb fun τ _=>kU ha hb).mono ?_;rintro r ⟨Z2,rfl,hE2⟩;have k2:=hE2.n;simp only[F6]at k2;have z2:Z2.A7 (Z.n+1+1)=some [.int .i64 0,.int .i64 0]:=eT (hE2.A7 (cL)) cL;unfold GC qv P7;refine gS1 (aI z2 (aI (asx hE2) @Tryz.results47)) ?_;exact⟨_,rfl,(Ext.trans (eX) hE2).upd om _⟩
def fH {a b:Q}(ha:a.Ok) (hb:b.Ok):Ev (gO 48 [qv a,qv b] Z) (fun r=>∃ Z',r=⟨false,GC (MP a b),Z'⟩/\Ext Z Z') ⟨⟩:=by
 refine C9 Tryz.func48 rfl rfl ?_;unfold qv P7;refine gS ?_;refine(Ij (fs:=[]) (cs:=[.pointer (some ⟨Z.n+1,0,none⟩)]) ha hb fun τ hE=>yM ha hb (by have:=hE.n;simp at this;omega) (by unfold P7;rw[hE.row (cL)];exact cL)).mono ?_;rintro r ⟨Z2,rfl,hE2⟩;have k2:=hE2.n;simp only[F6]at k2;have z2:Z2.A7 (Z.n+1+1)=some [.int .i64 0,.int .i64 0]:=eT (hE2.A7 (cL)) cL;unfold GC qv P7;refine gS1 (aI z2 (aI (asx hE2) @Tryz.results48)) ?_;exact⟨_,rfl,(Ext.trans (eX) hE2).upd om _⟩
def KV:Fj x y=(x-y).sign:=by
 unfold Fj;by_cases h:x<y
 ·rw[z1z h,Int.sign_eq_neg_one_of_neg om]
 ·rw[z0z h];by_cases h':y<x
  ·rw[z1z h',Int.sign_eq_one_of_pos om]
  ·rw[z0z h',show x-y=0 by omega,Int.sign_zero]
def Pp: -1<=Fj x y/\Fj x y<=1:=by
 unfold Fj
 repeat' split
 all_goals omega
def gw {a b:Q}(ha:a.Ok) (hb:b.Ok):Ev (gO 16 [qv a,qv b] Z) (fun r=>∃ Z',r=⟨false,.int .i64 (DR a b),Z'⟩/\Ext Z Z') ⟨⟩:=by
 have a1:=ha.d1;have b1:=hb.d1;obtain⟨qa1,qa2⟩:=Ek ha;obtain⟨qb1,qb2⟩:=Ek hb;refine C9 Tryz.func16 rfl rfl ?_;unfold qv P7;refine gS ?_;refine(ZQ ha hb).mono ?_;rintro r ⟨Z2,rfl,hE2⟩;have k2:=hE2.n;simp only[F6]at k2;have r0:Z2.row Z.n=some [.int .i64 a.n,.int .i64 a.d]:=eT (hE2.row (cL)) cL;have r1:Z2.row (Z.n+1)=some [.int .i64 b.n,.int .i64 b.d]:=eT (hE2.row (cL)) cL;have E2:Ext Z Z2:=Ext.trans (eX) hE2;refine gS1 (aI r0 r1) ?_;refine(WT (q:=a) ⟨ha.n1,ha.n2⟩ ⟨om,ha.d2⟩).mono ?_;rintro r ⟨Z3,rfl,hE3⟩;have k3:=hE3.n;have r1':=eT (hE3.row om) r1;refine gS1 r1' ?_;refine(WT (q:=b) ⟨hb.n1,hb.n2⟩ ⟨om,hb.d2⟩).mono ?_;rintro r ⟨Z4,rfl,hE4⟩;have k4:=hE4.n;have E4:=(E2.trans hE3).trans hE4;have r0:=eT (hE4.row om) (eT (hE3.row om) r0);have r1:=eT (hE4.row om) r1';have ea:∀ {x:Int},0<=x->DR a b=DR a b:=fun _=>rfl;unfold fv kV;refine gS1 (aI (asx hE3) (aI (asx hE4) (aI @G8 @G3))) ?_
 try refine dW1 (aI (asx hE3) (asx hE4)) ?_
 try(refine gS ?_;try exact⟨⟩)
 have u1:U64 (a.n.natAbs:Int):=⟨om,om⟩
 have u2:U64 (b.d.natAbs:Int):=⟨om,om⟩
 have u3:U64 (b.n.natAbs:Int):=⟨om,om⟩
 have u4:U64 (a.d.natAbs:Int):=⟨om,om⟩
 cases ca:decide (a.n<0)<;>cases cb:decide (b.n<0)
 ·refine gS1 (aI @ZR (aI ca (aI cb @bbS))) ?_;refine(CK u1 u2).mono ?_;rintro r ⟨Z5,rfl,hE5⟩;have k5:=hE5.n;simp only[F6,Gn]at k5;have s0:Z5.row Z4.n=some [.bool false,.int .u64 (a.n.natAbs:Int),.int .u64 (a.d.natAbs:Int)]:=eT (hE5.row (by simp;try omega)) cL;have s1:Z5.row (Z4.n+1)=some [.bool false,.int .u64 (b.n.natAbs:Int),.int .u64 (b.d.natAbs:Int)]:=eT (hE5.row (by simp;try omega)) cL;have E5:Ext Z Z5:=E4.trans (Ext.trans (eX) hE5);refine gS1 (aI s0 s1) ?_;refine(CK u3 u4).mono ?_;rintro r ⟨Z6,rfl,hE6⟩;have k6:=hE6.n;have s0':=eT (hE6.row om) s0;refine gS ?_;refine Jp.mono ?_;rintro r ⟨Z7,rfl,hE7⟩;have k7:=hE7.n;have rG:=eT (hE7.row om) s0';have hc:Fj ((a.n.natAbs:Int)*(b.d.natAbs:Int)) ((b.n.natAbs:Int)*(a.d.natAbs:Int))=DR a b:=by
   rw[KV,WR ha,WR hb];unfold DR;have y1:=z9z ca;have y2:=z9z cb;rw[show(a.n.natAbs:Int)=a.n by omega,show(b.n.natAbs:Int)=b.n by omega]
  have hc':M6 .i64 (Fj ((a.n.natAbs:Int)*(b.d.natAbs:Int)) ((b.n.natAbs:Int)*(a.d.natAbs:Int)))=DR a b:=by
   have:=Pp (x:=(a.n.natAbs:Int)*(b.d.natAbs:Int)) (y:=(b.n.natAbs:Int)*(a.d.natAbs:Int));rw[WI om om];exact hc
  have hw2:IntKind.i64.wrap (DR a b)=DR a b:=by
   have:=Pp (x:=(a.n.natAbs:Int)*(b.d.natAbs:Int)) (y:=(b.n.natAbs:Int)*(a.d.natAbs:Int));exact wrap64_in om om
  have hw:IntKind.i64.wrap (Fj ((a.n.natAbs:Int)*(b.d.natAbs:Int)) ((b.n.natAbs:Int)*(a.d.natAbs:Int)))=DR a b:=by rw[<- Ac];exact hc'
  refine gS1 (aI (asx hE5) (aI (asx hE6) (aI (asx hE7) (aI @G8 (aI @G3 (aI rG (aI hw (aI hw2 (aI hc (aI hc' @Tryz.results16)))))))))) ?_
  try refine dW1 (aI (asx hE5) (aI (asx hE6) (asx hE7))) ?_
  try(refine gS1 (aI rG (aI hw (aI hw2 (aI hc (aI hc' @Tryz.results16))))) ?_;try exact⟨⟩)
  exact⟨_,rfl,(E5.trans hE6).trans hE7⟩
 ·simp(maxSteps:=8000000) (disch:=first|exact dS|fail) only[↓bD,bW,reduceMul,reduceEqDiff,reduceAdd,Nat.reduceBEq,reduceIte,Option.isNone_none,ZR,ca,cb,r0,r1,show(false != true)=true from rfl];refine gx.mono ?_;rintro r rfl;have hc:Fj a.n b.n=DR a b:=by
   unfold DR;have y1:=z9z ca;have y2:=z6z cb;have z1:0<=a.n*b.d:=Int.mul_nonneg om om;have z2:b.n*a.d<0:=Int.mul_neg_of_neg_of_pos y2 om;rw[KV,Int.sign_eq_one_of_pos om,Int.sign_eq_one_of_pos om]
  refine gS1 (aI hc @Tryz.results16) ?_;exact⟨_,rfl,E4.trans (eX)⟩
 ·simp(maxSteps:=8000000) (disch:=first|exact dS|fail) only[↓bD,bW,reduceMul,reduceEqDiff,reduceAdd,Nat.reduceBEq,reduceIte,Option.isNone_none,ZR,ca,cb,r0,r1,show(true != false)=true from rfl];refine gx.mono ?_;rintro r rfl;have hc:Fj a.n b.n=DR a b:=by
   unfold DR;have y1:=z6z ca;have y2:=z9z cb;have z1:a.n*b.d<0:=Int.mul_neg_of_neg_of_pos y1 om;have z2:0<=b.n*a.d:=Int.mul_nonneg om om;rw[KV,Int.sign_eq_neg_one_of_neg om,Int.sign_eq_neg_one_of_neg om]
  refine gS1 (aI hc @Tryz.results16) ?_;exact⟨_,rfl,E4.trans (eX)⟩
 ·refine gS1 (aI @ZR (aI ca (aI cb @bbS))) ?_;refine(CK u1 u2).mono ?_;rintro r ⟨Z5,rfl,hE5⟩;have k5:=hE5.n;simp only[F6,Gn]at k5;have s0:Z5.row Z4.n=some [.bool true,.int .u64 (a.n.natAbs:Int),.int .u64 (a.d.natAbs:Int)]:=eT (hE5.row (by simp;try omega)) cL;have s1:Z5.row (Z4.n+1)=some [.bool true,.int .u64 (b.n.natAbs:Int),.int .u64 (b.d.natAbs:Int)]:=eT (hE5.row (by simp;try omega)) cL;have E5:Ext Z Z5:=E4.trans (Ext.trans (eX) hE5);refine gS1 (aI s0 s1) ?_;refine(CK u3 u4).mono ?_;rintro r ⟨Z6,rfl,hE6⟩;have k6:=hE6.n;have s0':=eT (hE6.row om) s0;refine gS ?_;refine Jp.mono ?_;rintro r ⟨Z7,rfl,hE7⟩;have k7:=hE7.n;have rG:=eT (hE7.row om) s0';have hc:0-Fj ((a.n.natAbs:Int)*(b.d.natAbs:Int)) ((b.n.natAbs:Int)*(a.d.natAbs:Int))=DR a b:=by
   rw[KV,WR ha,WR hb];unfold DR;have y1:=z6z ca;have y2:=z6z cb;rw[show(a.n.natAbs:Int)= -a.n by omega,show(b.n.natAbs:Int)= -b.n by omega,Int.zero_sub,<- Int.sign_neg];congr 1;rw[Int.neg_mul,Int.neg_mul];omega
  have hc':M6 .i64 (0-Fj ((a.n.natAbs:Int)*(b.d.natAbs:Int)) ((b.n.natAbs:Int)*(a.d.natAbs:Int)))=DR a b:=by
   have:=Pp (x:=(a.n.natAbs:Int)*(b.d.natAbs:Int)) (y:=(b.n.natAbs:Int)*(a.d.natAbs:Int));rw[WI om om];exact hc
  have hw2:IntKind.i64.wrap (DR a b)=DR a b:=by
   have:=Pp (x:=(a.n.natAbs:Int)*(b.d.natAbs:Int)) (y:=(b.n.natAbs:Int)*(a.d.natAbs:Int));exact wrap64_in om om
  have hw:IntKind.i64.wrap (0-Fj ((a.n.natAbs:Int)*(b.d.natAbs:Int)) ((b.n.natAbs:Int)*(a.d.natAbs:Int)))=DR a b:=by rw[<- Ac];exact hc'
  refine gS1 (aI (asx hE5) (aI (asx hE6) (aI (asx hE7) (aI @G8 (aI @G3 (aI rG (aI hw (aI hw2 (aI hc (aI hc' @Tryz.results16)))))))))) ?_
  try refine dW1 (aI (asx hE5) (aI (asx hE6) (asx hE7))) ?_
  try(refine gS1 (aI rG (aI hw (aI hw2 (aI hc (aI hc' @Tryz.results16))))) ?_;try exact⟨⟩)
  exact⟨_,rfl,(E5.trans hE6).trans hE7⟩
end
end Go.Proofs.T
