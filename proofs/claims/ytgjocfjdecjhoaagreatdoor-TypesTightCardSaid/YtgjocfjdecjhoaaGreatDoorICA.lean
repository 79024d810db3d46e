/- The H3 ZR, HJ and PB of small IK. -/
import Derived.Test.YtgjocfjdecjhoaaGreatDoorIBB
import Derived.Test.YtgjocfjdecjhoaaGreatDoorITYA
set_option linter.unusedSimpArgs false
set_option linter.unusedVariables false
set_option linter.defProp false
set_option maxHeartbeats 32000000
set_option maxRecDepth 100000
namespace Go.Proofs.T
open Go Go.Ab
section
variable {n d m e:Int}{Z:St}
structure RS (n d:Int):Prop where
 n1: -1000000000<n
 n2:n<1000000000
 d1:1<=d
 d2:d<1000000000
 low:Int.gcd n d=1
def RS.rq (h:RS n d):RQ n d:=⟨h.n1,by have:=h.n2;have:=h.d1;omega,h.d1,h.d2,h.low⟩
def Kf (h:RS n d) (k:RS m e):Ev (gO 175 [R5 n d,R5 m e] Z) (fun r=>∃ Z',r=⟨false,.bool true,Z'⟩/\Ext Z Z') ⟨⟩:=by
 refine C8 Tryz.func175 rfl rfl ?_;unfold R5;refine gS ?_;refine(Rp h.rq).mono ?_;rintro r ⟨c,rfl,a⟩;have g:=a.n;simp only[G3]at g;have i:c.row (Z.n+1)=some [.int .i64 m,.int .i64 e]:=eT (a.row (cL)) cL;refine gS1 i ?_;refine(Rp k.rq).mono ?_;rintro r ⟨Z3,rfl,b⟩;have f:Ext Z Z3:=Ext.trans (eX) (a.trans b);refine gS1 (aI @D6 @Tryz.results175) ?_;exact⟨_,rfl,f⟩
def RG (h:RS n d) (k:RS m e):Ev (gO 176 [R5 n d,R5 m e] Z) (fun r=>∃ Z',r=⟨false,.bool true,Z'⟩/\Ext Z Z') ⟨⟩:=by
 refine C8 Tryz.func176 rfl rfl ?_;unfold R5;refine gS ?_;refine(Im h.n1 h.n2).mono ?_;rintro r rfl;refine gS1 @D6 ?_;refine(Im (by have:=h.d1;omega) h.d2).mono ?_;rintro r rfl;refine gS1 @D6 ?_;refine(Im k.n1 k.n2).mono ?_;rintro r rfl;refine gS1 @D6 ?_;refine(Im (by have:=k.d1;omega) k.d2).mono ?_;rintro r rfl;refine gS1 (aI @D6 @Tryz.results176) ?_;exact⟨_,rfl,eX⟩
def Ad {a b:Int}(c: -1000000000<a) (f:a<1000000000) (g: -1000000000<b) (i:b<1000000000): -1000000000000000000<=a*b/\a*b<=1000000000000000000:=by
 have h:(a*b).natAbs<=1000000000*1000000000:=by
  rw[Int.natAbs_mul];exact IT om om
 omega
def gp (h:RS n d) (k:RS m e):Ev (gO 126 [R5 n d,R5 m e] Z) (fun r=>∃ Z',r=⟨false,.tuple ⟨[R5 (qn (n*e+m*d) (d*e)) (qd (n*e+m*d) (d*e)),.bool true]⟩,Z'⟩/\Ext Z Z') ⟨⟩:=by
 obtain⟨l,o,H,i,I⟩:=id h;obtain⟨y1,y2,y3,y4,y5⟩:=id k;have C:=Ad l o (by omega: -1000000000<e) y4;have D:=Ad y1 y2 (by omega: -1000000000<d) i;have E:=Ad (by omega: -1000000000<d) i (by omega: -1000000000<e) y4;have F:=Ad l o y1 y2;have G:=Ad (by omega: -1000000000<d) i y1 y2;have g:d*e≠0:=Int.mul_ne_zero om om;refine C8 Tryz.func126 rfl rfl ?_;unfold R5;refine gS ?_;refine(Kf h k).mono ?_;rintro r ⟨f,rfl,a⟩;have p:=a.n;simp only[G3]at p;have r1:f.row Z.n=some [.int .i64 n,.int .i64 d]:=eT (a.row (cL)) cL;have j:f.row (Z.n+1)=some [.int .i64 m,.int .i64 e]:=eT (a.row (cL)) cL;have v:f.A7 (Z.n+1+1)=some [.int .i64 0,.int .i64 0]:=eT (a.A7 (cL)) cL;refine gS1 (aI r1 j) ?_;refine(RG h k).mono ?_;rintro r ⟨y,rfl,b⟩;have A:=b.n;have q1:=eT (b.row om) r1;have s:=eT (b.row om) j;have u:=eT (b.A7 om) v;refine gS1 (aI q1 s) ?_;refine(HF (n:=n*e+m*d) (d:=d*e) ⟨om,om⟩ ⟨om,om⟩ g).mono ?_;rintro r ⟨Z4,rfl,c⟩;have B:=c.n;have q:=eT (c.A7 om) u;have z:Ext Z Z4:=Ext.trans (eX) (a.trans (b.trans c));refine gS1 (aI q @Tryz.results126) ?_;exact⟨_,rfl,eX⟩
def gu (h:RS n d) (k:RS m e):Ev (gO 128 [R5 n d,R5 m e] Z) (fun r=>∃ Z',r=⟨false,.tuple ⟨[R5 (qn (n*e-m*d) (d*e)) (qd (n*e-m*d) (d*e)),.bool true]⟩,Z'⟩/\Ext Z Z') ⟨⟩:=by
 obtain⟨l,o,H,i,I⟩:=id h;obtain⟨y1,y2,y3,y4,y5⟩:=id k;have C:=Ad l o (by omega: -1000000000<e) y4;have D:=Ad y1 y2 (by omega: -1000000000<d) i;have E:=Ad (by omega: -1000000000<d) i (by omega: -1000000000<e) y4;have F:=Ad l o y1 y2;have G:=Ad (by omega: -1000000000<d) i y1 y2;have g:d*e≠0:=Int.mul_ne_zero om om;refine C8 Tryz.func128 rfl rfl ?_;unfold R5;refine gS ?_;refine(Kf h k).mono ?_;rintro r ⟨f,rfl,a⟩;have p:=a.n;simp only[G3]at p;have r1:f.row Z.n=some [.int .i64 n,.int .i64 d]:=eT (a.row (cL)) cL;have j:f.row (Z.n+1)=some [.int .i64 m,.int .i64 e]:=eT (a.row (cL)) cL;have v:f.A7 (Z.n+1+1)=some [.int .i64 0,.int .i64 0]:=eT (a.A7 (cL)) cL;refine gS1 (aI r1 j) ?_;refine(RG h k).mono ?_;rintro r ⟨y,rfl,b⟩;have A:=b.n;have q1:=eT (b.row om) r1;have s:=eT (b.row om) j;have u:=eT (b.A7 om) v;refine gS1 (aI q1 s) ?_;refine(HF (n:=n*e-m*d) (d:=d*e) ⟨om,om⟩ ⟨om,om⟩ g).mono ?_;rintro r ⟨Z4,rfl,c⟩;have B:=c.n;have q:=eT (c.A7 om) u;have z:Ext Z Z4:=Ext.trans (eX) (a.trans (b.trans c));refine gS1 (aI q @Tryz.results128) ?_;exact⟨_,rfl,eX⟩
def QV (h:RS n d) (k:RS m e):Ev (gO 129 [R5 n d,R5 m e] Z) (fun r=>∃ Z',r=⟨false,.tuple ⟨[R5 (qn (n*m) (d*e)) (qd (n*m) (d*e)),.bool true]⟩,Z'⟩/\Ext Z Z') ⟨⟩:=by
 obtain⟨l,o,H,i,I⟩:=id h;obtain⟨y1,y2,y3,y4,y5⟩:=id k;have C:=Ad l o (by omega: -1000000000<e) y4;have D:=Ad y1 y2 (by omega: -1000000000<d) i;have E:=Ad (by omega: -1000000000<d) i (by omega: -1000000000<e) y4;have F:=Ad l o y1 y2;have G:=Ad (by omega: -1000000000<d) i y1 y2;have g:d*e≠0:=Int.mul_ne_zero om om;refine C8 Tryz.func129 rfl rfl ?_;unfold R5;refine gS ?_;refine(Kf h k).mono ?_;rintro r ⟨f,rfl,a⟩;have p:=a.n;simp only[G3]at p;have r1:f.row Z.n=some [.int .i64 n,.int .i64 d]:=eT (a.row (cL)) cL;have j:f.row (Z.n+1)=some [.int .i64 m,.int .i64 e]:=eT (a.row (cL)) cL;have v:f.A7 (Z.n+1+1)=some [.int .i64 0,.int .i64 0]:=eT (a.A7 (cL)) cL;refine gS1 (aI r1 j) ?_;refine(RG h k).mono ?_;rintro r ⟨y,rfl,b⟩;have A:=b.n;have q1:=eT (b.row om) r1;have s:=eT (b.row om) j;have u:=eT (b.A7 om) v;refine gS1 (aI q1 s) ?_;refine(HF (n:=n*m) (d:=d*e) ⟨om,om⟩ ⟨om,om⟩ g).mono ?_;rintro r ⟨Z4,rfl,c⟩;have B:=c.n;have q:=eT (c.A7 om) u;have z:Ext Z Z4:=Ext.trans (eX) (a.trans (b.trans c));refine gS1 (aI q @Tryz.results129) ?_;exact⟨_,rfl,eX⟩
def Hg (h:RS n d) (k:RS m e) (q:m≠0):Ev (gO 131 [R5 n d,R5 m e] Z) (fun r=>∃ Z',r=⟨false,.tuple ⟨[R5 (qn (n*e) (d*m)) (qd (n*e) (d*m)),.bool true]⟩,Z'⟩/\Ext Z Z') ⟨⟩:=by
 obtain⟨l,o,J,i,K⟩:=id h;obtain⟨y1,y2,y3,y4,y5⟩:=id k;have E:=Ad l o (by omega: -1000000000<e) y4;have F:=Ad y1 y2 (by omega: -1000000000<d) i;have G:=Ad (by omega: -1000000000<d) i (by omega: -1000000000<e) y4;have H:=Ad l o y1 y2;have I:=Ad (by omega: -1000000000<d) i y1 y2;have g:d*m≠0:=Int.mul_ne_zero om om;refine C8 Tryz.func131 rfl rfl ?_;unfold R5;refine gS ?_;refine(Kf h k).mono ?_;rintro r ⟨f,rfl,a⟩;have s:=a.n;simp only[G3]at s;have r1:f.row Z.n=some [.int .i64 n,.int .i64 d]:=eT (a.row (cL)) cL;have j:f.row (Z.n+1)=some [.int .i64 m,.int .i64 e]:=eT (a.row (cL)) cL;have z:f.A7 (Z.n+1+1)=some [.int .i64 0,.int .i64 0]:=eT (a.A7 (cL)) cL;have p:decide (m=0)=false:=by simpa using q
 refine gS1 (aI r1 (aI j p)) ?_;refine(RG h k).mono ?_;rintro r ⟨A,rfl,b⟩;have C:=b.n;have q1:=eT (b.row om) r1;have v:=eT (b.row om) j;have y:=eT (b.A7 om) z;refine gS1 (aI q1 v) ?_;refine(HF (n:=n*e) (d:=d*m) ⟨om,om⟩ ⟨om,om⟩ g).mono ?_;rintro r ⟨Z4,rfl,c⟩;have D:=c.n;have u:=eT (c.A7 om) y;have B:Ext Z Z4:=Ext.trans (eX) (a.trans (b.trans c));refine gS1 (aI u @Tryz.results131) ?_;exact⟨_,rfl,eX⟩
end
section
variable {Z:St}{n d m e:Int}
def WW (h:RS n d) (k:RS m e):Ev (gO 130 [R5 n d,R5 m e] Z) (fun r=>∃ c Z',r=⟨false,.int .i64 c,Z'⟩/\Ext Z Z') ⟨⟩:=by
 obtain⟨x1,x2,x3,x4,x5⟩:=id h;obtain⟨y1,y2,y3,y4,y5⟩:=id k;have i1:BN n:=⟨om,om⟩
 have i2:BN d:=⟨om,om⟩
 have i3:BN m:=⟨om,om⟩
 have i4:BN e:=⟨om,om⟩
 refine C8 Tryz.func130 rfl rfl ?_;unfold R5;refine gS ?_;refine(Kf h k).mono ?_;rintro r ⟨Z2,rfl,l⟩;have n2:=l.n;simp only[G3]at n2;have r1:Z2.row Z.n=some [.int .i64 n,.int .i64 d]:=eT (l.row (cL)) cL;have X:Z2.row (Z.n+1)=some [.int .i64 m,.int .i64 e]:=eT (l.row (cL)) cL;have EA:Ext Z Z2:=Ext.trans (eX) l;refine gS1 (aI r1 X) ?_;refine(PX i3).mono ?_;rintro r ⟨v3,l3,Z3,rfl,g,⟨w3,rfl,q⟩,D,a8,-,a1⟩;have n3:=g.n;obtain⟨p3,q3,J⟩:=q.shape;subst J;have q1:=eT (g.row om) r1;have W:=eT (g.row om) X;refine gSd (a6N @Bo @o9 @M5 @M6 @O6 @O7) (aI @BJ (aI @BK (aI @BL (aI @DE (aI @u9 (aI q1 W)))))) ?_;refine(PX i2).mono ?_;rintro r ⟨v4,l4,Z4,rfl,b,⟨w4,rfl,s⟩,E,a9,-,a2⟩;have n4:=b.n;obtain⟨p4,q4,hs4⟩:=s.shape;subst hs4;refine gSd (a6N @Bo @o9 @M5 @M6 @O6 @O7) (a5N @BJ @BK @BL @DE @u9) ?_;refine(jw ⟨_,rfl,q.mono b⟩ ⟨_,rfl,s⟩ D E om om).mono ?_;rintro r ⟨v5,C,p,rfl,i,⟨w5,rfl,u⟩,F,N,-,a3⟩;have n5:=i.n;obtain⟨p5,q5,hs5⟩:=u.shape;subst hs5;have Y:=eT (i.row om) (eT (b.row om) q1);have s2:=eT (i.row om) (eT (b.row om) W);generalize (decide (m<0) != decide (d<0))=sg at *;refine gSd (a6N @Bo @o9 @M5 @M6 @O6 @O7) (aI @BJ (aI @BK (aI @BL (aI @DE (aI @u9 (aI (asx g) (aI (asx b) (aI (asx i) (aI @G9 (aI @G6 (aI Y s2))))))))))) ?_;obtain⟨S6,hS6⟩:=nW ((((p.new [.bool false,.slice none 0 0] (some 168)).upd p.n [.bool sg,.slice p5 C.length q5]).upd p.n [.bool !sg,.slice p5 C.length q5]));have B:Ext p S6:=by rw[<- hS6];exact eX
 have n6:S6.n=p.n+1:=by rw[<- hS6];rfl
 have x6:S6.row p.n=some [.bool !sg,.slice p5 C.length q5]:=by rw[<- hS6];exact Eu
 have t1:=eT (B.row om) Y;have t2:=eT (B.row om) s2;rw[hS6];refine(PX i1).mono ?_;rintro r ⟨v7,l7,Z7,rfl,a,⟨w7,rfl,v⟩,G,b0,-,a4⟩;have n7:=a.n;obtain⟨p7,q7,K⟩:=v.shape;subst K;have u1:=eT (a.row om) t1;have u2:=eT (a.row om) t2;refine gSd (a6N @Bo @o9 @M5 @M6 @O6 @O7) (aI @BJ (aI @BK (aI @BL (aI @DE (aI @u9 (aI u1 u2)))))) ?_;refine(PX i4).mono ?_;rintro r ⟨v8,l8,Z8,rfl,f,⟨w8,rfl,y⟩,H,b1,-,a5⟩;have n8:=f.n;obtain⟨p8,q8,hs8⟩:=y.shape;subst hs8;refine gSd (a6N @Bo @o9 @M5 @M6 @O6 @O7) (a5N @BJ @BK @BL @DE @u9) ?_;refine(jw ⟨_,rfl,v.mono f⟩ ⟨_,rfl,y⟩ G H om om).mono ?_;rintro r ⟨v9,l9,Z9,rfl,j,⟨w9,rfl,z⟩,I,O,-,a6⟩;have n9:=j.n;obtain⟨p9,q9,hs9⟩:=z.shape;subst hs9;have x9:=eT (j.row om) (eT (f.row om) (eT (a.row om) x6));generalize (decide (n<0) != decide (e<0))=sh at *;refine gSd (a6N @Bo @o9 @M5 @M6 @O6 @O7) (aI @BJ (aI @BK (aI @BL (aI @DE (aI @u9 x9))))) ?_;refine(AF8 ⟨_,rfl,z⟩ ⟨_,rfl,u.mono (B.trans (a.trans (f.trans j)))⟩ I F O N om om).mono ?_;rintro r ⟨va,V,Za,rfl,o,⟨wa,rfl,A⟩,a0,-,a7⟩;have na:=o.n;obtain⟨pa,qa,hsa⟩:=A.shape;subst hsa;generalize (YC sh (!sg) (D9 l9) (D9 C)).1=sz at *;have EB:Ext Z Za:=EA.trans (g.trans (b.trans (i.trans (B.trans (a.trans (f.trans (j.trans o)))))));refine gSd (a6N @Bo @o9 @M5 @M6 @O6 @O7) (aI @BJ (aI @BK (aI @BL (aI @DE (aI @u9 (aI (asx a) (aI (asx f) (aI (asx j) (aI (asx o) (aI @G9 @G6)))))))))) ?_;obtain⟨Sb,hSb⟩:=nW (((Za.new [.bool false,.slice none 0 0] (some 168)).upd Za.n [.bool sz,.slice pa V.length qa]));have S:Ext Za Sb:=by rw[<- hSb];exact eX
 have xb:Sb.row Za.n=some [.bool sz,.slice pa V.length qa]:=by rw[<- hSb];exact Eu
 rw[hSb];refine(Cv (A.mono S) om).mono ?_;rintro r ⟨wt,lt,rfl,M,-,-,-,-⟩;obtain⟨pt,qt,L⟩:=M.shape;subst L;have R:Ext Z Sb:=EB.trans S;cases U:decide ((lt.length:Int)=0)with
 | true=>
   refine gSd (a6N @Bo @o9 @M5 @M6 @O6 @O7) (aI @BJ (aI @BK (aI @BL (aI @DE (aI @u9 (aI xb (aI U @Tryz.results130))))))) ?_;exact⟨_,_,rfl,R⟩
 | false=>
   cases sz
   all_goals
    refine gSd (a6N @Bo @o9 @M5 @M6 @O6 @O7) (aI @BJ (aI @BK (aI @BL (aI @DE (aI @u9 (aI xb (aI U @Tryz.results130))))))) ?_;exact⟨_,_,rfl,R⟩
def AI3 (n d m e x y:Int):Prop:=(x=n/\y=d)\/(x=m/\y=e)
def WX (h:RS n d) (k:RS m e):Ev (gO 132 [R5 n d,R5 m e] Z) (fun r=>∃ x y Z',r=⟨false,R5 x y,Z'⟩/\AI3 n d m e x y/\Ext Z Z') ⟨⟩:=by
 refine C8 Tryz.func132 rfl rfl ?_;unfold R5;refine gS ?_;refine(WW h k).mono ?_;rintro r ⟨b,Z2,rfl,a⟩;have l:=a.n;simp only[G3]at l;have r1:Z2.row Z.n=some [.int .i64 n,.int .i64 d]:=eT (a.row (cL)) cL;have i:Z2.row (Z.n+1)=some [.int .i64 m,.int .i64 e]:=eT (a.row (cL)) cL;have j:Z2.A7 (Z.n+1+1)=some [.int .i64 0,.int .i64 0]:=eT (a.A7 (cL)) cL;have g:Ext Z Z2:=Ext.trans (eX) a;by_cases c:0<b
 ·have f:decide (0<b)=true:=AW c;refine gS1 (aI r1 (aI i (aI j (aI f (aI (asx a) (aI @G9 @Tryz.results132)))))) ?_;exact⟨m,e,_,rfl,Or.inr ⟨rfl,rfl⟩,Ext.upd g om _⟩
 ·have f:decide (0<b)=false:=z4z c;refine gS1 (aI r1 (aI i (aI j (aI f (aI (asx a) (aI @G9 @Tryz.results132)))))) ?_;exact⟨n,d,_,rfl,Or.inl ⟨rfl,rfl⟩,Ext.upd g om _⟩
def WY (h:RS n d) (k:RS m e):Ev (gO 133 [R5 n d,R5 m e] Z) (fun r=>∃ x y Z',r=⟨false,R5 x y,Z'⟩/\AI3 n d m e x y/\Ext Z Z') ⟨⟩:=by
 refine C8 Tryz.func133 rfl rfl ?_;unfold R5;refine gS ?_;refine(WW h k).mono ?_;rintro r ⟨b,Z2,rfl,a⟩;have l:=a.n;simp only[G3]at l;have r1:Z2.row Z.n=some [.int .i64 n,.int .i64 d]:=eT (a.row (cL)) cL;have i:Z2.row (Z.n+1)=some [.int .i64 m,.int .i64 e]:=eT (a.row (cL)) cL;have j:Z2.A7 (Z.n+1+1)=some [.int .i64 0,.int .i64 0]:=eT (a.A7 (cL)) cL;have g:Ext Z Z2:=Ext.trans (eX) a;by_cases c:b<0
 ·have f:decide (b<0)=true:=AW c;refine gS1 (aI r1 (aI i (aI j (aI f (aI (asx a) (aI @G9 @Tryz.results133)))))) ?_;exact⟨m,e,_,rfl,Or.inr ⟨rfl,rfl⟩,Ext.upd g om _⟩
 ·have f:decide (b<0)=false:=z4z c;refine gS1 (aI r1 (aI i (aI j (aI f (aI (asx a) (aI @G9 @Tryz.results133)))))) ?_;exact⟨n,d,_,rfl,Or.inl ⟨rfl,rfl⟩,Ext.upd g om _⟩
end
end Go.Proofs.T
namespace Go.Proofs.T
open Go Go.Ab
open Nat (reduceMul reduceEqDiff reduceAdd)
section
variable {Z:St}{T:Tn}{cells:List Value}
structure Good (Z:St) (cells:List Value) (T:Tn):Prop where
 at':Jb Z cells T
 wk:WkT 4 1000 100 T
def Good.mono {Z':St}(h:Good Z cells T) (a:Ext Z Z'):Good Z' cells T:=⟨h.at'.mono a,h.wk⟩
def Good.len (h:Good Z cells T):cells.length=20:=h.at'.len
def zu {c:Type}{p:c->Bool}{l:List c}{k:Nat}{a:c}(h:l[k]? =some a) (g:p a=true) (d:∀ (i:Nat) (b:c),i<k->l[i]? =some b->p b=false):l.find? p=some a:=by
 induction l generalizing k with
 |nil=>simp at h
 | cons x l ih=>
   cases k with
   |zero=>cases h;simp[List.find?,g]
   | succ k=>
     have e:=d 0 x om rfl;rw[List.find?_cons,e];exact ih (k:=k) (by simpa using h) fun i b hi f=>d (i+1) b om (by simpa using f)
def zv {a:Type}{p:a->Bool}{l:List a}(c:∀ (i:Nat) (b:a),l[i]? =some b->p b=false):l.find? p=none:=by
 rw[List.find?_eq_none];intro x d;obtain⟨i,hi⟩:=AN4.1 d;rw[c i x hi];simp
def N4 (T:Tn) (s:By):Int×Int×Bool :=
 if s=J8 then(T.low,T.high,true)else if s=Bp then(T.low,T.high,true)else
  match T.G7.find? (fun x=>decide (x.name=s))with
  |some x=>(x.low,x.high,true)
  |none=>(0,0,false)
def Kl (p:Int×Int×Bool):Value:= .tuple ⟨[.int .i64 p.1,.int .i64 p.2.1,.bool p.2.2]⟩
def IV {H:List Value}{s:By}(K:Good Z H T):Ev (gO 18 [.agg ⟨H⟩,str s] Z) (fun r=>∃ Z',r=⟨false,Kl (N4 T s),Z'⟩/\Ext Z Z') ⟨⟩:=by
 refine C8 Tryz.func18 rfl rfl ?_;obtain⟨vl,vc,vr,V,vt,vk,rfl,h2,h3,h4,h5,h6,h7⟩:=K.at';have F:=h5.len
 match V,F with
 | [x0,x1,x2,x3,x4],_=>
 obtain⟨a,c,b,off,cells,rfl,c1,O⟩:=PQ.use h3;unfold Ui;refine gS ?_;by_cases A:s=J8
 ·subst A;simp(maxSteps:=8000000) (disch:=first|exact dS|fail) only[↓bD,bW,reduceMul,reduceEqDiff,reduceAdd,Nat.reduceBEq,reduceIte,Option.isNone_none,J8,Tryz.results18];exact⟨_,rfl,Ext.Q3 (.refl _) _⟩
 have I:decide (s=[112,114,105,99,101])=false:=z4z A;by_cases B:s=Bp
 ·have U:decide (s=[108,111,119])=true:=AW B;have C:N4 T s=(T.low,T.high,true):=by unfold N4;rw[z0z A,z1z B]
  refine gS1 (aI I (aI U @Tryz.results18)) ?_;exact⟨_,by rw[C];rfl,Ext.Q3 (.refl _) _⟩
 have S:decide (s=[108,111,119])=false:=z4z B;have C:N4 T s=(match T.G7.find? (fun x=>decide (x.name=s))with|some x=>(x.low,x.high,true)|none=>(0,0,false)):=by
  unfold N4;rw[z0z A,z0z B]
 refine gS1 (aI I S) ?_;obtain⟨R,J⟩:∃ R:List Value,R=[str T.name,vl,.slice a T.G7.length c,vr,.int .i64 T.low,.int .i64 T.high,x0,x1,x2,x3,x4,vt,.int .i64 T.AE,vk,.int .i64 T.U6,.int .i64 T.t.q,.int .i64 T.t.b,.int .i64 T.t.g,.int .i64 T.t.p,.int .i64 T.t.s]:=⟨_,rfl⟩
 have j:sub R 2 1=some [.slice a T.G7.length c]:=by rw[J];rfl
 refine G8 T.G7.length (fun k d Z'=>d.get 7=some (.int .i64 k)/\d.get 2=some (.pointer (some ⟨Z.n,0,none⟩))/\d.get 1=some (str s)/\Ext Z Z'/\Z'.row Z.n=some R/\∀ (i:Nat) (x:CL),i<k->T.G7[i]? =some x->decide (x.name=s)=false)
  (fun r=>∃ z d Z',r=⟨z,d,Z'⟩/\Ext Z Z'/\((z= .exit 0/\T.G7.find? (fun x=>decide (x.name=s))=none)\/∃ x,z= .ret/\d.get 4=some (.int .i64 x.low)/\d.get 5=some (.int .i64 x.high)/\d.get 6=some (.bool true)/\T.G7.find? (fun x=>decide (x.name=s))=some x)) ?_ ?_ ?_ ?_
 ·refine⟨fR,fR,fR,Ext.Q3 (.refl _) _,by rw[J];exact cL,fun i x h=>om⟩
 ·rintro k d Z' L ⟨u,l,o,f,v,D⟩;have hc:=M4 L;have a0:=K.wk.G7;obtain⟨x,m⟩:=I1 L;obtain⟨sp,rfl,l3,l4⟩:=c1 om;have N:=eT (f.row l3) l4;obtain⟨l7,m1,m2,m3,m4,m5⟩:=O k x m;refine gS1 (aI l (aI o (aI u (aI hc (aI v (aI j (aI N m1))))))) ?_;cases M:decide (x.name=s)with
  | true=>
    refine gS1 (aI l (aI o (aI u (aI v (aI j (aI N (aI m3 m4))))))) ?_;exact⟨_,_,_,rfl,f,.inr ⟨x,rfl,fR,fR,fR,zu m M D⟩⟩
  | false=>
    refine gS1 (aI l (aI o u)) ?_;refine⟨fR,fR1 l,fR1 o,f,v,fun i y hi G=>?_⟩;by_cases e:i=k
    ·subst e;rw[m]at G;cases G;exact M
    ·exact D i y om G
 ·rintro d Z' ⟨u,l,o,f,v,D⟩;refine gS1 (aI l (aI u (aI v j))) ?_;exact⟨_,_,_,rfl,f,.inl ⟨rfl,zv fun i x m=>D i x (List.getElem?_eq_some_iff.1 m).1 m⟩⟩
 rintro r ⟨z,d,Z',rfl,f,⟨rfl,E⟩|⟨x,rfl,W,X,Y,E⟩⟩
 ·refine gS1 @Tryz.results18 ?_;exact⟨_,by rw[C,E];rfl,f⟩
 ·refine gS1 (aI @Tryz.results18 (aI W (aI X Y))) ?_;exact⟨_,by rw[C,E];rfl,f⟩
end
inductive FOk:Nat->Ex->Prop
 |num {n d:Int} (h:RS n d) (h0:0<=n) (hd:(1000000:Int) % d=0):FOk 1 (.mk K8 n d [] [])
 |name {nm:By} (h:nm.length<=30):FOk 1 (.mk nmB 0 0 nm [])
 |op {o:By}{j k:Nat}{a b:Ex} (h1:o≠K8) (h2:o≠nmB) (hl:o.length<=4) (ha:FOk j a) (hb:FOk k b):FOk (j+k) (.mk o 0 0 [] [a,b])
def cZ {cells r:List Value}{o n:Nat}{x:Value}(h:sub cells o (n+1)=some (x::r)):sub cells o 1=some [x]:=by
 have:=GP (i:=0) (m:=1) h om;rw[j7]at this;rw[this];rfl
def wO {T:Tn}{j:Nat}{e:Ex}(J:FOk j e):∀ {Z:St}{ca row:List Value},j<=1000->Good Z ca T->P8 Z row e->Ev (gO 70 [.agg ⟨ca⟩,.agg ⟨row⟩] Z) (fun r=>∃ p c Z',r=⟨false,.tuple ⟨[.int .i64 p,.int .i64 c]⟩,Z'⟩/\ -(j:Int)<=p/\p<=j/\Ext Z Z') ⟨⟩:=by
 induction J with
 | @num n d h h0 hd=>
   intro Z ca row X E F;obtain⟨v,U,rfl,-,-,-⟩:=F;have I:=E.len;have l:sub ca 0 20=some ca:=C9 om om;refine C8 Tryz.func70 rfl rfl ?_;simp(maxSteps:=8000000) (disch:=first|exact dS|fail) only[↓bD,bW,reduceMul,reduceEqDiff,reduceAdd,Nat.reduceBEq,reduceIte,Option.isNone_none,l,K8,Tryz.results70];exact⟨0,0,_,rfl,om,om,eX⟩
 | @name nm h=>
   intro Z ca row X E F;obtain⟨v,U,rfl,-,-,-⟩:=F;have I:=E.len;have l:sub ca 0 20=some ca:=C9 om om;have M:decide (([110,97,109,101]:By)=[110,117,109])=false:=by decide
   refine C8 Tryz.func70 rfl rfl ?_;simp(maxSteps:=8000000) (disch:=first|exact dS|fail) only[↓bD,bW,reduceMul,reduceEqDiff,reduceAdd,Nat.reduceBEq,reduceIte,Option.isNone_none,l,nmB,M];have i:Ext Z ((Z.new ca).new [str [110,97,109,101],.int .i64 0,.int .i64 0,str nm,v]):=((Ext.refl _).Q3 _).Q3 _;refine(IV (s:=nm) (E.mono i)).mono ?_;rintro r ⟨Z2,rfl,g⟩;have S:=g.n;simp only[G3]at S;have L:Z2.row (Z.n+1)=some [str [110,97,109,101],.int .i64 0,.int .i64 0,str nm,v]:=eT (g.row (cL)) cL;have u:Ext Z Z2:=i.trans g;unfold Kl;cases K:(N4 T nm).2.2 with
   | false=>
     refine gS1 (aI K @Tryz.results70) ?_;exact⟨0,_,_,rfl,om,om,u⟩
   | true=>
     cases H:decide (nm=[112,114,105,99,101])with
     | true=>
       refine gS1 (aI K (aI L (aI H @Tryz.results70))) ?_;exact⟨1,_,_,rfl,om,om,u⟩
     | false=>
       cases V:decide (nm=[108,111,119])with
       | true=>
         refine gS1 (aI K (aI L (aI H (aI V @Tryz.results70)))) ?_;exact⟨1,_,_,rfl,om,om,u⟩
       | false=>
         refine gS1 (aI K (aI L (aI H (aI V @Tryz.results70)))) ?_;exact⟨0,_,_,rfl,om,om,u⟩
 | @op o j k a b h1 h2 hl ha hb iha ihb=>
   intro Z ca row X E F;obtain⟨v,U,rfl,R,-,O⟩:=F;obtain⟨B,off,sp,c,cells,r1,L,rfl,l3,l4,s1,s2,x1,x2⟩:=Dh R O;have I:=E.len;have l:sub ca 0 20=some ca:=C9 om om;have M:decide (o=[110,117,109])=false:=z4z h1;have H:decide (o=[110,97,109,101])=false:=z4z h2;refine C8 Tryz.func70 rfl rfl ?_;refine gS1 (aI l (aI M (aI H (aI l4 (aI s1 @j7))))) ?_;have i:Ext Z ((Z.new ca).new [str o,.int .i64 0,.int .i64 0,str [],.slice (some ⟨B,off,sp⟩) 2 c]):=((Ext.refl _).Q3 _).Q3 _;refine(iha om (E.mono i) (x1.mono i)).mono ?_;rintro r ⟨p,e,Z2,rfl,p1,p2,g⟩;have S:=g.n;simp only[G3]at S;have u:Ext Z Z2:=i.trans g;have q1:Z2.row Z.n=some ca:=eT (g.row (cL)) cL;have Y:Z2.row (Z.n+1)=some [str o,.int .i64 0,.int .i64 0,str [],.slice (some ⟨B,off,sp⟩) 2 c]:=eT (g.row (cL)) cL;have q3:=eT (u.row l3) l4;by_cases F:e=0
   case neg=>
    have N:decide (e=0)=false:=z4z F;refine gS1 (aI (asx g) (aI N @Tryz.results70)) ?_;exact⟨0,_,_,rfl,om,om,u⟩
   subst F;refine gS1 (aI (asx g) (aI q1 (aI l (aI Y (aI q3 (aI s2 @j7)))))) ?_;refine(ihb om (E.mono u) (x2.mono u)).mono ?_;rintro r ⟨q,f,Z3,rfl,p3,p4,m⟩;have n3:=m.n;have G:Ext Z Z3:=u.trans m;have t2:=eT (m.row om) Y;have t3:=eT (G.row l3) l4;by_cases J:f=0
   case neg=>
    have N:decide (f=0)=false:=z4z J;refine gS1 (aI (asx m) (aI N @Tryz.results70)) ?_;exact⟨0,_,_,rfl,om,om,G⟩
   subst J;obtain⟨o1,m1,k1,a0,v1,rfl,-⟩:=x1.yv;obtain⟨o2,m2,k2,nn2,v2,rfl,-⟩:=x2.yv;have u1:=cZ s1;have u2:=cZ s2;refine gS1 (aI (asx m) (aI t2 (aI t3 (aI u1 (aI u2 @j7))))) ?_;have fin:∀ (x y:Int),-(((j+k:Nat)):Int)<=x->x<=((j+k:Nat):Int)->∃ p c Z',(⟨false,.tuple ⟨[.int .i64 x,.int .i64 y]⟩,Z3⟩:CR)=⟨false,.tuple ⟨[.int .i64 p,.int .i64 c]⟩,Z'⟩/\ -((j+k:Nat):Int)<=p/\p<=((j+k:Nat):Int)/\Ext Z Z':=fun x y a b=>⟨x,y,Z3,rfl,a,b,G⟩
   cases z:decide (o=[42])with
   | true=>
     refine gS1 (aI z @Tryz.results70) ?_;refine fin _ _ ?_ ?_<;>omega
   |false=>
   cases D:decide (o=[47])with
   | true=>
     cases A:decide (o2=[110,117,109])with
     | true=>
       cases C:decide (p=1)with
       | true=>
         refine gS1 (aI z (aI D (aI A (aI C @Tryz.results70)))) ?_;refine fin _ _ ?_ ?_<;>omega
       | false=>
         refine gS1 (aI z (aI D (aI A (aI C @Tryz.results70)))) ?_;refine fin _ _ ?_ ?_<;>omega
     | false=>
       refine gS1 (aI z (aI D (aI A @Tryz.results70))) ?_;refine fin _ _ ?_ ?_<;>omega
   |false=>
   cases A:decide (o1=[110,117,109])with
   | true=>
     cases C:decide (o2=[110,117,109])with
     | true=>
       refine gS1 (aI z (aI D (aI A (aI C @Tryz.results70)))) ?_;refine fin _ _ ?_ ?_<;>omega
     | false=>
       refine gS1 (aI z (aI D (aI A (aI C @Tryz.results70)))) ?_;refine fin _ _ ?_ ?_<;>omega
   | false=>
     cases C:decide (o2=[110,117,109])with
     | true=>
       refine gS1 (aI z (aI D (aI A (aI C @Tryz.results70)))) ?_;refine fin _ _ ?_ ?_<;>omega
     | false=>
       cases W:decide (p=q)with
       | true=>
         refine gS1 (aI z (aI D (aI A (aI C (aI W @Tryz.results70))))) ?_;refine fin _ _ ?_ ?_<;>omega
       | false=>
         refine gS1 (aI z (aI D (aI A (aI C (aI W @Tryz.results70))))) ?_;refine fin _ _ ?_ ?_<;>omega
end Go.Proofs.T
namespace Go.Proofs.T
open Go Go.Ab
def gX {n d N D:Int}(o:d≠0) (s: -N<=n) (u:n<=N) (v: -D<=d) (y:d<=D): -N<=qn n d/\qn n d<=N/\1<=qd n d/\qd n d<=D:=by
 have a:=(YT (n:=n) o).2;obtain⟨n',b⟩:=nW ((if d<0 then -n else n));obtain⟨d',hD⟩:=nW ((if d<0 then -d else d));have i:Int.gcd n d=Int.gcd n' d':=by rw[<- b,<- hD];split<;>simp[Int.gcd]
 have q: -N<=n'/\n'<=N:=by rw[<- b];split<;>omega
 have r:0<d'/\d'<=D:=by rw[<- hD];split<;>omega
 unfold qd at a;unfold qn qd;rw[hD,i]at a;rw[b,hD,i];have c:0<Int.gcd n' d':=Int.gcd_pos_of_ne_zero_right _ om;obtain⟨k,j⟩:((Int.gcd n' d':Nat):Int)∣n':=Int.gcd_dvd_left _ _;obtain⟨m,hm⟩:((Int.gcd n' d':Nat):Int)∣d':=Int.gcd_dvd_right _ _;obtain⟨g,hgg⟩:=nW (Int.gcd n' d');rw[hgg]at j hm c a ⊢;have e:(1:Int)<=(g:Int):=om;have l:n' / (g:Int)=k:=by rw[j,Ue _ om]
 have f:d' / (g:Int)=m:=by rw[hm,Ue _ om]
 rw[f]at a;rw[l,f];have key:∀ x:Int,0<=x->x<=g*x:=fun x p=>by
  have:=Int.mul_le_mul_of_nonneg_right e p;rw[Int.one_mul]at this;exact this
 refine⟨?_,?_,a,?_⟩
 ·rcases Int.le_total 0 k with h|h
  ·have:=key k h;omega
  ·have:=key (-k) om;rw[Int.mul_neg]at this;omega
 ·rcases Int.le_total 0 k with h|h
  ·have:=key k h;omega
  ·have:=key (-k) om;rw[Int.mul_neg]at this;omega
 ·have:=key m om;omega
abbrev Jc:=Int->Int->Prop
def BdQ (N D:Int):Jc:=fun n d=>RS n d/\ -N<=n/\n<=N/\d<=D
def Tz {n d N D:Int}(f:d≠0) (g: -N<=n) (h:n<=N) (i: -D<=d) (j:d<=D) (l:N<1000000000) (k:D<1000000000):BdQ N D (qn n d) (qd n d):=by
 obtain⟨a,b,c,e⟩:=gX f g h i j;exact⟨⟨om,om,c,om,(YT f).1⟩,a,b,e⟩
def FL:By:=[43]
def Jj:By:=[45]
def Hx:By:=[42]
def Dm:By:=[47]
def OpP (o:By) (A B P:Jc):Prop :=
 if o=FL then ∀ n d m e,A n d->B m e->P (qn (n*e+m*d) (d*e)) (qd (n*e+m*d) (d*e))
 else if o=Jj then ∀ n d m e,A n d->B m e->P (qn (n*e-m*d) (d*e)) (qd (n*e-m*d) (d*e))
 else if o=Hx then ∀ n d m e,A n d->B m e->P (qn (n*m) (d*e)) (qd (n*m) (d*e))
 else if o=Dm then ∀ n d m e,A n d->B m e->m≠0/\P (qn (n*e) (d*m)) (qd (n*e) (d*m))
 else(∀ n d,A n d->P n d)/\∀ n d,B n d->P n d
inductive Iv (T:Tn):Ex->Jc->Prop
 |num {n d:Int}{nm:By}{l:List Ex}{P:Jc} (h:P n d):Iv T (.mk K8 n d nm l) P
 |name {n d:Int}{nm:By}{l:List Ex}{P:Jc} (h:(N4 T nm).2.2=true->P (N4 T nm).1 1/\P (N4 T nm).2.1 1):Iv T (.mk nmB n d nm l) P
 |op {o nm:By}{n d:Int}{a b:Ex}{A B P:Jc} (h1:o≠K8) (h2:o≠nmB) (ha:Iv T a A) (hb:Iv T b B) (hA:∀ n d,A n d->RS n d) (hB:∀ n d,B n d->RS n d) (hP:OpP o A B P):Iv T (.mk o n d nm [a,b]) P
end Go.Proofs.T
namespace Go.Proofs.T
open Go Go.Ab
open Nat (reduceMul reduceEqDiff reduceAdd)
def AI3.pick {P:Jc}{n d m e x y:Int}(h:AI3 n d m e x y) (a:P n d) (b:P m e):P x y:=by
 rcases h with⟨rfl,rfl⟩|⟨rfl,rfl⟩
 ·exact a
 ·exact b
def kj (qs:List (Int×Int)):List (List Value):=qs.map fun q=>[.int .i64 q.1,.int .i64 q.2]
def NA {Z:St}{v w:Value}{qs:List (Int×Int)}{P:Jc}(G:∀ n d,P n d->RS n d) (hs:SL Z 2 v (kj qs)) (hb:SL Z 1 w (qs.map fun _=>[.bool true])) (K:0<qs.length) (hl:qs.length<=4) (V:∀ q∈qs,P q.1 q.2) :
  Ev (gO 127 [v,w] Z) (fun r=>∃ n d m e Z',r=⟨false,.tuple ⟨[R5 n d,R5 m e,.int .i64 0]⟩,Z'⟩/\P n d/\P m e/\Ext Z Z') ⟨⟩:=by
 obtain⟨a1,c1,b1,W,J,rfl,e1,f1⟩:=SL.Lo hs;obtain⟨a2,c2,b2,o2,cs2,rfl,e2,f2⟩:=SL.Lo hb;obtain⟨s1,rfl,l1,r1⟩:=e1 K;obtain⟨s2,rfl,l2,r2⟩:=e2 K;obtain⟨q0,hq0⟩:=I1 K;have g0:sub J W 2=some [.int .i64 q0.1,.int .i64 q0.2]:=by simpa using f1 0 q0 hq0
 have X:=V q0 (Ag hq0);refine C8 Tryz.func127 rfl rfl ?_;refine gS1 (aI r1 (aI g0 (aI @GH @j7))) ?_;obtain⟨S0,g⟩:=nW (((((((Z.new [.int .i64 0,.int .i64 0] (some 29)).new [.int .i64 0,.int .i64 0] (some 29)).new [.int .i64 0,.int .i64 0] (some 29)).upd (Z.n+1+1) [.int .i64 q0.1,.int .i64 q0.2]).new [.int .i64 0,.int .i64 0] (some 29)).upd (Z.n+1+1+1) [.int .i64 q0.1,.int .i64 q0.2]));have E0:Ext Z S0:=by rw[<- g];exact eX
 have n0:S0.n=Z.n+4:=by rw[<- g];rfl
 have x0:S0.A7 Z.n=some [.int .i64 0,.int .i64 0]:=by rw[<- g];exact cL
 have x1:S0.A7 (Z.n+1)=some [.int .i64 0,.int .i64 0]:=by rw[<- g];exact cL
 have x2:S0.A7 (Z.n+1+1)=some [.int .i64 q0.1,.int .i64 q0.2]:=by rw[<- g];exact cL
 have x3:S0.A7 (Z.n+1+1+1)=some [.int .i64 q0.1,.int .i64 q0.2]:=by rw[<- g];exact cL
 rw[g]
 refine G8 qs.length (fun k f Z'=>f.get 9=some (.int .i64 k)/\f.get 0=some (.slice (some ⟨b1,W,s1⟩) qs.length c1)/\f.get 1=some (.slice (some ⟨b2,o2,s2⟩) qs.length c2) /\
   f.get 4=some (.pointer (some ⟨Z.n,0,none⟩))/\f.get 5=some (.pointer (some ⟨Z.n+1,0,none⟩))/\f.get 7=some (.pointer (some ⟨Z.n+1+1,0,none⟩))/\f.get 8=some (.pointer (some ⟨Z.n+1+1+1,0,none⟩))/\Ext Z Z'/\Z.n+4<=Z'.n /\
   Z'.A7 Z.n=some [.int .i64 0,.int .i64 0]/\Z'.A7 (Z.n+1)=some [.int .i64 0,.int .i64 0]/\∃ n d m e,P n d/\P m e/\Z'.A7 (Z.n+1+1)=some [.int .i64 n,.int .i64 d]/\Z'.A7 (Z.n+1+1+1)=some [.int .i64 m,.int .i64 e])
  (fun r=>∃ f Z',r=⟨.exit 0,f,Z'⟩/\f.get 4=some (.pointer (some ⟨Z.n,0,none⟩))/\f.get 5=some (.pointer (some ⟨Z.n+1,0,none⟩))/\f.get 7=some (.pointer (some ⟨Z.n+1+1,0,none⟩))/\f.get 8=some (.pointer (some ⟨Z.n+1+1+1,0,none⟩))/\Ext Z Z'/\Z.n+4<=Z'.n /\
    Z'.A7 Z.n=some [.int .i64 0,.int .i64 0]/\Z'.A7 (Z.n+1)=some [.int .i64 0,.int .i64 0]/\∃ n d m e,P n d/\P m e/\Z'.A7 (Z.n+1+1)=some [.int .i64 n,.int .i64 d]/\Z'.A7 (Z.n+1+1+1)=some [.int .i64 m,.int .i64 e]) ?_ ?_ ?_ ?_
 ·refine⟨?_,?_,?_,?_,?_,?_,?_,E0,om,x0,x1,_,_,_,_,X,X,x2,x3⟩<;>exact fR
 ·rintro k f Z' U ⟨p,b,j,l,o,h,i,u,M,D,E,n,d,m,e,z,pm,A,B⟩;have hc:=M4 U;obtain⟨q,s⟩:=I1 U;have H:=V q (Ag s);have L:=f1 k q s;have S:=f2 k q s;rw[Ip]at S;have Y:=eT (u.row l1) r1;have z2:=eT (u.row l2) r2;have N:=A9 A;have O:=A9 B;refine gS1 (aI p (aI b (aI j (aI h (aI hc (aI Y (aI z2 (aI L (aI S N))))))))) ?_;refine(WX (G _ _ z) (G _ _ H)).mono ?_;rintro r ⟨x,y,Z2,rfl,xk,a⟩;have n2:=a.n;have z3:=eT (a.row om) Y;have F:=eT (a.A7 om) A;have R:=eT (a.row om) O;unfold R5;refine gS1 (aI p (aI b (aI j (aI h (aI i (aI z3 (aI L (aI F (aI R (aI (asx a) @G6)))))))))) ?_;refine Ct.intro (by(repeat first|simp(disch:=omega) only[O4,G6,asx a]|rw[W6 (by kernel_rfl)]);rfl) ?_;have C:(Z2.upd (Z.n+1+1) [.int .i64 x,.int .i64 y]).A7 (Z.n+1+1+1)=some [.int .i64 m,.int .i64 e]:=by rw[K9 om,a.A7 om];exact B
  simp(maxSteps:=8000000) (disch:=first|exact dS|fail) only[↓bD,bW,reduceMul,reduceEqDiff,reduceAdd,Nat.reduceBEq,reduceIte,Option.isNone_none,p,b,j,h,i,z3,L,F,A9 C];refine(WY (G _ _ pm) (G _ _ H)).mono ?_;rintro r ⟨x',y',Z4,rfl,I,c⟩;have n4:=c.n;simp only[HH]at n4;have y4:=eT (c.A7 (cL)) C;have y5:Z4.A7 (Z.n+1+1)=some [.int .i64 x,.int .i64 y]:=eT (c.A7 (cL)) cL;have y6:Z4.A7 Z.n=some [.int .i64 0,.int .i64 0]:=by rw[c.A7 (cL),K9 om,a.A7 om];exact D
  have y7:Z4.A7 (Z.n+1)=some [.int .i64 0,.int .i64 0]:=by rw[c.A7 (cL),K9 om,a.A7 om];exact E
  have E4:Ext Z Z4:=Ext.trans (Ext.upd (u.trans a) om _) c;unfold R5;refine gS1 (aI p (aI b (aI j (aI l (aI o (aI h (aI i (aI y4 (aI (asx c) @G6))))))))) ?_;refine Ct.intro (by(repeat first|simp(disch:=omega) only[O4,G6,asx c]|rw[W6 (by kernel_rfl)]);rfl) ?_;refine gS1 (aI p (aI b (aI j (aI l (aI o (aI h i)))))) ?_;refine⟨?_,?_,?_,?_,?_,?_,?_,Ext.upd E4 om _,?_,?_,?_,x,y,x',y',xk.pick z H,I.pick pm H,?_,?_⟩<;>exact fR1 (And.intro b (And.intro j (And.intro l (And.intro o (And.intro h (And.intro i (And.intro y5 (And.intro y6 y7))))))))
 ·rintro f Z' ⟨p,b,j,l,o,h,i,u,M,D,E,n,d,m,e,z,pm,A,B⟩;refine gS1 (aI p b) ?_;exact⟨_,_,rfl,fR1 l,fR1 o,fR1 h,fR1 i,u,M,D,E,n,d,m,e,z,pm,A,B⟩
 rintro r ⟨f,Z',rfl,l,o,h,i,u,M,D,E,n,d,m,e,z,pm,A,B⟩;have N:=A9 A;have O:=A9 B;refine gS1 (aI l (aI o (aI h (aI i (aI N (aI O (aI D (aI E (aI @G6 @Tryz.results127))))))))) ?_;exact⟨n,d,m,e,_,rfl,z,pm,eX⟩
def dL {Z:St}{n:Int}:Ev (gO 125 [.int .i64 n] Z) (fun r=>∃ Z',r=⟨false,R5 n 1,Z'⟩/\Ext Z Z') ⟨⟩:=by
 refine C8 Tryz.func125 rfl rfl ?_;refine gS1 @Tryz.results125 ?_;exact⟨_,rfl,eX⟩
def Jx {Z:St}{b size c:Nat}{sp:Option Nat}{a:List (List Value)}{cells:List Value}{n:Nat}(e:∀ r∈a,r.length=size) (f:b<Z.n) (g:Z.row b=some cells) (h:cells=a.flatten) (i:n=a.length):SL Z size (.slice (some ⟨b,0,sp⟩) n c) a:=by
 subst h;subst i;refine .inr ⟨b,0,sp,c,_,rfl,f,g,fun k r d=>?_⟩;have:=KH e d (o:=0) (n:=size) om;have j:r.length=size:=e r (Ag d);rw[j7]at this;rw[GK,this];exact C9 om om
end Go.Proofs.T
