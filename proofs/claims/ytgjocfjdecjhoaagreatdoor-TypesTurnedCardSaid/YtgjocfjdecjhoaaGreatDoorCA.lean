/- The G6 YI, Gq and Nv of small Hj. -/
import Derived.Test.YtgjocfjdecjhoaaGreatDoorBB
import Derived.Test.YtgjocfjdecjhoaaGreatDoorTYA
import Derived.Test.YtgjocfjdecjhoaaGreatDoorEB
set_option linter.unusedSimpArgs false
set_option linter.unusedVariables false
set_option linter.defProp false
set_option maxHeartbeats 32000000
set_option maxRecDepth 100000
namespace Go.Proofs.T
open Go Go.Ab
section
variable {n d m e:Int}{Z:St}
structure RS (n d:Int):Prop where
 n1: -1000000000<n
 n2:n<1000000000
 d1:1<=d
 d2:d<1000000000
 low:Int.gcd n d=1
def RS.rq (h:RS n d):RQ n d:=⟨h.n1,by have:=h.n2;have:=h.d1;omega,h.d1,h.d2,h.low⟩
def Jy (h:RS n d) (k:RS m e):Ev (gO 175 [P8 n d,P8 m e] Z) (fun r=>∃ Z',r=⟨false,.bool true,Z'⟩/\Ext Z Z') ⟨⟩:=by
 refine C9 Tryz.func175 rfl rfl ?_;unfold P8;refine gS ?_;refine(Qi h.rq).mono ?_;rintro r ⟨Z2,rfl,hE2⟩;have n2:=hE2.n;simp only[F6]at n2;have q2:Z2.row (Z.n+1)=some [.int .i64 m,.int .i64 e]:=eT (hE2.row (cL)) cL;refine gS1 q2 ?_;refine(Qi k.rq).mono ?_;rintro r ⟨Z3,rfl,hE3⟩;have hE:Ext Z Z3:=Ext.trans (eX) (hE2.trans hE3);refine gS1 (aI @D9 @Tryz.results175) ?_;exact⟨_,rfl,hE⟩
def Pv (h:RS n d) (k:RS m e):Ev (gO 176 [P8 n d,P8 m e] Z) (fun r=>∃ Z',r=⟨false,.bool true,Z'⟩/\Ext Z Z') ⟨⟩:=by
 refine C9 Tryz.func176 rfl rfl ?_;unfold P8;refine gS ?_;refine(IC h.n1 h.n2).mono ?_;rintro r rfl;refine gS1 @D9 ?_;refine(IC (by have:=h.d1;omega) h.d2).mono ?_;rintro r rfl;refine gS1 @D9 ?_;refine(IC k.n1 k.n2).mono ?_;rintro r rfl;refine gS1 @D9 ?_;refine(IC (by have:=k.d1;omega) k.d2).mono ?_;rintro r rfl;refine gS1 (aI @D9 @Tryz.results176) ?_;exact⟨_,rfl,eX⟩
def AU {a b:Int}(h1: -1000000000<a) (h2:a<1000000000) (h3: -1000000000<b) (h4:b<1000000000): -1000000000000000000<=a*b/\a*b<=1000000000000000000:=by
 have h:(a*b).natAbs<=1000000000*1000000000:=by
  rw[Int.natAbs_mul];exact mz om om
 omega
def fL (h:RS n d) (k:RS m e):Ev (gO 126 [P8 n d,P8 m e] Z) (fun r=>∃ Z',r=⟨false,.tuple ⟨[P8 (qn (n*e+m*d) (d*e)) (qd (n*e+m*d) (d*e)),.bool true]⟩,Z'⟩/\Ext Z Z') ⟨⟩:=by
 obtain⟨x1,x2,x3,x4,x5⟩:=id h;obtain⟨y1,y2,y3,y4,y5⟩:=id k;have p1:=AU x1 x2 (by omega: -1000000000<e) y4;have p2:=AU y1 y2 (by omega: -1000000000<d) x4;have p3:=AU (by omega: -1000000000<d) x4 (by omega: -1000000000<e) y4;have p4:=AU x1 x2 y1 y2;have p5:=AU (by omega: -1000000000<d) x4 y1 y2;have hd0:d*e≠0:=Int.mul_ne_zero om om;refine C9 Tryz.func126 rfl rfl ?_;unfold P8;refine gS ?_;refine(Jy h k).mono ?_;rintro r ⟨Z2,rfl,hE2⟩;have n2:=hE2.n;simp only[F6]at n2;have r1:Z2.row Z.n=some [.int .i64 n,.int .i64 d]:=eT (hE2.row (cL)) cL;have r2:Z2.row (Z.n+1)=some [.int .i64 m,.int .i64 e]:=eT (hE2.row (cL)) cL;have r3:Z2.A7 (Z.n+1+1)=some [.int .i64 0,.int .i64 0]:=eT (hE2.A7 (cL)) cL;refine gS1 (aI r1 r2) ?_;refine(Pv h k).mono ?_;rintro r ⟨Z3,rfl,hE3⟩;have n3:=hE3.n;have q1:=eT (hE3.row om) r1;have q2:=eT (hE3.row om) r2;have q3:=eT (hE3.A7 om) r3;refine gS1 (aI q1 q2) ?_;refine(Gl (n:=n*e+m*d) (d:=d*e) ⟨om,om⟩ ⟨om,om⟩ hd0).mono ?_;rintro r ⟨Z4,rfl,hE4⟩;have n4:=hE4.n;have o4:=eT (hE4.A7 om) q3;have hE:Ext Z Z4:=Ext.trans (eX) (hE2.trans (hE3.trans hE4));refine gS1 (aI o4 @Tryz.results126) ?_;exact⟨_,rfl,eX⟩
def fM (h:RS n d) (k:RS m e):Ev (gO 128 [P8 n d,P8 m e] Z) (fun r=>∃ Z',r=⟨false,.tuple ⟨[P8 (qn (n*e-m*d) (d*e)) (qd (n*e-m*d) (d*e)),.bool true]⟩,Z'⟩/\Ext Z Z') ⟨⟩:=by
 obtain⟨x1,x2,x3,x4,x5⟩:=id h;obtain⟨y1,y2,y3,y4,y5⟩:=id k;have p1:=AU x1 x2 (by omega: -1000000000<e) y4;have p2:=AU y1 y2 (by omega: -1000000000<d) x4;have p3:=AU (by omega: -1000000000<d) x4 (by omega: -1000000000<e) y4;have p4:=AU x1 x2 y1 y2;have p5:=AU (by omega: -1000000000<d) x4 y1 y2;have hd0:d*e≠0:=Int.mul_ne_zero om om;refine C9 Tryz.func128 rfl rfl ?_;unfold P8;refine gS ?_;refine(Jy h k).mono ?_;rintro r ⟨Z2,rfl,hE2⟩;have n2:=hE2.n;simp only[F6]at n2;have r1:Z2.row Z.n=some [.int .i64 n,.int .i64 d]:=eT (hE2.row (cL)) cL;have r2:Z2.row (Z.n+1)=some [.int .i64 m,.int .i64 e]:=eT (hE2.row (cL)) cL;have r3:Z2.A7 (Z.n+1+1)=some [.int .i64 0,.int .i64 0]:=eT (hE2.A7 (cL)) cL;refine gS1 (aI r1 r2) ?_;refine(Pv h k).mono ?_;rintro r ⟨Z3,rfl,hE3⟩;have n3:=hE3.n;have q1:=eT (hE3.row om) r1;have q2:=eT (hE3.row om) r2;have q3:=eT (hE3.A7 om) r3;refine gS1 (aI q1 q2) ?_;refine(Gl (n:=n*e-m*d) (d:=d*e) ⟨om,om⟩ ⟨om,om⟩ hd0).mono ?_;rintro r ⟨Z4,rfl,hE4⟩;have n4:=hE4.n;have o4:=eT (hE4.A7 om) q3;have hE:Ext Z Z4:=Ext.trans (eX) (hE2.trans (hE3.trans hE4));refine gS1 (aI o4 @Tryz.results128) ?_;exact⟨_,rfl,eX⟩
def PZ (h:RS n d) (k:RS m e):Ev (gO 129 [P8 n d,P8 m e] Z) (fun r=>∃ Z',r=⟨false,.tuple ⟨[P8 (qn (n*m) (d*e)) (qd (n*m) (d*e)),.bool true]⟩,Z'⟩/\Ext Z Z') ⟨⟩:=by
 obtain⟨x1,x2,x3,x4,x5⟩:=id h;obtain⟨y1,y2,y3,y4,y5⟩:=id k;have p1:=AU x1 x2 (by omega: -1000000000<e) y4;have p2:=AU y1 y2 (by omega: -1000000000<d) x4;have p3:=AU (by omega: -1000000000<d) x4 (by omega: -1000000000<e) y4;have p4:=AU x1 x2 y1 y2;have p5:=AU (by omega: -1000000000<d) x4 y1 y2;have hd0:d*e≠0:=Int.mul_ne_zero om om;refine C9 Tryz.func129 rfl rfl ?_;unfold P8;refine gS ?_;refine(Jy h k).mono ?_;rintro r ⟨Z2,rfl,hE2⟩;have n2:=hE2.n;simp only[F6]at n2;have r1:Z2.row Z.n=some [.int .i64 n,.int .i64 d]:=eT (hE2.row (cL)) cL;have r2:Z2.row (Z.n+1)=some [.int .i64 m,.int .i64 e]:=eT (hE2.row (cL)) cL;have r3:Z2.A7 (Z.n+1+1)=some [.int .i64 0,.int .i64 0]:=eT (hE2.A7 (cL)) cL;refine gS1 (aI r1 r2) ?_;refine(Pv h k).mono ?_;rintro r ⟨Z3,rfl,hE3⟩;have n3:=hE3.n;have q1:=eT (hE3.row om) r1;have q2:=eT (hE3.row om) r2;have q3:=eT (hE3.A7 om) r3;refine gS1 (aI q1 q2) ?_;refine(Gl (n:=n*m) (d:=d*e) ⟨om,om⟩ ⟨om,om⟩ hd0).mono ?_;rintro r ⟨Z4,rfl,hE4⟩;have n4:=hE4.n;have o4:=eT (hE4.A7 om) q3;have hE:Ext Z Z4:=Ext.trans (eX) (hE2.trans (hE3.trans hE4));refine gS1 (aI o4 @Tryz.results129) ?_;exact⟨_,rfl,eX⟩
def HK (h:RS n d) (k:RS m e) (hm:m≠0):Ev (gO 131 [P8 n d,P8 m e] Z) (fun r=>∃ Z',r=⟨false,.tuple ⟨[P8 (qn (n*e) (d*m)) (qd (n*e) (d*m)),.bool true]⟩,Z'⟩/\Ext Z Z') ⟨⟩:=by
 obtain⟨x1,x2,x3,x4,x5⟩:=id h;obtain⟨y1,y2,y3,y4,y5⟩:=id k;have p1:=AU x1 x2 (by omega: -1000000000<e) y4;have p2:=AU y1 y2 (by omega: -1000000000<d) x4;have p3:=AU (by omega: -1000000000<d) x4 (by omega: -1000000000<e) y4;have p4:=AU x1 x2 y1 y2;have p5:=AU (by omega: -1000000000<d) x4 y1 y2;have hd0:d*m≠0:=Int.mul_ne_zero om om;refine C9 Tryz.func131 rfl rfl ?_;unfold P8;refine gS ?_;refine(Jy h k).mono ?_;rintro r ⟨Z2,rfl,hE2⟩;have n2:=hE2.n;simp only[F6]at n2;have r1:Z2.row Z.n=some [.int .i64 n,.int .i64 d]:=eT (hE2.row (cL)) cL;have r2:Z2.row (Z.n+1)=some [.int .i64 m,.int .i64 e]:=eT (hE2.row (cL)) cL;have r3:Z2.A7 (Z.n+1+1)=some [.int .i64 0,.int .i64 0]:=eT (hE2.A7 (cL)) cL;have cm:decide (m=0)=false:=by simpa using hm
 refine gS1 (aI r1 (aI r2 cm)) ?_;refine(Pv h k).mono ?_;rintro r ⟨Z3,rfl,hE3⟩;have n3:=hE3.n;have q1:=eT (hE3.row om) r1;have q2:=eT (hE3.row om) r2;have q3:=eT (hE3.A7 om) r3;refine gS1 (aI q1 q2) ?_;refine(Gl (n:=n*e) (d:=d*m) ⟨om,om⟩ ⟨om,om⟩ hd0).mono ?_;rintro r ⟨Z4,rfl,hE4⟩;have n4:=hE4.n;have o4:=eT (hE4.A7 om) q3;have hE:Ext Z Z4:=Ext.trans (eX) (hE2.trans (hE3.trans hE4));refine gS1 (aI o4 @Tryz.results131) ?_;exact⟨_,rfl,eX⟩
end
section
variable {Z:St}{n d m e:Int}
def VJ (h:RS n d) (k:RS m e):Ev (gO 130 [P8 n d,P8 m e] Z) (fun r=>∃ c Z',r=⟨false,.int .i64 c,Z'⟩/\Ext Z Z') ⟨⟩:=by
 obtain⟨x1,x2,x3,x4,x5⟩:=id h;obtain⟨y1,y2,y3,y4,y5⟩:=id k;have i1:Bk n:=⟨om,om⟩
 have i2:Bk d:=⟨om,om⟩
 have i3:Bk m:=⟨om,om⟩
 have i4:Bk e:=⟨om,om⟩
 refine C9 Tryz.func130 rfl rfl ?_;unfold P8;refine gS ?_;refine(Jy h k).mono ?_;rintro r ⟨Z2,rfl,hE2⟩;have n2:=hE2.n;simp only[F6]at n2;have r1:Z2.row Z.n=some [.int .i64 n,.int .i64 d]:=eT (hE2.row (cL)) cL;have r2:Z2.row (Z.n+1)=some [.int .i64 m,.int .i64 e]:=eT (hE2.row (cL)) cL;have EA:Ext Z Z2:=Ext.trans (eX) hE2;refine gS1 (aI r1 r2) ?_;refine(OY i3).mono ?_;rintro r ⟨v3,l3,Z3,rfl,hE3,⟨w3,rfl,hw3⟩,dl3,tl3,-,ll3⟩;have n3:=hE3.n;obtain⟨p3,q3,hs3⟩:=hw3.shape;subst hs3;have q1:=eT (hE3.row om) r1;have q2:=eT (hE3.row om) r2;refine gSd (a6N @Bc @Y7 @K7 @K8 @N5 @N6) (aI @Az (aI @BC (aI @BD (aI @Cr (aI @Y8 (aI q1 q2)))))) ?_;refine(OY i2).mono ?_;rintro r ⟨v4,l4,Z4,rfl,hE4,⟨w4,rfl,hw4⟩,dl4,tl4,-,ll4⟩;have n4:=hE4.n;obtain⟨p4,q4,hs4⟩:=hw4.shape;subst hs4;refine gSd (a6N @Bc @Y7 @K7 @K8 @N5 @N6) (a5N @Az @BC @BD @Cr @Y8) ?_;refine(iW ⟨_,rfl,hw3.mono hE4⟩ ⟨_,rfl,hw4⟩ dl3 dl4 om om).mono ?_;rintro r ⟨v5,l5,Z5,rfl,hE5,⟨w5,rfl,hw5⟩,dl5,tl5,-,ll5⟩;have n5:=hE5.n;obtain⟨p5,q5,hs5⟩:=hw5.shape;subst hs5;have s1:=eT (hE5.row om) (eT (hE4.row om) q1);have s2:=eT (hE5.row om) (eT (hE4.row om) q2);generalize (decide (m<0) != decide (d<0))=sg at *;refine gSd (a6N @Bc @Y7 @K7 @K8 @N5 @N6) (aI @Az (aI @BC (aI @BD (aI @Cr (aI @Y8 (aI (asx hE3) (aI (asx hE4) (aI (asx hE5) (aI @G8 (aI @G3 (aI s1 s2))))))))))) ?_;obtain⟨S6,hS6⟩:=nm ((((Z5.new [.bool false,.slice none 0 0] (some 168)).upd Z5.n [.bool sg,.slice p5 l5.length q5]).upd Z5.n [.bool !sg,.slice p5 l5.length q5]));have E6:Ext Z5 S6:=by rw[<- hS6];exact eX
 have n6:S6.n=Z5.n+1:=by rw[<- hS6];rfl
 have x6:S6.row Z5.n=some [.bool !sg,.slice p5 l5.length q5]:=by rw[<- hS6];exact EU
 have t1:=eT (E6.row om) s1;have t2:=eT (E6.row om) s2;rw[hS6];refine(OY i1).mono ?_;rintro r ⟨v7,l7,Z7,rfl,hE7,⟨w7,rfl,hw7⟩,dl7,tl7,-,ll7⟩;have n7:=hE7.n;obtain⟨p7,q7,hs7⟩:=hw7.shape;subst hs7;have u1:=eT (hE7.row om) t1;have u2:=eT (hE7.row om) t2;refine gSd (a6N @Bc @Y7 @K7 @K8 @N5 @N6) (aI @Az (aI @BC (aI @BD (aI @Cr (aI @Y8 (aI u1 u2)))))) ?_;refine(OY i4).mono ?_;rintro r ⟨v8,l8,Z8,rfl,hE8,⟨w8,rfl,hw8⟩,dl8,tl8,-,ll8⟩;have n8:=hE8.n;obtain⟨p8,q8,hs8⟩:=hw8.shape;subst hs8;refine gSd (a6N @Bc @Y7 @K7 @K8 @N5 @N6) (a5N @Az @BC @BD @Cr @Y8) ?_;refine(iW ⟨_,rfl,hw7.mono hE8⟩ ⟨_,rfl,hw8⟩ dl7 dl8 om om).mono ?_;rintro r ⟨v9,l9,Z9,rfl,hE9,⟨w9,rfl,hw9⟩,dl9,tl9,-,ll9⟩;have n9:=hE9.n;obtain⟨p9,q9,hs9⟩:=hw9.shape;subst hs9;have x9:=eT (hE9.row om) (eT (hE8.row om) (eT (hE7.row om) x6));generalize (decide (n<0) != decide (e<0))=sh at *;refine gSd (a6N @Bc @Y7 @K7 @K8 @N5 @N6) (aI @Az (aI @BC (aI @BD (aI @Cr (aI @Y8 x9))))) ?_;refine(zS ⟨_,rfl,hw9⟩ ⟨_,rfl,hw5.mono (E6.trans (hE7.trans (hE8.trans hE9)))⟩ dl9 dl5 tl9 tl5 om om).mono ?_;rintro r ⟨va,la,Za,rfl,hEa,⟨wa,rfl,hwa⟩,dla,-,lla⟩;have na:=hEa.n;obtain⟨pa,qa,hsa⟩:=hwa.shape;subst hsa;generalize (Wi sh (!sg) (D8 l9) (D8 l5)).1=sz at *;have EB:Ext Z Za:=EA.trans (hE3.trans (hE4.trans (hE5.trans (E6.trans (hE7.trans (hE8.trans (hE9.trans hEa)))))));refine gSd (a6N @Bc @Y7 @K7 @K8 @N5 @N6) (aI @Az (aI @BC (aI @BD (aI @Cr (aI @Y8 (aI (asx hE7) (aI (asx hE8) (aI (asx hE9) (aI (asx hEa) (aI @G8 @G3)))))))))) ?_;obtain⟨Sb,hSb⟩:=nm (((Za.new [.bool false,.slice none 0 0] (some 168)).upd Za.n [.bool sz,.slice pa la.length qa]));have Eb:Ext Za Sb:=by rw[<- hSb];exact eX
 have xb:Sb.row Za.n=some [.bool sz,.slice pa la.length qa]:=by rw[<- hSb];exact EU
 rw[hSb];refine(Ck (hwa.mono Eb) om).mono ?_;rintro r ⟨wt,lt,rfl,hwt,-,-,-,-⟩;obtain⟨pt,qt,hst⟩:=hwt.shape;subst hst;have EC:Ext Z Sb:=EB.trans Eb;cases c0:decide ((lt.length:Int)=0)with
 | true=>
   refine gSd (a6N @Bc @Y7 @K7 @K8 @N5 @N6) (aI @Az (aI @BC (aI @BD (aI @Cr (aI @Y8 (aI xb (aI c0 @Tryz.results130))))))) ?_;exact⟨_,_,rfl,EC⟩
 | false=>
   cases sz
   all_goals
    refine gSd (a6N @Bc @Y7 @K7 @K8 @N5 @N6) (aI @Az (aI @BC (aI @BD (aI @Cr (aI @Y8 (aI xb (aI c0 @Tryz.results130))))))) ?_;exact⟨_,_,rfl,EC⟩
def zq (n d m e x y:Int):Prop:=(x=n/\y=d)\/(x=m/\y=e)
def VK (h:RS n d) (k:RS m e):Ev (gO 132 [P8 n d,P8 m e] Z) (fun r=>∃ x y Z',r=⟨false,P8 x y,Z'⟩/\zq n d m e x y/\Ext Z Z') ⟨⟩:=by
 refine C9 Tryz.func132 rfl rfl ?_;unfold P8;refine gS ?_;refine(VJ h k).mono ?_;rintro r ⟨c0,Z2,rfl,hE2⟩;have n2:=hE2.n;simp only[F6]at n2;have r1:Z2.row Z.n=some [.int .i64 n,.int .i64 d]:=eT (hE2.row (cL)) cL;have r2:Z2.row (Z.n+1)=some [.int .i64 m,.int .i64 e]:=eT (hE2.row (cL)) cL;have r3:Z2.A7 (Z.n+1+1)=some [.int .i64 0,.int .i64 0]:=eT (hE2.A7 (cL)) cL;have EA:Ext Z Z2:=Ext.trans (eX) hE2;by_cases c:0<c0
 ·have c2:decide (0<c0)=true:=Be c;refine gS1 (aI r1 (aI r2 (aI r3 (aI c2 (aI (asx hE2) (aI @G8 @Tryz.results132)))))) ?_;exact⟨m,e,_,rfl,Or.inr ⟨rfl,rfl⟩,Ext.upd EA om _⟩
 ·have c2:decide (0<c0)=false:=z4z c;refine gS1 (aI r1 (aI r2 (aI r3 (aI c2 (aI (asx hE2) (aI @G8 @Tryz.results132)))))) ?_;exact⟨n,d,_,rfl,Or.inl ⟨rfl,rfl⟩,Ext.upd EA om _⟩
def VM (h:RS n d) (k:RS m e):Ev (gO 133 [P8 n d,P8 m e] Z) (fun r=>∃ x y Z',r=⟨false,P8 x y,Z'⟩/\zq n d m e x y/\Ext Z Z') ⟨⟩:=by
 refine C9 Tryz.func133 rfl rfl ?_;unfold P8;refine gS ?_;refine(VJ h k).mono ?_;rintro r ⟨c0,Z2,rfl,hE2⟩;have n2:=hE2.n;simp only[F6]at n2;have r1:Z2.row Z.n=some [.int .i64 n,.int .i64 d]:=eT (hE2.row (cL)) cL;have r2:Z2.row (Z.n+1)=some [.int .i64 m,.int .i64 e]:=eT (hE2.row (cL)) cL;have r3:Z2.A7 (Z.n+1+1)=some [.int .i64 0,.int .i64 0]:=eT (hE2.A7 (cL)) cL;have EA:Ext Z Z2:=Ext.trans (eX) hE2;by_cases c:c0<0
 ·have c2:decide (c0<0)=true:=Be c;refine gS1 (aI r1 (aI r2 (aI r3 (aI c2 (aI (asx hE2) (aI @G8 @Tryz.results133)))))) ?_;exact⟨m,e,_,rfl,Or.inr ⟨rfl,rfl⟩,Ext.upd EA om _⟩
 ·have c2:decide (c0<0)=false:=z4z c;refine gS1 (aI r1 (aI r2 (aI r3 (aI c2 (aI (asx hE2) (aI @G8 @Tryz.results133)))))) ?_;exact⟨n,d,_,rfl,Or.inl ⟨rfl,rfl⟩,Ext.upd EA om _⟩
end
end Go.Proofs.T
namespace Go.Proofs.T
open Go Go.Ab
open Nat (reduceMul reduceEqDiff reduceAdd)
section
variable {Z:St}{T:Tn}{cells:List Value}
structure Good (Z:St) (cells:List Value) (T:Tn):Prop where
 at':HW Z cells T
 wk:WkT 4 1000 100 T
def Good.mono {Z':St}(h:Good Z cells T) (hE:Ext Z Z'):Good Z' cells T:=⟨h.at'.mono hE,h.wk⟩
def Good.len (h:Good Z cells T):cells.length=20:=h.at'.len
def xz {α:Type}{p:α->Bool}{l:List α}{k:Nat}{a:α}(h:l[k]? =some a) (hp:p a=true) (hn:∀ (i:Nat) (b:α),i<k->l[i]? =some b->p b=false):l.find? p=some a:=by
 induction l generalizing k with
 |nil=>simp at h
 | cons x l ih=>
   cases k with
   |zero=>cases h;simp[List.find?,hp]
   | succ k=>
     have h0:=hn 0 x om rfl;rw[List.find?_cons,h0];exact ih (k:=k) (by simpa using h) fun i b hi hb=>hn (i+1) b om (by simpa using hb)
def yA {α:Type}{p:α->Bool}{l:List α}(hn:∀ (i:Nat) (b:α),l[i]? =some b->p b=false):l.find? p=none:=by
 rw[List.find?_eq_none];intro x hx;obtain⟨i,hi⟩:=List.mem_iff_getElem?.1 hx;rw[hn i x hi];simp
def W0 (T:Tn) (s:By):Int×Int×Bool :=
 if s=N9 then(T.low,T.high,true)else if s=Dp then(T.low,T.high,true)else
  match T.G9.find? (fun x=>decide (x.name=s))with
  |some x=>(x.low,x.high,true)
  |none=>(0,0,false)
def PY (p:Int×Int×Bool):Value:= .tuple ⟨[.int .i64 p.1,.int .i64 p.2.1,.bool p.2.2]⟩
def NY {ca:List Value}{s:By}(hT:Good Z ca T):Ev (gO 18 [.agg ⟨ca⟩,str s] Z) (fun r=>∃ Z',r=⟨false,PY (W0 T s),Z'⟩/\Ext Z Z') ⟨⟩:=by
 refine C9 Tryz.func18 rfl rfl ?_;obtain⟨vl,vc,vr,ex,vt,vk,rfl,h2,h3,h4,h5,h6,h7⟩:=hT.at';have hx5:=h5.len
 match ex,hx5 with
 | [x0,x1,x2,x3,x4],_=>
 obtain⟨a,c,b,off,cells,rfl,c1,c2⟩:=OP.use h3;unfold XJ;refine gS ?_;by_cases e1:s=N9
 ·subst e1;simp(maxSteps:=8000000) (disch:=first|exact dS|fail) only[↓bD,bW,reduceMul,reduceEqDiff,reduceAdd,Nat.reduceBEq,reduceIte,Option.isNone_none,N9,Tryz.results18];exact⟨_,rfl,Ext.W6 (.refl _) _⟩
 have d1:decide (s=[112,114,105,99,101])=false:=z4z e1;by_cases e2:s=Dp
 ·have d3:decide (s=[108,111,119])=true:=Be e2;have hb:W0 T s=(T.low,T.high,true):=by unfold W0;rw[z0z e1,z1z e2]
  refine gS1 (aI d1 (aI d3 @Tryz.results18)) ?_;exact⟨_,by rw[hb];rfl,Ext.W6 (.refl _) _⟩
 have d2:decide (s=[108,111,119])=false:=z4z e2;have hb:W0 T s=(match T.G9.find? (fun x=>decide (x.name=s))with|some x=>(x.low,x.high,true)|none=>(0,0,false)):=by
  unfold W0;rw[z0z e1,z0z e2]
 refine gS1 (aI d1 d2) ?_;obtain⟨R,hR⟩:∃ R:List Value,R=[str T.name,vl,.slice a T.G9.length c,vr,.int .i64 T.low,.int .i64 T.high,x0,x1,x2,x3,x4,vt,.int .i64 T.y8,vk,.int .i64 T.V9,.int .i64 T.t.q,.int .i64 T.t.b,.int .i64 T.t.g,.int .i64 T.t.p,.int .i64 T.t.s]:=⟨_,rfl⟩
 have hs2:sub R 2 1=some [.slice a T.G9.length c]:=by rw[hR];rfl
 refine I4 T.G9.length (fun k fr Z'=>fr.get 7=some (.int .i64 k)/\fr.get 2=some (.pointer (some ⟨Z.n,0,none⟩))/\fr.get 1=some (str s)/\Ext Z Z'/\Z'.row Z.n=some R/\∀ (i:Nat) (x:Bz),i<k->T.G9[i]? =some x->decide (x.name=s)=false)
  (fun r=>∃ z fr Z',r=⟨z,fr,Z'⟩/\Ext Z Z'/\((z= .exit 0/\T.G9.find? (fun x=>decide (x.name=s))=none)\/∃ x,z= .ret/\fr.get 4=some (.int .i64 x.low)/\fr.get 5=some (.int .i64 x.high)/\fr.get 6=some (.bool true)/\T.G9.find? (fun x=>decide (x.name=s))=some x)) ?_ ?_ ?_ ?_
 ·refine⟨fR,fR,fR,Ext.W6 (.refl _) _,by rw[hR];exact cL,fun i x h=>om⟩
 ·rintro k fr Z' hk ⟨g7,g2,g1,hE,hr,hm⟩;have hc:=L9 hk;have hcl:=hT.wk.G9;obtain⟨x,hx⟩:=H5 hk;obtain⟨sp,rfl,l3,l4⟩:=c1 om;have l5:=eT (hE.row l3) l4;obtain⟨l7,m1,m2,m3,m4,m5⟩:=c2 k x hx;refine gS1 (aI g2 (aI g1 (aI g7 (aI hc (aI hr (aI hs2 (aI l5 m1))))))) ?_;cases hp:decide (x.name=s)with
  | true=>
    refine gS1 (aI g2 (aI g1 (aI g7 (aI hr (aI hs2 (aI l5 (aI m3 m4))))))) ?_;exact⟨_,_,_,rfl,hE,.inr ⟨x,rfl,fR,fR,fR,xz hx hp hm⟩⟩
  | false=>
    refine gS1 (aI g2 (aI g1 g7)) ?_;refine⟨fR,fR1 g2,fR1 g1,hE,hr,fun i y hi hy=>?_⟩;by_cases e:i=k
    ·subst e;rw[hx]at hy;cases hy;exact hp
    ·exact hm i y om hy
 ·rintro fr Z' ⟨g7,g2,g1,hE,hr,hm⟩;refine gS1 (aI g2 (aI g7 (aI hr hs2))) ?_;exact⟨_,_,_,rfl,hE,.inl ⟨rfl,yA fun i x hx=>hm i x (List.getElem?_eq_some_iff.1 hx).1 hx⟩⟩
 rintro r ⟨z,fr,Z',rfl,hE,⟨rfl,hq⟩|⟨x,rfl,g4,g5,g6,hq⟩⟩
 ·refine gS1 @Tryz.results18 ?_;exact⟨_,by rw[hb,hq];rfl,hE⟩
 ·refine gS1 (aI @Tryz.results18 (aI g4 (aI g5 g6))) ?_;exact⟨_,by rw[hb,hq];rfl,hE⟩
end
inductive FOk:Nat->Ex->Prop
 |num {n d:Int} (h:RS n d) (h0:0<=n) (hd:(1000000:Int) % d=0):FOk 1 (.mk K9 n d [] [])
 |name {nm:By} (h:nm.length<=30):FOk 1 (.mk nmB 0 0 nm [])
 |op {o:By}{j k:Nat}{a b:Ex} (h1:o≠K9) (h2:o≠nmB) (hl:o.length<=4) (ha:FOk j a) (hb:FOk k b):FOk (j+k) (.mk o 0 0 [] [a,b])
def bB {cells r:List Value}{o n:Nat}{x:Value}(h:sub cells o (n+1)=some (x::r)):sub cells o 1=some [x]:=by
 have:=Fz (i:=0) (m:=1) h om;rw[AG]at this;rw[this];rfl
def th {T:Tn}{j:Nat}{e:Ex}(hf:FOk j e):∀ {Z:St}{ca row:List Value},j<=1000->Good Z ca T->P6 Z row e->Ev (gO 70 [.agg ⟨ca⟩,.agg ⟨row⟩] Z) (fun r=>∃ p c Z',r=⟨false,.tuple ⟨[.int .i64 p,.int .i64 c]⟩,Z'⟩/\ -(j:Int)<=p/\p<=j/\Ext Z Z') ⟨⟩:=by
 induction hf with
 | @num n d h h0 hd=>
   intro Z ca row hj hT he;obtain⟨v,B9,rfl,-,-,-⟩:=he;have hca:=hT.len;have hfa:sub ca 0 20=some ca:=C8 om om;refine C9 Tryz.func70 rfl rfl ?_;simp(maxSteps:=8000000) (disch:=first|exact dS|fail) only[↓bD,bW,reduceMul,reduceEqDiff,reduceAdd,Nat.reduceBEq,reduceIte,Option.isNone_none,hfa,K9,Tryz.results70];exact⟨0,0,_,rfl,om,om,eX⟩
 | @name nm h=>
   intro Z ca row hj hT he;obtain⟨v,B9,rfl,-,-,-⟩:=he;have hca:=hT.len;have hfa:sub ca 0 20=some ca:=C8 om om;have d1:decide (([110,97,109,101]:By)=[110,117,109])=false:=by decide
   refine C9 Tryz.func70 rfl rfl ?_;simp(maxSteps:=8000000) (disch:=first|exact dS|fail) only[↓bD,bW,reduceMul,reduceEqDiff,reduceAdd,Nat.reduceBEq,reduceIte,Option.isNone_none,hfa,nmB,d1];have hE0:Ext Z ((Z.new ca).new [str [110,97,109,101],.int .i64 0,.int .i64 0,str nm,v]):=((Ext.refl _).W6 _).W6 _;refine(NY (s:=nm) (hT.mono hE0)).mono ?_;rintro r ⟨Z2,rfl,hE2⟩;have n2:=hE2.n;simp only[F6]at n2;have r2:Z2.row (Z.n+1)=some [str [110,97,109,101],.int .i64 0,.int .i64 0,str nm,v]:=eT (hE2.row (cL)) cL;have hE:Ext Z Z2:=hE0.trans hE2;unfold PY;cases hk:(W0 T nm).2.2 with
   | false=>
     refine gS1 (aI hk @Tryz.results70) ?_;exact⟨0,_,_,rfl,om,om,hE⟩
   | true=>
     cases d2:decide (nm=[112,114,105,99,101])with
     | true=>
       refine gS1 (aI hk (aI r2 (aI d2 @Tryz.results70))) ?_;exact⟨1,_,_,rfl,om,om,hE⟩
     | false=>
       cases d3:decide (nm=[108,111,119])with
       | true=>
         refine gS1 (aI hk (aI r2 (aI d2 (aI d3 @Tryz.results70)))) ?_;exact⟨1,_,_,rfl,om,om,hE⟩
       | false=>
         refine gS1 (aI hk (aI r2 (aI d2 (aI d3 @Tryz.results70)))) ?_;exact⟨0,_,_,rfl,om,om,hE⟩
 | @op o j k a b h1 h2 hl ha hb iha ihb=>
   intro Z ca row hj hT he;obtain⟨v,B9,rfl,hsl,-,hex⟩:=he;obtain⟨B,off,sp,c,cells,r1,r2,rfl,l3,l4,s1,s2,x1,x2⟩:=FU hsl hex;have hca:=hT.len;have hfa:sub ca 0 20=some ca:=C8 om om;have d1:decide (o=[110,117,109])=false:=z4z h1;have d2:decide (o=[110,97,109,101])=false:=z4z h2;refine C9 Tryz.func70 rfl rfl ?_;refine gS1 (aI hfa (aI d1 (aI d2 (aI l4 (aI s1 @AG))))) ?_;have hE0:Ext Z ((Z.new ca).new [str o,.int .i64 0,.int .i64 0,str [],.slice (some ⟨B,off,sp⟩) 2 c]):=((Ext.refl _).W6 _).W6 _;refine(iha om (hT.mono hE0) (x1.mono hE0)).mono ?_;rintro r ⟨p,e,Z2,rfl,p1,p2,hE2⟩;have n2:=hE2.n;simp only[F6]at n2;have hE:Ext Z Z2:=hE0.trans hE2;have q1:Z2.row Z.n=some ca:=eT (hE2.row (cL)) cL;have q2:Z2.row (Z.n+1)=some [str o,.int .i64 0,.int .i64 0,str [],.slice (some ⟨B,off,sp⟩) 2 c]:=eT (hE2.row (cL)) cL;have q3:=eT (hE.row l3) l4;by_cases he:e=0
   case neg=>
    have e1:decide (e=0)=false:=z4z he;refine gS1 (aI (asx hE2) (aI e1 @Tryz.results70)) ?_;exact⟨0,_,_,rfl,om,om,hE⟩
   subst he;refine gS1 (aI (asx hE2) (aI q1 (aI hfa (aI q2 (aI q3 (aI s2 @AG)))))) ?_;refine(ihb om (hT.mono hE) (x2.mono hE)).mono ?_;rintro r ⟨q,f,Z3,rfl,p3,p4,hE3⟩;have n3:=hE3.n;have hE':Ext Z Z3:=hE.trans hE3;have t2:=eT (hE3.row om) q2;have t3:=eT (hE'.row l3) l4;by_cases hf:f=0
   case neg=>
    have e1:decide (f=0)=false:=z4z hf;refine gS1 (aI (asx hE3) (aI e1 @Tryz.results70)) ?_;exact⟨0,_,_,rfl,om,om,hE'⟩
   subst hf;obtain⟨o1,m1,k1,nn1,v1,rfl,-⟩:=x1.wX;obtain⟨o2,m2,k2,nn2,v2,rfl,-⟩:=x2.wX;have u1:=bB s1;have u2:=bB s2;refine gS1 (aI (asx hE3) (aI t2 (aI t3 (aI u1 (aI u2 @AG))))) ?_;have fin:∀ (x y:Int),-(((j+k:Nat)):Int)<=x->x<=((j+k:Nat):Int)->∃ p c Z',(⟨false,.tuple ⟨[.int .i64 x,.int .i64 y]⟩,Z3⟩:CR)=⟨false,.tuple ⟨[.int .i64 p,.int .i64 c]⟩,Z'⟩/\ -((j+k:Nat):Int)<=p/\p<=((j+k:Nat):Int)/\Ext Z Z':=fun x y a b=>⟨x,y,Z3,rfl,a,b,hE'⟩
   cases g1:decide (o=[42])with
   | true=>
     refine gS1 (aI g1 @Tryz.results70) ?_;refine fin _ _ ?_ ?_<;>omega
   |false=>
   cases g2:decide (o=[47])with
   | true=>
     cases g3:decide (o2=[110,117,109])with
     | true=>
       cases g4:decide (p=1)with
       | true=>
         refine gS1 (aI g1 (aI g2 (aI g3 (aI g4 @Tryz.results70)))) ?_;refine fin _ _ ?_ ?_<;>omega
       | false=>
         refine gS1 (aI g1 (aI g2 (aI g3 (aI g4 @Tryz.results70)))) ?_;refine fin _ _ ?_ ?_<;>omega
     | false=>
       refine gS1 (aI g1 (aI g2 (aI g3 @Tryz.results70))) ?_;refine fin _ _ ?_ ?_<;>omega
   |false=>
   cases g3:decide (o1=[110,117,109])with
   | true=>
     cases g4:decide (o2=[110,117,109])with
     | true=>
       refine gS1 (aI g1 (aI g2 (aI g3 (aI g4 @Tryz.results70)))) ?_;refine fin _ _ ?_ ?_<;>omega
     | false=>
       refine gS1 (aI g1 (aI g2 (aI g3 (aI g4 @Tryz.results70)))) ?_;refine fin _ _ ?_ ?_<;>omega
   | false=>
     cases g4:decide (o2=[110,117,109])with
     | true=>
       refine gS1 (aI g1 (aI g2 (aI g3 (aI g4 @Tryz.results70)))) ?_;refine fin _ _ ?_ ?_<;>omega
     | false=>
       cases g5:decide (p=q)with
       | true=>
         refine gS1 (aI g1 (aI g2 (aI g3 (aI g4 (aI g5 @Tryz.results70))))) ?_;refine fin _ _ ?_ ?_<;>omega
       | false=>
         refine gS1 (aI g1 (aI g2 (aI g3 (aI g4 (aI g5 @Tryz.results70))))) ?_;refine fin _ _ ?_ ?_<;>omega
end Go.Proofs.T
namespace Go.Proofs.T
open Go Go.Ab
def fC {n d N D:Int}(hd:d≠0) (h1: -N<=n) (h2:n<=N) (h3: -D<=d) (h4:d<=D): -N<=qn n d/\qn n d<=N/\1<=qd n d/\qd n d<=D:=by
 have Wy:=(Wz (n:=n) hd).2;obtain⟨n',hN⟩:=nm ((if d<0 then -n else n));obtain⟨d',hD⟩:=nm ((if d<0 then -d else d));have hg:Int.gcd n d=Int.gcd n' d':=by rw[<- hN,<- hD];split<;>simp[Int.gcd]
 have b1: -N<=n'/\n'<=N:=by rw[<- hN];split<;>omega
 have b2:0<d'/\d'<=D:=by rw[<- hD];split<;>omega
 unfold qd at Wy;unfold qn qd;rw[hD,hg]at Wy;rw[hN,hD,hg];have hg0:0<Int.gcd n' d':=Int.gcd_pos_of_ne_zero_right _ om;obtain⟨k,hk⟩:((Int.gcd n' d':Nat):Int)∣n':=Int.gcd_dvd_left _ _;obtain⟨m,hm⟩:((Int.gcd n' d':Nat):Int)∣d':=Int.gcd_dvd_right _ _;obtain⟨g,hgg⟩:=nm (Int.gcd n' d');rw[hgg]at hk hm hg0 Wy ⊢;have hgi:(1:Int)<=(g:Int):=om;have e1:n' / (g:Int)=k:=by rw[hk,TQ _ om]
 have e2:d' / (g:Int)=m:=by rw[hm,TQ _ om]
 rw[e2]at Wy;rw[e1,e2];have key:∀ x:Int,0<=x->x<=g*x:=fun x hx=>by
  have:=Int.mul_le_mul_of_nonneg_right hgi hx;rw[Int.one_mul]at this;exact this
 refine⟨?_,?_,Wy,?_⟩
 ·rcases Int.le_total 0 k with h|h
  ·have:=key k h;omega
  ·have:=key (-k) om;rw[Int.mul_neg]at this;omega
 ·rcases Int.le_total 0 k with h|h
  ·have:=key k h;omega
  ·have:=key (-k) om;rw[Int.mul_neg]at this;omega
 ·have:=key m om;omega
abbrev JC:=Int->Int->Prop
def BdQ (N D:Int):JC:=fun n d=>RS n d/\ -N<=n/\n<=N/\d<=D
def Sl {n d N D:Int}(hd:d≠0) (h1: -N<=n) (h2:n<=N) (h3: -D<=d) (h4:d<=D) (hN:N<1000000000) (hD:D<1000000000):BdQ N D (qn n d) (qd n d):=by
 obtain⟨a,b,c,e⟩:=fC hd h1 h2 h3 h4;exact⟨⟨om,om,c,om,(Wz hd).1⟩,a,b,e⟩
def JD:By:=[43]
def PD:By:=[45]
def JI:By:=[42]
def HB:By:=[47]
def OpP (o:By) (A B P:JC):Prop :=
 if o=JD then ∀ n d m e,A n d->B m e->P (qn (n*e+m*d) (d*e)) (qd (n*e+m*d) (d*e))
 else if o=PD then ∀ n d m e,A n d->B m e->P (qn (n*e-m*d) (d*e)) (qd (n*e-m*d) (d*e))
 else if o=JI then ∀ n d m e,A n d->B m e->P (qn (n*m) (d*e)) (qd (n*m) (d*e))
 else if o=HB then ∀ n d m e,A n d->B m e->m≠0/\P (qn (n*e) (d*m)) (qd (n*e) (d*m))
 else(∀ n d,A n d->P n d)/\∀ n d,B n d->P n d
inductive Iv (T:Tn):Ex->JC->Prop
 |num {n d:Int}{nm:By}{l:List Ex}{P:JC} (h:P n d):Iv T (.mk K9 n d nm l) P
 |name {n d:Int}{nm:By}{l:List Ex}{P:JC} (h:(W0 T nm).2.2=true->P (W0 T nm).1 1/\P (W0 T nm).2.1 1):Iv T (.mk nmB n d nm l) P
 |op {o nm:By}{n d:Int}{a b:Ex}{A B P:JC} (h1:o≠K9) (h2:o≠nmB) (ha:Iv T a A) (hb:Iv T b B) (hA:∀ n d,A n d->RS n d) (hB:∀ n d,B n d->RS n d) (hP:OpP o A B P):Iv T (.mk o n d nm [a,b]) P
end Go.Proofs.T
namespace Go.Proofs.T
open Go Go.Ab
open Nat (reduceMul reduceEqDiff reduceAdd)
def zq.pick {P:JC}{n d m e x y:Int}(h:zq n d m e x y) (a:P n d) (b:P m e):P x y:=by
 rcases h with⟨rfl,rfl⟩|⟨rfl,rfl⟩
 ·exact a
 ·exact b
def jL (qs:List (Int×Int)):List (List Value):=qs.map fun q=>[.int .i64 q.1,.int .i64 q.2]
def MY {Z:St}{v w:Value}{qs:List (Int×Int)}{P:JC}(hP:∀ n d,P n d->RS n d) (hs:SL Z 2 v (jL qs)) (hb:SL Z 1 w (qs.map fun _=>[.bool true])) (h0:0<qs.length) (hl:qs.length<=4) (hq:∀ q∈qs,P q.1 q.2) :
  Ev (gO 127 [v,w] Z) (fun r=>∃ n d m e Z',r=⟨false,.tuple ⟨[P8 n d,P8 m e,.int .i64 0]⟩,Z'⟩/\P n d/\P m e/\Ext Z Z') ⟨⟩:=by
 obtain⟨a1,c1,b1,o1,cs1,rfl,e1,f1⟩:=SL.LD hs;obtain⟨a2,c2,b2,o2,cs2,rfl,e2,f2⟩:=SL.LD hb;obtain⟨s1,rfl,l1,r1⟩:=e1 h0;obtain⟨s2,rfl,l2,r2⟩:=e2 h0;obtain⟨q0,hq0⟩:=H5 h0;have g0:sub cs1 o1 2=some [.int .i64 q0.1,.int .i64 q0.2]:=by simpa using f1 0 q0 hq0
 have p0:=hq q0 (Bs hq0);refine C9 Tryz.func127 rfl rfl ?_;refine gS1 (aI r1 (aI g0 (aI @Fp @AG))) ?_;obtain⟨S0,hS0⟩:=nm (((((((Z.new [.int .i64 0,.int .i64 0] (some 29)).new [.int .i64 0,.int .i64 0] (some 29)).new [.int .i64 0,.int .i64 0] (some 29)).upd (Z.n+1+1) [.int .i64 q0.1,.int .i64 q0.2]).new [.int .i64 0,.int .i64 0] (some 29)).upd (Z.n+1+1+1) [.int .i64 q0.1,.int .i64 q0.2]));have E0:Ext Z S0:=by rw[<- hS0];exact eX
 have n0:S0.n=Z.n+4:=by rw[<- hS0];rfl
 have x0:S0.A7 Z.n=some [.int .i64 0,.int .i64 0]:=by rw[<- hS0];exact cL
 have x1:S0.A7 (Z.n+1)=some [.int .i64 0,.int .i64 0]:=by rw[<- hS0];exact cL
 have x2:S0.A7 (Z.n+1+1)=some [.int .i64 q0.1,.int .i64 q0.2]:=by rw[<- hS0];exact cL
 have x3:S0.A7 (Z.n+1+1+1)=some [.int .i64 q0.1,.int .i64 q0.2]:=by rw[<- hS0];exact cL
 rw[hS0]
 refine I4 qs.length (fun k fr Z'=>fr.get 9=some (.int .i64 k)/\fr.get 0=some (.slice (some ⟨b1,o1,s1⟩) qs.length c1)/\fr.get 1=some (.slice (some ⟨b2,o2,s2⟩) qs.length c2) /\
   fr.get 4=some (.pointer (some ⟨Z.n,0,none⟩))/\fr.get 5=some (.pointer (some ⟨Z.n+1,0,none⟩))/\fr.get 7=some (.pointer (some ⟨Z.n+1+1,0,none⟩))/\fr.get 8=some (.pointer (some ⟨Z.n+1+1+1,0,none⟩))/\Ext Z Z'/\Z.n+4<=Z'.n /\
   Z'.A7 Z.n=some [.int .i64 0,.int .i64 0]/\Z'.A7 (Z.n+1)=some [.int .i64 0,.int .i64 0]/\∃ n d m e,P n d/\P m e/\Z'.A7 (Z.n+1+1)=some [.int .i64 n,.int .i64 d]/\Z'.A7 (Z.n+1+1+1)=some [.int .i64 m,.int .i64 e])
  (fun r=>∃ fr Z',r=⟨.exit 0,fr,Z'⟩/\fr.get 4=some (.pointer (some ⟨Z.n,0,none⟩))/\fr.get 5=some (.pointer (some ⟨Z.n+1,0,none⟩))/\fr.get 7=some (.pointer (some ⟨Z.n+1+1,0,none⟩))/\fr.get 8=some (.pointer (some ⟨Z.n+1+1+1,0,none⟩))/\Ext Z Z'/\Z.n+4<=Z'.n /\
    Z'.A7 Z.n=some [.int .i64 0,.int .i64 0]/\Z'.A7 (Z.n+1)=some [.int .i64 0,.int .i64 0]/\∃ n d m e,P n d/\P m e/\Z'.A7 (Z.n+1+1)=some [.int .i64 n,.int .i64 d]/\Z'.A7 (Z.n+1+1+1)=some [.int .i64 m,.int .i64 e]) ?_ ?_ ?_ ?_
 ·refine⟨?_,?_,?_,?_,?_,?_,?_,E0,om,x0,x1,_,_,_,_,p0,p0,x2,x3⟩<;>exact fR
 ·rintro k fr Z' hk ⟨g9,g0',g1,g4,g5,g7,g8,hE,hn,y0,y1,n,d,m,e,pn,pm,y2,y3⟩;have hc:=L9 hk;obtain⟨q,hqk⟩:=H5 hk;have pq:=hq q (Bs hqk);have h1:=f1 k q hqk;have h2:=f2 k q hqk;rw[MH]at h2;have z1:=eT (hE.row l1) r1;have z2:=eT (hE.row l2) r2;have w2:=A9 y2;have w3:=A9 y3;refine gS1 (aI g9 (aI g0' (aI g1 (aI g7 (aI hc (aI z1 (aI z2 (aI h1 (aI h2 w2))))))))) ?_;refine(VK (hP _ _ pn) (hP _ _ pq)).mono ?_;rintro r ⟨x,y,Z2,rfl,vL,hE2⟩;have n2:=hE2.n;have z3:=eT (hE2.row om) z1;have y2':=eT (hE2.A7 om) y2;have y3':=eT (hE2.row om) w3;unfold P8;refine gS1 (aI g9 (aI g0' (aI g1 (aI g7 (aI g8 (aI z3 (aI h1 (aI y2' (aI y3' (aI (asx hE2) @G3)))))))))) ?_;refine Ca.intro (by(repeat first|simp(disch:=omega) only[M9,G3,asx hE2]|rw[V8 (by kernel_rfl)]);rfl) ?_;have Ar4:(Z2.upd (Z.n+1+1) [.int .i64 x,.int .i64 y]).A7 (Z.n+1+1+1)=some [.int .i64 m,.int .i64 e]:=by rw[K0 om,hE2.A7 om];exact y3
  simp(maxSteps:=8000000) (disch:=first|exact dS|fail) only[↓bD,bW,reduceMul,reduceEqDiff,reduceAdd,Nat.reduceBEq,reduceIte,Option.isNone_none,g9,g0',g1,g7,g8,z3,h1,y2',A9 Ar4];refine(VM (hP _ _ pm) (hP _ _ pq)).mono ?_;rintro r ⟨x',y',Z4,rfl,AJ5,hE4⟩;have n4:=hE4.n;simp only[Gn]at n4;have y4:=eT (hE4.A7 (cL)) Ar4;have y5:Z4.A7 (Z.n+1+1)=some [.int .i64 x,.int .i64 y]:=eT (hE4.A7 (cL)) cL;have y6:Z4.A7 Z.n=some [.int .i64 0,.int .i64 0]:=by rw[hE4.A7 (cL),K0 om,hE2.A7 om];exact y0
  have y7:Z4.A7 (Z.n+1)=some [.int .i64 0,.int .i64 0]:=by rw[hE4.A7 (cL),K0 om,hE2.A7 om];exact y1
  have E4:Ext Z Z4:=Ext.trans (Ext.upd (hE.trans hE2) om _) hE4;unfold P8;refine gS1 (aI g9 (aI g0' (aI g1 (aI g4 (aI g5 (aI g7 (aI g8 (aI y4 (aI (asx hE4) @G3))))))))) ?_;refine Ca.intro (by(repeat first|simp(disch:=omega) only[M9,G3,asx hE4]|rw[V8 (by kernel_rfl)]);rfl) ?_;refine gS1 (aI g9 (aI g0' (aI g1 (aI g4 (aI g5 (aI g7 g8)))))) ?_;refine⟨?_,?_,?_,?_,?_,?_,?_,Ext.upd E4 om _,?_,?_,?_,x,y,x',y',vL.pick pn pq,AJ5.pick pm pq,?_,?_⟩<;>exact fR1 (And.intro g0' (And.intro g1 (And.intro g4 (And.intro g5 (And.intro g7 (And.intro g8 (And.intro y5 (And.intro y6 y7))))))))
 ·rintro fr Z' ⟨g9,g0',g1,g4,g5,g7,g8,hE,hn,y0,y1,n,d,m,e,pn,pm,y2,y3⟩;refine gS1 (aI g9 g0') ?_;exact⟨_,_,rfl,fR1 g4,fR1 g5,fR1 g7,fR1 g8,hE,hn,y0,y1,n,d,m,e,pn,pm,y2,y3⟩
 rintro r ⟨fr,Z',rfl,g4,g5,g7,g8,hE,hn,y0,y1,n,d,m,e,pn,pm,y2,y3⟩;have w2:=A9 y2;have w3:=A9 y3;refine gS1 (aI g4 (aI g5 (aI g7 (aI g8 (aI w2 (aI w3 (aI y0 (aI y1 (aI @G3 @Tryz.results127))))))))) ?_;exact⟨n,d,m,e,_,rfl,pn,pm,eX⟩
def bX {Z:St}{n:Int}:Ev (gO 125 [.int .i64 n] Z) (fun r=>∃ Z',r=⟨false,P8 n 1,Z'⟩/\Ext Z Z') ⟨⟩:=by
 refine C9 Tryz.func125 rfl rfl ?_;refine gS1 @Tryz.results125 ?_;exact⟨_,rfl,eX⟩
def JT {Z:St}{b size c:Nat}{sp:Option Nat}{B9:List (List Value)}{cells:List Value}{n:Nat}(hr:∀ r∈B9,r.length=size) (hb:b<Z.n) (hc:Z.row b=some cells) (hf:cells=B9.flatten) (hn:n=B9.length):SL Z size (.slice (some ⟨b,0,sp⟩) n c) B9:=by
 subst hf;subst hn;refine .inr ⟨b,0,sp,c,_,rfl,hb,hc,fun k r hk=>?_⟩;have:=Jc hr hk (o:=0) (n:=size) om;have hl:r.length=size:=hr r (Bs hk);rw[AG]at this;rw[HC,this];exact C8 om om
end Go.Proofs.T
