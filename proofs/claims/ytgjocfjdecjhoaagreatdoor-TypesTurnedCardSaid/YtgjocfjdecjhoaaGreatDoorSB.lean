/- The program IV Y6: the whole. -/
import Derived.Test.YtgjocfjdecjhoaaGreatDoorSA
set_option linter.unusedSimpArgs false
set_option linter.unusedVariables false
set_option linter.defProp false
set_option maxHeartbeats 32000000
set_option maxRecDepth 100000
namespace Go.Proofs.T
open Go Go.Ab
def jZ {nm:By}(h:AM nm=true) (f:Nat):IW (.mk nmB 0 0 nm []) (f+1):=by
 intro Z row F8 hls hp h1 he;obtain⟨v,B9,rfl,-,-,-⟩:=he;have hs:J8 (f+1) F8 (.mk nmB 0 0 nm [])=par (decide (lvl nmB<F8)) nm:=rfl;rw[hs,show lvl nmB=2 from rfl];have hlen:=Ml h;obtain⟨R,hR⟩:∃ R:List Value,[str nmB,.int .i64 0,.int .i64 0,str nm,v]=R:=⟨_,rfl⟩
 have q0:sub R 0 1=some [str nmB]:=by rw[<- hR];rfl
 have q3:sub R 3 1=some [str nm]:=by rw[<- hR];rfl
 have qf:sub R 0 5=some R:=by rw[<- hR];rfl
 have ql:R.length=5:=by rw[<- hR];rfl
 rw[hR];have c1:decide (nmB=[110,117,109])=false:=rfl;have c2:decide (nmB=[110,97,109,101])=true:=rfl;have E0:Ext Z (Z.new R):=eX;refine C9 Tryz.func139 rfl rfl ?_;refine gS1 (aI qf (aI ql q0)) ?_;refine Me.mono ?_;rintro r rfl;rw[show lvl nmB=2 from rfl];have d2:decide ((2:Int)<(F8:Int))=decide (2<F8):=by rw[z7z,z3z,z3z];omega
 cases hb:decide (2<F8)with
 | true=>
   have d3:decide ((2:Int)<(F8:Int))=true:=by rw[d2];exact hb
   refine gS1 (aI qf (aI ql (aI q0 (aI q3 (aI c1 (aI c2 (aI hb (aI d2 (aI d3 @Tryz.results139))))))))) ?_;exact⟨_,by rw[fe]<;>rfl,E0⟩
 | false=>
   have d3:decide ((2:Int)<(F8:Int))=false:=by rw[d2];exact hb
   refine gS1 (aI qf (aI ql (aI q0 (aI q3 (aI c1 (aI c2 (aI hb (aI d2 (aI d3 @Tryz.results139))))))))) ?_;exact⟨_,rfl,E0⟩
def oG {o:By}{a b:Ex}{f:Nat}(h:o=[43]\/o=[45]\/o=[42]\/o=[47]) (iha:IW a f) (ihb:IW b f) (la:∀ w,(J8 f w a).length<=100000) (lb:∀ w,(J8 f w b).length<=100000):IW (.mk o 0 0 [] [a,b]) (f+1):=by
 intro Z row F8 hls hp h1 he;obtain⟨v,B9,rfl,hsl,-,hex⟩:=he;obtain⟨B,off,sp,c,cells,r1,r2,rfl,l3,l4,s1,s2,x1,x2⟩:=FU hsl hex;have d1:decide (o=[110,117,109])=false:=z4z (by rcases h with rfl|rfl|rfl|rfl<;>decide);have d2:decide (o=[110,97,109,101])=false:=z4z (by rcases h with rfl|rfl|rfl|rfl<;>decide);have m1:decide (o=[109,105,110])=false:=z4z (by rcases h with rfl|rfl|rfl|rfl<;>decide);have m2:decide (o=[109,97,120])=false:=z4z (by rcases h with rfl|rfl|rfl|rfl<;>decide);have hn:o≠K9/\o≠nmB/\¬ (o=R3\/o=R6):=by rcases h with rfl|rfl|rfl|rfl<;>decide
 have lo:o.length=1:=by rcases h with rfl|rfl|rfl|rfl<;>rfl
 obtain⟨w,hw⟩:=nm (lvl o);have hw1:w<=1:=by rw[<- hw];rcases h with rfl|rfl|rfl|rfl<;>decide
 have hs:J8 (f+1) F8 (.mk o 0 0 [] [a,b])=par (decide (w<F8)) (J8 f w a++32::(o++32::J8 f (w+1) b)):=by
  show par (decide (lvl o<F8)) (if _ then _ else _)=_;rw[z0z hn.1,z0z hn.2.1];dsimp only;rw[z0z hn.2.2,hw]
 rw[hs];have la:=la w;have lb:=lb (w+1);have jC:=x1.len;have mW:=x2.len;have hf1:sub r1 0 5=some r1:=C8 om om;have hf2:sub r2 0 5=some r2:=C8 om om;obtain⟨R,hR⟩:∃ R:List Value,[str o,.int .i64 0,.int .i64 0,str [],.slice (some ⟨B,off,sp⟩) 2 c]=R:=⟨_,rfl⟩
 have q0:sub R 0 1=some [str o]:=by rw[<- hR];rfl
 have q4:sub R 4 1=some [.slice (some ⟨B,off,sp⟩) 2 c]:=by rw[<- hR];rfl
 have qf:sub R 0 5=some R:=by rw[<- hR];rfl
 have ql:R.length=5:=by rw[<- hR];rfl
 rw[hR];have E0:Ext Z (Z.new R):=eX;have p0:=Cd E0 h1 hp;refine C9 Tryz.func139 rfl rfl ?_;refine gS1 (aI qf (aI ql q0)) ?_;refine Me.mono ?_;rintro r rfl;rw[hw];refine gS1 (aI qf (aI ql (aI q0 (aI q4 (aI d1 (aI d2 (aI m1 (aI m2 (aI l4 (aI s1 (aI s2 @AG))))))))))) ?_;refine(iha (F8:=w) om p0 (by first|(simp;done)|(simp;omega)) (x1.mono E0)).mono ?_;rintro r ⟨Z2,rfl,E2⟩;have n2:=E2.n;simp only[F6]at n2;have E02:=E0.trans E2;have k2:Z2.row Z.n=some R:=eT (E2.row (by simp)) cL;have c2:=eT (E02.row l3) l4;have e1:(w:Int)+1=((w+1:Nat):Int):=om;refine gS1 (aI q0 (aI q4 (aI k2 (aI c2 (aI s2 e1))))) ?_;refine(ihb (F8:=w+1) om (Cd E02 h1 hp) om (x2.mono E02)).mono ?_;rintro r ⟨Z3,rfl,E3⟩;refine gS1 (aI (asx E2) (asx E3)) ?_
 try refine dW1 (aI (asx E2) (asx E3)) ?_
 generalize J8 f w a=ta at *;generalize J8 f (w+1) b=tb at *;have z2:decide ((w:Int)<(F8:Int))=decide (w<F8):=by rw[z7z,z3z,z3z];omega
 cases hb:decide (w<F8)with
 | true=>
   have z3:decide ((w:Int)<(F8:Int))=true:=by rw[z2];exact hb
   refine gS1 (aI hb (aI z2 (aI z3 @Tryz.results139))) ?_;refine⟨_,?_,E02.trans E3⟩;rw[fe];simp
 | false=>
   have z3:decide ((w:Int)<(F8:Int))=false:=by rw[z2];exact hb
   refine gS1 (aI hb (aI z2 (aI z3 @Tryz.results139))) ?_;refine⟨_,?_,E02.trans E3⟩;rw[AE5];simp
def vj {o:By}{a b:Ex}{f:Nat}(h:o=R3\/o=R6) (iha:IW a f) (ihb:IW b f) (la:(J8 f 0 a).length<=100000) (lb:(J8 f 0 b).length<=100000):IW (.mk o 0 0 [] [a,b]) (f+1):=by
 intro Z row F8 hls hp h1 he;obtain⟨v,B9,rfl,hsl,-,hex⟩:=he;obtain⟨B,off,sp,c,cells,r1,r2,rfl,l3,l4,s1,s2,x1,x2⟩:=FU hsl hex;have d1:decide (o=[110,117,109])=false:=z4z (by rcases h with rfl|rfl<;>decide);have d2:decide (o=[110,97,109,101])=false:=z4z (by rcases h with rfl|rfl<;>decide);have hn:o≠K9/\o≠nmB:=by rcases h with rfl|rfl<;>decide
 have lo:o.length=3:=by rcases h with rfl|rfl<;>rfl
 have hw:lvl o=2:=by rcases h with rfl|rfl<;>rfl
 have hs:J8 (f+1) F8 (.mk o 0 0 [] [a,b])=par (decide (2<F8)) (o++40::(J8 f 0 a++44::32::(J8 f 0 b++[41]))):=by
  show par (decide (lvl o<F8)) (if _ then _ else _)=_;rw[z0z hn.1,z0z hn.2];dsimp only;rw[z1z h,hw]
 rw[hs];have jC:=x1.len;have mW:=x2.len;have hf1:sub r1 0 5=some r1:=C8 om om;have hf2:sub r2 0 5=some r2:=C8 om om;obtain⟨R,hR⟩:∃ R:List Value,[str o,.int .i64 0,.int .i64 0,str [],.slice (some ⟨B,off,sp⟩) 2 c]=R:=⟨_,rfl⟩
 have q0:sub R 0 1=some [str o]:=by rw[<- hR];rfl
 have q4:sub R 4 1=some [.slice (some ⟨B,off,sp⟩) 2 c]:=by rw[<- hR];rfl
 have qf:sub R 0 5=some R:=by rw[<- hR];rfl
 have ql:R.length=5:=by rw[<- hR];rfl
 rw[hR];have E0:Ext Z (Z.new R):=eX;have p0:=Cd E0 h1 hp;have z0:(0:Int)=((0:Nat):Int):=rfl;obtain⟨b1,m1⟩:=nm (decide (o=[109,105,110]));obtain⟨b2,m2⟩:=nm (decide (o=[109,97,120]));have key:b1=true\/b2=true:=by
  rcases h with rfl|rfl
  ·left;rw[<- m1];rfl
  ·right;rw[<- m2];rfl
 refine C9 Tryz.func139 rfl rfl ?_;refine gS1 (aI qf (aI ql q0)) ?_;refine Me.mono ?_;rintro r rfl;rw[hw];have z2:decide ((2:Int)<(F8:Int))=decide (2<F8):=by rw[z7z,z3z,z3z];omega
 cases b1
 case' false=>
  obtain rfl:b2=true:=by rcases key with h|h;cases h;exact h
 all_goals
  refine gS1 (aI qf (aI ql (aI q0 (aI q4 (aI d1 (aI d2 (aI m1 (aI m2 (aI l4 (aI s1 (aI s2 @AG))))))))))) ?_;refine(iha (F8:=0) om p0 (by first|(simp;done)|(simp;omega)) (x1.mono E0)).mono ?_;rintro r ⟨Z2,rfl,E2⟩;have n2:=E2.n;simp only[F6]at n2;have E02:=E0.trans E2;have k2:Z2.row Z.n=some R:=eT (E2.row (by simp)) cL;have c2:=eT (E02.row l3) l4;refine gS1 (aI q0 (aI q4 (aI k2 (aI c2 s2)))) ?_;refine(ihb (F8:=0) om (Cd E02 h1 hp) om (x2.mono E02)).mono ?_;rintro r ⟨Z3,rfl,E3⟩;refine gS1 (aI (asx E2) (asx E3)) ?_
  try refine dW1 (aI (asx E2) (asx E3)) ?_
  generalize J8 f 0 a=ta at *;generalize J8 f 0 b=tb at *;cases hb:decide (2<F8)with
  | true=>
    have z3:decide ((2:Int)<(F8:Int))=true:=by rw[z2];exact hb
    refine gS1 (aI hb (aI z2 (aI z3 @Tryz.results139))) ?_;refine⟨_,?_,E02.trans E3⟩;rw[fe];simp
  | false=>
    have z3:decide ((2:Int)<(F8:Int))=false:=by rw[z2];exact hb
    refine gS1 (aI hb (aI z2 (aI z3 @Tryz.results139))) ?_;refine⟨_,?_,E02.trans E3⟩;rw[AE5];simp
def vp {k m:Nat}{e:Ex}(h:FW k m e):∀ g,k<=g->m<=1000->IW e g:=by
 induction h with
 | @num n d h=>
   intro g hg _;obtain⟨g,rfl⟩:∃ x,g=x+1:=⟨g-1,om⟩
   have h1:=h.rq.d1;have h6:=h.d6;have h2:=h.rq.n2;have hd:d<=1000000:=by
    obtain⟨D,rfl⟩:=Fo (show 0<=d by omega);have h6n:((1000000 % D:Nat):Int)=0:=h6;have:=Nat.le_of_dvd om (Nat.dvd_of_mod_eq_zero (Int.ofNat.inj h6n));omega
   exact @nv _ _ h om g
 | @name nm h h1 h2=>
   intro g hg _;obtain⟨g,rfl⟩:∃ x,g=x+1:=⟨g-1,om⟩
   exact @jZ _ h g
 | @bin k j m i o a b h ha hb iha ihb=>
   intro g hg hm;obtain⟨g,rfl⟩:∃ x,g=x+1:=⟨g-1,om⟩
   exact @oG _ _ _ _ h (@iha g om om) (@ihb g om om) (fun w=>by have:=DV ha g w om;omega) (fun w=>by have:=DV hb g w om;omega)
 | @mm k j m i o a b h ha hb iha ihb=>
   intro g hg hm;obtain⟨g,rfl⟩:∃ x,g=x+1:=⟨g-1,om⟩
   exact @vj _ _ _ _ h (@iha g om om) (@ihb g om om) (by have:=DV ha g 0 om;omega) (by have:=DV hb g 0 om;omega)


end Go.Proofs.T
