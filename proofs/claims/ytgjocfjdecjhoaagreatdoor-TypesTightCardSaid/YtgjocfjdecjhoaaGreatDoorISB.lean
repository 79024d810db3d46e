/- The program Iz R7: the whole. -/
import Derived.Test.YtgjocfjdecjhoaaGreatDoorISA
set_option linter.unusedSimpArgs false
set_option linter.unusedVariables false
set_option linter.defProp false
set_option maxHeartbeats 32000000
set_option maxRecDepth 100000
namespace Go.Proofs.T
open Go Go.Ab
def lO {nm:By}(h:AP nm=true) (f:Nat):JA (.mk nmB 0 0 nm []) (f+1):=by
 intro Z row G4 m q p l;obtain⟨v,o,rfl,-,-,-⟩:=l;have n:K6 (f+1) G4 (.mk nmB 0 0 nm [])=par (decide (lvl nmB<G4)) nm:=rfl;rw[n,show lvl nmB=2 from rfl];have j:=NX h;obtain⟨R,hR⟩:∃ R:List Value,[str nmB,.int .i64 0,.int .i64 0,str nm,v]=R:=⟨_,rfl⟩
 have q0:sub R 0 1=some [str nmB]:=by rw[<- hR];rfl
 have k:sub R 3 1=some [str nm]:=by rw[<- hR];rfl
 have d:sub R 0 5=some R:=by rw[<- hR];rfl
 have e:R.length=5:=by rw[<- hR];rfl
 rw[hR];have c1:decide (nmB=[110,117,109])=false:=rfl;have i:decide (nmB=[110,97,109,101])=true:=rfl;have g:Ext Z (Z.new R):=eX;refine C8 Tryz.func139 rfl rfl ?_;refine gS1 (aI d (aI e q0)) ?_;refine NR.mono ?_;rintro r rfl;rw[show lvl nmB=2 from rfl];have a:decide ((2:Int)<(G4:Int))=decide (2<G4):=by rw[z7z,z3z,z3z];omega
 cases b:decide (2<G4)with
 | true=>
   have c:decide ((2:Int)<(G4:Int))=true:=by rw[a];exact b
   refine gS1 (aI d (aI e (aI q0 (aI k (aI c1 (aI i (aI b (aI a (aI c @Tryz.results139))))))))) ?_;exact⟨_,by rw[iH]<;>rfl,g⟩
 | false=>
   have c:decide ((2:Int)<(G4:Int))=false:=by rw[a];exact b
   refine gS1 (aI d (aI e (aI q0 (aI k (aI c1 (aI i (aI b (aI a (aI c @Tryz.results139))))))))) ?_;exact⟨_,rfl,g⟩
def qj {o:By}{a b:Ex}{f:Nat}(h:o=[43]\/o=[45]\/o=[42]\/o=[47]) (u:JA a f) (y:JA b f) (D:∀ w,(K6 f w a).length<=100000) (E:∀ w,(K6 f w b).length<=100000):JA (.mk o 0 0 [] [a,b]) (f+1):=by
 intro Z row G4 U C A N;obtain⟨v,B9,rfl,q,-,m⟩:=N;obtain⟨B,off,sp,c,cells,r1,r2,rfl,l3,l4,s1,s2,x1,x2⟩:=Dh q m;have K:decide (o=[110,117,109])=false:=z4z (by rcases h with rfl|rfl|rfl|rfl<;>decide);have L:decide (o=[110,97,109,101])=false:=z4z (by rcases h with rfl|rfl|rfl|rfl<;>decide);have Y:decide (o=[109,105,110])=false:=z4z (by rcases h with rfl|rfl|rfl|rfl<;>decide);have m2:decide (o=[109,97,120])=false:=z4z (by rcases h with rfl|rfl|rfl|rfl<;>decide);have p:o≠K8/\o≠nmB/\¬ (o=Q7\/o=R4):=by rcases h with rfl|rfl|rfl|rfl<;>decide
 have lo:o.length=1:=by rcases h with rfl|rfl|rfl|rfl<;>rfl
 obtain⟨w,s⟩:=nW (lvl o);have W:w<=1:=by rw[<- s];rcases h with rfl|rfl|rfl|rfl<;>decide
 have V:K6 (f+1) G4 (.mk o 0 0 [] [a,b])=par (decide (w<G4)) (K6 f w a++32::(o++32::K6 f (w+1) b)):=by
  show par (decide (lvl o<G4)) (if _ then _ else _)=_;rw[z0z p.1,z0z p.2.1];dsimp only;rw[z0z p.2.2,s]
 rw[V];have D:=D w;have E:=E (w+1);have kW:=x1.len;have oy:=x2.len;have O:sub r1 0 5=some r1:=C9 om om;have S:sub r2 0 5=some r2:=C9 om om;obtain⟨R,g⟩:∃ R:List Value,[str o,.int .i64 0,.int .i64 0,str [],.slice (some ⟨B,off,sp⟩) 2 c]=R:=⟨_,rfl⟩
 have q0:sub R 0 1=some [str o]:=by rw[<- g];rfl
 have F:sub R 4 1=some [.slice (some ⟨B,off,sp⟩) 2 c]:=by rw[<- g];rfl
 have G:sub R 0 5=some R:=by rw[<- g];rfl
 have H:R.length=5:=by rw[<- g];rfl
 rw[g];have l:Ext Z (Z.new R):=eX;have p0:=CB l A C;refine C8 Tryz.func139 rfl rfl ?_;refine gS1 (aI G (aI H q0)) ?_;refine NR.mono ?_;rintro r rfl;rw[s];refine gS1 (aI G (aI H (aI q0 (aI F (aI K (aI L (aI Y (aI m2 (aI l4 (aI s1 (aI s2 @j7))))))))))) ?_;refine(u (G4:=w) om p0 (by first|(simp;done)|(simp;omega)) (x1.mono l)).mono ?_;rintro r ⟨I,rfl,e⟩;have n2:=e.n;simp only[G3]at n2;have d:=l.trans e;have X:I.row Z.n=some R:=eT (e.row (by simp)) cL;have J:=eT (d.row l3) l4;have M:(w:Int)+1=((w+1:Nat):Int):=om;refine gS1 (aI q0 (aI F (aI X (aI J (aI s2 M))))) ?_;refine(y (G4:=w+1) om (CB d A C) om (x2.mono d)).mono ?_;rintro r ⟨Z3,rfl,i⟩;refine gS1 (aI (asx e) (asx i)) ?_
 try refine dW1 (aI (asx e) (asx i)) ?_
 generalize K6 f w a=ta at *;generalize K6 f (w+1) b=tb at *;have k:decide ((w:Int)<(G4:Int))=decide (w<G4):=by rw[z7z,z3z,z3z];omega
 cases j:decide (w<G4)with
 | true=>
   have z:decide ((w:Int)<(G4:Int))=true:=by rw[k];exact j
   refine gS1 (aI j (aI k (aI z @Tryz.results139))) ?_;refine⟨_,?_,d.trans i⟩;rw[iH];simp
 | false=>
   have z:decide ((w:Int)<(G4:Int))=false:=by rw[k];exact j
   refine gS1 (aI j (aI k (aI z @Tryz.results139))) ?_;refine⟨_,?_,d.trans i⟩;rw[AN6];simp
def yM {o:By}{a b:Ex}{f:Nat}(h:o=Q7\/o=R4) (q:JA a f) (s:JA b f) (la:(K6 f 0 a).length<=100000) (lb:(K6 f 0 b).length<=100000):JA (.mk o 0 0 [] [a,b]) (f+1):=by
 intro Z row G4 S C z M;obtain⟨v,Y,rfl,p,-,m⟩:=M;obtain⟨B,off,sp,c,cells,r1,r2,rfl,l3,l4,s1,s2,x1,x2⟩:=Dh p m;have K:decide (o=[110,117,109])=false:=z4z (by rcases h with rfl|rfl<;>decide);have L:decide (o=[110,97,109,101])=false:=z4z (by rcases h with rfl|rfl<;>decide);have A:o≠K8/\o≠nmB:=by rcases h with rfl|rfl<;>decide
 have lo:o.length=3:=by rcases h with rfl|rfl<;>rfl
 have D:lvl o=2:=by rcases h with rfl|rfl<;>rfl
 have U:K6 (f+1) G4 (.mk o 0 0 [] [a,b])=par (decide (2<G4)) (o++40::(K6 f 0 a++44::32::(K6 f 0 b++[41]))):=by
  show par (decide (lvl o<G4)) (if _ then _ else _)=_;rw[z0z A.1,z0z A.2];dsimp only;rw[z1z h,D]
 rw[U];have kW:=x1.len;have oy:=x2.len;have N:sub r1 0 5=some r1:=C9 om om;have O:sub r2 0 5=some r2:=C9 om om;obtain⟨R,g⟩:∃ R:List Value,[str o,.int .i64 0,.int .i64 0,str [],.slice (some ⟨B,off,sp⟩) 2 c]=R:=⟨_,rfl⟩
 have q0:sub R 0 1=some [str o]:=by rw[<- g];rfl
 have F:sub R 4 1=some [.slice (some ⟨B,off,sp⟩) 2 c]:=by rw[<- g];rfl
 have G:sub R 0 5=some R:=by rw[<- g];rfl
 have H:R.length=5:=by rw[<- g];rfl
 rw[g];have l:Ext Z (Z.new R):=eX;have X:=CB l z C;have z0:(0:Int)=((0:Nat):Int):=rfl;obtain⟨y,E⟩:=nW (decide (o=[109,105,110]));obtain⟨b2,m2⟩:=nW (decide (o=[109,97,120]));have key:y=true\/b2=true:=by
  rcases h with rfl|rfl
  ·left;rw[<- E];rfl
  ·right;rw[<- m2];rfl
 refine C8 Tryz.func139 rfl rfl ?_;refine gS1 (aI G (aI H q0)) ?_;refine NR.mono ?_;rintro r rfl;rw[D];have k:decide ((2:Int)<(G4:Int))=decide (2<G4):=by rw[z7z,z3z,z3z];omega
 cases y
 case' false=>
  obtain rfl:b2=true:=by rcases key with h|h;cases h;exact h
 all_goals
  refine gS1 (aI G (aI H (aI q0 (aI F (aI K (aI L (aI E (aI m2 (aI l4 (aI s1 (aI s2 @j7))))))))))) ?_;refine(q (G4:=0) om X (by first|(simp;done)|(simp;omega)) (x1.mono l)).mono ?_;rintro r ⟨I,rfl,e⟩;have W:=e.n;simp only[G3]at W;have d:=l.trans e;have V:I.row Z.n=some R:=eT (e.row (by simp)) cL;have J:=eT (d.row l3) l4;refine gS1 (aI q0 (aI F (aI V (aI J s2)))) ?_;refine(s (G4:=0) om (CB d z C) om (x2.mono d)).mono ?_;rintro r ⟨Z3,rfl,i⟩;refine gS1 (aI (asx e) (asx i)) ?_
  try refine dW1 (aI (asx e) (asx i)) ?_
  generalize K6 f 0 a=ta at *;generalize K6 f 0 b=tb at *;cases j:decide (2<G4)with
  | true=>
    have u:decide ((2:Int)<(G4:Int))=true:=by rw[k];exact j
    refine gS1 (aI j (aI k (aI u @Tryz.results139))) ?_;refine⟨_,?_,d.trans i⟩;rw[iH];simp
  | false=>
    have u:decide ((2:Int)<(G4:Int))=false:=by rw[k];exact j
    refine gS1 (aI j (aI k (aI u @Tryz.results139))) ?_;refine⟨_,?_,d.trans i⟩;rw[AN6];simp
def yN {k m:Nat}{e:Ex}(h:FW k m e):∀ g,k<=g->m<=1000->JA e g:=by
 induction h with
 | @num n d h=>
   intro g f _;obtain⟨g,rfl⟩:∃ x,g=x+1:=⟨g-1,om⟩
   have l:=h.rq.d1;have q:=h.d6;have p:=h.rq.n2;have s:d<=1000000:=by
    obtain⟨D,rfl⟩:=FM (show 0<=d by omega);have c:((1000000 % D:Nat):Int)=0:=q;have:=Nat.le_of_dvd om (Nat.dvd_of_mod_eq_zero (Int.ofNat.inj c));omega
   exact @qU _ _ h om g
 | @name nm h l p=>
   intro g f _;obtain⟨g,rfl⟩:∃ x,g=x+1:=⟨g-1,om⟩
   exact @lO _ h g
 | @bin k j m i o a b h ha hb iha ihb=>
   intro g f r;obtain⟨g,rfl⟩:∃ x,g=x+1:=⟨g-1,om⟩
   exact @qj _ _ _ _ h (@iha g om om) (@ihb g om om) (fun w=>by have:=Di ha g w om;omega) (fun w=>by have:=Di hb g w om;omega)
 | @mm k j m i o a b h ha hb iha ihb=>
   intro g f r;obtain⟨g,rfl⟩:∃ x,g=x+1:=⟨g-1,om⟩
   exact @yM _ _ _ _ h (@iha g om om) (@ihb g om om) (by have:=Di ha g 0 om;omega) (by have:=Di hb g 0 om;omega)


end Go.Proofs.T
