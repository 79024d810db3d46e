/- The program Ic Ar: the whole. -/
import Derived.Test.YtbcanmagihejhaaGreatDoorEA
set_option linter.unusedSimpArgs false
set_option linter.unusedVariables false
set_option linter.defProp false
set_option maxHeartbeats 32000000
set_option maxRecDepth 100000
namespace Go.Proofs.T
open Go Go.Ab
def jS {nm:By}(h:W0 nm=true) (f:Nat):Ie (.mk nmB 0 0 nm []) (f+1):=by
 intro Z row G7 m p o l;obtain⟨v,D0,rfl,-,-,-⟩:=l;have n:L9 (f+1) G7 (.mk nmB 0 0 nm [])=par (decide (lvl nmB<G7)) nm:=rfl;rw[n,show lvl nmB=2 from rfl];have j:=Mp h;obtain⟨R,hR⟩:∃ R:List Value,[str nmB,.int .i64 0,.int .i64 0,str nm,v]=R:=⟨_,rfl⟩
 have d:sub R 0 1=some [str nmB]:=by rw[<- hR];rfl
 have q3:sub R 3 1=some [str nm]:=by rw[<- hR];rfl
 have e:sub R 0 5=some R:=by rw[<- hR];rfl
 have g:R.length=5:=by rw[<- hR];rfl
 rw[hR];have c1:decide (nmB=[110,117,109])=false:=rfl;have c2:decide (nmB=[110,97,109,101])=true:=rfl;have i:Ext Z (Z.new R):=eX;refine G1 Tryz.func55 rfl rfl ?_;refine gS1 (aI e (aI g d)) ?_;refine Mh.mono ?_;rintro r rfl;rw[show lvl nmB=2 from rfl];have a:decide ((2:Int)<(G7:Int))=decide (2<G7):=by rw[z7z,z3z,z3z];omega
 cases b:decide (2<G7)with
 | true=>
   have c:decide ((2:Int)<(G7:Int))=true:=by rw[a];exact b
   refine gS1 (aI e (aI g (aI d (aI q3 (aI c1 (aI c2 (aI b (aI a (aI c @Tryz.results55))))))))) ?_;exact⟨_,by rw[eo]<;>rfl,i⟩
 | false=>
   have c:decide ((2:Int)<(G7:Int))=false:=by rw[a];exact b
   refine gS1 (aI e (aI g (aI d (aI q3 (aI c1 (aI c2 (aI b (aI a (aI c @Tryz.results55))))))))) ?_;exact⟨_,rfl,i⟩
def oV {o:By}{a b:Ex}{f:Nat}(h:o=[43]\/o=[45]\/o=[42]\/o=[47]) (y:Ie a f) (z:Ie b f) (F:∀ w,(L9 f w a).length<=100000) (G:∀ w,(L9 f w b).length<=100000):Ie (.mk o 0 0 [] [a,b]) (f+1):=by
 intro Z row G7 S E D N;obtain⟨v,D0,rfl,s,-,p⟩:=N;obtain⟨B,off,sp,c,cells,r1,r2,rfl,l3,l4,s1,s2,x1,x2⟩:=Hl s p;have K:decide (o=[110,117,109])=false:=z4z (by rcases h with rfl|rfl|rfl|rfl<;>decide);have L:decide (o=[110,97,109,101])=false:=z4z (by rcases h with rfl|rfl|rfl|rfl<;>decide);have X:decide (o=[109,105,110])=false:=z4z (by rcases h with rfl|rfl|rfl|rfl<;>decide);have Y:decide (o=[109,97,120])=false:=z4z (by rcases h with rfl|rfl|rfl|rfl<;>decide);have q:o≠T4/\o≠nmB/\¬ (o=W9\/o=Y4):=by rcases h with rfl|rfl|rfl|rfl<;>decide
 have lo:o.length=1:=by rcases h with rfl|rfl|rfl|rfl<;>rfl
 obtain⟨w,u⟩:=nW (lvl o);have V:w<=1:=by rw[<- u];rcases h with rfl|rfl|rfl|rfl<;>decide
 have U:L9 (f+1) G7 (.mk o 0 0 [] [a,b])=par (decide (w<G7)) (L9 f w a++32::(o++32::L9 f (w+1) b)):=by
  show par (decide (lvl o<G7)) (if _ then _ else _)=_;rw[z0z q.1,z0z q.2.1];dsimp only;rw[z0z q.2.2,u]
 rw[U];have F:=F w;have G:=G (w+1);have iJ:=x1.len;have mr:=x2.len;have O:sub r1 0 5=some r1:=G3 om om;have Q:sub r2 0 5=some r2:=G3 om om;obtain⟨R,g⟩:∃ R:List Value,[str o,.int .i64 0,.int .i64 0,str [],.slice (some ⟨B,off,sp⟩) 2 c]=R:=⟨_,rfl⟩
 have A:sub R 0 1=some [str o]:=by rw[<- g];rfl
 have q4:sub R 4 1=some [.slice (some ⟨B,off,sp⟩) 2 c]:=by rw[<- g];rfl
 have H:sub R 0 5=some R:=by rw[<- g];rfl
 have I:R.length=5:=by rw[<- g];rfl
 rw[g];have m:Ext Z (Z.new R):=eX;have p0:=Bs m D E;refine G1 Tryz.func55 rfl rfl ?_;refine gS1 (aI H (aI I A)) ?_;refine Mh.mono ?_;rintro r rfl;rw[u];refine gS1 (aI H (aI I (aI A (aI q4 (aI K (aI L (aI X (aI Y (aI l4 (aI s1 (aI s2 @Be))))))))))) ?_;refine(y (G7:=w) om p0 (by simp;omega) (x1.mono m)).mono ?_;rintro r ⟨J,rfl,e⟩;have n2:=e.n;simp only[K9]at n2;have d:=m.trans e;have W:J.row Z.n=some R:=eT (e.row (by simp)) cL;have c2:=eT (d.row l3) l4;have M:(w:Int)+1=((w+1:Nat):Int):=om;refine gS1 (aI A (aI q4 (aI W (aI c2 (aI s2 M))))) ?_;refine(z (G7:=w+1) om (Bs d D E) om (x2.mono d)).mono ?_;rintro r ⟨Z3,rfl,i⟩;refine gS1 (aI (asx e) (asx i)) ?_
 try refine dW1 (aI (asx e) (asx i)) ?_
 generalize L9 f w a=ta at *;generalize L9 f (w+1) b=tb at *;have l:decide ((w:Int)<(G7:Int))=decide (w<G7):=by rw[z7z,z3z,z3z];omega
 cases j:decide (w<G7)with
 | true=>
   have C:decide ((w:Int)<(G7:Int))=true:=by rw[l];exact j
   refine gS1 (aI j (aI l (aI C @Tryz.results55))) ?_;refine⟨_,?_,d.trans i⟩;rw[eo];simp
 | false=>
   have C:decide ((w:Int)<(G7:Int))=false:=by rw[l];exact j
   refine gS1 (aI j (aI l (aI C @Tryz.results55))) ?_;refine⟨_,?_,d.trans i⟩;rw[AB9];simp
def vE {o:By}{a b:Ex}{f:Nat}(h:o=W9\/o=Y4) (s:Ie a f) (u:Ie b f) (Y:(L9 f 0 a).length<=100000) (lb:(L9 f 0 b).length<=100000):Ie (.mk o 0 0 [] [a,b]) (f+1):=by
 intro Z row G7 Q E C M;obtain⟨v,D0,rfl,q,-,p⟩:=M;obtain⟨B,off,sp,c,cells,r1,r2,rfl,l3,l4,s1,s2,x1,x2⟩:=Hl q p;have K:decide (o=[110,117,109])=false:=z4z (by rcases h with rfl|rfl<;>decide);have L:decide (o=[110,97,109,101])=false:=z4z (by rcases h with rfl|rfl<;>decide);have D:o≠T4/\o≠nmB:=by rcases h with rfl|rfl<;>decide
 have lo:o.length=3:=by rcases h with rfl|rfl<;>rfl
 have F:lvl o=2:=by rcases h with rfl|rfl<;>rfl
 have S:L9 (f+1) G7 (.mk o 0 0 [] [a,b])=par (decide (2<G7)) (o++40::(L9 f 0 a++44::32::(L9 f 0 b++[41]))):=by
  show par (decide (lvl o<G7)) (if _ then _ else _)=_;rw[z0z D.1,z0z D.2];dsimp only;rw[z1z h,F]
 rw[S];have iJ:=x1.len;have mr:=x2.len;have N:sub r1 0 5=some r1:=G3 om om;have O:sub r2 0 5=some r2:=G3 om om;obtain⟨R,g⟩:∃ R:List Value,[str o,.int .i64 0,.int .i64 0,str [],.slice (some ⟨B,off,sp⟩) 2 c]=R:=⟨_,rfl⟩
 have y:sub R 0 1=some [str o]:=by rw[<- g];rfl
 have q4:sub R 4 1=some [.slice (some ⟨B,off,sp⟩) 2 c]:=by rw[<- g];rfl
 have H:sub R 0 5=some R:=by rw[<- g];rfl
 have I:R.length=5:=by rw[<- g];rfl
 rw[g];have m:Ext Z (Z.new R):=eX;have W:=Bs m C E;have z0:(0:Int)=((0:Nat):Int):=rfl;obtain⟨A,G⟩:=nW (decide (o=[109,105,110]));obtain⟨b2,m2⟩:=nW (decide (o=[109,97,120]));have key:A=true\/b2=true:=by
  rcases h with rfl|rfl
  ·left;rw[<- G];rfl
  ·right;rw[<- m2];rfl
 refine G1 Tryz.func55 rfl rfl ?_;refine gS1 (aI H (aI I y)) ?_;refine Mh.mono ?_;rintro r rfl;rw[F];have l:decide ((2:Int)<(G7:Int))=decide (2<G7):=by rw[z7z,z3z,z3z];omega
 cases A
 case' false=>
  obtain rfl:b2=true:=by rcases key with h|h;cases h;exact h
 all_goals
  refine gS1 (aI H (aI I (aI y (aI q4 (aI K (aI L (aI G (aI m2 (aI l4 (aI s1 (aI s2 @Be))))))))))) ?_;refine(s (G7:=0) om W (by simp;omega) (x1.mono m)).mono ?_;rintro r ⟨J,rfl,e⟩;have V:=e.n;simp only[K9]at V;have d:=m.trans e;have U:J.row Z.n=some R:=eT (e.row (by simp)) cL;have c2:=eT (d.row l3) l4;refine gS1 (aI y (aI q4 (aI U (aI c2 s2)))) ?_;refine(u (G7:=0) om (Bs d C E) om (x2.mono d)).mono ?_;rintro r ⟨X,rfl,i⟩;refine gS1 (aI (asx e) (asx i)) ?_
  try refine dW1 (aI (asx e) (asx i)) ?_
  generalize L9 f 0 a=ta at *;generalize L9 f 0 b=tb at *;cases j:decide (2<G7)with
  | true=>
    have z:decide ((2:Int)<(G7:Int))=true:=by rw[l];exact j
    refine gS1 (aI j (aI l (aI z @Tryz.results55))) ?_;refine⟨_,?_,d.trans i⟩;rw[eo];simp
  | false=>
    have z:decide ((2:Int)<(G7:Int))=false:=by rw[l];exact j
    refine gS1 (aI j (aI l (aI z @Tryz.results55))) ?_;refine⟨_,?_,d.trans i⟩;rw[AB9];simp
def vF {k m:Nat}{e:Ex}(h:FW k m e):∀ g,k<=g->m<=1000->Ie e g:=by
 induction h with
 | @num n d h=>
   intro g f _;obtain⟨g,rfl⟩:∃ x,g=x+1:=⟨g-1,om⟩
   have l:=h.rq.d1;have q:=h.d6;have p:=h.rq.n2;have s:d<=1000000:=by
    obtain⟨D,rfl⟩:=KR (show 0<=d by omega);have c:((1000000 % D:Nat):Int)=0:=q;have:=Nat.le_of_dvd om (Nat.dvd_of_mod_eq_zero (Int.ofNat.inj c));omega
   exact @oK _ _ h om g
 | @name nm h l p=>
   intro g f _;obtain⟨g,rfl⟩:∃ x,g=x+1:=⟨g-1,om⟩
   exact @jS _ h g
 | @bin k j m i o a b h ha hb iha ihb=>
   intro g f r;obtain⟨g,rfl⟩:∃ x,g=x+1:=⟨g-1,om⟩
   exact @oV _ _ _ _ h (@iha g om om) (@ihb g om om) (fun w=>by have:=Df ha g w om;omega) (fun w=>by have:=Df hb g w om;omega)
 | @mm k j m i o a b h ha hb iha ihb=>
   intro g f r;obtain⟨g,rfl⟩:∃ x,g=x+1:=⟨g-1,om⟩
   exact @vE _ _ _ _ h (@iha g om om) (@ihb g om om) (by have:=Df ha g 0 om;omega) (by have:=Df hb g 0 om;omega)


section
variable {n d:Int}{p dp:Nat}{e:Ex}{op nm:By}{Z:St}{es:List Ex}
def ml (h: -1000000000000000000<=n/\n<=1000000000000000000):
  Ev (gO 137 [.int .i64 n] Z) (fun r=>r=⟨false,.int .u64 (n.natAbs:Int),Z⟩) ⟨⟩:=by
 have b:∀ m:Int,IntKind.u64.wrap m=m % 18446744073709551616:=fun m=>rfl;refine G1 Tryz.func137 rfl rfl ?_;cases c:decide (n<0)with
 | true=>
   have:=z6z c;have a:IntKind.u64.wrap (0-IntKind.u64.wrap n)=(n.natAbs:Int):=by rw[b,b];omega
   refine gS1 (aI c (aI a @Tryz.results137)) ?_;try exact⟨⟩
 | false=>
   have:=z9z c;have a:IntKind.u64.wrap n=(n.natAbs:Int):=by rw[b];omega
   refine gS1 (aI c (aI a @Tryz.results137)) ?_;try exact⟨⟩
def aL (g: -1000000000000000000<=n/\n<=1000000000000000000) (i:0<=d/\d<=1000000):Ev (gO 93 [.agg ⟨[.int .i64 n,.int .i64 d]⟩] Z) (fun r=>∃ Z',r=⟨false,.bool (Dk n d),Z'⟩/\Ext Z Z') ⟨⟩:=by
 unfold Dk;refine G1 Tryz.func93 rfl rfl ?_;cases c1:decide ((0:Int)<d)with
 | false=>
   rw[z4z (p:=1<=d) (by have:=z9z c1;omega),CZ];refine gS1 (aI c1 (a3N @H7 @I0 @Tryz.results93)) ?_;exact⟨_,rfl,eX⟩
 | true=>
   have a:1<=d:=by have:=z6z c1;omega
   rw[AK a,Bx];obtain⟨D,rfl⟩:=KR (show 0<=d by omega);have c:IntKind.u64.wrap (D:Int)=(D:Nat):=MK om om;refine gS1 c1 ?_;refine(ml g).mono ?_;rintro r rfl;have h:(Z.new [.int .i64 n,.int .i64 (D:Nat)]).row Z.n=some [.int .i64 n,.int .i64 (D:Nat)]:=cL;refine gS1 (aI h c) ?_;refine eE.mono ?_;rintro r rfl;have f:Nat.gcd n.natAbs D=Int.gcd n (D:Nat):=rfl;rw[f];have b:decide (((Int.gcd n (D:Nat):Nat):Int)=1)=decide (Int.gcd n (D:Nat)=1):=ML (m:=1);refine gS1 (aI b @asR) ?_
   try refine T3.intro (by(repeat first|simp(disch:=omega) only[N7,Q9,N1,asx (Ext.refl _),b,c]|rw[U0 (by kernel_rfl)]);first|done|rfl) ?_
   try(refine gS1 (aI b @Tryz.results93) ?_;try exact⟨⟩)
   exact⟨_,rfl,eX⟩
def rfB (e:Ex) (dp p:Nat):Bool:=GU e&&decide (CF e<=dp)&&decide (p+R0 e<=60)
def aM:1<=CF e:=by cases e;rw[Dx];omega
def mn:rfB e 0 p=false:=by
 unfold rfB;have:=aM (e:=e);rw[z4z (p:=CF e<=0) om,LO,CZ]
def mo (h:60<p+1):rfB e dp p=false:=by
 unfold rfB;have:=Pm (e:=e);rw[z4z (p:=p+R0 e<=60) om,LO]
def U6 (h:Au op n d nm es.length=false):rfB (.mk op n d nm es) dp p=false:=by
 unfold rfB;rw[Cv,h,CZ,CZ,CZ]
def Wf (h:Au op n d nm es.length=true) (a:es.length=0) (b:1<=dp) (c:p+1<=60):rfB (.mk op n d nm es) dp p=true/\R0 (.mk op n d nm es)=1:=by
 obtain rfl:=NV a;refine⟨?_,by rw[O5,O6]⟩;unfold rfB;rw[Cv,h,Bb,Dx,CG,O5,O6,dT,dT];rfl
def uX {a b:Ex}(h:Au op n d nm 2=true):rfB (.mk op n d nm [a,b]) (dp+1) p=(rfB a dp (p+1)&&rfB b dp (p+1+R0 a)):=by
 unfold rfB;rw[Cv,show([a,b]:List Ex).length=2 from rfl,h,AF,AF,Bb,Dx,CB,CB,CG,O5,N3,N3,O6];have:=Pm (e:=b);rw[z7z];simp only[T1,Ej,Bx,and_true];constructor
 ·rintro⟨⟨⟨c,f⟩,g⟩,i⟩;exact⟨⟨⟨c,om⟩,om⟩,⟨f,om⟩,om⟩
 ·rintro⟨⟨⟨c,g⟩,i⟩,⟨f,j⟩,l⟩;exact⟨⟨⟨c,f⟩,om⟩,om⟩
def RfG (e:Ex):Prop:=∀ {Z0 Z:St}{row:List Value}{p dp cb:Nat},Aq Z0 row e->Ext Z0 Z->Z0.n<=cb->cb<Z.n->Z.B8 cb=some [.int .i64 (p:Nat)]->dp<=12->p<=60 ->
 Ev (gO 54 [.agg ⟨row⟩,.int .i64 (dp:Nat),.pointer (some ⟨cb,0,none⟩)] Z) (fun r=>∃ Z',r=⟨false,.bool (rfB e dp p),Z'⟩/\G5 cb Z Z'/\(rfB e dp p=true->Z'.B8 cb=some [.int .i64 (p+R0 e:Nat)])) ⟨⟩
def AG1:∀ (s:Nat){w:Nat}{e:Ex},SizeOf.sizeOf e<s->WfE w e->w<=4->RfG e:=by
 intro s;induction s with
 |zero=>intro w e hs;omega
 | succ s ih=>
   intro w e hs hw c5 Z0 Z row p dp cb he b9 c4 d6 z hd hp;obtain⟨o,n,d,nm,es⟩:=e;obtain⟨v,D0,rfl,h1,-,h2⟩:=he;obtain⟨a,c,B,off,cells,rfl,s1,s2⟩:=BH.slice h1 h2;obtain⟨k1,k2,k3,k4,k5,k6⟩:=BK.1 hw;obtain⟨k,hk⟩:=nW es.length;rw[hk];have F:=C1 z;have d7:cb≠Z.n:=om;have c2:Ext Z (Z.new [str o,.int .i64 n,.int .i64 d,str nm,.slice a k c]):=eX;obtain⟨R,hR⟩:∃ R:List Value,[str o,.int .i64 n,.int .i64 d,str nm,.slice a k c]=R:=⟨_,rfl⟩
   have C:sub R 0 1=some [str o]:=by rw[<- hR];rfl
   have q1:sub R 1 2=some [.int .i64 n,.int .i64 d]:=by rw[<- hR];rfl
   have a0:sub R 1 1=some [.int .i64 n]:=by rw[<- hR];rfl
   have a7:sub R 2 1=some [.int .i64 d]:=by rw[<- hR];rfl
   have q3:sub R 3 1=some [str nm]:=by rw[<- hR];rfl
   have q4:sub R 4 1=some [.slice a k c]:=by rw[<- hR];rfl
   have D:sub R 0 5=some R:=by rw[<- hR];rfl
   have E:R.length=5:=by rw[<- hR];rfl
   have b7:decide ((k:Int)=0)=decide (k=0):=ML (m:=0);have g:decide ((k:Int)=2)=decide (k=2):=ML (m:=2);rw[hR];rw[hR]at c2;obtain⟨S,J⟩:=nW ((Z.new R).upd cb [.int .i64 ((p+1:Nat):Int)]);have X:G5 cb Z S:=by rw[<- J];exact(G5.of c2).upd _
   have oS:S.B8 cb=some [.int .i64 (p+1:Nat)]:=by rw[<- J];exact cL
   have nS:S.n=Z.n+1:=by rw[<- J];rfl
   have W:S.row Z.n=some R:=by rw[<- J];exact cL
   have ES:Ext Z0 S:=X.ext b9 c4;have no:∀ {τ:St}{b:Bool},G5 cb Z τ->b=false->∃ Z',(⟨false,.bool false,τ⟩:CR)=⟨false,.bool b,Z'⟩/\G5 cb Z Z'/\(b=true->Z'.B8 cb=some [.int .i64 (p+R0 (.mk o n d nm es):Nat)]):=fun{τ b} h hb=>by
    subst hb;exact⟨_,rfl,h,fun h=>by cases h⟩
   refine G1 Tryz.func54 rfl rfl ?_;cases u:decide ((dp:Int)=0)with
   | true=>
     obtain rfl:dp=0:=by have:=z6z u;omega
     refine gS1 (aI D (aI E (aI C (aI F (aI z (aI u (a3N @H7 @I0 @Tryz.results54))))))) ?_;rw[J];exact no X mn
   |false=>
   have c3:1<=dp:=by have:=z9z u;omega
   cases c1:decide ((60:Int)<((p+1:Nat):Int))with
   | true=>
     refine gS1 (aI D (aI E (aI C (aI F (aI z (aI u (aI c1 (a3N @H7 @I0 @Tryz.results54)))))))) ?_;rw[J];exact no X (mo (by have:=z6z c1;omega))
   |false=>
   have p1:p+1<=60:=by have:=z9z c1;omega
   cases A:decide (o=[110,117,109])with
   | true=>
     obtain rfl:o=[110,117,109]:=z6z A;have fq:∀ b,(Dk n d&&decide (0<=n)&&decide ((1000000:Int) % d=0)&&decide (n<=1000000000*d)&&decide (nm=[])&&decide (k=0))=b->Au [110,117,109] n d nm es.length=b:=fun b h=>by rw[hk];exact Eq.trans TG h
     refine gS1 (aI D (aI E (aI C (aI q1 (aI a0 (aI a7 (aI q3 (aI q4 (aI F (aI z (aI u (aI c1 A)))))))))))) ?_;rw[J];refine(aL (n:=n) (d:=d) ⟨om,om⟩ k4).mono ?_;rintro r ⟨Z2,rfl,b0⟩;have n2:=b0.n;have w1:=eT (b0.row om) W;have G:G5 cb Z Z2:=X.trans (.of b0);have o2:=eT (b0.B8 om) oS;cases i:Dk n d
     ·refine gS1 (aI w1 (aI q1 (aI a0 (aI a7 (aI q3 (aI q4 (a3N @H7 @I0 @Tryz.results54))))))) ?_;exact no G (U6 (fq _ (by rw[i];rfl)))
     have d5:1<=d:=by unfold Dk at i;simp only[T1,Ej]at i;exact i.1
     have z0:decide (d=0)=false:=dF;cases l:decide (n<0)
     case true=>
      have U:decide (0<=n)=false:=z4z (by have:=z6z l;omega);refine gS1 (aI w1 (aI q1 (aI a0 (aI a7 (aI q3 (aI q4 (aI l (aI z0 (a3N @H7 @I0 @Tryz.results54))))))))) ?_;exact no G (U6 (fq _ (by rw[i,U];rfl)))
     have c8:0<=n:=by have:=z9z l;omega
     have U:decide (0<=n)=true:=AK c8;have hm:(1000000:Int).tmod d=1000000 % d:=mq om;cases Y:decide ((1000000:Int) % d=0)
     ·refine gS1 (aI w1 (aI q1 (aI a0 (aI a7 (aI q3 (aI q4 (aI l (aI z0 (aI hm (aI Y (a3N @H7 @I0 @Tryz.results54))))))))))) ?_;exact no G (U6 (fq _ (by rw[i,U,Y];rfl)))
     cases b4:decide (1000000000*d<n)
     case true=>
      have a9:decide (n<=1000000000*d)=false:=z4z (by have:=z6z b4;omega);refine gS1 (aI w1 (aI q1 (aI a0 (aI a7 (aI q3 (aI q4 (aI l (aI z0 (aI hm (aI Y (aI b4 (a3N @H7 @I0 @Tryz.results54)))))))))))) ?_;exact no G (U6 (fq _ (by rw[i,U,Y,a9];rfl)))
     have a9:decide (n<=1000000000*d)=true:=AK (by have:=z9z b4;omega);cases b5:decide (nm=[])
     ·refine gS1 (aI w1 (aI q1 (aI a0 (aI a7 (aI q3 (aI q4 (aI l (aI z0 (aI hm (aI Y (aI b4 (aI b5 (a3N @H7 @I0 @Tryz.results54))))))))))))) ?_;exact no G (U6 (fq _ (by rw[i,U,Y,a9,b5];rfl)))
     cases b6:decide (k=0)
     ·refine gS1 (aI w1 (aI q1 (aI a0 (aI a7 (aI q3 (aI q4 (aI l (aI z0 (aI hm (aI Y (aI b4 (aI b5 (aI b7 (aI b6 (a3N @H7 @I0 @Tryz.results54))))))))))))))) ?_;exact no G (U6 (fq _ (by rw[i,U,Y,a9,b5,b6];rfl)))
     ·obtain⟨l1,l2⟩:=Wf (p:=p) (fq true (by rw[i,U,Y,a9,b5,b6];rfl)) (by rw[hk];exact z6z b6) c3 p1;rw[l1,l2];refine gS1 (aI w1 (aI q1 (aI a0 (aI a7 (aI q3 (aI q4 (aI l (aI z0 (aI hm (aI Y (aI b4 (aI b5 (aI b7 (aI b6 (a3N @H7 @I0 @Tryz.results54))))))))))))))) ?_;exact⟨_,rfl,G,fun _=>o2⟩
   |false=>
   have o1:o≠T4:=z9z A;cases H:decide (o=[110,97,109,101])with
   | true=>
     obtain rfl:o=[110,97,109,101]:=z6z H;have fq:∀ b,(W0 nm&& !decide (nm=W9)&& !decide (nm=Y4)&&(decide (n=0)&&decide (d=0))&&decide (k=0))=b->Au [110,97,109,101] n d nm es.length=b:=fun b h=>by rw[hk];exact Eq.trans Pn h
     refine gS1 (aI D (aI E (aI C (aI q1 (aI q3 (aI q4 (aI F (aI z (aI u (aI c1 (aI A H))))))))))) ?_;rw[J];refine(HY om).mono ?_;rintro r rfl;have G:=X;cases i:W0 nm
     ·refine gS1 (aI W (aI q1 (aI q3 (aI q4 (a3N @H7 @I0 @Tryz.results54))))) ?_;exact no G (U6 (fq _ (by rw[i];rfl)))
     cases l:decide (nm=[109,105,110])
     case true=>
      refine gS1 (aI W (aI q1 (aI q3 (aI q4 (aI l (a3N @H7 @I0 @Tryz.results54)))))) ?_;exact no G (U6 (fq _ (by rw[i,show decide (nm=W9)=true from l];rfl)))
     have U:decide (nm=W9)=false:=l;cases Y:decide (nm=[109,97,120])
     case true=>
      refine gS1 (aI W (aI q1 (aI q3 (aI q4 (aI l (aI Y (a3N @H7 @I0 @Tryz.results54))))))) ?_;exact no G (U6 (fq _ (by rw[i,U,show decide (nm=Y4)=true from Y];rfl)))
     have b8:decide (nm=Y4)=false:=Y;cases b4:(decide (n=0)&&decide (d=0))
     ·refine gS1 (aI W (aI q1 (aI q3 (aI q4 (aI l (aI Y (aI @I1 (aI b4 (a3N @H7 @I0 @Tryz.results54))))))))) ?_;exact no G (U6 (fq _ (by rw[i,U,b8,b4];rfl)))
     cases b5:decide (k=0)
     ·refine gS1 (aI W (aI q1 (aI q3 (aI q4 (aI l (aI Y (aI @I1 (aI b4 (aI b7 (aI b5 (a3N @H7 @I0 @Tryz.results54))))))))))) ?_;exact no G (U6 (fq _ (by rw[i,U,b8,b4,b5];rfl)))
     ·obtain⟨l1,l2⟩:=Wf (p:=p) (fq true (by rw[i,U,b8,b4,b5];rfl)) (by rw[hk];exact z6z b5) c3 p1;rw[l1,l2];refine gS1 (aI W (aI q1 (aI q3 (aI q4 (aI l (aI Y (aI @I1 (aI b4 (aI b7 (aI b5 (a3N @H7 @I0 @Tryz.results54))))))))))) ?_;exact⟨_,rfl,G,fun _=>oS⟩
   |false=>
   have o2:o≠nmB:=z9z H;have G:=X;cases I:decide (k=2)with
   | false=>
     cases j:decide (o=[43])
     case true=>
      have f:o=[43]\/o=[45]\/o=[42]\/o=[47]\/o=W9\/o=Y4:=(.inl (z6z j))
      refine gS1 (aI D (aI E (aI C (aI q1 (aI q3 (aI q4 (aI F (aI z (aI u (aI c1 (aI A (aI H (aI @I1 (aI g (aI I (aI j (a3N @H7 @I0 @Tryz.results54))))))))))))))))) ?_;rw[J];exact no G (U6 (by rw[P6 f,hk,I,LO]))
     cases q:decide (o=[45])
     case true=>
      have f:o=[43]\/o=[45]\/o=[42]\/o=[47]\/o=W9\/o=Y4:=(.inr (.inl (z6z q)))
      refine gS1 (aI D (aI E (aI C (aI q1 (aI q3 (aI q4 (aI F (aI z (aI u (aI c1 (aI A (aI H (aI @I1 (aI g (aI I (aI j (aI q (a3N @H7 @I0 @Tryz.results54)))))))))))))))))) ?_;rw[J];exact no G (U6 (by rw[P6 f,hk,I,LO]))
     cases K:decide (o=[42])
     case true=>
      have f:o=[43]\/o=[45]\/o=[42]\/o=[47]\/o=W9\/o=Y4:=(.inr (.inr (.inl (z6z K))))
      refine gS1 (aI D (aI E (aI C (aI q1 (aI q3 (aI q4 (aI F (aI z (aI u (aI c1 (aI A (aI H (aI @I1 (aI g (aI I (aI j (aI q (aI K (a3N @H7 @I0 @Tryz.results54))))))))))))))))))) ?_;rw[J];exact no G (U6 (by rw[P6 f,hk,I,LO]))
     cases L:decide (o=[47])
     case true=>
      have f:o=[43]\/o=[45]\/o=[42]\/o=[47]\/o=W9\/o=Y4:=(.inr (.inr (.inr (.inl (z6z L)))))
      refine gS1 (aI D (aI E (aI C (aI q1 (aI q3 (aI q4 (aI F (aI z (aI u (aI c1 (aI A (aI H (aI @I1 (aI g (aI I (aI j (aI q (aI K (aI L (a3N @H7 @I0 @Tryz.results54)))))))))))))))))))) ?_;rw[J];exact no G (U6 (by rw[P6 f,hk,I,LO]))
     cases Q:decide (o=[109,105,110])
     case true=>
      have f:o=[43]\/o=[45]\/o=[42]\/o=[47]\/o=W9\/o=Y4:=(.inr (.inr (.inr (.inr (.inl (z6z Q))))))
      refine gS1 (aI D (aI E (aI C (aI q1 (aI q3 (aI q4 (aI F (aI z (aI u (aI c1 (aI A (aI H (aI @I1 (aI g (aI I (aI j (aI q (aI K (aI L (aI Q (a3N @H7 @I0 @Tryz.results54))))))))))))))))))))) ?_;rw[J];exact no G (U6 (by rw[P6 f,hk,I,LO]))
     cases V:decide (o=[109,97,120])
     case true=>
      have f:o=[43]\/o=[45]\/o=[42]\/o=[47]\/o=W9\/o=Y4:=(.inr (.inr (.inr (.inr (.inr (z6z V))))))
      refine gS1 (aI D (aI E (aI C (aI q1 (aI q3 (aI q4 (aI F (aI z (aI u (aI c1 (aI A (aI H (aI @I1 (aI g (aI I (aI j (aI q (aI K (aI L (aI Q (aI V (a3N @H7 @I0 @Tryz.results54)))))))))))))))))))))) ?_;rw[J];exact no G (U6 (by rw[P6 f,hk,I,LO]))
     refine gS1 (aI D (aI E (aI C (aI q1 (aI q3 (aI q4 (aI F (aI z (aI u (aI c1 (aI A (aI H (aI @I1 (aI j (aI q (aI K (aI L (aI Q (aI V (a3N @H7 @I0 @Tryz.results54)))))))))))))))))))) ?_;rw[J];exact no G (U6 (JI o1 o2 (by
      rintro(h|h|h|h|h|h)
      ·exact z9z j h
      ·exact z9z q h
      ·exact z9z K h
      ·exact z9z L h
      ·exact z9z Q h
      ·exact z9z V h)))
   |true=>
   obtain rfl:k=2:=z6z I;cases i:(decide (n=0)&&decide (d=0))with
   | false=>
     cases j:decide (o=[43])
     case true=>
      have f:o=[43]\/o=[45]\/o=[42]\/o=[47]\/o=W9\/o=Y4:=(.inl (z6z j))
      refine gS1 (aI D (aI E (aI C (aI q1 (aI q3 (aI q4 (aI F (aI z (aI u (aI c1 (aI A (aI H (aI @I1 (aI g (aI I (aI i (aI j (a3N @H7 @I0 @Tryz.results54)))))))))))))))))) ?_;rw[J];exact no G (U6 (by rw[P6 f,i];rfl))
     cases q:decide (o=[45])
     case true=>
      have f:o=[43]\/o=[45]\/o=[42]\/o=[47]\/o=W9\/o=Y4:=(.inr (.inl (z6z q)))
      refine gS1 (aI D (aI E (aI C (aI q1 (aI q3 (aI q4 (aI F (aI z (aI u (aI c1 (aI A (aI H (aI @I1 (aI g (aI I (aI i (aI j (aI q (a3N @H7 @I0 @Tryz.results54))))))))))))))))))) ?_;rw[J];exact no G (U6 (by rw[P6 f,i];rfl))
     cases K:decide (o=[42])
     case true=>
      have f:o=[43]\/o=[45]\/o=[42]\/o=[47]\/o=W9\/o=Y4:=(.inr (.inr (.inl (z6z K))))
      refine gS1 (aI D (aI E (aI C (aI q1 (aI q3 (aI q4 (aI F (aI z (aI u (aI c1 (aI A (aI H (aI @I1 (aI g (aI I (aI i (aI j (aI q (aI K (a3N @H7 @I0 @Tryz.results54)))))))))))))))))))) ?_;rw[J];exact no G (U6 (by rw[P6 f,i];rfl))
     cases L:decide (o=[47])
     case true=>
      have f:o=[43]\/o=[45]\/o=[42]\/o=[47]\/o=W9\/o=Y4:=(.inr (.inr (.inr (.inl (z6z L)))))
      refine gS1 (aI D (aI E (aI C (aI q1 (aI q3 (aI q4 (aI F (aI z (aI u (aI c1 (aI A (aI H (aI @I1 (aI g (aI I (aI i (aI j (aI q (aI K (aI L (a3N @H7 @I0 @Tryz.results54))))))))))))))))))))) ?_;rw[J];exact no G (U6 (by rw[P6 f,i];rfl))
     cases Q:decide (o=[109,105,110])
     case true=>
      have f:o=[43]\/o=[45]\/o=[42]\/o=[47]\/o=W9\/o=Y4:=(.inr (.inr (.inr (.inr (.inl (z6z Q))))))
      refine gS1 (aI D (aI E (aI C (aI q1 (aI q3 (aI q4 (aI F (aI z (aI u (aI c1 (aI A (aI H (aI @I1 (aI g (aI I (aI i (aI j (aI q (aI K (aI L (aI Q (a3N @H7 @I0 @Tryz.results54)))))))))))))))))))))) ?_;rw[J];exact no G (U6 (by rw[P6 f,i];rfl))
     cases V:decide (o=[109,97,120])
     case true=>
      have f:o=[43]\/o=[45]\/o=[42]\/o=[47]\/o=W9\/o=Y4:=(.inr (.inr (.inr (.inr (.inr (z6z V))))))
      refine gS1 (aI D (aI E (aI C (aI q1 (aI q3 (aI q4 (aI F (aI z (aI u (aI c1 (aI A (aI H (aI @I1 (aI g (aI I (aI i (aI j (aI q (aI K (aI L (aI Q (aI V (a3N @H7 @I0 @Tryz.results54))))))))))))))))))))))) ?_;rw[J];exact no G (U6 (by rw[P6 f,i];rfl))
     refine gS1 (aI D (aI E (aI C (aI q1 (aI q3 (aI q4 (aI F (aI z (aI u (aI c1 (aI A (aI H (aI @I1 (aI j (aI q (aI K (aI L (aI Q (aI V (a3N @H7 @I0 @Tryz.results54)))))))))))))))))))) ?_;rw[J];exact no G (U6 (JI o1 o2 (by
      rintro(h|h|h|h|h|h)
      ·exact z9z j h
      ·exact z9z q h
      ·exact z9z K h
      ·exact z9z L h
      ·exact z9z Q h
      ·exact z9z V h)))
   |true=>
   cases l:decide (nm=[])with
   | false=>
     cases j:decide (o=[43])
     case true=>
      have f:o=[43]\/o=[45]\/o=[42]\/o=[47]\/o=W9\/o=Y4:=(.inl (z6z j))
      refine gS1 (aI D (aI E (aI C (aI q1 (aI q3 (aI q4 (aI F (aI z (aI u (aI c1 (aI A (aI H (aI @I1 (aI g (aI I (aI i (aI l (aI j (a3N @H7 @I0 @Tryz.results54))))))))))))))))))) ?_;rw[J];exact no G (U6 (by rw[P6 f,i,l];rfl))
     cases q:decide (o=[45])
     case true=>
      have f:o=[43]\/o=[45]\/o=[42]\/o=[47]\/o=W9\/o=Y4:=(.inr (.inl (z6z q)))
      refine gS1 (aI D (aI E (aI C (aI q1 (aI q3 (aI q4 (aI F (aI z (aI u (aI c1 (aI A (aI H (aI @I1 (aI g (aI I (aI i (aI l (aI j (aI q (a3N @H7 @I0 @Tryz.results54)))))))))))))))))))) ?_;rw[J];exact no G (U6 (by rw[P6 f,i,l];rfl))
     cases K:decide (o=[42])
     case true=>
      have f:o=[43]\/o=[45]\/o=[42]\/o=[47]\/o=W9\/o=Y4:=(.inr (.inr (.inl (z6z K))))
      refine gS1 (aI D (aI E (aI C (aI q1 (aI q3 (aI q4 (aI F (aI z (aI u (aI c1 (aI A (aI H (aI @I1 (aI g (aI I (aI i (aI l (aI j (aI q (aI K (a3N @H7 @I0 @Tryz.results54))))))))))))))))))))) ?_;rw[J];exact no G (U6 (by rw[P6 f,i,l];rfl))
     cases L:decide (o=[47])
     case true=>
      have f:o=[43]\/o=[45]\/o=[42]\/o=[47]\/o=W9\/o=Y4:=(.inr (.inr (.inr (.inl (z6z L)))))
      refine gS1 (aI D (aI E (aI C (aI q1 (aI q3 (aI q4 (aI F (aI z (aI u (aI c1 (aI A (aI H (aI @I1 (aI g (aI I (aI i (aI l (aI j (aI q (aI K (aI L (a3N @H7 @I0 @Tryz.results54)))))))))))))))))))))) ?_;rw[J];exact no G (U6 (by rw[P6 f,i,l];rfl))
     cases Q:decide (o=[109,105,110])
     case true=>
      have f:o=[43]\/o=[45]\/o=[42]\/o=[47]\/o=W9\/o=Y4:=(.inr (.inr (.inr (.inr (.inl (z6z Q))))))
      refine gS1 (aI D (aI E (aI C (aI q1 (aI q3 (aI q4 (aI F (aI z (aI u (aI c1 (aI A (aI H (aI @I1 (aI g (aI I (aI i (aI l (aI j (aI q (aI K (aI L (aI Q (a3N @H7 @I0 @Tryz.results54))))))))))))))))))))))) ?_;rw[J];exact no G (U6 (by rw[P6 f,i,l];rfl))
     cases V:decide (o=[109,97,120])
     case true=>
      have f:o=[43]\/o=[45]\/o=[42]\/o=[47]\/o=W9\/o=Y4:=(.inr (.inr (.inr (.inr (.inr (z6z V))))))
      refine gS1 (aI D (aI E (aI C (aI q1 (aI q3 (aI q4 (aI F (aI z (aI u (aI c1 (aI A (aI H (aI @I1 (aI g (aI I (aI i (aI l (aI j (aI q (aI K (aI L (aI Q (aI V (a3N @H7 @I0 @Tryz.results54)))))))))))))))))))))))) ?_;rw[J];exact no G (U6 (by rw[P6 f,i,l];rfl))
     refine gS1 (aI D (aI E (aI C (aI q1 (aI q3 (aI q4 (aI F (aI z (aI u (aI c1 (aI A (aI H (aI @I1 (aI j (aI q (aI K (aI L (aI Q (aI V (a3N @H7 @I0 @Tryz.results54)))))))))))))))))))) ?_;rw[J];exact no G (U6 (JI o1 o2 (by
      rintro(h|h|h|h|h|h)
      ·exact z9z j h
      ·exact z9z q h
      ·exact z9z K h
      ·exact z9z L h
      ·exact z9z Q h
      ·exact z9z V h)))
   |true=>
   obtain⟨x,y,rfl⟩:∃ x y,es=[x,y]:=by
    match es,hk with
    | [x,y],_=>exact⟨x,y,rfl⟩
   obtain⟨r1,t1,x1⟩:=s2 0 x rfl;obtain⟨r2,t2,x2⟩:=s2 1 y rfl;obtain⟨sp,rfl,l3,l4⟩:=s1 (by simp);rw[GV,Be]at t1;rw[SW]at t2;obtain⟨dp,rfl⟩:∃ x,dp=x+1:=⟨dp-1,om⟩
   have iJ:=x1.len;have mr:=x2.len;have M:sub r1 0 5=some r1:=G3 om om;have N:sub r2 0 5=some r2:=G3 om om;have d3:B<Z.n:=z5z l3 b9.n;have hB:B≠cb:=om;have lB:=eT (b9.row l3) l4;have O:=eT (X.row d3 hB) lB;have e1:((dp+1:Nat):Int)-1=(dp:Nat):=om;have wx:=WfL.get (k:=0) k6 rfl;have wy:=WfL.get (k:=1) k6 rfl;have sx:SizeOf.sizeOf x<s:=by simp at hs;omega
   have sy:SizeOf.sizeOf y<s:=by simp at hs;omega
   have c9:RfG x:=@ih _ _ sx wx c5;have d0:RfG y:=@ih _ _ sy wy c5;cases j:decide (o=[43])
   case' true=>
    have f:o=[43]\/o=[45]\/o=[42]\/o=[47]\/o=W9\/o=Y4:=(.inl (z6z j))
    refine gS1 (aI D (aI E (aI C (aI q1 (aI q3 (aI q4 (aI F (aI z (aI u (aI c1 (aI A (aI H (aI @I1 (aI W (aI lB (aI O (aI t1 (aI t2 (aI M (aI N (aI e1 (aI g (aI I (aI i (aI l (aI @Be j)))))))))))))))))))))))))) ?_;rw[J]
    try(refine gS1 (aI D (aI E (aI C (aI q1 (aI q3 (aI q4 (aI F (aI z (aI u (aI c1 (aI A (aI H (aI @I1 (aI W (aI lB (aI O (aI t1 (aI t2 (aI M (aI N (aI e1 (aI g (aI I (aI i (aI l (aI @Be j)))))))))))))))))))))))))) ?_;try exact⟨⟩)
   case' false=>
    cases q:decide (o=[45])
    case' true=>
     have f:o=[43]\/o=[45]\/o=[42]\/o=[47]\/o=W9\/o=Y4:=(.inr (.inl (z6z q)))
     refine gS1 (aI D (aI E (aI C (aI q1 (aI q3 (aI q4 (aI F (aI z (aI u (aI c1 (aI A (aI H (aI @I1 (aI W (aI lB (aI O (aI t1 (aI t2 (aI M (aI N (aI e1 (aI g (aI I (aI i (aI l (aI @Be (aI j q))))))))))))))))))))))))))) ?_;rw[J]
     try(refine gS1 (aI D (aI E (aI C (aI q1 (aI q3 (aI q4 (aI F (aI z (aI u (aI c1 (aI A (aI H (aI @I1 (aI W (aI lB (aI O (aI t1 (aI t2 (aI M (aI N (aI e1 (aI g (aI I (aI i (aI l (aI @Be (aI j q))))))))))))))))))))))))))) ?_;try exact⟨⟩)
    case' false=>
     cases K:decide (o=[42])
     case' true=>
      have f:o=[43]\/o=[45]\/o=[42]\/o=[47]\/o=W9\/o=Y4:=(.inr (.inr (.inl (z6z K))))
      refine gS1 (aI D (aI E (aI C (aI q1 (aI q3 (aI q4 (aI F (aI z (aI u (aI c1 (aI A (aI H (aI @I1 (aI W (aI lB (aI O (aI t1 (aI t2 (aI M (aI N (aI e1 (aI g (aI I (aI i (aI l (aI @Be (aI j (aI q K)))))))))))))))))))))))))))) ?_;rw[J]
      try(refine gS1 (aI D (aI E (aI C (aI q1 (aI q3 (aI q4 (aI F (aI z (aI u (aI c1 (aI A (aI H (aI @I1 (aI W (aI lB (aI O (aI t1 (aI t2 (aI M (aI N (aI e1 (aI g (aI I (aI i (aI l (aI @Be (aI j (aI q K)))))))))))))))))))))))))))) ?_;try exact⟨⟩)
     case' false=>
      cases L:decide (o=[47])
      case' true=>
       have f:o=[43]\/o=[45]\/o=[42]\/o=[47]\/o=W9\/o=Y4:=(.inr (.inr (.inr (.inl (z6z L)))))
       refine gS1 (aI D (aI E (aI C (aI q1 (aI q3 (aI q4 (aI F (aI z (aI u (aI c1 (aI A (aI H (aI @I1 (aI W (aI lB (aI O (aI t1 (aI t2 (aI M (aI N (aI e1 (aI g (aI I (aI i (aI l (aI @Be (aI j (aI q (aI K L))))))))))))))))))))))))))))) ?_;rw[J]
       try(refine gS1 (aI D (aI E (aI C (aI q1 (aI q3 (aI q4 (aI F (aI z (aI u (aI c1 (aI A (aI H (aI @I1 (aI W (aI lB (aI O (aI t1 (aI t2 (aI M (aI N (aI e1 (aI g (aI I (aI i (aI l (aI @Be (aI j (aI q (aI K L))))))))))))))))))))))))))))) ?_;try exact⟨⟩)
      case' false=>
       cases Q:decide (o=[109,105,110])
       case' true=>
        have f:o=[43]\/o=[45]\/o=[42]\/o=[47]\/o=W9\/o=Y4:=(.inr (.inr (.inr (.inr (.inl (z6z Q))))))
        refine gS1 (aI D (aI E (aI C (aI q1 (aI q3 (aI q4 (aI F (aI z (aI u (aI c1 (aI A (aI H (aI @I1 (aI W (aI lB (aI O (aI t1 (aI t2 (aI M (aI N (aI e1 (aI g (aI I (aI i (aI l (aI @Be (aI j (aI q (aI K (aI L Q)))))))))))))))))))))))))))))) ?_;rw[J]
        try(refine gS1 (aI D (aI E (aI C (aI q1 (aI q3 (aI q4 (aI F (aI z (aI u (aI c1 (aI A (aI H (aI @I1 (aI W (aI lB (aI O (aI t1 (aI t2 (aI M (aI N (aI e1 (aI g (aI I (aI i (aI l (aI @Be (aI j (aI q (aI K (aI L Q)))))))))))))))))))))))))))))) ?_;try exact⟨⟩)
       case' false=>
        cases V:decide (o=[109,97,120])
        case' true=>
         have f:o=[43]\/o=[45]\/o=[42]\/o=[47]\/o=W9\/o=Y4:=(.inr (.inr (.inr (.inr (.inr (z6z V))))))
         refine gS1 (aI D (aI E (aI C (aI q1 (aI q3 (aI q4 (aI F (aI z (aI u (aI c1 (aI A (aI H (aI @I1 (aI W (aI lB (aI O (aI t1 (aI t2 (aI M (aI N (aI e1 (aI g (aI I (aI i (aI l (aI @Be (aI j (aI q (aI K (aI L (aI Q V))))))))))))))))))))))))))))))) ?_;rw[J]
         try(refine gS1 (aI D (aI E (aI C (aI q1 (aI q3 (aI q4 (aI F (aI z (aI u (aI c1 (aI A (aI H (aI @I1 (aI W (aI lB (aI O (aI t1 (aI t2 (aI M (aI N (aI e1 (aI g (aI I (aI i (aI l (aI @Be (aI j (aI q (aI K (aI L (aI Q V))))))))))))))))))))))))))))))) ?_;try exact⟨⟩)
        case' false=>
         exact(by
          refine gS1 (aI D (aI E (aI C (aI q1 (aI q3 (aI q4 (aI F (aI z (aI u (aI c1 (aI A (aI H (aI @I1 (aI j (aI q (aI K (aI L (aI Q (aI V (a3N @H7 @I0 @Tryz.results54)))))))))))))))))))) ?_;rw[J];exact no G (U6 (JI o1 o2 (by
           rintro(h|h|h|h|h|h)
           ·exact z9z j h
           ·exact z9z q h
           ·exact z9z K h
           ·exact z9z L h
           ·exact z9z Q h
           ·exact z9z V h))))
   all_goals
    have c6:Au o n d nm 2=true:=by rw[P6 f,i,l];rfl
    rw[uX c6];refine(@c9 _ _ _ (p+1) dp _ x1 ES om om oS om om).mono ?_;rintro r ⟨Z2,rfl,a8,o2⟩;have n2:=a8.n;have w2:=eT (a8.row om om) W;have d4:=eT (a8.row om hB) O;cases bx:rfB x dp (p+1)
    ·refine gS1 (a3N @H7 @I0 @Tryz.results54) ?_;exact⟨_,rfl,X.trans a8,fun h=>by cases h⟩
    ·have p2:p+1+R0 x<=60:=by unfold rfB at bx;simp only[T1,Ej]at bx;exact bx.2
     refine gS1 (aI q1 (aI q3 (aI q4 (aI w2 (aI d4 (aI t1 (aI t2 (aI M (aI N (aI e1 (a3N @H7 @I0 @Be))))))))))) ?_;refine(@d0 _ _ _ (p+1+R0 x) dp _ x2 (a8.ext ES c4) om om (o2 bx) om p2).mono ?_;rintro r ⟨Z3,rfl,c7,o3⟩;refine gS1 @Tryz.results54 ?_;refine⟨_,rfl,X.trans (a8.trans c7),fun h=>?_⟩;rw[o3 h,O5,N3,N3,O6];congr 4;omega
end
def mJ {e:Ex}:rfB e 12 0=EM e:=by
 unfold rfB EM;rw[Eo,Bool.and_right_comm]
def lN {Z:St}{w:Nat}{e:Ex}{row:List Value}(u:WfE w e) (g:w<=4) (f:Aq Z row e) (q:Z.read 1 0 20=some T7) (l:1<Z.n) :
  Ev (gO 27 [.agg ⟨row⟩] Z) (fun r=>∃ Z',r=⟨false,str (if EM e=true then L9 12 0 e else[]),Z'⟩/\Ext Z Z') ⟨⟩:=by
 have a:=f.len;have b:sub row 0 5=some row:=G3 om om;refine G1 Tryz.func27 rfl rfl ?_;refine gS1 (aI b a) ?_;have y:Ext Z (Z.new row):=eX;have h:Ext Z (((Z.new row).new [.int .i64 0] (some 3)).upd (Z.n+1) [.int .i64 0]):=eX;refine(AG1 _ (JQ _) u g (Z0:=Z) (p:=0) (dp:=12) f h om (by simp) (cL) om om).mono ?_;rintro r ⟨Z2,rfl,d,B⟩;have v:=d.n;simp only[K9,Te]at v;have c:Ext Z Z2:=d.ext h om;have i:Z2.row Z.n=some row:=eT (d.row (by simp;omega) om) cL;rw[mJ];cases s:EM e with
 | false=>
   rw[z0z (by simp)];refine gS1 (aI i (aI b (aI a (a3N @H7 @I0 @Tryz.results27)))) ?_;exact⟨_,rfl,c⟩
 | true=>
   rw[z1z rfl];obtain⟨m,o,A⟩:=NW s;refine gS1 (aI i (aI b a)) ?_;refine(vF m 12 o om (G7:=0) om (Bs c l q) om (f.mono c)).mono ?_;rintro r ⟨z,rfl,j⟩;refine gS1 @Tryz.results27 ?_;exact⟨_,rfl,c.trans j⟩
end Go.Proofs.T
