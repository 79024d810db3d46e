/- Ax1 At4: the Ad2 and ours; the BO YQ. -/
import Derived.Test.YtbcanmagihejhaaGreatDoorRE
set_option linter.unusedSimpArgs false
set_option linter.unusedVariables false
set_option linter.defProp false
set_option maxHeartbeats 32000000
set_option maxRecDepth 100000
namespace Go.Proofs.T
open Go Go.Ab
def tz:∀ (n u:Nat),u<=n->Lib.decDigits u=dcN u:=by
 intro n;induction n with
 | zero=>
   intro u h;obtain rfl:u=0:=om;unfold Lib.decDigits;rfl
 | succ n ih=>
   intro u h;unfold Lib.decDigits;by_cases a:u<10
   ·rw[dif_pos a,CY a];unfold dgt;rw[Pu a]
   ·rw[dif_neg a,ih (u / 10) om,Mu a];rfl
def XN {n:Int}(h:0<=n):Lib.itoa n=dcN n.toNat:=by
 unfold Lib.itoa;rw[z0z om,tz _ _ nL]
def IA:Nat->Nat->By
 |0,_=>[]
 |k+1,f=>IA k (f / 10)++[dgt f]
def Zt:∀ (k f:Nat),IA (k+1) f=dgt (f / 10 ^ k)::IA k (f % 10 ^ k):=by
 intro k;induction k with
 |zero=>intro f;show[]++[dgt f]=[dgt (f / 10 ^ 0)];simp
 | succ k ih=>
   intro f;show IA (k+1) (f / 10)++[dgt f]=_::(IA k (f % 10 ^ (k+1) / 10)++[dgt (f % 10 ^ (k+1))])
   rw[ih,JF];have a:f / 10 / 10 ^ k=f / 10 ^ (k+1):=by rw[Nat.div_div_eq_div_mul,Gd,Cd]
   have b:f / 10 % 10 ^ k=f % 10 ^ (k+1) / 10:=by rw[Gd,Nat.mod_mul_left_div_self]
   have c:dgt f=dgt (f % 10 ^ (k+1)):=by
    unfold dgt;rw[Nat.mod_mod_of_dvd _ ⟨10 ^ k,by rw[Gd,Cd]⟩]
   rw[a,b,c]
def gY:∀ (k f:Nat),f<10 ^ k->dcN (10 ^ k+f)=49::IA k f:=by
 intro k;induction k with
 | zero=>intro f h;obtain rfl:f=0:=by have:(10:Nat) ^ 0=1:=rfl;omega
         rfl
 | succ k ih=>
   intro f h;have d:10 ^ (k+1)=10 ^ k*10:=Gd ..;have c:1<=10 ^ k:=bL om;have a:(10 ^ (k+1)+f) / 10=10 ^ k+f / 10:=om;have b:dgt (10 ^ (k+1)+f)=dgt f:=by
    unfold dgt;have:(10 ^ (k+1)+f) % 10=f % 10:=om;rw[this]
   rw[Mu om,a,b,ih (f / 10) om];rfl
def AO:By->By
 | []=>[]
 |c::s=>if c=48/\AO s=[]then[]else c::AO s
def mM:∀ k:Nat,AO (IA k 0)=[]:=by
 intro k;induction k with
 |zero=>rfl
 | succ k ih=>
   rw[Zt,Nat.zero_div,qP];show(if dgt 0=48/\AO (IA k 0)=[]then[]else _)=[]
   rw[z1z ⟨rfl,ih⟩]
def AZ2 {k r D:Nat}(a:r≠0):frT (k+1) r D≠[]:=by
 unfold frT;rw[z0z a];intro h;exact Vd _ (List.append_eq_nil_iff.1 h).1
def zb {D:Nat}(z:0<D):∀ (k r f:Nat),r<D->r*10 ^ k=f*D->frT k r D=AO (IA k f):=by
 intro k;induction k with
 | zero=>
   intro r f A h;rfl
 | succ k ih=>
   intro r f A h;by_cases m:r=0
   ·have F:f=0:=by
     rw[m,GV]at h;rcases rX.1 h.symm with h|h<;>omega
    rw[m,F,mM];unfold frT;rw[z1z rfl]
   ·have H:10 ^ (k+1)=10*10 ^ k:=by rw[Gd,Cd]
    have K:1<=10 ^ k:=bL om;obtain⟨q,u⟩:=nW (10*r / D);obtain⟨s,hs⟩:=nW (10*r % D);have i:10*r=D*q+s:=by rw[<- u,<- hs];exact(RM ..).symm
    have l:s<D:=by rw[<- hs];exact KU _ z
    have d:q<10:=by rw[<- u];exact fS (by rw[Cd D];exact(rW om).2 A)
    have key:(D*q+s)*10 ^ k=f*D:=by rw[<- i,<- h,H];rw[Cd 10 r,Ek]
    -- the H4 of f
    have G:q*10 ^ k<=f:=by
     refine Nat.le_of_mul_le_mul_right (c:=D) ?_ z;rw[<- key,Sd];have:q*10 ^ k*D=D*q*10 ^ k:=by rw[Cd _ D,Ek]
     omega
    obtain⟨g,o⟩:∃ g,f=q*10 ^ k+g:=⟨f-q*10 ^ k,om⟩
    have b:s*10 ^ k=g*D:=by
     rw[o,Sd,Sd]at key;have:q*10 ^ k*D=D*q*10 ^ k:=by rw[Cd _ D,Ek]
     omega
    have e:g<10 ^ k:=by
     refine AF2 (a:=D) ?_;rw[<- b,Cd (10 ^ k) D];exact(Nat.mul_lt_mul_right om).2 l
    have B:f / 10 ^ k=q:=by
     rw[o,Cd q,Nat.mul_add_div om,rm e];rfl
    have C:f % 10 ^ k=g:=by
     rw[o,Cd q,Nat.mul_add_mod,Pu e]
    have y:=ih s g l b;rw[Zt,B,C];show frT (k+1) r D=if dgt q=48/\AO (IA k g)=[]then[]else dgt q::AO (IA k g)
    rw[<- y];have n:frT (k+1) r D=if r=0 then[]else dcN (10*r / D)++frT k (10*r % D) D:=rfl
    rw[n,z0z m,u,hs,CY d];rw[z0z]
    ·rfl
    ·rintro⟨I,J⟩;by_cases j:s=0
     ·have v:q=0:=by
       have E:∀ x,x<10->dgt x=48->x=0:=by decide
       exact E q d I
      rw[v,j,bO]at i;omega
     ·cases k with
      | zero=>
        have p:g=0:=by have:(10:Nat) ^ 0=1:=rfl;omega
        rw[p,GV]at b;have:s*10 ^ 0=s:=sI;omega
      |succ k=>exact AZ2 j J
def fY {n d:Nat}(f:0<d) (j:1000000 % d=0):deT (n:Nat) (d:Nat)=dcN (n / d)++(if n % d*(1000000 / d)=0 then[]else 46::AO ((dcN (1000000+n % d*(1000000 / d))).drop 1)):=by
 unfold deT;rw[show(n:Int).toNat=n from rfl,show(d:Int).toNat=d from rfl];refine congrArg (dcN (n / d)++·) ?_;have i:1000000 / d*d=1000000:=by
  have:=RM 1000000 d;rw[j,Be,Cd]at this;exact this
 have l:0<1000000 / d:=by
  rcases XL (1000000 / d)with h|h
  ·rw[h,GV]at i;omega
  ·exact h
 have b:n % d<d:=KU _ f;by_cases c:n % d=0
 ·rw[z1z c,c,GV,z1z rfl]
 ·rw[z0z c,z0z (by rw[rX];omega)];have g:n % d*10 ^ 6=(n % d*(1000000 / d))*d:=by
   rw[Ek,i]
  have e:n % d*(1000000 / d)<10 ^ 6:=by
   refine AF2 (a:=d) ?_;rw[<- g,Cd (n % d)];exact(rW (by decide)).2 b
  rw[zb f 6 (n % d) _ b g,show(1000000:Nat)=10 ^ 6 from rfl,gY 6 _ e];rfl
section
variable {s:By}{c:UInt8}{Z:St}
def cR:∀ x:By,AO (x++[48])=AO x:=by
 intro x;induction x with
 |nil=>rfl
 | cons c x ih=>
   show(if c=48/\AO (x++[48])=[]then[]else c::AO (x++[48]))=(if c=48/\AO x=[]then[]else c::AO x)
   rw[ih]
def kU (a:c≠48):∀ x:By,AO (x++[c])=x++[c]:=by
 intro x;induction x with
 | nil=>
   show(if c=48/\([]:By)=[]then[]else[c])=[c]
   rw[z0z (fun h=>a h.1)]
 | cons d x ih=>
   show(if d=48/\AO (x++[c])=[]then[]else d::AO (x++[c]))=d::(x++[c])
   rw[ih,z0z (fun h=>by simp at h)]
def Ys:sub (s++[c]) s.length 1=some [c]:=by
 rw[AE (by rw[W4];simp),List.drop_left];rfl
def qh:sub (s++[c]) 0 s.length=some s:=by
 rw[AE (by rw[W4];omega),Ma,List.take_left]
def qi (u:s.length<=100000):Ev (gO 175 [str s,.int .u8 48] Z) (fun r=>r=⟨false,str (AO s),Z⟩) ⟨⟩:=by
 refine G1 Tryz.func175 rfl rfl ?_;refine gS ?_
 refine BE (fun n fr p=>p=Z/\fr.get 1=some (.int .u8 48)/\∃ x:By,fr.get 0=some (str x)/\x.length=n/\n<=100000/\AO x=AO s)
  (fun r=>∃ fr,r=⟨.exit 0,fr,Z⟩/\fr.get 0=some (str (AO s))) s.length ?_ ?_ ?_
 ·exact⟨rfl,fR,s,fR,rfl,u,rfl⟩
 ·rintro n fr p ⟨rfl,f,x,a,v,q,i⟩;have j:x=[]\/∃ y c,x=y++[c]:=by
   rcases List.eq_nil_or_concat x with h|⟨y,c,h⟩
   ·exact .inl h
   ·exact .inr ⟨y,c,by rw[h,List.concat_eq_append]⟩
  rcases j with rfl|⟨y,c,rfl⟩
  ·have d:decide ((0:Int)<((0:Nat):Int))=false:=rfl;refine gS1 (aI a (aI f (aI d (a3N @H7 @I0 @BS)))) ?_;exact⟨_,rfl,by rw[<- i];exact fR1 a⟩
  ·have o:(y++[c]).length=y.length+1:=by rw[W4];rfl
   have d:decide ((0:Int)<(((y++[c]).length:Nat):Int))=true:=AK (by rw[o];omega);have m:(((y++[c]).length:Nat):Int)-1=(y.length:Int):=by rw[o];omega
   have l:decide (y.length<(y++[c]).length)=true:=dT;by_cases g:c=48
   ·have b:decide ((c.toNat:Int)=48)=true:=by subst g;rfl
    refine gS1 (aI a (aI f (aI d (aI m (aI l (aI @Ys (aI @X7 (aI b (a5N @Up @qh @H7 @I0 @R8))))))))) ?_;refine⟨y.length,om,by trivial,fR1 f,y,fR,rfl,om,?_⟩;rw[<- i,g,cR]
   ·have b:decide ((c.toNat:Int)=48)=false:=z4z fun e=>g (UInt8.toNat_inj.1 (show c.toNat=48 by omega));refine gS1 (aI a (aI f (aI d (aI m (aI l (aI @Ys (aI @X7 (aI b (a3N @H7 @I0 @BS))))))))) ?_;exact⟨_,rfl,by rw[<- i,kU g];exact fR1 a⟩
 ·rintro r ⟨fr,rfl,a⟩;refine gS1 (aI a @Tryz.results175) ?_;try exact⟨⟩
def Vf:(AO s).length<=s.length:=by
 induction s with
 |nil=>exact AP _
 | cons c s ih=>
   show(if c=48/\AO s=[]then[]else c::AO s).length<=_;split
   ·simp
   ·rw[AG,AG];omega
def Ve (g:s.length<=100000):Ev (gO 138 [str s,str [48]] Z) (fun r=>r=⟨false,str (AO s),Z⟩) ⟨⟩:=by
 refine G1 Tryz.func138 rfl rfl ?_;by_cases e:s=[]
 ·subst e;refine gS1 (a3N @H7 @I0 @Tryz.results138) ?_;rfl
 ·have f:decide (s=[])=false:=z4z e;have a:decide (([48]:By)=[])=false:=rfl;have d:sub ([48]:By) 0 1=some [48]:=rfl;have b:decide (((48:UInt8).toNat:Int)<128)=true:=rfl;have h:decide (((1:Nat):Int)=1)=true:=rfl;refine gS1 (aI f (aI a (aI h (aI d (aI b @X7))))) ?_;refine(qi g).mono ?_;rintro r rfl;refine gS1 @Tryz.results138 ?_;try exact⟨⟩
end
def Tc:Aj (some T7) (some T7)=true:=kR
def pj {Z:St}{n:Nat}(b:n<=9223372036854775807) (a:Z.read 1 0 20=some T7):go Tryz.prog HS (.fn 67) [.int .i64 (n:Nat)] Z=some ⟨false,str (dcN n),Z⟩:=by
 have e:go Tryz.prog HS (.fn 67) [.int .i64 (n:Nat)] Z=bb (Aj (Z.read 1 0 20) (some T7)) (bb (decide (-9223372036854775808<=(n:Int)/\(n:Int)<=9223372036854775807)) (some ⟨false,.string ⟨(Lib.itoa (n:Nat)).toArray⟩,Z⟩)):=rfl;rw[e,a,Tc,V0,dT,V0,XN om];rfl
def Mh {Z:St}{op:By}:Ev (gO 95 [str op] Z) (fun r=>r=⟨false,.int .i64 (lvl op:Nat),Z⟩) ⟨⟩:=by
 refine G1 Tryz.func95 rfl rfl ?_;unfold lvl;have c1:decide (([45]:By)=[43])=false:=rfl;have c2:decide (([42]:By)=[43])=false:=rfl;have c3:decide (([42]:By)=[45])=false:=rfl;have c4:decide (([47]:By)=[43])=false:=rfl;have e:decide (([47]:By)=[45])=false:=rfl;have f:decide (([47]:By)=[42])=false:=rfl;by_cases a:op=[43]
 ·subst a;refine gS1 @Tryz.results95 ?_;rfl
 ·have g:decide (op=[43])=false:=z4z a;by_cases b:op=[45]
  ·subst b;refine gS1 (aI c1 @Tryz.results95) ?_;rfl
  ·have h:decide (op=[45])=false:=z4z b;by_cases c:op=[42]
   ·subst c;refine gS1 (aI c2 (aI c3 @Tryz.results95)) ?_;rfl
   ·have i:decide (op=[42])=false:=z4z c;by_cases d:op=[47]
    ·subst d;refine gS1 (aI c4 (aI e (aI f @Tryz.results95))) ?_;rfl
    ·have j:decide (op=[47])=false:=z4z d;rw[z0z (by simp[a,b]),z0z (by simp[c,d])];refine gS1 (aI g (aI h (aI i (aI j @Tryz.results95)))) ?_;rfl
def vB {Z:St}{n d:Nat}(m:0<d) (u:1000000 % d=0) (hn:n<=1000000000000000) (W:Z.read 1 0 20=some T7) (h1:1<Z.n) :
  Ev (gO 96 [.agg ⟨[.int .i64 (n:Nat),.int .i64 (d:Nat)]⟩] Z) (fun r=>∃ Z',r=⟨false,str (deT (n:Nat) (d:Nat)),Z'⟩/\Ext Z Z') ⟨⟩:=by
 have v:d<=1000000:=Nat.le_of_dvd om (Nat.dvd_of_mod_eq_zero u);obtain⟨S,a⟩:=nW (Z.new [.int .i64 (n:Nat),.int .i64 (d:Nat)]);have b:S.read 1 0 20=some T7:=by rw[<- a,YR _ _ _ _ om];exact W
 rw[fY m u];obtain⟨F,i⟩:=nW (n % d*(1000000 / d));have N:F<1000000:=by
  have V:1000000 / d*d=1000000:=by
   have:=RM 1000000 d;rw[u,Be,Cd]at this;exact this
  have X:0<1000000 / d:=Nat.div_pos v m;rw[<- i];have:=(Nat.mul_lt_mul_right X).2 (KU n m);rw[Cd d,V]at this;exact this
 have A:n / d<=n:=Wp n d;have B:1000000 / d<=1000000:=Wp _ d;have z:n % d<d:=KU _ m;obtain⟨Q,j⟩:=nW (1000000 / d);obtain⟨M,hM⟩:=nW (n % d);obtain⟨K,hK⟩:=nW (n / d);have e:(n:Int).tmod (d:Nat)=(M:Int):=by rw[<- hM];rfl
 have f:(1000000:Int).tdiv (d:Nat)=(Q:Int):=by rw[<- j];rfl
 have h:(n:Int).tdiv (d:Nat)=(K:Int):=by rw[<- hK];rfl
 rw[j,hM]at i;have g:(M:Int)*(Q:Int)=(F:Int):=by rw[<- i];rfl
 rw[j,hM,hK,i];rw[j]at B;rw[hM]at z;rw[hK]at A;have J:(1000000:Int)+(F:Int)=((1000000+F:Nat):Int):=om;have p:decide (d=0)=false:=dF;have q:decide ((d:Int)=0)=false:=dF;have G:=pj (Z:=S) (n:=K) om b;have H:=pj (Z:=S) (n:=1000000+F) om b;have U:(dcN K).length<=20:=Ia 19 K om;have y:(dcN (1000000+F)).length<=20:=Ia 19 (1000000+F) om;have C:Ext Z S:=by rw[<- a];exact eX
 have o:S.row Z.n=some [.int .i64 (n:Nat),.int .i64 (d:Nat)]:=by rw[<- a];exact cL
 refine G1 Tryz.func96 rfl rfl ?_;by_cases D:F=0
 ·have s:decide ((F:Int)=0)=true:=dT;rw[z1z D,Ca];refine gS1 (aI e (aI f (aI g (aI h (aI p (aI q (aI a o))))))) ?_
  try refine dW ?_
  try(refine gS1 (aI e (aI f (aI g (aI h (aI p (aI q (aI a (aI o (aI s (aI G @Tryz.results96)))))))))) ?_;try exact⟨⟩)
  exact⟨_,rfl,C⟩
 ·have s:decide ((F:Int)=0)=false:=dF;rw[z0z D];have R:(dcN (1000000+F)).drop 1=(dcN (1000000+F)).drop 1:=rfl;obtain⟨L,E⟩:=nW (dcN (1000000+F));rw[E]at H y ⊢;have O:1<=L.length:=by
   rw[<- E];rcases hx:dcN (1000000+F)with _|⟨c,l⟩
   ·exact absurd hx (Vd _)
   ·simp
  have Y:sub L 1 (L.length-1)=some (L.drop 1):=by rw[AE om];exact congrArg some (Pg (by rw[HW];omega))
  have I:(L.drop 1).length<=20:=by rw[HW];omega
  refine gS1 (aI e (aI f (aI g (aI h (aI p (aI q (aI a o))))))) ?_
  try refine dW ?_
  try(refine gS1 (aI e (aI f (aI g (aI h (aI J (aI p (aI q (aI a (aI o (aI s (aI G (aI H Y)))))))))))) ?_;try exact⟨⟩)
  refine(Ve om).mono ?_;rintro r rfl;have ht:=@Vf (L.drop 1);refine gS1 @Tryz.results96 ?_;refine⟨_,?_,C⟩;rw[DT];rfl
def Bs {Z Z':St}(b:Ext Z Z') (a:1<Z.n) (c:Z.read 1 0 20=some T7):Z'.read 1 0 20=some T7:=by
 rw[AB,b.row a,<- AB];exact c
def Ie (e:Ex) (f:Nat):Prop:=∀ {Z:St}{row:List Value}{G7:Nat},G7<=3->Z.read 1 0 20=some T7->1<Z.n->Aq Z row e ->
 Ev (gO 55 [.agg ⟨row⟩,.int .i64 (G7:Nat)] Z) (fun r=>∃ Z',r=⟨false,str (L9 f G7 e),Z'⟩/\Ext Z Z') ⟨⟩
def eo {s:By}:par true s=[40]++s++[41]:=by unfold par;simp
def AB9 {s:By}:par false s=s:=rfl
def oK {n d:Int}(h:MI n d) (G:n<=1000000000000000) (f:Nat):Ie (.mk T4 n d [] []) (f+1):=by
 intro Z row G7 A B u z;obtain⟨v,D0,rfl,-,-,-⟩:=z;have F:=h.rq.d1;have l:=h.n0;have y:=h.d6;obtain⟨N,rfl⟩:=KR l;obtain⟨D,rfl⟩:=KR (show 0<=d by omega);have i:1000000 % D=0:=by
  have j:((1000000 % D:Nat):Int)=0:=y;exact Int.ofNat.inj j
 have C:L9 (f+1) G7 (.mk T4 (N:Nat) (D:Nat) [] [])=par (decide (lvl T4<G7)) (deT (N:Nat) (D:Nat)):=rfl;rw[C,show lvl T4=2 from rfl];have o:(deT (N:Nat) (D:Nat)).length+8<=50:=by
  have:=Df (.num h) 1 0 nL;exact this
 obtain⟨R,a⟩:∃ R:List Value,[str T4,.int .i64 (N:Nat),.int .i64 (D:Nat),str [],v]=R:=⟨_,rfl⟩
 have p:sub R 0 1=some [str T4]:=by rw[<- a];rfl
 have q1:sub R 1 2=some [.int .i64 (N:Nat),.int .i64 (D:Nat)]:=by rw[<- a];rfl
 have q:sub R 0 5=some R:=by rw[<- a];rfl
 have s:R.length=5:=by rw[<- a];rfl
 rw[show(Value.agg ⟨[str T4,.int .i64 (N:Int),.int .i64 (D:Int),str [],v]⟩)= .agg ⟨R⟩from by rw[<- a]];have c1:decide (T4=[110,117,109])=true:=rfl;have e:Ext Z (Z.new R):=eX;refine G1 Tryz.func55 rfl rfl ?_;refine gS1 (aI q (aI s p)) ?_;refine Mh.mono ?_;rintro r rfl;rw[show lvl T4=2 from rfl];refine gS1 (aI q (aI s (aI p (aI q1 c1)))) ?_;refine(vB om i om (Bs e u B) (by simp;omega)).mono ?_;rintro r ⟨E,rfl,m⟩;have b:decide ((2:Int)<(G7:Int))=decide (2<G7):=by rw[z7z,z3z,z3z];omega
 cases c:decide (2<G7)with
 | true=>
   have g:decide ((2:Int)<(G7:Int))=true:=by rw[b];exact c
   refine gS1 (aI c (aI b (aI g @Tryz.results55))) ?_;exact⟨_,by rw[eo]<;>rfl,e.trans m⟩
 | false=>
   have g:decide ((2:Int)<(G7:Int))=false:=by rw[b];exact c
   refine gS1 (aI c (aI b (aI g @Tryz.results55))) ?_;exact⟨_,rfl,e.trans m⟩
section
variable {s:By}{n d:Nat}
def FB (c x:UInt8) (s:By):CD c (x::s)=bi (x==c) 0 (bi (ilt (CD c s) 0) (-1) (CD c s+1)):=by rw[<- LH];rfl
def Ua {c:UInt8}:∀ {s:By},(∀ x∈s,x≠c)->CD c s= -1
 | [],_=>rfl
 | x::s,h=>by
   have hx:(x==c)=false:=by rw[ah];exact h x (Cw ..)
   rw[FB,hx,Ua fun y a=>h y (Ci _ a)];rfl
def gQ {c:UInt8}:∀ {s t:By},(∀ x∈s,x≠c)->CD c (s++c::t)=(s.length:Nat)
 | [],t,_=>by
   rw[KP,FB,beq_self_eq_true];rfl
 | x::s,t,h=>by
   have hx:(x==c)=false:=by rw[ah];exact h x (Cw ..)
   rw[JF,FB,hx,gQ fun y a=>h y (Ci _ a)];have e:ilt (s.length:Int) 0=false:=rfl;rw[e,AG];rfl
def Ub (h:∀ x∈s,x≠46):BJ s=(s,[]):=by
 unfold BJ;rw[Ua h];rfl
def gR {t:By}(h:∀ x∈s,x≠46):BJ (s++46::t)=(s,t):=by
 unfold BJ;rw[gQ h,z0z (by rw[Ej];omega)];rw[show(s.length:Int).toNat=s.length from rfl];simp
def yB (h:s.all (on J3)=true):∀ x∈s,x≠46:=fun x a e=>by
 have:=GH.1 h x a;rw[e]at this;exact absurd this (by decide)
def Ro {a b:By}:As n (a++b)=As (As n a) b:=by unfold As;rw[fG]
def rU {c:Nat}:As n [dgt c]=10*n+c % 10:=by
 show 10*n+((dgt c).toNat+208) % 256=_;rw[NA];omega
def Rq:∀ (k n f:Nat),f<10 ^ k->As n (IA k f)=n*10 ^ k+f
 | 0,n,f,h=>by
   have h1:(10:Nat) ^ 0=1:=rfl;show n=n*10 ^ 0+f;omega
 | k+1,n,f,h=>by
   have h1:10 ^ (k+1)=10 ^ k*10:=Gd ..;show As n (IA k (f / 10)++[dgt f])=_;rw[Ro,Rq k n (f / 10) om,rU,h1,<- Ek];omega
def Lw {n:Nat}:∀ z,As n (List.replicate z 48)=n*10 ^ z
 |0=>by simp[As]
 | z+1=>by
   rw[List.replicate_succ'];rw[Ro,Lw z,Gd,<- Ek];show 10*(n*10 ^ z)+(48+208) % 256=_;omega
def Uc:∀ s:By,∃ z,s=AO s++List.replicate z 48/\(AO s).getLast? ≠some 48
 | []=>⟨0,rfl,by simp[AO]⟩
 | c::s=>by
   obtain⟨z,h1,h2⟩:=Uc s;have e:AO (c::s)=if c=48/\AO s=[]then[]else c::AO s:=rfl
   rw[e];by_cases h:c=48/\AO s=[]
   ·rw[z1z h];refine⟨z+1,?_,by simp⟩;rw[h.2,KP]at h1;rw[h.1,KP,mu,<- h1]
   ·rw[z0z h];refine⟨z,by rw[JF,<- h1],?_⟩;cases ht:AO s with
    | nil=>
      intro e;rw[List.getLast?_singleton]at e;exact h ⟨by cases e;rfl,ht⟩
    | cons x w=>
      rw[List.getLast?_cons_cons,<- ht];exact h2
def rV (h:s.getLast? ≠some 48):Wc s=false:=by
 unfold Wc;refine z4z fun e=>h ?_;cases s with
 |nil=>simp at e
 | cons c w=>
   rw[List.getLast?_eq_getElem?];have a:=congrArg (fun z=>z[0]?) e;rw[List.getElem?_drop]at a
   simpa using a
def gT:∀ (k f:Nat),(IA k f).length=k
 |0,_=>rfl
 |k+1,f=>by show(IA k (f / 10)++[dgt f]).length=_;rw[W4,gT k];rfl
def gW:∀ (k f:Nat),(IA k f).all (on J3)=true
 |0,_=>rfl
 |k+1,f=>by show(IA k (f / 10)++[dgt f]).all _=_;rw[qj,gW k,MZ,Vo];rfl
def lL {M P:Nat}(h:M*d=n*P) (g:Nat.gcd n d=1) (j:0<n) (l:0<P):M / Nat.gcd M P=n/\P / Nat.gcd M P=d:=by
 have i:n∣M:=by
  refine Nat.Coprime.dvd_of_dvd_mul_right (k:=n) (n:=d) g ⟨P,h⟩
 obtain⟨c,rfl⟩:=i;have a:P=c*d:=by
  rw[Ek]at h;exact(AD7 j h).symm
 have f:0<c:=by
  rcases XL c with e|e
  ·rw[e,GV]at a;omega
  ·exact e
 have b:Nat.gcd (n*c) P=c:=by
  rw[a,Cd n c,Nat.gcd_mul_left,g,Fh]
 rw[b];exact⟨Nat.mul_div_cancel _ f,by rw[a,Cd];exact Nat.mul_div_cancel _ f⟩
def lM (U:Nat.gcd n d=1) (S:0<d) (B:1000000 % d=0) (hn:n<=1000000000*d):MI (n:Nat) (d:Nat):=by
 have a0:d<=1000000:=Nat.le_of_dvd om (Nat.dvd_of_mod_eq_zero B);have y:RQ (n:Nat) (d:Nat):=⟨om,om,om,om,U⟩
 have q:1000000 / d*d=1000000:=by
  have:=RM 1000000 d;rw[B,Be,Cd]at this;exact this
 have m:(1000000:Int) % (d:Nat)=0:=by
  have:((1000000 % d:Nat):Int)=0:=by rw[B];rfl
  exact this
 obtain⟨Q,R⟩:=nW (1000000 / d);rw[R]at q;have E:0<Q:=by
  rcases XL Q with h|h
  ·rw[h,GV]at q;omega
  ·exact h
 obtain⟨k,V⟩:=nW (n / d);obtain⟨r,hr⟩:=nW (n % d);have f:n=d*k+r:=by rw[<- V,<- hr];exact(RM ..).symm
 have K:r<d:=by rw[<- hr];exact KU _ S
 obtain⟨F,j⟩:=nW (r*Q);have u:n*Q=k*1000000+F:=by
  rw[f,Sd,j,<- q,Cd d k,Ek,Cd d Q]
 have b:F<1000000:=by
  rw[<- j,<- q,Cd r Q];exact(rW E).2 K
 have a:=fY (n:=n) S B;rw[R,V,hr,j]at a;obtain⟨N,O⟩:=gJ k;obtain⟨b1,-,c,w,b3,-⟩:=NB (k+1) k (JQ _);have l:=yB b1;by_cases C:F=0
 ·have g:r=0:=by
   rw[C]at j;rcases rX.1 j with h|h<;>omega
  have o:d=1:=by
   have:Nat.gcd n d=d:=by rw[f,g,Be];exact Nat.gcd_eq_right ⟨k,rfl⟩
   omega
  rw[z1z C,Ca]at a;have H:k=n:=by rw[g,o]at f;omega
  refine⟨y,om,m,.inl ⟨c,w,by rw[a];exact b3,by rw[<- b3];exact b1⟩,fun A7 i p L=>Ur ?_ A7 i p L⟩;rw[a];unfold mi;rw[Ub l,N,O];have X:Wc []=false:=rfl;rw[z1z (by rw[X];rfl),z1z (by rw[dT];simp)];have Y:As k []=k:=rfl;rw[Hf,gC,Y,Nat.gcd_one_right,nh,H,o]
 ·rw[z0z C]at a;have J:(dcN (1000000+F)).drop 1=IA 6 F:=by
   rw[show(1000000:Nat)=10 ^ 6 from rfl,gY 6 F b];rfl
  rw[J]at a;obtain⟨z,A,W⟩:=Uc (IA 6 F);obtain⟨t,ht⟩:=nW (AO (IA 6 F));rw[ht]at A W a;have tl:t.length+z=6:=by
   have:=congrArg List.length A;rw[gT,W4,List.length_replicate]at this;omega
  have td:t.all (on J3)=true:=by
   have:=gW 6 F;rw[A,qj,T1]at this;exact this.1
  have tv:As k t*10 ^ z=n*Q:=by
   have:=Rq 6 k F b;rw[A,Ro,Lw]at this;rw[this,u]
  have M:t≠[]:=by
   intro e;have:=Rq 6 0 F b;rw[A,e,KP,Lw]at this;omega
  have G:k<1000000000:=by
   have g:0<r:=by
    rcases XL r with h|h
    ·rw[h,GV]at j;omega
    ·exact h
   have Z:d*k<d*1000000000:=om;exact Nat.lt_of_mul_lt_mul_left Z
  have I:0<n:=by
   rcases XL n with h|h
   ·rw[h,GV]at u;omega
   ·exact h
  have D:As k t*d=n*10 ^ t.length:=by
   have hz:0<10 ^ z:=bL om;refine Nat.eq_of_mul_eq_mul_right hz ?_;rw[Ek n,<- rY,tl,Ek,Cd d,<- Ek,tv,Ek,q]
  obtain⟨l1,l2⟩:=lL D U I (bL om);obtain⟨x,v,hxv⟩:∃ x v,t=x::v:=by
   cases t with
   |nil=>exact absurd rfl M
   |cons x v=>exact⟨x,v,rfl⟩
  refine⟨y,om,m,.inr ⟨c,w,x,v,by rw[a,b3,hxv],by rw[<- b3];exact b1,by rw[<- hxv];exact td⟩,fun A7 i p L=>Ur ?_ A7 i p L⟩;rw[a];unfold mi;rw[gR l];dsimp only;rw[N,O,rV W,z1z (show(true&& !false)=true from rfl),z1z (by rw[dT,dT,AK G];rfl),l1,l2]
def XG {n d:Int}(e:Int.gcd n d=1) (f:1<=d) (b:0<=n) (c:(1000000:Int) % d=0) (g:n<=1000000000*d):MI n d:=by
 obtain⟨N,rfl⟩:=KR b;obtain⟨D,rfl⟩:=KR (show 0<=d by omega);refine lM e om ?_ om;have a:((1000000 % D:Nat):Int)=0:=c;exact Int.ofNat.inj a
end
section
variable {w:Nat}{e:Ex}{op nm:By}{n d:Int}{args es:List Ex}
mutual
def R0:Ex->Nat
 | .mk _ _ _ _ args=>1+Gl args
def Gl:List Ex->Nat
 | []=>0
 |e::es=>R0 e+Gl es
end
mutual
def WfE (w:Nat):Ex->Prop
 | .mk op n d nm args=>op.length<=4/\nm.length<=31/\(-1<=n/\n<=1000000000000001)/\(0<=d/\d<=1000000)/\args.length<=w/\WfL w args
def WfL (w:Nat):List Ex->Prop
 | []=>True
 |e::es=>WfE w e/\WfL w es
end
def O5:R0 (.mk op n d nm args)=1+Gl args:=by unfold R0;rfl
def N3:Gl (e::es)=R0 e+Gl es:=by rw[Gl]
def O6:Gl []=0:=by unfold Gl;rfl
def Pm:1<=R0 e:=by cases e;rw[O5];omega
def BK:WfE w (.mk op n d nm args)↔(op.length<=4/\nm.length<=31/\(-1<=n/\n<=1000000000000001)/\(0<=d/\d<=1000000)/\args.length<=w/\WfL w args):=by unfold WfE;exact Iff.rfl
def DJ:WfL w []:=by unfold WfL;trivial
def V8:WfL w (e::es)↔(WfE w e/\WfL w es):=by rw[WfL]
mutual
theorem WfE.mono {w v:Nat}(h:w<=v):∀ {e:Ex},WfE w e->WfE v e
 | .mk op n d nm args,k=>by
   obtain⟨k1,k2,k3,k4,k5,k6⟩:=BK.1 k;exact BK.2 ⟨k1,k2,k3,k4,om,WfL.mono h k6⟩
theorem WfL.mono {w v:Nat}(h:w<=v):∀ {es:List Ex},WfL w es->WfL v es
 | [],_=>DJ
 |e::es,k=>V8.2 ⟨WfE.mono h (V8.1 k).1,WfL.mono h (V8.1 k).2⟩
end
def Ri:∀ {a b:List Ex},Gl (a++b)=Gl a+Gl b
 | [],b=>by simp[O6]
 |e::a,b=>by rw[JF,N3,N3,Ri];omega
def gL {w:Nat}:∀ {a b:List Ex},WfL w a->WfL w b->WfL w (a++b)
 | [],b,_,h=>h
 |e::a,b,h1,h2=>by rw[JF];exact V8.2 ⟨(V8.1 h1).1,gL (V8.1 h1).2 h2⟩
noncomputable def bfC (l:List Nat):Code:=JE l ((Tryz.f28).body.getD .skip)
def exV:Ex:= .mk [110,97,109,101] 0 0 [120] []
def Ak8:WfE w exV:=BK.2 ⟨by simp,by simp,om,om,by simp,DJ⟩
def gM:R0 exV=1:=by unfold exV;rw[O5,O6]
def znE:List Value:=[str [],.int .i64 0,.int .i64 0,str [],.slice none 0 0]
structure BfS (Z0:St) (H:List Nat) (p q t:Nat) (q0 q1 q2:Int) (fr:Fr) (τ:St) (row:List Value) (e:Ex):Prop where
 g2:fr.get 2=some (.pointer (some ⟨p,0,none⟩))
 g3:fr.get 3=some (.pointer (some ⟨q,0,none⟩))
 g4:fr.get 4=some (.pointer (some ⟨t,0,none⟩))
 E:Ext Z0 τ
 p0:Z0.n<=p
 q0':Z0.n<=q
 t0:Z0.n<=t
 pq:p≠q
 pt:p≠t
 qt:q≠t
 pl:p<τ.n
 ql:q<τ.n
 tl:t<τ.n
 op:τ.B8 p=some row
 oq:τ.B8 q=some [.int .i64 q0,.int .i64 q1,.int .i64 q2]
 ot:τ.B8 t=some znE
 x:ExX (J0 τ (p::t::H)) row e
def BfQ (Z0:St) (H:List Nat) (t w m:Nat) (r:Res):Prop:=∃ fr τ row e,r=⟨.ret,fr,τ⟩/\fr.get 4=some (.pointer (some ⟨t,0,none⟩))/\τ.B8 t=some row/\Ext Z0 τ/\ExX (J0 τ H) row e/\WfE w e/\R0 e<=m
def HQ.app {Z:St}{r:List Value}{e:Ex}(a:ExX Z r e):∀ {D0:List (List Value)}{es:List Ex},HQ Z D0 es->HQ Z (D0++[r]) (es++[e])
 |_,[],h=>by rw[show _=_ from h];exact⟨r,[],rfl,a,rfl⟩
 | _,e'::es,h=>by
   obtain⟨r',rs,rfl,h2,h3⟩:=h;exact⟨r',rs++[r],rfl,h2,HQ.app a h3⟩
def FQ {Z0 a:St}{p:Nat}{cs:List Value}(b:Ext Z0 a) (c:Z0.n<=p):Ext Z0 (a.upd p cs):=b.upd c _
def Im {Z0 a:St}{H:List Nat}{fr:Fr}{p t w m:Nat}{row:List Value}{e:Ex}(g2:fr.get 2=some (.pointer (some ⟨p,0,none⟩))) (g4:fr.get 4=some (.pointer (some ⟨t,0,none⟩))) (l:Ext Z0 a) (r:Z0.n<=t) (y:p≠t) (A:t<a.n)
  (op:a.B8 p=some row) (h:∃ z,a.B8 t=some z/\z.length=5) (i:ExX (J0 a (p::t::H)) row e) (s:∀ c∈H,c<Z0.n) (o:WfE w e) (f:R0 e<=m) :
  Ev (lim Tryz.prog HS none (bfC [1,1,1]) fr a) (BfQ Z0 H t w m) ⟨⟩:=by
 obtain⟨z,h,v⟩:=h;have b:=Mf i;have j:sub row 0 5=some row:=G3 om om;have g:M5 z 0 row=some row:=HG om om;have q:=C1 op;simp only[bfC,Tryz.f28,J2,M1,y7,y8,y9,AA];refine gU1 (aI @A6 (aI @C7 (aI g2 (aI g4 (aI q (aI op (aI h (aI j (aI g b))))))))) ?_;refine⟨_,_,row,e,rfl,fR1 g4,cL,FQ l r,i.I4 (K8 (by simp) fun c u f=>?_),o,f⟩;simp only[V9,not_or]at f;exact⟨f.2.2,I2 f.2.1⟩
end
section
variable {e:Ex}{op nm:By}{n d:Int}{args es:List Ex}
def Au (op:By) (n d:Int) (nm:By) (len:Nat):Bool :=
 if op=T4 then Dk n d&&decide (0<=n)&&decide ((1000000:Int) % d=0)&&decide (n<=1000000000*d)&&decide (nm=[])&&decide (len=0)
 else if op=nmB then W0 nm&& !decide (nm=W9)&& !decide (nm=Y4)&&(decide (n=0)&&decide (d=0))&&decide (len=0)
 else if op=[43]\/op=[45]\/op=[42]\/op=[47]\/op=W9\/op=Y4 then(decide (n=0)&&decide (d=0))&&decide (nm=[])&&decide (len=2)
 else false
mutual
def GU:Ex->Bool
 | .mk op n d nm args=>Au op n d nm args.length&&CN args
def CN:List Ex->Bool
 | []=>true
 |e::es=>GU e&&CN es
end
mutual
def CF:Ex->Nat
 | .mk _ _ _ _ args=>1+JX args
def JX:List Ex->Nat
 | []=>0
 |e::es=>max (CF e) (JX es)
end
def Cv:GU (.mk op n d nm args)=(Au op n d nm args.length&&CN args):=by unfold GU;rfl
def Bb:CN []=true:=by unfold CN;rfl
def AF:CN (e::es)=(GU e&&CN es):=by rw[CN]
def Dx:CF (.mk op n d nm args)=1+JX args:=by unfold CF;rfl
def CG:JX []=0:=by unfold JX;rfl
def CB:JX (e::es)=max (CF e) (JX es):=by rw[JX]
def XE:∀ (s:Nat) (e:Ex),SizeOf.sizeOf e<s->GU e=true->FW (CF e) (R0 e) e:=by
 intro s;induction s with
 |zero=>intro e h;omega
 | succ s ih=>
   intro e q h;obtain⟨op,n,d,nm,args⟩:=e;rw[Cv,T1]at h;obtain⟨h1,h2⟩:=h;rw[Dx,O5];unfold Au at h1;by_cases c1:op=T4
   ·rw[z1z c1]at h1;unfold Dk at h1;simp only[T1,Ej]at h1;obtain⟨⟨⟨⟨⟨⟨i,j⟩,l⟩,m⟩,o⟩,p⟩,v⟩:=h1;obtain rfl:args=[]:=NV v;rw[c1,p,CG,O6];exact .num (XG j i l m o)
   ·rw [z0z c1]at h1;by_cases c2:op=nmB
    ·rw[z1z c2]at h1;simp only[T1,Ej,Bool.not_eq_true',GF]at h1;obtain⟨⟨⟨⟨i,j⟩,l⟩,m,o⟩,p⟩:=h1;obtain rfl:args=[]:=NV p;rw[c2,m,o,CG,O6];exact .name i j l
    ·rw[z0z c2]at h1;split at h1
     ·rename_i c3;simp only[T1,Ej]at h1;obtain⟨⟨⟨i,j⟩,l⟩,m⟩:=h1;obtain⟨a,b,rfl⟩:∃ a b,args=[a,b]:=by
       match args,m with
       | [a,b],_=>exact⟨a,b,rfl⟩
      rw[AF,AF,Bb,Sh,T1]at h2;have y:SizeOf.sizeOf a<s:=by simp at q;omega
      have z:SizeOf.sizeOf b<s:=by simp at q;omega
      have f:=ih a y h2.1;have g:=ih b z h2.2;rw[i,j,l,CB,CB,CG,N3,N3,O6];have r:1+max (CF a) (max (CF b) 0)=1+max (CF a) (CF b):=om;have u:1+(R0 a+(R0 b+0))=R0 a+R0 b+1:=om;rw[r,u];rcases c3 with c|c|c|c|c|c
      ·exact .bin (.inl c) f g
      ·exact .bin (.inr (.inl c)) f g
      ·exact .bin (.inr (.inr (.inl c))) f g
      ·exact .bin (.inr (.inr (.inr c))) f g
      ·exact .mm (.inl c) f g
      ·exact .mm (.inr c) f g
     ·cases h1
def EM (e:Ex):Bool:=GU e&&decide (R0 e<=60)&&decide (CF e<=12)
def XH {k m:Nat}(h:FW k m e):GU e=true/\CF e=k/\R0 e=m:=by
 induction h with
 | @num n d h=>
   rw[Cv,Dx,O5,Bb,CG,O6];refine⟨?_,rfl,rfl⟩;unfold Au Dk;rw[z1z rfl,AK h.rq.d1,AK h.rq.low,AK h.n0,AK h.d6,AK h.rq.n2];rfl
 | @name nm h1 h2 h3=>
   rw[Cv,Dx,O5,Bb,CG,O6];refine⟨?_,rfl,rfl⟩;unfold Au;rw[z0z (by decide),z1z rfl,h1,z4z h2,z4z h3];rfl
 | @bin k j m i o a b h ha hb iha ihb=>
   rw[Cv,Dx,O5,AF,AF,Bb,CB,CB,CG,N3,N3,O6,iha.1,ihb.1,iha.2.1,iha.2.2,ihb.2.1,ihb.2.2];refine⟨?_,om,om⟩;unfold Au;rw[z0z (by rcases h with rfl|rfl|rfl|rfl<;>decide),z0z (by rcases h with rfl|rfl|rfl|rfl<;>decide),z1z (by rcases h with h|h|h|h<;>simp[h])];rfl
 | @mm k j m i o a b h ha hb iha ihb=>
   rw[Cv,Dx,O5,AF,AF,Bb,CB,CB,CG,N3,N3,O6,iha.1,ihb.1,iha.2.1,iha.2.2,ihb.2.1,ihb.2.2];refine⟨?_,om,om⟩;unfold Au;rw[z0z (by rcases h with rfl|rfl<;>decide),z0z (by rcases h with rfl|rfl<;>decide),z1z (by rcases h with h|h<;>simp[h])];rfl
end
section
variable {e:Ex}{k m:Nat}
def PZ {b:Bool}{s:By}{n:Nat}(h:s.length+2<=n):(par b s).length<=n:=by
 have:=GM (b:=b) (s:=s);omega
def oJ (h:FW k m e):∀ f G7,k<=f->(L9 f G7 e).length<=40*m:=by
 induction h with
 | @num n d h=>
   intro f G7 l;obtain⟨f,rfl⟩:∃ g,f=g+1:=⟨f-1,om⟩
   unfold L9;rw[z1z rfl];have:=fU h;exact PZ om
 | @name nm h h1 h2=>
   intro f G7 l;obtain⟨f,rfl⟩:∃ g,f=g+1:=⟨f-1,om⟩
   unfold L9;rw[z0z (by decide),z1z rfl];unfold W0 at h;simp only[T1,Ej]at h;have:=h.1.2;exact PZ om
 | @bin k j m i o a b h ha hb iha ihb=>
   intro f G7 l;obtain⟨f,rfl⟩:∃ g,f=g+1:=⟨f-1,om⟩
   have c:o≠T4/\o≠nmB/\¬ (o=W9\/o=Y4):=by rcases h with rfl|rfl|rfl|rfl<;>decide
   have p:o.length<=1:=by rcases h with rfl|rfl|rfl|rfl<;>simp
   have q:=iha f (lvl o) om;have r:=ihb f (lvl o+1) om;unfold L9;rw[z0z c.1,z0z c.2.1];dsimp only;rw[z0z c.2.2];refine PZ ?_;simp only[AG,W4,Hf];omega
 | @mm k j m i o a b h ha hb iha ihb=>
   intro f G7 l;obtain⟨f,rfl⟩:∃ g,f=g+1:=⟨f-1,om⟩
   have c:o≠T4/\o≠nmB:=by rcases h with rfl|rfl<;>decide
   have p:o.length<=3:=by rcases h with rfl|rfl<;>simp[W9,Y4]
   have q:=iha f 0 om;have r:=ihb f 0 om;unfold L9;rw[z0z c.1,z0z c.2];dsimp only;rw[z1z h];refine PZ ?_;simp only[AG,W4,Hf];omega
def AP8 (h:FW k m e):WfE 2 e:=by
 induction h with
 | @num n d h=>
   have c:=h.n0;have f:=h.rq.n2;have g:=h.rq.d1;have i:d<=1000000:=Int.le_of_dvd om (Int.dvd_of_emod_eq_zero h.d6);exact BK.2 ⟨by show(3:Nat)<=4;omega,by simp,⟨om,om⟩,⟨om,i⟩,by simp,DJ⟩
 | @name nm c f g=>
   have o:nm.length<=30:=by
    unfold W0 at c;simp only[T1,Ej]at c;exact c.1.2
   exact BK.2 ⟨by show(4:Nat)<=4;omega,om,om,om,by simp,DJ⟩
 |bin h j l a b=>exact BK.2 ⟨by rcases h with rfl|rfl|rfl|rfl<;>decide,by simp,om,om,by simp,V8.2 ⟨a,V8.2 ⟨b,DJ⟩⟩⟩
 |mm h j l a b=>exact BK.2 ⟨by rcases h with rfl|rfl<;>decide,by simp,om,om,by simp,V8.2 ⟨a,V8.2 ⟨b,DJ⟩⟩⟩
def NW (h:EM e=true):FW (CF e) (R0 e) e/\CF e<=12/\R0 e<=60:=by
 unfold EM at h;simp only[T1,Ej]at h;exact⟨XE _ _ (JQ _) h.1.1,h.2,h.1.2⟩
def TI (h:FW k m e) (d:k<=12) (f:m<=60):EM e=true:=by
 obtain⟨a,b,c⟩:=XH h;unfold EM;rw[a,b,c,AK f,AK d];rfl
end
end Go.Proofs.T
namespace Go.Proofs.T
open Go Go.Ab
def Bi (b:Bool) (P:Prop):Prop:=b=true↔P
def UpT (P:Nat->Prop) (k:Nat):Prop:=∀ i,i<k->P i
def EL {a:Type}(P:a->Prop) (l:List a) (i:Nat):Prop:=∀ x,l[i]? =some x->P x
def DF {a b:Type}(key:a->b) (l:List a) (x:a) (j:Nat):Prop:=∀ y,l[j]? =some y->key y≠key x
def ND {a b:Type}(g:a->Prop) (key:a->b) (l:List a) (i:Nat):Prop:=∀ x,l[i]? =some x->g x/\UpT (DF key l x) i
def SmB (m n:Int):Prop:=m<=n/\n<=1000000000
def up0 {P:Nat->Prop}:UpT P 0:=fun i h=>absurd h (Nat.not_lt_zero i)
def upS {P:Nat->Prop}{k:Nat}:UpT P (k+1)↔UpT P k/\P k :=
 ⟨fun h=>⟨fun i hi=>h i om,h k om⟩,fun h i hi=>by
  by_cases e:i=k
  ·rw[e];exact h.2
  ·exact h.1 i om⟩
def zx {b:Type}{P:b->Prop}{l:List b}{k:Nat}{x:b}(h:l[k]? =some x):EL P l k↔P x :=
 ⟨fun e=>e x h,fun p y a=>by rw[h]at a;injection a with a;exact a ▸ p⟩
def AA0 {b c:Type}{key:b->c}{l:List b}{x y:b}{j:Nat}(h:l[j]? =some y):DF key l x j↔key y≠key x :=
 ⟨fun e=>e y h,fun p z a=>by rw[h]at a;injection a with a;exact a ▸ p⟩
def nB {b c:Type}{g:b->Prop}{key:b->c}{l:List b}{k:Nat}{x:b}(h:l[k]? =some x):ND g key l k↔g x/\UpT (DF key l x) k :=
 ⟨fun e=>e x h,fun p y a=>by rw[h]at a;injection a with a;exact a ▸ p⟩
def Us {b:Type}{P:b->Prop}{l:List b}:UpT (EL P l) l.length↔∀ x∈l,P x:=by
 constructor
 ·intro h x a;obtain⟨i,hi,e⟩:=List.mem_iff_getElem.1 a;exact h i hi x (by rw[List.getElem?_eq_getElem hi,e])
 ·intro h i hi x a;exact h x (y6 a)
def JJ {d m:Type}{g:d->Prop}{key:d->m}{l:List d}:UpT (ND g key l) l.length↔(∀ x∈l,g x)/\(l.map key).Nodup:=by
 constructor
 ·intro h;refine⟨fun x b=>?_,nC.2 fun i j hi a c=>?_⟩
  ·obtain⟨i,hi,e⟩:=List.mem_iff_getElem.1 b;exact(h i hi x (by rw[List.getElem?_eq_getElem hi,e])).1
  ·rw[z2z]at hi a;rw[List.getElem_map,List.getElem_map];exact(h j a l[j] (List.getElem?_eq_getElem a)).2 i c l[i] (List.getElem?_eq_getElem hi)
 ·intro h i hi x b;refine⟨h.1 x (y6 b),fun j a y f=>?_⟩;obtain⟨n,rfl⟩:=List.getElem?_eq_some_iff.1 b;obtain⟨h2,rfl⟩:=List.getElem?_eq_some_iff.1 f;have:=nC.1 h.2 j i (by rw[z2z];omega) (by rw[z2z];omega) a;rw[List.getElem_map,List.getElem_map]at this;exact this
namespace Bi
def mk {b:Bool}{P:Prop}(h:b=true->P) (k:P->b=true):Bi b P:=⟨h,k⟩
def no {P:Prop}(h:¬P):Bi false P:=⟨fun e=>Bool.noConfusion e,fun p=>absurd p h⟩
def yes {P:Prop}(h:P):Bi true P:=⟨fun _=>h,fun _=>rfl⟩
def get {P:Prop}(h:Bi true P):P:=h.1 rfl
def not {P:Prop}(h:Bi false P):¬P:=fun p=>Bool.noConfusion (h.2 p)
def trans {b:Bool}{P Q:Prop}(h:Bi b P) (e:P↔Q):Bi b Q:=Iff.trans h e
def w {b c:Bool}(h:c=b):Bi b (c=true):=by subst h;exact Iff.rfl
def f1 {P Q:Prop}(h:Bi false P):Bi false (P/\Q):=no fun e=>h.not e.1
def t {b:Bool}{P Q:Prop}(h:Bi true P) (k:Bi b Q):Bi b (P/\Q):=⟨fun e=>⟨h.get,k.1 e⟩,fun e=>k.2 e.2⟩
def or1 {P Q:Prop} [Decidable P] (h:decide P=true):Bi true (P\/Q):=yes (.inl (z6z h))
def or2 {P Q:Prop} [Decidable P] [Decidable Q] (h:decide P=false):Bi (decide Q) (P\/Q):=⟨fun e=> .inr (z6z e),fun e=>AK (e.resolve_left (z9z h))⟩
def start {b:Bool}{X:Prop}{P:Nat->Prop}(h:Bi b X):Bi b (X/\UpT P 0):=h.trans ⟨fun x=>⟨x,up0⟩,fun x=>x.1⟩
def fs {X:Prop}{P:Nat->Prop}{j:Nat}(h:Bi false (X/\UpT P j)):Bi false (X/\UpT P (j+1)):=no fun e=>h.not ⟨e.1,(upS.1 e.2).1⟩
def dup {a c:Type}{key:a->c}{l:List a}{x y:a}{j:Nat}{X:Prop}(_:Bi true (X/\UpT (DF key l x) j)) (b:l[j]? =some y) (e:key y=key x):Bi false (X/\UpT (DF key l x) (j+1)) :=
 no fun h=>(AA0 b).1 (upS.1 h.2).2 e
def new {a c:Type}{key:a->c}{l:List a}{x y:a}{j:Nat}{X:Prop}(h:Bi true (X/\UpT (DF key l x) j)) (b:l[j]? =some y) (e:¬key y=key x):Bi true (X/\UpT (DF key l x) (j+1)) :=
 yes ⟨h.get.1,upS.2 ⟨h.get.2,(AA0 b).2 e⟩⟩
def nd {e j:Type}{b:Bool}{g:e->Prop}{key:e->j}{l:List e}{x:e}{k:Nat}{X A:Prop}(h:Bi b (X/\UpT (DF key l x) k)) (i:X=((A/\UpT (ND g key l) k)/\g x)) (f:l[k]? =some x):Bi b (A/\UpT (ND g key l) (k+1)):=by
 subst i;exact h.trans ⟨fun⟨⟨⟨a,u⟩,c⟩,d⟩=>⟨a,upS.2 ⟨u,(nB f).2 ⟨c,d⟩⟩⟩,fun⟨a,u⟩=>⟨⟨⟨a,(upS.1 u).1⟩,((nB f).1 (upS.1 u).2).1⟩,((nB f).1 (upS.1 u).2).2⟩⟩
def el {d:Type}{b:Bool}{g:d->Prop}{l:List d}{x:d}{k:Nat}{A:Prop}(h:Bi b ((A/\UpT (EL g l) k)/\g x)) (e:l[k]? =some x):Bi b (A/\UpT (EL g l) (k+1)) :=
 h.trans ⟨fun⟨⟨a,u⟩,c⟩=>⟨a,upS.2 ⟨u,(zx e).2 c⟩⟩,fun⟨a,u⟩=>⟨⟨a,(upS.1 u).1⟩,(zx e).1 (upS.1 u).2⟩⟩
end Bi
def Ad4 (x:Lot):Prop:=SmB 1 x.id/\SmB 0 x.G4
def zw (x:S8):Prop:=R4 x.name=true/\SmB 0 x.low/\SmB 0 x.high/\(x.kind=1\/x.kind=2)
def Ad5 (x:Req):Prop:=R4 x.name=true/\SmB 0 x.value/\(x.rel=[60,61]\/x.rel=[62,61])
def Ad6 (x:By):Prop:=x=Fk\/R4 x=true
def Ax9 (c:List Int):Prop:=2<=c.length/\UpT (ND (SmB 1) id c) c.length
abbrev A1 (T:Tn) (k:Nat):Prop:=True/\UpT (ND Ad4 Lot.id T.F9) k
abbrev A2 (T:Tn) (k:Nat):Prop:=A1 T T.F9.length/\UpT (ND zw S8.name T.E9) k
abbrev A3 (T:Tn) (k:Nat):Prop:=A2 T T.E9.length/\UpT (EL Ad5 T.reqs) k
abbrev A4 (T:Tn) (k:Nat):Prop:=A3 T T.reqs.length/\UpT (ND Ad6 id T.H2) k
abbrev A5 (T:Tn) (k:Nat):Prop:=A4 T T.H2.length/\UpT (EL Ax9 T.C8) k
def Bi.cmb {b:Bool}{T:Tn}{Y:Prop}{c:List Int}{k:Nat}(h:Bi b (Y/\UpT (ND (SmB 1) id c) c.length)) (e:Y=(A5 T k/\2<=c.length)) (f:T.C8[k]? =some c):Bi b (A5 T (k+1)):=by
 subst e;exact Bi.el (h.trans ⟨fun⟨⟨a,c⟩,d⟩=>⟨a,c,d⟩,fun⟨a,c,d⟩=>⟨⟨a,c⟩,d⟩⟩) f
structure LsT (T:Tn):Prop where
 n0:1<=T.F9.length
 n1:T.F9.length<=12
 n2:T.E9.length<=12
 n3:T.reqs.length<=24
 n4:T.H2.length<=12
 n5:T.C8.length<=12
 a:A5 T T.C8.length
def RnT (T:Tn):Prop:=SmB 0 T.low/\SmB 0 T.high/\SmB 0 T.G4/\SmB 0 T.C9/\SmB 0 T.t.q/\SmB 0 T.t.b/\SmB 0 T.t.g/\SmB 0 T.t.p/\SmB 0 T.t.s
def iU {T:Tn}(y:∀ c∈T.C8,c.length<=12):BL T↔(W0 T.name=true/\EM T.f=true)/\LsT T/\RnT T:=by
 constructor
 ·intro h;obtain⟨k,m,z,A,B⟩:=h.f;refine⟨⟨h.name,TI z A B⟩,⟨Pp.2 h.HM,h.F9,h.E9,h.reqs,h.H2,h.C8,⟨⟨⟨⟨⟨trivial,JJ.2 ⟨fun x e=>?_,h.ids⟩⟩,JJ.2 ⟨fun x e=>?_,h.crs⟩⟩,Us.2 fun x e=>?_⟩,JJ.2 ⟨fun x e=>h.tie x e,by rw[List.map_id];exact h.tnd⟩⟩,Us.2 fun c g=>?_⟩⟩,h.low,h.high,h.G4,h.C9,h.t.1,h.t.2.1,h.t.2.2.1,h.t.2.2.2.1,h.t.2.2.2.2⟩
  ·obtain⟨a,b,c⟩:=h.lot x e;exact⟨⟨a,b⟩,c⟩
  ·obtain⟨a,b,c,d⟩:=h.Y7 x e;exact⟨a,c,d,b⟩
  ·obtain⟨a,b,c⟩:=h.req x e;exact⟨a,c,by simpa using b⟩
  ·obtain⟨a,b,c,d⟩:=h.combo c g;exact⟨a,JJ.2 ⟨fun n C=>d n C,by rw[List.map_id];exact c⟩⟩
 ·rintro⟨⟨u,v⟩,⟨D,E,F,G,H,I,⟨⟨⟨⟨⟨-,j⟩,l⟩,o⟩,p⟩,q⟩⟩,J,K,L,M,N⟩;obtain⟨i,c1⟩:=JJ.1 j;obtain⟨b2,c2⟩:=JJ.1 l;have r:=Us.1 o;obtain⟨b4,c4⟩:=JJ.1 p;have s:=Us.1 q;obtain⟨f1,f2,f3⟩:=NW v;rw[List.map_id]at c4;refine⟨u,E,Pp.1 D,fun x e=>⟨(i x e).1.1,(i x e).1.2,(i x e).2⟩,c1,F,fun x e=>?_,c2,G,fun x e=>?_,J,K,⟨_,_,f1,f2,f3⟩,H,b4,c4,L,I,fun c g=>?_,M,N⟩
  ·obtain⟨a,c,d,b⟩:=b2 x e;exact⟨a,b,c,d⟩
  ·obtain⟨a,c,b⟩:=r x e;exact⟨a,by simpa using b,c⟩
  ·obtain⟨a,b⟩:=s c g;obtain⟨b,d⟩:=JJ.1 b;rw[List.map_id]at d;exact⟨a,y c g,d,b⟩
def uR {T:Tn}(b:1<=T.F9.length) (L1:T.F9.length<=12) (L2:T.E9.length<=12) (L3:T.reqs.length<=24) (L4:T.H2.length<=12) (L5:T.C8.length<=12):A5 T T.C8.length↔LsT T :=
 ⟨fun h=>⟨b,L1,L2,L3,L4,L5,h⟩,fun h=>h.a⟩
end Go.Proofs.T
