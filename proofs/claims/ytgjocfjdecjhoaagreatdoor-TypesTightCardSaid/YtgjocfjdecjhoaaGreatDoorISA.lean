/- BC2 Az6: the An4 and ours; the X6 sE. -/
import Derived.Test.YtgjocfjdecjhoaaGreatDoorIRD
set_option linter.unusedSimpArgs false
set_option linter.unusedVariables false
set_option linter.defProp false
set_option maxHeartbeats 32000000
set_option maxRecDepth 100000
namespace Go.Proofs.T
open Go Go.Ab
def xG:∀ (n u:Nat),u<=n->Lib.decDigits u=dcN u:=by
 intro n;induction n with
 | zero=>
   intro u h;obtain rfl:u=0:=om;unfold Lib.decDigits;rfl
 | succ n ih=>
   intro u h;unfold Lib.decDigits;by_cases a:u<10
   ·rw[dif_pos a,Cs a];unfold dgt;rw[RU a]
   ·rw[dif_neg a,ih (u / 10) om,Nf a];rfl
def sG {n:Int}(h:0<=n):Lib.itoa n=dcN n.toNat:=by
 unfold Lib.itoa;rw[z0z om,xG _ _ nL]
def Ii:Nat->Nat->By
 |0,_=>[]
 |k+1,f=>Ii k (f / 10)++[dgt f]
def cQ:∀ (k f:Nat),Ii (k+1) f=dgt (f / 10 ^ k)::Ii k (f % 10 ^ k):=by
 intro k;induction k with
 |zero=>intro f;show[]++[dgt f]=[dgt (f / 10 ^ 0)];simp
 | succ k ih=>
   intro f;show Ii (k+1) (f / 10)++[dgt f]=_::(Ii k (f % 10 ^ (k+1) / 10)++[dgt (f % 10 ^ (k+1))])
   rw[ih,LN];have a:f / 10 / 10 ^ k=f / 10 ^ (k+1):=by rw[Nat.div_div_eq_div_mul,HG,DG]
   have b:f / 10 % 10 ^ k=f % 10 ^ (k+1) / 10:=by rw[HG,Nat.mod_mul_left_div_self]
   have c:dgt f=dgt (f % 10 ^ (k+1)):=by
    unfold dgt;rw[Nat.mod_mod_of_dvd _ ⟨10 ^ k,by rw[HG,DG]⟩]
   rw[a,b,c]
def jn:∀ (k f:Nat),f<10 ^ k->dcN (10 ^ k+f)=49::Ii k f:=by
 intro k;induction k with
 | zero=>intro f h;obtain rfl:f=0:=by have:(10:Nat) ^ 0=1:=rfl;omega
         rfl
 | succ k ih=>
   intro f h;have d:10 ^ (k+1)=10 ^ k*10:=HG ..;have c:1<=10 ^ k:=mD om;have a:(10 ^ (k+1)+f) / 10=10 ^ k+f / 10:=om;have b:dgt (10 ^ (k+1)+f)=dgt f:=by
    unfold dgt;have:(10 ^ (k+1)+f) % 10=f % 10:=om;rw[this]
   rw[Nf om,a,b,ih (f / 10) om];rfl
def Ac:By->By
 | []=>[]
 |c::s=>if c=48/\Ac s=[]then[]else c::Ac s
def oU:∀ k:Nat,Ac (Ii k 0)=[]:=by
 intro k;induction k with
 |zero=>rfl
 | succ k ih=>
   rw[cQ,Nat.zero_div,se];show(if dgt 0=48/\Ac (Ii k 0)=[]then[]else _)=[]
   rw[z1z ⟨rfl,ih⟩]
def Am2 {k r D:Nat}(a:r≠0):frT (k+1) r D≠[]:=by
 unfold frT;rw[z0z a];intro h;exact sH _ (List.append_eq_nil_iff.1 h).1
def AJ4 {D:Nat}(z:0<D):∀ (k r f:Nat),r<D->r*10 ^ k=f*D->frT k r D=Ac (Ii k f):=by
 intro k;induction k with
 | zero=>
   intro r f A h;rfl
 | succ k ih=>
   intro r f A h;by_cases m:r=0
   ·have F:f=0:=by
     rw[m,GH]at h;rcases ue.1 h.symm with h|h<;>omega
    rw[m,F,oU];unfold frT;rw[z1z rfl]
   ·have H:10 ^ (k+1)=10*10 ^ k:=by rw[HG,DG]
    have K:1<=10 ^ k:=mD om;obtain⟨q,u⟩:=nW (10*r / D);obtain⟨s,hs⟩:=nW (10*r % D);have i:10*r=D*q+s:=by rw[<- u,<- hs];exact(Sq ..).symm
    have l:s<D:=by rw[<- hs];exact IP _ z
    have d:q<10:=by rw[<- u];exact ij (by rw[DG D];exact(uZ om).2 A)
    have key:(D*q+s)*10 ^ k=f*D:=by rw[<- i,<- h,H];rw[DG 10 r,Gb]
    -- the N7 of f
    have G:q*10 ^ k<=f:=by
     refine Nat.le_of_mul_le_mul_right (c:=D) ?_ z;rw[<- key,UF];have:q*10 ^ k*D=D*q*10 ^ k:=by rw[DG _ D,Gb]
     omega
    obtain⟨g,o⟩:∃ g,f=q*10 ^ k+g:=⟨f-q*10 ^ k,om⟩
    have b:s*10 ^ k=g*D:=by
     rw[o,UF,UF]at key;have:q*10 ^ k*D=D*q*10 ^ k:=by rw[DG _ D,Gb]
     omega
    have e:g<10 ^ k:=by
     refine AR7 (a:=D) ?_;rw[<- b,DG (10 ^ k) D];exact(Nat.mul_lt_mul_right om).2 l
    have B:f / 10 ^ k=q:=by
     rw[o,DG q,Nat.mul_add_div om,ug e];rfl
    have C:f % 10 ^ k=g:=by
     rw[o,DG q,Nat.mul_add_mod,RU e]
    have y:=ih s g l b;rw[cQ,B,C];show frT (k+1) r D=if dgt q=48/\Ac (Ii k g)=[]then[]else dgt q::Ac (Ii k g)
    rw[<- y];have n:frT (k+1) r D=if r=0 then[]else dcN (10*r / D)++frT k (10*r % D) D:=rfl
    rw[n,z0z m,u,hs,Cs d];rw[z0z]
    ·rfl
    ·rintro⟨I,J⟩;by_cases j:s=0
     ·have v:q=0:=by
       have E:∀ x,x<10->dgt x=48->x=0:=by decide
       exact E q d I
      rw[v,j,eF]at i;omega
     ·cases k with
      | zero=>
        have p:g=0:=by have:(10:Nat) ^ 0=1:=rfl;omega
        rw[p,GH]at b;have:s*10 ^ 0=s:=sI;omega
      |succ k=>exact Am2 j J
def jC {n d:Nat}(f:0<d) (j:1000000 % d=0):deT (n:Nat) (d:Nat)=dcN (n / d)++(if n % d*(1000000 / d)=0 then[]else 46::Ac ((dcN (1000000+n % d*(1000000 / d))).drop 1)):=by
 unfold deT;rw[show(n:Int).toNat=n from rfl,show(d:Int).toNat=d from rfl];refine congrArg (dcN (n / d)++·) ?_;have i:1000000 / d*d=1000000:=by
  have:=Sq 1000000 d;rw[j,j7,DG]at this;exact this
 have k:0<1000000 / d:=by
  rcases Wf (1000000 / d)with h|h
  ·rw[h,GH]at i;omega
  ·exact h
 have b:n % d<d:=IP _ f;by_cases c:n % d=0
 ·rw[z1z c,c,GH,z1z rfl]
 ·rw[z0z c,z0z (by rw[ue];omega)];have g:n % d*10 ^ 6=(n % d*(1000000 / d))*d:=by
   rw[Gb,i]
  have e:n % d*(1000000 / d)<10 ^ 6:=by
   refine AR7 (a:=d) ?_;rw[<- g,DG (n % d)];exact(uZ (by decide)).2 b
  rw[AJ4 f 6 (n % d) _ b g,show(1000000:Nat)=10 ^ 6 from rfl,jn 6 _ e];rfl
section
variable {s:By}{c:UInt8}{Z:St}
def fJ:∀ x:By,Ac (x++[48])=Ac x:=by
 intro x;induction x with
 |nil=>rfl
 | cons c x ih=>
   show(if c=48/\Ac (x++[48])=[]then[]else c::Ac (x++[48]))=(if c=48/\Ac x=[]then[]else c::Ac x)
   rw[ih]
def mV (a:c≠48):∀ x:By,Ac (x++[c])=x++[c]:=by
 intro x;induction x with
 | nil=>
   show(if c=48/\([]:By)=[]then[]else[c])=[c]
   rw[z0z (fun h=>a h.1)]
 | cons d x ih=>
   show(if d=48/\Ac (x++[c])=[]then[]else d::Ac (x++[c]))=d::(x++[c])
   rw[ih,z0z (fun h=>by simp at h)]
def aW:sub (s++[c]) s.length 1=some [c]:=by
 rw[BR (by rw[CU];simp),List.drop_left];rfl
def tL:sub (s++[c]) 0 s.length=some s:=by
 rw[BR (by rw[CU];omega),NG,List.take_left]
def tM (u:s.length<=100000):Ev (gO 244 [str s,.int .u8 48] Z) (fun r=>r=⟨false,str (Ac s),Z⟩) ⟨⟩:=by
 refine C8 Tryz.func244 rfl rfl ?_;refine gS ?_
 refine Bt (fun n a p=>p=Z/\a.get 1=some (.int .u8 48)/\∃ x:By,a.get 0=some (str x)/\x.length=n/\n<=100000/\Ac x=Ac s)
  (fun r=>∃ a,r=⟨.exit 0,a,Z⟩/\a.get 0=some (str (Ac s))) s.length ?_ ?_ ?_
 ·exact⟨rfl,fR,s,fR,rfl,u,rfl⟩
 ·rintro n a p ⟨rfl,g,x,b,v,q,j⟩;have k:x=[]\/∃ y c,x=y++[c]:=by
   rcases List.eq_nil_or_concat x with h|⟨y,c,h⟩
   ·exact .inl h
   ·exact .inr ⟨y,c,by rw[h,List.concat_eq_append]⟩
  rcases k with rfl|⟨y,c,rfl⟩
  ·have f:decide ((0:Int)<((0:Nat):Int))=false:=rfl;refine gS1 (aI b (aI g (aI f (a3N @D6 @D8 @BT)))) ?_;exact⟨_,rfl,by rw[<- j];exact fR1 b⟩
  ·have o:(y++[c]).length=y.length+1:=by rw[CU];rfl
   have f:decide ((0:Int)<(((y++[c]).length:Nat):Int))=true:=AW (by rw[o];omega);have m:(((y++[c]).length:Nat):Int)-1=(y.length:Int):=by rw[o];omega
   have l:decide (y.length<(y++[c]).length)=true:=dT;by_cases i:c=48
   ·have d:decide ((c.toNat:Int)=48)=true:=by subst i;rfl
    refine gS1 (aI b (aI g (aI f (aI m (aI l (aI @aW (aI @Fp (aI d (a5N @Yy @tL @D6 @D8 @X8))))))))) ?_;refine⟨y.length,om,by trivial,fR1 g,y,fR,rfl,om,?_⟩;rw[<- j,i,fJ]
   ·have d:decide ((c.toNat:Int)=48)=false:=z4z fun e=>i (UInt8.toNat_inj.1 (show c.toNat=48 by omega));refine gS1 (aI b (aI g (aI f (aI m (aI l (aI @aW (aI @Fp (aI d (a3N @D6 @D8 @BT))))))))) ?_;exact⟨_,rfl,by rw[<- j,mV i];exact fR1 b⟩
 ·rintro r ⟨a,rfl,b⟩;refine gS1 (aI b @Tryz.results244) ?_;try exact⟨⟩
def XQ:(Ac s).length<=s.length:=by
 induction s with
 |nil=>exact Bh _
 | cons c s ih=>
   show(if c=48/\Ac s=[]then[]else c::Ac s).length<=_;split
   ·simp
   ·rw[Ap,Ap];omega
def XP (g:s.length<=100000):Ev (gO 214 [str s,str [48]] Z) (fun r=>r=⟨false,str (Ac s),Z⟩) ⟨⟩:=by
 refine C8 Tryz.func214 rfl rfl ?_;by_cases e:s=[]
 ·subst e;refine gS1 (a3N @D6 @D8 @Tryz.results214) ?_;rfl
 ·have f:decide (s=[])=false:=z4z e;have a:decide (([48]:By)=[])=false:=rfl;have d:sub ([48]:By) 0 1=some [48]:=rfl;have b:decide (((48:UInt8).toNat:Int)<128)=true:=rfl;have h:decide (((1:Nat):Int)=1)=true:=rfl;refine gS1 (aI f (aI a (aI h (aI d (aI b @Fp))))) ?_;refine(tM g).mono ?_;rintro r rfl;refine gS1 @Tryz.results214 ?_;try exact⟨⟩
end
def VM:Cy (some AO) (some AO)=true:=kR
def sF {Z:St}{n:Nat}(b:n<=9223372036854775807) (a:Z.read 0 0 20=some AO):go Tryz.prog HS (.fn 35) [.int .i64 (n:Nat)] Z=some ⟨false,str (dcN n),Z⟩:=by
 have e:go Tryz.prog HS (.fn 35) [.int .i64 (n:Nat)] Z=bb (Cy (Z.read 0 0 20) (some AO)) (bb (decide (-9223372036854775808<=(n:Int)/\(n:Int)<=9223372036854775807)) (some ⟨false,.string ⟨(Lib.itoa (n:Nat)).toArray⟩,Z⟩)):=rfl;rw[e,a,VM,DA,dT,DA,sG om];rfl
def NR {Z:St}{op:By}:Ev (gO 184 [str op] Z) (fun r=>r=⟨false,.int .i64 (lvl op:Nat),Z⟩) ⟨⟩:=by
 refine C8 Tryz.func184 rfl rfl ?_;unfold lvl;have c1:decide (([45]:By)=[43])=false:=rfl;have e:decide (([42]:By)=[43])=false:=rfl;have f:decide (([42]:By)=[45])=false:=rfl;have g:decide (([47]:By)=[43])=false:=rfl;have h:decide (([47]:By)=[45])=false:=rfl;have i:decide (([47]:By)=[42])=false:=rfl;by_cases a:op=[43]
 ·subst a;refine gS1 @Tryz.results184 ?_;rfl
 ·have j:decide (op=[43])=false:=z4z a;by_cases b:op=[45]
  ·subst b;refine gS1 (aI c1 @Tryz.results184) ?_;rfl
  ·have k:decide (op=[45])=false:=z4z b;by_cases c:op=[42]
   ·subst c;refine gS1 (aI e (aI f @Tryz.results184)) ?_;rfl
   ·have l:decide (op=[42])=false:=z4z c;by_cases d:op=[47]
    ·subst d;refine gS1 (aI g (aI h (aI i @Tryz.results184))) ?_;rfl
    ·have m:decide (op=[47])=false:=z4z d;rw[z0z (by simp[a,b]),z0z (by simp[c,d])];refine gS1 (aI j (aI k (aI l (aI m @Tryz.results184)))) ?_;rfl
def yI {Z:St}{n d:Nat}(k:0<d) (s:1000000 % d=0) (hn:n<=1000000000000000) (V:Z.read 0 0 20=some AO) (Y:0<Z.n) :
  Ev (gO 185 [.agg ⟨[.int .i64 (n:Nat),.int .i64 (d:Nat)]⟩] Z) (fun r=>∃ Z',r=⟨false,str (deT (n:Nat) (d:Nat)),Z'⟩/\Ext Z Z') ⟨⟩:=by
 have u:d<=1000000:=Nat.le_of_dvd om (Nat.dvd_of_mod_eq_zero s);obtain⟨S,a⟩:=nW (Z.new [.int .i64 (n:Nat),.int .i64 (d:Nat)]);have b:S.read 0 0 20=some AO:=by rw[<- a,Zt _ _ _ _ om];exact V
 rw[jC k s];obtain⟨F,i⟩:=nW (n % d*(1000000 / d));have J:F<1000000:=by
  have U:1000000 / d*d=1000000:=by
   have:=Sq 1000000 d;rw[s,j7,DG]at this;exact this
  have W:0<1000000 / d:=Nat.div_pos u k;rw[<- i];have:=(Nat.mul_lt_mul_right W).2 (IP n k);rw[DG d,U]at this;exact this
 have z:n / d<=n:=KD n d;have A:1000000 / d<=1000000:=KD _ d;have y:n % d<d:=IP _ k;obtain⟨Q,j⟩:=nW (1000000 / d);obtain⟨M,hM⟩:=nW (n % d);obtain⟨K,hK⟩:=nW (n / d);have e:(n:Int).tmod (d:Nat)=(M:Int):=by rw[<- hM];rfl
 have f:(1000000:Int).tdiv (d:Nat)=(Q:Int):=by rw[<- j];rfl
 have h:(n:Int).tdiv (d:Nat)=(K:Int):=by rw[<- hK];rfl
 rw[j,hM]at i;have g:(M:Int)*(Q:Int)=(F:Int):=by rw[<- i];rfl
 rw[j,hM,hK,i];rw[j]at A;rw[hM]at y;rw[hK]at z;have I:(1000000:Int)+(F:Int)=((1000000+F:Nat):Int):=om;have o:decide (d=0)=false:=dF;have p:decide ((d:Int)=0)=false:=dF;have E:=sF (Z:=S) (n:=K) om b;have G:=sF (Z:=S) (n:=1000000+F) om b;have R:(dcN K).length<=20:=Ks 19 K om;have v:(dcN (1000000+F)).length<=20:=Ks 19 (1000000+F) om;have B:Ext Z S:=by rw[<- a];exact eX
 have m:S.row Z.n=some [.int .i64 (n:Nat),.int .i64 (d:Nat)]:=by rw[<- a];exact cL
 refine C8 Tryz.func185 rfl rfl ?_;by_cases C:F=0
 ·have q:decide ((F:Int)=0)=true:=dT;rw[z1z C,Du];refine gS1 (aI e (aI f (aI g (aI h (aI o (aI p (aI a m))))))) ?_
  try refine dW ?_
  try(refine gS1 (aI e (aI f (aI g (aI h (aI o (aI p (aI a (aI m (aI q (aI E @Tryz.results185)))))))))) ?_;try exact⟨⟩)
  exact⟨_,rfl,B⟩
 ·have q:decide ((F:Int)=0)=false:=dF;rw[z0z C];have O:(dcN (1000000+F)).drop 1=(dcN (1000000+F)).drop 1:=rfl;obtain⟨L,D⟩:=nW (dcN (1000000+F));rw[D]at G v ⊢;have N:1<=L.length:=by
   rw[<- D];rcases hx:dcN (1000000+F)with _|⟨c,l⟩
   ·exact absurd hx (sH _)
   ·simp
  have X:sub L 1 (L.length-1)=some (L.drop 1):=by rw[BR om];exact congrArg some (Og (by rw[MD];omega))
  have H:(L.drop 1).length<=20:=by rw[MD];omega
  refine gS1 (aI e (aI f (aI g (aI h (aI o (aI p (aI a m))))))) ?_
  try refine dW ?_
  try(refine gS1 (aI e (aI f (aI g (aI h (aI I (aI o (aI p (aI a (aI m (aI q (aI E (aI G X)))))))))))) ?_;try exact⟨⟩)
  refine(XP om).mono ?_;rintro r rfl;have ht:=@XQ (L.drop 1);refine gS1 @Tryz.results185 ?_;refine⟨_,?_,B⟩;rw[OU];rfl
def CB {Z Z':St}(b:Ext Z Z') (a:0<Z.n) (c:Z.read 0 0 20=some AO):Z'.read 0 0 20=some AO:=by
 rw[Eh,b.row a,<- Eh];exact c
def JA (e:Ex) (f:Nat):Prop:=∀ {Z:St}{row:List Value}{G4:Nat},G4<=3->Z.read 0 0 20=some AO->0<Z.n->P8 Z row e ->
 Ev (gO 139 [.agg ⟨row⟩,.int .i64 (G4:Nat)] Z) (fun r=>∃ Z',r=⟨false,str (K6 f G4 e),Z'⟩/\Ext Z Z') ⟨⟩
def iH {s:By}:par true s=[40]++s++[41]:=by unfold par;simp
def AN6 {s:By}:par false s=s:=rfl
def qU {n d:Int}(h:Jk n d) (F:n<=1000000000000000) (f:Nat):JA (.mk K8 n d [] []) (f+1):=by
 intro Z row G4 y z q u;obtain⟨v,B,rfl,-,-,-⟩:=u;have E:=h.rq.d1;have k:=h.n0;have s:=h.d6;obtain⟨N,rfl⟩:=FM k;obtain⟨D,rfl⟩:=FM (show 0<=d by omega);have i:1000000 % D=0:=by
  have j:((1000000 % D:Nat):Int)=0:=s;exact Int.ofNat.inj j
 have A:K6 (f+1) G4 (.mk K8 (N:Nat) (D:Nat) [] [])=par (decide (lvl K8<G4)) (deT (N:Nat) (D:Nat)):=rfl;rw[A,show lvl K8=2 from rfl];have m:(deT (N:Nat) (D:Nat)).length+8<=50:=by
  have:=Di (.num h) 1 0 nL;exact this
 obtain⟨R,a⟩:∃ R:List Value,[str K8,.int .i64 (N:Nat),.int .i64 (D:Nat),str [],v]=R:=⟨_,rfl⟩
 have q0:sub R 0 1=some [str K8]:=by rw[<- a];rfl
 have q1:sub R 1 2=some [.int .i64 (N:Nat),.int .i64 (D:Nat)]:=by rw[<- a];rfl
 have o:sub R 0 5=some R:=by rw[<- a];rfl
 have p:R.length=5:=by rw[<- a];rfl
 rw[show(Value.agg ⟨[str K8,.int .i64 (N:Int),.int .i64 (D:Int),str [],v]⟩)= .agg ⟨R⟩from by rw[<- a]];have c1:decide (K8=[110,117,109])=true:=rfl;have e:Ext Z (Z.new R):=eX;refine C8 Tryz.func139 rfl rfl ?_;refine gS1 (aI o (aI p q0)) ?_;refine NR.mono ?_;rintro r rfl;rw[show lvl K8=2 from rfl];refine gS1 (aI o (aI p (aI q0 (aI q1 c1)))) ?_;refine(yI om i om (CB e q z) (by first|(simp;done)|(simp;omega))).mono ?_;rintro r ⟨C,rfl,l⟩;have b:decide ((2:Int)<(G4:Int))=decide (2<G4):=by rw[z7z,z3z,z3z];omega
 cases c:decide (2<G4)with
 | true=>
   have g:decide ((2:Int)<(G4:Int))=true:=by rw[b];exact c
   refine gS1 (aI c (aI b (aI g @Tryz.results139))) ?_;exact⟨_,by rw[iH]<;>rfl,e.trans l⟩
 | false=>
   have g:decide ((2:Int)<(G4:Int))=false:=by rw[b];exact c
   refine gS1 (aI c (aI b (aI g @Tryz.results139))) ?_;exact⟨_,rfl,e.trans l⟩
section
variable {s:By}{n d:Nat}
def PF (c x:UInt8) (s:By):NZ c (x::s)=bi (x==c) 0 (bi (ilt (NZ c s) 0) (-1) (NZ c s+1)):=by rw[<- fH];rfl
def Vj {c:UInt8}:∀ {s:By},(∀ x∈s,x≠c)->NZ c s= -1
 | [],_=>rfl
 | x::s,h=>by
   have hx:(x==c)=false:=by rw[Aa1];exact h x (HV ..)
   rw[PF,hx,Vj fun y a=>h y (De _ a)];rfl
def ji {c:UInt8}:∀ {s t:By},(∀ x∈s,x≠c)->NZ c (s++c::t)=(s.length:Nat)
 | [],t,_=>by
   rw[MC,PF,beq_self_eq_true];rfl
 | x::s,t,h=>by
   have hx:(x==c)=false:=by rw[Aa1];exact h x (HV ..)
   rw[LN,PF,hx,ji fun y a=>h y (De _ a)];have e:ilt (s.length:Int) 0=false:=rfl;rw[e,Ap];rfl
def Vg (h:∀ x∈s,x≠46):CM s=(s,[]):=by
 unfold CM;rw[Vj h];rfl
def AE6 {t:By}(h:∀ x∈s,x≠46):CM (s++46::t)=(s,t):=by
 unfold CM;rw[ji h,z0z (by rw[EO];omega)];rw[show(s.length:Int).toNat=s.length from rfl];simp
def AE7 (h:s.all (on P9)=true):∀ x∈s,x≠46:=fun x a e=>by
 have:=GY.1 h x a;rw[e]at this;exact absurd this (by decide)
def TZ {a b:By}:Jd n (a++b)=Jd (Jd n a) b:=by unfold Jd;rw[aX]
def uW {c:Nat}:Jd n [dgt c]=10*n+c % 10:=by
 show 10*n+((dgt c).toNat+208) % 256=_;rw[Nl];omega
def Ta:∀ (k n f:Nat),f<10 ^ k->Jd n (Ii k f)=n*10 ^ k+f
 | 0,n,f,h=>by
   have h1:(10:Nat) ^ 0=1:=rfl;show n=n*10 ^ 0+f;omega
 | k+1,n,f,h=>by
   have h1:10 ^ (k+1)=10 ^ k*10:=HG ..;show Jd n (Ii k (f / 10)++[dgt f])=_;rw[TZ,Ta k n (f / 10) om,uW,h1,<- Gb];omega
def Ma {n:Nat}:∀ z,Jd n (List.replicate z 48)=n*10 ^ z
 |0=>by simp[Jd]
 | z+1=>by
   rw[List.replicate_succ'];rw[TZ,Ma z,HG,<- Gb];show 10*(n*10 ^ z)+(48+208) % 256=_;omega
def Vk:∀ s:By,∃ z,s=Ac s++List.replicate z 48/\(Ac s).getLast? ≠some 48
 | []=>⟨0,rfl,by simp[Ac]⟩
 | c::s=>by
   obtain⟨z,h1,h2⟩:=Vk s;have e:Ac (c::s)=if c=48/\Ac s=[]then[]else c::Ac s:=rfl
   rw[e];by_cases h:c=48/\Ac s=[]
   ·rw[z1z h];refine⟨z+1,?_,by simp⟩;rw[h.2,MC]at h1;rw[h.1,MC,AP8,<- h1]
   ·rw[z0z h];refine⟨z,by rw[LN,<- h1],?_⟩;cases ht:Ac s with
    | nil=>
      intro e;rw[List.getLast?_singleton]at e;exact h ⟨by cases e;rfl,ht⟩
    | cons x w=>
      rw[List.getLast?_cons_cons,<- ht];exact h2
def uX (h:s.getLast? ≠some 48):oh s=false:=by
 unfold oh;refine z4z fun e=>h ?_;cases s with
 |nil=>simp at e
 | cons c w=>
   rw[List.getLast?_eq_getElem?];have a:=congrArg (fun z=>z[0]?) e;rw[List.getElem?_drop]at a
   simpa using a
def jl:∀ (k f:Nat),(Ii k f).length=k
 |0,_=>rfl
 |k+1,f=>by show(Ii k (f / 10)++[dgt f]).length=_;rw[CU,jl k];rfl
def jm:∀ (k f:Nat),(Ii k f).all (on P9)=true
 |0,_=>rfl
 |k+1,f=>by show(Ii k (f / 10)++[dgt f]).all _=_;rw[tN,jm k,Od,XZ];rfl
def nO {M P:Nat}(h:M*d=n*P) (g:Nat.gcd n d=1) (j:0<n) (l:0<P):M / Nat.gcd M P=n/\P / Nat.gcd M P=d:=by
 have i:n∣M:=by
  refine Nat.Coprime.dvd_of_dvd_mul_right (k:=n) (n:=d) g ⟨P,h⟩
 obtain⟨c,rfl⟩:=i;have a:P=c*d:=by
  rw[Gb]at h;exact(AP9 j h).symm
 have f:0<c:=by
  rcases Wf c with e|e
  ·rw[e,GH]at a;omega
  ·exact e
 have b:Nat.gcd (n*c) P=c:=by
  rw[a,DG n c,Nat.gcd_mul_left,g,Ip]
 rw[b];exact⟨Nat.mul_div_cancel _ f,by rw[a,DG];exact Nat.mul_div_cancel _ f⟩
def nP (U:Nat.gcd n d=1) (S:0<d) (B:1000000 % d=0) (hn:n<=1000000000*d):Jk (n:Nat) (d:Nat):=by
 have a0:d<=1000000:=Nat.le_of_dvd om (Nat.dvd_of_mod_eq_zero B);have y:RQ (n:Nat) (d:Nat):=⟨om,om,om,om,U⟩
 have q:1000000 / d*d=1000000:=by
  have:=Sq 1000000 d;rw[B,j7,DG]at this;exact this
 have m:(1000000:Int) % (d:Nat)=0:=by
  have:((1000000 % d:Nat):Int)=0:=by rw[B];rfl
  exact this
 obtain⟨Q,R⟩:=nW (1000000 / d);rw[R]at q;have E:0<Q:=by
  rcases Wf Q with h|h
  ·rw[h,GH]at q;omega
  ·exact h
 obtain⟨k,V⟩:=nW (n / d);obtain⟨r,hr⟩:=nW (n % d);have f:n=d*k+r:=by rw[<- V,<- hr];exact(Sq ..).symm
 have K:r<d:=by rw[<- hr];exact IP _ S
 obtain⟨F,j⟩:=nW (r*Q);have u:n*Q=k*1000000+F:=by
  rw[f,UF,j,<- q,DG d k,Gb,DG d Q]
 have b:F<1000000:=by
  rw[<- j,<- q,DG r Q];exact(uZ E).2 K
 have a:=jC (n:=n) S B;rw[R,V,hr,j]at a;obtain⟨N,O⟩:=AA5 k;obtain⟨b1,-,c,w,b3,-⟩:=TJ (k+1) k (Jt _);have l:=AE7 b1;by_cases C:F=0
 ·have g:r=0:=by
   rw[C]at j;rcases ue.1 j with h|h<;>omega
  have o:d=1:=by
   have:Nat.gcd n d=d:=by rw[f,g,j7];exact Nat.gcd_eq_right ⟨k,rfl⟩
   omega
  rw[z1z C,Du]at a;have H:k=n:=by rw[g,o]at f;omega
  refine⟨y,om,m,.inl ⟨c,w,by rw[a];exact b3,by rw[<- b3];exact b1⟩,fun D4 i p L=>WH ?_ D4 i p L⟩;rw[a];unfold og;rw[Vg l,N,O];have X:oh []=false:=rfl;rw[z1z (by rw[X];rfl),z1z (by rw[dT];simp)];have Y:Jd k []=k:=rfl;rw[Jg,jK,Y,Nat.gcd_one_right,qG,H,o]
 ·rw[z0z C]at a;have J:(dcN (1000000+F)).drop 1=Ii 6 F:=by
   rw[show(1000000:Nat)=10 ^ 6 from rfl,jn 6 F b];rfl
  rw[J]at a;obtain⟨z,A,W⟩:=Vk (Ii 6 F);obtain⟨t,ht⟩:=nW (Ac (Ii 6 F));rw[ht]at A W a;have tl:t.length+z=6:=by
   have:=congrArg List.length A;rw[jl,CU,List.length_replicate]at this;omega
  have td:t.all (on P9)=true:=by
   have:=jm 6 F;rw[A,tN,R2]at this;exact this.1
  have tv:Jd k t*10 ^ z=n*Q:=by
   have:=Ta 6 k F b;rw[A,TZ,Ma]at this;rw[this,u]
  have M:t≠[]:=by
   intro e;have:=Ta 6 0 F b;rw[A,e,MC,Ma]at this;omega
  have G:k<1000000000:=by
   have g:0<r:=by
    rcases Wf r with h|h
    ·rw[h,GH]at j;omega
    ·exact h
   have Z:d*k<d*1000000000:=om;exact Nat.lt_of_mul_lt_mul_left Z
  have I:0<n:=by
   rcases Wf n with h|h
   ·rw[h,GH]at u;omega
   ·exact h
  have D:Jd k t*d=n*10 ^ t.length:=by
   have hz:0<10 ^ z:=mD om;refine Nat.eq_of_mul_eq_mul_right hz ?_;rw[Gb n,<- Nat.pow_add,tl,Gb,DG d,<- Gb,tv,Gb,q]
  obtain⟨l1,l2⟩:=nO D U I (mD om);obtain⟨x,v,hxv⟩:∃ x v,t=x::v:=by
   cases t with
   |nil=>exact absurd rfl M
   |cons x v=>exact⟨x,v,rfl⟩
  refine⟨y,om,m,.inr ⟨c,w,x,v,by rw[a,b3,hxv],by rw[<- b3];exact b1,by rw[<- hxv];exact td⟩,fun D4 i p L=>WH ?_ D4 i p L⟩;rw[a];unfold og;rw[AE6 l];dsimp only;rw[N,O,uX W,z1z (show(true&& !false)=true from rfl),z1z (by rw[dT,dT,AW G];rfl),l1,l2]
def qE {n d:Int}(e:Int.gcd n d=1) (f:1<=d) (b:0<=n) (c:(1000000:Int) % d=0) (g:n<=1000000000*d):Jk n d:=by
 obtain⟨N,rfl⟩:=FM b;obtain⟨D,rfl⟩:=FM (show 0<=d by omega);refine nP e om ?_ om;have a:((1000000 % D:Nat):Int)=0:=c;exact Int.ofNat.inj a
end
section
variable {e:Ex}{w:Nat}{op nm:By}{n d:Int}{args es:List Ex}
mutual
def Y5:Ex->Nat
 | .mk _ _ _ _ args=>1+JK args
def JK:List Ex->Nat
 | []=>0
 |e::es=>Y5 e+JK es
end
mutual
def WfE (w:Nat):Ex->Prop
 | .mk op n d nm args=>op.length<=4/\nm.length<=31/\(-1<=n/\n<=1000000000000001)/\(0<=d/\d<=1000000)/\args.length<=w/\WfL w args
def WfL (w:Nat):List Ex->Prop
 | []=>True
 |e::es=>WfE w e/\WfL w es
end
def AY:Y5 (.mk op n d nm args)=1+JK args:=by unfold Y5;rfl
def V0:JK (e::es)=Y5 e+JK es:=by rw[JK]
def Y9:JK []=0:=by unfold JK;rfl
def RM:1<=Y5 e:=by cases e;rw[AY];omega
def Gu:WfE w (.mk op n d nm args)↔(op.length<=4/\nm.length<=31/\(-1<=n/\n<=1000000000000001)/\(0<=d/\d<=1000000)/\args.length<=w/\WfL w args):=by unfold WfE;exact Iff.rfl
def Ho:WfL w []:=by unfold WfL;trivial
def DH:WfL w (e::es)↔(WfE w e/\WfL w es):=by rw[WfL]
mutual
theorem WfE.mono {w v:Nat}(h:w<=v):∀ {e:Ex},WfE w e->WfE v e
 | .mk op n d nm args,k=>by
   obtain⟨k1,k2,k3,k4,k5,k6⟩:=Gu.1 k;exact Gu.2 ⟨k1,k2,k3,k4,om,WfL.mono h k6⟩
theorem WfL.mono {w v:Nat}(h:w<=v):∀ {es:List Ex},WfL w es->WfL v es
 | [],_=>Ho
 |e::es,k=>DH.2 ⟨WfE.mono h (DH.1 k).1,WfL.mono h (DH.1 k).2⟩
end
end
section
variable {e:Ex}{op nm:By}{n d:Int}{args es:List Ex}
def AL (op:By) (n d:Int) (nm:By) (len:Nat):Bool :=
 if op=K8 then Dd n d&&decide (0<=n)&&decide ((1000000:Int) % d=0)&&decide (n<=1000000000*d)&&decide (nm=[])&&decide (len=0)
 else if op=nmB then AP nm&& !decide (nm=Q7)&& !decide (nm=R4)&&(decide (n=0)&&decide (d=0))&&decide (len=0)
 else if op=[43]\/op=[45]\/op=[42]\/op=[47]\/op=Q7\/op=R4 then(decide (n=0)&&decide (d=0))&&decide (nm=[])&&decide (len=2)
 else false
mutual
def DC:Ex->Bool
 | .mk op n d nm args=>AL op n d nm args.length&&CX args
def CX:List Ex->Bool
 | []=>true
 |e::es=>DC e&&CX es
end
mutual
def AR:Ex->Nat
 | .mk _ _ _ _ args=>1+Iy args
def Iy:List Ex->Nat
 | []=>0
 |e::es=>max (AR e) (Iy es)
end
def AX:DC (.mk op n d nm args)=(AL op n d nm args.length&&CX args):=by unfold DC;rfl
def Be:CX []=true:=by unfold CX;rfl
def AS:CX (e::es)=(DC e&&CX es):=by rw[CX]
def DQ:AR (.mk op n d nm args)=1+Iy args:=by unfold AR;rfl
def CT:Iy []=0:=by unfold Iy;rfl
def An:Iy (e::es)=max (AR e) (Iy es):=by rw[Iy]
def Yu:∀ (s:Nat) (e:Ex),SizeOf.sizeOf e<s->DC e=true->FW (AR e) (Y5 e) e:=by
 intro s;induction s with
 |zero=>intro e h;omega
 | succ s ih=>
   intro e q h;obtain⟨op,n,d,nm,args⟩:=e;rw[AX,R2]at h;obtain⟨h1,h2⟩:=h;rw[DQ,AY];unfold AL at h1;by_cases c1:op=K8
   ·rw[z1z c1]at h1;unfold Dd at h1;simp only[R2,EO]at h1;obtain⟨⟨⟨⟨⟨⟨i,j⟩,k⟩,l⟩,o⟩,p⟩,y⟩:=h1;obtain rfl:args=[]:=WI y;rw[c1,p,CT,Y9];exact .num (qE j i k l o)
   ·rw [z0z c1]at h1;by_cases m:op=nmB
    ·rw[z1z m]at h1;simp only[R2,EO,Bool.not_eq_true',Ob]at h1;obtain⟨⟨⟨⟨i,j⟩,k⟩,l,o⟩,p⟩:=h1;obtain rfl:args=[]:=WI p;rw[m,l,o,CT,Y9];exact .name i j k
    ·rw[z0z m]at h1;split at h1
     ·rename_i r;simp only[R2,EO]at h1;obtain⟨⟨⟨i,j⟩,k⟩,l⟩:=h1;obtain⟨a,b,rfl⟩:∃ a b,args=[a,b]:=by
       match args,l with
       | [a,b],_=>exact⟨a,b,rfl⟩
      rw[AS,AS,Be,dR,R2]at h2;have z:SizeOf.sizeOf a<s:=by simp at q;omega
      have A:SizeOf.sizeOf b<s:=by simp at q;omega
      have f:=ih a z h2.1;have g:=ih b A h2.2;rw[i,j,k,An,An,CT,V0,V0,Y9];have u:1+max (AR a) (max (AR b) 0)=1+max (AR a) (AR b):=om;have v:1+(Y5 a+(Y5 b+0))=Y5 a+Y5 b+1:=om;rw[u,v];rcases r with c|c|c|c|c|c
      ·exact .bin (.inl c) f g
      ·exact .bin (.inr (.inl c)) f g
      ·exact .bin (.inr (.inr (.inl c))) f g
      ·exact .bin (.inr (.inr (.inr c))) f g
      ·exact .mm (.inl c) f g
      ·exact .mm (.inr c) f g
     ·cases h1
def AF (e:Ex):Bool:=DC e&&decide (Y5 e<=60)&&decide (AR e<=12)
def Yv {k m:Nat}(h:FW k m e):DC e=true/\AR e=k/\Y5 e=m:=by
 induction h with
 | @num n d h=>
   rw[AX,DQ,AY,Be,CT,Y9];refine⟨?_,rfl,rfl⟩;unfold AL Dd;rw[z1z rfl,AW h.rq.d1,AW h.rq.low,AW h.n0,AW h.d6,AW h.rq.n2];rfl
 | @name nm h1 h2 h3=>
   rw[AX,DQ,AY,Be,CT,Y9];refine⟨?_,rfl,rfl⟩;unfold AL;rw[z0z (by decide),z1z rfl,h1,z4z h2,z4z h3];rfl
 | @bin k j m i o a b h ha hb iha ihb=>
   rw[AX,DQ,AY,AS,AS,Be,An,An,CT,V0,V0,Y9,iha.1,ihb.1,iha.2.1,iha.2.2,ihb.2.1,ihb.2.2];refine⟨?_,om,om⟩;unfold AL;rw[z0z (by rcases h with rfl|rfl|rfl|rfl<;>decide),z0z (by rcases h with rfl|rfl|rfl|rfl<;>decide),z1z (by rcases h with h|h|h|h<;>simp[h])];rfl
 | @mm k j m i o a b h ha hb iha ihb=>
   rw[AX,DQ,AY,AS,AS,Be,An,An,CT,V0,V0,Y9,iha.1,ihb.1,iha.2.1,iha.2.2,ihb.2.1,ihb.2.2];refine⟨?_,om,om⟩;unfold AL;rw[z0z (by rcases h with rfl|rfl<;>decide),z0z (by rcases h with rfl|rfl<;>decide),z1z (by rcases h with h|h<;>simp[h])];rfl
end
section
variable {e:Ex}{k m:Nat}{t:By}{b:Bool}
def uO {nm:By}(h:AP nm=true):WG (CM nm).1=false:=by
 obtain⟨c,w,rfl,a,d⟩:=MV h;rw[Vg fun x g e=>by
  have:=GY.1 d x g;rw[e]at this;exact absurd this (by decide)]
 cases f:WG (c::w)
 ·rfl
 ·have i:=ku (GY.1 (uP f).1 c (HV ..));unfold on FE at a;simp at a;omega
def AE1 (t:By):Prop:=t.length<=30/\(WG (CM t).1=true->(CM t).1.length<19)
def Ab9:(CM t).1.length<=t.length:=by
 unfold CM;split
 ·exact Bh _
 ·rw[Jw];omega
def DL (h:t.length<=17):AE1 t:=⟨om,fun _=>by have:=Ab9 (t:=t);omega⟩
def LA {ts:List By}(h:∀ t∈ts,AE1 t):∀ t∈MU b ts,AE1 t:=by
 unfold MU;split
 ·intro t ht;rcases W1.1 ht with rfl|ht
  ·exact DL (by simp)
  ·rcases EM.1 ht with ht|ht
   ·exact h t ht
   ·rw[JB]at ht;subst ht;exact DL (by simp)
 ·exact h
def AE2 (h:FW k m e):∀ f G4,k<=f->∀ t∈U9 f G4 e,AE1 t:=by
 induction h with
 | @num n d h=>
   intro f G4 l;obtain⟨f,rfl⟩:∃ g,f=g+1:=⟨f-1,om⟩
   unfold U9;rw[z1z rfl];refine LA fun t ht=>?_;rw[JB]at ht;subst ht;exact DL (XJ h)
 | @name nm h h1 h2=>
   intro f G4 l;obtain⟨f,rfl⟩:∃ g,f=g+1:=⟨f-1,om⟩
   unfold U9;rw[z0z (by decide),z1z rfl];refine LA fun t ht=>?_;rw[JB]at ht;subst ht;refine⟨?_,fun c=>by rw[uO h]at c;cases c⟩;unfold AP at h;simp only[R2,EO]at h;exact h.1.2
 | @bin k j m i o a b h ha hb iha ihb=>
   intro f G4 l;obtain⟨f,rfl⟩:∃ g,f=g+1:=⟨f-1,om⟩
   have c:o≠K8/\o≠nmB/\¬ (o=Q7\/o=R4):=by rcases h with rfl|rfl|rfl|rfl<;>decide
   have p:o.length<=17:=by rcases h with rfl|rfl|rfl|rfl<;>simp
   unfold U9;rw[z0z c.1,z0z c.2.1];dsimp only;rw[z0z c.2.2];refine LA fun t ht=>?_;rcases EM.1 ht with ht|ht
   ·exact iha f _ om t ht
   ·rcases W1.1 ht with rfl|ht
    ·exact DL p
    ·exact ihb f _ om t ht
 | @mm k j m i o a b h ha hb iha ihb=>
   intro f G4 l;obtain⟨f,rfl⟩:∃ g,f=g+1:=⟨f-1,om⟩
   have c:o≠K8/\o≠nmB:=by rcases h with rfl|rfl<;>decide
   have p:o.length<=17:=by rcases h with rfl|rfl<;>simp[Q7,R4]
   unfold U9;rw[z0z c.1,z0z c.2];dsimp only;rw[z1z h];refine LA fun t ht=>?_;rcases W1.1 ht with rfl|ht
   ·exact DL p
   rcases W1.1 ht with rfl|ht
   ·exact DL (by simp)
   rcases EM.1 ht with ht|ht
   ·exact iha f _ om t ht
   rcases W1.1 ht with rfl|ht
   ·exact DL (by simp)
   rcases EM.1 ht with ht|ht
   ·exact ihb f _ om t ht
   ·rw[JB]at ht;subst ht;exact DL (by simp)
def Qq {s:By}{n:Nat}(h:s.length+2<=n):(par b s).length<=n:=by
 have:=Gi (b:=b) (s:=s);omega
def uQ (h:FW k m e):∀ f G4,k<=f->(K6 f G4 e).length<=40*m:=by
 induction h with
 | @num n d h=>
   intro f G4 l;obtain⟨f,rfl⟩:∃ g,f=g+1:=⟨f-1,om⟩
   unfold K6;rw[z1z rfl];have:=XJ h;exact Qq om
 | @name nm h h1 h2=>
   intro f G4 l;obtain⟨f,rfl⟩:∃ g,f=g+1:=⟨f-1,om⟩
   unfold K6;rw[z0z (by decide),z1z rfl];unfold AP at h;simp only[R2,EO]at h;have:=h.1.2;exact Qq om
 | @bin k j m i o a b h ha hb iha ihb=>
   intro f G4 l;obtain⟨f,rfl⟩:∃ g,f=g+1:=⟨f-1,om⟩
   have c:o≠K8/\o≠nmB/\¬ (o=Q7\/o=R4):=by rcases h with rfl|rfl|rfl|rfl<;>decide
   have p:o.length<=1:=by rcases h with rfl|rfl|rfl|rfl<;>simp
   have q:=iha f (lvl o) om;have r:=ihb f (lvl o+1) om;unfold K6;rw[z0z c.1,z0z c.2.1];dsimp only;rw[z0z c.2.2];refine Qq ?_;simp only[Ap,CU,Jg];omega
 | @mm k j m i o a b h ha hb iha ihb=>
   intro f G4 l;obtain⟨f,rfl⟩:∃ g,f=g+1:=⟨f-1,om⟩
   have c:o≠K8/\o≠nmB:=by rcases h with rfl|rfl<;>decide
   have p:o.length<=3:=by rcases h with rfl|rfl<;>simp[Q7,R4]
   have q:=iha f 0 om;have r:=ihb f 0 om;unfold K6;rw[z0z c.1,z0z c.2];dsimp only;rw[z1z h];refine Qq ?_;simp only[Ap,CU,Jg];omega
def nI (h:FW k m e) (c:k<=12) (a:m<=60):
  (K6 12 0 e).length<10000000/\K6 12 0 e≠[]/\AW4 (ZT (K6 12 0 e) 0)/\qL (ZT (K6 12 0 e) 0)= .ok e:=by
 have j:=uQ h 12 0 c;have f:lex (K6 12 0 e)=U9 12 0 e:=by
  have:=tP h 12 0 c [] tO
  rwa [Du,lex_nil,Du]at this
 have ht:(ZT (K6 12 0 e) 0).map Prod.fst=U9 12 0 e++[[]]:=by rw[lW,f]
 refine⟨om,fun g=>?_,fun t a=>?_,nJ h c c a ht⟩
 ·have d:=uR h 12 0 c;have i:=h.pos;rw[<- f,g,lex_nil]at d;simp at d;omega
 ·have a:t.1∈U9 12 0 e++[[]]:=by rw[<- ht];exact eE.2 ⟨t,a,rfl⟩
  rcases EM.1 a with a|a
  ·have d:=(AE2 h 12 0 c _ a).1;omega
  ·rw[JB]at a;rw[a];simp
def Ac0 (h:FW k m e):WfE 2 e:=by
 induction h with
 | @num n d h=>
   have f:=h.n0;have g:=h.rq.n2;have i:=h.rq.d1;have j:d<=1000000:=Int.le_of_dvd om (Int.dvd_of_emod_eq_zero h.d6);exact Gu.2 ⟨by show(3:Nat)<=4;omega,by simp,⟨om,om⟩,⟨om,j⟩,by simp,Ho⟩
 | @name nm f g i=>
   have p:nm.length<=30:=by
    unfold AP at f;simp only[R2,EO]at f;exact f.1.2
   exact Gu.2 ⟨by show(4:Nat)<=4;omega,om,om,om,by simp,Ho⟩
 |bin h l o a c=>exact Gu.2 ⟨by rcases h with rfl|rfl|rfl|rfl<;>decide,by simp,om,om,by simp,DH.2 ⟨a,DH.2 ⟨c,Ho⟩⟩⟩
 |mm h l o a c=>exact Gu.2 ⟨by rcases h with rfl|rfl<;>decide,by simp,om,om,by simp,DH.2 ⟨a,DH.2 ⟨c,Ho⟩⟩⟩
def IM (h:AF e=true):FW (AR e) (Y5 e) e/\AR e<=12/\Y5 e<=60:=by
 unfold AF at h;simp only[R2,EO]at h;exact⟨Yu _ _ (Jt _) h.1.1,h.2,h.1.2⟩
def kY (h:FW k m e) (f:k<=12) (g:m<=60):AF e=true:=by
 obtain⟨a,c,d⟩:=Yv h;unfold AF;rw[a,c,d,AW g,AW f];rfl
end
end Go.Proofs.T
namespace Go.Proofs.T
open Go Go.Ab
def Bi (b:Bool) (P:Prop):Prop:=b=true↔P
def UpT (P:Nat->Prop) (k:Nat):Prop:=∀ i,i<k->P i
def EL {a:Type}(P:a->Prop) (l:List a) (i:Nat):Prop:=∀ x,l[i]? =some x->P x
def DF {a b:Type}(key:a->b) (l:List a) (x:a) (j:Nat):Prop:=∀ y,l[j]? =some y->key y≠key x
def ND {a b:Type}(g:a->Prop) (key:a->b) (l:List a) (i:Nat):Prop:=∀ x,l[i]? =some x->g x/\UpT (DF key l x) i
def SmB (m n:Int):Prop:=m<=n/\n<=1000000000
def up0 {P:Nat->Prop}:UpT P 0:=fun i h=>absurd h (Nat.not_lt_zero i)
def upS {P:Nat->Prop}{k:Nat}:UpT P (k+1)↔UpT P k/\P k :=
 ⟨fun h=>⟨fun i hi=>h i om,h k om⟩,fun h i hi=>by
  by_cases e:i=k
  ·rw[e];exact h.2
  ·exact h.1 i om⟩
def AL1 {b:Type}{P:b->Prop}{l:List b}{k:Nat}{x:b}(h:l[k]? =some x):EL P l k↔P x :=
 ⟨fun e=>e x h,fun p y a=>by rw[h]at a;injection a with a;exact a ▸ p⟩
def AL2 {b c:Type}{key:b->c}{l:List b}{x y:b}{j:Nat}(h:l[j]? =some y):DF key l x j↔key y≠key x :=
 ⟨fun e=>e y h,fun p z a=>by rw[h]at a;injection a with a;exact a ▸ p⟩
def pC {b c:Type}{g:b->Prop}{key:b->c}{l:List b}{k:Nat}{x:b}(h:l[k]? =some x):ND g key l k↔g x/\UpT (DF key l x) k :=
 ⟨fun e=>e x h,fun p y a=>by rw[h]at a;injection a with a;exact a ▸ p⟩
def WJ {b:Type}{P:b->Prop}{l:List b}:UpT (EL P l) l.length↔∀ x∈l,P x:=by
 constructor
 ·intro h x a;obtain⟨i,hi,e⟩:=List.mem_iff_getElem.1 a;exact h i hi x (by rw[List.getElem?_eq_getElem hi,e])
 ·intro h i hi x a;exact h x (Ag a)
def Jl {d k:Type}{g:d->Prop}{key:d->k}{l:List d}:UpT (ND g key l) l.length↔(∀ x∈l,g x)/\(l.map key).Nodup:=by
 constructor
 ·intro h;refine⟨fun x b=>?_,AL3.2 fun i j hi a c=>?_⟩
  ·obtain⟨i,hi,e⟩:=List.mem_iff_getElem.1 b;exact(h i hi x (by rw[List.getElem?_eq_getElem hi,e])).1
  ·rw[z2z]at hi a;rw[List.getElem_map,List.getElem_map];exact(h j a l[j] (List.getElem?_eq_getElem a)).2 i c l[i] (List.getElem?_eq_getElem hi)
 ·intro h i hi x b;refine⟨h.1 x (Ag b),fun j a y f=>?_⟩;obtain⟨m,rfl⟩:=List.getElem?_eq_some_iff.1 b;obtain⟨h2,rfl⟩:=List.getElem?_eq_some_iff.1 f;have:=AL3.1 h.2 j i (by rw[z2z];omega) (by rw[z2z];omega) a;rw[List.getElem_map,List.getElem_map]at this;exact this
namespace Bi
def mk {b:Bool}{P:Prop}(h:b=true->P) (k:P->b=true):Bi b P:=⟨h,k⟩
def no {P:Prop}(h:¬P):Bi false P:=⟨fun e=>Bool.noConfusion e,fun p=>absurd p h⟩
def yes {P:Prop}(h:P):Bi true P:=⟨fun _=>h,fun _=>rfl⟩
def get {P:Prop}(h:Bi true P):P:=h.1 rfl
def not {P:Prop}(h:Bi false P):¬P:=fun p=>Bool.noConfusion (h.2 p)
def trans {b:Bool}{P Q:Prop}(h:Bi b P) (e:P↔Q):Bi b Q:=Iff.trans h e
def w {b c:Bool}(h:c=b):Bi b (c=true):=by subst h;exact Iff.rfl
def f1 {P Q:Prop}(h:Bi false P):Bi false (P/\Q):=no fun e=>h.not e.1
def t {b:Bool}{P Q:Prop}(h:Bi true P) (k:Bi b Q):Bi b (P/\Q):=⟨fun e=>⟨h.get,k.1 e⟩,fun e=>k.2 e.2⟩
def or1 {P Q:Prop} [Decidable P] (h:decide P=true):Bi true (P\/Q):=yes (.inl (z6z h))
def or2 {P Q:Prop} [Decidable P] [Decidable Q] (h:decide P=false):Bi (decide Q) (P\/Q):=⟨fun e=> .inr (z6z e),fun e=>AW (e.resolve_left (z9z h))⟩
def start {b:Bool}{X:Prop}{P:Nat->Prop}(h:Bi b X):Bi b (X/\UpT P 0):=h.trans ⟨fun x=>⟨x,up0⟩,fun x=>x.1⟩
def fs {X:Prop}{P:Nat->Prop}{j:Nat}(h:Bi false (X/\UpT P j)):Bi false (X/\UpT P (j+1)):=no fun e=>h.not ⟨e.1,(upS.1 e.2).1⟩
def dup {a c:Type}{key:a->c}{l:List a}{x y:a}{j:Nat}{X:Prop}(_:Bi true (X/\UpT (DF key l x) j)) (b:l[j]? =some y) (e:key y=key x):Bi false (X/\UpT (DF key l x) (j+1)) :=
 no fun h=>(AL2 b).1 (upS.1 h.2).2 e
def new {a c:Type}{key:a->c}{l:List a}{x y:a}{j:Nat}{X:Prop}(h:Bi true (X/\UpT (DF key l x) j)) (b:l[j]? =some y) (e:¬key y=key x):Bi true (X/\UpT (DF key l x) (j+1)) :=
 yes ⟨h.get.1,upS.2 ⟨h.get.2,(AL2 b).2 e⟩⟩
def nd {e j:Type}{b:Bool}{g:e->Prop}{key:e->j}{l:List e}{x:e}{k:Nat}{X A:Prop}(h:Bi b (X/\UpT (DF key l x) k)) (i:X=((A/\UpT (ND g key l) k)/\g x)) (f:l[k]? =some x):Bi b (A/\UpT (ND g key l) (k+1)):=by
 subst i;exact h.trans ⟨fun⟨⟨⟨a,u⟩,c⟩,d⟩=>⟨a,upS.2 ⟨u,(pC f).2 ⟨c,d⟩⟩⟩,fun⟨a,u⟩=>⟨⟨⟨a,(upS.1 u).1⟩,((pC f).1 (upS.1 u).2).1⟩,((pC f).1 (upS.1 u).2).2⟩⟩
def el {d:Type}{b:Bool}{g:d->Prop}{l:List d}{x:d}{k:Nat}{A:Prop}(h:Bi b ((A/\UpT (EL g l) k)/\g x)) (e:l[k]? =some x):Bi b (A/\UpT (EL g l) (k+1)) :=
 h.trans ⟨fun⟨⟨a,u⟩,c⟩=>⟨a,upS.2 ⟨u,(AL1 e).2 c⟩⟩,fun⟨a,u⟩=>⟨⟨a,(upS.1 u).1⟩,(AL1 e).1 (upS.1 u).2⟩⟩
end Bi
def An5 (x:Lot):Prop:=SmB 1 x.id/\SmB 0 x.AE
def AK6 (x:CL):Prop:=FH x.name=true/\SmB 0 x.low/\SmB 0 x.high/\(x.kind=1\/x.kind=2)
def An6 (x:Req):Prop:=FH x.name=true/\SmB 0 x.value/\(x.rel=[60,61]\/x.rel=[62,61])
def An7 (x:By):Prop:=x=J8\/FH x=true
def BC7 (c:List Int):Prop:=2<=c.length/\UpT (ND (SmB 1) id c) c.length
abbrev A1 (T:Tn) (k:Nat):Prop:=True/\UpT (ND An5 Lot.id T.AG) k
abbrev A2 (T:Tn) (k:Nat):Prop:=A1 T T.AG.length/\UpT (ND AK6 CL.name T.G7) k
abbrev A3 (T:Tn) (k:Nat):Prop:=A2 T T.G7.length/\UpT (EL An6 T.reqs) k
abbrev A4 (T:Tn) (k:Nat):Prop:=A3 T T.reqs.length/\UpT (ND An7 id T.AQ) k
abbrev A5 (T:Tn) (k:Nat):Prop:=A4 T T.AQ.length/\UpT (EL BC7 T.K7) k
def Bi.cmb {b:Bool}{T:Tn}{Y:Prop}{c:List Int}{k:Nat}(h:Bi b (Y/\UpT (ND (SmB 1) id c) c.length)) (e:Y=(A5 T k/\2<=c.length)) (f:T.K7[k]? =some c):Bi b (A5 T (k+1)):=by
 subst e;exact Bi.el (h.trans ⟨fun⟨⟨a,c⟩,d⟩=>⟨a,c,d⟩,fun⟨a,c,d⟩=>⟨⟨a,c⟩,d⟩⟩) f
structure LsT (T:Tn):Prop where
 n0:1<=T.AG.length
 n1:T.AG.length<=12
 n2:T.G7.length<=12
 n3:T.reqs.length<=24
 n4:T.AQ.length<=12
 n5:T.K7.length<=12
 a:A5 T T.K7.length
def RnT (T:Tn):Prop:=SmB 0 T.low/\SmB 0 T.high/\SmB 0 T.AE/\SmB 0 T.U6/\SmB 0 T.t.q/\SmB 0 T.t.b/\SmB 0 T.t.g/\SmB 0 T.t.p/\SmB 0 T.t.s
def kX {T:Tn}(y:∀ c∈T.K7,c.length<=12):Iq T↔(AP T.name=true/\AF T.f=true)/\LsT T/\RnT T:=by
 constructor
 ·intro h;obtain⟨k,m,z,A,B⟩:=h.f;refine⟨⟨h.name,kY z A B⟩,⟨AL4.2 h.BC8,h.AG,h.G7,h.reqs,h.AQ,h.K7,⟨⟨⟨⟨⟨trivial,Jl.2 ⟨fun x e=>?_,h.ids⟩⟩,Jl.2 ⟨fun x e=>?_,h.crs⟩⟩,WJ.2 fun x e=>?_⟩,Jl.2 ⟨fun x e=>h.tie x e,by rw[List.map_id];exact h.tnd⟩⟩,WJ.2 fun c g=>?_⟩⟩,h.low,h.high,h.AE,h.U6,h.t.1,h.t.2.1,h.t.2.2.1,h.t.2.2.2.1,h.t.2.2.2.2⟩
  ·obtain⟨a,b,c⟩:=h.lot x e;exact⟨⟨a,b⟩,c⟩
  ·obtain⟨a,b,c,d⟩:=h.Dn x e;exact⟨a,c,d,b⟩
  ·obtain⟨a,b,c⟩:=h.req x e;exact⟨a,c,by simpa using b⟩
  ·obtain⟨a,b,c,d⟩:=h.combo c g;exact⟨a,Jl.2 ⟨fun n C=>d n C,by rw[List.map_id];exact c⟩⟩
 ·rintro⟨⟨u,v⟩,⟨D,E,F,G,H,I,⟨⟨⟨⟨⟨-,j⟩,l⟩,o⟩,p⟩,q⟩⟩,r1,J,K,L,M⟩;obtain⟨i,c1⟩:=Jl.1 j;obtain⟨b2,c2⟩:=Jl.1 l;have r:=WJ.1 o;obtain⟨b4,c4⟩:=Jl.1 p;have s:=WJ.1 q;obtain⟨f1,f2,f3⟩:=IM v;rw[List.map_id]at c4;refine⟨u,E,AL4.1 D,fun x e=>⟨(i x e).1.1,(i x e).1.2,(i x e).2⟩,c1,F,fun x e=>?_,c2,G,fun x e=>?_,r1,J,⟨_,_,f1,f2,f3⟩,H,b4,c4,K,I,fun c g=>?_,L,M⟩
  ·obtain⟨a,c,d,b⟩:=b2 x e;exact⟨a,b,c,d⟩
  ·obtain⟨a,c,b⟩:=r x e;exact⟨a,by simpa using b,c⟩
  ·obtain⟨a,b⟩:=s c g;obtain⟨b,d⟩:=Jl.1 b;rw[List.map_id]at d;exact⟨a,y c g,d,b⟩
def xU {T:Tn}(b:1<=T.AG.length) (c:T.AG.length<=12) (d:T.G7.length<=12) (e:T.reqs.length<=24) (f:T.AQ.length<=12) (g:T.K7.length<=12):A5 T T.K7.length↔LsT T :=
 ⟨fun h=>⟨b,c,d,e,f,g,h⟩,fun h=>h.a⟩
end Go.Proofs.T
namespace Go.Proofs.T
open Go Go.Ab
def SmW (n:Int):Prop:= -1<=n/\n<=1000000001
structure WkT (w m n:Nat) (T:Tn):Prop where
 name:T.name.length<=31
 AG:T.AG.length<=n
 lot:∀ l∈T.AG,SmW l.id/\SmW l.AE
 G7:T.G7.length<=n
 Dn:∀ c∈T.G7,c.name.length<=31/\(1<=c.kind/\c.kind<=3)/\SmW c.low/\SmW c.high
 reqs:T.reqs.length<=n
 req:∀ r∈T.reqs,r.name.length<=31/\r.rel.length<=2/\SmW r.value
 AQ:T.AQ.length<=n
 tie:∀ s∈T.AQ,s.length<=31
 K7:T.K7.length<=n
 combo:∀ c∈T.K7,c.length<=12/\∀ k∈c,SmW k
 low:SmW T.low
 high:SmW T.high
 AE:SmW T.AE
 U6:SmW T.U6
 tim:SmW T.t.q/\SmW T.t.b/\SmW T.t.g/\SmW T.t.p/\SmW T.t.s
 f:WfE w T.f
 fp:Y5 T.f<=m
end Go.Proofs.T
