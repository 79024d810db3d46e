/- Aq5 Ao0: the AV6 and ours; the GV XM. -/
import Derived.Test.YtckchelhlpifiaaGreatDoorRE
set_option linter.unusedSimpArgs false
set_option linter.unusedVariables false
set_option linter.defProp false
set_option maxHeartbeats 32000000
set_option maxRecDepth 100000
namespace Go.Proofs.T
open Go Go.Ab
def IC:Nat->Nat->By
 |0,_=>[]
 |k+1,f=>IC k (f / 10)++[dgt f]
def Yx:∀ (k f:Nat),IC (k+1) f=dgt (f / 10 ^ k)::IC k (f % 10 ^ k):=by
 intro k;induction k with
 |zero=>intro f;show[]++[dgt f]=[dgt (f / 10 ^ 0)];simp
 | succ k ih=>
   intro f;show IC (k+1) (f / 10)++[dgt f]=_::(IC k (f % 10 ^ (k+1) / 10)++[dgt (f % 10 ^ (k+1))])
   rw[ih,OO];have e1:f / 10 / 10 ^ k=f / 10 ^ (k+1):=by rw[Nat.div_div_eq_div_mul,GO,CG]
   have e2:f / 10 % 10 ^ k=f % 10 ^ (k+1) / 10:=by rw[GO,Nat.mod_mul_left_div_self]
   have e3:dgt f=dgt (f % 10 ^ (k+1)):=by
    unfold dgt;rw[Nat.mod_mod_of_dvd _ ⟨10 ^ k,by rw[GO,CG]⟩]
   rw[e1,e2,e3]
def fN:∀ (k f:Nat),f<10 ^ k->dcN (10 ^ k+f)=49::IC k f:=by
 intro k;induction k with
 | zero=>intro f h;obtain rfl:f=0:=by have:(10:Nat) ^ 0=1:=rfl;omega
         rfl
 | succ k ih=>
   intro f h;have hp:10 ^ (k+1)=10 ^ k*10:=GO ..;have h1:1<=10 ^ k:=Wl om;have e1:(10 ^ (k+1)+f) / 10=10 ^ k+f / 10:=om;have e2:dgt (10 ^ (k+1)+f)=dgt f:=by
    unfold dgt;have:(10 ^ (k+1)+f) % 10=f % 10:=om;rw[this]
   rw[Og om,e1,e2,ih (f / 10) om];rfl
def Ff:By->By
 | []=>[]
 |c::s=>if c=48/\Ff s=[]then[]else c::Ff s
def kz:∀ k:Nat,Ff (IC k 0)=[]:=by
 intro k;induction k with
 |zero=>rfl
 | succ k ih=>
   rw[Yx,Nat.zero_div,pG];show(if dgt 0=48/\Ff (IC k 0)=[]then[]else _)=[]
   rw[z1z ⟨rfl,ih⟩]
def AU2 {k r D:Nat}(hr:r≠0):frT (k+1) r D≠[]:=by
 unfold frT;rw[z0z hr];intro h;exact AL6 _ (List.append_eq_nil_iff.1 h).1
def yX {D:Nat}(hD:0<D):∀ (k r f:Nat),r<D->r*10 ^ k=f*D->frT k r D=Ff (IC k f):=by
 intro k;induction k with
 | zero=>
   intro r f hr h;rfl
 | succ k ih=>
   intro r f hr h;by_cases h0:r=0
   ·have hf:f=0:=by
     rw[h0,HY]at h;rcases qT.1 h.symm with h|h<;>omega
    rw[h0,hf,kz];unfold frT;rw[z1z rfl]
   ·have hp:10 ^ (k+1)=10*10 ^ k:=by rw[GO,CG]
    have h1:1<=10 ^ k:=Wl om;obtain⟨q,hq⟩:=nm (10*r / D);obtain⟨s,hs⟩:=nm (10*r % D);have hdm:10*r=D*q+s:=by rw[<- hq,<- hs];exact(Th ..).symm
    have hsD:s<D:=by rw[<- hs];exact Hg _ hD
    have Ao1:q<10:=by rw[<- hq];exact eC (by rw[CG D];exact(qS om).2 hr)
    have key:(D*q+s)*10 ^ k=f*D:=by rw[<- hdm,<- h,hp];rw[CG 10 r,EV]
    -- the C8 of f
    have hge:q*10 ^ k<=f:=by
     refine Nat.le_of_mul_le_mul_right (c:=D) ?_ hD;rw[<- key,Ra];have:q*10 ^ k*D=D*q*10 ^ k:=by rw[CG _ D,EV]
     omega
    obtain⟨g,hg⟩:∃ g,f=q*10 ^ k+g:=⟨f-q*10 ^ k,om⟩
    have hgs:s*10 ^ k=g*D:=by
     rw[hg,Ra,Ra]at key;have:q*10 ^ k*D=D*q*10 ^ k:=by rw[CG _ D,EV]
     omega
    have Ao2:g<10 ^ k:=by
     refine AA6 (a:=D) ?_;rw[<- hgs,CG (10 ^ k) D];exact(Nat.mul_lt_mul_right om).2 hsD
    have e1:f / 10 ^ k=q:=by
     rw[hg,CG q,Nat.mul_add_div om,qZ Ao2];rfl
    have e2:f % 10 ^ k=g:=by
     rw[hg,CG q,Nat.mul_add_mod,SG Ao2]
    have ihs:=ih s g hsD hgs;rw[Yx,e1,e2];show frT (k+1) r D=if dgt q=48/\Ff (IC k g)=[]then[]else dgt q::Ff (IC k g)
    rw[<- ihs];have hfr:frT (k+1) r D=if r=0 then[]else dcN (10*r / D)++frT k (10*r % D) D:=rfl
    rw[hfr,z0z h0,hq,hs,Cn Ao1];rw[z0z]
    ·rfl
    ·rintro⟨z1,z2⟩;by_cases hs0:s=0
     ·have hqn:q=0:=by
       have hb:∀ x,x<10->dgt x=48->x=0:=by decide
       exact hb q Ao1 z1
      rw[hqn,hs0,aJ]at hdm;omega
     ·cases k with
      | zero=>
        have hg0:g=0:=by have:(10:Nat) ^ 0=1:=rfl;omega
        rw[hg0,HY]at hgs;have:s*10 ^ 0=s:=sI;omega
      |succ k=>exact AU2 hs0 z2
def xE {n d:Nat}(hd:0<d) (h6:1000000 % d=0):deT (n:Nat) (d:Nat)=dcN (n / d)++(if n % d*(1000000 / d)=0 then[]else 46::Ff ((dcN (1000000+n % d*(1000000 / d))).drop 1)):=by
 unfold deT;rw[show(n:Int).toNat=n from rfl,show(d:Int).toNat=d from rfl];refine congrArg (dcN (n / d)++·) ?_;have hm:1000000 / d*d=1000000:=by
  have:=Th 1000000 d;rw[h6,Ej,CG]at this;exact this
 have hq:0<1000000 / d:=by
  rcases WM (1000000 / d)with h|h
  ·rw[h,HY]at hm;omega
  ·exact h
 have hlt:n % d<d:=Hg _ hd;by_cases h0:n % d=0
 ·rw[z1z h0,h0,HY,z1z rfl]
 ·rw[z0z h0,z0z (by rw[qT];omega)];have hf:n % d*10 ^ 6=(n % d*(1000000 / d))*d:=by
   rw[EV,hm]
  have hfl:n % d*(1000000 / d)<10 ^ 6:=by
   refine AA6 (a:=d) ?_;rw[<- hf,CG (n % d)];exact(qS (by decide)).2 hlt
  rw[yX hd 6 (n % d) _ hlt hf,show(1000000:Nat)=10 ^ 6 from rfl,fN 6 _ hfl];rfl


def WV {Z Z':St}(hE:Ext Z Z') (h1:1<Z.n) (hp:Z.read 1 0 20=some BG):Z'.read 1 0 20=some BG:=by
 rw[FL,hE.row h1,<- FL];exact hp
section
variable {s:By}{n d:Nat}
def Eo (c x:UInt8) (s:By):Bh c (x::s)=bi (x==c) 0 (bi (ilt (Bh c s) 0) (-1) (Bh c s+1)):=by rw[<- Kw];rfl
def Te {c:UInt8}:∀ {s:By},(∀ x∈s,x≠c)->Bh c s= -1
 | [],_=>rfl
 | x::s,h=>by
   have hx:(x==c)=false:=by rw[Zj];exact h x (IU ..)
   rw[Eo,hx,Te fun y hy=>h y (GH _ hy)];rfl
def fJ {c:UInt8}:∀ {s t:By},(∀ x∈s,x≠c)->Bh c (s++c::t)=(s.length:Nat)
 | [],t,_=>by
   rw[Mz,Eo,beq_self_eq_true];rfl
 | x::s,t,h=>by
   have hx:(x==c)=false:=by rw[Zj];exact h x (IU ..)
   rw[OO,Eo,hx,fJ fun y hy=>h y (GH _ hy)];have e:ilt (s.length:Int) 0=false:=rfl;rw[e,Ah];rfl
def Tf (h:∀ x∈s,x≠46):An s=(s,[]):=by
 unfold An;rw[Te h];rfl
def fK {t:By}(h:∀ x∈s,x≠46):An (s++46::t)=(s,t):=by
 unfold An;rw[fJ h,z0z (by rw[IK];omega)];rw[show(s.length:Int).toNat=s.length from rfl];simp
def xD (h:s.all (on F0)=true):∀ x∈s,x≠46:=fun x hx e=>by
 have:=HA.1 h x hx;rw[e]at this;exact absurd this (by decide)
def Qv {a b:By}:W7 n (a++b)=W7 (W7 n a) b:=by unfold W7;rw[WC]
def qQ {c:Nat}:W7 n [dgt c]=10*n+c % 10:=by
 show 10*n+((dgt c).toNat+208) % 256=_;rw[Mi];omega
def RA:∀ (k n f:Nat),f<10 ^ k->W7 n (IC k f)=n*10 ^ k+f
 | 0,n,f,h=>by
   have h1:(10:Nat) ^ 0=1:=rfl;show n=n*10 ^ 0+f;omega
 | k+1,n,f,h=>by
   have h1:10 ^ (k+1)=10 ^ k*10:=GO ..;show W7 n (IC k (f / 10)++[dgt f])=_;rw[Qv,RA k n (f / 10) om,qQ,h1,<- EV];omega
def Lp {n:Nat}:∀ z,W7 n (List.replicate z 48)=n*10 ^ z
 |0=>by simp[W7]
 | z+1=>by
   rw[List.replicate_succ'];rw[Qv,Lp z,GO,<- EV];show 10*(n*10 ^ z)+(48+208) % 256=_;omega
def Tg:∀ s:By,∃ z,s=Ff s++List.replicate z 48/\(Ff s).getLast? ≠some 48
 | []=>⟨0,rfl,by simp[Ff]⟩
 | c::s=>by
   obtain⟨z,h1,h2⟩:=Tg s;have e:Ff (c::s)=if c=48/\Ff s=[]then[]else c::Ff s:=rfl
   rw[e];by_cases h:c=48/\Ff s=[]
   ·rw[z1z h];refine⟨z+1,?_,by simp⟩;rw[h.2,Mz]at h1;rw[h.1,Mz,zm,<- h1]
   ·rw[z0z h];refine⟨z,by rw[OO,<- h1],?_⟩;cases ht:Ff s with
    | nil=>
      intro e;rw[List.getLast?_singleton]at e;exact h ⟨by cases e;rfl,ht⟩
    | cons x w=>
      rw[List.getLast?_cons_cons,<- ht];exact h2
def qR (h:s.getLast? ≠some 48):Ou s=false:=by
 unfold Ou;refine z4z fun e=>h ?_;cases s with
 |nil=>simp at e
 | cons c w=>
   rw[List.getLast?_eq_getElem?];have e2:=congrArg (fun z=>z[0]?) e;rw[List.getElem?_drop]at e2
   simpa using e2
def fL:∀ (k f:Nat),(IC k f).length=k
 |0,_=>rfl
 |k+1,f=>by show(IC k (f / 10)++[dgt f]).length=_;rw[BD,fL k];rfl
def fM:∀ (k f:Nat),(IC k f).all (on F0)=true
 |0,_=>rfl
 |k+1,f=>by show(IC k (f / 10)++[dgt f]).all _=_;rw[SZ,fM k,UT,VC];rfl
def kD {M P:Nat}(h:M*d=n*P) (hg:Nat.gcd n d=1) (hn:0<n) (hP:0<P):M / Nat.gcd M P=n/\P / Nat.gcd M P=d:=by
 have h1:n∣M:=by
  refine Nat.Coprime.dvd_of_dvd_mul_right (k:=n) (n:=d) hg ⟨P,h⟩
 obtain⟨c,rfl⟩:=h1;have h2:P=c*d:=by
  rw[EV]at h;exact(zn hn h).symm
 have hc:0<c:=by
  rcases WM c with e|e
  ·rw[e,HY]at h2;omega
  ·exact e
 have hgc:Nat.gcd (n*c) P=c:=by
  rw[h2,CG n c,Nat.gcd_mul_left,hg,Df]
 rw[hgc];exact⟨Nat.mul_div_cancel _ hc,by rw[h2,CG];exact Nat.mul_div_cancel _ hc⟩
def kF (hg:Nat.gcd n d=1) (hd:0<d) (h6:1000000 % d=0) (hn:n<=1000000000*d):Ni (n:Nat) (d:Nat):=by
 have hdl:d<=1000000:=Nat.le_of_dvd om (Nat.dvd_of_mod_eq_zero h6);have hrq:RQ (n:Nat) (d:Nat):=⟨om,om,om,om,hg⟩
 have hm:1000000 / d*d=1000000:=by
  have:=Th 1000000 d;rw[h6,Ej,CG]at this;exact this
 have h6i:(1000000:Int) % (d:Nat)=0:=by
  have:((1000000 % d:Nat):Int)=0:=by rw[h6];rfl
  exact this
 obtain⟨Q,hQ⟩:=nm (1000000 / d);rw[hQ]at hm;have hQ0:0<Q:=by
  rcases WM Q with h|h
  ·rw[h,HY]at hm;omega
  ·exact h
 obtain⟨k,hk⟩:=nm (n / d);obtain⟨r,hr⟩:=nm (n % d);have hdm:n=d*k+r:=by rw[<- hk,<- hr];exact(Th ..).symm
 have hrd:r<d:=by rw[<- hr];exact Hg _ hd
 obtain⟨F,hF⟩:=nm (r*Q);have hnQ:n*Q=k*1000000+F:=by
  rw[hdm,Ra,hF,<- hm,CG d k,EV,CG d Q]
 have hFl:F<1000000:=by
  rw[<- hF,<- hm,CG r Q];exact(qS hQ0).2 hrd
 have hde:=xE (n:=n) hd h6;rw[hQ,hk,hr,hF]at hde;obtain⟨a1,a2⟩:=wD k;obtain⟨b1,-,c,w,b3,-⟩:=Qp (k+1) k (MF _);have bne:=xD b1;by_cases h0:F=0
 ·have hr0:r=0:=by
   rw[h0]at hF;rcases qT.1 hF with h|h<;>omega
  have hd1:d=1:=by
   have:Nat.gcd n d=d:=by rw[hdm,hr0,Ej];exact Nat.gcd_eq_right ⟨k,rfl⟩
   omega
  rw[z1z h0,IV]at hde;have hkn:k=n:=by rw[hr0,hd1]at hdm;omega
  refine⟨hrq,om,h6i,.inl ⟨c,w,by rw[hde];exact b3,by rw[<- b3];exact b1⟩,fun A1 i p hs=>UD ?_ A1 i p hs⟩;rw[hde];unfold lN;rw[Tf bne,a1,a2];have e1:Ou []=false:=rfl;rw[z1z (by rw[e1];rfl),z1z (by rw[dT];simp)];have e2:W7 k []=k:=rfl;rw[JH,eh,e2,Nat.gcd_one_right,mO,hkn,hd1]
 ·rw[z0z h0]at hde;have hpd:(dcN (1000000+F)).drop 1=IC 6 F:=by
   rw[show(1000000:Nat)=10 ^ 6 from rfl,fN 6 F hFl];rfl
  rw[hpd]at hde;obtain⟨z,t1,t2⟩:=Tg (IC 6 F);obtain⟨t,ht⟩:=nm (Ff (IC 6 F));rw[ht]at t1 t2 hde;have tl:t.length+z=6:=by
   have:=congrArg List.length t1;rw[fL,BD,List.length_replicate]at this;omega
  have td:t.all (on F0)=true:=by
   have:=fM 6 F;rw[t1,SZ,y6]at this;exact this.1
  have tv:W7 k t*10 ^ z=n*Q:=by
   have:=RA 6 k F hFl;rw[t1,Qv,Lp]at this;rw[this,hnQ]
  have tne:t≠[]:=by
   intro e;have:=RA 6 0 F hFl;rw[t1,e,Mz,Lp]at this;omega
  have hk9:k<1000000000:=by
   have hr0:0<r:=by
    rcases WM r with h|h
    ·rw[h,HY]at hF;omega
    ·exact h
   have h9:d*k<d*1000000000:=om;exact Nat.lt_of_mul_lt_mul_left h9
  have hn0:0<n:=by
   rcases WM n with h|h
   ·rw[h,HY]at hnQ;omega
   ·exact h
  have hMP:W7 k t*d=n*10 ^ t.length:=by
   have hz:0<10 ^ z:=Wl om;refine Nat.eq_of_mul_eq_mul_right hz ?_;rw[EV n,<- qU,tl,EV,CG d,<- EV,tv,EV,hm]
  obtain⟨l1,l2⟩:=kD hMP hg hn0 (Wl om);obtain⟨x,v,hxv⟩:∃ x v,t=x::v:=by
   cases t with
   |nil=>exact absurd rfl tne
   |cons x v=>exact⟨x,v,rfl⟩
  refine⟨hrq,om,h6i,.inr ⟨c,w,x,v,by rw[hde,b3,hxv],by rw[<- b3];exact b1,by rw[<- hxv];exact td⟩,fun A1 i p hs=>UD ?_ A1 i p hs⟩;rw[hde];unfold lN;rw[fK bne];dsimp only;rw[a1,a2,qR t2,z1z (show(true&& !false)=true from rfl),z1z (by rw[dT,dT,Aq hk9];rfl),l1,l2]
def qV {n d:Int}(hg:Int.gcd n d=1) (hd:1<=d) (h0:0<=n) (h6:(1000000:Int) % d=0) (hn:n<=1000000000*d):Ni n d:=by
 obtain⟨N,rfl⟩:=aH h0;obtain⟨D,rfl⟩:=aH (show 0<=d by omega);refine kF hg om ?_ om;have h6n:((1000000 % D:Nat):Int)=0:=h6;exact Int.ofNat.inj h6n
end
mutual
def AL8:Ex->Nat
 | .mk _ _ _ _ args=>1+pf args
def pf:List Ex->Nat
 | []=>0
 |e::es=>AL8 e+pf es
end
mutual
def WfE (w:Nat):Ex->Prop
 | .mk op n d nm args=>op.length<=4/\nm.length<=31/\(-1<=n/\n<=1000000000000001)/\(0<=d/\d<=1000000)/\args.length<=w/\WfL w args
def WfL (w:Nat):List Ex->Prop
 | []=>True
 |e::es=>WfE w e/\WfL w es
end
def pg {w:Nat}{op nm:By}{n d:Int}{args:List Ex}:WfE w (.mk op n d nm args)↔(op.length<=4/\nm.length<=31/\(-1<=n/\n<=1000000000000001)/\(0<=d/\d<=1000000)/\args.length<=w/\WfL w args):=by unfold WfE;exact Iff.rfl
def wE {w:Nat}:WfL w []:=by unfold WfL;trivial
def Qq {w:Nat}{e:Ex}{es:List Ex}:WfL w (e::es)↔(WfE w e/\WfL w es):=by rw[WfL]
mutual
theorem WfE.mono {w v:Nat}(h:w<=v):∀ {e:Ex},WfE w e->WfE v e
 | .mk op n d nm args,k=>by
   obtain⟨k1,k2,k3,k4,k5,k6⟩:=pg.1 k;exact pg.2 ⟨k1,k2,k3,k4,om,WfL.mono h k6⟩
theorem WfL.mono {w v:Nat}(h:w<=v):∀ {es:List Ex},WfL w es->WfL v es
 | [],_=>wE
 |e::es,k=>Qq.2 ⟨WfE.mono h (Qq.1 k).1,WfL.mono h (Qq.1 k).2⟩
end
def AX2 (op:By) (n d:Int) (nm:By) (len:Nat):Bool :=
 if op=CJ then PT n d&&decide (0<=n)&&decide ((1000000:Int) % d=0)&&decide (n<=1000000000*d)&&decide (nm=[])&&decide (len=0)
 else if op=nmB then BB nm&& !decide (nm=GJ)&& !decide (nm=HC)&&(decide (n=0)&&decide (d=0))&&decide (len=0)
 else if op=[43]\/op=[45]\/op=[42]\/op=[47]\/op=GJ\/op=HC then(decide (n=0)&&decide (d=0))&&decide (nm=[])&&decide (len=2)
 else false
mutual
def AC8:Ex->Bool
 | .mk op n d nm args=>AX2 op n d nm args.length&&mM args
def mM:List Ex->Bool
 | []=>true
 |e::es=>AC8 e&&mM es
end
mutual
def AC9:Ex->Nat
 | .mk _ _ _ _ args=>1+mN args
def mN:List Ex->Nat
 | []=>0
 |e::es=>max (AC9 e) (mN es)
end

end Go.Proofs.T
