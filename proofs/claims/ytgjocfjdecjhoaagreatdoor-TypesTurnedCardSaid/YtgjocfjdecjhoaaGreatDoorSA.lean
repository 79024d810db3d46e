/- At2 Aq5: the Ae8 and ours; the Cg pW. -/
import Derived.Test.YtgjocfjdecjhoaaGreatDoorRD
set_option linter.unusedSimpArgs false
set_option linter.unusedVariables false
set_option linter.defProp false
set_option maxHeartbeats 32000000
set_option maxRecDepth 100000
namespace Go.Proofs.T
open Go Go.Ab
def uQ:∀ (n u:Nat),u<=n->Lib.decDigits u=dcN u:=by
 intro n;induction n with
 | zero=>
   intro u h;obtain rfl:u=0:=om;unfold Lib.decDigits;rfl
 | succ n ih=>
   intro u h;unfold Lib.decDigits;by_cases h10:u<10
   ·rw[dif_pos h10,Ci h10];unfold dgt;rw[QE h10]
   ·rw[dif_neg h10,ih (u / 10) om,Ms h10];rfl
def pc {n:Int}(h:0<=n):Lib.itoa n=dcN n.toNat:=by
 unfold Lib.itoa;rw[z0z om,uQ _ _ nL]
def Hy:Nat->Nat->By
 |0,_=>[]
 |k+1,f=>Hy k (f / 10)++[dgt f]
def ai:∀ (k f:Nat),Hy (k+1) f=dgt (f / 10 ^ k)::Hy k (f % 10 ^ k):=by
 intro k;induction k with
 |zero=>intro f;show[]++[dgt f]=[dgt (f / 10 ^ 0)];simp
 | succ k ih=>
   intro f;show Hy (k+1) (f / 10)++[dgt f]=_::(Hy k (f % 10 ^ (k+1) / 10)++[dgt (f % 10 ^ (k+1))])
   rw[ih,Mp];have e1:f / 10 / 10 ^ k=f / 10 ^ (k+1):=by rw[Nat.div_div_eq_div_mul,Hr,DW]
   have e2:f / 10 % 10 ^ k=f % 10 ^ (k+1) / 10:=by rw[Hr,Nat.mod_mul_left_div_self]
   have e3:dgt f=dgt (f % 10 ^ (k+1)):=by
    unfold dgt;rw[Nat.mod_mod_of_dvd _ ⟨10 ^ k,by rw[Hr,DW]⟩]
   rw[e1,e2,e3]
def iM:∀ (k f:Nat),f<10 ^ k->dcN (10 ^ k+f)=49::Hy k f:=by
 intro k;induction k with
 | zero=>intro f h;obtain rfl:f=0:=by have:(10:Nat) ^ 0=1:=rfl;omega
         rfl
 | succ k ih=>
   intro f h;have hp:10 ^ (k+1)=10 ^ k*10:=Hr ..;have h1:1<=10 ^ k:=pR om;have e1:(10 ^ (k+1)+f) / 10=10 ^ k+f / 10:=om;have e2:dgt (10 ^ (k+1)+f)=dgt f:=by
    unfold dgt;have:(10 ^ (k+1)+f) % 10=f % 10:=om;rw[this]
   rw[Ms om,e1,e2,ih (f / 10) om];rfl
def AS:By->By
 | []=>[]
 |c::s=>if c=48/\AS s=[]then[]else c::AS s
def mD:∀ k:Nat,AS (Hy k 0)=[]:=by
 intro k;induction k with
 |zero=>rfl
 | succ k ih=>
   rw[ai,Nat.zero_div,qO];show(if dgt 0=48/\AS (Hy k 0)=[]then[]else _)=[]
   rw[z1z ⟨rfl,ih⟩]
def Ad4 {k r D:Nat}(hr:r≠0):frT (k+1) r D≠[]:=by
 unfold frT;rw[z0z hr];intro h;exact pf _ (List.append_eq_nil_iff.1 h).1
def AA5 {D:Nat}(hD:0<D):∀ (k r f:Nat),r<D->r*10 ^ k=f*D->frT k r D=AS (Hy k f):=by
 intro k;induction k with
 | zero=>
   intro r f hr h;rfl
 | succ k ih=>
   intro r f hr h;by_cases h0:r=0
   ·have hf:f=0:=by
     rw[h0,Fp]at h;rcases sU.1 h.symm with h|h<;>omega
    rw[h0,hf,mD];unfold frT;rw[z1z rfl]
   ·have hp:10 ^ (k+1)=10*10 ^ k:=by rw[Hr,DW]
    have h1:1<=10 ^ k:=pR om;obtain⟨q,hq⟩:=nm (10*r / D);obtain⟨s,hs⟩:=nm (10*r % D);have hdm:10*r=D*q+s:=by rw[<- hq,<- hs];exact(Rc ..).symm
    have hsD:s<D:=by rw[<- hs];exact MN _ hD
    have Aq6:q<10:=by rw[<- hq];exact gG (by rw[DW D];exact(sT om).2 hr)
    have key:(D*q+s)*10 ^ k=f*D:=by rw[<- hdm,<- h,hp];rw[DW 10 r,Gf]
    -- the N3 of f
    have hge:q*10 ^ k<=f:=by
     refine Nat.le_of_mul_le_mul_right (c:=D) ?_ hD;rw[<- key,Sr];have:q*10 ^ k*D=D*q*10 ^ k:=by rw[DW _ D,Gf]
     omega
    obtain⟨g,hg⟩:∃ g,f=q*10 ^ k+g:=⟨f-q*10 ^ k,om⟩
    have hgs:s*10 ^ k=g*D:=by
     rw[hg,Sr,Sr]at key;have:q*10 ^ k*D=D*q*10 ^ k:=by rw[DW _ D,Gf]
     omega
    have Aq7:g<10 ^ k:=by
     refine AH9 (a:=D) ?_;rw[<- hgs,DW (10 ^ k) D];exact(Nat.mul_lt_mul_right om).2 hsD
    have e1:f / 10 ^ k=q:=by
     rw[hg,DW q,Nat.mul_add_div om,sW Aq7];rfl
    have e2:f % 10 ^ k=g:=by
     rw[hg,DW q,Nat.mul_add_mod,QE Aq7]
    have ihs:=ih s g hsD hgs;rw[ai,e1,e2];show frT (k+1) r D=if dgt q=48/\AS (Hy k g)=[]then[]else dgt q::AS (Hy k g)
    rw[<- ihs];have hfr:frT (k+1) r D=if r=0 then[]else dcN (10*r / D)++frT k (10*r % D) D:=rfl
    rw[hfr,z0z h0,hq,hs,Ci Aq6];rw[z0z]
    ·rfl
    ·rintro⟨z1,z2⟩;by_cases hs0:s=0
     ·have hqn:q=0:=by
       have hb:∀ x,x<10->dgt x=48->x=0:=by decide
       exact hb q Aq6 z1
      rw[hqn,hs0,cP]at hdm;omega
     ·cases k with
      | zero=>
        have hg0:g=0:=by have:(10:Nat) ^ 0=1:=rfl;omega
        rw[hg0,Fp]at hgs;have:s*10 ^ 0=s:=sI;omega
      |succ k=>exact Ad4 hs0 z2
def gM {n d:Nat}(hd:0<d) (h6:1000000 % d=0):deT (n:Nat) (d:Nat)=dcN (n / d)++(if n % d*(1000000 / d)=0 then[]else 46::AS ((dcN (1000000+n % d*(1000000 / d))).drop 1)):=by
 unfold deT;rw[show(n:Int).toNat=n from rfl,show(d:Int).toNat=d from rfl];refine congrArg (dcN (n / d)++·) ?_;have hm:1000000 / d*d=1000000:=by
  have:=Rc 1000000 d;rw[h6,AG,DW]at this;exact this
 have hq:0<1000000 / d:=by
  rcases VV (1000000 / d)with h|h
  ·rw[h,Fp]at hm;omega
  ·exact h
 have hlt:n % d<d:=MN _ hd;by_cases h0:n % d=0
 ·rw[z1z h0,h0,Fp,z1z rfl]
 ·rw[z0z h0,z0z (by rw[sU];omega)];have hf:n % d*10 ^ 6=(n % d*(1000000 / d))*d:=by
   rw[Gf,hm]
  have hfl:n % d*(1000000 / d)<10 ^ 6:=by
   refine AH9 (a:=d) ?_;rw[<- hf,DW (n % d)];exact(sT (by decide)).2 hlt
  rw[AA5 hd 6 (n % d) _ hlt hf,show(1000000:Nat)=10 ^ 6 from rfl,iM 6 _ hfl];rfl
section
variable {s:By}{c:UInt8}{Z:St}
def di:∀ x:By,AS (x++[48])=AS x:=by
 intro x;induction x with
 |nil=>rfl
 | cons c x ih=>
   show(if c=48/\AS (x++[48])=[]then[]else c::AS (x++[48]))=(if c=48/\AS x=[]then[]else c::AS x)
   rw[ih]
def kP (hc:c≠48):∀ x:By,AS (x++[c])=x++[c]:=by
 intro x;induction x with
 | nil=>
   show(if c=48/\([]:By)=[]then[]else[c])=[c]
   rw[z0z (fun h=>hc h.1)]
 | cons d x ih=>
   show(if d=48/\AS (x++[c])=[]then[]else d::AS (x++[c]))=d::(x++[c])
   rw[ih,z0z (fun h=>by simp at h)]
def ZO:sub (s++[c]) s.length 1=some [c]:=by
 rw[o9 (by rw[Dc];simp),List.drop_left];rfl
def qz:sub (s++[c]) 0 s.length=some s:=by
 rw[o9 (by rw[Dc];omega),Sv,List.take_left]
def rA (hs:s.length<=100000):Ev (gO 244 [str s,.int .u8 48] Z) (fun r=>r=⟨false,str (AS s),Z⟩) ⟨⟩:=by
 refine C9 Tryz.func244 rfl rfl ?_;refine gS ?_
 refine CD (fun n fr τ=>τ=Z/\fr.get 1=some (.int .u8 48)/\∃ x:By,fr.get 0=some (str x)/\x.length=n/\n<=100000/\AS x=AS s)
  (fun r=>∃ fr,r=⟨.exit 0,fr,Z⟩/\fr.get 0=some (str (AS s))) s.length ?_ ?_ ?_
 ·exact⟨rfl,fR,s,fR,rfl,hs,rfl⟩
 ·rintro n fr τ ⟨rfl,g1,x,g0,hn,hn2,hx⟩;have hxx:x=[]\/∃ y c,x=y++[c]:=by
   rcases List.eq_nil_or_concat x with h|⟨y,c,h⟩
   ·exact .inl h
   ·exact .inr ⟨y,c,by rw[h,List.concat_eq_append]⟩
  rcases hxx with rfl|⟨y,c,rfl⟩
  ·have d1:decide ((0:Int)<((0:Nat):Int))=false:=rfl;refine gS1 (aI g0 (aI g1 (aI d1 (a3N @D9 @F4 @Bj)))) ?_;exact⟨_,rfl,by rw[<- hx];exact fR1 g0⟩
  ·have hl:(y++[c]).length=y.length+1:=by rw[Dc];rfl
   have d1:decide ((0:Int)<(((y++[c]).length:Nat):Int))=true:=Be (by rw[hl];omega);have e1:(((y++[c]).length:Nat):Int)-1=(y.length:Int):=by rw[hl];omega
   have d3:decide (y.length<(y++[c]).length)=true:=dT;by_cases hc:c=48
   ·have hc':decide ((c.toNat:Int)=48)=true:=by subst hc;rfl
    refine gS1 (aI g0 (aI g1 (aI d1 (aI e1 (aI d3 (aI @ZO (aI @FY (aI hc' (a5N @Va @qz @D9 @F4 @j7))))))))) ?_;refine⟨y.length,om,by trivial,fR1 g1,y,fR,rfl,om,?_⟩;rw[<- hx,hc,di]
   ·have hc':decide ((c.toNat:Int)=48)=false:=z4z fun e=>hc (UInt8.toNat_inj.1 (show c.toNat=48 by omega));refine gS1 (aI g0 (aI g1 (aI d1 (aI e1 (aI d3 (aI @ZO (aI @FY (aI hc' (a3N @D9 @F4 @Bj))))))))) ?_;exact⟨_,rfl,by rw[<- hx,kP hc];exact fR1 g0⟩
 ·rintro r ⟨fr,rfl,g0⟩;refine gS1 (aI g0 @Tryz.results244) ?_;try exact⟨⟩
def WE:(AS s).length<=s.length:=by
 induction s with
 |nil=>exact BF _
 | cons c s ih=>
   show(if c=48/\AS s=[]then[]else c::AS s).length<=_;split
   ·simp
   ·rw[CE,CE];omega
def WD (hs:s.length<=100000):Ev (gO 214 [str s,str [48]] Z) (fun r=>r=⟨false,str (AS s),Z⟩) ⟨⟩:=by
 refine C9 Tryz.func214 rfl rfl ?_;by_cases h0:s=[]
 ·subst h0;refine gS1 (a3N @D9 @F4 @Tryz.results214) ?_;rfl
 ·have d0:decide (s=[])=false:=z4z h0;have d48:decide (([48]:By)=[])=false:=rfl;have s48:sub ([48]:By) 0 1=some [48]:=rfl;have l48:decide (((48:UInt8).toNat:Int)<128)=true:=rfl;have l1:decide (((1:Nat):Int)=1)=true:=rfl;refine gS1 (aI d0 (aI d48 (aI l1 (aI s48 (aI l48 @FY))))) ?_;refine(rA hs).mono ?_;rintro r rfl;refine gS1 @Tryz.results214 ?_;try exact⟨⟩
end
def Nr:CJ (some AE) (some AE)=true:=kR
def pZ {Z:St}{n:Nat}(hn:n<=9223372036854775807) (hp:Z.read 0 0 20=some AE):go Tryz.prog HS (.fn 35) [.int .i64 (n:Nat)] Z=some ⟨false,str (dcN n),Z⟩:=by
 have e:go Tryz.prog HS (.fn 35) [.int .i64 (n:Nat)] Z=bb (CJ (Z.read 0 0 20) (some AE)) (bb (decide (-9223372036854775808<=(n:Int)/\(n:Int)<=9223372036854775807)) (some ⟨false,.string ⟨(Lib.itoa (n:Nat)).toArray⟩,Z⟩)):=rfl;rw[e,hp,Nr,Ax,dT,Ax,pc om];rfl
def Me {Z:St}{op:By}:Ev (gO 184 [str op] Z) (fun r=>r=⟨false,.int .i64 (lvl op:Nat),Z⟩) ⟨⟩:=by
 refine C9 Tryz.func184 rfl rfl ?_;unfold lvl;have c1:decide (([45]:By)=[43])=false:=rfl;have c2:decide (([42]:By)=[43])=false:=rfl;have c3:decide (([42]:By)=[45])=false:=rfl;have c4:decide (([47]:By)=[43])=false:=rfl;have c5:decide (([47]:By)=[45])=false:=rfl;have c6:decide (([47]:By)=[42])=false:=rfl;by_cases h1:op=[43]
 ·subst h1;refine gS1 @Tryz.results184 ?_;rfl
 ·have d1:decide (op=[43])=false:=z4z h1;by_cases h2:op=[45]
  ·subst h2;refine gS1 (aI c1 @Tryz.results184) ?_;rfl
  ·have d2:decide (op=[45])=false:=z4z h2;by_cases h3:op=[42]
   ·subst h3;refine gS1 (aI c2 (aI c3 @Tryz.results184)) ?_;rfl
   ·have d3:decide (op=[42])=false:=z4z h3;by_cases h4:op=[47]
    ·subst h4;refine gS1 (aI c4 (aI c5 (aI c6 @Tryz.results184))) ?_;rfl
    ·have d4:decide (op=[47])=false:=z4z h4;rw[z0z (by simp[h1,h2]),z0z (by simp[h3,h4])];refine gS1 (aI d1 (aI d2 (aI d3 (aI d4 @Tryz.results184)))) ?_;rfl
def vd {Z:St}{n d:Nat}(hd:0<d) (h6:1000000 % d=0) (hn:n<=1000000000000000) (hp:Z.read 0 0 20=some AE) (h1:0<Z.n) :
  Ev (gO 185 [.agg ⟨[.int .i64 (n:Nat),.int .i64 (d:Nat)]⟩] Z) (fun r=>∃ Z',r=⟨false,str (deT (n:Nat) (d:Nat)),Z'⟩/\Ext Z Z') ⟨⟩:=by
 have hdl:d<=1000000:=Nat.le_of_dvd om (Nat.dvd_of_mod_eq_zero h6);obtain⟨S,hS⟩:=nm (Z.new [.int .i64 (n:Nat),.int .i64 (d:Nat)]);have hpS:S.read 0 0 20=some AE:=by rw[<- hS,Ym _ _ _ _ om];exact hp
 rw[gM hd h6];obtain⟨F,hF⟩:=nm (n % d*(1000000 / d));have hFl:F<1000000:=by
  have hm:1000000 / d*d=1000000:=by
   have:=Rc 1000000 d;rw[h6,AG,DW]at this;exact this
  have hq:0<1000000 / d:=Nat.div_pos hdl hd;rw[<- hF];have:=(Nat.mul_lt_mul_right hq).2 (MN n hd);rw[DW d,hm]at this;exact this
 have hnd:n / d<=n:=OX n d;have hqd:1000000 / d<=1000000:=OX _ d;have hmd:n % d<d:=MN _ hd;obtain⟨Q,hQ⟩:=nm (1000000 / d);obtain⟨M,hM⟩:=nm (n % d);obtain⟨K,hK⟩:=nm (n / d);have e1:(n:Int).tmod (d:Nat)=(M:Int):=by rw[<- hM];rfl
 have e2:(1000000:Int).tdiv (d:Nat)=(Q:Int):=by rw[<- hQ];rfl
 have e4:(n:Int).tdiv (d:Nat)=(K:Int):=by rw[<- hK];rfl
 rw[hQ,hM]at hF;have e3:(M:Int)*(Q:Int)=(F:Int):=by rw[<- hF];rfl
 rw[hQ,hM,hK,hF];rw[hQ]at hqd;rw[hM]at hmd;rw[hK]at hnd;have e5:(1000000:Int)+(F:Int)=((1000000+F:Nat):Int):=om;have z1:decide (d=0)=false:=dF;have z2:decide ((d:Int)=0)=false:=dF;have i1:=pZ (Z:=S) (n:=K) om hpS;have i2:=pZ (Z:=S) (n:=1000000+F) om hpS;have hl1:(dcN K).length<=20:=KO 19 K om;have hl2:(dcN (1000000+F)).length<=20:=KO 19 (1000000+F) om;have E0:Ext Z S:=by rw[<- hS];exact eX
 have hr:S.row Z.n=some [.int .i64 (n:Nat),.int .i64 (d:Nat)]:=by rw[<- hS];exact cL
 refine C9 Tryz.func185 rfl rfl ?_;by_cases h0:F=0
 ·have d1:decide ((F:Int)=0)=true:=dT;rw[z1z h0,FV];refine gS1 (aI e1 (aI e2 (aI e3 (aI e4 (aI z1 (aI z2 (aI hS hr))))))) ?_
  try refine dW ?_
  try(refine gS1 (aI e1 (aI e2 (aI e3 (aI e4 (aI z1 (aI z2 (aI hS (aI hr (aI d1 (aI i1 @Tryz.results185)))))))))) ?_;try exact⟨⟩)
  exact⟨_,rfl,E0⟩
 ·have d1:decide ((F:Int)=0)=false:=dF;rw[z0z h0];have hd1:(dcN (1000000+F)).drop 1=(dcN (1000000+F)).drop 1:=rfl;obtain⟨L,hL⟩:=nm (dcN (1000000+F));rw[hL]at i2 hl2 ⊢;have hL1:1<=L.length:=by
   rw[<- hL];rcases hx:dcN (1000000+F)with _|⟨c,l⟩
   ·exact absurd hx (pf _)
   ·simp
  have hs:sub L 1 (L.length-1)=some (L.drop 1):=by rw[o9 om];exact congrArg some (Ql (by rw[Ng];omega))
  have BO5:(L.drop 1).length<=20:=by rw[Ng];omega
  refine gS1 (aI e1 (aI e2 (aI e3 (aI e4 (aI z1 (aI z2 (aI hS hr))))))) ?_
  try refine dW ?_
  try(refine gS1 (aI e1 (aI e2 (aI e3 (aI e4 (aI e5 (aI z1 (aI z2 (aI hS (aI hr (aI d1 (aI i1 (aI i2 hs)))))))))))) ?_;try exact⟨⟩)
  refine(WD om).mono ?_;rintro r rfl;have ht:=@WE (L.drop 1);refine gS1 @Tryz.results185 ?_;refine⟨_,?_,E0⟩;rw[PI];rfl
def Cd {Z Z':St}(hE:Ext Z Z') (h1:0<Z.n) (hp:Z.read 0 0 20=some AE):Z'.read 0 0 20=some AE:=by
 rw[Cz,hE.row h1,<- Cz];exact hp
def IW (e:Ex) (f:Nat):Prop:=∀ {Z:St}{row:List Value}{F8:Nat},F8<=3->Z.read 0 0 20=some AE->0<Z.n->P6 Z row e ->
 Ev (gO 139 [.agg ⟨row⟩,.int .i64 (F8:Nat)] Z) (fun r=>∃ Z',r=⟨false,str (J8 f F8 e),Z'⟩/\Ext Z Z') ⟨⟩
def fe {s:By}:par true s=[40]++s++[41]:=by unfold par;simp
def AE5 {s:By}:par false s=s:=rfl
def nv {n d:Int}(h:MI n d) (hn:n<=1000000000000000) (f:Nat):IW (.mk K9 n d [] []) (f+1):=by
 intro Z row F8 hls hp h1 he;obtain⟨v,B9,rfl,-,-,-⟩:=he;have hd:=h.rq.d1;have hn0:=h.n0;have h6:=h.d6;obtain⟨N,rfl⟩:=Fo hn0;obtain⟨D,rfl⟩:=Fo (show 0<=d by omega);have h6':1000000 % D=0:=by
  have h6n:((1000000 % D:Nat):Int)=0:=h6;exact Int.ofNat.inj h6n
 have hs:J8 (f+1) F8 (.mk K9 (N:Nat) (D:Nat) [] [])=par (decide (lvl K9<F8)) (deT (N:Nat) (D:Nat)):=rfl;rw[hs,show lvl K9=2 from rfl];have hlen:(deT (N:Nat) (D:Nat)).length+8<=50:=by
  have:=DV (.num h) 1 0 nL;exact this
 obtain⟨R,hR⟩:∃ R:List Value,[str K9,.int .i64 (N:Nat),.int .i64 (D:Nat),str [],v]=R:=⟨_,rfl⟩
 have q0:sub R 0 1=some [str K9]:=by rw[<- hR];rfl
 have q1:sub R 1 2=some [.int .i64 (N:Nat),.int .i64 (D:Nat)]:=by rw[<- hR];rfl
 have qf:sub R 0 5=some R:=by rw[<- hR];rfl
 have ql:R.length=5:=by rw[<- hR];rfl
 rw[show(Value.agg ⟨[str K9,.int .i64 (N:Int),.int .i64 (D:Int),str [],v]⟩)= .agg ⟨R⟩from by rw[<- hR]];have c1:decide (K9=[110,117,109])=true:=rfl;have E0:Ext Z (Z.new R):=eX;refine C9 Tryz.func139 rfl rfl ?_;refine gS1 (aI qf (aI ql q0)) ?_;refine Me.mono ?_;rintro r rfl;rw[show lvl K9=2 from rfl];refine gS1 (aI qf (aI ql (aI q0 (aI q1 c1)))) ?_;refine(vd om h6' om (Cd E0 h1 hp) (by first|(simp;done)|(simp;omega))).mono ?_;rintro r ⟨Z2,rfl,E2⟩;have d2:decide ((2:Int)<(F8:Int))=decide (2<F8):=by rw[z7z,z3z,z3z];omega
 cases hb:decide (2<F8)with
 | true=>
   have d3:decide ((2:Int)<(F8:Int))=true:=by rw[d2];exact hb
   refine gS1 (aI hb (aI d2 (aI d3 @Tryz.results139))) ?_;exact⟨_,by rw[fe]<;>rfl,E0.trans E2⟩
 | false=>
   have d3:decide ((2:Int)<(F8:Int))=false:=by rw[d2];exact hb
   refine gS1 (aI hb (aI d2 (aI d3 @Tryz.results139))) ?_;exact⟨_,rfl,E0.trans E2⟩
section
variable {s:By}{n d:Nat}
def OC (c x:UInt8) (s:By):Mn c (x::s)=bi (x==c) 0 (bi (ilt (Mn c s) 0) (-1) (Mn c s+1)):=by rw[<- dZ];rfl
def UY {c:UInt8}:∀ {s:By},(∀ x∈s,x≠c)->Mn c s= -1
 | [],_=>rfl
 | x::s,h=>by
   have hx:(x==c)=false:=by rw[AQ3];exact h x (Kf ..)
   rw[OC,hx,UY fun y hy=>h y (GA _ hy)];rfl
def iJ {c:UInt8}:∀ {s t:By},(∀ x∈s,x≠c)->Mn c (s++c::t)=(s.length:Nat)
 | [],t,_=>by
   rw[Jb,OC,beq_self_eq_true];rfl
 | x::s,t,h=>by
   have hx:(x==c)=false:=by rw[AQ3];exact h x (Kf ..)
   rw[Mp,OC,hx,iJ fun y hy=>h y (GA _ hy)];have e:ilt (s.length:Int) 0=false:=rfl;rw[e,CE];rfl
def UU (h:∀ x∈s,x≠46):CA s=(s,[]):=by
 unfold CA;rw[UY h];rfl
def zH {t:By}(h:∀ x∈s,x≠46):CA (s++46::t)=(s,t):=by
 unfold CA;rw[iJ h,z0z (by rw[Dn];omega)];rw[show(s.length:Int).toNat=s.length from rfl];simp
def zI (h:s.all (on O6)=true):∀ x∈s,x≠46:=fun x hx e=>by
 have:=GJ.1 h x hx;rw[e]at this;exact absurd this (by decide)
def SI {a b:By}:JE n (a++b)=JE (JE n a) b:=by unfold JE;rw[gu]
def sR {c:Nat}:JE n [dgt c]=10*n+c % 10:=by
 show 10*n+((dgt c).toNat+208) % 256=_;rw[My];omega
def SJ:∀ (k n f:Nat),f<10 ^ k->JE n (Hy k f)=n*10 ^ k+f
 | 0,n,f,h=>by
   have h1:(10:Nat) ^ 0=1:=rfl;show n=n*10 ^ 0+f;omega
 | k+1,n,f,h=>by
   have h1:10 ^ (k+1)=10 ^ k*10:=Hr ..;show JE n (Hy k (f / 10)++[dgt f])=_;rw[SI,SJ k n (f / 10) om,sR,h1,<- Gf];omega
def Ly {n:Nat}:∀ z,JE n (List.replicate z 48)=n*10 ^ z
 |0=>by simp[JE]
 | z+1=>by
   rw[List.replicate_succ'];rw[SI,Ly z,Hr,<- Gf];show 10*(n*10 ^ z)+(48+208) % 256=_;omega
def UZ:∀ s:By,∃ z,s=AS s++List.replicate z 48/\(AS s).getLast? ≠some 48
 | []=>⟨0,rfl,by simp[AS]⟩
 | c::s=>by
   obtain⟨z,h1,h2⟩:=UZ s;have e:AS (c::s)=if c=48/\AS s=[]then[]else c::AS s:=rfl
   rw[e];by_cases h:c=48/\AS s=[]
   ·rw[z1z h];refine⟨z+1,?_,by simp⟩;rw[h.2,Jb]at h1;rw[h.1,Jb,AG5,<- h1]
   ·rw[z0z h];refine⟨z,by rw[Mp,<- h1],?_⟩;cases ht:AS s with
    | nil=>
      intro e;rw[List.getLast?_singleton]at e;exact h ⟨by cases e;rfl,ht⟩
    | cons x w=>
      rw[List.getLast?_cons_cons,<- ht];exact h2
def sS (h:s.getLast? ≠some 48):mQ s=false:=by
 unfold mQ;refine z4z fun e=>h ?_;cases s with
 |nil=>simp at e
 | cons c w=>
   rw[List.getLast?_eq_getElem?];have e2:=congrArg (fun z=>z[0]?) e;rw[List.getElem?_drop]at e2
   simpa using e2
def iK:∀ (k f:Nat),(Hy k f).length=k
 |0,_=>rfl
 |k+1,f=>by show(Hy k (f / 10)++[dgt f]).length=_;rw[Dc,iK k];rfl
def iL:∀ (k f:Nat),(Hy k f).all (on O6)=true
 |0,_=>rfl
 |k+1,f=>by show(Hy k (f / 10)++[dgt f]).all _=_;rw[rB,iL k,Xp,WQ];rfl
def lJ {M P:Nat}(h:M*d=n*P) (hg:Nat.gcd n d=1) (hn:0<n) (hP:0<P):M / Nat.gcd M P=n/\P / Nat.gcd M P=d:=by
 have h1:n∣M:=by
  refine Nat.Coprime.dvd_of_dvd_mul_right (k:=n) (n:=d) hg ⟨P,h⟩
 obtain⟨c,rfl⟩:=h1;have h2:P=c*d:=by
  rw[Gf]at h;exact(AG6 hn h).symm
 have hc:0<c:=by
  rcases VV c with e|e
  ·rw[e,Fp]at h2;omega
  ·exact e
 have hgc:Nat.gcd (n*c) P=c:=by
  rw[h2,DW n c,Nat.gcd_mul_left,hg,MH]
 rw[hgc];exact⟨Nat.mul_div_cancel _ hc,by rw[h2,DW];exact Nat.mul_div_cancel _ hc⟩
def lK (hg:Nat.gcd n d=1) (hd:0<d) (h6:1000000 % d=0) (hn:n<=1000000000*d):MI (n:Nat) (d:Nat):=by
 have hdl:d<=1000000:=Nat.le_of_dvd om (Nat.dvd_of_mod_eq_zero h6);have hrq:RQ (n:Nat) (d:Nat):=⟨om,om,om,om,hg⟩
 have hm:1000000 / d*d=1000000:=by
  have:=Rc 1000000 d;rw[h6,AG,DW]at this;exact this
 have h6i:(1000000:Int) % (d:Nat)=0:=by
  have:((1000000 % d:Nat):Int)=0:=by rw[h6];rfl
  exact this
 obtain⟨Q,hQ⟩:=nm (1000000 / d);rw[hQ]at hm;have hQ0:0<Q:=by
  rcases VV Q with h|h
  ·rw[h,Fp]at hm;omega
  ·exact h
 obtain⟨k,hk⟩:=nm (n / d);obtain⟨r,hr⟩:=nm (n % d);have hdm:n=d*k+r:=by rw[<- hk,<- hr];exact(Rc ..).symm
 have hrd:r<d:=by rw[<- hr];exact MN _ hd
 obtain⟨F,hF⟩:=nm (r*Q);have hnQ:n*Q=k*1000000+F:=by
  rw[hdm,Sr,hF,<- hm,DW d k,Gf,DW d Q]
 have hFl:F<1000000:=by
  rw[<- hF,<- hm,DW r Q];exact(sT hQ0).2 hrd
 have hde:=gM (n:=n) hd h6;rw[hQ,hk,hr,hF]at hde;obtain⟨a1,a2⟩:=yI k;obtain⟨b1,-,c,w,b3,-⟩:=Rv (k+1) k (II _);have bne:=zI b1;by_cases h0:F=0
 ·have hr0:r=0:=by
   rw[h0]at hF;rcases sU.1 hF with h|h<;>omega
  have hd1:d=1:=by
   have:Nat.gcd n d=d:=by rw[hdm,hr0,AG];exact Nat.gcd_eq_right ⟨k,rfl⟩
   omega
  rw[z1z h0,FV]at hde;have hkn:k=n:=by rw[hr0,hd1]at hdm;omega
  refine⟨hrq,om,h6i,.inl ⟨c,w,by rw[hde];exact b3,by rw[<- b3];exact b1⟩,fun D7 i p hs=>Ut ?_ D7 i p hs⟩;rw[hde];unfold mP;rw[UU bne,a1,a2];have e1:mQ []=false:=rfl;rw[z1z (by rw[e1];rfl),z1z (by rw[dT];simp)];have e2:JE k []=k:=rfl;rw[JQ,gY,e2,Nat.gcd_one_right,nU,hkn,hd1]
 ·rw[z0z h0]at hde;have hpd:(dcN (1000000+F)).drop 1=Hy 6 F:=by
   rw[show(1000000:Nat)=10 ^ 6 from rfl,iM 6 F hFl];rfl
  rw[hpd]at hde;obtain⟨z,t1,t2⟩:=UZ (Hy 6 F);obtain⟨t,ht⟩:=nm (AS (Hy 6 F));rw[ht]at t1 t2 hde;have tl:t.length+z=6:=by
   have:=congrArg List.length t1;rw[iK,Dc,List.length_replicate]at this;omega
  have td:t.all (on O6)=true:=by
   have:=iL 6 F;rw[t1,rB,Q7]at this;exact this.1
  have tv:JE k t*10 ^ z=n*Q:=by
   have:=SJ 6 k F hFl;rw[t1,SI,Ly]at this;rw[this,hnQ]
  have tne:t≠[]:=by
   intro e;have:=SJ 6 0 F hFl;rw[t1,e,Jb,Ly]at this;omega
  have hk9:k<1000000000:=by
   have hr0:0<r:=by
    rcases VV r with h|h
    ·rw[h,Fp]at hF;omega
    ·exact h
   have h9:d*k<d*1000000000:=om;exact Nat.lt_of_mul_lt_mul_left h9
  have hn0:0<n:=by
   rcases VV n with h|h
   ·rw[h,Fp]at hnQ;omega
   ·exact h
  have hMP:JE k t*d=n*10 ^ t.length:=by
   have hz:0<10 ^ z:=pR om;refine Nat.eq_of_mul_eq_mul_right hz ?_;rw[Gf n,<- Nat.pow_add,tl,Gf,DW d,<- Gf,tv,Gf,hm]
  obtain⟨l1,l2⟩:=lJ hMP hg hn0 (pR om);obtain⟨x,v,hxv⟩:∃ x v,t=x::v:=by
   cases t with
   |nil=>exact absurd rfl tne
   |cons x v=>exact⟨x,v,rfl⟩
  refine⟨hrq,om,h6i,.inr ⟨c,w,x,v,by rw[hde,b3,hxv],by rw[<- b3];exact b1,by rw[<- hxv];exact td⟩,fun D7 i p hs=>Ut ?_ D7 i p hs⟩;rw[hde];unfold mP;rw[zH bne];dsimp only;rw[a1,a2,sS t2,z1z (show(true&& !false)=true from rfl),z1z (by rw[dT,dT,Be hk9];rfl),l1,l2]
def nR {n d:Int}(hg:Int.gcd n d=1) (hd:1<=d) (h0:0<=n) (h6:(1000000:Int) % d=0) (hn:n<=1000000000*d):MI n d:=by
 obtain⟨N,rfl⟩:=Fo h0;obtain⟨D,rfl⟩:=Fo (show 0<=d by omega);refine lK hg om ?_ om;have h6n:((1000000 % D:Nat):Int)=0:=h6;exact Int.ofNat.inj h6n
end
section
variable {e:Ex}{w:Nat}{op nm:By}{n d:Int}{args es:List Ex}
mutual
def R0:Ex->Nat
 | .mk _ _ _ _ args=>1+Ik args
def Ik:List Ex->Nat
 | []=>0
 |e::es=>R0 e+Ik es
end
mutual
def WfE (w:Nat):Ex->Prop
 | .mk op n d nm args=>op.length<=4/\nm.length<=31/\(-1<=n/\n<=1000000000000001)/\(0<=d/\d<=1000000)/\args.length<=w/\WfL w args
def WfL (w:Nat):List Ex->Prop
 | []=>True
 |e::es=>WfE w e/\WfL w es
end
def X0:R0 (.mk op n d nm args)=1+Ik args:=by unfold R0;rfl
def N4:Ik (e::es)=R0 e+Ik es:=by rw[Ik]
def R2:Ik []=0:=by unfold Ik;rfl
def Pz:1<=R0 e:=by cases e;rw[X0];omega
def Dt:WfE w (.mk op n d nm args)↔(op.length<=4/\nm.length<=31/\(-1<=n/\n<=1000000000000001)/\(0<=d/\d<=1000000)/\args.length<=w/\WfL w args):=by unfold WfE;exact Iff.rfl
def EO:WfL w []:=by unfold WfL;trivial
def AL:WfL w (e::es)↔(WfE w e/\WfL w es):=by rw[WfL]
mutual
theorem WfE.mono {w v:Nat}(h:w<=v):∀ {e:Ex},WfE w e->WfE v e
 | .mk op n d nm args,k=>by
   obtain⟨k1,k2,k3,k4,k5,k6⟩:=Dt.1 k;exact Dt.2 ⟨k1,k2,k3,k4,om,WfL.mono h k6⟩
theorem WfL.mono {w v:Nat}(h:w<=v):∀ {es:List Ex},WfL w es->WfL v es
 | [],_=>EO
 |e::es,k=>AL.2 ⟨WfE.mono h (AL.1 k).1,WfL.mono h (AL.1 k).2⟩
end
end
section
variable {e:Ex}{op nm:By}{n d:Int}{args es:List Ex}
def AO (op:By) (n d:Int) (nm:By) (len:Nat):Bool :=
 if op=K9 then DL n d&&decide (0<=n)&&decide ((1000000:Int) % d=0)&&decide (n<=1000000000*d)&&decide (nm=[])&&decide (len=0)
 else if op=nmB then AM nm&& !decide (nm=R3)&& !decide (nm=R6)&&(decide (n=0)&&decide (d=0))&&decide (len=0)
 else if op=[43]\/op=[45]\/op=[42]\/op=[47]\/op=R3\/op=R6 then(decide (n=0)&&decide (d=0))&&decide (nm=[])&&decide (len=2)
 else false
mutual
def Da:Ex->Bool
 | .mk op n d nm args=>AO op n d nm args.length&&CH args
def CH:List Ex->Bool
 | []=>true
 |e::es=>Da e&&CH es
end
mutual
def AB:Ex->Nat
 | .mk _ _ _ _ args=>1+IU args
def IU:List Ex->Nat
 | []=>0
 |e::es=>max (AB e) (IU es)
end
def AP:Da (.mk op n d nm args)=(AO op n d nm args.length&&CH args):=by unfold Da;rfl
def BU:CH []=true:=by unfold CH;rfl
def AK:CH (e::es)=(Da e&&CH es):=by rw[CH]
def Cw:AB (.mk op n d nm args)=1+IU args:=by unfold AB;rfl
def CB:IU []=0:=by unfold IU;rfl
def Ah:IU (e::es)=max (AB e) (IU es):=by rw[IU]
def Xm:∀ (s:Nat) (e:Ex),SizeOf.sizeOf e<s->Da e=true->FW (AB e) (R0 e) e:=by
 intro s;induction s with
 |zero=>intro e h;omega
 | succ s ih=>
   intro e hs h;obtain⟨op,n,d,nm,args⟩:=e;rw[AP,Q7]at h;obtain⟨h1,h2⟩:=h;rw[Cw,X0];unfold AO at h1;by_cases c1:op=K9
   ·rw[z1z c1]at h1;unfold DL at h1;simp only[Q7,Dn]at h1;obtain⟨⟨⟨⟨⟨⟨k1,k2⟩,k3⟩,k4⟩,k5⟩,k6⟩,k7⟩:=h1;obtain rfl:args=[]:=XB k7;rw[c1,k6,CB,R2];exact .num (nR k2 k1 k3 k4 k5)
   ·rw [z0z c1]at h1;by_cases c2:op=nmB
    ·rw[z1z c2]at h1;simp only[Q7,Dn,Bool.not_eq_true',VR]at h1;obtain⟨⟨⟨⟨k1,k2⟩,k3⟩,k4,k5⟩,k6⟩:=h1;obtain rfl:args=[]:=XB k6;rw[c2,k4,k5,CB,R2];exact .name k1 k2 k3
    ·rw[z0z c2]at h1;split at h1
     ·rename_i c3;simp only[Q7,Dn]at h1;obtain⟨⟨⟨k1,k2⟩,k3⟩,k4⟩:=h1;obtain⟨a,b,rfl⟩:∃ a b,args=[a,b]:=by
       match args,k4 with
       | [a,b],_=>exact⟨a,b,rfl⟩
      rw[AK,AK,BU,bh,Q7]at h2;have sa:SizeOf.sizeOf a<s:=by simp at hs;omega
      have sb:SizeOf.sizeOf b<s:=by simp at hs;omega
      have fa:=ih a sa h2.1;have fb:=ih b sb h2.2;rw[k1,k2,k3,Ah,Ah,CB,N4,N4,R2];have e1:1+max (AB a) (max (AB b) 0)=1+max (AB a) (AB b):=om;have e2:1+(R0 a+(R0 b+0))=R0 a+R0 b+1:=om;rw[e1,e2];rcases c3 with c|c|c|c|c|c
      ·exact .bin (.inl c) fa fb
      ·exact .bin (.inr (.inl c)) fa fb
      ·exact .bin (.inr (.inr (.inl c))) fa fb
      ·exact .bin (.inr (.inr (.inr c))) fa fb
      ·exact .mm (.inl c) fa fb
      ·exact .mm (.inr c) fa fb
     ·cases h1
def AD (e:Ex):Bool:=Da e&&decide (R0 e<=60)&&decide (AB e<=12)
def QX {k m:Nat}(h:FW k m e):Da e=true/\AB e=k/\R0 e=m:=by
 induction h with
 | @num n d h=>
   rw[AP,Cw,X0,BU,CB,R2];refine⟨?_,rfl,rfl⟩;unfold AO DL;rw[z1z rfl,Be h.rq.d1,Be h.rq.low,Be h.n0,Be h.d6,Be h.rq.n2];rfl
 | @name nm h1 h2 h3=>
   rw[AP,Cw,X0,BU,CB,R2];refine⟨?_,rfl,rfl⟩;unfold AO;rw[z0z (by decide),z1z rfl,h1,z4z h2,z4z h3];rfl
 | @bin k j m i o a b h ha hb iha ihb=>
   rw[AP,Cw,X0,AK,AK,BU,Ah,Ah,CB,N4,N4,R2,iha.1,ihb.1,iha.2.1,iha.2.2,ihb.2.1,ihb.2.2];refine⟨?_,om,om⟩;unfold AO;rw[z0z (by rcases h with rfl|rfl|rfl|rfl<;>decide),z0z (by rcases h with rfl|rfl|rfl|rfl<;>decide),z1z (by rcases h with h|h|h|h<;>simp[h])];rfl
 | @mm k j m i o a b h ha hb iha ihb=>
   rw[AP,Cw,X0,AK,AK,BU,Ah,Ah,CB,N4,N4,R2,iha.1,ihb.1,iha.2.1,iha.2.2,ihb.2.1,ihb.2.2];refine⟨?_,om,om⟩;unfold AO;rw[z0z (by rcases h with rfl|rfl<;>decide),z0z (by rcases h with rfl|rfl<;>decide),z1z (by rcases h with h|h<;>simp[h])];rfl
end
section
variable {e:Ex}{k m:Nat}{t:By}{b:Bool}
def sF {nm:By}(h:AM nm=true):Us (CA nm).1=false:=by
 obtain⟨c,w,rfl,h1,h2⟩:=Lt h;rw[UU fun x hx e=>by
  have:=GJ.1 h2 x hx;rw[e]at this;exact absurd this (by decide)]
 cases hb:Us (c::w)
 ·rfl
 ·have h3:=jP (GJ.1 (sG hb).1 c (Kf ..));unfold on Eh at h1;simp at h1;omega
def zB (t:By):Prop:=t.length<=30/\(Us (CA t).1=true->(CA t).1.length<19)
def AS3:(CA t).1.length<=t.length:=by
 unfold CA;split
 ·exact BF _
 ·rw[IK];omega
def Cv (h:t.length<=17):zB t:=⟨om,fun _=>by have:=AS3 (t:=t);omega⟩
def KW {ts:List By}(h:∀ t∈ts,zB t):∀ t∈Ls b ts,zB t:=by
 unfold Ls;split
 ·intro t ht;rcases Y5.1 ht with rfl|ht
  ·exact Cv (by simp)
  ·rcases HX.1 ht with ht|ht
   ·exact h t ht
   ·rw[Lf]at ht;subst ht;exact Cv (by simp)
 ·exact h
def zC (h:FW k m e):∀ f F8,k<=f->∀ t∈V0 f F8 e,zB t:=by
 induction h with
 | @num n d h=>
   intro f F8 hf;obtain⟨f,rfl⟩:∃ g,f=g+1:=⟨f-1,om⟩
   unfold V0;rw[z1z rfl];refine KW fun t ht=>?_;rw[Lf]at ht;subst ht;exact Cv (Vt h)
 | @name nm h h1 h2=>
   intro f F8 hf;obtain⟨f,rfl⟩:∃ g,f=g+1:=⟨f-1,om⟩
   unfold V0;rw[z0z (by decide),z1z rfl];refine KW fun t ht=>?_;rw[Lf]at ht;subst ht;refine⟨?_,fun hn=>by rw[sF h]at hn;cases hn⟩;unfold AM at h;simp only[Q7,Dn]at h;exact h.1.2
 | @bin k j m i o a b h ha hb iha ihb=>
   intro f F8 hf;obtain⟨f,rfl⟩:∃ g,f=g+1:=⟨f-1,om⟩
   have hn:o≠K9/\o≠nmB/\¬ (o=R3\/o=R6):=by rcases h with rfl|rfl|rfl|rfl<;>decide
   have hl:o.length<=17:=by rcases h with rfl|rfl|rfl|rfl<;>simp
   unfold V0;rw[z0z hn.1,z0z hn.2.1];dsimp only;rw[z0z hn.2.2];refine KW fun t ht=>?_;rcases HX.1 ht with ht|ht
   ·exact iha f _ om t ht
   ·rcases Y5.1 ht with rfl|ht
    ·exact Cv hl
    ·exact ihb f _ om t ht
 | @mm k j m i o a b h ha hb iha ihb=>
   intro f F8 hf;obtain⟨f,rfl⟩:∃ g,f=g+1:=⟨f-1,om⟩
   have hn:o≠K9/\o≠nmB:=by rcases h with rfl|rfl<;>decide
   have hl:o.length<=17:=by rcases h with rfl|rfl<;>simp[R3,R6]
   unfold V0;rw[z0z hn.1,z0z hn.2];dsimp only;rw[z1z h];refine KW fun t ht=>?_;rcases Y5.1 ht with rfl|ht
   ·exact Cv hl
   rcases Y5.1 ht with rfl|ht
   ·exact Cv (by simp)
   rcases HX.1 ht with ht|ht
   ·exact iha f _ om t ht
   rcases Y5.1 ht with rfl|ht
   ·exact Cv (by simp)
   rcases HX.1 ht with ht|ht
   ·exact ihb f _ om t ht
   ·rw[Lf]at ht;subst ht;exact Cv (by simp)
def Pq {s:By}{n:Nat}(h:s.length+2<=n):(par b s).length<=n:=by
 have:=GM (b:=b) (s:=s);omega
def sH (h:FW k m e):∀ f F8,k<=f->(J8 f F8 e).length<=40*m:=by
 induction h with
 | @num n d h=>
   intro f F8 hf;obtain⟨f,rfl⟩:∃ g,f=g+1:=⟨f-1,om⟩
   unfold J8;rw[z1z rfl];have:=Vt h;exact Pq om
 | @name nm h h1 h2=>
   intro f F8 hf;obtain⟨f,rfl⟩:∃ g,f=g+1:=⟨f-1,om⟩
   unfold J8;rw[z0z (by decide),z1z rfl];unfold AM at h;simp only[Q7,Dn]at h;have:=h.1.2;exact Pq om
 | @bin k j m i o a b h ha hb iha ihb=>
   intro f F8 hf;obtain⟨f,rfl⟩:∃ g,f=g+1:=⟨f-1,om⟩
   have hn:o≠K9/\o≠nmB/\¬ (o=R3\/o=R6):=by rcases h with rfl|rfl|rfl|rfl<;>decide
   have hl:o.length<=1:=by rcases h with rfl|rfl|rfl|rfl<;>simp
   have l1:=iha f (lvl o) om;have l2:=ihb f (lvl o+1) om;unfold J8;rw[z0z hn.1,z0z hn.2.1];dsimp only;rw[z0z hn.2.2];refine Pq ?_;simp only[CE,Dc,JQ];omega
 | @mm k j m i o a b h ha hb iha ihb=>
   intro f F8 hf;obtain⟨f,rfl⟩:∃ g,f=g+1:=⟨f-1,om⟩
   have hn:o≠K9/\o≠nmB:=by rcases h with rfl|rfl<;>decide
   have hl:o.length<=3:=by rcases h with rfl|rfl<;>simp[R3,R6]
   have l1:=iha f 0 om;have l2:=ihb f 0 om;unfold J8;rw[z0z hn.1,z0z hn.2];dsimp only;rw[z1z h];refine Pq ?_;simp only[CE,Dc,JQ];omega
def lE (h:FW k m e) (hk:k<=12) (hm:m<=60):
  (J8 12 0 e).length<10000000/\J8 12 0 e≠[]/\AM4 (YO (J8 12 0 e) 0)/\nh (YO (J8 12 0 e) 0)= .ok e:=by
 have hl:=sH h 12 0 hk;have hx:lex (J8 12 0 e)=V0 12 0 e:=by
  have:=rE h 12 0 hk [] rC
  rwa [FV,lex_nil,FV]at this
 have ht:(YO (J8 12 0 e) 0).map Prod.fst=V0 12 0 e++[[]]:=by rw[jl,hx]
 refine⟨om,fun e0=>?_,fun t hm=>?_,lF h hk hk hm ht⟩
 ·have h1:=sJ h 12 0 hk;have h2:=h.pos;rw[<- hx,e0,lex_nil]at h1;simp at h1;omega
 ·have hm:t.1∈V0 12 0 e++[[]]:=by rw[<- ht];exact cO.2 ⟨t,hm,rfl⟩
  rcases HX.1 hm with hm|hm
  ·have h1:=(zC h 12 0 hk _ hm).1;omega
  ·rw[Lf]at hm;rw[hm];simp
def sK (h:FW k m e):WfE 2 e:=by
 induction h with
 | @num n d h=>
   have h1:=h.n0;have h2:=h.rq.n2;have h3:=h.rq.d1;have h4:d<=1000000:=Int.le_of_dvd om (Int.dvd_of_emod_eq_zero h.d6);exact Dt.2 ⟨by show(3:Nat)<=4;omega,by simp,⟨om,om⟩,⟨om,h4⟩,by simp,EO⟩
 | @name nm h1 h2 h3=>
   have hl:nm.length<=30:=by
    unfold AM at h1;simp only[Q7,Dn]at h1;exact h1.1.2
   exact Dt.2 ⟨by show(4:Nat)<=4;omega,om,om,om,by simp,EO⟩
 |bin h ha hb iha ihb=>exact Dt.2 ⟨by rcases h with rfl|rfl|rfl|rfl<;>decide,by simp,om,om,by simp,AL.2 ⟨iha,AL.2 ⟨ihb,EO⟩⟩⟩
 |mm h ha hb iha ihb=>exact Dt.2 ⟨by rcases h with rfl|rfl<;>decide,by simp,om,om,by simp,AL.2 ⟨iha,AL.2 ⟨ihb,EO⟩⟩⟩
def Hl (h:AD e=true):FW (AB e) (R0 e) e/\AB e<=12/\R0 e<=60:=by
 unfold AD at h;simp only[Q7,Dn]at h;exact⟨Xm _ _ (II _) h.1.1,h.2,h.1.2⟩
def jE (h:FW k m e) (hk:k<=12) (hm:m<=60):AD e=true:=by
 obtain⟨h1,h2,h3⟩:=QX h;unfold AD;rw[h1,h2,h3,Be hm,Be hk];rfl
end
end Go.Proofs.T
namespace Go.Proofs.T
open Go Go.Ab
def Bi (b:Bool) (P:Prop):Prop:=b=true↔P
def UpT (P:Nat->Prop) (k:Nat):Prop:=∀ i,i<k->P i
def EL {α:Type}(P:α->Prop) (l:List α) (i:Nat):Prop:=∀ x,l[i]? =some x->P x
def DF {α κ:Type}(key:α->κ) (l:List α) (x:α) (j:Nat):Prop:=∀ y,l[j]? =some y->key y≠key x
def ND {α κ:Type}(g:α->Prop) (key:α->κ) (l:List α) (i:Nat):Prop:=∀ x,l[i]? =some x->g x/\UpT (DF key l x) i
def SmB (m n:Int):Prop:=m<=n/\n<=1000000000
theorem up0 {P:Nat->Prop}:UpT P 0:=fun i h=>absurd h (Nat.not_lt_zero i)
theorem upS {P:Nat->Prop}{k:Nat}:UpT P (k+1)↔UpT P k/\P k :=
 ⟨fun h=>⟨fun i hi=>h i om,h k om⟩,fun h i hi=>by
  by_cases e:i=k
  ·rw[e];exact h.2
  ·exact h.1 i om⟩
theorem AC2 {α:Type}{P:α->Prop}{l:List α}{k:Nat}{x:α}(h:l[k]? =some x):EL P l k↔P x :=
 ⟨fun e=>e x h,fun p y hy=>by rw[h]at hy;injection hy with hy;exact hy ▸ p⟩
theorem AC3 {α κ:Type}{key:α->κ}{l:List α}{x y:α}{j:Nat}(h:l[j]? =some y):DF key l x j↔key y≠key x :=
 ⟨fun e=>e y h,fun p z hz=>by rw[h]at hz;injection hz with hz;exact hz ▸ p⟩
theorem mZ {α κ:Type}{g:α->Prop}{key:α->κ}{l:List α}{k:Nat}{x:α}(h:l[k]? =some x):ND g key l k↔g x/\UpT (DF key l x) k :=
 ⟨fun e=>e x h,fun p y hy=>by rw[h]at hy;injection hy with hy;exact hy ▸ p⟩
theorem Uu {α:Type}{P:α->Prop}{l:List α}:UpT (EL P l) l.length↔∀ x∈l,P x:=by
 constructor
 ·intro h x hx;obtain⟨i,hi,e⟩:=List.mem_iff_getElem.1 hx;exact h i hi x (by rw[List.getElem?_eq_getElem hi,e])
 ·intro h i hi x hx;exact h x (List.mem_of_getElem? hx)
theorem JJ {α κ:Type}{g:α->Prop}{key:α->κ}{l:List α}:UpT (ND g key l) l.length↔(∀ x∈l,g x)/\(l.map key).Nodup:=by
 constructor
 ·intro h;refine⟨fun x hx=>?_,List.pairwise_iff_getElem.2 fun i j hi hj hij=>?_⟩
  ·obtain⟨i,hi,e⟩:=List.mem_iff_getElem.1 hx;exact(h i hi x (by rw[List.getElem?_eq_getElem hi,e])).1
  ·rw[List.length_map]at hi hj;rw[List.getElem_map,List.getElem_map];exact(h j hj l[j] (List.getElem?_eq_getElem hj)).2 i hij l[i] (List.getElem?_eq_getElem hi)
 ·intro h i hi x hx;refine⟨h.1 x (List.mem_of_getElem? hx),fun j hj y hy=>?_⟩;obtain⟨h1,rfl⟩:=List.getElem?_eq_some_iff.1 hx;obtain⟨h2,rfl⟩:=List.getElem?_eq_some_iff.1 hy;have:=List.pairwise_iff_getElem.1 h.2 j i (by rw[List.length_map];omega) (by rw[List.length_map];omega) hj;rw[List.getElem_map,List.getElem_map]at this;exact this
namespace Bi
theorem mk {b:Bool}{P:Prop}(h:b=true->P) (k:P->b=true):Bi b P:=⟨h,k⟩
theorem no {P:Prop}(h:¬P):Bi false P:=⟨fun e=>Bool.noConfusion e,fun p=>absurd p h⟩
theorem yes {P:Prop}(h:P):Bi true P:=⟨fun _=>h,fun _=>rfl⟩
theorem get {P:Prop}(h:Bi true P):P:=h.1 rfl
theorem not {P:Prop}(h:Bi false P):¬P:=fun p=>Bool.noConfusion (h.2 p)
theorem trans {b:Bool}{P Q:Prop}(h:Bi b P) (e:P↔Q):Bi b Q:=Iff.trans h e
theorem w {b c:Bool}(h:c=b):Bi b (c=true):=by subst h;exact Iff.rfl
theorem f1 {P Q:Prop}(h:Bi false P):Bi false (P/\Q):=no fun e=>h.not e.1
theorem t {b:Bool}{P Q:Prop}(h:Bi true P) (k:Bi b Q):Bi b (P/\Q):=⟨fun e=>⟨h.get,k.1 e⟩,fun e=>k.2 e.2⟩
theorem or1 {P Q:Prop} [Decidable P] (h:decide P=true):Bi true (P\/Q):=yes (.inl (of_decide_eq_true h))
theorem or2 {P Q:Prop} [Decidable P] [Decidable Q] (h:decide P=false):Bi (decide Q) (P\/Q):=⟨fun e=> .inr (of_decide_eq_true e),fun e=>decide_eq_true (e.resolve_left (of_decide_eq_false h))⟩
theorem start {b:Bool}{X:Prop}{P:Nat->Prop}(h:Bi b X):Bi b (X/\UpT P 0):=h.trans ⟨fun x=>⟨x,up0⟩,fun x=>x.1⟩
theorem fs {X:Prop}{P:Nat->Prop}{j:Nat}(h:Bi false (X/\UpT P j)):Bi false (X/\UpT P (j+1)):=no fun e=>h.not ⟨e.1,(upS.1 e.2).1⟩
theorem dup {α κ:Type}{key:α->κ}{l:List α}{x y:α}{j:Nat}{X:Prop}(_:Bi true (X/\UpT (DF key l x) j)) (hy:l[j]? =some y) (e:key y=key x):Bi false (X/\UpT (DF key l x) (j+1)) :=
 no fun h=>(AC3 hy).1 (upS.1 h.2).2 e
theorem new {α κ:Type}{key:α->κ}{l:List α}{x y:α}{j:Nat}{X:Prop}(h:Bi true (X/\UpT (DF key l x) j)) (hy:l[j]? =some y) (e:¬key y=key x):Bi true (X/\UpT (DF key l x) (j+1)) :=
 yes ⟨h.get.1,upS.2 ⟨h.get.2,(AC3 hy).2 e⟩⟩
theorem nd {α κ:Type}{b:Bool}{g:α->Prop}{key:α->κ}{l:List α}{x:α}{k:Nat}{X A:Prop}(h:Bi b (X/\UpT (DF key l x) k)) (hX:X=((A/\UpT (ND g key l) k)/\g x)) (hx:l[k]? =some x):Bi b (A/\UpT (ND g key l) (k+1)):=by
 subst hX;exact h.trans ⟨fun⟨⟨⟨a,u⟩,c⟩,d⟩=>⟨a,upS.2 ⟨u,(mZ hx).2 ⟨c,d⟩⟩⟩,fun⟨a,u⟩=>⟨⟨⟨a,(upS.1 u).1⟩,((mZ hx).1 (upS.1 u).2).1⟩,((mZ hx).1 (upS.1 u).2).2⟩⟩
theorem el {α:Type}{b:Bool}{g:α->Prop}{l:List α}{x:α}{k:Nat}{A:Prop}(h:Bi b ((A/\UpT (EL g l) k)/\g x)) (hx:l[k]? =some x):Bi b (A/\UpT (EL g l) (k+1)) :=
 h.trans ⟨fun⟨⟨a,u⟩,c⟩=>⟨a,upS.2 ⟨u,(AC2 hx).2 c⟩⟩,fun⟨a,u⟩=>⟨⟨a,(upS.1 u).1⟩,(AC2 hx).1 (upS.1 u).2⟩⟩
end Bi
def Ae9 (x:Lot):Prop:=SmB 1 x.id/\SmB 0 x.y8
def AB8 (x:Bz):Prop:=Ei x.name=true/\SmB 0 x.low/\SmB 0 x.high/\(x.kind=1\/x.kind=2)
def Af0 (x:Req):Prop:=Ei x.name=true/\SmB 0 x.value/\(x.rel=[60,61]\/x.rel=[62,61])
def Af1 (x:By):Prop:=x=N9\/Ei x=true
def At6 (c:List Int):Prop:=2<=c.length/\UpT (ND (SmB 1) id c) c.length
abbrev A1 (T:Tn) (k:Nat):Prop:=True/\UpT (ND Ae9 Lot.id T.u9) k
abbrev A2 (T:Tn) (k:Nat):Prop:=A1 T T.u9.length/\UpT (ND AB8 Bz.name T.G9) k
abbrev A3 (T:Tn) (k:Nat):Prop:=A2 T T.G9.length/\UpT (EL Af0 T.reqs) k
abbrev A4 (T:Tn) (k:Nat):Prop:=A3 T T.reqs.length/\UpT (ND Af1 id T.AJ) k
abbrev A5 (T:Tn) (k:Nat):Prop:=A4 T T.AJ.length/\UpT (EL At6 T.J9) k
theorem Bi.cmb {b:Bool}{T:Tn}{Y:Prop}{c:List Int}{k:Nat}(h:Bi b (Y/\UpT (ND (SmB 1) id c) c.length)) (hY:Y=(A5 T k/\2<=c.length)) (hx:T.J9[k]? =some c):Bi b (A5 T (k+1)):=by
 subst hY;exact Bi.el (h.trans ⟨fun⟨⟨a,c⟩,d⟩=>⟨a,c,d⟩,fun⟨a,c,d⟩=>⟨⟨a,c⟩,d⟩⟩) hx
structure LsT (T:Tn):Prop where
 n0:1<=T.u9.length
 n1:T.u9.length<=12
 n2:T.G9.length<=12
 n3:T.reqs.length<=24
 n4:T.AJ.length<=12
 n5:T.J9.length<=12
 a:A5 T T.J9.length
def RnT (T:Tn):Prop:=SmB 0 T.low/\SmB 0 T.high/\SmB 0 T.y8/\SmB 0 T.V9/\SmB 0 T.t.q/\SmB 0 T.t.b/\SmB 0 T.t.g/\SmB 0 T.t.p/\SmB 0 T.t.s
theorem jD {T:Tn}(hC:∀ c∈T.J9,c.length<=12):IG T↔(AM T.name=true/\AD T.f=true)/\LsT T/\RnT T:=by
 constructor
 ·intro h;obtain⟨k,m,hf,hk,hm⟩:=h.f;refine⟨⟨h.name,jE hf hk hm⟩,⟨List.length_pos_iff.2 h.At7,h.u9,h.G9,h.reqs,h.AJ,h.J9,⟨⟨⟨⟨⟨trivial,JJ.2 ⟨fun x hx=>?_,h.ids⟩⟩,JJ.2 ⟨fun x hx=>?_,h.crs⟩⟩,Uu.2 fun x hx=>?_⟩,JJ.2 ⟨fun x hx=>h.tie x hx,by rw[List.map_id];exact h.tnd⟩⟩,Uu.2 fun c hc=>?_⟩⟩,h.low,h.high,h.y8,h.V9,h.t.1,h.t.2.1,h.t.2.2.1,h.t.2.2.2.1,h.t.2.2.2.2⟩
  ·obtain⟨a,b,c⟩:=h.lot x hx;exact⟨⟨a,b⟩,c⟩
  ·obtain⟨a,b,c,d⟩:=h.Du x hx;exact⟨a,c,d,b⟩
  ·obtain⟨a,b,c⟩:=h.req x hx;exact⟨a,c,by simpa using b⟩
  ·obtain⟨a,b,c,d⟩:=h.combo c hc;exact⟨a,JJ.2 ⟨fun n hn=>d n hn,by rw[List.map_id];exact c⟩⟩
 ·rintro⟨⟨h1,h2⟩,⟨n0,n1,n2,n3,n4,n5,⟨⟨⟨⟨⟨-,a1⟩,a2⟩,a3⟩,a4⟩,a5⟩⟩,r1,r2,r3,r4,r5⟩;obtain⟨b1,c1⟩:=JJ.1 a1;obtain⟨b2,c2⟩:=JJ.1 a2;have b3:=Uu.1 a3;obtain⟨b4,c4⟩:=JJ.1 a4;have b5:=Uu.1 a5;obtain⟨f1,f2,f3⟩:=Hl h2;rw[List.map_id]at c4;refine⟨h1,n1,List.length_pos_iff.1 n0,fun x hx=>⟨(b1 x hx).1.1,(b1 x hx).1.2,(b1 x hx).2⟩,c1,n2,fun x hx=>?_,c2,n3,fun x hx=>?_,r1,r2,⟨_,_,f1,f2,f3⟩,n4,b4,c4,r3,n5,fun c hc=>?_,r4,r5⟩
  ·obtain⟨a,c,d,b⟩:=b2 x hx;exact⟨a,b,c,d⟩
  ·obtain⟨a,c,b⟩:=b3 x hx;exact⟨a,by simpa using b,c⟩
  ·obtain⟨a,b⟩:=b5 c hc;obtain⟨b,d⟩:=JJ.1 b;rw[List.map_id]at d;exact⟨a,hC c hc,d,b⟩
theorem uu {T:Tn}(L0:1<=T.u9.length) (L1:T.u9.length<=12) (L2:T.G9.length<=12) (L3:T.reqs.length<=24) (L4:T.AJ.length<=12) (L5:T.J9.length<=12):A5 T T.J9.length↔LsT T :=
 ⟨fun h=>⟨L0,L1,L2,L3,L4,L5,h⟩,fun h=>h.a⟩
end Go.Proofs.T
