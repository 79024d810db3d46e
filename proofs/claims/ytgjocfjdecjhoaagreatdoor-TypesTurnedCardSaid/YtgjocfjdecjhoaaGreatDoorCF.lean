/- A part of the proof: a walk of some functions. -/
import Derived.Test.YtgjocfjdecjhoaaGreatDoorCE
set_option linter.unusedSimpArgs false
set_option linter.unusedVariables false
set_option linter.defProp false
set_option maxHeartbeats 32000000
set_option maxRecDepth 100000
namespace Go.Proofs.T
open Go Go.Ab
open Nat (reduceMul reduceEqDiff reduceAdd)
section
variable {z a0 a1 a2 a3 a4 a5 a6 a7 a8 a9 a10 a11 a12 a13 a14 a15 a16 a17 a18 a19 a b c v:Value}{T:Tn}{e:Ex}{Z:St}{l:List Int}{n:Int}{j:Nat}
def rH:By:=[115,112,101,101,100]
def ZS:By:=[99,111,109,102,111,114,116]
def gy:By:=[119,101,105,103,104,116]
def gn:List By:=[rH,ZS,gy]
def hU:∀ s∈gn,s∈names/\s≠N9/\s≠Dp/\s.length<=30:=by decide
def rI {i:Nat}(h:i<3):∃ s,sub ([str [115,112,101,101,100],str [99,111,109,102,111,114,116],str [119,101,105,103,104,116]]:List Value) i 1=some [str s]/\s∈gn:=by
 have:i=0\/i=1\/i=2:=om;rcases this with rfl|rfl|rfl
 ·exact⟨rH,rfl,by decide⟩
 ·exact⟨ZS,rfl,by decide⟩
 ·exact⟨gy,rfl,by decide⟩
def gs2:M7 [a,b] 1 [z]=some [a,z]:=rfl
def CL:M7 [a,b,c] 1 [z]=some [a,z,c]:=rfl
def CM:M7 [a,b,c] 2 [z]=some [a,b,z]:=rfl
def gw1:M7 [a0,a1,a2,a3,a4,a5,a6,a7,a8,a9,a10,a11,a12,a13,a14,a15,a16,a17,a18,a19] 1 [z]=some [a0,z,a2,a3,a4,a5,a6,a7,a8,a9,a10,a11,a12,a13,a14,a15,a16,a17,a18,a19]:=rfl
def gw2:M7 [a0,a1,a2,a3,a4,a5,a6,a7,a8,a9,a10,a11,a12,a13,a14,a15,a16,a17,a18,a19] 2 [z]=some [a0,a1,z,a3,a4,a5,a6,a7,a8,a9,a10,a11,a12,a13,a14,a15,a16,a17,a18,a19]:=rfl
def gw3:M7 [a0,a1,a2,a3,a4,a5,a6,a7,a8,a9,a10,a11,a12,a13,a14,a15,a16,a17,a18,a19] 3 [z]=some [a0,a1,a2,z,a4,a5,a6,a7,a8,a9,a10,a11,a12,a13,a14,a15,a16,a17,a18,a19]:=rfl
def gw5:M7 [a0,a1,a2,a3,a4,a5,a6,a7,a8,a9,a10,a11,a12,a13,a14,a15,a16,a17,a18,a19] 5 [z]=some [a0,a1,a2,a3,a4,z,a6,a7,a8,a9,a10,a11,a12,a13,a14,a15,a16,a17,a18,a19]:=rfl
def CN:M7 [a0,a1,a2,a3,a4,a5,a6,a7,a8,a9,a10,a11,a12,a13,a14,a15,a16,a17,a18,a19] 11 [z]=some [a0,a1,a2,a3,a4,a5,a6,a7,a8,a9,a10,z,a12,a13,a14,a15,a16,a17,a18,a19]:=rfl
def CO:M7 [a0,a1,a2,a3,a4,a5,a6,a7,a8,a9,a10,a11,a12,a13,a14,a15,a16,a17,a18,a19] 13 [z]=some [a0,a1,a2,a3,a4,a5,a6,a7,a8,a9,a10,a11,a12,z,a14,a15,a16,a17,a18,a19]:=rfl
def CQ:M7 [a0,a1,a2,a3,a4,a5,a6,a7,a8,a9,a10,a11,a12,a13,a14,a15,a16,a17,a18,a19] 15 [z]=some [a0,a1,a2,a3,a4,a5,a6,a7,a8,a9,a10,a11,a12,a13,a14,z,a16,a17,a18,a19]:=rfl
def CT:M7 [a0,a1,a2,a3,a4,a5,a6,a7,a8,a9,a10,a11,a12,a13,a14,a15,a16,a17,a18,a19] 16 [z]=some [a0,a1,a2,a3,a4,a5,a6,a7,a8,a9,a10,a11,a12,a13,a14,a15,z,a17,a18,a19]:=rfl
def CU:M7 [a0,a1,a2,a3,a4,a5,a6,a7,a8,a9,a10,a11,a12,a13,a14,a15,a16,a17,a18,a19] 17 [z]=some [a0,a1,a2,a3,a4,a5,a6,a7,a8,a9,a10,a11,a12,a13,a14,a15,a16,z,a18,a19]:=rfl
def CV:M7 [a0,a1,a2,a3,a4,a5,a6,a7,a8,a9,a10,a11,a12,a13,a14,a15,a16,a17,a18,a19] 18 [z]=some [a0,a1,a2,a3,a4,a5,a6,a7,a8,a9,a10,a11,a12,a13,a14,a15,a16,a17,z,a19]:=rfl
def CW:M7 [a0,a1,a2,a3,a4,a5,a6,a7,a8,a9,a10,a11,a12,a13,a14,a15,a16,a17,a18,a19] 19 [z]=some [a0,a1,a2,a3,a4,a5,a6,a7,a8,a9,a10,a11,a12,a13,a14,a15,a16,a17,a18,z]:=rfl
def gw6 {z0 z1 z2 z3 z4:Value}:M7 [a0,a1,a2,a3,a4,a5,a6,a7,a8,a9,a10,a11,a12,a13,a14,a15,a16,a17,a18,a19] 6 [z0,z1,z2,z3,z4]=some [a0,a1,a2,a3,a4,a5,z0,z1,z2,z3,z4,a11,a12,a13,a14,a15,a16,a17,a18,a19]:=rfl
def Ny (s:By):List Value:=[str s]
def GR {τ:St}{q:Nat}{H0:List Nat}(hl:Aw (M8 Z H0) v l) (hll:l.length<=9223372036854775807) (hE:Ext Z τ) (hq0:Z.n<=q) (hq:q<τ.n) (hQ:GQ q v l τ) (h1:0<n) (h2:n<=1000):
  Ev (gO 26 [.pointer (some ⟨q,0,none⟩),.int .i64 n] τ) (fun r=>∃ (x:Nat) (Z':St),r=⟨false,.int .i64 (x:Nat),Z'⟩/\(x:Int)<n/\Ext Z Z'/\GQ q v l Z'/\J7 q τ Z') ⟨⟩:=by
 refine(Lb (ZT (H:=q::H0) hl hll hE (fun c hc=>by rcases Y5.1 hc with rfl|h<;>first|exact .inl hq0|exact .inr h) hq hQ (by simp)) h1 h2).mono ?_;rintro r ⟨x,Z',rfl,hx,hM,hX⟩;obtain⟨k,r1,r2,r3⟩:=hM.Sx;exact⟨x,Z',rfl,hx,hX.ext hE hq0,⟨k,r3,r1⟩,hX⟩
def bdN:Nat->Int|0=>80|1=>23040|2=>4976640|_=>955514880
def bdD:Nat->Int|0=>144|1=>20736|2=>2985984|_=>429981696
def AQ9 {f:Ex}{k:Nat}{o:By}(hk:k<3) (he:Iv T e (BdQ (bdN k) (bdD k))) (hf:Iv T f (BdQ 80 144)) (ho:o=JD\/o=PD):Iv T (Q3 o e f) (BdQ (bdN (k+1)) (bdD (k+1))):=by
 have key:∀ n d m e,BdQ (bdN k) (bdD k) n d->BdQ 80 144 m e->(-(bdN (k+1))<=n*e+m*d/\n*e+m*d<=bdN (k+1))/\(-(bdN (k+1))<=n*e-m*d/\n*e-m*d<=bdN (k+1))/\d*e≠0/\ -(bdD (k+1))<=d*e/\d*e<=bdD (k+1):=by
  rintro n d m e ⟨hr,a1,a2,a3⟩ ⟨hs,b1,b2,b3⟩;have d1:=hr.d1;have e1:=hs.d1;have p3:d*e≠0:=Int.mul_ne_zero om om;have:k=0\/k=1\/k=2:=om;rcases this with rfl|rfl|rfl<;>simp only[bdN,bdD]at a1 a2 a3 ⊢
  ·have p1:=LQ (a:=n) (b:=e) (A:=80) (B:=144) a1 a2 om b3;have p2:=LQ (a:=m) (b:=d) (A:=80) (B:=144) b1 b2 om a3;have p4:=LQ (a:=d) (b:=e) (A:=144) (B:=144) om a3 om b3;omega
  ·have p1:=LQ (a:=n) (b:=e) (A:=23040) (B:=144) a1 a2 om b3;have p2:=LQ (a:=m) (b:=d) (A:=80) (B:=20736) b1 b2 om a3;have p4:=LQ (a:=d) (b:=e) (A:=20736) (B:=144) om a3 om b3;omega
  ·have p1:=LQ (a:=n) (b:=e) (A:=4976640) (B:=144) a1 a2 om b3;have p2:=LQ (a:=m) (b:=d) (A:=80) (B:=2985984) b1 b2 om a3;have p4:=LQ (a:=d) (b:=e) (A:=2985984) (B:=144) om a3 om b3;omega
 have lim:bdN (k+1)<1000000000/\bdD (k+1)<1000000000:=by
  have:k=0\/k=1\/k=2:=om;rcases this with rfl|rfl|rfl<;>decide
 rcases ho with rfl|rfl
 ·refine Hn (by decide) (by decide) he hf (fun _ _ h=>h.1) (fun _ _ h=>h.1) (nA ?_);intro n d m e h1 h2;obtain⟨⟨c1,c2⟩,-,c3,c4,c5⟩:=key n d m e h1 h2;exact Sl c3 c1 c2 c4 c5 lim.1 lim.2
 ·refine Hn (by decide) (by decide) he hf (fun _ _ h=>h.1) (fun _ _ h=>h.1) (AD1 ?_);intro n d m e h1 h2;obtain⟨-,⟨c1,c2⟩,c3,c4,c5⟩:=key n d m e h1 h2;exact Sl c3 c1 c2 c4 c5 lim.1 lim.2
def Al1 {x:Nat}(h:(x:Int)<3):∃ o,sub ([str [43],str [43],str [45]]:List Value) x 1=some [str o]/\(o=JD\/o=PD):=by
 have:x=0\/x=1\/x=2:=om;rcases this with rfl|rfl|rfl
 ·exact⟨JD,rfl,.inl rfl⟩
 ·exact⟨JD,rfl,.inl rfl⟩
 ·exact⟨PD,rfl,.inr rfl⟩
def Iv.congr {U:Tn}(h:∀ s,W0 T s=W0 U s){P:JC}(hi:Iv T e P):Iv U e P:=by
 induction hi with
 |num h=>exact .num h
 |name k=>refine .name ?_;rw[<- h];exact k
 |op h1 h2 _ _ hA hB hP iha ihb=>exact .op h1 h2 iha ihb hA hB hP
structure GOk (T:Tn):Prop where
 ok:T.Ok
 sm:T.Sm
 le:T.Le 5
 nm:T.name=[116]
 q1:10<=T.t.q/\T.t.q<=14
 b1:T.t.q+1<=T.t.b/\T.t.b<=T.t.q+5
 g1:T.t.b+1<=T.t.g/\T.t.g<=T.t.b+5
 p1:T.t.g+1<=T.t.p/\T.t.p<=T.t.g+5
 s1:0<=T.t.s/\T.t.s<=9
def FOk.wf (h:FOk j e):WfE 4 e/\R0 e+1<=2*j:=by
 induction h with
 | @num n d h h0 hd=>
   have h2:=h.n2;have h3:=h.d1;have h4:d<=1000000:=Int.le_of_dvd om (Int.dvd_of_emod_eq_zero hd);exact⟨Dt.2 ⟨by decide,by decide,⟨om,om⟩,⟨om,h4⟩,by decide,EO⟩,by rw[X0,R2];omega⟩
 | @name nm h=>exact⟨Dt.2 ⟨by decide,om,⟨om,om⟩,⟨om,om⟩,by decide,EO⟩,by rw[X0,R2];omega⟩
 | @op o j k a b h1 h2 hl ha hb iha ihb=>
   exact⟨Dt.2 ⟨hl,by decide,⟨om,om⟩,⟨om,om⟩,by simp,AL.2 ⟨iha.1,AL.2 ⟨ihb.1,EO⟩⟩⟩,by rw[X0,N4,N4,R2];have:=iha.2;have:=ihb.2;omega⟩
def SmN.w (h:SmN n):SmW n:=⟨by have:=h.1;omega,by have:=h.2;omega⟩
def GOk.wk (h:GOk T) (hf:FOk j T.f) (hj:j<=500):WkT 4 1000 100 T :=
 ⟨by rw[h.nm];decide,by have:=h.ok.u9;omega,fun l hl=>⟨(h.sm.lot l hl).1.w,(h.sm.lot l hl).2.w⟩,by have:=h.ok.G9;omega,
  fun c hc=>⟨by have:=NT (h.ok.Du c hc).1;omega,by have:=(h.sm.Du c hc).1;omega,(h.sm.Du c hc).2.1.w,(h.sm.Du c hc).2.2.w⟩,
  by have:=h.ok.reqs;omega,fun r hr=>⟨by have:=NT (h.ok.req r hr).1;omega,(h.ok.req r hr).2.1,(h.sm.req r hr).w⟩,
  by have:=h.ok.AJ;omega,fun s hs=>by have:=NT (h.ok.tie s hs);omega,by have:=h.ok.J9;omega,
  fun c hc=>⟨by have:=(h.ok.combo c hc).1;omega,fun n hn=>(h.sm.combo c hc n hn).w⟩,h.sm.low.w,h.sm.high.w,h.sm.y8.w,h.sm.V9.w,
  ⟨h.sm.tim.1.w,h.sm.tim.2.1.w,h.sm.tim.2.2.1.w,h.sm.tim.2.2.2.1.w,h.sm.tim.2.2.2.2.w⟩,hf.wf.1,by have:=hf.wf.2;omega⟩
def yQ (H0:List Nat) (hH0:∀ c∈H0,c<Z.n) (hl:Aw (M8 Z H0) v l) (hll:l.length<=9223372036854775807):
  Ev (gO 9 [v] Z) (fun r=>∃ cells T Z',r=⟨false,.agg ⟨cells⟩,Z'⟩/\Ext Z Z'/\TnX (M8 Z' H0) cells T/\GOk T/\∃ j,FOk j T.f/\j<=500) ⟨⟩:=by
 have hv:∃ a n c,v= .slice a n c:=by
  obtain⟨a,c,b,off,cells,h,-⟩:=hl.1.use;exact⟨a,_,c,h⟩
 have hvc:J6 v=[v]/\Di v=false:=by obtain⟨a,n,c,rfl⟩:=hv;exact⟨rfl,rfl⟩
 refine C9 Tryz.func9 rfl rfl ?_;refine gU1 (a4N @A6 @D5 (hvc.1) (hvc.2)) ?_;obtain⟨S0,hS0⟩:=nm (((Z.new [str [],.slice none 0 0,.slice none 0 0,.slice none 0 0,.int .i64 0,.int .i64 0,str [],.int .i64 0,.int .i64 0,str [],.slice none 0 0,.slice none 0 0,.int .i64 0,.slice none 0 0,.int .i64 0,.int .i64 0,.int .i64 0,.int .i64 0,.int .i64 0,.int .i64 0] (some 38)).new [v,.int .i64 0]));rw[hS0];obtain⟨q,hq⟩:=nm (Z.n+1);rw[hq];have E0:Ext Z S0:=by rw[<- hS0];exact eX
 have n0:S0.n=Z.n+2:=by rw[<- hS0];rfl
 have Q0:GQ q v l S0:=⟨0,BM _,by rw[<- hS0,<- hq];exact cL⟩
 have z0:S0.A7 Z.n=some [str [],.slice none 0 0,.slice none 0 0,.slice none 0 0,.int .i64 0,.int .i64 0,str [],.int .i64 0,.int .i64 0,str [],.slice none 0 0,.slice none 0 0,.int .i64 0,.slice none 0 0,.int .i64 0,.int .i64 0,.int .i64 0,.int .i64 0,.int .i64 0,.int .i64 0]:=by rw[<- hS0];exact cL
 clear hS0;refine(GR (n:=3) hl hll E0 om om Q0 om om).mono ?_;rintro r ⟨a,τ1,rfl,ha,Ea,Qa,Xa⟩;have na:=Xa.n;have z0:=eT (Xa.A7 om om) z0;refine gU1 (aI @A6 @D5) ?_;refine(GR (n:=200) hl hll Ea om om Qa om om).mono ?_;rintro r ⟨b,τ2,rfl,hb,Eb,Qb,Xb⟩;have nb:=Xb.n;have z0:=eT (Xb.A7 om om) z0;refine gU1 (aI @A6 @D5) ?_;refine(GR (n:=3) hl hll Eb om om Qb om om).mono ?_;rintro r ⟨c,τ3,rfl,hc,Ec,Qc,Xc⟩;have nc:=Xc.n;have z0:=eT (Xc.A7 om om) z0;obtain⟨lo,hlo⟩:=nm (1+(a:Int));obtain⟨bu,hbu⟩:=nm (20+(b:Int));obtain⟨mo,hmo⟩:=nm ((c:Int));obtain⟨p,hp⟩:=nm τ3.n;rw[hlo,hbu,hmo];refine gU1 (aI @A6 (aI @D5 (aI hlo (aI hbu hmo)))) ?_;obtain⟨S4,hS4⟩:=nm (((τ3.new [str [],.slice none 0 0,.slice none 0 0,.slice none 0 0,.int .i64 0,.int .i64 0,str [],.int .i64 0,.int .i64 0,str [],.slice none 0 0,.slice none 0 0,.int .i64 0,.slice none 0 0,.int .i64 0,.int .i64 0,.int .i64 0,.int .i64 0,.int .i64 0,.int .i64 0] (some 38)).upd τ3.n [str [116],.slice none 0 0,.slice none 0 0,.slice none 0 0,.int .i64 lo,.int .i64 0,str [],.int .i64 0,.int .i64 0,str [],.slice none 0 0,.slice none 0 0,.int .i64 mo,.slice none 0 0,.int .i64 bu,.int .i64 0,.int .i64 0,.int .i64 0,.int .i64 0,.int .i64 0]));rw[hS4];have E4:Ext τ3 S4:=by rw[<- hS4];exact eX
 have n4:S4.n=p+1:=by rw[<- hS4,<- hp];rfl
 have rp:S4.A7 p=some [str [116],.slice none 0 0,.slice none 0 0,.slice none 0 0,.int .i64 lo,.int .i64 0,str [],.int .i64 0,.int .i64 0,str [],.slice none 0 0,.slice none 0 0,.int .i64 mo,.slice none 0 0,.int .i64 bu,.int .i64 0,.int .i64 0,.int .i64 0,.int .i64 0,.int .i64 0]:=by rw[<- hS4,<- hp];exact cL
 have z0:=eT (E4.A7 om) z0;have Q4:=Qc.ext E4 om;have E5:=Ec.trans E4;clear hS4 E4;rw[hp];refine(GR (n:=5) hl hll E5 om om Q4 om om).mono ?_;rintro r ⟨d,τ5,rfl,hd,Ed,Qd,Xd⟩;have nd:=Xd.n;have z0:=eT (Xd.A7 om om) z0;have rp:=eT (Xd.A7 om om) rp;obtain⟨hi,hhi⟩:=nm (lo+1+(d:Int));refine gU1 (aI @A6 (aI @D5 (aI rp hhi))) ?_;refine Ca.intro (by(repeat first|simp(disch:=omega) only[M9,G3,G8,V7 Xd]|rw[V8 (by kernel_rfl)]);first|done|rfl) ?_;refine gU1 (aI @A6 @D5) ?_;obtain⟨S6,hS6⟩:=nm ((τ5.upd p [str [116],.slice none 0 0,.slice none 0 0,.slice none 0 0,.int .i64 lo,.int .i64 hi,str [],.int .i64 0,.int .i64 0,str [],.slice none 0 0,.slice none 0 0,.int .i64 mo,.slice none 0 0,.int .i64 bu,.int .i64 0,.int .i64 0,.int .i64 0,.int .i64 0,.int .i64 0]))
 try rw[hS6]
 have E6:Ext Z S6:=by rw[<- hS6];exact Ed.upd om _
 have n6:S6.n=τ5.n:=by rw[<- hS6];rfl
 have rp:S6.A7 p=some [str [116],.slice none 0 0,.slice none 0 0,.slice none 0 0,.int .i64 lo,.int .i64 hi,str [],.int .i64 0,.int .i64 0,str [],.slice none 0 0,.slice none 0 0,.int .i64 mo,.slice none 0 0,.int .i64 bu,.int .i64 0,.int .i64 0,.int .i64 0,.int .i64 0,.int .i64 0]:=by rw[<- hS6];exact cL
 have z0:S6.A7 Z.n=some [str [],.slice none 0 0,.slice none 0 0,.slice none 0 0,.int .i64 0,.int .i64 0,str [],.int .i64 0,.int .i64 0,str [],.slice none 0 0,.slice none 0 0,.int .i64 0,.slice none 0 0,.int .i64 0,.int .i64 0,.int .i64 0,.int .i64 0,.int .i64 0,.int .i64 0]:=by rw[<- hS6];exact cL1 z0
 have Q6:GQ q v l S6:=by rw[<- hS6];exact Qd.x (J7.refl.upd _) om om
 clear hS6;refine(GR (n:=3) hl hll E6 om om Q6 om om).mono ?_;rintro r ⟨e,τ7,rfl,he,Ee,Qe,Xe⟩;have ne:=Xe.n;have z0:=eT (Xe.A7 om om) z0;have rp:=eT (Xe.A7 om om) rp;obtain⟨nl,hnl,nl1,nl3⟩:∃ nl:Nat,1+(e:Int)=(nl:Int)/\1<=nl/\nl<=3:=⟨e+1,om,om,om⟩
 refine gU1 (aI @A6 (aI @D5 hnl)) ?_;have τ7Q:=Qe;have τ7E:=Ee
 refine I4 nl (fun k fr τ=>fr.get 6=some (.int .i64 k)/\fr.get 2=some (.pointer (some ⟨Z.n,0,none⟩))/\fr.get 3=some (.pointer (some ⟨q,0,none⟩))/\fr.get 4=some (.pointer (some ⟨p,0,none⟩))/\fr.get 5=some (.int .i64 (nl:Nat))/\Y9 q p τ7 τ/\GQ q v l τ/\∃ (u:Value) (L:List Lot),τ.A7 p=some ([str [116],u,.slice none 0 0,.slice none 0 0,.int .i64 lo,.int .i64 hi,str [],.int .i64 0,.int .i64 0,str [],.slice none 0 0,.slice none 0 0,.int .i64 mo,.slice none 0 0,.int .i64 bu,.int .i64 0,.int .i64 0,.int .i64 0,.int .i64 0,.int .i64 0])/\OL τ7.n τ 2 u (L.map Lot.row)/\L.length=k/\∀ x∈L,1<=x.id/\x.id<=3/\0<=x.y8/\x.y8<=100)
  (fun r=>∃ fr τ u,∃ L:List Lot,r=⟨.exit 0,fr,τ⟩/\fr.get 2=some (.pointer (some ⟨Z.n,0,none⟩))/\fr.get 3=some (.pointer (some ⟨q,0,none⟩))/\fr.get 4=some (.pointer (some ⟨p,0,none⟩))/\fr.get 5=some (.int .i64 (nl:Nat))/\Y9 q p τ7 τ/\GQ q v l τ/\τ.A7 p=some ([str [116],u,.slice none 0 0,.slice none 0 0,.int .i64 lo,.int .i64 hi,str [],.int .i64 0,.int .i64 0,str [],.slice none 0 0,.slice none 0 0,.int .i64 mo,.slice none 0 0,.int .i64 bu,.int .i64 0,.int .i64 0,.int .i64 0,.int .i64 0,.int .i64 0])/\OL τ7.n τ 2 u (L.map Lot.row)/\L.length=nl/\∀ x∈L,1<=x.id/\x.id<=3/\0<=x.y8/\x.y8<=100) ?_ ?_ ?_ ?_
 ·exact⟨fR,fR,fR,fR,fR,.refl,τ7Q,.slice none 0 0,[],rp,OL.nil,rfl,fun x hx=>by cases hx⟩
 ·skip
  rintro k fr τ hk ⟨gc,g2,g3,g4,g5,hX,hQ,u,L,rp,ho,hL,hP⟩;have hc:=L9 hk;have nX:=hX.n;have hE:Ext Z τ:=hX.ext τ7E om om;have rr:=A9 rp;have bv:N0 u≠some p:=fun hb=>by have:=(ho.blk hb).1;omega
  simp(maxSteps:=8000000) (disch:=first|exact dS|fail) only[↓bD,bU,reduceMul,reduceEqDiff,reduceAdd,Nat.reduceBEq,reduceIte,Option.isNone_none,A6,Ag,Y0,W8,U5,W5,U6,U7,U8,K3,H9,J3,I5,I6,I0,gc,g2,g3,g4,g5,hc,rr];refine(GR (n:=8) hl hll hE om om hQ om om).mono ?_;rintro r ⟨x,Z5,rfl,hx,Ex,Qx,Xx⟩;have nx:=Xx.n;have rp:Z5.A7 p=some _:=(Xx.A7 om om).trans rp;have rpr:=A9 rp;have rp':=rp;have Q':=Qx;simp(maxSteps:=8000000) (disch:=first|exact dS|fail) only[↓bD,bU,reduceMul,reduceEqDiff,reduceAdd,Nat.reduceBEq,reduceIte,Option.isNone_none,A6,Ag,Y0,W8,U5,W5,U6,U7,U8,K3,H9,J3,I5,I6,I0,gc,g2,g3,g4,g5,rpr];have hoN:OL τ7.n (Z5.new [.int .i64 (1+(k:Int)),.int .i64 (lo+(x:Int))]) 2 u (L.map Lot.row):=OL.ext (OL.BN ho Xx om) (.new _ _);have hXN:Y9 q p τ7 (Z5.new [.int .i64 (1+(k:Int)),.int .i64 (lo+(x:Int))]):=(hX.trans (.xq Xx)).trans (.of (Ext.W6 (.refl _) _));refine AF (row:=Lot.row ⟨1+(k:Int),lo+(x:Int)⟩) (fun _ _ _ _=>W4) hoN (K5 nL nL) (C8 (by simp[Bz.row,Req.row,Lot.row]) (by simp)) (by rw[z2z];omega) (by simp;omega) ?_;rintro u' Z8 ho' hA -;obtain⟨ua,rfl⟩:=OL.shape ho';have r8:Z8.A7 p=some _:=(D6 (hA.same p (by simp;omega) bv)).trans ((M4 (by first|omega|(simp;omega))).trans rp');have qN:GQ q v l (Z5.new [.int .i64 (1+(k:Int)),.int .i64 (lo+(x:Int))]):=Q'.ext (.new _ _) (by first|omega|(simp;omega));simp(maxSteps:=8000000) (disch:=first|exact dS|fail) only[↓bD,bU,reduceMul,reduceEqDiff,reduceAdd,Nat.reduceBEq,reduceIte,Option.isNone_none,A6,Ag,Y0,W8,U5,W5,U6,U7,U8,K3,H9,J3,I5,I6,I0,g2,g3,g4,g5,gc,r8,asx (Ext.refl _),G8,G3,V7 Xx]
  try refine Ca.intro (by(repeat first|simp(disch:=omega) only[M9,G3,G8,asx (Ext.refl _),V7 Xx]|rw[V8 (by kernel_rfl)]);first|done|rfl) ?_
  simp(maxSteps:=8000000) (disch:=first|exact dS|fail) only[↓bD,bU,reduceMul,reduceEqDiff,reduceAdd,Nat.reduceBEq,reduceIte,Option.isNone_none,A6,Ag,Y0,W8,U5,W5,U6,U7,U8,K3,H9,J3,I5,I6,I0,g2,g3,g4,g5,gc];refine⟨fR,fR1 g2,fR1 g3,fR1 g4,fR1 g5,(Y9.app hA hXN hoN nL).upd,(qN.app hA hoN (by first|omega|(simp;omega)) om).x (J7.refl.upd _) (by have:=hA.n;simp at this;omega) om,_,L++[⟨1+(k:Int),lo+(x:Int)⟩],cL,?_,by simp[hL],?_⟩
  ·rw[IY];exact OL.upd ho' om
  ·intro x hx;rcases HX.1 hx with hx|hx
   ·exact hP x hx
   ·rw[Lf]at hx;subst hx;exact⟨by show(1:Int)<=1+(k:Int);omega,by show 1+(k:Int)<=3;omega,by show(0:Int)<=lo+(x:Int);omega,by show lo+(x:Int)<=100;omega⟩
 ·skip
  rintro fr τ ⟨gc,g2,g3,g4,g5,hX,hQ,u,L,rp,ho,hL,hP⟩;simp(maxSteps:=8000000) (disch:=first|exact dS|fail) only[↓bD,bU,reduceMul,reduceEqDiff,reduceAdd,Nat.reduceBEq,reduceIte,Option.isNone_none,A6,D5,gc,g5];exact⟨_,_,u,L,rfl,fR1 g2,fR1 g3,fR1 g4,fR1 g5,hX,hQ,rp,ho,hL,hP⟩
 rintro r ⟨fr,τ8,V1,L1,rfl,g2,g3,g4,g5,hX8,Q8,rp,ho1,hL1,hP1⟩;have n8:=hX8.n;have E8:Ext Z τ8:=hX8.ext τ7E om om;have z0:τ8.A7 Z.n=some [str [],.slice none 0 0,.slice none 0 0,.slice none 0 0,.int .i64 0,.int .i64 0,str [],.int .i64 0,.int .i64 0,str [],.slice none 0 0,.slice none 0 0,.int .i64 0,.slice none 0 0,.int .i64 0,.int .i64 0,.int .i64 0,.int .i64 0,.int .i64 0,.int .i64 0]:=by rw[hX8.A7 om om om];exact z0
 obtain⟨va1,hV1⟩:=OL.shape ho1;subst hV1;obtain⟨V1,hV1⟩:=nm (Value.slice va1 (L1.map Lot.row).length (L1.map Lot.row).length);rw[hV1]at rp ho1;refine gU1 (aI @A6 (aI @D5 g3)) ?_;obtain⟨S9,hS9⟩:=nm ((τ8.new [str [115,112,101,101,100],str [99,111,109,102,111,114,116],str [119,101,105,103,104,116]]));rw[hS9];have F9:Ext τ8 S9:=by rw[<- hS9];exact eX
 have n9:S9.n=τ8.n+1:=by rw[<- hS9];rfl
 obtain⟨nb,hnb⟩:=nm τ8.n;have rn:S9.A7 nb=some [str [115,112,101,101,100],str [99,111,109,102,111,114,116],str [119,101,105,103,104,116]]:=by rw[<- hS9,<- hnb];exact cL
 have rp:=eT (F9.A7 om) rp;have z0:=eT (F9.A7 om) z0;have Q9:=Q8.ext F9 om;have E9:=E8.trans F9;have ho1:=OL.ext ho1 F9;clear hS9;refine(GR (n:=4) hl hll E9 om om Q9 om om).mono ?_;rintro r ⟨f,τ9,rfl,hf,Ef,Qf,Xf⟩;have nf:=Xf.n;have z0:=eT (Xf.A7 om om) z0;have rp:=eT (Xf.A7 om om) rp;have rn:=eT (Xf.A7 om om) rn;have ho1:=OL.BN ho1 Xf om;have lb1:∀ b,N0 V1=some b->b<τ9.n:=fun b hb=>(ho1.blk hb).2;refine gU1 (aI @A6 (aI @D5 hnb)) ?_;have τ9Q:=Qf;have τ9E:=Ef
 refine I4 f (fun k fr τ=>fr.get 9=some (.int .i64 k)/\fr.get 2=some (.pointer (some ⟨Z.n,0,none⟩))/\fr.get 3=some (.pointer (some ⟨q,0,none⟩))/\fr.get 4=some (.pointer (some ⟨p,0,none⟩))/\fr.get 5=some (.int .i64 (nl:Nat))/\fr.get 7=some (.slice (some ⟨nb,0,none⟩) 3 3)/\fr.get 8=some (.int .i64 (f:Nat))/\Y9 q p τ9 τ/\GQ q v l τ/\∃ (u:Value) (L:List Bz),τ.A7 p=some ([str [116],V1,u,.slice none 0 0,.int .i64 lo,.int .i64 hi,str [],.int .i64 0,.int .i64 0,str [],.slice none 0 0,.slice none 0 0,.int .i64 mo,.slice none 0 0,.int .i64 bu,.int .i64 0,.int .i64 0,.int .i64 0,.int .i64 0,.int .i64 0])/\OL τ9.n τ 5 u (L.map Bz.row)/\L.length=k/\∀ x∈L,x.name∈gn/\(x.kind=1\/x.kind=2)/\0<=x.low/\x.low<=4/\0<=x.high/\x.high<=4)
  (fun r=>∃ fr τ u,∃ L:List Bz,r=⟨.exit 2,fr,τ⟩/\fr.get 2=some (.pointer (some ⟨Z.n,0,none⟩))/\fr.get 3=some (.pointer (some ⟨q,0,none⟩))/\fr.get 4=some (.pointer (some ⟨p,0,none⟩))/\fr.get 5=some (.int .i64 (nl:Nat))/\fr.get 7=some (.slice (some ⟨nb,0,none⟩) 3 3)/\fr.get 8=some (.int .i64 (f:Nat))/\Y9 q p τ9 τ/\GQ q v l τ/\τ.A7 p=some ([str [116],V1,u,.slice none 0 0,.int .i64 lo,.int .i64 hi,str [],.int .i64 0,.int .i64 0,str [],.slice none 0 0,.slice none 0 0,.int .i64 mo,.slice none 0 0,.int .i64 bu,.int .i64 0,.int .i64 0,.int .i64 0,.int .i64 0,.int .i64 0])/\OL τ9.n τ 5 u (L.map Bz.row)/\L.length=f/\∀ x∈L,x.name∈gn/\(x.kind=1\/x.kind=2)/\0<=x.low/\x.low<=4/\0<=x.high/\x.high<=4) ?_ ?_ ?_ ?_
 ·exact⟨fR,fR1 g2,fR1 g3,fR1 g4,fR1 g5,fR,fR,.refl,τ9Q,.slice none 0 0,[],rp,OL.nil,rfl,fun x hx=>by cases hx⟩
 ·clear g2 g3 g4 g5 fr;rintro k fr τ hk ⟨gc,g2,g3,g4,g5,g7,g8,hX,hQ,u,L,rp,ho,hL,hP⟩;have hc:=L9 hk;have nX:=hX.n;have hE:Ext Z τ:=hX.ext τ9E om om;have rr:=A9 rp;have bv:N0 u≠some p:=fun hb=>by have:=(ho.blk hb).1;omega
  have rnr:τ.row nb=some [str [115,112,101,101,100],str [99,111,109,102,111,114,116],str [119,101,105,103,104,116]]:=A9 (by rw[hX.A7 om om om];exact rn);obtain⟨nm,hnm,hgn⟩:=rI (show k<3 by omega);simp(maxSteps:=8000000) (disch:=first|exact dS|fail) only[↓bD,bU,reduceMul,reduceEqDiff,reduceAdd,Nat.reduceBEq,reduceIte,Option.isNone_none,A6,Ag,W4,W8,U5,W5,U6,U7,U8,K3,H9,J3,I5,I6,I0,gc,g2,g3,g4,g5,g7,g8,hc];refine(GR (n:=2) hl hll hE om om hQ om om).mono ?_;rintro r ⟨x,Z3,rfl,hx,Ex,Qx,Xx⟩;have nx:=Xx.n;have rp:Z3.A7 p=some _:=(Xx.A7 om om).trans rp;have rpr:=A9 rp;have rnr:=eT (Xx.row om om) rnr;simp(maxSteps:=8000000) (disch:=first|exact dS|fail) only[↓bD,bU,reduceMul,reduceEqDiff,reduceAdd,Nat.reduceBEq,reduceIte,Option.isNone_none,A6,Ag,W4,W8,U5,W5,U6,U7,U8,K3,H9,J3,I5,I6,I0,gc,g2,g3,g4,g5,g7,g8,rpr,rnr,hnm];refine(GR (n:=2) hl hll Ex om om Qx om om).mono ?_;rintro r ⟨y,Z4,rfl,hy,Ey,Qy,Xy⟩;have ny:=Xy.n;have rp:Z4.A7 p=some _:=(Xy.A7 om om).trans rp;have rpr:=A9 rp;simp(maxSteps:=8000000) (disch:=first|exact dS|fail) only[↓bD,bU,reduceMul,reduceEqDiff,reduceAdd,Nat.reduceBEq,reduceIte,Option.isNone_none,A6,Ag,W4,W8,U5,W5,U6,U7,U8,K3,H9,J3,I5,I6,I0,gc,g2,g3,g4,g5,g7,g8];refine(GR (n:=4) hl hll Ey om om Qy om om).mono ?_;rintro r ⟨z,Z5,rfl,hz,Ez,Qz,Xz⟩;have nz:=Xz.n;have rp:Z5.A7 p=some _:=(Xz.A7 om om).trans rp;have rpr:=A9 rp;simp(maxSteps:=8000000) (disch:=first|exact dS|fail) only[↓bD,bU,reduceMul,reduceEqDiff,reduceAdd,Nat.reduceBEq,reduceIte,Option.isNone_none,A6,Ag,W4,W8,U5,W5,U6,U7,U8,K3,H9,J3,I5,I6,I0,gc,g2,g3,g4,g5,g7,g8];refine(GR (n:=3) hl hll Ez om om Qz om om).mono ?_;rintro r ⟨w,Z6,rfl,hw,Ew,Qw,Xw⟩;have nw:=Xw.n;have rp:Z6.A7 p=some _:=(Xw.A7 om om).trans rp;have rpr:=A9 rp;have rp':=rp;have Q':=Qw;simp(maxSteps:=8000000) (disch:=first|exact dS|fail) only[↓bD,bU,reduceMul,reduceEqDiff,reduceAdd,Nat.reduceBEq,reduceIte,Option.isNone_none,A6,Ag,W4,W8,U5,W5,U6,U7,U8,K3,H9,J3,I5,I6,I0,gc,g2,g3,g4,g5,g7,g8,rpr];have hoN:OL τ9.n (Z6.new [str nm,.int .i64 (1+(y:Int)),.int .i64 (x:Int),.int .i64 ((x:Int)+(z:Int)),.bool (decide ((w:Int)=0))]) 5 u (L.map Bz.row):=OL.ext (OL.BN (OL.BN (OL.BN (OL.BN ho Xx om) Xy om) Xz om) Xw om) (.new _ _);have hXN:Y9 q p τ9 (Z6.new [str nm,.int .i64 (1+(y:Int)),.int .i64 (x:Int),.int .i64 ((x:Int)+(z:Int)),.bool (decide ((w:Int)=0))]):=((((hX.trans (.xq Xx)).trans (.xq Xy)).trans (.xq Xz)).trans (.xq Xw)).trans (.of (Ext.W6 (.refl _) _));refine AF (row:=Bz.row ⟨nm,1+(y:Int),(x:Int),(x:Int)+(z:Int),decide ((w:Int)=0)⟩) (fun _ _ _ _=>Y0) hoN (K5 nL nL) (C8 (by simp[Bz.row,Req.row,Lot.row]) (by simp)) (by rw[z2z];omega) (by simp;omega) ?_;rintro u' Z8 ho' hA -;obtain⟨ua,rfl⟩:=OL.shape ho';have r8:Z8.A7 p=some _:=(D6 (hA.same p (by simp;omega) bv)).trans ((M4 (by first|omega|(simp;omega))).trans rp');have qN:GQ q v l (Z6.new [str nm,.int .i64 (1+(y:Int)),.int .i64 (x:Int),.int .i64 ((x:Int)+(z:Int)),.bool (decide ((w:Int)=0))]):=Q'.ext (.new _ _) (by first|omega|(simp;omega));simp(maxSteps:=8000000) (disch:=first|exact dS|fail) only[↓bD,bU,reduceMul,reduceEqDiff,reduceAdd,Nat.reduceBEq,reduceIte,Option.isNone_none,A6,Ag,W4,W8,U5,W5,U6,U7,U8,K3,H9,J3,I5,I6,I0,g2,g3,g4,g5,g7,g8,gc,r8,asx (Ext.refl _),G8,G3,V7 Xx,V7 Xy,V7 Xz,V7 Xw]
  try refine Ca.intro (by(repeat first|simp(disch:=omega) only[M9,G3,G8,asx (Ext.refl _),V7 Xx,V7 Xy,V7 Xz,V7 Xw]|rw[V8 (by kernel_rfl)]);first|done|rfl) ?_
  simp(maxSteps:=8000000) (disch:=first|exact dS|fail) only[↓bD,bU,reduceMul,reduceEqDiff,reduceAdd,Nat.reduceBEq,reduceIte,Option.isNone_none,A6,Ag,W4,W8,U5,W5,U6,U7,U8,K3,H9,J3,I5,I6,I0,g2,g3,g4,g5,g7,g8,gc];refine⟨fR,fR1 g2,fR1 g3,fR1 g4,fR1 g5,fR1 g7,fR1 g8,(Y9.app hA hXN hoN nL).upd,(qN.app hA hoN (by first|omega|(simp;omega)) om).x (J7.refl.upd _) (by have:=hA.n;simp at this;omega) om,_,L++[⟨nm,1+(y:Int),(x:Int),(x:Int)+(z:Int),decide ((w:Int)=0)⟩],cL,?_,by simp[hL],?_⟩
  ·rw[IY];exact OL.upd ho' om
  ·intro x hx;rcases HX.1 hx with hx|hx
   ·exact hP x hx
   ·rw[Lf]at hx;subst hx;exact⟨hgn,by show 1+(y:Int)=1\/1+(y:Int)=2;omega,by show(0:Int)<=(x:Int);omega,by show(x:Int)<=4;omega,by show(0:Int)<=(x:Int)+(z:Int);omega,by show(x:Int)+(z:Int)<=4;omega⟩
 ·clear g2 g3 g4 g5 fr;rintro fr τ ⟨gc,g2,g3,g4,g5,g7,g8,hX,hQ,u,L,rp,ho,hL,hP⟩;simp(maxSteps:=8000000) (disch:=first|exact dS|fail) only[↓bD,bU,reduceMul,reduceEqDiff,reduceAdd,Nat.reduceBEq,reduceIte,Option.isNone_none,A6,D5,gc,g8];exact⟨_,_,u,L,rfl,fR1 g2,fR1 g3,fR1 g4,fR1 g5,fR1 g7,fR1 g8,hX,hQ,rp,ho,hL,hP⟩
 rintro r ⟨fr,τ10,V2,L2,rfl,g2,g3,g4,g5,g7,g8,rJ,Q10,rp,ho2,hL2,hP2⟩;have n10:=rJ.n;have E10:Ext Z τ10:=rJ.ext τ9E om om;have z0:τ10.A7 Z.n=some [str [],.slice none 0 0,.slice none 0 0,.slice none 0 0,.int .i64 0,.int .i64 0,str [],.int .i64 0,.int .i64 0,str [],.slice none 0 0,.slice none 0 0,.int .i64 0,.slice none 0 0,.int .i64 0,.int .i64 0,.int .i64 0,.int .i64 0,.int .i64 0,.int .i64 0]:=by rw[rJ.A7 om om om];exact z0
 have rn:τ10.A7 nb=some [str [115,112,101,101,100],str [99,111,109,102,111,114,116],str [119,101,105,103,104,116]]:=by rw[rJ.A7 om om om];exact rn
 have ho1:=OL.EP ho1 rJ om om;obtain⟨va2,hV2⟩:∃ a,V2= .slice a f f:=by
  obtain⟨a,h⟩:=OL.shape ho2;exact⟨a,by rw[h];simp[hL2]⟩
 subst hV2;refine gU1 (aI @A6 @D5) ?_;have τ10Q:=Q10;have τ10E:=E10
 refine I4 f (fun k fr τ=>fr.get 11=some (.int .i64 k)/\fr.get 2=some (.pointer (some ⟨Z.n,0,none⟩))/\fr.get 3=some (.pointer (some ⟨q,0,none⟩))/\fr.get 4=some (.pointer (some ⟨p,0,none⟩))/\fr.get 5=some (.int .i64 (nl:Nat))/\fr.get 7=some (.slice (some ⟨nb,0,none⟩) 3 3)/\fr.get 8=some (.int .i64 (f:Nat))/\Y9 q p τ10 τ/\GQ q v l τ/\∃ (u:Value) (L:List Req),τ.A7 p=some ([str [116],V1,(.slice va2 f f),u,.int .i64 lo,.int .i64 hi,str [],.int .i64 0,.int .i64 0,str [],.slice none 0 0,.slice none 0 0,.int .i64 mo,.slice none 0 0,.int .i64 bu,.int .i64 0,.int .i64 0,.int .i64 0,.int .i64 0,.int .i64 0])/\OL τ10.n τ 3 u (L.map Req.row)/\L.length<=k/\∀ x∈L,x.name∈gn/\x.rel.length<=2/\0<=x.value/\x.value<=3)
  (fun r=>∃ fr τ u,∃ L:List Req,r=⟨.exit 4,fr,τ⟩/\fr.get 2=some (.pointer (some ⟨Z.n,0,none⟩))/\fr.get 3=some (.pointer (some ⟨q,0,none⟩))/\fr.get 4=some (.pointer (some ⟨p,0,none⟩))/\fr.get 5=some (.int .i64 (nl:Nat))/\fr.get 7=some (.slice (some ⟨nb,0,none⟩) 3 3)/\fr.get 8=some (.int .i64 (f:Nat))/\Y9 q p τ10 τ/\GQ q v l τ/\τ.A7 p=some ([str [116],V1,(.slice va2 f f),u,.int .i64 lo,.int .i64 hi,str [],.int .i64 0,.int .i64 0,str [],.slice none 0 0,.slice none 0 0,.int .i64 mo,.slice none 0 0,.int .i64 bu,.int .i64 0,.int .i64 0,.int .i64 0,.int .i64 0,.int .i64 0])/\OL τ10.n τ 3 u (L.map Req.row)/\L.length<=f/\∀ x∈L,x.name∈gn/\x.rel.length<=2/\0<=x.value/\x.value<=3) ?_ ?_ ?_ ?_
 ·exact⟨fR,fR1 g2,fR1 g3,fR1 g4,fR1 g5,fR1 g7,fR1 g8,.refl,τ10Q,.slice none 0 0,[],rp,OL.nil,by simp,fun x hx=>by cases hx⟩
 ·clear g2 g3 g4 g5 g7 g8 fr;rintro k fr τ hk ⟨gc,g2,g3,g4,g5,g7,g8,hX,hQ,u,L,rp,ho,hL,hP⟩;have hc:=L9 hk;have nX:=hX.n;have hE:Ext Z τ:=hX.ext τ10E om om;have rr:=A9 rp;have bv:N0 u≠some p:=fun hb=>by have:=(ho.blk hb).1;omega
  have rnr:τ.row nb=some [str [115,112,101,101,100],str [99,111,109,102,111,114,116],str [119,101,105,103,104,116]]:=A9 (by rw[hX.A7 om om om];exact rn);obtain⟨nm,hnm,hgn⟩:=rI (show k<3 by omega);have AR0:=OL.EP ho2 hX om om;obtain⟨aa,cc,cb,co,ccs,hV,d1,d2⟩:=(show OP τ _ L2 from AR0.sl).use;injection hV with hV1 hV2 hV3;subst hV1;obtain⟨sp,rfl,e3,e4⟩:=d1 om;obtain⟨cr,hcr⟩:=H5 (show k<L2.length by omega);obtain⟨-,-,e5,-⟩:=d2 k cr hcr;cases qk:decide (cr.kind=2)with
  | false=>
    simp(maxSteps:=8000000) (disch:=first|exact dS|fail) only[↓bD,bU,reduceMul,reduceEqDiff,reduceAdd,Nat.reduceBEq,reduceIte,Option.isNone_none,A6,D5,gc,g2,g3,g4,g5,g7,g8,hc,rr,e4,e5,qk,D9,F4];exact⟨fR,fR1 g2,fR1 g3,fR1 g4,fR1 g5,fR1 g7,fR1 g8,hX,hQ,u,L,rp,ho,om,hP⟩
  |true=>
  simp(maxSteps:=8000000) (disch:=first|exact dS|fail) only[↓bD,bU,reduceMul,reduceEqDiff,reduceAdd,Nat.reduceBEq,reduceIte,Option.isNone_none,A6,D5,gc,g2,g3,g4,g5,g7,g8,hc,rr,e4,e5,qk,D9,F4];refine(GR (n:=3) hl hll hE om om hQ om om).mono ?_;rintro r ⟨x,Z3,rfl,hx,Ex,Qx,Xx⟩;have nx:=Xx.n;have rp:Z3.A7 p=some _:=(Xx.A7 om om).trans rp;have rpr:=A9 rp;cases qx:decide ((x:Int)=0)with
  | false=>
    simp(maxSteps:=8000000) (disch:=first|exact dS|fail) only[↓bD,bU,reduceMul,reduceEqDiff,reduceAdd,Nat.reduceBEq,reduceIte,Option.isNone_none,A6,D5,gc,qx,D9,F4];exact⟨fR,fR1 g2,fR1 g3,fR1 g4,fR1 g5,fR1 g7,fR1 g8,hX.trans (.xq Xx),Qx,u,L,rp,OL.BN ho Xx om,om,hP⟩
  |true=>
  have rnr:=eT (Xx.row om om) rnr;simp(maxSteps:=8000000) (disch:=first|exact dS|fail) only[↓bD,bU,reduceMul,reduceEqDiff,reduceAdd,Nat.reduceBEq,reduceIte,Option.isNone_none,A6,Ag,W4,Y0,U5,W5,U6,U7,U8,K3,H9,J3,I5,I6,I0,gc,g2,g3,g4,g5,g7,g8,qx,rpr,rnr,hnm,D9,F4];have ro3:(Z3.new [str [60,61],str [62,61]]).A7 p=some _:=(M4 om).trans rp;have rp:=ro3;refine(GR (n:=2) hl hll (Ex.trans (.new _ _)) om (by simp;omega) (Qx.ext (.new _ _) om) om om).mono ?_;rintro r ⟨y,Z4,rfl,hy,Ey,Qy,Xy⟩;have ny:=Xy.n;simp only[F6]at ny;have rp:Z4.A7 p=some _:=(Xy.A7 (by simp;omega) om).trans rp;have rpr:=A9 rp;have Ax7:Z4.row Z3.n=some [str [60,61],str [62,61]]:=eT (Xy.row (by simp) om) cL;obtain⟨rl,hrl,Ax8⟩:∃ rl:By,sub [str [60,61],str [62,61]] y 1=some [str rl]/\rl.length<=2:=by
   rcases(by omega:y=0\/y=1)with rfl|rfl<;>exact⟨_,rfl,by decide⟩
  simp(maxSteps:=8000000) (disch:=first|exact dS|fail) only[↓bD,bU,reduceMul,reduceEqDiff,reduceAdd,Nat.reduceBEq,reduceIte,Option.isNone_none,A6,Ag,W4,Y0,U5,W5,U6,U7,U8,K3,H9,J3,I5,I6,I0,gc,g2,g3,g4,g5,g7,g8,Ax7,hrl];refine(GR (n:=4) hl hll Ey om om Qy om om).mono ?_;rintro r ⟨z,Z5,rfl,hz,Ez,Qz,Xz⟩;have nz:=Xz.n;have rp:Z5.A7 p=some _:=(Xz.A7 om om).trans rp;have rpr:=A9 rp;have rp':=rp;have Q':=Qz;have Xn:J7 q Z3 (Z3.new [str [60,61],str [62,61]]):= .of (.new _ _);simp(maxSteps:=8000000) (disch:=first|exact dS|fail) only[↓bD,bU,reduceMul,reduceEqDiff,reduceAdd,Nat.reduceBEq,reduceIte,Option.isNone_none,A6,Ag,W4,Y0,U5,W5,U6,U7,U8,K3,H9,J3,I5,I6,I0,gc,g2,g3,g4,g5,g7,g8,rpr];have hoN:OL τ10.n (Z5.new [str nm,str rl,.int .i64 (z:Int)]) 3 u (L.map Req.row):=OL.ext (OL.BN (OL.BN (OL.BN (OL.BN ho Xx om) Xn om) Xy om) Xz om) (.new _ _);have hXN:Y9 q p τ10 (Z5.new [str nm,str rl,.int .i64 (z:Int)]):=((((hX.trans (.xq Xx)).trans (.xq Xn)).trans (.xq Xy)).trans (.xq Xz)).trans (.of (Ext.W6 (.refl _) _));refine AF (row:=Req.row ⟨nm,rl,(z:Int)⟩) (fun _ _ _ _=>W8) hoN (K5 nL nL) (C8 (by simp[Bz.row,Req.row,Lot.row]) (by simp)) (by rw[z2z];omega) (by simp;omega) ?_;rintro u' Z8 ho' hA -;obtain⟨ua,rfl⟩:=OL.shape ho';have r8:Z8.A7 p=some _:=(D6 (hA.same p (by simp;omega) bv)).trans ((M4 (by first|omega|(simp;omega))).trans rp');have qN:GQ q v l (Z5.new [str nm,str rl,.int .i64 (z:Int)]):=Q'.ext (.new _ _) (by first|omega|(simp;omega));simp(maxSteps:=8000000) (disch:=first|exact dS|fail) only[↓bD,bU,reduceMul,reduceEqDiff,reduceAdd,Nat.reduceBEq,reduceIte,Option.isNone_none,A6,Ag,W4,Y0,U5,W5,U6,U7,U8,K3,H9,J3,I5,I6,I0,g2,g3,g4,g5,g7,g8,gc,r8,asx (Ext.refl _),G8,G3,V7 Xy,V7 Xz]
  try refine Ca.intro (by(repeat first|simp(disch:=omega) only[M9,G3,G8,asx (Ext.refl _),V7 Xy,V7 Xz]|rw[V8 (by kernel_rfl)]);first|done|rfl) ?_
  simp(maxSteps:=8000000) (disch:=first|exact dS|fail) only[↓bD,bU,reduceMul,reduceEqDiff,reduceAdd,Nat.reduceBEq,reduceIte,Option.isNone_none,A6,Ag,W4,Y0,U5,W5,U6,U7,U8,K3,H9,J3,I5,I6,I0,g2,g3,g4,g5,g7,g8,gc];refine⟨fR,fR1 g2,fR1 g3,fR1 g4,fR1 g5,fR1 g7,fR1 g8,(Y9.app hA hXN hoN nL).upd,(qN.app hA hoN (by first|omega|(simp;omega)) om).x (J7.refl.upd _) (by have:=hA.n;simp at this;omega) om,_,L++[⟨nm,rl,(z:Int)⟩],cL,?_,by simp only[Dc,CE,JQ];omega,?_⟩
  ·rw[IY];exact OL.upd ho' om
  ·intro x hx;rcases HX.1 hx with hx|hx
   ·exact hP x hx
   ·rw[Lf]at hx;subst hx;exact⟨hgn,Ax8,by show(0:Int)<=(z:Int);omega,by show(z:Int)<=3;omega⟩
 ·clear g2 g3 g4 g5 g7 g8 fr;rintro fr τ ⟨gc,g2,g3,g4,g5,g7,g8,hX,hQ,u,L,rp,ho,hL,hP⟩;simp(maxSteps:=8000000) (disch:=first|exact dS|fail) only[↓bD,bU,reduceMul,reduceEqDiff,reduceAdd,Nat.reduceBEq,reduceIte,Option.isNone_none,A6,D5,gc,g8];exact⟨_,_,u,L,rfl,fR1 g2,fR1 g3,fR1 g4,fR1 g5,fR1 g7,fR1 g8,hX,hQ,rp,ho,hL,hP⟩
 rintro r ⟨fr,τ11,V3,L3,rfl,g2,g3,g4,g5,g7,g8,kW,Q11,rp,ho3,hL3,hP3⟩;have n11:=kW.n;have E11:Ext Z τ11:=kW.ext τ10E om om;have z0:τ11.A7 Z.n=some [str [],.slice none 0 0,.slice none 0 0,.slice none 0 0,.int .i64 0,.int .i64 0,str [],.int .i64 0,.int .i64 0,str [],.slice none 0 0,.slice none 0 0,.int .i64 0,.slice none 0 0,.int .i64 0,.int .i64 0,.int .i64 0,.int .i64 0,.int .i64 0,.int .i64 0]:=by rw[kW.A7 om om om];exact z0
 have rn:τ11.A7 nb=some [str [115,112,101,101,100],str [99,111,109,102,111,114,116],str [119,101,105,103,104,116]]:=by rw[kW.A7 om om om];exact rn
 have ho1:=OL.EP ho1 kW om om;have ho2:=OL.EP ho2 kW om om;obtain⟨H,hHd⟩:=nm ((Z.n::q::p::H0));have hHm:∀ c∈H,Z.n<=c\/c∈H0:=by
  intro c hc;rw[<- hHd]at hc;simp only[Y5]at hc;rcases hc with rfl|rfl|rfl|h<;>first|(left;omega)|exact .inr h
 have hHl:∀ c∈H,c<p+1:=fun c hc=>by
  rw[<- hHd]at hc;simp only[Y5]at hc;rcases hc with rfl|rfl|rfl|h<;>first|omega|(have:=hH0 c h;omega)
 have hqH:q∈H:=by rw[<- hHd];simp
 have hpH:p∈H:=by rw[<- hHd];simp
 obtain⟨T0,hT0⟩:∃ T:Tn,T=⟨[],[],L2,[],lo,hi,Dz 0 0,[],0,[],0,⟨0,0,0,0,0⟩⟩:=⟨_,rfl⟩
 have t0c:T0.G9=L2:=by rw[hT0]
 have hR:Rng T0:=by
  rw[hT0]
  exact⟨by show 1<=lo;omega,by show lo<=3;omega,by show lo+1<=hi;omega,by show hi<=lo+5;omega,fun c hc=>by
   obtain⟨a1,a2,a3,a4,a5,a6⟩:=hP2 c hc;obtain⟨b1,b2,b3,b4⟩:=hU c.name a1;exact⟨b2,b3,b4,a3,a4,a5,a6⟩⟩
 have crt:∀ τ,OL τ9.n τ 5 (.slice va2 f f) (L2.map Bz.row)->OP (M8 τ H) (.slice va2 f f) T0.G9:=fun τ h=>by
  rw[t0c];exact(OL.M8 h (fun c hc=>by have:=hHl c hc;omega)).sl
 have rr:=A9 rp;refine gU1 (aI @A6 (aI @D5 (aI g2 (aI g3 (aI g4 (aI g5 (aI g7 (aI g8 rr)))))))) ?_;refine(iA (T:=T0) (vc:= .slice va2 f f) H (fun c hc=>by have:=hHl c hc;omega) (ZT hl hll E11 hHm om Q11 hqH) rfl rfl (crt _ ho2) (by rw[t0c];omega) hR).mono ?_;rintro r ⟨row,e0,j0,τ12,rfl,Ax9,X12,hx0,hf0,hj0,hi0⟩;have n12:=X12.n;obtain⟨x1,x2,x3,x4,x5,rfl⟩:=jc hx0.len;have Q12:GQ q v l τ12:=by obtain⟨k,r1,r2,r3⟩:=Ax9.Sx;exact⟨k,r3,r1⟩
 have E12:Ext Z τ12:=X12.ext E11 om;have rp:=eT (X12.A7 om om) rp;have rn:=eT (X12.A7 om om) rn;have z0:=eT (X12.A7 om om) z0;have ho1:=OL.BN ho1 X12 om;have ho2:=OL.BN ho2 X12 om;have ho3:=OL.BN ho3 X12 om;refine gU1 (aI @D5 (aI @gs2 (aI @CL (aI @CM (aI @gw1 (aI @gw2 (aI @gw3 (aI @gw5 (aI @gw6 (aI @CN (aI @CO (aI @CQ (aI @CT (aI @CU (aI @CV (aI @CW (aI rp (aI g2 (aI g3 (aI g4 (aI g5 (aI g7 g8)))))))))))))))))))))) ?_;obtain⟨S12,PU⟩:=nm ((τ12.upd p ([str [116],V1,(.slice va2 f f),V3,.int .i64 lo,.int .i64 hi,x1,x2,x3,x4,x5,.slice none 0 0,.int .i64 mo,.slice none 0 0,.int .i64 bu,.int .i64 0,.int .i64 0,.int .i64 0,.int .i64 0,.int .i64 0])))
 try rw[PU]
 have BP4:S12.n=τ12.n:=by rw[<- PU];rfl
 have E12:Ext Z S12:=by rw[<- PU];exact E12.upd om _
 have rp:S12.A7 p=some ([str [116],V1,(.slice va2 f f),V3,.int .i64 lo,.int .i64 hi,x1,x2,x3,x4,x5,.slice none 0 0,.int .i64 mo,.slice none 0 0,.int .i64 bu,.int .i64 0,.int .i64 0,.int .i64 0,.int .i64 0,.int .i64 0]):=by rw[<- PU];exact cL
 have rn:S12.A7 nb=some [str [115,112,101,101,100],str [99,111,109,102,111,114,116],str [119,101,105,103,104,116]]:=by rw[<- PU,K0 om];exact rn
 have z0:S12.A7 Z.n=some [str [],.slice none 0 0,.slice none 0 0,.slice none 0 0,.int .i64 0,.int .i64 0,str [],.int .i64 0,.int .i64 0,str [],.slice none 0 0,.slice none 0 0,.int .i64 0,.slice none 0 0,.int .i64 0,.int .i64 0,.int .i64 0,.int .i64 0,.int .i64 0,.int .i64 0]:=by rw[<- PU,K0 om];exact z0
 have Q12:GQ q v l S12:=by rw[<- PU];exact Q12.x (J7.refl.upd _) om om
 have ho1:OL τ7.n S12 2 V1 (L1.map Lot.row):=by rw[<- PU];exact OL.upd ho1 om
 have ho2:OL τ9.n S12 5 (.slice va2 f f) (L2.map Bz.row):=by rw[<- PU];exact OL.upd ho2 om
 have ho3:OL τ10.n S12 3 V3 (L3.map Req.row):=by rw[<- PU];exact OL.upd ho3 om
 have hx0:P6 (M8 S12 H) [x1,x2,x3,x4,x5] e0:=by rw[<- PU];exact hx0.H4 ((J7.refl.upd _).Md hpH)
 clear PU;refine(GR (n:=4) hl hll E12 om om Q12 om om).mono ?_;rintro r ⟨g,τ13,rfl,hg,Eg,Qg,Xg⟩;have ng:=Xg.n;have z0:=eT (Xg.A7 om om) z0;have rp:=eT (Xg.A7 om om) rp;have rn:=eT (Xg.A7 om om) rn;have ho1:=OL.BN ho1 Xg om;have ho2:=OL.BN ho2 Xg om;have ho3:=OL.BN ho3 Xg om;have hx0:=hx0.H4 (Xg.Md hqH);refine gU1 (a16N @D5 @gs2 @CL @CM @gw1 @gw2 @gw3 @gw5 @gw6 @CN @CO @CQ @CT @CU @CV @CW) ?_
 refine I4 g (fun k fr τ=>fr.get 13=some (.int .i64 k)/\fr.get 2=some (.pointer (some ⟨Z.n,0,none⟩))/\fr.get 3=some (.pointer (some ⟨q,0,none⟩))/\fr.get 4=some (.pointer (some ⟨p,0,none⟩))/\fr.get 5=some (.int .i64 (nl:Nat))/\fr.get 7=some (.slice (some ⟨nb,0,none⟩) 3 3)/\fr.get 8=some (.int .i64 (f:Nat))/\fr.get 12=some (.int .i64 (g:Nat))/\Y9 q p τ13 τ/\GQ q v l τ/\∃ x1 x2 x3 x4 x5 e j,τ.A7 p=some ([str [116],V1,(.slice va2 f f),V3,.int .i64 lo,.int .i64 hi,x1,x2,x3,x4,x5,.slice none 0 0,.int .i64 mo,.slice none 0 0,.int .i64 bu,.int .i64 0,.int .i64 0,.int .i64 0,.int .i64 0,.int .i64 0])/\P6 (M8 τ H) [x1,x2,x3,x4,x5] e/\FOk j e/\j<=5*(k+1)/\Iv T0 e (BdQ (bdN k) (bdD k)))
  (fun r=>∃ fr τ,r=⟨.exit 6,fr,τ⟩/\fr.get 2=some (.pointer (some ⟨Z.n,0,none⟩))/\fr.get 3=some (.pointer (some ⟨q,0,none⟩))/\fr.get 4=some (.pointer (some ⟨p,0,none⟩))/\fr.get 5=some (.int .i64 (nl:Nat))/\fr.get 7=some (.slice (some ⟨nb,0,none⟩) 3 3)/\fr.get 8=some (.int .i64 (f:Nat))/\fr.get 12=some (.int .i64 (g:Nat))/\Y9 q p τ13 τ/\GQ q v l τ/\∃ x1 x2 x3 x4 x5 e j,τ.A7 p=some ([str [116],V1,(.slice va2 f f),V3,.int .i64 lo,.int .i64 hi,x1,x2,x3,x4,x5,.slice none 0 0,.int .i64 mo,.slice none 0 0,.int .i64 bu,.int .i64 0,.int .i64 0,.int .i64 0,.int .i64 0,.int .i64 0])/\P6 (M8 τ H) [x1,x2,x3,x4,x5] e/\FOk j e/\j<=5*(g+1)/\Iv T0 e (BdQ (bdN g) (bdD g))) ?_ ?_ ?_ ?_
 ·exact⟨fR,fR1 g2,fR1 g3,fR1 g4,fR1 g5,fR1 g7,fR1 g8,fR,.refl,Qg,x1,x2,x3,x4,x5,e0,j0,rp,hx0,hf0,om,hi0⟩
 ·clear g2 g3 g4 g5 g7 g8 fr;rintro k fr τ hk ⟨gc,g2,g3,g4,g5,g7,g8,g12,hX,hQ,x1,x2,x3,x4,x5,e,j,rp,hx,hf,hj,hi⟩;have hc:=L9 hk;have nX:=hX.n;have hE:Ext Z τ:=hX.ext Eg om om;have rr:=A9 rp;simp(maxSteps:=8000000) (disch:=first|exact dS|fail) only[↓bD,bU,reduceMul,reduceEqDiff,reduceAdd,Nat.reduceBEq,reduceIte,Option.isNone_none,D5,gs2,CL,CM,gw1,gw2,gw3,gw5,gw6,CN,CO,CQ,CT,CU,CV,CW,gc,g2,g3,g4,g5,g7,g8,g12,hc];have rp:(τ.new [str [43],str [43],str [45]]).A7 p=some _:=(M4 om).trans rp;refine(GR (n:=3) hl hll (hE.trans (.new _ _)) om (by simp;omega) (hQ.ext (.new _ _) om) om om).mono ?_;rintro r ⟨y,Z4,rfl,hy,Ey,Qy,Xy⟩;have ny:=Xy.n;simp only[F6]at ny;have rp:Z4.A7 p=some _:=(Xy.A7 (by simp;omega) om).trans rp;have rpr:=A9 rp;have ro:Z4.row τ.n=some [str [43],str [43],str [45]]:=eT (Xy.row (by simp) om) cL;obtain⟨oo,hoo,ho⟩:=Al1 hy;have hx:=(hx.H4 (H2 (Ext.new τ _))).H4 (Xy.Md hqH);have hM4:Y9 q p τ13 Z4:=hX.trans ((Y9.of (.new _ _)).trans (.xq Xy));have AR0:=OL.EP ho2 hM4 om om;simp(maxSteps:=8000000) (disch:=first|exact dS|fail) only[↓bD,bU,reduceMul,reduceEqDiff,reduceAdd,Nat.reduceBEq,reduceIte,Option.isNone_none,D5,gs2,CL,CM,gw1,gw2,gw3,gw5,gw6,CN,CO,CQ,CT,CU,CV,CW,gc,g2,g3,g4,g5,g7,g8,g12,ro,hoo,rpr];refine(iA (T:=T0) (vc:= .slice va2 f f) H (fun c hc=>by have:=hHl c hc;omega) (ZT hl hll Ey hHm om Qy hqH) rfl rfl (crt _ AR0) (by rw[t0c];omega) hR).mono ?_;rintro r ⟨row,e1,j1,Z5,rfl,hM5,X5,hx1,hf1,hj1,hi1⟩;have n5:=X5.n;have Q5:GQ q v l Z5:=by obtain⟨k,r1,r2,r3⟩:=hM5.Sx;exact⟨k,r3,r1⟩
  have hx:=hx.H4 (X5.Md hqH);simp(maxSteps:=8000000) (disch:=first|exact dS|fail) only[↓bD,bU,reduceMul,reduceEqDiff,reduceAdd,Nat.reduceBEq,reduceIte,Option.isNone_none,D5,gs2,CL,CM,gw1,gw2,gw3,gw5,gw6,CN,CO,CQ,CT,CU,CV,CW,gc,g2,g3,g4,g5,g7,g8,g12];refine(Cm (o:=oo) H (fun c hc=>by have:=hHl c hc;omega) hx hx1).mono ?_;rintro r ⟨BP5,Z6,rfl,E6,hx2⟩;have n6:=E6.n;obtain⟨y1,y2,y3,y4,y5,rfl⟩:=jc hx2.len;have rp:Z6.A7 p=some _:=(E6.A7 om).trans ((X5.A7 om om).trans rp);have ol:oo≠K9/\oo≠nmB/\oo.length<=4:=by rcases ho with rfl|rfl<;>decide
  simp(maxSteps:=8000000) (disch:=first|exact dS|fail) only[↓bD,bU,reduceMul,reduceEqDiff,reduceAdd,Nat.reduceBEq,reduceIte,Option.isNone_none,D5,gs2,CL,CM,gw1,gw2,gw3,gw5,gw6,CN,CO,CQ,CT,CU,CV,CW,gc,g2,g3,g4,g5,g7,g8,g12,rp,asx E6,G3]
  try refine Ca.intro (by(repeat first|simp(disch:=omega) only[M9,G3,G8,asx E6,V7 X5,V7 Xy]|rw[V8 (by kernel_rfl)]);first|done|rfl) ?_
  simp(maxSteps:=8000000) (disch:=first|exact dS|fail) only[↓bD,bU,reduceMul,reduceEqDiff,reduceAdd,Nat.reduceBEq,reduceIte,Option.isNone_none,D5,gs2,CL,CM,gw1,gw2,gw3,gw5,gw6,CN,CO,CQ,CT,CU,CV,CW,gc,g2,g3,g4,g5,g7,g8,g12];refine⟨fR,fR1 g2,fR1 g3,fR1 g4,fR1 g5,fR1 g7,fR1 g8,fR1 g12,(hM4.trans ((Y9.xq X5).trans (.of E6))).upd,(Q5.ext E6 om).x (J7.refl.upd _) om om,y1,y2,y3,y4,y5,Q3 oo e e1,j+j1,cL,hx2.H4 ((J7.refl.upd _).Md hpH),FB ol.1 ol.2.1 ol.2.2 hf hf1,om,AQ9 om hi hi1 ho⟩
 ·clear g2 g3 g4 g5 g7 g8 fr;rintro fr τ ⟨gc,g2,g3,g4,g5,g7,g8,g12,hX,hQ,hh⟩;simp(maxSteps:=8000000) (disch:=first|exact dS|fail) only[↓bD,bU,reduceMul,reduceEqDiff,reduceAdd,Nat.reduceBEq,reduceIte,Option.isNone_none,D5,gs2,CL,CM,gw1,gw2,gw3,gw5,gw6,CN,CO,CQ,CT,CU,CV,CW,gc,g12];exact⟨_,_,rfl,fR1 g2,fR1 g3,fR1 g4,fR1 g5,fR1 g7,fR1 g8,fR1 g12,hX,hQ,hh⟩
 clear g2 g3 g4 g5 g7 g8 fr;rintro r ⟨fr,τ14,rfl,g2,g3,g4,g5,g7,g8,g12,dj,Q14,x1,x2,x3,x4,x5,e,j,rp,hx,hf,hj,hiv⟩;have n14:=dj.n;have E14:Ext Z τ14:=dj.ext Eg om om;have z0:τ14.A7 Z.n=some [str [],.slice none 0 0,.slice none 0 0,.slice none 0 0,.int .i64 0,.int .i64 0,str [],.int .i64 0,.int .i64 0,str [],.slice none 0 0,.slice none 0 0,.int .i64 0,.slice none 0 0,.int .i64 0,.int .i64 0,.int .i64 0,.int .i64 0,.int .i64 0,.int .i64 0]:=by rw[dj.A7 om om om];exact z0
 have rn:τ14.A7 nb=some [str [115,112,101,101,100],str [99,111,109,102,111,114,116],str [119,101,105,103,104,116]]:=by rw[dj.A7 om om om];exact rn
 have ho1:=OL.EP ho1 dj om om;have ho2:=OL.EP ho2 dj om om;have ho3:=OL.EP ho3 dj om om;refine Ev.mono (R:=fun r=>r=⟨.normal,fr,τ14⟩) (v:=⟨⟩) (by simp(maxSteps:=8000000) (disch:=first|exact dS|fail) only[↓bD,bU,reduceMul,reduceEqDiff,reduceAdd,Nat.reduceBEq,reduceIte,Option.isNone_none,D5,gs2,CL,CM,gw1,gw2,gw3,gw5,gw6,CN,CO,CQ,CT,CU,CV,CW]) ?_;rintro r rfl;simp only[Ga];refine Nz (fun fr τ=>fr.get 2=some (.pointer (some ⟨Z.n,0,none⟩))/\fr.get 3=some (.pointer (some ⟨q,0,none⟩))/\fr.get 4=some (.pointer (some ⟨p,0,none⟩))/\fr.get 5=some (.int .i64 (nl:Nat))/\fr.get 7=some (.slice (some ⟨nb,0,none⟩) 3 3)/\fr.get 8=some (.int .i64 (f:Nat))/\Y9 q p τ14 τ/\GQ q v l τ/\∃ (u:Value) (L:List By),τ.A7 p=some ([str [116],V1,(.slice va2 f f),V3,.int .i64 lo,.int .i64 hi,x1,x2,x3,x4,x5,u,.int .i64 mo,.slice none 0 0,.int .i64 bu,.int .i64 0,.int .i64 0,.int .i64 0,.int .i64 0,.int .i64 0])/\OL τ14.n τ 1 u (L.map Ny)/\L.length<=1/\∀ x∈L,x∈names) ?_ ?_
 ·refine gU1 (aI @D5 (aI @gs2 (aI @CL (aI @CM (aI @gw1 (aI @gw2 (aI @gw3 (aI @gw5 (aI @gw6 (aI @CN (aI @CO (aI @CQ (aI @CT (aI @CU (aI @CV (aI @CW (aI g2 (aI g3 (aI g4 (aI g5 (aI g7 g8))))))))))))))))))))) ?_;obtain⟨u,hu⟩:∃ u:Value,.slice none 0 0=u:=⟨_,rfl⟩
  have hX:Y9 q p τ14 τ14:= .refl;have ho:OL τ14.n τ14 1 u (([]:List By).map Ny):=by rw[<- hu];exact OL.nil
  refine(GR (n:=3) hl hll E14 om om Q14 om om).mono ?_;rintro r ⟨x,Z3,rfl,hx,Ex,Qx,Xx⟩;have nx:=Xx.n;have rp:Z3.A7 p=some _:=(Xx.A7 om om).trans rp;have rpr:=A9 rp;cases qx:decide (0<(x:Int))with
  | false=>
    refine gU1 (aI @D5 (aI @gs2 (aI @CL (aI @CM (aI @gw1 (aI @gw2 (aI @gw3 (aI @gw5 (aI @gw6 (aI @CN (aI @CO (aI @CQ (aI @CT (aI @CU (aI @CV (aI @CW qx)))))))))))))))) ?_;exact⟨_,_,rfl,fR1 g2,fR1 g3,fR1 g4,fR1 g5,fR1 g7,fR1 g8,.xq Xx,Qx,.slice none 0 0,[],rp,OL.nil,by simp,fun x hx=>by cases hx⟩
  |true=>
  refine gU1 (aI @Ag (aI @W4 (aI @Y0 (aI @W8 (aI @U5 (aI @U6 (aI @U7 (aI @U8 (aI @K3 (aI @H9 (aI @J3 (aI @I5 (aI @I6 (aI @I0 (aI @gs2 (aI @CL (aI @CM (aI @gw1 (aI @gw2 (aI @gw3 (aI @gw5 (aI @gw6 (aI @CN (aI @CO (aI @CQ (aI @CT (aI @CU (aI @CV (aI @CW (aI g2 (aI g3 (aI g4 (aI g5 (aI g7 (aI g8 (aI qx rpr)))))))))))))))))))))))))))))))))))) ?_;have rp':=rp;have Q':=Qx;obtain⟨L,hL⟩:∃ L:List By,L=[]:=⟨_,rfl⟩
  have hP:∀ x∈L,x∈names:=by rw[hL];intro x hx;cases hx
  rw[show(([]:List By).map Ny)=L.map Ny by rw[hL]]at ho;have hL0:L.length=0:=by rw[hL];rfl
  rw[hu]at rp' ⊢;have hoN:OL τ14.n (Z3.new [str [112,114,105,99,101]]) 1 u (L.map Ny):=OL.ext (OL.BN ho Xx om) (.new _ _);have hXN:Y9 q p τ14 (Z3.new [str [112,114,105,99,101]]):=(hX.trans (.xq Xx)).trans (.of (.new _ _));refine AF (row:=Ny [112,114,105,99,101]) (fun _ _ _ _=>W5) hoN (K5 nL nL) (C8 (by simp[Ny]) (by simp)) (by rw[z2z];omega) (by simp;omega) ?_;rintro u' Z8 ho' hA -;obtain⟨ua,rfl⟩:=OL.shape ho';have bv:N0 u≠some p:=fun hb=>by have:=(ho.blk hb).1;omega
  have r8:Z8.A7 p=some _:=(D6 (hA.same p (by simp;omega) bv)).trans ((M4 (by first|omega|(simp;omega))).trans rp');have qN:GQ q v l (Z3.new [str [112,114,105,99,101]]):=Q'.ext (.new _ _) (by first|omega|(simp;omega));refine gU1 (aI @Ag (aI @W4 (aI @Y0 (aI @W8 (aI @U5 (aI @U6 (aI @U7 (aI @U8 (aI @K3 (aI @H9 (aI @J3 (aI @I5 (aI @I6 (aI @I0 (aI @gs2 (aI @CL (aI @CM (aI @gw1 (aI @gw2 (aI @gw3 (aI @gw5 (aI @gw6 (aI @CN (aI @CO (aI @CQ (aI @CT (aI @CU (aI @CV (aI @CW (aI g2 (aI g3 (aI g4 (aI g5 (aI g7 (aI g8 r8))))))))))))))))))))))))))))))))))) ?_
  skip
  skip
  refine⟨_,_,rfl,fR1 g2,fR1 g3,fR1 g4,fR1 g5,fR1 g7,fR1 g8,(Y9.app hA hXN hoN nL).upd,(qN.app hA hoN (by first|omega|(simp;omega)) om).x (J7.refl.upd _) (by have:=hA.n;simp at this;omega) om,_,L++[[112,114,105,99,101]],cL,?_,by simp only[Dc,CE,JQ];omega,?_⟩
  ·rw[IY];exact OL.upd ho' om
  ·intro x hx;rcases HX.1 hx with hx|hx
   ·exact hP x hx
   ·rw[Lf]at hx;subst hx;exact(by decide)
 clear g2 g3 g4 g5 g7 g8 g12 fr rp;rintro fr τ ⟨g2,g3,g4,g5,g7,g8,hXa,hQa,ua,La,rpa,hoa,hLa,hPa⟩;refine gU1 (a16N @D5 @gs2 @CL @CM @gw1 @gw2 @gw3 @gw5 @gw6 @CN @CO @CQ @CT @CU @CV @CW) ?_
 refine I4 f (fun k fr τ=>fr.get 14=some (.int .i64 k)/\fr.get 2=some (.pointer (some ⟨Z.n,0,none⟩))/\fr.get 3=some (.pointer (some ⟨q,0,none⟩))/\fr.get 4=some (.pointer (some ⟨p,0,none⟩))/\fr.get 5=some (.int .i64 (nl:Nat))/\fr.get 7=some (.slice (some ⟨nb,0,none⟩) 3 3)/\fr.get 8=some (.int .i64 (f:Nat))/\Y9 q p τ14 τ/\GQ q v l τ/\∃ (u:Value) (L:List By),τ.A7 p=some ([str [116],V1,(.slice va2 f f),V3,.int .i64 lo,.int .i64 hi,x1,x2,x3,x4,x5,u,.int .i64 mo,.slice none 0 0,.int .i64 bu,.int .i64 0,.int .i64 0,.int .i64 0,.int .i64 0,.int .i64 0])/\OL τ14.n τ 1 u (L.map Ny)/\L.length<=k+1/\∀ x∈L,x∈names)
  (fun r=>∃ fr τ,r=⟨.exit 8,fr,τ⟩/\fr.get 2=some (.pointer (some ⟨Z.n,0,none⟩))/\fr.get 3=some (.pointer (some ⟨q,0,none⟩))/\fr.get 4=some (.pointer (some ⟨p,0,none⟩))/\fr.get 5=some (.int .i64 (nl:Nat))/\fr.get 7=some (.slice (some ⟨nb,0,none⟩) 3 3)/\fr.get 8=some (.int .i64 (f:Nat))/\Y9 q p τ14 τ/\GQ q v l τ/\∃ (u:Value) (L:List By),τ.A7 p=some ([str [116],V1,(.slice va2 f f),V3,.int .i64 lo,.int .i64 hi,x1,x2,x3,x4,x5,u,.int .i64 mo,.slice none 0 0,.int .i64 bu,.int .i64 0,.int .i64 0,.int .i64 0,.int .i64 0,.int .i64 0])/\OL τ14.n τ 1 u (L.map Ny)/\L.length<=f+1/\∀ x∈L,x∈names) ?_ ?_ ?_ ?_
 ·exact⟨fR,fR1 g2,fR1 g3,fR1 g4,fR1 g5,fR1 g7,fR1 g8,hXa,hQa,ua,La,rpa,hoa,hLa,hPa⟩
 ·clear g2 g3 g4 g5 g7 g8 fr hXa hQa rpa hoa hLa hPa ua La τ;rintro k fr τ hk ⟨gc,g2,g3,g4,g5,g7,g8,hX,hQ,u,L,rp,ho,hL,hP⟩;have hc:=L9 hk;have nX:=hX.n;have hE:Ext Z τ:=hX.ext E14 om om;have rnr:τ.row nb=some [str [115,112,101,101,100],str [99,111,109,102,111,114,116],str [119,101,105,103,104,116]]:=A9 (by rw[hX.A7 om om om];exact rn);obtain⟨nm,hnm,hgn⟩:=rI (show k<3 by omega);simp(maxSteps:=8000000) (disch:=first|exact dS|fail) only[↓bD,bU,reduceMul,reduceEqDiff,reduceAdd,Nat.reduceBEq,reduceIte,Option.isNone_none,D5,gs2,CL,CM,gw1,gw2,gw3,gw5,gw6,CN,CO,CQ,CT,CU,CV,CW,gc,g2,g3,g4,g5,g7,g8,hc];refine(GR (n:=3) hl hll hE om om hQ om om).mono ?_;rintro r ⟨x,Z3,rfl,hx,Ex,Qx,Xx⟩;have nx:=Xx.n;have rp:Z3.A7 p=some _:=(Xx.A7 om om).trans rp;have rpr:=A9 rp;cases qx:decide (0<(x:Int))with
  | false=>
    simp(maxSteps:=8000000) (disch:=first|exact dS|fail) only[↓bD,bU,reduceMul,reduceEqDiff,reduceAdd,Nat.reduceBEq,reduceIte,Option.isNone_none,D5,gs2,CL,CM,gw1,gw2,gw3,gw5,gw6,CN,CO,CQ,CT,CU,CV,CW,gc,qx];exact⟨fR,fR1 g2,fR1 g3,fR1 g4,fR1 g5,fR1 g7,fR1 g8,hX.trans (.xq Xx),Qx,u,L,rp,OL.BN ho Xx om,om,hP⟩
  |true=>
  have rnr:=eT (Xx.row om om) rnr;simp(maxSteps:=8000000) (disch:=first|exact dS|fail) only[↓bD,bU,reduceMul,reduceEqDiff,reduceAdd,Nat.reduceBEq,reduceIte,Option.isNone_none,Ag,W4,Y0,W8,U5,U6,U7,U8,K3,H9,J3,I5,I6,I0,gs2,CL,CM,gw1,gw2,gw3,gw5,gw6,CN,CO,CQ,CT,CU,CV,CW,gc,g2,g3,g4,g5,g7,g8,qx,rpr,rnr,hnm];have rp':=rp;have Q':=Qx;have hoN:OL τ14.n (Z3.new [str nm]) 1 u (L.map Ny):=OL.ext (OL.BN ho Xx om) (.new _ _);have hXN:Y9 q p τ14 (Z3.new [str nm]):=(hX.trans (.xq Xx)).trans (.of (.new _ _));refine AF (row:=Ny nm) (fun _ _ _ _=>W5) hoN (K5 nL nL) (C8 (by simp[Ny]) (by simp)) (by rw[z2z];omega) (by simp;omega) ?_;rintro u' Z8 ho' hA -;obtain⟨ua,rfl⟩:=OL.shape ho';have bv:N0 u≠some p:=fun hb=>by have:=(ho.blk hb).1;omega
  have r8:Z8.A7 p=some _:=(D6 (hA.same p (by simp;omega) bv)).trans ((M4 (by first|omega|(simp;omega))).trans rp');have qN:GQ q v l (Z3.new [str nm]):=Q'.ext (.new _ _) (by first|omega|(simp;omega));simp(maxSteps:=8000000) (disch:=first|exact dS|fail) only[↓bD,bU,reduceMul,reduceEqDiff,reduceAdd,Nat.reduceBEq,reduceIte,Option.isNone_none,Ag,W4,Y0,W8,U5,U6,U7,U8,K3,H9,J3,I5,I6,I0,gs2,CL,CM,gw1,gw2,gw3,gw5,gw6,CN,CO,CQ,CT,CU,CV,CW,g2,g3,g4,g5,g7,g8,gc,r8,asx (Ext.refl _),G8,G3]
  try refine Ca.intro (by(repeat first|simp(disch:=omega) only[M9,G3,G8,asx (Ext.refl _)]|rw[V8 (by kernel_rfl)]);first|done|rfl) ?_
  try simp(maxSteps:=8000000) (disch:=first|exact dS|fail) only[↓bD,bU,reduceMul,reduceEqDiff,reduceAdd,Nat.reduceBEq,reduceIte,Option.isNone_none,Ag,W4,Y0,W8,U5,U6,U7,U8,K3,H9,J3,I5,I6,I0,gs2,CL,CM,gw1,gw2,gw3,gw5,gw6,CN,CO,CQ,CT,CU,CV,CW,g2,g3,g4,g5,g7,g8,gc]
  refine⟨fR,fR1 g2,fR1 g3,fR1 g4,fR1 g5,fR1 g7,fR1 g8,(Y9.app hA hXN hoN nL).upd,(qN.app hA hoN (by first|omega|(simp;omega)) om).x (J7.refl.upd _) (by have:=hA.n;simp at this;omega) om,_,L++[nm],cL,?_,by simp only[Dc,CE,JQ];omega,?_⟩
  ·rw[IY];exact OL.upd ho' om
  ·intro x hx;rcases HX.1 hx with hx|hx
   ·exact hP x hx
   ·rw[Lf]at hx;subst hx;exact(hU _ hgn).1
 ·clear g2 g3 g4 g5 g7 g8 fr hXa hQa rpa hoa hLa hPa ua La τ;rintro fr τ ⟨gc,g2,g3,g4,g5,g7,g8,hX,hQ,hh⟩;simp(maxSteps:=8000000) (disch:=first|exact dS|fail) only[↓bD,bU,reduceMul,reduceEqDiff,reduceAdd,Nat.reduceBEq,reduceIte,Option.isNone_none,D5,gs2,CL,CM,gw1,gw2,gw3,gw5,gw6,CN,CO,CQ,CT,CU,CV,CW,gc,g8];exact⟨_,_,rfl,fR1 g2,fR1 g3,fR1 g4,fR1 g5,fR1 g7,fR1 g8,hX,hQ,hh⟩
 clear g2 g3 g4 g5 g7 g8 fr hXa hQa rpa hoa hLa hPa ua La τ;rintro r ⟨fr,τ15,rfl,g2,g3,g4,g5,g7,g8,ZU,Q15,V4,L4,rp,ho4,hL4,hP4⟩;have n15:=ZU.n;have E15:Ext Z τ15:=ZU.ext E14 om om;have z0:τ15.A7 Z.n=some [str [],.slice none 0 0,.slice none 0 0,.slice none 0 0,.int .i64 0,.int .i64 0,str [],.int .i64 0,.int .i64 0,str [],.slice none 0 0,.slice none 0 0,.int .i64 0,.slice none 0 0,.int .i64 0,.int .i64 0,.int .i64 0,.int .i64 0,.int .i64 0,.int .i64 0]:=by rw[ZU.A7 om om om];exact z0
 have rn:τ15.A7 nb=some [str [115,112,101,101,100],str [99,111,109,102,111,114,116],str [119,101,105,103,104,116]]:=by rw[ZU.A7 om om om];exact rn
 have ho1:=OL.EP ho1 ZU om om;have ho2:=OL.EP ho2 ZU om om;have ho3:=OL.EP ho3 ZU om om;have hx:=hx.H4 (show Dr (M8 τ14 H) (M8 τ15 H)from AQ n15 fun c hc hm=>⟨hm,ZU.row hc (fun h=>hm (h ▸ hqH)) (fun h=>hm (h ▸ hpH))⟩);refine Ev.mono (R:=fun r=>r=⟨.normal,fr,τ15⟩) (v:=⟨⟩) (by simp(maxSteps:=8000000) (disch:=first|exact dS|fail) only[↓bD,bU,reduceMul,reduceEqDiff,reduceAdd,Nat.reduceBEq,reduceIte,Option.isNone_none,D5,gs2,CL,CM,gw1,gw2,gw3,gw5,gw6,CN,CO,CQ,CT,CU,CV,CW]) ?_;rintro r rfl;simp only[Ga];refine Nz (fun fr τ=>fr.get 2=some (.pointer (some ⟨Z.n,0,none⟩))/\fr.get 3=some (.pointer (some ⟨q,0,none⟩))/\fr.get 4=some (.pointer (some ⟨p,0,none⟩))/\fr.get 5=some (.int .i64 (nl:Nat))/\fr.get 7=some (.slice (some ⟨nb,0,none⟩) 3 3)/\fr.get 8=some (.int .i64 (f:Nat))/\Y9 q p τ15 τ/\GQ q v l τ/\∃ (u:Value) (ws:List Value) (L:List (List Int)),τ.A7 p=some ([str [116],V1,(.slice va2 f f),V3,.int .i64 lo,.int .i64 hi,x1,x2,x3,x4,x5,V4,.int .i64 mo,u,.int .i64 bu,.int .i64 0,.int .i64 0,.int .i64 0,.int .i64 0,.int .i64 0])/\SLs (M8 τ H) 1 u (ws.map fun x=>[x])/\MF (PC (M8 τ H)) ws L/\L.length<=1/\∀ c∈L,c=[1,2]) ?_ ?_
 ·by_cases q1:1<nl
  case neg=>
   have d1:decide (1<(nl:Int))=false:=dF;refine gU1 (aI @D5 (aI @gs2 (aI @CL (aI @CM (aI @gw1 (aI @gw2 (aI @gw3 (aI @gw5 (aI @gw6 (aI @CN (aI @CO (aI @CQ (aI @CT (aI @CU (aI @CV (aI @CW (aI g2 (aI g3 (aI g4 (aI g5 (aI g7 (aI g8 d1)))))))))))))))))))))) ?_;exact⟨_,_,rfl,fR1 g2,fR1 g3,fR1 g4,fR1 g5,fR1 g7,fR1 g8,.refl,Q15,.slice none 0 0,[],[],rp,.nil,trivial,by simp,fun c hc=>by cases hc⟩
  have d1:decide (1<(nl:Int))=true:=dT;refine gU1 (aI @D5 (aI @gs2 (aI @CL (aI @CM (aI @gw1 (aI @gw2 (aI @gw3 (aI @gw5 (aI @gw6 (aI @CN (aI @CO (aI @CQ (aI @CT (aI @CU (aI @CV (aI @CW (aI g2 (aI g3 (aI g4 (aI g5 (aI g7 (aI g8 d1)))))))))))))))))))))) ?_;refine(GR (n:=2) hl hll E15 om om Q15 om om).mono ?_;rintro r ⟨x,Z3,rfl,hx,Ex,Qx,Xx⟩;have nx:=Xx.n;have rp:Z3.A7 p=some _:=(Xx.A7 om om).trans rp;have rpr:=A9 rp;cases qx:decide ((x:Int)=1)with
  | false=>
    refine gU1 (aI @D5 (aI @gs2 (aI @CL (aI @CM (aI @gw1 (aI @gw2 (aI @gw3 (aI @gw5 (aI @gw6 (aI @CN (aI @CO (aI @CQ (aI @CT (aI @CU (aI @CV (aI @CW (aI g2 (aI g3 (aI g4 (aI g5 (aI g7 (aI g8 (aI d1 qx))))))))))))))))))))))) ?_;exact⟨_,_,rfl,fR1 g2,fR1 g3,fR1 g4,fR1 g5,fR1 g7,fR1 g8,.xq Xx,Qx,.slice none 0 0,[],[],rp,.nil,trivial,by simp,fun c hc=>by cases hc⟩
  |true=>
  have r8:((Z3.new [.int .i64 1,.int .i64 2]).new [.slice (some ⟨Z3.n,0,none⟩) 2 2]).A7 p=some _:=(M4 (by simp only[F6];omega)).trans ((M4 om).trans rp);refine gU1 (aI @D5 (aI @gs2 (aI @CL (aI @CM (aI @gw1 (aI @gw2 (aI @gw3 (aI @gw5 (aI @gw6 (aI @CN (aI @CO (aI @CQ (aI @CT (aI @CU (aI @CV (aI @CW (aI g2 (aI g3 (aI g4 (aI g5 (aI g7 (aI g8 (aI d1 (aI qx r8)))))))))))))))))))))))) ?_;obtain⟨S,hS⟩:=nm ((((Z3.new [.int .i64 1,.int .i64 2]).new [.slice (some ⟨Z3.n,0,none⟩) 2 2]).upd p ([str [116],V1,(.slice va2 f f),V3,.int .i64 lo,.int .i64 hi,x1,x2,x3,x4,x5,V4,.int .i64 mo,(.slice (some ⟨Z3.n+1,0,none⟩) 1 1),.int .i64 bu,.int .i64 0,.int .i64 0,.int .i64 0,.int .i64 0,.int .i64 0])));have nS:S.n=Z3.n+2:=by rw[<- hS];rfl
  have m1:S.row Z3.n=some [.int .i64 1,.int .i64 2]:=by rw[<- hS,AX om,CI (by simp only[F6];omega)];first|done|exact K5 nL nL
  have m2:S.row (Z3.n+1)=some [.slice (some ⟨Z3.n,0,none⟩) 2 2]:=by rw[<- hS,AX om];first|done|exact K5 nL nL
  have h1:(M8 S H).row Z3.n=some [.int .i64 1,.int .i64 2]:=by rw[Bn fun h=>by have:=hHl _ h;omega];exact m1
  have h2:(M8 S H).row (Z3.n+1)=some [.slice (some ⟨Z3.n,0,none⟩) 2 2]:=by rw[Bn fun h=>by have:=hHl _ h;omega];exact m2
  refine⟨_,S,by rw[hS],fR1 g2,fR1 g3,fR1 g4,fR1 g5,fR1 g7,fR1 g8,?_,?_,.slice (some ⟨Z3.n+1,0,none⟩) 1 1,[.slice (some ⟨Z3.n,0,none⟩) 2 2],[[1,2]],by rw[<- hS];exact R5,⟨by simp,.inr ⟨Z3.n+1,0,none,1,_,rfl,by rw[EG];omega,h2,rfl⟩⟩,⟨JT (by simp) (by rw[EG];omega) h1 rfl rfl,trivial⟩,by simp,by simp⟩
  ·rw[<- hS];exact((Y9.xq Xx).trans (.of (Ext.W6 (.new _ _) _))).upd
  ·rw[<- hS];exact((Qx.ext (.new _ _) om).ext (.new _ _) (by simp;omega)).x (J7.refl.upd _) (by simp;omega) om
 clear g2 g3 g4 g5 g7 g8 fr rp;rintro fr τ16 ⟨g2,g3,g4,g5,g7,g8,WU,Q16,V5,ws,L5,rp,hk5,hks,hL5,hP5⟩;have n16:=WU.n;have E16:Ext Z τ16:=WU.ext E15 om om;have z0:τ16.A7 Z.n=some [str [],.slice none 0 0,.slice none 0 0,.slice none 0 0,.int .i64 0,.int .i64 0,str [],.int .i64 0,.int .i64 0,str [],.slice none 0 0,.slice none 0 0,.int .i64 0,.slice none 0 0,.int .i64 0,.int .i64 0,.int .i64 0,.int .i64 0,.int .i64 0,.int .i64 0]:=by rw[WU.A7 om om om];exact z0
 have rn:τ16.A7 nb=some [str [115,112,101,101,100],str [99,111,109,102,111,114,116],str [119,101,105,103,104,116]]:=by rw[WU.A7 om om om];exact rn
 have ho1:=OL.EP ho1 WU om om;have ho2:=OL.EP ho2 WU om om;have ho3:=OL.EP ho3 WU om om;have ho4:=OL.EP ho4 WU om om;have hx:=hx.H4 (show Dr (M8 τ15 H) (M8 τ16 H)from AQ n16 fun c hc hm=>⟨hm,WU.row hc (fun h=>hm (h ▸ hqH)) (fun h=>hm (h ▸ hpH))⟩);obtain⟨RS,hRS⟩:∃ RS:St->Prop,RS=fun τ=>OL τ7.n τ 2 V1 (L1.map Lot.row)/\OL τ9.n τ 5 (.slice va2 f f) (L2.map Bz.row)/\OL τ10.n τ 3 V3 (L3.map Req.row)/\OL τ14.n τ 1 V4 (L4.map Ny)/\P6 (M8 τ H) [x1,x2,x3,x4,x5] e/\SLs (M8 τ H) 1 V5 (ws.map fun x=>[x])/\MF (PC (M8 τ H)) ws L5:=⟨_,rfl⟩
 have rs:RS τ16:=by rw[hRS];exact⟨ho1,ho2,ho3,ho4,hx,hk5,hks⟩
 have RSk:∀ τ τ',τ16.n<=τ.n->Y9 q p τ τ'->RS τ->RS τ':=by
  intro τ τ' hn hX h;rw[hRS]at h ⊢;obtain⟨h1,h2,h3,h4,h5,h6,h7⟩:=h;have hk:Dr (M8 τ H) (M8 τ' H):=AQ hX.n fun c hc hm=>⟨hm,hX.row hc (fun h=>hm (h ▸ hqH)) (fun h=>hm (h ▸ hpH))⟩
  exact⟨OL.EP h1 hX om om,OL.EP h2 hX om om,OL.EP h3 hX om om,OL.EP h4 hX om om,h5.H4 hk,h6.H4 hk,h7.mono fun _ _ h=>SL.H4 h hk⟩
 clear ho1 ho2 ho3 ho4 hx hk5 hks rn;refine gU1 (aI @D5 (aI @gs2 (aI @CL (aI @CM (aI @gw1 (aI @gw2 (aI @gw3 (aI @gw5 (aI @gw6 (aI @CN (aI @CO (aI @CQ (aI @CT (aI @CU (aI @CV (aI @CW (aI g2 (aI g3 (aI g4 (aI g5 (aI g7 g8))))))))))))))))))))) ?_;refine(GR (n:=5) hl hll E16 om om Q16 om om).mono ?_;rintro r ⟨y0,υ0,rfl,hy0,Ey0,Qy0,Xy0⟩;have ny0:=Xy0.n;have rp:=eT (Xy0.A7 om om) rp;have z0:=eT (Xy0.A7 om om) z0;have rs:=RSk τ16 υ0 om (.xq Xy0) rs;obtain⟨tq,htq⟩:=nm (10+(y0:Int));refine gU1 (aI @D5 (aI @gs2 (aI @CL (aI @CM (aI @gw1 (aI @gw2 (aI @gw3 (aI @gw5 (aI @gw6 (aI @CN (aI @CO (aI @CQ (aI @CT (aI @CU (aI @CV (aI @CW (aI g2 (aI g3 (aI g4 (aI g5 (aI g7 (aI g8 (aI rp htq))))))))))))))))))))))) ?_;obtain⟨U0,hU0⟩:=nm ((υ0.upd p ([str [116],V1,(.slice va2 f f),V3,.int .i64 lo,.int .i64 hi,x1,x2,x3,x4,x5,V4,.int .i64 mo,V5,.int .i64 bu,.int .i64 tq,.int .i64 0,.int .i64 0,.int .i64 0,.int .i64 0])))
 try rw[hU0]
 have nU0:U0.n=υ0.n:=by rw[<- hU0];rfl
 have EU0:Ext Z U0:=by rw[<- hU0];exact Ey0.upd om _
 have rp:U0.A7 p=some ([str [116],V1,(.slice va2 f f),V3,.int .i64 lo,.int .i64 hi,x1,x2,x3,x4,x5,V4,.int .i64 mo,V5,.int .i64 bu,.int .i64 tq,.int .i64 0,.int .i64 0,.int .i64 0,.int .i64 0]):=by rw[<- hU0];exact R5
 have z0:U0.A7 Z.n=some [str [],.slice none 0 0,.slice none 0 0,.slice none 0 0,.int .i64 0,.int .i64 0,str [],.int .i64 0,.int .i64 0,str [],.slice none 0 0,.slice none 0 0,.int .i64 0,.slice none 0 0,.int .i64 0,.int .i64 0,.int .i64 0,.int .i64 0,.int .i64 0,.int .i64 0]:=by rw[<- hU0,K0 om];exact z0
 have QU0:GQ q v l U0:=by rw[<- hU0];exact Qy0.x (J7.refl.upd _) om om
 have rs:RS U0:=RSk υ0 U0 om (by rw[<- hU0];exact Y9.upd .refl) rs;clear hU0;refine(GR (n:=5) hl hll EU0 om om QU0 om om).mono ?_;rintro r ⟨y1,υ1,rfl,hy1,Ey1,Qy1,Xy1⟩;have ny1:=Xy1.n;have rp:=eT (Xy1.A7 om om) rp;have z0:=eT (Xy1.A7 om om) z0;have rs:=RSk U0 υ1 om (.xq Xy1) rs;obtain⟨tb,htb⟩:=nm (tq+1+(y1:Int));refine gU1 (aI @D5 (aI @gs2 (aI @CL (aI @CM (aI @gw1 (aI @gw2 (aI @gw3 (aI @gw5 (aI @gw6 (aI @CN (aI @CO (aI @CQ (aI @CT (aI @CU (aI @CV (aI @CW (aI g2 (aI g3 (aI g4 (aI g5 (aI g7 (aI g8 (aI rp htb))))))))))))))))))))))) ?_;refine Ca.intro (by(repeat first|simp(disch:=omega) only[M9,G3,G8,V7 Xy1]|rw[V8 (by kernel_rfl)]);first|done|rfl) ?_;refine gU1 (aI @D5 (aI @gs2 (aI @CL (aI @CM (aI @gw1 (aI @gw2 (aI @gw3 (aI @gw5 (aI @gw6 (aI @CN (aI @CO (aI @CQ (aI @CT (aI @CU (aI @CV (aI @CW (aI g2 (aI g3 (aI g4 (aI g5 (aI g7 g8))))))))))))))))))))) ?_;obtain⟨U1,hU1⟩:=nm ((υ1.upd p ([str [116],V1,(.slice va2 f f),V3,.int .i64 lo,.int .i64 hi,x1,x2,x3,x4,x5,V4,.int .i64 mo,V5,.int .i64 bu,.int .i64 tq,.int .i64 tb,.int .i64 0,.int .i64 0,.int .i64 0])))
 try rw[hU1]
 have nU1:U1.n=υ1.n:=by rw[<- hU1];rfl
 have EU1:Ext Z U1:=by rw[<- hU1];exact Ey1.upd om _
 have rp:U1.A7 p=some ([str [116],V1,(.slice va2 f f),V3,.int .i64 lo,.int .i64 hi,x1,x2,x3,x4,x5,V4,.int .i64 mo,V5,.int .i64 bu,.int .i64 tq,.int .i64 tb,.int .i64 0,.int .i64 0,.int .i64 0]):=by rw[<- hU1];exact R5
 have z0:U1.A7 Z.n=some [str [],.slice none 0 0,.slice none 0 0,.slice none 0 0,.int .i64 0,.int .i64 0,str [],.int .i64 0,.int .i64 0,str [],.slice none 0 0,.slice none 0 0,.int .i64 0,.slice none 0 0,.int .i64 0,.int .i64 0,.int .i64 0,.int .i64 0,.int .i64 0,.int .i64 0]:=by rw[<- hU1,K0 om];exact z0
 have QU1:GQ q v l U1:=by rw[<- hU1];exact Qy1.x (J7.refl.upd _) om om
 have rs:RS U1:=RSk υ1 U1 om (by rw[<- hU1];exact Y9.upd .refl) rs;clear hU1;refine(GR (n:=5) hl hll EU1 om om QU1 om om).mono ?_;rintro r ⟨y2,υ2,rfl,hy2,Ey2,Qy2,Xy2⟩;have ny2:=Xy2.n;have rp:=eT (Xy2.A7 om om) rp;have z0:=eT (Xy2.A7 om om) z0;have rs:=RSk U1 υ2 om (.xq Xy2) rs;obtain⟨tg,htg⟩:=nm (tb+1+(y2:Int));refine gU1 (aI @D5 (aI @gs2 (aI @CL (aI @CM (aI @gw1 (aI @gw2 (aI @gw3 (aI @gw5 (aI @gw6 (aI @CN (aI @CO (aI @CQ (aI @CT (aI @CU (aI @CV (aI @CW (aI g2 (aI g3 (aI g4 (aI g5 (aI g7 (aI g8 (aI rp htg))))))))))))))))))))))) ?_;refine Ca.intro (by(repeat first|simp(disch:=omega) only[M9,G3,G8,V7 Xy2]|rw[V8 (by kernel_rfl)]);first|done|rfl) ?_;refine gU1 (aI @D5 (aI @gs2 (aI @CL (aI @CM (aI @gw1 (aI @gw2 (aI @gw3 (aI @gw5 (aI @gw6 (aI @CN (aI @CO (aI @CQ (aI @CT (aI @CU (aI @CV (aI @CW (aI g2 (aI g3 (aI g4 (aI g5 (aI g7 g8))))))))))))))))))))) ?_;obtain⟨U2,hU2⟩:=nm ((υ2.upd p ([str [116],V1,(.slice va2 f f),V3,.int .i64 lo,.int .i64 hi,x1,x2,x3,x4,x5,V4,.int .i64 mo,V5,.int .i64 bu,.int .i64 tq,.int .i64 tb,.int .i64 tg,.int .i64 0,.int .i64 0])))
 try rw[hU2]
 have nU2:U2.n=υ2.n:=by rw[<- hU2];rfl
 have EU2:Ext Z U2:=by rw[<- hU2];exact Ey2.upd om _
 have rp:U2.A7 p=some ([str [116],V1,(.slice va2 f f),V3,.int .i64 lo,.int .i64 hi,x1,x2,x3,x4,x5,V4,.int .i64 mo,V5,.int .i64 bu,.int .i64 tq,.int .i64 tb,.int .i64 tg,.int .i64 0,.int .i64 0]):=by rw[<- hU2];exact R5
 have z0:U2.A7 Z.n=some [str [],.slice none 0 0,.slice none 0 0,.slice none 0 0,.int .i64 0,.int .i64 0,str [],.int .i64 0,.int .i64 0,str [],.slice none 0 0,.slice none 0 0,.int .i64 0,.slice none 0 0,.int .i64 0,.int .i64 0,.int .i64 0,.int .i64 0,.int .i64 0,.int .i64 0]:=by rw[<- hU2,K0 om];exact z0
 have QU2:GQ q v l U2:=by rw[<- hU2];exact Qy2.x (J7.refl.upd _) om om
 have rs:RS U2:=RSk υ2 U2 om (by rw[<- hU2];exact Y9.upd .refl) rs;clear hU2;refine(GR (n:=5) hl hll EU2 om om QU2 om om).mono ?_;rintro r ⟨y3,υ3,rfl,hy3,Ey3,Qy3,Xy3⟩;have ny3:=Xy3.n;have rp:=eT (Xy3.A7 om om) rp;have z0:=eT (Xy3.A7 om om) z0;have rs:=RSk U2 υ3 om (.xq Xy3) rs;obtain⟨tp,htp⟩:=nm (tg+1+(y3:Int));refine gU1 (aI @D5 (aI @gs2 (aI @CL (aI @CM (aI @gw1 (aI @gw2 (aI @gw3 (aI @gw5 (aI @gw6 (aI @CN (aI @CO (aI @CQ (aI @CT (aI @CU (aI @CV (aI @CW (aI g2 (aI g3 (aI g4 (aI g5 (aI g7 (aI g8 (aI rp htp))))))))))))))))))))))) ?_;refine Ca.intro (by(repeat first|simp(disch:=omega) only[M9,G3,G8,V7 Xy3]|rw[V8 (by kernel_rfl)]);first|done|rfl) ?_;refine gU1 (aI @D5 (aI @gs2 (aI @CL (aI @CM (aI @gw1 (aI @gw2 (aI @gw3 (aI @gw5 (aI @gw6 (aI @CN (aI @CO (aI @CQ (aI @CT (aI @CU (aI @CV (aI @CW (aI g2 (aI g3 (aI g4 (aI g5 (aI g7 g8))))))))))))))))))))) ?_;obtain⟨U3,hU3⟩:=nm ((υ3.upd p ([str [116],V1,(.slice va2 f f),V3,.int .i64 lo,.int .i64 hi,x1,x2,x3,x4,x5,V4,.int .i64 mo,V5,.int .i64 bu,.int .i64 tq,.int .i64 tb,.int .i64 tg,.int .i64 tp,.int .i64 0])))
 try rw[hU3]
 have nU3:U3.n=υ3.n:=by rw[<- hU3];rfl
 have EU3:Ext Z U3:=by rw[<- hU3];exact Ey3.upd om _
 have rp:U3.A7 p=some ([str [116],V1,(.slice va2 f f),V3,.int .i64 lo,.int .i64 hi,x1,x2,x3,x4,x5,V4,.int .i64 mo,V5,.int .i64 bu,.int .i64 tq,.int .i64 tb,.int .i64 tg,.int .i64 tp,.int .i64 0]):=by rw[<- hU3];exact R5
 have z0:U3.A7 Z.n=some [str [],.slice none 0 0,.slice none 0 0,.slice none 0 0,.int .i64 0,.int .i64 0,str [],.int .i64 0,.int .i64 0,str [],.slice none 0 0,.slice none 0 0,.int .i64 0,.slice none 0 0,.int .i64 0,.int .i64 0,.int .i64 0,.int .i64 0,.int .i64 0,.int .i64 0]:=by rw[<- hU3,K0 om];exact z0
 have QU3:GQ q v l U3:=by rw[<- hU3];exact Qy3.x (J7.refl.upd _) om om
 have rs:RS U3:=RSk υ3 U3 om (by rw[<- hU3];exact Y9.upd .refl) rs;clear hU3;refine(GR (n:=10) hl hll EU3 om om QU3 om om).mono ?_;rintro r ⟨y4,υ4,rfl,hy4,Ey4,Qy4,Xy4⟩;have ny4:=Xy4.n;have rp:=eT (Xy4.A7 om om) rp;have z0:=eT (Xy4.A7 om om) z0;have rs:=RSk U3 υ4 om (.xq Xy4) rs;obtain⟨ts,hts⟩:=nm ((y4:Int));refine gU1 (aI @D5 (aI @gs2 (aI @CL (aI @CM (aI @gw1 (aI @gw2 (aI @gw3 (aI @gw5 (aI @gw6 (aI @CN (aI @CO (aI @CQ (aI @CT (aI @CU (aI @CV (aI @CW (aI g2 (aI g3 (aI g4 (aI g5 (aI g7 (aI g8 (aI rp hts))))))))))))))))))))))) ?_;obtain⟨U4,hU4⟩:=nm ((υ4.upd p ([str [116],V1,(.slice va2 f f),V3,.int .i64 lo,.int .i64 hi,x1,x2,x3,x4,x5,V4,.int .i64 mo,V5,.int .i64 bu,.int .i64 tq,.int .i64 tb,.int .i64 tg,.int .i64 tp,.int .i64 ts])))
 try rw[hU4]
 have nU4:U4.n=υ4.n:=by rw[<- hU4];rfl
 have EU4:Ext Z U4:=by rw[<- hU4];exact Ey4.upd om _
 have rp:U4.A7 p=some ([str [116],V1,(.slice va2 f f),V3,.int .i64 lo,.int .i64 hi,x1,x2,x3,x4,x5,V4,.int .i64 mo,V5,.int .i64 bu,.int .i64 tq,.int .i64 tb,.int .i64 tg,.int .i64 tp,.int .i64 ts]):=by rw[<- hU4];exact R5
 have z0:U4.A7 Z.n=some [str [],.slice none 0 0,.slice none 0 0,.slice none 0 0,.int .i64 0,.int .i64 0,str [],.int .i64 0,.int .i64 0,str [],.slice none 0 0,.slice none 0 0,.int .i64 0,.slice none 0 0,.int .i64 0,.int .i64 0,.int .i64 0,.int .i64 0,.int .i64 0,.int .i64 0]:=by rw[<- hU4,K0 om];exact z0
 have QU4:GQ q v l U4:=by rw[<- hU4];exact Qy4.x (J7.refl.upd _) om om
 have rs:RS U4:=RSk υ4 U4 om (by rw[<- hU4];exact Y9.upd .refl) rs;clear hU4;have mkT:∀ τ y1 y2 y3 y4 y5 ff,RS τ->P6 (M8 τ H) [y1,y2,y3,y4,y5] ff->TnX (M8 τ H) ([str [116],V1,(.slice va2 f f),V3,.int .i64 lo,.int .i64 hi,y1,y2,y3,y4,y5,V4,.int .i64 mo,V5,.int .i64 bu,.int .i64 tq,.int .i64 tb,.int .i64 tg,.int .i64 tp,.int .i64 ts]) (⟨[116],L1,L2,L3,lo,hi,ff,L4,mo,L5,bu,⟨tq,tb,tg,tp,ts⟩⟩:Tn):=by
  intro τ y1 y2 y3 y4 y5 ff h hy;rw[hRS]at h;obtain⟨h1,h2,h3,h4,-,h6,h7⟩:=h;have b1:∀ c∈H,c<τ7.n:=fun c hc=>by have:=hHl c hc;omega
  have b2:∀ c∈H,c<τ9.n:=fun c hc=>by have:=hHl c hc;omega
  have b3:∀ c∈H,c<τ10.n:=fun c hc=>by have:=hHl c hc;omega
  have b4:∀ c∈H,c<τ14.n:=fun c hc=>by have:=hHl c hc;omega
  exact⟨V1,(.slice va2 f f),V3,[y1,y2,y3,y4,y5],V4,V5,ws,rfl,OL.M8 h1 b1,OL.M8 h2 b2,OL.M8 h3 b3,hy,OL.M8 h4 b4,h6,h7⟩
 have gok:∀ ff,GOk (⟨[116],L1,L2,L3,lo,hi,ff,L4,mo,L5,bu,⟨tq,tb,tg,tp,ts⟩⟩:Tn):=by
  intro ff;refine⟨⟨?_,?_,?_,?_,?_,?_,?_,?_,?_,?_,?_,?_,?_,?_,?_⟩,⟨?_,?_,?_,?_,?_,?_,?_,?_,?_⟩,⟨?_,?_,?_,?_,?_⟩,rfl,?_,?_,?_,?_,?_⟩
  ·show L1.length<=16;omega
  ·intro x hx;have:=hP1 x hx;exact⟨om,om,om,om⟩
  ·show L2.length<=16;omega
  ·intro x hx;obtain⟨a1,a2,a3,a4,a5,a6⟩:=hP2 x hx;exact⟨(hU _ a1).1,⟨om,om⟩,⟨om,om⟩,⟨om,om⟩⟩
  ·show L3.length<=8;omega
  ·intro x hx;obtain⟨a1,a2,a3,a4⟩:=hP3 x hx;exact⟨(hU _ a1).1,a2,om,om⟩
  ·exact⟨by show _<=lo;omega,by show lo<=_;omega⟩
  ·exact⟨by show _<=hi;omega,by show hi<=_;omega⟩
  ·show L4.length<=16;omega
  ·exact hP4
  ·exact⟨by show _<=mo;omega,by show mo<=_;omega⟩
  ·show L5.length<=16;omega
  ·intro c hc;have:=hP5 c hc;subst this;exact⟨by decide,by intro n hn;simp only[Y5,FN,Em]at hn;rcases hn with rfl|rfl<;>exact⟨om,om⟩⟩
  ·exact⟨by show _<=bu;omega,by show bu<=_;omega⟩
  ·exact⟨⟨by show _<=tq;omega,by show tq<=_;omega⟩,⟨by show _<=tb;omega,by show tb<=_;omega⟩,⟨by show _<=tg;omega,by show tg<=_;omega⟩,⟨by show _<=tp;omega,by show tp<=_;omega⟩,⟨by show _<=ts;omega,by show ts<=_;omega⟩⟩
  ·intro x hx;have:=hP1 x hx;exact⟨⟨om,om⟩,⟨om,om⟩⟩
  ·intro x hx;obtain⟨a1,a2,a3,a4,a5,a6⟩:=hP2 x hx;exact⟨a2,⟨om,om⟩,⟨om,om⟩⟩
  ·intro x hx;obtain⟨a1,a2,a3,a4⟩:=hP3 x hx;exact⟨om,om⟩
  ·intro c hc n hn;have:=hP5 c hc;subst this;simp only[Y5,FN,Em]at hn;rcases hn with rfl|rfl<;>exact⟨om,om⟩
  ·exact⟨by show 0<=lo;omega,by show lo<_;omega⟩
  ·exact⟨by show 0<=hi;omega,by show hi<_;omega⟩
  ·exact⟨by show 0<=mo;omega,by show mo<_;omega⟩
  ·exact⟨by show 0<=bu;omega,by show bu<_;omega⟩
  ·exact⟨⟨by show 0<=tq;omega,by show tq<_;omega⟩,⟨by show 0<=tb;omega,by show tb<_;omega⟩,⟨by show 0<=tg;omega,by show tg<_;omega⟩,⟨by show 0<=tp;omega,by show tp<_;omega⟩,⟨by show 0<=ts;omega,by show ts<_;omega⟩⟩
  ·show L1.length<=5;omega
  ·show L2.length<=5;omega
  ·show L3.length<=5;omega
  ·show L4.length<=5;omega
  ·show L5.length<=5;omega
  ·exact⟨by show 10<=tq;omega,by show tq<=14;omega⟩
  ·exact⟨by show tq+1<=tb;omega,by show tb<=tq+5;omega⟩
  ·exact⟨by show tb+1<=tg;omega,by show tg<=tb+5;omega⟩
  ·exact⟨by show tg+1<=tp;omega,by show tp<=tg+5;omega⟩
  ·exact⟨by show 0<=ts;omega,by show ts<=9;omega⟩
 have hxe:P6 (M8 U4 H) [x1,x2,x3,x4,x5] e:=by have h:=rs;rw[hRS]at h;exact h.2.2.2.2.1
 have tx:=mkT U4 _ _ _ _ _ e rs hxe;have Ay0:Iv (⟨[116],L1,L2,L3,lo,hi,e,L4,mo,L5,bu,⟨tq,tb,tg,tp,ts⟩⟩:Tn) e (BdQ (bdN g) (bdD g)):=Iv.congr (fun s=>by rw[hT0];rfl) hiv;refine(rK (T:=(⟨[116],L1,L2,L3,lo,hi,e,L4,mo,L5,bu,⟨tq,tb,tg,tp,ts⟩⟩:Tn)) ⟨(tx.H4 Mc).tn,(gok e).wk hf om⟩ hf om Ay0 (fun _ _ h=>h.1)).mono ?_;rintro r ⟨sC,cC,υ5,rfl,hE5⟩;have n5:=hE5.n;have rp:=eT (hE5.A7 om) rp;have z0:=eT (hE5.A7 om) z0;have EF:Ext Z υ5:=EU4.trans hE5;have rs:=RSk U4 υ5 om (.of hE5) rs;have hxe:=hxe.H4 (H2 hE5);have hsH:Z.n∈H:=by rw[<- hHd];simp
 have Ay1:∀ c,c∉H->c∉H0:=fun c hc h=>hc (by rw[<- hHd];simp[h]);have fin:∀ τ C T,Ext Z τ->TnX (M8 τ H) C T->Ext Z (τ.upd Z.n C)/\TnX (M8 (τ.upd Z.n C) H0) C T:=by
  intro τ C T hE hT;exact⟨hE.upd nL _,hT.H4 (AQ nL fun c hc hm=>⟨Ay1 c hm,AX fun h=>hm (h ▸ hsH)⟩)⟩
 cases dC:decide (cC=0)with
 | true=>
   have rpr:=A9 rp;refine gU1 (aI @D5 (aI @gs2 (aI @CL (aI @CM (aI @gw1 (aI @gw2 (aI @gw3 (aI @gw5 (aI @gw6 (aI @CN (aI @CO (aI @CQ (aI @CT (aI @CU (aI @CV (aI @CW (aI g2 (aI g3 (aI g4 (aI g5 (aI g7 (aI g8 (aI dC (aI rpr (aI z0 @Tryz.results9))))))))))))))))))))))))) ?_;obtain⟨a1,a2⟩:=fin υ5 _ _ EF (mkT υ5 _ _ _ _ _ e rs hxe);exact⟨_,_,_,rfl,a1,a2,gok e,_,hf,om⟩
 | false=>
   refine gU1 (aI @D5 (aI @gs2 (aI @CL (aI @CM (aI @gw1 (aI @gw2 (aI @gw3 (aI @gw5 (aI @gw6 (aI @CN (aI @CO (aI @CQ (aI @CT (aI @CU (aI @CV (aI @CW (aI g2 (aI g3 (aI g4 (aI g5 (aI g7 (aI g8 dC)))))))))))))))))))))) ?_;refine DA.mono ?_;rintro r ⟨r1,s1,rfl,F1,xx1⟩;refine gU1 (a16N @D5 @gs2 @CL @CM @gw1 @gw2 @gw3 @gw5 @gw6 @CN @CO @CQ @CT @CU @CV @CW) ?_;refine DA.mono ?_;rintro r ⟨r2,s2,rfl,F2,xx2⟩;refine gU1 (a16N @D5 @gs2 @CL @CM @gw1 @gw2 @gw3 @gw5 @gw6 @CN @CO @CQ @CT @CU @CV @CW) ?_;have m1:=F1.n;have m2:=F2.n;refine(Cm (o:=[47]) H (fun c hc=>by have:=hHl c hc;omega) (xx1 _) (xx2 _)).mono ?_;rintro r ⟨r3,s3,rfl,F3,xx3⟩;have m3:=F3.n;obtain⟨y1,y2,y3,y4,y5,rfl⟩:=jc xx3.len;have F:Ext υ5 s3:=F1.trans (F2.trans F3);have rp:=eT (F.A7 om) rp;have z1:(s3.upd p ([str [116],V1,(.slice va2 f f),V3,.int .i64 lo,.int .i64 hi,y1,y2,y3,y4,y5,V4,.int .i64 mo,V5,.int .i64 bu,.int .i64 tq,.int .i64 tb,.int .i64 tg,.int .i64 tp,.int .i64 ts])).A7 Z.n=some [str [],.slice none 0 0,.slice none 0 0,.slice none 0 0,.int .i64 0,.int .i64 0,str [],.int .i64 0,.int .i64 0,str [],.slice none 0 0,.slice none 0 0,.int .i64 0,.slice none 0 0,.int .i64 0,.int .i64 0,.int .i64 0,.int .i64 0,.int .i64 0,.int .i64 0]:=by rw[K0 om,F.A7 om];exact z0
   refine gU1 (aI @D5 (aI @gs2 (aI @CL (aI @CM (aI @gw1 (aI @gw2 (aI @gw3 (aI @gw5 (aI @gw6 (aI @CN (aI @CO (aI @CQ (aI @CT (aI @CU (aI @CV (aI @CW (aI g2 (aI g3 (aI g4 (aI g5 (aI g7 (aI g8 (aI rp (aI z1 @Tryz.results9)))))))))))))))))))))))) ?_;have rs:=RSk υ5 (s3.upd p ([str [116],V1,(.slice va2 f f),V3,.int .i64 lo,.int .i64 hi,y1,y2,y3,y4,y5,V4,.int .i64 mo,V5,.int .i64 bu,.int .i64 tq,.int .i64 tb,.int .i64 tg,.int .i64 tp,.int .i64 ts])) om ((Y9.of F).upd) rs;obtain⟨a1,a2⟩:=fin (s3.upd p ([str [116],V1,(.slice va2 f f),V3,.int .i64 lo,.int .i64 hi,y1,y2,y3,y4,y5,V4,.int .i64 mo,V5,.int .i64 bu,.int .i64 tq,.int .i64 tb,.int .i64 tg,.int .i64 tp,.int .i64 ts])) _ _ ((EF.trans F).upd om _) (mkT _ _ _ _ _ _ _ rs (xx3.H4 ((J7.refl.upd _).Md hpH)));exact⟨_,_,_,rfl,a1,a2,gok _,_,.op (by decide) (by decide) (by decide) (.name (by decide)) (.name (by decide)),by decide⟩
end
end Go.Proofs.T
