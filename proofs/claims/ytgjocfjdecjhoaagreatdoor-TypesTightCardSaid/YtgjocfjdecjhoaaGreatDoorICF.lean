/- A part of the proof: a walk of some functions. -/
import Derived.Test.YtgjocfjdecjhoaaGreatDoorICE
set_option linter.unusedSimpArgs false
set_option linter.unusedVariables false
set_option linter.defProp false
set_option maxHeartbeats 32000000
set_option maxRecDepth 100000
namespace Go.Proofs.T
open Go Go.Ab
open Nat (reduceMul reduceEqDiff reduceAdd)
section
variable {z a0 a1 a2 a3 a4 a5 a6 a7 a8 a9 a10 a11 a12 a13 a14 a15 a16 a17 a18 a19 a b c v:Value}{T:Tn}{e f:Ex}{Z:St}{l:List Int}{n:Int}{k j:Nat}{o:By}
def qZ:By:=[115,112,101,101,100]
def ZF:By:=[99,111,109,102,111,114,116]
def iO:By:=[119,101,105,103,104,116]
def gn:List By:=[qZ,ZF,iO]
def ZG:∀ s∈gn,s∈names/\s≠J8/\s≠Bp/\s.length<=30:=by decide
def qe {i:Nat}(h:i<3):∃ s,sub ([str [115,112,101,101,100],str [99,111,109,102,111,114,116],str [119,101,105,103,104,116]]:List Value) i 1=some [str s]/\s∈gn:=by
 have:i=0\/i=1\/i=2:=om;rcases this with rfl|rfl|rfl
 ·exact⟨qZ,rfl,by decide⟩
 ·exact⟨ZF,rfl,by decide⟩
 ·exact⟨iO,rfl,by decide⟩
def gs2:N8 [a,b] 1 [z]=some [a,z]:=rfl
def CZ:N8 [a,b,c] 1 [z]=some [a,z,c]:=rfl
def Ca:N8 [a,b,c] 2 [z]=some [a,b,z]:=rfl
def gw1:N8 [a0,a1,a2,a3,a4,a5,a6,a7,a8,a9,a10,a11,a12,a13,a14,a15,a16,a17,a18,a19] 1 [z]=some [a0,z,a2,a3,a4,a5,a6,a7,a8,a9,a10,a11,a12,a13,a14,a15,a16,a17,a18,a19]:=rfl
def gw2:N8 [a0,a1,a2,a3,a4,a5,a6,a7,a8,a9,a10,a11,a12,a13,a14,a15,a16,a17,a18,a19] 2 [z]=some [a0,a1,z,a3,a4,a5,a6,a7,a8,a9,a10,a11,a12,a13,a14,a15,a16,a17,a18,a19]:=rfl
def gw3:N8 [a0,a1,a2,a3,a4,a5,a6,a7,a8,a9,a10,a11,a12,a13,a14,a15,a16,a17,a18,a19] 3 [z]=some [a0,a1,a2,z,a4,a5,a6,a7,a8,a9,a10,a11,a12,a13,a14,a15,a16,a17,a18,a19]:=rfl
def gw5:N8 [a0,a1,a2,a3,a4,a5,a6,a7,a8,a9,a10,a11,a12,a13,a14,a15,a16,a17,a18,a19] 5 [z]=some [a0,a1,a2,a3,a4,z,a6,a7,a8,a9,a10,a11,a12,a13,a14,a15,a16,a17,a18,a19]:=rfl
def Cb:N8 [a0,a1,a2,a3,a4,a5,a6,a7,a8,a9,a10,a11,a12,a13,a14,a15,a16,a17,a18,a19] 11 [z]=some [a0,a1,a2,a3,a4,a5,a6,a7,a8,a9,a10,z,a12,a13,a14,a15,a16,a17,a18,a19]:=rfl
def Cc:N8 [a0,a1,a2,a3,a4,a5,a6,a7,a8,a9,a10,a11,a12,a13,a14,a15,a16,a17,a18,a19] 13 [z]=some [a0,a1,a2,a3,a4,a5,a6,a7,a8,a9,a10,a11,a12,z,a14,a15,a16,a17,a18,a19]:=rfl
def Cd:N8 [a0,a1,a2,a3,a4,a5,a6,a7,a8,a9,a10,a11,a12,a13,a14,a15,a16,a17,a18,a19] 15 [z]=some [a0,a1,a2,a3,a4,a5,a6,a7,a8,a9,a10,a11,a12,a13,a14,z,a16,a17,a18,a19]:=rfl
def Ce:N8 [a0,a1,a2,a3,a4,a5,a6,a7,a8,a9,a10,a11,a12,a13,a14,a15,a16,a17,a18,a19] 16 [z]=some [a0,a1,a2,a3,a4,a5,a6,a7,a8,a9,a10,a11,a12,a13,a14,a15,z,a17,a18,a19]:=rfl
def Cf:N8 [a0,a1,a2,a3,a4,a5,a6,a7,a8,a9,a10,a11,a12,a13,a14,a15,a16,a17,a18,a19] 17 [z]=some [a0,a1,a2,a3,a4,a5,a6,a7,a8,a9,a10,a11,a12,a13,a14,a15,a16,z,a18,a19]:=rfl
def Cg:N8 [a0,a1,a2,a3,a4,a5,a6,a7,a8,a9,a10,a11,a12,a13,a14,a15,a16,a17,a18,a19] 18 [z]=some [a0,a1,a2,a3,a4,a5,a6,a7,a8,a9,a10,a11,a12,a13,a14,a15,a16,a17,z,a19]:=rfl
def Ch:N8 [a0,a1,a2,a3,a4,a5,a6,a7,a8,a9,a10,a11,a12,a13,a14,a15,a16,a17,a18,a19] 19 [z]=some [a0,a1,a2,a3,a4,a5,a6,a7,a8,a9,a10,a11,a12,a13,a14,a15,a16,a17,a18,z]:=rfl
def gw6 {d g h i m:Value}:N8 [a0,a1,a2,a3,a4,a5,a6,a7,a8,a9,a10,a11,a12,a13,a14,a15,a16,a17,a18,a19] 6 [d,g,h,i,m]=some [a0,a1,a2,a3,a4,a5,d,g,h,i,m,a11,a12,a13,a14,a15,a16,a17,a18,a19]:=rfl
def Oj (s:By):List Value:=[str s]
def Gg {g:St}{q:Nat}{m:List Nat}(D:BG (N5 Z m) v l) (i:l.length<=9223372036854775807) (p:Ext Z g) (d:Z.n<=q) (E:q<g.n) (B:GQ q v l g) (u:0<n) (y:n<=1000):
  Ev (gO 26 [.pointer (some ⟨q,0,none⟩),.int .i64 n] g) (fun r=>∃ (x:Nat) (Z':St),r=⟨false,.int .i64 (x:Nat),Z'⟩/\(x:Int)<n/\Ext Z Z'/\GQ q v l Z'/\J9 q g Z') ⟨⟩:=by
 refine(MI (ZH (H:=q::m) D i p (fun c C=>by rcases W1.1 C with rfl|h<;>first|exact .inl d|exact .inr h) E B (by simp)) u y).mono ?_;rintro r ⟨x,Z',rfl,F,A,s⟩;obtain⟨k,r1,I,G⟩:=A.UJ;exact⟨x,Z',rfl,F,s.ext p d,⟨k,G,r1⟩,s⟩
def bdN:Nat->Int|0=>80|1=>23040|2=>4976640|_=>955514880
def bdD:Nat->Int|0=>144|1=>20736|2=>2985984|_=>429981696
def AV6 (N:k<3) (D:Iv T e (BdQ (bdN k) (bdD k))) (E:Iv T f (BdQ 80 144)) (I:o=FL\/o=Jj):Iv T (K4 o e f) (BdQ (bdN (k+1)) (bdD (k+1))):=by
 have key:∀ n d m e,BdQ (bdN k) (bdD k) n d->BdQ 80 144 m e->(-(bdN (k+1))<=n*e+m*d/\n*e+m*d<=bdN (k+1))/\(-(bdN (k+1))<=n*e-m*d/\n*e-m*d<=bdN (k+1))/\d*e≠0/\ -(bdD (k+1))<=d*e/\d*e<=bdD (k+1):=by
  rintro n d m e ⟨J,a1,a2,a3⟩ ⟨K,i,p,g⟩;have L:=J.d1;have M:=K.d1;have O:d*e≠0:=Int.mul_ne_zero om om;have:k=0\/k=1\/k=2:=om;rcases this with rfl|rfl|rfl<;>simp only[bdN,bdD]at a1 a2 a3 ⊢
  ·have F:=Lz (a:=n) (b:=e) (A:=80) (B:=144) a1 a2 om g;have G:=Lz (a:=m) (b:=d) (A:=80) (B:=144) i p om a3;have H:=Lz (a:=d) (b:=e) (A:=144) (B:=144) om a3 om g;omega
  ·have F:=Lz (a:=n) (b:=e) (A:=23040) (B:=144) a1 a2 om g;have G:=Lz (a:=m) (b:=d) (A:=80) (B:=20736) i p om a3;have H:=Lz (a:=d) (b:=e) (A:=20736) (B:=144) om a3 om g;omega
  ·have F:=Lz (a:=n) (b:=e) (A:=4976640) (B:=144) a1 a2 om g;have G:=Lz (a:=m) (b:=d) (A:=80) (B:=2985984) i p om a3;have H:=Lz (a:=d) (b:=e) (A:=2985984) (B:=144) om a3 om g;omega
 have lim:bdN (k+1)<1000000000/\bdD (k+1)<1000000000:=by
  have:k=0\/k=1\/k=2:=om;rcases this with rfl|rfl|rfl<;>decide
 rcases I with rfl|rfl
 ·refine IU (by decide) (by decide) D E (fun _ _ h=>h.1) (fun _ _ h=>h.1) (pO ?_);intro n d m e y C;obtain⟨⟨c1,q⟩,-,r,s,u⟩:=key n d m e y C;exact Tz r c1 q s u lim.1 lim.2
 ·refine IU (by decide) (by decide) D E (fun _ _ h=>h.1) (fun _ _ h=>h.1) (AM2 ?_);intro n d m e y C;obtain⟨-,⟨c1,q⟩,r,s,u⟩:=key n d m e y C;exact Tz r c1 q s u lim.1 lim.2
def IvF (T:Tn) (k:Nat) (e:Ex):Prop:=Iv T e (BdQ (bdN k) (bdD k))/\Fm T k e
def yL (i:k<3) (d:IvF T k e) (g:IvS T f) (h:o=FL\/o=Jj):IvF T (k+1) (K4 o e f):=⟨AV6 i d.1 g.1 h,.sum d.2 g.2 h⟩
def Aq2 {x:Nat}(h:(x:Int)<3):∃ o,sub ([str [43],str [43],str [45]]:List Value) x 1=some [str o]/\(o=FL\/o=Jj):=by
 have:x=0\/x=1\/x=2:=om;rcases this with rfl|rfl|rfl
 ·exact⟨FL,rfl,.inl rfl⟩
 ·exact⟨FL,rfl,.inl rfl⟩
 ·exact⟨Jj,rfl,.inr rfl⟩
def Iv.congr {U:Tn}(h:∀ s,N4 T s=N4 U s){P:Jc}(hi:Iv T e P):Iv U e P:=by
 induction hi with
 |num h=>exact .num h
 |name k=>refine .name ?_;rw[<- h];exact k
 |op i m _ _ p q r d g=>exact .op i m d g p q r
structure GOk (T:Tn):Prop where
 ok:T.Ok
 sm:T.Sm
 le:T.Le 5
 nm:T.name=[116]
 q1:10<=T.t.q/\T.t.q<=14
 b1:T.t.q+1<=T.t.b/\T.t.b<=T.t.q+5
 g1:T.t.b+1<=T.t.g/\T.t.g<=T.t.b+5
 p1:T.t.g+1<=T.t.p/\T.t.p<=T.t.g+5
 s1:0<=T.t.s/\T.t.s<=9
def FOk.wf (h:FOk j e):WfE 4 e/\Y5 e+1<=2*j:=by
 induction h with
 | @num n d h h0 hd=>
   have g:=h.n2;have m:=h.d1;have i:d<=1000000:=Int.le_of_dvd om (Int.dvd_of_emod_eq_zero hd);exact⟨Gu.2 ⟨by decide,by decide,⟨om,om⟩,⟨om,i⟩,by decide,Ho⟩,by rw[AY,Y9];omega⟩
 | @name nm h=>exact⟨Gu.2 ⟨by decide,om,⟨om,om⟩,⟨om,om⟩,by decide,Ho⟩,by rw[AY,Y9];omega⟩
 | @op o j k a b h1 g hl ha hb iha ihb=>
   exact⟨Gu.2 ⟨hl,by decide,⟨om,om⟩,⟨om,om⟩,by simp,DH.2 ⟨iha.1,DH.2 ⟨ihb.1,Ho⟩⟩⟩,by rw[AY,V0,V0,Y9];have:=iha.2;have:=ihb.2;omega⟩
def SmN.w (h:SmN n):SmW n:=⟨by have:=h.1;omega,by have:=h.2;omega⟩
def GOk.wk (h:GOk T) (i:FOk j T.f) (u:j<=500):WkT 4 1000 100 T :=
 ⟨by rw[h.nm];decide,by have:=h.ok.AG;omega,fun l m=>⟨(h.sm.lot l m).1.w,(h.sm.lot l m).2.w⟩,by have:=h.ok.G7;omega,
  fun c d=>⟨by have:=OP (h.ok.Dn c d).1;omega,by have:=(h.sm.Dn c d).1;omega,(h.sm.Dn c d).2.1.w,(h.sm.Dn c d).2.2.w⟩,
  by have:=h.ok.reqs;omega,fun r g=>⟨by have:=OP (h.ok.req r g).1;omega,(h.ok.req r g).2.1,(h.sm.req r g).w⟩,
  by have:=h.ok.AQ;omega,fun s q=>by have:=OP (h.ok.tie s q);omega,by have:=h.ok.K7;omega,
  fun c d=>⟨by have:=(h.ok.combo c d).1;omega,fun n p=>(h.sm.combo c d n p).w⟩,h.sm.low.w,h.sm.high.w,h.sm.AE.w,h.sm.U6.w,
  ⟨h.sm.tim.1.w,h.sm.tim.2.1.w,h.sm.tim.2.2.1.w,h.sm.tim.2.2.2.1.w,h.sm.tim.2.2.2.2.w⟩,i.wf.1,by have:=i.wf.2;omega⟩
def iP (H0:List Nat) (q3:∀ c∈H0,c<Z.n) (hl:BG (N5 Z H0) v l) (O:l.length<=9223372036854775807):
  Ev (gO 9 [v] Z) (fun r=>∃ cells T Z',r=⟨false,.agg ⟨cells⟩,Z'⟩/\Ext Z Z'/\TnX (N5 Z' H0) cells T/\GOk T/\(∃ j,FOk j T.f/\j<=500)/\iQ T T.f/\SE T) ⟨⟩:=by
 have hv:∃ a n c,v= .slice a n c:=by
  obtain⟨a,c,b,off,cells,h,-⟩:=hl.1.use;exact⟨a,_,c,h⟩
 have l2:J6 v=[v]/\DX v=false:=by obtain⟨a,n,c,rfl⟩:=hv;exact⟨rfl,rfl⟩
 refine C8 Tryz.func9 rfl rfl ?_;refine gU1 (a4N @A6 @D7 (l2.1) (l2.2)) ?_;obtain⟨S0,d0⟩:=nW (((Z.new [str [],.slice none 0 0,.slice none 0 0,.slice none 0 0,.int .i64 0,.int .i64 0,str [],.int .i64 0,.int .i64 0,str [],.slice none 0 0,.slice none 0 0,.int .i64 0,.slice none 0 0,.int .i64 0,.int .i64 0,.int .i64 0,.int .i64 0,.int .i64 0,.int .i64 0] (some 38)).new [v,.int .i64 0]));rw[d0];obtain⟨q,hq⟩:=nW (Z.n+1);rw[hq];have E0:Ext Z S0:=by rw[<- d0];exact eX
 have n0:S0.n=Z.n+2:=by rw[<- d0];rfl
 have Q0:GQ q v l S0:=⟨0,BH _,by rw[<- d0,<- hq];exact cL⟩
 have N:S0.A7 Z.n=some [str [],.slice none 0 0,.slice none 0 0,.slice none 0 0,.int .i64 0,.int .i64 0,str [],.int .i64 0,.int .i64 0,str [],.slice none 0 0,.slice none 0 0,.int .i64 0,.slice none 0 0,.int .i64 0,.int .i64 0,.int .i64 0,.int .i64 0,.int .i64 0,.int .i64 0]:=by rw[<- d0];exact cL
 clear d0;refine(Gg (n:=3) hl O E0 om om Q0 om om).mono ?_;rintro r ⟨a,w7,rfl,ha,Ea,Qa,Xa⟩;have na:=Xa.n;have N:=eT (Xa.A7 om om) N;refine gU1 (aI @A6 @D7) ?_;refine(Gg (n:=200) hl O Ea om om Qa om om).mono ?_;rintro r ⟨b,w9,rfl,hb,Eb,Qb,Xb⟩;have nb:=Xb.n;have N:=eT (Xb.A7 om om) N;refine gU1 (aI @A6 @D7) ?_;refine(Gg (n:=3) hl O Eb om om Qb om om).mono ?_;rintro r ⟨c,g6,rfl,M,Ec,Qc,Xc⟩;have nc:=Xc.n;have N:=eT (Xc.A7 om om) N;obtain⟨lo,l0⟩:=nW (1+(a:Int));obtain⟨bu,hbu⟩:=nW (20+(b:Int));obtain⟨mo,hmo⟩:=nW ((c:Int));obtain⟨p,hp⟩:=nW g6.n;rw[l0,hbu,hmo];refine gU1 (aI @A6 (aI @D7 (aI l0 (aI hbu hmo)))) ?_;obtain⟨S4,hS4⟩:=nW (((g6.new [str [],.slice none 0 0,.slice none 0 0,.slice none 0 0,.int .i64 0,.int .i64 0,str [],.int .i64 0,.int .i64 0,str [],.slice none 0 0,.slice none 0 0,.int .i64 0,.slice none 0 0,.int .i64 0,.int .i64 0,.int .i64 0,.int .i64 0,.int .i64 0,.int .i64 0] (some 38)).upd g6.n [str [116],.slice none 0 0,.slice none 0 0,.slice none 0 0,.int .i64 lo,.int .i64 0,str [],.int .i64 0,.int .i64 0,str [],.slice none 0 0,.slice none 0 0,.int .i64 mo,.slice none 0 0,.int .i64 bu,.int .i64 0,.int .i64 0,.int .i64 0,.int .i64 0,.int .i64 0]));rw[hS4];have E4:Ext g6 S4:=by rw[<- hS4];exact eX
 have n4:S4.n=p+1:=by rw[<- hS4,<- hp];rfl
 have i:S4.A7 p=some [str [116],.slice none 0 0,.slice none 0 0,.slice none 0 0,.int .i64 lo,.int .i64 0,str [],.int .i64 0,.int .i64 0,str [],.slice none 0 0,.slice none 0 0,.int .i64 mo,.slice none 0 0,.int .i64 bu,.int .i64 0,.int .i64 0,.int .i64 0,.int .i64 0,.int .i64 0]:=by rw[<- hS4,<- hp];exact cL
 have N:=eT (E4.A7 om) N;have Q4:=Qc.ext E4 om;have E5:=Ec.trans E4;clear hS4 E4;rw[hp];refine(Gg (n:=5) hl O E5 om om Q4 om om).mono ?_;rintro r ⟨d,l6,rfl,hd,Ed,Qd,Xd⟩;have nd:=Xd.n;have N:=eT (Xd.A7 om om) N;have i:=eT (Xd.A7 om om) i;obtain⟨hi,q9⟩:=nW (lo+1+(d:Int));refine gU1 (aI @A6 (aI @D7 (aI i q9))) ?_;refine Ct.intro (by(repeat first|simp(disch:=omega) only[O4,G6,G9,V6 Xd]|rw[W6 (by kernel_rfl)]);first|done|rfl) ?_;refine gU1 (aI @A6 @D7) ?_;obtain⟨S6,hS6⟩:=nW ((l6.upd p [str [116],.slice none 0 0,.slice none 0 0,.slice none 0 0,.int .i64 lo,.int .i64 hi,str [],.int .i64 0,.int .i64 0,str [],.slice none 0 0,.slice none 0 0,.int .i64 mo,.slice none 0 0,.int .i64 bu,.int .i64 0,.int .i64 0,.int .i64 0,.int .i64 0,.int .i64 0]))
 try rw[hS6]
 have E6:Ext Z S6:=by rw[<- hS6];exact Ed.upd om _
 have n6:S6.n=l6.n:=by rw[<- hS6];rfl
 have i:S6.A7 p=some [str [116],.slice none 0 0,.slice none 0 0,.slice none 0 0,.int .i64 lo,.int .i64 hi,str [],.int .i64 0,.int .i64 0,str [],.slice none 0 0,.slice none 0 0,.int .i64 mo,.slice none 0 0,.int .i64 bu,.int .i64 0,.int .i64 0,.int .i64 0,.int .i64 0,.int .i64 0]:=by rw[<- hS6];exact cL
 have N:S6.A7 Z.n=some [str [],.slice none 0 0,.slice none 0 0,.slice none 0 0,.int .i64 0,.int .i64 0,str [],.int .i64 0,.int .i64 0,str [],.slice none 0 0,.slice none 0 0,.int .i64 0,.slice none 0 0,.int .i64 0,.int .i64 0,.int .i64 0,.int .i64 0,.int .i64 0,.int .i64 0]:=by rw[<- hS6];exact cL1 N
 have Q6:GQ q v l S6:=by rw[<- hS6];exact Qd.x (J9.refl.upd _) om om
 clear hS6;refine(Gg (n:=3) hl O E6 om om Q6 om om).mono ?_;rintro r ⟨e,c4,rfl,he,Ee,Qe,Xe⟩;have ne:=Xe.n;have N:=eT (Xe.A7 om om) N;have i:=eT (Xe.A7 om om) i;obtain⟨nl,r4,w0,w1⟩:∃ nl:Nat,1+(e:Int)=(nl:Int)/\1<=nl/\nl<=3:=⟨e+1,om,om,om⟩
 refine gU1 (aI @A6 (aI @D7 r4)) ?_;have l7:=Qe;have i1:=Ee
 refine G8 nl (fun k m τ=>m.get 6=some (.int .i64 k)/\m.get 2=some (.pointer (some ⟨Z.n,0,none⟩))/\m.get 3=some (.pointer (some ⟨q,0,none⟩))/\m.get 4=some (.pointer (some ⟨p,0,none⟩))/\m.get 5=some (.int .i64 (nl:Nat))/\y8 q p c4 τ/\GQ q v l τ/\∃ (u:Value) (L:List Lot),τ.A7 p=some ([str [116],u,.slice none 0 0,.slice none 0 0,.int .i64 lo,.int .i64 hi,str [],.int .i64 0,.int .i64 0,str [],.slice none 0 0,.slice none 0 0,.int .i64 mo,.slice none 0 0,.int .i64 bu,.int .i64 0,.int .i64 0,.int .i64 0,.int .i64 0,.int .i64 0])/\OL c4.n τ 2 u (L.map Lot.row)/\L.length=k/\∀ x∈L,1<=x.id/\x.id<=3/\0<=x.AE/\x.AE<=100)
  (fun r=>∃ m τ u,∃ L:List Lot,r=⟨.exit 0,m,τ⟩/\m.get 2=some (.pointer (some ⟨Z.n,0,none⟩))/\m.get 3=some (.pointer (some ⟨q,0,none⟩))/\m.get 4=some (.pointer (some ⟨p,0,none⟩))/\m.get 5=some (.int .i64 (nl:Nat))/\y8 q p c4 τ/\GQ q v l τ/\τ.A7 p=some ([str [116],u,.slice none 0 0,.slice none 0 0,.int .i64 lo,.int .i64 hi,str [],.int .i64 0,.int .i64 0,str [],.slice none 0 0,.slice none 0 0,.int .i64 mo,.slice none 0 0,.int .i64 bu,.int .i64 0,.int .i64 0,.int .i64 0,.int .i64 0,.int .i64 0])/\OL c4.n τ 2 u (L.map Lot.row)/\L.length=nl/\∀ x∈L,1<=x.id/\x.id<=3/\0<=x.AE/\x.AE<=100) ?_ ?_ ?_ ?_
 ·exact⟨fR,fR,fR,fR,fR,.refl,l7,.slice none 0 0,[],i,OL.nil,rfl,fun x J=>by cases J⟩
 ·skip
  rintro k m τ hk ⟨gc,D,A,E,B,V,hQ,u,L,i,ho,hL,hP⟩;have M:=M4 hk;have nX:=V.n;have hE:Ext Z τ:=V.ext i1 om om;have rr:=A9 i;have bv:P4 u≠some p:=fun hb=>by have:=(ho.blk hb).1;omega
  simp(maxSteps:=8000000) (disch:=first|exact dS|fail) only[↓bD,bU,reduceMul,reduceEqDiff,reduceAdd,Nat.reduceBEq,reduceIte,Option.isNone_none,A6,Av,Y8,X9,V7,Y0,V8,V9,W0,L7,I4,J5,J3,I5,I6,gc,D,A,E,B,M,rr];refine(Gg (n:=8) hl O hE om om hQ om om).mono ?_;rintro r ⟨x,Z5,rfl,J,Ex,Qx,X⟩;have nx:=X.n;have i:Z5.A7 p=some _:=(X.A7 om om).trans i;have W:=A9 i;have c2:=i;have Q':=Qx;simp(maxSteps:=8000000) (disch:=first|exact dS|fail) only[↓bD,bU,reduceMul,reduceEqDiff,reduceAdd,Nat.reduceBEq,reduceIte,Option.isNone_none,A6,Av,Y8,X9,V7,Y0,V8,V9,W0,L7,I4,J5,J3,I5,I6,gc,D,A,E,B,W];have b0:OL c4.n (Z5.new [.int .i64 (1+(k:Int)),.int .i64 (lo+(x:Int))]) 2 u (L.map Lot.row):=OL.ext (OL.BX ho X om) (.new _ _);have c3:y8 q p c4 (Z5.new [.int .i64 (1+(k:Int)),.int .i64 (lo+(x:Int))]):=(V.trans (.xq X)).trans (.of (Ext.Q3 (.refl _) _));refine Y1 (row:=Lot.row ⟨1+(k:Int),lo+(x:Int)⟩) (fun _ _ _ _=>W8) b0 (K0 nL nL) (C9 (by simp[CL.row,Req.row,Lot.row]) (by simp)) (by rw[z2z];omega) (by simp;omega) ?_;rintro u' Z8 b5 hA -;obtain⟨ua,rfl⟩:=OL.shape b5;have r8:Z8.A7 p=some _:=(F7 (hA.same p (by simp;omega) bv)).trans ((M9 (by first|omega|(simp;omega))).trans c2);have qN:GQ q v l (Z5.new [.int .i64 (1+(k:Int)),.int .i64 (lo+(x:Int))]):=Q'.ext (.new _ _) (by first|omega|(simp;omega));simp(maxSteps:=8000000) (disch:=first|exact dS|fail) only[↓bD,bU,reduceMul,reduceEqDiff,reduceAdd,Nat.reduceBEq,reduceIte,Option.isNone_none,A6,Av,Y8,X9,V7,Y0,V8,V9,W0,L7,I4,J5,J3,I5,I6,D,A,E,B,gc,r8,asx (Ext.refl _),G9,G6,V6 X]
  try refine Ct.intro (by(repeat first|simp(disch:=omega) only[O4,G6,G9,asx (Ext.refl _),V6 X]|rw[W6 (by kernel_rfl)]);first|done|rfl) ?_
  simp(maxSteps:=8000000) (disch:=first|exact dS|fail) only[↓bD,bU,reduceMul,reduceEqDiff,reduceAdd,Nat.reduceBEq,reduceIte,Option.isNone_none,A6,Av,Y8,X9,V7,Y0,V8,V9,W0,L7,I4,J5,J3,I5,I6,D,A,E,B,gc];refine⟨fR,fR1 D,fR1 A,fR1 E,fR1 B,(y8.app hA c3 b0 nL).upd,(qN.app hA b0 (by first|omega|(simp;omega)) om).x (J9.refl.upd _) (by have:=hA.n;simp at this;omega) om,_,L++[⟨1+(k:Int),lo+(x:Int)⟩],cL,?_,by simp[hL],?_⟩
  ·rw[HI];exact OL.upd b5 om
  ·intro x J;rcases EM.1 J with J|J
   ·exact hP x J
   ·rw[JB]at J;subst J;exact⟨by show(1:Int)<=1+(k:Int);omega,by show 1+(k:Int)<=3;omega,by show(0:Int)<=lo+(x:Int);omega,by show lo+(x:Int)<=100;omega⟩
 ·skip
  rintro m τ ⟨gc,D,A,E,B,V,hQ,u,L,i,ho,hL,hP⟩;simp(maxSteps:=8000000) (disch:=first|exact dS|fail) only[↓bD,bU,reduceMul,reduceEqDiff,reduceAdd,Nat.reduceBEq,reduceIte,Option.isNone_none,A6,D7,gc,B];exact⟨_,_,u,L,rfl,fR1 D,fR1 A,fR1 E,fR1 B,V,hQ,i,ho,hL,hP⟩
 rintro r ⟨m,τ8,V1,L1,rfl,D,A,E,B,i8,Q8,i,U,t8,k2⟩;have n8:=i8.n;have E8:Ext Z τ8:=i8.ext i1 om om;have N:τ8.A7 Z.n=some [str [],.slice none 0 0,.slice none 0 0,.slice none 0 0,.int .i64 0,.int .i64 0,str [],.int .i64 0,.int .i64 0,str [],.slice none 0 0,.slice none 0 0,.int .i64 0,.slice none 0 0,.int .i64 0,.int .i64 0,.int .i64 0,.int .i64 0,.int .i64 0,.int .i64 0]:=by rw[i8.A7 om om om];exact N
 obtain⟨t1,d8⟩:=OL.shape U;subst d8;obtain⟨V1,d8⟩:=nW (Value.slice t1 (L1.map Lot.row).length (L1.map Lot.row).length);rw[d8]at i U;refine gU1 (aI @A6 (aI @D7 A)) ?_;obtain⟨S9,hS9⟩:=nW ((τ8.new [str [115,112,101,101,100],str [99,111,109,102,111,114,116],str [119,101,105,103,104,116]]));rw[hS9];have F9:Ext τ8 S9:=by rw[<- hS9];exact eX
 have n9:S9.n=τ8.n+1:=by rw[<- hS9];rfl
 obtain⟨nb,l1⟩:=nW τ8.n;have rn:S9.A7 nb=some [str [115,112,101,101,100],str [99,111,109,102,111,114,116],str [119,101,105,103,104,116]]:=by rw[<- hS9,<- l1];exact cL
 have i:=eT (F9.A7 om) i;have N:=eT (F9.A7 om) N;have Q9:=Q8.ext F9 om;have E9:=E8.trans F9;have U:=OL.ext U F9;clear hS9;refine(Gg (n:=4) hl O E9 om om Q9 om om).mono ?_;rintro r ⟨f,c1,rfl,hf,Ef,Qf,Xf⟩;have nf:=Xf.n;have N:=eT (Xf.A7 om om) N;have i:=eT (Xf.A7 om om) i;have rn:=eT (Xf.A7 om om) rn;have U:=OL.BX U Xf om;have v0:∀ b,P4 V1=some b->b<c1.n:=fun b hb=>(U.blk hb).2;refine gU1 (aI @A6 (aI @D7 l1)) ?_;have l9:=Qf;have i2:=Ef
 refine G8 f (fun k m τ=>m.get 9=some (.int .i64 k)/\m.get 2=some (.pointer (some ⟨Z.n,0,none⟩))/\m.get 3=some (.pointer (some ⟨q,0,none⟩))/\m.get 4=some (.pointer (some ⟨p,0,none⟩))/\m.get 5=some (.int .i64 (nl:Nat))/\m.get 7=some (.slice (some ⟨nb,0,none⟩) 3 3)/\m.get 8=some (.int .i64 (f:Nat))/\y8 q p c1 τ/\GQ q v l τ/\∃ (u:Value) (L:List CL),τ.A7 p=some ([str [116],V1,u,.slice none 0 0,.int .i64 lo,.int .i64 hi,str [],.int .i64 0,.int .i64 0,str [],.slice none 0 0,.slice none 0 0,.int .i64 mo,.slice none 0 0,.int .i64 bu,.int .i64 0,.int .i64 0,.int .i64 0,.int .i64 0,.int .i64 0])/\OL c1.n τ 5 u (L.map CL.row)/\L.length=k/\∀ x∈L,x.name∈gn/\(x.kind=1\/x.kind=2)/\0<=x.low/\x.low<=4/\0<=x.high/\x.high<=4/\x.low<=x.high)
  (fun r=>∃ m τ u,∃ L:List CL,r=⟨.exit 2,m,τ⟩/\m.get 2=some (.pointer (some ⟨Z.n,0,none⟩))/\m.get 3=some (.pointer (some ⟨q,0,none⟩))/\m.get 4=some (.pointer (some ⟨p,0,none⟩))/\m.get 5=some (.int .i64 (nl:Nat))/\m.get 7=some (.slice (some ⟨nb,0,none⟩) 3 3)/\m.get 8=some (.int .i64 (f:Nat))/\y8 q p c1 τ/\GQ q v l τ/\τ.A7 p=some ([str [116],V1,u,.slice none 0 0,.int .i64 lo,.int .i64 hi,str [],.int .i64 0,.int .i64 0,str [],.slice none 0 0,.slice none 0 0,.int .i64 mo,.slice none 0 0,.int .i64 bu,.int .i64 0,.int .i64 0,.int .i64 0,.int .i64 0,.int .i64 0])/\OL c1.n τ 5 u (L.map CL.row)/\L.length=f/\∀ x∈L,x.name∈gn/\(x.kind=1\/x.kind=2)/\0<=x.low/\x.low<=4/\0<=x.high/\x.high<=4/\x.low<=x.high) ?_ ?_ ?_ ?_
 ·exact⟨fR,fR1 D,fR1 A,fR1 E,fR1 B,fR,fR,.refl,l9,.slice none 0 0,[],i,OL.nil,rfl,fun x J=>by cases J⟩
 ·clear D A E B m;rintro k m τ hk ⟨gc,D,A,E,B,I,G,V,hQ,u,L,i,ho,hL,hP⟩;have M:=M4 hk;have nX:=V.n;have hE:Ext Z τ:=V.ext i2 om om;have rr:=A9 i;have bv:P4 u≠some p:=fun hb=>by have:=(ho.blk hb).1;omega
  have c0:τ.row nb=some [str [115,112,101,101,100],str [99,111,109,102,111,114,116],str [119,101,105,103,104,116]]:=A9 (by rw[V.A7 om om om];exact rn);obtain⟨nm,e2,d9⟩:=qe (show k<3 by omega);simp(maxSteps:=8000000) (disch:=first|exact dS|fail) only[↓bD,bU,reduceMul,reduceEqDiff,reduceAdd,Nat.reduceBEq,reduceIte,Option.isNone_none,A6,Av,W8,X9,V7,Y0,V8,V9,W0,L7,I4,J5,J3,I5,I6,gc,D,A,E,B,I,G,M];refine(Gg (n:=2) hl O hE om om hQ om om).mono ?_;rintro r ⟨x,Z3,rfl,J,Ex,Qx,X⟩;have nx:=X.n;have i:Z3.A7 p=some _:=(X.A7 om om).trans i;have W:=A9 i;have c0:=eT (X.row om om) c0;simp(maxSteps:=8000000) (disch:=first|exact dS|fail) only[↓bD,bU,reduceMul,reduceEqDiff,reduceAdd,Nat.reduceBEq,reduceIte,Option.isNone_none,A6,Av,W8,X9,V7,Y0,V8,V9,W0,L7,I4,J5,J3,I5,I6,gc,D,A,E,B,I,G,W,c0,e2];refine(Gg (n:=2) hl O Ex om om Qx om om).mono ?_;rintro r ⟨y,Z4,rfl,hy,Ey,Qy,Xy⟩;have ny:=Xy.n;have i:Z4.A7 p=some _:=(Xy.A7 om om).trans i;have W:=A9 i;simp(maxSteps:=8000000) (disch:=first|exact dS|fail) only[↓bD,bU,reduceMul,reduceEqDiff,reduceAdd,Nat.reduceBEq,reduceIte,Option.isNone_none,A6,Av,W8,X9,V7,Y0,V8,V9,W0,L7,I4,J5,J3,I5,I6,gc,D,A,E,B,I,G];refine(Gg (n:=4) hl O Ey om om Qy om om).mono ?_;rintro r ⟨z,Z5,rfl,hz,Ez,Qz,Xz⟩;have nz:=Xz.n;have i:Z5.A7 p=some _:=(Xz.A7 om om).trans i;have W:=A9 i;simp(maxSteps:=8000000) (disch:=first|exact dS|fail) only[↓bD,bU,reduceMul,reduceEqDiff,reduceAdd,Nat.reduceBEq,reduceIte,Option.isNone_none,A6,Av,W8,X9,V7,Y0,V8,V9,W0,L7,I4,J5,J3,I5,I6,gc,D,A,E,B,I,G];refine(Gg (n:=3) hl O Ez om om Qz om om).mono ?_;rintro r ⟨w,Z6,rfl,hw,Ew,Qw,Xw⟩;have nw:=Xw.n;have i:Z6.A7 p=some _:=(Xw.A7 om om).trans i;have W:=A9 i;have c2:=i;have Q':=Qw;simp(maxSteps:=8000000) (disch:=first|exact dS|fail) only[↓bD,bU,reduceMul,reduceEqDiff,reduceAdd,Nat.reduceBEq,reduceIte,Option.isNone_none,A6,Av,W8,X9,V7,Y0,V8,V9,W0,L7,I4,J5,J3,I5,I6,gc,D,A,E,B,I,G,W];have b0:OL c1.n (Z6.new [str nm,.int .i64 (1+(y:Int)),.int .i64 (x:Int),.int .i64 ((x:Int)+(z:Int)),.bool (decide ((w:Int)=0))]) 5 u (L.map CL.row):=OL.ext (OL.BX (OL.BX (OL.BX (OL.BX ho X om) Xy om) Xz om) Xw om) (.new _ _);have c3:y8 q p c1 (Z6.new [str nm,.int .i64 (1+(y:Int)),.int .i64 (x:Int),.int .i64 ((x:Int)+(z:Int)),.bool (decide ((w:Int)=0))]):=((((V.trans (.xq X)).trans (.xq Xy)).trans (.xq Xz)).trans (.xq Xw)).trans (.of (Ext.Q3 (.refl _) _));refine Y1 (row:=CL.row ⟨nm,1+(y:Int),(x:Int),(x:Int)+(z:Int),decide ((w:Int)=0)⟩) (fun _ _ _ _=>Y8) b0 (K0 nL nL) (C9 (by simp[CL.row,Req.row,Lot.row]) (by simp)) (by rw[z2z];omega) (by simp;omega) ?_;rintro u' Z8 b5 hA -;obtain⟨ua,rfl⟩:=OL.shape b5;have r8:Z8.A7 p=some _:=(F7 (hA.same p (by simp;omega) bv)).trans ((M9 (by first|omega|(simp;omega))).trans c2);have qN:GQ q v l (Z6.new [str nm,.int .i64 (1+(y:Int)),.int .i64 (x:Int),.int .i64 ((x:Int)+(z:Int)),.bool (decide ((w:Int)=0))]):=Q'.ext (.new _ _) (by first|omega|(simp;omega));simp(maxSteps:=8000000) (disch:=first|exact dS|fail) only[↓bD,bU,reduceMul,reduceEqDiff,reduceAdd,Nat.reduceBEq,reduceIte,Option.isNone_none,A6,Av,W8,X9,V7,Y0,V8,V9,W0,L7,I4,J5,J3,I5,I6,D,A,E,B,I,G,gc,r8,asx (Ext.refl _),G9,G6,V6 X,V6 Xy,V6 Xz,V6 Xw]
  try refine Ct.intro (by(repeat first|simp(disch:=omega) only[O4,G6,G9,asx (Ext.refl _),V6 X,V6 Xy,V6 Xz,V6 Xw]|rw[W6 (by kernel_rfl)]);first|done|rfl) ?_
  simp(maxSteps:=8000000) (disch:=first|exact dS|fail) only[↓bD,bU,reduceMul,reduceEqDiff,reduceAdd,Nat.reduceBEq,reduceIte,Option.isNone_none,A6,Av,W8,X9,V7,Y0,V8,V9,W0,L7,I4,J5,J3,I5,I6,D,A,E,B,I,G,gc];refine⟨fR,fR1 D,fR1 A,fR1 E,fR1 B,fR1 I,fR1 G,(y8.app hA c3 b0 nL).upd,(qN.app hA b0 (by first|omega|(simp;omega)) om).x (J9.refl.upd _) (by have:=hA.n;simp at this;omega) om,_,L++[⟨nm,1+(y:Int),(x:Int),(x:Int)+(z:Int),decide ((w:Int)=0)⟩],cL,?_,by simp[hL],?_⟩
  ·rw[HI];exact OL.upd b5 om
  ·intro x J;rcases EM.1 J with J|J
   ·exact hP x J
   ·rw[JB]at J;subst J;exact⟨d9,by show 1+(y:Int)=1\/1+(y:Int)=2;omega,by show(0:Int)<=(x:Int);omega,by show(x:Int)<=4;omega,by show(0:Int)<=(x:Int)+(z:Int);omega,by show(x:Int)+(z:Int)<=4;omega,by show(x:Int)<=(x:Int)+(z:Int);omega⟩
 ·clear D A E B m;rintro m τ ⟨gc,D,A,E,B,I,G,V,hQ,u,L,i,ho,hL,hP⟩;simp(maxSteps:=8000000) (disch:=first|exact dS|fail) only[↓bD,bU,reduceMul,reduceEqDiff,reduceAdd,Nat.reduceBEq,reduceIte,Option.isNone_none,A6,D7,gc,G];exact⟨_,_,u,L,rfl,fR1 D,fR1 A,fR1 E,fR1 B,fR1 I,fR1 G,V,hQ,i,ho,hL,hP⟩
 rintro r ⟨m,τ10,V2,L2,rfl,D,A,E,B,I,G,qh,o6,i,Y,q4,c7⟩;have v1:=qh.n;have m8:Ext Z τ10:=qh.ext i2 om om;have N:τ10.A7 Z.n=some [str [],.slice none 0 0,.slice none 0 0,.slice none 0 0,.int .i64 0,.int .i64 0,str [],.int .i64 0,.int .i64 0,str [],.slice none 0 0,.slice none 0 0,.int .i64 0,.slice none 0 0,.int .i64 0,.int .i64 0,.int .i64 0,.int .i64 0,.int .i64 0,.int .i64 0]:=by rw[qh.A7 om om om];exact N
 have rn:τ10.A7 nb=some [str [115,112,101,101,100],str [99,111,109,102,111,114,116],str [119,101,105,103,104,116]]:=by rw[qh.A7 om om om];exact rn
 have U:=OL.Ei U qh om om;obtain⟨K,k5⟩:∃ a,V2= .slice a f f:=by
  obtain⟨a,h⟩:=OL.shape Y;exact⟨a,by rw[h];simp[q4]⟩
 subst k5;refine gU1 (aI @A6 @D7) ?_;have j2:=o6;have e7:=m8
 refine G8 f (fun k m τ=>m.get 11=some (.int .i64 k)/\m.get 2=some (.pointer (some ⟨Z.n,0,none⟩))/\m.get 3=some (.pointer (some ⟨q,0,none⟩))/\m.get 4=some (.pointer (some ⟨p,0,none⟩))/\m.get 5=some (.int .i64 (nl:Nat))/\m.get 7=some (.slice (some ⟨nb,0,none⟩) 3 3)/\m.get 8=some (.int .i64 (f:Nat))/\y8 q p τ10 τ/\GQ q v l τ/\∃ (u:Value) (L:List Req),τ.A7 p=some ([str [116],V1,(.slice K f f),u,.int .i64 lo,.int .i64 hi,str [],.int .i64 0,.int .i64 0,str [],.slice none 0 0,.slice none 0 0,.int .i64 mo,.slice none 0 0,.int .i64 bu,.int .i64 0,.int .i64 0,.int .i64 0,.int .i64 0,.int .i64 0])/\OL τ10.n τ 3 u (L.map Req.row)/\L.length<=k/\∀ x∈L,x.name∈gn/\x.rel.length<=2/\0<=x.value/\x.value<=3)
  (fun r=>∃ m τ u,∃ L:List Req,r=⟨.exit 4,m,τ⟩/\m.get 2=some (.pointer (some ⟨Z.n,0,none⟩))/\m.get 3=some (.pointer (some ⟨q,0,none⟩))/\m.get 4=some (.pointer (some ⟨p,0,none⟩))/\m.get 5=some (.int .i64 (nl:Nat))/\m.get 7=some (.slice (some ⟨nb,0,none⟩) 3 3)/\m.get 8=some (.int .i64 (f:Nat))/\y8 q p τ10 τ/\GQ q v l τ/\τ.A7 p=some ([str [116],V1,(.slice K f f),u,.int .i64 lo,.int .i64 hi,str [],.int .i64 0,.int .i64 0,str [],.slice none 0 0,.slice none 0 0,.int .i64 mo,.slice none 0 0,.int .i64 bu,.int .i64 0,.int .i64 0,.int .i64 0,.int .i64 0,.int .i64 0])/\OL τ10.n τ 3 u (L.map Req.row)/\L.length<=f/\∀ x∈L,x.name∈gn/\x.rel.length<=2/\0<=x.value/\x.value<=3) ?_ ?_ ?_ ?_
 ·exact⟨fR,fR1 D,fR1 A,fR1 E,fR1 B,fR1 I,fR1 G,.refl,j2,.slice none 0 0,[],i,OL.nil,by simp,fun x J=>by cases J⟩
 ·clear D A E B I G m;rintro k m τ hk ⟨gc,D,A,E,B,I,G,V,hQ,u,L,i,ho,hL,hP⟩;have M:=M4 hk;have nX:=V.n;have hE:Ext Z τ:=V.ext e7 om om;have rr:=A9 i;have bv:P4 u≠some p:=fun hb=>by have:=(ho.blk hb).1;omega
  have c0:τ.row nb=some [str [115,112,101,101,100],str [99,111,109,102,111,114,116],str [119,101,105,103,104,116]]:=A9 (by rw[V.A7 om om om];exact rn);obtain⟨nm,e2,d9⟩:=qe (show k<3 by omega);have i3:=OL.Ei Y V om om;obtain⟨aa,cc,cb,co,ccs,hV,d1,d2⟩:=(show PQ τ _ L2 from i3.sl).use;injection hV with d8 k5 hV3;subst d8;obtain⟨sp,rfl,e3,e4⟩:=d1 om;obtain⟨cr,hcr⟩:=I1 (show k<L2.length by omega);obtain⟨-,-,e5,-⟩:=d2 k cr hcr;cases qk:decide (cr.kind=2)with
  | false=>
    simp(maxSteps:=8000000) (disch:=first|exact dS|fail) only[↓bD,bU,reduceMul,reduceEqDiff,reduceAdd,Nat.reduceBEq,reduceIte,Option.isNone_none,A6,D7,gc,D,A,E,B,I,G,M,rr,e4,e5,qk,D6,D8];exact⟨fR,fR1 D,fR1 A,fR1 E,fR1 B,fR1 I,fR1 G,V,hQ,u,L,i,ho,om,hP⟩
  |true=>
  simp(maxSteps:=8000000) (disch:=first|exact dS|fail) only[↓bD,bU,reduceMul,reduceEqDiff,reduceAdd,Nat.reduceBEq,reduceIte,Option.isNone_none,A6,D7,gc,D,A,E,B,I,G,M,rr,e4,e5,qk,D6,D8];refine(Gg (n:=3) hl O hE om om hQ om om).mono ?_;rintro r ⟨x,Z3,rfl,J,Ex,Qx,X⟩;have nx:=X.n;have i:Z3.A7 p=some _:=(X.A7 om om).trans i;have W:=A9 i;cases qx:decide ((x:Int)=0)with
  | false=>
    simp(maxSteps:=8000000) (disch:=first|exact dS|fail) only[↓bD,bU,reduceMul,reduceEqDiff,reduceAdd,Nat.reduceBEq,reduceIte,Option.isNone_none,A6,D7,gc,qx,D6,D8];exact⟨fR,fR1 D,fR1 A,fR1 E,fR1 B,fR1 I,fR1 G,V.trans (.xq X),Qx,u,L,i,OL.BX ho X om,om,hP⟩
  |true=>
  have c0:=eT (X.row om om) c0;simp(maxSteps:=8000000) (disch:=first|exact dS|fail) only[↓bD,bU,reduceMul,reduceEqDiff,reduceAdd,Nat.reduceBEq,reduceIte,Option.isNone_none,A6,Av,W8,Y8,V7,Y0,V8,V9,W0,L7,I4,J5,J3,I5,I6,gc,D,A,E,B,I,G,qx,W,c0,e2,D6,D8];have t0:(Z3.new [str [60,61],str [62,61]]).A7 p=some _:=(M9 om).trans i;have i:=t0;refine(Gg (n:=2) hl O (Ex.trans (.new _ _)) om (by simp;omega) (Qx.ext (.new _ _) om) om om).mono ?_;rintro r ⟨y,Z4,rfl,hy,Ey,Qy,Xy⟩;have ny:=Xy.n;simp only[G3]at ny;have i:Z4.A7 p=some _:=(Xy.A7 (by simp;omega) om).trans i;have W:=A9 i;have m0:Z4.row Z3.n=some [str [60,61],str [62,61]]:=eT (Xy.row (by simp) om) cL;obtain⟨rl,r6,m4⟩:∃ rl:By,sub [str [60,61],str [62,61]] y 1=some [str rl]/\rl.length<=2:=by
   rcases(by omega:y=0\/y=1)with rfl|rfl<;>exact⟨_,rfl,by decide⟩
  simp(maxSteps:=8000000) (disch:=first|exact dS|fail) only[↓bD,bU,reduceMul,reduceEqDiff,reduceAdd,Nat.reduceBEq,reduceIte,Option.isNone_none,A6,Av,W8,Y8,V7,Y0,V8,V9,W0,L7,I4,J5,J3,I5,I6,gc,D,A,E,B,I,G,m0,r6];refine(Gg (n:=4) hl O Ey om om Qy om om).mono ?_;rintro r ⟨z,Z5,rfl,hz,Ez,Qz,Xz⟩;have nz:=Xz.n;have i:Z5.A7 p=some _:=(Xz.A7 om om).trans i;have W:=A9 i;have c2:=i;have Q':=Qz;have Xn:J9 q Z3 (Z3.new [str [60,61],str [62,61]]):= .of (.new _ _);simp(maxSteps:=8000000) (disch:=first|exact dS|fail) only[↓bD,bU,reduceMul,reduceEqDiff,reduceAdd,Nat.reduceBEq,reduceIte,Option.isNone_none,A6,Av,W8,Y8,V7,Y0,V8,V9,W0,L7,I4,J5,J3,I5,I6,gc,D,A,E,B,I,G,W];have b0:OL τ10.n (Z5.new [str nm,str rl,.int .i64 (z:Int)]) 3 u (L.map Req.row):=OL.ext (OL.BX (OL.BX (OL.BX (OL.BX ho X om) Xn om) Xy om) Xz om) (.new _ _);have c3:y8 q p τ10 (Z5.new [str nm,str rl,.int .i64 (z:Int)]):=((((V.trans (.xq X)).trans (.xq Xn)).trans (.xq Xy)).trans (.xq Xz)).trans (.of (Ext.Q3 (.refl _) _));refine Y1 (row:=Req.row ⟨nm,rl,(z:Int)⟩) (fun _ _ _ _=>X9) b0 (K0 nL nL) (C9 (by simp[CL.row,Req.row,Lot.row]) (by simp)) (by rw[z2z];omega) (by simp;omega) ?_;rintro u' Z8 b5 hA -;obtain⟨ua,rfl⟩:=OL.shape b5;have r8:Z8.A7 p=some _:=(F7 (hA.same p (by simp;omega) bv)).trans ((M9 (by first|omega|(simp;omega))).trans c2);have qN:GQ q v l (Z5.new [str nm,str rl,.int .i64 (z:Int)]):=Q'.ext (.new _ _) (by first|omega|(simp;omega));simp(maxSteps:=8000000) (disch:=first|exact dS|fail) only[↓bD,bU,reduceMul,reduceEqDiff,reduceAdd,Nat.reduceBEq,reduceIte,Option.isNone_none,A6,Av,W8,Y8,V7,Y0,V8,V9,W0,L7,I4,J5,J3,I5,I6,D,A,E,B,I,G,gc,r8,asx (Ext.refl _),G9,G6,V6 Xy,V6 Xz]
  try refine Ct.intro (by(repeat first|simp(disch:=omega) only[O4,G6,G9,asx (Ext.refl _),V6 Xy,V6 Xz]|rw[W6 (by kernel_rfl)]);first|done|rfl) ?_
  simp(maxSteps:=8000000) (disch:=first|exact dS|fail) only[↓bD,bU,reduceMul,reduceEqDiff,reduceAdd,Nat.reduceBEq,reduceIte,Option.isNone_none,A6,Av,W8,Y8,V7,Y0,V8,V9,W0,L7,I4,J5,J3,I5,I6,D,A,E,B,I,G,gc];refine⟨fR,fR1 D,fR1 A,fR1 E,fR1 B,fR1 I,fR1 G,(y8.app hA c3 b0 nL).upd,(qN.app hA b0 (by first|omega|(simp;omega)) om).x (J9.refl.upd _) (by have:=hA.n;simp at this;omega) om,_,L++[⟨nm,rl,(z:Int)⟩],cL,?_,by simp only[CU,Ap,Jg];omega,?_⟩
  ·rw[HI];exact OL.upd b5 om
  ·intro x J;rcases EM.1 J with J|J
   ·exact hP x J
   ·rw[JB]at J;subst J;exact⟨d9,m4,by show(0:Int)<=(z:Int);omega,by show(z:Int)<=3;omega⟩
 ·clear D A E B I G m;rintro m τ ⟨gc,D,A,E,B,I,G,V,hQ,u,L,i,ho,hL,hP⟩;simp(maxSteps:=8000000) (disch:=first|exact dS|fail) only[↓bD,bU,reduceMul,reduceEqDiff,reduceAdd,Nat.reduceBEq,reduceIte,Option.isNone_none,A6,D7,gc,G];exact⟨_,_,u,L,rfl,fR1 D,fR1 A,fR1 E,fR1 B,fR1 I,fR1 G,V,hQ,i,ho,hL,hP⟩
 rintro r ⟨m,τ11,V3,L3,rfl,D,A,E,B,I,G,lN,o8,i,b6,t9,k3⟩;have v2:=lN.n;have j3:Ext Z τ11:=lN.ext e7 om om;have N:τ11.A7 Z.n=some [str [],.slice none 0 0,.slice none 0 0,.slice none 0 0,.int .i64 0,.int .i64 0,str [],.int .i64 0,.int .i64 0,str [],.slice none 0 0,.slice none 0 0,.int .i64 0,.slice none 0 0,.int .i64 0,.int .i64 0,.int .i64 0,.int .i64 0,.int .i64 0,.int .i64 0]:=by rw[lN.A7 om om om];exact N
 have rn:τ11.A7 nb=some [str [115,112,101,101,100],str [99,111,109,102,111,114,116],str [119,101,105,103,104,116]]:=by rw[lN.A7 om om om];exact rn
 have U:=OL.Ei U lN om om;have Y:=OL.Ei Y lN om om;obtain⟨H,c9⟩:=nW ((Z.n::q::p::H0));have k0:∀ c∈H,Z.n<=c\/c∈H0:=by
  intro c M;rw[<- c9]at M;simp only[W1]at M;rcases M with rfl|rfl|rfl|h<;>first|(left;omega)|exact .inr h
 have b9:∀ c∈H,c<p+1:=fun c M=>by
  rw[<- c9]at M;simp only[W1]at M;rcases M with rfl|rfl|rfl|h<;>first|omega|(have:=q3 c h;omega)
 have c6:q∈H:=by rw[<- c9];simp
 have d3:p∈H:=by rw[<- c9];simp
 obtain⟨T0,f6⟩:∃ T:Tn,T=⟨[],[],L2,[],lo,hi,DS 0 0,[],0,[],0,⟨0,0,0,0,0⟩⟩:=⟨_,rfl⟩
 have e6:T0.G7=L2:=by rw[f6]
 have hR:Rng T0:=by
  rw[f6]
  exact⟨by show 1<=lo;omega,by show lo<=3;omega,by show lo+1<=hi;omega,by show hi<=lo+5;omega,fun c M=>by
   obtain⟨a1,a2,a3,a4,a5,a6,a7⟩:=c7 c M;obtain⟨b1,b2,b3,b4⟩:=ZG c.name a1;exact⟨b2,b3,b4,a3,a4,a5,a6⟩⟩
 have j6:∀ τ,OL c1.n τ 5 (.slice K f f) (L2.map CL.row)->PQ (N5 τ H) (.slice K f f) T0.G7:=fun τ h=>by
  rw[e6];exact(OL.N5 h (fun c M=>by have:=b9 c M;omega)).sl
 have rr:=A9 i;refine gU1 (aI @A6 (aI @D7 (aI D (aI A (aI E (aI B (aI I (aI G rr)))))))) ?_;refine(iR (T:=T0) (vc:= .slice K f f) H (fun c M=>by have:=b9 c M;omega) (ZH hl O j3 k0 om o8 c6) rfl rfl (j6 _ Y) (by rw[e6];omega) hR (fun c M=>(c7 c (e6 ▸ M)).1)).mono ?_;rintro r ⟨row,e0,j0,τ12,rfl,m5,c5,d4,q7,u2,k6⟩;have v3:=c5.n;obtain⟨x1,x2,x3,x4,x5,rfl⟩:=dZ d4.len;have i6:GQ q v l τ12:=by obtain⟨k,r1,r2,r3⟩:=m5.UJ;exact⟨k,r3,r1⟩
 have i4:Ext Z τ12:=c5.ext j3 om;have i:=eT (c5.A7 om om) i;have rn:=eT (c5.A7 om om) rn;have N:=eT (c5.A7 om om) N;have U:=OL.BX U c5 om;have Y:=OL.BX Y c5 om;have b6:=OL.BX b6 c5 om;refine gU1 (aI @D7 (aI @gs2 (aI @CZ (aI @Ca (aI @gw1 (aI @gw2 (aI @gw3 (aI @gw5 (aI @gw6 (aI @Cb (aI @Cc (aI @Cd (aI @Ce (aI @Cf (aI @Cg (aI @Ch (aI i (aI D (aI A (aI E (aI B (aI I G)))))))))))))))))))))) ?_;obtain⟨S12,QJ⟩:=nW ((τ12.upd p ([str [116],V1,(.slice K f f),V3,.int .i64 lo,.int .i64 hi,x1,x2,x3,x4,x5,.slice none 0 0,.int .i64 mo,.slice none 0 0,.int .i64 bu,.int .i64 0,.int .i64 0,.int .i64 0,.int .i64 0,.int .i64 0])))
 try rw[QJ]
 have t4:S12.n=τ12.n:=by rw[<- QJ];rfl
 have i4:Ext Z S12:=by rw[<- QJ];exact i4.upd om _
 have i:S12.A7 p=some ([str [116],V1,(.slice K f f),V3,.int .i64 lo,.int .i64 hi,x1,x2,x3,x4,x5,.slice none 0 0,.int .i64 mo,.slice none 0 0,.int .i64 bu,.int .i64 0,.int .i64 0,.int .i64 0,.int .i64 0,.int .i64 0]):=by rw[<- QJ];exact cL
 have rn:S12.A7 nb=some [str [115,112,101,101,100],str [99,111,109,102,111,114,116],str [119,101,105,103,104,116]]:=by rw[<- QJ,K9 om];exact rn
 have N:S12.A7 Z.n=some [str [],.slice none 0 0,.slice none 0 0,.slice none 0 0,.int .i64 0,.int .i64 0,str [],.int .i64 0,.int .i64 0,str [],.slice none 0 0,.slice none 0 0,.int .i64 0,.slice none 0 0,.int .i64 0,.int .i64 0,.int .i64 0,.int .i64 0,.int .i64 0,.int .i64 0]:=by rw[<- QJ,K9 om];exact N
 have i6:GQ q v l S12:=by rw[<- QJ];exact i6.x (J9.refl.upd _) om om
 have U:OL c4.n S12 2 V1 (L1.map Lot.row):=by rw[<- QJ];exact OL.upd U om
 have Y:OL c1.n S12 5 (.slice K f f) (L2.map CL.row):=by rw[<- QJ];exact OL.upd Y om
 have b6:OL τ10.n S12 3 V3 (L3.map Req.row):=by rw[<- QJ];exact OL.upd b6 om
 have d4:P8 (N5 S12 H) [x1,x2,x3,x4,x5] e0:=by rw[<- QJ];exact d4.I2 ((J9.refl.upd _).NI d3)
 clear QJ;refine(Gg (n:=4) hl O i4 om om i6 om om).mono ?_;rintro r ⟨g,e8,rfl,hg,Eg,Qg,Xg⟩;have ng:=Xg.n;have N:=eT (Xg.A7 om om) N;have i:=eT (Xg.A7 om om) i;have rn:=eT (Xg.A7 om om) rn;have U:=OL.BX U Xg om;have Y:=OL.BX Y Xg om;have b6:=OL.BX b6 Xg om;have d4:=d4.I2 (Xg.NI c6);refine gU1 (a16N @D7 @gs2 @CZ @Ca @gw1 @gw2 @gw3 @gw5 @gw6 @Cb @Cc @Cd @Ce @Cf @Cg @Ch) ?_
 refine G8 g (fun k m τ=>m.get 13=some (.int .i64 k)/\m.get 2=some (.pointer (some ⟨Z.n,0,none⟩))/\m.get 3=some (.pointer (some ⟨q,0,none⟩))/\m.get 4=some (.pointer (some ⟨p,0,none⟩))/\m.get 5=some (.int .i64 (nl:Nat))/\m.get 7=some (.slice (some ⟨nb,0,none⟩) 3 3)/\m.get 8=some (.int .i64 (f:Nat))/\m.get 12=some (.int .i64 (g:Nat))/\y8 q p e8 τ/\GQ q v l τ/\∃ x1 x2 x3 x4 x5 e j,τ.A7 p=some ([str [116],V1,(.slice K f f),V3,.int .i64 lo,.int .i64 hi,x1,x2,x3,x4,x5,.slice none 0 0,.int .i64 mo,.slice none 0 0,.int .i64 bu,.int .i64 0,.int .i64 0,.int .i64 0,.int .i64 0,.int .i64 0])/\P8 (N5 τ H) [x1,x2,x3,x4,x5] e/\FOk j e/\j<=5*(k+1)/\IvF T0 k e)
  (fun r=>∃ m τ,r=⟨.exit 6,m,τ⟩/\m.get 2=some (.pointer (some ⟨Z.n,0,none⟩))/\m.get 3=some (.pointer (some ⟨q,0,none⟩))/\m.get 4=some (.pointer (some ⟨p,0,none⟩))/\m.get 5=some (.int .i64 (nl:Nat))/\m.get 7=some (.slice (some ⟨nb,0,none⟩) 3 3)/\m.get 8=some (.int .i64 (f:Nat))/\m.get 12=some (.int .i64 (g:Nat))/\y8 q p e8 τ/\GQ q v l τ/\∃ x1 x2 x3 x4 x5 e j,τ.A7 p=some ([str [116],V1,(.slice K f f),V3,.int .i64 lo,.int .i64 hi,x1,x2,x3,x4,x5,.slice none 0 0,.int .i64 mo,.slice none 0 0,.int .i64 bu,.int .i64 0,.int .i64 0,.int .i64 0,.int .i64 0,.int .i64 0])/\P8 (N5 τ H) [x1,x2,x3,x4,x5] e/\FOk j e/\j<=5*(g+1)/\IvF T0 g e) ?_ ?_ ?_ ?_
 ·exact⟨fR,fR1 D,fR1 A,fR1 E,fR1 B,fR1 I,fR1 G,fR,.refl,Qg,x1,x2,x3,x4,x5,e0,j0,i,d4,q7,om,⟨k6.1,.one k6.2⟩⟩
 ·clear D A E B I G m;rintro k m τ hk ⟨gc,D,A,E,B,I,G,b8,V,hQ,x1,x2,x3,x4,x5,e,j,i,J,hf,hj,hi⟩;have M:=M4 hk;have nX:=V.n;have hE:Ext Z τ:=V.ext Eg om om;have rr:=A9 i;simp(maxSteps:=8000000) (disch:=first|exact dS|fail) only[↓bD,bU,reduceMul,reduceEqDiff,reduceAdd,Nat.reduceBEq,reduceIte,Option.isNone_none,D7,gs2,CZ,Ca,gw1,gw2,gw3,gw5,gw6,Cb,Cc,Cd,Ce,Cf,Cg,Ch,gc,D,A,E,B,I,G,b8,M];have i:(τ.new [str [43],str [43],str [45]]).A7 p=some _:=(M9 om).trans i;refine(Gg (n:=3) hl O (hE.trans (.new _ _)) om (by simp;omega) (hQ.ext (.new _ _) om) om om).mono ?_;rintro r ⟨y,Z4,rfl,hy,Ey,Qy,Xy⟩;have ny:=Xy.n;simp only[G3]at ny;have i:Z4.A7 p=some _:=(Xy.A7 (by simp;omega) om).trans i;have W:=A9 i;have ro:Z4.row τ.n=some [str [43],str [43],str [45]]:=eT (Xy.row (by simp) om) cL;obtain⟨oo,r5,ho⟩:=Aq2 hy;have J:=(J.I2 (I9 (Ext.new τ _))).I2 (Xy.NI c6);have k1:y8 q p e8 Z4:=V.trans ((y8.of (.new _ _)).trans (.xq Xy));have i3:=OL.Ei Y k1 om om;simp(maxSteps:=8000000) (disch:=first|exact dS|fail) only[↓bD,bU,reduceMul,reduceEqDiff,reduceAdd,Nat.reduceBEq,reduceIte,Option.isNone_none,D7,gs2,CZ,Ca,gw1,gw2,gw3,gw5,gw6,Cb,Cc,Cd,Ce,Cf,Cg,Ch,gc,D,A,E,B,I,G,b8,ro,r5,W];refine(iR (T:=T0) (vc:= .slice K f f) H (fun c M=>by have:=b9 c M;omega) (ZH hl O Ey k0 om Qy c6) rfl rfl (j6 _ i3) (by rw[e6];omega) hR (fun c M=>(c7 c (e6 ▸ M)).1)).mono ?_;rintro r ⟨row,e1,j1,Z5,rfl,q5,X5,s7,q8,u3,r0⟩;have n5:=X5.n;have Q5:GQ q v l Z5:=by obtain⟨k,r1,r2,r3⟩:=q5.UJ;exact⟨k,r3,r1⟩
  have J:=J.I2 (X5.NI c6);simp(maxSteps:=8000000) (disch:=first|exact dS|fail) only[↓bD,bU,reduceMul,reduceEqDiff,reduceAdd,Nat.reduceBEq,reduceIte,Option.isNone_none,D7,gs2,CZ,Ca,gw1,gw2,gw3,gw5,gw6,Cb,Cc,Cd,Ce,Cf,Cg,Ch,gc,D,A,E,B,I,G,b8];refine(Cx (o:=oo) H (fun c M=>by have:=b9 c M;omega) J s7).mono ?_;rintro r ⟨t5,Z6,rfl,E6,l3⟩;have n6:=E6.n;obtain⟨y1,y2,y3,y4,y5,rfl⟩:=dZ l3.len;have i:Z6.A7 p=some _:=(E6.A7 om).trans ((X5.A7 om om).trans i);have ol:oo≠K8/\oo≠nmB/\oo.length<=4:=by rcases ho with rfl|rfl<;>decide
  simp(maxSteps:=8000000) (disch:=first|exact dS|fail) only[↓bD,bU,reduceMul,reduceEqDiff,reduceAdd,Nat.reduceBEq,reduceIte,Option.isNone_none,D7,gs2,CZ,Ca,gw1,gw2,gw3,gw5,gw6,Cb,Cc,Cd,Ce,Cf,Cg,Ch,gc,D,A,E,B,I,G,b8,i,asx E6,G6]
  try refine Ct.intro (by(repeat first|simp(disch:=omega) only[O4,G6,G9,asx E6,V6 X5,V6 Xy]|rw[W6 (by kernel_rfl)]);first|done|rfl) ?_
  simp(maxSteps:=8000000) (disch:=first|exact dS|fail) only[↓bD,bU,reduceMul,reduceEqDiff,reduceAdd,Nat.reduceBEq,reduceIte,Option.isNone_none,D7,gs2,CZ,Ca,gw1,gw2,gw3,gw5,gw6,Cb,Cc,Cd,Ce,Cf,Cg,Ch,gc,D,A,E,B,I,G,b8];refine⟨fR,fR1 D,fR1 A,fR1 E,fR1 B,fR1 I,fR1 G,fR1 b8,(k1.trans ((y8.xq X5).trans (.of E6))).upd,(Q5.ext E6 om).x (J9.refl.upd _) om om,y1,y2,y3,y4,y5,K4 oo e e1,j+j1,cL,l3.I2 ((J9.refl.upd _).NI d3),FP ol.1 ol.2.1 ol.2.2 hf q8,om,yL om hi r0 ho⟩
 ·clear D A E B I G m;rintro m τ ⟨gc,D,A,E,B,I,G,b8,V,hQ,hh⟩;simp(maxSteps:=8000000) (disch:=first|exact dS|fail) only[↓bD,bU,reduceMul,reduceEqDiff,reduceAdd,Nat.reduceBEq,reduceIte,Option.isNone_none,D7,gs2,CZ,Ca,gw1,gw2,gw3,gw5,gw6,Cb,Cc,Cd,Ce,Cf,Cg,Ch,gc,b8];exact⟨_,_,rfl,fR1 D,fR1 A,fR1 E,fR1 B,fR1 I,fR1 G,fR1 b8,V,hQ,hh⟩
 clear D A E B I G m;rintro r ⟨m,τ14,rfl,D,A,E,B,I,G,b8,dc,p0,x1,x2,x3,x4,x5,e,j,i,J,hf,hj,k7⟩;have v4:=dc.n;have i5:Ext Z τ14:=dc.ext Eg om om;have N:τ14.A7 Z.n=some [str [],.slice none 0 0,.slice none 0 0,.slice none 0 0,.int .i64 0,.int .i64 0,str [],.int .i64 0,.int .i64 0,str [],.slice none 0 0,.slice none 0 0,.int .i64 0,.slice none 0 0,.int .i64 0,.int .i64 0,.int .i64 0,.int .i64 0,.int .i64 0,.int .i64 0]:=by rw[dc.A7 om om om];exact N
 have rn:τ14.A7 nb=some [str [115,112,101,101,100],str [99,111,109,102,111,114,116],str [119,101,105,103,104,116]]:=by rw[dc.A7 om om om];exact rn
 have U:=OL.Ei U dc om om;have Y:=OL.Ei Y dc om om;have b6:=OL.Ei b6 dc om om;refine Ev.mono (R:=fun r=>r=⟨.normal,m,τ14⟩) (v:=⟨⟩) (by simp(maxSteps:=8000000) (disch:=first|exact dS|fail) only[↓bD,bU,reduceMul,reduceEqDiff,reduceAdd,Nat.reduceBEq,reduceIte,Option.isNone_none,D7,gs2,CZ,Ca,gw1,gw2,gw3,gw5,gw6,Cb,Cc,Cd,Ce,Cf,Cg,Ch]) ?_;rintro r rfl;simp only[Gp];refine Ol (fun m τ=>m.get 2=some (.pointer (some ⟨Z.n,0,none⟩))/\m.get 3=some (.pointer (some ⟨q,0,none⟩))/\m.get 4=some (.pointer (some ⟨p,0,none⟩))/\m.get 5=some (.int .i64 (nl:Nat))/\m.get 7=some (.slice (some ⟨nb,0,none⟩) 3 3)/\m.get 8=some (.int .i64 (f:Nat))/\y8 q p τ14 τ/\GQ q v l τ/\∃ (u:Value) (L:List By),τ.A7 p=some ([str [116],V1,(.slice K f f),V3,.int .i64 lo,.int .i64 hi,x1,x2,x3,x4,x5,u,.int .i64 mo,.slice none 0 0,.int .i64 bu,.int .i64 0,.int .i64 0,.int .i64 0,.int .i64 0,.int .i64 0])/\OL τ14.n τ 1 u (L.map Oj)/\L.length<=1/\∀ x∈L,x∈names) ?_ ?_
 ·refine gU1 (aI @D7 (aI @gs2 (aI @CZ (aI @Ca (aI @gw1 (aI @gw2 (aI @gw3 (aI @gw5 (aI @gw6 (aI @Cb (aI @Cc (aI @Cd (aI @Ce (aI @Cf (aI @Cg (aI @Ch (aI D (aI A (aI E (aI B (aI I G))))))))))))))))))))) ?_;obtain⟨u,hu⟩:∃ u:Value,.slice none 0 0=u:=⟨_,rfl⟩
  have V:y8 q p τ14 τ14:= .refl;have ho:OL τ14.n τ14 1 u (([]:List By).map Oj):=by rw[<- hu];exact OL.nil
  refine(Gg (n:=3) hl O i5 om om p0 om om).mono ?_;rintro r ⟨x,Z3,rfl,J,Ex,Qx,X⟩;have nx:=X.n;have i:Z3.A7 p=some _:=(X.A7 om om).trans i;have W:=A9 i;cases qx:decide (0<(x:Int))with
  | false=>
    refine gU1 (aI @D7 (aI @gs2 (aI @CZ (aI @Ca (aI @gw1 (aI @gw2 (aI @gw3 (aI @gw5 (aI @gw6 (aI @Cb (aI @Cc (aI @Cd (aI @Ce (aI @Cf (aI @Cg (aI @Ch qx)))))))))))))))) ?_;exact⟨_,_,rfl,fR1 D,fR1 A,fR1 E,fR1 B,fR1 I,fR1 G,.xq X,Qx,.slice none 0 0,[],i,OL.nil,by simp,fun x J=>by cases J⟩
  |true=>
  refine gU1 (aI @Av (aI @W8 (aI @Y8 (aI @X9 (aI @V7 (aI @V8 (aI @V9 (aI @W0 (aI @L7 (aI @I4 (aI @J5 (aI @J3 (aI @I5 (aI @I6 (aI @gs2 (aI @CZ (aI @Ca (aI @gw1 (aI @gw2 (aI @gw3 (aI @gw5 (aI @gw6 (aI @Cb (aI @Cc (aI @Cd (aI @Ce (aI @Cf (aI @Cg (aI @Ch (aI D (aI A (aI E (aI B (aI I (aI G (aI qx W)))))))))))))))))))))))))))))))))))) ?_;have c2:=i;have Q':=Qx;obtain⟨L,hL⟩:∃ L:List By,L=[]:=⟨_,rfl⟩
  have hP:∀ x∈L,x∈names:=by rw[hL];intro x J;cases J
  rw[show(([]:List By).map Oj)=L.map Oj by rw[hL]]at ho;have t7:L.length=0:=by rw[hL];rfl
  rw[hu]at c2 ⊢;have b0:OL τ14.n (Z3.new [str [112,114,105,99,101]]) 1 u (L.map Oj):=OL.ext (OL.BX ho X om) (.new _ _);have c3:y8 q p τ14 (Z3.new [str [112,114,105,99,101]]):=(V.trans (.xq X)).trans (.of (.new _ _));refine Y1 (row:=Oj [112,114,105,99,101]) (fun _ _ _ _=>Y0) b0 (K0 nL nL) (C9 (by simp[Oj]) (by simp)) (by rw[z2z];omega) (by simp;omega) ?_;rintro u' Z8 b5 hA -;obtain⟨ua,rfl⟩:=OL.shape b5;have bv:P4 u≠some p:=fun hb=>by have:=(ho.blk hb).1;omega
  have r8:Z8.A7 p=some _:=(F7 (hA.same p (by simp;omega) bv)).trans ((M9 (by first|omega|(simp;omega))).trans c2);have qN:GQ q v l (Z3.new [str [112,114,105,99,101]]):=Q'.ext (.new _ _) (by first|omega|(simp;omega));refine gU1 (aI @Av (aI @W8 (aI @Y8 (aI @X9 (aI @V7 (aI @V8 (aI @V9 (aI @W0 (aI @L7 (aI @I4 (aI @J5 (aI @J3 (aI @I5 (aI @I6 (aI @gs2 (aI @CZ (aI @Ca (aI @gw1 (aI @gw2 (aI @gw3 (aI @gw5 (aI @gw6 (aI @Cb (aI @Cc (aI @Cd (aI @Ce (aI @Cf (aI @Cg (aI @Ch (aI D (aI A (aI E (aI B (aI I (aI G r8))))))))))))))))))))))))))))))))))) ?_
  skip
  skip
  refine⟨_,_,rfl,fR1 D,fR1 A,fR1 E,fR1 B,fR1 I,fR1 G,(y8.app hA c3 b0 nL).upd,(qN.app hA b0 (by first|omega|(simp;omega)) om).x (J9.refl.upd _) (by have:=hA.n;simp at this;omega) om,_,L++[[112,114,105,99,101]],cL,?_,by simp only[CU,Ap,Jg];omega,?_⟩
  ·rw[HI];exact OL.upd b5 om
  ·intro x J;rcases EM.1 J with J|J
   ·exact hP x J
   ·rw[JB]at J;subst J;exact(by decide)
 clear D A E B I G b8 m i;rintro m τ ⟨D,A,E,B,I,G,f7,f4,ua,La,g1,f9,f2,f3⟩;refine gU1 (a16N @D7 @gs2 @CZ @Ca @gw1 @gw2 @gw3 @gw5 @gw6 @Cb @Cc @Cd @Ce @Cf @Cg @Ch) ?_
 refine G8 f (fun k m τ=>m.get 14=some (.int .i64 k)/\m.get 2=some (.pointer (some ⟨Z.n,0,none⟩))/\m.get 3=some (.pointer (some ⟨q,0,none⟩))/\m.get 4=some (.pointer (some ⟨p,0,none⟩))/\m.get 5=some (.int .i64 (nl:Nat))/\m.get 7=some (.slice (some ⟨nb,0,none⟩) 3 3)/\m.get 8=some (.int .i64 (f:Nat))/\y8 q p τ14 τ/\GQ q v l τ/\∃ (u:Value) (L:List By),τ.A7 p=some ([str [116],V1,(.slice K f f),V3,.int .i64 lo,.int .i64 hi,x1,x2,x3,x4,x5,u,.int .i64 mo,.slice none 0 0,.int .i64 bu,.int .i64 0,.int .i64 0,.int .i64 0,.int .i64 0,.int .i64 0])/\OL τ14.n τ 1 u (L.map Oj)/\L.length<=k+1/\∀ x∈L,x∈names)
  (fun r=>∃ m τ,r=⟨.exit 8,m,τ⟩/\m.get 2=some (.pointer (some ⟨Z.n,0,none⟩))/\m.get 3=some (.pointer (some ⟨q,0,none⟩))/\m.get 4=some (.pointer (some ⟨p,0,none⟩))/\m.get 5=some (.int .i64 (nl:Nat))/\m.get 7=some (.slice (some ⟨nb,0,none⟩) 3 3)/\m.get 8=some (.int .i64 (f:Nat))/\y8 q p τ14 τ/\GQ q v l τ/\∃ (u:Value) (L:List By),τ.A7 p=some ([str [116],V1,(.slice K f f),V3,.int .i64 lo,.int .i64 hi,x1,x2,x3,x4,x5,u,.int .i64 mo,.slice none 0 0,.int .i64 bu,.int .i64 0,.int .i64 0,.int .i64 0,.int .i64 0,.int .i64 0])/\OL τ14.n τ 1 u (L.map Oj)/\L.length<=f+1/\∀ x∈L,x∈names) ?_ ?_ ?_ ?_
 ·exact⟨fR,fR1 D,fR1 A,fR1 E,fR1 B,fR1 I,fR1 G,f7,f4,ua,La,g1,f9,f2,f3⟩
 ·clear D A E B I G m f7 f4 g1 f9 f2 f3 ua La τ;rintro k m τ hk ⟨gc,D,A,E,B,I,G,V,hQ,u,L,i,ho,hL,hP⟩;have M:=M4 hk;have nX:=V.n;have hE:Ext Z τ:=V.ext i5 om om;have c0:τ.row nb=some [str [115,112,101,101,100],str [99,111,109,102,111,114,116],str [119,101,105,103,104,116]]:=A9 (by rw[V.A7 om om om];exact rn);obtain⟨nm,e2,d9⟩:=qe (show k<3 by omega);simp(maxSteps:=8000000) (disch:=first|exact dS|fail) only[↓bD,bU,reduceMul,reduceEqDiff,reduceAdd,Nat.reduceBEq,reduceIte,Option.isNone_none,D7,gs2,CZ,Ca,gw1,gw2,gw3,gw5,gw6,Cb,Cc,Cd,Ce,Cf,Cg,Ch,gc,D,A,E,B,I,G,M];refine(Gg (n:=3) hl O hE om om hQ om om).mono ?_;rintro r ⟨x,Z3,rfl,J,Ex,Qx,X⟩;have nx:=X.n;have i:Z3.A7 p=some _:=(X.A7 om om).trans i;have W:=A9 i;cases qx:decide (0<(x:Int))with
  | false=>
    simp(maxSteps:=8000000) (disch:=first|exact dS|fail) only[↓bD,bU,reduceMul,reduceEqDiff,reduceAdd,Nat.reduceBEq,reduceIte,Option.isNone_none,D7,gs2,CZ,Ca,gw1,gw2,gw3,gw5,gw6,Cb,Cc,Cd,Ce,Cf,Cg,Ch,gc,qx];exact⟨fR,fR1 D,fR1 A,fR1 E,fR1 B,fR1 I,fR1 G,V.trans (.xq X),Qx,u,L,i,OL.BX ho X om,om,hP⟩
  |true=>
  have c0:=eT (X.row om om) c0;simp(maxSteps:=8000000) (disch:=first|exact dS|fail) only[↓bD,bU,reduceMul,reduceEqDiff,reduceAdd,Nat.reduceBEq,reduceIte,Option.isNone_none,Av,W8,Y8,X9,V7,V8,V9,W0,L7,I4,J5,J3,I5,I6,gs2,CZ,Ca,gw1,gw2,gw3,gw5,gw6,Cb,Cc,Cd,Ce,Cf,Cg,Ch,gc,D,A,E,B,I,G,qx,W,c0,e2];have c2:=i;have Q':=Qx;have b0:OL τ14.n (Z3.new [str nm]) 1 u (L.map Oj):=OL.ext (OL.BX ho X om) (.new _ _);have c3:y8 q p τ14 (Z3.new [str nm]):=(V.trans (.xq X)).trans (.of (.new _ _));refine Y1 (row:=Oj nm) (fun _ _ _ _=>Y0) b0 (K0 nL nL) (C9 (by simp[Oj]) (by simp)) (by rw[z2z];omega) (by simp;omega) ?_;rintro u' Z8 b5 hA -;obtain⟨ua,rfl⟩:=OL.shape b5;have bv:P4 u≠some p:=fun hb=>by have:=(ho.blk hb).1;omega
  have r8:Z8.A7 p=some _:=(F7 (hA.same p (by simp;omega) bv)).trans ((M9 (by first|omega|(simp;omega))).trans c2);have qN:GQ q v l (Z3.new [str nm]):=Q'.ext (.new _ _) (by first|omega|(simp;omega));simp(maxSteps:=8000000) (disch:=first|exact dS|fail) only[↓bD,bU,reduceMul,reduceEqDiff,reduceAdd,Nat.reduceBEq,reduceIte,Option.isNone_none,Av,W8,Y8,X9,V7,V8,V9,W0,L7,I4,J5,J3,I5,I6,gs2,CZ,Ca,gw1,gw2,gw3,gw5,gw6,Cb,Cc,Cd,Ce,Cf,Cg,Ch,D,A,E,B,I,G,gc,r8,asx (Ext.refl _),G9,G6]
  try refine Ct.intro (by(repeat first|simp(disch:=omega) only[O4,G6,G9,asx (Ext.refl _)]|rw[W6 (by kernel_rfl)]);first|done|rfl) ?_
  try simp(maxSteps:=8000000) (disch:=first|exact dS|fail) only[↓bD,bU,reduceMul,reduceEqDiff,reduceAdd,Nat.reduceBEq,reduceIte,Option.isNone_none,Av,W8,Y8,X9,V7,V8,V9,W0,L7,I4,J5,J3,I5,I6,gs2,CZ,Ca,gw1,gw2,gw3,gw5,gw6,Cb,Cc,Cd,Ce,Cf,Cg,Ch,D,A,E,B,I,G,gc]
  refine⟨fR,fR1 D,fR1 A,fR1 E,fR1 B,fR1 I,fR1 G,(y8.app hA c3 b0 nL).upd,(qN.app hA b0 (by first|omega|(simp;omega)) om).x (J9.refl.upd _) (by have:=hA.n;simp at this;omega) om,_,L++[nm],cL,?_,by simp only[CU,Ap,Jg];omega,?_⟩
  ·rw[HI];exact OL.upd b5 om
  ·intro x J;rcases EM.1 J with J|J
   ·exact hP x J
   ·rw[JB]at J;subst J;exact(ZG _ d9).1
 ·clear D A E B I G m f7 f4 g1 f9 f2 f3 ua La τ;rintro m τ ⟨gc,D,A,E,B,I,G,V,hQ,hh⟩;simp(maxSteps:=8000000) (disch:=first|exact dS|fail) only[↓bD,bU,reduceMul,reduceEqDiff,reduceAdd,Nat.reduceBEq,reduceIte,Option.isNone_none,D7,gs2,CZ,Ca,gw1,gw2,gw3,gw5,gw6,Cb,Cc,Cd,Ce,Cf,Cg,Ch,gc,G];exact⟨_,_,rfl,fR1 D,fR1 A,fR1 E,fR1 B,fR1 I,fR1 G,V,hQ,hh⟩
 clear D A E B I G m f7 f4 g1 f9 f2 f3 ua La τ;rintro r ⟨m,τ15,rfl,D,A,E,B,I,G,ZI,j5,V4,L4,i,f8,u0,q6⟩;have s8:=ZI.n;have j4:Ext Z τ15:=ZI.ext i5 om om;have N:τ15.A7 Z.n=some [str [],.slice none 0 0,.slice none 0 0,.slice none 0 0,.int .i64 0,.int .i64 0,str [],.int .i64 0,.int .i64 0,str [],.slice none 0 0,.slice none 0 0,.int .i64 0,.slice none 0 0,.int .i64 0,.int .i64 0,.int .i64 0,.int .i64 0,.int .i64 0,.int .i64 0]:=by rw[ZI.A7 om om om];exact N
 have rn:τ15.A7 nb=some [str [115,112,101,101,100],str [99,111,109,102,111,114,116],str [119,101,105,103,104,116]]:=by rw[ZI.A7 om om om];exact rn
 have U:=OL.Ei U ZI om om;have Y:=OL.Ei Y ZI om om;have b6:=OL.Ei b6 ZI om om;have J:=J.I2 (show FG (N5 τ14 H) (N5 τ15 H)from AZ s8 fun c M hm=>⟨hm,ZI.row M (fun h=>hm (h ▸ c6)) (fun h=>hm (h ▸ d3))⟩);refine Ev.mono (R:=fun r=>r=⟨.normal,m,τ15⟩) (v:=⟨⟩) (by simp(maxSteps:=8000000) (disch:=first|exact dS|fail) only[↓bD,bU,reduceMul,reduceEqDiff,reduceAdd,Nat.reduceBEq,reduceIte,Option.isNone_none,D7,gs2,CZ,Ca,gw1,gw2,gw3,gw5,gw6,Cb,Cc,Cd,Ce,Cf,Cg,Ch]) ?_;rintro r rfl;simp only[Gp];refine Ol (fun m τ=>m.get 2=some (.pointer (some ⟨Z.n,0,none⟩))/\m.get 3=some (.pointer (some ⟨q,0,none⟩))/\m.get 4=some (.pointer (some ⟨p,0,none⟩))/\m.get 5=some (.int .i64 (nl:Nat))/\m.get 7=some (.slice (some ⟨nb,0,none⟩) 3 3)/\m.get 8=some (.int .i64 (f:Nat))/\y8 q p τ15 τ/\GQ q v l τ/\∃ (u:Value) (ws:List Value) (L:List (List Int)),τ.A7 p=some ([str [116],V1,(.slice K f f),V3,.int .i64 lo,.int .i64 hi,x1,x2,x3,x4,x5,V4,.int .i64 mo,u,.int .i64 bu,.int .i64 0,.int .i64 0,.int .i64 0,.int .i64 0,.int .i64 0])/\SLs (N5 τ H) 1 u (ws.map fun x=>[x])/\Mk (LJ (N5 τ H)) ws L/\L.length<=1/\∀ c∈L,c=[1,2]) ?_ ?_
 ·by_cases q1:1<nl
  case neg=>
   have d1:decide (1<(nl:Int))=false:=dF;refine gU1 (aI @D7 (aI @gs2 (aI @CZ (aI @Ca (aI @gw1 (aI @gw2 (aI @gw3 (aI @gw5 (aI @gw6 (aI @Cb (aI @Cc (aI @Cd (aI @Ce (aI @Cf (aI @Cg (aI @Ch (aI D (aI A (aI E (aI B (aI I (aI G d1)))))))))))))))))))))) ?_;exact⟨_,_,rfl,fR1 D,fR1 A,fR1 E,fR1 B,fR1 I,fR1 G,.refl,j5,.slice none 0 0,[],[],i,.nil,trivial,by simp,fun c M=>by cases M⟩
  have d1:decide (1<(nl:Int))=true:=dT;refine gU1 (aI @D7 (aI @gs2 (aI @CZ (aI @Ca (aI @gw1 (aI @gw2 (aI @gw3 (aI @gw5 (aI @gw6 (aI @Cb (aI @Cc (aI @Cd (aI @Ce (aI @Cf (aI @Cg (aI @Ch (aI D (aI A (aI E (aI B (aI I (aI G d1)))))))))))))))))))))) ?_;refine(Gg (n:=2) hl O j4 om om j5 om om).mono ?_;rintro r ⟨x,Z3,rfl,J,Ex,Qx,X⟩;have nx:=X.n;have i:Z3.A7 p=some _:=(X.A7 om om).trans i;have W:=A9 i;cases qx:decide ((x:Int)=1)with
  | false=>
    refine gU1 (aI @D7 (aI @gs2 (aI @CZ (aI @Ca (aI @gw1 (aI @gw2 (aI @gw3 (aI @gw5 (aI @gw6 (aI @Cb (aI @Cc (aI @Cd (aI @Ce (aI @Cf (aI @Cg (aI @Ch (aI D (aI A (aI E (aI B (aI I (aI G (aI d1 qx))))))))))))))))))))))) ?_;exact⟨_,_,rfl,fR1 D,fR1 A,fR1 E,fR1 B,fR1 I,fR1 G,.xq X,Qx,.slice none 0 0,[],[],i,.nil,trivial,by simp,fun c M=>by cases M⟩
  |true=>
  have r8:((Z3.new [.int .i64 1,.int .i64 2]).new [.slice (some ⟨Z3.n,0,none⟩) 2 2]).A7 p=some _:=(M9 (by simp only[G3];omega)).trans ((M9 om).trans i);refine gU1 (aI @D7 (aI @gs2 (aI @CZ (aI @Ca (aI @gw1 (aI @gw2 (aI @gw3 (aI @gw5 (aI @gw6 (aI @Cb (aI @Cc (aI @Cd (aI @Ce (aI @Cf (aI @Cg (aI @Ch (aI D (aI A (aI E (aI B (aI I (aI G (aI d1 (aI qx r8)))))))))))))))))))))))) ?_;obtain⟨S,hS⟩:=nW ((((Z3.new [.int .i64 1,.int .i64 2]).new [.slice (some ⟨Z3.n,0,none⟩) 2 2]).upd p ([str [116],V1,(.slice K f f),V3,.int .i64 lo,.int .i64 hi,x1,x2,x3,x4,x5,V4,.int .i64 mo,(.slice (some ⟨Z3.n+1,0,none⟩) 1 1),.int .i64 bu,.int .i64 0,.int .i64 0,.int .i64 0,.int .i64 0,.int .i64 0])));have nS:S.n=Z3.n+2:=by rw[<- hS];rfl
  have m1:S.row Z3.n=some [.int .i64 1,.int .i64 2]:=by rw[<- hS,Ae om,CY (by simp only[G3];omega)];first|done|exact K0 nL nL
  have m2:S.row (Z3.n+1)=some [.slice (some ⟨Z3.n,0,none⟩) 2 2]:=by rw[<- hS,Ae om];first|done|exact K0 nL nL
  have h1:(N5 S H).row Z3.n=some [.int .i64 1,.int .i64 2]:=by rw[Bx fun h=>by have:=b9 _ h;omega];exact m1
  have h2:(N5 S H).row (Z3.n+1)=some [.slice (some ⟨Z3.n,0,none⟩) 2 2]:=by rw[Bx fun h=>by have:=b9 _ h;omega];exact m2
  refine⟨_,S,by rw[hS],fR1 D,fR1 A,fR1 E,fR1 B,fR1 I,fR1 G,?_,?_,.slice (some ⟨Z3.n+1,0,none⟩) 1 1,[.slice (some ⟨Z3.n,0,none⟩) 2 2],[[1,2]],by rw[<- hS];exact W4,⟨by simp,.inr ⟨Z3.n+1,0,none,1,_,rfl,by rw[EY];omega,h2,rfl⟩⟩,⟨Jx (by simp) (by rw[EY];omega) h1 rfl rfl,trivial⟩,by simp,by simp⟩
  ·rw[<- hS];exact((y8.xq X).trans (.of (Ext.Q3 (.new _ _) _))).upd
  ·rw[<- hS];exact((Qx.ext (.new _ _) om).ext (.new _ _) (by simp;omega)).x (J9.refl.upd _) (by simp;omega) om
 clear D A E B I G m i;rintro m τ16 ⟨D,A,E,B,I,G,Ws,p1,V5,ws,L5,i,k8,k9,u1,k4⟩;have s9:=Ws.n;have m9:Ext Z τ16:=Ws.ext j4 om om;have N:τ16.A7 Z.n=some [str [],.slice none 0 0,.slice none 0 0,.slice none 0 0,.int .i64 0,.int .i64 0,str [],.int .i64 0,.int .i64 0,str [],.slice none 0 0,.slice none 0 0,.int .i64 0,.slice none 0 0,.int .i64 0,.int .i64 0,.int .i64 0,.int .i64 0,.int .i64 0,.int .i64 0]:=by rw[Ws.A7 om om om];exact N
 have rn:τ16.A7 nb=some [str [115,112,101,101,100],str [99,111,109,102,111,114,116],str [119,101,105,103,104,116]]:=by rw[Ws.A7 om om om];exact rn
 have U:=OL.Ei U Ws om om;have Y:=OL.Ei Y Ws om om;have b6:=OL.Ei b6 Ws om om;have f8:=OL.Ei f8 Ws om om;have J:=J.I2 (show FG (N5 τ15 H) (N5 τ16 H)from AZ s9 fun c M hm=>⟨hm,Ws.row M (fun h=>hm (h ▸ c6)) (fun h=>hm (h ▸ d3))⟩);obtain⟨RS,f5⟩:∃ RS:St->Prop,RS=fun τ=>OL c4.n τ 2 V1 (L1.map Lot.row)/\OL c1.n τ 5 (.slice K f f) (L2.map CL.row)/\OL τ10.n τ 3 V3 (L3.map Req.row)/\OL τ14.n τ 1 V4 (L4.map Oj)/\P8 (N5 τ H) [x1,x2,x3,x4,x5] e/\SLs (N5 τ H) 1 V5 (ws.map fun x=>[x])/\Mk (LJ (N5 τ H)) ws L5:=⟨_,rfl⟩
 have rs:RS τ16:=by rw[f5];exact⟨U,Y,b6,f8,J,k8,k9⟩
 have b7:∀ τ τ',τ16.n<=τ.n->y8 q p τ τ'->RS τ->RS τ':=by
  intro τ τ' hn V h;rw[f5]at h ⊢;obtain⟨h1,h2,h3,h4,h5,h6,h7⟩:=h;have hk:FG (N5 τ H) (N5 τ' H):=AZ V.n fun c M hm=>⟨hm,V.row M (fun h=>hm (h ▸ c6)) (fun h=>hm (h ▸ d3))⟩
  exact⟨OL.Ei h1 V om om,OL.Ei h2 V om om,OL.Ei h3 V om om,OL.Ei h4 V om om,h5.I2 hk,h6.I2 hk,h7.mono fun _ _ h=>SL.I2 h hk⟩
 clear U Y b6 f8 J k8 k9 rn;refine gU1 (aI @D7 (aI @gs2 (aI @CZ (aI @Ca (aI @gw1 (aI @gw2 (aI @gw3 (aI @gw5 (aI @gw6 (aI @Cb (aI @Cc (aI @Cd (aI @Ce (aI @Cf (aI @Cg (aI @Ch (aI D (aI A (aI E (aI B (aI I G))))))))))))))))))))) ?_;refine(Gg (n:=5) hl O m9 om om p1 om om).mono ?_;rintro r ⟨y0,g9,rfl,u4,o1,p6,e9⟩;have w2:=e9.n;have i:=eT (e9.A7 om om) i;have N:=eT (e9.A7 om om) N;have rs:=b7 τ16 g9 om (.xq e9) rs;obtain⟨tq,s5⟩:=nW (10+(y0:Int));refine gU1 (aI @D7 (aI @gs2 (aI @CZ (aI @Ca (aI @gw1 (aI @gw2 (aI @gw3 (aI @gw5 (aI @gw6 (aI @Cb (aI @Cc (aI @Cd (aI @Ce (aI @Cf (aI @Cg (aI @Ch (aI D (aI A (aI E (aI B (aI I (aI G (aI i s5))))))))))))))))))))))) ?_;obtain⟨U0,hU0⟩:=nW ((g9.upd p ([str [116],V1,(.slice K f f),V3,.int .i64 lo,.int .i64 hi,x1,x2,x3,x4,x5,V4,.int .i64 mo,V5,.int .i64 bu,.int .i64 tq,.int .i64 0,.int .i64 0,.int .i64 0,.int .i64 0])))
 try rw[hU0]
 have v5:U0.n=g9.n:=by rw[<- hU0];rfl
 have n1:Ext Z U0:=by rw[<- hU0];exact o1.upd om _
 have i:U0.A7 p=some ([str [116],V1,(.slice K f f),V3,.int .i64 lo,.int .i64 hi,x1,x2,x3,x4,x5,V4,.int .i64 mo,V5,.int .i64 bu,.int .i64 tq,.int .i64 0,.int .i64 0,.int .i64 0,.int .i64 0]):=by rw[<- hU0];exact W4
 have N:U0.A7 Z.n=some [str [],.slice none 0 0,.slice none 0 0,.slice none 0 0,.int .i64 0,.int .i64 0,str [],.int .i64 0,.int .i64 0,str [],.slice none 0 0,.slice none 0 0,.int .i64 0,.slice none 0 0,.int .i64 0,.int .i64 0,.int .i64 0,.int .i64 0,.int .i64 0,.int .i64 0]:=by rw[<- hU0,K9 om];exact N
 have p2:GQ q v l U0:=by rw[<- hU0];exact p6.x (J9.refl.upd _) om om
 have rs:RS U0:=b7 g9 U0 om (by rw[<- hU0];exact y8.upd .refl) rs;clear hU0;refine(Gg (n:=5) hl O n1 om om p2 om om).mono ?_;rintro r ⟨y1,h0,rfl,u5,o2,p7,d5⟩;have w3:=d5.n;have i:=eT (d5.A7 om om) i;have N:=eT (d5.A7 om om) N;have rs:=b7 U0 h0 om (.xq d5) rs;obtain⟨tb,r9⟩:=nW (tq+1+(y1:Int));refine gU1 (aI @D7 (aI @gs2 (aI @CZ (aI @Ca (aI @gw1 (aI @gw2 (aI @gw3 (aI @gw5 (aI @gw6 (aI @Cb (aI @Cc (aI @Cd (aI @Ce (aI @Cf (aI @Cg (aI @Ch (aI D (aI A (aI E (aI B (aI I (aI G (aI i r9))))))))))))))))))))))) ?_;refine Ct.intro (by(repeat first|simp(disch:=omega) only[O4,G6,G9,V6 d5]|rw[W6 (by kernel_rfl)]);first|done|rfl) ?_;refine gU1 (aI @D7 (aI @gs2 (aI @CZ (aI @Ca (aI @gw1 (aI @gw2 (aI @gw3 (aI @gw5 (aI @gw6 (aI @Cb (aI @Cc (aI @Cd (aI @Ce (aI @Cf (aI @Cg (aI @Ch (aI D (aI A (aI E (aI B (aI I G))))))))))))))))))))) ?_;obtain⟨U1,hU1⟩:=nW ((h0.upd p ([str [116],V1,(.slice K f f),V3,.int .i64 lo,.int .i64 hi,x1,x2,x3,x4,x5,V4,.int .i64 mo,V5,.int .i64 bu,.int .i64 tq,.int .i64 tb,.int .i64 0,.int .i64 0,.int .i64 0])))
 try rw[hU1]
 have v6:U1.n=h0.n:=by rw[<- hU1];rfl
 have n2:Ext Z U1:=by rw[<- hU1];exact o2.upd om _
 have i:U1.A7 p=some ([str [116],V1,(.slice K f f),V3,.int .i64 lo,.int .i64 hi,x1,x2,x3,x4,x5,V4,.int .i64 mo,V5,.int .i64 bu,.int .i64 tq,.int .i64 tb,.int .i64 0,.int .i64 0,.int .i64 0]):=by rw[<- hU1];exact W4
 have N:U1.A7 Z.n=some [str [],.slice none 0 0,.slice none 0 0,.slice none 0 0,.int .i64 0,.int .i64 0,str [],.int .i64 0,.int .i64 0,str [],.slice none 0 0,.slice none 0 0,.int .i64 0,.slice none 0 0,.int .i64 0,.int .i64 0,.int .i64 0,.int .i64 0,.int .i64 0,.int .i64 0]:=by rw[<- hU1,K9 om];exact N
 have p3:GQ q v l U1:=by rw[<- hU1];exact p7.x (J9.refl.upd _) om om
 have rs:RS U1:=b7 h0 U1 om (by rw[<- hU1];exact y8.upd .refl) rs;clear hU1;refine(Gg (n:=5) hl O n2 om om p3 om om).mono ?_;rintro r ⟨y2,h8,rfl,u6,o3,p9,d6⟩;have w4:=d6.n;have i:=eT (d6.A7 om om) i;have N:=eT (d6.A7 om om) N;have rs:=b7 U1 h8 om (.xq d6) rs;obtain⟨tg,s0⟩:=nW (tb+1+(y2:Int));refine gU1 (aI @D7 (aI @gs2 (aI @CZ (aI @Ca (aI @gw1 (aI @gw2 (aI @gw3 (aI @gw5 (aI @gw6 (aI @Cb (aI @Cc (aI @Cd (aI @Ce (aI @Cf (aI @Cg (aI @Ch (aI D (aI A (aI E (aI B (aI I (aI G (aI i s0))))))))))))))))))))))) ?_;refine Ct.intro (by(repeat first|simp(disch:=omega) only[O4,G6,G9,V6 d6]|rw[W6 (by kernel_rfl)]);first|done|rfl) ?_;refine gU1 (aI @D7 (aI @gs2 (aI @CZ (aI @Ca (aI @gw1 (aI @gw2 (aI @gw3 (aI @gw5 (aI @gw6 (aI @Cb (aI @Cc (aI @Cd (aI @Ce (aI @Cf (aI @Cg (aI @Ch (aI D (aI A (aI E (aI B (aI I G))))))))))))))))))))) ?_;obtain⟨U2,hU2⟩:=nW ((h8.upd p ([str [116],V1,(.slice K f f),V3,.int .i64 lo,.int .i64 hi,x1,x2,x3,x4,x5,V4,.int .i64 mo,V5,.int .i64 bu,.int .i64 tq,.int .i64 tb,.int .i64 tg,.int .i64 0,.int .i64 0])))
 try rw[hU2]
 have v7:U2.n=h8.n:=by rw[<- hU2];rfl
 have n3:Ext Z U2:=by rw[<- hU2];exact o3.upd om _
 have i:U2.A7 p=some ([str [116],V1,(.slice K f f),V3,.int .i64 lo,.int .i64 hi,x1,x2,x3,x4,x5,V4,.int .i64 mo,V5,.int .i64 bu,.int .i64 tq,.int .i64 tb,.int .i64 tg,.int .i64 0,.int .i64 0]):=by rw[<- hU2];exact W4
 have N:U2.A7 Z.n=some [str [],.slice none 0 0,.slice none 0 0,.slice none 0 0,.int .i64 0,.int .i64 0,str [],.int .i64 0,.int .i64 0,str [],.slice none 0 0,.slice none 0 0,.int .i64 0,.slice none 0 0,.int .i64 0,.int .i64 0,.int .i64 0,.int .i64 0,.int .i64 0,.int .i64 0]:=by rw[<- hU2,K9 om];exact N
 have p4:GQ q v l U2:=by rw[<- hU2];exact p9.x (J9.refl.upd _) om om
 have rs:RS U2:=b7 h8 U2 om (by rw[<- hU2];exact y8.upd .refl) rs;clear hU2;refine(Gg (n:=5) hl O n3 om om p4 om om).mono ?_;rintro r ⟨y3,h9,rfl,u7,o4,q0,d7⟩;have w5:=d7.n;have i:=eT (d7.A7 om om) i;have N:=eT (d7.A7 om om) N;have rs:=b7 U2 h9 om (.xq d7) rs;obtain⟨tp,s4⟩:=nW (tg+1+(y3:Int));refine gU1 (aI @D7 (aI @gs2 (aI @CZ (aI @Ca (aI @gw1 (aI @gw2 (aI @gw3 (aI @gw5 (aI @gw6 (aI @Cb (aI @Cc (aI @Cd (aI @Ce (aI @Cf (aI @Cg (aI @Ch (aI D (aI A (aI E (aI B (aI I (aI G (aI i s4))))))))))))))))))))))) ?_;refine Ct.intro (by(repeat first|simp(disch:=omega) only[O4,G6,G9,V6 d7]|rw[W6 (by kernel_rfl)]);first|done|rfl) ?_;refine gU1 (aI @D7 (aI @gs2 (aI @CZ (aI @Ca (aI @gw1 (aI @gw2 (aI @gw3 (aI @gw5 (aI @gw6 (aI @Cb (aI @Cc (aI @Cd (aI @Ce (aI @Cf (aI @Cg (aI @Ch (aI D (aI A (aI E (aI B (aI I G))))))))))))))))))))) ?_;obtain⟨U3,hU3⟩:=nW ((h9.upd p ([str [116],V1,(.slice K f f),V3,.int .i64 lo,.int .i64 hi,x1,x2,x3,x4,x5,V4,.int .i64 mo,V5,.int .i64 bu,.int .i64 tq,.int .i64 tb,.int .i64 tg,.int .i64 tp,.int .i64 0])))
 try rw[hU3]
 have v8:U3.n=h9.n:=by rw[<- hU3];rfl
 have n7:Ext Z U3:=by rw[<- hU3];exact o4.upd om _
 have i:U3.A7 p=some ([str [116],V1,(.slice K f f),V3,.int .i64 lo,.int .i64 hi,x1,x2,x3,x4,x5,V4,.int .i64 mo,V5,.int .i64 bu,.int .i64 tq,.int .i64 tb,.int .i64 tg,.int .i64 tp,.int .i64 0]):=by rw[<- hU3];exact W4
 have N:U3.A7 Z.n=some [str [],.slice none 0 0,.slice none 0 0,.slice none 0 0,.int .i64 0,.int .i64 0,str [],.int .i64 0,.int .i64 0,str [],.slice none 0 0,.slice none 0 0,.int .i64 0,.slice none 0 0,.int .i64 0,.int .i64 0,.int .i64 0,.int .i64 0,.int .i64 0,.int .i64 0]:=by rw[<- hU3,K9 om];exact N
 have p5:GQ q v l U3:=by rw[<- hU3];exact q0.x (J9.refl.upd _) om om
 have rs:RS U3:=b7 h9 U3 om (by rw[<- hU3];exact y8.upd .refl) rs;clear hU3;refine(Gg (n:=10) hl O n7 om om p5 om om).mono ?_;rintro r ⟨y4,i0,rfl,u8,o5,q2,f0⟩;have w6:=f0.n;have i:=eT (f0.A7 om om) i;have N:=eT (f0.A7 om om) N;have rs:=b7 U3 i0 om (.xq f0) rs;obtain⟨ts,s6⟩:=nW ((y4:Int));refine gU1 (aI @D7 (aI @gs2 (aI @CZ (aI @Ca (aI @gw1 (aI @gw2 (aI @gw3 (aI @gw5 (aI @gw6 (aI @Cb (aI @Cc (aI @Cd (aI @Ce (aI @Cf (aI @Cg (aI @Ch (aI D (aI A (aI E (aI B (aI I (aI G (aI i s6))))))))))))))))))))))) ?_;obtain⟨U4,hU4⟩:=nW ((i0.upd p ([str [116],V1,(.slice K f f),V3,.int .i64 lo,.int .i64 hi,x1,x2,x3,x4,x5,V4,.int .i64 mo,V5,.int .i64 bu,.int .i64 tq,.int .i64 tb,.int .i64 tg,.int .i64 tp,.int .i64 ts])))
 try rw[hU4]
 have v9:U4.n=i0.n:=by rw[<- hU4];rfl
 have o0:Ext Z U4:=by rw[<- hU4];exact o5.upd om _
 have i:U4.A7 p=some ([str [116],V1,(.slice K f f),V3,.int .i64 lo,.int .i64 hi,x1,x2,x3,x4,x5,V4,.int .i64 mo,V5,.int .i64 bu,.int .i64 tq,.int .i64 tb,.int .i64 tg,.int .i64 tp,.int .i64 ts]):=by rw[<- hU4];exact W4
 have N:U4.A7 Z.n=some [str [],.slice none 0 0,.slice none 0 0,.slice none 0 0,.int .i64 0,.int .i64 0,str [],.int .i64 0,.int .i64 0,str [],.slice none 0 0,.slice none 0 0,.int .i64 0,.slice none 0 0,.int .i64 0,.int .i64 0,.int .i64 0,.int .i64 0,.int .i64 0,.int .i64 0]:=by rw[<- hU4,K9 om];exact N
 have t6:GQ q v l U4:=by rw[<- hU4];exact q2.x (J9.refl.upd _) om om
 have rs:RS U4:=b7 i0 U4 om (by rw[<- hU4];exact y8.upd .refl) rs;clear hU4;have i9:∀ τ y1 y2 y3 y4 y5 ff,RS τ->P8 (N5 τ H) [y1,y2,y3,y4,y5] ff->TnX (N5 τ H) ([str [116],V1,(.slice K f f),V3,.int .i64 lo,.int .i64 hi,y1,y2,y3,y4,y5,V4,.int .i64 mo,V5,.int .i64 bu,.int .i64 tq,.int .i64 tb,.int .i64 tg,.int .i64 tp,.int .i64 ts]) (⟨[116],L1,L2,L3,lo,hi,ff,L4,mo,L5,bu,⟨tq,tb,tg,tp,ts⟩⟩:Tn):=by
  intro τ y1 y2 y3 y4 y5 ff h hy;rw[f5]at h;obtain⟨h1,h2,h3,h4,-,h6,h7⟩:=h;have b1:∀ c∈H,c<c4.n:=fun c M=>by have:=b9 c M;omega
  have b2:∀ c∈H,c<c1.n:=fun c M=>by have:=b9 c M;omega
  have b3:∀ c∈H,c<τ10.n:=fun c M=>by have:=b9 c M;omega
  have b4:∀ c∈H,c<τ14.n:=fun c M=>by have:=b9 c M;omega
  exact⟨V1,(.slice K f f),V3,[y1,y2,y3,y4,y5],V4,V5,ws,rfl,OL.N5 h1 b1,OL.N5 h2 b2,OL.N5 h3 b3,hy,OL.N5 h4 b4,h6,h7⟩
 have l4:∀ ff,SE (⟨[116],L1,L2,L3,lo,hi,ff,L4,mo,L5,bu,⟨tq,tb,tg,tp,ts⟩⟩:Tn):=fun ff=>
  ⟨⟨by show 1<=lo;omega,by show lo<=3;omega,by show lo+1<=hi;omega,by show hi<=lo+5;omega,fun c M=>by
   obtain⟨a1,a2,a3,a4,a5,a6,a7⟩:=c7 c M;obtain⟨b1,b2,b3,b4⟩:=ZG c.name a1;exact⟨b2,b3,b4,a3,a4,a5,a6⟩⟩,fun c M=>(c7 c M).2.2.2.2.2.2⟩
 have i7:∀ ff,GOk (⟨[116],L1,L2,L3,lo,hi,ff,L4,mo,L5,bu,⟨tq,tb,tg,tp,ts⟩⟩:Tn):=by
  intro ff;refine⟨⟨?_,?_,?_,?_,?_,?_,?_,?_,?_,?_,?_,?_,?_,?_,?_⟩,⟨?_,?_,?_,?_,?_,?_,?_,?_,?_⟩,⟨?_,?_,?_,?_,?_⟩,rfl,?_,?_,?_,?_,?_⟩
  ·show L1.length<=16;omega
  ·intro x J;have:=k2 x J;exact⟨om,om,om,om⟩
  ·show L2.length<=16;omega
  ·intro x J;obtain⟨a1,a2,a3,a4,a5,a6,a7⟩:=c7 x J;exact⟨(ZG _ a1).1,⟨om,om⟩,⟨om,om⟩,⟨om,om⟩⟩
  ·show L3.length<=8;omega
  ·intro x J;obtain⟨a1,a2,a3,a4⟩:=k3 x J;exact⟨(ZG _ a1).1,a2,om,om⟩
  ·exact⟨by show _<=lo;omega,by show lo<=_;omega⟩
  ·exact⟨by show _<=hi;omega,by show hi<=_;omega⟩
  ·show L4.length<=16;omega
  ·exact q6
  ·exact⟨by show _<=mo;omega,by show mo<=_;omega⟩
  ·show L5.length<=16;omega
  ·intro c M;have:=k4 c M;subst this;exact⟨by decide,by intro n hn;simp only[W1,EP,EK]at hn;rcases hn with rfl|rfl<;>exact⟨om,om⟩⟩
  ·exact⟨by show _<=bu;omega,by show bu<=_;omega⟩
  ·exact⟨⟨by show _<=tq;omega,by show tq<=_;omega⟩,⟨by show _<=tb;omega,by show tb<=_;omega⟩,⟨by show _<=tg;omega,by show tg<=_;omega⟩,⟨by show _<=tp;omega,by show tp<=_;omega⟩,⟨by show _<=ts;omega,by show ts<=_;omega⟩⟩
  ·intro x J;have:=k2 x J;exact⟨⟨om,om⟩,⟨om,om⟩⟩
  ·intro x J;obtain⟨a1,a2,a3,a4,a5,a6,a7⟩:=c7 x J;exact⟨a2,⟨om,om⟩,⟨om,om⟩⟩
  ·intro x J;obtain⟨a1,a2,a3,a4⟩:=k3 x J;exact⟨om,om⟩
  ·intro c M n hn;have:=k4 c M;subst this;simp only[W1,EP,EK]at hn;rcases hn with rfl|rfl<;>exact⟨om,om⟩
  ·exact⟨by show 0<=lo;omega,by show lo<_;omega⟩
  ·exact⟨by show 0<=hi;omega,by show hi<_;omega⟩
  ·exact⟨by show 0<=mo;omega,by show mo<_;omega⟩
  ·exact⟨by show 0<=bu;omega,by show bu<_;omega⟩
  ·exact⟨⟨by show 0<=tq;omega,by show tq<_;omega⟩,⟨by show 0<=tb;omega,by show tb<_;omega⟩,⟨by show 0<=tg;omega,by show tg<_;omega⟩,⟨by show 0<=tp;omega,by show tp<_;omega⟩,⟨by show 0<=ts;omega,by show ts<_;omega⟩⟩
  ·show L1.length<=5;omega
  ·show L2.length<=5;omega
  ·show L3.length<=5;omega
  ·show L4.length<=5;omega
  ·show L5.length<=5;omega
  ·exact⟨by show 10<=tq;omega,by show tq<=14;omega⟩
  ·exact⟨by show tq+1<=tb;omega,by show tb<=tq+5;omega⟩
  ·exact⟨by show tb+1<=tg;omega,by show tg<=tb+5;omega⟩
  ·exact⟨by show tg+1<=tp;omega,by show tp<=tg+5;omega⟩
  ·exact⟨by show 0<=ts;omega,by show ts<=9;omega⟩
 have g0:P8 (N5 U4 H) [x1,x2,x3,x4,x5] e:=by have h:=rs;rw[f5]at h;exact h.2.2.2.2.1
 have tx:=i9 U4 _ _ _ _ _ e rs g0;have m6:Iv (⟨[116],L1,L2,L3,lo,hi,e,L4,mo,L5,bu,⟨tq,tb,tg,tp,ts⟩⟩:Tn) e (BdQ (bdN g) (bdD g)):=Iv.congr (fun s=>by rw[f6];rfl) k7.1;refine(qi (T:=(⟨[116],L1,L2,L3,lo,hi,e,L4,mo,L5,bu,⟨tq,tb,tg,tp,ts⟩⟩:Tn)) ⟨(tx.I2 KG).tn,(i7 e).wk hf om⟩ hf om m6 (fun _ _ h=>h.1)).mono ?_;rintro r ⟨sC,cC,υ5,rfl,c8⟩;have n5:=c8.n;have i:=eT (c8.A7 om) i;have N:=eT (c8.A7 om) N;have EF:Ext Z υ5:=o0.trans c8;have rs:=b7 U4 υ5 om (.of c8) rs;have g0:=g0.I2 (I9 c8);have r7:Z.n∈H:=by rw[<- c9];simp
 have m7:∀ c,c∉H->c∉H0:=fun c M h=>M (by rw[<- c9];simp[h]);have fin:∀ τ C T,Ext Z τ->TnX (N5 τ H) C T->Ext Z (τ.upd Z.n C)/\TnX (N5 (τ.upd Z.n C) H0) C T:=by
  intro τ C T hE hT;exact⟨hE.upd nL _,hT.I2 (AZ nL fun c M hm=>⟨m7 c hm,Ae fun h=>hm (h ▸ r7)⟩)⟩
 cases dC:decide (cC=0)with
 | true=>
   have W:=A9 i;refine gU1 (aI @D7 (aI @gs2 (aI @CZ (aI @Ca (aI @gw1 (aI @gw2 (aI @gw3 (aI @gw5 (aI @gw6 (aI @Cb (aI @Cc (aI @Cd (aI @Ce (aI @Cf (aI @Cg (aI @Ch (aI D (aI A (aI E (aI B (aI I (aI G (aI dC (aI W (aI N @Tryz.results9))))))))))))))))))))))))) ?_;obtain⟨a1,a2⟩:=fin υ5 _ _ EF (i9 υ5 _ _ _ _ _ e rs g0);exact⟨_,_,_,rfl,a1,a2,i7 e,⟨_,hf,om⟩,.inl ⟨g,om,k7.2.congr (by rw[f6])⟩,l4 e⟩
 | false=>
   refine gU1 (aI @D7 (aI @gs2 (aI @CZ (aI @Ca (aI @gw1 (aI @gw2 (aI @gw3 (aI @gw5 (aI @gw6 (aI @Cb (aI @Cc (aI @Cd (aI @Ce (aI @Cf (aI @Cg (aI @Ch (aI D (aI A (aI E (aI B (aI I (aI G dC)))))))))))))))))))))) ?_;refine DT.mono ?_;rintro r ⟨r1,s1,rfl,F1,t2⟩;refine gU1 (a16N @D7 @gs2 @CZ @Ca @gw1 @gw2 @gw3 @gw5 @gw6 @Cb @Cc @Cd @Ce @Cf @Cg @Ch) ?_;refine DT.mono ?_;rintro r ⟨r2,s2,rfl,F2,t3⟩;refine gU1 (a16N @D7 @gs2 @CZ @Ca @gw1 @gw2 @gw3 @gw5 @gw6 @Cb @Cc @Cd @Ce @Cf @Cg @Ch) ?_;have m1:=F1.n;have m2:=F2.n;refine(Cx (o:=[47]) H (fun c M=>by have:=b9 c M;omega) (t2 _) (t3 _)).mono ?_;rintro r ⟨r3,s3,rfl,F3,l5⟩;have m3:=F3.n;obtain⟨y1,y2,y3,y4,y5,rfl⟩:=dZ l5.len;have F:Ext υ5 s3:=F1.trans (F2.trans F3);have i:=eT (F.A7 om) i;have z1:(s3.upd p ([str [116],V1,(.slice K f f),V3,.int .i64 lo,.int .i64 hi,y1,y2,y3,y4,y5,V4,.int .i64 mo,V5,.int .i64 bu,.int .i64 tq,.int .i64 tb,.int .i64 tg,.int .i64 tp,.int .i64 ts])).A7 Z.n=some [str [],.slice none 0 0,.slice none 0 0,.slice none 0 0,.int .i64 0,.int .i64 0,str [],.int .i64 0,.int .i64 0,str [],.slice none 0 0,.slice none 0 0,.int .i64 0,.slice none 0 0,.int .i64 0,.int .i64 0,.int .i64 0,.int .i64 0,.int .i64 0,.int .i64 0]:=by rw[K9 om,F.A7 om];exact N
   refine gU1 (aI @D7 (aI @gs2 (aI @CZ (aI @Ca (aI @gw1 (aI @gw2 (aI @gw3 (aI @gw5 (aI @gw6 (aI @Cb (aI @Cc (aI @Cd (aI @Ce (aI @Cf (aI @Cg (aI @Ch (aI D (aI A (aI E (aI B (aI I (aI G (aI i (aI z1 @Tryz.results9)))))))))))))))))))))))) ?_;have rs:=b7 υ5 (s3.upd p ([str [116],V1,(.slice K f f),V3,.int .i64 lo,.int .i64 hi,y1,y2,y3,y4,y5,V4,.int .i64 mo,V5,.int .i64 bu,.int .i64 tq,.int .i64 tb,.int .i64 tg,.int .i64 tp,.int .i64 ts])) om ((y8.of F).upd) rs;obtain⟨a1,a2⟩:=fin (s3.upd p ([str [116],V1,(.slice K f f),V3,.int .i64 lo,.int .i64 hi,y1,y2,y3,y4,y5,V4,.int .i64 mo,V5,.int .i64 bu,.int .i64 tq,.int .i64 tb,.int .i64 tg,.int .i64 tp,.int .i64 ts])) _ _ ((EF.trans F).upd om _) (i9 _ _ _ _ _ _ _ rs (l5.I2 ((J9.refl.upd _).NI d3)));exact⟨_,_,_,rfl,a1,a2,i7 _,⟨_,.op (by decide) (by decide) (by decide) (.name (by decide)) (.name (by decide)),by decide⟩,.inr rfl,l4 _⟩
end
end Go.Proofs.T
