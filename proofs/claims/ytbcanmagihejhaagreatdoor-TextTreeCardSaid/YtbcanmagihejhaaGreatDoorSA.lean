/- Decimal numerals: the library's and ours; the program's decimals. -/
import Derived.Test.YtbcanmagihejhaaGreatDoorRB
import Derived.Lib.ItoaNum
import Derived.Test.YtbcanmagihejhaaGreatDoorTF
import Derived.Test.YtbcanmagihejhaaGreatDoorRA
set_option linter.unusedSimpArgs false
set_option linter.unusedVariables false
namespace Go.Proofs.T
open Go Go.Ab
set_option maxRecDepth 100000
theorem decD_dcN:∀ (n u:Nat),u<=n->Lib.decDigits u=dcN u:=by
 intro n
 induction n with
 | zero =>
   intro u h
   obtain rfl:u=0:=om
   unfold Lib.decDigits;rfl
 | succ n ih =>
   intro u h
   unfold Lib.decDigits
   by_cases h10:u<10
   ·rw [dif_pos h10,dcN_small h10];unfold dgt;rw [Nat.mod_eq_of_lt h10]
   ·rw [dif_neg h10,ih (u / 10) om,dcN_big h10];rfl
theorem itoa_dcN {n:Int}(h:0<=n):Lib.itoa n=dcN n.toNat:=by
 unfold Lib.itoa
 rw [if_neg om,decD_dcN _ _ (Nat.le_refl _)]
def padT:Nat->Nat->By
 | 0,_=>[]
 | k+1,f=>padT k (f / 10)++[dgt f]
theorem pad_cons:∀ (k f:Nat),padT (k+1) f=dgt (f / 10 ^ k)::padT k (f % 10 ^ k):=by
 intro k
 induction k with
 | zero=>intro f;show []++[dgt f]=[dgt (f / 10 ^ 0)];simp
 | succ k ih =>
   intro f
   show padT (k+1) (f / 10)++[dgt f]=_::(padT k (f % 10 ^ (k+1) / 10)++[dgt (f % 10 ^ (k+1))])
   rw [ih,List.cons_append]
   have e1:f / 10 / 10 ^ k=f / 10 ^ (k+1):=by rw [Nat.div_div_eq_div_mul,Nat.pow_succ,Nat.mul_comm]
   have e2:f / 10 % 10 ^ k=f % 10 ^ (k+1) / 10:=by rw [Nat.pow_succ,Nat.mod_mul_left_div_self]
   have e3:dgt f=dgt (f % 10 ^ (k+1)):=by
    unfold dgt
    rw [Nat.mod_mod_of_dvd _ ⟨10 ^ k,by rw [Nat.pow_succ,Nat.mul_comm]⟩]
   rw [e1,e2,e3]
theorem dcN_pad:∀ (k f:Nat),f<10 ^ k->dcN (10 ^ k+f)=49::padT k f:=by
 intro k
 induction k with
 | zero=>intro f h;obtain rfl:f=0:=by have:(10:Nat) ^ 0=1:=rfl;omega
         rfl
 | succ k ih =>
   intro f h
   have hp:10 ^ (k+1)=10 ^ k*10:=Nat.pow_succ ..
   have h1:1<=10 ^ k:=Nat.pow_pos om
   have e1:(10 ^ (k+1)+f) / 10=10 ^ k+f / 10:=om
   have e2:dgt (10 ^ (k+1)+f)=dgt f:=by
    unfold dgt
    have:(10 ^ (k+1)+f) % 10=f % 10:=om
    rw [this]
   rw [dcN_big om,e1,e2,ih (f / 10) om]
   rfl
def trimR:By->By
 | []=>[]
 | c::s=>if c=48/\trimR s=[] then [] else c::trimR s
theorem trim_pad0:∀ k:Nat,trimR (padT k 0)=[]:=by
 intro k
 induction k with
 | zero=>rfl
 | succ k ih =>
   rw [pad_cons,Nat.zero_div,Nat.zero_mod]
   show (if dgt 0=48/\trimR (padT k 0)=[] then [] else _)=[]
   rw [if_pos ⟨rfl,ih⟩]
theorem frT_ne {k r D:Nat}(hr:r≠0):frT (k+1) r D≠[]:=by
 unfold frT
 rw [if_neg hr]
 intro h
 exact dcN_ne _ (List.append_eq_nil_iff.1 h).1
theorem fr_trim {D:Nat}(hD:0<D):∀ (k r f:Nat),r<D->r*10 ^ k=f*D->frT k r D=trimR (padT k f):=by
 intro k
 induction k with
 | zero =>
   intro r f hr h
   rfl
 | succ k ih =>
   intro r f hr h
   by_cases h0:r=0
   ·have hf:f=0:=by
     rw [h0,Nat.zero_mul] at h
     rcases Nat.mul_eq_zero.1 h.symm with h|h <;> omega
    rw [h0,hf,trim_pad0];unfold frT;rw [if_pos rfl]
   ·have hp:10 ^ (k+1)=10*10 ^ k:=by rw [Nat.pow_succ,Nat.mul_comm]
    have h1:1<=10 ^ k:=Nat.pow_pos om
    obtain ⟨q,hq⟩:∃ q,10*r / D=q:=⟨_,rfl⟩
    obtain ⟨s,hs⟩:∃ s,10*r % D=s:=⟨_,rfl⟩
    have hdm:10*r=D*q+s:=by rw [<- hq,<- hs];exact (Nat.div_add_mod ..).symm
    have hsD:s<D:=by rw [<- hs];exact Nat.mod_lt _ hD
    have hq10:q<10:=by rw [<- hq];exact Nat.div_lt_of_lt_mul (by rw [Nat.mul_comm D];exact (Nat.mul_lt_mul_left om).2 hr)
    have key:(D*q+s)*10 ^ k=f*D:=by rw [<- hdm,<- h,hp];rw [Nat.mul_comm 10 r,Nat.mul_assoc]
    -- the rest of f
    have hge:q*10 ^ k<=f:=by
     refine Nat.le_of_mul_le_mul_right (c:=D) ?_ hD
     rw [<- key,Nat.add_mul]
     have:q*10 ^ k*D=D*q*10 ^ k:=by rw [Nat.mul_comm _ D,Nat.mul_assoc]
     omega
    obtain ⟨g,hg⟩:∃ g,f=q*10 ^ k+g:=⟨f-q*10 ^ k,om⟩
    have hgs:s*10 ^ k=g*D:=by
     rw [hg,Nat.add_mul,Nat.add_mul] at key
     have:q*10 ^ k*D=D*q*10 ^ k:=by rw [Nat.mul_comm _ D,Nat.mul_assoc]
     omega
    have hglt:g<10 ^ k:=by
     refine Nat.lt_of_mul_lt_mul_right (a:=D) ?_
     rw [<- hgs,Nat.mul_comm (10 ^ k) D]
     exact (Nat.mul_lt_mul_right om).2 hsD
    have e1:f / 10 ^ k=q:=by
     rw [hg,Nat.mul_comm q,Nat.mul_add_div om,Nat.div_eq_of_lt hglt];rfl
    have e2:f % 10 ^ k=g:=by
     rw [hg,Nat.mul_comm q,Nat.mul_add_mod,Nat.mod_eq_of_lt hglt]
    have ihs:=ih s g hsD hgs
    rw [pad_cons,e1,e2]
    show frT (k+1) r D=if dgt q=48/\trimR (padT k g)=[] then [] else dgt q::trimR (padT k g)
    rw [<- ihs]
    have hfr:frT (k+1) r D=if r=0 then [] else dcN (10*r / D)++frT k (10*r % D) D:=rfl
    rw [hfr,if_neg h0,hq,hs,dcN_small hq10]
    rw [if_neg]
    ·rfl
    ·rintro ⟨z1,z2⟩
     by_cases hs0:s=0
     ·have hqn:q=0:=by
       have hb:∀ x,x<10->dgt x=48->x=0:=by decide
       exact hb q hq10 z1
      rw [hqn,hs0,Nat.mul_zero] at hdm
      omega
     ·cases k with
      | zero =>
        have hg0:g=0:=by have:(10:Nat) ^ 0=1:=rfl;omega
        rw [hg0,Nat.zero_mul] at hgs
        have:s*10 ^ 0=s:=by simp
        omega
      | succ k=>exact frT_ne hs0 z2
theorem de_trim {n d:Nat}(hd:0<d) (h6:1000000 % d=0):deT (n:Nat) (d:Nat)=dcN (n / d)++(if n % d*(1000000 / d)=0 then [] else 46::trimR ((dcN (1000000+n % d*(1000000 / d))).drop 1)):=by
 unfold deT
 rw [show ((n:Nat):Int).toNat=n from rfl,show ((d:Nat):Int).toNat=d from rfl]
 refine congrArg (dcN (n / d)++·) ?_
 have hm:1000000 / d*d=1000000:=by
  have:=Nat.div_add_mod 1000000 d
  rw [h6,Nat.add_zero,Nat.mul_comm] at this
  exact this
 have hq:0<1000000 / d:=by
  rcases Nat.eq_zero_or_pos (1000000 / d) with h|h
  ·rw [h,Nat.zero_mul] at hm;omega
  ·exact h
 have hlt:n % d<d:=Nat.mod_lt _ hd
 by_cases h0:n % d=0
 ·rw [if_pos h0,h0,Nat.zero_mul,if_pos rfl]
 ·rw [if_neg h0,if_neg (by rw [Nat.mul_eq_zero];omega)]
  have hf:n % d*10 ^ 6=(n % d*(1000000 / d))*d:=by
   rw [Nat.mul_assoc,hm]
  have hfl:n % d*(1000000 / d)<10 ^ 6:=by
   refine Nat.lt_of_mul_lt_mul_right (a:=d) ?_
   rw [<- hf,Nat.mul_comm (n % d)]
   exact (Nat.mul_lt_mul_left (by decide)).2 hlt
  rw [fr_trim hd 6 (n % d) _ hlt hf,show (1000000:Nat)=10 ^ 6 from rfl,dcN_pad 6 _ hfl]
  rfl
end Go.Proofs.T
namespace Go.Proofs.T
open Go Go.Ab
open Nat (reduceMul reduceEqDiff reduceAdd)
set_option maxRecDepth 100000
theorem trim_snoc0:∀ x:By,trimR (x++[48])=trimR x:=by
 intro x
 induction x with
 | nil=>rfl
 | cons c x ih =>
   show (if c=48/\trimR (x++[48])=[] then [] else c::trimR (x++[48]))=(if c=48/\trimR x=[] then [] else c::trimR x)
   rw [ih]
theorem trim_keep {c:UInt8}(hc:c≠48):∀ x:By,trimR (x++[c])=x++[c]:=by
 intro x
 induction x with
 | nil =>
   show (if c=48/\([]:By)=[] then [] else [c])=[c]
   rw [if_neg (fun h=>hc h.1)]
 | cons d x ih =>
   show (if d=48/\trimR (x++[c])=[] then [] else d::trimR (x++[c]))=d::(x++[c])
   rw [ih,if_neg (fun h=>by simp at h)]
theorem sub_last {s:By}{c:UInt8}:sub (s++[c]) s.length 1=some [c]:=by
 rw [sub_of (by rw [List.length_append];simp),List.drop_left];rfl
theorem sub_init {s:By}{c:UInt8}:sub (s++[c]) 0 s.length=some s:=by
 rw [sub_of (by rw [List.length_append];omega),List.drop_zero,List.take_left]
set_option maxHeartbeats 8000000 in
theorem trimb_ok {Z:St}{s:By}(hs:s.length<=100000):Ev (go Tryz.prog HS (.fn 175) [str s,.int .u8 48] Z) (fun r=>r=⟨false,str (trimR s),Z⟩) ⟨⟩:=by
 refine ev_go Tryz.func175 rfl rfl ?_
 refine gS ?_
 refine ev_loop (fun n fr τ=>τ=Z/\fr.get 1=some (.int .u8 48)/\∃ x:By,fr.get 0=some (str x)/\x.length=n/\n<=100000/\trimR x=trimR s)
  (fun r=>∃ fr,r=⟨.exit 0,fr,Z⟩/\fr.get 0=some (str (trimR s))) s.length ?_ ?_ ?_
 ·exact ⟨rfl,fR,s,fR,rfl,hs,rfl⟩
 ·rintro n fr τ ⟨rfl,g1,x,g0,hn,hn2,hx⟩
  have hxx:x=[]\/∃ y c,x=y++[c]:=by
   rcases List.eq_nil_or_concat x with h|⟨y,c,h⟩
   ·exact .inl h
   ·exact .inr ⟨y,c,by rw [h,List.concat_eq_append]⟩
  rcases hxx with rfl|⟨y,c,rfl⟩
  ·have d1:decide ((0:Int)<((0:Nat):Int))=false:=rfl
   refine gS1 (aI @g0 (aI @g1 (aI @d1 (aI @yu_t (aI @yu_f @lp_exit))))) ?_
   exact ⟨_,rfl,by rw [<- hx];exact fR1 g0⟩
  ·have hl:(y++[c]).length=y.length+1:=by rw [List.length_append];rfl
   have d1:decide ((0:Int)<(((y++[c]).length:Nat):Int))=true:=decide_eq_true (by rw [hl];omega)
   have e1:(((y++[c]).length:Nat):Int)-1=(y.length:Int):=by rw [hl];omega
   have d3:decide (y.length<(y++[c]).length)=true:=decide_eq_true om
   by_cases hc:c=48
   ·have hc':decide ((c.toNat:Int)=48)=true:=by subst hc;rfl
    refine gS1 (aI @g0 (aI @g1 (aI @d1 (aI @e1 (aI @d3 (aI @sub_last (aI @oneB_one (aI @hc' (aI @Nat.sub_zero (aI @sub_init (aI @yu_t (aI @yu_f @lp_normal)))))))))))) ?_
    refine ⟨y.length,om,by trivial,fR1 g1,y,fR,rfl,om,?_⟩
    rw [<- hx,hc,trim_snoc0]
   ·have hc':decide ((c.toNat:Int)=48)=false:=decide_eq_false fun e=>hc (UInt8.toNat_inj.1 (show c.toNat=48 by omega))
    refine gS1 (aI @g0 (aI @g1 (aI @d1 (aI @e1 (aI @d3 (aI @sub_last (aI @oneB_one (aI @hc' (aI @yu_t (aI @yu_f @lp_exit)))))))))) ?_
    exact ⟨_,rfl,by rw [<- hx,trim_keep hc];exact fR1 g0⟩
 ·rintro r ⟨fr,rfl,g0⟩
  refine gS1 (aI @g0 @Tryz.results175) ?_;try exact ⟨⟩
theorem trim_nil_len {s:By}:(trimR s).length<=s.length:=by
 induction s with
 | nil=>exact Nat.le_refl _
 | cons c s ih =>
   show (if c=48/\trimR s=[] then [] else c::trimR s).length<=_
   split
   ·simp
   ·rw [List.length_cons,List.length_cons];omega
theorem trimright_ok {Z:St}{s:By}(hs:s.length<=100000):Ev (go Tryz.prog HS (.fn 138) [str s,str [48]] Z) (fun r=>r=⟨false,str (trimR s),Z⟩) ⟨⟩:=by
 refine ev_go Tryz.func138 rfl rfl ?_
 by_cases h0:s=[]
 ·subst h0
  refine gS1 (aI @yu_t (aI @yu_f @Tryz.results138)) ?_
  rfl
 ·have d0:decide (s=[])=false:=decide_eq_false h0
  have d48:decide (([48]:By)=[])=false:=rfl
  have s48:sub ([48]:By) 0 1=some [48]:=rfl
  have l48:decide (((48:UInt8).toNat:Int)<128)=true:=rfl
  have l1:decide (((1:Nat):Int)=1)=true:=rfl
  refine gS1 (aI @d0 (aI @d48 (aI @l1 (aI @s48 (aI @l48 (aI @oneB_one (aI @yu_t @yu_f))))))) ?_
  refine (trimb_ok hs).mono ?_
  rintro r rfl
  refine gS1 @Tryz.results138 ?_;try exact ⟨⟩
end Go.Proofs.T
namespace Go.Proofs.T
open Go Go.Ab
open Nat (reduceMul reduceEqDiff reduceAdd)
set_option maxRecDepth 100000
theorem pows_same:sameRow (some pows) (some pows)=true:=by kernel_rfl
theorem ito_ok {Z:St}{n:Nat}(hn:n<=9223372036854775807) (hp:Z.read 1 0 20=some pows):go Tryz.prog HS (.fn 67) [.int .i64 (n:Nat)] Z=some ⟨false,str (dcN n),Z⟩:=by
 have e:go Tryz.prog HS (.fn 67) [.int .i64 (n:Nat)] Z=bb (sameRow (Z.read 1 0 20) (some pows)) (bb (decide (-9223372036854775808<=((n:Nat):Int)/\((n:Nat):Int)<=9223372036854775807)) (some ⟨false,.string ⟨(Lib.itoa (n:Nat)).toArray⟩,Z⟩)):=rfl
 rw [e,hp,pows_same,bb_true,decide_eq_true om,bb_true,itoa_dcN om]
 rfl
theorem level_ok {Z:St}{op:By}:Ev (go Tryz.prog HS (.fn 95) [str op] Z) (fun r=>r=⟨false,.int .i64 (lvl op:Nat),Z⟩) ⟨⟩:=by
 refine ev_go Tryz.func95 rfl rfl ?_
 unfold lvl
 have c1:decide (([45]:By)=[43])=false:=rfl
 have c2:decide (([42]:By)=[43])=false:=rfl
 have c3:decide (([42]:By)=[45])=false:=rfl
 have c4:decide (([47]:By)=[43])=false:=rfl
 have c5:decide (([47]:By)=[45])=false:=rfl
 have c6:decide (([47]:By)=[42])=false:=rfl
 by_cases h1:op=[43]
 ·subst h1;simp (maxSteps:=8000000) (disch:=first|exact dS|fail) only [↓bD,bW,reduceMul,reduceEqDiff,reduceAdd,Nat.reduceBEq,reduceIte,Option.isNone_none,Tryz.results95];rfl
 ·have d1:decide (op=[43])=false:=decide_eq_false h1
  by_cases h2:op=[45]
  ·subst h2;simp (maxSteps:=8000000) (disch:=first|exact dS|fail) only [↓bD,bW,reduceMul,reduceEqDiff,reduceAdd,Nat.reduceBEq,reduceIte,Option.isNone_none,c1,Tryz.results95];rfl
  ·have d2:decide (op=[45])=false:=decide_eq_false h2
   by_cases h3:op=[42]
   ·subst h3;simp (maxSteps:=8000000) (disch:=first|exact dS|fail) only [↓bD,bW,reduceMul,reduceEqDiff,reduceAdd,Nat.reduceBEq,reduceIte,Option.isNone_none,c2,c3,Tryz.results95];rfl
   ·have d3:decide (op=[42])=false:=decide_eq_false h3
    by_cases h4:op=[47]
    ·subst h4;simp (maxSteps:=8000000) (disch:=first|exact dS|fail) only [↓bD,bW,reduceMul,reduceEqDiff,reduceAdd,Nat.reduceBEq,reduceIte,Option.isNone_none,c4,c5,c6,Tryz.results95];rfl
    ·have d4:decide (op=[47])=false:=decide_eq_false h4
     rw [if_neg (by simp [h1,h2]),if_neg (by simp [h3,h4])]
     refine gS1 (aI @d1 (aI @d2 (aI @d3 (aI @d4 @Tryz.results95)))) ?_
     rfl
set_option maxHeartbeats 8000000 in
theorem pdec_ok {Z:St}{n d:Nat}(hd:0<d) (h6:1000000 % d=0) (hn:n<=1000000000000000) (hp:Z.read 1 0 20=some pows) (h1:1<Z.n) :
  Ev (go Tryz.prog HS (.fn 96) [.agg ⟨[.int .i64 (n:Nat),.int .i64 (d:Nat)]⟩] Z) (fun r=>∃ Z',r=⟨false,str (deT (n:Nat) (d:Nat)),Z'⟩/\Ext Z Z') ⟨⟩:=by
 have hdl:d<=1000000:=Nat.le_of_dvd om (Nat.dvd_of_mod_eq_zero h6)
 obtain ⟨S,hS⟩:∃ S,Z.new [.int .i64 (n:Nat),.int .i64 (d:Nat)]=S:=⟨_,rfl⟩
 have hpS:S.read 1 0 20=some pows:=by rw [<- hS,read_new_ne _ _ _ _ om];exact hp
 rw [de_trim hd h6]
 obtain ⟨F,hF⟩:∃ F,n % d*(1000000 / d)=F:=⟨_,rfl⟩
 have hFl:F<1000000:=by
  have hm:1000000 / d*d=1000000:=by
   have:=Nat.div_add_mod 1000000 d
   rw [h6,Nat.add_zero,Nat.mul_comm] at this
   exact this
  have hq:0<1000000 / d:=Nat.div_pos hdl hd
  rw [<- hF]
  have:=(Nat.mul_lt_mul_right hq).2 (Nat.mod_lt n hd)
  rw [Nat.mul_comm d,hm] at this
  exact this
 have hnd:n / d<=n:=Nat.div_le_self n d
 have hqd:1000000 / d<=1000000:=Nat.div_le_self _ d
 have hmd:n % d<d:=Nat.mod_lt _ hd
 obtain ⟨Q,hQ⟩:∃ Q,1000000 / d=Q:=⟨_,rfl⟩
 obtain ⟨M,hM⟩:∃ M,n % d=M:=⟨_,rfl⟩
 obtain ⟨K,hK⟩:∃ K,n / d=K:=⟨_,rfl⟩
 have e1:((n:Nat):Int).tmod (d:Nat)=(M:Int):=by rw [<- hM];rfl
 have e2:(1000000:Int).tdiv (d:Nat)=(Q:Int):=by rw [<- hQ];rfl
 have e4:((n:Nat):Int).tdiv (d:Nat)=(K:Int):=by rw [<- hK];rfl
 rw [hQ,hM] at hF
 have e3:(M:Int)*(Q:Int)=(F:Int):=by rw [<- hF];rfl
 rw [hQ,hM,hK,hF]
 rw [hQ] at hqd
 rw [hM] at hmd
 rw [hK] at hnd
 have e5:(1000000:Int)+(F:Int)=((1000000+F:Nat):Int):=om
 have z1:decide (d=0)=false:=decide_eq_false om
 have z2:decide ((d:Int)=0)=false:=decide_eq_false om
 have i1:=ito_ok (Z:=S) (n:=K) om hpS
 have i2:=ito_ok (Z:=S) (n:=1000000+F) om hpS
 have hl1:(dcN K).length<=20:=dcN_len 19 K om
 have hl2:(dcN (1000000+F)).length<=20:=dcN_len 19 (1000000+F) om
 have E0:Ext Z S:=by rw [<- hS];exact eX
 have hr:S.row Z.n=some [.int .i64 (n:Nat),.int .i64 (d:Nat)]:=by rw [<- hS];exact cL
 refine ev_go Tryz.func96 rfl rfl ?_
 by_cases h0:F=0
 ·have d1:decide ((F:Int)=0)=true:=decide_eq_true om
  rw [if_pos h0,List.append_nil]
  refine gS1 (aI @e1 (aI @e2 (aI @e3 (aI @e4 (aI @z1 (aI @z2 (aI @hS @hr))))))) ?_
  try refine Must.intro (by (repeat first|simp (disch:=omega) only [as_read,as_upd,as_newb]|rw [as_ord (by kernel_rfl)]);first|done|rfl) ?_
  try simp (maxSteps:=8000000) (disch:=first|exact dS|fail) only [↓bD,bW,reduceMul,reduceEqDiff,reduceAdd,Nat.reduceBEq,reduceIte,Option.isNone_none,e1,e2,e3,e4,z1,z2,hS,hr,d1,i1,Tryz.results96]
  exact ⟨_,rfl,E0⟩
 ·have d1:decide ((F:Int)=0)=false:=decide_eq_false om
  rw [if_neg h0]
  have hd1:(dcN (1000000+F)).drop 1=(dcN (1000000+F)).drop 1:=rfl
  obtain ⟨L,hL⟩:∃ L,dcN (1000000+F)=L:=⟨_,rfl⟩
  rw [hL] at i2 hl2 ⊢
  have hL1:1<=L.length:=by
   rw [<- hL]
   rcases hx:dcN (1000000+F) with _|⟨c,l⟩
   ·exact absurd hx (dcN_ne _)
   ·simp
  have hs:sub L 1 (L.length-1)=some (L.drop 1):=by rw [sub_of om];exact congrArg some (List.take_of_length_le (by rw [List.length_drop];omega))
  have hdl1:(L.drop 1).length<=20:=by rw [List.length_drop];omega
  refine gS1 (aI @e1 (aI @e2 (aI @e3 (aI @e4 (aI @z1 (aI @z2 (aI @hS @hr))))))) ?_
  try refine Must.intro (by (repeat first|simp (disch:=omega) only [as_read,as_upd,as_newb]|rw [as_ord (by kernel_rfl)]);first|done|rfl) ?_
  try simp (maxSteps:=8000000) (disch:=first|exact dS|fail) only [↓bD,bW,reduceMul,reduceEqDiff,reduceAdd,Nat.reduceBEq,reduceIte,Option.isNone_none,e1,e2,e3,e4,e5,z1,z2,hS,hr,d1,i1,i2,hs]
  refine (trimright_ok om).mono ?_
  rintro r rfl
  have ht:=@trim_nil_len (L.drop 1)
  refine gS1 @Tryz.results96 ?_
  refine ⟨_,?_,E0⟩
  rw [List.append_assoc];rfl
end Go.Proofs.T
namespace Go.Proofs.T
open Go Go.Ab
open Nat (reduceMul reduceEqDiff reduceAdd)
set_option maxRecDepth 100000
theorem pows_ext {Z Z':St}(hE:Ext Z Z') (h1:1<Z.n) (hp:Z.read 1 0 20=some pows):Z'.read 1 0 20=some pows:=by
 rw [read_eq,hE.row h1,<- read_eq];exact hp
def ShowOk (e:Ex) (f:Nat):Prop:=∀ {Z:St}{row:List Value}{least:Nat},least<=3->Z.read 1 0 20=some pows->1<Z.n->ExAt Z row e ->
 Ev (go Tryz.prog HS (.fn 55) [.agg ⟨row⟩,.int .i64 (least:Nat)] Z) (fun r=>∃ Z',r=⟨false,str (showF f least e),Z'⟩/\Ext Z Z') ⟨⟩
theorem par_t {s:By}:par true s=[40]++s++[41]:=by unfold par;simp
theorem par_f {s:By}:par false s=s:=rfl
set_option maxHeartbeats 8000000 in
theorem show_num {n d:Int}(h:NumOk n d) (hn:n<=1000000000000000) (f:Nat):ShowOk (.mk numB3 n d [] []) (f+1):=by
 intro Z row least hls hp h1 he
 obtain ⟨v,rows,rfl,-,-,-⟩:=he
 have hd:=h.rq.d1
 have hn0:=h.n0
 have h6:=h.d6
 obtain ⟨N,rfl⟩:=Int.eq_ofNat_of_zero_le hn0
 obtain ⟨D,rfl⟩:=Int.eq_ofNat_of_zero_le (show 0<=d by omega)
 have h6':1000000 % D=0:=by
  have h6n:((1000000 % D:Nat):Int)=0:=h6
  exact Int.ofNat.inj h6n
 have hs:showF (f+1) least (.mk numB3 (N:Nat) (D:Nat) [] [])=par (decide (lvl numB3<least)) (deT (N:Nat) (D:Nat)):=rfl
 rw [hs,show lvl numB3=2 from rfl]
 have hlen:(deT (N:Nat) (D:Nat)).length+8<=50:=by
  have:=show_len (.num h) 1 0 (Nat.le_refl _)
  exact this
 obtain ⟨R,hR⟩:∃ R:List Value,[str numB3,.int .i64 (N:Nat),.int .i64 (D:Nat),str [],v]=R:=⟨_,rfl⟩
 have q0:sub R 0 1=some [str numB3]:=by rw [<- hR];rfl
 have q1:sub R 1 2=some [.int .i64 (N:Nat),.int .i64 (D:Nat)]:=by rw [<- hR];rfl
 have qf:sub R 0 5=some R:=by rw [<- hR];rfl
 have ql:R.length=5:=by rw [<- hR];rfl
 rw [show (Value.agg ⟨[str numB3,.int .i64 ((N:Nat):Int),.int .i64 ((D:Nat):Int),str [],v]⟩)= .agg ⟨R⟩ from by rw [<- hR]]
 have c1:decide (numB3=[110,117,109])=true:=rfl
 have E0:Ext Z (Z.new R):=eX
 refine ev_go Tryz.func55 rfl rfl ?_
 refine gS1 (aI @qf (aI @ql @q0)) ?_
 refine level_ok.mono ?_
 rintro r rfl
 rw [show lvl numB3=2 from rfl]
 refine gS1 (aI @qf (aI @ql (aI @q0 (aI @q1 @c1)))) ?_
 refine (pdec_ok om h6' om (pows_ext E0 h1 hp) (by simp;omega)).mono ?_
 rintro r ⟨Z2,rfl,E2⟩
 have d2:decide ((2:Int)<(least:Int))=decide (2<least):=by rw [Bool.eq_iff_iff,decide_eq_true_iff,decide_eq_true_iff];omega
 cases hb:decide (2<least) with
 | true =>
   have d3:decide ((2:Int)<(least:Int))=true:=by rw [d2];exact hb
   refine gS1 (aI @hb (aI @d2 (aI @d3 @Tryz.results55))) ?_
   exact ⟨_,by rw [par_t] <;> rfl,E0.trans E2⟩
 | false =>
   have d3:decide ((2:Int)<(least:Int))=false:=by rw [d2];exact hb
   refine gS1 (aI @hb (aI @d2 (aI @d3 @Tryz.results55))) ?_
   exact ⟨_,rfl,E0.trans E2⟩
end Go.Proofs.T
namespace Go.Proofs.T
open Go Go.Ab
open Nat (reduceMul reduceEqDiff reduceAdd)
set_option maxRecDepth 100000
set_option maxHeartbeats 8000000 in
theorem show_name {nm:By}(h:nameB nm=true) (f:Nat):ShowOk (.mk nmB 0 0 nm []) (f+1):=by
 intro Z row least hls hp h1 he
 obtain ⟨v,rows,rfl,-,-,-⟩:=he
 have hs:showF (f+1) least (.mk nmB 0 0 nm [])=par (decide (lvl nmB<least)) nm:=rfl
 rw [hs,show lvl nmB=2 from rfl]
 have hlen:=name_len h
 obtain ⟨R,hR⟩:∃ R:List Value,[str nmB,.int .i64 0,.int .i64 0,str nm,v]=R:=⟨_,rfl⟩
 have q0:sub R 0 1=some [str nmB]:=by rw [<- hR];rfl
 have q3:sub R 3 1=some [str nm]:=by rw [<- hR];rfl
 have qf:sub R 0 5=some R:=by rw [<- hR];rfl
 have ql:R.length=5:=by rw [<- hR];rfl
 rw [hR]
 have c1:decide (nmB=[110,117,109])=false:=rfl
 have c2:decide (nmB=[110,97,109,101])=true:=rfl
 have E0:Ext Z (Z.new R):=eX
 refine ev_go Tryz.func55 rfl rfl ?_
 refine gS1 (aI @qf (aI @ql @q0)) ?_
 refine level_ok.mono ?_
 rintro r rfl
 rw [show lvl nmB=2 from rfl]
 have d2:decide ((2:Int)<(least:Int))=decide (2<least):=by rw [Bool.eq_iff_iff,decide_eq_true_iff,decide_eq_true_iff];omega
 cases hb:decide (2<least) with
 | true =>
   have d3:decide ((2:Int)<(least:Int))=true:=by rw [d2];exact hb
   refine gS1 (aI @qf (aI @ql (aI @q0 (aI @q3 (aI @c1 (aI @c2 (aI @hb (aI @d2 (aI @d3 @Tryz.results55))))))))) ?_
   exact ⟨_,by rw [par_t] <;> rfl,E0⟩
 | false =>
   have d3:decide ((2:Int)<(least:Int))=false:=by rw [d2];exact hb
   refine gS1 (aI @qf (aI @ql (aI @q0 (aI @q3 (aI @c1 (aI @c2 (aI @hb (aI @d2 (aI @d3 @Tryz.results55))))))))) ?_
   exact ⟨_,rfl,E0⟩
set_option maxHeartbeats 16000000 in
theorem show_bin {o:By}{a b:Ex}{f:Nat}(h:o=[43]\/o=[45]\/o=[42]\/o=[47]) (iha:ShowOk a f) (ihb:ShowOk b f) (la:∀ w,(showF f w a).length<=100000) (lb:∀ w,(showF f w b).length<=100000):ShowOk (.mk o 0 0 [] [a,b]) (f+1):=by
 intro Z row least hls hp h1 he
 obtain ⟨v,rows,rfl,hsl,-,hex⟩:=he
 obtain ⟨B,off,sp,c,cells,r1,r2,rfl,l3,l4,s1,s2,x1,x2⟩:=two_args hsl hex
 have d1:decide (o=[110,117,109])=false:=decide_eq_false (by rcases h with rfl|rfl|rfl|rfl <;> decide)
 have d2:decide (o=[110,97,109,101])=false:=decide_eq_false (by rcases h with rfl|rfl|rfl|rfl <;> decide)
 have m1:decide (o=[109,105,110])=false:=decide_eq_false (by rcases h with rfl|rfl|rfl|rfl <;> decide)
 have m2:decide (o=[109,97,120])=false:=decide_eq_false (by rcases h with rfl|rfl|rfl|rfl <;> decide)
 have hn:o≠numB3/\o≠nmB/\¬ (o=minB\/o=maxB):=by rcases h with rfl|rfl|rfl|rfl <;> decide
 have lo:o.length=1:=by rcases h with rfl|rfl|rfl|rfl <;> rfl
 obtain ⟨w,hw⟩:∃ w,lvl o=w:=⟨_,rfl⟩
 have hw1:w<=1:=by rw [<- hw];rcases h with rfl|rfl|rfl|rfl <;> decide
 have hs:showF (f+1) least (.mk o 0 0 [] [a,b])=par (decide (w<least)) (showF f w a++32::(o++32::showF f (w+1) b)):=by
  show par (decide (lvl o<least)) (if _ then _ else _)=_
  rw [if_neg hn.1,if_neg hn.2.1]
  dsimp only
  rw [if_neg hn.2.2,hw]
 rw [hs]
 have la:=la w
 have lb:=lb (w+1)
 have len1:=x1.len
 have len2:=x2.len
 have hf1:sub r1 0 5=some r1:=sub_full om om
 have hf2:sub r2 0 5=some r2:=sub_full om om
 obtain ⟨R,hR⟩:∃ R:List Value,[str o,.int .i64 0,.int .i64 0,str [],.slice (some ⟨B,off,sp⟩) 2 c]=R:=⟨_,rfl⟩
 have q0:sub R 0 1=some [str o]:=by rw [<- hR];rfl
 have q4:sub R 4 1=some [.slice (some ⟨B,off,sp⟩) 2 c]:=by rw [<- hR];rfl
 have qf:sub R 0 5=some R:=by rw [<- hR];rfl
 have ql:R.length=5:=by rw [<- hR];rfl
 rw [hR]
 have E0:Ext Z (Z.new R):=eX
 have p0:=pows_ext E0 h1 hp
 refine ev_go Tryz.func55 rfl rfl ?_
 refine gS1 (aI @qf (aI @ql @q0)) ?_
 refine level_ok.mono ?_
 rintro r rfl
 rw [hw]
 refine gS1 (aI @qf (aI @ql (aI @q0 (aI @q4 (aI @d1 (aI @d2 (aI @m1 (aI @m2 (aI @l4 (aI @s1 (aI @s2 @Nat.add_zero))))))))))) ?_
 refine (iha (least:=w) om p0 (by simp;omega) (x1.mono E0)).mono ?_
 rintro r ⟨Z2,rfl,E2⟩
 have n2:=E2.n
 simp only [new_n] at n2
 have E02:=E0.trans E2
 have k2:Z2.row Z.n=some R:=by rw [E2.row (by simp)];exact cL
 have c2:Z2.row B=some cells:=by rw [E02.row l3];exact l4
 have e1:(w:Int)+1=((w+1:Nat):Int):=om
 refine gS1 (aI @q0 (aI @q4 (aI @k2 (aI @c2 (aI @s2 @e1))))) ?_
 refine (ihb (least:=w+1) om (pows_ext E02 h1 hp) om (x2.mono E02)).mono ?_
 rintro r ⟨Z3,rfl,E3⟩
 simp (maxSteps:=8000000) (disch:=first|exact dS|fail) only [↓bD,bW,reduceMul,reduceEqDiff,reduceAdd,Nat.reduceBEq,reduceIte,Option.isNone_none,asx E2,asx E3]
 try refine Must.intro (by (repeat first|simp (disch:=omega) only [as_read,as_upd,as_newb,asx E2,asx E3]|rw [as_ord (by kernel_rfl)]);first|done|rfl) ?_
 generalize showF f w a=ta at *
 generalize showF f (w+1) b=tb at *
 have z2:decide ((w:Int)<(least:Int))=decide (w<least):=by rw [Bool.eq_iff_iff,decide_eq_true_iff,decide_eq_true_iff];omega
 cases hb:decide (w<least) with
 | true =>
   have z3:decide ((w:Int)<(least:Int))=true:=by rw [z2];exact hb
   refine gS1 (aI @hb (aI @z2 (aI @z3 @Tryz.results55))) ?_
   refine ⟨_,?_,E02.trans E3⟩
   rw [par_t];simp
 | false =>
   have z3:decide ((w:Int)<(least:Int))=false:=by rw [z2];exact hb
   refine gS1 (aI @hb (aI @z2 (aI @z3 @Tryz.results55))) ?_
   refine ⟨_,?_,E02.trans E3⟩
   rw [par_f];simp
end Go.Proofs.T
namespace Go.Proofs.T
open Go Go.Ab
open Nat (reduceMul reduceEqDiff reduceAdd)
set_option maxRecDepth 100000
set_option maxHeartbeats 16000000 in
theorem show_mm {o:By}{a b:Ex}{f:Nat}(h:o=minB\/o=maxB) (iha:ShowOk a f) (ihb:ShowOk b f) (la:(showF f 0 a).length<=100000) (lb:(showF f 0 b).length<=100000):ShowOk (.mk o 0 0 [] [a,b]) (f+1):=by
 intro Z row least hls hp h1 he
 obtain ⟨v,rows,rfl,hsl,-,hex⟩:=he
 obtain ⟨B,off,sp,c,cells,r1,r2,rfl,l3,l4,s1,s2,x1,x2⟩:=two_args hsl hex
 have d1:decide (o=[110,117,109])=false:=decide_eq_false (by rcases h with rfl|rfl <;> decide)
 have d2:decide (o=[110,97,109,101])=false:=decide_eq_false (by rcases h with rfl|rfl <;> decide)
 have hn:o≠numB3/\o≠nmB:=by rcases h with rfl|rfl <;> decide
 have lo:o.length=3:=by rcases h with rfl|rfl <;> rfl
 have hw:lvl o=2:=by rcases h with rfl|rfl <;> rfl
 have hs:showF (f+1) least (.mk o 0 0 [] [a,b])=par (decide (2<least)) (o++40::(showF f 0 a++44::32::(showF f 0 b++[41]))):=by
  show par (decide (lvl o<least)) (if _ then _ else _)=_
  rw [if_neg hn.1,if_neg hn.2]
  dsimp only
  rw [if_pos h,hw]
 rw [hs]
 have len1:=x1.len
 have len2:=x2.len
 have hf1:sub r1 0 5=some r1:=sub_full om om
 have hf2:sub r2 0 5=some r2:=sub_full om om
 obtain ⟨R,hR⟩:∃ R:List Value,[str o,.int .i64 0,.int .i64 0,str [],.slice (some ⟨B,off,sp⟩) 2 c]=R:=⟨_,rfl⟩
 have q0:sub R 0 1=some [str o]:=by rw [<- hR];rfl
 have q4:sub R 4 1=some [.slice (some ⟨B,off,sp⟩) 2 c]:=by rw [<- hR];rfl
 have qf:sub R 0 5=some R:=by rw [<- hR];rfl
 have ql:R.length=5:=by rw [<- hR];rfl
 rw [hR]
 have E0:Ext Z (Z.new R):=eX
 have p0:=pows_ext E0 h1 hp
 have z0:(0:Int)=((0:Nat):Int):=rfl
 obtain ⟨b1,m1⟩:∃ x,decide (o=[109,105,110])=x:=⟨_,rfl⟩
 obtain ⟨b2,m2⟩:∃ x,decide (o=[109,97,120])=x:=⟨_,rfl⟩
 have key:b1=true\/b2=true:=by
  rcases h with rfl|rfl
  ·left;rw [<- m1];rfl
  ·right;rw [<- m2];rfl
 refine ev_go Tryz.func55 rfl rfl ?_
 refine gS1 (aI @qf (aI @ql @q0)) ?_
 refine level_ok.mono ?_
 rintro r rfl
 rw [hw]
 have z2:decide ((2:Int)<(least:Int))=decide (2<least):=by rw [Bool.eq_iff_iff,decide_eq_true_iff,decide_eq_true_iff];omega
 cases b1
 case' false =>
  obtain rfl:b2=true:=by rcases key with h|h;cases h;exact h
 all_goals
  refine gS1 (aI @qf (aI @ql (aI @q0 (aI @q4 (aI @d1 (aI @d2 (aI @m1 (aI @m2 (aI @l4 (aI @s1 (aI @s2 @Nat.add_zero))))))))))) ?_
  refine (iha (least:=0) om p0 (by simp;omega) (x1.mono E0)).mono ?_
  rintro r ⟨Z2,rfl,E2⟩
  have n2:=E2.n
  simp only [new_n] at n2
  have E02:=E0.trans E2
  have k2:Z2.row Z.n=some R:=by rw [E2.row (by simp)];exact cL
  have c2:Z2.row B=some cells:=by rw [E02.row l3];exact l4
  refine gS1 (aI @q0 (aI @q4 (aI @k2 (aI @c2 @s2)))) ?_
  refine (ihb (least:=0) om (pows_ext E02 h1 hp) om (x2.mono E02)).mono ?_
  rintro r ⟨Z3,rfl,E3⟩
  simp (maxSteps:=8000000) (disch:=first|exact dS|fail) only [↓bD,bW,reduceMul,reduceEqDiff,reduceAdd,Nat.reduceBEq,reduceIte,Option.isNone_none,asx E2,asx E3]
  try refine Must.intro (by (repeat first|simp (disch:=omega) only [as_read,as_upd,as_newb,asx E2,asx E3]|rw [as_ord (by kernel_rfl)]);first|done|rfl) ?_
  generalize showF f 0 a=ta at *
  generalize showF f 0 b=tb at *
  cases hb:decide (2<least) with
  | true =>
    have z3:decide ((2:Int)<(least:Int))=true:=by rw [z2];exact hb
    refine gS1 (aI @hb (aI @z2 (aI @z3 @Tryz.results55))) ?_
    refine ⟨_,?_,E02.trans E3⟩
    rw [par_t];simp
  | false =>
    have z3:decide ((2:Int)<(least:Int))=false:=by rw [z2];exact hb
    refine gS1 (aI @hb (aI @z2 (aI @z3 @Tryz.results55))) ?_
    refine ⟨_,?_,E02.trans E3⟩
    rw [par_f];simp
theorem show_ok {k m:Nat}{e:Ex}(h:FW k m e):∀ g,k<=g->m<=1000->ShowOk e g:=by
 induction h with
 | @num n d h =>
   intro g hg _
   obtain ⟨g,rfl⟩:∃ x,g=x+1:=⟨g-1,om⟩
   have h1:=h.rq.d1
   have h6:=h.d6
   have h2:=h.rq.n2
   have hd:d<=1000000:=by
    obtain ⟨D,rfl⟩:=Int.eq_ofNat_of_zero_le (show 0<=d by omega)
    have h6n:((1000000 % D:Nat):Int)=0:=h6
    have:=Nat.le_of_dvd om (Nat.dvd_of_mod_eq_zero (Int.ofNat.inj h6n))
    omega
   exact @show_num _ _ h om g
 | @name nm h h1 h2 =>
   intro g hg _
   obtain ⟨g,rfl⟩:∃ x,g=x+1:=⟨g-1,om⟩
   exact @show_name _ h g
 | @bin k j m i o a b h ha hb iha ihb =>
   intro g hg hm
   obtain ⟨g,rfl⟩:∃ x,g=x+1:=⟨g-1,om⟩
   exact @show_bin _ _ _ _ h (@iha g om om) (@ihb g om om) (fun w=>by have:=show_len ha g w om;omega) (fun w=>by have:=show_len hb g w om;omega)
 | @mm k j m i o a b h ha hb iha ihb =>
   intro g hg hm
   obtain ⟨g,rfl⟩:∃ x,g=x+1:=⟨g-1,om⟩
   exact @show_mm _ _ _ _ h (@iha g om om) (@ihb g om om) (by have:=show_len ha g 0 om;omega) (by have:=show_len hb g 0 om;omega)
end Go.Proofs.T
namespace Go.Proofs.T
open Go Go.Ab
set_option maxRecDepth 100000
end Go.Proofs.T
namespace Go.Proofs.T
open Go Go.Ab
set_option maxRecDepth 100000
end Go.Proofs.T
