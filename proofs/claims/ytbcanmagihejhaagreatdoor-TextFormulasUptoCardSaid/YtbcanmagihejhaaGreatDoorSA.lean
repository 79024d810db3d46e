/- Decimal numerals: the library's and ours; the program's decimals. -/
import Derived.Test.YtbcanmagihejhaaGreatDoorRB
import Derived.Lib.ItoaNum
import Derived.Test.YtbcanmagihejhaaGreatDoorTF
import Derived.Test.YtbcanmagihejhaaGreatDoorRA
set_option linter.unusedSimpArgs false
set_option linter.unusedVariables false
namespace Go.Proofs.T
open Go Go.Ab
set_option maxRecDepth 100000
def padT:Nat->Nat->By
 | 0,_=>[]
 | k+1,f=>padT k (f / 10)++[dgt f]
theorem pad_cons:∀ (k f:Nat),padT (k+1) f=dgt (f / 10 ^ k)::padT k (f % 10 ^ k):=by
 intro k
 induction k with
 | zero=>intro f;show []++[dgt f]=[dgt (f / 10 ^ 0)];simp
 | succ k ih =>
   intro f
   show padT (k+1) (f / 10)++[dgt f]=_::(padT k (f % 10 ^ (k+1) / 10)++[dgt (f % 10 ^ (k+1))])
   rw [ih,List.cons_append]
   have e1:f / 10 / 10 ^ k=f / 10 ^ (k+1):=by rw [Nat.div_div_eq_div_mul,Nat.pow_succ,Nat.mul_comm]
   have e2:f / 10 % 10 ^ k=f % 10 ^ (k+1) / 10:=by rw [Nat.pow_succ,Nat.mod_mul_left_div_self]
   have e3:dgt f=dgt (f % 10 ^ (k+1)):=by
    unfold dgt
    rw [Nat.mod_mod_of_dvd _ ⟨10 ^ k,by rw [Nat.pow_succ,Nat.mul_comm]⟩]
   rw [e1,e2,e3]
theorem dcN_pad:∀ (k f:Nat),f<10 ^ k->dcN (10 ^ k+f)=49::padT k f:=by
 intro k
 induction k with
 | zero=>intro f h;obtain rfl:f=0:=by have:(10:Nat) ^ 0=1:=rfl;omega
         rfl
 | succ k ih =>
   intro f h
   have hp:10 ^ (k+1)=10 ^ k*10:=Nat.pow_succ ..
   have h1:1<=10 ^ k:=Nat.pow_pos om
   have e1:(10 ^ (k+1)+f) / 10=10 ^ k+f / 10:=om
   have e2:dgt (10 ^ (k+1)+f)=dgt f:=by
    unfold dgt
    have:(10 ^ (k+1)+f) % 10=f % 10:=om
    rw [this]
   rw [dcN_big om,e1,e2,ih (f / 10) om]
   rfl
def trimR:By->By
 | []=>[]
 | c::s=>if c=48/\trimR s=[] then [] else c::trimR s
theorem trim_pad0:∀ k:Nat,trimR (padT k 0)=[]:=by
 intro k
 induction k with
 | zero=>rfl
 | succ k ih =>
   rw [pad_cons,Nat.zero_div,Nat.zero_mod]
   show (if dgt 0=48/\trimR (padT k 0)=[] then [] else _)=[]
   rw [if_pos ⟨rfl,ih⟩]
theorem frT_ne {k r D:Nat}(hr:r≠0):frT (k+1) r D≠[]:=by
 unfold frT
 rw [if_neg hr]
 intro h
 exact dcN_ne _ (List.append_eq_nil_iff.1 h).1
theorem fr_trim {D:Nat}(hD:0<D):∀ (k r f:Nat),r<D->r*10 ^ k=f*D->frT k r D=trimR (padT k f):=by
 intro k
 induction k with
 | zero =>
   intro r f hr h
   rfl
 | succ k ih =>
   intro r f hr h
   by_cases h0:r=0
   ·have hf:f=0:=by
     rw [h0,Nat.zero_mul] at h
     rcases Nat.mul_eq_zero.1 h.symm with h|h <;> omega
    rw [h0,hf,trim_pad0];unfold frT;rw [if_pos rfl]
   ·have hp:10 ^ (k+1)=10*10 ^ k:=by rw [Nat.pow_succ,Nat.mul_comm]
    have h1:1<=10 ^ k:=Nat.pow_pos om
    obtain ⟨q,hq⟩:∃ q,10*r / D=q:=⟨_,rfl⟩
    obtain ⟨s,hs⟩:∃ s,10*r % D=s:=⟨_,rfl⟩
    have hdm:10*r=D*q+s:=by rw [<- hq,<- hs];exact (Nat.div_add_mod ..).symm
    have hsD:s<D:=by rw [<- hs];exact Nat.mod_lt _ hD
    have hq10:q<10:=by rw [<- hq];exact Nat.div_lt_of_lt_mul (by rw [Nat.mul_comm D];exact (Nat.mul_lt_mul_left om).2 hr)
    have key:(D*q+s)*10 ^ k=f*D:=by rw [<- hdm,<- h,hp];rw [Nat.mul_comm 10 r,Nat.mul_assoc]
    -- the rest of f
    have hge:q*10 ^ k<=f:=by
     refine Nat.le_of_mul_le_mul_right (c:=D) ?_ hD
     rw [<- key,Nat.add_mul]
     have:q*10 ^ k*D=D*q*10 ^ k:=by rw [Nat.mul_comm _ D,Nat.mul_assoc]
     omega
    obtain ⟨g,hg⟩:∃ g,f=q*10 ^ k+g:=⟨f-q*10 ^ k,om⟩
    have hgs:s*10 ^ k=g*D:=by
     rw [hg,Nat.add_mul,Nat.add_mul] at key
     have:q*10 ^ k*D=D*q*10 ^ k:=by rw [Nat.mul_comm _ D,Nat.mul_assoc]
     omega
    have hglt:g<10 ^ k:=by
     refine Nat.lt_of_mul_lt_mul_right (a:=D) ?_
     rw [<- hgs,Nat.mul_comm (10 ^ k) D]
     exact (Nat.mul_lt_mul_right om).2 hsD
    have e1:f / 10 ^ k=q:=by
     rw [hg,Nat.mul_comm q,Nat.mul_add_div om,Nat.div_eq_of_lt hglt];rfl
    have e2:f % 10 ^ k=g:=by
     rw [hg,Nat.mul_comm q,Nat.mul_add_mod,Nat.mod_eq_of_lt hglt]
    have ihs:=ih s g hsD hgs
    rw [pad_cons,e1,e2]
    show frT (k+1) r D=if dgt q=48/\trimR (padT k g)=[] then [] else dgt q::trimR (padT k g)
    rw [<- ihs]
    have hfr:frT (k+1) r D=if r=0 then [] else dcN (10*r / D)++frT k (10*r % D) D:=rfl
    rw [hfr,if_neg h0,hq,hs,dcN_small hq10]
    rw [if_neg]
    ·rfl
    ·rintro ⟨z1,z2⟩
     by_cases hs0:s=0
     ·have hqn:q=0:=by
       have hb:∀ x,x<10->dgt x=48->x=0:=by decide
       exact hb q hq10 z1
      rw [hqn,hs0,Nat.mul_zero] at hdm
      omega
     ·cases k with
      | zero =>
        have hg0:g=0:=by have:(10:Nat) ^ 0=1:=rfl;omega
        rw [hg0,Nat.zero_mul] at hgs
        have:s*10 ^ 0=s:=by simp
        omega
      | succ k=>exact frT_ne hs0 z2
theorem de_trim {n d:Nat}(hd:0<d) (h6:1000000 % d=0):deT (n:Nat) (d:Nat)=dcN (n / d)++(if n % d*(1000000 / d)=0 then [] else 46::trimR ((dcN (1000000+n % d*(1000000 / d))).drop 1)):=by
 unfold deT
 rw [show ((n:Nat):Int).toNat=n from rfl,show ((d:Nat):Int).toNat=d from rfl]
 refine congrArg (dcN (n / d)++·) ?_
 have hm:1000000 / d*d=1000000:=by
  have:=Nat.div_add_mod 1000000 d
  rw [h6,Nat.add_zero,Nat.mul_comm] at this
  exact this
 have hq:0<1000000 / d:=by
  rcases Nat.eq_zero_or_pos (1000000 / d) with h|h
  ·rw [h,Nat.zero_mul] at hm;omega
  ·exact h
 have hlt:n % d<d:=Nat.mod_lt _ hd
 by_cases h0:n % d=0
 ·rw [if_pos h0,h0,Nat.zero_mul,if_pos rfl]
 ·rw [if_neg h0,if_neg (by rw [Nat.mul_eq_zero];omega)]
  have hf:n % d*10 ^ 6=(n % d*(1000000 / d))*d:=by
   rw [Nat.mul_assoc,hm]
  have hfl:n % d*(1000000 / d)<10 ^ 6:=by
   refine Nat.lt_of_mul_lt_mul_right (a:=d) ?_
   rw [<- hf,Nat.mul_comm (n % d)]
   exact (Nat.mul_lt_mul_left (by decide)).2 hlt
  rw [fr_trim hd 6 (n % d) _ hlt hf,show (1000000:Nat)=10 ^ 6 from rfl,dcN_pad 6 _ hfl]
  rfl
end Go.Proofs.T
namespace Go.Proofs.T
open Go Go.Ab
set_option maxRecDepth 100000
end Go.Proofs.T
namespace Go.Proofs.T
open Go Go.Ab
set_option maxRecDepth 100000
end Go.Proofs.T
namespace Go.Proofs.T
open Go Go.Ab
set_option maxRecDepth 100000
theorem pows_ext {Z Z':St}(hE:Ext Z Z') (h1:1<Z.n) (hp:Z.read 1 0 20=some pows):Z'.read 1 0 20=some pows:=by
 rw [read_eq,hE.row h1,<- read_eq];exact hp
end Go.Proofs.T
