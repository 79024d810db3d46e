/- What the reading of a formula gives is a right formula; its errors. -/
import Derived.Test.YtbcanmagihejhaaGreatDoorVB
import Derived.Test.YtbcanmagihejhaaGreatDoorPD
import Derived.Test.YtbcanmagihejhaaGreatDoorRE
import Derived.Test.YtbcanmagihejhaaGreatDoorRB
set_option linter.unusedSimpArgs false
set_option linter.unusedVariables false
namespace Go.Proofs.T
open Go Go.Ab
set_option maxRecDepth 100000
theorem decN_dig:∀ (l:By) (n:Nat),l.all (on digB)=true->decN n l<(n+1)*10 ^ l.length
 | [],n,_=>by simp [decN]
 | c::l,n,h=>by
   rw [List.all_cons,Bool.and_eq_true] at h
   have hc:=dig_range h.1
   have:=decN_dig l (10*n+(c.toNat+208) % 256) h.2
   have e:decN n (c::l)=decN (10*n+(c.toNat+208) % 256) l:=rfl
   rw [e,List.length_cons,Nat.pow_succ]
   have e2:(c.toNat+208) % 256=c.toNat-48:=om
   rw [e2] at this ⊢
   refine Nat.lt_of_lt_of_le this ?_
   have h3:10*n+(c.toNat-48)+1<=(n+1)*10:=om
   calc (10*n+(c.toNat-48)+1)*10 ^ l.length<=((n+1)*10)*10 ^ l.length:=Nat.mul_le_mul_right _ h3
    _=(n+1)*(10 ^ l.length*10):=by rw [Nat.mul_assoc,Nat.mul_comm 10]
theorem dec_num {v:Nat}{rs:By}(hr:rs.all (on digB)=true) (hv:v<=1000000000) (hl:rs.length<=6) (h9:v<1000000000\/rs=[]) :
  NumOk (decN v rs / Nat.gcd (decN v rs) (10 ^ rs.length):Nat) (10 ^ rs.length / Nat.gcd (decN v rs) (10 ^ rs.length):Nat):=by
 have hp0:0<10 ^ rs.length:=Nat.pow_pos om
 have hN:decN v rs<=1000000000*10 ^ rs.length:=by
  rcases h9 with h9|h9
  ·have h1:=decN_dig rs v hr
   have h2:(v+1)*10 ^ rs.length<=1000000000*10 ^ rs.length:=Nat.mul_le_mul_right _ om
   omega
  ·subst h9
   show v<=1000000000*10 ^ 0
   omega
 have h6:10 ^ rs.length∣1000000:=by
  have e:(1000000:Nat)=10 ^ rs.length*10 ^ (6-rs.length):=by rw [<- Nat.pow_add];have:rs.length+(6-rs.length)=6:=om
                                                             rw [this]
  exact ⟨_,e⟩
 generalize decN v rs=N at *
 generalize 10 ^ rs.length=D at *
 have hlow:=q_low (n:=(N:Nat)) (d:=(D:Nat)) om
 rw [q_nat.1,q_nat.2] at hlow
 obtain ⟨g,hg⟩:∃ g,Nat.gcd N D=g:=⟨_,rfl⟩
 have hg0:0<g:=by rw [<- hg];exact Nat.gcd_pos_of_pos_right _ hp0
 obtain ⟨n',hn'⟩:g∣N:=by rw [<- hg];exact Nat.gcd_dvd_left _ _
 obtain ⟨d',hd'⟩:g∣D:=by rw [<- hg];exact Nat.gcd_dvd_right _ _
 rw [hg] at hlow ⊢
 have e1:N / g=n':=by rw [hn',Nat.mul_div_cancel_left _ hg0]
 have e2:D / g=d':=by rw [hd',Nat.mul_div_cancel_left _ hg0]
 rw [e1,e2] at hlow ⊢
 refine numOk_of hlow.1 hlow.2 om ?_ ?_
 ·obtain ⟨c,hc⟩:=h6
  have:(1000000:Nat)=d'*(g*c):=by rw [hc,hd',Nat.mul_comm g d',Nat.mul_assoc]
  have h7:1000000 % d'=0:=Nat.mod_eq_zero_of_dvd ⟨_,this⟩
  have:((1000000 % d':Nat):Int)=0:=by rw [h7];rfl
  exact this
 ·have h8:g*n'<=g*(1000000000*d'):=by
   rw [<- hn',<- Nat.mul_assoc,Nat.mul_comm g 1000000000,Nat.mul_assoc,<- hd'];exact hN
  have:=Nat.le_of_mul_le_mul_left h8 hg0
  omega
def DigT (toks:List Tok):Prop:=∀ t∈toks,headB digB t.1=true->∃ n,DotAt n t.1/\(t.1.drop (n+1)).all (on digB)=true
theorem DigT.dots {toks:List Tok}(h:DigT toks) (hl:ShortF toks):Dots toks:=fun t ht=>⟨hl t ht,fun hd=>by obtain ⟨n,h1,-⟩:=h t ht hd;exact ⟨n,h1⟩⟩
section
variable {toks:List Tok}
def Rd1 (toks:List Tok) (p:Nat) (R:Except Er Fx):Prop:=(∀ e d k p',R= .ok (e,d,k,p')->p<=p'/\FW d (p'-p) e/\k<toks.length)/\∀ q er,R= .error (q,er)->er≠0
theorem skip_rd {w:By}{k:Nat}(hends:Ends toks) (hw:w≠[]) (hk:k<toks.length):(∀ k',skipS toks w k= .ok k'->k'=k+1/\k'<toks.length)/\∀ q er,skipS toks w k= .error (q,er)->er≠0:=by
 unfold skipS
 by_cases h:(tokA toks k).1=w
 ·rw [if_pos h]
  exact ⟨fun k' e=>by cases e;exact ⟨rfl,hends k _ (tokA_at hk) (by rw [h];exact hw)⟩,fun q er e=>by cases e⟩
 ·rw [if_neg h]
  exact ⟨fun k' e=>by (cases e),fun q er e=>by cases e;omega⟩
theorem dec_rd (hends:Ends toks) (hd:DigT toks){k p:Nat}(hk:k<toks.length) (hh:headB digB (tokA toks k).1=true):Rd1 toks p (decS toks k p):=by
 obtain ⟨n,h1,h2⟩:=hd _ (List.mem_of_getElem? (tokA_at hk)) hh
 have hcut:=cut_dot h1
 have hne:(tokA toks k).1≠[]:=by intro e;rw [e] at hh;cases hh
 have hk1:=hends k _ (tokA_at hk) hne
 unfold decS
 rw [hcut]
 dsimp only
 split
 ·split
  ·rename_i c1 c2
   simp only [Bool.and_eq_true,Bool.or_eq_true,decide_eq_true_eq] at c2
   refine ⟨fun e d k' p' e=>?_,fun q er e=>by cases e⟩
   cases e
   refine ⟨om,?_,hk1⟩
   rw [show p+1-p=1 by omega]
   exact .num (dec_num h2 c2.1.1 c2.1.2 c2.2)
  ·exact ⟨fun e d k' p' e=>by (cases e),fun q er e=>by cases e;omega⟩
 ·exact ⟨fun e d k' p' e=>by (cases e),fun q er e=>by cases e;omega⟩
theorem fac_rd {F:Nat->Nat->Except Er Fx}(hends:Ends toks) (hd:DigT toks){k p:Nat}(hk:k<toks.length) (hF:∀ k' p',k<k'->k'<toks.length->Rd1 toks p' (F k' p')) (hB:∀ k p,Bd k p (F k p)):Rd1 toks p (facS F toks k p):=by
 have nx:(tokA toks k).1≠[]->k+1<toks.length:=hends k _ (tokA_at hk)
 unfold facS
 split
 ·rename_i h;exact dec_rd hends hd hk h
 ·split
  ·rename_i h
   have hk1:=nx (by rw [h];simp)
   obtain ⟨f1,f2⟩:=hF (k+1) p om hk1
   cases hR:F (k+1) p with
   | error pe=>obtain ⟨q,er⟩:=pe;rw [thenR_er];exact ⟨fun e d k' p' e=>by (cases e),fun q' er' e=>by cases e;exact f2 _ _ hR⟩
   | ok x =>
     obtain ⟨e1,d1,k1,p1⟩:=x
     obtain ⟨a1,a2,a3⟩:=f1 _ _ _ _ hR
     rw [thenR_ok]
     dsimp only
     obtain ⟨s1,s2⟩:=skip_rd (w:=[41]) hends (by simp) a3
     cases hs:skipS toks [41] k1 with
     | error pe=>obtain ⟨q,er⟩:=pe;rw [thenR_er];exact ⟨fun e d k' p' e=>by (cases e),fun q' er' e=>by cases e;exact s2 _ _ hs⟩
     | ok k2 =>
       rw [thenR_ok]
       exact ⟨fun e d k' p' e=>by cases e;exact ⟨a1,a2,(s1 _ hs).2⟩,fun q' er' e=>by (cases e)⟩
  ·split
   ·rename_i h40 hmm
    have hne:(tokA toks k).1≠[]:=by intro e;rw [e] at hmm;cases hmm
    have hk1:=nx hne
    obtain ⟨s1,s2⟩:=skip_rd (w:=[40]) hends (by simp) hk1
    cases hs:skipS toks [40] (k+1) with
    | error pe=>obtain ⟨q,er⟩:=pe;rw [thenR_er];exact ⟨fun e d k' p' e=>by (cases e),fun q' er' e=>by cases e;exact s2 _ _ hs⟩
    | ok k1 =>
      obtain ⟨rfl,hl1⟩:=s1 _ hs
      rw [thenR_ok]
      obtain ⟨f1,f2⟩:=hF (k+1+1) p om hl1
      cases hR:F (k+1+1) p with
      | error pe=>obtain ⟨q,er⟩:=pe;rw [thenR_er];exact ⟨fun e d k' p' e=>by (cases e),fun q' er' e=>by cases e;exact f2 _ _ hR⟩
      | ok x =>
        obtain ⟨e1,d1,k2,p2⟩:=x
        obtain ⟨a1,a2,a3⟩:=f1 _ _ _ _ hR
        have b1:=(hB _ _ _ _ _ _ hR).1
        rw [thenR_ok]
        dsimp only
        obtain ⟨s3,s4⟩:=skip_rd (w:=[44]) hends (by simp) a3
        cases hs2:skipS toks [44] k2 with
        | error pe=>obtain ⟨q,er⟩:=pe;rw [thenR_er];exact ⟨fun e d k' p' e=>by (cases e),fun q' er' e=>by cases e;exact s4 _ _ hs2⟩
        | ok k3 =>
          obtain ⟨rfl,hl3⟩:=s3 _ hs2
          rw [thenR_ok]
          obtain ⟨f3,f4⟩:=hF (k2+1) p2 om hl3
          cases hR2:F (k2+1) p2 with
          | error pe=>obtain ⟨q,er⟩:=pe;rw [thenR_er];exact ⟨fun e d k' p' e=>by (cases e),fun q' er' e=>by cases e;exact f4 _ _ hR2⟩
          | ok x =>
            obtain ⟨e4,d4,k4,p4⟩:=x
            obtain ⟨c1,c2,c3⟩:=f3 _ _ _ _ hR2
            rw [thenR_ok]
            dsimp only
            obtain ⟨s5,s6⟩:=skip_rd (w:=[41]) hends (by simp) c3
            cases hs3:skipS toks [41] k4 with
            | error pe=>obtain ⟨q,er⟩:=pe;rw [thenR_er];exact ⟨fun e d k' p' e=>by (cases e),fun q' er' e=>by cases e;exact s6 _ _ hs3⟩
            | ok k5 =>
              rw [thenR_ok]
              refine ⟨fun e d k' p' e=>?_,fun q' er' e=>by (cases e)⟩
              cases e
              refine ⟨om,?_,(s5 _ hs3).2⟩
              rw [show p4+1-p=(p2-p)+(p4-p2)+1 by omega]
              refine .mm ?_ a2 c2
              rw [Bool.or_eq_true,decide_eq_true_iff,decide_eq_true_iff] at hmm
              exact hmm
   ·rename_i hmm
    split
    ·rename_i hn
     have hk1:=nx (by intro e;rw [e] at hn;cases hn)
     refine ⟨fun e d k' p' e=>?_,fun q' er' e=>by (cases e)⟩
     cases e
     refine ⟨om,?_,hk1⟩
     rw [show p+1-p=1 by omega]
     rw [Bool.not_eq_true,Bool.or_eq_false_iff,decide_eq_false_iff_not,decide_eq_false_iff_not] at hmm
     exact .name hn hmm.1 hmm.2
    ·exact ⟨fun e d k' p' e=>by (cases e),fun q er e=>by cases e;omega⟩
theorem chainF_rd {A:Nat->Nat->Except Er Fx}{ops:By}(hends:Ends toks) (hop:∀ t,opB ops t=true->t=[43]\/t=[45]\/t=[42]\/t=[47]){k0:Nat}(hA:∀ k p,k0<k->k<toks.length->Rd1 toks p (A k p)) (hB:∀ k p,Bd k p (A k p)) :
  ∀ (f:Nat) (e:Ex) (d k p p0:Nat),k0<=k->k<toks.length->p0<=p->FW d (p-p0) e->Rd1 toks p0 (chainF A ops toks f (e,d,k,p)):=by
 intro f
 induction f with
 | zero=>intro e d k p p0 h0 hk hp hf;exact ⟨fun e d k' p' e=>by cases e;exact ⟨hp,hf,hk⟩,fun q er e=>by (cases e)⟩
 | succ f ih =>
   intro e d k p p0 h0 hk hp hf
   rw [chainF_succ]
   by_cases ho:opB ops (tokA toks k).1=true
   ·rw [if_pos ho]
    have hk1:=hends k _ (tokA_at hk) (opB_ne ho)
    obtain ⟨f1,f2⟩:=hA (k+1) p om hk1
    cases hR:A (k+1) p with
    | error pe=>obtain ⟨q,er⟩:=pe;rw [thenR_er];exact ⟨fun e d k' p' e=>by (cases e),fun q' er' e=>by cases e;exact f2 _ _ hR⟩
    | ok x =>
      obtain ⟨e1,d1,k1,p1⟩:=x
      obtain ⟨a1,a2,a3⟩:=f1 _ _ _ _ hR
      have b1:=(hB _ _ _ _ _ _ hR).1
      rw [thenR_ok]
      dsimp only
      refine ih _ _ _ _ p0 om a3 om ?_
      rw [show p1+1-p0=(p-p0)+(p1-p)+1 by omega]
      exact .bin (hop _ ho) hf a2
   ·rw [if_neg ho]
    exact ⟨fun e d k' p' e=>by cases e;exact ⟨hp,hf,hk⟩,fun q er e=>by (cases e)⟩
theorem chain_rd {A:Nat->Nat->Except Er Fx}{ops:By}(hends:Ends toks) (hop:∀ t,opB ops t=true->t=[43]\/t=[45]\/t=[42]\/t=[47]){k p:Nat}(hk:k<toks.length) (hA:∀ k' p',k<=k'->k'<toks.length->Rd1 toks p' (A k' p')) (hB:∀ k p,Bd k p (A k p)):Rd1 toks p (chainS A ops toks k p):=by
 unfold chainS
 obtain ⟨f1,f2⟩:=hA k p (Nat.le_refl _) hk
 cases hR:A k p with
 | error pe=>obtain ⟨q,er⟩:=pe;rw [thenR_er];exact ⟨fun e d k' p' e=>by (cases e),fun q' er' e=>by cases e;exact f2 _ _ hR⟩
 | ok x =>
   obtain ⟨e1,d1,k1,p1⟩:=x
   obtain ⟨a1,a2,a3⟩:=f1 _ _ _ _ hR
   have b1:=(hB _ _ _ _ _ _ hR).1
   rw [thenR_ok]
   exact chainF_rd (k0:=k) hends hop (fun k' p' h1 h2=>hA k' p' om h2) hB _ _ _ _ _ _ om a3 a1 a2
theorem mul_op {t:By}(h:opB [42,47] t=true):t=[43]\/t=[45]\/t=[42]\/t=[47]:=by
 rw [op_mul,Bool.or_eq_true,decide_eq_true_iff,decide_eq_true_iff] at h
 rcases h with h|h <;> simp [h]
theorem add_op {t:By}(h:opB [43,45] t=true):t=[43]\/t=[45]\/t=[42]\/t=[47]:=by
 rw [op_add,Bool.or_eq_true,decide_eq_true_iff,decide_eq_true_iff] at h
 rcases h with h|h <;> simp [h]
theorem fml_rd (hends:Ends toks) (hd:DigT toks):∀ (f k p:Nat),toks.length-k<=f->k<toks.length->Rd1 toks p (fmlF toks f k p):=by
 intro f
 induction f with
 | zero=>intro k p h1 h2;omega
 | succ f ih =>
   intro k p h1 h2
   refine chain_rd hends (fun t=>add_op) h2 (fun k' p' h3 h4=>?_) fun k p=>chainS_bd (fun k p=>facS_bd (fmlF_bd f) k p) k p
   refine chain_rd hends (fun t=>mul_op) h4 (fun k2 p2 h5 h6=>?_) fun k p=>facS_bd (fmlF_bd f) k p
   exact fac_rd hends hd h6 (fun k3 p3 h7 h8=>ih k3 p3 om h8) (fmlF_bd f)
theorem read_ne (hends:Ends toks) (hd:DigT toks) (h0:0<toks.length){q:Nat}{er:Int}(h:readS toks= .error (q,er)):er≠0:=by
 obtain ⟨f1,f2⟩:=fml_rd hends hd toks.length 0 0 om h0
 unfold readS at h
 cases hR:fmlF toks toks.length 0 0 with
 | error pe=>obtain ⟨q',er'⟩:=pe;rw [hR,thenR_er] at h;cases h;exact f2 _ _ hR
 | ok x =>
   obtain ⟨e,d,k,p⟩:=x
   rw [hR,thenR_ok] at h
   dsimp only at h
   split at h
   ·split at h
    ·cases h;omega
    ·cases h
   ·cases h;omega
end
theorem fT_dig {s:By}{a:Nat}:∀ (f k:Nat),∀ t∈fT s a f k,headB digB t.1=true->∃ n,DotAt n t.1/\(t.1.drop (n+1)).all (on digB)=true:=by
 intro f
 induction f with
 | zero=>intro k t ht;unfold fT at ht;cases ht
 | succ f ih =>
   intro k t ht hh
   unfold fT at ht
   cases hc:s[k]? with
   | none=>rw [hc] at ht;cases ht
   | some c =>
     rw [hc] at ht
     dsimp only at ht
     split at ht
     ·exact ih _ t ht hh
     ·rcases List.mem_cons.1 ht with rfl|ht
      ·dsimp only at hh ⊢
       have hend:=endT_in hc
       obtain ⟨hk1,hk2⟩:=List.getElem?_eq_some_iff.1 hc
       obtain ⟨m,hm⟩:∃ m,endT s k c=k+m:=⟨endT s k c-k,om⟩
       rw [hm,Nat.add_sub_cancel_left] at hh ⊢
       have tl:((s.drop k).take m).length=m:=by rw [List.length_take,List.length_drop];omega
       have tg:∀ j,j<m->((s.drop k).take m)[j]? =s[k+j]? :=fun j hj=>by rw [List.getElem?_take,if_pos hj,List.getElem?_drop]
       have h0:((s.drop k).take m)[0]? =some c:=by rw [tg 0 om];exact hc
       have hcd:on digB c=true:=by
        cases ht:(s.drop k).take m with
        | nil=>rw [ht] at h0;cases h0
        | cons x w=>rw [ht] at h0 hh;cases h0;exact hh
       have hcl:on letB c=false:=by
        cases h:on letB c
        ·rfl
        ·rw [let_dig h] at hcd;cases hcd
       have hq:endT s k c=if (decide (k+runs digB s k<s.length)&&decide (s[k+runs digB s k]? =some 46)&&decide (k+runs digB s k+1<min (k+runs digB s k+1) s.length+runs digB s (min (k+runs digB s k+1) s.length)))=true
         then min (k+runs digB s k+1) s.length+runs digB s (min (k+runs digB s k+1) s.length) else k+runs digB s k:=by
        unfold endT;rw [if_neg (by rw [hcl];simp),if_pos hcd]
       have n46:∀ {x:UInt8},on digB x=true->x≠46:=fun {x} h e=>by rw [e] at h;exact absurd h (by decide)
       rw [hm] at hq
       split at hq
       ·rename_i hx
        rw [Bool.and_eq_true,Bool.and_eq_true,decide_eq_true_iff,decide_eq_true_iff,decide_eq_true_iff] at hx
        obtain ⟨⟨x1,x2⟩,x3⟩:=hx
        rw [Nat.min_eq_left om] at hq x3
        obtain ⟨r,hr⟩:∃ r,runs digB s k=r:=⟨_,rfl⟩
        rw [hr] at hq x1 x2 x3
        refine ⟨r,⟨om,fun j x hj=>?_⟩,?_⟩
        ·have hjm:j<m:=by
          have:=(List.getElem?_eq_some_iff.1 hj).1
          omega
         rw [tg j hjm] at hj
         rcases Nat.lt_trichotomy j r with h|h|h
         ·obtain ⟨y,hy,hy2⟩:=runs_at (p:=digB) (s:=s) (k:=k) (j:=j) om
          rw [hj] at hy;cases hy
          exact ⟨fun e=>absurd e (n46 hy2),fun e=>om⟩
         ·subst h
          rw [x2] at hj;cases hj
          exact ⟨fun _=>rfl,fun _=>rfl⟩
         ·obtain ⟨y,hy,hy2⟩:=runs_at (p:=digB) (s:=s) (k:=k+r+1) (j:=j-(r+1)) om
          rw [show k+r+1+(j-(r+1))=k+j by omega,hj] at hy;cases hy
          exact ⟨fun e=>absurd e (n46 hy2),fun e=>om⟩
        ·rw [List.all_eq_true]
         intro x hx
         obtain ⟨i,hi⟩:=List.mem_iff_getElem?.1 hx
         rw [List.getElem?_drop] at hi
         have him:r+1+i<m:=by
          have:=(List.getElem?_eq_some_iff.1 hi).1
          omega
         rw [tg _ him] at hi
         obtain ⟨y,hy,hy2⟩:=runs_at (p:=digB) (s:=s) (k:=k+r+1) (j:=i) om
         rw [show k+r+1+i=k+(r+1+i) by omega,hi] at hy;cases hy
         exact hy2
       ·refine ⟨m,⟨om,fun j x hj=>?_⟩,by rw [List.drop_eq_nil_of_le om];rfl⟩
        have hjm:j<m:=by
         have:=(List.getElem?_eq_some_iff.1 hj).1
         omega
        rw [tg j hjm] at hj
        obtain ⟨y,hy,hy2⟩:=runs_at (p:=digB) (s:=s) (k:=k) (j:=j) om
        rw [hj] at hy;cases hy
        exact ⟨fun e=>absurd e (n46 hy2),fun e=>om⟩
      ·exact ih _ t ht hh
theorem fToks_dig {s:By}{a:Nat}:DigT (fToks s a):=by
 intro t ht hh
 unfold fToks at ht
 rcases List.mem_append.1 ht with ht|ht
 ·exact fT_dig _ _ t ht hh
 ·rw [List.mem_singleton] at ht;subst ht;cases hh
end Go.Proofs.T
namespace Go.Proofs.T
open Go Go.Ab
open Nat (reduceMul reduceEqDiff reduceAdd)
set_option maxRecDepth 100000
theorem rpformg_ok {Z:St}{w m:Nat}{e:Ex}{row:List Value}(hw:WfE w e) (hw4:w<=4) (hm:partsE e<=m) (hm1:m<=1000) (he:ExAt Z row e) :
  Ev (go Tryz.prog HS (.fn 21) [.agg ⟨row⟩] Z) (fun r=>∃ Z',r=⟨false,str (if rightE e=true then showF 12 0 e else []),Z'⟩/\Ext Z Z') ⟨⟩:=by
 have hlen:=he.len
 have hfr:sub row 0 5=some row:=sub_full om om
 refine ev_go Tryz.func21 rfl rfl ?_
 refine gS1 (aI @hfr @hlen) ?_
 have E1:Ext Z (Z.new row):=eX
 refine (rrightg_ok hw hw4 hm hm1 (he.mono E1)).mono ?_
 rintro r ⟨Z2,rfl,EX⟩
 have n2:=EX.n
 simp only [new_n] at n2
 have E2:Ext Z Z2:=E1.trans EX
 have w2:Z2.row Z.n=some row:=by rw [EX.row (by simp)];exact cL
 cases hr:rightE e with
 | false =>
   rw [if_neg (by simp)]
   refine gS1 (aI @w2 (aI @hfr (aI @hlen (aI @yu_t (aI @yu_f @Tryz.results21))))) ?_
   exact ⟨_,rfl,E2⟩
 | true =>
   rw [if_pos rfl]
   obtain ⟨hf,hk,hm⟩:=rightE_fw hr
   refine gS1 (aI @w2 (aI @hfr (aI @hlen (aI @yu_t @yu_f)))) ?_
   refine (rprint_ok hf 12 hk om om (he.mono E2)).mono ?_
   rintro r ⟨Z3,rfl,E3⟩
   refine gS1 @Tryz.results21 ?_
   exact ⟨_,rfl,E2.trans E3⟩
end Go.Proofs.T
