/- Printed formulas: their tokens are short, and so are they. -/
import Derived.Test.YtbcanmagihejhaaGreatDoorPC
import Derived.Test.YtbcanmagihejhaaGreatDoorRB
set_option linter.unusedSimpArgs false
set_option linter.unusedVariables false
namespace Go.Proofs.T
open Go Go.Ab
set_option maxRecDepth 100000
theorem name_tok {nm:By}(h:nameB nm=true):numB (cutS nm).1=false:=by
 obtain ⟨c,w,rfl,h1,h2⟩:=name_split h
 rw [cutS_none fun x hx e=>by
  have:=List.all_eq_true.1 h2 x hx
  rw [e] at this
  exact absurd this (by decide)]
 cases hb:numB (c::w)
 ·rfl
 ·have h3:=dig_range (List.all_eq_true.1 (numB_all hb).1 c (List.mem_cons_self ..))
  unfold on letB at h1
  simp at h1
  omega
def TokS (t:By):Prop:=t.length<=30/\(numB (cutS t).1=true->(cutS t).1.length<19)
theorem cut_le {t:By}:(cutS t).1.length<=t.length:=by
 unfold cutS
 split
 ·exact Nat.le_refl _
 ·rw [List.length_take];omega
theorem tokS_small {t:By}(h:t.length<=17):TokS t:=⟨om,fun _=>by have:=cut_le (t:=t);omega⟩
theorem tokS_parT {b:Bool}{ts:List By}(h:∀ t∈ts,TokS t):∀ t∈parT b ts,TokS t:=by
 unfold parT
 split
 ·intro t ht
  rcases List.mem_cons.1 ht with rfl|ht
  ·exact tokS_small (by simp)
  ·rcases List.mem_append.1 ht with ht|ht
   ·exact h t ht
   ·rw [List.mem_singleton] at ht;subst ht;exact tokS_small (by simp)
 ·exact h
theorem fw_toks {k m:Nat}{e:Ex}(h:FW k m e):∀ f least,k<=f->∀ t∈tokF f least e,TokS t:=by
 induction h with
 | @num n d h =>
   intro f least hf
   obtain ⟨f,rfl⟩:∃ g,f=g+1:=⟨f-1,om⟩
   unfold tokF
   rw [if_pos rfl]
   refine tokS_parT fun t ht=>?_
   rw [List.mem_singleton] at ht;subst ht
   exact tokS_small (deT_len h)
 | @name nm h h1 h2 =>
   intro f least hf
   obtain ⟨f,rfl⟩:∃ g,f=g+1:=⟨f-1,om⟩
   unfold tokF
   rw [if_neg (by decide),if_pos rfl]
   refine tokS_parT fun t ht=>?_
   rw [List.mem_singleton] at ht;subst ht
   refine ⟨?_,fun hn=>by rw [name_tok h] at hn;cases hn⟩
   unfold nameB at h
   simp only [Bool.and_eq_true,decide_eq_true_eq] at h
   exact h.1.2
 | @bin k j m i o a b h ha hb iha ihb =>
   intro f least hf
   obtain ⟨f,rfl⟩:∃ g,f=g+1:=⟨f-1,om⟩
   have hn:o≠numB3/\o≠nmB/\¬ (o=minB\/o=maxB):=by rcases h with rfl|rfl|rfl|rfl <;> decide
   have hl:o.length<=17:=by rcases h with rfl|rfl|rfl|rfl <;> simp
   unfold tokF
   rw [if_neg hn.1,if_neg hn.2.1]
   dsimp only
   rw [if_neg hn.2.2]
   refine tokS_parT fun t ht=>?_
   rcases List.mem_append.1 ht with ht|ht
   ·exact iha f _ om t ht
   ·rcases List.mem_cons.1 ht with rfl|ht
    ·exact tokS_small hl
    ·exact ihb f _ om t ht
 | @mm k j m i o a b h ha hb iha ihb =>
   intro f least hf
   obtain ⟨f,rfl⟩:∃ g,f=g+1:=⟨f-1,om⟩
   have hn:o≠numB3/\o≠nmB:=by rcases h with rfl|rfl <;> decide
   have hl:o.length<=17:=by rcases h with rfl|rfl <;> simp [minB,maxB]
   unfold tokF
   rw [if_neg hn.1,if_neg hn.2]
   dsimp only
   rw [if_pos h]
   refine tokS_parT fun t ht=>?_
   rcases List.mem_cons.1 ht with rfl|ht
   ·exact tokS_small hl
   rcases List.mem_cons.1 ht with rfl|ht
   ·exact tokS_small (by simp)
   rcases List.mem_append.1 ht with ht|ht
   ·exact iha f _ om t ht
   rcases List.mem_cons.1 ht with rfl|ht
   ·exact tokS_small (by simp)
   rcases List.mem_append.1 ht with ht|ht
   ·exact ihb f _ om t ht
   ·rw [List.mem_singleton] at ht;subst ht;exact tokS_small (by simp)
theorem par_le2 {b:Bool}{s:By}{n:Nat}(h:s.length+2<=n):(par b s).length<=n:=by
 have:=par_len (b:=b) (s:=s);omega
theorem fw_len40 {k m:Nat}{e:Ex}(h:FW k m e):∀ f least,k<=f->(showF f least e).length<=40*m:=by
 induction h with
 | @num n d h =>
   intro f least hf
   obtain ⟨f,rfl⟩:∃ g,f=g+1:=⟨f-1,om⟩
   unfold showF
   rw [if_pos rfl]
   have:=deT_len h
   exact par_le2 om
 | @name nm h h1 h2 =>
   intro f least hf
   obtain ⟨f,rfl⟩:∃ g,f=g+1:=⟨f-1,om⟩
   unfold showF
   rw [if_neg (by decide),if_pos rfl]
   unfold nameB at h
   simp only [Bool.and_eq_true,decide_eq_true_eq] at h
   have:=h.1.2
   exact par_le2 om
 | @bin k j m i o a b h ha hb iha ihb =>
   intro f least hf
   obtain ⟨f,rfl⟩:∃ g,f=g+1:=⟨f-1,om⟩
   have hn:o≠numB3/\o≠nmB/\¬ (o=minB\/o=maxB):=by rcases h with rfl|rfl|rfl|rfl <;> decide
   have hl:o.length<=1:=by rcases h with rfl|rfl|rfl|rfl <;> simp
   have l1:=iha f (lvl o) om
   have l2:=ihb f (lvl o+1) om
   unfold showF
   rw [if_neg hn.1,if_neg hn.2.1]
   dsimp only
   rw [if_neg hn.2.2]
   refine par_le2 ?_
   simp only [List.length_cons,List.length_append,List.length_nil]
   omega
 | @mm k j m i o a b h ha hb iha ihb =>
   intro f least hf
   obtain ⟨f,rfl⟩:∃ g,f=g+1:=⟨f-1,om⟩
   have hn:o≠numB3/\o≠nmB:=by rcases h with rfl|rfl <;> decide
   have hl:o.length<=3:=by rcases h with rfl|rfl <;> simp [minB,maxB]
   have l1:=iha f 0 om
   have l2:=ihb f 0 om
   unfold showF
   rw [if_neg hn.1,if_neg hn.2]
   dsimp only
   rw [if_pos h]
   refine par_le2 ?_
   simp only [List.length_cons,List.length_append,List.length_nil]
   omega
theorem show_read {k m:Nat}{e:Ex}(h:FW k m e) (hk:k<=12) (hm:m<=60) :
  (showF 12 0 e).length<10000000/\showF 12 0 e≠[]/\ShortF (fToks (showF 12 0 e) 0)/\readS (fToks (showF 12 0 e) 0)= .ok e:=by
 have hl:=fw_len40 h 12 0 hk
 have hx:lex (showF 12 0 e)=tokF 12 0 e:=by
  have:=lex_show h 12 0 hk [] stop_nil
  rwa [List.append_nil,lex_nil,List.append_nil] at this
 have ht:(fToks (showF 12 0 e) 0).map Prod.fst=tokF 12 0 e++[[]]:=by rw [fToks_lex,hx]
 refine ⟨om,fun e0=>?_,fun t hm=>?_,read_show h hk hk hm ht⟩
 ·have h1:=fw_len h 12 0 hk
  have h2:=h.pos
  rw [<- hx,e0,lex_nil] at h1
  simp at h1
  omega
 ·have hm:t.1∈tokF 12 0 e++[[]]:=by rw [<- ht];exact List.mem_map.2 ⟨t,hm,rfl⟩
  rcases List.mem_append.1 hm with hm|hm
  ·have h1:=(fw_toks h 12 0 hk _ hm).1
   omega
  ·rw [List.mem_singleton] at hm
   rw [hm]
   simp
theorem fwe_ok {k m:Nat}{e:Ex}(h:FW k m e):WfE 2 e:=by
 induction h with
 | @num n d h =>
   have h1:=h.n0
   have h2:=h.rq.n2
   have h3:=h.rq.d1
   have h4:d<=1000000:=Int.le_of_dvd om (Int.dvd_of_emod_eq_zero h.d6)
   exact WfE_mk.2 ⟨by show (3:Nat)<=4;omega,by simp,⟨om,om⟩,⟨om,h4⟩,by simp,WfL_nil⟩
 | @name nm h1 h2 h3 =>
   have hl:nm.length<=30:=by
    unfold nameB at h1
    simp only [Bool.and_eq_true,decide_eq_true_eq] at h1
    exact h1.1.2
   exact WfE_mk.2 ⟨by show (4:Nat)<=4;omega,om,om,om,by simp,WfL_nil⟩
 | bin h ha hb iha ihb=>exact WfE_mk.2 ⟨by rcases h with rfl|rfl|rfl|rfl <;> decide,by simp,om,om,by simp,WfL_cons.2 ⟨iha,WfL_cons.2 ⟨ihb,WfL_nil⟩⟩⟩
 | mm h ha hb iha ihb=>exact WfE_mk.2 ⟨by rcases h with rfl|rfl <;> decide,by simp,om,om,by simp,WfL_cons.2 ⟨iha,WfL_cons.2 ⟨ihb,WfL_nil⟩⟩⟩
theorem rightE_fw {e:Ex}(h:rightE e=true):FW (depthE e) (partsE e) e/\depthE e<=12/\partsE e<=60:=by
 unfold rightE at h
 simp only [Bool.and_eq_true,decide_eq_true_eq] at h
 exact ⟨sound_fw _ _ (Nat.lt_succ_self _) h.1.1,h.2,h.1.2⟩
theorem fw_rightE {k m:Nat}{e:Ex}(h:FW k m e) (hk:k<=12) (hm:m<=60):rightE e=true:=by
 obtain ⟨h1,h2,h3⟩:=fw_sound h
 unfold rightE
 rw [h1,h2,h3,decide_eq_true hm,decide_eq_true hk]
 rfl
end Go.Proofs.T
