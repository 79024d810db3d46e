/- Texts without long rows of digits: all numbers of their lines are short. -/
import Derived.Test.YtbcanmagihejhaaGreatDoorTH
set_option linter.unusedSimpArgs false
set_option linter.unusedVariables false
namespace Go.Proofs.T
open Go Go.Ab
set_option maxRecDepth 100000
def runsOk:By->Nat->Bool
 | [],_=>true
 | b::l,c=>bif on digB b then Nat.ble (c+1) 18&&runsOk l (c+1) else runsOk l 0
theorem runsOk_cons {b:UInt8}{l:By}{c:Nat}:runsOk (b::l) c=bif on digB b then Nat.ble (c+1) 18&&runsOk l (c+1) else runsOk l 0:=rfl
theorem runsOk_pre:∀ (l:By) (c:Nat),runsOk l c=true->∀ d q:By,l=d++q->d.all (on digB)=true->d≠[]->c+d.length<=18:=by
 intro l
 induction l with
 | nil=>intro c _ d q e _ hd;cases d with
   | nil=>exact absurd rfl hd
   | cons x d=>cases e
 | cons b l ih =>
   intro c h d q e hd hne
   cases d with
   | nil=>exact absurd rfl hne
   | cons x d =>
     cases e
     rw [List.all_cons,Bool.and_eq_true] at hd
     rw [runsOk_cons,hd.1,cond_true,Bool.and_eq_true] at h
     have h1:=Nat.le_of_ble_eq_true h.1
     by_cases hd0:d=[]
     ·subst hd0;exact h1
     ·have:=ih (c+1) h.2 d q rfl hd.2 hd0
      rw [List.length_cons];omega
theorem runsOk_in:∀ (l:By) (c:Nat),runsOk l c=true->∀ p d q:By,l=p++(d++q)->d.all (on digB)=true->d.length<=18:=by
 intro l
 induction l with
 | nil=>intro c _ p d q e _;cases p with
   | nil=>cases d with
     | nil=>simp
     | cons x d=>cases e
   | cons x p=>cases e
 | cons b l ih =>
   intro c h p d q e hd
   cases p with
   | nil =>
     by_cases hd0:d=[]
     ·subst hd0;simp
     ·have:=runsOk_pre _ _ h d q e hd hd0;omega
   | cons x p =>
     cases e
     rw [runsOk_cons] at h
     cases hb:on digB b with
     | true =>
       rw [hb,cond_true,Bool.and_eq_true] at h
       exact ih _ h.2 p d q rfl hd
     | false =>
       rw [hb,cond_false] at h
       exact ih _ h p d q rfl hd
def Inf (w s:By):Prop:=∃ p q:By,s=p++(w++q)
theorem Inf.trans {a b c:By}(h:Inf a b) (k:Inf b c):Inf a c:=by
 obtain ⟨p,q,rfl⟩:=h
 obtain ⟨p',q',rfl⟩:=k
 exact ⟨p'++p,q++q',by simp [List.append_assoc]⟩
theorem Inf.self {a:By}:Inf a a:=⟨[],[],by simp⟩
theorem Inf.take {a:By}{n:Nat}:Inf (a.take n) a:=⟨[],a.drop n,by simp⟩
theorem Inf.drop {a:By}{n:Nat}:Inf (a.drop n) a:=⟨a.take n,[],by simp⟩
theorem Inf.len {a b:By}(h:Inf a b):a.length<=b.length:=by obtain ⟨p,q,rfl⟩:=h;simp;omega
theorem Inf.none {a:By}:Inf [] a:=⟨[],a,rfl⟩
theorem split_inf (c:UInt8):∀ (n:Nat) (s w:By),s.length<=n->w∈splitB c s->Inf w s:=by
 intro n
 induction n with
 | zero =>
   intro s w hs hw
   obtain rfl:=List.eq_nil_of_length_eq_zero (Nat.le_zero.1 hs)
   rw [show splitB c []=[[]] from rfl,List.mem_singleton] at hw
   rw [hw];exact .self
 | succ n ih =>
   intro s w hs hw
   rcases splitB_eq c s with ⟨-,h2⟩|⟨m,-,h2,h3⟩
   ·rw [h2,List.mem_singleton] at hw
    rw [hw];exact .self
   ·rw [h3] at hw
    rcases List.mem_cons.1 hw with rfl|hw
    ·exact .take
    ·exact (ih _ w (by rw [List.length_drop];omega) hw).trans .drop
theorem toksP_inf:∀ (ws:List By) (k:Nat) (t:Tok),t∈toksP ws k->t.1∈ws:=by
 intro ws
 induction ws with
 | nil=>intro k t h;cases h
 | cons w ws ih =>
   intro k t h
   unfold toksP at h
   rcases List.mem_append.1 h with h|h
   ·split at h
    ·cases h
    ·rw [List.mem_singleton] at h;subst h;exact List.mem_cons_self ..
   ·exact List.mem_cons_of_mem _ (ih _ t h)
theorem toksS_inf {l:By}{a:Nat}{t:Tok}(h:t∈toksS l a):Inf t.1 l:=by
 unfold toksS at h
 rcases List.mem_append.1 h with h|h
 ·exact split_inf 32 _ _ _ (Nat.le_refl _) (toksP_inf _ _ _ h)
 ·rw [List.mem_singleton] at h;subst h;exact .none
theorem fT_inf {s:By}{a:Nat}:∀ (f k:Nat) (t:Tok),t∈fT s a f k->Inf t.1 s:=by
 intro f
 induction f with
 | zero=>intro k t h;cases h
 | succ f ih =>
   intro k t h
   unfold fT at h
   split at h
   ·cases h
   ·split at h
    ·exact ih _ _ h
    ·rcases List.mem_cons.1 h with rfl|h
     ·exact Inf.take.trans .drop
     ·exact ih _ _ h
theorem fToks_inf {s:By}{a:Nat}{t:Tok}(h:t∈fToks s a):Inf t.1 s:=by
 unfold fToks at h
 rcases List.mem_append.1 h with h|h
 ·exact fT_inf _ _ _ h
 ·rw [List.mem_singleton] at h;subst h;exact .none
theorem cut_inf {t:By}:Inf (cutS t).1 t:=by
 unfold cutS
 split
 ·exact .self
 ·exact .take
theorem line_ok {s l:By}{a:Nat}(hr:runsOk s 0=true) (hl:s.length<=4000) (h:l∈splitB 10 s):LineOk l a:=by
 have hi:=split_inf 10 _ s l (Nat.le_refl _) h
 have key:∀ w:By,Inf w s->w.length<10000000/\(numB w=true->w.length<19):=by
  intro w hw
  have:=hw.len
  refine ⟨om,fun hn=>?_⟩
  obtain ⟨p,q,e⟩:=hw
  have:=runsOk_in s 0 hr p w q e (numB_all hn).1
  omega
 refine ⟨fun t ht=>key _ ((toksS_inf ht).trans hi),fun n t ht=>?_⟩
 have h1:=((fToks_inf ht).trans .drop).trans hi
 exact ⟨(key _ h1).1,fun hn=>(key _ (cut_inf.trans h1)).2 hn⟩
end Go.Proofs.T
