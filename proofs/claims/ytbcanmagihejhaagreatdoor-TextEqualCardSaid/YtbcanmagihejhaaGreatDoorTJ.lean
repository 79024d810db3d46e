/- xf Xv yN rows of digits: all numbers of LL lines are short. -/
import Derived.Test.YtbcanmagihejhaaGreatDoorTH
set_option linter.unusedSimpArgs false
set_option linter.unusedVariables false
set_option maxHeartbeats 32000000
set_option maxRecDepth 100000
namespace Go.Proofs.T
open Go Go.Ab
def Aa:By->Nat->Bool
 | [],_=>true
 | b::l,c=>bif on J9 b then Nat.ble (c+1) 18&&Aa l (c+1) else Aa l 0
theorem CY {b:UInt8}{l:By}{c:Nat}:Aa (b::l) c=bif on J9 b then Nat.ble (c+1) 18&&Aa l (c+1) else Aa l 0:=rfl
theorem Wz:∀ (l:By) (c:Nat),Aa l c=true->∀ d q:By,l=d++q->d.all (on J9)=true->d≠[]->c+d.length<=18:=by
 intro l;induction l with
 | nil=>intro c _ d q e _ hd;cases d with
   | nil=>exact absurd rfl hd
   | cons x d=>cases e
 | cons b l ih =>
   intro c h d q e hd hne;cases d with
   | nil=>exact absurd rfl hne
   | cons x d =>
     cases e;rw [List.all_cons,Bool.and_eq_true] at hd;rw [CY,hd.1,cond_true,Bool.and_eq_true] at h;have h1:=Nat.le_of_ble_eq_true h.1;by_cases hd0:d=[]
     ·subst hd0;exact h1
     ·have:=ih (c+1) h.2 d q rfl hd.2 hd0;rw [List.length_cons];omega
theorem bM:∀ (l:By) (c:Nat),Aa l c=true->∀ p d q:By,l=p++(d++q)->d.all (on J9)=true->d.length<=18:=by
 intro l;induction l with
 | nil=>intro c _ p d q e _;cases p with
   | nil=>cases d with
     | nil=>simp
     | cons x d=>cases e
   | cons x p=>cases e
 | cons b l ih =>
   intro c h p d q e hd;cases p with
   | nil =>
     by_cases hd0:d=[]
     ·subst hd0;simp
     ·have:=Wz _ _ h d q e hd hd0;omega
   | cons x p =>
     cases e;rw [CY] at h;cases hb:on J9 b with
     | true =>
       rw [hb,cond_true,Bool.and_eq_true] at h;exact ih _ h.2 p d q rfl hd
     | false =>
       rw [hb,cond_false] at h;exact ih _ h p d q rfl hd
def Inf (w s:By):Prop:=∃ p q:By,s=p++(w++q)
theorem Inf.trans {a b c:By}(h:Inf a b) (k:Inf b c):Inf a c:=by
 obtain ⟨p,q,rfl⟩:=h;obtain ⟨p',q',rfl⟩:=k;exact ⟨p'++p,q++q',by simp [List.append_assoc]⟩
theorem Inf.self {a:By}:Inf a a:=⟨[],[],by simp⟩
theorem Inf.take {a:By}{n:Nat}:Inf (a.take n) a:=⟨[],a.drop n,by simp⟩
theorem Inf.drop {a:By}{n:Nat}:Inf (a.drop n) a:=⟨a.take n,[],by simp⟩
theorem Inf.len {a b:By}(h:Inf a b):a.length<=b.length:=by obtain ⟨p,q,rfl⟩:=h;simp;omega
theorem Inf.none {a:By}:Inf [] a:=⟨[],a,rfl⟩
theorem QP (c:UInt8):∀ (n:Nat) (s w:By),s.length<=n->w∈I3 c s->Inf w s:=by
 intro n;induction n with
 | zero =>
   intro s w hs hw;obtain rfl:=List.eq_nil_of_length_eq_zero (Nat.le_zero.1 hs);rw [show I3 c []=[[]] from rfl,List.mem_singleton] at hw;rw [hw];exact .self
 | succ n ih =>
   intro s w hs hw;rcases HO c s with ⟨-,h2⟩|⟨m,-,h2,h3⟩
   ·rw [h2,List.mem_singleton] at hw;rw [hw];exact .self
   ·rw [h3] at hw;rcases List.mem_cons.1 hw with rfl|hw
    ·exact .take
    ·exact (ih _ w (by rw [List.length_drop];omega) hw).trans .drop
theorem bN:∀ (ws:List By) (k:Nat) (t:Tok),t∈AE ws k->t.1∈ws:=by
 intro ws;induction ws with
 | nil=>intro k t h;cases h
 | cons w ws ih =>
   intro k t h;unfold AE at h;rcases List.mem_append.1 h with h|h
   ·split at h
    ·cases h
    ·rw [List.mem_singleton] at h;subst h;exact List.mem_cons_self ..
   ·exact List.mem_cons_of_mem _ (ih _ t h)
theorem bO {l:By}{a:Nat}{t:Tok}(h:t∈C4 l a):Inf t.1 l:=by
 unfold C4 at h;rcases List.mem_append.1 h with h|h
 ·exact QP 32 _ _ _ (Nat.le_refl _) (bN _ _ _ h)
 ·rw [List.mem_singleton] at h;subst h;exact .none
theorem uG {s:By}{a:Nat}:∀ (f k:Nat) (t:Tok),t∈fT s a f k->Inf t.1 s:=by
 intro f;induction f with
 | zero=>intro k t h;cases h
 | succ f ih =>
   intro k t h;unfold fT at h;split at h
   ·cases h
   ·split at h
    ·exact ih _ _ h
    ·rcases List.mem_cons.1 h with rfl|h
     ·exact Inf.take.trans .drop
     ·exact ih _ _ h
theorem bP {s:By}{a:Nat}{t:Tok}(h:t∈Cr s a):Inf t.1 s:=by
 unfold Cr at h;rcases List.mem_append.1 h with h|h
 ·exact uG _ _ _ h
 ·rw [List.mem_singleton] at h;subst h;exact .none
theorem nn {t:By}:Inf (AU t).1 t:=by
 unfold AU;split
 ·exact .self
 ·exact .take
theorem mo {s l:By}{a:Nat}(hr:Aa s 0=true) (hl:s.length<=4000) (h:l∈I3 10 s):Kc l a:=by
 have hi:=QP 10 _ s l (Nat.le_refl _) h;have key:∀ w:By,Inf w s->w.length<10000000/\(FZ w=true->w.length<19):=by
  intro w hw;have:=hw.len;refine ⟨om,fun hn=>?_⟩;obtain ⟨p,q,e⟩:=hw;have:=bM s 0 hr p w q e (Jl hn).1;omega
 refine ⟨fun t ht=>key _ ((bO ht).trans hi),fun n t ht=>?_⟩;have h1:=((bP ht).trans .drop).trans hi;exact ⟨(key _ h1).1,fun hn=>(key _ (nn.trans h1)).2 hn⟩
end Go.Proofs.T
