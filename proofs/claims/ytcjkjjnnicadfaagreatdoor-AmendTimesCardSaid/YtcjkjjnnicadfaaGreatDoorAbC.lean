/- A region that draws its order: in whatever order its edges allow, it does what the order of the text does. -/
import Derived.Test.YtcjkjjnnicadfaaGreatDoorAbB
import Derived.LoopNIn
import Derived.TacticsIn
import Derived.RangeFuncIn
import Derived.RangeFuncRecord
import Derived.Below
import Derived.RangeFuncLeaves
set_option linter.unusedSimpArgs false
set_option linter.unusedVariables false
namespace Go.Ab
open Go
def Rd (os : Array Oper) (o : Oper) (t : Tmp) : Prop := .tmp t ∈ o.op.operands.toList ∨ ∃ j want, o.guard = some (j, want) ∧ dstOf os j = some t
def Clash (os : Array Oper) (x y : Oper) : Prop := ∃ t, (x.dst = some t ∧ (y.dst = some t ∨ Rd os y t)) ∨ (y.dst = some t ∧ Rd os x t)
structure DrawOk (os : Array Oper) : Prop where
  edge : ∀ i o e, os[i]? = some o → e ∈ o.after → Region.binds .any e = true → e.on < i
  eff : ∀ i j oi oj, i < j → os[i]? = some oi → os[j]? = some oj → isEff oi.op = true → isEff oj.op = true → Bef os i j
  names : ∀ i j oi oj, i < j → os[i]? = some oi → os[j]? = some oj → Clash os oi oj → Bef os i j
structure Chain (P : Program) (call : CallT) (os : Array Oper) (F : Nat → Fr) (S : Nat → St) (r : Nat → Option Stepped) (i : Nat) : Prop where
  step : ∀ k o, i ≤ k → os[k]? = some o → (wantsV os (F k) o = some true ∧ ∃ s, Ab.step P call (F k) (S k) o = some s ∧ r k = some s ∧ F (k + 1) = putV (F k) o.dst s.v ∧ S (k + 1) = s.σ) ∨
    (wantsV os (F k) o = some false ∧ r k = none ∧ F (k + 1) = putV (F k) o.dst undefV ∧ S (k + 1) = S k)
  np : ∀ k s, i ≤ k → r k = some s → s.d ≠ .pan
theorem onDid_none {β : Type} {d : Did} {x : Option β} {b : β} (h : onDid d x none = some b) : x = some b ∧ d ≠ .pan := by
  cases d with
  | pan => cases h
  | _ => exact ⟨h, fun h => (by cases h)⟩
theorem chain_of {P : Program} {call : CallT} {os : Array Oper} : ∀ (l : List Oper) (i : Nat) (fr : Fr) (σ : St) (ds : List Trace) (res : FST), os.toList.drop i = l → i ≤ os.size →
    opsD P call os l i fr σ ds = some res → ∃ F S r, F i = fr ∧ S i = σ ∧ F os.size = res.fr ∧ S os.size = res.σ ∧ Chain P call os F S r i ∧ (∀ d, d ∈ ds → d ∈ res.ds) ∧
      ∀ k s, i ≤ k → k < os.size → r k = some s → (∀ b, s.d = .read b → .read k b ∈ res.ds) ∧ (s.d = .eff → .eff k (S k) (S (k + 1)) ∈ res.ds) := by
  intro l
  induction l with
  | nil =>
    intro i fr σ ds res hl hi h
    cases h
    have : i = os.size := by
      have := congrArg List.length hl
      simp at this
      omega
    subst this
    exact ⟨fun _ => fr, fun _ => σ, fun _ => none, rfl, rfl, rfl, rfl, ⟨fun k o hk ho => by have := (Array.getElem?_eq_some_iff.1 ho).1; omega, fun k s _ h => (by cases h)⟩, fun _ h => h, fun k s h1 h2 _ => by omega⟩
  | cons o l ih =>
    intro i fr σ ds res hl hi h
    have hlt : i < os.size := by
      have := congrArg List.length hl
      simp at this
      omega
    have ho : os[i]? = some o := by
      have := congrArg (fun l : List Oper => l[0]?) hl
      simpa using this
    have hl' : os.toList.drop (i + 1) = l := by
      rw [← List.drop_drop, hl]; rfl
    obtain ⟨c, hw, h1⟩ := ob_eq (show ob (wantsV os fr o) (fun c => bi c (ob (Ab.step P call fr σ o) fun r => Stepped.rec (motive := fun _ => Option FST) (fun v σ' d => onDid d (opsD P call os l (i + 1) (putV fr o.dst v) σ' (traced i σ σ' d ds)) none) r)
      (opsD P call os l (i + 1) (putV fr o.dst undefV) σ ds)) = some res from h)
    cases c with
    | true =>
      obtain ⟨⟨v, σ', d⟩, h2, h3⟩ := ob_eq (show ob (Ab.step P call fr σ o) _ = some res from h1)
      obtain ⟨h3, hnp⟩ := onDid_none (show onDid d (opsD P call os l (i + 1) (putV fr o.dst v) σ' (traced i σ σ' d ds)) none = some res from h3)
      obtain ⟨F, S, r, f1, f2, f3, f4, f5, f6, f7⟩ := ih (i + 1) (putV fr o.dst v) σ' (traced i σ σ' d ds) res hl' (by omega) h3
      refine ⟨fun k => if k = i then fr else F k, fun k => if k = i then σ else S k, fun k => if k = i then some ⟨v, σ', d⟩ else r k, by simp, by simp, ?_, ?_, ⟨?_, ?_⟩, ?_, ?_⟩
      · show (if os.size = i then fr else F os.size) = _; rw [if_neg (by omega)]; exact f3
      · show (if os.size = i then σ else S os.size) = _; rw [if_neg (by omega)]; exact f4
      · intro k o' hk ho'
        by_cases hki : k = i
        · subst hki
          rw [ho] at ho'
          cases ho'
          simp only [if_true, if_neg (show ¬ k + 1 = k by omega)]
          exact .inl ⟨hw, _, h2, rfl, f1, f2⟩
        · simp only [if_neg hki, if_neg (show ¬ k + 1 = i by omega)]
          exact f5.step k o' (by omega) ho'
      · intro k s hk hs
        by_cases hki : k = i
        · subst hki; simp only [if_true] at hs; cases hs; exact hnp
        · simp only [if_neg hki] at hs; exact f5.np k s (by omega) hs
      · intro d' hd'
        refine f6 d' ?_
        unfold traced
        cases d <;> simp [hd']
      · intro k s hk hk2 hr
        by_cases hki : k = i
        · subst hki
          simp only [if_true] at hr
          cases hr
          refine ⟨fun b hb => f6 _ ?_, fun he => ?_⟩
          · change d = .read b at hb; subst hb; unfold traced; simp
          · change d = .eff at he
            subst he
            simp only [if_true, if_neg (show ¬ k + 1 = k by omega), f2]
            exact f6 _ (by unfold traced; simp)
        · simp only [if_neg hki] at hr
          simp only [if_neg hki, if_neg (show ¬ k + 1 = i by omega)]
          exact f7 k s (by omega) hk2 hr
    | false =>
      change opsD P call os l (i + 1) (putV fr o.dst undefV) σ ds = some res at h1
      obtain ⟨F, S, r, f1, f2, f3, f4, f5, f6, f7⟩ := ih (i + 1) (putV fr o.dst undefV) σ ds res hl' (by omega) h1
      refine ⟨fun k => if k = i then fr else F k, fun k => if k = i then σ else S k, fun k => if k = i then none else r k, by simp, by simp, ?_, ?_, ⟨?_, ?_⟩, f6, ?_⟩
      · show (if os.size = i then fr else F os.size) = _; rw [if_neg (by omega)]; exact f3
      · show (if os.size = i then σ else S os.size) = _; rw [if_neg (by omega)]; exact f4
      · intro k o' hk ho'
        by_cases hki : k = i
        · subst hki
          rw [ho] at ho'
          cases ho'
          simp only [if_true, if_neg (show ¬ k + 1 = k by omega)]
          exact .inr ⟨hw, trivial, f1, f2⟩
        · simp only [if_neg hki, if_neg (show ¬ k + 1 = i by omega)]
          exact f5.step k o' (by omega) ho'
      · intro k s hk hs
        by_cases hki : k = i
        · subst hki; simp at hs
        · simp only [if_neg hki] at hs; exact f5.np k s (by omega) hs
      · intro k s hk hk2 hr
        by_cases hki : k = i
        · subst hki; simp at hr
        · simp only [if_neg hki] at hr
          simp only [if_neg hki, if_neg (show ¬ k + 1 = i by omega)]
          exact f7 k s (by omega) hk2 hr
theorem allSame_mem {bs : List Nat} {i : Nat} {b : RowAt} : ∀ {l : List Trace}, allSame bs i b l = true → ∀ d ∈ l, sameVer bs i b d = true := by
  intro l
  induction l with
  | nil => intro _ d hd; simp at hd
  | cons x l ih =>
    intro h d hd
    change bi (sameVer bs i b x) (allSame bs i b l) false = true at h
    cases hx : sameVer bs i b x with
    | false => rw [hx] at h; cases h
    | true =>
      rw [hx] at h
      rcases List.mem_cons.1 hd with rfl | hd
      · exact hx
      · exact ih h d hd
theorem readsOk_mem {bs : List Nat} {all : List Trace} : ∀ {l : List Trace}, readsOk bs all l = true → ∀ i b, .read i b ∈ l → allSame bs i b all = true := by
  intro l
  induction l with
  | nil => intro _ i b hd; simp at hd
  | cons x l ih =>
    intro h i b hd
    cases x with
    | read i' b' =>
      change bi (allSame bs i' b' all) (readsOk bs all l) false = true at h
      cases hx : allSame bs i' b' all with
      | false => rw [hx] at h; cases h
      | true =>
        rw [hx] at h
        rcases List.mem_cons.1 hd with he | hd
        · cases he; exact hx
        · exact ih h i b hd
    | eff i' p q =>
      change readsOk bs all l = true at h
      rcases List.mem_cons.1 hd with he | hd
      · cases he
      · exact ih h i b hd
theorem veq_eq {v w : Value} (h : veq v w = true) : v = w := by
  have bii : ∀ {c x : Bool}, bi c x false = true → c = true ∧ x = true := by
    intro c x h
    cases c with
    | false => cases h
    | true => exact ⟨rfl, h⟩
  unfold veq at h
  split at h
  · split at h
    · rename_i b _ c
      cases b <;> cases c <;> first | rfl | cases h
    · cases h
  · split at h
    · obtain ⟨h1, h2⟩ := bii h
      rw [keq_eq h1]
      rw [ieq_iff] at h2
      rw [eq_of_beq h2]
    · cases h
  · split at h
    · rw [str_beq] at h
      rw [(MapKept.bytes_beq _ _).1 h]
    · cases h
  · split at h
    · rfl
    · cases h
  · split at h
    · obtain ⟨h1, h2⟩ := bii h
      rw [Nat.eq_of_beq_eq_true h1, Nat.eq_of_beq_eq_true h2]
    · cases h
  · split at h
    · obtain ⟨h1, h2⟩ := bii h
      rw [Nat.eq_of_beq_eq_true h1, Nat.eq_of_beq_eq_true h2]
    · cases h
  · split at h
    · obtain ⟨h1, h2⟩ := bii h
      obtain ⟨h2, h3⟩ := bii h2
      obtain ⟨h3, h4⟩ := bii h3
      rw [Nat.eq_of_beq_eq_true h1, Nat.eq_of_beq_eq_true h2, Nat.eq_of_beq_eq_true h3, Nat.eq_of_beq_eq_true h4]
    · cases h
  · split at h
    · obtain ⟨h1, h2⟩ := bii h
      obtain ⟨h2, h3⟩ := bii h2
      obtain ⟨h3, h4⟩ := bii h3
      obtain ⟨h4, h5⟩ := bii h4
      rw [Nat.eq_of_beq_eq_true h1, Nat.eq_of_beq_eq_true h2, Nat.eq_of_beq_eq_true h3, Nat.eq_of_beq_eq_true h4, Nat.eq_of_beq_eq_true h5]
    · cases h
  · split at h
    · rfl
    · cases h
  · split at h
    · rw [Nat.eq_of_beq_eq_true h]
    · cases h
  · cases h
theorem veqL_eq : ∀ {l k : List Value}, veqL l k = true → l = k := by
  intro l
  induction l with
  | nil => intro k h; cases k with | nil => rfl | cons => cases h
  | cons x l ih =>
    intro k h
    cases k with
    | nil => cases h
    | cons y k =>
      change bi (veq x y) (veqL l k) false = true at h
      cases hx : veq x y with
      | false => rw [hx] at h; cases h
      | true => rw [hx] at h; rw [veq_eq hx, ih h]
theorem sameRow_eq {x y : Option (List Value)} (h : sameRow x y = true) : x = y := by
  cases x with
  | none => cases h
  | some l =>
    cases y with
    | none => cases h
    | some k => rw [veqL_eq h]
noncomputable def seen (σ : St) (r : RowAt) : Option (List Value) := σ.read r.b r.off r.n
theorem reads_use {bs : List Nat} {ds : List Trace} (h : readsOk bs ds ds = true) {i j : Nat} {r : RowAt} {pre post : St} (hr : .read i r ∈ ds) (he : .eff j pre post ∈ ds) :
    ordered bs i j = true ∨ (r.b < pre.n → pre.ver r.b = post.ver r.b ∨ seen pre r = seen post r) := by
  have h1 := allSame_mem (readsOk_mem h i r hr) _ he
  change bi (ordered bs i j) true (bi (Nat.blt r.b pre.n) (bi (Nat.beq (pre.ver r.b) (post.ver r.b)) true (sameRow (seen pre r) (seen post r))) true) = true at h1
  cases ho : ordered bs i j with
  | true => exact .inl rfl
  | false =>
    right
    intro hb
    rw [ho] at h1
    change bi (Nat.blt r.b pre.n) _ true = true at h1
    rw [show Nat.blt r.b pre.n = true from by rw [Nat.blt_eq]; exact hb] at h1
    change bi (Nat.beq (pre.ver r.b) (post.ver r.b)) true (sameRow (seen pre r) (seen post r)) = true at h1
    cases hv : Nat.beq (pre.ver r.b) (post.ver r.b) with
    | true => exact .inl (Nat.eq_of_beq_eq_true hv)
    | false => rw [hv] at h1; exact .inr (sameRow_eq h1)
section
variable {P : Program} {base : Env} {G n : Nat} {call : CallT} {os : Array Oper} {F : Nat → Fr} {S : Nat → St} {r : Nat → Option Stepped}
def EffAt (r : Nat → Option Stepped) (i : Nat) : Prop := ∃ s, r i = some s ∧ s.d = .eff
theorem chain_class (hC : CallsOk P base G call) (hch : Chain P call os F S r 0) {k : Nat} {o : Oper} (ho : os[k]? = some o) {s : Stepped} (hs : r k = some s) :
    wantsV os (F k) o = some true ∧ Class P base G (F k) (S k) o s ∧ F (k + 1) = putV (F k) o.dst s.v ∧ S (k + 1) = s.σ := by
  rcases hch.step k o (Nat.zero_le _) ho with ⟨h1, s', h2, h3, h4, h5⟩ | ⟨h1, h2, h3, h4⟩
  · rw [hs] at h3
    cases h3
    exact ⟨h1, step_class hC h2, h4, h5⟩
  · rw [hs] at h2; cases h2
theorem chain_skip (hch : Chain P call os F S r 0) {k : Nat} {o : Oper} (ho : os[k]? = some o) (hs : r k = none) :
    wantsV os (F k) o = some false ∧ F (k + 1) = putV (F k) o.dst undefV ∧ S (k + 1) = S k := by
  rcases hch.step k o (Nat.zero_le _) ho with ⟨h1, s', h2, h3, h4, h5⟩ | ⟨h1, h2, h3, h4⟩
  · rw [hs] at h3; cases h3
  · exact ⟨h1, h3, h4⟩
theorem chain_adv1 (hC : CallsOk P base G call) (hch : Chain P call os F S r 0) {k : Nat} (hk : k < os.size) :
    Adv (S k) (S (k + 1)) ∧ (¬ EffAt r k → ∀ b, b < (S k).n → (S (k + 1)).h.get b = (S k).h.get b) := by
  have ho : os[k]? = some os[k] := Array.getElem?_eq_getElem hk
  cases hr : r k with
  | none =>
    obtain ⟨_, _, h3⟩ := chain_skip hch ho hr
    rw [h3]
    exact ⟨.refl _, fun _ _ _ => rfl⟩
  | some s =>
    obtain ⟨_, hcl, _, h5⟩ := chain_class hC hch ho hr
    rw [h5]
    cases hcl with
    | pure h => exact ⟨.refl _, fun _ _ _ => rfl⟩
    | new h => exact ⟨.new _ _, fun _ b hb => Tr.get_set_ne _ _ (by omega)⟩
    | read h => exact ⟨.refl _, fun _ _ _ => rfl⟩
    | eff h => exact ⟨h.1, fun hne => absurd ⟨_, hr, rfl⟩ hne⟩
    | pan h => exact absurd rfl (hch.np k _ (Nat.zero_le _) hr)
theorem chain_adv (hC : CallsOk P base G call) (hch : Chain P call os F S r 0) {i : Nat} : ∀ {j : Nat}, i ≤ j → j ≤ os.size → Adv (S i) (S j) := by
  intro j
  induction j with
  | zero => intro h1 _; obtain rfl : i = 0 := by omega
            exact .refl _
  | succ j ih =>
    intro h1 h2
    by_cases hij : i = j + 1
    · subst hij; exact .refl _
    · exact (ih (by omega) (by omega)).trans (chain_adv1 hC hch (by omega)).1
theorem chain_same (hC : CallsOk P base G call) (hch : Chain P call os F S r 0) {i b : Nat} (hb : b < (S i).n) : ∀ {j : Nat}, i ≤ j → j ≤ os.size →
    (∀ k, i ≤ k → k < j → EffAt r k → (S k).ver b = (S (k + 1)).ver b) → (S j).h.get b = (S i).h.get b := by
  intro j
  induction j with
  | zero => intro h1 _ _; obtain rfl : i = 0 := by omega
            rfl
  | succ j ih =>
    intro h1 h2 hv
    by_cases hij : i = j + 1
    · subst hij; rfl
    · have h3 := ih (by omega) (by omega) (fun k hk1 hk2 he => hv k hk1 (by omega) he)
      have hbj : b < (S j).n := Nat.lt_of_lt_of_le hb (chain_adv hC hch (by omega) (by omega)).n
      obtain ⟨a1, a2⟩ := chain_adv1 hC hch (k := j) (by omega)
      by_cases he : EffAt r j
      · rcases a1.ver b hbj with h4 | h4
        · exact h4.trans h3
        · have := hv j (by omega) (by omega) he
          omega
      · exact (a2 he b hbj).trans h3
theorem seen_get {σ σ' : St} {r : RowAt} (h : σ'.h.get r.b = σ.h.get r.b) : seen σ' r = seen σ r := by
  unfold seen St.read St.rblk St.blk
  rw [h]
theorem chain_seen (hC : CallsOk P base G call) (hch : Chain P call os F S r 0) {i : Nat} {x : RowAt} (hb : x.b < (S i).n) : ∀ {j : Nat}, i ≤ j → j ≤ os.size →
    (∀ k, i ≤ k → k < j → EffAt r k → seen (S k) x = seen (S (k + 1)) x) → seen (S j) x = seen (S i) x := by
  intro j
  induction j with
  | zero => intro h1 _ _; obtain rfl : i = 0 := by omega
            rfl
  | succ j ih =>
    intro h1 h2 hv
    by_cases hij : i = j + 1
    · subst hij; rfl
    · have h3 := ih (by omega) (by omega) (fun k hk1 hk2 he => hv k hk1 (by omega) he)
      have hbj : x.b < (S j).n := Nat.lt_of_lt_of_le hb (chain_adv hC hch (by omega) (by omega)).n
      obtain ⟨a1, a2⟩ := chain_adv1 hC hch (k := j) (by omega)
      by_cases he : EffAt r j
      · rw [← hv j (by omega) (by omega) he]; exact h3
      · rw [seen_get (a2 he x.b hbj)]; exact h3
def HybIs (os : Array Oper) (S : Nat → St) (k b : Nat) (B : Blk) : Prop :=
  (b < (S k).n ∧ (S k).blk b = some B) ∨ ∃ j, k ≤ j ∧ j < os.size ∧ (S j).n ≤ b ∧ b < (S (j + 1)).n ∧ (S (j + 1)).blk b = some B
structure Inv (base : Env) (os : Array Oper) (F : Nat → Fr) (S : Nat → St) (r : Nat → Option Stepped) (ρ₀ : Place) (a₀ : Act) (w₀ : World) (L : Nat → Prop) (ρ : Place) (a : Act) (w : World) (k : Nat) : Prop where
  kle : k ≤ os.size
  kpre : ∀ j, j < k → EffAt r j → L j
  kthis : k < os.size → EffAt r k ∧ ¬ L k
  kpost : ∀ j, k ≤ j → j < os.size → EffAt r j → ¬ L j
  down : ∀ j, L j → ∀ i, Bef os i j → L i
  ext : ∀ b, b < (S 0).n ∨ (S os.size).n ≤ b → ρ b = ρ₀ b
  unb : ∀ i, i < os.size → ¬ L i → ∀ b, (S i).n ≤ b → b < (S (i + 1)).n → ρ b = none
  le : ρ₀.le ρ
  tmp : ∀ t i, i ≤ os.size → (∀ j o, j < i → os[j]? = some o → o.dst = some t → L j) → (∀ j o, i ≤ j → os[j]? = some o → o.dst = some t → ¬ L j) →
    ∀ v, (F i).get t = some v → ∃ v', a.tmps[t]? = some v' ∧ VRel ρ v v'
  asize : a.tmps.size = a₀.tmps.size
  adef : a.defers = a₀.defers
  row : ∀ b q B, ρ b = some q → HybIs os S k b B → Sits base ρ w q B
  dom : ∀ b q, ρ b = some q → q.c < w.heap.size
  own : ∀ b q B, ρ b = some q → HybIs os S k b B → B.own = true → base.lo ≤ q.c
  sep : ∀ b q B b' q', ρ b = some q → HybIs os S k b B → B.own = true → b' ≠ b → ρ b' = some q' → ((S os.size).n ≤ b' ∨ ∃ B', HybIs os S k b' B') → q'.c ≠ q.c
  low : base.lo ≤ w.heap.size
  size : w₀.heap.size ≤ w.heap.size
  keep : ∀ c, c < w₀.heap.size → (∀ b q B, ρ₀ b = some q → q.c = c → (S 0).blk b = some B → B.own = false) → w.heap[c]? = w₀.heap[c]?
  owned : ∀ b q B, ρ b = some q → HybIs os S k b B → q.c < w₀.heap.size → ∃ b₀ q₀ B₀, ρ₀ b₀ = some q₀ ∧ q₀.c = q.c ∧ (S 0).blk b₀ = some B₀ ∧ (B.own = true → B₀.own = true)
  out : Outside w₀ w
  same : ∀ b, b < (S 0).n → ρ₀ b = none → (S k).h.get b = (S 0).h.get b
  birth : ∀ i, i < k → ¬ L i → ∀ b, (S i).n ≤ b → b < (S (i + 1)).n → (S k).h.get b = (S (i + 1)).h.get b
end
end Go.Ab
namespace Go.Ab
open Go
section
variable {P : Program} {base : Env} {G n : Nat} {call : CallT} {os : Array Oper} {F : Nat → Fr} {S : Nat → St} {r : Nat → Option Stepped}
structure Ctx (P : Program) (base : Env) (G n : Nat) (call : CallT) (os : Array Oper) (F : Nat → Fr) (S : Nat → St) (r : Nat → Option Stepped) : Prop where
  hC : CallsOk P base G call
  hO : ∀ (i : Nat) (o : Oper), os[i]? = some o → operOk P n G o = true
  hD : DrawOk os
  hch : Chain P call os F S r 0
  hR : ∀ i x j s s', r i = some s → s.d = .read x → r j = some s' → s'.d = .eff → i < os.size → j < os.size → (Bef os i j ∨ Bef os j i) ∨ (x.b < (S j).n → seen (S j) x = seen (S (j + 1)) x)
  fresh : ∀ b, (S 0).n ≤ b → (S 0).h.get b = none
theorem bef_lt (hD : DrawOk os) : ∀ (j i : Nat) (o : Oper), os[j]? = some o → Bef os i j → i < j := by
  intro j
  induction j using Nat.strongRecOn with
  | _ j ih =>
    intro i o ho hb
    obtain ⟨e, h1, h2, h3⟩ := before_spec ho hb
    have hlt := hD.edge j o e ho h1 h2
    rcases h3 with h3 | ⟨h3, h4⟩
    · omega
    · have hsz : e.on < os.size := by have := (Array.getElem?_eq_some_iff.1 ho).1; omega
      have := ih e.on hlt i os[e.on] (Array.getElem?_eq_getElem hsz) h4
      omega
structure Rdy (os : Array Oper) (L : Nat → Prop) (i : Nat) (o : Oper) : Prop where
  ho : os[i]? = some o
  no : ¬ L i
  all : ∀ e ∈ o.after, Region.binds .any e = true → L e.on
theorem Rdy.bef {L : Nat → Prop} {i : Nat} {o : Oper} (h : Rdy os L i o) (hd : ∀ j, L j → ∀ i, Bef os i j → L i) {j : Nat} (hb : Bef os j i) : L j := by
  obtain ⟨e, h1, h2, h3⟩ := before_spec h.ho hb
  have := h.all e h1 h2
  rcases h3 with h3 | ⟨_, h4⟩
  · rw [← h3]; exact this
  · exact hd _ this _ h4
theorem F_same (hch : Chain P call os F S r 0) {t : Tmp} {p : Nat} : ∀ {m : Nat}, p ≤ m → m ≤ os.size → (∀ j o, p ≤ j → j < m → os[j]? = some o → o.dst ≠ some t) → (F m).get t = (F p).get t := by
  intro m
  induction m with
  | zero => intro h _ _; obtain rfl : p = 0 := by omega
            rfl
  | succ m ih =>
    intro h1 h2 h3
    by_cases hpm : p = m + 1
    · subst hpm; rfl
    · rw [← ih (by omega) (by omega) fun j o a b c => h3 j o a (by omega) c]
      have hm : m < os.size := by omega
      have ho : os[m]? = some os[m] := Array.getElem?_eq_getElem hm
      have hne := h3 m os[m] (by omega) (by omega) ho
      have hput : ∀ v, (putV (F m) os[m].dst v).get t = (F m).get t := by
        intro v
        cases hd : os[m].dst with
        | none => rfl
        | some d =>
          rw [putV_some, Tr.get_set_ne]
          intro he; subst he; exact hne hd
      rcases hch.step m os[m] (Nat.zero_le _) ho with ⟨_, s, _, _, h4, _⟩ | ⟨_, _, h4, _⟩
      · rw [h4]; exact hput _
      · rw [h4]; exact hput _
section
variable {ρ₀ ρ : Place} {a₀ a : Act} {w₀ w : World} {L : Nat → Prop} {k i : Nat} {o : Oper}
theorem Inv.opnd (hX : Ctx P base G n call os F S r) (hI : Inv base os F S r ρ₀ a₀ w₀ L ρ a w k) (hi : Rdy os L i o) {t : Tmp} (ht : Rd os o t) {v : Value} (hv : (F i).get t = some v) :
    ∃ v', a.tmps[t]? = some v' ∧ VRel ρ v v' := by
  have hlt := (Array.getElem?_eq_some_iff.1 hi.ho).1
  refine hI.tmp t i (by omega) (fun j oj hj ho hd => ?_) (fun j oj hj ho hd hL => ?_) v hv
  · exact hi.bef hI.down (hX.hD.names j i oj o hj ho hi.ho ⟨t, .inl ⟨hd, .inr ht⟩⟩)
  · by_cases hji : j = i
    · subst hji; exact hi.no hL
    · exact hi.no (hI.down j hL i (hX.hD.names i j o oj (by omega) hi.ho ho ⟨t, .inr ⟨hd, ht⟩⟩))
theorem Inv.known (hX : Ctx P base G n call os F S r) (hI : Inv base os F S r ρ₀ a₀ w₀ L ρ a w k) (hi : Rdy os L i o) (hG : Glob ρ₀ G) : Known ρ (F i) a.eval o.op.operands.toList :=
  known_of (hG.mono hI.le) (hX.hO i o hi.ho) fun _ ht v hv => hI.opnd hX hi (.inl ht) hv
theorem Inv.wants (hX : Ctx P base G n call os F S r) (hI : Inv base os F S r ρ₀ a₀ w₀ L ρ a w k) (hi : Rdy os L i o) {c : Bool} (hw : wantsV os (F i) o = some c) : Region.wanted o (yielded os a.tmps) = c :=
  wants_rel hw fun j want t h1 h2 v hv => hI.opnd hX hi (.inr ⟨j, want, h1, h2⟩) hv
theorem Inv.tmp' (hX : Ctx P base G n call os F S r) (hI : Inv base os F S r ρ₀ a₀ w₀ L ρ a w k) (hi : Rdy os L i o) (hn : n ≤ a₀.tmps.size) {ρ' : Place} (hle : ρ.le ρ') {v v' : Value} (hF : F (i + 1) = putV (F i) o.dst v) (hv : VRel ρ' v v') :
    ∀ t m, m ≤ os.size → (∀ j oj, j < m → os[j]? = some oj → oj.dst = some t → L j ∨ j = i) → (∀ j oj, m ≤ j → os[j]? = some oj → oj.dst = some t → ¬ (L j ∨ j = i)) →
      ∀ u, (F m).get t = some u → ∃ u', (a.put o.dst v').tmps[t]? = some u' ∧ VRel ρ' u u' := by
  intro t m hm h1 h2 u hu
  by_cases hd : o.dst = some t
  · have him : i < m := by
      rcases Nat.lt_or_ge i m with hh | hh
      · exact hh
      · exact absurd (.inr rfl) (h2 i o hh hi.ho hd)
    have hsame := F_same hX.hch (t := t) (p := i + 1) (m := m) (by omega) hm (fun j oj hj1 hj2 hoj hdj => by
      rcases h1 j oj hj2 hoj hdj with hL | he
      · exact hi.no (hI.down j hL i (hX.hD.names i j o oj (by omega) hi.ho hoj ⟨t, .inl ⟨hd, .inl hdj⟩⟩))
      · omega)
    rw [hsame, hF, hd, putV_some, Tr.get_set_same] at hu
    cases hu
    refine ⟨v', ?_, hv⟩
    rw [hd]
    show (a.tmps.setIfInBounds t v')[t]? = _
    rw [Array.getElem?_setIfInBounds_self_of_lt]
    exact Nat.lt_of_lt_of_le (dst_of (hX.hO i o hi.ho) t hd) (by rw [hI.asize]; exact hn)
  · have key := hI.tmp t m hm (fun j oj hj ho hdj => by
        rcases h1 j oj hj ho hdj with hL | he
        · exact hL
        · subst he; rw [hi.ho] at ho; cases ho; exact absurd hdj hd)
      (fun j oj hj ho hdj hL => h2 j oj hj ho hdj (.inl hL)) u hu
    obtain ⟨u', k1, k2⟩ := key
    refine ⟨u', ?_, k2.mono hle⟩
    cases hod : o.dst with
    | none => exact k1
    | some d =>
      show (a.tmps.setIfInBounds d v')[t]? = _
      rw [Array.getElem?_setIfInBounds_ne (by intro he; subst he; exact hd hod)]
      exact k1
theorem Inv.down' (hI : Inv base os F S r ρ₀ a₀ w₀ L ρ a w k) (hi : Rdy os L i o) : ∀ j, (L j ∨ j = i) → ∀ i', Bef os i' j → (L i' ∨ i' = i) := by
  intro j hj i' hb
  rcases hj with hj | rfl
  · exact .inl (hI.down j hj i' hb)
  · exact .inl (hi.bef hI.down hb)
theorem Inv.quiet (hX : Ctx P base G n call os F S r) (hI : Inv base os F S r ρ₀ a₀ w₀ L ρ a w k) (hi : Rdy os L i o) (hn : n ≤ a₀.tmps.size) {v v' : Value} (hF : F (i + 1) = putV (F i) o.dst v) (hv : VRel ρ v v') (hne : ¬ EffAt r i) :
    Inv base os F S r ρ₀ a₀ w₀ (fun j => L j ∨ j = i) ρ (a.put o.dst v') w k where
  kle := hI.kle
  kpre := fun j h1 h2 => .inl (hI.kpre j h1 h2)
  kthis := fun h => ⟨(hI.kthis h).1, fun hL => hL.elim (hI.kthis h).2 fun he => hne (he ▸ (hI.kthis h).1)⟩
  kpost := fun j h1 h2 h3 hL => hL.elim (hI.kpost j h1 h2 h3) fun he => hne (he ▸ h3)
  down := hI.down' hi
  ext := hI.ext
  unb := fun i' h1 h2 => hI.unb i' h1 fun h => h2 (.inl h)
  le := hI.le
  tmp := hI.tmp' hX hi hn (Place.le_refl _) hF hv
  asize := by rw [put_size]; exact hI.asize
  adef := by rw [put_defers]; exact hI.adef
  row := hI.row
  dom := hI.dom
  own := hI.own
  sep := hI.sep
  low := hI.low
  size := hI.size
  keep := hI.keep
  owned := hI.owned
  out := hI.out
  same := hI.same
  birth := fun i' h1 h2 => hI.birth i' h1 fun h => h2 (.inl h)
theorem born_unique (hX : Ctx P base G n call os F S r) {i j b : Nat} (hi : i < os.size) (hj : j < os.size) (h1 : (S i).n ≤ b) (h2 : b < (S (i + 1)).n) (h3 : (S j).n ≤ b) (h4 : b < (S (j + 1)).n) : i = j := by
  rcases Nat.lt_trichotomy i j with h | h | h
  · have := (chain_adv hX.hC hX.hch (i := i + 1) (j := j) (by omega) (by omega)).n; omega
  · exact h
  · have := (chain_adv hX.hC hX.hch (i := j + 1) (j := i) (by omega) (by omega)).n; omega
theorem Inv.new (hX : Ctx P base G n call os F S r) (hI : Inv base os F S r ρ₀ a₀ w₀ L ρ a w k) (hi : Rdy os L i o) (hn : n ≤ a₀.tmps.size) {cs : List Value} {v v' : Value} (hF : F (i + 1) = putV (F i) o.dst v) (hS : S (i + 1) = (S i).new cs) (hne : ¬ EffAt r i)
    {w' : World} {arr : Array Value} {el : TypeId} {lo hi' : Nat} {vs more : List Value} (hs : w'.heap.size = w.heap.size + 1) (hnew : w'.heap[w.heap.size]? = some (.cells arr el (lo, hi'))) (hold : ∀ c, c < w.heap.size → w'.heap[c]? = w.heap[c]?)
    (ho : Outside w w') (hfz : arr.size ≤ lo ∨ hi' ≤ lo) (hc : ∀ v ∈ cs, isCell v = true) (harr : arr.toList = vs ++ more) (hvs : VsRel ρ cs vs)
    (hv : ∀ ρ' : Place, ρ' (S i).n = some ⟨w.heap.size, 0, arr.size⟩ → VRel ρ' v v') :
    Inv base os F S r ρ₀ a₀ w₀ (fun j => L j ∨ j = i) (ρ.put (S i).n ⟨w.heap.size, 0, arr.size⟩) (a.put o.dst v') w' k := by
  have hlt := (Array.getElem?_eq_some_iff.1 hi.ho).1
  have hSn : (S (i + 1)).n = (S i).n + 1 := by rw [hS]; rfl
  have hfree : ρ (S i).n = none := hI.unb i hlt hi.no _ (Nat.le_refl _) (by omega)
  have hle := Place.put_le (ρ := ρ) ⟨w.heap.size, 0, arr.size⟩ hfree
  have hbirth : (S (i + 1)).h.get (S i).n = some ⟨cs, true, true, 0, .row⟩ := by rw [hS]; exact Tr.get_set_same _ _ _
  have hki : k ≠ i := fun he => by
    subst he
    exact hne (hI.kthis hlt).1
  have hB : ∀ B, HybIs os S k (S i).n B → B = ⟨cs, true, true, 0, .row⟩ := by
    intro B hB
    rcases hB with ⟨h1, h2⟩ | ⟨j, h1, h2, h3, h4, h5⟩
    · have hik : i < k := by
        rcases Nat.lt_or_ge i k with hh | hh
        · exact hh
        · have := (chain_adv hX.hC hX.hch hh (by omega)).n; omega
      have h6 := hI.birth i hik hi.no (S i).n (Nat.le_refl _) (by omega)
      rw [hbirth] at h6
      have h7 := (blk_get h2).1
      rw [h6] at h7
      cases h7; rfl
    · have := born_unique hX hlt h2 (Nat.le_refl _) (by omega) h3 h4
      subst this
      have h7 := (blk_get h5).1
      rw [hbirth] at h7
      cases h7; rfl
  have h0i := (chain_adv hX.hC hX.hch (i := 0) (j := i) (by omega) (by omega)).n
  have hin := (chain_adv hX.hC hX.hch (i := i + 1) (j := os.size) (by omega) (by omega)).n
  refine ⟨hI.kle, fun j h1 h2 => .inl (hI.kpre j h1 h2), fun h => ⟨(hI.kthis h).1, fun hL => hL.elim (hI.kthis h).2 fun he => hki he⟩, fun j h1 h2 h3 hL => hL.elim (hI.kpost j h1 h2 h3) fun he => hne (he ▸ h3),
    hI.down' hi, ?_, ?_, Place.le_trans hI.le hle, hI.tmp' hX hi hn hle hF (hv _ (Place.put_same _ _ _)), by rw [put_size]; exact hI.asize, by rw [put_defers]; exact hI.adef, ?_, ?_, ?_, ?_, ?_, ?_, ?_, ?_, hI.out.trans ho, hI.same, fun i' h1 h2 => hI.birth i' h1 fun h => h2 (.inl h)⟩
  · intro b hb
    rw [Place.put_ne _ _ (by omega)]; exact hI.ext b hb
  · intro i' h1 h2 b h3 h4
    rw [Place.put_ne _ _ ?_]
    · exact hI.unb i' h1 (fun h => h2 (.inl h)) b h3 h4
    · intro he
      subst he
      exact h2 (.inr (born_unique hX h1 hlt h3 h4 (Nat.le_refl _) (by omega)))
  · intro b q B hb hHy
    by_cases hbn : b = (S i).n
    · subst hbn
      rw [Place.put_same] at hb; cases hb
      rw [hB B hHy]
      have hl := hvs.length
      refine .row rfl ⟨arr, el, lo, hi', hnew, rfl, ?_, fun _ => hfz, hc, fun j u hj => ?_⟩
      · show 0 + cs.length ≤ arr.size
        rw [← Array.length_toList, harr]; simp; omega
      · obtain ⟨u', h3, h4⟩ := hvs.get hj
        refine ⟨u', ?_, h4.mono hle⟩
        show arr[0 + j]? = _
        rw [← Array.getElem?_toList, harr, Nat.zero_add, List.getElem?_append_left (List.getElem?_eq_some_iff.1 h3).1]
        exact h3
    · rw [Place.put_ne _ _ hbn] at hb
      exact (hI.row b q B hb hHy).mono hle (hold q.c (hI.dom b q hb))
  · intro b q hb
    by_cases hbn : b = (S i).n
    · subst hbn; rw [Place.put_same] at hb; cases hb; show w.heap.size < _; omega
    · rw [Place.put_ne _ _ hbn] at hb; have := hI.dom b q hb; omega
  · intro b q B hb hHy hO
    by_cases hbn : b = (S i).n
    · subst hbn; rw [Place.put_same] at hb; cases hb; exact hI.low
    · rw [Place.put_ne _ _ hbn] at hb; exact hI.own b q B hb hHy hO
  · intro b q B b' q' hb hHy hO hbb hb' hl
    by_cases hbn : b = (S i).n
    · subst hbn
      rw [Place.put_same] at hb; cases hb
      rw [Place.put_ne _ _ hbb] at hb'
      have := hI.dom b' q' hb'
      show q'.c ≠ w.heap.size; omega
    · rw [Place.put_ne _ _ hbn] at hb
      by_cases hbn' : b' = (S i).n
      · subst hbn'; rw [Place.put_same] at hb'; cases hb'
        have := hI.dom b q hb
        show w.heap.size ≠ q.c; omega
      · rw [Place.put_ne _ _ hbn'] at hb'
        exact hI.sep b q B b' q' hb hHy hO hbb hb' hl
  · have := hI.low; omega
  · have := hI.size; omega
  · intro c h1 h2
    rw [hold c (by have := hI.size; omega)]; exact hI.keep c h1 h2
  · intro b q B hb hHy hcs
    by_cases hbn : b = (S i).n
    · subst hbn; rw [Place.put_same] at hb; cases hb; change w.heap.size < _ at hcs; have := hI.size; omega
    · rw [Place.put_ne _ _ hbn] at hb; exact hI.owned b q B hb hHy hcs
theorem Inv.read_seg (hX : Ctx P base G n call os F S r) (hI : Inv base os F S r ρ₀ a₀ w₀ L ρ a w k) (hi : Rdy os L i o) {s : Stepped} {x : RowAt} (hr : r i = some s) (hd : s.d = .read x) {cs : List Value} (hcs : seen (S i) x = some cs) {q : Spot} (hq : ρ x.b = some q) :
    Seg ρ w q x.off cs := by
  have hlt := (Array.getElem?_eq_some_iff.1 hi.ho).1
  obtain ⟨x1, xo, xn⟩ := x
  generalize hb' : x1 = b at *
  have hfr : ∀ j, j ≤ os.size → ∀ b, (S j).n ≤ b → (S j).h.get b = none := fun j hj => (chain_adv hX.hC hX.hch (i := 0) (j := j) (by omega) hj).fresh hX.fresh
  have hbi : b < (S i).n := by
    rcases Nat.lt_or_ge b (S i).n with hh | hh
    · exact hh
    · obtain ⟨B, hB, _⟩ := read_parts (show (S i).read b xo xn = some cs from hcs)
      have := (blk_get (rblk_blk hB).1).1; rw [hfr i (by omega) b hh] at this; cases this
  have hne : ¬ EffAt r i := by rintro ⟨s', h1, h2⟩; rw [hr] at h1; cases h1; rw [hd] at h2; cases h2
  have hki : k ≠ i := fun he => by subst he; exact hne (hI.kthis hlt).1
  have done : ∀ j, seen (S j) ⟨b, xo, xn⟩ = seen (S i) ⟨b, xo, xn⟩ → (∀ B, (S j).blk b = some B → HybIs os S k b B) → Seg ρ w q xo cs := by
    intro j hj hH
    rw [hcs] at hj
    obtain ⟨B, hB, hsub⟩ := read_parts (show (S j).read b xo xn = some cs from hj)
    obtain ⟨hB1, hB2⟩ := rblk_blk hB
    have hs := hI.row b q B hq (hH B hB1)
    unfold Sits at hs
    rw [hB2] at hs
    exact (Row.seg hs hsub).1
  rcases Nat.lt_or_ge i k with hik | hik
  · have hbk : b < (S k).n := Nat.lt_of_lt_of_le hbi (chain_adv hX.hC hX.hch (by omega) hI.kle).n
    refine done k (chain_seen hX.hC hX.hch hbi (by omega) hI.kle fun j h1 h2 h3 => ?_) (fun B hB => .inl ⟨hbk, hB⟩)
    obtain ⟨s', h4, h5⟩ := h3
    have hj : j < os.size := by have := hI.kle; omega
    have hji : j ≠ i := fun he => by subst he; exact hne ⟨s', h4, h5⟩
    rcases hX.hR i _ j s s' hr hd h4 h5 hlt hj with (h6 | h6) | h6
    · exact absurd (hI.down j (hI.kpre j h2 ⟨s', h4, h5⟩) i h6) hi.no
    · have := bef_lt hX.hD i j o hi.ho h6; omega
    · exact h6 (Nat.lt_of_lt_of_le hbi (chain_adv hX.hC hX.hch (by omega) (by omega)).n)
  · have hlate : ∀ j, k ≤ j → j < i → EffAt r j → b < (S j).n → seen (S j) ⟨b, xo, xn⟩ = seen (S (j + 1)) ⟨b, xo, xn⟩ := by
      intro j h1 h2 h3 h4
      obtain ⟨s', h5, h6⟩ := h3
      rcases hX.hR i _ j s s' hr hd h5 h6 hlt (by omega) with (h7 | h7) | h7
      · have := bef_lt hX.hD j i os[j] (Array.getElem?_eq_getElem (by omega)) h7; omega
      · exact absurd (hi.bef hI.down h7) (hI.kpost j h1 (by omega) ⟨s', h5, h6⟩)
      · exact h7 h4
    by_cases hbk : b < (S k).n
    · refine done k ?_ (fun B hB => .inl ⟨hbk, hB⟩)
      exact (chain_seen (x := ⟨b, xo, xn⟩) hX.hC hX.hch hbk (by omega) (by omega) fun j h1 h2 h3 => hlate j h1 h2 h3 (Nat.lt_of_lt_of_le hbk (chain_adv hX.hC hX.hch h1 (by omega)).n)).symm
    · have hborn : ∃ j, k ≤ j ∧ j < i ∧ (S j).n ≤ b ∧ b < (S (j + 1)).n := by
        have : ∀ m, k ≤ m → m ≤ i → b < (S m).n → ∃ j, k ≤ j ∧ j < m ∧ (S j).n ≤ b ∧ b < (S (j + 1)).n := by
          intro m
          induction m with
          | zero => intro h1 h2 h3; obtain rfl : k = 0 := by omega
                    exact absurd h3 hbk
          | succ m ih =>
            intro h1 h2 h3
            by_cases hm : b < (S m).n
            · have hkm : k ≤ m := by
                rcases Nat.lt_or_ge m k with hh | hh
                · obtain rfl : k = m + 1 := by omega
                  exact absurd h3 hbk
                · exact hh
              obtain ⟨j, g1, g2, g3, g4⟩ := ih hkm (by omega) hm
              exact ⟨j, g1, by omega, g3, g4⟩
            · have hkm : k ≤ m := by
                rcases Nat.lt_or_ge m k with hh | hh
                · obtain rfl : k = m + 1 := by omega
                  exact absurd h3 hbk
                · exact hh
              exact ⟨m, hkm, by omega, by omega, h3⟩
        exact this i (by omega) (Nat.le_refl _) hbi
      obtain ⟨j, g1, g2, g3, g4⟩ := hborn
      refine done (j + 1) ?_ (fun B hB => .inr ⟨j, g1, by omega, g3, g4, hB⟩)
      exact (chain_seen (x := ⟨b, xo, xn⟩) hX.hC hX.hch g4 (by omega) (by omega) fun m h1 h2 h3 => hlate m (by omega) h2 h3 (Nat.lt_of_lt_of_le g4 (chain_adv hX.hC hX.hch h1 (by omega)).n)).symm
theorem Inv.effect (hX : Ctx P base G n call os F S r) (hI : Inv base os F S r ρ₀ a₀ w₀ L ρ a w i) (hi : Rdy os L i o) (hn : n ≤ a₀.tmps.size) {ρ' : Place} {w' : World} {v v' : Value} (hF : F (i + 1) = putV (F i) o.dst v)
    (hR : Rel base ρ' (S (i + 1)) w') (hf : Fram ρ (S i) w ρ' (S (i + 1)) w') (hle : ρ.le ρ') (hv : VRel ρ' v v') {k' : Nat} (hk1 : i < k') (hk2 : k' ≤ os.size) (hk3 : ∀ j, i < j → j < k' → ¬ EffAt r j) (hk4 : k' < os.size → EffAt r k') :
    Inv base os F S r ρ₀ a₀ w₀ (fun j => L j ∨ j = i) ρ' (a.put o.dst v') w' k' := by
  have hlt := (Array.getElem?_eq_some_iff.1 hi.ho).1
  have nmono : ∀ x y, x ≤ y → y ≤ os.size → (S x).n ≤ (S y).n := fun x y h1 h2 => (chain_adv hX.hC hX.hch h1 h2).n
  have h0i := nmono 0 i (by omega) (by omega)
  have hin := nmono (i + 1) os.size (by omega) (by omega)
  have hik := nmono (i + 1) k' (by omega) hk2
  have hii := nmono i (i + 1) (by omega) (by omega)
  have later : ∀ b x, i + 1 ≤ x → x ≤ k' → b < (S x).n → (S k').h.get b = (S x).h.get b := fun b x h1 h2 h3 =>
    chain_same hX.hC hX.hch h3 h2 hk2 fun j g1 g2 g3 => absurd g3 (hk3 j (by omega) (by omega))
  have blk_eq : ∀ {b x y}, (S x).h.get b = (S y).h.get b → (S x).blk b = (S y).blk b := by
    intro b x y h
    show ob ((S x).h.get b) _ = ob ((S y).h.get b) _
    rw [h]
  have hlow : ∀ {b q}, ρ b = some q → b < (S i).n ∨ (S (i + 1)).n ≤ b := by
    intro b q hb
    rcases Nat.lt_or_ge b (S i).n with hh | hh
    · exact .inl hh
    · rcases Nat.lt_or_ge b (S (i + 1)).n with hh' | hh'
      · rw [hI.unb i hlt hi.no b hh hh'] at hb; cases hb
      · exact .inr hh'
  -- a block is either one that the operation knew or made, or one that was made out of the text's order
  have split : ∀ b q B, ρ' b = some q → HybIs os S k' b B → (b < (S (i + 1)).n ∧ (S (i + 1)).blk b = some B) ∨ ((S (i + 1)).n ≤ b ∧ ρ b = some q ∧ HybIs os S i b B) := by
    intro b q B hb hHy
    rcases hHy with ⟨h1, h2⟩ | ⟨j, h1, h2, h3, h4, h5⟩
    · rcases Nat.lt_or_ge b (S (i + 1)).n with hh | hh
      · exact .inl ⟨hh, by rw [← blk_eq (later b (i + 1) (Nat.le_refl _) hk1 hh)]; exact h2⟩
      · right
        refine ⟨hh, by rw [← hf.ext b (.inr hh)]; exact hb, .inr ?_⟩
        have : ∀ m, i + 1 ≤ m → m ≤ k' → b < (S m).n → ∃ j, i + 1 ≤ j ∧ j < m ∧ (S j).n ≤ b ∧ b < (S (j + 1)).n := by
          intro m
          induction m with
          | zero => intro g1 _ _; omega
          | succ m ih =>
            intro g1 g2 g3
            have him : i + 1 ≤ m := by
              rcases Nat.lt_or_ge i m with g | g
              · exact g
              · obtain rfl : m = i := by omega
                omega
            by_cases hm : b < (S m).n
            · obtain ⟨j, g4, g5, g6, g7⟩ := ih him (by omega) hm
              exact ⟨j, g4, by omega, g6, g7⟩
            · exact ⟨m, him, by omega, by omega, g3⟩
        obtain ⟨j, g1, g2, g3, g4⟩ := this k' hk1 (Nat.le_refl _) h1
        exact ⟨j, by omega, by omega, g3, g4, by rw [← blk_eq (later b (j + 1) (by omega) (by omega) g4)]; exact h2⟩
    · have hge : (S (i + 1)).n ≤ b := Nat.le_trans (nmono (i + 1) j (by omega) (by omega)) h3
      exact .inr ⟨hge, by rw [← hf.ext b (.inr hge)]; exact hb, .inr ⟨j, by omega, h2, h3, h4, h5⟩⟩
  have core : ∀ b B, (S i).blk b = some B → HybIs os S i b B := by
    intro b B hB
    refine .inl ⟨?_, hB⟩
    rcases Nat.lt_or_ge b (S i).n with hh | hh
    · exact hh
    · have h1 := (blk_get hB).1
      rw [(chain_adv hX.hC hX.hch (i := 0) (j := i) (by omega) (by omega)).fresh hX.fresh b hh] at h1; cases h1
  have hsz := hI.size
  have hfs := hf.size
  refine ⟨hk2, ?_, ?_, ?_, hI.down' hi, ?_, ?_, Place.le_trans hI.le hle, hI.tmp' hX hi hn hle hF hv, by rw [put_size]; exact hI.asize, by rw [put_defers]; exact hI.adef, ?_, hR.dom, ?_, ?_, hR.low, by omega, ?_, ?_, hI.out.trans hf.out, ?_, ?_⟩
  · intro j h1 h2
    rcases Nat.lt_trichotomy j i with h | h | h
    · exact .inl (hI.kpre j h h2)
    · exact .inr h
    · exact absurd h2 (hk3 j h h1)
  · intro h
    refine ⟨hk4 h, fun hL => hL.elim (hI.kpost k' (by omega) h (hk4 h)) fun he => by omega⟩
  · intro j h1 h2 h3 hL
    rcases hL with hL | hL
    · exact hI.kpost j (by omega) h2 h3 hL
    · omega
  · intro b hb
    rw [hf.ext b (by omega)]; exact hI.ext b hb
  · intro i' h1 h2 b h3 h4
    have hii' : i' ≠ i := fun he => h2 (.inr he)
    have : b < (S i).n ∨ (S (i + 1)).n ≤ b := by
      rcases Nat.lt_or_ge i' i with h | h
      · have := nmono (i' + 1) i (by omega) (by omega); omega
      · have := nmono (i + 1) i' (by omega) (by omega); omega
    rw [hf.ext b this]
    exact hI.unb i' h1 (fun h => h2 (.inl h)) b h3 h4
  · intro b q B hb hHy
    rcases split b q B hb hHy with ⟨_, h2⟩ | ⟨h1, h2, h3⟩
    · exact hR.sits b q B hb h2
    · refine (hI.row b q B h2 h3).mono hle (hf.keep q.c (hI.dom b q h2) fun b1 q1 B1 g1 g2 g3 => ?_)
      cases hO : B1.own with
      | false => rfl
      | true =>
        have hb1 : b1 < (S i).n := by rcases core b1 B1 g3 with ⟨g, _⟩ | ⟨j, g4, g5, g6, g7, g8⟩
                                      · exact g
                                      · rcases hlow g1 with g | g
                                        · exact g
                                        · have := (blk_get g3).1
                                          rw [(chain_adv hX.hC hX.hch (i := 0) (j := i) (by omega) (by omega)).fresh hX.fresh b1 (by omega)] at this; cases this
        exact absurd g2.symm (hI.sep b1 q1 B1 b q g1 (core b1 B1 g3) hO (by omega) h2 (.inr ⟨B, h3⟩))
  · intro b q B hb hHy hO
    rcases split b q B hb hHy with ⟨_, h2⟩ | ⟨h1, h2, h3⟩
    · exact hR.own b q B hb h2 hO
    · exact hI.own b q B h2 h3 hO
  · intro b q B b' q' hb hHy hO hbb hb' hl
    rcases split b q B hb hHy with ⟨h1, h2⟩ | ⟨h1, h2, h3⟩
    · refine hR.sep b q B b' q' hb h2 hO hbb hb' ?_
      rcases hl with hl | ⟨B', hl⟩
      · exact .inl (by omega)
      · rcases split b' q' B' hb' hl with ⟨_, g2⟩ | ⟨g1, _, _⟩
        · exact .inr ⟨B', g2⟩
        · exact .inl g1
    · rcases hl with hl | ⟨B', hl⟩
      · have hb'' : ρ b' = some q' := by rw [← hf.ext b' (.inr (by omega))]; exact hb'
        exact hI.sep b q B b' q' h2 h3 hO hbb hb'' (.inl hl)
      · rcases split b' q' B' hb' hl with ⟨g1, g2⟩ | ⟨g1, g2, g3⟩
        · intro he
          have hqc := hI.dom b q h2
          obtain ⟨b₀, q₀, B₀, j1, j2, j3, _⟩ := hf.owned b' q' B' hb' g2 (by omega)
          have hb0 := core b₀ B₀ j3
          have hne0 : b₀ ≠ b := by
            rcases hlow j1 with g | g
            · omega
            · have := (blk_get j3).1
              rw [(chain_adv hX.hC hX.hch (i := 0) (j := i) (by omega) (by omega)).fresh hX.fresh b₀ (by omega)] at this; cases this
          exact hI.sep b q B b₀ q₀ h2 h3 hO hne0 j1 (.inr ⟨B₀, hb0⟩) (by omega)
        · exact hI.sep b q B b' q' h2 h3 hO hbb g2 (.inr ⟨B', g3⟩)
  · intro c h1 h2
    rw [hf.keep c (by omega) ?_]
    · exact hI.keep c h1 h2
    · intro b1 q1 B1 g1 g2 g3
      cases hO : B1.own with
      | false => rfl
      | true =>
        obtain ⟨b₀, q₀, B₀, j1, j2, j3, j4⟩ := hI.owned b1 q1 B1 g1 (core b1 B1 g3) (by omega)
        have := h2 b₀ q₀ B₀ j1 (by omega) j3
        rw [j4 hO] at this; cases this
  · intro b q B hb hHy hcs
    rcases split b q B hb hHy with ⟨h1, h2⟩ | ⟨h1, h2, h3⟩
    · obtain ⟨b₁, q₁, B₁, g1, g2, g3, g4⟩ := hf.owned b q B hb h2 (by omega)
      obtain ⟨b₀, q₀, B₀, j1, j2, j3, j4⟩ := hI.owned b₁ q₁ B₁ g1 (core b₁ B₁ g3) (by omega)
      exact ⟨b₀, q₀, B₀, j1, by omega, j3, fun h => j4 (g4 h)⟩
    · exact hI.owned b q B h2 h3 hcs
  · intro b h1 h2
    rw [later b (i + 1) (Nat.le_refl _) hk1 (by omega), hf.same b (by omega) (by rw [hI.ext b (.inl h1)]; exact h2)]
    exact hI.same b h1 h2
  · intro i' h1 h2 b h3 h4
    have hii' : i' ≠ i := fun he => h2 (.inr he)
    rcases Nat.lt_or_ge i' i with h | h
    · have hbi := nmono (i' + 1) i (by omega) (by omega)
      rw [later b (i + 1) (Nat.le_refl _) hk1 (by omega), hf.same b (by omega) (hI.unb i' (by omega) (fun h => h2 (.inl h)) b h3 h4)]
      exact hI.birth i' h (fun h => h2 (.inl h)) b h3 h4
    · exact later b (i' + 1) (by omega) (by omega) h4
end
end
end Go.Ab
namespace Go.Ab
open Go
theorem count_set : ∀ (l : List Bool) (i : Nat), l[i]? = some false → (l.set i true).count false + 1 = l.count false := by
  intro l
  induction l with
  | nil => intro i h; simp at h
  | cons x l ih =>
    intro i h
    cases i with
    | zero => simp at h; subst h; simp
    | succ i =>
      have := ih i (by simpa using h)
      rw [List.set_cons_succ, List.count_cons, List.count_cons]
      omega
theorem none_false : ∀ (l : List Bool), l.count false = 0 → ∀ i, i < l.length → l[i]? = some true := by
  intro l
  induction l with
  | nil => intro _ i h; simp at h
  | cons x l ih =>
    intro h i hi
    rw [List.count_cons] at h
    cases x with
    | false => simp at h
    | true =>
      cases i with
      | zero => rfl
      | succ i => simpa using ih (by simpa using h) i (by simpa using hi)
section
variable {P : Program} {base : Env} {G n : Nat} {call : CallT} {os : Array Oper} {F : Nat → Fr} {S : Nat → St} {r : Nat → Option Stepped}
theorem next_eff (r : Nat → Option Stepped) (m : Nat) : ∀ (d i : Nat), m = i + d → ∃ k, i ≤ k ∧ k ≤ m ∧ (∀ j, i ≤ j → j < k → ¬ EffAt r j) ∧ (k < m → EffAt r k) := by
  intro d
  induction d with
  | zero => intro i h; exact ⟨i, Nat.le_refl _, by omega, fun j h1 h2 => by omega, fun h => by omega⟩
  | succ d ih =>
    intro i h
    by_cases he : EffAt r i
    · exact ⟨i, Nat.le_refl _, by omega, fun j h1 h2 => by omega, fun _ => he⟩
    · obtain ⟨k, h1, h2, h3, h4⟩ := ih (i + 1) (by omega)
      refine ⟨k, by omega, h2, fun j g1 g2 => ?_, h4⟩
      by_cases hj : j = i
      · subst hj; exact he
      · exact h3 j (by omega) g2
variable {ρ₀ : Place} {a₀ : Act} {w₀ : World}
theorem inv_rel {L : Nat → Prop} {ρ : Place} {a : Act} {w : World} {i : Nat} (hX : Ctx P base G n call os F S r) (hI : Inv base os F S r ρ₀ a₀ w₀ L ρ a w i) (hi : i < os.size) : Rel base ρ (S i) w ∧ Free ρ (S i).n (S (i + 1)).n := by
  have fr := (chain_adv hX.hC hX.hch (i := 0) (j := i) (by omega) (by omega)).fresh hX.fresh
  have core : ∀ b B, (S i).blk b = some B → HybIs os S i b B := by
    intro b B hB
    refine .inl ⟨?_, hB⟩
    rcases Nat.lt_or_ge b (S i).n with hh | hh
    · exact hh
    · have h1 := (blk_get hB).1
      rw [fr b hh] at h1; cases h1
  refine ⟨⟨fr, fun b q B h1 h2 => hI.row b q B h1 (core b B h2), hI.dom, fun b q B h1 h2 h3 => hI.own b q B h1 (core b B h2) h3, ?_, hI.low⟩, hI.unb i hi (hI.kthis hi).2⟩
  intro b q B b' q' h1 h2 h3 h4 h5 h6
  refine hI.sep b q B b' q' h1 (core b B h2) h3 h4 h5 ?_
  rcases h6 with h6 | ⟨B', h6⟩
  · rcases Nat.lt_or_ge b' (S os.size).n with hh | hh
    · right
      have : ∀ m, i ≤ m → m ≤ os.size → b' < (S m).n → ∃ j, i ≤ j ∧ j < m ∧ (S j).n ≤ b' ∧ b' < (S (j + 1)).n := by
        intro m
        induction m with
        | zero => intro g1 g2 g3; obtain rfl : i = 0 := by omega
                  omega
        | succ m ih =>
          intro g1 g2 g3
          by_cases him : i = m + 1
          · subst him; omega
          · by_cases hm : b' < (S m).n
            · obtain ⟨j, g4, g5, g6, g7⟩ := ih (by omega) (by omega) hm
              exact ⟨j, g4, by omega, g6, g7⟩
            · exact ⟨m, by omega, by omega, by omega, g3⟩
      obtain ⟨j, g1, g2, g3, g4⟩ := this os.size (by omega) (Nat.le_refl _) hh
      have hLj : L j := by
        apply Classical.byContradiction
        intro hL
        rw [hI.unb j g2 hL b' g3 g4] at h5; cases h5
      have hne : ¬ EffAt r j := fun he => hI.kpost j g1 g2 he hLj
      have ho : os[j]? = some os[j] := Array.getElem?_eq_getElem g2
      cases hr : r j with
      | none =>
        obtain ⟨_, _, k3⟩ := chain_skip hX.hch ho hr
        rw [k3] at g4; omega
      | some s =>
        obtain ⟨_, hcl, _, k5⟩ := chain_class hX.hC hX.hch ho hr
        cases hcl with
        | pure h => change S (j + 1) = S j at k5; rw [k5] at g4; omega
        | read h => change S (j + 1) = S j at k5; rw [k5] at g4; omega
        | eff h => exact absurd ⟨_, hr, rfl⟩ hne
        | pan h => exact absurd rfl (hX.hch.np j _ (Nat.zero_le _) hr)
        | @new cs vf h =>
          change S (j + 1) = (S j).new cs at k5
          have hb : b' = (S j).n := by rw [k5] at g4; change b' < (S j).n + 1 at g4; omega
          subst hb
          exact ⟨_, .inr ⟨j, g1, g2, g3, g4, by rw [k5]; exact new_blk_same _ _⟩⟩
    · exact .inl hh
  · exact .inr ⟨B', core b' B' h6⟩
theorem inv_end {L : Nat → Prop} {ρ : Place} {a : Act} {w : World} {k : Nat} (hX : Ctx P base G n call os F S r) (hI : Inv base os F S r ρ₀ a₀ w₀ L ρ a w k) (hall : ∀ i, i < os.size → L i) :
    Rel base ρ (S os.size) w ∧ Fram ρ₀ (S 0) w₀ ρ (S os.size) w ∧ FRel ρ (F os.size) a := by
  have hk : k = os.size := by
    rcases Nat.lt_or_ge k os.size with h | h
    · exact absurd (hall k h) (hI.kthis h).2
    · have := hI.kle; omega
  subst hk
  have adv := chain_adv hX.hC hX.hch (i := 0) (j := os.size) (by omega) (Nat.le_refl _)
  have fr := adv.fresh hX.fresh
  have core : ∀ b B, (S os.size).blk b = some B → HybIs os S os.size b B := by
    intro b B hB
    refine .inl ⟨?_, hB⟩
    rcases Nat.lt_or_ge b (S os.size).n with hh | hh
    · exact hh
    · have h1 := (blk_get hB).1
      rw [fr b hh] at h1; cases h1
  refine ⟨⟨fr, fun b q B h1 h2 => hI.row b q B h1 (core b B h2), hI.dom, fun b q B h1 h2 h3 => hI.own b q B h1 (core b B h2) h3, ?_, hI.low⟩, ⟨hI.ext, adv.n, hI.size, hI.keep, fun b q B h1 h2 h3 => hI.owned b q B h1 (core b B h2) h3, hI.out, hI.same⟩, ?_⟩
  · intro b q B b' q' h1 h2 h3 h4 h5 h6
    refine hI.sep b q B b' q' h1 (core b B h2) h3 h4 h5 (h6.imp id fun ⟨B', h⟩ => ⟨B', core b' B' h⟩)
  · intro t v hv
    exact hI.tmp t os.size (Nat.le_refl _) (fun j o h1 _ _ => hall j h1) (fun j o h1 h2 _ => by have := (Array.getElem?_eq_some_iff.1 h2).1; omega) v hv
theorem chain_noDefer (hch : Chain P call os F S r 0) {k : Nat} {o : Oper} (ho : os[k]? = some o) {s : Stepped} (hs : r k = some s) : ∀ c, o.op ≠ .defer c := by
  rcases hch.step k o (Nat.zero_le _) ho with ⟨h1, s', h2, h3, h4, h5⟩ | ⟨h1, h2, h3, h4⟩
  · exact step_noDefer h2
  · rw [hs] at h2; cases h2
theorem draw_any {rd : Option Nat} (hX : Ctx P base G n call os F S r) (hn : n ≤ a₀.tmps.size) (hG : Glob ρ₀ G) {Q : Exit → Act → World → Prop}
    (hQ : ∀ ρ' a' w', Rel base ρ' (S os.size) w' → Fram ρ₀ (S 0) w₀ ρ' (S os.size) w' → FRel ρ' (F os.size) a' → a'.tmps.size = a₀.tmps.size → a'.defers = a₀.defers → Q .normal a' w') :
    ∀ (fuel : Nat) (listed : Array Bool) (ρ : Place) (a : Act) (w : World) (k : Nat), listed.size = os.size → listed.toList.count false ≤ fuel →
      Inv base os F S r ρ₀ a₀ w₀ (fun j => listed.getD j false = true) ρ a w k → wpAnyIn (FW rd) 0 P .any os Q fuel listed a w := by
  have fin : ∀ (listed : Array Bool) (ρ : Place) (a : Act) (w : World) (k : Nat), listed.size = os.size → Inv base os F S r ρ₀ a₀ w₀ (fun j => listed.getD j false = true) ρ a w k → Region.ready .any os listed = [] → Q .normal a w := by
    intro listed ρ a w k hsz hI hr
    have hall : ∀ i, i < os.size → listed.getD i false = true := by
      intro i
      induction i using Nat.strongRecOn with
      | _ i ih =>
        intro hi
        apply Classical.byContradiction
        intro hL
        have hmem : i ∈ Region.ready .any os listed := by
          rw [mem_ready]
          refine ⟨?_, os[i], Array.getElem?_eq_getElem hi, fun e he hb => ?_⟩
          · rw [Array.getD_eq_getD_getElem?] at hL ⊢
            rw [Array.getElem?_eq_getElem (by omega)] at hL ⊢
            simpa using hL
          · have := hX.hD.edge i os[i] e (Array.getElem?_eq_getElem hi) he hb
            exact ih e.on this (by omega)
        rw [hr] at hmem
        cases hmem
    obtain ⟨h1, h2, h3⟩ := inv_end hX hI hall
    exact hQ ρ a w h1 h2 h3 hI.asize hI.adef
  intro fuel
  induction fuel with
  | zero =>
    intro listed ρ a w k hsz hc hI
    have hr : Region.ready .any os listed = [] := by
      apply List.eq_nil_iff_forall_not_mem.2
      intro i hi
      rw [mem_ready] at hi
      obtain ⟨h1, o, ho, _⟩ := hi
      have hlt := (Array.getElem?_eq_some_iff.1 ho).1
      have := none_false listed.toList (by omega) i (by rw [Array.length_toList]; omega)
      rw [Array.getElem?_toList] at this
      rw [Array.getD_eq_getD_getElem?, this] at h1
      cases h1
    exact ⟨hr, fin listed ρ a w k hsz hI hr⟩
  | succ fuel ih =>
    intro listed ρ a w k hsz hc hI
    refine ⟨fin listed ρ a w k hsz hI, fun i hi => ?_⟩
    rw [mem_ready] at hi
    obtain ⟨h1, o, ho, h2⟩ := hi
    have hlt := (Array.getElem?_eq_some_iff.1 ho).1
    have hfalse : listed[i]? = some false := by
      rw [Array.getD_eq_getD_getElem?, Array.getElem?_eq_getElem (by omega)] at h1
      rw [Array.getElem?_eq_getElem (by omega)]
      simpa using h1
    have hno : ¬ listed.getD i false = true := by rw [Array.getD_eq_getD_getElem?, hfalse]; simp
    have hi : Rdy os (fun j => listed.getD j false = true) i o := ⟨ho, hno, h2⟩
    have hset : (fun j => (listed.setIfInBounds i true).getD j false = true) = fun j => listed.getD j false = true ∨ j = i := by
      funext j
      apply propext
      by_cases hj : j = i
      · subst hj
        simp [Array.getD_eq_getD_getElem?, Array.getElem?_setIfInBounds_self_of_lt (show j < listed.size by omega)]
      · rw [getD_set_ne false (fun h => hj h.symm)]
        simp [hj]
    have go : ∀ ρ' a' w' k', Inv base os F S r ρ₀ a₀ w₀ (fun j => listed.getD j false = true ∨ j = i) ρ' a' w' k' → wpAnyIn (FW rd) 0 P .any os Q fuel (listed.setIfInBounds i true) a' w' := by
      intro ρ' a' w' k' hI'
      refine ih _ ρ' a' w' k' (by simpa using hsz) ?_ (by rw [hset]; exact hI')
      have := count_set listed.toList i (by rw [Array.getElem?_toList]; exact hfalse)
      rw [Array.toList_setIfInBounds]
      omega
    unfold wpOpIn
    rw [ho]
    simp only
    cases hr : r i with
    | none =>
      obtain ⟨g1, g2, _⟩ := chain_skip hX.hch ho hr
      rw [if_neg (by rw [hI.wants hX hi g1]; simp)]
      exact ⟨fun _ _ => trivial, go _ _ _ _ (hI.quiet hX hi hn g2 (.tuple .nil) fun ⟨s, h, _⟩ => by rw [hr] at h; cases h)⟩
    | some s =>
      obtain ⟨g1, g2, g3, g4⟩ := chain_class hX.hC hX.hch ho hr
      rw [if_pos (hI.wants hX hi g1)]
      have hd : ∀ c, o.op ≠ .defer c := chain_noDefer hX.hch ho hr
      have hk := hI.known hX hi hG
      cases g2 with
      | @pure v h =>
        obtain ⟨v', e1, e2⟩ := h ρ a.eval w hk
        refine wpIn_of hd ?_
        rw [e1, Oper.uponIn_value]
        exact go _ _ _ _ (hI.quiet hX hi hn g3 e2 fun ⟨s, h1, h2⟩ => by rw [hr] at h1; cases h1; cases h2)
      | @read v b h =>
        obtain ⟨⟨cs, hcs⟩, h⟩ := h
        obtain ⟨_, h⟩ := h ρ a.eval w hk
        obtain ⟨v', e1, e2⟩ := h fun q cs' hq hcs' => hI.read_seg hX hi hr rfl hcs' hq
        refine wpIn_of hd ?_
        rw [e1, Oper.uponIn_value]
        exact go _ _ _ _ (hI.quiet hX hi hn g3 e2 fun ⟨s, h1, h2⟩ => by rw [hr] at h1; cases h1; cases h2)
      | @new cs vf h =>
        obtain ⟨w', v', arr, el, lo, hi', vs, more, e1, e2, e3, e4, e5, e6, e7, e8, e9, e10⟩ := h ρ a.eval w hk
        refine wpIn_of hd ?_
        rw [e1, Oper.uponIn_value]
        exact go _ _ _ _ (hI.new hX hi hn g3 g4 (fun ⟨s, h1, h2⟩ => by rw [hr] at h1; cases h1; cases h2) e2 e3 e4 e5 e6 e7 e8 e9 fun ρ' hq => e10 ρ' _ hq)
      | @eff v σ' h =>
        have heff : EffAt r i := ⟨_, hr, rfl⟩
        have hki : k = i := by
          rcases Nat.lt_trichotomy k i with hh | hh | hh
          · obtain ⟨⟨s', j1, j2⟩, j3⟩ := hI.kthis (by omega)
            have hok : os[k]? = some os[k] := Array.getElem?_eq_getElem (by omega)
            obtain ⟨_, j5, _, _⟩ := chain_class hX.hC hX.hch hok j1
            have j6 : isEff os[k].op = true := by
              cases j5 with
              | eff h' => exact h'.2.1
              | pure _ => cases j2
              | new _ => cases j2
              | read _ => cases j2
              | pan _ => cases j2
            exact absurd (hi.bef hI.down (hX.hD.eff k i os[k] o hh hok ho j6 h.2.1)) j3
          · exact hh
          · exact absurd (hI.kpre i hh heff) hno
        subst hki
        obtain ⟨hR, hF⟩ := inv_rel hX hI hlt
        change S (k + 1) = σ' at g4
        subst g4
        obtain ⟨k', m1, m2, m3, m4⟩ := next_eff r os.size (os.size - (k + 1)) (k + 1) (by omega)
        refine h.2.2 ρ a w _ hk hR hF (Nat.le_refl _) (hG.mono hI.le) _ _ _ fun v' w' ρ' q1 q2 q3 => ?_
        exact go _ _ _ k' (hI.effect hX hi hn g3 q1 q2 (q2.le hF (Nat.le_refl _)) q3 (by omega) m2 (fun j x1 x2 => m3 j (by omega) x2) m4)
      | pan h => exact absurd rfl (hX.hch.np i _ (Nat.zero_le _) hr)
end
/- The check, once, on the text. -/
def dmask (o : Oper) : Nat := match o.dst with
  | some t => 2 ^ t
  | none => 0
def tmask (x : Operand) : Nat := match x with
  | .tmp t => 2 ^ t
  | _ => 0
noncomputable def omask (l : List Operand) : Nat := List.rec (motive := fun _ => Nat) 0 (fun x _ ih => Nat.lor (tmask x) ih) l
def gmask (os : Array Oper) (o : Oper) : Nat := match o.guard with
  | some (j, _) => (match dstOf os j with
    | some t => 2 ^ t
    | none => 0)
  | none => 0
structure PInfo where
  i : Nat
  d : Nat
  m : Nat
  e : Bool
noncomputable def pairOk (b d m : Nat) (e : Bool) (p : PInfo) : Bool :=
  bi (Nat.beq (Nat.land p.d (Nat.lor d m)) 0 && (Nat.beq (Nat.land d p.m) 0 && !(e && p.e))) true (Nat.testBit b p.i)
def edgeOk (j : Nat) (e : Edge) : Bool := !(Region.binds .any e) || Nat.blt e.on j
noncomputable def drawGo (os : Array Oper) : List Oper → List Nat → Nat → List PInfo → Bool
  | [], _, _, _ => true
  | _ :: _, [], _, _ => false
  | o :: l, b :: bs, j, prev => (o.after.toList.all (edgeOk j)) && ((prev.all (pairOk b (dmask o) (Nat.lor (omask o.op.operands.toList) (gmask os o)) (isEff o.op))) &&
      drawGo os l bs (j + 1) (⟨j, dmask o, Nat.lor (omask o.op.operands.toList) (gmask os o), isEff o.op⟩ :: prev))
noncomputable def drawOk (os : Array Oper) : Bool := drawGo os os.toList (Region.before os).toList 0 []
theorem omask_bit {t : Tmp} : ∀ {l : List Operand}, Operand.tmp t ∈ l → Nat.testBit (omask l) t = true := by
  intro l
  induction l with
  | nil => intro h; simp at h
  | cons x l ih =>
    intro h
    show Nat.testBit (tmask x ||| omask l) t = true
    rw [Nat.testBit_or, Bool.or_eq_true]
    rcases List.mem_cons.1 h with rfl | h
    · left; show Nat.testBit (2 ^ t) t = true; simp
    · exact .inr (ih h)
theorem rd_bit {os : Array Oper} {o : Oper} {t : Tmp} (h : Rd os o t) : Nat.testBit (Nat.lor (omask o.op.operands.toList) (gmask os o)) t = true := by
  show Nat.testBit (omask o.op.operands.toList ||| gmask os o) t = true
  rw [Nat.testBit_or, Bool.or_eq_true]
  rcases h with h | ⟨j, want, h1, h2⟩
  · exact .inl (omask_bit h)
  · right
    unfold gmask
    rw [h1]
    simp [h2]
theorem dst_bit {o : Oper} {t : Tmp} (h : o.dst = some t) : Nat.testBit (dmask o) t = true := by unfold dmask; rw [h]; simp
theorem land_ne {a b t : Nat} (h1 : Nat.testBit a t = true) (h2 : Nat.testBit b t = true) : Nat.beq (Nat.land a b) 0 = false := by
  rw [Bool.eq_false_iff]
  intro h
  have h3 := Nat.eq_of_beq_eq_true h
  have h4 : Nat.testBit (a &&& b) t = true := by rw [Nat.testBit_and, h1, h2]; rfl
  change a &&& b = 0 at h3
  rw [h3] at h4
  simp at h4
theorem drawGo_spec {os : Array Oper} : ∀ (l : List Oper) (bs : List Nat) (j : Nat) (prev : List PInfo), drawGo os l bs j prev = true → os.toList.drop j = l → (Region.before os).toList.drop j = bs →
    (∀ i o, i < j → os[i]? = some o → ⟨i, dmask o, Nat.lor (omask o.op.operands.toList) (gmask os o), isEff o.op⟩ ∈ prev) →
    ∀ k o, j ≤ k → os[k]? = some o → (∀ e ∈ o.after, Region.binds .any e = true → e.on < k) ∧ ∀ i oi, i < k → os[i]? = some oi → ((isEff oi.op = true ∧ isEff o.op = true) ∨ Clash os oi o) → Bef os i k := by
  intro l
  induction l with
  | nil =>
    intro bs j prev _ hl _ _ k o hk ho
    have := congrArg List.length hl
    simp at this
    have := (Array.getElem?_eq_some_iff.1 ho).1
    omega
  | cons x l ih =>
    intro bs j prev h hl hb hp k o hk ho
    cases bs with
    | nil => cases h
    | cons b bs =>
      have hx : os[j]? = some x := by
        have := congrArg (fun l : List Oper => l[0]?) hl
        simpa using this
      have hbj : (Region.before os).toList.getD j 0 = b := by
        have := congrArg (fun l : List Nat => l[0]?) hb
        rw [List.getD_eq_getElem?_getD]
        simp only [List.getElem?_drop, Nat.add_zero, List.getElem?_cons_zero] at this
        rw [this]
        rfl
      unfold drawGo at h
      rw [Bool.and_eq_true, Bool.and_eq_true] at h
      obtain ⟨h1, h2, h3⟩ := h
      by_cases hkj : k = j
      · subst hkj
        rw [hx] at ho
        cases ho
        rw [List.all_eq_true] at h1 h2
        refine ⟨fun e he hbd => ?_, fun i oi hik hoi hcl => ?_⟩
        · have := h1 e (by simpa using he)
          unfold edgeOk at this
          rw [hbd] at this
          simp [Nat.blt_eq] at this
          exact this
        · have hpk := h2 _ (hp i oi hik hoi)
          change bi (Nat.beq (Nat.land (dmask oi) (Nat.lor (dmask x) (Nat.lor (omask x.op.operands.toList) (gmask os x)))) 0 && (Nat.beq (Nat.land (dmask x) (Nat.lor (omask oi.op.operands.toList) (gmask os oi))) 0 && !(isEff x.op && isEff oi.op))) true (Nat.testBit b i) = true at hpk
          have hneed : (Nat.beq (Nat.land (dmask oi) (Nat.lor (dmask x) (Nat.lor (omask x.op.operands.toList) (gmask os x)))) 0 && (Nat.beq (Nat.land (dmask x) (Nat.lor (omask oi.op.operands.toList) (gmask os oi))) 0 && !(isEff x.op && isEff oi.op))) = false := by
            rcases hcl with ⟨e1, e2⟩ | ⟨t, ⟨d1, d2⟩ | ⟨d1, d2⟩⟩
            · rw [e1, e2]; simp
            · have : Nat.testBit (Nat.lor (dmask x) (Nat.lor (omask x.op.operands.toList) (gmask os x))) t = true := by
                show Nat.testBit (dmask x ||| Nat.lor (omask x.op.operands.toList) (gmask os x)) t = true
                rw [Nat.testBit_or, Bool.or_eq_true]
                rcases d2 with d2 | d2
                · exact .inl (dst_bit d2)
                · exact .inr (rd_bit d2)
              rw [land_ne (dst_bit d1) this]; rfl
            · rw [land_ne (dst_bit d1) (rd_bit d2)]; simp
          rw [hneed] at hpk
          show Nat.testBit ((Region.before os).toList.getD k 0) i = true
          rw [hbj]
          exact hpk
      · refine ih bs (j + 1) _ h3 (by rw [← List.drop_drop, hl]; rfl) (by rw [← List.drop_drop, hb]; rfl) (fun i o' hi ho' => ?_) k o (by omega) ho
        by_cases hij : i = j
        · subst hij; rw [hx] at ho'; cases ho'; simp
        · exact List.mem_cons_of_mem _ (hp i o' (by omega) ho')
theorem drawOk_spec {os : Array Oper} (h : drawOk os = true) : DrawOk os := by
  have key := drawGo_spec os.toList (Region.before os).toList 0 [] h rfl rfl (fun i o hi _ => by omega)
  exact ⟨fun i o e ho he hb => (key i o (Nat.zero_le _) ho).1 e he hb, fun i j oi oj hij hi hj e1 e2 => (key j oj (Nat.zero_le _) hj).2 i oi hij hi (.inl ⟨e1, e2⟩),
    fun i j oi oj hij hi hj hc => (key j oj (Nat.zero_le _) hj).2 i oi hij hi (.inr hc)⟩
end Go.Ab
namespace Go.Ab
open Go
def ExR (ρ : Place) (o : Out) (e : Exit) : Prop := match o with
 | .normal => e = .normal
 | .exit i => e = .exit i
 | .ret => e = .ret
 | .pan v => ∃ v', e = panX v' ∧ VRel ρ v v'
noncomputable def codeOk (P : Program) (n G : Nat) (c : Code) : Bool :=
 Code.rec (motive := fun _ => Bool) true
  (fun _ os draw => bi (os.toList.all (operOk P n G)) (bi draw (drawOk os) true) false)
  (fun _ _ a b => bi a b false)
  (fun c _ _ a b => bi (opndOk G c) (bi a b false) false)
  (fun _ _ a => a) (fun _ a => a) (fun f ps _ _ a b => bi (opndOk G f) (bi (ps.toList.all fun p => Nat.blt p n) (bi a b false) false) false) (fun _ => true) (fun _ a => a) (fun _ => true) (fun _ => true) true (fun _ => true) c
noncomputable def funcOk (P : Program) (G : Nat) (fn : Func) : Bool :=
 bi (fn.name == "runtime.NumGoroutine") false (Option.rec (motive := fun _ => Bool) true (fun c => codeOk P fn.ntmps G c) fn.body)
noncomputable def funcsOk (P : Program) (H : Sums) (G : Nat) (l : List Func) : Nat → Bool :=
 List.rec (motive := fun _ => Nat → Bool) (fun _ => true) (fun fn _ ih k => bi (bi (H k).isSome true (funcOk P G fn)) (ih (k + 1)) false) l
theorem bi_false_eq {c x : Bool} (h : bi c x false = true) : c = true ∧ x = true := by
 cases c with
 | false => cases h
 | true => exact ⟨rfl, h⟩
theorem funcsOk_mem {P : Program} {H : Sums} {G : Nat} : ∀ {l : List Func} {k : Nat}, funcsOk P H G l k = true → ∀ (i : Nat) (fn : Func), l[i]? = some fn → H (k + i) = none → funcOk P G fn = true := by
 intro l
 induction l with
 | nil => intro k _ i fn h; simp at h
 | cons x l ih =>
  intro k h i fn hf hH
  obtain ⟨h1, h2⟩ := bi_false_eq (show bi (bi (H k).isSome true (funcOk P G x)) (funcsOk P H G l (k + 1)) false = true from h)
  cases i with
  | zero =>
   simp at hf
   subst hf
   rw [show H k = none from hH] at h1
   exact h1
  | succ i => exact ih h2 i fn (by simpa using hf) (by rw [show k + 1 + i = k + (i + 1) from by omega]; exact hH)
/- The marks that ranges over functions leave among an activation's deferred calls. -/
def markOf (D : Nat) : Deferred := { target := .collected D, args := #[] }
structure Marks (lo : Nat) (w : World) (ds : List Deferred) : Prop where
 ex : ∃ Ds : List Nat, ds = Ds.map markOf ∧ Ds.Nodup ∧ ∀ D ∈ Ds, lo ≤ D ∧ w.heap[D]? = some (.deferred (some []))
theorem Marks.nil (lo : Nat) (w : World) : Marks lo w [] := ⟨[], rfl, List.nodup_nil, fun _ h => by simp at h⟩
theorem Sits.not_deferred {base : Env} {ρ : Place} {w : World} {q : Spot} {B : Blk} (h : Sits base ρ w q B) {x : Option (List Deferred)} : w.heap[q.c]? ≠ some (.deferred x) := by
 intro hd
 unfold Sits at h
 split at h
 ·obtain ⟨arr, e, lo, hi, h1, _⟩ := h; rw [hd] at h1; cases h1
 ·obtain ⟨es, clock, h1, _⟩ := h; rw [hd] at h1; cases h1
 ·obtain ⟨r, h⟩ := h; have h1 := h.lies; rw [hd] at h1; cases h1
theorem Marks.fram {base : Env} {lo : Nat} {ρ ρ' : Place} {σ σ' : St} {w w' : World} {ds : List Deferred} (hm : Marks lo w ds) (hR : Rel base ρ σ w) (hF : Fram ρ σ w ρ' σ' w') : Marks lo w' ds := by
 obtain ⟨Ds, h1, h2, h3⟩ := hm
 refine ⟨Ds, h1, h2, fun D hD => ⟨(h3 D hD).1, ?_⟩⟩
 have h4 := (h3 D hD).2
 have hlt : D < w.heap.size := by
  rcases Nat.lt_or_ge D w.heap.size with hh | hh
  ·exact hh
  ·rw [Array.getElem?_eq_none hh] at h4; cases h4
 rw [hF.keep D hlt ?_]
 ·exact h4
 ·intro b q B hb hq hB
  subst hq
  exact absurd h4 (hR.sits b q B hb hB).not_deferred
section
variable {P : Program} {base : Env} {G : Nat}
/- Results. -/
theorem loadV_sound {ρ : Place} {σ : St} {w : World} {t : TypeId} {p p' v : Value} (hR : Rel base ρ σ w) (hp : VRel ρ p p') (h : loadV P σ t p = some v) : ∃ ad v', p' = .pointer (some ad) ∧ (loadVar t ad).run P w = .ok v' w ∧ VRel ρ v v' := by
 obtain ⟨⟨b, off⟩, h2, k2⟩ := ob_eq h
 obtain ⟨q, hq, hx⟩ := at_rel hp h2
 obtain ⟨g, h4, h5⟩ := ob_eq (show ob (isAgg? P t) _ = some v from k2)
 have hg := agg_of h4 w
 cases g with
 | true =>
  obtain ⟨n, h6, h7⟩ := ob_eq (show ob (size? P t) _ = some v from h5)
  obtain ⟨cs, h8, h9⟩ := ob_eq h7
  cases h9
  obtain ⟨B, h10, h11⟩ := read_parts h8
  obtain ⟨vs, k1, k2, k3⟩ := (hR.row b q B hq h10).read (P := P) h11
  refine ⟨_, .agg vs.toArray, hx, ?_, .agg k3 k2⟩
  simp only [Sem.run_bind, Sem.run_pure, Result.andThen_ok, loadVar, hg, if_true, size_of h6, k1]
 | false =>
  obtain ⟨cs, h8, h9⟩ := ob_eq (show ob (σ.read b off 1) _ = some v from h5)
  obtain ⟨B, h10, h11⟩ := read_parts h8
  obtain ⟨v', k1, k2⟩ := (hR.row b q B hq h10).one (P := P) h11 h9
  refine ⟨_, v', hx, ?_, k2⟩
  simp only [Sem.run_bind, Result.andThen_ok, loadVar, hg, Bool.false_eq_true, if_false, k1]
theorem resL_sound {ρ : Place} {σ : St} {w : World} {fr : Fr} {a : Act} (hR : Rel base ρ σ w) (hr : FRel ρ fr a) : ∀ (l : List ResultVar) (vs : List Value), resL P fr σ l = some vs →
  ∃ vs', (l.mapM (fun r => match r with | .tmp t => pure (a.tmps.getD t undef) | .cell x t => do loadVar t (← asAddr (a.tmps.getD x undef)) : ResultVar → Sem Value)).run P w = .ok vs' w ∧ VsRel ρ vs vs' := by
 intro l
 induction l with
 | nil => intro vs h; cases h; exact ⟨[], rfl, .nil⟩
 | cons x l ih =>
  intro vs h
  obtain ⟨v, h1, h2⟩ := ob_eq (show ob (res1 P fr σ x) (fun v => ob (resL P fr σ l) fun vs => some (v :: vs)) = some vs from h)
  obtain ⟨us, h3, h4⟩ := ob_eq h2
  cases h4
  obtain ⟨us', g1, g2⟩ := ih us h3
  cases x with
  | tmp t =>
   obtain ⟨v', k1, k2⟩ := hr t v h1
   refine ⟨v' :: us', ?_, .cons k2 g2⟩
   have : a.tmps.getD t undef = v' := by rw [Array.getD_eq_getD_getElem?, k1]; rfl
   rw [List.mapM_cons]
   simp only [Sem.run_bind, Sem.run_pure, Result.andThen_ok, this]
   rw [g1]
   rfl
  | cell x t =>
   obtain ⟨p, h5, h6⟩ := ob_eq (show ob (fr.get x) (fun p => loadV P σ t p) = some v from h1)
   obtain ⟨p', k1, k2⟩ := hr x p h5
   obtain ⟨ad, v', rfl, k4, k5⟩ := loadV_sound (P := P) hR k2 h6
   refine ⟨v' :: us', ?_, .cons k5 g2⟩
   have : a.tmps.getD x undef = .pointer (some ad) := by rw [Array.getD_eq_getD_getElem?, k1]; rfl
   rw [List.mapM_cons]
   have hd : (do loadVar t (← asAddr (a.tmps.getD x undef)) : Sem Value).run P w = .ok v' w := by
    rw [Sem.run_bind, this]
    exact k4
   rw [Sem.run_bind]
   refine (congrArg (fun r : Result Value => r.andThen fun v w' => Sem.run P (do
    let vs ← l.mapM (fun r => match r with | .tmp t => pure (a.tmps.getD t undef) | .cell x t => do loadVar t (← asAddr (a.tmps.getD x undef)) : ResultVar → Sem Value)
    pure (v :: vs)) w') hd).trans ?_
   simp only [Result.andThen_ok, Sem.run_bind]
   rw [g1]
   rfl
theorem results_sound {ρ : Place} {σ : St} {w : World} {fr : Fr} {a : Act} {fn : Func} (hR : Rel base ρ σ w) (hr : FRel ρ fr a) {vs : List Value} (h : resL P fr σ fn.results.toList = some vs) :
  ∃ v', (results fn a.tmps).run P w = .ok v' w ∧ VRel ρ (tup vs) v' := by
 obtain ⟨vs', h1, h2⟩ := resL_sound (P := P) hR hr _ _ h
 refine ⟨if h : vs'.toArray.size = 1 then vs'.toArray[0] else .tuple vs'.toArray, ?_, ?_⟩
 ·unfold results
  rw [Sem.run_bind, Array.mapM_eq_mapM_toList, Sem.run_map]
  exact (congrArg (fun r : Result (List Value) => (r.andThen fun a w' => Result.ok a.toArray w').andThen fun vs w' => Sem.run P (pure (if h : vs.size = 1 then vs[0] else .tuple vs)) w') h1)
 ·cases h2 with
  | nil => exact .tuple .nil
  | cons h2 h3 =>
   cases h3 with
   | nil => exact h2
   | cons h3 h4 => exact .tuple (.cons h2 (.cons h3 h4))
theorem init_get : ∀ (vs : List Value) (k : Nat) (fr : Fr) (t : Nat), (initFr vs k fr).get t = if k ≤ t ∧ t < k + vs.length then vs[t - k]? else fr.get t := by
 intro vs
 induction vs with
 | nil => intro k fr t; rw [if_neg (by simp only [List.length_nil]; omega)]; rfl
 | cons v vs ih =>
  intro k fr t
  show (initFr vs (k + 1) (fr.set k v)).get t = _
  rw [ih, Tr.get_set]
  simp only [List.length_cons]
  by_cases h1 : k + 1 ≤ t ∧ t < k + 1 + vs.length
  ·rw [if_pos h1, if_pos (by omega), show t - k = (t - (k + 1)) + 1 from by omega]; simp
  ·rw [if_neg h1]
   by_cases h2 : t = k
   ·subst h2; rw [if_pos rfl, if_pos (by omega)]; simp
   ·rw [if_neg h2, if_neg (by omega)]
end
end Go.Ab
namespace Go.Ab
open Go
section
variable {P : Program} {base : Env} {G : Nat}
def Post (base : Env) (lo : Nat) (ρ : Place) (σ : St) (w : World) (a : Act) (res : Res) (Q : Exit → Act → World → Prop) : Prop :=
 ∀ e a' w' ρ', ExR ρ' res.o e → Rel base ρ' res.σ w' → Fram ρ σ w ρ' res.σ w' → FRel ρ' res.fr a' → a'.tmps.size = a.tmps.size → Marks lo w' a'.defers → Q e a' w'
def RdOk (ρ : Place) (rd rl : Option Nat) : Prop := match rd with
 | none => rl = none
 | some b => ∃ q, ρ b = some q ∧ rl = some q.c
theorem RdOk.mono {ρ ρ' : Place} {rd rl : Option Nat} (hm : ρ.le ρ') (h : RdOk ρ rd rl) : RdOk ρ' rd rl := by
 cases rd with
 | none => exact h
 | some b => obtain ⟨q, h1, h2⟩ := h; exact ⟨q, hm _ _ h1, h2⟩
def ExecOk (P : Program) (base : Env) (G : Nat) (run : RunT) : Prop :=
 ∀ rd c fr σ res, run rd c fr σ = some res → Adv σ res.σ ∧ ∀ n, codeOk P n G c = true → ∀ lo ρ a w N rl, lo ≤ w.heap.size → Rel base ρ σ w → Free ρ σ.n N → res.σ.n ≤ N → FRel ρ fr a → n ≤ a.tmps.size → Marks lo w a.defers → Glob ρ G → RdOk ρ rd rl →
  ∀ Q : Exit → Act → World → Prop, Post base lo ρ σ w a res Q → c.wpIn (FW rl) 0 P Q a w
theorem plain_ops {call : CallT} (hC : CallsOk P base G call) {os : Array Oper} {n : Nat} : ∀ (l : List Oper) (fr : Fr) (σ : St) (res : Res), opsV P call os l fr σ = some res →
  Adv σ res.σ ∧ ((∀ o ∈ l, operOk P n G o = true) → ∀ lo ρ a w N rl, Rel base ρ σ w → Free ρ σ.n N → res.σ.n ≤ N → FRel ρ fr a → n ≤ a.tmps.size → Marks lo w a.defers → Glob ρ G →
   ∀ Q : Exit → Act → World → Prop, Post base lo ρ σ w a res Q → wpListIn (FW rl) 0 P os Q l a w) := by
 intro l
 induction l with
 | nil =>
  intro fr σ res h
  cases h
  exact ⟨.refl _, fun _ lo ρ a w N rl hR hF hN hr hn hd hG Q hQ => hQ .normal a w ρ rfl hR (.refl _ _ _) hr rfl hd⟩
 | cons o l ih =>
  intro fr σ res h
  obtain ⟨c, hw, h1⟩ := ob_eq (show ob (wantsV os fr o) (fun c => bi c (ob (step P call fr σ o) fun r => Stepped.rec (motive := fun _ => Option Res) (fun v σ d => onDid d (opsV P call os l (putV fr o.dst v) σ) (some ⟨.pan v, fr, σ⟩)) r) (opsV P call os l (putV fr o.dst undefV) σ)) = some res from h)
  have hoo' : (∀ o' ∈ o :: l, operOk P n G o' = true) → operOk P n G o = true := fun hops => hops o (by simp)
  have hops'' : (∀ o' ∈ o :: l, operOk P n G o' = true) → ∀ o ∈ l, operOk P n G o = true := fun hops o ho => hops o (by simp [ho])
  cases c with
  | false =>
   change opsV P call os l (putV fr o.dst undefV) σ = some res at h1
   obtain ⟨g1, g2⟩ := ih _ _ _ h1
   refine ⟨g1, fun hops lo ρ a w N rl hR hF hN hr hn hd hG Q hQ => ?_⟩
   have hoo := hoo' hops
   have g2 := g2 (hops'' hops)
   have hwant := wants_rel (a := a) (ρ := ρ) hw fun j want t _ _ v hv => hr t v hv
   unfold wpListIn
   rw [if_neg (by rw [hwant]; simp)]
   refine ⟨fun _ _ => trivial, g2 lo ρ _ w N rl hR hF hN (hr.put (.tuple .nil) fun t ht => Nat.lt_of_lt_of_le (dst_of hoo t ht) hn) (by rw [put_size]; exact hn) (by rw [put_defers]; exact hd) hG Q fun e a' w' ρ' q0 q1 q2 q3 q4 q5 => hQ e a' w' ρ' q0 q1 q2 q3 (by rw [q4, put_size]) q5⟩
  | true =>
   obtain ⟨⟨v, σ1, d⟩, h2, h3⟩ := ob_eq (show ob (step P call fr σ o) _ = some res from h1)
   have hcl := step_class hC h2
   have hnd := step_noDefer h2
   by_cases hdp : d = .pan
   ·subst hdp
    cases h3
    cases hcl with
    | pan h =>
     refine ⟨h.1, fun hops lo ρ a w N rl hR hF hN hr hn hd hG Q hQ => ?_⟩
     have hoo := hoo' hops
     have hwant := wants_rel (a := a) (ρ := ρ) hw fun j want t _ _ v hv => hr t v hv
     have hk : Known ρ fr a.eval o.op.operands.toList := known_of hG hoo fun t _ v hv => hr t v hv
     unfold wpListIn
     rw [if_pos hwant]
     refine h.2 ρ a w N hk hR hF hN hG _ _ _ fun v' w' ρ' q1 q2 q3 => ?_
     exact hQ _ a w' ρ' ⟨v', rfl, q3⟩ q1 q2 (hr.mono (q2.le hF hN)) rfl (hd.fram hR q2)
   ·have h3 : opsV P call os l (putV fr o.dst v) σ1 = some res := by
     cases d with
     | pan => exact absurd rfl hdp
     | _ => exact h3
    obtain ⟨g1, g2⟩ := ih _ _ _ h3
    have hadv : Adv σ σ1 := by
     cases hcl with
     | pure h => exact .refl _
     | new h => exact .new _ _
     | read h => exact .refl _
     | eff h => exact h.1
     | pan h => exact absurd rfl hdp
    refine ⟨hadv.trans g1, fun hops lo ρ a w N rl hR hF hN hr hn hd hG Q hQ => ?_⟩
    have hoo := hoo' hops
    have g2 := g2 (hops'' hops)
    have hwant := wants_rel (a := a) (ρ := ρ) hw fun j want t _ _ v hv => hr t v hv
    have hk : Known ρ fr a.eval o.op.operands.toList := known_of hG hoo fun t _ v hv => hr t v hv
    have hN1 : σ1.n ≤ N := Nat.le_trans g1.n hN
    unfold wpListIn
    rw [if_pos hwant]
    have go : ∀ v' w' ρ', Rel base ρ' σ1 w' → Fram ρ σ w ρ' σ1 w' → VRel ρ' v v' → wpListIn (FW rl) 0 P os Q l (a.put o.dst v') w' := by
     intro v' w' ρ' q1 q2 q3
     have hle := q2.le hF hN1
     refine g2 lo ρ' _ w' N rl q1 (q2.free hF) hN ((hr.mono hle).put q3 fun t ht => Nat.lt_of_lt_of_le (dst_of hoo t ht) hn) (by rw [put_size]; exact hn) (by rw [put_defers]; exact hd.fram hR q2) (hG.mono hle) Q fun e a' w'' ρ'' p0 p1 p2 p3 p4 p5 => hQ e a' w'' ρ'' p0 p1 (q2.trans p2) p3 (by rw [p4, put_size]) p5
    cases hcl with
    | pure h =>
     obtain ⟨v', e1, e2⟩ := h ρ a.eval w hk
     refine wpIn_of hnd ?_
     rw [e1, Oper.uponIn_value]
     exact go _ _ _ hR (.refl _ _ _) e2
    | @read _ b h =>
     obtain ⟨v', e1, e2⟩ := (h.2 ρ a.eval w hk).2 fun q cs hq hcs => hR.seg hq hcs
     refine wpIn_of hnd ?_
     rw [e1, Oper.uponIn_value]
     exact go _ _ _ hR (.refl _ _ _) e2
    | @new cs vf h =>
     obtain ⟨w', v', arr, el, lo', hi', vs, more, e1, e2, e3, e4, e5, e6, e7, e8, e9, e10⟩ := h ρ a.eval w hk
     refine wpIn_of hnd ?_
     rw [e1, Oper.uponIn_value]
     obtain ⟨k1, k2⟩ := hR.new (hF σ.n (Nat.le_refl _) (Nat.lt_of_lt_of_le (Nat.lt_succ_self _) hN1)) e2 e3 e4 e5 e6 e7 ⟨vs, more, e8, e9⟩
     exact go _ _ _ k1 k2 (e10 _ _ (Place.put_same _ _ _))
    | eff h => exact h.2.2 ρ a w N hk hR hF hN1 hG _ _ _ go
    | pan h => exact absurd rfl hdp
theorem Fram.drew {ρ ρ' : Place} {σ σ' : St} {w w' : World} (h : Fram ρ σ w.drew ρ' σ' w') : Fram ρ σ w ρ' σ' w' :=
 ⟨h.ext, h.n, h.size, h.keep, h.owned, ⟨h.out.os, h.out.tape, h.out.output⟩, h.same⟩
theorem draw_region (hm : P.follows .mixedOrders = true) {call : CallT} (hC : CallsOk P base G call) {os : Array Oper} {n id : Nat} {fr : Fr} {σ : St} {res : FST} (h : opsD P call os os.toList 0 fr σ [] = some res)
  (hr : readsOk (Region.before os).toList res.ds res.ds = true) :
  Adv σ res.σ ∧ ((∀ o ∈ os.toList, operOk P n G o = true) → drawOk os = true → ∀ lo ρ a w N rl, Rel base ρ σ w → Free ρ σ.n N → res.σ.n ≤ N → FRel ρ fr a → n ≤ a.tmps.size → Marks lo w a.defers → Glob ρ G →
   ∀ Q : Exit → Act → World → Prop, Post base lo ρ σ w a ⟨.normal, res.fr, res.σ⟩ Q → (Code.region id os true).wpIn (FW rl) 0 P Q a w) := by
 obtain ⟨F, S, r, f1, f2, f3, f4, f5, f6, f7⟩ := chain_of os.toList 0 fr σ [] res rfl (Nat.zero_le _) h
 refine ⟨by rw [← f2, ← f4]; exact chain_adv hC f5 (Nat.zero_le _) (Nat.le_refl _), fun hops hD lo ρ a w N rl hR hF hN hrel hn hd hG Q hQ => ?_⟩
 have hO : ∀ (i : Nat) (o : Oper), os[i]? = some o → operOk P n G o = true := fun i o ho => hops o (by rw [← Array.getElem?_toList] at ho; exact List.mem_of_getElem? ho)
 have hX : Ctx P base G n call os F S r := by
  refine ⟨hC, hO, drawOk_spec hD, f5, ?_, by rw [f2]; exact hR.fresh⟩
  intro i b j s s' h1 h2 h3 h4 hi hj
  rcases reads_use hr ((f7 i s (Nat.zero_le _) hi h1).1 b h2) ((f7 j s' (Nat.zero_le _) hj h3).2 h4) with h5 | h5
  ·left
   change bi (Nat.testBit ((Region.before os).toList.getD j 0) i) true (Nat.testBit ((Region.before os).toList.getD i 0) j) = true at h5
   cases hb : Nat.testBit ((Region.before os).toList.getD j 0) i with
   | true => exact .inl hb
   | false => rw [hb] at h5; exact .inr h5
  ·right
   intro hlt
   rcases h5 hlt with h6 | h6
   ·rcases (chain_adv1 hC f5 hj).1.ver b.b hlt with h7 | h7
    ·exact (seen_get h7).symm
    ·omega
   ·exact h6
 refine wpIn_region_any hm ?_
 obtain ⟨k, m1, m2, m3, m4⟩ := next_eff r os.size os.size 0 (by omega)
 have hRd : Rel base ρ σ w.drew := hR.heap rfl
 have none_listed : ∀ j, ¬ (Array.replicate os.size false).getD j false = true := by
  intro j
  rw [Array.getD_eq_getD_getElem?, Array.getElem?_replicate]
  split <;> simp
 refine draw_any (ρ₀ := ρ) (a₀ := a) (w₀ := w.drew) hX hn hG (Q := Q) (fun ρ' a' w' q1 q2 q3 q4 q5 => ?_) os.size _ ρ a w.drew k (by simp) (by simp) ?_
 ·rw [f4] at q1 q2
  rw [f2] at q2
  rw [f3] at q3
  exact hQ .normal a' w' ρ' rfl q1 q2.drew q3 q4 (by rw [q5]; exact hd.fram hR q2.drew)
 ·have fr0 := hR.fresh
  have nk := (chain_adv hC f5 (i := 0) (j := k) (Nat.zero_le _) m2).n
  have sm : ∀ b, b < (S 0).n → (S k).h.get b = (S 0).h.get b := fun b hb => chain_same hC f5 hb (Nat.zero_le _) m2 fun j _ h2 h3 => absurd h3 (m3 j (Nat.zero_le _) h2)
  have nfree : ∀ b q, ρ b = some q → b < (S 0).n ∨ res.σ.n ≤ b := by
   intro b q hb
   rcases Nat.lt_or_ge b (S 0).n with hh | hh
   ·exact .inl hh
   ·rcases Nat.lt_or_ge b res.σ.n with hh' | hh'
    ·rw [hF b (by rw [← f2]; exact hh) (by omega)] at hb; cases hb
    ·exact .inr hh'
  have core : ∀ b q B, ρ b = some q → HybIs os S k b B → σ.blk b = some B := by
   intro b q B hb hHy
   have h0 : b < (S 0).n := by
    rcases nfree b q hb with h | h
    ·exact h
    ·rcases hHy with ⟨h1, _⟩ | ⟨j, _, h2, _, h3, _⟩
     ·have := (chain_adv hC f5 (i := k) (j := os.size) m2 (Nat.le_refl _)).n
      rw [f4] at this; omega
     ·have := (chain_adv hC f5 (i := j + 1) (j := os.size) (by omega) (Nat.le_refl _)).n
      rw [f4] at this; omega
   rcases hHy with ⟨h1, h2⟩ | ⟨j, g1, g2, g3, g4, g5⟩
   ·rw [← f2]
    show ob ((S 0).h.get b) _ = _
    rw [← sm b h0]
    exact h2
   ·have := (chain_adv hC f5 (i := 0) (j := j) (Nat.zero_le _) (by omega)).n; omega
  refine ⟨m2, fun j h1 h2 => absurd h2 (m3 j (Nat.zero_le _) h1), fun h => ⟨m4 h, none_listed k⟩, fun j _ _ _ => none_listed j, fun j h => absurd h (none_listed j), fun _ _ => rfl, ?_, Place.le_refl _, ?_, rfl, rfl,
   fun b q B h1 h2 => hRd.sits b q B h1 (core b q B h1 h2), hRd.dom, fun b q B h1 h2 h3 => hRd.own b q B h1 (core b q B h1 h2) h3, ?_, hRd.low, Nat.le_refl _, fun _ _ _ => rfl, ?_, .refl _, fun b h1 _ => sm b h1, ?_⟩
  ·intro i hi _ b h1 h2
   have g1 := (chain_adv hC f5 (i := 0) (j := i) (Nat.zero_le _) (by omega)).n
   have g2 := (chain_adv hC f5 (i := i + 1) (j := os.size) (by omega) (Nat.le_refl _)).n
   rw [f4] at g2
   exact hF b (by rw [← f2]; omega) (by omega)
  ·intro t i hi h1 h2 v hv
   have hz : (F i).get t = (F 0).get t := F_same f5 (Nat.zero_le _) hi fun j o _ h4 h5 h6 => none_listed j (h1 j o h4 h5 h6)
   rw [hz, f1] at hv
   exact hrel t v hv
  ·intro b q B b' q' h1 h2 h3 h4 h5 h6
   refine hRd.sep b q B b' q' h1 (core b q B h1 h2) h3 h4 h5 ?_
   rcases h6 with h6 | ⟨B', h6⟩
   ·rw [f4] at h6
    have := (chain_adv hC f5 (i := 0) (j := os.size) (Nat.zero_le _) (Nat.le_refl _)).n
    rw [f2, f4] at this
    exact .inl (by omega)
   ·exact .inr ⟨B', core b' q' B' h5 h6⟩
  ·intro b q B h1 h2 _
   exact ⟨b, q, B, h1, rfl, by rw [f2]; exact core b q B h1 h2, fun h => h⟩
  ·intro i hi _ b h1 h2
   exact chain_same hC f5 h2 (by omega) m2 fun j _ g2 g3 => absurd g3 (m3 j (Nat.zero_le _) g2)
end
end Go.Ab
namespace Go.Ab
open Go
section
variable {P : Program} {base : Env} {G : Nat}
theorem lblk_facts {σ : St} {b : Nat} {L : LoopV} (h : σ.lblk b = some L) : ∃ B, σ.blk b = some B ∧ B.own = true ∧ B.kind = .loop L.fr L.ps L.assign L.body L.st L.pend := by
 obtain ⟨B, h1, h2⟩ := ob_eq h
 obtain ⟨h3, h4⟩ := bb_eq h2
 obtain ⟨cells, live, own, ver, kind⟩ := B
 cases kind with
 | row => cases h4
 | map => cases h4
 | loop fr ps as bd st pend => cases h4; exact ⟨_, h1, h3, rfl⟩
theorem wloop_facts {σ σ' : St} {b : Nat} {st : LoopState} {pend : Option Code} (h : σ.wloop b st pend = some σ') : ∃ B fr ps as bd st0 pend0, σ.blk b = some B ∧ B.own = true ∧ B.kind = .loop fr ps as bd st0 pend0 ∧
  σ' = ⟨σ.h.set b ⟨[], true, true, B.ver + 1, .loop fr ps as bd st pend⟩, σ.n⟩ := by
 obtain ⟨B, h1, h2⟩ := ob_eq h
 obtain ⟨h3, h4⟩ := bb_eq h2
 obtain ⟨cells, live, own, ver, kind⟩ := B
 cases kind with
 | row => cases h4
 | map => cases h4
 | loop fr ps as bd st0 pend0 => cases h4; exact ⟨_, fr, ps, as, bd, st0, pend0, h1, h3, rfl, rfl⟩
theorem wloop_adv {σ σ' : St} {b : Nat} {st : LoopState} {pend : Option Code} (h : σ.wloop b st pend = some σ') : Adv σ σ' := by
 obtain ⟨B, fr, ps, as, bd, st0, pend0, h1, h2, h3, rfl⟩ := wloop_facts h
 exact .set h1 rfl
theorem Rel.loop {ρ : Place} {σ : St} {w : World} (hR : Rel base ρ σ w) {b : Nat} {q : Spot} {L : LoopV} (hq : ρ b = some q) (h : σ.lblk b = some L) : ∃ r, LoopRow base ρ w q.c L.fr L.ps L.assign L.body L.st L.pend r := by
 obtain ⟨B, h1, h2, h3⟩ := lblk_facts h
 have := hR.sits b q B hq h1
 unfold Sits at this
 rw [h3] at this
 exact this
theorem putObj_same {w : World} {c : Nat} {o o' : Obj} (h : w.heap[c]? = some o) : (w.putObj c o').heap[c]? = some o' := by
 refine World.putObj_heap_same ?_
 rcases Nat.lt_or_ge c w.heap.size with hh | hh
 ·exact hh
 ·rw [Array.getElem?_eq_none hh] at h; cases h
theorem Rel.wloop {ρ : Place} {σ σ' : St} {w : World} (hR : Rel base ρ σ w) {b : Nat} {q : Spot} {st : LoopState} {pend : Option Code} (hq : ρ b = some q) (h : σ.wloop b st pend = some σ') {L : LoopV} (hL : σ.lblk b = some L) {r : Loop}
  (hr : LoopRow base ρ w q.c L.fr L.ps L.assign L.body L.st L.pend r) : Rel base ρ σ' (w.putObj q.c (.loop { r with state := st, pending := pend })) ∧ Fram ρ σ w ρ σ' (w.putObj q.c (.loop { r with state := st, pending := pend })) := by
 obtain ⟨B, fr, ps, as, bd, st0, pend0, h1, h2, h3, rfl⟩ := wloop_facts h
 obtain ⟨B', g1, g2, g3⟩ := lblk_facts hL
 rw [h1] at g1; cases g1
 rw [h3] at g3
 cases g3
 refine hR.set hq h1 h2 rfl rfl (fun c hc => World.putObj_heap_other hc) World.putObj_size ⟨rfl, rfl, rfl⟩ (.loop rfl (r := { r with state := st, pending := pend }) ?_)
 exact ⟨putObj_same hr.lies, rfl, rfl, hr.hps, hr.has, hr.hbd, hr.hfr, hr.hlt, hr.hchk⟩
theorem setAll_rel {ρ : Place} : ∀ (ps : List Nat) (vs vs' : List Value) (fr fr1 : Fr) (tmps : Array Value), setAll ps vs fr = some fr1 → VsRel ρ vs vs' → (∀ p ∈ ps, p < tmps.size) → FRel ρ fr { tmps := tmps, defers := [] } →
  FRel ρ fr1 { tmps := (ps.zip vs').foldl (fun tmps (x : Tmp × Value) => tmps.setIfInBounds x.1 x.2) tmps, defers := [] } ∧ ((ps.zip vs').foldl (fun tmps (x : Tmp × Value) => tmps.setIfInBounds x.1 x.2) tmps).size = tmps.size ∧ vs'.length = ps.length := by
 intro ps
 induction ps with
 | nil =>
  intro vs vs' fr fr1 tmps h hv _ hr
  cases hv with
  | nil => cases h; exact ⟨hr, rfl, rfl⟩
  | cons _ _ => cases h
 | cons p ps ih =>
  intro vs vs' fr fr1 tmps h hv hp hr
  cases hv with
  | nil => cases h
  | @cons v v' l l' h1 h2 =>
   change setAll ps l (fr.set p v) = some fr1 at h
   have hr' : FRel ρ (fr.set p v) { tmps := tmps.setIfInBounds p v', defers := [] } := by
    have := FRel.put (d := some p) hr h1 (fun t ht => by cases ht; exact hp p (by simp))
    exact this
   obtain ⟨g1, g2, g3⟩ := ih l l' (fr.set p v) fr1 (tmps.setIfInBounds p v') h h2 (fun p' hp' => by simpa using hp p' (by simp [hp'])) hr'
   exact ⟨g1, by simpa using g2, by simp [g3]⟩
theorem zip_fold (ps : Array Tmp) (vs' : List Value) (tmps : Array Value) : (ps.zip (⟨vs'⟩ : Array Value)).foldl (fun tmps (x : Tmp × Value) => tmps.setIfInBounds x.1 x.2) tmps = (ps.toList.zip vs').foldl (fun tmps (x : Tmp × Value) => tmps.setIfInBounds x.1 x.2) tmps := by
 rw [← Array.foldl_toList, Array.toList_zip]
theorem isReady_eq {s : LoopState} (h : isReady s = true) : s = .ready := by
 cases s <;> first | rfl | cases h
theorem callY_ok {run : RunT} (hE : ExecOk P base G run) (hchk : ∀ n c, base.chk n c = codeOk P n G c) {b : Nat} {vs : List Value} {σ : St} {r : CR} (h : callY run b vs σ = some r) :
  Adv σ r.σ ∧ ∀ ρ w vs' N, Rel base ρ σ w → Free ρ σ.n N → r.σ.n ≤ N → Glob ρ G → VsRel ρ vs vs' → ∀ q, ρ b = some q → RoundOk P base ρ q.c vs' σ w r := by
 obtain ⟨L, h1, k1⟩ := ob_eq h
 obtain ⟨lfr, lps, las, lbd, lst, lpend⟩ := L
 obtain ⟨h2, k2⟩ := bb_eq (show bb (isReady lst) _ = some r from k1)
 obtain ⟨fr1, h3, k3⟩ := ob_eq k2
 obtain ⟨⟨o1, fr2, σ1⟩, h4, k4⟩ := ob_eq k3
 clear h k1 k2 k3
 cases o1 with
 | normal =>
  obtain ⟨L', h5, k5⟩ := ob_eq (show ob (σ1.lblk b) _ = some r from k4)
  obtain ⟨lfr', lps', las', lbd', lst', lpend'⟩ := L'
  obtain ⟨h6, k6⟩ := bb_eq (show bb (isReady lst') _ = some r from k5)
  obtain ⟨σ2, h7, k7⟩ := ob_eq k6
  obtain ⟨⟨o2, fr3, σ3⟩, h8, k8⟩ := ob_eq k7
  clear k4 k5 k6 k7
  have hend : ∃ st jump σ4, σ3.wloop b st jump = some σ4 ∧ r = ⟨false, .bool jump.isNone, σ4⟩ ∧ st = (if jump.isNone then .ready else .done) ∧ (jump = none ∧ o2 = .normal ∨ jump = some .ret ∧ o2 = .ret ∨ ∃ i, jump = some (.exit i) ∧ o2 = .exit i) := by
   cases o2 with
   | normal =>
    obtain ⟨σ4, g1, g2⟩ := ob_eq (show ob (σ3.wloop b .ready none) _ = some r from k8)
    cases g2
    exact ⟨_, _, _, g1, rfl, rfl, .inl ⟨rfl, rfl⟩⟩
   | exit i =>
    obtain ⟨σ4, g1, g2⟩ := ob_eq (show ob (σ3.wloop b .done (some (.exit i))) _ = some r from k8)
    cases g2
    exact ⟨_, _, _, g1, rfl, rfl, .inr (.inr ⟨i, rfl, rfl⟩)⟩
   | ret =>
    obtain ⟨σ4, g1, g2⟩ := ob_eq (show ob (σ3.wloop b .done (some .ret)) _ = some r from k8)
    cases g2
    exact ⟨_, _, _, g1, rfl, rfl, .inr (.inl ⟨rfl, rfl⟩)⟩
   | pan v => cases k8
  obtain ⟨st, jump, σ4, h9, rfl, hst, hj⟩ := hend
  obtain ⟨e1, e2⟩ := hE (some b) las fr1 σ _ h4
  obtain ⟨e3, e4⟩ := hE (some b) lbd fr2 σ2 _ h8
  have a2 := wloop_adv h7
  have a4 := wloop_adv h9
  refine ⟨((e1.trans a2).trans e3).trans a4, fun ρ w vs' N hR hF hN hG hv q hq => ?_⟩
  obtain ⟨r0, hL⟩ := hR.loop hq h1
  have hN3 : σ3.n ≤ N := Nat.le_trans a4.n hN
  have hN2 : σ2.n ≤ N := Nat.le_trans e3.n hN3
  have hN1 : σ1.n ≤ N := Nat.le_trans a2.n hN2
  obtain ⟨f1, f2, f3⟩ := setAll_rel lps vs vs' lfr fr1 r0.tmps h3 hv hL.hlt hL.hfr
  obtain ⟨n, hn, hca, hcb⟩ := hL.hchk
  rw [hchk] at hca hcb
  have hps : r0.params.toList = lps := hL.hps
  refine ⟨r0.fn, _, r0.assign, r0.body, run_yield hL.lies (by show vs'.length = _; rw [f3, ← hps, Array.length_toList]), roundIn_of_wpIn trivial ?_⟩
  rw [hL.has, hL.hbd]
  have hz := zip_fold r0.params vs' r0.tmps
  rw [hps] at hz
  have hz' : (r0.params.zip (⟨vs'⟩ : Array Value)).foldl (fun tmps (t, a) => tmps.setIfInBounds t a) r0.tmps = (lps.zip vs').foldl (fun tmps (x : Tmp × Value) => tmps.setIfInBounds x.1 x.2) r0.tmps := hz
  rw [hz']
  refine e2 n hca w.heap.size ρ _ w N (some q.c) (Nat.le_refl _) hR hF hN1 f1 (by show n ≤ _; rw [f2]; exact hn) (.nil _ _) hG ⟨q, hq, rfl⟩ _ ?_
  intro e a' w' ρ' q0 q1 q2 q3 q4 q5
  have q0 : e = .normal := q0
  subst q0
  have hle := q2.le hF hN1
  have hq' : ρ' b = some q := hle _ _ hq
  obtain ⟨r1, hL1⟩ := q1.loop hq' h5
  obtain ⟨p1, p2⟩ := q1.wloop hq' h7 h5 hL1
  have hb1 := run_beginRound (P := P) hL1.lies (hL1.hst.trans (isReady_eq h6))
  have hpend : ({ r1 with state := .busy, pending := lpend' } : Loop) = { r1 with state := .busy } := by rw [← (show r1.pending = lpend' from hL1.hpend)]
  rw [hpend] at p1 p2
  refine ⟨_, hb1, ?_⟩
  refine e4 n hcb w.heap.size ρ' a' _ N (some q.c) (by rw [World.putObj_size]; exact q2.size) p1 (by have := q2.free hF; intro c hc1 hc2; exact this c (Nat.le_trans a2.n hc1) hc2) hN3 q3 (by rw [q4]; show n ≤ _; rw [f2]; exact hn) (q5.fram q1 p2) (hG.mono hle) ⟨q, hq', rfl⟩ _ ?_
  intro e a'' w'' ρ'' u0 u1 u2 u3 u4 u5
  have hfr2 : Free ρ' σ2.n N := by have := q2.free hF; intro c hc1 hc2; exact this c (Nat.le_trans a2.n hc1) hc2
  have hle2 := u2.le hfr2 hN3
  have hq'' : ρ'' b = some q := hle2 _ _ hq'
  obtain ⟨B3, fr3', ps3, as3, bd3, st3, pend3, w1, w2, w3, w4⟩ := wloop_facts h9
  have hL3 : σ3.lblk b = some ⟨fr3', ps3, as3, bd3, st3, pend3⟩ := by
   show ob (σ3.blk b) _ = _
   rw [w1]
   show bb B3.own _ = _
   rw [w2]
   obtain ⟨cells, live, own, ver, kind⟩ := B3
   cases w3
   rfl
  obtain ⟨r3, hL3r⟩ := u1.loop hq'' hL3
  obtain ⟨t1, t2⟩ := u1.wloop hq'' h9 hL3 hL3r
  have he := run_endRound (P := P) jump hL3r.lies
  rw [hst] at t1 t2
  have fin : ∃ v w', (Instr.endRound q.c jump).run P w'' = .ok v w' ∧ ∃ v' ρ3, Ending.returned v = ended false v' ∧ Rel base ρ3 σ4 w' ∧ Fram ρ σ w ρ3 σ4 w' ∧ VRel ρ3 (.bool jump.isNone) v' :=
   ⟨_, _, he, _, ρ'', rfl, t1, ((q2.trans p2).trans u2).trans t2, .scal rfl⟩
  rcases hj with ⟨rfl, rfl⟩ | ⟨rfl, rfl⟩ | ⟨i, rfl, rfl⟩
  ·have u0 : e = .normal := u0
   subst u0
   exact fin
  ·have u0 : e = .ret := u0
   subst u0
   exact fin
  ·have u0 : e = .exit i := u0
   subst u0
   exact fin
 | exit i => cases k4
 | ret => cases k4
 | pan v => cases k4
end
end Go.Ab
namespace Go.Ab
open Go
section
variable {P : Program} {base : Env} {G : Nat}
theorem run_enterLoop_inner {w : World} {l : Nat} {r : Loop} (h : w.heap[l]? = some (.loop r)) (fn : FuncId) (tmps : Array Value) (ps : Array Tmp) (assign body : Code) :
  (Instr.enterLoop fn tmps ps assign body (some l)).run P w =
   .ok (w.heap.size, []) (w.alloc (.loop { state := .ready, pending := none, fn, tmps, params := ps, assign, body, defers := r.defers })) := by
 unfold Instr.enterLoop
 simp only [Sem.run_bind, run_newObj_alloc, Result.andThen, Sem.run_pure, run_getLoop h]
theorem alloc_old {w : World} {o : Obj} {c : Nat} (h : c < w.heap.size) : (w.alloc o).heap[c]? = w.heap[c]? := RowKit.Below.heap_alloc w o c h
theorem isBusy_ne {s : LoopState} (h : isBusy s = false) : s ≠ .busy := by
 intro he; subst he; cases h
theorem range_ok {call : CallT} (hC : CallsOk P base G call) (hchk : ∀ n c, base.chk n c = codeOk P n G c) {rd : Option Nat} {f : Operand} {ps : Array Tmp} {assign body : Code} {fr : Fr} {σ : St} {res : Res} (h : rangeV P call rd f ps.toList assign body fr σ = some res) :
  Adv σ res.σ ∧ ∀ n, codeOk P n G (.rangeFunc f ps assign body) = true → ∀ lo ρ a w N rl, lo ≤ w.heap.size → Rel base ρ σ w → Free ρ σ.n N → res.σ.n ≤ N → FRel ρ fr a → n ≤ a.tmps.size → Marks lo w a.defers → Glob ρ G → RdOk ρ rd rl →
   ∀ Q : Exit → Act → World → Prop, Post base lo ρ σ w a res Q → (Code.rangeFunc f ps assign body).wpIn (FW rl) 0 P Q a w := by
 obtain ⟨h1, k1⟩ := bb_eq h
 obtain ⟨u, h2, k2⟩ := ob_eq k1
 obtain ⟨⟨t, first, captured⟩, h3, k3⟩ := ob_eq k2
 obtain ⟨g, h4, k4⟩ := ob_eq (show ob (tgtFn t) _ = some res from k3)
 obtain ⟨h5, k5⟩ := bb_eq k4
 obtain ⟨⟨p, cv, σ2⟩, h6, k6⟩ := ob_eq k5
 clear h k1 k2 k3 k4 k5
 have ht : t = .fn g := by
  cases t with
  | fn g' => cases h4; rfl
  | yld b => cases h4
 subst ht
 cases p with
 | true => cases k6
 | false =>
  obtain ⟨L, h7, k7⟩ := ob_eq (show ob (σ2.lblk σ.n) _ = some res from k6)
  obtain ⟨lfr, lps, las, lbd, lst, lpend⟩ := L
  have k7 : bi (isBusy lst) none (ob (σ2.wloop σ.n .exhausted lpend) fun σ => ob (outOf lpend) fun o => some ⟨o, fr, σ⟩) = some res := k7
  obtain ⟨h8, k8⟩ := bi_none k7
  obtain ⟨σ3, h9, k9⟩ := ob_eq k8
  obtain ⟨o, h10, k10⟩ := ob_eq k9
  clear k6 k7 k8 k9
  cases k10
  obtain ⟨c1, c2⟩ := hC _ _ _ _ h6
  have a3 := wloop_adv h9
  refine ⟨((Adv.new _ _ _).trans c1).trans a3, fun n hc lo ρ a w N rl hlo hR hF hN hr hn hd hG hrd Q hQ => ?_⟩
  obtain ⟨hc1, hc'⟩ := bi_false_eq (show bi (opndOk G f) (bi (ps.toList.all fun p => Nat.blt p n) (bi (codeOk P n G assign) (codeOk P n G body) false) false) false = true from hc)
  obtain ⟨hc2, hc'⟩ := bi_false_eq hc'
  obtain ⟨hc3, hc4⟩ := bi_false_eq hc'
  rw [List.all_eq_true] at hc2
  have hN2 : σ2.n ≤ N := Nat.le_trans a3.n hN
  have hN1 : σ.n + 1 ≤ N := Nat.le_trans c1.n hN2
  have hfree : ρ σ.n = none := hF σ.n (Nat.le_refl _) (by omega)
  have hu := ev_rel (a := a) hG hc1 (fun t _ v hv => hr t v hv) h2
  obtain ⟨first', captured', hfv, r1, r2⟩ := func_rel hu h3
  have hfv : a.eval f = .func (.func g) ⟨first'⟩ ⟨captured'⟩ := hfv
  refine wpIn_rangeFunc fun fnid _ => ?_
  have hlay : ∃ l mark w1 rec, (Instr.enterLoop fnid a.tmps ps assign body (FW rl).round).run P w = .ok (l, mark) w1 ∧ w1.heap[l]? = some (.loop rec) ∧ w.heap.size ≤ l ∧ l < w1.heap.size ∧ w.heap.size ≤ w1.heap.size ∧
    (∀ c, c < w.heap.size → w1.heap[c]? = w.heap[c]?) ∧ Outside w w1 ∧ Marks lo w1 (mark ++ a.defers) ∧
    rec.state = .ready ∧ rec.pending = none ∧ rec.params = ps ∧ rec.assign = assign ∧ rec.body = body ∧ rec.tmps = a.tmps := by
   cases rl with
   | none =>
    refine ⟨_, _, _, { state := .ready, pending := none, fn := fnid, tmps := a.tmps, params := ps, assign, body, defers := w.heap.size }, run_enterLoop_outer (P := P) (w := w) fnid a.tmps ps assign body, ?_, ?_, ?_, ?_, ?_, ⟨rfl, rfl, rfl⟩, ?_, rfl, rfl, rfl, rfl, rfl, rfl⟩
    ·have := World.alloc_heap_new (w.alloc (.deferred (some []))) (.loop { state := .ready, pending := none, fn := fnid, tmps := a.tmps, params := ps, assign, body, defers := w.heap.size })
     rw [World.size_alloc] at this
     exact this
    ·omega
    ·rw [World.size_alloc, World.size_alloc]; omega
    ·rw [World.size_alloc, World.size_alloc]; omega
    ·intro c hcc
     rw [alloc_old (by rw [World.size_alloc]; omega), alloc_old hcc]
    ·obtain ⟨Ds, m1, m2, m3⟩ := hd
     have hlt : ∀ D ∈ Ds, D < w.heap.size := by
      intro D hD
      have := (m3 D hD).2
      rcases Nat.lt_or_ge D w.heap.size with hh | hh
      ·exact hh
      ·rw [Array.getElem?_eq_none hh] at this; cases this
     refine ⟨w.heap.size :: Ds, by rw [m1]; rfl, List.nodup_cons.2 ⟨fun hm => by have := hlt _ hm; omega, m2⟩, fun D hD => ?_⟩
     rcases List.mem_cons.1 hD with rfl | hD
     ·refine ⟨hlo, ?_⟩
      rw [alloc_old (by rw [World.size_alloc]; omega)]
      exact World.alloc_heap_new _ _
     ·refine ⟨(m3 D hD).1, ?_⟩
      have := hlt D hD
      rw [alloc_old (by rw [World.size_alloc]; omega), alloc_old this]
      exact (m3 D hD).2
   | some l0 =>
    cases rd with
    | none => cases hrd
    | some b0 =>
     obtain ⟨q0, g1, g2⟩ := hrd
     cases g2
     obtain ⟨L0, hL0⟩ := Option.isSome_iff_exists.1 (show (σ.lblk b0).isSome = true from h1)
     obtain ⟨r0, hr0⟩ := hR.loop g1 hL0
     refine ⟨_, _, _, { state := .ready, pending := none, fn := fnid, tmps := a.tmps, params := ps, assign, body, defers := r0.defers }, run_enterLoop_inner (P := P) hr0.lies fnid a.tmps ps assign body, World.alloc_heap_new _ _, Nat.le_refl _, ?_, ?_, ?_, ⟨rfl, rfl, rfl⟩, ?_, rfl, rfl, rfl, rfl, rfl, rfl⟩
     ·rw [World.size_alloc]; omega
     ·rw [World.size_alloc]; omega
     ·intro c hcc; exact alloc_old hcc
     ·obtain ⟨Ds, m1, m2, m3⟩ := hd
      refine ⟨Ds, m1, m2, fun D hD => ⟨(m3 D hD).1, ?_⟩⟩
      have h := (m3 D hD).2
      have hlt : D < w.heap.size := by
       rcases Nat.lt_or_ge D w.heap.size with hh | hh
       ·exact hh
       ·rw [Array.getElem?_eq_none hh] at h; cases h
      rw [alloc_old hlt]; exact h
  obtain ⟨l, mark, w1, rec, hen, hrec, hl1, hl2, hsz, hold, hout, hmarks, e1, e2, e3, e4, e5, e6⟩ := hlay
  have hsit : LoopRow base (ρ.put σ.n ⟨l, 0, 0⟩) w1 l fr ps.toList assign body .ready none rec := by
   refine ⟨hrec, e1, e2, by rw [e3], e4, e5, fun t v hv => ?_, fun p hp => ?_, n, by rw [e6]; exact hn, by rw [hchk]; exact hc3, by rw [hchk]; exact hc4⟩
   ·obtain ⟨v', g1, g2⟩ := hr t v hv
    exact ⟨v', by rw [e6]; exact g1, g2.mono (Place.put_le _ hfree)⟩
   ·have := hc2 p hp
    rw [Nat.blt_eq] at this
    rw [e6]; omega
  obtain ⟨R1, F1⟩ := hR.newK (cs := []) (k := .loop fr ps.toList assign body .ready none) hfree hl1 hl2 hsz hold hout (.loop rfl hsit)
  have hle1 : ρ.le (ρ.put σ.n ⟨l, 0, 0⟩) := Place.put_le _ hfree
  have hy : VRel (ρ.put σ.n ⟨l, 0, 0⟩) (.func (.yield σ.n) #[] #[]) (.func (.yield l) #[] #[]) := .yld (q := ⟨l, 0, 0⟩) (Place.put_same _ _ _)
  have hfree1 : Free (ρ.put σ.n ⟨l, 0, 0⟩) (σ.n + 1) N := by
   intro b g1 g2
   rw [Place.put_ne _ _ (by omega)]
   exact hF b (by omega) g2
  obtain ⟨fd, d1, d2, d3⟩ := c2 _ w1 (first' ++ [.func (.yield l) #[] #[]] ++ captured') N R1 hfree1 hN2 (hG.mono hle1) (VsRel.append (r2.mono hle1) (VsRel.append (.cons hy .nil) (r1.mono hle1)))
  have hbody : fd.body.isSome = true := by
   unfold hasBody at h5
   rw [d1] at h5
   exact h5
  have hargs : ((⟨first'⟩ : Array Value) ++ #[.func (.yield l) #[] #[]]) ++ ⟨captured'⟩ = ⟨first' ++ [.func (.yield l) #[] #[]] ++ captured'⟩ := by
   rw [← Array.toList_inj]; simp
  have hrun : (callFunc g ⟨first' ++ [.func (.yield l) #[] #[]] ++ captured'⟩).run P w1 = .ok (.enter g ⟨first' ++ [.func (.yield l) #[] #[]] ++ captured'⟩) w1 := by
   have hn0 : fd.body.isNone = false := by cases hb : fd.body with | none => rw [hb] at hbody; cases hbody | some c => rfl
   simp only [callFunc, Sem.run_bind, run_program, Result.andThen_ok, d1, d2, hn0, Bool.false_eq_true, if_false, Sem.run_pure]
  rcases d3 with ⟨_, d3⟩ | ⟨v', d3, _⟩
  ·refine ⟨l, mark, w1, { target := .fn (.func g) ⟨captured'⟩, args := (⟨first'⟩ : Array Value) ++ #[.func (.yield l) #[] #[]] }, w1, g, (((⟨first'⟩ : Array Value) ++ #[.func (.yield l) #[] #[]]) ++ ⟨captured'⟩), w1, hen, ?_, fun _ _ => trivial, ?_, fun h => (by cases h), ?_⟩
   ·have hmap : Array.map a.eval #[Operand.const (Value.func (Fn.yield l) #[] #[])] = #[Value.func (Fn.yield l) #[] #[]] := by simp [Act.eval]
    simp only [resolve, hfv, Deferred.ofValue, hmap]
    rfl
   ·show (callFunc g (((⟨first'⟩ : Array Value) ++ #[.func (.yield l) #[] #[]]) ++ ⟨captured'⟩)).run P w1 = _
    rw [hargs]
    exact hrun
   ·rw [hargs]
    refine (callsIn_wide (n := 0)).2 (d3.mono ?_)
    rintro en w' ⟨v', ρ', rfl, q1, q2, q3⟩
    have hle2 := q2.le (σ := σ.newK [] _) hfree1 hN2
    have hq : ρ' σ.n = some ⟨l, 0, 0⟩ := hle2 _ _ (Place.put_same _ _ _)
    obtain ⟨r3, hL3⟩ := q1.loop hq h7
    obtain ⟨t1, t2⟩ := q1.wloop hq h9 h7 hL3
    have hst3 : r3.state ≠ .busy := by
     have : r3.state = lst := hL3.hst
     rw [this]
     exact isBusy_ne h8
    have hpend3 : r3.pending = lpend := hL3.hpend
    have hfr : Fram ρ σ w ρ' σ3 (w'.putObj l (.loop { r3 with state := .exhausted, pending := lpend })) := (F1.trans q2).trans t2
    have hend := run_endLoop (P := P) hL3.lies hst3
    have hobj : ({ r3 with state := .exhausted } : Loop) = { r3 with state := .exhausted, pending := lpend } := by rw [← hpend3]
    rw [hobj] at hend
    refine ⟨_, _, hend, ?_⟩
    rw [hpend3]
    have hm3 : Marks lo (w'.putObj l (.loop { r3 with state := .exhausted, pending := lpend })) (mark ++ a.defers) := (hmarks.fram R1 q2).fram q1 t2
    have hfrel : FRel ρ' fr { a with defers := mark ++ a.defers } := (hr.mono (Place.le_trans hle1 hle2) : FRel ρ' fr a)
    have hpost : ∀ e, ExR ρ' o e → Q e { a with defers := mark ++ a.defers } (w'.putObj l (.loop { r3 with state := .exhausted, pending := lpend })) :=
     fun e he => hQ e _ _ ρ' he t1 hfr hfrel rfl hm3
    unfold outOf at h10
    split at h10
    ·cases h10; exact hpost _ rfl
    ·cases h10; exact wpIn_ret (hpost _ rfl)
    ·cases h10; exact wpIn_exit (hpost _ rfl)
    ·cases h10
  ·rw [hrun] at d3
   cases d3
end
end Go.Ab
namespace Go.Ab
open Go
section
variable {P : Program} {base : Env} {G : Nat}
theorem Rel.shut {ρ : Place} {σ : St} {w : World} (hR : Rel base ρ σ w) {D : Nat} {x : Option (List Deferred)} (hD : w.heap[D]? = some (.deferred x)) (o : Obj) : Rel base ρ σ (w.putObj D o) := by
 have hne : ∀ b q B, ρ b = some q → σ.blk b = some B → q.c ≠ D := by
  intro b q B h1 h2 he
  subst he
  exact (hR.sits b q B h1 h2).not_deferred hD
 refine ⟨hR.fresh, fun b q B h1 h2 => (hR.sits b q B h1 h2).mono (Place.le_refl _) (World.putObj_heap_other (hne b q B h1 h2)), fun b q h => by rw [World.putObj_size]; exact hR.dom b q h, hR.own, hR.sep, by rw [World.putObj_size]; exact hR.low⟩
theorem Fram.close {ρ ρ' : Place} {σ σ' : St} {w w' w'' : World} (h : Fram ρ σ w ρ' σ' w') (hk : ∀ c, c < w.heap.size → w''.heap[c]? = w'.heap[c]?) (hs : w''.heap.size = w'.heap.size) (ho : Outside w' w'') : Fram ρ σ w ρ' σ' w'' :=
 ⟨h.ext, h.n, by rw [hs]; exact h.size, fun c hc hb => by rw [hk c hc]; exact h.keep c hc hb, h.owned, h.out.trans ho, h.same⟩
theorem leave_marks {fn : Func} {tmps : Array Value} {R : Ending → World → Prop} {lo : Nat} {u : FrameMode} (hu : u ≠ .run) {ρ : Place} {σ : St} : ∀ (Ds : List Nat) (w : World), Ds.Nodup → (∀ D ∈ Ds, lo ≤ D ∧ w.heap[D]? = some (.deferred (some []))) → Rel base ρ σ w →
  (∀ w', Rel base ρ σ w' → (∀ c, c < lo → w'.heap[c]? = w.heap[c]?) → w'.heap.size = w.heap.size → Outside w w' → LeavesIn Fence.wide 0 P fn tmps R [] u w') → LeavesInM Fence.wide 0 P fn tmps R (Ds.map markOf) u w := by
 intro Ds
 induction Ds with
 | nil => intro w _ _ hR k; exact k w hR (fun _ _ => rfl) rfl (.refl _)
 | cons D Ds ih =>
  intro w hn hD hR k
  obtain ⟨n1, n2⟩ := List.nodup_cons.1 hn
  obtain ⟨d1, d2⟩ := hD D (by simp)
  refine ⟨hu, .inl ⟨D, _, rfl, run_takeDeferred d2, ih _ n2 (fun E hE => ?_) (hR.shut d2 _) fun w' h1 h2 h3 h4 => k w' h1 (fun c hc => ?_) ?_ ?_⟩⟩
  ·obtain ⟨e1, e2⟩ := hD E (by simp [hE])
   refine ⟨e1, ?_⟩
   rw [World.putObj_heap_other (fun he => n1 (by rw [← he]; exact hE))]
   exact e2
  ·rw [h2 c hc, World.putObj_heap_other (by omega)]
  ·rw [h3, World.putObj_size]
  ·exact Outside.trans (b := w.putObj D (.deferred none)) ⟨rfl, rfl, rfl⟩ h4
theorem wpIn_scope' {F : Fence} {n : Nat} {Q : Exit → Act → World → Prop} {a : Act} {w : World} {c : Code} (h : c.wpIn F n P (fun e a w => (∀ l, e ≠ .goto l) ∧ Q e a w) a w) : (Code.scope c).wpIn F n P Q a w := by
 intro b k cs hro hb hr
 have h0 : (lone (b.atR a (.code (.scope c) :: k)) cs w).fenced P F := fenced_calm hb hr rfl
 have h1 : _root_.Go.step P (lone (b.atR a (.code (.scope c) :: k)) cs w) = .next (lone (b.atR a (.code c :: .inScope c :: k)) cs w) := step_lone_go (by simp [stepG, stepG.exec, Frame.atR])
 obtain ⟨e, a₁, w₁, ⟨hg, hq⟩, harr⟩ := h b (.inScope c :: k) cs hro hb hr
 cases e with
 | normal => exact ⟨.normal, a₁, w₁, hq, .head h0 h1 (StepsIn.trans harr (.one (fenced_calm hb hr rfl) (step_lone_go (by simp [stepG, stepG.exec, Frame.atR]))))⟩
 | exit id =>
  have hx : exitTo id (.inScope c :: k) = exitTo id k := by simp [exitTo]
  exact ⟨_, a₁, w₁, hq, fun k' hk => .head h0 h1 (harr.1 k' (by rw [hx]; exact hk)),
   fun hr' hk => let ⟨k₁, g1, g2⟩ := harr.2 hr' (by rw [hx]; exact hk); ⟨k₁, g1, .head h0 h1 g2⟩⟩
 | goto l => exact absurd rfl (hg l)
 | ret => exact ⟨_, a₁, w₁, hq, .of_steps (.one h0 h1) harr⟩
 | panic ch => exact ⟨_, a₁, w₁, hq, .of_steps (.one h0 h1) harr⟩
 | outgrown => exact ⟨_, a₁, w₁, hq, .of_steps (.one h0 h1) harr⟩
def SumsOk (P : Program) (base : Env) (G : Nat) (H : Sums) : Prop :=
 ∀ g s, H g = some s → ∀ vs σ r, s vs σ = some r → Adv σ r.σ ∧ ∀ ρ w vs' N, Rel base ρ σ w → Free ρ σ.n N → r.σ.n ≤ N → Glob ρ G → VsRel ρ vs vs' → CallOk P base ρ g vs' σ w r
theorem calls_of_exec {H : Sums} {run : RunT} (hE : ExecOk P base G run) (hchk : ∀ n c, base.chk n c = codeOk P n G c) (hP : funcsOk P H G P.funcs.toList 0 = true) (hH : SumsOk P base G H) : CallsOk P base G (callF P H run) := by
 intro t vs σ r h
 cases t with
 | yld b => exact callY_ok hE hchk (show callY run b vs σ = some r from h)
 | fn g =>
  have h : callG P H run g vs σ = some r := h
  unfold callG at h
  cases hg : H g with
  | some s => rw [hg] at h; exact hH g s hg vs σ r h
  | none =>
   rw [hg] at h
   obtain ⟨fn, hf, h1⟩ := ob_eq (show ob (P.funcs[g]?) _ = some r from h)
   clear h
   have hfo := funcsOk_mem hP g fn (by rw [← Array.getElem?_toList] at hf; exact hf) (by rw [Nat.zero_add]; exact hg)
   unfold funcOk at hfo
   cases hn : (fn.name == "runtime.NumGoroutine") with
   | true => rw [hn] at hfo; cases hfo
   | false =>
    rw [hn] at hfo
    cases hb : fn.body with
    | none =>
     rw [hb] at h1
     obtain ⟨h2, h3⟩ := bb_eq (show bb (flats vs) _ = some r from h1)
     obtain ⟨u, h4, h5⟩ := ob_eq h3
     obtain ⟨h6, h7⟩ := bb_eq h5
     cases h7
     refine ⟨.refl _, fun ρ w vs' N hR hF hN hG hv => ⟨fn, hf, hn, .inr ⟨u, ?_, rfl, rfl, VRel.out h6⟩⟩⟩
     have := hv.flat h2
     subst this
     unfold nextV at h4
     split at h4
     ·rename_i x hx
      cases h4
      exact pureRun_sound _ hx w
     ·cases h4
    | some body =>
     rw [hb] at h1 hfo
     change codeOk P fn.ntmps G body = true at hfo
     obtain ⟨⟨o, fr, σ1⟩, h2, h3⟩ := ob_eq (show ob (run none body (initFr vs 0 .nil) σ) (bodyEnd P fn) = some r from h1)
     clear h1
     obtain ⟨g1, g2⟩ := hE none body _ σ _ h2
     have hr : r.σ = σ1 ∧ ((∃ us, resL P fr σ1 fn.results.toList = some us ∧ r.v = tup us ∧ r.pan = false ∧ (o = .normal ∨ o = .ret)) ∨ (r.pan = true ∧ o = .pan r.v)) := by
      cases o with
      | normal => obtain ⟨us, h6, h7⟩ := ob_eq (show ob (resL P fr σ1 fn.results.toList) _ = some r from h3); cases h7; exact ⟨rfl, .inl ⟨us, h6, rfl, rfl, .inl rfl⟩⟩
      | ret => obtain ⟨us, h6, h7⟩ := ob_eq (show ob (resL P fr σ1 fn.results.toList) _ = some r from h3); cases h7; exact ⟨rfl, .inl ⟨us, h6, rfl, rfl, .inr rfl⟩⟩
      | exit i => cases h3
      | pan v => cases h3; exact ⟨rfl, .inr ⟨rfl, rfl⟩⟩
     obtain ⟨hrσ, hr⟩ := hr
     obtain ⟨rp, rv, rσ⟩ := r
     cases (show rσ = σ1 from hrσ)
     refine ⟨g1, fun ρ w vs' N hR hF hN hG hv => ⟨fn, hf, hn, .inl ⟨by rw [hb]; rfl, (callsIn_wide (n := 0)).1 (callsIn_of_wp_marks hf hb trivial ?_)⟩⟩⟩
     have hl := hv.length
     refine g2 fn.ntmps hfo w.heap.size ρ _ w N none (Nat.le_refl _) hR hF hN ?_ ?_ (.nil _ _) hG rfl _ fun e a' w' ρ' q0 q1 q2 q3 q4 q5 => ?_
     ·intro t u hu
      rw [init_get] at hu
      by_cases ht : 0 ≤ t ∧ t < 0 + vs.length
      ·rw [if_pos ht] at hu
       obtain ⟨u', k1, k2⟩ := hv.get hu
       refine ⟨u', ?_, k2⟩
       show ((⟨vs'⟩ : Array Value) ++ Array.replicate _ undef)[t]? = some u'
       rw [Array.getElem?_append_left (by simp; omega)]
       simpa using k1
      ·rw [if_neg ht] at hu; cases hu
     ·show fn.ntmps ≤ ((⟨vs'⟩ : Array Value) ++ Array.replicate (fn.ntmps - (⟨vs'⟩ : Array Value).size) undef).size
      rw [Array.size_append, Array.size_replicate]; omega
     ·obtain ⟨Ds, m1, m2, m3⟩ := q5
      rcases hr with ⟨us, h6, h7, h8, h9⟩ | ⟨h8, h9⟩
      ·cases (show rv = tup us from h7)
       cases (show rp = false from h8)
       have key : LeavesInM Fence.wide 0 P fn a'.tmps (fun e w' => ∃ v' ρ', e = ended false v' ∧ Rel base ρ' σ1 w' ∧ Fram ρ σ w ρ' σ1 w' ∧ VRel ρ' (tup us) v') a'.defers .returning w' := by
        rw [m1]
        refine leave_marks (by simp) Ds w' m2 m3 q1 fun w'' p1 p2 p3 p4 => ?_
        obtain ⟨v', k1, k2⟩ := results_sound (P := P) p1 q3 h6
        exact ⟨v', k1, v', ρ', rfl, p1, q2.close p2 p3 p4, k2⟩
       rcases h9 with rfl | rfl
       ·cases (show e = .normal from q0)
        exact key
       ·cases (show e = .ret from q0)
        exact key
      ·cases (show rp = true from h8)
       cases (show o = .pan rv from h9)
       obtain ⟨v', rfl, hv'⟩ := q0
       show LeavesInM Fence.wide 0 P fn a'.tmps _ a'.defers (.panicking _) w'
       rw [m1]
       refine leave_marks (by simp) Ds w' m2 m3 q1 fun w'' p1 p2 p3 p4 => ?_
       exact ⟨v', ρ', rfl, p1, q2.close p2 p3 p4, hv'⟩
def LoopOk (P : Program) (base : Env) (G : Nat) (run : RunT) : Prop :=
 ∀ rd c fr σ res, run rd (.loop c) fr σ = some res → Adv σ res.σ ∧ ∀ n, codeOk P n G c = true → ∃ m, ∀ lo ρ a w N rl, lo ≤ w.heap.size → Rel base ρ σ w → Free ρ σ.n N → res.σ.n ≤ N → FRel ρ fr a → n ≤ a.tmps.size → Marks lo w a.defers → Glob ρ G → RdOk ρ rd rl →
  ∀ Q : Exit → Act → World → Prop, Post base lo ρ σ w a res Q → Code.roundsIn (FW rl) 0 P c Q m a w
theorem exec_ok (hm : P.follows .mixedOrders = true) {H : Sums} (hchk : ∀ n c, base.chk n c = codeOk P n G c) (hP : funcsOk P H G P.funcs.toList 0 = true) (hH : SumsOk P base G H) : ∀ f, ExecOk P base G (exec P H f) ∧ LoopOk P base G (exec P H f) := by
 intro f
 induction f with
 | zero =>
  constructor
  ·intro rd c fr σ res h; cases h
  ·intro rd c fr σ res h; cases h
 | succ f ih =>
  obtain ⟨ihE, ihL⟩ := ih
  have hC := calls_of_exec (H := H) ihE hchk hP hH
  have hloop : LoopOk P base G (exec P H (f + 1)) := by
   intro rd c fr σ res h
   obtain ⟨⟨o, fr1, σ1⟩, h1, h2⟩ := ob_eq (show ob (exec P H f rd c fr σ) (fun r => onNormal r (exec P H f rd (.loop c))) = some res from h)
   obtain ⟨g1, g2⟩ := ihE rd c fr σ _ h1
   cases o with
   | normal =>
    change exec P H f rd (.loop c) fr1 σ1 = some res at h2
    obtain ⟨k1, k2⟩ := ihL rd c fr1 σ1 res h2
    refine ⟨g1.trans k1, fun n hc => ?_⟩
    obtain ⟨m, k2⟩ := k2 n hc
    refine ⟨m + 1, fun lo ρ a w N rl hlo hR hF hN hr hn hd hG hrd Q hQ => ?_⟩
    have hN1 : σ1.n ≤ N := Nat.le_trans k1.n hN
    refine g2 n hc lo ρ a w N rl hlo hR hF hN1 hr hn hd hG hrd _ fun e a' w' ρ' q0 q1 q2 q3 q4 q5 => ?_
    cases (show e = .normal from q0)
    exact k2 lo ρ' a' w' N rl (Nat.le_trans hlo q2.size) q1 (q2.free hF) hN q3 (by rw [q4]; exact hn) q5 (hG.mono (q2.le hF hN1)) (hrd.mono (q2.le hF hN1)) Q fun e a'' w'' ρ'' p0 p1 p2 p3 p4 p5 => hQ e a'' w'' ρ'' p0 p1 (q2.trans p2) p3 (by rw [p4, q4]) p5
   | exit i =>
    cases h2
    refine ⟨g1, fun n hc => ⟨1, fun lo ρ a w N rl hlo hR hF hN hr hn hd hG hrd Q hQ => g2 n hc lo ρ a w N rl hlo hR hF hN hr hn hd hG hrd _ fun e a' w' ρ' q0 q1 q2 q3 q4 q5 => ?_⟩⟩
    cases (show e = .exit i from q0)
    exact hQ _ a' w' ρ' rfl q1 q2 q3 q4 q5
   | ret =>
    cases h2
    refine ⟨g1, fun n hc => ⟨1, fun lo ρ a w N rl hlo hR hF hN hr hn hd hG hrd Q hQ => g2 n hc lo ρ a w N rl hlo hR hF hN hr hn hd hG hrd _ fun e a' w' ρ' q0 q1 q2 q3 q4 q5 => ?_⟩⟩
    cases (show e = .ret from q0)
    exact hQ _ a' w' ρ' rfl q1 q2 q3 q4 q5
   | pan v =>
    cases h2
    refine ⟨g1, fun n hc => ⟨1, fun lo ρ a w N rl hlo hR hF hN hr hn hd hG hrd Q hQ => g2 n hc lo ρ a w N rl hlo hR hF hN hr hn hd hG hrd _ fun e a' w' ρ' q0 q1 q2 q3 q4 q5 => ?_⟩⟩
    obtain ⟨v', rfl, hv⟩ := q0
    exact hQ _ a' w' ρ' ⟨v', rfl, hv⟩ q1 q2 q3 q4 q5
  refine ⟨?_, hloop⟩
  intro rd c fr σ res h
  cases c with
  | skip => cases h; exact ⟨.refl _, fun n hc lo ρ a w N rl hlo hR hF hN hr hn hd hG hrd Q hQ => wpIn_skip (hQ .normal a w ρ rfl hR (.refl _ _ _) hr rfl hd)⟩
  | label l => cases h; exact ⟨.refl _, fun n hc lo ρ a w N rl hlo hR hF hN hr hn hd hG hrd Q hQ => wpIn_label (hQ .normal a w ρ rfl hR (.refl _ _ _) hr rfl hd)⟩
  | exit id => cases h; exact ⟨.refl _, fun n hc lo ρ a w N rl hlo hR hF hN hr hn hd hG hrd Q hQ => wpIn_exit (hQ (.exit id) a w ρ rfl hR (.refl _ _ _) hr rfl hd)⟩
  | ret => cases h; exact ⟨.refl _, fun n hc lo ρ a w N rl hlo hR hF hN hr hn hd hG hrd Q hQ => wpIn_ret (hQ .ret a w ρ rfl hR (.refl _ _ _) hr rfl hd)⟩
  | region id os draw =>
   cases draw with
   | false =>
    have h : opsV P (callF P H (exec P H f)) os os.toList fr σ = some res := h
    have pl := fun n => plain_ops (n := n) hC os.toList fr σ _ h
    refine ⟨(pl 0).1, fun n hc lo ρ a w N rl hlo hR hF hN hr hn hd hG hrd Q hQ => ?_⟩
    obtain ⟨hc1, hc2⟩ := bi_false_eq (show bi (os.toList.all (operOk P n G)) _ false = true from hc)
    rw [List.all_eq_true] at hc1
    exact wpIn_region_list ((pl n).2 hc1 lo ρ a w N rl hR hF hN hr hn hd hG Q hQ)
   | true =>
    have h : drawn os (opsD P (callF P H (exec P H f)) os os.toList 0 fr σ []) = some res := h
    obtain ⟨⟨fr1, σ1, ds⟩, h1, h2⟩ := ob_eq h
    obtain ⟨h3, h4⟩ := bb_eq (show bb (readsOk (Region.before os).toList ds ds) _ = some res from h2)
    cases h4
    have pl := fun n => draw_region (P := P) (base := base) (G := G) (n := n) hm hC (id := id) h1 h3
    refine ⟨(pl 0).1, fun n hc lo ρ a w N rl hlo hR hF hN hr hn hd hG hrd Q hQ => ?_⟩
    obtain ⟨hc1, hc2⟩ := bi_false_eq (show bi (os.toList.all (operOk P n G)) (bi true (drawOk os) true) false = true from hc)
    rw [List.all_eq_true] at hc1
    exact (pl n).2 (fun o ho => hc1 o ho) hc2 lo ρ a w N rl hR hF hN hr hn hd hG Q hQ
  | seq x y =>
   obtain ⟨⟨o, fr1, σ1⟩, h1, h2⟩ := ob_eq (show ob (exec P H f rd x fr σ) (fun r => onNormal r (exec P H f rd y)) = some res from h)
   obtain ⟨g1, g2⟩ := ihE rd x fr σ _ h1
   cases o with
   | normal =>
    change exec P H f rd y fr1 σ1 = some res at h2
    obtain ⟨k1, k2⟩ := ihE rd y fr1 σ1 res h2
    refine ⟨g1.trans k1, fun n hc lo ρ a w N rl hlo hR hF hN hr hn hd hG hrd Q hQ => wpIn_seq ?_⟩
    obtain ⟨hc1, hc2⟩ := bi_false_eq (show bi (codeOk P n G x) (codeOk P n G y) false = true from hc)
    have hN1 : σ1.n ≤ N := Nat.le_trans k1.n hN
    refine g2 n hc1 lo ρ a w N rl hlo hR hF hN1 hr hn hd hG hrd _ fun e a' w' ρ' q0 q1 q2 q3 q4 q5 => ?_
    cases (show e = .normal from q0)
    exact k2 n hc2 lo ρ' a' w' N rl (Nat.le_trans hlo q2.size) q1 (q2.free hF) hN q3 (by rw [q4]; exact hn) q5 (hG.mono (q2.le hF hN1)) (hrd.mono (q2.le hF hN1)) Q fun e a'' w'' ρ'' p0 p1 p2 p3 p4 p5 => hQ e a'' w'' ρ'' p0 p1 (q2.trans p2) p3 (by rw [p4, q4]) p5
   | exit i =>
    cases h2
    refine ⟨g1, fun n hc lo ρ a w N rl hlo hR hF hN hr hn hd hG hrd Q hQ => wpIn_seq ?_⟩
    obtain ⟨hc1, hc2⟩ := bi_false_eq (show bi (codeOk P n G x) (codeOk P n G y) false = true from hc)
    refine g2 n hc1 lo ρ a w N rl hlo hR hF hN hr hn hd hG hrd _ fun e a' w' ρ' q0 q1 q2 q3 q4 q5 => ?_
    cases (show e = .exit i from q0)
    exact hQ _ a' w' ρ' rfl q1 q2 q3 q4 q5
   | ret =>
    cases h2
    refine ⟨g1, fun n hc lo ρ a w N rl hlo hR hF hN hr hn hd hG hrd Q hQ => wpIn_seq ?_⟩
    obtain ⟨hc1, hc2⟩ := bi_false_eq (show bi (codeOk P n G x) (codeOk P n G y) false = true from hc)
    refine g2 n hc1 lo ρ a w N rl hlo hR hF hN hr hn hd hG hrd _ fun e a' w' ρ' q0 q1 q2 q3 q4 q5 => ?_
    cases (show e = .ret from q0)
    exact hQ _ a' w' ρ' rfl q1 q2 q3 q4 q5
   | pan v =>
    cases h2
    refine ⟨g1, fun n hc lo ρ a w N rl hlo hR hF hN hr hn hd hG hrd Q hQ => wpIn_seq ?_⟩
    obtain ⟨hc1, hc2⟩ := bi_false_eq (show bi (codeOk P n G x) (codeOk P n G y) false = true from hc)
    refine g2 n hc1 lo ρ a w N rl hlo hR hF hN hr hn hd hG hrd _ fun e a' w' ρ' q0 q1 q2 q3 q4 q5 => ?_
    obtain ⟨v', rfl, hv⟩ := q0
    exact hQ _ a' w' ρ' ⟨v', rfl, hv⟩ q1 q2 q3 q4 q5
  | cond x y z =>
   obtain ⟨v, h1, h2⟩ := ob_eq (show ob (ev fr x) (fun v => ob (bool? v) fun t => bi t (exec P H f rd y fr σ) (exec P H f rd z fr σ)) = some res from h)
   obtain ⟨t, h3, h4⟩ := ob_eq h2
   have hev : ∀ ρ (a : Act), opndOk G x = true → FRel ρ fr a → Glob ρ G → a.eval x = .bool t := by
    intro ρ a hc0 hr hG
    have hv := ev_rel (a := a) hG hc0 (fun u _ v hv => hr u v hv) h1
    unfold bool? at h3
    split at h3
    ·cases h3
     generalize a.eval x = y at hv
     cases hv
     rfl
    ·cases h3
   cases t with
   | true =>
    obtain ⟨g1, g2⟩ := ihE rd y fr σ res h4
    refine ⟨g1, fun n hc lo ρ a w N rl hlo hR hF hN hr hn hd hG hrd Q hQ => ?_⟩
    obtain ⟨hc0, hc'⟩ := bi_false_eq (show bi (opndOk G x) (bi (codeOk P n G y) (codeOk P n G z) false) false = true from hc)
    obtain ⟨hc1, hc2⟩ := bi_false_eq hc'
    exact wpIn_cond_true (hev ρ a hc0 hr hG) (g2 n hc1 lo ρ a w N rl hlo hR hF hN hr hn hd hG hrd Q hQ)
   | false =>
    obtain ⟨g1, g2⟩ := ihE rd z fr σ res h4
    refine ⟨g1, fun n hc lo ρ a w N rl hlo hR hF hN hr hn hd hG hrd Q hQ => ?_⟩
    obtain ⟨hc0, hc'⟩ := bi_false_eq (show bi (opndOk G x) (bi (codeOk P n G y) (codeOk P n G z) false) false = true from hc)
    obtain ⟨hc1, hc2⟩ := bi_false_eq hc'
    exact wpIn_cond_false (hev ρ a hc0 hr hG) (g2 n hc2 lo ρ a w N rl hlo hR hF hN hr hn hd hG hrd Q hQ)
  | block id x =>
   obtain ⟨⟨o, fr1, σ1⟩, h1, h2⟩ := ob_eq (show ob (exec P H f rd x fr σ) (onExit id) = some res from h)
   obtain ⟨g1, g2⟩ := ihE rd x fr σ _ h1
   have key : ∀ o', res = ⟨o', fr1, σ1⟩ → (∀ (ρ : Place) (e : Exit), ExR ρ o e → ∀ (Q : Exit → Act → World → Prop) (a' : Act) (w' : World), (∀ e', ExR ρ o' e' → Q e' a' w') → Exit.inBlock id Q e a' w') → Adv σ res.σ ∧ ∀ n, codeOk P n G (.block id x) = true → ∀ lo ρ a w N rl, lo ≤ w.heap.size → Rel base ρ σ w → Free ρ σ.n N → res.σ.n ≤ N → FRel ρ fr a → n ≤ a.tmps.size → Marks lo w a.defers → Glob ρ G → RdOk ρ rd rl →
     ∀ Q : Exit → Act → World → Prop, Post base lo ρ σ w a res Q → (Code.block id x).wpIn (FW rl) 0 P Q a w := by
    rintro o' rfl hk
    refine ⟨g1, fun n hc lo ρ a w N rl hlo hR hF hN hr hn hd hG hrd Q hQ => wpIn_block ?_⟩
    exact g2 n hc lo ρ a w N rl hlo hR hF hN hr hn hd hG hrd _ fun e a' w' ρ' q0 q1 q2 q3 q4 q5 => hk ρ' e q0 Q a' w' fun e' he => hQ e' a' w' ρ' he q1 q2 q3 q4 q5
   cases o with
   | normal =>
    cases h2
    refine key .normal rfl fun ρ e he Q a' w' k => ?_
    cases (show e = .normal from he)
    exact k .normal rfl
   | ret =>
    cases h2
    refine key .ret rfl fun ρ e he Q a' w' k => ?_
    cases (show e = .ret from he)
    exact k .ret rfl
   | pan v =>
    cases h2
    refine key (.pan v) rfl fun ρ e he Q a' w' k => ?_
    obtain ⟨v', rfl, hv⟩ := he
    exact k _ ⟨v', rfl, hv⟩
   | exit i =>
    change bi (Nat.beq i id) (some ⟨.normal, fr1, σ1⟩) (some ⟨.exit i, fr1, σ1⟩) = some res at h2
    cases hb : Nat.beq i id with
    | true =>
     rw [hb] at h2
     cases h2
     have := Nat.eq_of_beq_eq_true hb
     subst this
     refine key .normal rfl fun ρ e he Q a' w' k => ?_
     cases (show e = .exit i from he)
     show (if i = i then Q .normal a' w' else Q (.exit i) a' w')
     rw [if_pos rfl]
     exact k .normal rfl
    | false =>
     rw [hb] at h2
     cases h2
     refine key (.exit i) rfl fun ρ e he Q a' w' k => ?_
     cases (show e = .exit i from he)
     show (if i = id then Q .normal a' w' else Q (.exit i) a' w')
     rw [if_neg (fun he => by subst he; simp at hb)]
     exact k (.exit i) rfl
  | loop x =>
   obtain ⟨g1, g2⟩ := hloop rd x fr σ res h
   refine ⟨g1, fun n hc lo ρ a w N rl hlo hR hF hN hr hn hd hG hrd Q hQ => ?_⟩
   obtain ⟨m, g2⟩ := g2 n hc
   exact wpIn_loop_rounds m (g2 lo ρ a w N rl hlo hR hF hN hr hn hd hG hrd Q hQ)
  | rangeFunc fn ps assign body => exact range_ok hC hchk h
  | scope x =>
   obtain ⟨g1, g2⟩ := ihE rd x fr σ res (show exec P H f rd x fr σ = some res from h)
   refine ⟨g1, fun n hc lo ρ a w N rl hlo hR hF hN hr hn hd hG hrd Q hQ => wpIn_scope' ?_⟩
   refine g2 n hc lo ρ a w N rl hlo hR hF hN hr hn hd hG hrd _ fun e a' w' ρ' q0 q1 q2 q3 q4 q5 => ⟨fun l he => ?_, hQ e a' w' ρ' q0 q1 q2 q3 q4 q5⟩
   subst he
   cases ho : res.o with
   | normal => rw [ho] at q0; cases q0
   | exit i => rw [ho] at q0; cases q0
   | ret => rw [ho] at q0; cases q0
   | pan v => rw [ho] at q0; obtain ⟨v', h, _⟩ := q0; cases h
  | _ => cases h
theorem calls_ok (hm : P.follows .mixedOrders = true) {H : Sums} (hchk : ∀ n c, base.chk n c = codeOk P n G c) (hP : funcsOk P H G P.funcs.toList 0 = true) (hH : SumsOk P base G H) (f : Nat) : CallsOk P base G (callF P H (exec P H f)) :=
 calls_of_exec (exec_ok hm hchk hP hH f).1 hchk hP hH
end
end Go.Ab
