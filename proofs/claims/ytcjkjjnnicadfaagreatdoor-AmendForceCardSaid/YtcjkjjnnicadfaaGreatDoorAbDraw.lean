/- A region that draws its order: in whatever order its edges allow, it does what the order of the text does. -/
import Derived.Test.YtcjkjjnnicadfaaGreatDoorAbRun
set_option linter.unusedSimpArgs false
set_option linter.unusedVariables false
namespace Go.Ab
open Go

/-- The slots that an operation looks at. -/
def Rd (os : Array Oper) (o : Oper) (t : Tmp) : Prop := .tmp t ∈ o.op.operands.toList ∨ ∃ j want, o.guard = some (j, want) ∧ dstOf os j = some t
def Clash (os : Array Oper) (x y : Oper) : Prop := ∃ t, (x.dst = some t ∧ (y.dst = some t ∨ Rd os y t)) ∨ (y.dst = some t ∧ Rd os x t)
/-- What a region that draws its order must meet. -/
structure DrawOk (os : Array Oper) : Prop where
  edge : ∀ i o e, os[i]? = some o → e ∈ o.after → Region.binds .any e = true → e.on < i
  eff : ∀ i j oi oj, i < j → os[i]? = some oi → os[j]? = some oj → isEff oi.op = true → isEff oj.op = true → Bef os i j
  names : ∀ i j oi oj, i < j → os[i]? = some oi → os[j]? = some oj → Clash os oi oj → Bef os i j

/-- The run in the order of the text. -/
structure Chain (P : Program) (call : CallT) (os : Array Oper) (F : Nat → Fr) (S : Nat → St) (r : Nat → Option Stepped) (i : Nat) : Prop where
  step : ∀ k o, i ≤ k → os[k]? = some o → (wantsV os (F k) o = some true ∧ ∃ s, Ab.step P call (F k) (S k) o = some s ∧ r k = some s ∧ F (k + 1) = putV (F k) o.dst s.v ∧ S (k + 1) = s.σ) ∨
    (wantsV os (F k) o = some false ∧ r k = none ∧ F (k + 1) = putV (F k) o.dst undefV ∧ S (k + 1) = S k)
  np : ∀ k s, i ≤ k → r k = some s → s.d ≠ .pan

theorem onDid_none {β : Type} {d : Did} {x : Option β} {b : β} (h : onDid d x none = some b) : x = some b ∧ d ≠ .pan := by
  cases d with
  | pan => cases h
  | _ => exact ⟨h, fun h => (by cases h)⟩
theorem chain_of {P : Program} {call : CallT} {os : Array Oper} : ∀ (l : List Oper) (i : Nat) (fr : Fr) (σ : St) (ds : List Trace) (res : FST), os.toList.drop i = l → i ≤ os.size →
    opsD P call os l i fr σ ds = some res → ∃ F S r, F i = fr ∧ S i = σ ∧ F os.size = res.fr ∧ S os.size = res.σ ∧ Chain P call os F S r i ∧ (∀ d, d ∈ ds → d ∈ res.ds) ∧
      ∀ k s, i ≤ k → k < os.size → r k = some s → (∀ b, s.d = .read b → .read k b ∈ res.ds) ∧ (s.d = .eff → .eff k (S k) (S (k + 1)) ∈ res.ds) := by
  intro l
  induction l with
  | nil =>
    intro i fr σ ds res hl hi h
    cases h
    have : i = os.size := by
      have := congrArg List.length hl
      simp at this
      omega
    subst this
    exact ⟨fun _ => fr, fun _ => σ, fun _ => none, rfl, rfl, rfl, rfl, ⟨fun k o hk ho => by have := (Array.getElem?_eq_some_iff.1 ho).1; omega, fun k s _ h => (by cases h)⟩, fun _ h => h, fun k s h1 h2 _ => by omega⟩
  | cons o l ih =>
    intro i fr σ ds res hl hi h
    have hlt : i < os.size := by
      have := congrArg List.length hl
      simp at this
      omega
    have ho : os[i]? = some o := by
      have := congrArg (fun l : List Oper => l[0]?) hl
      simpa using this
    have hl' : os.toList.drop (i + 1) = l := by
      rw [← List.drop_drop, hl]; rfl
    obtain ⟨c, hw, h1⟩ := ob_eq (show ob (wantsV os fr o) (fun c => bi c (ob (Ab.step P call fr σ o) fun r => Stepped.rec (motive := fun _ => Option FST) (fun v σ' d => onDid d (opsD P call os l (i + 1) (putV fr o.dst v) σ' (traced i σ σ' d ds)) none) r)
      (opsD P call os l (i + 1) (putV fr o.dst undefV) σ ds)) = some res from h)
    cases c with
    | true =>
      obtain ⟨⟨v, σ', d⟩, h2, h3⟩ := ob_eq (show ob (Ab.step P call fr σ o) _ = some res from h1)
      obtain ⟨h3, hnp⟩ := onDid_none (show onDid d (opsD P call os l (i + 1) (putV fr o.dst v) σ' (traced i σ σ' d ds)) none = some res from h3)
      obtain ⟨F, S, r, f1, f2, f3, f4, f5, f6, f7⟩ := ih (i + 1) (putV fr o.dst v) σ' (traced i σ σ' d ds) res hl' (by omega) h3
      refine ⟨fun k => if k = i then fr else F k, fun k => if k = i then σ else S k, fun k => if k = i then some ⟨v, σ', d⟩ else r k, by simp, by simp, ?_, ?_, ⟨?_, ?_⟩, ?_, ?_⟩
      · show (if os.size = i then fr else F os.size) = _; rw [if_neg (by omega)]; exact f3
      · show (if os.size = i then σ else S os.size) = _; rw [if_neg (by omega)]; exact f4
      · intro k o' hk ho'
        by_cases hki : k = i
        · subst hki
          rw [ho] at ho'
          cases ho'
          simp only [if_true, if_neg (show ¬ k + 1 = k by omega)]
          exact .inl ⟨hw, _, h2, rfl, f1, f2⟩
        · simp only [if_neg hki, if_neg (show ¬ k + 1 = i by omega)]
          exact f5.step k o' (by omega) ho'
      · intro k s hk hs
        by_cases hki : k = i
        · subst hki; simp only [if_true] at hs; cases hs; exact hnp
        · simp only [if_neg hki] at hs; exact f5.np k s (by omega) hs
      · intro d' hd'
        refine f6 d' ?_
        unfold traced
        cases d <;> simp [hd']
      · intro k s hk hk2 hr
        by_cases hki : k = i
        · subst hki
          simp only [if_true] at hr
          cases hr
          refine ⟨fun b hb => f6 _ ?_, fun he => ?_⟩
          · change d = .read b at hb; subst hb; unfold traced; simp
          · change d = .eff at he
            subst he
            simp only [if_true, if_neg (show ¬ k + 1 = k by omega), f2]
            exact f6 _ (by unfold traced; simp)
        · simp only [if_neg hki] at hr
          simp only [if_neg hki, if_neg (show ¬ k + 1 = i by omega)]
          exact f7 k s (by omega) hk2 hr
    | false =>
      change opsD P call os l (i + 1) (putV fr o.dst undefV) σ ds = some res at h1
      obtain ⟨F, S, r, f1, f2, f3, f4, f5, f6, f7⟩ := ih (i + 1) (putV fr o.dst undefV) σ ds res hl' (by omega) h1
      refine ⟨fun k => if k = i then fr else F k, fun k => if k = i then σ else S k, fun k => if k = i then none else r k, by simp, by simp, ?_, ?_, ⟨?_, ?_⟩, f6, ?_⟩
      · show (if os.size = i then fr else F os.size) = _; rw [if_neg (by omega)]; exact f3
      · show (if os.size = i then σ else S os.size) = _; rw [if_neg (by omega)]; exact f4
      · intro k o' hk ho'
        by_cases hki : k = i
        · subst hki
          rw [ho] at ho'
          cases ho'
          simp only [if_true, if_neg (show ¬ k + 1 = k by omega)]
          exact .inr ⟨hw, trivial, f1, f2⟩
        · simp only [if_neg hki, if_neg (show ¬ k + 1 = i by omega)]
          exact f5.step k o' (by omega) ho'
      · intro k s hk hs
        by_cases hki : k = i
        · subst hki; simp at hs
        · simp only [if_neg hki] at hs; exact f5.np k s (by omega) hs
      · intro k s hk hk2 hr
        by_cases hki : k = i
        · subst hki; simp at hr
        · simp only [if_neg hki] at hr
          simp only [if_neg hki, if_neg (show ¬ k + 1 = i by omega)]
          exact f7 k s (by omega) hk2 hr

theorem allSame_mem {bs : List Nat} {i : Nat} {b : RowAt} : ∀ {l : List Trace}, allSame bs i b l = true → ∀ d ∈ l, sameVer bs i b d = true := by
  intro l
  induction l with
  | nil => intro _ d hd; simp at hd
  | cons x l ih =>
    intro h d hd
    change bi (sameVer bs i b x) (allSame bs i b l) false = true at h
    cases hx : sameVer bs i b x with
    | false => rw [hx] at h; cases h
    | true =>
      rw [hx] at h
      rcases List.mem_cons.1 hd with rfl | hd
      · exact hx
      · exact ih h d hd
theorem readsOk_mem {bs : List Nat} {all : List Trace} : ∀ {l : List Trace}, readsOk bs all l = true → ∀ i b, .read i b ∈ l → allSame bs i b all = true := by
  intro l
  induction l with
  | nil => intro _ i b hd; simp at hd
  | cons x l ih =>
    intro h i b hd
    cases x with
    | read i' b' =>
      change bi (allSame bs i' b' all) (readsOk bs all l) false = true at h
      cases hx : allSame bs i' b' all with
      | false => rw [hx] at h; cases h
      | true =>
        rw [hx] at h
        rcases List.mem_cons.1 hd with he | hd
        · cases he; exact hx
        · exact ih h i b hd
    | eff i' p q =>
      change readsOk bs all l = true at h
      rcases List.mem_cons.1 hd with he | hd
      · cases he
      · exact ih h i b hd
theorem veq_eq {v w : Value} (h : veq v w = true) : v = w := by
  have bii : ∀ {c x : Bool}, bi c x false = true → c = true ∧ x = true := by
    intro c x h
    cases c with
    | false => cases h
    | true => exact ⟨rfl, h⟩
  unfold veq at h
  split at h
  · split at h
    · rename_i b _ c
      cases b <;> cases c <;> first | rfl | cases h
    · cases h
  · split at h
    · obtain ⟨h1, h2⟩ := bii h
      rw [keq_eq h1]
      rw [ieq_iff] at h2
      rw [eq_of_beq h2]
    · cases h
  · split at h
    · rw [str_beq] at h
      rw [(MapKept.bytes_beq _ _).1 h]
    · cases h
  · split at h
    · rfl
    · cases h
  · split at h
    · obtain ⟨h1, h2⟩ := bii h
      rw [Nat.eq_of_beq_eq_true h1, Nat.eq_of_beq_eq_true h2]
    · cases h
  · split at h
    · obtain ⟨h1, h2⟩ := bii h
      rw [Nat.eq_of_beq_eq_true h1, Nat.eq_of_beq_eq_true h2]
    · cases h
  · split at h
    · obtain ⟨h1, h2⟩ := bii h
      obtain ⟨h2, h3⟩ := bii h2
      obtain ⟨h3, h4⟩ := bii h3
      rw [Nat.eq_of_beq_eq_true h1, Nat.eq_of_beq_eq_true h2, Nat.eq_of_beq_eq_true h3, Nat.eq_of_beq_eq_true h4]
    · cases h
  · split at h
    · obtain ⟨h1, h2⟩ := bii h
      obtain ⟨h2, h3⟩ := bii h2
      obtain ⟨h3, h4⟩ := bii h3
      obtain ⟨h4, h5⟩ := bii h4
      rw [Nat.eq_of_beq_eq_true h1, Nat.eq_of_beq_eq_true h2, Nat.eq_of_beq_eq_true h3, Nat.eq_of_beq_eq_true h4, Nat.eq_of_beq_eq_true h5]
    · cases h
  · split at h
    · rfl
    · cases h
  · split at h
    · rw [Nat.eq_of_beq_eq_true h]
    · cases h
  · cases h
theorem veqL_eq : ∀ {l k : List Value}, veqL l k = true → l = k := by
  intro l
  induction l with
  | nil => intro k h; cases k with | nil => rfl | cons => cases h
  | cons x l ih =>
    intro k h
    cases k with
    | nil => cases h
    | cons y k =>
      change bi (veq x y) (veqL l k) false = true at h
      cases hx : veq x y with
      | false => rw [hx] at h; cases h
      | true => rw [hx] at h; rw [veq_eq hx, ih h]
theorem sameRow_eq {x y : Option (List Value)} (h : sameRow x y = true) : x = y := by
  cases x with
  | none => cases h
  | some l =>
    cases y with
    | none => cases h
    | some k => rw [veqL_eq h]
/-- The cells of a read, as they are in a state. -/
noncomputable def seen (σ : St) (r : RowAt) : Option (List Value) := σ.read r.b r.off r.n
theorem reads_use {bs : List Nat} {ds : List Trace} (h : readsOk bs ds ds = true) {i j : Nat} {r : RowAt} {pre post : St} (hr : .read i r ∈ ds) (he : .eff j pre post ∈ ds) :
    ordered bs i j = true ∨ (r.b < pre.n → pre.ver r.b = post.ver r.b ∨ seen pre r = seen post r) := by
  have h1 := allSame_mem (readsOk_mem h i r hr) _ he
  change bi (ordered bs i j) true (bi (Nat.blt r.b pre.n) (bi (Nat.beq (pre.ver r.b) (post.ver r.b)) true (sameRow (seen pre r) (seen post r))) true) = true at h1
  cases ho : ordered bs i j with
  | true => exact .inl rfl
  | false =>
    right
    intro hb
    rw [ho] at h1
    change bi (Nat.blt r.b pre.n) _ true = true at h1
    rw [show Nat.blt r.b pre.n = true from by rw [Nat.blt_eq]; exact hb] at h1
    change bi (Nat.beq (pre.ver r.b) (post.ver r.b)) true (sameRow (seen pre r) (seen post r)) = true at h1
    cases hv : Nat.beq (pre.ver r.b) (post.ver r.b) with
    | true => exact .inl (Nat.eq_of_beq_eq_true hv)
    | false => rw [hv] at h1; exact .inr (sameRow_eq h1)

section
variable {P : Program} {base : Env} {G n : Nat} {call : CallT} {os : Array Oper} {F : Nat → Fr} {S : Nat → St} {r : Nat → Option Stepped}

/-- The operation changed memory. -/
def EffAt (r : Nat → Option Stepped) (i : Nat) : Prop := ∃ s, r i = some s ∧ s.d = .eff

/-- What is known of each operation's step. -/
theorem chain_class (hC : CallsOk P base G call) (hch : Chain P call os F S r 0) {k : Nat} {o : Oper} (ho : os[k]? = some o) {s : Stepped} (hs : r k = some s) :
    wantsV os (F k) o = some true ∧ Class P base G (F k) (S k) o s ∧ F (k + 1) = putV (F k) o.dst s.v ∧ S (k + 1) = s.σ := by
  rcases hch.step k o (Nat.zero_le _) ho with ⟨h1, s', h2, h3, h4, h5⟩ | ⟨h1, h2, h3, h4⟩
  · rw [hs] at h3
    cases h3
    exact ⟨h1, step_class hC h2, h4, h5⟩
  · rw [hs] at h2; cases h2
theorem chain_skip (hch : Chain P call os F S r 0) {k : Nat} {o : Oper} (ho : os[k]? = some o) (hs : r k = none) :
    wantsV os (F k) o = some false ∧ F (k + 1) = putV (F k) o.dst undefV ∧ S (k + 1) = S k := by
  rcases hch.step k o (Nat.zero_le _) ho with ⟨h1, s', h2, h3, h4, h5⟩ | ⟨h1, h2, h3, h4⟩
  · rw [hs] at h3; cases h3
  · exact ⟨h1, h3, h4⟩

theorem chain_adv1 (hC : CallsOk P base G call) (hch : Chain P call os F S r 0) {k : Nat} (hk : k < os.size) :
    Adv (S k) (S (k + 1)) ∧ (¬ EffAt r k → ∀ b, b < (S k).n → (S (k + 1)).h.get b = (S k).h.get b) := by
  have ho : os[k]? = some os[k] := Array.getElem?_eq_getElem hk
  cases hr : r k with
  | none =>
    obtain ⟨_, _, h3⟩ := chain_skip hch ho hr
    rw [h3]
    exact ⟨.refl _, fun _ _ _ => rfl⟩
  | some s =>
    obtain ⟨_, hcl, _, h5⟩ := chain_class hC hch ho hr
    rw [h5]
    cases hcl with
    | pure h => exact ⟨.refl _, fun _ _ _ => rfl⟩
    | new h => exact ⟨.new _ _, fun _ b hb => Tr.get_set_ne _ _ (by omega)⟩
    | read h => exact ⟨.refl _, fun _ _ _ => rfl⟩
    | eff h => exact ⟨h.1, fun hne => absurd ⟨_, hr, rfl⟩ hne⟩
    | pan h => exact absurd rfl (hch.np k _ (Nat.zero_le _) hr)
theorem chain_adv (hC : CallsOk P base G call) (hch : Chain P call os F S r 0) {i : Nat} : ∀ {j : Nat}, i ≤ j → j ≤ os.size → Adv (S i) (S j) := by
  intro j
  induction j with
  | zero => intro h1 _; obtain rfl : i = 0 := by omega
            exact .refl _
  | succ j ih =>
    intro h1 h2
    by_cases hij : i = j + 1
    · subst hij; exact .refl _
    · exact (ih (by omega) (by omega)).trans (chain_adv1 hC hch (by omega)).1
/-- Between two points, a block that no operation changed is as it was. -/
theorem chain_same (hC : CallsOk P base G call) (hch : Chain P call os F S r 0) {i b : Nat} (hb : b < (S i).n) : ∀ {j : Nat}, i ≤ j → j ≤ os.size →
    (∀ k, i ≤ k → k < j → EffAt r k → (S k).ver b = (S (k + 1)).ver b) → (S j).h.get b = (S i).h.get b := by
  intro j
  induction j with
  | zero => intro h1 _ _; obtain rfl : i = 0 := by omega
            rfl
  | succ j ih =>
    intro h1 h2 hv
    by_cases hij : i = j + 1
    · subst hij; rfl
    · have h3 := ih (by omega) (by omega) (fun k hk1 hk2 he => hv k hk1 (by omega) he)
      have hbj : b < (S j).n := Nat.lt_of_lt_of_le hb (chain_adv hC hch (by omega) (by omega)).n
      obtain ⟨a1, a2⟩ := chain_adv1 hC hch (k := j) (by omega)
      by_cases he : EffAt r j
      · rcases a1.ver b hbj with h4 | h4
        · exact h4.trans h3
        · have := hv j (by omega) (by omega) he
          omega
      · exact (a2 he b hbj).trans h3

theorem seen_get {σ σ' : St} {r : RowAt} (h : σ'.h.get r.b = σ.h.get r.b) : seen σ' r = seen σ r := by
  unfold seen St.read St.rblk St.blk
  rw [h]
/-- Between two points, cells that no operation changed are as they were. -/
theorem chain_seen (hC : CallsOk P base G call) (hch : Chain P call os F S r 0) {i : Nat} {x : RowAt} (hb : x.b < (S i).n) : ∀ {j : Nat}, i ≤ j → j ≤ os.size →
    (∀ k, i ≤ k → k < j → EffAt r k → seen (S k) x = seen (S (k + 1)) x) → seen (S j) x = seen (S i) x := by
  intro j
  induction j with
  | zero => intro h1 _ _; obtain rfl : i = 0 := by omega
            rfl
  | succ j ih =>
    intro h1 h2 hv
    by_cases hij : i = j + 1
    · subst hij; rfl
    · have h3 := ih (by omega) (by omega) (fun k hk1 hk2 he => hv k hk1 (by omega) he)
      have hbj : x.b < (S j).n := Nat.lt_of_lt_of_le hb (chain_adv hC hch (by omega) (by omega)).n
      obtain ⟨a1, a2⟩ := chain_adv1 hC hch (k := j) (by omega)
      by_cases he : EffAt r j
      · rw [← hv j (by omega) (by omega) he]; exact h3
      · rw [seen_get (a2 he x.b hbj)]; exact h3

/-- What a block of the abstract machine holds when the effects before 'k', and other operations, have run. -/
def HybIs (os : Array Oper) (S : Nat → St) (k b : Nat) (B : Blk) : Prop :=
  (b < (S k).n ∧ (S k).blk b = some B) ∨ ∃ j, k ≤ j ∧ j < os.size ∧ (S j).n ≤ b ∧ b < (S (j + 1)).n ∧ (S (j + 1)).blk b = some B

/-- What holds when some of the operations have run. -/
structure Inv (base : Env) (os : Array Oper) (F : Nat → Fr) (S : Nat → St) (r : Nat → Option Stepped) (ρ₀ : Place) (a₀ : Act) (w₀ : World) (L : Nat → Prop) (ρ : Place) (a : Act) (w : World) (k : Nat) : Prop where
  kle : k ≤ os.size
  kpre : ∀ j, j < k → EffAt r j → L j
  kthis : k < os.size → EffAt r k ∧ ¬ L k
  kpost : ∀ j, k ≤ j → j < os.size → EffAt r j → ¬ L j
  down : ∀ j, L j → ∀ i, Bef os i j → L i
  ext : ∀ b, b < (S 0).n ∨ (S os.size).n ≤ b → ρ b = ρ₀ b
  unb : ∀ i, i < os.size → ¬ L i → ∀ b, (S i).n ≤ b → b < (S (i + 1)).n → ρ b = none
  le : ρ₀.le ρ
  tmp : ∀ t i, i ≤ os.size → (∀ j o, j < i → os[j]? = some o → o.dst = some t → L j) → (∀ j o, i ≤ j → os[j]? = some o → o.dst = some t → ¬ L j) →
    ∀ v, (F i).get t = some v → ∃ v', a.tmps[t]? = some v' ∧ VRel ρ v v'
  asize : a.tmps.size = a₀.tmps.size
  adef : a.defers = a₀.defers
  row : ∀ b q B, ρ b = some q → HybIs os S k b B → Sits base ρ w q B
  dom : ∀ b q, ρ b = some q → q.c < w.heap.size
  own : ∀ b q B, ρ b = some q → HybIs os S k b B → B.own = true → base.lo ≤ q.c
  sep : ∀ b q B b' q', ρ b = some q → HybIs os S k b B → B.own = true → b' ≠ b → ρ b' = some q' → ((S os.size).n ≤ b' ∨ ∃ B', HybIs os S k b' B') → q'.c ≠ q.c
  low : base.lo ≤ w.heap.size
  size : w₀.heap.size ≤ w.heap.size
  keep : ∀ c, c < w₀.heap.size → (∀ b q B, ρ₀ b = some q → q.c = c → (S 0).blk b = some B → B.own = false) → w.heap[c]? = w₀.heap[c]?
  owned : ∀ b q B, ρ b = some q → HybIs os S k b B → q.c < w₀.heap.size → ∃ b₀ q₀ B₀, ρ₀ b₀ = some q₀ ∧ q₀.c = q.c ∧ (S 0).blk b₀ = some B₀ ∧ (B.own = true → B₀.own = true)
  out : Outside w₀ w
  same : ∀ b, b < (S 0).n → ρ₀ b = none → (S k).h.get b = (S 0).h.get b
  birth : ∀ i, i < k → ¬ L i → ∀ b, (S i).n ≤ b → b < (S (i + 1)).n → (S k).h.get b = (S (i + 1)).h.get b

end
end Go.Ab
