/- Lemmas on the abstract machine's tables and lists, and how its values stand to the model's. -/
import Derived.Test.YtcjkjjnnicadfaaGreatDoorAbDef
set_option linter.unusedSimpArgs false
set_option linter.unusedVariables false
namespace Go.Ab
open Go

@[simp] theorem ob_some {α β : Type} (a : α) (f : α → Option β) : ob (some a) f = f a := rfl
@[simp] theorem ob_none {α β : Type} (f : α → Option β) : ob (none : Option α) f = none := rfl
@[simp] theorem bb_true {β : Type} (x : Option β) : bb true x = x := rfl
@[simp] theorem bb_false {β : Type} (x : Option β) : bb false x = none := rfl
@[simp] theorem bi_true {β : Type} (x y : β) : bi true x y = x := rfl
@[simp] theorem bi_false {β : Type} (x y : β) : bi false x y = y := rfl
@[simp] theorem pr_mk {α β γ : Type} (a : α) (b : β) (f : α → β → γ) : pr (a, b) f = f a b := rfl
@[simp] theorem pra_mk {γ : Type} (a b c : Nat) (f : Nat → Nat → Nat → γ) : pra ⟨a, b, c⟩ f = f a b c := rfl
theorem ob_eq {α β : Type} {x : Option α} {f : α → Option β} {b : β} (h : ob x f = some b) : ∃ a, x = some a ∧ f a = some b := by
  cases x with
  | none => cases h
  | some a => exact ⟨a, rfl, h⟩
theorem bb_eq {β : Type} {c : Bool} {x : Option β} {b : β} (h : bb c x = some b) : c = true ∧ x = some b := by
  cases c with
  | false => cases h
  | true => exact ⟨rfl, h⟩

/- Tables. -/
theorem Tr.get_nil {α : Type} (n : Nat) : (Tr.nil : Tr α).get n = none := rfl
theorem Tr.get_zero {α : Type} (l : Tr α) (v : Option α) (r : Tr α) : (Tr.node l v r).get 0 = v := rfl
theorem Tr.get_succ {α : Type} (l : Tr α) (v : Option α) (r : Tr α) (m : Nat) : (Tr.node l v r).get (m + 1) = if m % 2 = 0 then l.get (m / 2) else r.get (m / 2) := by
  show (Nat.rec (motive := fun _ => Option α) (l.get (m / 2)) (fun _ _ => r.get (m / 2)) (m % 2) : Option α) = _
  rcases Nat.mod_two_eq_zero_or_one m with h | h <;> rw [h] <;> rfl
theorem Tr.one_zero {α : Type} (f : Nat) (a : α) : Tr.one (f + 1) 0 a = .node .nil (some a) .nil := rfl
theorem Tr.one_succ {α : Type} (f m : Nat) (a : α) : Tr.one (f + 1) (m + 1) a = if m % 2 = 0 then .node (Tr.one f (m / 2) a) none .nil else .node .nil none (Tr.one f (m / 2) a) := by
  show (Nat.rec (motive := fun _ => Tr α) (.node (Tr.one f (m / 2) a) none .nil) (fun _ _ => .node .nil none (Tr.one f (m / 2) a)) (m % 2) : Tr α) = _
  rcases Nat.mod_two_eq_zero_or_one m with h | h <;> rw [h] <;> rfl
theorem Tr.get_one {α : Type} (a : α) : ∀ (f n m : Nat), n < f → (Tr.one f n a).get m = if m = n then some a else none := by
  intro f
  induction f with
  | zero => intro n m h; omega
  | succ f ih =>
    intro n m h
    cases n with
    | zero =>
      rw [Tr.one_zero]
      cases m with
      | zero => rfl
      | succ m => rw [Tr.get_succ]; simp [Tr.get_nil]
    | succ n =>
      rw [Tr.one_succ]
      by_cases hn : n % 2 = 0
      · rw [if_pos hn]
        cases m with
        | zero => rw [Tr.get_zero]; simp
        | succ m =>
          rw [Tr.get_succ, ih (n / 2) (m / 2) (by omega), Tr.get_nil]
          by_cases hm : m % 2 = 0
          · rw [if_pos hm]; simp only [Nat.add_right_cancel_iff]
            by_cases he : m = n
            · subst he; simp
            · rw [if_neg (by omega), if_neg he]
          · rw [if_neg hm, if_neg (by omega)]
      · rw [if_neg hn]
        cases m with
        | zero => rw [Tr.get_zero]; simp
        | succ m =>
          rw [Tr.get_succ, ih (n / 2) (m / 2) (by omega), Tr.get_nil]
          by_cases hm : m % 2 = 0
          · rw [if_pos hm, if_neg (by omega)]
          · rw [if_neg hm]; simp only [Nat.add_right_cancel_iff]
            by_cases he : m = n
            · subst he; simp
            · rw [if_neg (by omega), if_neg he]
theorem Tr.set_nil {α : Type} (n : Nat) (a : α) : (Tr.nil : Tr α).set n a = Tr.one (n + 1) n a := rfl
theorem Tr.set_zero {α : Type} (l : Tr α) (v : Option α) (r : Tr α) (a : α) : (Tr.node l v r).set 0 a = .node l (some a) r := rfl
theorem Tr.set_succ {α : Type} (l : Tr α) (v : Option α) (r : Tr α) (m : Nat) (a : α) : (Tr.node l v r).set (m + 1) a = if m % 2 = 0 then .node (l.set (m / 2) a) v r else .node l v (r.set (m / 2) a) := by
  show (Nat.rec (motive := fun _ => Tr α) (.node (l.set (m / 2) a) v r) (fun _ _ => .node l v (r.set (m / 2) a)) (m % 2) : Tr α) = _
  rcases Nat.mod_two_eq_zero_or_one m with h | h <;> rw [h] <;> rfl
theorem Tr.get_set {α : Type} (a : α) (t : Tr α) : ∀ (n m : Nat), (t.set n a).get m = if m = n then some a else t.get m := by
  induction t with
  | nil => intro n m; rw [Tr.set_nil, Tr.get_one a _ _ _ (by omega), Tr.get_nil]
  | node l v r ihl ihr =>
    intro n m
    cases n with
    | zero =>
      rw [Tr.set_zero]
      cases m with
      | zero => rfl
      | succ m => simp [Tr.get_succ]
    | succ n =>
      rw [Tr.set_succ]
      by_cases hn : n % 2 = 0
      · rw [if_pos hn]
        cases m with
        | zero => simp [Tr.get_zero]
        | succ m =>
          rw [Tr.get_succ, ihl, Tr.get_succ]
          by_cases hm : m % 2 = 0
          · rw [if_pos hm, if_pos hm]; simp only [Nat.add_right_cancel_iff]
            by_cases he : m = n
            · subst he; simp
            · rw [if_neg (by omega), if_neg he]
          · rw [if_neg hm, if_neg hm]; simp only [Nat.add_right_cancel_iff]; rw [if_neg (by omega)]
      · rw [if_neg hn]
        cases m with
        | zero => simp [Tr.get_zero]
        | succ m =>
          rw [Tr.get_succ, ihr, Tr.get_succ]
          by_cases hm : m % 2 = 0
          · rw [if_pos hm, if_pos hm]; simp only [Nat.add_right_cancel_iff]; rw [if_neg (by omega)]
          · rw [if_neg hm, if_neg hm]; simp only [Nat.add_right_cancel_iff]
            by_cases he : m = n
            · subst he; simp
            · rw [if_neg (by omega), if_neg he]
theorem Tr.get_set_same {α : Type} (t : Tr α) (n : Nat) (a : α) : (t.set n a).get n = some a := by rw [Tr.get_set, if_pos rfl]
theorem Tr.get_set_ne {α : Type} (t : Tr α) {n m : Nat} (a : α) (h : m ≠ n) : (t.set n a).get m = t.get m := by rw [Tr.get_set, if_neg h]

/- Lists. -/
theorem takeN_eq {α : Type} : ∀ (n : Nat) (l r : List α), takeN n l = some r → n ≤ l.length ∧ r = l.take n := by
  intro n
  induction n with
  | zero => intro l r h; cases h; simp
  | succ n ih =>
    intro l r h
    cases l with
    | nil => cases h
    | cons x xs =>
      obtain ⟨r', h1, h2⟩ := ob_eq (show ob (takeN n xs) (fun r => some (x :: r)) = some r from h)
      cases h2
      obtain ⟨h3, h4⟩ := ih _ _ h1
      exact ⟨by simp; omega, by simp [h4]⟩
theorem takeN_of {α : Type} : ∀ (n : Nat) (l : List α), n ≤ l.length → takeN n l = some (l.take n) := by
  intro n
  induction n with
  | zero => intro l _; rfl
  | succ n ih =>
    intro l h
    cases l with
    | nil => simp at h
    | cons x xs =>
      show ob (takeN n xs) (fun r => some (x :: r)) = _
      rw [ih xs (by simpa using h)]; rfl
theorem dropN_eq {α : Type} : ∀ (n : Nat) (l r : List α), dropN n l = some r → n ≤ l.length ∧ r = l.drop n := by
  intro n
  induction n with
  | zero => intro l r h; cases h; simp
  | succ n ih =>
    intro l r h
    cases l with
    | nil => cases h
    | cons x xs =>
      obtain ⟨h3, h4⟩ := ih _ _ (show dropN n xs = some r from h)
      exact ⟨by simp; omega, by simp [h4]⟩
theorem dropN_of {α : Type} : ∀ (n : Nat) (l : List α), n ≤ l.length → dropN n l = some (l.drop n) := by
  intro n
  induction n with
  | zero => intro l _; rfl
  | succ n ih =>
    intro l h
    cases l with
    | nil => simp at h
    | cons x xs => show dropN n xs = _; rw [ih xs (by simpa using h)]; rfl
theorem sub_eq {α : Type} {l r : List α} {off n : Nat} (h : sub l off n = some r) : off + n ≤ l.length ∧ r = (l.drop off).take n := by
  obtain ⟨l', h1, h2⟩ := ob_eq h
  obtain ⟨h3, rfl⟩ := dropN_eq _ _ _ h1
  obtain ⟨h4, rfl⟩ := takeN_eq _ _ _ h2
  exact ⟨by simp at h4; omega, rfl⟩
theorem sub_of {α : Type} {l : List α} {off n : Nat} (h : off + n ≤ l.length) : sub l off n = some ((l.drop off).take n) := by
  show ob (dropN off l) (fun l => takeN n l) = _
  rw [dropN_of _ _ (by omega)]
  exact takeN_of _ _ (by simp; omega)
theorem over_eq {α : Type} : ∀ (new l r : List α), over new l = some r → new.length ≤ l.length ∧ r = new ++ l.drop new.length := by
  intro new
  induction new with
  | nil => intro l r h; cases h; simp
  | cons v vs ih =>
    intro l r h
    cases l with
    | nil => cases h
    | cons x xs =>
      obtain ⟨r', h1, h2⟩ := ob_eq (show ob (over vs xs) (fun r => some (v :: r)) = some r from h)
      cases h2
      obtain ⟨h3, h4⟩ := ih _ _ h1
      exact ⟨by simp; omega, by simp [h4]⟩
theorem splice_eq {α : Type} (new : List α) : ∀ (off : Nat) (l r : List α), splice l off new = some r → off + new.length ≤ l.length ∧ r = l.take off ++ new ++ l.drop (off + new.length) := by
  intro off
  induction off with
  | zero =>
    intro l r h
    obtain ⟨h1, h2⟩ := over_eq new l r h
    exact ⟨by omega, by simp [h2]⟩
  | succ off ih =>
    intro l r h
    cases l with
    | nil => cases h
    | cons x xs =>
      obtain ⟨r', h1, h2⟩ := ob_eq (show ob (splice xs off new) (fun r => some (x :: r)) = some r from h)
      cases h2
      obtain ⟨h3, h4⟩ := ih _ _ h1
      exact ⟨by simp; omega, by simp [h4, Nat.add_right_comm]⟩

/- How values stand to each other. -/
/-- Where a block of the abstract machine lies: the model's block, where in it, and how many cells that block has. -/
structure Spot where
  c : Nat
  o : Nat
  m : Nat
abbrev Place := Nat → Option Spot

mutual
inductive VRel (ρ : Place) : Value → Value → Prop
  | scal {v : Value} (h : scal v = true) : VRel ρ v v
  | ptr {b off : Nat} {q : Spot} (h : ρ b = some q) : VRel ρ (.pointer (some ⟨b, off, none⟩)) (.pointer (some ⟨q.c, q.o + off, none⟩))
  | slice {b off n k : Nat} {q : Spot} (h : ρ b = some q) : VRel ρ (.slice (some ⟨b, off, none⟩) n k) (.slice (some ⟨q.c, q.o + off, none⟩) n k)
  | grow {b off s n k k' : Nat} {q : Spot} (h : ρ b = some q) (hk : k ≤ k') (hm : q.o + off + k' * s ≤ q.m) : VRel ρ (.slice (some ⟨b, off, some s⟩) n k) (.slice (some ⟨q.c, q.o + off, none⟩) n k')
  | slice0 {b off : Nat} {sp : Option Nat} {q : Spot} {x : Addr} (h : ρ b = some q) : VRel ρ (.slice (some ⟨b, off, sp⟩) 0 0) (.slice (some x) 0 0)
  | func {fn : Fn} {f f' c c' : List Value} (hy : noYield fn = true) (h1 : VsRel ρ f f') (h2 : VsRel ρ c c') : VRel ρ (.func fn ⟨f⟩ ⟨c⟩) (.func fn ⟨f'⟩ ⟨c'⟩)
  | map {b : Nat} {q : Spot} (h : ρ b = some q) : VRel ρ (.map (some b)) (.map (some q.c))
  | yld {b : Nat} {q : Spot} (h : ρ b = some q) : VRel ρ (.func (.yield b) ⟨[]⟩ ⟨[]⟩) (.func (.yield q.c) ⟨[]⟩ ⟨[]⟩)
  | iface {t : TypeId} {v v' : Value} (h : VRel ρ v v') : VRel ρ (.iface t v) (.iface t v')
  | agg {l l' : List Value} (hc : ∀ v ∈ l, isCell v = true) (h : VsRel ρ l l') : VRel ρ (.agg ⟨l⟩) (.agg ⟨l'⟩)
  | tuple {l l' : List Value} (h : VsRel ρ l l') : VRel ρ (.tuple ⟨l⟩) (.tuple ⟨l'⟩)
inductive VsRel (ρ : Place) : List Value → List Value → Prop
  | nil : VsRel ρ [] []
  | cons {v v' : Value} {l l' : List Value} (h : VRel ρ v v') (hs : VsRel ρ l l') : VsRel ρ (v :: l) (v' :: l')
end

/-- One placing goes on with another. -/
def Place.le (ρ ρ' : Place) : Prop := ∀ b p, ρ b = some p → ρ' b = some p
theorem Place.le_refl (ρ : Place) : ρ.le ρ := fun _ _ h => h
theorem Place.le_trans {ρ ρ' ρ'' : Place} (h : ρ.le ρ') (h' : ρ'.le ρ'') : ρ.le ρ'' := fun b p k => h' b p (h b p k)

mutual
theorem VRel.mono {ρ ρ' : Place} (hm : ρ.le ρ') {v v' : Value} (h : VRel ρ v v') : VRel ρ' v v' := by
  cases h with
  | scal h => exact .scal h
  | ptr h => exact .ptr (hm _ _ h)
  | slice h => exact .slice (hm _ _ h)
  | grow h hk hc => exact .grow (hm _ _ h) hk hc
  | slice0 h => exact .slice0 (hm _ _ h)
  | func hy h1 h2 => exact .func hy (VsRel.mono hm h1) (VsRel.mono hm h2)
  | map h => exact .map (hm _ _ h)
  | yld h => exact .yld (hm _ _ h)
  | iface h => exact .iface (VRel.mono hm h)
  | agg hc h => exact .agg hc (VsRel.mono hm h)
  | tuple h => exact .tuple (VsRel.mono hm h)
theorem VsRel.mono {ρ ρ' : Place} (hm : ρ.le ρ') {l l' : List Value} (h : VsRel ρ l l') : VsRel ρ' l l' := by
  cases h with
  | nil => exact .nil
  | cons h hs => exact .cons (VRel.mono hm h) (VsRel.mono hm hs)
end

theorem VsRel.length {ρ : Place} : ∀ {l l' : List Value}, VsRel ρ l l' → l.length = l'.length := by
  intro l
  induction l with
  | nil => intro l' h; cases h; rfl
  | cons v l ih => intro l' h; cases h with | cons h hs => simp [ih hs]
theorem VsRel.get {ρ : Place} : ∀ {l l' : List Value} {i : Nat} {v : Value}, VsRel ρ l l' → l[i]? = some v → ∃ v', l'[i]? = some v' ∧ VRel ρ v v' := by
  intro l
  induction l with
  | nil => intro l' i v _ hv; simp at hv
  | cons x l ih =>
    intro l' i v h hv
    cases h with
    | cons h hs =>
      cases i with
      | zero => simp at hv; subst hv; exact ⟨_, rfl, h⟩
      | succ i => simpa using ih hs (by simpa using hv)
theorem VsRel.of_get {ρ : Place} : ∀ {l l' : List Value}, l.length = l'.length → (∀ (i : Nat) (v : Value), l[i]? = some v → ∃ v', l'[i]? = some v' ∧ VRel ρ v v') → VsRel ρ l l' := by
  intro l
  induction l with
  | nil => intro l' h _; cases l' with | nil => exact .nil | cons => simp at h
  | cons x l ih =>
    intro l' h hv
    cases l' with
    | nil => simp at h
    | cons x' l' =>
      obtain ⟨v', h1, h2⟩ := hv 0 x rfl
      simp at h1; subst h1
      exact .cons h2 (ih (by simpa using h) fun i v hi => by simpa using hv (i + 1) v (by simpa using hi))
theorem VsRel.append {ρ : Place} {k k' : List Value} (h2 : VsRel ρ k k') : ∀ {l l' : List Value}, VsRel ρ l l' → VsRel ρ (l ++ k) (l' ++ k') := by
  intro l
  induction l with
  | nil => intro l' h; cases h; exact h2
  | cons v l ih => intro l' h; cases h with | cons h hs => exact .cons h (ih hs)
theorem VsRel.take {ρ : Place} (n : Nat) : ∀ {l l' : List Value}, VsRel ρ l l' → VsRel ρ (l.take n) (l'.take n) := by
  induction n with
  | zero => intro l l' _; simp; exact .nil
  | succ n ih => intro l l' h; cases h with | nil => simp; exact .nil | cons h hs => exact .cons h (ih hs)
theorem VsRel.drop {ρ : Place} (n : Nat) : ∀ {l l' : List Value}, VsRel ρ l l' → VsRel ρ (l.drop n) (l'.drop n) := by
  induction n with
  | zero => intro l l' h; simpa using h
  | succ n ih => intro l l' h; cases h with | nil => simp; exact .nil | cons h hs => exact ih hs
theorem VsRel.rep {ρ : Place} {l l' : List Value} (h : VsRel ρ l l') (n : Nat) : VsRel ρ (Ab.rep l n) (Ab.rep l' n) := by
  induction n with
  | zero => exact .nil
  | succ n ih => exact VsRel.append (k := Ab.rep l n) (k' := Ab.rep l' n) ih h
theorem VsRel.of_scal {ρ : Place} : ∀ {l : List Value}, allScal l = true → VsRel ρ l l := by
  intro l
  induction l with
  | nil => intro _; exact .nil
  | cons v l ih =>
    intro h
    change bi (scal v) (allScal l) false = true at h
    cases hs : scal v with
    | false => rw [hs] at h; cases h
    | true => rw [hs] at h; exact .cons (.scal hs) (ih h)
theorem isCell_of_scal {v : Value} (h : scal v = true) : isCell v = true := by
  cases v <;> first | rfl | (simp [scal] at h)
theorem cells_of_scal : ∀ {l : List Value}, allScal l = true → ∀ v ∈ l, isCell v = true := by
  intro l
  induction l with
  | nil => intro _ v hv; simp at hv
  | cons x l ih =>
    intro h v hv
    change bi (scal x) (allScal l) false = true at h
    cases hs : scal x with
    | false => rw [hs] at h; cases h
    | true =>
      rw [hs] at h
      rcases List.mem_cons.1 hv with rfl | hv
      · exact isCell_of_scal hs
      · exact ih h v hv
theorem VRel.cst {ρ : Place} {v u : Value} (h : cst v = some u) : u = v ∧ VRel ρ v v := by
  obtain ⟨h1, h2⟩ := bb_eq h
  cases h2
  refine ⟨rfl, ?_⟩
  cases v with
  | agg cs =>
    obtain ⟨l⟩ := cs
    exact .agg (cells_of_scal h1) (VsRel.of_scal h1)
  | _ => exact .scal h1

theorem VRel.out {ρ : Place} {v : Value} (h : outOk v = true) : VRel ρ v v := by
  unfold outOk at h
  split at h
  · exact .tuple (VsRel.of_scal h)
  · exact (VRel.cst (u := v) (show bb (cstOk v) (some v) = some v by rw [h]; rfl)).2

theorem VRel.isCell {ρ : Place} {v v' : Value} (h : VRel ρ v v') : isCell v' = isCell v := by cases h <;> rfl
theorem VRel.isTup {ρ : Place} {v v' : Value} (h : VRel ρ v v') : isTup v' = isTup v := by cases h <;> rfl

mutual
theorem VRel.flat {ρ : Place} {v v' : Value} (h : VRel ρ v v') (hf : flat v = true) : v' = v := by
  cases h with
  | scal h => rfl
  | ptr h => simp [Ab.flat] at hf
  | slice h => simp [Ab.flat] at hf
  | grow h hk hc => simp [Ab.flat] at hf
  | slice0 h => simp [Ab.flat] at hf
  | func hy h1 h2 => simp [Ab.flat] at hf
  | map h => simp [Ab.flat] at hf
  | yld h => simp [Ab.flat] at hf
  | iface h => rw [VRel.flat h (by simpa [Ab.flat] using hf)]
  | agg hc h => rw [VsRel.flat h (by simpa [Ab.flat, Ab.flatA] using hf)]
  | tuple h => rw [VsRel.flat h (by simpa [Ab.flat, Ab.flatA] using hf)]
theorem VsRel.flat {ρ : Place} {l l' : List Value} (h : VsRel ρ l l') (hf : flats l = true) : l' = l := by
  cases h with
  | nil => rfl
  | @cons v v' l l' h hs =>
    unfold flats at hf
    cases hv : Ab.flat v with
    | false => rw [hv] at hf; cases hf
    | true => rw [hv] at hf; rw [VRel.flat h hv, VsRel.flat hs hf]
end

/-- The cells of a value, on both sides. -/
theorem VRel.cells {ρ : Place} {v v' : Value} (h : VRel ρ v v') (ht : Ab.isTup v = false) : VsRel ρ (cellsL v) v'.cells.toList ∧ ∀ u ∈ cellsL v, Ab.isCell u = true := by
  cases h with
  | agg hc h => exact ⟨h, hc⟩
  | scal hs =>
    cases v with
    | agg => simp [Ab.scal] at hs
    | tuple => simp [Ab.scal] at hs
    | _ => exact ⟨.cons (.scal hs) .nil, by intro u hu; simp [cellsL] at hu; subst hu; rfl⟩
  | ptr h => exact ⟨.cons (.ptr h) .nil, by intro u hu; simp [cellsL] at hu; subst hu; rfl⟩
  | slice h => exact ⟨.cons (.slice h) .nil, by intro u hu; simp [cellsL] at hu; subst hu; rfl⟩
  | grow h hk hm => exact ⟨.cons (.grow h hk hm) .nil, by intro u hu; simp [cellsL] at hu; subst hu; rfl⟩
  | slice0 h => exact ⟨.cons (.slice0 h) .nil, by intro u hu; simp [cellsL] at hu; subst hu; rfl⟩
  | func hy h1 h2 => exact ⟨.cons (.func hy h1 h2) .nil, by intro u hu; simp [cellsL] at hu; subst hu; rfl⟩
  | map h => exact ⟨.cons (.map h) .nil, by intro u hu; simp [cellsL] at hu; subst hu; rfl⟩
  | yld h => exact ⟨.cons (.yld h) .nil, by intro u hu; simp [cellsL] at hu; subst hu; rfl⟩
  | iface h => exact ⟨.cons (.iface h) .nil, by intro u hu; simp [cellsL] at hu; subst hu; rfl⟩
  | tuple h => simp [Ab.isTup] at ht

end Go.Ab
