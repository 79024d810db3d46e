/- Laws of the abstract machine's memory: new blocks, writes, and what is left as it was. -/
import Derived.Test.YtcjkjjnnicadfaaGreatDoorAbSym
set_option linter.unusedSimpArgs false
set_option linter.unusedVariables false
namespace Go.Ab
open Go

/-- A block is a row of these cells. -/
def RowAt' (σ : St) (b : Nat) (cs : List Value) : Prop := ∃ own ver, σ.h.get b = some ⟨cs, true, own, ver, .row⟩
/-- A block that the machine has made is a row of these cells. -/
def Own (σ : St) (b : Nat) (cs : List Value) : Prop := ∃ ver, σ.h.get b = some ⟨cs, true, true, ver, .row⟩
/-- Nothing that was there has changed. -/
structure Ext (σ σ' : St) : Prop where
  n : σ.n ≤ σ'.n
  same : ∀ b, b < σ.n → σ'.h.get b = σ.h.get b
/-- A row gets other cells. -/
noncomputable def St.upd (σ : St) (b : Nat) (cs : List Value) : St := ⟨σ.h.set b ⟨cs, true, true, σ.ver b + 1, .row⟩, σ.n⟩
noncomputable def St.dead (σ : St) (b : Nat) : St := ⟨σ.h.set b ⟨[], false, true, σ.ver b + 1, .row⟩, σ.n⟩

theorem Own.row {σ : St} {b : Nat} {cs : List Value} (h : Own σ b cs) : RowAt' σ b cs := let ⟨v, h⟩ := h; ⟨true, v, h⟩
theorem RowAt'.rblk {σ : St} {b : Nat} {cs : List Value} (h : RowAt' σ b cs) : ∃ own ver, σ.rblk b = some ⟨cs, true, own, ver, .row⟩ := by
  obtain ⟨o, v, h⟩ := h
  refine ⟨o, v, ?_⟩
  show ob (ob (σ.h.get b) _) _ = _
  rw [h]; rfl
theorem RowAt'.read {σ : St} {b : Nat} {cs : List Value} (h : RowAt' σ b cs) (off n : Nat) : σ.read b off n = sub cs off n := by
  obtain ⟨o, v, h⟩ := h.rblk
  show ob (σ.rblk b) _ = _
  rw [h]; rfl
theorem Own.write {σ : St} {b : Nat} {cs : List Value} (h : Own σ b cs) (off : Nat) (vs : List Value) : σ.write b off vs = ob (splice cs off vs) fun cs' => some (σ.upd b cs') := by
  obtain ⟨v, h⟩ := h
  have hv : σ.ver b = v := by unfold St.ver; rw [h]
  have hb : σ.rblk b = some ⟨cs, true, true, v, .row⟩ := by
    show ob (ob (σ.h.get b) _) _ = _
    rw [h]; rfl
  show ob (σ.rblk b) _ = _
  unfold St.upd
  rw [hb, hv]; rfl
theorem Own.kill {σ : St} {b : Nat} {cs : List Value} (h : Own σ b cs) : σ.kill b = some (σ.dead b) := by
  obtain ⟨v, h⟩ := h
  have hv : σ.ver b = v := by unfold St.ver; rw [h]
  have hb : σ.rblk b = some ⟨cs, true, true, v, .row⟩ := by
    show ob (ob (σ.h.get b) _) _ = _
    rw [h]; rfl
  show ob (σ.rblk b) _ = _
  unfold St.dead
  rw [hb, hv]; rfl

@[simp] theorem new_n (σ : St) (cs : List Value) : (σ.new cs).n = σ.n + 1 := rfl
@[simp] theorem upd_n (σ : St) (b : Nat) (cs : List Value) : (σ.upd b cs).n = σ.n := rfl
@[simp] theorem dead_n (σ : St) (b : Nat) : (σ.dead b).n = σ.n := rfl
theorem new_get (σ : St) (cs : List Value) (b : Nat) : (σ.new cs).h.get b = if b = σ.n then some ⟨cs, true, true, 0, .row⟩ else σ.h.get b := Tr.get_set _ _ _ _
theorem upd_get (σ : St) (c : Nat) (cs : List Value) (b : Nat) : (σ.upd c cs).h.get b = if b = c then some ⟨cs, true, true, σ.ver c + 1, .row⟩ else σ.h.get b := Tr.get_set _ _ _ _
theorem dead_get (σ : St) (c : Nat) (b : Nat) : (σ.dead c).h.get b = if b = c then some ⟨[], false, true, σ.ver c + 1, .row⟩ else σ.h.get b := Tr.get_set _ _ _ _

theorem Ext.refl (σ : St) : Ext σ σ := ⟨Nat.le_refl _, fun _ _ => rfl⟩
theorem Ext.trans {σ σ' σ'' : St} (h : Ext σ σ') (k : Ext σ' σ'') : Ext σ σ'' := ⟨Nat.le_trans h.n k.n, fun b hb => by rw [k.same b (Nat.lt_of_lt_of_le hb h.n), h.same b hb]⟩
theorem Ext.new (σ : St) (cs : List Value) : Ext σ (σ.new cs) := ⟨Nat.le_succ _, fun b hb => by rw [new_get, if_neg (by omega)]⟩
theorem Ext.upd {σ σ' : St} (h : Ext σ σ') {b : Nat} (hb : σ.n ≤ b) (cs : List Value) : Ext σ (σ'.upd b cs) := ⟨h.n, fun c hc => by rw [upd_get, if_neg (by omega), h.same c hc]⟩
theorem Ext.dead {σ σ' : St} (h : Ext σ σ') {b : Nat} (hb : σ.n ≤ b) : Ext σ (σ'.dead b) := ⟨h.n, fun c hc => by rw [dead_get, if_neg (by omega), h.same c hc]⟩
theorem Ext.new' {σ σ' : St} (h : Ext σ σ') (cs : List Value) : Ext σ (σ'.new cs) := h.trans (.new _ _)
theorem RowAt'.lt {σ : St} {b : Nat} {cs : List Value} (h : RowAt' σ b cs) (hf : ∀ b, σ.n ≤ b → σ.h.get b = none) : b < σ.n := by
  rcases Nat.lt_or_ge b σ.n with hh | hh
  · exact hh
  · obtain ⟨o, v, h⟩ := h; rw [hf b hh] at h; cases h
theorem RowAt'.ext {σ σ' : St} {b : Nat} {cs : List Value} (h : RowAt' σ b cs) (hb : b < σ.n) (he : Ext σ σ') : RowAt' σ' b cs := let ⟨o, v, h⟩ := h; ⟨o, v, by rw [he.same b hb]; exact h⟩
theorem Own.ext {σ σ' : St} {b : Nat} {cs : List Value} (h : Own σ b cs) (hb : b < σ.n) (he : Ext σ σ') : Own σ' b cs := let ⟨v, h⟩ := h; ⟨v, by rw [he.same b hb]; exact h⟩

theorem Own.new (σ : St) (cs : List Value) : Own (σ.new cs) σ.n cs := ⟨0, by rw [new_get, if_pos rfl]⟩
theorem Own.upd (σ : St) (b : Nat) (cs : List Value) : Own (σ.upd b cs) b cs := ⟨_, by rw [upd_get, if_pos rfl]⟩
theorem Own.new_ne {σ : St} {b : Nat} {cs ds : List Value} (h : Own σ b cs) (hb : b < σ.n) : Own (σ.new ds) b cs := h.ext hb (.new _ _)
theorem Own.upd_ne {σ : St} {b c : Nat} {cs ds : List Value} (h : Own σ b cs) (hb : b ≠ c) : Own (σ.upd c ds) b cs := let ⟨v, h⟩ := h; ⟨v, by rw [upd_get, if_neg hb]; exact h⟩
theorem Own.dead_ne {σ : St} {b c : Nat} {cs : List Value} (h : Own σ b cs) (hb : b ≠ c) : Own (σ.dead c) b cs := let ⟨v, h⟩ := h; ⟨v, by rw [dead_get, if_neg hb]; exact h⟩
theorem RowAt'.new_ne {σ : St} {b : Nat} {cs ds : List Value} (h : RowAt' σ b cs) (hb : b < σ.n) : RowAt' (σ.new ds) b cs := h.ext hb (.new _ _)
theorem RowAt'.upd_ne {σ : St} {b c : Nat} {cs ds : List Value} (h : RowAt' σ b cs) (hb : b ≠ c) : RowAt' (σ.upd c ds) b cs := let ⟨o, v, h⟩ := h; ⟨o, v, by rw [upd_get, if_neg hb]; exact h⟩
theorem RowAt'.dead_ne {σ : St} {b c : Nat} {cs : List Value} (h : RowAt' σ b cs) (hb : b ≠ c) : RowAt' (σ.dead c) b cs := let ⟨o, v, h⟩ := h; ⟨o, v, by rw [dead_get, if_neg hb]; exact h⟩

/- Reads and writes, through new blocks and writes. -/
theorem read_new_same (σ : St) (cs : List Value) (off n : Nat) : (σ.new cs).read σ.n off n = sub cs off n := (Own.new σ cs).row.read off n
theorem read_upd_same (σ : St) (b : Nat) (cs : List Value) (off n : Nat) : (σ.upd b cs).read b off n = sub cs off n := (Own.upd σ b cs).row.read off n
theorem read_congr {σ σ' : St} {b : Nat} (h : σ'.h.get b = σ.h.get b) (off n : Nat) : σ'.read b off n = σ.read b off n := by
  show ob (ob (ob (σ'.h.get b) _) _) _ = ob (ob (ob (σ.h.get b) _) _) _
  rw [h]
theorem read_new_ne (σ : St) (cs : List Value) {b : Nat} (off n : Nat) (h : b ≠ σ.n) : (σ.new cs).read b off n = σ.read b off n := read_congr (by rw [new_get, if_neg h]) _ _
theorem read_upd_ne (σ : St) (c : Nat) (cs : List Value) {b : Nat} (off n : Nat) (h : b ≠ c) : (σ.upd c cs).read b off n = σ.read b off n := read_congr (by rw [upd_get, if_neg h]) _ _
theorem read_dead_ne (σ : St) (c : Nat) {b : Nat} (off n : Nat) (h : b ≠ c) : (σ.dead c).read b off n = σ.read b off n := read_congr (by rw [dead_get, if_neg h]) _ _
theorem write_new_same (σ : St) (cs : List Value) (off : Nat) (vs : List Value) : (σ.new cs).write σ.n off vs = ob (splice cs off vs) fun cs' => some ((σ.new cs).upd σ.n cs') := (Own.new σ cs).write off vs
theorem write_upd_same (σ : St) (b : Nat) (cs : List Value) (off : Nat) (vs : List Value) : (σ.upd b cs).write b off vs = ob (splice cs off vs) fun cs' => some ((σ.upd b cs).upd b cs') := (Own.upd σ b cs).write off vs

/- Lists. -/
theorem sub_all {α : Type} (l : List α) : sub l 0 l.length = some l := by rw [sub_of (by omega)]; simp
theorem sub_len {α : Type} (l : List α) (n : Nat) (h : n = l.length) : sub l 0 n = some l := by subst h; exact sub_all l
theorem takeN_zero {α : Type} (l : List α) : takeN 0 l = some [] := rfl
theorem takeN_succ {α : Type} (n : Nat) (x : α) (l : List α) : takeN (n + 1) (x :: l) = ob (takeN n l) fun r => some (x :: r) := rfl
theorem dropN_zero {α : Type} (l : List α) : dropN 0 l = some l := rfl
theorem dropN_succ {α : Type} (n : Nat) (x : α) (l : List α) : dropN (n + 1) (x :: l) = dropN n l := rfl
/-- Rows of equal length, one after the other. -/
def flat' {α : Type} (rows : List (List α)) : List α := rows.flatten
theorem flatten_len {α : Type} {k : Nat} : ∀ (rows : List (List α)), (∀ r ∈ rows, r.length = k) → rows.flatten.length = rows.length * k := by
  intro rows
  induction rows with
  | nil => intro _; simp
  | cons r rows ih => intro h; simp [ih (fun r hr => h r (by simp [hr])), h r (by simp), Nat.succ_mul]; omega
theorem flatten_drop {α : Type} {k : Nat} : ∀ (rows : List (List α)) (i : Nat), (∀ r ∈ rows, r.length = k) → rows.flatten.drop (i * k) = (rows.drop i).flatten := by
  intro rows
  induction rows with
  | nil => intro i _; simp
  | cons r rows ih =>
    intro i h
    cases i with
    | zero => simp
    | succ i =>
      have hr := h r (by simp)
      rw [List.flatten_cons, List.drop_append]
      rw [List.drop_eq_nil_of_le (by rw [hr, Nat.succ_mul]; omega), List.nil_append, hr, show (i + 1) * k - k = i * k from by rw [Nat.succ_mul]; omega, ih i (fun r hr => h r (by simp [hr]))]
      rfl
/-- A part of one of the rows. -/
theorem sub_rows {α : Type} {k : Nat} {rows : List (List α)} (h : ∀ r ∈ rows, r.length = k) {i : Nat} {r : List α} (hi : rows[i]? = some r) {o n : Nat} (ho : o + n ≤ k) : sub rows.flatten (i * k + o) n = sub r o n := by
  obtain ⟨hlt, he⟩ := List.getElem?_eq_some_iff.1 hi
  have hr : r.length = k := h r (by rw [← he]; exact List.getElem_mem hlt)
  have hlen : (rows.length - i) * k ≤ rows.length * k - i * k := by rw [Nat.sub_mul]; exact Nat.le_refl _
  have h1 : i * k + k ≤ rows.length * k := by
    have : (i + 1) * k ≤ rows.length * k := Nat.mul_le_mul_right k hlt
    rw [Nat.succ_mul] at this; exact this
  rw [sub_of (by rw [flatten_len rows h]; omega), sub_of (by omega)]
  rw [← List.drop_drop, flatten_drop rows i h, List.drop_eq_getElem_cons hlt, he, List.flatten_cons, List.drop_append, List.take_append]
  rw [show n - (r.drop o).length = 0 from by rw [List.length_drop]; omega]
  simp
end Go.Ab
