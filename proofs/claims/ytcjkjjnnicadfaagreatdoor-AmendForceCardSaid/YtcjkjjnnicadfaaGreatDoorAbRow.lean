/- Blocks as rows: what they hold, through new blocks and writes. -/
import Derived.Test.YtcjkjjnnicadfaaGreatDoorAbVal
set_option linter.unusedSimpArgs false
set_option linter.unusedVariables false
namespace Go.Ab
open Go
/-- The cells of a block that is a row. -/
noncomputable def St.row (σ : St) (b : Nat) : Option (List Value) := ob (σ.rblk b) fun B => some B.cells
/-- The cells of a row that the machine may write. -/
noncomputable def St.orow (σ : St) (b : Nat) : Option (List Value) := ob (σ.rblk b) fun B => bb B.own (some B.cells)
section
variable {σ σ' : St} {b c off n : Nat} {cs vs : List Value} {fr : Fr} {ps : List Nat} {assign body : Code} {st : LoopState} {pend : Option Code} {k : Kind}
theorem read_eq : σ.read b off n = ob (σ.row b) fun cs => sub cs off n := by
  show ob (σ.rblk b) _ = ob (ob (σ.rblk b) _) _
  cases σ.rblk b <;> rfl
theorem write_eq : σ.write b off vs = ob (σ.orow b) fun cs => ob (splice cs off vs) fun cs' => some (σ.upd b cs') := by
  show ob (σ.rblk b) _ = ob (ob (σ.rblk b) _) _
  cases h : σ.rblk b with
  | none => rfl
  | some B =>
    have hv : σ.ver b = B.ver := by
      have := (blk_get (rblk_blk h).1).1
      unfold St.ver; rw [this]
    show bb B.own _ = ob (bb B.own (some B.cells)) _
    cases B.own with
    | false => rfl
    | true => simp only [bb_true, ob_some, St.upd, hv]
theorem kill_eq : σ.kill b = ob (σ.orow b) fun _ => some (σ.dead b) := by
  show ob (σ.rblk b) _ = ob (ob (σ.rblk b) _) _
  cases h : σ.rblk b with
  | none => rfl
  | some B =>
    have hv : σ.ver b = B.ver := by
      have := (blk_get (rblk_blk h).1).1
      unfold St.ver; rw [this]
    show bb B.own _ = ob (bb B.own (some B.cells)) _
    cases B.own with
    | false => rfl
    | true => simp only [bb_true, ob_some, St.dead, hv]
theorem row_congr (h : σ'.h.get b = σ.h.get b) : σ'.row b = σ.row b := by
  show ob (ob (ob (σ'.h.get b) _) _) _ = ob (ob (ob (σ.h.get b) _) _) _
  rw [h]
theorem orow_congr (h : σ'.h.get b = σ.h.get b) : σ'.orow b = σ.orow b := by
  show ob (ob (ob (σ'.h.get b) _) _) _ = ob (ob (ob (σ.h.get b) _) _) _
  rw [h]
theorem Own.orow (h : Own σ b cs) : σ.orow b = some cs := by
  obtain ⟨v, h⟩ := h
  show ob (ob (ob (σ.h.get b) _) _) _ = _
  rw [h]; rfl
theorem row_of (h : σ.orow b = some cs) : σ.row b = some cs := by
  obtain ⟨B, h1, h2⟩ := ob_eq (show ob (σ.rblk b) _ = some cs from h)
  obtain ⟨h3, h4⟩ := bb_eq h2
  show ob (σ.rblk b) _ = _
  rw [h1]; exact h4
theorem row_new_same (h1 : b ≤ σ.n) (h2 : σ.n ≤ b) : (σ.new cs).row b = some cs := by
  obtain rfl := Nat.le_antisymm h1 h2
  exact row_of (Own.new σ cs).orow
theorem orow_new_same (h1 : b ≤ σ.n) (h2 : σ.n ≤ b) : (σ.new cs).orow b = some cs := by
  obtain rfl := Nat.le_antisymm h1 h2
  exact (Own.new σ cs).orow
theorem row_new_ne (h : b ≠ σ.n) : (σ.new cs).row b = σ.row b := row_congr (by rw [new_get, if_neg h])
theorem orow_new_ne (h : b ≠ σ.n) : (σ.new cs).orow b = σ.orow b := orow_congr (by rw [new_get, if_neg h])
theorem row_upd_same : (σ.upd b cs).row b = some cs := row_of (Own.upd σ b cs).orow
theorem orow_upd_same : (σ.upd b cs).orow b = some cs := (Own.upd σ b cs).orow
theorem row_upd_ne (h : b ≠ c) : (σ.upd c cs).row b = σ.row b := row_congr (by rw [upd_get, if_neg h])
theorem orow_upd_ne (h : b ≠ c) : (σ.upd c cs).orow b = σ.orow b := orow_congr (by rw [upd_get, if_neg h])
theorem row_dead_ne (h : b ≠ c) : (σ.dead c).row b = σ.row b := row_congr (by rw [dead_get, if_neg h])
theorem orow_dead_ne (h : b ≠ c) : (σ.dead c).orow b = σ.orow b := orow_congr (by rw [dead_get, if_neg h])
theorem row_updL_ne (h : b ≠ c) : (σ.updL c fr ps assign body st pend).row b = σ.row b := row_congr (by rw [updL_get, if_neg h])
theorem orow_updL_ne (h : b ≠ c) : (σ.updL c fr ps assign body st pend).orow b = σ.orow b := orow_congr (by rw [updL_get, if_neg h])
theorem row_newK_ne (h : b ≠ σ.n) : (σ.newK cs k).row b = σ.row b := row_congr (by rw [newK_get, if_neg h])
theorem orow_newK_ne (h : b ≠ σ.n) : (σ.newK cs k).orow b = σ.orow b := orow_congr (by rw [newK_get, if_neg h])
theorem Ext.row (h : Ext σ σ') (hb : b < σ.n) : σ'.row b = σ.row b := row_congr (h.same b hb)
theorem Ext.orow (h : Ext σ σ') (hb : b < σ.n) : σ'.orow b = σ.orow b := orow_congr (h.same b hb)
theorem sub_skip {α : Type} {x : α} {l : List α} {o m : Nat} : sub (x :: l) (o + 1) m = sub l o m := rfl
theorem sub_cons {α : Type} {x : α} {l : List α} {m : Nat} : sub (x :: l) 0 (m + 1) = ob (takeN m l) fun r => some (x :: r) := rfl
theorem sub_none {α : Type} {l : List α} : sub l 0 0 = some [] := rfl
theorem sub_full {α : Type} {l : List α} {m : Nat} (h1 : m ≤ l.length) (h2 : l.length ≤ m) : sub l 0 m = some l := sub_len l m (Nat.le_antisymm h1 h2)
theorem beq_same {m q : Nat} (h1 : m ≤ q) (h2 : q ≤ m) : m.beq q = true := beq_len (Nat.le_antisymm h1 h2)
theorem splice_full {α : Type} {l new : List α} (h1 : new.length ≤ l.length) (h2 : l.length ≤ new.length) : splice l 0 new = some new := splice_all (Nat.le_antisymm h1 h2)
/-- A record of a range, through new blocks and writes. -/
theorem LoopAt.new_ne (h : LoopAt σ b fr ps assign body st pend) (hb : b ≠ σ.n) : LoopAt (σ.new cs) b fr ps assign body st pend := h.of_get (by rw [new_get, if_neg hb])
theorem LoopAt.upd_ne (h : LoopAt σ b fr ps assign body st pend) (hb : b ≠ c) : LoopAt (σ.upd c cs) b fr ps assign body st pend := h.of_get (by rw [upd_get, if_neg hb])
theorem LoopAt.ext (h : LoopAt σ b fr ps assign body st pend) (hb : b < σ.n) (he : Ext σ σ') : LoopAt σ' b fr ps assign body st pend := h.of_get (he.same b hb)
end
end Go.Ab
