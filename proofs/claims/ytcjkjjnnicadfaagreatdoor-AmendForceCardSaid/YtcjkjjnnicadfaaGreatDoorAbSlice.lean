/- Rules for slices that grow, and for structs and slices that are built. -/
import Derived.Test.YtcjkjjnnicadfaaGreatDoorAbDoor
set_option linter.unusedSimpArgs false
set_option linter.unusedVariables false
namespace Go.Ab
open Go
section
variable {P : Program} {σ : St} {fr : Fr} {b off n c len cap size s k : Nat} {sp : Option Nat} {new vs l : List Value} {v x : Value}
theorem src_slice : srcCells σ size (.slice (some ⟨b, off, sp⟩) n c) = ob (σ.read b off (n * size)) fun cs => some (n, cs) := rfl
theorem src_nil : srcCells σ size (.slice none 0 c) = some (0, []) := rfl
theorem an_none : appendNew σ size none 0 n new = some (.slice (some ⟨σ.n, 0, some size⟩) n n, σ.new new) := rfl
theorem an_plain : appendNew σ size (some ⟨b, off, none⟩) len n new = ob (σ.read b off (len * size)) fun old => some (.slice (some ⟨σ.n, 0, some size⟩) (len + n) (len + n), σ.new (old ++ new)) := rfl
theorem an_some : appendNew σ size (some ⟨b, off, some size⟩) len n new = ob (σ.read b off (len * size)) fun old => ob (σ.kill b) fun σ => some (.slice (some ⟨σ.n, 0, some size⟩) (len + n) (len + n), σ.new (old ++ new)) := by
  show bb (Nat.beq size size) _ = _
  rw [beq_len rfl]; rfl
theorem ai_some : appendIn σ size (some ⟨b, off, sp⟩) len cap n new = ob (σ.write b (off + len * size) new) fun σ => some (.slice (some ⟨b, off, sp⟩) (len + n) cap, σ) := rfl
theorem ai_none : appendIn σ size none 0 0 0 new = some (.slice none 0 0, σ) := rfl
theorem ble_no {a b : Nat} (h : b < a) : Nat.ble a b = false := by
  cases hb : Nat.ble a b with
  | false => rfl
  | true => have := Nat.le_of_ble_eq_true hb; omega
theorem blt_no {a b : Nat} (h : b ≤ a) : Nat.blt a b = false := by rw [nblt]; simpa using h
theorem argT_a {c : Callee} {as : Array Operand} {t : TypeId} {ts : List TypeId} : argT ⟨c, as, (t :: ts).toArray⟩ = some t := rfl
theorem argT2_a {c : Callee} {as : Array Operand} {t u : TypeId} {ts : List TypeId} : argT2 ⟨c, as, (t :: u :: ts).toArray⟩ = some u := rfl
theorem not_slice {e : TypeId} : notInt (some (.slice e)) = true := rfl
theorem not_string : notInt (some .string) = true := rfl
theorem fill_nil {place : Nat → Option (Nat × Nat)} {cells : List Value} : fillL place [] cells = some cells := rfl
theorem fill_cons {place : Nat → Option (Nat × Nat)} {i : Nat} {v : Value} {ps : List (Nat × Value)} {cells : List Value} : fillL place ((i, v) :: ps) cells = ob (place i) fun q => pr q fun off n => bi (isTup v) none (bb ((cellsL v).length.beq n) (ob (splice cells off (cellsL v)) (fillL place ps))) := rfl
theorem splice_succ {α : Type} {x : α} {l new : List α} {o : Nat} : splice (x :: l) (o + 1) new = ob (splice l o new) fun r => some (x :: r) := rfl
theorem splice_over {α : Type} {x y : α} {l new : List α} : splice (x :: l) 0 (y :: new) = ob (over new l) fun r => some (y :: r) := rfl
theorem over_nil {α : Type} {l : List α} : over [] l = some l := rfl
theorem over_cons {α : Type} {x y : α} {l new : List α} : over (y :: new) (x :: l) = ob (over new l) fun r => some (y :: r) := rfl
theorem rep_zero {α : Type} {l : List α} : rep l 0 = [] := rfl
theorem rep_succ {α : Type} {l : List α} {n : Nat} : rep l (n + 1) = l ++ rep l n := rfl
theorem undef_q : undefV = .tuple ⟨[]⟩ := rfl
/-- Does a guarded operation run? -/
noncomputable def wantsS (fr : Fr) (want : Bool) (s : Option Tmp) : Option Bool := match s with
  | none => some false
  | some d => ob (fr.get d) fun v => some (yieldOf want v)
theorem ev_guard {all : Array Oper} {d : Option Tmp} {op : Op} {ty : TypeId} {ps : String} {af : Array Edge} {j : Nat} {want : Bool} {Q : Bool → Prop} {uq : Hd Q} :
    Ev (wantsV all fr ⟨d, op, ty, ps, af, some (j, want)⟩) Q uq = Ev (some (dstOf all j)) (fun s => Ev (wantsS fr want s) Q ⟨⟩) ⟨⟩ := by
  rw [wants_d, ev_ob]
  refine congrArg (fun z => Ev _ z ⟨⟩) (funext fun s => ?_)
  cases s <;> rfl
theorem ws_none {want : Bool} {Q : Bool → Prop} {uq : Hd Q} : Ev (wantsS fr want none) Q uq = Q false := ev_some
theorem ws_some {want : Bool} {d : Tmp} {Q : Bool → Prop} {uq : Hd Q} : Ev (wantsS fr want (some d)) Q uq = Ev (fr.get d) (fun v => Q (yieldOf want v)) ⟨⟩ := by
  show Ev (ob _ _) Q _ = _
  rw [ev_ob]
  refine congrArg (fun z => Ev _ z ⟨⟩) (funext fun v => ?_)
  rw [ev_some]
theorem evO_some {o : Operand} : evO fr (some o) = ob (ev fr o) fun v => some (some v) := rfl
theorem evO_none : evO fr none = some none := rfl
theorem bnds_eq {dl cap : Nat} {lo hi : Option Value} : bnds dl cap lo hi = ob (hiOf dl hi) fun h => bb (h.ble cap) (ob (hiOf 0 lo) fun l => bb (l.ble h) (some (l, h))) := rfl
theorem hi_some {dl : Nat} {v : Value} : hiOf dl (some v) = nat? v := rfl
theorem hi_none {dl : Nat} : hiOf dl none = some dl := rfl
theorem sa_none {n lo hi : Nat} : sliceAt n none lo hi 0 = some (.slice none 0 0) := rfl
theorem sa_plain {n b off lo hi cap : Nat} : sliceAt n (some ⟨b, off, none⟩) lo hi cap = some (.slice (some ⟨b, off + lo * n, none⟩) (hi - lo) (cap - lo)) := rfl
theorem sa_some {n b off lo hi cap : Nat} : sliceAt n (some ⟨b, off, some n⟩) lo hi cap = some (.slice (some ⟨b, off + lo * n, some n⟩) (hi - lo) (cap - lo)) := by
  show bb (Nat.beq n n) _ = _
  rw [beq_len rfl]; rfl
theorem rok_nil {bs : List Nat} {all : List Trace} : readsOk bs all [] = true := rfl
theorem rok_eff {bs : List Nat} {all ds : List Trace} {i : Nat} {a b : St} : readsOk bs all (.eff i a b :: ds) = readsOk bs all ds := rfl
theorem mm2 {x y : Operand} {c : Callee} {ts : Array TypeId} {im : Bool} : pMM fr im ⟨c, [x, y].toArray, ts⟩ = ob (ev fr x) fun a => ob (ev fr y) fun b => minmax im a b := by
  show ob (ob (ev fr x) fun v => ob (ob (ev fr y) fun v => ob (some []) fun vs => some (v :: vs)) fun vs => some (v :: vs)) _ = _
  cases ev fr x with
  | none => rfl
  | some a =>
    cases ev fr y with
    | none => rfl
    | some b =>
      show ob (minmax im a b) (fun v => some v) = minmax im a b
      cases minmax im a b <;> rfl
theorem min_int {k k' : IntKind} {x y : Int} : minmax false (.int k x) (.int k' y) = some (.int k (min x y)) := by
  show some (Value.int k (bi (ilt y x) y x)) = _
  rw [ilt_eq]
  by_cases h : y < x
  · rw [decide_eq_true h, bi_true, Int.min_eq_right (by omega)]
  · rw [decide_eq_false h, bi_false, Int.min_eq_left (by omega)]
theorem max_int {k k' : IntKind} {x y : Int} : minmax true (.int k x) (.int k' y) = some (.int k (max x y)) := by
  show some (Value.int k (bi (ilt x y) y x)) = _
  rw [ilt_eq]
  by_cases h : x < y
  · rw [decide_eq_true h, bi_true, Int.max_eq_right (by omega)]
  · rw [decide_eq_false h, bi_false, Int.max_eq_left (by omega)]
theorem lt_num {a b : Nat} : decide ((a : Int) < OfNat.ofNat b) = decide (a < b) := by
  rw [Bool.eq_iff_iff, decide_eq_true_iff, decide_eq_true_iff]
  exact Int.ofNat_lt
end
end Go.Ab
