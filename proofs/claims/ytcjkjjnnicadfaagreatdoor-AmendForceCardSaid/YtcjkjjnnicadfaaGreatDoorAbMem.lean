/- How the abstract machine's memory stands to the model's: reading, making and writing rows of cells. -/
import Derived.Test.YtcjkjjnnicadfaaGreatDoorAbRel
import Derived.Laws.Sem
import Derived.Laws.Cells
import Derived.Laws.World
set_option linter.unusedSimpArgs false
set_option linter.unusedVariables false
namespace Go.Ab
open Go

theorem addr_add (c o n : Nat) : (⟨c, o, none⟩ : Addr).add n = ⟨c, o + n, none⟩ := by
  unfold Addr.add
  by_cases h : n = 0
  · subst h; rfl
  · rw [if_neg h]

theorem cell_at {w : World} {c i : Nat} {arr : Array Value} {e : TypeId} {f : Nat × Nat} (h : w.heap[c]? = some (.cells arr e f)) : w.cell? ⟨c, i, none⟩ = arr[i]? := by
  simp [World.cell?, h]

/-- What is fixed: the first block that the machine may write, and the check of a piece of code. -/
structure Env where
  lo : Nat
  chk : Nat → Code → Bool

/-- A row of cells of the abstract machine, as it lies in the model's memory. -/
def Row (base : Env) (ρ : Place) (w : World) (q : Spot) (cells : List Value) : Prop :=
  ∃ (arr : Array Value) (e : TypeId) (lo hi : Nat), w.heap[q.c]? = some (.cells arr e (lo, hi)) ∧ arr.size = q.m ∧ q.o + cells.length ≤ q.m ∧ (base.lo ≤ q.c → q.m ≤ lo ∨ hi ≤ lo) ∧
    (∀ v ∈ cells, isCell v = true) ∧ ∀ (i : Nat) (v : Value), cells[i]? = some v → ∃ v', arr[q.o + i]? = some v' ∧ VRel ρ v v'

theorem Row.mono {base : Env} {ρ ρ' : Place} {w w' : World} {q : Spot} {cells : List Value} (hm : ρ.le ρ') (hw : w'.heap[q.c]? = w.heap[q.c]?) (h : Row base ρ w q cells) : Row base ρ' w' q cells := by
  obtain ⟨arr, e, lo, hi, h1, h0, h2, h3, h4, h5⟩ := h
  refine ⟨arr, e, lo, hi, by rw [hw, h1], h0, h2, h3, h4, fun i v hv => ?_⟩
  obtain ⟨v', h6, h7⟩ := h5 i v hv
  exact ⟨v', h6, h7.mono hm⟩

theorem run_read {P : Program} {w : World} {c o : Nat} {arr : Array Value} {e : TypeId} {f : Nat × Nat} (h : w.heap[c]? = some (.cells arr e f)) (n : Nat) (hn : o + n ≤ arr.size) :
    (loadCells ⟨c, o, none⟩ n).run P w = .ok (arr.toList.drop o |>.take n).toArray w := by
  have := run_loadCells_list (P := P) (w := w) ⟨c, o, none⟩ ((arr.toList.drop o).take n) (by
    intro j v hv
    rw [addr_add, cell_at h]
    have hj : j < n := by
      rcases Nat.lt_or_ge j n with hh | hh
      · exact hh
      · rw [List.getElem?_eq_none (by simp; omega)] at hv; cases hv
    rw [List.getElem?_take_of_lt hj, List.getElem?_drop] at hv
    rw [← Array.getElem?_toList]
    exact hv)
  rw [show ((arr.toList.drop o).take n).length = n from by simp; omega] at this
  exact this

theorem Row.read {base : Env} {ρ : Place} {P : Program} {w : World} {q : Spot} {cells cs : List Value} (h : Row base ρ w q cells) {off n : Nat} (hs : sub cells off n = some cs) :
    ∃ vs : List Value, (loadCells ⟨q.c, q.o + off, none⟩ n).run P w = .ok vs.toArray w ∧ VsRel ρ cs vs ∧ ∀ v ∈ cs, isCell v = true := by
  obtain ⟨arr, e, lo, hi, h1, h0, h2, h3, h4, h5⟩ := h
  obtain ⟨h6, rfl⟩ := sub_eq hs
  refine ⟨_, run_read h1 n (by omega), ?_, fun v hv => h4 v (List.mem_of_mem_drop (List.mem_of_mem_take hv))⟩
  apply VsRel.of_get
  · simp; omega
  · intro i v hv
    have hi' : i < n := by
      rcases Nat.lt_or_ge i n with hh | hh
      · exact hh
      · rw [List.getElem?_eq_none (by simp; omega)] at hv; cases hv
    rw [List.getElem?_take_of_lt hi', List.getElem?_drop] at hv ⊢
    obtain ⟨v', h7, h8⟩ := h5 _ _ hv
    exact ⟨v', by rw [Array.getElem?_toList, show q.o + off + i = q.o + (off + i) from by omega]; exact h7, h8⟩

/-- Cells stored one after the other. -/
def puts (w : World) (c o : Nat) : List Value → World
  | [] => w
  | v :: vs => puts (w.setCell ⟨c, o, none⟩ v) c (o + 1) vs
def arrPut (arr : Array Value) (o : Nat) : List Value → Array Value
  | [] => arr
  | v :: vs => arrPut (arr.setIfInBounds o v) (o + 1) vs
theorem arrPut_size : ∀ (vs : List Value) (arr : Array Value) (o : Nat), (arrPut arr o vs).size = arr.size := by
  intro vs
  induction vs with
  | nil => intro arr o; rfl
  | cons v vs ih => intro arr o; rw [arrPut, ih]; simp
theorem arrPut_get : ∀ (vs : List Value) (arr : Array Value) (o j : Nat), o + vs.length ≤ arr.size →
    (arrPut arr o vs)[j]? = if o ≤ j ∧ j < o + vs.length then vs[j - o]? else arr[j]? := by
  intro vs
  induction vs with
  | nil => intro arr o j _; rw [arrPut, if_neg (by simp only [List.length_nil]; omega)]
  | cons v vs ih =>
    intro arr o j h
    simp only [List.length_cons] at h
    rw [arrPut, ih _ _ _ (by simp; omega)]
    by_cases h1 : o + 1 ≤ j ∧ j < o + 1 + vs.length
    · rw [if_pos h1, if_pos (by simp; omega), show j - o = (j - (o + 1)) + 1 from by omega, List.getElem?_cons_succ]
    · rw [if_neg h1, Array.getElem?_setIfInBounds]
      by_cases h2 : o = j
      · subst h2; rw [if_pos rfl, if_pos (by omega), if_pos (by simp)]; simp
      · rw [if_neg h2, if_neg (by simp; omega)]
theorem setCell_heap {w : World} {c i : Nat} {v : Value} {arr : Array Value} {e : TypeId} {f : Nat × Nat} (h : w.heap[c]? = some (.cells arr e f)) :
    (w.setCell ⟨c, i, none⟩ v).heap[c]? = some (.cells (arr.setIfInBounds i v) e f) := by
  simp [World.setCell, Array.getElem?_modify, h]
theorem setCell_heap_ne {w : World} {c i c' : Nat} {v : Value} (h : c' ≠ c) : (w.setCell ⟨c, i, none⟩ v).heap[c']? = w.heap[c']? := by
  simp only [World.setCell, Array.getElem?_modify]
  rw [if_neg (by simpa using fun hh : c = c' => h hh.symm)]
structure Outside (w w' : World) : Prop where
  os : w'.os = w.os
  tape : w'.tape = w.tape
  output : w'.output = w.output
theorem Outside.refl (w : World) : Outside w w := ⟨rfl, rfl, rfl⟩
theorem Outside.trans {a b c : World} (h : Outside a b) (k : Outside b c) : Outside a c := ⟨k.os.trans h.os, k.tape.trans h.tape, k.output.trans h.output⟩
theorem puts_facts : ∀ (vs : List Value) (w : World) (c o : Nat) (arr : Array Value) (e : TypeId) (f : Nat × Nat), w.heap[c]? = some (.cells arr e f) →
    (puts w c o vs).heap[c]? = some (.cells (arrPut arr o vs) e f) ∧ (∀ c', c' ≠ c → (puts w c o vs).heap[c']? = w.heap[c']?) ∧ (puts w c o vs).heap.size = w.heap.size ∧ Outside w (puts w c o vs) := by
  intro vs
  induction vs with
  | nil => intro w c o arr e f h; exact ⟨h, fun _ _ => rfl, rfl, .refl _⟩
  | cons v vs ih =>
    intro w c o arr e f h
    obtain ⟨h1, h2, h3, h4⟩ := ih (w.setCell ⟨c, o, none⟩ v) c (o + 1) _ e f (setCell_heap h)
    exact ⟨h1, fun c' hc => by rw [puts, h2 c' hc, setCell_heap_ne hc], by rw [puts, h3]; simp, Outside.trans (b := w.setCell ⟨c, o, none⟩ v) ⟨rfl, rfl, rfl⟩ h4⟩
theorem oneCell_of_isCell {v : Value} (h : isCell v = true) : v.oneCell' = true := by cases v <;> first | rfl | simp [isCell] at h
theorem run_storeCells {P : Program} (c o : Nat) : ∀ (vs : List Value) (w : World) (i : Nat) (arr : Array Value) (e : TypeId) (lo hi : Nat), w.heap[c]? = some (.cells arr e (lo, hi)) →
    o + i + vs.length ≤ arr.size → (arr.size ≤ lo ∨ hi ≤ lo) → (∀ v ∈ vs, isCell v = true) → (storeCells ⟨c, o, none⟩ vs i).run P w = .ok () (puts w c (o + i) vs) := by
  intro vs
  induction vs with
  | nil => intro w i arr e lo hi _ _ _ _; rfl
  | cons v vs ih =>
    intro w i arr e lo hi h h1 h2 h3
    simp only [List.length_cons] at h1
    unfold storeCells
    rw [Sem.run_bind, addr_add, run_store _ _ _ _ _ (oneCell_of_isCell (h3 v (by simp)))]
    have hc : w.cell? ⟨c, o + i, none⟩ = some arr[o + i] := by rw [cell_at h]; exact Array.getElem?_eq_getElem (by omega)
    rw [hc]
    have hf : w.frozen? ⟨c, o + i, none⟩ = false := by
      simp only [World.frozen?, h]
      rcases h2 with h2 | h2
      · simp; omega
      · simp; omega
    simp only [hf, Bool.false_eq_true, if_false, Result.andThen_ok]
    rw [ih (w.setCell ⟨c, o + i, none⟩ v) (i + 1) _ e lo hi (setCell_heap h) (by simp; omega) (by simpa using h2) (fun v hv => h3 v (by simp [hv]))]
    rfl

/-- The entries of a map. -/
inductive Entries (ρ : Place) : List Value → List MapEntry → Prop
  | nil : Entries ρ [] []
  | cons {k v : Value} {e : MapEntry} {l : List Value} {es : List MapEntry} (hk : flat k = true) (he : e.key = k) (hv : VRel ρ v e.val) (h : Entries ρ l es) : Entries ρ (k :: v :: l) (e :: es)
theorem Entries.mono {ρ ρ' : Place} (hm : ρ.le ρ') {l : List Value} {es : List MapEntry} (h : Entries ρ l es) : Entries ρ' l es := by
  induction h with
  | nil => exact .nil
  | cons hk he hv _ ih => exact .cons hk he (hv.mono hm) ih
/-- A map, as it lies in the model's memory. -/
def MapRow (ρ : Place) (w : World) (c : Nat) (cells : List Value) : Prop := ∃ (es : Array MapEntry) (clock : Nat), w.heap[c]? = some (.map es clock) ∧ Entries ρ cells es.toList


/-- The record of a range over a function, as it lies in the model's memory. -/
structure LoopRow (base : Env) (ρ : Place) (w : World) (c : Nat) (fr : Fr) (ps : List Nat) (assign body : Code) (st : LoopState) (pend : Option Code) (r : Loop) : Prop where
  lies : w.heap[c]? = some (.loop r)
  hst : r.state = st
  hpend : r.pending = pend
  hps : r.params.toList = ps
  has : r.assign = assign
  hbd : r.body = body
  hfr : ∀ t v, fr.get t = some v → ∃ v', r.tmps[t]? = some v' ∧ VRel ρ v v'
  hlt : ∀ p ∈ ps, p < r.tmps.size
  hchk : ∃ n, n ≤ r.tmps.size ∧ base.chk n assign = true ∧ base.chk n body = true
theorem LoopRow.mono {base : Env} {ρ ρ' : Place} {w w' : World} {c : Nat} {fr : Fr} {ps : List Nat} {assign body : Code} {st : LoopState} {pend : Option Code} {r : Loop} (hm : ρ.le ρ') (hw : w'.heap[c]? = w.heap[c]?)
    (h : LoopRow base ρ w c fr ps assign body st pend r) : LoopRow base ρ' w' c fr ps assign body st pend r :=
  ⟨by rw [hw]; exact h.lies, h.hst, h.hpend, h.hps, h.has, h.hbd, fun t v ht => let ⟨v', h1, h2⟩ := h.hfr t v ht; ⟨v', h1, h2.mono hm⟩, h.hlt, h.hchk⟩

/-- A block, as it lies in the model's memory. -/
def Sits (base : Env) (ρ : Place) (w : World) (q : Spot) (B : Blk) : Prop := match B.kind with
  | .row => Row base ρ w q B.cells
  | .map => MapRow ρ w q.c B.cells
  | .loop fr ps assign body st pend => ∃ r, LoopRow base ρ w q.c fr ps assign body st pend r
theorem Sits.mono {base : Env} {ρ ρ' : Place} {w w' : World} {q : Spot} {B : Blk} (hm : ρ.le ρ') (hw : w'.heap[q.c]? = w.heap[q.c]?) (h : Sits base ρ w q B) : Sits base ρ' w' q B := by
  unfold Sits at h ⊢
  split
  · rename_i hk; rw [hk] at h; exact Row.mono hm hw h
  · rename_i hk
    rw [hk] at h
    obtain ⟨es, clock, h1, h2⟩ := h
    exact ⟨es, clock, by rw [hw, h1], h2.mono hm⟩
  · rename_i hk
    rw [hk] at h
    obtain ⟨r, h⟩ := h
    exact ⟨r, h.mono hm hw⟩
theorem Sits.row {base : Env} {ρ : Place} {w : World} {q : Spot} {B : Blk} (hk : B.kind = .row) (h : Row base ρ w q B.cells) : Sits base ρ w q B := by
  unfold Sits; rw [hk]; exact h
theorem Sits.map {base : Env} {ρ : Place} {w : World} {q : Spot} {B : Blk} (hk : B.kind = .map) (h : MapRow ρ w q.c B.cells) : Sits base ρ w q B := by
  unfold Sits; rw [hk]; exact h
theorem Sits.loop {base : Env} {ρ : Place} {w : World} {q : Spot} {B : Blk} {fr : Fr} {ps : List Nat} {assign body : Code} {st : LoopState} {pend : Option Code} {r : Loop} (hk : B.kind = .loop fr ps assign body st pend)
    (h : LoopRow base ρ w q.c fr ps assign body st pend r) : Sits base ρ w q B := by
  unfold Sits; rw [hk]; exact ⟨r, h⟩

/-- The abstract machine's memory and the model's: 'base.lo' is the first block that the machine may write. -/
structure Rel (base : Env) (ρ : Place) (σ : St) (w : World) : Prop where
  fresh : ∀ b, σ.n ≤ b → σ.h.get b = none
  sits : ∀ b q B, ρ b = some q → σ.blk b = some B → Sits base ρ w q B
  dom : ∀ b q, ρ b = some q → q.c < w.heap.size
  own : ∀ b q B, ρ b = some q → σ.blk b = some B → B.own = true → base.lo ≤ q.c
  sep : ∀ b q B b' q', ρ b = some q → σ.blk b = some B → B.own = true → b' ≠ b → ρ b' = some q' → (σ.n ≤ b' ∨ ∃ B', σ.blk b' = some B') → q'.c ≠ q.c
  low : base.lo ≤ w.heap.size

theorem blk_get {σ : St} {b : Nat} {B : Blk} (h : σ.blk b = some B) : σ.h.get b = some B ∧ B.live = true := by
  obtain ⟨B', h1, h2⟩ := ob_eq h
  obtain ⟨h3, h4⟩ := bb_eq h2
  cases h4
  exact ⟨h1, h3⟩
theorem blk_of {σ : St} {b : Nat} {B : Blk} (h : σ.h.get b = some B) (hl : B.live = true) : σ.blk b = some B := by
  show ob (σ.h.get b) (fun B => bb B.live (some B)) = _
  rw [h]
  show bb B.live (some B) = _
  rw [hl]; rfl
theorem rblk_blk {σ : St} {b : Nat} {B : Blk} (h : σ.rblk b = some B) : σ.blk b = some B ∧ B.kind = .row := by
  obtain ⟨B', h1, h2⟩ := ob_eq h
  obtain ⟨cells, live, own, ver, kind⟩ := B'
  cases kind with
  | row => cases h2; exact ⟨h1, rfl⟩
  | map => cases h2
  | loop => cases h2
theorem rblk_of {σ : St} {b : Nat} {B : Blk} (h : σ.blk b = some B) (hk : B.kind = .row) : σ.rblk b = some B := by
  show ob (σ.blk b) _ = _
  rw [h]
  obtain ⟨cells, live, own, ver, kind⟩ := B
  cases hk
  rfl
theorem mblk_blk {σ : St} {b : Nat} {B : Blk} (h : σ.mblk b = some B) : σ.blk b = some B ∧ B.kind = .map := by
  obtain ⟨B', h1, h2⟩ := ob_eq h
  obtain ⟨cells, live, own, ver, kind⟩ := B'
  cases kind with
  | row => cases h2
  | map => cases h2; exact ⟨h1, rfl⟩
  | loop => cases h2
theorem Rel.row {base : Env} {ρ : Place} {σ : St} {w : World} (h : Rel base ρ σ w) (b : Nat) (q : Spot) (B : Blk) (hb : ρ b = some q) (hB : σ.rblk b = some B) : Row base ρ w q B.cells := by
  obtain ⟨h1, h2⟩ := rblk_blk hB
  have := h.sits b q B hb h1
  unfold Sits at this
  rw [h2] at this
  exact this
theorem Rel.map {base : Env} {ρ : Place} {σ : St} {w : World} (h : Rel base ρ σ w) (b : Nat) (q : Spot) (B : Blk) (hb : ρ b = some q) (hB : σ.mblk b = some B) : MapRow ρ w q.c B.cells := by
  obtain ⟨h1, h2⟩ := mblk_blk hB
  have := h.sits b q B hb h1
  unfold Sits at this
  rw [h2] at this
  exact this
theorem Rel.lt {base : Env} {ρ : Place} {σ : St} {w : World} (h : Rel base ρ σ w) {b : Nat} {B : Blk} (hb : σ.blk b = some B) : b < σ.n := by
  rcases Nat.lt_or_ge b σ.n with hh | hh
  · exact hh
  · exact absurd (blk_get hb).1 (by rw [h.fresh b hh]; simp)

/-- What a piece of a run leaves as it was. -/
structure Fram (ρ : Place) (σ : St) (w : World) (ρ' : Place) (σ' : St) (w' : World) : Prop where
  ext : ∀ b, b < σ.n ∨ σ'.n ≤ b → ρ' b = ρ b
  n : σ.n ≤ σ'.n
  size : w.heap.size ≤ w'.heap.size
  keep : ∀ c, c < w.heap.size → (∀ b q B, ρ b = some q → q.c = c → σ.blk b = some B → B.own = false) → w'.heap[c]? = w.heap[c]?
  owned : ∀ b q B, ρ' b = some q → σ'.blk b = some B → q.c < w.heap.size → ∃ b₀ q₀ B₀, ρ b₀ = some q₀ ∧ q₀.c = q.c ∧ σ.blk b₀ = some B₀ ∧ (B.own = true → B₀.own = true)
  out : Outside w w'
  same : ∀ b, b < σ.n → ρ b = none → σ'.h.get b = σ.h.get b

theorem Fram.refl (ρ : Place) (σ : St) (w : World) : Fram ρ σ w ρ σ w :=
  ⟨fun _ _ => rfl, Nat.le_refl _, Nat.le_refl _, fun _ _ _ => rfl, fun b q B h1 h2 _ => ⟨b, q, B, h1, rfl, h2, fun h => h⟩, .refl _, fun _ _ _ => rfl⟩
theorem Fram.trans {ρ ρ' ρ'' : Place} {σ σ' σ'' : St} {w w' w'' : World} (h : Fram ρ σ w ρ' σ' w') (k : Fram ρ' σ' w' ρ'' σ'' w'') : Fram ρ σ w ρ'' σ'' w'' := by
  have hn := h.n
  have kn := k.n
  refine ⟨fun b hb => ?_, Nat.le_trans h.n k.n, Nat.le_trans h.size k.size, fun c hc ho => ?_, fun b q B h1 h2 hc => ?_, h.out.trans k.out, fun b h1 h2 => ?_⟩
  · rw [k.ext b (by omega), h.ext b (by omega)]
  · rw [k.keep c (Nat.lt_of_lt_of_le hc h.size) ?_, h.keep c hc ho]
    intro b q B h1 hq h2
    cases hB : B.own with
    | false => rfl
    | true =>
      obtain ⟨b₀, q₀, B₀, k1, k2, k3, k4⟩ := h.owned b q B h1 h2 (by omega)
      have k5 := k4 hB
      rw [ho b₀ q₀ B₀ k1 (by omega) k3] at k5; cases k5
  · obtain ⟨b₀, q₀, B₀, k1, k2, k3, k4⟩ := k.owned b q B h1 h2 (Nat.lt_of_lt_of_le hc h.size)
    obtain ⟨b₁, q₁, B₁, j1, j2, j3, j4⟩ := h.owned b₀ q₀ B₀ k1 k3 (by omega)
    exact ⟨b₁, q₁, B₁, j1, by omega, j3, fun hO => j4 (k4 hO)⟩
  · rw [k.same b (by omega) (by rw [h.ext b (.inl h1)]; exact h2), h.same b h1 h2]

/-- No block from the next on, up to a bound, has a place yet. -/
def Free (ρ : Place) (n N : Nat) : Prop := ∀ b, n ≤ b → b < N → ρ b = none
theorem Fram.le {ρ ρ' : Place} {σ σ' : St} {w w' : World} (h : Fram ρ σ w ρ' σ' w') {N : Nat} (hf : Free ρ σ.n N) (hN : σ'.n ≤ N) : ρ.le ρ' := by
  intro b p hp
  rw [h.ext b ?_]
  · exact hp
  · rcases Nat.lt_or_ge b σ.n with hh | hh
    · exact .inl hh
    · rcases Nat.lt_or_ge b σ'.n with hh' | hh'
      · rw [hf b hh (by omega)] at hp; cases hp
      · exact .inr hh'
theorem Fram.free {ρ ρ' : Place} {σ σ' : St} {w w' : World} (h : Fram ρ σ w ρ' σ' w') {N : Nat} (hf : Free ρ σ.n N) : Free ρ' σ'.n N := by
  intro b h1 h2
  rw [h.ext b (.inr h1)]
  exact hf b (Nat.le_trans h.n h1) h2

/-- A new block. -/
def Place.put (ρ : Place) (n : Nat) (q : Spot) : Place := fun b => if b = n then some q else ρ b
theorem Place.put_same (ρ : Place) (n : Nat) (q : Spot) : (ρ.put n q) n = some q := by unfold Place.put; rw [if_pos rfl]
theorem Place.put_ne (ρ : Place) {n b : Nat} (q : Spot) (h : b ≠ n) : (ρ.put n q) b = ρ b := by unfold Place.put; rw [if_neg h]
theorem Place.put_le {ρ : Place} {n : Nat} (q : Spot) (hf : ρ n = none) : ρ.le (ρ.put n q) := by
  intro b p hp
  by_cases hb : b = n
  · subst hb; rw [hf] at hp; cases hp
  · rw [Place.put_ne _ _ hb]; exact hp
theorem newK_blk_same (σ : St) (cs : List Value) (k : Kind) : (σ.newK cs k).blk σ.n = some ⟨cs, true, true, 0, k⟩ := blk_of (Tr.get_set_same _ _ _) rfl
theorem newK_blk_ne (σ : St) (cs : List Value) (k : Kind) {b : Nat} (h : b ≠ σ.n) : (σ.newK cs k).blk b = σ.blk b := by
  show ob ((σ.h.set σ.n _).get b) _ = _
  rw [Tr.get_set_ne _ _ h]; rfl
theorem new_blk_same (σ : St) (cs : List Value) : (σ.new cs).blk σ.n = some ⟨cs, true, true, 0, .row⟩ := blk_of (Tr.get_set_same _ _ _) rfl
theorem new_blk_ne (σ : St) (cs : List Value) {b : Nat} (h : b ≠ σ.n) : (σ.new cs).blk b = σ.blk b := by
  show ob ((σ.h.set σ.n _).get b) _ = _
  rw [Tr.get_set_ne _ _ h]; rfl

/-- A new block of the abstract machine that lies at a place of which no block that lives has a part. -/
theorem Rel.putK {base : Env} {ρ : Place} {σ : St} {w w' : World} (h : Rel base ρ σ w) (hf : ρ σ.n = none) {cs : List Value} {k : Kind} {q : Spot} (hrow : Sits base (ρ.put σ.n q) w' q ⟨cs, true, true, 0, k⟩)
    (hs : w.heap.size ≤ w'.heap.size) (hold : ∀ c, c < w.heap.size → c ≠ q.c → w'.heap[c]? = w.heap[c]?)
    (hq : q.c < w'.heap.size) (hb : base.lo ≤ q.c) (hno : ∀ b q' , ρ b = some q' → (σ.n ≤ b ∨ ∃ B, σ.blk b = some B) → q'.c ≠ q.c) :
    Rel base (ρ.put σ.n q) (σ.newK cs k) w' := by
  have hle := Place.put_le q hf
  have hsame := Place.put_same ρ σ.n q
  have hne : ∀ b, b ≠ σ.n → (ρ.put σ.n q) b = ρ b := fun b hb => Place.put_ne _ _ hb
  refine ⟨?_, ?_, ?_, ?_, ?_, ?_⟩
  · intro b hb
    change σ.n + 1 ≤ b at hb
    show (σ.h.set σ.n _).get b = none
    rw [Tr.get_set_ne _ _ (by omega)]; exact h.fresh b (by omega)
  · intro b q' B hb hB
    by_cases hbn : b = σ.n
    · subst hbn
      rw [hsame] at hb; cases hb
      rw [newK_blk_same] at hB; cases hB
      exact hrow
    · rw [hne b hbn] at hb
      rw [newK_blk_ne _ _ _ hbn] at hB
      exact (h.sits b q' B hb hB).mono hle (hold q'.c (h.dom b q' hb) (hno b q' hb (.inr ⟨B, hB⟩)))
  · intro b q' hb
    by_cases hbn : b = σ.n
    · subst hbn; rw [hsame] at hb; cases hb; exact hq
    · rw [hne b hbn] at hb; have := h.dom b q' hb; omega
  · intro b q' B hb' hB hO
    by_cases hbn : b = σ.n
    · subst hbn; rw [hsame] at hb'; cases hb'; exact hb
    · rw [hne b hbn] at hb'; rw [newK_blk_ne _ _ _ hbn] at hB; exact h.own b q' B hb' hB hO
  · intro b q1 B b' q2 hb1 hB hO hbb hb2 hl
    by_cases hbn : b = σ.n
    · subst hbn
      rw [hsame] at hb1; cases hb1
      rw [hne b' hbb] at hb2
      rw [newK_blk_ne _ _ _ hbb] at hl
      refine hno b' q2 hb2 ?_
      rcases hl with hl | hl
      · change σ.n + 1 ≤ b' at hl; exact .inl (by omega)
      · exact .inr hl
    · rw [hne b hbn] at hb1; rw [newK_blk_ne _ _ _ hbn] at hB
      by_cases hbn' : b' = σ.n
      · subst hbn'; rw [hsame] at hb2; cases hb2
        exact fun e => hno b q1 hb1 (.inr ⟨B, hB⟩) e.symm
      · rw [hne b' hbn'] at hb2; rw [newK_blk_ne _ _ _ hbn'] at hl
        refine h.sep b q1 B b' q2 hb1 hB hO hbb hb2 ?_
        rcases hl with hl | hl
        · change σ.n + 1 ≤ b' at hl; exact .inl (by omega)
        · exact .inr hl
  · have := h.low; omega

theorem Rel.put {base : Env} {ρ : Place} {σ : St} {w w' : World} (h : Rel base ρ σ w) (hf : ρ σ.n = none) {cs : List Value} {q : Spot} (hrow : Row base (ρ.put σ.n q) w' q cs)
    (hs : w.heap.size ≤ w'.heap.size) (hold : ∀ c, c < w.heap.size → c ≠ q.c → w'.heap[c]? = w.heap[c]?)
    (hq : q.c < w'.heap.size) (hb : base.lo ≤ q.c) (hno : ∀ b q' , ρ b = some q' → (σ.n ≤ b ∨ ∃ B, σ.blk b = some B) → q'.c ≠ q.c) :
    Rel base (ρ.put σ.n q) (σ.new cs) w' := h.putK hf (.row rfl hrow) hs hold hq hb hno

theorem Rel.new {base : Env} {ρ : Place} {σ : St} {w w' : World} (h : Rel base ρ σ w) (hf : ρ σ.n = none) {cs : List Value} {arr : Array Value} {e : TypeId} {lo hi : Nat}
    (hs : w'.heap.size = w.heap.size + 1) (hnew : w'.heap[w.heap.size]? = some (.cells arr e (lo, hi))) (hold : ∀ c, c < w.heap.size → w'.heap[c]? = w.heap[c]?)
    (ho : Outside w w') (hfz : arr.size ≤ lo ∨ hi ≤ lo) (hc : ∀ v ∈ cs, isCell v = true) (hv : ∃ vs more, arr.toList = vs ++ more ∧ VsRel ρ cs vs) :
    Rel base (ρ.put σ.n ⟨w.heap.size, 0, arr.size⟩) (σ.new cs) w' ∧ Fram ρ σ w (ρ.put σ.n ⟨w.heap.size, 0, arr.size⟩) (σ.new cs) w' := by
  have hle := Place.put_le ⟨w.heap.size, 0, arr.size⟩ hf
  refine ⟨h.put hf ?_ (by omega) (fun c hc _ => hold c hc) (by show w.heap.size < _; omega) h.low (fun b q' hb _ => by have := h.dom b q' hb; show q'.c ≠ w.heap.size; omega), ⟨?_, ?_, ?_, ?_, ?_, ho, fun b h1 _ => Tr.get_set_ne _ _ (by omega)⟩⟩
  · obtain ⟨vs, more, h1, h2⟩ := hv
    have hl := h2.length
    refine ⟨arr, e, lo, hi, hnew, rfl, ?_, fun _ => hfz, hc, fun i v hi' => ?_⟩
    · show 0 + cs.length ≤ arr.size
      rw [← Array.length_toList, h1]; simp; omega
    · obtain ⟨v', h3, h4⟩ := h2.get hi'
      refine ⟨v', ?_, h4.mono hle⟩
      show arr[0 + i]? = _
      rw [← Array.getElem?_toList, h1, Nat.zero_add, List.getElem?_append_left (List.getElem?_eq_some_iff.1 h3).1]
      exact h3
  · intro b hb
    refine Place.put_ne _ _ ?_
    rcases hb with hb | hb
    · omega
    · change σ.n + 1 ≤ b at hb; omega
  · show σ.n ≤ σ.n + 1; omega
  · omega
  · intro c hc' _; exact hold c hc'
  · intro b q B hb hB hcs
    by_cases hbn : b = σ.n
    · subst hbn; rw [Place.put_same] at hb; cases hb; change w.heap.size < w.heap.size at hcs; omega
    · rw [Place.put_ne _ _ hbn] at hb; rw [new_blk_ne _ _ hbn] at hB; exact ⟨b, q, B, hb, rfl, hB, fun h => h⟩

/-- A write. -/
theorem write_facts {σ σ' : St} {b off : Nat} {vs : List Value} (h : σ.write b off vs = some σ') :
    ∃ B cs, σ.rblk b = some B ∧ B.own = true ∧ off + vs.length ≤ B.cells.length ∧ cs = B.cells.take off ++ vs ++ B.cells.drop (off + vs.length) ∧ σ' = ⟨σ.h.set b ⟨cs, true, true, B.ver + 1, .row⟩, σ.n⟩ := by
  obtain ⟨B, h1, h2⟩ := ob_eq h
  obtain ⟨h3, h4⟩ := bb_eq h2
  obtain ⟨cs, h5, h6⟩ := ob_eq h4
  cases h6
  obtain ⟨h7, h8⟩ := splice_eq _ _ _ _ h5
  exact ⟨B, cs, h1, h3, h7, h8, rfl⟩
theorem set_blk_same (σ : St) (b : Nat) (cs : List Value) (k : Nat) (K : Kind) : (⟨σ.h.set b ⟨cs, true, true, k, K⟩, σ.n⟩ : St).blk b = some ⟨cs, true, true, k, K⟩ := blk_of (Tr.get_set_same _ _ _) rfl
theorem set_blk_ne (σ : St) {b b' : Nat} (B : Blk) (h : b' ≠ b) : (⟨σ.h.set b B, σ.n⟩ : St).blk b' = σ.blk b' := by
  show ob ((σ.h.set b B).get b') _ = _
  rw [Tr.get_set_ne _ _ h]; rfl
theorem splice_get {α : Type} {l vs : List α} {off : Nat} (h : off + vs.length ≤ l.length) (i : Nat) :
    (l.take off ++ vs ++ l.drop (off + vs.length))[i]? = if off ≤ i ∧ i < off + vs.length then vs[i - off]? else l[i]? := by
  rw [List.append_assoc]
  by_cases h1 : i < off
  · rw [if_neg (by omega), List.getElem?_append_left (by simp; omega), List.getElem?_take_of_lt h1]
  · rw [List.getElem?_append_right (by simp; omega)]
    simp only [List.length_take]
    rw [show min off l.length = off from by omega]
    by_cases h2 : i < off + vs.length
    · rw [if_pos (by omega), List.getElem?_append_left (by omega)]
    · rw [if_neg (by omega), List.getElem?_append_right (by omega), List.getElem?_drop]
      congr 1; omega
theorem VsRel.isCells {ρ : Place} {vs vs' : List Value} (hr : VsRel ρ vs vs') (hc : ∀ v ∈ vs, isCell v = true) : ∀ v ∈ vs', isCell v = true := by
  intro v hv
  have hl := hr.length
  obtain ⟨i, hi'⟩ := List.getElem?_of_mem hv
  have hi2 : i < vs.length := by have := (List.getElem?_eq_some_iff.1 hi').1; omega
  obtain ⟨v', k1, k2⟩ := hr.get (List.getElem?_eq_getElem hi2)
  rw [hi'] at k1; cases k1
  rw [k2.isCell]; exact hc _ (List.getElem_mem hi2)
theorem Rel.write {base : Env} {ρ : Place} {σ σ' : St} {w : World} (h : Rel base ρ σ w) {b off : Nat} {q : Spot} (hb : ρ b = some q) {vs vs' : List Value} (hw : σ.write b off vs = some σ')
    (hr : VsRel ρ vs vs') (hc : ∀ v ∈ vs, isCell v = true) :
    (∀ (P : Program), (storeCells ⟨q.c, q.o + off, none⟩ vs').run P w = .ok () (puts w q.c (q.o + off) vs')) ∧ Rel base ρ σ' (puts w q.c (q.o + off) vs') ∧ Fram ρ σ w ρ σ' (puts w q.c (q.o + off) vs') := by
  obtain ⟨B, cs, hr1, h2, h3, h4, rfl⟩ := write_facts hw
  obtain ⟨arr, e, lo, hi, r1, r0, r2, r3, r4, r5⟩ := h.row b q B hb hr1
  have h1 := (rblk_blk hr1).1
  have r3' := r3 (h.own b q B hb h1 h2)
  have hl := hr.length
  have hc' := hr.isCells hc
  obtain ⟨p1, p2, p3, p4⟩ := puts_facts vs' w q.c (q.o + off) arr e (lo, hi) r1
  refine ⟨fun P => ?_, ⟨?_, ?_, ?_, ?_, ?_, ?_⟩, ⟨?_, ?_, ?_, ?_, ?_, p4, fun b' _ hn => Tr.get_set_ne _ _ (by intro he; subst he; rw [hb] at hn; cases hn)⟩⟩
  · exact run_storeCells q.c (q.o + off) vs' w 0 arr e lo hi r1 (by omega) (by omega) hc'
  · intro b' hb'
    have := h.lt h1
    change σ.n ≤ b' at hb'
    show (σ.h.set b _).get b' = none
    rw [Tr.get_set_ne _ _ (by omega)]; exact h.fresh b' hb'
  · intro b' q' B' hb' hB'
    by_cases hbb : b' = b
    · subst hbb
      rw [hb] at hb'; cases hb'
      rw [set_blk_same] at hB'; cases hB'
      subst h4
      refine .row rfl ⟨_, e, lo, hi, p1, by rw [arrPut_size]; exact r0, ?_, r3, ?_, ?_⟩
      · simp; omega
      · intro v hv
        rcases List.mem_append.1 hv with hv | hv
        · rcases List.mem_append.1 hv with hv | hv
          · exact r4 v (List.mem_of_mem_take hv)
          · exact hc v hv
        · exact r4 v (List.mem_of_mem_drop hv)
      · intro i v hv
        rw [splice_get h3] at hv
        rw [arrPut_get _ _ _ _ (by omega)]
        by_cases hi' : off ≤ i ∧ i < off + vs.length
        · rw [if_pos hi'] at hv
          obtain ⟨v', k1, k2⟩ := hr.get hv
          exact ⟨v', by rw [if_pos (by omega), show q.o + i - (q.o + off) = i - off from by omega]; exact k1, k2⟩
        · rw [if_neg hi'] at hv
          obtain ⟨v', k1, k2⟩ := r5 i v hv
          exact ⟨v', by rw [if_neg (by omega)]; exact k1, k2⟩
    · rw [set_blk_ne _ _ hbb] at hB'
      exact (h.sits b' q' B' hb' hB').mono (Place.le_refl _) (p2 q'.c (h.sep b q B b' q' hb h1 h2 hbb hb' (.inr ⟨B', hB'⟩)))
  · intro b' q' hb'; rw [p3]; exact h.dom b' q' hb'
  · intro b' q' B' hb' hB' hO
    by_cases hbb : b' = b
    · subst hbb; rw [hb] at hb'; cases hb'; exact h.own b' q B hb h1 h2
    · rw [set_blk_ne _ _ hbb] at hB'; exact h.own b' q' B' hb' hB' hO
  · intro b1 q1 B1 b2 q2 k1 k2 k3 k4 k5 k6
    have hl1 : ∃ B0, σ.blk b1 = some B0 ∧ B0.own = true := by
      by_cases hbb : b1 = b
      · subst hbb; exact ⟨B, h1, h2⟩
      · rw [set_blk_ne _ _ hbb] at k2; exact ⟨B1, k2, k3⟩
    obtain ⟨B0, j1, j2⟩ := hl1
    refine h.sep b1 q1 B0 b2 q2 k1 j1 j2 k4 k5 ?_
    rcases k6 with k6 | ⟨B2, k6⟩
    · exact .inl k6
    · by_cases hbb : b2 = b
      · subst hbb; exact .inr ⟨B, h1⟩
      · rw [set_blk_ne _ _ hbb] at k6; exact .inr ⟨B2, k6⟩
  · rw [p3]; exact h.low
  · intro _ _; rfl
  · exact Nat.le_refl _
  · omega
  · intro c' _ hno
    refine p2 c' fun he => ?_
    rw [hno b q B hb he.symm h1] at h2; cases h2
  · intro b' q' B' hb' hB' _
    by_cases hbb : b' = b
    · subst hbb; rw [hb] at hb'; cases hb'; exact ⟨b', q, B, hb, rfl, h1, fun _ => h2⟩
    · rw [set_blk_ne _ _ hbb] at hB'; exact ⟨b', q', B', hb', rfl, hB', fun h => h⟩

/-- A block that is given up. -/
theorem kill_facts {σ σ' : St} {b : Nat} (h : σ.kill b = some σ') : ∃ B, σ.rblk b = some B ∧ B.own = true ∧ σ' = ⟨σ.h.set b ⟨[], false, true, B.ver + 1, .row⟩, σ.n⟩ := by
  obtain ⟨B, h1, h2⟩ := ob_eq h
  obtain ⟨h3, h4⟩ := bb_eq h2
  cases h4
  exact ⟨B, h1, h3, rfl⟩
theorem kill_blk_same (σ : St) (b k : Nat) : (⟨σ.h.set b ⟨[], false, true, k, .row⟩, σ.n⟩ : St).blk b = none := by
  show ob ((σ.h.set b _).get b) _ = _
  rw [Tr.get_set_same]; rfl
theorem Rel.kill {base : Env} {ρ : Place} {σ σ' : St} {w : World} (h : Rel base ρ σ w) {b : Nat} (hb : ∃ q, ρ b = some q) (hk : σ.kill b = some σ') : Rel base ρ σ' w ∧ Fram ρ σ w ρ σ' w := by
  obtain ⟨B, hr1, h2, rfl⟩ := kill_facts hk
  have h1 := (rblk_blk hr1).1
  have old : ∀ b' B', (⟨σ.h.set b ⟨[], false, true, B.ver + 1, .row⟩, σ.n⟩ : St).blk b' = some B' → σ.blk b' = some B' := by
    intro b' B' hB'
    by_cases hbb : b' = b
    · subst hbb; rw [kill_blk_same] at hB'; cases hB'
    · rw [set_blk_ne _ _ hbb] at hB'; exact hB'
  refine ⟨⟨?_, fun b' q' B' hb' hB' => h.sits b' q' B' hb' (old _ _ hB'), h.dom, fun b' q' B' hb' hB' => h.own b' q' B' hb' (old _ _ hB'), ?_, h.low⟩, ⟨fun _ _ => rfl, Nat.le_refl _, Nat.le_refl _, fun _ _ _ => rfl, ?_, .refl _, fun b' _ hn => Tr.get_set_ne _ _ (by intro he; subst he; obtain ⟨q, hq⟩ := hb; rw [hq] at hn; cases hn)⟩⟩
  · intro b' hb'
    have := h.lt h1
    change σ.n ≤ b' at hb'
    show (σ.h.set b _).get b' = none
    rw [Tr.get_set_ne _ _ (by omega)]; exact h.fresh b' hb'
  · intro b1 q1 B1 b2 q2 k1 k2 k3 k4 k5 k6
    refine h.sep b1 q1 B1 b2 q2 k1 (old _ _ k2) k3 k4 k5 ?_
    rcases k6 with k6 | ⟨B2, k6⟩
    · exact .inl k6
    · exact .inr ⟨B2, old _ _ k6⟩
  · intro b' q' B' hb' hB' _; exact ⟨b', q', B', hb', rfl, old _ _ hB', fun h => h⟩

/-- A row that grows in its place: the block that bore it is given up, and a new one lies where it lay. -/
theorem Rel.grow {base : Env} {ρ : Place} {σ σ' : St} {w : World} (h : Rel base ρ σ w) (hf : ρ σ.n = none) {b off : Nat} {q : Spot} (hb : ρ b = some q) {old new new' : List Value}
    (hr : σ.read b off old.length = some old) (hk : σ.kill b = some σ') (hn : VsRel ρ new new') (hc : ∀ v ∈ new, isCell v = true) (hm : q.o + off + old.length + new.length ≤ q.m) :
    (∀ (P : Program), (storeCells ⟨q.c, q.o + off + old.length, none⟩ new').run P w = .ok () (puts w q.c (q.o + off + old.length) new')) ∧
    Rel base (ρ.put σ.n ⟨q.c, q.o + off, q.m⟩) (σ'.new (old ++ new)) (puts w q.c (q.o + off + old.length) new') ∧
    Fram ρ σ w (ρ.put σ.n ⟨q.c, q.o + off, q.m⟩) (σ'.new (old ++ new)) (puts w q.c (q.o + off + old.length) new') := by
  obtain ⟨hk1, hk2⟩ := h.kill ⟨q, hb⟩ hk
  obtain ⟨B, hr1, h2, rfl⟩ := kill_facts hk
  have h1 := (rblk_blk hr1).1
  obtain ⟨B', hB', hsub⟩ := ob_eq hr
  rw [hr1] at hB'; cases hB'
  obtain ⟨hs1, hs2⟩ := sub_eq hsub
  obtain ⟨arr, e, lo, hi, r1, r0, r2, r3, r4, r5⟩ := h.row b q B hb hr1
  have hl := hn.length
  have r3' := r3 (h.own b q B hb h1 h2)
  have hc' := hn.isCells hc
  have hle := Place.put_le (⟨q.c, q.o + off, q.m⟩ : Spot) hf
  have hold : ∀ v ∈ old, isCell v = true := by
    intro v hv; rw [hs2] at hv; exact r4 v (List.mem_of_mem_drop (List.mem_of_mem_take hv))
  obtain ⟨p1, p2, p3, p4⟩ := puts_facts new' w q.c (q.o + off + old.length) arr e (lo, hi) r1
  refine ⟨fun P => run_storeCells q.c (q.o + off + old.length) new' w 0 arr e lo hi r1 (by omega) (by omega) hc', ?_, ⟨?_, ?_, ?_, ?_, ?_, p4, fun b' hlt hn => ?_⟩⟩
  · refine hk1.put (σ := ⟨σ.h.set b _, σ.n⟩) hf (q := ⟨q.c, q.o + off, q.m⟩) ?_ (by omega) (fun c _ hcc => p2 c hcc) (by rw [p3]; exact h.dom b q hb) (h.own b q B hb h1 h2) ?_
    · refine ⟨_, e, lo, hi, p1, by rw [arrPut_size]; exact r0, ?_, r3, ?_, ?_⟩
      · show q.o + off + (old ++ new).length ≤ q.m
        rw [List.length_append]; omega
      · intro v hv
        rcases List.mem_append.1 hv with hv | hv
        · exact hold v hv
        · exact hc v hv
      · intro i v hv
        show ∃ v', (arrPut arr (q.o + off + old.length) new')[q.o + off + i]? = some v' ∧ _
        rw [arrPut_get _ _ _ _ (by omega)]
        by_cases hi' : i < old.length
        · rw [List.getElem?_append_left hi'] at hv
          rw [if_neg (by omega)]
          rw [hs2] at hv
          rw [List.getElem?_take_of_lt hi', List.getElem?_drop] at hv
          obtain ⟨v', k1, k2⟩ := r5 _ v hv
          exact ⟨v', by rw [show q.o + off + i = q.o + (off + i) from by omega]; exact k1, k2.mono hle⟩
        · rw [List.getElem?_append_right (by omega)] at hv
          obtain ⟨v', k1, k2⟩ := hn.get hv
          have := (List.getElem?_eq_some_iff.1 k1).1
          exact ⟨v', by rw [if_pos (by omega), show q.o + off + i - (q.o + off + old.length) = i - old.length from by omega]; exact k1, k2.mono hle⟩
    · intro b' q' hb' hl' hcc
      change q'.c = q.c at hcc
      by_cases hbb : b' = b
      · subst hbb
        rcases hl' with hl' | ⟨B2, hl'⟩
        · have := h.lt h1; change σ.n ≤ b' at hl'; omega
        · rw [kill_blk_same] at hl'; cases hl'
      · refine h.sep b q B b' q' hb h1 h2 hbb hb' ?_ hcc
        rcases hl' with hl' | ⟨B2, hl'⟩
        · exact .inl hl'
        · rw [set_blk_ne _ _ hbb] at hl'; exact .inr ⟨B2, hl'⟩
  · intro b' hb'
    refine Place.put_ne _ _ ?_
    rcases hb' with hb' | hb'
    · omega
    · change σ.n + 1 ≤ b' at hb'; omega
  · show σ.n ≤ σ.n + 1; omega
  · omega
  · intro c _ hno
    refine p2 c fun he => ?_
    rw [hno b q B hb he.symm h1] at h2; cases h2
  · intro b' q' B2 hb' hB2 hcs
    by_cases hbn : b' = σ.n
    · subst hbn; rw [Place.put_same] at hb'; cases hb'; exact ⟨b, q, B, hb, rfl, h1, fun _ => h2⟩
    · rw [Place.put_ne _ _ hbn] at hb'
      have hB3 := new_blk_ne (⟨σ.h.set b ⟨[], false, true, B.ver + 1, .row⟩, σ.n⟩ : St) (old ++ new) (b := b') hbn
      rw [hB3] at hB2
      by_cases hbb : b' = b
      · subst hbb; rw [kill_blk_same] at hB2; cases hB2
      · rw [set_blk_ne _ _ hbb] at hB2; exact ⟨b', q', B2, hb', rfl, hB2, fun h => h⟩
  · show (Tr.set (σ.h.set b _) σ.n _).get b' = _
    rw [Tr.get_set_ne _ _ (by omega), Tr.get_set_ne _ _ (by intro he; subst he; rw [hb] at hn; cases hn)]

end Go.Ab
