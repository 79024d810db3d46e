/- Literals of structs and arrays; the operations that make a new block. -/
import Derived.Test.YtcjkjjnnicadfaaGreatDoorAbOps3
set_option linter.unusedSimpArgs false
set_option linter.unusedVariables false
namespace Go.Ab
open Go
section
variable {P : Program} {ρ : Place} {fr : Fr} {e : Operand → Value} {o : Oper} {w : World} {v : Value}

theorem foldl_put (off : Nat) : ∀ (l : List Value) (k : Nat) (arr : Array Value), (l.zipIdx k).foldl (fun cs (x : Value × Nat) => cs.setIfInBounds (off + x.2) x.1) arr = arrPut arr (off + k) l := by
  intro l
  induction l with
  | nil => intro k arr; rfl
  | cons v l ih => intro k arr; rw [List.zipIdx_cons, List.foldl_cons, ih]; rfl

theorem splice_rel {cells cells' r vs vs' : List Value} {off : Nat} (h : splice cells off vs = some r) (hc : VsRel ρ cells cells') (hv : VsRel ρ vs vs')
    (h1 : ∀ c ∈ cells, isCell c = true) (h2 : ∀ c ∈ vs, isCell c = true) :
    VsRel ρ r (arrPut ⟨cells'⟩ off vs').toList ∧ (∀ c ∈ r, isCell c = true) ∧ off + vs'.length ≤ cells'.length := by
  obtain ⟨h3, rfl⟩ := splice_eq _ _ _ _ h
  have l1 := hc.length
  have l2 := hv.length
  refine ⟨VsRel.of_get ?_ ?_, ?_, by omega⟩
  · rw [show (arrPut ⟨cells'⟩ off vs').toList.length = (arrPut ⟨cells'⟩ off vs').size from Array.length_toList, arrPut_size]; simp; omega
  · intro i v hi
    rw [splice_get h3] at hi
    rw [Array.getElem?_toList, arrPut_get _ _ _ _ (by simp; omega)]
    by_cases hin : off ≤ i ∧ i < off + vs.length
    · rw [if_pos hin] at hi
      rw [if_pos (by omega)]
      exact hv.get hi
    · rw [if_neg hin] at hi
      rw [if_neg (by omega)]
      simpa using hc.get hi
  · intro c hcm
    rcases List.mem_append.1 hcm with hcm | hcm
    · rcases List.mem_append.1 hcm with hcm | hcm
      · exact h1 c (List.mem_of_mem_take hcm)
      · exact h2 c hcm
    · exact h1 c (List.mem_of_mem_drop hcm)

theorem bi_none {β : Type} {c : Bool} {x : Option β} {b : β} (h : bi c none x = some b) : c = false ∧ x = some b := by
  cases c with
  | true => cases h
  | false => exact ⟨rfl, h⟩

theorem fill_run {place place' : Nat → Option (Nat × Nat)} (hp : ∀ i, place' i = place i) : ∀ (is : List Nat) (vs vs' cells r cells' : List Value), VsRel ρ vs vs' → fillL place (is.zip vs) cells = some r →
    VsRel ρ cells cells' → (∀ c ∈ cells, isCell c = true) → ∃ r', Instr.fill place' ⟨cells'⟩ (is.zip vs') = some ⟨r'⟩ ∧ VsRel ρ r r' ∧ ∀ c ∈ r, isCell c = true := by
  intro is
  induction is with
  | nil =>
    intro vs vs' cells r cells' _ h hc h1
    cases h
    exact ⟨cells', rfl, hc, h1⟩
  | cons i is ih =>
    intro vs vs' cells r cells' hv h hc h1
    cases hv with
    | nil => cases h; exact ⟨cells', rfl, hc, h1⟩
    | cons hx hs =>
      rename_i x x' l l'
      obtain ⟨⟨off, n⟩, h2, h3⟩ := ob_eq (show ob (place i) (fun q => pr q fun off n => bi (isTup x) none (bb ((cellsL x).length.beq n) (ob (splice cells off (cellsL x)) (fillL place (is.zip l))))) = some r from h)
      obtain ⟨ht, h4⟩ := bi_none (show bi (isTup x) none _ = some r from h3)
      obtain ⟨h5, h6⟩ := bb_eq h4
      obtain ⟨cells2, h7, h8⟩ := ob_eq h6
      have hn := Nat.eq_of_beq_eq_true h5
      obtain ⟨hcx, hcc⟩ := hx.cells ht
      obtain ⟨k1, k2, k3⟩ := splice_rel h7 hc hcx h1 hcc
      obtain ⟨r', k4, k5, k6⟩ := ih l l' cells2 r _ hs h8 k1 k2
      refine ⟨r', ?_, k5, k6⟩
      have hl := hcx.length
      rw [List.zip_cons_cons]
      unfold Instr.fill
      rw [hp i, h2]
      simp only
      have hsz : x'.cells.size = n := by rw [← Array.length_toList, ← hl, hn]
      rw [if_neg (by simp [hsz]; rw [Array.length_toList] at k3; omega)]
      rw [← k4]
      congr 1
      rw [← Array.foldl_toList, Array.toList_zipIdx]
      have := foldl_put off x'.cells.toList 0 ⟨cells'⟩
      rw [Nat.add_zero] at this
      exact this

theorem map_parts (parts : Array (Nat × Operand)) (e : Operand → Value) : (parts.map fun (x : Nat × Operand) => (x.1, e x.2)).toList = (parts.toList.map (·.1)).zip ((parts.toList.map (·.2)).map e) := by
  rw [Array.toList_map]
  induction parts.toList with
  | nil => rfl
  | cons x l ih => simp [ih]

theorem places_run : ∀ (fs : List Field) (ps : List (Nat × Nat)), placesL P fs = some ps → ∀ w, (fs.mapM fun f => do pure (f.offset, ← sizeOf f.type) : Sem (List (Nat × Nat))).run P w = .ok ps w := by
  intro fs
  induction fs with
  | nil => intro ps h w; cases h; rfl
  | cons f fs ih =>
    intro ps h w
    obtain ⟨n, h1, h2⟩ := ob_eq (show ob (size? P f.type) (fun n => ob (placesL P fs) fun r => some ((f.offset, n) :: r)) = some ps from h)
    obtain ⟨r, h3, h4⟩ := ob_eq h2
    cases h4
    rw [List.mapM_cons]
    simp only [Sem.run_bind, size_of h1, Result.andThen_ok, Sem.run_pure, ih r h3]

theorem zero_cells {t : TypeId} {z : Value} (h : zero? P t = some z) : (cellsL z = z.cells.toList) ∧ VsRel ρ (cellsL z) z.cells.toList ∧ ∀ c ∈ cellsL z, isCell c = true := by
  obtain ⟨i, h1, h2⟩ := ob_eq h
  obtain ⟨z', h3, h4⟩ := ob_eq h2
  obtain ⟨h5, h6⟩ := bb_eq h4
  cases h6
  cases z with
  | agg cs => obtain ⟨l⟩ := cs; exact ⟨rfl, VsRel.of_scal h5, cells_of_scal h5⟩
  | tuple vs => cases h5
  | _ => exact ⟨rfl, .cons (.scal h5) .nil, by intro c hc; simp [cellsL] at hc; subst hc; exact isCell_of_scal h5⟩

theorem build_sound {t : TypeId} {parts : Array (Nat × Operand)} (ho : o.op = .build t parts) (hk : Known ρ fr e o.op.operands.toList) (h : pBuild P fr t parts = some v) : PureOk P ρ e o w v := by
  obtain ⟨z, h1, k1⟩ := ob_eq h
  clear h
  obtain ⟨vs, h2, h3⟩ := ob_eq k1
  clear k1
  have hr := (hk.sub (k := parts.toList.map (·.2)) fun y hy => by simpa [ho, Op.operands] using hy).evs h2
  obtain ⟨hz, _, _⟩ := zero_of (ρ := ρ) h1 w
  obtain ⟨zc1, zc2, zc3⟩ := zero_cells (ρ := ρ) h1
  unfold buildV at h3
  split at h3
  · rename_i fs hu
    obtain ⟨ps, h4, h5⟩ := ob_eq h3
    obtain ⟨l, h6, h7⟩ := ob_eq h5
    cases h7
    have hps : (fs.mapM fun f => do pure (f.offset, ← sizeOf f.type) : Sem (Array (Nat × Nat))).run P w = .ok ps.toArray w := by
      rw [Array.mapM_eq_mapM_toList, Sem.run_map, places_run _ _ h4]
      rfl
    obtain ⟨r', k1, k2, k3⟩ := fill_run (place := fun i => ps[i]?) (place' := fun i => ps.toArray[i]?) (fun i => by simp) _ vs _ _ l _ hr h6 zc2 zc3
    refine ⟨.agg ⟨r'⟩, ?_, .agg k3 k2⟩
    simp only [execOp, ho, Instr.build, Sem.run_bind, hz, Result.andThen_ok, under_of hu, hps, map_parts]
    rw [show z.cells = ⟨z.cells.toList⟩ from rfl, k1]
    rfl
  · rename_i m el hu
    obtain ⟨n, h4, h5⟩ := ob_eq h3
    obtain ⟨l, h6, h7⟩ := ob_eq h5
    cases h7
    obtain ⟨r', k1, k2, k3⟩ := fill_run (place := fun i => some (i * n, n)) (place' := fun i => some (i * n, n)) (fun i => rfl) _ vs _ _ l _ hr h6 zc2 zc3
    refine ⟨.agg ⟨r'⟩, ?_, .agg k3 k2⟩
    simp only [execOp, ho, Instr.build, Sem.run_bind, hz, Result.andThen_ok, under_of hu, size_of h4, map_parts]
    rw [show z.cells = ⟨z.cells.toList⟩ from rfl, k1]
    rfl
  · cases h3

/-- What is to be shown of an operation that makes a new block. -/
def NewOk (P : Program) (ρ : Place) (e : Operand → Value) (o : Oper) (w : World) (cs : List Value) (v : Nat → Value) : Prop :=
  ∃ (w' : World) (v' : Value) (arr : Array Value) (el : TypeId) (lo hi : Nat) (vs more : List Value), (execOp e o).run P w = .ok (.value v') w' ∧ w'.heap.size = w.heap.size + 1 ∧ w'.heap[w.heap.size]? = some (.cells arr el (lo, hi)) ∧
    (∀ c, c < w.heap.size → w'.heap[c]? = w.heap[c]?) ∧ Outside w w' ∧ (arr.size ≤ lo ∨ hi ≤ lo) ∧ (∀ c ∈ cs, isCell c = true) ∧ arr.toList = vs ++ more ∧ VsRel ρ cs vs ∧
    ∀ (ρ' : Place) (n : Nat), ρ' n = some ⟨w.heap.size, 0, arr.size⟩ → VRel ρ' (v n) v'

/-- The new block of a plain allocation. -/
theorem NewOk.row {cs : List Value} {vf : Nat → Value} {v' : Value} {arr : Array Value} {el : TypeId} (hrun : (execOp e o).run P w = .ok (.value v') { w with heap := w.heap.push (.cells arr el) })
    (hc : ∀ c ∈ cs, isCell c = true) (hr : VsRel ρ cs arr.toList) (hv : ∀ (ρ' : Place) (n : Nat), ρ' n = some ⟨w.heap.size, 0, arr.size⟩ → VRel ρ' (vf n) v') : NewOk P ρ e o w cs vf :=
  ⟨_, v', arr, el, 0, 0, arr.toList, [], hrun, by simp, by simp, fun c hc => by simp [Array.getElem?_push]; intro h; omega, ⟨rfl, rfl, rfl⟩, .inr (Nat.le_refl _), hc, by simp, hr, hv⟩

theorem ptrTo_rel {c m : Nat} (ρ' : Place) (n : Nat) (h : ρ' n = some ⟨c, 0, m⟩) : VRel ρ' (ptrTo n) (.pointer (some ⟨c, 0, none⟩)) := .ptr (off := 0) h

theorem alloc_sound {t : TypeId} {cs : List Value} {vf : Nat → Value} (ho : o.op = .alloc t) (h : nAlloc P t = some (cs, vf)) : NewOk P ρ e o w cs vf := by
  obtain ⟨z, h1, h2⟩ := ob_eq h
  cases h2
  obtain ⟨hz, _, _⟩ := zero_of (ρ := ρ) h1 w
  obtain ⟨zc1, zc2, zc3⟩ := zero_cells (ρ := ρ) h1
  refine NewOk.row (v' := .pointer (some ⟨w.heap.size, 0, none⟩)) (arr := z.cells) (el := t) ?_ zc3 zc2 ptrTo_rel
  simp only [execOp, ho, Instr.alloc, Sem.run_bind, hz, Result.andThen_ok, newVar, newRow, run_newObj, Sem.run_pure]

theorem box_sound {t : TypeId} {x : Operand} {cs : List Value} {vf : Nat → Value} (ho : o.op = .box t x) (hk : Known ρ fr e o.op.operands.toList) (h : nBox fr x = some (cs, vf)) : NewOk P ρ e o w cs vf := by
  obtain ⟨u, h1, h2⟩ := ob_eq h
  obtain ⟨ht, h3⟩ := bi_none h2
  cases h3
  obtain ⟨k1, k2⟩ := (hk x u (by simp [ho, Op.operands]) h1).cells ht
  refine NewOk.row (v' := .pointer (some ⟨w.heap.size, 0, none⟩)) (arr := (e x).cells) (el := t) ?_ k2 k1 ptrTo_rel
  simp only [execOp, ho, Instr.box, newVar, newRow, Sem.run_bind, run_newObj, Result.andThen_ok, Sem.run_pure]

theorem rep_get {α : Type} (l : List α) (n : Nat) : (Ab.rep l n).length = n * l.length := by
  induction n with
  | zero => show ([] : List α).length = 0 * l.length; simp
  | succ n ih => show (l ++ Ab.rep l n).length = _; rw [List.length_append, ih, Nat.succ_mul]; omega
theorem rep_mod {α : Type} (l : List α) : ∀ (n i : Nat), i < n * l.length → (Ab.rep l n)[i]? = l[i % l.length]? := by
  intro n
  induction n with
  | zero => intro i h; omega
  | succ n ih =>
    intro i h
    show (l ++ Ab.rep l n)[i]? = _
    by_cases hi : i < l.length
    · rw [List.getElem?_append_left hi, Nat.mod_eq_of_lt hi]
    · rw [List.getElem?_append_right (by omega), ih _ (by rw [Nat.succ_mul] at h; omega)]
      congr 1
      rw [← Nat.mod_eq_sub_mod (by omega)]
theorem zeros_rel {z z' : List Value} (hz : VsRel ρ z z') (n k : Nat) (hk : k = n * z.length) : VsRel ρ (Ab.rep z n) ((Array.range k).map fun i => (⟨z'⟩ : Array Value)[i % (⟨z'⟩ : Array Value).size]!).toList := by
  have hl := hz.length
  refine VsRel.of_get (by rw [rep_get]; simp [hk]) ?_
  intro i v hi
  have hlt : i < n * z.length := by rw [← rep_get]; exact (List.getElem?_eq_some_iff.1 hi).1
  rw [rep_mod z n i hlt] at hi
  obtain ⟨v', h1, h2⟩ := hz.get hi
  refine ⟨v', ?_, h2⟩
  simp only [Array.toList_map, Array.toList_range, List.getElem?_map]
  rw [List.getElem?_range (by omega)]
  simp only [Option.map_some, Option.some.injEq, List.size_toArray]
  have h3 : (⟨z'⟩ : Array Value)[i % z'.length]? = some v' := by rw [← hl]; simpa using h1
  rw [getElem!_def, h3]

theorem buildSlice_sound {t : TypeId} {len : Nat} {parts : Array (Nat × Operand)} {cs : List Value} {vf : Nat → Value} (ho : o.op = .buildSlice t len parts) (hk : Known ρ fr e o.op.operands.toList)
    (h : nSlice P fr t len parts = some (cs, vf)) : NewOk P ρ e o w cs vf := by
  obtain ⟨el, h1, k1⟩ := ob_eq h
  obtain ⟨m, h2, k2⟩ := ob_eq k1
  obtain ⟨z, h3, k3⟩ := ob_eq k2
  obtain ⟨vs, h4, k4⟩ := ob_eq k3
  obtain ⟨h5, k5⟩ := bb_eq k4
  obtain ⟨h6, k6⟩ := bb_eq k5
  obtain ⟨l, h7, k7⟩ := ob_eq k6
  clear h k1 k2 k3 k4 k5 k6
  cases k7
  have hm := Nat.eq_of_beq_eq_true h5
  have hle := Nat.le_of_ble_eq_true h6
  have hr := (hk.sub (k := parts.toList.map (·.2)) fun y hy => by simpa [ho, Op.operands] using hy).evs h4
  obtain ⟨hz, _, _⟩ := zero_of (ρ := ρ) h3 w
  obtain ⟨zc1, zc2, zc3⟩ := zero_cells (ρ := ρ) h3
  have hrep : ∀ c ∈ Ab.rep (cellsL z) len, isCell c = true := by
    intro c hc
    obtain ⟨i, hi⟩ := List.getElem?_of_mem hc
    have hlt : i < len * (cellsL z).length := by rw [← rep_get]; exact (List.getElem?_eq_some_iff.1 hi).1
    rw [rep_mod _ _ _ hlt] at hi
    exact zc3 c (List.mem_of_getElem? hi)
  have hzr := zeros_rel zc2 len (len * m) (by rw [hm])
  obtain ⟨r', k1, k2, k3⟩ := fill_run (place := fun i => some (i * m, m)) (place' := fun i => some (i * m, m)) (fun i => rfl) _ vs _ _ _ _ hr h7 hzr hrep
  refine NewOk.row (v' := .slice (some ⟨w.heap.size, 0, none⟩) len len) (arr := ⟨r'⟩) (el := el) ?_ k3 k2 (fun ρ' n hq => .slice (off := 0) hq)
  have hu := elem_of h1
  have hcz : (⟨z.cells.toList⟩ : Array Value) = z.cells := rfl
  by_cases h0 : len * m = 0
  · simp only [execOp, ho, Instr.buildSlice, Sem.run_bind, under_of hu, Result.andThen_ok, size_of h2, Sem.run_ite, h0]
    rw [if_neg (by omega)]
    simp only [if_true, Sem.run_bind, Sem.run_pure, Result.andThen_ok]
    rw [h0] at k1
    simp only [map_parts]
    have he : ((Array.range 0).map fun i => (#[] : Array Value)[i % (#[] : Array Value).size]!) = ⟨((Array.range 0).map fun i => (⟨z.cells.toList⟩ : Array Value)[i % (⟨z.cells.toList⟩ : Array Value).size]!).toList⟩ := by
      simp
    rw [he, k1]
    simp only [newRow, Sem.run_bind, run_newObj, Result.andThen_ok, Sem.run_pure]
  · simp only [execOp, ho, Instr.buildSlice, Sem.run_bind, under_of hu, Result.andThen_ok, size_of h2, Sem.run_ite, h0]
    rw [if_neg (by omega)]
    simp only [if_false, Sem.run_bind, Sem.run_pure, Result.andThen_ok, hz]
    simp only [map_parts]
    have he : ((Array.range (len * m)).map fun i => z.cells[i % z.cells.size]!) = ⟨((Array.range (len * m)).map fun i => (⟨z.cells.toList⟩ : Array Value)[i % (⟨z.cells.toList⟩ : Array Value).size]!).toList⟩ := rfl
    rw [he, k1]
    simp only [newRow, Sem.run_bind, run_newObj, Result.andThen_ok, Sem.run_pure]

theorem bytes_cells (l : List UInt8) : allScal (bytesV l) = true := by
  induction l with
  | nil => rfl
  | cons b l ih => show bi true (allScal (bytesV l)) false = true; exact ih

theorem bytes_sound {s d : TypeId} {x : Operand} {cs : List Value} {vf : Nat → Value} (ho : o.op = .convert s d x) (hk : Known ρ fr e o.op.operands.toList)
    (h : nBytes P fr s d x = some (cs, vf)) : NewOk P ρ e o w cs vf := by
  obtain ⟨hs0, h⟩ := bb_eq h
  have hs : ∃ ds, P.underlying s = some ds := Option.isSome_iff_exists.1 hs0
  obtain ⟨u, h1, k1⟩ := ob_eq h
  obtain ⟨l, h2, k2⟩ := ob_eq k1
  obtain ⟨el, h3, k3⟩ := ob_eq k2
  obtain ⟨h4, k4⟩ := bb_eq k3
  clear h k1 k2 k3
  cases k4
  have hx := hk x u (by simp [ho, Op.operands]) h1
  unfold string? at h2
  split at h2
  · rename_i b
    cases h2
    generalize hE : e x = y at hx
    cases hx with
    | scal _ =>
      obtain ⟨ds, hds⟩ := hs
      have hud := elem_of h3
      have hue : P.underlying el = some (.int .u8) := by
        unfold isByte at h4
        split at h4
        · assumption
        · cases h4
      have hsz : b.size = b.data.toList.length := Array.length_toList.symm
      have hcut : b.size ≤ (Question.appendCap b.size 0 el).cut (w.tape w.drawn (.appendCap b.size 0 el)) := Nat.le_add_right _ _
      generalize hK : (Question.appendCap b.size 0 el).cut (w.tape w.drawn (.appendCap b.size 0 el)) = K at hcut
      have harr : ((b.data.map fun b : UInt8 => Value.int .u8 b.toNat) ++ Array.replicate (K - b.size) (Value.int .u8 0)).toList = bytesV b.data.toList ++ List.replicate (K - b.size) (.int .u8 0) := by
        rw [Array.toList_append, Array.toList_map, Array.toList_replicate]; rfl
      have hasz : ((b.data.map fun b : UInt8 => Value.int .u8 b.toNat) ++ Array.replicate (K - b.size) (Value.int .u8 0)).size = K := by
        rw [Array.size_append, Array.size_map, Array.size_replicate]; show b.size + _ = K; omega
      generalize ha : (b.data.map fun b : UInt8 => Value.int .u8 b.toNat) ++ Array.replicate (K - b.size) (Value.int .u8 0) = arr at harr hasz
      refine ⟨(({ w with drawn := w.drawn + 1, heap := w.heap.push (.cells arr el) } : World).freeze ⟨w.heap.size, arr.size, none⟩ 1), .slice (some ⟨w.heap.size, 0, none⟩) b.size K, arr, el, arr.size, arr.size + 1,
        bytesV b.data.toList, List.replicate (K - b.size) (.int .u8 0), ?_, ?_, ?_, ?_, ⟨rfl, rfl, rfl⟩, .inl (Nat.le_refl _), cells_of_scal (bytes_cells _), harr, VsRel.of_scal (bytes_cells _), ?_⟩
      · have hf : (Question.appendCap b.size 0 el).forced = false := rfl
        simp only [execOp, ho, hE, convert, Sem.run_bind, under_of hds, Result.andThen_ok, under_of hud]
        cases ds <;> simp only [Sem.run_bind, under_of hue, Result.andThen_ok, Conv.stringToBytes, run_choose, hf, Bool.false_eq_true, if_false, hK, newRow, run_newObj, Sem.run_pure, ha, markStringish, run_shape] <;>
          simp [World.shape?, ha]
      · simp [World.freeze]
      · simp only [World.freeze]
        rw [if_neg (by omega)]
        show ((w.heap.push (.cells arr el)).modify w.heap.size _)[w.heap.size]? = _
        rw [Array.getElem?_modify]
        simp
      · intro c hc
        simp [World.freeze, Array.getElem?_modify, Array.getElem?_push]
        rw [if_neg (by omega), if_neg (by omega)]
      · intro ρ' n hq
        rw [hsz]
        exact .grow hq (by omega) (by show 0 + 0 + K * 1 ≤ arr.size; omega)
  · cases h2

theorem wrap_small {n : Nat} (h : n < 9223372036854775808) : IntKind.i64.wrap (n : Int) = n := by
  rw [wrap_i64]; split <;> omega

theorem make_sound {t : TypeId} {l c : Operand} {cs : List Value} {vf : Nat → Value} (ho : o.op = .makeSlice t l c) (hk : Known ρ fr e o.op.operands.toList)
    (h : nMake P fr t l c = some (cs, vf)) : NewOk P ρ e o w cs vf := by
  obtain ⟨el, h1, k1⟩ := ob_eq h
  obtain ⟨i, h2, k2⟩ := ob_eq k1
  obtain ⟨z, h3, k3⟩ := ob_eq k2
  obtain ⟨n, h4, k4⟩ := ob_eq k3
  obtain ⟨m, h5, k5⟩ := ob_eq k4
  obtain ⟨h6, k6⟩ := bb_eq k5
  obtain ⟨h7, k7⟩ := bb_eq k6
  obtain ⟨h8, k8⟩ := bb_eq k7
  clear h k1 k2 k3 k4 k5 k6 k7
  cases k8
  have hnm := Nat.le_of_ble_eq_true h6
  have hroom := Nat.le_of_ble_eq_true h7
  have hsz := Nat.eq_of_beq_eq_true h8
  unfold room at hroom
  have hm32 : m ≤ 4294967296 := Nat.le_trans (Nat.le_mul_of_pos_right m (by omega)) hroom
  have hbm : m * i.bytes ≤ 4294967296 := Nat.le_trans (Nat.mul_le_mul_left m (by omega)) hroom
  obtain ⟨kl, hl⟩ := evN_rel hk (x := l) (by simp [ho, Op.operands]) h4
  obtain ⟨kc, hc⟩ := evN_rel hk (x := c) (by simp [ho, Op.operands]) h5
  obtain ⟨hz, _, _⟩ := zero_of (ρ := ρ) h3 w
  obtain ⟨zc1, zc2, zc3⟩ := zero_cells (ρ := ρ) h3
  have hrep : ∀ c ∈ Ab.rep (cellsL z) m, isCell c = true := by
    intro c hc
    obtain ⟨i, hi⟩ := List.getElem?_of_mem hc
    have hlt : i < m * (cellsL z).length := by rw [← rep_get]; exact (List.getElem?_eq_some_iff.1 hi).1
    rw [rep_mod _ _ _ hlt] at hi
    exact zc3 c (List.mem_of_getElem? hi)
  have hzr := zeros_rel zc2 m (m * i.size) (by rw [hsz])
  have hcells : P.cellsOf el = i.size := by simp [Program.cellsOf, h2]
  have hso : (sizeOf el).run P w = .ok i.size w := by simp [sizeOf, typeInfo, h2]
  have hu := elem_of h1
  have e1 : IntKind.i64.wrap ((n : Nat) : Int) = n := wrap_small (by omega)
  have e2 : IntKind.i64.wrap ((m : Nat) : Int) = m := wrap_small (by omega)
  have p48 : (2 : Int) ^ 48 = 281474976710656 := by decide
  refine NewOk.row (v' := .slice (some ⟨w.heap.size, 0, none⟩) n m) (arr := ⟨((Array.range (m * i.size)).map fun j => (⟨z.cells.toList⟩ : Array Value)[j % (⟨z.cells.toList⟩ : Array Value).size]!).toList⟩) (el := el) ?_ hrep hzr (fun ρ' n hq => .slice (off := 0) hq)
  have hbm' : (i.bytes : Int) * (m : Int) ≤ 4294967296 := by
    have h9 := Int.ofNat_le.2 hbm
    rw [Int.natCast_mul] at h9
    rw [Int.mul_comm]
    exact h9
  have c2 : ¬ ((decide (IntKind.i64.wrap (m : Int) < 0) || decide ((i.bytes : Int) * IntKind.i64.wrap (m : Int) > 2 ^ 48) || decide (IntKind.i64.wrap (n : Int) < 0) || decide (IntKind.i64.wrap (n : Int) > IntKind.i64.wrap (m : Int))) = true) := by
    rw [e1, e2, p48, Bool.or_eq_true, Bool.or_eq_true, Bool.or_eq_true, decide_eq_true_eq, decide_eq_true_eq, decide_eq_true_eq, decide_eq_true_eq]
    omega
  simp only [execOp, ho, hl, hc, Instr.makeSlice, Sem.run_bind, under_of hu, Result.andThen_ok, asInt, asIntOf, Sem.run_pure, info_of h2, Int.ofNat_eq_natCast]
  rw [if_neg c2]
  rw [e1, e2]
  simp only [Sem.run_bind, run_askRoom, Result.andThen_ok, hso, Int.toNat_natCast, Sem.run_ite]
  by_cases h0 : m * i.size = 0
  · rw [if_pos h0]
    simp only [Sem.run_bind, Sem.run_pure, Result.andThen_ok, newRow, run_newObj]
    congr 4
    rw [h0]
    simp
  · rw [if_neg h0]
    simp only [Sem.run_bind, Sem.run_pure, Result.andThen_ok, newRow, run_newObj, hz]

end
end Go.Ab
