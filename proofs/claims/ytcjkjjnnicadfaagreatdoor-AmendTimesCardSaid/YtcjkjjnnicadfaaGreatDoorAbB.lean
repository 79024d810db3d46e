/- Literals of structs and arrays; the operations that make a new block. -/
import Derived.Test.YtcjkjjnnicadfaaGreatDoorAbA
import Derived.MapKept
import Derived.RangeFuncRecord
import Derived.OrdersIn
set_option linter.unusedSimpArgs false
set_option linter.unusedVariables false
namespace Go.Ab
open Go
section
variable {P : Program} {ρ : Place} {fr : Fr} {e : Operand → Value} {o : Oper} {w : World} {v : Value}
theorem foldl_put (off : Nat) : ∀ (l : List Value) (k : Nat) (arr : Array Value), (l.zipIdx k).foldl (fun cs (x : Value × Nat) => cs.setIfInBounds (off + x.2) x.1) arr = arrPut arr (off + k) l := by
 intro l
 induction l with
 | nil => intro k arr; rfl
 | cons v l ih => intro k arr; rw [List.zipIdx_cons, List.foldl_cons, ih]; rfl
theorem splice_rel {cells cells' r vs vs' : List Value} {off : Nat} (h : splice cells off vs = some r) (hc : VsRel ρ cells cells') (hv : VsRel ρ vs vs')
  (h1 : ∀ c ∈ cells, isCell c = true) (h2 : ∀ c ∈ vs, isCell c = true) :
  VsRel ρ r (arrPut ⟨cells'⟩ off vs').toList ∧ (∀ c ∈ r, isCell c = true) ∧ off + vs'.length ≤ cells'.length := by
 obtain ⟨h3, rfl⟩ := splice_eq _ _ _ _ h
 have l1 := hc.length
 have l2 := hv.length
 refine ⟨VsRel.of_get ?_ ?_, ?_, by omega⟩
 ·rw [show (arrPut ⟨cells'⟩ off vs').toList.length = (arrPut ⟨cells'⟩ off vs').size from Array.length_toList, arrPut_size]; simp; omega
 ·intro i v hi
  rw [splice_get h3] at hi
  rw [Array.getElem?_toList, arrPut_get _ _ _ _ (by simp; omega)]
  by_cases hin : off ≤ i ∧ i < off + vs.length
  ·rw [if_pos hin] at hi
   rw [if_pos (by omega)]
   exact hv.get hi
  ·rw [if_neg hin] at hi
   rw [if_neg (by omega)]
   simpa using hc.get hi
 ·intro c hcm
  rcases List.mem_append.1 hcm with hcm | hcm
  ·rcases List.mem_append.1 hcm with hcm | hcm
   ·exact h1 c (List.mem_of_mem_take hcm)
   ·exact h2 c hcm
  ·exact h1 c (List.mem_of_mem_drop hcm)
theorem bi_none {β : Type} {c : Bool} {x : Option β} {b : β} (h : bi c none x = some b) : c = false ∧ x = some b := by
 cases c with
 | true => cases h
 | false => exact ⟨rfl, h⟩
theorem fill_run {place place' : Nat → Option (Nat × Nat)} (hp : ∀ i, place' i = place i) : ∀ (is : List Nat) (vs vs' cells r cells' : List Value), VsRel ρ vs vs' → fillL place (is.zip vs) cells = some r →
  VsRel ρ cells cells' → (∀ c ∈ cells, isCell c = true) → ∃ r', Instr.fill place' ⟨cells'⟩ (is.zip vs') = some ⟨r'⟩ ∧ VsRel ρ r r' ∧ ∀ c ∈ r, isCell c = true := by
 intro is
 induction is with
 | nil =>
  intro vs vs' cells r cells' _ h hc h1
  cases h
  exact ⟨cells', rfl, hc, h1⟩
 | cons i is ih =>
  intro vs vs' cells r cells' hv h hc h1
  cases hv with
  | nil => cases h; exact ⟨cells', rfl, hc, h1⟩
  | cons hx hs =>
   rename_i x x' l l'
   obtain ⟨⟨off, n⟩, h2, h3⟩ := ob_eq (show ob (place i) (fun q => pr q fun off n => bi (isTup x) none (bb ((cellsL x).length.beq n) (ob (splice cells off (cellsL x)) (fillL place (is.zip l))))) = some r from h)
   obtain ⟨ht, h4⟩ := bi_none (show bi (isTup x) none _ = some r from h3)
   obtain ⟨h5, h6⟩ := bb_eq h4
   obtain ⟨cells2, h7, h8⟩ := ob_eq h6
   have hn := Nat.eq_of_beq_eq_true h5
   obtain ⟨hcx, hcc⟩ := hx.cells ht
   obtain ⟨k1, k2, k3⟩ := splice_rel h7 hc hcx h1 hcc
   obtain ⟨r', k4, k5, k6⟩ := ih l l' cells2 r _ hs h8 k1 k2
   refine ⟨r', ?_, k5, k6⟩
   have hl := hcx.length
   rw [List.zip_cons_cons]
   unfold Instr.fill
   rw [hp i, h2]
   simp only
   have hsz : x'.cells.size = n := by rw [← Array.length_toList, ← hl, hn]
   rw [if_neg (by simp [hsz]; rw [Array.length_toList] at k3; omega)]
   rw [← k4]
   congr 1
   rw [← Array.foldl_toList, Array.toList_zipIdx]
   have := foldl_put off x'.cells.toList 0 ⟨cells'⟩
   rw [Nat.add_zero] at this
   exact this
theorem map_parts (parts : Array (Nat × Operand)) (e : Operand → Value) : (parts.map fun (x : Nat × Operand) => (x.1, e x.2)).toList = (parts.toList.map (·.1)).zip ((parts.toList.map (·.2)).map e) := by
 rw [Array.toList_map]
 induction parts.toList with
 | nil => rfl
 | cons x l ih => simp [ih]
theorem places_run : ∀ (fs : List Field) (ps : List (Nat × Nat)), placesL P fs = some ps → ∀ w, (fs.mapM fun f => do pure (f.offset, ← sizeOf f.type) : Sem (List (Nat × Nat))).run P w = .ok ps w := by
 intro fs
 induction fs with
 | nil => intro ps h w; cases h; rfl
 | cons f fs ih =>
  intro ps h w
  obtain ⟨n, h1, h2⟩ := ob_eq (show ob (size? P f.type) (fun n => ob (placesL P fs) fun r => some ((f.offset, n) :: r)) = some ps from h)
  obtain ⟨r, h3, h4⟩ := ob_eq h2
  cases h4
  rw [List.mapM_cons]
  simp only [Sem.run_bind, size_of h1, Result.andThen_ok, Sem.run_pure, ih r h3]
theorem zero_cells {t : TypeId} {z : Value} (h : zero? P t = some z) : (cellsL z = z.cells.toList) ∧ VsRel ρ (cellsL z) z.cells.toList ∧ ∀ c ∈ cellsL z, isCell c = true := by
 obtain ⟨i, h1, h2⟩ := ob_eq h
 obtain ⟨z', h3, h4⟩ := ob_eq h2
 obtain ⟨h5, h6⟩ := bb_eq h4
 cases h6
 cases z with
 | agg cs => obtain ⟨l⟩ := cs; exact ⟨rfl, VsRel.of_scal h5, cells_of_scal h5⟩
 | tuple vs => cases h5
 | _ => exact ⟨rfl, .cons (.scal h5) .nil, by intro c hc; simp [cellsL] at hc; subst hc; exact isCell_of_scal h5⟩
theorem build_sound {t : TypeId} {parts : Array (Nat × Operand)} (ho : o.op = .build t parts) (hk : Known ρ fr e o.op.operands.toList) (h : pBuild P fr t parts = some v) : PureOk P ρ e o w v := by
 obtain ⟨z, h1, k1⟩ := ob_eq h
 clear h
 obtain ⟨vs, h2, h3⟩ := ob_eq k1
 clear k1
 have hr := (hk.sub (k := parts.toList.map (·.2)) fun y hy => by simpa [ho, Op.operands] using hy).evs h2
 obtain ⟨hz, _, _⟩ := zero_of (ρ := ρ) h1 w
 obtain ⟨zc1, zc2, zc3⟩ := zero_cells (ρ := ρ) h1
 unfold buildV at h3
 split at h3
 ·rename_i fs hu
  obtain ⟨ps, h4, h5⟩ := ob_eq h3
  obtain ⟨l, h6, h7⟩ := ob_eq h5
  cases h7
  have hps : (fs.mapM fun f => do pure (f.offset, ← sizeOf f.type) : Sem (Array (Nat × Nat))).run P w = .ok ps.toArray w := by
   rw [Array.mapM_eq_mapM_toList, Sem.run_map, places_run _ _ h4]
   rfl
  obtain ⟨r', k1, k2, k3⟩ := fill_run (place := fun i => ps[i]?) (place' := fun i => ps.toArray[i]?) (fun i => by simp) _ vs _ _ l _ hr h6 zc2 zc3
  refine ⟨.agg ⟨r'⟩, ?_, .agg k3 k2⟩
  simp only [execOp, ho, Instr.build, Sem.run_bind, hz, Result.andThen_ok, under_of hu, hps, map_parts]
  rw [show z.cells = ⟨z.cells.toList⟩ from rfl, k1]
  rfl
 ·rename_i m el hu
  obtain ⟨n, h4, h5⟩ := ob_eq h3
  obtain ⟨l, h6, h7⟩ := ob_eq h5
  cases h7
  obtain ⟨r', k1, k2, k3⟩ := fill_run (place := fun i => some (i * n, n)) (place' := fun i => some (i * n, n)) (fun i => rfl) _ vs _ _ l _ hr h6 zc2 zc3
  refine ⟨.agg ⟨r'⟩, ?_, .agg k3 k2⟩
  simp only [execOp, ho, Instr.build, Sem.run_bind, hz, Result.andThen_ok, under_of hu, size_of h4, map_parts]
  rw [show z.cells = ⟨z.cells.toList⟩ from rfl, k1]
  rfl
 ·cases h3
def NewOk (P : Program) (ρ : Place) (e : Operand → Value) (o : Oper) (w : World) (cs : List Value) (v : Nat → Value) : Prop :=
 ∃ (w' : World) (v' : Value) (arr : Array Value) (el : TypeId) (lo hi : Nat) (vs more : List Value), (execOp e o).run P w = .ok (.value v') w' ∧ w'.heap.size = w.heap.size + 1 ∧ w'.heap[w.heap.size]? = some (.cells arr el (lo, hi)) ∧
  (∀ c, c < w.heap.size → w'.heap[c]? = w.heap[c]?) ∧ Outside w w' ∧ (arr.size ≤ lo ∨ hi ≤ lo) ∧ (∀ c ∈ cs, isCell c = true) ∧ arr.toList = vs ++ more ∧ VsRel ρ cs vs ∧
  ∀ (ρ' : Place) (n : Nat), ρ' n = some ⟨w.heap.size, 0, arr.size⟩ → VRel ρ' (v n) v'
theorem NewOk.row {cs : List Value} {vf : Nat → Value} {v' : Value} {arr : Array Value} {el : TypeId} (hrun : (execOp e o).run P w = .ok (.value v') { w with heap := w.heap.push (.cells arr el) })
  (hc : ∀ c ∈ cs, isCell c = true) (hr : VsRel ρ cs arr.toList) (hv : ∀ (ρ' : Place) (n : Nat), ρ' n = some ⟨w.heap.size, 0, arr.size⟩ → VRel ρ' (vf n) v') : NewOk P ρ e o w cs vf :=
 ⟨_, v', arr, el, 0, 0, arr.toList, [], hrun, by simp, by simp, fun c hc => by simp [Array.getElem?_push]; intro h; omega, ⟨rfl, rfl, rfl⟩, .inr (Nat.le_refl _), hc, by simp, hr, hv⟩
theorem ptrTo_rel {c m : Nat} (ρ' : Place) (n : Nat) (h : ρ' n = some ⟨c, 0, m⟩) : VRel ρ' (ptrTo n) (.pointer (some ⟨c, 0, none⟩)) := .ptr (off := 0) h
theorem alloc_sound {t : TypeId} {cs : List Value} {vf : Nat → Value} (ho : o.op = .alloc t) (h : nAlloc P t = some (cs, vf)) : NewOk P ρ e o w cs vf := by
 obtain ⟨z, h1, h2⟩ := ob_eq h
 cases h2
 obtain ⟨hz, _, _⟩ := zero_of (ρ := ρ) h1 w
 obtain ⟨zc1, zc2, zc3⟩ := zero_cells (ρ := ρ) h1
 refine NewOk.row (v' := .pointer (some ⟨w.heap.size, 0, none⟩)) (arr := z.cells) (el := t) ?_ zc3 zc2 ptrTo_rel
 simp only [execOp, ho, Instr.alloc, Sem.run_bind, hz, Result.andThen_ok, newVar, newRow, run_newObj, Sem.run_pure]
theorem box_sound {t : TypeId} {x : Operand} {cs : List Value} {vf : Nat → Value} (ho : o.op = .box t x) (hk : Known ρ fr e o.op.operands.toList) (h : nBox fr x = some (cs, vf)) : NewOk P ρ e o w cs vf := by
 obtain ⟨u, h1, h2⟩ := ob_eq h
 obtain ⟨ht, h3⟩ := bi_none h2
 cases h3
 obtain ⟨k1, k2⟩ := (hk x u (by simp [ho, Op.operands]) h1).cells ht
 refine NewOk.row (v' := .pointer (some ⟨w.heap.size, 0, none⟩)) (arr := (e x).cells) (el := t) ?_ k2 k1 ptrTo_rel
 simp only [execOp, ho, Instr.box, newVar, newRow, Sem.run_bind, run_newObj, Result.andThen_ok, Sem.run_pure]
theorem rep_get {α : Type} (l : List α) (n : Nat) : (Ab.rep l n).length = n * l.length := by
 induction n with
 | zero => show ([] : List α).length = 0 * l.length; simp
 | succ n ih => show (l ++ Ab.rep l n).length = _; rw [List.length_append, ih, Nat.succ_mul]; omega
theorem rep_mod {α : Type} (l : List α) : ∀ (n i : Nat), i < n * l.length → (Ab.rep l n)[i]? = l[i % l.length]? := by
 intro n
 induction n with
 | zero => intro i h; omega
 | succ n ih =>
  intro i h
  show (l ++ Ab.rep l n)[i]? = _
  by_cases hi : i < l.length
  ·rw [List.getElem?_append_left hi, Nat.mod_eq_of_lt hi]
  ·rw [List.getElem?_append_right (by omega), ih _ (by rw [Nat.succ_mul] at h; omega)]
   congr 1
   rw [← Nat.mod_eq_sub_mod (by omega)]
theorem zeros_rel {z z' : List Value} (hz : VsRel ρ z z') (n k : Nat) (hk : k = n * z.length) : VsRel ρ (Ab.rep z n) ((Array.range k).map fun i => (⟨z'⟩ : Array Value)[i % (⟨z'⟩ : Array Value).size]!).toList := by
 have hl := hz.length
 refine VsRel.of_get (by rw [rep_get]; simp [hk]) ?_
 intro i v hi
 have hlt : i < n * z.length := by rw [← rep_get]; exact (List.getElem?_eq_some_iff.1 hi).1
 rw [rep_mod z n i hlt] at hi
 obtain ⟨v', h1, h2⟩ := hz.get hi
 refine ⟨v', ?_, h2⟩
 simp only [Array.toList_map, Array.toList_range, List.getElem?_map]
 rw [List.getElem?_range (by omega)]
 simp only [Option.map_some, Option.some.injEq, List.size_toArray]
 have h3 : (⟨z'⟩ : Array Value)[i % z'.length]? = some v' := by rw [← hl]; simpa using h1
 rw [getElem!_def, h3]
theorem buildSlice_sound {t : TypeId} {len : Nat} {parts : Array (Nat × Operand)} {cs : List Value} {vf : Nat → Value} (ho : o.op = .buildSlice t len parts) (hk : Known ρ fr e o.op.operands.toList)
  (h : nSlice P fr t len parts = some (cs, vf)) : NewOk P ρ e o w cs vf := by
 obtain ⟨el, h1, k1⟩ := ob_eq h
 obtain ⟨m, h2, k2⟩ := ob_eq k1
 obtain ⟨z, h3, k3⟩ := ob_eq k2
 obtain ⟨vs, h4, k4⟩ := ob_eq k3
 obtain ⟨h5, k5⟩ := bb_eq k4
 obtain ⟨h6, k6⟩ := bb_eq k5
 obtain ⟨l, h7, k7⟩ := ob_eq k6
 clear h k1 k2 k3 k4 k5 k6
 cases k7
 have hm := Nat.eq_of_beq_eq_true h5
 have hle := Nat.le_of_ble_eq_true h6
 have hr := (hk.sub (k := parts.toList.map (·.2)) fun y hy => by simpa [ho, Op.operands] using hy).evs h4
 obtain ⟨hz, _, _⟩ := zero_of (ρ := ρ) h3 w
 obtain ⟨zc1, zc2, zc3⟩ := zero_cells (ρ := ρ) h3
 have hrep : ∀ c ∈ Ab.rep (cellsL z) len, isCell c = true := by
  intro c hc
  obtain ⟨i, hi⟩ := List.getElem?_of_mem hc
  have hlt : i < len * (cellsL z).length := by rw [← rep_get]; exact (List.getElem?_eq_some_iff.1 hi).1
  rw [rep_mod _ _ _ hlt] at hi
  exact zc3 c (List.mem_of_getElem? hi)
 have hzr := zeros_rel zc2 len (len * m) (by rw [hm])
 obtain ⟨r', k1, k2, k3⟩ := fill_run (place := fun i => some (i * m, m)) (place' := fun i => some (i * m, m)) (fun i => rfl) _ vs _ _ _ _ hr h7 hzr hrep
 refine NewOk.row (v' := .slice (some ⟨w.heap.size, 0, none⟩) len len) (arr := ⟨r'⟩) (el := el) ?_ k3 k2 (fun ρ' n hq => .slice (off := 0) hq)
 have hu := elem_of h1
 have hcz : (⟨z.cells.toList⟩ : Array Value) = z.cells := rfl
 by_cases h0 : len * m = 0
 ·simp only [execOp, ho, Instr.buildSlice, Sem.run_bind, under_of hu, Result.andThen_ok, size_of h2, Sem.run_ite, h0]
  rw [if_neg (by omega)]
  simp only [if_true, Sem.run_bind, Sem.run_pure, Result.andThen_ok]
  rw [h0] at k1
  simp only [map_parts]
  have he : ((Array.range 0).map fun i => (#[] : Array Value)[i % (#[] : Array Value).size]!) = ⟨((Array.range 0).map fun i => (⟨z.cells.toList⟩ : Array Value)[i % (⟨z.cells.toList⟩ : Array Value).size]!).toList⟩ := by
   simp
  rw [he, k1]
  simp only [newRow, Sem.run_bind, run_newObj, Result.andThen_ok, Sem.run_pure]
 ·simp only [execOp, ho, Instr.buildSlice, Sem.run_bind, under_of hu, Result.andThen_ok, size_of h2, Sem.run_ite, h0]
  rw [if_neg (by omega)]
  simp only [if_false, Sem.run_bind, Sem.run_pure, Result.andThen_ok, hz]
  simp only [map_parts]
  have he : ((Array.range (len * m)).map fun i => z.cells[i % z.cells.size]!) = ⟨((Array.range (len * m)).map fun i => (⟨z.cells.toList⟩ : Array Value)[i % (⟨z.cells.toList⟩ : Array Value).size]!).toList⟩ := rfl
  rw [he, k1]
  simp only [newRow, Sem.run_bind, run_newObj, Result.andThen_ok, Sem.run_pure]
theorem bytes_cells (l : List UInt8) : allScal (bytesV l) = true := by
 induction l with
 | nil => rfl
 | cons b l ih => show bi true (allScal (bytesV l)) false = true; exact ih
theorem bytes_sound {s d : TypeId} {x : Operand} {cs : List Value} {vf : Nat → Value} (ho : o.op = .convert s d x) (hk : Known ρ fr e o.op.operands.toList)
  (h : nBytes P fr s d x = some (cs, vf)) : NewOk P ρ e o w cs vf := by
 obtain ⟨hs0, h⟩ := bb_eq h
 have hs : ∃ ds, P.underlying s = some ds := Option.isSome_iff_exists.1 hs0
 obtain ⟨u, h1, k1⟩ := ob_eq h
 obtain ⟨l, h2, k2⟩ := ob_eq k1
 obtain ⟨el, h3, k3⟩ := ob_eq k2
 obtain ⟨h4, k4⟩ := bb_eq k3
 clear h k1 k2 k3
 cases k4
 have hx := hk x u (by simp [ho, Op.operands]) h1
 unfold string? at h2
 split at h2
 ·rename_i b
  cases h2
  generalize hE : e x = y at hx
  cases hx with
  | scal _ =>
   obtain ⟨ds, hds⟩ := hs
   have hud := elem_of h3
   have hue : P.underlying el = some (.int .u8) := by
    unfold isByte at h4
    split at h4
    ·assumption
    ·cases h4
   have hsz : b.size = b.data.toList.length := Array.length_toList.symm
   have hcut : b.size ≤ (Question.appendCap b.size 0 el).cut (w.tape w.drawn (.appendCap b.size 0 el)) := Nat.le_add_right _ _
   generalize hK : (Question.appendCap b.size 0 el).cut (w.tape w.drawn (.appendCap b.size 0 el)) = K at hcut
   have harr : ((b.data.map fun b : UInt8 => Value.int .u8 b.toNat) ++ Array.replicate (K - b.size) (Value.int .u8 0)).toList = bytesV b.data.toList ++ List.replicate (K - b.size) (.int .u8 0) := by
    rw [Array.toList_append, Array.toList_map, Array.toList_replicate]; rfl
   have hasz : ((b.data.map fun b : UInt8 => Value.int .u8 b.toNat) ++ Array.replicate (K - b.size) (Value.int .u8 0)).size = K := by
    rw [Array.size_append, Array.size_map, Array.size_replicate]; show b.size + _ = K; omega
   generalize ha : (b.data.map fun b : UInt8 => Value.int .u8 b.toNat) ++ Array.replicate (K - b.size) (Value.int .u8 0) = arr at harr hasz
   refine ⟨(({ w with drawn := w.drawn + 1, heap := w.heap.push (.cells arr el) } : World).freeze ⟨w.heap.size, arr.size, none⟩ 1), .slice (some ⟨w.heap.size, 0, none⟩) b.size K, arr, el, arr.size, arr.size + 1,
    bytesV b.data.toList, List.replicate (K - b.size) (.int .u8 0), ?_, ?_, ?_, ?_, ⟨rfl, rfl, rfl⟩, .inl (Nat.le_refl _), cells_of_scal (bytes_cells _), harr, VsRel.of_scal (bytes_cells _), ?_⟩
   ·have hf : (Question.appendCap b.size 0 el).forced = false := rfl
    simp only [execOp, ho, hE, convert, Sem.run_bind, under_of hds, Result.andThen_ok, under_of hud]
    cases ds <;> simp only [Sem.run_bind, under_of hue, Result.andThen_ok, Conv.stringToBytes, run_choose, hf, Bool.false_eq_true, if_false, hK, newRow, run_newObj, Sem.run_pure, ha, markStringish, run_shape] <;>
     simp [World.shape?, ha]
   ·simp [World.freeze]
   ·simp only [World.freeze]
    rw [if_neg (by omega)]
    show ((w.heap.push (.cells arr el)).modify w.heap.size _)[w.heap.size]? = _
    rw [Array.getElem?_modify]
    simp
   ·intro c hc
    simp [World.freeze, Array.getElem?_modify, Array.getElem?_push]
    rw [if_neg (by omega), if_neg (by omega)]
   ·intro ρ' n hq
    rw [hsz]
    exact .grow hq (by omega) (by show 0 + 0 + K * 1 ≤ arr.size; omega)
 ·cases h2
theorem wrap_small {n : Nat} (h : n < 9223372036854775808) : IntKind.i64.wrap (n : Int) = n := by
 rw [wrap_i64]; split <;> omega
theorem make_sound {t : TypeId} {l c : Operand} {cs : List Value} {vf : Nat → Value} (ho : o.op = .makeSlice t l c) (hk : Known ρ fr e o.op.operands.toList)
  (h : nMake P fr t l c = some (cs, vf)) : NewOk P ρ e o w cs vf := by
 obtain ⟨el, h1, k1⟩ := ob_eq h
 obtain ⟨i, h2, k2⟩ := ob_eq k1
 obtain ⟨z, h3, k3⟩ := ob_eq k2
 obtain ⟨n, h4, k4⟩ := ob_eq k3
 obtain ⟨m, h5, k5⟩ := ob_eq k4
 obtain ⟨h6, k6⟩ := bb_eq k5
 obtain ⟨h7, k7⟩ := bb_eq k6
 obtain ⟨h8, k8⟩ := bb_eq k7
 clear h k1 k2 k3 k4 k5 k6 k7
 cases k8
 have hnm := Nat.le_of_ble_eq_true h6
 have hroom := Nat.le_of_ble_eq_true h7
 have hsz := Nat.eq_of_beq_eq_true h8
 unfold room at hroom
 have hm32 : m ≤ 4294967296 := Nat.le_trans (Nat.le_mul_of_pos_right m (by omega)) hroom
 have hbm : m * i.bytes ≤ 4294967296 := Nat.le_trans (Nat.mul_le_mul_left m (by omega)) hroom
 obtain ⟨kl, hl⟩ := evN_rel hk (x := l) (by simp [ho, Op.operands]) h4
 obtain ⟨kc, hc⟩ := evN_rel hk (x := c) (by simp [ho, Op.operands]) h5
 obtain ⟨hz, _, _⟩ := zero_of (ρ := ρ) h3 w
 obtain ⟨zc1, zc2, zc3⟩ := zero_cells (ρ := ρ) h3
 have hrep : ∀ c ∈ Ab.rep (cellsL z) m, isCell c = true := by
  intro c hc
  obtain ⟨i, hi⟩ := List.getElem?_of_mem hc
  have hlt : i < m * (cellsL z).length := by rw [← rep_get]; exact (List.getElem?_eq_some_iff.1 hi).1
  rw [rep_mod _ _ _ hlt] at hi
  exact zc3 c (List.mem_of_getElem? hi)
 have hzr := zeros_rel zc2 m (m * i.size) (by rw [hsz])
 have hcells : P.cellsOf el = i.size := by simp [Program.cellsOf, h2]
 have hso : (sizeOf el).run P w = .ok i.size w := by simp [sizeOf, typeInfo, h2]
 have hu := elem_of h1
 have e1 : IntKind.i64.wrap ((n : Nat) : Int) = n := wrap_small (by omega)
 have e2 : IntKind.i64.wrap ((m : Nat) : Int) = m := wrap_small (by omega)
 have p48 : (2 : Int) ^ 48 = 281474976710656 := by decide
 refine NewOk.row (v' := .slice (some ⟨w.heap.size, 0, none⟩) n m) (arr := ⟨((Array.range (m * i.size)).map fun j => (⟨z.cells.toList⟩ : Array Value)[j % (⟨z.cells.toList⟩ : Array Value).size]!).toList⟩) (el := el) ?_ hrep hzr (fun ρ' n hq => .slice (off := 0) hq)
 have hbm' : (i.bytes : Int) * (m : Int) ≤ 4294967296 := by
  have h9 := Int.ofNat_le.2 hbm
  rw [Int.natCast_mul] at h9
  rw [Int.mul_comm]
  exact h9
 have c2 : ¬ ((decide (IntKind.i64.wrap (m : Int) < 0) || decide ((i.bytes : Int) * IntKind.i64.wrap (m : Int) > 2 ^ 48) || decide (IntKind.i64.wrap (n : Int) < 0) || decide (IntKind.i64.wrap (n : Int) > IntKind.i64.wrap (m : Int))) = true) := by
  rw [e1, e2, p48, Bool.or_eq_true, Bool.or_eq_true, Bool.or_eq_true, decide_eq_true_eq, decide_eq_true_eq, decide_eq_true_eq, decide_eq_true_eq]
  omega
 simp only [execOp, ho, hl, hc, Instr.makeSlice, Sem.run_bind, under_of hu, Result.andThen_ok, asInt, asIntOf, Sem.run_pure, info_of h2, Int.ofNat_eq_natCast]
 rw [if_neg c2]
 rw [e1, e2]
 simp only [Sem.run_bind, run_askRoom, Result.andThen_ok, hso, Int.toNat_natCast, Sem.run_ite]
 by_cases h0 : m * i.size = 0
 ·rw [if_pos h0]
  simp only [Sem.run_bind, Sem.run_pure, Result.andThen_ok, newRow, run_newObj]
  congr 4
  rw [h0]
  simp
 ·rw [if_neg h0]
  simp only [Sem.run_bind, Sem.run_pure, Result.andThen_ok, newRow, run_newObj, hz]
end
end Go.Ab
namespace Go.Ab
open Go
section
variable {P : Program} {ρ : Place} {fr : Fr} {e : Operand → Value} {o : Oper} {w : World} {v : Value}
def Seg (ρ : Place) (w : World) (q : Spot) (off : Nat) (cs : List Value) : Prop := ∃ (arr : Array Value) (e : TypeId) (f : Nat × Nat), w.heap[q.c]? = some (.cells arr e f) ∧ q.o + off + cs.length ≤ arr.size ∧ (∀ v ∈ cs, isCell v = true) ∧
 ∀ (i : Nat) (v : Value), cs[i]? = some v → ∃ v', arr[q.o + off + i]? = some v' ∧ VRel ρ v v'
theorem Row.seg {base : Env} {cells cs : List Value} {q : Spot} {off n : Nat} (h : Row base ρ w q cells) (hs : sub cells off n = some cs) : Seg ρ w q off cs ∧ cs.length = n := by
 obtain ⟨arr, el, lo, hi, h1, h0, h2, h3, h4, h5⟩ := h
 obtain ⟨h6, rfl⟩ := sub_eq hs
 refine ⟨⟨arr, el, (lo, hi), h1, by simp; omega, fun v hv => h4 v (List.mem_of_mem_drop (List.mem_of_mem_take hv)), fun i v hv => ?_⟩, by simp; omega⟩
 have hi' : i < n := by
  rcases Nat.lt_or_ge i n with hh | hh
  ·exact hh
  ·rw [List.getElem?_eq_none (by simp; omega)] at hv; cases hv
 rw [List.getElem?_take_of_lt hi', List.getElem?_drop] at hv
 obtain ⟨v', h7, h8⟩ := h5 _ _ hv
 exact ⟨v', by rw [show q.o + off + i = q.o + (off + i) from by omega]; exact h7, h8⟩
theorem Seg.read {cs : List Value} {q : Spot} {off : Nat} (h : Seg ρ w q off cs) : ∃ vs : List Value, (loadCells ⟨q.c, q.o + off, none⟩ cs.length).run P w = .ok vs.toArray w ∧ VsRel ρ cs vs ∧ ∀ v ∈ cs, isCell v = true := by
 obtain ⟨arr, e, f, h1, h2, h4, h5⟩ := h
 refine ⟨_, run_read h1 cs.length (by omega), ?_, h4⟩
 apply VsRel.of_get
 ·simp; omega
 ·intro i v hv
  have hi' : i < cs.length := (List.getElem?_eq_some_iff.1 hv).1
  rw [List.getElem?_take_of_lt hi', List.getElem?_drop]
  obtain ⟨v', h7, h8⟩ := h5 _ _ hv
  exact ⟨v', by rw [Array.getElem?_toList]; exact h7, h8⟩
theorem Seg.one {cs : List Value} {q : Spot} {off : Nat} (h : Seg ρ w q off cs) (hv : oneV cs = some v) :
  ∃ v', (load ⟨q.c, q.o + off, none⟩).run P w = .ok v' w ∧ VRel ρ v v' := by
 obtain ⟨arr, el, f, h1, h2, h4, h5⟩ := h
 obtain ⟨v', h7, h8⟩ := h5 0 v (by rw [oneV_eq hv]; rfl)
 refine ⟨v', ?_, h8⟩
 rw [run_load, cell_at h1, show q.o + off = q.o + off + 0 from rfl, h7]
theorem Row.one {base : Env} {cells cs : List Value} {q : Spot} {off : Nat} (h : Row base ρ w q cells) (hs : sub cells off 1 = some cs) (hv : oneV cs = some v) :
  ∃ v', (load ⟨q.c, q.o + off, none⟩).run P w = .ok v' w ∧ VRel ρ v v' := (h.seg hs).1.one hv
theorem read_parts {σ : St} {b off n : Nat} {cs : List Value} (h : σ.read b off n = some cs) : ∃ B, σ.rblk b = some B ∧ sub B.cells off n = some cs := ob_eq h
theorem Rel.seg {base : Env} {σ : St} (hR : Rel base ρ σ w) {b off n : Nat} {q : Spot} {cs : List Value} (hq : ρ b = some q) (h : σ.read b off n = some cs) : Seg ρ w q off cs := by
 obtain ⟨B, h1, h2⟩ := read_parts h
 exact ((hR.row b q B hq h1).seg h2).1
theorem read_length {σ : St} {b off n : Nat} {cs : List Value} (h : σ.read b off n = some cs) : cs.length = n := by
 obtain ⟨B, h1, h2⟩ := read_parts h
 obtain ⟨h3, h4⟩ := sub_eq h2
 rw [h4]; simp; omega
theorem load_sound {σ : St} {t : TypeId} {x : Operand} {r : RowAt} (ho : o.op = .load t x) (hk : Known ρ fr e o.op.operands.toList) (h : rLoad P fr σ t x = some (v, r))
  (hseg : ∀ q cs, ρ r.b = some q → σ.read r.b r.off r.n = some cs → Seg ρ w q r.off cs) : PureOk P ρ e o w v := by
 obtain ⟨u, h1, k1⟩ := ob_eq h
 obtain ⟨⟨b', off⟩, h2, k2⟩ := ob_eq k1
 obtain ⟨m, hm, k2⟩ := ob_eq (show ob (span? P t) _ = some (v, r) from k2)
 obtain ⟨v0, h3, k3⟩ := ob_eq (show ob (loadA P σ t b' off) _ = some (v, r) from k2)
 clear h k1 k2
 cases k3
 obtain ⟨q, hq, hx⟩ := at_rel (hk x u (by simp [ho, Op.operands]) h1) h2
 obtain ⟨g, h4, h5⟩ := ob_eq h3
 obtain ⟨g', hg', hm⟩ := ob_eq hm
 rw [h4] at hg'; cases hg'
 have hg := agg_of h4 w
 cases g with
 | true =>
  obtain ⟨n, h6, h7⟩ := ob_eq (show ob (size? P t) _ = some v from h5)
  obtain ⟨cs, h8, h9⟩ := ob_eq h7
  cases h9
  rw [show size? P t = some m from hm] at h6
  cases h6
  obtain ⟨vs, k1, k2, k3⟩ := (hseg q cs hq h8).read (P := P)
  rw [read_length h8] at k1
  refine ⟨.agg vs.toArray, ?_, .agg k3 k2⟩
  simp only [execOp, ho, hx, Instr.loadAt, Instr.sureAddr, Sem.run_bind, Sem.run_pure, Result.andThen_ok, loadVar, hg, if_true, size_of (show size? P t = some m from hm), k1]
 | false =>
  cases hm
  obtain ⟨cs, h8, h9⟩ := ob_eq (show ob (σ.read b' off 1) _ = some v from h5)
  obtain ⟨v', k1, k2⟩ := (hseg q cs hq h8).one (P := P) h9
  refine ⟨v', ?_, k2⟩
  simp only [execOp, ho, hx, Instr.loadAt, Instr.sureAddr, Sem.run_bind, Sem.run_pure, Result.andThen_ok, loadVar, hg, Bool.false_eq_true, if_false, k1]
theorem rowAt_rel {u u' : Value} {p : RowAt} (h : VRel ρ u u') (hp : rowAt? u = some p) : ∃ q a k', ρ p.b = some q ∧ u' = .slice (some a) p.n k' ∧ (a = ⟨q.c, q.o + p.off, none⟩ ∨ p.n = 0) := by
 unfold rowAt? at hp
 split at hp
 ·cases hp
  cases h with
  | slice hq => exact ⟨_, _, _, hq, rfl, .inl rfl⟩
  | grow hq _ _ => exact ⟨_, _, _, hq, rfl, .inl rfl⟩
  | slice0 hq => exact ⟨_, _, _, hq, rfl, .inr rfl⟩
  | scal hs => simp [scal] at hs
 ·cases hp
theorem loop_bytes {P : Program} {w : World} : ∀ (l : List Value) (r : List UInt8) (s : ByteArray), unbytes l = some r →
  (forIn l s (fun (c : Value) (s : ByteArray) => (match c with
   | .int .u8 n => pure (ForInStep.yield (s.push (UInt8.ofNat n.toNat)))
   | _ => do
    stuck "bytesToString: byte expected"
    pure (ForInStep.yield s) : Sem (ForInStep ByteArray)))).run P w = .ok ⟨(s.data.toList ++ r).toArray⟩ w := by
 intro l
 induction l with
 | nil => intro r s h; cases h; simp [forIn, List.forIn']
 | cons v l ih =>
  intro r s h
  obtain ⟨b, h1, h2⟩ := ob_eq (show ob (byte? v) (fun b => ob (unbytes l) fun bs => some (b :: bs)) = some r from h)
  obtain ⟨bs, h3, h4⟩ := ob_eq h2
  cases h4
  unfold byte? at h1
  split at h1
  ·cases h1
   rw [List.forIn_cons]
   simp only [Sem.run_bind, Sem.run_pure, Result.andThen_ok]
   rw [ih bs _ h3]
   simp [ByteArray.push]
  ·cases h1
theorem VsRel.unbytes {l l' : List Value} {r : List UInt8} (h : VsRel ρ l l') (hu : Ab.unbytes l = some r) : Ab.unbytes l' = some r := by
 induction l generalizing l' r with
 | nil => cases h; exact hu
 | cons v l ih =>
  cases h with
  | cons hv hs =>
  rename_i v' l'
  obtain ⟨b, h1, h2⟩ := ob_eq (show ob (byte? v) (fun b => ob (Ab.unbytes l) fun bs => some (b :: bs)) = some r from hu)
  obtain ⟨bs, h3, h4⟩ := ob_eq h2
  cases h4
  show ob (byte? v') (fun b => ob (Ab.unbytes l') fun bs => some (b :: bs)) = _
  have : v' = v := by
   unfold byte? at h1
   split at h1
   ·cases hv; rfl
   ·cases h1
  rw [this, h1, ih hs h3]
  rfl
theorem isByte_eq {d : Option TypeDesc} (h : isByte d = true) : d = some (.int .u8) := by
 unfold isByte at h
 split at h
 ·rfl
 ·cases h
theorem isStr_eq {d : Option TypeDesc} (h : isStr d = true) : d = some .string := by
 unfold isStr at h
 split at h
 ·rfl
 ·cases h
theorem string_sound {σ : St} {s d : TypeId} {x : Operand} {r : RowAt} (ho : o.op = .convert s d x) (hk : Known ρ fr e o.op.operands.toList) (h : rString P fr σ s d x = some (v, r))
  (hseg : ∀ q cs, ρ r.b = some q → σ.read r.b r.off r.n = some cs → Seg ρ w q r.off cs) : PureOk P ρ e o w v := by
 obtain ⟨u, h1, k1⟩ := ob_eq h
 obtain ⟨⟨b', off, n⟩, h2, k2⟩ := ob_eq k1
 obtain ⟨el, h3, k3⟩ := ob_eq (show ob (elem? P s) _ = some (v, r) from k2)
 obtain ⟨h4, k4⟩ := bb_eq k3
 obtain ⟨h5, k5⟩ := bb_eq k4
 obtain ⟨l, h6, k6⟩ := ob_eq k5
 obtain ⟨r', h7, k7⟩ := ob_eq k6
 clear h k1 k2 k3 k4 k5 k6
 cases k7
 obtain ⟨q, a, k', hq, hx, ha⟩ := rowAt_rel (hk x u (by simp [ho, Op.operands]) h1) h2
 obtain ⟨vs, k1, k2, k3⟩ := (hseg q l hq h6).read (P := P)
 rw [read_length h6] at k1
 have hload : (loadCells a n).run P w = .ok vs.toArray w := by
  rcases ha with ha | ha
  ·rw [ha]; exact k1
  ·change n = 0 at ha
   subst ha
   have : vs = [] := by
    have h12 := k2.length
    rw [read_length h6] at h12
    exact List.length_eq_zero_iff.1 h12.symm
   subst this
   rfl
 refine ⟨.string ⟨r'.toArray⟩, ?_, .scal rfl⟩
 simp only [execOp, ho, hx, convert, Sem.run_bind, under_of (elem_of h3), under_of (isStr_eq h5), Result.andThen_ok, under_of (isByte_eq h4), Conv.bytesToString, hload, Sem.run_pure]
 have hl := loop_bytes (P := P) (w := w) vs r' ByteArray.empty (k2.unbytes h7)
 rw [List.forIn_toArray]
 refine (congrArg (fun r : Result ByteArray => (r.andThen fun a w' => Result.ok (Value.string a) w').andThen fun a w' => Result.ok (Next.value a) w') hl).trans ?_
 rfl
def Gives (v : Value) : Next → Prop
 | .value v' => v' = v
 | .skip => v = undef
 | _ => False
def EffOk (P : Program) (base : Env) (ρ : Place) (e : Operand → Value) (o : Oper) (σ : St) (w : World) (σ' : St) (v : Value) : Prop :=
 ∃ (w' : World) (nx : Next) (v' : Value) (ρ' : Place), (execOp e o).run P w = .ok nx w' ∧ Gives v' nx ∧ Rel base ρ' σ' w' ∧ Fram ρ σ w ρ' σ' w' ∧ VRel ρ' v v'
theorem store_sound {base : Env} {σ σ' : St} {t : TypeId} {x y : Operand} (ho : o.op = .store t x y) (hk : Known ρ fr e o.op.operands.toList) (hR : Rel base ρ σ w)
  (h : eStore P fr σ t x y = some (v, σ')) : EffOk P base ρ e o σ w σ' v := by
 obtain ⟨a, h1, k1⟩ := ob_eq h
 obtain ⟨u, h2, k2⟩ := ob_eq k1
 obtain ⟨σ1, h3, k3⟩ := ob_eq k2
 clear h k1 k2
 cases k3
 obtain ⟨⟨b, off⟩, h4, k4⟩ := ob_eq h3
 obtain ⟨n, h5, k5⟩ := ob_eq (show ob (size? P t) _ = some σ' from k4)
 obtain ⟨ht, k6⟩ := bi_none k5
 obtain ⟨h6, h7⟩ := bb_eq k6
 clear h3 k4 k5 k6
 have hn := Nat.eq_of_beq_eq_true h6
 obtain ⟨q, hq, hx⟩ := at_rel (hk x a (by simp [ho, Op.operands]) h1) h4
 obtain ⟨c1, c2⟩ := (hk y u (by simp [ho, Op.operands]) h2).cells ht
 obtain ⟨w1, w2, w3⟩ := hR.write hq h7 c1 c2
 refine ⟨_, .skip, undef, ρ, ?_, rfl, w2, w3, .tuple .nil⟩
 have hl := c1.length
 have hsz : (e y).cells.size = n := by rw [← Array.length_toList, ← hl, hn]
 simp only [execOp, ho, hx, Instr.storeAt, Instr.sureAddr, Sem.run_bind, Sem.run_pure, Result.andThen_ok, storeVar, size_of h5, ne_eq]
 rw [if_neg (by simp [hsz])]
 rw [w1 P]
 rfl
theorem src_run {base : Env} {σ : St} {size n : Nat} {x x' : Value} {new : List Value} (hR : Rel base ρ σ w) (hx : VRel ρ x x') (h : srcCells σ size x = some (n, new)) :
  (Builtin.lenOf x').run P w = .ok n w ∧ new.length = n * size ∧ (∀ v ∈ new, isCell v = true) ∧
  ∀ k, k ≤ n → ∃ new', (Builtin.firstCells size k x').run P w = .ok (new' : List Value).toArray w ∧ VsRel ρ (new.take (k * size)) new' := by
 unfold srcCells at h
 split at h
 ·rename_i n0 cap
  obtain ⟨h1, h2⟩ := bb_eq h
  cases h2
  have := Nat.eq_of_beq_eq_true h1
  subst this
  cases hx with
  | scal hs =>
   refine ⟨rfl, by simp, by simp, fun k hk => ?_⟩
   have : k = 0 := by omega
   subst this
   exact ⟨[], rfl, by simp; exact .nil⟩
 ·rename_i b off sp n0 cap
  obtain ⟨cs, h1, h2⟩ := ob_eq h
  cases h2
  obtain ⟨q, a, k', hq, hx', ha⟩ := rowAt_rel (p := ⟨b, off, n⟩) hx rfl
  obtain ⟨B, h10, h11⟩ := read_parts h1
  obtain ⟨h12, h13⟩ := sub_eq h11
  have hrow := hR.row b q B hq h10
  subst hx'
  have hlen : new.length = n * size := by
   have := congrArg List.length h13
   simp at this
   omega
  refine ⟨rfl, hlen, ?_, fun k hk => ?_⟩
  ·obtain ⟨_, _, _, k3⟩ := hrow.read (P := P) h11
   exact k3
  ·have hks : k * size ≤ n * size := Nat.mul_le_mul_right size hk
   obtain ⟨vs, k1, k2, k3⟩ := hrow.read (P := P) (off := off) (n := k * size) (sub_of (by omega))
   refine ⟨vs, ?_, ?_⟩
   ·rcases ha with ha | ha
    ·simp only [Builtin.firstCells]
     rw [ha]
     exact k1
    ·change n = 0 at ha
     have hk0 : k = 0 := by omega
     subst hk0
     have : vs = [] := by
      have := k2.length
      simp at this
      exact List.length_eq_zero_iff.1 this.symm
     subst this
     simp only [Builtin.firstCells, Nat.zero_mul]
     rfl
   ·have h14 : new.take (k * size) = (B.cells.drop off).take (k * size) := by
     rw [h13, List.take_take, Nat.min_eq_left hks]
    rw [h14]
    exact k2
 ·rename_i s
  obtain ⟨h1, h2⟩ := bb_eq h
  cases h2
  have hs1 := Nat.eq_of_beq_eq_true h1
  subst hs1
  cases hx with
  | scal hs =>
   have hsz : s.size = s.data.toList.length := Array.length_toList.symm
   refine ⟨by simp only [Builtin.lenOf, Sem.run_pure, hsz], by simp [bytesV], cells_of_scal (bytes_cells _), fun k hk => ⟨bytesV (s.data.toList.take k), ?_, ?_⟩⟩
   ·simp only [Builtin.firstCells, Sem.run_pure]
    congr 1
    rw [extract_bytes s 0 k hk]
    simp [bytesV]
   ·rw [Nat.mul_one]
    have : (bytesV s.data.toList).take k = bytesV (s.data.toList.take k) := by simp [bytesV]
    rw [this]
    exact VsRel.of_scal (bytes_cells _)
 ·cases h
theorem takeN_rel {n : Nat} {l r : List Value} (h : takeN n l = some r) : r = l.take n ∧ n ≤ l.length := ⟨(takeN_eq _ _ _ h).2, (takeN_eq _ _ _ h).1⟩
theorem write_nil {base : Env} {σ σ' : St} {b off : Nat} {q : Spot} (hR : Rel base ρ σ w) (hq : ρ b = some q) (h : σ.write b off [] = some σ') : Rel base ρ σ' w ∧ Fram ρ σ w ρ σ' w := by
 obtain ⟨_, w2, w3⟩ := hR.write hq h .nil (by simp)
 exact ⟨w2, w3⟩
theorem two_eq {l : List Value} {x y : Value} (h : twoV l = some (x, y)) : l = [x, y] := by
 unfold twoV at h
 split at h
 ·cases h; rfl
 ·cases h
theorem write_at {base : Env} {σ σ' : St} {b off n : Nat} {q : Spot} {a : Addr} {vs vs' : List Value} (hR : Rel base ρ σ w) (hq : ρ b = some q) (ha : a = ⟨q.c, q.o + off, none⟩ ∨ n = 0)
  (hn : n = 0 → vs = []) (h : σ.write b off vs = some σ') (hr : VsRel ρ vs vs') (hc : ∀ v ∈ vs, isCell v = true) :
  ∃ w', (storeCells a vs').run P w = .ok () w' ∧ Rel base ρ σ' w' ∧ Fram ρ σ w ρ σ' w' := by
 rcases ha with ha | ha
 ·subst ha
  obtain ⟨w1, w2, w3⟩ := hR.write hq h hr hc
  exact ⟨_, w1 P, w2, w3⟩
 ·have := hn ha
  subst this
  cases hr
  obtain ⟨w2, w3⟩ := write_nil hR hq h
  exact ⟨w, rfl, w2, w3⟩
theorem copy_sound {base : Env} {σ σ' : St} {c : Call} (ho : o.op = .call c) (hc : c.callee = .builtin .copy) (hk : Known ρ fr e o.op.operands.toList) (hR : Rel base ρ σ w)
  (h : eCopy P fr σ c = some (v, σ')) : EffOk P base ρ e o σ w σ' v := by
 obtain ⟨vs, h1, k1⟩ := ob_eq h
 obtain ⟨⟨d, s⟩, h2, k2⟩ := ob_eq k1
 obtain ⟨t, h3, k3⟩ := ob_eq (show ob (argT c) _ = some (v, σ') from k2)
 obtain ⟨el, h4, k4⟩ := ob_eq (show ob (elem? P t) _ = some (v, σ') from k3)
 obtain ⟨size, h5, k5⟩ := ob_eq k4
 obtain ⟨⟨b, off, dl⟩, h6, k6⟩ := ob_eq k5
 obtain ⟨⟨n, cs⟩, h7, k7⟩ := ob_eq (show ob (srcCells σ size s) _ = some (v, σ') from k6)
 obtain ⟨cs2, h8, k8⟩ := ob_eq (show ob (takeN (Nat.min n dl * size) cs) _ = some (v, σ') from k7)
 obtain ⟨σ2, h9, k9⟩ := ob_eq k8
 clear h k1 k2 k3 k4 k5 k6 k7 k8
 cases k9
 have hr := (args_known ho hk).evs h1
 rw [two_eq h2] at hr
 generalize hE : c.args.toList.map e = L at hr
 cases hr with
 | cons hd hs =>
 cases hs with
 | cons hs hnil =>
 cases hnil
 rename_i d' s'
 have hargs : c.args.map e = #[d', s'] := by rw [map_args, hE]
 obtain ⟨q, a, k', hq, hd', ha⟩ := rowAt_rel hd h6
 change d' = .slice (some a) dl k' at hd'
 change a = ⟨q.c, q.o + off, none⟩ ∨ dl = 0 at ha
 subst hd'
 obtain ⟨s1, s2, s3, s4⟩ := src_run (P := P) hR hs h7
 obtain ⟨new', s5, s6⟩ := s4 (Nat.min n dl) (Nat.min_le_left _ _)
 obtain ⟨rfl, s7⟩ := takeN_rel h8
 obtain ⟨w', g1, g2, g3⟩ := write_at (P := P) hR hq ha (fun h0 => by subst h0; simp) h9 s6 (fun v hv => s3 v (List.mem_of_mem_take hv))
 refine ⟨w', .value _, _, ρ, ?_, rfl, g2, g3, .scal rfl⟩
 have hm : Nat.min n dl = min n dl := rfl
 simp only [execOp, ho, resolve, hc, Sem.run_bind, Sem.run_pure, Result.andThen_ok, invoke, builtin, Builtin.copy_, argT_eq h3, hargs]
 simp [under_of (elem_of h4), s1, size_of h5, goInt]
 rw [s5]
 simp only [Result.andThen_ok, g1]
theorem clear_sound {base : Env} {σ σ' : St} {c : Call} (ho : o.op = .call c) (hc : c.callee = .builtin .clear) (hk : Known ρ fr e o.op.operands.toList) (hR : Rel base ρ σ w)
  (h : eClear P fr σ c = some (v, σ')) : EffOk P base ρ e o σ w σ' v := by
 obtain ⟨vs, h1, k1⟩ := ob_eq h
 obtain ⟨x, h2, k2⟩ := ob_eq k1
 obtain ⟨t, h3, k3⟩ := ob_eq k2
 obtain ⟨el, h4, k4⟩ := ob_eq (show ob (elem? P t) _ = some (v, σ') from k3)
 obtain ⟨z, h5, k5⟩ := ob_eq k4
 obtain ⟨⟨b, off, n⟩, h6, k6⟩ := ob_eq k5
 obtain ⟨σ2, h9, k9⟩ := ob_eq (show ob (σ.write b off (rep (cellsL z) n)) _ = some (v, σ') from k6)
 clear h k1 k2 k3 k4 k5 k6
 cases k9
 have hr := (args_known ho hk).evs h1
 rw [oneV_eq h2] at hr
 generalize hE : c.args.toList.map e = L at hr
 cases hr with
 | cons hx hs =>
 cases hs
 rename_i x'
 have hargs : c.args.map e = #[x'] := by rw [map_args, hE]
 obtain ⟨q, a, k', hq, hx', ha⟩ := rowAt_rel hx h6
 change x' = .slice (some a) n k' at hx'
 change a = ⟨q.c, q.o + off, none⟩ ∨ n = 0 at ha
 subst hx'
 obtain ⟨hz, _, _⟩ := zero_of (ρ := ρ) h5 w
 obtain ⟨zc1, zc2, zc3⟩ := zero_cells (ρ := ρ) h5
 have hrep : ∀ c ∈ Ab.rep (cellsL z) n, isCell c = true := by
  intro c hc
  obtain ⟨i, hi⟩ := List.getElem?_of_mem hc
  have hlt : i < n * (cellsL z).length := by rw [← rep_get]; exact (List.getElem?_eq_some_iff.1 hi).1
  rw [rep_mod _ _ _ hlt] at hi
  exact zc3 c (List.mem_of_getElem? hi)
 have hzr := zeros_rel zc2 n (n * z.cells.size) (by rw [zc2.length, Array.length_toList])
 obtain ⟨w', g1, g2, g3⟩ := write_at (P := P) hR hq ha (fun h0 => by subst h0; rfl) h9 hzr hrep
 refine ⟨w', .value _, _, ρ, ?_, rfl, g2, g3, .tuple .nil⟩
 have hu := elem_of h4
 by_cases h0 : n = 0
 ·subst h0
  have hw : w' = w := by
   have : ((Array.range (0 * z.cells.size)).map fun i => (⟨z.cells.toList⟩ : Array Value)[i % (⟨z.cells.toList⟩ : Array Value).size]!).toList = [] := by simp
   rw [this] at g1
   cases g1
   rfl
  subst hw
  simp only [execOp, ho, resolve, hc, Sem.run_bind, Sem.run_pure, Result.andThen_ok, invoke, builtin, Builtin.clear_, argT_eq h3, hargs]
  simp [under_of hu]
 ·simp only [execOp, ho, resolve, hc, Sem.run_bind, Sem.run_pure, Result.andThen_ok, invoke, builtin, Builtin.clear_, argT_eq h3, hargs]
  have hg : (storeCells a (Builtin.zeroCells z.cells n).toList).run P w = .ok () w' := g1
  obtain ⟨m, rfl⟩ : ∃ m, n = m + 1 := ⟨n - 1, by omega⟩
  simp [under_of hu, hz, hg]
theorem grow_le (need : Nat) : ∀ (k c : Nat), 256 ≤ c → c < need → Builtin.growBy need k c ≤ 2 * need := by
 intro k
 induction k with
 | zero => intro c _ h; unfold Builtin.growBy; omega
 | succ k ih =>
  intro c h1 h2
  unfold Builtin.growBy
  rw [if_neg (by omega)]
  by_cases h3 : c + (c + 768) / 4 < need
  ·exact ih _ (by omega) h3
  ·cases k with
   | zero => unfold Builtin.growBy; omega
   | succ k => unfold Builtin.growBy; rw [if_pos (by omega)]; omega
theorem next_le (need cap : Nat) (h : cap < need) : Builtin.nextslicecap need cap ≤ 2 * need := by
 unfold Builtin.nextslicecap
 split
 ·omega
 ·split
  ·omega
  ·exact grow_le need 4 cap (by omega) h
end
end Go.Ab
namespace Go.Ab
open Go
section
variable {P : Program} {ρ : Place} {fr : Fr} {e : Operand → Value} {o : Oper} {w : World} {v : Value}
theorem Rel.heap {base : Env} {σ : St} {w w' : World} (h : Rel base ρ σ w) (hw : w'.heap = w.heap) : Rel base ρ σ w' :=
  ⟨h.fresh, fun b q B h1 h2 => (h.sits b q B h1 h2).mono (Place.le_refl _) (by rw [hw]), fun b q h1 => by rw [hw]; exact h.dom b q h1, h.own, h.sep, by rw [hw]; exact h.low⟩
theorem notInt_eq {d : Option TypeDesc} (h : notInt d = true) : ∃ d', d = some d' ∧ notInt (some d') = true := by
  cases d with
  | none => cases h
  | some d => exact ⟨d, rfl, h⟩
theorem argT2_eq {c : Call} {t : TypeId} (h : argT2 c = some t) : c.argTypes[1]? = some t := by
  unfold argT2 at h
  split at h
  · rename_i u u2 r hu
    cases h
    have := congrArg (fun l : List TypeId => l[1]?) hu
    simpa using this
  · cases h
theorem append_in_run {ts : Array TypeId} {ty t t2 el : TypeId} {i : TypeInfo} {d2 : TypeDesc} {base' : Option Addr} {len cap' n : Nat} {x' : Value} {new' : Array Value} {w' : World}
    (h0 : ts[0]? = some t) (h1 : ts[1]? = some t2) (hu : P.underlying t = some (.slice el)) (hu2 : P.underlying t2 = some d2) (hd2 : notInt (some d2) = true) (hi : P.info? el = some i)
    (hn : (Builtin.lenOf x').run P w = .ok n w) (hx : (Builtin.firstCells i.size n x').run P w = .ok new' w) (hle : len + n ≤ cap')
    (hst : match base' with | some a => (storeCells (a.add (len * i.size)) new'.toList).run P w = .ok () w' | none => w' = w) :
    (Builtin.append_ ts ty #[.slice base' len cap', x']).run P w = .ok (.slice base' (len + n) cap') w' := by
  have hso : (sizeOf el).run P w = .ok i.size w := by simp [sizeOf, typeInfo, hi]
  have a0 : (#[Value.slice base' len cap', x'] : Array Value)[0]? = some (.slice base' len cap') := rfl
  have a1 : (#[Value.slice base' len cap', x'] : Array Value)[1]? = some x' := rfl
  unfold Builtin.append_
  simp only [h0, h1, a0, a1, Sem.run_bind, under_of hu, Result.andThen_ok, hso, under_of hu2, Sem.run_pure]
  cases base' with
  | none =>
    subst hst
    cases d2 <;> first
      | (cases hd2; done)
      | (simp only [Bool.false_eq_true, if_false, Sem.run_bind, hn, Result.andThen_ok, Sem.run_ite, if_pos hle, Bool.not_false, if_true, hx, Sem.run_pure])
  | some a =>
    cases d2 <;> first
      | (cases hd2; done)
      | (simp only [Bool.false_eq_true, if_false, Sem.run_bind, hn, Result.andThen_ok, Sem.run_ite, if_pos hle, Bool.not_false, if_true, hx, hst, Sem.run_pure])
theorem append_new_run {ts : Array TypeId} {ty t t2 el : TypeId} {i : TypeInfo} {d2 : TypeDesc} {base' : Option Addr} {len cap' n : Nat} {x' z : Value} {old' new' : Array Value}
    (h0 : ts[0]? = some t) (h1 : ts[1]? = some t2) (hu : P.underlying t = some (.slice el)) (hu2 : P.underlying t2 = some d2) (hd2 : notInt (some d2) = true) (hi : P.info? el = some i) (hz : i.zero = some z)
    (hn : (Builtin.lenOf x').run P w = .ok n w) (hold : (Builtin.firstCells i.size len (.slice base' len cap')).run P w.drew = .ok old' w.drew) (hx : (Builtin.firstCells i.size n x').run P w.drew = .ok new' w.drew)
    (hlt : cap' < len + n) (hroom : (len + n) * (i.bytes + 1) ≤ room) :
    ∃ K, len + n ≤ K ∧ (Builtin.append_ ts ty #[.slice base' len cap', x']).run P w =
      .ok (.slice (some ⟨w.heap.size, 0, none⟩) (len + n) K) { w.drew with heap := w.heap.push (.cells (old' ++ new' ++ Builtin.zeroCells z.cells (K - (len + n))) el) } := by
  have hso : ∀ w, (sizeOf el).run P w = .ok i.size w := fun w => by simp [sizeOf, typeInfo, hi]
  have hzo : ∀ w, (zeroValue el).run P w = .ok z w := fun w => by simp [zeroValue, typeInfo, hi, hz]
  have a0 : (#[Value.slice base' len cap', x'] : Array Value)[0]? = some (.slice base' len cap') := rfl
  have a1 : (#[Value.slice base' len cap', x'] : Array Value)[1]? = some x' := rfl
  refine ⟨(Question.appendCap (len + n) cap' el).cut (w.tape w.drawn (.appendCap (len + n) cap' el)), Nat.le_add_right _ _, ?_⟩
  have hf : (Question.appendCap (len + n) cap' el).forced = false := rfl
  generalize hK : (Question.appendCap (len + n) cap' el).cut (w.tape w.drawn (.appendCap (len + n) cap' el)) = K
  unfold room at hroom
  have hb1 : len + n ≤ 4294967296 := Nat.le_trans (Nat.le_mul_of_pos_right _ (by omega)) hroom
  have hb2 : (len + n) * i.bytes ≤ 4294967296 := Nat.le_trans (Nat.mul_le_mul_left _ (by omega)) hroom
  have hc1 : ¬ (((len + n : Nat) : Int) > IntKind.i64.max) := by
    have e3 : IntKind.i64.max = 9223372036854775807 := by decide
    rw [e3]; omega
  have hc2 : ¬ (Builtin.nextslicecap (len + n) cap' * i.bytes > 2 ^ 48) := by
    have p48 : (2 : Nat) ^ 48 = 281474976710656 := by decide
    have h3 := next_le (len + n) cap' hlt
    have h4 : Builtin.nextslicecap (len + n) cap' * i.bytes ≤ 2 * (len + n) * i.bytes := Nat.mul_le_mul_right _ h3
    rw [Nat.mul_assoc] at h4
    rw [p48]; omega
  have hcc : ∀ (p : Prop), ¬ (((len + n : Nat) : Int) > IntKind.i64.max ∧ p) := fun p h => hc1 h.1
  unfold Builtin.append_
  simp only [h0, h1, a0, a1, Sem.run_bind, under_of hu, Result.andThen_ok, hso, under_of hu2, Sem.run_pure]
  cases d2 <;> first
    | (cases hd2; done)
    | (simp only [Bool.false_eq_true, if_false, Sem.run_bind, hn, Result.andThen_ok, Sem.run_ite, if_neg (Nat.not_le.2 hlt), Bool.not_false, if_true, info_of hi, if_neg (hcc _), if_neg hc2, run_choose, hf, hK, run_askRoom, World.drew_eq, hold, hx, hzo, newRow, run_newObj, Sem.run_pure]
       rfl)
theorem zeroCells_len (zero : Array Value) (n : Nat) : (Builtin.zeroCells zero n).size = n * zero.size := by simp [Builtin.zeroCells]
theorem fresh_row {base : Env} {σ : St} {old new old' new' : List Value} {rest : Array Value} {el : TypeId} {n K size : Nat} (hR : Rel base ρ σ w) (hf : ρ σ.n = none)
    (ho : VsRel ρ old old') (hn : VsRel ρ new new') (co : ∀ v ∈ old, isCell v = true) (cn : ∀ v ∈ new, isCell v = true) (hK : n ≤ K) (hsz : K * size ≤ old'.length + new'.length + rest.size) :
    ∃ ρ', Rel base ρ' (σ.new (old ++ new)) { w.drew with heap := w.heap.push (.cells (old'.toArray ++ new'.toArray ++ rest) el) } ∧
      Fram ρ σ w ρ' (σ.new (old ++ new)) { w.drew with heap := w.heap.push (.cells (old'.toArray ++ new'.toArray ++ rest) el) } ∧
      VRel ρ' (.slice (some ⟨σ.n, 0, some size⟩) n n) (.slice (some ⟨w.heap.size, 0, none⟩) n K) := by
  obtain ⟨g1, g2⟩ := hR.new (w' := { w.drew with heap := w.heap.push (.cells (old'.toArray ++ new'.toArray ++ rest) el) }) hf (cs := old ++ new) (arr := old'.toArray ++ new'.toArray ++ rest) (e := el) (lo := 0) (hi := 0)
    (by simp) (by simp) (fun c hc => by simp [Array.getElem?_push]; intro h; omega) ⟨rfl, rfl, rfl⟩ (.inr (Nat.le_refl _))
    (fun v hv => by rcases List.mem_append.1 hv with hv | hv; exact co v hv; exact cn v hv) ⟨old' ++ new', rest.toList, by simp, VsRel.append hn ho⟩
  exact ⟨_, g1, g2, .grow (q := ⟨w.heap.size, 0, _⟩) (Place.put_same _ _ _) hK (by show 0 + 0 + K * size ≤ _; simp only [Array.size_append, List.size_toArray]; omega)⟩
theorem append_sound {base : Env} {N : Nat} {σ σ' : St} {c : Call} (ho : o.op = .call c) (hc : c.callee = .builtin .append) (hk : Known ρ fr e o.op.operands.toList) (hR : Rel base ρ σ w)
    (hF : Free ρ σ.n N) (hN : σ'.n ≤ N) (h : eAppend P fr σ c = some (v, σ')) : EffOk P base ρ e o σ w σ' v := by
  obtain ⟨vs, h1, k1⟩ := ob_eq h
  obtain ⟨⟨s, x⟩, h2, k2⟩ := ob_eq k1
  obtain ⟨t, h3, k3⟩ := ob_eq (show ob (argT c) _ = some (v, σ') from k2)
  obtain ⟨t2, h4, k4⟩ := ob_eq k3
  obtain ⟨h5, k5⟩ := bb_eq k4
  obtain ⟨el, h6, k6⟩ := ob_eq (show ob (elem? P t) _ = some (v, σ') from k5)
  obtain ⟨i, h7, k7⟩ := ob_eq k6
  clear h k1 k2 k3 k4 k5 k6
  obtain ⟨d2, hu2, hd2⟩ := notInt_eq h5
  have hu := elem_of h6
  have hr := (args_known ho hk).evs h1
  rw [two_eq h2] at hr
  generalize hE : c.args.toList.map e = L at hr
  cases hr with
  | cons hs hr =>
  cases hr with
  | cons hx hnil =>
  cases hnil
  rename_i s' x'
  have hargs : c.args.map e = #[s', x'] := by rw [map_args, hE]
  have hexec : ∀ (r : Value) (w' : World), (∀ ty, (Builtin.append_ c.argTypes ty #[s', x']).run P w = .ok r w') → (execOp e o).run P w = .ok (.value r) w' := by
    intro r w' hh
    simp only [execOp, ho, resolve, hc, Sem.run_bind, Sem.run_pure, Result.andThen_ok, invoke, builtin, hargs, hh]
  split at k7
  · rename_i bs len cap
    obtain ⟨⟨n, new⟩, h8, k8⟩ := ob_eq k7
    obtain ⟨h9, k9⟩ := bb_eq (show bb (Nat.ble 1 i.size) _ = some (v, σ') from k8)
    clear k7 k8
    have hsize := Nat.le_of_ble_eq_true h9
    obtain ⟨s1, s2, s3, s4⟩ := src_run (P := P) hR hx h8
    obtain ⟨new', s5, s6⟩ := s4 n (Nat.le_refl _)
    rw [← s2, List.take_length] at s6
    cases hle : Nat.ble (len + n) cap with
    | true =>
      rw [hle] at k9
      have hle' := Nat.le_of_ble_eq_true hle
      change appendIn σ i.size bs len cap n new = some (v, σ') at k9
      unfold appendIn at k9
      split at k9
      · rename_i b off sp
        obtain ⟨σ2, h10, k10⟩ := ob_eq k9
        cases k10
        cases hs with
        | slice hq =>
          obtain ⟨w1, w2, w3⟩ := hR.write hq h10 s6 s3
          refine ⟨_, .value _, _, ρ, hexec _ _ fun ty => append_in_run (argT_eq h3) (argT2_eq h4) hu hu2 hd2 h7 s1 s5 hle' ?_, rfl, w2, w3, .slice hq⟩
          simp only [addr_add]
          rw [show ∀ q : Spot, q.o + off + len * i.size = q.o + (off + len * i.size) from fun q => Nat.add_assoc _ _ _]
          exact w1 P
        | grow hq hkk hm =>
          obtain ⟨w1, w2, w3⟩ := hR.write hq h10 s6 s3
          refine ⟨_, .value _, _, ρ, hexec _ _ fun ty => append_in_run (argT_eq h3) (argT2_eq h4) hu hu2 hd2 h7 s1 s5 (Nat.le_trans hle' hkk) ?_, rfl, w2, w3, .grow hq hkk hm⟩
          simp only [addr_add]
          rw [show ∀ q : Spot, q.o + off + len * i.size = q.o + (off + len * i.size) from fun q => Nat.add_assoc _ _ _]
          exact w1 P
        | slice0 hq =>
          have hn0 : n = 0 := by omega
          subst hn0
          have hnew : new = [] := List.length_eq_zero_iff.1 (by rw [s2, Nat.zero_mul])
          subst hnew
          cases s6
          obtain ⟨w2, w3⟩ := write_nil hR hq h10
          refine ⟨w, .value _, _, ρ, hexec _ _ fun ty => append_in_run (argT_eq h3) (argT2_eq h4) hu hu2 hd2 h7 s1 s5 hle' ?_, rfl, w2, w3, .slice0 hq⟩
          rfl
        | scal hsc => simp [scal] at hsc
      · obtain ⟨h10, k10⟩ := bb_eq k9
        cases k10
        have h0 := Nat.eq_of_beq_eq_true h10
        cases hs with
        | scal hsc =>
          have hl : len = 0 := by omega
          have hn0 : n = 0 := by omega
          have hca : cap = 0 := by omega
          subst hl hn0 hca
          refine ⟨w, .value _, _, ρ, hexec _ _ fun ty => append_in_run (argT_eq h3) (argT2_eq h4) hu hu2 hd2 h7 s1 s5 hle' rfl, rfl, hR, .refl _ _ _, .scal rfl⟩
    | false =>
      rw [hle] at k9
      have hlt : cap < len + n := by
        rcases Nat.lt_or_ge cap (len + n) with hh | hh
        · exact hh
        · rw [Nat.ble_eq_true_of_le hh] at hle; cases hle
      obtain ⟨h10, k10⟩ := bb_eq (show bb _ _ = some (v, σ') from k9)
      have hroom := Nat.le_of_ble_eq_true h10
      obtain ⟨z, h11, k11⟩ := ob_eq k10
      obtain ⟨h12, k12⟩ := bb_eq k11
      clear k9 k10 k11
      have hzs := Nat.eq_of_beq_eq_true h12
      obtain ⟨_, _, i', hi', hzi⟩ := zero_of (ρ := ρ) h11 w
      rw [h7] at hi'
      cases hi'
      obtain ⟨zc1, zc2, _⟩ := zero_cells (ρ := ρ) h11
      have hzsz : z.cells.size = i.size := by rw [← hzs, zc1, Array.length_toList]
      have hRd : Rel base ρ σ w.drew := hR.heap rfl
      obtain ⟨t1, t2', t3, t4⟩ := src_run (P := P) hRd hx h8
      obtain ⟨newd, t5, t6⟩ := t4 n (Nat.le_refl _)
      rw [← t2', List.take_length] at t6
      have hnl := t6.length
      have restsz : ∀ K, len + n ≤ K → (Builtin.zeroCells z.cells (K - (len + n))).size = (K - (len + n)) * i.size := by intro K _; rw [zeroCells_len, hzsz]
      have sumsz : ∀ K, len + n ≤ K → K * i.size = len * i.size + n * i.size + (K - (len + n)) * i.size := by
        intro K hK
        rw [← Nat.add_mul, ← Nat.add_mul]; congr 1; omega
      unfold appendNew at k12
      split at k12
      · obtain ⟨h13, k13⟩ := bb_eq k12
        cases k13
        have hl := Nat.eq_of_beq_eq_true h13
        subst hl
        cases hs with
        | scal hsc =>
          have hcap : cap = 0 := by
            cases cap with
            | zero => rfl
            | succ k => cases hsc
          subst hcap
          obtain ⟨K, hK, hrun⟩ := append_new_run (ts := c.argTypes) (ty := o.type) (P := P) (w := w) (base' := none) (argT_eq h3) (argT2_eq h4) hu hu2 hd2 h7 hzi s1 (old' := #[]) rfl t5 hlt hroom
          have hrun' : ∀ ty, (Builtin.append_ c.argTypes ty #[.slice none 0 0, x']).run P w = _ := fun ty => hrun
          obtain ⟨ρ', g1, g2, g3⟩ := fresh_row (base := base) (el := el) (size := i.size) (n := n) (K := K) (old := []) (old' := []) (rest := Builtin.zeroCells z.cells (K - (0 + n))) hR (hF σ.n (Nat.le_refl _) (Nat.lt_of_lt_of_le (Nat.lt_succ_self _) hN)) .nil t6 (by simp) t3 (by omega)
            (by rw [restsz K hK, sumsz K hK]; simp only [List.length_nil]; omega)
          exact ⟨_, .value _, _, ρ', hexec _ _ hrun', rfl, g1, g2, by rw [Nat.zero_add]; exact g3⟩
      · rename_i b off
        obtain ⟨old, h13, k13⟩ := ob_eq k12
        cases k13
        have hfree : ρ σ.n = none := hF σ.n (Nat.le_refl _) (Nat.lt_of_lt_of_le (Nat.lt_succ_self _) hN)
        obtain ⟨B, hB, hsub⟩ := read_parts h13
        obtain ⟨hsl, hse⟩ := sub_eq hsub
        have holen : old.length = len * i.size := by have := congrArg List.length hse; simp at this; omega
        have fin : ∀ (q : Spot) (a : Addr) (cap' : Nat), ρ b = some q → s' = .slice (some a) len cap' → (a = ⟨q.c, q.o + off, none⟩ ∨ len = 0) → cap' < len + n → EffOk P base ρ e o σ w (σ.new (old ++ new)) (.slice (some ⟨σ.n, 0, some i.size⟩) (len + n) (len + n)) := by
          intro q a cap' hq hs' ha hlt'
          subst hs'
          obtain ⟨ovs, o1, o2, o3⟩ := (hRd.row b q B hq hB).read (P := P) hsub
          have hld : (Builtin.firstCells i.size len (.slice (some a) len cap')).run P w.drew = .ok ovs.toArray w.drew := by
            rcases ha with ha | ha
            · subst ha; exact o1
            · subst ha
              have : ovs = [] := by have := o2.length; simp at holen; rw [holen] at this; exact List.length_eq_zero_iff.1 this.symm
              subst this
              simp only [Builtin.firstCells, Nat.zero_mul]; rfl
          obtain ⟨K, hK, hrun⟩ := append_new_run (ts := c.argTypes) (ty := o.type) (P := P) (w := w) (argT_eq h3) (argT2_eq h4) hu hu2 hd2 h7 hzi s1 hld t5 hlt' hroom
          have hrun' : ∀ ty, (Builtin.append_ c.argTypes ty #[.slice (some a) len cap', x']).run P w = _ := fun ty => hrun
          have hol := o2.length
          obtain ⟨ρ', g1, g2, g3⟩ := fresh_row (base := base) (el := el) (size := i.size) (n := len + n) (K := K) (rest := Builtin.zeroCells z.cells (K - (len + n))) hR hfree o2 t6 o3 t3 hK
            (by rw [restsz K hK, sumsz K hK]; omega)
          exact ⟨_, .value _, _, ρ', hexec _ _ hrun', rfl, g1, g2, g3⟩
        cases hs with
        | slice hq => exact fin _ _ _ hq rfl (.inl rfl) hlt
        | slice0 hq => exact fin _ _ _ hq rfl (.inr rfl) hlt
        | scal hsc => simp [scal] at hsc
      · rename_i b off sz
        obtain ⟨h13, k13⟩ := bb_eq k12
        obtain ⟨old, h14, k14⟩ := ob_eq k13
        obtain ⟨σ1, h15, k15⟩ := ob_eq k14
        cases k15
        have hszz := Nat.eq_of_beq_eq_true h13
        subst hszz
        have hn1 : σ1.n = σ.n := by obtain ⟨_, _, _, rfl⟩ := kill_facts h15; rfl
        have hfree : ρ σ.n = none := hF σ.n (Nat.le_refl _) (by have : (σ1.new (old ++ new)).n = σ1.n + 1 := rfl; omega)
        obtain ⟨B, hB, hsub⟩ := read_parts h14
        obtain ⟨hsl, hse⟩ := sub_eq hsub
        have holen : old.length = len * i.size := by have := congrArg List.length hse; simp at this; omega
        have fin : ∀ (q : Spot) (a : Addr) (cap' : Nat), ρ b = some q → s' = .slice (some a) len cap' → (a = ⟨q.c, q.o + off, none⟩ ∨ len = 0) → cap' < len + n → EffOk P base ρ e o σ w (σ1.new (old ++ new)) (.slice (some ⟨σ1.n, 0, some i.size⟩) (len + n) (len + n)) := by
          intro q a cap' hq hs' ha hlt'
          subst hs'
          obtain ⟨ovs, o1, o2, o3⟩ := (hRd.row b q B hq hB).read (P := P) hsub
          have hld : (Builtin.firstCells i.size len (.slice (some a) len cap')).run P w.drew = .ok ovs.toArray w.drew := by
            rcases ha with ha | ha
            · subst ha; exact o1
            · subst ha
              have : ovs = [] := by have := o2.length; simp at holen; rw [holen] at this; exact List.length_eq_zero_iff.1 this.symm
              subst this
              simp only [Builtin.firstCells, Nat.zero_mul]; rfl
          obtain ⟨K, hK, hrun⟩ := append_new_run (ts := c.argTypes) (ty := o.type) (P := P) (w := w) (argT_eq h3) (argT2_eq h4) hu hu2 hd2 h7 hzi s1 hld t5 hlt' hroom
          have hrun' : ∀ ty, (Builtin.append_ c.argTypes ty #[.slice (some a) len cap', x']).run P w = _ := fun ty => hrun
          have hol := o2.length
          obtain ⟨hk1, hk2⟩ := hR.kill ⟨q, hq⟩ h15
          obtain ⟨ρ', g1, g2, g3⟩ := fresh_row (base := base) (el := el) (size := i.size) (n := len + n) (K := K) (rest := Builtin.zeroCells z.cells (K - (len + n))) hk1 (by rw [hn1]; exact hfree) o2 t6 o3 t3 hK
            (by rw [restsz K hK, sumsz K hK]; omega)
          exact ⟨_, .value _, _, ρ', hexec _ _ hrun', rfl, g1, hk2.trans g2, g3⟩
        cases hs with
        | grow hq hkk hm =>
          rename_i k' q
          by_cases hin : len + n ≤ k'
          · rw [← holen] at h14
            have hmm : q.o + off + old.length + new.length ≤ q.m := by
              have : (len + n) * i.size ≤ k' * i.size := Nat.mul_le_mul_right _ hin
              rw [Nat.add_mul] at this
              omega
            obtain ⟨g1, g2, g3⟩ := hR.grow hfree hq h14 h15 s6 s3 hmm
            refine ⟨_, .value _, _, _, hexec _ _ fun ty => append_in_run (argT_eq h3) (argT2_eq h4) hu hu2 hd2 h7 s1 s5 hin ?_, rfl, g2, g3, ?_⟩
            · simp only [addr_add, ← holen]
              exact g1 P
            · rw [hn1]
              exact .grow (q := ⟨q.c, q.o + off, q.m⟩) (off := 0) (Place.put_same _ _ _) hin (by show q.o + off + 0 + k' * i.size ≤ q.m; omega)
          · exact fin _ _ _ hq rfl (.inl rfl) (by omega)
        | slice0 hq => exact fin _ _ _ hq rfl (.inr rfl) hlt
        | scal hsc => simp [scal] at hsc
  · cases k7
end
end Go.Ab
namespace Go.Ab
open Go
theorem setK_blk_same (σ : St) (b : Nat) {B : Blk} (hl : B.live = true) : (⟨σ.h.set b B, σ.n⟩ : St).blk b = some B := blk_of (Tr.get_set_same _ _ _) hl
theorem setK_blk_ne (σ : St) {b b' : Nat} (B : Blk) (h : b' ≠ b) : (⟨σ.h.set b B, σ.n⟩ : St).blk b' = σ.blk b' := by
 show ob ((σ.h.set b B).get b') _ = _
 rw [Tr.get_set_ne _ _ h]; rfl
theorem Rel.set {base : Env} {ρ : Place} {σ : St} {w w' : World} (h : Rel base ρ σ w) {b : Nat} {q : Spot} {B B' : Blk} (hb : ρ b = some q) (hB : σ.blk b = some B) (hO : B.own = true) (hl : B'.live = true) (hO' : B'.own = true)
  (hw : ∀ c, c ≠ q.c → w'.heap[c]? = w.heap[c]?) (hs : w'.heap.size = w.heap.size) (ho : Outside w w') (hsit : Sits base ρ w' q B') :
  Rel base ρ ⟨σ.h.set b B', σ.n⟩ w' ∧ Fram ρ σ w ρ ⟨σ.h.set b B', σ.n⟩ w' := by
 refine ⟨⟨?_, ?_, ?_, ?_, ?_, ?_⟩, ⟨?_, ?_, ?_, ?_, ?_, ho, fun b' _ hn => Tr.get_set_ne _ _ (by intro he; subst he; rw [hb] at hn; cases hn)⟩⟩
 ·intro b' hb'
  have := h.lt hB
  change σ.n ≤ b' at hb'
  show (σ.h.set b _).get b' = none
  rw [Tr.get_set_ne _ _ (by omega)]; exact h.fresh b' hb'
 ·intro b' q' B2 hb' hB'
  by_cases hbb : b' = b
  ·subst hbb
   rw [hb] at hb'; cases hb'
   rw [setK_blk_same _ _ hl] at hB'; cases hB'
   exact hsit
  ·rw [setK_blk_ne _ _ hbb] at hB'
   exact (h.sits b' q' B2 hb' hB').mono (Place.le_refl _) (hw q'.c (h.sep b q B b' q' hb hB hO hbb hb' (.inr ⟨B2, hB'⟩)))
 ·intro b' q' hb'; rw [hs]; exact h.dom b' q' hb'
 ·intro b' q' B2 hb' hB' hO2
  by_cases hbb : b' = b
  ·subst hbb; rw [hb] at hb'; cases hb'; exact h.own b' q B hb hB hO
  ·rw [setK_blk_ne _ _ hbb] at hB'; exact h.own b' q' B2 hb' hB' hO2
 ·intro b1 q1 B1 b2 q2 k1 k2 k3 k4 k5 k6
  have hl1 : ∃ B0, σ.blk b1 = some B0 ∧ B0.own = true := by
   by_cases hbb : b1 = b
   ·subst hbb; exact ⟨B, hB, hO⟩
   ·rw [setK_blk_ne _ _ hbb] at k2; exact ⟨B1, k2, k3⟩
  obtain ⟨B0, j1, j2⟩ := hl1
  refine h.sep b1 q1 B0 b2 q2 k1 j1 j2 k4 k5 ?_
  rcases k6 with k6 | ⟨B2, k6⟩
  ·exact .inl k6
  ·by_cases hbb : b2 = b
   ·subst hbb; exact .inr ⟨B, hB⟩
   ·rw [setK_blk_ne _ _ hbb] at k6; exact .inr ⟨B2, k6⟩
 ·rw [hs]; exact h.low
 ·intro _ _; rfl
 ·exact Nat.le_refl _
 ·omega
 ·intro c' _ hno
  refine hw c' fun he => ?_
  rw [hno b q B hb he.symm hB] at hO; cases hO
 ·intro b' q' B2 hb' hB' _
  by_cases hbb : b' = b
  ·subst hbb; rw [hb] at hb'; cases hb'; exact ⟨b', q, B, hb, rfl, hB, fun _ => hO⟩
  ·rw [setK_blk_ne _ _ hbb] at hB'; exact ⟨b', q', B2, hb', rfl, hB', fun h => h⟩
theorem Rel.newK {base : Env} {ρ : Place} {σ : St} {w w' : World} (h : Rel base ρ σ w) (hf : ρ σ.n = none) {cs : List Value} {k : Kind} {c : Nat}
  (hc : w.heap.size ≤ c) (hc' : c < w'.heap.size) (hs : w.heap.size ≤ w'.heap.size) (hold : ∀ c, c < w.heap.size → w'.heap[c]? = w.heap[c]?) (ho : Outside w w')
  (hsit : Sits base (ρ.put σ.n ⟨c, 0, 0⟩) w' ⟨c, 0, 0⟩ ⟨cs, true, true, 0, k⟩) :
  Rel base (ρ.put σ.n ⟨c, 0, 0⟩) (σ.newK cs k) w' ∧ Fram ρ σ w (ρ.put σ.n ⟨c, 0, 0⟩) (σ.newK cs k) w' := by
 refine ⟨h.putK hf hsit hs (fun c hc _ => hold c hc) hc' (by have := h.low; show base.lo ≤ c; omega) (fun b q' hb _ => by have := h.dom b q' hb; show q'.c ≠ c; omega), ⟨?_, ?_, ?_, ?_, ?_, ho, fun b h1 _ => Tr.get_set_ne _ _ (by omega)⟩⟩
 ·intro b hb
  refine Place.put_ne _ _ ?_
  rcases hb with hb | hb
  ·omega
  ·change σ.n + 1 ≤ b at hb; omega
 ·show σ.n ≤ σ.n + 1; omega
 ·exact hs
 ·intro c hc' _; exact hold c hc'
 ·intro b q B hb hB hcs
  by_cases hbn : b = σ.n
  ·subst hbn; rw [Place.put_same] at hb; cases hb; change c < w.heap.size at hcs; omega
  ·rw [Place.put_ne _ _ hbn] at hb; rw [newK_blk_ne _ _ _ hbn] at hB; exact ⟨b, q, B, hb, rfl, hB, fun h => h⟩
end Go.Ab
namespace Go.Ab
open Go Go.MapKept
section
variable {P : Program} {ρ : Place} {fr : Fr} {e : Operand → Value} {o : Oper} {w : World} {v : Value}
theorem str_beq (a b : ByteArray) : beqL a.data.toList b.data.toList = (a == b) := by
 rw [beqL_iff]
 by_cases h : a = b
 ·subst h; rw [(bytes_beq a a).2 rfl]; simp
 ·have h1 : (a == b) = false := by
   cases hh : (a == b) with
   | false => rfl
   | true => exact absurd ((bytes_beq a b).1 hh) h
  rw [h1]
  rw [beq_eq_false_iff_ne]
  intro hl
  apply h
  obtain ⟨⟨x⟩⟩ := a
  obtain ⟨⟨y⟩⟩ := b
  cases hl
  rfl
theorem keyOk_flat {d : Option TypeDesc} {k : Value} (h : keyOk d k = true) : flat k = true ∧ scal k = true ∧ ∃ d', d = some d' ∧ IsKey d' k := by
 unfold keyOk at h
 split at h
 ·split at h
  ·exact ⟨rfl, rfl, _, rfl, by simp [IsKey]⟩
  ·cases h
 ·split at h
  ·have := keq_eq h
   subst this
   exact ⟨rfl, rfl, _, rfl, by simp [IsKey]⟩
  ·cases h
 ·cases h
theorem ksame_now {d : TypeDesc} {k y : Value} {s : Bool} (hk : keyOk (some d) k = true) (h : ksame k y = some s) : Instr.sameNow d k y = some s ∧ (s = true → y = k) := by
 unfold keyOk at hk
 split at hk
 ·rename_i hd
  cases hd
  split at hk
  ·rename_i s0
   unfold ksame at h
   cases y with
   | string t =>
    cases h
    refine ⟨by simp only [Instr.sameNow]; rw [str_beq], fun ht => ?_⟩
    rw [str_beq] at ht
    rw [(bytes_beq _ _).1 ht]
   | _ => cases h
  ·cases hk
 ·rename_i ik hd
  cases hd
  split at hk
  ·rename_i jk n
   unfold ksame at h
   cases y with
   | int l m =>
    obtain ⟨h1, h2⟩ := bb_eq h
    cases h2
    have hkk := keq_eq h1
    subst hkk
    refine ⟨by simp [Instr.sameNow, ieq_iff], fun ht => ?_⟩
    rw [ieq_iff] at ht
    rw [eq_of_beq ht]
   | _ => cases h
  ·cases hk
 ·cases hk
theorem mget_now {d : TypeDesc} {k : Value} (hk : keyOk (some d) k = true) : ∀ {cells : List Value} {es : List MapEntry} {r : Option Value}, Entries ρ cells es → mget k cells = some r → ∀ i,
  (r = none → Instr.findNow d k es i = some none) ∧ ∀ v, r = some v → ∃ j v', Instr.findNow d k es i = some (some (j, v')) ∧ VRel ρ v v' := by
 intro cells es r hE
 induction hE with
 | nil =>
  intro h i
  cases h
  exact ⟨fun _ => rfl, fun v hv => by cases hv⟩
 | @cons x y en l es hx he hv hE ih =>
  intro h i
  obtain ⟨s, h1, h2⟩ := ob_eq (show ob (ksame k x) _ = some r from h)
  obtain ⟨h3, h4⟩ := ksame_now hk h1
  rw [← he] at h3
  cases s with
  | true =>
   cases h2
   refine ⟨fun hn => (by cases hn), fun v hv' => ?_⟩
   cases hv'
   exact ⟨i, en.val, by simp [Instr.findNow, h3], hv⟩
  | false =>
   obtain ⟨g1, g2⟩ := ih h2 (i + 1)
   refine ⟨fun hn => by simp [Instr.findNow, h3, g1 hn], fun v hv' => ?_⟩
   obtain ⟨j, v', k1, k2⟩ := g2 v hv'
   exact ⟨j, v', by simp [Instr.findNow, h3, k1], k2⟩
theorem mset_now {d : TypeDesc} {k u u' : Value} (hk : keyOk (some d) k = true) (hu : VRel ρ u u') : ∀ {cells cells' : List Value} {es : List MapEntry}, Entries ρ cells es → mset k u cells = some cells' → ∀ i,
  (Instr.findNow d k es i = some none ∧ ∀ born, Entries ρ cells' (es ++ [⟨k, u', born⟩])) ∨
  ∃ j v' en, Instr.findNow d k es i = some (some (i + j, v')) ∧ es[j]? = some en ∧ en.key = k ∧ Entries ρ cells' (es.modify j fun en => { en with key := k, val := u' }) := by
 intro cells cells' es hE
 induction hE generalizing cells' with
 | nil =>
  intro h i
  cases h
  exact .inl ⟨rfl, fun born => .cons (keyOk_flat hk).1 rfl hu .nil⟩
 | @cons x y en l es hx he hv hE ih =>
  intro h i
  obtain ⟨s, h1, h2⟩ := ob_eq (show ob (ksame k x) _ = some cells' from h)
  obtain ⟨h3, h4⟩ := ksame_now hk h1
  rw [← he] at h3
  cases s with
  | true =>
   cases h2
   exact .inr ⟨0, en.val, en, by simp [Instr.findNow, h3], rfl, by rw [he]; exact h4 rfl, .cons (keyOk_flat hk).1 rfl hu hE⟩
  | false =>
   obtain ⟨r, h5, h6⟩ := ob_eq (show ob (mset k u l) _ = some cells' from h2)
   cases h6
   rcases ih h5 (i + 1) with ⟨g1, g2⟩ | ⟨j, v', en', g1, g2, g3, g4⟩
   ·exact .inl ⟨by simp [Instr.findNow, h3, g1], fun born => .cons hx he hv (g2 born)⟩
   ·exact .inr ⟨j + 1, v', en', by simp [Instr.findNow, h3, g1]; omega, by simpa using g2, g3, by simpa using Entries.cons hx he hv g4⟩
theorem map_rel {v v' : Value} {a : Option Nat} (h : VRel ρ v v') (hm : map? v = some a) : (a = none ∧ v' = .map none) ∨ ∃ b q, a = some b ∧ ρ b = some q ∧ v' = .map (some q.c) := by
 unfold map? at hm
 split at hm
 ·cases hm
  cases h with
  | scal hs =>
   cases a with
   | none => exact .inl ⟨rfl, rfl⟩
   | some b => simp [scal] at hs
  | map hq => exact .inr ⟨_, _, rfl, hq, rfl⟩
 ·cases hm
theorem mapT_eq {t kt el : TypeId} (h : mapT? P t = some (kt, el)) : P.underlying t = some (.map kt el) := by
 unfold mapT? at h
 split at h
 ·cases h; assumption
 ·cases h
theorem key_run {d : TypeDesc} {kt : TypeId} {k : Value} (hd : P.underlying kt = some d) (hk : IsKey d k) (em : Bool) : (Instr.checkKey em 10000 kt k).run P w = .ok () w := run_checkKey hd hk em 9999
theorem findKey_run {d : TypeDesc} {kt : TypeId} {k : Value} {es : List MapEntry} {r : Option (Nat × Value)} (hd : P.underlying kt = some d) (h : Instr.findNow d k es 0 = some r) : (Instr.findKey kt k es).run P w = .ok r w := by
 simp only [Instr.findKey, Sem.run_bind, under_of hd, Result.andThen_ok, h, Sem.run_pure]
theorem lookup_sound {base : Env} {σ σ' : St} {t : TypeId} {x ix : Operand} {ok : Bool} (ho : o.op = .lookup t x ix ok) (hk : Known ρ fr e o.op.operands.toList) (hR : Rel base ρ σ w)
  (h : eLookup P fr σ t x ix ok = some (v, σ')) : EffOk P base ρ e o σ w σ' v := by
 obtain ⟨⟨kt, el⟩, h1, k1⟩ := ob_eq h
 obtain ⟨m, h2, k2⟩ := ob_eq (show ob (ev fr x) _ = some (v, σ') from k1)
 obtain ⟨a, h3, k3⟩ := ob_eq k2
 obtain ⟨k, h4, k4⟩ := ob_eq k3
 obtain ⟨h5, k5⟩ := bb_eq k4
 obtain ⟨cs, h6, k6⟩ := ob_eq k5
 obtain ⟨r, h7, k7⟩ := ob_eq k6
 obtain ⟨⟨u, b⟩, h8, k8⟩ := ob_eq k7
 clear h k1 k2 k3 k4 k5 k6 k7
 cases k8
 obtain ⟨hf, hs, d, hd, hik⟩ := keyOk_flat h5
 rw [hd] at h5
 have hmap := mapT_eq h1
 have hx := hk x m (by simp [ho, Op.operands]) h2
 have hix := hk ix k (by simp [ho, Op.operands]) h4
 have hkeq := hix.flat hf
 have hfound : ∀ es : List MapEntry, Entries ρ cs es → ∃ fr', Instr.findNow d k es 0 = some fr' ∧ ∃ u', VRel ρ u u' ∧ ((fr' = none ∧ b = false ∧ (zeroValue el).run P w = .ok u' w) ∨ (b = true ∧ ∃ j, fr' = some (j, u'))) := by
  intro es hE
  obtain ⟨g1, g2⟩ := mget_now h5 hE h7 0
  cases r with
  | none =>
   obtain ⟨z, h9, h10⟩ := ob_eq (show ob (zero? P el) _ = some (u, b) from h8)
   cases h10
   exact ⟨none, g1 rfl, u, (zero_of h9 w).2.1, .inl ⟨rfl, rfl, (zero_of (ρ := ρ) h9 w).1⟩⟩
  | some v0 =>
   cases h8
   obtain ⟨j, v', g3, g4⟩ := g2 _ rfl
   exact ⟨_, g3, v', g4, .inr ⟨rfl, j, rfl⟩⟩
 have fin : ∀ u', VRel ρ u u' → VRel ρ (bi ok (.tuple ⟨[u, .bool b]⟩) u) (if ok then .tuple #[u', .bool b] else u') := by
  intro u' hur
  cases ok with
  | true => exact .tuple (.cons hur (.cons (.scal rfl) .nil))
  | false => exact hur
 rcases map_rel hx h3 with ⟨rfl, hxe⟩ | ⟨mb, q, rfl, hq, hxe⟩
 ·cases h6
  obtain ⟨fr', f1, u', f2, f3⟩ := hfound [] .nil
  refine ⟨w, .value (if ok then .tuple #[u', .bool b] else u'), _, ρ, ?_, rfl, hR, .refl _ _ _, fin u' f2⟩
  rcases f3 with ⟨rfl, rfl, f4⟩ | ⟨rfl, j, rfl⟩
  ·simp only [execOp, ho, hxe, hkeq, Instr.lookup, Sem.run_bind, under_of hmap, Result.andThen_ok, Sem.run_pure, key_run hd hik, findKey_run hd f1, f4]
  ·simp only [execOp, ho, hxe, hkeq, Instr.lookup, Sem.run_bind, under_of hmap, Result.andThen_ok, Sem.run_pure, key_run hd hik, findKey_run hd f1]
 ·obtain ⟨B, h9, h10⟩ := ob_eq (show ob (σ.mblk mb) _ = some cs from h6)
  cases h10
  obtain ⟨es, clock, h11, h12⟩ := hR.map mb q B hq h9
  obtain ⟨fr', f1, u', f2, f3⟩ := hfound es.toList h12
  refine ⟨w, .value (if ok then .tuple #[u', .bool b] else u'), _, ρ, ?_, rfl, hR, .refl _ _ _, fin u' f2⟩
  rcases f3 with ⟨rfl, rfl, f4⟩ | ⟨rfl, j, rfl⟩
  ·simp only [execOp, ho, hxe, hkeq, Instr.lookup, Sem.run_bind, under_of hmap, Result.andThen_ok, Sem.run_pure, run_getObj_map h11, key_run hd hik, findKey_run hd f1, f4]
  ·simp only [execOp, ho, hxe, hkeq, Instr.lookup, Sem.run_bind, under_of hmap, Result.andThen_ok, Sem.run_pure, run_getObj_map h11, key_run hd hik, findKey_run hd f1]
theorem wmap_facts {σ σ' : St} {b : Nat} {cs : List Value} (h : σ.wmap b cs = some σ') : ∃ B, σ.mblk b = some B ∧ B.own = true ∧ σ' = ⟨σ.h.set b ⟨cs, true, true, B.ver + 1, .map⟩, σ.n⟩ := by
 obtain ⟨B, h1, h2⟩ := ob_eq h
 obtain ⟨h3, h4⟩ := bb_eq h2
 cases h4
 exact ⟨B, h1, h3, rfl⟩
theorem mapUpdate_sound {base : Env} {σ σ' : St} {t : TypeId} {m k x : Operand} (ho : o.op = .mapUpdate t m k x ∨ o.op = .insert t m k x) (hk : Known ρ fr e o.op.operands.toList) (hR : Rel base ρ σ w)
  (h : eMapUpdate P fr σ t m k x = some (v, σ')) : EffOk P base ρ e o σ w σ' v := by
 obtain ⟨⟨kt, el⟩, h1, k1⟩ := ob_eq h
 obtain ⟨mv, h2, k2⟩ := ob_eq (show ob (ev fr m) _ = some (v, σ') from k1)
 obtain ⟨a, h3, k3⟩ := ob_eq k2
 obtain ⟨mb, h4, k4⟩ := ob_eq k3
 subst h4
 obtain ⟨kv, h5, k5⟩ := ob_eq k4
 obtain ⟨h6, k6⟩ := bb_eq k5
 obtain ⟨u, h7, k7⟩ := ob_eq k6
 obtain ⟨B, h8, k8⟩ := ob_eq k7
 obtain ⟨cs, h9, k9⟩ := ob_eq k8
 obtain ⟨σ1, h10, k10⟩ := ob_eq k9
 clear h k1 k2 k3 k4 k5 k6 k7 k8 k9
 cases k10
 obtain ⟨B', h11, h12, rfl⟩ := wmap_facts h10
 rw [h8] at h11; cases h11
 obtain ⟨hf, hs, d, hd, hik⟩ := keyOk_flat h6
 rw [hd] at h6
 have hmap := mapT_eq h1
 have hm : VRel ρ mv (e m) := hk m mv (by rcases ho with ho | ho <;> simp [ho, Op.operands]) h2
 have hkv : VRel ρ kv (e k) := hk k kv (by rcases ho with ho | ho <;> simp [ho, Op.operands]) h5
 have hu : VRel ρ u (e x) := hk x u (by rcases ho with ho | ho <;> simp [ho, Op.operands]) h7
 have hkeq := hkv.flat hf
 rcases map_rel hm h3 with ⟨h13, _⟩ | ⟨mb', q, h13, hq, hxe⟩
 ·cases h13
 ·cases h13
  obtain ⟨es, clock, h14, h15⟩ := hR.map mb q B hq h8
  have hset : ∀ (es' : Array MapEntry) (clock' : Nat), Entries ρ cs es'.toList → Rel base ρ ⟨σ.h.set mb ⟨cs, true, true, B.ver + 1, .map⟩, σ.n⟩ { w with heap := w.heap.setIfInBounds q.c (.map es' clock') } ∧
    Fram ρ σ w ρ ⟨σ.h.set mb ⟨cs, true, true, B.ver + 1, .map⟩, σ.n⟩ { w with heap := w.heap.setIfInBounds q.c (.map es' clock') } := by
   intro es' clock' hE
   refine hR.set hq (mblk_blk h8).1 h12 rfl rfl (fun c hc => Array.getElem?_setIfInBounds_ne (fun he => hc he.symm)) (by simp) ⟨rfl, rfl, rfl⟩ (.map rfl ⟨es', clock', ?_, hE⟩)
   have := hR.dom mb q hq
   simp [this]
  have hrun : ∃ es' clock', Entries ρ cs es'.toList ∧ (Instr.mapUpdate t (e m) (e k) (e x)).run P w = .ok () { w with heap := w.heap.setIfInBounds q.c (.map es' clock') } := by
   rcases mset_now h6 hu h15 h9 0 with ⟨g1, g2⟩ | ⟨j, v', en, g1, g2, g3, g4⟩
   ·refine ⟨es.push ⟨kv, e x, clock⟩, clock + 1, by simpa using g2 clock, ?_⟩
    simp only [hxe, hkeq, Instr.mapUpdate, Sem.run_bind, under_of hmap, Result.andThen_ok, run_getObj_map h14, key_run hd hik, findKey_run hd g1, run_setObj_map _ h14]
   ·refine ⟨es.modify j fun en => { en with key := kv, val := e x }, clock, by simpa using g4, ?_⟩
    have hkey : ((es[j]?).map (·.key)).getD kv = kv := by
     rw [← Array.getElem?_toList, g2]; exact g3
    have hstay : (Instr.keyThatStays kv kv).run P w = .ok kv w := by
     unfold Instr.keyThatStays
     have : Instr.sameBits 10000 kv kv = true := by
      cases d with
      | string => cases kv <;> simp_all [IsKey]; simp [Instr.sameBits, (bytes_beq _ _).2 rfl]
      | int => cases kv <;> simp_all [IsKey]; simp [Instr.sameBits]
      | bool => cases kv <;> simp_all [IsKey]; simp [Instr.sameBits]
      | _ => cases kv <;> simp [IsKey] at hik
     rw [this]; rfl
    simp only [Nat.zero_add] at g1
    simp only [hxe, hkeq, Instr.mapUpdate, Sem.run_bind, under_of hmap, Result.andThen_ok, run_getObj_map h14, key_run hd hik, findKey_run hd g1, hkey, hstay, run_setObj_map _ h14]
  obtain ⟨es', clock', hE, hrun⟩ := hrun
  obtain ⟨r1, r2⟩ := hset es' clock' hE
  refine ⟨_, .skip, undef, ρ, ?_, rfl, r1, r2, .tuple .nil⟩
  rcases ho with ho | ho
  ·simp only [execOp, ho, Sem.run_bind, hrun, Result.andThen_ok]; rfl
  ·simp only [execOp, ho, Sem.run_bind, hrun, Result.andThen_ok]; rfl
theorem makeMap_sound {base : Env} {σ σ' : St} {t : TypeId} {r : Option Operand} {N : Nat} (ho : o.op = .makeMap t r) (hR : Rel base ρ σ w) (hF : Free ρ σ.n N) (hN : σ'.n ≤ N)
  (h : eMakeMap fr σ r = some (v, σ')) : EffOk P base ρ e o σ w σ' v := by
 obtain ⟨h1, h2⟩ := bb_eq h
 cases h2
 cases r with
 | some => cases h1
 | none =>
  have hf : ρ σ.n = none := hF σ.n (Nat.le_refl _) (Nat.lt_of_lt_of_le (Nat.lt_succ_self _) hN)
  obtain ⟨r1, r2⟩ := hR.newK (w' := { w with heap := w.heap.push (.map #[] 0) }) (cs := []) (k := .map) (c := w.heap.size) hf (Nat.le_refl _) (by simp) (by simp) (fun c hc => by
   show (w.heap.push _)[c]? = _
   rw [Array.getElem?_push, if_neg (by omega)]) ⟨rfl, rfl, rfl⟩ (.map rfl ⟨#[], 0, by simp, .nil⟩)
  refine ⟨_, .value (.map (some w.heap.size)), _, _, ?_, rfl, r1, r2, .map (q := ⟨w.heap.size, 0, 0⟩) (Place.put_same _ _ _)⟩
  simp only [execOp, ho, Option.map_none, Instr.makeMap, Sem.run_bind, Sem.run_pure, run_newObj, Result.andThen_ok]
end
end Go.Ab
namespace Go.Ab
open Go
structure Adv (σ σ' : St) : Prop where
  n : σ.n ≤ σ'.n
  ver : ∀ b, b < σ.n → σ'.h.get b = σ.h.get b ∨ σ.ver b < σ'.ver b
  fresh : (∀ b, σ.n ≤ b → σ.h.get b = none) → ∀ b, σ'.n ≤ b → σ'.h.get b = none
theorem Adv.refl (σ : St) : Adv σ σ := ⟨Nat.le_refl _, fun _ _ => .inl rfl, fun h => h⟩
theorem ver_eq {σ σ' : St} {b : Nat} (h : σ'.h.get b = σ.h.get b) : σ'.ver b = σ.ver b := by unfold St.ver; rw [h]
theorem Adv.le {σ σ' : St} (h : Adv σ σ') {b : Nat} (hb : b < σ.n) : σ.ver b ≤ σ'.ver b := by
  rcases h.ver b hb with h1 | h1
  · rw [ver_eq h1]; exact Nat.le_refl _
  · omega
theorem Adv.trans {σ σ' σ'' : St} (h : Adv σ σ') (k : Adv σ' σ'') : Adv σ σ'' := by
  refine ⟨Nat.le_trans h.n k.n, fun b hb => ?_, fun hf => k.fresh (h.fresh hf)⟩
  have hb' := Nat.lt_of_lt_of_le hb h.n
  rcases k.ver b hb' with h2 | h2
  · rcases h.ver b hb with h1 | h1
    · exact .inl (h2.trans h1)
    · exact .inr (by rw [ver_eq h2]; exact h1)
  · exact .inr (Nat.lt_of_le_of_lt (h.le hb) h2)
theorem Adv.new (σ : St) (cs : List Value) (k : Kind := .row) : Adv σ (σ.newK cs k) :=
  ⟨Nat.le_succ _, fun b hb => .inl (Tr.get_set_ne _ _ (by omega)), fun hf b hb => by
    change σ.n + 1 ≤ b at hb
    show (σ.h.set σ.n _).get b = none
    rw [Tr.get_set_ne _ _ (by omega)]; exact hf b (by omega)⟩
theorem Adv.set {σ : St} {b : Nat} {B B' : Blk} (hB : σ.blk b = some B) (hv : B'.ver = B.ver + 1) : Adv σ ⟨σ.h.set b B', σ.n⟩ := by
  refine ⟨Nat.le_refl _, fun b' hb => ?_, fun hf b' hb => ?_⟩
  · by_cases hbb : b' = b
    · subst hbb
      right
      have h1 := (blk_get hB).1
      have e1 : σ.ver b' = B.ver := by unfold St.ver; rw [h1]
      have e2 : (⟨σ.h.set b' B', σ.n⟩ : St).ver b' = B'.ver := by
        show (match (σ.h.set b' B').get b' with | some B => B.ver | none => 0) = _
        rw [Tr.get_set_same]
      rw [e1, e2, hv]; omega
    · exact .inl (Tr.get_set_ne _ _ hbb)
  · change σ.n ≤ b' at hb
    show (σ.h.set b B').get b' = none
    have hbb : b' ≠ b := by
      intro he
      subst he
      have := hf b' hb
      rw [(blk_get hB).1] at this
      cases this
    rw [Tr.get_set_ne _ _ hbb]; exact hf b' hb
theorem Adv.write {σ σ' : St} {b off : Nat} {vs : List Value} (h : σ.write b off vs = some σ') : Adv σ σ' := by
  obtain ⟨B, cs, h1, h2, h3, h4, rfl⟩ := write_facts h
  exact .set (rblk_blk h1).1 rfl
theorem Adv.kill {σ σ' : St} {b : Nat} (h : σ.kill b = some σ') : Adv σ σ' := by
  obtain ⟨B, h1, h2, rfl⟩ := kill_facts h
  exact .set (rblk_blk h1).1 rfl
def isEff (o : Op) : Bool := match o with
  | .store .. => true
  | .lookup .. => true
  | .mapUpdate .. => true
  | .insert .. => true
  | .makeMap .. => true
  | .call c => (match c.callee with
    | .builtin .len | .builtin .max | .builtin .min => false
    | _ => true)
  | _ => false
section
variable {P : Program} {base : Env} {G : Nat}
def Glob (ρ : Place) (G : Nat) : Prop := ∀ g, g < G → ∃ m, ρ g = some ⟨g, 0, m⟩
theorem Glob.mono {ρ ρ' : Place} {G : Nat} (hm : ρ.le ρ') (h : Glob ρ G) : Glob ρ' G := fun g hg => let ⟨m, h1⟩ := h g hg; ⟨m, hm _ _ h1⟩
def ended (pan : Bool) (v' : Value) : Ending := match pan with
  | true => .panicked [{ v := v', recovered := false }]
  | false => .returned v'
def panX (v' : Value) : Exit := .panic [{ v := v', recovered := false }]
def FW (r : Option Nat) : Fence := { Fence.wide with round := r }
def CallOk (P : Program) (base : Env) (ρ : Place) (g : Nat) (vs' : List Value) (σ : St) (w : World) (r : CR) : Prop :=
  ∃ fn, P.funcs[g]? = some fn ∧ (fn.name == "runtime.NumGoroutine") = false ∧
    ((fn.body.isSome = true ∧ Calls P g ⟨vs'⟩ w fun e w' => ∃ v' ρ', e = ended r.pan v' ∧ Rel base ρ' r.σ w' ∧ Fram ρ σ w ρ' r.σ w' ∧ VRel ρ' r.v v') ∨
     (∃ v', (callFunc g ⟨vs'⟩).run P w = .ok (.value v') w ∧ r.σ = σ ∧ r.pan = false ∧ VRel ρ r.v v'))
def RoundOk (P : Program) (base : Env) (ρ : Place) (l : Nat) (vs' : List Value) (σ : St) (w : World) (r : CR) : Prop :=
  ∃ f tmps assign body, (Instr.yield l ⟨vs'⟩).run P w = .ok (.round l f tmps assign body) w ∧
    RoundIn Fence.wide 0 P l f tmps assign body w fun e w' => ∃ v' ρ', e = ended r.pan v' ∧ Rel base ρ' r.σ w' ∧ Fram ρ σ w ρ' r.σ w' ∧ VRel ρ' r.v v'
def TgtOk (P : Program) (base : Env) (ρ : Place) (t : Tgt) (vs' : List Value) (σ : St) (w : World) (r : CR) : Prop := match t with
  | .fn g => CallOk P base ρ g vs' σ w r
  | .yld b => ∀ q, ρ b = some q → RoundOk P base ρ q.c vs' σ w r
def CallsOk (P : Program) (base : Env) (G : Nat) (call : CallT) : Prop :=
  ∀ t vs σ r, call t vs σ = some r → Adv σ r.σ ∧ ∀ ρ w vs' N, Rel base ρ σ w → Free ρ σ.n N → r.σ.n ≤ N → Glob ρ G → VsRel ρ vs vs' → TgtOk P base ρ t vs' σ w r
def PureFact (P : Program) (fr : Fr) (o : Oper) (v : Value) : Prop := ∀ ρ e w, Known ρ fr e o.op.operands.toList → PureOk P ρ e o w v
def NewFact (P : Program) (fr : Fr) (o : Oper) (cs : List Value) (vf : Nat → Value) : Prop := ∀ ρ e w, Known ρ fr e o.op.operands.toList → NewOk P ρ e o w cs vf
def ReadFact (P : Program) (fr : Fr) (σ : St) (o : Oper) (v : Value) (r : RowAt) : Prop :=
  (∃ cs, σ.read r.b r.off r.n = some cs) ∧ ∀ ρ e w, Known ρ fr e o.op.operands.toList → (∃ q, ρ r.b = some q) ∧ ((∀ q cs, ρ r.b = some q → σ.read r.b r.off r.n = some cs → Seg ρ w q r.off cs) → PureOk P ρ e o w v)
def EffFact (P : Program) (base : Env) (G : Nat) (fr : Fr) (σ : St) (o : Oper) (v : Value) (σ' : St) : Prop :=
  Adv σ σ' ∧ isEff o.op = true ∧ ∀ ρ (a : Act) w N, Known ρ fr a.eval o.op.operands.toList → Rel base ρ σ w → Free ρ σ.n N → σ'.n ≤ N → Glob ρ G →
    ∀ (rd : Option Nat) (next : Act → World → Prop) (Q : Exit → Act → World → Prop), (∀ v' w' ρ', Rel base ρ' σ' w' → Fram ρ σ w ρ' σ' w' → VRel ρ' v v' → next (a.put o.dst v') w') → o.wpIn (FW rd) 0 P a w next Q
def PanFact (P : Program) (base : Env) (G : Nat) (fr : Fr) (σ : St) (o : Oper) (v : Value) (σ' : St) : Prop :=
  Adv σ σ' ∧ ∀ ρ (a : Act) w N, Known ρ fr a.eval o.op.operands.toList → Rel base ρ σ w → Free ρ σ.n N → σ'.n ≤ N → Glob ρ G →
    ∀ (rd : Option Nat) (next : Act → World → Prop) (Q : Exit → Act → World → Prop), (∀ v' w' ρ', Rel base ρ' σ' w' → Fram ρ σ w ρ' σ' w' → VRel ρ' v v' → Q (panX v') a w') → o.wpIn (FW rd) 0 P a w next Q
theorem wpIn_of {rd : Option Nat} {a : Act} {w : World} {o : Oper} {next : Act → World → Prop} {Q : Exit → Act → World → Prop} (hd : ∀ c, o.op ≠ .defer c)
    (h : o.uponIn (FW rd) 0 P a next Q ((execOp a.eval o).run P w)) : o.wpIn (FW rd) 0 P a w next Q := by
  refine ⟨fun _ _ => trivial, ?_⟩
  rw [Oper.semAt_eq _ _ _ hd]
  exact h
theorem eff_fact {fr : Fr} {σ σ' : St} {o : Oper} {v : Value} (hd : ∀ c, o.op ≠ .defer c) (h1 : Adv σ σ') (h2 : isEff o.op = true)
    (h3 : ∀ ρ e w N, Known ρ fr e o.op.operands.toList → Rel base ρ σ w → Free ρ σ.n N → σ'.n ≤ N → EffOk P base ρ e o σ w σ' v) : EffFact P base G fr σ o v σ' := by
  refine ⟨h1, h2, fun ρ a w N hk hR hF hN hG rd next Q hn => wpIn_of hd ?_⟩
  obtain ⟨w', nx, v', ρ', k1, k2, k3, k4, k5⟩ := h3 ρ a.eval w N hk hR hF hN
  rw [k1]
  cases nx with
  | value u => rw [Oper.uponIn_value]; cases k2; exact hn _ _ _ k3 k4 k5
  | skip => rw [Oper.uponIn_skip]; cases k2; exact hn _ _ _ k3 k4 k5
  | _ => cases k2
theorem storeV_adv {σ σ' : St} {t : TypeId} {a v : Value} (h : storeV P σ t a v = some σ') : Adv σ σ' := by
  obtain ⟨⟨b, off⟩, h4, k4⟩ := ob_eq h
  obtain ⟨n, h5, k5⟩ := ob_eq (show ob (size? P t) _ = some σ' from k4)
  obtain ⟨ht, k6⟩ := bi_none k5
  obtain ⟨h6, h7⟩ := bb_eq k6
  exact .write h7
theorem append_adv {σ σ' : St} {t : TypeId} {s x v : Value} (h : appendV P σ t s x = some (v, σ')) : Adv σ σ' := by
  obtain ⟨el, h6, k6⟩ := ob_eq h
  obtain ⟨i, h7, k7⟩ := ob_eq k6
  clear h k6
  split at k7
  · rename_i bs len cap
    obtain ⟨⟨n, new⟩, h8, k8⟩ := ob_eq k7
    obtain ⟨h9, k9⟩ := bb_eq (show bb (Nat.ble 1 i.size) _ = some (v, σ') from k8)
    cases hle : Nat.ble (len + n) cap with
    | true =>
      rw [hle] at k9
      change appendIn σ i.size bs len cap n new = some (v, σ') at k9
      unfold appendIn at k9
      split at k9
      · obtain ⟨σ2, h10, k10⟩ := ob_eq k9
        cases k10
        exact .write h10
      · obtain ⟨h10, k10⟩ := bb_eq k9
        cases k10
        exact .refl _
    | false =>
      rw [hle] at k9
      obtain ⟨h10, k10⟩ := bb_eq (show bb _ _ = some (v, σ') from k9)
      obtain ⟨z, h11, k11⟩ := ob_eq k10
      obtain ⟨h12, k12⟩ := bb_eq k11
      unfold appendNew at k12
      split at k12
      · obtain ⟨h13, k13⟩ := bb_eq k12
        cases k13
        exact .new _ _
      · obtain ⟨old, h13, k13⟩ := ob_eq k12
        cases k13
        exact .new _ _
      · obtain ⟨h13, k13⟩ := bb_eq k12
        obtain ⟨old, h14, k14⟩ := ob_eq k13
        obtain ⟨σ1, h15, k15⟩ := ob_eq k14
        cases k15
        exact (Adv.kill h15).trans (.new _ _)
  · cases k7
theorem wmap_adv {σ σ' : St} {b : Nat} {cs : List Value} (h : σ.wmap b cs = some σ') : Adv σ σ' := by
  obtain ⟨B, h1, h2, rfl⟩ := wmap_facts h
  exact .set (mblk_blk h1).1 rfl
theorem mapUpdate_adv {fr : Fr} {σ σ' : St} {t : TypeId} {m k x : Operand} {v : Value} (h : eMapUpdate P fr σ t m k x = some (v, σ')) : Adv σ σ' := by
  obtain ⟨⟨kt, el⟩, h1, k1⟩ := ob_eq h
  obtain ⟨mv, h2, k2⟩ := ob_eq (show ob (ev fr m) _ = some (v, σ') from k1)
  obtain ⟨a, h3, k3⟩ := ob_eq k2
  obtain ⟨mb, h4, k4⟩ := ob_eq k3
  obtain ⟨kv, h5, k5⟩ := ob_eq k4
  obtain ⟨h6, k6⟩ := bb_eq k5
  obtain ⟨u, h7, k7⟩ := ob_eq k6
  obtain ⟨B, h8, k8⟩ := ob_eq k7
  obtain ⟨cs, h9, k9⟩ := ob_eq k8
  obtain ⟨σ1, h10, k10⟩ := ob_eq k9
  cases k10
  exact wmap_adv h10
theorem lookup_adv {fr : Fr} {σ σ' : St} {t : TypeId} {x ix : Operand} {ok : Bool} {v : Value} (h : eLookup P fr σ t x ix ok = some (v, σ')) : Adv σ σ' := by
  obtain ⟨⟨kt, el⟩, h1, k1⟩ := ob_eq h
  obtain ⟨m, h2, k2⟩ := ob_eq (show ob (ev fr x) _ = some (v, σ') from k1)
  obtain ⟨a, h3, k3⟩ := ob_eq k2
  obtain ⟨k, h4, k4⟩ := ob_eq k3
  obtain ⟨h5, k5⟩ := bb_eq k4
  obtain ⟨cs, h6, k6⟩ := ob_eq k5
  obtain ⟨r, h7, k7⟩ := ob_eq k6
  obtain ⟨⟨u, b⟩, h8, k8⟩ := ob_eq k7
  cases k8
  exact .refl _
theorem makeMap_adv {fr : Fr} {σ σ' : St} {r : Option Operand} {v : Value} (h : eMakeMap fr σ r = some (v, σ')) : Adv σ σ' := by
  obtain ⟨h1, h2⟩ := bb_eq h
  cases h2
  exact .new _ _ _
def TgtRel (ρ : Place) (u' : Value) (t : Tgt) (first' captured' : List Value) : Prop := match t with
  | .fn g => u' = .func (.func g) ⟨first'⟩ ⟨captured'⟩
  | .yld b => ∃ q, ρ b = some q ∧ u' = .func (.yield q.c) ⟨[]⟩ ⟨[]⟩ ∧ first' = [] ∧ captured' = []
theorem func_rel {ρ : Place} {u u' : Value} {f : Fun} (h : VRel ρ u u') (hf : func? u = some f) : ∃ first' captured', TgtRel ρ u' f.g first' captured' ∧ VsRel ρ f.first first' ∧ VsRel ρ f.captured captured' := by
  unfold func? at hf
  split at hf
  · cases hf
    cases h with
    | func hy h1 h2 => exact ⟨_, _, rfl, h1, h2⟩
    | scal hs => simp [scal] at hs
  · cases hf
    cases h with
    | func hy h1 h2 => cases hy
    | yld hq => exact ⟨[], [], ⟨_, hq, rfl, rfl, rfl⟩, .nil, .nil⟩
    | scal hs => simp [scal] at hs
  · cases hf
theorem call_upon {call : CallT} (hC : CallsOk P base G call) {fr : Fr} {σ : St} {o : Oper} {c : Call} {f : Operand} {r : CR} (ho : o.op = .call c) (hc : c.callee = .value f)
    (h : eCall call fr σ c f = some r) : Adv σ r.σ ∧ ∀ ρ (a : Act) w N, Known ρ fr a.eval o.op.operands.toList → Rel base ρ σ w → Free ρ σ.n N → r.σ.n ≤ N → Glob ρ G →
      ∀ (rd : Option Nat) (next : Act → World → Prop) (Q : Exit → Act → World → Prop),
        (∀ v' w' ρ', Rel base ρ' r.σ w' → Fram ρ σ w ρ' r.σ w' → VRel ρ' r.v v' → match r.pan with | true => Q (panX v') a w' | false => next (a.put o.dst v') w') → o.wpIn (FW rd) 0 P a w next Q := by
  obtain ⟨vs, h1, k1⟩ := ob_eq h
  obtain ⟨u, h2, k2⟩ := ob_eq k1
  obtain ⟨fn, h3, k3⟩ := ob_eq k2
  change call fn.g (fn.first ++ vs ++ fn.captured) σ = some r at k3
  clear h k1 k2
  obtain ⟨hadv, hcall⟩ := hC _ _ _ _ k3
  refine ⟨hadv, fun ρ a w N hk hR hF hN hG rd next Q hn => wpIn_of (by intro c' he; rw [ho] at he; cases he) ?_⟩
  have hr := (args_known ho hk).evs h1
  have hu := hk f u (by simp [ho, Op.operands, Call.operands, hc]) h2
  obtain ⟨first', captured', hf, r1, r2⟩ := func_rel hu h3
  have hT := hcall ρ w (first' ++ c.args.toList.map a.eval ++ captured') N hR hF hN hG (VsRel.append r2 (VsRel.append hr r1))
  have hargs : (⟨first'⟩ : Array Value) ++ c.args.map a.eval ++ ⟨captured'⟩ = ⟨first' ++ c.args.toList.map a.eval ++ captured'⟩ := by
    rw [← Array.toList_inj]; simp
  have hend : ∀ (en : Ending) w', (∃ v' ρ', en = ended r.pan v' ∧ Rel base ρ' r.σ w' ∧ Fram ρ σ w ρ' r.σ w' ∧ VRel ρ' r.v v') → (match en, w' with
      | .returned v, w'' => next (a.put o.dst v) w''
      | .panicked chain, w'' => Q (.panic chain) a w''
      | .outgrown, _ => LetsOut Q : Prop) := by
    rintro en w' ⟨v', ρ', rfl, q1, q2, q3⟩
    have := hn v' w' ρ' q1 q2 q3
    cases hp : r.pan with
    | true => rw [hp] at this; exact this
    | false => rw [hp] at this; exact this
  cases hg : fn.g with
  | fn g =>
    rw [hg] at hT hf
    obtain ⟨fd, e1, e2, e3⟩ := hT
    have hf : a.eval f = .func (.func g) ⟨first'⟩ ⟨captured'⟩ := hf
    have hexec : execOp a.eval o = callFunc g ⟨first' ++ c.args.toList.map a.eval ++ captured'⟩ := by
      simp only [execOp, ho, resolve, hc, hf, Deferred.ofValue]
      rw [← hargs]
      rfl
    rw [hexec]
    rcases e3 with ⟨b1, b2⟩ | ⟨v', b1, b2, b3, b4⟩
    · have hrun : (callFunc g ⟨first' ++ c.args.toList.map a.eval ++ captured'⟩).run P w = .ok (.enter g ⟨first' ++ c.args.toList.map a.eval ++ captured'⟩) w := by
        have hn0 : fd.body.isNone = false := by cases hb : fd.body with | none => rw [hb] at b1; cases b1 | some c => rfl
        simp only [callFunc, Sem.run_bind, run_program, Result.andThen_ok, e1, e2, hn0, Bool.false_eq_true, if_false, Sem.run_pure]
      rw [hrun, Oper.uponIn_enter]
      refine ⟨fun h => (by cases h), ?_⟩
      exact (callsIn_wide (n := 0)).2 (b2.mono hend)
    · rw [b1, Oper.uponIn_value]
      have hp := hn v' w ρ (by rw [b2]; exact hR) (by rw [b2]; exact .refl _ _ _) b4
      rw [b3] at hp
      exact hp
  | yld b =>
    rw [hg] at hT hf
    obtain ⟨q, hq, hf, hf1, hf2⟩ := hf
    subst hf1
    subst hf2
    obtain ⟨f0, tmps, assign, body, e1, e2⟩ := hT q hq
    have hexec : execOp a.eval o = Instr.yield q.c ⟨[] ++ c.args.toList.map a.eval ++ []⟩ := by
      simp only [execOp, ho, resolve, hc, hf, Deferred.ofValue]
      rw [← hargs]
      rfl
    rw [hexec, e1, Oper.uponIn_round]
    refine ⟨fun h => (by cases h), ?_⟩
    exact e2.mono hend
theorem call_fact {call : CallT} (hC : CallsOk P base G call) {fr : Fr} {σ : St} {o : Oper} {c : Call} {f : Operand} {v : Value} {σ' : St} (ho : o.op = .call c) (hc : c.callee = .value f)
    (h : eCall call fr σ c f = some ⟨false, v, σ'⟩) : EffFact P base G fr σ o v σ' :=
  let ⟨h1, h2⟩ := call_upon hC ho hc h
  ⟨h1, by simp [ho, isEff, hc], fun ρ a w N hk hR hF hN hG rd next Q hn => h2 ρ a w N hk hR hF hN hG rd next Q hn⟩
theorem call_pan {call : CallT} (hC : CallsOk P base G call) {fr : Fr} {σ : St} {o : Oper} {c : Call} {f : Operand} {v : Value} {σ' : St} (ho : o.op = .call c) (hc : c.callee = .value f)
    (h : eCall call fr σ c f = some ⟨true, v, σ'⟩) : PanFact P base G fr σ o v σ' :=
  let ⟨h1, h2⟩ := call_upon hC ho hc h
  ⟨h1, fun ρ a w N hk hR hF hN hG rd next Q hn => h2 ρ a w N hk hR hF hN hG rd next Q hn⟩
theorem panic_fact {fr : Fr} {σ : St} {o : Oper} {x : Operand} {s : Stepped} (ho : o.op = .panic x) (h : ePanic fr σ x = some s) : s.d = .pan ∧ s.σ = σ ∧ PanFact P base G fr σ o s.v σ := by
  obtain ⟨u, h1, h2⟩ := ob_eq h
  split at h2
  · rename_i t v
    cases h2
    refine ⟨rfl, rfl, .refl _, fun ρ a w N hk hR hF hN hG rd next Q hn => wpIn_of (by intro c' he; rw [ho] at he; cases he) ?_⟩
    have hx := hk x _ (by simp [ho, Op.operands]) h1
    cases hx' : a.eval x with
    | iface t' v' =>
      rw [hx'] at hx
      have hexec : (execOp a.eval o).run P w = .halt (.panic (.iface t' v')) w := by
        simp only [execOp, ho, hx', Instr.panic]
        rfl
      rw [hexec, Oper.uponIn_panic]
      exact hn _ _ _ hR (.refl _ _ _) hx
    | _ => rw [hx'] at hx; cases hx <;> (rename_i hs; simp [scal] at hs)
  · cases h2
inductive Class (P : Program) (base : Env) (G : Nat) (fr : Fr) (σ : St) (o : Oper) : Stepped → Prop
  | pure {v : Value} (h : PureFact P fr o v) : Class P base G fr σ o ⟨v, σ, .none⟩
  | new {cs : List Value} {vf : Nat → Value} (h : NewFact P fr o cs vf) : Class P base G fr σ o ⟨vf σ.n, σ.new cs, .none⟩
  | read {v : Value} {r : RowAt} (h : ReadFact P fr σ o v r) : Class P base G fr σ o ⟨v, σ, .read r⟩
  | eff {v : Value} {σ' : St} (h : EffFact P base G fr σ o v σ') : Class P base G fr σ o ⟨v, σ', .eff⟩
  | pan {v : Value} {σ' : St} (h : PanFact P base G fr σ o v σ') : Class P base G fr σ o ⟨v, σ', .pan⟩
theorem asPure_eq {σ : St} {x : Option Value} {s : Stepped} (h : asPure σ x = some s) : ∃ v, x = some v ∧ s = ⟨v, σ, .none⟩ := by
  obtain ⟨v, h1, h2⟩ := ob_eq h
  cases h2
  exact ⟨v, h1, rfl⟩
theorem asNew_eq {σ : St} {x : Option (List Value × (Nat → Value))} {s : Stepped} (h : asNew σ x = some s) : ∃ cs vf, x = some (cs, vf) ∧ s = ⟨vf σ.n, σ.new cs, .none⟩ := by
  obtain ⟨⟨cs, vf⟩, h1, h2⟩ := ob_eq h
  cases h2
  exact ⟨cs, vf, h1, rfl⟩
theorem asRead_eq {σ : St} {x : Option (Value × RowAt)} {s : Stepped} (h : asRead σ x = some s) : ∃ v b, x = some (v, b) ∧ s = ⟨v, σ, .read b⟩ := by
  obtain ⟨⟨v, b⟩, h1, h2⟩ := ob_eq h
  cases h2
  exact ⟨v, b, h1, rfl⟩
theorem asEff_eq {x : Option (Value × St)} {s : Stepped} (h : asEff x = some s) : ∃ v σ', x = some (v, σ') ∧ s = ⟨v, σ', .eff⟩ := by
  obtain ⟨⟨v, σ'⟩, h1, h2⟩ := ob_eq h
  cases h2
  exact ⟨v, σ', h1, rfl⟩
theorem load_fact {fr : Fr} {σ : St} {o : Oper} {t : TypeId} {x : Operand} {v : Value} {r : RowAt} (ho : o.op = .load t x) (h : rLoad P fr σ t x = some (v, r)) : ReadFact P fr σ o v r := by
  have hc := h
  obtain ⟨u, h1, k1⟩ := ob_eq h
  obtain ⟨⟨b', off⟩, h2, k2⟩ := ob_eq k1
  obtain ⟨m, hm, k2⟩ := ob_eq (show ob (span? P t) _ = some (v, r) from k2)
  obtain ⟨v0, h3, k3⟩ := ob_eq (show ob (loadA P σ t b' off) _ = some (v, r) from k2)
  cases k3
  refine ⟨?_, fun ρ e w hk => ⟨?_, fun hrow => load_sound ho hk hc hrow⟩⟩
  · obtain ⟨g, h4, h5⟩ := ob_eq h3
    obtain ⟨g', hg', hm⟩ := ob_eq hm
    rw [h4] at hg'; cases hg'
    cases g with
    | true =>
      obtain ⟨n, h6, h7⟩ := ob_eq (show ob (size? P t) _ = some v from h5)
      obtain ⟨cs, h8, h9⟩ := ob_eq h7
      rw [show size? P t = some m from hm] at h6
      cases h6
      exact ⟨cs, h8⟩
    | false =>
      cases hm
      obtain ⟨cs, h8, h9⟩ := ob_eq (show ob (σ.read b' off 1) _ = some v from h5)
      exact ⟨cs, h8⟩
  · obtain ⟨q, hq, _⟩ := at_rel (hk x u (by simp [ho, Op.operands]) h1) h2
    exact ⟨q, hq⟩
theorem string_fact {fr : Fr} {σ : St} {o : Oper} {s d : TypeId} {x : Operand} {v : Value} {r : RowAt} (ho : o.op = .convert s d x) (h : rString P fr σ s d x = some (v, r)) : ReadFact P fr σ o v r := by
  have hc := h
  obtain ⟨u, h1, k1⟩ := ob_eq h
  obtain ⟨⟨b', off, n⟩, h2, k2⟩ := ob_eq k1
  obtain ⟨el, h3, k3⟩ := ob_eq (show ob (elem? P s) _ = some (v, r) from k2)
  obtain ⟨h4, k4⟩ := bb_eq k3
  obtain ⟨h5, k5⟩ := bb_eq k4
  obtain ⟨l, h6, k6⟩ := ob_eq k5
  obtain ⟨r', h7, k7⟩ := ob_eq k6
  cases k7
  refine ⟨?_, fun ρ e w hk => ⟨?_, fun hrow => string_sound ho hk hc hrow⟩⟩
  · exact ⟨l, h6⟩
  · obtain ⟨q, a, k', hq, _, _⟩ := rowAt_rel (hk x u (by simp [ho, Op.operands]) h1) h2
    exact ⟨q, hq⟩
theorem step_noDefer {call : CallT} {fr : Fr} {σ : St} {o : Oper} {s : Stepped} (h : step P call fr σ o = some s) : ∀ c, o.op ≠ .defer c := by
  intro c ho
  unfold step at h
  rw [ho] at h
  cases h
theorem step_class {call : CallT} (hC : CallsOk P base G call) {fr : Fr} {σ : St} {o : Oper} {s : Stepped}
    (h : step P call fr σ o = some s) : Class P base G fr σ o s := by
  have hd := step_noDefer h
  unfold step at h
  cases ho : o.op with
  | move x => rw [ho] at h; obtain ⟨v, h1, rfl⟩ := asPure_eq h; exact .pure fun ρ e w hk => move_sound (.inl ho) hk h1
  | assign x => rw [ho] at h; obtain ⟨v, h1, rfl⟩ := asPure_eq h; exact .pure fun ρ e w hk => move_sound (.inr ho) hk h1
  | pick c a b => rw [ho] at h; obtain ⟨v, h1, rfl⟩ := asPure_eq h; exact .pure fun ρ e w hk => pick_sound ho hk h1
  | alloc t => rw [ho] at h; obtain ⟨cs, vf, h1, rfl⟩ := asNew_eq h; exact .new fun ρ e w hk => alloc_sound ho h1
  | box t x => rw [ho] at h; obtain ⟨cs, vf, h1, rfl⟩ := asNew_eq h; exact .new fun ρ e w hk => box_sound ho hk h1
  | build t parts => rw [ho] at h; obtain ⟨v, h1, rfl⟩ := asPure_eq h; exact .pure fun ρ e w hk => build_sound ho hk h1
  | buildSlice t len parts => rw [ho] at h; obtain ⟨cs, vf, h1, rfl⟩ := asNew_eq h; exact .new fun ρ e w hk => buildSlice_sound ho hk h1
  | load t x => rw [ho] at h; obtain ⟨v, b, h1, rfl⟩ := asRead_eq h; exact .read (load_fact ho h1)
  | store t x y =>
    rw [ho] at h
    obtain ⟨v, σ', h1, rfl⟩ := asEff_eq h
    refine .eff (eff_fact hd ?_ (by rw [ho]; rfl) fun ρ e w N hk hR hF hN => store_sound ho hk hR h1)
    obtain ⟨a, g1, k1⟩ := ob_eq h1
    obtain ⟨u, g2, k2⟩ := ob_eq k1
    obtain ⟨σ1, g3, k3⟩ := ob_eq k2
    cases k3
    exact storeV_adv g3
  | lookup t x ix ok =>
    rw [ho] at h
    obtain ⟨v, σ', h1, rfl⟩ := asEff_eq h
    exact .eff (eff_fact hd (lookup_adv h1) (by rw [ho]; rfl) fun ρ e w N hk hR hF hN => lookup_sound ho hk hR h1)
  | mapUpdate t m k x =>
    rw [ho] at h
    obtain ⟨v, σ', h1, rfl⟩ := asEff_eq h
    exact .eff (eff_fact hd (mapUpdate_adv h1) (by rw [ho]; rfl) fun ρ e w N hk hR hF hN => mapUpdate_sound (.inl ho) hk hR h1)
  | insert t m k x =>
    rw [ho] at h
    obtain ⟨v, σ', h1, rfl⟩ := asEff_eq h
    exact .eff (eff_fact hd (mapUpdate_adv h1) (by rw [ho]; rfl) fun ρ e w N hk hR hF hN => mapUpdate_sound (.inr ho) hk hR h1)
  | makeMap t r =>
    rw [ho] at h
    obtain ⟨v, σ', h1, rfl⟩ := asEff_eq h
    exact .eff (eff_fact hd (makeMap_adv h1) (by rw [ho]; rfl) fun ρ e w N hk hR hF hN => makeMap_sound ho hR hF hN h1)
  | panic x =>
    rw [ho] at h
    obtain ⟨h1, h2, h3⟩ := panic_fact (P := P) (base := base) (G := G) ho h
    obtain ⟨v, σ', d⟩ := s
    cases h1
    cases h2
    exact .pan h3
  | nilCheck x => rw [ho] at h; obtain ⟨v, h1, rfl⟩ := asPure_eq h; exact .pure fun ρ e w hk => nilCheck_sound ho hk h1
  | binOp b t x y yt => rw [ho] at h; obtain ⟨v, h1, rfl⟩ := asPure_eq h; exact .pure fun ρ e w hk => bin_sound ho hk h1
  | unOp u t x => rw [ho] at h; obtain ⟨v, h1, rfl⟩ := asPure_eq h; exact .pure fun ρ e w hk => flat1_sound (by rw [ho]; rfl) (by simp [ho]) hk h1
  | convert s0 d x =>
    rw [ho] at h
    change orS (asNew σ (nBytes P fr s0 d x)) (orS (asRead σ (rString P fr σ s0 d x)) (asPure σ (pFlat P fr o x))) = some s at h
    cases hn : asNew σ (nBytes P fr s0 d x) with
    | some s1 =>
      rw [hn] at h
      cases h
      obtain ⟨cs, vf, h1, rfl⟩ := asNew_eq hn
      exact .new fun ρ e w hk => bytes_sound ho hk h1
    | none =>
      rw [hn] at h
      change orS (asRead σ (rString P fr σ s0 d x)) (asPure σ (pFlat P fr o x)) = some s at h
      cases hr : asRead σ (rString P fr σ s0 d x) with
      | some s1 =>
        rw [hr] at h
        cases h
        obtain ⟨v, b, h1, rfl⟩ := asRead_eq hr
        exact .read (string_fact ho h1)
      | none =>
        rw [hr] at h
        change asPure σ (pFlat P fr o x) = some s at h
        obtain ⟨v, h1, rfl⟩ := asPure_eq h
        exact .pure fun ρ e w hk => flat1_sound (by rw [ho]; rfl) (by simp [ho]) hk h1
  | makeInterface t x => rw [ho] at h; obtain ⟨v, h1, rfl⟩ := asPure_eq h; exact .pure fun ρ e w hk => iface_sound ho hk h1
  | makeFunc fn fs cs => rw [ho] at h; obtain ⟨v, h1, rfl⟩ := asPure_eq h; exact .pure fun ρ e w hk => func_sound ho hk h1
  | makeSlice t l c => rw [ho] at h; obtain ⟨cs, vf, h1, rfl⟩ := asNew_eq h; exact .new fun ρ e w hk => make_sound ho hk h1
  | slice t x lo hi mx => rw [ho] at h; obtain ⟨v, h1, rfl⟩ := asPure_eq h; exact .pure fun ρ e w hk => slice_sound ho hk h1
  | fieldAddr s x f => rw [ho] at h; obtain ⟨v, h1, rfl⟩ := asPure_eq h; exact .pure fun ρ e w hk => fieldAddr_sound ho hk h1
  | field s x f => rw [ho] at h; obtain ⟨v, h1, rfl⟩ := asPure_eq h; exact .pure fun ρ e w hk => field_sound ho hk h1
  | indexAddr t x ix => rw [ho] at h; obtain ⟨v, h1, rfl⟩ := asPure_eq h; exact .pure fun ρ e w hk => indexAddr_sound ho hk h1
  | index t x ix => rw [ho] at h; obtain ⟨v, h1, rfl⟩ := asPure_eq h; exact .pure fun ρ e w hk => index_sound ho hk h1
  | extract t ix => rw [ho] at h; obtain ⟨v, h1, rfl⟩ := asPure_eq h; exact .pure fun ρ e w hk => extract_sound ho hk h1
  | call c =>
    rw [ho] at h
    change stepC P call fr σ c = some s at h
    unfold stepC at h
    cases hc : c.callee with
    | value f =>
      rw [hc] at h
      obtain ⟨⟨p, v, σ'⟩, h1, h2⟩ := ob_eq (show ob (eCall call fr σ c f) _ = some s from h)
      cases h2
      cases p with
      | true => exact .pan (call_pan hC ho hc h1)
      | false => exact .eff (call_fact hC ho hc h1)
    | invoke r m => rw [hc] at h; cases h
    | builtin b =>
      rw [hc] at h
      change stepB b P fr σ c = some s at h
      cases b with
      | len => obtain ⟨v, h1, rfl⟩ := asPure_eq h; exact .pure fun ρ e w hk => len_sound ho hc hk h1
      | max => obtain ⟨v, h1, rfl⟩ := asPure_eq h; exact .pure fun ρ e w hk => mm_sound true ho hc hk h1
      | min => obtain ⟨v, h1, rfl⟩ := asPure_eq h; exact .pure fun ρ e w hk => mm_sound false ho hc hk h1
      | append =>
        obtain ⟨v, σ', h1, rfl⟩ := asEff_eq h
        refine .eff (eff_fact hd ?_ (by rw [ho]; simp [isEff, hc]) fun ρ e w N hk hR hF hN => append_sound ho hc hk hR hF hN h1)
        obtain ⟨vs, g1, k1⟩ := ob_eq h1
        obtain ⟨⟨s, x⟩, g2, k2⟩ := ob_eq k1
        obtain ⟨t, g3, k3⟩ := ob_eq (show ob (argT c) _ = some (v, σ') from k2)
        obtain ⟨t2, g4, k4⟩ := ob_eq k3
        obtain ⟨g5, k5⟩ := bb_eq k4
        exact append_adv k5
      | copy =>
        obtain ⟨v, σ', h1, rfl⟩ := asEff_eq h
        refine .eff (eff_fact hd ?_ (by rw [ho]; simp [isEff, hc]) fun ρ e w N hk hR hF hN => copy_sound ho hc hk hR h1)
        obtain ⟨vs, g1, k1⟩ := ob_eq h1
        obtain ⟨⟨d, s⟩, g2, k2⟩ := ob_eq k1
        obtain ⟨t, g3, k3⟩ := ob_eq (show ob (argT c) _ = some (v, σ') from k2)
        obtain ⟨el, g4, k4⟩ := ob_eq (show ob (elem? P t) _ = some (v, σ') from k3)
        obtain ⟨size, g5, k5⟩ := ob_eq k4
        obtain ⟨⟨b, off, dl⟩, g6, k6⟩ := ob_eq k5
        obtain ⟨⟨n, cs⟩, g7, k7⟩ := ob_eq (show ob (srcCells σ size s) _ = some (v, σ') from k6)
        obtain ⟨cs2, g8, k8⟩ := ob_eq (show ob (takeN (Nat.min n dl * size) cs) _ = some (v, σ') from k7)
        obtain ⟨σ2, g9, k9⟩ := ob_eq k8
        cases k9
        exact .write g9
      | clear =>
        obtain ⟨v, σ', h1, rfl⟩ := asEff_eq h
        refine .eff (eff_fact hd ?_ (by rw [ho]; simp [isEff, hc]) fun ρ e w N hk hR hF hN => clear_sound ho hc hk hR h1)
        obtain ⟨vs, g1, k1⟩ := ob_eq h1
        obtain ⟨x, g2, k2⟩ := ob_eq k1
        obtain ⟨t, g3, k3⟩ := ob_eq k2
        obtain ⟨el, g4, k4⟩ := ob_eq (show ob (elem? P t) _ = some (v, σ') from k3)
        obtain ⟨z, g5, k5⟩ := ob_eq k4
        obtain ⟨⟨b, off, n⟩, g6, k6⟩ := ob_eq k5
        obtain ⟨σ2, g9, k9⟩ := ob_eq (show ob (σ.write b off (rep (cellsL z) n)) _ = some (v, σ') from k6)
        cases k9
        exact .write g9
      | _ => cases h
  | _ => rw [ho] at h; cases h
end
end Go.Ab
namespace Go.Ab
open Go
def FRel (ρ : Place) (fr : Fr) (a : Act) : Prop := ∀ t v, fr.get t = some v → ∃ v', a.tmps[t]? = some v' ∧ VRel ρ v v'
theorem FRel.mono {ρ ρ' : Place} {fr : Fr} {a : Act} (hm : ρ.le ρ') (h : FRel ρ fr a) : FRel ρ' fr a := fun t v ht => let ⟨v', h1, h2⟩ := h t v ht; ⟨v', h1, h2.mono hm⟩
theorem putV_some (fr : Fr) (d : Tmp) (v : Value) : putV fr (some d) v = fr.set d v := rfl
theorem put_size (a : Act) (d : Option Tmp) (v : Value) : (a.put d v).tmps.size = a.tmps.size := by cases d <;> simp [Act.put]
theorem put_defers (a : Act) (d : Option Tmp) (v : Value) : (a.put d v).defers = a.defers := by cases d <;> rfl
theorem FRel.put {ρ : Place} {fr : Fr} {a : Act} (h : FRel ρ fr a) {d : Option Tmp} {v v' : Value} (hv : VRel ρ v v') (hd : ∀ t, d = some t → t < a.tmps.size) : FRel ρ (putV fr d v) (a.put d v') := by
 intro t u ht
 cases d with
 | none => exact h t u ht
 | some d =>
  rw [putV_some, Tr.get_set] at ht
  show ∃ v'', (a.tmps.setIfInBounds d v')[t]? = some v'' ∧ _
  by_cases htd : t = d
  ·subst htd
   rw [if_pos rfl] at ht
   cases ht
   exact ⟨v', by rw [Array.getElem?_setIfInBounds_self_of_lt (hd _ rfl)], hv⟩
  ·rw [if_neg htd] at ht
   obtain ⟨v'', h1, h2⟩ := h t u ht
   exact ⟨v'', by rw [Array.getElem?_setIfInBounds_ne (fun h => htd h.symm)]; exact h1, h2⟩
def opndOk (G : Nat) (x : Operand) : Bool := match x with
 | .global g => Nat.blt g G
 | _ => true
def dstOk (n : Nat) (d : Option Tmp) : Bool := match d with
 | some d => Nat.blt d n
 | none => true
def operOk (_P : Program) (n G : Nat) (o : Oper) : Bool := dstOk n o.dst && o.op.operands.toList.all (opndOk G)
theorem ev_rel {ρ : Place} {fr : Fr} {a : Act} {G : Nat} (hG : Glob ρ G) {x : Operand} {v : Value} (hx : opndOk G x = true) (ht : ∀ t, x = .tmp t → ∀ v, fr.get t = some v → ∃ v', a.tmps[t]? = some v' ∧ VRel ρ v v')
  (h : ev fr x = some v) : VRel ρ v (a.eval x) := by
 cases x with
 | tmp t =>
  obtain ⟨v', h1, h2⟩ := ht t rfl v h
  show VRel ρ v (a.tmps.getD t undef)
  rw [Array.getD_eq_getD_getElem?, h1]
  exact h2
 | const u =>
  obtain ⟨h1, h2⟩ := VRel.cst (ρ := ρ) (show cst u = some v from h)
  subst h1
  exact h2
 | global g =>
  cases h
  obtain ⟨m, hm⟩ := hG g (by have : Nat.blt g G = true := hx; rwa [Nat.blt_eq] at this)
  exact .ptr (off := 0) hm
 | func f => cases h; exact .func rfl .nil .nil
theorem known_of {ρ : Place} {fr : Fr} {a : Act} {G : Nat} {P : Program} {n : Nat} {o : Oper} (hG : Glob ρ G) (ho : operOk P n G o = true)
  (ht : ∀ t, .tmp t ∈ o.op.operands.toList → ∀ v, fr.get t = some v → ∃ v', a.tmps[t]? = some v' ∧ VRel ρ v v') : Known ρ fr a.eval o.op.operands.toList := by
 intro x v hx h
 unfold operOk at ho
 rw [Bool.and_eq_true, List.all_eq_true] at ho
 exact ev_rel hG (ho.2 x hx) (fun t he => by subst he; exact ht t hx) h
theorem dst_of {P : Program} {n G : Nat} {o : Oper} (ho : operOk P n G o = true) : ∀ t, o.dst = some t → t < n := by
 intro t ht
 unfold operOk at ho
 rw [Bool.and_eq_true, ht] at ho
 have : Nat.blt t n = true := ho.1
 rwa [Nat.blt_eq] at this
theorem wants_rel {ρ : Place} {fr : Fr} {a : Act} {all : Array Oper} {o : Oper} {c : Bool} (h : wantsV all fr o = some c)
  (ht : ∀ j want t, o.guard = some (j, want) → dstOf all j = some t → ∀ v, fr.get t = some v → ∃ v', a.tmps[t]? = some v' ∧ VRel ρ v v') : Region.wanted o (yielded all a.tmps) = c := by
 unfold Region.wanted
 cases hg : o.guard with
 | none =>
  unfold wantsV at h
  rw [hg] at h
  cases h
  rfl
 | some g =>
  obtain ⟨j, want⟩ := g
  unfold wantsV at h
  rw [hg] at h
  change (Option.rec (motive := fun _ => Option Bool) (some false) (fun d => ob (fr.get d) fun v => some (yieldOf want v)) (dstOf all j) : Option Bool) = some c at h
  have hd : (all[j]?).bind (·.dst) = dstOf all j := by
   unfold dstOf
   cases all[j]? <;> rfl
  show (yielded all a.tmps j == some want) = c
  unfold yielded
  rw [hd]
  cases hdj : dstOf all j with
  | none =>
   rw [hdj] at h
   cases h
   rfl
  | some d =>
   rw [hdj] at h
   obtain ⟨v, h1, h2⟩ := ob_eq (show ob (fr.get d) (fun v => some (yieldOf want v)) = some c from h)
   obtain ⟨v', h3, h4⟩ := ht j want d hg hdj v h1
   cases h2
   show ((match ((some d).bind fun x => a.tmps[x]?) with | some (.bool b) => some b | _ => none) == some want) = _
   rw [show ((some d).bind fun x => a.tmps[x]?) = some v' from h3]
   cases h4 with
   | scal hs => cases v <;> first | rfl | (rename_i b; cases b <;> cases want <;> rfl)
   | _ => rfl
/- What is known before: the paths of a region's order. -/
theorem inner_bits (acc : Array Nat) (i : Nat) : ∀ (l : List Edge) (s : Nat), Nat.testBit (l.foldl (fun s e => if Region.binds .any e then s ||| 2 ^ e.on ||| acc.getD e.on 0 else s) s) i = true →
  Nat.testBit s i = true ∨ ∃ e ∈ l, Region.binds .any e = true ∧ (e.on = i ∨ Nat.testBit (acc.getD e.on 0) i = true) := by
 intro l
 induction l with
 | nil => intro s h; exact .inl h
 | cons e l ih =>
  intro s h
  rw [List.foldl_cons] at h
  rcases ih _ h with h1 | ⟨e', h1, h2, h3⟩
  ·by_cases hb : Region.binds .any e = true
   ·rw [if_pos hb, Nat.testBit_or, Nat.testBit_or, Bool.or_eq_true, Bool.or_eq_true] at h1
    rcases h1 with (h1 | h1) | h1
    ·exact .inl h1
    ·refine .inr ⟨e, by simp, hb, .inl ?_⟩
     rw [Nat.testBit_two_pow] at h1
     exact of_decide_eq_true h1
    ·exact .inr ⟨e, by simp, hb, .inr h1⟩
   ·rw [if_neg hb] at h1; exact .inl h1
  ·exact .inr ⟨e', by simp [h1], h2, h3⟩
def befStep (acc : Array Nat) (o : Oper) : Array Nat := acc.push (o.after.foldl (fun s e => if Region.binds .any e then s ||| 2 ^ e.on ||| acc.getD e.on 0 else s) 0)
theorem before_list : ∀ (l : List Oper) (acc : Array Nat),
  (∀ k, k < acc.size → (l.foldl befStep acc).getD k 0 = acc.getD k 0) ∧
  ∀ t o i, l[t]? = some o → Nat.testBit ((l.foldl befStep acc).getD (acc.size + t) 0) i = true →
   ∃ e ∈ o.after, Region.binds .any e = true ∧ (e.on = i ∨ (e.on < acc.size + t ∧ Nat.testBit ((l.foldl befStep acc).getD e.on 0) i = true)) := by
 intro l
 induction l with
 | nil => intro acc; exact ⟨fun _ _ => rfl, fun t o i h => by simp at h⟩
 | cons o l ih =>
  intro acc
  obtain ⟨h1, h2⟩ := ih (befStep acc o)
  have hsz : (befStep acc o).size = acc.size + 1 := by simp [befStep]
  have hpre : ∀ k, k < acc.size → (befStep acc o).getD k 0 = acc.getD k 0 := by
   intro k hk
   unfold befStep
   rw [Array.getD_eq_getD_getElem?, Array.getD_eq_getD_getElem?, Array.getElem?_push, if_neg (by omega)]
  have hnew : (befStep acc o).getD acc.size 0 = o.after.foldl (fun s e => if Region.binds .any e then s ||| 2 ^ e.on ||| acc.getD e.on 0 else s) 0 := by
   unfold befStep
   rw [Array.getD_eq_getD_getElem?, Array.getElem?_push, if_pos rfl]
   rfl
  refine ⟨fun k hk => ?_, fun t o' i ht hb => ?_⟩
  ·rw [List.foldl_cons, h1 k (by omega), hpre k hk]
  ·rw [List.foldl_cons] at hb ⊢
   cases t with
   | zero =>
    simp at ht
    subst ht
    rw [Nat.add_zero, h1 acc.size (by omega), hnew, ← Array.foldl_toList] at hb
    rcases inner_bits acc i _ _ hb with h3 | ⟨e, h3, h4, h5⟩
    ·simp at h3
    ·refine ⟨e, by simpa using h3, h4, ?_⟩
     rcases h5 with h5 | h5
     ·exact .inl h5
     ·have hlt : e.on < acc.size := by
       rcases Nat.lt_or_ge e.on acc.size with hh | hh
       ·exact hh
       ·rw [Array.getD_eq_getD_getElem?, Array.getElem?_eq_none hh] at h5
        simp at h5
      exact .inr ⟨by omega, by rw [h1 e.on (by omega), hpre e.on hlt]; exact h5⟩
   | succ t =>
    have := h2 t o' i (by simpa using ht) (by rw [hsz, show acc.size + 1 + t = acc.size + (t + 1) from by omega]; exact hb)
    rw [hsz, show acc.size + 1 + t = acc.size + (t + 1) from by omega] at this
    exact this
def Bef (os : Array Oper) (i j : Nat) : Prop := Nat.testBit ((Region.before os).toList.getD j 0) i = true
theorem before_spec {os : Array Oper} {i j : Nat} {o : Oper} (ho : os[j]? = some o) (h : Bef os i j) : ∃ e ∈ o.after, Region.binds .any e = true ∧ (e.on = i ∨ (e.on < j ∧ Bef os i e.on)) := by
 have hb : Region.before os = os.toList.foldl befStep #[] := by
  unfold Region.before
  rw [← Array.foldl_toList]
  rfl
 have hd : ∀ k, (Region.before os).toList.getD k 0 = (os.toList.foldl befStep #[]).getD k 0 := by
  intro k
  rw [hb, Array.getD_eq_getD_getElem?, List.getD_eq_getElem?_getD, Array.getElem?_toList]
 unfold Bef at h ⊢
 rw [hd] at h
 obtain ⟨_, h2⟩ := before_list os.toList #[]
 obtain ⟨e, h3, h4, h5⟩ := h2 j o i (by simpa using ho) (by simpa using h)
 refine ⟨e, h3, h4, ?_⟩
 rcases h5 with h5 | ⟨h5, h6⟩
 ·exact .inl h5
 ·exact .inr ⟨by simpa using h5, by rw [hd]; exact h6⟩
end Go.Ab
