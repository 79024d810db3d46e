/- What the bound on an argument's bulk gives; the world of the witness; what the listed variables say of the heap. -/
import Derived.Test.YtaodjmfmheifeaaGreatDoorKDoor
import Derived.Deep.DeepHandedRow
set_option linter.unusedSimpArgs false
set_option linter.unusedVariables false
namespace Go.Proofs.YtaodjmfmheifeaaGreatDoor.bulks
theorem one_le {H : Type} (d : DataW H) : 1 ≤ Rows.uptoBulk d := by
  cases d with
  | lit l => cases l <;> simp [Rows.uptoBulk]
  | nil => simp [Rows.uptoBulk]
  | ptr d => simp [Rows.uptoBulk]
  | slice elems spare => simp [Rows.uptoBulk]
  | agg parts => simp [Rows.uptoBulk]
  | iface t d => simp [Rows.uptoBulk]
  | map entries => simp [Rows.uptoBulk]
  | held h => simp [Rows.uptoBulk]

/-- a part's bulk is at most the whole's -/
theorem part_le {H : Type} {d : DataW H} {l : List (DataW H)} (h : d ∈ l) : Rows.uptoBulk d ≤ Rows.uptoBulkAll l := by
  induction l with
  | nil => cases h
  | cons x r ih =>
    simp only [Rows.uptoBulkAll]
    cases List.mem_cons.1 h with
    | inl e => subst e; omega
    | inr e => have := ih e; omega

theorem append {H : Type} (l r : List (DataW H)) : Rows.uptoBulkAll (l ++ r) = Rows.uptoBulkAll l + Rows.uptoBulkAll r := by
  induction l with
  | nil => simp [Rows.uptoBulkAll]
  | cons x l ih => simp only [List.cons_append, Rows.uptoBulkAll, ih]; omega

/-- so many values at the most -/
theorem length_le {H : Type} (l : List (DataW H)) : l.length ≤ Rows.uptoBulkAll l := by
  induction l with
  | nil => simp [Rows.uptoBulkAll]
  | cons x r ih => have := one_le x; simp only [Rows.uptoBulkAll, List.length_cons]; omega

/-- a slice's places, and what they hold -/
theorem slice_le {H : Type} (elems spare : List (DataW H)) : elems.length + spare.length + 1 ≤ Rows.uptoBulk (.slice elems spare) := by
  have h1 := length_le elems
  have h2 := length_le spare
  simp only [Rows.uptoBulk]
  omega
theorem slice_elems {H : Type} (elems spare : List (DataW H)) : Rows.uptoBulkAll elems + 1 ≤ Rows.uptoBulk (.slice elems spare) := by
  simp only [Rows.uptoBulk]
  omega

/-- a string's letters -/
theorem string_eq {H : Type} (bytes : List UInt8) : Rows.uptoBulk (DataW.lit (H := H) (.string bytes)) = bytes.length + 1 := by
  simp [Rows.uptoBulk]

/-- THE BOUND, as the builder hands it over ('hk') -/
theorem bound {H : Type} {l : List (DataW H)} (hk : Rows.uptoSmall H l = true) : Rows.uptoBulkAll l ≤ 1048576 := by
  simpa [Rows.uptoSmall] using hk

end Go.Proofs.YtaodjmfmheifeaaGreatDoor.bulks
namespace Go.Proofs.YtaodjmfmheifeaaGreatDoor.doors
open Go Go.ChangeShapes Go.WideShapes Go.ChangeAt Go.RowKit
section
variable {H : Type} {enc : TypeId × Value → H} {P : Program} {w : World} {base : Nat} {sp : Nat → Bool} {held : Bool} {fuel : Nat}
theorem slice_bulk {t e : TypeId} {a : Option Addr} {n k : Nat} {d : DataW H} {q : List MemPlace} (ht : P.underlying t = some (.slice e)) (h : DataW.trod enc P w base sp held fuel t [.slice a n k] = some (d, q)) : n ≤ Rows.uptoBulk d := by
  rcases DataW.trod_slice ht h with ⟨h1, -⟩ | ⟨a', len, cap, elems, rest, m, -, h1, hx, -, -, -, hlen, -⟩
  · simp at h1; omega
  · simp only [List.cons.injEq, Value.slice.injEq, and_true] at h1
    obtain ⟨-, rfl, -⟩ := h1
    simp only [Prod.mk.injEq] at hx
    rw [hx.1]
    have := bulks.slice_le (elems.map (·.1)) (rest.map (·.1))
    rw [List.length_map] at this
    omega
theorem two_slices {t e : TypeId} {r : Reach} {b0 : Nat} {cs : List Value} {d : DataW H} {q : List MemPlace} (ht : P.underlying t = some (.array 2 e)) {g : TypeId} (he : P.underlying e = some (.slice g)) (hc : P.cellsOf e = 1) (hc2 : P.cellsOf t = 2) (h : DataW.trod enc P w base sp held fuel t cs = some (d, q)) :
    ∃ s0 n0 k0 s1 n1 k1, cs = [.slice s0 n0 k0, .slice s1 n1 k1] ∧ n0 ≤ Rows.uptoBulk d ∧ n1 ≤ Rows.uptoBulk d := by
  obtain ⟨xs, m, -, hx, hlen, hxl, hi⟩ := DataW.trod_array ht h
  simp only [Prod.mk.injEq] at hx
  rw [hc2] at hlen
  match cs, hlen with
  | [x, y], _ =>
    have h0 := hi 0 (by omega)
    have h1 := hi 1 (by omega)
    rw [hc] at h0 h1
    match xs, hxl with
    | [u, v], _ =>
      have h0' : DataW.trod enc P w base sp held m e [x] = some u := h0
      have h1' : DataW.trod enc P w base sp held m e [y] = some v := h1
      have sl : ∀ {x : Value} {u : DataW H × List MemPlace}, DataW.trod enc P w base sp held m e [x] = some u → ∃ s n k, x = .slice s n k := by
        intro x u h
        rcases DataW.trod_slice he h with ⟨h1, -⟩ | ⟨a', len, cap, elems, rest, m, -, h1, -⟩
        · simp at h1; exact ⟨_, _, _, h1⟩
        · simp at h1; exact ⟨_, _, _, h1⟩
      obtain ⟨s0, n0, k0, rfl⟩ := sl h0'
      obtain ⟨s1, n1, k1, rfl⟩ := sl h1'
      have b0 := slice_bulk (d := u.1) (q := u.2) he h0'
      have b1 := slice_bulk (d := v.1) (q := v.2) he h1'
      refine ⟨_, _, _, _, _, _, rfl, ?_, ?_⟩
      · rw [hx.1]; simp only [List.map_cons, List.map_nil, Rows.uptoBulk, Rows.uptoBulkAll]; omega
      · rw [hx.1]; simp only [List.map_cons, List.map_nil, Rows.uptoBulk, Rows.uptoBulkAll]; omega
end
theorem witness_row_shaped {H : Type} {enc : TypeId × Value → H} {C : Checked} {os : Os} {f : FuncId} {fn : Func} {s : OpenSpec} {conds : List PathCond} {apart : Bool} {laid : List (String × DataW Unit)} (modest : Bool) (w0 : World) (args : Array Value) (hos : w0.os = os)
    (hsh : (w0.forCall (fun _ _ => 0) ⟨#[], args, []⟩).Shaped C.prog)
    (hok : Input.okWideB C.prog (w0.forCall (fun _ _ => 0) ⟨#[], args, []⟩) f ⟨#[], args, []⟩ = true)
    (hrow : s.preRow enc C.prog fn conds apart laid (w0.forCall (fun _ _ => 0) ⟨#[], args, []⟩).memory args) :
    ∃ (w : World) (tape : Tape) (i : Input), w.os = os ∧ (w.forCall tape i).Shaped C.prog ∧ i.vars = [] ∧ Input.okWide C.prog (w.forCall tape i) .any w.heap.size f i ∧
      s.preRow enc C.prog fn conds apart laid (w.forCall tape i).memory i.args ∧ ({ modest := modest } : Assume).holds C.prog (lone (Frame.enter C.prog f i.args .normal) [] (w.forCall tape i)) :=
  ⟨w0, fun _ _ => 0, ⟨#[], args, []⟩, hos, hsh, (Input.okWide_of_okWideB (base := 0) hok).1, (Input.okWide_of_okWideB hok).2, hrow, by
    simp only [Assume.holds]
    exact ⟨by simp, by simp, fun _ => Modest.zero, by simp, by simp⟩⟩
end Go.Proofs.YtaodjmfmheifeaaGreatDoor.doors
