/- Closed facts of the program: its layout. -/
import Derived.Test.YtaodjmfmheifeaaGreatDoorKUpA
set_option linter.unusedSimpArgs false
set_option linter.unusedVariables false
namespace Go.Proofs.YtaodjmfmheifeaaGreatDoor.doors
open Go Go.ChangeShapes Go.WideShapes Go.ChangeAt Go.RowKit
/-- A world whose listed variables hold what the text lays has all blocks of the package-level variables. -/
theorem globals_of {W : World} (h : laidMetH Tryz.prog Rows.forkNilRow.laid W) : 10 ≤ W.heap.size ∧ ∃ (c : Nat) (arr : Array Value) (e : TypeId) (f : Nat × Nat), W.heap[c]? = some (.cells arr e f) := by
  rw [MakeChecks.laidMetH_plain _ _ _ (by kernel_rfl)] at h
  obtain ⟨ps, hv, -, -⟩ := h
  obtain ⟨g0, t0, cs0, f0, p0, q0, hg0, ht0, hv0, hd0, hv, -⟩ := hv
  obtain ⟨g1, t1, cs1, f1, p1, q1, hg1, ht1, hv1, hd1, hv, -⟩ := hv
  obtain ⟨g2, t2, cs2, f2, p2, q2, hg2, ht2, hv2, hd2, hv, -⟩ := hv
  obtain ⟨g3, t3, cs3, f3, p3, q3, hg3, ht3, hv3, hd3, hv, -⟩ := hv
  obtain ⟨g4, t4, cs4, f4, p4, q4, hg4, ht4, hv4, hd4, -, -⟩ := hv
  have e : Tryz.prog.globalNamed "math/bits.deBruijn64tab" = some 9 := by kernel_rfl
  obtain rfl := Option.some.inj (e.symm.trans hg4)
  simp only [World.var?, hg4, Option.bind_some] at hv4
  refine ⟨?_, 9, ?_⟩
  · rcases Nat.lt_or_ge 9 W.heap.size with h | h
    · exact h
    · rw [Array.getElem?_eq_none h] at hv4; cases hv4
  · split at hv4
    · rename_i hh; exact ⟨_, _, _, hh⟩
    · cases hv4
end Go.Proofs.YtaodjmfmheifeaaGreatDoor.doors
