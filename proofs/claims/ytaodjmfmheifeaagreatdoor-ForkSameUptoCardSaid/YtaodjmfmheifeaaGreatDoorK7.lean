/- A part of the proof: a walk of some functions. -/
import Derived.Test.YtaodjmfmheifeaaGreatDoorK6
set_option linter.unusedSimpArgs false
set_option linter.unusedVariables false
namespace Go.Proofs.G
open Go Go.Ab
set_option maxRecDepth 100000
section
variable {x y : Operand}
theorem beq_dec {a b : Int} : (a == b) = decide (a = b) := by rw [Bool.eq_iff_iff]; simp
theorem bi_and {a b : Bool} : bi a (some b) (some false) = some (a && b) := by cases a <;> rfl
theorem b2_cho {a b : Int × Int × Int} : bin2 Tryz.prog .neq 48 x y (.agg ⟨four a⟩) (.agg ⟨four b⟩) = some (.bool (!decide (a = b))) := by
  have he : eqF Tryz.prog 9999 ⟨four a⟩ ⟨four b⟩ (Tryz.prog.fieldsOf 48).toList = bi (a.1 == b.1) (bi (a.2.1 == b.2.1) (bi (a.2.2 == b.2.2) (bi ((0 : Int) == 0) (some true) (some false)) (some false)) (some false)) (some false) := by kernel_rfl
  have h := (b2_struct (x := x) (y := y) rfl (by kernel_rfl) (by kernel_rfl) (by kernel_rfl) he).2
  rw [bi_and, bi_and, bi_and, bi_and, beq_dec, beq_dec, beq_dec, beq_self_eq_true, Bool.and_true, Bool.and_true] at h
  have e : (decide (a.1 = b.1) && (decide (a.2.1 = b.2.1) && decide (a.2.2 = b.2.2))) = decide (a = b) := by
    obtain ⟨a1, a2, a3⟩ := a
    obtain ⟨b1, b2, b3⟩ := b
    rw [Bool.eq_iff_iff]; simp
  rw [e] at h
  exact h
theorem b2_tri {a b : Int × Int × Int} : bin2 Tryz.prog .neq 79 x y (.agg ⟨tri a⟩) (.agg ⟨tri b⟩) = some (.bool (!decide (a = b))) := by
  have he : eqA Tryz.prog 9999 3 1 ⟨tri a⟩ ⟨tri b⟩ (List.range' 0 3) = bi (a.1 == b.1) (bi (a.2.1 == b.2.1) (bi (a.2.2 == b.2.2) (some true) (some false)) (some false)) (some false) := by kernel_rfl
  have h := (b2_arr (x := x) (y := y) (t := 79) (elem := 3) (n := 1) (len := 3) rfl (by kernel_rfl) (by kernel_rfl) (by kernel_rfl) he).2
  rw [bi_and, bi_and, bi_and, beq_dec, beq_dec, beq_dec, Bool.and_true] at h
  have e : (decide (a.1 = b.1) && (decide (a.2.1 = b.2.1) && decide (a.2.2 = b.2.2))) = decide (a = b) := by
    obtain ⟨a1, a2, a3⟩ := a
    obtain ⟨b1, b2, b3⟩ := b
    rw [Bool.eq_iff_iff]; simp
  rw [e] at h
  exact h
end
end Go.Proofs.G
