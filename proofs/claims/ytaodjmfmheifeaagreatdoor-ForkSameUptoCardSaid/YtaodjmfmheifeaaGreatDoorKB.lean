/- A part of the proof: a walk of some functions. -/
import Derived.Test.YtaodjmfmheifeaaGreatDoorGSimp
set_option linter.unusedSimpArgs false
set_option linter.unusedVariables false
namespace Go.Proofs.G
open Go Go.Ab
set_option maxRecDepth 100000
section
variable {x y : Operand}
theorem shl_ex {k : Nat} (h : k < 4) : ∃ N : Int, 2 ≤ N ∧ N ≤ 16 ∧ ∀ x y : Operand, bin2 Tryz.prog .shl 3 x y (.int .i64 1) (.int .i64 (1 + (k : Int))) = some (.int .i64 N) := by
  rcases (by omega : k = 0 ∨ k = 1 ∨ k = 2 ∨ k = 3) with rfl | rfl | rfl | rfl
  · exact ⟨2, by omega, by omega, fun x y => by kernel_rfl⟩
  · exact ⟨4, by omega, by omega, fun x y => by kernel_rfl⟩
  · exact ⟨8, by omega, by omega, fun x y => by kernel_rfl⟩
  · exact ⟨16, by omega, by omega, fun x y => by kernel_rfl⟩
theorem shr_ex {w : Int} {k : Nat} (h0 : 0 ≤ w) (h1 : w < 16) (h : k < 4) : ∃ s : Int, 0 ≤ s ∧ s < 16 ∧ ∀ x y : Operand, bin2 Tryz.prog .shr 3 x y (.int .i64 w) (.int .i64 (k : Int)) = some (.int .i64 s) := by
  rcases (by omega : w = 0 ∨ w = 1 ∨ w = 2 ∨ w = 3 ∨ w = 4 ∨ w = 5 ∨ w = 6 ∨ w = 7 ∨ w = 8 ∨ w = 9 ∨ w = 10 ∨ w = 11 ∨ w = 12 ∨ w = 13 ∨ w = 14 ∨ w = 15) with rfl | rfl | rfl | rfl | rfl | rfl | rfl | rfl | rfl | rfl | rfl | rfl | rfl | rfl | rfl | rfl
  all_goals rcases (by omega : k = 0 ∨ k = 1 ∨ k = 2 ∨ k = 3) with rfl | rfl | rfl | rfl
  · exact ⟨0, by omega, by omega, fun x y => by kernel_rfl⟩
  · exact ⟨0, by omega, by omega, fun x y => by kernel_rfl⟩
  · exact ⟨0, by omega, by omega, fun x y => by kernel_rfl⟩
  · exact ⟨0, by omega, by omega, fun x y => by kernel_rfl⟩
  · exact ⟨1, by omega, by omega, fun x y => by kernel_rfl⟩
  · exact ⟨0, by omega, by omega, fun x y => by kernel_rfl⟩
  · exact ⟨0, by omega, by omega, fun x y => by kernel_rfl⟩
  · exact ⟨0, by omega, by omega, fun x y => by kernel_rfl⟩
  · exact ⟨2, by omega, by omega, fun x y => by kernel_rfl⟩
  · exact ⟨1, by omega, by omega, fun x y => by kernel_rfl⟩
  · exact ⟨0, by omega, by omega, fun x y => by kernel_rfl⟩
  · exact ⟨0, by omega, by omega, fun x y => by kernel_rfl⟩
  · exact ⟨3, by omega, by omega, fun x y => by kernel_rfl⟩
  · exact ⟨1, by omega, by omega, fun x y => by kernel_rfl⟩
  · exact ⟨0, by omega, by omega, fun x y => by kernel_rfl⟩
  · exact ⟨0, by omega, by omega, fun x y => by kernel_rfl⟩
  · exact ⟨4, by omega, by omega, fun x y => by kernel_rfl⟩
  · exact ⟨2, by omega, by omega, fun x y => by kernel_rfl⟩
  · exact ⟨1, by omega, by omega, fun x y => by kernel_rfl⟩
  · exact ⟨0, by omega, by omega, fun x y => by kernel_rfl⟩
  · exact ⟨5, by omega, by omega, fun x y => by kernel_rfl⟩
  · exact ⟨2, by omega, by omega, fun x y => by kernel_rfl⟩
  · exact ⟨1, by omega, by omega, fun x y => by kernel_rfl⟩
  · exact ⟨0, by omega, by omega, fun x y => by kernel_rfl⟩
  · exact ⟨6, by omega, by omega, fun x y => by kernel_rfl⟩
  · exact ⟨3, by omega, by omega, fun x y => by kernel_rfl⟩
  · exact ⟨1, by omega, by omega, fun x y => by kernel_rfl⟩
  · exact ⟨0, by omega, by omega, fun x y => by kernel_rfl⟩
  · exact ⟨7, by omega, by omega, fun x y => by kernel_rfl⟩
  · exact ⟨3, by omega, by omega, fun x y => by kernel_rfl⟩
  · exact ⟨1, by omega, by omega, fun x y => by kernel_rfl⟩
  · exact ⟨0, by omega, by omega, fun x y => by kernel_rfl⟩
  · exact ⟨8, by omega, by omega, fun x y => by kernel_rfl⟩
  · exact ⟨4, by omega, by omega, fun x y => by kernel_rfl⟩
  · exact ⟨2, by omega, by omega, fun x y => by kernel_rfl⟩
  · exact ⟨1, by omega, by omega, fun x y => by kernel_rfl⟩
  · exact ⟨9, by omega, by omega, fun x y => by kernel_rfl⟩
  · exact ⟨4, by omega, by omega, fun x y => by kernel_rfl⟩
  · exact ⟨2, by omega, by omega, fun x y => by kernel_rfl⟩
  · exact ⟨1, by omega, by omega, fun x y => by kernel_rfl⟩
  · exact ⟨10, by omega, by omega, fun x y => by kernel_rfl⟩
  · exact ⟨5, by omega, by omega, fun x y => by kernel_rfl⟩
  · exact ⟨2, by omega, by omega, fun x y => by kernel_rfl⟩
  · exact ⟨1, by omega, by omega, fun x y => by kernel_rfl⟩
  · exact ⟨11, by omega, by omega, fun x y => by kernel_rfl⟩
  · exact ⟨5, by omega, by omega, fun x y => by kernel_rfl⟩
  · exact ⟨2, by omega, by omega, fun x y => by kernel_rfl⟩
  · exact ⟨1, by omega, by omega, fun x y => by kernel_rfl⟩
  · exact ⟨12, by omega, by omega, fun x y => by kernel_rfl⟩
  · exact ⟨6, by omega, by omega, fun x y => by kernel_rfl⟩
  · exact ⟨3, by omega, by omega, fun x y => by kernel_rfl⟩
  · exact ⟨1, by omega, by omega, fun x y => by kernel_rfl⟩
  · exact ⟨13, by omega, by omega, fun x y => by kernel_rfl⟩
  · exact ⟨6, by omega, by omega, fun x y => by kernel_rfl⟩
  · exact ⟨3, by omega, by omega, fun x y => by kernel_rfl⟩
  · exact ⟨1, by omega, by omega, fun x y => by kernel_rfl⟩
  · exact ⟨14, by omega, by omega, fun x y => by kernel_rfl⟩
  · exact ⟨7, by omega, by omega, fun x y => by kernel_rfl⟩
  · exact ⟨3, by omega, by omega, fun x y => by kernel_rfl⟩
  · exact ⟨1, by omega, by omega, fun x y => by kernel_rfl⟩
  · exact ⟨15, by omega, by omega, fun x y => by kernel_rfl⟩
  · exact ⟨7, by omega, by omega, fun x y => by kernel_rfl⟩
  · exact ⟨3, by omega, by omega, fun x y => by kernel_rfl⟩
  · exact ⟨1, by omega, by omega, fun x y => by kernel_rfl⟩
theorem and_ex {w : Int} (h0 : 0 ≤ w) (h1 : w < 16) : ∃ s : Int, ∀ x y : Operand, bin2 Tryz.prog .and 3 x y (.int .i64 w) (.int .i64 1) = some (.int .i64 s) := by
  rcases (by omega : w = 0 ∨ w = 1 ∨ w = 2 ∨ w = 3 ∨ w = 4 ∨ w = 5 ∨ w = 6 ∨ w = 7 ∨ w = 8 ∨ w = 9 ∨ w = 10 ∨ w = 11 ∨ w = 12 ∨ w = 13 ∨ w = 14 ∨ w = 15) with rfl | rfl | rfl | rfl | rfl | rfl | rfl | rfl | rfl | rfl | rfl | rfl | rfl | rfl | rfl | rfl
  · exact ⟨0, fun x y => by kernel_rfl⟩
  · exact ⟨1, fun x y => by kernel_rfl⟩
  · exact ⟨0, fun x y => by kernel_rfl⟩
  · exact ⟨1, fun x y => by kernel_rfl⟩
  · exact ⟨0, fun x y => by kernel_rfl⟩
  · exact ⟨1, fun x y => by kernel_rfl⟩
  · exact ⟨0, fun x y => by kernel_rfl⟩
  · exact ⟨1, fun x y => by kernel_rfl⟩
  · exact ⟨0, fun x y => by kernel_rfl⟩
  · exact ⟨1, fun x y => by kernel_rfl⟩
  · exact ⟨0, fun x y => by kernel_rfl⟩
  · exact ⟨1, fun x y => by kernel_rfl⟩
  · exact ⟨0, fun x y => by kernel_rfl⟩
  · exact ⟨1, fun x y => by kernel_rfl⟩
  · exact ⟨0, fun x y => by kernel_rfl⟩
  · exact ⟨1, fun x y => by kernel_rfl⟩
end
end Go.Proofs.G
