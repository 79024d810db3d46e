/- All runs of TypesPowers. -/
import Derived.Test.YthjkgbomoaghoaaGreatDoorBP0
import Derived.Test.YthjkgbomoaghoaaGreatDoorBP1
import Derived.Test.YthjkgbomoaghoaaGreatDoorBP2
import Derived.Test.YthjkgbomoaghoaaGreatDoorBP3
import Derived.Test.YthjkgbomoaghoaaGreatDoorBP4
import Derived.Test.YthjkgbomoaghoaaGreatDoorBP5
set_option linter.unusedSimpArgs false
set_option linter.unusedVariables false
namespace Go.Proofs.B
open Go Go.Ab
theorem hrun : ∀ n m a b : Int, 0 ≤ a ∧ a < 6 → 0 ≤ b ∧ b < 6 → okTrue (rest n m a b) = true := by
  intro n m a b ha hb
  rcases (by omega : a = 0 ∨ a = 1 ∨ a = 2 ∨ a = 3 ∨ a = 4 ∨ a = 5) with rfl | rfl | rfl | rfl | rfl | rfl <;> rcases (by omega : b = 0 ∨ b = 1 ∨ b = 2 ∨ b = 3 ∨ b = 4 ∨ b = 5) with rfl | rfl | rfl | rfl | rfl | rfl
  · exact run00 n m
  · exact run01 n m
  · exact run02 n m
  · exact run03 n m
  · exact run04 n m
  · exact run05 n m
  · exact run10 n m
  · exact run11 n m
  · exact run12 n m
  · exact run13 n m
  · exact run14 n m
  · exact run15 n m
  · exact run20 n m
  · exact run21 n m
  · exact run22 n m
  · exact run23 n m
  · exact run24 n m
  · exact run25 n m
  · exact run30 n m
  · exact run31 n m
  · exact run32 n m
  · exact run33 n m
  · exact run34 n m
  · exact run35 n m
  · exact run40 n m
  · exact run41 n m
  · exact run42 n m
  · exact run43 n m
  · exact run44 n m
  · exact run45 n m
  · exact run50 n m
  · exact run51 n m
  · exact run52 n m
  · exact run53 n m
  · exact run54 n m
  · exact run55 n m
end Go.Proofs.B
