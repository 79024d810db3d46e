/- The summaries that the walks lean on: the law's own checks of examples, which are true. -/
import Derived.Test.YtcjkjjnnicadfaaGreatDoorXFacts
set_option linter.unusedSimpArgs false
set_option linter.unusedVariables false
namespace Go.Proofs.X
open Go Go.Ab
/-- The checks of the examples give true and leave nothing that can be reached. -/
noncomputable def HS : Sums := fun g => if g = 9 then some (fun vs σ => match vs with | [] => some ⟨false, .bool true, σ⟩ | _ => none) else none
theorem ev_san {σ : St} {Q : CR → Prop} {uq : Hd Q} : Ev (go Tryz.prog HS (.fn 9) [] σ) Q uq = Q ⟨false, .bool true, σ⟩ := by
  show Ev (some _) Q _ = _
  rw [ev_some]
theorem cv5_3 {σ : St} {n : Int} : convA Tryz.prog σ 5 3 (.int .u8 n) = some ⟨.int .i64 (IntKind.i64.wrap n), σ, .none⟩ := by kernel_rfl
theorem bq4 {x y : Operand} {a b : Bool} : bin2 Tryz.prog .eql 4 x y (.bool a) (.bool b) = some (.bool (bi a b (!b))) := by cases a <;> cases b <;> kernel_rfl
end Go.Proofs.X
