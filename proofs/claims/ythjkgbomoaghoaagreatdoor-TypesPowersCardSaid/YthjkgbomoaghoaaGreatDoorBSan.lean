/- The checks of the examples of layer 3 give true. -/
import Derived.Test.YthjkgbomoaghoaaGreatDoorBCaught
set_option linter.unusedSimpArgs false
set_option linter.unusedVariables false
namespace Go.Proofs.B
open Go Go.Ab
set_option maxRecDepth 1000000
theorem okParts : codeOk Tryz.prog 7 10 parts.1 = true ∧ codeOk Tryz.prog 7 10 parts.2.2.1 = true ∧ codeOk Tryz.prog 7 10 parts.2.2.2 = true := ⟨by kernel_rfl, by kernel_rfl, by kernel_rfl⟩
def okTrue : Option CR → Bool
  | some ⟨false, .bool b, _⟩ => b
  | _ => false
def okAny : Option CR → Bool
  | some ⟨false, _, _⟩ => true
  | _ => false
/-- What the table of powers of ten holds. -/
def pows : List Value := [.int .u64 1, .int .u64 10, .int .u64 100, .int .u64 1000, .int .u64 10000, .int .u64 100000, .int .u64 1000000, .int .u64 10000000, .int .u64 100000000, .int .u64 1000000000, .int .u64 10000000000, .int .u64 100000000000, .int .u64 1000000000000, .int .u64 10000000000000, .int .u64 100000000000000, .int .u64 1000000000000000, .int .u64 10000000000000000, .int .u64 100000000000000000, .int .u64 1000000000000000000, .int .u64 10000000000000000000]
noncomputable def start : St := ⟨Tr.nil.set 0 ⟨pows, true, false, 0, .row⟩, 10⟩
theorem san : okTrue (callF Tryz.prog CS (exec Tryz.prog CS 100000) (.fn 9) [] start) = true := by kernel_rfl
end Go.Proofs.B
