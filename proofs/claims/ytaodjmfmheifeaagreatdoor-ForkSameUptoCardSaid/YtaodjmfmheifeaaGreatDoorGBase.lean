/- The summaries that the walks lean on, and conversions. -/
import Derived.Test.YtaodjmfmheifeaaGreatDoorGFacts
set_option linter.unusedSimpArgs false
set_option linter.unusedVariables false
namespace Go.Proofs.G
open Go Go.Ab
/-- The checks of the examples give true and leave nothing that can be reached. -/
noncomputable def KS : Sums := fun g => if g = 259 then some (.plain fun _ _ => none) else if g = 431 then some (.plain fun _ _ => none) else none
noncomputable def HS : Sums := fun g => if g = 6 then some (.plain fun vs σ => match vs with | [] => some ⟨false, .bool true, σ⟩ | _ => none) else KS g
theorem ev_san {σ : St} {Q : CR → Prop} {uq : Hd Q} : Ev (go Tryz.prog HS (.fn 6) [] σ) Q uq = Q ⟨false, .bool true, σ⟩ := by
  show Ev (some _) Q _ = _
  rw [ev_some]
theorem cv_u8_int {σ : St} {n : Int} : convA Tryz.prog σ 5 3 (.int .u8 n) = some ⟨.int .i64 (IntKind.i64.wrap n), σ, .none⟩ := by kernel_rfl
theorem cv_int_u8 {σ : St} {n : Int} : convA Tryz.prog σ 3 5 (.int .i64 n) = some ⟨.int .u8 (IntKind.u8.wrap n), σ, .none⟩ := by kernel_rfl
theorem cv_bytes {σ : St} {b off n c : Nat} {sp : Option Nat} : convA Tryz.prog σ 455 9 (.slice (some ⟨b, off, sp⟩) n c) = ob (σ.read b off n) fun vs => ob (unbytes vs) fun l => some ⟨str l, σ, .read ⟨b, off, n⟩⟩ := conv_slice (e := 5) (by kernel_rfl) (by kernel_rfl) (by kernel_rfl)
theorem cv_str {σ : St} {l : List UInt8} : convA Tryz.prog σ 9 455 (str l) = some ⟨.slice (some ⟨σ.n, 0, some 1⟩) l.length l.length, σ.new (bytesV l), .none⟩ := by kernel_rfl
theorem ix_str {l : List UInt8} {i : Nat} : indexV Tryz.prog 9 (str l) i = ob (sub l i 1) oneB := by kernel_rfl
theorem ss_str {l : List UInt8} {lo hi : Option Value} : sliceV Tryz.prog 9 (str l) lo hi = ob (bnds l.length l.length lo hi) fun p => pr p fun lo hi => ob (sub l lo (hi - lo)) fun l => some (str l) := by kernel_rfl
theorem bq_bool {x y : Operand} {a b : Bool} : bin2 Tryz.prog .eql 4 x y (.bool a) (.bool b) = some (.bool (bi a b (!b))) := by cases a <;> cases b <;> kernel_rfl
theorem natl {k : IntKind} : nat? (.int k 1) = some 1 ∧ nat? (.int k 2) = some 2 ∧ nat? (.int k 3) = some 3 ∧ nat? (.int k 4) = some 4 ∧ nat? (.int k 5) = some 5 ∧ nat? (.int k 6) = some 6 ∧ nat? (.int k 7) = some 7 ∧ nat? (.int k 8) = some 8 ∧ nat? (.int k 9) = some 9 ∧ nat? (.int k 10) = some 10 ∧ nat? (.int k 11) = some 11 ∧ nat? (.int k 12) = some 12 ∧ nat? (.int k 13) = some 13 ∧ nat? (.int k 14) = some 14 ∧ nat? (.int k 15) = some 15 ∧ nat? (.int k 16) = some 16 := ⟨rfl, rfl, rfl, rfl, rfl, rfl, rfl, rfl, rfl, rfl, rfl, rfl, rfl, rfl, rfl, rfl⟩
end Go.Proofs.G
