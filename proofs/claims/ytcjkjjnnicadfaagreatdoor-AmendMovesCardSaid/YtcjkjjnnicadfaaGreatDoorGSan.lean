/- A part of the proof: a walk of some functions. -/
import Derived.Test.YtcjkjjnnicadfaaGreatDoorGA
set_option linter.unusedSimpArgs false
set_option linter.unusedVariables false
namespace Go.Proofs.G
open Go Go.Ab
set_option maxRecDepth 1000000
theorem funcs_ok : funcsOk Tryz.prog (fun _ => none) 6 Tryz.prog.funcs.toList 0 = true := by kernel_rfl
theorem mixed : Tryz.prog.follows .mixedOrders = true := by kernel_rfl
def okTrue : Option CR → Bool
 | some ⟨false, .bool b, _⟩ => b
 | _ => false
theorem okTrue_eq {x : Option CR} (h : okTrue x = true) : ∃ σ, x = some ⟨false, .bool true, σ⟩ := by
 unfold okTrue at h
 split at h
 ·subst h; exact ⟨_, rfl⟩
 ·cases h
theorem san : okTrue (callF Tryz.prog (fun _ => none) (exec Tryz.prog (fun _ => none) 100000) (.fn 9) [] ⟨.nil, 6⟩) = true := by kernel_rfl
theorem sums_ok {base : Env} (hchk : ∀ n c, base.chk n c = codeOk Tryz.prog n 6 c) : SumsOk Tryz.prog base 6 HS := by
 intro g s hg vs σ r hr
 unfold HS at hg
 split at hg
 ·rename_i h9
  subst h9
  cases hg
  cases vs with
  | nil =>
   cases hr
   refine ⟨.refl _, fun ρ w vs' N hR hF hN hG hv => ?_⟩
   cases hv
   obtain ⟨σ1, h⟩ := okTrue_eq san
   exact closed_sum mixed hchk funcs_ok rfl h σ (N := N) hR hG
  | cons v vs => cases hr
 ·cases hg
end Go.Proofs.G
