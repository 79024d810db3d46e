/- A part of the proof: a walk of some functions. -/
import Derived.Test.YtaodjmfmheifeaaGreatDoorGBase
import Derived.Test.YtaodjmfmheifeaaGreatDoorAbG
set_option linter.unusedSimpArgs false
set_option linter.unusedVariables false
namespace Go.Proofs.G
open Go Go.Ab
set_option maxRecDepth 1000000
theorem funcs_ok : funcsOk Tryz.prog KS 10 Tryz.prog.funcs.toList 0 = true := by kernel_rfl
theorem funcs_okH : funcsOk Tryz.prog HS 10 Tryz.prog.funcs.toList 0 = true := by kernel_rfl
theorem mixed : Tryz.prog.follows .mixedOrders = true := by kernel_rfl
def okTrue : Option CR → Bool
  | some ⟨false, .bool b, _⟩ => b
  | _ => false
theorem okTrue_eq {x : Option CR} (h : okTrue x = true) : ∃ σ, x = some ⟨false, .bool true, σ⟩ := by
  unfold okTrue at h
  split at h
  · subst h; exact ⟨_, rfl⟩
  · cases h
theorem san : okTrue (callF Tryz.prog KS (exec Tryz.prog KS 100000) (.fn 6) [] ⟨.nil, 10⟩) = true := by kernel_rfl
theorem ks_none {g : Nat} {s : Summ} (h : KS g = some s) : s = .plain fun _ _ => none := by
  unfold KS at h
  split at h
  · cases h; rfl
  · split at h
    · cases h; rfl
    · cases h
theorem ks_ok {base : Env} : SumsOk Tryz.prog base 10 KS := by
  intro g s hg run hE vs σ r hr
  rw [ks_none hg] at hr
  cases hr
/-- The summary of the checks is what the model does. -/
theorem sums_ok {base : Env} (hchk : ∀ n c, base.chk n c = codeOk Tryz.prog n 10 c) : SumsOk Tryz.prog base 10 HS := by
  intro g s hg run hE vs σ r hr
  unfold HS at hg
  split at hg
  · rename_i h9
    subst h9
    cases hg
    cases vs with
    | nil =>
      cases hr
      refine ⟨.refl _, fun ρ w vs' N hR hF hN hG hv => ?_⟩
      cases hv
      obtain ⟨σ1, h⟩ := okTrue_eq san
      exact closed_sum2 mixed hchk funcs_ok (fun lo => ks_ok) rfl (fun b B hb => by cases hb) rfl h σ (N := N) hR hG (nil_rel hR)
    | cons v vs => cases hr
  · exact ks_ok g s hg run hE vs σ r hr
end Go.Proofs.G
