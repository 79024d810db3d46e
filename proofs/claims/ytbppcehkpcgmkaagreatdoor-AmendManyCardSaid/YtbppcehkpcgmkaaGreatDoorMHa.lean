/- Reading the two texts, as summaries. -/
import Derived.Test.YtbppcehkpcgmkaaGreatDoorMParse
set_option linter.unusedSimpArgs false
set_option linter.unusedVariables false
namespace Go.Proofs.M
open Go Go.Ab
set_option maxRecDepth 1000000
theorem nodP : bsP.Nodup := by decide
theorem nodR : bsR.Nodup := by decide
noncomputable def HS1 : Sums := fun g => if g = 31 then some (mvF [S txt] (.tup (psP.map RP.rv)) rowsP) else if g = 17 then some (mvF [S chs] (.tup (psR.map RP.rv)) rowsR) else CS1 g
theorem hs1_ok {base : Env} (hchk : ∀ n c, base.chk n c = codeOk Tryz.prog n 10 c) : SumsOk Tryz.prog base 10 HS1 := by
  intro g s hs run hE vs σ r h
  unfold HS1 at hs
  split at hs
  · rename_i hg; subst hg; cases hs
    exact mvF_ok hchk funcs_ok (fun lo => sums1 okParts) rfl (fun i j hi hj => atL_inj nodP hi hj) (by rfl) runP h
  · split at hs
    · rename_i hg; subst hg; cases hs
      exact mvF_ok hchk funcs_ok (fun lo => sums1 okParts) rfl (fun i j hi hj => atL_inj nodR hi hj) (by rfl) runR h
    · exact sums1 okParts g s hs run hE vs σ r h
theorem funcs1_ok : funcsOk Tryz.prog HS1 10 Tryz.prog.funcs.toList 0 = true := by kernel_rfl
end Go.Proofs.M
