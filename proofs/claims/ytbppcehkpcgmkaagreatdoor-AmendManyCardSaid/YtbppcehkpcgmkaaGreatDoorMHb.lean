/- Compiling the text, and the examples, as summaries. -/
import Derived.Test.YtbppcehkpcgmkaaGreatDoorMComp
import Derived.Test.YtbppcehkpcgmkaaGreatDoorMSanR
import Derived.Test.YtbppcehkpcgmkaaGreatDoorAbD
set_option linter.unusedSimpArgs false
set_option linter.unusedVariables false
namespace Go.Proofs.M
open Go Go.Ab
set_option maxRecDepth 1000000
theorem nodC : bsC.Nodup := by decide
noncomputable def HS : Sums := fun g => if g = 16 then some (mvF [S txt, .int .i64 1048576] (.tup (psC.map RP.rv)) rowsC) else if g = 4 then some (.plain fun vs σ => match vs with | [] => bb (sameRow (σ.read 1 0 20) (some pows)) (some ⟨false, .bool true, σ⟩) | _ => none) else CS1 g
theorem hs_ok {base : Env} (hchk : ∀ n c, base.chk n c = codeOk Tryz.prog n 10 c) : SumsOk Tryz.prog base 10 HS := by
  intro g s hs run hE vs σ r h
  unfold HS at hs
  split at hs
  · rename_i hg; subst hg; cases hs
    exact mvF_ok hchk funcs1_ok (fun lo => hs1_ok (base := { base with lo := lo }) hchk) rfl (fun i j hi hj => atL_inj nodC hi hj) (by rfl) runC h
  · split at hs
    · rename_i hg; subst hg; cases hs
      cases vs with
      | nil =>
        obtain ⟨h1, h2⟩ := bb_eq (show bb (sameRow (σ.read 1 0 20) (some pows)) (some ⟨false, .bool true, σ⟩) = some r from h)
        cases h2
        refine ⟨.refl _, fun ρ w vs' N hR hF hN hG hv => ?_⟩
        cases hv
        obtain ⟨σ1, hs⟩ := okTrue_eq runS
        exact closed_sum2 mixed hchk funcs1_ok (fun lo => hs1_ok (base := { base with lo := lo }) hchk) (by rfl) (fun b B hb => by obtain ⟨-, rfl⟩ := start_blk hb; rfl) rfl hs σ (N := N) hR hG (start_rel hR hG (sameRow_eq h1))
      | cons v vs => cases h
    · exact sums1 okParts g s hs run hE vs σ r h
theorem funcsOk_HS : funcsOk Tryz.prog HS 10 Tryz.prog.funcs.toList 0 = true := by kernel_rfl
end Go.Proofs.M
