/- probitylaw08.AmendMany returns true for every input, and its argument reads afterwards as it read before; where the listed package-level variables hold what the program's text lays. -/
import Derived.Test.YtbppcehkpcgmkaaGreatDoorMWalk
import Derived.Test.YtbppcehkpcgmkaaGreatDoorRows
import Derived.Test.YtbppcehkpcgmkaaGreatDoorCards
import Derived.Test.YtbppcehkpcgmkaaGreatDoorTie
import Derived.WalkKit
import Derived.ProofKit
import Derived.OpenShut
import Derived.ShutString
import Derived.ChangeOld
import Derived.Below
import Derived.LaidMore
import Derived.Lay
import Derived.Stop.Joined
import Derived.SevenTiedAt
import Derived.ChangeReads
set_option linter.unusedSimpArgs false
set_option linter.unusedVariables false
namespace Go.Proofs.YtbppcehkpcgmkaaGreatDoor.amendMany
open Go Go.ChangeShapes Go.WideShapes Go.ChangeAt Go.RowKit
open Go.ChangeMaps (open_string shut_string)
set_option linter.unusedVariables false

theorem own : ownKnob Tryz.prog.godebug = none := by kernel_rfl


theorem nine : ((((begin Tryz.prog (fun _ _ => 0) default).world).heap[9]?).bind Obj.row?).isSome = true := by kernel_rfl
theorem ten : 9 < Tryz.prog.globals.size := Nat.lt_of_lt_of_eq (show 9 < 10 by decide) (show 10 = Tryz.prog.globals.size by kernel_rfl)
/-- A world of this program has all blocks of the package-level variables. -/
theorem globals_of {W : World} (h : W.ShapedOpen Tryz.prog) : 10 ≤ W.heap.size := by
  obtain ⟨⟨z, t⟩, hz⟩ := Option.isSome_iff_exists.1 nine
  obtain ⟨cs, hc, -⟩ := h.1 9 z t ten hz
  rcases Nat.lt_or_ge 9 W.heap.size with h | h
  · exact h
  · rw [Array.getElem?_eq_none h] at hc; cases hc

theorem door_met (os : Os) (args : Array Value) : laidMetH Tryz.prog Rows.amendManyRow.laid ((World.laidAll Tryz.prog os Rows.amendManyRow.laid).forCall (fun _ _ => 0) ⟨#[], args, []⟩).memory := by
  rw [MakeChecks.laidMetH_plain _ _ _ (by kernel_rfl)]
  exact laidMet_laidAll _ (by kernel_rfl) (by kernel_rfl)

set_option maxRecDepth 100000 in
theorem lifted (os : Os) (started : os.Started) (H : Type) (enc : TypeId × Value → H) :
    ReturnsInHanded {} Tryz.checked os 3 .any (fun w args => (Rows.amendManySpec.pre enc Tryz.prog Tryz.f3 Rows.amendManyRow.domain false w args ∧ laidMetH Tryz.prog Rows.amendManyRow.laid w) ∧ sizedMet enc Tryz.prog Tryz.f3 (OpenSpec.ofChange Rows.amendManySpec) false w args)
      (Rows.amendManySpec.post enc Tryz.prog Tryz.f3 false true false false) := by
  refine returnsInHanded_of_calls (C := Tryz.checked) own started (show Tryz.checked.prog.inits.idxOf? 3 = none by kernel_rfl)
    (ChangeSpec.witness_shaped (enc := enc) (C := Tryz.checked) (os := os) (X := fun w _ => laidMetH Tryz.prog Rows.amendManyRow.laid w) false (World.laidAll Tryz.prog os Rows.amendManyRow.laid) #[.int .u8 0] 8 (World.laidAll_os _ _ _) (World.shaped_of_ZipB (by kernel_rfl) (by kernel_rfl)) (by kernel_rfl) (by kernel_rfl) (by kernel_rfl) (door_met os _)) ?_
  intro w0 tape i _ hsh _ ⟨_, _, _, fn, hf, _, _, _, _, hvals⟩ ⟨⟨⟨ds, gs, before, hwh, _⟩, hL0⟩, _⟩ _
  obtain rfl : fn = Tryz.f3 := (Option.some.inj (Tryz.func3.symm.trans hf)).symm
  have hg := globals_of hsh
  have hW : DataW.Whole enc Tryz.prog Tryz.f3.params.toList Rows.amendManySpec.vars false (w0.forCall tape i) i.args.toList ds gs before := DataW.Whole.of_heap (by rfl) hwh
  have hL : laidMetH Tryz.prog Rows.amendManyRow.laid (w0.forCall tape i) := hL0.of_heap (by rfl)
  generalize hbase : w0.heap.size = base at hvals
  generalize hWW : w0.forCall tape i = W at hsh hg hW hL hvals ⊢
  obtain ⟨_, args, _⟩ := i
  simp only at hW hvals ⊢
  have hval : ∀ (j : Nat) t v, Tryz.f3.params[j]? = some t → args[j]? = some v → Value.okWide Tryz.prog W .any base t v := hvals
  have hW' := hW
  obtain ⟨p, q, hA0, hV, rfl, hfz, hnd⟩ := hW
  have hA : DataW.TrodAll enc Tryz.prog W 0 (fun _ => true) true Tryz.f3.params.toList args.toList ds p := hA0
  rw [Tryz.params3] at hA hval
  obtain ⟨v0, vs0, d0, ds0, p0, q0, hargs, rfl, rfl, h0, r0⟩ := trodAll_cons hA
  obtain ⟨rfl, rfl, rfl⟩ := trodAll_nil r0
  obtain rfl : args = #[v0] := by cases args; simp_all
  obtain ⟨rfl, rfl⟩ := trodVars_none hV
  obtain ⟨a0, rfl, rfl, rfl, x0⟩ := open_int Tryz.underlying5 (hval 0 5 v0 rfl rfl) h0
  obtain ⟨arr, e, f, hc, -, hp⟩ := heap0 hL
  have bd : ∀ {n : Int}, (Lit.int .u8 n).wf = true → 0 ≤ n ∧ n < 256 := fun {n} h2 => by
    have e1 : IntKind.u8.min = 0 := rfl
    have e2 : IntKind.u8.max = 255 := rfl
    simp only [Lit.wf, Bool.and_eq_true, decide_eq_true_eq, e1, e2] at h2
    omega
  clear hA0
  have key : Calls Tryz.prog 3 #[.int .u8 a0] W fun e W' => ∃ v, e = .returned v ∧ Rows.amendManySpec.post enc Tryz.prog Tryz.f3 false true false false W #[.int .u8 a0] v W' := by
    refine (walk (bd x0) hg hc hp).mono fun e W' ⟨he, bel⟩ => ?_
    subst he
    exact ⟨_, rfl, _, _, _, [], _, [], hW', trodAll_mk1 (shut_bool Tryz.underlying4 _), (trodAll_cons_mk (shut_int Tryz.underlying5 x0) trodAll_mk0), rfl, bel.frame _, fun h => by cases h⟩
  subst hWW
  refine key.mono fun e W' ⟨v, he, hp⟩ => ?_
  subst he
  exact ChangeSpec.post_blind hp

end Go.Proofs.YtbppcehkpcgmkaaGreatDoor.amendMany
