/- text.caught, where nothing panics: its summary is sound. -/
import Derived.Test.YthjkgbomoaghoaaGreatDoorAbD
import Derived.Test.YthjkgbomoaghoaaGreatDoorProg
import Derived.KernelRfl
set_option linter.unusedSimpArgs false
set_option linter.unusedVariables false
namespace Go.Proofs.B
open Go Go.Ab
set_option maxRecDepth 100000
theorem inv151 (x : Value) (w : World) : (invoke (.fn (.func 151) #[x]) #[]).run Tryz.prog w = .ok (.enter 151 #[x]) w := by
  have h1 : Tryz.prog.funcs[151]? = some Tryz.f151 := Tryz.func151
  simp [invoke, callFunc, Sem.run_bind, run_program, Result.andThen_ok, h1]
  rw [if_neg (of_decide_eq_false (by kernel_rfl)), if_neg (by intro h; cases h)]
theorem defers1 (Q : Exit → Act → World → Prop) (a : Act) (w : World) (x : Value) (hs : 7 ≤ a.tmps.size) (hx : a.tmps[2]? = some x) (h : Q .normal (deferred a 3 151 x) w) {p1 p2 : String} {e1 e2 : Array Edge} {i t1 t2 : Nat} :
    (Code.region i #[⟨some 3, .makeFunc (.func 151) #[] #[.tmp 2], t1, p1, e1, none⟩, ⟨none, .defer ⟨.value (.tmp 3), #[], #[]⟩, t2, p2, e2, none⟩] false).wpIn Fence.wide 0 Tryz.prog Q a w := by
  refine wpIn_region_list ?_
  simp only [wpListIn, Region.wanted, if_true]
  refine ⟨fun _ _ => trivial, ?_⟩
  have k1 : (Oper.semAt Fence.wide.round a.eval ⟨some 3, .makeFunc (.func 151) #[] #[.tmp 2], t1, p1, e1, none⟩).run Tryz.prog w = .ok (.value (.func (.func 151) #[] #[x])) w := by
    simp [Fence.wide, Oper.semAt_none, execOp, Instr.makeFunc, Act.eval, hx]
  rw [k1]
  show Oper.wpIn _ _ _ _ _ _ _ _
  refine ⟨fun _ _ => trivial, ?_⟩
  have k2 : (Oper.semAt Fence.wide.round (a.put (some 3) (.func (.func 151) #[] #[x])).eval ⟨none, .defer ⟨.value (.tmp 3), #[], #[]⟩, t2, p2, e2, none⟩).run Tryz.prog w = .ok (.defer { target := .fn (.func 151) #[x], args := #[] }) w := by
    have hx3 : (a.put (some 3) (.func (.func 151) #[] #[x])).tmps[3]? = some (.func (.func 151) #[] #[x]) := by
      show (a.tmps.setIfInBounds 3 _)[3]? = _
      rw [Array.getElem?_setIfInBounds, if_pos rfl, if_pos (by omega)]
    simp [Fence.wide, Oper.semAt_none, execOp, Act.eval, hx3, resolve, Deferred.ofValue]
  rw [k2]
  exact h
theorem closure_ok (x : Value) (w : World) : CallsDIn Fence.wide 0 Tryz.prog 151 #[x] .returning w fun e u' w' => (∃ v, e = .returned v) ∧ u' = .returning ∧ w' = w := by
  refine callsDIn_of_wpSIn Tryz.func151 rfl trivial fun c₀ cs hu => ?_
  apply wpSIn_seq
  apply wpSIn_region
  simp [wpOpsSIn, go_sem, recoverD, hu, Tryz.ntmps151, Exit.thenS]
  apply wpSIn_seq
  apply wpSIn_region
  have e1 : Tryz.prog.underlying 20 = some (.interface #[]) := Tryz.underlying20
  have e3 : ∀ w : World, (Op.equalIn Op.maxDepth 20 .nilIface .nilIface).run Tryz.prog w = .ok true w := fun w => pureRun_sound _ (show pureRun Tryz.prog (Op.equalIn Op.maxDepth 20 .nilIface .nilIface) = some true by kernel_rfl) w
  simp [wpOpsSIn, go_sem, recoverD, hu, Tryz.ntmps151, Exit.thenS, eqGuard, binOp, Op.equal, e1, e3]
  refine wpSIn_cond (t := false) (by simp [Act.eval, Array.replicate]) ?_
  refine wpSIn_of_wpIn rfl (wpIn_skip ?_)
  simp [bodyPostS, results, go_sem, hu]
  cases c₀
  cases hu
  rfl
noncomputable def parts : Code × Code × Code × Code := match Tryz.f112.body with
  | some (.seq a (.seq b (.seq c (.seq d .ret)))) => (a, b, c, d)
  | _ => (.skip, .skip, .skip, .skip)
/-- text.caught by its summary. -/
noncomputable def CS : Sums := fun g => if g = 112 then some (caughtS Tryz.prog parts.1 parts.2.2.1 parts.2.2.2 3 2 [.cell 2 154]) else if g = 116 then some (.plain fun _ _ => none) else none
theorem caught_sum {base : Env} {G : Nat} (hG : codeOk Tryz.prog 7 G parts.1 = true ∧ codeOk Tryz.prog 7 G parts.2.2.1 = true ∧ codeOk Tryz.prog 7 G parts.2.2.2 = true) : SumsOk Tryz.prog base G CS := by
  intro g s hs run hE vs σ r h
  unfold CS at hs
  split at hs
  · rename_i hg
    subst hg
    cases hs
    exact caught_ok (c1 := parts.2.1) (k := 151) Tryz.func112 (by kernel_rfl) rfl (fun Q a w x h1 h2 h3 => defers1 Q a w x h1 h2 h3) inv151 closure_ok hG.1 hG.2.1 hG.2.2 hE h
  · split at hs
    · cases hs; cases h
    · cases hs
end Go.Proofs.B
