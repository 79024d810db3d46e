/- If the abstract machine gives a value, the model's call returns one that stands to it, whatever the tape. -/
import Derived.Test.YtcjkjjnnicadfaaGreatDoorAbDraw3
import Derived.LoopNIn
import Derived.TacticsIn
import Derived.RangeFuncIn
set_option linter.unusedSimpArgs false
set_option linter.unusedVariables false
namespace Go.Ab
open Go

/-- How a piece of code is left, on both sides. -/
def ExR (ρ : Place) (o : Out) (e : Exit) : Prop := match o with
  | .normal => e = .normal
  | .exit i => e = .exit i
  | .ret => e = .ret
  | .pan v => ∃ v', e = panX v' ∧ VRel ρ v v'

/-- The check of a piece of code, once, on the text. -/
noncomputable def codeOk (P : Program) (n G : Nat) (c : Code) : Bool :=
  Code.rec (motive := fun _ => Bool) true
    (fun _ os draw => bi (os.toList.all (operOk P n G)) (bi draw (drawOk os) true) false)
    (fun _ _ a b => bi a b false)
    (fun c _ _ a b => bi (opndOk G c) (bi a b false) false)
    (fun _ _ a => a) (fun _ a => a) (fun f ps _ _ a b => bi (opndOk G f) (bi (ps.toList.all fun p => Nat.blt p n) (bi a b false) false) false) (fun _ => true) (fun _ a => a) (fun _ => true) (fun _ => true) true (fun _ => true) c
noncomputable def funcOk (P : Program) (G : Nat) (fn : Func) : Bool :=
  bi (fn.name == "runtime.NumGoroutine") false (Option.rec (motive := fun _ => Bool) true (fun c => codeOk P fn.ntmps G c) fn.body)
/-- The check of the functions that have no summary. -/
noncomputable def funcsOk (P : Program) (H : Sums) (G : Nat) (l : List Func) : Nat → Bool :=
  List.rec (motive := fun _ => Nat → Bool) (fun _ => true) (fun fn _ ih k => bi (bi (H k).isSome true (funcOk P G fn)) (ih (k + 1)) false) l

theorem bi_false_eq {c x : Bool} (h : bi c x false = true) : c = true ∧ x = true := by
  cases c with
  | false => cases h
  | true => exact ⟨rfl, h⟩
theorem funcsOk_mem {P : Program} {H : Sums} {G : Nat} : ∀ {l : List Func} {k : Nat}, funcsOk P H G l k = true → ∀ (i : Nat) (fn : Func), l[i]? = some fn → H (k + i) = none → funcOk P G fn = true := by
  intro l
  induction l with
  | nil => intro k _ i fn h; simp at h
  | cons x l ih =>
    intro k h i fn hf hH
    obtain ⟨h1, h2⟩ := bi_false_eq (show bi (bi (H k).isSome true (funcOk P G x)) (funcsOk P H G l (k + 1)) false = true from h)
    cases i with
    | zero =>
      simp at hf
      subst hf
      rw [show H k = none from hH] at h1
      exact h1
    | succ i => exact ih h2 i fn (by simpa using hf) (by rw [show k + 1 + i = k + (i + 1) from by omega]; exact hH)

/- The marks that ranges over functions leave among an activation's deferred calls. -/
def markOf (D : Nat) : Deferred := { target := .collected D, args := #[] }
structure Marks (lo : Nat) (w : World) (ds : List Deferred) : Prop where
  ex : ∃ Ds : List Nat, ds = Ds.map markOf ∧ Ds.Nodup ∧ ∀ D ∈ Ds, lo ≤ D ∧ w.heap[D]? = some (.deferred (some []))
theorem Marks.nil (lo : Nat) (w : World) : Marks lo w [] := ⟨[], rfl, List.nodup_nil, fun _ h => by simp at h⟩
theorem Sits.not_deferred {base : Env} {ρ : Place} {w : World} {q : Spot} {B : Blk} (h : Sits base ρ w q B) {x : Option (List Deferred)} : w.heap[q.c]? ≠ some (.deferred x) := by
  intro hd
  unfold Sits at h
  split at h
  · obtain ⟨arr, e, lo, hi, h1, _⟩ := h; rw [hd] at h1; cases h1
  · obtain ⟨es, clock, h1, _⟩ := h; rw [hd] at h1; cases h1
  · obtain ⟨r, h⟩ := h; have h1 := h.lies; rw [hd] at h1; cases h1
theorem Marks.fram {base : Env} {lo : Nat} {ρ ρ' : Place} {σ σ' : St} {w w' : World} {ds : List Deferred} (hm : Marks lo w ds) (hR : Rel base ρ σ w) (hF : Fram ρ σ w ρ' σ' w') : Marks lo w' ds := by
  obtain ⟨Ds, h1, h2, h3⟩ := hm
  refine ⟨Ds, h1, h2, fun D hD => ⟨(h3 D hD).1, ?_⟩⟩
  have h4 := (h3 D hD).2
  have hlt : D < w.heap.size := by
    rcases Nat.lt_or_ge D w.heap.size with hh | hh
    · exact hh
    · rw [Array.getElem?_eq_none hh] at h4; cases h4
  rw [hF.keep D hlt ?_]
  · exact h4
  · intro b q B hb hq hB
    subst hq
    exact absurd h4 (hR.sits b q B hb hB).not_deferred

section
variable {P : Program} {base : Env} {G : Nat}

/- Results. -/
theorem loadV_sound {ρ : Place} {σ : St} {w : World} {t : TypeId} {p p' v : Value} (hR : Rel base ρ σ w) (hp : VRel ρ p p') (h : loadV P σ t p = some v) : ∃ ad v', p' = .pointer (some ad) ∧ (loadVar t ad).run P w = .ok v' w ∧ VRel ρ v v' := by
  obtain ⟨⟨b, off⟩, h2, k2⟩ := ob_eq h
  obtain ⟨q, hq, hx⟩ := at_rel hp h2
  obtain ⟨g, h4, h5⟩ := ob_eq (show ob (isAgg? P t) _ = some v from k2)
  have hg := agg_of h4 w
  cases g with
  | true =>
    obtain ⟨n, h6, h7⟩ := ob_eq (show ob (size? P t) _ = some v from h5)
    obtain ⟨cs, h8, h9⟩ := ob_eq h7
    cases h9
    obtain ⟨B, h10, h11⟩ := read_parts h8
    obtain ⟨vs, k1, k2, k3⟩ := (hR.row b q B hq h10).read (P := P) h11
    refine ⟨_, .agg vs.toArray, hx, ?_, .agg k3 k2⟩
    simp only [Sem.run_bind, Sem.run_pure, Result.andThen_ok, loadVar, hg, if_true, size_of h6, k1]
  | false =>
    obtain ⟨cs, h8, h9⟩ := ob_eq (show ob (σ.read b off 1) _ = some v from h5)
    obtain ⟨B, h10, h11⟩ := read_parts h8
    obtain ⟨v', k1, k2⟩ := (hR.row b q B hq h10).one (P := P) h11 h9
    refine ⟨_, v', hx, ?_, k2⟩
    simp only [Sem.run_bind, Result.andThen_ok, loadVar, hg, Bool.false_eq_true, if_false, k1]
theorem resL_sound {ρ : Place} {σ : St} {w : World} {fr : Fr} {a : Act} (hR : Rel base ρ σ w) (hr : FRel ρ fr a) : ∀ (l : List ResultVar) (vs : List Value), resL P fr σ l = some vs →
    ∃ vs', (l.mapM (fun r => match r with | .tmp t => pure (a.tmps.getD t undef) | .cell x t => do loadVar t (← asAddr (a.tmps.getD x undef)) : ResultVar → Sem Value)).run P w = .ok vs' w ∧ VsRel ρ vs vs' := by
  intro l
  induction l with
  | nil => intro vs h; cases h; exact ⟨[], rfl, .nil⟩
  | cons x l ih =>
    intro vs h
    obtain ⟨v, h1, h2⟩ := ob_eq (show ob (res1 P fr σ x) (fun v => ob (resL P fr σ l) fun vs => some (v :: vs)) = some vs from h)
    obtain ⟨us, h3, h4⟩ := ob_eq h2
    cases h4
    obtain ⟨us', g1, g2⟩ := ih us h3
    cases x with
    | tmp t =>
      obtain ⟨v', k1, k2⟩ := hr t v h1
      refine ⟨v' :: us', ?_, .cons k2 g2⟩
      have : a.tmps.getD t undef = v' := by rw [Array.getD_eq_getD_getElem?, k1]; rfl
      rw [List.mapM_cons]
      simp only [Sem.run_bind, Sem.run_pure, Result.andThen_ok, this]
      rw [g1]
      rfl
    | cell x t =>
      obtain ⟨p, h5, h6⟩ := ob_eq (show ob (fr.get x) (fun p => loadV P σ t p) = some v from h1)
      obtain ⟨p', k1, k2⟩ := hr x p h5
      obtain ⟨ad, v', rfl, k4, k5⟩ := loadV_sound (P := P) hR k2 h6
      refine ⟨v' :: us', ?_, .cons k5 g2⟩
      have : a.tmps.getD x undef = .pointer (some ad) := by rw [Array.getD_eq_getD_getElem?, k1]; rfl
      rw [List.mapM_cons]
      have hd : (do loadVar t (← asAddr (a.tmps.getD x undef)) : Sem Value).run P w = .ok v' w := by
        rw [Sem.run_bind, this]
        exact k4
      rw [Sem.run_bind]
      refine (congrArg (fun r : Result Value => r.andThen fun v w' => Sem.run P (do
        let vs ← l.mapM (fun r => match r with | .tmp t => pure (a.tmps.getD t undef) | .cell x t => do loadVar t (← asAddr (a.tmps.getD x undef)) : ResultVar → Sem Value)
        pure (v :: vs)) w') hd).trans ?_
      simp only [Result.andThen_ok, Sem.run_bind]
      rw [g1]
      rfl
theorem results_sound {ρ : Place} {σ : St} {w : World} {fr : Fr} {a : Act} {fn : Func} (hR : Rel base ρ σ w) (hr : FRel ρ fr a) {vs : List Value} (h : resL P fr σ fn.results.toList = some vs) :
    ∃ v', (results fn a.tmps).run P w = .ok v' w ∧ VRel ρ (tup vs) v' := by
  obtain ⟨vs', h1, h2⟩ := resL_sound (P := P) hR hr _ _ h
  refine ⟨if h : vs'.toArray.size = 1 then vs'.toArray[0] else .tuple vs'.toArray, ?_, ?_⟩
  · unfold results
    rw [Sem.run_bind, Array.mapM_eq_mapM_toList, Sem.run_map]
    exact (congrArg (fun r : Result (List Value) => (r.andThen fun a w' => Result.ok a.toArray w').andThen fun vs w' => Sem.run P (pure (if h : vs.size = 1 then vs[0] else .tuple vs)) w') h1)
  · cases h2 with
    | nil => exact .tuple .nil
    | cons h2 h3 =>
      cases h3 with
      | nil => exact h2
      | cons h3 h4 => exact .tuple (.cons h2 (.cons h3 h4))

theorem init_get : ∀ (vs : List Value) (k : Nat) (fr : Fr) (t : Nat), (initFr vs k fr).get t = if k ≤ t ∧ t < k + vs.length then vs[t - k]? else fr.get t := by
  intro vs
  induction vs with
  | nil => intro k fr t; rw [if_neg (by simp only [List.length_nil]; omega)]; rfl
  | cons v vs ih =>
    intro k fr t
    show (initFr vs (k + 1) (fr.set k v)).get t = _
    rw [ih, Tr.get_set]
    simp only [List.length_cons]
    by_cases h1 : k + 1 ≤ t ∧ t < k + 1 + vs.length
    · rw [if_pos h1, if_pos (by omega), show t - k = (t - (k + 1)) + 1 from by omega]; simp
    · rw [if_neg h1]
      by_cases h2 : t = k
      · subst h2; rw [if_pos rfl, if_pos (by omega)]; simp
      · rw [if_neg h2, if_neg (by omega)]

end
end Go.Ab
