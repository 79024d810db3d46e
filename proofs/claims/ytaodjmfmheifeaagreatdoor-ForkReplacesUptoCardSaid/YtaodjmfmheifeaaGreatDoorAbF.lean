/- Comparison of structs, part by part. -/
import Derived.Test.YtaodjmfmheifeaaGreatDoorAbD
import Derived.Laws.StructEq
set_option linter.unusedSimpArgs false
set_option linter.unusedVariables false
namespace Go.Ab
open Go
theorem pr_pure {α : Type} {P : Program} {a : α} : pureRun P (pure a : Sem α) = some a := rfl
theorem pr_bind {α β : Type} {P : Program} {f : α → Sem β} (s : Sem α) : pureRun P (s >>= f) = ob (pureRun P s) fun a => pureRun P (f a) := by
  show pureRun P (s.bind f) = _
  induction s with
  | pure a => rfl
  | program k ih => exact ih P
  | mark m k ih => exact ih
  | _ => rfl
theorem pr_program {P : Program} : pureRun P program = some P := rfl
/-- The parts of two structs are compared in turn. -/
noncomputable def eqF (P : Program) (d : Nat) (xs ys : Array Value) : List Field → Option Bool
  | [] => some true
  | f :: fs => bi (f.name != "_") (ob (pureRun P (part f.type xs f.offset)) fun a => ob (pureRun P (part f.type ys f.offset)) fun b => ob (pureRun P (Op.equalIn d f.type a b)) fun r => bi r (eqF P d xs ys fs) (some false)) (eqF P d xs ys fs)
theorem pr_ite {α : Type} {P : Program} {c : Prop} [Decidable c] {x y : Sem α} : pureRun P (if c then x else y) = if c then pureRun P x else pureRun P y := by split <;> rfl
theorem pr_fields {P : Program} {d : Nat} {xs ys : Array Value} : ∀ fs : List Field, pureRun P (Op.eqFields d xs ys fs) = eqF P d xs ys fs
  | [] => rfl
  | f :: fs => by
    have ih := pr_fields (P := P) (d := d) (xs := xs) (ys := ys) fs
    unfold Op.eqFields eqF
    rw [pr_ite]
    by_cases h : f.name = "_"
    · rw [if_neg (by simpa using h), show (f.name != "_") = false from by simpa using h, bi_false, ih]
    · rw [if_pos h, show (f.name != "_") = true from by simpa using h, bi_true, pr_bind]
      congr 1; funext a
      rw [pr_bind]
      congr 1; funext b
      rw [pr_bind]
      congr 1; funext r
      rw [pr_ite]
      cases r with
      | true => rw [if_neg (by simp), bi_true, ih]
      | false => rw [if_pos (by simp), bi_false]; rfl
theorem pr_under {P : Program} {t : TypeId} {u : TypeDesc} (h : P.underlying t = some u) : pureRun P (underlying t) = some u := by
  unfold underlying
  rw [pr_bind, pr_program, ob_some]
  simp only [h]
  rfl
theorem pr_struct {P : Program} {d : Nat} {t : TypeId} {xs ys : Array Value} (ht : P.underlying t = some (.struct (P.fieldsOf t))) (hp : P.stoodInHeld t = false) :
    pureRun P (Op.equalIn (d + 1) t (.agg xs) (.agg ys)) = eqF P d xs ys (P.fieldsOf t).toList := by
  rw [← pr_fields]
  simp only [Op.equalIn]
  rw [pr_bind, pr_under ht, ob_some]
  simp only [pr_bind, pr_program, ob_some, hp, Bool.false_eq_true, if_false]
  rw [← Array.forIn_toList]
  generalize (P.fieldsOf t).toList = fs
  clear ht
  induction fs with
  | nil => rfl
  | cons f fs ih =>
    simp only [List.forIn_cons, Op.eqFields, pr_bind, pr_ite]
    by_cases hn : f.name = "_"
    · simp only [ne_eq, hn, not_true, if_false, pr_pure, ob_some]
      exact ih
    · simp only [ne_eq, hn, not_false_iff, if_true, pr_bind]
      cases pureRun P (part f.type xs f.offset) with
      | none => rfl
      | some a =>
        simp only [ob_some]
        cases pureRun P (part f.type ys f.offset) with
        | none => rfl
        | some b =>
          simp only [ob_some]
          cases pureRun P (Op.equalIn d f.type a b) with
          | none => rfl
          | some r =>
            cases r
            · simp only [ob_some, Bool.not_false, if_true, pr_pure]
            · simp only [ob_some, Bool.not_true, Bool.false_eq_true, if_false, pr_pure]
              exact ih
theorem b2_struct {P : Program} {t : TypeId} {x y : Operand} {xs ys : Array Value} {o : Option Bool} (hf : (flatA xs && flatA ys) = true) (hm : P.eqGuardType P.depth t = false) (ht : P.underlying t = some (.struct (P.fieldsOf t))) (hp : P.stoodInHeld t = false)
    (he : eqF P 9999 xs ys (P.fieldsOf t).toList = o) : bin2 P .eql t x y (.agg xs) (.agg ys) = (ob o fun b => some (.bool b)) ∧ bin2 P .neq t x y (.agg xs) (.agg ys) = ob o fun b => some (.bool !b) := by
  have hg : ∀ op, pureRun P (eqGuard op t x y (.agg xs) (.agg ys)) = some () := by
    intro op
    unfold eqGuard
    rw [pr_ite]
    cases op <;> first | rfl | (simp only [Bool.not_true, Bool.false_eq_true, if_false, pr_bind, pr_program, ob_some, hm, Bool.not_false, if_true, pr_ite, pr_pure])
  have h1 : pureRun P (Op.equal t (.agg xs) (.agg ys)) = o := by
    unfold Op.equal
    exact (pr_struct (d := 9999) ht hp).trans he
  constructor
  · show bi (flatA xs && flatA ys) (flat2 P .eql t x y (.agg xs) (.agg ys)) _ = _
    rw [hf, bi_true]
    unfold flat2
    rw [pr_bind, pr_bind, hg, ob_some]
    show ob (nextV (ob (pureRun P (binOp .eql t (.agg xs) (.agg ys))) _)) cst = _
    simp only [binOp]
    rw [pr_bind, h1]
    cases o <;> rfl
  · show bi (flatA xs && flatA ys) (flat2 P .neq t x y (.agg xs) (.agg ys)) _ = _
    rw [hf, bi_true]
    unfold flat2
    rw [pr_bind, pr_bind, hg, ob_some]
    show ob (nextV (ob (pureRun P (binOp .neq t (.agg xs) (.agg ys))) _)) cst = _
    simp only [binOp]
    rw [pr_bind, h1]
    cases o <;> rfl
end Go.Ab
namespace Go.Ab
open Go
theorem pr_arr_refl {P : Program} {d len n : Nat} {t elem : TypeId} {xs : Array Value} (ht : P.underlying t = some (.array len elem)) (hs : pureRun P (sizeOf elem) = some n)
    (hp : ∀ i, i < len → ∃ v, pureRun P (part elem xs (i * n)) = some v ∧ pureRun P (Op.equalIn d elem v v) = some true) :
    pureRun P (Op.equalIn (d + 1) t (.agg xs) (.agg xs)) = some true := by
  simp only [Op.equalIn]
  rw [pr_bind, pr_under ht, ob_some]
  simp only [pr_bind, hs, ob_some]
  rw [Std.Legacy.Range.forIn_eq_forIn_range']
  have key : ∀ l : List Nat, (∀ i ∈ l, i < len) → pureRun P (forIn l ((none, ()) : Option Bool × Unit) fun i r => do
      if (!(← Op.equalIn d elem (← part elem xs (i * n)) (← part elem xs (i * n)))) = true then pure (ForInStep.done (some false, ())) else pure (ForInStep.yield (none, ()))) = some (none, ()) := by
    intro l
    induction l with
    | nil => intro _; rfl
    | cons i l ih =>
      intro h
      obtain ⟨v, h1, h2⟩ := hp i (h i (by simp))
      simp only [List.forIn_cons, pr_bind, h1, ob_some, h2, pr_ite, Bool.not_true, Bool.false_eq_true, if_false, pr_pure]
      exact ih fun j hj => h j (by simp [hj])
  rw [key _ fun i hi => by
    have := List.mem_range'.1 hi
    obtain ⟨j, h1, h2⟩ := this
    simp [Std.Legacy.Range.size] at h1 h2
    omega]
  rfl
/-- The elements of two arrays are compared in turn. -/
noncomputable def eqA (P : Program) (d : Nat) (e : TypeId) (n : Nat) (xs ys : Array Value) : List Nat → Option Bool
  | [] => some true
  | i :: l => ob (pureRun P (part e xs (i * n))) fun a => ob (pureRun P (part e ys (i * n))) fun b => ob (pureRun P (Op.equalIn d e a b)) fun r => bi r (eqA P d e n xs ys l) (some false)
theorem pr_arr {P : Program} {d len n : Nat} {t elem : TypeId} {xs ys : Array Value} (ht : P.underlying t = some (.array len elem)) (hs : pureRun P (sizeOf elem) = some n) :
    pureRun P (Op.equalIn (d + 1) t (.agg xs) (.agg ys)) = eqA P d elem n xs ys (List.range' 0 len) := by
  simp only [Op.equalIn]
  rw [pr_bind, pr_under ht, ob_some]
  simp only [pr_bind, hs, ob_some]
  rw [Std.Legacy.Range.forIn_eq_forIn_range']
  have key : ∀ l : List Nat, pureRun P (forIn l ((none, ()) : Option Bool × Unit) fun i r => do
      if (!(← Op.equalIn d elem (← part elem xs (i * n)) (← part elem ys (i * n)))) = true then pure (ForInStep.done (some false, ())) else pure (ForInStep.yield (none, ()))) = ob (eqA P d elem n xs ys l) fun r => some (if r = true then (none, ()) else (some false, ())) := by
    intro l
    induction l with
    | nil => rfl
    | cons i l ih =>
      simp only [List.forIn_cons, pr_bind, eqA]
      cases pureRun P (part elem xs (i * n)) with
      | none => rfl
      | some a =>
        simp only [ob_some]
        cases pureRun P (part elem ys (i * n)) with
        | none => rfl
        | some b =>
          simp only [ob_some]
          cases pureRun P (Op.equalIn d elem a b) with
          | none => rfl
          | some r =>
            simp only [ob_some]
            cases r with
            | true =>
              simp only [Bool.not_true, Bool.false_eq_true, if_false, pr_pure, ob_some, bi_true]
              exact ih
            | false => rfl
  rw [show List.range' [:len].start [:len].size [:len].step = List.range' 0 len from by simp [Std.Legacy.Range.size]]
  rw [key]
  cases eqA P d elem n xs ys (List.range' 0 len) with
  | none => rfl
  | some r => cases r <;> rfl
/-- What '!=' and '==' give on two arrays. -/
theorem b2_arr {P : Program} {t elem : TypeId} {n len : Nat} {x y : Operand} {xs ys : Array Value} {o : Option Bool} (hf : (flatA xs && flatA ys) = true) (hm : P.eqGuardType P.depth t = false) (ht : P.underlying t = some (.array len elem)) (hs : pureRun P (sizeOf elem) = some n)
    (he : eqA P 9999 elem n xs ys (List.range' 0 len) = o) : bin2 P .eql t x y (.agg xs) (.agg ys) = (ob o fun b => some (.bool b)) ∧ bin2 P .neq t x y (.agg xs) (.agg ys) = ob o fun b => some (.bool !b) := by
  have hg : ∀ op, pureRun P (eqGuard op t x y (.agg xs) (.agg ys)) = some () := by
    intro op
    unfold eqGuard
    rw [pr_ite]
    cases op <;> first | rfl | (simp only [Bool.not_true, Bool.false_eq_true, if_false, pr_bind, pr_program, ob_some, hm, Bool.not_false, if_true, pr_ite, pr_pure])
  have h1 : pureRun P (Op.equal t (.agg xs) (.agg ys)) = o := by
    unfold Op.equal
    exact (pr_arr (d := 9999) ht hs).trans he
  constructor
  · show bi (flatA xs && flatA ys) (flat2 P .eql t x y (.agg xs) (.agg ys)) _ = _
    rw [hf, bi_true]
    unfold flat2
    rw [pr_bind, pr_bind, hg, ob_some]
    show ob (nextV (ob (pureRun P (binOp .eql t (.agg xs) (.agg ys))) _)) cst = _
    simp only [binOp]
    rw [pr_bind, h1]
    cases o <;> rfl
  · show bi (flatA xs && flatA ys) (flat2 P .neq t x y (.agg xs) (.agg ys)) _ = _
    rw [hf, bi_true]
    unfold flat2
    rw [pr_bind, pr_bind, hg, ob_some]
    show ob (nextV (ob (pureRun P (binOp .neq t (.agg xs) (.agg ys))) _)) cst = _
    simp only [binOp]
    rw [pr_bind, h1]
    cases o <;> rfl
end Go.Ab
