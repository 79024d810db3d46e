/- Operations on values that the model's own text carries out: division, comparison, conversion. -/
import Derived.Test.YtcjkjjnnicadfaaGreatDoorAbRange
set_option linter.unusedSimpArgs false
set_option linter.unusedVariables false
namespace Go.Ab
open Go
section
variable {P : Program} {H : Sums} {call : CallT} {all : Array Oper} {l : List Oper} {fr : Fr} {σ : St} {d : Option Tmp} {ty t u : TypeId} {ps : String} {af : Array Edge} {x y : Operand}
/-- An operation on two values, by the model's text. -/
noncomputable def flat2 (P : Program) (b : BinOp) (t : TypeId) (x y : Operand) (a c : Value) : Option Value :=
  ob (nextV (pureRun P (do pure (.value (← (do eqGuard b t x y a c; binOp b t a c)))))) cst
noncomputable def bin2 (P : Program) (b : BinOp) (t : TypeId) (x y : Operand) (a c : Value) : Option Value := orV (fastV b a c) (bi (flat a && flat c) (flat2 P b t x y a c) (nilV P t b a c))
theorem pBin_eq {b : BinOp} : pBin P fr ⟨d, .binOp b t x y u, ty, ps, af, none⟩ b t x y = ob (ev fr x) fun a => ob (ev fr y) fun c => bin2 P b t x y a c := by
  show ob (ev fr x) _ = _
  cases hx : ev fr x with
  | none => rfl
  | some a =>
    show ob (ev fr y) _ = ob (ev fr y) _
    cases hy : ev fr y with
    | none => rfl
    | some c =>
      show binV P fr _ b t a c = _
      have e1 : (fun y => (ev fr y).getD undefV) x = a := by show (ev fr x).getD undefV = a; rw [hx]; rfl
      have e2 : (fun y => (ev fr y).getD undefV) y = c := by show (ev fr y).getD undefV = c; rw [hy]; rfl
      have h : flatV P fr ⟨d, .binOp b t x y u, ty, ps, af, none⟩ = flat2 P b t x y a c := by
        unfold flatV flat2
        simp only [execOp, e1, e2]
      unfold binV bin2
      rw [h]
      rfl
theorem b2_add {k : IntKind} {a b : Int} : bin2 P .add t x y (.int k a) (.int k b) = some (.int k (wrapF k (a + b))) := by cases k <;> rfl
theorem b2_sub {k : IntKind} {a b : Int} : bin2 P .sub t x y (.int k a) (.int k b) = some (.int k (wrapF k (a - b))) := by cases k <;> rfl
theorem b2_mul {k : IntKind} {a b : Int} : bin2 P .mul t x y (.int k a) (.int k b) = some (.int k (wrapF k (a * b))) := by cases k <;> rfl
theorem b2_eql {k : IntKind} {a b : Int} : bin2 P .eql t x y (.int k a) (.int k b) = some (.bool (decide (a = b))) := by rw [← ieq_eq]; cases k <;> rfl
theorem b2_neq {k : IntKind} {a b : Int} : bin2 P .neq t x y (.int k a) (.int k b) = some (.bool (!decide (a = b))) := by
  rw [← ieq_eq]
  have h : bin2 P .neq t x y (.int k a) (.int k b) = some (.bool (bi (ieq a b) false true)) := by cases k <;> rfl
  rw [h]; cases ieq a b <;> rfl
theorem b2_lss {k : IntKind} {a b : Int} : bin2 P .lss t x y (.int k a) (.int k b) = some (.bool (decide (a < b))) := by rw [← ilt_eq]; cases k <;> rfl
theorem b2_leq {k : IntKind} {a b : Int} : bin2 P .leq t x y (.int k a) (.int k b) = some (.bool (!decide (b < a))) := by
  rw [← ilt_eq]
  have h : bin2 P .leq t x y (.int k a) (.int k b) = some (.bool (bi (ilt b a) false true)) := by cases k <;> rfl
  rw [h]; cases ilt b a <;> rfl
theorem b2_gtr {k : IntKind} {a b : Int} : bin2 P .gtr t x y (.int k a) (.int k b) = some (.bool (decide (b < a))) := by rw [← ilt_eq]; cases k <;> rfl
theorem b2_geq {k : IntKind} {a b : Int} : bin2 P .geq t x y (.int k a) (.int k b) = some (.bool (!decide (a < b))) := by
  rw [← ilt_eq]
  have h : bin2 P .geq t x y (.int k a) (.int k b) = some (.bool (bi (ilt a b) false true)) := by cases k <;> rfl
  rw [h]; cases ilt a b <;> rfl
theorem b2_seql {a b : ByteArray} : bin2 P .eql t x y (.string a) (.string b) = some (.bool (decide (a = b))) := by rw [← beq_bytes]; rfl
theorem b2_sneq {a b : ByteArray} : bin2 P .neq t x y (.string a) (.string b) = some (.bool (!decide (a = b))) := by
  rw [← beq_bytes]
  show some (Value.bool (bi (beqL a.data.toList b.data.toList) false true)) = _
  cases beqL a.data.toList b.data.toList <;> rfl
theorem b2_rem {k : IntKind} {a b : Int} (h : b ≠ 0) : bin2 P .rem t x y (.int k a) (.int k b) = some (.int k (a.tmod b)) := by
  have key : flat2 P .rem t x y (.int k a) (.int k b) = some (.int k (a.tmod b)) := by
    unfold flat2
    simp only [eqGuard, binOp, Op.intDiv, if_neg h]
    cases k <;> rfl
  show orV (fastV .rem (.int k a) (.int k b)) (flat2 P .rem t x y (.int k a) (.int k b)) = _
  rw [key]
  cases k <;> rfl
theorem b2_quo {k : IntKind} {a b : Int} (h : b ≠ 0) : bin2 P .quo t x y (.int k a) (.int k b) = some (.int k (k.wrap (a.tdiv b))) := by
  have key : flat2 P .quo t x y (.int k a) (.int k b) = some (.int k (k.wrap (a.tdiv b))) := by
    unfold flat2
    simp only [eqGuard, binOp, Op.intDiv, if_neg h]
    cases k <;> rfl
  show orV (fastV .quo (.int k a) (.int k b)) (flat2 P .quo t x y (.int k a) (.int k b)) = _
  rw [key]
  cases k <;> rfl
theorem un_not : pFlat P fr ⟨d, .unOp .not t x, ty, ps, af, none⟩ x = ob (ev fr x) fun a => ob (bool? a) fun b => some (.bool !b) := by
  show ob (ev fr x) _ = _
  cases h : ev fr x with
  | none => rfl
  | some a =>
    show bb (flat a) (flatV P fr _) = _
    have hx : (fun y => (ev fr y).getD undefV) x = a := by show (ev fr x).getD undefV = a; rw [h]; rfl
    unfold flatV
    simp only [execOp, hx]
    cases a <;> first | rfl | (cases flat _ <;> rfl)
/-- A conversion of a value. -/
noncomputable def convA (P : Program) (σ : St) (s t : TypeId) (a : Value) : Option Stepped :=
  orS (asNew σ (bb (P.underlying s).isSome (ob (string? a) fun l => ob (elem? P t) fun e => bb (isByte (P.underlying e)) (some (bytesV l, fun n => .slice (some ⟨n, 0, some 1⟩) l.length l.length)))))
    (orS (asRead σ (ob (rowAt? a) fun p => pra p fun b off n => ob (elem? P s) fun e => bb (isByte (P.underlying e)) (bb (isStr (P.underlying t)) (ob (σ.read b off n) fun l => ob (unbytes l) fun l => some (.string ⟨l.toArray⟩, ⟨b, off, n⟩)))))
      (asPure σ (bb (flat a) (ob (nextV (pureRun P (do pure (.value (← convert s t a))))) cst))))
theorem conv_eq {s : TypeId} : orS (asNew σ (nBytes P fr s t x)) (orS (asRead σ (rString P fr σ s t x)) (asPure σ (pFlat P fr ⟨d, .convert s t x, ty, ps, af, none⟩ x))) = ob (ev fr x) fun a => convA P σ s t a := by
  cases h : ev fr x with
  | none =>
    unfold nBytes rString pFlat
    simp only [h, ob_none]
    cases (P.underlying s).isSome <;> rfl
  | some a =>
    have hx : (fun y => (ev fr y).getD undefV) x = a := by show (ev fr x).getD undefV = a; rw [h]; rfl
    have hf : flatV P fr ⟨d, .convert s t x, ty, ps, af, none⟩ = ob (nextV (pureRun P (do pure (.value (← convert s t a))))) cst := by
      unfold flatV
      simp only [execOp, hx]
    unfold nBytes rString pFlat convA
    simp only [h, ob_some, hf]
theorem evV_conv {s t : TypeId} {x : Operand} {Q : Res → Prop} {uq : Hd Q} : Ev (opsV P call all (⟨d, .convert s t x, ty, ps, af, none⟩ :: l) fr σ) Q uq =
    Ev (ev fr x) (fun a => Ev (convA P σ s t a) (fun r => Ev (nextV' P call all l fr r d) Q ⟨⟩) ⟨⟩) ⟨⟩ := by rw [evV_convert, conv_eq, ev_ob]
theorem evD_conv {s t : TypeId} {x : Operand} {i : Nat} {ds : List Trace} {Q : FST → Prop} {uq : Hd Q} : Ev (opsD P call all (⟨d, .convert s t x, ty, ps, af, none⟩ :: l) i fr σ ds) Q uq =
    Ev (ev fr x) (fun a => Ev (convA P σ s t a) (fun r => Ev (nextD' P call all l i fr σ ds r d) Q ⟨⟩) ⟨⟩) ⟨⟩ := by rw [evD_convert, conv_eq, ev_ob]
theorem nv_none {v : Value} {σ' : St} {Q : Res → Prop} {uq : Hd Q} : Ev (nextV' P call all l fr ⟨v, σ', .none⟩ d) Q uq = Ev (opsV P call all l (putV fr d v) σ') Q ⟨⟩ := rfl
theorem nv_read {v : Value} {σ' : St} {r : RowAt} {Q : Res → Prop} {uq : Hd Q} : Ev (nextV' P call all l fr ⟨v, σ', .read r⟩ d) Q uq = Ev (opsV P call all l (putV fr d v) σ') Q ⟨⟩ := rfl
theorem nv_pan {v : Value} {σ' : St} {Q : Res → Prop} {uq : Hd Q} : Ev (nextV' P call all l fr ⟨v, σ', .pan⟩ d) Q uq = Q ⟨.pan v, fr, σ'⟩ := by
  show Ev (some _) Q _ = _
  rw [ev_some]
theorem nd_none {v : Value} {σ' : St} {i : Nat} {ds : List Trace} {Q : FST → Prop} {uq : Hd Q} : Ev (nextD' P call all l i fr σ ds ⟨v, σ', .none⟩ d) Q uq = Ev (opsD P call all l (i + 1) (putV fr d v) σ' ds) Q ⟨⟩ := rfl
theorem nd_read {v : Value} {σ' : St} {r : RowAt} {i : Nat} {ds : List Trace} {Q : FST → Prop} {uq : Hd Q} : Ev (nextD' P call all l i fr σ ds ⟨v, σ', .read r⟩ d) Q uq = Ev (opsD P call all l (i + 1) (putV fr d v) σ' (.read i r :: ds)) Q ⟨⟩ := rfl
/-- The slot that an operation of a region writes. -/
theorem wants_d {op : Op} {j : Nat} {want : Bool} : wantsV all fr ⟨d, op, ty, ps, af, some (j, want)⟩ = ob (some (dstOf all j)) fun s => match s with
    | none => some false
    | some d => ob (fr.get d) fun v => some (yieldOf want v) := by
  show Option.rec _ _ (dstOf all j) = ob (some (dstOf all j)) _
  rw [ob_some]
  cases dstOf all j <;> rfl
theorem dst_zero {o : Oper} {l : List Oper} : dstOf (o :: l).toArray 0 = o.dst := rfl
theorem dst_succ {o : Oper} {l : List Oper} {j : Nat} : dstOf (o :: l).toArray (j + 1) = dstOf l.toArray j := by
  unfold dstOf
  simp only [List.getElem?_toArray, List.getElem?_cons_succ]
theorem yield_t {b : Bool} : yieldOf true (.bool b) = b := rfl
theorem yield_f {b : Bool} : yieldOf false (.bool b) = !b := rfl
theorem wrap64_in {n : Int} (h1 : -9223372036854775808 ≤ n) (h2 : n ≤ 9223372036854775807) : IntKind.i64.wrap n = n := by
  rw [wrap_i64]; split <;> omega
end
end Go.Ab
