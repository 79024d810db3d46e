/- The abstract machine's operations as rewriting rules, for values that are not known. -/
import Derived.Test.YtcjkjjnnicadfaaGreatDoorAbLim
set_option linter.unusedSimpArgs false
set_option linter.unusedVariables false
namespace Go.Ab
open Go

theorem ob_assoc {α β γ : Type} (x : Option α) (f : α → Option β) (g : β → Option γ) : ob (ob x f) g = ob x fun a => ob (f a) g := by cases x <;> rfl
theorem bb_ob {α β : Type} (c : Bool) (x : Option α) (g : α → Option β) : ob (bb c x) g = bb c (ob x g) := by cases c <;> rfl
@[congr] theorem ob_congr {α β : Type} {x y : Option α} {f : α → Option β} (h : x = y) : ob x f = ob y f := by rw [h]
@[congr] theorem bb_congr {β : Type} {c d : Bool} {x : Option β} (h : c = d) : bb c x = bb d x := by rw [h]
@[congr] theorem bi_congr {β : Type} {c d : Bool} {x y : β} (h : c = d) : bi c x y = bi d x y := by rw [h]
@[congr] theorem pr_congr {α β γ : Type} {p q : α × β} {f : α → β → γ} (h : p = q) : pr p f = pr q f := by rw [h]

section
variable {P : Program} {H : Sums} {call : CallT} {all : Array Oper} {l : List Oper} {fr : Fr} {σ : St} {d : Option Tmp} {ty : TypeId} {ps : String} {af : Array Edge} {i : Nat} {ds : List Trace}

theorem wants_none {op : Op} : wantsV all fr ⟨d, op, ty, ps, af, none⟩ = some true := rfl
/-- What follows an operation of a region that runs in the order of the text. -/
noncomputable def nextV' (P : Program) (call : CallT) (all : Array Oper) (l : List Oper) (fr : Fr) (r : Stepped) (d : Option Tmp) : Option Res :=
  Stepped.rec (motive := fun _ => Option Res) (fun v σ e => onDid e (opsV P call all l (putV fr d v) σ) (some ⟨.pan v, fr, σ⟩)) r
noncomputable def nextD' (P : Program) (call : CallT) (all : Array Oper) (l : List Oper) (i : Nat) (fr : Fr) (σ : St) (ds : List Trace) (r : Stepped) (d : Option Tmp) : Option FST :=
  Stepped.rec (motive := fun _ => Option FST) (fun v σ' e => onDid e (opsD P call all l (i + 1) (putV fr d v) σ' (traced i σ σ' e ds)) none) r
theorem opsV_go {op : Op} : opsV P call all (⟨d, op, ty, ps, af, none⟩ :: l) fr σ = ob (stepK op P call fr σ ⟨d, op, ty, ps, af, none⟩) fun r => nextV' P call all l fr r d := rfl
theorem opsD_go {op : Op} : opsD P call all (⟨d, op, ty, ps, af, none⟩ :: l) i fr σ ds = ob (stepK op P call fr σ ⟨d, op, ty, ps, af, none⟩) fun r => nextD' P call all l i fr σ ds r d := rfl
/-- An operation that may be passed over. -/
theorem opsV_if {op : Op} {g : Nat × Bool} : opsV P call all (⟨d, op, ty, ps, af, some g⟩ :: l) fr σ = ob (wantsV all fr ⟨d, op, ty, ps, af, some g⟩) fun c => bi c (opsV P call all (⟨d, op, ty, ps, af, none⟩ :: l) fr σ) (opsV P call all l (putV fr d undefV) σ) := by
  show ob _ _ = _
  cases hx : wantsV all fr ⟨d, op, ty, ps, af, some g⟩ with
  | none => rfl
  | some c => cases op <;> (cases c <;> rfl)
theorem wants_some {op : Op} {j : Nat} {want : Bool} : wantsV all fr ⟨d, op, ty, ps, af, some (j, want)⟩ = Option.rec (motive := fun _ => Option Bool) (some false) (fun d => ob (fr.get d) fun v => some (yieldOf want v)) (dstOf all j) := rfl

theorem syV_move {x : Operand} : opsV P call all (⟨d, .move x, ty, ps, af, none⟩ :: l) fr σ = ob (ev fr x) fun v => opsV P call all l (putV fr d v) σ := by
  show ob (asPure σ (ev fr x)) (fun r => nextV' P call all l fr r d) = _
  cases ev fr x <;> rfl
theorem syD_move {x : Operand} : opsD P call all (⟨d, .move x, ty, ps, af, none⟩ :: l) i fr σ ds = ob (ev fr x) fun v => opsD P call all l (i + 1) (putV fr d v) σ ds := by
  show ob (asPure σ (ev fr x)) (fun r => nextD' P call all l i fr σ ds r d) = _
  cases ev fr x <;> rfl
theorem syV_assign {x : Operand} : opsV P call all (⟨d, .assign x, ty, ps, af, none⟩ :: l) fr σ = ob (ev fr x) fun v => opsV P call all l (putV fr d v) σ := by
  show ob (asPure σ (ev fr x)) (fun r => nextV' P call all l fr r d) = _
  cases ev fr x <;> rfl
theorem syD_assign {x : Operand} : opsD P call all (⟨d, .assign x, ty, ps, af, none⟩ :: l) i fr σ ds = ob (ev fr x) fun v => opsD P call all l (i + 1) (putV fr d v) σ ds := by
  show ob (asPure σ (ev fr x)) (fun r => nextD' P call all l i fr σ ds r d) = _
  cases ev fr x <;> rfl
theorem syV_pick {c a b : Operand} : opsV P call all (⟨d, .pick c a b, ty, ps, af, none⟩ :: l) fr σ = ob (pPick fr c a b) fun v => opsV P call all l (putV fr d v) σ := by
  show ob (asPure σ (pPick fr c a b)) (fun r => nextV' P call all l fr r d) = _
  cases pPick fr c a b <;> rfl
theorem syD_pick {c a b : Operand} : opsD P call all (⟨d, .pick c a b, ty, ps, af, none⟩ :: l) i fr σ ds = ob (pPick fr c a b) fun v => opsD P call all l (i + 1) (putV fr d v) σ ds := by
  show ob (asPure σ (pPick fr c a b)) (fun r => nextD' P call all l i fr σ ds r d) = _
  cases pPick fr c a b <;> rfl
theorem syV_alloc {t : TypeId} : opsV P call all (⟨d, .alloc t, ty, ps, af, none⟩ :: l) fr σ = ob (nAlloc P t) fun r => pr r fun cs v => opsV P call all l (putV fr d (v σ.n)) (σ.new cs) := by
  show ob (asNew σ (nAlloc P t)) (fun r => nextV' P call all l fr r d) = _
  cases nAlloc P t with
  | none => rfl
  | some r => cases r; rfl
theorem syD_alloc {t : TypeId} : opsD P call all (⟨d, .alloc t, ty, ps, af, none⟩ :: l) i fr σ ds = ob (nAlloc P t) fun r => pr r fun cs v => opsD P call all l (i + 1) (putV fr d (v σ.n)) (σ.new cs) ds := by
  show ob (asNew σ (nAlloc P t)) (fun r => nextD' P call all l i fr σ ds r d) = _
  cases nAlloc P t with
  | none => rfl
  | some r => cases r; rfl
theorem syV_box {t : TypeId} {x : Operand} : opsV P call all (⟨d, .box t x, ty, ps, af, none⟩ :: l) fr σ = ob (nBox fr x) fun r => pr r fun cs v => opsV P call all l (putV fr d (v σ.n)) (σ.new cs) := by
  show ob (asNew σ (nBox fr x)) (fun r => nextV' P call all l fr r d) = _
  cases nBox fr x with
  | none => rfl
  | some r => cases r; rfl
theorem syD_box {t : TypeId} {x : Operand} : opsD P call all (⟨d, .box t x, ty, ps, af, none⟩ :: l) i fr σ ds = ob (nBox fr x) fun r => pr r fun cs v => opsD P call all l (i + 1) (putV fr d (v σ.n)) (σ.new cs) ds := by
  show ob (asNew σ (nBox fr x)) (fun r => nextD' P call all l i fr σ ds r d) = _
  cases nBox fr x with
  | none => rfl
  | some r => cases r; rfl
theorem syV_build {t : TypeId} {parts : Array (Nat × Operand)} : opsV P call all (⟨d, .build t parts, ty, ps, af, none⟩ :: l) fr σ = ob (pBuild P fr t parts) fun v => opsV P call all l (putV fr d v) σ := by
  show ob (asPure σ (pBuild P fr t parts)) (fun r => nextV' P call all l fr r d) = _
  cases pBuild P fr t parts <;> rfl
theorem syD_build {t : TypeId} {parts : Array (Nat × Operand)} : opsD P call all (⟨d, .build t parts, ty, ps, af, none⟩ :: l) i fr σ ds = ob (pBuild P fr t parts) fun v => opsD P call all l (i + 1) (putV fr d v) σ ds := by
  show ob (asPure σ (pBuild P fr t parts)) (fun r => nextD' P call all l i fr σ ds r d) = _
  cases pBuild P fr t parts <;> rfl
theorem syV_buildSlice {t : TypeId} {n : Nat} {parts : Array (Nat × Operand)} : opsV P call all (⟨d, .buildSlice t n parts, ty, ps, af, none⟩ :: l) fr σ = ob (nSlice P fr t n parts) fun r => pr r fun cs v => opsV P call all l (putV fr d (v σ.n)) (σ.new cs) := by
  show ob (asNew σ (nSlice P fr t n parts)) (fun r => nextV' P call all l fr r d) = _
  cases nSlice P fr t n parts with
  | none => rfl
  | some r => cases r; rfl
theorem syD_buildSlice {t : TypeId} {n : Nat} {parts : Array (Nat × Operand)} : opsD P call all (⟨d, .buildSlice t n parts, ty, ps, af, none⟩ :: l) i fr σ ds = ob (nSlice P fr t n parts) fun r => pr r fun cs v => opsD P call all l (i + 1) (putV fr d (v σ.n)) (σ.new cs) ds := by
  show ob (asNew σ (nSlice P fr t n parts)) (fun r => nextD' P call all l i fr σ ds r d) = _
  cases nSlice P fr t n parts with
  | none => rfl
  | some r => cases r; rfl
theorem syV_insert {t : TypeId} {m k x : Operand} : opsV P call all (⟨d, .insert t m k x, ty, ps, af, none⟩ :: l) fr σ = ob (eMapUpdate P fr σ t m k x) fun r => pr r fun v σ' => opsV P call all l (putV fr d v) σ' := by
  show ob (asEff (eMapUpdate P fr σ t m k x)) (fun r => nextV' P call all l fr r d) = _
  cases eMapUpdate P fr σ t m k x with
  | none => rfl
  | some r => cases r; rfl
theorem syD_insert {t : TypeId} {m k x : Operand} : opsD P call all (⟨d, .insert t m k x, ty, ps, af, none⟩ :: l) i fr σ ds = ob (eMapUpdate P fr σ t m k x) fun r => pr r fun v σ' => opsD P call all l (i + 1) (putV fr d v) σ' (.eff i σ σ' :: ds) := by
  show ob (asEff (eMapUpdate P fr σ t m k x)) (fun r => nextD' P call all l i fr σ ds r d) = _
  cases eMapUpdate P fr σ t m k x with
  | none => rfl
  | some r => cases r; rfl
theorem syV_load {t : TypeId} {a : Operand} : opsV P call all (⟨d, .load t a, ty, ps, af, none⟩ :: l) fr σ = ob (rLoad P fr σ t a) fun r => pr r fun v b => opsV P call all l (putV fr d v) σ := by
  show ob (asRead σ (rLoad P fr σ t a)) (fun r => nextV' P call all l fr r d) = _
  cases rLoad P fr σ t a with
  | none => rfl
  | some r => cases r; rfl
theorem syD_load {t : TypeId} {a : Operand} : opsD P call all (⟨d, .load t a, ty, ps, af, none⟩ :: l) i fr σ ds = ob (rLoad P fr σ t a) fun r => pr r fun v b => opsD P call all l (i + 1) (putV fr d v) σ (.read i b :: ds) := by
  show ob (asRead σ (rLoad P fr σ t a)) (fun r => nextD' P call all l i fr σ ds r d) = _
  cases rLoad P fr σ t a with
  | none => rfl
  | some r => cases r; rfl
theorem syV_store {t : TypeId} {a v : Operand} : opsV P call all (⟨d, .store t a v, ty, ps, af, none⟩ :: l) fr σ = ob (eStore P fr σ t a v) fun r => pr r fun v σ' => opsV P call all l (putV fr d v) σ' := by
  show ob (asEff (eStore P fr σ t a v)) (fun r => nextV' P call all l fr r d) = _
  cases eStore P fr σ t a v with
  | none => rfl
  | some r => cases r; rfl
theorem syD_store {t : TypeId} {a v : Operand} : opsD P call all (⟨d, .store t a v, ty, ps, af, none⟩ :: l) i fr σ ds = ob (eStore P fr σ t a v) fun r => pr r fun v σ' => opsD P call all l (i + 1) (putV fr d v) σ' (.eff i σ σ' :: ds) := by
  show ob (asEff (eStore P fr σ t a v)) (fun r => nextD' P call all l i fr σ ds r d) = _
  cases eStore P fr σ t a v with
  | none => rfl
  | some r => cases r; rfl
theorem syV_nilCheck {x : Operand} : opsV P call all (⟨d, .nilCheck x, ty, ps, af, none⟩ :: l) fr σ = ob (pNilCheck fr x) fun v => opsV P call all l (putV fr d v) σ := by
  show ob (asPure σ (pNilCheck fr x)) (fun r => nextV' P call all l fr r d) = _
  cases pNilCheck fr x <;> rfl
theorem syD_nilCheck {x : Operand} : opsD P call all (⟨d, .nilCheck x, ty, ps, af, none⟩ :: l) i fr σ ds = ob (pNilCheck fr x) fun v => opsD P call all l (i + 1) (putV fr d v) σ ds := by
  show ob (asPure σ (pNilCheck fr x)) (fun r => nextD' P call all l i fr σ ds r d) = _
  cases pNilCheck fr x <;> rfl
theorem syV_bin {b : BinOp} {t u : TypeId} {x y : Operand} : opsV P call all (⟨d, .binOp b t x y u, ty, ps, af, none⟩ :: l) fr σ = ob (pBin P fr ⟨d, .binOp b t x y u, ty, ps, af, none⟩ b t x y) fun v => opsV P call all l (putV fr d v) σ := by
  show ob (asPure σ (pBin P fr ⟨d, .binOp b t x y u, ty, ps, af, none⟩ b t x y)) (fun r => nextV' P call all l fr r d) = _
  cases pBin P fr ⟨d, .binOp b t x y u, ty, ps, af, none⟩ b t x y <;> rfl
theorem syD_bin {b : BinOp} {t u : TypeId} {x y : Operand} : opsD P call all (⟨d, .binOp b t x y u, ty, ps, af, none⟩ :: l) i fr σ ds = ob (pBin P fr ⟨d, .binOp b t x y u, ty, ps, af, none⟩ b t x y) fun v => opsD P call all l (i + 1) (putV fr d v) σ ds := by
  show ob (asPure σ (pBin P fr ⟨d, .binOp b t x y u, ty, ps, af, none⟩ b t x y)) (fun r => nextD' P call all l i fr σ ds r d) = _
  cases pBin P fr ⟨d, .binOp b t x y u, ty, ps, af, none⟩ b t x y <;> rfl
theorem syV_un {b : UnOp} {t : TypeId} {x : Operand} : opsV P call all (⟨d, .unOp b t x, ty, ps, af, none⟩ :: l) fr σ = ob (pFlat P fr ⟨d, .unOp b t x, ty, ps, af, none⟩ x) fun v => opsV P call all l (putV fr d v) σ := by
  show ob (asPure σ (pFlat P fr ⟨d, .unOp b t x, ty, ps, af, none⟩ x)) (fun r => nextV' P call all l fr r d) = _
  cases pFlat P fr ⟨d, .unOp b t x, ty, ps, af, none⟩ x <;> rfl
theorem syD_un {b : UnOp} {t : TypeId} {x : Operand} : opsD P call all (⟨d, .unOp b t x, ty, ps, af, none⟩ :: l) i fr σ ds = ob (pFlat P fr ⟨d, .unOp b t x, ty, ps, af, none⟩ x) fun v => opsD P call all l (i + 1) (putV fr d v) σ ds := by
  show ob (asPure σ (pFlat P fr ⟨d, .unOp b t x, ty, ps, af, none⟩ x)) (fun r => nextD' P call all l i fr σ ds r d) = _
  cases pFlat P fr ⟨d, .unOp b t x, ty, ps, af, none⟩ x <;> rfl
theorem syV_iface {t : TypeId} {x : Operand} : opsV P call all (⟨d, .makeInterface t x, ty, ps, af, none⟩ :: l) fr σ = ob (pIface P fr t x) fun v => opsV P call all l (putV fr d v) σ := by
  show ob (asPure σ (pIface P fr t x)) (fun r => nextV' P call all l fr r d) = _
  cases pIface P fr t x <;> rfl
theorem syD_iface {t : TypeId} {x : Operand} : opsD P call all (⟨d, .makeInterface t x, ty, ps, af, none⟩ :: l) i fr σ ds = ob (pIface P fr t x) fun v => opsD P call all l (i + 1) (putV fr d v) σ ds := by
  show ob (asPure σ (pIface P fr t x)) (fun r => nextD' P call all l i fr σ ds r d) = _
  cases pIface P fr t x <;> rfl
theorem syV_func {fn : Fn} {fs cs : Array Operand} : opsV P call all (⟨d, .makeFunc fn fs cs, ty, ps, af, none⟩ :: l) fr σ = ob (pFunc fr fn fs cs) fun v => opsV P call all l (putV fr d v) σ := by
  show ob (asPure σ (pFunc fr fn fs cs)) (fun r => nextV' P call all l fr r d) = _
  cases pFunc fr fn fs cs <;> rfl
theorem syD_func {fn : Fn} {fs cs : Array Operand} : opsD P call all (⟨d, .makeFunc fn fs cs, ty, ps, af, none⟩ :: l) i fr σ ds = ob (pFunc fr fn fs cs) fun v => opsD P call all l (i + 1) (putV fr d v) σ ds := by
  show ob (asPure σ (pFunc fr fn fs cs)) (fun r => nextD' P call all l i fr σ ds r d) = _
  cases pFunc fr fn fs cs <;> rfl
theorem syV_makeMap {t : TypeId} {r : Option Operand} : opsV P call all (⟨d, .makeMap t r, ty, ps, af, none⟩ :: l) fr σ = ob (eMakeMap fr σ r) fun r => pr r fun v σ' => opsV P call all l (putV fr d v) σ' := by
  show ob (asEff (eMakeMap fr σ r)) (fun r => nextV' P call all l fr r d) = _
  cases eMakeMap fr σ r with
  | none => rfl
  | some r => cases r; rfl
theorem syD_makeMap {t : TypeId} {r : Option Operand} : opsD P call all (⟨d, .makeMap t r, ty, ps, af, none⟩ :: l) i fr σ ds = ob (eMakeMap fr σ r) fun r => pr r fun v σ' => opsD P call all l (i + 1) (putV fr d v) σ' (.eff i σ σ' :: ds) := by
  show ob (asEff (eMakeMap fr σ r)) (fun r => nextD' P call all l i fr σ ds r d) = _
  cases eMakeMap fr σ r with
  | none => rfl
  | some r => cases r; rfl
theorem syV_makeSlice {t : TypeId} {n c : Operand} : opsV P call all (⟨d, .makeSlice t n c, ty, ps, af, none⟩ :: l) fr σ = ob (nMake P fr t n c) fun r => pr r fun cs v => opsV P call all l (putV fr d (v σ.n)) (σ.new cs) := by
  show ob (asNew σ (nMake P fr t n c)) (fun r => nextV' P call all l fr r d) = _
  cases nMake P fr t n c with
  | none => rfl
  | some r => cases r; rfl
theorem syD_makeSlice {t : TypeId} {n c : Operand} : opsD P call all (⟨d, .makeSlice t n c, ty, ps, af, none⟩ :: l) i fr σ ds = ob (nMake P fr t n c) fun r => pr r fun cs v => opsD P call all l (i + 1) (putV fr d (v σ.n)) (σ.new cs) ds := by
  show ob (asNew σ (nMake P fr t n c)) (fun r => nextD' P call all l i fr σ ds r d) = _
  cases nMake P fr t n c with
  | none => rfl
  | some r => cases r; rfl
theorem syV_slice {t : TypeId} {x : Operand} {lo hi mx : Option Operand} : opsV P call all (⟨d, .slice t x lo hi mx, ty, ps, af, none⟩ :: l) fr σ = ob (pSlice P fr t x lo hi mx) fun v => opsV P call all l (putV fr d v) σ := by
  show ob (asPure σ (pSlice P fr t x lo hi mx)) (fun r => nextV' P call all l fr r d) = _
  cases pSlice P fr t x lo hi mx <;> rfl
theorem syD_slice {t : TypeId} {x : Operand} {lo hi mx : Option Operand} : opsD P call all (⟨d, .slice t x lo hi mx, ty, ps, af, none⟩ :: l) i fr σ ds = ob (pSlice P fr t x lo hi mx) fun v => opsD P call all l (i + 1) (putV fr d v) σ ds := by
  show ob (asPure σ (pSlice P fr t x lo hi mx)) (fun r => nextD' P call all l i fr σ ds r d) = _
  cases pSlice P fr t x lo hi mx <;> rfl
theorem syV_fieldAddr {s : TypeId} {x : Operand} {f : Nat} : opsV P call all (⟨d, .fieldAddr s x f, ty, ps, af, none⟩ :: l) fr σ = ob (pFieldAddr P fr s x f) fun v => opsV P call all l (putV fr d v) σ := by
  show ob (asPure σ (pFieldAddr P fr s x f)) (fun r => nextV' P call all l fr r d) = _
  cases pFieldAddr P fr s x f <;> rfl
theorem syD_fieldAddr {s : TypeId} {x : Operand} {f : Nat} : opsD P call all (⟨d, .fieldAddr s x f, ty, ps, af, none⟩ :: l) i fr σ ds = ob (pFieldAddr P fr s x f) fun v => opsD P call all l (i + 1) (putV fr d v) σ ds := by
  show ob (asPure σ (pFieldAddr P fr s x f)) (fun r => nextD' P call all l i fr σ ds r d) = _
  cases pFieldAddr P fr s x f <;> rfl
theorem syV_field {s : TypeId} {x : Operand} {f : Nat} : opsV P call all (⟨d, .field s x f, ty, ps, af, none⟩ :: l) fr σ = ob (pField P fr s x f) fun v => opsV P call all l (putV fr d v) σ := by
  show ob (asPure σ (pField P fr s x f)) (fun r => nextV' P call all l fr r d) = _
  cases pField P fr s x f <;> rfl
theorem syD_field {s : TypeId} {x : Operand} {f : Nat} : opsD P call all (⟨d, .field s x f, ty, ps, af, none⟩ :: l) i fr σ ds = ob (pField P fr s x f) fun v => opsD P call all l (i + 1) (putV fr d v) σ ds := by
  show ob (asPure σ (pField P fr s x f)) (fun r => nextD' P call all l i fr σ ds r d) = _
  cases pField P fr s x f <;> rfl
theorem syV_indexAddr {t : TypeId} {x ix : Operand} : opsV P call all (⟨d, .indexAddr t x ix, ty, ps, af, none⟩ :: l) fr σ = ob (pIndexAddr P fr t x ix) fun v => opsV P call all l (putV fr d v) σ := by
  show ob (asPure σ (pIndexAddr P fr t x ix)) (fun r => nextV' P call all l fr r d) = _
  cases pIndexAddr P fr t x ix <;> rfl
theorem syD_indexAddr {t : TypeId} {x ix : Operand} : opsD P call all (⟨d, .indexAddr t x ix, ty, ps, af, none⟩ :: l) i fr σ ds = ob (pIndexAddr P fr t x ix) fun v => opsD P call all l (i + 1) (putV fr d v) σ ds := by
  show ob (asPure σ (pIndexAddr P fr t x ix)) (fun r => nextD' P call all l i fr σ ds r d) = _
  cases pIndexAddr P fr t x ix <;> rfl
theorem syV_index {t : TypeId} {x ix : Operand} : opsV P call all (⟨d, .index t x ix, ty, ps, af, none⟩ :: l) fr σ = ob (pIndex P fr t x ix) fun v => opsV P call all l (putV fr d v) σ := by
  show ob (asPure σ (pIndex P fr t x ix)) (fun r => nextV' P call all l fr r d) = _
  cases pIndex P fr t x ix <;> rfl
theorem syD_index {t : TypeId} {x ix : Operand} : opsD P call all (⟨d, .index t x ix, ty, ps, af, none⟩ :: l) i fr σ ds = ob (pIndex P fr t x ix) fun v => opsD P call all l (i + 1) (putV fr d v) σ ds := by
  show ob (asPure σ (pIndex P fr t x ix)) (fun r => nextD' P call all l i fr σ ds r d) = _
  cases pIndex P fr t x ix <;> rfl
theorem syV_lookup {t : TypeId} {x ix : Operand} {ok : Bool} : opsV P call all (⟨d, .lookup t x ix ok, ty, ps, af, none⟩ :: l) fr σ = ob (eLookup P fr σ t x ix ok) fun r => pr r fun v σ' => opsV P call all l (putV fr d v) σ' := by
  show ob (asEff (eLookup P fr σ t x ix ok)) (fun r => nextV' P call all l fr r d) = _
  cases eLookup P fr σ t x ix ok with
  | none => rfl
  | some r => cases r; rfl
theorem syD_lookup {t : TypeId} {x ix : Operand} {ok : Bool} : opsD P call all (⟨d, .lookup t x ix ok, ty, ps, af, none⟩ :: l) i fr σ ds = ob (eLookup P fr σ t x ix ok) fun r => pr r fun v σ' => opsD P call all l (i + 1) (putV fr d v) σ' (.eff i σ σ' :: ds) := by
  show ob (asEff (eLookup P fr σ t x ix ok)) (fun r => nextD' P call all l i fr σ ds r d) = _
  cases eLookup P fr σ t x ix ok with
  | none => rfl
  | some r => cases r; rfl
theorem syV_mapUpdate {t : TypeId} {m k x : Operand} : opsV P call all (⟨d, .mapUpdate t m k x, ty, ps, af, none⟩ :: l) fr σ = ob (eMapUpdate P fr σ t m k x) fun r => pr r fun v σ' => opsV P call all l (putV fr d v) σ' := by
  show ob (asEff (eMapUpdate P fr σ t m k x)) (fun r => nextV' P call all l fr r d) = _
  cases eMapUpdate P fr σ t m k x with
  | none => rfl
  | some r => cases r; rfl
theorem syD_mapUpdate {t : TypeId} {m k x : Operand} : opsD P call all (⟨d, .mapUpdate t m k x, ty, ps, af, none⟩ :: l) i fr σ ds = ob (eMapUpdate P fr σ t m k x) fun r => pr r fun v σ' => opsD P call all l (i + 1) (putV fr d v) σ' (.eff i σ σ' :: ds) := by
  show ob (asEff (eMapUpdate P fr σ t m k x)) (fun r => nextD' P call all l i fr σ ds r d) = _
  cases eMapUpdate P fr σ t m k x with
  | none => rfl
  | some r => cases r; rfl
theorem syV_extract {t : Operand} {ix : Nat} : opsV P call all (⟨d, .extract t ix, ty, ps, af, none⟩ :: l) fr σ = ob (pExtract fr t ix) fun v => opsV P call all l (putV fr d v) σ := by
  show ob (asPure σ (pExtract fr t ix)) (fun r => nextV' P call all l fr r d) = _
  cases pExtract fr t ix <;> rfl
theorem syD_extract {t : Operand} {ix : Nat} : opsD P call all (⟨d, .extract t ix, ty, ps, af, none⟩ :: l) i fr σ ds = ob (pExtract fr t ix) fun v => opsD P call all l (i + 1) (putV fr d v) σ ds := by
  show ob (asPure σ (pExtract fr t ix)) (fun r => nextD' P call all l i fr σ ds r d) = _
  cases pExtract fr t ix <;> rfl
theorem syV_len {as : Array Operand} {ts : Array TypeId} : opsV P call all (⟨d, .call ⟨.builtin .len, as, ts⟩, ty, ps, af, none⟩ :: l) fr σ = ob (pLen P fr ⟨.builtin .len, as, ts⟩) fun v => opsV P call all l (putV fr d v) σ := by
  show ob (asPure σ (pLen P fr ⟨.builtin .len, as, ts⟩)) (fun r => nextV' P call all l fr r d) = _
  cases pLen P fr ⟨.builtin .len, as, ts⟩ <;> rfl
theorem syD_len {as : Array Operand} {ts : Array TypeId} : opsD P call all (⟨d, .call ⟨.builtin .len, as, ts⟩, ty, ps, af, none⟩ :: l) i fr σ ds = ob (pLen P fr ⟨.builtin .len, as, ts⟩) fun v => opsD P call all l (i + 1) (putV fr d v) σ ds := by
  show ob (asPure σ (pLen P fr ⟨.builtin .len, as, ts⟩)) (fun r => nextD' P call all l i fr σ ds r d) = _
  cases pLen P fr ⟨.builtin .len, as, ts⟩ <;> rfl
theorem syV_max {as : Array Operand} {ts : Array TypeId} : opsV P call all (⟨d, .call ⟨.builtin .max, as, ts⟩, ty, ps, af, none⟩ :: l) fr σ = ob (pMM fr true ⟨.builtin .max, as, ts⟩) fun v => opsV P call all l (putV fr d v) σ := by
  show ob (asPure σ (pMM fr true ⟨.builtin .max, as, ts⟩)) (fun r => nextV' P call all l fr r d) = _
  cases pMM fr true ⟨.builtin .max, as, ts⟩ <;> rfl
theorem syD_max {as : Array Operand} {ts : Array TypeId} : opsD P call all (⟨d, .call ⟨.builtin .max, as, ts⟩, ty, ps, af, none⟩ :: l) i fr σ ds = ob (pMM fr true ⟨.builtin .max, as, ts⟩) fun v => opsD P call all l (i + 1) (putV fr d v) σ ds := by
  show ob (asPure σ (pMM fr true ⟨.builtin .max, as, ts⟩)) (fun r => nextD' P call all l i fr σ ds r d) = _
  cases pMM fr true ⟨.builtin .max, as, ts⟩ <;> rfl
theorem syV_min {as : Array Operand} {ts : Array TypeId} : opsV P call all (⟨d, .call ⟨.builtin .min, as, ts⟩, ty, ps, af, none⟩ :: l) fr σ = ob (pMM fr false ⟨.builtin .min, as, ts⟩) fun v => opsV P call all l (putV fr d v) σ := by
  show ob (asPure σ (pMM fr false ⟨.builtin .min, as, ts⟩)) (fun r => nextV' P call all l fr r d) = _
  cases pMM fr false ⟨.builtin .min, as, ts⟩ <;> rfl
theorem syD_min {as : Array Operand} {ts : Array TypeId} : opsD P call all (⟨d, .call ⟨.builtin .min, as, ts⟩, ty, ps, af, none⟩ :: l) i fr σ ds = ob (pMM fr false ⟨.builtin .min, as, ts⟩) fun v => opsD P call all l (i + 1) (putV fr d v) σ ds := by
  show ob (asPure σ (pMM fr false ⟨.builtin .min, as, ts⟩)) (fun r => nextD' P call all l i fr σ ds r d) = _
  cases pMM fr false ⟨.builtin .min, as, ts⟩ <;> rfl
theorem syV_append {as : Array Operand} {ts : Array TypeId} : opsV P call all (⟨d, .call ⟨.builtin .append, as, ts⟩, ty, ps, af, none⟩ :: l) fr σ = ob (eAppend P fr σ ⟨.builtin .append, as, ts⟩) fun r => pr r fun v σ' => opsV P call all l (putV fr d v) σ' := by
  show ob (asEff (eAppend P fr σ ⟨.builtin .append, as, ts⟩)) (fun r => nextV' P call all l fr r d) = _
  cases eAppend P fr σ ⟨.builtin .append, as, ts⟩ with
  | none => rfl
  | some r => cases r; rfl
theorem syD_append {as : Array Operand} {ts : Array TypeId} : opsD P call all (⟨d, .call ⟨.builtin .append, as, ts⟩, ty, ps, af, none⟩ :: l) i fr σ ds = ob (eAppend P fr σ ⟨.builtin .append, as, ts⟩) fun r => pr r fun v σ' => opsD P call all l (i + 1) (putV fr d v) σ' (.eff i σ σ' :: ds) := by
  show ob (asEff (eAppend P fr σ ⟨.builtin .append, as, ts⟩)) (fun r => nextD' P call all l i fr σ ds r d) = _
  cases eAppend P fr σ ⟨.builtin .append, as, ts⟩ with
  | none => rfl
  | some r => cases r; rfl
theorem syV_copy {as : Array Operand} {ts : Array TypeId} : opsV P call all (⟨d, .call ⟨.builtin .copy, as, ts⟩, ty, ps, af, none⟩ :: l) fr σ = ob (eCopy P fr σ ⟨.builtin .copy, as, ts⟩) fun r => pr r fun v σ' => opsV P call all l (putV fr d v) σ' := by
  show ob (asEff (eCopy P fr σ ⟨.builtin .copy, as, ts⟩)) (fun r => nextV' P call all l fr r d) = _
  cases eCopy P fr σ ⟨.builtin .copy, as, ts⟩ with
  | none => rfl
  | some r => cases r; rfl
theorem syD_copy {as : Array Operand} {ts : Array TypeId} : opsD P call all (⟨d, .call ⟨.builtin .copy, as, ts⟩, ty, ps, af, none⟩ :: l) i fr σ ds = ob (eCopy P fr σ ⟨.builtin .copy, as, ts⟩) fun r => pr r fun v σ' => opsD P call all l (i + 1) (putV fr d v) σ' (.eff i σ σ' :: ds) := by
  show ob (asEff (eCopy P fr σ ⟨.builtin .copy, as, ts⟩)) (fun r => nextD' P call all l i fr σ ds r d) = _
  cases eCopy P fr σ ⟨.builtin .copy, as, ts⟩ with
  | none => rfl
  | some r => cases r; rfl
theorem syV_clear {as : Array Operand} {ts : Array TypeId} : opsV P call all (⟨d, .call ⟨.builtin .clear, as, ts⟩, ty, ps, af, none⟩ :: l) fr σ = ob (eClear P fr σ ⟨.builtin .clear, as, ts⟩) fun r => pr r fun v σ' => opsV P call all l (putV fr d v) σ' := by
  show ob (asEff (eClear P fr σ ⟨.builtin .clear, as, ts⟩)) (fun r => nextV' P call all l fr r d) = _
  cases eClear P fr σ ⟨.builtin .clear, as, ts⟩ with
  | none => rfl
  | some r => cases r; rfl
theorem syD_clear {as : Array Operand} {ts : Array TypeId} : opsD P call all (⟨d, .call ⟨.builtin .clear, as, ts⟩, ty, ps, af, none⟩ :: l) i fr σ ds = ob (eClear P fr σ ⟨.builtin .clear, as, ts⟩) fun r => pr r fun v σ' => opsD P call all l (i + 1) (putV fr d v) σ' (.eff i σ σ' :: ds) := by
  show ob (asEff (eClear P fr σ ⟨.builtin .clear, as, ts⟩)) (fun r => nextD' P call all l i fr σ ds r d) = _
  cases eClear P fr σ ⟨.builtin .clear, as, ts⟩ with
  | none => rfl
  | some r => cases r; rfl
theorem syV_convert {s u : TypeId} {x : Operand} : opsV P call all (⟨d, .convert s u x, ty, ps, af, none⟩ :: l) fr σ = ob (orS (asNew σ (nBytes P fr s u x)) (orS (asRead σ (rString P fr σ s u x)) (asPure σ (pFlat P fr ⟨d, .convert s u x, ty, ps, af, none⟩ x)))) fun r => nextV' P call all l fr r d := rfl
theorem syV_call {f : Operand} {as : Array Operand} {ts : Array TypeId} : opsV P call all (⟨d, .call ⟨.value f, as, ts⟩, ty, ps, af, none⟩ :: l) fr σ = ob (eCall call fr σ ⟨.value f, as, ts⟩ f) fun r => bi r.pan (some ⟨.pan r.v, fr, r.σ⟩) (opsV P call all l (putV fr d r.v) r.σ) := by
  show ob (asCall (eCall call fr σ ⟨.value f, as, ts⟩ f)) (fun r => nextV' P call all l fr r d) = _
  cases eCall call fr σ ⟨.value f, as, ts⟩ f with
  | none => rfl
  | some r => obtain ⟨p, v, σ1⟩ := r; cases p <;> rfl
theorem syV_panic {x : Operand} : opsV P call all (⟨d, .panic x, ty, ps, af, none⟩ :: l) fr σ = ob (ePanic fr σ x) fun r => nextV' P call all l fr r d := rfl
theorem syD_convert {s u : TypeId} {x : Operand} : opsD P call all (⟨d, .convert s u x, ty, ps, af, none⟩ :: l) i fr σ ds = ob (orS (asNew σ (nBytes P fr s u x)) (orS (asRead σ (rString P fr σ s u x)) (asPure σ (pFlat P fr ⟨d, .convert s u x, ty, ps, af, none⟩ x)))) fun r => nextD' P call all l i fr σ ds r d := rfl
theorem syD_call {f : Operand} {as : Array Operand} {ts : Array TypeId} : opsD P call all (⟨d, .call ⟨.value f, as, ts⟩, ty, ps, af, none⟩ :: l) i fr σ ds = ob (eCall call fr σ ⟨.value f, as, ts⟩ f) fun r => bi r.pan none (opsD P call all l (i + 1) (putV fr d r.v) r.σ (.eff i σ r.σ :: ds)) := by
  show ob (asCall (eCall call fr σ ⟨.value f, as, ts⟩ f)) (fun r => nextD' P call all l i fr σ ds r d) = _
  cases eCall call fr σ ⟨.value f, as, ts⟩ f with
  | none => rfl
  | some r => obtain ⟨p, v, σ1⟩ := r; cases p <;> rfl
theorem syD_panic {x : Operand} : opsD P call all (⟨d, .panic x, ty, ps, af, none⟩ :: l) i fr σ ds = ob (ePanic fr σ x) fun r => nextD' P call all l i fr σ ds r d := rfl
theorem syV_nil : opsV P call all [] fr σ = some ⟨.normal, fr, σ⟩ := rfl
theorem syD_nil : opsD P call all [] i fr σ ds = some ⟨fr, σ, ds⟩ := rfl
theorem sy_put_some {v : Value} {t : Tmp} : putV fr (some t) v = fr.set t v := rfl
theorem sy_put_none {v : Value} : putV fr none v = fr := rfl
end

section
variable {P : Program} {H : Sums} {rd : Option Nat} {fr : Fr} {σ : St}
theorem ru_skip : lim P H rd .skip fr σ = some ⟨.normal, fr, σ⟩ := lim_eq ..
theorem ru_label {k : Nat} : lim P H rd (.label k) fr σ = some ⟨.normal, fr, σ⟩ := lim_eq ..
theorem ru_exit {k : Nat} : lim P H rd (.exit k) fr σ = some ⟨.exit k, fr, σ⟩ := lim_eq ..
theorem ru_ret : lim P H rd .ret fr σ = some ⟨.ret, fr, σ⟩ := lim_eq ..
theorem ru_seq {a b : Code} : lim P H rd (.seq a b) fr σ = ob (lim P H rd a fr σ) fun r => onNormal r (lim P H rd b) := lim_eq ..
theorem ru_loop {a : Code} : lim P H rd (.loop a) fr σ = ob (lim P H rd a fr σ) fun r => onNormal r (lim P H rd (.loop a)) := lim_eq ..
theorem ru_scope {a : Code} : lim P H rd (.scope a) fr σ = lim P H rd a fr σ := lim_eq ..
theorem ru_block {k : Nat} {a : Code} : lim P H rd (.block k a) fr σ = ob (lim P H rd a fr σ) (onExit k) := lim_eq ..
theorem ru_cond {c : Operand} {a b : Code} : lim P H rd (.cond c a b) fr σ = ob (ev fr c) fun v => ob (bool? v) fun t => bi t (lim P H rd a fr σ) (lim P H rd b fr σ) := lim_eq ..
theorem ru_region {k : Nat} {os : Array Oper} : lim P H rd (.region k os false) fr σ = opsV P (go P H) os os.toList fr σ := lim_eq ..
theorem ru_draw {k : Nat} {os : Array Oper} : lim P H rd (.region k os true) fr σ = drawn os (opsD P (go P H) os os.toList 0 fr σ []) := lim_eq ..
theorem ru_range {f : Operand} {ps : Array Tmp} {assign body : Code} : lim P H rd (.rangeFunc f ps assign body) fr σ = rangeV P (go P H) rd f ps.toList assign body fr σ := lim_eq ..
theorem on_normal {next : Fr → St → Option Res} : onNormal ⟨.normal, fr, σ⟩ next = next fr σ := rfl
theorem on_exit {next : Fr → St → Option Res} {k : Nat} : onNormal ⟨.exit k, fr, σ⟩ next = some ⟨.exit k, fr, σ⟩ := rfl
theorem on_ret {next : Fr → St → Option Res} : onNormal ⟨.ret, fr, σ⟩ next = some ⟨.ret, fr, σ⟩ := rfl
theorem on_pan {next : Fr → St → Option Res} {v : Value} : onNormal ⟨.pan v, fr, σ⟩ next = some ⟨.pan v, fr, σ⟩ := rfl
theorem ox_normal {k : Nat} : onExit k ⟨.normal, fr, σ⟩ = some ⟨.normal, fr, σ⟩ := rfl
theorem ox_exit {k m : Nat} : onExit k ⟨.exit m, fr, σ⟩ = if m = k then some ⟨.normal, fr, σ⟩ else some ⟨.exit m, fr, σ⟩ := by
  show bi (Nat.beq m k) _ _ = _
  by_cases h : m = k
  · subst h; rw [if_pos rfl]; simp
  · rw [if_neg h]
    cases hb : Nat.beq m k with
    | true => exact absurd (Nat.eq_of_beq_eq_true hb) h
    | false => rfl
theorem ox_ret {k : Nat} : onExit k ⟨.ret, fr, σ⟩ = some ⟨.ret, fr, σ⟩ := rfl
theorem ox_pan {k : Nat} {v : Value} : onExit k ⟨.pan v, fr, σ⟩ = some ⟨.pan v, fr, σ⟩ := rfl
theorem get_set {t : Fr} {n m : Nat} {v : Value} : (t.set n v).get m = if m = n then some v else t.get m := Tr.get_set v t n m
theorem init_nil {k : Nat} : initFr [] k fr = fr := rfl
theorem init_cons {k : Nat} {v : Value} {vs : List Value} : initFr (v :: vs) k fr = initFr vs (k + 1) (fr.set k v) := rfl
theorem get_empty {n : Nat} : (Tr.nil : Fr).get n = none := rfl
/-- A call of a function whose text is known. -/
theorem go_fn {g : Nat} {vs : List Value} {fn : Func} {body : Code} (hH : H g = none) (hf : P.funcs[g]? = some fn) (hb : fn.body = some body) :
    go P H (.fn g) vs σ = ob (lim P H none body (initFr vs 0 .nil) σ) fun r => bodyEnd P fn r := by
  show callG P H (lim P H) g vs σ = _
  unfold callG
  rw [hH]
  show ob (P.funcs[g]?) _ = _
  rw [hf, ob_some]
  simp only [hb]
  rfl
theorem end_normal {fn : Func} : bodyEnd P fn ⟨.normal, fr, σ⟩ = ob (resL P fr σ fn.results.toList) fun vs => some ⟨false, tup vs, σ⟩ := rfl
theorem end_ret {fn : Func} : bodyEnd P fn ⟨.ret, fr, σ⟩ = ob (resL P fr σ fn.results.toList) fun vs => some ⟨false, tup vs, σ⟩ := rfl
theorem end_pan {fn : Func} {v : Value} : bodyEnd P fn ⟨.pan v, fr, σ⟩ = some ⟨true, v, σ⟩ := rfl
theorem res_nil : resL P fr σ [] = some [] := rfl
theorem res_tmp {t : Tmp} {l : List ResultVar} : resL P fr σ (.tmp t :: l) = ob (fr.get t) fun v => ob (resL P fr σ l) fun vs => some (v :: vs) := rfl
theorem res_cell {a : Tmp} {t : TypeId} {l : List ResultVar} : resL P fr σ (.cell a t :: l) = ob (ob (fr.get a) fun p => loadV P σ t p) fun v => ob (resL P fr σ l) fun vs => some (v :: vs) := rfl
theorem ev_tmp {t : Tmp} : ev fr (.tmp t) = fr.get t := rfl
theorem ev_func {f : FuncId} : ev fr (.func f) = some (.func (.func f) #[] #[]) := rfl
theorem ev_global {g : Nat} : ev fr (.global g) = some (.pointer (some ⟨g, 0, none⟩)) := rfl
theorem ev_int {k : IntKind} {n : Int} : ev fr (.const (.int k n)) = some (.int k n) := rfl
theorem ev_bool {b : Bool} : ev fr (.const (.bool b)) = some (.bool b) := rfl
theorem ev_string {s : ByteArray} : ev fr (.const (.string s)) = some (.string s) := rfl
theorem ev_nilFunc : ev fr (.const .nilFunc) = some .nilFunc := rfl
theorem ev_nilIface : ev fr (.const .nilIface) = some .nilIface := rfl
theorem ev_nilPtr : ev fr (.const (.pointer none)) = some (.pointer none) := rfl
theorem ev_nilSlice : ev fr (.const (.slice none 0 0)) = some (.slice none 0 0) := rfl
theorem ev_agg {c : Array Value} (h : allScal c.toList = true) : ev fr (.const (.agg c)) = some (.agg c) := by
  show bb (allScal c.toList) _ = _
  rw [h]; rfl
theorem evs_nil : evs fr [] = some [] := rfl
theorem evs_cons {o : Operand} {l : List Operand} : evs fr (o :: l) = ob (ev fr o) fun v => ob (evs fr l) fun vs => some (v :: vs) := rfl
theorem tup_one {v : Value} : tup [v] = v := rfl
theorem tup_nil : tup [] = .tuple ⟨[]⟩ := rfl
theorem tup_two {v u : Value} {vs : List Value} : tup (v :: u :: vs) = .tuple ⟨v :: u :: vs⟩ := rfl
theorem bool_q {b : Bool} : bool? (.bool b) = some b := rfl
theorem one_v {v : Value} : oneV [v] = some v := rfl
theorem two_v {v u : Value} : twoV [v, u] = some (v, u) := rfl
theorem argT_of {c : Callee} {as : Array Operand} {t : TypeId} {ts : List TypeId} : argT ⟨c, as, ⟨t :: ts⟩⟩ = some t := rfl
theorem argT2_of {c : Callee} {as : Array Operand} {t u : TypeId} {ts : List TypeId} : argT2 ⟨c, as, ⟨t :: u :: ts⟩⟩ = some u := rfl
theorem at_q {b o : Nat} : at? (.pointer (some ⟨b, o, none⟩)) = some (b, o) := rfl
theorem nat_q {k : IntKind} {n : Nat} : nat? (.int k (n : Int)) = some n := rfl
theorem nat_q0 {k : IntKind} : nat? (.int k 0) = some 0 := rfl
theorem agg_q {c : Array Value} : agg? (.agg c) = some c.toList := rfl
theorem tuple_q {c : Array Value} : tuple? (.tuple c) = some c.toList := rfl
theorem func_q {g : Nat} {a b : Array Value} : func? (.func (.func g) a b) = some ⟨.fn g, a.toList, b.toList⟩ := rfl
theorem eCall_eq {call : CallT} {c : Call} {f : Operand} : eCall call fr σ c f = ob (evs fr c.args.toList) fun vs => ob (ev fr f) fun v => ob (func? v) fun f => call f.g (f.first ++ vs ++ f.captured) σ := rfl
end

/- Numbers. -/
theorem nblt (a b : Nat) : Nat.blt a b = decide (a < b) := by
  rw [Bool.eq_iff_iff, Nat.blt_eq, decide_eq_true_iff]
theorem nbeq (a b : Nat) : Nat.beq a b = decide (a = b) := by
  rw [Bool.eq_iff_iff, decide_eq_true_iff]; exact ⟨Nat.eq_of_beq_eq_true, fun h => by subst h; simp⟩
theorem ilt_eq (a b : Int) : ilt a b = decide (a < b) := by
  rw [Bool.eq_iff_iff, decide_eq_true_iff]
  cases a with
  | ofNat a => cases b with
    | ofNat b => simp only [ilt, nblt, decide_eq_true_iff]; exact Int.ofNat_lt.symm
    | negSucc b => simp only [ilt]; constructor
                   · intro h; cases h
                   · intro h; have := Int.negSucc_lt_zero b; have := Int.natCast_nonneg a; simp only [Int.ofNat_eq_natCast] at h; omega
  | negSucc a => cases b with
    | ofNat b => simp only [ilt, true_iff]; have := Int.negSucc_lt_zero a; have := Int.natCast_nonneg b; simp only [Int.ofNat_eq_natCast]; omega
    | negSucc b => simp only [ilt, nblt, decide_eq_true_iff]; rw [Int.negSucc_eq, Int.negSucc_eq]; omega
theorem ieq_eq (a b : Int) : ieq a b = decide (a = b) := by
  rw [Bool.eq_iff_iff, decide_eq_true_iff]
  cases a with
  | ofNat a => cases b with
    | ofNat b => simp only [ieq, nbeq, decide_eq_true_iff]; exact Int.ofNat_inj.symm
    | negSucc b => simp only [ieq]; constructor
                   · intro h; cases h
                   · intro h; cases h
  | negSucc a => cases b with
    | ofNat b => simp only [ieq]; constructor
                 · intro h; cases h
                 · intro h; cases h
    | negSucc b => simp only [ieq, nbeq, decide_eq_true_iff]; rw [Int.negSucc_eq, Int.negSucc_eq]; omega
theorem beqL_eq : ∀ (a b : List UInt8), beqL a b = decide (a = b) := by
  intro a
  induction a with
  | nil => intro b; cases b <;> simp [beqL]
  | cons x xs ih =>
    intro b
    cases b with
    | nil => simp [beqL]
    | cons y ys =>
      show bi (Nat.beq x.toNat y.toNat) (beqL xs ys) false = _
      by_cases h : x = y
      · subst h; simp [ih]
      · have : Nat.beq x.toNat y.toNat = false := by
          cases hb : Nat.beq x.toNat y.toNat with
          | true => exact absurd (UInt8.toNat_inj.1 (Nat.eq_of_beq_eq_true hb)) h
          | false => rfl
        rw [this]; simp [h]

end Go.Ab
