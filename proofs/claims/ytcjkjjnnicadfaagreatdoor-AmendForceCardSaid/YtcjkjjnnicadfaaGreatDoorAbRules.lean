/- The operations of the abstract machine as rules on what a run comes to. -/
import Derived.Test.YtcjkjjnnicadfaaGreatDoorAbEv
set_option linter.unusedSimpArgs false
set_option linter.unusedVariables false
namespace Go.Ab
open Go
section
variable {P : Program} {H : Sums} {call : CallT} {all : Array Oper} {l : List Oper} {fr : Fr} {σ : St} {d : Option Tmp} {ty : TypeId} {ps : String} {af : Array Edge} {i : Nat} {ds : List Trace} {rd : Option Nat}
theorem opsD_if {op : Op} {g : Nat × Bool} : opsD P call all (⟨d, op, ty, ps, af, some g⟩ :: l) i fr σ ds = ob (wantsV all fr ⟨d, op, ty, ps, af, some g⟩) fun c => bi c (opsD P call all (⟨d, op, ty, ps, af, none⟩ :: l) i fr σ ds) (opsD P call all l (i + 1) (putV fr d undefV) σ ds) := by
  show ob _ _ = _
  cases hx : wantsV all fr ⟨d, op, ty, ps, af, some g⟩ with
  | none => rfl
  | some c => cases op <;> (cases c <;> rfl)
theorem ev_pr {α β γ : Type} {a : α} {b : β} {f : α → β → Option γ} {Q : γ → Prop} {uq : Hd Q} : Ev (pr (a, b) f) Q uq = Ev (f a b) Q ⟨⟩ := rfl
theorem ev_pr' {α β γ : Type} {p : α × β} {f : α → β → Option γ} {Q : γ → Prop} {uq : Hd Q} : Ev (pr p f) Q uq = Ev (f p.1 p.2) Q ⟨⟩ := rfl
theorem evV_move {x : Operand} {Q : Res → Prop} {uq : Hd Q} : Ev (opsV P call all (⟨d, .move x, ty, ps, af, none⟩ :: l) fr σ) Q uq = Ev (ev fr x) (fun v => Ev (opsV P call all l (putV fr d v) σ) Q ⟨⟩) ⟨⟩ := by first | (rw [syV_move, ev_ob]; done) | (rw [syV_move, ev_ob]; rfl)
theorem evV_assign {x : Operand} {Q : Res → Prop} {uq : Hd Q} : Ev (opsV P call all (⟨d, .assign x, ty, ps, af, none⟩ :: l) fr σ) Q uq = Ev (ev fr x) (fun v => Ev (opsV P call all l (putV fr d v) σ) Q ⟨⟩) ⟨⟩ := by first | (rw [syV_assign, ev_ob]; done) | (rw [syV_assign, ev_ob]; rfl)
theorem evV_pick {c a b : Operand} {Q : Res → Prop} {uq : Hd Q} : Ev (opsV P call all (⟨d, .pick c a b, ty, ps, af, none⟩ :: l) fr σ) Q uq = Ev (pPick fr c a b) (fun v => Ev (opsV P call all l (putV fr d v) σ) Q ⟨⟩) ⟨⟩ := by first | (rw [syV_pick, ev_ob]; done) | (rw [syV_pick, ev_ob]; rfl)
theorem evV_alloc {t : TypeId} {Q : Res → Prop} {uq : Hd Q} : Ev (opsV P call all (⟨d, .alloc t, ty, ps, af, none⟩ :: l) fr σ) Q uq = Ev (nAlloc P t) (fun r => Ev (opsV P call all l (putV fr d (r.2 σ.n)) (σ.new r.1)) Q ⟨⟩) ⟨⟩ := by first | (rw [syV_alloc, ev_ob]; done) | (rw [syV_alloc, ev_ob]; rfl)
theorem evV_box {t : TypeId} {x : Operand} {Q : Res → Prop} {uq : Hd Q} : Ev (opsV P call all (⟨d, .box t x, ty, ps, af, none⟩ :: l) fr σ) Q uq = Ev (nBox fr x) (fun r => Ev (opsV P call all l (putV fr d (r.2 σ.n)) (σ.new r.1)) Q ⟨⟩) ⟨⟩ := by first | (rw [syV_box, ev_ob]; done) | (rw [syV_box, ev_ob]; rfl)
theorem evV_build {t : TypeId} {parts : Array (Nat × Operand)} {Q : Res → Prop} {uq : Hd Q} : Ev (opsV P call all (⟨d, .build t parts, ty, ps, af, none⟩ :: l) fr σ) Q uq = Ev (pBuild P fr t parts) (fun v => Ev (opsV P call all l (putV fr d v) σ) Q ⟨⟩) ⟨⟩ := by first | (rw [syV_build, ev_ob]; done) | (rw [syV_build, ev_ob]; rfl)
theorem evV_buildSlice {t : TypeId} {n : Nat} {parts : Array (Nat × Operand)} {Q : Res → Prop} {uq : Hd Q} : Ev (opsV P call all (⟨d, .buildSlice t n parts, ty, ps, af, none⟩ :: l) fr σ) Q uq = Ev (nSlice P fr t n parts) (fun r => Ev (opsV P call all l (putV fr d (r.2 σ.n)) (σ.new r.1)) Q ⟨⟩) ⟨⟩ := by first | (rw [syV_buildSlice, ev_ob]; done) | (rw [syV_buildSlice, ev_ob]; rfl)
theorem evV_insert {t : TypeId} {m k x : Operand} {Q : Res → Prop} {uq : Hd Q} : Ev (opsV P call all (⟨d, .insert t m k x, ty, ps, af, none⟩ :: l) fr σ) Q uq = Ev (eMapUpdate P fr σ t m k x) (fun r => Ev (opsV P call all l (putV fr d r.1) r.2) Q ⟨⟩) ⟨⟩ := by first | (rw [syV_insert, ev_ob]; done) | (rw [syV_insert, ev_ob]; rfl)
theorem evV_load {t : TypeId} {a : Operand} {Q : Res → Prop} {uq : Hd Q} : Ev (opsV P call all (⟨d, .load t a, ty, ps, af, none⟩ :: l) fr σ) Q uq = Ev (rLoad P fr σ t a) (fun r => Ev (opsV P call all l (putV fr d r.1) σ) Q ⟨⟩) ⟨⟩ := by first | (rw [syV_load, ev_ob]; done) | (rw [syV_load, ev_ob]; rfl)
theorem evV_store {t : TypeId} {a v : Operand} {Q : Res → Prop} {uq : Hd Q} : Ev (opsV P call all (⟨d, .store t a v, ty, ps, af, none⟩ :: l) fr σ) Q uq = Ev (eStore P fr σ t a v) (fun r => Ev (opsV P call all l (putV fr d r.1) r.2) Q ⟨⟩) ⟨⟩ := by first | (rw [syV_store, ev_ob]; done) | (rw [syV_store, ev_ob]; rfl)
theorem evV_nilCheck {x : Operand} {Q : Res → Prop} {uq : Hd Q} : Ev (opsV P call all (⟨d, .nilCheck x, ty, ps, af, none⟩ :: l) fr σ) Q uq = Ev (pNilCheck fr x) (fun v => Ev (opsV P call all l (putV fr d v) σ) Q ⟨⟩) ⟨⟩ := by first | (rw [syV_nilCheck, ev_ob]; done) | (rw [syV_nilCheck, ev_ob]; rfl)
theorem evV_bin {b : BinOp} {t u : TypeId} {x y : Operand} {Q : Res → Prop} {uq : Hd Q} : Ev (opsV P call all (⟨d, .binOp b t x y u, ty, ps, af, none⟩ :: l) fr σ) Q uq = Ev (pBin P fr ⟨d, .binOp b t x y u, ty, ps, af, none⟩ b t x y) (fun v => Ev (opsV P call all l (putV fr d v) σ) Q ⟨⟩) ⟨⟩ := by first | (rw [syV_bin, ev_ob]; done) | (rw [syV_bin, ev_ob]; rfl)
theorem evV_un {b : UnOp} {t : TypeId} {x : Operand} {Q : Res → Prop} {uq : Hd Q} : Ev (opsV P call all (⟨d, .unOp b t x, ty, ps, af, none⟩ :: l) fr σ) Q uq = Ev (pFlat P fr ⟨d, .unOp b t x, ty, ps, af, none⟩ x) (fun v => Ev (opsV P call all l (putV fr d v) σ) Q ⟨⟩) ⟨⟩ := by first | (rw [syV_un, ev_ob]; done) | (rw [syV_un, ev_ob]; rfl)
theorem evV_iface {t : TypeId} {x : Operand} {Q : Res → Prop} {uq : Hd Q} : Ev (opsV P call all (⟨d, .makeInterface t x, ty, ps, af, none⟩ :: l) fr σ) Q uq = Ev (pIface P fr t x) (fun v => Ev (opsV P call all l (putV fr d v) σ) Q ⟨⟩) ⟨⟩ := by first | (rw [syV_iface, ev_ob]; done) | (rw [syV_iface, ev_ob]; rfl)
theorem evV_func {fn : Fn} {fs cs : Array Operand} {Q : Res → Prop} {uq : Hd Q} : Ev (opsV P call all (⟨d, .makeFunc fn fs cs, ty, ps, af, none⟩ :: l) fr σ) Q uq = Ev (pFunc fr fn fs cs) (fun v => Ev (opsV P call all l (putV fr d v) σ) Q ⟨⟩) ⟨⟩ := by first | (rw [syV_func, ev_ob]; done) | (rw [syV_func, ev_ob]; rfl)
theorem evV_makeMap {t : TypeId} {r : Option Operand} {Q : Res → Prop} {uq : Hd Q} : Ev (opsV P call all (⟨d, .makeMap t r, ty, ps, af, none⟩ :: l) fr σ) Q uq = Ev (eMakeMap fr σ r) (fun r => Ev (opsV P call all l (putV fr d r.1) r.2) Q ⟨⟩) ⟨⟩ := by first | (rw [syV_makeMap, ev_ob]; done) | (rw [syV_makeMap, ev_ob]; rfl)
theorem evV_makeSlice {t : TypeId} {n c : Operand} {Q : Res → Prop} {uq : Hd Q} : Ev (opsV P call all (⟨d, .makeSlice t n c, ty, ps, af, none⟩ :: l) fr σ) Q uq = Ev (nMake P fr t n c) (fun r => Ev (opsV P call all l (putV fr d (r.2 σ.n)) (σ.new r.1)) Q ⟨⟩) ⟨⟩ := by first | (rw [syV_makeSlice, ev_ob]; done) | (rw [syV_makeSlice, ev_ob]; rfl)
theorem evV_slice {t : TypeId} {x : Operand} {lo hi mx : Option Operand} {Q : Res → Prop} {uq : Hd Q} : Ev (opsV P call all (⟨d, .slice t x lo hi mx, ty, ps, af, none⟩ :: l) fr σ) Q uq = Ev (pSlice P fr t x lo hi mx) (fun v => Ev (opsV P call all l (putV fr d v) σ) Q ⟨⟩) ⟨⟩ := by first | (rw [syV_slice, ev_ob]; done) | (rw [syV_slice, ev_ob]; rfl)
theorem evV_fieldAddr {s : TypeId} {x : Operand} {f : Nat} {Q : Res → Prop} {uq : Hd Q} : Ev (opsV P call all (⟨d, .fieldAddr s x f, ty, ps, af, none⟩ :: l) fr σ) Q uq = Ev (pFieldAddr P fr s x f) (fun v => Ev (opsV P call all l (putV fr d v) σ) Q ⟨⟩) ⟨⟩ := by first | (rw [syV_fieldAddr, ev_ob]; done) | (rw [syV_fieldAddr, ev_ob]; rfl)
theorem evV_field {s : TypeId} {x : Operand} {f : Nat} {Q : Res → Prop} {uq : Hd Q} : Ev (opsV P call all (⟨d, .field s x f, ty, ps, af, none⟩ :: l) fr σ) Q uq = Ev (pField P fr s x f) (fun v => Ev (opsV P call all l (putV fr d v) σ) Q ⟨⟩) ⟨⟩ := by first | (rw [syV_field, ev_ob]; done) | (rw [syV_field, ev_ob]; rfl)
theorem evV_indexAddr {t : TypeId} {x ix : Operand} {Q : Res → Prop} {uq : Hd Q} : Ev (opsV P call all (⟨d, .indexAddr t x ix, ty, ps, af, none⟩ :: l) fr σ) Q uq = Ev (pIndexAddr P fr t x ix) (fun v => Ev (opsV P call all l (putV fr d v) σ) Q ⟨⟩) ⟨⟩ := by first | (rw [syV_indexAddr, ev_ob]; done) | (rw [syV_indexAddr, ev_ob]; rfl)
theorem evV_index {t : TypeId} {x ix : Operand} {Q : Res → Prop} {uq : Hd Q} : Ev (opsV P call all (⟨d, .index t x ix, ty, ps, af, none⟩ :: l) fr σ) Q uq = Ev (pIndex P fr t x ix) (fun v => Ev (opsV P call all l (putV fr d v) σ) Q ⟨⟩) ⟨⟩ := by first | (rw [syV_index, ev_ob]; done) | (rw [syV_index, ev_ob]; rfl)
theorem evV_lookup {t : TypeId} {x ix : Operand} {ok : Bool} {Q : Res → Prop} {uq : Hd Q} : Ev (opsV P call all (⟨d, .lookup t x ix ok, ty, ps, af, none⟩ :: l) fr σ) Q uq = Ev (eLookup P fr σ t x ix ok) (fun r => Ev (opsV P call all l (putV fr d r.1) r.2) Q ⟨⟩) ⟨⟩ := by first | (rw [syV_lookup, ev_ob]; done) | (rw [syV_lookup, ev_ob]; rfl)
theorem evV_mapUpdate {t : TypeId} {m k x : Operand} {Q : Res → Prop} {uq : Hd Q} : Ev (opsV P call all (⟨d, .mapUpdate t m k x, ty, ps, af, none⟩ :: l) fr σ) Q uq = Ev (eMapUpdate P fr σ t m k x) (fun r => Ev (opsV P call all l (putV fr d r.1) r.2) Q ⟨⟩) ⟨⟩ := by first | (rw [syV_mapUpdate, ev_ob]; done) | (rw [syV_mapUpdate, ev_ob]; rfl)
theorem evV_extract {t : Operand} {ix : Nat} {Q : Res → Prop} {uq : Hd Q} : Ev (opsV P call all (⟨d, .extract t ix, ty, ps, af, none⟩ :: l) fr σ) Q uq = Ev (pExtract fr t ix) (fun v => Ev (opsV P call all l (putV fr d v) σ) Q ⟨⟩) ⟨⟩ := by first | (rw [syV_extract, ev_ob]; done) | (rw [syV_extract, ev_ob]; rfl)
theorem evV_len {as : Array Operand} {ts : Array TypeId} {Q : Res → Prop} {uq : Hd Q} : Ev (opsV P call all (⟨d, .call ⟨.builtin .len, as, ts⟩, ty, ps, af, none⟩ :: l) fr σ) Q uq = Ev (pLen P fr ⟨.builtin .len, as, ts⟩) (fun v => Ev (opsV P call all l (putV fr d v) σ) Q ⟨⟩) ⟨⟩ := by first | (rw [syV_len, ev_ob]; done) | (rw [syV_len, ev_ob]; rfl)
theorem evV_max {as : Array Operand} {ts : Array TypeId} {Q : Res → Prop} {uq : Hd Q} : Ev (opsV P call all (⟨d, .call ⟨.builtin .max, as, ts⟩, ty, ps, af, none⟩ :: l) fr σ) Q uq = Ev (pMM fr true ⟨.builtin .max, as, ts⟩) (fun v => Ev (opsV P call all l (putV fr d v) σ) Q ⟨⟩) ⟨⟩ := by first | (rw [syV_max, ev_ob]; done) | (rw [syV_max, ev_ob]; rfl)
theorem evV_min {as : Array Operand} {ts : Array TypeId} {Q : Res → Prop} {uq : Hd Q} : Ev (opsV P call all (⟨d, .call ⟨.builtin .min, as, ts⟩, ty, ps, af, none⟩ :: l) fr σ) Q uq = Ev (pMM fr false ⟨.builtin .min, as, ts⟩) (fun v => Ev (opsV P call all l (putV fr d v) σ) Q ⟨⟩) ⟨⟩ := by first | (rw [syV_min, ev_ob]; done) | (rw [syV_min, ev_ob]; rfl)
theorem evV_append {as : Array Operand} {ts : Array TypeId} {Q : Res → Prop} {uq : Hd Q} : Ev (opsV P call all (⟨d, .call ⟨.builtin .append, as, ts⟩, ty, ps, af, none⟩ :: l) fr σ) Q uq = Ev (eAppend P fr σ ⟨.builtin .append, as, ts⟩) (fun r => Ev (opsV P call all l (putV fr d r.1) r.2) Q ⟨⟩) ⟨⟩ := by first | (rw [syV_append, ev_ob]; done) | (rw [syV_append, ev_ob]; rfl)
theorem evV_copy {as : Array Operand} {ts : Array TypeId} {Q : Res → Prop} {uq : Hd Q} : Ev (opsV P call all (⟨d, .call ⟨.builtin .copy, as, ts⟩, ty, ps, af, none⟩ :: l) fr σ) Q uq = Ev (eCopy P fr σ ⟨.builtin .copy, as, ts⟩) (fun r => Ev (opsV P call all l (putV fr d r.1) r.2) Q ⟨⟩) ⟨⟩ := by first | (rw [syV_copy, ev_ob]; done) | (rw [syV_copy, ev_ob]; rfl)
theorem evV_clear {as : Array Operand} {ts : Array TypeId} {Q : Res → Prop} {uq : Hd Q} : Ev (opsV P call all (⟨d, .call ⟨.builtin .clear, as, ts⟩, ty, ps, af, none⟩ :: l) fr σ) Q uq = Ev (eClear P fr σ ⟨.builtin .clear, as, ts⟩) (fun r => Ev (opsV P call all l (putV fr d r.1) r.2) Q ⟨⟩) ⟨⟩ := by first | (rw [syV_clear, ev_ob]; done) | (rw [syV_clear, ev_ob]; rfl)
theorem evV_call {f : Operand} {as : Array Operand} {ts : Array TypeId} {Q : Res → Prop} {uq : Hd Q} : Ev (opsV P call all (⟨d, .call ⟨.value f, as, ts⟩, ty, ps, af, none⟩ :: l) fr σ) Q uq =
    Ev (evs fr as.toList) (fun vs => Ev (ev fr f) (fun v => Ev (func? v) (fun F => Ev (call F.g (F.first ++ vs ++ F.captured) σ) (fun r => Br r.pan (Q ⟨.pan r.v, fr, r.σ⟩) (Ev (opsV P call all l (putV fr d r.v) r.σ) Q ⟨⟩) ⟨⟩) ⟨⟩) ⟨⟩) ⟨⟩) ⟨⟩ := by
  rw [syV_call, eCall_eq, ev_ob, ev_ob]
  refine congrArg (fun z => Ev _ z ⟨⟩) (funext fun vs => ?_)
  rw [ev_ob]
  refine congrArg (fun z => Ev _ z ⟨⟩) (funext fun v => ?_)
  rw [ev_ob]
  refine congrArg (fun z => Ev _ z ⟨⟩) (funext fun F => ?_)
  refine congrArg (fun z => Ev _ z ⟨⟩) (funext fun r => ?_)
  rw [ev_bi, ev_some]
theorem evV_convert {s t : TypeId} {x : Operand} {Q : Res → Prop} {uq : Hd Q} : Ev (opsV P call all (⟨d, .convert s t x, ty, ps, af, none⟩ :: l) fr σ) Q uq =
    Ev (orS (asNew σ (nBytes P fr s t x)) (orS (asRead σ (rString P fr σ s t x)) (asPure σ (pFlat P fr ⟨d, .convert s t x, ty, ps, af, none⟩ x)))) (fun r => Ev (nextV' P call all l fr r d) Q ⟨⟩) ⟨⟩ := by rw [syV_convert, ev_ob]
theorem evV_panic {x : Operand} {Q : Res → Prop} {uq : Hd Q} : Ev (opsV P call all (⟨d, .panic x, ty, ps, af, none⟩ :: l) fr σ) Q uq = Ev (ePanic fr σ x) (fun r => Ev (nextV' P call all l fr r d) Q ⟨⟩) ⟨⟩ := by rw [syV_panic, ev_ob]
theorem evV_if {op : Op} {g : Nat × Bool} {Q : Res → Prop} {uq : Hd Q} : Ev (opsV P call all (⟨d, op, ty, ps, af, some g⟩ :: l) fr σ) Q uq = Ev (wantsV all fr ⟨d, op, ty, ps, af, some g⟩) (fun c => Br c (Ev (opsV P call all (⟨d, op, ty, ps, af, none⟩ :: l) fr σ) Q ⟨⟩) (Ev (opsV P call all l (putV fr d undefV) σ) Q ⟨⟩) ⟨⟩) ⟨⟩ := by
  rw [opsV_if, ev_ob]
  refine congrArg (fun z => Ev _ z ⟨⟩) (funext fun c => ?_)
  rw [ev_bi]
theorem evD_move {x : Operand} {Q : FST → Prop} {uq : Hd Q} : Ev (opsD P call all (⟨d, .move x, ty, ps, af, none⟩ :: l) i fr σ ds) Q uq = Ev (ev fr x) (fun v => Ev (opsD P call all l (i + 1) (putV fr d v) σ ds) Q ⟨⟩) ⟨⟩ := by first | (rw [syD_move, ev_ob]; done) | (rw [syD_move, ev_ob]; rfl)
theorem evD_assign {x : Operand} {Q : FST → Prop} {uq : Hd Q} : Ev (opsD P call all (⟨d, .assign x, ty, ps, af, none⟩ :: l) i fr σ ds) Q uq = Ev (ev fr x) (fun v => Ev (opsD P call all l (i + 1) (putV fr d v) σ ds) Q ⟨⟩) ⟨⟩ := by first | (rw [syD_assign, ev_ob]; done) | (rw [syD_assign, ev_ob]; rfl)
theorem evD_pick {c a b : Operand} {Q : FST → Prop} {uq : Hd Q} : Ev (opsD P call all (⟨d, .pick c a b, ty, ps, af, none⟩ :: l) i fr σ ds) Q uq = Ev (pPick fr c a b) (fun v => Ev (opsD P call all l (i + 1) (putV fr d v) σ ds) Q ⟨⟩) ⟨⟩ := by first | (rw [syD_pick, ev_ob]; done) | (rw [syD_pick, ev_ob]; rfl)
theorem evD_alloc {t : TypeId} {Q : FST → Prop} {uq : Hd Q} : Ev (opsD P call all (⟨d, .alloc t, ty, ps, af, none⟩ :: l) i fr σ ds) Q uq = Ev (nAlloc P t) (fun r => Ev (opsD P call all l (i + 1) (putV fr d (r.2 σ.n)) (σ.new r.1) ds) Q ⟨⟩) ⟨⟩ := by first | (rw [syD_alloc, ev_ob]; done) | (rw [syD_alloc, ev_ob]; rfl)
theorem evD_box {t : TypeId} {x : Operand} {Q : FST → Prop} {uq : Hd Q} : Ev (opsD P call all (⟨d, .box t x, ty, ps, af, none⟩ :: l) i fr σ ds) Q uq = Ev (nBox fr x) (fun r => Ev (opsD P call all l (i + 1) (putV fr d (r.2 σ.n)) (σ.new r.1) ds) Q ⟨⟩) ⟨⟩ := by first | (rw [syD_box, ev_ob]; done) | (rw [syD_box, ev_ob]; rfl)
theorem evD_build {t : TypeId} {parts : Array (Nat × Operand)} {Q : FST → Prop} {uq : Hd Q} : Ev (opsD P call all (⟨d, .build t parts, ty, ps, af, none⟩ :: l) i fr σ ds) Q uq = Ev (pBuild P fr t parts) (fun v => Ev (opsD P call all l (i + 1) (putV fr d v) σ ds) Q ⟨⟩) ⟨⟩ := by first | (rw [syD_build, ev_ob]; done) | (rw [syD_build, ev_ob]; rfl)
theorem evD_buildSlice {t : TypeId} {n : Nat} {parts : Array (Nat × Operand)} {Q : FST → Prop} {uq : Hd Q} : Ev (opsD P call all (⟨d, .buildSlice t n parts, ty, ps, af, none⟩ :: l) i fr σ ds) Q uq = Ev (nSlice P fr t n parts) (fun r => Ev (opsD P call all l (i + 1) (putV fr d (r.2 σ.n)) (σ.new r.1) ds) Q ⟨⟩) ⟨⟩ := by first | (rw [syD_buildSlice, ev_ob]; done) | (rw [syD_buildSlice, ev_ob]; rfl)
theorem evD_insert {t : TypeId} {m k x : Operand} {Q : FST → Prop} {uq : Hd Q} : Ev (opsD P call all (⟨d, .insert t m k x, ty, ps, af, none⟩ :: l) i fr σ ds) Q uq = Ev (eMapUpdate P fr σ t m k x) (fun r => Ev (opsD P call all l (i + 1) (putV fr d r.1) r.2 (.eff i σ r.2 :: ds)) Q ⟨⟩) ⟨⟩ := by first | (rw [syD_insert, ev_ob]; done) | (rw [syD_insert, ev_ob]; rfl)
theorem evD_load {t : TypeId} {a : Operand} {Q : FST → Prop} {uq : Hd Q} : Ev (opsD P call all (⟨d, .load t a, ty, ps, af, none⟩ :: l) i fr σ ds) Q uq = Ev (rLoad P fr σ t a) (fun r => Ev (opsD P call all l (i + 1) (putV fr d r.1) σ (.read i r.2 :: ds)) Q ⟨⟩) ⟨⟩ := by first | (rw [syD_load, ev_ob]; done) | (rw [syD_load, ev_ob]; rfl)
theorem evD_store {t : TypeId} {a v : Operand} {Q : FST → Prop} {uq : Hd Q} : Ev (opsD P call all (⟨d, .store t a v, ty, ps, af, none⟩ :: l) i fr σ ds) Q uq = Ev (eStore P fr σ t a v) (fun r => Ev (opsD P call all l (i + 1) (putV fr d r.1) r.2 (.eff i σ r.2 :: ds)) Q ⟨⟩) ⟨⟩ := by first | (rw [syD_store, ev_ob]; done) | (rw [syD_store, ev_ob]; rfl)
theorem evD_nilCheck {x : Operand} {Q : FST → Prop} {uq : Hd Q} : Ev (opsD P call all (⟨d, .nilCheck x, ty, ps, af, none⟩ :: l) i fr σ ds) Q uq = Ev (pNilCheck fr x) (fun v => Ev (opsD P call all l (i + 1) (putV fr d v) σ ds) Q ⟨⟩) ⟨⟩ := by first | (rw [syD_nilCheck, ev_ob]; done) | (rw [syD_nilCheck, ev_ob]; rfl)
theorem evD_bin {b : BinOp} {t u : TypeId} {x y : Operand} {Q : FST → Prop} {uq : Hd Q} : Ev (opsD P call all (⟨d, .binOp b t x y u, ty, ps, af, none⟩ :: l) i fr σ ds) Q uq = Ev (pBin P fr ⟨d, .binOp b t x y u, ty, ps, af, none⟩ b t x y) (fun v => Ev (opsD P call all l (i + 1) (putV fr d v) σ ds) Q ⟨⟩) ⟨⟩ := by first | (rw [syD_bin, ev_ob]; done) | (rw [syD_bin, ev_ob]; rfl)
theorem evD_un {b : UnOp} {t : TypeId} {x : Operand} {Q : FST → Prop} {uq : Hd Q} : Ev (opsD P call all (⟨d, .unOp b t x, ty, ps, af, none⟩ :: l) i fr σ ds) Q uq = Ev (pFlat P fr ⟨d, .unOp b t x, ty, ps, af, none⟩ x) (fun v => Ev (opsD P call all l (i + 1) (putV fr d v) σ ds) Q ⟨⟩) ⟨⟩ := by first | (rw [syD_un, ev_ob]; done) | (rw [syD_un, ev_ob]; rfl)
theorem evD_iface {t : TypeId} {x : Operand} {Q : FST → Prop} {uq : Hd Q} : Ev (opsD P call all (⟨d, .makeInterface t x, ty, ps, af, none⟩ :: l) i fr σ ds) Q uq = Ev (pIface P fr t x) (fun v => Ev (opsD P call all l (i + 1) (putV fr d v) σ ds) Q ⟨⟩) ⟨⟩ := by first | (rw [syD_iface, ev_ob]; done) | (rw [syD_iface, ev_ob]; rfl)
theorem evD_func {fn : Fn} {fs cs : Array Operand} {Q : FST → Prop} {uq : Hd Q} : Ev (opsD P call all (⟨d, .makeFunc fn fs cs, ty, ps, af, none⟩ :: l) i fr σ ds) Q uq = Ev (pFunc fr fn fs cs) (fun v => Ev (opsD P call all l (i + 1) (putV fr d v) σ ds) Q ⟨⟩) ⟨⟩ := by first | (rw [syD_func, ev_ob]; done) | (rw [syD_func, ev_ob]; rfl)
theorem evD_makeMap {t : TypeId} {r : Option Operand} {Q : FST → Prop} {uq : Hd Q} : Ev (opsD P call all (⟨d, .makeMap t r, ty, ps, af, none⟩ :: l) i fr σ ds) Q uq = Ev (eMakeMap fr σ r) (fun r => Ev (opsD P call all l (i + 1) (putV fr d r.1) r.2 (.eff i σ r.2 :: ds)) Q ⟨⟩) ⟨⟩ := by first | (rw [syD_makeMap, ev_ob]; done) | (rw [syD_makeMap, ev_ob]; rfl)
theorem evD_makeSlice {t : TypeId} {n c : Operand} {Q : FST → Prop} {uq : Hd Q} : Ev (opsD P call all (⟨d, .makeSlice t n c, ty, ps, af, none⟩ :: l) i fr σ ds) Q uq = Ev (nMake P fr t n c) (fun r => Ev (opsD P call all l (i + 1) (putV fr d (r.2 σ.n)) (σ.new r.1) ds) Q ⟨⟩) ⟨⟩ := by first | (rw [syD_makeSlice, ev_ob]; done) | (rw [syD_makeSlice, ev_ob]; rfl)
theorem evD_slice {t : TypeId} {x : Operand} {lo hi mx : Option Operand} {Q : FST → Prop} {uq : Hd Q} : Ev (opsD P call all (⟨d, .slice t x lo hi mx, ty, ps, af, none⟩ :: l) i fr σ ds) Q uq = Ev (pSlice P fr t x lo hi mx) (fun v => Ev (opsD P call all l (i + 1) (putV fr d v) σ ds) Q ⟨⟩) ⟨⟩ := by first | (rw [syD_slice, ev_ob]; done) | (rw [syD_slice, ev_ob]; rfl)
theorem evD_fieldAddr {s : TypeId} {x : Operand} {f : Nat} {Q : FST → Prop} {uq : Hd Q} : Ev (opsD P call all (⟨d, .fieldAddr s x f, ty, ps, af, none⟩ :: l) i fr σ ds) Q uq = Ev (pFieldAddr P fr s x f) (fun v => Ev (opsD P call all l (i + 1) (putV fr d v) σ ds) Q ⟨⟩) ⟨⟩ := by first | (rw [syD_fieldAddr, ev_ob]; done) | (rw [syD_fieldAddr, ev_ob]; rfl)
theorem evD_field {s : TypeId} {x : Operand} {f : Nat} {Q : FST → Prop} {uq : Hd Q} : Ev (opsD P call all (⟨d, .field s x f, ty, ps, af, none⟩ :: l) i fr σ ds) Q uq = Ev (pField P fr s x f) (fun v => Ev (opsD P call all l (i + 1) (putV fr d v) σ ds) Q ⟨⟩) ⟨⟩ := by first | (rw [syD_field, ev_ob]; done) | (rw [syD_field, ev_ob]; rfl)
theorem evD_indexAddr {t : TypeId} {x ix : Operand} {Q : FST → Prop} {uq : Hd Q} : Ev (opsD P call all (⟨d, .indexAddr t x ix, ty, ps, af, none⟩ :: l) i fr σ ds) Q uq = Ev (pIndexAddr P fr t x ix) (fun v => Ev (opsD P call all l (i + 1) (putV fr d v) σ ds) Q ⟨⟩) ⟨⟩ := by first | (rw [syD_indexAddr, ev_ob]; done) | (rw [syD_indexAddr, ev_ob]; rfl)
theorem evD_index {t : TypeId} {x ix : Operand} {Q : FST → Prop} {uq : Hd Q} : Ev (opsD P call all (⟨d, .index t x ix, ty, ps, af, none⟩ :: l) i fr σ ds) Q uq = Ev (pIndex P fr t x ix) (fun v => Ev (opsD P call all l (i + 1) (putV fr d v) σ ds) Q ⟨⟩) ⟨⟩ := by first | (rw [syD_index, ev_ob]; done) | (rw [syD_index, ev_ob]; rfl)
theorem evD_lookup {t : TypeId} {x ix : Operand} {ok : Bool} {Q : FST → Prop} {uq : Hd Q} : Ev (opsD P call all (⟨d, .lookup t x ix ok, ty, ps, af, none⟩ :: l) i fr σ ds) Q uq = Ev (eLookup P fr σ t x ix ok) (fun r => Ev (opsD P call all l (i + 1) (putV fr d r.1) r.2 (.eff i σ r.2 :: ds)) Q ⟨⟩) ⟨⟩ := by first | (rw [syD_lookup, ev_ob]; done) | (rw [syD_lookup, ev_ob]; rfl)
theorem evD_mapUpdate {t : TypeId} {m k x : Operand} {Q : FST → Prop} {uq : Hd Q} : Ev (opsD P call all (⟨d, .mapUpdate t m k x, ty, ps, af, none⟩ :: l) i fr σ ds) Q uq = Ev (eMapUpdate P fr σ t m k x) (fun r => Ev (opsD P call all l (i + 1) (putV fr d r.1) r.2 (.eff i σ r.2 :: ds)) Q ⟨⟩) ⟨⟩ := by first | (rw [syD_mapUpdate, ev_ob]; done) | (rw [syD_mapUpdate, ev_ob]; rfl)
theorem evD_extract {t : Operand} {ix : Nat} {Q : FST → Prop} {uq : Hd Q} : Ev (opsD P call all (⟨d, .extract t ix, ty, ps, af, none⟩ :: l) i fr σ ds) Q uq = Ev (pExtract fr t ix) (fun v => Ev (opsD P call all l (i + 1) (putV fr d v) σ ds) Q ⟨⟩) ⟨⟩ := by first | (rw [syD_extract, ev_ob]; done) | (rw [syD_extract, ev_ob]; rfl)
theorem evD_len {as : Array Operand} {ts : Array TypeId} {Q : FST → Prop} {uq : Hd Q} : Ev (opsD P call all (⟨d, .call ⟨.builtin .len, as, ts⟩, ty, ps, af, none⟩ :: l) i fr σ ds) Q uq = Ev (pLen P fr ⟨.builtin .len, as, ts⟩) (fun v => Ev (opsD P call all l (i + 1) (putV fr d v) σ ds) Q ⟨⟩) ⟨⟩ := by first | (rw [syD_len, ev_ob]; done) | (rw [syD_len, ev_ob]; rfl)
theorem evD_max {as : Array Operand} {ts : Array TypeId} {Q : FST → Prop} {uq : Hd Q} : Ev (opsD P call all (⟨d, .call ⟨.builtin .max, as, ts⟩, ty, ps, af, none⟩ :: l) i fr σ ds) Q uq = Ev (pMM fr true ⟨.builtin .max, as, ts⟩) (fun v => Ev (opsD P call all l (i + 1) (putV fr d v) σ ds) Q ⟨⟩) ⟨⟩ := by first | (rw [syD_max, ev_ob]; done) | (rw [syD_max, ev_ob]; rfl)
theorem evD_min {as : Array Operand} {ts : Array TypeId} {Q : FST → Prop} {uq : Hd Q} : Ev (opsD P call all (⟨d, .call ⟨.builtin .min, as, ts⟩, ty, ps, af, none⟩ :: l) i fr σ ds) Q uq = Ev (pMM fr false ⟨.builtin .min, as, ts⟩) (fun v => Ev (opsD P call all l (i + 1) (putV fr d v) σ ds) Q ⟨⟩) ⟨⟩ := by first | (rw [syD_min, ev_ob]; done) | (rw [syD_min, ev_ob]; rfl)
theorem evD_append {as : Array Operand} {ts : Array TypeId} {Q : FST → Prop} {uq : Hd Q} : Ev (opsD P call all (⟨d, .call ⟨.builtin .append, as, ts⟩, ty, ps, af, none⟩ :: l) i fr σ ds) Q uq = Ev (eAppend P fr σ ⟨.builtin .append, as, ts⟩) (fun r => Ev (opsD P call all l (i + 1) (putV fr d r.1) r.2 (.eff i σ r.2 :: ds)) Q ⟨⟩) ⟨⟩ := by first | (rw [syD_append, ev_ob]; done) | (rw [syD_append, ev_ob]; rfl)
theorem evD_copy {as : Array Operand} {ts : Array TypeId} {Q : FST → Prop} {uq : Hd Q} : Ev (opsD P call all (⟨d, .call ⟨.builtin .copy, as, ts⟩, ty, ps, af, none⟩ :: l) i fr σ ds) Q uq = Ev (eCopy P fr σ ⟨.builtin .copy, as, ts⟩) (fun r => Ev (opsD P call all l (i + 1) (putV fr d r.1) r.2 (.eff i σ r.2 :: ds)) Q ⟨⟩) ⟨⟩ := by first | (rw [syD_copy, ev_ob]; done) | (rw [syD_copy, ev_ob]; rfl)
theorem evD_clear {as : Array Operand} {ts : Array TypeId} {Q : FST → Prop} {uq : Hd Q} : Ev (opsD P call all (⟨d, .call ⟨.builtin .clear, as, ts⟩, ty, ps, af, none⟩ :: l) i fr σ ds) Q uq = Ev (eClear P fr σ ⟨.builtin .clear, as, ts⟩) (fun r => Ev (opsD P call all l (i + 1) (putV fr d r.1) r.2 (.eff i σ r.2 :: ds)) Q ⟨⟩) ⟨⟩ := by first | (rw [syD_clear, ev_ob]; done) | (rw [syD_clear, ev_ob]; rfl)
theorem evD_call {f : Operand} {as : Array Operand} {ts : Array TypeId} {Q : FST → Prop} {uq : Hd Q} : Ev (opsD P call all (⟨d, .call ⟨.value f, as, ts⟩, ty, ps, af, none⟩ :: l) i fr σ ds) Q uq =
    Ev (evs fr as.toList) (fun vs => Ev (ev fr f) (fun v => Ev (func? v) (fun F => Ev (call F.g (F.first ++ vs ++ F.captured) σ) (fun r => Br r.pan False (Ev (opsD P call all l (i + 1) (putV fr d r.v) r.σ (.eff i σ r.σ :: ds)) Q ⟨⟩) ⟨⟩) ⟨⟩) ⟨⟩) ⟨⟩) ⟨⟩ := by
  rw [syD_call, eCall_eq, ev_ob, ev_ob]
  refine congrArg (fun z => Ev _ z ⟨⟩) (funext fun vs => ?_)
  rw [ev_ob]
  refine congrArg (fun z => Ev _ z ⟨⟩) (funext fun v => ?_)
  rw [ev_ob]
  refine congrArg (fun z => Ev _ z ⟨⟩) (funext fun F => ?_)
  refine congrArg (fun z => Ev _ z ⟨⟩) (funext fun r => ?_)
  rw [ev_bi, ev_none]
theorem evD_convert {s t : TypeId} {x : Operand} {Q : FST → Prop} {uq : Hd Q} : Ev (opsD P call all (⟨d, .convert s t x, ty, ps, af, none⟩ :: l) i fr σ ds) Q uq =
    Ev (orS (asNew σ (nBytes P fr s t x)) (orS (asRead σ (rString P fr σ s t x)) (asPure σ (pFlat P fr ⟨d, .convert s t x, ty, ps, af, none⟩ x)))) (fun r => Ev (nextD' P call all l i fr σ ds r d) Q ⟨⟩) ⟨⟩ := by rw [syD_convert, ev_ob]
theorem evD_panic {x : Operand} {Q : FST → Prop} {uq : Hd Q} : Ev (opsD P call all (⟨d, .panic x, ty, ps, af, none⟩ :: l) i fr σ ds) Q uq = Ev (ePanic fr σ x) (fun r => Ev (nextD' P call all l i fr σ ds r d) Q ⟨⟩) ⟨⟩ := by rw [syD_panic, ev_ob]
theorem evD_if {op : Op} {g : Nat × Bool} {Q : FST → Prop} {uq : Hd Q} : Ev (opsD P call all (⟨d, op, ty, ps, af, some g⟩ :: l) i fr σ ds) Q uq = Ev (wantsV all fr ⟨d, op, ty, ps, af, some g⟩) (fun c => Br c (Ev (opsD P call all (⟨d, op, ty, ps, af, none⟩ :: l) i fr σ ds) Q ⟨⟩) (Ev (opsD P call all l (i + 1) (putV fr d undefV) σ ds) Q ⟨⟩) ⟨⟩) ⟨⟩ := by
  rw [opsD_if, ev_ob]
  refine congrArg (fun z => Ev _ z ⟨⟩) (funext fun c => ?_)
  rw [ev_bi]
theorem evV_nil {Q : Res → Prop} {uq : Hd Q} : Ev (opsV P call all [] fr σ) Q uq = Q ⟨.normal, fr, σ⟩ := by rw [syV_nil, ev_some]
theorem evD_nil {Q : FST → Prop} {uq : Hd Q} : Ev (opsD P call all [] i fr σ ds) Q uq = Q ⟨fr, σ, ds⟩ := by rw [syD_nil, ev_some]
section
variable {Q : Res → Prop} {uq : Hd Q}
theorem er_skip : Ev (lim P H rd .skip fr σ) Q uq = Q ⟨.normal, fr, σ⟩ := by rw [ru_skip, ev_some]
theorem er_label {k : Nat} : Ev (lim P H rd (.label k) fr σ) Q uq = Q ⟨.normal, fr, σ⟩ := by rw [ru_label, ev_some]
theorem er_exit {k : Nat} : Ev (lim P H rd (.exit k) fr σ) Q uq = Q ⟨.exit k, fr, σ⟩ := by rw [ru_exit, ev_some]
theorem er_ret : Ev (lim P H rd .ret fr σ) Q uq = Q ⟨.ret, fr, σ⟩ := by rw [ru_ret, ev_some]
theorem er_seq {a b : Code} : Ev (lim P H rd (.seq a b) fr σ) Q uq = Ev (lim P H rd a fr σ) (fun r => Ev (onNormal r (lim P H rd b)) Q ⟨⟩) ⟨⟩ := by rw [ru_seq, ev_ob]
theorem er_scope {a : Code} : Ev (lim P H rd (.scope a) fr σ) Q uq = Ev (lim P H rd a fr σ) Q ⟨⟩ := by rw [ru_scope]
theorem er_block {k : Nat} {a : Code} : Ev (lim P H rd (.block k a) fr σ) Q uq = Ev (lim P H rd a fr σ) (fun r => Ev (onExit k r) Q ⟨⟩) ⟨⟩ := by rw [ru_block, ev_ob]
theorem er_cond {c : Operand} {a b : Code} : Ev (lim P H rd (.cond c a b) fr σ) Q uq = Ev (ev fr c) (fun v => Ev (bool? v) (fun t => Br t (Ev (lim P H rd a fr σ) Q ⟨⟩) (Ev (lim P H rd b fr σ) Q ⟨⟩) ⟨⟩) ⟨⟩) ⟨⟩ := by
  rw [ru_cond, ev_ob]
  refine congrArg (fun z => Ev _ z ⟨⟩) (funext fun v => ?_)
  rw [ev_ob]
  refine congrArg (fun z => Ev _ z ⟨⟩) (funext fun t => ?_)
  rw [ev_bi]
theorem er_region {k : Nat} {l : List Oper} : Ev (lim P H rd (.region k l.toArray false) fr σ) Q uq = Ev (opsV P (go P H) l.toArray l fr σ) Q ⟨⟩ := by rw [ru_region']
theorem er_draw {k : Nat} {l : List Oper} : Ev (lim P H rd (.region k l.toArray true) fr σ) Q uq = Ev (opsD P (go P H) l.toArray l 0 fr σ []) (fun r => Must (readsOk (Region.before l.toArray).toList r.ds r.ds) (Q ⟨.normal, r.fr, r.σ⟩) ⟨⟩) ⟨⟩ := by
  rw [ru_draw']
  show Ev (ob _ _) Q uq = _
  rw [ev_ob]
  refine congrArg (fun z => Ev _ z ⟨⟩) (funext fun r => ?_)
  obtain ⟨fr, σ, ds⟩ := r
  show Ev (bb _ _) Q _ = _
  rw [ev_bb, ev_some]
theorem en_normal {next : Fr → St → Option Res} : Ev (onNormal ⟨.normal, fr, σ⟩ next) Q uq = Ev (next fr σ) Q ⟨⟩ := rfl
theorem en_exit {next : Fr → St → Option Res} {k : Nat} : Ev (onNormal ⟨.exit k, fr, σ⟩ next) Q uq = Q ⟨.exit k, fr, σ⟩ := by rw [on_exit, ev_some]
theorem en_ret {next : Fr → St → Option Res} : Ev (onNormal ⟨.ret, fr, σ⟩ next) Q uq = Q ⟨.ret, fr, σ⟩ := by rw [on_ret, ev_some]
theorem en_pan {next : Fr → St → Option Res} {v : Value} : Ev (onNormal ⟨.pan v, fr, σ⟩ next) Q uq = Q ⟨.pan v, fr, σ⟩ := by rw [on_pan, ev_some]
theorem ex_normal {k : Nat} : Ev (onExit k ⟨.normal, fr, σ⟩) Q uq = Q ⟨.normal, fr, σ⟩ := by rw [ox_normal, ev_some]
theorem ex_ret {k : Nat} : Ev (onExit k ⟨.ret, fr, σ⟩) Q uq = Q ⟨.ret, fr, σ⟩ := by rw [ox_ret, ev_some]
theorem ex_pan {k : Nat} {v : Value} : Ev (onExit k ⟨.pan v, fr, σ⟩) Q uq = Q ⟨.pan v, fr, σ⟩ := by rw [ox_pan, ev_some]
theorem ex_exit {k m : Nat} : Ev (onExit k ⟨.exit m, fr, σ⟩) Q uq = Br (decide (m = k)) (Q ⟨.normal, fr, σ⟩) (Q ⟨.exit m, fr, σ⟩) ⟨⟩ := by
  rw [ox_exit, ev_ite, ev_some, ev_some]
end
theorem ee_normal {fn : Func} {Q : CR → Prop} {uq : Hd Q} : Ev (bodyEnd P fn ⟨.normal, fr, σ⟩) Q uq = Ev (resL P fr σ fn.results.toList) (fun vs => Q ⟨false, tup vs, σ⟩) ⟨⟩ := by
  rw [end_normal, ev_ob]
  refine congrArg (fun z => Ev _ z ⟨⟩) (funext fun vs => ?_)
  rw [ev_some]
theorem ee_ret {fn : Func} {Q : CR → Prop} {uq : Hd Q} : Ev (bodyEnd P fn ⟨.ret, fr, σ⟩) Q uq = Ev (resL P fr σ fn.results.toList) (fun vs => Q ⟨false, tup vs, σ⟩) ⟨⟩ := by
  rw [end_ret, ev_ob]
  refine congrArg (fun z => Ev _ z ⟨⟩) (funext fun vs => ?_)
  rw [ev_some]
theorem ee_pan {fn : Func} {v : Value} {Q : CR → Prop} {uq : Hd Q} : Ev (bodyEnd P fn ⟨.pan v, fr, σ⟩) Q uq = Q ⟨true, v, σ⟩ := by rw [end_pan, ev_some]
/-- A call of a function whose text is known. -/
theorem ev_go {g : Nat} {vs : List Value} {fn : Func} {body : Code} {Q : CR → Prop} {uq : Hd Q} (hf : P.funcs[g]? = some fn) (hb : fn.body = some body) (hH : H g = none := by rfl)
    (h : Ev (lim P H none body (initFr vs 0 .nil) σ) (fun r => Ev (bodyEnd P fn r) Q ⟨⟩) ⟨⟩) : Ev (go P H (.fn g) vs σ) Q uq := by
  rw [go_fn hH hf hb, ev_ob]; exact h
end
end Go.Ab

