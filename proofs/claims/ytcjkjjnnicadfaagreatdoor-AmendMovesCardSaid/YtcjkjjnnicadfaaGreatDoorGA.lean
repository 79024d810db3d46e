/- Facts on the types of the translation. -/
import Derived.Test.YtcjkjjnnicadfaaGreatDoorAbD
import Derived.Test.YtcjkjjnnicadfaaGreatDoorProg
import Derived.KernelRfl
set_option linter.unusedSimpArgs false
set_option linter.unusedVariables false
namespace Go.Proofs.G
open Go Go.Ab
section
abbrev LDo (t : Nat) : Prop := ∀ {fr : Fr} {σ : St} {a : Operand}, rLoad Tryz.prog fr σ t a = ob (ev fr a) fun v => ob (at? v) fun p => pr p fun b off => ob (ob (σ.read b off 1) oneV) fun v => some (v, ⟨b, off, 1⟩)
abbrev LDn (t n : Nat) : Prop := ∀ {fr : Fr} {σ : St} {a : Operand}, rLoad Tryz.prog fr σ t a = ob (ev fr a) fun v => ob (at? v) fun p => pr p fun b off => ob (ob (σ.read b off n) fun cs => some (.agg ⟨cs⟩)) fun v => some (v, ⟨b, off, n⟩)
abbrev LVo (t : Nat) : Prop := ∀ {σ : St} {b off : Nat}, loadV Tryz.prog σ t (.pointer (some ⟨b, off, none⟩)) = ob (σ.read b off 1) oneV
abbrev LVn (t n : Nat) : Prop := ∀ {σ : St} {b off : Nat}, loadV Tryz.prog σ t (.pointer (some ⟨b, off, none⟩)) = ob (σ.read b off n) fun cs => some (.agg ⟨cs⟩)
abbrev STn (t n : Nat) : Prop := ∀ {fr : Fr} {σ : St} {a v : Operand}, eStore Tryz.prog fr σ t a v = ob (ev fr a) fun a => ob (ev fr v) fun v => ob (ob (at? a) fun p => pr p fun b off => bi (isTup v) none (bb ((cellsL v).length.beq n) (σ.write b off (cellsL v)))) fun σ => some (undefV, σ)
abbrev FAo (t k : Nat) : Prop := ∀ {fr : Fr} {x : Operand}, pFieldAddr Tryz.prog fr t x k = ob (ev fr x) fun v => ob (at? v) fun p => pr p fun b off => some (.pointer (some ⟨b, off, none⟩))
abbrev FAn (t k n : Nat) : Prop := ∀ {fr : Fr} {x : Operand}, pFieldAddr Tryz.prog fr t x k = ob (ev fr x) fun v => ob (at? v) fun p => pr p fun b off => some (.pointer (some ⟨b, off + n, none⟩))
abbrev FIo (t k o : Nat) : Prop := ∀ {fr : Fr} {x : Operand}, pField Tryz.prog fr t x k = ob (ev fr x) fun v => ob (agg? v) fun cs => ob (sub cs o 1) oneV
abbrev FIn (t k o n : Nat) : Prop := ∀ {fr : Fr} {x : Operand}, pField Tryz.prog fr t x k = ob (ev fr x) fun v => ob (agg? v) fun cs => ob (sub cs o n) fun cs => some (.agg ⟨cs⟩)
abbrev IAs (t w : Nat) : Prop := ∀ {b off len cap i : Nat} {s : Option Nat}, indexAddrV Tryz.prog t (.slice (some ⟨b, off, s⟩) len cap) i = bb (Nat.blt i len) (some (.pointer (some ⟨b, off + i * w, none⟩)))
abbrev APn (t w m : Nat) : Prop := ∀ {σ : St} {b : Option Addr} {len cap : Nat} {w' : Value}, appendV Tryz.prog σ t (.slice b len cap) w' = ob (srcCells σ w w') fun p => pr p fun n new => bi (Nat.ble (len + n) cap) (appendIn σ w b len cap n new) (bb (Nat.ble ((len + n) * m) room) (appendNew σ w b len n new))
abbrev SSn (t w : Nat) : Prop := ∀ {b : Option Addr} {len cap : Nat} {lo hi : Option Value}, sliceV Tryz.prog t (.slice b len cap) lo hi = ob (bnds len cap lo hi) fun p => pr p fun lo hi => sliceAt w b lo hi cap
abbrev SLn (t w : Nat) (z : List Value) : Prop := ∀ {fr : Fr} {len : Nat} {parts : Array (Nat × Operand)}, nSlice Tryz.prog fr t len parts = ob (evs fr (parts.toList.map (·.2))) fun vs => bb (Nat.ble (len * w) 16777216) (ob (fillL (fun i => some (i * w, w)) ((parts.toList.map (·.1)).zip vs) (rep z len)) fun l => some (l, fun n => .slice (some ⟨n, 0, none⟩) len len))
abbrev MKn (t m : Nat) (z : List Value) : Prop := ∀ {fr : Fr} {l c : Operand}, nMake Tryz.prog fr t l c = ob (evN fr l) fun l => ob (evN fr c) fun c => bb (Nat.ble l c) (bb (Nat.ble (c * m) room) (some (rep z c, fun n => .slice (some ⟨n, 0, none⟩) l c)))
abbrev BVn (t w n : Nat) : Prop := ∀ {z : List Value} {ps : List (Nat × Value)}, buildV Tryz.prog t z ps = ob (fillL (fun i => some (i * w, n)) ps z) fun l => some (.agg ⟨l⟩)
end
section
variable {fr : Fr} {σ : St} {x ix a v : Operand} {ve : Value}
theorem ld3 : LDo 3 := by unfold LDo; intros; kernel_rfl
theorem lv3 : LVo 3 := by unfold LVo; intros; kernel_rfl
theorem st3 : STn 3 1 := by unfold STn; intros; kernel_rfl
theorem al3 : nAlloc Tryz.prog 3 = some ([.int .i64 0], ptrTo) := by kernel_rfl
theorem ze3 : zero? Tryz.prog 3 = some (.int .i64 0) := by kernel_rfl
theorem ld4 : LDo 4 := by unfold LDo; intros; kernel_rfl
theorem lv4 : LVo 4 := by unfold LVo; intros; kernel_rfl
theorem st4 : STn 4 1 := by unfold STn; intros; kernel_rfl
theorem al4 : nAlloc Tryz.prog 4 = some ([.bool false], ptrTo) := by kernel_rfl
theorem ze4 : zero? Tryz.prog 4 = some (.bool false) := by kernel_rfl
theorem ld5 : LDo 5 := by unfold LDo; intros; kernel_rfl
theorem lv5 : LVo 5 := by unfold LVo; intros; kernel_rfl
theorem st5 : STn 5 1 := by unfold STn; intros; kernel_rfl
theorem al5 : nAlloc Tryz.prog 5 = some ([.int .u8 0], ptrTo) := by kernel_rfl
theorem ze5 : zero? Tryz.prog 5 = some (.int .u8 0) := by kernel_rfl
theorem ld9 : LDo 9 := by unfold LDo; intros; kernel_rfl
theorem lv9 : LVo 9 := by unfold LVo; intros; kernel_rfl
theorem st9 : STn 9 1 := by unfold STn; intros; kernel_rfl
theorem al9 : nAlloc Tryz.prog 9 = some ([str []], ptrTo) := by kernel_rfl
theorem ze9 : zero? Tryz.prog 9 = some (str []) := by kernel_rfl
theorem ld22 : LDo 22 := by unfold LDo; intros; kernel_rfl
theorem lv22 : LVo 22 := by unfold LVo; intros; kernel_rfl
theorem st22 : STn 22 1 := by unfold STn; intros; kernel_rfl
theorem al22 : nAlloc Tryz.prog 22 = some ([.slice none 0 0], ptrTo) := by kernel_rfl
theorem ze22 : zero? Tryz.prog 22 = some (.slice none 0 0) := by kernel_rfl
theorem ia22 : IAs 22 2 := by unfold IAs; intros; kernel_rfl
theorem ap22 : APn 22 2 17 := by unfold APn; intros; kernel_rfl
theorem ss22 : SSn 22 2 := by unfold SSn; intros; kernel_rfl
theorem sl22 : SLn 22 2 [.int .i64 0, .int .i64 0] := by unfold SLn; intros; kernel_rfl
theorem mk22 : MKn 22 17 [.int .i64 0, .int .i64 0] := by unfold MKn; intros; kernel_rfl
theorem ld23 : LDo 23 := by unfold LDo; intros; kernel_rfl
theorem lv23 : LVo 23 := by unfold LVo; intros; kernel_rfl
theorem st23 : STn 23 1 := by unfold STn; intros; kernel_rfl
theorem al23 : nAlloc Tryz.prog 23 = some ([.slice none 0 0], ptrTo) := by kernel_rfl
theorem ze23 : zero? Tryz.prog 23 = some (.slice none 0 0) := by kernel_rfl
theorem ia23 : IAs 23 4 := by unfold IAs; intros; kernel_rfl
theorem ap23 : APn 23 4 33 := by unfold APn; intros; kernel_rfl
theorem ss23 : SSn 23 4 := by unfold SSn; intros; kernel_rfl
theorem sl23 : SLn 23 4 [.int .i64 0, .int .i64 0, .int .i64 0, .int .i64 0] := by unfold SLn; intros; kernel_rfl
theorem mk23 : MKn 23 33 [.int .i64 0, .int .i64 0, .int .i64 0, .int .i64 0] := by unfold MKn; intros; kernel_rfl
theorem ld24 : LDo 24 := by unfold LDo; intros; kernel_rfl
theorem lv24 : LVo 24 := by unfold LVo; intros; kernel_rfl
theorem st24 : STn 24 1 := by unfold STn; intros; kernel_rfl
theorem al24 : nAlloc Tryz.prog 24 = some ([.slice none 0 0], ptrTo) := by kernel_rfl
theorem ze24 : zero? Tryz.prog 24 = some (.slice none 0 0) := by kernel_rfl
theorem ia24 : IAs 24 3 := by unfold IAs; intros; kernel_rfl
theorem ap24 : APn 24 3 25 := by unfold APn; intros; kernel_rfl
theorem ss24 : SSn 24 3 := by unfold SSn; intros; kernel_rfl
theorem sl24 : SLn 24 3 [.int .i64 0, .int .i64 0, .int .i64 0] := by unfold SLn; intros; kernel_rfl
theorem mk24 : MKn 24 25 [.int .i64 0, .int .i64 0, .int .i64 0] := by unfold MKn; intros; kernel_rfl
theorem ld25 : LDo 25 := by unfold LDo; intros; kernel_rfl
theorem lv25 : LVo 25 := by unfold LVo; intros; kernel_rfl
theorem st25 : STn 25 1 := by unfold STn; intros; kernel_rfl
theorem al25 : nAlloc Tryz.prog 25 = some ([.slice none 0 0], ptrTo) := by kernel_rfl
theorem ze25 : zero? Tryz.prog 25 = some (.slice none 0 0) := by kernel_rfl
theorem ia25 : IAs 25 1 := by unfold IAs; intros; kernel_rfl
theorem ap25 : APn 25 1 9 := by unfold APn; intros; kernel_rfl
theorem ss25 : SSn 25 1 := by unfold SSn; intros; kernel_rfl
theorem sl25 : SLn 25 1 [.int .i64 0] := by unfold SLn; intros; kernel_rfl
theorem mk25 : MKn 25 9 [.int .i64 0] := by unfold MKn; intros; kernel_rfl
theorem ld26 : LDo 26 := by unfold LDo; intros; kernel_rfl
theorem lv26 : LVo 26 := by unfold LVo; intros; kernel_rfl
theorem st26 : STn 26 1 := by unfold STn; intros; kernel_rfl
theorem al26 : nAlloc Tryz.prog 26 = some ([.slice none 0 0], ptrTo) := by kernel_rfl
theorem ze26 : zero? Tryz.prog 26 = some (.slice none 0 0) := by kernel_rfl
theorem ia26 : IAs 26 1 := by unfold IAs; intros; kernel_rfl
theorem ap26 : APn 26 1 25 := by unfold APn; intros; kernel_rfl
theorem ss26 : SSn 26 1 := by unfold SSn; intros; kernel_rfl
theorem sl26 : SLn 26 1 [.slice none 0 0] := by unfold SLn; intros; kernel_rfl
theorem mk26 : MKn 26 25 [.slice none 0 0] := by unfold MKn; intros; kernel_rfl
theorem ld27 : LDn 27 10 := by unfold LDn; intros; kernel_rfl
theorem lv27 : LVn 27 10 := by unfold LVn; intros; kernel_rfl
theorem st27 : STn 27 10 := by unfold STn; intros; kernel_rfl
theorem al27 : nAlloc Tryz.prog 27 = some ([.int .i64 0, .int .i64 0, .int .i64 0, .int .i64 0, .int .i64 0, .int .i64 0, .int .i64 0, .int .i64 0, .int .i64 0, .int .i64 0], ptrTo) := by kernel_rfl
theorem ze27 : zero? Tryz.prog 27 = some (.agg ⟨[.int .i64 0, .int .i64 0, .int .i64 0, .int .i64 0, .int .i64 0, .int .i64 0, .int .i64 0, .int .i64 0, .int .i64 0, .int .i64 0]⟩) := by kernel_rfl
theorem bu27 : pBuild Tryz.prog fr 27 #[] = some (.agg ⟨[.int .i64 0, .int .i64 0, .int .i64 0, .int .i64 0, .int .i64 0, .int .i64 0, .int .i64 0, .int .i64 0, .int .i64 0, .int .i64 0]⟩) := by kernel_rfl
theorem ia27 {b off i : Nat} : indexAddrV Tryz.prog 27 (.pointer (some ⟨b, off, none⟩)) i = bb (Nat.blt i 10) (some (.pointer (some ⟨b, off + i * 1, none⟩))) := by kernel_rfl
theorem bv27 : BVn 27 1 1 := by unfold BVn; intros; kernel_rfl
theorem ld28 : LDn 28 16 := by unfold LDn; intros; kernel_rfl
theorem lv28 : LVn 28 16 := by unfold LVn; intros; kernel_rfl
theorem st28 : STn 28 16 := by unfold STn; intros; kernel_rfl
theorem al28 : nAlloc Tryz.prog 28 = some ([.slice none 0 0, .slice none 0 0, .slice none 0 0, .slice none 0 0, .slice none 0 0, .slice none 0 0, .int .i64 0, .int .i64 0, .int .i64 0, .int .i64 0, .int .i64 0, .int .i64 0, .int .i64 0, .int .i64 0, .int .i64 0, .int .i64 0], ptrTo) := by kernel_rfl
theorem ze28 : zero? Tryz.prog 28 = some (.agg ⟨[.slice none 0 0, .slice none 0 0, .slice none 0 0, .slice none 0 0, .slice none 0 0, .slice none 0 0, .int .i64 0, .int .i64 0, .int .i64 0, .int .i64 0, .int .i64 0, .int .i64 0, .int .i64 0, .int .i64 0, .int .i64 0, .int .i64 0]⟩) := by kernel_rfl
theorem bu28 : pBuild Tryz.prog fr 28 #[] = some (.agg ⟨[.slice none 0 0, .slice none 0 0, .slice none 0 0, .slice none 0 0, .slice none 0 0, .slice none 0 0, .int .i64 0, .int .i64 0, .int .i64 0, .int .i64 0, .int .i64 0, .int .i64 0, .int .i64 0, .int .i64 0, .int .i64 0, .int .i64 0]⟩) := by kernel_rfl
theorem bv28 {z : List Value} {ps : List (Nat × Value)} : buildV Tryz.prog 28 z ps = ob (fillL (fun i => [(0, 1), (1, 1), (2, 1), (3, 1), (4, 1), (5, 1), (6, 10)][i]?) ps z) fun l => some (.agg ⟨l⟩) := by kernel_rfl
theorem fa28_0 : FAo 28 0 := by unfold FAo; intros; kernel_rfl
theorem fi28_0 : FIo 28 0 0 := by unfold FIo; intros; kernel_rfl
theorem fa28_1 : FAn 28 1 1 := by unfold FAn; intros; kernel_rfl
theorem fi28_1 : FIo 28 1 1 := by unfold FIo; intros; kernel_rfl
theorem fa28_2 : FAn 28 2 2 := by unfold FAn; intros; kernel_rfl
theorem fi28_2 : FIo 28 2 2 := by unfold FIo; intros; kernel_rfl
theorem fa28_3 : FAn 28 3 3 := by unfold FAn; intros; kernel_rfl
theorem fi28_3 : FIo 28 3 3 := by unfold FIo; intros; kernel_rfl
theorem fa28_4 : FAn 28 4 4 := by unfold FAn; intros; kernel_rfl
theorem fi28_4 : FIo 28 4 4 := by unfold FIo; intros; kernel_rfl
theorem fa28_5 : FAn 28 5 5 := by unfold FAn; intros; kernel_rfl
theorem fi28_5 : FIo 28 5 5 := by unfold FIo; intros; kernel_rfl
theorem fa28_6 : FAn 28 6 6 := by unfold FAn; intros; kernel_rfl
theorem fi28_6 : pField Tryz.prog fr 28 x 6 = ob (ev fr x) fun v => ob (agg? v) fun cs => ob (sub cs 6 10) fun l => some (.agg ⟨l⟩) := by kernel_rfl
theorem ld29 : LDn 29 16 := by unfold LDn; intros; kernel_rfl
theorem lv29 : LVn 29 16 := by unfold LVn; intros; kernel_rfl
theorem st29 : STn 29 16 := by unfold STn; intros; kernel_rfl
theorem al29 : nAlloc Tryz.prog 29 = some ([.slice none 0 0, .slice none 0 0, .slice none 0 0, .slice none 0 0, .slice none 0 0, .slice none 0 0, .int .i64 0, .int .i64 0, .int .i64 0, .int .i64 0, .int .i64 0, .int .i64 0, .int .i64 0, .int .i64 0, .int .i64 0, .int .i64 0], ptrTo) := by kernel_rfl
theorem ze29 : zero? Tryz.prog 29 = some (.agg ⟨[.slice none 0 0, .slice none 0 0, .slice none 0 0, .slice none 0 0, .slice none 0 0, .slice none 0 0, .int .i64 0, .int .i64 0, .int .i64 0, .int .i64 0, .int .i64 0, .int .i64 0, .int .i64 0, .int .i64 0, .int .i64 0, .int .i64 0]⟩) := by kernel_rfl
theorem bu29 : pBuild Tryz.prog fr 29 #[] = some (.agg ⟨[.slice none 0 0, .slice none 0 0, .slice none 0 0, .slice none 0 0, .slice none 0 0, .slice none 0 0, .int .i64 0, .int .i64 0, .int .i64 0, .int .i64 0, .int .i64 0, .int .i64 0, .int .i64 0, .int .i64 0, .int .i64 0, .int .i64 0]⟩) := by kernel_rfl
theorem bv29 {z : List Value} {ps : List (Nat × Value)} : buildV Tryz.prog 29 z ps = ob (fillL (fun i => [(0, 1), (1, 1), (2, 1), (3, 1), (4, 1), (5, 1), (6, 10)][i]?) ps z) fun l => some (.agg ⟨l⟩) := by kernel_rfl
theorem fa29_0 : FAo 29 0 := by unfold FAo; intros; kernel_rfl
theorem fi29_0 : FIo 29 0 0 := by unfold FIo; intros; kernel_rfl
theorem fa29_1 : FAn 29 1 1 := by unfold FAn; intros; kernel_rfl
theorem fi29_1 : FIo 29 1 1 := by unfold FIo; intros; kernel_rfl
theorem fa29_2 : FAn 29 2 2 := by unfold FAn; intros; kernel_rfl
theorem fi29_2 : FIo 29 2 2 := by unfold FIo; intros; kernel_rfl
theorem fa29_3 : FAn 29 3 3 := by unfold FAn; intros; kernel_rfl
theorem fi29_3 : FIo 29 3 3 := by unfold FIo; intros; kernel_rfl
theorem fa29_4 : FAn 29 4 4 := by unfold FAn; intros; kernel_rfl
theorem fi29_4 : FIo 29 4 4 := by unfold FIo; intros; kernel_rfl
theorem fa29_5 : FAn 29 5 5 := by unfold FAn; intros; kernel_rfl
theorem fi29_5 : FIo 29 5 5 := by unfold FIo; intros; kernel_rfl
theorem fa29_6 : FAn 29 6 6 := by unfold FAn; intros; kernel_rfl
theorem fi29_6 : pField Tryz.prog fr 29 x 6 = ob (ev fr x) fun v => ob (agg? v) fun cs => ob (sub cs 6 10) fun l => some (.agg ⟨l⟩) := by kernel_rfl
theorem ld30 : LDn 30 3 := by unfold LDn; intros; kernel_rfl
theorem lv30 : LVn 30 3 := by unfold LVn; intros; kernel_rfl
theorem st30 : STn 30 3 := by unfold STn; intros; kernel_rfl
theorem al30 : nAlloc Tryz.prog 30 = some ([.int .i64 0, .int .i64 0, .int .i64 0], ptrTo) := by kernel_rfl
theorem ze30 : zero? Tryz.prog 30 = some (.agg ⟨[.int .i64 0, .int .i64 0, .int .i64 0]⟩) := by kernel_rfl
theorem bu30 : pBuild Tryz.prog fr 30 #[] = some (.agg ⟨[.int .i64 0, .int .i64 0, .int .i64 0]⟩) := by kernel_rfl
theorem ia30 {b off i : Nat} : indexAddrV Tryz.prog 30 (.pointer (some ⟨b, off, none⟩)) i = bb (Nat.blt i 3) (some (.pointer (some ⟨b, off + i * 1, none⟩))) := by kernel_rfl
theorem bv30 : BVn 30 1 1 := by unfold BVn; intros; kernel_rfl
theorem ld31 : LDn 31 6 := by unfold LDn; intros; kernel_rfl
theorem lv31 : LVn 31 6 := by unfold LVn; intros; kernel_rfl
theorem st31 : STn 31 6 := by unfold STn; intros; kernel_rfl
theorem al31 : nAlloc Tryz.prog 31 = some ([.int .i64 0, .int .i64 0, .int .i64 0, .int .i64 0, .int .i64 0, .int .i64 0], ptrTo) := by kernel_rfl
theorem ze31 : zero? Tryz.prog 31 = some (.agg ⟨[.int .i64 0, .int .i64 0, .int .i64 0, .int .i64 0, .int .i64 0, .int .i64 0]⟩) := by kernel_rfl
theorem bu31 : pBuild Tryz.prog fr 31 #[] = some (.agg ⟨[.int .i64 0, .int .i64 0, .int .i64 0, .int .i64 0, .int .i64 0, .int .i64 0]⟩) := by kernel_rfl
theorem ia31 {b off i : Nat} : indexAddrV Tryz.prog 31 (.pointer (some ⟨b, off, none⟩)) i = bb (Nat.blt i 2) (some (.pointer (some ⟨b, off + i * 3, none⟩))) := by kernel_rfl
theorem bv31 : BVn 31 3 3 := by unfold BVn; intros; kernel_rfl
theorem ld33 : LDo 33 := by unfold LDo; intros; kernel_rfl
theorem lv33 : LVo 33 := by unfold LVo; intros; kernel_rfl
theorem st33 : STn 33 1 := by unfold STn; intros; kernel_rfl
theorem al33 : nAlloc Tryz.prog 33 = some ([.slice none 0 0], ptrTo) := by kernel_rfl
theorem ze33 : zero? Tryz.prog 33 = some (.slice none 0 0) := by kernel_rfl
theorem ia33 : IAs 33 2 := by unfold IAs; intros; kernel_rfl
theorem ap33 : APn 33 2 17 := by unfold APn; intros; kernel_rfl
theorem ss33 : SSn 33 2 := by unfold SSn; intros; kernel_rfl
theorem sl33 : SLn 33 2 [.int .i64 0, .int .i64 0] := by unfold SLn; intros; kernel_rfl
theorem mk33 : MKn 33 17 [.int .i64 0, .int .i64 0] := by unfold MKn; intros; kernel_rfl
theorem ld34 : LDo 34 := by unfold LDo; intros; kernel_rfl
theorem lv34 : LVo 34 := by unfold LVo; intros; kernel_rfl
theorem st34 : STn 34 1 := by unfold STn; intros; kernel_rfl
theorem al34 : nAlloc Tryz.prog 34 = some ([.slice none 0 0], ptrTo) := by kernel_rfl
theorem ze34 : zero? Tryz.prog 34 = some (.slice none 0 0) := by kernel_rfl
theorem ia34 : IAs 34 5 := by unfold IAs; intros; kernel_rfl
theorem ap34 : APn 34 5 49 := by unfold APn; intros; kernel_rfl
theorem ss34 : SSn 34 5 := by unfold SSn; intros; kernel_rfl
theorem sl34 : SLn 34 5 [str [], .int .i64 0, .int .i64 0, .int .i64 0, .bool false] := by unfold SLn; intros; kernel_rfl
theorem mk34 : MKn 34 49 [str [], .int .i64 0, .int .i64 0, .int .i64 0, .bool false] := by unfold MKn; intros; kernel_rfl
theorem ld35 : LDo 35 := by unfold LDo; intros; kernel_rfl
theorem lv35 : LVo 35 := by unfold LVo; intros; kernel_rfl
theorem st35 : STn 35 1 := by unfold STn; intros; kernel_rfl
theorem al35 : nAlloc Tryz.prog 35 = some ([.slice none 0 0], ptrTo) := by kernel_rfl
theorem ze35 : zero? Tryz.prog 35 = some (.slice none 0 0) := by kernel_rfl
theorem ia35 : IAs 35 3 := by unfold IAs; intros; kernel_rfl
theorem ap35 : APn 35 3 41 := by unfold APn; intros; kernel_rfl
theorem ss35 : SSn 35 3 := by unfold SSn; intros; kernel_rfl
theorem sl35 : SLn 35 3 [str [], str [], .int .i64 0] := by unfold SLn; intros; kernel_rfl
theorem mk35 : MKn 35 41 [str [], str [], .int .i64 0] := by unfold MKn; intros; kernel_rfl
theorem ld36 : LDn 36 2 := by unfold LDn; intros; kernel_rfl
theorem lv36 : LVn 36 2 := by unfold LVn; intros; kernel_rfl
theorem st36 : STn 36 2 := by unfold STn; intros; kernel_rfl
theorem al36 : nAlloc Tryz.prog 36 = some ([.int .i64 0, .int .i64 0], ptrTo) := by kernel_rfl
theorem ze36 : zero? Tryz.prog 36 = some (.agg ⟨[.int .i64 0, .int .i64 0]⟩) := by kernel_rfl
theorem bu36 : pBuild Tryz.prog fr 36 #[] = some (.agg ⟨[.int .i64 0, .int .i64 0]⟩) := by kernel_rfl
theorem bv36 {z : List Value} {ps : List (Nat × Value)} : buildV Tryz.prog 36 z ps = ob (fillL (fun i => [(0, 1), (1, 1)][i]?) ps z) fun l => some (.agg ⟨l⟩) := by kernel_rfl
theorem fa36_0 : FAo 36 0 := by unfold FAo; intros; kernel_rfl
theorem fi36_0 : FIo 36 0 0 := by unfold FIo; intros; kernel_rfl
theorem fa36_1 : FAn 36 1 1 := by unfold FAn; intros; kernel_rfl
theorem fi36_1 : FIo 36 1 1 := by unfold FIo; intros; kernel_rfl
theorem ld37 : LDn 37 2 := by unfold LDn; intros; kernel_rfl
theorem lv37 : LVn 37 2 := by unfold LVn; intros; kernel_rfl
theorem st37 : STn 37 2 := by unfold STn; intros; kernel_rfl
theorem al37 : nAlloc Tryz.prog 37 = some ([.int .i64 0, .int .i64 0], ptrTo) := by kernel_rfl
theorem ze37 : zero? Tryz.prog 37 = some (.agg ⟨[.int .i64 0, .int .i64 0]⟩) := by kernel_rfl
theorem bu37 : pBuild Tryz.prog fr 37 #[] = some (.agg ⟨[.int .i64 0, .int .i64 0]⟩) := by kernel_rfl
theorem bv37 {z : List Value} {ps : List (Nat × Value)} : buildV Tryz.prog 37 z ps = ob (fillL (fun i => [(0, 1), (1, 1)][i]?) ps z) fun l => some (.agg ⟨l⟩) := by kernel_rfl
theorem fa37_0 : FAo 37 0 := by unfold FAo; intros; kernel_rfl
theorem fi37_0 : FIo 37 0 0 := by unfold FIo; intros; kernel_rfl
theorem fa37_1 : FAn 37 1 1 := by unfold FAn; intros; kernel_rfl
theorem fi37_1 : FIo 37 1 1 := by unfold FIo; intros; kernel_rfl
theorem ld38 : LDo 38 := by unfold LDo; intros; kernel_rfl
theorem lv38 : LVo 38 := by unfold LVo; intros; kernel_rfl
theorem st38 : STn 38 1 := by unfold STn; intros; kernel_rfl
theorem al38 : nAlloc Tryz.prog 38 = some ([.slice none 0 0], ptrTo) := by kernel_rfl
theorem ze38 : zero? Tryz.prog 38 = some (.slice none 0 0) := by kernel_rfl
theorem ia38 : IAs 38 5 := by unfold IAs; intros; kernel_rfl
theorem ap38 : APn 38 5 73 := by unfold APn; intros; kernel_rfl
theorem ss38 : SSn 38 5 := by unfold SSn; intros; kernel_rfl
theorem sl38 : SLn 38 5 [str [], .int .i64 0, .int .i64 0, str [], .slice none 0 0] := by unfold SLn; intros; kernel_rfl
theorem mk38 : MKn 38 73 [str [], .int .i64 0, .int .i64 0, str [], .slice none 0 0] := by unfold MKn; intros; kernel_rfl
theorem ld39 : LDn 39 5 := by unfold LDn; intros; kernel_rfl
theorem lv39 : LVn 39 5 := by unfold LVn; intros; kernel_rfl
theorem st39 : STn 39 5 := by unfold STn; intros; kernel_rfl
theorem al39 : nAlloc Tryz.prog 39 = some ([str [], .int .i64 0, .int .i64 0, str [], .slice none 0 0], ptrTo) := by kernel_rfl
theorem ze39 : zero? Tryz.prog 39 = some (.agg ⟨[str [], .int .i64 0, .int .i64 0, str [], .slice none 0 0]⟩) := by kernel_rfl
theorem bu39 : pBuild Tryz.prog fr 39 #[] = some (.agg ⟨[str [], .int .i64 0, .int .i64 0, str [], .slice none 0 0]⟩) := by kernel_rfl
theorem bv39 {z : List Value} {ps : List (Nat × Value)} : buildV Tryz.prog 39 z ps = ob (fillL (fun i => [(0, 1), (1, 2), (3, 1), (4, 1)][i]?) ps z) fun l => some (.agg ⟨l⟩) := by kernel_rfl
theorem fa39_0 : FAo 39 0 := by unfold FAo; intros; kernel_rfl
theorem fi39_0 : FIo 39 0 0 := by unfold FIo; intros; kernel_rfl
theorem fa39_1 : FAn 39 1 1 := by unfold FAn; intros; kernel_rfl
theorem fi39_1 : pField Tryz.prog fr 39 x 1 = ob (ev fr x) fun v => ob (agg? v) fun cs => ob (sub cs 1 2) fun l => some (.agg ⟨l⟩) := by kernel_rfl
theorem fa39_2 : FAn 39 2 3 := by unfold FAn; intros; kernel_rfl
theorem fi39_2 : FIo 39 2 3 := by unfold FIo; intros; kernel_rfl
theorem fa39_3 : FAn 39 3 4 := by unfold FAn; intros; kernel_rfl
theorem fi39_3 : FIo 39 3 4 := by unfold FIo; intros; kernel_rfl
theorem ld40 : LDn 40 5 := by unfold LDn; intros; kernel_rfl
theorem lv40 : LVn 40 5 := by unfold LVn; intros; kernel_rfl
theorem st40 : STn 40 5 := by unfold STn; intros; kernel_rfl
theorem al40 : nAlloc Tryz.prog 40 = some ([str [], .int .i64 0, .int .i64 0, str [], .slice none 0 0], ptrTo) := by kernel_rfl
theorem ze40 : zero? Tryz.prog 40 = some (.agg ⟨[str [], .int .i64 0, .int .i64 0, str [], .slice none 0 0]⟩) := by kernel_rfl
theorem bu40 : pBuild Tryz.prog fr 40 #[] = some (.agg ⟨[str [], .int .i64 0, .int .i64 0, str [], .slice none 0 0]⟩) := by kernel_rfl
theorem bv40 {z : List Value} {ps : List (Nat × Value)} : buildV Tryz.prog 40 z ps = ob (fillL (fun i => [(0, 1), (1, 2), (3, 1), (4, 1)][i]?) ps z) fun l => some (.agg ⟨l⟩) := by kernel_rfl
theorem fa40_0 : FAo 40 0 := by unfold FAo; intros; kernel_rfl
theorem fi40_0 : FIo 40 0 0 := by unfold FIo; intros; kernel_rfl
theorem fa40_1 : FAn 40 1 1 := by unfold FAn; intros; kernel_rfl
theorem fi40_1 : pField Tryz.prog fr 40 x 1 = ob (ev fr x) fun v => ob (agg? v) fun cs => ob (sub cs 1 2) fun l => some (.agg ⟨l⟩) := by kernel_rfl
theorem fa40_2 : FAn 40 2 3 := by unfold FAn; intros; kernel_rfl
theorem fi40_2 : FIo 40 2 3 := by unfold FIo; intros; kernel_rfl
theorem fa40_3 : FAn 40 3 4 := by unfold FAn; intros; kernel_rfl
theorem fi40_3 : FIo 40 3 4 := by unfold FIo; intros; kernel_rfl
theorem ld41 : LDo 41 := by unfold LDo; intros; kernel_rfl
theorem lv41 : LVo 41 := by unfold LVo; intros; kernel_rfl
theorem st41 : STn 41 1 := by unfold STn; intros; kernel_rfl
theorem al41 : nAlloc Tryz.prog 41 = some ([.slice none 0 0], ptrTo) := by kernel_rfl
theorem ze41 : zero? Tryz.prog 41 = some (.slice none 0 0) := by kernel_rfl
theorem ia41 : IAs 41 1 := by unfold IAs; intros; kernel_rfl
theorem ap41 : APn 41 1 17 := by unfold APn; intros; kernel_rfl
theorem ss41 : SSn 41 1 := by unfold SSn; intros; kernel_rfl
theorem sl41 : SLn 41 1 [str []] := by unfold SLn; intros; kernel_rfl
theorem mk41 : MKn 41 17 [str []] := by unfold MKn; intros; kernel_rfl
theorem ld42 : LDn 42 5 := by unfold LDn; intros; kernel_rfl
theorem lv42 : LVn 42 5 := by unfold LVn; intros; kernel_rfl
theorem st42 : STn 42 5 := by unfold STn; intros; kernel_rfl
theorem al42 : nAlloc Tryz.prog 42 = some ([.int .i64 0, .int .i64 0, .int .i64 0, .int .i64 0, .int .i64 0], ptrTo) := by kernel_rfl
theorem ze42 : zero? Tryz.prog 42 = some (.agg ⟨[.int .i64 0, .int .i64 0, .int .i64 0, .int .i64 0, .int .i64 0]⟩) := by kernel_rfl
theorem bu42 : pBuild Tryz.prog fr 42 #[] = some (.agg ⟨[.int .i64 0, .int .i64 0, .int .i64 0, .int .i64 0, .int .i64 0]⟩) := by kernel_rfl
theorem bv42 {z : List Value} {ps : List (Nat × Value)} : buildV Tryz.prog 42 z ps = ob (fillL (fun i => [(0, 1), (1, 1), (2, 1), (3, 1), (4, 1)][i]?) ps z) fun l => some (.agg ⟨l⟩) := by kernel_rfl
theorem fa42_0 : FAo 42 0 := by unfold FAo; intros; kernel_rfl
theorem fi42_0 : FIo 42 0 0 := by unfold FIo; intros; kernel_rfl
theorem fa42_1 : FAn 42 1 1 := by unfold FAn; intros; kernel_rfl
theorem fi42_1 : FIo 42 1 1 := by unfold FIo; intros; kernel_rfl
theorem fa42_2 : FAn 42 2 2 := by unfold FAn; intros; kernel_rfl
theorem fi42_2 : FIo 42 2 2 := by unfold FIo; intros; kernel_rfl
theorem fa42_3 : FAn 42 3 3 := by unfold FAn; intros; kernel_rfl
theorem fi42_3 : FIo 42 3 3 := by unfold FIo; intros; kernel_rfl
theorem fa42_4 : FAn 42 4 4 := by unfold FAn; intros; kernel_rfl
theorem fi42_4 : FIo 42 4 4 := by unfold FIo; intros; kernel_rfl
theorem ld43 : LDn 43 5 := by unfold LDn; intros; kernel_rfl
theorem lv43 : LVn 43 5 := by unfold LVn; intros; kernel_rfl
theorem st43 : STn 43 5 := by unfold STn; intros; kernel_rfl
theorem al43 : nAlloc Tryz.prog 43 = some ([.int .i64 0, .int .i64 0, .int .i64 0, .int .i64 0, .int .i64 0], ptrTo) := by kernel_rfl
theorem ze43 : zero? Tryz.prog 43 = some (.agg ⟨[.int .i64 0, .int .i64 0, .int .i64 0, .int .i64 0, .int .i64 0]⟩) := by kernel_rfl
theorem bu43 : pBuild Tryz.prog fr 43 #[] = some (.agg ⟨[.int .i64 0, .int .i64 0, .int .i64 0, .int .i64 0, .int .i64 0]⟩) := by kernel_rfl
theorem bv43 {z : List Value} {ps : List (Nat × Value)} : buildV Tryz.prog 43 z ps = ob (fillL (fun i => [(0, 1), (1, 1), (2, 1), (3, 1), (4, 1)][i]?) ps z) fun l => some (.agg ⟨l⟩) := by kernel_rfl
theorem fa43_0 : FAo 43 0 := by unfold FAo; intros; kernel_rfl
theorem fi43_0 : FIo 43 0 0 := by unfold FIo; intros; kernel_rfl
theorem fa43_1 : FAn 43 1 1 := by unfold FAn; intros; kernel_rfl
theorem fi43_1 : FIo 43 1 1 := by unfold FIo; intros; kernel_rfl
theorem fa43_2 : FAn 43 2 2 := by unfold FAn; intros; kernel_rfl
theorem fi43_2 : FIo 43 2 2 := by unfold FIo; intros; kernel_rfl
theorem fa43_3 : FAn 43 3 3 := by unfold FAn; intros; kernel_rfl
theorem fi43_3 : FIo 43 3 3 := by unfold FIo; intros; kernel_rfl
theorem fa43_4 : FAn 43 4 4 := by unfold FAn; intros; kernel_rfl
theorem fi43_4 : FIo 43 4 4 := by unfold FIo; intros; kernel_rfl
theorem ld44 : LDn 44 20 := by unfold LDn; intros; kernel_rfl
theorem lv44 : LVn 44 20 := by unfold LVn; intros; kernel_rfl
theorem st44 : STn 44 20 := by unfold STn; intros; kernel_rfl
theorem al44 : nAlloc Tryz.prog 44 = some ([str [], .slice none 0 0, .slice none 0 0, .slice none 0 0, .int .i64 0, .int .i64 0, str [], .int .i64 0, .int .i64 0, str [], .slice none 0 0, .slice none 0 0, .int .i64 0, .slice none 0 0, .int .i64 0, .int .i64 0, .int .i64 0, .int .i64 0, .int .i64 0, .int .i64 0], ptrTo) := by kernel_rfl
theorem ze44 : zero? Tryz.prog 44 = some (.agg ⟨[str [], .slice none 0 0, .slice none 0 0, .slice none 0 0, .int .i64 0, .int .i64 0, str [], .int .i64 0, .int .i64 0, str [], .slice none 0 0, .slice none 0 0, .int .i64 0, .slice none 0 0, .int .i64 0, .int .i64 0, .int .i64 0, .int .i64 0, .int .i64 0, .int .i64 0]⟩) := by kernel_rfl
theorem bu44 : pBuild Tryz.prog fr 44 #[] = some (.agg ⟨[str [], .slice none 0 0, .slice none 0 0, .slice none 0 0, .int .i64 0, .int .i64 0, str [], .int .i64 0, .int .i64 0, str [], .slice none 0 0, .slice none 0 0, .int .i64 0, .slice none 0 0, .int .i64 0, .int .i64 0, .int .i64 0, .int .i64 0, .int .i64 0, .int .i64 0]⟩) := by kernel_rfl
theorem bv44 {z : List Value} {ps : List (Nat × Value)} : buildV Tryz.prog 44 z ps = ob (fillL (fun i => [(0, 1), (1, 1), (2, 1), (3, 1), (4, 1), (5, 1), (6, 5), (11, 1), (12, 1), (13, 1), (14, 1), (15, 5)][i]?) ps z) fun l => some (.agg ⟨l⟩) := by kernel_rfl
theorem fa44_0 : FAo 44 0 := by unfold FAo; intros; kernel_rfl
theorem fi44_0 : FIo 44 0 0 := by unfold FIo; intros; kernel_rfl
theorem fa44_1 : FAn 44 1 1 := by unfold FAn; intros; kernel_rfl
theorem fi44_1 : FIo 44 1 1 := by unfold FIo; intros; kernel_rfl
theorem fa44_2 : FAn 44 2 2 := by unfold FAn; intros; kernel_rfl
theorem fi44_2 : FIo 44 2 2 := by unfold FIo; intros; kernel_rfl
theorem fa44_3 : FAn 44 3 3 := by unfold FAn; intros; kernel_rfl
theorem fi44_3 : FIo 44 3 3 := by unfold FIo; intros; kernel_rfl
theorem fa44_4 : FAn 44 4 4 := by unfold FAn; intros; kernel_rfl
theorem fi44_4 : FIo 44 4 4 := by unfold FIo; intros; kernel_rfl
theorem fa44_5 : FAn 44 5 5 := by unfold FAn; intros; kernel_rfl
theorem fi44_5 : FIo 44 5 5 := by unfold FIo; intros; kernel_rfl
theorem fa44_6 : FAn 44 6 6 := by unfold FAn; intros; kernel_rfl
theorem fi44_6 : pField Tryz.prog fr 44 x 6 = ob (ev fr x) fun v => ob (agg? v) fun cs => ob (sub cs 6 5) fun l => some (.agg ⟨l⟩) := by kernel_rfl
theorem fa44_7 : FAn 44 7 11 := by unfold FAn; intros; kernel_rfl
theorem fi44_7 : FIo 44 7 11 := by unfold FIo; intros; kernel_rfl
theorem fa44_8 : FAn 44 8 12 := by unfold FAn; intros; kernel_rfl
theorem fi44_8 : FIo 44 8 12 := by unfold FIo; intros; kernel_rfl
theorem fa44_9 : FAn 44 9 13 := by unfold FAn; intros; kernel_rfl
theorem fi44_9 : FIo 44 9 13 := by unfold FIo; intros; kernel_rfl
theorem fa44_10 : FAn 44 10 14 := by unfold FAn; intros; kernel_rfl
theorem fi44_10 : FIo 44 10 14 := by unfold FIo; intros; kernel_rfl
theorem fa44_11 : FAn 44 11 15 := by unfold FAn; intros; kernel_rfl
theorem fi44_11 : pField Tryz.prog fr 44 x 11 = ob (ev fr x) fun v => ob (agg? v) fun cs => ob (sub cs 15 5) fun l => some (.agg ⟨l⟩) := by kernel_rfl
theorem ld45 : LDn 45 20 := by unfold LDn; intros; kernel_rfl
theorem lv45 : LVn 45 20 := by unfold LVn; intros; kernel_rfl
theorem st45 : STn 45 20 := by unfold STn; intros; kernel_rfl
theorem al45 : nAlloc Tryz.prog 45 = some ([str [], .slice none 0 0, .slice none 0 0, .slice none 0 0, .int .i64 0, .int .i64 0, str [], .int .i64 0, .int .i64 0, str [], .slice none 0 0, .slice none 0 0, .int .i64 0, .slice none 0 0, .int .i64 0, .int .i64 0, .int .i64 0, .int .i64 0, .int .i64 0, .int .i64 0], ptrTo) := by kernel_rfl
theorem ze45 : zero? Tryz.prog 45 = some (.agg ⟨[str [], .slice none 0 0, .slice none 0 0, .slice none 0 0, .int .i64 0, .int .i64 0, str [], .int .i64 0, .int .i64 0, str [], .slice none 0 0, .slice none 0 0, .int .i64 0, .slice none 0 0, .int .i64 0, .int .i64 0, .int .i64 0, .int .i64 0, .int .i64 0, .int .i64 0]⟩) := by kernel_rfl
theorem bu45 : pBuild Tryz.prog fr 45 #[] = some (.agg ⟨[str [], .slice none 0 0, .slice none 0 0, .slice none 0 0, .int .i64 0, .int .i64 0, str [], .int .i64 0, .int .i64 0, str [], .slice none 0 0, .slice none 0 0, .int .i64 0, .slice none 0 0, .int .i64 0, .int .i64 0, .int .i64 0, .int .i64 0, .int .i64 0, .int .i64 0]⟩) := by kernel_rfl
theorem bv45 {z : List Value} {ps : List (Nat × Value)} : buildV Tryz.prog 45 z ps = ob (fillL (fun i => [(0, 1), (1, 1), (2, 1), (3, 1), (4, 1), (5, 1), (6, 5), (11, 1), (12, 1), (13, 1), (14, 1), (15, 5)][i]?) ps z) fun l => some (.agg ⟨l⟩) := by kernel_rfl
theorem fa45_0 : FAo 45 0 := by unfold FAo; intros; kernel_rfl
theorem fi45_0 : FIo 45 0 0 := by unfold FIo; intros; kernel_rfl
theorem fa45_1 : FAn 45 1 1 := by unfold FAn; intros; kernel_rfl
theorem fi45_1 : FIo 45 1 1 := by unfold FIo; intros; kernel_rfl
theorem fa45_2 : FAn 45 2 2 := by unfold FAn; intros; kernel_rfl
theorem fi45_2 : FIo 45 2 2 := by unfold FIo; intros; kernel_rfl
theorem fa45_3 : FAn 45 3 3 := by unfold FAn; intros; kernel_rfl
theorem fi45_3 : FIo 45 3 3 := by unfold FIo; intros; kernel_rfl
theorem fa45_4 : FAn 45 4 4 := by unfold FAn; intros; kernel_rfl
theorem fi45_4 : FIo 45 4 4 := by unfold FIo; intros; kernel_rfl
theorem fa45_5 : FAn 45 5 5 := by unfold FAn; intros; kernel_rfl
theorem fi45_5 : FIo 45 5 5 := by unfold FIo; intros; kernel_rfl
theorem fa45_6 : FAn 45 6 6 := by unfold FAn; intros; kernel_rfl
theorem fi45_6 : pField Tryz.prog fr 45 x 6 = ob (ev fr x) fun v => ob (agg? v) fun cs => ob (sub cs 6 5) fun l => some (.agg ⟨l⟩) := by kernel_rfl
theorem fa45_7 : FAn 45 7 11 := by unfold FAn; intros; kernel_rfl
theorem fi45_7 : FIo 45 7 11 := by unfold FIo; intros; kernel_rfl
theorem fa45_8 : FAn 45 8 12 := by unfold FAn; intros; kernel_rfl
theorem fi45_8 : FIo 45 8 12 := by unfold FIo; intros; kernel_rfl
theorem fa45_9 : FAn 45 9 13 := by unfold FAn; intros; kernel_rfl
theorem fi45_9 : FIo 45 9 13 := by unfold FIo; intros; kernel_rfl
theorem fa45_10 : FAn 45 10 14 := by unfold FAn; intros; kernel_rfl
theorem fi45_10 : FIo 45 10 14 := by unfold FIo; intros; kernel_rfl
theorem fa45_11 : FAn 45 11 15 := by unfold FAn; intros; kernel_rfl
theorem fi45_11 : pField Tryz.prog fr 45 x 11 = ob (ev fr x) fun v => ob (agg? v) fun cs => ob (sub cs 15 5) fun l => some (.agg ⟨l⟩) := by kernel_rfl
theorem ld48 : LDn 48 40 := by unfold LDn; intros; kernel_rfl
theorem lv48 : LVn 48 40 := by unfold LVn; intros; kernel_rfl
theorem st48 : STn 48 40 := by unfold STn; intros; kernel_rfl
theorem al48 : nAlloc Tryz.prog 48 = some ([str [], .slice none 0 0, .slice none 0 0, .slice none 0 0, .int .i64 0, .int .i64 0, str [], .int .i64 0, .int .i64 0, str [], .slice none 0 0, .slice none 0 0, .int .i64 0, .slice none 0 0, .int .i64 0, .int .i64 0, .int .i64 0, .int .i64 0, .int .i64 0, .int .i64 0, str [], .slice none 0 0, .slice none 0 0, .slice none 0 0, .int .i64 0, .int .i64 0, str [], .int .i64 0, .int .i64 0, str [], .slice none 0 0, .slice none 0 0, .int .i64 0, .slice none 0 0, .int .i64 0, .int .i64 0, .int .i64 0, .int .i64 0, .int .i64 0, .int .i64 0], ptrTo) := by kernel_rfl
theorem ze48 : zero? Tryz.prog 48 = some (.agg ⟨[str [], .slice none 0 0, .slice none 0 0, .slice none 0 0, .int .i64 0, .int .i64 0, str [], .int .i64 0, .int .i64 0, str [], .slice none 0 0, .slice none 0 0, .int .i64 0, .slice none 0 0, .int .i64 0, .int .i64 0, .int .i64 0, .int .i64 0, .int .i64 0, .int .i64 0, str [], .slice none 0 0, .slice none 0 0, .slice none 0 0, .int .i64 0, .int .i64 0, str [], .int .i64 0, .int .i64 0, str [], .slice none 0 0, .slice none 0 0, .int .i64 0, .slice none 0 0, .int .i64 0, .int .i64 0, .int .i64 0, .int .i64 0, .int .i64 0, .int .i64 0]⟩) := by kernel_rfl
theorem bu48 : pBuild Tryz.prog fr 48 #[] = some (.agg ⟨[str [], .slice none 0 0, .slice none 0 0, .slice none 0 0, .int .i64 0, .int .i64 0, str [], .int .i64 0, .int .i64 0, str [], .slice none 0 0, .slice none 0 0, .int .i64 0, .slice none 0 0, .int .i64 0, .int .i64 0, .int .i64 0, .int .i64 0, .int .i64 0, .int .i64 0, str [], .slice none 0 0, .slice none 0 0, .slice none 0 0, .int .i64 0, .int .i64 0, str [], .int .i64 0, .int .i64 0, str [], .slice none 0 0, .slice none 0 0, .int .i64 0, .slice none 0 0, .int .i64 0, .int .i64 0, .int .i64 0, .int .i64 0, .int .i64 0, .int .i64 0]⟩) := by kernel_rfl
theorem ia48 {b off i : Nat} : indexAddrV Tryz.prog 48 (.pointer (some ⟨b, off, none⟩)) i = bb (Nat.blt i 2) (some (.pointer (some ⟨b, off + i * 20, none⟩))) := by kernel_rfl
theorem bv48 : BVn 48 20 20 := by unfold BVn; intros; kernel_rfl
theorem ld49 : LDo 49 := by unfold LDo; intros; kernel_rfl
theorem lv49 : LVo 49 := by unfold LVo; intros; kernel_rfl
theorem st49 : STn 49 1 := by unfold STn; intros; kernel_rfl
theorem al49 : nAlloc Tryz.prog 49 = some ([.slice none 0 0], ptrTo) := by kernel_rfl
theorem ze49 : zero? Tryz.prog 49 = some (.slice none 0 0) := by kernel_rfl
theorem ia49 : IAs 49 40 := by unfold IAs; intros; kernel_rfl
theorem ap49 : APn 49 40 561 := by unfold APn; intros; kernel_rfl
theorem ss49 : SSn 49 40 := by unfold SSn; intros; kernel_rfl
theorem sl49 : SLn 49 40 [str [], .slice none 0 0, .slice none 0 0, .slice none 0 0, .int .i64 0, .int .i64 0, str [], .int .i64 0, .int .i64 0, str [], .slice none 0 0, .slice none 0 0, .int .i64 0, .slice none 0 0, .int .i64 0, .int .i64 0, .int .i64 0, .int .i64 0, .int .i64 0, .int .i64 0, str [], .slice none 0 0, .slice none 0 0, .slice none 0 0, .int .i64 0, .int .i64 0, str [], .int .i64 0, .int .i64 0, str [], .slice none 0 0, .slice none 0 0, .int .i64 0, .slice none 0 0, .int .i64 0, .int .i64 0, .int .i64 0, .int .i64 0, .int .i64 0, .int .i64 0] := by unfold SLn; intros; kernel_rfl
theorem mk49 : MKn 49 561 [str [], .slice none 0 0, .slice none 0 0, .slice none 0 0, .int .i64 0, .int .i64 0, str [], .int .i64 0, .int .i64 0, str [], .slice none 0 0, .slice none 0 0, .int .i64 0, .slice none 0 0, .int .i64 0, .int .i64 0, .int .i64 0, .int .i64 0, .int .i64 0, .int .i64 0, str [], .slice none 0 0, .slice none 0 0, .slice none 0 0, .int .i64 0, .int .i64 0, str [], .int .i64 0, .int .i64 0, str [], .slice none 0 0, .slice none 0 0, .int .i64 0, .slice none 0 0, .int .i64 0, .int .i64 0, .int .i64 0, .int .i64 0, .int .i64 0, .int .i64 0] := by unfold MKn; intros; kernel_rfl
theorem ld50 : LDo 50 := by unfold LDo; intros; kernel_rfl
theorem lv50 : LVo 50 := by unfold LVo; intros; kernel_rfl
theorem st50 : STn 50 1 := by unfold STn; intros; kernel_rfl
theorem al50 : nAlloc Tryz.prog 50 = some ([.int .i64 0], ptrTo) := by kernel_rfl
theorem ze50 : zero? Tryz.prog 50 = some (.int .i64 0) := by kernel_rfl
theorem ld64 : LDo 64 := by unfold LDo; intros; kernel_rfl
theorem lv64 : LVo 64 := by unfold LVo; intros; kernel_rfl
theorem st64 : STn 64 1 := by unfold STn; intros; kernel_rfl
theorem al64 : nAlloc Tryz.prog 64 = some ([.pointer none], ptrTo) := by kernel_rfl
theorem ze64 : zero? Tryz.prog 64 = some (.pointer none) := by kernel_rfl
theorem ld74 : LDo 74 := by unfold LDo; intros; kernel_rfl
theorem lv74 : LVo 74 := by unfold LVo; intros; kernel_rfl
theorem st74 : STn 74 1 := by unfold STn; intros; kernel_rfl
theorem al74 : nAlloc Tryz.prog 74 = some ([.slice none 0 0], ptrTo) := by kernel_rfl
theorem ze74 : zero? Tryz.prog 74 = some (.slice none 0 0) := by kernel_rfl
theorem ia74 : IAs 74 1 := by unfold IAs; intros; kernel_rfl
theorem ap74 : APn 74 1 2 := by unfold APn; intros; kernel_rfl
theorem ss74 : SSn 74 1 := by unfold SSn; intros; kernel_rfl
theorem sl74 : SLn 74 1 [.int .u8 0] := by unfold SLn; intros; kernel_rfl
theorem mk74 : MKn 74 2 [.int .u8 0] := by unfold MKn; intros; kernel_rfl
theorem ld77 : LDn 77 5 := by unfold LDn; intros; kernel_rfl
theorem lv77 : LVn 77 5 := by unfold LVn; intros; kernel_rfl
theorem st77 : STn 77 5 := by unfold STn; intros; kernel_rfl
theorem al77 : nAlloc Tryz.prog 77 = some ([str [], .int .i64 0, .int .i64 0, .int .i64 0, .bool false], ptrTo) := by kernel_rfl
theorem ze77 : zero? Tryz.prog 77 = some (.agg ⟨[str [], .int .i64 0, .int .i64 0, .int .i64 0, .bool false]⟩) := by kernel_rfl
theorem bu77 : pBuild Tryz.prog fr 77 #[] = some (.agg ⟨[str [], .int .i64 0, .int .i64 0, .int .i64 0, .bool false]⟩) := by kernel_rfl
theorem bv77 {z : List Value} {ps : List (Nat × Value)} : buildV Tryz.prog 77 z ps = ob (fillL (fun i => [(0, 1), (1, 1), (2, 1), (3, 1), (4, 1)][i]?) ps z) fun l => some (.agg ⟨l⟩) := by kernel_rfl
theorem fa77_0 : FAo 77 0 := by unfold FAo; intros; kernel_rfl
theorem fi77_0 : FIo 77 0 0 := by unfold FIo; intros; kernel_rfl
theorem fa77_1 : FAn 77 1 1 := by unfold FAn; intros; kernel_rfl
theorem fi77_1 : FIo 77 1 1 := by unfold FIo; intros; kernel_rfl
theorem fa77_2 : FAn 77 2 2 := by unfold FAn; intros; kernel_rfl
theorem fi77_2 : FIo 77 2 2 := by unfold FIo; intros; kernel_rfl
theorem fa77_3 : FAn 77 3 3 := by unfold FAn; intros; kernel_rfl
theorem fi77_3 : FIo 77 3 3 := by unfold FIo; intros; kernel_rfl
theorem fa77_4 : FAn 77 4 4 := by unfold FAn; intros; kernel_rfl
theorem fi77_4 : FIo 77 4 4 := by unfold FIo; intros; kernel_rfl
theorem ld78 : LDn 78 5 := by unfold LDn; intros; kernel_rfl
theorem lv78 : LVn 78 5 := by unfold LVn; intros; kernel_rfl
theorem st78 : STn 78 5 := by unfold STn; intros; kernel_rfl
theorem al78 : nAlloc Tryz.prog 78 = some ([str [], .int .i64 0, .int .i64 0, .int .i64 0, .bool false], ptrTo) := by kernel_rfl
theorem ze78 : zero? Tryz.prog 78 = some (.agg ⟨[str [], .int .i64 0, .int .i64 0, .int .i64 0, .bool false]⟩) := by kernel_rfl
theorem bu78 : pBuild Tryz.prog fr 78 #[] = some (.agg ⟨[str [], .int .i64 0, .int .i64 0, .int .i64 0, .bool false]⟩) := by kernel_rfl
theorem bv78 {z : List Value} {ps : List (Nat × Value)} : buildV Tryz.prog 78 z ps = ob (fillL (fun i => [(0, 1), (1, 1), (2, 1), (3, 1), (4, 1)][i]?) ps z) fun l => some (.agg ⟨l⟩) := by kernel_rfl
theorem fa78_0 : FAo 78 0 := by unfold FAo; intros; kernel_rfl
theorem fi78_0 : FIo 78 0 0 := by unfold FIo; intros; kernel_rfl
theorem fa78_1 : FAn 78 1 1 := by unfold FAn; intros; kernel_rfl
theorem fi78_1 : FIo 78 1 1 := by unfold FIo; intros; kernel_rfl
theorem fa78_2 : FAn 78 2 2 := by unfold FAn; intros; kernel_rfl
theorem fi78_2 : FIo 78 2 2 := by unfold FIo; intros; kernel_rfl
theorem fa78_3 : FAn 78 3 3 := by unfold FAn; intros; kernel_rfl
theorem fi78_3 : FIo 78 3 3 := by unfold FIo; intros; kernel_rfl
theorem fa78_4 : FAn 78 4 4 := by unfold FAn; intros; kernel_rfl
theorem fi78_4 : FIo 78 4 4 := by unfold FIo; intros; kernel_rfl
theorem ld85 : LDn 85 2 := by unfold LDn; intros; kernel_rfl
theorem lv85 : LVn 85 2 := by unfold LVn; intros; kernel_rfl
theorem st85 : STn 85 2 := by unfold STn; intros; kernel_rfl
theorem al85 : nAlloc Tryz.prog 85 = some ([.int .i64 0, .int .i64 0], ptrTo) := by kernel_rfl
theorem ze85 : zero? Tryz.prog 85 = some (.agg ⟨[.int .i64 0, .int .i64 0]⟩) := by kernel_rfl
theorem bu85 : pBuild Tryz.prog fr 85 #[] = some (.agg ⟨[.int .i64 0, .int .i64 0]⟩) := by kernel_rfl
theorem bv85 {z : List Value} {ps : List (Nat × Value)} : buildV Tryz.prog 85 z ps = ob (fillL (fun i => [(0, 1), (1, 1)][i]?) ps z) fun l => some (.agg ⟨l⟩) := by kernel_rfl
theorem fa85_0 : FAo 85 0 := by unfold FAo; intros; kernel_rfl
theorem fi85_0 : FIo 85 0 0 := by unfold FIo; intros; kernel_rfl
theorem fa85_1 : FAn 85 1 1 := by unfold FAn; intros; kernel_rfl
theorem fi85_1 : FIo 85 1 1 := by unfold FIo; intros; kernel_rfl
theorem ld86 : LDn 86 2 := by unfold LDn; intros; kernel_rfl
theorem lv86 : LVn 86 2 := by unfold LVn; intros; kernel_rfl
theorem st86 : STn 86 2 := by unfold STn; intros; kernel_rfl
theorem al86 : nAlloc Tryz.prog 86 = some ([.int .i64 0, .int .i64 0], ptrTo) := by kernel_rfl
theorem ze86 : zero? Tryz.prog 86 = some (.agg ⟨[.int .i64 0, .int .i64 0]⟩) := by kernel_rfl
theorem bu86 : pBuild Tryz.prog fr 86 #[] = some (.agg ⟨[.int .i64 0, .int .i64 0]⟩) := by kernel_rfl
theorem bv86 {z : List Value} {ps : List (Nat × Value)} : buildV Tryz.prog 86 z ps = ob (fillL (fun i => [(0, 1), (1, 1)][i]?) ps z) fun l => some (.agg ⟨l⟩) := by kernel_rfl
theorem fa86_0 : FAo 86 0 := by unfold FAo; intros; kernel_rfl
theorem fi86_0 : FIo 86 0 0 := by unfold FIo; intros; kernel_rfl
theorem fa86_1 : FAn 86 1 1 := by unfold FAn; intros; kernel_rfl
theorem fi86_1 : FIo 86 1 1 := by unfold FIo; intros; kernel_rfl
theorem ld87 : LDn 87 3 := by unfold LDn; intros; kernel_rfl
theorem lv87 : LVn 87 3 := by unfold LVn; intros; kernel_rfl
theorem st87 : STn 87 3 := by unfold STn; intros; kernel_rfl
theorem al87 : nAlloc Tryz.prog 87 = some ([str [], str [], .int .i64 0], ptrTo) := by kernel_rfl
theorem ze87 : zero? Tryz.prog 87 = some (.agg ⟨[str [], str [], .int .i64 0]⟩) := by kernel_rfl
theorem bu87 : pBuild Tryz.prog fr 87 #[] = some (.agg ⟨[str [], str [], .int .i64 0]⟩) := by kernel_rfl
theorem bv87 {z : List Value} {ps : List (Nat × Value)} : buildV Tryz.prog 87 z ps = ob (fillL (fun i => [(0, 1), (1, 1), (2, 1)][i]?) ps z) fun l => some (.agg ⟨l⟩) := by kernel_rfl
theorem fa87_0 : FAo 87 0 := by unfold FAo; intros; kernel_rfl
theorem fi87_0 : FIo 87 0 0 := by unfold FIo; intros; kernel_rfl
theorem fa87_1 : FAn 87 1 1 := by unfold FAn; intros; kernel_rfl
theorem fi87_1 : FIo 87 1 1 := by unfold FIo; intros; kernel_rfl
theorem fa87_2 : FAn 87 2 2 := by unfold FAn; intros; kernel_rfl
theorem fi87_2 : FIo 87 2 2 := by unfold FIo; intros; kernel_rfl
theorem ld88 : LDn 88 3 := by unfold LDn; intros; kernel_rfl
theorem lv88 : LVn 88 3 := by unfold LVn; intros; kernel_rfl
theorem st88 : STn 88 3 := by unfold STn; intros; kernel_rfl
theorem al88 : nAlloc Tryz.prog 88 = some ([str [], str [], .int .i64 0], ptrTo) := by kernel_rfl
theorem ze88 : zero? Tryz.prog 88 = some (.agg ⟨[str [], str [], .int .i64 0]⟩) := by kernel_rfl
theorem bu88 : pBuild Tryz.prog fr 88 #[] = some (.agg ⟨[str [], str [], .int .i64 0]⟩) := by kernel_rfl
theorem bv88 {z : List Value} {ps : List (Nat × Value)} : buildV Tryz.prog 88 z ps = ob (fillL (fun i => [(0, 1), (1, 1), (2, 1)][i]?) ps z) fun l => some (.agg ⟨l⟩) := by kernel_rfl
theorem fa88_0 : FAo 88 0 := by unfold FAo; intros; kernel_rfl
theorem fi88_0 : FIo 88 0 0 := by unfold FIo; intros; kernel_rfl
theorem fa88_1 : FAn 88 1 1 := by unfold FAn; intros; kernel_rfl
theorem fi88_1 : FIo 88 1 1 := by unfold FIo; intros; kernel_rfl
theorem fa88_2 : FAn 88 2 2 := by unfold FAn; intros; kernel_rfl
theorem fi88_2 : FIo 88 2 2 := by unfold FIo; intros; kernel_rfl
theorem ld116 : LDn 116 2 := by unfold LDn; intros; kernel_rfl
theorem lv116 : LVn 116 2 := by unfold LVn; intros; kernel_rfl
theorem st116 : STn 116 2 := by unfold STn; intros; kernel_rfl
theorem al116 : nAlloc Tryz.prog 116 = some ([.int .i64 0, .int .i64 0], ptrTo) := by kernel_rfl
theorem ze116 : zero? Tryz.prog 116 = some (.agg ⟨[.int .i64 0, .int .i64 0]⟩) := by kernel_rfl
theorem bu116 : pBuild Tryz.prog fr 116 #[] = some (.agg ⟨[.int .i64 0, .int .i64 0]⟩) := by kernel_rfl
theorem ia116 {b off i : Nat} : indexAddrV Tryz.prog 116 (.pointer (some ⟨b, off, none⟩)) i = bb (Nat.blt i 2) (some (.pointer (some ⟨b, off + i * 1, none⟩))) := by kernel_rfl
theorem bv116 : BVn 116 1 1 := by unfold BVn; intros; kernel_rfl
theorem ld117 : LDn 117 4 := by unfold LDn; intros; kernel_rfl
theorem lv117 : LVn 117 4 := by unfold LVn; intros; kernel_rfl
theorem st117 : STn 117 4 := by unfold STn; intros; kernel_rfl
theorem al117 : nAlloc Tryz.prog 117 = some ([.int .i64 0, .int .i64 0, .int .i64 0, .int .i64 0], ptrTo) := by kernel_rfl
theorem ze117 : zero? Tryz.prog 117 = some (.agg ⟨[.int .i64 0, .int .i64 0, .int .i64 0, .int .i64 0]⟩) := by kernel_rfl
theorem bu117 : pBuild Tryz.prog fr 117 #[] = some (.agg ⟨[.int .i64 0, .int .i64 0, .int .i64 0, .int .i64 0]⟩) := by kernel_rfl
theorem ia117 {b off i : Nat} : indexAddrV Tryz.prog 117 (.pointer (some ⟨b, off, none⟩)) i = bb (Nat.blt i 4) (some (.pointer (some ⟨b, off + i * 1, none⟩))) := by kernel_rfl
theorem bv117 : BVn 117 1 1 := by unfold BVn; intros; kernel_rfl
end
end Go.Proofs.G
namespace Go.Proofs.G
open Go Go.Ab
noncomputable def HS : Sums := fun g => if g = 9 then some (fun vs σ => match vs with | [] => some ⟨false, .bool true, σ⟩ | _ => none) else none
theorem ev_san {σ : St} {Q : CR → Prop} {uq : Hd Q} : Ev (go Tryz.prog HS (.fn 9) [] σ) Q uq = Q ⟨false, .bool true, σ⟩ := by
 show Ev (some _) Q _ = _
 rw [ev_some]
theorem cv_u8_int {σ : St} {n : Int} : convA Tryz.prog σ 5 3 (.int .u8 n) = some ⟨.int .i64 (IntKind.i64.wrap n), σ, .none⟩ := by kernel_rfl
theorem cv_int_u8 {σ : St} {n : Int} : convA Tryz.prog σ 3 5 (.int .i64 n) = some ⟨.int .u8 (IntKind.u8.wrap n), σ, .none⟩ := by kernel_rfl
theorem cv_bytes {σ : St} {b off n c : Nat} {sp : Option Nat} : convA Tryz.prog σ 74 9 (.slice (some ⟨b, off, sp⟩) n c) = ob (σ.read b off n) fun vs => ob (unbytes vs) fun l => some ⟨str l, σ, .read ⟨b, off, n⟩⟩ := conv_slice (e := 5) (by kernel_rfl) (by kernel_rfl) (by kernel_rfl)
theorem cv_str {σ : St} {l : List UInt8} : convA Tryz.prog σ 9 74 (str l) = some ⟨.slice (some ⟨σ.n, 0, some 1⟩) l.length l.length, σ.new (bytesV l), .none⟩ := by kernel_rfl
theorem ix_str {l : List UInt8} {i : Nat} : indexV Tryz.prog 9 (str l) i = ob (sub l i 1) oneB := by kernel_rfl
theorem ss_str {l : List UInt8} {lo hi : Option Value} : sliceV Tryz.prog 9 (str l) lo hi = ob (bnds l.length l.length lo hi) fun p => pr p fun lo hi => ob (sub l lo (hi - lo)) fun l => some (str l) := by kernel_rfl
theorem bq_bool {x y : Operand} {a b : Bool} : bin2 Tryz.prog .eql 4 x y (.bool a) (.bool b) = some (.bool (bi a b (!b))) := by cases a <;> cases b <;> kernel_rfl
theorem natl {k : IntKind} : nat? (.int k 1) = some 1 ∧ nat? (.int k 2) = some 2 ∧ nat? (.int k 3) = some 3 ∧ nat? (.int k 4) = some 4 ∧ nat? (.int k 5) = some 5 ∧ nat? (.int k 6) = some 6 ∧ nat? (.int k 7) = some 7 ∧ nat? (.int k 8) = some 8 ∧ nat? (.int k 9) = some 9 ∧ nat? (.int k 10) = some 10 ∧ nat? (.int k 11) = some 11 ∧ nat? (.int k 12) = some 12 ∧ nat? (.int k 13) = some 13 ∧ nat? (.int k 14) = some 14 ∧ nat? (.int k 15) = some 15 ∧ nat? (.int k 16) = some 16 := ⟨rfl, rfl, rfl, rfl, rfl, rfl, rfl, rfl, rfl, rfl, rfl, rfl, rfl, rfl, rfl, rfl⟩
end Go.Proofs.G
namespace Go.Proofs.G
open Go Go.Ab
open Nat (reduceMul reduceEqDiff reduceAdd)
set_option linter.defProp false
def bunFD := And.intro (And.intro (And.intro (And.intro (And.intro (And.intro (And.intro (And.intro (@ld3) (@st3)) (And.intro (@ld4) (@st4))) (And.intro (And.intro (@ld5) (@st5)) (And.intro (@ld9) (@st9)))) (And.intro (And.intro (And.intro (@ld22) (@st22)) (And.intro (@sl22) (@mk22))) (And.intro (And.intro (@ld23) (@st23)) (And.intro (@sl23) (And.intro (@mk23) (@ld24)))))) (And.intro (And.intro (And.intro (And.intro (@st24) (@sl24)) (And.intro (@mk24) (@ld25))) (And.intro (And.intro (@st25) (@sl25)) (And.intro (@mk25) (And.intro (@ld26) (@st26))))) (And.intro (And.intro (And.intro (@sl26) (@mk26)) (And.intro (@ld27) (@st27))) (And.intro (And.intro (@bu27) (@ld28)) (And.intro (@st28) (And.intro (@bu28) (@fa28_0))))))) (And.intro (And.intro (And.intro (And.intro (And.intro (@fi28_0) (@fa28_1)) (And.intro (@fi28_1) (@fa28_2))) (And.intro (And.intro (@fi28_2) (@fa28_3)) (And.intro (@fi28_3) (And.intro (@fa28_4) (@fi28_4))))) (And.intro (And.intro (And.intro (@fa28_5) (@fi28_5)) (And.intro (@fa28_6) (@fi28_6))) (And.intro (And.intro (@ld29) (@st29)) (And.intro (@bu29) (And.intro (@fa29_0) (@fi29_0)))))) (And.intro (And.intro (And.intro (And.intro (@fa29_1) (@fi29_1)) (And.intro (@fa29_2) (@fi29_2))) (And.intro (And.intro (@fa29_3) (@fi29_3)) (And.intro (@fa29_4) (And.intro (@fi29_4) (@fa29_5))))) (And.intro (And.intro (And.intro (@fi29_5) (@fa29_6)) (And.intro (@fi29_6) (@ld30))) (And.intro (And.intro (@st30) (@bu30)) (And.intro (@ld31) (And.intro (@st31) (@bu31)))))))) (And.intro (And.intro (And.intro (And.intro (And.intro (And.intro (@ld33) (@st33)) (And.intro (@sl33) (@mk33))) (And.intro (And.intro (@ld34) (@st34)) (And.intro (@sl34) (And.intro (@mk34) (@ld35))))) (And.intro (And.intro (And.intro (@st35) (@sl35)) (And.intro (@mk35) (@ld36))) (And.intro (And.intro (@st36) (@bu36)) (And.intro (@fa36_0) (And.intro (@fi36_0) (@fa36_1)))))) (And.intro (And.intro (And.intro (And.intro (@fi36_1) (@ld37)) (And.intro (@st37) (@bu37))) (And.intro (And.intro (@fa37_0) (@fi37_0)) (And.intro (@fa37_1) (And.intro (@fi37_1) (@ld38))))) (And.intro (And.intro (And.intro (@st38) (@sl38)) (And.intro (@mk38) (@ld39))) (And.intro (And.intro (@st39) (@bu39)) (And.intro (@fa39_0) (And.intro (@fi39_0) (@fa39_1))))))) (And.intro (And.intro (And.intro (And.intro (And.intro (@fi39_1) (@fa39_2)) (And.intro (@fi39_2) (@fa39_3))) (And.intro (And.intro (@fi39_3) (@ld40)) (And.intro (@st40) (And.intro (@bu40) (@fa40_0))))) (And.intro (And.intro (And.intro (@fi40_0) (@fa40_1)) (And.intro (@fi40_1) (@fa40_2))) (And.intro (And.intro (@fi40_2) (@fa40_3)) (And.intro (@fi40_3) (And.intro (@ld41) (@st41)))))) (And.intro (And.intro (And.intro (And.intro (@sl41) (@mk41)) (And.intro (@ld42) (@st42))) (And.intro (And.intro (@bu42) (@fa42_0)) (And.intro (@fi42_0) (And.intro (@fa42_1) (@fi42_1))))) (And.intro (And.intro (And.intro (@fa42_2) (@fi42_2)) (And.intro (@fa42_3) (@fi42_3))) (And.intro (And.intro (@fa42_4) (@fi42_4)) (And.intro (@ld43) (And.intro (@st43) (@bu43))))))))) (And.intro (And.intro (And.intro (And.intro (And.intro (And.intro (And.intro (@fa43_0) (@fi43_0)) (And.intro (@fa43_1) (@fi43_1))) (And.intro (And.intro (@fa43_2) (@fi43_2)) (And.intro (@fa43_3) (@fi43_3)))) (And.intro (And.intro (And.intro (@fa43_4) (@fi43_4)) (And.intro (@ld44) (@st44))) (And.intro (And.intro (@bu44) (@fa44_0)) (And.intro (@fi44_0) (And.intro (@fa44_1) (@fi44_1)))))) (And.intro (And.intro (And.intro (And.intro (@fa44_2) (@fi44_2)) (And.intro (@fa44_3) (@fi44_3))) (And.intro (And.intro (@fa44_4) (@fi44_4)) (And.intro (@fa44_5) (And.intro (@fi44_5) (@fa44_6))))) (And.intro (And.intro (And.intro (@fi44_6) (@fa44_7)) (And.intro (@fi44_7) (@fa44_8))) (And.intro (And.intro (@fi44_8) (@fa44_9)) (And.intro (@fi44_9) (And.intro (@fa44_10) (@fi44_10))))))) (And.intro (And.intro (And.intro (And.intro (And.intro (@fa44_11) (@fi44_11)) (And.intro (@ld45) (@st45))) (And.intro (And.intro (@bu45) (@fa45_0)) (And.intro (@fi45_0) (And.intro (@fa45_1) (@fi45_1))))) (And.intro (And.intro (And.intro (@fa45_2) (@fi45_2)) (And.intro (@fa45_3) (@fi45_3))) (And.intro (And.intro (@fa45_4) (@fi45_4)) (And.intro (@fa45_5) (And.intro (@fi45_5) (@fa45_6)))))) (And.intro (And.intro (And.intro (And.intro (@fi45_6) (@fa45_7)) (And.intro (@fi45_7) (@fa45_8))) (And.intro (And.intro (@fi45_8) (@fa45_9)) (And.intro (@fi45_9) (And.intro (@fa45_10) (@fi45_10))))) (And.intro (And.intro (And.intro (@fa45_11) (@fi45_11)) (And.intro (@ld48) (@st48))) (And.intro (And.intro (@bu48) (@ld49)) (And.intro (@st49) (And.intro (@sl49) (@mk49)))))))) (And.intro (And.intro (And.intro (And.intro (And.intro (And.intro (@ld50) (@st50)) (And.intro (@ld64) (@st64))) (And.intro (And.intro (@ld74) (@st74)) (And.intro (@sl74) (And.intro (@mk74) (@ld77))))) (And.intro (And.intro (And.intro (@st77) (@bu77)) (And.intro (@fa77_0) (@fi77_0))) (And.intro (And.intro (@fa77_1) (@fi77_1)) (And.intro (@fa77_2) (And.intro (@fi77_2) (@fa77_3)))))) (And.intro (And.intro (And.intro (And.intro (@fi77_3) (@fa77_4)) (And.intro (@fi77_4) (@ld78))) (And.intro (And.intro (@st78) (@bu78)) (And.intro (@fa78_0) (And.intro (@fi78_0) (@fa78_1))))) (And.intro (And.intro (And.intro (@fi78_1) (@fa78_2)) (And.intro (@fi78_2) (@fa78_3))) (And.intro (And.intro (@fi78_3) (@fa78_4)) (And.intro (@fi78_4) (And.intro (@ld85) (@st85))))))) (And.intro (And.intro (And.intro (And.intro (And.intro (@bu85) (@fa85_0)) (And.intro (@fi85_0) (@fa85_1))) (And.intro (And.intro (@fi85_1) (@ld86)) (And.intro (@st86) (And.intro (@bu86) (@fa86_0))))) (And.intro (And.intro (And.intro (@fi86_0) (@fa86_1)) (And.intro (@fi86_1) (@ld87))) (And.intro (And.intro (@st87) (@bu87)) (And.intro (@fa87_0) (And.intro (@fi87_0) (@fa87_1)))))) (And.intro (And.intro (And.intro (And.intro (@fi87_1) (@fa87_2)) (And.intro (@fi87_2) (@ld88))) (And.intro (And.intro (@st88) (@bu88)) (And.intro (@fa88_0) (And.intro (@fi88_0) (@fa88_1))))) (And.intro (And.intro (And.intro (@fi88_1) (@fa88_2)) (And.intro (@fi88_2) (@ld116))) (And.intro (And.intro (@st116) (@bu116)) (And.intro (@ld117) (And.intro (@st117) (@bu117)))))))))
def bunFU := And.intro (And.intro (And.intro (And.intro (And.intro (And.intro (And.intro (@Tryz.underlying3) (And.intro (@lv3) (@al3))) (And.intro (@ze3) (And.intro (@Tryz.underlying4) (@lv4)))) (And.intro (And.intro (@al4) (And.intro (@ze4) (@Tryz.underlying5))) (And.intro (And.intro (@lv5) (@al5)) (And.intro (@ze5) (@Tryz.underlying9))))) (And.intro (And.intro (And.intro (@lv9) (And.intro (@al9) (@ze9))) (And.intro (And.intro (@Tryz.underlying22) (@lv22)) (And.intro (@al22) (@ze22)))) (And.intro (And.intro (@ia22) (And.intro (@ss22) (@Tryz.underlying23))) (And.intro (And.intro (@lv23) (@al23)) (And.intro (@ze23) (@ia23)))))) (And.intro (And.intro (And.intro (And.intro (@ss23) (And.intro (@Tryz.underlying24) (@lv24))) (And.intro (And.intro (@al24) (@ze24)) (And.intro (@ia24) (@ss24)))) (And.intro (And.intro (@Tryz.underlying25) (And.intro (@lv25) (@al25))) (And.intro (And.intro (@ze25) (@ia25)) (And.intro (@ss25) (@Tryz.underlying26))))) (And.intro (And.intro (And.intro (@lv26) (And.intro (@al26) (@ze26))) (And.intro (And.intro (@ia26) (@ss26)) (And.intro (@Tryz.underlying27) (@lv27)))) (And.intro (And.intro (@al27) (And.intro (@ze27) (@ia27))) (And.intro (And.intro (@bv27) (@Tryz.underlying28)) (And.intro (@lv28) (@al28))))))) (And.intro (And.intro (And.intro (And.intro (And.intro (@ze28) (And.intro (@bv28) (@Tryz.underlying29))) (And.intro (@lv29) (And.intro (@al29) (@ze29)))) (And.intro (And.intro (@bv29) (And.intro (@Tryz.underlying30) (@lv30))) (And.intro (And.intro (@al30) (@ze30)) (And.intro (@ia30) (@bv30))))) (And.intro (And.intro (And.intro (@Tryz.underlying31) (And.intro (@lv31) (@al31))) (And.intro (And.intro (@ze31) (@ia31)) (And.intro (@bv31) (@Tryz.underlying33)))) (And.intro (And.intro (@lv33) (And.intro (@al33) (@ze33))) (And.intro (And.intro (@ia33) (@ss33)) (And.intro (@Tryz.underlying34) (@lv34)))))) (And.intro (And.intro (And.intro (And.intro (@al34) (And.intro (@ze34) (@ia34))) (And.intro (And.intro (@ss34) (@Tryz.underlying35)) (And.intro (@lv35) (@al35)))) (And.intro (And.intro (@ze35) (And.intro (@ia35) (@ss35))) (And.intro (And.intro (@Tryz.underlying36) (@lv36)) (And.intro (@al36) (@ze36))))) (And.intro (And.intro (And.intro (@bv36) (And.intro (@Tryz.underlying37) (@lv37))) (And.intro (And.intro (@al37) (@ze37)) (And.intro (@bv37) (@Tryz.underlying38)))) (And.intro (And.intro (@lv38) (And.intro (@al38) (@ze38))) (And.intro (And.intro (@ia38) (@ss38)) (And.intro (@Tryz.underlying39) (@lv39)))))))) (And.intro (And.intro (And.intro (And.intro (And.intro (And.intro (@al39) (And.intro (@ze39) (@bv39))) (And.intro (@Tryz.underlying40) (And.intro (@lv40) (@al40)))) (And.intro (And.intro (@ze40) (And.intro (@bv40) (@Tryz.underlying41))) (And.intro (And.intro (@lv41) (@al41)) (And.intro (@ze41) (@ia41))))) (And.intro (And.intro (And.intro (@ss41) (And.intro (@Tryz.underlying42) (@lv42))) (And.intro (And.intro (@al42) (@ze42)) (And.intro (@bv42) (@Tryz.underlying43)))) (And.intro (And.intro (@lv43) (And.intro (@al43) (@ze43))) (And.intro (And.intro (@bv43) (@Tryz.underlying44)) (And.intro (@lv44) (@al44)))))) (And.intro (And.intro (And.intro (And.intro (@ze44) (And.intro (@bv44) (@Tryz.underlying45))) (And.intro (And.intro (@lv45) (@al45)) (And.intro (@ze45) (@bv45)))) (And.intro (And.intro (@Tryz.underlying48) (And.intro (@lv48) (@al48))) (And.intro (And.intro (@ze48) (@ia48)) (And.intro (@bv48) (@Tryz.underlying49))))) (And.intro (And.intro (And.intro (@lv49) (And.intro (@al49) (@ze49))) (And.intro (And.intro (@ia49) (@ss49)) (And.intro (@Tryz.underlying50) (@lv50)))) (And.intro (And.intro (@al50) (And.intro (@ze50) (@Tryz.underlying64))) (And.intro (And.intro (@lv64) (@al64)) (And.intro (@ze64) (@Tryz.underlying74))))))) (And.intro (And.intro (And.intro (And.intro (And.intro (@lv74) (And.intro (@al74) (@ze74))) (And.intro (@ia74) (And.intro (@ss74) (@Tryz.underlying77)))) (And.intro (And.intro (@lv77) (And.intro (@al77) (@ze77))) (And.intro (And.intro (@bv77) (@Tryz.underlying78)) (And.intro (@lv78) (@al78))))) (And.intro (And.intro (And.intro (@ze78) (And.intro (@bv78) (@Tryz.underlying85))) (And.intro (And.intro (@lv85) (@al85)) (And.intro (@ze85) (@bv85)))) (And.intro (And.intro (@Tryz.underlying86) (And.intro (@lv86) (@al86))) (And.intro (And.intro (@ze86) (@bv86)) (And.intro (@Tryz.underlying87) (@lv87)))))) (And.intro (And.intro (And.intro (And.intro (@al87) (And.intro (@ze87) (@bv87))) (And.intro (And.intro (@Tryz.underlying88) (@lv88)) (And.intro (@al88) (@ze88)))) (And.intro (And.intro (@bv88) (And.intro (@Tryz.underlying116) (@lv116))) (And.intro (And.intro (@al116) (@ze116)) (And.intro (@ia116) (@bv116))))) (And.intro (And.intro (And.intro (@Tryz.underlying117) (And.intro (@lv117) (@al117))) (And.intro (And.intro (@ze117) (@ia117)) (And.intro (@bv117) (@natl)))) (And.intro (And.intro (@cv_u8_int) (And.intro (@cv_int_u8) (@cv_bytes))) (And.intro (And.intro (@cv_str) (@ix_str)) (And.intro (@ss_str) (@bq_bool))))))))
def bunAP := And.intro (And.intro (And.intro (@ap22) (And.intro (@ap23) (@ap24))) (And.intro (@ap25) (And.intro (@ap26) (@ap33)))) (And.intro (And.intro (@ap34) (And.intro (@ap35) (@ap38))) (And.intro (@ap41) (And.intro (@ap49) (@ap74))))
def bD := And.intro bunD bunFD
def bU := And.intro bunU bunFU
def bW := And.intro bU (And.intro bunAP @splice_succ)
theorem gS {p q : Prop} (x : q) (h : p = q := by simp (maxSteps := 1000000) (disch := first | exact dS | fail) only [↓bD, bW, reduceMul, reduceEqDiff, reduceAdd, Nat.reduceBEq, reduceIte]; exact rfl) : p := Eq.mpr h x
theorem gS1 {e p q : Prop} (z : e) (x : q) (h : e → p = q := by intro zz; simp (maxSteps := 1000000) (disch := first | exact dS | fail) only [↓bD, bW, reduceMul, reduceEqDiff, reduceAdd, Nat.reduceBEq, reduceIte, zz]; exact rfl) : p := Eq.mpr (h z) x
end Go.Proofs.G
namespace Go.Proofs.G
open Go Go.Ab
section
variable {fr : Fr} {σ : St} {x ix a v : Operand} {ve : Value}
theorem ld92 : LDo 92 := by unfold LDo; intros; kernel_rfl
theorem lv92 : LVo 92 := by unfold LVo; intros; kernel_rfl
theorem st92 : STn 92 1 := by unfold STn; intros; kernel_rfl
theorem al92 : nAlloc Tryz.prog 92 = some ([.pointer none], ptrTo) := by kernel_rfl
theorem ze92 : zero? Tryz.prog 92 = some (.pointer none) := by kernel_rfl
theorem ld93 : LDn 93 2 := by unfold LDn; intros; kernel_rfl
theorem lv93 : LVn 93 2 := by unfold LVn; intros; kernel_rfl
theorem st93 : STn 93 2 := by unfold STn; intros; kernel_rfl
theorem al93 : nAlloc Tryz.prog 93 = some ([.slice none 0 0, .int .i64 0], ptrTo) := by kernel_rfl
theorem ze93 : zero? Tryz.prog 93 = some (.agg ⟨[.slice none 0 0, .int .i64 0]⟩) := by kernel_rfl
theorem bu93 : pBuild Tryz.prog fr 93 #[] = some (.agg ⟨[.slice none 0 0, .int .i64 0]⟩) := by kernel_rfl
theorem bv93 {z : List Value} {ps : List (Nat × Value)} : buildV Tryz.prog 93 z ps = ob (fillL (fun i => [(0, 1), (1, 1)][i]?) ps z) fun l => some (.agg ⟨l⟩) := by kernel_rfl
theorem fa93_0 : FAo 93 0 := by unfold FAo; intros; kernel_rfl
theorem fi93_0 : FIo 93 0 0 := by unfold FIo; intros; kernel_rfl
theorem fa93_1 : FAn 93 1 1 := by unfold FAn; intros; kernel_rfl
theorem fi93_1 : FIo 93 1 1 := by unfold FIo; intros; kernel_rfl
theorem ld94 : LDn 94 2 := by unfold LDn; intros; kernel_rfl
theorem lv94 : LVn 94 2 := by unfold LVn; intros; kernel_rfl
theorem st94 : STn 94 2 := by unfold STn; intros; kernel_rfl
theorem al94 : nAlloc Tryz.prog 94 = some ([.slice none 0 0, .int .i64 0], ptrTo) := by kernel_rfl
theorem ze94 : zero? Tryz.prog 94 = some (.agg ⟨[.slice none 0 0, .int .i64 0]⟩) := by kernel_rfl
theorem bu94 : pBuild Tryz.prog fr 94 #[] = some (.agg ⟨[.slice none 0 0, .int .i64 0]⟩) := by kernel_rfl
theorem bv94 {z : List Value} {ps : List (Nat × Value)} : buildV Tryz.prog 94 z ps = ob (fillL (fun i => [(0, 1), (1, 1)][i]?) ps z) fun l => some (.agg ⟨l⟩) := by kernel_rfl
theorem fa94_0 : FAo 94 0 := by unfold FAo; intros; kernel_rfl
theorem fi94_0 : FIo 94 0 0 := by unfold FIo; intros; kernel_rfl
theorem fa94_1 : FAn 94 1 1 := by unfold FAn; intros; kernel_rfl
theorem fi94_1 : FIo 94 1 1 := by unfold FIo; intros; kernel_rfl
theorem ld160 : LDo 160 := by unfold LDo; intros; kernel_rfl
theorem lv160 : LVo 160 := by unfold LVo; intros; kernel_rfl
theorem st160 : STn 160 1 := by unfold STn; intros; kernel_rfl
theorem al160 : nAlloc Tryz.prog 160 = some ([.slice none 0 0], ptrTo) := by kernel_rfl
theorem ze160 : zero? Tryz.prog 160 = some (.slice none 0 0) := by kernel_rfl
theorem ia160 : IAs 160 2 := by unfold IAs; intros; kernel_rfl
theorem ap160 : APn 160 2 17 := by unfold APn; intros; kernel_rfl
theorem ss160 : SSn 160 2 := by unfold SSn; intros; kernel_rfl
theorem sl160 : SLn 160 2 [.int .i64 0, .int .i64 0] := by unfold SLn; intros; kernel_rfl
theorem mk160 : MKn 160 17 [.int .i64 0, .int .i64 0] := by unfold MKn; intros; kernel_rfl
theorem ld161 : LDo 161 := by unfold LDo; intros; kernel_rfl
theorem lv161 : LVo 161 := by unfold LVo; intros; kernel_rfl
theorem st161 : STn 161 1 := by unfold STn; intros; kernel_rfl
theorem al161 : nAlloc Tryz.prog 161 = some ([.slice none 0 0], ptrTo) := by kernel_rfl
theorem ze161 : zero? Tryz.prog 161 = some (.slice none 0 0) := by kernel_rfl
theorem ia161 : IAs 161 1 := by unfold IAs; intros; kernel_rfl
theorem ap161 : APn 161 1 2 := by unfold APn; intros; kernel_rfl
theorem ss161 : SSn 161 1 := by unfold SSn; intros; kernel_rfl
theorem sl161 : SLn 161 1 [.bool false] := by unfold SLn; intros; kernel_rfl
theorem mk161 : MKn 161 2 [.bool false] := by unfold MKn; intros; kernel_rfl
theorem ld178 : LDn 178 2 := by unfold LDn; intros; kernel_rfl
theorem lv178 : LVn 178 2 := by unfold LVn; intros; kernel_rfl
theorem st178 : STn 178 2 := by unfold STn; intros; kernel_rfl
theorem al178 : nAlloc Tryz.prog 178 = some ([.bool false, .slice none 0 0], ptrTo) := by kernel_rfl
theorem ze178 : zero? Tryz.prog 178 = some (.agg ⟨[.bool false, .slice none 0 0]⟩) := by kernel_rfl
theorem bu178 : pBuild Tryz.prog fr 178 #[] = some (.agg ⟨[.bool false, .slice none 0 0]⟩) := by kernel_rfl
theorem bv178 {z : List Value} {ps : List (Nat × Value)} : buildV Tryz.prog 178 z ps = ob (fillL (fun i => [(0, 1), (1, 1)][i]?) ps z) fun l => some (.agg ⟨l⟩) := by kernel_rfl
theorem fa178_0 : FAo 178 0 := by unfold FAo; intros; kernel_rfl
theorem fi178_0 : FIo 178 0 0 := by unfold FIo; intros; kernel_rfl
theorem fa178_1 : FAn 178 1 1 := by unfold FAn; intros; kernel_rfl
theorem fi178_1 : FIo 178 1 1 := by unfold FIo; intros; kernel_rfl
theorem ld179 : LDn 179 2 := by unfold LDn; intros; kernel_rfl
theorem lv179 : LVn 179 2 := by unfold LVn; intros; kernel_rfl
theorem st179 : STn 179 2 := by unfold STn; intros; kernel_rfl
theorem al179 : nAlloc Tryz.prog 179 = some ([.bool false, .slice none 0 0], ptrTo) := by kernel_rfl
theorem ze179 : zero? Tryz.prog 179 = some (.agg ⟨[.bool false, .slice none 0 0]⟩) := by kernel_rfl
theorem bu179 : pBuild Tryz.prog fr 179 #[] = some (.agg ⟨[.bool false, .slice none 0 0]⟩) := by kernel_rfl
theorem bv179 {z : List Value} {ps : List (Nat × Value)} : buildV Tryz.prog 179 z ps = ob (fillL (fun i => [(0, 1), (1, 1)][i]?) ps z) fun l => some (.agg ⟨l⟩) := by kernel_rfl
theorem fa179_0 : FAo 179 0 := by unfold FAo; intros; kernel_rfl
theorem fi179_0 : FIo 179 0 0 := by unfold FIo; intros; kernel_rfl
theorem fa179_1 : FAn 179 1 1 := by unfold FAn; intros; kernel_rfl
theorem fi179_1 : FIo 179 1 1 := by unfold FIo; intros; kernel_rfl
theorem ld200 : LDo 200 := by unfold LDo; intros; kernel_rfl
theorem lv200 : LVo 200 := by unfold LVo; intros; kernel_rfl
theorem st200 : STn 200 1 := by unfold STn; intros; kernel_rfl
theorem al200 : nAlloc Tryz.prog 200 = some ([.int .u64 0], ptrTo) := by kernel_rfl
theorem ze200 : zero? Tryz.prog 200 = some (.int .u64 0) := by kernel_rfl
end
end Go.Proofs.G
namespace Go.Proofs.G
open Go Go.Ab
theorem cv_i_u {σ : St} {n : Int} : convA Tryz.prog σ 3 200 (.int .i64 n) = some ⟨.int .u64 (IntKind.u64.wrap n), σ, .none⟩ := by kernel_rfl
theorem cv_u_i {σ : St} {n : Int} : convA Tryz.prog σ 200 3 (.int .u64 n) = some ⟨.int .i64 (IntKind.i64.wrap n), σ, .none⟩ := by kernel_rfl
end Go.Proofs.G
namespace Go.Proofs.G
open Go Go.Ab
open Nat (reduceMul reduceEqDiff reduceAdd)
set_option linter.defProp false
def bunGD := And.intro (And.intro (And.intro (And.intro (And.intro (@ld92) (@st92)) (And.intro (@ld93) (And.intro (@st93) (@bu93)))) (And.intro (And.intro (@fa93_0) (@fi93_0)) (And.intro (@fa93_1) (And.intro (@fi93_1) (@ld94))))) (And.intro (And.intro (And.intro (@st94) (@bu94)) (And.intro (@fa94_0) (And.intro (@fi94_0) (@fa94_1)))) (And.intro (And.intro (@fi94_1) (@ld160)) (And.intro (@st160) (And.intro (@sl160) (@mk160)))))) (And.intro (And.intro (And.intro (And.intro (@ld161) (@st161)) (And.intro (@sl161) (And.intro (@mk161) (@ld178)))) (And.intro (And.intro (@st178) (@bu178)) (And.intro (@fa178_0) (And.intro (@fi178_0) (@fa178_1))))) (And.intro (And.intro (And.intro (@fi178_1) (@ld179)) (And.intro (@st179) (And.intro (@bu179) (@fa179_0)))) (And.intro (And.intro (@fi179_0) (@fa179_1)) (And.intro (@fi179_1) (And.intro (@ld200) (@st200))))))
def bunGU := And.intro (And.intro (And.intro (And.intro (And.intro (@Tryz.underlying92) (@lv92)) (And.intro (@al92) (And.intro (@ze92) (@Tryz.underlying93)))) (And.intro (And.intro (@lv93) (And.intro (@al93) (@ze93))) (And.intro (@bv93) (And.intro (@Tryz.underlying94) (@lv94))))) (And.intro (And.intro (And.intro (@al94) (@ze94)) (And.intro (@bv94) (And.intro (@Tryz.underlying160) (@lv160)))) (And.intro (And.intro (@al160) (And.intro (@ze160) (@ia160))) (And.intro (@ap160) (And.intro (@ss160) (@Tryz.underlying161)))))) (And.intro (And.intro (And.intro (And.intro (@lv161) (@al161)) (And.intro (@ze161) (And.intro (@ia161) (@ap161)))) (And.intro (And.intro (@ss161) (And.intro (@Tryz.underlying178) (@lv178))) (And.intro (@al178) (And.intro (@ze178) (@bv178))))) (And.intro (And.intro (And.intro (@Tryz.underlying179) (@lv179)) (And.intro (@al179) (And.intro (@ze179) (@bv179)))) (And.intro (And.intro (@Tryz.underlying200) (And.intro (@lv200) (@al200))) (And.intro (@ze200) (And.intro (@cv_i_u) (@cv_u_i))))))
def bD2 := And.intro bD bunGD
def bU2 := And.intro bU bunGU
def bW2 := And.intro bW bunGU
theorem gT {p q : Prop} (x : q) (h : p = q := by simp (maxSteps := 1000000) (disch := first | exact dS | fail) only [↓bD2, bW2, reduceMul, reduceEqDiff, reduceAdd, Nat.reduceBEq, reduceIte]; exact rfl) : p := Eq.mpr h x
theorem gT1 {e p q : Prop} (z : e) (x : q) (h : e → p = q := by intro zz; simp (maxSteps := 1000000) (disch := first | exact dS | fail) only [↓bD2, bW2, reduceMul, reduceEqDiff, reduceAdd, Nat.reduceBEq, reduceIte, zz]; exact rfl) : p := Eq.mpr (h z) x
end Go.Proofs.G
namespace Go.Proofs.G
open Go Go.Ab
section
variable {fr : Fr} {σ : St} {x ix a v : Operand} {ve : Value}
theorem ld63 : LDn 63 2 := by unfold LDn; intros; kernel_rfl
theorem lv63 : LVn 63 2 := by unfold LVn; intros; kernel_rfl
theorem st63 : STn 63 2 := by unfold STn; intros; kernel_rfl
theorem al63 : nAlloc Tryz.prog 63 = some ([.int .u8 0, .int .u8 0], ptrTo) := by kernel_rfl
theorem ze63 : zero? Tryz.prog 63 = some (.agg ⟨[.int .u8 0, .int .u8 0]⟩) := by kernel_rfl
theorem bu63 : pBuild Tryz.prog fr 63 #[] = some (.agg ⟨[.int .u8 0, .int .u8 0]⟩) := by kernel_rfl
theorem ia63 {b off i : Nat} : indexAddrV Tryz.prog 63 (.pointer (some ⟨b, off, none⟩)) i = bb (Nat.blt i 2) (some (.pointer (some ⟨b, off + i * 1, none⟩))) := by kernel_rfl
theorem bv63 : BVn 63 1 1 := by unfold BVn; intros; kernel_rfl
theorem ld65 : LDo 65 := by unfold LDo; intros; kernel_rfl
theorem lv65 : LVo 65 := by unfold LVo; intros; kernel_rfl
theorem st65 : STn 65 1 := by unfold STn; intros; kernel_rfl
theorem al65 : nAlloc Tryz.prog 65 = some ([.slice none 0 0], ptrTo) := by kernel_rfl
theorem ze65 : zero? Tryz.prog 65 = some (.slice none 0 0) := by kernel_rfl
theorem ia65 : IAs 65 1 := by unfold IAs; intros; kernel_rfl
theorem ap65 : APn 65 1 9 := by unfold APn; intros; kernel_rfl
theorem ss65 : SSn 65 1 := by unfold SSn; intros; kernel_rfl
theorem sl65 : SLn 65 1 [.pointer none] := by unfold SLn; intros; kernel_rfl
theorem mk65 : MKn 65 9 [.pointer none] := by unfold MKn; intros; kernel_rfl
end
end Go.Proofs.G
namespace Go.Proofs.G
open Go Go.Ab
section
variable {fr : Fr} {σ : St} {x ix a v : Operand} {ve : Value}
theorem ld60 : LDo 60 := by unfold LDo; intros; kernel_rfl
theorem lv60 : LVo 60 := by unfold LVo; intros; kernel_rfl
theorem st60 : STn 60 1 := by unfold STn; intros; kernel_rfl
theorem al60 : nAlloc Tryz.prog 60 = some ([.int .u16 0], ptrTo) := by kernel_rfl
theorem ze60 : zero? Tryz.prog 60 = some (.int .u16 0) := by kernel_rfl
theorem ld61 : LDn 61 5 := by unfold LDn; intros; kernel_rfl
theorem lv61 : LVn 61 5 := by unfold LVn; intros; kernel_rfl
theorem st61 : STn 61 5 := by unfold STn; intros; kernel_rfl
theorem al61 : nAlloc Tryz.prog 61 = some ([.int .u16 0, .int .u16 0, .int .u16 0, .int .u16 0, .int .u16 0], ptrTo) := by kernel_rfl
theorem ze61 : zero? Tryz.prog 61 = some (.agg ⟨[.int .u16 0, .int .u16 0, .int .u16 0, .int .u16 0, .int .u16 0]⟩) := by kernel_rfl
theorem bu61 : pBuild Tryz.prog fr 61 #[] = some (.agg ⟨[.int .u16 0, .int .u16 0, .int .u16 0, .int .u16 0, .int .u16 0]⟩) := by kernel_rfl
theorem ia61 {b off i : Nat} : indexAddrV Tryz.prog 61 (.pointer (some ⟨b, off, none⟩)) i = bb (Nat.blt i 5) (some (.pointer (some ⟨b, off + i * 1, none⟩))) := by kernel_rfl
theorem bv61 : BVn 61 1 1 := by unfold BVn; intros; kernel_rfl
end
end Go.Proofs.G
