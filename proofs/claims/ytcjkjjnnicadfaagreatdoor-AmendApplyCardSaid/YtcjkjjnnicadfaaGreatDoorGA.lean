/- Facts on the types of the translation. -/
import Derived.Test.YtcjkjjnnicadfaaGreatDoorAbD
import Derived.Test.YtcjkjjnnicadfaaGreatDoorProg
import Derived.KernelRfl
set_option linter.unusedSimpArgs false
set_option linter.unusedVariables false
namespace Go.Proofs.G
open Go Go.Ab
section
variable {fr : Fr} {σ : St} {x ix a v : Operand} {ve : Value}
theorem ld3 : rLoad Tryz.prog fr σ 3 a = ob (ev fr a) fun v => ob (at? v) fun p => pr p fun b off => ob (ob (σ.read b off 1) oneV) fun v => some (v, ⟨b, off, 1⟩) := by kernel_rfl
theorem lv3 {b off : Nat} : loadV Tryz.prog σ 3 (.pointer (some ⟨b, off, none⟩)) = ob (σ.read b off 1) oneV := by kernel_rfl
theorem st3 : eStore Tryz.prog fr σ 3 a v = ob (ev fr a) fun a => ob (ev fr v) fun v => ob (ob (at? a) fun p => pr p fun b off => bi (isTup v) none (bb ((cellsL v).length.beq 1) (σ.write b off (cellsL v)))) fun σ => some (undefV, σ) := by kernel_rfl
theorem al3 : nAlloc Tryz.prog 3 = some ([.int .i64 0], ptrTo) := by kernel_rfl
theorem ze3 : zero? Tryz.prog 3 = some (.int .i64 0) := by kernel_rfl
theorem ld4 : rLoad Tryz.prog fr σ 4 a = ob (ev fr a) fun v => ob (at? v) fun p => pr p fun b off => ob (ob (σ.read b off 1) oneV) fun v => some (v, ⟨b, off, 1⟩) := by kernel_rfl
theorem lv4 {b off : Nat} : loadV Tryz.prog σ 4 (.pointer (some ⟨b, off, none⟩)) = ob (σ.read b off 1) oneV := by kernel_rfl
theorem st4 : eStore Tryz.prog fr σ 4 a v = ob (ev fr a) fun a => ob (ev fr v) fun v => ob (ob (at? a) fun p => pr p fun b off => bi (isTup v) none (bb ((cellsL v).length.beq 1) (σ.write b off (cellsL v)))) fun σ => some (undefV, σ) := by kernel_rfl
theorem al4 : nAlloc Tryz.prog 4 = some ([.bool false], ptrTo) := by kernel_rfl
theorem ze4 : zero? Tryz.prog 4 = some (.bool false) := by kernel_rfl
theorem ld5 : rLoad Tryz.prog fr σ 5 a = ob (ev fr a) fun v => ob (at? v) fun p => pr p fun b off => ob (ob (σ.read b off 1) oneV) fun v => some (v, ⟨b, off, 1⟩) := by kernel_rfl
theorem lv5 {b off : Nat} : loadV Tryz.prog σ 5 (.pointer (some ⟨b, off, none⟩)) = ob (σ.read b off 1) oneV := by kernel_rfl
theorem st5 : eStore Tryz.prog fr σ 5 a v = ob (ev fr a) fun a => ob (ev fr v) fun v => ob (ob (at? a) fun p => pr p fun b off => bi (isTup v) none (bb ((cellsL v).length.beq 1) (σ.write b off (cellsL v)))) fun σ => some (undefV, σ) := by kernel_rfl
theorem al5 : nAlloc Tryz.prog 5 = some ([.int .u8 0], ptrTo) := by kernel_rfl
theorem ze5 : zero? Tryz.prog 5 = some (.int .u8 0) := by kernel_rfl
theorem ld9 : rLoad Tryz.prog fr σ 9 a = ob (ev fr a) fun v => ob (at? v) fun p => pr p fun b off => ob (ob (σ.read b off 1) oneV) fun v => some (v, ⟨b, off, 1⟩) := by kernel_rfl
theorem lv9 {b off : Nat} : loadV Tryz.prog σ 9 (.pointer (some ⟨b, off, none⟩)) = ob (σ.read b off 1) oneV := by kernel_rfl
theorem st9 : eStore Tryz.prog fr σ 9 a v = ob (ev fr a) fun a => ob (ev fr v) fun v => ob (ob (at? a) fun p => pr p fun b off => bi (isTup v) none (bb ((cellsL v).length.beq 1) (σ.write b off (cellsL v)))) fun σ => some (undefV, σ) := by kernel_rfl
theorem al9 : nAlloc Tryz.prog 9 = some ([str []], ptrTo) := by kernel_rfl
theorem ze9 : zero? Tryz.prog 9 = some (str []) := by kernel_rfl
theorem ld22 : rLoad Tryz.prog fr σ 22 a = ob (ev fr a) fun v => ob (at? v) fun p => pr p fun b off => ob (ob (σ.read b off 1) oneV) fun v => some (v, ⟨b, off, 1⟩) := by kernel_rfl
theorem lv22 {b off : Nat} : loadV Tryz.prog σ 22 (.pointer (some ⟨b, off, none⟩)) = ob (σ.read b off 1) oneV := by kernel_rfl
theorem st22 : eStore Tryz.prog fr σ 22 a v = ob (ev fr a) fun a => ob (ev fr v) fun v => ob (ob (at? a) fun p => pr p fun b off => bi (isTup v) none (bb ((cellsL v).length.beq 1) (σ.write b off (cellsL v)))) fun σ => some (undefV, σ) := by kernel_rfl
theorem al22 : nAlloc Tryz.prog 22 = some ([.slice none 0 0], ptrTo) := by kernel_rfl
theorem ze22 : zero? Tryz.prog 22 = some (.slice none 0 0) := by kernel_rfl
theorem ia22 {b off len cap i : Nat} {s : Option Nat} : indexAddrV Tryz.prog 22 (.slice (some ⟨b, off, s⟩) len cap) i = bb (Nat.blt i len) (some (.pointer (some ⟨b, off + i * 2, none⟩))) := by kernel_rfl
theorem ap22 {b : Option Addr} {len cap : Nat} {w : Value} : appendV Tryz.prog σ 22 (.slice b len cap) w = ob (srcCells σ 2 w) fun p => pr p fun n new => bi (Nat.ble (len + n) cap) (appendIn σ 2 b len cap n new) (bb (Nat.ble ((len + n) * 17) room) (appendNew σ 2 b len n new)) := by kernel_rfl
theorem ss22 {b : Option Addr} {len cap : Nat} {lo hi : Option Value} : sliceV Tryz.prog 22 (.slice b len cap) lo hi = ob (bnds len cap lo hi) fun p => pr p fun lo hi => sliceAt 2 b lo hi cap := by kernel_rfl
theorem sl22 {len : Nat} {parts : Array (Nat × Operand)} : nSlice Tryz.prog fr 22 len parts = ob (evs fr (parts.toList.map (·.2))) fun vs => bb (Nat.ble (len * 2) 16777216) (ob (fillL (fun i => some (i * 2, 2)) ((parts.toList.map (·.1)).zip vs) (rep [.int .i64 0, .int .i64 0] len)) fun l => some (l, fun n => .slice (some ⟨n, 0, none⟩) len len)) := by kernel_rfl
theorem mk22 {l c : Operand} : nMake Tryz.prog fr 22 l c = ob (evN fr l) fun l => ob (evN fr c) fun c => bb (Nat.ble l c) (bb (Nat.ble (c * 17) room) (some (rep [.int .i64 0, .int .i64 0] c, fun n => .slice (some ⟨n, 0, none⟩) l c))) := by kernel_rfl
theorem ld23 : rLoad Tryz.prog fr σ 23 a = ob (ev fr a) fun v => ob (at? v) fun p => pr p fun b off => ob (ob (σ.read b off 1) oneV) fun v => some (v, ⟨b, off, 1⟩) := by kernel_rfl
theorem lv23 {b off : Nat} : loadV Tryz.prog σ 23 (.pointer (some ⟨b, off, none⟩)) = ob (σ.read b off 1) oneV := by kernel_rfl
theorem st23 : eStore Tryz.prog fr σ 23 a v = ob (ev fr a) fun a => ob (ev fr v) fun v => ob (ob (at? a) fun p => pr p fun b off => bi (isTup v) none (bb ((cellsL v).length.beq 1) (σ.write b off (cellsL v)))) fun σ => some (undefV, σ) := by kernel_rfl
theorem al23 : nAlloc Tryz.prog 23 = some ([.slice none 0 0], ptrTo) := by kernel_rfl
theorem ze23 : zero? Tryz.prog 23 = some (.slice none 0 0) := by kernel_rfl
theorem ia23 {b off len cap i : Nat} {s : Option Nat} : indexAddrV Tryz.prog 23 (.slice (some ⟨b, off, s⟩) len cap) i = bb (Nat.blt i len) (some (.pointer (some ⟨b, off + i * 4, none⟩))) := by kernel_rfl
theorem ap23 {b : Option Addr} {len cap : Nat} {w : Value} : appendV Tryz.prog σ 23 (.slice b len cap) w = ob (srcCells σ 4 w) fun p => pr p fun n new => bi (Nat.ble (len + n) cap) (appendIn σ 4 b len cap n new) (bb (Nat.ble ((len + n) * 33) room) (appendNew σ 4 b len n new)) := by kernel_rfl
theorem ss23 {b : Option Addr} {len cap : Nat} {lo hi : Option Value} : sliceV Tryz.prog 23 (.slice b len cap) lo hi = ob (bnds len cap lo hi) fun p => pr p fun lo hi => sliceAt 4 b lo hi cap := by kernel_rfl
theorem sl23 {len : Nat} {parts : Array (Nat × Operand)} : nSlice Tryz.prog fr 23 len parts = ob (evs fr (parts.toList.map (·.2))) fun vs => bb (Nat.ble (len * 4) 16777216) (ob (fillL (fun i => some (i * 4, 4)) ((parts.toList.map (·.1)).zip vs) (rep [.int .i64 0, .int .i64 0, .int .i64 0, .int .i64 0] len)) fun l => some (l, fun n => .slice (some ⟨n, 0, none⟩) len len)) := by kernel_rfl
theorem mk23 {l c : Operand} : nMake Tryz.prog fr 23 l c = ob (evN fr l) fun l => ob (evN fr c) fun c => bb (Nat.ble l c) (bb (Nat.ble (c * 33) room) (some (rep [.int .i64 0, .int .i64 0, .int .i64 0, .int .i64 0] c, fun n => .slice (some ⟨n, 0, none⟩) l c))) := by kernel_rfl
theorem ld24 : rLoad Tryz.prog fr σ 24 a = ob (ev fr a) fun v => ob (at? v) fun p => pr p fun b off => ob (ob (σ.read b off 1) oneV) fun v => some (v, ⟨b, off, 1⟩) := by kernel_rfl
theorem lv24 {b off : Nat} : loadV Tryz.prog σ 24 (.pointer (some ⟨b, off, none⟩)) = ob (σ.read b off 1) oneV := by kernel_rfl
theorem st24 : eStore Tryz.prog fr σ 24 a v = ob (ev fr a) fun a => ob (ev fr v) fun v => ob (ob (at? a) fun p => pr p fun b off => bi (isTup v) none (bb ((cellsL v).length.beq 1) (σ.write b off (cellsL v)))) fun σ => some (undefV, σ) := by kernel_rfl
theorem al24 : nAlloc Tryz.prog 24 = some ([.slice none 0 0], ptrTo) := by kernel_rfl
theorem ze24 : zero? Tryz.prog 24 = some (.slice none 0 0) := by kernel_rfl
theorem ia24 {b off len cap i : Nat} {s : Option Nat} : indexAddrV Tryz.prog 24 (.slice (some ⟨b, off, s⟩) len cap) i = bb (Nat.blt i len) (some (.pointer (some ⟨b, off + i * 3, none⟩))) := by kernel_rfl
theorem ap24 {b : Option Addr} {len cap : Nat} {w : Value} : appendV Tryz.prog σ 24 (.slice b len cap) w = ob (srcCells σ 3 w) fun p => pr p fun n new => bi (Nat.ble (len + n) cap) (appendIn σ 3 b len cap n new) (bb (Nat.ble ((len + n) * 25) room) (appendNew σ 3 b len n new)) := by kernel_rfl
theorem ss24 {b : Option Addr} {len cap : Nat} {lo hi : Option Value} : sliceV Tryz.prog 24 (.slice b len cap) lo hi = ob (bnds len cap lo hi) fun p => pr p fun lo hi => sliceAt 3 b lo hi cap := by kernel_rfl
theorem sl24 {len : Nat} {parts : Array (Nat × Operand)} : nSlice Tryz.prog fr 24 len parts = ob (evs fr (parts.toList.map (·.2))) fun vs => bb (Nat.ble (len * 3) 16777216) (ob (fillL (fun i => some (i * 3, 3)) ((parts.toList.map (·.1)).zip vs) (rep [.int .i64 0, .int .i64 0, .int .i64 0] len)) fun l => some (l, fun n => .slice (some ⟨n, 0, none⟩) len len)) := by kernel_rfl
theorem mk24 {l c : Operand} : nMake Tryz.prog fr 24 l c = ob (evN fr l) fun l => ob (evN fr c) fun c => bb (Nat.ble l c) (bb (Nat.ble (c * 25) room) (some (rep [.int .i64 0, .int .i64 0, .int .i64 0] c, fun n => .slice (some ⟨n, 0, none⟩) l c))) := by kernel_rfl
theorem ld25 : rLoad Tryz.prog fr σ 25 a = ob (ev fr a) fun v => ob (at? v) fun p => pr p fun b off => ob (ob (σ.read b off 1) oneV) fun v => some (v, ⟨b, off, 1⟩) := by kernel_rfl
theorem lv25 {b off : Nat} : loadV Tryz.prog σ 25 (.pointer (some ⟨b, off, none⟩)) = ob (σ.read b off 1) oneV := by kernel_rfl
theorem st25 : eStore Tryz.prog fr σ 25 a v = ob (ev fr a) fun a => ob (ev fr v) fun v => ob (ob (at? a) fun p => pr p fun b off => bi (isTup v) none (bb ((cellsL v).length.beq 1) (σ.write b off (cellsL v)))) fun σ => some (undefV, σ) := by kernel_rfl
theorem al25 : nAlloc Tryz.prog 25 = some ([.slice none 0 0], ptrTo) := by kernel_rfl
theorem ze25 : zero? Tryz.prog 25 = some (.slice none 0 0) := by kernel_rfl
theorem ia25 {b off len cap i : Nat} {s : Option Nat} : indexAddrV Tryz.prog 25 (.slice (some ⟨b, off, s⟩) len cap) i = bb (Nat.blt i len) (some (.pointer (some ⟨b, off + i * 1, none⟩))) := by kernel_rfl
theorem ap25 {b : Option Addr} {len cap : Nat} {w : Value} : appendV Tryz.prog σ 25 (.slice b len cap) w = ob (srcCells σ 1 w) fun p => pr p fun n new => bi (Nat.ble (len + n) cap) (appendIn σ 1 b len cap n new) (bb (Nat.ble ((len + n) * 9) room) (appendNew σ 1 b len n new)) := by kernel_rfl
theorem ss25 {b : Option Addr} {len cap : Nat} {lo hi : Option Value} : sliceV Tryz.prog 25 (.slice b len cap) lo hi = ob (bnds len cap lo hi) fun p => pr p fun lo hi => sliceAt 1 b lo hi cap := by kernel_rfl
theorem sl25 {len : Nat} {parts : Array (Nat × Operand)} : nSlice Tryz.prog fr 25 len parts = ob (evs fr (parts.toList.map (·.2))) fun vs => bb (Nat.ble (len * 1) 16777216) (ob (fillL (fun i => some (i * 1, 1)) ((parts.toList.map (·.1)).zip vs) (rep [.int .i64 0] len)) fun l => some (l, fun n => .slice (some ⟨n, 0, none⟩) len len)) := by kernel_rfl
theorem mk25 {l c : Operand} : nMake Tryz.prog fr 25 l c = ob (evN fr l) fun l => ob (evN fr c) fun c => bb (Nat.ble l c) (bb (Nat.ble (c * 9) room) (some (rep [.int .i64 0] c, fun n => .slice (some ⟨n, 0, none⟩) l c))) := by kernel_rfl
theorem ld26 : rLoad Tryz.prog fr σ 26 a = ob (ev fr a) fun v => ob (at? v) fun p => pr p fun b off => ob (ob (σ.read b off 1) oneV) fun v => some (v, ⟨b, off, 1⟩) := by kernel_rfl
theorem lv26 {b off : Nat} : loadV Tryz.prog σ 26 (.pointer (some ⟨b, off, none⟩)) = ob (σ.read b off 1) oneV := by kernel_rfl
theorem st26 : eStore Tryz.prog fr σ 26 a v = ob (ev fr a) fun a => ob (ev fr v) fun v => ob (ob (at? a) fun p => pr p fun b off => bi (isTup v) none (bb ((cellsL v).length.beq 1) (σ.write b off (cellsL v)))) fun σ => some (undefV, σ) := by kernel_rfl
theorem al26 : nAlloc Tryz.prog 26 = some ([.slice none 0 0], ptrTo) := by kernel_rfl
theorem ze26 : zero? Tryz.prog 26 = some (.slice none 0 0) := by kernel_rfl
theorem ia26 {b off len cap i : Nat} {s : Option Nat} : indexAddrV Tryz.prog 26 (.slice (some ⟨b, off, s⟩) len cap) i = bb (Nat.blt i len) (some (.pointer (some ⟨b, off + i * 1, none⟩))) := by kernel_rfl
theorem ap26 {b : Option Addr} {len cap : Nat} {w : Value} : appendV Tryz.prog σ 26 (.slice b len cap) w = ob (srcCells σ 1 w) fun p => pr p fun n new => bi (Nat.ble (len + n) cap) (appendIn σ 1 b len cap n new) (bb (Nat.ble ((len + n) * 25) room) (appendNew σ 1 b len n new)) := by kernel_rfl
theorem ss26 {b : Option Addr} {len cap : Nat} {lo hi : Option Value} : sliceV Tryz.prog 26 (.slice b len cap) lo hi = ob (bnds len cap lo hi) fun p => pr p fun lo hi => sliceAt 1 b lo hi cap := by kernel_rfl
theorem sl26 {len : Nat} {parts : Array (Nat × Operand)} : nSlice Tryz.prog fr 26 len parts = ob (evs fr (parts.toList.map (·.2))) fun vs => bb (Nat.ble (len * 1) 16777216) (ob (fillL (fun i => some (i * 1, 1)) ((parts.toList.map (·.1)).zip vs) (rep [.slice none 0 0] len)) fun l => some (l, fun n => .slice (some ⟨n, 0, none⟩) len len)) := by kernel_rfl
theorem mk26 {l c : Operand} : nMake Tryz.prog fr 26 l c = ob (evN fr l) fun l => ob (evN fr c) fun c => bb (Nat.ble l c) (bb (Nat.ble (c * 25) room) (some (rep [.slice none 0 0] c, fun n => .slice (some ⟨n, 0, none⟩) l c))) := by kernel_rfl
theorem ld27 : rLoad Tryz.prog fr σ 27 a = ob (ev fr a) fun v => ob (at? v) fun p => pr p fun b off => ob (ob (σ.read b off 10) fun cs => some (.agg ⟨cs⟩)) fun v => some (v, ⟨b, off, 10⟩) := by kernel_rfl
theorem lv27 {b off : Nat} : loadV Tryz.prog σ 27 (.pointer (some ⟨b, off, none⟩)) = ob (σ.read b off 10) fun cs => some (.agg ⟨cs⟩) := by kernel_rfl
theorem st27 : eStore Tryz.prog fr σ 27 a v = ob (ev fr a) fun a => ob (ev fr v) fun v => ob (ob (at? a) fun p => pr p fun b off => bi (isTup v) none (bb ((cellsL v).length.beq 10) (σ.write b off (cellsL v)))) fun σ => some (undefV, σ) := by kernel_rfl
theorem al27 : nAlloc Tryz.prog 27 = some ([.int .i64 0, .int .i64 0, .int .i64 0, .int .i64 0, .int .i64 0, .int .i64 0, .int .i64 0, .int .i64 0, .int .i64 0, .int .i64 0], ptrTo) := by kernel_rfl
theorem ze27 : zero? Tryz.prog 27 = some (.agg ⟨[.int .i64 0, .int .i64 0, .int .i64 0, .int .i64 0, .int .i64 0, .int .i64 0, .int .i64 0, .int .i64 0, .int .i64 0, .int .i64 0]⟩) := by kernel_rfl
theorem bu27 : pBuild Tryz.prog fr 27 #[] = some (.agg ⟨[.int .i64 0, .int .i64 0, .int .i64 0, .int .i64 0, .int .i64 0, .int .i64 0, .int .i64 0, .int .i64 0, .int .i64 0, .int .i64 0]⟩) := by kernel_rfl
theorem ia27 {b off i : Nat} : indexAddrV Tryz.prog 27 (.pointer (some ⟨b, off, none⟩)) i = bb (Nat.blt i 10) (some (.pointer (some ⟨b, off + i * 1, none⟩))) := by kernel_rfl
theorem bv27 {z : List Value} {ps : List (Nat × Value)} : buildV Tryz.prog 27 z ps = ob (fillL (fun i => some (i * 1, 1)) ps z) fun l => some (.agg ⟨l⟩) := by kernel_rfl
theorem ld28 : rLoad Tryz.prog fr σ 28 a = ob (ev fr a) fun v => ob (at? v) fun p => pr p fun b off => ob (ob (σ.read b off 16) fun cs => some (.agg ⟨cs⟩)) fun v => some (v, ⟨b, off, 16⟩) := by kernel_rfl
theorem lv28 {b off : Nat} : loadV Tryz.prog σ 28 (.pointer (some ⟨b, off, none⟩)) = ob (σ.read b off 16) fun cs => some (.agg ⟨cs⟩) := by kernel_rfl
theorem st28 : eStore Tryz.prog fr σ 28 a v = ob (ev fr a) fun a => ob (ev fr v) fun v => ob (ob (at? a) fun p => pr p fun b off => bi (isTup v) none (bb ((cellsL v).length.beq 16) (σ.write b off (cellsL v)))) fun σ => some (undefV, σ) := by kernel_rfl
theorem al28 : nAlloc Tryz.prog 28 = some ([.slice none 0 0, .slice none 0 0, .slice none 0 0, .slice none 0 0, .slice none 0 0, .slice none 0 0, .int .i64 0, .int .i64 0, .int .i64 0, .int .i64 0, .int .i64 0, .int .i64 0, .int .i64 0, .int .i64 0, .int .i64 0, .int .i64 0], ptrTo) := by kernel_rfl
theorem ze28 : zero? Tryz.prog 28 = some (.agg ⟨[.slice none 0 0, .slice none 0 0, .slice none 0 0, .slice none 0 0, .slice none 0 0, .slice none 0 0, .int .i64 0, .int .i64 0, .int .i64 0, .int .i64 0, .int .i64 0, .int .i64 0, .int .i64 0, .int .i64 0, .int .i64 0, .int .i64 0]⟩) := by kernel_rfl
theorem bu28 : pBuild Tryz.prog fr 28 #[] = some (.agg ⟨[.slice none 0 0, .slice none 0 0, .slice none 0 0, .slice none 0 0, .slice none 0 0, .slice none 0 0, .int .i64 0, .int .i64 0, .int .i64 0, .int .i64 0, .int .i64 0, .int .i64 0, .int .i64 0, .int .i64 0, .int .i64 0, .int .i64 0]⟩) := by kernel_rfl
theorem bv28 {z : List Value} {ps : List (Nat × Value)} : buildV Tryz.prog 28 z ps = ob (fillL (fun i => [(0, 1), (1, 1), (2, 1), (3, 1), (4, 1), (5, 1), (6, 10)][i]?) ps z) fun l => some (.agg ⟨l⟩) := by kernel_rfl
theorem fa28_0 : pFieldAddr Tryz.prog fr 28 x 0 = ob (ev fr x) fun v => ob (at? v) fun p => pr p fun b off => some (.pointer (some ⟨b, off, none⟩)) := by kernel_rfl
theorem fi28_0 : pField Tryz.prog fr 28 x 0 = ob (ev fr x) fun v => ob (agg? v) fun cs => ob (sub cs 0 1) oneV := by kernel_rfl
theorem fa28_1 : pFieldAddr Tryz.prog fr 28 x 1 = ob (ev fr x) fun v => ob (at? v) fun p => pr p fun b off => some (.pointer (some ⟨b, off + 1, none⟩)) := by kernel_rfl
theorem fi28_1 : pField Tryz.prog fr 28 x 1 = ob (ev fr x) fun v => ob (agg? v) fun cs => ob (sub cs 1 1) oneV := by kernel_rfl
theorem fa28_2 : pFieldAddr Tryz.prog fr 28 x 2 = ob (ev fr x) fun v => ob (at? v) fun p => pr p fun b off => some (.pointer (some ⟨b, off + 2, none⟩)) := by kernel_rfl
theorem fi28_2 : pField Tryz.prog fr 28 x 2 = ob (ev fr x) fun v => ob (agg? v) fun cs => ob (sub cs 2 1) oneV := by kernel_rfl
theorem fa28_3 : pFieldAddr Tryz.prog fr 28 x 3 = ob (ev fr x) fun v => ob (at? v) fun p => pr p fun b off => some (.pointer (some ⟨b, off + 3, none⟩)) := by kernel_rfl
theorem fi28_3 : pField Tryz.prog fr 28 x 3 = ob (ev fr x) fun v => ob (agg? v) fun cs => ob (sub cs 3 1) oneV := by kernel_rfl
theorem fa28_4 : pFieldAddr Tryz.prog fr 28 x 4 = ob (ev fr x) fun v => ob (at? v) fun p => pr p fun b off => some (.pointer (some ⟨b, off + 4, none⟩)) := by kernel_rfl
theorem fi28_4 : pField Tryz.prog fr 28 x 4 = ob (ev fr x) fun v => ob (agg? v) fun cs => ob (sub cs 4 1) oneV := by kernel_rfl
theorem fa28_5 : pFieldAddr Tryz.prog fr 28 x 5 = ob (ev fr x) fun v => ob (at? v) fun p => pr p fun b off => some (.pointer (some ⟨b, off + 5, none⟩)) := by kernel_rfl
theorem fi28_5 : pField Tryz.prog fr 28 x 5 = ob (ev fr x) fun v => ob (agg? v) fun cs => ob (sub cs 5 1) oneV := by kernel_rfl
theorem fa28_6 : pFieldAddr Tryz.prog fr 28 x 6 = ob (ev fr x) fun v => ob (at? v) fun p => pr p fun b off => some (.pointer (some ⟨b, off + 6, none⟩)) := by kernel_rfl
theorem fi28_6 : pField Tryz.prog fr 28 x 6 = ob (ev fr x) fun v => ob (agg? v) fun cs => ob (sub cs 6 10) fun l => some (.agg ⟨l⟩) := by kernel_rfl
theorem ld29 : rLoad Tryz.prog fr σ 29 a = ob (ev fr a) fun v => ob (at? v) fun p => pr p fun b off => ob (ob (σ.read b off 16) fun cs => some (.agg ⟨cs⟩)) fun v => some (v, ⟨b, off, 16⟩) := by kernel_rfl
theorem lv29 {b off : Nat} : loadV Tryz.prog σ 29 (.pointer (some ⟨b, off, none⟩)) = ob (σ.read b off 16) fun cs => some (.agg ⟨cs⟩) := by kernel_rfl
theorem st29 : eStore Tryz.prog fr σ 29 a v = ob (ev fr a) fun a => ob (ev fr v) fun v => ob (ob (at? a) fun p => pr p fun b off => bi (isTup v) none (bb ((cellsL v).length.beq 16) (σ.write b off (cellsL v)))) fun σ => some (undefV, σ) := by kernel_rfl
theorem al29 : nAlloc Tryz.prog 29 = some ([.slice none 0 0, .slice none 0 0, .slice none 0 0, .slice none 0 0, .slice none 0 0, .slice none 0 0, .int .i64 0, .int .i64 0, .int .i64 0, .int .i64 0, .int .i64 0, .int .i64 0, .int .i64 0, .int .i64 0, .int .i64 0, .int .i64 0], ptrTo) := by kernel_rfl
theorem ze29 : zero? Tryz.prog 29 = some (.agg ⟨[.slice none 0 0, .slice none 0 0, .slice none 0 0, .slice none 0 0, .slice none 0 0, .slice none 0 0, .int .i64 0, .int .i64 0, .int .i64 0, .int .i64 0, .int .i64 0, .int .i64 0, .int .i64 0, .int .i64 0, .int .i64 0, .int .i64 0]⟩) := by kernel_rfl
theorem bu29 : pBuild Tryz.prog fr 29 #[] = some (.agg ⟨[.slice none 0 0, .slice none 0 0, .slice none 0 0, .slice none 0 0, .slice none 0 0, .slice none 0 0, .int .i64 0, .int .i64 0, .int .i64 0, .int .i64 0, .int .i64 0, .int .i64 0, .int .i64 0, .int .i64 0, .int .i64 0, .int .i64 0]⟩) := by kernel_rfl
theorem bv29 {z : List Value} {ps : List (Nat × Value)} : buildV Tryz.prog 29 z ps = ob (fillL (fun i => [(0, 1), (1, 1), (2, 1), (3, 1), (4, 1), (5, 1), (6, 10)][i]?) ps z) fun l => some (.agg ⟨l⟩) := by kernel_rfl
theorem fa29_0 : pFieldAddr Tryz.prog fr 29 x 0 = ob (ev fr x) fun v => ob (at? v) fun p => pr p fun b off => some (.pointer (some ⟨b, off, none⟩)) := by kernel_rfl
theorem fi29_0 : pField Tryz.prog fr 29 x 0 = ob (ev fr x) fun v => ob (agg? v) fun cs => ob (sub cs 0 1) oneV := by kernel_rfl
theorem fa29_1 : pFieldAddr Tryz.prog fr 29 x 1 = ob (ev fr x) fun v => ob (at? v) fun p => pr p fun b off => some (.pointer (some ⟨b, off + 1, none⟩)) := by kernel_rfl
theorem fi29_1 : pField Tryz.prog fr 29 x 1 = ob (ev fr x) fun v => ob (agg? v) fun cs => ob (sub cs 1 1) oneV := by kernel_rfl
theorem fa29_2 : pFieldAddr Tryz.prog fr 29 x 2 = ob (ev fr x) fun v => ob (at? v) fun p => pr p fun b off => some (.pointer (some ⟨b, off + 2, none⟩)) := by kernel_rfl
theorem fi29_2 : pField Tryz.prog fr 29 x 2 = ob (ev fr x) fun v => ob (agg? v) fun cs => ob (sub cs 2 1) oneV := by kernel_rfl
theorem fa29_3 : pFieldAddr Tryz.prog fr 29 x 3 = ob (ev fr x) fun v => ob (at? v) fun p => pr p fun b off => some (.pointer (some ⟨b, off + 3, none⟩)) := by kernel_rfl
theorem fi29_3 : pField Tryz.prog fr 29 x 3 = ob (ev fr x) fun v => ob (agg? v) fun cs => ob (sub cs 3 1) oneV := by kernel_rfl
theorem fa29_4 : pFieldAddr Tryz.prog fr 29 x 4 = ob (ev fr x) fun v => ob (at? v) fun p => pr p fun b off => some (.pointer (some ⟨b, off + 4, none⟩)) := by kernel_rfl
theorem fi29_4 : pField Tryz.prog fr 29 x 4 = ob (ev fr x) fun v => ob (agg? v) fun cs => ob (sub cs 4 1) oneV := by kernel_rfl
theorem fa29_5 : pFieldAddr Tryz.prog fr 29 x 5 = ob (ev fr x) fun v => ob (at? v) fun p => pr p fun b off => some (.pointer (some ⟨b, off + 5, none⟩)) := by kernel_rfl
theorem fi29_5 : pField Tryz.prog fr 29 x 5 = ob (ev fr x) fun v => ob (agg? v) fun cs => ob (sub cs 5 1) oneV := by kernel_rfl
theorem fa29_6 : pFieldAddr Tryz.prog fr 29 x 6 = ob (ev fr x) fun v => ob (at? v) fun p => pr p fun b off => some (.pointer (some ⟨b, off + 6, none⟩)) := by kernel_rfl
theorem fi29_6 : pField Tryz.prog fr 29 x 6 = ob (ev fr x) fun v => ob (agg? v) fun cs => ob (sub cs 6 10) fun l => some (.agg ⟨l⟩) := by kernel_rfl
theorem ld30 : rLoad Tryz.prog fr σ 30 a = ob (ev fr a) fun v => ob (at? v) fun p => pr p fun b off => ob (ob (σ.read b off 3) fun cs => some (.agg ⟨cs⟩)) fun v => some (v, ⟨b, off, 3⟩) := by kernel_rfl
theorem lv30 {b off : Nat} : loadV Tryz.prog σ 30 (.pointer (some ⟨b, off, none⟩)) = ob (σ.read b off 3) fun cs => some (.agg ⟨cs⟩) := by kernel_rfl
theorem st30 : eStore Tryz.prog fr σ 30 a v = ob (ev fr a) fun a => ob (ev fr v) fun v => ob (ob (at? a) fun p => pr p fun b off => bi (isTup v) none (bb ((cellsL v).length.beq 3) (σ.write b off (cellsL v)))) fun σ => some (undefV, σ) := by kernel_rfl
theorem al30 : nAlloc Tryz.prog 30 = some ([.int .i64 0, .int .i64 0, .int .i64 0], ptrTo) := by kernel_rfl
theorem ze30 : zero? Tryz.prog 30 = some (.agg ⟨[.int .i64 0, .int .i64 0, .int .i64 0]⟩) := by kernel_rfl
theorem bu30 : pBuild Tryz.prog fr 30 #[] = some (.agg ⟨[.int .i64 0, .int .i64 0, .int .i64 0]⟩) := by kernel_rfl
theorem ia30 {b off i : Nat} : indexAddrV Tryz.prog 30 (.pointer (some ⟨b, off, none⟩)) i = bb (Nat.blt i 3) (some (.pointer (some ⟨b, off + i * 1, none⟩))) := by kernel_rfl
theorem bv30 {z : List Value} {ps : List (Nat × Value)} : buildV Tryz.prog 30 z ps = ob (fillL (fun i => some (i * 1, 1)) ps z) fun l => some (.agg ⟨l⟩) := by kernel_rfl
theorem ld31 : rLoad Tryz.prog fr σ 31 a = ob (ev fr a) fun v => ob (at? v) fun p => pr p fun b off => ob (ob (σ.read b off 6) fun cs => some (.agg ⟨cs⟩)) fun v => some (v, ⟨b, off, 6⟩) := by kernel_rfl
theorem lv31 {b off : Nat} : loadV Tryz.prog σ 31 (.pointer (some ⟨b, off, none⟩)) = ob (σ.read b off 6) fun cs => some (.agg ⟨cs⟩) := by kernel_rfl
theorem st31 : eStore Tryz.prog fr σ 31 a v = ob (ev fr a) fun a => ob (ev fr v) fun v => ob (ob (at? a) fun p => pr p fun b off => bi (isTup v) none (bb ((cellsL v).length.beq 6) (σ.write b off (cellsL v)))) fun σ => some (undefV, σ) := by kernel_rfl
theorem al31 : nAlloc Tryz.prog 31 = some ([.int .i64 0, .int .i64 0, .int .i64 0, .int .i64 0, .int .i64 0, .int .i64 0], ptrTo) := by kernel_rfl
theorem ze31 : zero? Tryz.prog 31 = some (.agg ⟨[.int .i64 0, .int .i64 0, .int .i64 0, .int .i64 0, .int .i64 0, .int .i64 0]⟩) := by kernel_rfl
theorem bu31 : pBuild Tryz.prog fr 31 #[] = some (.agg ⟨[.int .i64 0, .int .i64 0, .int .i64 0, .int .i64 0, .int .i64 0, .int .i64 0]⟩) := by kernel_rfl
theorem ia31 {b off i : Nat} : indexAddrV Tryz.prog 31 (.pointer (some ⟨b, off, none⟩)) i = bb (Nat.blt i 2) (some (.pointer (some ⟨b, off + i * 3, none⟩))) := by kernel_rfl
theorem bv31 {z : List Value} {ps : List (Nat × Value)} : buildV Tryz.prog 31 z ps = ob (fillL (fun i => some (i * 3, 3)) ps z) fun l => some (.agg ⟨l⟩) := by kernel_rfl
theorem ld33 : rLoad Tryz.prog fr σ 33 a = ob (ev fr a) fun v => ob (at? v) fun p => pr p fun b off => ob (ob (σ.read b off 1) oneV) fun v => some (v, ⟨b, off, 1⟩) := by kernel_rfl
theorem lv33 {b off : Nat} : loadV Tryz.prog σ 33 (.pointer (some ⟨b, off, none⟩)) = ob (σ.read b off 1) oneV := by kernel_rfl
theorem st33 : eStore Tryz.prog fr σ 33 a v = ob (ev fr a) fun a => ob (ev fr v) fun v => ob (ob (at? a) fun p => pr p fun b off => bi (isTup v) none (bb ((cellsL v).length.beq 1) (σ.write b off (cellsL v)))) fun σ => some (undefV, σ) := by kernel_rfl
theorem al33 : nAlloc Tryz.prog 33 = some ([.slice none 0 0], ptrTo) := by kernel_rfl
theorem ze33 : zero? Tryz.prog 33 = some (.slice none 0 0) := by kernel_rfl
theorem ia33 {b off len cap i : Nat} {s : Option Nat} : indexAddrV Tryz.prog 33 (.slice (some ⟨b, off, s⟩) len cap) i = bb (Nat.blt i len) (some (.pointer (some ⟨b, off + i * 2, none⟩))) := by kernel_rfl
theorem ap33 {b : Option Addr} {len cap : Nat} {w : Value} : appendV Tryz.prog σ 33 (.slice b len cap) w = ob (srcCells σ 2 w) fun p => pr p fun n new => bi (Nat.ble (len + n) cap) (appendIn σ 2 b len cap n new) (bb (Nat.ble ((len + n) * 17) room) (appendNew σ 2 b len n new)) := by kernel_rfl
theorem ss33 {b : Option Addr} {len cap : Nat} {lo hi : Option Value} : sliceV Tryz.prog 33 (.slice b len cap) lo hi = ob (bnds len cap lo hi) fun p => pr p fun lo hi => sliceAt 2 b lo hi cap := by kernel_rfl
theorem sl33 {len : Nat} {parts : Array (Nat × Operand)} : nSlice Tryz.prog fr 33 len parts = ob (evs fr (parts.toList.map (·.2))) fun vs => bb (Nat.ble (len * 2) 16777216) (ob (fillL (fun i => some (i * 2, 2)) ((parts.toList.map (·.1)).zip vs) (rep [.int .i64 0, .int .i64 0] len)) fun l => some (l, fun n => .slice (some ⟨n, 0, none⟩) len len)) := by kernel_rfl
theorem mk33 {l c : Operand} : nMake Tryz.prog fr 33 l c = ob (evN fr l) fun l => ob (evN fr c) fun c => bb (Nat.ble l c) (bb (Nat.ble (c * 17) room) (some (rep [.int .i64 0, .int .i64 0] c, fun n => .slice (some ⟨n, 0, none⟩) l c))) := by kernel_rfl
theorem ld34 : rLoad Tryz.prog fr σ 34 a = ob (ev fr a) fun v => ob (at? v) fun p => pr p fun b off => ob (ob (σ.read b off 1) oneV) fun v => some (v, ⟨b, off, 1⟩) := by kernel_rfl
theorem lv34 {b off : Nat} : loadV Tryz.prog σ 34 (.pointer (some ⟨b, off, none⟩)) = ob (σ.read b off 1) oneV := by kernel_rfl
theorem st34 : eStore Tryz.prog fr σ 34 a v = ob (ev fr a) fun a => ob (ev fr v) fun v => ob (ob (at? a) fun p => pr p fun b off => bi (isTup v) none (bb ((cellsL v).length.beq 1) (σ.write b off (cellsL v)))) fun σ => some (undefV, σ) := by kernel_rfl
theorem al34 : nAlloc Tryz.prog 34 = some ([.slice none 0 0], ptrTo) := by kernel_rfl
theorem ze34 : zero? Tryz.prog 34 = some (.slice none 0 0) := by kernel_rfl
theorem ia34 {b off len cap i : Nat} {s : Option Nat} : indexAddrV Tryz.prog 34 (.slice (some ⟨b, off, s⟩) len cap) i = bb (Nat.blt i len) (some (.pointer (some ⟨b, off + i * 5, none⟩))) := by kernel_rfl
theorem ap34 {b : Option Addr} {len cap : Nat} {w : Value} : appendV Tryz.prog σ 34 (.slice b len cap) w = ob (srcCells σ 5 w) fun p => pr p fun n new => bi (Nat.ble (len + n) cap) (appendIn σ 5 b len cap n new) (bb (Nat.ble ((len + n) * 49) room) (appendNew σ 5 b len n new)) := by kernel_rfl
theorem ss34 {b : Option Addr} {len cap : Nat} {lo hi : Option Value} : sliceV Tryz.prog 34 (.slice b len cap) lo hi = ob (bnds len cap lo hi) fun p => pr p fun lo hi => sliceAt 5 b lo hi cap := by kernel_rfl
theorem sl34 {len : Nat} {parts : Array (Nat × Operand)} : nSlice Tryz.prog fr 34 len parts = ob (evs fr (parts.toList.map (·.2))) fun vs => bb (Nat.ble (len * 5) 16777216) (ob (fillL (fun i => some (i * 5, 5)) ((parts.toList.map (·.1)).zip vs) (rep [str [], .int .i64 0, .int .i64 0, .int .i64 0, .bool false] len)) fun l => some (l, fun n => .slice (some ⟨n, 0, none⟩) len len)) := by kernel_rfl
theorem mk34 {l c : Operand} : nMake Tryz.prog fr 34 l c = ob (evN fr l) fun l => ob (evN fr c) fun c => bb (Nat.ble l c) (bb (Nat.ble (c * 49) room) (some (rep [str [], .int .i64 0, .int .i64 0, .int .i64 0, .bool false] c, fun n => .slice (some ⟨n, 0, none⟩) l c))) := by kernel_rfl
theorem ld35 : rLoad Tryz.prog fr σ 35 a = ob (ev fr a) fun v => ob (at? v) fun p => pr p fun b off => ob (ob (σ.read b off 1) oneV) fun v => some (v, ⟨b, off, 1⟩) := by kernel_rfl
theorem lv35 {b off : Nat} : loadV Tryz.prog σ 35 (.pointer (some ⟨b, off, none⟩)) = ob (σ.read b off 1) oneV := by kernel_rfl
theorem st35 : eStore Tryz.prog fr σ 35 a v = ob (ev fr a) fun a => ob (ev fr v) fun v => ob (ob (at? a) fun p => pr p fun b off => bi (isTup v) none (bb ((cellsL v).length.beq 1) (σ.write b off (cellsL v)))) fun σ => some (undefV, σ) := by kernel_rfl
theorem al35 : nAlloc Tryz.prog 35 = some ([.slice none 0 0], ptrTo) := by kernel_rfl
theorem ze35 : zero? Tryz.prog 35 = some (.slice none 0 0) := by kernel_rfl
theorem ia35 {b off len cap i : Nat} {s : Option Nat} : indexAddrV Tryz.prog 35 (.slice (some ⟨b, off, s⟩) len cap) i = bb (Nat.blt i len) (some (.pointer (some ⟨b, off + i * 3, none⟩))) := by kernel_rfl
theorem ap35 {b : Option Addr} {len cap : Nat} {w : Value} : appendV Tryz.prog σ 35 (.slice b len cap) w = ob (srcCells σ 3 w) fun p => pr p fun n new => bi (Nat.ble (len + n) cap) (appendIn σ 3 b len cap n new) (bb (Nat.ble ((len + n) * 41) room) (appendNew σ 3 b len n new)) := by kernel_rfl
theorem ss35 {b : Option Addr} {len cap : Nat} {lo hi : Option Value} : sliceV Tryz.prog 35 (.slice b len cap) lo hi = ob (bnds len cap lo hi) fun p => pr p fun lo hi => sliceAt 3 b lo hi cap := by kernel_rfl
theorem sl35 {len : Nat} {parts : Array (Nat × Operand)} : nSlice Tryz.prog fr 35 len parts = ob (evs fr (parts.toList.map (·.2))) fun vs => bb (Nat.ble (len * 3) 16777216) (ob (fillL (fun i => some (i * 3, 3)) ((parts.toList.map (·.1)).zip vs) (rep [str [], str [], .int .i64 0] len)) fun l => some (l, fun n => .slice (some ⟨n, 0, none⟩) len len)) := by kernel_rfl
theorem mk35 {l c : Operand} : nMake Tryz.prog fr 35 l c = ob (evN fr l) fun l => ob (evN fr c) fun c => bb (Nat.ble l c) (bb (Nat.ble (c * 41) room) (some (rep [str [], str [], .int .i64 0] c, fun n => .slice (some ⟨n, 0, none⟩) l c))) := by kernel_rfl
theorem ld36 : rLoad Tryz.prog fr σ 36 a = ob (ev fr a) fun v => ob (at? v) fun p => pr p fun b off => ob (ob (σ.read b off 2) fun cs => some (.agg ⟨cs⟩)) fun v => some (v, ⟨b, off, 2⟩) := by kernel_rfl
theorem lv36 {b off : Nat} : loadV Tryz.prog σ 36 (.pointer (some ⟨b, off, none⟩)) = ob (σ.read b off 2) fun cs => some (.agg ⟨cs⟩) := by kernel_rfl
theorem st36 : eStore Tryz.prog fr σ 36 a v = ob (ev fr a) fun a => ob (ev fr v) fun v => ob (ob (at? a) fun p => pr p fun b off => bi (isTup v) none (bb ((cellsL v).length.beq 2) (σ.write b off (cellsL v)))) fun σ => some (undefV, σ) := by kernel_rfl
theorem al36 : nAlloc Tryz.prog 36 = some ([.int .i64 0, .int .i64 0], ptrTo) := by kernel_rfl
theorem ze36 : zero? Tryz.prog 36 = some (.agg ⟨[.int .i64 0, .int .i64 0]⟩) := by kernel_rfl
theorem bu36 : pBuild Tryz.prog fr 36 #[] = some (.agg ⟨[.int .i64 0, .int .i64 0]⟩) := by kernel_rfl
theorem bv36 {z : List Value} {ps : List (Nat × Value)} : buildV Tryz.prog 36 z ps = ob (fillL (fun i => [(0, 1), (1, 1)][i]?) ps z) fun l => some (.agg ⟨l⟩) := by kernel_rfl
theorem fa36_0 : pFieldAddr Tryz.prog fr 36 x 0 = ob (ev fr x) fun v => ob (at? v) fun p => pr p fun b off => some (.pointer (some ⟨b, off, none⟩)) := by kernel_rfl
theorem fi36_0 : pField Tryz.prog fr 36 x 0 = ob (ev fr x) fun v => ob (agg? v) fun cs => ob (sub cs 0 1) oneV := by kernel_rfl
theorem fa36_1 : pFieldAddr Tryz.prog fr 36 x 1 = ob (ev fr x) fun v => ob (at? v) fun p => pr p fun b off => some (.pointer (some ⟨b, off + 1, none⟩)) := by kernel_rfl
theorem fi36_1 : pField Tryz.prog fr 36 x 1 = ob (ev fr x) fun v => ob (agg? v) fun cs => ob (sub cs 1 1) oneV := by kernel_rfl
theorem ld37 : rLoad Tryz.prog fr σ 37 a = ob (ev fr a) fun v => ob (at? v) fun p => pr p fun b off => ob (ob (σ.read b off 2) fun cs => some (.agg ⟨cs⟩)) fun v => some (v, ⟨b, off, 2⟩) := by kernel_rfl
theorem lv37 {b off : Nat} : loadV Tryz.prog σ 37 (.pointer (some ⟨b, off, none⟩)) = ob (σ.read b off 2) fun cs => some (.agg ⟨cs⟩) := by kernel_rfl
theorem st37 : eStore Tryz.prog fr σ 37 a v = ob (ev fr a) fun a => ob (ev fr v) fun v => ob (ob (at? a) fun p => pr p fun b off => bi (isTup v) none (bb ((cellsL v).length.beq 2) (σ.write b off (cellsL v)))) fun σ => some (undefV, σ) := by kernel_rfl
theorem al37 : nAlloc Tryz.prog 37 = some ([.int .i64 0, .int .i64 0], ptrTo) := by kernel_rfl
theorem ze37 : zero? Tryz.prog 37 = some (.agg ⟨[.int .i64 0, .int .i64 0]⟩) := by kernel_rfl
theorem bu37 : pBuild Tryz.prog fr 37 #[] = some (.agg ⟨[.int .i64 0, .int .i64 0]⟩) := by kernel_rfl
theorem bv37 {z : List Value} {ps : List (Nat × Value)} : buildV Tryz.prog 37 z ps = ob (fillL (fun i => [(0, 1), (1, 1)][i]?) ps z) fun l => some (.agg ⟨l⟩) := by kernel_rfl
theorem fa37_0 : pFieldAddr Tryz.prog fr 37 x 0 = ob (ev fr x) fun v => ob (at? v) fun p => pr p fun b off => some (.pointer (some ⟨b, off, none⟩)) := by kernel_rfl
theorem fi37_0 : pField Tryz.prog fr 37 x 0 = ob (ev fr x) fun v => ob (agg? v) fun cs => ob (sub cs 0 1) oneV := by kernel_rfl
theorem fa37_1 : pFieldAddr Tryz.prog fr 37 x 1 = ob (ev fr x) fun v => ob (at? v) fun p => pr p fun b off => some (.pointer (some ⟨b, off + 1, none⟩)) := by kernel_rfl
theorem fi37_1 : pField Tryz.prog fr 37 x 1 = ob (ev fr x) fun v => ob (agg? v) fun cs => ob (sub cs 1 1) oneV := by kernel_rfl
theorem ld38 : rLoad Tryz.prog fr σ 38 a = ob (ev fr a) fun v => ob (at? v) fun p => pr p fun b off => ob (ob (σ.read b off 1) oneV) fun v => some (v, ⟨b, off, 1⟩) := by kernel_rfl
theorem lv38 {b off : Nat} : loadV Tryz.prog σ 38 (.pointer (some ⟨b, off, none⟩)) = ob (σ.read b off 1) oneV := by kernel_rfl
theorem st38 : eStore Tryz.prog fr σ 38 a v = ob (ev fr a) fun a => ob (ev fr v) fun v => ob (ob (at? a) fun p => pr p fun b off => bi (isTup v) none (bb ((cellsL v).length.beq 1) (σ.write b off (cellsL v)))) fun σ => some (undefV, σ) := by kernel_rfl
theorem al38 : nAlloc Tryz.prog 38 = some ([.slice none 0 0], ptrTo) := by kernel_rfl
theorem ze38 : zero? Tryz.prog 38 = some (.slice none 0 0) := by kernel_rfl
theorem ia38 {b off len cap i : Nat} {s : Option Nat} : indexAddrV Tryz.prog 38 (.slice (some ⟨b, off, s⟩) len cap) i = bb (Nat.blt i len) (some (.pointer (some ⟨b, off + i * 5, none⟩))) := by kernel_rfl
theorem ap38 {b : Option Addr} {len cap : Nat} {w : Value} : appendV Tryz.prog σ 38 (.slice b len cap) w = ob (srcCells σ 5 w) fun p => pr p fun n new => bi (Nat.ble (len + n) cap) (appendIn σ 5 b len cap n new) (bb (Nat.ble ((len + n) * 73) room) (appendNew σ 5 b len n new)) := by kernel_rfl
theorem ss38 {b : Option Addr} {len cap : Nat} {lo hi : Option Value} : sliceV Tryz.prog 38 (.slice b len cap) lo hi = ob (bnds len cap lo hi) fun p => pr p fun lo hi => sliceAt 5 b lo hi cap := by kernel_rfl
theorem sl38 {len : Nat} {parts : Array (Nat × Operand)} : nSlice Tryz.prog fr 38 len parts = ob (evs fr (parts.toList.map (·.2))) fun vs => bb (Nat.ble (len * 5) 16777216) (ob (fillL (fun i => some (i * 5, 5)) ((parts.toList.map (·.1)).zip vs) (rep [str [], .int .i64 0, .int .i64 0, str [], .slice none 0 0] len)) fun l => some (l, fun n => .slice (some ⟨n, 0, none⟩) len len)) := by kernel_rfl
theorem mk38 {l c : Operand} : nMake Tryz.prog fr 38 l c = ob (evN fr l) fun l => ob (evN fr c) fun c => bb (Nat.ble l c) (bb (Nat.ble (c * 73) room) (some (rep [str [], .int .i64 0, .int .i64 0, str [], .slice none 0 0] c, fun n => .slice (some ⟨n, 0, none⟩) l c))) := by kernel_rfl
theorem ld39 : rLoad Tryz.prog fr σ 39 a = ob (ev fr a) fun v => ob (at? v) fun p => pr p fun b off => ob (ob (σ.read b off 5) fun cs => some (.agg ⟨cs⟩)) fun v => some (v, ⟨b, off, 5⟩) := by kernel_rfl
theorem lv39 {b off : Nat} : loadV Tryz.prog σ 39 (.pointer (some ⟨b, off, none⟩)) = ob (σ.read b off 5) fun cs => some (.agg ⟨cs⟩) := by kernel_rfl
theorem st39 : eStore Tryz.prog fr σ 39 a v = ob (ev fr a) fun a => ob (ev fr v) fun v => ob (ob (at? a) fun p => pr p fun b off => bi (isTup v) none (bb ((cellsL v).length.beq 5) (σ.write b off (cellsL v)))) fun σ => some (undefV, σ) := by kernel_rfl
theorem al39 : nAlloc Tryz.prog 39 = some ([str [], .int .i64 0, .int .i64 0, str [], .slice none 0 0], ptrTo) := by kernel_rfl
theorem ze39 : zero? Tryz.prog 39 = some (.agg ⟨[str [], .int .i64 0, .int .i64 0, str [], .slice none 0 0]⟩) := by kernel_rfl
theorem bu39 : pBuild Tryz.prog fr 39 #[] = some (.agg ⟨[str [], .int .i64 0, .int .i64 0, str [], .slice none 0 0]⟩) := by kernel_rfl
theorem bv39 {z : List Value} {ps : List (Nat × Value)} : buildV Tryz.prog 39 z ps = ob (fillL (fun i => [(0, 1), (1, 2), (3, 1), (4, 1)][i]?) ps z) fun l => some (.agg ⟨l⟩) := by kernel_rfl
theorem fa39_0 : pFieldAddr Tryz.prog fr 39 x 0 = ob (ev fr x) fun v => ob (at? v) fun p => pr p fun b off => some (.pointer (some ⟨b, off, none⟩)) := by kernel_rfl
theorem fi39_0 : pField Tryz.prog fr 39 x 0 = ob (ev fr x) fun v => ob (agg? v) fun cs => ob (sub cs 0 1) oneV := by kernel_rfl
theorem fa39_1 : pFieldAddr Tryz.prog fr 39 x 1 = ob (ev fr x) fun v => ob (at? v) fun p => pr p fun b off => some (.pointer (some ⟨b, off + 1, none⟩)) := by kernel_rfl
theorem fi39_1 : pField Tryz.prog fr 39 x 1 = ob (ev fr x) fun v => ob (agg? v) fun cs => ob (sub cs 1 2) fun l => some (.agg ⟨l⟩) := by kernel_rfl
theorem fa39_2 : pFieldAddr Tryz.prog fr 39 x 2 = ob (ev fr x) fun v => ob (at? v) fun p => pr p fun b off => some (.pointer (some ⟨b, off + 3, none⟩)) := by kernel_rfl
theorem fi39_2 : pField Tryz.prog fr 39 x 2 = ob (ev fr x) fun v => ob (agg? v) fun cs => ob (sub cs 3 1) oneV := by kernel_rfl
theorem fa39_3 : pFieldAddr Tryz.prog fr 39 x 3 = ob (ev fr x) fun v => ob (at? v) fun p => pr p fun b off => some (.pointer (some ⟨b, off + 4, none⟩)) := by kernel_rfl
theorem fi39_3 : pField Tryz.prog fr 39 x 3 = ob (ev fr x) fun v => ob (agg? v) fun cs => ob (sub cs 4 1) oneV := by kernel_rfl
theorem ld40 : rLoad Tryz.prog fr σ 40 a = ob (ev fr a) fun v => ob (at? v) fun p => pr p fun b off => ob (ob (σ.read b off 5) fun cs => some (.agg ⟨cs⟩)) fun v => some (v, ⟨b, off, 5⟩) := by kernel_rfl
theorem lv40 {b off : Nat} : loadV Tryz.prog σ 40 (.pointer (some ⟨b, off, none⟩)) = ob (σ.read b off 5) fun cs => some (.agg ⟨cs⟩) := by kernel_rfl
theorem st40 : eStore Tryz.prog fr σ 40 a v = ob (ev fr a) fun a => ob (ev fr v) fun v => ob (ob (at? a) fun p => pr p fun b off => bi (isTup v) none (bb ((cellsL v).length.beq 5) (σ.write b off (cellsL v)))) fun σ => some (undefV, σ) := by kernel_rfl
theorem al40 : nAlloc Tryz.prog 40 = some ([str [], .int .i64 0, .int .i64 0, str [], .slice none 0 0], ptrTo) := by kernel_rfl
theorem ze40 : zero? Tryz.prog 40 = some (.agg ⟨[str [], .int .i64 0, .int .i64 0, str [], .slice none 0 0]⟩) := by kernel_rfl
theorem bu40 : pBuild Tryz.prog fr 40 #[] = some (.agg ⟨[str [], .int .i64 0, .int .i64 0, str [], .slice none 0 0]⟩) := by kernel_rfl
theorem bv40 {z : List Value} {ps : List (Nat × Value)} : buildV Tryz.prog 40 z ps = ob (fillL (fun i => [(0, 1), (1, 2), (3, 1), (4, 1)][i]?) ps z) fun l => some (.agg ⟨l⟩) := by kernel_rfl
theorem fa40_0 : pFieldAddr Tryz.prog fr 40 x 0 = ob (ev fr x) fun v => ob (at? v) fun p => pr p fun b off => some (.pointer (some ⟨b, off, none⟩)) := by kernel_rfl
theorem fi40_0 : pField Tryz.prog fr 40 x 0 = ob (ev fr x) fun v => ob (agg? v) fun cs => ob (sub cs 0 1) oneV := by kernel_rfl
theorem fa40_1 : pFieldAddr Tryz.prog fr 40 x 1 = ob (ev fr x) fun v => ob (at? v) fun p => pr p fun b off => some (.pointer (some ⟨b, off + 1, none⟩)) := by kernel_rfl
theorem fi40_1 : pField Tryz.prog fr 40 x 1 = ob (ev fr x) fun v => ob (agg? v) fun cs => ob (sub cs 1 2) fun l => some (.agg ⟨l⟩) := by kernel_rfl
theorem fa40_2 : pFieldAddr Tryz.prog fr 40 x 2 = ob (ev fr x) fun v => ob (at? v) fun p => pr p fun b off => some (.pointer (some ⟨b, off + 3, none⟩)) := by kernel_rfl
theorem fi40_2 : pField Tryz.prog fr 40 x 2 = ob (ev fr x) fun v => ob (agg? v) fun cs => ob (sub cs 3 1) oneV := by kernel_rfl
theorem fa40_3 : pFieldAddr Tryz.prog fr 40 x 3 = ob (ev fr x) fun v => ob (at? v) fun p => pr p fun b off => some (.pointer (some ⟨b, off + 4, none⟩)) := by kernel_rfl
theorem fi40_3 : pField Tryz.prog fr 40 x 3 = ob (ev fr x) fun v => ob (agg? v) fun cs => ob (sub cs 4 1) oneV := by kernel_rfl
theorem ld41 : rLoad Tryz.prog fr σ 41 a = ob (ev fr a) fun v => ob (at? v) fun p => pr p fun b off => ob (ob (σ.read b off 1) oneV) fun v => some (v, ⟨b, off, 1⟩) := by kernel_rfl
theorem lv41 {b off : Nat} : loadV Tryz.prog σ 41 (.pointer (some ⟨b, off, none⟩)) = ob (σ.read b off 1) oneV := by kernel_rfl
theorem st41 : eStore Tryz.prog fr σ 41 a v = ob (ev fr a) fun a => ob (ev fr v) fun v => ob (ob (at? a) fun p => pr p fun b off => bi (isTup v) none (bb ((cellsL v).length.beq 1) (σ.write b off (cellsL v)))) fun σ => some (undefV, σ) := by kernel_rfl
theorem al41 : nAlloc Tryz.prog 41 = some ([.slice none 0 0], ptrTo) := by kernel_rfl
theorem ze41 : zero? Tryz.prog 41 = some (.slice none 0 0) := by kernel_rfl
theorem ia41 {b off len cap i : Nat} {s : Option Nat} : indexAddrV Tryz.prog 41 (.slice (some ⟨b, off, s⟩) len cap) i = bb (Nat.blt i len) (some (.pointer (some ⟨b, off + i * 1, none⟩))) := by kernel_rfl
theorem ap41 {b : Option Addr} {len cap : Nat} {w : Value} : appendV Tryz.prog σ 41 (.slice b len cap) w = ob (srcCells σ 1 w) fun p => pr p fun n new => bi (Nat.ble (len + n) cap) (appendIn σ 1 b len cap n new) (bb (Nat.ble ((len + n) * 17) room) (appendNew σ 1 b len n new)) := by kernel_rfl
theorem ss41 {b : Option Addr} {len cap : Nat} {lo hi : Option Value} : sliceV Tryz.prog 41 (.slice b len cap) lo hi = ob (bnds len cap lo hi) fun p => pr p fun lo hi => sliceAt 1 b lo hi cap := by kernel_rfl
theorem sl41 {len : Nat} {parts : Array (Nat × Operand)} : nSlice Tryz.prog fr 41 len parts = ob (evs fr (parts.toList.map (·.2))) fun vs => bb (Nat.ble (len * 1) 16777216) (ob (fillL (fun i => some (i * 1, 1)) ((parts.toList.map (·.1)).zip vs) (rep [str []] len)) fun l => some (l, fun n => .slice (some ⟨n, 0, none⟩) len len)) := by kernel_rfl
theorem mk41 {l c : Operand} : nMake Tryz.prog fr 41 l c = ob (evN fr l) fun l => ob (evN fr c) fun c => bb (Nat.ble l c) (bb (Nat.ble (c * 17) room) (some (rep [str []] c, fun n => .slice (some ⟨n, 0, none⟩) l c))) := by kernel_rfl
theorem ld42 : rLoad Tryz.prog fr σ 42 a = ob (ev fr a) fun v => ob (at? v) fun p => pr p fun b off => ob (ob (σ.read b off 5) fun cs => some (.agg ⟨cs⟩)) fun v => some (v, ⟨b, off, 5⟩) := by kernel_rfl
theorem lv42 {b off : Nat} : loadV Tryz.prog σ 42 (.pointer (some ⟨b, off, none⟩)) = ob (σ.read b off 5) fun cs => some (.agg ⟨cs⟩) := by kernel_rfl
theorem st42 : eStore Tryz.prog fr σ 42 a v = ob (ev fr a) fun a => ob (ev fr v) fun v => ob (ob (at? a) fun p => pr p fun b off => bi (isTup v) none (bb ((cellsL v).length.beq 5) (σ.write b off (cellsL v)))) fun σ => some (undefV, σ) := by kernel_rfl
theorem al42 : nAlloc Tryz.prog 42 = some ([.int .i64 0, .int .i64 0, .int .i64 0, .int .i64 0, .int .i64 0], ptrTo) := by kernel_rfl
theorem ze42 : zero? Tryz.prog 42 = some (.agg ⟨[.int .i64 0, .int .i64 0, .int .i64 0, .int .i64 0, .int .i64 0]⟩) := by kernel_rfl
theorem bu42 : pBuild Tryz.prog fr 42 #[] = some (.agg ⟨[.int .i64 0, .int .i64 0, .int .i64 0, .int .i64 0, .int .i64 0]⟩) := by kernel_rfl
theorem bv42 {z : List Value} {ps : List (Nat × Value)} : buildV Tryz.prog 42 z ps = ob (fillL (fun i => [(0, 1), (1, 1), (2, 1), (3, 1), (4, 1)][i]?) ps z) fun l => some (.agg ⟨l⟩) := by kernel_rfl
theorem fa42_0 : pFieldAddr Tryz.prog fr 42 x 0 = ob (ev fr x) fun v => ob (at? v) fun p => pr p fun b off => some (.pointer (some ⟨b, off, none⟩)) := by kernel_rfl
theorem fi42_0 : pField Tryz.prog fr 42 x 0 = ob (ev fr x) fun v => ob (agg? v) fun cs => ob (sub cs 0 1) oneV := by kernel_rfl
theorem fa42_1 : pFieldAddr Tryz.prog fr 42 x 1 = ob (ev fr x) fun v => ob (at? v) fun p => pr p fun b off => some (.pointer (some ⟨b, off + 1, none⟩)) := by kernel_rfl
theorem fi42_1 : pField Tryz.prog fr 42 x 1 = ob (ev fr x) fun v => ob (agg? v) fun cs => ob (sub cs 1 1) oneV := by kernel_rfl
theorem fa42_2 : pFieldAddr Tryz.prog fr 42 x 2 = ob (ev fr x) fun v => ob (at? v) fun p => pr p fun b off => some (.pointer (some ⟨b, off + 2, none⟩)) := by kernel_rfl
theorem fi42_2 : pField Tryz.prog fr 42 x 2 = ob (ev fr x) fun v => ob (agg? v) fun cs => ob (sub cs 2 1) oneV := by kernel_rfl
theorem fa42_3 : pFieldAddr Tryz.prog fr 42 x 3 = ob (ev fr x) fun v => ob (at? v) fun p => pr p fun b off => some (.pointer (some ⟨b, off + 3, none⟩)) := by kernel_rfl
theorem fi42_3 : pField Tryz.prog fr 42 x 3 = ob (ev fr x) fun v => ob (agg? v) fun cs => ob (sub cs 3 1) oneV := by kernel_rfl
theorem fa42_4 : pFieldAddr Tryz.prog fr 42 x 4 = ob (ev fr x) fun v => ob (at? v) fun p => pr p fun b off => some (.pointer (some ⟨b, off + 4, none⟩)) := by kernel_rfl
theorem fi42_4 : pField Tryz.prog fr 42 x 4 = ob (ev fr x) fun v => ob (agg? v) fun cs => ob (sub cs 4 1) oneV := by kernel_rfl
theorem ld43 : rLoad Tryz.prog fr σ 43 a = ob (ev fr a) fun v => ob (at? v) fun p => pr p fun b off => ob (ob (σ.read b off 5) fun cs => some (.agg ⟨cs⟩)) fun v => some (v, ⟨b, off, 5⟩) := by kernel_rfl
theorem lv43 {b off : Nat} : loadV Tryz.prog σ 43 (.pointer (some ⟨b, off, none⟩)) = ob (σ.read b off 5) fun cs => some (.agg ⟨cs⟩) := by kernel_rfl
theorem st43 : eStore Tryz.prog fr σ 43 a v = ob (ev fr a) fun a => ob (ev fr v) fun v => ob (ob (at? a) fun p => pr p fun b off => bi (isTup v) none (bb ((cellsL v).length.beq 5) (σ.write b off (cellsL v)))) fun σ => some (undefV, σ) := by kernel_rfl
theorem al43 : nAlloc Tryz.prog 43 = some ([.int .i64 0, .int .i64 0, .int .i64 0, .int .i64 0, .int .i64 0], ptrTo) := by kernel_rfl
theorem ze43 : zero? Tryz.prog 43 = some (.agg ⟨[.int .i64 0, .int .i64 0, .int .i64 0, .int .i64 0, .int .i64 0]⟩) := by kernel_rfl
theorem bu43 : pBuild Tryz.prog fr 43 #[] = some (.agg ⟨[.int .i64 0, .int .i64 0, .int .i64 0, .int .i64 0, .int .i64 0]⟩) := by kernel_rfl
theorem bv43 {z : List Value} {ps : List (Nat × Value)} : buildV Tryz.prog 43 z ps = ob (fillL (fun i => [(0, 1), (1, 1), (2, 1), (3, 1), (4, 1)][i]?) ps z) fun l => some (.agg ⟨l⟩) := by kernel_rfl
theorem fa43_0 : pFieldAddr Tryz.prog fr 43 x 0 = ob (ev fr x) fun v => ob (at? v) fun p => pr p fun b off => some (.pointer (some ⟨b, off, none⟩)) := by kernel_rfl
theorem fi43_0 : pField Tryz.prog fr 43 x 0 = ob (ev fr x) fun v => ob (agg? v) fun cs => ob (sub cs 0 1) oneV := by kernel_rfl
theorem fa43_1 : pFieldAddr Tryz.prog fr 43 x 1 = ob (ev fr x) fun v => ob (at? v) fun p => pr p fun b off => some (.pointer (some ⟨b, off + 1, none⟩)) := by kernel_rfl
theorem fi43_1 : pField Tryz.prog fr 43 x 1 = ob (ev fr x) fun v => ob (agg? v) fun cs => ob (sub cs 1 1) oneV := by kernel_rfl
theorem fa43_2 : pFieldAddr Tryz.prog fr 43 x 2 = ob (ev fr x) fun v => ob (at? v) fun p => pr p fun b off => some (.pointer (some ⟨b, off + 2, none⟩)) := by kernel_rfl
theorem fi43_2 : pField Tryz.prog fr 43 x 2 = ob (ev fr x) fun v => ob (agg? v) fun cs => ob (sub cs 2 1) oneV := by kernel_rfl
theorem fa43_3 : pFieldAddr Tryz.prog fr 43 x 3 = ob (ev fr x) fun v => ob (at? v) fun p => pr p fun b off => some (.pointer (some ⟨b, off + 3, none⟩)) := by kernel_rfl
theorem fi43_3 : pField Tryz.prog fr 43 x 3 = ob (ev fr x) fun v => ob (agg? v) fun cs => ob (sub cs 3 1) oneV := by kernel_rfl
theorem fa43_4 : pFieldAddr Tryz.prog fr 43 x 4 = ob (ev fr x) fun v => ob (at? v) fun p => pr p fun b off => some (.pointer (some ⟨b, off + 4, none⟩)) := by kernel_rfl
theorem fi43_4 : pField Tryz.prog fr 43 x 4 = ob (ev fr x) fun v => ob (agg? v) fun cs => ob (sub cs 4 1) oneV := by kernel_rfl
theorem ld44 : rLoad Tryz.prog fr σ 44 a = ob (ev fr a) fun v => ob (at? v) fun p => pr p fun b off => ob (ob (σ.read b off 20) fun cs => some (.agg ⟨cs⟩)) fun v => some (v, ⟨b, off, 20⟩) := by kernel_rfl
theorem lv44 {b off : Nat} : loadV Tryz.prog σ 44 (.pointer (some ⟨b, off, none⟩)) = ob (σ.read b off 20) fun cs => some (.agg ⟨cs⟩) := by kernel_rfl
theorem st44 : eStore Tryz.prog fr σ 44 a v = ob (ev fr a) fun a => ob (ev fr v) fun v => ob (ob (at? a) fun p => pr p fun b off => bi (isTup v) none (bb ((cellsL v).length.beq 20) (σ.write b off (cellsL v)))) fun σ => some (undefV, σ) := by kernel_rfl
theorem al44 : nAlloc Tryz.prog 44 = some ([str [], .slice none 0 0, .slice none 0 0, .slice none 0 0, .int .i64 0, .int .i64 0, str [], .int .i64 0, .int .i64 0, str [], .slice none 0 0, .slice none 0 0, .int .i64 0, .slice none 0 0, .int .i64 0, .int .i64 0, .int .i64 0, .int .i64 0, .int .i64 0, .int .i64 0], ptrTo) := by kernel_rfl
theorem ze44 : zero? Tryz.prog 44 = some (.agg ⟨[str [], .slice none 0 0, .slice none 0 0, .slice none 0 0, .int .i64 0, .int .i64 0, str [], .int .i64 0, .int .i64 0, str [], .slice none 0 0, .slice none 0 0, .int .i64 0, .slice none 0 0, .int .i64 0, .int .i64 0, .int .i64 0, .int .i64 0, .int .i64 0, .int .i64 0]⟩) := by kernel_rfl
theorem bu44 : pBuild Tryz.prog fr 44 #[] = some (.agg ⟨[str [], .slice none 0 0, .slice none 0 0, .slice none 0 0, .int .i64 0, .int .i64 0, str [], .int .i64 0, .int .i64 0, str [], .slice none 0 0, .slice none 0 0, .int .i64 0, .slice none 0 0, .int .i64 0, .int .i64 0, .int .i64 0, .int .i64 0, .int .i64 0, .int .i64 0]⟩) := by kernel_rfl
theorem bv44 {z : List Value} {ps : List (Nat × Value)} : buildV Tryz.prog 44 z ps = ob (fillL (fun i => [(0, 1), (1, 1), (2, 1), (3, 1), (4, 1), (5, 1), (6, 5), (11, 1), (12, 1), (13, 1), (14, 1), (15, 5)][i]?) ps z) fun l => some (.agg ⟨l⟩) := by kernel_rfl
theorem fa44_0 : pFieldAddr Tryz.prog fr 44 x 0 = ob (ev fr x) fun v => ob (at? v) fun p => pr p fun b off => some (.pointer (some ⟨b, off, none⟩)) := by kernel_rfl
theorem fi44_0 : pField Tryz.prog fr 44 x 0 = ob (ev fr x) fun v => ob (agg? v) fun cs => ob (sub cs 0 1) oneV := by kernel_rfl
theorem fa44_1 : pFieldAddr Tryz.prog fr 44 x 1 = ob (ev fr x) fun v => ob (at? v) fun p => pr p fun b off => some (.pointer (some ⟨b, off + 1, none⟩)) := by kernel_rfl
theorem fi44_1 : pField Tryz.prog fr 44 x 1 = ob (ev fr x) fun v => ob (agg? v) fun cs => ob (sub cs 1 1) oneV := by kernel_rfl
theorem fa44_2 : pFieldAddr Tryz.prog fr 44 x 2 = ob (ev fr x) fun v => ob (at? v) fun p => pr p fun b off => some (.pointer (some ⟨b, off + 2, none⟩)) := by kernel_rfl
theorem fi44_2 : pField Tryz.prog fr 44 x 2 = ob (ev fr x) fun v => ob (agg? v) fun cs => ob (sub cs 2 1) oneV := by kernel_rfl
theorem fa44_3 : pFieldAddr Tryz.prog fr 44 x 3 = ob (ev fr x) fun v => ob (at? v) fun p => pr p fun b off => some (.pointer (some ⟨b, off + 3, none⟩)) := by kernel_rfl
theorem fi44_3 : pField Tryz.prog fr 44 x 3 = ob (ev fr x) fun v => ob (agg? v) fun cs => ob (sub cs 3 1) oneV := by kernel_rfl
theorem fa44_4 : pFieldAddr Tryz.prog fr 44 x 4 = ob (ev fr x) fun v => ob (at? v) fun p => pr p fun b off => some (.pointer (some ⟨b, off + 4, none⟩)) := by kernel_rfl
theorem fi44_4 : pField Tryz.prog fr 44 x 4 = ob (ev fr x) fun v => ob (agg? v) fun cs => ob (sub cs 4 1) oneV := by kernel_rfl
theorem fa44_5 : pFieldAddr Tryz.prog fr 44 x 5 = ob (ev fr x) fun v => ob (at? v) fun p => pr p fun b off => some (.pointer (some ⟨b, off + 5, none⟩)) := by kernel_rfl
theorem fi44_5 : pField Tryz.prog fr 44 x 5 = ob (ev fr x) fun v => ob (agg? v) fun cs => ob (sub cs 5 1) oneV := by kernel_rfl
theorem fa44_6 : pFieldAddr Tryz.prog fr 44 x 6 = ob (ev fr x) fun v => ob (at? v) fun p => pr p fun b off => some (.pointer (some ⟨b, off + 6, none⟩)) := by kernel_rfl
theorem fi44_6 : pField Tryz.prog fr 44 x 6 = ob (ev fr x) fun v => ob (agg? v) fun cs => ob (sub cs 6 5) fun l => some (.agg ⟨l⟩) := by kernel_rfl
theorem fa44_7 : pFieldAddr Tryz.prog fr 44 x 7 = ob (ev fr x) fun v => ob (at? v) fun p => pr p fun b off => some (.pointer (some ⟨b, off + 11, none⟩)) := by kernel_rfl
theorem fi44_7 : pField Tryz.prog fr 44 x 7 = ob (ev fr x) fun v => ob (agg? v) fun cs => ob (sub cs 11 1) oneV := by kernel_rfl
theorem fa44_8 : pFieldAddr Tryz.prog fr 44 x 8 = ob (ev fr x) fun v => ob (at? v) fun p => pr p fun b off => some (.pointer (some ⟨b, off + 12, none⟩)) := by kernel_rfl
theorem fi44_8 : pField Tryz.prog fr 44 x 8 = ob (ev fr x) fun v => ob (agg? v) fun cs => ob (sub cs 12 1) oneV := by kernel_rfl
theorem fa44_9 : pFieldAddr Tryz.prog fr 44 x 9 = ob (ev fr x) fun v => ob (at? v) fun p => pr p fun b off => some (.pointer (some ⟨b, off + 13, none⟩)) := by kernel_rfl
theorem fi44_9 : pField Tryz.prog fr 44 x 9 = ob (ev fr x) fun v => ob (agg? v) fun cs => ob (sub cs 13 1) oneV := by kernel_rfl
theorem fa44_10 : pFieldAddr Tryz.prog fr 44 x 10 = ob (ev fr x) fun v => ob (at? v) fun p => pr p fun b off => some (.pointer (some ⟨b, off + 14, none⟩)) := by kernel_rfl
theorem fi44_10 : pField Tryz.prog fr 44 x 10 = ob (ev fr x) fun v => ob (agg? v) fun cs => ob (sub cs 14 1) oneV := by kernel_rfl
theorem fa44_11 : pFieldAddr Tryz.prog fr 44 x 11 = ob (ev fr x) fun v => ob (at? v) fun p => pr p fun b off => some (.pointer (some ⟨b, off + 15, none⟩)) := by kernel_rfl
theorem fi44_11 : pField Tryz.prog fr 44 x 11 = ob (ev fr x) fun v => ob (agg? v) fun cs => ob (sub cs 15 5) fun l => some (.agg ⟨l⟩) := by kernel_rfl
theorem ld45 : rLoad Tryz.prog fr σ 45 a = ob (ev fr a) fun v => ob (at? v) fun p => pr p fun b off => ob (ob (σ.read b off 20) fun cs => some (.agg ⟨cs⟩)) fun v => some (v, ⟨b, off, 20⟩) := by kernel_rfl
theorem lv45 {b off : Nat} : loadV Tryz.prog σ 45 (.pointer (some ⟨b, off, none⟩)) = ob (σ.read b off 20) fun cs => some (.agg ⟨cs⟩) := by kernel_rfl
theorem st45 : eStore Tryz.prog fr σ 45 a v = ob (ev fr a) fun a => ob (ev fr v) fun v => ob (ob (at? a) fun p => pr p fun b off => bi (isTup v) none (bb ((cellsL v).length.beq 20) (σ.write b off (cellsL v)))) fun σ => some (undefV, σ) := by kernel_rfl
theorem al45 : nAlloc Tryz.prog 45 = some ([str [], .slice none 0 0, .slice none 0 0, .slice none 0 0, .int .i64 0, .int .i64 0, str [], .int .i64 0, .int .i64 0, str [], .slice none 0 0, .slice none 0 0, .int .i64 0, .slice none 0 0, .int .i64 0, .int .i64 0, .int .i64 0, .int .i64 0, .int .i64 0, .int .i64 0], ptrTo) := by kernel_rfl
theorem ze45 : zero? Tryz.prog 45 = some (.agg ⟨[str [], .slice none 0 0, .slice none 0 0, .slice none 0 0, .int .i64 0, .int .i64 0, str [], .int .i64 0, .int .i64 0, str [], .slice none 0 0, .slice none 0 0, .int .i64 0, .slice none 0 0, .int .i64 0, .int .i64 0, .int .i64 0, .int .i64 0, .int .i64 0, .int .i64 0]⟩) := by kernel_rfl
theorem bu45 : pBuild Tryz.prog fr 45 #[] = some (.agg ⟨[str [], .slice none 0 0, .slice none 0 0, .slice none 0 0, .int .i64 0, .int .i64 0, str [], .int .i64 0, .int .i64 0, str [], .slice none 0 0, .slice none 0 0, .int .i64 0, .slice none 0 0, .int .i64 0, .int .i64 0, .int .i64 0, .int .i64 0, .int .i64 0, .int .i64 0]⟩) := by kernel_rfl
theorem bv45 {z : List Value} {ps : List (Nat × Value)} : buildV Tryz.prog 45 z ps = ob (fillL (fun i => [(0, 1), (1, 1), (2, 1), (3, 1), (4, 1), (5, 1), (6, 5), (11, 1), (12, 1), (13, 1), (14, 1), (15, 5)][i]?) ps z) fun l => some (.agg ⟨l⟩) := by kernel_rfl
theorem fa45_0 : pFieldAddr Tryz.prog fr 45 x 0 = ob (ev fr x) fun v => ob (at? v) fun p => pr p fun b off => some (.pointer (some ⟨b, off, none⟩)) := by kernel_rfl
theorem fi45_0 : pField Tryz.prog fr 45 x 0 = ob (ev fr x) fun v => ob (agg? v) fun cs => ob (sub cs 0 1) oneV := by kernel_rfl
theorem fa45_1 : pFieldAddr Tryz.prog fr 45 x 1 = ob (ev fr x) fun v => ob (at? v) fun p => pr p fun b off => some (.pointer (some ⟨b, off + 1, none⟩)) := by kernel_rfl
theorem fi45_1 : pField Tryz.prog fr 45 x 1 = ob (ev fr x) fun v => ob (agg? v) fun cs => ob (sub cs 1 1) oneV := by kernel_rfl
theorem fa45_2 : pFieldAddr Tryz.prog fr 45 x 2 = ob (ev fr x) fun v => ob (at? v) fun p => pr p fun b off => some (.pointer (some ⟨b, off + 2, none⟩)) := by kernel_rfl
theorem fi45_2 : pField Tryz.prog fr 45 x 2 = ob (ev fr x) fun v => ob (agg? v) fun cs => ob (sub cs 2 1) oneV := by kernel_rfl
theorem fa45_3 : pFieldAddr Tryz.prog fr 45 x 3 = ob (ev fr x) fun v => ob (at? v) fun p => pr p fun b off => some (.pointer (some ⟨b, off + 3, none⟩)) := by kernel_rfl
theorem fi45_3 : pField Tryz.prog fr 45 x 3 = ob (ev fr x) fun v => ob (agg? v) fun cs => ob (sub cs 3 1) oneV := by kernel_rfl
theorem fa45_4 : pFieldAddr Tryz.prog fr 45 x 4 = ob (ev fr x) fun v => ob (at? v) fun p => pr p fun b off => some (.pointer (some ⟨b, off + 4, none⟩)) := by kernel_rfl
theorem fi45_4 : pField Tryz.prog fr 45 x 4 = ob (ev fr x) fun v => ob (agg? v) fun cs => ob (sub cs 4 1) oneV := by kernel_rfl
theorem fa45_5 : pFieldAddr Tryz.prog fr 45 x 5 = ob (ev fr x) fun v => ob (at? v) fun p => pr p fun b off => some (.pointer (some ⟨b, off + 5, none⟩)) := by kernel_rfl
theorem fi45_5 : pField Tryz.prog fr 45 x 5 = ob (ev fr x) fun v => ob (agg? v) fun cs => ob (sub cs 5 1) oneV := by kernel_rfl
theorem fa45_6 : pFieldAddr Tryz.prog fr 45 x 6 = ob (ev fr x) fun v => ob (at? v) fun p => pr p fun b off => some (.pointer (some ⟨b, off + 6, none⟩)) := by kernel_rfl
theorem fi45_6 : pField Tryz.prog fr 45 x 6 = ob (ev fr x) fun v => ob (agg? v) fun cs => ob (sub cs 6 5) fun l => some (.agg ⟨l⟩) := by kernel_rfl
theorem fa45_7 : pFieldAddr Tryz.prog fr 45 x 7 = ob (ev fr x) fun v => ob (at? v) fun p => pr p fun b off => some (.pointer (some ⟨b, off + 11, none⟩)) := by kernel_rfl
theorem fi45_7 : pField Tryz.prog fr 45 x 7 = ob (ev fr x) fun v => ob (agg? v) fun cs => ob (sub cs 11 1) oneV := by kernel_rfl
theorem fa45_8 : pFieldAddr Tryz.prog fr 45 x 8 = ob (ev fr x) fun v => ob (at? v) fun p => pr p fun b off => some (.pointer (some ⟨b, off + 12, none⟩)) := by kernel_rfl
theorem fi45_8 : pField Tryz.prog fr 45 x 8 = ob (ev fr x) fun v => ob (agg? v) fun cs => ob (sub cs 12 1) oneV := by kernel_rfl
theorem fa45_9 : pFieldAddr Tryz.prog fr 45 x 9 = ob (ev fr x) fun v => ob (at? v) fun p => pr p fun b off => some (.pointer (some ⟨b, off + 13, none⟩)) := by kernel_rfl
theorem fi45_9 : pField Tryz.prog fr 45 x 9 = ob (ev fr x) fun v => ob (agg? v) fun cs => ob (sub cs 13 1) oneV := by kernel_rfl
theorem fa45_10 : pFieldAddr Tryz.prog fr 45 x 10 = ob (ev fr x) fun v => ob (at? v) fun p => pr p fun b off => some (.pointer (some ⟨b, off + 14, none⟩)) := by kernel_rfl
theorem fi45_10 : pField Tryz.prog fr 45 x 10 = ob (ev fr x) fun v => ob (agg? v) fun cs => ob (sub cs 14 1) oneV := by kernel_rfl
theorem fa45_11 : pFieldAddr Tryz.prog fr 45 x 11 = ob (ev fr x) fun v => ob (at? v) fun p => pr p fun b off => some (.pointer (some ⟨b, off + 15, none⟩)) := by kernel_rfl
theorem fi45_11 : pField Tryz.prog fr 45 x 11 = ob (ev fr x) fun v => ob (agg? v) fun cs => ob (sub cs 15 5) fun l => some (.agg ⟨l⟩) := by kernel_rfl
theorem ld48 : rLoad Tryz.prog fr σ 48 a = ob (ev fr a) fun v => ob (at? v) fun p => pr p fun b off => ob (ob (σ.read b off 40) fun cs => some (.agg ⟨cs⟩)) fun v => some (v, ⟨b, off, 40⟩) := by kernel_rfl
theorem lv48 {b off : Nat} : loadV Tryz.prog σ 48 (.pointer (some ⟨b, off, none⟩)) = ob (σ.read b off 40) fun cs => some (.agg ⟨cs⟩) := by kernel_rfl
theorem st48 : eStore Tryz.prog fr σ 48 a v = ob (ev fr a) fun a => ob (ev fr v) fun v => ob (ob (at? a) fun p => pr p fun b off => bi (isTup v) none (bb ((cellsL v).length.beq 40) (σ.write b off (cellsL v)))) fun σ => some (undefV, σ) := by kernel_rfl
theorem al48 : nAlloc Tryz.prog 48 = some ([str [], .slice none 0 0, .slice none 0 0, .slice none 0 0, .int .i64 0, .int .i64 0, str [], .int .i64 0, .int .i64 0, str [], .slice none 0 0, .slice none 0 0, .int .i64 0, .slice none 0 0, .int .i64 0, .int .i64 0, .int .i64 0, .int .i64 0, .int .i64 0, .int .i64 0, str [], .slice none 0 0, .slice none 0 0, .slice none 0 0, .int .i64 0, .int .i64 0, str [], .int .i64 0, .int .i64 0, str [], .slice none 0 0, .slice none 0 0, .int .i64 0, .slice none 0 0, .int .i64 0, .int .i64 0, .int .i64 0, .int .i64 0, .int .i64 0, .int .i64 0], ptrTo) := by kernel_rfl
theorem ze48 : zero? Tryz.prog 48 = some (.agg ⟨[str [], .slice none 0 0, .slice none 0 0, .slice none 0 0, .int .i64 0, .int .i64 0, str [], .int .i64 0, .int .i64 0, str [], .slice none 0 0, .slice none 0 0, .int .i64 0, .slice none 0 0, .int .i64 0, .int .i64 0, .int .i64 0, .int .i64 0, .int .i64 0, .int .i64 0, str [], .slice none 0 0, .slice none 0 0, .slice none 0 0, .int .i64 0, .int .i64 0, str [], .int .i64 0, .int .i64 0, str [], .slice none 0 0, .slice none 0 0, .int .i64 0, .slice none 0 0, .int .i64 0, .int .i64 0, .int .i64 0, .int .i64 0, .int .i64 0, .int .i64 0]⟩) := by kernel_rfl
theorem bu48 : pBuild Tryz.prog fr 48 #[] = some (.agg ⟨[str [], .slice none 0 0, .slice none 0 0, .slice none 0 0, .int .i64 0, .int .i64 0, str [], .int .i64 0, .int .i64 0, str [], .slice none 0 0, .slice none 0 0, .int .i64 0, .slice none 0 0, .int .i64 0, .int .i64 0, .int .i64 0, .int .i64 0, .int .i64 0, .int .i64 0, str [], .slice none 0 0, .slice none 0 0, .slice none 0 0, .int .i64 0, .int .i64 0, str [], .int .i64 0, .int .i64 0, str [], .slice none 0 0, .slice none 0 0, .int .i64 0, .slice none 0 0, .int .i64 0, .int .i64 0, .int .i64 0, .int .i64 0, .int .i64 0, .int .i64 0]⟩) := by kernel_rfl
theorem ia48 {b off i : Nat} : indexAddrV Tryz.prog 48 (.pointer (some ⟨b, off, none⟩)) i = bb (Nat.blt i 2) (some (.pointer (some ⟨b, off + i * 20, none⟩))) := by kernel_rfl
theorem bv48 {z : List Value} {ps : List (Nat × Value)} : buildV Tryz.prog 48 z ps = ob (fillL (fun i => some (i * 20, 20)) ps z) fun l => some (.agg ⟨l⟩) := by kernel_rfl
theorem ld49 : rLoad Tryz.prog fr σ 49 a = ob (ev fr a) fun v => ob (at? v) fun p => pr p fun b off => ob (ob (σ.read b off 1) oneV) fun v => some (v, ⟨b, off, 1⟩) := by kernel_rfl
theorem lv49 {b off : Nat} : loadV Tryz.prog σ 49 (.pointer (some ⟨b, off, none⟩)) = ob (σ.read b off 1) oneV := by kernel_rfl
theorem st49 : eStore Tryz.prog fr σ 49 a v = ob (ev fr a) fun a => ob (ev fr v) fun v => ob (ob (at? a) fun p => pr p fun b off => bi (isTup v) none (bb ((cellsL v).length.beq 1) (σ.write b off (cellsL v)))) fun σ => some (undefV, σ) := by kernel_rfl
theorem al49 : nAlloc Tryz.prog 49 = some ([.slice none 0 0], ptrTo) := by kernel_rfl
theorem ze49 : zero? Tryz.prog 49 = some (.slice none 0 0) := by kernel_rfl
theorem ia49 {b off len cap i : Nat} {s : Option Nat} : indexAddrV Tryz.prog 49 (.slice (some ⟨b, off, s⟩) len cap) i = bb (Nat.blt i len) (some (.pointer (some ⟨b, off + i * 40, none⟩))) := by kernel_rfl
theorem ap49 {b : Option Addr} {len cap : Nat} {w : Value} : appendV Tryz.prog σ 49 (.slice b len cap) w = ob (srcCells σ 40 w) fun p => pr p fun n new => bi (Nat.ble (len + n) cap) (appendIn σ 40 b len cap n new) (bb (Nat.ble ((len + n) * 561) room) (appendNew σ 40 b len n new)) := by kernel_rfl
theorem ss49 {b : Option Addr} {len cap : Nat} {lo hi : Option Value} : sliceV Tryz.prog 49 (.slice b len cap) lo hi = ob (bnds len cap lo hi) fun p => pr p fun lo hi => sliceAt 40 b lo hi cap := by kernel_rfl
theorem sl49 {len : Nat} {parts : Array (Nat × Operand)} : nSlice Tryz.prog fr 49 len parts = ob (evs fr (parts.toList.map (·.2))) fun vs => bb (Nat.ble (len * 40) 16777216) (ob (fillL (fun i => some (i * 40, 40)) ((parts.toList.map (·.1)).zip vs) (rep [str [], .slice none 0 0, .slice none 0 0, .slice none 0 0, .int .i64 0, .int .i64 0, str [], .int .i64 0, .int .i64 0, str [], .slice none 0 0, .slice none 0 0, .int .i64 0, .slice none 0 0, .int .i64 0, .int .i64 0, .int .i64 0, .int .i64 0, .int .i64 0, .int .i64 0, str [], .slice none 0 0, .slice none 0 0, .slice none 0 0, .int .i64 0, .int .i64 0, str [], .int .i64 0, .int .i64 0, str [], .slice none 0 0, .slice none 0 0, .int .i64 0, .slice none 0 0, .int .i64 0, .int .i64 0, .int .i64 0, .int .i64 0, .int .i64 0, .int .i64 0] len)) fun l => some (l, fun n => .slice (some ⟨n, 0, none⟩) len len)) := by kernel_rfl
theorem mk49 {l c : Operand} : nMake Tryz.prog fr 49 l c = ob (evN fr l) fun l => ob (evN fr c) fun c => bb (Nat.ble l c) (bb (Nat.ble (c * 561) room) (some (rep [str [], .slice none 0 0, .slice none 0 0, .slice none 0 0, .int .i64 0, .int .i64 0, str [], .int .i64 0, .int .i64 0, str [], .slice none 0 0, .slice none 0 0, .int .i64 0, .slice none 0 0, .int .i64 0, .int .i64 0, .int .i64 0, .int .i64 0, .int .i64 0, .int .i64 0, str [], .slice none 0 0, .slice none 0 0, .slice none 0 0, .int .i64 0, .int .i64 0, str [], .int .i64 0, .int .i64 0, str [], .slice none 0 0, .slice none 0 0, .int .i64 0, .slice none 0 0, .int .i64 0, .int .i64 0, .int .i64 0, .int .i64 0, .int .i64 0, .int .i64 0] c, fun n => .slice (some ⟨n, 0, none⟩) l c))) := by kernel_rfl
theorem ld50 : rLoad Tryz.prog fr σ 50 a = ob (ev fr a) fun v => ob (at? v) fun p => pr p fun b off => ob (ob (σ.read b off 1) oneV) fun v => some (v, ⟨b, off, 1⟩) := by kernel_rfl
theorem lv50 {b off : Nat} : loadV Tryz.prog σ 50 (.pointer (some ⟨b, off, none⟩)) = ob (σ.read b off 1) oneV := by kernel_rfl
theorem st50 : eStore Tryz.prog fr σ 50 a v = ob (ev fr a) fun a => ob (ev fr v) fun v => ob (ob (at? a) fun p => pr p fun b off => bi (isTup v) none (bb ((cellsL v).length.beq 1) (σ.write b off (cellsL v)))) fun σ => some (undefV, σ) := by kernel_rfl
theorem al50 : nAlloc Tryz.prog 50 = some ([.int .i64 0], ptrTo) := by kernel_rfl
theorem ze50 : zero? Tryz.prog 50 = some (.int .i64 0) := by kernel_rfl
theorem ld64 : rLoad Tryz.prog fr σ 64 a = ob (ev fr a) fun v => ob (at? v) fun p => pr p fun b off => ob (ob (σ.read b off 1) oneV) fun v => some (v, ⟨b, off, 1⟩) := by kernel_rfl
theorem lv64 {b off : Nat} : loadV Tryz.prog σ 64 (.pointer (some ⟨b, off, none⟩)) = ob (σ.read b off 1) oneV := by kernel_rfl
theorem st64 : eStore Tryz.prog fr σ 64 a v = ob (ev fr a) fun a => ob (ev fr v) fun v => ob (ob (at? a) fun p => pr p fun b off => bi (isTup v) none (bb ((cellsL v).length.beq 1) (σ.write b off (cellsL v)))) fun σ => some (undefV, σ) := by kernel_rfl
theorem al64 : nAlloc Tryz.prog 64 = some ([.pointer none], ptrTo) := by kernel_rfl
theorem ze64 : zero? Tryz.prog 64 = some (.pointer none) := by kernel_rfl
theorem ld74 : rLoad Tryz.prog fr σ 74 a = ob (ev fr a) fun v => ob (at? v) fun p => pr p fun b off => ob (ob (σ.read b off 1) oneV) fun v => some (v, ⟨b, off, 1⟩) := by kernel_rfl
theorem lv74 {b off : Nat} : loadV Tryz.prog σ 74 (.pointer (some ⟨b, off, none⟩)) = ob (σ.read b off 1) oneV := by kernel_rfl
theorem st74 : eStore Tryz.prog fr σ 74 a v = ob (ev fr a) fun a => ob (ev fr v) fun v => ob (ob (at? a) fun p => pr p fun b off => bi (isTup v) none (bb ((cellsL v).length.beq 1) (σ.write b off (cellsL v)))) fun σ => some (undefV, σ) := by kernel_rfl
theorem al74 : nAlloc Tryz.prog 74 = some ([.slice none 0 0], ptrTo) := by kernel_rfl
theorem ze74 : zero? Tryz.prog 74 = some (.slice none 0 0) := by kernel_rfl
theorem ia74 {b off len cap i : Nat} {s : Option Nat} : indexAddrV Tryz.prog 74 (.slice (some ⟨b, off, s⟩) len cap) i = bb (Nat.blt i len) (some (.pointer (some ⟨b, off + i * 1, none⟩))) := by kernel_rfl
theorem ap74 {b : Option Addr} {len cap : Nat} {w : Value} : appendV Tryz.prog σ 74 (.slice b len cap) w = ob (srcCells σ 1 w) fun p => pr p fun n new => bi (Nat.ble (len + n) cap) (appendIn σ 1 b len cap n new) (bb (Nat.ble ((len + n) * 2) room) (appendNew σ 1 b len n new)) := by kernel_rfl
theorem ss74 {b : Option Addr} {len cap : Nat} {lo hi : Option Value} : sliceV Tryz.prog 74 (.slice b len cap) lo hi = ob (bnds len cap lo hi) fun p => pr p fun lo hi => sliceAt 1 b lo hi cap := by kernel_rfl
theorem sl74 {len : Nat} {parts : Array (Nat × Operand)} : nSlice Tryz.prog fr 74 len parts = ob (evs fr (parts.toList.map (·.2))) fun vs => bb (Nat.ble (len * 1) 16777216) (ob (fillL (fun i => some (i * 1, 1)) ((parts.toList.map (·.1)).zip vs) (rep [.int .u8 0] len)) fun l => some (l, fun n => .slice (some ⟨n, 0, none⟩) len len)) := by kernel_rfl
theorem mk74 {l c : Operand} : nMake Tryz.prog fr 74 l c = ob (evN fr l) fun l => ob (evN fr c) fun c => bb (Nat.ble l c) (bb (Nat.ble (c * 2) room) (some (rep [.int .u8 0] c, fun n => .slice (some ⟨n, 0, none⟩) l c))) := by kernel_rfl
theorem ld77 : rLoad Tryz.prog fr σ 77 a = ob (ev fr a) fun v => ob (at? v) fun p => pr p fun b off => ob (ob (σ.read b off 5) fun cs => some (.agg ⟨cs⟩)) fun v => some (v, ⟨b, off, 5⟩) := by kernel_rfl
theorem lv77 {b off : Nat} : loadV Tryz.prog σ 77 (.pointer (some ⟨b, off, none⟩)) = ob (σ.read b off 5) fun cs => some (.agg ⟨cs⟩) := by kernel_rfl
theorem st77 : eStore Tryz.prog fr σ 77 a v = ob (ev fr a) fun a => ob (ev fr v) fun v => ob (ob (at? a) fun p => pr p fun b off => bi (isTup v) none (bb ((cellsL v).length.beq 5) (σ.write b off (cellsL v)))) fun σ => some (undefV, σ) := by kernel_rfl
theorem al77 : nAlloc Tryz.prog 77 = some ([str [], .int .i64 0, .int .i64 0, .int .i64 0, .bool false], ptrTo) := by kernel_rfl
theorem ze77 : zero? Tryz.prog 77 = some (.agg ⟨[str [], .int .i64 0, .int .i64 0, .int .i64 0, .bool false]⟩) := by kernel_rfl
theorem bu77 : pBuild Tryz.prog fr 77 #[] = some (.agg ⟨[str [], .int .i64 0, .int .i64 0, .int .i64 0, .bool false]⟩) := by kernel_rfl
theorem bv77 {z : List Value} {ps : List (Nat × Value)} : buildV Tryz.prog 77 z ps = ob (fillL (fun i => [(0, 1), (1, 1), (2, 1), (3, 1), (4, 1)][i]?) ps z) fun l => some (.agg ⟨l⟩) := by kernel_rfl
theorem fa77_0 : pFieldAddr Tryz.prog fr 77 x 0 = ob (ev fr x) fun v => ob (at? v) fun p => pr p fun b off => some (.pointer (some ⟨b, off, none⟩)) := by kernel_rfl
theorem fi77_0 : pField Tryz.prog fr 77 x 0 = ob (ev fr x) fun v => ob (agg? v) fun cs => ob (sub cs 0 1) oneV := by kernel_rfl
theorem fa77_1 : pFieldAddr Tryz.prog fr 77 x 1 = ob (ev fr x) fun v => ob (at? v) fun p => pr p fun b off => some (.pointer (some ⟨b, off + 1, none⟩)) := by kernel_rfl
theorem fi77_1 : pField Tryz.prog fr 77 x 1 = ob (ev fr x) fun v => ob (agg? v) fun cs => ob (sub cs 1 1) oneV := by kernel_rfl
theorem fa77_2 : pFieldAddr Tryz.prog fr 77 x 2 = ob (ev fr x) fun v => ob (at? v) fun p => pr p fun b off => some (.pointer (some ⟨b, off + 2, none⟩)) := by kernel_rfl
theorem fi77_2 : pField Tryz.prog fr 77 x 2 = ob (ev fr x) fun v => ob (agg? v) fun cs => ob (sub cs 2 1) oneV := by kernel_rfl
theorem fa77_3 : pFieldAddr Tryz.prog fr 77 x 3 = ob (ev fr x) fun v => ob (at? v) fun p => pr p fun b off => some (.pointer (some ⟨b, off + 3, none⟩)) := by kernel_rfl
theorem fi77_3 : pField Tryz.prog fr 77 x 3 = ob (ev fr x) fun v => ob (agg? v) fun cs => ob (sub cs 3 1) oneV := by kernel_rfl
theorem fa77_4 : pFieldAddr Tryz.prog fr 77 x 4 = ob (ev fr x) fun v => ob (at? v) fun p => pr p fun b off => some (.pointer (some ⟨b, off + 4, none⟩)) := by kernel_rfl
theorem fi77_4 : pField Tryz.prog fr 77 x 4 = ob (ev fr x) fun v => ob (agg? v) fun cs => ob (sub cs 4 1) oneV := by kernel_rfl
theorem ld78 : rLoad Tryz.prog fr σ 78 a = ob (ev fr a) fun v => ob (at? v) fun p => pr p fun b off => ob (ob (σ.read b off 5) fun cs => some (.agg ⟨cs⟩)) fun v => some (v, ⟨b, off, 5⟩) := by kernel_rfl
theorem lv78 {b off : Nat} : loadV Tryz.prog σ 78 (.pointer (some ⟨b, off, none⟩)) = ob (σ.read b off 5) fun cs => some (.agg ⟨cs⟩) := by kernel_rfl
theorem st78 : eStore Tryz.prog fr σ 78 a v = ob (ev fr a) fun a => ob (ev fr v) fun v => ob (ob (at? a) fun p => pr p fun b off => bi (isTup v) none (bb ((cellsL v).length.beq 5) (σ.write b off (cellsL v)))) fun σ => some (undefV, σ) := by kernel_rfl
theorem al78 : nAlloc Tryz.prog 78 = some ([str [], .int .i64 0, .int .i64 0, .int .i64 0, .bool false], ptrTo) := by kernel_rfl
theorem ze78 : zero? Tryz.prog 78 = some (.agg ⟨[str [], .int .i64 0, .int .i64 0, .int .i64 0, .bool false]⟩) := by kernel_rfl
theorem bu78 : pBuild Tryz.prog fr 78 #[] = some (.agg ⟨[str [], .int .i64 0, .int .i64 0, .int .i64 0, .bool false]⟩) := by kernel_rfl
theorem bv78 {z : List Value} {ps : List (Nat × Value)} : buildV Tryz.prog 78 z ps = ob (fillL (fun i => [(0, 1), (1, 1), (2, 1), (3, 1), (4, 1)][i]?) ps z) fun l => some (.agg ⟨l⟩) := by kernel_rfl
theorem fa78_0 : pFieldAddr Tryz.prog fr 78 x 0 = ob (ev fr x) fun v => ob (at? v) fun p => pr p fun b off => some (.pointer (some ⟨b, off, none⟩)) := by kernel_rfl
theorem fi78_0 : pField Tryz.prog fr 78 x 0 = ob (ev fr x) fun v => ob (agg? v) fun cs => ob (sub cs 0 1) oneV := by kernel_rfl
theorem fa78_1 : pFieldAddr Tryz.prog fr 78 x 1 = ob (ev fr x) fun v => ob (at? v) fun p => pr p fun b off => some (.pointer (some ⟨b, off + 1, none⟩)) := by kernel_rfl
theorem fi78_1 : pField Tryz.prog fr 78 x 1 = ob (ev fr x) fun v => ob (agg? v) fun cs => ob (sub cs 1 1) oneV := by kernel_rfl
theorem fa78_2 : pFieldAddr Tryz.prog fr 78 x 2 = ob (ev fr x) fun v => ob (at? v) fun p => pr p fun b off => some (.pointer (some ⟨b, off + 2, none⟩)) := by kernel_rfl
theorem fi78_2 : pField Tryz.prog fr 78 x 2 = ob (ev fr x) fun v => ob (agg? v) fun cs => ob (sub cs 2 1) oneV := by kernel_rfl
theorem fa78_3 : pFieldAddr Tryz.prog fr 78 x 3 = ob (ev fr x) fun v => ob (at? v) fun p => pr p fun b off => some (.pointer (some ⟨b, off + 3, none⟩)) := by kernel_rfl
theorem fi78_3 : pField Tryz.prog fr 78 x 3 = ob (ev fr x) fun v => ob (agg? v) fun cs => ob (sub cs 3 1) oneV := by kernel_rfl
theorem fa78_4 : pFieldAddr Tryz.prog fr 78 x 4 = ob (ev fr x) fun v => ob (at? v) fun p => pr p fun b off => some (.pointer (some ⟨b, off + 4, none⟩)) := by kernel_rfl
theorem fi78_4 : pField Tryz.prog fr 78 x 4 = ob (ev fr x) fun v => ob (agg? v) fun cs => ob (sub cs 4 1) oneV := by kernel_rfl
theorem ld85 : rLoad Tryz.prog fr σ 85 a = ob (ev fr a) fun v => ob (at? v) fun p => pr p fun b off => ob (ob (σ.read b off 2) fun cs => some (.agg ⟨cs⟩)) fun v => some (v, ⟨b, off, 2⟩) := by kernel_rfl
theorem lv85 {b off : Nat} : loadV Tryz.prog σ 85 (.pointer (some ⟨b, off, none⟩)) = ob (σ.read b off 2) fun cs => some (.agg ⟨cs⟩) := by kernel_rfl
theorem st85 : eStore Tryz.prog fr σ 85 a v = ob (ev fr a) fun a => ob (ev fr v) fun v => ob (ob (at? a) fun p => pr p fun b off => bi (isTup v) none (bb ((cellsL v).length.beq 2) (σ.write b off (cellsL v)))) fun σ => some (undefV, σ) := by kernel_rfl
theorem al85 : nAlloc Tryz.prog 85 = some ([.int .i64 0, .int .i64 0], ptrTo) := by kernel_rfl
theorem ze85 : zero? Tryz.prog 85 = some (.agg ⟨[.int .i64 0, .int .i64 0]⟩) := by kernel_rfl
theorem bu85 : pBuild Tryz.prog fr 85 #[] = some (.agg ⟨[.int .i64 0, .int .i64 0]⟩) := by kernel_rfl
theorem bv85 {z : List Value} {ps : List (Nat × Value)} : buildV Tryz.prog 85 z ps = ob (fillL (fun i => [(0, 1), (1, 1)][i]?) ps z) fun l => some (.agg ⟨l⟩) := by kernel_rfl
theorem fa85_0 : pFieldAddr Tryz.prog fr 85 x 0 = ob (ev fr x) fun v => ob (at? v) fun p => pr p fun b off => some (.pointer (some ⟨b, off, none⟩)) := by kernel_rfl
theorem fi85_0 : pField Tryz.prog fr 85 x 0 = ob (ev fr x) fun v => ob (agg? v) fun cs => ob (sub cs 0 1) oneV := by kernel_rfl
theorem fa85_1 : pFieldAddr Tryz.prog fr 85 x 1 = ob (ev fr x) fun v => ob (at? v) fun p => pr p fun b off => some (.pointer (some ⟨b, off + 1, none⟩)) := by kernel_rfl
theorem fi85_1 : pField Tryz.prog fr 85 x 1 = ob (ev fr x) fun v => ob (agg? v) fun cs => ob (sub cs 1 1) oneV := by kernel_rfl
theorem ld86 : rLoad Tryz.prog fr σ 86 a = ob (ev fr a) fun v => ob (at? v) fun p => pr p fun b off => ob (ob (σ.read b off 2) fun cs => some (.agg ⟨cs⟩)) fun v => some (v, ⟨b, off, 2⟩) := by kernel_rfl
theorem lv86 {b off : Nat} : loadV Tryz.prog σ 86 (.pointer (some ⟨b, off, none⟩)) = ob (σ.read b off 2) fun cs => some (.agg ⟨cs⟩) := by kernel_rfl
theorem st86 : eStore Tryz.prog fr σ 86 a v = ob (ev fr a) fun a => ob (ev fr v) fun v => ob (ob (at? a) fun p => pr p fun b off => bi (isTup v) none (bb ((cellsL v).length.beq 2) (σ.write b off (cellsL v)))) fun σ => some (undefV, σ) := by kernel_rfl
theorem al86 : nAlloc Tryz.prog 86 = some ([.int .i64 0, .int .i64 0], ptrTo) := by kernel_rfl
theorem ze86 : zero? Tryz.prog 86 = some (.agg ⟨[.int .i64 0, .int .i64 0]⟩) := by kernel_rfl
theorem bu86 : pBuild Tryz.prog fr 86 #[] = some (.agg ⟨[.int .i64 0, .int .i64 0]⟩) := by kernel_rfl
theorem bv86 {z : List Value} {ps : List (Nat × Value)} : buildV Tryz.prog 86 z ps = ob (fillL (fun i => [(0, 1), (1, 1)][i]?) ps z) fun l => some (.agg ⟨l⟩) := by kernel_rfl
theorem fa86_0 : pFieldAddr Tryz.prog fr 86 x 0 = ob (ev fr x) fun v => ob (at? v) fun p => pr p fun b off => some (.pointer (some ⟨b, off, none⟩)) := by kernel_rfl
theorem fi86_0 : pField Tryz.prog fr 86 x 0 = ob (ev fr x) fun v => ob (agg? v) fun cs => ob (sub cs 0 1) oneV := by kernel_rfl
theorem fa86_1 : pFieldAddr Tryz.prog fr 86 x 1 = ob (ev fr x) fun v => ob (at? v) fun p => pr p fun b off => some (.pointer (some ⟨b, off + 1, none⟩)) := by kernel_rfl
theorem fi86_1 : pField Tryz.prog fr 86 x 1 = ob (ev fr x) fun v => ob (agg? v) fun cs => ob (sub cs 1 1) oneV := by kernel_rfl
theorem ld87 : rLoad Tryz.prog fr σ 87 a = ob (ev fr a) fun v => ob (at? v) fun p => pr p fun b off => ob (ob (σ.read b off 3) fun cs => some (.agg ⟨cs⟩)) fun v => some (v, ⟨b, off, 3⟩) := by kernel_rfl
theorem lv87 {b off : Nat} : loadV Tryz.prog σ 87 (.pointer (some ⟨b, off, none⟩)) = ob (σ.read b off 3) fun cs => some (.agg ⟨cs⟩) := by kernel_rfl
theorem st87 : eStore Tryz.prog fr σ 87 a v = ob (ev fr a) fun a => ob (ev fr v) fun v => ob (ob (at? a) fun p => pr p fun b off => bi (isTup v) none (bb ((cellsL v).length.beq 3) (σ.write b off (cellsL v)))) fun σ => some (undefV, σ) := by kernel_rfl
theorem al87 : nAlloc Tryz.prog 87 = some ([str [], str [], .int .i64 0], ptrTo) := by kernel_rfl
theorem ze87 : zero? Tryz.prog 87 = some (.agg ⟨[str [], str [], .int .i64 0]⟩) := by kernel_rfl
theorem bu87 : pBuild Tryz.prog fr 87 #[] = some (.agg ⟨[str [], str [], .int .i64 0]⟩) := by kernel_rfl
theorem bv87 {z : List Value} {ps : List (Nat × Value)} : buildV Tryz.prog 87 z ps = ob (fillL (fun i => [(0, 1), (1, 1), (2, 1)][i]?) ps z) fun l => some (.agg ⟨l⟩) := by kernel_rfl
theorem fa87_0 : pFieldAddr Tryz.prog fr 87 x 0 = ob (ev fr x) fun v => ob (at? v) fun p => pr p fun b off => some (.pointer (some ⟨b, off, none⟩)) := by kernel_rfl
theorem fi87_0 : pField Tryz.prog fr 87 x 0 = ob (ev fr x) fun v => ob (agg? v) fun cs => ob (sub cs 0 1) oneV := by kernel_rfl
theorem fa87_1 : pFieldAddr Tryz.prog fr 87 x 1 = ob (ev fr x) fun v => ob (at? v) fun p => pr p fun b off => some (.pointer (some ⟨b, off + 1, none⟩)) := by kernel_rfl
theorem fi87_1 : pField Tryz.prog fr 87 x 1 = ob (ev fr x) fun v => ob (agg? v) fun cs => ob (sub cs 1 1) oneV := by kernel_rfl
theorem fa87_2 : pFieldAddr Tryz.prog fr 87 x 2 = ob (ev fr x) fun v => ob (at? v) fun p => pr p fun b off => some (.pointer (some ⟨b, off + 2, none⟩)) := by kernel_rfl
theorem fi87_2 : pField Tryz.prog fr 87 x 2 = ob (ev fr x) fun v => ob (agg? v) fun cs => ob (sub cs 2 1) oneV := by kernel_rfl
theorem ld88 : rLoad Tryz.prog fr σ 88 a = ob (ev fr a) fun v => ob (at? v) fun p => pr p fun b off => ob (ob (σ.read b off 3) fun cs => some (.agg ⟨cs⟩)) fun v => some (v, ⟨b, off, 3⟩) := by kernel_rfl
theorem lv88 {b off : Nat} : loadV Tryz.prog σ 88 (.pointer (some ⟨b, off, none⟩)) = ob (σ.read b off 3) fun cs => some (.agg ⟨cs⟩) := by kernel_rfl
theorem st88 : eStore Tryz.prog fr σ 88 a v = ob (ev fr a) fun a => ob (ev fr v) fun v => ob (ob (at? a) fun p => pr p fun b off => bi (isTup v) none (bb ((cellsL v).length.beq 3) (σ.write b off (cellsL v)))) fun σ => some (undefV, σ) := by kernel_rfl
theorem al88 : nAlloc Tryz.prog 88 = some ([str [], str [], .int .i64 0], ptrTo) := by kernel_rfl
theorem ze88 : zero? Tryz.prog 88 = some (.agg ⟨[str [], str [], .int .i64 0]⟩) := by kernel_rfl
theorem bu88 : pBuild Tryz.prog fr 88 #[] = some (.agg ⟨[str [], str [], .int .i64 0]⟩) := by kernel_rfl
theorem bv88 {z : List Value} {ps : List (Nat × Value)} : buildV Tryz.prog 88 z ps = ob (fillL (fun i => [(0, 1), (1, 1), (2, 1)][i]?) ps z) fun l => some (.agg ⟨l⟩) := by kernel_rfl
theorem fa88_0 : pFieldAddr Tryz.prog fr 88 x 0 = ob (ev fr x) fun v => ob (at? v) fun p => pr p fun b off => some (.pointer (some ⟨b, off, none⟩)) := by kernel_rfl
theorem fi88_0 : pField Tryz.prog fr 88 x 0 = ob (ev fr x) fun v => ob (agg? v) fun cs => ob (sub cs 0 1) oneV := by kernel_rfl
theorem fa88_1 : pFieldAddr Tryz.prog fr 88 x 1 = ob (ev fr x) fun v => ob (at? v) fun p => pr p fun b off => some (.pointer (some ⟨b, off + 1, none⟩)) := by kernel_rfl
theorem fi88_1 : pField Tryz.prog fr 88 x 1 = ob (ev fr x) fun v => ob (agg? v) fun cs => ob (sub cs 1 1) oneV := by kernel_rfl
theorem fa88_2 : pFieldAddr Tryz.prog fr 88 x 2 = ob (ev fr x) fun v => ob (at? v) fun p => pr p fun b off => some (.pointer (some ⟨b, off + 2, none⟩)) := by kernel_rfl
theorem fi88_2 : pField Tryz.prog fr 88 x 2 = ob (ev fr x) fun v => ob (agg? v) fun cs => ob (sub cs 2 1) oneV := by kernel_rfl
theorem ld116 : rLoad Tryz.prog fr σ 116 a = ob (ev fr a) fun v => ob (at? v) fun p => pr p fun b off => ob (ob (σ.read b off 2) fun cs => some (.agg ⟨cs⟩)) fun v => some (v, ⟨b, off, 2⟩) := by kernel_rfl
theorem lv116 {b off : Nat} : loadV Tryz.prog σ 116 (.pointer (some ⟨b, off, none⟩)) = ob (σ.read b off 2) fun cs => some (.agg ⟨cs⟩) := by kernel_rfl
theorem st116 : eStore Tryz.prog fr σ 116 a v = ob (ev fr a) fun a => ob (ev fr v) fun v => ob (ob (at? a) fun p => pr p fun b off => bi (isTup v) none (bb ((cellsL v).length.beq 2) (σ.write b off (cellsL v)))) fun σ => some (undefV, σ) := by kernel_rfl
theorem al116 : nAlloc Tryz.prog 116 = some ([.int .i64 0, .int .i64 0], ptrTo) := by kernel_rfl
theorem ze116 : zero? Tryz.prog 116 = some (.agg ⟨[.int .i64 0, .int .i64 0]⟩) := by kernel_rfl
theorem bu116 : pBuild Tryz.prog fr 116 #[] = some (.agg ⟨[.int .i64 0, .int .i64 0]⟩) := by kernel_rfl
theorem ia116 {b off i : Nat} : indexAddrV Tryz.prog 116 (.pointer (some ⟨b, off, none⟩)) i = bb (Nat.blt i 2) (some (.pointer (some ⟨b, off + i * 1, none⟩))) := by kernel_rfl
theorem bv116 {z : List Value} {ps : List (Nat × Value)} : buildV Tryz.prog 116 z ps = ob (fillL (fun i => some (i * 1, 1)) ps z) fun l => some (.agg ⟨l⟩) := by kernel_rfl
theorem ld117 : rLoad Tryz.prog fr σ 117 a = ob (ev fr a) fun v => ob (at? v) fun p => pr p fun b off => ob (ob (σ.read b off 4) fun cs => some (.agg ⟨cs⟩)) fun v => some (v, ⟨b, off, 4⟩) := by kernel_rfl
theorem lv117 {b off : Nat} : loadV Tryz.prog σ 117 (.pointer (some ⟨b, off, none⟩)) = ob (σ.read b off 4) fun cs => some (.agg ⟨cs⟩) := by kernel_rfl
theorem st117 : eStore Tryz.prog fr σ 117 a v = ob (ev fr a) fun a => ob (ev fr v) fun v => ob (ob (at? a) fun p => pr p fun b off => bi (isTup v) none (bb ((cellsL v).length.beq 4) (σ.write b off (cellsL v)))) fun σ => some (undefV, σ) := by kernel_rfl
theorem al117 : nAlloc Tryz.prog 117 = some ([.int .i64 0, .int .i64 0, .int .i64 0, .int .i64 0], ptrTo) := by kernel_rfl
theorem ze117 : zero? Tryz.prog 117 = some (.agg ⟨[.int .i64 0, .int .i64 0, .int .i64 0, .int .i64 0]⟩) := by kernel_rfl
theorem bu117 : pBuild Tryz.prog fr 117 #[] = some (.agg ⟨[.int .i64 0, .int .i64 0, .int .i64 0, .int .i64 0]⟩) := by kernel_rfl
theorem ia117 {b off i : Nat} : indexAddrV Tryz.prog 117 (.pointer (some ⟨b, off, none⟩)) i = bb (Nat.blt i 4) (some (.pointer (some ⟨b, off + i * 1, none⟩))) := by kernel_rfl
theorem bv117 {z : List Value} {ps : List (Nat × Value)} : buildV Tryz.prog 117 z ps = ob (fillL (fun i => some (i * 1, 1)) ps z) fun l => some (.agg ⟨l⟩) := by kernel_rfl
end
end Go.Proofs.G
namespace Go.Proofs.G
open Go Go.Ab
/-- The checks of the examples give true and leave nothing that can be reached. -/
noncomputable def HS : Sums := fun g => if g = 9 then some (fun vs σ => match vs with | [] => some ⟨false, .bool true, σ⟩ | _ => none) else none
theorem ev_san {σ : St} {Q : CR → Prop} {uq : Hd Q} : Ev (go Tryz.prog HS (.fn 9) [] σ) Q uq = Q ⟨false, .bool true, σ⟩ := by
  show Ev (some _) Q _ = _
  rw [ev_some]
theorem cv_u8_int {σ : St} {n : Int} : convA Tryz.prog σ 5 3 (.int .u8 n) = some ⟨.int .i64 (IntKind.i64.wrap n), σ, .none⟩ := by kernel_rfl
theorem cv_int_u8 {σ : St} {n : Int} : convA Tryz.prog σ 3 5 (.int .i64 n) = some ⟨.int .u8 (IntKind.u8.wrap n), σ, .none⟩ := by kernel_rfl
theorem cv_bytes {σ : St} {b off n c : Nat} {sp : Option Nat} : convA Tryz.prog σ 74 9 (.slice (some ⟨b, off, sp⟩) n c) = ob (σ.read b off n) fun vs => ob (unbytes vs) fun l => some ⟨str l, σ, .read ⟨b, off, n⟩⟩ := conv_slice (e := 5) (by kernel_rfl) (by kernel_rfl) (by kernel_rfl)
theorem cv_str {σ : St} {l : List UInt8} : convA Tryz.prog σ 9 74 (str l) = some ⟨.slice (some ⟨σ.n, 0, some 1⟩) l.length l.length, σ.new (bytesV l), .none⟩ := by kernel_rfl
theorem ix_str {l : List UInt8} {i : Nat} : indexV Tryz.prog 9 (str l) i = ob (sub l i 1) oneB := by kernel_rfl
theorem ss_str {l : List UInt8} {lo hi : Option Value} : sliceV Tryz.prog 9 (str l) lo hi = ob (bnds l.length l.length lo hi) fun p => pr p fun lo hi => ob (sub l lo (hi - lo)) fun l => some (str l) := by kernel_rfl
theorem bq_bool {x y : Operand} {a b : Bool} : bin2 Tryz.prog .eql 4 x y (.bool a) (.bool b) = some (.bool (bi a b (!b))) := by cases a <;> cases b <;> kernel_rfl
theorem natl {k : IntKind} : nat? (.int k 1) = some 1 ∧ nat? (.int k 2) = some 2 ∧ nat? (.int k 3) = some 3 ∧ nat? (.int k 4) = some 4 ∧ nat? (.int k 5) = some 5 ∧ nat? (.int k 6) = some 6 ∧ nat? (.int k 7) = some 7 ∧ nat? (.int k 8) = some 8 ∧ nat? (.int k 9) = some 9 ∧ nat? (.int k 10) = some 10 ∧ nat? (.int k 11) = some 11 ∧ nat? (.int k 12) = some 12 ∧ nat? (.int k 13) = some 13 ∧ nat? (.int k 14) = some 14 ∧ nat? (.int k 15) = some 15 ∧ nat? (.int k 16) = some 16 := ⟨rfl, rfl, rfl, rfl, rfl, rfl, rfl, rfl, rfl, rfl, rfl, rfl, rfl, rfl, rfl, rfl⟩
end Go.Proofs.G
namespace Go.Proofs.G
open Go Go.Ab
set_option linter.defProp false
def bunFD := And.intro (And.intro (And.intro (And.intro (And.intro (And.intro (And.intro (And.intro (@ld3) (@st3)) (And.intro (@ld4) (@st4))) (And.intro (And.intro (@ld5) (@st5)) (And.intro (@ld9) (@st9)))) (And.intro (And.intro (And.intro (@ld22) (@st22)) (And.intro (@sl22) (@mk22))) (And.intro (And.intro (@ld23) (@st23)) (And.intro (@sl23) (And.intro (@mk23) (@ld24)))))) (And.intro (And.intro (And.intro (And.intro (@st24) (@sl24)) (And.intro (@mk24) (@ld25))) (And.intro (And.intro (@st25) (@sl25)) (And.intro (@mk25) (And.intro (@ld26) (@st26))))) (And.intro (And.intro (And.intro (@sl26) (@mk26)) (And.intro (@ld27) (@st27))) (And.intro (And.intro (@bu27) (@ld28)) (And.intro (@st28) (And.intro (@bu28) (@fa28_0))))))) (And.intro (And.intro (And.intro (And.intro (And.intro (@fi28_0) (@fa28_1)) (And.intro (@fi28_1) (@fa28_2))) (And.intro (And.intro (@fi28_2) (@fa28_3)) (And.intro (@fi28_3) (And.intro (@fa28_4) (@fi28_4))))) (And.intro (And.intro (And.intro (@fa28_5) (@fi28_5)) (And.intro (@fa28_6) (@fi28_6))) (And.intro (And.intro (@ld29) (@st29)) (And.intro (@bu29) (And.intro (@fa29_0) (@fi29_0)))))) (And.intro (And.intro (And.intro (And.intro (@fa29_1) (@fi29_1)) (And.intro (@fa29_2) (@fi29_2))) (And.intro (And.intro (@fa29_3) (@fi29_3)) (And.intro (@fa29_4) (And.intro (@fi29_4) (@fa29_5))))) (And.intro (And.intro (And.intro (@fi29_5) (@fa29_6)) (And.intro (@fi29_6) (@ld30))) (And.intro (And.intro (@st30) (@bu30)) (And.intro (@ld31) (And.intro (@st31) (@bu31)))))))) (And.intro (And.intro (And.intro (And.intro (And.intro (And.intro (@ld33) (@st33)) (And.intro (@sl33) (@mk33))) (And.intro (And.intro (@ld34) (@st34)) (And.intro (@sl34) (And.intro (@mk34) (@ld35))))) (And.intro (And.intro (And.intro (@st35) (@sl35)) (And.intro (@mk35) (@ld36))) (And.intro (And.intro (@st36) (@bu36)) (And.intro (@fa36_0) (And.intro (@fi36_0) (@fa36_1)))))) (And.intro (And.intro (And.intro (And.intro (@fi36_1) (@ld37)) (And.intro (@st37) (@bu37))) (And.intro (And.intro (@fa37_0) (@fi37_0)) (And.intro (@fa37_1) (And.intro (@fi37_1) (@ld38))))) (And.intro (And.intro (And.intro (@st38) (@sl38)) (And.intro (@mk38) (@ld39))) (And.intro (And.intro (@st39) (@bu39)) (And.intro (@fa39_0) (And.intro (@fi39_0) (@fa39_1))))))) (And.intro (And.intro (And.intro (And.intro (And.intro (@fi39_1) (@fa39_2)) (And.intro (@fi39_2) (@fa39_3))) (And.intro (And.intro (@fi39_3) (@ld40)) (And.intro (@st40) (And.intro (@bu40) (@fa40_0))))) (And.intro (And.intro (And.intro (@fi40_0) (@fa40_1)) (And.intro (@fi40_1) (@fa40_2))) (And.intro (And.intro (@fi40_2) (@fa40_3)) (And.intro (@fi40_3) (And.intro (@ld41) (@st41)))))) (And.intro (And.intro (And.intro (And.intro (@sl41) (@mk41)) (And.intro (@ld42) (@st42))) (And.intro (And.intro (@bu42) (@fa42_0)) (And.intro (@fi42_0) (And.intro (@fa42_1) (@fi42_1))))) (And.intro (And.intro (And.intro (@fa42_2) (@fi42_2)) (And.intro (@fa42_3) (@fi42_3))) (And.intro (And.intro (@fa42_4) (@fi42_4)) (And.intro (@ld43) (And.intro (@st43) (@bu43))))))))) (And.intro (And.intro (And.intro (And.intro (And.intro (And.intro (And.intro (@fa43_0) (@fi43_0)) (And.intro (@fa43_1) (@fi43_1))) (And.intro (And.intro (@fa43_2) (@fi43_2)) (And.intro (@fa43_3) (@fi43_3)))) (And.intro (And.intro (And.intro (@fa43_4) (@fi43_4)) (And.intro (@ld44) (@st44))) (And.intro (And.intro (@bu44) (@fa44_0)) (And.intro (@fi44_0) (And.intro (@fa44_1) (@fi44_1)))))) (And.intro (And.intro (And.intro (And.intro (@fa44_2) (@fi44_2)) (And.intro (@fa44_3) (@fi44_3))) (And.intro (And.intro (@fa44_4) (@fi44_4)) (And.intro (@fa44_5) (And.intro (@fi44_5) (@fa44_6))))) (And.intro (And.intro (And.intro (@fi44_6) (@fa44_7)) (And.intro (@fi44_7) (@fa44_8))) (And.intro (And.intro (@fi44_8) (@fa44_9)) (And.intro (@fi44_9) (And.intro (@fa44_10) (@fi44_10))))))) (And.intro (And.intro (And.intro (And.intro (And.intro (@fa44_11) (@fi44_11)) (And.intro (@ld45) (@st45))) (And.intro (And.intro (@bu45) (@fa45_0)) (And.intro (@fi45_0) (And.intro (@fa45_1) (@fi45_1))))) (And.intro (And.intro (And.intro (@fa45_2) (@fi45_2)) (And.intro (@fa45_3) (@fi45_3))) (And.intro (And.intro (@fa45_4) (@fi45_4)) (And.intro (@fa45_5) (And.intro (@fi45_5) (@fa45_6)))))) (And.intro (And.intro (And.intro (And.intro (@fi45_6) (@fa45_7)) (And.intro (@fi45_7) (@fa45_8))) (And.intro (And.intro (@fi45_8) (@fa45_9)) (And.intro (@fi45_9) (And.intro (@fa45_10) (@fi45_10))))) (And.intro (And.intro (And.intro (@fa45_11) (@fi45_11)) (And.intro (@ld48) (@st48))) (And.intro (And.intro (@bu48) (@ld49)) (And.intro (@st49) (And.intro (@sl49) (@mk49)))))))) (And.intro (And.intro (And.intro (And.intro (And.intro (And.intro (@ld50) (@st50)) (And.intro (@ld64) (@st64))) (And.intro (And.intro (@ld74) (@st74)) (And.intro (@sl74) (And.intro (@mk74) (@ld77))))) (And.intro (And.intro (And.intro (@st77) (@bu77)) (And.intro (@fa77_0) (@fi77_0))) (And.intro (And.intro (@fa77_1) (@fi77_1)) (And.intro (@fa77_2) (And.intro (@fi77_2) (@fa77_3)))))) (And.intro (And.intro (And.intro (And.intro (@fi77_3) (@fa77_4)) (And.intro (@fi77_4) (@ld78))) (And.intro (And.intro (@st78) (@bu78)) (And.intro (@fa78_0) (And.intro (@fi78_0) (@fa78_1))))) (And.intro (And.intro (And.intro (@fi78_1) (@fa78_2)) (And.intro (@fi78_2) (@fa78_3))) (And.intro (And.intro (@fi78_3) (@fa78_4)) (And.intro (@fi78_4) (And.intro (@ld85) (@st85))))))) (And.intro (And.intro (And.intro (And.intro (And.intro (@bu85) (@fa85_0)) (And.intro (@fi85_0) (@fa85_1))) (And.intro (And.intro (@fi85_1) (@ld86)) (And.intro (@st86) (And.intro (@bu86) (@fa86_0))))) (And.intro (And.intro (And.intro (@fi86_0) (@fa86_1)) (And.intro (@fi86_1) (@ld87))) (And.intro (And.intro (@st87) (@bu87)) (And.intro (@fa87_0) (And.intro (@fi87_0) (@fa87_1)))))) (And.intro (And.intro (And.intro (And.intro (@fi87_1) (@fa87_2)) (And.intro (@fi87_2) (@ld88))) (And.intro (And.intro (@st88) (@bu88)) (And.intro (@fa88_0) (And.intro (@fi88_0) (@fa88_1))))) (And.intro (And.intro (And.intro (@fi88_1) (@fa88_2)) (And.intro (@fi88_2) (@ld116))) (And.intro (And.intro (@st116) (@bu116)) (And.intro (@ld117) (And.intro (@st117) (@bu117)))))))))
def bunFU := And.intro (And.intro (And.intro (And.intro (And.intro (And.intro (And.intro (@Tryz.underlying3) (And.intro (@lv3) (@al3))) (And.intro (@ze3) (And.intro (@Tryz.underlying4) (@lv4)))) (And.intro (And.intro (@al4) (And.intro (@ze4) (@Tryz.underlying5))) (And.intro (And.intro (@lv5) (@al5)) (And.intro (@ze5) (@Tryz.underlying9))))) (And.intro (And.intro (And.intro (@lv9) (And.intro (@al9) (@ze9))) (And.intro (And.intro (@Tryz.underlying22) (@lv22)) (And.intro (@al22) (@ze22)))) (And.intro (And.intro (@ia22) (And.intro (@ss22) (@Tryz.underlying23))) (And.intro (And.intro (@lv23) (@al23)) (And.intro (@ze23) (@ia23)))))) (And.intro (And.intro (And.intro (And.intro (@ss23) (And.intro (@Tryz.underlying24) (@lv24))) (And.intro (And.intro (@al24) (@ze24)) (And.intro (@ia24) (@ss24)))) (And.intro (And.intro (@Tryz.underlying25) (And.intro (@lv25) (@al25))) (And.intro (And.intro (@ze25) (@ia25)) (And.intro (@ss25) (@Tryz.underlying26))))) (And.intro (And.intro (And.intro (@lv26) (And.intro (@al26) (@ze26))) (And.intro (And.intro (@ia26) (@ss26)) (And.intro (@Tryz.underlying27) (@lv27)))) (And.intro (And.intro (@al27) (And.intro (@ze27) (@ia27))) (And.intro (And.intro (@bv27) (@Tryz.underlying28)) (And.intro (@lv28) (@al28))))))) (And.intro (And.intro (And.intro (And.intro (And.intro (@ze28) (And.intro (@bv28) (@Tryz.underlying29))) (And.intro (@lv29) (And.intro (@al29) (@ze29)))) (And.intro (And.intro (@bv29) (And.intro (@Tryz.underlying30) (@lv30))) (And.intro (And.intro (@al30) (@ze30)) (And.intro (@ia30) (@bv30))))) (And.intro (And.intro (And.intro (@Tryz.underlying31) (And.intro (@lv31) (@al31))) (And.intro (And.intro (@ze31) (@ia31)) (And.intro (@bv31) (@Tryz.underlying33)))) (And.intro (And.intro (@lv33) (And.intro (@al33) (@ze33))) (And.intro (And.intro (@ia33) (@ss33)) (And.intro (@Tryz.underlying34) (@lv34)))))) (And.intro (And.intro (And.intro (And.intro (@al34) (And.intro (@ze34) (@ia34))) (And.intro (And.intro (@ss34) (@Tryz.underlying35)) (And.intro (@lv35) (@al35)))) (And.intro (And.intro (@ze35) (And.intro (@ia35) (@ss35))) (And.intro (And.intro (@Tryz.underlying36) (@lv36)) (And.intro (@al36) (@ze36))))) (And.intro (And.intro (And.intro (@bv36) (And.intro (@Tryz.underlying37) (@lv37))) (And.intro (And.intro (@al37) (@ze37)) (And.intro (@bv37) (@Tryz.underlying38)))) (And.intro (And.intro (@lv38) (And.intro (@al38) (@ze38))) (And.intro (And.intro (@ia38) (@ss38)) (And.intro (@Tryz.underlying39) (@lv39)))))))) (And.intro (And.intro (And.intro (And.intro (And.intro (And.intro (@al39) (And.intro (@ze39) (@bv39))) (And.intro (@Tryz.underlying40) (And.intro (@lv40) (@al40)))) (And.intro (And.intro (@ze40) (And.intro (@bv40) (@Tryz.underlying41))) (And.intro (And.intro (@lv41) (@al41)) (And.intro (@ze41) (@ia41))))) (And.intro (And.intro (And.intro (@ss41) (And.intro (@Tryz.underlying42) (@lv42))) (And.intro (And.intro (@al42) (@ze42)) (And.intro (@bv42) (@Tryz.underlying43)))) (And.intro (And.intro (@lv43) (And.intro (@al43) (@ze43))) (And.intro (And.intro (@bv43) (@Tryz.underlying44)) (And.intro (@lv44) (@al44)))))) (And.intro (And.intro (And.intro (And.intro (@ze44) (And.intro (@bv44) (@Tryz.underlying45))) (And.intro (And.intro (@lv45) (@al45)) (And.intro (@ze45) (@bv45)))) (And.intro (And.intro (@Tryz.underlying48) (And.intro (@lv48) (@al48))) (And.intro (And.intro (@ze48) (@ia48)) (And.intro (@bv48) (@Tryz.underlying49))))) (And.intro (And.intro (And.intro (@lv49) (And.intro (@al49) (@ze49))) (And.intro (And.intro (@ia49) (@ss49)) (And.intro (@Tryz.underlying50) (@lv50)))) (And.intro (And.intro (@al50) (And.intro (@ze50) (@Tryz.underlying64))) (And.intro (And.intro (@lv64) (@al64)) (And.intro (@ze64) (@Tryz.underlying74))))))) (And.intro (And.intro (And.intro (And.intro (And.intro (@lv74) (And.intro (@al74) (@ze74))) (And.intro (@ia74) (And.intro (@ss74) (@Tryz.underlying77)))) (And.intro (And.intro (@lv77) (And.intro (@al77) (@ze77))) (And.intro (And.intro (@bv77) (@Tryz.underlying78)) (And.intro (@lv78) (@al78))))) (And.intro (And.intro (And.intro (@ze78) (And.intro (@bv78) (@Tryz.underlying85))) (And.intro (And.intro (@lv85) (@al85)) (And.intro (@ze85) (@bv85)))) (And.intro (And.intro (@Tryz.underlying86) (And.intro (@lv86) (@al86))) (And.intro (And.intro (@ze86) (@bv86)) (And.intro (@Tryz.underlying87) (@lv87)))))) (And.intro (And.intro (And.intro (And.intro (@al87) (And.intro (@ze87) (@bv87))) (And.intro (And.intro (@Tryz.underlying88) (@lv88)) (And.intro (@al88) (@ze88)))) (And.intro (And.intro (@bv88) (And.intro (@Tryz.underlying116) (@lv116))) (And.intro (And.intro (@al116) (@ze116)) (And.intro (@ia116) (@bv116))))) (And.intro (And.intro (And.intro (@Tryz.underlying117) (And.intro (@lv117) (@al117))) (And.intro (And.intro (@ze117) (@ia117)) (And.intro (@bv117) (@natl)))) (And.intro (And.intro (@cv_u8_int) (And.intro (@cv_int_u8) (@cv_bytes))) (And.intro (And.intro (@cv_str) (@ix_str)) (And.intro (@ss_str) (@bq_bool))))))))
def bunAP := And.intro (And.intro (And.intro (@ap22) (And.intro (@ap23) (@ap24))) (And.intro (@ap25) (And.intro (@ap26) (@ap33)))) (And.intro (And.intro (@ap34) (And.intro (@ap35) (@ap38))) (And.intro (@ap41) (And.intro (@ap49) (@ap74))))
end Go.Proofs.G
