/- Facts on the types of the translation. -/
import Derived.Test.YtaodjmfmheifeaaGreatDoorAbD
import Derived.Test.YtaodjmfmheifeaaGreatDoorProg
import Derived.KernelRfl
set_option linter.unusedSimpArgs false
set_option linter.unusedVariables false
namespace Go.Proofs.G
open Go Go.Ab
section
variable {fr : Fr} {σ : St} {x ix a v : Operand} {ve : Value}
theorem ld3 : rLoad Tryz.prog fr σ 3 a = ob (ev fr a) fun v => ob (at? v) fun p => pr p fun b off => ob (ob (σ.read b off 1) oneV) fun v => some (v, ⟨b, off, 1⟩) := by kernel_rfl
theorem lv3 {b off : Nat} : loadV Tryz.prog σ 3 (.pointer (some ⟨b, off, none⟩)) = ob (σ.read b off 1) oneV := by kernel_rfl
theorem st3 : eStore Tryz.prog fr σ 3 a v = ob (ev fr a) fun a => ob (ev fr v) fun v => ob (ob (at? a) fun p => pr p fun b off => bi (isTup v) none (bb ((cellsL v).length.beq 1) (σ.write b off (cellsL v)))) fun σ => some (undefV, σ) := by kernel_rfl
theorem al3 : nAlloc Tryz.prog 3 = some ([.int .i64 0], ptrTo) := by kernel_rfl
theorem ze3 : zero? Tryz.prog 3 = some (.int .i64 0) := by kernel_rfl
theorem ld4 : rLoad Tryz.prog fr σ 4 a = ob (ev fr a) fun v => ob (at? v) fun p => pr p fun b off => ob (ob (σ.read b off 1) oneV) fun v => some (v, ⟨b, off, 1⟩) := by kernel_rfl
theorem lv4 {b off : Nat} : loadV Tryz.prog σ 4 (.pointer (some ⟨b, off, none⟩)) = ob (σ.read b off 1) oneV := by kernel_rfl
theorem st4 : eStore Tryz.prog fr σ 4 a v = ob (ev fr a) fun a => ob (ev fr v) fun v => ob (ob (at? a) fun p => pr p fun b off => bi (isTup v) none (bb ((cellsL v).length.beq 1) (σ.write b off (cellsL v)))) fun σ => some (undefV, σ) := by kernel_rfl
theorem al4 : nAlloc Tryz.prog 4 = some ([.bool false], ptrTo) := by kernel_rfl
theorem ze4 : zero? Tryz.prog 4 = some (.bool false) := by kernel_rfl
theorem ld22 : rLoad Tryz.prog fr σ 22 a = ob (ev fr a) fun v => ob (at? v) fun p => pr p fun b off => ob (ob (σ.read b off 1) oneV) fun v => some (v, ⟨b, off, 1⟩) := by kernel_rfl
theorem lv22 {b off : Nat} : loadV Tryz.prog σ 22 (.pointer (some ⟨b, off, none⟩)) = ob (σ.read b off 1) oneV := by kernel_rfl
theorem st22 : eStore Tryz.prog fr σ 22 a v = ob (ev fr a) fun a => ob (ev fr v) fun v => ob (ob (at? a) fun p => pr p fun b off => bi (isTup v) none (bb ((cellsL v).length.beq 1) (σ.write b off (cellsL v)))) fun σ => some (undefV, σ) := by kernel_rfl
theorem al22 : nAlloc Tryz.prog 22 = some ([.slice none 0 0], ptrTo) := by kernel_rfl
theorem ze22 : zero? Tryz.prog 22 = some (.slice none 0 0) := by kernel_rfl
theorem ia22 {b off len cap i : Nat} {s : Option Nat} : indexAddrV Tryz.prog 22 (.slice (some ⟨b, off, s⟩) len cap) i = bb (Nat.blt i len) (some (.pointer (some ⟨b, off + i * 46, none⟩))) := by kernel_rfl
theorem ap22 {b : Option Addr} {len cap : Nat} {w : Value} : appendV Tryz.prog σ 22 (.slice b len cap) w = ob (srcCells σ 46 w) fun p => pr p fun n new => bi (Nat.ble (len + n) cap) (appendIn σ 46 b len cap n new) (bb (Nat.ble ((len + n) * 161) room) (appendNew σ 46 b len n new)) := by kernel_rfl
theorem ss22 {b : Option Addr} {len cap : Nat} {lo hi : Option Value} : sliceV Tryz.prog 22 (.slice b len cap) lo hi = ob (bnds len cap lo hi) fun p => pr p fun lo hi => sliceAt 46 b lo hi cap := by kernel_rfl
theorem sl22 {len : Nat} {parts : Array (Nat × Operand)} : nSlice Tryz.prog fr 22 len parts = ob (evs fr (parts.toList.map (·.2))) fun vs => bb (Nat.ble (len * 46) 16777216) (ob (fillL (fun i => some (i * 46, 46)) ((parts.toList.map (·.1)).zip vs) (rep [.int .i64 0, .int .i64 0, .int .i64 0, .int .i64 0, .int .i64 0, .int .i64 0, .int .i64 0, .int .i64 0, str [], str [], .int .i64 0, .int .i64 0, .int .u8 0, .int .u8 0, .int .u8 0, .int .u8 0, .int .u8 0, .int .u8 0, .int .u8 0, .int .u8 0, .int .u8 0, .int .u8 0, .int .u8 0, .int .u8 0, .int .u8 0, .int .u8 0, .int .u8 0, .int .u8 0, .int .u8 0, .int .u8 0, .int .u8 0, .int .u8 0, .int .u8 0, .int .u8 0, .int .u8 0, .int .u8 0, .int .u8 0, .int .u8 0, .int .u8 0, .int .u8 0, .int .u8 0, .int .u8 0, .int .u8 0, .int .u8 0, .int .i64 0, .int .i64 0] len)) fun l => some (l, fun n => .slice (some ⟨n, 0, none⟩) len len)) := by kernel_rfl
theorem mk22 {l c : Operand} : nMake Tryz.prog fr 22 l c = ob (evN fr l) fun l => ob (evN fr c) fun c => bb (Nat.ble l c) (bb (Nat.ble (c * 161) room) (some (rep [.int .i64 0, .int .i64 0, .int .i64 0, .int .i64 0, .int .i64 0, .int .i64 0, .int .i64 0, .int .i64 0, str [], str [], .int .i64 0, .int .i64 0, .int .u8 0, .int .u8 0, .int .u8 0, .int .u8 0, .int .u8 0, .int .u8 0, .int .u8 0, .int .u8 0, .int .u8 0, .int .u8 0, .int .u8 0, .int .u8 0, .int .u8 0, .int .u8 0, .int .u8 0, .int .u8 0, .int .u8 0, .int .u8 0, .int .u8 0, .int .u8 0, .int .u8 0, .int .u8 0, .int .u8 0, .int .u8 0, .int .u8 0, .int .u8 0, .int .u8 0, .int .u8 0, .int .u8 0, .int .u8 0, .int .u8 0, .int .u8 0, .int .i64 0, .int .i64 0] c, fun n => .slice (some ⟨n, 0, none⟩) l c))) := by kernel_rfl
theorem ld30 : rLoad Tryz.prog fr σ 30 a = ob (ev fr a) fun v => ob (at? v) fun p => pr p fun b off => ob (ob (σ.read b off 46) fun cs => some (.agg ⟨cs⟩)) fun v => some (v, ⟨b, off, 46⟩) := by kernel_rfl
theorem lv30 {b off : Nat} : loadV Tryz.prog σ 30 (.pointer (some ⟨b, off, none⟩)) = ob (σ.read b off 46) fun cs => some (.agg ⟨cs⟩) := by kernel_rfl
theorem st30 : eStore Tryz.prog fr σ 30 a v = ob (ev fr a) fun a => ob (ev fr v) fun v => ob (ob (at? a) fun p => pr p fun b off => bi (isTup v) none (bb ((cellsL v).length.beq 46) (σ.write b off (cellsL v)))) fun σ => some (undefV, σ) := by kernel_rfl
theorem al30 : nAlloc Tryz.prog 30 = some ([.int .i64 0, .int .i64 0, .int .i64 0, .int .i64 0, .int .i64 0, .int .i64 0, .int .i64 0, .int .i64 0, str [], str [], .int .i64 0, .int .i64 0, .int .u8 0, .int .u8 0, .int .u8 0, .int .u8 0, .int .u8 0, .int .u8 0, .int .u8 0, .int .u8 0, .int .u8 0, .int .u8 0, .int .u8 0, .int .u8 0, .int .u8 0, .int .u8 0, .int .u8 0, .int .u8 0, .int .u8 0, .int .u8 0, .int .u8 0, .int .u8 0, .int .u8 0, .int .u8 0, .int .u8 0, .int .u8 0, .int .u8 0, .int .u8 0, .int .u8 0, .int .u8 0, .int .u8 0, .int .u8 0, .int .u8 0, .int .u8 0, .int .i64 0, .int .i64 0], ptrTo) := by kernel_rfl
theorem ze30 : zero? Tryz.prog 30 = some (.agg ⟨[.int .i64 0, .int .i64 0, .int .i64 0, .int .i64 0, .int .i64 0, .int .i64 0, .int .i64 0, .int .i64 0, str [], str [], .int .i64 0, .int .i64 0, .int .u8 0, .int .u8 0, .int .u8 0, .int .u8 0, .int .u8 0, .int .u8 0, .int .u8 0, .int .u8 0, .int .u8 0, .int .u8 0, .int .u8 0, .int .u8 0, .int .u8 0, .int .u8 0, .int .u8 0, .int .u8 0, .int .u8 0, .int .u8 0, .int .u8 0, .int .u8 0, .int .u8 0, .int .u8 0, .int .u8 0, .int .u8 0, .int .u8 0, .int .u8 0, .int .u8 0, .int .u8 0, .int .u8 0, .int .u8 0, .int .u8 0, .int .u8 0, .int .i64 0, .int .i64 0]⟩) := by kernel_rfl
theorem bu30 : pBuild Tryz.prog fr 30 #[] = some (.agg ⟨[.int .i64 0, .int .i64 0, .int .i64 0, .int .i64 0, .int .i64 0, .int .i64 0, .int .i64 0, .int .i64 0, str [], str [], .int .i64 0, .int .i64 0, .int .u8 0, .int .u8 0, .int .u8 0, .int .u8 0, .int .u8 0, .int .u8 0, .int .u8 0, .int .u8 0, .int .u8 0, .int .u8 0, .int .u8 0, .int .u8 0, .int .u8 0, .int .u8 0, .int .u8 0, .int .u8 0, .int .u8 0, .int .u8 0, .int .u8 0, .int .u8 0, .int .u8 0, .int .u8 0, .int .u8 0, .int .u8 0, .int .u8 0, .int .u8 0, .int .u8 0, .int .u8 0, .int .u8 0, .int .u8 0, .int .u8 0, .int .u8 0, .int .i64 0, .int .i64 0]⟩) := by kernel_rfl
theorem bv30 {z : List Value} {ps : List (Nat × Value)} : buildV Tryz.prog 30 z ps = ob (fillL (fun i => [(0, 1), (1, 1), (2, 1), (3, 1), (4, 1), (5, 1), (6, 1), (7, 1), (8, 1), (9, 1), (10, 2), (12, 32), (44, 2)][i]?) ps z) fun l => some (.agg ⟨l⟩) := by kernel_rfl
theorem fa30_0 : pFieldAddr Tryz.prog fr 30 x 0 = ob (ev fr x) fun v => ob (at? v) fun p => pr p fun b off => some (.pointer (some ⟨b, off, none⟩)) := by kernel_rfl
theorem fi30_0 : pField Tryz.prog fr 30 x 0 = ob (ev fr x) fun v => ob (agg? v) fun cs => ob (sub cs 0 1) oneV := by kernel_rfl
theorem fa30_1 : pFieldAddr Tryz.prog fr 30 x 1 = ob (ev fr x) fun v => ob (at? v) fun p => pr p fun b off => some (.pointer (some ⟨b, off + 1, none⟩)) := by kernel_rfl
theorem fi30_1 : pField Tryz.prog fr 30 x 1 = ob (ev fr x) fun v => ob (agg? v) fun cs => ob (sub cs 1 1) oneV := by kernel_rfl
theorem fa30_2 : pFieldAddr Tryz.prog fr 30 x 2 = ob (ev fr x) fun v => ob (at? v) fun p => pr p fun b off => some (.pointer (some ⟨b, off + 2, none⟩)) := by kernel_rfl
theorem fi30_2 : pField Tryz.prog fr 30 x 2 = ob (ev fr x) fun v => ob (agg? v) fun cs => ob (sub cs 2 1) oneV := by kernel_rfl
theorem fa30_3 : pFieldAddr Tryz.prog fr 30 x 3 = ob (ev fr x) fun v => ob (at? v) fun p => pr p fun b off => some (.pointer (some ⟨b, off + 3, none⟩)) := by kernel_rfl
theorem fi30_3 : pField Tryz.prog fr 30 x 3 = ob (ev fr x) fun v => ob (agg? v) fun cs => ob (sub cs 3 1) oneV := by kernel_rfl
theorem fa30_4 : pFieldAddr Tryz.prog fr 30 x 4 = ob (ev fr x) fun v => ob (at? v) fun p => pr p fun b off => some (.pointer (some ⟨b, off + 4, none⟩)) := by kernel_rfl
theorem fi30_4 : pField Tryz.prog fr 30 x 4 = ob (ev fr x) fun v => ob (agg? v) fun cs => ob (sub cs 4 1) oneV := by kernel_rfl
theorem fa30_5 : pFieldAddr Tryz.prog fr 30 x 5 = ob (ev fr x) fun v => ob (at? v) fun p => pr p fun b off => some (.pointer (some ⟨b, off + 5, none⟩)) := by kernel_rfl
theorem fi30_5 : pField Tryz.prog fr 30 x 5 = ob (ev fr x) fun v => ob (agg? v) fun cs => ob (sub cs 5 1) oneV := by kernel_rfl
theorem fa30_6 : pFieldAddr Tryz.prog fr 30 x 6 = ob (ev fr x) fun v => ob (at? v) fun p => pr p fun b off => some (.pointer (some ⟨b, off + 6, none⟩)) := by kernel_rfl
theorem fi30_6 : pField Tryz.prog fr 30 x 6 = ob (ev fr x) fun v => ob (agg? v) fun cs => ob (sub cs 6 1) oneV := by kernel_rfl
theorem fa30_7 : pFieldAddr Tryz.prog fr 30 x 7 = ob (ev fr x) fun v => ob (at? v) fun p => pr p fun b off => some (.pointer (some ⟨b, off + 7, none⟩)) := by kernel_rfl
theorem fi30_7 : pField Tryz.prog fr 30 x 7 = ob (ev fr x) fun v => ob (agg? v) fun cs => ob (sub cs 7 1) oneV := by kernel_rfl
theorem fa30_8 : pFieldAddr Tryz.prog fr 30 x 8 = ob (ev fr x) fun v => ob (at? v) fun p => pr p fun b off => some (.pointer (some ⟨b, off + 8, none⟩)) := by kernel_rfl
theorem fi30_8 : pField Tryz.prog fr 30 x 8 = ob (ev fr x) fun v => ob (agg? v) fun cs => ob (sub cs 8 1) oneV := by kernel_rfl
theorem fa30_9 : pFieldAddr Tryz.prog fr 30 x 9 = ob (ev fr x) fun v => ob (at? v) fun p => pr p fun b off => some (.pointer (some ⟨b, off + 9, none⟩)) := by kernel_rfl
theorem fi30_9 : pField Tryz.prog fr 30 x 9 = ob (ev fr x) fun v => ob (agg? v) fun cs => ob (sub cs 9 1) oneV := by kernel_rfl
theorem fa30_10 : pFieldAddr Tryz.prog fr 30 x 10 = ob (ev fr x) fun v => ob (at? v) fun p => pr p fun b off => some (.pointer (some ⟨b, off + 10, none⟩)) := by kernel_rfl
theorem fi30_10 : pField Tryz.prog fr 30 x 10 = ob (ev fr x) fun v => ob (agg? v) fun cs => ob (sub cs 10 2) fun l => some (.agg ⟨l⟩) := by kernel_rfl
theorem fa30_11 : pFieldAddr Tryz.prog fr 30 x 11 = ob (ev fr x) fun v => ob (at? v) fun p => pr p fun b off => some (.pointer (some ⟨b, off + 12, none⟩)) := by kernel_rfl
theorem fi30_11 : pField Tryz.prog fr 30 x 11 = ob (ev fr x) fun v => ob (agg? v) fun cs => ob (sub cs 12 32) fun l => some (.agg ⟨l⟩) := by kernel_rfl
theorem fa30_12 : pFieldAddr Tryz.prog fr 30 x 12 = ob (ev fr x) fun v => ob (at? v) fun p => pr p fun b off => some (.pointer (some ⟨b, off + 44, none⟩)) := by kernel_rfl
theorem fi30_12 : pField Tryz.prog fr 30 x 12 = ob (ev fr x) fun v => ob (agg? v) fun cs => ob (sub cs 44 2) fun l => some (.agg ⟨l⟩) := by kernel_rfl
theorem ld33 : rLoad Tryz.prog fr σ 33 a = ob (ev fr a) fun v => ob (at? v) fun p => pr p fun b off => ob (ob (σ.read b off 1) oneV) fun v => some (v, ⟨b, off, 1⟩) := by kernel_rfl
theorem lv33 {b off : Nat} : loadV Tryz.prog σ 33 (.pointer (some ⟨b, off, none⟩)) = ob (σ.read b off 1) oneV := by kernel_rfl
theorem st33 : eStore Tryz.prog fr σ 33 a v = ob (ev fr a) fun a => ob (ev fr v) fun v => ob (ob (at? a) fun p => pr p fun b off => bi (isTup v) none (bb ((cellsL v).length.beq 1) (σ.write b off (cellsL v)))) fun σ => some (undefV, σ) := by kernel_rfl
theorem al33 : nAlloc Tryz.prog 33 = some ([.slice none 0 0], ptrTo) := by kernel_rfl
theorem ze33 : zero? Tryz.prog 33 = some (.slice none 0 0) := by kernel_rfl
theorem ia33 {b off len cap i : Nat} {s : Option Nat} : indexAddrV Tryz.prog 33 (.slice (some ⟨b, off, s⟩) len cap) i = bb (Nat.blt i len) (some (.pointer (some ⟨b, off + i * 1, none⟩))) := by kernel_rfl
theorem ap33 {b : Option Addr} {len cap : Nat} {w : Value} : appendV Tryz.prog σ 33 (.slice b len cap) w = ob (srcCells σ 1 w) fun p => pr p fun n new => bi (Nat.ble (len + n) cap) (appendIn σ 1 b len cap n new) (bb (Nat.ble ((len + n) * 9) room) (appendNew σ 1 b len n new)) := by kernel_rfl
theorem ss33 {b : Option Addr} {len cap : Nat} {lo hi : Option Value} : sliceV Tryz.prog 33 (.slice b len cap) lo hi = ob (bnds len cap lo hi) fun p => pr p fun lo hi => sliceAt 1 b lo hi cap := by kernel_rfl
theorem sl33 {len : Nat} {parts : Array (Nat × Operand)} : nSlice Tryz.prog fr 33 len parts = ob (evs fr (parts.toList.map (·.2))) fun vs => bb (Nat.ble (len * 1) 16777216) (ob (fillL (fun i => some (i * 1, 1)) ((parts.toList.map (·.1)).zip vs) (rep [.int .i64 0] len)) fun l => some (l, fun n => .slice (some ⟨n, 0, none⟩) len len)) := by kernel_rfl
theorem mk33 {l c : Operand} : nMake Tryz.prog fr 33 l c = ob (evN fr l) fun l => ob (evN fr c) fun c => bb (Nat.ble l c) (bb (Nat.ble (c * 9) room) (some (rep [.int .i64 0] c, fun n => .slice (some ⟨n, 0, none⟩) l c))) := by kernel_rfl
theorem ld37 : rLoad Tryz.prog fr σ 37 a = ob (ev fr a) fun v => ob (at? v) fun p => pr p fun b off => ob (ob (σ.read b off 2) fun cs => some (.agg ⟨cs⟩)) fun v => some (v, ⟨b, off, 2⟩) := by kernel_rfl
theorem lv37 {b off : Nat} : loadV Tryz.prog σ 37 (.pointer (some ⟨b, off, none⟩)) = ob (σ.read b off 2) fun cs => some (.agg ⟨cs⟩) := by kernel_rfl
theorem st37 : eStore Tryz.prog fr σ 37 a v = ob (ev fr a) fun a => ob (ev fr v) fun v => ob (ob (at? a) fun p => pr p fun b off => bi (isTup v) none (bb ((cellsL v).length.beq 2) (σ.write b off (cellsL v)))) fun σ => some (undefV, σ) := by kernel_rfl
theorem al37 : nAlloc Tryz.prog 37 = some ([.slice none 0 0, .slice none 0 0], ptrTo) := by kernel_rfl
theorem ze37 : zero? Tryz.prog 37 = some (.agg ⟨[.slice none 0 0, .slice none 0 0]⟩) := by kernel_rfl
theorem bu37 : pBuild Tryz.prog fr 37 #[] = some (.agg ⟨[.slice none 0 0, .slice none 0 0]⟩) := by kernel_rfl
theorem ia37 {b off i : Nat} : indexAddrV Tryz.prog 37 (.pointer (some ⟨b, off, none⟩)) i = bb (Nat.blt i 2) (some (.pointer (some ⟨b, off + i * 1, none⟩))) := by kernel_rfl
theorem bv37 {z : List Value} {ps : List (Nat × Value)} : buildV Tryz.prog 37 z ps = ob (fillL (fun i => some (i * 1, 1)) ps z) fun l => some (.agg ⟨l⟩) := by kernel_rfl
theorem ld38 : rLoad Tryz.prog fr σ 38 a = ob (ev fr a) fun v => ob (at? v) fun p => pr p fun b off => ob (ob (σ.read b off 1) oneV) fun v => some (v, ⟨b, off, 1⟩) := by kernel_rfl
theorem lv38 {b off : Nat} : loadV Tryz.prog σ 38 (.pointer (some ⟨b, off, none⟩)) = ob (σ.read b off 1) oneV := by kernel_rfl
theorem st38 : eStore Tryz.prog fr σ 38 a v = ob (ev fr a) fun a => ob (ev fr v) fun v => ob (ob (at? a) fun p => pr p fun b off => bi (isTup v) none (bb ((cellsL v).length.beq 1) (σ.write b off (cellsL v)))) fun σ => some (undefV, σ) := by kernel_rfl
theorem al38 : nAlloc Tryz.prog 38 = some ([.slice none 0 0], ptrTo) := by kernel_rfl
theorem ze38 : zero? Tryz.prog 38 = some (.slice none 0 0) := by kernel_rfl
theorem ia38 {b off len cap i : Nat} {s : Option Nat} : indexAddrV Tryz.prog 38 (.slice (some ⟨b, off, s⟩) len cap) i = bb (Nat.blt i len) (some (.pointer (some ⟨b, off + i * 4, none⟩))) := by kernel_rfl
theorem ap38 {b : Option Addr} {len cap : Nat} {w : Value} : appendV Tryz.prog σ 38 (.slice b len cap) w = ob (srcCells σ 4 w) fun p => pr p fun n new => bi (Nat.ble (len + n) cap) (appendIn σ 4 b len cap n new) (bb (Nat.ble ((len + n) * 33) room) (appendNew σ 4 b len n new)) := by kernel_rfl
theorem ss38 {b : Option Addr} {len cap : Nat} {lo hi : Option Value} : sliceV Tryz.prog 38 (.slice b len cap) lo hi = ob (bnds len cap lo hi) fun p => pr p fun lo hi => sliceAt 4 b lo hi cap := by kernel_rfl
theorem sl38 {len : Nat} {parts : Array (Nat × Operand)} : nSlice Tryz.prog fr 38 len parts = ob (evs fr (parts.toList.map (·.2))) fun vs => bb (Nat.ble (len * 4) 16777216) (ob (fillL (fun i => some (i * 4, 4)) ((parts.toList.map (·.1)).zip vs) (rep [.int .i64 0, .int .i64 0, .int .i64 0, .int .i64 0] len)) fun l => some (l, fun n => .slice (some ⟨n, 0, none⟩) len len)) := by kernel_rfl
theorem mk38 {l c : Operand} : nMake Tryz.prog fr 38 l c = ob (evN fr l) fun l => ob (evN fr c) fun c => bb (Nat.ble l c) (bb (Nat.ble (c * 33) room) (some (rep [.int .i64 0, .int .i64 0, .int .i64 0, .int .i64 0] c, fun n => .slice (some ⟨n, 0, none⟩) l c))) := by kernel_rfl
theorem ld39 : rLoad Tryz.prog fr σ 39 a = ob (ev fr a) fun v => ob (at? v) fun p => pr p fun b off => ob (ob (σ.read b off 1) oneV) fun v => some (v, ⟨b, off, 1⟩) := by kernel_rfl
theorem lv39 {b off : Nat} : loadV Tryz.prog σ 39 (.pointer (some ⟨b, off, none⟩)) = ob (σ.read b off 1) oneV := by kernel_rfl
theorem st39 : eStore Tryz.prog fr σ 39 a v = ob (ev fr a) fun a => ob (ev fr v) fun v => ob (ob (at? a) fun p => pr p fun b off => bi (isTup v) none (bb ((cellsL v).length.beq 1) (σ.write b off (cellsL v)))) fun σ => some (undefV, σ) := by kernel_rfl
theorem al39 : nAlloc Tryz.prog 39 = some ([.slice none 0 0], ptrTo) := by kernel_rfl
theorem ze39 : zero? Tryz.prog 39 = some (.slice none 0 0) := by kernel_rfl
theorem ia39 {b off len cap i : Nat} {s : Option Nat} : indexAddrV Tryz.prog 39 (.slice (some ⟨b, off, s⟩) len cap) i = bb (Nat.blt i len) (some (.pointer (some ⟨b, off + i * 3, none⟩))) := by kernel_rfl
theorem ap39 {b : Option Addr} {len cap : Nat} {w : Value} : appendV Tryz.prog σ 39 (.slice b len cap) w = ob (srcCells σ 3 w) fun p => pr p fun n new => bi (Nat.ble (len + n) cap) (appendIn σ 3 b len cap n new) (bb (Nat.ble ((len + n) * 41) room) (appendNew σ 3 b len n new)) := by kernel_rfl
theorem ss39 {b : Option Addr} {len cap : Nat} {lo hi : Option Value} : sliceV Tryz.prog 39 (.slice b len cap) lo hi = ob (bnds len cap lo hi) fun p => pr p fun lo hi => sliceAt 3 b lo hi cap := by kernel_rfl
theorem sl39 {len : Nat} {parts : Array (Nat × Operand)} : nSlice Tryz.prog fr 39 len parts = ob (evs fr (parts.toList.map (·.2))) fun vs => bb (Nat.ble (len * 3) 16777216) (ob (fillL (fun i => some (i * 3, 3)) ((parts.toList.map (·.1)).zip vs) (rep [.int .i64 0, .slice none 0 0, .int .i64 0] len)) fun l => some (l, fun n => .slice (some ⟨n, 0, none⟩) len len)) := by kernel_rfl
theorem mk39 {l c : Operand} : nMake Tryz.prog fr 39 l c = ob (evN fr l) fun l => ob (evN fr c) fun c => bb (Nat.ble l c) (bb (Nat.ble (c * 41) room) (some (rep [.int .i64 0, .slice none 0 0, .int .i64 0] c, fun n => .slice (some ⟨n, 0, none⟩) l c))) := by kernel_rfl
theorem ld41 : rLoad Tryz.prog fr σ 41 a = ob (ev fr a) fun v => ob (at? v) fun p => pr p fun b off => ob (ob (σ.read b off 5) fun cs => some (.agg ⟨cs⟩)) fun v => some (v, ⟨b, off, 5⟩) := by kernel_rfl
theorem lv41 {b off : Nat} : loadV Tryz.prog σ 41 (.pointer (some ⟨b, off, none⟩)) = ob (σ.read b off 5) fun cs => some (.agg ⟨cs⟩) := by kernel_rfl
theorem st41 : eStore Tryz.prog fr σ 41 a v = ob (ev fr a) fun a => ob (ev fr v) fun v => ob (ob (at? a) fun p => pr p fun b off => bi (isTup v) none (bb ((cellsL v).length.beq 5) (σ.write b off (cellsL v)))) fun σ => some (undefV, σ) := by kernel_rfl
theorem al41 : nAlloc Tryz.prog 41 = some ([.slice none 0 0, .slice none 0 0, .slice none 0 0, .int .i64 0, .int .i64 0], ptrTo) := by kernel_rfl
theorem ze41 : zero? Tryz.prog 41 = some (.agg ⟨[.slice none 0 0, .slice none 0 0, .slice none 0 0, .int .i64 0, .int .i64 0]⟩) := by kernel_rfl
theorem bu41 : pBuild Tryz.prog fr 41 #[] = some (.agg ⟨[.slice none 0 0, .slice none 0 0, .slice none 0 0, .int .i64 0, .int .i64 0]⟩) := by kernel_rfl
theorem bv41 {z : List Value} {ps : List (Nat × Value)} : buildV Tryz.prog 41 z ps = ob (fillL (fun i => [(0, 1), (1, 1), (2, 1), (3, 1), (4, 1)][i]?) ps z) fun l => some (.agg ⟨l⟩) := by kernel_rfl
theorem fa41_0 : pFieldAddr Tryz.prog fr 41 x 0 = ob (ev fr x) fun v => ob (at? v) fun p => pr p fun b off => some (.pointer (some ⟨b, off, none⟩)) := by kernel_rfl
theorem fi41_0 : pField Tryz.prog fr 41 x 0 = ob (ev fr x) fun v => ob (agg? v) fun cs => ob (sub cs 0 1) oneV := by kernel_rfl
theorem fa41_1 : pFieldAddr Tryz.prog fr 41 x 1 = ob (ev fr x) fun v => ob (at? v) fun p => pr p fun b off => some (.pointer (some ⟨b, off + 1, none⟩)) := by kernel_rfl
theorem fi41_1 : pField Tryz.prog fr 41 x 1 = ob (ev fr x) fun v => ob (agg? v) fun cs => ob (sub cs 1 1) oneV := by kernel_rfl
theorem fa41_2 : pFieldAddr Tryz.prog fr 41 x 2 = ob (ev fr x) fun v => ob (at? v) fun p => pr p fun b off => some (.pointer (some ⟨b, off + 2, none⟩)) := by kernel_rfl
theorem fi41_2 : pField Tryz.prog fr 41 x 2 = ob (ev fr x) fun v => ob (agg? v) fun cs => ob (sub cs 2 1) oneV := by kernel_rfl
theorem fa41_3 : pFieldAddr Tryz.prog fr 41 x 3 = ob (ev fr x) fun v => ob (at? v) fun p => pr p fun b off => some (.pointer (some ⟨b, off + 3, none⟩)) := by kernel_rfl
theorem fi41_3 : pField Tryz.prog fr 41 x 3 = ob (ev fr x) fun v => ob (agg? v) fun cs => ob (sub cs 3 1) oneV := by kernel_rfl
theorem fa41_4 : pFieldAddr Tryz.prog fr 41 x 4 = ob (ev fr x) fun v => ob (at? v) fun p => pr p fun b off => some (.pointer (some ⟨b, off + 4, none⟩)) := by kernel_rfl
theorem fi41_4 : pField Tryz.prog fr 41 x 4 = ob (ev fr x) fun v => ob (agg? v) fun cs => ob (sub cs 4 1) oneV := by kernel_rfl
theorem ld45 : rLoad Tryz.prog fr σ 45 a = ob (ev fr a) fun v => ob (at? v) fun p => pr p fun b off => ob (ob (σ.read b off 4) fun cs => some (.agg ⟨cs⟩)) fun v => some (v, ⟨b, off, 4⟩) := by kernel_rfl
theorem lv45 {b off : Nat} : loadV Tryz.prog σ 45 (.pointer (some ⟨b, off, none⟩)) = ob (σ.read b off 4) fun cs => some (.agg ⟨cs⟩) := by kernel_rfl
theorem st45 : eStore Tryz.prog fr σ 45 a v = ob (ev fr a) fun a => ob (ev fr v) fun v => ob (ob (at? a) fun p => pr p fun b off => bi (isTup v) none (bb ((cellsL v).length.beq 4) (σ.write b off (cellsL v)))) fun σ => some (undefV, σ) := by kernel_rfl
theorem al45 : nAlloc Tryz.prog 45 = some ([.slice none 0 0, .int .i64 0, .int .i64 0, .slice none 0 0], ptrTo) := by kernel_rfl
theorem ze45 : zero? Tryz.prog 45 = some (.agg ⟨[.slice none 0 0, .int .i64 0, .int .i64 0, .slice none 0 0]⟩) := by kernel_rfl
theorem bu45 : pBuild Tryz.prog fr 45 #[] = some (.agg ⟨[.slice none 0 0, .int .i64 0, .int .i64 0, .slice none 0 0]⟩) := by kernel_rfl
theorem bv45 {z : List Value} {ps : List (Nat × Value)} : buildV Tryz.prog 45 z ps = ob (fillL (fun i => [(0, 1), (1, 1), (2, 1), (3, 1)][i]?) ps z) fun l => some (.agg ⟨l⟩) := by kernel_rfl
theorem fa45_0 : pFieldAddr Tryz.prog fr 45 x 0 = ob (ev fr x) fun v => ob (at? v) fun p => pr p fun b off => some (.pointer (some ⟨b, off, none⟩)) := by kernel_rfl
theorem fi45_0 : pField Tryz.prog fr 45 x 0 = ob (ev fr x) fun v => ob (agg? v) fun cs => ob (sub cs 0 1) oneV := by kernel_rfl
theorem fa45_1 : pFieldAddr Tryz.prog fr 45 x 1 = ob (ev fr x) fun v => ob (at? v) fun p => pr p fun b off => some (.pointer (some ⟨b, off + 1, none⟩)) := by kernel_rfl
theorem fi45_1 : pField Tryz.prog fr 45 x 1 = ob (ev fr x) fun v => ob (agg? v) fun cs => ob (sub cs 1 1) oneV := by kernel_rfl
theorem fa45_2 : pFieldAddr Tryz.prog fr 45 x 2 = ob (ev fr x) fun v => ob (at? v) fun p => pr p fun b off => some (.pointer (some ⟨b, off + 2, none⟩)) := by kernel_rfl
theorem fi45_2 : pField Tryz.prog fr 45 x 2 = ob (ev fr x) fun v => ob (agg? v) fun cs => ob (sub cs 2 1) oneV := by kernel_rfl
theorem fa45_3 : pFieldAddr Tryz.prog fr 45 x 3 = ob (ev fr x) fun v => ob (at? v) fun p => pr p fun b off => some (.pointer (some ⟨b, off + 3, none⟩)) := by kernel_rfl
theorem fi45_3 : pField Tryz.prog fr 45 x 3 = ob (ev fr x) fun v => ob (agg? v) fun cs => ob (sub cs 3 1) oneV := by kernel_rfl
theorem ld48 : rLoad Tryz.prog fr σ 48 a = ob (ev fr a) fun v => ob (at? v) fun p => pr p fun b off => ob (ob (σ.read b off 4) fun cs => some (.agg ⟨cs⟩)) fun v => some (v, ⟨b, off, 4⟩) := by kernel_rfl
theorem lv48 {b off : Nat} : loadV Tryz.prog σ 48 (.pointer (some ⟨b, off, none⟩)) = ob (σ.read b off 4) fun cs => some (.agg ⟨cs⟩) := by kernel_rfl
theorem st48 : eStore Tryz.prog fr σ 48 a v = ob (ev fr a) fun a => ob (ev fr v) fun v => ob (ob (at? a) fun p => pr p fun b off => bi (isTup v) none (bb ((cellsL v).length.beq 4) (σ.write b off (cellsL v)))) fun σ => some (undefV, σ) := by kernel_rfl
theorem al48 : nAlloc Tryz.prog 48 = some ([.int .i64 0, .int .i64 0, .int .i64 0, .int .i64 0], ptrTo) := by kernel_rfl
theorem ze48 : zero? Tryz.prog 48 = some (.agg ⟨[.int .i64 0, .int .i64 0, .int .i64 0, .int .i64 0]⟩) := by kernel_rfl
theorem bu48 : pBuild Tryz.prog fr 48 #[] = some (.agg ⟨[.int .i64 0, .int .i64 0, .int .i64 0, .int .i64 0]⟩) := by kernel_rfl
theorem bv48 {z : List Value} {ps : List (Nat × Value)} : buildV Tryz.prog 48 z ps = ob (fillL (fun i => [(0, 1), (1, 1), (2, 1), (3, 1)][i]?) ps z) fun l => some (.agg ⟨l⟩) := by kernel_rfl
theorem fa48_0 : pFieldAddr Tryz.prog fr 48 x 0 = ob (ev fr x) fun v => ob (at? v) fun p => pr p fun b off => some (.pointer (some ⟨b, off, none⟩)) := by kernel_rfl
theorem fi48_0 : pField Tryz.prog fr 48 x 0 = ob (ev fr x) fun v => ob (agg? v) fun cs => ob (sub cs 0 1) oneV := by kernel_rfl
theorem fa48_1 : pFieldAddr Tryz.prog fr 48 x 1 = ob (ev fr x) fun v => ob (at? v) fun p => pr p fun b off => some (.pointer (some ⟨b, off + 1, none⟩)) := by kernel_rfl
theorem fi48_1 : pField Tryz.prog fr 48 x 1 = ob (ev fr x) fun v => ob (agg? v) fun cs => ob (sub cs 1 1) oneV := by kernel_rfl
theorem fa48_2 : pFieldAddr Tryz.prog fr 48 x 2 = ob (ev fr x) fun v => ob (at? v) fun p => pr p fun b off => some (.pointer (some ⟨b, off + 2, none⟩)) := by kernel_rfl
theorem fi48_2 : pField Tryz.prog fr 48 x 2 = ob (ev fr x) fun v => ob (agg? v) fun cs => ob (sub cs 2 1) oneV := by kernel_rfl
theorem fa48_3 : pFieldAddr Tryz.prog fr 48 x 3 = ob (ev fr x) fun v => ob (at? v) fun p => pr p fun b off => some (.pointer (some ⟨b, off + 3, none⟩)) := by kernel_rfl
theorem fi48_3 : pField Tryz.prog fr 48 x 3 = ob (ev fr x) fun v => ob (agg? v) fun cs => ob (sub cs 3 1) oneV := by kernel_rfl
theorem ld71 : rLoad Tryz.prog fr σ 71 a = ob (ev fr a) fun v => ob (at? v) fun p => pr p fun b off => ob (ob (σ.read b off 1) oneV) fun v => some (v, ⟨b, off, 1⟩) := by kernel_rfl
theorem lv71 {b off : Nat} : loadV Tryz.prog σ 71 (.pointer (some ⟨b, off, none⟩)) = ob (σ.read b off 1) oneV := by kernel_rfl
theorem st71 : eStore Tryz.prog fr σ 71 a v = ob (ev fr a) fun a => ob (ev fr v) fun v => ob (ob (at? a) fun p => pr p fun b off => bi (isTup v) none (bb ((cellsL v).length.beq 1) (σ.write b off (cellsL v)))) fun σ => some (undefV, σ) := by kernel_rfl
theorem al71 : nAlloc Tryz.prog 71 = some ([.pointer none], ptrTo) := by kernel_rfl
theorem ze71 : zero? Tryz.prog 71 = some (.pointer none) := by kernel_rfl
theorem ld73 : rLoad Tryz.prog fr σ 73 a = ob (ev fr a) fun v => ob (at? v) fun p => pr p fun b off => ob (ob (σ.read b off 2) fun cs => some (.agg ⟨cs⟩)) fun v => some (v, ⟨b, off, 2⟩) := by kernel_rfl
theorem lv73 {b off : Nat} : loadV Tryz.prog σ 73 (.pointer (some ⟨b, off, none⟩)) = ob (σ.read b off 2) fun cs => some (.agg ⟨cs⟩) := by kernel_rfl
theorem st73 : eStore Tryz.prog fr σ 73 a v = ob (ev fr a) fun a => ob (ev fr v) fun v => ob (ob (at? a) fun p => pr p fun b off => bi (isTup v) none (bb ((cellsL v).length.beq 2) (σ.write b off (cellsL v)))) fun σ => some (undefV, σ) := by kernel_rfl
theorem al73 : nAlloc Tryz.prog 73 = some ([.slice none 0 0, .int .i64 0], ptrTo) := by kernel_rfl
theorem ze73 : zero? Tryz.prog 73 = some (.agg ⟨[.slice none 0 0, .int .i64 0]⟩) := by kernel_rfl
theorem bu73 : pBuild Tryz.prog fr 73 #[] = some (.agg ⟨[.slice none 0 0, .int .i64 0]⟩) := by kernel_rfl
theorem bv73 {z : List Value} {ps : List (Nat × Value)} : buildV Tryz.prog 73 z ps = ob (fillL (fun i => [(0, 1), (1, 1)][i]?) ps z) fun l => some (.agg ⟨l⟩) := by kernel_rfl
theorem fa73_0 : pFieldAddr Tryz.prog fr 73 x 0 = ob (ev fr x) fun v => ob (at? v) fun p => pr p fun b off => some (.pointer (some ⟨b, off, none⟩)) := by kernel_rfl
theorem fi73_0 : pField Tryz.prog fr 73 x 0 = ob (ev fr x) fun v => ob (agg? v) fun cs => ob (sub cs 0 1) oneV := by kernel_rfl
theorem fa73_1 : pFieldAddr Tryz.prog fr 73 x 1 = ob (ev fr x) fun v => ob (at? v) fun p => pr p fun b off => some (.pointer (some ⟨b, off + 1, none⟩)) := by kernel_rfl
theorem fi73_1 : pField Tryz.prog fr 73 x 1 = ob (ev fr x) fun v => ob (agg? v) fun cs => ob (sub cs 1 1) oneV := by kernel_rfl
theorem ld76 : rLoad Tryz.prog fr σ 76 a = ob (ev fr a) fun v => ob (at? v) fun p => pr p fun b off => ob (ob (σ.read b off 3) fun cs => some (.agg ⟨cs⟩)) fun v => some (v, ⟨b, off, 3⟩) := by kernel_rfl
theorem lv76 {b off : Nat} : loadV Tryz.prog σ 76 (.pointer (some ⟨b, off, none⟩)) = ob (σ.read b off 3) fun cs => some (.agg ⟨cs⟩) := by kernel_rfl
theorem st76 : eStore Tryz.prog fr σ 76 a v = ob (ev fr a) fun a => ob (ev fr v) fun v => ob (ob (at? a) fun p => pr p fun b off => bi (isTup v) none (bb ((cellsL v).length.beq 3) (σ.write b off (cellsL v)))) fun σ => some (undefV, σ) := by kernel_rfl
theorem al76 : nAlloc Tryz.prog 76 = some ([.int .i64 0, .slice none 0 0, .int .i64 0], ptrTo) := by kernel_rfl
theorem ze76 : zero? Tryz.prog 76 = some (.agg ⟨[.int .i64 0, .slice none 0 0, .int .i64 0]⟩) := by kernel_rfl
theorem bu76 : pBuild Tryz.prog fr 76 #[] = some (.agg ⟨[.int .i64 0, .slice none 0 0, .int .i64 0]⟩) := by kernel_rfl
theorem bv76 {z : List Value} {ps : List (Nat × Value)} : buildV Tryz.prog 76 z ps = ob (fillL (fun i => [(0, 1), (1, 1), (2, 1)][i]?) ps z) fun l => some (.agg ⟨l⟩) := by kernel_rfl
theorem fa76_0 : pFieldAddr Tryz.prog fr 76 x 0 = ob (ev fr x) fun v => ob (at? v) fun p => pr p fun b off => some (.pointer (some ⟨b, off, none⟩)) := by kernel_rfl
theorem fi76_0 : pField Tryz.prog fr 76 x 0 = ob (ev fr x) fun v => ob (agg? v) fun cs => ob (sub cs 0 1) oneV := by kernel_rfl
theorem fa76_1 : pFieldAddr Tryz.prog fr 76 x 1 = ob (ev fr x) fun v => ob (at? v) fun p => pr p fun b off => some (.pointer (some ⟨b, off + 1, none⟩)) := by kernel_rfl
theorem fi76_1 : pField Tryz.prog fr 76 x 1 = ob (ev fr x) fun v => ob (agg? v) fun cs => ob (sub cs 1 1) oneV := by kernel_rfl
theorem fa76_2 : pFieldAddr Tryz.prog fr 76 x 2 = ob (ev fr x) fun v => ob (at? v) fun p => pr p fun b off => some (.pointer (some ⟨b, off + 2, none⟩)) := by kernel_rfl
theorem fi76_2 : pField Tryz.prog fr 76 x 2 = ob (ev fr x) fun v => ob (agg? v) fun cs => ob (sub cs 2 1) oneV := by kernel_rfl
theorem ld78 : rLoad Tryz.prog fr σ 78 a = ob (ev fr a) fun v => ob (at? v) fun p => pr p fun b off => ob (ob (σ.read b off 1) oneV) fun v => some (v, ⟨b, off, 1⟩) := by kernel_rfl
theorem lv78 {b off : Nat} : loadV Tryz.prog σ 78 (.pointer (some ⟨b, off, none⟩)) = ob (σ.read b off 1) oneV := by kernel_rfl
theorem st78 : eStore Tryz.prog fr σ 78 a v = ob (ev fr a) fun a => ob (ev fr v) fun v => ob (ob (at? a) fun p => pr p fun b off => bi (isTup v) none (bb ((cellsL v).length.beq 1) (σ.write b off (cellsL v)))) fun σ => some (undefV, σ) := by kernel_rfl
theorem al78 : nAlloc Tryz.prog 78 = some ([.slice none 0 0], ptrTo) := by kernel_rfl
theorem ze78 : zero? Tryz.prog 78 = some (.slice none 0 0) := by kernel_rfl
theorem ia78 {b off len cap i : Nat} {s : Option Nat} : indexAddrV Tryz.prog 78 (.slice (some ⟨b, off, s⟩) len cap) i = bb (Nat.blt i len) (some (.pointer (some ⟨b, off + i * 3, none⟩))) := by kernel_rfl
theorem ap78 {b : Option Addr} {len cap : Nat} {w : Value} : appendV Tryz.prog σ 78 (.slice b len cap) w = ob (srcCells σ 3 w) fun p => pr p fun n new => bi (Nat.ble (len + n) cap) (appendIn σ 3 b len cap n new) (bb (Nat.ble ((len + n) * 25) room) (appendNew σ 3 b len n new)) := by kernel_rfl
theorem ss78 {b : Option Addr} {len cap : Nat} {lo hi : Option Value} : sliceV Tryz.prog 78 (.slice b len cap) lo hi = ob (bnds len cap lo hi) fun p => pr p fun lo hi => sliceAt 3 b lo hi cap := by kernel_rfl
theorem sl78 {len : Nat} {parts : Array (Nat × Operand)} : nSlice Tryz.prog fr 78 len parts = ob (evs fr (parts.toList.map (·.2))) fun vs => bb (Nat.ble (len * 3) 16777216) (ob (fillL (fun i => some (i * 3, 3)) ((parts.toList.map (·.1)).zip vs) (rep [.int .i64 0, .int .i64 0, .int .i64 0] len)) fun l => some (l, fun n => .slice (some ⟨n, 0, none⟩) len len)) := by kernel_rfl
theorem mk78 {l c : Operand} : nMake Tryz.prog fr 78 l c = ob (evN fr l) fun l => ob (evN fr c) fun c => bb (Nat.ble l c) (bb (Nat.ble (c * 25) room) (some (rep [.int .i64 0, .int .i64 0, .int .i64 0] c, fun n => .slice (some ⟨n, 0, none⟩) l c))) := by kernel_rfl
theorem ld79 : rLoad Tryz.prog fr σ 79 a = ob (ev fr a) fun v => ob (at? v) fun p => pr p fun b off => ob (ob (σ.read b off 3) fun cs => some (.agg ⟨cs⟩)) fun v => some (v, ⟨b, off, 3⟩) := by kernel_rfl
theorem lv79 {b off : Nat} : loadV Tryz.prog σ 79 (.pointer (some ⟨b, off, none⟩)) = ob (σ.read b off 3) fun cs => some (.agg ⟨cs⟩) := by kernel_rfl
theorem st79 : eStore Tryz.prog fr σ 79 a v = ob (ev fr a) fun a => ob (ev fr v) fun v => ob (ob (at? a) fun p => pr p fun b off => bi (isTup v) none (bb ((cellsL v).length.beq 3) (σ.write b off (cellsL v)))) fun σ => some (undefV, σ) := by kernel_rfl
theorem al79 : nAlloc Tryz.prog 79 = some ([.int .i64 0, .int .i64 0, .int .i64 0], ptrTo) := by kernel_rfl
theorem ze79 : zero? Tryz.prog 79 = some (.agg ⟨[.int .i64 0, .int .i64 0, .int .i64 0]⟩) := by kernel_rfl
theorem bu79 : pBuild Tryz.prog fr 79 #[] = some (.agg ⟨[.int .i64 0, .int .i64 0, .int .i64 0]⟩) := by kernel_rfl
theorem ia79 {b off i : Nat} : indexAddrV Tryz.prog 79 (.pointer (some ⟨b, off, none⟩)) i = bb (Nat.blt i 3) (some (.pointer (some ⟨b, off + i * 1, none⟩))) := by kernel_rfl
theorem bv79 {z : List Value} {ps : List (Nat × Value)} : buildV Tryz.prog 79 z ps = ob (fillL (fun i => some (i * 1, 1)) ps z) fun l => some (.agg ⟨l⟩) := by kernel_rfl
end
end Go.Proofs.G
