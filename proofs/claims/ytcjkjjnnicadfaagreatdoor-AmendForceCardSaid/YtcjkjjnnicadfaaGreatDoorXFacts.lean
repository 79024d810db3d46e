/- Facts on the types of the translation. -/
import Derived.Test.YtcjkjjnnicadfaaGreatDoorAbSlice
import Derived.Test.YtcjkjjnnicadfaaGreatDoorProg
import Derived.KernelRfl
set_option linter.unusedSimpArgs false
set_option linter.unusedVariables false
namespace Go.Proofs.X
open Go Go.Ab
section
variable {fr : Fr} {σ : St} {x ix a v : Operand} {ve : Value}
theorem ld3 : rLoad Tryz.prog fr σ 3 a = ob (ev fr a) fun v => ob (at? v) fun p => pr p fun b off => ob (ob (σ.read b off 1) oneV) fun v => some (v, ⟨b, off, 1⟩) := by kernel_rfl
theorem lv3 {b off : Nat} : loadV Tryz.prog σ 3 (.pointer (some ⟨b, off, none⟩)) = ob (σ.read b off 1) oneV := by kernel_rfl
theorem st3 : eStore Tryz.prog fr σ 3 a v = ob (ev fr a) fun a => ob (ev fr v) fun v => ob (ob (at? a) fun p => pr p fun b off => bi (isTup v) none (bb ((cellsL v).length.beq 1) (σ.write b off (cellsL v)))) fun σ => some (undefV, σ) := by kernel_rfl
theorem al3 : nAlloc Tryz.prog 3 = some ([.int .i64 0], ptrTo) := by kernel_rfl
theorem ze3 : zero? Tryz.prog 3 = some (.int .i64 0) := by kernel_rfl
theorem ld4 : rLoad Tryz.prog fr σ 4 a = ob (ev fr a) fun v => ob (at? v) fun p => pr p fun b off => ob (ob (σ.read b off 1) oneV) fun v => some (v, ⟨b, off, 1⟩) := by kernel_rfl
theorem lv4 {b off : Nat} : loadV Tryz.prog σ 4 (.pointer (some ⟨b, off, none⟩)) = ob (σ.read b off 1) oneV := by kernel_rfl
theorem st4 : eStore Tryz.prog fr σ 4 a v = ob (ev fr a) fun a => ob (ev fr v) fun v => ob (ob (at? a) fun p => pr p fun b off => bi (isTup v) none (bb ((cellsL v).length.beq 1) (σ.write b off (cellsL v)))) fun σ => some (undefV, σ) := by kernel_rfl
theorem al4 : nAlloc Tryz.prog 4 = some ([.bool false], ptrTo) := by kernel_rfl
theorem ze4 : zero? Tryz.prog 4 = some (.bool false) := by kernel_rfl
theorem ld5 : rLoad Tryz.prog fr σ 5 a = ob (ev fr a) fun v => ob (at? v) fun p => pr p fun b off => ob (ob (σ.read b off 1) oneV) fun v => some (v, ⟨b, off, 1⟩) := by kernel_rfl
theorem lv5 {b off : Nat} : loadV Tryz.prog σ 5 (.pointer (some ⟨b, off, none⟩)) = ob (σ.read b off 1) oneV := by kernel_rfl
theorem st5 : eStore Tryz.prog fr σ 5 a v = ob (ev fr a) fun a => ob (ev fr v) fun v => ob (ob (at? a) fun p => pr p fun b off => bi (isTup v) none (bb ((cellsL v).length.beq 1) (σ.write b off (cellsL v)))) fun σ => some (undefV, σ) := by kernel_rfl
theorem al5 : nAlloc Tryz.prog 5 = some ([.int .u8 0], ptrTo) := by kernel_rfl
theorem ze5 : zero? Tryz.prog 5 = some (.int .u8 0) := by kernel_rfl
theorem ld9 : rLoad Tryz.prog fr σ 9 a = ob (ev fr a) fun v => ob (at? v) fun p => pr p fun b off => ob (ob (σ.read b off 1) oneV) fun v => some (v, ⟨b, off, 1⟩) := by kernel_rfl
theorem lv9 {b off : Nat} : loadV Tryz.prog σ 9 (.pointer (some ⟨b, off, none⟩)) = ob (σ.read b off 1) oneV := by kernel_rfl
theorem st9 : eStore Tryz.prog fr σ 9 a v = ob (ev fr a) fun a => ob (ev fr v) fun v => ob (ob (at? a) fun p => pr p fun b off => bi (isTup v) none (bb ((cellsL v).length.beq 1) (σ.write b off (cellsL v)))) fun σ => some (undefV, σ) := by kernel_rfl
theorem al9 : nAlloc Tryz.prog 9 = some ([.string ⟨#[]⟩], ptrTo) := by kernel_rfl
theorem ze9 : zero? Tryz.prog 9 = some (.string ⟨#[]⟩) := by kernel_rfl
theorem ld25 : rLoad Tryz.prog fr σ 25 a = ob (ev fr a) fun v => ob (at? v) fun p => pr p fun b off => ob (ob (σ.read b off 1) oneV) fun v => some (v, ⟨b, off, 1⟩) := by kernel_rfl
theorem lv25 {b off : Nat} : loadV Tryz.prog σ 25 (.pointer (some ⟨b, off, none⟩)) = ob (σ.read b off 1) oneV := by kernel_rfl
theorem st25 : eStore Tryz.prog fr σ 25 a v = ob (ev fr a) fun a => ob (ev fr v) fun v => ob (ob (at? a) fun p => pr p fun b off => bi (isTup v) none (bb ((cellsL v).length.beq 1) (σ.write b off (cellsL v)))) fun σ => some (undefV, σ) := by kernel_rfl
theorem al25 : nAlloc Tryz.prog 25 = some ([.slice none 0 0], ptrTo) := by kernel_rfl
theorem ze25 : zero? Tryz.prog 25 = some (.slice none 0 0) := by kernel_rfl
theorem ia25 {b off len cap i : Nat} {s : Option Nat} : indexAddrV Tryz.prog 25 (.slice (some ⟨b, off, s⟩) len cap) i = bb (Nat.blt i len) (some (.pointer (some ⟨b, off + i * 1, none⟩))) := by kernel_rfl
theorem ap25 {b : Option Addr} {len cap : Nat} {w : Value} : appendV Tryz.prog σ 25 (.slice b len cap) w = ob (srcCells σ 1 w) fun p => pr p fun n new => bi (Nat.ble (len + n) cap) (appendIn σ 1 b len cap n new) (bb (Nat.ble ((len + n) * 9) room) (appendNew σ 1 b len n new)) := by kernel_rfl
theorem ss25 {b : Option Addr} {len cap : Nat} {lo hi : Option Value} : sliceV Tryz.prog 25 (.slice b len cap) lo hi = ob (bnds len cap lo hi) fun p => pr p fun lo hi => sliceAt 1 b lo hi cap := by kernel_rfl
theorem sl25 {len : Nat} {parts : Array (Nat × Operand)} : nSlice Tryz.prog fr 25 len parts = ob (evs fr (parts.toList.map (·.2))) fun vs => bb (Nat.ble (len * 1) 16777216) (ob (fillL (fun i => some (i * 1, 1)) ((parts.toList.map (·.1)).zip vs) (rep [.int .i64 0] len)) fun l => some (l, fun n => .slice (some ⟨n, 0, none⟩) len len)) := by kernel_rfl
theorem mk25 {l c : Operand} : nMake Tryz.prog fr 25 l c = ob (evN fr l) fun l => ob (evN fr c) fun c => bb (Nat.ble l c) (bb (Nat.ble (c * 9) room) (some (rep [.int .i64 0] c, fun n => .slice (some ⟨n, 0, none⟩) l c))) := by kernel_rfl
theorem ld60 : rLoad Tryz.prog fr σ 60 a = ob (ev fr a) fun v => ob (at? v) fun p => pr p fun b off => ob (ob (σ.read b off 1) oneV) fun v => some (v, ⟨b, off, 1⟩) := by kernel_rfl
theorem lv60 {b off : Nat} : loadV Tryz.prog σ 60 (.pointer (some ⟨b, off, none⟩)) = ob (σ.read b off 1) oneV := by kernel_rfl
theorem st60 : eStore Tryz.prog fr σ 60 a v = ob (ev fr a) fun a => ob (ev fr v) fun v => ob (ob (at? a) fun p => pr p fun b off => bi (isTup v) none (bb ((cellsL v).length.beq 1) (σ.write b off (cellsL v)))) fun σ => some (undefV, σ) := by kernel_rfl
theorem al60 : nAlloc Tryz.prog 60 = some ([.int .u16 0], ptrTo) := by kernel_rfl
theorem ze60 : zero? Tryz.prog 60 = some (.int .u16 0) := by kernel_rfl
theorem ld74 : rLoad Tryz.prog fr σ 74 a = ob (ev fr a) fun v => ob (at? v) fun p => pr p fun b off => ob (ob (σ.read b off 1) oneV) fun v => some (v, ⟨b, off, 1⟩) := by kernel_rfl
theorem lv74 {b off : Nat} : loadV Tryz.prog σ 74 (.pointer (some ⟨b, off, none⟩)) = ob (σ.read b off 1) oneV := by kernel_rfl
theorem st74 : eStore Tryz.prog fr σ 74 a v = ob (ev fr a) fun a => ob (ev fr v) fun v => ob (ob (at? a) fun p => pr p fun b off => bi (isTup v) none (bb ((cellsL v).length.beq 1) (σ.write b off (cellsL v)))) fun σ => some (undefV, σ) := by kernel_rfl
theorem al74 : nAlloc Tryz.prog 74 = some ([.slice none 0 0], ptrTo) := by kernel_rfl
theorem ze74 : zero? Tryz.prog 74 = some (.slice none 0 0) := by kernel_rfl
theorem ia74 {b off len cap i : Nat} {s : Option Nat} : indexAddrV Tryz.prog 74 (.slice (some ⟨b, off, s⟩) len cap) i = bb (Nat.blt i len) (some (.pointer (some ⟨b, off + i * 1, none⟩))) := by kernel_rfl
theorem ap74 {b : Option Addr} {len cap : Nat} {w : Value} : appendV Tryz.prog σ 74 (.slice b len cap) w = ob (srcCells σ 1 w) fun p => pr p fun n new => bi (Nat.ble (len + n) cap) (appendIn σ 1 b len cap n new) (bb (Nat.ble ((len + n) * 2) room) (appendNew σ 1 b len n new)) := by kernel_rfl
theorem ss74 {b : Option Addr} {len cap : Nat} {lo hi : Option Value} : sliceV Tryz.prog 74 (.slice b len cap) lo hi = ob (bnds len cap lo hi) fun p => pr p fun lo hi => sliceAt 1 b lo hi cap := by kernel_rfl
theorem sl74 {len : Nat} {parts : Array (Nat × Operand)} : nSlice Tryz.prog fr 74 len parts = ob (evs fr (parts.toList.map (·.2))) fun vs => bb (Nat.ble (len * 1) 16777216) (ob (fillL (fun i => some (i * 1, 1)) ((parts.toList.map (·.1)).zip vs) (rep [.int .u8 0] len)) fun l => some (l, fun n => .slice (some ⟨n, 0, none⟩) len len)) := by kernel_rfl
theorem mk74 {l c : Operand} : nMake Tryz.prog fr 74 l c = ob (evN fr l) fun l => ob (evN fr c) fun c => bb (Nat.ble l c) (bb (Nat.ble (c * 2) room) (some (rep [.int .u8 0] c, fun n => .slice (some ⟨n, 0, none⟩) l c))) := by kernel_rfl
theorem ld45 : rLoad Tryz.prog fr σ 45 a = ob (ev fr a) fun v => ob (at? v) fun p => pr p fun b off => ob (ob (σ.read b off 20) fun cs => some (.agg ⟨cs⟩)) fun v => some (v, ⟨b, off, 20⟩) := by kernel_rfl
theorem lv45 {b off : Nat} : loadV Tryz.prog σ 45 (.pointer (some ⟨b, off, none⟩)) = ob (σ.read b off 20) fun cs => some (.agg ⟨cs⟩) := by kernel_rfl
theorem st45 : eStore Tryz.prog fr σ 45 a v = ob (ev fr a) fun a => ob (ev fr v) fun v => ob (ob (at? a) fun p => pr p fun b off => bi (isTup v) none (bb ((cellsL v).length.beq 20) (σ.write b off (cellsL v)))) fun σ => some (undefV, σ) := by kernel_rfl
theorem al45 : nAlloc Tryz.prog 45 = some ([.string ⟨#[]⟩, .slice none 0 0, .slice none 0 0, .slice none 0 0, .int .i64 0, .int .i64 0, .string ⟨#[]⟩, .int .i64 0, .int .i64 0, .string ⟨#[]⟩, .slice none 0 0, .slice none 0 0, .int .i64 0, .slice none 0 0, .int .i64 0, .int .i64 0, .int .i64 0, .int .i64 0, .int .i64 0, .int .i64 0], ptrTo) := by kernel_rfl
theorem ze45 : zero? Tryz.prog 45 = some (.agg ⟨[.string ⟨#[]⟩, .slice none 0 0, .slice none 0 0, .slice none 0 0, .int .i64 0, .int .i64 0, .string ⟨#[]⟩, .int .i64 0, .int .i64 0, .string ⟨#[]⟩, .slice none 0 0, .slice none 0 0, .int .i64 0, .slice none 0 0, .int .i64 0, .int .i64 0, .int .i64 0, .int .i64 0, .int .i64 0, .int .i64 0]⟩) := by kernel_rfl
theorem bu45 : pBuild Tryz.prog fr 45 #[] = some (.agg ⟨[.string ⟨#[]⟩, .slice none 0 0, .slice none 0 0, .slice none 0 0, .int .i64 0, .int .i64 0, .string ⟨#[]⟩, .int .i64 0, .int .i64 0, .string ⟨#[]⟩, .slice none 0 0, .slice none 0 0, .int .i64 0, .slice none 0 0, .int .i64 0, .int .i64 0, .int .i64 0, .int .i64 0, .int .i64 0, .int .i64 0]⟩) := by kernel_rfl
theorem bv45 {z : List Value} {ps : List (Nat × Value)} : buildV Tryz.prog 45 z ps = ob (fillL (fun i => [(0, 1), (1, 1), (2, 1), (3, 1), (4, 1), (5, 1), (6, 5), (11, 1), (12, 1), (13, 1), (14, 1), (15, 5)][i]?) ps z) fun l => some (.agg ⟨l⟩) := by kernel_rfl
theorem fa45_0 : pFieldAddr Tryz.prog fr 45 x 0 = ob (ev fr x) fun v => ob (at? v) fun p => pr p fun b off => some (.pointer (some ⟨b, off, none⟩)) := by kernel_rfl
theorem fi45_0 : pField Tryz.prog fr 45 x 0 = ob (ev fr x) fun v => ob (agg? v) fun cs => ob (sub cs 0 1) oneV := by kernel_rfl
theorem fa45_1 : pFieldAddr Tryz.prog fr 45 x 1 = ob (ev fr x) fun v => ob (at? v) fun p => pr p fun b off => some (.pointer (some ⟨b, off + 1, none⟩)) := by kernel_rfl
theorem fi45_1 : pField Tryz.prog fr 45 x 1 = ob (ev fr x) fun v => ob (agg? v) fun cs => ob (sub cs 1 1) oneV := by kernel_rfl
theorem fa45_2 : pFieldAddr Tryz.prog fr 45 x 2 = ob (ev fr x) fun v => ob (at? v) fun p => pr p fun b off => some (.pointer (some ⟨b, off + 2, none⟩)) := by kernel_rfl
theorem fi45_2 : pField Tryz.prog fr 45 x 2 = ob (ev fr x) fun v => ob (agg? v) fun cs => ob (sub cs 2 1) oneV := by kernel_rfl
theorem fa45_3 : pFieldAddr Tryz.prog fr 45 x 3 = ob (ev fr x) fun v => ob (at? v) fun p => pr p fun b off => some (.pointer (some ⟨b, off + 3, none⟩)) := by kernel_rfl
theorem fi45_3 : pField Tryz.prog fr 45 x 3 = ob (ev fr x) fun v => ob (agg? v) fun cs => ob (sub cs 3 1) oneV := by kernel_rfl
theorem fa45_4 : pFieldAddr Tryz.prog fr 45 x 4 = ob (ev fr x) fun v => ob (at? v) fun p => pr p fun b off => some (.pointer (some ⟨b, off + 4, none⟩)) := by kernel_rfl
theorem fi45_4 : pField Tryz.prog fr 45 x 4 = ob (ev fr x) fun v => ob (agg? v) fun cs => ob (sub cs 4 1) oneV := by kernel_rfl
theorem fa45_5 : pFieldAddr Tryz.prog fr 45 x 5 = ob (ev fr x) fun v => ob (at? v) fun p => pr p fun b off => some (.pointer (some ⟨b, off + 5, none⟩)) := by kernel_rfl
theorem fi45_5 : pField Tryz.prog fr 45 x 5 = ob (ev fr x) fun v => ob (agg? v) fun cs => ob (sub cs 5 1) oneV := by kernel_rfl
theorem fa45_6 : pFieldAddr Tryz.prog fr 45 x 6 = ob (ev fr x) fun v => ob (at? v) fun p => pr p fun b off => some (.pointer (some ⟨b, off + 6, none⟩)) := by kernel_rfl
theorem fi45_6 : pField Tryz.prog fr 45 x 6 = ob (ev fr x) fun v => ob (agg? v) fun cs => ob (sub cs 6 5) fun l => some (.agg ⟨l⟩) := by kernel_rfl
theorem fa45_7 : pFieldAddr Tryz.prog fr 45 x 7 = ob (ev fr x) fun v => ob (at? v) fun p => pr p fun b off => some (.pointer (some ⟨b, off + 11, none⟩)) := by kernel_rfl
theorem fi45_7 : pField Tryz.prog fr 45 x 7 = ob (ev fr x) fun v => ob (agg? v) fun cs => ob (sub cs 11 1) oneV := by kernel_rfl
theorem fa45_8 : pFieldAddr Tryz.prog fr 45 x 8 = ob (ev fr x) fun v => ob (at? v) fun p => pr p fun b off => some (.pointer (some ⟨b, off + 12, none⟩)) := by kernel_rfl
theorem fi45_8 : pField Tryz.prog fr 45 x 8 = ob (ev fr x) fun v => ob (agg? v) fun cs => ob (sub cs 12 1) oneV := by kernel_rfl
theorem fa45_9 : pFieldAddr Tryz.prog fr 45 x 9 = ob (ev fr x) fun v => ob (at? v) fun p => pr p fun b off => some (.pointer (some ⟨b, off + 13, none⟩)) := by kernel_rfl
theorem fi45_9 : pField Tryz.prog fr 45 x 9 = ob (ev fr x) fun v => ob (agg? v) fun cs => ob (sub cs 13 1) oneV := by kernel_rfl
theorem fa45_10 : pFieldAddr Tryz.prog fr 45 x 10 = ob (ev fr x) fun v => ob (at? v) fun p => pr p fun b off => some (.pointer (some ⟨b, off + 14, none⟩)) := by kernel_rfl
theorem fi45_10 : pField Tryz.prog fr 45 x 10 = ob (ev fr x) fun v => ob (agg? v) fun cs => ob (sub cs 14 1) oneV := by kernel_rfl
theorem fa45_11 : pFieldAddr Tryz.prog fr 45 x 11 = ob (ev fr x) fun v => ob (at? v) fun p => pr p fun b off => some (.pointer (some ⟨b, off + 15, none⟩)) := by kernel_rfl
theorem fi45_11 : pField Tryz.prog fr 45 x 11 = ob (ev fr x) fun v => ob (agg? v) fun cs => ob (sub cs 15 5) fun l => some (.agg ⟨l⟩) := by kernel_rfl
theorem ld67 : rLoad Tryz.prog fr σ 67 a = ob (ev fr a) fun v => ob (at? v) fun p => pr p fun b off => ob (ob (σ.read b off 1) oneV) fun v => some (v, ⟨b, off, 1⟩) := by kernel_rfl
theorem lv67 {b off : Nat} : loadV Tryz.prog σ 67 (.pointer (some ⟨b, off, none⟩)) = ob (σ.read b off 1) oneV := by kernel_rfl
theorem st67 : eStore Tryz.prog fr σ 67 a v = ob (ev fr a) fun a => ob (ev fr v) fun v => ob (ob (at? a) fun p => pr p fun b off => bi (isTup v) none (bb ((cellsL v).length.beq 1) (σ.write b off (cellsL v)))) fun σ => some (undefV, σ) := by kernel_rfl
theorem al67 : nAlloc Tryz.prog 67 = some ([.slice none 0 0], ptrTo) := by kernel_rfl
theorem ze67 : zero? Tryz.prog 67 = some (.slice none 0 0) := by kernel_rfl
theorem ia67 {b off len cap i : Nat} {s : Option Nat} : indexAddrV Tryz.prog 67 (.slice (some ⟨b, off, s⟩) len cap) i = bb (Nat.blt i len) (some (.pointer (some ⟨b, off + i * 2, none⟩))) := by kernel_rfl
theorem ap67 {b : Option Addr} {len cap : Nat} {w : Value} : appendV Tryz.prog σ 67 (.slice b len cap) w = ob (srcCells σ 2 w) fun p => pr p fun n new => bi (Nat.ble (len + n) cap) (appendIn σ 2 b len cap n new) (bb (Nat.ble ((len + n) * 25) room) (appendNew σ 2 b len n new)) := by kernel_rfl
theorem ss67 {b : Option Addr} {len cap : Nat} {lo hi : Option Value} : sliceV Tryz.prog 67 (.slice b len cap) lo hi = ob (bnds len cap lo hi) fun p => pr p fun lo hi => sliceAt 2 b lo hi cap := by kernel_rfl
theorem sl67 {len : Nat} {parts : Array (Nat × Operand)} : nSlice Tryz.prog fr 67 len parts = ob (evs fr (parts.toList.map (·.2))) fun vs => bb (Nat.ble (len * 2) 16777216) (ob (fillL (fun i => some (i * 2, 2)) ((parts.toList.map (·.1)).zip vs) (rep [.int .i64 0, .string ⟨#[]⟩] len)) fun l => some (l, fun n => .slice (some ⟨n, 0, none⟩) len len)) := by kernel_rfl
theorem mk67 {l c : Operand} : nMake Tryz.prog fr 67 l c = ob (evN fr l) fun l => ob (evN fr c) fun c => bb (Nat.ble l c) (bb (Nat.ble (c * 25) room) (some (rep [.int .i64 0, .string ⟨#[]⟩] c, fun n => .slice (some ⟨n, 0, none⟩) l c))) := by kernel_rfl
theorem ld68 : rLoad Tryz.prog fr σ 68 a = ob (ev fr a) fun v => ob (at? v) fun p => pr p fun b off => ob (ob (σ.read b off 1) oneV) fun v => some (v, ⟨b, off, 1⟩) := by kernel_rfl
theorem lv68 {b off : Nat} : loadV Tryz.prog σ 68 (.pointer (some ⟨b, off, none⟩)) = ob (σ.read b off 1) oneV := by kernel_rfl
theorem st68 : eStore Tryz.prog fr σ 68 a v = ob (ev fr a) fun a => ob (ev fr v) fun v => ob (ob (at? a) fun p => pr p fun b off => bi (isTup v) none (bb ((cellsL v).length.beq 1) (σ.write b off (cellsL v)))) fun σ => some (undefV, σ) := by kernel_rfl
theorem al68 : nAlloc Tryz.prog 68 = some ([.slice none 0 0], ptrTo) := by kernel_rfl
theorem ze68 : zero? Tryz.prog 68 = some (.slice none 0 0) := by kernel_rfl
theorem ia68 {b off len cap i : Nat} {s : Option Nat} : indexAddrV Tryz.prog 68 (.slice (some ⟨b, off, s⟩) len cap) i = bb (Nat.blt i len) (some (.pointer (some ⟨b, off + i * 20, none⟩))) := by kernel_rfl
theorem ap68 {b : Option Addr} {len cap : Nat} {w : Value} : appendV Tryz.prog σ 68 (.slice b len cap) w = ob (srcCells σ 20 w) fun p => pr p fun n new => bi (Nat.ble (len + n) cap) (appendIn σ 20 b len cap n new) (bb (Nat.ble ((len + n) * 281) room) (appendNew σ 20 b len n new)) := by kernel_rfl
theorem ss68 {b : Option Addr} {len cap : Nat} {lo hi : Option Value} : sliceV Tryz.prog 68 (.slice b len cap) lo hi = ob (bnds len cap lo hi) fun p => pr p fun lo hi => sliceAt 20 b lo hi cap := by kernel_rfl
theorem sl68 {len : Nat} {parts : Array (Nat × Operand)} : nSlice Tryz.prog fr 68 len parts = ob (evs fr (parts.toList.map (·.2))) fun vs => bb (Nat.ble (len * 20) 16777216) (ob (fillL (fun i => some (i * 20, 20)) ((parts.toList.map (·.1)).zip vs) (rep [.string ⟨#[]⟩, .slice none 0 0, .slice none 0 0, .slice none 0 0, .int .i64 0, .int .i64 0, .string ⟨#[]⟩, .int .i64 0, .int .i64 0, .string ⟨#[]⟩, .slice none 0 0, .slice none 0 0, .int .i64 0, .slice none 0 0, .int .i64 0, .int .i64 0, .int .i64 0, .int .i64 0, .int .i64 0, .int .i64 0] len)) fun l => some (l, fun n => .slice (some ⟨n, 0, none⟩) len len)) := by kernel_rfl
theorem mk68 {l c : Operand} : nMake Tryz.prog fr 68 l c = ob (evN fr l) fun l => ob (evN fr c) fun c => bb (Nat.ble l c) (bb (Nat.ble (c * 281) room) (some (rep [.string ⟨#[]⟩, .slice none 0 0, .slice none 0 0, .slice none 0 0, .int .i64 0, .int .i64 0, .string ⟨#[]⟩, .int .i64 0, .int .i64 0, .string ⟨#[]⟩, .slice none 0 0, .slice none 0 0, .int .i64 0, .slice none 0 0, .int .i64 0, .int .i64 0, .int .i64 0, .int .i64 0, .int .i64 0, .int .i64 0] c, fun n => .slice (some ⟨n, 0, none⟩) l c))) := by kernel_rfl
theorem ld69 : rLoad Tryz.prog fr σ 69 a = ob (ev fr a) fun v => ob (at? v) fun p => pr p fun b off => ob (ob (σ.read b off 2) fun cs => some (.agg ⟨cs⟩)) fun v => some (v, ⟨b, off, 2⟩) := by kernel_rfl
theorem lv69 {b off : Nat} : loadV Tryz.prog σ 69 (.pointer (some ⟨b, off, none⟩)) = ob (σ.read b off 2) fun cs => some (.agg ⟨cs⟩) := by kernel_rfl
theorem st69 : eStore Tryz.prog fr σ 69 a v = ob (ev fr a) fun a => ob (ev fr v) fun v => ob (ob (at? a) fun p => pr p fun b off => bi (isTup v) none (bb ((cellsL v).length.beq 2) (σ.write b off (cellsL v)))) fun σ => some (undefV, σ) := by kernel_rfl
theorem al69 : nAlloc Tryz.prog 69 = some ([.int .i64 0, .string ⟨#[]⟩], ptrTo) := by kernel_rfl
theorem ze69 : zero? Tryz.prog 69 = some (.agg ⟨[.int .i64 0, .string ⟨#[]⟩]⟩) := by kernel_rfl
theorem bu69 : pBuild Tryz.prog fr 69 #[] = some (.agg ⟨[.int .i64 0, .string ⟨#[]⟩]⟩) := by kernel_rfl
theorem bv69 {z : List Value} {ps : List (Nat × Value)} : buildV Tryz.prog 69 z ps = ob (fillL (fun i => [(0, 1), (1, 1)][i]?) ps z) fun l => some (.agg ⟨l⟩) := by kernel_rfl
theorem fa69_0 : pFieldAddr Tryz.prog fr 69 x 0 = ob (ev fr x) fun v => ob (at? v) fun p => pr p fun b off => some (.pointer (some ⟨b, off, none⟩)) := by kernel_rfl
theorem fi69_0 : pField Tryz.prog fr 69 x 0 = ob (ev fr x) fun v => ob (agg? v) fun cs => ob (sub cs 0 1) oneV := by kernel_rfl
theorem fa69_1 : pFieldAddr Tryz.prog fr 69 x 1 = ob (ev fr x) fun v => ob (at? v) fun p => pr p fun b off => some (.pointer (some ⟨b, off + 1, none⟩)) := by kernel_rfl
theorem fi69_1 : pField Tryz.prog fr 69 x 1 = ob (ev fr x) fun v => ob (agg? v) fun cs => ob (sub cs 1 1) oneV := by kernel_rfl
theorem ld70 : rLoad Tryz.prog fr σ 70 a = ob (ev fr a) fun v => ob (at? v) fun p => pr p fun b off => ob (ob (σ.read b off 2) fun cs => some (.agg ⟨cs⟩)) fun v => some (v, ⟨b, off, 2⟩) := by kernel_rfl
theorem lv70 {b off : Nat} : loadV Tryz.prog σ 70 (.pointer (some ⟨b, off, none⟩)) = ob (σ.read b off 2) fun cs => some (.agg ⟨cs⟩) := by kernel_rfl
theorem st70 : eStore Tryz.prog fr σ 70 a v = ob (ev fr a) fun a => ob (ev fr v) fun v => ob (ob (at? a) fun p => pr p fun b off => bi (isTup v) none (bb ((cellsL v).length.beq 2) (σ.write b off (cellsL v)))) fun σ => some (undefV, σ) := by kernel_rfl
theorem al70 : nAlloc Tryz.prog 70 = some ([.int .i64 0, .string ⟨#[]⟩], ptrTo) := by kernel_rfl
theorem ze70 : zero? Tryz.prog 70 = some (.agg ⟨[.int .i64 0, .string ⟨#[]⟩]⟩) := by kernel_rfl
theorem bu70 : pBuild Tryz.prog fr 70 #[] = some (.agg ⟨[.int .i64 0, .string ⟨#[]⟩]⟩) := by kernel_rfl
theorem bv70 {z : List Value} {ps : List (Nat × Value)} : buildV Tryz.prog 70 z ps = ob (fillL (fun i => [(0, 1), (1, 1)][i]?) ps z) fun l => some (.agg ⟨l⟩) := by kernel_rfl
theorem fa70_0 : pFieldAddr Tryz.prog fr 70 x 0 = ob (ev fr x) fun v => ob (at? v) fun p => pr p fun b off => some (.pointer (some ⟨b, off, none⟩)) := by kernel_rfl
theorem fi70_0 : pField Tryz.prog fr 70 x 0 = ob (ev fr x) fun v => ob (agg? v) fun cs => ob (sub cs 0 1) oneV := by kernel_rfl
theorem fa70_1 : pFieldAddr Tryz.prog fr 70 x 1 = ob (ev fr x) fun v => ob (at? v) fun p => pr p fun b off => some (.pointer (some ⟨b, off + 1, none⟩)) := by kernel_rfl
theorem fi70_1 : pField Tryz.prog fr 70 x 1 = ob (ev fr x) fun v => ob (agg? v) fun cs => ob (sub cs 1 1) oneV := by kernel_rfl
theorem ld44 : rLoad Tryz.prog fr σ 44 a = ob (ev fr a) fun v => ob (at? v) fun p => pr p fun b off => ob (ob (σ.read b off 20) fun cs => some (.agg ⟨cs⟩)) fun v => some (v, ⟨b, off, 20⟩) := by kernel_rfl
theorem lv44 {b off : Nat} : loadV Tryz.prog σ 44 (.pointer (some ⟨b, off, none⟩)) = ob (σ.read b off 20) fun cs => some (.agg ⟨cs⟩) := by kernel_rfl
theorem st44 : eStore Tryz.prog fr σ 44 a v = ob (ev fr a) fun a => ob (ev fr v) fun v => ob (ob (at? a) fun p => pr p fun b off => bi (isTup v) none (bb ((cellsL v).length.beq 20) (σ.write b off (cellsL v)))) fun σ => some (undefV, σ) := by kernel_rfl
theorem al44 : nAlloc Tryz.prog 44 = some ([.string ⟨#[]⟩, .slice none 0 0, .slice none 0 0, .slice none 0 0, .int .i64 0, .int .i64 0, .string ⟨#[]⟩, .int .i64 0, .int .i64 0, .string ⟨#[]⟩, .slice none 0 0, .slice none 0 0, .int .i64 0, .slice none 0 0, .int .i64 0, .int .i64 0, .int .i64 0, .int .i64 0, .int .i64 0, .int .i64 0], ptrTo) := by kernel_rfl
theorem ze44 : zero? Tryz.prog 44 = some (.agg ⟨[.string ⟨#[]⟩, .slice none 0 0, .slice none 0 0, .slice none 0 0, .int .i64 0, .int .i64 0, .string ⟨#[]⟩, .int .i64 0, .int .i64 0, .string ⟨#[]⟩, .slice none 0 0, .slice none 0 0, .int .i64 0, .slice none 0 0, .int .i64 0, .int .i64 0, .int .i64 0, .int .i64 0, .int .i64 0, .int .i64 0]⟩) := by kernel_rfl
theorem bu44 : pBuild Tryz.prog fr 44 #[] = some (.agg ⟨[.string ⟨#[]⟩, .slice none 0 0, .slice none 0 0, .slice none 0 0, .int .i64 0, .int .i64 0, .string ⟨#[]⟩, .int .i64 0, .int .i64 0, .string ⟨#[]⟩, .slice none 0 0, .slice none 0 0, .int .i64 0, .slice none 0 0, .int .i64 0, .int .i64 0, .int .i64 0, .int .i64 0, .int .i64 0, .int .i64 0]⟩) := by kernel_rfl
theorem bv44 {z : List Value} {ps : List (Nat × Value)} : buildV Tryz.prog 44 z ps = ob (fillL (fun i => [(0, 1), (1, 1), (2, 1), (3, 1), (4, 1), (5, 1), (6, 5), (11, 1), (12, 1), (13, 1), (14, 1), (15, 5)][i]?) ps z) fun l => some (.agg ⟨l⟩) := by kernel_rfl
theorem fa44_0 : pFieldAddr Tryz.prog fr 44 x 0 = ob (ev fr x) fun v => ob (at? v) fun p => pr p fun b off => some (.pointer (some ⟨b, off, none⟩)) := by kernel_rfl
theorem fi44_0 : pField Tryz.prog fr 44 x 0 = ob (ev fr x) fun v => ob (agg? v) fun cs => ob (sub cs 0 1) oneV := by kernel_rfl
theorem fa44_1 : pFieldAddr Tryz.prog fr 44 x 1 = ob (ev fr x) fun v => ob (at? v) fun p => pr p fun b off => some (.pointer (some ⟨b, off + 1, none⟩)) := by kernel_rfl
theorem fi44_1 : pField Tryz.prog fr 44 x 1 = ob (ev fr x) fun v => ob (agg? v) fun cs => ob (sub cs 1 1) oneV := by kernel_rfl
theorem fa44_2 : pFieldAddr Tryz.prog fr 44 x 2 = ob (ev fr x) fun v => ob (at? v) fun p => pr p fun b off => some (.pointer (some ⟨b, off + 2, none⟩)) := by kernel_rfl
theorem fi44_2 : pField Tryz.prog fr 44 x 2 = ob (ev fr x) fun v => ob (agg? v) fun cs => ob (sub cs 2 1) oneV := by kernel_rfl
theorem fa44_3 : pFieldAddr Tryz.prog fr 44 x 3 = ob (ev fr x) fun v => ob (at? v) fun p => pr p fun b off => some (.pointer (some ⟨b, off + 3, none⟩)) := by kernel_rfl
theorem fi44_3 : pField Tryz.prog fr 44 x 3 = ob (ev fr x) fun v => ob (agg? v) fun cs => ob (sub cs 3 1) oneV := by kernel_rfl
theorem fa44_4 : pFieldAddr Tryz.prog fr 44 x 4 = ob (ev fr x) fun v => ob (at? v) fun p => pr p fun b off => some (.pointer (some ⟨b, off + 4, none⟩)) := by kernel_rfl
theorem fi44_4 : pField Tryz.prog fr 44 x 4 = ob (ev fr x) fun v => ob (agg? v) fun cs => ob (sub cs 4 1) oneV := by kernel_rfl
theorem fa44_5 : pFieldAddr Tryz.prog fr 44 x 5 = ob (ev fr x) fun v => ob (at? v) fun p => pr p fun b off => some (.pointer (some ⟨b, off + 5, none⟩)) := by kernel_rfl
theorem fi44_5 : pField Tryz.prog fr 44 x 5 = ob (ev fr x) fun v => ob (agg? v) fun cs => ob (sub cs 5 1) oneV := by kernel_rfl
theorem fa44_6 : pFieldAddr Tryz.prog fr 44 x 6 = ob (ev fr x) fun v => ob (at? v) fun p => pr p fun b off => some (.pointer (some ⟨b, off + 6, none⟩)) := by kernel_rfl
theorem fi44_6 : pField Tryz.prog fr 44 x 6 = ob (ev fr x) fun v => ob (agg? v) fun cs => ob (sub cs 6 5) fun l => some (.agg ⟨l⟩) := by kernel_rfl
theorem fa44_7 : pFieldAddr Tryz.prog fr 44 x 7 = ob (ev fr x) fun v => ob (at? v) fun p => pr p fun b off => some (.pointer (some ⟨b, off + 11, none⟩)) := by kernel_rfl
theorem fi44_7 : pField Tryz.prog fr 44 x 7 = ob (ev fr x) fun v => ob (agg? v) fun cs => ob (sub cs 11 1) oneV := by kernel_rfl
theorem fa44_8 : pFieldAddr Tryz.prog fr 44 x 8 = ob (ev fr x) fun v => ob (at? v) fun p => pr p fun b off => some (.pointer (some ⟨b, off + 12, none⟩)) := by kernel_rfl
theorem fi44_8 : pField Tryz.prog fr 44 x 8 = ob (ev fr x) fun v => ob (agg? v) fun cs => ob (sub cs 12 1) oneV := by kernel_rfl
theorem fa44_9 : pFieldAddr Tryz.prog fr 44 x 9 = ob (ev fr x) fun v => ob (at? v) fun p => pr p fun b off => some (.pointer (some ⟨b, off + 13, none⟩)) := by kernel_rfl
theorem fi44_9 : pField Tryz.prog fr 44 x 9 = ob (ev fr x) fun v => ob (agg? v) fun cs => ob (sub cs 13 1) oneV := by kernel_rfl
theorem fa44_10 : pFieldAddr Tryz.prog fr 44 x 10 = ob (ev fr x) fun v => ob (at? v) fun p => pr p fun b off => some (.pointer (some ⟨b, off + 14, none⟩)) := by kernel_rfl
theorem fi44_10 : pField Tryz.prog fr 44 x 10 = ob (ev fr x) fun v => ob (agg? v) fun cs => ob (sub cs 14 1) oneV := by kernel_rfl
theorem fa44_11 : pFieldAddr Tryz.prog fr 44 x 11 = ob (ev fr x) fun v => ob (at? v) fun p => pr p fun b off => some (.pointer (some ⟨b, off + 15, none⟩)) := by kernel_rfl
theorem fi44_11 : pField Tryz.prog fr 44 x 11 = ob (ev fr x) fun v => ob (agg? v) fun cs => ob (sub cs 15 5) fun l => some (.agg ⟨l⟩) := by kernel_rfl
end
end Go.Proofs.X
