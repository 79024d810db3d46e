/-
  DERIVED: THE SHELF's CONTRACTS AT THIS DUMP, IN PLAIN WORDS (tools/lay-plain.mjs out of 'TJoinShelf.lean', which tools/lay-shelf.mjs wrote): THE SAME DECLARATIONS UNDER THE SAME NAMES: 'import', 'namespace', 'open', 'def', 'theorem' AND NOTHING ELSE: no command of the shelf's: FOR A HAND-IN. Each laying: the table of numbers ('.._ren') and one theorem, a field a fact of the dump's own or the kernel's comparison; each contract: ONE APPLICATION.
-/
import Derived.Shelf.Strings.OnBuilder
import Derived.Test.YtbppcehkpcgmkaaGreatDoorProg
import Derived.Test.YtbppcehkpcgmkaaGreatDoorAbD
import Derived.Shelf.Strings.Builder1
import Derived.KernelRfl
import Derived.Lib.Bytealg
set_option linter.unusedSimpArgs false
set_option linter.unusedVariables false
namespace Go.Proofs
open Go.Shelf
def Tryz.lays156_ren : Go.Shelf.Ren := ⟨fun | 156 => 169 | 165 => 223 | 166 => 168 | 169 => 171 | 240 => 222 | 241 => 280 | 276 => 279 | 277 => 311 | n => n, fun | 31 => 32 | 9 => 9 | 3 => 3 | 4 => 4 | 0 => 0 | 20 => 20 | 72 => 213 | 76 => 204 | 70 => 210 | 37 => 211 | 75 => 203 | 127 => 263 | 164 => 308 | 5 => 5 | 80 => 135 | n => n, fun | n => n⟩
theorem Tryz.lays156 : Go.Proofs.Lays.n156 Tryz.prog Tryz.lays156_ren := {
  mixed := by kernel_rfl
  f156 := Tryz.func169.trans (congrArg some (by kernel_rfl))
  f165 := Tryz.func223.trans (congrArg some (by kernel_rfl))
  f166 := Tryz.func168.trans (congrArg some (by kernel_rfl))
  f169 := Tryz.func171.trans (congrArg some (by kernel_rfl))
  f240 := Tryz.func222.trans (congrArg some (by kernel_rfl))
  f241 := Tryz.func280.trans (congrArg some (by kernel_rfl))
  f276 := Tryz.func279.trans (congrArg some (by kernel_rfl))
  f277 := Tryz.func311.trans (congrArg some (by kernel_rfl))
  t0 := Tryz.underlying0
  a0 := Tryz.isAgg0
  z0 := Tryz.sizeOf0
  v0 := Tryz.zeroValue0
  t3 := Tryz.underlying3
  a3 := Tryz.isAgg3
  z3 := Tryz.sizeOf3
  v3 := Tryz.zeroValue3
  t4 := Tryz.underlying4
  a4 := Tryz.isAgg4
  z4 := Tryz.sizeOf4
  v4 := Tryz.zeroValue4
  t9 := Tryz.underlying9
  a9 := Tryz.isAgg9
  z9 := Tryz.sizeOf9
  v9 := Tryz.zeroValue9
  t20 := Tryz.underlying20
  a20 := Tryz.isAgg20
  z20 := Tryz.sizeOf20
  v20 := Tryz.zeroValue20
  t31 := Tryz.underlying32
  a31 := Tryz.isAgg32
  z31 := Tryz.sizeOf32
  v31 := Tryz.zeroValue32
  t37 := Tryz.underlying211
  a37 := Tryz.isAgg211
  z37 := Tryz.sizeOf211
  v37 := Tryz.zeroValue211
  t70 := Tryz.underlying210
  a70 := Tryz.isAgg210
  z70 := Tryz.sizeOf210
  v70 := Tryz.zeroValue210
  t72 := Tryz.underlying213
  a72 := Tryz.isAgg213
  z72 := Tryz.sizeOf213
  v72 := Tryz.zeroValue213
  t75 := Tryz.underlying203
  a75 := Tryz.isAgg203
  z75 := Tryz.sizeOf203
  v75 := Tryz.zeroValue203
  t76 := Tryz.underlying204
  a76 := Tryz.isAgg204
  z76 := Tryz.sizeOf204
  v76 := Tryz.zeroValue204
  t127 := Tryz.underlying263
  a127 := Tryz.isAgg263
  z127 := Tryz.sizeOf263
  v127 := Tryz.zeroValue263
  t164 := Tryz.underlying308
  a164 := Tryz.isAgg308
  z164 := Tryz.sizeOf308
  v164 := Tryz.zeroValue308 }
theorem Tryz.bx156 : Builder.Extra Tryz.prog Tryz.lays156_ren := {
  sizeBuilder := by kernel_rfl
  liesBuilder := by kernel_rfl
  t5 := Tryz.underlying5
  a5 := Tryz.isAgg5
  z5 := Tryz.sizeOf5
  v5 := Tryz.zeroValue5
  infoByte := by kernel_rfl
  cellsByte := by kernel_rfl
  sizeByte := by kernel_rfl
  neB5 := by decide }
end Go.Proofs
namespace Go.Proofs.M
open Go Go.Ab Go.RowKit
set_option maxRecDepth 100000
theorem lies_self {P : Program} {e s m : Nat} (hb : Nat.ble 1 P.depth = true) (hs : P.cellsOf e = s) (h0 : 0 < s) (hm : s ≤ m) : liesAt P P.depth e (m / P.cellsOf e) 0 e 1 = true := by
  obtain ⟨d, hd⟩ : ∃ d, P.depth = d + 1 := ⟨P.depth - 1, by have := Nat.le_of_ble_eq_true hb; omega⟩
  rw [hd]
  unfold liesAt
  rw [hd]
  have h1 : 1 ≤ m / s := (Nat.le_div_iff_mul_le h0).2 (by omega)
  have hr : rowAt P (sameLayout P (d + 1) · e) (d + 1) e (m / P.cellsOf e) 0 1 = true := by
    unfold rowAt
    rw [hs]
    simp only [if_neg (show ¬ s = 0 by omega), Nat.zero_div, Nat.zero_mod, beq_self_eq_true, Bool.true_and]
    have : sameLayout P (d + 1) e e = true := by unfold sameLayout; simp
    rw [this]
    simp [h1]
  rw [hr]; rfl
set_option maxHeartbeats 1000000 in
theorem check_used (c : Nat) (w : World) (h0 : w.cell? ⟨c, 0, none⟩ = some (.pointer (some ⟨c, 0, none⟩))) :
    Calls Tryz.prog 222 #[.pointer (some ⟨c, 0, none⟩)] w fun e w' => e = .returned (.tuple #[]) ∧ w' = w := by
  obtain ⟨j, hj, _⟩ := Option.map_eq_some_iff.1 (show (Tryz.prog.info? 213).map (·.size) = some 2 by kernel_rfl)
  go_enter Tryz.func222, Tryz.ntmps222
  go_wp2
  rw [Lib.run_neq_ptr_same w _ Tryz.underlying210 hj]
  go_wp2
  go_end0
  exact ⟨rfl, rfl⟩
set_option maxHeartbeats 1000000 in
theorem check_fresh (c m : Nat) (w : World) (h0 : w.cell? ⟨c, 0, none⟩ = some (.pointer none)) (hsh : w.shape? c = some (213, m)) (hm : 2 ≤ m) (hfz : w.frozen? ⟨c, 0, none⟩ = false) :
    Calls Tryz.prog 222 #[.pointer (some ⟨c, 0, none⟩)] w fun e w' => e = .returned (.tuple #[]) ∧ w' = w.setCell ⟨c, 0, none⟩ (.pointer (some ⟨c, 0, none⟩)) := by
  obtain ⟨j, hj, hjs⟩ := Option.map_eq_some_iff.1 (show (Tryz.prog.info? 213).map (·.size) = some 2 by kernel_rfl)
  go_enter Tryz.func222, Tryz.ntmps222
  go_wp2
  rw [Lib.run_to_unsafe w ⟨c, 0, none⟩ Tryz.underlying210 Tryz.underlying308 hj (by rw [hjs]; decide) hsh (by show 0 < m; omega)]
  simp only [Result.andThen]
  rw [Oper.upon_value]
  go_wp2
  rw [run_callFunc_extern Tryz.func279 (by kernel_rfl) (by kernel_rfl) (by kernel_rfl) (e := Extern.AbiNoEscape.same) (by kernel_rfl)]
  rw [Lib.run_noEscape]
  simp only [Result.andThen]
  rw [Oper.upon_value]
  go_wp2
  rw [Lib.run_from_unsafe w ⟨c, 0, none⟩ Tryz.underlying308 Tryz.underlying210 hj hsh (lies_self (by kernel_rfl) (s := 2) (by kernel_rfl) (by omega) hm)]
  simp only [Result.andThen]
  rw [Oper.upon_value]
  go_wp2
  go_end0
  exact ⟨rfl, rfl⟩
set_option maxHeartbeats 2000000 in
theorem string_row (c g cap cells : Nat) (l : List UInt8) (w : World) (hc : w.cell? ⟨c, 1, none⟩ = some (.slice (some ⟨g, 0, none⟩) l.length cap)) (hcap : l.length ≤ cap) (hsh : w.shape? g = some (5, cells)) (h0 : l ≠ []) (hn : l.length ≤ cells) (h63 : l.length ≤ 9223372036854775807)
    (hcell : ∀ j x, l[j]? = some x → w.cell? ((⟨g, 0, none⟩ : Addr).add j) = some (.int .u8 x.toNat)) :
    Calls Tryz.prog 171 #[.pointer (some ⟨c, 0, none⟩)] w fun e w' => e = .returned (.string ⟨l.toArray⟩) ∧ w' = w.drew.freeze ⟨g, 0, none⟩ l.length := by
  have hl : l.length ≠ 0 := by simpa using h0
  have c1 : w.drew.cell? ⟨c, 1, none⟩ = some (.slice (some ⟨g, 0, none⟩) l.length cap) := hc
  have hSD : (Builtin.unsafeSliceData_ #[211] 263 #[.slice (some ⟨g, 0, none⟩) l.length cap]).run Tryz.prog w.drew = .ok (.pointer (some ⟨g, 0, none⟩)) w.drew :=
    Lib.run_unsafeSliceData_row _ _ _ _ _ _ (by omega)
  have hUS : (Builtin.unsafeString_ #[263, 3] 9 #[.pointer (some ⟨g, 0, none⟩), .int .i64 l.length]).run Tryz.prog w.drew = .ok (.string ⟨l.toArray⟩) (w.drew.freeze ⟨g, 0, none⟩ l.length) :=
    Lib.run_unsafeString_row w.drew 263 3 9 5 Tryz.underlying263 (by kernel_rfl) g cells hsh l h0 hn h63 hcell
  have mixed : Tryz.prog.follows .mixedOrders = true := by kernel_rfl
  go_enter Tryz.func171, Tryz.ntmps171
  go_wp2
  go_region_o
  all_goals (go_wp2; go_ret; exact ⟨rfl, rfl⟩)
end Go.Proofs.M
namespace Go.Proofs.M
open Go Go.Ab
set_option maxRecDepth 100000
theorem inv109 (x : Value) (w : World) : (invoke (.fn (.func 109) #[x]) #[]).run Tryz.prog w = .ok (.enter 109 #[x]) w := by
  have h1 : Tryz.prog.funcs[109]? = some Tryz.f109 := Tryz.func109
  simp [invoke, callFunc, Sem.run_bind, run_program, Result.andThen_ok, h1]
  rw [if_neg (of_decide_eq_false (by kernel_rfl)), if_neg (by intro h; cases h)]
theorem defers1 (Q : Exit → Act → World → Prop) (a : Act) (w : World) (x : Value) (hs : 7 ≤ a.tmps.size) (hx : a.tmps[2]? = some x) (h : Q .normal (deferred a 3 109 x) w) {p1 p2 : String} {e1 e2 : Array Edge} {i t1 t2 : Nat} :
    (Code.region i #[⟨some 3, .makeFunc (.func 109) #[] #[.tmp 2], t1, p1, e1, none⟩, ⟨none, .defer ⟨.value (.tmp 3), #[], #[]⟩, t2, p2, e2, none⟩] false).wpIn Fence.wide 0 Tryz.prog Q a w := by
  refine wpIn_region_list ?_
  simp only [wpListIn, Region.wanted, if_true]
  refine ⟨fun _ _ => trivial, ?_⟩
  have k1 : (Oper.semAt Fence.wide.round a.eval ⟨some 3, .makeFunc (.func 109) #[] #[.tmp 2], t1, p1, e1, none⟩).run Tryz.prog w = .ok (.value (.func (.func 109) #[] #[x])) w := by
    simp [Fence.wide, Oper.semAt_none, execOp, Instr.makeFunc, Act.eval, hx]
  rw [k1]
  show Oper.wpIn _ _ _ _ _ _ _ _
  refine ⟨fun _ _ => trivial, ?_⟩
  have k2 : (Oper.semAt Fence.wide.round (a.put (some 3) (.func (.func 109) #[] #[x])).eval ⟨none, .defer ⟨.value (.tmp 3), #[], #[]⟩, t2, p2, e2, none⟩).run Tryz.prog w = .ok (.defer { target := .fn (.func 109) #[x], args := #[] }) w := by
    have hx3 : (a.put (some 3) (.func (.func 109) #[] #[x])).tmps[3]? = some (.func (.func 109) #[] #[x]) := by
      show (a.tmps.setIfInBounds 3 _)[3]? = _
      rw [Array.getElem?_setIfInBounds, if_pos rfl, if_pos (by omega)]
    simp [Fence.wide, Oper.semAt_none, execOp, Act.eval, hx3, resolve, Deferred.ofValue]
  rw [k2]
  exact h
theorem closure_ok (x : Value) (w : World) : CallsDIn Fence.wide 0 Tryz.prog 109 #[x] .returning w fun e u' w' => (∃ v, e = .returned v) ∧ u' = .returning ∧ w' = w := by
  refine callsDIn_of_wpSIn Tryz.func109 rfl trivial fun c₀ cs hu => ?_
  apply wpSIn_seq
  apply wpSIn_region
  simp [wpOpsSIn, go_sem, recoverD, hu, Tryz.ntmps109, Exit.thenS]
  apply wpSIn_seq
  apply wpSIn_region
  have e1 : Tryz.prog.underlying 20 = some (.interface #[]) := Tryz.underlying20
  have e3 : ∀ w : World, (Op.equalIn Op.maxDepth 20 .nilIface .nilIface).run Tryz.prog w = .ok true w := fun w => pureRun_sound _ (show pureRun Tryz.prog (Op.equalIn Op.maxDepth 20 .nilIface .nilIface) = some true by kernel_rfl) w
  simp [wpOpsSIn, go_sem, recoverD, hu, Tryz.ntmps109, Exit.thenS, eqGuard, binOp, Op.equal, e1, e3]
  refine wpSIn_cond (t := false) (by simp [Act.eval, Array.replicate]) ?_
  refine wpSIn_of_wpIn rfl (wpIn_skip ?_)
  simp [bodyPostS, results, go_sem, hu]
  cases c₀
  cases hu
  rfl
section
variable {P : Program} {n : Nat} {Q : Exit → Act → List Frame → World → Prop} {a : Act} {cs : List Frame} {w w' : World} {ops : Array Oper} {i : Nat} {rest : List Nat} {o : Oper}
theorem opS {v : Value} (ho : ops[i]? = some o) (hg : o.guard = none) (h : (execOp a.eval o).run P w = .ok (.value v) w') (k : wpOpsSIn Fence.wide n P ops Q rest (a.put o.dst v) cs w') : wpOpsSIn Fence.wide n P ops Q (i :: rest) a cs w := by
  simp only [wpOpsSIn, ho, Region.wanted, hg, if_true, h]
  exact ⟨fun _ _ => trivial, k⟩
theorem opSk (ho : ops[i]? = some o) (hg : o.guard = none) (h : (execOp a.eval o).run P w = .ok .skip w') (k : wpOpsSIn Fence.wide n P ops Q rest (a.put o.dst undef) cs w') : wpOpsSIn Fence.wide n P ops Q (i :: rest) a cs w := by
  simp only [wpOpsSIn, ho, Region.wanted, hg, if_true, h]
  exact ⟨fun _ _ => trivial, k⟩
theorem exec_store {e : Operand → Value} {t : TypeId} {x y : Operand} (ho : o.op = .store t x y) {p v : Value} (hx : e x = p) (hy : e y = v) (h : (Instr.storeAt t p v).run P w = .ok () w') : (execOp e o).run P w = .ok .skip w' := by
  simp only [execOp, ho, hx, hy, Sem.run_bind, h]; rfl
theorem exec_load {e : Operand → Value} {t : TypeId} {x : Operand} (ho : o.op = .load t x) {p u : Value} (hx : e x = p) (h : (Instr.loadAt t p).run P w = .ok u w') : (execOp e o).run P w = .ok (.value u) w' := by
  simp only [execOp, ho, hx, Sem.run_bind, h]; rfl
theorem exec_alloc {e : Operand → Value} {t : TypeId} (ho : o.op = .alloc t) {u : Value} (h : (Instr.alloc t true (.tuple #[])).run P w = .ok u w') : (execOp e o).run P w = .ok (.value u) w' := by
  simp only [execOp, ho, Sem.run_bind, h]; rfl
end
set_option maxHeartbeats 1000000 in
theorem closure_pan (x v : Value) (w w' : World) (h : CaughtRun Tryz.prog 113 x v w w') : CallsDIn Fence.wide 0 Tryz.prog 109 #[x] (.panicking [{ v := .iface 113 v, recovered := false }]) w fun e u' w'' => (∃ v, e = .returned v) ∧ settle u' = .returning ∧ w'' = w' := by
  obtain ⟨w1, w2, u, h1, h2, h3, h4⟩ := h
  refine callsDIn_of_wpSIn Tryz.func109 rfl trivial fun c₀ cs hu => ?_
  apply wpSIn_seq
  apply wpSIn_region
  simp [wpOpsSIn, go_sem, recoverD, hu, Tryz.ntmps109, Exit.thenS]
  apply wpSIn_seq
  apply wpSIn_region
  have e1 : Tryz.prog.underlying 20 = some (.interface #[]) := Tryz.underlying20
  have e3 : ∀ w : World, (Op.equalIn Op.maxDepth 20 (.iface 113 v) .nilIface).run Tryz.prog w = .ok false w := fun w => pureRun_sound _ (show pureRun Tryz.prog (Op.equalIn Op.maxDepth 20 (.iface 113 v) .nilIface) = some false by kernel_rfl) w
  simp [wpOpsSIn, go_sem, recoverD, hu, Tryz.ntmps109, Exit.thenS, eqGuard, binOp, Op.equal, e1, e3]
  refine wpSIn_cond (t := true) (by simp [Act.eval, Array.replicate]) ?_
  simp only [if_true]
  apply wpSIn_seq
  apply wpSIn_region
  show wpOpsSIn _ _ _ _ _ [0, 1, 2, 3, 4, 5, 6, 7] _ _ _
  refine opS rfl rfl (by simp [go_sem]; exact ⟨rfl, rfl⟩) ?_
  refine opS rfl rfl (by simp [go_sem, Instr.typeAssert]; exact ⟨rfl, rfl⟩) ?_
  refine opS rfl rfl (by simp [go_sem]; exact ⟨rfl, rfl⟩) ?_
  refine opS rfl rfl (by simp [go_sem]; exact ⟨rfl, rfl⟩) ?_
  refine opS rfl rfl (by simp [go_sem]; exact ⟨rfl, rfl⟩) ?_
  refine opS rfl rfl (exec_alloc rfl h1) ?_
  refine opSk rfl rfl (exec_store rfl (by simp [go_sem]) (by simp [go_sem]) h2) ?_
  refine opS rfl rfl (by simp [go_sem]; exact ⟨rfl, rfl⟩) ?_
  apply wpSIn_seq
  apply wpSIn_seq
  apply wpSIn_region
  show wpOpsSIn _ _ _ _ _ [0, 1] _ _ _
  refine opS rfl rfl (by simp [go_sem]; exact ⟨rfl, rfl⟩) ?_
  refine opS rfl rfl (by simp [go_sem]; first | rfl | exact ⟨rfl, rfl⟩) ?_
  refine wpSIn_cond (t := false) (by simp [go_sem]) ?_
  refine wpSIn_of_wpIn rfl (wpIn_skip ?_)
  apply wpSIn_region
  show wpOpsSIn _ _ _ _ _ [0, 1] _ _ _
  refine opS rfl rfl (exec_load rfl (by simp [go_sem]) h3) ?_
  refine opSk rfl rfl (exec_store rfl (by simp [go_sem]) (by simp [go_sem]) h4) ?_
  show bodyPostS _ _ _ _ _ .normal _ _ _
  simp [bodyPostS, results, go_sem, hu]
  cases c₀
  cases hu
  rfl
noncomputable def parts : Code × Code × Code × Code := match Tryz.f58.body with
  | some (.seq a (.seq b (.seq c (.seq d .ret)))) => (a, b, c, d)
  | _ => (.skip, .skip, .skip, .skip)
/-- text.caught by its summary. -/
noncomputable def caughtT : Summ := caughtS2 Tryz.prog parts.1 parts.2.2.1 parts.2.2.2 3 2 113 113 [.cell 2 113]
theorem caught_sum {base : Env} {G : Nat} (hG : codeOk Tryz.prog 7 G parts.1 = true ∧ codeOk Tryz.prog 7 G parts.2.2.1 = true ∧ codeOk Tryz.prog 7 G parts.2.2.2 = true) {run : RunT} (hE : ExecOk Tryz.prog base G run) {vs : List Value} {σ : St} {r : CR} (h : caughtT.f run vs σ = some r) :
    Adv σ r.σ ∧ ∀ ρ w vs' N, Rel base ρ σ w → Free ρ σ.n N → r.σ.n ≤ N → Glob ρ G → VsRel ρ vs vs' → CallOk Tryz.prog base ρ 58 vs' σ w r :=
  caught2_ok (c1 := parts.2.1) (k := 109) Tryz.func58 (by kernel_rfl) rfl (fun Q a w x h1 h2 h3 => defers1 Q a w x h1 h2 h3) inv109 closure_ok closure_pan hG.1 hG.2.1 hG.2.2 hE h
end Go.Proofs.M
namespace Go.Proofs.M
open Go Go.Ab Go.RowKit
set_option maxRecDepth 100000
/-- (*strings.Builder).copyCheck. -/
noncomputable def ckF (vs : List Value) (σ : St) : Option CR := match vs with
  | [.pointer (some ⟨b, 0, none⟩)] => ob (σ.typ b) fun t => bb (Nat.beq t 213) (ob (σ.read b 0 2) fun cs => (match cs with
    | [.pointer none, _] => ob (σ.write b 0 [.pointer (some ⟨b, 0, none⟩)]) fun σ => some ⟨false, .tuple #[], σ⟩
    | [.pointer (some ⟨c, 0, none⟩), _] => bb (Nat.beq c b) (some ⟨false, .tuple #[], σ⟩)
    | _ => none))
  | _ => none
/-- The bytes of a row of bytes. -/
noncomputable def byteX (v : Value) : Option UInt8 := match v with
  | .int .u8 (.ofNat n) => bb (Nat.blt n 256) (some (UInt8.ofNat n))
  | _ => none
noncomputable def bytesX (l : List Value) : Option (List UInt8) :=
  List.rec (motive := fun _ => Option (List UInt8)) (some []) (fun v _ ih => ob (byteX v) fun b => ob ih fun bs => some (b :: bs)) l
/-- (*strings.Builder).String, of a builder that is not empty; its bytes are given up. -/
noncomputable def strF (vs : List Value) (σ : St) : Option CR := match vs with
  | [.pointer (some ⟨b, 0, none⟩)] => ob (σ.typ b) fun t => bb (Nat.beq t 213) (ob (σ.read b 0 2) fun cs => (match cs with
    | [_, .slice (some ⟨g, 0, _⟩) (n + 1) k] => ob (σ.typ g) fun t => bb (Nat.beq t 5) (bb (Nat.ble (n + 1) k) (bb (Nat.ble n room) (ob (σ.read g 0 (n + 1)) fun cs => ob (bytesX cs) fun l => ob (σ.kill g) fun σ => some ⟨false, .string ⟨l.toArray⟩, σ⟩)))
    | _ => none))
  | _ => none

section
variable {base : Env} {G : Nat}
theorem two_cells {ρ : Ab.Place} {w : World} {q : Spot} {cells : List Value} {v1 v2 : Value} (hR : Row base ρ w q cells) (ho : q.o = 0) (hs : sub cells 0 2 = some [v1, v2]) :
    2 ≤ q.m ∧ (∃ u, w.cell? ⟨q.c, 0, none⟩ = some u ∧ VRel ρ v1 u) ∧ ∃ u, w.cell? ⟨q.c, 1, none⟩ = some u ∧ VRel ρ v2 u := by
  obtain ⟨arr, e, lo, hi, a1, a0, a2, a3, a4, a5⟩ := hR
  obtain ⟨s1, s2⟩ := sub_eq hs
  have g0 : cells[0]? = some v1 := by
    have := congrArg (fun l : List Value => l[0]?) s2
    simpa using this.symm
  have g1 : cells[1]? = some v2 := by
    have := congrArg (fun l : List Value => l[1]?) s2
    simpa using this.symm
  obtain ⟨u1, b1, b2⟩ := a5 0 v1 g0
  obtain ⟨u2, b3, b4⟩ := a5 1 v2 g1
  rw [ho] at b1 b3 a2
  exact ⟨by omega, ⟨u1, by rw [cell_at a1]; exact b1, b2⟩, u2, by rw [cell_at a1]; exact b3, b4⟩
theorem ckF_ok {vs : List Value} {σ : St} {r : CR} (h : ckF vs σ = some r) : Adv σ r.σ ∧ ∀ ρ w vs' N, Rel base ρ σ w → Free ρ σ.n N → r.σ.n ≤ N → Glob ρ G → VsRel ρ vs vs' → CallOk Tryz.prog base ρ 222 vs' σ w r := by
  unfold ckF at h
  split at h
  · rename_i b
    obtain ⟨t, g1, h1⟩ := ob_eq h
    clear h
    obtain ⟨g2, h2⟩ := bb_eq h1
    clear h1
    obtain rfl := Nat.eq_of_beq_eq_true g2
    obtain ⟨cs, g3, h⟩ := ob_eq h2
    clear h2
    obtain ⟨B, hB, hsub⟩ := read_parts g3
    split at h
    · rename_i v2
      obtain ⟨σ', g4, h⟩ := ob_eq h
      cases h
      refine ⟨.write g4, fun ρ w vs' N hR hF hN hG hv => ?_⟩
      cases hv with
      | cons hp hv =>
      cases hv
      cases hp with
      | scal hs => simp [scal] at hs
      | @ptr _ _ q hq =>
      obtain ⟨ho, arr, f, ha⟩ := hR.typ hq ⟨B, (rblk_blk hB).1⟩ g1
      have hrow := hR.row b q B hq hB
      obtain ⟨h2, ⟨u, hu, hur⟩, _⟩ := two_cells hrow ho hsub
      have hun : u = .pointer none := by cases hur with | scal hs => rfl
      subst hun
      obtain ⟨w1, w2, w3⟩ := hR.write hq g4 (vs' := [.pointer (some ⟨q.c, 0, none⟩)]) (.cons (by have := VRel.ptr (off := 0) hq; rwa [ho] at this) .nil) (by simp [isCell])
      obtain ⟨arr', e, lo, hi, a1, a0, a2, a3, a4, a5⟩ := hrow
      rw [ha] at a1
      cases a1
      obtain ⟨B', cs', hr1, hown, _⟩ := write_facts g4
      rw [hB] at hr1; cases hr1
      have hfz := a3 (hR.own b q B hq (rblk_blk hB).1 hown)
      have hfr : w.frozen? ⟨q.c, 0, none⟩ = false := by
        simp only [World.frozen?, ha]
        rcases hfz with hh | hh
        · simp; omega
        · simp; omega
      have he : puts w q.c (q.o + 0) [.pointer (some ⟨q.c, 0, none⟩)] = w.setCell ⟨q.c, 0, none⟩ (.pointer (some ⟨q.c, 0, none⟩)) := by rw [ho]; rfl
      rw [he] at w2 w3
      have hc := check_fresh q.c q.m w hu (by simp [World.shape?, ha, a0]) h2 hfr
      rw [show q.o + 0 = 0 from by omega]
      exact callOk_of Tryz.func222 (by kernel_rfl) rfl hc w2 w3 (.tuple .nil)
    · rename_i c v2
      obtain ⟨g4, h⟩ := bb_eq h
      cases h
      obtain rfl := Nat.eq_of_beq_eq_true g4
      refine ⟨.refl _, fun ρ w vs' N hR hF hN hG hv => ?_⟩
      cases hv with
      | cons hp hv =>
      cases hv
      cases hp with
      | scal hs => simp [scal] at hs
      | @ptr _ _ q hq =>
      obtain ⟨ho, arr, f, ha⟩ := hR.typ hq ⟨B, (rblk_blk hB).1⟩ g1
      obtain ⟨h2, ⟨u, hu, hur⟩, _⟩ := two_cells (hR.row _ q B hq hB) ho hsub
      cases hur with
      | scal hs => simp [scal] at hs
      | @ptr _ _ q' hq' =>
      rw [hq] at hq'; cases hq'
      rw [show q.o + 0 = 0 from by omega] at hu ⊢
      exact callOk_of Tryz.func222 (by kernel_rfl) rfl (check_used q.c w hu) hR (.refl _ _ _) (.tuple .nil)
    · cases h
  · cases h
theorem bytesX_eq : ∀ {cs : List Value} {l : List UInt8}, bytesX cs = some l → cs.length = l.length ∧ ∀ (j : Nat) (x : UInt8), l[j]? = some x → cs[j]? = some (Value.int .u8 x.toNat) := by
  intro cs
  induction cs with
  | nil => intro l h; cases h; exact ⟨rfl, fun j x h => by simp at h⟩
  | cons v cs ih =>
    intro l h
    obtain ⟨b, h1, h⟩ := ob_eq (show ob (byteX v) (fun b => ob (bytesX cs) fun bs => some (b :: bs)) = some l from h)
    obtain ⟨bs, h2, h⟩ := ob_eq h
    cases h
    obtain ⟨e1, e2⟩ := ih h2
    refine ⟨by simp [e1], fun j x hj => ?_⟩
    cases j with
    | zero =>
      simp at hj; subst hj
      unfold byteX at h1
      split at h1
      · rename_i n
        obtain ⟨h3, h4⟩ := bb_eq h1
        cases h4
        rw [Nat.blt_eq] at h3
        show some (Value.int .u8 (n : Nat)) = some (Value.int .u8 ((UInt8.ofNat n).toNat : Nat))
        rw [show (UInt8.ofNat n).toNat = n from by simp [UInt8.toNat_ofNat']; omega]
      · cases h1
    | succ j => simpa using e2 j x (by simpa using hj)
theorem strF_ok {vs : List Value} {σ : St} {r : CR} (h : strF vs σ = some r) : Adv σ r.σ ∧ ∀ ρ w vs' N, Rel base ρ σ w → Free ρ σ.n N → r.σ.n ≤ N → Glob ρ G → VsRel ρ vs vs' → CallOk Tryz.prog base ρ 171 vs' σ w r := by
  unfold strF at h
  split at h
  · rename_i b
    obtain ⟨t, g1, h1⟩ := ob_eq h
    clear h
    obtain ⟨g2, h2⟩ := bb_eq h1
    clear h1
    obtain rfl := Nat.eq_of_beq_eq_true g2
    obtain ⟨cs, g3, h⟩ := ob_eq h2
    clear h2
    obtain ⟨B, hB, hsub⟩ := read_parts g3
    split at h
    · rename_i v1 g sp n k
      obtain ⟨t, g4, h1⟩ := ob_eq h
      clear h
      obtain ⟨g5, h2⟩ := bb_eq h1
      clear h1
      obtain rfl := Nat.eq_of_beq_eq_true g5
      obtain ⟨g6, h3⟩ := bb_eq h2
      obtain ⟨g7, h4⟩ := bb_eq h3
      obtain ⟨cs, g8, h5⟩ := ob_eq h4
      obtain ⟨l, g9, h6⟩ := ob_eq h5
      obtain ⟨σ', g10, h7⟩ := ob_eq h6
      cases h7
      clear h2 h3 h4 h5 h6
      have e6 := Nat.le_of_ble_eq_true g6
      have e7 := Nat.le_of_ble_eq_true g7
      unfold room at e7
      obtain ⟨Bg, hBg, hsubg⟩ := read_parts g8
      refine ⟨.kill g10, fun ρ w vs' N hR hF hN hG hv => ?_⟩
      cases hv with
      | cons hp hv =>
      cases hv
      cases hp with
      | scal hs => simp [scal] at hs
      | @ptr _ _ q hq =>
      obtain ⟨ho, arr, f, ha⟩ := hR.typ hq ⟨B, (rblk_blk hB).1⟩ g1
      obtain ⟨h2, _, u, hu, hur⟩ := two_cells (hR.row b q B hq hB) ho hsub
      have fin : ∀ (qg : Spot) (k' : Nat), ρ g = some qg → u = .slice (some ⟨qg.c, qg.o, none⟩) (n + 1) k' → n + 1 ≤ k' → CallOk Tryz.prog base ρ 171 [.pointer (some ⟨q.c, q.o + 0, none⟩)] σ w ⟨false, .string ⟨l.toArray⟩, σ'⟩ := by
        intro qg k' hqg hue hk
        subst hue
        obtain ⟨hog, arrg, fg, hag⟩ := hR.typ hqg ⟨Bg, (rblk_blk hBg).1⟩ g4
        obtain ⟨arr', e, lo, hi, a1, a0, a2, a3, a4, a5⟩ := hR.row g qg Bg hqg hBg
        rw [hag] at a1
        cases a1
        obtain ⟨s1, s2⟩ := sub_eq hsubg
        have hlen : cs.length = n + 1 := by rw [s2]; simp; omega
        obtain ⟨u1, u2⟩ := bytesX_eq g9
        have hll : l.length = n + 1 := by omega
        have hcell : ∀ j x, l[j]? = some x → w.cell? ((⟨qg.c, 0, none⟩ : Addr).add j) = some (.int .u8 x.toNat) := by
          intro j x hj
          have b1 := u2 j x hj
          have hjn : j < n + 1 := by have := (List.getElem?_eq_some_iff.1 hj).1; omega
          rw [s2, List.getElem?_take_of_lt hjn, List.getElem?_drop, Nat.zero_add] at b1
          obtain ⟨v', c1, c2⟩ := a5 j _ b1
          rw [hog, Nat.zero_add] at c1
          rw [addr_add, cell_at hag, Nat.zero_add, c1]
          cases c2 with
          | scal _ => rfl
        have hc := string_row q.c qg.c k' arrg.size l w (by rw [hll, ← hog]; exact hu) (by omega) (by simp [World.shape?, hag]) (by intro he; rw [he] at hll; simp at hll) (by omega) (by omega) hcell
        have hfr : ∀ c, c ≠ qg.c → (w.drew.freeze ⟨qg.c, 0, none⟩ l.length).heap[c]? = w.heap[c]? := by
          intro c hne
          unfold World.freeze
          split
          · rfl
          · show (w.heap.modify qg.c _)[c]? = _
            rw [Array.getElem?_modify, if_neg (fun h => hne h.symm)]
        obtain ⟨w2, w3⟩ := hR.killAt hqg g10 (w' := w.drew.freeze ⟨qg.c, 0, none⟩ l.length) (by unfold World.freeze; split <;> simp) hfr (by unfold World.freeze; split <;> exact ⟨rfl, rfl, rfl⟩)
        rw [show q.o + 0 = 0 from by omega]
        exact callOk_of Tryz.func171 (by kernel_rfl) rfl hc w2 w3 (.scal rfl)
      cases hur with
      | slice hq' => exact fin _ _ hq' rfl e6
      | grow hq' hk' hm' => exact fin _ _ hq' rfl (Nat.le_trans e6 hk')
      | scal hs => simp [scal] at hs
    · cases h
  · cases h
end
end Go.Proofs.M
namespace Go.Proofs.M
open Go Go.Ab Go.RowKit
/-- strings.Join at this program. -/
theorem join_ok {base : Env} {G : Nat} {vs : List Value} {σ : St} {r : CR} (h : joinF vs σ = some r) : Adv σ r.σ ∧ ∀ ρ w vs' N, Rel base ρ σ w → Free ρ σ.n N → r.σ.n ≤ N → Glob ρ G → VsRel ρ vs vs' → CallOk Tryz.prog base ρ 169 vs' σ w r :=
  joinF_ok (g := 169) Tryz.func169 (by kernel_rfl) rfl
    (fun bk o c xs sep w h1 h2 h3 h4 h5 => Any.strings_Join Tryz.lays156 Tryz.bx156 bk o c xs sep w h1 h2 h3 h4 h5)
    (fun a c sep w => Any.strings_Join_none Tryz.lays156 Tryz.bx156 a c sep w) h
/-- What this program calls, as it is summed up. -/
noncomputable def CS : Sums := fun g => if g = 58 then some caughtT else if g = 169 then some (.plain joinF) else if g = 171 then some (.plain strF) else if g = 222 then some (.plain ckF) else none
theorem sums0 {base : Env} {G : Nat} (hG : codeOk Tryz.prog 7 G parts.1 = true ∧ codeOk Tryz.prog 7 G parts.2.2.1 = true ∧ codeOk Tryz.prog 7 G parts.2.2.2 = true) : SumsOk Tryz.prog base G CS := by
  intro g s hs run hE vs σ r h
  unfold CS at hs
  split at hs
  · rename_i hg; subst hg; cases hs; exact caught_sum hG hE h
  · split at hs
    · rename_i hg; subst hg; cases hs; exact join_ok h
    · split at hs
      · rename_i hg; subst hg; cases hs; exact strF_ok h
      · split at hs
        · rename_i hg; subst hg; cases hs; exact ckF_ok h
        · cases hs
end Go.Proofs.M
namespace Go.Proofs.M
open Go Go.Ab Go.RowKit
set_option maxRecDepth 100000
noncomputable def idxL (c : UInt8) (l : List UInt8) : Int := List.rec (motive := fun _ => Int) (-1) (fun b _ ih => bi (Nat.beq b.toNat c.toNat) 0 (bi (ilt ih 0) (-1) (ih + 1))) l
noncomputable def cntL (c : UInt8) (l : List UInt8) : Nat := List.rec (motive := fun _ => Nat) 0 (fun b _ ih => bi (Nat.beq b.toNat c.toNat) (ih + 1) ih) l
theorem beq_u8 (a b : UInt8) : Nat.beq a.toNat b.toNat = (a == b) := by
  rw [Bool.eq_iff_iff]
  constructor
  · intro h; rw [UInt8.toNat.inj (Nat.eq_of_beq_eq_true h)]; simp
  · intro h; rw [eq_of_beq h]; exact Nat.beq_refl _
theorem idxL_eq (c : UInt8) : ∀ l : List UInt8, idxL c l = Lib.indexByte l c := by
  intro l
  induction l with
  | nil => rfl
  | cons b l ih =>
    show bi (Nat.beq b.toNat c.toNat) 0 (bi (ilt (idxL c l) 0) (-1) (idxL c l + 1)) = _
    rw [ih, beq_u8]
    rw [show Lib.indexByte (b :: l) c = if (b == c) = true then 0 else if (Lib.indexByte l c == -1) = true then -1 else Lib.indexByte l c + 1 from rfl]
    have hge := Lib.indexByte_ge l c
    generalize Lib.indexByte l c = z at hge ⊢
    cases hb : (b == c) with
    | true => rfl
    | false =>
      rw [bi_false, if_neg (by simp), ilt_eq]
      by_cases h : z = -1
      · subst h; rfl
      · rw [decide_eq_false (by omega), bi_false, if_neg (by simpa using h)]
theorem cntL_eq (c : UInt8) : ∀ l : List UInt8, cntL c l = Lib.countByte l c := by
  intro l
  induction l with
  | nil => rfl
  | cons b l ih =>
    show bi (Nat.beq b.toNat c.toNat) (cntL c l + 1) (cntL c l) = _
    rw [ih, beq_u8]
    unfold Lib.countByte
    rw [List.count_cons]
    cases hb : (b == c) <;> simp
def ofU8 (n : Int) : UInt8 := n.toNat.toUInt8
noncomputable def idxF (vs : List Value) (σ : St) : Option CR := match vs with
  | [.string s, .int .u8 n] => some ⟨false, .int .i64 (idxL (ofU8 n) s.data.toList), σ⟩
  | _ => none
noncomputable def cntF (vs : List Value) (σ : St) : Option CR := match vs with
  | [.string s, .int .u8 n] => some ⟨false, .int .i64 (cntL (ofU8 n) s.data.toList : Nat), σ⟩
  | _ => none
section
variable {base : Env} {G : Nat}
theorem ext_ok {g : Nat} {fn : Func} (hf : Tryz.prog.funcs[g]? = some fn) (hn : (fn.name == "runtime.NumGoroutine") = false) {F : ByteArray → Int → Int}
    (hrun : ∀ s n w, (callFunc g #[.string s, .int .u8 n]).run Tryz.prog w = .ok (.value (.int .i64 (F s n))) w) {vs : List Value} {σ : St} {r : CR}
    (h : (match vs with | [.string s, .int .u8 n] => some ⟨false, .int .i64 (F s n), σ⟩ | _ => none) = some r) : Adv σ r.σ ∧ ∀ ρ w vs' N, Rel base ρ σ w → Free ρ σ.n N → r.σ.n ≤ N → Glob ρ G → VsRel ρ vs vs' → CallOk Tryz.prog base ρ g vs' σ w r := by
  split at h
  · rename_i s n
    cases h
    refine ⟨.refl _, fun ρ w vs' N hR hF hN hG hv => ?_⟩
    cases hv with
    | cons h1 hv =>
    cases hv with
    | cons h2 hv =>
    cases hv
    cases h1
    cases h2
    exact ⟨fn, hf, hn, .inr ⟨_, hrun s n w, rfl, rfl, .scal rfl⟩⟩
  · cases h
theorem idxF_ok {vs : List Value} {σ : St} {r : CR} (h : idxF vs σ = some r) : Adv σ r.σ ∧ ∀ ρ w vs' N, Rel base ρ σ w → Free ρ σ.n N → r.σ.n ≤ N → Glob ρ G → VsRel ρ vs vs' → CallOk Tryz.prog base ρ 256 vs' σ w r :=
  ext_ok (F := fun s n => idxL (ofU8 n) s.data.toList) Tryz.func256 (by kernel_rfl) (fun s n w => by
    rw [run_callFunc_extern Tryz.func256 (by kernel_rfl) (by kernel_rfl) (by kernel_rfl) (e := Extern.BytealgIndexByte.indexByte) (by kernel_rfl), Lib.run_indexByteString, idxL_eq]; rfl) h
theorem cntF_ok {vs : List Value} {σ : St} {r : CR} (h : cntF vs σ = some r) : Adv σ r.σ ∧ ∀ ρ w vs' N, Rel base ρ σ w → Free ρ σ.n N → r.σ.n ≤ N → Glob ρ G → VsRel ρ vs vs' → CallOk Tryz.prog base ρ 278 vs' σ w r :=
  ext_ok (F := fun s n => (cntL (ofU8 n) s.data.toList : Nat)) Tryz.func278 (by kernel_rfl) (fun s n w => by
    rw [run_callFunc_extern Tryz.func278 (by kernel_rfl) (by kernel_rfl) (by kernel_rfl) (e := Extern.BytealgCount.count) (by kernel_rfl), Lib.run_countString, cntL_eq]; rfl) h
end
/-- What this program calls, as it is summed up. -/
noncomputable def CS1 : Sums := fun g => if g = 256 then some (.plain idxF) else if g = 278 then some (.plain cntF) else CS g
theorem sums1 {base : Env} {G : Nat} (hG : codeOk Tryz.prog 7 G parts.1 = true ∧ codeOk Tryz.prog 7 G parts.2.2.1 = true ∧ codeOk Tryz.prog 7 G parts.2.2.2 = true) : SumsOk Tryz.prog base G CS1 := by
  intro g s hs run hE vs σ r h
  unfold CS1 at hs
  split at hs
  · rename_i hg; subst hg; cases hs; exact idxF_ok h
  · split at hs
    · rename_i hg; subst hg; cases hs; exact cntF_ok h
    · exact sums0 hG g s hs run hE vs σ r h
end Go.Proofs.M
