/- The built-in append. -/
import Derived.Test.YtcjkjjnnicadfaaGreatDoorAbOps5
set_option linter.unusedSimpArgs false
set_option linter.unusedVariables false
namespace Go.Ab
open Go
section
variable {P : Program} {ρ : Place} {fr : Fr} {e : Operand → Value} {o : Oper} {w : World} {v : Value}

theorem Rel.heap {base : Env} {σ : St} {w w' : World} (h : Rel base ρ σ w) (hw : w'.heap = w.heap) : Rel base ρ σ w' :=
  ⟨h.fresh, fun b q B h1 h2 => (h.sits b q B h1 h2).mono (Place.le_refl _) (by rw [hw]), fun b q h1 => by rw [hw]; exact h.dom b q h1, h.own, h.sep, by rw [hw]; exact h.low⟩

theorem notInt_eq {d : Option TypeDesc} (h : notInt d = true) : ∃ d', d = some d' ∧ notInt (some d') = true := by
  cases d with
  | none => cases h
  | some d => exact ⟨d, rfl, h⟩
theorem argT2_eq {c : Call} {t : TypeId} (h : argT2 c = some t) : c.argTypes[1]? = some t := by
  unfold argT2 at h
  split at h
  · rename_i u u2 r hu
    cases h
    have := congrArg (fun l : List TypeId => l[1]?) hu
    simpa using this
  · cases h

theorem append_in_run {ts : Array TypeId} {ty t t2 el : TypeId} {i : TypeInfo} {d2 : TypeDesc} {base' : Option Addr} {len cap' n : Nat} {x' : Value} {new' : Array Value} {w' : World}
    (h0 : ts[0]? = some t) (h1 : ts[1]? = some t2) (hu : P.underlying t = some (.slice el)) (hu2 : P.underlying t2 = some d2) (hd2 : notInt (some d2) = true) (hi : P.info? el = some i)
    (hn : (Builtin.lenOf x').run P w = .ok n w) (hx : (Builtin.firstCells i.size n x').run P w = .ok new' w) (hle : len + n ≤ cap')
    (hst : match base' with | some a => (storeCells (a.add (len * i.size)) new'.toList).run P w = .ok () w' | none => w' = w) :
    (Builtin.append_ ts ty #[.slice base' len cap', x']).run P w = .ok (.slice base' (len + n) cap') w' := by
  have hso : (sizeOf el).run P w = .ok i.size w := by simp [sizeOf, typeInfo, hi]
  have a0 : (#[Value.slice base' len cap', x'] : Array Value)[0]? = some (.slice base' len cap') := rfl
  have a1 : (#[Value.slice base' len cap', x'] : Array Value)[1]? = some x' := rfl
  unfold Builtin.append_
  simp only [h0, h1, a0, a1, Sem.run_bind, under_of hu, Result.andThen_ok, hso, under_of hu2, Sem.run_pure]
  cases base' with
  | none =>
    subst hst
    cases d2 <;> first
      | (cases hd2; done)
      | (simp only [Bool.false_eq_true, if_false, Sem.run_bind, hn, Result.andThen_ok, Sem.run_ite, if_pos hle, Bool.not_false, if_true, hx, Sem.run_pure])
  | some a =>
    cases d2 <;> first
      | (cases hd2; done)
      | (simp only [Bool.false_eq_true, if_false, Sem.run_bind, hn, Result.andThen_ok, Sem.run_ite, if_pos hle, Bool.not_false, if_true, hx, hst, Sem.run_pure])

theorem append_new_run {ts : Array TypeId} {ty t t2 el : TypeId} {i : TypeInfo} {d2 : TypeDesc} {base' : Option Addr} {len cap' n : Nat} {x' z : Value} {old' new' : Array Value}
    (h0 : ts[0]? = some t) (h1 : ts[1]? = some t2) (hu : P.underlying t = some (.slice el)) (hu2 : P.underlying t2 = some d2) (hd2 : notInt (some d2) = true) (hi : P.info? el = some i) (hz : i.zero = some z)
    (hn : (Builtin.lenOf x').run P w = .ok n w) (hold : (Builtin.firstCells i.size len (.slice base' len cap')).run P w.drew = .ok old' w.drew) (hx : (Builtin.firstCells i.size n x').run P w.drew = .ok new' w.drew)
    (hlt : cap' < len + n) (hroom : (len + n) * (i.bytes + 1) ≤ room) :
    ∃ K, len + n ≤ K ∧ (Builtin.append_ ts ty #[.slice base' len cap', x']).run P w =
      .ok (.slice (some ⟨w.heap.size, 0, none⟩) (len + n) K) { w.drew with heap := w.heap.push (.cells (old' ++ new' ++ Builtin.zeroCells z.cells (K - (len + n))) el) } := by
  have hso : ∀ w, (sizeOf el).run P w = .ok i.size w := fun w => by simp [sizeOf, typeInfo, hi]
  have hzo : ∀ w, (zeroValue el).run P w = .ok z w := fun w => by simp [zeroValue, typeInfo, hi, hz]
  have a0 : (#[Value.slice base' len cap', x'] : Array Value)[0]? = some (.slice base' len cap') := rfl
  have a1 : (#[Value.slice base' len cap', x'] : Array Value)[1]? = some x' := rfl
  refine ⟨(Question.appendCap (len + n) cap' el).cut (w.tape w.drawn (.appendCap (len + n) cap' el)), Nat.le_add_right _ _, ?_⟩
  have hf : (Question.appendCap (len + n) cap' el).forced = false := rfl
  generalize hK : (Question.appendCap (len + n) cap' el).cut (w.tape w.drawn (.appendCap (len + n) cap' el)) = K
  unfold room at hroom
  have hb1 : len + n ≤ 4294967296 := Nat.le_trans (Nat.le_mul_of_pos_right _ (by omega)) hroom
  have hb2 : (len + n) * i.bytes ≤ 4294967296 := Nat.le_trans (Nat.mul_le_mul_left _ (by omega)) hroom
  have hc1 : ¬ (((len + n : Nat) : Int) > IntKind.i64.max) := by
    have e3 : IntKind.i64.max = 9223372036854775807 := by decide
    rw [e3]; omega
  have hc2 : ¬ (Builtin.nextslicecap (len + n) cap' * i.bytes > 2 ^ 48) := by
    have p48 : (2 : Nat) ^ 48 = 281474976710656 := by decide
    have h3 := next_le (len + n) cap' hlt
    have h4 : Builtin.nextslicecap (len + n) cap' * i.bytes ≤ 2 * (len + n) * i.bytes := Nat.mul_le_mul_right _ h3
    rw [Nat.mul_assoc] at h4
    rw [p48]; omega
  have hcc : ∀ (p : Prop), ¬ (((len + n : Nat) : Int) > IntKind.i64.max ∧ p) := fun p h => hc1 h.1
  unfold Builtin.append_
  simp only [h0, h1, a0, a1, Sem.run_bind, under_of hu, Result.andThen_ok, hso, under_of hu2, Sem.run_pure]
  cases d2 <;> first
    | (cases hd2; done)
    | (simp only [Bool.false_eq_true, if_false, Sem.run_bind, hn, Result.andThen_ok, Sem.run_ite, if_neg (Nat.not_le.2 hlt), Bool.not_false, if_true, info_of hi, if_neg (hcc _), if_neg hc2, run_choose, hf, hK, run_askRoom, World.drew_eq, hold, hx, hzo, newRow, run_newObj, Sem.run_pure]
       rfl)

theorem zeroCells_len (zero : Array Value) (n : Nat) : (Builtin.zeroCells zero n).size = n * zero.size := by simp [Builtin.zeroCells]

/-- A new row for what was there and what is appended. -/
theorem fresh_row {base : Env} {σ : St} {old new old' new' : List Value} {rest : Array Value} {el : TypeId} {n K size : Nat} (hR : Rel base ρ σ w) (hf : ρ σ.n = none)
    (ho : VsRel ρ old old') (hn : VsRel ρ new new') (co : ∀ v ∈ old, isCell v = true) (cn : ∀ v ∈ new, isCell v = true) (hK : n ≤ K) (hsz : K * size ≤ old'.length + new'.length + rest.size) :
    ∃ ρ', Rel base ρ' (σ.new (old ++ new)) { w.drew with heap := w.heap.push (.cells (old'.toArray ++ new'.toArray ++ rest) el) } ∧
      Fram ρ σ w ρ' (σ.new (old ++ new)) { w.drew with heap := w.heap.push (.cells (old'.toArray ++ new'.toArray ++ rest) el) } ∧
      VRel ρ' (.slice (some ⟨σ.n, 0, some size⟩) n n) (.slice (some ⟨w.heap.size, 0, none⟩) n K) := by
  obtain ⟨g1, g2⟩ := hR.new (w' := { w.drew with heap := w.heap.push (.cells (old'.toArray ++ new'.toArray ++ rest) el) }) hf (cs := old ++ new) (arr := old'.toArray ++ new'.toArray ++ rest) (e := el) (lo := 0) (hi := 0)
    (by simp) (by simp) (fun c hc => by simp [Array.getElem?_push]; intro h; omega) ⟨rfl, rfl, rfl⟩ (.inr (Nat.le_refl _))
    (fun v hv => by rcases List.mem_append.1 hv with hv | hv; exact co v hv; exact cn v hv) ⟨old' ++ new', rest.toList, by simp, VsRel.append hn ho⟩
  exact ⟨_, g1, g2, .grow (q := ⟨w.heap.size, 0, _⟩) (Place.put_same _ _ _) hK (by show 0 + 0 + K * size ≤ _; simp only [Array.size_append, List.size_toArray]; omega)⟩

theorem append_sound {base : Env} {N : Nat} {σ σ' : St} {c : Call} (ho : o.op = .call c) (hc : c.callee = .builtin .append) (hk : Known ρ fr e o.op.operands.toList) (hR : Rel base ρ σ w)
    (hF : Free ρ σ.n N) (hN : σ'.n ≤ N) (h : eAppend P fr σ c = some (v, σ')) : EffOk P base ρ e o σ w σ' v := by
  obtain ⟨vs, h1, k1⟩ := ob_eq h
  obtain ⟨⟨s, x⟩, h2, k2⟩ := ob_eq k1
  obtain ⟨t, h3, k3⟩ := ob_eq (show ob (argT c) _ = some (v, σ') from k2)
  obtain ⟨t2, h4, k4⟩ := ob_eq k3
  obtain ⟨h5, k5⟩ := bb_eq k4
  obtain ⟨el, h6, k6⟩ := ob_eq (show ob (elem? P t) _ = some (v, σ') from k5)
  obtain ⟨i, h7, k7⟩ := ob_eq k6
  clear h k1 k2 k3 k4 k5 k6
  obtain ⟨d2, hu2, hd2⟩ := notInt_eq h5
  have hu := elem_of h6
  have hr := (args_known ho hk).evs h1
  rw [two_eq h2] at hr
  generalize hE : c.args.toList.map e = L at hr
  cases hr with
  | cons hs hr =>
  cases hr with
  | cons hx hnil =>
  cases hnil
  rename_i s' x'
  have hargs : c.args.map e = #[s', x'] := by rw [map_args, hE]
  have hexec : ∀ (r : Value) (w' : World), (∀ ty, (Builtin.append_ c.argTypes ty #[s', x']).run P w = .ok r w') → (execOp e o).run P w = .ok (.value r) w' := by
    intro r w' hh
    simp only [execOp, ho, resolve, hc, Sem.run_bind, Sem.run_pure, Result.andThen_ok, invoke, builtin, hargs, hh]
  split at k7
  · rename_i bs len cap
    obtain ⟨⟨n, new⟩, h8, k8⟩ := ob_eq k7
    obtain ⟨h9, k9⟩ := bb_eq (show bb (Nat.ble 1 i.size) _ = some (v, σ') from k8)
    clear k7 k8
    have hsize := Nat.le_of_ble_eq_true h9
    obtain ⟨s1, s2, s3, s4⟩ := src_run (P := P) hR hx h8
    obtain ⟨new', s5, s6⟩ := s4 n (Nat.le_refl _)
    rw [← s2, List.take_length] at s6
    cases hle : Nat.ble (len + n) cap with
    | true =>
      rw [hle] at k9
      have hle' := Nat.le_of_ble_eq_true hle
      change appendIn σ i.size bs len cap n new = some (v, σ') at k9
      unfold appendIn at k9
      split at k9
      · rename_i b off sp
        obtain ⟨σ2, h10, k10⟩ := ob_eq k9
        cases k10
        cases hs with
        | slice hq =>
          obtain ⟨w1, w2, w3⟩ := hR.write hq h10 s6 s3
          refine ⟨_, .value _, _, ρ, hexec _ _ fun ty => append_in_run (argT_eq h3) (argT2_eq h4) hu hu2 hd2 h7 s1 s5 hle' ?_, rfl, w2, w3, .slice hq⟩
          simp only [addr_add]
          rw [show ∀ q : Spot, q.o + off + len * i.size = q.o + (off + len * i.size) from fun q => Nat.add_assoc _ _ _]
          exact w1 P
        | grow hq hkk hm =>
          obtain ⟨w1, w2, w3⟩ := hR.write hq h10 s6 s3
          refine ⟨_, .value _, _, ρ, hexec _ _ fun ty => append_in_run (argT_eq h3) (argT2_eq h4) hu hu2 hd2 h7 s1 s5 (Nat.le_trans hle' hkk) ?_, rfl, w2, w3, .grow hq hkk hm⟩
          simp only [addr_add]
          rw [show ∀ q : Spot, q.o + off + len * i.size = q.o + (off + len * i.size) from fun q => Nat.add_assoc _ _ _]
          exact w1 P
        | slice0 hq =>
          have hn0 : n = 0 := by omega
          subst hn0
          have hnew : new = [] := List.length_eq_zero_iff.1 (by rw [s2, Nat.zero_mul])
          subst hnew
          cases s6
          obtain ⟨w2, w3⟩ := write_nil hR hq h10
          refine ⟨w, .value _, _, ρ, hexec _ _ fun ty => append_in_run (argT_eq h3) (argT2_eq h4) hu hu2 hd2 h7 s1 s5 hle' ?_, rfl, w2, w3, .slice0 hq⟩
          rfl
        | scal hsc => simp [scal] at hsc
      · obtain ⟨h10, k10⟩ := bb_eq k9
        cases k10
        have h0 := Nat.eq_of_beq_eq_true h10
        cases hs with
        | scal hsc =>
          have hl : len = 0 := by omega
          have hn0 : n = 0 := by omega
          have hca : cap = 0 := by omega
          subst hl hn0 hca
          refine ⟨w, .value _, _, ρ, hexec _ _ fun ty => append_in_run (argT_eq h3) (argT2_eq h4) hu hu2 hd2 h7 s1 s5 hle' rfl, rfl, hR, .refl _ _ _, .scal rfl⟩
    | false =>
      rw [hle] at k9
      have hlt : cap < len + n := by
        rcases Nat.lt_or_ge cap (len + n) with hh | hh
        · exact hh
        · rw [Nat.ble_eq_true_of_le hh] at hle; cases hle
      obtain ⟨h10, k10⟩ := bb_eq (show bb _ _ = some (v, σ') from k9)
      have hroom := Nat.le_of_ble_eq_true h10
      obtain ⟨z, h11, k11⟩ := ob_eq k10
      obtain ⟨h12, k12⟩ := bb_eq k11
      clear k9 k10 k11
      have hzs := Nat.eq_of_beq_eq_true h12
      obtain ⟨_, _, i', hi', hzi⟩ := zero_of (ρ := ρ) h11 w
      rw [h7] at hi'
      cases hi'
      obtain ⟨zc1, zc2, _⟩ := zero_cells (ρ := ρ) h11
      have hzsz : z.cells.size = i.size := by rw [← hzs, zc1, Array.length_toList]
      have hRd : Rel base ρ σ w.drew := hR.heap rfl
      obtain ⟨t1, t2', t3, t4⟩ := src_run (P := P) hRd hx h8
      obtain ⟨newd, t5, t6⟩ := t4 n (Nat.le_refl _)
      rw [← t2', List.take_length] at t6
      have hnl := t6.length
      have restsz : ∀ K, len + n ≤ K → (Builtin.zeroCells z.cells (K - (len + n))).size = (K - (len + n)) * i.size := by intro K _; rw [zeroCells_len, hzsz]
      have sumsz : ∀ K, len + n ≤ K → K * i.size = len * i.size + n * i.size + (K - (len + n)) * i.size := by
        intro K hK
        rw [← Nat.add_mul, ← Nat.add_mul]; congr 1; omega
      unfold appendNew at k12
      split at k12
      · obtain ⟨h13, k13⟩ := bb_eq k12
        cases k13
        have hl := Nat.eq_of_beq_eq_true h13
        subst hl
        cases hs with
        | scal hsc =>
          have hcap : cap = 0 := by
            cases cap with
            | zero => rfl
            | succ k => cases hsc
          subst hcap
          obtain ⟨K, hK, hrun⟩ := append_new_run (ts := c.argTypes) (ty := o.type) (P := P) (w := w) (base' := none) (argT_eq h3) (argT2_eq h4) hu hu2 hd2 h7 hzi s1 (old' := #[]) rfl t5 hlt hroom
          have hrun' : ∀ ty, (Builtin.append_ c.argTypes ty #[.slice none 0 0, x']).run P w = _ := fun ty => hrun
          obtain ⟨ρ', g1, g2, g3⟩ := fresh_row (base := base) (el := el) (size := i.size) (n := n) (K := K) (old := []) (old' := []) (rest := Builtin.zeroCells z.cells (K - (0 + n))) hR (hF σ.n (Nat.le_refl _) (Nat.lt_of_lt_of_le (Nat.lt_succ_self _) hN)) .nil t6 (by simp) t3 (by omega)
            (by rw [restsz K hK, sumsz K hK]; simp only [List.length_nil]; omega)
          exact ⟨_, .value _, _, ρ', hexec _ _ hrun', rfl, g1, g2, by rw [Nat.zero_add]; exact g3⟩
      · rename_i b off
        obtain ⟨old, h13, k13⟩ := ob_eq k12
        cases k13
        have hfree : ρ σ.n = none := hF σ.n (Nat.le_refl _) (Nat.lt_of_lt_of_le (Nat.lt_succ_self _) hN)
        obtain ⟨B, hB, hsub⟩ := read_parts h13
        obtain ⟨hsl, hse⟩ := sub_eq hsub
        have holen : old.length = len * i.size := by have := congrArg List.length hse; simp at this; omega
        have fin : ∀ (q : Spot) (a : Addr) (cap' : Nat), ρ b = some q → s' = .slice (some a) len cap' → (a = ⟨q.c, q.o + off, none⟩ ∨ len = 0) → cap' < len + n → EffOk P base ρ e o σ w (σ.new (old ++ new)) (.slice (some ⟨σ.n, 0, some i.size⟩) (len + n) (len + n)) := by
          intro q a cap' hq hs' ha hlt'
          subst hs'
          obtain ⟨ovs, o1, o2, o3⟩ := (hRd.row b q B hq hB).read (P := P) hsub
          have hld : (Builtin.firstCells i.size len (.slice (some a) len cap')).run P w.drew = .ok ovs.toArray w.drew := by
            rcases ha with ha | ha
            · subst ha; exact o1
            · subst ha
              have : ovs = [] := by have := o2.length; simp at holen; rw [holen] at this; exact List.length_eq_zero_iff.1 this.symm
              subst this
              simp only [Builtin.firstCells, Nat.zero_mul]; rfl
          obtain ⟨K, hK, hrun⟩ := append_new_run (ts := c.argTypes) (ty := o.type) (P := P) (w := w) (argT_eq h3) (argT2_eq h4) hu hu2 hd2 h7 hzi s1 hld t5 hlt' hroom
          have hrun' : ∀ ty, (Builtin.append_ c.argTypes ty #[.slice (some a) len cap', x']).run P w = _ := fun ty => hrun
          have hol := o2.length
          obtain ⟨ρ', g1, g2, g3⟩ := fresh_row (base := base) (el := el) (size := i.size) (n := len + n) (K := K) (rest := Builtin.zeroCells z.cells (K - (len + n))) hR hfree o2 t6 o3 t3 hK
            (by rw [restsz K hK, sumsz K hK]; omega)
          exact ⟨_, .value _, _, ρ', hexec _ _ hrun', rfl, g1, g2, g3⟩
        cases hs with
        | slice hq => exact fin _ _ _ hq rfl (.inl rfl) hlt
        | slice0 hq => exact fin _ _ _ hq rfl (.inr rfl) hlt
        | scal hsc => simp [scal] at hsc
      · rename_i b off sz
        obtain ⟨h13, k13⟩ := bb_eq k12
        obtain ⟨old, h14, k14⟩ := ob_eq k13
        obtain ⟨σ1, h15, k15⟩ := ob_eq k14
        cases k15
        have hszz := Nat.eq_of_beq_eq_true h13
        subst hszz
        have hn1 : σ1.n = σ.n := by obtain ⟨_, _, _, rfl⟩ := kill_facts h15; rfl
        have hfree : ρ σ.n = none := hF σ.n (Nat.le_refl _) (by have : (σ1.new (old ++ new)).n = σ1.n + 1 := rfl; omega)
        obtain ⟨B, hB, hsub⟩ := read_parts h14
        obtain ⟨hsl, hse⟩ := sub_eq hsub
        have holen : old.length = len * i.size := by have := congrArg List.length hse; simp at this; omega
        have fin : ∀ (q : Spot) (a : Addr) (cap' : Nat), ρ b = some q → s' = .slice (some a) len cap' → (a = ⟨q.c, q.o + off, none⟩ ∨ len = 0) → cap' < len + n → EffOk P base ρ e o σ w (σ1.new (old ++ new)) (.slice (some ⟨σ1.n, 0, some i.size⟩) (len + n) (len + n)) := by
          intro q a cap' hq hs' ha hlt'
          subst hs'
          obtain ⟨ovs, o1, o2, o3⟩ := (hRd.row b q B hq hB).read (P := P) hsub
          have hld : (Builtin.firstCells i.size len (.slice (some a) len cap')).run P w.drew = .ok ovs.toArray w.drew := by
            rcases ha with ha | ha
            · subst ha; exact o1
            · subst ha
              have : ovs = [] := by have := o2.length; simp at holen; rw [holen] at this; exact List.length_eq_zero_iff.1 this.symm
              subst this
              simp only [Builtin.firstCells, Nat.zero_mul]; rfl
          obtain ⟨K, hK, hrun⟩ := append_new_run (ts := c.argTypes) (ty := o.type) (P := P) (w := w) (argT_eq h3) (argT2_eq h4) hu hu2 hd2 h7 hzi s1 hld t5 hlt' hroom
          have hrun' : ∀ ty, (Builtin.append_ c.argTypes ty #[.slice (some a) len cap', x']).run P w = _ := fun ty => hrun
          have hol := o2.length
          obtain ⟨hk1, hk2⟩ := hR.kill ⟨q, hq⟩ h15
          obtain ⟨ρ', g1, g2, g3⟩ := fresh_row (base := base) (el := el) (size := i.size) (n := len + n) (K := K) (rest := Builtin.zeroCells z.cells (K - (len + n))) hk1 (by rw [hn1]; exact hfree) o2 t6 o3 t3 hK
            (by rw [restsz K hK, sumsz K hK]; omega)
          exact ⟨_, .value _, _, ρ', hexec _ _ hrun', rfl, g1, hk2.trans g2, g3⟩
        cases hs with
        | grow hq hkk hm =>
          rename_i k' q
          by_cases hin : len + n ≤ k'
          · rw [← holen] at h14
            have hmm : q.o + off + old.length + new.length ≤ q.m := by
              have : (len + n) * i.size ≤ k' * i.size := Nat.mul_le_mul_right _ hin
              rw [Nat.add_mul] at this
              omega
            obtain ⟨g1, g2, g3⟩ := hR.grow hfree hq h14 h15 s6 s3 hmm
            refine ⟨_, .value _, _, _, hexec _ _ fun ty => append_in_run (argT_eq h3) (argT2_eq h4) hu hu2 hd2 h7 s1 s5 hin ?_, rfl, g2, g3, ?_⟩
            · simp only [addr_add, ← holen]
              exact g1 P
            · rw [hn1]
              exact .grow (q := ⟨q.c, q.o + off, q.m⟩) (off := 0) (Place.put_same _ _ _) hin (by show q.o + off + 0 + k' * i.size ≤ q.m; omega)
          · exact fin _ _ _ hq rfl (.inl rfl) (by omega)
        | slice0 hq => exact fin _ _ _ hq rfl (.inr rfl) hlt
        | scal hsc => simp [scal] at hsc
  · cases k7

end
end Go.Ab
