/- What the operations on values alone give, third part: cuts, lengths, literals. -/
import Derived.Test.YtcjkjjnnicadfaaGreatDoorAbOps2
set_option linter.unusedSimpArgs false
set_option linter.unusedVariables false
namespace Go.Ab
open Go
section
variable {P : Program} {ρ : Place} {fr : Fr} {e : Operand → Value} {o : Oper} {w : World} {v : Value}

theorem bound_run {v v' : Value} {n y : Nat} {code : BoundsCode} (hr : VRel ρ v v') (hn : nat? v = some n) (hle : n ≤ y) : (Instr.sliceBound v' y code).run P w = .ok n w := by
  obtain ⟨k, rfl⟩ := asInt_rel hr hn
  simp only [Instr.sliceBound, asIntOf, Sem.run_bind, Sem.run_pure, Result.andThen_ok, Sem.run_ite]
  rw [if_pos ⟨by simp, by simpa using hle⟩]
  simp
theorem evO_rel {x : Option Operand} {u : Option Value} {l : List Operand} (hk : Known ρ fr e l) (hx : ∀ y, x = some y → y ∈ l) (h : evO fr x = some u) :
    (u = none ∧ x = none) ∨ ∃ v y, u = some v ∧ x = some y ∧ VRel ρ v (e y) := by
  cases x with
  | none => cases h; exact .inl ⟨rfl, rfl⟩
  | some y =>
    obtain ⟨v, h1, h2⟩ := ob_eq h
    cases h2
    exact .inr ⟨v, y, rfl, rfl, hk y v (hx y rfl) h1⟩
theorem bounds_run {lo hi : Option Operand} {lv hv : Option Value} {l : List Operand} (hk : Known ρ fr e l) (hlo : ∀ y, lo = some y → y ∈ l) (hhi : ∀ y, hi = some y → y ∈ l)
    (h1 : evO fr lo = some lv) (h2 : evO fr hi = some hv) {dl cap cap' a b : Nat} {isSlice : Bool} (h : bnds dl cap lv hv = some (a, b)) (hc : cap ≤ cap') :
    (Instr.sliceBounds isSlice dl cap' (lo.map e) (hi.map e) none).run P w = .ok (a, b, cap') w ∧ a ≤ b ∧ b ≤ cap := by
  obtain ⟨hb, h3, h4⟩ := ob_eq h
  obtain ⟨h5, h6⟩ := bb_eq h4
  obtain ⟨la, h7, h8⟩ := ob_eq h6
  obtain ⟨h9, h10⟩ := bb_eq h8
  cases h10
  have hb1 := Nat.le_of_ble_eq_true h5
  have hb2 := Nat.le_of_ble_eq_true h9
  refine ⟨?_, hb2, hb1⟩
  unfold Instr.sliceBounds
  simp only [Sem.run_bind, Sem.run_pure, Result.andThen_ok]
  rcases evO_rel hk hhi h2 with ⟨rfl, rfl⟩ | ⟨v2, y2, rfl, rfl, r2⟩
  · cases h3
    simp only [Option.map_none, Sem.run_pure, Result.andThen_ok]
    rcases evO_rel hk hlo h1 with ⟨rfl, rfl⟩ | ⟨v1, y1, rfl, rfl, r1⟩
    · cases h7
      simp
    · simp only [Option.map_some, bound_run r1 h7 hb2, Result.andThen_ok, Sem.run_bind, Sem.run_pure]
  · simp only [Option.map_some, bound_run r2 h3 (Nat.le_trans hb1 hc), Result.andThen_ok, Sem.run_bind]
    rcases evO_rel hk hlo h1 with ⟨rfl, rfl⟩ | ⟨v1, y1, rfl, rfl, r1⟩
    · cases h7
      simp
    · simp only [Option.map_some, bound_run r1 h7 hb2, Result.andThen_ok, Sem.run_bind, Sem.run_pure]

theorem extract_bytes (s : ByteArray) (a b : Nat) (h : b ≤ s.data.toList.length) : s.extract a b = ⟨((s.data.toList.drop a).take (b - a)).toArray⟩ := by
  apply ByteArray.ext
  rw [ByteArray.data_extract]
  apply Array.toList_inj.1
  rw [Array.toList_extract, List.extract_eq_take_drop]

theorem slice_sound {t : TypeId} {x : Operand} {lo hi mx : Option Operand} (ho : o.op = .slice t x lo hi mx) (hk : Known ρ fr e o.op.operands.toList) (h : pSlice P fr t x lo hi mx = some v) : PureOk P ρ e o w v := by
  obtain ⟨h0, k0⟩ := bb_eq h
  clear h
  cases mx with
  | some y => cases h0
  | none =>
  clear h0
  obtain ⟨u, h1, k1⟩ := ob_eq k0
  clear k0
  obtain ⟨lv, h2, k2⟩ := ob_eq k1
  clear k1
  obtain ⟨hv, h3, h⟩ := ob_eq k2
  clear k2
  have hx := hk x u (by simp [ho, Op.operands]) h1
  have hlo : ∀ y, lo = some y → y ∈ o.op.operands.toList := by intro y hy; subst hy; simp [ho, Op.operands]
  have hhi : ∀ y, hi = some y → y ∈ o.op.operands.toList := by intro y hy; subst hy; simp [ho, Op.operands]
  generalize hE : e x = y at hx
  unfold sliceV at h
  split at h
  · rename_i s
    split at h
    · rename_i hu
      obtain ⟨⟨a, b⟩, h4, k4⟩ := ob_eq h
      clear h
      obtain ⟨l, h5, k5⟩ := ob_eq (show ob (sub s.data.toList a (b - a)) _ = some v from k4)
      cases k5
      obtain ⟨h6, rfl⟩ := sub_eq h5
      obtain ⟨hb, hab, hbl⟩ := bounds_run (P := P) (w := w) (isSlice := false) hk hlo hhi h2 h3 h4 (Nat.le_refl _)
      cases hx with
      | scal hs =>
        refine ⟨_, ?_, .scal rfl⟩
        have hsz : s.size = s.data.toList.length := Array.length_toList.symm
        simp only [execOp, ho, hE, Instr.sliceAt, Sem.run_bind, under_of hu, Result.andThen_ok, Instr.slice, Option.map_none, Option.isSome_none, Bool.false_eq_true, if_false, hsz, hb, Sem.run_pure,
          extract_bytes s a b hbl]
    · cases h
  · rename_i a0 len cap
    split at h
    · rename_i el hu
      obtain ⟨⟨a, b⟩, h4, k4⟩ := ob_eq h
      clear h
      obtain ⟨n, h5, h⟩ := ob_eq (show ob (size? P el) _ = some v from k4)
      clear k4
      have hn := size_of h5
      have go : ∀ (a0' : Option Addr) (cap' : Nat), y = .slice a0' len cap' → cap ≤ cap' →
          (execOp e o).run P w = .ok (.value (.slice (if cap' = a then a0' else a0'.map (·.add (a * n))) (b - a) (cap' - a))) w ∧ a ≤ b ∧ b ≤ cap := by
        intro a0' cap' hy hc
        obtain ⟨hb, hab, hbl⟩ := bounds_run (P := P) (w := w) (isSlice := true) hk hlo hhi h2 h3 h4 hc
        refine ⟨?_, hab, hbl⟩
        simp only [execOp, ho, hE, hy, Instr.sliceAt, Sem.run_bind, under_of hu, Result.andThen_ok, Instr.slice, Option.map_none, hb, hn, Sem.run_pure]
      unfold sliceAt at h
      split at h
      · rename_i b0 off
        cases h
        cases hx with
        | slice hq =>
          obtain ⟨g1, g2, g3⟩ := go _ _ rfl (Nat.le_refl _)
          refine ⟨_, g1, ?_⟩
          by_cases hca : cap = a
          · rw [if_pos hca]
            have : b - a = 0 := by omega
            rw [this, show cap - a = 0 from by omega]
            exact .slice0 hq
          · rw [if_neg hca]
            simp only [Option.map_some, addr_add, Nat.add_assoc]
            exact .slice hq
        | slice0 hq =>
          obtain ⟨g1, g2, g3⟩ := go _ _ rfl (Nat.le_refl _)
          refine ⟨_, g1, ?_⟩
          have ha : a = 0 := by omega
          subst ha
          rw [if_pos rfl, show b - 0 = 0 from by omega]
          exact .slice0 hq
        | scal hs => simp [scal] at hs
      · rename_i b0 off s0
        obtain ⟨h6, h7⟩ := bb_eq h
        cases h7
        have hsn := Nat.eq_of_beq_eq_true h6
        subst hsn
        cases hx with
        | grow hq hkk hm =>
          rename_i k' q
          obtain ⟨g1, g2, g3⟩ := go _ _ rfl hkk
          refine ⟨_, g1, ?_⟩
          by_cases hca : k' = a
          · rw [if_pos hca]
            have : b - a = 0 := by omega
            rw [this, show cap - a = 0 from by omega, show k' - a = 0 from by omega]
            exact .slice0 hq
          · rw [if_neg hca]
            simp only [Option.map_some, addr_add, Nat.add_assoc]
            refine .grow hq (by omega) ?_
            have : a * s0 + (k' - a) * s0 = k' * s0 := by rw [← Nat.add_mul]; congr 1; omega
            omega
        | slice0 hq =>
          obtain ⟨g1, g2, g3⟩ := go _ _ rfl (Nat.le_refl _)
          refine ⟨_, g1, ?_⟩
          have ha : a = 0 := by omega
          subst ha
          rw [if_pos rfl, show b - 0 = 0 from by omega]
          exact .slice0 hq
        | scal hs => simp [scal] at hs
      · obtain ⟨h6, h7⟩ := bb_eq h
        cases h7
        have hc0 := Nat.eq_of_beq_eq_true h6
        cases hx with
        | scal hs =>
          obtain ⟨g1, g2, g3⟩ := go _ _ rfl (Nat.le_refl _)
          refine ⟨_, g1, ?_⟩
          have ha : a = 0 := by omega
          subst ha
          rw [if_pos hc0, show b - 0 = 0 from by omega, show cap - 0 = 0 from by omega]
          exact .scal rfl
    · cases h
  · rename_i b0 off
    split at h
    · rename_i m el hu
      obtain ⟨⟨a, b⟩, h4, k4⟩ := ob_eq h
      clear h
      obtain ⟨n, h5, h⟩ := ob_eq (show ob (size? P el) _ = some v from k4)
      clear k4
      have hn := size_of h5
      cases h
      obtain ⟨hb, hab, hbl⟩ := bounds_run (P := P) (w := w) (isSlice := false) hk hlo hhi h2 h3 h4 (Nat.le_refl _)
      cases hx with
      | ptr hq =>
        rename_i q
        refine ⟨.slice (some (if m = a then ⟨q.c, q.o + off, none⟩ else (⟨q.c, q.o + off, none⟩ : Addr).add (a * n))) (b - a) (m - a), ?_, ?_⟩
        · simp only [execOp, ho, hE, Instr.sliceAt, Sem.run_bind, under_of hu, Result.andThen_ok, Instr.sureAddr, Option.map_none, hb, hn, Sem.run_pure]
        · by_cases hca : m = a
          · rw [if_pos hca, show b - a = 0 from by omega, show m - a = 0 from by omega]
            exact .slice0 hq
          · rw [if_neg hca]
            simp only [addr_add, Nat.add_assoc]
            exact .slice hq
      | scal hs => simp [scal] at hs
    · cases h
  · cases h

theorem oneV_eq {l : List Value} (h : oneV l = some v) : l = [v] := by
  unfold oneV at h
  split at h
  · cases h; rfl
  · cases h
theorem args_known {c : Call} (ho : o.op = .call c) (hk : Known ρ fr e o.op.operands.toList) : Known ρ fr e c.args.toList :=
  hk.sub fun y hy => by
    simp only [ho, Op.operands, Call.operands, Array.toList_append, List.mem_append]
    exact .inr hy
theorem argT_eq {c : Call} {t : TypeId} (h : argT c = some t) : c.argTypes[0]? = some t := by
  unfold argT at h
  split at h
  · rename_i u r hu
    cases h
    have := congrArg (fun l : List TypeId => l[0]?) hu
    simpa using this
  · cases h
theorem map_args (c : Call) (e : Operand → Value) : c.args.map e = ⟨c.args.toList.map e⟩ := by rw [← Array.toList_inj]; simp

theorem len_sound {c : Call} (ho : o.op = .call c) (hc : c.callee = .builtin .len) (hk : Known ρ fr e o.op.operands.toList) (h : pLen P fr c = some v) : PureOk P ρ e o w v := by
  obtain ⟨vs, h1, k1⟩ := ob_eq h
  clear h
  obtain ⟨x, h2, k2⟩ := ob_eq k1
  clear k1
  obtain ⟨t, h3, k3⟩ := ob_eq k2
  clear k2
  obtain ⟨n, h4, k4⟩ := ob_eq k3
  clear k3
  cases k4
  have hr := (args_known ho hk).evs h1
  rw [oneV_eq h2] at hr
  generalize hE : c.args.toList.map e = L at hr
  cases hr with
  | cons hx hs =>
  cases hs
  rename_i x'
  refine ⟨.int .i64 n, ?_, .scal rfl⟩
  have hargs : c.args.map e = #[x'] := by rw [map_args, hE]
  unfold lenV at h4
  split at h4
  · rename_i hu
    split at h4
    · cases h4; cases hx
      simp only [execOp, ho, resolve, hc, Sem.run_bind, Sem.run_pure, Result.andThen_ok, invoke, builtin, Builtin.len_, argT_eq h3, hargs]
      simp [under_of hu, goInt]
    · cases h4
  · rename_i el hu
    split at h4
    · cases h4
      cases hx <;> first
        | (simp only [execOp, ho, resolve, hc, Sem.run_bind, Sem.run_pure, Result.andThen_ok, invoke, builtin, Builtin.len_, argT_eq h3, hargs]
           simp [under_of hu, goInt]; done)
        | (rename_i hs; simp [scal] at hs; done)
    · cases h4
  · cases h4

theorem ilt_if (a b : Int) (x y : Int) : bi (ilt a b) x y = if a < b then x else y := by
  rw [ilt_iff]
  by_cases h : a < b
  · simp [h]
  · simp [h]
theorem mm_run (isMax : Bool) : ∀ (l : List Value) (x v : Value) (l' : List Value) (x' : Value), mm isMax l x = some v → VsRel ρ l l' → VRel ρ x x' →
    ∃ v', (l'.foldlM (if isMax then Builtin.max2 else Builtin.min2) x').run P w = .ok v' w ∧ VRel ρ v v' := by
  intro l
  induction l with
  | nil => intro x v l' x' h hl hx; cases h; cases hl; exact ⟨x', rfl, hx⟩
  | cons y l ih =>
    intro x v l' x' h hl hx
    obtain ⟨u, h1, h2⟩ := ob_eq (show ob (minmax isMax x y) (mm isMax l) = some v from h)
    cases hl with
    | cons hy hl =>
    rename_i y' l'
    unfold minmax at h1
    split at h1
    · split at h1
      · rename_i k a k' b
        cases h1
        cases hx; cases hy
        obtain ⟨v', h3, h4⟩ := ih _ v l' _ h2 hl (.scal rfl)
        refine ⟨v', ?_, h4⟩
        rw [List.foldlM_cons, Sem.run_bind]
        cases isMax with
        | true =>
          simp only [if_true, Builtin.max2, Sem.run_pure, Result.andThen_ok]
          simpa [ilt_if] using h3
        | false =>
          simp only [Bool.false_eq_true, if_false, Builtin.min2, Sem.run_pure, Result.andThen_ok]
          simpa [ilt_if] using h3
      · cases h1
    · cases h1
theorem mm_sound {c : Call} (isMax : Bool) (ho : o.op = .call c) (hc : c.callee = .builtin (if isMax then .max else .min)) (hk : Known ρ fr e o.op.operands.toList) (h : pMM fr isMax c = some v) : PureOk P ρ e o w v := by
  obtain ⟨vs, h1, k1⟩ := ob_eq h
  clear h
  have hr := (args_known ho hk).evs h1
  generalize hE : c.args.toList.map e = L at hr
  cases hr with
  | nil => cases k1
  | cons hx hs =>
  rename_i x x' l l'
  obtain ⟨v', h3, h4⟩ := mm_run (P := P) (w := w) isMax l x v l' x' k1 hs hx
  refine ⟨v', ?_, h4⟩
  have hargs : c.args.map e = ⟨x' :: l'⟩ := by rw [map_args, hE]
  cases isMax with
  | true =>
    simp only [if_true] at h3 hc
    simp only [execOp, ho, resolve, hc, Sem.run_bind, Sem.run_pure, Result.andThen_ok, invoke, builtin, Builtin.max_, hargs, h3]
  | false =>
    simp only [Bool.false_eq_true, if_false] at h3 hc
    simp only [execOp, ho, resolve, hc, Sem.run_bind, Sem.run_pure, Result.andThen_ok, invoke, builtin, Builtin.min_, hargs, h3]

end
end Go.Ab
