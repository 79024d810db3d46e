/- The operations that read or write memory. -/
import Derived.Test.YtcjkjjnnicadfaaGreatDoorAbOps4
set_option linter.unusedSimpArgs false
set_option linter.unusedVariables false
namespace Go.Ab
open Go
section
variable {P : Program} {ρ : Place} {fr : Fr} {e : Operand → Value} {o : Oper} {w : World} {v : Value}

/-- Some cells of a row, as they lie in the model's memory. -/
def Seg (ρ : Place) (w : World) (q : Spot) (off : Nat) (cs : List Value) : Prop := ∃ (arr : Array Value) (e : TypeId) (f : Nat × Nat), w.heap[q.c]? = some (.cells arr e f) ∧ q.o + off + cs.length ≤ arr.size ∧ (∀ v ∈ cs, isCell v = true) ∧
  ∀ (i : Nat) (v : Value), cs[i]? = some v → ∃ v', arr[q.o + off + i]? = some v' ∧ VRel ρ v v'
theorem Row.seg {base : Env} {cells cs : List Value} {q : Spot} {off n : Nat} (h : Row base ρ w q cells) (hs : sub cells off n = some cs) : Seg ρ w q off cs ∧ cs.length = n := by
  obtain ⟨arr, el, lo, hi, h1, h0, h2, h3, h4, h5⟩ := h
  obtain ⟨h6, rfl⟩ := sub_eq hs
  refine ⟨⟨arr, el, (lo, hi), h1, by simp; omega, fun v hv => h4 v (List.mem_of_mem_drop (List.mem_of_mem_take hv)), fun i v hv => ?_⟩, by simp; omega⟩
  have hi' : i < n := by
    rcases Nat.lt_or_ge i n with hh | hh
    · exact hh
    · rw [List.getElem?_eq_none (by simp; omega)] at hv; cases hv
  rw [List.getElem?_take_of_lt hi', List.getElem?_drop] at hv
  obtain ⟨v', h7, h8⟩ := h5 _ _ hv
  exact ⟨v', by rw [show q.o + off + i = q.o + (off + i) from by omega]; exact h7, h8⟩
theorem Seg.read {cs : List Value} {q : Spot} {off : Nat} (h : Seg ρ w q off cs) : ∃ vs : List Value, (loadCells ⟨q.c, q.o + off, none⟩ cs.length).run P w = .ok vs.toArray w ∧ VsRel ρ cs vs ∧ ∀ v ∈ cs, isCell v = true := by
  obtain ⟨arr, e, f, h1, h2, h4, h5⟩ := h
  refine ⟨_, run_read h1 cs.length (by omega), ?_, h4⟩
  apply VsRel.of_get
  · simp; omega
  · intro i v hv
    have hi' : i < cs.length := (List.getElem?_eq_some_iff.1 hv).1
    rw [List.getElem?_take_of_lt hi', List.getElem?_drop]
    obtain ⟨v', h7, h8⟩ := h5 _ _ hv
    exact ⟨v', by rw [Array.getElem?_toList]; exact h7, h8⟩
theorem Seg.one {cs : List Value} {q : Spot} {off : Nat} (h : Seg ρ w q off cs) (hv : oneV cs = some v) :
    ∃ v', (load ⟨q.c, q.o + off, none⟩).run P w = .ok v' w ∧ VRel ρ v v' := by
  obtain ⟨arr, el, f, h1, h2, h4, h5⟩ := h
  obtain ⟨v', h7, h8⟩ := h5 0 v (by rw [oneV_eq hv]; rfl)
  refine ⟨v', ?_, h8⟩
  rw [run_load, cell_at h1, show q.o + off = q.o + off + 0 from rfl, h7]
theorem Row.one {base : Env} {cells cs : List Value} {q : Spot} {off : Nat} (h : Row base ρ w q cells) (hs : sub cells off 1 = some cs) (hv : oneV cs = some v) :
    ∃ v', (load ⟨q.c, q.o + off, none⟩).run P w = .ok v' w ∧ VRel ρ v v' := (h.seg hs).1.one hv

theorem read_parts {σ : St} {b off n : Nat} {cs : List Value} (h : σ.read b off n = some cs) : ∃ B, σ.rblk b = some B ∧ sub B.cells off n = some cs := ob_eq h
theorem Rel.seg {base : Env} {σ : St} (hR : Rel base ρ σ w) {b off n : Nat} {q : Spot} {cs : List Value} (hq : ρ b = some q) (h : σ.read b off n = some cs) : Seg ρ w q off cs := by
  obtain ⟨B, h1, h2⟩ := read_parts h
  exact ((hR.row b q B hq h1).seg h2).1
theorem read_length {σ : St} {b off n : Nat} {cs : List Value} (h : σ.read b off n = some cs) : cs.length = n := by
  obtain ⟨B, h1, h2⟩ := read_parts h
  obtain ⟨h3, h4⟩ := sub_eq h2
  rw [h4]; simp; omega

theorem load_sound {σ : St} {t : TypeId} {x : Operand} {r : RowAt} (ho : o.op = .load t x) (hk : Known ρ fr e o.op.operands.toList) (h : rLoad P fr σ t x = some (v, r))
    (hseg : ∀ q cs, ρ r.b = some q → σ.read r.b r.off r.n = some cs → Seg ρ w q r.off cs) : PureOk P ρ e o w v := by
  obtain ⟨u, h1, k1⟩ := ob_eq h
  obtain ⟨⟨b', off⟩, h2, k2⟩ := ob_eq k1
  obtain ⟨m, hm, k2⟩ := ob_eq (show ob (span? P t) _ = some (v, r) from k2)
  obtain ⟨v0, h3, k3⟩ := ob_eq (show ob (loadA P σ t b' off) _ = some (v, r) from k2)
  clear h k1 k2
  cases k3
  obtain ⟨q, hq, hx⟩ := at_rel (hk x u (by simp [ho, Op.operands]) h1) h2
  obtain ⟨g, h4, h5⟩ := ob_eq h3
  obtain ⟨g', hg', hm⟩ := ob_eq hm
  rw [h4] at hg'; cases hg'
  have hg := agg_of h4 w
  cases g with
  | true =>
    obtain ⟨n, h6, h7⟩ := ob_eq (show ob (size? P t) _ = some v from h5)
    obtain ⟨cs, h8, h9⟩ := ob_eq h7
    cases h9
    rw [show size? P t = some m from hm] at h6
    cases h6
    obtain ⟨vs, k1, k2, k3⟩ := (hseg q cs hq h8).read (P := P)
    rw [read_length h8] at k1
    refine ⟨.agg vs.toArray, ?_, .agg k3 k2⟩
    simp only [execOp, ho, hx, Instr.loadAt, Instr.sureAddr, Sem.run_bind, Sem.run_pure, Result.andThen_ok, loadVar, hg, if_true, size_of (show size? P t = some m from hm), k1]
  | false =>
    cases hm
    obtain ⟨cs, h8, h9⟩ := ob_eq (show ob (σ.read b' off 1) _ = some v from h5)
    obtain ⟨v', k1, k2⟩ := (hseg q cs hq h8).one (P := P) h9
    refine ⟨v', ?_, k2⟩
    simp only [execOp, ho, hx, Instr.loadAt, Instr.sureAddr, Sem.run_bind, Sem.run_pure, Result.andThen_ok, loadVar, hg, Bool.false_eq_true, if_false, k1]

/-- The row that a slice shows. -/
theorem rowAt_rel {u u' : Value} {p : RowAt} (h : VRel ρ u u') (hp : rowAt? u = some p) : ∃ q a k', ρ p.b = some q ∧ u' = .slice (some a) p.n k' ∧ (a = ⟨q.c, q.o + p.off, none⟩ ∨ p.n = 0) := by
  unfold rowAt? at hp
  split at hp
  · cases hp
    cases h with
    | slice hq => exact ⟨_, _, _, hq, rfl, .inl rfl⟩
    | grow hq _ _ => exact ⟨_, _, _, hq, rfl, .inl rfl⟩
    | slice0 hq => exact ⟨_, _, _, hq, rfl, .inr rfl⟩
    | scal hs => simp [scal] at hs
  · cases hp

theorem loop_bytes {P : Program} {w : World} : ∀ (l : List Value) (r : List UInt8) (s : ByteArray), unbytes l = some r →
    (forIn l s (fun (c : Value) (s : ByteArray) => (match c with
      | .int .u8 n => pure (ForInStep.yield (s.push (UInt8.ofNat n.toNat)))
      | _ => do
        stuck "bytesToString: byte expected"
        pure (ForInStep.yield s) : Sem (ForInStep ByteArray)))).run P w = .ok ⟨(s.data.toList ++ r).toArray⟩ w := by
  intro l
  induction l with
  | nil => intro r s h; cases h; simp [forIn, List.forIn']
  | cons v l ih =>
    intro r s h
    obtain ⟨b, h1, h2⟩ := ob_eq (show ob (byte? v) (fun b => ob (unbytes l) fun bs => some (b :: bs)) = some r from h)
    obtain ⟨bs, h3, h4⟩ := ob_eq h2
    cases h4
    unfold byte? at h1
    split at h1
    · cases h1
      rw [List.forIn_cons]
      simp only [Sem.run_bind, Sem.run_pure, Result.andThen_ok]
      rw [ih bs _ h3]
      simp [ByteArray.push]
    · cases h1

theorem VsRel.unbytes {l l' : List Value} {r : List UInt8} (h : VsRel ρ l l') (hu : Ab.unbytes l = some r) : Ab.unbytes l' = some r := by
  induction l generalizing l' r with
  | nil => cases h; exact hu
  | cons v l ih =>
    cases h with
    | cons hv hs =>
    rename_i v' l'
    obtain ⟨b, h1, h2⟩ := ob_eq (show ob (byte? v) (fun b => ob (Ab.unbytes l) fun bs => some (b :: bs)) = some r from hu)
    obtain ⟨bs, h3, h4⟩ := ob_eq h2
    cases h4
    show ob (byte? v') (fun b => ob (Ab.unbytes l') fun bs => some (b :: bs)) = _
    have : v' = v := by
      unfold byte? at h1
      split at h1
      · cases hv; rfl
      · cases h1
    rw [this, h1, ih hs h3]
    rfl

theorem isByte_eq {d : Option TypeDesc} (h : isByte d = true) : d = some (.int .u8) := by
  unfold isByte at h
  split at h
  · rfl
  · cases h
theorem isStr_eq {d : Option TypeDesc} (h : isStr d = true) : d = some .string := by
  unfold isStr at h
  split at h
  · rfl
  · cases h

theorem string_sound {σ : St} {s d : TypeId} {x : Operand} {r : RowAt} (ho : o.op = .convert s d x) (hk : Known ρ fr e o.op.operands.toList) (h : rString P fr σ s d x = some (v, r))
    (hseg : ∀ q cs, ρ r.b = some q → σ.read r.b r.off r.n = some cs → Seg ρ w q r.off cs) : PureOk P ρ e o w v := by
  obtain ⟨u, h1, k1⟩ := ob_eq h
  obtain ⟨⟨b', off, n⟩, h2, k2⟩ := ob_eq k1
  obtain ⟨el, h3, k3⟩ := ob_eq (show ob (elem? P s) _ = some (v, r) from k2)
  obtain ⟨h4, k4⟩ := bb_eq k3
  obtain ⟨h5, k5⟩ := bb_eq k4
  obtain ⟨l, h6, k6⟩ := ob_eq k5
  obtain ⟨r', h7, k7⟩ := ob_eq k6
  clear h k1 k2 k3 k4 k5 k6
  cases k7
  obtain ⟨q, a, k', hq, hx, ha⟩ := rowAt_rel (hk x u (by simp [ho, Op.operands]) h1) h2
  obtain ⟨vs, k1, k2, k3⟩ := (hseg q l hq h6).read (P := P)
  rw [read_length h6] at k1
  have hload : (loadCells a n).run P w = .ok vs.toArray w := by
    rcases ha with ha | ha
    · rw [ha]; exact k1
    · change n = 0 at ha
      subst ha
      have : vs = [] := by
        have h12 := k2.length
        rw [read_length h6] at h12
        exact List.length_eq_zero_iff.1 h12.symm
      subst this
      rfl
  refine ⟨.string ⟨r'.toArray⟩, ?_, .scal rfl⟩
  simp only [execOp, ho, hx, convert, Sem.run_bind, under_of (elem_of h3), under_of (isStr_eq h5), Result.andThen_ok, under_of (isByte_eq h4), Conv.bytesToString, hload, Sem.run_pure]
  have hl := loop_bytes (P := P) (w := w) vs r' ByteArray.empty (k2.unbytes h7)
  rw [List.forIn_toArray]
  refine (congrArg (fun r : Result ByteArray => (r.andThen fun a w' => Result.ok (Value.string a) w').andThen fun a w' => Result.ok (Next.value a) w') hl).trans ?_
  rfl

/-- What is to be shown of an operation that may change memory: what it gives, on the model's side, and how the memories stand afterwards. -/
def Gives (v : Value) : Next → Prop
  | .value v' => v' = v
  | .skip => v = undef
  | _ => False
def EffOk (P : Program) (base : Env) (ρ : Place) (e : Operand → Value) (o : Oper) (σ : St) (w : World) (σ' : St) (v : Value) : Prop :=
  ∃ (w' : World) (nx : Next) (v' : Value) (ρ' : Place), (execOp e o).run P w = .ok nx w' ∧ Gives v' nx ∧ Rel base ρ' σ' w' ∧ Fram ρ σ w ρ' σ' w' ∧ VRel ρ' v v'

theorem store_sound {base : Env} {σ σ' : St} {t : TypeId} {x y : Operand} (ho : o.op = .store t x y) (hk : Known ρ fr e o.op.operands.toList) (hR : Rel base ρ σ w)
    (h : eStore P fr σ t x y = some (v, σ')) : EffOk P base ρ e o σ w σ' v := by
  obtain ⟨a, h1, k1⟩ := ob_eq h
  obtain ⟨u, h2, k2⟩ := ob_eq k1
  obtain ⟨σ1, h3, k3⟩ := ob_eq k2
  clear h k1 k2
  cases k3
  obtain ⟨⟨b, off⟩, h4, k4⟩ := ob_eq h3
  obtain ⟨n, h5, k5⟩ := ob_eq (show ob (size? P t) _ = some σ' from k4)
  obtain ⟨ht, k6⟩ := bi_none k5
  obtain ⟨h6, h7⟩ := bb_eq k6
  clear h3 k4 k5 k6
  have hn := Nat.eq_of_beq_eq_true h6
  obtain ⟨q, hq, hx⟩ := at_rel (hk x a (by simp [ho, Op.operands]) h1) h4
  obtain ⟨c1, c2⟩ := (hk y u (by simp [ho, Op.operands]) h2).cells ht
  obtain ⟨w1, w2, w3⟩ := hR.write hq h7 c1 c2
  refine ⟨_, .skip, undef, ρ, ?_, rfl, w2, w3, .tuple .nil⟩
  have hl := c1.length
  have hsz : (e y).cells.size = n := by rw [← Array.length_toList, ← hl, hn]
  simp only [execOp, ho, hx, Instr.storeAt, Instr.sureAddr, Sem.run_bind, Sem.run_pure, Result.andThen_ok, storeVar, size_of h5, ne_eq]
  rw [if_neg (by simp [hsz])]
  rw [w1 P]
  rfl

/-- Where a value is copied from: its cells. -/
theorem src_run {base : Env} {σ : St} {size n : Nat} {x x' : Value} {new : List Value} (hR : Rel base ρ σ w) (hx : VRel ρ x x') (h : srcCells σ size x = some (n, new)) :
    (Builtin.lenOf x').run P w = .ok n w ∧ new.length = n * size ∧ (∀ v ∈ new, isCell v = true) ∧
    ∀ k, k ≤ n → ∃ new', (Builtin.firstCells size k x').run P w = .ok (new' : List Value).toArray w ∧ VsRel ρ (new.take (k * size)) new' := by
  unfold srcCells at h
  split at h
  · rename_i n0 cap
    obtain ⟨h1, h2⟩ := bb_eq h
    cases h2
    have := Nat.eq_of_beq_eq_true h1
    subst this
    cases hx with
    | scal hs =>
      refine ⟨rfl, by simp, by simp, fun k hk => ?_⟩
      have : k = 0 := by omega
      subst this
      exact ⟨[], rfl, by simp; exact .nil⟩
  · rename_i b off sp n0 cap
    obtain ⟨cs, h1, h2⟩ := ob_eq h
    cases h2
    obtain ⟨q, a, k', hq, hx', ha⟩ := rowAt_rel (p := ⟨b, off, n⟩) hx rfl
    obtain ⟨B, h10, h11⟩ := read_parts h1
    obtain ⟨h12, h13⟩ := sub_eq h11
    have hrow := hR.row b q B hq h10
    subst hx'
    have hlen : new.length = n * size := by
      have := congrArg List.length h13
      simp at this
      omega
    refine ⟨rfl, hlen, ?_, fun k hk => ?_⟩
    · obtain ⟨_, _, _, k3⟩ := hrow.read (P := P) h11
      exact k3
    · have hks : k * size ≤ n * size := Nat.mul_le_mul_right size hk
      obtain ⟨vs, k1, k2, k3⟩ := hrow.read (P := P) (off := off) (n := k * size) (sub_of (by omega))
      refine ⟨vs, ?_, ?_⟩
      · rcases ha with ha | ha
        · simp only [Builtin.firstCells]
          rw [ha]
          exact k1
        · change n = 0 at ha
          have hk0 : k = 0 := by omega
          subst hk0
          have : vs = [] := by
            have := k2.length
            simp at this
            exact List.length_eq_zero_iff.1 this.symm
          subst this
          simp only [Builtin.firstCells, Nat.zero_mul]
          rfl
      · have h14 : new.take (k * size) = (B.cells.drop off).take (k * size) := by
          rw [h13, List.take_take, Nat.min_eq_left hks]
        rw [h14]
        exact k2
  · rename_i s
    obtain ⟨h1, h2⟩ := bb_eq h
    cases h2
    have hs1 := Nat.eq_of_beq_eq_true h1
    subst hs1
    cases hx with
    | scal hs =>
      have hsz : s.size = s.data.toList.length := Array.length_toList.symm
      refine ⟨by simp only [Builtin.lenOf, Sem.run_pure, hsz], by simp [bytesV], cells_of_scal (bytes_cells _), fun k hk => ⟨bytesV (s.data.toList.take k), ?_, ?_⟩⟩
      · simp only [Builtin.firstCells, Sem.run_pure]
        congr 1
        rw [extract_bytes s 0 k hk]
        simp [bytesV]
      · rw [Nat.mul_one]
        have : (bytesV s.data.toList).take k = bytesV (s.data.toList.take k) := by simp [bytesV]
        rw [this]
        exact VsRel.of_scal (bytes_cells _)
  · cases h

theorem takeN_rel {n : Nat} {l r : List Value} (h : takeN n l = some r) : r = l.take n ∧ n ≤ l.length := ⟨(takeN_eq _ _ _ h).2, (takeN_eq _ _ _ h).1⟩

theorem write_nil {base : Env} {σ σ' : St} {b off : Nat} {q : Spot} (hR : Rel base ρ σ w) (hq : ρ b = some q) (h : σ.write b off [] = some σ') : Rel base ρ σ' w ∧ Fram ρ σ w ρ σ' w := by
  obtain ⟨_, w2, w3⟩ := hR.write hq h .nil (by simp)
  exact ⟨w2, w3⟩

theorem two_eq {l : List Value} {x y : Value} (h : twoV l = some (x, y)) : l = [x, y] := by
  unfold twoV at h
  split at h
  · cases h; rfl
  · cases h

/-- Cells written where a slice shows them, be it empty. -/
theorem write_at {base : Env} {σ σ' : St} {b off n : Nat} {q : Spot} {a : Addr} {vs vs' : List Value} (hR : Rel base ρ σ w) (hq : ρ b = some q) (ha : a = ⟨q.c, q.o + off, none⟩ ∨ n = 0)
    (hn : n = 0 → vs = []) (h : σ.write b off vs = some σ') (hr : VsRel ρ vs vs') (hc : ∀ v ∈ vs, isCell v = true) :
    ∃ w', (storeCells a vs').run P w = .ok () w' ∧ Rel base ρ σ' w' ∧ Fram ρ σ w ρ σ' w' := by
  rcases ha with ha | ha
  · subst ha
    obtain ⟨w1, w2, w3⟩ := hR.write hq h hr hc
    exact ⟨_, w1 P, w2, w3⟩
  · have := hn ha
    subst this
    cases hr
    obtain ⟨w2, w3⟩ := write_nil hR hq h
    exact ⟨w, rfl, w2, w3⟩

theorem copy_sound {base : Env} {σ σ' : St} {c : Call} (ho : o.op = .call c) (hc : c.callee = .builtin .copy) (hk : Known ρ fr e o.op.operands.toList) (hR : Rel base ρ σ w)
    (h : eCopy P fr σ c = some (v, σ')) : EffOk P base ρ e o σ w σ' v := by
  obtain ⟨vs, h1, k1⟩ := ob_eq h
  obtain ⟨⟨d, s⟩, h2, k2⟩ := ob_eq k1
  obtain ⟨t, h3, k3⟩ := ob_eq (show ob (argT c) _ = some (v, σ') from k2)
  obtain ⟨el, h4, k4⟩ := ob_eq (show ob (elem? P t) _ = some (v, σ') from k3)
  obtain ⟨size, h5, k5⟩ := ob_eq k4
  obtain ⟨⟨b, off, dl⟩, h6, k6⟩ := ob_eq k5
  obtain ⟨⟨n, cs⟩, h7, k7⟩ := ob_eq (show ob (srcCells σ size s) _ = some (v, σ') from k6)
  obtain ⟨cs2, h8, k8⟩ := ob_eq (show ob (takeN (Nat.min n dl * size) cs) _ = some (v, σ') from k7)
  obtain ⟨σ2, h9, k9⟩ := ob_eq k8
  clear h k1 k2 k3 k4 k5 k6 k7 k8
  cases k9
  have hr := (args_known ho hk).evs h1
  rw [two_eq h2] at hr
  generalize hE : c.args.toList.map e = L at hr
  cases hr with
  | cons hd hs =>
  cases hs with
  | cons hs hnil =>
  cases hnil
  rename_i d' s'
  have hargs : c.args.map e = #[d', s'] := by rw [map_args, hE]
  obtain ⟨q, a, k', hq, hd', ha⟩ := rowAt_rel hd h6
  change d' = .slice (some a) dl k' at hd'
  change a = ⟨q.c, q.o + off, none⟩ ∨ dl = 0 at ha
  subst hd'
  obtain ⟨s1, s2, s3, s4⟩ := src_run (P := P) hR hs h7
  obtain ⟨new', s5, s6⟩ := s4 (Nat.min n dl) (Nat.min_le_left _ _)
  obtain ⟨rfl, s7⟩ := takeN_rel h8
  obtain ⟨w', g1, g2, g3⟩ := write_at (P := P) hR hq ha (fun h0 => by subst h0; simp) h9 s6 (fun v hv => s3 v (List.mem_of_mem_take hv))
  refine ⟨w', .value _, _, ρ, ?_, rfl, g2, g3, .scal rfl⟩
  have hm : Nat.min n dl = min n dl := rfl
  simp only [execOp, ho, resolve, hc, Sem.run_bind, Sem.run_pure, Result.andThen_ok, invoke, builtin, Builtin.copy_, argT_eq h3, hargs]
  simp [under_of (elem_of h4), s1, size_of h5, goInt]
  rw [s5]
  simp only [Result.andThen_ok, g1]

theorem clear_sound {base : Env} {σ σ' : St} {c : Call} (ho : o.op = .call c) (hc : c.callee = .builtin .clear) (hk : Known ρ fr e o.op.operands.toList) (hR : Rel base ρ σ w)
    (h : eClear P fr σ c = some (v, σ')) : EffOk P base ρ e o σ w σ' v := by
  obtain ⟨vs, h1, k1⟩ := ob_eq h
  obtain ⟨x, h2, k2⟩ := ob_eq k1
  obtain ⟨t, h3, k3⟩ := ob_eq k2
  obtain ⟨el, h4, k4⟩ := ob_eq (show ob (elem? P t) _ = some (v, σ') from k3)
  obtain ⟨z, h5, k5⟩ := ob_eq k4
  obtain ⟨⟨b, off, n⟩, h6, k6⟩ := ob_eq k5
  obtain ⟨σ2, h9, k9⟩ := ob_eq (show ob (σ.write b off (rep (cellsL z) n)) _ = some (v, σ') from k6)
  clear h k1 k2 k3 k4 k5 k6
  cases k9
  have hr := (args_known ho hk).evs h1
  rw [oneV_eq h2] at hr
  generalize hE : c.args.toList.map e = L at hr
  cases hr with
  | cons hx hs =>
  cases hs
  rename_i x'
  have hargs : c.args.map e = #[x'] := by rw [map_args, hE]
  obtain ⟨q, a, k', hq, hx', ha⟩ := rowAt_rel hx h6
  change x' = .slice (some a) n k' at hx'
  change a = ⟨q.c, q.o + off, none⟩ ∨ n = 0 at ha
  subst hx'
  obtain ⟨hz, _, _⟩ := zero_of (ρ := ρ) h5 w
  obtain ⟨zc1, zc2, zc3⟩ := zero_cells (ρ := ρ) h5
  have hrep : ∀ c ∈ Ab.rep (cellsL z) n, isCell c = true := by
    intro c hc
    obtain ⟨i, hi⟩ := List.getElem?_of_mem hc
    have hlt : i < n * (cellsL z).length := by rw [← rep_get]; exact (List.getElem?_eq_some_iff.1 hi).1
    rw [rep_mod _ _ _ hlt] at hi
    exact zc3 c (List.mem_of_getElem? hi)
  have hzr := zeros_rel zc2 n (n * z.cells.size) (by rw [zc2.length, Array.length_toList])
  obtain ⟨w', g1, g2, g3⟩ := write_at (P := P) hR hq ha (fun h0 => by subst h0; rfl) h9 hzr hrep
  refine ⟨w', .value _, _, ρ, ?_, rfl, g2, g3, .tuple .nil⟩
  have hu := elem_of h4
  by_cases h0 : n = 0
  · subst h0
    have hw : w' = w := by
      have : ((Array.range (0 * z.cells.size)).map fun i => (⟨z.cells.toList⟩ : Array Value)[i % (⟨z.cells.toList⟩ : Array Value).size]!).toList = [] := by simp
      rw [this] at g1
      cases g1
      rfl
    subst hw
    simp only [execOp, ho, resolve, hc, Sem.run_bind, Sem.run_pure, Result.andThen_ok, invoke, builtin, Builtin.clear_, argT_eq h3, hargs]
    simp [under_of hu]
  · simp only [execOp, ho, resolve, hc, Sem.run_bind, Sem.run_pure, Result.andThen_ok, invoke, builtin, Builtin.clear_, argT_eq h3, hargs]
    have hg : (storeCells a (Builtin.zeroCells z.cells n).toList).run P w = .ok () w' := g1
    obtain ⟨m, rfl⟩ : ∃ m, n = m + 1 := ⟨n - 1, by omega⟩
    simp [under_of hu, hz, hg]

theorem grow_le (need : Nat) : ∀ (k c : Nat), 256 ≤ c → c < need → Builtin.growBy need k c ≤ 2 * need := by
  intro k
  induction k with
  | zero => intro c _ h; unfold Builtin.growBy; omega
  | succ k ih =>
    intro c h1 h2
    unfold Builtin.growBy
    rw [if_neg (by omega)]
    by_cases h3 : c + (c + 768) / 4 < need
    · exact ih _ (by omega) h3
    · cases k with
      | zero => unfold Builtin.growBy; omega
      | succ k => unfold Builtin.growBy; rw [if_pos (by omega)]; omega
theorem next_le (need cap : Nat) (h : cap < need) : Builtin.nextslicecap need cap ≤ 2 * need := by
  unfold Builtin.nextslicecap
  split
  · omega
  · split
    · omega
    · exact grow_le need 4 cap (by omega) h

end
end Go.Ab
