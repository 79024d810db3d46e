/- What the operations on values alone give, second part. -/
import Derived.Test.YtcjkjjnnicadfaaGreatDoorAbOps
set_option linter.unusedSimpArgs false
set_option linter.unusedVariables false
namespace Go.Ab
open Go
section
variable {P : Program} {ρ : Place} {fr : Fr} {e : Operand → Value} {o : Oper} {w : World} {v : Value}

theorem fast_eq {op : BinOp} {x y x' y' : Value} (h : fastV op x y = some v) (hx : VRel ρ x x') (hy : VRel ρ y y') : x' = x ∧ y' = y := by
  unfold fastV at h
  split at h
  · split at h
    · cases hx; cases hy; exact ⟨rfl, rfl⟩
    · cases h
  · split at h
    · cases hx; cases hy; exact ⟨rfl, rfl⟩
    · cases h
  · cases h

theorem nil_equalIn {t : TypeId} {d : TypeDesc} {x y x' y' : Value} {b : Bool} (k : Nat) (hd : P.underlying t = some d) (h : nilPair (some d) x y = some b) (hx : VRel ρ x x') (hy : VRel ρ y y') :
    (Op.equalIn (k + 1) t x' y').run P w = .ok b w ∧ ∀ op xo yo, (eqGuard op t xo yo x' y').run P w = .ok () w := by
  cases d with
  | pointer el =>
    unfold nilPair at h
    simp only at h
    split at h
    · cases h; cases hx; cases hy; exact ⟨by (unfold Op.equalIn; rw [Sem.run_bind, under_of hd]; rfl), fun op xo yo => by unfold eqGuard; cases op <;> rfl⟩
    · cases h; cases hx; cases hy <;> first
        | exact ⟨by (unfold Op.equalIn; rw [Sem.run_bind, under_of hd]; rfl), fun op xo yo => by unfold eqGuard; cases op <;> rfl⟩
        | (rename_i hs; simp [scal] at hs; done)
    · cases h; cases hy; cases hx <;> first
        | exact ⟨by (unfold Op.equalIn; rw [Sem.run_bind, under_of hd]; rfl), fun op xo yo => by unfold eqGuard; cases op <;> rfl⟩
        | (rename_i hs; simp [scal] at hs; done)
    · cases h
  | slice el =>
    unfold nilPair at h
    simp only at h
    split at h
    · cases h; cases hx; cases hy; exact ⟨by (unfold Op.equalIn; rw [Sem.run_bind, under_of hd]; rfl), fun op xo yo => by unfold eqGuard; cases op <;> rfl⟩
    · cases h; cases hx; cases hy <;> first
        | exact ⟨by (unfold Op.equalIn; rw [Sem.run_bind, under_of hd]; rfl), fun op xo yo => by unfold eqGuard; cases op <;> rfl⟩
        | (rename_i hs; simp [scal] at hs; done)
    · cases h; cases hy; cases hx <;> first
        | exact ⟨by (unfold Op.equalIn; rw [Sem.run_bind, under_of hd]; rfl), fun op xo yo => by unfold eqGuard; cases op <;> rfl⟩
        | (rename_i hs; simp [scal] at hs; done)
    · cases h
  | func a r vr =>
    unfold nilPair at h
    simp only at h
    split at h
    · cases h; cases hx; cases hy; exact ⟨by (unfold Op.equalIn; rw [Sem.run_bind, under_of hd]; rfl), fun op xo yo => by unfold eqGuard; cases op <;> rfl⟩
    · cases h; cases hx; cases hy <;> first
        | exact ⟨by (unfold Op.equalIn; rw [Sem.run_bind, under_of hd]; rfl), fun op xo yo => by unfold eqGuard; cases op <;> rfl⟩
        | (rename_i hs; simp [scal] at hs; done)
    · cases h; cases hy; cases hx <;> first
        | exact ⟨by (unfold Op.equalIn; rw [Sem.run_bind, under_of hd]; rfl), fun op xo yo => by unfold eqGuard; cases op <;> rfl⟩
        | (rename_i hs; simp [scal] at hs; done)
    · cases h
  | interface ms =>
    unfold nilPair at h
    simp only at h
    split at h
    · cases h; cases hx; cases hy <;> first
        | exact ⟨by (unfold Op.equalIn; rw [Sem.run_bind, under_of hd]; rfl), fun op xo yo => by unfold eqGuard; cases op <;> rfl⟩
        | (rename_i hs; simp [scal] at hs; done)
    · cases h; cases hy; cases hx <;> first
        | exact ⟨by (unfold Op.equalIn; rw [Sem.run_bind, under_of hd]; rfl), fun op xo yo => by unfold eqGuard; cases op <;> rfl⟩
        | (rename_i hs; simp [scal] at hs; done)
    · cases h
  | _ => cases h

theorem nil_equal {t : TypeId} {d : TypeDesc} {x y x' y' : Value} {b : Bool} (hd : P.underlying t = some d) (h : nilPair (some d) x y = some b) (hx : VRel ρ x x') (hy : VRel ρ y y') :
    (Op.equal t x' y').run P w = .ok b w ∧ ∀ op xo yo, (eqGuard op t xo yo x' y').run P w = .ok () w := nil_equalIn 9999 hd h hx hy

theorem nilPair_kind {d : Option TypeDesc} {x y x' y' : Value} {b : Bool} (h : nilPair d x y = some b) (hx : VRel ρ x x') (hy : VRel ρ y y') (t : TypeId) :
    binOp .eql t x' y' = (do pure (.bool (← Op.equal t x' y'))) ∧ binOp .neq t x' y' = (do pure (.bool (!(← Op.equal t x' y')))) := by
  unfold nilPair at h
  split at h <;> (try split at h) <;> (try (cases h; done)) <;> cases hx <;> cases hy <;> first
    | exact ⟨rfl, rfl⟩
    | (rename_i hs; simp [scal] at hs; done)
    | (rename_i hs _; simp [scal] at hs; done)

theorem bin_sound {op : BinOp} {t yt : TypeId} {xo yo : Operand} (ho : o.op = .binOp op t xo yo yt) (hk : Known ρ fr e o.op.operands.toList) (h : pBin P fr o op t xo yo = some v) : PureOk P ρ e o w v := by
  obtain ⟨x, h1, h2⟩ := ob_eq h
  obtain ⟨y, h3, h4⟩ := ob_eq h2
  have hx := hk xo x (by simp [ho, Op.operands]) h1
  have hy := hk yo y (by simp [ho, Op.operands]) h3
  unfold binV at h4
  cases hf : fastV op x y with
  | some u =>
    rw [hf] at h4
    cases h4
    obtain ⟨hx', hy'⟩ := fast_eq hf hx hy
    exact fast_sound ho hf hx' hy'
  | none =>
    rw [hf] at h4
    change bi (flat x && flat y) (flatV P fr o) (nilV P t op x y) = some v at h4
    cases hfl : flat x && flat y with
    | true =>
      rw [hfl] at h4
      rw [Bool.and_eq_true] at hfl
      refine flatV_sound hk (by simp [ho]) ?_ h4
      intro z hz
      simp [ho, Op.operands] at hz
      rcases hz with rfl | rfl
      · exact ⟨x, h1, hfl.1⟩
      · exact ⟨y, h3, hfl.2⟩
    | false =>
      rw [hfl] at h4
      change nilV P t op x y = some v at h4
      have key : ∀ b, nilPair (P.underlying t) x y = some b → (Op.equal t (e xo) (e yo)).run P w = .ok b w ∧ ∀ op xo' yo', (eqGuard op t xo' yo' (e xo) (e yo)).run P w = .ok () w := by
        intro b hb
        cases hd : P.underlying t with
        | none => rw [hd] at hb; cases hb
        | some d => rw [hd] at hb; exact nil_equal hd hb hx hy
      unfold nilV at h4
      split at h4
      · obtain ⟨b, h5, h6⟩ := ob_eq h4
        cases h6
        obtain ⟨k1, k2⟩ := key b h5
        refine ⟨.bool b, ?_, .scal rfl⟩
        simp only [execOp, ho, Sem.run_bind, k2, Result.andThen_ok, (nilPair_kind h5 hx hy t).1, k1, Sem.run_pure]
      · obtain ⟨b, h5, h6⟩ := ob_eq h4
        cases h6
        obtain ⟨k1, k2⟩ := key b h5
        refine ⟨.bool !b, ?_, .scal rfl⟩
        simp only [execOp, ho, Sem.run_bind, k2, Result.andThen_ok, (nilPair_kind h5 hx hy t).2, k1, Sem.run_pure]
      · cases h4

theorem move_sound {x : Operand} (ho : o.op = .move x ∨ o.op = .assign x) (hk : Known ρ fr e o.op.operands.toList) (h : ev fr x = some v) : PureOk P ρ e o w v := by
  rcases ho with ho | ho
  · exact ⟨e x, by simp [execOp, ho], hk x v (by simp [ho, Op.operands]) h⟩
  · exact ⟨e x, by simp [execOp, ho], hk x v (by simp [ho, Op.operands]) h⟩

theorem pick_sound {c a b : Operand} (ho : o.op = .pick c a b) (hk : Known ρ fr e o.op.operands.toList) (h : pPick fr c a b = some v) : PureOk P ρ e o w v := by
  obtain ⟨x, h1, h2⟩ := ob_eq h
  obtain ⟨t, h3, h4⟩ := ob_eq h2
  have hx := hk c x (by simp [ho, Op.operands]) h1
  have ht : e c = .bool t := by
    unfold bool? at h3
    split at h3
    · cases h3; generalize e c = y at hx; cases hx; rfl
    · cases h3
  cases t with
  | true => exact ⟨e a, by simp [execOp, ho, ht, asBool], hk a v (by simp [ho, Op.operands]) h4⟩
  | false => exact ⟨e b, by simp [execOp, ho, ht, asBool], hk b v (by simp [ho, Op.operands]) h4⟩

theorem nilCheck_sound {x : Operand} (ho : o.op = .nilCheck x) (hk : Known ρ fr e o.op.operands.toList) (h : pNilCheck fr x = some v) : PureOk P ρ e o w v := by
  obtain ⟨u, h1, h2⟩ := ob_eq h
  have hx := hk x u (by simp [ho, Op.operands]) h1
  unfold nonNil at h2
  split at h2
  · cases h2
    refine ⟨e x, ?_, hx⟩
    generalize he : e x = y at hx
    cases hx with
    | ptr hq => simp [execOp, ho, he]
    | scal hs => simp [scal] at hs
  · cases h2
    refine ⟨e x, ?_, hx⟩
    generalize he : e x = y at hx
    cases hx with
    | func => simp [execOp, ho, he]
    | scal hs => simp [scal] at hs
  · cases h2
    refine ⟨e x, ?_, hx⟩
    generalize he : e x = y at hx
    cases hx with
    | iface => simp [execOp, ho, he]
    | scal hs => simp [scal] at hs
  · cases h2

theorem flat1_sound {x : Operand} (hops : o.op.operands.toList = [x]) (hs : ∀ cs b, o.op ≠ .select cs b) (hk : Known ρ fr e o.op.operands.toList) (h : pFlat P fr o x = some v) : PureOk P ρ e o w v := by
  obtain ⟨u, h1, h2⟩ := ob_eq h
  obtain ⟨h3, h4⟩ := bb_eq h2
  refine flatV_sound hk hs ?_ h4
  intro z hz
  rw [hops] at hz
  simp at hz
  subst hz
  exact ⟨u, h1, h3⟩

theorem iface_sound {t : TypeId} {x : Operand} (ho : o.op = .makeInterface t x) (hk : Known ρ fr e o.op.operands.toList) (h : pIface P fr t x = some v) : PureOk P ρ e o w v := by
  obtain ⟨u, h1, h2⟩ := ob_eq h
  obtain ⟨h3, h4⟩ := bb_eq h2
  cases h4
  have hx := hk x u (by simp [ho, Op.operands]) h1
  refine ⟨.iface t (e x), ?_, .iface hx⟩
  unfold concrete at h3
  split at h3
  · cases h3
  · rename_i d hd hne
    have := under_of hne w
    simp only [execOp, ho, Instr.makeInterface, Sem.run_bind, this, Result.andThen_ok]
    cases d <;> first | rfl | exact absurd rfl (hd _)
  · cases h3

theorem func_sound {fn : Fn} {fs cs : Array Operand} (ho : o.op = .makeFunc fn fs cs) (hk : Known ρ fr e o.op.operands.toList) (h : pFunc fr fn fs cs = some v) : PureOk P ρ e o w v := by
  obtain ⟨a, h1, h2⟩ := ob_eq h
  obtain ⟨b, h3, h4⟩ := ob_eq h2
  obtain ⟨h0, h4⟩ := bb_eq h4
  cases h4
  have ha := (hk.sub (k := fs.toList) fun y hy => by simp [ho, Op.operands]; exact .inl (by simpa using hy)).evs h1
  have hb := (hk.sub (k := cs.toList) fun y hy => by simp [ho, Op.operands]; exact .inr (by simpa using hy)).evs h3
  refine ⟨.func fn ⟨fs.toList.map e⟩ ⟨cs.toList.map e⟩, ?_, .func h0 ha hb⟩
  have e1 : fs.map e = ⟨fs.toList.map e⟩ := by rw [← Array.toList_inj]; simp
  have e2 : cs.map e = ⟨cs.toList.map e⟩ := by rw [← Array.toList_inj]; simp
  simp [execOp, ho, Instr.makeFunc, e1, e2]

theorem fieldOf_eq {s : TypeId} {f : Nat} {fd : Field} (h : fieldOf P s f = some fd) : ∃ fs, P.underlying s = some (.struct fs) ∧ fs[f]? = some fd := by
  unfold fieldOf at h
  split at h
  · exact ⟨_, by assumption, h⟩
  · cases h
theorem fieldAddr_sound {s : TypeId} {x : Operand} {f : Nat} (ho : o.op = .fieldAddr s x f) (hk : Known ρ fr e o.op.operands.toList) (h : pFieldAddr P fr s x f = some v) : PureOk P ρ e o w v := by
  obtain ⟨u, h1, h2⟩ := ob_eq h
  obtain ⟨⟨b, off⟩, h3, h4⟩ := ob_eq h2
  obtain ⟨fd, h5, h6⟩ := ob_eq (show ob (fieldOf P s f) _ = some v from h4)
  obtain ⟨n, h7, h8⟩ := ob_eq h6
  obtain ⟨h9, h10⟩ := bb_eq h8
  cases h10
  have hn := Nat.le_of_ble_eq_true h9
  obtain ⟨q, hq, hx⟩ := at_rel (hk x u (by simp [ho, Op.operands]) h1) h3
  obtain ⟨fs, hu, hf⟩ := fieldOf_eq h5
  refine ⟨.pointer (some ⟨q.c, q.o + (off + fd.offset), none⟩), ?_, .ptr hq⟩
  simp only [execOp, ho, hx, Instr.fieldAt, Sem.run_bind, under_of hu, Result.andThen_ok, hf, Instr.sureAddr, Sem.run_pure, fieldPlace, size_of h7, Sem.run_ite]
  rw [if_neg (by omega)]
  simp only [Sem.run_pure, Result.andThen_ok, addr_add, Nat.add_assoc]

theorem agg_rel {u u' : Value} {cs : List Value} (h : VRel ρ u u') (hc : agg? u = some cs) : ∃ cs', u' = .agg ⟨cs'⟩ ∧ VsRel ρ cs cs' ∧ ∀ v ∈ cs, isCell v = true := by
  unfold agg? at hc
  split at hc
  · cases hc
    cases h with
    | agg h1 h2 => exact ⟨_, rfl, h2, h1⟩
    | scal hs => simp [scal] at hs
  · cases hc
theorem field_sound {s : TypeId} {x : Operand} {f : Nat} (ho : o.op = .field s x f) (hk : Known ρ fr e o.op.operands.toList) (h : pField P fr s x f = some v) : PureOk P ρ e o w v := by
  obtain ⟨u, h1, h2⟩ := ob_eq h
  obtain ⟨cs, h3, h4⟩ := ob_eq h2
  obtain ⟨fd, h5, h6⟩ := ob_eq h4
  obtain ⟨cs', hx, hr, hc⟩ := agg_rel (hk x u (by simp [ho, Op.operands]) h1) h3
  obtain ⟨fs, hu, hf⟩ := fieldOf_eq h5
  obtain ⟨v', h7, h8⟩ := part_rel (P := P) (w := w) hr hc h6
  refine ⟨v', ?_, h8⟩
  simp only [execOp, ho, hx, Instr.field, Sem.run_bind, under_of hu, Result.andThen_ok, hf, asAgg, Sem.run_pure, h7]

theorem indexAddr_sound {t : TypeId} {x ix : Operand} (ho : o.op = .indexAddr t x ix) (hk : Known ρ fr e o.op.operands.toList) (h : pIndexAddr P fr t x ix = some v) : PureOk P ρ e o w v := by
  obtain ⟨i, h1, h2⟩ := ob_eq h
  obtain ⟨u, h3, h4⟩ := ob_eq h2
  obtain ⟨k, hi⟩ := evN_rel hk (by simp [ho, Op.operands]) h1
  have hx := hk x u (by simp [ho, Op.operands]) h3
  have core : ∀ (el : TypeId) (b off len : Nat) (q : Spot), ρ b = some q → atIx P el b off i len = some v → i < len ∧ ∃ n, (∀ w, (sizeOf el).run P w = .ok n w) ∧ VRel ρ v (.pointer (some ⟨q.c, q.o + off + i * n, none⟩)) := by
    intro el b off len q hq ha
    obtain ⟨k1, k2⟩ := bb_eq ha
    obtain ⟨n, k3, k4⟩ := ob_eq k2
    cases k4
    rw [Nat.blt_eq] at k1
    refine ⟨k1, n, size_of k3, ?_⟩
    rw [Nat.add_assoc]
    exact .ptr hq
  generalize hE : e x = y at hx
  unfold indexAddrV at h4
  split at h4
  · rename_i b off sp len cap
    obtain ⟨el, h5, h6⟩ := ob_eq h4
    have hu := elem_of h5
    cases hx with
    | slice hq =>
      rename_i q
      obtain ⟨hlt, n, hn, hr⟩ := core el b off len _ hq h6
      refine ⟨_, ?_, hr⟩
      simp only [execOp, ho, hi, hE, Instr.indexAt, asIntOf, Sem.run_bind, Sem.run_pure, Result.andThen_ok, under_of hu, Bool.and_false, Sem.run_ite]
      rw [if_pos ⟨by simp, by simpa using hlt⟩]
      simp only [Sem.run_bind, hn, Result.andThen_ok, Sem.run_pure, addr_add, Int.ofNat_eq_natCast, Int.toNat_natCast]
    | grow hq hk' hm =>
      rename_i s k' q
      obtain ⟨hlt, n, hn, hr⟩ := core el b off len _ hq h6
      refine ⟨_, ?_, hr⟩
      simp only [execOp, ho, hi, hE, Instr.indexAt, asIntOf, Sem.run_bind, Sem.run_pure, Result.andThen_ok, under_of hu, Bool.and_false, Sem.run_ite]
      rw [if_pos ⟨by simp, by simpa using hlt⟩]
      simp only [Sem.run_bind, hn, Result.andThen_ok, Sem.run_pure, addr_add, Int.ofNat_eq_natCast, Int.toNat_natCast]
    | slice0 hq =>
      obtain ⟨hlt, _⟩ := core el b off 0 _ hq h6
      omega
    | scal hs => simp [scal] at hs
  · rename_i b off
    split at h4
    · rename_i len el hu
      cases hx with
      | ptr hq =>
        rename_i q
        obtain ⟨hlt, n, hn, hr⟩ := core el b off len _ hq h4
        refine ⟨_, ?_, hr⟩
        simp only [execOp, ho, hi, hE, Instr.indexAt, asIntOf, Sem.run_bind, Sem.run_pure, Result.andThen_ok, under_of hu, Instr.sureAddr, Sem.run_ite]
        rw [if_pos ⟨by simp, by simpa using hlt⟩]
        simp only [Sem.run_bind, hn, Result.andThen_ok, Sem.run_pure, addr_add, Int.ofNat_eq_natCast, Int.toNat_natCast]
      | scal hs => simp [scal] at hs
    · cases h4
  · cases h4

theorem oneB_get {l : List UInt8} {i : Nat} {r : List UInt8} (h1 : sub l i 1 = some r) (h2 : oneB r = some v) : ∃ b, l[i]? = some b ∧ v = .int .u8 b.toNat := by
  obtain ⟨h3, rfl⟩ := sub_eq h1
  unfold oneB at h2
  split at h2
  · rename_i u hu
    cases h2
    have := congrArg (fun l : List UInt8 => l[0]?) hu
    exact ⟨u, by simpa [List.getElem?_take] using this, rfl⟩
  · cases h2
theorem index_sound {t : TypeId} {x ix : Operand} (ho : o.op = .index t x ix) (hk : Known ρ fr e o.op.operands.toList) (h : pIndex P fr t x ix = some v) : PureOk P ρ e o w v := by
  obtain ⟨i, h1, h2⟩ := ob_eq h
  obtain ⟨u, h3, h4⟩ := ob_eq h2
  obtain ⟨k, hi⟩ := evN_rel hk (by simp [ho, Op.operands]) h1
  have hx := hk x u (by simp [ho, Op.operands]) h3
  unfold indexV at h4
  split at h4
  · rename_i cs
    split at h4
    · rename_i len el hu
      obtain ⟨h5, h6⟩ := bb_eq h4
      obtain ⟨n, h7, h8⟩ := ob_eq h6
      rw [Nat.blt_eq] at h5
      obtain ⟨cs', hE, hr, hc⟩ := agg_rel (u := .agg cs) (cs := cs.toList) hx rfl
      obtain ⟨v', h9, h10⟩ := part_rel (P := P) (w := w) hr hc h8
      refine ⟨v', ?_, h10⟩
      simp only [execOp, ho, hi, hE, Instr.index, asIntOf, Sem.run_bind, Sem.run_pure, Result.andThen_ok, under_of hu, Sem.run_ite]
      rw [if_pos ⟨by simp, by simpa using h5⟩]
      simp only [Sem.run_bind, size_of h7, Result.andThen_ok, Int.ofNat_eq_natCast, Int.toNat_natCast, h9]
    · cases h4
  · rename_i s
    split at h4
    · rename_i hu
      obtain ⟨r, h5, h6⟩ := ob_eq h4
      obtain ⟨b, h7, rfl⟩ := oneB_get h5 h6
      generalize hE : e x = y at hx
      cases hx with
      | scal hs =>
        refine ⟨_, ?_, .scal rfl⟩
        have hg : s[i]? = some b := by
          have hlt := (List.getElem?_eq_some_iff.1 h7).1
          have hb := (List.getElem?_eq_some_iff.1 h7).2
          have hsz : i < s.size := by rw [show s.size = s.data.toList.length from Array.length_toList.symm]; exact hlt
          rw [getElem?_pos s i hsz]
          congr 1
        simp only [execOp, ho, hi, hE, Instr.index, asIntOf, Sem.run_bind, Sem.run_pure, Result.andThen_ok, under_of hu]
        simp [hg]
    · cases h4
  · cases h4

theorem extract_sound {t : Operand} {ix : Nat} (ho : o.op = .extract t ix) (hk : Known ρ fr e o.op.operands.toList) (h : pExtract fr t ix = some v) : PureOk P ρ e o w v := by
  obtain ⟨u, h1, h2⟩ := ob_eq h
  obtain ⟨vs, h3, h4⟩ := ob_eq h2
  obtain ⟨l, h5, h6⟩ := ob_eq h4
  have hx := hk t u (by simp [ho, Op.operands]) h1
  obtain ⟨h7, rfl⟩ := sub_eq h5
  have hv : vs[ix]? = some v := by
    unfold oneV at h6
    split at h6
    · rename_i u hu
      cases h6
      have := congrArg (fun l : List Value => l[0]?) hu
      simpa [List.getElem?_take] using this
    · cases h6
  unfold tuple? at h3
  split at h3
  · cases h3
    generalize hE : e t = y at hx
    cases hx with
    | tuple hs =>
      rename_i l l'
      obtain ⟨v', h8, h9⟩ := hs.get hv
      refine ⟨v', ?_, h9⟩
      have : (⟨l'⟩ : Array Value)[ix]? = some v' := by simpa using h8
      simp [execOp, ho, hE, Instr.extract, this]
    | scal hs => simp [scal] at hs
  · cases h3

end
end Go.Ab
