/- What the operations on values alone give: the abstract machine's results stand to the model's. -/
import Derived.Test.YtcjkjjnnicadfaaGreatDoorAbMem
import Derived.Laws.Strings
set_option linter.unusedSimpArgs false
set_option linter.unusedVariables false
namespace Go.Ab
open Go

theorem pureRun_sound {α : Type} {P : Program} (s : Sem α) : ∀ {a : α}, pureRun P s = some a → ∀ w, s.run P w = .ok a w := by
  induction s with
  | pure a => intro b h w; cases h; rfl
  | program k ih => intro b h w; exact ih P h w
  | mark m k ih => intro b h w; exact ih h w
  | _ => intro b h; cases h

/-- The operands of an operation are known on both sides. -/
def Known (ρ : Place) (fr : Fr) (ev' : Operand → Value) (l : List Operand) : Prop := ∀ x v, x ∈ l → ev fr x = some v → VRel ρ v (ev' x)
theorem Known.sub {ρ : Place} {fr : Fr} {e : Operand → Value} {l k : List Operand} (h : Known ρ fr e l) (hs : ∀ x, x ∈ k → x ∈ l) : Known ρ fr e k := fun x v hx hv => h x v (hs x hx) hv
theorem Known.evs {ρ : Place} {fr : Fr} {e : Operand → Value} : ∀ {l : List Operand} {vs : List Value}, Known ρ fr e l → Ab.evs fr l = some vs → VsRel ρ vs (l.map e) := by
  intro l
  induction l with
  | nil => intro vs _ h; cases h; exact .nil
  | cons x l ih =>
    intro vs hk h
    obtain ⟨v, h1, h2⟩ := ob_eq (show ob (ev fr x) (fun v => ob (Ab.evs fr l) fun vs => some (v :: vs)) = some vs from h)
    obtain ⟨us, h3, h4⟩ := ob_eq h2
    cases h4
    exact .cons (hk x v (by simp) h1) (ih (hk.sub fun y hy => by simp [hy]) h3)

section
variable {P : Program} {ρ : Place} {fr : Fr} {e : Operand → Value} {o : Oper} {w : World} {v : Value}

/-- What is to be shown of an operation on values alone. -/
def PureOk (P : Program) (ρ : Place) (e : Operand → Value) (o : Oper) (w : World) (v : Value) : Prop := ∃ v', (execOp e o).run P w = .ok (.value v') w ∧ VRel ρ v v'

theorem asInt_rel {v v' : Value} {n : Nat} (h : VRel ρ v v') (hn : nat? v = some n) : ∃ k, v' = .int k (Int.ofNat n) := by
  cases v with
  | int k m =>
    cases m with
    | ofNat m => cases hn; cases h; exact ⟨k, rfl⟩
    | negSucc m => cases hn
  | _ => cases hn
theorem evN_rel {x : Operand} {n : Nat} {l : List Operand} (hk : Known ρ fr e l) (hx : x ∈ l) (h : evN fr x = some n) : ∃ k, e x = .int k (Int.ofNat n) := by
  obtain ⟨v, h1, h2⟩ := ob_eq h
  exact asInt_rel (hk x v hx h1) h2
theorem at_rel {v v' : Value} {b off : Nat} (h : VRel ρ v v') (hb : at? v = some (b, off)) : ∃ q, ρ b = some q ∧ v' = .pointer (some ⟨q.c, q.o + off, none⟩) := by
  unfold at? at hb
  split at hb
  · cases hb
    cases h with
    | ptr hq => exact ⟨_, hq, rfl⟩
    | scal h => simp [scal] at h
  · cases hb

theorem size_of {t : TypeId} {n : Nat} (h : size? P t = some n) (w : World) : (sizeOf t).run P w = .ok n w := by
  unfold size? at h
  split at h
  · rename_i i hi
    cases h
    simp [sizeOf, typeInfo, hi]
  · cases h
theorem info_of {t : TypeId} {i : TypeInfo} (h : P.info? t = some i) (w : World) : (typeInfo t).run P w = .ok i w := by simp [typeInfo, h]
theorem under_of {t : TypeId} {d : TypeDesc} (h : P.underlying t = some d) (w : World) : (underlying t).run P w = .ok d w := by simp [underlying, h]
theorem agg_of {t : TypeId} {g : Bool} (h : isAgg? P t = some g) (w : World) : (isAgg t).run P w = .ok g w := by
  unfold isAgg? at h
  split at h
  · rename_i d hd
    cases h
    simp only [isAgg, Sem.run_bind, under_of hd, Result.andThen_ok]
    cases d <;> rfl
  · cases h
theorem elem_of {t e : TypeId} (h : elem? P t = some e) : P.underlying t = some (.slice e) := by
  unfold elem? at h
  split at h
  · cases h; assumption
  · cases h
theorem zero_of {t : TypeId} {z : Value} (h : zero? P t = some z) (w : World) : (zeroValue t).run P w = .ok z w ∧ VRel ρ z z ∧ ∃ i, P.info? t = some i ∧ i.zero = some z := by
  obtain ⟨i, h1, h2⟩ := ob_eq h
  obtain ⟨z', h3, h4⟩ := ob_eq h2
  obtain ⟨h5, h6⟩ := VRel.cst (ρ := ρ) h4
  subst h5
  exact ⟨by simp [zeroValue, typeInfo, h1, h3], h6, i, h1, h3⟩

theorem part_rel {t : TypeId} {cs cs' : List Value} {off : Nat} (hr : VsRel ρ cs cs') (hc : ∀ v ∈ cs, isCell v = true) (h : partV P t cs off = some v) :
    ∃ v', (part t ⟨cs'⟩ off).run P w = .ok v' w ∧ VRel ρ v v' := by
  obtain ⟨g, h1, h2⟩ := ob_eq h
  have hg := agg_of h1 w
  cases g with
  | true =>
    obtain ⟨n, h3, h4⟩ := ob_eq (show ob (size? P t) _ = some v from h2)
    obtain ⟨l, h5, h6⟩ := ob_eq h4
    cases h6
    obtain ⟨h7, rfl⟩ := sub_eq h5
    refine ⟨.agg ((⟨cs'⟩ : Array Value).extract off (off + n)), ?_, ?_⟩
    · simp only [part, Sem.run_bind, hg, Result.andThen_ok, if_true, size_of h3, Sem.run_pure]
    · have hx : (⟨cs'⟩ : Array Value).extract off (off + n) = ⟨(cs'.drop off).take n⟩ := by
        rw [← Array.toList_inj, Array.toList_extract, List.extract_eq_take_drop]
        simp
      rw [hx]
      exact .agg (fun u hu => hc u (List.mem_of_mem_drop (List.mem_of_mem_take hu))) ((hr.drop off).take n)
  | false =>
    obtain ⟨l, h3, h4⟩ := ob_eq (show ob (sub cs off 1) _ = some v from h2)
    obtain ⟨h7, rfl⟩ := sub_eq h3
    have hv : cs[off]? = some v := by
      unfold oneV at h4
      split at h4
      · rename_i u hu
        cases h4
        have := congrArg (fun l : List Value => l[0]?) hu
        simpa [List.getElem?_take] using this
      · cases h4
    obtain ⟨v', h8, h9⟩ := hr.get hv
    refine ⟨v', ?_, h9⟩
    have h8' : (⟨cs'⟩ : Array Value)[off]? = some v' := by simpa using h8
    simp only [part, Sem.run_bind, hg, Result.andThen_ok, Bool.false_eq_true, if_false, h8', Sem.run_pure]

theorem flatV_sound (hk : Known ρ fr e o.op.operands.toList) (hs : ∀ cs b, o.op ≠ .select cs b) (hf : ∀ x ∈ o.op.operands.toList, ∃ u, ev fr x = some u ∧ flat u = true)
    (h : flatV P fr o = some v) : PureOk P ρ e o w v := by
  obtain ⟨u, h1, h2⟩ := ob_eq h
  obtain ⟨h3, h4⟩ := VRel.cst (ρ := ρ) h2
  subst h3
  have hc : execOp (fun x => (ev fr x).getD undefV) o = execOp e o := by
    apply execOp_congr o hs
    intro x hx
    obtain ⟨u, h5, h6⟩ := hf x (by simpa using hx)
    rw [h5]
    exact ((hk x u (by simpa using hx) h5).flat h6).symm
  rw [hc] at h1
  unfold nextV at h1
  split at h1
  · rename_i v0 hv0
    cases h1
    exact ⟨_, pureRun_sound _ hv0 w, h4⟩
  · cases h1

theorem ilt_iff (a b : Int) : ilt a b = decide (a < b) := by
  rw [Bool.eq_iff_iff, decide_eq_true_iff]
  cases a with
  | ofNat a =>
    cases b with
    | ofNat b => show Nat.blt a b = true ↔ _; rw [Nat.blt_eq]; simp only [Int.ofNat_eq_natCast]; omega
    | negSucc b => show false = true ↔ _; simp only [Int.ofNat_eq_natCast]; constructor <;> intro h <;> first | cases h | omega
  | negSucc a =>
    cases b with
    | ofNat b => exact ⟨fun _ => by rw [Int.negSucc_eq, Int.ofNat_eq_natCast]; omega, fun _ => rfl⟩
    | negSucc b => show Nat.blt b a = true ↔ _; rw [Nat.blt_eq]; simp only [Int.negSucc_eq]; omega
theorem ieq_iff (a b : Int) : ieq a b = (a == b) := by
  rw [Bool.eq_iff_iff, beq_iff_eq]
  cases a with
  | ofNat a =>
    cases b with
    | ofNat b => show Nat.beq a b = true ↔ _; rw [Nat.beq_eq]; simp only [Int.ofNat_eq_natCast]; omega
    | negSucc b => show false = true ↔ _; simp only [Int.ofNat_eq_natCast]; constructor <;> intro h <;> first | cases h | omega
  | negSucc a =>
    cases b with
    | ofNat b => show false = true ↔ _; simp only [Int.ofNat_eq_natCast]; constructor <;> intro h <;> first | cases h | omega
    | negSucc b => show Nat.beq a b = true ↔ _; rw [Nat.beq_eq]; omega
theorem p64 : (2 : Int) ^ 64 = 18446744073709551616 := by decide
theorem p63 : (2 : Int) ^ 63 = 9223372036854775808 := by decide
theorem p8 : (2 : Int) ^ 8 = 256 := by decide
theorem wrap_i64 (n : Int) : IntKind.i64.wrap n = if n % 18446744073709551616 ≥ 9223372036854775808 then n % 18446744073709551616 - 18446744073709551616 else n % 18446744073709551616 := by
  show (if (true && decide (n % (2 ^ 64 : Int) ≥ (2 ^ 63 : Int))) = true then n % (2 ^ 64 : Int) - (2 ^ 64 : Int) else n % (2 ^ 64 : Int)) = _
  rw [p64, p63, Bool.true_and]
  simp only [decide_eq_true_eq]
theorem wrap_u64 (n : Int) : IntKind.u64.wrap n = n % 18446744073709551616 := by
  show (if (false && decide (n % (2 ^ 64 : Int) ≥ (2 ^ 63 : Int))) = true then n % (2 ^ 64 : Int) - (2 ^ 64 : Int) else n % (2 ^ 64 : Int)) = _
  rw [p64, Bool.false_and, if_neg (by simp)]
theorem wrap_u8 (n : Int) : IntKind.u8.wrap n = n % 256 := by
  show (if (false && decide (n % (2 ^ 8 : Int) ≥ (2 ^ 7 : Int))) = true then n % (2 ^ 8 : Int) - (2 ^ 8 : Int) else n % (2 ^ 8 : Int)) = _
  rw [p8, Bool.false_and, if_neg (by simp)]
theorem inR_wrap {k : IntKind} {n : Int} (h : inR k n = true) : k.wrap n = n := by
  unfold inR at h
  split at h
  · rw [Nat.blt_eq] at h; rw [wrap_i64]; simp only [Int.ofNat_eq_natCast]; split <;> omega
  · rw [Nat.blt_eq] at h; rw [wrap_i64]; split <;> omega
  · rw [Nat.blt_eq] at h; rw [wrap_u8]; simp only [Int.ofNat_eq_natCast]; omega
  · rw [Nat.blt_eq] at h; rw [wrap_u64]; simp only [Int.ofNat_eq_natCast]; omega
  · cases h
theorem wrapF_eq (k : IntKind) (n : Int) : wrapF k n = k.wrap n := by
  unfold wrapF
  cases h : inR k n with
  | true => rw [inR_wrap h]; rfl
  | false => rfl
theorem keq_eq {a b : IntKind} (h : keq a b = true) : a = b := by
  cases a <;> cases b <;> first | rfl | (simp [keq, IntKind.ctorIdx] at h)
theorem beqL_iff : ∀ (a b : List UInt8), beqL a b = (a == b) := by
  intro a
  induction a with
  | nil => intro b; cases b <;> rfl
  | cons x a ih =>
    intro b
    cases b with
    | nil => rfl
    | cons y b =>
      show bi (Nat.beq x.toNat y.toNat) (beqL a b) false = _
      rw [ih]
      by_cases hxy : x = y
      · subst hxy; simp
      · have : Nat.beq x.toNat y.toNat = false := by
          rw [Bool.eq_false_iff]
          intro hb
          exact hxy (UInt8.toNat_inj.1 (Nat.eq_of_beq_eq_true hb))
        rw [this]
        simp [hxy]

theorem bi_not (c : Bool) : bi c false true = !c := by cases c <;> rfl

theorem fast_sound {op : BinOp} {x y : Value} {t yt : TypeId} {xo yo : Operand} (ho : o.op = .binOp op t xo yo yt) (h : fastV op x y = some v) (hx : e xo = x) (hy : e yo = y) : PureOk P ρ e o w v := by
  unfold fastV at h
  split at h
  · rename_i k a
    split at h
    · rename_i k' b
      obtain ⟨h1, h2⟩ := bb_eq h
      have hkk := keq_eq h1
      subst hkk
      have hg : (eqGuard op t xo yo (.int k a) (.int k b)).run P w = .ok () w := by
        unfold eqGuard
        cases op <;> rfl
      suffices hb : ∃ v', (binOp op t (.int k a) (.int k b)).run P w = .ok v' w ∧ VRel ρ v v' by
        obtain ⟨v', h3, h4⟩ := hb
        refine ⟨v', ?_, h4⟩
        simp only [execOp, ho, hx, hy, Sem.run_bind, hg, Result.andThen_ok, h3, Sem.run_pure]
      cases op <;> first
        | (cases h2; done)
        | (cases h2; refine ⟨_, ?_, .scal rfl⟩; simp [binOp, Op.intArith, Op.intCmp, wrapF_eq, ilt_iff, ieq_iff, bi_not]; done)
        | (cases h2; refine ⟨_, ?_, .scal rfl⟩; simp [binOp, Op.intArith, Op.intCmp, wrapF_eq, ilt_iff, ieq_iff, bi_not]; rw [Bool.eq_iff_iff]; simp; done)
    · cases h
  · rename_i a
    split at h
    · rename_i b
      have hg : (eqGuard op t xo yo (.string a) (.string b)).run P w = .ok () w := by
        unfold eqGuard
        cases op <;> rfl
      suffices hb : ∃ v', (binOp op t (.string a) (.string b)).run P w = .ok v' w ∧ VRel ρ v v' by
        obtain ⟨v', h3, h4⟩ := hb
        refine ⟨v', ?_, h4⟩
        simp only [execOp, ho, hx, hy, Sem.run_bind, hg, Result.andThen_ok, h3, Sem.run_pure]
      cases op <;> first
        | (cases h; done)
        | (cases h; refine ⟨_, ?_, .scal rfl⟩; simp [binOp, Op.stringOp, beqL_iff, ByteArray.toList_eq, bi_not]; done)
        | skip
      obtain ⟨h1, h2⟩ := bb_eq (show bb _ _ = some v from h)
      cases h2
      refine ⟨_, ?_, .scal rfl⟩
      have hle := Nat.le_of_ble_eq_true h1
      have : ¬ ((a.size + b.size : Nat) : Int) > IntKind.i64.max := by
        have e1 : a.size = a.data.toList.length := Array.length_toList.symm
        have e2 : b.size = b.data.toList.length := Array.length_toList.symm
        have e3 : IntKind.i64.max = 9223372036854775807 := by decide
        rw [e1, e2, e3]
        unfold room at hle
        omega
      have hab : (⟨(a.data.toList ++ b.data.toList).toArray⟩ : ByteArray) = a ++ b := by
        apply ByteArray.ext
        simp [ByteArray.data_append]
      simp only [binOp, Op.stringOp, this, if_false, Sem.run_pure, hab]
    · cases h
  · cases h

end
end Go.Ab
