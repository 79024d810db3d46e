/- Frames, and the checks that are made once on a program's text. -/
import Derived.Test.YtcjkjjnnicadfaaGreatDoorAbStep
set_option linter.unusedSimpArgs false
set_option linter.unusedVariables false
namespace Go.Ab
open Go

/-- The frame of the abstract machine stands to the model's. -/
def FRel (ρ : Place) (fr : Fr) (a : Act) : Prop := ∀ t v, fr.get t = some v → ∃ v', a.tmps[t]? = some v' ∧ VRel ρ v v'
theorem FRel.mono {ρ ρ' : Place} {fr : Fr} {a : Act} (hm : ρ.le ρ') (h : FRel ρ fr a) : FRel ρ' fr a := fun t v ht => let ⟨v', h1, h2⟩ := h t v ht; ⟨v', h1, h2.mono hm⟩
theorem putV_some (fr : Fr) (d : Tmp) (v : Value) : putV fr (some d) v = fr.set d v := rfl
theorem putV_none (fr : Fr) (v : Value) : putV fr none v = fr := rfl
theorem put_size (a : Act) (d : Option Tmp) (v : Value) : (a.put d v).tmps.size = a.tmps.size := by cases d <;> simp [Act.put]
theorem put_defers (a : Act) (d : Option Tmp) (v : Value) : (a.put d v).defers = a.defers := by cases d <;> rfl
theorem FRel.put {ρ : Place} {fr : Fr} {a : Act} (h : FRel ρ fr a) {d : Option Tmp} {v v' : Value} (hv : VRel ρ v v') (hd : ∀ t, d = some t → t < a.tmps.size) : FRel ρ (putV fr d v) (a.put d v') := by
  intro t u ht
  cases d with
  | none => exact h t u ht
  | some d =>
    rw [putV_some, Tr.get_set] at ht
    show ∃ v'', (a.tmps.setIfInBounds d v')[t]? = some v'' ∧ _
    by_cases htd : t = d
    · subst htd
      rw [if_pos rfl] at ht
      cases ht
      exact ⟨v', by rw [Array.getElem?_setIfInBounds_self_of_lt (hd _ rfl)], hv⟩
    · rw [if_neg htd] at ht
      obtain ⟨v'', h1, h2⟩ := h t u ht
      exact ⟨v'', by rw [Array.getElem?_setIfInBounds_ne (fun h => htd h.symm)]; exact h1, h2⟩

def opndOk (G : Nat) (x : Operand) : Bool := match x with
  | .global g => Nat.blt g G
  | _ => true
def dstOk (n : Nat) (d : Option Tmp) : Bool := match d with
  | some d => Nat.blt d n
  | none => true
def operOk (_P : Program) (n G : Nat) (o : Oper) : Bool := dstOk n o.dst && o.op.operands.toList.all (opndOk G)

theorem ev_rel {ρ : Place} {fr : Fr} {a : Act} {G : Nat} (hG : Glob ρ G) {x : Operand} {v : Value} (hx : opndOk G x = true) (ht : ∀ t, x = .tmp t → ∀ v, fr.get t = some v → ∃ v', a.tmps[t]? = some v' ∧ VRel ρ v v')
    (h : ev fr x = some v) : VRel ρ v (a.eval x) := by
  cases x with
  | tmp t =>
    obtain ⟨v', h1, h2⟩ := ht t rfl v h
    show VRel ρ v (a.tmps.getD t undef)
    rw [Array.getD_eq_getD_getElem?, h1]
    exact h2
  | const u =>
    obtain ⟨h1, h2⟩ := VRel.cst (ρ := ρ) (show cst u = some v from h)
    subst h1
    exact h2
  | global g =>
    cases h
    obtain ⟨m, hm⟩ := hG g (by have : Nat.blt g G = true := hx; rwa [Nat.blt_eq] at this)
    exact .ptr (off := 0) hm
  | func f => cases h; exact .func rfl .nil .nil
theorem known_of {ρ : Place} {fr : Fr} {a : Act} {G : Nat} {P : Program} {n : Nat} {o : Oper} (hG : Glob ρ G) (ho : operOk P n G o = true)
    (ht : ∀ t, .tmp t ∈ o.op.operands.toList → ∀ v, fr.get t = some v → ∃ v', a.tmps[t]? = some v' ∧ VRel ρ v v') : Known ρ fr a.eval o.op.operands.toList := by
  intro x v hx h
  unfold operOk at ho
  rw [Bool.and_eq_true, List.all_eq_true] at ho
  exact ev_rel hG (ho.2 x hx) (fun t he => by subst he; exact ht t hx) h
theorem dst_of {P : Program} {n G : Nat} {o : Oper} (ho : operOk P n G o = true) : ∀ t, o.dst = some t → t < n := by
  intro t ht
  unfold operOk at ho
  rw [Bool.and_eq_true, ht] at ho
  have : Nat.blt t n = true := ho.1
  rwa [Nat.blt_eq] at this

theorem wants_rel {ρ : Place} {fr : Fr} {a : Act} {all : Array Oper} {o : Oper} {c : Bool} (h : wantsV all fr o = some c)
    (ht : ∀ j want t, o.guard = some (j, want) → dstOf all j = some t → ∀ v, fr.get t = some v → ∃ v', a.tmps[t]? = some v' ∧ VRel ρ v v') : Region.wanted o (yielded all a.tmps) = c := by
  unfold Region.wanted
  cases hg : o.guard with
  | none =>
    unfold wantsV at h
    rw [hg] at h
    cases h
    rfl
  | some g =>
    obtain ⟨j, want⟩ := g
    unfold wantsV at h
    rw [hg] at h
    change (Option.rec (motive := fun _ => Option Bool) (some false) (fun d => ob (fr.get d) fun v => some (yieldOf want v)) (dstOf all j) : Option Bool) = some c at h
    have hd : (all[j]?).bind (·.dst) = dstOf all j := by
      unfold dstOf
      cases all[j]? <;> rfl
    show (yielded all a.tmps j == some want) = c
    unfold yielded
    rw [hd]
    cases hdj : dstOf all j with
    | none =>
      rw [hdj] at h
      cases h
      rfl
    | some d =>
      rw [hdj] at h
      obtain ⟨v, h1, h2⟩ := ob_eq (show ob (fr.get d) (fun v => some (yieldOf want v)) = some c from h)
      obtain ⟨v', h3, h4⟩ := ht j want d hg hdj v h1
      cases h2
      show ((match ((some d).bind fun x => a.tmps[x]?) with | some (.bool b) => some b | _ => none) == some want) = _
      rw [show ((some d).bind fun x => a.tmps[x]?) = some v' from h3]
      cases h4 with
      | scal hs => cases v <;> first | rfl | (rename_i b; cases b <;> cases want <;> rfl)
      | _ => rfl

/- What is known before: the paths of a region's order. -/
theorem inner_bits (acc : Array Nat) (i : Nat) : ∀ (l : List Edge) (s : Nat), Nat.testBit (l.foldl (fun s e => if Region.binds .any e then s ||| 2 ^ e.on ||| acc.getD e.on 0 else s) s) i = true →
    Nat.testBit s i = true ∨ ∃ e ∈ l, Region.binds .any e = true ∧ (e.on = i ∨ Nat.testBit (acc.getD e.on 0) i = true) := by
  intro l
  induction l with
  | nil => intro s h; exact .inl h
  | cons e l ih =>
    intro s h
    rw [List.foldl_cons] at h
    rcases ih _ h with h1 | ⟨e', h1, h2, h3⟩
    · by_cases hb : Region.binds .any e = true
      · rw [if_pos hb, Nat.testBit_or, Nat.testBit_or, Bool.or_eq_true, Bool.or_eq_true] at h1
        rcases h1 with (h1 | h1) | h1
        · exact .inl h1
        · refine .inr ⟨e, by simp, hb, .inl ?_⟩
          rw [Nat.testBit_two_pow] at h1
          exact of_decide_eq_true h1
        · exact .inr ⟨e, by simp, hb, .inr h1⟩
      · rw [if_neg hb] at h1; exact .inl h1
    · exact .inr ⟨e', by simp [h1], h2, h3⟩
def befStep (acc : Array Nat) (o : Oper) : Array Nat := acc.push (o.after.foldl (fun s e => if Region.binds .any e then s ||| 2 ^ e.on ||| acc.getD e.on 0 else s) 0)
theorem before_list : ∀ (l : List Oper) (acc : Array Nat),
    (∀ k, k < acc.size → (l.foldl befStep acc).getD k 0 = acc.getD k 0) ∧
    ∀ t o i, l[t]? = some o → Nat.testBit ((l.foldl befStep acc).getD (acc.size + t) 0) i = true →
      ∃ e ∈ o.after, Region.binds .any e = true ∧ (e.on = i ∨ (e.on < acc.size + t ∧ Nat.testBit ((l.foldl befStep acc).getD e.on 0) i = true)) := by
  intro l
  induction l with
  | nil => intro acc; exact ⟨fun _ _ => rfl, fun t o i h => by simp at h⟩
  | cons o l ih =>
    intro acc
    obtain ⟨h1, h2⟩ := ih (befStep acc o)
    have hsz : (befStep acc o).size = acc.size + 1 := by simp [befStep]
    have hpre : ∀ k, k < acc.size → (befStep acc o).getD k 0 = acc.getD k 0 := by
      intro k hk
      unfold befStep
      rw [Array.getD_eq_getD_getElem?, Array.getD_eq_getD_getElem?, Array.getElem?_push, if_neg (by omega)]
    have hnew : (befStep acc o).getD acc.size 0 = o.after.foldl (fun s e => if Region.binds .any e then s ||| 2 ^ e.on ||| acc.getD e.on 0 else s) 0 := by
      unfold befStep
      rw [Array.getD_eq_getD_getElem?, Array.getElem?_push, if_pos rfl]
      rfl
    refine ⟨fun k hk => ?_, fun t o' i ht hb => ?_⟩
    · rw [List.foldl_cons, h1 k (by omega), hpre k hk]
    · rw [List.foldl_cons] at hb ⊢
      cases t with
      | zero =>
        simp at ht
        subst ht
        rw [Nat.add_zero, h1 acc.size (by omega), hnew, ← Array.foldl_toList] at hb
        rcases inner_bits acc i _ _ hb with h3 | ⟨e, h3, h4, h5⟩
        · simp at h3
        · refine ⟨e, by simpa using h3, h4, ?_⟩
          rcases h5 with h5 | h5
          · exact .inl h5
          · have hlt : e.on < acc.size := by
              rcases Nat.lt_or_ge e.on acc.size with hh | hh
              · exact hh
              · rw [Array.getD_eq_getD_getElem?, Array.getElem?_eq_none hh] at h5
                simp at h5
            exact .inr ⟨by omega, by rw [h1 e.on (by omega), hpre e.on hlt]; exact h5⟩
      | succ t =>
        have := h2 t o' i (by simpa using ht) (by rw [hsz, show acc.size + 1 + t = acc.size + (t + 1) from by omega]; exact hb)
        rw [hsz, show acc.size + 1 + t = acc.size + (t + 1) from by omega] at this
        exact this
/-- One operation comes before another on some path. -/
def Bef (os : Array Oper) (i j : Nat) : Prop := Nat.testBit ((Region.before os).toList.getD j 0) i = true
theorem before_spec {os : Array Oper} {i j : Nat} {o : Oper} (ho : os[j]? = some o) (h : Bef os i j) : ∃ e ∈ o.after, Region.binds .any e = true ∧ (e.on = i ∨ (e.on < j ∧ Bef os i e.on)) := by
  have hb : Region.before os = os.toList.foldl befStep #[] := by
    unfold Region.before
    rw [← Array.foldl_toList]
    rfl
  have hd : ∀ k, (Region.before os).toList.getD k 0 = (os.toList.foldl befStep #[]).getD k 0 := by
    intro k
    rw [hb, Array.getD_eq_getD_getElem?, List.getD_eq_getElem?_getD, Array.getElem?_toList]
  unfold Bef at h ⊢
  rw [hd] at h
  obtain ⟨_, h2⟩ := before_list os.toList #[]
  obtain ⟨e, h3, h4, h5⟩ := h2 j o i (by simpa using ho) (by simpa using h)
  refine ⟨e, h3, h4, ?_⟩
  rcases h5 with h5 | ⟨h5, h6⟩
  · exact .inl h5
  · exact .inr ⟨by simpa using h5, by rw [hd]; exact h6⟩

end Go.Ab
