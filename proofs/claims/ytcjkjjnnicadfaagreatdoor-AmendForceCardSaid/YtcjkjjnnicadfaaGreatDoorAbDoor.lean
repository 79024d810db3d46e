/- From what a run of the abstract machine comes to, to the model's calls; functions that are called on nothing, as summaries. -/
import Derived.Test.YtcjkjjnnicadfaaGreatDoorAbRow
set_option linter.unusedSimpArgs false
set_option linter.unusedVariables false
namespace Go.Ab
open Go
section
variable {P : Program} {base : Env} {G : Nat}

/-- A function without parameters that gives a value without addresses, from an empty memory: what it does elsewhere. -/
theorem closed_sum (hm : P.follows .mixedOrders = true) (hchk : ∀ n c, base.chk n c = codeOk P n G c) (hP : funcsOk P (fun _ => none) G P.funcs.toList 0 = true) {g f : Nat} {v : Value} {σ1 : St} (hv : scal v = true)
    (h : callF P (fun _ => none) (exec P (fun _ => none) f) (.fn g) [] ⟨.nil, G⟩ = some ⟨false, v, σ1⟩) (σ : St) {ρ : Place} {w : World} {N : Nat} (hR : Rel base ρ σ w) (hG : Glob ρ G) : CallOk P base ρ g [] σ w ⟨false, v, σ⟩ := by
  have hH : SumsOk P { base with lo := w.heap.size } G (fun _ => none) := fun g s h => by cases h
  obtain ⟨_, h2⟩ := calls_ok (base := { base with lo := w.heap.size }) hm hchk hP hH f _ _ _ _ h
  let ρ0 : Place := fun b => if b < G then ρ b else none
  have hR0 : Rel { base with lo := w.heap.size } ρ0 ⟨.nil, G⟩ w := by
    refine ⟨fun b _ => rfl, fun b q B _ hB => (by cases hB), fun b q hb => ?_, fun b q B _ hB => (by cases hB), fun b q B b' q' _ hB => (by cases hB), Nat.le_refl _⟩
    change (if b < G then ρ b else none) = some q at hb
    split at hb
    · exact hR.dom b q hb
    · cases hb
  have hG0 : Glob ρ0 G := by
    intro g hg
    obtain ⟨m, h⟩ := hG g hg
    exact ⟨m, by show (if g < G then ρ g else none) = _; rw [if_pos hg]; exact h⟩
  have hF0 : Free ρ0 G σ1.n := fun b hb _ => by show (if b < G then ρ b else none) = none; rw [if_neg (by omega)]
  obtain ⟨fn, k1, k2, k3⟩ := h2 ρ0 w [] σ1.n hR0 hF0 (Nat.le_refl _) hG0 .nil
  refine ⟨fn, k1, k2, ?_⟩
  have hval : ∀ {ρ' : Place} {v' : Value}, VRel ρ' v v' → v' = v := by
    intro ρ' v' hv'
    cases v with
    | bool b => cases hv'; rfl
    | int k n => cases hv'; rfl
    | string s => cases hv'; rfl
    | _ => cases hv' <;> first | rfl | cases hv
  rcases k3 with ⟨k4, k5⟩ | ⟨v', k4, k5, k6, k7⟩
  · refine .inl ⟨k4, k5.mono ?_⟩
    rintro e w' ⟨v', ρ', rfl, q1, q2, q3⟩
    have hsame : ∀ c, c < w.heap.size → w'.heap[c]? = w.heap[c]? := fun c hc => q2.keep c hc fun b q B hb _ hB => (by cases hB)
    have hv' := hval q3
    subst hv'
    refine ⟨v', ρ, rfl, ⟨hR.fresh, fun b q B h1 h2 => (hR.sits b q B h1 h2).mono (Place.le_refl _) (hsame _ (hR.dom b q h1)), fun b q hb => Nat.lt_of_lt_of_le (hR.dom b q hb) q2.size, hR.own, hR.sep, Nat.le_trans hR.low q2.size⟩,
      ⟨fun _ _ => rfl, Nat.le_refl _, q2.size, fun c hc _ => hsame c hc, fun b q B h1 h2 _ => ⟨b, q, B, h1, rfl, h2, fun h => h⟩, q2.out, fun _ _ _ => rfl⟩, .scal hv⟩
  · have := hval k7
    subst this
    exact .inr ⟨v', k4, rfl, rfl, .scal hv⟩

/-- A call of the model, from what the abstract machine's comes to. -/
theorem calls_of_ev (hm : P.follows .mixedOrders = true) {H : Sums} (hchk : ∀ n c, base.chk n c = codeOk P n G c) (hP : funcsOk P H G P.funcs.toList 0 = true) (hH : SumsOk P base G H) {g : Nat} {fn : Func} (hf : P.funcs[g]? = some fn) (hb : fn.body.isSome = true) {vs vs' : List Value} {σ : St} {Q : CR → Prop} {uq : Hd Q}
    (h : Ev (go P H (.fn g) vs σ) Q uq) {ρ : Place} {w : World} (hR : Rel base ρ σ w) (hF : ∀ b, σ.n ≤ b → ρ b = none) (hG : Glob ρ G) (hv : VsRel ρ vs vs') :
    Calls P g ⟨vs'⟩ w fun e w' => ∃ r v' ρ', Q r ∧ e = ended r.pan v' ∧ Rel base ρ' r.σ w' ∧ Fram ρ σ w ρ' r.σ w' ∧ VRel ρ' r.v v' := by
  obtain ⟨r, h1, h2⟩ := h
  obtain ⟨f, h3⟩ := go_some h1
  obtain ⟨_, h4⟩ := calls_ok (base := base) hm hchk hP hH f _ _ _ _ h3
  obtain ⟨fn', k1, k2, k3⟩ := h4 ρ w vs' r.σ.n hR (fun b hb _ => hF b hb) (Nat.le_refl _) hG hv
  rw [hf] at k1; cases k1
  rcases k3 with ⟨_, k5⟩ | ⟨v', k4, k5, k6, k7⟩
  · exact k5.mono fun e w' ⟨v', ρ', q0, q1, q2, q3⟩ => ⟨r, v', ρ', h2, q0, q1, q2, q3⟩
  · exfalso
    have hn0 : fn.body.isNone = false := by cases hb' : fn.body with | none => rw [hb'] at hb; cases hb | some c => rfl
    simp only [callFunc, Sem.run_bind, run_program, Result.andThen_ok, hf, k2, hn0, Bool.false_eq_true, if_false, Sem.run_pure] at k4
    cases k4

theorem funcsOk_sums {H : Sums} : ∀ {l : List Func} {k : Nat}, funcsOk P (fun _ => none) G l k = true → funcsOk P H G l k = true := by
  intro l
  induction l with
  | nil => intro k _; rfl
  | cons fn l ih =>
    intro k h
    obtain ⟨h1, h2⟩ := bi_false_eq (show bi (funcOk P G fn) (funcsOk P (fun _ => none) G l (k + 1)) false = true from h)
    show bi (bi (H k).isSome true (funcOk P G fn)) (funcsOk P H G l (k + 1)) false = true
    rw [h1, ih h2]
    cases (H k).isSome <;> rfl

/-- Where the package-level variables lie. -/
def gplace (G : Nat) : Place := fun b => if b < G then some ⟨b, 0, 0⟩ else none
theorem gplace_glob (G : Nat) : Glob (gplace G) G := fun g hg => ⟨0, by unfold gplace; rw [if_pos hg]⟩
theorem gplace_rel {w : World} (hG : G ≤ w.heap.size) (hb : base.lo = w.heap.size) : Rel base (gplace G) ⟨.nil, G⟩ w := by
  refine ⟨fun b _ => rfl, fun b q B _ hB => (by cases hB), fun b q hb => ?_, fun b q B _ hB => (by cases hB), fun b q B b' q' _ hB => (by cases hB), by omega⟩
  unfold gplace at hb
  split at hb
  · cases hb; show b < _; omega
  · cases hb
/-- A row that came in, that is only read. -/
noncomputable def St.arg (σ : St) (cells : List Value) : St := ⟨σ.h.set σ.n ⟨cells, true, false, 0, .row⟩, σ.n + 1⟩
theorem arg_get (σ : St) (cells : List Value) (b : Nat) : (σ.arg cells).h.get b = if b = σ.n then some ⟨cells, true, false, 0, .row⟩ else σ.h.get b := Tr.get_set _ _ _ _
theorem arg_n (σ : St) (cells : List Value) : (σ.arg cells).n = σ.n + 1 := rfl
theorem arg_row (σ : St) (cells : List Value) : (σ.arg cells).row σ.n = some cells := by
  show ob (ob (ob ((σ.arg cells).h.get σ.n) _) _) _ = _
  rw [arg_get, if_pos rfl]; rfl
theorem arg_row_ne (σ : St) (cells : List Value) {b : Nat} (h : b ≠ σ.n) : (σ.arg cells).row b = σ.row b := row_congr (by rw [arg_get, if_neg h])
/-- No block may be written. -/
def NoOwn (σ : St) : Prop := ∀ b B, σ.blk b = some B → B.own = false
theorem noOwn_nil (n : Nat) : NoOwn ⟨.nil, n⟩ := fun b B h => by cases h
theorem NoOwn.arg {σ : St} (h : NoOwn σ) (cells : List Value) : NoOwn (σ.arg cells) := by
  intro b B hb
  obtain ⟨h1, h2⟩ := blk_get hb
  rw [arg_get] at h1
  split at h1
  · cases h1; rfl
  · exact h b B (blk_of h1 h2)
theorem rel_arg {ρ : Place} {σ : St} {w : World} (hR : Rel base ρ σ w) (hN : NoOwn σ) (hF : ∀ b, σ.n ≤ b → ρ b = none) {c o m : Nat} {cells : List Value} {arr : Array Value} {e : TypeId} {f : Nat × Nat} (hh : w.heap[c]? = some (.cells arr e f)) (hm : m = arr.size) (ho : o + cells.length ≤ arr.size)
    (hlo : c < base.lo) (hc : ∀ v ∈ cells, isCell v = true) (hv : ∀ (i : Nat) (v : Value), cells[i]? = some v → ∃ v', arr[o + i]? = some v' ∧ VRel ρ v v') : Rel base (ρ.put σ.n ⟨c, o, m⟩) (σ.arg cells) w := by
  have hle : ρ.le (ρ.put σ.n ⟨c, o, m⟩) := Place.put_le _ (hF _ (Nat.le_refl _))
  subst hm
  have hcw : c < w.heap.size := by
    rcases Nat.lt_or_ge c w.heap.size with h | h
    · exact h
    · rw [Array.getElem?_eq_none h] at hh; cases hh
  refine ⟨fun b hb => ?_, fun b q B hb hB => ?_, fun b q hb => ?_, fun b q B _ hB ho => ?_, fun b q B b' q' _ hB ho => ?_, hR.low⟩
  · rw [arg_get, if_neg (by rw [arg_n] at hb; omega)]
    exact hR.fresh b (by rw [arg_n] at hb; omega)
  · by_cases hbn : b = σ.n
    · subst hbn
      rw [Place.put_same] at hb; cases hb
      obtain ⟨h1, _⟩ := blk_get hB
      rw [arg_get, if_pos rfl] at h1
      cases h1
      obtain ⟨lo, hi⟩ := f
      refine .row rfl ⟨arr, e, lo, hi, hh, rfl, ho, fun h => absurd h (by show ¬ base.lo ≤ c; omega), hc, fun i v hi' => ?_⟩
      obtain ⟨v', h1, h2⟩ := hv i v hi'
      exact ⟨v', h1, h2.mono hle⟩
    · rw [Place.put_ne _ _ hbn] at hb
      obtain ⟨h1, h2⟩ := blk_get hB
      rw [arg_get, if_neg hbn] at h1
      exact (hR.sits b q B hb (blk_of h1 h2)).mono hle rfl
  · by_cases hbn : b = σ.n
    · subst hbn
      rw [Place.put_same] at hb; cases hb
      exact hcw
    · rw [Place.put_ne _ _ hbn] at hb
      exact hR.dom b q hb
  · rw [hN.arg cells b B hB] at ho; cases ho
  · rw [hN.arg cells b B hB] at ho; cases ho
theorem put_free {ρ : Place} {σ : St} {cells : List Value} {q : Spot} (hF : ∀ b, σ.n ≤ b → ρ b = none) : ∀ b, (σ.arg cells).n ≤ b → (ρ.put σ.n q) b = none := by
  intro b hb
  rw [arg_n] at hb
  rw [Place.put_ne _ _ (by omega)]
  exact hF b (by omega)
theorem gplace_free (G : Nat) : ∀ b, (⟨.nil, G⟩ : St).n ≤ b → gplace G b = none := by
  intro b hb
  unfold gplace
  rw [if_neg (by have : G ≤ b := hb; omega)]
/-- The row behind a cell's address. -/
theorem cell_row {w : World} {x : Addr} {v : Value} (h : w.cell? x = some v) : ∃ arr e f, w.heap[x.block]? = some (.cells arr e f) ∧ x.spot = none ∧ arr[x.off]? = some v := by
  unfold World.cell? at h
  split at h
  · rename_i c e f hh
    split at h
    · cases h
    · rename_i hs
      refine ⟨c, e, f, hh, ?_, h⟩
      cases hx : x.spot with
      | none => rfl
      | some s => rw [hx] at hs; exact absurd rfl hs
  · cases h
theorem cell_add {w : World} {x : Addr} {v : Value} {i : Nat} {arr : Array Value} {e : TypeId} {f : Nat × Nat} (hh : w.heap[x.block]? = some (.cells arr e f)) (h : w.cell? (x.add i) = some v) : arr[x.off + i]? = some v := by
  have hb : (x.add i).block = x.block := by unfold Addr.add; split <;> rfl
  have ho : (x.add i).off = x.off + i := by unfold Addr.add; split <;> simp_all
  obtain ⟨arr', e', f', h1, _, h2⟩ := cell_row h
  rw [hb, hh] at h1
  cases h1
  rw [ho] at h2
  exact h2
end
end Go.Ab
