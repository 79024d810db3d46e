/- The functions that a function comes to, reckoned with a set of bits; checks over a range, part by part. -/
import GoSem.ClaimJoined
import Derived.KernelRfl
set_option linter.unusedSimpArgs false
set_option linter.unusedVariables false
namespace Go.Ab
open Go
noncomputable def closB (P : Program) (n : Nat) : List Nat → List Nat → Nat → Option (List Nat) :=
  Nat.rec (motive := fun _ => List Nat → List Nat → Nat → Option (List Nat)) (fun _ _ _ => none)
    (fun _ ih todo seen bits => List.rec (motive := fun _ => Option (List Nat)) (some seen.reverse)
      (fun f rest _ => Bool.rec (motive := fun _ => Option (List Nat)) (ih ((P.funcs[f]?).elim [] P.leadsTo ++ rest) (f :: seen) (bits ||| 2 ^ f)) (ih rest seen bits) (bits.testBit f)) todo) n
theorem closB_ok {P : Program} : ∀ (n : Nat) (todo seen : List Nat) (bits : Nat) (L : List Nat), (∀ f, seen.contains f = bits.testBit f) → closB P n todo seen bits = some L → ∀ m, n ≤ m → P.closureVia m todo seen = L := by
  intro n
  induction n with
  | zero => intro todo seen bits L _ h; cases h
  | succ n ih =>
    intro todo seen bits L hb h m hm
    obtain ⟨k, rfl⟩ : ∃ k, m = k + 1 := ⟨m - 1, by omega⟩
    cases todo with
    | nil =>
      cases h
      rw [Program.closureVia]
      · omega
    | cons f rest =>
      have h' : Bool.rec (motive := fun _ => Option (List Nat)) (closB P n ((P.funcs[f]?).elim [] P.leadsTo ++ rest) (f :: seen) (bits ||| 2 ^ f)) (closB P n rest seen bits) (bits.testBit f) = some L := h
      rw [Program.closureVia]
      have hf := hb f
      cases ht : bits.testBit f with
      | true =>
        rw [ht] at h' hf
        rw [if_pos hf]
        exact ih rest seen bits L hb h' k (by omega)
      | false =>
        rw [ht] at h' hf
        rw [if_neg (by rw [hf]; simp)]
        refine ih _ _ _ L (fun g => ?_) h' k (by omega)
        rw [List.contains_cons, Nat.testBit_or, Nat.testBit_two_pow, hb g, Bool.or_comm]
        congr 1
        by_cases hfg : g = f
        · subst hfg; simp
        · rw [decide_eq_false (fun h => hfg h.symm)]
          exact beq_eq_false_iff_ne.2 hfg
theorem closure_eq {P : Program} {f n : Nat} {L : List Nat} (h : closB P n [f] [] 0 = some L) (hn : Nat.ble n (1 + (P.funcs.toList.map fun g => (P.leadsTo g).length + 1).sum) = true) : P.closure f = L :=
  closB_ok n [f] [] 0 L (fun g => by simp) h _ (Nat.le_of_ble_eq_true hn)
/-- A check over a range, part by part. -/
theorem range_parts {p : Nat → Bool} {n k : Nat} (h : ∀ i, i < k → ((List.range' (i * n) n).all p) = true) : (List.range (k * n)).all p = true := by
  rw [List.all_eq_true]
  intro x hx
  have hx := List.mem_range.1 hx
  have hn : 0 < n := by
    rcases Nat.eq_zero_or_pos n with h0 | h0
    · subst h0; simp at hx
    · exact h0
  have hd : x / n < k := (Nat.div_lt_iff_lt_mul hn).2 hx
  have := List.all_eq_true.1 (h (x / n) hd) x (List.mem_range'.2 ⟨x % n, Nat.mod_lt _ hn, by rw [Nat.one_mul, Nat.mul_comm]; exact (Nat.div_add_mod x n).symm⟩)
  exact this
end Go.Ab
