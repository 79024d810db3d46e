/- Blocks of other kinds: maps, and the records of ranges over functions: made and changed. -/
import Derived.Test.YtcjkjjnnicadfaaGreatDoorAbApp
set_option linter.unusedSimpArgs false
set_option linter.unusedVariables false
namespace Go.Ab
open Go

theorem setK_blk_same (σ : St) (b : Nat) {B : Blk} (hl : B.live = true) : (⟨σ.h.set b B, σ.n⟩ : St).blk b = some B := blk_of (Tr.get_set_same _ _ _) hl
theorem setK_blk_ne (σ : St) {b b' : Nat} (B : Blk) (h : b' ≠ b) : (⟨σ.h.set b B, σ.n⟩ : St).blk b' = σ.blk b' := by
  show ob ((σ.h.set b B).get b') _ = _
  rw [Tr.get_set_ne _ _ h]; rfl

/-- An own block gets other contents, and the model's block with it. -/
theorem Rel.set {base : Env} {ρ : Place} {σ : St} {w w' : World} (h : Rel base ρ σ w) {b : Nat} {q : Spot} {B B' : Blk} (hb : ρ b = some q) (hB : σ.blk b = some B) (hO : B.own = true) (hl : B'.live = true) (hO' : B'.own = true)
    (hw : ∀ c, c ≠ q.c → w'.heap[c]? = w.heap[c]?) (hs : w'.heap.size = w.heap.size) (ho : Outside w w') (hsit : Sits base ρ w' q B') :
    Rel base ρ ⟨σ.h.set b B', σ.n⟩ w' ∧ Fram ρ σ w ρ ⟨σ.h.set b B', σ.n⟩ w' := by
  refine ⟨⟨?_, ?_, ?_, ?_, ?_, ?_⟩, ⟨?_, ?_, ?_, ?_, ?_, ho, fun b' _ hn => Tr.get_set_ne _ _ (by intro he; subst he; rw [hb] at hn; cases hn)⟩⟩
  · intro b' hb'
    have := h.lt hB
    change σ.n ≤ b' at hb'
    show (σ.h.set b _).get b' = none
    rw [Tr.get_set_ne _ _ (by omega)]; exact h.fresh b' hb'
  · intro b' q' B2 hb' hB'
    by_cases hbb : b' = b
    · subst hbb
      rw [hb] at hb'; cases hb'
      rw [setK_blk_same _ _ hl] at hB'; cases hB'
      exact hsit
    · rw [setK_blk_ne _ _ hbb] at hB'
      exact (h.sits b' q' B2 hb' hB').mono (Place.le_refl _) (hw q'.c (h.sep b q B b' q' hb hB hO hbb hb' (.inr ⟨B2, hB'⟩)))
  · intro b' q' hb'; rw [hs]; exact h.dom b' q' hb'
  · intro b' q' B2 hb' hB' hO2
    by_cases hbb : b' = b
    · subst hbb; rw [hb] at hb'; cases hb'; exact h.own b' q B hb hB hO
    · rw [setK_blk_ne _ _ hbb] at hB'; exact h.own b' q' B2 hb' hB' hO2
  · intro b1 q1 B1 b2 q2 k1 k2 k3 k4 k5 k6
    have hl1 : ∃ B0, σ.blk b1 = some B0 ∧ B0.own = true := by
      by_cases hbb : b1 = b
      · subst hbb; exact ⟨B, hB, hO⟩
      · rw [setK_blk_ne _ _ hbb] at k2; exact ⟨B1, k2, k3⟩
    obtain ⟨B0, j1, j2⟩ := hl1
    refine h.sep b1 q1 B0 b2 q2 k1 j1 j2 k4 k5 ?_
    rcases k6 with k6 | ⟨B2, k6⟩
    · exact .inl k6
    · by_cases hbb : b2 = b
      · subst hbb; exact .inr ⟨B, hB⟩
      · rw [setK_blk_ne _ _ hbb] at k6; exact .inr ⟨B2, k6⟩
  · rw [hs]; exact h.low
  · intro _ _; rfl
  · exact Nat.le_refl _
  · omega
  · intro c' _ hno
    refine hw c' fun he => ?_
    rw [hno b q B hb he.symm hB] at hO; cases hO
  · intro b' q' B2 hb' hB' _
    by_cases hbb : b' = b
    · subst hbb; rw [hb] at hb'; cases hb'; exact ⟨b', q, B, hb, rfl, hB, fun _ => hO⟩
    · rw [setK_blk_ne _ _ hbb] at hB'; exact ⟨b', q', B2, hb', rfl, hB', fun h => h⟩

/-- A new block of whatever kind. -/
theorem Rel.newK {base : Env} {ρ : Place} {σ : St} {w w' : World} (h : Rel base ρ σ w) (hf : ρ σ.n = none) {cs : List Value} {k : Kind} {c : Nat}
    (hc : w.heap.size ≤ c) (hc' : c < w'.heap.size) (hs : w.heap.size ≤ w'.heap.size) (hold : ∀ c, c < w.heap.size → w'.heap[c]? = w.heap[c]?) (ho : Outside w w')
    (hsit : Sits base (ρ.put σ.n ⟨c, 0, 0⟩) w' ⟨c, 0, 0⟩ ⟨cs, true, true, 0, k⟩) :
    Rel base (ρ.put σ.n ⟨c, 0, 0⟩) (σ.newK cs k) w' ∧ Fram ρ σ w (ρ.put σ.n ⟨c, 0, 0⟩) (σ.newK cs k) w' := by
  refine ⟨h.putK hf hsit hs (fun c hc _ => hold c hc) hc' (by have := h.low; show base.lo ≤ c; omega) (fun b q' hb _ => by have := h.dom b q' hb; show q'.c ≠ c; omega), ⟨?_, ?_, ?_, ?_, ?_, ho, fun b h1 _ => Tr.get_set_ne _ _ (by omega)⟩⟩
  · intro b hb
    refine Place.put_ne _ _ ?_
    rcases hb with hb | hb
    · omega
    · change σ.n + 1 ≤ b at hb; omega
  · show σ.n ≤ σ.n + 1; omega
  · exact hs
  · intro c hc' _; exact hold c hc'
  · intro b q B hb hB hcs
    by_cases hbn : b = σ.n
    · subst hbn; rw [Place.put_same] at hb; cases hb; change c < w.heap.size at hcs; omega
    · rw [Place.put_ne _ _ hbn] at hb; rw [newK_blk_ne _ _ _ hbn] at hB; exact ⟨b, q, B, hb, rfl, hB, fun h => h⟩

end Go.Ab
