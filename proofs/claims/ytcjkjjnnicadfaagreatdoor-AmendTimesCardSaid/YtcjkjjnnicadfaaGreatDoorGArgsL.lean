/- A part of the proof: a walk of some functions. -/
import Derived.Test.YtcjkjjnnicadfaaGreatDoorGF
import Derived.Test.YtcjkjjnnicadfaaGreatDoorAbArgs
set_option linter.unusedSimpArgs false
set_option linter.unusedVariables false
namespace Go.Proofs.G
open Go Go.Ab Go.Ab.Args
section
variable {P : Program} {σ : St}
theorem in64_wf {n : Int} (h : (Lit.int .i64 n).wf = true) : In64 n := by
 have h1 : IntKind.i64.min = -9223372036854775808 := rfl
 have h2 : IntKind.i64.max = 9223372036854775807 := rfl
 simp only [Lit.wf, Bool.and_eq_true, decide_eq_true_eq, h1, h2] at h
 exact ⟨h.1, h.2⟩
theorem ai_int {t : TypeId} (ht : P.underlying t = some (.int .i64)) {f : Nat} {cs : List Value} (h : AbIn P σ f t cs) : ∃ n, cs = [.int .i64 n] ∧ In64 n := by
 cases f with
 | zero => exact h.elim
 | succ f =>
  unfold AbIn at h
  rw [ht] at h
  obtain ⟨n, h1, h2⟩ := h
  exact ⟨n, h1, in64_wf h2⟩
theorem ints_of {e : TypeId} (he : P.underlying e = some (.int .i64)) {f : Nat} : ∀ {ps : List (List Value)}, (∀ p ∈ ps, AbIn P σ f e p) → ∃ l : List Int, ps = l.map (fun n => [.int .i64 n]) ∧ ps.flatten = l.map (.int .i64) ∧ ∀ n ∈ l, In64 n
 | [], _ => ⟨[], rfl, rfl, fun n h => by cases h⟩
 | p :: ps, h => by
  obtain ⟨n, hn, hw⟩ := ai_int he (h p (by simp))
  obtain ⟨l, h1, h2, h3⟩ := ints_of he fun q hq => h q (List.mem_cons_of_mem _ hq)
  refine ⟨n :: l, by rw [hn, h1]; rfl, by rw [List.flatten_cons, hn, h2]; rfl, fun m hm => ?_⟩
  rcases List.mem_cons.1 hm with rfl | hm
  ·exact hw
  ·exact h3 m hm
theorem ai_arr {t e : TypeId} {m : Nat} (ht : P.underlying t = some (.array m e)) (he : P.underlying e = some (.int .i64)) {f : Nat} {cs : List Value} (h : AbIn P σ f t cs) : ∃ l : List Int, l.length = m ∧ cs = l.map (.int .i64) ∧ ∀ n ∈ l, In64 n := by
 cases f with
 | zero => exact h.elim
 | succ f =>
  unfold AbIn at h
  rw [ht] at h
  obtain ⟨ps, h1, h2, h3⟩ := h
  obtain ⟨l, h4, h5, h6⟩ := ints_of he fun p hp => (h3 p hp).2
  exact ⟨l, by rw [← h2, h4, List.length_map], by rw [h1, h5], h6⟩
theorem ai_array {t e : TypeId} {n : Nat} (ht : P.underlying t = some (.array n e)) {f : Nat} {cs : List Value} (h : AbIn P σ f t cs) : ∃ (g : Nat) (ps : List (List Value)), cs = ps.flatten ∧ ps.length = n ∧ ∀ p ∈ ps, AbIn P σ g e p := by
 cases f with
 | zero => exact h.elim
 | succ f =>
  unfold AbIn at h
  rw [ht] at h
  obtain ⟨ps, h1, h2, h3⟩ := h
  exact ⟨f, ps, h1, h2, fun p hp => (h3 p hp).2⟩
theorem ai_ints {s e : TypeId} (hs : P.underlying s = some (.slice e)) (he : P.underlying e = some (.int .i64)) (hm : P.cellsOf e = 1) {f : Nat} {cs : List Value} (h : AbIn P σ f s cs) : ∃ v l, cs = [v] ∧ ArgInts σ v l := by
 cases f with
 | zero => exact h.elim
 | succ f =>
  unfold AbIn at h
  rw [hs] at h
  rcases h with h | ⟨b, rows, cap, h1, h2, h3, h4, h5, h6⟩
  ·exact ⟨_, [], h, ⟨SL.nil, fun r hr => by cases hr⟩⟩
  ·obtain ⟨l, h7, h8, h9⟩ := ints_of he fun r hr => (h6 r hr).2
   have hll : rows.length = l.length := by rw [h7, List.length_map]
   refine ⟨_, l, h1, ⟨.inr ⟨b, 0, none, cap, _, by rw [hll, List.length_map], h4, h5, fun k r hk => ?_⟩, h9⟩⟩
   rw [← h7] at hk
   rw [Nat.zero_add, ← Nat.add_zero (k * 1), sub_rows (fun r hr => by rw [(h6 r hr).1, hm]) hk (by omega)]
   have hl := (h6 r (List.mem_of_getElem? hk)).1
   exact sub_full (by omega) (by omega)
end
theorem pair_in {σ : St} {f : Nat} {cs : List Value} (h : AbIn Tryz.prog σ f 31 cs) : ∃ a0 a1 a2 b0 b1 b2, cs = [.int .i64 a0, .int .i64 a1, .int .i64 a2, .int .i64 b0, .int .i64 b1, .int .i64 b2] ∧ (In64 a0 ∧ In64 a1 ∧ In64 a2) ∧ (In64 b0 ∧ In64 b1 ∧ In64 b2) := by
  obtain ⟨g, ps, rfl, h1, h2⟩ := ai_array Tryz.underlying31 h
  match ps, h1, h2 with
  | [p, q], _, h2 =>
   obtain ⟨a, a1, rfl, a2⟩ := ai_arr Tryz.underlying30 Tryz.underlying3 (h2 p (by simp))
   obtain ⟨b, b1, rfl, b2⟩ := ai_arr Tryz.underlying30 Tryz.underlying3 (h2 q (by simp))
   match a, a1, a2, b, b1, b2 with
   | [x0, x1, x2], _, a2, [y0, y1, y2], _, b2 =>
    exact ⟨x0, x1, x2, y0, y1, y2, rfl, ⟨a2 _ (by simp), a2 _ (by simp), a2 _ (by simp)⟩, ⟨b2 _ (by simp), b2 _ (by simp), b2 _ (by simp)⟩⟩
theorem tri_in {σ : St} {f : Nat} {cs : List Value} (h : AbIn Tryz.prog σ f 30 cs) : ∃ a0 a1 a2, cs = [.int .i64 a0, .int .i64 a1, .int .i64 a2] ∧ (In64 a0 ∧ In64 a1 ∧ In64 a2) := by
  obtain ⟨a, a1, rfl, a2⟩ := ai_arr Tryz.underlying30 Tryz.underlying3 h
  match a, a1, a2 with
  | [x0, x1, x2], _, a2 => exact ⟨x0, x1, x2, rfl, ⟨a2 _ (by simp), a2 _ (by simp), a2 _ (by simp)⟩⟩
end Go.Proofs.G
