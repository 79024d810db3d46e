/- A part of the proof: a walk of some functions. -/
import Derived.Test.YtaodjmfmheifeaaGreatDoorK0
import Derived.Test.YtaodjmfmheifeaaGreatDoorK10
import Derived.Test.YtaodjmfmheifeaaGreatDoorAbG
set_option linter.unusedSimpArgs false
set_option linter.unusedVariables false
namespace Go.Proofs.G
open Go Go.Ab Go.Ab.Args
set_option maxRecDepth 100000
section
variable {P : Program} {σ : St}
theorem in64_wf {n : Int} (h : (Lit.int .i64 n).wf = true) : In64 n := by
  have h1 : IntKind.i64.min = -9223372036854775808 := rfl
  have h2 : IntKind.i64.max = 9223372036854775807 := rfl
  simp only [Lit.wf, Bool.and_eq_true, decide_eq_true_eq, h1, h2] at h
  exact ⟨h.1, h.2⟩
theorem ai_intk {t : TypeId} {k : IntKind} (ht : P.underlying t = some (.int k)) {f : Nat} {cs : List Value} (h : AbIn P σ f t cs) : ∃ n, cs = [.int k n] ∧ (Lit.int k n).wf = true := by
  cases f with
  | zero => exact h.elim
  | succ f =>
    unfold AbIn at h
    rw [ht] at h
    exact h
theorem ai_int {t : TypeId} (ht : P.underlying t = some (.int .i64)) {f : Nat} {cs : List Value} (h : AbIn P σ f t cs) : ∃ n, cs = [.int .i64 n] ∧ In64 n := by
  obtain ⟨n, h1, h2⟩ := ai_intk ht h
  exact ⟨n, h1, in64_wf h2⟩
theorem ai_str {t : TypeId} (ht : P.underlying t = some .string) {f : Nat} {cs : List Value} (h : AbIn P σ f t cs) : ∃ l : By, cs = [str l] := by
  cases f with
  | zero => exact h.elim
  | succ f =>
    unfold AbIn at h
    rw [ht] at h
    obtain ⟨⟨⟨l⟩⟩, h1, -⟩ := h
    exact ⟨l, h1⟩
theorem ints_of {e : TypeId} {k : IntKind} (he : P.underlying e = some (.int k)) {f : Nat} : ∀ {ps : List (List Value)}, (∀ p ∈ ps, AbIn P σ f e p) → ∃ l : List Int, ps = l.map (fun n => [.int k n]) ∧ ps.flatten = l.map (.int k) ∧ ∀ n ∈ l, (Lit.int k n).wf = true
  | [], _ => ⟨[], rfl, rfl, fun n h => by cases h⟩
  | p :: ps, h => by
    obtain ⟨n, hn, hw⟩ := ai_intk he (h p (by simp))
    obtain ⟨l, h1, h2, h3⟩ := ints_of he fun q hq => h q (List.mem_cons_of_mem _ hq)
    refine ⟨n :: l, by rw [hn, h1]; rfl, by rw [List.flatten_cons, hn, h2]; rfl, fun m hm => ?_⟩
    rcases List.mem_cons.1 hm with rfl | hm
    · exact hw
    · exact h3 m hm
theorem ai_arr {t e : TypeId} {m : Nat} {k : IntKind} (ht : P.underlying t = some (.array m e)) (he : P.underlying e = some (.int k)) {f : Nat} {cs : List Value} (h : AbIn P σ f t cs) : ∃ l : List Int, l.length = m ∧ cs = l.map (.int k) := by
  cases f with
  | zero => exact h.elim
  | succ f =>
    unfold AbIn at h
    rw [ht] at h
    obtain ⟨ps, h1, h2, h3⟩ := h
    obtain ⟨l, h4, h5, -⟩ := ints_of he fun p hp => (h3 p hp).2
    exact ⟨l, by rw [← h2, h4, List.length_map], by rw [h1, h5]⟩
theorem ai_array {t e : TypeId} {n : Nat} (ht : P.underlying t = some (.array n e)) {f : Nat} {cs : List Value} (h : AbIn P σ f t cs) : ∃ (g : Nat) (ps : List (List Value)), cs = ps.flatten ∧ ps.length = n ∧ ∀ p ∈ ps, AbIn P σ g e p := by
  cases f with
  | zero => exact h.elim
  | succ f =>
    unfold AbIn at h
    rw [ht] at h
    obtain ⟨ps, h1, h2, h3⟩ := h
    exact ⟨f, ps, h1, h2, fun p hp => (h3 p hp).2⟩
theorem ai_struct {t : TypeId} {fs : Array Field} (ht : P.underlying t = some (.struct fs)) {f : Nat} {cs : List Value} (h : AbIn P σ f t cs) : ∃ (g : Nat) (ps : List (List Value)), cs = ps.flatten ∧ Parts (fun (fd : Field) p => AbIn P σ g fd.type p) fs.toList ps := by
  cases f with
  | zero => exact h.elim
  | succ f =>
    unfold AbIn at h
    rw [ht] at h
    obtain ⟨ps, h1, h2⟩ := h
    exact ⟨f, ps, h1, h2⟩
theorem parts_cons {α : Type} {R : α → List Value → Prop} {a : α} {l : List α} {k : List (List Value)} (h : Parts R (a :: l) k) : ∃ b k', k = b :: k' ∧ R a b ∧ Parts R l k' := by
  cases k with
  | nil => exact h.elim
  | cons b k => exact ⟨b, k, rfl, h.1, h.2⟩
theorem parts_nil {α : Type} {R : α → List Value → Prop} {k : List (List Value)} (h : Parts R [] k) : k = [] := by
  cases k with
  | nil => rfl
  | cons b k => exact h.elim
theorem ai_ints {s e : TypeId} (hs : P.underlying s = some (.slice e)) (he : P.underlying e = some (.int .i64)) (hm : P.cellsOf e = 1) {f : Nat} {cs : List Value} (h : AbIn P σ f s cs) : ∃ v l, cs = [v] ∧ ArgInts σ v l := by
  cases f with
  | zero => exact h.elim
  | succ f =>
    unfold AbIn at h
    rw [hs] at h
    rcases h with h | ⟨b, rows, cap, h1, h2, h3, h4, h5, h6⟩
    · exact ⟨_, [], h, ⟨SL.nil, fun r hr => by cases hr⟩⟩
    · obtain ⟨l, h7, h8, h9⟩ := ints_of he fun r hr => (h6 r hr).2
      have hll : rows.length = l.length := by rw [h7, List.length_map]
      refine ⟨_, l, h1, ⟨.inr ⟨b, 0, none, cap, _, by rw [hll, List.length_map], h4, h5, fun k r hk => ?_⟩, fun n hn => in64_wf (h9 n hn)⟩⟩
      rw [← h7] at hk
      rw [Nat.zero_add, ← Nat.add_zero (k * 1), sub_rows (fun r hr => by rw [(h6 r hr).1, hm]) hk (by omega)]
      have := (h6 r (List.mem_of_getElem? hk)).1
      exact sub_full (by omega) (by omega)
/-- A slice of data, all of its rows in one block. -/
theorem ai_rows {s e : TypeId} (hs : P.underlying s = some (.slice e)) {m : Nat} (hm : P.cellsOf e = m) {f : Nat} {cs : List Value} (h : AbIn P σ f s cs) : ∃ v rows g, cs = [v] ∧ SLs σ m v rows ∧ ∀ r ∈ rows, AbIn P σ g e r := by
  cases f with
  | zero => exact h.elim
  | succ f =>
    unfold AbIn at h
    rw [hs] at h
    rcases h with h | ⟨b, rows, cap, h1, h2, h3, h4, h5, h6⟩
    · exact ⟨_, [], 0, h, .nil, fun r hr => by cases hr⟩
    · have hl : ∀ r ∈ rows, r.length = m := fun r hr => by rw [(h6 r hr).1, hm]
      have hf := flatten_len rows hl
      exact ⟨_, rows, f, h1, ⟨hl, .inr ⟨b, 0, none, cap, _, rfl, h4, h5, sub_full (by omega) (by omega)⟩⟩, fun r hr => (h6 r hr).2⟩
end
set_option maxHeartbeats 4000000 in
theorem ai_event {σ : St} {f : Nat} {cs : List Value} (h : AbIn Tryz.prog σ f 30 cs) : EvRow cs := by
  obtain ⟨g, ps, rfl, hp⟩ := ai_struct Tryz.underlying30 h
  obtain ⟨c0, k, rfl, h0, hp⟩ := parts_cons hp
  obtain ⟨c1, k, rfl, h1, hp⟩ := parts_cons hp
  obtain ⟨c2, k, rfl, h2, hp⟩ := parts_cons hp
  obtain ⟨c3, k, rfl, h3, hp⟩ := parts_cons hp
  obtain ⟨c4, k, rfl, h4, hp⟩ := parts_cons hp
  obtain ⟨c5, k, rfl, h5, hp⟩ := parts_cons hp
  obtain ⟨c6, k, rfl, h6, hp⟩ := parts_cons hp
  obtain ⟨c7, k, rfl, h7, hp⟩ := parts_cons hp
  obtain ⟨c8, k, rfl, h8, hp⟩ := parts_cons hp
  obtain ⟨c9, k, rfl, h9, hp⟩ := parts_cons hp
  obtain ⟨c10, k, rfl, h10, hp⟩ := parts_cons hp
  obtain ⟨c11, k, rfl, h11, hp⟩ := parts_cons hp
  obtain ⟨c12, k, rfl, h12, hp⟩ := parts_cons hp
  obtain rfl := parts_nil hp
  obtain ⟨n0, rfl, -⟩ := ai_int Tryz.underlying3 h0
  obtain ⟨n1, rfl, -⟩ := ai_int Tryz.underlying3 h1
  obtain ⟨n2, rfl, -⟩ := ai_int Tryz.underlying3 h2
  obtain ⟨n3, rfl, -⟩ := ai_int Tryz.underlying3 h3
  obtain ⟨n4, rfl, -⟩ := ai_int Tryz.underlying3 h4
  obtain ⟨n5, rfl, -⟩ := ai_int Tryz.underlying3 h5
  obtain ⟨n6, rfl, -⟩ := ai_int Tryz.underlying3 h6
  obtain ⟨n7, rfl, -⟩ := ai_int Tryz.underlying3 h7
  obtain ⟨s8, rfl⟩ := ai_str Tryz.underlying9 h8
  obtain ⟨s9, rfl⟩ := ai_str Tryz.underlying9 h9
  obtain ⟨g10, qs, rfl, hq⟩ := ai_struct Tryz.underlying24 h10
  obtain ⟨d0, k, rfl, e0, hq⟩ := parts_cons hq
  obtain ⟨d1, k, rfl, e1, hq⟩ := parts_cons hq
  obtain rfl := parts_nil hq
  obtain ⟨x0, rfl, -⟩ := ai_int Tryz.underlying3 e0
  obtain ⟨x1, rfl, -⟩ := ai_int Tryz.underlying3 e1
  obtain ⟨g12, ws, rfl, hw⟩ := ai_struct Tryz.underlying28 h12
  obtain ⟨d0, k, rfl, e0, hw⟩ := parts_cons hw
  obtain ⟨d1, k, rfl, e1, hw⟩ := parts_cons hw
  obtain rfl := parts_nil hw
  obtain ⟨y0, rfl, -⟩ := ai_int Tryz.underlying3 e0
  obtain ⟨y1, rfl, -⟩ := ai_int Tryz.underlying3 e1
  obtain ⟨l, hl, rfl⟩ := ai_arr Tryz.underlying26 Tryz.underlying5 h11
  match l, hl with
  | [p0, p1, p2, p3, p4, p5, p6, p7, p8, p9, p10, p11, p12, p13, p14, p15, p16, p17, p18, p19, p20, p21, p22, p23, p24, p25, p26, p27, p28, p29, p30, p31], _ =>
    exact ⟨n0, n1, n2, n3, n4, n5, n6, n7, x0, x1, y0, y1, p0, p1, p2, p3, p4, p5, p6, p7, p8, p9, p10, p11, p12, p13, p14, p15, p16, p17, p18, p19, p20, p21, p22, p23, p24, p25, p26, p27, p28, p29, p30, p31, s8, s9, rfl⟩
end Go.Proofs.G
