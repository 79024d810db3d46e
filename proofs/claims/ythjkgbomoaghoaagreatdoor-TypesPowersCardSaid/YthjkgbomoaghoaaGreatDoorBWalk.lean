/- The walk of TypesPowers, from the world's package-level variables. -/
import Derived.Test.YthjkgbomoaghoaaGreatDoorBStart
set_option linter.unusedSimpArgs false
set_option linter.unusedVariables false
namespace Go.Proofs.YthjkgbomoaghoaaGreatDoor
open Go Go.ChangeShapes Go.WideShapes Go.ChangeAt Go.RowKit
theorem noOwn_start : Ab.NoOwn B.start := fun b C h => by obtain ⟨-, rfl⟩ := B.start_blk h; rfl
theorem start_world {base : Ab.Env} {w : World} (hb : base.lo = w.heap.size) (hg : 10 ≤ w.heap.size) {arr : Array Value} {e : TypeId} {f : Nat × Nat} (h0 : w.heap[0]? = some (.cells arr e f)) (hp : ∀ (i : Nat) (v : Value), B.pows[i]? = some v → arr[i]? = some v) :
    ∃ ρ, Ab.Rel base ρ B.start w ∧ Ab.Glob ρ 10 ∧ ∀ b, B.start.n ≤ b → ρ b = none := by
  refine ⟨fun b => if b = 0 then some ⟨0, 0, arr.size⟩ else if b < 10 then some ⟨b, 0, 0⟩ else none, ⟨fun b hb' => ?_, fun b q C hq hC => ?_, fun b q hq => ?_, fun b q C _ hC ho => ?_, fun b q C b' q' _ hC ho => ?_, by omega⟩, fun g hg' => ?_, fun b hb' => ?_⟩
  · show (Ab.Tr.nil.set 0 (⟨B.pows, true, false, 0, .row⟩ : Ab.Blk)).get b = none
    have h10 : 10 ≤ b := hb'
    rw [Ab.Tr.get_set, if_neg (by omega)]; rfl
  · obtain ⟨rfl, rfl⟩ := B.start_blk hC
    rw [if_pos rfl] at hq
    cases hq
    obtain ⟨lo, hi⟩ := f
    have hl : B.pows.length = 20 := rfl
    have h19 : ∃ v, B.pows[19]? = some v := ⟨_, rfl⟩
    obtain ⟨v19, h19⟩ := h19
    have hsz : 19 < arr.size := by
      have := hp 19 v19 h19
      exact (Array.getElem?_eq_some_iff.1 this).1
    refine .row rfl ⟨arr, e, lo, hi, h0, rfl, by show 0 + B.pows.length ≤ arr.size; omega, fun h => ?_, fun v hv => (B.pows_cell v hv).1, fun i v hv => ?_⟩
    · have h' : base.lo ≤ 0 := h
      omega
    · obtain ⟨n, rfl⟩ := (B.pows_cell v (List.mem_of_getElem? hv)).2
      exact ⟨_, by show arr[0 + i]? = _; rw [Nat.zero_add]; exact hp i _ hv, .scal rfl⟩
  · split at hq
    · cases hq; show 0 < w.heap.size; omega
    · split at hq
      · cases hq; show b < w.heap.size; omega
      · cases hq
  · obtain ⟨rfl, rfl⟩ := B.start_blk hC; cases ho
  · obtain ⟨rfl, rfl⟩ := B.start_blk hC; cases ho
  · by_cases h : g = 0
    · subst h; exact ⟨_, if_pos rfl⟩
    · exact ⟨0, by show (if g = 0 then _ else if g < 10 then _ else none) = _; rw [if_neg h, if_pos hg']⟩
  · have h10 : 10 ≤ b := hb'
    show (if b = 0 then _ else if b < 10 then _ else none) = none
    rw [if_neg (by omega), if_neg (by omega)]
theorem funcsOk_HS : Ab.funcsOk Tryz.prog B.HS 10 Tryz.prog.funcs.toList 0 = true := by kernel_rfl
theorem walk (hrun : ∀ n m a b : Int, 0 ≤ a ∧ a < 6 → 0 ≤ b ∧ b < 6 → B.okTrue (B.rest n m a b) = true) {n m : Int} (hn : 0 ≤ n ∧ n < 256) (hm : 0 ≤ m ∧ m < 256) {w : World} (hg : 10 ≤ w.heap.size) {arr : Array Value} {e : TypeId} {f : Nat × Nat} (h0 : w.heap[0]? = some (.cells arr e f)) (hp : ∀ (i : Nat) (v : Value), B.pows[i]? = some v → arr[i]? = some v) :
    Calls Tryz.prog 4 #[.int .u8 n, .int .u8 m] w fun e w' => e = .returned (.bool true) ∧ Below w.heap.size w w' := by
  let base : Ab.Env := ⟨w.heap.size, fun n c => Ab.codeOk Tryz.prog n 10 c⟩
  have hchk : ∀ n c, base.chk n c = Ab.codeOk Tryz.prog n 10 c := fun _ _ => rfl
  obtain ⟨ρ, hR, hG, hF⟩ := start_world (base := base) rfl hg h0 hp
  have ha : 0 ≤ n.tmod 6 ∧ n.tmod 6 < 6 := by rw [Int.tmod_eq_emod_of_nonneg hn.1]; omega
  have hb : 0 ≤ m.tmod 6 ∧ m.tmod 6 < 6 := by rw [Int.tmod_eq_emod_of_nonneg hm.1]; omega
  obtain ⟨σ', hgo⟩ := B.law_powers (n := n) (m := m) rfl rfl ha hb (hrun n m _ _ ha hb)
  have hev : Ab.Ev (Ab.go Tryz.prog B.HS (.fn 4) [.int .u8 n, .int .u8 m] B.start) (fun r => ∃ σ', r = ⟨false, .bool true, σ'⟩) ⟨⟩ := ⟨_, hgo, σ', rfl⟩
  refine (Ab.calls_of_ev (base := base) B.mixed hchk (funcsOk_HS) (B.sums_ok hchk) Tryz.func4 rfl hev hR hF hG (.cons (.scal rfl) (.cons (.scal rfl) .nil))).mono ?_
  rintro en w' ⟨r, v', ρ', ⟨σ', rfl⟩, rfl, r1, r2, r3⟩
  refine ⟨by cases r3; rfl, r2.out.os, r2.out.tape, r2.out.output, r2.size, fun c hc => r2.keep c hc fun b q C _ _ hC => noOwn_start b C hC⟩
end Go.Proofs.YthjkgbomoaghoaaGreatDoor
