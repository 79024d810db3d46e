/- A closed run from a memory in which tables of the package-level variables stand, as a summary. -/
import Derived.Test.YthjkgbomoaghoaaGreatDoorBPow
set_option linter.unusedSimpArgs false
set_option linter.unusedVariables false
namespace Go.Ab
open Go
section
variable {P : Program} {base : Env} {G : Nat}
theorem closed_sum2 (hm : P.follows .mixedOrders = true) (hchk : ∀ n c, base.chk n c = codeOk P n G c) {H : Sums} (hP : funcsOk P H G P.funcs.toList 0 = true) (hH : ∀ lo, SumsOk P { base with lo := lo } G H) {σ0 : St} (hn0 : σ0.n = G) (ho : ∀ b B, σ0.blk b = some B → B.own = false)
    {g f : Nat} {v : Value} {σ1 : St} (hv : scal v = true) (h : callF P H (exec P H f) (.fn g) [] σ0 = some ⟨false, v, σ1⟩) (σ : St) {ρ : Place} {w : World} {N : Nat} (hR : Rel base ρ σ w) (hG : Glob ρ G)
    (hR0 : Rel { base with lo := w.heap.size } (fun b => if b < G then ρ b else none) σ0 w) : CallOk P base ρ g [] σ w ⟨false, v, σ⟩ := by
  obtain ⟨_, h2⟩ := calls_ok (base := { base with lo := w.heap.size }) hm hchk hP (hH _) f _ _ _ _ h
  let ρ0 : Place := fun b => if b < G then ρ b else none
  have hG0 : Glob ρ0 G := by
    intro g hg
    obtain ⟨m, h⟩ := hG g hg
    exact ⟨m, by show (if g < G then ρ g else none) = _; rw [if_pos hg]; exact h⟩
  have hF0 : Free ρ0 σ0.n σ1.n := fun b hb _ => by show (if b < G then ρ b else none) = none; rw [if_neg (by omega)]
  obtain ⟨fn, k1, k2, k3⟩ := h2 ρ0 w [] σ1.n hR0 hF0 (Nat.le_refl _) hG0 .nil
  refine ⟨fn, k1, k2, ?_⟩
  have hval : ∀ {ρ' : Place} {v' : Value}, VRel ρ' v v' → v' = v := by
    intro ρ' v' hv'
    cases v with
    | bool b => cases hv'; rfl
    | int k n => cases hv'; rfl
    | string s => cases hv'; rfl
    | _ => cases hv' <;> first | rfl | cases hv
  rcases k3 with ⟨k4, k5⟩ | ⟨v', k4, k5, k6, k7⟩
  · refine .inl ⟨k4, k5.mono ?_⟩
    rintro e w' ⟨v', ρ', rfl, q1, q2, q3⟩
    have hsame : ∀ c, c < w.heap.size → w'.heap[c]? = w.heap[c]? := fun c hc => q2.keep c hc fun b q B hb _ hB => ho b B hB
    have hv' := hval q3
    subst hv'
    refine ⟨v', ρ, rfl, ⟨hR.fresh, fun b q B h1 h2 => (hR.sits b q B h1 h2).mono (Place.le_refl _) (hsame _ (hR.dom b q h1)), fun b q hb => Nat.lt_of_lt_of_le (hR.dom b q hb) q2.size, hR.own, hR.sep, Nat.le_trans hR.low q2.size⟩,
      ⟨fun _ _ => rfl, Nat.le_refl _, q2.size, fun c hc _ => hsame c hc, fun b q B h1 h2 _ => ⟨b, q, B, h1, rfl, h2, fun h => h⟩, q2.out, fun _ _ _ => rfl⟩, .scal hv⟩
  · have := hval k7
    subst this
    exact .inr ⟨v', k4, rfl, rfl, .scal hv⟩
end
end Go.Ab
namespace Go.Proofs.B
open Go Go.Ab
set_option maxRecDepth 1000000
theorem pows_cell : ∀ v ∈ pows, isCell v = true ∧ ∃ n, v = .int .u64 n := by
  intro v hv
  unfold pows at hv
  simp only [List.mem_cons, List.not_mem_nil, or_false] at hv
  rcases hv with rfl | rfl | rfl | rfl | rfl | rfl | rfl | rfl | rfl | rfl | rfl | rfl | rfl | rfl | rfl | rfl | rfl | rfl | rfl | rfl <;> exact ⟨rfl, _, rfl⟩
theorem start_blk {b : Nat} {B : Blk} (h : start.blk b = some B) : b = 0 ∧ B = ⟨pows, true, false, 0, .row⟩ := by
  obtain ⟨h1, h2⟩ := blk_get h
  have h3 : (Tr.nil.set 0 (⟨pows, true, false, 0, .row⟩ : Blk)).get b = some B := h1
  rw [Tr.get_set] at h3
  split at h3
  · rename_i hb; cases h3; exact ⟨hb, rfl⟩
  · cases h3
theorem start_rel {base : Env} {ρ : Ab.Place} {σ : St} {w : World} (hR : Rel base ρ σ w) (hG : Glob ρ 10) (hr : σ.read 0 0 20 = some pows) : Rel { base with lo := w.heap.size } (fun b => if b < 10 then ρ b else none) start w := by
  obtain ⟨B, hB, hs⟩ := ob_eq (show ob (σ.rblk 0) (fun B => sub B.cells 0 20) = some pows from hr)
  obtain ⟨m, h0⟩ := hG 0 (by omega)
  obtain ⟨s1, s2⟩ := sub_eq hs
  refine ⟨fun b hb => ?_, fun b q C hb hC => ?_, fun b q hb => ?_, fun b q C _ hC ho => ?_, fun b q C b' q' _ hC ho => ?_, Nat.le_refl _⟩
  · show (Tr.nil.set 0 (⟨pows, true, false, 0, .row⟩ : Blk)).get b = none
    have hb' : 10 ≤ b := hb
    rw [Tr.get_set, if_neg (by omega)]; rfl
  · obtain ⟨rfl, rfl⟩ := start_blk hC
    change (if 0 < 10 then ρ 0 else none) = some q at hb
    rw [if_pos (by omega), h0] at hb
    cases hb
    have hk : ∃ C, σ.blk 0 = some C ∧ C.kind = .row ∧ C = B := by
      obtain ⟨C, h1, h2⟩ := ob_eq (show ob (σ.blk 0) _ = some B from hB)
      obtain ⟨cells, live, own, ver, kind⟩ := C
      cases kind with
      | row => cases h2; exact ⟨_, h1, rfl, rfl⟩
      | map => cases h2
      | loop => cases h2
    obtain ⟨C, k1, k2, rfl⟩ := hk
    have hsit := hR.sits 0 _ C h0 k1
    unfold Sits at hsit
    rw [k2] at hsit
    obtain ⟨arr, e, lo, hi, a1, a2, a3, a4, a5, a6⟩ := hsit
    have hd := hR.dom 0 _ h0
    refine .row rfl ⟨arr, e, lo, hi, a1, a2, ?_, fun h => ?_, fun v hv => (pows_cell v hv).1, fun i v hv => ?_⟩
    · have : pows.length = 20 := rfl
      show 0 + pows.length ≤ m
      have a3' : 0 + C.cells.length ≤ m := a3
      omega
    · have h' : w.heap.size ≤ 0 := h
      have hd' : 0 < w.heap.size := hd
      omega
    · obtain ⟨n, rfl⟩ := (pows_cell v (List.mem_of_getElem? hv)).2
      have hv' : C.cells[i]? = some (.int .u64 n) := by
        rw [s2, List.drop_zero, List.getElem?_take] at hv
        split at hv
        · exact hv
        · cases hv
      obtain ⟨v', b1, b2⟩ := a6 i _ hv'
      refine ⟨v', b1, ?_⟩
      cases b2
      exact .scal rfl
  · change (if b < 10 then ρ b else none) = some q at hb
    split at hb
    · exact hR.dom b q hb
    · cases hb
  · obtain ⟨rfl, rfl⟩ := start_blk hC; cases ho
  · obtain ⟨rfl, rfl⟩ := start_blk hC; cases ho
theorem funcs_ok : funcsOk Tryz.prog CS 10 Tryz.prog.funcs.toList 0 = true := by kernel_rfl
theorem mixed : Tryz.prog.follows .mixedOrders = true := by kernel_rfl
theorem okTrue_eq {x : Option CR} (h : okTrue x = true) : ∃ σ, x = some ⟨false, .bool true, σ⟩ := by
  unfold okTrue at h
  split at h
  · subst h; exact ⟨_, rfl⟩
  · cases h
theorem sums_ok {base : Env} (hchk : ∀ n c, base.chk n c = codeOk Tryz.prog n 10 c) : SumsOk Tryz.prog base 10 HS := by
  intro g s hs run hE vs σ r h
  unfold HS at hs
  split at hs
  · rename_i hg
    subst hg
    cases hs
    cases vs with
    | nil =>
      obtain ⟨h1, h2⟩ := bb_eq (show bb (sameRow (σ.read 0 0 20) (some pows)) (some ⟨false, .bool true, σ⟩) = some r from h)
      cases h2
      refine ⟨.refl _, fun ρ w vs' N hR hF hN hG hv => ?_⟩
      cases hv
      obtain ⟨σ1, hs⟩ := okTrue_eq san
      exact closed_sum2 mixed hchk funcs_ok (fun lo => caught_sum okParts) (by rfl) (fun b B hb => by obtain ⟨-, rfl⟩ := start_blk hb; rfl) rfl hs σ (N := N) hR hG (start_rel hR hG (sameRow_eq h1))
    | cons v vs => cases h
  · exact caught_sum okParts g s hs run hE vs σ r h
end Go.Proofs.B
