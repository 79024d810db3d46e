/- What the closed runs of this program begin with. -/
import Derived.Test.YtbppcehkpcgmkaaGreatDoorMBase
import Derived.Test.YtbppcehkpcgmkaaGreatDoorAbD
set_option linter.unusedSimpArgs false
set_option linter.unusedVariables false
namespace Go.Proofs.M
open Go Go.Ab
set_option maxRecDepth 1000000
theorem okParts : codeOk Tryz.prog 7 10 parts.1 = true ∧ codeOk Tryz.prog 7 10 parts.2.2.1 = true ∧ codeOk Tryz.prog 7 10 parts.2.2.2 = true := ⟨by kernel_rfl, by kernel_rfl, by kernel_rfl⟩
def okTrue : Option CR → Bool
  | some ⟨false, .bool b, _⟩ => b
  | _ => false
/-- What the table of powers of ten holds. -/
def pows : List Value := [.int .u64 1, .int .u64 10, .int .u64 100, .int .u64 1000, .int .u64 10000, .int .u64 100000, .int .u64 1000000, .int .u64 10000000, .int .u64 100000000, .int .u64 1000000000, .int .u64 10000000000, .int .u64 100000000000, .int .u64 1000000000000, .int .u64 10000000000000, .int .u64 100000000000000, .int .u64 1000000000000000, .int .u64 10000000000000000, .int .u64 100000000000000000, .int .u64 1000000000000000000, .int .u64 10000000000000000000]
noncomputable def start : St := ⟨Tr.nil.set 1 ⟨pows, true, false, 0, .row none⟩, 10⟩
theorem pows_cell : ∀ v ∈ pows, isCell v = true ∧ ∃ n, v = .int .u64 n := by
  intro v hv
  unfold pows at hv
  simp only [List.mem_cons, List.not_mem_nil, or_false] at hv
  rcases hv with rfl | rfl | rfl | rfl | rfl | rfl | rfl | rfl | rfl | rfl | rfl | rfl | rfl | rfl | rfl | rfl | rfl | rfl | rfl | rfl <;> exact ⟨rfl, _, rfl⟩
theorem start_blk {b : Nat} {B : Blk} (h : start.blk b = some B) : b = 1 ∧ B = ⟨pows, true, false, 0, .row none⟩ := by
  obtain ⟨h1, h2⟩ := blk_get h
  have h3 : (Tr.nil.set 1 (⟨pows, true, false, 0, .row none⟩ : Blk)).get b = some B := h1
  rw [Tr.get_set] at h3
  split at h3
  · rename_i hb; cases h3; exact ⟨hb, rfl⟩
  · cases h3
theorem start_rel {base : Env} {ρ : Ab.Place} {σ : St} {w : World} (hR : Rel base ρ σ w) (hG : Glob ρ 10) (hr : σ.read 1 0 20 = some pows) : Rel { base with lo := w.heap.size } (fun b => if b < 10 then ρ b else none) start w := by
  obtain ⟨B, hB, hs⟩ := ob_eq (show ob (σ.rblk 1) (fun B => sub B.cells 0 20) = some pows from hr)
  obtain ⟨m, h0, -⟩ := hG 1 (by omega)
  obtain ⟨s1, s2⟩ := sub_eq hs
  refine ⟨fun b hb => ?_, fun b q C hb hC => ?_, fun b q hb => ?_, fun b q C _ hC ho => ?_, fun b q C b' q' _ hC ho => ?_, Nat.le_refl _⟩
  · show (Tr.nil.set 1 (⟨pows, true, false, 0, .row none⟩ : Blk)).get b = none
    have hb' : 10 ≤ b := hb
    rw [Tr.get_set, if_neg (by omega)]; rfl
  · obtain ⟨rfl, rfl⟩ := start_blk hC
    change (if 1 < 10 then ρ 1 else none) = some q at hb
    rw [if_pos (by omega), h0] at hb
    cases hb
    obtain ⟨arr, e, lo, hi, a1, a2, a3, a4, a5, a6⟩ := hR.row 1 _ B h0 hB
    have hd := hR.dom 1 _ h0
    refine .row rfl ⟨arr, e, lo, hi, a1, a2, ?_, fun h => ?_, fun v hv => (pows_cell v hv).1, fun i v hv => ?_⟩ Ab.Typed.none
    · have : pows.length = 20 := rfl
      show 0 + pows.length ≤ m
      have a3' : 0 + B.cells.length ≤ m := a3
      omega
    · have h' : w.heap.size ≤ 1 := h
      have hd' : 1 < w.heap.size := hd
      omega
    · obtain ⟨n, rfl⟩ := (pows_cell v (List.mem_of_getElem? hv)).2
      have hv' : B.cells[i]? = some (.int .u64 n) := by
        rw [s2, List.drop_zero, List.getElem?_take] at hv
        split at hv
        · exact hv
        · cases hv
      obtain ⟨v', b1, b2⟩ := a6 i _ hv'
      refine ⟨v', b1, ?_⟩
      cases b2
      exact .scal rfl
  · change (if b < 10 then ρ b else none) = some q at hb
    split at hb
    · exact hR.dom b q hb
    · cases hb
  · obtain ⟨rfl, rfl⟩ := start_blk hC; cases ho
  · obtain ⟨rfl, rfl⟩ := start_blk hC; cases ho
theorem mixed : Tryz.prog.follows .mixedOrders = true := by kernel_rfl
theorem okTrue_eq {x : Option CR} (h : okTrue x = true) : ∃ σ, x = some ⟨false, .bool true, σ⟩ := by
  unfold okTrue at h
  split at h
  · subst h; exact ⟨_, rfl⟩
  · cases h
/-- A call whose result is known, moved to where it is called. -/
noncomputable def mvF (args : List Value) (t : RV) (rows : List (Option TypeId × List RV)) : Summ := .plain fun vs σ => bb (veqL vs args) (bb (sameRow (σ.read 1 0 20) (some pows)) (some ⟨false, t.eval (fun i => σ.n + i), lay (fun i => σ.n + i) σ rows⟩))
noncomputable def yes : Option Unit := some ()
/-- What shows a moved call sound: its run from the start. -/
theorem mvF_ok {base : Env} (hchk : ∀ n c, base.chk n c = codeOk Tryz.prog n 10 c) {H : Sums} (hP : funcsOk Tryz.prog H 10 Tryz.prog.funcs.toList 0 = true) (hH : ∀ lo, SumsOk Tryz.prog { base with lo := lo } 10 H)
    {g fuel : Nat} {args : List Value} (ha : allScal args = true) {f : Nat → Nat} {ps : List RP} {rows : List (Option TypeId × List RV)}
    (hinj : ∀ i j, i < rows.length → j < rows.length → f i = f j → i = j) (hok : (RV.tup (ps.map RP.rv)).ok rows.length = true)
    (h : (ob (callF Tryz.prog H (exec Tryz.prog H fuel) (.fn g) args start) fun r => bb (packOk f ps rows r) (some ())) = some ())
    {run : RunT} {vs : List Value} {σ : St} {r : CR} (hr : (mvF args (.tup (ps.map RP.rv)) rows).f run vs σ = some r) :
    Adv σ r.σ ∧ ∀ ρ w vs' N, Rel base ρ σ w → Free ρ σ.n N → r.σ.n ≤ N → Glob ρ 10 → VsRel ρ vs vs' → CallOk Tryz.prog base ρ g vs' σ w r := by
  obtain ⟨h1, h2⟩ := bb_eq (show bb (veqL vs args) (bb (sameRow (σ.read 1 0 20) (some pows)) (some (⟨false, (RV.tup (ps.map RP.rv)).eval (fun i => σ.n + i), lay (fun i => σ.n + i) σ rows⟩ : CR))) = some r from hr)
  obtain ⟨h3, h4⟩ := bb_eq h2
  cases h4
  obtain rfl := veqL_eq h1
  refine ⟨lay_adv _ _ _, fun ρ w vs' N hR hF hN hG hv => ?_⟩
  obtain ⟨σ1, k1, k2⟩ := packOk_eq h
  have hN' : σ.n + rows.length ≤ N := by
    have := lay_n (fun i => σ.n + i) rows σ
    simp only at hN
    omega
  have hvs : vs' = vs := by
    clear hr h h1 h2 k1 h3
    revert vs'
    induction vs with
    | nil => intro vs' hv; cases hv; rfl
    | cons v l ih =>
      intro vs' hv
      have ha' : bi (scal v) (allScal l) false = true := ha
      cases hv with
      | cons hv hvs =>
      cases hs : scal v with
      | false => rw [hs] at ha'; cases ha'
      | true =>
        rw [hs] at ha'
        rw [VRel.scal_eq hs hv, ih ha' _ hvs]
  subst hvs
  exact moved_sum mixed hchk hP hH (by rfl) (fun b B hb => by obtain ⟨-, rfl⟩ := start_blk hb; rfl) ha k1 hinj rfl hok k2 σ hR hF hN' hG (start_rel hR hG (sameRow_eq h3))
/-- Numbers of a list, each once. -/
noncomputable def atL (l : List Nat) (i : Nat) : Nat := l[i]?.getD 0
theorem atL_inj {l : List Nat} (h : l.Nodup) {i j : Nat} (hi : i < l.length) (hj : j < l.length) (he : atL l i = atL l j) : i = j := by
  unfold atL at he
  rw [List.getElem?_eq_getElem hi, List.getElem?_eq_getElem hj] at he
  have hp := List.pairwise_iff_getElem.1 h
  rcases Nat.lt_trichotomy i j with hl | hl | hl
  · exact absurd he (hp i j hi hj hl)
  · exact hl
  · exact absurd he.symm (hp j i hj hi hl)
end Go.Proofs.M
namespace Go.Proofs.M
open Go Go.Ab
def S (l : List UInt8) : Value := .string ⟨⟨l⟩⟩
/-- The tender of the law. -/
def txt : List UInt8 := [116, 101, 110, 100, 101, 114, 32, 116, 10, 108, 111, 116, 32, 49, 32, 109, 111, 115, 116, 32, 50, 48, 10, 112, 114, 105, 99, 101, 32, 48, 32, 49, 10, 102, 111, 114, 109, 117, 108, 97, 32, 49, 32, 42, 32, 40, 40, 49, 32, 45, 32, 112, 114, 105, 99, 101, 41, 32, 47, 32, 49, 41, 10, 116, 105, 101, 32, 112, 114, 105, 99, 101, 10, 98, 117, 100, 103, 101, 116, 32, 49, 48, 48, 10, 116, 105, 109, 101, 115, 32, 49, 48, 32, 49, 49, 32, 49, 50, 32, 49, 51, 32, 49, 10]
/-- The tender of the chapter. -/
def chs : List UInt8 := [116, 101, 110, 100, 101, 114, 32, 67, 104, 97, 105, 114, 115, 10, 108, 111, 116, 32, 49, 32, 109, 111, 115, 116, 32, 53, 48, 48, 10, 99, 114, 105, 116, 101, 114, 105, 111, 110, 32, 99, 111, 109, 102, 111, 114, 116, 32, 103, 114, 97, 100, 101, 32, 48, 32, 49, 48, 10, 112, 114, 105, 99, 101, 32, 49, 32, 53, 48, 48, 10, 102, 111, 114, 109, 117, 108, 97, 32, 48, 46, 54, 32, 42, 32, 108, 111, 119, 32, 47, 32, 112, 114, 105, 99, 101, 32, 43, 32, 48, 46, 48, 52, 32, 42, 32, 99, 111, 109, 102, 111, 114, 116, 10, 98, 117, 100, 103, 101, 116, 32, 53, 48, 48, 10, 116, 105, 109, 101, 115, 32, 49, 48, 32, 50, 48, 32, 51, 48, 32, 52, 48, 32, 53, 10]
def psP : List RP := [(.row [(.s (S [116])), (.gr 0 0 2 1 1), (.s (.slice none 0 0)), (.s (.slice none 0 0)), (.s (.int .i64 0)), (.s (.int .i64 1)), (.s (S [42])), (.s (.int .i64 0)), (.s (.int .i64 0)), (.s (S [])), (.sl 1 0 2 2), (.gr 2 0 1 1 1), (.s (.int .i64 0)), (.s (.slice none 0 0)), (.s (.int .i64 100)), (.s (.int .i64 10)), (.s (.int .i64 11)), (.s (.int .i64 12)), (.s (.int .i64 13)), (.s (.int .i64 1))]), (.one (.int .i64 0)), (.one (.int .i64 0))]
def rowsP : List (Option TypeId × List RV) := [
  (some 62, [(.s (.int .i64 1)), (.s (.int .i64 20))]),
  (none, [(.s (S [110, 117, 109])), (.s (.int .i64 1)), (.s (.int .i64 1)), (.s (S [])), (.s (.slice none 0 0)), (.s (S [47])), (.s (.int .i64 0)), (.s (.int .i64 0)), (.s (S [])), (.sl 3 0 2 2)]),
  (some 9, [(.s (S [112, 114, 105, 99, 101]))]),
  (none, [(.s (S [45])), (.s (.int .i64 0)), (.s (.int .i64 0)), (.s (S [])), (.sl 4 0 2 2), (.s (S [110, 117, 109])), (.s (.int .i64 1)), (.s (.int .i64 1)), (.s (S [])), (.s (.slice none 0 0))]),
  (none, [(.s (S [110, 117, 109])), (.s (.int .i64 1)), (.s (.int .i64 1)), (.s (S [])), (.s (.slice none 0 0)), (.s (S [110, 97, 109, 101])), (.s (.int .i64 0)), (.s (.int .i64 0)), (.s (S [112, 114, 105, 99, 101])), (.s (.slice none 0 0))])]
def bsP : List Nat := [74, 281, 307, 269, 237]
def psR : List RP := [(.row [(.s (S [67, 104, 97, 105, 114, 115])), (.gr 0 0 2 1 1), (.gr 1 0 5 1 1), (.s (.slice none 0 0)), (.s (.int .i64 1)), (.s (.int .i64 500)), (.s (S [43])), (.s (.int .i64 0)), (.s (.int .i64 0)), (.s (S [])), (.sl 2 0 2 2), (.s (.slice none 0 0)), (.s (.int .i64 0)), (.s (.slice none 0 0)), (.s (.int .i64 500)), (.s (.int .i64 10)), (.s (.int .i64 20)), (.s (.int .i64 30)), (.s (.int .i64 40)), (.s (.int .i64 5))]), (.one (.int .i64 0)), (.one (.int .i64 0))]
def rowsR : List (Option TypeId × List RV) := [
  (some 62, [(.s (.int .i64 1)), (.s (.int .i64 500))]),
  (some 49, [(.s (S [99, 111, 109, 102, 111, 114, 116])), (.s (.int .i64 1)), (.s (.int .i64 0)), (.s (.int .i64 10)), (.s (.bool false))]),
  (none, [(.s (S [47])), (.s (.int .i64 0)), (.s (.int .i64 0)), (.s (S [])), (.sl 3 0 2 2), (.s (S [42])), (.s (.int .i64 0)), (.s (.int .i64 0)), (.s (S [])), (.sl 4 0 2 2)]),
  (none, [(.s (S [42])), (.s (.int .i64 0)), (.s (.int .i64 0)), (.s (S [])), (.sl 5 0 2 2), (.s (S [110, 97, 109, 101])), (.s (.int .i64 0)), (.s (.int .i64 0)), (.s (S [112, 114, 105, 99, 101])), (.s (.slice none 0 0))]),
  (none, [(.s (S [110, 117, 109])), (.s (.int .i64 1)), (.s (.int .i64 25)), (.s (S [])), (.s (.slice none 0 0)), (.s (S [110, 97, 109, 101])), (.s (.int .i64 0)), (.s (.int .i64 0)), (.s (S [99, 111, 109, 102, 111, 114, 116])), (.s (.slice none 0 0))]),
  (none, [(.s (S [110, 117, 109])), (.s (.int .i64 3)), (.s (.int .i64 5)), (.s (S [])), (.s (.slice none 0 0)), (.s (S [110, 97, 109, 101])), (.s (.int .i64 0)), (.s (.int .i64 0)), (.s (S [108, 111, 119])), (.s (.slice none 0 0))])]
def bsR : List Nat := [37, 56, 143, 130, 141, 127]
def psC : List RP := [(.row [(.s (S [116])), (.gr 0 0 2 1 1), (.s (.slice none 0 0)), (.s (.slice none 0 0)), (.s (.int .i64 0)), (.s (.int .i64 1)), (.s (S [42])), (.s (.int .i64 0)), (.s (.int .i64 0)), (.s (S [])), (.sl 1 0 2 2), (.gr 2 0 1 1 1), (.s (.int .i64 0)), (.s (.slice none 0 0)), (.s (.int .i64 100)), (.s (.int .i64 10)), (.s (.int .i64 11)), (.s (.int .i64 12)), (.s (.int .i64 13)), (.s (.int .i64 1))]), (.one (.int .i64 0)), (.one (.int .i64 0))]
def rowsC : List (Option TypeId × List RV) := [
  (some 62, [(.s (.int .i64 1)), (.s (.int .i64 20))]),
  (none, [(.s (S [110, 117, 109])), (.s (.int .i64 1)), (.s (.int .i64 1)), (.s (S [])), (.s (.slice none 0 0)), (.s (S [47])), (.s (.int .i64 0)), (.s (.int .i64 0)), (.s (S [])), (.sl 3 0 2 2)]),
  (some 9, [(.s (S [112, 114, 105, 99, 101]))]),
  (none, [(.s (S [45])), (.s (.int .i64 0)), (.s (.int .i64 0)), (.s (S [])), (.sl 4 0 2 2), (.s (S [110, 117, 109])), (.s (.int .i64 1)), (.s (.int .i64 1)), (.s (S [])), (.s (.slice none 0 0))]),
  (none, [(.s (S [110, 117, 109])), (.s (.int .i64 1)), (.s (.int .i64 1)), (.s (S [])), (.s (.slice none 0 0)), (.s (S [110, 97, 109, 101])), (.s (.int .i64 0)), (.s (.int .i64 0)), (.s (S [112, 114, 105, 99, 101])), (.s (.slice none 0 0))])]
def bsC : List Nat := [11, 12, 13, 14, 15]
end Go.Proofs.M
