/- What the listed variables lay: the row of the powers of ten. -/
import Derived.Test.YtbppcehkpcgmkaaGreatDoorMHead
import Derived.Test.YtbppcehkpcgmkaaGreatDoorRows
import Derived.WalkKit
import Derived.ProofKit
import Derived.OpenShut
import Derived.ShutString
import Derived.ChangeOld
import Derived.Below
import Derived.LaidMore
import Derived.Stop.Joined
import Derived.SevenTiedAt
import Derived.ChangeReads
import Derived.Test.YtbppcehkpcgmkaaGreatDoorAbD
import Derived.Test.YtbppcehkpcgmkaaGreatDoorMRa
import Derived.Test.YtbppcehkpcgmkaaGreatDoorMRb
import Derived.Test.YtbppcehkpcgmkaaGreatDoorMRc
import Derived.Test.YtbppcehkpcgmkaaGreatDoorMRd
set_option linter.unusedSimpArgs false
set_option linter.unusedVariables false
namespace Go.Proofs.YtbppcehkpcgmkaaGreatDoor
open Go Go.ChangeShapes Go.WideShapes Go.ChangeAt Go.RowKit
theorem trod_u64 {H : Type} {enc : TypeId × Value → H} {P : Program} {w : World} {spare : Nat → Bool} {held : Bool} {m : Nat} {e : TypeId} {cs : List Value} {l : Int} {q : List MemPlace} (ht : P.underlying e = some (.int .u64)) (h : DataW.trod enc P w 0 spare held m e cs = some (.lit (.int .u64 l), q)) : cs = [.int .u64 l] := by
  cases m with
  | zero => simp [DataW.trod] at h
  | succ m =>
    unfold DataW.trod at h
    rw [ht] at h
    split at h <;> simp_all
set_option maxRecDepth 100000 in
theorem heap0 {W : World} (h : laidMetH Tryz.prog Rows.amendManyRow.laid W) : ∃ (arr : Array Value) (e : TypeId) (f : Nat × Nat), W.heap[1]? = some (.cells arr e f) ∧ arr.size = 20 ∧ ∀ (i : Nat) (v : Value), M.pows[i]? = some v → arr[i]? = some v := by
  rw [MakeChecks.laidMetH_plain _ _ _ (by kernel_rfl)] at h
  obtain ⟨ps, hv, -, -⟩ := h
  obtain ⟨g0, t0, cs0, f0, p0, q0, hg0, ht0, hv0, hd0, hv, -⟩ := hv
  obtain ⟨g1, t1, cs1, f1, p1, q1, hg1, ht1, hv1, hd1, hv, -⟩ := hv
  obtain ⟨g2, t2, cs2, f2, p2, q2, hg2, ht2, hv2, hd2, -, -⟩ := hv
  obtain rfl : g2 = 1 := Option.some.inj (hg2.symm.trans (by kernel_rfl))
  have et : (Tryz.prog.globals[1]?).map (·.type) = some 326 := by kernel_rfl
  obtain rfl := Option.some.inj (et.symm.trans ht2)
  simp only [World.var?, hg2, Option.bind_some] at hv2
  have hu : Tryz.prog.underlying 326 = some (.array 20 158) := by kernel_rfl
  obtain ⟨xs, m, -, hx, hlen, hxl, hi⟩ := DataW.trod_array hu hd2
  have hcU : Tryz.prog.cellsOf 158 = 1 := by kernel_rfl
  have hxm : xs.map (·.1) = [1, 10, 100, 1000, 10000, 100000, 1000000, 10000000, 100000000, 1000000000, 10000000000, 100000000000, 1000000000000, 10000000000000, 100000000000000, 1000000000000000, 10000000000000000, 100000000000000000, 1000000000000000000, 10000000000000000000].map fun n => DataW.lit (.int .u64 n) := by
    have := congrArg Prod.fst hx
    injection this with h1
    exact h1.symm
  have key : ∀ (i : Nat) (v : Value), M.pows[i]? = some v → cs2.toList[i]? = some v := by
    intro i v hp
    have hp' : M.pows = ([1, 10, 100, 1000, 10000, 100000, 1000000, 10000000, 100000000, 1000000000, 10000000000, 100000000000, 1000000000000, 10000000000000, 100000000000000, 1000000000000000, 10000000000000000, 100000000000000000, 1000000000000000000, 10000000000000000000] : List Int).map fun n => Value.int .u64 n := rfl
    rw [hp', List.getElem?_map] at hp
    obtain ⟨n, hn, rfl⟩ := Option.map_eq_some_iff.1 hp
    have hi20 : i < 20 := (List.getElem?_eq_some_iff.1 hn).1
    have h1 : (xs.map (·.1))[i]? = some (.lit (.int .u64 n)) := by rw [hxm, List.getElem?_map, hn]; rfl
    rw [List.getElem?_map] at h1
    obtain ⟨⟨d, q⟩, h2, h3⟩ := Option.map_eq_some_iff.1 h1
    cases h3
    have h4 := hi i hi20
    rw [h2, hcU, Nat.mul_one] at h4
    have h5 := trod_u64 (by kernel_rfl) h4
    have h6 : ((cs2.toList.drop i).take 1)[0]? = some (.int .u64 n) := by rw [h5]; rfl
    rw [List.getElem?_take, if_pos (by omega), List.getElem?_drop, Nat.add_zero] at h6
    exact h6
  split at hv2
  · rename_i arr e f hh
    cases hv2
    exact ⟨_, _, _, hh, by have hc : Tryz.prog.cellsOf 326 = 20 := by kernel_rfl
                           rw [hc] at hlen; simpa using hlen, fun i v hp => by have := key i v hp; simpa using this⟩
  · cases hv2
end Go.Proofs.YtbppcehkpcgmkaaGreatDoor
namespace Go.Proofs.YtbppcehkpcgmkaaGreatDoor
open Go Go.ChangeShapes Go.WideShapes Go.ChangeAt Go.RowKit
theorem noOwn_start : Ab.NoOwn M.start := fun b C h => by obtain ⟨-, rfl⟩ := M.start_blk h; rfl
theorem start_world {base : Ab.Env} {w : World} (hb : base.lo = w.heap.size) (hg : 10 ≤ w.heap.size) {arr : Array Value} {e : TypeId} {f : Nat × Nat} (h0 : w.heap[1]? = some (.cells arr e f)) (hp : ∀ (i : Nat) (v : Value), M.pows[i]? = some v → arr[i]? = some v) :
    ∃ ρ, Ab.Rel base ρ M.start w ∧ Ab.Glob ρ 10 ∧ ∀ b, M.start.n ≤ b → ρ b = none := by
  refine ⟨fun b => if b = 1 then some ⟨1, 0, arr.size⟩ else if b < 10 then some ⟨b, 0, 0⟩ else none, ⟨fun b hb' => ?_, fun b q C hq hC => ?_, fun b q hq => ?_, fun b q C _ hC ho => ?_, fun b q C b' q' _ hC ho => ?_, by omega⟩, fun g hg' => ?_, fun b hb' => ?_⟩
  · show (Ab.Tr.nil.set 1 (⟨M.pows, true, false, 0, .row none⟩ : Ab.Blk)).get b = none
    have h10 : 10 ≤ b := hb'
    rw [Ab.Tr.get_set, if_neg (by omega)]; rfl
  · obtain ⟨rfl, rfl⟩ := M.start_blk hC
    rw [if_pos rfl] at hq
    cases hq
    obtain ⟨lo, hi⟩ := f
    have hl : M.pows.length = 20 := rfl
    have h19 : ∃ v, M.pows[19]? = some v := ⟨_, rfl⟩
    obtain ⟨v19, h19⟩ := h19
    have hsz : 19 < arr.size := by
      have := hp 19 v19 h19
      exact (Array.getElem?_eq_some_iff.1 this).1
    refine .row rfl ⟨arr, e, lo, hi, h0, rfl, by show 0 + M.pows.length ≤ arr.size; omega, fun h => ?_, fun v hv => (M.pows_cell v hv).1, fun i v hv => ?_⟩ Ab.Typed.none
    · have h' : base.lo ≤ 1 := h
      omega
    · obtain ⟨n, rfl⟩ := (M.pows_cell v (List.mem_of_getElem? hv)).2
      exact ⟨_, by show arr[0 + i]? = _; rw [Nat.zero_add]; exact hp i _ hv, .scal rfl⟩
  · split at hq
    · cases hq; show 1 < w.heap.size; omega
    · split at hq
      · cases hq; show b < w.heap.size; omega
      · cases hq
  · obtain ⟨rfl, rfl⟩ := M.start_blk hC; cases ho
  · obtain ⟨rfl, rfl⟩ := M.start_blk hC; cases ho
  · by_cases h : g = 1
    · subst h; exact ⟨_, if_pos rfl, fun _ h => absurd h (by decide)⟩
    · exact ⟨0, by show (if g = 1 then _ else if g < 10 then _ else none) = _; rw [if_neg h, if_pos hg'], fun h1 _ => absurd h1 h⟩
  · have h10 : 10 ≤ b := hb'
    show (if b = 1 then _ else if b < 10 then _ else none) = none
    rw [if_neg (by omega), if_neg (by omega)]
theorem hrun (n a : Int) (ha : 0 ≤ a ∧ a < 4) : M.okTrue (M.rest n a) = true := by
  rcases (by omega : a = 0 ∨ a = 1 ∨ a = 2 ∨ a = 3) with rfl | rfl | rfl | rfl
  · exact M.run0 n
  · exact M.run1 n
  · exact M.run2 n
  · exact M.run3 n
theorem walk {n : Int} (hn : 0 ≤ n ∧ n < 256) {w : World} (hg : 10 ≤ w.heap.size) {arr : Array Value} {e : TypeId} {f : Nat × Nat} (h0 : w.heap[1]? = some (.cells arr e f)) (hp : ∀ (i : Nat) (v : Value), M.pows[i]? = some v → arr[i]? = some v) :
    Calls Tryz.prog 3 #[.int .u8 n] w fun e w' => e = .returned (.bool true) ∧ Below w.heap.size w w' := by
  let base : Ab.Env := ⟨w.heap.size, fun n c => Ab.codeOk Tryz.prog n 10 c⟩
  have hchk : ∀ n c, base.chk n c = Ab.codeOk Tryz.prog n 10 c := fun _ _ => rfl
  obtain ⟨ρ, hR, hG, hF⟩ := start_world (base := base) rfl hg h0 hp
  have ha : 0 ≤ n.tmod 4 ∧ n.tmod 4 < 4 := by rw [Int.tmod_eq_emod_of_nonneg hn.1]; omega
  obtain ⟨σ', hgo⟩ := M.law_many (n := n) rfl ha (hrun n _ ha)
  have hev : Ab.Ev (Ab.go Tryz.prog M.HS (.fn 3) [.int .u8 n] M.start) (fun r => ∃ σ', r = ⟨false, .bool true, σ'⟩) ⟨⟩ := ⟨_, hgo, σ', rfl⟩
  refine (Ab.calls_of_ev (base := base) M.mixed hchk M.funcsOk_HS (M.hs_ok hchk) Tryz.func3 rfl hev hR hF hG (.cons (.scal rfl) .nil)).mono ?_
  rintro en w' ⟨r, v', ρ', ⟨σ', rfl⟩, rfl, r1, r2, r3⟩
  refine ⟨by cases r3; rfl, r2.out.os, r2.out.tape, r2.out.output, r2.size, fun c hc => r2.keep c hc fun b q C _ _ hC => noOwn_start b C hC⟩
end Go.Proofs.YtbppcehkpcgmkaaGreatDoor
