/- What the listed variables lay: the row of the powers of ten. -/
import Derived.Test.YthjkgbomoaghoaaGreatDoorBDoor
import Derived.Test.YthjkgbomoaghoaaGreatDoorRows
import Derived.WalkKit
import Derived.ProofKit
import Derived.OpenShut
import Derived.ShutString
import Derived.ChangeOld
import Derived.Below
import Derived.LaidMore
import Derived.Stop.Joined
import Derived.SevenTiedAt
import Derived.ChangeReads
set_option linter.unusedSimpArgs false
set_option linter.unusedVariables false
namespace Go.Proofs.YthjkgbomoaghoaaGreatDoor
open Go Go.ChangeShapes Go.WideShapes Go.ChangeAt Go.RowKit
theorem trod_u64 {H : Type} {enc : TypeId × Value → H} {P : Program} {w : World} {spare : Nat → Bool} {held : Bool} {m : Nat} {e : TypeId} {cs : List Value} {l : Int} {q : List MemPlace} (ht : P.underlying e = some (.int .u64)) (h : DataW.trod enc P w 0 spare held m e cs = some (.lit (.int .u64 l), q)) : cs = [.int .u64 l] := by
  cases m with
  | zero => simp [DataW.trod] at h
  | succ m =>
    unfold DataW.trod at h
    rw [ht] at h
    split at h <;> simp_all
set_option maxRecDepth 100000 in
theorem heap0 {W : World} (h : laidMetH Tryz.prog Rows.typesPowersRow.laid W) : ∃ (arr : Array Value) (e : TypeId) (f : Nat × Nat), W.heap[0]? = some (.cells arr e f) ∧ ∀ (i : Nat) (v : Value), B.pows[i]? = some v → arr[i]? = some v := by
  rw [MakeChecks.laidMetH_plain _ _ _ (by kernel_rfl)] at h
  obtain ⟨ps, hv, -, -⟩ := h
  obtain ⟨g0, t0, cs0, f0, p0, q0, hg0, ht0, hv0, hd0, hv, -⟩ := hv
  obtain ⟨g1, t1, cs1, f1, p1, q1, hg1, ht1, hv1, hd1, hv, -⟩ := hv
  obtain ⟨g2, t2, cs2, f2, p2, q2, hg2, ht2, hv2, hd2, -, -⟩ := hv
  have e : Tryz.prog.globalNamed "internal/strconv.uint64pow10" = some 0 := by kernel_rfl
  obtain rfl := Option.some.inj (e.symm.trans hg2)
  have et : (Tryz.prog.globals[0]?).map (·.type) = some 254 := by kernel_rfl
  obtain rfl := Option.some.inj (et.symm.trans ht2)
  simp only [World.var?, hg2, Option.bind_some] at hv2
  have hu : Tryz.prog.underlying 254 = some (.array 20 98) := by kernel_rfl
  obtain ⟨xs, m, -, hx, hlen, hxl, hi⟩ := DataW.trod_array hu hd2
  have hc98 : Tryz.prog.cellsOf 98 = 1 := by kernel_rfl
  have hxm : xs.map (·.1) = [1, 10, 100, 1000, 10000, 100000, 1000000, 10000000, 100000000, 1000000000, 10000000000, 100000000000, 1000000000000, 10000000000000, 100000000000000, 1000000000000000, 10000000000000000, 100000000000000000, 1000000000000000000, 10000000000000000000].map fun n => DataW.lit (.int .u64 n) := by
    have := congrArg Prod.fst hx
    injection this with h1
    exact h1.symm
  have key : ∀ (i : Nat) (v : Value), B.pows[i]? = some v → cs2.toList[i]? = some v := by
    intro i v hp
    have hp' : B.pows = ([1, 10, 100, 1000, 10000, 100000, 1000000, 10000000, 100000000, 1000000000, 10000000000, 100000000000, 1000000000000, 10000000000000, 100000000000000, 1000000000000000, 10000000000000000, 100000000000000000, 1000000000000000000, 10000000000000000000] : List Int).map fun n => Value.int .u64 n := rfl
    rw [hp', List.getElem?_map] at hp
    obtain ⟨n, hn, rfl⟩ := Option.map_eq_some_iff.1 hp
    have hi20 : i < 20 := (List.getElem?_eq_some_iff.1 hn).1
    have h1 : (xs.map (·.1))[i]? = some (.lit (.int .u64 n)) := by rw [hxm, List.getElem?_map, hn]; rfl
    rw [List.getElem?_map] at h1
    obtain ⟨⟨d, q⟩, h2, h3⟩ := Option.map_eq_some_iff.1 h1
    cases h3
    have h4 := hi i hi20
    rw [h2, hc98, Nat.mul_one] at h4
    have h5 := trod_u64 (by kernel_rfl) h4
    have h6 : ((cs2.toList.drop i).take 1)[0]? = some (.int .u64 n) := by rw [h5]; rfl
    rw [List.getElem?_take, if_pos (by omega), List.getElem?_drop, Nat.add_zero] at h6
    exact h6
  split at hv2
  · rename_i arr e f hh
    cases hv2
    exact ⟨_, _, _, hh, fun i v hp => by have := key i v hp; simpa using this⟩
  · cases hv2
end Go.Proofs.YthjkgbomoaghoaaGreatDoor
