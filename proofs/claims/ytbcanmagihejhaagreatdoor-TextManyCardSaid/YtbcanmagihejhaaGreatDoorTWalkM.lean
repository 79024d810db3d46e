/- The walk of TextMany, from the world's package-level variables. -/
import Derived.Test.YtbcanmagihejhaaGreatDoorTS
import Derived.Test.YtbcanmagihejhaaGreatDoorTK
set_option linter.unusedSimpArgs false
set_option linter.unusedVariables false
namespace Go.Proofs.YtbcanmagihejhaaGreatDoor
open Go Go.ChangeShapes Go.WideShapes Go.ChangeAt Go.RowKit
theorem start_pows : T.start.read 1 0 20 = some T.pows := by kernel_rfl
theorem walkMany {n c : Int} (hn : 0 ≤ n ∧ n < 256) (hc : 0 ≤ c ∧ c < 256) {w : World} (hg : 8 ≤ w.heap.size) {arr : Array Value} {e : TypeId} {f : Nat × Nat} (h0 : w.heap[1]? = some (.cells arr e f)) (hp : ∀ (i : Nat) (v : Value), T.pows[i]? = some v → arr[i]? = some v) :
    Calls Tryz.prog 10 #[.int .u8 n, .int .u8 c] w fun e w' => e = .returned (.bool true) ∧ Below w.heap.size w w' := by
  let base : Ab.Env := ⟨w.heap.size, fun n c => Ab.codeOk Tryz.prog n 8 c⟩
  have hchk : ∀ n c, base.chk n c = Ab.codeOk Tryz.prog n 8 c := fun _ _ => rfl
  obtain ⟨ρ, hR, hG, hF⟩ := start_world (base := base) rfl hg h0 hp
  have ha : n.tmod 30 = ((n.tmod 30).toNat : Nat) := by rw [Int.tmod_eq_emod_of_nonneg hn.1]; omega
  have ha2 : (n.tmod 30).toNat < 30 := by rw [Int.tmod_eq_emod_of_nonneg hn.1]; omega
  have hb : c.tmod 4 = ((c.tmod 4).toNat : Nat) := by rw [Int.tmod_eq_emod_of_nonneg hc.1]; omega
  have hb2 : (c.tmod 4).toNat < 4 := by rw [Int.tmod_eq_emod_of_nonneg hc.1]; omega
  have h1 : ∀ kd, kd < 4 → Ab.sub [Value.int .i64 11, .int .i64 11, .int .i64 24, .int .i64 12] kd 1 = some [.int .i64 (T.mostT kd : Nat)] := by
    intro kd hk
    match kd, hk with
    | 0, _ => rfl
    | 1, _ => rfl
    | 2, _ => rfl
    | 3, _ => rfl
  have hev := T.many_walk hb2 hb ha2 ha (h1 _ hb2) start_pows
  refine (Ab.calls_of_ev (base := base) T.mixed hchk T.funcsOk_HS (T.sums_ok hchk) Tryz.func10 rfl hev hR hF hG (.cons (.scal rfl) (.cons (.scal rfl) .nil))).mono ?_
  rintro en w' ⟨r, v', ρ', ⟨σ', rfl⟩, rfl, r1, r2, r3⟩
  refine ⟨by cases r3; rfl, r2.out.os, r2.out.tape, r2.out.output, r2.size, fun c hc => r2.keep c hc fun b q C _ _ hC => noOwn_start b C hC⟩
end Go.Proofs.YtbcanmagihejhaaGreatDoor
