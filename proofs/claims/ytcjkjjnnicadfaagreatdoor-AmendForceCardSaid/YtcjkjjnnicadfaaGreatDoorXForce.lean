/- probitylaw08.AmendForce returns true for every input, and each argument reads afterwards as it read before; where the listed package-level variables hold what the program's text lays. -/
import Derived.Test.YtcjkjjnnicadfaaGreatDoorF8
import Derived.Test.YtcjkjjnnicadfaaGreatDoorXSan
import Derived.Test.YtcjkjjnnicadfaaGreatDoorRows
import Derived.Test.YtcjkjjnnicadfaaGreatDoorCards
import Derived.Test.YtcjkjjnnicadfaaGreatDoorTie
import Derived.WalkKit
import Derived.ProofKit
import Derived.OpenShut
import Derived.ShutString
import Derived.ChangeOld
import Derived.Below
import Derived.LaidMore
import Derived.Stop.Joined
import Derived.SevenTiedAt
set_option linter.unusedSimpArgs false
set_option linter.unusedVariables false
namespace Go.Proofs.YtcjkjjnnicadfaaGreatDoor.amendForce
open Go Go.ChangeShapes Go.WideShapes Go.ChangeAt Go.RowKit
open Go.ChangeMaps (open_string shut_string)
set_option linter.unusedVariables false

theorem own : ownKnob Tryz.prog.godebug = none := by kernel_rfl
theorem laidOut : laidOutB Tryz.prog = true := by kernel_rfl

/-- A slice of integers that came in. -/
def IsRow (k : IntKind) (w : World) (a : Option Addr) (len cap : Nat) (zs : List Int) : Prop :=
  (a = none ∧ len = 0 ∧ cap = 0 ∧ zs = []) ∨
  ∃ x, a = some x ∧ len ≤ cap ∧ cap ≤ maxLen ∧ zs.length = cap ∧ (∀ i, i < zs.length → w.cell? (x.add i) = some (.int k (zs.getD i 0))) ∧ ∀ n ∈ zs, (Lit.int k n).wf = true

/-- What the walk leaves of the world. -/
theorem below_of {base : Ab.Env} {ρ ρ' : Ab.Place} {σ σ' : Ab.St} {w w' : World} (hN : Ab.NoOwn σ) (h : Ab.Fram ρ σ w ρ' σ' w') : Below w.heap.size w w' :=
  ⟨h.out.os, h.out.tape, h.out.output, h.size, fun c hc => h.keep c hc fun b q B _ _ hB => hN b B hB⟩

theorem sub_one {α : Type} : ∀ (l : List α) (k : Nat) (x : α), l[k]? = some x → Ab.sub l k 1 = some [x] := by
  intro l
  induction l with
  | nil => intro k x h; simp at h
  | cons y l ih =>
    intro k x h
    cases k with
    | zero => simp at h; subst h; rfl
    | succ k => exact ih k x (by simpa using h)

theorem walk (a0 : Option Addr) (len0 cap0 : Nat) (z0 : List Int) (a1 : Int) (a2 : Int) (w : World) (w0 : IsRow .u8 w a0 len0 cap0 z0) (w1 : (Lit.int .u16 a1).wf = true) (w2 : (Lit.int .u8 a2).wf = true) (hg : 6 ≤ w.heap.size) :
    Calls Tryz.prog 8 #[.slice a0 len0 cap0, .int .u16 a1, .int .u8 a2] w fun e w' => e = .returned (.bool true) ∧ Below w.heap.size w w' := by
  have b1 := bounds_u16 w1
  have b2 := bounds_u8 w2
  obtain ⟨t, rfl⟩ := Int.eq_ofNat_of_zero_le b1.1
  obtain ⟨m, rfl⟩ := Int.eq_ofNat_of_zero_le b2.1
  let base : Ab.Env := ⟨w.heap.size, fun n c => Ab.codeOk Tryz.prog n 6 c⟩
  have hchk : ∀ n c, base.chk n c = Ab.codeOk Tryz.prog n 6 c := fun _ _ => rfl
  have hR0 := Ab.gplace_rel (base := base) (G := 6) hg rfl
  have hF0 := Ab.gplace_free 6
  have key : ∀ (σ : Ab.St) (ρ : Ab.Place) (ta : Option Addr) (tb : Nat) (ws : Nat → Nat) (tcs : List Value), Ab.Rel base ρ σ w → Ab.NoOwn σ → (∀ b, σ.n ≤ b → ρ b = none) → Ab.Glob ρ 6 → Ab.VRel ρ (.slice ta len0 cap0) (.slice a0 len0 cap0) →
      (0 < len0 → ta = some ⟨tb, 0, none⟩ ∧ tb < σ.n ∧ σ.row tb = some tcs) → (∀ k, k < len0 → Ab.sub tcs k 1 = some [.int .u8 (ws k : Nat)]) → (∀ k, ws k < 256) →
      Calls Tryz.prog 8 #[.slice a0 len0 cap0, .int .u16 t, .int .u8 m] w fun e w' => e = .returned (.bool true) ∧ Below w.heap.size w w' := by
    intro σ ρ ta tb ws tcs hR hN hF hG hv h1 h2 h3
    have hev := X.f8_ok (σ := σ) (t := t) (m := m) (ta := ta) (tc := cap0) h1 h2 h3 (by omega) (by omega)
    refine (Ab.calls_of_ev (base := base) X.mixed hchk (Ab.funcsOk_sums X.funcs_ok) (X.sums_ok hchk) Tryz.func8 rfl hev hR hF hG (.cons hv (.cons (.scal rfl) (.cons (.scal rfl) .nil)))).mono ?_
    rintro en w' ⟨r, v', ρ', ⟨σ', rfl⟩, rfl, q1, q2, q3⟩
    refine ⟨?_, below_of (base := base) hN q2⟩
    cases q3
    rfl
  rcases w0 with ⟨rfl, rfl, rfl, rfl⟩ | ⟨x, rfl, hl, hmx, hz, hcell, hwz⟩
  · exact key ⟨.nil, 6⟩ (Ab.gplace 6) none 0 (fun _ => 0) [] hR0 (Ab.noOwn_nil 6) hF0 (Ab.gplace_glob 6) (.scal rfl) (by omega) (by omega) (by omega)
  · by_cases hc0 : cap0 = 0
    · subst hc0
      obtain rfl : len0 = 0 := by omega
      exact key ⟨.nil, 6⟩ (Ab.gplace 6) (some ⟨0, 0, none⟩) 0 (fun _ => 0) [] hR0 (Ab.noOwn_nil 6) hF0 (Ab.gplace_glob 6) (.slice0 (q := ⟨0, 0, 0⟩) rfl) (by omega) (by omega) (by omega)
    · have h0 := hcell 0 (by omega)
      obtain ⟨arr, el, f, hh, hsp, h00⟩ := Ab.cell_row (show w.cell? x = _ from h0)
      have hat : ∀ i, i < z0.length → arr[x.off + i]? = some (.int .u8 (z0.getD i 0)) := fun i hi => Ab.cell_add hh (hcell i hi)
      have hsz : x.off + z0.length ≤ arr.size := by
        have := hat (z0.length - 1) (by omega)
        rcases Nat.lt_or_ge (x.off + (z0.length - 1)) arr.size with h | h
        · omega
        · rw [Array.getElem?_eq_none h] at this; cases this
      have hxw : x.block < w.heap.size := by
        rcases Nat.lt_or_ge x.block w.heap.size with h | h
        · exact h
        · rw [Array.getElem?_eq_none h] at hh; cases hh
      have hR1 := Ab.rel_arg (base := base) hR0 (Ab.noOwn_nil 6) hF0 (c := x.block) (o := x.off) (m := arr.size) (cells := z0.map (Value.int .u8)) hh rfl (by rw [List.length_map]; exact hsz) hxw
        (fun v hv => by obtain ⟨n, -, rfl⟩ := List.mem_map.1 hv; rfl) (fun i v hi => by
          rw [List.getElem?_map] at hi
          cases hzi : z0[i]? with
          | none => rw [hzi] at hi; cases hi
          | some n =>
            rw [hzi] at hi
            cases hi
            obtain ⟨hlt, _⟩ := List.getElem?_eq_some_iff.1 hzi
            refine ⟨_, hat i hlt, ?_⟩
            rw [List.getD_eq_getElem?_getD, hzi]
            exact .scal rfl)
      have hx : (some x : Option Addr) = some ⟨x.block, x.off + 0, none⟩ := by obtain ⟨b, o, sp⟩ := x; cases (show sp = none from hsp); rfl
      have hbd : ∀ k, 0 ≤ z0.getD k 0 ∧ z0.getD k 0 < 256 := by
        intro k
        rw [List.getD_eq_getElem?_getD]
        cases hzk : z0[k]? with
        | none => exact ⟨Int.le_refl _, by decide⟩
        | some n => have := bounds_u8 (hwz n (List.mem_of_getElem? hzk)); exact ⟨this.1, by have := this.2; simp only [Option.getD_some]; omega⟩
      refine key (Ab.St.arg ⟨.nil, 6⟩ (z0.map (Value.int .u8))) ((Ab.gplace 6).put 6 ⟨x.block, x.off, arr.size⟩) (some ⟨6, 0, none⟩) 6 (fun k => (z0.getD k 0).toNat) (z0.map (Value.int .u8)) hR1 ((Ab.noOwn_nil 6).arg _) (Ab.put_free (σ := ⟨.nil, 6⟩) hF0) ?_ ?_ (fun _ => ⟨rfl, by rw [Ab.arg_n]; show 6 < 7; omega, Ab.arg_row _ _⟩) ?_ ?_
      · exact (Ab.gplace_glob 6).mono (Ab.Place.put_le _ (hF0 6 (Nat.le_refl _)))
      · rw [hx]
        exact .slice (q := ⟨x.block, x.off, arr.size⟩) (Ab.Place.put_same _ _ _)
      · intro k hk
        refine sub_one _ _ _ ?_
        rw [Int.toNat_of_nonneg (hbd k).1, List.getElem?_map, List.getD_eq_getElem?_getD]
        have hlt : k < z0.length := by omega
        rw [List.getElem?_eq_getElem hlt]
        rfl
      · intro k
        have := hbd k
        show (z0.getD k 0).toNat < 256
        omega

/-- A world whose listed variables hold what the text lays has all blocks of the package-level variables. -/
theorem globals_of {W : World} (h : laidMetH Tryz.prog Rows.amendForceRow.laid W) : 6 ≤ W.heap.size := by
  rw [MakeChecks.laidMetH_plain _ _ _ (by kernel_rfl)] at h
  obtain ⟨ps, hv, -, -⟩ := h
  obtain ⟨g0, t0, cs0, f0, p0, q0, hg0, ht0, hv0, hd0, hv, -⟩ := hv
  obtain ⟨g1, t1, cs1, f1, p1, q1, hg1, ht1, hv1, hd1, -, -⟩ := hv
  have e : Tryz.prog.globalNamed "math/bits.deBruijn64tab" = some 5 := by kernel_rfl
  obtain rfl := Option.some.inj (e.symm.trans hg1)
  simp only [World.var?, hg1, Option.bind_some] at hv1
  rcases Nat.lt_or_ge 5 W.heap.size with h | h
  · exact h
  · rw [Array.getElem?_eq_none h] at hv1; cases hv1

theorem door_met (os : Os) (args : Array Value) : laidMetH Tryz.prog Rows.amendForceRow.laid ((World.doorLaid Tryz.prog 400 os).forCall (fun _ _ => 0) ⟨#[], args, []⟩).memory :=
  laidMetH_of_parts3 (fuel := 8) (laidMet_of_run' 8 (by kernel_rfl) (by kernel_rfl)) (by kernel_rfl) (by kernel_rfl)

set_option maxRecDepth 100000 in
theorem lifted (os : Os) (started : os.Started) (H : Type) (enc : TypeId × Value → H) :
    ReturnsInHanded {} Tryz.checked os 8 .any (fun w args => (Rows.amendForceSpec.pre enc Tryz.prog Tryz.f8 Rows.amendForceRow.domain false w args ∧ laidMetH Tryz.prog Rows.amendForceRow.laid w) ∧ sizedMet enc Tryz.prog Tryz.f8 (OpenSpec.ofChange Rows.amendForceSpec) false w args)
      (Rows.amendForceSpec.post enc Tryz.prog Tryz.f8 false true false false) := by
  refine returnsInHanded_of_change_and (C := Tryz.checked) (X := fun w _ => laidMetH Tryz.prog Rows.amendForceRow.laid w) (fun _ _ _ hh h => h.of_heap hh) own started (by kernel_rfl) Tryz.func8
    (ChangeSpec.witness_shaped (enc := enc) (C := Tryz.checked) (os := os) (X := fun w _ => laidMetH Tryz.prog Rows.amendForceRow.laid w) false (World.doorLaid Tryz.prog 400 os) #[.slice none 0 0, .int .u16 0, .int .u8 0] 8 rfl (World.shaped_of_RefB (by kernel_rfl) (by kernel_rfl)) (by kernel_rfl) (by kernel_rfl) (by kernel_rfl) (door_met os _)) ?_
  intro W base args ds gs before hval0 hW hcnd _ hL _
  have hval : ∀ (j : Nat) t v, Tryz.f8.params[j]? = some t → args[j]? = some v → Value.okWide Tryz.prog W .any base t v := hval0
  have hW' := hW
  obtain ⟨p, q, hA0, hV, rfl, hfz, hnd⟩ := hW
  have hA : DataW.TrodAll enc Tryz.prog W 0 (fun _ => true) true Tryz.f8.params.toList args.toList ds p := hA0
  rw [Tryz.params8] at hA hval
  obtain ⟨v0, vs0, d0, ds0, p0, q0, hargs, rfl, rfl, h0, r0⟩ := trodAll_cons hA
  obtain ⟨v1, vs1, d1, ds1, p1, q1, rfl, rfl, rfl, h1, r1⟩ := trodAll_cons r0
  obtain ⟨v2, vs2, d2, ds2, p2, q2, rfl, rfl, rfl, h2, r2⟩ := trodAll_cons r1
  obtain ⟨rfl, rfl, rfl⟩ := trodAll_nil r2
  obtain rfl : args = #[v0, v1, v2] := by cases args; simp_all
  obtain ⟨rfl, rfl⟩ := trodVars_none hV
  obtain ⟨a0, len0, cap0, rfl⟩ := okWide_slice Tryz.underlying74 (hval 0 74 v0 rfl rfl)
  have k0 := h0
  have lt0 : ∀ x ∈ p0, x.block < W.heap.size := by obtain ⟨m, hm⟩ := k0; exact DataW.trod_lt m _ _ _ hm
  obtain ⟨z0, w0⟩ : ∃ zs, IsRow .u8 W a0 len0 cap0 zs := by
    obtain ⟨fuel, hf⟩ := h0
    rcases open_ints Tryz.underlying74 Tryz.underlying5 (by kernel_rfl) hf with ⟨hcs, _⟩ | ⟨x, l, c, zs, hcs, _, hl, hm, hz, _, hcell, hwz⟩
    · simp [Value.cells] at hcs
      obtain ⟨rfl, rfl, rfl⟩ := hcs
      exact ⟨[], .inl ⟨rfl, rfl, rfl, rfl⟩⟩
    · simp [Value.cells] at hcs
      obtain ⟨rfl, rfl, rfl⟩ := hcs
      exact ⟨zs, .inr ⟨_, rfl, hl, hm, by simpa using hz, hcell, hwz⟩⟩
  obtain ⟨a1, rfl, rfl, rfl, w1⟩ := open_int Tryz.underlying60 (hval 1 60 v1 rfl rfl) h1
  obtain ⟨a2, rfl, rfl, rfl, w2⟩ := open_int Tryz.underlying5 (hval 2 5 v2 rfl rfl) h2
  have hgl := globals_of hL
  clear hA0 hval0
  refine (walk a0 len0 cap0 z0 a1 a2 W w0 w1 w2 hgl).mono fun e W' ⟨he, bel⟩ => ?_
  subst he
  exact ⟨_, rfl, _, _, _, [], _, [], hW', trodAll_mk1 (shut_bool Tryz.underlying4 _), (trodAll_cons_mk (Below.trod laidOut (by kernel_rfl) (of_decide_eq_true (by kernel_rfl)) k0 bel lt0) (trodAll_cons_mk (shut_int Tryz.underlying60 w1) (trodAll_cons_mk (shut_int Tryz.underlying5 w2) trodAll_mk0))), rfl, bel.frame _, fun h => by cases h⟩

theorem over : Rows.AmendForceSaid :=
  OpenClaim.holds_of_wide 8 Tryz.f8 rfl rfl rfl rfl rfl rfl rfl ⟨rfl, rfl, rfl, rfl, rfl⟩ rfl rfl rfl rfl rfl (by kernel_rfl) Tryz.func8 (by kernel_rfl)
    (of_decide_eq_true (by kernel_rfl)) (by unfold Func.isWrapper; rw [if_neg (of_decide_eq_false (by kernel_rfl))]; exact ⟨rfl, rfl⟩)
    (fun os started H enc _ => lifted os started H enc)

/-- The tied card. -/
theorem proved : Rows.AmendForceCardSaid :=
  Claim7.holds_tied_plain_at .later [] [.data, .data, .data, .sentinel, .sentinel] true (true, "5c856003e50e6a628c2a486b60bfb28e482fe4ddcf9d9821475f9119c717941a") true
    over (fun _ h => by cases h) (by kernel_rfl) (fun _ h => by cases h) amendForce_row_tie rfl ⟨rfl, rfl⟩ (by kernel_rfl) rfl
    (fun f fn hf hfn => by
      obtain rfl : f = 8 := Option.some.inj ((show Tryz.prog.funcNamed "probity/probitylaw08.AmendForce" = some 8 by kernel_rfl).symm.trans hf) |>.symm
      obtain rfl : fn = Tryz.f8 := (Option.some.inj (Tryz.func8.symm.trans hfn)).symm
      exact ⟨by kernel_rfl, fun j t ht => by
        rw [Tryz.params8] at ht
        have hm : t ∈ [74, 60, 5] := by simpa using Array.mem_of_getElem? ht
        have hall : ([74, 60, 5].all fun u => !Tryz.prog.wantsStandIn u) = true := by kernel_rfl
        exact (show Tryz.prog.wantsStandIn t = false by simpa using List.all_eq_true.1 hall t hm)⟩)
    (by kernel_rfl)
#print axioms proved
end Go.Proofs.YtcjkjjnnicadfaaGreatDoor.amendForce
