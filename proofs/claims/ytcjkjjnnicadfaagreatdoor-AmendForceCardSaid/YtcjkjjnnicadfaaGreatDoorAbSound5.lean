/- Calls of functions, and the whole: if the abstract machine gives a value, the model's call gives one that stands to it. -/
import Derived.Test.YtcjkjjnnicadfaaGreatDoorAbSound4
import Derived.RangeFuncLeaves
set_option linter.unusedSimpArgs false
set_option linter.unusedVariables false
namespace Go.Ab
open Go
section
variable {P : Program} {base : Env} {G : Nat}

theorem Rel.shut {ρ : Place} {σ : St} {w : World} (hR : Rel base ρ σ w) {D : Nat} {x : Option (List Deferred)} (hD : w.heap[D]? = some (.deferred x)) (o : Obj) : Rel base ρ σ (w.putObj D o) := by
  have hne : ∀ b q B, ρ b = some q → σ.blk b = some B → q.c ≠ D := by
    intro b q B h1 h2 he
    subst he
    exact (hR.sits b q B h1 h2).not_deferred hD
  refine ⟨hR.fresh, fun b q B h1 h2 => (hR.sits b q B h1 h2).mono (Place.le_refl _) (World.putObj_heap_other (hne b q B h1 h2)), fun b q h => by rw [World.putObj_size]; exact hR.dom b q h, hR.own, hR.sep, by rw [World.putObj_size]; exact hR.low⟩

theorem Fram.close {ρ ρ' : Place} {σ σ' : St} {w w' w'' : World} (h : Fram ρ σ w ρ' σ' w') (hk : ∀ c, c < w.heap.size → w''.heap[c]? = w'.heap[c]?) (hs : w''.heap.size = w'.heap.size) (ho : Outside w' w'') : Fram ρ σ w ρ' σ' w'' :=
  ⟨h.ext, h.n, by rw [hs]; exact h.size, fun c hc hb => by rw [hk c hc]; exact h.keep c hc hb, h.owned, h.out.trans ho, h.same⟩

theorem leave_marks {fn : Func} {tmps : Array Value} {R : Ending → World → Prop} {lo : Nat} {u : FrameMode} (hu : u ≠ .run) {ρ : Place} {σ : St} : ∀ (Ds : List Nat) (w : World), Ds.Nodup → (∀ D ∈ Ds, lo ≤ D ∧ w.heap[D]? = some (.deferred (some []))) → Rel base ρ σ w →
    (∀ w', Rel base ρ σ w' → (∀ c, c < lo → w'.heap[c]? = w.heap[c]?) → w'.heap.size = w.heap.size → Outside w w' → LeavesIn Fence.wide 0 P fn tmps R [] u w') → LeavesInM Fence.wide 0 P fn tmps R (Ds.map markOf) u w := by
  intro Ds
  induction Ds with
  | nil => intro w _ _ hR k; exact k w hR (fun _ _ => rfl) rfl (.refl _)
  | cons D Ds ih =>
    intro w hn hD hR k
    obtain ⟨n1, n2⟩ := List.nodup_cons.1 hn
    obtain ⟨d1, d2⟩ := hD D (by simp)
    refine ⟨hu, .inl ⟨D, _, rfl, run_takeDeferred d2, ih _ n2 (fun E hE => ?_) (hR.shut d2 _) fun w' h1 h2 h3 h4 => k w' h1 (fun c hc => ?_) ?_ ?_⟩⟩
    · obtain ⟨e1, e2⟩ := hD E (by simp [hE])
      refine ⟨e1, ?_⟩
      rw [World.putObj_heap_other (fun he => n1 (by rw [← he]; exact hE))]
      exact e2
    · rw [h2 c hc, World.putObj_heap_other (by omega)]
    · rw [h3, World.putObj_size]
    · exact Outside.trans (b := w.putObj D (.deferred none)) ⟨rfl, rfl, rfl⟩ h4

/-- A scope through which the run goes without a jump. -/
theorem wpIn_scope' {F : Fence} {n : Nat} {Q : Exit → Act → World → Prop} {a : Act} {w : World} {c : Code} (h : c.wpIn F n P (fun e a w => (∀ l, e ≠ .goto l) ∧ Q e a w) a w) : (Code.scope c).wpIn F n P Q a w := by
  intro b k cs hro hb hr
  have h0 : (lone (b.atR a (.code (.scope c) :: k)) cs w).fenced P F := fenced_calm hb hr rfl
  have h1 : _root_.Go.step P (lone (b.atR a (.code (.scope c) :: k)) cs w) = .next (lone (b.atR a (.code c :: .inScope c :: k)) cs w) := step_lone_go (by simp [stepG, stepG.exec, Frame.atR])
  obtain ⟨e, a₁, w₁, ⟨hg, hq⟩, harr⟩ := h b (.inScope c :: k) cs hro hb hr
  cases e with
  | normal => exact ⟨.normal, a₁, w₁, hq, .head h0 h1 (StepsIn.trans harr (.one (fenced_calm hb hr rfl) (step_lone_go (by simp [stepG, stepG.exec, Frame.atR]))))⟩
  | exit id =>
    have hx : exitTo id (.inScope c :: k) = exitTo id k := by simp [exitTo]
    exact ⟨_, a₁, w₁, hq, fun k' hk => .head h0 h1 (harr.1 k' (by rw [hx]; exact hk)),
      fun hr' hk => let ⟨k₁, g1, g2⟩ := harr.2 hr' (by rw [hx]; exact hk); ⟨k₁, g1, .head h0 h1 g2⟩⟩
  | goto l => exact absurd rfl (hg l)
  | ret => exact ⟨_, a₁, w₁, hq, .of_steps (.one h0 h1) harr⟩
  | panic ch => exact ⟨_, a₁, w₁, hq, .of_steps (.one h0 h1) harr⟩
  | outgrown => exact ⟨_, a₁, w₁, hq, .of_steps (.one h0 h1) harr⟩

/-- What a summary of a function must be. -/
def SumsOk (P : Program) (base : Env) (G : Nat) (H : Sums) : Prop :=
  ∀ g s, H g = some s → ∀ vs σ r, s vs σ = some r → Adv σ r.σ ∧ ∀ ρ w vs' N, Rel base ρ σ w → Free ρ σ.n N → r.σ.n ≤ N → Glob ρ G → VsRel ρ vs vs' → CallOk P base ρ g vs' σ w r

theorem calls_of_exec {H : Sums} {run : RunT} (hE : ExecOk P base G run) (hchk : ∀ n c, base.chk n c = codeOk P n G c) (hP : funcsOk P H G P.funcs.toList 0 = true) (hH : SumsOk P base G H) : CallsOk P base G (callF P H run) := by
  intro t vs σ r h
  cases t with
  | yld b => exact callY_ok hE hchk (show callY run b vs σ = some r from h)
  | fn g =>
    have h : callG P H run g vs σ = some r := h
    unfold callG at h
    cases hg : H g with
    | some s => rw [hg] at h; exact hH g s hg vs σ r h
    | none =>
      rw [hg] at h
      obtain ⟨fn, hf, h1⟩ := ob_eq (show ob (P.funcs[g]?) _ = some r from h)
      clear h
      have hfo := funcsOk_mem hP g fn (by rw [← Array.getElem?_toList] at hf; exact hf) (by rw [Nat.zero_add]; exact hg)
      unfold funcOk at hfo
      cases hn : (fn.name == "runtime.NumGoroutine") with
      | true => rw [hn] at hfo; cases hfo
      | false =>
        rw [hn] at hfo
        cases hb : fn.body with
        | none =>
          rw [hb] at h1
          obtain ⟨h2, h3⟩ := bb_eq (show bb (flats vs) _ = some r from h1)
          obtain ⟨u, h4, h5⟩ := ob_eq h3
          obtain ⟨h6, h7⟩ := bb_eq h5
          cases h7
          refine ⟨.refl _, fun ρ w vs' N hR hF hN hG hv => ⟨fn, hf, hn, .inr ⟨u, ?_, rfl, rfl, VRel.out h6⟩⟩⟩
          have := hv.flat h2
          subst this
          unfold nextV at h4
          split at h4
          · rename_i x hx
            cases h4
            exact pureRun_sound _ hx w
          · cases h4
        | some body =>
          rw [hb] at h1 hfo
          change codeOk P fn.ntmps G body = true at hfo
          obtain ⟨⟨o, fr, σ1⟩, h2, h3⟩ := ob_eq (show ob (run none body (initFr vs 0 .nil) σ) (bodyEnd P fn) = some r from h1)
          clear h1
          obtain ⟨g1, g2⟩ := hE none body _ σ _ h2
          have hr : r.σ = σ1 ∧ ((∃ us, resL P fr σ1 fn.results.toList = some us ∧ r.v = tup us ∧ r.pan = false ∧ (o = .normal ∨ o = .ret)) ∨ (r.pan = true ∧ o = .pan r.v)) := by
            cases o with
            | normal => obtain ⟨us, h6, h7⟩ := ob_eq (show ob (resL P fr σ1 fn.results.toList) _ = some r from h3); cases h7; exact ⟨rfl, .inl ⟨us, h6, rfl, rfl, .inl rfl⟩⟩
            | ret => obtain ⟨us, h6, h7⟩ := ob_eq (show ob (resL P fr σ1 fn.results.toList) _ = some r from h3); cases h7; exact ⟨rfl, .inl ⟨us, h6, rfl, rfl, .inr rfl⟩⟩
            | exit i => cases h3
            | pan v => cases h3; exact ⟨rfl, .inr ⟨rfl, rfl⟩⟩
          obtain ⟨hrσ, hr⟩ := hr
          obtain ⟨rp, rv, rσ⟩ := r
          cases (show rσ = σ1 from hrσ)
          refine ⟨g1, fun ρ w vs' N hR hF hN hG hv => ⟨fn, hf, hn, .inl ⟨by rw [hb]; rfl, (callsIn_wide (n := 0)).1 (callsIn_of_wp_marks hf hb trivial ?_)⟩⟩⟩
          have hl := hv.length
          refine g2 fn.ntmps hfo w.heap.size ρ _ w N none (Nat.le_refl _) hR hF hN ?_ ?_ (.nil _ _) hG rfl _ fun e a' w' ρ' q0 q1 q2 q3 q4 q5 => ?_
          · intro t u hu
            rw [init_get] at hu
            by_cases ht : 0 ≤ t ∧ t < 0 + vs.length
            · rw [if_pos ht] at hu
              obtain ⟨u', k1, k2⟩ := hv.get hu
              refine ⟨u', ?_, k2⟩
              show ((⟨vs'⟩ : Array Value) ++ Array.replicate _ undef)[t]? = some u'
              rw [Array.getElem?_append_left (by simp; omega)]
              simpa using k1
            · rw [if_neg ht] at hu; cases hu
          · show fn.ntmps ≤ ((⟨vs'⟩ : Array Value) ++ Array.replicate (fn.ntmps - (⟨vs'⟩ : Array Value).size) undef).size
            rw [Array.size_append, Array.size_replicate]; omega
          · obtain ⟨Ds, m1, m2, m3⟩ := q5
            rcases hr with ⟨us, h6, h7, h8, h9⟩ | ⟨h8, h9⟩
            · cases (show rv = tup us from h7)
              cases (show rp = false from h8)
              have key : LeavesInM Fence.wide 0 P fn a'.tmps (fun e w' => ∃ v' ρ', e = ended false v' ∧ Rel base ρ' σ1 w' ∧ Fram ρ σ w ρ' σ1 w' ∧ VRel ρ' (tup us) v') a'.defers .returning w' := by
                rw [m1]
                refine leave_marks (by simp) Ds w' m2 m3 q1 fun w'' p1 p2 p3 p4 => ?_
                obtain ⟨v', k1, k2⟩ := results_sound (P := P) p1 q3 h6
                exact ⟨v', k1, v', ρ', rfl, p1, q2.close p2 p3 p4, k2⟩
              rcases h9 with rfl | rfl
              · cases (show e = .normal from q0)
                exact key
              · cases (show e = .ret from q0)
                exact key
            · cases (show rp = true from h8)
              cases (show o = .pan rv from h9)
              obtain ⟨v', rfl, hv'⟩ := q0
              show LeavesInM Fence.wide 0 P fn a'.tmps _ a'.defers (.panicking _) w'
              rw [m1]
              refine leave_marks (by simp) Ds w' m2 m3 q1 fun w'' p1 p2 p3 p4 => ?_
              exact ⟨v', ρ', rfl, p1, q2.close p2 p3 p4, hv'⟩

/-- The rounds of a loop. -/
def LoopOk (P : Program) (base : Env) (G : Nat) (run : RunT) : Prop :=
  ∀ rd c fr σ res, run rd (.loop c) fr σ = some res → Adv σ res.σ ∧ ∀ n, codeOk P n G c = true → ∃ m, ∀ lo ρ a w N rl, lo ≤ w.heap.size → Rel base ρ σ w → Free ρ σ.n N → res.σ.n ≤ N → FRel ρ fr a → n ≤ a.tmps.size → Marks lo w a.defers → Glob ρ G → RdOk ρ rd rl →
    ∀ Q : Exit → Act → World → Prop, Post base lo ρ σ w a res Q → Code.roundsIn (FW rl) 0 P c Q m a w

theorem exec_ok (hm : P.follows .mixedOrders = true) {H : Sums} (hchk : ∀ n c, base.chk n c = codeOk P n G c) (hP : funcsOk P H G P.funcs.toList 0 = true) (hH : SumsOk P base G H) : ∀ f, ExecOk P base G (exec P H f) ∧ LoopOk P base G (exec P H f) := by
  intro f
  induction f with
  | zero =>
    constructor
    · intro rd c fr σ res h; cases h
    · intro rd c fr σ res h; cases h
  | succ f ih =>
    obtain ⟨ihE, ihL⟩ := ih
    have hC := calls_of_exec (H := H) ihE hchk hP hH
    have hloop : LoopOk P base G (exec P H (f + 1)) := by
      intro rd c fr σ res h
      obtain ⟨⟨o, fr1, σ1⟩, h1, h2⟩ := ob_eq (show ob (exec P H f rd c fr σ) (fun r => onNormal r (exec P H f rd (.loop c))) = some res from h)
      obtain ⟨g1, g2⟩ := ihE rd c fr σ _ h1
      cases o with
      | normal =>
        change exec P H f rd (.loop c) fr1 σ1 = some res at h2
        obtain ⟨k1, k2⟩ := ihL rd c fr1 σ1 res h2
        refine ⟨g1.trans k1, fun n hc => ?_⟩
        obtain ⟨m, k2⟩ := k2 n hc
        refine ⟨m + 1, fun lo ρ a w N rl hlo hR hF hN hr hn hd hG hrd Q hQ => ?_⟩
        have hN1 : σ1.n ≤ N := Nat.le_trans k1.n hN
        refine g2 n hc lo ρ a w N rl hlo hR hF hN1 hr hn hd hG hrd _ fun e a' w' ρ' q0 q1 q2 q3 q4 q5 => ?_
        cases (show e = .normal from q0)
        exact k2 lo ρ' a' w' N rl (Nat.le_trans hlo q2.size) q1 (q2.free hF) hN q3 (by rw [q4]; exact hn) q5 (hG.mono (q2.le hF hN1)) (hrd.mono (q2.le hF hN1)) Q fun e a'' w'' ρ'' p0 p1 p2 p3 p4 p5 => hQ e a'' w'' ρ'' p0 p1 (q2.trans p2) p3 (by rw [p4, q4]) p5
      | exit i =>
        cases h2
        refine ⟨g1, fun n hc => ⟨1, fun lo ρ a w N rl hlo hR hF hN hr hn hd hG hrd Q hQ => g2 n hc lo ρ a w N rl hlo hR hF hN hr hn hd hG hrd _ fun e a' w' ρ' q0 q1 q2 q3 q4 q5 => ?_⟩⟩
        cases (show e = .exit i from q0)
        exact hQ _ a' w' ρ' rfl q1 q2 q3 q4 q5
      | ret =>
        cases h2
        refine ⟨g1, fun n hc => ⟨1, fun lo ρ a w N rl hlo hR hF hN hr hn hd hG hrd Q hQ => g2 n hc lo ρ a w N rl hlo hR hF hN hr hn hd hG hrd _ fun e a' w' ρ' q0 q1 q2 q3 q4 q5 => ?_⟩⟩
        cases (show e = .ret from q0)
        exact hQ _ a' w' ρ' rfl q1 q2 q3 q4 q5
      | pan v =>
        cases h2
        refine ⟨g1, fun n hc => ⟨1, fun lo ρ a w N rl hlo hR hF hN hr hn hd hG hrd Q hQ => g2 n hc lo ρ a w N rl hlo hR hF hN hr hn hd hG hrd _ fun e a' w' ρ' q0 q1 q2 q3 q4 q5 => ?_⟩⟩
        obtain ⟨v', rfl, hv⟩ := q0
        exact hQ _ a' w' ρ' ⟨v', rfl, hv⟩ q1 q2 q3 q4 q5
    refine ⟨?_, hloop⟩
    intro rd c fr σ res h
    cases c with
    | skip => cases h; exact ⟨.refl _, fun n hc lo ρ a w N rl hlo hR hF hN hr hn hd hG hrd Q hQ => wpIn_skip (hQ .normal a w ρ rfl hR (.refl _ _ _) hr rfl hd)⟩
    | label l => cases h; exact ⟨.refl _, fun n hc lo ρ a w N rl hlo hR hF hN hr hn hd hG hrd Q hQ => wpIn_label (hQ .normal a w ρ rfl hR (.refl _ _ _) hr rfl hd)⟩
    | exit id => cases h; exact ⟨.refl _, fun n hc lo ρ a w N rl hlo hR hF hN hr hn hd hG hrd Q hQ => wpIn_exit (hQ (.exit id) a w ρ rfl hR (.refl _ _ _) hr rfl hd)⟩
    | ret => cases h; exact ⟨.refl _, fun n hc lo ρ a w N rl hlo hR hF hN hr hn hd hG hrd Q hQ => wpIn_ret (hQ .ret a w ρ rfl hR (.refl _ _ _) hr rfl hd)⟩
    | region id os draw =>
      cases draw with
      | false =>
        have h : opsV P (callF P H (exec P H f)) os os.toList fr σ = some res := h
        have pl := fun n => plain_ops (n := n) hC os.toList fr σ _ h
        refine ⟨(pl 0).1, fun n hc lo ρ a w N rl hlo hR hF hN hr hn hd hG hrd Q hQ => ?_⟩
        obtain ⟨hc1, hc2⟩ := bi_false_eq (show bi (os.toList.all (operOk P n G)) _ false = true from hc)
        rw [List.all_eq_true] at hc1
        exact wpIn_region_list ((pl n).2 hc1 lo ρ a w N rl hR hF hN hr hn hd hG Q hQ)
      | true =>
        have h : drawn os (opsD P (callF P H (exec P H f)) os os.toList 0 fr σ []) = some res := h
        obtain ⟨⟨fr1, σ1, ds⟩, h1, h2⟩ := ob_eq h
        obtain ⟨h3, h4⟩ := bb_eq (show bb (readsOk (Region.before os).toList ds ds) _ = some res from h2)
        cases h4
        have pl := fun n => draw_region (P := P) (base := base) (G := G) (n := n) hm hC (id := id) h1 h3
        refine ⟨(pl 0).1, fun n hc lo ρ a w N rl hlo hR hF hN hr hn hd hG hrd Q hQ => ?_⟩
        obtain ⟨hc1, hc2⟩ := bi_false_eq (show bi (os.toList.all (operOk P n G)) (bi true (drawOk os) true) false = true from hc)
        rw [List.all_eq_true] at hc1
        exact (pl n).2 (fun o ho => hc1 o ho) hc2 lo ρ a w N rl hR hF hN hr hn hd hG Q hQ
    | seq x y =>
      obtain ⟨⟨o, fr1, σ1⟩, h1, h2⟩ := ob_eq (show ob (exec P H f rd x fr σ) (fun r => onNormal r (exec P H f rd y)) = some res from h)
      obtain ⟨g1, g2⟩ := ihE rd x fr σ _ h1
      cases o with
      | normal =>
        change exec P H f rd y fr1 σ1 = some res at h2
        obtain ⟨k1, k2⟩ := ihE rd y fr1 σ1 res h2
        refine ⟨g1.trans k1, fun n hc lo ρ a w N rl hlo hR hF hN hr hn hd hG hrd Q hQ => wpIn_seq ?_⟩
        obtain ⟨hc1, hc2⟩ := bi_false_eq (show bi (codeOk P n G x) (codeOk P n G y) false = true from hc)
        have hN1 : σ1.n ≤ N := Nat.le_trans k1.n hN
        refine g2 n hc1 lo ρ a w N rl hlo hR hF hN1 hr hn hd hG hrd _ fun e a' w' ρ' q0 q1 q2 q3 q4 q5 => ?_
        cases (show e = .normal from q0)
        exact k2 n hc2 lo ρ' a' w' N rl (Nat.le_trans hlo q2.size) q1 (q2.free hF) hN q3 (by rw [q4]; exact hn) q5 (hG.mono (q2.le hF hN1)) (hrd.mono (q2.le hF hN1)) Q fun e a'' w'' ρ'' p0 p1 p2 p3 p4 p5 => hQ e a'' w'' ρ'' p0 p1 (q2.trans p2) p3 (by rw [p4, q4]) p5
      | exit i =>
        cases h2
        refine ⟨g1, fun n hc lo ρ a w N rl hlo hR hF hN hr hn hd hG hrd Q hQ => wpIn_seq ?_⟩
        obtain ⟨hc1, hc2⟩ := bi_false_eq (show bi (codeOk P n G x) (codeOk P n G y) false = true from hc)
        refine g2 n hc1 lo ρ a w N rl hlo hR hF hN hr hn hd hG hrd _ fun e a' w' ρ' q0 q1 q2 q3 q4 q5 => ?_
        cases (show e = .exit i from q0)
        exact hQ _ a' w' ρ' rfl q1 q2 q3 q4 q5
      | ret =>
        cases h2
        refine ⟨g1, fun n hc lo ρ a w N rl hlo hR hF hN hr hn hd hG hrd Q hQ => wpIn_seq ?_⟩
        obtain ⟨hc1, hc2⟩ := bi_false_eq (show bi (codeOk P n G x) (codeOk P n G y) false = true from hc)
        refine g2 n hc1 lo ρ a w N rl hlo hR hF hN hr hn hd hG hrd _ fun e a' w' ρ' q0 q1 q2 q3 q4 q5 => ?_
        cases (show e = .ret from q0)
        exact hQ _ a' w' ρ' rfl q1 q2 q3 q4 q5
      | pan v =>
        cases h2
        refine ⟨g1, fun n hc lo ρ a w N rl hlo hR hF hN hr hn hd hG hrd Q hQ => wpIn_seq ?_⟩
        obtain ⟨hc1, hc2⟩ := bi_false_eq (show bi (codeOk P n G x) (codeOk P n G y) false = true from hc)
        refine g2 n hc1 lo ρ a w N rl hlo hR hF hN hr hn hd hG hrd _ fun e a' w' ρ' q0 q1 q2 q3 q4 q5 => ?_
        obtain ⟨v', rfl, hv⟩ := q0
        exact hQ _ a' w' ρ' ⟨v', rfl, hv⟩ q1 q2 q3 q4 q5
    | cond x y z =>
      obtain ⟨v, h1, h2⟩ := ob_eq (show ob (ev fr x) (fun v => ob (bool? v) fun t => bi t (exec P H f rd y fr σ) (exec P H f rd z fr σ)) = some res from h)
      obtain ⟨t, h3, h4⟩ := ob_eq h2
      have hev : ∀ ρ (a : Act), opndOk G x = true → FRel ρ fr a → Glob ρ G → a.eval x = .bool t := by
        intro ρ a hc0 hr hG
        have hv := ev_rel (a := a) hG hc0 (fun u _ v hv => hr u v hv) h1
        unfold bool? at h3
        split at h3
        · cases h3
          generalize a.eval x = y at hv
          cases hv
          rfl
        · cases h3
      cases t with
      | true =>
        obtain ⟨g1, g2⟩ := ihE rd y fr σ res h4
        refine ⟨g1, fun n hc lo ρ a w N rl hlo hR hF hN hr hn hd hG hrd Q hQ => ?_⟩
        obtain ⟨hc0, hc'⟩ := bi_false_eq (show bi (opndOk G x) (bi (codeOk P n G y) (codeOk P n G z) false) false = true from hc)
        obtain ⟨hc1, hc2⟩ := bi_false_eq hc'
        exact wpIn_cond_true (hev ρ a hc0 hr hG) (g2 n hc1 lo ρ a w N rl hlo hR hF hN hr hn hd hG hrd Q hQ)
      | false =>
        obtain ⟨g1, g2⟩ := ihE rd z fr σ res h4
        refine ⟨g1, fun n hc lo ρ a w N rl hlo hR hF hN hr hn hd hG hrd Q hQ => ?_⟩
        obtain ⟨hc0, hc'⟩ := bi_false_eq (show bi (opndOk G x) (bi (codeOk P n G y) (codeOk P n G z) false) false = true from hc)
        obtain ⟨hc1, hc2⟩ := bi_false_eq hc'
        exact wpIn_cond_false (hev ρ a hc0 hr hG) (g2 n hc2 lo ρ a w N rl hlo hR hF hN hr hn hd hG hrd Q hQ)
    | block id x =>
      obtain ⟨⟨o, fr1, σ1⟩, h1, h2⟩ := ob_eq (show ob (exec P H f rd x fr σ) (onExit id) = some res from h)
      obtain ⟨g1, g2⟩ := ihE rd x fr σ _ h1
      have key : ∀ o', res = ⟨o', fr1, σ1⟩ → (∀ (ρ : Place) (e : Exit), ExR ρ o e → ∀ (Q : Exit → Act → World → Prop) (a' : Act) (w' : World), (∀ e', ExR ρ o' e' → Q e' a' w') → Exit.inBlock id Q e a' w') → Adv σ res.σ ∧ ∀ n, codeOk P n G (.block id x) = true → ∀ lo ρ a w N rl, lo ≤ w.heap.size → Rel base ρ σ w → Free ρ σ.n N → res.σ.n ≤ N → FRel ρ fr a → n ≤ a.tmps.size → Marks lo w a.defers → Glob ρ G → RdOk ρ rd rl →
          ∀ Q : Exit → Act → World → Prop, Post base lo ρ σ w a res Q → (Code.block id x).wpIn (FW rl) 0 P Q a w := by
        rintro o' rfl hk
        refine ⟨g1, fun n hc lo ρ a w N rl hlo hR hF hN hr hn hd hG hrd Q hQ => wpIn_block ?_⟩
        exact g2 n hc lo ρ a w N rl hlo hR hF hN hr hn hd hG hrd _ fun e a' w' ρ' q0 q1 q2 q3 q4 q5 => hk ρ' e q0 Q a' w' fun e' he => hQ e' a' w' ρ' he q1 q2 q3 q4 q5
      cases o with
      | normal =>
        cases h2
        refine key .normal rfl fun ρ e he Q a' w' k => ?_
        cases (show e = .normal from he)
        exact k .normal rfl
      | ret =>
        cases h2
        refine key .ret rfl fun ρ e he Q a' w' k => ?_
        cases (show e = .ret from he)
        exact k .ret rfl
      | pan v =>
        cases h2
        refine key (.pan v) rfl fun ρ e he Q a' w' k => ?_
        obtain ⟨v', rfl, hv⟩ := he
        exact k _ ⟨v', rfl, hv⟩
      | exit i =>
        change bi (Nat.beq i id) (some ⟨.normal, fr1, σ1⟩) (some ⟨.exit i, fr1, σ1⟩) = some res at h2
        cases hb : Nat.beq i id with
        | true =>
          rw [hb] at h2
          cases h2
          have := Nat.eq_of_beq_eq_true hb
          subst this
          refine key .normal rfl fun ρ e he Q a' w' k => ?_
          cases (show e = .exit i from he)
          show (if i = i then Q .normal a' w' else Q (.exit i) a' w')
          rw [if_pos rfl]
          exact k .normal rfl
        | false =>
          rw [hb] at h2
          cases h2
          refine key (.exit i) rfl fun ρ e he Q a' w' k => ?_
          cases (show e = .exit i from he)
          show (if i = id then Q .normal a' w' else Q (.exit i) a' w')
          rw [if_neg (fun he => by subst he; simp at hb)]
          exact k (.exit i) rfl
    | loop x =>
      obtain ⟨g1, g2⟩ := hloop rd x fr σ res h
      refine ⟨g1, fun n hc lo ρ a w N rl hlo hR hF hN hr hn hd hG hrd Q hQ => ?_⟩
      obtain ⟨m, g2⟩ := g2 n hc
      exact wpIn_loop_rounds m (g2 lo ρ a w N rl hlo hR hF hN hr hn hd hG hrd Q hQ)
    | rangeFunc fn ps assign body => exact range_ok hC hchk h
    | scope x =>
      obtain ⟨g1, g2⟩ := ihE rd x fr σ res (show exec P H f rd x fr σ = some res from h)
      refine ⟨g1, fun n hc lo ρ a w N rl hlo hR hF hN hr hn hd hG hrd Q hQ => wpIn_scope' ?_⟩
      refine g2 n hc lo ρ a w N rl hlo hR hF hN hr hn hd hG hrd _ fun e a' w' ρ' q0 q1 q2 q3 q4 q5 => ⟨fun l he => ?_, hQ e a' w' ρ' q0 q1 q2 q3 q4 q5⟩
      subst he
      cases ho : res.o with
      | normal => rw [ho] at q0; cases q0
      | exit i => rw [ho] at q0; cases q0
      | ret => rw [ho] at q0; cases q0
      | pan v => rw [ho] at q0; obtain ⟨v', h, _⟩ := q0; cases h
    | _ => cases h

/-- THE MACHINE's RESULT IS THE MODEL's. -/
theorem calls_ok (hm : P.follows .mixedOrders = true) {H : Sums} (hchk : ∀ n c, base.chk n c = codeOk P n G c) (hP : funcsOk P H G P.funcs.toList 0 = true) (hH : SumsOk P base G H) (f : Nat) : CallsOk P base G (callF P H (exec P H f)) :=
  calls_of_exec (exec_ok hm hchk hP hH f).1 hchk hP hH

end
end Go.Ab
