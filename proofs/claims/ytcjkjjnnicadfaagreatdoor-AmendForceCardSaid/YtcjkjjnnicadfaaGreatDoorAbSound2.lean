/- The soundness of regions: of those that run in the order of the text, and of those that draw it. -/
import Derived.Test.YtcjkjjnnicadfaaGreatDoorAbSound
set_option linter.unusedSimpArgs false
set_option linter.unusedVariables false
namespace Go.Ab
open Go
section
variable {P : Program} {base : Env} {G : Nat}

/-- What is asked behind a piece of code. -/
def Post (base : Env) (lo : Nat) (ρ : Place) (σ : St) (w : World) (a : Act) (res : Res) (Q : Exit → Act → World → Prop) : Prop :=
  ∀ e a' w' ρ', ExR ρ' res.o e → Rel base ρ' res.σ w' → Fram ρ σ w ρ' res.σ w' → FRel ρ' res.fr a' → a'.tmps.size = a.tmps.size → Marks lo w' a'.defers → Q e a' w'
/-- The round in which code runs, on both sides. -/
def RdOk (ρ : Place) (rd rl : Option Nat) : Prop := match rd with
  | none => rl = none
  | some b => ∃ q, ρ b = some q ∧ rl = some q.c
theorem RdOk.mono {ρ ρ' : Place} {rd rl : Option Nat} (hm : ρ.le ρ') (h : RdOk ρ rd rl) : RdOk ρ' rd rl := by
  cases rd with
  | none => exact h
  | some b => obtain ⟨q, h1, h2⟩ := h; exact ⟨q, hm _ _ h1, h2⟩

/-- A run of code that is as the model is. -/
def ExecOk (P : Program) (base : Env) (G : Nat) (run : RunT) : Prop :=
  ∀ rd c fr σ res, run rd c fr σ = some res → Adv σ res.σ ∧ ∀ n, codeOk P n G c = true → ∀ lo ρ a w N rl, lo ≤ w.heap.size → Rel base ρ σ w → Free ρ σ.n N → res.σ.n ≤ N → FRel ρ fr a → n ≤ a.tmps.size → Marks lo w a.defers → Glob ρ G → RdOk ρ rd rl →
    ∀ Q : Exit → Act → World → Prop, Post base lo ρ σ w a res Q → c.wpIn (FW rl) 0 P Q a w

theorem step_noDefer' {call : CallT} {fr : Fr} {σ : St} {o : Oper} {s : Stepped} (h : step P call fr σ o = some s) : ∀ c, o.op ≠ .defer c := step_noDefer h

theorem plain_ops {call : CallT} (hC : CallsOk P base G call) {os : Array Oper} {n : Nat} : ∀ (l : List Oper) (fr : Fr) (σ : St) (res : Res), opsV P call os l fr σ = some res →
    Adv σ res.σ ∧ ((∀ o ∈ l, operOk P n G o = true) → ∀ lo ρ a w N rl, Rel base ρ σ w → Free ρ σ.n N → res.σ.n ≤ N → FRel ρ fr a → n ≤ a.tmps.size → Marks lo w a.defers → Glob ρ G →
      ∀ Q : Exit → Act → World → Prop, Post base lo ρ σ w a res Q → wpListIn (FW rl) 0 P os Q l a w) := by
  intro l
  induction l with
  | nil =>
    intro fr σ res h
    cases h
    exact ⟨.refl _, fun _ lo ρ a w N rl hR hF hN hr hn hd hG Q hQ => hQ .normal a w ρ rfl hR (.refl _ _ _) hr rfl hd⟩
  | cons o l ih =>
    intro fr σ res h
    obtain ⟨c, hw, h1⟩ := ob_eq (show ob (wantsV os fr o) (fun c => bi c (ob (step P call fr σ o) fun r => Stepped.rec (motive := fun _ => Option Res) (fun v σ d => onDid d (opsV P call os l (putV fr o.dst v) σ) (some ⟨.pan v, fr, σ⟩)) r) (opsV P call os l (putV fr o.dst undefV) σ)) = some res from h)
    have hoo' : (∀ o' ∈ o :: l, operOk P n G o' = true) → operOk P n G o = true := fun hops => hops o (by simp)
    have hops'' : (∀ o' ∈ o :: l, operOk P n G o' = true) → ∀ o ∈ l, operOk P n G o = true := fun hops o ho => hops o (by simp [ho])
    cases c with
    | false =>
      change opsV P call os l (putV fr o.dst undefV) σ = some res at h1
      obtain ⟨g1, g2⟩ := ih _ _ _ h1
      refine ⟨g1, fun hops lo ρ a w N rl hR hF hN hr hn hd hG Q hQ => ?_⟩
      have hoo := hoo' hops
      have g2 := g2 (hops'' hops)
      have hwant := wants_rel (a := a) (ρ := ρ) hw fun j want t _ _ v hv => hr t v hv
      unfold wpListIn
      rw [if_neg (by rw [hwant]; simp)]
      refine ⟨fun _ _ => trivial, g2 lo ρ _ w N rl hR hF hN (hr.put (.tuple .nil) fun t ht => Nat.lt_of_lt_of_le (dst_of hoo t ht) hn) (by rw [put_size]; exact hn) (by rw [put_defers]; exact hd) hG Q fun e a' w' ρ' q0 q1 q2 q3 q4 q5 => hQ e a' w' ρ' q0 q1 q2 q3 (by rw [q4, put_size]) q5⟩
    | true =>
      obtain ⟨⟨v, σ1, d⟩, h2, h3⟩ := ob_eq (show ob (step P call fr σ o) _ = some res from h1)
      have hcl := step_class hC h2
      have hnd := step_noDefer h2
      by_cases hdp : d = .pan
      · subst hdp
        cases h3
        cases hcl with
        | pan h =>
          refine ⟨h.1, fun hops lo ρ a w N rl hR hF hN hr hn hd hG Q hQ => ?_⟩
          have hoo := hoo' hops
          have hwant := wants_rel (a := a) (ρ := ρ) hw fun j want t _ _ v hv => hr t v hv
          have hk : Known ρ fr a.eval o.op.operands.toList := known_of hG hoo fun t _ v hv => hr t v hv
          unfold wpListIn
          rw [if_pos hwant]
          refine h.2 ρ a w N hk hR hF hN hG _ _ _ fun v' w' ρ' q1 q2 q3 => ?_
          exact hQ _ a w' ρ' ⟨v', rfl, q3⟩ q1 q2 (hr.mono (q2.le hF hN)) rfl (hd.fram hR q2)
      · have h3 : opsV P call os l (putV fr o.dst v) σ1 = some res := by
          cases d with
          | pan => exact absurd rfl hdp
          | _ => exact h3
        obtain ⟨g1, g2⟩ := ih _ _ _ h3
        have hadv : Adv σ σ1 := by
          cases hcl with
          | pure h => exact .refl _
          | new h => exact .new _ _
          | read h => exact .refl _
          | eff h => exact h.1
          | pan h => exact absurd rfl hdp
        refine ⟨hadv.trans g1, fun hops lo ρ a w N rl hR hF hN hr hn hd hG Q hQ => ?_⟩
        have hoo := hoo' hops
        have g2 := g2 (hops'' hops)
        have hwant := wants_rel (a := a) (ρ := ρ) hw fun j want t _ _ v hv => hr t v hv
        have hk : Known ρ fr a.eval o.op.operands.toList := known_of hG hoo fun t _ v hv => hr t v hv
        have hN1 : σ1.n ≤ N := Nat.le_trans g1.n hN
        unfold wpListIn
        rw [if_pos hwant]
        have go : ∀ v' w' ρ', Rel base ρ' σ1 w' → Fram ρ σ w ρ' σ1 w' → VRel ρ' v v' → wpListIn (FW rl) 0 P os Q l (a.put o.dst v') w' := by
          intro v' w' ρ' q1 q2 q3
          have hle := q2.le hF hN1
          refine g2 lo ρ' _ w' N rl q1 (q2.free hF) hN ((hr.mono hle).put q3 fun t ht => Nat.lt_of_lt_of_le (dst_of hoo t ht) hn) (by rw [put_size]; exact hn) (by rw [put_defers]; exact hd.fram hR q2) (hG.mono hle) Q fun e a' w'' ρ'' p0 p1 p2 p3 p4 p5 => hQ e a' w'' ρ'' p0 p1 (q2.trans p2) p3 (by rw [p4, put_size]) p5
        cases hcl with
        | pure h =>
          obtain ⟨v', e1, e2⟩ := h ρ a.eval w hk
          refine wpIn_of hnd ?_
          rw [e1, Oper.uponIn_value]
          exact go _ _ _ hR (.refl _ _ _) e2
        | @read _ b h =>
          obtain ⟨v', e1, e2⟩ := (h.2 ρ a.eval w hk).2 fun q cs hq hcs => hR.seg hq hcs
          refine wpIn_of hnd ?_
          rw [e1, Oper.uponIn_value]
          exact go _ _ _ hR (.refl _ _ _) e2
        | @new cs vf h =>
          obtain ⟨w', v', arr, el, lo', hi', vs, more, e1, e2, e3, e4, e5, e6, e7, e8, e9, e10⟩ := h ρ a.eval w hk
          refine wpIn_of hnd ?_
          rw [e1, Oper.uponIn_value]
          obtain ⟨k1, k2⟩ := hR.new (hF σ.n (Nat.le_refl _) (Nat.lt_of_lt_of_le (Nat.lt_succ_self _) hN1)) e2 e3 e4 e5 e6 e7 ⟨vs, more, e8, e9⟩
          exact go _ _ _ k1 k2 (e10 _ _ (Place.put_same _ _ _))
        | eff h => exact h.2.2 ρ a w N hk hR hF hN1 hG _ _ _ go
        | pan h => exact absurd rfl hdp

theorem Fram.drew {ρ ρ' : Place} {σ σ' : St} {w w' : World} (h : Fram ρ σ w.drew ρ' σ' w') : Fram ρ σ w ρ' σ' w' :=
  ⟨h.ext, h.n, h.size, h.keep, h.owned, ⟨h.out.os, h.out.tape, h.out.output⟩, h.same⟩

theorem draw_region (hm : P.follows .mixedOrders = true) {call : CallT} (hC : CallsOk P base G call) {os : Array Oper} {n id : Nat} {fr : Fr} {σ : St} {res : FST} (h : opsD P call os os.toList 0 fr σ [] = some res)
    (hr : readsOk (Region.before os).toList res.ds res.ds = true) :
    Adv σ res.σ ∧ ((∀ o ∈ os.toList, operOk P n G o = true) → drawOk os = true → ∀ lo ρ a w N rl, Rel base ρ σ w → Free ρ σ.n N → res.σ.n ≤ N → FRel ρ fr a → n ≤ a.tmps.size → Marks lo w a.defers → Glob ρ G →
      ∀ Q : Exit → Act → World → Prop, Post base lo ρ σ w a ⟨.normal, res.fr, res.σ⟩ Q → (Code.region id os true).wpIn (FW rl) 0 P Q a w) := by
  obtain ⟨F, S, r, f1, f2, f3, f4, f5, f6, f7⟩ := chain_of os.toList 0 fr σ [] res rfl (Nat.zero_le _) h
  refine ⟨by rw [← f2, ← f4]; exact chain_adv hC f5 (Nat.zero_le _) (Nat.le_refl _), fun hops hD lo ρ a w N rl hR hF hN hrel hn hd hG Q hQ => ?_⟩
  have hO : ∀ (i : Nat) (o : Oper), os[i]? = some o → operOk P n G o = true := fun i o ho => hops o (by rw [← Array.getElem?_toList] at ho; exact List.mem_of_getElem? ho)
  have hX : Ctx P base G n call os F S r := by
    refine ⟨hC, hO, drawOk_spec hD, f5, ?_, by rw [f2]; exact hR.fresh⟩
    intro i b j s s' h1 h2 h3 h4 hi hj
    rcases reads_use hr ((f7 i s (Nat.zero_le _) hi h1).1 b h2) ((f7 j s' (Nat.zero_le _) hj h3).2 h4) with h5 | h5
    · left
      change bi (Nat.testBit ((Region.before os).toList.getD j 0) i) true (Nat.testBit ((Region.before os).toList.getD i 0) j) = true at h5
      cases hb : Nat.testBit ((Region.before os).toList.getD j 0) i with
      | true => exact .inl hb
      | false => rw [hb] at h5; exact .inr h5
    · right
      intro hlt
      rcases h5 hlt with h6 | h6
      · rcases (chain_adv1 hC f5 hj).1.ver b.b hlt with h7 | h7
        · exact (seen_get h7).symm
        · omega
      · exact h6
  refine wpIn_region_any hm ?_
  obtain ⟨k, m1, m2, m3, m4⟩ := next_eff r os.size os.size 0 (by omega)
  have hRd : Rel base ρ σ w.drew := hR.heap rfl
  have none_listed : ∀ j, ¬ (Array.replicate os.size false).getD j false = true := by
    intro j
    rw [Array.getD_eq_getD_getElem?, Array.getElem?_replicate]
    split <;> simp
  refine draw_any (ρ₀ := ρ) (a₀ := a) (w₀ := w.drew) hX hn hG (Q := Q) (fun ρ' a' w' q1 q2 q3 q4 q5 => ?_) os.size _ ρ a w.drew k (by simp) (by simp) ?_
  · rw [f4] at q1 q2
    rw [f2] at q2
    rw [f3] at q3
    exact hQ .normal a' w' ρ' rfl q1 q2.drew q3 q4 (by rw [q5]; exact hd.fram hR q2.drew)
  · have fr0 := hR.fresh
    have nk := (chain_adv hC f5 (i := 0) (j := k) (Nat.zero_le _) m2).n
    have sm : ∀ b, b < (S 0).n → (S k).h.get b = (S 0).h.get b := fun b hb => chain_same hC f5 hb (Nat.zero_le _) m2 fun j _ h2 h3 => absurd h3 (m3 j (Nat.zero_le _) h2)
    have nfree : ∀ b q, ρ b = some q → b < (S 0).n ∨ res.σ.n ≤ b := by
      intro b q hb
      rcases Nat.lt_or_ge b (S 0).n with hh | hh
      · exact .inl hh
      · rcases Nat.lt_or_ge b res.σ.n with hh' | hh'
        · rw [hF b (by rw [← f2]; exact hh) (by omega)] at hb; cases hb
        · exact .inr hh'
    have core : ∀ b q B, ρ b = some q → HybIs os S k b B → σ.blk b = some B := by
      intro b q B hb hHy
      have h0 : b < (S 0).n := by
        rcases nfree b q hb with h | h
        · exact h
        · rcases hHy with ⟨h1, _⟩ | ⟨j, _, h2, _, h3, _⟩
          · have := (chain_adv hC f5 (i := k) (j := os.size) m2 (Nat.le_refl _)).n
            rw [f4] at this; omega
          · have := (chain_adv hC f5 (i := j + 1) (j := os.size) (by omega) (Nat.le_refl _)).n
            rw [f4] at this; omega
      rcases hHy with ⟨h1, h2⟩ | ⟨j, g1, g2, g3, g4, g5⟩
      · rw [← f2]
        show ob ((S 0).h.get b) _ = _
        rw [← sm b h0]
        exact h2
      · have := (chain_adv hC f5 (i := 0) (j := j) (Nat.zero_le _) (by omega)).n; omega
    refine ⟨m2, fun j h1 h2 => absurd h2 (m3 j (Nat.zero_le _) h1), fun h => ⟨m4 h, none_listed k⟩, fun j _ _ _ => none_listed j, fun j h => absurd h (none_listed j), fun _ _ => rfl, ?_, Place.le_refl _, ?_, rfl, rfl,
      fun b q B h1 h2 => hRd.sits b q B h1 (core b q B h1 h2), hRd.dom, fun b q B h1 h2 h3 => hRd.own b q B h1 (core b q B h1 h2) h3, ?_, hRd.low, Nat.le_refl _, fun _ _ _ => rfl, ?_, .refl _, fun b h1 _ => sm b h1, ?_⟩
    · intro i hi _ b h1 h2
      have g1 := (chain_adv hC f5 (i := 0) (j := i) (Nat.zero_le _) (by omega)).n
      have g2 := (chain_adv hC f5 (i := i + 1) (j := os.size) (by omega) (Nat.le_refl _)).n
      rw [f4] at g2
      exact hF b (by rw [← f2]; omega) (by omega)
    · intro t i hi h1 h2 v hv
      have hz : (F i).get t = (F 0).get t := F_same f5 (Nat.zero_le _) hi fun j o _ h4 h5 h6 => none_listed j (h1 j o h4 h5 h6)
      rw [hz, f1] at hv
      exact hrel t v hv
    · intro b q B b' q' h1 h2 h3 h4 h5 h6
      refine hRd.sep b q B b' q' h1 (core b q B h1 h2) h3 h4 h5 ?_
      rcases h6 with h6 | ⟨B', h6⟩
      · rw [f4] at h6
        have := (chain_adv hC f5 (i := 0) (j := os.size) (Nat.zero_le _) (Nat.le_refl _)).n
        rw [f2, f4] at this
        exact .inl (by omega)
      · exact .inr ⟨B', core b' q' B' h5 h6⟩
    · intro b q B h1 h2 _
      exact ⟨b, q, B, h1, rfl, by rw [f2]; exact core b q B h1 h2, fun h => h⟩
    · intro i hi _ b h1 h2
      exact chain_same hC f5 h2 (by omega) m2 fun j _ g2 g3 => absurd g3 (m3 j (Nat.zero_le _) g2)

end
end Go.Ab
