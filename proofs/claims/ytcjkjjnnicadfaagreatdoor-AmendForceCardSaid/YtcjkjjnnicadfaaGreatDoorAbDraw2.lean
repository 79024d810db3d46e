/- A region that draws its order: each operation keeps what holds. -/
import Derived.Test.YtcjkjjnnicadfaaGreatDoorAbDraw
set_option linter.unusedSimpArgs false
set_option linter.unusedVariables false
namespace Go.Ab
open Go
section
variable {P : Program} {base : Env} {G n : Nat} {call : CallT} {os : Array Oper} {F : Nat → Fr} {S : Nat → St} {r : Nat → Option Stepped}

/-- All that is known of the region and its run. -/
structure Ctx (P : Program) (base : Env) (G n : Nat) (call : CallT) (os : Array Oper) (F : Nat → Fr) (S : Nat → St) (r : Nat → Option Stepped) : Prop where
  hC : CallsOk P base G call
  hO : ∀ (i : Nat) (o : Oper), os[i]? = some o → operOk P n G o = true
  hD : DrawOk os
  hch : Chain P call os F S r 0
  hR : ∀ i x j s s', r i = some s → s.d = .read x → r j = some s' → s'.d = .eff → i < os.size → j < os.size → (Bef os i j ∨ Bef os j i) ∨ (x.b < (S j).n → seen (S j) x = seen (S (j + 1)) x)
  fresh : ∀ b, (S 0).n ≤ b → (S 0).h.get b = none

theorem bef_lt (hD : DrawOk os) : ∀ (j i : Nat) (o : Oper), os[j]? = some o → Bef os i j → i < j := by
  intro j
  induction j using Nat.strongRecOn with
  | _ j ih =>
    intro i o ho hb
    obtain ⟨e, h1, h2, h3⟩ := before_spec ho hb
    have hlt := hD.edge j o e ho h1 h2
    rcases h3 with h3 | ⟨h3, h4⟩
    · omega
    · have hsz : e.on < os.size := by have := (Array.getElem?_eq_some_iff.1 ho).1; omega
      have := ih e.on hlt i os[e.on] (Array.getElem?_eq_getElem hsz) h4
      omega

/-- The operation may run now. -/
structure Rdy (os : Array Oper) (L : Nat → Prop) (i : Nat) (o : Oper) : Prop where
  ho : os[i]? = some o
  no : ¬ L i
  all : ∀ e ∈ o.after, Region.binds .any e = true → L e.on
theorem Rdy.bef {L : Nat → Prop} {i : Nat} {o : Oper} (h : Rdy os L i o) (hd : ∀ j, L j → ∀ i, Bef os i j → L i) {j : Nat} (hb : Bef os j i) : L j := by
  obtain ⟨e, h1, h2, h3⟩ := before_spec h.ho hb
  have := h.all e h1 h2
  rcases h3 with h3 | ⟨_, h4⟩
  · rw [← h3]; exact this
  · exact hd _ this _ h4

theorem F_same (hch : Chain P call os F S r 0) {t : Tmp} {p : Nat} : ∀ {m : Nat}, p ≤ m → m ≤ os.size → (∀ j o, p ≤ j → j < m → os[j]? = some o → o.dst ≠ some t) → (F m).get t = (F p).get t := by
  intro m
  induction m with
  | zero => intro h _ _; obtain rfl : p = 0 := by omega
            rfl
  | succ m ih =>
    intro h1 h2 h3
    by_cases hpm : p = m + 1
    · subst hpm; rfl
    · rw [← ih (by omega) (by omega) fun j o a b c => h3 j o a (by omega) c]
      have hm : m < os.size := by omega
      have ho : os[m]? = some os[m] := Array.getElem?_eq_getElem hm
      have hne := h3 m os[m] (by omega) (by omega) ho
      have hput : ∀ v, (putV (F m) os[m].dst v).get t = (F m).get t := by
        intro v
        cases hd : os[m].dst with
        | none => rfl
        | some d =>
          rw [putV_some, Tr.get_set_ne]
          intro he; subst he; exact hne hd
      rcases hch.step m os[m] (Nat.zero_le _) ho with ⟨_, s, _, _, h4, _⟩ | ⟨_, _, h4, _⟩
      · rw [h4]; exact hput _
      · rw [h4]; exact hput _

section
variable {ρ₀ ρ : Place} {a₀ a : Act} {w₀ w : World} {L : Nat → Prop} {k i : Nat} {o : Oper}

theorem Inv.opnd (hX : Ctx P base G n call os F S r) (hI : Inv base os F S r ρ₀ a₀ w₀ L ρ a w k) (hi : Rdy os L i o) {t : Tmp} (ht : Rd os o t) {v : Value} (hv : (F i).get t = some v) :
    ∃ v', a.tmps[t]? = some v' ∧ VRel ρ v v' := by
  have hlt := (Array.getElem?_eq_some_iff.1 hi.ho).1
  refine hI.tmp t i (by omega) (fun j oj hj ho hd => ?_) (fun j oj hj ho hd hL => ?_) v hv
  · exact hi.bef hI.down (hX.hD.names j i oj o hj ho hi.ho ⟨t, .inl ⟨hd, .inr ht⟩⟩)
  · by_cases hji : j = i
    · subst hji; exact hi.no hL
    · exact hi.no (hI.down j hL i (hX.hD.names i j o oj (by omega) hi.ho ho ⟨t, .inr ⟨hd, ht⟩⟩))
theorem Inv.known (hX : Ctx P base G n call os F S r) (hI : Inv base os F S r ρ₀ a₀ w₀ L ρ a w k) (hi : Rdy os L i o) (hG : Glob ρ₀ G) : Known ρ (F i) a.eval o.op.operands.toList :=
  known_of (hG.mono hI.le) (hX.hO i o hi.ho) fun _ ht v hv => hI.opnd hX hi (.inl ht) hv
theorem Inv.wants (hX : Ctx P base G n call os F S r) (hI : Inv base os F S r ρ₀ a₀ w₀ L ρ a w k) (hi : Rdy os L i o) {c : Bool} (hw : wantsV os (F i) o = some c) : Region.wanted o (yielded os a.tmps) = c :=
  wants_rel hw fun j want t h1 h2 v hv => hI.opnd hX hi (.inr ⟨j, want, h1, h2⟩) hv

/-- The slots, when one operation more has run. -/
theorem Inv.tmp' (hX : Ctx P base G n call os F S r) (hI : Inv base os F S r ρ₀ a₀ w₀ L ρ a w k) (hi : Rdy os L i o) (hn : n ≤ a₀.tmps.size) {ρ' : Place} (hle : ρ.le ρ') {v v' : Value} (hF : F (i + 1) = putV (F i) o.dst v) (hv : VRel ρ' v v') :
    ∀ t m, m ≤ os.size → (∀ j oj, j < m → os[j]? = some oj → oj.dst = some t → L j ∨ j = i) → (∀ j oj, m ≤ j → os[j]? = some oj → oj.dst = some t → ¬ (L j ∨ j = i)) →
      ∀ u, (F m).get t = some u → ∃ u', (a.put o.dst v').tmps[t]? = some u' ∧ VRel ρ' u u' := by
  intro t m hm h1 h2 u hu
  by_cases hd : o.dst = some t
  · have him : i < m := by
      rcases Nat.lt_or_ge i m with hh | hh
      · exact hh
      · exact absurd (.inr rfl) (h2 i o hh hi.ho hd)
    have hsame := F_same hX.hch (t := t) (p := i + 1) (m := m) (by omega) hm (fun j oj hj1 hj2 hoj hdj => by
      rcases h1 j oj hj2 hoj hdj with hL | he
      · exact hi.no (hI.down j hL i (hX.hD.names i j o oj (by omega) hi.ho hoj ⟨t, .inl ⟨hd, .inl hdj⟩⟩))
      · omega)
    rw [hsame, hF, hd, putV_some, Tr.get_set_same] at hu
    cases hu
    refine ⟨v', ?_, hv⟩
    rw [hd]
    show (a.tmps.setIfInBounds t v')[t]? = _
    rw [Array.getElem?_setIfInBounds_self_of_lt]
    exact Nat.lt_of_lt_of_le (dst_of (hX.hO i o hi.ho) t hd) (by rw [hI.asize]; exact hn)
  · have key := hI.tmp t m hm (fun j oj hj ho hdj => by
        rcases h1 j oj hj ho hdj with hL | he
        · exact hL
        · subst he; rw [hi.ho] at ho; cases ho; exact absurd hdj hd)
      (fun j oj hj ho hdj hL => h2 j oj hj ho hdj (.inl hL)) u hu
    obtain ⟨u', k1, k2⟩ := key
    refine ⟨u', ?_, k2.mono hle⟩
    cases hod : o.dst with
    | none => exact k1
    | some d =>
      show (a.tmps.setIfInBounds d v')[t]? = _
      rw [Array.getElem?_setIfInBounds_ne (by intro he; subst he; exact hd hod)]
      exact k1

theorem Inv.down' (hI : Inv base os F S r ρ₀ a₀ w₀ L ρ a w k) (hi : Rdy os L i o) : ∀ j, (L j ∨ j = i) → ∀ i', Bef os i' j → (L i' ∨ i' = i) := by
  intro j hj i' hb
  rcases hj with hj | rfl
  · exact .inl (hI.down j hj i' hb)
  · exact .inl (hi.bef hI.down hb)

/-- An operation that touches no memory has run. -/
theorem Inv.quiet (hX : Ctx P base G n call os F S r) (hI : Inv base os F S r ρ₀ a₀ w₀ L ρ a w k) (hi : Rdy os L i o) (hn : n ≤ a₀.tmps.size) {v v' : Value} (hF : F (i + 1) = putV (F i) o.dst v) (hv : VRel ρ v v') (hne : ¬ EffAt r i) :
    Inv base os F S r ρ₀ a₀ w₀ (fun j => L j ∨ j = i) ρ (a.put o.dst v') w k where
  kle := hI.kle
  kpre := fun j h1 h2 => .inl (hI.kpre j h1 h2)
  kthis := fun h => ⟨(hI.kthis h).1, fun hL => hL.elim (hI.kthis h).2 fun he => hne (he ▸ (hI.kthis h).1)⟩
  kpost := fun j h1 h2 h3 hL => hL.elim (hI.kpost j h1 h2 h3) fun he => hne (he ▸ h3)
  down := hI.down' hi
  ext := hI.ext
  unb := fun i' h1 h2 => hI.unb i' h1 fun h => h2 (.inl h)
  le := hI.le
  tmp := hI.tmp' hX hi hn (Place.le_refl _) hF hv
  asize := by rw [put_size]; exact hI.asize
  adef := by rw [put_defers]; exact hI.adef
  row := hI.row
  dom := hI.dom
  own := hI.own
  sep := hI.sep
  low := hI.low
  size := hI.size
  keep := hI.keep
  owned := hI.owned
  out := hI.out
  same := hI.same
  birth := fun i' h1 h2 => hI.birth i' h1 fun h => h2 (.inl h)

theorem born_unique (hX : Ctx P base G n call os F S r) {i j b : Nat} (hi : i < os.size) (hj : j < os.size) (h1 : (S i).n ≤ b) (h2 : b < (S (i + 1)).n) (h3 : (S j).n ≤ b) (h4 : b < (S (j + 1)).n) : i = j := by
  rcases Nat.lt_trichotomy i j with h | h | h
  · have := (chain_adv hX.hC hX.hch (i := i + 1) (j := j) (by omega) (by omega)).n; omega
  · exact h
  · have := (chain_adv hX.hC hX.hch (i := j + 1) (j := i) (by omega) (by omega)).n; omega

/-- An operation that made a new block has run. -/
theorem Inv.new (hX : Ctx P base G n call os F S r) (hI : Inv base os F S r ρ₀ a₀ w₀ L ρ a w k) (hi : Rdy os L i o) (hn : n ≤ a₀.tmps.size) {cs : List Value} {v v' : Value} (hF : F (i + 1) = putV (F i) o.dst v) (hS : S (i + 1) = (S i).new cs) (hne : ¬ EffAt r i)
    {w' : World} {arr : Array Value} {el : TypeId} {lo hi' : Nat} {vs more : List Value} (hs : w'.heap.size = w.heap.size + 1) (hnew : w'.heap[w.heap.size]? = some (.cells arr el (lo, hi'))) (hold : ∀ c, c < w.heap.size → w'.heap[c]? = w.heap[c]?)
    (ho : Outside w w') (hfz : arr.size ≤ lo ∨ hi' ≤ lo) (hc : ∀ v ∈ cs, isCell v = true) (harr : arr.toList = vs ++ more) (hvs : VsRel ρ cs vs)
    (hv : ∀ ρ' : Place, ρ' (S i).n = some ⟨w.heap.size, 0, arr.size⟩ → VRel ρ' v v') :
    Inv base os F S r ρ₀ a₀ w₀ (fun j => L j ∨ j = i) (ρ.put (S i).n ⟨w.heap.size, 0, arr.size⟩) (a.put o.dst v') w' k := by
  have hlt := (Array.getElem?_eq_some_iff.1 hi.ho).1
  have hSn : (S (i + 1)).n = (S i).n + 1 := by rw [hS]; rfl
  have hfree : ρ (S i).n = none := hI.unb i hlt hi.no _ (Nat.le_refl _) (by omega)
  have hle := Place.put_le (ρ := ρ) ⟨w.heap.size, 0, arr.size⟩ hfree
  have hbirth : (S (i + 1)).h.get (S i).n = some ⟨cs, true, true, 0, .row⟩ := by rw [hS]; exact Tr.get_set_same _ _ _
  have hki : k ≠ i := fun he => by
    subst he
    exact hne (hI.kthis hlt).1
  have hB : ∀ B, HybIs os S k (S i).n B → B = ⟨cs, true, true, 0, .row⟩ := by
    intro B hB
    rcases hB with ⟨h1, h2⟩ | ⟨j, h1, h2, h3, h4, h5⟩
    · have hik : i < k := by
        rcases Nat.lt_or_ge i k with hh | hh
        · exact hh
        · have := (chain_adv hX.hC hX.hch hh (by omega)).n; omega
      have h6 := hI.birth i hik hi.no (S i).n (Nat.le_refl _) (by omega)
      rw [hbirth] at h6
      have h7 := (blk_get h2).1
      rw [h6] at h7
      cases h7; rfl
    · have := born_unique hX hlt h2 (Nat.le_refl _) (by omega) h3 h4
      subst this
      have h7 := (blk_get h5).1
      rw [hbirth] at h7
      cases h7; rfl
  have h0i := (chain_adv hX.hC hX.hch (i := 0) (j := i) (by omega) (by omega)).n
  have hin := (chain_adv hX.hC hX.hch (i := i + 1) (j := os.size) (by omega) (by omega)).n
  refine ⟨hI.kle, fun j h1 h2 => .inl (hI.kpre j h1 h2), fun h => ⟨(hI.kthis h).1, fun hL => hL.elim (hI.kthis h).2 fun he => hki he⟩, fun j h1 h2 h3 hL => hL.elim (hI.kpost j h1 h2 h3) fun he => hne (he ▸ h3),
    hI.down' hi, ?_, ?_, Place.le_trans hI.le hle, hI.tmp' hX hi hn hle hF (hv _ (Place.put_same _ _ _)), by rw [put_size]; exact hI.asize, by rw [put_defers]; exact hI.adef, ?_, ?_, ?_, ?_, ?_, ?_, ?_, ?_, hI.out.trans ho, hI.same, fun i' h1 h2 => hI.birth i' h1 fun h => h2 (.inl h)⟩
  · intro b hb
    rw [Place.put_ne _ _ (by omega)]; exact hI.ext b hb
  · intro i' h1 h2 b h3 h4
    rw [Place.put_ne _ _ ?_]
    · exact hI.unb i' h1 (fun h => h2 (.inl h)) b h3 h4
    · intro he
      subst he
      exact h2 (.inr (born_unique hX h1 hlt h3 h4 (Nat.le_refl _) (by omega)))
  · intro b q B hb hHy
    by_cases hbn : b = (S i).n
    · subst hbn
      rw [Place.put_same] at hb; cases hb
      rw [hB B hHy]
      have hl := hvs.length
      refine .row rfl ⟨arr, el, lo, hi', hnew, rfl, ?_, fun _ => hfz, hc, fun j u hj => ?_⟩
      · show 0 + cs.length ≤ arr.size
        rw [← Array.length_toList, harr]; simp; omega
      · obtain ⟨u', h3, h4⟩ := hvs.get hj
        refine ⟨u', ?_, h4.mono hle⟩
        show arr[0 + j]? = _
        rw [← Array.getElem?_toList, harr, Nat.zero_add, List.getElem?_append_left (List.getElem?_eq_some_iff.1 h3).1]
        exact h3
    · rw [Place.put_ne _ _ hbn] at hb
      exact (hI.row b q B hb hHy).mono hle (hold q.c (hI.dom b q hb))
  · intro b q hb
    by_cases hbn : b = (S i).n
    · subst hbn; rw [Place.put_same] at hb; cases hb; show w.heap.size < _; omega
    · rw [Place.put_ne _ _ hbn] at hb; have := hI.dom b q hb; omega
  · intro b q B hb hHy hO
    by_cases hbn : b = (S i).n
    · subst hbn; rw [Place.put_same] at hb; cases hb; exact hI.low
    · rw [Place.put_ne _ _ hbn] at hb; exact hI.own b q B hb hHy hO
  · intro b q B b' q' hb hHy hO hbb hb' hl
    by_cases hbn : b = (S i).n
    · subst hbn
      rw [Place.put_same] at hb; cases hb
      rw [Place.put_ne _ _ hbb] at hb'
      have := hI.dom b' q' hb'
      show q'.c ≠ w.heap.size; omega
    · rw [Place.put_ne _ _ hbn] at hb
      by_cases hbn' : b' = (S i).n
      · subst hbn'; rw [Place.put_same] at hb'; cases hb'
        have := hI.dom b q hb
        show w.heap.size ≠ q.c; omega
      · rw [Place.put_ne _ _ hbn'] at hb'
        exact hI.sep b q B b' q' hb hHy hO hbb hb' hl
  · have := hI.low; omega
  · have := hI.size; omega
  · intro c h1 h2
    rw [hold c (by have := hI.size; omega)]; exact hI.keep c h1 h2
  · intro b q B hb hHy hcs
    by_cases hbn : b = (S i).n
    · subst hbn; rw [Place.put_same] at hb; cases hb; change w.heap.size < _ at hcs; have := hI.size; omega
    · rw [Place.put_ne _ _ hbn] at hb; exact hI.owned b q B hb hHy hcs

/-- The cells that a read reads lie, on the model's side, as in the order of the text. -/
theorem Inv.read_seg (hX : Ctx P base G n call os F S r) (hI : Inv base os F S r ρ₀ a₀ w₀ L ρ a w k) (hi : Rdy os L i o) {s : Stepped} {x : RowAt} (hr : r i = some s) (hd : s.d = .read x) {cs : List Value} (hcs : seen (S i) x = some cs) {q : Spot} (hq : ρ x.b = some q) :
    Seg ρ w q x.off cs := by
  have hlt := (Array.getElem?_eq_some_iff.1 hi.ho).1
  obtain ⟨x1, xo, xn⟩ := x
  generalize hb' : x1 = b at *
  have hfr : ∀ j, j ≤ os.size → ∀ b, (S j).n ≤ b → (S j).h.get b = none := fun j hj => (chain_adv hX.hC hX.hch (i := 0) (j := j) (by omega) hj).fresh hX.fresh
  have hbi : b < (S i).n := by
    rcases Nat.lt_or_ge b (S i).n with hh | hh
    · exact hh
    · obtain ⟨B, hB, _⟩ := read_parts (show (S i).read b xo xn = some cs from hcs)
      have := (blk_get (rblk_blk hB).1).1; rw [hfr i (by omega) b hh] at this; cases this
  have hne : ¬ EffAt r i := by rintro ⟨s', h1, h2⟩; rw [hr] at h1; cases h1; rw [hd] at h2; cases h2
  have hki : k ≠ i := fun he => by subst he; exact hne (hI.kthis hlt).1
  have done : ∀ j, seen (S j) ⟨b, xo, xn⟩ = seen (S i) ⟨b, xo, xn⟩ → (∀ B, (S j).blk b = some B → HybIs os S k b B) → Seg ρ w q xo cs := by
    intro j hj hH
    rw [hcs] at hj
    obtain ⟨B, hB, hsub⟩ := read_parts (show (S j).read b xo xn = some cs from hj)
    obtain ⟨hB1, hB2⟩ := rblk_blk hB
    have hs := hI.row b q B hq (hH B hB1)
    unfold Sits at hs
    rw [hB2] at hs
    exact (Row.seg hs hsub).1
  rcases Nat.lt_or_ge i k with hik | hik
  · have hbk : b < (S k).n := Nat.lt_of_lt_of_le hbi (chain_adv hX.hC hX.hch (by omega) hI.kle).n
    refine done k (chain_seen hX.hC hX.hch hbi (by omega) hI.kle fun j h1 h2 h3 => ?_) (fun B hB => .inl ⟨hbk, hB⟩)
    obtain ⟨s', h4, h5⟩ := h3
    have hj : j < os.size := by have := hI.kle; omega
    have hji : j ≠ i := fun he => by subst he; exact hne ⟨s', h4, h5⟩
    rcases hX.hR i _ j s s' hr hd h4 h5 hlt hj with (h6 | h6) | h6
    · exact absurd (hI.down j (hI.kpre j h2 ⟨s', h4, h5⟩) i h6) hi.no
    · have := bef_lt hX.hD i j o hi.ho h6; omega
    · exact h6 (Nat.lt_of_lt_of_le hbi (chain_adv hX.hC hX.hch (by omega) (by omega)).n)
  · have hlate : ∀ j, k ≤ j → j < i → EffAt r j → b < (S j).n → seen (S j) ⟨b, xo, xn⟩ = seen (S (j + 1)) ⟨b, xo, xn⟩ := by
      intro j h1 h2 h3 h4
      obtain ⟨s', h5, h6⟩ := h3
      rcases hX.hR i _ j s s' hr hd h5 h6 hlt (by omega) with (h7 | h7) | h7
      · have := bef_lt hX.hD j i os[j] (Array.getElem?_eq_getElem (by omega)) h7; omega
      · exact absurd (hi.bef hI.down h7) (hI.kpost j h1 (by omega) ⟨s', h5, h6⟩)
      · exact h7 h4
    by_cases hbk : b < (S k).n
    · refine done k ?_ (fun B hB => .inl ⟨hbk, hB⟩)
      exact (chain_seen (x := ⟨b, xo, xn⟩) hX.hC hX.hch hbk (by omega) (by omega) fun j h1 h2 h3 => hlate j h1 h2 h3 (Nat.lt_of_lt_of_le hbk (chain_adv hX.hC hX.hch h1 (by omega)).n)).symm
    · have hborn : ∃ j, k ≤ j ∧ j < i ∧ (S j).n ≤ b ∧ b < (S (j + 1)).n := by
        have : ∀ m, k ≤ m → m ≤ i → b < (S m).n → ∃ j, k ≤ j ∧ j < m ∧ (S j).n ≤ b ∧ b < (S (j + 1)).n := by
          intro m
          induction m with
          | zero => intro h1 h2 h3; obtain rfl : k = 0 := by omega
                    exact absurd h3 hbk
          | succ m ih =>
            intro h1 h2 h3
            by_cases hm : b < (S m).n
            · have hkm : k ≤ m := by
                rcases Nat.lt_or_ge m k with hh | hh
                · obtain rfl : k = m + 1 := by omega
                  exact absurd h3 hbk
                · exact hh
              obtain ⟨j, g1, g2, g3, g4⟩ := ih hkm (by omega) hm
              exact ⟨j, g1, by omega, g3, g4⟩
            · have hkm : k ≤ m := by
                rcases Nat.lt_or_ge m k with hh | hh
                · obtain rfl : k = m + 1 := by omega
                  exact absurd h3 hbk
                · exact hh
              exact ⟨m, hkm, by omega, by omega, h3⟩
        exact this i (by omega) (Nat.le_refl _) hbi
      obtain ⟨j, g1, g2, g3, g4⟩ := hborn
      refine done (j + 1) ?_ (fun B hB => .inr ⟨j, g1, by omega, g3, g4, hB⟩)
      exact (chain_seen (x := ⟨b, xo, xn⟩) hX.hC hX.hch g4 (by omega) (by omega) fun m h1 h2 h3 => hlate m (by omega) h2 h3 (Nat.lt_of_lt_of_le g4 (chain_adv hX.hC hX.hch h1 (by omega)).n)).symm

/-- An operation that may change memory has run. -/
theorem Inv.effect (hX : Ctx P base G n call os F S r) (hI : Inv base os F S r ρ₀ a₀ w₀ L ρ a w i) (hi : Rdy os L i o) (hn : n ≤ a₀.tmps.size) {ρ' : Place} {w' : World} {v v' : Value} (hF : F (i + 1) = putV (F i) o.dst v)
    (hR : Rel base ρ' (S (i + 1)) w') (hf : Fram ρ (S i) w ρ' (S (i + 1)) w') (hle : ρ.le ρ') (hv : VRel ρ' v v') {k' : Nat} (hk1 : i < k') (hk2 : k' ≤ os.size) (hk3 : ∀ j, i < j → j < k' → ¬ EffAt r j) (hk4 : k' < os.size → EffAt r k') :
    Inv base os F S r ρ₀ a₀ w₀ (fun j => L j ∨ j = i) ρ' (a.put o.dst v') w' k' := by
  have hlt := (Array.getElem?_eq_some_iff.1 hi.ho).1
  have nmono : ∀ x y, x ≤ y → y ≤ os.size → (S x).n ≤ (S y).n := fun x y h1 h2 => (chain_adv hX.hC hX.hch h1 h2).n
  have h0i := nmono 0 i (by omega) (by omega)
  have hin := nmono (i + 1) os.size (by omega) (by omega)
  have hik := nmono (i + 1) k' (by omega) hk2
  have hii := nmono i (i + 1) (by omega) (by omega)
  have later : ∀ b x, i + 1 ≤ x → x ≤ k' → b < (S x).n → (S k').h.get b = (S x).h.get b := fun b x h1 h2 h3 =>
    chain_same hX.hC hX.hch h3 h2 hk2 fun j g1 g2 g3 => absurd g3 (hk3 j (by omega) (by omega))
  have blk_eq : ∀ {b x y}, (S x).h.get b = (S y).h.get b → (S x).blk b = (S y).blk b := by
    intro b x y h
    show ob ((S x).h.get b) _ = ob ((S y).h.get b) _
    rw [h]
  have hlow : ∀ {b q}, ρ b = some q → b < (S i).n ∨ (S (i + 1)).n ≤ b := by
    intro b q hb
    rcases Nat.lt_or_ge b (S i).n with hh | hh
    · exact .inl hh
    · rcases Nat.lt_or_ge b (S (i + 1)).n with hh' | hh'
      · rw [hI.unb i hlt hi.no b hh hh'] at hb; cases hb
      · exact .inr hh'
  -- a block is either one that the operation knew or made, or one that was made out of the text's order
  have split : ∀ b q B, ρ' b = some q → HybIs os S k' b B → (b < (S (i + 1)).n ∧ (S (i + 1)).blk b = some B) ∨ ((S (i + 1)).n ≤ b ∧ ρ b = some q ∧ HybIs os S i b B) := by
    intro b q B hb hHy
    rcases hHy with ⟨h1, h2⟩ | ⟨j, h1, h2, h3, h4, h5⟩
    · rcases Nat.lt_or_ge b (S (i + 1)).n with hh | hh
      · exact .inl ⟨hh, by rw [← blk_eq (later b (i + 1) (Nat.le_refl _) hk1 hh)]; exact h2⟩
      · right
        refine ⟨hh, by rw [← hf.ext b (.inr hh)]; exact hb, .inr ?_⟩
        have : ∀ m, i + 1 ≤ m → m ≤ k' → b < (S m).n → ∃ j, i + 1 ≤ j ∧ j < m ∧ (S j).n ≤ b ∧ b < (S (j + 1)).n := by
          intro m
          induction m with
          | zero => intro g1 _ _; omega
          | succ m ih =>
            intro g1 g2 g3
            have him : i + 1 ≤ m := by
              rcases Nat.lt_or_ge i m with g | g
              · exact g
              · obtain rfl : m = i := by omega
                omega
            by_cases hm : b < (S m).n
            · obtain ⟨j, g4, g5, g6, g7⟩ := ih him (by omega) hm
              exact ⟨j, g4, by omega, g6, g7⟩
            · exact ⟨m, him, by omega, by omega, g3⟩
        obtain ⟨j, g1, g2, g3, g4⟩ := this k' hk1 (Nat.le_refl _) h1
        exact ⟨j, by omega, by omega, g3, g4, by rw [← blk_eq (later b (j + 1) (by omega) (by omega) g4)]; exact h2⟩
    · have hge : (S (i + 1)).n ≤ b := Nat.le_trans (nmono (i + 1) j (by omega) (by omega)) h3
      exact .inr ⟨hge, by rw [← hf.ext b (.inr hge)]; exact hb, .inr ⟨j, by omega, h2, h3, h4, h5⟩⟩
  have core : ∀ b B, (S i).blk b = some B → HybIs os S i b B := by
    intro b B hB
    refine .inl ⟨?_, hB⟩
    rcases Nat.lt_or_ge b (S i).n with hh | hh
    · exact hh
    · have h1 := (blk_get hB).1
      rw [(chain_adv hX.hC hX.hch (i := 0) (j := i) (by omega) (by omega)).fresh hX.fresh b hh] at h1; cases h1
  have hsz := hI.size
  have hfs := hf.size
  refine ⟨hk2, ?_, ?_, ?_, hI.down' hi, ?_, ?_, Place.le_trans hI.le hle, hI.tmp' hX hi hn hle hF hv, by rw [put_size]; exact hI.asize, by rw [put_defers]; exact hI.adef, ?_, hR.dom, ?_, ?_, hR.low, by omega, ?_, ?_, hI.out.trans hf.out, ?_, ?_⟩
  · intro j h1 h2
    rcases Nat.lt_trichotomy j i with h | h | h
    · exact .inl (hI.kpre j h h2)
    · exact .inr h
    · exact absurd h2 (hk3 j h h1)
  · intro h
    refine ⟨hk4 h, fun hL => hL.elim (hI.kpost k' (by omega) h (hk4 h)) fun he => by omega⟩
  · intro j h1 h2 h3 hL
    rcases hL with hL | hL
    · exact hI.kpost j (by omega) h2 h3 hL
    · omega
  · intro b hb
    rw [hf.ext b (by omega)]; exact hI.ext b hb
  · intro i' h1 h2 b h3 h4
    have hii' : i' ≠ i := fun he => h2 (.inr he)
    have : b < (S i).n ∨ (S (i + 1)).n ≤ b := by
      rcases Nat.lt_or_ge i' i with h | h
      · have := nmono (i' + 1) i (by omega) (by omega); omega
      · have := nmono (i + 1) i' (by omega) (by omega); omega
    rw [hf.ext b this]
    exact hI.unb i' h1 (fun h => h2 (.inl h)) b h3 h4
  · intro b q B hb hHy
    rcases split b q B hb hHy with ⟨_, h2⟩ | ⟨h1, h2, h3⟩
    · exact hR.sits b q B hb h2
    · refine (hI.row b q B h2 h3).mono hle (hf.keep q.c (hI.dom b q h2) fun b1 q1 B1 g1 g2 g3 => ?_)
      cases hO : B1.own with
      | false => rfl
      | true =>
        have hb1 : b1 < (S i).n := by rcases core b1 B1 g3 with ⟨g, _⟩ | ⟨j, g4, g5, g6, g7, g8⟩
                                      · exact g
                                      · rcases hlow g1 with g | g
                                        · exact g
                                        · have := (blk_get g3).1
                                          rw [(chain_adv hX.hC hX.hch (i := 0) (j := i) (by omega) (by omega)).fresh hX.fresh b1 (by omega)] at this; cases this
        exact absurd g2.symm (hI.sep b1 q1 B1 b q g1 (core b1 B1 g3) hO (by omega) h2 (.inr ⟨B, h3⟩))
  · intro b q B hb hHy hO
    rcases split b q B hb hHy with ⟨_, h2⟩ | ⟨h1, h2, h3⟩
    · exact hR.own b q B hb h2 hO
    · exact hI.own b q B h2 h3 hO
  · intro b q B b' q' hb hHy hO hbb hb' hl
    rcases split b q B hb hHy with ⟨h1, h2⟩ | ⟨h1, h2, h3⟩
    · refine hR.sep b q B b' q' hb h2 hO hbb hb' ?_
      rcases hl with hl | ⟨B', hl⟩
      · exact .inl (by omega)
      · rcases split b' q' B' hb' hl with ⟨_, g2⟩ | ⟨g1, _, _⟩
        · exact .inr ⟨B', g2⟩
        · exact .inl g1
    · rcases hl with hl | ⟨B', hl⟩
      · have hb'' : ρ b' = some q' := by rw [← hf.ext b' (.inr (by omega))]; exact hb'
        exact hI.sep b q B b' q' h2 h3 hO hbb hb'' (.inl hl)
      · rcases split b' q' B' hb' hl with ⟨g1, g2⟩ | ⟨g1, g2, g3⟩
        · intro he
          have hqc := hI.dom b q h2
          obtain ⟨b₀, q₀, B₀, j1, j2, j3, _⟩ := hf.owned b' q' B' hb' g2 (by omega)
          have hb0 := core b₀ B₀ j3
          have hne0 : b₀ ≠ b := by
            rcases hlow j1 with g | g
            · omega
            · have := (blk_get j3).1
              rw [(chain_adv hX.hC hX.hch (i := 0) (j := i) (by omega) (by omega)).fresh hX.fresh b₀ (by omega)] at this; cases this
          exact hI.sep b q B b₀ q₀ h2 h3 hO hne0 j1 (.inr ⟨B₀, hb0⟩) (by omega)
        · exact hI.sep b q B b' q' h2 h3 hO hbb g2 (.inr ⟨B', g3⟩)
  · intro c h1 h2
    rw [hf.keep c (by omega) ?_]
    · exact hI.keep c h1 h2
    · intro b1 q1 B1 g1 g2 g3
      cases hO : B1.own with
      | false => rfl
      | true =>
        obtain ⟨b₀, q₀, B₀, j1, j2, j3, j4⟩ := hI.owned b1 q1 B1 g1 (core b1 B1 g3) (by omega)
        have := h2 b₀ q₀ B₀ j1 (by omega) j3
        rw [j4 hO] at this; cases this
  · intro b q B hb hHy hcs
    rcases split b q B hb hHy with ⟨h1, h2⟩ | ⟨h1, h2, h3⟩
    · obtain ⟨b₁, q₁, B₁, g1, g2, g3, g4⟩ := hf.owned b q B hb h2 (by omega)
      obtain ⟨b₀, q₀, B₀, j1, j2, j3, j4⟩ := hI.owned b₁ q₁ B₁ g1 (core b₁ B₁ g3) (by omega)
      exact ⟨b₀, q₀, B₀, j1, by omega, j3, fun h => j4 (g4 h)⟩
    · exact hI.owned b q B h2 h3 hcs
  · intro b h1 h2
    rw [later b (i + 1) (Nat.le_refl _) hk1 (by omega), hf.same b (by omega) (by rw [hI.ext b (.inl h1)]; exact h2)]
    exact hI.same b h1 h2
  · intro i' h1 h2 b h3 h4
    have hii' : i' ≠ i := fun he => h2 (.inr he)
    rcases Nat.lt_or_ge i' i with h | h
    · have hbi := nmono (i' + 1) i (by omega) (by omega)
      rw [later b (i + 1) (Nat.le_refl _) hk1 (by omega), hf.same b (by omega) (hI.unb i' (by omega) (fun h => h2 (.inl h)) b h3 h4)]
      exact hI.birth i' h (fun h => h2 (.inl h)) b h3 h4
    · exact later b (i' + 1) (by omega) (by omega) h4

end
end
end Go.Ab
