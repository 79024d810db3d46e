/- A region that draws its order: the whole, and its check. -/
import Derived.Test.YtcjkjjnnicadfaaGreatDoorAbDraw2
set_option linter.unusedSimpArgs false
set_option linter.unusedVariables false
namespace Go.Ab
open Go

theorem count_set : ∀ (l : List Bool) (i : Nat), l[i]? = some false → (l.set i true).count false + 1 = l.count false := by
  intro l
  induction l with
  | nil => intro i h; simp at h
  | cons x l ih =>
    intro i h
    cases i with
    | zero => simp at h; subst h; simp
    | succ i =>
      have := ih i (by simpa using h)
      rw [List.set_cons_succ, List.count_cons, List.count_cons]
      omega
theorem none_false : ∀ (l : List Bool), l.count false = 0 → ∀ i, i < l.length → l[i]? = some true := by
  intro l
  induction l with
  | nil => intro _ i h; simp at h
  | cons x l ih =>
    intro h i hi
    rw [List.count_cons] at h
    cases x with
    | false => simp at h
    | true =>
      cases i with
      | zero => rfl
      | succ i => simpa using ih (by simpa using h) i (by simpa using hi)

section
variable {P : Program} {base : Env} {G n : Nat} {call : CallT} {os : Array Oper} {F : Nat → Fr} {S : Nat → St} {r : Nat → Option Stepped}

theorem next_eff (r : Nat → Option Stepped) (m : Nat) : ∀ (d i : Nat), m = i + d → ∃ k, i ≤ k ∧ k ≤ m ∧ (∀ j, i ≤ j → j < k → ¬ EffAt r j) ∧ (k < m → EffAt r k) := by
  intro d
  induction d with
  | zero => intro i h; exact ⟨i, Nat.le_refl _, by omega, fun j h1 h2 => by omega, fun h => by omega⟩
  | succ d ih =>
    intro i h
    by_cases he : EffAt r i
    · exact ⟨i, Nat.le_refl _, by omega, fun j h1 h2 => by omega, fun _ => he⟩
    · obtain ⟨k, h1, h2, h3, h4⟩ := ih (i + 1) (by omega)
      refine ⟨k, by omega, h2, fun j g1 g2 => ?_, h4⟩
      by_cases hj : j = i
      · subst hj; exact he
      · exact h3 j (by omega) g2

variable {ρ₀ : Place} {a₀ : Act} {w₀ : World}

theorem inv_rel {L : Nat → Prop} {ρ : Place} {a : Act} {w : World} {i : Nat} (hX : Ctx P base G n call os F S r) (hI : Inv base os F S r ρ₀ a₀ w₀ L ρ a w i) (hi : i < os.size) : Rel base ρ (S i) w ∧ Free ρ (S i).n (S (i + 1)).n := by
  have fr := (chain_adv hX.hC hX.hch (i := 0) (j := i) (by omega) (by omega)).fresh hX.fresh
  have core : ∀ b B, (S i).blk b = some B → HybIs os S i b B := by
    intro b B hB
    refine .inl ⟨?_, hB⟩
    rcases Nat.lt_or_ge b (S i).n with hh | hh
    · exact hh
    · have h1 := (blk_get hB).1
      rw [fr b hh] at h1; cases h1
  refine ⟨⟨fr, fun b q B h1 h2 => hI.row b q B h1 (core b B h2), hI.dom, fun b q B h1 h2 h3 => hI.own b q B h1 (core b B h2) h3, ?_, hI.low⟩, hI.unb i hi (hI.kthis hi).2⟩
  intro b q B b' q' h1 h2 h3 h4 h5 h6
  refine hI.sep b q B b' q' h1 (core b B h2) h3 h4 h5 ?_
  rcases h6 with h6 | ⟨B', h6⟩
  · rcases Nat.lt_or_ge b' (S os.size).n with hh | hh
    · right
      have : ∀ m, i ≤ m → m ≤ os.size → b' < (S m).n → ∃ j, i ≤ j ∧ j < m ∧ (S j).n ≤ b' ∧ b' < (S (j + 1)).n := by
        intro m
        induction m with
        | zero => intro g1 g2 g3; obtain rfl : i = 0 := by omega
                  omega
        | succ m ih =>
          intro g1 g2 g3
          by_cases him : i = m + 1
          · subst him; omega
          · by_cases hm : b' < (S m).n
            · obtain ⟨j, g4, g5, g6, g7⟩ := ih (by omega) (by omega) hm
              exact ⟨j, g4, by omega, g6, g7⟩
            · exact ⟨m, by omega, by omega, by omega, g3⟩
      obtain ⟨j, g1, g2, g3, g4⟩ := this os.size (by omega) (Nat.le_refl _) hh
      have hLj : L j := by
        apply Classical.byContradiction
        intro hL
        rw [hI.unb j g2 hL b' g3 g4] at h5; cases h5
      have hne : ¬ EffAt r j := fun he => hI.kpost j g1 g2 he hLj
      have ho : os[j]? = some os[j] := Array.getElem?_eq_getElem g2
      cases hr : r j with
      | none =>
        obtain ⟨_, _, k3⟩ := chain_skip hX.hch ho hr
        rw [k3] at g4; omega
      | some s =>
        obtain ⟨_, hcl, _, k5⟩ := chain_class hX.hC hX.hch ho hr
        cases hcl with
        | pure h => change S (j + 1) = S j at k5; rw [k5] at g4; omega
        | read h => change S (j + 1) = S j at k5; rw [k5] at g4; omega
        | eff h => exact absurd ⟨_, hr, rfl⟩ hne
        | pan h => exact absurd rfl (hX.hch.np j _ (Nat.zero_le _) hr)
        | @new cs vf h =>
          change S (j + 1) = (S j).new cs at k5
          have hb : b' = (S j).n := by rw [k5] at g4; change b' < (S j).n + 1 at g4; omega
          subst hb
          exact ⟨_, .inr ⟨j, g1, g2, g3, g4, by rw [k5]; exact new_blk_same _ _⟩⟩
    · exact .inl hh
  · exact .inr ⟨B', core b' B' h6⟩

theorem inv_end {L : Nat → Prop} {ρ : Place} {a : Act} {w : World} {k : Nat} (hX : Ctx P base G n call os F S r) (hI : Inv base os F S r ρ₀ a₀ w₀ L ρ a w k) (hall : ∀ i, i < os.size → L i) :
    Rel base ρ (S os.size) w ∧ Fram ρ₀ (S 0) w₀ ρ (S os.size) w ∧ FRel ρ (F os.size) a := by
  have hk : k = os.size := by
    rcases Nat.lt_or_ge k os.size with h | h
    · exact absurd (hall k h) (hI.kthis h).2
    · have := hI.kle; omega
  subst hk
  have adv := chain_adv hX.hC hX.hch (i := 0) (j := os.size) (by omega) (Nat.le_refl _)
  have fr := adv.fresh hX.fresh
  have core : ∀ b B, (S os.size).blk b = some B → HybIs os S os.size b B := by
    intro b B hB
    refine .inl ⟨?_, hB⟩
    rcases Nat.lt_or_ge b (S os.size).n with hh | hh
    · exact hh
    · have h1 := (blk_get hB).1
      rw [fr b hh] at h1; cases h1
  refine ⟨⟨fr, fun b q B h1 h2 => hI.row b q B h1 (core b B h2), hI.dom, fun b q B h1 h2 h3 => hI.own b q B h1 (core b B h2) h3, ?_, hI.low⟩, ⟨hI.ext, adv.n, hI.size, hI.keep, fun b q B h1 h2 h3 => hI.owned b q B h1 (core b B h2) h3, hI.out, hI.same⟩, ?_⟩
  · intro b q B b' q' h1 h2 h3 h4 h5 h6
    refine hI.sep b q B b' q' h1 (core b B h2) h3 h4 h5 (h6.imp id fun ⟨B', h⟩ => ⟨B', core b' B' h⟩)
  · intro t v hv
    exact hI.tmp t os.size (Nat.le_refl _) (fun j o h1 _ _ => hall j h1) (fun j o h1 h2 _ => by have := (Array.getElem?_eq_some_iff.1 h2).1; omega) v hv

theorem chain_noDefer (hch : Chain P call os F S r 0) {k : Nat} {o : Oper} (ho : os[k]? = some o) {s : Stepped} (hs : r k = some s) : ∀ c, o.op ≠ .defer c := by
  rcases hch.step k o (Nat.zero_le _) ho with ⟨h1, s', h2, h3, h4, h5⟩ | ⟨h1, h2, h3, h4⟩
  · exact step_noDefer h2
  · rw [hs] at h2; cases h2

theorem draw_any {rd : Option Nat} (hX : Ctx P base G n call os F S r) (hn : n ≤ a₀.tmps.size) (hG : Glob ρ₀ G) {Q : Exit → Act → World → Prop}
    (hQ : ∀ ρ' a' w', Rel base ρ' (S os.size) w' → Fram ρ₀ (S 0) w₀ ρ' (S os.size) w' → FRel ρ' (F os.size) a' → a'.tmps.size = a₀.tmps.size → a'.defers = a₀.defers → Q .normal a' w') :
    ∀ (fuel : Nat) (listed : Array Bool) (ρ : Place) (a : Act) (w : World) (k : Nat), listed.size = os.size → listed.toList.count false ≤ fuel →
      Inv base os F S r ρ₀ a₀ w₀ (fun j => listed.getD j false = true) ρ a w k → wpAnyIn (FW rd) 0 P .any os Q fuel listed a w := by
  have fin : ∀ (listed : Array Bool) (ρ : Place) (a : Act) (w : World) (k : Nat), listed.size = os.size → Inv base os F S r ρ₀ a₀ w₀ (fun j => listed.getD j false = true) ρ a w k → Region.ready .any os listed = [] → Q .normal a w := by
    intro listed ρ a w k hsz hI hr
    have hall : ∀ i, i < os.size → listed.getD i false = true := by
      intro i
      induction i using Nat.strongRecOn with
      | _ i ih =>
        intro hi
        apply Classical.byContradiction
        intro hL
        have hmem : i ∈ Region.ready .any os listed := by
          rw [mem_ready]
          refine ⟨?_, os[i], Array.getElem?_eq_getElem hi, fun e he hb => ?_⟩
          · rw [Array.getD_eq_getD_getElem?] at hL ⊢
            rw [Array.getElem?_eq_getElem (by omega)] at hL ⊢
            simpa using hL
          · have := hX.hD.edge i os[i] e (Array.getElem?_eq_getElem hi) he hb
            exact ih e.on this (by omega)
        rw [hr] at hmem
        cases hmem
    obtain ⟨h1, h2, h3⟩ := inv_end hX hI hall
    exact hQ ρ a w h1 h2 h3 hI.asize hI.adef
  intro fuel
  induction fuel with
  | zero =>
    intro listed ρ a w k hsz hc hI
    have hr : Region.ready .any os listed = [] := by
      apply List.eq_nil_iff_forall_not_mem.2
      intro i hi
      rw [mem_ready] at hi
      obtain ⟨h1, o, ho, _⟩ := hi
      have hlt := (Array.getElem?_eq_some_iff.1 ho).1
      have := none_false listed.toList (by omega) i (by rw [Array.length_toList]; omega)
      rw [Array.getElem?_toList] at this
      rw [Array.getD_eq_getD_getElem?, this] at h1
      cases h1
    exact ⟨hr, fin listed ρ a w k hsz hI hr⟩
  | succ fuel ih =>
    intro listed ρ a w k hsz hc hI
    refine ⟨fin listed ρ a w k hsz hI, fun i hi => ?_⟩
    rw [mem_ready] at hi
    obtain ⟨h1, o, ho, h2⟩ := hi
    have hlt := (Array.getElem?_eq_some_iff.1 ho).1
    have hfalse : listed[i]? = some false := by
      rw [Array.getD_eq_getD_getElem?, Array.getElem?_eq_getElem (by omega)] at h1
      rw [Array.getElem?_eq_getElem (by omega)]
      simpa using h1
    have hno : ¬ listed.getD i false = true := by rw [Array.getD_eq_getD_getElem?, hfalse]; simp
    have hi : Rdy os (fun j => listed.getD j false = true) i o := ⟨ho, hno, h2⟩
    have hset : (fun j => (listed.setIfInBounds i true).getD j false = true) = fun j => listed.getD j false = true ∨ j = i := by
      funext j
      apply propext
      by_cases hj : j = i
      · subst hj
        simp [Array.getD_eq_getD_getElem?, Array.getElem?_setIfInBounds_self_of_lt (show j < listed.size by omega)]
      · rw [getD_set_ne false (fun h => hj h.symm)]
        simp [hj]
    have go : ∀ ρ' a' w' k', Inv base os F S r ρ₀ a₀ w₀ (fun j => listed.getD j false = true ∨ j = i) ρ' a' w' k' → wpAnyIn (FW rd) 0 P .any os Q fuel (listed.setIfInBounds i true) a' w' := by
      intro ρ' a' w' k' hI'
      refine ih _ ρ' a' w' k' (by simpa using hsz) ?_ (by rw [hset]; exact hI')
      have := count_set listed.toList i (by rw [Array.getElem?_toList]; exact hfalse)
      rw [Array.toList_setIfInBounds]
      omega
    unfold wpOpIn
    rw [ho]
    simp only
    cases hr : r i with
    | none =>
      obtain ⟨g1, g2, _⟩ := chain_skip hX.hch ho hr
      rw [if_neg (by rw [hI.wants hX hi g1]; simp)]
      exact ⟨fun _ _ => trivial, go _ _ _ _ (hI.quiet hX hi hn g2 (.tuple .nil) fun ⟨s, h, _⟩ => by rw [hr] at h; cases h)⟩
    | some s =>
      obtain ⟨g1, g2, g3, g4⟩ := chain_class hX.hC hX.hch ho hr
      rw [if_pos (hI.wants hX hi g1)]
      have hd : ∀ c, o.op ≠ .defer c := chain_noDefer hX.hch ho hr
      have hk := hI.known hX hi hG
      cases g2 with
      | @pure v h =>
        obtain ⟨v', e1, e2⟩ := h ρ a.eval w hk
        refine wpIn_of hd ?_
        rw [e1, Oper.uponIn_value]
        exact go _ _ _ _ (hI.quiet hX hi hn g3 e2 fun ⟨s, h1, h2⟩ => by rw [hr] at h1; cases h1; cases h2)
      | @read v b h =>
        obtain ⟨⟨cs, hcs⟩, h⟩ := h
        obtain ⟨_, h⟩ := h ρ a.eval w hk
        obtain ⟨v', e1, e2⟩ := h fun q cs' hq hcs' => hI.read_seg hX hi hr rfl hcs' hq
        refine wpIn_of hd ?_
        rw [e1, Oper.uponIn_value]
        exact go _ _ _ _ (hI.quiet hX hi hn g3 e2 fun ⟨s, h1, h2⟩ => by rw [hr] at h1; cases h1; cases h2)
      | @new cs vf h =>
        obtain ⟨w', v', arr, el, lo, hi', vs, more, e1, e2, e3, e4, e5, e6, e7, e8, e9, e10⟩ := h ρ a.eval w hk
        refine wpIn_of hd ?_
        rw [e1, Oper.uponIn_value]
        exact go _ _ _ _ (hI.new hX hi hn g3 g4 (fun ⟨s, h1, h2⟩ => by rw [hr] at h1; cases h1; cases h2) e2 e3 e4 e5 e6 e7 e8 e9 fun ρ' hq => e10 ρ' _ hq)
      | @eff v σ' h =>
        have heff : EffAt r i := ⟨_, hr, rfl⟩
        have hki : k = i := by
          rcases Nat.lt_trichotomy k i with hh | hh | hh
          · obtain ⟨⟨s', j1, j2⟩, j3⟩ := hI.kthis (by omega)
            have hok : os[k]? = some os[k] := Array.getElem?_eq_getElem (by omega)
            obtain ⟨_, j5, _, _⟩ := chain_class hX.hC hX.hch hok j1
            have j6 : isEff os[k].op = true := by
              cases j5 with
              | eff h' => exact h'.2.1
              | pure _ => cases j2
              | new _ => cases j2
              | read _ => cases j2
              | pan _ => cases j2
            exact absurd (hi.bef hI.down (hX.hD.eff k i os[k] o hh hok ho j6 h.2.1)) j3
          · exact hh
          · exact absurd (hI.kpre i hh heff) hno
        subst hki
        obtain ⟨hR, hF⟩ := inv_rel hX hI hlt
        change S (k + 1) = σ' at g4
        subst g4
        obtain ⟨k', m1, m2, m3, m4⟩ := next_eff r os.size (os.size - (k + 1)) (k + 1) (by omega)
        refine h.2.2 ρ a w _ hk hR hF (Nat.le_refl _) (hG.mono hI.le) _ _ _ fun v' w' ρ' q1 q2 q3 => ?_
        exact go _ _ _ k' (hI.effect hX hi hn g3 q1 q2 (q2.le hF (Nat.le_refl _)) q3 (by omega) m2 (fun j x1 x2 => m3 j (by omega) x2) m4)
      | pan h => exact absurd rfl (hX.hch.np i _ (Nat.zero_le _) hr)

end

/- The check, once, on the text. -/
def shl1 (t : Nat) : Nat := 2 ^ t
def dmask (o : Oper) : Nat := match o.dst with
  | some t => 2 ^ t
  | none => 0
def tmask (x : Operand) : Nat := match x with
  | .tmp t => 2 ^ t
  | _ => 0
noncomputable def omask (l : List Operand) : Nat := List.rec (motive := fun _ => Nat) 0 (fun x _ ih => Nat.lor (tmask x) ih) l
def gmask (os : Array Oper) (o : Oper) : Nat := match o.guard with
  | some (j, _) => (match dstOf os j with
    | some t => 2 ^ t
    | none => 0)
  | none => 0
structure PInfo where
  i : Nat
  d : Nat
  m : Nat
  e : Bool
noncomputable def pairOk (b d m : Nat) (e : Bool) (p : PInfo) : Bool :=
  bi (Nat.beq (Nat.land p.d (Nat.lor d m)) 0 && (Nat.beq (Nat.land d p.m) 0 && !(e && p.e))) true (Nat.testBit b p.i)
def edgeOk (j : Nat) (e : Edge) : Bool := !(Region.binds .any e) || Nat.blt e.on j
noncomputable def drawGo (os : Array Oper) : List Oper → List Nat → Nat → List PInfo → Bool
  | [], _, _, _ => true
  | _ :: _, [], _, _ => false
  | o :: l, b :: bs, j, prev => (o.after.toList.all (edgeOk j)) && ((prev.all (pairOk b (dmask o) (Nat.lor (omask o.op.operands.toList) (gmask os o)) (isEff o.op))) &&
      drawGo os l bs (j + 1) (⟨j, dmask o, Nat.lor (omask o.op.operands.toList) (gmask os o), isEff o.op⟩ :: prev))
noncomputable def drawOk (os : Array Oper) : Bool := drawGo os os.toList (Region.before os).toList 0 []

theorem omask_bit {t : Tmp} : ∀ {l : List Operand}, Operand.tmp t ∈ l → Nat.testBit (omask l) t = true := by
  intro l
  induction l with
  | nil => intro h; simp at h
  | cons x l ih =>
    intro h
    show Nat.testBit (tmask x ||| omask l) t = true
    rw [Nat.testBit_or, Bool.or_eq_true]
    rcases List.mem_cons.1 h with rfl | h
    · left; show Nat.testBit (2 ^ t) t = true; simp
    · exact .inr (ih h)
theorem rd_bit {os : Array Oper} {o : Oper} {t : Tmp} (h : Rd os o t) : Nat.testBit (Nat.lor (omask o.op.operands.toList) (gmask os o)) t = true := by
  show Nat.testBit (omask o.op.operands.toList ||| gmask os o) t = true
  rw [Nat.testBit_or, Bool.or_eq_true]
  rcases h with h | ⟨j, want, h1, h2⟩
  · exact .inl (omask_bit h)
  · right
    unfold gmask
    rw [h1]
    simp [h2]
theorem dst_bit {o : Oper} {t : Tmp} (h : o.dst = some t) : Nat.testBit (dmask o) t = true := by unfold dmask; rw [h]; simp
theorem land_ne {a b t : Nat} (h1 : Nat.testBit a t = true) (h2 : Nat.testBit b t = true) : Nat.beq (Nat.land a b) 0 = false := by
  rw [Bool.eq_false_iff]
  intro h
  have h3 := Nat.eq_of_beq_eq_true h
  have h4 : Nat.testBit (a &&& b) t = true := by rw [Nat.testBit_and, h1, h2]; rfl
  change a &&& b = 0 at h3
  rw [h3] at h4
  simp at h4

theorem drawGo_spec {os : Array Oper} : ∀ (l : List Oper) (bs : List Nat) (j : Nat) (prev : List PInfo), drawGo os l bs j prev = true → os.toList.drop j = l → (Region.before os).toList.drop j = bs →
    (∀ i o, i < j → os[i]? = some o → ⟨i, dmask o, Nat.lor (omask o.op.operands.toList) (gmask os o), isEff o.op⟩ ∈ prev) →
    ∀ k o, j ≤ k → os[k]? = some o → (∀ e ∈ o.after, Region.binds .any e = true → e.on < k) ∧ ∀ i oi, i < k → os[i]? = some oi → ((isEff oi.op = true ∧ isEff o.op = true) ∨ Clash os oi o) → Bef os i k := by
  intro l
  induction l with
  | nil =>
    intro bs j prev _ hl _ _ k o hk ho
    have := congrArg List.length hl
    simp at this
    have := (Array.getElem?_eq_some_iff.1 ho).1
    omega
  | cons x l ih =>
    intro bs j prev h hl hb hp k o hk ho
    cases bs with
    | nil => cases h
    | cons b bs =>
      have hx : os[j]? = some x := by
        have := congrArg (fun l : List Oper => l[0]?) hl
        simpa using this
      have hbj : (Region.before os).toList.getD j 0 = b := by
        have := congrArg (fun l : List Nat => l[0]?) hb
        rw [List.getD_eq_getElem?_getD]
        simp only [List.getElem?_drop, Nat.add_zero, List.getElem?_cons_zero] at this
        rw [this]
        rfl
      unfold drawGo at h
      rw [Bool.and_eq_true, Bool.and_eq_true] at h
      obtain ⟨h1, h2, h3⟩ := h
      by_cases hkj : k = j
      · subst hkj
        rw [hx] at ho
        cases ho
        rw [List.all_eq_true] at h1 h2
        refine ⟨fun e he hbd => ?_, fun i oi hik hoi hcl => ?_⟩
        · have := h1 e (by simpa using he)
          unfold edgeOk at this
          rw [hbd] at this
          simp [Nat.blt_eq] at this
          exact this
        · have hpk := h2 _ (hp i oi hik hoi)
          change bi (Nat.beq (Nat.land (dmask oi) (Nat.lor (dmask x) (Nat.lor (omask x.op.operands.toList) (gmask os x)))) 0 && (Nat.beq (Nat.land (dmask x) (Nat.lor (omask oi.op.operands.toList) (gmask os oi))) 0 && !(isEff x.op && isEff oi.op))) true (Nat.testBit b i) = true at hpk
          have hneed : (Nat.beq (Nat.land (dmask oi) (Nat.lor (dmask x) (Nat.lor (omask x.op.operands.toList) (gmask os x)))) 0 && (Nat.beq (Nat.land (dmask x) (Nat.lor (omask oi.op.operands.toList) (gmask os oi))) 0 && !(isEff x.op && isEff oi.op))) = false := by
            rcases hcl with ⟨e1, e2⟩ | ⟨t, ⟨d1, d2⟩ | ⟨d1, d2⟩⟩
            · rw [e1, e2]; simp
            · have : Nat.testBit (Nat.lor (dmask x) (Nat.lor (omask x.op.operands.toList) (gmask os x))) t = true := by
                show Nat.testBit (dmask x ||| Nat.lor (omask x.op.operands.toList) (gmask os x)) t = true
                rw [Nat.testBit_or, Bool.or_eq_true]
                rcases d2 with d2 | d2
                · exact .inl (dst_bit d2)
                · exact .inr (rd_bit d2)
              rw [land_ne (dst_bit d1) this]; rfl
            · rw [land_ne (dst_bit d1) (rd_bit d2)]; simp
          rw [hneed] at hpk
          show Nat.testBit ((Region.before os).toList.getD k 0) i = true
          rw [hbj]
          exact hpk
      · refine ih bs (j + 1) _ h3 (by rw [← List.drop_drop, hl]; rfl) (by rw [← List.drop_drop, hb]; rfl) (fun i o' hi ho' => ?_) k o (by omega) ho
        by_cases hij : i = j
        · subst hij; rw [hx] at ho'; cases ho'; simp
        · exact List.mem_cons_of_mem _ (hp i o' (by omega) ho')

theorem drawOk_spec {os : Array Oper} (h : drawOk os = true) : DrawOk os := by
  have key := drawGo_spec os.toList (Region.before os).toList 0 [] h rfl rfl (fun i o hi _ => by omega)
  exact ⟨fun i o e ho he hb => (key i o (Nat.zero_le _) ho).1 e he hb, fun i j oi oj hij hi hj e1 e2 => (key j oj (Nat.zero_le _) hj).2 i oi hij hi (.inl ⟨e1, e2⟩),
    fun i j oi oj hij hi hj hc => (key j oj (Nat.zero_le _) hj).2 i oi hij hi (.inr hc)⟩

end Go.Ab
