/- Arguments of a call of the model, read into the abstract machine's memory: integers, strings, arrays, structs and slices of them. -/
import Derived.Test.YtcjkjjnnicadfaaGreatDoorAbD
import Derived.ChangeArms
set_option linter.unusedSimpArgs false
set_option linter.unusedVariables false
namespace Go.Ab.Args
open Go Go.Ab
section
variable {P : Program} {W : World} {base : Env} {G : Nat} {H : Type} {enc : TypeId × Value → H}
def Parts {α : Type} (R : α → List Value → Prop) : List α → List (List Value) → Prop
 | [], [] => True
 | a :: l, b :: k => R a b ∧ Parts R l k
 | _, _ => False
def AbIn (P : Program) (σ : St) : Nat → TypeId → List Value → Prop
 | 0, _, _ => False
 | f + 1, t, cs => match P.underlying t with
  | some .bool => ∃ b, cs = [.bool b]
  | some (.int k) => ∃ n, cs = [.int k n] ∧ (Lit.int k n).wf = true
  | some .string => ∃ s, cs = [.string s] ∧ s.size ≤ maxLen
  | some (.slice e) => cs = [.slice none 0 0] ∨ ∃ (b : Nat) (rows : List (List Value)) (cap : Nat), cs = [.slice (some ⟨b, 0, none⟩) rows.length cap] ∧ rows.length ≤ cap ∧ cap ≤ maxLen ∧ b < σ.n ∧ σ.row b = some rows.flatten ∧ ∀ r ∈ rows, r.length = P.cellsOf e ∧ AbIn P σ f e r
  | some (.struct fs) => ∃ ps : List (List Value), cs = ps.flatten ∧ Parts (fun (fd : Field) p => AbIn P σ f fd.type p) fs.toList ps
  | some (.array n e) => ∃ ps : List (List Value), cs = ps.flatten ∧ ps.length = n ∧ ∀ p ∈ ps, p.length = P.cellsOf e ∧ AbIn P σ f e p
  | _ => False
def contig (P : Program) : List Field → Nat → Option Nat
 | [], o => some o
 | f :: fs, o => if f.offset = o then contig P fs (o + P.cellsOf f.type) else none
def dataOk (P : Program) : Nat → TypeId → Bool
 | 0, _ => false
 | f + 1, t => match P.underlying t with
  | some .bool => true
  | some (.int _) => true
  | some .string => true
  | some (.slice e) => Nat.blt 0 (P.cellsOf e) && dataOk P f e
  | some (.struct fs) => (contig P fs.toList 0 == some (P.cellsOf t)) && fs.toList.all fun fd => dataOk P f fd.type
  | some (.array n e) => P.cellsOf t == n * P.cellsOf e && dataOk P f e
  | _ => false
structure Kp (σ σ' : St) : Prop where
 n : σ.n ≤ σ'.n
 row : ∀ b cells, b < σ.n → σ.row b = some cells → σ'.row b = some cells
theorem Kp.refl (σ : St) : Kp σ σ := ⟨Nat.le_refl _, fun _ _ _ h => h⟩
theorem Kp.trans {σ σ' σ'' : St} (h : Kp σ σ') (k : Kp σ' σ'') : Kp σ σ'' := ⟨Nat.le_trans h.n k.n, fun b cells hb hr => k.row b cells (Nat.lt_of_lt_of_le hb h.n) (h.row b cells hb hr)⟩
theorem Parts.mono {α : Type} {R S : α → List Value → Prop} (h : ∀ a b, R a b → S a b) : ∀ {l : List α} {k : List (List Value)}, Parts R l k → Parts S l k
 | [], [], _ => trivial
 | _ :: _, _ :: _, p => ⟨h _ _ p.1, p.2.mono h⟩
 | [], _ :: _, p => p.elim
 | _ :: _, [], p => p.elim
theorem AbIn.mono {σ σ' : St} (hK : Kp σ σ') : ∀ {f : Nat} {t : TypeId} {cs : List Value}, AbIn P σ f t cs → AbIn P σ' f t cs := by
 intro f
 induction f with
 | zero => intro t cs h; exact h
 | succ f ih =>
  intro t cs h
  unfold AbIn at h ⊢
  split at h
  ·exact h
  ·exact h
  ·exact h
  ·rcases h with h | ⟨b, rows, cap, h1, h2, h3, h4, h5, h6⟩
   ·exact .inl h
   ·exact .inr ⟨b, rows, cap, h1, h2, h3, Nat.lt_of_lt_of_le h4 hK.n, hK.row _ _ h4 h5, fun r hr => ⟨(h6 r hr).1, ih (h6 r hr).2⟩⟩
  ·obtain ⟨ps, h1, h2⟩ := h
   exact ⟨ps, h1, h2.mono fun _ _ h => ih h⟩
  ·obtain ⟨ps, h1, h2, h3⟩ := h
   exact ⟨ps, h1, h2, fun p hp => ⟨(h3 p hp).1, ih (h3 p hp).2⟩⟩
  ·exact h
structure Inv (base : Env) (G : Nat) (W : World) (σ : St) (ρ : Place) : Prop where
 rel : Rel base ρ σ W
 own : NoOwn σ
 free : ∀ b, σ.n ≤ b → ρ b = none
 glob : Glob ρ G
 nil : ∃ b, b < σ.n ∧ σ.row b = some [] ∧ ∃ q, ρ b = some q
theorem VsRel.len {ρ : Place} {l l' : List Value} (h : VsRel ρ l l') : l.length = l'.length := by
 induction l generalizing l' with
 | nil => cases h; rfl
 | cons a l ih => cases h with | cons h hs => simp [ih hs]
theorem Inv.arg {σ : St} {ρ : Place} (h : Inv base G W σ ρ) {c o : Nat} {cells : List Value} {arr : Array Value} {e : TypeId} {f : Nat × Nat} (hh : W.heap[c]? = some (.cells arr e f)) (ho : o + cells.length ≤ arr.size) (hlo : W.heap.size ≤ base.lo)
  (hc : ∀ v ∈ cells, isCell v = true) (hv : ∀ (i : Nat) (v : Value), cells[i]? = some v → ∃ v', arr[o + i]? = some v' ∧ VRel ρ v v') :
  Inv base G W (σ.arg cells) (ρ.put σ.n ⟨c, o, arr.size⟩) ∧ Kp σ (σ.arg cells) ∧ ρ.le (ρ.put σ.n ⟨c, o, arr.size⟩) := by
 have hle : ρ.le (ρ.put σ.n ⟨c, o, arr.size⟩) := Place.put_le _ (h.free _ (Nat.le_refl _))
 have hcw : c < W.heap.size := by
  rcases Nat.lt_or_ge c W.heap.size with h | h
  ·exact h
  ·rw [Array.getElem?_eq_none h] at hh; cases hh
 have hk : Kp σ (σ.arg cells) := ⟨by rw [arg_n]; omega, fun b cs hb hr => by rw [arg_row_ne _ _ (by omega)]; exact hr⟩
 refine ⟨⟨rel_arg h.rel h.own h.free hh rfl ho (by omega) hc hv, h.own.arg _, put_free h.free, h.glob.mono hle, ?_⟩, hk, hle⟩
 obtain ⟨b, h1, h2, q, h3⟩ := h.nil
 exact ⟨b, Nat.lt_of_lt_of_le h1 hk.n, hk.row _ _ h1 h2, q, hle _ _ h3⟩
theorem flat_get {α : Type} {sz : Nat} (hs : 0 < sz) : ∀ {rows : List (List α)} {i : Nat} {v : α}, (∀ r ∈ rows, r.length = sz) → rows.flatten[i]? = some v → ∃ r, rows[i / sz]? = some r ∧ r[i % sz]? = some v := by
 intro rows
 induction rows with
 | nil => intro i v _ h; simp at h
 | cons r rows ih =>
  intro i v hr h
  have hl := hr r (by simp)
  by_cases hi : i < sz
  ·rw [List.flatten_cons, List.getElem?_append_left (by omega)] at h
   exact ⟨r, by rw [Nat.div_eq_of_lt hi]; rfl, by rw [Nat.mod_eq_of_lt hi]; exact h⟩
  ·rw [List.flatten_cons, List.getElem?_append_right (by omega)] at h
   obtain ⟨r', h1, h2⟩ := ih (fun r hm => hr r (by simp [hm])) h
   rw [hl] at h1 h2
   have e1 : i / sz = (i - sz) / sz + 1 := by rw [Nat.div_eq_sub_div hs (by omega)]
   have e2 : i % sz = (i - sz) % sz := Nat.mod_eq_sub_mod (by omega)
   exact ⟨r', by rw [e1, List.getElem?_cons_succ]; exact h1, by rw [e2]; exact h2⟩
theorem cells_len {w : World} {b n : Nat} {a : Addr} {cs : List Value} (h : w.cells? b a n = some cs) : cs.length = n := by
 unfold World.cells? at h
 split at h
 ·simpa using mapM_some_length h
 ·cases h
theorem cells_at {w : World} {b n i : Nat} {a : Addr} {cs : List Value} (h : w.cells? b a n = some cs) (hi : i < n) : w.cell? (a.add i) = cs[i]? := by
 unfold World.cells? at h
 split at h
 ·exact mapM_some_get h i i (by simp [hi])
 ·cases h
theorem addr_add {a : Addr} (hs : a.spot = none) (i : Nat) : a.add i = ⟨a.block, a.off + i, none⟩ := by
 obtain ⟨b, o, s⟩ := a
 cases (show s = none from hs)
 unfold Addr.add
 split <;> simp_all
theorem imp_parts {f : Nat} {base : Env}
  (ih : ∀ t cs x, DataW.trod enc P W 0 (fun _ => true) true f t cs = some x → dataOk P f t = true → ∀ σ ρ, Inv base G W σ ρ → ∃ σ' ρ' cs', Inv base G W σ' ρ' ∧ Kp σ σ' ∧ ρ.le ρ' ∧ VsRel ρ' cs' cs ∧ AbIn P σ' f t cs' ∧ ∀ v ∈ cs', isCell v = true) :
  ∀ (L : List (TypeId × List Value)), (∀ p ∈ L, dataOk P f p.1 = true ∧ ∃ x, DataW.trod enc P W 0 (fun _ => true) true f p.1 p.2 = some x) → ∀ σ ρ, Inv base G W σ ρ →
   ∃ σ' ρ' ps, Inv base G W σ' ρ' ∧ Kp σ σ' ∧ ρ.le ρ' ∧ Parts (fun (p : TypeId × List Value) c => VsRel ρ' c p.2 ∧ AbIn P σ' f p.1 c ∧ ∀ v ∈ c, isCell v = true) L ps := by
 intro L
 induction L with
 | nil => intro _ σ ρ h; exact ⟨σ, ρ, [], h, .refl _, Place.le_refl _, trivial⟩
 | cons p L ihL =>
  intro hL σ ρ h
  obtain ⟨hd, x, hx⟩ := hL p (by simp)
  obtain ⟨σ1, ρ1, c, i1, k1, l1, v1, a1, c1⟩ := ih _ _ _ hx hd σ ρ h
  obtain ⟨σ2, ρ2, ps, i2, k2, l2, q⟩ := ihL (fun p hp => hL p (by simp [hp])) σ1 ρ1 i1
  exact ⟨σ2, ρ2, c :: ps, i2, k1.trans k2, Place.le_trans l1 l2, ⟨v1.mono l2, a1.mono k2, c1⟩, q⟩
theorem Parts.len {α : Type} {R : α → List Value → Prop} : ∀ {l : List α} {k : List (List Value)}, Parts R l k → l.length = k.length
 | [], [], _ => rfl
 | _ :: _, _ :: _, p => by rw [List.length_cons, List.length_cons, p.2.len]
 | [], _ :: _, p => p.elim
 | _ :: _, [], p => p.elim
theorem Parts.get {α : Type} {R : α → List Value → Prop} : ∀ {l : List α} {k : List (List Value)} {i : Nat} {b : List Value}, Parts R l k → k[i]? = some b → ∃ a, l[i]? = some a ∧ R a b
 | a :: l, b :: k, 0, _, p, h => by cases h; exact ⟨a, rfl, p.1⟩
 | a :: l, b :: k, i + 1, _, p, h => p.2.get (i := i) (by simpa using h)
 | [], [], _, _, _, h => by simp at h
 | [], _ :: _, _, _, p, _ => p.elim
 | _ :: _, [], _, _, p, _ => p.elim
theorem Parts.of_get {α : Type} {R : α → List Value → Prop} : ∀ {l : List α} {k : List (List Value)}, l.length = k.length → (∀ (i : Nat) (a : α) (b : List Value), l[i]? = some a → k[i]? = some b → R a b) → Parts R l k
 | [], [], _, _ => trivial
 | a :: l, b :: k, h, hR => ⟨hR 0 a b rfl rfl, Parts.of_get (by simpa using h) fun i a b h1 h2 => hR (i + 1) a b (by simpa using h1) (by simpa using h2)⟩
 | [], _ :: _, h, _ => by simp at h
 | _ :: _, [], h, _ => by simp at h
theorem parts_flat {α : Type} {R : α → List Value → Prop} {ρ : Place} {g : α → List Value} (hR : ∀ a c, R a c → VsRel ρ c (g a)) : ∀ {l : List α} {k : List (List Value)}, Parts R l k → VsRel ρ k.flatten (l.map g).flatten
 | [], [], _ => .nil
 | a :: l, b :: k, p => by
  rw [List.flatten_cons, List.map_cons, List.flatten_cons]
  exact Ab.VsRel.append (parts_flat hR p.2) (hR _ _ p.1)
 | [], _ :: _, p => p.elim
 | _ :: _, [], p => p.elim
theorem contig_flat {cs : List Value} : ∀ {fs : List Field} {o n : Nat}, contig P fs o = some n → n ≤ cs.length → (fs.map fun fd => (cs.drop fd.offset).take (P.cellsOf fd.type)).flatten = (cs.drop o).take (n - o) ∧ o ≤ n
 | [], o, n, h, hl => by
  cases h
  simp
 | fd :: fs, o, n, h, hl => by
  unfold contig at h
  split at h
  ·rename_i ho
   subst ho
   obtain ⟨h1, h2⟩ := contig_flat h hl
   refine ⟨?_, by omega⟩
   rw [List.map_cons, List.flatten_cons, h1]
   have e : n - fd.offset = P.cellsOf fd.type + (n - (fd.offset + P.cellsOf fd.type)) := by omega
   rw [e, List.take_add, List.drop_drop]
  ·cases h
theorem parts_map {α β : Type} {R : β → List Value → Prop} (g : α → β) : ∀ {l : List α} {k : List (List Value)}, Parts R (l.map g) k → Parts (fun a c => R (g a) c) l k
 | [], [], _ => trivial
 | _ :: _, _ :: _, p => ⟨p.1, parts_map g p.2⟩
 | [], _ :: _, p => p.elim
 | _ :: _, [], p => p.elim
theorem imp (hlo : W.heap.size ≤ base.lo) : ∀ f t cs x, DataW.trod enc P W 0 (fun _ => true) true f t cs = some x → dataOk P f t = true → ∀ σ ρ, Inv base G W σ ρ →
  ∃ σ' ρ' cs', Inv base G W σ' ρ' ∧ Kp σ σ' ∧ ρ.le ρ' ∧ VsRel ρ' cs' cs ∧ AbIn P σ' f t cs' ∧ ∀ v ∈ cs', isCell v = true := by
 intro f
 induction f with
 | zero => intro t cs x _ hd; cases hd
 | succ f ih =>
  intro t cs x h hd σ ρ hI
  unfold dataOk at hd
  have hone : ∀ v, isCell v = true → ∀ w ∈ [v], isCell w = true := fun v hv w hw => by rw [List.mem_singleton] at hw; subst hw; exact hv
  split at hd
  ·rename_i ht
   obtain ⟨b, rfl⟩ : ∃ b, cs = [.bool b] := by
    unfold DataW.trod at h
    rw [ht] at h
    split at h <;> simp_all
   exact ⟨σ, ρ, [.bool b], hI, .refl _, Place.le_refl _, .cons (.scal rfl) .nil, by unfold AbIn; rw [ht]; exact ⟨b, rfl⟩, hone _ rfl⟩
  ·rename_i k ht
   obtain ⟨n, rfl, hwf⟩ : ∃ n, cs = [.int k n] ∧ (Lit.int k n).wf = true := by
    unfold DataW.trod at h
    rw [ht] at h
    split at h <;> simp_all
   exact ⟨σ, ρ, [.int k n], hI, .refl _, Place.le_refl _, .cons (.scal rfl) .nil, by unfold AbIn; rw [ht]; exact ⟨n, rfl, hwf⟩, hone _ rfl⟩
  ·rename_i ht
   obtain ⟨s, rfl, hsl⟩ : ∃ s, cs = [.string s] ∧ s.size ≤ maxLen := by
    unfold DataW.trod at h
    rw [ht] at h
    split at h <;> simp_all
   exact ⟨σ, ρ, [.string s], hI, .refl _, Place.le_refl _, .cons (.scal rfl) .nil, by unfold AbIn; rw [ht]; exact ⟨s, rfl, hsl⟩, hone _ rfl⟩
  ·rename_i e ht
   rw [Bool.and_eq_true, Nat.blt_eq] at hd
   obtain ⟨hsz, hde⟩ := hd
   rcases DataW.trod_slice ht h with ⟨rfl, _⟩ | ⟨a, len, cap, elems, rest, n, hn, rfl, _, _, hl, hm, hlen, hel, hsp, _⟩
   ·exact ⟨σ, ρ, [.slice none 0 0], hI, .refl _, Place.le_refl _, .cons (.scal rfl) .nil, by unfold AbIn; rw [ht]; exact .inl rfl, hone _ rfl⟩
   ·obtain rfl : n = f := by omega
    -- the elements
    have hpart : ∀ i, i < len → ∃ c x, W.cells? 0 (a.add (i * P.cellsOf e)) (P.cellsOf e) = some c ∧ DataW.trod enc P W 0 (fun _ => true) true n e c = some x := by
     intro i hi
     have h1 := hel i hi
     rw [List.getElem?_eq_getElem (by omega)] at h1
     cases hc : W.cells? 0 (a.add (i * P.cellsOf e)) (P.cellsOf e) with
     | none => rw [hc] at h1; cases h1
     | some c => rw [hc] at h1; exact ⟨c, _, rfl, h1⟩
    let g : Nat → List Value := fun i => (W.cells? 0 (a.add (i * P.cellsOf e)) (P.cellsOf e)).getD []
    have hg : ∀ i, i < len → W.cells? 0 (a.add (i * P.cellsOf e)) (P.cellsOf e) = some (g i) := fun i hi => by
     obtain ⟨c, x, h1, h2⟩ := hpart i hi
     show _ = some (Option.getD _ _)
     rw [h1]; rfl
    obtain ⟨σ1, ρ1, ps, i1, k1, l1, q1⟩ := imp_parts ih ((List.range len).map fun i => (e, g i)) (fun p hp => by
     obtain ⟨i, hi, rfl⟩ := List.mem_map.1 hp
     rw [List.mem_range] at hi
     obtain ⟨c, x, h1, h2⟩ := hpart i hi
     rw [hg i hi] at h1
     cases h1
     exact ⟨hde, x, h2⟩) σ ρ hI
    have hpl : ps.length = len := by rw [← q1.len]; simp
    have hrow : ∀ (i : Nat) (r : List Value), ps[i]? = some r → i < len ∧ VsRel ρ1 r (g i) ∧ AbIn P σ1 n e r ∧ (∀ v ∈ r, isCell v = true) ∧ r.length = P.cellsOf e := by
     intro i r hr
     obtain ⟨p, h1, h2, h3, h4⟩ := q1.get hr
     have hi : i < len := by rw [← hpl]; exact (List.getElem?_eq_some_iff.1 hr).1
     rw [List.getElem?_map, List.getElem?_range hi] at h1
     cases h1
     exact ⟨hi, h2, h3, h4, by rw [VsRel.len h2]; exact cells_len (hg i hi)⟩
    have hrl : ∀ r ∈ ps, r.length = P.cellsOf e := fun r hr => by
     obtain ⟨i, hi⟩ := List.getElem?_of_mem hr
     exact (hrow i r hi).2.2.2.2
    have hfl := flatten_len ps hrl
    by_cases hc0 : cap = 0
    ·subst hc0
     obtain rfl : len = 0 := by omega
     obtain ⟨b, b1, b2, q, b3⟩ := i1.nil
     obtain rfl : ps = [] := List.eq_nil_of_length_eq_zero hpl
     refine ⟨σ1, ρ1, [.slice (some ⟨b, 0, none⟩) 0 0], i1, k1, l1, .cons (.slice0 b3) .nil, ?_, hone _ rfl⟩
     unfold AbIn
     rw [ht]
     exact .inr ⟨b, [], 0, rfl, Nat.le_refl _, hm, b1, b2, fun r hr => by cases hr⟩
    ·
     have hfirst : ∃ c, W.cells? 0 (a.add (0 * P.cellsOf e)) (P.cellsOf e) = some c := by
      by_cases hl0 : 0 < len
      ·exact ⟨_, hg 0 hl0⟩
      ·obtain ⟨h1, h2⟩ := hsp rfl
       have h3 := h2 0 (by omega)
       rw [List.getElem?_eq_getElem (by omega), show len + 0 = 0 by omega] at h3
       cases hc : W.cells? 0 (a.add (0 * P.cellsOf e)) (P.cellsOf e) with
       | none => rw [hc] at h3; cases h3
       | some c => exact ⟨c, rfl⟩
     obtain ⟨c0, hc0'⟩ := hfirst
     have hcl := cells_len hc0'
     have h00 := cells_at hc0' (i := 0) hsz
     rw [List.getElem?_eq_getElem (by omega)] at h00
     obtain ⟨arr, el, fr, hh, hs, h0⟩ := cell_row h00
     have haz : (a.add (0 * P.cellsOf e)).add 0 = a := by rw [Nat.zero_mul]; obtain ⟨b, o, s⟩ := a; unfold Addr.add; simp
     rw [haz] at hh hs h0
     have hadd : ∀ i j, (a.add i).add j = ⟨a.block, a.off + i + j, none⟩ := fun i j => by
      have e1 : a.add i = ⟨a.block, a.off + i, none⟩ := by
       obtain ⟨b, o, s⟩ := a
       cases (show s = none from hs)
       exact Ab.addr_add _ _ _
      rw [e1, Ab.addr_add]
     have hat : ∀ i j, i < len → j < P.cellsOf e → arr[a.off + i * P.cellsOf e + j]? = (g i)[j]? := by
      intro i j hi hj
      have h1 := cells_at (hg i hi) hj
      rw [hadd] at h1
      have h2 := cells_len (hg i hi)
      rw [List.getElem?_eq_getElem (by omega)] at h1 ⊢
      obtain ⟨arr', el', fr', h3, _, h4⟩ := cell_row h1
      rw [hh] at h3
      cases h3
      exact h4
     have hsize : a.off + ps.flatten.length ≤ arr.size := by
      rw [hfl, hpl]
      by_cases hl0 : 0 < len
      ·have h1 := hat (len - 1) (P.cellsOf e - 1) (by omega) (by omega)
       have h2 := cells_len (hg (len - 1) (by omega))
       rw [List.getElem?_eq_getElem (by omega)] at h1
       obtain ⟨h3, _⟩ := Array.getElem?_eq_some_iff.1 h1
       have e1 : len * P.cellsOf e = (len - 1) * P.cellsOf e + P.cellsOf e := by rw [← Nat.succ_mul]; congr 1; omega
       omega
      ·obtain rfl : len = 0 := by omega
       obtain ⟨h3, _⟩ := Array.getElem?_eq_some_iff.1 h0
       omega
     obtain ⟨i2, k2, l2⟩ := i1.arg (cells := ps.flatten) hh hsize hlo (fun v hv => by
      obtain ⟨r, hr, hvr⟩ := List.mem_flatten.1 hv
      obtain ⟨i, hi⟩ := List.getElem?_of_mem hr
      exact (hrow i r hi).2.2.2.1 v hvr) (fun i v hi => by
      obtain ⟨r, h1, h2⟩ := flat_get hsz hrl hi
      obtain ⟨h3, h4, -⟩ := hrow _ r h1
      obtain ⟨v', h5, h6⟩ := h4.get h2
      refine ⟨v', ?_, h6⟩
      have h7 := hat _ _ h3 (Nat.mod_lt i hsz)
      rw [h5, Nat.add_assoc, Nat.div_add_mod'] at h7
      exact h7)
     refine ⟨_, _, [.slice (some ⟨σ1.n, 0, none⟩) len cap], i2, k1.trans k2, Place.le_trans l1 l2, .cons ?_ .nil, ?_, hone _ rfl⟩
     ·have : some a = some ⟨(⟨a.block, a.off, arr.size⟩ : Spot).c, (⟨a.block, a.off, arr.size⟩ : Spot).o + 0, none⟩ := by
       obtain ⟨b, o, s⟩ := a
       cases (show s = none from hs)
       rfl
      rw [this]
      exact .slice (Place.put_same _ _ _)
     ·unfold AbIn
      rw [ht]
      refine .inr ⟨σ1.n, ps, cap, by rw [hpl], by omega, hm, by rw [arg_n]; omega, arg_row _ _, fun r hr => ?_⟩
      obtain ⟨i, hi⟩ := List.getElem?_of_mem hr
      obtain ⟨-, -, h3, -, h5⟩ := hrow i r hi
      exact ⟨h5, h3.mono k2⟩
  ·rename_i fs ht
   rw [Bool.and_eq_true, beq_iff_eq, List.all_eq_true] at hd
   obtain ⟨hct, hde⟩ := hd
   obtain ⟨xs, n, hn, _, hcl, hxl, hx⟩ := DataW.trod_struct ht h
   obtain rfl : n = f := by omega
   obtain ⟨σ1, ρ1, ps, i1, k1, l1, q1⟩ := imp_parts ih (fs.toList.map fun fd => (fd.type, (cs.drop fd.offset).take (P.cellsOf fd.type))) (fun p hp => by
    obtain ⟨fd, hfd, rfl⟩ := List.mem_map.1 hp
    obtain ⟨i, hi⟩ := List.getElem?_of_mem hfd
    refine ⟨hde fd hfd, ?_⟩
    have hlt : i < fs.size := by
     have := (List.getElem?_eq_some_iff.1 hi).1
     simpa using this
    have h1 := hx i fd (by rw [← Array.getElem?_toList]; exact hi)
    rw [List.getElem?_eq_getElem (by omega)] at h1
    exact ⟨_, h1⟩) σ ρ hI
   have q2 := parts_map _ q1
   refine ⟨σ1, ρ1, ps.flatten, i1, k1, l1, ?_, ?_, ?_⟩
   ·have h1 := parts_flat (g := fun fd : Field => (cs.drop fd.offset).take (P.cellsOf fd.type)) (ρ := ρ1) (fun a c h => h.1) q2
    obtain ⟨h2, -⟩ := contig_flat (cs := cs) hct (by omega)
    rw [h2, List.drop_zero, Nat.sub_zero, ← hcl, List.take_length] at h1
    exact h1
   ·unfold AbIn
    rw [ht]
    exact ⟨ps, rfl, q2.mono fun a c h => h.2.1⟩
   ·intro v hv
    obtain ⟨r, hr, hvr⟩ := List.mem_flatten.1 hv
    obtain ⟨i, hi⟩ := List.getElem?_of_mem hr
    obtain ⟨p, -, hp⟩ := q1.get hi
    exact hp.2.2 v hvr
  ·rename_i m e ht
   rw [Bool.and_eq_true, beq_iff_eq] at hd
   obtain ⟨hct, hde⟩ := hd
   have harr : cs.length = P.cellsOf t ∧ ∀ i, i < m → ∃ x, DataW.trod enc P W 0 (fun _ => true) true f e ((cs.drop (i * P.cellsOf e)).take (P.cellsOf e)) = some x := by
    unfold DataW.trod at h
    rw [ht] at h
    split at h <;> simp_all
    obtain ⟨xs, hp, hd⟩ := h.2
    refine fun i hi => ?_
    have h1 := mapM_some_get hp i i (by simp [hi])
    have h2 := mapM_some_length hp
    rw [List.length_range] at h2
    rw [List.getElem?_eq_getElem (by omega)] at h1
    exact ⟨_, _, h1⟩
   obtain ⟨hcl, hx⟩ := harr
   obtain ⟨σ1, ρ1, ps, i1, k1, l1, q1⟩ := imp_parts ih ((List.range m).map fun i => (e, (cs.drop (i * P.cellsOf e)).take (P.cellsOf e))) (fun p hp => by
    obtain ⟨i, hi, rfl⟩ := List.mem_map.1 hp
    rw [List.mem_range] at hi
    exact ⟨hde, hx i hi⟩) σ ρ hI
   have q2 := parts_map _ q1
   have hpl : ps.length = m := by rw [← q1.len]; simp
   have hall : ∀ m, ((List.range m).map fun i => (cs.drop (i * P.cellsOf e)).take (P.cellsOf e)).flatten = cs.take (m * P.cellsOf e) := by
    intro m
    induction m with
    | zero => simp
    | succ m ihm =>
     rw [List.range_succ, List.map_append, List.flatten_append, ihm, Nat.succ_mul, List.take_add]
     simp
   refine ⟨σ1, ρ1, ps.flatten, i1, k1, l1, ?_, ?_, ?_⟩
   ·have h1 := parts_flat (g := fun i : Nat => (cs.drop (i * P.cellsOf e)).take (P.cellsOf e)) (ρ := ρ1) (fun a c h => h.1) q2
    rw [hall, ← hct, ← hcl, List.take_length] at h1
    exact h1
   ·unfold AbIn
    rw [ht]
    refine ⟨ps, rfl, hpl, fun p hp => ?_⟩
    obtain ⟨i, hi⟩ := List.getElem?_of_mem hp
    obtain ⟨j, h1, h2⟩ := q2.get hi
    have hj : i < m := by rw [← hpl]; exact (List.getElem?_eq_some_iff.1 hi).1
    rw [List.getElem?_range hj] at h1
    cases h1
    refine ⟨?_, h2.2.1⟩
    rw [VsRel.len h2.1, List.length_take, List.length_drop, hcl, hct]
    have : (i + 1) * P.cellsOf e ≤ m * P.cellsOf e := Nat.mul_le_mul_right _ hj
    rw [Nat.succ_mul] at this
    omega
   ·intro v hv
    obtain ⟨r, hr, hvr⟩ := List.mem_flatten.1 hv
    obtain ⟨i, hi⟩ := List.getElem?_of_mem hr
    obtain ⟨p, -, hp⟩ := q1.get hi
    exact hp.2.2 v hvr
  ·cases hd
end
end Go.Ab.Args
