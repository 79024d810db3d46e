/- A tender, as plain data, and how it lies in memory. -/
import Derived.Test.YtcjkjjnnicadfaaGreatDoorAbD
set_option linter.unusedSimpArgs false
set_option linter.unusedVariables false
namespace Go.Proofs.G
open Go Go.Ab
abbrev By := List UInt8
def In64 (n : Int) : Prop := -9223372036854775808 ≤ n ∧ n ≤ 9223372036854775807
structure Lot where
 id : Int
 most : Int
 deriving DecidableEq
structure Crit where
 name : By
 kind : Int
 low : Int
 high : Int
 less : Bool
 deriving DecidableEq
structure Req where
 name : By
 rel : By
 value : Int
 deriving DecidableEq
inductive Ex where
 | mk (op : By) (num den : Int) (name : By) (args : List Ex)
structure Tim where
 q : Int
 b : Int
 g : Int
 p : Int
 s : Int
 deriving DecidableEq
structure Tn where
 name : By
 lots : List Lot
 crits : List Crit
 reqs : List Req
 low : Int
 high : Int
 f : Ex
 ties : List By
 most : Int
 combos : List (List Int)
 budget : Int
 t : Tim
def Lot.row (l : Lot) : List Value := [.int .i64 l.id, .int .i64 l.most]
def Crit.row (c : Crit) : List Value := [str c.name, .int .i64 c.kind, .int .i64 c.low, .int .i64 c.high, .bool c.less]
def Req.row (r : Req) : List Value := [str r.name, str r.rel, .int .i64 r.value]
def Ints (σ : St) (v : Value) (l : List Int) : Prop := SL σ 1 v (l.map fun n => [.int .i64 n])
def Lots (σ : St) (v : Value) (l : List Lot) : Prop := SL σ 2 v (l.map Lot.row)
def Crits (σ : St) (v : Value) (l : List Crit) : Prop := SL σ 5 v (l.map Crit.row)
def Reqs (σ : St) (v : Value) (l : List Req) : Prop := SL σ 3 v (l.map Req.row)
def All2 {α β : Type} (R : α → β → Prop) : List α → List β → Prop
 | [], [] => True
 | a :: l, b :: k => R a b ∧ All2 R l k
 | _, _ => False
theorem All2.len {α β : Type} {R : α → β → Prop} : ∀ {l : List α} {k : List β}, All2 R l k → l.length = k.length
 | [], [], _ => rfl
 | _ :: _, _ :: _, h => by rw [List.length_cons, List.length_cons, h.2.len]
 | [], _ :: _, h => h.elim
 | _ :: _, [], h => h.elim
theorem All2.get {α β : Type} {R : α → β → Prop} : ∀ {l : List α} {k : List β} {i : Nat} {a : α} {b : β}, All2 R l k → l[i]? = some a → k[i]? = some b → R a b
 | a :: l, b :: k, 0, _, _, h, h1, h2 => by cases h1; cases h2; exact h.1
 | a :: l, b :: k, i + 1, _, _, h, h1, h2 => h.2.get (i := i) (by simpa using h1) (by simpa using h2)
 | [], _, _, _, _, _, h1, _ => by simp at h1
 | _ :: _, [], _, _, _, h, _, _ => h.elim
theorem All2.mono {α β : Type} {R S : α → β → Prop} (hRS : ∀ a b, R a b → S a b) : ∀ {l : List α} {k : List β}, All2 R l k → All2 S l k
 | [], [], _ => trivial
 | _ :: _, _ :: _, h => ⟨hRS _ _ h.1, h.2.mono hRS⟩
 | [], _ :: _, h => h.elim
 | _ :: _, [], h => h.elim
theorem All2.app {α β : Type} {R : α → β → Prop} {a : α} {b : β} (hab : R a b) : ∀ {l : List α} {k : List β}, All2 R l k → All2 R (l ++ [a]) (k ++ [b])
 | [], [], _ => ⟨hab, trivial⟩
 | _ :: _, _ :: _, h => ⟨h.1, h.2.app hab⟩
 | [], _ :: _, h => h.elim
 | _ :: _, [], h => h.elim
def Combos (σ : St) (v : Value) (l : List (List Int)) : Prop := ∃ vs : List Value, SL σ 1 v (vs.map fun x => [x]) ∧ All2 (Ints σ) vs l
mutual
/-- Five cells that stand for a formula. -/
def ExAt (σ : St) (row : List Value) : Ex → Prop
 | .mk op n d nm args => ∃ v rows, row = [str op, .int .i64 n, .int .i64 d, str nm, v] ∧ SL σ 5 v rows ∧ args.length ≤ 4 ∧ ExsAt σ rows args
def ExsAt (σ : St) (rows : List (List Value)) : List Ex → Prop
 | [] => rows = []
 | e :: es => ∃ r rs, rows = r :: rs ∧ ExAt σ r e ∧ ExsAt σ rs es
end
mutual
theorem ExAt.mono {σ σ' : St} (hE : Ext σ σ') {row : List Value} : ∀ {e : Ex}, ExAt σ row e → ExAt σ' row e
 | .mk op n d nm args, h => by
  obtain ⟨v, rows, h1, h2, h4, h3⟩ := h
  exact ⟨v, rows, h1, h2.mono hE, h4, ExsAt.mono hE h3⟩
theorem ExsAt.mono {σ σ' : St} (hE : Ext σ σ') {rows : List (List Value)} : ∀ {es : List Ex}, ExsAt σ rows es → ExsAt σ' rows es
 | [], h => h
 | e :: es, h => by
  obtain ⟨r, rs, h1, h2, h3⟩ := h
  exact ⟨r, rs, h1, ExAt.mono hE h2, ExsAt.mono hE h3⟩
end
theorem ExsAt.len {σ : St} : ∀ {rows : List (List Value)} {es : List Ex}, ExsAt σ rows es → rows.length = es.length
 | _, [], h => by rw [show _ = _ from h]; rfl
 | _, e :: es, h => by
  obtain ⟨r, rs, rfl, -, h3⟩ := h
  rw [List.length_cons, List.length_cons, h3.len]
theorem ExsAt.get {σ : St} : ∀ {rows : List (List Value)} {es : List Ex} {i : Nat} {r : List Value} {e : Ex}, ExsAt σ rows es → rows[i]? = some r → es[i]? = some e → ExAt σ r e
 | _, [], _, _, _, _, _, h2 => by simp at h2
 | _, e :: es, i, _, _, h, h1, h2 => by
  obtain ⟨r, rs, rfl, h3, h4⟩ := h
  cases i with
  | zero => cases h1; cases h2; exact h3
  | succ i => exact h4.get (i := i) (by simpa using h1) (by simpa using h2)
def tnRow (nm : By) (vl vc vr : Value) (low high : Int) (ex : List Value) (vt : Value) (most : Int) (vk : Value) (budget : Int) (t : Tim) : List Value :=
 [str nm, vl, vc, vr, .int .i64 low, .int .i64 high] ++ ex ++ [vt, .int .i64 most, vk, .int .i64 budget, .int .i64 t.q, .int .i64 t.b, .int .i64 t.g, .int .i64 t.p, .int .i64 t.s]
def TnAt (σ : St) (cells : List Value) (T : Tn) : Prop :=
 ∃ vl vc vr ex vt vk, cells = tnRow T.name vl vc vr T.low T.high ex vt T.most vk T.budget T.t ∧ Lots σ vl T.lots ∧ Crits σ vc T.crits ∧ Reqs σ vr T.reqs ∧ ExAt σ ex T.f ∧ Strs σ vt T.ties ∧ Combos σ vk T.combos
theorem Ints.mono {σ σ' : St} {v : Value} {l : List Int} (h : Ints σ v l) (hE : Ext σ σ') : Ints σ' v l := SL.mono h hE
theorem Combos.mono {σ σ' : St} {v : Value} {l : List (List Int)} (h : Combos σ v l) (hE : Ext σ σ') : Combos σ' v l := by
 obtain ⟨vs, h1, h2⟩ := h
 exact ⟨vs, h1.mono hE, h2.mono fun _ _ h => h.mono hE⟩
theorem TnAt.mono {σ σ' : St} {cells : List Value} {T : Tn} (h : TnAt σ cells T) (hE : Ext σ σ') : TnAt σ' cells T := by
 obtain ⟨vl, vc, vr, ex, vt, vk, h1, h2, h3, h4, h5, h6, h7⟩ := h
 exact ⟨vl, vc, vr, ex, vt, vk, h1, SL.mono h2 hE, SL.mono h3 hE, SL.mono h4 hE, h5.mono hE, h6.mono hE, h7.mono hE⟩
theorem ExAt.len {σ : St} {row : List Value} : ∀ {e : Ex}, ExAt σ row e → row.length = 5
 | .mk _ _ _ _ _, h => by obtain ⟨v, rows, rfl, -, -⟩ := h; rfl
theorem TnAt.len {σ : St} {cells : List Value} {T : Tn} (h : TnAt σ cells T) : cells.length = 20 := by
 obtain ⟨vl, vc, vr, ex, vt, vk, rfl, -, -, -, h5, -⟩ := h
 simp [tnRow, h5.len]
def names : List By := [[113,117,97,108,105,116,121], [100,97,121,115], [115,116,97,102,102], [112,114,105,99,101], [108,111,119], [115,112,101,101,100], [99,111,109,102,111,114,116], [119,101,105,103,104,116]]
structure Tn.Ok (T : Tn) : Prop where
 lots : T.lots.length ≤ 16
 lot : ∀ l ∈ T.lots, 0 ≤ l.id ∧ l.id < 10 ∧ In64 l.most
 crits : T.crits.length ≤ 16
 crit : ∀ c ∈ T.crits, c.name ∈ names ∧ In64 c.kind ∧ In64 c.low ∧ In64 c.high
 reqs : T.reqs.length ≤ 8
 req : ∀ r ∈ T.reqs, r.name ∈ names ∧ r.rel.length ≤ 2 ∧ In64 r.value
 low : In64 T.low
 high : In64 T.high
 ties : T.ties.length ≤ 16
 tie : ∀ s ∈ T.ties, s ∈ names
 most : In64 T.most
 combos : T.combos.length ≤ 16
 combo : ∀ l ∈ T.combos, l.length ≤ 4 ∧ ∀ n ∈ l, In64 n
 budget : In64 T.budget
 tim : In64 T.t.q ∧ In64 T.t.b ∧ In64 T.t.g ∧ In64 T.t.p ∧ In64 T.t.s
theorem names_len {s : By} (h : s ∈ names) : s.length ≤ 7 := by
 have : ∀ s ∈ names, s.length ≤ 7 := by decide
 exact this s h
end Go.Proofs.G
namespace Go.Proofs.G
open Go Go.Ab
theorem sub_in {cells r : List Value} {o n i m : Nat} (h : sub cells o n = some r) (hi : i + m ≤ n) : sub cells (o + i) m = sub r i m := by
 obtain ⟨h1, h2⟩ := sub_eq h
 subst h2
 rw [sub_of (by omega), sub_of (by simp; omega)]
 congr 1
 rw [List.drop_take, List.take_take, List.drop_drop]
 congr 1
 omega
theorem at_some {α : Type} {l : List α} {k : Nat} (h : k < l.length) : ∃ a, l[k]? = some a := ⟨_, List.getElem?_eq_getElem h⟩
theorem getmap {α β : Type} {l : List α} {k : Nat} {a : α} (f : α → β) (h : l[k]? = some a) : (l.map f)[k]? = some (f a) := by rw [List.getElem?_map, h]; rfl
theorem SL.use' {α : Type} {σ : St} {size : Nat} {v : Value} {l : List α} {f : α → List Value} (h : SL σ size v (l.map f)) : ∃ a c b off cells, v = .slice a l.length c ∧ (0 < l.length → ∃ sp, a = some ⟨b, off, sp⟩ ∧ b < σ.n ∧ σ.row b = some cells) ∧ ∀ k x, l[k]? = some x → sub cells (off + k * size) size = some (f x) := by
 obtain ⟨a, c, b, off, cells, h1, h2, h3⟩ := SL.use h
 rw [List.length_map] at h1 h2
 exact ⟨a, c, b, off, cells, h1, h2, fun k x hx => h3 k _ (getmap f hx)⟩
theorem Lots.use {σ : St} {v : Value} {l : List Lot} (h : Lots σ v l) : ∃ a c b off cells, v = .slice a l.length c ∧ (0 < l.length → ∃ sp, a = some ⟨b, off, sp⟩ ∧ b < σ.n ∧ σ.row b = some cells) ∧
  ∀ k x, l[k]? = some x → sub cells (off + k * 2) 2 = some x.row ∧ sub cells (off + k * 2) 1 = some [.int .i64 x.id] ∧ sub cells (off + k * 2 + 1) 1 = some [.int .i64 x.most] := by
 obtain ⟨a, c, b, off, cells, h1, h2, h3⟩ := SL.use' h
 refine ⟨a, c, b, off, cells, h1, h2, fun k x hx => ?_⟩
 have h := h3 k x hx
 exact ⟨h, by rw [← Nat.add_zero (off + k * 2), sub_in h (by omega)]; rfl, by rw [sub_in h (by omega)]; rfl⟩
theorem Crits.use {σ : St} {v : Value} {l : List Crit} (h : Crits σ v l) : ∃ a c b off cells, v = .slice a l.length c ∧ (0 < l.length → ∃ sp, a = some ⟨b, off, sp⟩ ∧ b < σ.n ∧ σ.row b = some cells) ∧
  ∀ k x, l[k]? = some x → sub cells (off + k * 5) 5 = some x.row ∧ sub cells (off + k * 5) 1 = some [str x.name] ∧ sub cells (off + k * 5 + 1) 1 = some [.int .i64 x.kind] ∧ sub cells (off + k * 5 + 2) 1 = some [.int .i64 x.low] ∧ sub cells (off + k * 5 + 3) 1 = some [.int .i64 x.high] ∧ sub cells (off + k * 5 + 4) 1 = some [.bool x.less] := by
 obtain ⟨a, c, b, off, cells, h1, h2, h3⟩ := SL.use' h
 refine ⟨a, c, b, off, cells, h1, h2, fun k x hx => ?_⟩
 have h := h3 k x hx
 exact ⟨h, by rw [← Nat.add_zero (off + k * 5), sub_in h (by omega)]; rfl, by rw [sub_in h (by omega)]; rfl, by rw [sub_in h (by omega)]; rfl, by rw [sub_in h (by omega)]; rfl, by rw [sub_in h (by omega)]; rfl⟩
theorem Reqs.use {σ : St} {v : Value} {l : List Req} (h : Reqs σ v l) : ∃ a c b off cells, v = .slice a l.length c ∧ (0 < l.length → ∃ sp, a = some ⟨b, off, sp⟩ ∧ b < σ.n ∧ σ.row b = some cells) ∧
  ∀ k x, l[k]? = some x → sub cells (off + k * 3) 3 = some x.row ∧ sub cells (off + k * 3) 1 = some [str x.name] ∧ sub cells (off + k * 3 + 1) 1 = some [str x.rel] ∧ sub cells (off + k * 3 + 2) 1 = some [.int .i64 x.value] := by
 obtain ⟨a, c, b, off, cells, h1, h2, h3⟩ := SL.use' h
 refine ⟨a, c, b, off, cells, h1, h2, fun k x hx => ?_⟩
 have h := h3 k x hx
 exact ⟨h, by rw [← Nat.add_zero (off + k * 3), sub_in h (by omega)]; rfl, by rw [sub_in h (by omega)]; rfl, by rw [sub_in h (by omega)]; rfl⟩
theorem Ints.use {σ : St} {v : Value} {l : List Int} (h : Ints σ v l) : ∃ a c b off cells, v = .slice a l.length c ∧ (0 < l.length → ∃ sp, a = some ⟨b, off, sp⟩ ∧ b < σ.n ∧ σ.row b = some cells) ∧
  ∀ k x, l[k]? = some x → sub cells (off + k) 1 = some [.int .i64 x] := by
 obtain ⟨a, c, b, off, cells, h1, h2, h3⟩ := SL.use' h
 exact ⟨a, c, b, off, cells, h1, h2, fun k x hx => by have := h3 k x hx; rwa [Nat.mul_one] at this⟩
theorem take_map {α β : Type} (f : α → β) {l : List α} {k : Nat} {a : α} (h : l[k]? = some a) : (l.take (k + 1)).map f = (l.take k).map f ++ [f a] := by
 rw [List.take_add_one, h]; simp
end Go.Proofs.G
namespace Go.Proofs.G
open Go Go.Ab
structure Keep (σ σ' : St) : Prop where
 n : σ.n ≤ σ'.n
 row : ∀ b cells, b < σ.n → σ.row b = some cells → σ'.row b = some cells
theorem Keep.trans {σ σ' σ'' : St} (h : Keep σ σ') (k : Keep σ' σ'') : Keep σ σ'' := ⟨Nat.le_trans h.n k.n, fun b cells hb hr => k.row b cells (Nat.lt_of_lt_of_le hb h.n) (h.row b cells hb hr)⟩
theorem Keep.of_ext {σ σ' : St} (h : Ext σ σ') : Keep σ σ' := ⟨h.n, fun b cells hb hr => by rw [h.row hb]; exact hr⟩
theorem SL.keep {σ σ' : St} {size : Nat} {v : Value} {rows : List (List Value)} (h : SL σ size v rows) (hE : Keep σ σ') : SL σ' size v rows := by
 rcases h with h | ⟨b, off, sp, c, cells, h1, h2, h3, h4⟩
 ·exact .inl h
 ·exact .inr ⟨b, off, sp, c, cells, h1, Nat.lt_of_lt_of_le h2 hE.n, hE.row _ _ h2 h3, h4⟩
mutual
theorem ExAt.keep {σ σ' : St} (hE : Keep σ σ') {row : List Value} : ∀ {e : Ex}, ExAt σ row e → ExAt σ' row e
 | .mk op n d nm args, h => by
  obtain ⟨v, rows, h1, h2, h4, h3⟩ := h
  exact ⟨v, rows, h1, SL.keep h2 hE, h4, ExsAt.keep hE h3⟩
theorem ExsAt.keep {σ σ' : St} (hE : Keep σ σ') {rows : List (List Value)} : ∀ {es : List Ex}, ExsAt σ rows es → ExsAt σ' rows es
 | [], h => h
 | e :: es, h => by
  obtain ⟨r, rs, h1, h2, h3⟩ := h
  exact ⟨r, rs, h1, ExAt.keep hE h2, ExsAt.keep hE h3⟩
end
noncomputable def hide (σ : St) (l : List Nat) : St := l.foldl St.dead σ
theorem dead_row_same {σ : St} {b : Nat} : (σ.dead b).row b = none := by
 show ob (ob (ob ((σ.dead b).h.get b) _) _) _ = none
 rw [dead_get, if_pos rfl]; rfl
theorem hide_n {l : List Nat} : ∀ {σ : St}, (hide σ l).n = σ.n := by
 induction l with
 | nil => intro σ; rfl
 | cons b l ih => intro σ; show (hide (σ.dead b) l).n = σ.n; rw [ih]; rfl
theorem hide_row {l : List Nat} {c : Nat} : ∀ {σ : St}, c ∉ l → (hide σ l).row c = σ.row c := by
 induction l with
 | nil => intro σ _; rfl
 | cons b l ih =>
  intro σ h
  show (hide (σ.dead b) l).row c = _
  rw [ih (fun hm => h (by simp [hm])), row_dead_ne (fun e => h (by simp [e]))]
theorem hide_none {l : List Nat} {c : Nat} : ∀ {σ : St}, σ.row c = none → (hide σ l).row c = none := by
 induction l with
 | nil => intro σ h; exact h
 | cons b l ih =>
  intro σ h
  show (hide (σ.dead b) l).row c = _
  refine ih ?_
  by_cases e : c = b
  ·subst e; exact dead_row_same
  ·rw [row_dead_ne e]; exact h
theorem hide_mem {l : List Nat} {c : Nat} : ∀ {σ : St}, c ∈ l → (hide σ l).row c = none := by
 induction l with
 | nil => intro σ h; cases h
 | cons b l ih =>
  intro σ h
  show (hide (σ.dead b) l).row c = _
  rcases List.mem_cons.1 h with rfl | h
  ·exact hide_none dead_row_same
  ·exact ih h
theorem keep_hide {σ σ' : St} {l l' : List Nat} (hn : σ.n ≤ σ'.n) (h : ∀ c, c < σ.n → c ∉ l → c ∉ l' ∧ σ'.row c = σ.row c) : Keep (hide σ l) (hide σ' l') := by
 refine ⟨by rw [hide_n, hide_n]; exact hn, fun c cells hc hr => ?_⟩
 rw [hide_n] at hc
 by_cases e : c ∈ l
 ·rw [hide_mem e] at hr; cases hr
 ·obtain ⟨h1, h2⟩ := h c hc e
  rw [hide_row e] at hr
  rw [hide_row h1, h2]; exact hr
theorem keep_ext {σ σ' : St} {l : List Nat} (hE : Ext σ σ') : Keep (hide σ l) (hide σ' l) := keep_hide hE.n fun c hc h => ⟨h, hE.row hc⟩
theorem keep_all {σ : St} {l : List Nat} : Keep (hide σ l) σ := by
 have := keep_hide (σ := σ) (σ' := σ) (l := l) (l' := []) (Nat.le_refl _) fun c _ _ => ⟨by simp, rfl⟩
 exact this
def Stk (H : List Nat) (lo : Nat) (σ : St) (v : Value) (n : Nat) : Prop := (v = .slice none 0 0 ∧ n = 0) ∨
 ∃ b c cells, v = .slice (some ⟨b, 0, some 5⟩) n c ∧ n ≤ c ∧ lo ≤ b ∧ b < σ.n ∧ σ.orow b = some cells ∧ cells.length = c * 5 ∧ ∀ k, k < n → ∃ row e, sub cells (k * 5) 5 = some row ∧ ExAt (hide σ (b :: H)) row e
section
variable {H : List Nat} {lo : Nat} {σ σ' : St} {v : Value} {n k : Nat}
theorem Stk.keep (h : Stk H lo σ v n) (hE : Ext σ σ') : Stk H lo σ' v n := by
 rcases h with h | ⟨b, c, cells, h1, h2, h3, h4, h5, h6, h7⟩
 ·exact .inl h
 ·refine .inr ⟨b, c, cells, h1, h2, h3, Nat.lt_of_lt_of_le h4 hE.n, by rw [hE.orow h4]; exact h5, h6, fun k hk => ?_⟩
  obtain ⟨row, e, r1, r2⟩ := h7 k hk
  exact ⟨row, e, r1, r2.keep (keep_ext hE)⟩
theorem Stk.shape (h : Stk H lo σ v n) : ∃ a c, v = .slice a n c := by
 rcases h with ⟨rfl, rfl⟩ | ⟨b, c, cells, h1, -⟩
 ·exact ⟨_, _, rfl⟩
 ·exact ⟨_, _, h1⟩
theorem Stk.get (h : Stk H lo σ v n) (hk : k < n) : ∃ b c cells row e, v = .slice (some ⟨b, 0, some 5⟩) n c ∧ n ≤ c ∧ lo ≤ b ∧ b < σ.n ∧ σ.orow b = some cells ∧ sub cells (k * 5) 5 = some row ∧ ExAt (hide σ (b :: H)) row e := by
 rcases h with ⟨rfl, rfl⟩ | ⟨b, c, cells, h1, h2, h3, h4, h5, h6, h7⟩
 ·omega
 ·obtain ⟨row, e, r1, r2⟩ := h7 k hk
  exact ⟨b, c, cells, row, e, h1, h2, h3, h4, h5, r1, r2⟩
theorem Stk.cut {b c m : Nat} (h : Stk H lo σ (.slice (some ⟨b, 0, some 5⟩) n c) n) (hm : m ≤ n) : Stk H lo σ (.slice (some ⟨b, 0, some 5⟩) m c) m := by
 rcases h with ⟨h, -⟩ | ⟨b', c', cells, h1, h2, h3, h4, h5, h6, h7⟩
 ·cases h
 ·cases h1
  exact .inr ⟨b, c, cells, rfl, by omega, h3, h4, h5, h6, fun k hk => h7 k (by omega)⟩
theorem Stk.blk {b : Nat} (h : Stk H lo σ v n) (hb : blkOf v = some b) : lo ≤ b ∧ b < σ.n := by
 rcases h with ⟨rfl, rfl⟩ | ⟨b', c, cells, rfl, h2, h3, h4, -⟩
 ·cases hb
 ·cases hb; exact ⟨h3, h4⟩
end
structure Psh (σ σ' : St) (v v' : Value) : Prop where
 n : σ.n ≤ σ'.n
 same : ∀ c, c < σ.n → blkOf v ≠ some c → σ'.h.get c = σ.h.get c
 blk : ∀ b, blkOf v' = some b → blkOf v = some b ∨ σ.n ≤ b
theorem Psh.ext {σ0 σ σ' : St} {v v' : Value} {lo n : Nat} {H : List Nat} (h : Psh σ σ' v v') (hE : Ext σ0 σ) (hl : Stk H lo σ v n) (hlo : σ0.n ≤ lo) : Ext σ0 σ' :=
 ⟨Nat.le_trans hE.n h.n, fun c hc => by
  rw [h.same c (Nat.lt_of_lt_of_le hc hE.n) (fun hb => by have := (hl.blk hb).1; omega), hE.same c hc]⟩
theorem splice_at' {α : Type} {l new : List α} : ∀ {o : Nat}, o + new.length ≤ l.length → splice l o new = some (l.take o ++ new ++ l.drop (o + new.length)) := by
 intro o
 induction o generalizing l with
 | zero =>
  intro h
  rw [Nat.zero_add] at h ⊢
  have : ∀ (new l : List α), new.length ≤ l.length → over new l = some (new ++ l.drop new.length) := by
   intro new
   induction new with
   | nil => intro l _; rfl
   | cons x new ih =>
    intro l h
    cases l with
    | nil => simp at h
    | cons y l =>
     rw [over_cons, ih l (by simpa using h)]; rfl
  rw [List.take_zero, List.nil_append, ← this new l h]
  cases l with
  | nil => cases new with
   | nil => rfl
   | cons x new => simp at h
  | cons y l => rfl
 | succ o ih =>
  intro h
  cases l with
  | nil => simp at h
  | cons y l =>
   rw [splice_succ, ih (by simp at h; omega), ob_some]
   rw [show o + 1 + new.length = (o + new.length) + 1 by omega]
   rfl
theorem ex0_at {σ : St} {op nm : By} {n d : Int} : ExAt σ [str op, .int .i64 n, .int .i64 d, str nm, .slice none 0 0] (.mk op n d nm []) := ⟨_, [], rfl, SL.nil, by simp, rfl⟩
theorem ex2_at {σ : St} {op nm : By} {n d : Int} {b cc : Nat} {sp : Option Nat} {ra rb cells : List Value} {x y : Ex} (hb : b < σ.n) (hr : σ.row b = some cells) (hc : cells = ra ++ rb) (hx : ExAt σ ra x) (hy : ExAt σ rb y) :
  ExAt σ [str op, .int .i64 n, .int .i64 d, str nm, .slice (some ⟨b, 0, sp⟩) 2 cc] (.mk op n d nm [x, y]) := by
 have la := hx.len
 have lb := hy.len
 subst hc
 refine ⟨_, [ra, rb], rfl, .inr ⟨b, 0, sp, cc, _, rfl, hb, hr, fun k r hk => ?_⟩, by simp, ra, [rb], rfl, hx, rb, [], rfl, hy, rfl⟩
 rcases k with _ | _ | k
 ·cases hk
  rw [sub_of (by simp; omega)]
  simp [List.take_append_of_le_length, la]
 ·cases hk
  rw [sub_of (by simp; omega)]
  rw [show 0 + (0 + 1) * 5 = ra.length by omega, List.drop_left, List.take_of_length_le (by omega)]
 ·simp at hk
end Go.Proofs.G
namespace Go.Proofs.G
open Go Go.Ab
structure ExtX (p : Nat) (σ σ' : St) : Prop where
 n : σ.n ≤ σ'.n
 same : ∀ b, b < σ.n → b ≠ p → σ'.h.get b = σ.h.get b
section
variable {p : Nat} {σ σ' σ'' : St}
theorem ExtX.refl : ExtX p σ σ := ⟨Nat.le_refl _, fun _ _ _ => rfl⟩
theorem ExtX.of (h : Ext σ σ') : ExtX p σ σ' := ⟨h.n, fun b hb _ => h.same b hb⟩
theorem ExtX.trans (h : ExtX p σ σ') (k : ExtX p σ' σ'') : ExtX p σ σ'' := ⟨Nat.le_trans h.n k.n, fun b hb hne => by rw [k.same b (Nat.lt_of_lt_of_le hb h.n) hne, h.same b hb hne]⟩
theorem ExtX.upd (h : ExtX p σ σ') (cs : List Value) : ExtX p σ (σ'.upd p cs) := ⟨h.n, fun b hb hne => by rw [upd_get, if_neg hne, h.same b hb hne]⟩
theorem ExtX.ext {σ0 : St} (h : ExtX p σ σ') (h0 : Ext σ0 σ) (hp : σ0.n ≤ p) : Ext σ0 σ' := ⟨Nat.le_trans h0.n h.n, fun b hb => by rw [h.same b (Nat.lt_of_lt_of_le hb h0.n) (by omega), h0.same b hb]⟩
theorem ExtX.keep (h : ExtX p σ σ') : Keep (hide σ [p]) (hide σ' [p]) := keep_hide h.n fun c hc hm => ⟨hm, row_congr (h.same c hc (by simpa using hm))⟩
theorem ExtX.row {b : Nat} (h : ExtX p σ σ') (hb : b < σ.n) (hne : b ≠ p) : σ'.row b = σ.row b := row_congr (h.same b hb hne)
theorem ExtX.orow {b : Nat} (h : ExtX p σ σ') (hb : b < σ.n) (hne : b ≠ p) : σ'.orow b = σ.orow b := orow_congr (h.same b hb hne)
theorem ExtX.app {v v' : Value} {lo size : Nat} {rows : List (List Value)} (h : App σ' σ'' v v') (hE : ExtX p σ σ') (hl : OL lo σ' size v rows) (hlo : σ.n ≤ lo) : ExtX p σ σ'' :=
 ⟨Nat.le_trans hE.n h.n, fun c hc hne => by
  rw [h.same c (Nat.lt_of_lt_of_le hc hE.n) (fun hb => by have := (hl.blk hb).1; omega), hE.same c hc hne]⟩
end
def SLs (σ : St) (size : Nat) (v : Value) (rows : List (List Value)) : Prop := (∀ r ∈ rows, r.length = size) ∧
 ((v = .slice none 0 0 ∧ rows = []) ∨ ∃ b off sp c cells, v = .slice (some ⟨b, off, sp⟩) rows.length c ∧ b < σ.n ∧ σ.row b = some cells ∧ sub cells off (rows.length * size) = some rows.flatten)
theorem SLs.nil {σ : St} {size : Nat} : SLs σ size (.slice none 0 0) [] := ⟨fun r h => by simp at h, .inl ⟨rfl, rfl⟩⟩
theorem SLs.sl {σ : St} {size : Nat} {v : Value} {rows : List (List Value)} (h : SLs σ size v rows) : SL σ size v rows := by
 obtain ⟨hr, h | ⟨b, off, sp, c, cells, h1, h2, h3, h4⟩⟩ := h
 ·exact .inl h
 ·refine .inr ⟨b, off, sp, c, cells, h1, h2, h3, fun k r hk => ?_⟩
  have hlt := (List.getElem?_eq_some_iff.1 hk).1
  have hmul : k * size + size ≤ rows.length * size := by
   have : (k + 1) * size ≤ rows.length * size := Nat.mul_le_mul_right size hlt
   rw [Nat.succ_mul] at this; exact this
  rw [sub_in h4 hmul, ← Nat.add_zero (k * size), sub_rows hr hk (by omega)]
  have := hr r (List.mem_of_getElem? hk)
  exact sub_full (by omega) (by omega)
theorem SLs.keep {σ σ' : St} {size : Nat} {v : Value} {rows : List (List Value)} (h : SLs σ size v rows) (hE : Keep σ σ') : SLs σ' size v rows := by
 obtain ⟨hr, h | ⟨b, off, sp, c, cells, h1, h2, h3, h4⟩⟩ := h
 ·exact ⟨hr, .inl h⟩
 ·exact ⟨hr, .inr ⟨b, off, sp, c, cells, h1, Nat.lt_of_lt_of_le h2 hE.n, hE.row _ _ h2 h3, h4⟩⟩
theorem SLs.src {σ : St} {size : Nat} {v : Value} {rows : List (List Value)} (h : SLs σ size v rows) : srcCells σ size v = some (rows.length, rows.flatten) := by
 obtain ⟨hr, ⟨rfl, rfl⟩ | ⟨b, off, sp, c, cells, rfl, h2, h3, h4⟩⟩ := h
 ·rfl
 ·rw [src_slice, read_eq, h3, ob_some, h4, ob_some]
theorem SLs.shape {σ : St} {size : Nat} {v : Value} {rows : List (List Value)} (h : SLs σ size v rows) : ∃ a c, v = .slice a rows.length c := by
 obtain ⟨hr, ⟨rfl, rfl⟩ | ⟨b, off, sp, c, cells, rfl, -⟩⟩ := h
 ·exact ⟨_, _, rfl⟩
 ·exact ⟨_, _, rfl⟩
theorem OL.hide {lo : Nat} {σ : St} {size : Nat} {v : Value} {rows : List (List Value)} {H : List Nat} (h : OL lo σ size v rows) (hH : ∀ q ∈ H, q < lo) : SLs (hide σ H) size v rows := by
 obtain ⟨hr, ⟨rfl, rfl⟩ | ⟨b, sp, rfl, hs, h1, h2, h3⟩⟩ := h
 ·exact .nil
 ·have := flatten_len rows hr
  exact ⟨hr, .inr ⟨b, 0, sp, _, _, rfl, by rw [hide_n]; exact h2, by rw [hide_row fun hm => by have := hH b hm; omega]; exact row_of h3, sub_full (by omega) (by omega)⟩⟩
theorem OL.shape {lo : Nat} {σ : St} {size : Nat} {v : Value} {rows : List (List Value)} (h : OL lo σ size v rows) : ∃ a, v = .slice a rows.length rows.length := by
 obtain ⟨hr, ⟨rfl, rfl⟩ | ⟨b, sp, rfl, -⟩⟩ := h
 ·exact ⟨_, rfl⟩
 ·exact ⟨_, rfl⟩
theorem OL.lower {lo lo' : Nat} {σ : St} {size : Nat} {v : Value} {rows : List (List Value)} (h : OL lo σ size v rows) (hl : lo' ≤ lo) : OL lo' σ size v rows := by
 obtain ⟨hr, h | ⟨b, sp, h1, h2, h3, h4, h5⟩⟩ := h
 ·exact ⟨hr, .inl h⟩
 ·exact ⟨hr, .inr ⟨b, sp, h1, h2, Nat.le_trans hl h3, h4, h5⟩⟩
theorem OL.keepX {p lo : Nat} {σ σ' : St} {size : Nat} {v : Value} {rows : List (List Value)} (h : OL lo σ size v rows) (hE : ExtX p σ σ') (hp : p < lo) : OL lo σ' size v rows := by
 refine h.keep hE.n fun b hb => ?_
 have := h.blk hb
 exact hE.same b this.2 (by omega)
def TnX (σ : St) (cells : List Value) (T : Tn) : Prop :=
 ∃ vl vc vr ex vt vk vs, cells = tnRow T.name vl vc vr T.low T.high ex vt T.most vk T.budget T.t ∧ SLs σ 2 vl (T.lots.map Lot.row) ∧ SLs σ 5 vc (T.crits.map Crit.row) ∧ SLs σ 3 vr (T.reqs.map Req.row) ∧ ExAt σ ex T.f ∧
  SLs σ 1 vt (T.ties.map fun s => [str s]) ∧ SLs σ 1 vk (vs.map fun x => [x]) ∧ All2 (Ints σ) vs T.combos
theorem TnX.tn {σ : St} {cells : List Value} {T : Tn} (h : TnX σ cells T) : TnAt σ cells T := by
 obtain ⟨vl, vc, vr, ex, vt, vk, vs, h1, h2, h3, h4, h5, h6, h7, h8⟩ := h
 exact ⟨vl, vc, vr, ex, vt, vk, h1, h2.sl, h3.sl, h4.sl, h5, h6.sl, vs, h7.sl, h8⟩
theorem TnX.keep {σ σ' : St} {cells : List Value} {T : Tn} (h : TnX σ cells T) (hE : Keep σ σ') : TnX σ' cells T := by
 obtain ⟨vl, vc, vr, ex, vt, vk, vs, h1, h2, h3, h4, h5, h6, h7, h8⟩ := h
 exact ⟨vl, vc, vr, ex, vt, vk, vs, h1, h2.keep hE, h3.keep hE, h4.keep hE, h5.keep hE, h6.keep hE, h7.keep hE, h8.mono fun _ _ h => SL.keep h hE⟩
def Tn.Le (n : Nat) (T : Tn) : Prop := T.lots.length ≤ n ∧ T.crits.length ≤ n ∧ T.reqs.length ≤ n ∧ T.ties.length ≤ n ∧ T.combos.length ≤ n
theorem ev_clone {P : Program} {σ : St} {t size by' b : Nat} {v : Value} {rows : List (List Value)} {Q : Value × St → Prop} {uq : Hd Q}
  (hap : ∀ (b : Option Addr) (len cap : Nat) (w : Value), appendV P σ t (.slice b len cap) w = ob (srcCells σ size w) fun p => pr p fun n new => bi (Nat.ble (len + n) cap) (appendIn σ size b len cap n new) (bb (Nat.ble ((len + n) * by') room) (appendNew σ size b len n new)))
  (hb : σ.orow b = some []) (hbn : b < σ.n) (hl : SLs σ size v rows) (hlen : rows.length * by' ≤ 4294967296)
  (h : ∀ v' σ', OL b σ' size v' rows → ExtX b σ σ' → Q (v', σ')) : Ev (appendV P σ t (.slice (some ⟨b, 0, none⟩) 0 0) v) Q uq := by
 have hfl := flatten_len rows hl.1
 rw [hap, hl.src, ob_some, pr_mk, Nat.zero_add]
 by_cases h0 : rows.length = 0
 ·obtain rfl : rows = [] := List.eq_nil_of_length_eq_zero h0
  rw [show Nat.ble ([] : List (List Value)).length 0 = true from rfl, bi_true, ai_some, write_eq, hb, ob_some]
  rw [show splice ([] : List Value) (0 + 0 * size) ([] : List (List Value)).flatten = some [] from by rw [Nat.zero_mul]; rfl, ob_some, ob_some, ev_some]
  exact h _ _ ⟨fun r h => by simp at h, .inr ⟨b, none, rfl, .inl rfl, Nat.le_refl _, hbn, orow_upd_same⟩⟩ ⟨Nat.le_refl _, fun c hc hne => by rw [upd_get, if_neg hne]⟩
 ·have hroom : Nat.ble (rows.length * by') room = true := ble_of hlen
  rw [ble_no (by omega), bi_false, hroom, bb_true, an_plain, read_eq, row_of hb, ob_some, Nat.zero_mul]
  rw [show sub ([] : List Value) 0 0 = some [] from rfl, ob_some, ev_some, Nat.zero_add, List.nil_append]
  refine h _ _ ⟨hl.1, .inr ⟨σ.n, some size, rfl, .inr rfl, Nat.le_of_lt hbn, by simp, orow_new_same (Nat.le_refl _) (Nat.le_refl _)⟩⟩ ⟨by simp, fun c hc _ => by rw [new_get, if_neg (by omega)]⟩
end Go.Proofs.G
