/- A part of the proof: a walk of some functions. -/
import Derived.Test.YtcjkjjnnicadfaaGreatDoorGC
set_option linter.unusedSimpArgs false
set_option linter.unusedVariables false
namespace Go.Proofs.G
open Go Go.Ab
set_option maxRecDepth 100000
def critS (c : Crit) : By := dec c.kind ++ [32] ++ dec c.low ++ [32] ++ dec c.high ++ (if c.less then [32, 108, 101, 115, 115] else [])
def reqS (r : Req) : By := dec (r.name.length : Nat) ++ [32] ++ r.name ++ dec (r.rel.length : Nat) ++ [32] ++ r.rel ++ dec r.value
def tieS (s t : By) : By := s ++ dec (t.length : Nat) ++ [32] ++ t
def tiesS (l : List By) : By := l.foldl tieS []
def numS (s : By) (n : Int) : By := s ++ dec n ++ [32]
def comboS (s : By) (c : List Int) : By := c.foldl numS (s ++ [124])
def combosS (l : List (List Int)) : By := l.foldl comboS []
def timS (t : Tim) : By := dec t.q ++ [32] ++ dec t.b ++ [32] ++ dec t.g ++ [32] ++ dec t.p ++ [32] ++ dec t.s
def fixedS (T : Tn) (c : By) : By :=
  if c = nameC then T.name else if c = rangeC then dec T.low ++ [32] ++ dec T.high else if c = tiesC then tiesS T.ties else if c = mostC then dec T.most else if c = combosC then combosS T.combos else if c = budgetC then dec T.budget else if c = timesC then timS T.t else []
def content (T : Tn) (c : By) : By := match T.lots.find? (fun l => c == lotC l.id) with
  | some l => dec l.most
  | none => match T.crits.find? (fun x => c == critC x.name) with
    | some x => critS x
    | none => match (List.range T.reqs.length).find? (fun k => c == reqC (k + 1)) with
      | some k => (T.reqs[k]?.map reqS).getD []
      | none => fixedS T c
theorem find_at {α : Type} {p : α → Bool} {l : List α} {k : Nat} {a : α} (h : l[k]? = some a) (hp : p a = true) (hn : ∀ (i : Nat) (b : α), i < k → l[i]? = some b → p b = false) : l.find? p = some a := by
  induction l generalizing k with
  | nil => simp at h
  | cons x l ih =>
    cases k with
    | zero => cases h; simp [List.find?, hp]
    | succ k =>
      have h0 := hn 0 x (by omega) rfl
      rw [List.find?_cons, h0]
      exact ih (k := k) (by simpa using h) fun i b hi hb => hn (i + 1) b (by omega) (by simpa using hb)
theorem find_no {α : Type} {p : α → Bool} {l : List α} (hn : ∀ (i : Nat) (b : α), l[i]? = some b → p b = false) : l.find? p = none := by
  rw [List.find?_eq_none]
  intro x hx
  obtain ⟨i, hi⟩ := List.mem_iff_getElem?.1 hx
  rw [hn i x hi]; simp
theorem ties_len {l : List By} : ∀ {s : By}, (∀ t ∈ l, t ∈ names) → (l.foldl tieS s).length ≤ s.length + l.length * 29 := by
  induction l with
  | nil => intro s h; simp
  | cons t l ih =>
    intro s h
    have h1 := ih (s := tieS s t) fun x hx => h x (by simp [hx])
    have h2 := names_len (h t (by simp))
    have h3 := dec_len (n := (t.length : Int)) (by omega) (by omega)
    have h4 : (tieS s t).length = s.length + (dec (t.length : Int)).length + 1 + t.length := by simp [tieS]; omega
    simp only [List.foldl_cons, List.length_cons]
    omega
theorem nums_len {l : List Int} : ∀ {s : By}, (∀ n ∈ l, In64 n) → (l.foldl numS s).length ≤ s.length + l.length * 22 := by
  induction l with
  | nil => intro s h; simp
  | cons n l ih =>
    intro s h
    have h1 := ih (s := numS s n) fun x hx => h x (by simp [hx])
    have h2 := h n (by simp)
    have h3 := dec_len h2.1 h2.2
    have h4 : (numS s n).length = s.length + (dec n).length + 1 := by simp [numS]; omega
    simp only [List.foldl_cons, List.length_cons]
    omega
theorem combos_len {l : List (List Int)} : ∀ {s : By}, (∀ c ∈ l, c.length ≤ 4 ∧ ∀ n ∈ c, In64 n) → (l.foldl comboS s).length ≤ s.length + l.length * 89 := by
  induction l with
  | nil => intro s h; simp
  | cons c l ih =>
    intro s h
    have h1 := ih (s := comboS s c) fun x hx => h x (by simp [hx])
    have h2 := h c (by simp)
    have h3 := nums_len (s := s ++ [124]) h2.2
    have h4 : (comboS s c).length ≤ s.length + 1 + c.length * 22 := by simpa [comboS] using h3
    simp only [List.foldl_cons, List.length_cons]
    omega
theorem fold_take {α β : Type} (f : β → α → β) {l : List α} {k : Nat} {a : α} {s : β} (h : l[k]? = some a) : (l.take (k + 1)).foldl f s = f ((l.take k).foldl f s) a := by
  rw [List.take_add_one, h]; simp [List.foldl_append]
/-- What is known within: the slots of the parameters. -/
def CT (σ : St) (cells : List Value) (c : By) (fr : Fr) (σ' : St) : Prop := fr.get 1 = some (str c) ∧ fr.get 2 = some (.pointer (some ⟨σ.n, 0, none⟩)) ∧ Ext (σ.new cells) σ'
set_option maxHeartbeats 4000000 in
theorem content_ok {σ : St} {cells : List Value} {T : Tn} {c : By} (hT : TnAt σ cells T) (ok : T.Ok) (hnm : T.name.length ≤ 100) : Ev (go Tryz.prog HS (.fn 92) [.agg ⟨cells⟩, str c] σ) (fun r => ∃ σ', r = ⟨false, str (content T c), σ'⟩ ∧ Ext σ σ') ⟨⟩ := by
  obtain ⟨vl, vc, vr, ex, vt, vk, rfl, h2, h3, h4, h5, h6, h7⟩ := hT
  obtain ⟨la, lc, lb, lo, lcs, rfl, l1, l2⟩ := h2.use
  obtain ⟨ca, cc, cb, co, ccs, rfl, k1, k2⟩ := h3.use
  obtain ⟨ra, rc, rb, ro, rcs, rfl, r1, r2⟩ := h4.use
  obtain ⟨ta, tc, tb, to, tcs, rfl, t1, t2⟩ := h6.use
  obtain ⟨kvs, h71, h72⟩ := h7
  obtain ⟨ka, kc, kb, ko, kcs, rfl, m1, m2⟩ := SL.use' h71
  refine ev_go Tryz.func92 rfl rfl ?_
  have hxl := h5.len
  obtain ⟨x1, x2, x3, x4, x5, rfl⟩ : ∃ a b c d e, ex = [a, b, c, d, e] := by
    match ex, hxl with
    | [a, b, c, d, e], _ => exact ⟨a, b, c, d, e, rfl⟩
  generalize hcs : tnRow T.name _ _ _ T.low T.high _ _ T.most _ T.budget T.t = cells
  have c1 : sub cells 1 1 = some [.slice la T.lots.length lc] := by rw [← hcs]; rfl
  have c3 : sub cells 2 1 = some [.slice ca T.crits.length cc] := by rw [← hcs]; rfl
  have c4 : sub cells 3 1 = some [.slice ra T.reqs.length rc] := by rw [← hcs]; rfl
  have ext1 : Ext σ (σ.new cells) := (Ext.refl _).new' _
  have ok1 := ok.lots
  have ok2 := ok.crits
  have ok3 := ok.reqs
  have ok4 := ok.ties
  have ok5 := ok.combos
  simp (maxSteps := 1000000) (disch := first | omega | ((try simp only [bunN]) <;> omega) | fail) only [↓bunD, bunU, ↓bunFD, bunFU, Nat.reduceMul, Nat.reduceEqDiff, Nat.reduceAdd, Nat.reduceBEq, reduceIte, splice_succ, bunAP]
  refine ev_count T.lots.length (fun k fr σ' => fr.get 5 = some (.int .i64 k) ∧ CT σ cells c fr σ' ∧ ∀ (i : Nat) (b : Lot), i < k → T.lots[i]? = some b → (c == lotC b.id) = false)
    (fun r => (∃ fr σ', r = ⟨.exit 0, fr, σ'⟩ ∧ CT σ cells c fr σ' ∧ T.lots.find? (fun l => c == lotC l.id) = none) ∨ (∃ fr σ', r = ⟨.ret, fr, σ'⟩ ∧ Ext σ σ' ∧ fr.get 4 = some (str (content T c)))) ?_ ?_ ?_ ?_
  · exact ⟨by first | trivial | rfl | assumption | omega | (simp only [bunM]; omega) | (simp (disch := first | omega | ((try simp only [bunN]) <;> omega) | fail) only [bunR, ↓get_set, Nat.reduceEqDiff, reduceIte]; first | done | rfl | assumption | omega), ⟨by first | trivial | rfl | assumption | omega | (simp only [bunM]; omega) | (simp (disch := first | omega | ((try simp only [bunN]) <;> omega) | fail) only [bunR, ↓get_set, Nat.reduceEqDiff, reduceIte]; first | done | rfl | assumption | omega), by first | trivial | rfl | assumption | omega | (simp only [bunM]; omega) | (simp (disch := first | omega | ((try simp only [bunN]) <;> omega) | fail) only [bunR, ↓get_set, Nat.reduceEqDiff, reduceIte]; first | done | rfl | assumption | omega), .refl _⟩, fun i b h => by omega⟩
  · rintro k fr σ' hk ⟨g5, ⟨g1, g2, hE⟩, hm⟩
    have hc := lt_true hk
    obtain ⟨a, ha⟩ := at_some hk
    have c2 : σ'.row σ.n = some cells := by rw [hE.row (by simp)]; first | trivial | rfl | assumption | omega | (simp only [bunM]; omega) | (simp (disch := first | omega | ((try simp only [bunN]) <;> omega) | fail) only [bunR]; first | done | rfl | assumption | omega)
    obtain ⟨sp, rfl, l3, l4⟩ := l1 (by omega)
    have l5 : σ'.row lb = some lcs := by rw [hE.row (by simp; omega), row_new_ne (by omega)]; exact l4
    obtain ⟨-, l7, l8⟩ := l2 k a ha
    have oka := ok.lot a (List.mem_of_getElem? ha)
    simp (maxSteps := 1000000) (disch := first | omega | ((try simp only [bunN]) <;> omega) | fail) only [↓bunD, bunU, ↓bunFD, bunFU, Nat.reduceMul, Nat.reduceEqDiff, Nat.reduceAdd, Nat.reduceBEq, reduceIte, splice_succ, bunAP, g1, g2, g5, c1, c2, hc, l5, l7]
    refine (rlot_ok (by unfold In64; omega)).mono ?_
    rintro r ⟨σ2, rfl, hE2⟩
    simp (maxSteps := 1000000) (disch := first | omega | ((try simp only [bunN]) <;> omega) | fail) only [↓bunD, bunU, ↓bunFD, bunFU, Nat.reduceMul, Nat.reduceEqDiff, Nat.reduceAdd, Nat.reduceBEq, reduceIte, splice_succ, bunAP, g1, g2, g5]
    have c2' : σ2.row σ.n = some cells := by rw [hE2.row (by have := hE.n; simp at this; omega)]; exact c2
    have l5' : σ2.row lb = some lcs := by rw [hE2.row (by have := hE.n; simp at this; omega)]; exact l5
    refine Br.intro (fun hd => ?_) (fun hd => ?_)
    · have hd : c = lotC a.id := by simpa using hd
      simp (maxSteps := 1000000) (disch := first | omega | ((try simp only [bunN]) <;> omega) | fail) only [↓bunD, bunU, ↓bunFD, bunFU, Nat.reduceMul, Nat.reduceEqDiff, Nat.reduceAdd, Nat.reduceBEq, reduceIte, splice_succ, bunAP, g1, g2, g5, c1, c2', l5', l8]
      refine (decimal_ok oka.2.2.1 oka.2.2.2).mono ?_
      rintro r ⟨σ3, rfl, hE3⟩
      simp (maxSteps := 1000000) (disch := first | omega | ((try simp only [bunN]) <;> omega) | fail) only [↓bunD, bunU, ↓bunFD, bunFU, Nat.reduceMul, Nat.reduceEqDiff, Nat.reduceAdd, Nat.reduceBEq, reduceIte, splice_succ, bunAP, g1, g2, g5]
      refine .inr ⟨_, _, rfl, ext1.trans (hE.trans (hE2.trans hE3)), ?_⟩
      have hf : T.lots.find? (fun l => c == lotC l.id) = some a := find_at ha (by simp [hd]) hm
      unfold content
      rw [hf]
      first | trivial | rfl | assumption | omega | (simp only [bunM]; omega) | (simp (disch := first | omega | ((try simp only [bunN]) <;> omega) | fail) only [bunR, ↓get_set, Nat.reduceEqDiff, reduceIte]; first | done | rfl | assumption | omega)
    · simp (maxSteps := 1000000) (disch := first | omega | ((try simp only [bunN]) <;> omega) | fail) only [↓bunD, bunU, ↓bunFD, bunFU, Nat.reduceMul, Nat.reduceEqDiff, Nat.reduceAdd, Nat.reduceBEq, reduceIte, splice_succ, bunAP, g1, g2, g5]
      refine ⟨by first | trivial | rfl | assumption | omega | (simp only [bunM]; omega) | (simp (disch := first | omega | ((try simp only [bunN]) <;> omega) | fail) only [bunR, ↓get_set, Nat.reduceEqDiff, reduceIte]; first | done | rfl | assumption | omega), ⟨by first | trivial | rfl | assumption | omega | (simp only [bunM]; omega) | (simp (disch := first | omega | ((try simp only [bunN]) <;> omega) | fail) only [bunR, ↓get_set, Nat.reduceEqDiff, reduceIte, g1]; first | done | rfl | assumption | omega), by first | trivial | rfl | assumption | omega | (simp only [bunM]; omega) | (simp (disch := first | omega | ((try simp only [bunN]) <;> omega) | fail) only [bunR, ↓get_set, Nat.reduceEqDiff, reduceIte, g2]; first | done | rfl | assumption | omega), hE.trans hE2⟩, fun i b hi hb => ?_⟩
      by_cases e : i = k
      · subst e; rw [ha] at hb; cases hb
        simpa using hd
      · exact hm i b (by omega) hb
  · rintro fr σ' ⟨g5, ⟨g1, g2, hE⟩, hm⟩
    have c2 : σ'.row σ.n = some cells := by rw [hE.row (by simp)]; first | trivial | rfl | assumption | omega | (simp only [bunM]; omega) | (simp (disch := first | omega | ((try simp only [bunN]) <;> omega) | fail) only [bunR]; first | done | rfl | assumption | omega)
    simp (maxSteps := 1000000) (disch := first | omega | ((try simp only [bunN]) <;> omega) | fail) only [↓bunD, bunU, ↓bunFD, bunFU, Nat.reduceMul, Nat.reduceEqDiff, Nat.reduceAdd, Nat.reduceBEq, reduceIte, splice_succ, bunAP, g1, g2, g5, c1, c2]
    exact .inl ⟨_, _, rfl, ⟨by first | trivial | rfl | assumption | omega | (simp only [bunM]; omega) | (simp (disch := first | omega | ((try simp only [bunN]) <;> omega) | fail) only [bunR, ↓get_set, Nat.reduceEqDiff, reduceIte, g1]; first | done | rfl | assumption | omega), by first | trivial | rfl | assumption | omega | (simp only [bunM]; omega) | (simp (disch := first | omega | ((try simp only [bunN]) <;> omega) | fail) only [bunR, ↓get_set, Nat.reduceEqDiff, reduceIte, g2]; first | done | rfl | assumption | omega), hE⟩, find_no fun i b hb => hm i b (List.getElem?_eq_some_iff.1 hb).1 hb⟩
  rintro r (⟨fr, σ', rfl, ⟨g1, g2, hE⟩, hlots⟩ | ⟨fr, σ', rfl, hE, g4⟩)
  rotate_left
  · simp (maxSteps := 1000000) (disch := first | omega | ((try simp only [bunN]) <;> omega) | fail) only [↓bunD, bunU, ↓bunFD, bunFU, Nat.reduceMul, Nat.reduceEqDiff, Nat.reduceAdd, Nat.reduceBEq, reduceIte, splice_succ, bunAP, Tryz.results92, g4]; exact ⟨_, rfl, hE⟩
  simp (maxSteps := 1000000) (disch := first | omega | ((try simp only [bunN]) <;> omega) | fail) only [↓bunD, bunU, ↓bunFD, bunFU, Nat.reduceMul, Nat.reduceEqDiff, Nat.reduceAdd, Nat.reduceBEq, reduceIte, splice_succ, bunAP, g1, g2]
  refine ev_count T.crits.length (fun k fr σ' => fr.get 6 = some (.int .i64 k) ∧ CT σ cells c fr σ' ∧ ∀ (i : Nat) (b : Crit), i < k → T.crits[i]? = some b → (c == critC b.name) = false)
    (fun r => (∃ fr σ', r = ⟨.exit 2, fr, σ'⟩ ∧ CT σ cells c fr σ' ∧ T.crits.find? (fun x => c == critC x.name) = none) ∨ (∃ fr σ', r = ⟨.ret, fr, σ'⟩ ∧ Ext σ σ' ∧ fr.get 4 = some (str (content T c)))) ?_ ?_ ?_ ?_
  · exact ⟨by first | trivial | rfl | assumption | omega | (simp only [bunM]; omega) | (simp (disch := first | omega | ((try simp only [bunN]) <;> omega) | fail) only [bunR, ↓get_set, Nat.reduceEqDiff, reduceIte]; first | done | rfl | assumption | omega), ⟨by first | trivial | rfl | assumption | omega | (simp only [bunM]; omega) | (simp (disch := first | omega | ((try simp only [bunN]) <;> omega) | fail) only [bunR, ↓get_set, Nat.reduceEqDiff, reduceIte, g1]; first | done | rfl | assumption | omega), by first | trivial | rfl | assumption | omega | (simp only [bunM]; omega) | (simp (disch := first | omega | ((try simp only [bunN]) <;> omega) | fail) only [bunR, ↓get_set, Nat.reduceEqDiff, reduceIte, g2]; first | done | rfl | assumption | omega), hE⟩, fun i b h => by omega⟩
  · clear hE g1 g2 fr σ'
    rintro k fr σ' hk ⟨g5, ⟨g1, g2, hE⟩, hm⟩
    have hc := lt_true hk
    obtain ⟨a, ha⟩ := at_some hk
    have c2 : σ'.row σ.n = some cells := by rw [hE.row (by simp)]; first | trivial | rfl | assumption | omega | (simp only [bunM]; omega) | (simp (disch := first | omega | ((try simp only [bunN]) <;> omega) | fail) only [bunR]; first | done | rfl | assumption | omega)
    obtain ⟨sp, rfl, l3, l4⟩ := k1 (by omega)
    have l5 : σ'.row cb = some ccs := by rw [hE.row (by simp; omega), row_new_ne (by omega)]; exact l4
    obtain ⟨l7, -⟩ := k2 k a ha
    have oka := ok.crit a (List.mem_of_getElem? ha)
    have hnl := names_len oka.1
    have hEn := hE.n
    have hql : a.row.length = 5 := rfl
    have q0 : a.row = [str a.name, .int .i64 a.kind, .int .i64 a.low, .int .i64 a.high, .bool a.less] := rfl
    simp (maxSteps := 1000000) (disch := first | omega | ((try simp only [bunN]) <;> omega) | fail) only [↓bunD, bunU, ↓bunFD, bunFU, Nat.reduceMul, Nat.reduceEqDiff, Nat.reduceAdd, Nat.reduceBEq, reduceIte, splice_succ, bunAP, g1, g2, g5, c2, c3, hc, l5, l7, hql, q0]
    refine Br.intro (fun hd => ?_) (fun hd => ?_)
    · have hd : c = critC a.name := by simpa [critC] using hd
      have hf : T.crits.find? (fun x => c == critC x.name) = some a := find_at ha (by simp [hd]) hm
      have hcont : content T c = critS a := by unfold content; rw [hlots]; simp only [hf]
      have hl1 := dec_len oka.2.1.1 oka.2.1.2
      have hl2 := dec_len oka.2.2.1.1 oka.2.2.1.2
      have hl3 := dec_len oka.2.2.2.1 oka.2.2.2.2
      have hEc : Ext (σ.new cells) ((σ'.new [str [], .int .i64 0, .int .i64 0, .int .i64 0, .bool false]).upd σ'.n [str a.name, .int .i64 a.kind, .int .i64 a.low, .int .i64 a.high, .bool a.less]) := (hE.new' _).upd (by simpa using hEn) _
      simp (maxSteps := 1000000) (disch := first | omega | ((try simp only [bunN]) <;> omega) | fail) only [↓bunD, bunU, ↓bunFD, bunFU, Nat.reduceMul, Nat.reduceEqDiff, Nat.reduceAdd, Nat.reduceBEq, reduceIte, splice_succ, bunAP, g1, g2, g5]
      refine (decimal_ok oka.2.1.1 oka.2.1.2).mono ?_
      rintro r ⟨σ2, rfl, e2⟩
      have w2 : σ2.row σ'.n = some [str a.name, .int .i64 a.kind, .int .i64 a.low, .int .i64 a.high, .bool a.less] := by rw [e2.row (by simp)]; first | trivial | rfl | assumption | omega | (simp only [bunM]; omega) | (simp (disch := first | omega | ((try simp only [bunN]) <;> omega) | fail) only [bunR]; first | done | rfl | assumption | omega)
      have n2 := e2.n
      simp (maxSteps := 1000000) (disch := first | omega | ((try simp only [bunN]) <;> omega) | fail) only [↓bunD, bunU, ↓bunFD, bunFU, Nat.reduceMul, Nat.reduceEqDiff, Nat.reduceAdd, Nat.reduceBEq, reduceIte, splice_succ, bunAP, g1, g2, g5, w2]
      refine (decimal_ok oka.2.2.1.1 oka.2.2.1.2).mono ?_
      rintro r ⟨σ3, rfl, e3⟩
      have w3 : σ3.row σ'.n = some [str a.name, .int .i64 a.kind, .int .i64 a.low, .int .i64 a.high, .bool a.less] := by rw [e3.row (by simp at n2; omega)]; exact w2
      have n3 := e3.n
      simp (maxSteps := 1000000) (disch := first | omega | ((try simp only [bunN]) <;> omega) | fail) only [↓bunD, bunU, ↓bunFD, bunFU, Nat.reduceMul, Nat.reduceEqDiff, Nat.reduceAdd, Nat.reduceBEq, reduceIte, splice_succ, bunAP, g1, g2, g5, w3]
      refine (decimal_ok oka.2.2.2.1 oka.2.2.2.2).mono ?_
      rintro r ⟨σ4, rfl, e4⟩
      have w4 : σ4.row σ'.n = some [str a.name, .int .i64 a.kind, .int .i64 a.low, .int .i64 a.high, .bool a.less] := by rw [e4.row (by simp at n2; omega)]; exact w3
      simp (maxSteps := 1000000) (disch := first | omega | ((try simp only [bunN]) <;> omega) | fail) only [↓bunD, bunU, ↓bunFD, bunFU, Nat.reduceMul, Nat.reduceEqDiff, Nat.reduceAdd, Nat.reduceBEq, reduceIte, splice_succ, bunAP, g1, g2, g5, asx e2, asx e3, asx e4, w4]
      have hE4 := ext1.trans (hEc.trans (e2.trans (e3.trans e4)))
      cases hb : a.less with
      | true =>
        simp (maxSteps := 1000000) (disch := first | omega | ((try simp only [bunN]) <;> omega) | fail) only [↓bunD, bunU, ↓bunFD, bunFU, Nat.reduceMul, Nat.reduceEqDiff, Nat.reduceAdd, Nat.reduceBEq, reduceIte, splice_succ, bunAP, g1, g2, g5]
        refine .inr ⟨_, _, rfl, hE4, ?_⟩
        rw [hcont]
        simp only [critS, hb, ↓get_set, Nat.reduceEqDiff, reduceIte, if_true]
      | false =>
        simp (maxSteps := 1000000) (disch := first | omega | ((try simp only [bunN]) <;> omega) | fail) only [↓bunD, bunU, ↓bunFD, bunFU, Nat.reduceMul, Nat.reduceEqDiff, Nat.reduceAdd, Nat.reduceBEq, reduceIte, splice_succ, bunAP, g1, g2, g5]
        refine .inr ⟨_, _, rfl, hE4, ?_⟩
        rw [hcont]
        simp only [critS, hb, ↓get_set, Nat.reduceEqDiff, reduceIte, Bool.false_eq_true, if_false, List.append_nil]
    · simp (maxSteps := 1000000) (disch := first | omega | ((try simp only [bunN]) <;> omega) | fail) only [↓bunD, bunU, ↓bunFD, bunFU, Nat.reduceMul, Nat.reduceEqDiff, Nat.reduceAdd, Nat.reduceBEq, reduceIte, splice_succ, bunAP, g1, g2, g5]
      refine ⟨by first | trivial | rfl | assumption | omega | (simp only [bunM]; omega) | (simp (disch := first | omega | ((try simp only [bunN]) <;> omega) | fail) only [bunR, ↓get_set, Nat.reduceEqDiff, reduceIte]; first | done | rfl | assumption | omega), ⟨by first | trivial | rfl | assumption | omega | (simp only [bunM]; omega) | (simp (disch := first | omega | ((try simp only [bunN]) <;> omega) | fail) only [bunR, ↓get_set, Nat.reduceEqDiff, reduceIte, g1]; first | done | rfl | assumption | omega), by first | trivial | rfl | assumption | omega | (simp only [bunM]; omega) | (simp (disch := first | omega | ((try simp only [bunN]) <;> omega) | fail) only [bunR, ↓get_set, Nat.reduceEqDiff, reduceIte, g2]; first | done | rfl | assumption | omega), ?_⟩, fun i b hi hb => ?_⟩
      · exact (hE.new' _).upd (by simpa using hEn) _
      by_cases e : i = k
      · subst e; rw [ha] at hb; cases hb
        simpa [critC] using hd
      · exact hm i b (by omega) hb
  · rintro fr σ' ⟨g5, ⟨g1, g2, hE⟩, hm⟩
    have c2 : σ'.row σ.n = some cells := by rw [hE.row (by simp)]; first | trivial | rfl | assumption | omega | (simp only [bunM]; omega) | (simp (disch := first | omega | ((try simp only [bunN]) <;> omega) | fail) only [bunR]; first | done | rfl | assumption | omega)
    simp (maxSteps := 1000000) (disch := first | omega | ((try simp only [bunN]) <;> omega) | fail) only [↓bunD, bunU, ↓bunFD, bunFU, Nat.reduceMul, Nat.reduceEqDiff, Nat.reduceAdd, Nat.reduceBEq, reduceIte, splice_succ, bunAP, g1, g2, g5, c3, c2]
    exact .inl ⟨_, _, rfl, ⟨by first | trivial | rfl | assumption | omega | (simp only [bunM]; omega) | (simp (disch := first | omega | ((try simp only [bunN]) <;> omega) | fail) only [bunR, ↓get_set, Nat.reduceEqDiff, reduceIte, g1]; first | done | rfl | assumption | omega), by first | trivial | rfl | assumption | omega | (simp only [bunM]; omega) | (simp (disch := first | omega | ((try simp only [bunN]) <;> omega) | fail) only [bunR, ↓get_set, Nat.reduceEqDiff, reduceIte, g2]; first | done | rfl | assumption | omega), hE⟩, find_no fun i b hb => hm i b (List.getElem?_eq_some_iff.1 hb).1 hb⟩
  clear hE g1 g2 fr σ'
  rintro r (⟨fr, σ', rfl, ⟨g1, g2, hE⟩, hcrits⟩ | ⟨fr, σ', rfl, hE, g4⟩)
  rotate_left
  · simp (maxSteps := 1000000) (disch := first | omega | ((try simp only [bunN]) <;> omega) | fail) only [↓bunD, bunU, ↓bunFD, bunFU, Nat.reduceMul, Nat.reduceEqDiff, Nat.reduceAdd, Nat.reduceBEq, reduceIte, splice_succ, bunAP, Tryz.results92, g4]; exact ⟨_, rfl, hE⟩
  simp (maxSteps := 1000000) (disch := first | omega | ((try simp only [bunN]) <;> omega) | fail) only [↓bunD, bunU, ↓bunFD, bunFU, Nat.reduceMul, Nat.reduceEqDiff, Nat.reduceAdd, Nat.reduceBEq, reduceIte, splice_succ, bunAP, g1, g2]
  refine ev_count T.reqs.length (fun k fr σ' => fr.get 9 = some (.int .i64 k) ∧ CT σ cells c fr σ' ∧ ∀ (i : Nat), i < k → (c == reqC (i + 1)) = false)
    (fun r => (∃ fr σ', r = ⟨.exit 4, fr, σ'⟩ ∧ CT σ cells c fr σ' ∧ (List.range T.reqs.length).find? (fun k => c == reqC (k + 1)) = none) ∨ (∃ fr σ', r = ⟨.ret, fr, σ'⟩ ∧ Ext σ σ' ∧ fr.get 4 = some (str (content T c)))) ?_ ?_ ?_ ?_
  · exact ⟨by first | trivial | rfl | assumption | omega | (simp only [bunM]; omega) | (simp (disch := first | omega | ((try simp only [bunN]) <;> omega) | fail) only [bunR, ↓get_set, Nat.reduceEqDiff, reduceIte]; first | done | rfl | assumption | omega), ⟨by first | trivial | rfl | assumption | omega | (simp only [bunM]; omega) | (simp (disch := first | omega | ((try simp only [bunN]) <;> omega) | fail) only [bunR, ↓get_set, Nat.reduceEqDiff, reduceIte, g1]; first | done | rfl | assumption | omega), by first | trivial | rfl | assumption | omega | (simp only [bunM]; omega) | (simp (disch := first | omega | ((try simp only [bunN]) <;> omega) | fail) only [bunR, ↓get_set, Nat.reduceEqDiff, reduceIte, g2]; first | done | rfl | assumption | omega), hE⟩, fun i h => by omega⟩
  · clear hE g1 g2 fr σ'
    rintro k fr σ' hk ⟨g5, ⟨g1, g2, hE⟩, hm⟩
    have hc := lt_true hk
    obtain ⟨a, ha⟩ := at_some hk
    have c2 : σ'.row σ.n = some cells := by rw [hE.row (by simp)]; first | trivial | rfl | assumption | omega | (simp only [bunM]; omega) | (simp (disch := first | omega | ((try simp only [bunN]) <;> omega) | fail) only [bunR]; first | done | rfl | assumption | omega)
    obtain ⟨sp, rfl, l3, l4⟩ := r1 (by omega)
    obtain ⟨l7, -⟩ := r2 k a ha
    have oka := ok.req a (List.mem_of_getElem? ha)
    have hnl := names_len oka.1
    have hrl := oka.2.1
    have hEn := hE.n
    have hql : a.row.length = 3 := rfl
    have q0 : a.row = [str a.name, str a.rel, .int .i64 a.value] := rfl
    have hdl := dec_len (n := ((k + 1 : Nat) : Int)) (by omega) (by omega)
    simp (maxSteps := 1000000) (disch := first | omega | ((try simp only [bunN]) <;> omega) | fail) only [↓bunD, bunU, ↓bunFD, bunFU, Nat.reduceMul, Nat.reduceEqDiff, Nat.reduceAdd, Nat.reduceBEq, reduceIte, splice_succ, bunAP, g1, g2, g5, c2, c4, hc]
    refine (decimal_ok (by omega) (by omega)).mono ?_
    rintro r ⟨σ2, rfl, e2⟩
    have n2 := e2.n
    have c2' : σ2.row σ.n = some cells := by rw [e2.row (by simp at hEn; omega)]; exact c2
    have l5 : σ2.row rb = some rcs := by rw [e2.row (by simp at hEn; omega), hE.row (by simp; omega), row_new_ne (by omega)]; exact l4
    simp (maxSteps := 1000000) (disch := first | omega | ((try simp only [bunN]) <;> omega) | fail) only [↓bunD, bunU, ↓bunFD, bunFU, Nat.reduceMul, Nat.reduceEqDiff, Nat.reduceAdd, Nat.reduceBEq, reduceIte, splice_succ, bunAP, g1, g2, g5]
    refine Br.intro (fun hd => ?_) (fun hd => ?_)
    · have hd : c = reqC (k + 1) := by simpa [reqC] using hd
      have hf : (List.range T.reqs.length).find? (fun k => c == reqC (k + 1)) = some k := find_at (k := k) (by simp [hk]) (by simp [hd]) fun i b hi hb => by
        obtain rfl : i = b := by
          rw [List.getElem?_range (by omega)] at hb; cases hb; rfl
        exact hm i hi
      have hcont : content T c = reqS a := by unfold content; rw [hlots]; simp only [hcrits, hf, ha, Option.map_some, Option.getD_some]
      have hl1 := dec_len (n := (a.name.length : Int)) (by omega) (by omega)
      have hl2 := dec_len (n := (a.rel.length : Int)) (by omega) (by omega)
      have hl3 := dec_len oka.2.2.1 oka.2.2.2
      have hEc : Ext (σ.new cells) ((σ2.new [str [], str [], .int .i64 0]).upd σ2.n [str a.name, str a.rel, .int .i64 a.value]) := ((hE.trans e2).new' _).upd (by simp at hEn n2 ⊢; omega) _
      simp (maxSteps := 1000000) (disch := first | omega | ((try simp only [bunN]) <;> omega) | fail) only [↓bunD, bunU, ↓bunFD, bunFU, Nat.reduceMul, Nat.reduceEqDiff, Nat.reduceAdd, Nat.reduceBEq, reduceIte, splice_succ, bunAP, g1, g2, g5, c2', c4, l5, l7, hql, q0]
      refine (decimal_ok (by omega) (by omega)).mono ?_
      rintro r ⟨σ3, rfl, e3⟩
      have w3 : σ3.row σ2.n = some [str a.name, str a.rel, .int .i64 a.value] := by rw [e3.row (by simp)]; first | trivial | rfl | assumption | omega | (simp only [bunM]; omega) | (simp (disch := first | omega | ((try simp only [bunN]) <;> omega) | fail) only [bunR]; first | done | rfl | assumption | omega)
      have n3 := e3.n
      simp (maxSteps := 1000000) (disch := first | omega | ((try simp only [bunN]) <;> omega) | fail) only [↓bunD, bunU, ↓bunFD, bunFU, Nat.reduceMul, Nat.reduceEqDiff, Nat.reduceAdd, Nat.reduceBEq, reduceIte, splice_succ, bunAP, g1, g2, g5, w3]
      refine (decimal_ok (by omega) (by omega)).mono ?_
      rintro r ⟨σ4, rfl, e4⟩
      have w4 : σ4.row σ2.n = some [str a.name, str a.rel, .int .i64 a.value] := by rw [e4.row (by simp at n3; omega)]; exact w3
      have n4 := e4.n
      simp (maxSteps := 1000000) (disch := first | omega | ((try simp only [bunN]) <;> omega) | fail) only [↓bunD, bunU, ↓bunFD, bunFU, Nat.reduceMul, Nat.reduceEqDiff, Nat.reduceAdd, Nat.reduceBEq, reduceIte, splice_succ, bunAP, g1, g2, g5, w4]
      refine (decimal_ok oka.2.2.1 oka.2.2.2).mono ?_
      rintro r ⟨σ5, rfl, e5⟩
      simp (maxSteps := 1000000) (disch := first | omega | ((try simp only [bunN]) <;> omega) | fail) only [↓bunD, bunU, ↓bunFD, bunFU, Nat.reduceMul, Nat.reduceEqDiff, Nat.reduceAdd, Nat.reduceBEq, reduceIte, splice_succ, bunAP, g1, g2, g5, asx e3, asx e4, asx e5]
      refine .inr ⟨_, _, rfl, ext1.trans (hEc.trans (e3.trans (e4.trans e5))), ?_⟩
      rw [hcont]
      simp only [reqS, ↓get_set, Nat.reduceEqDiff, reduceIte]
    · simp (maxSteps := 1000000) (disch := first | omega | ((try simp only [bunN]) <;> omega) | fail) only [↓bunD, bunU, ↓bunFD, bunFU, Nat.reduceMul, Nat.reduceEqDiff, Nat.reduceAdd, Nat.reduceBEq, reduceIte, splice_succ, bunAP, g1, g2, g5]
      refine ⟨by first | trivial | rfl | assumption | omega | (simp only [bunM]; omega) | (simp (disch := first | omega | ((try simp only [bunN]) <;> omega) | fail) only [bunR, ↓get_set, Nat.reduceEqDiff, reduceIte]; first | done | rfl | assumption | omega), ⟨by first | trivial | rfl | assumption | omega | (simp only [bunM]; omega) | (simp (disch := first | omega | ((try simp only [bunN]) <;> omega) | fail) only [bunR, ↓get_set, Nat.reduceEqDiff, reduceIte, g1]; first | done | rfl | assumption | omega), by first | trivial | rfl | assumption | omega | (simp only [bunM]; omega) | (simp (disch := first | omega | ((try simp only [bunN]) <;> omega) | fail) only [bunR, ↓get_set, Nat.reduceEqDiff, reduceIte, g2]; first | done | rfl | assumption | omega), hE.trans e2⟩, fun i hi => ?_⟩
      by_cases e : i = k
      · subst e
        simpa [reqC] using hd
      · exact hm i (by omega)
  · rintro fr σ' ⟨g5, ⟨g1, g2, hE⟩, hm⟩
    have c2 : σ'.row σ.n = some cells := by rw [hE.row (by simp)]; first | trivial | rfl | assumption | omega | (simp only [bunM]; omega) | (simp (disch := first | omega | ((try simp only [bunN]) <;> omega) | fail) only [bunR]; first | done | rfl | assumption | omega)
    simp (maxSteps := 1000000) (disch := first | omega | ((try simp only [bunN]) <;> omega) | fail) only [↓bunD, bunU, ↓bunFD, bunFU, Nat.reduceMul, Nat.reduceEqDiff, Nat.reduceAdd, Nat.reduceBEq, reduceIte, splice_succ, bunAP, g1, g2, g5, c4, c2]
    exact .inl ⟨_, _, rfl, ⟨by first | trivial | rfl | assumption | omega | (simp only [bunM]; omega) | (simp (disch := first | omega | ((try simp only [bunN]) <;> omega) | fail) only [bunR, ↓get_set, Nat.reduceEqDiff, reduceIte, g1]; first | done | rfl | assumption | omega), by first | trivial | rfl | assumption | omega | (simp only [bunM]; omega) | (simp (disch := first | omega | ((try simp only [bunN]) <;> omega) | fail) only [bunR, ↓get_set, Nat.reduceEqDiff, reduceIte, g2]; first | done | rfl | assumption | omega), hE⟩, find_no fun i b hb => by
      obtain ⟨hlt, he⟩ := List.getElem?_eq_some_iff.1 hb
      simp at hlt he; subst he; exact hm i hlt⟩
  clear hE g1 g2 fr σ'
  rintro r (⟨fr, σ', rfl, ⟨g1, g2, hE⟩, hreqs⟩ | ⟨fr, σ', rfl, hE, g4⟩)
  rotate_left
  · simp (maxSteps := 1000000) (disch := first | omega | ((try simp only [bunN]) <;> omega) | fail) only [↓bunD, bunU, ↓bunFD, bunFU, Nat.reduceMul, Nat.reduceEqDiff, Nat.reduceAdd, Nat.reduceBEq, reduceIte, splice_succ, bunAP, Tryz.results92, g4]; exact ⟨_, rfl, hE⟩
  have hcont : content T c = fixedS T c := by unfold content; rw [hlots]; simp only [hcrits, hreqs]
  have hEn := hE.n
  have c2 : σ'.row σ.n = some cells := by rw [hE.row (by simp)]; first | trivial | rfl | assumption | omega | (simp only [bunM]; omega) | (simp (disch := first | omega | ((try simp only [bunN]) <;> omega) | fail) only [bunR]; first | done | rfl | assumption | omega)
  have q0 : sub cells 0 1 = some [str T.name] := by rw [← hcs]; rfl
  have q4 : sub cells 4 1 = some [.int .i64 T.low] := by rw [← hcs]; rfl
  have q5 : sub cells 5 1 = some [.int .i64 T.high] := by rw [← hcs]; rfl
  have q11 : sub cells 11 1 = some [.slice ta T.ties.length tc] := by rw [← hcs]; rfl
  have q12 : sub cells 12 1 = some [.int .i64 T.most] := by rw [← hcs]; rfl
  have q13 : sub cells 13 1 = some [.slice ka kvs.length kc] := by rw [← hcs]; rfl
  have q14 : sub cells 14 1 = some [.int .i64 T.budget] := by rw [← hcs]; rfl
  have q15 : sub cells 15 1 = some [.int .i64 T.t.q] := by rw [← hcs]; rfl
  have q16 : sub cells 16 1 = some [.int .i64 T.t.b] := by rw [← hcs]; rfl
  have q17 : sub cells 17 1 = some [.int .i64 T.t.g] := by rw [← hcs]; rfl
  have q18 : sub cells 18 1 = some [.int .i64 T.t.p] := by rw [← hcs]; rfl
  have q19 : sub cells 19 1 = some [.int .i64 T.t.s] := by rw [← hcs]; rfl
  have hE0 : Ext σ σ' := ext1.trans hE
  rw [hcont]
  cases d1 : decide (c = [110, 97, 109, 101]) with
  | true =>
    have hfx : fixedS T c = T.name := by unfold fixedS; rw [if_pos (show c = nameC from of_decide_eq_true d1)]
    simp (maxSteps := 1000000) (disch := first | omega | ((try simp only [bunN]) <;> omega) | fail) only [↓bunD, bunU, ↓bunFD, bunFU, Nat.reduceMul, Nat.reduceEqDiff, Nat.reduceAdd, Nat.reduceBEq, reduceIte, splice_succ, bunAP, g1, g2, d1, c2, q0, hfx, Tryz.results92]
    exact ⟨_, rfl, hE0⟩
  | false =>
  have n1 : ¬ c = nameC := of_decide_eq_false d1
  cases d2 : decide (c = [114, 97, 110, 103, 101]) with
  | true =>
    have hfx : fixedS T c = dec T.low ++ [32] ++ dec T.high := by unfold fixedS; rw [if_neg n1, if_pos (show c = rangeC from of_decide_eq_true d2)]
    have hl1 := dec_len ok.low.1 ok.low.2
    have hl2 := dec_len ok.high.1 ok.high.2
    simp (maxSteps := 1000000) (disch := first | omega | ((try simp only [bunN]) <;> omega) | fail) only [↓bunD, bunU, ↓bunFD, bunFU, Nat.reduceMul, Nat.reduceEqDiff, Nat.reduceAdd, Nat.reduceBEq, reduceIte, splice_succ, bunAP, g1, g2, d1, d2, c2, q4]
    refine (decimal_ok ok.low.1 ok.low.2).mono ?_
    rintro r ⟨σ2, rfl, e2⟩
    have w2 : σ2.row σ.n = some cells := by rw [e2.row (by simp at hEn; omega)]; exact c2
    simp (maxSteps := 1000000) (disch := first | omega | ((try simp only [bunN]) <;> omega) | fail) only [↓bunD, bunU, ↓bunFD, bunFU, Nat.reduceMul, Nat.reduceEqDiff, Nat.reduceAdd, Nat.reduceBEq, reduceIte, splice_succ, bunAP, g1, g2, w2, q5]
    refine (decimal_ok ok.high.1 ok.high.2).mono ?_
    rintro r ⟨σ3, rfl, e3⟩
    simp (maxSteps := 1000000) (disch := first | omega | ((try simp only [bunN]) <;> omega) | fail) only [↓bunD, bunU, ↓bunFD, bunFU, Nat.reduceMul, Nat.reduceEqDiff, Nat.reduceAdd, Nat.reduceBEq, reduceIte, splice_succ, bunAP, asx e2, asx e3, hfx, Tryz.results92]
    exact ⟨_, rfl, hE0.trans (e2.trans e3)⟩
  | false =>
  have n2 : ¬ c = rangeC := of_decide_eq_false d2
  cases d3 : decide (c = [116, 105, 101, 115]) with
  | true =>
    have hfx : fixedS T c = tiesS T.ties := by unfold fixedS; rw [if_neg n1, if_neg n2, if_pos (show c = tiesC from of_decide_eq_true d3)]
    rw [hfx]
    simp (maxSteps := 1000000) (disch := first | omega | ((try simp only [bunN]) <;> omega) | fail) only [↓bunD, bunU, ↓bunFD, bunFU, Nat.reduceMul, Nat.reduceEqDiff, Nat.reduceAdd, Nat.reduceBEq, reduceIte, splice_succ, bunAP, g1, g2, d1, d2, d3]
    refine ev_count T.ties.length (fun k fr σ' => fr.get 12 = some (.int .i64 k) ∧ CT σ cells c fr σ' ∧ fr.get 11 = some (str ((T.ties.take k).foldl tieS [])))
      (fun r => ∃ fr σ', r = ⟨.exit 7, fr, σ'⟩ ∧ Ext σ σ' ∧ fr.get 11 = some (str (tiesS T.ties))) ?_ ?_ ?_ ?_
    · exact ⟨by first | trivial | rfl | assumption | omega | (simp only [bunM]; omega) | (simp (disch := first | omega | ((try simp only [bunN]) <;> omega) | fail) only [bunR, ↓get_set, Nat.reduceEqDiff, reduceIte]; first | done | rfl | assumption | omega), ⟨by first | trivial | rfl | assumption | omega | (simp only [bunM]; omega) | (simp (disch := first | omega | ((try simp only [bunN]) <;> omega) | fail) only [bunR, ↓get_set, Nat.reduceEqDiff, reduceIte, g1]; first | done | rfl | assumption | omega), by first | trivial | rfl | assumption | omega | (simp only [bunM]; omega) | (simp (disch := first | omega | ((try simp only [bunN]) <;> omega) | fail) only [bunR, ↓get_set, Nat.reduceEqDiff, reduceIte, g2]; first | done | rfl | assumption | omega), hE⟩, by first | trivial | rfl | assumption | omega | (simp only [bunM]; omega) | (simp (disch := first | omega | ((try simp only [bunN]) <;> omega) | fail) only [bunR, ↓get_set, Nat.reduceEqDiff, reduceIte]; first | done | rfl | assumption | omega)⟩
    · clear hE0 c2 hEn hE g1 g2 fr σ'
      rintro k fr σ' hk ⟨g12, ⟨g1, g2, hE⟩, g11⟩
      have hc := lt_true hk
      obtain ⟨a, ha⟩ := at_some hk
      have c2 : σ'.row σ.n = some cells := by rw [hE.row (by simp)]; first | trivial | rfl | assumption | omega | (simp only [bunM]; omega) | (simp (disch := first | omega | ((try simp only [bunN]) <;> omega) | fail) only [bunR]; first | done | rfl | assumption | omega)
      obtain ⟨sp, rfl, l3, l4⟩ := t1 (by omega)
      have hEn := hE.n
      have l5 : σ'.row tb = some tcs := by rw [hE.row (by simp; omega), row_new_ne (by omega)]; exact l4
      have l7 := t2 k a ha
      have oka := names_len (ok.tie a (List.mem_of_getElem? ha))
      have hl1 := dec_len (n := (a.length : Int)) (by omega) (by omega)
      have hl2 := ties_len (l := T.ties.take k) (s := []) fun t ht => ok.tie t (List.mem_of_mem_take ht)
      rw [List.length_take] at hl2
      have hl3 : (([] : By)).length = 0 := rfl
      simp (maxSteps := 1000000) (disch := first | omega | ((try simp only [bunN]) <;> omega) | fail) only [↓bunD, bunU, ↓bunFD, bunFU, Nat.reduceMul, Nat.reduceEqDiff, Nat.reduceAdd, Nat.reduceBEq, reduceIte, splice_succ, bunAP, g1, g2, g11, g12, q11, c2, hc, l5, l7]
      refine (decimal_ok (by omega) (by omega)).mono ?_
      rintro r ⟨σ2, rfl, e2⟩
      have c2' : σ2.row σ.n = some cells := by rw [e2.row (by simp at hEn; omega)]; exact c2
      have l5' : σ2.row tb = some tcs := by rw [e2.row (by simp at hEn; omega)]; exact l5
      simp (maxSteps := 1000000) (disch := first | omega | ((try simp only [bunN]) <;> omega) | fail) only [↓bunD, bunU, ↓bunFD, bunFU, Nat.reduceMul, Nat.reduceEqDiff, Nat.reduceAdd, Nat.reduceBEq, reduceIte, splice_succ, bunAP, g1, g2, g11, g12, q11, c2', hc, l5', l7, asx e2]
      refine ⟨by first | trivial | rfl | assumption | omega | (simp only [bunM]; omega) | (simp (disch := first | omega | ((try simp only [bunN]) <;> omega) | fail) only [bunR, ↓get_set, Nat.reduceEqDiff, reduceIte]; first | done | rfl | assumption | omega), ⟨by first | trivial | rfl | assumption | omega | (simp only [bunM]; omega) | (simp (disch := first | omega | ((try simp only [bunN]) <;> omega) | fail) only [bunR, ↓get_set, Nat.reduceEqDiff, reduceIte, g1]; first | done | rfl | assumption | omega), by first | trivial | rfl | assumption | omega | (simp only [bunM]; omega) | (simp (disch := first | omega | ((try simp only [bunN]) <;> omega) | fail) only [bunR, ↓get_set, Nat.reduceEqDiff, reduceIte, g2]; first | done | rfl | assumption | omega), hE.trans e2⟩, ?_⟩
      rw [fold_take tieS ha]
      simp only [tieS, ↓get_set, Nat.reduceEqDiff, reduceIte]
    · clear hE0 c2 hEn hE g1 g2 fr σ'
      rintro fr σ' ⟨g12, ⟨g1, g2, hE⟩, g11⟩
      have c2 : σ'.row σ.n = some cells := by rw [hE.row (by simp)]; first | trivial | rfl | assumption | omega | (simp only [bunM]; omega) | (simp (disch := first | omega | ((try simp only [bunN]) <;> omega) | fail) only [bunR]; first | done | rfl | assumption | omega)
      rw [List.take_length] at g11
      simp (maxSteps := 1000000) (disch := first | omega | ((try simp only [bunN]) <;> omega) | fail) only [↓bunD, bunU, ↓bunFD, bunFU, Nat.reduceMul, Nat.reduceEqDiff, Nat.reduceAdd, Nat.reduceBEq, reduceIte, splice_succ, bunAP, g1, g2, g11, g12, q11, c2]
      exact ⟨_, _, rfl, ext1.trans hE, by first | trivial | rfl | assumption | omega | (simp only [bunM]; omega) | (simp (disch := first | omega | ((try simp only [bunN]) <;> omega) | fail) only [bunR, ↓get_set, Nat.reduceEqDiff, reduceIte, g11]; first | done | rfl | assumption | omega)⟩
    · clear hE0 c2 hEn hE g1 g2 fr σ'
      rintro r ⟨fr, σ', rfl, hE, g11⟩
      simp (maxSteps := 1000000) (disch := first | omega | ((try simp only [bunN]) <;> omega) | fail) only [↓bunD, bunU, ↓bunFD, bunFU, Nat.reduceMul, Nat.reduceEqDiff, Nat.reduceAdd, Nat.reduceBEq, reduceIte, splice_succ, bunAP, g11, Tryz.results92]
      exact ⟨_, rfl, hE⟩
  | false =>
  have n3 : ¬ c = tiesC := of_decide_eq_false d3
  cases d4 : decide (c = [109, 111, 115, 116]) with
  | true =>
    have hfx : fixedS T c = dec T.most := by unfold fixedS; rw [if_neg n1, if_neg n2, if_neg n3, if_pos (show c = mostC from of_decide_eq_true d4)]
    simp (maxSteps := 1000000) (disch := first | omega | ((try simp only [bunN]) <;> omega) | fail) only [↓bunD, bunU, ↓bunFD, bunFU, Nat.reduceMul, Nat.reduceEqDiff, Nat.reduceAdd, Nat.reduceBEq, reduceIte, splice_succ, bunAP, g1, g2, d1, d2, d3, d4, c2, q12]
    refine (decimal_ok ok.most.1 ok.most.2).mono ?_
    rintro r ⟨σ2, rfl, e2⟩
    simp (maxSteps := 1000000) (disch := first | omega | ((try simp only [bunN]) <;> omega) | fail) only [↓bunD, bunU, ↓bunFD, bunFU, Nat.reduceMul, Nat.reduceEqDiff, Nat.reduceAdd, Nat.reduceBEq, reduceIte, splice_succ, bunAP, hfx, Tryz.results92]
    exact ⟨_, rfl, hE0.trans e2⟩
  | false =>
  have n4 : ¬ c = mostC := of_decide_eq_false d4
  cases d5 : decide (c = [99, 111, 109, 98, 111, 115]) with
  | true =>
    have hfx : fixedS T c = combosS T.combos := by unfold fixedS; rw [if_neg n1, if_neg n2, if_neg n3, if_neg n4, if_pos (show c = combosC from of_decide_eq_true d5)]
    rw [hfx]
    have hkl : kvs.length = T.combos.length := h72.len
    simp (maxSteps := 1000000) (disch := first | omega | ((try simp only [bunN]) <;> omega) | fail) only [↓bunD, bunU, ↓bunFD, bunFU, Nat.reduceMul, Nat.reduceEqDiff, Nat.reduceAdd, Nat.reduceBEq, reduceIte, splice_succ, bunAP, g1, g2, d1, d2, d3, d4, d5]
    refine ev_count kvs.length (fun k fr σ' => fr.get 13 = some (.int .i64 k) ∧ CT σ cells c fr σ' ∧ fr.get 11 = some (str ((T.combos.take k).foldl comboS [])))
      (fun r => ∃ fr σ', r = ⟨.exit 9, fr, σ'⟩ ∧ Ext σ σ' ∧ fr.get 11 = some (str (combosS T.combos))) ?_ ?_ ?_ ?_
    · exact ⟨by first | trivial | rfl | assumption | omega | (simp only [bunM]; omega) | (simp (disch := first | omega | ((try simp only [bunN]) <;> omega) | fail) only [bunR, ↓get_set, Nat.reduceEqDiff, reduceIte]; first | done | rfl | assumption | omega), ⟨by first | trivial | rfl | assumption | omega | (simp only [bunM]; omega) | (simp (disch := first | omega | ((try simp only [bunN]) <;> omega) | fail) only [bunR, ↓get_set, Nat.reduceEqDiff, reduceIte, g1]; first | done | rfl | assumption | omega), by first | trivial | rfl | assumption | omega | (simp only [bunM]; omega) | (simp (disch := first | omega | ((try simp only [bunN]) <;> omega) | fail) only [bunR, ↓get_set, Nat.reduceEqDiff, reduceIte, g2]; first | done | rfl | assumption | omega), hE⟩, by first | trivial | rfl | assumption | omega | (simp only [bunM]; omega) | (simp (disch := first | omega | ((try simp only [bunN]) <;> omega) | fail) only [bunR, ↓get_set, Nat.reduceEqDiff, reduceIte]; first | done | rfl | assumption | omega)⟩
    · clear hE0 c2 hEn hE g1 g2 fr σ'
      rintro k fr σ' hk ⟨g13, ⟨g1, g2, hE⟩, g11⟩
      have hc := lt_true hk
      obtain ⟨v, hv⟩ := at_some hk
      obtain ⟨a, ha⟩ := at_some (l := T.combos) (k := k) (by omega)
      have c2 : σ'.row σ.n = some cells := by rw [hE.row (by simp)]; first | trivial | rfl | assumption | omega | (simp only [bunM]; omega) | (simp (disch := first | omega | ((try simp only [bunN]) <;> omega) | fail) only [bunR]; first | done | rfl | assumption | omega)
      obtain ⟨sp, rfl, l3, l4⟩ := m1 (by omega)
      have l5 : σ'.row kb = some kcs := by rw [hE.row (by simp; omega), row_new_ne (by omega)]; exact l4
      have l7 := m2 k v hv
      rw [Nat.mul_one] at l7
      obtain ⟨ia, ic, ib, io, ics, rfl, i1, i2⟩ := (h72.get hv ha).use
      have oka := ok.combo a (List.mem_of_getElem? ha)
      have hl2 := combos_len (l := T.combos.take k) (s := []) fun t ht => ok.combo t (List.mem_of_mem_take ht)
      rw [List.length_take] at hl2
      have hl3 : (([] : By)).length = 0 := rfl
      simp (maxSteps := 1000000) (disch := first | omega | ((try simp only [bunN]) <;> omega) | fail) only [↓bunD, bunU, ↓bunFD, bunFU, Nat.reduceMul, Nat.reduceEqDiff, Nat.reduceAdd, Nat.reduceBEq, reduceIte, splice_succ, bunAP, g1, g2, g11, g13, q13, c2, hc]
      generalize hacc : (T.combos.take k).foldl comboS [] = acc at *
      refine ev_count a.length (fun i fr σ' => fr.get 14 = some (.int .i64 i) ∧ fr.get 13 = some (.int .i64 k) ∧ CT σ cells c fr σ' ∧ fr.get 11 = some (str ((a.take i).foldl numS (acc ++ [124]))))
        (fun r => ∃ fr σ', r = ⟨.exit 11, fr, σ'⟩ ∧ fr.get 13 = some (.int .i64 k) ∧ CT σ cells c fr σ' ∧ fr.get 11 = some (str (comboS acc a))) ?_ ?_ ?_ ?_
      · exact ⟨by first | trivial | rfl | assumption | omega | (simp only [bunM]; omega) | (simp (disch := first | omega | ((try simp only [bunN]) <;> omega) | fail) only [bunR, ↓get_set, Nat.reduceEqDiff, reduceIte]; first | done | rfl | assumption | omega), by first | trivial | rfl | assumption | omega | (simp only [bunM]; omega) | (simp (disch := first | omega | ((try simp only [bunN]) <;> omega) | fail) only [bunR, ↓get_set, Nat.reduceEqDiff, reduceIte, g13]; first | done | rfl | assumption | omega), ⟨by first | trivial | rfl | assumption | omega | (simp only [bunM]; omega) | (simp (disch := first | omega | ((try simp only [bunN]) <;> omega) | fail) only [bunR, ↓get_set, Nat.reduceEqDiff, reduceIte, g1]; first | done | rfl | assumption | omega), by first | trivial | rfl | assumption | omega | (simp only [bunM]; omega) | (simp (disch := first | omega | ((try simp only [bunN]) <;> omega) | fail) only [bunR, ↓get_set, Nat.reduceEqDiff, reduceIte, g2]; first | done | rfl | assumption | omega), hE⟩, by first | trivial | rfl | assumption | omega | (simp only [bunM]; omega) | (simp (disch := first | omega | ((try simp only [bunN]) <;> omega) | fail) only [bunR, ↓get_set, Nat.reduceEqDiff, reduceIte]; first | done | rfl | assumption | omega)⟩
      · clear l5 c2 hE g1 g2 g11 g13 fr σ'
        rintro i fr σ' hi ⟨g14, g13, ⟨g1, g2, hE⟩, g11⟩
        have hic := lt_true hi
        obtain ⟨x, hx⟩ := at_some hi
        have c2 : σ'.row σ.n = some cells := by rw [hE.row (by simp)]; first | trivial | rfl | assumption | omega | (simp only [bunM]; omega) | (simp (disch := first | omega | ((try simp only [bunN]) <;> omega) | fail) only [bunR]; first | done | rfl | assumption | omega)
        have l5 : σ'.row kb = some kcs := by rw [hE.row (by simp; omega), row_new_ne (by omega)]; exact l4
        obtain ⟨sp', rfl, j3, j4⟩ := i1 (by omega)
        have j5 : σ'.row ib = some ics := by rw [hE.row (by simp; omega), row_new_ne (by omega)]; exact j4
        have j7 := i2 i x hx
        have okx := oka.2 x (List.mem_of_getElem? hx)
        have hl4 := nums_len (l := a.take i) (s := acc ++ [124]) fun t ht => oka.2 t (List.mem_of_mem_take ht)
        rw [List.length_take, List.length_append] at hl4
        have hl5 : [(124 : UInt8)].length = 1 := rfl
        have hl6 := dec_len okx.1 okx.2
        simp (maxSteps := 1000000) (disch := first | omega | ((try simp only [bunN]) <;> omega) | fail) only [↓bunD, bunU, ↓bunFD, bunFU, Nat.reduceMul, Nat.reduceEqDiff, Nat.reduceAdd, Nat.reduceBEq, reduceIte, splice_succ, bunAP, g1, g2, g11, g13, g14, q13, c2, hc, hic, l5, l7, j5, j7]
        refine (decimal_ok okx.1 okx.2).mono ?_
        rintro r ⟨σ2, rfl, e2⟩
        simp (maxSteps := 1000000) (disch := first | omega | ((try simp only [bunN]) <;> omega) | fail) only [↓bunD, bunU, ↓bunFD, bunFU, Nat.reduceMul, Nat.reduceEqDiff, Nat.reduceAdd, Nat.reduceBEq, reduceIte, splice_succ, bunAP, g1, g2, g11, g13, g14]
        refine ⟨by first | trivial | rfl | assumption | omega | (simp only [bunM]; omega) | (simp (disch := first | omega | ((try simp only [bunN]) <;> omega) | fail) only [bunR, ↓get_set, Nat.reduceEqDiff, reduceIte]; first | done | rfl | assumption | omega), by first | trivial | rfl | assumption | omega | (simp only [bunM]; omega) | (simp (disch := first | omega | ((try simp only [bunN]) <;> omega) | fail) only [bunR, ↓get_set, Nat.reduceEqDiff, reduceIte, g13]; first | done | rfl | assumption | omega), ⟨by first | trivial | rfl | assumption | omega | (simp only [bunM]; omega) | (simp (disch := first | omega | ((try simp only [bunN]) <;> omega) | fail) only [bunR, ↓get_set, Nat.reduceEqDiff, reduceIte, g1]; first | done | rfl | assumption | omega), by first | trivial | rfl | assumption | omega | (simp only [bunM]; omega) | (simp (disch := first | omega | ((try simp only [bunN]) <;> omega) | fail) only [bunR, ↓get_set, Nat.reduceEqDiff, reduceIte, g2]; first | done | rfl | assumption | omega), hE.trans e2⟩, ?_⟩
        rw [fold_take numS hx]
        simp only [numS, ↓get_set, Nat.reduceEqDiff, reduceIte]
      · clear l5 c2 hE g1 g2 g11 g13 fr σ'
        rintro fr σ' ⟨g14, g13, ⟨g1, g2, hE⟩, g11⟩
        have c2 : σ'.row σ.n = some cells := by rw [hE.row (by simp)]; first | trivial | rfl | assumption | omega | (simp only [bunM]; omega) | (simp (disch := first | omega | ((try simp only [bunN]) <;> omega) | fail) only [bunR]; first | done | rfl | assumption | omega)
        have l5 : σ'.row kb = some kcs := by rw [hE.row (by simp; omega), row_new_ne (by omega)]; exact l4
        rw [List.take_length] at g11
        simp (maxSteps := 1000000) (disch := first | omega | ((try simp only [bunN]) <;> omega) | fail) only [↓bunD, bunU, ↓bunFD, bunFU, Nat.reduceMul, Nat.reduceEqDiff, Nat.reduceAdd, Nat.reduceBEq, reduceIte, splice_succ, bunAP, g1, g2, g11, g13, g14, q13, c2, hc, l5, l7]
        exact ⟨_, _, rfl, by first | trivial | rfl | assumption | omega | (simp only [bunM]; omega) | (simp (disch := first | omega | ((try simp only [bunN]) <;> omega) | fail) only [bunR, ↓get_set, Nat.reduceEqDiff, reduceIte, g13]; first | done | rfl | assumption | omega), ⟨by first | trivial | rfl | assumption | omega | (simp only [bunM]; omega) | (simp (disch := first | omega | ((try simp only [bunN]) <;> omega) | fail) only [bunR, ↓get_set, Nat.reduceEqDiff, reduceIte, g1]; first | done | rfl | assumption | omega), by first | trivial | rfl | assumption | omega | (simp only [bunM]; omega) | (simp (disch := first | omega | ((try simp only [bunN]) <;> omega) | fail) only [bunR, ↓get_set, Nat.reduceEqDiff, reduceIte, g2]; first | done | rfl | assumption | omega), hE⟩, by first | trivial | rfl | assumption | omega | (simp only [bunM]; omega) | (simp (disch := first | omega | ((try simp only [bunN]) <;> omega) | fail) only [bunR, ↓get_set, Nat.reduceEqDiff, reduceIte, g11]; first | done | rfl | assumption | omega)⟩
      · clear l5 c2 hE g1 g2 g11 g13 fr σ'
        rintro r ⟨fr, σ', rfl, g13, ⟨g1, g2, hE⟩, g11⟩
        simp (maxSteps := 1000000) (disch := first | omega | ((try simp only [bunN]) <;> omega) | fail) only [↓bunD, bunU, ↓bunFD, bunFU, Nat.reduceMul, Nat.reduceEqDiff, Nat.reduceAdd, Nat.reduceBEq, reduceIte, splice_succ, bunAP, g1, g2, g11, g13]
        refine ⟨by first | trivial | rfl | assumption | omega | (simp only [bunM]; omega) | (simp (disch := first | omega | ((try simp only [bunN]) <;> omega) | fail) only [bunR, ↓get_set, Nat.reduceEqDiff, reduceIte]; first | done | rfl | assumption | omega), ⟨by first | trivial | rfl | assumption | omega | (simp only [bunM]; omega) | (simp (disch := first | omega | ((try simp only [bunN]) <;> omega) | fail) only [bunR, ↓get_set, Nat.reduceEqDiff, reduceIte, g1]; first | done | rfl | assumption | omega), by first | trivial | rfl | assumption | omega | (simp only [bunM]; omega) | (simp (disch := first | omega | ((try simp only [bunN]) <;> omega) | fail) only [bunR, ↓get_set, Nat.reduceEqDiff, reduceIte, g2]; first | done | rfl | assumption | omega), hE⟩, ?_⟩
        simp only [↓get_set, Nat.reduceEqDiff, reduceIte, g11, fold_take comboS ha, hacc]
    · clear hE0 c2 hEn hE g1 g2 fr σ'
      rintro fr σ' ⟨g13, ⟨g1, g2, hE⟩, g11⟩
      have c2 : σ'.row σ.n = some cells := by rw [hE.row (by simp)]; first | trivial | rfl | assumption | omega | (simp only [bunM]; omega) | (simp (disch := first | omega | ((try simp only [bunN]) <;> omega) | fail) only [bunR]; first | done | rfl | assumption | omega)
      rw [hkl, List.take_length] at g11
      simp (maxSteps := 1000000) (disch := first | omega | ((try simp only [bunN]) <;> omega) | fail) only [↓bunD, bunU, ↓bunFD, bunFU, Nat.reduceMul, Nat.reduceEqDiff, Nat.reduceAdd, Nat.reduceBEq, reduceIte, splice_succ, bunAP, g1, g2, g11, g13, q13, c2]
      exact ⟨_, _, rfl, ext1.trans hE, by first | trivial | rfl | assumption | omega | (simp only [bunM]; omega) | (simp (disch := first | omega | ((try simp only [bunN]) <;> omega) | fail) only [bunR, ↓get_set, Nat.reduceEqDiff, reduceIte, g11]; first | done | rfl | assumption | omega)⟩
    · clear hE0 c2 hEn hE g1 g2 fr σ'
      rintro r ⟨fr, σ', rfl, hE, g11⟩
      simp (maxSteps := 1000000) (disch := first | omega | ((try simp only [bunN]) <;> omega) | fail) only [↓bunD, bunU, ↓bunFD, bunFU, Nat.reduceMul, Nat.reduceEqDiff, Nat.reduceAdd, Nat.reduceBEq, reduceIte, splice_succ, bunAP, g11, Tryz.results92]
      exact ⟨_, rfl, hE⟩
  | false =>
  have n5 : ¬ c = combosC := of_decide_eq_false d5
  cases d6 : decide (c = [98, 117, 100, 103, 101, 116]) with
  | true =>
    have hfx : fixedS T c = dec T.budget := by unfold fixedS; rw [if_neg n1, if_neg n2, if_neg n3, if_neg n4, if_neg n5, if_pos (show c = budgetC from of_decide_eq_true d6)]
    simp (maxSteps := 1000000) (disch := first | omega | ((try simp only [bunN]) <;> omega) | fail) only [↓bunD, bunU, ↓bunFD, bunFU, Nat.reduceMul, Nat.reduceEqDiff, Nat.reduceAdd, Nat.reduceBEq, reduceIte, splice_succ, bunAP, g1, g2, d1, d2, d3, d4, d5, d6, c2, q14]
    refine (decimal_ok ok.budget.1 ok.budget.2).mono ?_
    rintro r ⟨σ2, rfl, e2⟩
    simp (maxSteps := 1000000) (disch := first | omega | ((try simp only [bunN]) <;> omega) | fail) only [↓bunD, bunU, ↓bunFD, bunFU, Nat.reduceMul, Nat.reduceEqDiff, Nat.reduceAdd, Nat.reduceBEq, reduceIte, splice_succ, bunAP, hfx, Tryz.results92]
    exact ⟨_, rfl, hE0.trans e2⟩
  | false =>
  have n6 : ¬ c = budgetC := of_decide_eq_false d6
  cases d7 : decide (c = [116, 105, 109, 101, 115]) with
  | true =>
    have hfx : fixedS T c = timS T.t := by unfold fixedS; rw [if_neg n1, if_neg n2, if_neg n3, if_neg n4, if_neg n5, if_neg n6, if_pos (show c = timesC from of_decide_eq_true d7)]
    obtain ⟨i1, i2, i3, i4, i5⟩ := ok.tim
    have hl1 := dec_len i1.1 i1.2
    have hl2 := dec_len i2.1 i2.2
    have hl3 := dec_len i3.1 i3.2
    have hl4 := dec_len i4.1 i4.2
    have hl5 := dec_len i5.1 i5.2
    simp (maxSteps := 1000000) (disch := first | omega | ((try simp only [bunN]) <;> omega) | fail) only [↓bunD, bunU, ↓bunFD, bunFU, Nat.reduceMul, Nat.reduceEqDiff, Nat.reduceAdd, Nat.reduceBEq, reduceIte, splice_succ, bunAP, g1, g2, d1, d2, d3, d4, d5, d6, d7, c2, q15]
    refine (decimal_ok i1.1 i1.2).mono ?_
    rintro r ⟨σ2, rfl, e2⟩
    have w2 : σ2.row σ.n = some cells := by rw [e2.row (by simp at hEn; omega)]; exact c2
    have n2 := e2.n
    simp (maxSteps := 1000000) (disch := first | omega | ((try simp only [bunN]) <;> omega) | fail) only [↓bunD, bunU, ↓bunFD, bunFU, Nat.reduceMul, Nat.reduceEqDiff, Nat.reduceAdd, Nat.reduceBEq, reduceIte, splice_succ, bunAP, g1, g2, w2, q16]
    refine (decimal_ok i2.1 i2.2).mono ?_
    rintro r ⟨σ3, rfl, e3⟩
    have w3 : σ3.row σ.n = some cells := by rw [e3.row (by simp at hEn; omega)]; exact w2
    have n3 := e3.n
    simp (maxSteps := 1000000) (disch := first | omega | ((try simp only [bunN]) <;> omega) | fail) only [↓bunD, bunU, ↓bunFD, bunFU, Nat.reduceMul, Nat.reduceEqDiff, Nat.reduceAdd, Nat.reduceBEq, reduceIte, splice_succ, bunAP, g1, g2, w3, q17]
    refine (decimal_ok i3.1 i3.2).mono ?_
    rintro r ⟨σ4, rfl, e4⟩
    have w4 : σ4.row σ.n = some cells := by rw [e4.row (by simp at hEn; omega)]; exact w3
    have n4 := e4.n
    simp (maxSteps := 1000000) (disch := first | omega | ((try simp only [bunN]) <;> omega) | fail) only [↓bunD, bunU, ↓bunFD, bunFU, Nat.reduceMul, Nat.reduceEqDiff, Nat.reduceAdd, Nat.reduceBEq, reduceIte, splice_succ, bunAP, g1, g2, w4, q18]
    refine (decimal_ok i4.1 i4.2).mono ?_
    rintro r ⟨σ5, rfl, e5⟩
    have w5 : σ5.row σ.n = some cells := by rw [e5.row (by simp at hEn; omega)]; exact w4
    simp (maxSteps := 1000000) (disch := first | omega | ((try simp only [bunN]) <;> omega) | fail) only [↓bunD, bunU, ↓bunFD, bunFU, Nat.reduceMul, Nat.reduceEqDiff, Nat.reduceAdd, Nat.reduceBEq, reduceIte, splice_succ, bunAP, g1, g2, w5, q19]
    refine (decimal_ok i5.1 i5.2).mono ?_
    rintro r ⟨σ6, rfl, e6⟩
    simp (maxSteps := 1000000) (disch := first | omega | ((try simp only [bunN]) <;> omega) | fail) only [↓bunD, bunU, ↓bunFD, bunFU, Nat.reduceMul, Nat.reduceEqDiff, Nat.reduceAdd, Nat.reduceBEq, reduceIte, splice_succ, bunAP, asx e2, asx e3, asx e4, asx e5, asx e6, hfx, timS, Tryz.results92]
    exact ⟨_, rfl, hE0.trans (e2.trans (e3.trans (e4.trans (e5.trans e6))))⟩
  | false =>
    have n7 : ¬ c = timesC := of_decide_eq_false d7
    have hfx : fixedS T c = [] := by unfold fixedS; rw [if_neg n1, if_neg n2, if_neg n3, if_neg n4, if_neg n5, if_neg n6, if_neg n7]
    simp (maxSteps := 1000000) (disch := first | omega | ((try simp only [bunN]) <;> omega) | fail) only [↓bunD, bunU, ↓bunFD, bunFU, Nat.reduceMul, Nat.reduceEqDiff, Nat.reduceAdd, Nat.reduceBEq, reduceIte, splice_succ, bunAP, g1, g2, d1, d2, d3, d4, d5, d6, d7, hfx, Tryz.results92]
    exact ⟨_, rfl, hE0⟩
end Go.Proofs.G
namespace Go.Proofs.G
open Go Go.Ab
set_option maxRecDepth 100000
def bothR (T U : Tn) : List By := (clausesR T).foldl addNew (clausesR U)
def differsR (T U : Tn) (c : By) : Bool :=
  if (!(clausesR T).contains c || !(clausesR U).contains c) = true then true else if c = formulaC then !exEqb T.f U.f else !decide (content T c = content U c)
def changedR (T U : Tn) : List By := (bothR T U).filter (differsR T U)
theorem bothR_len {T U : Tn} (h : T.Ok) (k : U.Ok) : (bothR T U).length ≤ 96 := by
  have h1 := clausesR_len h; have h2 := clausesR_len k
  have h3 := fold_len (clausesR T) (clausesR U)
  unfold bothR; omega
/-- A tender that functions may look at. -/
structure Good (σ : St) (cells : List Value) (T : Tn) : Prop where
  at' : TnAt σ cells T
  ok : T.Ok
  nm : T.name.length ≤ 100
theorem Good.mono {σ σ' : St} {cells : List Value} {T : Tn} (h : Good σ cells T) (hE : Ext σ σ') : Good σ' cells T := ⟨h.at'.mono hE, h.ok, h.nm⟩
theorem Good.len {σ : St} {cells : List Value} {T : Tn} (h : Good σ cells T) : cells.length = 20 := h.at'.len
set_option maxHeartbeats 4000000 in
theorem both_ok {σ : St} {ca cb : List Value} {T U : Tn} (hT : Good σ ca T) (hU : Good σ cb U) : Ev (go Tryz.prog HS (.fn 61) [.agg ⟨ca⟩, .agg ⟨cb⟩] σ) (fun r => ∃ v σ', r = ⟨false, v, σ'⟩ ∧ Ext σ σ' ∧ OStrs σ.n σ' v (bothR T U)) ⟨⟩ := by
  refine ev_go Tryz.func61 rfl rfl ?_
  have ext2 : Ext σ ((σ.new ca).new cb) := ((Ext.refl _).new' _).new' _
  have hca := hT.len
  have hcb := hU.len
  have hfa : sub ca 0 20 = some ca := sub_full (by omega) (by omega)
  have hfb : sub cb 0 20 = some cb := sub_full (by omega) (by omega)
  simp (maxSteps := 1000000) (disch := first | omega | ((try simp only [bunN]) <;> omega) | fail) only [↓bunD, bunU, ↓bunFD, bunFU, Nat.reduceMul, Nat.reduceEqDiff, Nat.reduceAdd, Nat.reduceBEq, reduceIte, splice_succ, bunAP, hfa, hfb]
  refine (rclauses_ok (hU.mono ext2).at' hU.ok).mono ?_
  rintro r ⟨v, σ2, rfl, e2, hv⟩
  have n2 := e2.n
  have c2 : σ2.row σ.n = some ca := by rw [e2.row (by simp; omega)]; first | trivial | rfl | assumption | omega | (simp only [bunM]; omega) | (simp (disch := first | omega | ((try simp only [bunN]) <;> omega) | fail) only [bunR]; first | done | rfl | assumption | omega)
  simp (maxSteps := 1000000) (disch := first | omega | ((try simp only [bunN]) <;> omega) | fail) only [↓bunD, bunU, ↓bunFD, bunFU, Nat.reduceMul, Nat.reduceEqDiff, Nat.reduceAdd, Nat.reduceBEq, reduceIte, splice_succ, bunAP, c2, hfa]
  refine (rclauses_ok ((hT.mono ext2).mono e2).at' hT.ok).mono ?_
  rintro r ⟨w, σ3, rfl, e3, hw⟩
  have n3 := e3.n
  have hv3 : OStrs ((σ.new ca).new cb).n σ3 v (clausesR U) := OL.ext hv e3
  have hlT := clausesR_len hT.ok
  have hlU := clausesR_len hU.ok
  have hvw : ∀ b, blkOf v = some b → b < σ2.n := fun b hb => (hv.blk hb).2
  have hwb : ∀ b, blkOf w = some b → σ2.n ≤ b ∧ b < σ3.n := fun b hb => hw.blk hb
  obtain ⟨wa, wc, wb, wo, wcs, rfl, w1, w2⟩ := hw.strs.use
  simp (maxSteps := 1000000) (disch := first | omega | ((try simp only [bunN]) <;> omega) | fail) only [↓bunD, bunU, ↓bunFD, bunFU, Nat.reduceMul, Nat.reduceEqDiff, Nat.reduceAdd, Nat.reduceBEq, reduceIte, splice_succ, bunAP]
  refine ev_count (clausesR T).length (fun k fr σ' => fr.get 7 = some (.int .i64 k) ∧ fr.get 6 = some (.slice wa (clausesR T).length wc) ∧ Ext ((σ.new ca).new cb) σ' ∧ σ3.n ≤ σ'.n ∧ (0 < (clausesR T).length → σ'.row wb = some wcs) ∧
      ∃ v, fr.get 5 = some v ∧ OStrs ((σ.new ca).new cb).n σ' v (((clausesR T).take k).foldl addNew (clausesR U)) ∧ (0 < (clausesR T).length → blkOf v ≠ some wb))
    (fun r => ∃ fr σ' v, r = ⟨.exit 0, fr, σ'⟩ ∧ Ext σ σ' ∧ fr.get 5 = some v ∧ OStrs σ.n σ' v (bothR T U)) ?_ ?_ ?_ ?_
  · refine ⟨by first | trivial | rfl | assumption | omega | (simp only [bunM]; omega) | (simp (disch := first | omega | ((try simp only [bunN]) <;> omega) | fail) only [bunR, ↓get_set, Nat.reduceEqDiff, reduceIte]; first | done | rfl | assumption | omega), by first | trivial | rfl | assumption | omega | (simp only [bunM]; omega) | (simp (disch := first | omega | ((try simp only [bunN]) <;> omega) | fail) only [bunR, ↓get_set, Nat.reduceEqDiff, reduceIte]; first | done | rfl | assumption | omega), e2.trans e3, Nat.le_refl _, fun h => ?_, v, by first | trivial | rfl | assumption | omega | (simp only [bunM]; omega) | (simp (disch := first | omega | ((try simp only [bunN]) <;> omega) | fail) only [bunR, ↓get_set, Nat.reduceEqDiff, reduceIte]; first | done | rfl | assumption | omega), hv3, fun h hb => ?_⟩
    · obtain ⟨sp, rfl, l3, l4⟩ := w1 h; exact l4
    · obtain ⟨sp, rfl, l3, l4⟩ := w1 h
      have h1 := hvw _ hb
      have h2 := hwb wb rfl
      omega
  · rintro k fr σ' hk ⟨g7, g6, hE, hn, hrow, v, g5, hv, hne⟩
    have hc := lt_true hk
    obtain ⟨a, ha⟩ := at_some hk
    have l5 := hrow (by omega)
    have hne := hne (by omega)
    obtain ⟨sp, rfl, l3, l4⟩ := w1 (by omega)
    have l7 := w2 k a ha
    have hwl := fold_len ((clausesR T).take k) (clausesR U)
    rw [List.length_take] at hwl
    simp (maxSteps := 1000000) (disch := first | omega | ((try simp only [bunN]) <;> omega) | fail) only [↓bunD, bunU, ↓bunFD, bunFU, Nat.reduceMul, Nat.reduceEqDiff, Nat.reduceAdd, Nat.reduceBEq, reduceIte, splice_succ, ap22, ap23, ap24, ap25, ap26, ap33, ap34, ap35, ap38, ap49, ap74, g5, g6, g7, hc, l5, l7]
    refine (has_ok hv.strs (by omega)).mono ?_
    rintro r rfl
    have hfold := fold_take addNew (s := clausesR U) ha
    simp (maxSteps := 1000000) (disch := first | omega | ((try simp only [bunN]) <;> omega) | fail) only [↓bunD, bunU, ↓bunFD, bunFU, Nat.reduceMul, Nat.reduceEqDiff, Nat.reduceAdd, Nat.reduceBEq, reduceIte, splice_succ, ap22, ap23, ap24, ap25, ap26, ap33, ap34, ap35, ap38, ap49, ap74, g5, g6, g7, hc, l5, l7]
    refine Br.intro (fun hd => ?_) (fun hd => ?_)
    · simp (maxSteps := 1000000) (disch := first | omega | ((try simp only [bunN]) <;> omega) | fail) only [↓bunD, bunU, ↓bunFD, bunFU, Nat.reduceMul, Nat.reduceEqDiff, Nat.reduceAdd, Nat.reduceBEq, reduceIte, splice_succ, ap22, ap23, ap24, ap25, ap26, ap33, ap34, ap35, ap38, ap49, ap74, g5, g6, g7, hc, l5, l7]
      refine ev_pushA (fun _ _ _ _ => ap41) hv (.refl _) hE.n (by omega) ?_
      rintro w' σ4 hw' hA -
      simp (maxSteps := 1000000) (disch := first | omega | ((try simp only [bunN]) <;> omega) | fail) only [↓bunD, bunU, ↓bunFD, bunFU, Nat.reduceMul, Nat.reduceEqDiff, Nat.reduceAdd, Nat.reduceBEq, reduceIte, splice_succ, ap22, ap23, ap24, ap25, ap26, ap33, ap34, ap35, ap38, ap49, ap74, g5, g6, g7]
      refine ⟨by first | trivial | rfl | assumption | omega | (simp only [bunM]; omega) | (simp (disch := first | omega | ((try simp only [bunN]) <;> omega) | fail) only [bunR, ↓get_set, Nat.reduceEqDiff, reduceIte]; first | done | rfl | assumption | omega), by first | trivial | rfl | assumption | omega | (simp only [bunM]; omega) | (simp (disch := first | omega | ((try simp only [bunN]) <;> omega) | fail) only [bunR, ↓get_set, Nat.reduceEqDiff, reduceIte, g6]; first | done | rfl | assumption | omega), hA.ext hE hv (Nat.le_refl _), Nat.le_trans hn hA.n, fun _ => by rw [hA.row (by omega) hne]; exact l5, _, by first | trivial | rfl | assumption | omega | (simp only [bunM]; omega) | (simp (disch := first | omega | ((try simp only [bunN]) <;> omega) | fail) only [bunR, ↓get_set, Nat.reduceEqDiff, reduceIte]; first | done | rfl | assumption | omega), ?_, fun _ => hA.far (by omega)⟩
      rw [hfold, addNew_no hd]; exact hw'
    · simp (maxSteps := 1000000) (disch := first | omega | ((try simp only [bunN]) <;> omega) | fail) only [↓bunD, bunU, ↓bunFD, bunFU, Nat.reduceMul, Nat.reduceEqDiff, Nat.reduceAdd, Nat.reduceBEq, reduceIte, splice_succ, ap22, ap23, ap24, ap25, ap26, ap33, ap34, ap35, ap38, ap49, ap74, g5, g6, g7]
      refine ⟨by first | trivial | rfl | assumption | omega | (simp only [bunM]; omega) | (simp (disch := first | omega | ((try simp only [bunN]) <;> omega) | fail) only [bunR, ↓get_set, Nat.reduceEqDiff, reduceIte]; first | done | rfl | assumption | omega), by first | trivial | rfl | assumption | omega | (simp only [bunM]; omega) | (simp (disch := first | omega | ((try simp only [bunN]) <;> omega) | fail) only [bunR, ↓get_set, Nat.reduceEqDiff, reduceIte, g6]; first | done | rfl | assumption | omega), hE, hn, fun _ => l5, _, by first | trivial | rfl | assumption | omega | (simp only [bunM]; omega) | (simp (disch := first | omega | ((try simp only [bunN]) <;> omega) | fail) only [bunR, ↓get_set, Nat.reduceEqDiff, reduceIte, g5]; first | done | rfl | assumption | omega), ?_, fun _ => hne⟩
      rw [hfold, addNew_yes hd]; exact hv
  · rintro fr σ' ⟨g7, g6, hE, hn, hrow, v, g5, hv, hne⟩
    rw [List.take_length] at hv
    simp (maxSteps := 1000000) (disch := first | omega | ((try simp only [bunN]) <;> omega) | fail) only [↓bunD, bunU, ↓bunFD, bunFU, Nat.reduceMul, Nat.reduceEqDiff, Nat.reduceAdd, Nat.reduceBEq, reduceIte, splice_succ, ap22, ap23, ap24, ap25, ap26, ap33, ap34, ap35, ap38, ap49, ap74, g5, g6, g7]
    exact ⟨_, _, v, rfl, ext2.trans hE, by first | trivial | rfl | assumption | omega | (simp only [bunM]; omega) | (simp (disch := first | omega | ((try simp only [bunN]) <;> omega) | fail) only [bunR, ↓get_set, Nat.reduceEqDiff, reduceIte, g5]; first | done | rfl | assumption | omega), hv.lower (by simp; omega)⟩
  rintro r ⟨fr, σ', v, rfl, hE, g5, hv⟩
  simp (maxSteps := 1000000) (disch := first | omega | ((try simp only [bunN]) <;> omega) | fail) only [↓bunD, bunU, ↓bunFD, bunFU, Nat.reduceMul, Nat.reduceEqDiff, Nat.reduceAdd, Nat.reduceBEq, reduceIte, splice_succ, bunAP, g5, Tryz.results61]
  exact ⟨v, σ', rfl, hE, hv⟩
set_option maxHeartbeats 4000000 in
theorem differs_ok {σ : St} {ca cb : List Value} {T U : Tn} {c : By} (hT : Good σ ca T) (hU : Good σ cb U) : Ev (go Tryz.prog HS (.fn 62) [.agg ⟨ca⟩, .agg ⟨cb⟩, str c] σ) (fun r => ∃ σ', r = ⟨false, .bool (differsR T U c), σ'⟩ ∧ Ext σ σ') ⟨⟩ := by
  refine ev_go Tryz.func62 rfl rfl ?_
  have ext2 : Ext σ ((σ.new ca).new cb) := ((Ext.refl _).new' _).new' _
  have hca := hT.len
  have hcb := hU.len
  have hfa : sub ca 0 20 = some ca := sub_full (by omega) (by omega)
  have hfb : sub cb 0 20 = some cb := sub_full (by omega) (by omega)
  have hlT := clausesR_len hT.ok
  have hlU := clausesR_len hU.ok
  simp (maxSteps := 1000000) (disch := first | omega | ((try simp only [bunN]) <;> omega) | fail) only [↓bunD, bunU, ↓bunFD, bunFU, Nat.reduceMul, Nat.reduceEqDiff, Nat.reduceAdd, Nat.reduceBEq, reduceIte, splice_succ, bunAP, hfa, hfb]
  refine (rclauses_ok (hT.mono ext2).at' hT.ok).mono ?_
  rintro r ⟨v, σ2, rfl, e2, hv⟩
  have n2 := e2.n
  simp only [new_n] at n2
  simp (maxSteps := 1000000) (disch := first | omega | ((try simp only [bunN]) <;> omega) | fail) only [↓bunD, bunU, ↓bunFD, bunFU, Nat.reduceMul, Nat.reduceEqDiff, Nat.reduceAdd, Nat.reduceBEq, reduceIte, splice_succ, bunAP]
  refine (has_ok hv.strs (by omega)).mono ?_
  rintro r rfl
  have c2 : σ2.row (σ.n + 1) = some cb := by rw [e2.row (by simp)]; first | trivial | rfl | assumption | omega | (simp only [bunM]; omega) | (simp (disch := first | omega | ((try simp only [bunN]) <;> omega) | fail) only [bunR]; first | done | rfl | assumption | omega)
  simp (maxSteps := 1000000) (disch := first | omega | ((try simp only [bunN]) <;> omega) | fail) only [↓bunD, bunU, ↓bunFD, bunFU, Nat.reduceMul, Nat.reduceEqDiff, Nat.reduceAdd, Nat.reduceBEq, reduceIte, splice_succ, bunAP, c2, hfb]
  refine (rclauses_ok ((hU.mono ext2).mono e2).at' hU.ok).mono ?_
  rintro r ⟨w, σ3, rfl, e3, hw⟩
  have n3 := e3.n
  simp (maxSteps := 1000000) (disch := first | omega | ((try simp only [bunN]) <;> omega) | fail) only [↓bunD, bunU, ↓bunFD, bunFU, Nat.reduceMul, Nat.reduceEqDiff, Nat.reduceAdd, Nat.reduceBEq, reduceIte, splice_succ, bunAP]
  refine (has_ok hw.strs (by omega)).mono ?_
  rintro r rfl
  have hE3 : Ext σ σ3 := ext2.trans (e2.trans e3)
  have c4 : σ3.row (σ.n + 1) = some cb := by rw [e3.row (by omega)]; exact c2
  have c3 : σ3.row σ.n = some ca := by rw [e3.row (by omega), e2.row (by simp; omega)]; first | trivial | rfl | assumption | omega | (simp only [bunM]; omega) | (simp (disch := first | omega | ((try simp only [bunN]) <;> omega) | fail) only [bunR]; first | done | rfl | assumption | omega)
  cases h1 : (clausesR T).contains c with
  | false =>
    have hr : differsR T U c = true := by unfold differsR; rw [h1]; rfl
    simp (maxSteps := 1000000) (disch := first | omega | ((try simp only [bunN]) <;> omega) | fail) only [↓bunD, bunU, ↓bunFD, bunFU, Nat.reduceMul, Nat.reduceEqDiff, Nat.reduceAdd, Nat.reduceBEq, reduceIte, splice_succ, bunAP, h1, hr, Tryz.results62]
    exact ⟨_, rfl, hE3⟩
  | true =>
  cases h2 : (clausesR U).contains c with
  | false =>
    have hr : differsR T U c = true := by unfold differsR; rw [h1, h2]; rfl
    simp (maxSteps := 1000000) (disch := first | omega | ((try simp only [bunN]) <;> omega) | fail) only [↓bunD, bunU, ↓bunFD, bunFU, Nat.reduceMul, Nat.reduceEqDiff, Nat.reduceAdd, Nat.reduceBEq, reduceIte, splice_succ, bunAP, h1, h2, hr, Tryz.results62]
    exact ⟨_, rfl, hE3⟩
  | true =>
  cases d : decide (c = [102, 111, 114, 109, 117, 108, 97]) with
  | true =>
    have hr : differsR T U c = !exEqb T.f U.f := by unfold differsR; rw [h1, h2, if_neg (by simp), if_pos (show c = formulaC from of_decide_eq_true d)]
    obtain ⟨vl, vc, vr, ex, vt, vk, ha0, -, -, -, hex, -⟩ := hT.at'
    obtain ⟨vl', vc', vr', ex', vt', vk', hb0, -, -, -, hex', -⟩ := hU.at'
    have hxl := hex.len
    have hxl' := hex'.len
    have fa : sub ca 6 5 = some ex := by
      rw [ha0]
      match ex, hxl with
      | [_, _, _, _, _], _ => rfl
    have fb : sub cb 6 5 = some ex' := by
      rw [hb0]
      match ex', hxl' with
      | [_, _, _, _, _], _ => rfl
    simp (maxSteps := 1000000) (disch := first | omega | ((try simp only [bunN]) <;> omega) | fail) only [↓bunD, bunU, ↓bunFD, bunFU, Nat.reduceMul, Nat.reduceEqDiff, Nat.reduceAdd, Nat.reduceBEq, reduceIte, splice_succ, bunAP, h1, h2, d, c3, c4, fa, fb]
    refine (rsame_ok _ (Nat.lt_succ_self _) (hex.mono hE3) (hex'.mono hE3)).mono ?_
    rintro r ⟨σ4, rfl, e4⟩
    simp (maxSteps := 1000000) (disch := first | omega | ((try simp only [bunN]) <;> omega) | fail) only [↓bunD, bunU, ↓bunFD, bunFU, Nat.reduceMul, Nat.reduceEqDiff, Nat.reduceAdd, Nat.reduceBEq, reduceIte, splice_succ, bunAP, hr, Tryz.results62]
    exact ⟨_, rfl, hE3.trans e4⟩
  | false =>
    have hr : differsR T U c = !decide (content T c = content U c) := by unfold differsR; rw [h1, h2, if_neg (by simp), if_neg (show ¬ c = formulaC from of_decide_eq_false d)]
    simp (maxSteps := 1000000) (disch := first | omega | ((try simp only [bunN]) <;> omega) | fail) only [↓bunD, bunU, ↓bunFD, bunFU, Nat.reduceMul, Nat.reduceEqDiff, Nat.reduceAdd, Nat.reduceBEq, reduceIte, splice_succ, bunAP, h1, h2, d, c3, c4, hfa, hfb]
    refine (content_ok (hT.mono hE3).at' hT.ok hT.nm).mono ?_
    rintro r ⟨σ4, rfl, e4⟩
    have c5 : σ4.row (σ.n + 1) = some cb := by rw [e4.row (by omega)]; exact c4
    simp (maxSteps := 1000000) (disch := first | omega | ((try simp only [bunN]) <;> omega) | fail) only [↓bunD, bunU, ↓bunFD, bunFU, Nat.reduceMul, Nat.reduceEqDiff, Nat.reduceAdd, Nat.reduceBEq, reduceIte, splice_succ, bunAP, c5, hfb]
    refine (content_ok (hU.mono (hE3.trans e4)).at' hU.ok hU.nm).mono ?_
    rintro r ⟨σ5, rfl, e5⟩
    simp (maxSteps := 1000000) (disch := first | omega | ((try simp only [bunN]) <;> omega) | fail) only [↓bunD, bunU, ↓bunFD, bunFU, Nat.reduceMul, Nat.reduceEqDiff, Nat.reduceAdd, Nat.reduceBEq, reduceIte, splice_succ, bunAP, asx e4, asx e5, hr, Tryz.results62]
    exact ⟨_, rfl, hE3.trans (e4.trans e5)⟩
set_option maxHeartbeats 4000000 in
theorem rchanged_ok {σ : St} {ca cb : List Value} {T U : Tn} (hT : Good σ ca T) (hU : Good σ cb U) : Ev (go Tryz.prog HS (.fn 34) [.agg ⟨ca⟩, .agg ⟨cb⟩] σ) (fun r => ∃ v σ', r = ⟨false, v, σ'⟩ ∧ Ext σ σ' ∧ OStrs σ.n σ' v (changedR T U)) ⟨⟩ := by
  refine ev_go Tryz.func34 rfl rfl ?_
  have ext2 : Ext σ ((σ.new ca).new cb) := ((Ext.refl _).new' _).new' _
  have hca := hT.len
  have hcb := hU.len
  have hfa : sub ca 0 20 = some ca := sub_full (by omega) (by omega)
  have hfb : sub cb 0 20 = some cb := sub_full (by omega) (by omega)
  have hlB := bothR_len hT.ok hU.ok
  simp (maxSteps := 1000000) (disch := first | omega | ((try simp only [bunN]) <;> omega) | fail) only [↓bunD, bunU, ↓bunFD, bunFU, Nat.reduceMul, Nat.reduceEqDiff, Nat.reduceAdd, Nat.reduceBEq, reduceIte, splice_succ, bunAP, hfa, hfb]
  refine (both_ok (hT.mono ext2) (hU.mono ext2)).mono ?_
  rintro r ⟨v, σ2, rfl, e2, hv⟩
  have n2 := e2.n
  simp only [new_n] at n2
  have hE2 : Ext σ σ2 := ext2.trans e2
  obtain ⟨wa, wc, wb, wo, wcs, rfl, w1, w2⟩ := hv.strs.use
  have c3 : σ2.row σ.n = some ca := by rw [e2.row (by simp; omega)]; first | trivial | rfl | assumption | omega | (simp only [bunM]; omega) | (simp (disch := first | omega | ((try simp only [bunN]) <;> omega) | fail) only [bunR]; first | done | rfl | assumption | omega)
  have c4 : σ2.row (σ.n + 1) = some cb := by rw [e2.row (by simp)]; first | trivial | rfl | assumption | omega | (simp only [bunM]; omega) | (simp (disch := first | omega | ((try simp only [bunN]) <;> omega) | fail) only [bunR]; first | done | rfl | assumption | omega)
  simp (maxSteps := 1000000) (disch := first | omega | ((try simp only [bunN]) <;> omega) | fail) only [↓bunD, bunU, ↓bunFD, bunFU, Nat.reduceMul, Nat.reduceEqDiff, Nat.reduceAdd, Nat.reduceBEq, reduceIte, splice_succ, bunAP]
  refine ev_count (bothR T U).length (fun k fr σ' => fr.get 7 = some (.int .i64 k) ∧ fr.get 5 = some (.slice wa (bothR T U).length wc) ∧ fr.get 2 = some (.pointer (some ⟨σ.n, 0, none⟩)) ∧ fr.get 3 = some (.pointer (some ⟨σ.n + 1, 0, none⟩)) ∧ Ext σ2 σ' ∧
      ∃ v, fr.get 6 = some v ∧ OStrs σ2.n σ' v (((bothR T U).take k).filter (differsR T U)))
    (fun r => ∃ fr σ' v, r = ⟨.exit 0, fr, σ'⟩ ∧ Ext σ2 σ' ∧ fr.get 6 = some v ∧ OStrs σ2.n σ' v (changedR T U)) ?_ ?_ ?_ ?_
  · exact ⟨by first | trivial | rfl | assumption | omega | (simp only [bunM]; omega) | (simp (disch := first | omega | ((try simp only [bunN]) <;> omega) | fail) only [bunR, ↓get_set, Nat.reduceEqDiff, reduceIte]; first | done | rfl | assumption | omega), by first | trivial | rfl | assumption | omega | (simp only [bunM]; omega) | (simp (disch := first | omega | ((try simp only [bunN]) <;> omega) | fail) only [bunR, ↓get_set, Nat.reduceEqDiff, reduceIte]; first | done | rfl | assumption | omega), by first | trivial | rfl | assumption | omega | (simp only [bunM]; omega) | (simp (disch := first | omega | ((try simp only [bunN]) <;> omega) | fail) only [bunR, ↓get_set, Nat.reduceEqDiff, reduceIte]; first | done | rfl | assumption | omega), by first | trivial | rfl | assumption | omega | (simp only [bunM]; omega) | (simp (disch := first | omega | ((try simp only [bunN]) <;> omega) | fail) only [bunR, ↓get_set, Nat.reduceEqDiff, reduceIte]; first | done | rfl | assumption | omega), .refl _, _, by first | trivial | rfl | assumption | omega | (simp only [bunM]; omega) | (simp (disch := first | omega | ((try simp only [bunN]) <;> omega) | fail) only [bunR, ↓get_set, Nat.reduceEqDiff, reduceIte]; first | done | rfl | assumption | omega), OL.nil⟩
  · rintro k fr σ' hk ⟨g7, g5, g2, g3, hE, u, g6, hu⟩
    have hc := lt_true hk
    obtain ⟨a, ha⟩ := at_some hk
    obtain ⟨sp, rfl, l3, l4⟩ := w1 (by omega)
    have l5 : σ'.row wb = some wcs := by rw [hE.row l3]; exact l4
    have l7 := w2 k a ha
    have d3 : σ'.row σ.n = some ca := by rw [hE.row (by omega)]; exact c3
    have d4 : σ'.row (σ.n + 1) = some cb := by rw [hE.row (by omega)]; exact c4
    have hEn := hE.n
    simp (maxSteps := 1000000) (disch := first | omega | ((try simp only [bunN]) <;> omega) | fail) only [↓bunD, bunU, ↓bunFD, bunFU, Nat.reduceMul, Nat.reduceEqDiff, Nat.reduceAdd, Nat.reduceBEq, reduceIte, splice_succ, ap22, ap23, ap24, ap25, ap26, ap33, ap34, ap35, ap38, ap49, ap74, g2, g3, g5, g6, g7, hc, l5, l7, d3, d4, hfa, hfb]
    refine (differs_ok (hT.mono (hE2.trans hE)) (hU.mono (hE2.trans hE))).mono ?_
    rintro r ⟨σ3, rfl, e3⟩
    have n3 := e3.n
    have l5' : σ3.row wb = some wcs := by rw [e3.row (by omega)]; exact l5
    have hfl : (((bothR T U).take k).filter (differsR T U)).length ≤ 96 := by
      have h1 := List.length_filter_le (differsR T U) ((bothR T U).take k)
      rw [List.length_take] at h1; omega
    have hfil : ((bothR T U).take (k + 1)).filter (differsR T U) = ((bothR T U).take k).filter (differsR T U) ++ (if differsR T U a = true then [a] else []) := by
      rw [List.take_add_one, ha]; simp [List.filter_append, List.filter_cons]
    cases hq : differsR T U a with
    | true =>
      simp (maxSteps := 1000000) (disch := first | omega | ((try simp only [bunN]) <;> omega) | fail) only [↓bunD, bunU, ↓bunFD, bunFU, Nat.reduceMul, Nat.reduceEqDiff, Nat.reduceAdd, Nat.reduceBEq, reduceIte, splice_succ, ap22, ap23, ap24, ap25, ap26, ap33, ap34, ap35, ap38, ap49, ap74, g2, g3, g5, g6, g7, asx e3, l5', l7]
      refine ev_push (fun _ _ _ _ => ap41) hu hE e3 (Nat.le_refl _) hEn (by omega) ?_
      rintro v' σ4 hv' hE4 hn4 -
      simp (maxSteps := 1000000) (disch := first | omega | ((try simp only [bunN]) <;> omega) | fail) only [↓bunD, bunU, ↓bunFD, bunFU, Nat.reduceMul, Nat.reduceEqDiff, Nat.reduceAdd, Nat.reduceBEq, reduceIte, splice_succ, ap22, ap23, ap24, ap25, ap26, ap33, ap34, ap35, ap38, ap49, ap74, g2, g3, g5, g6, g7]
      refine ⟨by first | trivial | rfl | assumption | omega | (simp only [bunM]; omega) | (simp (disch := first | omega | ((try simp only [bunN]) <;> omega) | fail) only [bunR, ↓get_set, Nat.reduceEqDiff, reduceIte]; first | done | rfl | assumption | omega), by first | trivial | rfl | assumption | omega | (simp only [bunM]; omega) | (simp (disch := first | omega | ((try simp only [bunN]) <;> omega) | fail) only [bunR, ↓get_set, Nat.reduceEqDiff, reduceIte, g5]; first | done | rfl | assumption | omega), by first | trivial | rfl | assumption | omega | (simp only [bunM]; omega) | (simp (disch := first | omega | ((try simp only [bunN]) <;> omega) | fail) only [bunR, ↓get_set, Nat.reduceEqDiff, reduceIte, g2]; first | done | rfl | assumption | omega), by first | trivial | rfl | assumption | omega | (simp only [bunM]; omega) | (simp (disch := first | omega | ((try simp only [bunN]) <;> omega) | fail) only [bunR, ↓get_set, Nat.reduceEqDiff, reduceIte, g3]; first | done | rfl | assumption | omega), hE4, _, by first | trivial | rfl | assumption | omega | (simp only [bunM]; omega) | (simp (disch := first | omega | ((try simp only [bunN]) <;> omega) | fail) only [bunR, ↓get_set, Nat.reduceEqDiff, reduceIte]; first | done | rfl | assumption | omega), ?_⟩
      rw [hfil, hq, if_pos rfl]; exact hv'
    | false =>
      simp (maxSteps := 1000000) (disch := first | omega | ((try simp only [bunN]) <;> omega) | fail) only [↓bunD, bunU, ↓bunFD, bunFU, Nat.reduceMul, Nat.reduceEqDiff, Nat.reduceAdd, Nat.reduceBEq, reduceIte, splice_succ, ap22, ap23, ap24, ap25, ap26, ap33, ap34, ap35, ap38, ap49, ap74, g2, g3, g5, g6, g7, asx e3]
      refine ⟨by first | trivial | rfl | assumption | omega | (simp only [bunM]; omega) | (simp (disch := first | omega | ((try simp only [bunN]) <;> omega) | fail) only [bunR, ↓get_set, Nat.reduceEqDiff, reduceIte]; first | done | rfl | assumption | omega), by first | trivial | rfl | assumption | omega | (simp only [bunM]; omega) | (simp (disch := first | omega | ((try simp only [bunN]) <;> omega) | fail) only [bunR, ↓get_set, Nat.reduceEqDiff, reduceIte, g5]; first | done | rfl | assumption | omega), by first | trivial | rfl | assumption | omega | (simp only [bunM]; omega) | (simp (disch := first | omega | ((try simp only [bunN]) <;> omega) | fail) only [bunR, ↓get_set, Nat.reduceEqDiff, reduceIte, g2]; first | done | rfl | assumption | omega), by first | trivial | rfl | assumption | omega | (simp only [bunM]; omega) | (simp (disch := first | omega | ((try simp only [bunN]) <;> omega) | fail) only [bunR, ↓get_set, Nat.reduceEqDiff, reduceIte, g3]; first | done | rfl | assumption | omega), hE.trans e3, _, by first | trivial | rfl | assumption | omega | (simp only [bunM]; omega) | (simp (disch := first | omega | ((try simp only [bunN]) <;> omega) | fail) only [bunR, ↓get_set, Nat.reduceEqDiff, reduceIte, g6]; first | done | rfl | assumption | omega), ?_⟩
      rw [hfil, hq, if_neg (by simp), List.append_nil]; exact OL.ext hu e3
  · rintro fr σ' ⟨g7, g5, g2, g3, hE, v, g6, hv⟩
    rw [List.take_length] at hv
    simp (maxSteps := 1000000) (disch := first | omega | ((try simp only [bunN]) <;> omega) | fail) only [↓bunD, bunU, ↓bunFD, bunFU, Nat.reduceMul, Nat.reduceEqDiff, Nat.reduceAdd, Nat.reduceBEq, reduceIte, splice_succ, ap22, ap23, ap24, ap25, ap26, ap33, ap34, ap35, ap38, ap49, ap74, g5, g6, g7]
    exact ⟨_, _, v, rfl, hE, by first | trivial | rfl | assumption | omega | (simp only [bunM]; omega) | (simp (disch := first | omega | ((try simp only [bunN]) <;> omega) | fail) only [bunR, ↓get_set, Nat.reduceEqDiff, reduceIte, g6]; first | done | rfl | assumption | omega), hv⟩
  rintro r ⟨fr, σ', v, rfl, hE, g6, hv⟩
  simp (maxSteps := 1000000) (disch := first | omega | ((try simp only [bunN]) <;> omega) | fail) only [↓bunD, bunU, ↓bunFD, bunFU, Nat.reduceMul, Nat.reduceEqDiff, Nat.reduceAdd, Nat.reduceBEq, reduceIte, splice_succ, bunAP, g6, Tryz.results34]
  exact ⟨v, σ', rfl, hE2.trans hE, hv.lower (by omega)⟩
end Go.Proofs.G
namespace Go.Proofs.G
open Go Go.Ab
set_option maxRecDepth 100000
/-- All clauses that there are. -/
def allC : List By := nameC :: (List.range 10).map (fun k => lotC (k : Nat)) ++ names.map critC ++ (List.range 8).map (fun k => reqC (k + 1)) ++ fixedC
def shortC : List By := [formulaC, tiesC, mostC, combosC, budgetC]
def dist (c : By) : Int := if c = nameC then 0 else if c = timesC then 0 else if shortC.contains c then 4320 else 10080
theorem rdist_all (σ : St) : allC.map (fun c => callF Tryz.prog HS (exec Tryz.prog HS 40) (.fn 59) [str c] σ) = allC.map fun c => some ⟨false, .int .i64 (dist c), σ⟩ := by kernel_rfl
theorem pdist_all (σ : St) : allC.map (fun c => callF Tryz.prog HS (exec Tryz.prog HS 40) (.fn 26) [str c] σ) = allC.map fun c => some ⟨false, .int .i64 (dist c), σ⟩ := by kernel_rfl
end Go.Proofs.G
namespace Go.Proofs.G
open Go Go.Ab
set_option maxRecDepth 100000
theorem mem_fold {s : By} : ∀ {l out : List By}, s ∈ l.foldl addNew out → s ∈ out ∨ s ∈ l := by
  intro l
  induction l with
  | nil => intro out h; exact .inl h
  | cons x l ih =>
    intro out h
    rcases ih h with h | h
    · unfold addNew at h
      split at h
      · exact .inl h
      · rcases List.mem_append.1 h with h | h
        · exact .inl h
        · rw [List.mem_singleton] at h; subst h; exact .inr (by simp)
    · exact .inr (by simp [h])
theorem heads_allC {T : Tn} (ok : T.Ok) {c : By} (h : c ∈ heads T) : c ∈ allC := by
  unfold heads at h
  unfold allC
  simp only [List.cons_append, List.mem_cons, List.mem_append, List.mem_map, List.mem_range, or_assoc] at h ⊢
  rcases h with h | ⟨l, hl, rfl⟩ | ⟨x, hx, rfl⟩ | ⟨k, hk, rfl⟩
  · exact .inl h
  · have := ok.lot l hl
    exact .inr (.inl ⟨l.id.toNat, by omega, by rw [Int.toNat_of_nonneg this.1]⟩)
  · exact .inr (.inr (.inl ⟨x.name, (ok.crit x hx).1, rfl⟩))
  · exact .inr (.inr (.inr (.inl ⟨k, by have := ok.reqs; omega, rfl⟩)))
theorem clauses_allC {T : Tn} (ok : T.Ok) {c : By} (h : c ∈ clausesR T) : c ∈ allC := by
  rcases mem_fold h with h | h
  · simp at h
  · rcases List.mem_append.1 h with h | h
    · exact heads_allC ok h
    · unfold allC; simp only [List.cons_append, List.mem_cons, List.mem_append, or_assoc]; exact .inr (.inr (.inr (.inr h)))
theorem both_allC {T U : Tn} (ok : T.Ok) (ok' : U.Ok) {c : By} (h : c ∈ bothR T U) : c ∈ allC := by
  rcases mem_fold h with h | h
  · exact clauses_allC ok' h
  · exact clauses_allC ok h
theorem changed_allC {T U : Tn} (ok : T.Ok) (ok' : U.Ok) {c : By} (h : c ∈ changedR T U) : c ∈ allC := both_allC ok ok' (List.mem_filter.1 h).1
theorem changed_len {T U : Tn} (ok : T.Ok) (ok' : U.Ok) : (changedR T U).length ≤ 96 := Nat.le_trans (List.length_filter_le _ _) (bothR_len ok ok')
theorem rdist_ok {σ : St} {c : By} (h : c ∈ allC) : Ev (go Tryz.prog HS (.fn 59) [str c] σ) (fun r => r = ⟨false, .int .i64 (dist c), σ⟩) ⟨⟩ :=
  ⟨_, go_of (List.map_inj_left.1 (rdist_all σ) c h), rfl⟩
theorem pdist_ok {σ : St} {c : By} (h : c ∈ allC) : Ev (go Tryz.prog HS (.fn 26) [str c] σ) (fun r => r = ⟨false, .int .i64 (dist c), σ⟩) ⟨⟩ :=
  ⟨_, go_of (List.map_inj_left.1 (pdist_all σ) c h), rfl⟩
def moves (T U : Tn) : List By := (changedR T U).filter fun c => !decide (c = nameC) && !decide (c = timesC)
def byOf (T U : Tn) : Int := (changedR T U).foldl (fun m c => max m (dist c)) 0
def later (own old by' : Int) : Int := max own (if old < 1000000000 - by' then old + by' else 1000000000)
theorem dist_cases (c : By) : dist c = 0 ∨ dist c = 4320 ∨ dist c = 10080 := by
  unfold dist; repeat (split; simp)
  simp
theorem fold_max (l : List By) : ∀ m : Int, (m = 0 ∨ m = 4320 ∨ m = 10080) → (let r := l.foldl (fun m c => max m (dist c)) m; r = 0 ∨ r = 4320 ∨ r = 10080) := by
  induction l with
  | nil => intro m h; exact h
  | cons c l ih =>
    intro m h
    have hd := dist_cases c
    exact ih (max m (dist c)) (by omega)
theorem byOf_cases (T U : Tn) : byOf T U = 0 ∨ byOf T U = 4320 ∨ byOf T U = 10080 := fold_max _ 0 (.inl rfl)
set_option maxHeartbeats 4000000 in
theorem rdistance_ok {σ : St} {ca cb : List Value} {T U : Tn} (hT : Good σ ca T) (hU : Good σ cb U) : Ev (go Tryz.prog HS (.fn 28) [.agg ⟨ca⟩, .agg ⟨cb⟩] σ) (fun r => ∃ σ', r = ⟨false, .int .i64 (byOf T U), σ'⟩ ∧ Ext σ σ') ⟨⟩ := by
  refine ev_go Tryz.func28 rfl rfl ?_
  have ext2 : Ext σ ((σ.new ca).new cb) := ((Ext.refl _).new' _).new' _
  have hca := hT.len
  have hcb := hU.len
  have hfa : sub ca 0 20 = some ca := sub_full (by omega) (by omega)
  have hfb : sub cb 0 20 = some cb := sub_full (by omega) (by omega)
  have hlC := changed_len hT.ok hU.ok
  simp (maxSteps := 1000000) (disch := first | omega | ((try simp only [bunN]) <;> omega) | fail) only [↓bunD, bunU, ↓bunFD, bunFU, Nat.reduceMul, Nat.reduceEqDiff, Nat.reduceAdd, Nat.reduceBEq, reduceIte, splice_succ, bunAP, hfa, hfb]
  refine (rchanged_ok (hT.mono ext2) (hU.mono ext2)).mono ?_
  rintro r ⟨v, σ2, rfl, e2, hv⟩
  obtain ⟨wa, wc, wb, wo, wcs, rfl, w1, w2⟩ := hv.strs.use
  simp (maxSteps := 1000000) (disch := first | omega | ((try simp only [bunN]) <;> omega) | fail) only [↓bunD, bunU, ↓bunFD, bunFU, Nat.reduceMul, Nat.reduceEqDiff, Nat.reduceAdd, Nat.reduceBEq, reduceIte, splice_succ, bunAP]
  refine ev_count (changedR T U).length (fun k fr σ' => fr.get 7 = some (.int .i64 k) ∧ fr.get 6 = some (.slice wa (changedR T U).length wc) ∧ σ' = σ2 ∧ fr.get 5 = some (.int .i64 (((changedR T U).take k).foldl (fun m c => max m (dist c)) 0)))
    (fun r => ∃ fr, r = ⟨.exit 0, fr, σ2⟩ ∧ fr.get 5 = some (.int .i64 (byOf T U))) ?_ ?_ ?_ ?_
  · exact ⟨by first | trivial | rfl | assumption | omega | (simp only [bunM]; omega) | (simp (disch := first | omega | ((try simp only [bunN]) <;> omega) | fail) only [bunR, ↓get_set, Nat.reduceEqDiff, reduceIte]; first | done | rfl | assumption | omega), by first | trivial | rfl | assumption | omega | (simp only [bunM]; omega) | (simp (disch := first | omega | ((try simp only [bunN]) <;> omega) | fail) only [bunR, ↓get_set, Nat.reduceEqDiff, reduceIte]; first | done | rfl | assumption | omega), rfl, by first | trivial | rfl | assumption | omega | (simp only [bunM]; omega) | (simp (disch := first | omega | ((try simp only [bunN]) <;> omega) | fail) only [bunR, ↓get_set, Nat.reduceEqDiff, reduceIte]; first | done | rfl | assumption | omega)⟩
  · rintro k fr σ' hk ⟨g7, g6, rfl, g5⟩
    have hc := lt_true hk
    obtain ⟨a, ha⟩ := at_some hk
    obtain ⟨sp, rfl, l3, l4⟩ := w1 (by omega)
    have l7 := w2 k a ha
    simp (maxSteps := 1000000) (disch := first | omega | ((try simp only [bunN]) <;> omega) | fail) only [↓bunD, bunU, ↓bunFD, bunFU, Nat.reduceMul, Nat.reduceEqDiff, Nat.reduceAdd, Nat.reduceBEq, reduceIte, splice_succ, bunAP, g5, g6, g7, hc, l4, l7]
    refine (rdist_ok (changed_allC hT.ok hU.ok (List.mem_of_getElem? ha))).mono ?_
    rintro r rfl
    simp (maxSteps := 1000000) (disch := first | omega | ((try simp only [bunN]) <;> omega) | fail) only [↓bunD, bunU, ↓bunFD, bunFU, Nat.reduceMul, Nat.reduceEqDiff, Nat.reduceAdd, Nat.reduceBEq, reduceIte, splice_succ, bunAP, g5, g6, g7]
    exact ⟨by first | trivial | rfl | assumption | omega | (simp only [bunM]; omega) | (simp (disch := first | omega | ((try simp only [bunN]) <;> omega) | fail) only [bunR, ↓get_set, Nat.reduceEqDiff, reduceIte]; first | done | rfl | assumption | omega), by first | trivial | rfl | assumption | omega | (simp only [bunM]; omega) | (simp (disch := first | omega | ((try simp only [bunN]) <;> omega) | fail) only [bunR, ↓get_set, Nat.reduceEqDiff, reduceIte, g6]; first | done | rfl | assumption | omega), by trivial, by rw [fold_take _ ha] <;> first | trivial | rfl | assumption | omega | (simp only [bunM]; omega) | (simp (disch := first | omega | ((try simp only [bunN]) <;> omega) | fail) only [bunR, ↓get_set, Nat.reduceEqDiff, reduceIte]; first | done | rfl | assumption | omega)⟩
  · rintro fr σ' ⟨g7, g6, rfl, g5⟩
    rw [List.take_length] at g5
    simp (maxSteps := 1000000) (disch := first | omega | ((try simp only [bunN]) <;> omega) | fail) only [↓bunD, bunU, ↓bunFD, bunFU, Nat.reduceMul, Nat.reduceEqDiff, Nat.reduceAdd, Nat.reduceBEq, reduceIte, splice_succ, bunAP, g5, g6, g7]
    exact ⟨_, rfl, by first | trivial | rfl | assumption | omega | (simp only [bunM]; omega) | (simp (disch := first | omega | ((try simp only [bunN]) <;> omega) | fail) only [bunR, ↓get_set, Nat.reduceEqDiff, reduceIte, g5]; first | done | rfl | assumption | omega)⟩
  rintro r ⟨fr, rfl, g5⟩
  simp (maxSteps := 1000000) (disch := first | omega | ((try simp only [bunN]) <;> omega) | fail) only [↓bunD, bunU, ↓bunFD, bunFU, Nat.reduceMul, Nat.reduceEqDiff, Nat.reduceAdd, Nat.reduceBEq, reduceIte, splice_succ, bunAP, g5, Tryz.results28]
  exact ⟨_, rfl, ext2.trans e2⟩
set_option maxHeartbeats 4000000 in
theorem rmoves_ok {σ : St} {ca cb : List Value} {T U : Tn} (hT : Good σ ca T) (hU : Good σ cb U) : Ev (go Tryz.prog HS (.fn 16) [.agg ⟨ca⟩, .agg ⟨cb⟩] σ) (fun r => ∃ v σ', r = ⟨false, v, σ'⟩ ∧ Ext σ σ' ∧ Strs σ' v (moves T U)) ⟨⟩ := by
  refine ev_go Tryz.func16 rfl rfl ?_
  have ext2 : Ext σ ((σ.new ca).new cb) := ((Ext.refl _).new' _).new' _
  have hca := hT.len
  have hcb := hU.len
  have hfa : sub ca 0 20 = some ca := sub_full (by omega) (by omega)
  have hfb : sub cb 0 20 = some cb := sub_full (by omega) (by omega)
  have hlC := changed_len hT.ok hU.ok
  simp (maxSteps := 1000000) (disch := first | omega | ((try simp only [bunN]) <;> omega) | fail) only [↓bunD, bunU, ↓bunFD, bunFU, Nat.reduceMul, Nat.reduceEqDiff, Nat.reduceAdd, Nat.reduceBEq, reduceIte, splice_succ, bunAP, hfa, hfb]
  refine (rchanged_ok (hT.mono ext2) (hU.mono ext2)).mono ?_
  rintro r ⟨v, σ2, rfl, e2, hv⟩
  obtain ⟨wa, wc, wb, wo, wcs, rfl, w1, w2⟩ := hv.strs.use
  have hE2 : Ext σ σ2 := ext2.trans e2
  simp (maxSteps := 1000000) (disch := first | omega | ((try simp only [bunN]) <;> omega) | fail) only [↓bunD, bunU, ↓bunFD, bunFU, Nat.reduceMul, Nat.reduceEqDiff, Nat.reduceAdd, Nat.reduceBEq, reduceIte, splice_succ, bunAP]
  generalize hp : (fun c : By => !decide (c = nameC) && !decide (c = timesC)) = p
  have hpa : ∀ a : By, p a = (!decide (a = [110, 97, 109, 101]) && !decide (a = [116, 105, 109, 101, 115])) := fun a => by rw [← hp]; rfl
  refine ev_count (changedR T U).length (fun k fr σ' => fr.get 7 = some (.int .i64 k) ∧ fr.get 6 = some (.slice wa (changedR T U).length wc) ∧ Ext σ2 σ' ∧ ∃ v, fr.get 5 = some v ∧ OStrs σ2.n σ' v (((changedR T U).take k).filter p))
    (fun r => ∃ fr σ' v, r = ⟨.exit 0, fr, σ'⟩ ∧ Ext σ2 σ' ∧ fr.get 5 = some v ∧ OStrs σ2.n σ' v (moves T U)) ?_ ?_ ?_ ?_
  · exact ⟨by first | trivial | rfl | assumption | omega | (simp only [bunM]; omega) | (simp (disch := first | omega | ((try simp only [bunN]) <;> omega) | fail) only [bunR, ↓get_set, Nat.reduceEqDiff, reduceIte]; first | done | rfl | assumption | omega), by first | trivial | rfl | assumption | omega | (simp only [bunM]; omega) | (simp (disch := first | omega | ((try simp only [bunN]) <;> omega) | fail) only [bunR, ↓get_set, Nat.reduceEqDiff, reduceIte]; first | done | rfl | assumption | omega), .refl _, _, by first | trivial | rfl | assumption | omega | (simp only [bunM]; omega) | (simp (disch := first | omega | ((try simp only [bunN]) <;> omega) | fail) only [bunR, ↓get_set, Nat.reduceEqDiff, reduceIte]; first | done | rfl | assumption | omega), OL.nil⟩
  · rintro k fr σ' hk ⟨g7, g6, hE, u, g5, hu⟩
    have hc := lt_true hk
    obtain ⟨a, ha⟩ := at_some hk
    obtain ⟨sp, rfl, l3, l4⟩ := w1 (by omega)
    have l5 : σ'.row wb = some wcs := by rw [hE.row l3]; exact l4
    have l7 := w2 k a ha
    have hEn := hE.n
    have hfl : (((changedR T U).take k).filter p).length ≤ 96 := by
      have h1 := List.length_filter_le p ((changedR T U).take k)
      rw [List.length_take] at h1; omega
    have hfil : ((changedR T U).take (k + 1)).filter p = ((changedR T U).take k).filter p ++ (if p a = true then [a] else []) := by
      rw [List.take_add_one, ha]; simp [List.filter_append, List.filter_cons]
    have stay : p a = false → ((changedR T U).take (k + 1)).filter p = ((changedR T U).take k).filter p := fun h => by rw [hfil, h, if_neg (by simp), List.append_nil]
    cases q1 : decide (a = [110, 97, 109, 101]) with
    | true =>
      simp (maxSteps := 1000000) (disch := first | omega | ((try simp only [bunN]) <;> omega) | fail) only [↓bunD, bunU, ↓bunFD, bunFU, Nat.reduceMul, Nat.reduceEqDiff, Nat.reduceAdd, Nat.reduceBEq, reduceIte, splice_succ, ap22, ap23, ap24, ap25, ap26, ap33, ap34, ap35, ap38, ap49, ap74, g5, g6, g7, hc, l5, l7, q1]
      exact ⟨by first | trivial | rfl | assumption | omega | (simp only [bunM]; omega) | (simp (disch := first | omega | ((try simp only [bunN]) <;> omega) | fail) only [bunR, ↓get_set, Nat.reduceEqDiff, reduceIte]; first | done | rfl | assumption | omega), by first | trivial | rfl | assumption | omega | (simp only [bunM]; omega) | (simp (disch := first | omega | ((try simp only [bunN]) <;> omega) | fail) only [bunR, ↓get_set, Nat.reduceEqDiff, reduceIte, g6]; first | done | rfl | assumption | omega), hE, _, by first | trivial | rfl | assumption | omega | (simp only [bunM]; omega) | (simp (disch := first | omega | ((try simp only [bunN]) <;> omega) | fail) only [bunR, ↓get_set, Nat.reduceEqDiff, reduceIte, g5]; first | done | rfl | assumption | omega), by rw [stay (by rw [hpa, q1]; rfl)]; exact hu⟩
    | false =>
    cases q2 : decide (a = [116, 105, 109, 101, 115]) with
    | true =>
      simp (maxSteps := 1000000) (disch := first | omega | ((try simp only [bunN]) <;> omega) | fail) only [↓bunD, bunU, ↓bunFD, bunFU, Nat.reduceMul, Nat.reduceEqDiff, Nat.reduceAdd, Nat.reduceBEq, reduceIte, splice_succ, ap22, ap23, ap24, ap25, ap26, ap33, ap34, ap35, ap38, ap49, ap74, g5, g6, g7, hc, l5, l7, q1, q2]
      exact ⟨by first | trivial | rfl | assumption | omega | (simp only [bunM]; omega) | (simp (disch := first | omega | ((try simp only [bunN]) <;> omega) | fail) only [bunR, ↓get_set, Nat.reduceEqDiff, reduceIte]; first | done | rfl | assumption | omega), by first | trivial | rfl | assumption | omega | (simp only [bunM]; omega) | (simp (disch := first | omega | ((try simp only [bunN]) <;> omega) | fail) only [bunR, ↓get_set, Nat.reduceEqDiff, reduceIte, g6]; first | done | rfl | assumption | omega), hE, _, by first | trivial | rfl | assumption | omega | (simp only [bunM]; omega) | (simp (disch := first | omega | ((try simp only [bunN]) <;> omega) | fail) only [bunR, ↓get_set, Nat.reduceEqDiff, reduceIte, g5]; first | done | rfl | assumption | omega), by rw [stay (by rw [hpa, q1, q2]; rfl)]; exact hu⟩
    | false =>
      simp (maxSteps := 1000000) (disch := first | omega | ((try simp only [bunN]) <;> omega) | fail) only [↓bunD, bunU, ↓bunFD, bunFU, Nat.reduceMul, Nat.reduceEqDiff, Nat.reduceAdd, Nat.reduceBEq, reduceIte, splice_succ, ap22, ap23, ap24, ap25, ap26, ap33, ap34, ap35, ap38, ap49, ap74, g5, g6, g7, hc, l5, l7, q1, q2]
      refine ev_push (fun _ _ _ _ => ap41) hu hE (.refl _) (Nat.le_refl _) hEn (by omega) ?_
      rintro v' σ4 hv' hE4 hn4 -
      simp (maxSteps := 1000000) (disch := first | omega | ((try simp only [bunN]) <;> omega) | fail) only [↓bunD, bunU, ↓bunFD, bunFU, Nat.reduceMul, Nat.reduceEqDiff, Nat.reduceAdd, Nat.reduceBEq, reduceIte, splice_succ, ap22, ap23, ap24, ap25, ap26, ap33, ap34, ap35, ap38, ap49, ap74, g5, g6, g7]
      refine ⟨by first | trivial | rfl | assumption | omega | (simp only [bunM]; omega) | (simp (disch := first | omega | ((try simp only [bunN]) <;> omega) | fail) only [bunR, ↓get_set, Nat.reduceEqDiff, reduceIte]; first | done | rfl | assumption | omega), by first | trivial | rfl | assumption | omega | (simp only [bunM]; omega) | (simp (disch := first | omega | ((try simp only [bunN]) <;> omega) | fail) only [bunR, ↓get_set, Nat.reduceEqDiff, reduceIte, g6]; first | done | rfl | assumption | omega), hE4, _, by first | trivial | rfl | assumption | omega | (simp only [bunM]; omega) | (simp (disch := first | omega | ((try simp only [bunN]) <;> omega) | fail) only [bunR, ↓get_set, Nat.reduceEqDiff, reduceIte]; first | done | rfl | assumption | omega), ?_⟩
      rw [hfil, if_pos (by rw [hpa, q1, q2]; rfl)]; exact hv'
  · rintro fr σ' ⟨g7, g6, hE, u, g5, hu⟩
    rw [List.take_length] at hu
    simp (maxSteps := 1000000) (disch := first | omega | ((try simp only [bunN]) <;> omega) | fail) only [↓bunD, bunU, ↓bunFD, bunFU, Nat.reduceMul, Nat.reduceEqDiff, Nat.reduceAdd, Nat.reduceBEq, reduceIte, splice_succ, ap22, ap23, ap24, ap25, ap26, ap33, ap34, ap35, ap38, ap49, ap74, g5, g6, g7]
    refine ⟨_, _, u, rfl, hE, by first | trivial | rfl | assumption | omega | (simp only [bunM]; omega) | (simp (disch := first | omega | ((try simp only [bunN]) <;> omega) | fail) only [bunR, ↓get_set, Nat.reduceEqDiff, reduceIte, g5]; first | done | rfl | assumption | omega), ?_⟩
    unfold moves; rw [hp]; exact hu
  rintro r ⟨fr, σ', u, rfl, hE, g5, hu⟩
  simp (maxSteps := 1000000) (disch := first | omega | ((try simp only [bunN]) <;> omega) | fail) only [↓bunD, bunU, ↓bunFD, bunFU, Nat.reduceMul, Nat.reduceEqDiff, Nat.reduceAdd, Nat.reduceBEq, reduceIte, splice_succ, bunAP, g5, Tryz.results16]
  exact ⟨u, σ', rfl, hE2.trans hE, hu.strs⟩
theorem later_ok {σ : St} {own old b : Int} (h1 : In64 own) (h2 : In64 old) (h3 : 0 ≤ b) (h4 : b ≤ 10080) : Ev (go Tryz.prog HS (.fn 29) [.int .i64 own, .int .i64 old, .int .i64 b] σ) (fun r => r = ⟨false, .int .i64 (later own old b), σ⟩) ⟨⟩ := by
  obtain ⟨a1, a2⟩ := h1
  obtain ⟨b1, b2⟩ := h2
  refine ev_go Tryz.func29 rfl rfl ?_
  have hw : wrapF .i64 (1000000000 - b) = 1000000000 - b := wrap_in (by omega) (by omega)
  by_cases h : old < 1000000000 - b
  · have hw2 : wrapF .i64 (old + b) = old + b := wrap_in (by omega) (by omega)
    have hl : later own old b = max own (old + b) := by unfold later; rw [if_pos h]
    have hd : decide (old < 1000000000 - b) = true := decide_eq_true h
    simp (maxSteps := 1000000) (disch := first | omega | ((try simp only [bunN]) <;> omega) | fail) only [↓bunD, bunU, ↓bunFD, bunFU, Nat.reduceMul, Nat.reduceEqDiff, Nat.reduceAdd, Nat.reduceBEq, reduceIte, splice_succ, bunAP, hw, hw2, hl, hd, Tryz.results29]
  · have hl : later own old b = max own 1000000000 := by unfold later; rw [if_neg h]
    have hd : decide (old < 1000000000 - b) = false := decide_eq_false h
    simp (maxSteps := 1000000) (disch := first | omega | ((try simp only [bunN]) <;> omega) | fail) only [↓bunD, bunU, ↓bunFD, bunFU, Nat.reduceMul, Nat.reduceEqDiff, Nat.reduceAdd, Nat.reduceBEq, reduceIte, splice_succ, bunAP, hw, hl, hd, Tryz.results29]
end Go.Proofs.G
