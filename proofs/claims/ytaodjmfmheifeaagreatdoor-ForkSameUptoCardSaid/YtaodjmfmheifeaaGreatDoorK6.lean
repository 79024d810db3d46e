/- A part of the proof: a walk of some functions. -/
import Derived.Test.YtaodjmfmheifeaaGreatDoorGSimp
import Derived.Test.YtaodjmfmheifeaaGreatDoorAbE
import Derived.Test.YtaodjmfmheifeaaGreatDoorAbF
set_option linter.unusedSimpArgs false
set_option linter.unusedVariables false
namespace Go.Proofs.G
open Go Go.Ab
set_option maxRecDepth 100000
/-- A choice of a problem. -/
structure Cho where
  lot : Int
  bid : Int
  pr : Int
  pt : Int
def Cho.row (c : Cho) : List Value := [.int .i64 c.lot, .int .i64 c.bid, .int .i64 c.pr, .int .i64 c.pt]
/-- The winners of a take. -/
def win1 (cs : List Cho) (n : Int) : Option (Int × Int × Int) := if 0 ≤ n then (cs[n.toNat]?).map fun c => (c.lot, c.bid, c.pr) else none
def win (cs : List Cho) (take : List Int) : List (Int × Int × Int) := take.filterMap (win1 cs)
def tri (x : Int × Int × Int) : List Value := [.int .i64 x.1, .int .i64 x.2.1, .int .i64 x.2.2]
def four (x : Int × Int × Int) : List Value := [.int .i64 x.1, .int .i64 x.2.1, .int .i64 x.2.2, .int .i64 0]
def Nums (σ : St) (v : Value) (l : List Int) : Prop := SL σ 1 v (l.map fun n => [.int .i64 n])
theorem getmap {α β : Type} {l : List α} {k : Nat} {a : α} (f : α → β) (h : l[k]? = some a) : (l.map f)[k]? = some (f a) := by rw [List.getElem?_map, h]; rfl
theorem SL.use' {α : Type} {σ : St} {size : Nat} {v : Value} {l : List α} {f : α → List Value} (h : SL σ size v (l.map f)) : ∃ a c b off cells, v = .slice a l.length c ∧ (0 < l.length → ∃ sp, a = some ⟨b, off, sp⟩ ∧ b < σ.n ∧ σ.row b = some cells) ∧ ∀ k x, l[k]? = some x → sub cells (off + k * size) size = some (f x) := by
  obtain ⟨a, c, b, off, cells, h1, h2, h3⟩ := SL.use h
  rw [List.length_map] at h1 h2
  exact ⟨a, c, b, off, cells, h1, h2, fun k x hx => h3 k _ (getmap f hx)⟩
theorem win_step {cs : List Cho} {take : List Int} {i : Nat} {n : Int} (h : take[i]? = some n) : win cs (take.take (i + 1)) = win cs (take.take i) ++ (win1 cs n).toList := by
  unfold win
  rw [List.take_add_one, h, List.filterMap_append]
  cases hw : win1 cs n <;> simp [hw]
theorem win_len {cs : List Cho} {take : List Int} : (win cs take).length ≤ take.length := List.length_filterMap_le _ _
theorem bge {n : Int} (h : 0 ≤ n) : decide (n < 0) = false := decide_eq_false (by omega)
theorem blt {n : Int} (h : n < 0) : decide (n < 0) = true := decide_eq_true h
set_option maxHeartbeats 8000000 in
theorem winners_ok {σ : St} {vl vc vr vt vn : Value} {mo bu p bo : Int} {cs : List Cho} {take : List Int} (hc : SL σ 4 vc (cs.map Cho.row)) (ht : Nums σ vt take) (hlc : cs.length ≤ 1000) (hlt : take.length ≤ 1048576) :
    Ev (go Tryz.prog HS (.fn 23) [.agg ⟨[vl, vc, vr, .int .i64 mo, .int .i64 bu]⟩, .agg ⟨[vt, .int .i64 p, .int .i64 bo, vn]⟩] σ) (fun r => ∃ w σ', r = ⟨false, w, σ'⟩ ∧ Ext σ σ' ∧ OL σ.n σ' 3 w ((win cs take).map tri)) ⟨⟩ := by
  refine ev_go Tryz.func23 rfl rfl ?_
  obtain ⟨a, c, b, off, cells, rfl, h1, h2⟩ := SL.use' hc
  obtain ⟨a', c', b', off', cells', rfl, h1', h2'⟩ := SL.use' ht
  simp (maxSteps := 1000000) (disch := first | omega | ((try simp only [bunN]) <;> omega) | fail) only [↓bD, bW, Nat.reduceMul, Nat.reduceEqDiff, Nat.reduceAdd, Nat.reduceBEq, reduceIte]
  refine ev_count take.length (fun i fr σ' => fr.get 12 = some (.int .i64 i) ∧ fr.get 11 = some (.int .i64 take.length) ∧ fr.get 10 = some (.slice a' take.length c') ∧ fr.get 2 = some (ptrTo σ.n) ∧
      Ext ((σ.new [vl, .slice a cs.length c, vr, .int .i64 mo, .int .i64 bu]).new [.slice a' take.length c', .int .i64 p, .int .i64 bo, vn]) σ' ∧ ∃ w, fr.get 5 = some w ∧ OL (σ.n + 2) σ' 3 w ((win cs (take.take i)).map tri))
    (fun r => ∃ fr σ' w, r = ⟨.exit 0, fr, σ'⟩ ∧ fr.get 5 = some w ∧ Ext σ σ' ∧ OL (σ.n + 2) σ' 3 w ((win cs take).map tri)) ?_ ?_ ?_ ?_
  · exact ⟨fR, fR, fR, fR, Ext.refl _, _, fR, .nil⟩
  · rintro i fr σ' hi ⟨g12, g11, g10, g2, hE, w, g5, hw⟩
    have hc1 := lt_true hi
    obtain ⟨n, hn⟩ := at_some hi
    have hE0 : Ext σ σ' := ((Ext.new σ _).trans (.new _ _)).trans hE
    obtain ⟨sp', rfl, hb', hr'⟩ := h1' (by omega)
    have hr' : σ'.row b' = some cells' := by rw [hE0.row hb']; exact hr'
    have hs' : sub cells' (off' + i) 1 = some [.int .i64 n] := by have := h2' i n hn; rwa [Nat.mul_one] at this
    have hn1 := hE.n
    simp only [new_n] at hn1
    have hP : σ'.row σ.n = some [vl, .slice a cs.length c, vr, .int .i64 mo, .int .i64 bu] := by rw [hE.row (by simp; omega)]; exact (row_new_ne (by simp)).trans (row_new_same (by simp) (by simp))
    by_cases h0 : n < 0
    · have hc0 := blt h0
      have hw1 : win1 cs n = none := by unfold win1; rw [if_neg (by omega)]
      simp (maxSteps := 1000000) (disch := first | omega | ((try simp only [bunN]) <;> omega) | fail) only [↓bD, bW, Nat.reduceMul, Nat.reduceEqDiff, Nat.reduceAdd, Nat.reduceBEq, reduceIte, g2, g5, g10, g11, g12, hc1, hr', hs', hc0]
      refine ⟨fR, fR1 g11, fR1 g10, fR1 g2, hE, w, fR1 g5, ?_⟩
      rw [win_step hn, hw1]; simpa using hw
    · obtain ⟨k, rfl⟩ : ∃ k : Nat, n = (k : Int) := ⟨n.toNat, by omega⟩
      have hc0 := bge (n := (k : Int)) (by omega)
      by_cases hk : k < cs.length
      · have hck := lt_true hk
        obtain ⟨x, hx⟩ := at_some hk
        obtain ⟨sp, rfl, hb, hr⟩ := h1 (by omega)
        have hr : σ'.row b = some cells := by rw [hE0.row hb]; exact hr
        have hs := h2 k x hx
        have hw1 : win1 cs (k : Int) = some (x.lot, x.bid, x.pr) := by unfold win1; rw [if_pos (by omega), Int.toNat_natCast, hx]; rfl
        have hxr : x.row = [.int .i64 x.lot, .int .i64 x.bid, .int .i64 x.pr, .int .i64 x.pt] := rfl
        rw [hxr] at hs
        have hlen : ((win cs (take.take i)).map tri).length ≤ 1048576 := by
          rw [List.length_map]
          exact Nat.le_trans win_len (by rw [List.length_take]; omega)
        simp (maxSteps := 1000000) (disch := first | omega | ((try simp only [bunN]) <;> omega) | fail) only [↓bD, bU, Nat.reduceMul, Nat.reduceEqDiff, Nat.reduceAdd, Nat.reduceBEq, reduceIte, splice_succ, ap22, ap33, ap38, ap39, g2, g5, g10, g11, g12, hc1, hr', hs', hc0, hck, hP, hr, hs]
        refine ev_append (lo := σ.n + 2) (fun _ _ _ _ => ap78) (hw.ext ?_) (row_new_same ?_ ?_) (row := tri (x.lot, x.bid, x.pr)) rfl ?_ ?_ ?_
        · exact eX
        · simp
        · simp
        · omega
        · simp; omega
        intro v' σ2 ho hA hne
        have hE2 := App.ext hA (Ext.trans hE (eX)) (hw.ext (eX)) (by simp)
        simp (maxSteps := 1000000) (disch := first | omega | ((try simp only [bunN]) <;> omega) | fail) only [↓bD, bW, Nat.reduceMul, Nat.reduceEqDiff, Nat.reduceAdd, Nat.reduceBEq, reduceIte, g12]
        refine ⟨fR, fR1 g11, fR1 g10, fR1 g2, hE2, v', fR, ?_⟩
        rw [win_step hn, hw1, List.map_append]; exact ho
      · have hck : decide (k < cs.length) = false := decide_eq_false hk
        have hw1 : win1 cs (k : Int) = none := by unfold win1; rw [if_pos (by omega), Int.toNat_natCast, List.getElem?_eq_none (by omega)]; rfl
        simp (maxSteps := 1000000) (disch := first | omega | ((try simp only [bunN]) <;> omega) | fail) only [↓bD, bW, Nat.reduceMul, Nat.reduceEqDiff, Nat.reduceAdd, Nat.reduceBEq, reduceIte, g2, g5, g10, g11, g12, hc1, hr', hs', hc0, hck, hP]
        refine ⟨fR, fR1 g11, fR1 g10, fR1 g2, hE, w, fR1 g5, ?_⟩
        rw [win_step hn, hw1]; simpa using hw
  · rintro fr σ' ⟨g12, g11, g10, g2, hE, w, g5, hw⟩
    simp (maxSteps := 1000000) (disch := first | omega | ((try simp only [bunN]) <;> omega) | fail) only [↓bD, bW, Nat.reduceMul, Nat.reduceEqDiff, Nat.reduceAdd, Nat.reduceBEq, reduceIte, g11, g12]
    refine ⟨_, _, w, rfl, fR1 g5, ((Ext.new σ _).trans (.new _ _)).trans hE, ?_⟩
    rw [List.take_length] at hw
    exact hw
  · rintro r ⟨fr, σ', w, rfl, g5, hE, hw⟩
    simp (maxSteps := 1000000) (disch := first | omega | ((try simp only [bunN]) <;> omega) | fail) only [↓bD, bW, Nat.reduceMul, Nat.reduceEqDiff, Nat.reduceAdd, Nat.reduceBEq, reduceIte, g5, Tryz.results23]
    exact ⟨_, _, rfl, hE, hw.lower (by omega)⟩
set_option maxHeartbeats 8000000 in
theorem rwinners_ok {σ : St} {vl vc vr vt vn : Value} {mo bu p bo : Int} {cs : List Cho} {take : List Int} (hc : SL σ 4 vc (cs.map Cho.row)) (ht : Nums σ vt take) (hlc : cs.length ≤ 1000) (hlt : take.length ≤ 1048576) :
    Ev (go Tryz.prog HS (.fn 24) [.agg ⟨[vl, vc, vr, .int .i64 mo, .int .i64 bu]⟩, .agg ⟨[vt, .int .i64 p, .int .i64 bo, vn]⟩] σ) (fun r => ∃ w σ', r = ⟨false, w, σ'⟩ ∧ Ext σ σ' ∧ OL σ.n σ' 4 w ((win cs take).map four)) ⟨⟩ := by
  refine ev_go Tryz.func24 rfl rfl ?_
  obtain ⟨a, c, b, off, cells, rfl, h1, h2⟩ := SL.use' hc
  obtain ⟨a', c', b', off', cells', rfl, h1', h2'⟩ := SL.use' ht
  simp (maxSteps := 1000000) (disch := first | omega | ((try simp only [bunN]) <;> omega) | fail) only [↓bD, bW, Nat.reduceMul, Nat.reduceEqDiff, Nat.reduceAdd, Nat.reduceBEq, reduceIte]
  refine ev_count take.length (fun i fr σ' => fr.get 6 = some (.int .i64 i) ∧ fr.get 3 = some (ptrTo (σ.n + 1)) ∧ fr.get 2 = some (ptrTo σ.n) ∧
      Ext ((σ.new [vl, .slice a cs.length c, vr, .int .i64 mo, .int .i64 bu]).new [.slice a' take.length c', .int .i64 p, .int .i64 bo, vn]) σ' ∧ ∃ w, fr.get 5 = some w ∧ OL (σ.n + 2) σ' 4 w ((win cs (take.take i)).map four))
    (fun r => ∃ fr σ' w, r = ⟨.exit 0, fr, σ'⟩ ∧ fr.get 5 = some w ∧ Ext σ σ' ∧ OL (σ.n + 2) σ' 4 w ((win cs take).map four)) ?_ ?_ ?_ ?_
  · exact ⟨fR, fR, fR, Ext.refl _, _, fR, .nil⟩
  · rintro i fr σ' hi ⟨g6, g3, g2, hE, w, g5, hw⟩
    have hc1 := lt_true hi
    obtain ⟨n, hn⟩ := at_some hi
    have hE0 : Ext σ σ' := ((Ext.new σ _).trans (.new _ _)).trans hE
    obtain ⟨sp', rfl, hb', hr'⟩ := h1' (by omega)
    have hr' : σ'.row b' = some cells' := by rw [hE0.row hb']; exact hr'
    have hs' : sub cells' (off' + i) 1 = some [.int .i64 n] := by have := h2' i n hn; rwa [Nat.mul_one] at this
    have hn1 := hE.n
    simp only [new_n] at hn1
    have hP : σ'.row σ.n = some [vl, .slice a cs.length c, vr, .int .i64 mo, .int .i64 bu] := by rw [hE.row (by simp; omega)]; exact (row_new_ne (by simp)).trans (row_new_same (by simp) (by simp))
    have hR : σ'.row (σ.n + 1) = some [.slice (some ⟨b', off', sp'⟩) take.length c', .int .i64 p, .int .i64 bo, vn] := by rw [hE.row (by simp)]; exact row_new_same (by simp) (by simp)
    by_cases h0 : n < 0
    · have hc0 := blt h0
      have hw1 : win1 cs n = none := by unfold win1; rw [if_neg (by omega)]
      simp (maxSteps := 1000000) (disch := first | omega | ((try simp only [bunN]) <;> omega) | fail) only [↓bD, bW, Nat.reduceMul, Nat.reduceEqDiff, Nat.reduceAdd, Nat.reduceBEq, reduceIte, g2, g3, g5, g6, hc1, hr', hs', hc0, hR]
      refine ⟨fR, fR1 g3, fR1 g2, hE, w, fR1 g5, ?_⟩
      rw [win_step hn, hw1]; simpa using hw
    · obtain ⟨k, rfl⟩ : ∃ k : Nat, n = (k : Int) := ⟨n.toNat, by omega⟩
      have hc0 := bge (n := (k : Int)) (by omega)
      by_cases hk : k < cs.length
      · have hck := lt_true hk
        obtain ⟨x, hx⟩ := at_some hk
        obtain ⟨sp, rfl, hb, hr⟩ := h1 (by omega)
        have hr : σ'.row b = some cells := by rw [hE0.row hb]; exact hr
        have hs := h2 k x hx
        have hw1 : win1 cs (k : Int) = some (x.lot, x.bid, x.pr) := by unfold win1; rw [if_pos (by omega), Int.toNat_natCast, hx]; rfl
        have hxr : x.row = [.int .i64 x.lot, .int .i64 x.bid, .int .i64 x.pr, .int .i64 x.pt] := rfl
        rw [hxr] at hs
        have s0 : sub cells (off + k * 4) 1 = some [.int .i64 x.lot] := by rw [← Nat.add_zero (off + k * 4), sub_in hs (by omega)]; rfl
        have s1 : sub cells (off + k * 4 + 1) 1 = some [.int .i64 x.bid] := by rw [sub_in hs (by omega)]; rfl
        have s2 : sub cells (off + k * 4 + 2) 1 = some [.int .i64 x.pr] := by rw [sub_in hs (by omega)]; rfl
        have hlen : ((win cs (take.take i)).map four).length ≤ 1048576 := by
          rw [List.length_map]
          exact Nat.le_trans win_len (by rw [List.length_take]; omega)
        simp (maxSteps := 1000000) (disch := first | omega | ((try simp only [bunN]) <;> omega) | fail) only [↓bD, bU, Nat.reduceMul, Nat.reduceEqDiff, Nat.reduceAdd, Nat.reduceBEq, reduceIte, splice_succ, ap22, ap33, ap39, ap78, g2, g3, g5, g6, hc1, hr', hs', hc0, hck, hP, hR, hr, s0, s1, s2]
        refine ev_append (lo := σ.n + 2) (fun _ _ _ _ => ap38) (hw.ext ?_) (row_new_same ?_ ?_) (row := four (x.lot, x.bid, x.pr)) rfl ?_ ?_ ?_
        · exact eX
        · simp
        · simp
        · omega
        · simp; omega
        intro v' σ2 ho hA hne
        have hE2 := App.ext hA (Ext.trans hE (eX)) (hw.ext (eX)) (by simp)
        simp (maxSteps := 1000000) (disch := first | omega | ((try simp only [bunN]) <;> omega) | fail) only [↓bD, bW, Nat.reduceMul, Nat.reduceEqDiff, Nat.reduceAdd, Nat.reduceBEq, reduceIte, g2, g3, g5, g6]
        refine Must.intro (by (repeat first | simp (disch := omega) only [as_read, as_upd, as_newb] | rw [as_ord (by kernel_rfl)]); rfl) ?_
        simp (maxSteps := 1000000) (disch := first | omega | ((try simp only [bunN]) <;> omega) | fail) only [↓bD, bW, Nat.reduceMul, Nat.reduceEqDiff, Nat.reduceAdd, Nat.reduceBEq, reduceIte, g6]
        refine ⟨fR, fR1 g3, fR1 g2, hE2, v', fR, ?_⟩
        rw [win_step hn, hw1, List.map_append]; exact ho
      · have hck : decide (k < cs.length) = false := decide_eq_false hk
        have hw1 : win1 cs (k : Int) = none := by unfold win1; rw [if_pos (by omega), Int.toNat_natCast, List.getElem?_eq_none (by omega)]; rfl
        simp (maxSteps := 1000000) (disch := first | omega | ((try simp only [bunN]) <;> omega) | fail) only [↓bD, bW, Nat.reduceMul, Nat.reduceEqDiff, Nat.reduceAdd, Nat.reduceBEq, reduceIte, g2, g3, g5, g6, hc1, hr', hs', hc0, hck, hP, hR]
        refine ⟨fR, fR1 g3, fR1 g2, hE, w, fR1 g5, ?_⟩
        rw [win_step hn, hw1]; simpa using hw
  · rintro fr σ' ⟨g6, g3, g2, hE, w, g5, hw⟩
    have hR : σ'.row (σ.n + 1) = some [.slice a' take.length c', .int .i64 p, .int .i64 bo, vn] := by rw [hE.row (by simp)]; exact row_new_same (by simp) (by simp)
    simp (maxSteps := 1000000) (disch := first | omega | ((try simp only [bunN]) <;> omega) | fail) only [↓bD, bW, Nat.reduceMul, Nat.reduceEqDiff, Nat.reduceAdd, Nat.reduceBEq, reduceIte, g3, g6, hR]
    refine ⟨_, _, w, rfl, fR1 g5, ((Ext.new σ _).trans (.new _ _)).trans hE, ?_⟩
    rw [List.take_length] at hw
    exact hw
  · rintro r ⟨fr, σ', w, rfl, g5, hE, hw⟩
    simp (maxSteps := 1000000) (disch := first | omega | ((try simp only [bunN]) <;> omega) | fail) only [↓bD, bW, Nat.reduceMul, Nat.reduceEqDiff, Nat.reduceAdd, Nat.reduceBEq, reduceIte, g5, Tryz.results24]
    exact ⟨_, _, rfl, hE, hw.lower (by omega)⟩
end Go.Proofs.G
