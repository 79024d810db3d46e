/- A part of the proof: a walk of some functions. -/
import Derived.Test.YtcjkjjnnicadfaaGreatDoorGC
set_option linter.unusedSimpArgs false
set_option linter.unusedVariables false
namespace Go.Proofs.G
open Go Go.Ab
set_option maxRecDepth 100000
end Go.Proofs.G
namespace Go.Proofs.G
open Go Go.Ab
open Nat (reduceMul reduceEqDiff reduceAdd)
set_option maxRecDepth 100000
def headC : List By := nameC :: (List.range 10).map (fun k => lotC (k : Nat)) ++ names.map critC ++ (List.range 8).map (fun k => reqC (k + 1))
theorem head_all : (headC.all fun c => !fixedC.contains c) = true := by decide
theorem heads_headC {T : Tn} (ok : T.Ok) {c : By} (h : c ∈ heads T) : c ∈ headC := by
 unfold heads at h
 unfold headC
 simp only [List.cons_append, List.mem_cons, List.mem_append, List.mem_map, List.mem_range, or_assoc] at h ⊢
 rcases h with h | ⟨l, hl, rfl⟩ | ⟨x, hx, rfl⟩ | ⟨k, hk, rfl⟩
 ·exact .inl h
 ·have := ok.lot l hl
  exact .inr (.inl ⟨l.id.toNat, by omega, by rw [Int.toNat_of_nonneg this.1]⟩)
 ·exact .inr (.inr (.inl ⟨x.name, (ok.crit x hx).1, rfl⟩))
 ·exact .inr (.inr (.inr ⟨k, by have := ok.reqs; omega, rfl⟩))
def tails (T : Tn) : List By := T.lots.map (fun l => lotC l.id) ++ T.crits.map (fun c => critC c.name) ++ (List.range T.reqs.length).map (fun k => reqC (k + 1))
theorem heads_tails (T : Tn) : heads T = nameC :: tails T := by simp [heads, tails]
def clausesP (T : Tn) : List By := (tails T).foldl addNew [nameC] ++ fixedC
theorem fold_fresh {l : List By} : ∀ {out : List By}, l.Nodup → (∀ c ∈ l, c ∉ out) → l.foldl addNew out = out ++ l := by
 induction l with
 | nil => intro out _ _; simp
 | cons c l ih =>
  intro out hn h
  rw [List.nodup_cons] at hn
  have h1 : addNew out c = out ++ [c] := addNew_no (by simpa using h c (by simp))
  rw [List.foldl_cons, h1, ih hn.2 fun x hx hm => ?_, List.append_assoc]
  ·rfl
  ·rcases List.mem_append.1 hm with hm | hm
   ·exact h x (by simp [hx]) hm
   ·rw [List.mem_singleton] at hm; subst hm; exact hn.1 hx
theorem clauses_same {T : Tn} (ok : T.Ok) : clausesP T = clausesR T := by
 unfold clausesP clausesR
 rw [List.foldl_append, heads_tails, List.foldl_cons, show addNew [] nameC = [nameC] from rfl]
 refine (fold_fresh (l := fixedC) (out := (tails T).foldl addNew [nameC]) (by decide) fun c hc hm => ?_).symm
 have h1 : c ∈ headC := by
  apply heads_headC ok
  rw [heads_tails]
  rcases mem_fold hm with h | h
  ·rw [List.mem_singleton] at h; simp [h]
  ·simp [h]
 have h2 := List.all_eq_true.1 head_all c h1
 simp only [Bool.not_eq_true', List.contains_eq_mem, decide_eq_false_iff_not] at h2
 exact h2 hc
theorem plot_all (σ : St) : (List.range 10).map (fun k => callF Tryz.prog HS (exec Tryz.prog HS 40) (.fn 70) [.int .i64 (k : Nat)] σ) = (List.range 10).map fun k => some ⟨false, str (lotC (k : Nat)), σ⟩ := by kernel_rfl
theorem itoa_all (σ : St) : (List.range 10).map (fun k => callF Tryz.prog HS (exec Tryz.prog HS 40) (.fn 71) [.int .i64 (k : Nat)] σ) = (List.range 10).map fun k => some ⟨false, str (dec (k : Nat)), σ⟩ := by kernel_rfl
theorem plot_ok {σ : St} {n : Int} (h1 : 0 ≤ n) (h2 : n < 10) : Ev (go Tryz.prog HS (.fn 70) [.int .i64 n] σ) (fun r => r = ⟨false, str (lotC n), σ⟩) ⟨⟩ := by
 obtain ⟨k, rfl⟩ : ∃ k : Nat, n = k := ⟨n.toNat, by omega⟩
 exact ⟨_, go_of (List.map_inj_left.1 (plot_all σ) k (by simp; omega)), rfl⟩
theorem itoa_ok {σ : St} {k : Nat} (h : k < 10) : Ev (go Tryz.prog HS (.fn 71) [.int .i64 (k : Nat)] σ) (fun r => r = ⟨false, str (dec (k : Nat)), σ⟩) ⟨⟩ :=
 ⟨_, go_of (List.map_inj_left.1 (itoa_all σ) k (by simp; omega)), rfl⟩
def OutAt (base : St) (p lo : Nat) (σ : St) (l : List By) : Prop := ∃ v, σ.orow p = some [v] ∧ OStrs lo σ v l ∧ blkOf v ≠ some p ∧ p < σ.n ∧ Ext base σ ∧ base.n ≤ p ∧ base.n ≤ lo ∧ lo ≤ σ.n
theorem OutAt.ext {base : St} {p lo : Nat} {σ σ' : St} {l : List By} (h : OutAt base p lo σ l) (hE : Ext σ σ') : OutAt base p lo σ' l := by
 obtain ⟨v, h1, h2, h3, h4, h5, h6, h7, h8⟩ := h
 exact ⟨v, by rw [hE.orow h4]; exact h1, OL.ext h2 hE, h3, Nat.lt_of_lt_of_le h4 hE.n, h5.trans hE, h6, h7, Nat.le_trans h8 hE.n⟩
theorem add_ok {σ base : St} {p lo : Nat} {l : List By} {s : By} (h : OutAt base p lo σ l) (hl : l.length ≤ 100) :
  Ev (go Tryz.prog HS (.fn 69) [str s, .pointer (some ⟨p, 0, none⟩)] σ) (fun r => ∃ σ', r = ⟨false, .tuple ⟨[]⟩, σ'⟩ ∧ OutAt base p lo σ' (addNew l s) ∧ Ext base σ' ∧ σ.n ≤ σ'.n) ⟨⟩ := by
 obtain ⟨v, h1, h2, h3, h4, h5, h6, h7, h8⟩ := h
 have h1' := row_of h1
 refine ev_go Tryz.func69 rfl rfl ?_
 refine gS1 @h1' ?_;try exact ⟨⟩
 refine (contains_strings h2.strs (by omega)).mono ?_
 rintro r rfl
 refine gS1 @h1' ?_;try exact ⟨⟩
 refine Br.intro (fun hd => ?_) (fun hd => ?_)
 ·simp (maxSteps := 1000000) (disch := first | exact dS | fail) only [↓bD, bU, reduceMul, reduceEqDiff, reduceAdd, Nat.reduceBEq, reduceIte, splice_succ, ap22, ap23, ap24, ap25, ap26, ap33, ap34, ap35, ap38, ap49, ap74, h1']
  refine ev_pushA (fun _ _ _ _ => ap41) h2 (.refl _) h8 (by omega) ?_
  rintro v' σ3 hv' hA -
  have hEA : Ext base σ3 := hA.ext h5 h2 h7
  have o3 : σ3.orow p = some [v] := by rw [orow_congr (hA.same p h4 h3)]; exact h1
  have hAn := hA.n
  obtain ⟨hc1, hc2⟩ := cells_strs hv'.strs
  simp (maxSteps := 1000000) (disch := first | exact dS | fail) only [↓bD, bU, reduceMul, reduceEqDiff, reduceAdd, Nat.reduceBEq, reduceIte, splice_succ, ap22, ap23, ap24, ap25, ap26, ap33, ap34, ap35, ap38, ap49, ap74, o3, hc1, hc2, Tryz.results69]
  have hne : blkOf v' ≠ some p := hA.far h4
  refine ⟨_, rfl, ⟨v', cL, ?_, hne, cL, hEA.upd h6 _, h6, h7, by simp; omega⟩, hEA.upd h6 _, by simp; omega⟩
  rw [addNew_no hd]
  exact hv'.keep (by simp) fun b hb => by rw [upd_get, if_neg (fun e => hne (by rw [hb, e]))]
 ·refine gS1 (And.intro @h1' @Tryz.results69) ?_;try exact ⟨⟩
  refine ⟨_, rfl, ⟨v, h1, ?_, h3, h4, h5, h6, h7, h8⟩, h5, Nat.le_refl _⟩
  rw [addNew_yes hd]; exact h2
theorem fold_snoc {α β : Type} (f : β → α → β) {l : List α} {s : β} {a : α} : (l ++ [a]).foldl f s = f (l.foldl f s) a := by simp [List.foldl_append]
def PC (σ : St) (cells : List Value) (fr : Fr) (σ' : St) (l : List By) : Prop :=
 fr.get 1 = some (.pointer (some ⟨σ.n, 0, none⟩)) ∧ fr.get 3 = some (.pointer (some ⟨σ.n + 1 + 1, 0, none⟩)) ∧ fr.get 4 = some (.func (.func 69) #[] #[.pointer (some ⟨σ.n + 1 + 1, 0, none⟩)]) ∧ Ext (σ.new cells) σ' ∧ OutAt (σ.new cells) (σ.n + 1 + 1) (σ.n + 1) σ' l
set_option maxHeartbeats 4000000 in
theorem pclauses_ok {σ : St} {cells : List Value} {T : Tn} (hT : TnAt σ cells T) (ok : T.Ok) : Ev (go Tryz.prog HS (.fn 42) [.agg ⟨cells⟩] σ) (fun r => ∃ v σ', r = ⟨false, v, σ'⟩ ∧ Ext σ σ' ∧ OStrs σ.n σ' v (clausesR T)) ⟨⟩ := by
 obtain ⟨vl, vc, vr, ex, vt, vk, rfl, h2, h3, h4, h5, h6, h7⟩ := hT
 obtain ⟨la, lc, lb, lo, lcs, rfl, l1, l2⟩ := h2.use
 obtain ⟨ca, cc, cb, co, ccs, rfl, k1, k2⟩ := h3.use
 obtain ⟨ra, rc, rb, ro, rcs, rfl, r1, r2⟩ := h4.use
 refine ev_go Tryz.func42 rfl rfl ?_
 generalize hcs : tnRow T.name _ _ _ T.low T.high ex vt T.most vk T.budget T.t = cells
 have c1 : sub cells 1 1 = some [.slice la T.lots.length lc] := by rw [← hcs]; rfl
 have c3 : sub cells 2 1 = some [.slice ca T.crits.length cc] := by rw [← hcs]; rfl
 have c4 : sub cells 3 1 = some [.slice ra T.reqs.length rc] := by rw [← hcs]; rfl
 have ok1 := ok.lots
 have ok2 := ok.crits
 have ok3 := ok.reqs
 have ext1 : Ext σ (σ.new cells) := (Ext.refl _).new' _
 refine gS1 @c1 ?_;try exact ⟨⟩
 refine ev_count T.lots.length (fun k fr σ' => fr.get 15 = some (.int .i64 k) ∧ fr.get 13 = some (.slice la T.lots.length lc) ∧ fr.get 14 = some (.int .i64 T.lots.length) ∧ PC σ cells fr σ' (((T.lots.take k).map fun l => lotC l.id).foldl addNew [nameC]))
  (fun r => ∃ fr σ', r = ⟨.exit 0, fr, σ'⟩ ∧ PC σ cells fr σ' ((T.lots.map fun l => lotC l.id).foldl addNew [nameC])) ?_ ?_ ?_ ?_
 ·refine ⟨fR, fR, fR, fR, fR, fR, eX, .slice (some ⟨σ.n + 1, 0, none⟩) 1 1, cL, OL.mk (b := σ.n + 1) rfl rfl (by simp) (.inl rfl) (Nat.le_refl _) (by simp) (cL), by simp [blkOf], by simp, eX, by simp, by simp, by simp⟩
 ·rintro k fr σ' hk ⟨g15, g13, g14, g1, g3, g4, hE, hO⟩
  have hc := lt_true hk
  obtain ⟨a, ha⟩ := at_some hk
  obtain ⟨sp, rfl, l3, l4⟩ := l1 (by omega)
  have l5 : σ'.row lb = some lcs := by rw [hE.row (by simp; omega), row_new_ne (by omega)]; exact l4
  obtain ⟨l7, -⟩ := l2 k a ha
  have oka := ok.lot a (List.mem_of_getElem? ha)
  have hEn := hE.n
  have hrl : a.row.length = 2 := rfl
  have q0 : a.row = [.int .i64 a.id, .int .i64 a.most] := rfl
  refine gS1 (And.intro @g1 (And.intro @g3 (And.intro @g4 (And.intro @g13 (And.intro @g14 (And.intro @g15 (And.intro @hc (And.intro @l5 (And.intro @l7 (And.intro @hrl @q0)))))))))) ?_;try exact ⟨⟩
  refine (plot_ok oka.1 oka.2.1).mono ?_
  rintro r rfl
  refine gS1 (And.intro @g1 (And.intro @g3 (And.intro @g4 (And.intro @g13 (And.intro @g14 @g15))))) ?_;try exact ⟨⟩
  refine (add_ok (hO.ext (eX)) ?_).mono ?_
  ·have := fold_len ((T.lots.take k).map fun l => lotC l.id) [nameC]
   simp only [List.length_map, List.length_take, List.length_range, List.length_cons, List.length_nil] at this; omega
  rintro r ⟨σ3, rfl, hO3, hE3, hn3⟩
  refine gS1 (And.intro @g1 (And.intro @g3 (And.intro @g4 (And.intro @g13 (And.intro @g14 @g15))))) ?_;try exact ⟨⟩
  refine ⟨fR, fR1 g13, fR1 g14, fR1 g1, fR1 g3, fR1 g4, hE3, ?_⟩
  rw [take_map _ ha, fold_snoc]; exact hO3
 ·rintro fr σ' ⟨g15, g13, g14, g1, g3, g4, hE, hO⟩
  rw [List.take_length] at hO
  refine gS1 (And.intro @g13 (And.intro @g14 @g15)) ?_;try exact ⟨⟩
  exact ⟨_, _, rfl, fR1 g1, fR1 g3, fR1 g4, hE, hO⟩
 rintro r ⟨fr, σ', rfl, g1, g3, g4, hE, hO⟩
 have w1 : σ'.row σ.n = some cells := by rw [hE.row (by simp)]; exact cL
 refine gS1 (And.intro @g1 (And.intro @w1 @c3)) ?_;try exact ⟨⟩
 generalize hl0 : (T.lots.map fun l => lotC l.id).foldl addNew [nameC] = l0 at *
 have hl0n : l0.length ≤ 17 := by
  have := fold_len (T.lots.map fun l => lotC l.id) [nameC]
  rw [hl0] at this; simp at this; omega
 refine ev_count T.crits.length (fun k fr σ' => fr.get 28 = some (.int .i64 k) ∧ fr.get 26 = some (.slice ca T.crits.length cc) ∧ fr.get 27 = some (.int .i64 T.crits.length) ∧ PC σ cells fr σ' (((T.crits.take k).map fun c => critC c.name).foldl addNew l0))
  (fun r => ∃ fr σ', r = ⟨.exit 2, fr, σ'⟩ ∧ PC σ cells fr σ' ((T.crits.map fun c => critC c.name).foldl addNew l0)) ?_ ?_ ?_ ?_
 ·exact ⟨fR, fR, fR, fR1 g1, fR1 g3, fR1 g4, hE, hO⟩
 ·clear w1 hO hE g1 g3 g4 fr σ'
  rintro k fr σ' hk ⟨g15, g13, g14, g1, g3, g4, hE, hO⟩
  have hc := lt_true hk
  obtain ⟨a, ha⟩ := at_some hk
  obtain ⟨sp, rfl, l3, l4⟩ := k1 (by omega)
  have l5 : σ'.row cb = some ccs := by rw [hE.row (by simp; omega), row_new_ne (by omega)]; exact l4
  obtain ⟨l7, -⟩ := k2 k a ha
  have hnl := names_len (ok.crit a (List.mem_of_getElem? ha)).1
  have hEn := hE.n
  have hrl : a.row.length = 5 := rfl
  have q0 : a.row = [str a.name, .int .i64 a.kind, .int .i64 a.low, .int .i64 a.high, .bool a.less] := rfl
  refine gS1 (And.intro @g1 (And.intro @g3 (And.intro @g4 (And.intro @g13 (And.intro @g14 (And.intro @g15 (And.intro @hc (And.intro @l5 (And.intro @l7 (And.intro @hrl @q0)))))))))) ?_;try exact ⟨⟩
  refine (add_ok (hO.ext (eX)) ?_).mono ?_
  ·have := fold_len ((T.crits.take k).map fun c => critC c.name) l0
   simp only [List.length_map, List.length_take, List.length_range, List.length_cons, List.length_nil] at this; omega
  rintro r ⟨σ3, rfl, hO3, hE3, hn3⟩
  refine gS1 (And.intro @g1 (And.intro @g3 (And.intro @g4 (And.intro @g13 (And.intro @g14 @g15))))) ?_;try exact ⟨⟩
  refine ⟨fR, fR1 g13, fR1 g14, fR1 g1, fR1 g3, fR1 g4, hE3, ?_⟩
  rw [take_map _ ha, fold_snoc]; exact hO3
 ·clear w1 hO hE g1 g3 g4 fr σ'
  rintro fr σ' ⟨g15, g13, g14, g1, g3, g4, hE, hO⟩
  rw [List.take_length] at hO
  refine gS1 (And.intro @g13 (And.intro @g14 @g15)) ?_;try exact ⟨⟩
  exact ⟨_, _, rfl, fR1 g1, fR1 g3, fR1 g4, hE, hO⟩
 clear w1 hO hE g1 g3 g4 fr σ'
 rintro r ⟨fr, σ', rfl, g1, g3, g4, hE, hO⟩
 have w1 : σ'.row σ.n = some cells := by rw [hE.row (by simp)]; exact cL
 refine gS1 (And.intro @g1 (And.intro @w1 @c4)) ?_;try exact ⟨⟩
 generalize hl1 : (T.crits.map fun c => critC c.name).foldl addNew l0 = l1' at *
 have hl1n : l1'.length ≤ 33 := by
  have := fold_len (T.crits.map fun c => critC c.name) l0
  rw [hl1] at this; simp at this; omega
 refine ev_count T.reqs.length (fun k fr σ' => fr.get 41 = some (.int .i64 k) ∧ fr.get 40 = some (.int .i64 T.reqs.length) ∧ PC σ cells fr σ' (((List.range k).map fun k => reqC (k + 1)).foldl addNew l1'))
  (fun r => ∃ fr σ', r = ⟨.exit 4, fr, σ'⟩ ∧ PC σ cells fr σ' ((tails T).foldl addNew [nameC])) ?_ ?_ ?_ ?_
 ·exact ⟨fR, fR, fR1 g1, fR1 g3, fR1 g4, hE, hO⟩
 ·clear w1 hO hE g1 g3 g4 fr σ'
  rintro k fr σ' hk ⟨g15, g14, g1, g3, g4, hE, hO⟩
  have hc := lt_true hk
  have hEn := hE.n
  have hdl := dec_len (n := ((k + 1 : Nat) : Int)) (by omega) (by omega)
  refine gS1 (And.intro @g1 (And.intro @g3 (And.intro @g4 (And.intro @g14 (And.intro @g15 @hc))))) ?_;try exact ⟨⟩
  refine (itoa_ok (k := k + 1) (by omega)).mono ?_
  rintro r rfl
  refine gS1 (And.intro @g1 (And.intro @g3 (And.intro @g4 (And.intro @g14 @g15)))) ?_;try exact ⟨⟩
  refine (add_ok hO ?_).mono ?_
  ·have := fold_len ((List.range k).map fun k => reqC (k + 1)) l1'
   simp only [List.length_map, List.length_take, List.length_range, List.length_cons, List.length_nil] at this; omega
  rintro r ⟨σ3, rfl, hO3, hE3, hn3⟩
  refine gS1 (And.intro @g1 (And.intro @g3 (And.intro @g4 (And.intro @g14 @g15)))) ?_;try exact ⟨⟩
  refine ⟨fR, fR1 g14, fR1 g1, fR1 g3, fR1 g4, hE3, ?_⟩
  rw [List.range_succ, List.map_append, List.map_cons, List.map_nil, fold_snoc]; exact hO3
 ·clear w1 hO hE g1 g3 g4 fr σ'
  rintro fr σ' ⟨g15, g14, g1, g3, g4, hE, hO⟩
  refine gS1 (And.intro @g14 @g15) ?_;try exact ⟨⟩
  refine ⟨_, _, rfl, fR1 g1, fR1 g3, fR1 g4, hE, ?_⟩
  unfold tails
  rw [List.foldl_append, List.foldl_append, hl0, hl1]; exact hO
 clear w1 hO hE g1 g3 g4 fr σ'
 rintro r ⟨fr, σ', rfl, g1, g3, g4, hE, v, o1, o2, o3, o4, o5, o6, o7, o8⟩
 have o1' := row_of o1
 have hln : ((tails T).foldl addNew [nameC]).length ≤ 41 := by
  have := fold_len (tails T) [nameC]
  simp [tails] at this ⊢; omega
 simp (maxSteps := 1000000) (disch := first | exact dS | fail) only [↓bD, bU, reduceMul, reduceEqDiff, reduceAdd, Nat.reduceBEq, reduceIte, splice_succ, ap22, ap23, ap24, ap25, ap26, ap33, ap34, ap35, ap38, ap49, ap74, g3, o1']
 refine ev_pushs (l2 := fixedC) (fun _ _ _ _ => ap41) rfl rfl (by omega) o2 hE (.refl _) (by simp) o8 (by omega) ?_
 rintro v' σ3 hv hE3 hn3 -
 simp (maxSteps := 1000000) (disch := first | exact dS | fail) only [↓bD, bU, reduceMul, reduceEqDiff, reduceAdd, Nat.reduceBEq, reduceIte, splice_succ, ap22, ap23, ap24, ap25, ap26, ap33, ap34, ap35, ap38, ap49, ap74, Tryz.results42]
 refine ⟨v', σ3, rfl, ext1.trans hE3, ?_⟩
 rw [← clauses_same ok]
 exact hv.lower (by omega)
end Go.Proofs.G
namespace Go.Proofs.G
open Go Go.Ab
open Nat (reduceMul reduceEqDiff reduceAdd)
set_option maxRecDepth 100000
theorem Lots.mono {σ σ' : St} {v : Value} {l : List Lot} (h : Lots σ v l) (hE : Ext σ σ') : Lots σ' v l := SL.mono h hE
theorem Crits.mono {σ σ' : St} {v : Value} {l : List Crit} (h : Crits σ v l) (hE : Ext σ σ') : Crits σ' v l := SL.mono h hE
theorem Reqs.mono {σ σ' : St} {v : Value} {l : List Req} (h : Reqs σ v l) (hE : Ext σ σ') : Reqs σ' v l := SL.mono h hE
theorem index_Lot_ok {σ : St} {v : Value} {l : List Lot} {g : Nat} {cs : List Value} {p : Lot → Bool} (hl : Lots σ v l) (hn : l.length ≤ 100)
  (hf : ∀ x ∈ l, ∀ σ', Ext σ σ' → Ev (go Tryz.prog HS (.fn g) (.agg ⟨x.row⟩ :: cs) σ') (fun r => ∃ σ2, r = ⟨false, .bool (p x), σ2⟩ ∧ Ext σ' σ2) ⟨⟩) :
  Ev (go Tryz.prog HS (.fn 109) [v, .func (.func g) ⟨[]⟩ ⟨cs⟩] σ) (fun r => ∃ σ2, Ext σ σ2 ∧ ((r = ⟨false, .int .i64 (-1), σ2⟩ ∧ l.find? p = none) ∨ ∃ (k : Nat) (a : Lot), r = ⟨false, .int .i64 k, σ2⟩ ∧ l[k]? = some a ∧ l.find? p = some a)) ⟨⟩ := by
 obtain ⟨a, c, b, off, cells, rfl, h1, h2⟩ := hl.use
 refine ev_go Tryz.func109 rfl rfl ?_
 refine gS ?_;try exact ⟨⟩
 refine ev_count l.length (fun k fr σ' => fr.get 8 = some (.int .i64 k) ∧ fr.get 7 = some (.int .i64 l.length) ∧ fr.get 0 = some (.slice a l.length c) ∧ fr.get 1 = some (.func (.func g) ⟨[]⟩ ⟨cs⟩) ∧ Ext σ σ' ∧ ∀ (i : Nat) (x : Lot), i < k → l[i]? = some x → p x = false)
  (fun r => (∃ fr σ', r = ⟨.exit 0, fr, σ'⟩ ∧ Ext σ σ' ∧ l.find? p = none) ∨ (∃ fr σ' k x, r = ⟨.ret, fr, σ'⟩ ∧ Ext σ σ' ∧ fr.get 4 = some (.int .i64 (k : Nat)) ∧ l[k]? = some x ∧ l.find? p = some x)) ?_ ?_ ?_ ?_
 ·refine ⟨fR, fR, fR, fR, .refl _, fun i x h => by omega⟩
 ·rintro k fr σ' hk ⟨g8, g7, g0, g1, hE, hm⟩
  have hc := lt_true hk
  obtain ⟨x, hx⟩ := at_some hk
  obtain ⟨sp, rfl, l3, l4⟩ := h1 (by omega)
  have l5 : σ'.row b = some cells := by rw [hE.row l3]; exact l4
  obtain ⟨l7, -⟩ := h2 k x hx
  have hrl : x.row.length = 2 := rfl
  refine gS1 (And.intro @g0 (And.intro @g1 (And.intro @g7 (And.intro @g8 (And.intro @hc (And.intro @l5 (And.intro @l7 @hrl))))))) ?_;try exact ⟨⟩
  refine (hf x (List.mem_of_getElem? hx) σ' hE).mono ?_
  rintro r ⟨σ2, rfl, hE2⟩
  refine gS1 (And.intro @g0 (And.intro @g1 (And.intro @g7 @g8))) ?_;try exact ⟨⟩
  cases hp : p x with
  | true =>
   refine gS1 (And.intro @g0 (And.intro @g1 (And.intro @g7 @g8))) ?_;try exact ⟨⟩
   exact .inr ⟨_, _, k, x, rfl, hE.trans hE2, fR, hx, find_at hx hp hm⟩
  | false =>
   refine gS1 (And.intro @g0 (And.intro @g1 (And.intro @g7 @g8))) ?_;try exact ⟨⟩
   refine ⟨fR, fR1 g7, fR1 g0, fR1 g1, hE.trans hE2, fun i y hi hy => ?_⟩
   by_cases e : i = k
   ·subst e; rw [hx] at hy; cases hy; exact hp
   ·exact hm i y (by omega) hy
 ·rintro fr σ' ⟨g8, g7, g0, g1, hE, hm⟩
  refine gS1 (And.intro @g7 @g8) ?_;try exact ⟨⟩
  exact .inl ⟨_, _, rfl, hE, find_no fun i x hx => hm i x (List.getElem?_eq_some_iff.1 hx).1 hx⟩
 rintro r (⟨fr, σ', rfl, hE, hq⟩ | ⟨fr, σ', k, x, rfl, hE, g4, hx, hq⟩)
 ·refine gS1 @Tryz.results109 ?_;try exact ⟨⟩
  exact ⟨_, hE, .inl ⟨rfl, hq⟩⟩
 ·refine gS1 (And.intro @Tryz.results109 @g4) ?_;try exact ⟨⟩
  exact ⟨_, hE, .inr ⟨k, x, rfl, hx, hq⟩⟩
def zeroLot : Lot := ⟨0, 0⟩
theorem find_Lot_ok {σ : St} {v : Value} {l : List Lot} {g : Nat} {cs : List Value} {p : Lot → Bool} (hl : Lots σ v l) (hn : l.length ≤ 100)
  (hf : ∀ x ∈ l, ∀ σ', Ext σ σ' → Ev (go Tryz.prog HS (.fn g) (.agg ⟨x.row⟩ :: cs) σ') (fun r => ∃ σ2, r = ⟨false, .bool (p x), σ2⟩ ∧ Ext σ' σ2) ⟨⟩) :
  Ev (go Tryz.prog HS (.fn 77) [v, .func (.func g) ⟨[]⟩ ⟨cs⟩] σ) (fun r => ∃ σ2 ok, r = ⟨false, .tuple ⟨[.agg ⟨((l.find? p).getD zeroLot).row⟩, .bool ok]⟩, σ2⟩ ∧ Ext σ σ2) ⟨⟩ := by
 have hl' := hl
 obtain ⟨a, c, b, off, cells, rfl, h1, h2⟩ := hl.use
 refine ev_go Tryz.func77 rfl rfl ?_
 have hz : zeroLot.row = [.int .i64 0, .int .i64 0] := rfl
 refine gS ?_;try exact ⟨⟩
 refine (index_Lot_ok (p := p) (hl'.mono (eX)) hn fun x hx σ' hE => hf x hx σ' (Ext.trans (eX) hE)).mono ?_
 rintro r ⟨σ2, hE2, ⟨rfl, hq⟩ | ⟨k, x, rfl, hx, hq⟩⟩
 ·have o1 : σ2.orow σ.n = some [.int .i64 0, .int .i64 0] := by rw [hE2.orow (cL)]; exact cL
  have o2 := row_of o1
  have n2 := hE2.n
  have hd : decide ((-1 : Int) < 0) = true := rfl
  have e0 : Ext σ σ2 := Ext.trans (eX) hE2
  rw [hq, Option.getD_none, hz]
  refine gS1 (And.intro @o1 (And.intro @o2 (And.intro @hd @Tryz.results77))) ?_;try exact ⟨⟩
  exact ⟨_, _, rfl, eX⟩
 ·have o1 : σ2.orow σ.n = some [.int .i64 0, .int .i64 0] := by rw [hE2.orow (cL)]; exact cL
  have hk : k < l.length := (List.getElem?_eq_some_iff.1 hx).1
  obtain ⟨sp, rfl, l3, l4⟩ := h1 (by omega)
  have e0 : Ext σ σ2 := Ext.trans (eX) hE2
  have l5 : σ2.row b = some cells := by rw [e0.row l3]; exact l4
  obtain ⟨l7, -⟩ := h2 k x hx
  have hrl : x.row.length = 2 := rfl
  have hd : decide ((k : Int) < 0) = false := by simp
  rw [hq, Option.getD_some]
  refine gS1 (And.intro @o1 (And.intro @l5 (And.intro @l7 (And.intro @hd (And.intro @hrl @Tryz.results77))))) ?_;try exact ⟨⟩
  exact ⟨_, _, rfl, eX⟩
theorem index_Crit_ok {σ : St} {v : Value} {l : List Crit} {g : Nat} {cs : List Value} {p : Crit → Bool} (hl : Crits σ v l) (hn : l.length ≤ 100)
  (hf : ∀ x ∈ l, ∀ σ', Ext σ σ' → Ev (go Tryz.prog HS (.fn g) (.agg ⟨x.row⟩ :: cs) σ') (fun r => ∃ σ2, r = ⟨false, .bool (p x), σ2⟩ ∧ Ext σ' σ2) ⟨⟩) :
  Ev (go Tryz.prog HS (.fn 110) [v, .func (.func g) ⟨[]⟩ ⟨cs⟩] σ) (fun r => ∃ σ2, Ext σ σ2 ∧ ((r = ⟨false, .int .i64 (-1), σ2⟩ ∧ l.find? p = none) ∨ ∃ (k : Nat) (a : Crit), r = ⟨false, .int .i64 k, σ2⟩ ∧ l[k]? = some a ∧ l.find? p = some a)) ⟨⟩ := by
 obtain ⟨a, c, b, off, cells, rfl, h1, h2⟩ := hl.use
 refine ev_go Tryz.func110 rfl rfl ?_
 refine gS ?_;try exact ⟨⟩
 refine ev_count l.length (fun k fr σ' => fr.get 8 = some (.int .i64 k) ∧ fr.get 7 = some (.int .i64 l.length) ∧ fr.get 0 = some (.slice a l.length c) ∧ fr.get 1 = some (.func (.func g) ⟨[]⟩ ⟨cs⟩) ∧ Ext σ σ' ∧ ∀ (i : Nat) (x : Crit), i < k → l[i]? = some x → p x = false)
  (fun r => (∃ fr σ', r = ⟨.exit 0, fr, σ'⟩ ∧ Ext σ σ' ∧ l.find? p = none) ∨ (∃ fr σ' k x, r = ⟨.ret, fr, σ'⟩ ∧ Ext σ σ' ∧ fr.get 4 = some (.int .i64 (k : Nat)) ∧ l[k]? = some x ∧ l.find? p = some x)) ?_ ?_ ?_ ?_
 ·refine ⟨fR, fR, fR, fR, .refl _, fun i x h => by omega⟩
 ·rintro k fr σ' hk ⟨g8, g7, g0, g1, hE, hm⟩
  have hc := lt_true hk
  obtain ⟨x, hx⟩ := at_some hk
  obtain ⟨sp, rfl, l3, l4⟩ := h1 (by omega)
  have l5 : σ'.row b = some cells := by rw [hE.row l3]; exact l4
  obtain ⟨l7, -⟩ := h2 k x hx
  have hrl : x.row.length = 5 := rfl
  refine gS1 (And.intro @g0 (And.intro @g1 (And.intro @g7 (And.intro @g8 (And.intro @hc (And.intro @l5 (And.intro @l7 @hrl))))))) ?_;try exact ⟨⟩
  refine (hf x (List.mem_of_getElem? hx) σ' hE).mono ?_
  rintro r ⟨σ2, rfl, hE2⟩
  refine gS1 (And.intro @g0 (And.intro @g1 (And.intro @g7 @g8))) ?_;try exact ⟨⟩
  cases hp : p x with
  | true =>
   refine gS1 (And.intro @g0 (And.intro @g1 (And.intro @g7 @g8))) ?_;try exact ⟨⟩
   exact .inr ⟨_, _, k, x, rfl, hE.trans hE2, fR, hx, find_at hx hp hm⟩
  | false =>
   refine gS1 (And.intro @g0 (And.intro @g1 (And.intro @g7 @g8))) ?_;try exact ⟨⟩
   refine ⟨fR, fR1 g7, fR1 g0, fR1 g1, hE.trans hE2, fun i y hi hy => ?_⟩
   by_cases e : i = k
   ·subst e; rw [hx] at hy; cases hy; exact hp
   ·exact hm i y (by omega) hy
 ·rintro fr σ' ⟨g8, g7, g0, g1, hE, hm⟩
  refine gS1 (And.intro @g7 @g8) ?_;try exact ⟨⟩
  exact .inl ⟨_, _, rfl, hE, find_no fun i x hx => hm i x (List.getElem?_eq_some_iff.1 hx).1 hx⟩
 rintro r (⟨fr, σ', rfl, hE, hq⟩ | ⟨fr, σ', k, x, rfl, hE, g4, hx, hq⟩)
 ·refine gS1 @Tryz.results110 ?_;try exact ⟨⟩
  exact ⟨_, hE, .inl ⟨rfl, hq⟩⟩
 ·refine gS1 (And.intro @Tryz.results110 @g4) ?_;try exact ⟨⟩
  exact ⟨_, hE, .inr ⟨k, x, rfl, hx, hq⟩⟩
def zeroCrit : Crit := ⟨[], 0, 0, 0, false⟩
theorem find_Crit_ok {σ : St} {v : Value} {l : List Crit} {g : Nat} {cs : List Value} {p : Crit → Bool} (hl : Crits σ v l) (hn : l.length ≤ 100)
  (hf : ∀ x ∈ l, ∀ σ', Ext σ σ' → Ev (go Tryz.prog HS (.fn g) (.agg ⟨x.row⟩ :: cs) σ') (fun r => ∃ σ2, r = ⟨false, .bool (p x), σ2⟩ ∧ Ext σ' σ2) ⟨⟩) :
  Ev (go Tryz.prog HS (.fn 79) [v, .func (.func g) ⟨[]⟩ ⟨cs⟩] σ) (fun r => ∃ σ2 ok, r = ⟨false, .tuple ⟨[.agg ⟨((l.find? p).getD zeroCrit).row⟩, .bool ok]⟩, σ2⟩ ∧ Ext σ σ2) ⟨⟩ := by
 have hl' := hl
 obtain ⟨a, c, b, off, cells, rfl, h1, h2⟩ := hl.use
 refine ev_go Tryz.func79 rfl rfl ?_
 have hz : zeroCrit.row = [str [], .int .i64 0, .int .i64 0, .int .i64 0, .bool false] := rfl
 refine gS ?_;try exact ⟨⟩
 refine (index_Crit_ok (p := p) (hl'.mono (eX)) hn fun x hx σ' hE => hf x hx σ' (Ext.trans (eX) hE)).mono ?_
 rintro r ⟨σ2, hE2, ⟨rfl, hq⟩ | ⟨k, x, rfl, hx, hq⟩⟩
 ·have o1 : σ2.orow σ.n = some [str [], .int .i64 0, .int .i64 0, .int .i64 0, .bool false] := by rw [hE2.orow (cL)]; exact cL
  have o2 := row_of o1
  have n2 := hE2.n
  have hd : decide ((-1 : Int) < 0) = true := rfl
  have e0 : Ext σ σ2 := Ext.trans (eX) hE2
  rw [hq, Option.getD_none, hz]
  refine gS1 (And.intro @o1 (And.intro @o2 (And.intro @hd @Tryz.results79))) ?_;try exact ⟨⟩
  exact ⟨_, _, rfl, eX⟩
 ·have o1 : σ2.orow σ.n = some [str [], .int .i64 0, .int .i64 0, .int .i64 0, .bool false] := by rw [hE2.orow (cL)]; exact cL
  have hk : k < l.length := (List.getElem?_eq_some_iff.1 hx).1
  obtain ⟨sp, rfl, l3, l4⟩ := h1 (by omega)
  have e0 : Ext σ σ2 := Ext.trans (eX) hE2
  have l5 : σ2.row b = some cells := by rw [e0.row l3]; exact l4
  obtain ⟨l7, -⟩ := h2 k x hx
  have hrl : x.row.length = 5 := rfl
  have hd : decide ((k : Int) < 0) = false := by simp
  rw [hq, Option.getD_some]
  refine gS1 (And.intro @o1 (And.intro @l5 (And.intro @l7 (And.intro @hd (And.intro @hrl @Tryz.results79))))) ?_;try exact ⟨⟩
  exact ⟨_, _, rfl, eX⟩
end Go.Proofs.G
namespace Go.Proofs.G
open Go Go.Ab
open Nat (reduceMul reduceEqDiff reduceAdd)
set_option maxRecDepth 100000
set_option maxHeartbeats 4000000 in
theorem eqfx_ok {σ : St} {v w : Value} {rows rows' : List (List Value)} {es fs : List Ex} {g : Nat} (h2 : SL σ 5 v rows) (h3 : ExsAt σ rows es) (h2' : SL σ 5 w rows') (h3' : ExsAt σ rows' fs) (hl : es.length ≤ 4) (hl' : fs.length ≤ 4)
  (hf : ∀ a b, a ∈ es → ∀ ra rb σ', Ext σ σ' → ExAt σ' ra a → ExAt σ' rb b → Ev (go Tryz.prog HS (.fn g) [.agg ⟨ra⟩, .agg ⟨rb⟩] σ') (fun r => ∃ σ2, r = ⟨false, .bool (exEqb a b), σ2⟩ ∧ Ext σ' σ2) ⟨⟩) :
  Ev (go Tryz.prog HS (.fn 81) [v, w, .func (.func g) ⟨[]⟩ ⟨[]⟩] σ) (fun r => ∃ σ2, r = ⟨false, .bool (exsEqb es fs), σ2⟩ ∧ Ext σ σ2) ⟨⟩ := by
 obtain ⟨sa, sc, sb, so, scs, rfl, s1, s2⟩ := ExsAt.slice h2 h3
 obtain ⟨sa', sc', sb', so', scs', rfl, s1', s2'⟩ := ExsAt.slice h2' h3'
 refine ev_go Tryz.func81 rfl rfl ?_
 by_cases hlen : es.length = fs.length
 ·have hd4 : decide ((es.length : Int) = (fs.length : Int)) = true := by simp [hlen]
  refine gS1 @hd4 ?_;try exact ⟨⟩
  refine ev_count es.length (fun k fr σ' => fr.get 17 = some (.int .i64 k) ∧ fr.get 16 = some (.int .i64 es.length) ∧ fr.get 15 = some (.slice sa es.length sc) ∧ fr.get 1 = some (.slice sa' fs.length sc') ∧ fr.get 2 = some (.func (.func g) ⟨[]⟩ ⟨[]⟩) ∧ Ext σ σ' ∧ (∀ i a b, i < k → es[i]? = some a → fs[i]? = some b → exEqb a b = true))
   (fun r => (∃ fr σ', r = ⟨.exit 0, fr, σ'⟩ ∧ Ext σ σ' ∧ exsEqb es fs = true) ∨ (∃ fr σ', r = ⟨.ret, fr, σ'⟩ ∧ Ext σ σ' ∧ fr.get 6 = some (.bool false) ∧ exsEqb es fs = false)) ?_ ?_ ?_ ?_
  ·exact ⟨fR, fR, fR, fR, fR, .refl _, fun i a b h => by omega⟩
  ·rintro k fr σ' hk ⟨g17, g16, g15, g1, g2, hE, hm⟩
   have hc := lt_true hk
   have hc' : k < fs.length := by omega
   obtain ⟨x, hx⟩ := at_some hk
   obtain ⟨y, hy⟩ := at_some hc'
   obtain ⟨rx, hrx, hex⟩ := s2 k x hx
   obtain ⟨ry, hry, hey⟩ := s2' k y hy
   obtain ⟨sp, rfl, l3, l4⟩ := s1 (by omega)
   obtain ⟨sp', rfl, l3', l4'⟩ := s1' (by omega)
   have r1 : σ'.row sb = some scs := by rw [hE.row l3]; exact l4
   have r2 : σ'.row sb' = some scs' := by rw [hE.row l3']; exact l4'
   have hrl : rx.length = 5 := hex.len
   have hrl' : ry.length = 5 := hey.len
   have hEn := hE.n
   have t1 : sub rx 0 5 = some rx := sub_full (by omega) (by omega)
   have t2 : sub ry 0 5 = some ry := sub_full (by omega) (by omega)
   have w1 : ∀ l : List Value, l.length = 5 → splice l 0 rx = some rx := fun l h => splice_full (by omega) (by omega)
   have w2 : ∀ l : List Value, l.length = 5 → splice l 0 ry = some ry := fun l h => splice_full (by omega) (by omega)
   refine gS1 (And.intro @g1 (And.intro @g2 (And.intro @g15 (And.intro @g16 (And.intro @g17 (And.intro @hc (And.intro @r1 (And.intro @r2 (And.intro @hrx (And.intro @hry (And.intro @hrl (And.intro @hrl' (And.intro @t1 @t2))))))))))))) ?_;try exact ⟨⟩
   refine (hf x y (List.mem_of_getElem? hx) rx ry _ ?_ ?_ ?_).mono ?_
   ·exact eX
   ·exact hex.mono (eX)
   ·exact hey.mono (eX)
   rintro r ⟨σ2, rfl, hE2⟩
   have hE3 : Ext σ σ2 := Ext.trans (eX) hE2
   refine gS1 (And.intro @g1 (And.intro @g2 (And.intro @g15 (And.intro @g16 @g17)))) ?_;try exact ⟨⟩
   cases hq : exEqb x y with
   | true =>
    refine gS1 (And.intro @g1 (And.intro @g2 (And.intro @g15 (And.intro @g16 @g17)))) ?_;try exact ⟨⟩
    refine ⟨fR, fR1 g16, fR1 g15, fR1 g1, fR1 g2, hE3, fun i a b hi ha hb => ?_⟩
    by_cases e : i = k
    ·subst e; rw [hx] at ha; rw [hy] at hb; cases ha; cases hb; exact hq
    ·exact hm i a b (by omega) ha hb
   | false =>
    refine gS1 (And.intro @g1 (And.intro @g2 (And.intro @g15 (And.intro @g16 @g17)))) ?_;try exact ⟨⟩
    exact .inr ⟨_, _, rfl, hE3, fR, exsEqb_take hlen hx hy hq⟩
  ·rintro fr σ' ⟨g17, g16, g15, g1, g2, hE, hm⟩
   refine gS1 (And.intro @g16 @g17) ?_;try exact ⟨⟩
   exact .inl ⟨_, _, rfl, hE, exsEqb_all hlen fun k a b ha hb => hm k a b (List.getElem?_eq_some_iff.1 ha).1 ha hb⟩
  ·rintro r (⟨fr, σ', rfl, hE, hq⟩ | ⟨fr, σ', rfl, hE, g4, hq⟩)
   ·simp (maxSteps := 1000000) (disch := first | exact dS | fail) only [↓bD, bW, reduceMul, reduceEqDiff, reduceAdd, Nat.reduceBEq, reduceIte, Tryz.results81]; rw [hq]; exact ⟨_, rfl, hE⟩
   ·simp (maxSteps := 1000000) (disch := first | exact dS | fail) only [↓bD, bW, reduceMul, reduceEqDiff, reduceAdd, Nat.reduceBEq, reduceIte, Tryz.results81, g4]; rw [hq]; exact ⟨_, rfl, hE⟩
 ·have hd4 : decide ((es.length : Int) = (fs.length : Int)) = false := by simp; omega
  refine gS1 (And.intro @hd4 @Tryz.results81) ?_;try exact ⟨⟩
  rw [exsEqb_len hlen]
  exact ⟨_, rfl, .refl _⟩
set_option maxHeartbeats 4000000 in
theorem psame_ok : ∀ (n : Nat) {σ : St} {ra rb : List Value} {a b : Ex}, SizeOf.sizeOf a < n → ExAt σ ra a → ExAt σ rb b → Ev (go Tryz.prog HS (.fn 73) [.agg ⟨ra⟩, .agg ⟨rb⟩] σ) (fun r => ∃ σ', r = ⟨false, .bool (exEqb a b), σ'⟩ ∧ Ext σ σ') ⟨⟩ := by
 intro n
 induction n with
 | zero => intro σ ra rb a b h; omega
 | succ n ih =>
  rintro σ ra rb ⟨o, nu, de, nm, es⟩ ⟨o', nu', de', nm', es'⟩ hsz ⟨v, rows, rfl, h2, h4, h3⟩ ⟨v', rows', rfl, h2', h4', h3'⟩
  have e0 : exEqb (.mk o nu de nm es) (.mk o' nu' de' nm' es') = (decide (o = o') && (decide (nu = nu') && decide (de = de')) && decide (nm = nm') && exsEqb es es') := by unfold exEqb; rfl
  obtain ⟨sa, sc, sb, so, scs, rfl, -, -⟩ := ExsAt.slice h2 h3
  obtain ⟨sa', sc', sb', so', scs', rfl, -, -⟩ := ExsAt.slice h2' h3'
  refine ev_go Tryz.func73 rfl rfl ?_
  rw [e0]
  cases hd1 : decide (o = o') with
  | false => simp (maxSteps := 1000000) (disch := first | exact dS | fail) only [↓bD, bW, reduceMul, reduceEqDiff, reduceAdd, Nat.reduceBEq, reduceIte, b2_rat.1, b2_rat.2, hd1, Bool.false_and, Tryz.results73]; exact ⟨_, rfl, eX⟩
  | true =>
  cases hd2 : (decide (nu = nu') && decide (de = de')) with
  | false => simp (maxSteps := 1000000) (disch := first | exact dS | fail) only [↓bD, bW, reduceMul, reduceEqDiff, reduceAdd, Nat.reduceBEq, reduceIte, b2_rat.1, b2_rat.2, hd1, hd2, Bool.false_and, Bool.true_and, Tryz.results73]; exact ⟨_, rfl, eX⟩
  | true =>
  cases hd3 : decide (nm = nm') with
  | false => simp (maxSteps := 1000000) (disch := first | exact dS | fail) only [↓bD, bW, reduceMul, reduceEqDiff, reduceAdd, Nat.reduceBEq, reduceIte, b2_rat.1, b2_rat.2, hd1, hd2, hd3, Bool.false_and, Bool.true_and, Tryz.results73]; exact ⟨_, rfl, eX⟩
  | true =>
   simp (maxSteps := 1000000) (disch := first | exact dS | fail) only [↓bD, bW, reduceMul, reduceEqDiff, reduceAdd, Nat.reduceBEq, reduceIte, b2_rat.1, b2_rat.2, hd1, hd2, hd3, Bool.false_and, Bool.true_and]
   refine (eqfx_ok (h2.mono (eX)) (ExsAt.mono (eX) h3) (h2'.mono (eX)) (ExsAt.mono (eX) h3') h4 h4' fun a b ha ra rb σ' hE hra hrb => ih ?_ hra hrb).mono ?_
   ·have h5 := List.sizeOf_lt_of_mem ha
    simp at hsz
    omega
   rintro r ⟨σ2, rfl, hE2⟩
   refine gS1 @Tryz.results73 ?_;try exact ⟨⟩
   exact ⟨_, rfl, Ext.trans (eX) hE2⟩
end Go.Proofs.G
namespace Go.Proofs.G
open Go Go.Ab
open Nat (reduceMul reduceEqDiff reduceAdd)
set_option maxRecDepth 100000
theorem sliceseq_str_ok {σ : St} {v w : Value} {l m : List By} (hl : Strs σ v l) (hk : Strs σ w m) (hn : l.length ≤ 100) (hn2 : m.length ≤ 100) :
  Ev (go Tryz.prog HS (.fn 50) [v, w] σ) (fun r => r = ⟨false, .bool (decide (l = m)), σ⟩) ⟨⟩ := by
 obtain ⟨a, c, b, off, cells, rfl, h1, h2⟩ := hl.use
 obtain ⟨a', c', b', off', cells', rfl, h1', h2'⟩ := hk.use
 refine ev_go Tryz.func50 rfl rfl ?_
 by_cases hlen : l.length = m.length
 ·have hd : decide ((l.length : Int) = (m.length : Int)) = true := by simp [hlen]
  refine gS1 @hd ?_;try exact ⟨⟩
  refine ev_count l.length (fun i fr σ' => fr.get 13 = some (.int .i64 i) ∧ fr.get 12 = some (.int .i64 l.length) ∧ fr.get 0 = some (.slice a l.length c) ∧ fr.get 1 = some (.slice a' m.length c') ∧ σ' = σ ∧ l.take i = m.take i)
   (fun r => (∃ fr, r = ⟨.exit 0, fr, σ⟩ ∧ l = m) ∨ (∃ fr, r = ⟨.ret, fr, σ⟩ ∧ fr.get 4 = some (.bool false) ∧ l ≠ m)) ?_ ?_ ?_ ?_
  ·exact ⟨fR, fR, fR, fR, rfl, by simp⟩
  ·rintro i fr σ' hi ⟨g13, g12, g0, g1, rfl, hm⟩
   have hc := lt_true hi
   have hci : i < m.length := by omega
   obtain ⟨sp, rfl, hb, hr⟩ := h1 (by omega)
   obtain ⟨sp', rfl, hb', hr'⟩ := h1' (by omega)
   obtain ⟨x, hx⟩ := at_some hi
   obtain ⟨y, hy⟩ := at_some hci
   have h2 := h2 i x hx
   have h2' := h2' i y hy
   cases hd2 : decide (x = y) with
   | true =>
    have hxy : x = y := of_decide_eq_true hd2
    refine gS1 (And.intro @g0 (And.intro @g1 (And.intro @g12 (And.intro @g13 (And.intro @hc (And.intro @hr (And.intro @hr' (And.intro @h2 (And.intro @h2' @hd2))))))))) ?_;try exact ⟨⟩
    exact ⟨fR, fR1 g12, fR1 g0, fR1 g1, by trivial, by rw [List.take_add_one, List.take_add_one, hm, hx, hy, hxy]⟩
   | false =>
    have hxy : ¬ x = y := of_decide_eq_false hd2
    refine gS1 (And.intro @g0 (And.intro @g1 (And.intro @g12 (And.intro @g13 (And.intro @hc (And.intro @hr (And.intro @hr' (And.intro @h2 (And.intro @h2' @hd2))))))))) ?_;try exact ⟨⟩
    refine .inr ⟨_, rfl, fR, fun h => ?_⟩
    subst h
    rw [hx] at hy; cases hy; exact hxy rfl
  ·rintro fr σ' ⟨g13, g12, g0, g1, rfl, hm⟩
   refine gS1 (And.intro @g12 @g13) ?_;try exact ⟨⟩
   refine .inl ⟨_, rfl, ?_⟩
   rw [List.take_length, hlen, List.take_length] at hm
   exact hm
  ·rintro r (⟨fr, rfl, hm⟩ | ⟨fr, rfl, g4, hm⟩)
   ·refine gS1 @Tryz.results50 ?_;try exact ⟨⟩
    rw [decide_eq_true hm]
   ·refine gS1 (And.intro @Tryz.results50 @g4) ?_;try exact ⟨⟩
    rw [decide_eq_false hm]
 ·have hd : decide ((l.length : Int) = (m.length : Int)) = false := by simp; omega
  refine gS1 (And.intro @hd @Tryz.results50) ?_;try exact ⟨⟩
  rw [decide_eq_false (fun h => hlen (by rw [h]))]
theorem sliceseq_int_ok {σ : St} {v w : Value} {l m : List Int} (hl : Ints σ v l) (hk : Ints σ w m) (hn : l.length ≤ 100) (hn2 : m.length ≤ 100) :
  Ev (go Tryz.prog HS (.fn 52) [v, w] σ) (fun r => r = ⟨false, .bool (decide (l = m)), σ⟩) ⟨⟩ := by
 obtain ⟨a, c, b, off, cells, rfl, h1, h2⟩ := hl.use
 obtain ⟨a', c', b', off', cells', rfl, h1', h2'⟩ := hk.use
 refine ev_go Tryz.func52 rfl rfl ?_
 by_cases hlen : l.length = m.length
 ·have hd : decide ((l.length : Int) = (m.length : Int)) = true := by simp [hlen]
  refine gS1 @hd ?_;try exact ⟨⟩
  refine ev_count l.length (fun i fr σ' => fr.get 13 = some (.int .i64 i) ∧ fr.get 12 = some (.int .i64 l.length) ∧ fr.get 0 = some (.slice a l.length c) ∧ fr.get 1 = some (.slice a' m.length c') ∧ σ' = σ ∧ l.take i = m.take i)
   (fun r => (∃ fr, r = ⟨.exit 0, fr, σ⟩ ∧ l = m) ∨ (∃ fr, r = ⟨.ret, fr, σ⟩ ∧ fr.get 4 = some (.bool false) ∧ l ≠ m)) ?_ ?_ ?_ ?_
  ·exact ⟨fR, fR, fR, fR, rfl, by simp⟩
  ·rintro i fr σ' hi ⟨g13, g12, g0, g1, rfl, hm⟩
   have hc := lt_true hi
   have hci : i < m.length := by omega
   obtain ⟨sp, rfl, hb, hr⟩ := h1 (by omega)
   obtain ⟨sp', rfl, hb', hr'⟩ := h1' (by omega)
   obtain ⟨x, hx⟩ := at_some hi
   obtain ⟨y, hy⟩ := at_some hci
   have h2 := h2 i x hx
   have h2' := h2' i y hy
   cases hd2 : decide (x = y) with
   | true =>
    have hxy : x = y := of_decide_eq_true hd2
    refine gS1 (And.intro @g0 (And.intro @g1 (And.intro @g12 (And.intro @g13 (And.intro @hc (And.intro @hr (And.intro @hr' (And.intro @h2 (And.intro @h2' @hd2))))))))) ?_;try exact ⟨⟩
    exact ⟨fR, fR1 g12, fR1 g0, fR1 g1, by trivial, by rw [List.take_add_one, List.take_add_one, hm, hx, hy, hxy]⟩
   | false =>
    have hxy : ¬ x = y := of_decide_eq_false hd2
    refine gS1 (And.intro @g0 (And.intro @g1 (And.intro @g12 (And.intro @g13 (And.intro @hc (And.intro @hr (And.intro @hr' (And.intro @h2 (And.intro @h2' @hd2))))))))) ?_;try exact ⟨⟩
    refine .inr ⟨_, rfl, fR, fun h => ?_⟩
    subst h
    rw [hx] at hy; cases hy; exact hxy rfl
  ·rintro fr σ' ⟨g13, g12, g0, g1, rfl, hm⟩
   refine gS1 (And.intro @g12 @g13) ?_;try exact ⟨⟩
   refine .inl ⟨_, rfl, ?_⟩
   rw [List.take_length, hlen, List.take_length] at hm
   exact hm
  ·rintro r (⟨fr, rfl, hm⟩ | ⟨fr, rfl, g4, hm⟩)
   ·refine gS1 @Tryz.results52 ?_;try exact ⟨⟩
    rw [decide_eq_true hm]
   ·refine gS1 (And.intro @Tryz.results52 @g4) ?_;try exact ⟨⟩
    rw [decide_eq_false hm]
 ·have hd : decide ((l.length : Int) = (m.length : Int)) = false := by simp; omega
  refine gS1 (And.intro @hd @Tryz.results52) ?_;try exact ⟨⟩
  rw [decide_eq_false (fun h => hlen (by rw [h]))]
theorem eq1_ok {σ : St} {v w : Value} {l m : List Int} (hl : Ints σ v l) (hk : Ints σ w m) (hn : l.length ≤ 100) (hn2 : m.length ≤ 100) :
  Ev (go Tryz.prog HS (.fn 74) [v, w] σ) (fun r => r = ⟨false, .bool (decide (l = m)), σ⟩) ⟨⟩ := by
 refine ev_go Tryz.func74 rfl rfl ?_
 refine gS ?_;try exact ⟨⟩
 refine (sliceseq_int_ok hl hk hn hn2).mono ?_
 rintro r rfl
 refine gS1 @Tryz.results74 ?_;try exact ⟨⟩
theorem eq2_ok {σ : St} {x : Lot} {b : Nat} {c : By} (h : 0 ≤ x.id ∧ x.id < 10) (hb : b < σ.n) (hr : σ.row b = some [str c]) :
  Ev (go Tryz.prog HS (.fn 76) [.agg ⟨x.row⟩, .pointer (some ⟨b, 0, none⟩)] σ) (fun r => ∃ σ2, r = ⟨false, .bool (lotC x.id == c), σ2⟩ ∧ Ext σ σ2) ⟨⟩ := by
 refine ev_go Tryz.func76 rfl rfl ?_
 have q0 : x.row = [.int .i64 x.id, .int .i64 x.most] := rfl
 have hq : (lotC x.id == c) = decide (lotC x.id = c) := by rw [Bool.eq_iff_iff]; simp
 rw [q0]
 refine gS ?_;try exact ⟨⟩
 refine (plot_ok h.1 h.2).mono ?_
 rintro r rfl
 simp (maxSteps := 1000000) (disch := first | exact dS | fail) only [↓bD, bW, reduceMul, reduceEqDiff, reduceAdd, Nat.reduceBEq, reduceIte, hr, asx (Ext.refl _), hq, Tryz.results76]
 exact ⟨_, rfl, eX⟩
theorem eq3_ok {σ : St} {x : Crit} {b : Nat} {c : By} (h : x.name.length ≤ 7) (hb : b < σ.n) (hr : σ.row b = some [str c]) :
  Ev (go Tryz.prog HS (.fn 78) [.agg ⟨x.row⟩, .pointer (some ⟨b, 0, none⟩)] σ) (fun r => ∃ σ2, r = ⟨false, .bool (critC x.name == c), σ2⟩ ∧ Ext σ σ2) ⟨⟩ := by
 refine ev_go Tryz.func78 rfl rfl ?_
 have q0 : x.row = [str x.name, .int .i64 x.kind, .int .i64 x.low, .int .i64 x.high, .bool x.less] := rfl
 have hq : (critC x.name == c) = decide ([99, 114, 105, 116, 101, 114, 105, 111, 110, 32] ++ x.name = c) := by rw [Bool.eq_iff_iff]; simp [critC]
 rw [q0]
 refine gS1 (And.intro @hr (And.intro @hq @Tryz.results78)) ?_;try exact ⟨⟩
 exact ⟨_, rfl, eX⟩
def lotP : By := [108, 111, 116, 32]
def critP : By := [99, 114, 105, 116, 101, 114, 105, 111, 110, 32]
theorem hasl_all (σ : St) : allC.map (fun c => callF Tryz.prog HS (exec Tryz.prog HS 40) (.fn 75) [str c, str lotP] σ) = allC.map fun c => some ⟨false, .bool (lotP.isPrefixOf c), σ⟩ := by kernel_rfl
theorem hasc_all (σ : St) : allC.map (fun c => callF Tryz.prog HS (exec Tryz.prog HS 40) (.fn 75) [str c, str critP] σ) = allC.map fun c => some ⟨false, .bool (critP.isPrefixOf c), σ⟩ := by kernel_rfl
theorem trim_all (σ : St) : (List.range 8).map (fun k => callF Tryz.prog HS (exec Tryz.prog HS 40) (.fn 112) [str (reqC (k + 1)), str [114, 101, 113, 117, 105, 114, 101, 32]] σ) = (List.range 8).map fun k => some ⟨false, str (dec ((k + 1 : Nat) : Int)), σ⟩ := by kernel_rfl
end Go.Proofs.G
namespace Go.Proofs.G
open Go Go.Ab
open Nat (reduceMul reduceEqDiff reduceAdd)
set_option maxRecDepth 100000
theorem eqcombos_ok {σ : St} {v w : Value} {l m : List (List Int)} (hl : Combos σ v l) (hk : Combos σ w m) (hn : l.length ≤ 100) (hn2 : m.length ≤ 100) (hi : ∀ c ∈ l, c.length ≤ 100) (hi2 : ∀ c ∈ m, c.length ≤ 100) :
  Ev (go Tryz.prog HS (.fn 51) [v, w, .func (.func 74) ⟨[]⟩ ⟨[]⟩] σ) (fun r => r = ⟨false, .bool (decide (l = m)), σ⟩) ⟨⟩ := by
 obtain ⟨vs, k1, k2⟩ := hl
 obtain ⟨vs', k1', k2'⟩ := hk
 obtain ⟨a, c, b, off, cells, rfl, h1, h2⟩ := SL.use' k1
 obtain ⟨a', c', b', off', cells', rfl, h1', h2'⟩ := SL.use' k1'
 have e1 := k2.len
 have e2 := k2'.len
 refine ev_go Tryz.func51 rfl rfl ?_
 by_cases hlen : l.length = m.length
 ·have hd : decide ((vs.length : Int) = (vs'.length : Int)) = true := by simp; omega
  refine gS1 @hd ?_;try exact ⟨⟩
  refine ev_count vs.length (fun i fr σ' => fr.get 17 = some (.int .i64 i) ∧ fr.get 16 = some (.int .i64 vs.length) ∧ fr.get 15 = some (.slice a vs.length c) ∧ fr.get 1 = some (.slice a' vs'.length c') ∧ fr.get 2 = some (.func (.func 74) ⟨[]⟩ ⟨[]⟩) ∧ σ' = σ ∧ l.take i = m.take i)
   (fun r => (∃ fr, r = ⟨.exit 0, fr, σ⟩ ∧ l = m) ∨ (∃ fr, r = ⟨.ret, fr, σ⟩ ∧ fr.get 6 = some (.bool false) ∧ l ≠ m)) ?_ ?_ ?_ ?_
  ·exact ⟨fR, fR, fR, fR, fR, rfl, by simp⟩
  ·rintro i fr σ' hi' ⟨g17, g16, g15, g1, g2, rfl, hm⟩
   have hc := lt_true hi'
   obtain ⟨sp, rfl, hb, hr⟩ := h1 (by omega)
   obtain ⟨sp', rfl, hb', hr'⟩ := h1' (by omega)
   obtain ⟨u, hu⟩ := at_some hi'
   obtain ⟨u', hu'⟩ := at_some (l := vs') (k := i) (by omega)
   obtain ⟨x, hx⟩ := at_some (l := l) (k := i) (by omega)
   obtain ⟨y, hy⟩ := at_some (l := m) (k := i) (by omega)
   have h2 := h2 i u hu
   have h2' := h2' i u' hu'
   rw [Nat.mul_one] at h2 h2'
   have i1 := k2.get hu hx
   have i2 := k2'.get hu' hy
   obtain ⟨sa, sc, sb, so, scs, rfl, -, -⟩ := i1.use
   obtain ⟨sa', sc', sb', so', scs', rfl, -, -⟩ := i2.use
   refine gS1 (And.intro @g1 (And.intro @g2 (And.intro @g15 (And.intro @g16 (And.intro @g17 (And.intro @hc (And.intro @hr (And.intro @hr' (And.intro @h2 @h2'))))))))) ?_;try exact ⟨⟩
   refine (eq1_ok i1 i2 (hi x (List.mem_of_getElem? hx)) (hi2 y (List.mem_of_getElem? hy))).mono ?_
   rintro r rfl
   cases hd2 : decide (x = y) with
   | true =>
    have hxy : x = y := of_decide_eq_true hd2
    refine gS1 (And.intro @g1 (And.intro @g2 (And.intro @g15 (And.intro @g16 @g17)))) ?_;try exact ⟨⟩
    exact ⟨fR, fR1 g16, fR1 g15, fR1 g1, fR1 g2, by trivial, by rw [List.take_add_one, List.take_add_one, hm, hx, hy, hxy]⟩
   | false =>
    have hxy : ¬ x = y := of_decide_eq_false hd2
    refine gS1 (And.intro @g1 (And.intro @g2 (And.intro @g15 (And.intro @g16 @g17)))) ?_;try exact ⟨⟩
    refine .inr ⟨_, rfl, fR, fun h => ?_⟩
    subst h
    rw [hx] at hy; cases hy; exact hxy rfl
  ·rintro fr σ' ⟨g17, g16, g15, g1, g2, rfl, hm⟩
   refine gS1 (And.intro @g16 @g17) ?_;try exact ⟨⟩
   refine .inl ⟨_, rfl, ?_⟩
   rw [e1, List.take_length, hlen, List.take_length] at hm
   exact hm
  ·rintro r (⟨fr, rfl, hm⟩ | ⟨fr, rfl, g4, hm⟩)
   ·refine gS1 @Tryz.results51 ?_;try exact ⟨⟩
    rw [decide_eq_true hm]
   ·refine gS1 (And.intro @Tryz.results51 @g4) ?_;try exact ⟨⟩
    rw [decide_eq_false hm]
 ·have hd : decide ((vs.length : Int) = (vs'.length : Int)) = false := by simp; omega
  refine gS1 (And.intro @hd @Tryz.results51) ?_;try exact ⟨⟩
  rw [decide_eq_false (fun h => hlen (by rw [h]))]
theorem yu_t : yieldOf true undefV = false := rfl
theorem yu_f : yieldOf false undefV = false := rfl
theorem iatoi_ok {σ : St} {k : Nat} (h1 : k < 10) : Ev (go Tryz.prog HS (.fn 139) [str [UInt8.ofNat (48 + k)]] σ) (fun r => ∃ σ2, r = ⟨false, .tuple ⟨[.int .i64 k, .nilIface]⟩, σ2⟩ ∧ Ext σ σ2) ⟨⟩ := by
 refine ev_go Tryz.func139 rfl rfl ?_
 have hb : bytesV [UInt8.ofNat (48 + k)] = [.int .u8 ((48 + k : Nat) : Int)] := by
  show [Value.int .u8 (((UInt8.ofNat (48 + k)).toNat : Nat) : Int)] = _
  rw [UInt8.toNat_ofNat', Nat.mod_eq_of_lt (by omega)]
 have hd1 : decide ((0 : Int) < ((1 : Nat) : Int)) = true := rfl
 have hd2 : decide (((1 : Nat) : Int) < 10) = true := rfl
 have hd3 : decide (((1 : Nat) : Int) < 1) = false := rfl
 have hd4 : decide (((1 : Nat) : Int) < 19) = true := rfl
 have hb1 : (oneB [UInt8.ofNat (48 + k)]) = some (.int .u8 ((48 + k : Nat) : Int)) := by
  show some (Value.int .u8 (((UInt8.ofNat (48 + k)).toNat : Nat) : Int)) = _
  rw [UInt8.toNat_ofNat', Nat.mod_eq_of_lt (by omega)]
 have hb2 : decide (((48 + k : Nat) : Int) = 45) = false := by simp; omega
 have hb3 : decide (((48 + k : Nat) : Int) = 43) = false := by simp; omega
 refine gS1 (And.intro @hd1 (And.intro @hd2 (And.intro @hd3 (And.intro @hd4 (And.intro @hb (And.intro @hb1 (And.intro @hb2 (And.intro @hb3 (And.intro @yu_t (And.intro @yu_f @cv_str)))))))))) ?_;try exact ⟨⟩
 refine ev_count 1 (fun j fr σ' => fr.get 49 = some (.int .i64 j) ∧ fr.get 48 = some (.int .i64 (1 : Nat)) ∧ fr.get 47 = some (.slice (some ⟨σ.n, 0, some 1⟩) 1 1) ∧ fr.get 5 = some (str [UInt8.ofNat (48 + k)]) ∧ σ' = σ.new [.int .u8 ((48 + k : Nat) : Int)] ∧ fr.get 6 = some (.int .i64 (if j = 0 then 0 else (k : Int))))
  (fun r => ∃ fr, r = ⟨.exit 0, fr, σ.new [.int .u8 ((48 + k : Nat) : Int)]⟩ ∧ fr.get 5 = some (str [UInt8.ofNat (48 + k)]) ∧ fr.get 6 = some (.int .i64 (k : Int))) ?_ ?_ ?_ ?_
 ·exact ⟨fR, fR, fR, fR, rfl, fR⟩
 ·rintro j fr σ' hj ⟨g49, g48, g47, g5, rfl, g6⟩
  obtain rfl : j = 0 := by omega
  have g6 : fr.get 6 = some (.int .i64 0) := g6
  have h9 : decide (((0 : Nat) : Int) < ((1 : Nat) : Int)) = true := rfl
  have h10 : wrapF .u8 (((48 + k : Nat) : Int) - 48) = (k : Int) := by rw [show ((48 + k : Nat) : Int) - 48 = (k : Int) by omega]; exact wrapF8_in (by omega) (by omega)
  have h11 : decide ((9 : Int) < (k : Int)) = false := by simp; omega
  have h12 : wrapF .i64 ((0 : Int) * 10) = 0 := rfl
  have h13 : wrapF .i64 ((0 : Int) + IntKind.i64.wrap (k : Int)) = (k : Int) := by rw [in64 ⟨by omega, by omega⟩, Int.zero_add]; exact wrap_in (by omega) (by omega)
  refine gS1 (And.intro @g49 (And.intro @g48 (And.intro @g47 (And.intro @g5 (And.intro @g6 (And.intro @h9 (And.intro @h10 (And.intro @h11 (And.intro @h12 (And.intro @h13 @cv_u8_int)))))))))) ?_;try exact ⟨⟩
  simp only [Int.zero_add, and_self]
 ·rintro fr σ' ⟨g49, g48, g47, g5, rfl, g6⟩
  have h9 : decide (((1 : Nat) : Int) < ((1 : Nat) : Int)) = false := rfl
  refine gS1 (And.intro @g49 (And.intro @g48 @h9)) ?_;try exact ⟨⟩
  exact ⟨_, rfl, fR1 g5, fR1 g6⟩
 rintro r ⟨fr, rfl, g5, g6⟩
 refine gS1 (And.intro @g5 (And.intro @g6 (And.intro @hb1 (And.intro @hb2 @Tryz.results139)))) ?_;try exact ⟨⟩
 exact ⟨_, rfl, eX⟩
theorem bn_nil {i : Nat} : bin2 Tryz.prog .neq 167 (.tmp i) (.const .nilIface) .nilIface .nilIface = some (.bool false) := by kernel_rfl
theorem atoi_ok {σ : St} {k : Nat} (h1 : k < 10) : Ev (go Tryz.prog HS (.fn 111) [str [UInt8.ofNat (48 + k)]] σ) (fun r => ∃ σ2, r = ⟨false, .tuple ⟨[.int .i64 k, .nilIface]⟩, σ2⟩ ∧ Ext σ σ2) ⟨⟩ := by
 refine ev_go Tryz.func111 rfl rfl ?_
 refine gS ?_;try exact ⟨⟩
 refine (iatoi_ok h1).mono ?_
 rintro r ⟨σ2, rfl, hE⟩
 refine gS1 (And.intro @bn_nil @Tryz.results111) ?_;try exact ⟨⟩
 exact ⟨_, rfl, hE⟩
theorem dec_digit {k : Nat} (h : k < 10) : dec (k : Int) = [UInt8.ofNat (48 + k)] := by
 unfold dec
 rw [if_neg (by omega), show ((k : Int)).natAbs = k from by simp, decN_small h]
 unfold dig
 rw [Nat.mod_eq_of_lt h]
theorem trim_ok {σ : St} {k : Nat} (h : k < 8) : Ev (go Tryz.prog HS (.fn 112) [str (reqC (k + 1)), str [114, 101, 113, 117, 105, 114, 101, 32]] σ) (fun r => r = ⟨false, str [UInt8.ofNat (48 + (k + 1))], σ⟩) ⟨⟩ :=
 ⟨_, go_of (List.map_inj_left.1 (trim_all σ) k (by simp; omega)), by rw [dec_digit (by omega)]⟩
theorem require_ok {σ : St} {cells : List Value} {T : Tn} {k : Nat} {x : Req} (hT : TnAt σ cells T) (ok : T.Ok) (hx : T.reqs[k]? = some x) :
  Ev (go Tryz.prog HS (.fn 80) [.agg ⟨cells⟩, str (reqC (k + 1))] σ) (fun r => ∃ σ2, r = ⟨false, .agg ⟨x.row⟩, σ2⟩ ∧ Ext σ σ2) ⟨⟩ := by
 obtain ⟨vl, vc, vr, x1, x2, x3, x4, x5, vt, vk, h0, u1, u2, u3, u4, u5, u6⟩ := sub_self hT
 obtain ⟨ra, rc, rb, ro, rcs, rfl, r1, r2⟩ := u3.use
 have hk := (List.getElem?_eq_some_iff.1 hx).1
 have ok3 := ok.reqs
 obtain ⟨sp, rfl, l3, l4⟩ := r1 (by omega)
 obtain ⟨l7, -⟩ := r2 k x hx
 have c4 : sub cells 3 1 = some [.slice (some ⟨rb, ro, sp⟩) T.reqs.length rc] := by rw [h0]; rfl
 have hrl : x.row.length = 3 := rfl
 refine ev_go Tryz.func80 rfl rfl ?_
 refine gS ?_;try exact ⟨⟩
 refine (trim_ok (k := k) (by omega)).mono ?_
 rintro r rfl
 refine gS ?_;try exact ⟨⟩
 refine (atoi_ok (k := k + 1) (by omega)).mono ?_
 rintro r ⟨σ2, rfl, hE⟩
 have n2 := hE.n
 have w1 : σ2.row σ.n = some cells := by rw [hE.row (cL)]; exact cL
 have w2 : σ2.row rb = some rcs := by rw [hE.row (by simp; omega), row_new_ne (by simp; omega), row_new_ne (by omega)]; exact l4
 have o4 : σ2.orow (σ.n + 1) = some [str [], str [], .int .i64 0] := by rw [hE.orow (cL)]; exact cL
 have hs : wrapF .i64 (((k + 1 : Nat) : Int) - 1) = (k : Int) := by rw [show ((k + 1 : Nat) : Int) - 1 = (k : Int) by omega]; exact wrap_in (by omega) (by omega)
 refine gS1 (And.intro @w1 (And.intro @w2 (And.intro @o4 (And.intro @c4 (And.intro @hs (And.intro @l7 (And.intro @hrl @Tryz.results80))))))) ?_;try exact ⟨⟩
 have e0 : Ext σ σ2 := Ext.trans (eX) hE
 exact ⟨_, rfl, eX⟩
end Go.Proofs.G
