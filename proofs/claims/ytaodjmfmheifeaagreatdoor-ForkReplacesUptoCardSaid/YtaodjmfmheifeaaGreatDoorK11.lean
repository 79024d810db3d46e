/- A part of the proof: a walk of some functions. -/
import Derived.Test.YtaodjmfmheifeaaGreatDoorK10
import Derived.Test.YtaodjmfmheifeaaGreatDoorKB
set_option linter.unusedSimpArgs false
set_option linter.unusedVariables false
namespace Go.Proofs.G
open Go Go.Ab
set_option maxRecDepth 100000
/-- A problem that is being made: the maker, the problem, the result's cell. -/
structure MI (σ0 : St) (pb : Nat) (σ : St) (v : Value) (l : List Int) (vl vc vr : Value) (mo bu : Int) : Prop where
  ext : Ext σ0 σ
  two : σ0.n + 2 ≤ pb
  n : pb + 1 ≤ σ.n
  mkr : ∃ k, MkAt σ (σ0.n + 1) v l k
  pb : σ.orow pb = some [vl, vc, vr, .int .i64 mo, .int .i64 bu]
  rb : σ.orow σ0.n = some [.slice none 0 0, .slice none 0 0, .slice none 0 0, .int .i64 0, .int .i64 0]
/-- All below a bound is as it was, but for the maker and the problem. -/
structure Bel (σ0 : St) (pb lo : Nat) (σ σ' : St) : Prop where
  n : σ.n ≤ σ'.n
  same : ∀ b, b < lo → b ≠ σ0.n + 1 → b ≠ pb → σ'.h.get b = σ.h.get b
section
variable {σ0 σ σ' σ'' : St} {v : Value} {l : List Int} {vl vc vr : Value} {mo bu : Int} {lo pb : Nat}
theorem Bel.refl : Bel σ0 pb lo σ σ := ⟨Nat.le_refl _, fun _ _ _ _ => rfl⟩
theorem Bel.trans (h : Bel σ0 pb lo σ σ') (k : Bel σ0 pb lo σ' σ'') : Bel σ0 pb lo σ σ'' := ⟨Nat.le_trans h.n k.n, fun b h1 h2 h3 => by rw [k.same b h1 h2 h3, h.same b h1 h2 h3]⟩
theorem Bel.next (h : ExtX (σ0.n + 1) σ σ') (hl : lo ≤ σ.n) : Bel σ0 pb lo σ σ' := ⟨h.n, fun b h1 h2 _ => h.same b (by omega) h2⟩
theorem Bel.ext (h : Ext σ σ') (hl : lo ≤ σ.n) : Bel σ0 pb lo σ σ' := ⟨h.n, fun b h1 _ _ => h.same b (by omega)⟩
theorem Bel.app {w w' : Value} (h : App σ σ' w w') (hl : lo ≤ σ.n) (hb : ∀ b, blkOf w = some b → lo ≤ b) : Bel σ0 pb lo σ σ' := ⟨h.n, fun b h1 _ _ => h.same b (by omega) (fun e => by have := hb b e; omega)⟩
theorem Bel.upd (cs : List Value) : Bel σ0 pb lo σ (σ.upd pb cs) := ⟨Nat.le_refl _, fun b _ _ h => by rw [upd_get, if_neg h]⟩
theorem Bel.updHi {c : Nat} (hc : lo ≤ c) (cs : List Value) : Bel σ0 pb lo σ (σ.upd c cs) := ⟨Nat.le_refl _, fun b h1 _ _ => by rw [upd_get, if_neg (by omega)]⟩
theorem Bel.lower {lo' : Nat} (h : Bel σ0 pb lo σ σ') (hl : lo' ≤ lo) : Bel σ0 pb lo' σ σ' := ⟨h.n, fun b h1 => h.same b (by omega)⟩
theorem _root_.Go.Ab.OL.bel {lo1 size : Nat} {w : Value} {rows : List (List Value)} (h : OL lo1 σ size w rows) (hB : Bel σ0 pb lo σ σ') (h2 : σ0.n + 2 ≤ pb) (h3 : pb + 1 ≤ lo1) (hb : ∀ b, blkOf w = some b → b < lo) : OL lo1 σ' size w rows := by
  refine h.keep hB.n fun b hb' => ?_
  have := (h.blk hb').1
  exact hB.same b (hb b hb') (by omega) (by omega)
theorem MI.next (h : MI σ0 pb σ v l vl vc vr mo bu) {k : Nat} (hE : ExtX (σ0.n + 1) σ σ') (hk : MkAt σ' (σ0.n + 1) v l k) : MI σ0 pb σ' v l vl vc vr mo bu := by
  have h1 := h.two
  have h2 := h.n
  exact ⟨hE.ext h.ext (by omega), h1, Nat.le_trans h.n hE.n, ⟨k, hk⟩, by rw [hE.orow (by omega) (by omega)]; exact h.pb, by rw [hE.orow (by omega) (by omega)]; exact h.rb⟩
theorem MI.far (h : MI σ0 pb σ v l vl vc vr mo bu) (hn : σ.n ≤ σ'.n) (hs : ∀ b, b < pb + 1 → σ'.h.get b = σ.h.get b) : MI σ0 pb σ' v l vl vc vr mo bu := by
  obtain ⟨k, hk⟩ := h.mkr
  have h1 := h.two
  have h2 := h.n
  exact ⟨⟨Nat.le_trans h.ext.n hn, fun b hb => by rw [hs b (by omega), h.ext.same b hb]⟩, h1, by omega, ⟨k, by rw [orow_congr (hs _ (by omega))]; exact hk.row, by omega, hk.le⟩, by rw [orow_congr (hs _ (by omega))]; exact h.pb, by rw [orow_congr (hs _ (by omega))]; exact h.rb⟩
theorem MI.app (h : MI σ0 pb σ v l vl vc vr mo bu) {w w' : Value} (hA : App σ σ' w w') (hb : ∀ b, blkOf w = some b → pb + 1 ≤ b) : MI σ0 pb σ' v l vl vc vr mo bu :=
  h.far hA.n fun b h1 => hA.same b (by have := h.n; omega) (fun e => by have := hb b e; omega)
theorem MI.of_ext (h : MI σ0 pb σ v l vl vc vr mo bu) (hE : Ext σ σ') : MI σ0 pb σ' v l vl vc vr mo bu := h.far hE.n fun b h1 => hE.same b (by have := h.n; omega)
theorem MI.updHi (h : MI σ0 pb σ v l vl vc vr mo bu) {c : Nat} (hc : pb + 1 ≤ c) (cs : List Value) : MI σ0 pb (σ.upd c cs) v l vl vc vr mo bu := h.far (Nat.le_refl _) fun b h1 => by rw [upd_get, if_neg (by omega)]
theorem MI.set (h : MI σ0 pb σ v l vl vc vr mo bu) (vl' vc' vr' : Value) : MI σ0 pb (σ.upd pb [vl', vc', vr', .int .i64 mo, .int .i64 bu]) v l vl' vc' vr' mo bu := by
  obtain ⟨k, hk⟩ := h.mkr
  have h1 := h.two
  exact ⟨h.ext.upd (by omega) _, h1, by simpa using h.n, ⟨k, by rw [orow_upd_ne (by omega)]; exact hk.row, by simpa using hk.lt, hk.le⟩, orow_upd_same, by rw [orow_upd_ne (by omega)]; exact h.rb⟩
theorem asX {p b o n i j : Nat} {a c : St} {bs : List Nat} {ds : List Ab.Trace} (hE : ExtX p a c) (h : b ≠ p) : allSame bs i ⟨b, o, n⟩ (.eff j a c :: ds) = allSame bs i ⟨b, o, n⟩ ds := as_eff fun h' => hE.same b h' h
theorem asA {b o n i j : Nat} {a c : St} {bs : List Nat} {ds : List Ab.Trace} {w w' : Value} (hA : App a c w w') (h : blkOf w ≠ some b) : allSame bs i ⟨b, o, n⟩ (.eff j a c :: ds) = allSame bs i ⟨b, o, n⟩ ds := as_eff fun h' => hA.same b h' h
end
set_option maxHeartbeats 8000000 in
theorem made_ok {σ : St} {v : Value} {l : List Int} (hl : ArgInts σ v l) (hll : l.length ≤ 1048576) :
    Ev (go Tryz.prog HS (.fn 11) [v] σ) (fun r => ∃ (vl vc vr : Value) (mo bu : Int) (cs : List Cho) (σ' : St), r = ⟨false, .agg ⟨[vl, vc, vr, .int .i64 mo, .int .i64 bu]⟩, σ'⟩ ∧ Ext σ σ' ∧ cs.length ≤ 12 ∧ SLs σ' 4 vc (cs.map Cho.row)) ⟨⟩ := by
  refine ev_go Tryz.func11 rfl rfl ?_
  obtain ⟨a, c, hv⟩ : ∃ a c, v = .slice a l.length c := by
    obtain ⟨a, c, b, off, cells, h, -, -⟩ := SL.use' hl.1
    exact ⟨a, c, h⟩
  subst hv
  simp (maxSteps := 1000000) (disch := first | omega | ((try simp only [bunN]) <;> omega) | fail) only [↓bD, bW, Nat.reduceMul, Nat.reduceEqDiff, Nat.reduceAdd, Nat.reduceBEq, reduceIte]
  refine Ev.mono (next_ok (σ0 := σ) (q := σ.n + 1) (k := 0) (l := l) ?_ ?_ ⟨?_, ?_, ?_⟩ hl hll ?_ ?_) ?_
  · exact eX
  · omega
  · exact cL
  · exact cL
  · omega
  · omega
  · omega
  rintro r ⟨mo, k1, σ1, rfl, -, -, hm1, hE1⟩
  have hn1 := hE1.n
  simp only [new_n] at hn1
  have hE01 : Ext σ σ1 := hE1.ext (Ext.trans (Ext.new σ _) (.new _ _)) (by omega)
  have rb1 : σ1.orow σ.n = some [.slice none 0 0, .slice none 0 0, .slice none 0 0, .int .i64 0, .int .i64 0] := by rw [hE1.orow (by simp; omega) (by omega)]; exact cL
  simp (maxSteps := 1000000) (disch := first | omega | ((try simp only [bunN]) <;> omega) | fail) only [↓bD, bW, Nat.reduceMul, Nat.reduceEqDiff, Nat.reduceAdd, Nat.reduceBEq, reduceIte]
  refine Ev.mono (next_ok (σ0 := σ) hE01 (by omega) hm1 hl hll (by omega) (by omega)) ?_
  rintro r ⟨bu, k2, σ2, rfl, -, -, hm2, hE2⟩
  have hn2 := hE2.n
  have rb2 : σ2.orow σ.n = some [.slice none 0 0, .slice none 0 0, .slice none 0 0, .int .i64 0, .int .i64 0] := by rw [hE2.orow (by omega) (by omega)]; exact rb1
  have hM0 : MI σ σ2.n ((σ2.new [.slice none 0 0, .slice none 0 0, .slice none 0 0, .int .i64 0, .int .i64 0]).upd σ2.n [.slice none 0 0, .slice none 0 0, .slice none 0 0, .int .i64 mo, .int .i64 bu]) (.slice a l.length c) l (.slice none 0 0) (.slice none 0 0) (.slice none 0 0) mo bu := by
    refine ⟨((hE2.ext hE01 (by omega)).new' _).upd (by have := hE01.n; omega) _, by omega, by simp, ⟨k2, ?_, by simp; omega, hm2.le⟩, orow_upd_same, ?_⟩
    · have := hm2.row
      exact cL
    · exact cL
  simp (maxSteps := 1000000) (disch := first | omega | ((try simp only [bunN]) <;> omega) | fail) only [↓bD, bW, Nat.reduceMul, Nat.reduceEqDiff, Nat.reduceAdd, Nat.reduceBEq, reduceIte]
  generalize (σ2.new [.slice none 0 0, .slice none 0 0, .slice none 0 0, .int .i64 0, .int .i64 0]).upd σ2.n [.slice none 0 0, .slice none 0 0, .slice none 0 0, .int .i64 mo, .int .i64 bu] = σ3 at hM0 ⊢
  generalize hpb : σ2.n = pb at hM0 ⊢
  obtain ⟨k3, hm3⟩ := hM0.mkr
  refine Ev.mono (next_ok hM0.ext (by omega) hm3 hl hll (by omega) (by omega)) ?_
  rintro r ⟨x, k4, σ4, rfl, hx0, hx1, hm4, hE4⟩
  have hM4 := hM0.next hE4 hm4
  simp (maxSteps := 1000000) (disch := first | omega | ((try simp only [bunN]) <;> omega) | fail) only [↓bD, bW, Nat.reduceMul, Nat.reduceEqDiff, Nat.reduceAdd, Nat.reduceBEq, reduceIte]
  obtain ⟨xn, rfl⟩ : ∃ k : Nat, x = (k : Int) := ⟨x.toNat, by omega⟩
  refine ev_count (xn + 1) (fun i fr σ' => fr.get 6 = some (.int .i64 i) ∧ fr.get 5 = some (.int .i64 (1 + (xn : Int))) ∧ fr.get 3 = some (.pointer (some ⟨σ.n + 1, 0, none⟩)) ∧ fr.get 4 = some (.pointer (some ⟨pb, 0, none⟩)) ∧ fr.get 2 = some (ptrTo σ.n) ∧
      ∃ vl, ∃ ls : List Int, MI σ pb σ' (.slice a l.length c) l vl (.slice none 0 0) (.slice none 0 0) mo bu ∧ OL (pb + 1) σ' 1 vl (ls.map fun n => [.int .i64 n]) ∧ ls.length = i)
    (fun r => ∃ fr σ' vl, ∃ ls : List Int, r = ⟨.exit 0, fr, σ'⟩ ∧ fr.get 5 = some (.int .i64 (1 + (xn : Int))) ∧ fr.get 3 = some (.pointer (some ⟨σ.n + 1, 0, none⟩)) ∧ fr.get 4 = some (.pointer (some ⟨pb, 0, none⟩)) ∧ fr.get 2 = some (ptrTo σ.n) ∧
      MI σ pb σ' (.slice a l.length c) l vl (.slice none 0 0) (.slice none 0 0) mo bu ∧ OL (pb + 1) σ' 1 vl (ls.map fun n => [.int .i64 n]) ∧ ls.length = xn + 1) ?_ ?_ ?_ ?_
  · exact ⟨fR, fR, fR, fR, fR, _, [], hM4, .nil, rfl⟩
  · rintro i fr σ' hi ⟨g6, g5, g3, g4, g2, vl, ls, hM, ho, hls⟩
    have hc1 : decide ((i : Int) < 1 + (xn : Int)) = true := decide_eq_true (by omega)
    obtain ⟨k, hk⟩ := hM.mkr
    have hp := hM.pb
    have hpr := row_of hp
    have ht := hM.two
    have hn := hM.n
    simp (maxSteps := 1000000) (disch := first | omega | ((try simp only [bunN]) <;> omega) | fail) only [↓bD, bW, Nat.reduceMul, Nat.reduceEqDiff, Nat.reduceAdd, Nat.reduceBEq, reduceIte, g2, g3, g4, g5, g6, hc1, hpr]
    refine Ev.mono (next_ok hM.ext (by omega) hk hl hll (by omega) (by omega)) ?_
    rintro r ⟨y, k', σ1, rfl, hy0, hy1, hk1, hE1⟩
    have hM1 := hM.next hE1 hk1
    have ho1 := ho.keepX hE1 (by omega)
    have hn1 := hM1.n
    have hlr : (ls.map fun n => [Value.int .i64 n]).length ≤ 10 := by rw [List.length_map]; omega
    simp (maxSteps := 1000000) (disch := first | omega | ((try simp only [bunN]) <;> omega) | fail) only [↓bD, bU, Nat.reduceMul, Nat.reduceEqDiff, Nat.reduceAdd, Nat.reduceBEq, reduceIte, splice_succ, ap22, ap38, ap39, ap78, g2, g3, g4, g5, g6]
    refine ev_append (lo := pb + 1) (fun _ _ _ _ => ap33) (ho1.ext ?_) (row_new_same ?_ ?_) (row := [.int .i64 (10 + 3 * (i : Int) - 2 * y)]) rfl ?_ ?_ ?_
    · exact eX
    · simp
    · simp
    · omega
    · simp; omega
    intro v' σ2 ho2 hA hne
    obtain ⟨a2, ha2⟩ := ho2.shape
    subst ha2
    have hM2 := (hM1.of_ext (Ext.new σ1 _)).app hA (fun b hb => (ho1.blk hb).1)
    have hp2 := hM2.pb
    have hb3 : blkOf vl ≠ some pb := fun h => by have := (ho1.blk h).1; omega
    have hn2 := hM2.n
    simp (maxSteps := 1000000) (disch := first | omega | ((try simp only [bunN]) <;> omega) | fail) only [↓bD, bW, Nat.reduceMul, Nat.reduceEqDiff, Nat.reduceAdd, Nat.reduceBEq, reduceIte, g2, g3, g4, g5, g6, hp2]
    refine Must.intro (by (repeat first | simp (disch := omega) only [as_read, as_upd, as_newb, asX hE1 (show pb ≠ σ.n + 1 by omega), asA hA hb3] | rw [as_ord (by kernel_rfl)]); rfl) ?_
    simp (maxSteps := 1000000) (disch := first | omega | ((try simp only [bunN]) <;> omega) | fail) only [↓bD, bW, Nat.reduceMul, Nat.reduceEqDiff, Nat.reduceAdd, Nat.reduceBEq, reduceIte, g2, g3, g4, g5, g6]
    refine ⟨fR, fR1 g5, fR1 g3, fR1 g4, fR1 g2, _, ls ++ [10 + 3 * (i : Int) - 2 * y], hM2.set _ _ _, ?_, by simp [hls]⟩
    rw [List.map_append]
    refine ho2.keep (by simp) fun b hb => ?_
    have := (ho2.blk hb).1
    rw [upd_get, if_neg (by omega)]
  · rintro fr σ' ⟨g6, g5, g3, g4, g2, vl, ls, hM, ho, hls⟩
    have hc1 : decide (((xn + 1 : Nat) : Int) < 1 + (xn : Int)) = false := decide_eq_false (by omega)
    simp (maxSteps := 1000000) (disch := first | omega | ((try simp only [bunN]) <;> omega) | fail) only [↓bD, bW, Nat.reduceMul, Nat.reduceEqDiff, Nat.reduceAdd, Nat.reduceBEq, reduceIte, g5, g6, hc1]
    exact ⟨_, _, vl, ls, rfl, fR1 g5, fR1 g3, fR1 g4, fR1 g2, hM, ho, hls⟩
  rintro r ⟨fr, σ5, vl, ls, rfl, g5, g3, g4, g2, hM5, ho5, hls⟩
  simp (maxSteps := 1000000) (disch := first | omega | ((try simp only [bunN]) <;> omega) | fail) only [↓bD, bW, Nat.reduceMul, Nat.reduceEqDiff, Nat.reduceAdd, Nat.reduceBEq, reduceIte, g3]
  obtain ⟨k5, hk5⟩ := hM5.mkr
  refine Ev.mono (next_ok hM5.ext (by omega) hk5 hl hll (by omega) (by omega)) ?_
  rintro r ⟨m, k6, σ6, rfl, hm0, hm1, hk6, hE6⟩
  have hM6 := hM5.next hE6 hk6
  have hn6M := hM6.n
  have ht := hM6.two
  have ho6 := ho5.keepX hE6 (by omega)
  simp (maxSteps := 1000000) (disch := first | omega | ((try simp only [bunN]) <;> omega) | fail) only [↓bD, bW, Nat.reduceMul, Nat.reduceEqDiff, Nat.reduceAdd, Nat.reduceBEq, reduceIte]
  obtain ⟨mn, rfl⟩ : ∃ k : Nat, m = (k : Int) := ⟨m.toNat, by omega⟩
  have hvb : ∀ b, blkOf vl = some b → b < σ6.n := fun b hb => (ho6.blk hb).2
  have hrows : ∀ r ∈ ls.map fun n => [Value.int .i64 n], r.length = 1 := fun r hr => by
    obtain ⟨n, -, rfl⟩ := List.mem_map.1 hr
    rfl
  refine ev_count mn (fun i fr σ' => fr.get 8 = some (.int .i64 i) ∧ fr.get 7 = some (.int .i64 mn) ∧ fr.get 5 = some (.int .i64 (1 + (xn : Int))) ∧ fr.get 3 = some (.pointer (some ⟨σ.n + 1, 0, none⟩)) ∧ fr.get 4 = some (.pointer (some ⟨pb, 0, none⟩)) ∧ fr.get 2 = some (ptrTo σ.n) ∧
      ∃ vc, ∃ cs : List Cho, MI σ pb σ' (.slice a l.length c) l vl vc (.slice none 0 0) mo bu ∧ OL (pb + 1) σ' 1 vl (ls.map fun n => [.int .i64 n]) ∧ OL σ6.n σ' 4 vc (cs.map Cho.row) ∧ cs.length = i ∧ σ6.n ≤ σ'.n)
    (fun r => ∃ fr σ' vc, ∃ cs : List Cho, r = ⟨.exit 2, fr, σ'⟩ ∧ fr.get 5 = some (.int .i64 (1 + (xn : Int))) ∧ fr.get 3 = some (.pointer (some ⟨σ.n + 1, 0, none⟩)) ∧ fr.get 4 = some (.pointer (some ⟨pb, 0, none⟩)) ∧ fr.get 2 = some (ptrTo σ.n) ∧
      MI σ pb σ' (.slice a l.length c) l vl vc (.slice none 0 0) mo bu ∧ OL (pb + 1) σ' 1 vl (ls.map fun n => [.int .i64 n]) ∧ OL σ6.n σ' 4 vc (cs.map Cho.row) ∧ cs.length = mn ∧ σ6.n ≤ σ'.n) ?_ ?_ ?_ ?_
  · exact ⟨fR, fR, fR1 g5, fR1 g3, fR1 g4, fR1 g2, _, [], hM6, ho6, .nil, rfl, Nat.le_refl _⟩
  · rintro i fr σ' hi ⟨g8, g7, g5, g3, g4, g2, vc, cs, hM, ho, hc, hcs, hn6⟩
    have hc1 := lt_true hi
    obtain ⟨k, hk⟩ := hM.mkr
    have hp := hM.pb
    have hpr := row_of hp
    have hn := hM.n
    obtain ⟨hr0, ⟨-, h0⟩ | ⟨bl, sp, hvl, hsp, b1, b2, b3⟩⟩ := ho
    · rw [List.map_eq_nil_iff] at h0; subst h0; simp at hls
    subst hvl
    have hb6 : bl < σ6.n := hvb bl rfl
    simp (maxSteps := 1000000) (disch := first | omega | ((try simp only [bunN]) <;> omega) | fail) only [↓bD, bW, Nat.reduceMul, Nat.reduceEqDiff, Nat.reduceAdd, Nat.reduceBEq, reduceIte, g2, g3, g4, g5, g7, g8, hc1, hpr]
    refine Ev.mono (next_ok hM.ext (by omega) hk hl hll (by omega) (by omega)) ?_
    rintro r ⟨y, k', σ1, rfl, hy0, hy1, hk1, hE1⟩
    obtain ⟨yn, rfl⟩ : ∃ k : Nat, y = (k : Int) := ⟨y.toNat, by omega⟩
    have hM1 := hM.next hE1 hk1
    have hn1 := hM1.n
    have e1 := hE1.n
    obtain ⟨z, hz⟩ := at_some (l := ls) (k := yn) (by omega)
    have hyl : yn < (ls.map fun n => [Value.int .i64 n]).length := by rw [List.length_map]; omega
    have r1 : σ1.row bl = some (ls.map fun n => [Value.int .i64 n]).flatten := by rw [hE1.row (by omega) (by omega)]; exact row_of b3
    have s1 : sub (ls.map fun n => [Value.int .i64 n]).flatten yn 1 = some [.int .i64 z] := by
      have := sub_rows (k := 1) (o := 0) (n := 1) hrows (getmap (fun n => [Value.int .i64 n]) hz) (by omega)
      rw [Nat.mul_one, Nat.add_zero] at this
      exact this
    simp (maxSteps := 1000000) (disch := first | omega | ((try simp only [bunN]) <;> omega) | fail) only [↓bD, bW, Nat.reduceMul, Nat.reduceEqDiff, Nat.reduceAdd, Nat.reduceBEq, reduceIte, g2, g3, g4, g5, g7, g8, r1, s1, hyl]
    refine Ev.mono (next_ok hM1.ext (by omega) hk1 hl hll (by omega) (by omega)) ?_
    rintro r ⟨u, k'', σ2, rfl, hu0, hu1, hk2, hE2⟩
    have hM2 := hM1.next hE2 hk2
    simp (maxSteps := 1000000) (disch := first | omega | ((try simp only [bunN]) <;> omega) | fail) only [↓bD, bW, Nat.reduceMul, Nat.reduceEqDiff, Nat.reduceAdd, Nat.reduceBEq, reduceIte, g2, g3, g4, g5, g7, g8]
    refine Ev.mono (next_ok hM2.ext (by omega) hk2 hl hll (by omega) (by omega)) ?_
    rintro r ⟨p1, k3', σ3', rfl, hp0, hp1, hk3, hE3⟩
    have hM3 := hM2.next hE3 hk3
    simp (maxSteps := 1000000) (disch := first | omega | ((try simp only [bunN]) <;> omega) | fail) only [↓bD, bW, Nat.reduceMul, Nat.reduceEqDiff, Nat.reduceAdd, Nat.reduceBEq, reduceIte, g2, g3, g4, g5, g7, g8]
    refine Ev.mono (next_ok hM3.ext (by omega) hk3 hl hll (by omega) (by omega)) ?_
    rintro r ⟨q1, k4', σ4', rfl, hq0, hq1, hk4, hE4'⟩
    have hM4' := hM3.next hE4' hk4
    have hE14 : ExtX (σ.n + 1) σ' σ4' := ((hE1.trans hE2).trans hE3).trans hE4'
    have hc4 := hc.keepX hE14 (by omega)
    have e14 := hE14.n
    have hlr : (cs.map Cho.row).length ≤ 100 := by rw [List.length_map]; omega
    simp (maxSteps := 1000000) (disch := first | omega | ((try simp only [bunN]) <;> omega) | fail) only [↓bD, bU, Nat.reduceMul, Nat.reduceEqDiff, Nat.reduceAdd, Nat.reduceBEq, reduceIte, splice_succ, ap22, ap33, ap39, ap78, g2, g3, g4, g5, g7, g8]
    refine ev_append (lo := σ6.n) (fun _ _ _ _ => ap38) (hc4.ext ?_) (row_new_same ?_ ?_) (row := Cho.row ⟨z, 1 + u, p1, q1⟩) rfl ?_ ?_ ?_
    · exact eX
    · simp
    · simp
    · omega
    · simp; omega
    intro v' σ5' hc5 hA hne
    obtain ⟨a2, ha2⟩ := hc5.shape
    subst ha2
    have hM5' := (hM4'.of_ext (Ext.new σ4' _)).app hA (fun b hb => by have := (hc4.blk hb).1; omega)
    have hp5 := hM5'.pb
    have hb5 : blkOf vc ≠ some pb := fun h => by have := (hc4.blk h).1; omega
    have hb6' : blkOf vc ≠ some bl := fun h => by have := (hc4.blk h).1; omega
    have hn5 := hA.n
    simp only [new_n] at hn5
    simp (maxSteps := 1000000) (disch := first | omega | ((try simp only [bunN]) <;> omega) | fail) only [↓bD, bW, Nat.reduceMul, Nat.reduceEqDiff, Nat.reduceAdd, Nat.reduceBEq, reduceIte, g2, g3, g4, g5, g7, g8, hp5]
    refine Must.intro (by (repeat first | simp (disch := omega) only [as_read, as_upd, as_newb, asX hE1 (show pb ≠ σ.n + 1 by omega), asX hE2 (show pb ≠ σ.n + 1 by omega), asX hE3 (show pb ≠ σ.n + 1 by omega), asX hE4' (show pb ≠ σ.n + 1 by omega), asA hA hb5, asX hE1 (show bl ≠ σ.n + 1 by omega), asX hE2 (show bl ≠ σ.n + 1 by omega), asX hE3 (show bl ≠ σ.n + 1 by omega), asX hE4' (show bl ≠ σ.n + 1 by omega), asA hA hb6'] | rw [as_ord (by kernel_rfl)]); rfl) ?_
    simp (maxSteps := 1000000) (disch := first | omega | ((try simp only [bunN]) <;> omega) | fail) only [↓bD, bW, Nat.reduceMul, Nat.reduceEqDiff, Nat.reduceAdd, Nat.reduceBEq, reduceIte, g2, g3, g4, g5, g7, g8]
    have hB : Bel σ pb σ6.n σ' σ5' := by
      refine ((Bel.next hE14 (by omega)).trans (Bel.ext (Ext.new σ4' _) (by omega))).trans (Bel.app hA ?_ fun b hb => (hc4.blk hb).1)
      simp; omega
    refine ⟨fR, fR1 g7, fR1 g5, fR1 g3, fR1 g4, fR1 g2, _, cs ++ [⟨z, 1 + u, p1, q1⟩], hM5'.set _ _ _, ?_, ?_, by simp [hcs], by show σ6.n ≤ σ5'.n; omega⟩
    · exact OL.bel ⟨hr0, .inr ⟨bl, sp, rfl, hsp, b1, b2, b3⟩⟩ (hB.trans (Bel.upd _)) ht (Nat.le_refl _) hvb
    · rw [List.map_append]
      refine hc5.keep (by simp) fun b hb => ?_
      have := (hc5.blk hb).1
      rw [upd_get, if_neg (by omega)]
  · rintro fr σ' ⟨g8, g7, g5, g3, g4, g2, vc, cs, hM, ho, hc, hcs, hn6⟩
    simp (maxSteps := 1000000) (disch := first | omega | ((try simp only [bunN]) <;> omega) | fail) only [↓bD, bW, Nat.reduceMul, Nat.reduceEqDiff, Nat.reduceAdd, Nat.reduceBEq, reduceIte, g7, g8]
    exact ⟨_, _, vc, cs, rfl, fR1 g5, fR1 g3, fR1 g4, fR1 g2, hM, ho, hc, hcs, hn6⟩
  rintro r ⟨fr, σ7, vc, cs, rfl, g5, g3, g4, g2, hM7, ho7, hc7, hcs, hn67⟩
  simp (maxSteps := 1000000) (disch := first | omega | ((try simp only [bunN]) <;> omega) | fail) only [↓bD, bW, Nat.reduceMul, Nat.reduceEqDiff, Nat.reduceAdd, Nat.reduceBEq, reduceIte, g3]
  obtain ⟨k7, hk7⟩ := hM7.mkr
  refine Ev.mono (next_ok hM7.ext (by omega) hk7 hl hll (by omega) (by omega)) ?_
  rintro r ⟨d, k8, σ8, rfl, hd0, hd1, hk8, hE8⟩
  have hM8 := hM7.next hE8 hk8
  have ho8 := ho7.keepX hE8 (by omega)
  have hc8 := hc7.keepX hE8 (by omega)
  simp (maxSteps := 1000000) (disch := first | omega | ((try simp only [bunN]) <;> omega) | fail) only [↓bD, bW, Nat.reduceMul, Nat.reduceEqDiff, Nat.reduceAdd, Nat.reduceBEq, reduceIte]
  obtain ⟨dn, rfl⟩ : ∃ k : Nat, d = (k : Int) := ⟨d.toNat, by omega⟩
  have hvc : ∀ b, blkOf vc = some b → b < σ8.n := fun b hb => (hc8.blk hb).2
  have hn8M := hM8.n
  have hn78 := hE8.n
  have hvb8 : ∀ b, blkOf vl = some b → b < σ8.n := fun b hb => by have := hvb b hb; omega
  refine ev_count dn (fun i fr σ' => fr.get 10 = some (.int .i64 i) ∧ fr.get 9 = some (.int .i64 dn) ∧ fr.get 5 = some (.int .i64 (1 + (xn : Int))) ∧ fr.get 3 = some (.pointer (some ⟨σ.n + 1, 0, none⟩)) ∧ fr.get 4 = some (.pointer (some ⟨pb, 0, none⟩)) ∧ fr.get 2 = some (ptrTo σ.n) ∧
      ∃ vr, ∃ rs : List (List Value), MI σ pb σ' (.slice a l.length c) l vl vc vr mo bu ∧ OL (pb + 1) σ' 1 vl (ls.map fun n => [.int .i64 n]) ∧ OL σ6.n σ' 4 vc (cs.map Cho.row) ∧ OL σ8.n σ' 3 vr rs ∧ rs.length = i ∧ σ8.n ≤ σ'.n)
    (fun r => ∃ fr σ' vr, r = ⟨.exit 4, fr, σ'⟩ ∧ fr.get 5 = some (.int .i64 (1 + (xn : Int))) ∧ fr.get 3 = some (.pointer (some ⟨σ.n + 1, 0, none⟩)) ∧ fr.get 4 = some (.pointer (some ⟨pb, 0, none⟩)) ∧ fr.get 2 = some (ptrTo σ.n) ∧
      MI σ pb σ' (.slice a l.length c) l vl vc vr mo bu ∧ OL (pb + 1) σ' 1 vl (ls.map fun n => [.int .i64 n]) ∧ OL σ6.n σ' 4 vc (cs.map Cho.row) ∧ σ8.n ≤ σ'.n) ?_ ?_ ?_ ?_
  · exact ⟨fR, fR, fR1 g5, fR1 g3, fR1 g4, fR1 g2, _, [], hM8, ho8, hc8, .nil, rfl, Nat.le_refl _⟩
  · rintro i fr σ' hi ⟨g10, g9, g5, g3, g4, g2, vr, rs, hM, ho, hc, hr, hrs, hn8⟩
    have hc1 := lt_true hi
    obtain ⟨k, hk⟩ := hM.mkr
    simp (maxSteps := 1000000) (disch := first | omega | ((try simp only [bunN]) <;> omega) | fail) only [↓bD, bW, Nat.reduceMul, Nat.reduceEqDiff, Nat.reduceAdd, Nat.reduceBEq, reduceIte, g2, g3, g4, g5, g9, g10, hc1]
    refine Ev.mono (next_ok hM.ext (by omega) hk hl hll (by omega) (by omega)) ?_
    rintro r ⟨e1, k', σ1, rfl, he0, he1, hk1, hE1⟩
    have hM1 := hM.next hE1 hk1
    simp (maxSteps := 1000000) (disch := first | omega | ((try simp only [bunN]) <;> omega) | fail) only [↓bD, bW, Nat.reduceMul, Nat.reduceEqDiff, Nat.reduceAdd, Nat.reduceBEq, reduceIte, g2, g3, g4, g5, g9, g10]
    refine Ev.mono (next_ok hM1.ext (by omega) hk1 hl hll (by omega) (by omega)) ?_
    rintro r ⟨e2, k'', σ2, rfl, he20, he21, hk2, hE2⟩
    have hM2 := hM1.next hE2 hk2
    have hE12 : ExtX (σ.n + 1) σ' σ2 := hE1.trans hE2
    have n12 := hE12.n
    have hDx : Ext σ2 ((σ2.new [.int .i64 0, .slice none 0 0, .int .i64 0]).upd σ2.n [.int .i64 (1 + e1), .slice none 0 0, .int .i64 e2]) := (Ext.new σ2 _).upd (Nat.le_refl _) _
    have hDo : ((σ2.new [.int .i64 0, .slice none 0 0, .int .i64 0]).upd σ2.n [.int .i64 (1 + e1), .slice none 0 0, .int .i64 e2]).orow σ2.n = some [.int .i64 (1 + e1), .slice none 0 0, .int .i64 e2] := orow_upd_same
    have hDn : ((σ2.new [.int .i64 0, .slice none 0 0, .int .i64 0]).upd σ2.n [.int .i64 (1 + e1), .slice none 0 0, .int .i64 e2]).n = σ2.n + 1 := rfl
    obtain ⟨N, hN0, hN1, hshl⟩ := shl_ex (k := xn) (by omega)
    simp (maxSteps := 1000000) (disch := first | omega | ((try simp only [bunN]) <;> omega) | fail) only [↓bD, bW, Nat.reduceMul, Nat.reduceEqDiff, Nat.reduceAdd, Nat.reduceBEq, reduceIte, g2, g3, g4, g5, g9, g10, hshl]
    generalize (σ2.new [.int .i64 0, .slice none 0 0, .int .i64 0]).upd σ2.n [.int .i64 (1 + e1), .slice none 0 0, .int .i64 e2] = σ3 at hDx hDo hDn ⊢
    have hM3 := hM2.of_ext hDx
    obtain ⟨k3', hk3⟩ := hM3.mkr
    have hn2M := hM2.n
    refine Ev.mono (next_ok hM3.ext (by omega) hk3 hl hll (by omega) (by omega)) ?_
    rintro r ⟨z, k4', σ4, rfl, hz0, hz1, hk4, hE4⟩
    have hM4 := hM3.next hE4 hk4
    have hB4 : Bel σ pb σ2.n σ2 σ4 := (Bel.ext hDx (Nat.le_refl _)).trans (Bel.next hE4 (by omega))
    have ho2 := ho.keepX hE12 (by omega)
    have hc2 := hc.keepX hE12 (by omega)
    have hr2 := hr.keepX hE12 (by omega)
    have bo : ∀ b, blkOf vl = some b → b < σ2.n := fun b hb => (ho2.blk hb).2
    have bc : ∀ b, blkOf vc = some b → b < σ2.n := fun b hb => (hc2.blk hb).2
    have br : ∀ b, blkOf vr = some b → b < σ2.n := fun b hb => (hr2.blk hb).2
    have ho4 := ho2.bel hB4 ht (Nat.le_refl _) bo
    have hc4 := hc2.bel hB4 ht (by omega) bc
    have hr4 := hr2.bel hB4 ht (by omega) br
    have hdo4 : σ4.orow σ2.n = some [.int .i64 (1 + e1), .slice none 0 0, .int .i64 e2] := by rw [hE4.orow (by omega) (by omega)]; exact hDo
    have hn4 := hE4.n
    simp (maxSteps := 1000000) (disch := first | omega | ((try simp only [bunN]) <;> omega) | fail) only [↓bD, bW, Nat.reduceMul, Nat.reduceEqDiff, Nat.reduceAdd, Nat.reduceBEq, reduceIte]
    refine ev_count (xn + 1) (fun j fr τ => fr.get 13 = some (.int .i64 j) ∧ fr.get 12 = some (.int .i64 (1 + z)) ∧ fr.get 10 = some (.int .i64 i) ∧ fr.get 9 = some (.int .i64 dn) ∧ fr.get 11 = some (.pointer (some ⟨σ2.n, 0, none⟩)) ∧ fr.get 5 = some (.int .i64 (1 + (xn : Int))) ∧ fr.get 3 = some (.pointer (some ⟨σ.n + 1, 0, none⟩)) ∧ fr.get 4 = some (.pointer (some ⟨pb, 0, none⟩)) ∧ fr.get 2 = some (ptrTo σ.n) ∧
        ∃ vd, ∃ ds : List Int, MI σ pb τ (.slice a l.length c) l vl vc vr mo bu ∧ OL (pb + 1) τ 1 vl (ls.map fun n => [.int .i64 n]) ∧ OL σ6.n τ 4 vc (cs.map Cho.row) ∧ OL σ8.n τ 3 vr rs ∧ τ.orow σ2.n = some [.int .i64 (1 + e1), vd, .int .i64 e2] ∧ OL (σ2.n + 1) τ 1 vd (ds.map fun n => [.int .i64 n]) ∧ σ2.n + 1 ≤ τ.n ∧ ds.length ≤ j)
      (fun r => ∃ fr τ vd, ∃ ds : List Int, r = ⟨.exit 6, fr, τ⟩ ∧ fr.get 10 = some (.int .i64 i) ∧ fr.get 9 = some (.int .i64 dn) ∧ fr.get 11 = some (.pointer (some ⟨σ2.n, 0, none⟩)) ∧ fr.get 5 = some (.int .i64 (1 + (xn : Int))) ∧ fr.get 3 = some (.pointer (some ⟨σ.n + 1, 0, none⟩)) ∧ fr.get 4 = some (.pointer (some ⟨pb, 0, none⟩)) ∧ fr.get 2 = some (ptrTo σ.n) ∧ MI σ pb τ (.slice a l.length c) l vl vc vr mo bu ∧ OL (pb + 1) τ 1 vl (ls.map fun n => [.int .i64 n]) ∧ OL σ6.n τ 4 vc (cs.map Cho.row) ∧ OL σ8.n τ 3 vr rs ∧ τ.orow σ2.n = some [.int .i64 (1 + e1), vd, .int .i64 e2] ∧ OL (σ2.n + 1) τ 1 vd (ds.map fun n => [.int .i64 n]) ∧ σ2.n + 1 ≤ τ.n) ?_ ?_ ?_ ?_
    · exact ⟨fR, fR, fR1 g10, fR1 g9, fR, fR1 g5, fR1 g3, fR1 g4, fR1 g2, _, [], hM4, ho4, hc4, hr4, hdo4, .nil, by omega, by simp⟩
    · rintro j fr τ hj ⟨g13, g12, g10, g9, g11, g5, g3, g4, g2, vd, ds, hM, ho, hc, hr, hd, hds, hnd, hdl⟩
      have hc1 : decide ((j : Int) < 1 + (xn : Int)) = true := decide_eq_true (by omega)
      obtain ⟨s1, hs0, hs1, hshr⟩ := shr_ex (w := 1 + z) (k := j) (by omega) (by omega) (by omega)
      obtain ⟨s2, hand⟩ := and_ex hs0 hs1
      cases hq : decide (s2 = 1) with
      | false =>
        simp (maxSteps := 1000000) (disch := first | omega | ((try simp only [bunN]) <;> omega) | fail) only [↓bD, bW, Nat.reduceMul, Nat.reduceEqDiff, Nat.reduceAdd, Nat.reduceBEq, reduceIte, g2, g3, g4, g5, g9, g10, g11, g12, g13, hc1, hshr, hand, hq]
        exact ⟨fR, fR1 g12, fR1 g10, fR1 g9, fR1 g11, fR1 g5, fR1 g3, fR1 g4, fR1 g2, vd, ds, hM, ho, hc, hr, hd, hds, hnd, by omega⟩
      | true =>
        have hpr := row_of hM.pb
        have hdr := row_of hd
        obtain ⟨hr0, ⟨-, h0⟩ | ⟨bl, sp, hvl, hsp, b1, b2, b3⟩⟩ := ho
        · rw [List.map_eq_nil_iff] at h0; subst h0; simp at hls
        subst hvl
        have hbl := bo bl rfl
        obtain ⟨y, hy⟩ := at_some (l := ls) (k := j) (by omega)
        have hyl : j < (ls.map fun n => [Value.int .i64 n]).length := by rw [List.length_map]; omega
        have r1 := row_of b3
        have s1 : sub (ls.map fun n => [Value.int .i64 n]).flatten j 1 = some [.int .i64 y] := by
          have := sub_rows (k := 1) (o := 0) (n := 1) hrows (getmap (fun n => [Value.int .i64 n]) hy) (by omega)
          rw [Nat.mul_one, Nat.add_zero] at this
          exact this
        have hlr : (ds.map fun n => [Value.int .i64 n]).length ≤ 10 := by rw [List.length_map]; omega
        simp (maxSteps := 1000000) (disch := first | omega | ((try simp only [bunN]) <;> omega) | fail) only [↓bD, bU, Nat.reduceMul, Nat.reduceEqDiff, Nat.reduceAdd, Nat.reduceBEq, reduceIte, splice_succ, ap22, ap38, ap39, ap78, g2, g3, g4, g5, g9, g10, g11, g12, g13, hc1, hshr, hand, hq, hpr, hdr, r1, s1, hyl]
        refine ev_append (lo := σ2.n + 1) (fun _ _ _ _ => ap33) (hds.ext ?_) (row_new_same ?_ ?_) (row := [.int .i64 y]) rfl ?_ ?_ ?_
        · exact eX
        · simp
        · simp
        · omega
        · simp; omega
        intro v' τ2 hd2 hA hne
        obtain ⟨a2, ha2⟩ := hd2.shape
        subst ha2
        have hM5 := (hM.of_ext (Ext.new τ _)).app hA (fun b hb => by have := (hds.blk hb).1; omega)
        have e5 : blkOf vd ≠ some σ2.n := fun h => by have := (hds.blk h).1; omega
        have e6 : blkOf vd ≠ some pb := fun h => by have := (hds.blk h).1; omega
        have e7 : blkOf vd ≠ some bl := fun h => by have := (hds.blk h).1; omega
        have hd5 : τ2.orow σ2.n = some [.int .i64 (1 + e1), vd, .int .i64 e2] := by
          rw [orow_congr (hA.same σ2.n (by simp; omega) e5), orow_new_ne (by omega)]; exact hd
        have nA := hA.n
        simp only [new_n] at nA
        simp (maxSteps := 1000000) (disch := first | omega | ((try simp only [bunN]) <;> omega) | fail) only [↓bD, bW, Nat.reduceMul, Nat.reduceEqDiff, Nat.reduceAdd, Nat.reduceBEq, reduceIte, g2, g3, g4, g5, g9, g10, g11, g12, g13, hd5]
        refine Must.intro (by (repeat first | simp (disch := omega) only [as_read, as_upd, as_newb, asA hA e5, asA hA e6, asA hA e7] | rw [as_ord (by kernel_rfl)]); rfl) ?_
        simp (maxSteps := 1000000) (disch := first | omega | ((try simp only [bunN]) <;> omega) | fail) only [↓bD, bW, Nat.reduceMul, Nat.reduceEqDiff, Nat.reduceAdd, Nat.reduceBEq, reduceIte, g2, g3, g4, g5, g9, g10, g11, g12, g13]
        have hB : Bel σ pb σ2.n τ τ2 := by
          refine (Bel.ext (Ext.new τ _) (by omega)).trans (Bel.app hA ?_ fun b hb => by have := (hds.blk hb).1; omega)
          simp; omega
        refine ⟨fR, fR1 g12, fR1 g10, fR1 g9, fR1 g11, fR1 g5, fR1 g3, fR1 g4, fR1 g2, _, ds ++ [y], hM5.updHi (by omega) _, ?_, ?_, ?_, rfl, ?_, by show σ2.n + 1 ≤ τ2.n; omega, by simp; omega⟩
        · exact OL.bel ⟨hr0, .inr ⟨bl, sp, rfl, hsp, b1, b2, b3⟩⟩ (hB.trans (Bel.updHi (Nat.le_refl _) _)) ht (Nat.le_refl _) bo
        · exact hc.bel (hB.trans (Bel.updHi (Nat.le_refl _) _)) ht (by omega) bc
        · exact hr.bel (hB.trans (Bel.updHi (Nat.le_refl _) _)) ht (by omega) br
        · rw [List.map_append]
          refine hd2.keep (by simp) fun b hb => ?_
          have := (hd2.blk hb).1
          rw [upd_get, if_neg (by omega)]
    · rintro fr τ ⟨g13, g12, g10, g9, g11, g5, g3, g4, g2, vd, ds, hM, ho, hc, hr, hd, hds, hnd, hdl⟩
      have hc1 : decide (((xn + 1 : Nat) : Int) < 1 + (xn : Int)) = false := decide_eq_false (by omega)
      simp (maxSteps := 1000000) (disch := first | omega | ((try simp only [bunN]) <;> omega) | fail) only [↓bD, bW, Nat.reduceMul, Nat.reduceEqDiff, Nat.reduceAdd, Nat.reduceBEq, reduceIte, g5, g13, hc1]
      exact ⟨_, _, vd, ds, rfl, fR1 g10, fR1 g9, fR1 g11, fR1 g5, fR1 g3, fR1 g4, fR1 g2, hM, ho, hc, hr, hd, hds, hnd⟩
    rintro r ⟨fr, τ, vd, ds, rfl, g10, g9, g11, g5, g3, g4, g2, hM, ho, hc, hr, hd, hds, hnd⟩
    have hp := row_of hM.pb
    have hdr := row_of hd
    have hlr : rs.length ≤ 10 := by omega
    obtain ⟨avd, hvd⟩ := hds.shape
    simp (maxSteps := 1000000) (disch := first | omega | ((try simp only [bunN]) <;> omega) | fail) only [↓bD, bU, Nat.reduceMul, Nat.reduceEqDiff, Nat.reduceAdd, Nat.reduceBEq, reduceIte, splice_succ, ap22, ap33, ap38, ap78, g2, g3, g4, g5, g9, g10, g11, hp, hdr]
    refine ev_append (lo := σ8.n) (fun _ _ _ _ => ap39) (hr.ext ?_) (row_new_same ?_ ?_) (row := [.int .i64 (1 + e1), vd, .int .i64 e2]) rfl ?_ ?_ ?_
    · exact eX
    · simp
    · simp
    · omega
    · simp; omega
    intro v' τ2 hr2' hA hne
    obtain ⟨a2, ha2⟩ := hr2'.shape
    subst ha2
    have hM5 := (hM.of_ext (Ext.new τ _)).app hA (fun b hb => by have := (hr.blk hb).1; omega)
    have hp5 := hM5.pb
    have nA := hA.n
    simp only [new_n] at nA
    simp (maxSteps := 1000000) (disch := first | omega | ((try simp only [bunN]) <;> omega) | fail) only [↓bD, bW, Nat.reduceMul, Nat.reduceEqDiff, Nat.reduceAdd, Nat.reduceBEq, reduceIte, g2, g3, g4, g5, g9, g10, g11, hp5]
    have hB : Bel σ pb σ8.n τ τ2 := by
      refine (Bel.ext (Ext.new τ _) (by omega)).trans (Bel.app hA ?_ fun b hb => (hr.blk hb).1)
      simp; omega
    refine ⟨fR, fR1 g9, fR1 g5, fR1 g3, fR1 g4, fR1 g2, _, rs ++ [[.int .i64 (1 + e1), vd, .int .i64 e2]], hM5.set _ _ _, ?_, ?_, ?_, by simp [hrs], by show σ8.n ≤ τ2.n; omega⟩
    · exact ho.bel (hB.trans (Bel.upd _)) ht (Nat.le_refl _) hvb8
    · exact hc.bel (hB.trans (Bel.upd _)) ht (by omega) hvc
    · refine hr2'.keep (by simp) fun b hb => ?_
      have := (hr2'.blk hb).1
      rw [upd_get, if_neg (by omega)]
  · rintro fr σ' ⟨g10, g9, g5, g3, g4, g2, vr, rs, hM, ho, hc, hr, hrs, hn8⟩
    simp (maxSteps := 1000000) (disch := first | omega | ((try simp only [bunN]) <;> omega) | fail) only [↓bD, bW, Nat.reduceMul, Nat.reduceEqDiff, Nat.reduceAdd, Nat.reduceBEq, reduceIte, g9, g10]
    exact ⟨_, _, vr, rfl, fR1 g5, fR1 g3, fR1 g4, fR1 g2, hM, ho, hc, hn8⟩
  rintro r ⟨fr, σ9, vr, rfl, g5, g3, g4, g2, hM9, ho9, hc9, hn9⟩
  have hp9 := row_of hM9.pb
  have hb9 := hM9.rb
  have ht9 := hM9.two
  obtain ⟨avl, hvl⟩ := ho9.shape
  obtain ⟨avc, hvc'⟩ := hc9.shape
  simp (maxSteps := 1000000) (disch := first | omega | ((try simp only [bunN]) <;> omega) | fail) only [↓bD, bW, Nat.reduceMul, Nat.reduceEqDiff, Nat.reduceAdd, Nat.reduceBEq, reduceIte, g2, g4, hp9, hb9, Tryz.results11]
  refine ⟨_, _, _, _, _, cs, _, rfl, hM9.ext.upd (Nat.le_refl _) _, by omega, (hc9.keep (by simp) fun b hb => ?_).sls⟩
  have := (hc9.blk hb).1
  rw [upd_get, if_neg (by omega)]
end Go.Proofs.G
