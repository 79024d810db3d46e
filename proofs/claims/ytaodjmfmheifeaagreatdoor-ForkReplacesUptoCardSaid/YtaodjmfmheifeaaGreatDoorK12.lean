/- A part of the proof: a walk of some functions. -/
import Derived.Test.YtaodjmfmheifeaaGreatDoorK11
set_option linter.unusedSimpArgs false
set_option linter.unusedVariables false
namespace Go.Proofs.G
open Go Go.Ab
set_option maxRecDepth 100000
theorem bn_bool {x y : Operand} {a b : Bool} : bin2 Tryz.prog .neq 4 x y (.bool a) (.bool b) = some (.bool (bi a (!b) b)) := by cases a <;> cases b <;> kernel_rfl
/-- A list of one's own, and another one behind it. -/
theorem ev_cat {P : Program} {σ : St} {t size by' lo : Nat} {v w : Value} {rows rows2 : List (List Value)} {Q : Value × St → Prop} {uq : Hd Q}
    (hap : ∀ (b : Option Addr) (len cap : Nat) (w : Value), appendV P σ t (.slice b len cap) w = ob (srcCells σ size w) fun p => pr p fun n new => bi (Nat.ble (len + n) cap) (appendIn σ size b len cap n new) (bb (Nat.ble ((len + n) * by') room) (appendNew σ size b len n new)))
    (hl : OL lo σ size v rows) (h0 : 0 < rows.length) (hk : SLs σ size w rows2) (hb : (rows.length + rows2.length) * by' ≤ 4294967296) (hlo : lo ≤ σ.n)
    (h : ∀ v' σ', OL lo σ' size v' (rows ++ rows2) → σ.n ≤ σ'.n → (∀ c, c < σ.n → blkOf v ≠ some c → σ'.h.get c = σ.h.get c) → Q (v', σ')) : Ev (appendV P σ t v w) Q uq := by
  obtain ⟨hr, ⟨rfl, rfl⟩ | ⟨b, sp, rfl, hsp, b1, b2, b3⟩⟩ := hl
  · simp at h0
  have hf1 := flatten_len rows hr
  have hf2 := flatten_len rows2 hk.1
  have hrr : ∀ r ∈ rows ++ rows2, r.length = size := by
    intro r hm
    rcases List.mem_append.1 hm with hm | hm
    · exact hr r hm
    · exact hk.1 r hm
  have hroom : Nat.ble ((rows.length + rows2.length) * by') room = true := ble_of hb
  have hold : sub rows.flatten 0 (rows.length * size) = some rows.flatten := sub_full (by omega) (by omega)
  rw [hap, hk.src, ob_some, pr_mk]
  by_cases hz : rows2.length = 0
  · obtain rfl : rows2 = [] := List.eq_nil_of_length_eq_zero hz
    rw [show Nat.ble (rows.length + ([] : List (List Value)).length) rows.length = true from ble_of (by simp), bi_true, ai_some, write_eq, b3, ob_some]
    have hs : splice rows.flatten (0 + rows.length * size) ([] : List (List Value)).flatten = some rows.flatten := by
      rw [splice_at (by rw [List.flatten_nil, List.length_nil, hf1]; omega), List.take_of_length_le (by rw [hf1]; omega), List.drop_eq_nil_of_le (by rw [hf1, List.flatten_nil, List.length_nil]; omega)]; simp
    rw [hs, ob_some, ob_some, ev_some]
    refine h _ _ ⟨hrr, .inr ⟨b, sp, by simp, hsp, b1, b2, by simpa using orow_upd_same⟩⟩ (Nat.le_refl _) fun c hc hne => ?_
    rw [upd_get, if_neg (fun h => hne (by rw [h]; rfl))]
  · rw [ble_no (by omega), bi_false, hroom, bb_true]
    rcases hsp with rfl | rfl
    · rw [an_plain, read_eq, row_of b3, ob_some, hold, ob_some, ev_some]
      refine h _ _ ⟨hrr, .inr ⟨σ.n, some size, by simp, .inr rfl, hlo, by simp, ?_⟩⟩ (by simp) fun c hc _ => by rw [new_get, if_neg (by omega)]
      rw [List.flatten_append, orow_new_same (Nat.le_refl _) (Nat.le_refl _)]
    · rw [an_some, read_eq, row_of b3, ob_some, hold, ob_some, kill_eq, b3, ob_some, ob_some, ev_some]
      refine h _ _ ⟨hrr, .inr ⟨σ.n, some size, by simp, .inr rfl, hlo, by simp, ?_⟩⟩ (by simp) fun c hc hne => ?_
      · rw [List.flatten_append, orow_new_same (by simp) (by simp)]
      · rw [new_get, if_neg (by rw [dead_n]; omega), dead_get, if_neg (fun h => hne (by rw [h]; rfl))]
/- The plain law. -/
def mv (len : Nat) (n : Int) : Int := if 0 ≤ n ∧ n < (len : Int) then n + 1 else -1
theorem win_moved (c0 : Cho) (cs : List Cho) (take : List Int) : win (c0 :: cs) (take.map (mv cs.length)) = win cs take := by
  unfold win
  rw [List.filterMap_map]
  congr 1
  funext n
  show win1 (c0 :: cs) (mv cs.length n) = win1 cs n
  unfold mv
  by_cases h : 0 ≤ n ∧ n < (cs.length : Int)
  · rw [if_pos h]
    unfold win1
    rw [if_pos (by omega), if_pos h.1, show (n + 1).toNat = n.toNat + 1 by omega, List.getElem?_cons_succ]
  · rw [if_neg h]
    unfold win1
    rw [if_neg (by omega)]
    split
    · rw [List.getElem?_eq_none (by omega)]; rfl
    · rfl
set_option maxHeartbeats 8000000 in
theorem law_same_ok {σ : St} {va vb wa wb : Value} {la lb ta tb : List Int} (ha : ArgInts σ va la) (hb : ArgInts σ vb lb) (hta : ArgInts σ wa ta) (htb : ArgInts σ wb tb)
    (la1 : la.length ≤ 1048576) (lb1 : lb.length ≤ 1048576) (ta1 : ta.length ≤ 1048576) (tb1 : tb.length ≤ 1048576) :
    Ev (go Tryz.prog HS (.fn 4) [.agg ⟨[va, vb]⟩, .agg ⟨[wa, wb]⟩] σ) (fun r => ∃ σ', r = ⟨false, .bool true, σ'⟩) ⟨⟩ := by
  refine ev_go Tryz.func4 rfl rfl ?_
  have shape : ∀ {v : Value} {l : List Int}, ArgInts σ v l → ∃ a c, v = .slice a l.length c := fun {v l} h => by
    obtain ⟨a, c, b, off, cells, h, -, -⟩ := SL.use' h.1
    exact ⟨a, c, h⟩
  obtain ⟨aa, ca, hva⟩ := shape ha
  obtain ⟨ab, cb, hvb⟩ := shape hb
  obtain ⟨ac, cc, hwa⟩ := shape hta
  obtain ⟨ad, cd, hwb⟩ := shape htb
  subst hva; subst hvb; subst hwa; subst hwb
  simp (maxSteps := 1000000) (disch := first | omega | ((try simp only [bunN]) <;> omega) | fail) only [↓bD, bW, Nat.reduceMul, Nat.reduceEqDiff, Nat.reduceAdd, Nat.reduceBEq, reduceIte, ev_san]
  refine Ev.mono (made_ok (l := la) ⟨SL.mono ha.1 ?_, ha.2⟩ la1) ?_
  · exact eX
  rintro r ⟨vl1, vc1, vr1, mo1, bu1, p, σ1, rfl, hE1, hp12, hp⟩
  have n1 := hE1.n
  simp only [new_n] at n1
  have hE01 : Ext σ σ1 := Ext.trans (Ext.trans (Ext.new σ _) (.new _ _)) hE1
  have x1 : σ1.orow σ.n = some [.slice aa la.length ca, .slice ab lb.length cb] := by rw [hE1.orow (by simp; omega)]; exact cL
  have y1 : σ1.orow (σ.n + 1) = some [.slice ac ta.length cc, .slice ad tb.length cd] := by rw [hE1.orow (by simp)]; exact cL
  have x1r := row_of x1
  simp (maxSteps := 1000000) (disch := first | omega | ((try simp only [bunN]) <;> omega) | fail) only [↓bD, bW, Nat.reduceMul, Nat.reduceEqDiff, Nat.reduceAdd, Nat.reduceBEq, reduceIte, x1r]
  refine Ev.mono (made_ok (l := lb) ⟨SL.mono hb.1 ?_, hb.2⟩ lb1) ?_
  · exact hE01
  rintro r ⟨vl2, vc2, vr2, mo2, bu2, q, σ2, rfl, hE2, hq12, hq⟩
  have n2 := hE2.n
  have y2 : σ2.orow (σ.n + 1) = some [.slice ac ta.length cc, .slice ad tb.length cd] := by rw [hE2.orow (by omega)]; exact y1
  have y2r := row_of y2
  obtain ⟨s1, s2, hs12⟩ := hp.shape
  obtain ⟨s3, s4, hs34⟩ := hq.shape
  simp (maxSteps := 1000000) (disch := first | omega | ((try simp only [bunN]) <;> omega) | fail) only [↓bD, bW, Nat.reduceMul, Nat.reduceEqDiff, Nat.reduceAdd, Nat.reduceBEq, reduceIte]
  refine Must.intro (by (repeat first | simp (disch := omega) only [as_read, as_upd, as_newb, asx hE1, asx hE2] | rw [as_ord (by kernel_rfl)]); rfl) ?_
  simp (maxSteps := 1000000) (disch := first | omega | ((try simp only [bunN]) <;> omega) | fail) only [↓bD, bW, Nat.reduceMul, Nat.reduceEqDiff, Nat.reduceAdd, Nat.reduceBEq, reduceIte, y2r]
  refine Must.intro (by (repeat first | simp (disch := omega) only [as_read, as_upd, as_newb] | rw [as_ord (by kernel_rfl)]); rfl) ?_
  have hP : PrAt σ2 [vl1, vc1, vr1, .int .i64 mo1, .int .i64 bu1] p := ⟨_, _, _, _, _, rfl, hp.sl.mono hE2⟩
  have hQ : PrAt σ2 [vl2, vc2, vr2, .int .i64 mo2, .int .i64 bu2] q := ⟨_, _, _, _, _, rfl, hq.sl⟩
  have hE02 : Ext σ σ2 := hE01.trans hE2
  have hA : ReAt σ2 [.slice ac ta.length cc, .int .i64 0, .int .i64 0, .slice none 0 0] ta := ⟨_, _, _, _, rfl, SL.mono hta.1 hE02⟩
  have hB : ReAt σ2 [.slice ad tb.length cd, .int .i64 0, .int .i64 0, .slice none 0 0] tb := ⟨_, _, _, _, rfl, SL.mono htb.1 hE02⟩
  obtain ⟨σ3, hσ3⟩ : ∃ τ, τ = ((((((((σ2.new [.slice none 0 0, .slice none 0 0, .slice none 0 0, .int .i64 0, .int .i64 0]).new [.slice none 0 0, .slice none 0 0, .slice none 0 0, .int .i64 0, .int .i64 0]).upd σ2.n [vl1, vc1, vr1, .int .i64 mo1, .int .i64 bu1]).upd (σ2.n + 1) [vl2, vc2, vr2, .int .i64 mo2, .int .i64 bu2]).new
    [.slice none 0 0, .int .i64 0, .int .i64 0, .slice none 0 0]).new [.slice none 0 0, .int .i64 0, .int .i64 0, .slice none 0 0]).upd (σ2.n + 1 + 1) [.slice ac ta.length cc, .int .i64 0, .int .i64 0, .slice none 0 0]).upd (σ2.n + 1 + 1 + 1) [.slice ad tb.length cd, .int .i64 0, .int .i64 0, .slice none 0 0]) := ⟨_, rfl⟩
  have hE3 : Ext σ2 σ3 := by rw [hσ3]; exact eX
  have n3 : σ3.n = σ2.n + 4 := by rw [hσ3]; rfl
  have o1 : σ3.orow σ2.n = some [vl1, vc1, vr1, .int .i64 mo1, .int .i64 bu1] := by rw [hσ3]; exact cL
  have o2 : σ3.orow (σ2.n + 1) = some [vl2, vc2, vr2, .int .i64 mo2, .int .i64 bu2] := by rw [hσ3]; exact cL
  have o3 : σ3.orow (σ2.n + 1 + 1) = some [.slice ac ta.length cc, .int .i64 0, .int .i64 0, .slice none 0 0] := by rw [hσ3]; exact cL
  have o4 : σ3.orow (σ2.n + 1 + 1 + 1) = some [.slice ad tb.length cd, .int .i64 0, .int .i64 0, .slice none 0 0] := by rw [hσ3]; exact cL
  have rows : ∀ τ, Ext σ3 τ → τ.row σ2.n = some [vl1, vc1, vr1, .int .i64 mo1, .int .i64 bu1] ∧ τ.row (σ2.n + 1) = some [vl2, vc2, vr2, .int .i64 mo2, .int .i64 bu2] ∧
      τ.row (σ2.n + 1 + 1) = some [.slice ac ta.length cc, .int .i64 0, .int .i64 0, .slice none 0 0] ∧ τ.row (σ2.n + 1 + 1 + 1) = some [.slice ad tb.length cd, .int .i64 0, .int .i64 0, .slice none 0 0] := fun τ h =>
    ⟨by rw [h.row (by omega)]; exact row_of o1, by rw [h.row (by omega)]; exact row_of o2, by rw [h.row (by omega)]; exact row_of o3, by rw [h.row (by omega)]; exact row_of o4⟩
  obtain ⟨m1, m2, m3, m4⟩ := rows σ3 (Ext.refl _)
  simp (maxSteps := 1000000) (disch := first | omega | ((try simp only [bunN]) <;> omega) | fail) only [↓bD, bW, Nat.reduceMul, Nat.reduceEqDiff, Nat.reduceAdd, Nat.reduceBEq, reduceIte]
  rw [← hσ3]
  refine Ev.mono (fsame_ok (hP.ext hE3) (hQ.ext hE3) (hA.ext hE3) (hB.ext hE3) (by omega) (by omega) ta1 tb1) ?_
  rintro r ⟨σ4, rfl, hE4⟩
  obtain ⟨m1', m2', m3', m4'⟩ := rows σ4 hE4
  simp (maxSteps := 1000000) (disch := first | omega | ((try simp only [bunN]) <;> omega) | fail) only [↓bD, bW, Nat.reduceMul, Nat.reduceEqDiff, Nat.reduceAdd, Nat.reduceBEq, reduceIte, m1', m2', m3', m4']
  refine Ev.mono (rsame_ok (hP.ext (hE3.trans hE4)) (hQ.ext (hE3.trans hE4)) (hA.ext (hE3.trans hE4)) (hB.ext (hE3.trans hE4)) (by omega) (by omega) ta1 tb1) ?_
  rintro r ⟨σ5, rfl, hE5⟩
  have hE35 := hE4.trans hE5
  obtain ⟨m1', m2', m3', m4'⟩ := rows σ5 hE35
  have hbn : ∀ {x y : Operand}, bin2 Tryz.prog .neq 4 x y (.bool (decide (win p ta = win q tb))) (.bool (decide (win p ta = win q tb))) = some (.bool false) := fun {x y} => by rw [bn_bool]; cases decide (win p ta = win q tb) <;> rfl
  simp (maxSteps := 1000000) (disch := first | omega | ((try simp only [bunN]) <;> omega) | fail) only [↓bD, bW, Nat.reduceMul, Nat.reduceEqDiff, Nat.reduceAdd, Nat.reduceBEq, reduceIte, m1', m2', m3', m4', hbn]
  refine Ev.mono (fsame_ok (hP.ext (hE3.trans hE35)) (hP.ext (hE3.trans hE35)) (hA.ext (hE3.trans hE35)) (hA.ext (hE3.trans hE35)) (by omega) (by omega) ta1 ta1) ?_
  rintro r ⟨σ6, rfl, hE6⟩
  have hE36 := hE35.trans hE6
  obtain ⟨u1, u2, u3, u4⟩ := rows σ6 hE36
  have hdd : decide (win p ta = win p ta) = true := decide_eq_true rfl
  simp (maxSteps := 1000000) (disch := first | omega | ((try simp only [bunN]) <;> omega) | fail) only [↓bD, bW, Nat.reduceMul, Nat.reduceEqDiff, Nat.reduceAdd, Nat.reduceBEq, reduceIte, hdd]
  refine Must.intro (by (repeat first | simp (disch := omega) only [as_read, as_upd, as_newb, asx hE4, asx hE5, asx hE6] | rw [as_ord (by kernel_rfl)]); rfl) ?_
  have hp6 : SLs σ6 4 vc1 (p.map Cho.row) := (hp.ext hE2).ext (hE3.trans hE36)
  have n6 := hE36.n
  simp (maxSteps := 1000000) (disch := first | omega | ((try simp only [bunN]) <;> omega) | fail) only [↓bD, bU, Nat.reduceMul, Nat.reduceEqDiff, Nat.reduceAdd, Nat.reduceBEq, reduceIte, splice_succ, ap22, ap33, ap39, ap78, u1]
  refine ev_cat (lo := σ6.n + 1) (rows := [[.int .i64 1, .int .i64 99, .int .i64 1, .int .i64 0]]) (rows2 := p.map Cho.row) (fun _ _ _ _ => ap38) (.mk (by rfl) ?_ ?_ (.inl rfl) ?_ ?_ (orow_new_same ?_ ?_)) ?_ (hp6.ext ?_) ?_ ?_ ?_
  · rfl
  · intro r hr; rw [List.mem_singleton] at hr; subst hr; rfl
  · simp
  · simp
  · simp
  · simp
  · simp
  · exact eX
  · rw [List.length_map]; simp; omega
  · simp
  intro vm σ7 hm hn7 hs7
  simp only [new_n, upd_n] at hn7 hs7
  have hE67 : Ext σ6 σ7 := ⟨by omega, fun c hc => by
    rw [hs7 c (by omega) (fun h => by have h' : σ6.n + 1 = c := Option.some.inj h; omega), new_get, if_neg (by simp; omega), upd_get, if_neg (by omega), new_get, if_neg (by omega)]⟩
  have om7 : σ7.orow σ6.n = some [vl1, vc1, vr1, .int .i64 mo1, .int .i64 bu1] := by
    rw [orow_congr (hs7 σ6.n (by omega) (fun h => by have h' : σ6.n + 1 = σ6.n := Option.some.inj h; omega))]; exact cL
  obtain ⟨am, ham⟩ := hm.shape
  obtain ⟨mm, hmm⟩ : ∃ mm, mm = ([[Value.int .i64 1, .int .i64 99, .int .i64 1, .int .i64 0]] ++ p.map Cho.row).length := ⟨_, rfl⟩
  rw [← hmm] at ham
  subst ham
  have y7 : σ7.row (σ.n + 1) = some [.slice ac ta.length cc, .slice ad tb.length cd] := by rw [((hE3.trans hE36).trans hE67).row (by omega)]; exact y2r
  simp (maxSteps := 1000000) (disch := first | omega | ((try simp only [bunN]) <;> omega) | fail) only [↓bD, bW, Nat.reduceMul, Nat.reduceEqDiff, Nat.reduceAdd, Nat.reduceBEq, reduceIte, om7, y7]
  obtain ⟨σ8, hσ8⟩ : ∃ τ, τ = ((σ7.upd σ6.n [vl1, .slice am mm mm, vr1, .int .i64 mo1, .int .i64 bu1]).new [.slice none 0 0, .int .i64 0, .int .i64 0, .slice none 0 0]).upd σ7.n [.slice none 0 0, .int .i64 7, .int .i64 0, .slice none 0 0] := ⟨_, rfl⟩
  rw [← hσ8]
  have hE68 : Ext σ6 σ8 := by rw [hσ8]; exact ((hE67.upd (Nat.le_refl _) _).new' _).upd (by omega) _
  have n8 : σ8.n = σ7.n + 1 := by rw [hσ8]; rfl
  have om8 : σ8.orow σ6.n = some [vl1, .slice am mm mm, vr1, .int .i64 mo1, .int .i64 bu1] := by rw [hσ8]; exact cL
  have od8 : σ8.orow σ7.n = some [.slice none 0 0, .int .i64 7, .int .i64 0, .slice none 0 0] := by rw [hσ8]; exact cL
  have hm8 : OL (σ6.n + 1) σ8 4 (.slice am mm mm) ((⟨1, 99, 1, 0⟩ :: p).map Cho.row) := by
    refine hm.keep (by omega) fun b hb => ?_
    have hb' := hm.blk hb
    rw [hσ8, upd_get, if_neg (by omega), new_get, if_neg (by simp; omega), upd_get, if_neg (by omega)]
  have hm8b : ∀ b, blkOf (.slice am mm mm) = some b → b < σ7.n := fun b hb => (hm.blk hb).2
  have hE08 : Ext σ σ8 := ((hE02.trans hE3).trans hE36).trans hE68
  obtain ⟨x1', x2', x3', off', cells', hx', h1', h2'⟩ := SL.use' hta.1
  cases hx'
  clear hs7
  have hpm : (p.map Cho.row).length = p.length := List.length_map ..
  obtain ⟨sp1, sp2, hsp⟩ := hp.shape
  rw [hpm] at hsp
  subst hsp
  refine ev_count ta.length (fun i fr τ => fr.get 57 = some (.int .i64 i) ∧ fr.get 56 = some (.int .i64 ta.length) ∧ fr.get 55 = some (.slice ac ta.length cc) ∧ fr.get 11 = some (ptrTo σ7.n) ∧ fr.get 10 = some (ptrTo σ6.n) ∧ fr.get 6 = some (.pointer (some ⟨σ2.n, 0, none⟩)) ∧ fr.get 7 = some (.pointer (some ⟨σ2.n + 1, 0, none⟩)) ∧ fr.get 8 = some (.pointer (some ⟨σ2.n + 1 + 1, 0, none⟩)) ∧ fr.get 9 = some (.pointer (some ⟨σ2.n + 1 + 1 + 1, 0, none⟩)) ∧ fr.get 5 = some (.bool true) ∧
      ExtX σ7.n σ8 τ ∧ ∃ vd, ∃ ds : List Int, ds = (ta.take i).map (mv p.length) ∧ τ.orow σ7.n = some [vd, .int .i64 7, .int .i64 0, .slice none 0 0] ∧ OL (σ7.n + 1) τ 1 vd (ds.map fun n => [.int .i64 n]))
    (fun r => ∃ fr τ, r = ⟨.exit 0, fr, τ⟩ ∧ fr.get 11 = some (ptrTo σ7.n) ∧ fr.get 10 = some (ptrTo σ6.n) ∧ fr.get 6 = some (.pointer (some ⟨σ2.n, 0, none⟩)) ∧ fr.get 7 = some (.pointer (some ⟨σ2.n + 1, 0, none⟩)) ∧ fr.get 8 = some (.pointer (some ⟨σ2.n + 1 + 1, 0, none⟩)) ∧ fr.get 9 = some (.pointer (some ⟨σ2.n + 1 + 1 + 1, 0, none⟩)) ∧ fr.get 5 = some (.bool true) ∧
      ExtX σ7.n σ8 τ ∧ ∃ vd, ∃ ds : List Int, ds = ta.map (mv p.length) ∧ τ.orow σ7.n = some [vd, .int .i64 7, .int .i64 0, .slice none 0 0] ∧ OL (σ7.n + 1) τ 1 vd (ds.map fun n => [.int .i64 n])) ?_ ?_ ?_ ?_
  · exact ⟨fR, fR, fR, fR, fR, fR, fR, fR, fR, fR, .refl, _, [], by simp, od8, .nil⟩
  · rintro i fr τ hi ⟨g57, g56, g55, g11, g10, g6, g7, g8, g9, g5, hX, vd, ds, hds, hod, hol⟩
    have hc1 := lt_true hi
    obtain ⟨n, hn⟩ := at_some hi
    have nX := hX.n
    obtain ⟨sp, rfl, hb, hr⟩ := h1' (by omega)
    have hr8 : τ.row x3' = some cells' := by
      have e0 := hE08.n
      have e2 := hE02.n
      rw [hX.row (by omega) (by omega), hE08.row hb]; exact hr
    have hs8 : sub cells' (off' + i) 1 = some [.int .i64 n] := by have := h2' i n hn; rwa [Nat.mul_one] at this
    have hp8 : τ.row σ2.n = some [vl1, .slice sp1 p.length sp2, vr1, .int .i64 mo1, .int .i64 bu1] := by rw [hX.row (by omega) (by omega)]; exact (rows σ8 (hE36.trans hE68)).1
    have hodr := row_of hod
    have hlr : ds.length ≤ 1048576 := by rw [hds, List.length_map, List.length_take]; omega
    by_cases h0 : n < 0
    · have hc0 := blt h0
      have hmv : mv p.length n = -1 := by unfold mv; rw [if_neg (by omega)]
      simp (maxSteps := 1000000) (disch := first | omega | ((try simp only [bunN]) <;> omega) | fail) only [↓bD, bU, Nat.reduceMul, Nat.reduceEqDiff, Nat.reduceAdd, Nat.reduceBEq, reduceIte, splice_succ, ap22, ap38, ap39, ap78, g5, g6, g7, g8, g9, g10, g11, g55, g56, g57, hc1, hr8, hs8, hp8, hodr, hc0]
      refine ev_append (lo := σ7.n + 1) (fun _ _ _ _ => ap33) (hol.ext ?_) (row_new_same ?_ ?_) (row := [.int .i64 (-1)]) rfl ?_ ?_ ?_
      · exact eX
      · simp
      · simp
      · rw [List.length_map]; omega
      · simp; omega
      intro v' τ2 ho2 hA hne
      obtain ⟨a2, ha2⟩ := ho2.shape
      subst ha2
      have e5 : blkOf vd ≠ some σ7.n := fun h => by have := (hol.blk h).1; omega
      have nA := hA.n
      simp only [new_n] at nA
      have hd5 : τ2.orow σ7.n = some [vd, .int .i64 7, .int .i64 0, .slice none 0 0] := by
        rw [orow_congr (hA.same σ7.n (by simp; omega) e5), orow_new_ne (by omega)]; exact hod
      have hX2 : ExtX σ7.n σ8 τ2 := by
        refine ⟨by omega, fun b hb hne => ?_⟩
        rw [hA.same b (by simp; omega) (fun h => by have := (hol.blk h).1; omega), new_get, if_neg (by omega), hX.same b hb hne]
      simp (maxSteps := 1000000) (disch := first | omega | ((try simp only [bunN]) <;> omega) | fail) only [↓bD, bW, Nat.reduceMul, Nat.reduceEqDiff, Nat.reduceAdd, Nat.reduceBEq, reduceIte, g5, g6, g7, g8, g9, g10, g11, g55, g56, g57, hd5]
      refine ⟨fR, fR1 g56, fR1 g55, fR1 g11, fR1 g10, fR1 g6, fR1 g7, fR1 g8, fR1 g9, fR1 g5, hX2.upd _, _, ds ++ [-1], ?_, rfl, ?_⟩
      · rw [List.take_add_one, hn, List.map_append, ← hds]
        simp only [Option.toList_some, List.map_cons, List.map_nil]
        rw [hmv]
      · rw [List.map_append]
        refine ho2.keep (by simp) fun b hb => ?_
        have := (ho2.blk hb).1
        rw [upd_get, if_neg (by omega)]
    · obtain ⟨k, rfl⟩ : ∃ k : Nat, n = (k : Int) := ⟨n.toNat, by omega⟩
      have hc0 := bge (n := (k : Int)) (by omega)
      by_cases hk : k < p.length
      · have hck := lt_true hk
        have hmv : mv p.length (k : Int) = ((k + 1 : Nat) : Int) := by unfold mv; rw [if_pos (by omega)]; omega
        simp (maxSteps := 1000000) (disch := first | omega | ((try simp only [bunN]) <;> omega) | fail) only [↓bD, bU, Nat.reduceMul, Nat.reduceEqDiff, Nat.reduceAdd, Nat.reduceBEq, reduceIte, splice_succ, ap22, ap38, ap39, ap78, g5, g6, g7, g8, g9, g10, g11, g55, g56, g57, hc1, hr8, hs8, hp8, hodr, hc0, hck]
        refine ev_append (lo := σ7.n + 1) (fun _ _ _ _ => ap33) (hol.ext ?_) (row_new_same ?_ ?_) (row := [.int .i64 (((k + 1 : Nat) : Int))]) rfl ?_ ?_ ?_
        · exact eX
        · simp
        · simp
        · rw [List.length_map]; omega
        · simp; omega
        intro v' τ2 ho2 hA hne
        obtain ⟨a2, ha2⟩ := ho2.shape
        subst ha2
        have e5 : blkOf vd ≠ some σ7.n := fun h => by have := (hol.blk h).1; omega
        have nA := hA.n
        simp only [new_n] at nA
        have hd5 : τ2.orow σ7.n = some [vd, .int .i64 7, .int .i64 0, .slice none 0 0] := by
          rw [orow_congr (hA.same σ7.n (by simp; omega) e5), orow_new_ne (by omega)]; exact hod
        have hX2 : ExtX σ7.n σ8 τ2 := by
          refine ⟨by omega, fun b hb hne => ?_⟩
          rw [hA.same b (by simp; omega) (fun h => by have := (hol.blk h).1; omega), new_get, if_neg (by omega), hX.same b hb hne]
        simp (maxSteps := 1000000) (disch := first | omega | ((try simp only [bunN]) <;> omega) | fail) only [↓bD, bW, Nat.reduceMul, Nat.reduceEqDiff, Nat.reduceAdd, Nat.reduceBEq, reduceIte, g5, g6, g7, g8, g9, g10, g11, g55, g56, g57, hd5]
        refine ⟨fR, fR1 g56, fR1 g55, fR1 g11, fR1 g10, fR1 g6, fR1 g7, fR1 g8, fR1 g9, fR1 g5, hX2.upd _, _, ds ++ [((k + 1 : Nat) : Int)], ?_, rfl, ?_⟩
        · rw [List.take_add_one, hn, List.map_append, ← hds]
          simp only [Option.toList_some, List.map_cons, List.map_nil]
          rw [hmv]
        · rw [List.map_append]
          refine ho2.keep (by simp) fun b hb => ?_
          have := (ho2.blk hb).1
          rw [upd_get, if_neg (by omega)]
      · have hck : decide (k < p.length) = false := decide_eq_false hk
        have hmv : mv p.length (k : Int) = -1 := by unfold mv; rw [if_neg (by omega)]
        simp (maxSteps := 1000000) (disch := first | omega | ((try simp only [bunN]) <;> omega) | fail) only [↓bD, bU, Nat.reduceMul, Nat.reduceEqDiff, Nat.reduceAdd, Nat.reduceBEq, reduceIte, splice_succ, ap22, ap38, ap39, ap78, g5, g6, g7, g8, g9, g10, g11, g55, g56, g57, hc1, hr8, hs8, hp8, hodr, hc0, hck]
        refine ev_append (lo := σ7.n + 1) (fun _ _ _ _ => ap33) (hol.ext ?_) (row_new_same ?_ ?_) (row := [.int .i64 (-1)]) rfl ?_ ?_ ?_
        · exact eX
        · simp
        · simp
        · rw [List.length_map]; omega
        · simp; omega
        intro v' τ2 ho2 hA hne
        obtain ⟨a2, ha2⟩ := ho2.shape
        subst ha2
        have e5 : blkOf vd ≠ some σ7.n := fun h => by have := (hol.blk h).1; omega
        have nA := hA.n
        simp only [new_n] at nA
        have hd5 : τ2.orow σ7.n = some [vd, .int .i64 7, .int .i64 0, .slice none 0 0] := by
          rw [orow_congr (hA.same σ7.n (by simp; omega) e5), orow_new_ne (by omega)]; exact hod
        have hX2 : ExtX σ7.n σ8 τ2 := by
          refine ⟨by omega, fun b hb hne => ?_⟩
          rw [hA.same b (by simp; omega) (fun h => by have := (hol.blk h).1; omega), new_get, if_neg (by omega), hX.same b hb hne]
        simp (maxSteps := 1000000) (disch := first | omega | ((try simp only [bunN]) <;> omega) | fail) only [↓bD, bW, Nat.reduceMul, Nat.reduceEqDiff, Nat.reduceAdd, Nat.reduceBEq, reduceIte, g5, g6, g7, g8, g9, g10, g11, g55, g56, g57, hd5]
        refine ⟨fR, fR1 g56, fR1 g55, fR1 g11, fR1 g10, fR1 g6, fR1 g7, fR1 g8, fR1 g9, fR1 g5, hX2.upd _, _, ds ++ [-1], ?_, rfl, ?_⟩
        · rw [List.take_add_one, hn, List.map_append, ← hds]
          simp only [Option.toList_some, List.map_cons, List.map_nil]
          rw [hmv]
        · rw [List.map_append]
          refine ho2.keep (by simp) fun b hb => ?_
          have := (ho2.blk hb).1
          rw [upd_get, if_neg (by omega)]
  · rintro fr τ ⟨g57, g56, g55, g11, g10, g6, g7, g8, g9, g5, hX, vd, ds, hds, hod, hol⟩
    simp (maxSteps := 1000000) (disch := first | omega | ((try simp only [bunN]) <;> omega) | fail) only [↓bD, bW, Nat.reduceMul, Nat.reduceEqDiff, Nat.reduceAdd, Nat.reduceBEq, reduceIte, g56, g57]
    rw [List.take_length] at hds
    exact ⟨_, _, rfl, fR1 g11, fR1 g10, fR1 g6, fR1 g7, fR1 g8, fR1 g9, fR1 g5, hX, vd, ds, hds, hod, hol⟩
  rintro r ⟨fr, τ, rfl, g11, g10, g6, g7, g8, g9, g5, hX, vd, ds, hds, hod, hol⟩
  have nX := hX.n
  obtain ⟨v1, v2, v3, v4⟩ := rows σ8 (hE36.trans hE68)
  have hodr := row_of hod
  have r1 : τ.row σ2.n = some [vl1, .slice sp1 p.length sp2, vr1, .int .i64 mo1, .int .i64 bu1] := by rw [hX.row (by omega) (by omega)]; exact v1
  have r2 : τ.row (σ2.n + 1) = some [vl2, vc2, vr2, .int .i64 mo2, .int .i64 bu2] := by rw [hX.row (by omega) (by omega)]; exact v2
  have r3 : τ.row (σ2.n + 1 + 1) = some [.slice ac ta.length cc, .int .i64 0, .int .i64 0, .slice none 0 0] := by rw [hX.row (by omega) (by omega)]; exact v3
  have r4 : τ.row (σ2.n + 1 + 1 + 1) = some [.slice ad tb.length cd, .int .i64 0, .int .i64 0, .slice none 0 0] := by rw [hX.row (by omega) (by omega)]; exact v4
  have r5 : τ.row σ6.n = some [vl1, .slice am mm mm, vr1, .int .i64 mo1, .int .i64 bu1] := by rw [hX.row (by omega) (by omega)]; exact row_of om8
  have hE28 : Ext σ2 σ8 := (hE3.trans hE36).trans hE68
  have hE2t : Ext σ2 τ := ⟨by have := hE28.n; omega, fun b hb => by rw [hX.same b (by have := hE28.n; omega) (by omega), hE28.same b hb]⟩
  have hmt : SL τ 4 (.slice am mm mm) ((⟨1, 99, 1, 0⟩ :: p).map Cho.row) :=
    (hm8.keep nX fun b hb => by have := hm8b b hb; exact hX.same b (by omega) (by omega)).sl
  have hMo : PrAt τ [vl1, .slice am mm mm, vr1, .int .i64 mo1, .int .i64 bu1] (⟨1, 99, 1, 0⟩ :: p) := ⟨_, _, _, _, _, rfl, hmt⟩
  have hMv : ReAt τ [vd, .int .i64 7, .int .i64 0, .slice none 0 0] ds := ⟨_, _, _, _, rfl, hol.sl⟩
  have hdl : ds.length ≤ 1048576 := by rw [hds, List.length_map]; exact ta1
  simp (maxSteps := 1000000) (disch := first | omega | ((try simp only [bunN]) <;> omega) | fail) only [↓bD, bW, Nat.reduceMul, Nat.reduceEqDiff, Nat.reduceAdd, Nat.reduceBEq, reduceIte, g5, g6, g7, g8, g9, g10, g11, r1, r3, r5, hodr]
  refine Ev.mono (fsame_ok (hP.ext hE2t) hMo (hA.ext hE2t) hMv (by omega) (by simp; omega) ta1 hdl) ?_
  rintro r ⟨τ1, rfl, hF1⟩
  have hw1 : decide (win p ta = win (⟨1, 99, 1, 0⟩ :: p) ds) = true := by
    rw [hds]
    exact decide_eq_true (win_moved _ _ _).symm
  have r1' : τ1.row σ2.n = some [vl1, .slice sp1 p.length sp2, vr1, .int .i64 mo1, .int .i64 bu1] := by rw [hF1.row (by omega)]; exact r1
  have r2' : τ1.row (σ2.n + 1) = some [vl2, vc2, vr2, .int .i64 mo2, .int .i64 bu2] := by rw [hF1.row (by omega)]; exact r2
  have r3' : τ1.row (σ2.n + 1 + 1) = some [.slice ac ta.length cc, .int .i64 0, .int .i64 0, .slice none 0 0] := by rw [hF1.row (by omega)]; exact r3
  have r4' : τ1.row (σ2.n + 1 + 1 + 1) = some [.slice ad tb.length cd, .int .i64 0, .int .i64 0, .slice none 0 0] := by rw [hF1.row (by omega)]; exact r4
  simp (maxSteps := 1000000) (disch := first | omega | ((try simp only [bunN]) <;> omega) | fail) only [↓bD, bW, Nat.reduceMul, Nat.reduceEqDiff, Nat.reduceAdd, Nat.reduceBEq, reduceIte, g5, g6, g7, g8, g9, g10, g11, r1', r2', r3', r4', hw1]
  refine Ev.mono (fsame_ok (hQ.ext (hE2t.trans hF1)) (hP.ext (hE2t.trans hF1)) (hB.ext (hE2t.trans hF1)) (hA.ext (hE2t.trans hF1)) (by omega) (by omega) tb1 ta1) ?_
  rintro r ⟨τ2, rfl, hF2⟩
  have nF1 := hF1.n
  have r1'' : τ2.row σ2.n = some [vl1, .slice sp1 p.length sp2, vr1, .int .i64 mo1, .int .i64 bu1] := by rw [hF2.row (by omega)]; exact r1'
  have r2'' : τ2.row (σ2.n + 1) = some [vl2, vc2, vr2, .int .i64 mo2, .int .i64 bu2] := by rw [hF2.row (by omega)]; exact r2'
  have r3'' : τ2.row (σ2.n + 1 + 1) = some [.slice ac ta.length cc, .int .i64 0, .int .i64 0, .slice none 0 0] := by rw [hF2.row (by omega)]; exact r3'
  have r4'' : τ2.row (σ2.n + 1 + 1 + 1) = some [.slice ad tb.length cd, .int .i64 0, .int .i64 0, .slice none 0 0] := by rw [hF2.row (by omega)]; exact r4'
  simp (maxSteps := 1000000) (disch := first | omega | ((try simp only [bunN]) <;> omega) | fail) only [↓bD, bW, Nat.reduceMul, Nat.reduceEqDiff, Nat.reduceAdd, Nat.reduceBEq, reduceIte, g5, g6, g7, g8, g9, g10, g11, r1'', r2'', r3'', r4'', hw1]
  refine Ev.mono (fsame_ok (hP.ext ((hE2t.trans hF1).trans hF2)) (hQ.ext ((hE2t.trans hF1).trans hF2)) (hA.ext ((hE2t.trans hF1).trans hF2)) (hB.ext ((hE2t.trans hF1).trans hF2)) (by omega) (by omega) ta1 tb1) ?_
  rintro r ⟨τ3, rfl, hF3⟩
  have hbq : ∀ {x y : Operand}, bin2 Tryz.prog .eql 4 x y (.bool (decide (win q tb = win p ta))) (.bool (decide (win p ta = win q tb))) = some (.bool true) := fun {x y} => by
    have e : decide (win q tb = win p ta) = decide (win p ta = win q tb) := by rw [decide_eq_decide]; exact eq_comm
    rw [e, bq_bool]; cases decide (win p ta = win q tb) <;> rfl
  simp (maxSteps := 1000000) (disch := first | omega | ((try simp only [bunN]) <;> omega) | fail) only [↓bD, bW, Nat.reduceMul, Nat.reduceEqDiff, Nat.reduceAdd, Nat.reduceBEq, reduceIte, g5, g6, g7, g8, g9, g10, g11, hw1, hbq]
  refine Must.intro (by (repeat first | simp (disch := omega) only [as_read, as_upd, as_newb, asx hF1, asx hF2, asx hF3] | rw [as_ord (by kernel_rfl)]); rfl) ?_
  simp (maxSteps := 1000000) (disch := first | omega | ((try simp only [bunN]) <;> omega) | fail) only [↓bD, bW, Nat.reduceMul, Nat.reduceEqDiff, Nat.reduceAdd, Nat.reduceBEq, reduceIte, Tryz.results4]
  exact ⟨_, rfl⟩
end Go.Proofs.G
