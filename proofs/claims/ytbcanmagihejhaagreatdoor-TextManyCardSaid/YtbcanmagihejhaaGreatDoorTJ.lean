/- text.caught on a closure with two captured values; Parse. -/
import Derived.Test.YtbcanmagihejhaaGreatDoorTI
import Derived.Test.YtbcanmagihejhaaGreatDoorTH
set_option linter.unusedSimpArgs false
set_option linter.unusedVariables false
namespace Go.Proofs.T
open Go Go.Ab
open Nat (reduceMul reduceEqDiff reduceAdd)
set_option maxRecDepth 100000
theorem caught_go {vs : List Value} {σ : St} {Q : CR → Prop} {u : Hd Q} {c0 c1 c2 c3 : Code} (hb : Tryz.f38.body = some (.seq c0 (.seq c1 (.seq c2 (.seq c3 .ret)))))
    (h : Ev (caughtF2 Tryz.prog c0 c2 c3 3 2 86 86 [.cell 2 86] (lim Tryz.prog HS) vs σ) Q u) : Ev (go Tryz.prog HS (.fn 38) vs σ) Q u := by
  have e : parts = (c0, c1, c2, c3) := by unfold parts; rw [hb]
  have e2 : go Tryz.prog HS (.fn 38) vs σ = caughtT.f (lim Tryz.prog HS) vs σ := rfl
  rw [e2]
  unfold caughtT
  rw [e]
  exact h
theorem nrm_n {β : Type} {fr : Fr} {σ : St} {f : Fr → St → Option β} : nrm ⟨.normal, fr, σ⟩ f = f fr σ := rfl
theorem nrp_n {β : Type} {fr : Fr} {σ : St} {f : Fr → St → Option β} {g : Value → Fr → St → Option β} : nrp ⟨.normal, fr, σ⟩ f g = f fr σ := rfl
theorem nrp_p {β : Type} {fr : Fr} {σ : St} {v : Value} {f : Fr → St → Option β} {g : Value → Fr → St → Option β} : nrp ⟨.pan v, fr, σ⟩ f g = g v fr σ := rfl
theorem caughtV_fault {σ : St} {b p : Nat} {e : Int} (h : σ.orow b = some [.int .i64 0, .int .i64 0]) (hb : b < σ.n) : caughtV Tryz.prog 86 (.pointer (some ⟨b, 0, none⟩)) (.agg ⟨[.int .i64 p, .int .i64 e]⟩) σ = some (((σ.new [.int .i64 0, .int .i64 0] (some 86)).upd σ.n [.int .i64 p, .int .i64 e]).upd b [.int .i64 p, .int .i64 e]) := by
  have hz : zero? Tryz.prog 86 = some (.agg ⟨[.int .i64 0, .int .i64 0]⟩) := by kernel_rfl
  have hs : size? Tryz.prog 86 = some 2 := by kernel_rfl
  have st : ∀ (s : St) (q : Nat) (x y a c : Value), s.orow q = some [x, y] → storeV Tryz.prog s 86 (.pointer (some ⟨q, 0, none⟩)) (.agg ⟨[a, c]⟩) = some (s.upd q [a, c]) := by
    intro s q x y a c hq
    unfold storeV
    rw [show at? (.pointer (some ⟨q, 0, none⟩)) = some (q, 0) from rfl, ob_some, pr_mk, hs, ob_some]
    show s.write q 0 [a, c] = _
    rw [write_eq, hq, ob_some]
    rfl
  unfold caughtV
  rw [hz, ob_some, show ptrTo σ.n = .pointer (some ⟨σ.n, 0, none⟩) from rfl]
  rw [st _ σ.n (.int .i64 0) (.int .i64 0) _ _ (cL), ob_some]
  simp (maxSteps := 8000000) (disch := first | omega | ((try simp only [bunN]) <;> omega) | exact NoGhost.mk rfl | fail) only [↓bD, bW, reduceMul, reduceEqDiff, reduceAdd, Nat.reduceBEq, reduceIte, Option.isNone_none]
  rw [ob_some, show sub [Value.int .i64 (p : Nat), .int .i64 e] 0 2 = some [.int .i64 (p : Nat), .int .i64 e] from rfl, ob_some, ob_some]
  rw [st _ b (.int .i64 0) (.int .i64 0) _ _ (by rw [orow_upd_ne (by omega), orow_new_ne (by omega)]; exact h)]
theorem ifc_fault {p : Nat} {e : Int} : ifaceOf 86 (fault p e) = some (.agg ⟨[.int .i64 (p : Nat), .int .i64 e]⟩) := rfl
set_option maxHeartbeats 4000000 in
theorem caught_ok {g : Nat} {x y : Value} {σ : St} {R : CR → Prop}
    (hb : Ev (go Tryz.prog HS (.fn g) [x, y] (σ.new [.int .i64 0, .int .i64 0] (some 86))) (fun r => σ.n < r.σ.n ∧ r.σ.orow σ.n = some [.int .i64 0, .int .i64 0] ∧ ((r.pan = false ∧ r.v = .tuple ⟨[]⟩) ∨ ∃ p e, r.pan = true ∧ r.v = fault p e) ∧ R r) ⟨⟩) :
    Ev (go Tryz.prog HS (.fn 38) [.func (.func g) ⟨[]⟩ ⟨[x, y]⟩] σ) (fun r => ∃ r0 σ' p e, R r0 ∧ ExtX σ.n r0.σ σ' ∧ r = ⟨false, .agg ⟨[.int .i64 (p : Nat), .int .i64 e]⟩, σ'⟩ ∧ ((r0.pan = false ∧ r0.v = .tuple ⟨[]⟩ ∧ p = 0 ∧ e = 0) ∨ (r0.pan = true ∧ r0.v = fault p e))) ⟨⟩ := by
  refine caught_go rfl ?_
  unfold caughtF2
  simp (maxSteps := 8000000) (disch := first | omega | ((try simp only [bunN]) <;> omega) | exact NoGhost.mk rfl | fail) only [↓bD, bW, reduceMul, reduceEqDiff, reduceAdd, Nat.reduceBEq, reduceIte, Option.isNone_none, nrm_n]
  refine hb.mono ?_
  rintro ⟨pn, v, σ1⟩ ⟨hn, ho, hc, hR⟩
  rcases hc with ⟨h1, h2⟩ | ⟨p, e, h1, h2⟩
  · obtain rfl : pn = false := h1
    obtain rfl : v = .tuple ⟨[]⟩ := h2
    simp (maxSteps := 8000000) (disch := first | omega | ((try simp only [bunN]) <;> omega) | exact NoGhost.mk rfl | fail) only [↓bD, bW, reduceMul, reduceEqDiff, reduceAdd, Nat.reduceBEq, reduceIte, Option.isNone_none, nrp_n, nrm_n, ho]
    exact ⟨⟨false, .tuple ⟨[]⟩, σ1⟩, _, 0, 0, hR, ExtX.upd .refl _, rfl, .inl ⟨rfl, rfl, rfl, rfl⟩⟩
  · obtain rfl : pn = true := h1
    obtain rfl : v = fault p e := h2
    simp (maxSteps := 8000000) (disch := first | omega | ((try simp only [bunN]) <;> omega) | exact NoGhost.mk rfl | fail) only [↓bD, bW, reduceMul, reduceEqDiff, reduceAdd, Nat.reduceBEq, reduceIte, Option.isNone_none, nrp_p, ho, ifc_fault, caughtV_fault ho hn]
    exact ⟨⟨true, fault p e, σ1⟩, _, p, e, hR, ExtX.upd (ExtX.updF (ExtX.newF .refl _) (Nat.le_refl _) _) _, rfl, .inr ⟨rfl, rfl⟩⟩
def z20 : List Value := [str [], .slice none 0 0, .slice none 0 0, .slice none 0 0, .int .i64 0, .int .i64 0, str [], .int .i64 0, .int .i64 0, str [], .slice none 0 0, .slice none 0 0, .int .i64 0, .slice none 0 0, .int .i64 0, .int .i64 0, .int .i64 0, .int .i64 0, .int .i64 0, .int .i64 0]
theorem TnAt.keepH {σ σ' : St} {cells : List Value} {T : Tn} (h : TnAt σ cells T) (hE : Keep σ σ') : TnAt σ' cells T := by
  obtain ⟨vl, vc, vr, ex, vt, vk, h1, h2, h3, h4, h5, h6, vs, h7, h8⟩ := h
  exact ⟨vl, vc, vr, ex, vt, vk, h1, SL.keep h2 hE, SL.keep h3 hE, SL.keep h4 hE, h5.keep hE, SL.keep h6 hE, vs, SL.keep h7 hE, h8.mono fun _ _ hx => SL.keep hx hE⟩
theorem TnAt.cells {σ : St} {cells : List Value} {T : Tn} (h : TnAt σ cells T) : ∃ a0 a1 a2 a3 a4 a5 a6 a7 a8 a9 a10 a11 a12 a13 a14 a15 a16 a17 a18 a19, cells = [a0, a1, a2, a3, a4, a5, a6, a7, a8, a9, a10, a11, a12, a13, a14, a15, a16, a17, a18, a19] := by
  obtain ⟨vl, vc, vr, ex, vt, vk, rfl, -, -, -, h5, -⟩ := h
  obtain ⟨c1, c2, c3, c4, c5, rfl⟩ := fc5 h5
  exact ⟨_, _, _, _, _, _, _, _, _, _, _, _, _, _, _, _, _, _, _, _, rfl⟩
def PcP (σ : St) (c : Nat) (R : Except Er Tn) (r : CR) : Prop := match R with
  | .ok T => ∃ σ' cells, r = ⟨false, .tuple ⟨[]⟩, σ'⟩ ∧ ExtX c σ σ' ∧ σ'.orow c = some cells ∧ ∀ H : List Nat, (∀ q ∈ H, q < σ.n) → TnAt (hide σ' H) cells T
  | .error (p, e) => ∃ σ', r = ⟨true, fault p e, σ'⟩ ∧ Ext σ σ'
set_option maxHeartbeats 4000000 in
theorem pclosure_ok {σ : St} {s : By} {b c : Nat} (hs : s.length ≤ 4000) (hl : ∀ (l : By) (a : Nat), l ∈ splitB 10 s → a ≤ s.length + 1 → LineOk l a) (hb : σ.row b = some [str s]) (hc : σ.orow c = some z20) (hcl : c < σ.n) :
    Ev (go Tryz.prog HS (.fn 39) [.pointer (some ⟨b, 0, none⟩), .pointer (some ⟨c, 0, none⟩)] σ) (PcP σ c (parseS s)) ⟨⟩ := by
  refine ev_go Tryz.func39 rfl rfl ?_
  simp (maxSteps := 8000000) (disch := first | omega | ((try simp only [bunN]) <;> omega) | exact NoGhost.mk rfl | fail) only [↓bD, bW, reduceMul, reduceEqDiff, reduceAdd, Nat.reduceBEq, reduceIte, Option.isNone_none, hb]
  refine (parse_ok hs hl).mono ?_
  intro r
  cases hR : parseS s with
  | error pe =>
    obtain ⟨p, e⟩ := pe
    rintro ⟨σ1, rfl, hE⟩
    simp (maxSteps := 8000000) (disch := first | omega | ((try simp only [bunN]) <;> omega) | exact NoGhost.mk rfl | fail) only [↓bD, bW, reduceMul, reduceEqDiff, reduceAdd, Nat.reduceBEq, reduceIte, Option.isNone_none]
    exact ⟨_, rfl, hE⟩
  | ok T =>
    rintro ⟨σ1, cells, rfl, hE, hT⟩
    have hc1 : σ1.orow c = some z20 := by rw [orow_congr (hE.same c hcl)]; exact hc
    obtain ⟨a0, a1, a2, a3, a4, a5, a6, a7, a8, a9, a10, a11, a12, a13, a14, a15, a16, a17, a18, a19, rfl⟩ := (hT [] (by simp)).cells
    unfold z20 at hc1
    simp (maxSteps := 8000000) (disch := first | omega | ((try simp only [bunN]) <;> omega) | exact NoGhost.mk rfl | fail) only [↓bD, bW, reduceMul, reduceEqDiff, reduceAdd, Nat.reduceBEq, reduceIte, Option.isNone_none, hc1, Tryz.results39]
    refine ⟨_, _, rfl, (ExtX.of hE).upd _, orow_upd_same, fun H hH => (hT (c :: H) ?_).keepH (keep_hide (Nat.le_refl _) fun q _ hm => ⟨fun h => hm (List.mem_cons_of_mem _ h), row_upd_ne fun e => hm (by rw [e]; exact List.mem_cons_self ..)⟩)⟩
    intro q hq
    rcases List.mem_cons.1 hq with rfl | hq
    · exact hcl
    · exact hH q hq
def CaP (σ : St) (c : Nat) (R : Except Er Tn) (r : CR) : Prop := match R with
  | .ok T => ∃ σ' cells, r = ⟨false, .agg ⟨[.int .i64 0, .int .i64 0]⟩, σ'⟩ ∧ ExtX c σ σ' ∧ σ'.orow c = some cells ∧ ∀ H : List Nat, (∀ q ∈ H, q < σ.n) → TnAt (hide σ' H) cells T
  | .error (p, e) => ∃ σ', r = ⟨false, .agg ⟨[.int .i64 (p : Nat), .int .i64 e]⟩, σ'⟩ ∧ Ext σ σ'
theorem cparse_ok {σ : St} {s : By} {b c : Nat} (hs : s.length ≤ 4000) (hl : ∀ (l : By) (a : Nat), l ∈ splitB 10 s → a ≤ s.length + 1 → LineOk l a) (hb : σ.row b = some [str s]) (hc : σ.orow c = some z20) (hbl : b < σ.n) (hcl : c < σ.n) :
    Ev (go Tryz.prog HS (.fn 38) [.func (.func 39) ⟨[]⟩ ⟨[.pointer (some ⟨b, 0, none⟩), .pointer (some ⟨c, 0, none⟩)]⟩] σ) (CaP σ c (parseS s)) ⟨⟩ := by
  refine (caught_ok (R := PcP (σ.new [.int .i64 0, .int .i64 0] (some 86)) c (parseS s)) ((pclosure_ok (b := b) (c := c) (s := s) hs hl (by rw [row_new_ne (by omega)]; exact hb) (by rw [orow_new_ne (by omega)]; exact hc) (by simp; omega)).mono ?_)).mono ?_
  · intro r hr
    cases hR : parseS s with
    | ok T =>
      rw [hR] at hr
      obtain ⟨σ', cells, rfl, hE, ho, hT⟩ := hr
      have hn := hE.n
      simp at hn
      refine ⟨by dsimp only; omega, ?_, .inl ⟨rfl, rfl⟩, σ', cells, rfl, hE, ho, hT⟩
      dsimp only
      rw [hE.orow (by simp) (by omega)]; exact cL
    | error pe =>
      obtain ⟨p, e⟩ := pe
      rw [hR] at hr
      obtain ⟨σ', rfl, hE⟩ := hr
      have hn := hE.n
      simp at hn
      refine ⟨by dsimp only; omega, ?_, .inr ⟨p, e, rfl, rfl⟩, σ', rfl, hE⟩
      dsimp only
      rw [orow_congr (hE.same _ (by simp))]; exact cL
  · rintro r ⟨r0, σ', p, e, hr, hE, rfl, hx⟩
    have hn := hE.n
    cases hR : parseS s with
    | ok T =>
      rw [hR] at hr
      obtain ⟨σ1, cells, rfl, hE1, ho, hT⟩ := hr
      rcases hx with ⟨-, -, rfl, rfl⟩ | ⟨hx, -⟩
      rotate_left
      · cases hx
      have hn1 := hE1.n
      simp at hn1
      dsimp only at hn hE
      refine ⟨σ', cells, rfl, ⟨by omega, fun q h1 h2 => ?_⟩, ?_, fun H hH => ?_⟩
      · rw [hE.same q (by omega) (by omega), hE1.same q (by simp; omega) h2, new_get, if_neg (by omega)]
      · rw [hE.orow (by omega) (by omega)]; exact ho
      · refine (hT (σ.n :: H) fun q hq => ?_).keepH (keep_hide hn fun q hq hm => ⟨fun h => hm (List.mem_cons_of_mem _ h), ?_⟩)
        · rcases List.mem_cons.1 hq with rfl | hq
          · simp
          · have := hH q hq; simp; omega
        · exact hE.row hq fun e => hm (by rw [e]; exact List.mem_cons_self ..)
    | error pe =>
      obtain ⟨p', e'⟩ := pe
      rw [hR] at hr
      obtain ⟨σ1, rfl, hE1⟩ := hr
      rcases hx with ⟨hx, -⟩ | ⟨-, hx⟩
      · cases hx
      have hn1 := hE1.n
      simp at hn1
      dsimp only at hn hE hx
      obtain ⟨h1, h2⟩ : p' = p ∧ e' = e := by
        unfold fault at hx
        simp at hx
        exact ⟨by omega, hx.2⟩
      subst h1 h2
      refine ⟨σ', rfl, ⟨by omega, fun q h1 => ?_⟩⟩
      rw [hE.same q (by omega) (by omega), hE1.same q (by simp; omega), new_get, if_neg (by omega)]
noncomputable def parseT (s : By) : Except Er Tn := if 4000 < s.length then .error (0, 2) else parseS s
def PaP (σ : St) (R : Except Er Tn) (r : CR) : Prop := match R with
  | .ok T => ∃ σ' cells, r = ⟨false, .tuple ⟨[.agg ⟨cells⟩, .int .i64 0, .int .i64 0]⟩, σ'⟩ ∧ Ext σ σ' ∧ ∀ H : List Nat, (∀ q ∈ H, q < σ.n) → TnAt (hide σ' H) cells T
  | .error (p, e) => ∃ σ', r = ⟨false, .tuple ⟨[.agg ⟨z20⟩, .int .i64 (p : Nat), .int .i64 e]⟩, σ'⟩ ∧ Ext σ σ'
set_option maxHeartbeats 8000000 in
theorem Parse_ok {σ : St} {s : By} (hl : s.length ≤ 4000 → ∀ (l : By) (a : Nat), l ∈ splitB 10 s → a ≤ s.length + 1 → LineOk l a) (he : s.length ≤ 4000 → ∀ p e, parseS s = .error (p, e) → e ≠ 0) (hlen : s.length < 1000000000) :
    Ev (go Tryz.prog HS (.fn 18) [str s] σ) (PaP σ (parseT s)) ⟨⟩ := by
  refine ev_go Tryz.func18 rfl rfl ?_
  have e4 : decide ((4000 : Int) < ((s.length : Nat) : Int)) = decide (4000 < s.length) := by rw [Bool.eq_iff_iff, decide_eq_true_iff, decide_eq_true_iff]; omega
  unfold parseT
  cases h4 : decide (4000 < s.length) with
  | true =>
    rw [if_pos (of_decide_eq_true h4)]
    simp (maxSteps := 8000000) (disch := first | omega | ((try simp only [bunN]) <;> omega) | exact NoGhost.mk rfl | fail) only [↓bD, bW, reduceMul, reduceEqDiff, reduceAdd, Nat.reduceBEq, reduceIte, Option.isNone_none, e4, h4, Tryz.results18]
    exact ⟨_, rfl, eX⟩
  | false =>
    have h5 := of_decide_eq_false h4
    have hs : s.length ≤ 4000 := by omega
    rw [if_neg h5]
    simp (maxSteps := 8000000) (disch := first | omega | ((try simp only [bunN]) <;> omega) | exact NoGhost.mk rfl | fail) only [↓bD, bW, reduceMul, reduceEqDiff, reduceAdd, Nat.reduceBEq, reduceIte, Option.isNone_none, e4, h4]
    refine (cparse_ok (b := σ.n) (c := σ.n + 1 + 1) hs (hl hs) ?_ ?_ ?_ ?_).mono ?_
    · exact cL
    · unfold z20; exact cL
    · simp; omega
    · simp
    · intro r hr
      cases hR : parseS s with
      | ok T =>
        rw [hR] at hr
        obtain ⟨σ', cells, rfl, hE, ho, hT⟩ := hr
        have hn := hE.n
        simp at hn
        obtain ⟨a0, a1, a2, a3, a4, a5, a6, a7, a8, a9, a10, a11, a12, a13, a14, a15, a16, a17, a18, a19, rfl⟩ := (hT [] (by simp)).cells
        have hrc := row_of ho
        have hro : σ'.orow (σ.n + 1) = some [str [], .slice none 0 0, .slice none 0 0, .slice none 0 0, .int .i64 0, .int .i64 0, str [], .int .i64 0, .int .i64 0, str [], .slice none 0 0, .slice none 0 0, .int .i64 0, .slice none 0 0, .int .i64 0, .int .i64 0, .int .i64 0, .int .i64 0, .int .i64 0, .int .i64 0] := by
          rw [hE.orow (by simp) (by omega)]; exact cL
        simp (maxSteps := 8000000) (disch := first | omega | ((try simp only [bunN]) <;> omega) | exact NoGhost.mk rfl | fail) only [↓bD, bW, reduceMul, reduceEqDiff, reduceAdd, Nat.reduceBEq, reduceIte, Option.isNone_none, ho, hrc, hro, Tryz.results18]
        refine ⟨_, _, rfl, ?_, fun H hH => ?_⟩
        · exact (((ExtX.ext (σ0 := σ) hE (((Ext.new _ _).trans (.new _ _)).trans (.new _ _)) (by omega)).new' _).upd (by omega) _).upd (by omega) _
        · refine (hT ((σ.n + 1) :: H) fun q hq => ?_).keepH (keep_hide (by simp) fun q hq hm => ⟨fun h => hm (List.mem_cons_of_mem _ h), ?_⟩)
          · rcases List.mem_cons.1 hq with rfl | hq
            · simp
            · have := hH q hq; simp; omega
          · rw [row_upd_ne fun e => hm (by rw [e]; exact List.mem_cons_self ..), row_upd_ne (by omega), row_new_ne (by omega)]
      | error pe =>
        obtain ⟨p, e⟩ := pe
        rw [hR] at hr
        obtain ⟨σ', rfl, hE⟩ := hr
        have hn := hE.n
        simp at hn
        have he0 := he hs p e hR
        have hro : σ'.orow (σ.n + 1) = some [str [], .slice none 0 0, .slice none 0 0, .slice none 0 0, .int .i64 0, .int .i64 0, str [], .int .i64 0, .int .i64 0, str [], .slice none 0 0, .slice none 0 0, .int .i64 0, .slice none 0 0, .int .i64 0, .int .i64 0, .int .i64 0, .int .i64 0, .int .i64 0, .int .i64 0] := by
          rw [orow_congr (hE.same _ (by simp))]; exact cL
        have d0 : decide (e = 0) = false := decide_eq_false he0
        simp (maxSteps := 8000000) (disch := first | omega | ((try simp only [bunN]) <;> omega) | exact NoGhost.mk rfl | fail) only [↓bD, bW, reduceMul, reduceEqDiff, reduceAdd, Nat.reduceBEq, reduceIte, Option.isNone_none, hro, d0, Tryz.results18]
        refine Must.intro (by (repeat first | simp (disch := omega) only [as_read, as_upd, as_newb, rok_read, rok_eff, rok_nil, bi_true, as_nil, as_e (Ext.refl _)] | rw [as_ord (by kernel_rfl)]); first | done | rfl) ?_
        simp (maxSteps := 8000000) (disch := first | omega | ((try simp only [bunN]) <;> omega) | exact NoGhost.mk rfl | fail) only [↓bD, bW, reduceMul, reduceEqDiff, reduceAdd, Nat.reduceBEq, reduceIte, Option.isNone_none, hro, Tryz.results18]
        exact ⟨_, rfl, ((((((Ext.new _ _).trans (.new _ _)).trans (.new _ _)).trans hE).new' _).upd (by omega) _).upd (by omega) _⟩
end Go.Proofs.T
namespace Go.Proofs.T
open Go Go.Ab
set_option maxRecDepth 100000
def runsOk : By → Nat → Bool
  | [], _ => true
  | b :: l, c => bif on digB b then Nat.ble (c + 1) 18 && runsOk l (c + 1) else runsOk l 0
theorem runsOk_cons {b : UInt8} {l : By} {c : Nat} : runsOk (b :: l) c = bif on digB b then Nat.ble (c + 1) 18 && runsOk l (c + 1) else runsOk l 0 := rfl
theorem runsOk_pre : ∀ (l : By) (c : Nat), runsOk l c = true → ∀ d q : By, l = d ++ q → d.all (on digB) = true → d ≠ [] → c + d.length ≤ 18 := by
  intro l
  induction l with
  | nil => intro c _ d q e _ hd; cases d with
    | nil => exact absurd rfl hd
    | cons x d => cases e
  | cons b l ih =>
    intro c h d q e hd hne
    cases d with
    | nil => exact absurd rfl hne
    | cons x d =>
      cases e
      rw [List.all_cons, Bool.and_eq_true] at hd
      rw [runsOk_cons, hd.1, cond_true, Bool.and_eq_true] at h
      have h1 := Nat.le_of_ble_eq_true h.1
      by_cases hd0 : d = []
      · subst hd0; exact h1
      · have := ih (c + 1) h.2 d q rfl hd.2 hd0
        rw [List.length_cons]; omega
theorem runsOk_in : ∀ (l : By) (c : Nat), runsOk l c = true → ∀ p d q : By, l = p ++ (d ++ q) → d.all (on digB) = true → d.length ≤ 18 := by
  intro l
  induction l with
  | nil => intro c _ p d q e _; cases p with
    | nil => cases d with
      | nil => simp
      | cons x d => cases e
    | cons x p => cases e
  | cons b l ih =>
    intro c h p d q e hd
    cases p with
    | nil =>
      by_cases hd0 : d = []
      · subst hd0; simp
      · have := runsOk_pre _ _ h d q e hd hd0; omega
    | cons x p =>
      cases e
      rw [runsOk_cons] at h
      cases hb : on digB b with
      | true =>
        rw [hb, cond_true, Bool.and_eq_true] at h
        exact ih _ h.2 p d q rfl hd
      | false =>
        rw [hb, cond_false] at h
        exact ih _ h p d q rfl hd
def Inf (w s : By) : Prop := ∃ p q : By, s = p ++ (w ++ q)
theorem Inf.trans {a b c : By} (h : Inf a b) (k : Inf b c) : Inf a c := by
  obtain ⟨p, q, rfl⟩ := h
  obtain ⟨p', q', rfl⟩ := k
  exact ⟨p' ++ p, q ++ q', by simp [List.append_assoc]⟩
theorem Inf.self {a : By} : Inf a a := ⟨[], [], by simp⟩
theorem Inf.take {a : By} {n : Nat} : Inf (a.take n) a := ⟨[], a.drop n, by simp⟩
theorem Inf.drop {a : By} {n : Nat} : Inf (a.drop n) a := ⟨a.take n, [], by simp⟩
theorem Inf.len {a b : By} (h : Inf a b) : a.length ≤ b.length := by obtain ⟨p, q, rfl⟩ := h; simp; omega
theorem Inf.none {a : By} : Inf [] a := ⟨[], a, rfl⟩
theorem split_inf (c : UInt8) : ∀ (n : Nat) (s w : By), s.length ≤ n → w ∈ splitB c s → Inf w s := by
  intro n
  induction n with
  | zero =>
    intro s w hs hw
    obtain rfl := List.eq_nil_of_length_eq_zero (Nat.le_zero.1 hs)
    rw [show splitB c [] = [[]] from rfl, List.mem_singleton] at hw
    rw [hw]; exact .self
  | succ n ih =>
    intro s w hs hw
    rcases splitB_eq c s with ⟨-, h2⟩ | ⟨m, -, h2, h3⟩
    · rw [h2, List.mem_singleton] at hw
      rw [hw]; exact .self
    · rw [h3] at hw
      rcases List.mem_cons.1 hw with rfl | hw
      · exact .take
      · exact (ih _ w (by rw [List.length_drop]; omega) hw).trans .drop
theorem toksP_inf : ∀ (ws : List By) (k : Nat) (t : Tok), t ∈ toksP ws k → t.1 ∈ ws := by
  intro ws
  induction ws with
  | nil => intro k t h; cases h
  | cons w ws ih =>
    intro k t h
    unfold toksP at h
    rcases List.mem_append.1 h with h | h
    · split at h
      · cases h
      · rw [List.mem_singleton] at h; subst h; exact List.mem_cons_self ..
    · exact List.mem_cons_of_mem _ (ih _ t h)
theorem toksS_inf {l : By} {a : Nat} {t : Tok} (h : t ∈ toksS l a) : Inf t.1 l := by
  unfold toksS at h
  rcases List.mem_append.1 h with h | h
  · exact split_inf 32 _ _ _ (Nat.le_refl _) (toksP_inf _ _ _ h)
  · rw [List.mem_singleton] at h; subst h; exact .none
theorem fT_inf {s : By} {a : Nat} : ∀ (f k : Nat) (t : Tok), t ∈ fT s a f k → Inf t.1 s := by
  intro f
  induction f with
  | zero => intro k t h; cases h
  | succ f ih =>
    intro k t h
    unfold fT at h
    split at h
    · cases h
    · split at h
      · exact ih _ _ h
      · rcases List.mem_cons.1 h with rfl | h
        · exact Inf.take.trans .drop
        · exact ih _ _ h
theorem fToks_inf {s : By} {a : Nat} {t : Tok} (h : t ∈ fToks s a) : Inf t.1 s := by
  unfold fToks at h
  rcases List.mem_append.1 h with h | h
  · exact fT_inf _ _ _ h
  · rw [List.mem_singleton] at h; subst h; exact .none
theorem cut_inf {t : By} : Inf (cutS t).1 t := by
  unfold cutS
  split
  · exact .self
  · exact .take
theorem line_ok {s l : By} {a : Nat} (hr : runsOk s 0 = true) (hl : s.length ≤ 4000) (h : l ∈ splitB 10 s) : LineOk l a := by
  have hi := split_inf 10 _ s l (Nat.le_refl _) h
  have key : ∀ w : By, Inf w s → w.length < 10000000 ∧ (numB w = true → w.length < 19) := by
    intro w hw
    have := hw.len
    refine ⟨by omega, fun hn => ?_⟩
    obtain ⟨p, q, e⟩ := hw
    have := runsOk_in s 0 hr p w q e (numB_all hn).1
    omega
  refine ⟨fun t ht => key _ ((toksS_inf ht).trans hi), fun n t ht => ?_⟩
  have h1 := ((fToks_inf ht).trans .drop).trans hi
  exact ⟨(key _ h1).1, fun hn => (key _ (cut_inf.trans h1)).2 hn⟩
end Go.Proofs.T
namespace Go.Proofs.T
open Go Go.Ab
set_option maxRecDepth 1000000
def chairsT : By := [116,101,110,100,101,114,32,67,104,97,105,114,115,10,108,111,116,32,49,32,109,111,115,116,32,53,48,48,10,99,114,105,116,101,114,105,111,110,32,99,111,109,102,111,114,116,32,103,114,97,100,101,32,48,32,49,48,10,112,114,105,99,101,32,49,32,53,48,48,10,102,111,114,109,117,108,97,32,48,46,54,32,42,32,108,111,119,32,47,32,112,114,105,99,101,32,43,32,48,46,48,52,32,42,32,99,111,109,102,111,114,116,10,98,117,100,103,101,116,32,53,48,48,10,116,105,109,101,115,32,49,48,32,50,48,32,51,48,32,52,48,32,53,10]
def numT (k : Nat) : By := [UInt8.ofNat (49 + k / 10), UInt8.ofNat (48 + k % 10)]
def idT (k : Nat) : By := [UInt8.ofNat (97 + k / 10), UInt8.ofNat (48 + k % 10)]
def lineT (kd k : Nat) : By := match kd with
  | 0 => [108,111,116,32] ++ numT k ++ [32,109,111,115,116,32,53,10]
  | 1 => [99,114,105,116,101,114,105,111,110,32] ++ idT k ++ [32,111,102,102,101,114,32,48,32,53,32,108,101,115,115,10]
  | 2 => [114,101,113,117,105,114,101,32,99,111,109,102,111,114,116,32,62,61,32] ++ numT k ++ [10]
  | _ => [99,111,109,98,111,32,49,32] ++ numT k ++ [10]
def txtT (kd : Nat) : Nat → By
  | 0 => chairsT
  | k + 1 => txtT kd k ++ lineT kd k
def mostT (kd : Nat) : Nat := match kd with
  | 0 => 11
  | 1 => 11
  | 2 => 24
  | _ => 12
def atT (kd k : Nat) : Nat := if mostT kd < k then (txtT kd (mostT kd)).length else 0
noncomputable def chkT (kd m : Nat) : Bool := match parseS (txtT kd m) with
  | .ok _ => Nat.ble m (mostT kd)
  | .error (p, e) => Nat.ble (mostT kd + 1) m && Nat.beq p (atT kd m) && (match e with | .ofNat n => Nat.beq n 2 | .negSucc _ => false)
noncomputable def upT (f : Nat → Bool) : Nat → Bool
  | 0 => true
  | n + 1 => f n && upT f n
def fineT (s : By) : Bool := runsOk s 0 && Nat.ble s.length 4000
noncomputable def oneT (kd m : Nat) : Bool := chkT kd m && fineT (txtT kd m)
theorem many0 : upT (oneT 0) 30 = true := by kernel_rfl
theorem many1 : upT (oneT 1) 30 = true := by kernel_rfl
theorem many2 : upT (oneT 2) 30 = true := by kernel_rfl
theorem many3 : upT (oneT 3) 30 = true := by kernel_rfl
def longT (n : Nat) : By := chairsT ++ List.replicate n 32
def okP : Except Er Tn → Bool
  | .ok _ => true
  | .error _ => false
theorem long_ok : (okP (parseS (longT 3856)) && fineT (longT 3856)) = true := by kernel_rfl
end Go.Proofs.T
