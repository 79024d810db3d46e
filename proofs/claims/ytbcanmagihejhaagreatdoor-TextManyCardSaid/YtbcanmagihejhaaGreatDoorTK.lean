/- The law on how many lines there may be: parses, and the walk. -/
import Derived.Test.YtbcanmagihejhaaGreatDoorTJ
set_option linter.unusedSimpArgs false
set_option linter.unusedVariables false
namespace Go.Proofs.T
open Go Go.Ab
open Nat (reduceMul reduceEqDiff reduceAdd)
set_option maxRecDepth 100000
noncomputable def saysB (s : By) (a e : Int) : Bool := match parseT s with
  | .ok _ => decide (0 = a) && decide (0 = e)
  | .error (p, f) => decide ((p : Int) = a) && decide (f = e)
def Fine (s : By) : Prop := (s.length ≤ 4000 → ∀ (l : By) (a : Nat), l ∈ splitB 10 s → a ≤ s.length + 1 → LineOk l a) ∧ (s.length ≤ 4000 → ∀ p e, parseS s = .error (p, e) → e ≠ 0) ∧ s.length < 1000000000
theorem parses_ok {σ : St} {s : By} {a e : Int} (h : Fine s) :
    Ev (go Tryz.prog HS (.fn 29) [str s, .int .i64 a, .int .i64 e] σ) (fun r => ∃ σ', r = ⟨false, .bool (saysB s a e), σ'⟩ ∧ Ext σ σ') ⟨⟩ := by
  refine ev_go Tryz.func29 rfl rfl ?_
  simp (maxSteps := 8000000) (disch := first | omega | ((try simp only [bunN]) <;> omega) | exact NoGhost.mk rfl | fail) only [↓bD, bW, reduceMul, reduceEqDiff, reduceAdd, Nat.reduceBEq, reduceIte, Option.isNone_none]
  refine (Parse_ok h.1 h.2.1 h.2.2).mono ?_
  intro r
  unfold saysB
  cases hR : parseT s with
  | ok T =>
    rintro ⟨σ1, cells, rfl, hE, hT⟩
    obtain ⟨a0, a1, a2, a3, a4, a5, a6, a7, a8, a9, a10, a11, a12, a13, a14, a15, a16, a17, a18, a19, rfl⟩ := (hT [] (by simp)).cells
    cases x1 : decide (0 = a) <;> cases x2 : decide (0 = e) <;> simp (maxSteps := 8000000) (disch := first | omega | ((try simp only [bunN]) <;> omega) | exact NoGhost.mk rfl | fail) only [↓bD, bW, reduceMul, reduceEqDiff, reduceAdd, Nat.reduceBEq, reduceIte, Option.isNone_none, x1, x2, yu_t, yu_f, Tryz.results29] <;> exact ⟨_, rfl, (hE.new' _).upd hE.n _⟩
  | error pe =>
    obtain ⟨p, f⟩ := pe
    rintro ⟨σ1, rfl, hE⟩
    unfold z20
    cases x1 : decide ((p : Int) = a) <;> cases x2 : decide (f = e) <;> simp (maxSteps := 8000000) (disch := first | omega | ((try simp only [bunN]) <;> omega) | exact NoGhost.mk rfl | fail) only [↓bD, bW, reduceMul, reduceEqDiff, reduceAdd, Nat.reduceBEq, reduceIte, Option.isNone_none, x1, x2, yu_t, yu_f, Tryz.results29] <;> exact ⟨_, rfl, (hE.new' _).upd hE.n _⟩
theorem upT_get {f : Nat → Bool} : ∀ {n m : Nat}, upT f n = true → m < n → f m = true := by
  intro n
  induction n with
  | zero => intro m _ h; omega
  | succ n ih =>
    intro m h hm
    unfold upT at h
    rw [Bool.and_eq_true] at h
    by_cases e : m = n
    · rw [e]; exact h.1
    · exact ih h.2 (by omega)
theorem fineT_ok {s : By} (h : fineT s = true) (he : ∀ p e, parseS s = .error (p, e) → e ≠ 0) : Fine s ∧ s.length ≤ 4000 := by
  unfold fineT at h
  rw [Bool.and_eq_true] at h
  have hl := Nat.le_of_ble_eq_true h.2
  exact ⟨⟨fun _ l a hm _ => line_ok h.1 hl hm, fun _ => he, by omega⟩, hl⟩
theorem many_says {kd m : Nat} (h : oneT kd m = true) : saysB (txtT kd m) (atT kd m : Nat) (if mostT kd < m then 2 else 0) = true ∧ Fine (txtT kd m) ∧ (txtT kd m).length ≤ 4000 := by
  unfold oneT at h
  rw [Bool.and_eq_true] at h
  obtain ⟨h1, h2⟩ := h
  unfold chkT at h1
  have he : ∀ p e, parseS (txtT kd m) = .error (p, e) → e ≠ 0 := by
    intro p e hp
    rw [hp] at h1
    rintro rfl
    simp at h1
  obtain ⟨hf, hl⟩ := fineT_ok h2 he
  refine ⟨?_, hf, hl⟩
  unfold saysB parseT
  rw [if_neg (by omega)]
  cases hp : parseS (txtT kd m) with
  | ok T =>
    rw [hp] at h1
    have := Nat.le_of_ble_eq_true h1
    dsimp only
    rw [if_neg (by omega)]
    unfold atT
    rw [if_neg (by omega)]
    simp
  | error pe =>
    obtain ⟨p, e⟩ := pe
    rw [hp] at h1
    dsimp only at h1 ⊢
    rw [Bool.and_eq_true, Bool.and_eq_true] at h1
    obtain ⟨⟨q1, q2⟩, q3⟩ := h1
    have := Nat.le_of_ble_eq_true q1
    rw [if_pos (by omega)]
    have q2' := Nat.eq_of_beq_eq_true q2
    cases e with
    | ofNat n => have := Nat.eq_of_beq_eq_true q3; subst this; rw [q2']; simp
    | negSucc n => cases q3
theorem many_all {kd m : Nat} (hk : kd < 4) (hm : m < 30) : saysB (txtT kd m) (atT kd m : Nat) (if mostT kd < m then 2 else 0) = true ∧ Fine (txtT kd m) ∧ (txtT kd m).length ≤ 4000 := by
  refine many_says ?_
  match kd, hk with
  | 0, _ => exact upT_get many0 hm
  | 1, _ => exact upT_get many1 hm
  | 2, _ => exact upT_get many2 hm
  | 3, _ => exact upT_get many3 hm
theorem long_fine : Fine (longT 3856) ∧ saysB (longT 3856) 0 0 = true := by
  have h := long_ok
  rw [Bool.and_eq_true] at h
  cases hp : parseS (longT 3856) with
  | error pe => rw [hp] at h; cases h.1
  | ok T =>
    obtain ⟨hf, hl⟩ := fineT_ok h.2 (fun p e hpe => by rw [hp] at hpe; cases hpe)
    refine ⟨hf, ?_⟩
    unfold saysB parseT
    rw [if_neg (by omega), hp]
    rfl
theorem long_len {n : Nat} : (longT n).length = 144 + n := by
  unfold longT
  rw [List.length_append, List.length_replicate]; rfl
theorem long_too : Fine (longT 3857) ∧ saysB (longT 3857) 0 2 = true := by
  have hl := @long_len 3857
  refine ⟨⟨fun h => by omega, fun h => by omega, by omega⟩, ?_⟩
  · unfold saysB parseT
    rw [if_pos (by omega)]
    rfl
theorem pows_self : sameRow (some pows) (some pows) = true := by kernel_rfl
theorem sanity_ok {σ : St} (h : σ.read 1 0 20 = some pows) : go Tryz.prog HS (.fn 12) [] σ = some ⟨false, .bool true, σ⟩ := by
  have e2 : go Tryz.prog HS (.fn 12) [] σ = bb (sameRow (σ.read 1 0 20) (some pows)) (some ⟨false, .bool true, σ⟩) := rfl
  rw [e2, h, pows_self]; rfl
theorem line_sub {kd k : Nat} (h : kd < 4) : sub [str [108, 111, 116, 32, UInt8.ofNat (49 + k / 10), UInt8.ofNat (48 + k % 10), 32, 109, 111, 115, 116, 32, 53, 10],
    str [99, 114, 105, 116, 101, 114, 105, 111, 110, 32, UInt8.ofNat (97 + k / 10), UInt8.ofNat (48 + k % 10), 32, 111, 102, 102, 101, 114, 32, 48, 32, 53, 32, 108, 101, 115, 115, 10],
    str [114, 101, 113, 117, 105, 114, 101, 32, 99, 111, 109, 102, 111, 114, 116, 32, 62, 61, 32, UInt8.ofNat (49 + k / 10), UInt8.ofNat (48 + k % 10), 10],
    str [99, 111, 109, 98, 111, 32, 49, 32, UInt8.ofNat (49 + k / 10), UInt8.ofNat (48 + k % 10), 10]] kd 1 = some [str (lineT kd k)] := by
  match kd, h with
  | 0, _ => rfl
  | 1, _ => rfl
  | 2, _ => rfl
  | 3, _ => rfl
theorem line_len {kd k : Nat} (h : kd < 4) : (lineT kd k).length ≤ 40 := by
  match kd, h with
  | 0, _ => simp [lineT, numT]
  | 1, _ => simp [lineT, idT]
  | 2, _ => simp [lineT, numT]
  | 3, _ => simp [lineT, numT]
theorem atT_at {kd : Nat} : atT kd (mostT kd + 1) = (txtT kd (mostT kd)).length := by unfold atT; rw [if_pos (by omega)]
theorem atT_ne {kd k : Nat} (h : k ≠ mostT kd) : atT kd (k + 1) = atT kd k := by
  unfold atT
  by_cases h2 : mostT kd < k
  · rw [if_pos (by omega), if_pos h2]
  · rw [if_neg (by omega), if_neg h2]
theorem long_sub : sub (longT 3857) 0 4000 = some (longT 3856) := by
  rw [sub_of (by rw [long_len]; omega), List.drop_zero]
  unfold longT
  rw [List.take_append, List.take_of_length_le (by show 144 ≤ 4000; omega), show chairsT.length = 144 from rfl, List.take_replicate, show min (4000 - 144) 3857 = 3856 from rfl]
theorem n4000 : nat? (.int .i64 4000) = some 4000 := rfl
theorem ble4000 : Nat.ble 4000 (longT 3857).length = true := by rw [long_len]; rfl
theorem ble0 : Nat.ble 0 4000 = true := rfl
theorem long_succ {k : Nat} : longT k ++ [32] = longT (k + 1) := by
  unfold longT
  rw [List.append_assoc, List.replicate_succ']
set_option maxHeartbeats 8000000 in
theorem many_walk {kd : Nat} {n c : Int} (hkd : kd < 4) (hc : c.tmod 4 = (kd : Nat)) {m : Nat} (hm : m < 30) (hn : n.tmod 30 = (m : Nat))
    (h1 : sub [Value.int .i64 11, .int .i64 11, .int .i64 24, .int .i64 12] kd 1 = some [.int .i64 (mostT kd : Nat)])
    {σ : St} (hp : σ.read 1 0 20 = some pows) :
    Ev (go Tryz.prog HS (.fn 10) [.int .u8 n, .int .u8 c] σ) (fun r => ∃ σ', r = ⟨false, .bool true, σ'⟩) ⟨⟩ := by
  refine ev_go Tryz.func10 rfl rfl ?_
  have e4 : decide (kd < 4) = true := by simpa using hkd
  simp (maxSteps := 8000000) (disch := first | omega | ((try simp only [bunN]) <;> omega) | exact NoGhost.mk rfl | fail) only [↓bD, bW, reduceMul, reduceEqDiff, reduceAdd, Nat.reduceBEq, reduceIte, Option.isNone_none, sanity_ok hp, hc, hn, h1, e4]
  refine ev_count m (fun k fr _ => fr.get 0 = some (.int .u8 n) ∧ fr.get 1 = some (.int .u8 c) ∧ fr.get 5 = some (.bool true) ∧ fr.get 6 = some (.int .i64 (mostT kd : Nat)) ∧ fr.get 7 = some (str (txtT kd k)) ∧ fr.get 8 = some (.int .i64 (atT kd k : Nat)) ∧ fr.get 9 = some (.int .i64 (k : Nat)))
    (fun r => ∃ fr σ', r = ⟨.exit 0, fr, σ'⟩ ∧ fr.get 0 = some (.int .u8 n) ∧ fr.get 5 = some (.bool true) ∧ fr.get 6 = some (.int .i64 (mostT kd : Nat)) ∧ fr.get 7 = some (str (txtT kd m)) ∧ fr.get 8 = some (.int .i64 (atT kd m : Nat))) ?_ ?_ ?_ ?_
  · exact ⟨fR, fR, fR, fR, fR, fR, fR⟩
  · rintro k fr σ' hk ⟨g0, g1, g5, g6, g7, g8, g9⟩
    have hl := (many_all hkd (show k < 30 by omega)).2.2
    have e1 : IntKind.i64.wrap (m : Nat) = ((m : Nat) : Int) := wrap64_in (by omega) (by omega)
    have e2 : IntKind.i64.wrap ((k : Int).tdiv 10) = ((k / 10 : Nat) : Int) := by rw [show (k : Int).tdiv 10 = ((k / 10 : Nat) : Int) from rfl, wrap64_in (by omega) (by omega)]
    have e3 : (k : Int).tmod 10 = ((k % 10 : Nat) : Int) := rfl
    have e5 : IntKind.u8.wrap ((k / 10 : Nat) : Int) = ((k / 10 : Nat) : Int) := wrap8_in (by omega) (by omega)
    have e6 : IntKind.u8.wrap ((k % 10 : Nat) : Int) = ((k % 10 : Nat) : Int) := wrap8_in (by omega) (by omega)
    have e7 : decide (k < m) = true := by simpa using hk
    have u1 : (97 + ((k / 10 : Nat) : Int)).toNat = 97 + k / 10 := by omega
    have u2 : (48 + ((k % 10 : Nat) : Int)).toNat = 48 + k % 10 := by omega
    have u3 : (49 + ((k / 10 : Nat) : Int)).toNat = 49 + k / 10 := by omega
    have e9 : decide ((k : Int) = ((mostT kd : Nat) : Int)) = decide (k = mostT kd) := by rw [Bool.eq_iff_iff, decide_eq_true_iff, decide_eq_true_iff]; omega
    have h2 := line_sub (k := k) hkd
    have h3 := line_len (k := k) hkd
    cases e8 : decide (k = mostT kd) with
    | true =>
      obtain rfl := of_decide_eq_true e8
      simp (maxSteps := 8000000) (disch := first | omega | ((try simp only [bunN]) <;> omega) | exact NoGhost.mk rfl | fail) only [↓bD, bW, reduceMul, reduceEqDiff, reduceAdd, Nat.reduceBEq, reduceIte, Option.isNone_none, g0, g1, g5, g6, g7, g8, g9, hn, hc, e1, e2, e3, e4, e5, e6, e7, u1, u2, u3, e9, e8, h2]
      refine ⟨fR1 g0, fR1 g1, fR1 g5, fR1 g6, fR, ?_, fR⟩
      rw [atT_at]
    | false =>
      simp (maxSteps := 8000000) (disch := first | omega | ((try simp only [bunN]) <;> omega) | exact NoGhost.mk rfl | fail) only [↓bD, bW, reduceMul, reduceEqDiff, reduceAdd, Nat.reduceBEq, reduceIte, Option.isNone_none, g0, g1, g5, g6, g7, g8, g9, hn, hc, e1, e2, e3, e4, e5, e6, e7, u1, u2, u3, e9, e8, h2]
      refine ⟨fR1 g0, fR1 g1, fR1 g5, fR1 g6, fR, ?_, fR⟩
      rw [atT_ne (of_decide_eq_false e8)]
  · rintro fr σ' ⟨g0, g1, g5, g6, g7, g8, g9⟩
    have e1 : IntKind.i64.wrap (m : Nat) = ((m : Nat) : Int) := wrap64_in (by omega) (by omega)
    simp (maxSteps := 8000000) (disch := first | omega | ((try simp only [bunN]) <;> omega) | exact NoGhost.mk rfl | fail) only [↓bD, bW, reduceMul, reduceEqDiff, reduceAdd, Nat.reduceBEq, reduceIte, Option.isNone_none, g0, g1, g5, g6, g7, g8, g9, hn, hc, e1, lt_self]
    exact ⟨_, _, rfl, fR1 g0, fR1 g5, fR1 g6, fR1 g7, fR1 g8⟩
  · rintro r ⟨fr, σ', rfl, g0, g5, g6, g7, g8⟩
    simp (maxSteps := 8000000) (disch := first | omega | ((try simp only [bunN]) <;> omega) | exact NoGhost.mk rfl | fail) only [↓bD, bW, reduceMul, reduceEqDiff, reduceAdd, Nat.reduceBEq, reduceIte, Option.isNone_none, g0, g5, g6, g7, g8]
    refine ev_count 3857 (fun k fr _ => fr.get 0 = some (.int .u8 n) ∧ fr.get 5 = some (.bool true) ∧ fr.get 6 = some (.int .i64 (mostT kd : Nat)) ∧ fr.get 7 = some (str (txtT kd m)) ∧ fr.get 8 = some (.int .i64 (atT kd m : Nat)) ∧ fr.get 12 = some (str (longT k)))
      (fun r => ∃ fr σ', r = ⟨.exit 2, fr, σ'⟩ ∧ fr.get 0 = some (.int .u8 n) ∧ fr.get 5 = some (.bool true) ∧ fr.get 6 = some (.int .i64 (mostT kd : Nat)) ∧ fr.get 7 = some (str (txtT kd m)) ∧ fr.get 8 = some (.int .i64 (atT kd m : Nat)) ∧ fr.get 12 = some (str (longT 3857))) ?_ ?_ ?_ ?_
    · refine ⟨fR1 g0, fR1 g5, fR1 g6, fR1 g7, fR1 g8, ?_⟩
      rw [Tr.get_set_same]
      exact congrArg (fun x => some (str x)) (show _ = longT 0 by unfold longT; rfl)
    · rintro k fr σ' hk ⟨g0, g5, g6, g7, g8, g12⟩
      have hl := @long_len k
      have e1 : decide (4000 < (longT k).length) = false := by rw [decide_eq_false_iff_not, hl]; omega
      have e2 : decide ((4000 : Int) < (((longT k).length : Nat) : Int)) = false := by rw [decide_eq_false_iff_not, hl]; omega
      simp (maxSteps := 8000000) (disch := first | omega | ((try simp only [bunN]) <;> omega) | exact NoGhost.mk rfl | fail) only [↓bD, bW, reduceMul, reduceEqDiff, reduceAdd, Nat.reduceBEq, reduceIte, Option.isNone_none, g0, g5, g6, g7, g8, g12, e1, e2]
      refine ⟨fR1 g0, fR1 g5, fR1 g6, fR1 g7, fR1 g8, ?_⟩
      rw [long_succ]
    · rintro fr σ' ⟨g0, g5, g6, g7, g8, g12⟩
      have hl := @long_len 3857
      have e1 : decide (4000 < (longT 3857).length) = true := by rw [decide_eq_true_iff, hl]; omega
      have e2 : decide ((4000 : Int) < (((longT 3857).length : Nat) : Int)) = true := by rw [decide_eq_true_iff, hl]; omega
      simp (maxSteps := 8000000) (disch := first | omega | ((try simp only [bunN]) <;> omega) | exact NoGhost.mk rfl | fail) only [↓bD, bW, reduceMul, reduceEqDiff, reduceAdd, Nat.reduceBEq, reduceIte, Option.isNone_none, g0, g5, g6, g7, g8, g12, e1, e2]
      exact ⟨_, _, rfl, fR1 g0, fR1 g5, fR1 g6, fR1 g7, fR1 g8, fR1 g12⟩
    · rintro r ⟨fr, σ', rfl, g0, g5, g6, g7, g8, g12⟩
      obtain ⟨q1, q2, -⟩ := many_all hkd hm
      simp (maxSteps := 8000000) (disch := first | omega | ((try simp only [bunN]) <;> omega) | exact NoGhost.mk rfl | fail) only [↓bD, bW, reduceMul, reduceEqDiff, reduceAdd, Nat.reduceBEq, reduceIte, Option.isNone_none, g0, g5, g6, g7, g8, g12]
      refine (parses_ok q2).mono ?_
      rintro r ⟨σ1, rfl, -⟩
      have e1 : IntKind.i64.wrap (m : Nat) = ((m : Nat) : Int) := wrap64_in (by omega) (by omega)
      have e2 : decide (((mostT kd : Nat) : Int) < ((m : Nat) : Int)) = decide (mostT kd < m) := by rw [Bool.eq_iff_iff, decide_eq_true_iff, decide_eq_true_iff]; omega
      cases e3 : decide (mostT kd < m) with
      | true =>
        rw [if_pos (of_decide_eq_true e3)] at q1
        simp (maxSteps := 8000000) (disch := first | omega | ((try simp only [bunN]) <;> omega) | exact NoGhost.mk rfl | fail) only [↓bD, bW, reduceMul, reduceEqDiff, reduceAdd, Nat.reduceBEq, reduceIte, Option.isNone_none, g0, g5, g6, g7, g8, g12, hn, e1, e2, e3]
        refine (parses_ok q2).mono ?_
        rintro r ⟨σ2, rfl, -⟩
        simp (maxSteps := 8000000) (disch := first | omega | ((try simp only [bunN]) <;> omega) | exact NoGhost.mk rfl | fail) only [↓bD, bW, reduceMul, reduceEqDiff, reduceAdd, Nat.reduceBEq, reduceIte, Option.isNone_none, g0, g5, g6, g7, g8, g12, q1, yu_t, yu_f]
        refine (parses_ok long_too.1).mono ?_
        rintro r ⟨σ3, rfl, -⟩
        rw [long_too.2]
        simp (maxSteps := 8000000) (disch := first | omega | ((try simp only [bunN]) <;> omega) | exact NoGhost.mk rfl | fail) only [↓bD, bW, reduceMul, reduceEqDiff, reduceAdd, Nat.reduceBEq, reduceIte, Option.isNone_none, g0, g5, g6, g7, g8, g12, yu_t, yu_f, n4000, ble4000, ble0, Nat.sub_zero, long_sub]
        refine (parses_ok long_fine.1).mono ?_
        rintro r ⟨σ4, rfl, -⟩
        rw [long_fine.2]
        simp (maxSteps := 8000000) (disch := first | omega | ((try simp only [bunN]) <;> omega) | exact NoGhost.mk rfl | fail) only [↓bD, bW, reduceMul, reduceEqDiff, reduceAdd, Nat.reduceBEq, reduceIte, Option.isNone_none, yu_t, yu_f, Tryz.results10]
        exact ⟨_, rfl⟩
      | false =>
        rw [if_neg (of_decide_eq_false e3)] at q1
        simp (maxSteps := 8000000) (disch := first | omega | ((try simp only [bunN]) <;> omega) | exact NoGhost.mk rfl | fail) only [↓bD, bW, reduceMul, reduceEqDiff, reduceAdd, Nat.reduceBEq, reduceIte, Option.isNone_none, g0, g5, g6, g7, g8, g12, hn, e1, e2, e3, q1, yu_t, yu_f]
        refine (parses_ok long_too.1).mono ?_
        rintro r ⟨σ3, rfl, -⟩
        rw [long_too.2]
        simp (maxSteps := 8000000) (disch := first | omega | ((try simp only [bunN]) <;> omega) | exact NoGhost.mk rfl | fail) only [↓bD, bW, reduceMul, reduceEqDiff, reduceAdd, Nat.reduceBEq, reduceIte, Option.isNone_none, g0, g5, g6, g7, g8, g12, yu_t, yu_f, n4000, ble4000, ble0, Nat.sub_zero, long_sub]
        refine (parses_ok long_fine.1).mono ?_
        rintro r ⟨σ4, rfl, -⟩
        rw [long_fine.2]
        simp (maxSteps := 8000000) (disch := first | omega | ((try simp only [bunN]) <;> omega) | exact NoGhost.mk rfl | fail) only [↓bD, bW, reduceMul, reduceEqDiff, reduceAdd, Nat.reduceBEq, reduceIte, Option.isNone_none, yu_t, yu_f, Tryz.results10]
        exact ⟨_, rfl⟩
end Go.Proofs.T
