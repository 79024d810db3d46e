/- A part of the proof: a walk of some functions. -/
import Derived.Test.YtcjkjjnnicadfaaGreatDoorGA
import Derived.Test.YtcjkjjnnicadfaaGreatDoorAbD
import Derived.Test.YtcjkjjnnicadfaaGreatDoorGB
set_option linter.unusedSimpArgs false
set_option linter.unusedVariables false
namespace Go.Proofs.G
open Go Go.Ab
set_option maxRecDepth 100000
variable {σ : St}
def among (l : List (List UInt8)) (s : List UInt8) : Nat → Bool
 | 0 => false
 | k + 1 => among l s k || decide (l[k]? = some s)
theorem among_all (l : List (List UInt8)) (s : List UInt8) (k : Nat) : among l s k = true ↔ ∃ i, i < k ∧ l[i]? = some s := by
 induction k with
 | zero => simp [among]
 | succ k ih =>
  simp only [among, Bool.or_eq_true, ih, decide_eq_true_iff]
  constructor
  ·rintro (⟨i, h1, h2⟩ | h)
   ·exact ⟨i, by omega, h2⟩
   ·exact ⟨k, by omega, h⟩
  ·rintro ⟨i, h1, h2⟩
   by_cases e : i = k
   ·subst e; exact .inr h2
   ·exact .inl ⟨i, by omega, h2⟩
theorem among_contains (l : List (List UInt8)) (s : List UInt8) : among l s l.length = l.contains s := by
 rw [Bool.eq_iff_iff, among_all, List.contains_iff_mem, List.mem_iff_getElem?]
 constructor
 ·rintro ⟨i, -, h⟩; exact ⟨i, h⟩
 ·rintro ⟨i, h⟩
  obtain ⟨hlt, _⟩ := List.getElem?_eq_some_iff.1 h
  exact ⟨i, hlt, h⟩
end Go.Proofs.G
namespace Go.Proofs.G
open Go Go.Ab
open Nat (reduceMul reduceEqDiff reduceAdd)
set_option maxRecDepth 100000
variable {σ : St}
theorem index_strings {v : Value} {l : List (List UInt8)} {s : List UInt8} (hl : Strs σ v l) (hn : l.length ≤ 4294967296) :
  Ev (go Tryz.prog HS (.fn 72) [v, str s] σ) (fun r => ∃ n : Int, r = ⟨false, .int .i64 n, σ⟩ ∧ (0 ≤ n ↔ l.contains s = true) ∧ -1 ≤ n ∧ n < 4294967297) ⟨⟩ := by
 obtain ⟨a, c, b, off, cells, rfl, h1, h2⟩ := hl.use
 refine ev_go Tryz.func72 rfl rfl ?_
 refine gS ?_;try exact ⟨⟩
 refine ev_loop (fun j fr σ' => ∃ k, j = l.length - k ∧ k ≤ l.length ∧ fr.get 0 = some (.slice a l.length c) ∧ fr.get 1 = some (str s) ∧ fr.get 7 = some (.int .i64 l.length) ∧ fr.get 8 = some (.int .i64 k) ∧ σ' = σ ∧ among l s k = false)
  (fun r => (∃ fr, r = ⟨.exit 0, fr, σ⟩ ∧ among l s l.length = false) ∨ (∃ fr k, r = ⟨.ret, fr, σ⟩ ∧ fr.get 4 = some (.int .i64 (k : Nat)) ∧ k < l.length ∧ l.contains s = true)) l.length ?_ ?_ ?_
 ·refine ⟨0, rfl, by omega, ?_, ?_, ?_, ?_, rfl, rfl⟩
  all_goals exact fR
 ·rintro j fr σ' ⟨k, rfl, hk, g0, g1, g7, g8, rfl, hm⟩
  by_cases hc : k < l.length
  ·obtain ⟨sp, rfl, hb, hr⟩ := h1 (by omega)
   obtain ⟨x, hx⟩ : ∃ x, l[k]? = some x := ⟨_, List.getElem?_eq_getElem hc⟩
   have h2 := h2 k x hx
   have hc' : decide (k < l.length) = true := by simpa using hc
   refine gS1 (And.intro @g0 (And.intro @g1 (And.intro @g7 (And.intro @g8 (And.intro @lt_nat (And.intro @hc' (And.intro @hr (And.intro @Nat.mul_one @h2)))))))) ?_;try exact ⟨⟩
   refine Br.intro (fun hd => ?_) (fun hd => ?_)
   ·obtain rfl : s = x := by simpa using hd
    refine gS1 (And.intro @g0 (And.intro @g1 (And.intro @g7 (And.intro @g8 @lp_ret)))) ?_;try exact ⟨⟩
    refine .inr ⟨_, k, rfl, fR, hc, ?_⟩
    rw [List.contains_iff_mem]
    exact List.mem_of_getElem? hx
   ·have hd : s ≠ x := by simpa using hd
    refine gS1 (And.intro @g0 (And.intro @g1 (And.intro @g7 (And.intro @g8 (And.intro @nat_succ @lp_normal))))) ?_;try exact ⟨⟩
    refine ⟨l.length - (k + 1), by omega, k + 1, rfl, by omega, fR1 g0, fR1 g1, fR1 g7, fR, by trivial, ?_⟩
    show (among l s k || decide (l[k]? = some s)) = false
    rw [hm, hx]
    simpa using fun h => hd h.symm
  ·have hc' : decide (k < l.length) = false := by simpa using hc
   obtain rfl : k = l.length := by omega
   refine gS1 (And.intro @g0 (And.intro @g1 (And.intro @g7 (And.intro @g8 (And.intro @lt_nat (And.intro @hc' @lp_exit)))))) ?_;try exact ⟨⟩
   exact .inl ⟨_, rfl, hm⟩
 ·rintro r (⟨fr, rfl, hm⟩ | ⟨fr, k, rfl, g4, hk, hm⟩)
  ·refine gS1 @Tryz.results72 ?_;try exact ⟨⟩
   refine ⟨-1, rfl, ?_, by omega, by omega⟩
   rw [← among_contains, hm]
   simp
  ·refine gS1 (And.intro @Tryz.results72 @g4) ?_;try exact ⟨⟩
   exact ⟨k, rfl, by rw [hm]; simp, by omega, by omega⟩
theorem contains_strings {v : Value} {l : List (List UInt8)} {s : List UInt8} (hl : Strs σ v l) (hn : l.length ≤ 4294967296) :
  Ev (go Tryz.prog HS (.fn 45) [v, str s] σ) (fun r => r = ⟨false, .bool (l.contains s), σ⟩) ⟨⟩ := by
 have hl' := hl
 obtain ⟨a, c, b, off, cells, rfl, h1, h2⟩ := hl.use
 refine ev_go Tryz.func45 rfl rfl ?_
 refine gS ?_;try exact ⟨⟩
 refine (index_strings hl' hn).mono ?_
 rintro r ⟨n, rfl, h3, h4, h5⟩
 have hb : (!decide (n < 0)) = l.contains s := by
  rw [Bool.eq_iff_iff, ← h3]; simp
 refine gS1 (And.intro @Tryz.results45 @hb) ?_;try exact ⟨⟩
theorem mod_ok {n m : Int} (h1 : -9223372036854775808 ≤ n) (h2 : n ≤ 9223372036854775807) (h3 : 0 < m) (h4 : m ≤ 4294967296) :
  Ev (go Tryz.prog HS (.fn 40) [.int .i64 n, .int .i64 m] σ) (fun r => r = ⟨false, .int .i64 (n % m), σ⟩) ⟨⟩ := by
 have hm0 : m ≠ 0 := by omega
 have a1 := Int.tmod_lt_of_pos n h3
 have a2 : -m < n.tmod m := by
  have := Int.lt_tmod_of_pos n h3
  omega
 have e : (n.tmod m + m).tmod m = n % m := by
  rw [Int.tmod_eq_emod_of_nonneg (by omega), Int.add_emod_right]
  rw [Int.tmod_def]
  exact Int.sub_mul_emod_self_left _ _ _
 refine ev_go Tryz.func40 rfl rfl ?_
 refine gS1 (And.intro @Tryz.results40 @e) ?_;try exact ⟨⟩
end Go.Proofs.G
namespace Go.Proofs.G
open Go Go.Ab
set_option maxRecDepth 100000
def dig (n : Nat) : UInt8 := UInt8.ofNat (48 + n % 10)
def decF : Nat → Nat → List UInt8
 | 0, _ => []
 | f + 1, n => if n < 10 then [dig n] else decF f (n / 10) ++ [dig n]
theorem decF_any : ∀ (f g n : Nat), n < f → n < g → decF f n = decF g n := by
 intro f
 induction f with
 | zero => intro g n h; omega
 | succ f ih =>
  intro g n h1 h2
  cases g with
  | zero => omega
  | succ g =>
   show (if n < 10 then [dig n] else decF f (n / 10) ++ [dig n]) = (if n < 10 then [dig n] else decF g (n / 10) ++ [dig n])
   by_cases h : n < 10
   ·rw [if_pos h, if_pos h]
   ·rw [if_neg h, if_neg h, ih g (n / 10) (by omega) (by omega)]
def decN (n : Nat) : List UInt8 := decF (n + 1) n
def dec (n : Int) : List UInt8 := if n < 0 then 45 :: decN n.natAbs else decN n.natAbs
theorem decN_small {n : Nat} (h : n < 10) : decN n = [dig n] := by
 show (if n < 10 then [dig n] else _) = _
 rw [if_pos h]
theorem decN_big {n : Nat} (h : ¬ n < 10) : decN n = decN (n / 10) ++ [dig n] := by
 show (if n < 10 then [dig n] else decF n (n / 10) ++ [dig n]) = decF (n / 10 + 1) (n / 10) ++ [dig n]
 rw [if_neg h, decF_any n (n / 10 + 1) (n / 10) (by omega) (by omega)]
theorem decN_len : ∀ (k n : Nat), n < 10 ^ (k + 1) → (decN n).length ≤ k + 1 := by
 intro k
 induction k with
 | zero => intro n h; rw [decN_small (by omega)]; simp
 | succ k ih =>
  intro n h
  by_cases h10 : n < 10
  ·rw [decN_small h10]; simp
  ·rw [decN_big h10]
   have := ih (n / 10) (by rw [Nat.pow_succ] at h; omega)
   simp; omega
theorem decN_len20 {n : Nat} (h : n < 18446744073709551616) : (decN n).length ≤ 20 := decN_len 19 n (by omega)
theorem dec_len {n : Int} (h1 : -9223372036854775808 ≤ n) (h2 : n ≤ 9223372036854775807) : (dec n).length ≤ 21 := by
 have := decN_len20 (n := n.natAbs) (by omega)
 unfold dec
 split
 ·simp; omega
 ·omega
end Go.Proofs.G
namespace Go.Proofs.G
open Go Go.Ab
set_option maxRecDepth 100000
def lotC (id : Int) : By := [108, 111, 116, 32] ++ dec id
def critC (nm : By) : By := [99, 114, 105, 116, 101, 114, 105, 111, 110, 32] ++ nm
def reqC (k : Nat) : By := [114, 101, 113, 117, 105, 114, 101, 32] ++ dec (k : Int)
def nameC : By := [110, 97, 109, 101]
def rangeC : By := [114, 97, 110, 103, 101]
def formulaC : By := [102, 111, 114, 109, 117, 108, 97]
def tiesC : By := [116, 105, 101, 115]
def mostC : By := [109, 111, 115, 116]
def combosC : By := [99, 111, 109, 98, 111, 115]
def budgetC : By := [98, 117, 100, 103, 101, 116]
def timesC : By := [116, 105, 109, 101, 115]
def fixedC : List By := [rangeC, formulaC, tiesC, mostC, combosC, budgetC, timesC]
def addNew (out : List By) (s : By) : List By := if out.contains s then out else out ++ [s]
def heads (T : Tn) : List By := nameC :: T.lots.map (fun l => lotC l.id) ++ T.crits.map (fun c => critC c.name) ++ (List.range T.reqs.length).map (fun k => reqC (k + 1))
def clausesR (T : Tn) : List By := (heads T ++ fixedC).foldl addNew []
theorem addNew_no {out : List By} {s : By} (h : (!out.contains s) = true) : addNew out s = out ++ [s] := by
 unfold addNew; rw [if_neg (by simpa using h)]
theorem addNew_yes {out : List By} {s : By} (h : (!out.contains s) = false) : addNew out s = out := by
 unfold addNew; rw [if_pos (by simpa using h)]
theorem addNew_len (out : List By) (s : By) : (addNew out s).length ≤ out.length + 1 := by
 unfold addNew; split <;> simp
theorem fold_len (l : List By) : ∀ out : List By, (l.foldl addNew out).length ≤ out.length + l.length := by
 induction l with
 | nil => intro out; simp
 | cons s l ih => intro out; have h1 := ih (addNew out s); have h2 := addNew_len out s; simp only [List.foldl_cons, List.length_cons]; omega
theorem heads_len {T : Tn} (h : T.Ok) : (heads T).length ≤ 41 := by
 have h1 := h.lots; have h2 := h.crits; have h3 := h.reqs
 simp [heads]; omega
theorem clausesR_len {T : Tn} (h : T.Ok) : (clausesR T).length ≤ 48 := by
 have h1 := heads_len h
 have h2 := fold_len (heads T ++ fixedC) []
 have h3 : fixedC.length = 7 := rfl
 rw [List.length_append] at h2
 simp only [List.length_nil] at h2
 unfold clausesR
 omega
end Go.Proofs.G
namespace Go.Proofs.G
open Go Go.Ab
set_option maxRecDepth 100000
end Go.Proofs.G
namespace Go.Proofs.G
open Go Go.Ab
set_option maxRecDepth 100000
section
variable {x y : Operand}
theorem beq_dec {a b : Int} : (a == b) = decide (a = b) := by rw [Bool.eq_iff_iff]; simp
theorem beq_bytes' {a b : By} : ((⟨⟨a⟩⟩ : ByteArray) == ⟨⟨b⟩⟩) = decide (a = b) := by
 rw [beq_toListBytes, ByteArray.toList_eq, ByteArray.toList_eq]
 show (a == b) = _
 rw [Bool.eq_iff_iff]; simp
theorem bi_and {a b : Bool} : bi a (some b) (some false) = some (a && b) := by cases a <;> rfl
theorem b2_rat {a b c d : Int} : bin2 Tryz.prog .eql 37 x y (.agg ⟨[.int .i64 a, .int .i64 b]⟩) (.agg ⟨[.int .i64 c, .int .i64 d]⟩) = some (.bool (decide (a = c) && decide (b = d))) ∧
  bin2 Tryz.prog .neq 37 x y (.agg ⟨[.int .i64 a, .int .i64 b]⟩) (.agg ⟨[.int .i64 c, .int .i64 d]⟩) = some (.bool (!(decide (a = c) && decide (b = d)))) := by
 have he : eqF Tryz.prog 9999 ⟨[.int .i64 a, .int .i64 b]⟩ ⟨[.int .i64 c, .int .i64 d]⟩ (Tryz.prog.fieldsOf 37).toList = bi (a == c) (bi (b == d) (some true) (some false)) (some false) := by kernel_rfl
 have h := b2_struct (x := x) (y := y) rfl (by kernel_rfl) (by kernel_rfl) (by kernel_rfl) he
 rw [bi_and, bi_and, beq_dec, beq_dec, Bool.and_true] at h
 exact h
theorem b2_lot {a b : Lot} : bin2 Tryz.prog .eql 86 x y (.agg ⟨a.row⟩) (.agg ⟨b.row⟩) = some (.bool (decide (a = b))) ∧ bin2 Tryz.prog .neq 86 x y (.agg ⟨a.row⟩) (.agg ⟨b.row⟩) = some (.bool (!decide (a = b))) := by
 have he : eqF Tryz.prog 9999 ⟨a.row⟩ ⟨b.row⟩ (Tryz.prog.fieldsOf 86).toList = bi (a.id == b.id) (bi (a.most == b.most) (some true) (some false)) (some false) := by kernel_rfl
 have h := b2_struct (x := x) (y := y) rfl (by kernel_rfl) (by kernel_rfl) (by kernel_rfl) he
 rw [bi_and, bi_and, beq_dec, beq_dec, Bool.and_true] at h
 have e : (decide (a.id = b.id) && decide (a.most = b.most)) = decide (a = b) := by
  rw [Bool.eq_iff_iff]; cases a; cases b; simp
 rw [e] at h
 exact h
theorem b2_crit {a b : Crit} : bin2 Tryz.prog .eql 78 x y (.agg ⟨a.row⟩) (.agg ⟨b.row⟩) = some (.bool (decide (a = b))) ∧ bin2 Tryz.prog .neq 78 x y (.agg ⟨a.row⟩) (.agg ⟨b.row⟩) = some (.bool (!decide (a = b))) := by
 have he : eqF Tryz.prog 9999 ⟨a.row⟩ ⟨b.row⟩ (Tryz.prog.fieldsOf 78).toList = bi ((⟨⟨a.name⟩⟩ : ByteArray) == ⟨⟨b.name⟩⟩) (bi (a.kind == b.kind) (bi (a.low == b.low) (bi (a.high == b.high) (bi (a.less == b.less) (some true) (some false)) (some false)) (some false)) (some false)) (some false) := by kernel_rfl
 have h := b2_struct (x := x) (y := y) rfl (by kernel_rfl) (by kernel_rfl) (by kernel_rfl) he
 rw [bi_and, bi_and, bi_and, bi_and, bi_and, beq_bytes', beq_dec, beq_dec, beq_dec, Bool.and_true] at h
 have e : (decide (a.name = b.name) && (decide (a.kind = b.kind) && (decide (a.low = b.low) && (decide (a.high = b.high) && (a.less == b.less))))) = decide (a = b) := by
  rw [Bool.eq_iff_iff]; cases a; cases b; simp
 rw [e] at h
 exact h
theorem b2_req {a b : Req} : bin2 Tryz.prog .eql 88 x y (.agg ⟨a.row⟩) (.agg ⟨b.row⟩) = some (.bool (decide (a = b))) ∧ bin2 Tryz.prog .neq 88 x y (.agg ⟨a.row⟩) (.agg ⟨b.row⟩) = some (.bool (!decide (a = b))) := by
 have he : eqF Tryz.prog 9999 ⟨a.row⟩ ⟨b.row⟩ (Tryz.prog.fieldsOf 88).toList = bi ((⟨⟨a.name⟩⟩ : ByteArray) == ⟨⟨b.name⟩⟩) (bi ((⟨⟨a.rel⟩⟩ : ByteArray) == ⟨⟨b.rel⟩⟩) (bi (a.value == b.value) (some true) (some false)) (some false)) (some false) := by kernel_rfl
 have h := b2_struct (x := x) (y := y) rfl (by kernel_rfl) (by kernel_rfl) (by kernel_rfl) he
 rw [bi_and, bi_and, bi_and, beq_bytes', beq_bytes', beq_dec, Bool.and_true] at h
 have e : (decide (a.name = b.name) && (decide (a.rel = b.rel) && decide (a.value = b.value))) = decide (a = b) := by
  rw [Bool.eq_iff_iff]; cases a; cases b; simp
 rw [e] at h
 exact h
def Tim.row (t : Tim) : List Value := [.int .i64 t.q, .int .i64 t.b, .int .i64 t.g, .int .i64 t.p, .int .i64 t.s]
theorem b2_tim {a b : Tim} : bin2 Tryz.prog .eql 43 x y (.agg ⟨a.row⟩) (.agg ⟨b.row⟩) = some (.bool (decide (a = b))) ∧ bin2 Tryz.prog .neq 43 x y (.agg ⟨a.row⟩) (.agg ⟨b.row⟩) = some (.bool (!decide (a = b))) := by
 have he : eqF Tryz.prog 9999 ⟨a.row⟩ ⟨b.row⟩ (Tryz.prog.fieldsOf 43).toList = bi (a.q == b.q) (bi (a.b == b.b) (bi (a.g == b.g) (bi (a.p == b.p) (bi (a.s == b.s) (some true) (some false)) (some false)) (some false)) (some false)) (some false) := by kernel_rfl
 have h := b2_struct (x := x) (y := y) rfl (by kernel_rfl) (by kernel_rfl) (by kernel_rfl) he
 rw [bi_and, bi_and, bi_and, bi_and, bi_and, beq_dec, beq_dec, beq_dec, beq_dec, beq_dec, Bool.and_true] at h
 have e : (decide (a.q = b.q) && (decide (a.b = b.b) && (decide (a.g = b.g) && (decide (a.p = b.p) && decide (a.s = b.s))))) = decide (a = b) := by
  rw [Bool.eq_iff_iff]; cases a; cases b; simp
 rw [e] at h
 exact h
end
end Go.Proofs.G
namespace Go.Proofs.G
open Go Go.Ab
set_option maxRecDepth 100000
mutual
def exEqb : Ex → Ex → Bool
 | .mk o n d nm es, .mk o' n' d' nm' es' => decide (o = o') && (decide (n = n') && decide (d = d')) && decide (nm = nm') && exsEqb es es'
def exsEqb : List Ex → List Ex → Bool
 | [], [] => true
 | a :: es, b :: fs => exEqb a b && exsEqb es fs
 | [], _ :: _ => false
 | _ :: _, [] => false
end
theorem exsEqb_len : ∀ {es fs : List Ex}, es.length ≠ fs.length → exsEqb es fs = false
 | [], [], h => absurd rfl h
 | a :: es, b :: fs, h => by
  unfold exsEqb
  rw [exsEqb_len (es := es) (fs := fs) (by simpa using h), Bool.and_false]
 | [], _ :: _, _ => by unfold exsEqb; rfl
 | _ :: _, [], _ => by unfold exsEqb; rfl
theorem exsEqb_take : ∀ {es fs : List Ex} {k : Nat} {a b : Ex}, es.length = fs.length → es[k]? = some a → fs[k]? = some b → exEqb a b = false → exsEqb es fs = false
 | a :: es, b :: fs, 0, _, _, _, h1, h2, h => by cases h1; cases h2; unfold exsEqb; rw [h, Bool.false_and]
 | a :: es, b :: fs, k + 1, _, _, hl, h1, h2, h => by
  unfold exsEqb
  rw [exsEqb_take (es := es) (fs := fs) (k := k) (by simpa using hl) (by simpa using h1) (by simpa using h2) h, Bool.and_false]
 | [], _, _, _, _, _, h1, _, _ => by simp at h1
 | _ :: _, [], _, _, _, hl, _, _, _ => by simp at hl
theorem exsEqb_all : ∀ {es fs : List Ex}, es.length = fs.length → (∀ (k : Nat) (a b : Ex), es[k]? = some a → fs[k]? = some b → exEqb a b = true) → exsEqb es fs = true
 | [], [], _, _ => by unfold exsEqb; rfl
 | a :: es, b :: fs, hl, h => by
  unfold exsEqb
  rw [h 0 a b rfl rfl, exsEqb_all (es := es) (fs := fs) (by simpa using hl) (fun k x y hx hy => h (k + 1) x y (by simpa using hx) (by simpa using hy)), Bool.and_true]
 | [], _ :: _, hl, _ => by simp at hl
 | _ :: _, [], hl, _ => by simp at hl
mutual
theorem exEqb_refl : ∀ a : Ex, exEqb a a = true
 | .mk o n d nm es => by unfold exEqb; rw [exsEqb_refl es]; simp
theorem exsEqb_refl : ∀ es : List Ex, exsEqb es es = true
 | [] => by unfold exsEqb; rfl
 | a :: es => by unfold exsEqb; rw [exEqb_refl a, exsEqb_refl es]; rfl
end
theorem ExsAt.slice {σ : St} {v : Value} {rows : List (List Value)} {es : List Ex} (h : SL σ 5 v rows) (hx : ExsAt σ rows es) : ∃ a c b off cells, v = .slice a es.length c ∧ (0 < es.length → ∃ sp, a = some ⟨b, off, sp⟩ ∧ b < σ.n ∧ σ.row b = some cells) ∧
  ∀ k e, es[k]? = some e → ∃ row, sub cells (off + k * 5) 5 = some row ∧ ExAt σ row e := by
 obtain ⟨a, c, b, off, cells, h1, h2, h3⟩ := SL.use h
 rw [hx.len] at h1 h2
 refine ⟨a, c, b, off, cells, h1, h2, fun k e he => ?_⟩
 obtain ⟨hlt, _⟩ := List.getElem?_eq_some_iff.1 he
 obtain ⟨row, hr⟩ := at_some (l := rows) (k := k) (by rw [hx.len]; exact hlt)
 exact ⟨row, h3 k row hr, hx.get hr he⟩
end Go.Proofs.G
namespace Go.Proofs.G
open Go Go.Ab
set_option maxRecDepth 100000
def critS (c : Crit) : By := dec c.kind ++ [32] ++ dec c.low ++ [32] ++ dec c.high ++ (if c.less then [32, 108, 101, 115, 115] else [])
def reqS (r : Req) : By := dec (r.name.length : Nat) ++ [32] ++ r.name ++ dec (r.rel.length : Nat) ++ [32] ++ r.rel ++ dec r.value
def tieS (s t : By) : By := s ++ dec (t.length : Nat) ++ [32] ++ t
def tiesS (l : List By) : By := l.foldl tieS []
def numS (s : By) (n : Int) : By := s ++ dec n ++ [32]
def comboS (s : By) (c : List Int) : By := c.foldl numS (s ++ [124])
def combosS (l : List (List Int)) : By := l.foldl comboS []
def timS (t : Tim) : By := dec t.q ++ [32] ++ dec t.b ++ [32] ++ dec t.g ++ [32] ++ dec t.p ++ [32] ++ dec t.s
def fixedS (T : Tn) (c : By) : By :=
 if c = nameC then T.name else if c = rangeC then dec T.low ++ [32] ++ dec T.high else if c = tiesC then tiesS T.ties else if c = mostC then dec T.most else if c = combosC then combosS T.combos else if c = budgetC then dec T.budget else if c = timesC then timS T.t else []
def content (T : Tn) (c : By) : By := match T.lots.find? (fun l => c == lotC l.id) with
 | some l => dec l.most
 | none => match T.crits.find? (fun x => c == critC x.name) with
  | some x => critS x
  | none => match (List.range T.reqs.length).find? (fun k => c == reqC (k + 1)) with
   | some k => (T.reqs[k]?.map reqS).getD []
   | none => fixedS T c
theorem find_at {α : Type} {p : α → Bool} {l : List α} {k : Nat} {a : α} (h : l[k]? = some a) (hp : p a = true) (hn : ∀ (i : Nat) (b : α), i < k → l[i]? = some b → p b = false) : l.find? p = some a := by
 induction l generalizing k with
 | nil => simp at h
 | cons x l ih =>
  cases k with
  | zero => cases h; simp [List.find?, hp]
  | succ k =>
   have h0 := hn 0 x (by omega) rfl
   rw [List.find?_cons, h0]
   exact ih (k := k) (by simpa using h) fun i b hi hb => hn (i + 1) b (by omega) (by simpa using hb)
theorem find_no {α : Type} {p : α → Bool} {l : List α} (hn : ∀ (i : Nat) (b : α), l[i]? = some b → p b = false) : l.find? p = none := by
 rw [List.find?_eq_none]
 intro x hx
 obtain ⟨i, hi⟩ := List.mem_iff_getElem?.1 hx
 rw [hn i x hi]; simp
theorem fold_take {α β : Type} (f : β → α → β) {l : List α} {k : Nat} {a : α} {s : β} (h : l[k]? = some a) : (l.take (k + 1)).foldl f s = f ((l.take k).foldl f s) a := by
 rw [List.take_add_one, h]; simp [List.foldl_append]
end Go.Proofs.G
namespace Go.Proofs.G
open Go Go.Ab
set_option maxRecDepth 100000
def bothR (T U : Tn) : List By := (clausesR T).foldl addNew (clausesR U)
def differsR (T U : Tn) (c : By) : Bool :=
 if (!(clausesR T).contains c || !(clausesR U).contains c) = true then true else if c = formulaC then !exEqb T.f U.f else !decide (content T c = content U c)
def changedR (T U : Tn) : List By := (bothR T U).filter (differsR T U)
theorem bothR_len {T U : Tn} (h : T.Ok) (k : U.Ok) : (bothR T U).length ≤ 96 := by
 have h1 := clausesR_len h; have h2 := clausesR_len k
 have h3 := fold_len (clausesR T) (clausesR U)
 unfold bothR; omega
structure Good (σ : St) (cells : List Value) (T : Tn) : Prop where
 at' : TnAt σ cells T
 ok : T.Ok
 nm : T.name.length ≤ 100
theorem Good.mono {σ σ' : St} {cells : List Value} {T : Tn} (h : Good σ cells T) (hE : Ext σ σ') : Good σ' cells T := ⟨h.at'.mono hE, h.ok, h.nm⟩
theorem Good.len {σ : St} {cells : List Value} {T : Tn} (h : Good σ cells T) : cells.length = 20 := h.at'.len
end Go.Proofs.G
namespace Go.Proofs.G
open Go Go.Ab
set_option maxRecDepth 100000
def allC : List By := nameC :: (List.range 10).map (fun k => lotC (k : Nat)) ++ names.map critC ++ (List.range 8).map (fun k => reqC (k + 1)) ++ fixedC
def shortC : List By := [formulaC, tiesC, mostC, combosC, budgetC]
def dist (c : By) : Int := if c = nameC then 0 else if c = timesC then 0 else if shortC.contains c then 4320 else 10080
theorem pdist_all (σ : St) : allC.map (fun c => callF Tryz.prog HS (exec Tryz.prog HS 40) (.fn 26) [str c] σ) = allC.map fun c => some ⟨false, .int .i64 (dist c), σ⟩ := by kernel_rfl
end Go.Proofs.G
namespace Go.Proofs.G
open Go Go.Ab
set_option maxRecDepth 100000
theorem mem_fold {s : By} : ∀ {l out : List By}, s ∈ l.foldl addNew out → s ∈ out ∨ s ∈ l := by
 intro l
 induction l with
 | nil => intro out h; exact .inl h
 | cons x l ih =>
  intro out h
  rcases ih h with h | h
  ·unfold addNew at h
   split at h
   ·exact .inl h
   ·rcases List.mem_append.1 h with h | h
    ·exact .inl h
    ·rw [List.mem_singleton] at h; subst h; exact .inr (by simp)
  ·exact .inr (by simp [h])
theorem heads_allC {T : Tn} (ok : T.Ok) {c : By} (h : c ∈ heads T) : c ∈ allC := by
 unfold heads at h
 unfold allC
 simp only [List.cons_append, List.mem_cons, List.mem_append, List.mem_map, List.mem_range, or_assoc] at h ⊢
 rcases h with h | ⟨l, hl, rfl⟩ | ⟨x, hx, rfl⟩ | ⟨k, hk, rfl⟩
 ·exact .inl h
 ·have := ok.lot l hl
  exact .inr (.inl ⟨l.id.toNat, by omega, by rw [Int.toNat_of_nonneg this.1]⟩)
 ·exact .inr (.inr (.inl ⟨x.name, (ok.crit x hx).1, rfl⟩))
 ·exact .inr (.inr (.inr (.inl ⟨k, by have := ok.reqs; omega, rfl⟩)))
theorem clauses_allC {T : Tn} (ok : T.Ok) {c : By} (h : c ∈ clausesR T) : c ∈ allC := by
 rcases mem_fold h with h | h
 ·simp at h
 ·rcases List.mem_append.1 h with h | h
  ·exact heads_allC ok h
  ·unfold allC; simp only [List.cons_append, List.mem_cons, List.mem_append, or_assoc]; exact .inr (.inr (.inr (.inr h)))
theorem both_allC {T U : Tn} (ok : T.Ok) (ok' : U.Ok) {c : By} (h : c ∈ bothR T U) : c ∈ allC := by
 rcases mem_fold h with h | h
 ·exact clauses_allC ok' h
 ·exact clauses_allC ok h
theorem pdist_ok {σ : St} {c : By} (h : c ∈ allC) : Ev (go Tryz.prog HS (.fn 26) [str c] σ) (fun r => r = ⟨false, .int .i64 (dist c), σ⟩) ⟨⟩ :=
 ⟨_, go_of (List.map_inj_left.1 (pdist_all σ) c h), rfl⟩
def byOf (T U : Tn) : Int := (changedR T U).foldl (fun m c => max m (dist c)) 0
def later (own old by' : Int) : Int := max own (if old < 1000000000 - by' then old + by' else 1000000000)
theorem dist_cases (c : By) : dist c = 0 ∨ dist c = 4320 ∨ dist c = 10080 := by
 unfold dist; repeat (split; simp)
 simp
theorem fold_max (l : List By) : ∀ m : Int, (m = 0 ∨ m = 4320 ∨ m = 10080) → (let r := l.foldl (fun m c => max m (dist c)) m; r = 0 ∨ r = 4320 ∨ r = 10080) := by
 induction l with
 | nil => intro m h; exact h
 | cons c l ih =>
  intro m h
  have hd := dist_cases c
  exact ih (max m (dist c)) (by omega)
theorem byOf_cases (T U : Tn) : byOf T U = 0 ∨ byOf T U = 4320 ∨ byOf T U = 10080 := fold_max _ 0 (.inl rfl)
end Go.Proofs.G
namespace Go.Proofs.G
open Go Go.Ab
set_option maxRecDepth 100000
def zeroTn : Tn := ⟨[], [], [], [], 0, 0, .mk [] 0 0 [] [], [], 0, [], 0, ⟨0, 0, 0, 0, 0⟩⟩
def zCells : List Value := tnRow [] (.slice none 0 0) (.slice none 0 0) (.slice none 0 0) 0 0 [str [], .int .i64 0, .int .i64 0, str [], .slice none 0 0] (.slice none 0 0) 0 (.slice none 0 0) 0 ⟨0, 0, 0, 0, 0⟩
theorem zero_at (σ : St) : TnAt σ zCells zeroTn := ⟨_, _, _, _, _, _, rfl, SL.nil, SL.nil, SL.nil, ⟨_, [], rfl, SL.nil, by simp, rfl⟩, SL.nil, [], SL.nil, trivial⟩
def earlierT (a b : Tim) : Bool := decide (a.q < b.q) || (decide (a.b < b.b) || (decide (a.g < b.g) || (decide (a.p < b.p) || decide (a.s < b.s))))
def moved (T U : Tn) : Tim := ⟨U.t.q, later U.t.b T.t.b (byOf T U), later U.t.g T.t.g (byOf T U), later U.t.p T.t.p (byOf T U), U.t.s⟩
def applied (T U : Tn) (time : Int) : Tn × Int :=
 if T.t.b ≤ time then (zeroTn, 31) else if earlierT U.t T.t = true then (zeroTn, 1) else ({ U with t := moved T U }, 0)
end Go.Proofs.G
namespace Go.Proofs.G
open Go Go.Ab
set_option maxRecDepth 100000
def EQ (σ : St) (ca cb : List Value) (fr : Fr) (σ' : St) : Prop := fr.get 2 = some (.pointer (some ⟨σ.n, 0, none⟩)) ∧ fr.get 3 = some (.pointer (some ⟨σ.n + 1, 0, none⟩)) ∧ Ext ((σ.new ca).new cb) σ'
theorem EQ.set {σ : St} {ca cb : List Value} {fr : Fr} {σ' : St} {i : Nat} {v : Value} (h : EQ σ ca cb fr σ') (h2 : i ≠ 2) (h3 : i ≠ 3) : EQ σ ca cb (fr.set i v) σ' := by
 obtain ⟨g2, g3, hE⟩ := h
 exact ⟨by rw [get_set, if_neg (fun e => h2 e.symm)]; exact g2, by rw [get_set, if_neg (fun e => h3 e.symm)]; exact g3, hE⟩
theorem sub_self {σ : St} {cells : List Value} {T : Tn} (h : TnAt σ cells T) : ∃ vl vc vr x1 x2 x3 x4 x5 vt vk, cells = [str T.name, vl, vc, vr, .int .i64 T.low, .int .i64 T.high, x1, x2, x3, x4, x5, vt, .int .i64 T.most, vk, .int .i64 T.budget, .int .i64 T.t.q, .int .i64 T.t.b, .int .i64 T.t.g, .int .i64 T.t.p, .int .i64 T.t.s] ∧
  Lots σ vl T.lots ∧ Crits σ vc T.crits ∧ Reqs σ vr T.reqs ∧ ExAt σ [x1, x2, x3, x4, x5] T.f ∧ Strs σ vt T.ties ∧ Combos σ vk T.combos := by
 obtain ⟨vl, vc, vr, ex, vt, vk, h0, u1, u2, u3, u4, u5, u6⟩ := h
 have hxl := u4.len
 match ex, hxl with
 | [x1, x2, x3, x4, x5], _ => exact ⟨vl, vc, vr, x1, x2, x3, x4, x5, vt, vk, h0, u1, u2, u3, u4, u5, u6⟩
end Go.Proofs.G
