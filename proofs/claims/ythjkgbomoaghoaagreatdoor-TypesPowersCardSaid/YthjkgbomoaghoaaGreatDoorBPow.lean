/- The head of TypesPowers; what is left once both numbers are known. -/
import Derived.Test.YthjkgbomoaghoaaGreatDoorBSan
set_option linter.unusedSimpArgs false
set_option linter.unusedVariables false
namespace Go.Proofs.B
open Go Go.Ab
set_option maxRecDepth 1000000
noncomputable def HS : Sums := fun g => if g = 9 then some (.plain fun vs σ => match vs with | [] => bb (sameRow (σ.read 0 0 20) (some pows)) (some ⟨false, .bool true, σ⟩) | _ => none) else CS g
noncomputable def cut4 : Code × Code × Code × Code := match Tryz.f4.body with
  | some (.seq r0 (.seq r1 (.seq r2 (.seq r3 (.seq r4 (.seq r5 x)))))) => (.seq r0 (.seq r1 (.seq r2 r3)), r4, r5, x)
  | _ => (.skip, .skip, .skip, .skip)
noncomputable def hd (n m : Int) : Option Res := exec Tryz.prog HS 1000 none cut4.1 (initFr [.int .u8 n, .int .u8 m] 0 .nil) start
noncomputable def frO (r : Option Res) : Fr := match r with
  | some r => r.fr
  | none => .nil
noncomputable def stO (r : Option Res) : St := match r with
  | some r => r.σ
  | none => start
theorem hd_ok (n m : Int) : hd n m = some ⟨.normal, frO (hd n m), stO (hd n m)⟩ := by kernel_rfl
theorem hd_0 (n m : Int) : (frO (hd n m)).get 0 = some (.int .u8 n) := by kernel_rfl
theorem hd_1 (n m : Int) : (frO (hd n m)).get 1 = some (.int .u8 m) := by kernel_rfl
noncomputable def fr4 (fr : Fr) (n a : Int) : Fr := (((fr.set 22 (.int .u8 n)).set 23 (.int .u8 a)).set 24 (.int .i64 a)).set 8 (.int .i64 a)
noncomputable def fr5 (fr : Fr) (m b : Int) : Fr := (((fr.set 25 (.int .u8 m)).set 26 (.int .u8 b)).set 27 (.int .i64 b)).set 9 (.int .i64 b)
noncomputable def rest (n m a b : Int) : Option CR := ob (exec Tryz.prog HS 100000 none cut4.2.2.2 (fr5 (fr4 (frO (hd n m)) n a) m b) (stO (hd n m))) (bodyEnd Tryz.prog Tryz.f4)
theorem cv53 {σ : St} {n : Int} : convA Tryz.prog σ 5 3 (.int .u8 n) = some ⟨.int .i64 (IntKind.i64.wrap n), σ, .none⟩ := by kernel_rfl
theorem nx_none {fr : Fr} {σ' : St} {all : Array Oper} {l : List Oper} {v : Value} {d : Option Tmp} {call : CallT} : nextV' Tryz.prog call all l fr ⟨v, σ', .none⟩ d = opsV Tryz.prog call all l (putV fr d v) σ' := rfl
theorem reg4 {fr : Fr} {σ : St} {n a : Int} (h0 : fr.get 0 = some (.int .u8 n)) (ha : n.tmod 6 = a) (hb : 0 ≤ a ∧ a < 6) : lim Tryz.prog HS none cut4.2.1 fr σ = some ⟨.normal, fr4 fr n a, σ⟩ := by
  show lim _ _ _ (Code.region 4 #[⟨some 22, .move (.tmp 0), 5, _, _, none⟩, ⟨some 23, .binOp .rem 5 (.tmp 22) (.const (.int .u8 6)) 5, 5, _, _, none⟩, ⟨some 24, .convert 5 3 (.tmp 23), 3, _, _, none⟩, ⟨some 8, .assign (.tmp 24), 3, _, _, none⟩] false) fr σ = _
  rw [ru_region]
  have hw : IntKind.i64.wrap a = a := wrap64_in (by omega) (by omega)
  simp only [syV_move, syV_bin, syV_convert, syV_assign, syV_nil, pBin_eq, conv_eq, ev_tmp, ev_int, putV_some, get_set, h0, ob_some, b2_rem (show (6 : Int) ≠ 0 by decide), ha, cv53, hw, reduceIte, Nat.reduceEqDiff, if_true]
  rw [nx_none]
  simp only [syV_assign, syV_nil, ev_tmp, get_set, ob_some, putV_some, if_true]
  rfl
theorem reg5 {fr : Fr} {σ : St} {n a : Int} (h0 : fr.get 1 = some (.int .u8 n)) (ha : n.tmod 6 = a) (hb : 0 ≤ a ∧ a < 6) : lim Tryz.prog HS none cut4.2.2.1 fr σ = some ⟨.normal, fr5 fr n a, σ⟩ := by
  show lim _ _ _ (Code.region 5 #[⟨some 25, .move (.tmp 1), 5, _, _, none⟩, ⟨some 26, .binOp .rem 5 (.tmp 25) (.const (.int .u8 6)) 5, 5, _, _, none⟩, ⟨some 27, .convert 5 3 (.tmp 26), 3, _, _, none⟩, ⟨some 9, .assign (.tmp 27), 3, _, _, none⟩] false) fr σ = _
  rw [ru_region]
  have hw : IntKind.i64.wrap a = a := wrap64_in (by omega) (by omega)
  simp only [syV_move, syV_bin, syV_convert, syV_assign, syV_nil, pBin_eq, conv_eq, ev_tmp, ev_int, putV_some, get_set, h0, ob_some, b2_rem (show (6 : Int) ≠ 0 by decide), ha, cv53, hw, reduceIte, Nat.reduceEqDiff, if_true]
  rw [nx_none]
  simp only [syV_assign, syV_nil, ev_tmp, get_set, ob_some, putV_some, if_true]
  rfl
/-- Codes that run alike. -/
def Alike (A B : Code) : Prop := ∀ fr σ, lim Tryz.prog HS none A fr σ = lim Tryz.prog HS none B fr σ
theorem Alike.seq {A B B' : Code} (h : Alike B B') : Alike (.seq A B) (.seq A B') := by
  intro fr σ
  rw [ru_seq, ru_seq]
  congr 1
  funext r
  obtain ⟨o, fr, σ⟩ := r
  cases o with
  | normal => exact h fr σ
  | exit i => rfl
  | ret => rfl
  | pan v => rfl
theorem Alike.assoc {A B C : Code} : Alike (.seq A (.seq B C)) (.seq (.seq A B) C) := by
  intro fr σ
  rw [ru_seq, ru_seq, ru_seq]
  cases lim Tryz.prog HS none A fr σ with
  | none => rfl
  | some r =>
    rw [ob_some, ob_some]
    obtain ⟨o, fr, σ⟩ := r
    cases o with
    | normal => rw [on_normal, on_normal, ru_seq]
    | exit i => rw [on_exit, on_exit, ob_some, on_exit]
    | ret => rw [on_ret, on_ret, ob_some, on_ret]
    | pan v => rw [on_pan, on_pan, ob_some, on_pan]
theorem Alike.trans {A B C : Code} (h : Alike A B) (k : Alike B C) : Alike A C := fun fr σ => (h fr σ).trans (k fr σ)
theorem body4 {body : Code} (hb : Tryz.f4.body = some body) : Alike body (.seq cut4.1 (.seq cut4.2.1 (.seq cut4.2.2.1 cut4.2.2.2))) := by
  obtain ⟨r0, r1, r2, r3, X, h⟩ : ∃ r0 r1 r2 r3 X, Tryz.f4.body = some (.seq r0 (.seq r1 (.seq r2 (.seq r3 X)))) ∧ cut4.1 = .seq r0 (.seq r1 (.seq r2 r3)) ∧ X = .seq cut4.2.1 (.seq cut4.2.2.1 cut4.2.2.2) := ⟨_, _, _, _, _, rfl, rfl, rfl⟩
  rw [h.1] at hb
  cases hb
  rw [h.2.1, ← h.2.2]
  exact ((Alike.assoc.seq).seq.trans Alike.assoc.seq).trans Alike.assoc
theorem law_powers {n m a b : Int} (ha : n.tmod 6 = a) (hb : m.tmod 6 = b) (ha' : 0 ≤ a ∧ a < 6) (hb' : 0 ≤ b ∧ b < 6) (h : okTrue (rest n m a b) = true) : ∃ σ', go Tryz.prog HS (.fn 4) [.int .u8 n, .int .u8 m] start = some ⟨false, .bool true, σ'⟩ := by
  obtain ⟨σ', h⟩ : ∃ σ', rest n m a b = some ⟨false, .bool true, σ'⟩ := by
    unfold okTrue at h
    split at h
    · rename_i he; subst h; exact ⟨_, he⟩
    · cases h
  refine ⟨σ', ?_⟩
  obtain ⟨body, hbody⟩ : ∃ body, Tryz.f4.body = some body := ⟨_, rfl⟩
  rw [go_fn (g := 4) (by unfold HS; rfl) Tryz.func4 hbody, body4 hbody, ru_seq, lim_of (show exec Tryz.prog HS 1000 none cut4.1 (initFr [.int .u8 n, .int .u8 m] 0 .nil) start = _ from hd_ok n m), ob_some, on_normal, ru_seq, reg4 (hd_0 n m) ha ha', ob_some, on_normal, ru_seq,
    reg5 (n := m) (by unfold fr4; rw [get_set, get_set, get_set, get_set]; exact hd_1 n m) hb hb', ob_some, on_normal]
  obtain ⟨r, h1, h2⟩ := ob_eq h
  rw [lim_of h1, ob_some]
  exact h2
end Go.Proofs.B
