/- The head of AmendMany; what is left once the number is known. -/
import Derived.Test.YtbppcehkpcgmkaaGreatDoorMHb
set_option linter.unusedSimpArgs false
set_option linter.unusedVariables false
namespace Go.Proofs.M
open Go Go.Ab
set_option maxRecDepth 1000000
noncomputable def cut4 : Code × Code × Code := match Tryz.f3.body with
  | some (.seq r0 (.seq r1 (.seq r2 (.seq r3 x)))) => (.seq r0 (.seq r1 r2), r3, x)
  | _ => (.skip, .skip, .skip)
noncomputable def hd (n : Int) : Option Res := exec Tryz.prog HS 100000 none cut4.1 (initFr [.int .u8 n] 0 .nil) start
noncomputable def frO (r : Option Res) : Fr := match r with
  | some r => r.fr
  | none => .nil
noncomputable def stO (r : Option Res) : St := match r with
  | some r => r.σ
  | none => start
theorem hd_ok (n : Int) : hd n = some ⟨.normal, frO (hd n), stO (hd n)⟩ := by kernel_rfl
theorem hd_0 (n : Int) : (frO (hd n)).get 0 = some (.int .u8 n) := by kernel_rfl
noncomputable def fr4 (fr : Fr) (n a : Int) : Fr := ((((fr.set 14 (.int .u8 n)).set 15 (.int .u8 a)).set 16 (.int .i64 a)).set 17 (.int .i64 (18 + a))).set 5 (.int .i64 (18 + a))
noncomputable def rest (n a : Int) : Option CR := ob (exec Tryz.prog HS 100000 none cut4.2.2 (fr4 (frO (hd n)) n a) (stO (hd n))) (bodyEnd Tryz.prog Tryz.f3)
theorem cv53 {σ : St} {n : Int} : convA Tryz.prog σ 5 3 (.int .u8 n) = some ⟨.int .i64 (IntKind.i64.wrap n), σ, .none⟩ := by kernel_rfl
theorem nx_none {fr : Fr} {σ' : St} {all : Array Oper} {l : List Oper} {v : Value} {d : Option Tmp} {call : CallT} : nextV' Tryz.prog call all l fr ⟨v, σ', .none⟩ d = opsV Tryz.prog call all l (putV fr d v) σ' := rfl
theorem reg4 {fr : Fr} {σ : St} {n a : Int} (h0 : fr.get 0 = some (.int .u8 n)) (ha : n.tmod 4 = a) (hb : 0 ≤ a ∧ a < 4) : lim Tryz.prog HS none cut4.2.1 fr σ = some ⟨.normal, fr4 fr n a, σ⟩ := by
  show lim _ _ _ (Code.region 3 #[⟨some 14, .move (.tmp 0), 5, _, _, none⟩, ⟨some 15, .binOp .rem 5 (.tmp 14) (.const (.int .u8 4)) 5, 5, _, _, none⟩, ⟨some 16, .convert 5 3 (.tmp 15), 3, _, _, none⟩, ⟨some 17, .binOp .add 3 (.const (.int .i64 18)) (.tmp 16) 3, 3, _, _, none⟩, ⟨some 5, .assign (.tmp 17), 3, _, _, none⟩] false) fr σ = _
  rw [ru_region]
  have hw : IntKind.i64.wrap a = a := wrap64_in (by omega) (by omega)
  have hw2 : wrapF .i64 (18 + a) = 18 + a := by rw [wrapF_eq]; exact wrap64_in (by omega) (by omega)
  simp only [syV_move, syV_bin, syV_convert, syV_assign, syV_nil, pBin_eq, conv_eq, ev_tmp, ev_int, putV_some, get_set, h0, ob_some, b2_rem (show (4 : Int) ≠ 0 by decide), ha, cv53, hw, reduceIte, Nat.reduceEqDiff, if_true]
  rw [nx_none]
  simp only [syV_assign, syV_bin, pBin_eq, syV_nil, ev_tmp, ev_int, get_set, ob_some, putV_some, b2_add, hw2, reduceIte, Nat.reduceEqDiff, if_true]
  rfl
/-- Codes that run alike. -/
def Alike (A B : Code) : Prop := ∀ fr σ, lim Tryz.prog HS none A fr σ = lim Tryz.prog HS none B fr σ
theorem Alike.seq {A B B' : Code} (h : Alike B B') : Alike (.seq A B) (.seq A B') := by
  intro fr σ
  rw [ru_seq, ru_seq]
  congr 1
  funext r
  obtain ⟨o, fr, σ⟩ := r
  cases o with
  | normal => exact h fr σ
  | exit i => rfl
  | ret => rfl
  | pan v => rfl
theorem Alike.assoc {A B C : Code} : Alike (.seq A (.seq B C)) (.seq (.seq A B) C) := by
  intro fr σ
  rw [ru_seq, ru_seq, ru_seq]
  cases lim Tryz.prog HS none A fr σ with
  | none => rfl
  | some r =>
    rw [ob_some, ob_some]
    obtain ⟨o, fr, σ⟩ := r
    cases o with
    | normal => rw [on_normal, on_normal, ru_seq]
    | exit i => rw [on_exit, on_exit, ob_some, on_exit]
    | ret => rw [on_ret, on_ret, ob_some, on_ret]
    | pan v => rw [on_pan, on_pan, ob_some, on_pan]
theorem Alike.trans {A B C : Code} (h : Alike A B) (k : Alike B C) : Alike A C := fun fr σ => (h fr σ).trans (k fr σ)
theorem body4 {body : Code} (hb : Tryz.f3.body = some body) : Alike body (.seq cut4.1 (.seq cut4.2.1 cut4.2.2)) := by
  obtain ⟨r0, r1, r2, X, h⟩ : ∃ r0 r1 r2 X, Tryz.f3.body = some (.seq r0 (.seq r1 (.seq r2 X))) ∧ cut4.1 = .seq r0 (.seq r1 r2) ∧ X = .seq cut4.2.1 cut4.2.2 := ⟨_, _, _, _, rfl, rfl, rfl⟩
  rw [h.1] at hb
  cases hb
  rw [h.2.1, ← h.2.2]
  exact Alike.assoc.seq.trans Alike.assoc
theorem law_many {n a : Int} (ha : n.tmod 4 = a) (ha' : 0 ≤ a ∧ a < 4) (h : okTrue (rest n a) = true) : ∃ σ', go Tryz.prog HS (.fn 3) [.int .u8 n] start = some ⟨false, .bool true, σ'⟩ := by
  obtain ⟨σ', h⟩ := okTrue_eq h
  refine ⟨σ', ?_⟩
  obtain ⟨body, hbody⟩ : ∃ body, Tryz.f3.body = some body := ⟨_, rfl⟩
  rw [go_fn (g := 3) (by unfold HS; rfl) Tryz.func3 hbody, body4 hbody, ru_seq, lim_of (show exec Tryz.prog HS 100000 none cut4.1 (initFr [.int .u8 n] 0 .nil) start = _ from hd_ok n), ob_some, on_normal, ru_seq, reg4 (hd_0 n) ha ha', ob_some, on_normal]
  obtain ⟨r, h1, h2⟩ := ob_eq h
  rw [lim_of h1, ob_some]
  exact h2
end Go.Proofs.M
