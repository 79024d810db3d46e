/- A part of the proof: a walk of some functions. -/
import Derived.Test.YtcjkjjnnicadfaaGreatDoorGF
import Derived.Test.YtcjkjjnnicadfaaGreatDoorGB
set_option linter.unusedSimpArgs false
set_option linter.unusedVariables false
namespace Go.Proofs.G
open Go Go.Ab
set_option maxRecDepth 100000
def IRows (σ : St) (m : Nat) (v : Value) (l : List (List Int)) : Prop := SL σ m v (l.map fun r => r.map (.int .i64)) ∧ ∀ r ∈ l, r.length = m ∧ ∀ n ∈ r, In64 n
theorem as_ext {bs : List Nat} {i j q : Nat} {r : RowAt} {a b : St} {ds : List Ab.Trace} (h : ExtX q a b) (hne : r.b ≠ q) : allSame bs i r (.eff j a b :: ds) = allSame bs i r ds := as_eff fun hlt => h.same r.b hlt hne
def tieRow (s : By) : List Value := [str s]
theorem IRows.use {σ : St} {m : Nat} {v : Value} {l : List (List Int)} (h : IRows σ m v l) : ∃ a c b off cells, v = .slice a l.length c ∧ (0 < l.length → ∃ sp, a = some ⟨b, off, sp⟩ ∧ b < σ.n ∧ σ.row b = some cells) ∧
  ∀ k r, l[k]? = some r → sub cells (off + k * m) m = some (r.map (.int .i64)) ∧ ∀ i n, r[i]? = some n → sub cells (off + k * m + i) 1 = some [.int .i64 n] := by
 obtain ⟨h, hr⟩ := h
 obtain ⟨a, c, b, off, cells, h1, h2, h3⟩ := SL.use' h
 refine ⟨a, c, b, off, cells, h1, h2, fun k r hk => ⟨h3 k r hk, fun i n hi => ?_⟩⟩
 have hm := (hr r (List.mem_of_getElem? hk)).1
 obtain ⟨hlt, he⟩ := List.getElem?_eq_some_iff.1 hi
 rw [sub_in (h3 k r hk) (by omega), sub_of (by simp; omega), List.drop_eq_getElem_cons (by simp; omega), List.getElem_map, he]
 rfl
end Go.Proofs.G
