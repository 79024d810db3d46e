/- Maps: looking up, setting, making. -/
import Derived.Test.YtcjkjjnnicadfaaGreatDoorAbMem2
import Derived.MapKept
import Derived.RangeFuncRecord
set_option linter.unusedSimpArgs false
set_option linter.unusedVariables false
namespace Go.Ab
open Go Go.MapKept
section
variable {P : Program} {ρ : Place} {fr : Fr} {e : Operand → Value} {o : Oper} {w : World} {v : Value}

theorem mget_nil (k : Value) : mget k [] = some none := rfl
theorem mget_cons (k x y : Value) (l : List Value) : mget k (x :: y :: l) = ob (ksame k x) fun s => bi s (some (some y)) (mget k l) := rfl
theorem mset_nil (k v : Value) : mset k v [] = some [k, v] := rfl
theorem mset_cons (k v x y : Value) (l : List Value) : mset k v (x :: y :: l) = ob (ksame k x) fun s => bi s (some (k :: v :: l)) (ob (mset k v l) fun r => some (x :: y :: r)) := rfl

theorem str_beq (a b : ByteArray) : beqL a.data.toList b.data.toList = (a == b) := by
  rw [beqL_iff]
  by_cases h : a = b
  · subst h; rw [(bytes_beq a a).2 rfl]; simp
  · have h1 : (a == b) = false := by
      cases hh : (a == b) with
      | false => rfl
      | true => exact absurd ((bytes_beq a b).1 hh) h
    rw [h1]
    rw [beq_eq_false_iff_ne]
    intro hl
    apply h
    obtain ⟨⟨x⟩⟩ := a
    obtain ⟨⟨y⟩⟩ := b
    cases hl
    rfl

theorem keyOk_flat {d : Option TypeDesc} {k : Value} (h : keyOk d k = true) : flat k = true ∧ scal k = true ∧ ∃ d', d = some d' ∧ IsKey d' k := by
  unfold keyOk at h
  split at h
  · split at h
    · exact ⟨rfl, rfl, _, rfl, by simp [IsKey]⟩
    · cases h
  · split at h
    · have := keq_eq h
      subst this
      exact ⟨rfl, rfl, _, rfl, by simp [IsKey]⟩
    · cases h
  · cases h
theorem ksame_now {d : TypeDesc} {k y : Value} {s : Bool} (hk : keyOk (some d) k = true) (h : ksame k y = some s) : Instr.sameNow d k y = some s ∧ (s = true → y = k) := by
  unfold keyOk at hk
  split at hk
  · rename_i hd
    cases hd
    split at hk
    · rename_i s0
      unfold ksame at h
      cases y with
      | string t =>
        cases h
        refine ⟨by simp only [Instr.sameNow]; rw [str_beq], fun ht => ?_⟩
        rw [str_beq] at ht
        rw [(bytes_beq _ _).1 ht]
      | _ => cases h
    · cases hk
  · rename_i ik hd
    cases hd
    split at hk
    · rename_i jk n
      unfold ksame at h
      cases y with
      | int l m =>
        obtain ⟨h1, h2⟩ := bb_eq h
        cases h2
        have hkk := keq_eq h1
        subst hkk
        refine ⟨by simp [Instr.sameNow, ieq_iff], fun ht => ?_⟩
        rw [ieq_iff] at ht
        rw [eq_of_beq ht]
      | _ => cases h
    · cases hk
  · cases hk

theorem mget_now {d : TypeDesc} {k : Value} (hk : keyOk (some d) k = true) : ∀ {cells : List Value} {es : List MapEntry} {r : Option Value}, Entries ρ cells es → mget k cells = some r → ∀ i,
    (r = none → Instr.findNow d k es i = some none) ∧ ∀ v, r = some v → ∃ j v', Instr.findNow d k es i = some (some (j, v')) ∧ VRel ρ v v' := by
  intro cells es r hE
  induction hE with
  | nil =>
    intro h i
    cases h
    exact ⟨fun _ => rfl, fun v hv => by cases hv⟩
  | @cons x y en l es hx he hv hE ih =>
    intro h i
    obtain ⟨s, h1, h2⟩ := ob_eq (show ob (ksame k x) _ = some r from h)
    obtain ⟨h3, h4⟩ := ksame_now hk h1
    rw [← he] at h3
    cases s with
    | true =>
      cases h2
      refine ⟨fun hn => (by cases hn), fun v hv' => ?_⟩
      cases hv'
      exact ⟨i, en.val, by simp [Instr.findNow, h3], hv⟩
    | false =>
      obtain ⟨g1, g2⟩ := ih h2 (i + 1)
      refine ⟨fun hn => by simp [Instr.findNow, h3, g1 hn], fun v hv' => ?_⟩
      obtain ⟨j, v', k1, k2⟩ := g2 v hv'
      exact ⟨j, v', by simp [Instr.findNow, h3, k1], k2⟩

theorem mset_now {d : TypeDesc} {k u u' : Value} (hk : keyOk (some d) k = true) (hu : VRel ρ u u') : ∀ {cells cells' : List Value} {es : List MapEntry}, Entries ρ cells es → mset k u cells = some cells' → ∀ i,
    (Instr.findNow d k es i = some none ∧ ∀ born, Entries ρ cells' (es ++ [⟨k, u', born⟩])) ∨
    ∃ j v' en, Instr.findNow d k es i = some (some (i + j, v')) ∧ es[j]? = some en ∧ en.key = k ∧ Entries ρ cells' (es.modify j fun en => { en with key := k, val := u' }) := by
  intro cells cells' es hE
  induction hE generalizing cells' with
  | nil =>
    intro h i
    cases h
    exact .inl ⟨rfl, fun born => .cons (keyOk_flat hk).1 rfl hu .nil⟩
  | @cons x y en l es hx he hv hE ih =>
    intro h i
    obtain ⟨s, h1, h2⟩ := ob_eq (show ob (ksame k x) _ = some cells' from h)
    obtain ⟨h3, h4⟩ := ksame_now hk h1
    rw [← he] at h3
    cases s with
    | true =>
      cases h2
      exact .inr ⟨0, en.val, en, by simp [Instr.findNow, h3], rfl, by rw [he]; exact h4 rfl, .cons (keyOk_flat hk).1 rfl hu hE⟩
    | false =>
      obtain ⟨r, h5, h6⟩ := ob_eq (show ob (mset k u l) _ = some cells' from h2)
      cases h6
      rcases ih h5 (i + 1) with ⟨g1, g2⟩ | ⟨j, v', en', g1, g2, g3, g4⟩
      · exact .inl ⟨by simp [Instr.findNow, h3, g1], fun born => .cons hx he hv (g2 born)⟩
      · exact .inr ⟨j + 1, v', en', by simp [Instr.findNow, h3, g1]; omega, by simpa using g2, g3, by simpa using Entries.cons hx he hv g4⟩

theorem map_rel {v v' : Value} {a : Option Nat} (h : VRel ρ v v') (hm : map? v = some a) : (a = none ∧ v' = .map none) ∨ ∃ b q, a = some b ∧ ρ b = some q ∧ v' = .map (some q.c) := by
  unfold map? at hm
  split at hm
  · cases hm
    cases h with
    | scal hs =>
      cases a with
      | none => exact .inl ⟨rfl, rfl⟩
      | some b => simp [scal] at hs
    | map hq => exact .inr ⟨_, _, rfl, hq, rfl⟩
  · cases hm
theorem mapT_eq {t kt el : TypeId} (h : mapT? P t = some (kt, el)) : P.underlying t = some (.map kt el) := by
  unfold mapT? at h
  split at h
  · cases h; assumption
  · cases h

theorem key_run {d : TypeDesc} {kt : TypeId} {k : Value} (hd : P.underlying kt = some d) (hk : IsKey d k) (em : Bool) : (Instr.checkKey em 10000 kt k).run P w = .ok () w := run_checkKey hd hk em 9999
theorem findKey_run {d : TypeDesc} {kt : TypeId} {k : Value} {es : List MapEntry} {r : Option (Nat × Value)} (hd : P.underlying kt = some d) (h : Instr.findNow d k es 0 = some r) : (Instr.findKey kt k es).run P w = .ok r w := by
  simp only [Instr.findKey, Sem.run_bind, under_of hd, Result.andThen_ok, h, Sem.run_pure]

theorem lookup_sound {base : Env} {σ σ' : St} {t : TypeId} {x ix : Operand} {ok : Bool} (ho : o.op = .lookup t x ix ok) (hk : Known ρ fr e o.op.operands.toList) (hR : Rel base ρ σ w)
    (h : eLookup P fr σ t x ix ok = some (v, σ')) : EffOk P base ρ e o σ w σ' v := by
  obtain ⟨⟨kt, el⟩, h1, k1⟩ := ob_eq h
  obtain ⟨m, h2, k2⟩ := ob_eq (show ob (ev fr x) _ = some (v, σ') from k1)
  obtain ⟨a, h3, k3⟩ := ob_eq k2
  obtain ⟨k, h4, k4⟩ := ob_eq k3
  obtain ⟨h5, k5⟩ := bb_eq k4
  obtain ⟨cs, h6, k6⟩ := ob_eq k5
  obtain ⟨r, h7, k7⟩ := ob_eq k6
  obtain ⟨⟨u, b⟩, h8, k8⟩ := ob_eq k7
  clear h k1 k2 k3 k4 k5 k6 k7
  cases k8
  obtain ⟨hf, hs, d, hd, hik⟩ := keyOk_flat h5
  rw [hd] at h5
  have hmap := mapT_eq h1
  have hx := hk x m (by simp [ho, Op.operands]) h2
  have hix := hk ix k (by simp [ho, Op.operands]) h4
  have hkeq := hix.flat hf
  have hfound : ∀ es : List MapEntry, Entries ρ cs es → ∃ fr', Instr.findNow d k es 0 = some fr' ∧ ∃ u', VRel ρ u u' ∧ ((fr' = none ∧ b = false ∧ (zeroValue el).run P w = .ok u' w) ∨ (b = true ∧ ∃ j, fr' = some (j, u'))) := by
    intro es hE
    obtain ⟨g1, g2⟩ := mget_now h5 hE h7 0
    cases r with
    | none =>
      obtain ⟨z, h9, h10⟩ := ob_eq (show ob (zero? P el) _ = some (u, b) from h8)
      cases h10
      exact ⟨none, g1 rfl, u, (zero_of h9 w).2.1, .inl ⟨rfl, rfl, (zero_of (ρ := ρ) h9 w).1⟩⟩
    | some v0 =>
      cases h8
      obtain ⟨j, v', g3, g4⟩ := g2 _ rfl
      exact ⟨_, g3, v', g4, .inr ⟨rfl, j, rfl⟩⟩
  have fin : ∀ u', VRel ρ u u' → VRel ρ (bi ok (.tuple ⟨[u, .bool b]⟩) u) (if ok then .tuple #[u', .bool b] else u') := by
    intro u' hur
    cases ok with
    | true => exact .tuple (.cons hur (.cons (.scal rfl) .nil))
    | false => exact hur
  rcases map_rel hx h3 with ⟨rfl, hxe⟩ | ⟨mb, q, rfl, hq, hxe⟩
  · cases h6
    obtain ⟨fr', f1, u', f2, f3⟩ := hfound [] .nil
    refine ⟨w, .value (if ok then .tuple #[u', .bool b] else u'), _, ρ, ?_, rfl, hR, .refl _ _ _, fin u' f2⟩
    rcases f3 with ⟨rfl, rfl, f4⟩ | ⟨rfl, j, rfl⟩
    · simp only [execOp, ho, hxe, hkeq, Instr.lookup, Sem.run_bind, under_of hmap, Result.andThen_ok, Sem.run_pure, key_run hd hik, findKey_run hd f1, f4]
    · simp only [execOp, ho, hxe, hkeq, Instr.lookup, Sem.run_bind, under_of hmap, Result.andThen_ok, Sem.run_pure, key_run hd hik, findKey_run hd f1]
  · obtain ⟨B, h9, h10⟩ := ob_eq (show ob (σ.mblk mb) _ = some cs from h6)
    cases h10
    obtain ⟨es, clock, h11, h12⟩ := hR.map mb q B hq h9
    obtain ⟨fr', f1, u', f2, f3⟩ := hfound es.toList h12
    refine ⟨w, .value (if ok then .tuple #[u', .bool b] else u'), _, ρ, ?_, rfl, hR, .refl _ _ _, fin u' f2⟩
    rcases f3 with ⟨rfl, rfl, f4⟩ | ⟨rfl, j, rfl⟩
    · simp only [execOp, ho, hxe, hkeq, Instr.lookup, Sem.run_bind, under_of hmap, Result.andThen_ok, Sem.run_pure, run_getObj_map h11, key_run hd hik, findKey_run hd f1, f4]
    · simp only [execOp, ho, hxe, hkeq, Instr.lookup, Sem.run_bind, under_of hmap, Result.andThen_ok, Sem.run_pure, run_getObj_map h11, key_run hd hik, findKey_run hd f1]

theorem wmap_facts {σ σ' : St} {b : Nat} {cs : List Value} (h : σ.wmap b cs = some σ') : ∃ B, σ.mblk b = some B ∧ B.own = true ∧ σ' = ⟨σ.h.set b ⟨cs, true, true, B.ver + 1, .map⟩, σ.n⟩ := by
  obtain ⟨B, h1, h2⟩ := ob_eq h
  obtain ⟨h3, h4⟩ := bb_eq h2
  cases h4
  exact ⟨B, h1, h3, rfl⟩

theorem mapUpdate_sound {base : Env} {σ σ' : St} {t : TypeId} {m k x : Operand} (ho : o.op = .mapUpdate t m k x ∨ o.op = .insert t m k x) (hk : Known ρ fr e o.op.operands.toList) (hR : Rel base ρ σ w)
    (h : eMapUpdate P fr σ t m k x = some (v, σ')) : EffOk P base ρ e o σ w σ' v := by
  obtain ⟨⟨kt, el⟩, h1, k1⟩ := ob_eq h
  obtain ⟨mv, h2, k2⟩ := ob_eq (show ob (ev fr m) _ = some (v, σ') from k1)
  obtain ⟨a, h3, k3⟩ := ob_eq k2
  obtain ⟨mb, h4, k4⟩ := ob_eq k3
  subst h4
  obtain ⟨kv, h5, k5⟩ := ob_eq k4
  obtain ⟨h6, k6⟩ := bb_eq k5
  obtain ⟨u, h7, k7⟩ := ob_eq k6
  obtain ⟨B, h8, k8⟩ := ob_eq k7
  obtain ⟨cs, h9, k9⟩ := ob_eq k8
  obtain ⟨σ1, h10, k10⟩ := ob_eq k9
  clear h k1 k2 k3 k4 k5 k6 k7 k8 k9
  cases k10
  obtain ⟨B', h11, h12, rfl⟩ := wmap_facts h10
  rw [h8] at h11; cases h11
  obtain ⟨hf, hs, d, hd, hik⟩ := keyOk_flat h6
  rw [hd] at h6
  have hmap := mapT_eq h1
  have hm : VRel ρ mv (e m) := hk m mv (by rcases ho with ho | ho <;> simp [ho, Op.operands]) h2
  have hkv : VRel ρ kv (e k) := hk k kv (by rcases ho with ho | ho <;> simp [ho, Op.operands]) h5
  have hu : VRel ρ u (e x) := hk x u (by rcases ho with ho | ho <;> simp [ho, Op.operands]) h7
  have hkeq := hkv.flat hf
  rcases map_rel hm h3 with ⟨h13, _⟩ | ⟨mb', q, h13, hq, hxe⟩
  · cases h13
  · cases h13
    obtain ⟨es, clock, h14, h15⟩ := hR.map mb q B hq h8
    have hset : ∀ (es' : Array MapEntry) (clock' : Nat), Entries ρ cs es'.toList → Rel base ρ ⟨σ.h.set mb ⟨cs, true, true, B.ver + 1, .map⟩, σ.n⟩ { w with heap := w.heap.setIfInBounds q.c (.map es' clock') } ∧
        Fram ρ σ w ρ ⟨σ.h.set mb ⟨cs, true, true, B.ver + 1, .map⟩, σ.n⟩ { w with heap := w.heap.setIfInBounds q.c (.map es' clock') } := by
      intro es' clock' hE
      refine hR.set hq (mblk_blk h8).1 h12 rfl rfl (fun c hc => Array.getElem?_setIfInBounds_ne (fun he => hc he.symm)) (by simp) ⟨rfl, rfl, rfl⟩ (.map rfl ⟨es', clock', ?_, hE⟩)
      have := hR.dom mb q hq
      simp [this]
    have hrun : ∃ es' clock', Entries ρ cs es'.toList ∧ (Instr.mapUpdate t (e m) (e k) (e x)).run P w = .ok () { w with heap := w.heap.setIfInBounds q.c (.map es' clock') } := by
      rcases mset_now h6 hu h15 h9 0 with ⟨g1, g2⟩ | ⟨j, v', en, g1, g2, g3, g4⟩
      · refine ⟨es.push ⟨kv, e x, clock⟩, clock + 1, by simpa using g2 clock, ?_⟩
        simp only [hxe, hkeq, Instr.mapUpdate, Sem.run_bind, under_of hmap, Result.andThen_ok, run_getObj_map h14, key_run hd hik, findKey_run hd g1, run_setObj_map _ h14]
      · refine ⟨es.modify j fun en => { en with key := kv, val := e x }, clock, by simpa using g4, ?_⟩
        have hkey : ((es[j]?).map (·.key)).getD kv = kv := by
          rw [← Array.getElem?_toList, g2]; exact g3
        have hstay : (Instr.keyThatStays kv kv).run P w = .ok kv w := by
          unfold Instr.keyThatStays
          have : Instr.sameBits 10000 kv kv = true := by
            cases d with
            | string => cases kv <;> simp_all [IsKey]; simp [Instr.sameBits, (bytes_beq _ _).2 rfl]
            | int => cases kv <;> simp_all [IsKey]; simp [Instr.sameBits]
            | bool => cases kv <;> simp_all [IsKey]; simp [Instr.sameBits]
            | _ => cases kv <;> simp [IsKey] at hik
          rw [this]; rfl
        simp only [Nat.zero_add] at g1
        simp only [hxe, hkeq, Instr.mapUpdate, Sem.run_bind, under_of hmap, Result.andThen_ok, run_getObj_map h14, key_run hd hik, findKey_run hd g1, hkey, hstay, run_setObj_map _ h14]
    obtain ⟨es', clock', hE, hrun⟩ := hrun
    obtain ⟨r1, r2⟩ := hset es' clock' hE
    refine ⟨_, .skip, undef, ρ, ?_, rfl, r1, r2, .tuple .nil⟩
    rcases ho with ho | ho
    · simp only [execOp, ho, Sem.run_bind, hrun, Result.andThen_ok]; rfl
    · simp only [execOp, ho, Sem.run_bind, hrun, Result.andThen_ok]; rfl

theorem makeMap_sound {base : Env} {σ σ' : St} {t : TypeId} {r : Option Operand} {N : Nat} (ho : o.op = .makeMap t r) (hR : Rel base ρ σ w) (hF : Free ρ σ.n N) (hN : σ'.n ≤ N)
    (h : eMakeMap fr σ r = some (v, σ')) : EffOk P base ρ e o σ w σ' v := by
  obtain ⟨h1, h2⟩ := bb_eq h
  cases h2
  cases r with
  | some => cases h1
  | none =>
    have hf : ρ σ.n = none := hF σ.n (Nat.le_refl _) (Nat.lt_of_lt_of_le (Nat.lt_succ_self _) hN)
    obtain ⟨r1, r2⟩ := hR.newK (w' := { w with heap := w.heap.push (.map #[] 0) }) (cs := []) (k := .map) (c := w.heap.size) hf (Nat.le_refl _) (by simp) (by simp) (fun c hc => by
      show (w.heap.push _)[c]? = _
      rw [Array.getElem?_push, if_neg (by omega)]) ⟨rfl, rfl, rfl⟩ (.map rfl ⟨#[], 0, by simp, .nil⟩)
    refine ⟨_, .value (.map (some w.heap.size)), _, _, ?_, rfl, r1, r2, .map (q := ⟨w.heap.size, 0, 0⟩) (Place.put_same _ _ _)⟩
    simp only [execOp, ho, Option.map_none, Instr.makeMap, Sem.run_bind, Sem.run_pure, run_newObj, Result.andThen_ok]

end
end Go.Ab
