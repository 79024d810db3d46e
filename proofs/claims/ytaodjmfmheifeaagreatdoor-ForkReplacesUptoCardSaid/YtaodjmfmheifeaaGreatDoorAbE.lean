/- The rules of the walks, in bundles; closers as terms. -/
import Derived.Test.YtaodjmfmheifeaaGreatDoorAbD
set_option linter.unusedSimpArgs false
set_option linter.unusedVariables false
namespace Go.Ab
open Go
set_option linter.defProp false
def bunD := And.intro (And.intro (And.intro (And.intro (And.intro (And.intro (And.intro (@er_scope) (@er_skip)) (And.intro (@er_label) (@er_exit))) (And.intro (And.intro (@er_ret) (@er_seq)) (And.intro (@er_block) (@er_cond)))) (And.intro (And.intro (And.intro (@er_region) (@er_draw)) (And.intro (@en_normal) (@en_exit))) (And.intro (And.intro (@en_ret) (@en_pan)) (And.intro (@ex_normal) (And.intro (@ex_ret) (@ex_pan)))))) (And.intro (And.intro (And.intro (And.intro (@ex_exit) (@ee_normal)) (And.intro (@ee_ret) (@ee_pan))) (And.intro (And.intro (@evV_nil) (@evD_nil)) (And.intro (@ev_pr) (@ev_ob)))) (And.intro (And.intro (And.intro (@ev_bb) (@ev_bi)) (And.intro (@ev_some) (@evV_move))) (And.intro (And.intro (@evV_assign) (@evV_pick)) (And.intro (@evV_alloc) (And.intro (@evV_box) (@evV_build))))))) (And.intro (And.intro (And.intro (And.intro (And.intro (@evV_buildSlice) (@evV_insert)) (And.intro (@evV_load) (@evV_store))) (And.intro (And.intro (@evV_nilCheck) (@evV_bin)) (And.intro (@evV_un) (@evV_iface)))) (And.intro (And.intro (And.intro (@evV_func) (@evV_makeMap)) (And.intro (@evV_makeSlice) (@evV_slice))) (And.intro (And.intro (@evV_fieldAddr) (@evV_field)) (And.intro (@evV_indexAddr) (And.intro (@evV_index) (@evV_lookup)))))) (And.intro (And.intro (And.intro (And.intro (@evV_mapUpdate) (@evV_extract)) (And.intro (@evV_len) (@evV_max))) (And.intro (And.intro (@evV_min) (@evV_append)) (And.intro (@evV_copy) (And.intro (@evV_clear) (@evV_call))))) (And.intro (And.intro (And.intro (@evV_conv) (@evV_panic)) (And.intro (@evV_if) (@evD_move))) (And.intro (And.intro (@evD_assign) (@evD_pick)) (And.intro (@evD_alloc) (And.intro (@evD_box) (@evD_build)))))))) (And.intro (And.intro (And.intro (And.intro (And.intro (And.intro (@evD_buildSlice) (@evD_insert)) (And.intro (@evD_load) (@evD_store))) (And.intro (And.intro (@evD_nilCheck) (@evD_bin)) (And.intro (@evD_un) (@evD_iface)))) (And.intro (And.intro (And.intro (@evD_func) (@evD_makeMap)) (And.intro (@evD_makeSlice) (@evD_slice))) (And.intro (And.intro (@evD_fieldAddr) (@evD_field)) (And.intro (@evD_indexAddr) (And.intro (@evD_index) (@evD_lookup)))))) (And.intro (And.intro (And.intro (And.intro (@evD_mapUpdate) (@evD_extract)) (And.intro (@evD_len) (@evD_max))) (And.intro (And.intro (@evD_min) (@evD_append)) (And.intro (@evD_copy) (@evD_clear)))) (And.intro (And.intro (And.intro (@evD_call) (@evD_conv)) (And.intro (@evD_panic) (@evD_if))) (And.intro (And.intro (@nv_none) (@nv_read)) (And.intro (@nv_pan) (And.intro (@nd_none) (@nd_read))))))) (And.intro (And.intro (And.intro (And.intro (And.intro (@ev_guard) (@ws_none)) (And.intro (@ws_some) (@ev_tmp))) (And.intro (And.intro (@get_set) (@len1)) (And.intro (@pBin_eq) (@pPick.eq_1)))) (And.intro (And.intro (And.intro (@pNilCheck.eq_1) (@pFunc.eq_1)) (And.intro (@pSlice.eq_1) (@pIndexAddr.eq_1))) (And.intro (And.intro (@pIndex.eq_1) (@pExtract.eq_1)) (And.intro (@nBox.eq_1) (And.intro (@evN.eq_1) (@un_flat)))))) (And.intro (And.intro (And.intro (And.intro (@dst_zero) (@dst_succ)) (And.intro (@evs_cons) (@evs_nil))) (And.intro (And.intro (@res_nil) (@res_tmp)) (And.intro (@res_cell) (And.intro (@rok_read) (@as_nil))))) (And.intro (And.intro (And.intro (@as_read) (@as_new)) (And.intro (@evO_some) (@evO_none))) (And.intro (And.intro (@rok_nil) (@rok_eff)) (And.intro (@mm2) (And.intro (@pBuild.eq_1) (@eAppend.eq_1))))))))
def bunU := And.intro (And.intro (And.intro (And.intro (And.intro (And.intro (And.intro (@ev_ob) (@ev_some)) (And.intro (@ev_bb) (And.intro (@ev_bi) (@must_true)))) (And.intro (And.intro (@br_true) (@br_false)) (And.intro (@ev_int) (And.intro (@ev_bool) (@ev_nilFunc))))) (And.intro (And.intro (And.intro (@ev_nilIface) (@ev_nilPtr)) (And.intro (@ev_nilSlice) (And.intro (@ev_func) (@ev_global)))) (And.intro (And.intro (@get_empty) (And.intro (@init_cons) (@init_nil))) (And.intro (@sy_put_some) (And.intro (@sy_put_none) (@len_slice)))))) (And.intro (And.intro (And.intro (And.intro (@len_string) (@b2_add)) (And.intro (@b2_sub) (And.intro (@b2_mul) (@b2_eql)))) (And.intro (And.intro (@b2_neq) (And.intro (@b2_lss) (@b2_leq))) (And.intro (@b2_gtr) (And.intro (@b2_geq) (@b2_seql))))) (And.intro (And.intro (And.intro (@b2_sneq) (@b2_rem)) (And.intro (@b2_quo) (And.intro (@yield_t) (@yield_f)))) (And.intro (And.intro (@bool_q) (And.intro (@one_v) (@two_v))) (And.intro (@at_q) (And.intro (@nat_q) (@nat_q0))))))) (And.intro (And.intro (And.intro (And.intro (And.intro (@agg_q) (@tuple_q)) (And.intro (@func_q) (And.intro (@cells_agg) (@cells_int)))) (And.intro (And.intro (@cells_bool) (@cells_string)) (And.intro (@cells_slice) (And.intro (@cells_ptr) (@cells_func))))) (And.intro (And.intro (And.intro (@tup_agg) (@tup_int)) (And.intro (@tup_bool) (And.intro (@tup_string) (@tup_slice)))) (And.intro (And.intro (@tup_ptr) (And.intro (@tup_func) (@toArray_toList))) (And.intro (@tup_one) (And.intro (@tup_nil) (@tup_two)))))) (And.intro (And.intro (And.intro (And.intro (@pr_mk) (@ptrTo.eq_1)) (And.intro (@ny_func) (And.intro (@cp_normal) (@cp_exit)))) (And.intro (And.intro (@cp_ret) (And.intro (@lt_nat) (@lt_self))) (And.intro (@Nat.zero_mul) (And.intro (@Nat.one_mul) (@Nat.mul_one))))) (And.intro (And.intro (And.intro (@nat_succ) (@ev_str)) (And.intro (@len_str) (And.intro (@cells_str) (@tup_str)))) (And.intro (And.intro (@b2_streq) (And.intro (@b2_strne) (@b2_stradd))) (And.intro (@unbytes_nil) (And.intro (@unbytes_cons) (@byte_u8)))))))) (And.intro (And.intro (And.intro (And.intro (And.intro (And.intro (@wrap8_in) (@wrapF8_in)) (And.intro (@una_not) (And.intro (@una_neg) (@bnds_eq)))) (And.intro (And.intro (@hi_some) (@hi_none)) (And.intro (@sa_none) (And.intro (@sa_plain) (@sa_some))))) (And.intro (And.intro (And.intro (@min_int) (@max_int)) (And.intro (@bi_true) (And.intro (@bi_false) (@src_slice)))) (And.intro (And.intro (@src_nil) (And.intro (@an_none) (@an_plain))) (And.intro (@an_some) (And.intro (@ai_some) (@ai_none)))))) (And.intro (And.intro (And.intro (And.intro (@ble_no) (@blt_no)) (And.intro (@argT_a) (And.intro (@argT2_a) (@not_slice)))) (And.intro (And.intro (@not_string) (And.intro (@fill_nil) (@fill_cons))) (And.intro (@splice_over) (And.intro (@over_nil) (@over_cons))))) (And.intro (And.intro (And.intro (@rep_zero) (@rep_succ)) (And.intro (@List.map_cons.{0,0}) (And.intro (@List.map_nil.{0,0}) (@List.zip_cons_cons.{0,0})))) (And.intro (And.intro (@List.zip_nil_left.{0,0}) (And.intro (@List.getElem?_cons_succ.{0}) (@List.getElem?_cons_zero.{0}))) (And.intro (@lt_num) (And.intro (@room.eq_1) (@read_eq))))))) (And.intro (And.intro (And.intro (And.intro (And.intro (@write_eq) (@kill_eq)) (And.intro (@row_new_same) (And.intro (@orow_new_same) (@row_new_ne)))) (And.intro (And.intro (@orow_new_ne) (@row_upd_same)) (And.intro (@orow_upd_same) (And.intro (@row_upd_ne) (@orow_upd_ne))))) (And.intro (And.intro (And.intro (@row_dead_ne) (@orow_dead_ne)) (And.intro (@row_updL_ne) (And.intro (@orow_updL_ne) (@row_newK_ne)))) (And.intro (And.intro (@orow_newK_ne) (And.intro (@Nat.zero_add) (@List.length_cons.{0}))) (And.intro (@List.length_nil.{0}) (And.intro (@splice_full) (@sub_full)))))) (And.intro (And.intro (And.intro (And.intro (@sub_skip) (@sub_cons)) (And.intro (@sub_none) (And.intro (@takeN_zero) (@takeN_succ)))) (And.intro (And.intro (@beq_same) (And.intro (@blt_of) (@ble_of))) (And.intro (@wrap_in) (And.intro (@wrap64_in) (@new_n))))) (And.intro (And.intro (And.intro (@upd_n) (@dead_n)) (And.intro (@updL_n) (And.intro (@newK_n) (@List.nil_append.{0})))) (And.intro (And.intro (@List.append_nil.{0}) (And.intro (@List.cons_append.{0}) (@Bool.not_true))) (And.intro (@Bool.not_false) (And.intro (@decide_true) (@decide_false))))))))
def bunM := And.intro (And.intro (@new_n) (@upd_n)) (And.intro (@dead_n) (And.intro (@updL_n) (@newK_n)))
def bunN := And.intro (And.intro (And.intro (@List.length_append.{0}) (@List.length_cons.{0})) (And.intro (@List.length_nil.{0}) (@new_n))) (And.intro (And.intro (@upd_n) (@dead_n)) (And.intro (@updL_n) (@newK_n)))
def bunR := And.intro (And.intro (And.intro (And.intro (@row_new_same) (@orow_new_same)) (And.intro (@row_new_ne) (@orow_new_ne))) (And.intro (And.intro (@row_upd_same) (@orow_upd_same)) (And.intro (@row_upd_ne) (And.intro (@orow_upd_ne) (@row_dead_ne))))) (And.intro (And.intro (And.intro (@orow_dead_ne) (@row_updL_ne)) (And.intro (@orow_updL_ne) (And.intro (@row_newK_ne) (@orow_newK_ne)))) (And.intro (And.intro (@new_n) (@upd_n)) (And.intro (@dead_n) (And.intro (@updL_n) (@newK_n)))))
theorem cL {p : Prop} (h : p := by first | exact True.intro | rfl | assumption | omega | (simp only [bunM]; omega) | (simp (disch := first | omega | ((try simp only [bunN]) <;> omega) | fail) only [bunR]; first | done | rfl | assumption | omega) | trivial) : p := h
theorem cL1 {q p : Prop} (e : q) (h : q → p := by intro zz; first | exact True.intro | rfl | assumption | omega | (simp only [bunM]; omega) | (simp (disch := first | omega | ((try simp only [bunN]) <;> omega) | fail) only [bunR, zz]; first | done | rfl | assumption | omega) | trivial) : p := h e
theorem fR {p : Prop} (h : p := by first | exact True.intro | rfl | assumption | omega | (simp only [bunM]; omega) | (simp (disch := first | omega | ((try simp only [bunN]) <;> omega) | fail) only [bunR, ↓get_set, Nat.reduceEqDiff, reduceIte, init_cons, init_nil, ptrTo]; first | done | rfl | assumption | omega) | trivial) : p := h
theorem fR1 {q p : Prop} (e : q) (h : q → p := by intro zz; first | exact True.intro | rfl | assumption | omega | (simp only [bunM]; omega) | (simp (disch := first | omega | ((try simp only [bunN]) <;> omega) | fail) only [bunR, ↓get_set, Nat.reduceEqDiff, reduceIte, init_cons, init_nil, ptrTo, zz]; first | done | rfl | assumption | omega) | trivial) : p := h e
theorem eX {p : Prop} (h : p := by (repeat' (first | assumption | exact Ext.refl _ | refine Ext.new' ?_ _ | refine Ext.upd ?_ (by (try simp only [bunM]) <;> omega) _ | refine Ext.dead ?_ (by (try simp only [bunM]) <;> omega)))) : p := h
theorem dS {p : Prop} (h : p := by first | omega | ((try simp only [bunN]) <;> omega)) : p := h
end Go.Ab
namespace Go.Ab
open Go
abbrev By := List UInt8
theorem sub_in {cells r : List Value} {o n i m : Nat} (h : sub cells o n = some r) (hi : i + m ≤ n) : sub cells (o + i) m = sub r i m := by
  obtain ⟨h1, h2⟩ := sub_eq h
  subst h2
  rw [sub_of (by omega), sub_of (by simp; omega)]
  congr 1
  rw [List.drop_take, List.take_take, List.drop_drop]
  congr 1
  omega
theorem at_some {α : Type} {l : List α} {k : Nat} (h : k < l.length) : ∃ a, l[k]? = some a := ⟨_, List.getElem?_eq_getElem h⟩
theorem splice_at {α : Type} {l new : List α} : ∀ {o : Nat}, o + new.length ≤ l.length → splice l o new = some (l.take o ++ new ++ l.drop (o + new.length)) := by
  induction l with
  | nil =>
    intro o h
    obtain rfl : o = 0 := by simp at h; omega
    obtain rfl : new = [] := by simpa using h
    rfl
  | cons x l ih =>
    intro o h
    cases o with
    | zero =>
      rw [show splice (x :: l) 0 new = over new (x :: l) from rfl]
      simp only [List.take_zero, List.nil_append, Nat.zero_add]
      clear ih
      generalize x :: l = m at *
      induction new generalizing m with
      | nil => simp; cases m <;> rfl
      | cons y new ih2 =>
        cases m with
        | nil => simp at h
        | cons z m =>
          rw [over_cons, ih2 m (by simp at h ⊢; omega), ob_some]
          simp
    | succ o =>
      rw [splice_succ, ih (o := o) (by simp at h ⊢; omega), ob_some]
      simp [Nat.add_right_comm]
theorem as_newb {bs : List Nat} {i j b o n : Nat} {a : St} {l : List Value} {ds : List Ab.Trace} : allSame bs i ⟨b, o, n⟩ (.eff j a (a.new l) :: ds) = allSame bs i ⟨b, o, n⟩ ds := as_eff fun h => (Ext.new a l).same b h
theorem as_upd {bs : List Nat} {i j b o n c : Nat} {a : St} {l : List Value} {ds : List Ab.Trace} (h : b ≠ c) : allSame bs i ⟨b, o, n⟩ (.eff j a (a.upd c l) :: ds) = allSame bs i ⟨b, o, n⟩ ds := as_eff fun _ => by show (a.upd c l).h.get b = _; rw [upd_get, if_neg h]
theorem as_ord {bs : List Nat} {i j : Nat} {r : RowAt} {a b : St} {ds : List Ab.Trace} (h : ordered bs i j = true) : allSame bs i r (.eff j a b :: ds) = allSame bs i r ds := by
  show bi (bi (ordered bs i j) true (bi (Nat.blt r.b a.n) (bi (Nat.beq (a.ver r.b) (b.ver r.b)) true (sameRow (a.read r.b r.off r.n) (b.read r.b r.off r.n))) true)) (allSame bs i r ds) false = _
  rw [h]; rfl
/-- All but one block is as it was. -/
structure ExtX (p : Nat) (σ σ' : St) : Prop where
  n : σ.n ≤ σ'.n
  same : ∀ b, b < σ.n → b ≠ p → σ'.h.get b = σ.h.get b
section
variable {p : Nat} {σ σ' σ'' : St}
theorem ExtX.refl : ExtX p σ σ := ⟨Nat.le_refl _, fun _ _ _ => rfl⟩
theorem ExtX.of (h : Ext σ σ') : ExtX p σ σ' := ⟨h.n, fun b hb _ => h.same b hb⟩
theorem ExtX.trans (h : ExtX p σ σ') (k : ExtX p σ' σ'') : ExtX p σ σ'' := ⟨Nat.le_trans h.n k.n, fun b hb hne => by rw [k.same b (Nat.lt_of_lt_of_le hb h.n) hne, h.same b hb hne]⟩
theorem ExtX.upd (h : ExtX p σ σ') (cs : List Value) : ExtX p σ (σ'.upd p cs) := ⟨h.n, fun b hb hne => by rw [upd_get, if_neg hne, h.same b hb hne]⟩
theorem ExtX.ext {σ0 : St} (h : ExtX p σ σ') (h0 : Ext σ0 σ) (hp : σ0.n ≤ p) : Ext σ0 σ' := ⟨Nat.le_trans h0.n h.n, fun b hb => by rw [h.same b (Nat.lt_of_lt_of_le hb h0.n) (by omega), h0.same b hb]⟩
theorem ExtX.row {b : Nat} (h : ExtX p σ σ') (hb : b < σ.n) (hne : b ≠ p) : σ'.row b = σ.row b := row_congr (h.same b hb hne)
theorem ExtX.orow {b : Nat} (h : ExtX p σ σ') (hb : b < σ.n) (hne : b ≠ p) : σ'.orow b = σ.orow b := orow_congr (h.same b hb hne)
theorem ExtX.app {v v' : Value} {lo size : Nat} {rows : List (List Value)} (h : App σ' σ'' v v') (hE : ExtX p σ σ') (hl : OL lo σ' size v rows) (hlo : σ.n ≤ lo) : ExtX p σ σ'' :=
  ⟨Nat.le_trans hE.n h.n, fun c hc hne => by
    rw [h.same c (Nat.lt_of_lt_of_le hc hE.n) (fun hb => by have := (hl.blk hb).1; omega), hE.same c hc hne]⟩
end
/-- A slice of rows, all of which lie in its block one after the other. -/
def SLs (σ : St) (size : Nat) (v : Value) (rows : List (List Value)) : Prop := (∀ r ∈ rows, r.length = size) ∧
  ((v = .slice none 0 0 ∧ rows = []) ∨ ∃ b off sp c cells, v = .slice (some ⟨b, off, sp⟩) rows.length c ∧ b < σ.n ∧ σ.row b = some cells ∧ sub cells off (rows.length * size) = some rows.flatten)
theorem SLs.nil {σ : St} {size : Nat} : SLs σ size (.slice none 0 0) [] := ⟨fun r h => by simp at h, .inl ⟨rfl, rfl⟩⟩
theorem SLs.sl {σ : St} {size : Nat} {v : Value} {rows : List (List Value)} (h : SLs σ size v rows) : SL σ size v rows := by
  obtain ⟨hr, h | ⟨b, off, sp, c, cells, h1, h2, h3, h4⟩⟩ := h
  · exact .inl h
  · refine .inr ⟨b, off, sp, c, cells, h1, h2, h3, fun k r hk => ?_⟩
    have hlt := (List.getElem?_eq_some_iff.1 hk).1
    have hmul : k * size + size ≤ rows.length * size := by
      have : (k + 1) * size ≤ rows.length * size := Nat.mul_le_mul_right size hlt
      rw [Nat.succ_mul] at this; exact this
    rw [sub_in h4 hmul, ← Nat.add_zero (k * size), sub_rows hr hk (by omega)]
    have := hr r (List.mem_of_getElem? hk)
    exact sub_full (by omega) (by omega)
theorem SLs.src {σ : St} {size : Nat} {v : Value} {rows : List (List Value)} (h : SLs σ size v rows) : srcCells σ size v = some (rows.length, rows.flatten) := by
  obtain ⟨hr, ⟨rfl, rfl⟩ | ⟨b, off, sp, c, cells, rfl, h2, h3, h4⟩⟩ := h
  · rfl
  · rw [src_slice, read_eq, h3, ob_some, h4, ob_some]
theorem SLs.shape {σ : St} {size : Nat} {v : Value} {rows : List (List Value)} (h : SLs σ size v rows) : ∃ a c, v = .slice a rows.length c := by
  obtain ⟨hr, ⟨rfl, rfl⟩ | ⟨b, off, sp, c, cells, rfl, -⟩⟩ := h
  · exact ⟨_, _, rfl⟩
  · exact ⟨_, _, rfl⟩
theorem OL.sls {lo : Nat} {σ : St} {size : Nat} {v : Value} {rows : List (List Value)} (h : OL lo σ size v rows) : SLs σ size v rows := by
  obtain ⟨hr, ⟨rfl, rfl⟩ | ⟨b, sp, rfl, hs, h1, h2, h3⟩⟩ := h
  · exact .nil
  · have := flatten_len rows hr
    exact ⟨hr, .inr ⟨b, 0, sp, _, _, rfl, h2, row_of h3, sub_full (by omega) (by omega)⟩⟩
theorem OL.shape {lo : Nat} {σ : St} {size : Nat} {v : Value} {rows : List (List Value)} (h : OL lo σ size v rows) : ∃ a, v = .slice a rows.length rows.length := by
  obtain ⟨hr, ⟨rfl, rfl⟩ | ⟨b, sp, rfl, -⟩⟩ := h
  · exact ⟨_, rfl⟩
  · exact ⟨_, rfl⟩
theorem OL.lower {lo lo' : Nat} {σ : St} {size : Nat} {v : Value} {rows : List (List Value)} (h : OL lo σ size v rows) (hl : lo' ≤ lo) : OL lo' σ size v rows := by
  obtain ⟨hr, h | ⟨b, sp, h1, h2, h3, h4, h5⟩⟩ := h
  · exact ⟨hr, .inl h⟩
  · exact ⟨hr, .inr ⟨b, sp, h1, h2, Nat.le_trans hl h3, h4, h5⟩⟩
theorem OL.keepX {p lo : Nat} {σ σ' : St} {size : Nat} {v : Value} {rows : List (List Value)} (h : OL lo σ size v rows) (hE : ExtX p σ σ') (hp : p < lo) : OL lo σ' size v rows := by
  refine h.keep hE.n fun b hb => ?_
  have := h.blk hb
  exact hE.same b this.2 (by omega)
/-- A copy: a slice is appended to an empty one, which has just been made. -/
theorem ev_clone {P : Program} {σ : St} {t size by' b : Nat} {v : Value} {rows : List (List Value)} {Q : Value × St → Prop} {uq : Hd Q}
    (hap : ∀ (b : Option Addr) (len cap : Nat) (w : Value), appendV P σ t (.slice b len cap) w = ob (srcCells σ size w) fun p => pr p fun n new => bi (Nat.ble (len + n) cap) (appendIn σ size b len cap n new) (bb (Nat.ble ((len + n) * by') room) (appendNew σ size b len n new)))
    (hb : σ.orow b = some []) (hbn : b < σ.n) (hl : SLs σ size v rows) (hlen : rows.length * by' ≤ 4294967296)
    (h : ∀ v' σ', OL b σ' size v' rows → ExtX b σ σ' → Q (v', σ')) : Ev (appendV P σ t (.slice (some ⟨b, 0, none⟩) 0 0) v) Q uq := by
  have hfl := flatten_len rows hl.1
  rw [hap, hl.src, ob_some, pr_mk, Nat.zero_add]
  by_cases h0 : rows.length = 0
  · obtain rfl : rows = [] := List.eq_nil_of_length_eq_zero h0
    rw [show Nat.ble ([] : List (List Value)).length 0 = true from rfl, bi_true, ai_some, write_eq, hb, ob_some]
    rw [show splice ([] : List Value) (0 + 0 * size) ([] : List (List Value)).flatten = some [] from by rw [Nat.zero_mul]; rfl, ob_some, ob_some, ev_some]
    exact h _ _ ⟨fun r h => by simp at h, .inr ⟨b, none, rfl, .inl rfl, Nat.le_refl _, hbn, orow_upd_same⟩⟩ ⟨Nat.le_refl _, fun c hc hne => by rw [upd_get, if_neg hne]⟩
  · have hroom : Nat.ble (rows.length * by') room = true := ble_of hlen
    rw [ble_no (by omega), bi_false, hroom, bb_true, an_plain, read_eq, row_of hb, ob_some, Nat.zero_mul]
    rw [show sub ([] : List Value) 0 0 = some [] from rfl, ob_some, ev_some, Nat.zero_add, List.nil_append]
    refine h _ _ ⟨hl.1, .inr ⟨σ.n, some size, rfl, .inr rfl, Nat.le_of_lt hbn, by simp, orow_new_same (Nat.le_refl _) (Nat.le_refl _)⟩⟩ ⟨by simp, fun c hc _ => by rw [new_get, if_neg (by omega)]⟩
theorem SLs.ext {σ σ' : St} {size : Nat} {v : Value} {rows : List (List Value)} (h : SLs σ size v rows) (hE : Ext σ σ') : SLs σ' size v rows := by
  obtain ⟨hr, h | ⟨b, off, sp, c, cells, h1, h2, h3, h4⟩⟩ := h
  · exact ⟨hr, .inl h⟩
  · exact ⟨hr, .inr ⟨b, off, sp, c, cells, h1, Nat.lt_of_lt_of_le h2 hE.n, by rw [hE.row h2]; exact h3, h4⟩⟩
end Go.Ab
