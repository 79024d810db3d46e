/- The summaries that the walks lean on, and conversions. -/
import Derived.Test.YtbcanmagihejhaaGreatDoorTA
import Derived.Test.YtbcanmagihejhaaGreatDoorTSan
import Derived.Test.YtbcanmagihejhaaGreatDoorTI0
import Derived.Test.YtbcanmagihejhaaGreatDoorAbD
set_option linter.unusedSimpArgs false
set_option linter.unusedVariables false
namespace Go.Proofs.T
open Go Go.Ab
noncomputable def HS:Sums:=fun g=>if g=12 then some (.plain fun vs Z=>match vs with|[]=>bb (sameRow (Z.read 1 0 20) (some pows)) (some ⟨false,.bool true,Z⟩)|_=>none) else if g=67 then some (.plain itoF) else CS1 g
theorem cv_u8_int {Z:St}{n:Int}:convA Tryz.prog Z 5 3 (.int .u8 n)=some ⟨.int .i64 (IntKind.i64.wrap n),Z,.none⟩:=by kernel_rfl
theorem cv_int_u64 {Z:St}{n:Int}:convA Tryz.prog Z 3 180 (.int .i64 n)=some ⟨.int .u64 (IntKind.u64.wrap n),Z,.none⟩:=by kernel_rfl
theorem cv_u64_int {Z:St}{n:Int}:convA Tryz.prog Z 180 3 (.int .u64 n)=some ⟨.int .i64 (IntKind.i64.wrap n),Z,.none⟩:=by kernel_rfl
theorem cv_str {Z:St}{l:List UInt8}:convA Tryz.prog Z 9 43 (str l)=some ⟨.slice (some ⟨Z.n,0,some 1⟩) l.length l.length,Z.new (bytesV l),.none⟩:=by kernel_rfl
theorem ix_str {l:List UInt8}{i:Nat}:indexV Tryz.prog 9 (str l) i=ob (sub l i 1) oneB:=by kernel_rfl
theorem ss_str {l:List UInt8}{lo hi:Option Value}:sliceV Tryz.prog 9 (str l) lo hi=ob (bnds l.length l.length lo hi) fun p=>pr p fun lo hi=>ob (sub l lo (hi-lo)) fun l=>some (str l):=by kernel_rfl
theorem nq_nil {i:Tmp}:bin2 Tryz.prog .neq 118 (.tmp i) (.const .nilIface) .nilIface .nilIface=some (.bool false):=by kernel_rfl
theorem eq_nil {i:Tmp}:bin2 Tryz.prog .eql 118 (.tmp i) (.const .nilIface) .nilIface .nilIface=some (.bool true):=by kernel_rfl
theorem outD_none:outD none= .normal:=rfl
theorem if_fault {fr:Fr}{x:Operand}:pIface Tryz.prog fr 86 x=ob (ev fr x) fun v=>some (.iface 86 v):=by kernel_rfl
theorem outD_some {v:Value}:outD (some v)= .pan v:=rfl
theorem nn_ptr {a:Addr}:nonNil (.pointer (some a))=some (.pointer (some a)):=rfl
def panI (Z:St) (v:Value):Option Ab.Stepped:=match v with
 | .iface t v=>some ⟨.iface t v,Z,.pan⟩
 | _=>none
theorem pani_iface {Z:St}{t:TypeId}{v:Value}:panI Z (.iface t v)=some ⟨.iface t v,Z,.pan⟩:=rfl
theorem ev_ep {fr:Fr}{Z:St}{x:Operand}{Q:Ab.Stepped->Prop}{uq:Hd Q}:Ev (ePanic fr Z x) Q uq=Ev (ev fr x) (fun v=>Ev (panI Z v) Q ⟨⟩) ⟨⟩:=by
 show Ev (ob (ev fr x) (panI Z)) Q uq=_
 rw [ev_ob]
theorem ev_panD {P:Program}{call:CallT}{all:Array Oper}{op:Op}{l:List Oper}{i:Nat}{fr:Fr}{Z0:St}{v:Value}{Z:St}{ds:List Ab.Trace}{Q:FST->Prop}{uq:Hd Q} :
  Ev (panD P call all op l i fr Z0 v Z ds) Q uq=Must (isEff op&&(lateL P call all (Region.before all).toList i l (i+1) fr Z0).isSome) (Q ⟨.nil,Z,ds,some v⟩) ⟨⟩:=by
 unfold panD
 rw [ev_bb]
 cases isEff op with
 | false=>exact propext ⟨fun h=>(nomatch h.1),fun h=>(nomatch h.1)⟩
 | true =>
   rw [must_true,ev_ob]
   cases lateL P call all (Region.before all).toList i l (i+1) fr Z0 with
   | none=>exact propext ⟨fun ⟨_,h,_⟩=>(nomatch h),fun h=>(nomatch h.1)⟩
   | some u=>rw [ev_some,ev_some];exact propext ⟨fun h=>⟨rfl,h⟩,fun h=>h.2⟩
theorem natl {k:IntKind}:nat? (.int k 1)=some 1/\nat? (.int k 2)=some 2/\nat? (.int k 3)=some 3/\nat? (.int k 4)=some 4/\nat? (.int k 5)=some 5/\nat? (.int k 6)=some 6/\nat? (.int k 7)=some 7/\nat? (.int k 8)=some 8/\nat? (.int k 9)=some 9/\nat? (.int k 10)=some 10/\nat? (.int k 11)=some 11/\nat? (.int k 12)=some 12/\nat? (.int k 13)=some 13/\nat? (.int k 14)=some 14/\nat? (.int k 15)=some 15/\nat? (.int k 16)=some 16:=⟨rfl,rfl,rfl,rfl,rfl,rfl,rfl,rfl,rfl,rfl,rfl,rfl,rfl,rfl,rfl,rfl⟩
end Go.Proofs.T
namespace Go.Ab
open Go
set_option linter.defProp false
def bunD:=aI (aI (aI (aI (aI (aI @er_skip (aI @er_exit @er_ret)) (aI (aI @er_seq @er_block) (aI @er_cond @er_region))) (aI (aI @er_draw (aI @en_normal @en_exit)) (aI (aI @en_ret @en_pan) (aI @ex_normal @ex_ret)))) (aI (aI (aI @ex_pan (aI @ex_exit @ee_normal)) (aI (aI @ee_ret @ee_pan) (aI @evV_nil @evD_nil))) (aI (aI (aI @ev_pr @ev_ob) (aI @ev_bb @ev_bi)) (aI (aI @ev_some @evV_move) (aI @evV_assign @evV_pick))))) (aI (aI (aI (aI @evV_alloc (aI @evV_box @evV_build)) (aI (aI @evV_buildSlice @evV_insert) (aI @evV_load @evV_store))) (aI (aI (aI @evV_nilCheck @evV_bin) (aI @evV_un @evV_iface)) (aI (aI @evV_func @evV_makeMap) (aI @evV_makeSlice @evV_slice)))) (aI (aI (aI @evV_fieldAddr (aI @evV_field @evV_indexAddr)) (aI (aI @evV_index @evV_lookup) (aI @evV_mapUpdate @evV_extract))) (aI (aI (aI @evV_len @evV_max) (aI @evV_min @evV_append)) (aI (aI @evV_call @evV_conv) (aI @evV_panic @evV_if)))))) (aI (aI (aI (aI (aI @evD_move (aI @evD_assign @evD_pick)) (aI (aI @evD_alloc @evD_build) (aI @evD_buildSlice @evD_load))) (aI (aI @evD_store (aI @evD_nilCheck @evD_bin)) (aI (aI @evD_un @evD_func) (aI @evD_slice @evD_fieldAddr)))) (aI (aI (aI @evD_field (aI @evD_indexAddr @evD_lookup)) (aI (aI @evD_extract @evD_len) (aI @evD_append @evD_call))) (aI (aI (aI @evD_conv @evD_if) (aI @nv_none @nv_pan)) (aI (aI @nd_none @ev_guard) (aI @ws_some @ev_tmp))))) (aI (aI (aI (aI @get_set (aI @len1 @pBin_eq)) (aI (aI @pPick.eq_1 @pNilCheck.eq_1) (aI @pFunc.eq_1 @pSlice.eq_1))) (aI (aI (aI @pIndexAddr.eq_1 @pIndex.eq_1) (aI @pExtract.eq_1 @nBox.eq_1)) (aI (aI @evN.eq_1 @un_flat) (aI @dst_zero @dst_succ)))) (aI (aI (aI @evs_cons (aI @evs_nil @res_nil)) (aI (aI @res_tmp @res_cell) (aI @rok_read @as_nil))) (aI (aI (aI @as_read @evO_some) (aI @evO_none @rok_nil)) (aI (aI @rok_eff @mm2) (aI @pBuild.eq_1 @eAppend.eq_1))))))
def bunU:=aI (aI (aI (aI (aI (aI (aI @ev_ob @ev_some) (aI @ev_bb @ev_bi)) (aI (aI @must_true @br_true) (aI @br_false @ev_int))) (aI (aI (aI @ev_bool @ev_nilIface) (aI @ev_nilSlice @ev_func)) (aI (aI @get_empty @init_cons) (aI @init_nil (aI @sy_put_some @sy_put_none))))) (aI (aI (aI (aI @len_slice @b2_add) (aI @b2_sub @b2_mul)) (aI (aI @b2_eql @b2_neq) (aI @b2_lss @b2_leq))) (aI (aI (aI @b2_gtr @b2_geq) (aI @b2_rem @b2_quo)) (aI (aI @yield_t @yield_f) (aI @bool_q (aI @one_v @two_v)))))) (aI (aI (aI (aI (aI @at_q @nat_q) (aI @nat_q0 @agg_q)) (aI (aI @tuple_q @func_q) (aI @cells_agg @cells_int))) (aI (aI (aI @cells_bool @cells_slice) (aI @cells_ptr @cells_func)) (aI (aI @tup_agg @tup_int) (aI @tup_bool (aI @tup_slice @tup_ptr))))) (aI (aI (aI (aI @tup_func @toArray_toList) (aI @tup_one @tup_nil)) (aI (aI @tup_two @ptrTo.eq_1) (aI @ny_func (aI @cp_normal @cp_exit)))) (aI (aI (aI @cp_ret @lt_nat) (aI @lt_self @Nat.zero_mul)) (aI (aI @Nat.one_mul @Nat.mul_one) (aI @nat_succ (aI @ev_str @len_str))))))) (aI (aI (aI (aI (aI (aI @cells_str @tup_str) (aI @b2_streq @b2_strne)) (aI (aI @b2_stradd @wrapF8_in) (aI @una_not @una_neg))) (aI (aI (aI @bnds_eq @hi_some) (aI @hi_none @sa_plain)) (aI (aI @min_int @max_int) (aI @bi_true (aI @bi_false @argT_a))))) (aI (aI (aI (aI @argT2_a @not_slice) (aI @not_string @fill_nil)) (aI (aI @fill_cons @splice_over) (aI @over_nil @over_cons))) (aI (aI (aI @rep_zero @rep_succ) (aI @List.map_cons.{0,0} @List.map_nil.{0,0})) (aI (aI @List.zip_cons_cons.{0,0} @List.zip_nil_left.{0,0}) (aI @List.getElem?_cons_succ.{0} (aI @List.getElem?_cons_zero.{0} @room.eq_1)))))) (aI (aI (aI (aI (aI @read_eq @write_eq) (aI @row_new_same @orow_new_same)) (aI (aI @row_new_ne @orow_new_ne) (aI @row_upd_same @orow_upd_same))) (aI (aI (aI @row_upd_ne @orow_upd_ne) (aI @orow_newK_ne @Nat.zero_add)) (aI (aI @List.length_cons.{0} @List.length_nil.{0}) (aI @splice_full (aI @sub_full @sub_skip))))) (aI (aI (aI (aI @sub_cons @takeN_zero) (aI @takeN_succ @beq_same)) (aI (aI @blt_of @ble_of) (aI @wrap_in (aI @wrap64_in @new_n)))) (aI (aI (aI @upd_n @newK_n) (aI @List.nil_append.{0} @List.append_nil.{0})) (aI (aI @List.cons_append.{0} @Bool.not_true) (aI @Bool.not_false (aI @decide_true @decide_false)))))))
def bunM:=And.intro (And.intro (@new_n) (@upd_n)) (And.intro (@dead_n) (And.intro (@updL_n) (@newK_n)))
def bunN:=And.intro (And.intro (And.intro (@List.length_append.{0}) (@List.length_cons.{0})) (And.intro (@List.length_nil.{0}) (@new_n))) (And.intro (And.intro (@upd_n) (@dead_n)) (And.intro (@updL_n) (@newK_n)))
def bunR:=And.intro (And.intro (And.intro (And.intro (@row_new_same) (@orow_new_same)) (And.intro (@row_new_ne) (@orow_new_ne))) (And.intro (And.intro (@row_upd_same) (@orow_upd_same)) (And.intro (@row_upd_ne) (And.intro (@orow_upd_ne) (@row_dead_ne))))) (And.intro (And.intro (And.intro (@orow_dead_ne) (@row_updL_ne)) (And.intro (@orow_updL_ne) (And.intro (@row_newK_ne) (@orow_newK_ne)))) (And.intro (And.intro (@new_n) (@upd_n)) (And.intro (@dead_n) (And.intro (@updL_n) (@newK_n)))))
theorem cL {p:Prop}(h:p:=by first|exact True.intro|rfl|assumption|omega|(simp only [bunM];omega)|(simp (disch:=first|omega|((try simp only [bunN]) <;> omega)|fail) only [bunR];first|done|rfl|assumption|omega)|trivial):p:=h
theorem cL1 {q p:Prop}(e:q) (h:q->p:=by intro zz;first|exact True.intro|rfl|assumption|omega|(simp only [bunM];omega)|(simp (disch:=first|omega|((try simp only [bunN]) <;> omega)|fail) only [bunR,zz];first|done|rfl|assumption|omega)|trivial):p:=h e
theorem fR {p:Prop}(h:p:=by first|exact True.intro|rfl|assumption|omega|(simp only [bunM];omega)|(simp (disch:=first|omega|((try simp only [bunN]) <;> omega)|fail) only [bunR,↓get_set,Nat.reduceEqDiff,reduceIte,init_cons,init_nil,ptrTo];first|done|rfl|assumption|omega)|trivial):p:=h
theorem fR1 {q p:Prop}(e:q) (h:q->p:=by intro zz;first|exact True.intro|rfl|assumption|omega|(simp only [bunM];omega)|(simp (disch:=first|omega|((try simp only [bunN]) <;> omega)|fail) only [bunR,↓get_set,Nat.reduceEqDiff,reduceIte,init_cons,init_nil,ptrTo,zz];first|done|rfl|assumption|omega)|trivial):p:=h e
theorem eX {p:Prop}(h:p:=by (repeat' (first|assumption|exact Ext.refl _|refine Ext.new' ?_ _|refine Ext.upd ?_ (by (try simp only [bunM]) <;> omega) _|refine Ext.dead ?_ (by (try simp only [bunM]) <;> omega)))):p:=h
theorem dS {p:Prop}(h:p:=by first|omega|((try simp only [bunN]) <;> omega)|exact NoGhost.mk rfl):p:=h
end Go.Ab
namespace Go.Proofs.T
open Go Go.Ab
open Nat (reduceMul reduceEqDiff reduceAdd)
set_option linter.defProp false
def bunFD:=aI (aI (aI (aI (aI (aI @ld3 (aI @st3 @ld4)) (aI (aI @st4 @ld5) (aI @ld9 @st9))) (aI (aI @ld22 (aI @st22 @sl22)) (aI (aI @ld28 @st28) (aI @sl28 @ld29)))) (aI (aI (aI @st29 (aI @sl29 @ld30)) (aI (aI @st30 @sl30) (aI @ld32 @st32))) (aI (aI (aI @fa32_0 @fa32_1) (aI @ld33 @sl33)) (aI (aI @ld35 @st35) (aI @fa35_0 @fa35_1))))) (aI (aI (aI (aI @fa35_2 (aI @fa35_3 @ld36)) (aI (aI @st36 @sl36) (aI @mk36 @ld37))) (aI (aI (aI @st37 @sl37) (aI @ld39 @st39)) (aI (aI @fa39_0 @fa39_1) (aI @fa39_2 @fa39_3)))) (aI (aI (aI @fa39_4 (aI @ld41 @st41)) (aI (aI @fa41_0 @fa41_1) (aI @fa41_2 @fa41_3))) (aI (aI (aI @fa41_4 @fa41_5) (aI @fa41_6 @fa41_7)) (aI (aI @fa41_8 @fa41_9) (aI @fa41_10 @fa41_11)))))) (aI (aI (aI (aI (aI @ld43 (aI @st43 @ld47)) (aI (aI @ld78 @st78) (aI @fa78_0 @fa78_1))) (aI (aI @ld80 (aI @st80 @fa80_0)) (aI (aI @fa80_1 @fa80_2) (aI @fa80_3 @fa80_4)))) (aI (aI (aI @ld82 (aI @st82 @fa82_0)) (aI (aI @fa82_1 @fa82_2) (aI @st86 @fa86_0))) (aI (aI (aI @fa86_1 @ld97) (aI @sl97 @ld101)) (aI (aI @fa116_1 @ld131) (aI @fa133_0 @fa133_1))))) (aI (aI (aI (aI @ld134 (aI @fa136_0 @fa136_1)) (aI (aI @fa136_2 @fa136_3) (aI @ld138 @st138))) (aI (aI (aI @fa138_0 @fi138_0) (aI @fa138_1 @fi138_1)) (aI (aI @ld140 @ld141) (aI @st143 @fa143_0)))) (aI (aI (aI @fa143_1 (aI @fa143_2 @fa152_0)) (aI (aI @fa152_1 @ld154) (aI @st154 @fa154_0))) (aI (aI (aI @fa154_1 @ld180) (aI @sl202 @fa254_0)) (aI (aI @fa254_1 @fa254_2) (aI @fa266_0 @fa266_1))))))
def bunFU:=aI (aI (aI (aI (aI (aI @al3 @Tryz.underlying9) (aI @Tryz.underlying22 (aI @al22 @ia22))) (aI (aI @Tryz.underlying28 (aI @ia28 @Tryz.underlying29)) (aI @ia29 (aI @Tryz.underlying30 @ia30)))) (aI (aI (aI @lv32 @al32) (aI @ze32 (aI @bv32 @Tryz.underlying33))) (aI (aI @ia33 (aI @lv35 @al35)) (aI @ze35 (aI @bv35 @Tryz.underlying36))))) (aI (aI (aI (aI @ia36 @ss36) (aI @Tryz.underlying37 (aI @ia37 @al39))) (aI (aI @lv41 (aI @al41 @ze41)) (aI @bv41 (aI @Tryz.underlying43 @ia43)))) (aI (aI (aI @al78 @ze78) (aI @bv78 (aI @al80 @ze80))) (aI (aI @bv80 (aI @al82 @ze82)) (aI @bv82 (aI @lv86 @al86)))))) (aI (aI (aI (aI (aI @ze86 @bv86) (aI @Tryz.underlying97 (aI @ia97 @al116))) (aI (aI @ze133 (aI @bv133 @ze136)) (aI @bv136 (aI @lv138 @al138)))) (aI (aI (aI @ze138 @bv138) (aI @al143 (aI @ze143 @bv143))) (aI (aI @ze152 (aI @bv152 @lv154)) (aI @al154 (aI @ze154 @bv154))))) (aI (aI (aI (aI @Tryz.underlying202 @ia202) (aI @ze254 (aI @bv254 @ze266))) (aI (aI @bv266 (aI @natl @cv_u8_int)) (aI @cv_int_u64 (aI @cv_u64_int @cv_str)))) (aI (aI (aI @ix_str @ss_str) (aI @nq_nil (aI @eq_nil @outD_none))) (aI (aI @if_fault (aI @outD_some @nn_ptr)) (aI @pani_iface (aI @ev_ep @ev_panD))))))
def bunAP:=And.intro (And.intro (And.intro (@ap22) (@ap28)) (And.intro (@ap29) (And.intro (@ap30) (@ap33)))) (And.intro (And.intro (@ap36) (@ap37)) (And.intro (@ap43) (And.intro (@ap97) (@ap202))))
def bD:=And.intro bunD bunFD
def bU:=And.intro bunU bunFU
def bW:=And.intro bU (And.intro bunAP @splice_succ)
theorem gS {p q:Prop}(x:q) (h:p=q:=by simp (maxSteps:=8000000) (disch:=first|exact dS|fail) only [↓bD,bW,reduceMul,reduceEqDiff,reduceAdd,Nat.reduceBEq,reduceIte,Option.isNone_none];exact rfl):p:=Eq.mpr h x
theorem gS1 {e p q:Prop}(z:e) (x:q) (h:e->p=q:=by intro zz;simp (maxSteps:=8000000) (disch:=first|exact dS|fail) only [↓bD,bW,reduceMul,reduceEqDiff,reduceAdd,Nat.reduceBEq,reduceIte,Option.isNone_none,zz];exact rfl):p:=Eq.mpr (h z) x
theorem gU {p q:Prop}(x:q) (h:p=q:=by simp (maxSteps:=8000000) (disch:=first|exact dS|fail) only [↓bD,bU,reduceMul,reduceEqDiff,reduceAdd,Nat.reduceBEq,reduceIte,Option.isNone_none];exact rfl):p:=Eq.mpr h x
theorem gU1 {e p q:Prop}(z:e) (x:q) (h:e->p=q:=by intro zz;simp (maxSteps:=8000000) (disch:=first|exact dS|fail) only [↓bD,bU,reduceMul,reduceEqDiff,reduceAdd,Nat.reduceBEq,reduceIte,Option.isNone_none,zz];exact rfl):p:=Eq.mpr (h z) x
end Go.Proofs.T
