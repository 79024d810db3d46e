/- The summaries that the walks lean on, and conversions. -/
import Derived.Test.YtbcanmagihejhaaGreatDoorTA
import Derived.Test.YtbcanmagihejhaaGreatDoorTSan
import Derived.Test.YtbcanmagihejhaaGreatDoorTI0
import Derived.Test.YtbcanmagihejhaaGreatDoorAbD
set_option linter.unusedSimpArgs false
set_option linter.unusedVariables false
namespace Go.Proofs.T
open Go Go.Ab
noncomputable def HS:Sums:=fun g=>if g=12 then some (.plain fun vs Z=>match vs with|[]=>bb (sameRow (Z.read 1 0 20) (some pows)) (some ⟨false,.bool true,Z⟩)|_=>none) else if g=67 then some (.plain itoF) else if g=216 then some (.plain atoF) else CS1 g
theorem cv_u8_int {Z:St}{n:Int}:convA Tryz.prog Z 5 3 (.int .u8 n)=some ⟨.int .i64 (IntKind.i64.wrap n),Z,.none⟩:=by kernel_rfl
theorem cv_int_u8 {Z:St}{n:Int}:convA Tryz.prog Z 3 5 (.int .i64 n)=some ⟨.int .u8 (IntKind.u8.wrap n),Z,.none⟩:=by kernel_rfl
theorem cv_int_u64 {Z:St}{n:Int}:convA Tryz.prog Z 3 180 (.int .i64 n)=some ⟨.int .u64 (IntKind.u64.wrap n),Z,.none⟩:=by kernel_rfl
theorem cv_u64_int {Z:St}{n:Int}:convA Tryz.prog Z 180 3 (.int .u64 n)=some ⟨.int .i64 (IntKind.i64.wrap n),Z,.none⟩:=by kernel_rfl
theorem cv_bytes {Z:St}{b off n c:Nat}{sp:Option Nat}:convA Tryz.prog Z 43 9 (.slice (some ⟨b,off,sp⟩) n c)=ob (Z.read b off n) fun vs=>ob (unbytes vs) fun l=>some ⟨str l,Z,.read ⟨b,off,n⟩⟩:=conv_slice (e:=5) (by kernel_rfl) (by kernel_rfl) (by kernel_rfl)
theorem cv_str {Z:St}{l:List UInt8}:convA Tryz.prog Z 9 43 (str l)=some ⟨.slice (some ⟨Z.n,0,some 1⟩) l.length l.length,Z.new (bytesV l),.none⟩:=by kernel_rfl
theorem ix_str {l:List UInt8}{i:Nat}:indexV Tryz.prog 9 (str l) i=ob (sub l i 1) oneB:=by kernel_rfl
theorem ss_str {l:List UInt8}{lo hi:Option Value}:sliceV Tryz.prog 9 (str l) lo hi=ob (bnds l.length l.length lo hi) fun p=>pr p fun lo hi=>ob (sub l lo (hi-lo)) fun l=>some (str l):=by kernel_rfl
theorem eq_nil {i:Tmp}:bin2 Tryz.prog .eql 118 (.tmp i) (.const .nilIface) .nilIface .nilIface=some (.bool true):=by kernel_rfl
theorem outD_none:outD none= .normal:=rfl
theorem if_fault {fr:Fr}{x:Operand}:pIface Tryz.prog fr 86 x=ob (ev fr x) fun v=>some (.iface 86 v):=by kernel_rfl
theorem outD_some {v:Value}:outD (some v)= .pan v:=rfl
theorem nn_ptr {a:Addr}:nonNil (.pointer (some a))=some (.pointer (some a)):=rfl
def panI (Z:St) (v:Value):Option Ab.Stepped:=match v with
 | .iface t v=>some ⟨.iface t v,Z,.pan⟩
 | _=>none
theorem pani_iface {Z:St}{t:TypeId}{v:Value}:panI Z (.iface t v)=some ⟨.iface t v,Z,.pan⟩:=rfl
theorem ev_ep {fr:Fr}{Z:St}{x:Operand}{Q:Ab.Stepped->Prop}{uq:Hd Q}:Ev (ePanic fr Z x) Q uq=Ev (ev fr x) (fun v=>Ev (panI Z v) Q ⟨⟩) ⟨⟩:=by
 show Ev (ob (ev fr x) (panI Z)) Q uq=_
 rw [ev_ob]
theorem ev_panD {P:Program}{call:CallT}{all:Array Oper}{op:Op}{l:List Oper}{i:Nat}{fr:Fr}{Z0:St}{v:Value}{Z:St}{ds:List Ab.Trace}{Q:FST->Prop}{uq:Hd Q} :
  Ev (panD P call all op l i fr Z0 v Z ds) Q uq=Must (isEff op&&(lateL P call all (Region.before all).toList i l (i+1) fr Z0).isSome) (Q ⟨.nil,Z,ds,some v⟩) ⟨⟩:=by
 unfold panD
 rw [ev_bb]
 cases isEff op with
 | false=>exact propext ⟨fun h=>(nomatch h.1),fun h=>(nomatch h.1)⟩
 | true =>
   rw [must_true,ev_ob]
   cases lateL P call all (Region.before all).toList i l (i+1) fr Z0 with
   | none=>exact propext ⟨fun ⟨_,h,_⟩=>(nomatch h),fun h=>(nomatch h.1)⟩
   | some u=>rw [ev_some,ev_some];exact propext ⟨fun h=>⟨rfl,h⟩,fun h=>h.2⟩
theorem natl {k:IntKind}:nat? (.int k 1)=some 1/\nat? (.int k 2)=some 2/\nat? (.int k 3)=some 3/\nat? (.int k 4)=some 4/\nat? (.int k 5)=some 5/\nat? (.int k 6)=some 6/\nat? (.int k 7)=some 7/\nat? (.int k 8)=some 8/\nat? (.int k 9)=some 9/\nat? (.int k 10)=some 10/\nat? (.int k 11)=some 11/\nat? (.int k 12)=some 12/\nat? (.int k 13)=some 13/\nat? (.int k 14)=some 14/\nat? (.int k 15)=some 15/\nat? (.int k 16)=some 16:=⟨rfl,rfl,rfl,rfl,rfl,rfl,rfl,rfl,rfl,rfl,rfl,rfl,rfl,rfl,rfl,rfl⟩
end Go.Proofs.T
namespace Go.Ab
open Go
set_option linter.defProp false
def bunD:=aI (aI (aI (aI (aI (aI @er_skip (aI @er_exit @er_ret)) (aI (aI @er_seq @er_block) (aI @er_cond @er_region))) (aI (aI @er_draw (aI @en_normal @en_exit)) (aI (aI @en_ret @en_pan) (aI @ex_normal @ex_ret)))) (aI (aI (aI @ex_pan (aI @ex_exit @ee_normal)) (aI (aI @ee_ret @ee_pan) (aI @evV_nil @evD_nil))) (aI (aI @ev_pr (aI @ev_ob @ev_bb)) (aI (aI @ev_bi @ev_some) (aI @evV_move @evV_assign))))) (aI (aI (aI (aI @evV_pick (aI @evV_alloc @evV_box)) (aI (aI @evV_build @evV_buildSlice) (aI @evV_load @evV_store))) (aI (aI @evV_nilCheck (aI @evV_bin @evV_un)) (aI (aI @evV_iface @evV_func) (aI @evV_makeSlice @evV_slice)))) (aI (aI (aI @evV_fieldAddr (aI @evV_field @evV_indexAddr)) (aI (aI @evV_index @evV_extract) (aI @evV_len @evV_max))) (aI (aI @evV_min (aI @evV_append @evV_call)) (aI (aI @evV_conv @evV_panic) (aI @evV_if @evD_move)))))) (aI (aI (aI (aI (aI @evD_assign (aI @evD_pick @evD_alloc)) (aI (aI @evD_build @evD_buildSlice) (aI @evD_load @evD_store))) (aI (aI @evD_nilCheck (aI @evD_bin @evD_un)) (aI (aI @evD_slice @evD_fieldAddr) (aI @evD_field @evD_indexAddr)))) (aI (aI (aI @evD_extract (aI @evD_len @evD_call)) (aI (aI @evD_conv @evD_if) (aI @nv_none @nv_read))) (aI (aI @nv_pan (aI @nd_none @nd_read)) (aI (aI @ev_guard @ws_some) (aI @ev_tmp @get_set))))) (aI (aI (aI (aI @len1 (aI @pBin_eq @pPick.eq_1)) (aI (aI @pNilCheck.eq_1 @pFunc.eq_1) (aI @pSlice.eq_1 @pIndexAddr.eq_1))) (aI (aI @pIndex.eq_1 (aI @pExtract.eq_1 @nBox.eq_1)) (aI (aI @evN.eq_1 @un_flat) (aI @dst_zero @dst_succ)))) (aI (aI (aI @evs_cons (aI @evs_nil @res_nil)) (aI (aI @res_tmp @res_cell) (aI @rok_read @as_nil))) (aI (aI (aI @as_read @evO_some) (aI @evO_none @rok_nil)) (aI (aI @rok_eff @mm2) (aI @pBuild.eq_1 @eAppend.eq_1))))))
def bunU:=aI (aI (aI (aI (aI (aI (aI @ev_ob @ev_some) (aI @ev_bb @ev_bi)) (aI (aI @must_true @br_true) (aI @br_false @ev_int))) (aI (aI (aI @ev_bool @ev_nilIface) (aI @ev_nilSlice @ev_func)) (aI (aI @get_empty @init_cons) (aI @init_nil @sy_put_some)))) (aI (aI (aI (aI @sy_put_none @len_slice) (aI @b2_add @b2_sub)) (aI (aI @b2_mul @b2_eql) (aI @b2_neq @b2_lss))) (aI (aI (aI @b2_leq @b2_gtr) (aI @b2_geq @b2_rem)) (aI (aI @b2_quo @yield_t) (aI @yield_f (aI @bool_q @one_v)))))) (aI (aI (aI (aI (aI @two_v @at_q) (aI @nat_q @nat_q0)) (aI (aI @agg_q @tuple_q) (aI @func_q @cells_agg))) (aI (aI (aI @cells_int @cells_bool) (aI @cells_slice @tup_agg)) (aI (aI @tup_int @tup_bool) (aI @tup_slice @toArray_toList)))) (aI (aI (aI (aI @tup_one @tup_nil) (aI @tup_two @ptrTo.eq_1)) (aI (aI @ny_func @cp_normal) (aI @cp_exit @cp_ret))) (aI (aI (aI @lt_nat @lt_self) (aI @Nat.zero_mul @Nat.one_mul)) (aI (aI @Nat.mul_one @nat_succ) (aI @ev_str (aI @len_str @cells_str))))))) (aI (aI (aI (aI (aI (aI @tup_str @b2_streq) (aI @b2_strne @b2_stradd)) (aI (aI @unbytes_nil @unbytes_cons) (aI @byte_u8 @wrap8_in))) (aI (aI (aI @una_not @una_neg) (aI @bnds_eq @hi_some)) (aI (aI @hi_none @min_int) (aI @max_int @bi_true)))) (aI (aI (aI (aI @bi_false @argT_a) (aI @argT2_a @not_slice)) (aI (aI @fill_nil @fill_cons) (aI @splice_over @over_nil))) (aI (aI (aI @over_cons @rep_zero) (aI @rep_succ @List.map_cons.{0,0})) (aI (aI @List.map_nil.{0,0} @List.zip_cons_cons.{0,0}) (aI @List.zip_nil_left.{0,0} (aI @List.getElem?_cons_succ.{0} @List.getElem?_cons_zero.{0})))))) (aI (aI (aI (aI (aI @room.eq_1 @read_eq) (aI @write_eq @row_new_same)) (aI (aI @orow_new_same @row_new_ne) (aI @orow_new_ne @row_upd_same))) (aI (aI (aI @orow_upd_same @row_upd_ne) (aI @orow_upd_ne @Nat.zero_add)) (aI (aI @List.length_cons.{0} @List.length_nil.{0}) (aI @splice_full (aI @sub_full @sub_skip))))) (aI (aI (aI (aI @sub_cons @takeN_zero) (aI @takeN_succ @beq_same)) (aI (aI @blt_of @ble_of) (aI @wrap_in @wrap64_in))) (aI (aI (aI @new_n @upd_n) (aI @List.nil_append.{0} @List.append_nil.{0})) (aI (aI @List.cons_append.{0} @Bool.not_true) (aI @Bool.not_false (aI @decide_true @decide_false)))))))
def bunM:=And.intro (And.intro (@new_n) (@upd_n)) (And.intro (@dead_n) (And.intro (@updL_n) (@newK_n)))
def bunN:=And.intro (And.intro (And.intro (@List.length_append.{0}) (@List.length_cons.{0})) (And.intro (@List.length_nil.{0}) (@new_n))) (And.intro (And.intro (@upd_n) (@dead_n)) (And.intro (@updL_n) (@newK_n)))
def bunR:=And.intro (And.intro (And.intro (And.intro (@row_new_same) (@orow_new_same)) (And.intro (@row_new_ne) (@orow_new_ne))) (And.intro (And.intro (@row_upd_same) (@orow_upd_same)) (And.intro (@row_upd_ne) (And.intro (@orow_upd_ne) (@row_dead_ne))))) (And.intro (And.intro (And.intro (@orow_dead_ne) (@row_updL_ne)) (And.intro (@orow_updL_ne) (And.intro (@row_newK_ne) (@orow_newK_ne)))) (And.intro (And.intro (@new_n) (@upd_n)) (And.intro (@dead_n) (And.intro (@updL_n) (@newK_n)))))
theorem cL {p:Prop}(h:p:=by first|exact True.intro|rfl|assumption|omega|(simp only [bunM];omega)|(simp (disch:=first|omega|((try simp only [bunN]) <;> omega)|fail) only [bunR];first|done|rfl|assumption|omega)|trivial):p:=h
theorem cL1 {q p:Prop}(e:q) (h:q->p:=by intro zz;first|exact True.intro|rfl|assumption|omega|(simp only [bunM];omega)|(simp (disch:=first|omega|((try simp only [bunN]) <;> omega)|fail) only [bunR,zz];first|done|rfl|assumption|omega)|trivial):p:=h e
theorem fR {p:Prop}(h:p:=by first|exact True.intro|rfl|assumption|omega|(simp only [bunM];omega)|(simp (disch:=first|omega|((try simp only [bunN]) <;> omega)|fail) only [bunR,↓get_set,Nat.reduceEqDiff,reduceIte,init_cons,init_nil,ptrTo];first|done|rfl|assumption|omega)|trivial):p:=h
theorem fR1 {q p:Prop}(e:q) (h:q->p:=by intro zz;first|exact True.intro|rfl|assumption|omega|(simp only [bunM];omega)|(simp (disch:=first|omega|((try simp only [bunN]) <;> omega)|fail) only [bunR,↓get_set,Nat.reduceEqDiff,reduceIte,init_cons,init_nil,ptrTo,zz];first|done|rfl|assumption|omega)|trivial):p:=h e
theorem eX {p:Prop}(h:p:=by (repeat' (first|assumption|exact Ext.refl _|refine Ext.new' ?_ _|refine Ext.upd ?_ (by (try simp only [bunM]) <;> omega) _|refine Ext.dead ?_ (by (try simp only [bunM]) <;> omega)))):p:=h
theorem dS {p:Prop}(h:p:=by first|omega|((try simp only [bunN]) <;> omega)|exact NoGhost.mk rfl):p:=h
end Go.Ab
namespace Go.Proofs.T
open Go Go.Ab
open Nat (reduceMul reduceEqDiff reduceAdd)
set_option linter.defProp false
def bunFD:=aI (aI (aI (aI (aI @ld3 (aI @st3 @ld4)) (aI @ld5 (aI @st5 @ld9))) (aI (aI @ld22 (aI @sl22 @mk22)) (aI @ld32 (aI @st32 @fa32_0)))) (aI (aI (aI @fa32_1 (aI @ld33 @sl33)) (aI @ld35 (aI @st35 @fa35_0))) (aI (aI @fa35_1 (aI @fa35_2 @fa35_3)) (aI @sl36 (aI @sl43 @ld47))))) (aI (aI (aI (aI @st47 (aI @st86 @fa86_0)) (aI @fa86_1 (aI @ld97 @sl97))) (aI (aI @fa133_0 (aI @fa133_1 @ld138)) (aI @st138 (aI @fi138_0 @fa138_1)))) (aI (aI (aI @fi138_1 (aI @fa152_0 @fa152_1)) (aI @ld154 (aI @st154 @fa154_0))) (aI (aI @fa154_1 (aI @ld180 @fa254_0)) (aI (aI @fa254_1 @fa254_2) (aI @fa266_0 @fa266_1)))))
def bunFU:=aI (aI (aI (aI (aI @Tryz.underlying9 (aI @Tryz.underlying22 @ia22)) (aI (aI @ss22 @lv32) (aI @al32 @ze32))) (aI (aI @bv32 (aI @Tryz.underlying33 @ia33)) (aI (aI @lv35 @al35) (aI @ze35 @bv35)))) (aI (aI (aI @Tryz.underlying36 (aI @ia36 @Tryz.underlying43)) (aI (aI @ia43 @lv86) (aI @al86 @ze86))) (aI (aI @bv86 (aI @Tryz.underlying97 @ia97)) (aI (aI @ze133 @bv133) (aI @lv138 @al138))))) (aI (aI (aI (aI @ze138 (aI @bv138 @ze152)) (aI (aI @bv152 @lv154) (aI @al154 @ze154))) (aI (aI @bv154 (aI @ze254 @bv254)) (aI (aI @ze266 @bv266) (aI @natl @cv_u8_int)))) (aI (aI (aI @cv_int_u8 (aI @cv_int_u64 @cv_u64_int)) (aI (aI @cv_bytes @cv_str) (aI @ix_str @ss_str))) (aI (aI (aI @eq_nil @outD_none) (aI @if_fault @outD_some)) (aI (aI @nn_ptr @pani_iface) (aI @ev_ep @ev_panD)))))
def bunAP:=And.intro (And.intro (And.intro (@ap22) (@ap28)) (And.intro (@ap29) (And.intro (@ap30) (@ap33)))) (And.intro (And.intro (@ap36) (@ap37)) (And.intro (@ap43) (And.intro (@ap97) (@ap202))))
def bD:=And.intro bunD bunFD
def bU:=And.intro bunU bunFU
def bW:=And.intro bU (And.intro bunAP @splice_succ)
theorem gS {p q:Prop}(x:q) (h:p=q:=by simp (maxSteps:=8000000) (disch:=first|exact dS|fail) only [↓bD,bW,reduceMul,reduceEqDiff,reduceAdd,Nat.reduceBEq,reduceIte,Option.isNone_none];exact rfl):p:=Eq.mpr h x
theorem gS1 {e p q:Prop}(z:e) (x:q) (h:e->p=q:=by intro zz;simp (maxSteps:=8000000) (disch:=first|exact dS|fail) only [↓bD,bW,reduceMul,reduceEqDiff,reduceAdd,Nat.reduceBEq,reduceIte,Option.isNone_none,zz];exact rfl):p:=Eq.mpr (h z) x
theorem gU {p q:Prop}(x:q) (h:p=q:=by simp (maxSteps:=8000000) (disch:=first|exact dS|fail) only [↓bD,bU,reduceMul,reduceEqDiff,reduceAdd,Nat.reduceBEq,reduceIte,Option.isNone_none];exact rfl):p:=Eq.mpr h x
theorem gU1 {e p q:Prop}(z:e) (x:q) (h:e->p=q:=by intro zz;simp (maxSteps:=8000000) (disch:=first|exact dS|fail) only [↓bD,bU,reduceMul,reduceEqDiff,reduceAdd,Nat.reduceBEq,reduceIte,Option.isNone_none,zz];exact rfl):p:=Eq.mpr (h z) x
end Go.Proofs.T
