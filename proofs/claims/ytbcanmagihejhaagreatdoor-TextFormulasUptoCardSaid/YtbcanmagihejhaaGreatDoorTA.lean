/- Facts on the types of the translation. -/
import Derived.Test.YtbcanmagihejhaaGreatDoorAbD
import Derived.Test.YtbcanmagihejhaaGreatDoorProg
import Derived.KernelRfl
import Derived.Shelf.Strings.OnBuilder
import Derived.Shelf.Strings.Builder1
import Derived.Lib.Bytealg
set_option linter.unusedSimpArgs false
set_option linter.unusedVariables false
namespace Go.Proofs.T
open Go Go.Ab
section
abbrev LDo (t:Nat):Prop:=∀ {fr:Fr} {Z:St} {a:Operand},rLoad Tryz.prog fr Z t a=ob (ev fr a) fun v=>ob (at? v) fun p=>pr p fun b off=>ob (ob (Z.read b off 1) oneV) fun v=>some (v,⟨b,off,1⟩)
abbrev LDn (t n:Nat):Prop:=∀ {fr:Fr} {Z:St} {a:Operand},rLoad Tryz.prog fr Z t a=ob (ev fr a) fun v=>ob (at? v) fun p=>pr p fun b off=>ob (ob (Z.read b off n) fun cs=>some (.agg ⟨cs⟩)) fun v=>some (v,⟨b,off,n⟩)
abbrev LVo (t:Nat):Prop:=∀ {Z:St} {b off:Nat},loadV Tryz.prog Z t (.pointer (some ⟨b,off,none⟩))=ob (Z.read b off 1) oneV
abbrev LVn (t n:Nat):Prop:=∀ {Z:St} {b off:Nat},loadV Tryz.prog Z t (.pointer (some ⟨b,off,none⟩))=ob (Z.read b off n) fun cs=>some (.agg ⟨cs⟩)
abbrev STn (t n:Nat):Prop:=∀ {fr:Fr} {Z:St} {a v:Operand},eStore Tryz.prog fr Z t a v=ob (ev fr a) fun a=>ob (ev fr v) fun v=>ob (ob (at? a) fun p=>pr p fun b off=>bi (isTup v) none (bb ((cellsL v).length.beq n) (Z.write b off (cellsL v)))) fun Z=>some (undefV,Z)
abbrev FAo (t k:Nat):Prop:=∀ {fr:Fr} {x:Operand},pFieldAddr Tryz.prog fr t x k=ob (ev fr x) fun v=>ob (at? v) fun p=>pr p fun b off=>some (.pointer (some ⟨b,off,none⟩))
abbrev FAn (t k n:Nat):Prop:=∀ {fr:Fr} {x:Operand},pFieldAddr Tryz.prog fr t x k=ob (ev fr x) fun v=>ob (at? v) fun p=>pr p fun b off=>some (.pointer (some ⟨b,off+n,none⟩))
abbrev FIo (t k o:Nat):Prop:=∀ {fr:Fr} {x:Operand},pField Tryz.prog fr t x k=ob (ev fr x) fun v=>ob (agg? v) fun cs=>ob (sub cs o 1) oneV
abbrev FIn (t k o n:Nat):Prop:=∀ {fr:Fr} {x:Operand},pField Tryz.prog fr t x k=ob (ev fr x) fun v=>ob (agg? v) fun cs=>ob (sub cs o n) fun cs=>some (.agg ⟨cs⟩)
abbrev IAs (t w:Nat):Prop:=∀ {b off len cap i:Nat} {s:Option Nat},indexAddrV Tryz.prog t (.slice (some ⟨b,off,s⟩) len cap) i=bb (Nat.blt i len) (some (.pointer (some ⟨b,off+i*w,none⟩)))
abbrev APn (t w m e:Nat):Prop:=∀ {Z:St} {b:Option Addr} {len cap:Nat} {w':Value},appendV Tryz.prog Z t (.slice b len cap) w'=ob (srcCells Z w w') fun p=>pr p fun n new=>bi (Nat.ble (len+n) cap) (appendIn Z w b len cap n new) (bb (Nat.ble ((len+n)*m) room) (appendNew e Z w b len n new))
abbrev SSn (t w:Nat):Prop:=∀ {b:Option Addr} {len cap:Nat} {lo hi:Option Value},sliceV Tryz.prog t (.slice b len cap) lo hi=ob (bnds len cap lo hi) fun p=>pr p fun lo hi=>sliceAt w b lo hi cap
abbrev SLn (t w:Nat) (z:List Value):Prop:=∀ {fr:Fr} {len:Nat} {parts:Array (Nat×Operand)},nSlice Tryz.prog fr t len parts=ob (evs fr (parts.toList.map (·.2))) fun vs=>bb (Nat.ble (len*w) 16777216) (ob (fillL (fun i=>some (i*w,w)) ((parts.toList.map (·.1)).zip vs) (rep z len)) fun l=>some (l,fun n=> .slice (some ⟨n,0,none⟩) len len))
abbrev MKn (t m:Nat) (z:List Value):Prop:=∀ {fr:Fr} {l c:Operand},nMake Tryz.prog fr t l c=ob (evN fr l) fun l=>ob (evN fr c) fun c=>bb (Nat.ble l c) (bb (Nat.ble (c*m) room) (some (rep z c,fun n=> .slice (some ⟨n,0,none⟩) l c)))
abbrev BVn (t w n:Nat):Prop:=∀ {z:List Value} {ps:List (Nat×Value)},buildV Tryz.prog t z ps=ob (fillL (fun i=>some (i*w,n)) ps z) fun l=>some (.agg ⟨l⟩)
end
section
variable {fr:Fr} {Z:St} {x ix a v:Operand} {ve:Value}
theorem ld3:LDo 3:=by unfold LDo;intros;kernel_rfl
theorem st3:STn 3 1:=by unfold STn;intros;kernel_rfl
theorem ld4:LDo 4:=by unfold LDo;intros;kernel_rfl
theorem ld5:LDo 5:=by unfold LDo;intros;kernel_rfl
theorem st5:STn 5 1:=by unfold STn;intros;kernel_rfl
theorem ld9:LDo 9:=by unfold LDo;intros;kernel_rfl
theorem ld22:LDo 22:=by unfold LDo;intros;kernel_rfl
theorem ia22:IAs 22 1:=by unfold IAs;intros;kernel_rfl
theorem ap22:APn 22 1 9 3:=by unfold APn;intros;kernel_rfl
theorem ss22:SSn 22 1:=by unfold SSn;intros;kernel_rfl
theorem sl22:SLn 22 1 [.int .i64 0]:=by unfold SLn;intros;kernel_rfl
theorem mk22:MKn 22 9 [.int .i64 0]:=by unfold MKn;intros;kernel_rfl
theorem ap28:APn 28 2 17 78:=by unfold APn;intros;kernel_rfl
theorem ap29:APn 29 5 49 80:=by unfold APn;intros;kernel_rfl
theorem ap30:APn 30 3 41 82:=by unfold APn;intros;kernel_rfl
theorem ld32:LDn 32 2:=by unfold LDn;intros;kernel_rfl
theorem lv32:LVn 32 2:=by unfold LVn;intros;kernel_rfl
theorem st32:STn 32 2:=by unfold STn;intros;kernel_rfl
theorem al32:nAlloc Tryz.prog 32=some ([.int .i64 0,.int .i64 0],ptrTo):=by kernel_rfl
theorem ze32:zero? Tryz.prog 32=some (.agg ⟨[.int .i64 0,.int .i64 0]⟩):=by kernel_rfl
theorem bv32 {z:List Value}{ps:List (Nat×Value)}:buildV Tryz.prog 32 z ps=ob (fillL (fun i=>[(0,1),(1,1)][i]?) ps z) fun l=>some (.agg ⟨l⟩):=by kernel_rfl
theorem fa32_0:FAo 32 0:=by unfold FAo;intros;kernel_rfl
theorem fa32_1:FAn 32 1 1:=by unfold FAn;intros;kernel_rfl
theorem ld33:LDo 33:=by unfold LDo;intros;kernel_rfl
theorem ia33:IAs 33 5:=by unfold IAs;intros;kernel_rfl
theorem ap33:APn 33 5 73 35:=by unfold APn;intros;kernel_rfl
theorem sl33:SLn 33 5 [str [],.int .i64 0,.int .i64 0,str [],.slice none 0 0]:=by unfold SLn;intros;kernel_rfl
theorem ld35:LDn 35 5:=by unfold LDn;intros;kernel_rfl
theorem lv35:LVn 35 5:=by unfold LVn;intros;kernel_rfl
theorem st35:STn 35 5:=by unfold STn;intros;kernel_rfl
theorem al35:nAlloc Tryz.prog 35=some ([str [],.int .i64 0,.int .i64 0,str [],.slice none 0 0],ptrTo):=by kernel_rfl
theorem ze35:zero? Tryz.prog 35=some (.agg ⟨[str [],.int .i64 0,.int .i64 0,str [],.slice none 0 0]⟩):=by kernel_rfl
theorem bv35 {z:List Value}{ps:List (Nat×Value)}:buildV Tryz.prog 35 z ps=ob (fillL (fun i=>[(0,1),(1,2),(3,1),(4,1)][i]?) ps z) fun l=>some (.agg ⟨l⟩):=by kernel_rfl
theorem fa35_0:FAo 35 0:=by unfold FAo;intros;kernel_rfl
theorem fa35_1:FAn 35 1 1:=by unfold FAn;intros;kernel_rfl
theorem fa35_2:FAn 35 2 3:=by unfold FAn;intros;kernel_rfl
theorem fa35_3:FAn 35 3 4:=by unfold FAn;intros;kernel_rfl
theorem ia36:IAs 36 1:=by unfold IAs;intros;kernel_rfl
theorem ap36:APn 36 1 17 9:=by unfold APn;intros;kernel_rfl
theorem sl36:SLn 36 1 [str []]:=by unfold SLn;intros;kernel_rfl
theorem ap37:APn 37 1 25 22:=by unfold APn;intros;kernel_rfl
theorem ia43:IAs 43 1:=by unfold IAs;intros;kernel_rfl
theorem ap43:APn 43 1 2 5:=by unfold APn;intros;kernel_rfl
theorem sl43:SLn 43 1 [.int .u8 0]:=by unfold SLn;intros;kernel_rfl
theorem ld47:LDo 47:=by unfold LDo;intros;kernel_rfl
theorem st47:STn 47 1:=by unfold STn;intros;kernel_rfl
theorem lv86:LVn 86 2:=by unfold LVn;intros;kernel_rfl
theorem st86:STn 86 2:=by unfold STn;intros;kernel_rfl
theorem al86:nAlloc Tryz.prog 86=some ([.int .i64 0,.int .i64 0],ptrTo):=by kernel_rfl
theorem ze86:zero? Tryz.prog 86=some (.agg ⟨[.int .i64 0,.int .i64 0]⟩):=by kernel_rfl
theorem bv86 {z:List Value}{ps:List (Nat×Value)}:buildV Tryz.prog 86 z ps=ob (fillL (fun i=>[(0,1),(1,1)][i]?) ps z) fun l=>some (.agg ⟨l⟩):=by kernel_rfl
theorem fa86_0:FAo 86 0:=by unfold FAo;intros;kernel_rfl
theorem fa86_1:FAn 86 1 1:=by unfold FAn;intros;kernel_rfl
theorem ld97:LDo 97:=by unfold LDo;intros;kernel_rfl
theorem ia97:IAs 97 2:=by unfold IAs;intros;kernel_rfl
theorem ap97:APn 97 2 25 138:=by unfold APn;intros;kernel_rfl
theorem sl97:SLn 97 2 [str [],.int .i64 0]:=by unfold SLn;intros;kernel_rfl
theorem ze133:zero? Tryz.prog 133=some (.agg ⟨[.slice none 0 0,.int .i64 0]⟩):=by kernel_rfl
theorem bv133 {z:List Value}{ps:List (Nat×Value)}:buildV Tryz.prog 133 z ps=ob (fillL (fun i=>[(0,1),(1,1)][i]?) ps z) fun l=>some (.agg ⟨l⟩):=by kernel_rfl
theorem fa133_0:FAo 133 0:=by unfold FAo;intros;kernel_rfl
theorem fa133_1:FAn 133 1 1:=by unfold FAn;intros;kernel_rfl
theorem ld138:LDn 138 2:=by unfold LDn;intros;kernel_rfl
theorem lv138:LVn 138 2:=by unfold LVn;intros;kernel_rfl
theorem st138:STn 138 2:=by unfold STn;intros;kernel_rfl
theorem al138:nAlloc Tryz.prog 138=some ([str [],.int .i64 0],ptrTo):=by kernel_rfl
theorem ze138:zero? Tryz.prog 138=some (.agg ⟨[str [],.int .i64 0]⟩):=by kernel_rfl
theorem bv138 {z:List Value}{ps:List (Nat×Value)}:buildV Tryz.prog 138 z ps=ob (fillL (fun i=>[(0,1),(1,1)][i]?) ps z) fun l=>some (.agg ⟨l⟩):=by kernel_rfl
theorem fi138_0:FIo 138 0 0:=by unfold FIo;intros;kernel_rfl
theorem fa138_1:FAn 138 1 1:=by unfold FAn;intros;kernel_rfl
theorem fi138_1:FIo 138 1 1:=by unfold FIo;intros;kernel_rfl
theorem ze152:zero? Tryz.prog 152=some (.agg ⟨[.slice none 0 0,.int .i64 0,.int .i64 0]⟩):=by kernel_rfl
theorem bv152 {z:List Value}{ps:List (Nat×Value)}:buildV Tryz.prog 152 z ps=ob (fillL (fun i=>[(0,2),(2,1)][i]?) ps z) fun l=>some (.agg ⟨l⟩):=by kernel_rfl
theorem fa152_0:FAo 152 0:=by unfold FAo;intros;kernel_rfl
theorem fa152_1:FAn 152 1 2:=by unfold FAn;intros;kernel_rfl
theorem ld154:LDn 154 6:=by unfold LDn;intros;kernel_rfl
theorem lv154:LVn 154 6:=by unfold LVn;intros;kernel_rfl
theorem st154:STn 154 6:=by unfold STn;intros;kernel_rfl
theorem al154:nAlloc Tryz.prog 154=some ([str [],.int .i64 0,.int .i64 0,str [],.slice none 0 0,.int .i64 0],ptrTo):=by kernel_rfl
theorem ze154:zero? Tryz.prog 154=some (.agg ⟨[str [],.int .i64 0,.int .i64 0,str [],.slice none 0 0,.int .i64 0]⟩):=by kernel_rfl
theorem bv154 {z:List Value}{ps:List (Nat×Value)}:buildV Tryz.prog 154 z ps=ob (fillL (fun i=>[(0,5),(5,1)][i]?) ps z) fun l=>some (.agg ⟨l⟩):=by kernel_rfl
theorem fa154_0:FAo 154 0:=by unfold FAo;intros;kernel_rfl
theorem fa154_1:FAn 154 1 5:=by unfold FAn;intros;kernel_rfl
theorem ld180:LDo 180:=by unfold LDo;intros;kernel_rfl
theorem ap202:APn 202 1 9 101:=by unfold APn;intros;kernel_rfl
theorem ze254:zero? Tryz.prog 254=some (.agg ⟨[.bool false,.int .u64 0,.int .u64 0]⟩):=by kernel_rfl
theorem bv254 {z:List Value}{ps:List (Nat×Value)}:buildV Tryz.prog 254 z ps=ob (fillL (fun i=>[(0,1),(1,1),(2,1)][i]?) ps z) fun l=>some (.agg ⟨l⟩):=by kernel_rfl
theorem fa254_0:FAo 254 0:=by unfold FAo;intros;kernel_rfl
theorem fa254_1:FAn 254 1 1:=by unfold FAn;intros;kernel_rfl
theorem fa254_2:FAn 254 2 2:=by unfold FAn;intros;kernel_rfl
theorem ze266:zero? Tryz.prog 266=some (.agg ⟨[.int .u64 0,.int .u64 0]⟩):=by kernel_rfl
theorem bv266 {z:List Value}{ps:List (Nat×Value)}:buildV Tryz.prog 266 z ps=ob (fillL (fun i=>[(0,1),(1,1)][i]?) ps z) fun l=>some (.agg ⟨l⟩):=by kernel_rfl
theorem fa266_0:FAo 266 0:=by unfold FAo;intros;kernel_rfl
theorem fa266_1:FAn 266 1 1:=by unfold FAn;intros;kernel_rfl
end
end Go.Proofs.T
namespace Go.Proofs
open Go.Shelf
def Tryz.lays156_ren:Go.Shelf.Ren:=⟨fun|156=>66|165=>111|166=>65|169=>68|240=>110|241=>152|276=>151|277=>187|n=>n,fun|31=>36|9=>9|3=>3|4=>4|0=>0|20=>20|72=>116|76=>119|70=>114|37=>43|75=>118|127=>174|164=>190|5=>5|80=>125|n=>n,fun|n=>n⟩
theorem Tryz.lays156:Go.Proofs.Lays.n156 Tryz.prog Tryz.lays156_ren:={
 mixed:=by kernel_rfl
 f156:=Tryz.func66.trans (congrArg some (by kernel_rfl))
 f165:=Tryz.func111.trans (congrArg some (by kernel_rfl))
 f166:=Tryz.func65.trans (congrArg some (by kernel_rfl))
 f169:=Tryz.func68.trans (congrArg some (by kernel_rfl))
 f240:=Tryz.func110.trans (congrArg some (by kernel_rfl))
 f241:=Tryz.func152.trans (congrArg some (by kernel_rfl))
 f276:=Tryz.func151.trans (congrArg some (by kernel_rfl))
 f277:=Tryz.func187.trans (congrArg some (by kernel_rfl))
 t0:=Tryz.underlying0
 a0:=Tryz.isAgg0
 z0:=Tryz.sizeOf0
 v0:=Tryz.zeroValue0
 t3:=Tryz.underlying3
 a3:=Tryz.isAgg3
 z3:=Tryz.sizeOf3
 v3:=Tryz.zeroValue3
 t4:=Tryz.underlying4
 a4:=Tryz.isAgg4
 z4:=Tryz.sizeOf4
 v4:=Tryz.zeroValue4
 t9:=Tryz.underlying9
 a9:=Tryz.isAgg9
 z9:=Tryz.sizeOf9
 v9:=Tryz.zeroValue9
 t20:=Tryz.underlying20
 a20:=Tryz.isAgg20
 z20:=Tryz.sizeOf20
 v20:=Tryz.zeroValue20
 t31:=Tryz.underlying36
 a31:=Tryz.isAgg36
 z31:=Tryz.sizeOf36
 v31:=Tryz.zeroValue36
 t37:=Tryz.underlying43
 a37:=Tryz.isAgg43
 z37:=Tryz.sizeOf43
 v37:=Tryz.zeroValue43
 t70:=Tryz.underlying114
 a70:=Tryz.isAgg114
 z70:=Tryz.sizeOf114
 v70:=Tryz.zeroValue114
 t72:=Tryz.underlying116
 a72:=Tryz.isAgg116
 z72:=Tryz.sizeOf116
 v72:=Tryz.zeroValue116
 t75:=Tryz.underlying118
 a75:=Tryz.isAgg118
 z75:=Tryz.sizeOf118
 v75:=Tryz.zeroValue118
 t76:=Tryz.underlying119
 a76:=Tryz.isAgg119
 z76:=Tryz.sizeOf119
 v76:=Tryz.zeroValue119
 t127:=Tryz.underlying174
 a127:=Tryz.isAgg174
 z127:=Tryz.sizeOf174
 v127:=Tryz.zeroValue174
 t164:=Tryz.underlying190
 a164:=Tryz.isAgg190
 z164:=Tryz.sizeOf190
 v164:=Tryz.zeroValue190 }
theorem Tryz.bx156:Builder.Extra Tryz.prog Tryz.lays156_ren:={
 sizeBuilder:=by kernel_rfl
 liesBuilder:=by kernel_rfl
 t5:=Tryz.underlying5
 a5:=Tryz.isAgg5
 z5:=Tryz.sizeOf5
 v5:=Tryz.zeroValue5
 infoByte:=by kernel_rfl
 cellsByte:=by kernel_rfl
 sizeByte:=by kernel_rfl
 neB5:=by decide }
end Go.Proofs
namespace Go.Proofs.T
open Go Go.Ab Go.RowKit
set_option maxRecDepth 100000
theorem lies_self {P:Program}{e s m:Nat}(hb:Nat.ble 1 P.depth=true) (hs:P.cellsOf e=s) (h0:0<s) (hm:s<=m):liesAt P P.depth e (m / P.cellsOf e) 0 e 1=true:=by
 obtain ⟨d,hd⟩:∃ d,P.depth=d+1:=⟨P.depth-1,by have:=Nat.le_of_ble_eq_true hb;omega⟩
 rw [hd]
 unfold liesAt
 rw [hd]
 have h1:1<=m / s:=(Nat.le_div_iff_mul_le h0).2 om
 have hr:rowAt P (sameLayout P (d+1) · e) (d+1) e (m / P.cellsOf e) 0 1=true:=by
  unfold rowAt
  rw [hs]
  simp only [if_neg (show ¬ s=0 by omega),Nat.zero_div,Nat.zero_mod,beq_self_eq_true,Bool.true_and]
  have:sameLayout P (d+1) e e=true:=by unfold sameLayout;simp
  rw [this]
  simp [h1]
 rw [hr];rfl
set_option maxHeartbeats 1000000 in
theorem check_used (c:Nat) (w:World) (h0:w.cell? ⟨c,0,none⟩=some (.pointer (some ⟨c,0,none⟩))) :
  Calls Tryz.prog 110 #[.pointer (some ⟨c,0,none⟩)] w fun e w'=>e= .returned (.tuple #[])/\w'=w:=by
 obtain ⟨j,hj,_⟩:=Option.map_eq_some_iff.1 (show (Tryz.prog.info? 116).map (·.size)=some 2 by kernel_rfl)
 go_enter Tryz.func110,Tryz.ntmps110
 go_wp2
 rw [Lib.run_neq_ptr_same w _ Tryz.underlying114 hj]
 go_wp2
 go_end0
 exact ⟨rfl,rfl⟩
set_option maxHeartbeats 1000000 in
theorem check_fresh (c m:Nat) (w:World) (h0:w.cell? ⟨c,0,none⟩=some (.pointer none)) (hsh:w.shape? c=some (116,m)) (hm:2<=m) (hfz:w.frozen? ⟨c,0,none⟩=false) :
  Calls Tryz.prog 110 #[.pointer (some ⟨c,0,none⟩)] w fun e w'=>e= .returned (.tuple #[])/\w'=w.setCell ⟨c,0,none⟩ (.pointer (some ⟨c,0,none⟩)):=by
 obtain ⟨j,hj,hjs⟩:=Option.map_eq_some_iff.1 (show (Tryz.prog.info? 116).map (·.size)=some 2 by kernel_rfl)
 go_enter Tryz.func110,Tryz.ntmps110
 go_wp2
 rw [Lib.run_to_unsafe w ⟨c,0,none⟩ Tryz.underlying114 Tryz.underlying190 hj (by rw [hjs];decide) hsh (by show 0<m;omega)]
 simp only [Result.andThen]
 rw [Oper.upon_value]
 go_wp2
 rw [run_callFunc_extern Tryz.func151 (by kernel_rfl) (by kernel_rfl) (by kernel_rfl) (e:=Extern.AbiNoEscape.same) (by kernel_rfl)]
 rw [Lib.run_noEscape]
 simp only [Result.andThen]
 rw [Oper.upon_value]
 go_wp2
 rw [Lib.run_from_unsafe w ⟨c,0,none⟩ Tryz.underlying190 Tryz.underlying114 hj hsh (lies_self (by kernel_rfl) (s:=2) (by kernel_rfl) om hm)]
 simp only [Result.andThen]
 rw [Oper.upon_value]
 go_wp2
 go_end0
 exact ⟨rfl,rfl⟩
set_option maxHeartbeats 2000000 in
theorem string_row (c g cap cells:Nat) (l:List UInt8) (w:World) (hc:w.cell? ⟨c,1,none⟩=some (.slice (some ⟨g,0,none⟩) l.length cap)) (hcap:l.length<=cap) (hsh:w.shape? g=some (5,cells)) (h0:l≠[]) (hn:l.length<=cells) (h63:l.length<=9223372036854775807)
  (hcell:∀ j x,l[j]? =some x->w.cell? ((⟨g,0,none⟩:Addr).add j)=some (.int .u8 x.toNat)) :
  Calls Tryz.prog 68 #[.pointer (some ⟨c,0,none⟩)] w fun e w'=>e= .returned (.string ⟨l.toArray⟩)/\w'=w.drew.freeze ⟨g,0,none⟩ l.length:=by
 have hl:l.length≠0:=by simpa using h0
 have c1:w.drew.cell? ⟨c,1,none⟩=some (.slice (some ⟨g,0,none⟩) l.length cap):=hc
 have hSD:(Builtin.unsafeSliceData_ #[43] 174 #[.slice (some ⟨g,0,none⟩) l.length cap]).run Tryz.prog w.drew= .ok (.pointer (some ⟨g,0,none⟩)) w.drew :=
  Lib.run_unsafeSliceData_row _ _ _ _ _ _ om
 have hUS:(Builtin.unsafeString_ #[174,3] 9 #[.pointer (some ⟨g,0,none⟩),.int .i64 l.length]).run Tryz.prog w.drew= .ok (.string ⟨l.toArray⟩) (w.drew.freeze ⟨g,0,none⟩ l.length) :=
  Lib.run_unsafeString_row w.drew 174 3 9 5 Tryz.underlying174 (by kernel_rfl) g cells hsh l h0 hn h63 hcell
 have mixed:Tryz.prog.follows .mixedOrders=true:=by kernel_rfl
 go_enter Tryz.func68,Tryz.ntmps68
 go_wp2
 go_region_o
 all_goals (go_wp2;go_ret;exact ⟨rfl,rfl⟩)
end Go.Proofs.T
namespace Go.Proofs.T
open Go Go.Ab
set_option maxRecDepth 100000
theorem inv69 (x:Value) (w:World):(invoke (.fn (.func 69) #[x]) #[]).run Tryz.prog w= .ok (.enter 69 #[x]) w:=by
 have h1:Tryz.prog.funcs[69]? =some Tryz.f69:=Tryz.func69
 simp [invoke,callFunc,Sem.run_bind,run_program,Result.andThen_ok,h1]
 rw [if_neg (of_decide_eq_false (by kernel_rfl)),if_neg (by intro h;cases h)]
theorem defers1 (Q:Exit->Act->World->Prop) (a:Act) (w:World) (x:Value) (hs:7<=a.tmps.size) (hx:a.tmps[2]? =some x) (h:Q .normal (deferred a 3 69 x) w){p1 p2:String}{e1 e2:Array Edge}{i t1 t2:Nat} :
  (Code.region i #[⟨some 3,.makeFunc (.func 69) #[] #[.tmp 2],t1,p1,e1,none⟩,⟨none,.defer ⟨.value (.tmp 3),#[],#[]⟩,t2,p2,e2,none⟩] false).wpIn Fence.wide 0 Tryz.prog Q a w:=by
 refine wpIn_region_list ?_
 simp only [wpListIn,Region.wanted,if_true]
 refine ⟨fun _ _=>trivial,?_⟩
 have k1:(Oper.semAt Fence.wide.round a.eval ⟨some 3,.makeFunc (.func 69) #[] #[.tmp 2],t1,p1,e1,none⟩).run Tryz.prog w= .ok (.value (.func (.func 69) #[] #[x])) w:=by
  simp [Fence.wide,Oper.semAt_none,execOp,Instr.makeFunc,Act.eval,hx]
 rw [k1]
 show Oper.wpIn _ _ _ _ _ _ _ _
 refine ⟨fun _ _=>trivial,?_⟩
 have k2:(Oper.semAt Fence.wide.round (a.put (some 3) (.func (.func 69) #[] #[x])).eval ⟨none,.defer ⟨.value (.tmp 3),#[],#[]⟩,t2,p2,e2,none⟩).run Tryz.prog w= .ok (.defer { target:= .fn (.func 69) #[x],args:=#[] }) w:=by
  have hx3:(a.put (some 3) (.func (.func 69) #[] #[x])).tmps[3]? =some (.func (.func 69) #[] #[x]):=by
   show (a.tmps.setIfInBounds 3 _)[3]? =_
   rw [Array.getElem?_setIfInBounds,if_pos rfl,if_pos om]
  simp [Fence.wide,Oper.semAt_none,execOp,Act.eval,hx3,resolve,Deferred.ofValue]
 rw [k2]
 exact h
theorem closure_ok (x:Value) (w:World):CallsDIn Fence.wide 0 Tryz.prog 69 #[x] .returning w fun e u' w'=>(∃ v,e= .returned v)/\u'= .returning/\w'=w:=by
 refine callsDIn_of_wpSIn Tryz.func69 rfl trivial fun c₀ cs hu=>?_
 apply wpSIn_seq
 apply wpSIn_region
 simp [wpOpsSIn,go_sem,recoverD,hu,Tryz.ntmps69,Exit.thenS]
 apply wpSIn_seq
 apply wpSIn_region
 have e1:Tryz.prog.underlying 20=some (.interface #[]):=Tryz.underlying20
 have e3:∀ w:World,(Op.equalIn Op.maxDepth 20 .nilIface .nilIface).run Tryz.prog w= .ok true w:=fun w=>pureRun_sound _ (show pureRun Tryz.prog (Op.equalIn Op.maxDepth 20 .nilIface .nilIface)=some true by kernel_rfl) w
 simp [wpOpsSIn,go_sem,recoverD,hu,Tryz.ntmps69,Exit.thenS,eqGuard,binOp,Op.equal,e1,e3]
 refine wpSIn_cond (t:=false) (by simp [Act.eval,Array.replicate]) ?_
 refine wpSIn_of_wpIn rfl (wpIn_skip ?_)
 simp [bodyPostS,results,go_sem,hu]
 cases c₀
 cases hu
 rfl
section
variable {P:Program} {n:Nat} {Q:Exit->Act->List Frame->World->Prop} {a:Act} {cs:List Frame} {w w':World} {ops:Array Oper} {i:Nat} {rest:List Nat} {o:Oper}
theorem opS {v:Value}(ho:ops[i]? =some o) (hg:o.guard=none) (h:(execOp a.eval o).run P w= .ok (.value v) w') (k:wpOpsSIn Fence.wide n P ops Q rest (a.put o.dst v) cs w'):wpOpsSIn Fence.wide n P ops Q (i::rest) a cs w:=by
 simp only [wpOpsSIn,ho,Region.wanted,hg,if_true,h]
 exact ⟨fun _ _=>trivial,k⟩
theorem opSk (ho:ops[i]? =some o) (hg:o.guard=none) (h:(execOp a.eval o).run P w= .ok .skip w') (k:wpOpsSIn Fence.wide n P ops Q rest (a.put o.dst undef) cs w'):wpOpsSIn Fence.wide n P ops Q (i::rest) a cs w:=by
 simp only [wpOpsSIn,ho,Region.wanted,hg,if_true,h]
 exact ⟨fun _ _=>trivial,k⟩
theorem exec_store {e:Operand->Value}{t:TypeId}{x y:Operand}(ho:o.op= .store t x y){p v:Value}(hx:e x=p) (hy:e y=v) (h:(Instr.storeAt t p v).run P w= .ok () w'):(execOp e o).run P w= .ok .skip w':=by
 simp only [execOp,ho,hx,hy,Sem.run_bind,h];rfl
theorem exec_load {e:Operand->Value}{t:TypeId}{x:Operand}(ho:o.op= .load t x){p u:Value}(hx:e x=p) (h:(Instr.loadAt t p).run P w= .ok u w'):(execOp e o).run P w= .ok (.value u) w':=by
 simp only [execOp,ho,hx,Sem.run_bind,h];rfl
theorem exec_alloc {e:Operand->Value}{t:TypeId}(ho:o.op= .alloc t){u:Value}(h:(Instr.alloc t true (.tuple #[])).run P w= .ok u w'):(execOp e o).run P w= .ok (.value u) w':=by
 simp only [execOp,ho,Sem.run_bind,h];rfl
end
set_option maxHeartbeats 1000000 in
theorem closure_pan (x v:Value) (w w':World) (h:CaughtRun Tryz.prog 86 x v w w'):CallsDIn Fence.wide 0 Tryz.prog 69 #[x] (.panicking [{ v:= .iface 86 v,recovered:=false }]) w fun e u' w''=>(∃ v,e= .returned v)/\settle u'= .returning/\w''=w':=by
 obtain ⟨w1,w2,u,h1,h2,h3,h4⟩:=h
 refine callsDIn_of_wpSIn Tryz.func69 rfl trivial fun c₀ cs hu=>?_
 apply wpSIn_seq
 apply wpSIn_region
 simp [wpOpsSIn,go_sem,recoverD,hu,Tryz.ntmps69,Exit.thenS]
 apply wpSIn_seq
 apply wpSIn_region
 have e1:Tryz.prog.underlying 20=some (.interface #[]):=Tryz.underlying20
 have e3:∀ w:World,(Op.equalIn Op.maxDepth 20 (.iface 86 v) .nilIface).run Tryz.prog w= .ok false w:=fun w=>pureRun_sound _ (show pureRun Tryz.prog (Op.equalIn Op.maxDepth 20 (.iface 86 v) .nilIface)=some false by kernel_rfl) w
 simp [wpOpsSIn,go_sem,recoverD,hu,Tryz.ntmps69,Exit.thenS,eqGuard,binOp,Op.equal,e1,e3]
 refine wpSIn_cond (t:=true) (by simp [Act.eval,Array.replicate]) ?_
 simp only [if_true]
 apply wpSIn_seq
 apply wpSIn_region
 show wpOpsSIn _ _ _ _ _ [0,1,2,3,4,5,6,7] _ _ _
 refine opS rfl rfl (by simp [go_sem];exact ⟨rfl,rfl⟩) ?_
 refine opS rfl rfl (by simp [go_sem,Instr.typeAssert];exact ⟨rfl,rfl⟩) ?_
 refine opS rfl rfl (by simp [go_sem];exact ⟨rfl,rfl⟩) ?_
 refine opS rfl rfl (by simp [go_sem];exact ⟨rfl,rfl⟩) ?_
 refine opS rfl rfl (by simp [go_sem];exact ⟨rfl,rfl⟩) ?_
 refine opS rfl rfl (exec_alloc rfl h1) ?_
 refine opSk rfl rfl (exec_store rfl (by simp [go_sem]) (by simp [go_sem]) h2) ?_
 refine opS rfl rfl (by simp [go_sem];exact ⟨rfl,rfl⟩) ?_
 apply wpSIn_seq
 apply wpSIn_seq
 apply wpSIn_region
 show wpOpsSIn _ _ _ _ _ [0,1] _ _ _
 refine opS rfl rfl (by simp [go_sem];exact ⟨rfl,rfl⟩) ?_
 refine opS rfl rfl (by simp [go_sem];first|rfl|exact ⟨rfl,rfl⟩) ?_
 refine wpSIn_cond (t:=false) (by simp [go_sem]) ?_
 refine wpSIn_of_wpIn rfl (wpIn_skip ?_)
 apply wpSIn_region
 show wpOpsSIn _ _ _ _ _ [0,1] _ _ _
 refine opS rfl rfl (exec_load rfl (by simp [go_sem]) h3) ?_
 refine opSk rfl rfl (exec_store rfl (by simp [go_sem]) (by simp [go_sem]) h4) ?_
 show bodyPostS _ _ _ _ _ .normal _ _ _
 simp [bodyPostS,results,go_sem,hu]
 cases c₀
 cases hu
 rfl
noncomputable def parts:Code×Code×Code×Code:=match Tryz.f38.body with
 | some (.seq a (.seq b (.seq c (.seq d .ret))))=>(a,b,c,d)
 | _=>(.skip,.skip,.skip,.skip)
noncomputable def caughtT:Summ:=caughtS2 Tryz.prog parts.1 parts.2.2.1 parts.2.2.2 3 2 86 86 [.cell 2 86]
theorem caught_sum {base:Env}{G:Nat}(hG:codeOk Tryz.prog 7 G parts.1=true/\codeOk Tryz.prog 7 G parts.2.2.1=true/\codeOk Tryz.prog 7 G parts.2.2.2=true){run:RunT}(hE:ExecOk Tryz.prog base G run){vs:List Value}{Z:St}{r:CR}(h:caughtT.f run vs Z=some r) :
  Adv Z r.Z/\∀ O w vs' N,Rel base O Z w->Free O Z.n N->r.Z.n<=N->Glob O G->VsRel O vs vs'->CallOk Tryz.prog base O 38 vs' Z w r :=
 caught2_ok (c1:=parts.2.1) (k:=69) Tryz.func38 (by kernel_rfl) rfl (fun Q a w x h1 h2 h3=>defers1 Q a w x h1 h2 h3) inv69 closure_ok closure_pan hG.1 hG.2.1 hG.2.2 hE h
end Go.Proofs.T
namespace Go.Proofs.T
open Go Go.Ab Go.RowKit
set_option maxRecDepth 100000
noncomputable def ckF (vs:List Value) (Z:St):Option CR:=match vs with
 | [.pointer (some ⟨b,0,none⟩)]=>ob (Z.typ b) fun t=>bb (Nat.beq t 116) (ob (Z.read b 0 2) fun cs=>(match cs with
   | [.pointer none,_]=>ob (Z.write b 0 [.pointer (some ⟨b,0,none⟩)]) fun Z=>some ⟨false,.tuple #[],Z⟩
   | [.pointer (some ⟨c,0,none⟩),_]=>bb (Nat.beq c b) (some ⟨false,.tuple #[],Z⟩)
   | _=>none))
 | _=>none
noncomputable def byteX (v:Value):Option UInt8:=match v with
 | .int .u8 (.ofNat n)=>bb (Nat.blt n 256) (some (UInt8.ofNat n))
 | _=>none
noncomputable def bytesX (l:List Value):Option (List UInt8) :=
 List.rec (motive:=fun _=>Option (List UInt8)) (some []) (fun v _ ih=>ob (byteX v) fun b=>ob ih fun bs=>some (b::bs)) l
noncomputable def strF (vs:List Value) (Z:St):Option CR:=match vs with
 | [.pointer (some ⟨b,0,none⟩)]=>ob (Z.typ b) fun t=>bb (Nat.beq t 116) (ob (Z.read b 0 2) fun cs=>(match cs with
   | [_,.slice (some ⟨g,0,_⟩) (n+1) k]=>ob (Z.typ g) fun t=>bb (Nat.beq t 5) (bb (Nat.ble (n+1) k) (bb (Nat.ble n room) (ob (Z.read g 0 (n+1)) fun cs=>ob (bytesX cs) fun l=>ob (Z.kill g) fun Z=>some ⟨false,.string ⟨l.toArray⟩,Z⟩)))
   | _=>none))
 | _=>none
section
variable {base:Env} {G:Nat}
theorem two_cells {O:Ab.Place}{w:World}{q:Spot}{cells:List Value}{v1 v2:Value}(hR:Row base O w q cells) (ho:q.o=0) (hs:sub cells 0 2=some [v1,v2]) :
  2<=q.m/\(∃ u,w.cell? ⟨q.c,0,none⟩=some u/\VRel O v1 u)/\∃ u,w.cell? ⟨q.c,1,none⟩=some u/\VRel O v2 u:=by
 obtain ⟨arr,e,lo,hi,a1,a0,a2,a3,a4,a5⟩:=hR
 obtain ⟨s1,s2⟩:=sub_eq hs
 have g0:cells[0]? =some v1:=by
  have:=congrArg (fun l:List Value=>l[0]?) s2
  simpa using this.symm
 have g1:cells[1]? =some v2:=by
  have:=congrArg (fun l:List Value=>l[1]?) s2
  simpa using this.symm
 obtain ⟨u1,b1,b2⟩:=a5 0 v1 g0
 obtain ⟨u2,b3,b4⟩:=a5 1 v2 g1
 rw [ho] at b1 b3 a2
 exact ⟨om,⟨u1,by rw [cell_at a1];exact b1,b2⟩,u2,by rw [cell_at a1];exact b3,b4⟩
theorem ckF_ok {vs:List Value}{Z:St}{r:CR}(h:ckF vs Z=some r):Adv Z r.Z/\∀ O w vs' N,Rel base O Z w->Free O Z.n N->r.Z.n<=N->Glob O G->VsRel O vs vs'->CallOk Tryz.prog base O 110 vs' Z w r:=by
 unfold ckF at h
 split at h
 ·rename_i b
  obtain ⟨t,g1,h1⟩:=ob_eq h
  clear h
  obtain ⟨g2,h2⟩:=bb_eq h1
  clear h1
  obtain rfl:=Nat.eq_of_beq_eq_true g2
  obtain ⟨cs,g3,h⟩:=ob_eq h2
  clear h2
  obtain ⟨B,hB,hsub⟩:=read_parts g3
  split at h
  ·rename_i v2
   obtain ⟨Z',g4,h⟩:=ob_eq h
   cases h
   refine ⟨.write g4,fun O w vs' N hR hF hN hG hv=>?_⟩
   cases hv with
   | cons hp hv =>
   cases hv
   cases hp with
   | scal hs=>simp [scal] at hs
   | @ptr _ _ q hq =>
   obtain ⟨ho,arr,f,ha⟩:=hR.typ hq ⟨B,(rblk_blk hB).1⟩ g1
   have hrow:=hR.row b q B hq hB
   obtain ⟨h2,⟨u,hu,hur⟩,_⟩:=two_cells hrow ho hsub
   have hun:u= .pointer none:=by cases hur with|scal hs=>rfl
   subst hun
   obtain ⟨w1,w2,w3⟩:=hR.write hq g4 (vs':=[.pointer (some ⟨q.c,0,none⟩)]) (.cons (by have:=VRel.ptr (off:=0) hq;rwa [ho] at this) .nil) (by simp [isCell])
   obtain ⟨arr',e,lo,hi,a1,a0,a2,a3,a4,a5⟩:=hrow
   rw [ha] at a1
   cases a1
   obtain ⟨B',cs',hr1,hown,_⟩:=write_facts g4
   rw [hB] at hr1;cases hr1
   have hfz:=a3 (hR.own b q B hq (rblk_blk hB).1 hown)
   have hfr:w.frozen? ⟨q.c,0,none⟩=false:=by
    simp only [World.frozen?,ha]
    rcases hfz with hh|hh
    ·simp;omega
    ·simp;omega
   have he:puts w q.c (q.o+0) [.pointer (some ⟨q.c,0,none⟩)]=w.setCell ⟨q.c,0,none⟩ (.pointer (some ⟨q.c,0,none⟩)):=by rw [ho];rfl
   rw [he] at w2 w3
   have hc:=check_fresh q.c q.m w hu (by simp [World.shape?,ha,a0]) h2 hfr
   rw [show q.o+0=0 from by omega]
   exact callOk_of Tryz.func110 (by kernel_rfl) rfl hc w2 w3 (.tuple .nil)
  ·rename_i c v2
   obtain ⟨g4,h⟩:=bb_eq h
   cases h
   obtain rfl:=Nat.eq_of_beq_eq_true g4
   refine ⟨.refl _,fun O w vs' N hR hF hN hG hv=>?_⟩
   cases hv with
   | cons hp hv =>
   cases hv
   cases hp with
   | scal hs=>simp [scal] at hs
   | @ptr _ _ q hq =>
   obtain ⟨ho,arr,f,ha⟩:=hR.typ hq ⟨B,(rblk_blk hB).1⟩ g1
   obtain ⟨h2,⟨u,hu,hur⟩,_⟩:=two_cells (hR.row _ q B hq hB) ho hsub
   cases hur with
   | scal hs=>simp [scal] at hs
   | @ptr _ _ q' hq' =>
   rw [hq] at hq';cases hq'
   rw [show q.o+0=0 from by omega] at hu ⊢
   exact callOk_of Tryz.func110 (by kernel_rfl) rfl (check_used q.c w hu) hR (.refl _ _ _) (.tuple .nil)
  ·cases h
 ·cases h
theorem bytesX_eq:∀ {cs:List Value}{l:List UInt8},bytesX cs=some l->cs.length=l.length/\∀ (j:Nat) (x:UInt8),l[j]? =some x->cs[j]? =some (Value.int .u8 x.toNat):=by
 intro cs
 induction cs with
 | nil=>intro l h;cases h;exact ⟨rfl,fun j x h=>by simp at h⟩
 | cons v cs ih =>
   intro l h
   obtain ⟨b,h1,h⟩:=ob_eq (show ob (byteX v) (fun b=>ob (bytesX cs) fun bs=>some (b::bs))=some l from h)
   obtain ⟨bs,h2,h⟩:=ob_eq h
   cases h
   obtain ⟨e1,e2⟩:=ih h2
   refine ⟨by simp [e1],fun j x hj=>?_⟩
   cases j with
   | zero =>
     simp at hj;subst hj
     unfold byteX at h1
     split at h1
     ·rename_i n
      obtain ⟨h3,h4⟩:=bb_eq h1
      cases h4
      rw [Nat.blt_eq] at h3
      show some (Value.int .u8 (n:Nat))=some (Value.int .u8 ((UInt8.ofNat n).toNat:Nat))
      rw [show (UInt8.ofNat n).toNat=n from by simp [UInt8.toNat_ofNat'];omega]
     ·cases h1
   | succ j=>simpa using e2 j x (by simpa using hj)
theorem strF_ok {vs:List Value}{Z:St}{r:CR}(h:strF vs Z=some r):Adv Z r.Z/\∀ O w vs' N,Rel base O Z w->Free O Z.n N->r.Z.n<=N->Glob O G->VsRel O vs vs'->CallOk Tryz.prog base O 68 vs' Z w r:=by
 unfold strF at h
 split at h
 ·rename_i b
  obtain ⟨t,g1,h1⟩:=ob_eq h
  clear h
  obtain ⟨g2,h2⟩:=bb_eq h1
  clear h1
  obtain rfl:=Nat.eq_of_beq_eq_true g2
  obtain ⟨cs,g3,h⟩:=ob_eq h2
  clear h2
  obtain ⟨B,hB,hsub⟩:=read_parts g3
  split at h
  ·rename_i v1 g sp n k
   obtain ⟨t,g4,h1⟩:=ob_eq h
   clear h
   obtain ⟨g5,h2⟩:=bb_eq h1
   clear h1
   obtain rfl:=Nat.eq_of_beq_eq_true g5
   obtain ⟨g6,h3⟩:=bb_eq h2
   obtain ⟨g7,h4⟩:=bb_eq h3
   obtain ⟨cs,g8,h5⟩:=ob_eq h4
   obtain ⟨l,g9,h6⟩:=ob_eq h5
   obtain ⟨Z',g10,h7⟩:=ob_eq h6
   cases h7
   clear h2 h3 h4 h5 h6
   have e6:=Nat.le_of_ble_eq_true g6
   have e7:=Nat.le_of_ble_eq_true g7
   unfold room at e7
   obtain ⟨Bg,hBg,hsubg⟩:=read_parts g8
   refine ⟨.kill g10,fun O w vs' N hR hF hN hG hv=>?_⟩
   cases hv with
   | cons hp hv =>
   cases hv
   cases hp with
   | scal hs=>simp [scal] at hs
   | @ptr _ _ q hq =>
   obtain ⟨ho,arr,f,ha⟩:=hR.typ hq ⟨B,(rblk_blk hB).1⟩ g1
   obtain ⟨h2,_,u,hu,hur⟩:=two_cells (hR.row b q B hq hB) ho hsub
   have fin:∀ (qg:Spot) (k':Nat),O g=some qg->u= .slice (some ⟨qg.c,qg.o,none⟩) (n+1) k'->n+1<=k'->CallOk Tryz.prog base O 68 [.pointer (some ⟨q.c,q.o+0,none⟩)] Z w ⟨false,.string ⟨l.toArray⟩,Z'⟩:=by
    intro qg k' hqg hue hk
    subst hue
    obtain ⟨hog,arrg,fg,hag⟩:=hR.typ hqg ⟨Bg,(rblk_blk hBg).1⟩ g4
    obtain ⟨arr',e,lo,hi,a1,a0,a2,a3,a4,a5⟩:=hR.row g qg Bg hqg hBg
    rw [hag] at a1
    cases a1
    obtain ⟨s1,s2⟩:=sub_eq hsubg
    have hlen:cs.length=n+1:=by rw [s2];simp;omega
    obtain ⟨u1,u2⟩:=bytesX_eq g9
    have hll:l.length=n+1:=om
    have hcell:∀ j x,l[j]? =some x->w.cell? ((⟨qg.c,0,none⟩:Addr).add j)=some (.int .u8 x.toNat):=by
     intro j x hj
     have b1:=u2 j x hj
     have hjn:j<n+1:=by have:=(List.getElem?_eq_some_iff.1 hj).1;omega
     rw [s2,List.getElem?_take_of_lt hjn,List.getElem?_drop,Nat.zero_add] at b1
     obtain ⟨v',c1,c2⟩:=a5 j _ b1
     rw [hog,Nat.zero_add] at c1
     rw [addr_add,cell_at hag,Nat.zero_add,c1]
     cases c2 with
     | scal _=>rfl
    have hc:=string_row q.c qg.c k' arrg.size l w (by rw [hll,<- hog];exact hu) om (by simp [World.shape?,hag]) (by intro he;rw [he] at hll;simp at hll) om om hcell
    have hfr:∀ c,c≠qg.c->(w.drew.freeze ⟨qg.c,0,none⟩ l.length).heap[c]? =w.heap[c]? :=by
     intro c hne
     unfold World.freeze
     split
     ·rfl
     ·show (w.heap.modify qg.c _)[c]? =_
      rw [Array.getElem?_modify,if_neg (fun h=>hne h.symm)]
    obtain ⟨w2,w3⟩:=hR.killAt hqg g10 (w':=w.drew.freeze ⟨qg.c,0,none⟩ l.length) (by unfold World.freeze;split <;> simp) hfr (by unfold World.freeze;split <;> exact ⟨rfl,rfl,rfl⟩)
    rw [show q.o+0=0 from by omega]
    exact callOk_of Tryz.func68 (by kernel_rfl) rfl hc w2 w3 (.scal rfl)
   cases hur with
   | slice hq'=>exact fin _ _ hq' rfl e6
   | grow hq' hk' hm'=>exact fin _ _ hq' rfl (Nat.le_trans e6 hk')
   | scal hs=>simp [scal] at hs
  ·cases h
 ·cases h
end
end Go.Proofs.T
namespace Go.Proofs.T
open Go Go.Ab Go.RowKit
theorem join_ok {base:Env}{G:Nat}{vs:List Value}{Z:St}{r:CR}(h:joinF vs Z=some r):Adv Z r.Z/\∀ O w vs' N,Rel base O Z w->Free O Z.n N->r.Z.n<=N->Glob O G->VsRel O vs vs'->CallOk Tryz.prog base O 66 vs' Z w r :=
 joinF_ok (g:=66) Tryz.func66 (by kernel_rfl) rfl
  (fun bk o c xs sep w h1 h2 h3 h4 h5=>Any.strings_Join Tryz.lays156 Tryz.bx156 bk o c xs sep w h1 h2 h3 h4 h5)
  (fun a c sep w=>Any.strings_Join_none Tryz.lays156 Tryz.bx156 a c sep w) h
noncomputable def CS:Sums:=fun g=>if g=38 then some caughtT else if g=66 then some (.plain joinF) else if g=68 then some (.plain strF) else if g=110 then some (.plain ckF) else none
theorem sums0 {base:Env}{G:Nat}(hG:codeOk Tryz.prog 7 G parts.1=true/\codeOk Tryz.prog 7 G parts.2.2.1=true/\codeOk Tryz.prog 7 G parts.2.2.2=true):SumsOk Tryz.prog base G CS:=by
 intro g s hs run hE vs Z r h
 unfold CS at hs
 split at hs
 ·rename_i hg;subst hg;cases hs;exact caught_sum hG hE h
 ·split at hs
  ·rename_i hg;subst hg;cases hs;exact join_ok h
  ·split at hs
   ·rename_i hg;subst hg;cases hs;exact strF_ok h
   ·split at hs
    ·rename_i hg;subst hg;cases hs;exact ckF_ok h
    ·cases hs
end Go.Proofs.T
namespace Go.Proofs.T
open Go Go.Ab Go.RowKit
set_option maxRecDepth 100000
noncomputable def idxL (c:UInt8) (l:List UInt8):Int:=List.rec (motive:=fun _=>Int) (-1) (fun b _ ih=>bi (Nat.beq b.toNat c.toNat) 0 (bi (ilt ih 0) (-1) (ih+1))) l
noncomputable def cntL (c:UInt8) (l:List UInt8):Nat:=List.rec (motive:=fun _=>Nat) 0 (fun b _ ih=>bi (Nat.beq b.toNat c.toNat) (ih+1) ih) l
theorem beq_u8 (a b:UInt8):Nat.beq a.toNat b.toNat=(a==b):=by
 rw [Bool.eq_iff_iff]
 constructor
 ·intro h;rw [UInt8.toNat.inj (Nat.eq_of_beq_eq_true h)];simp
 ·intro h;rw [eq_of_beq h];exact Nat.beq_refl _
theorem idxL_eq (c:UInt8):∀ l:List UInt8,idxL c l=Lib.indexByte l c:=by
 intro l
 induction l with
 | nil=>rfl
 | cons b l ih =>
   show bi (Nat.beq b.toNat c.toNat) 0 (bi (ilt (idxL c l) 0) (-1) (idxL c l+1))=_
   rw [ih,beq_u8]
   rw [show Lib.indexByte (b::l) c=if (b==c)=true then 0 else if (Lib.indexByte l c== -1)=true then -1 else Lib.indexByte l c+1 from rfl]
   have hge:=Lib.indexByte_ge l c
   generalize Lib.indexByte l c=z at hge ⊢
   cases hb:(b==c) with
   | true=>rfl
   | false =>
     rw [bi_false,if_neg (by simp),ilt_eq]
     by_cases h:z= -1
     ·subst h;rfl
     ·rw [decide_eq_false om,bi_false,if_neg (by simpa using h)]
theorem cntL_eq (c:UInt8):∀ l:List UInt8,cntL c l=Lib.countByte l c:=by
 intro l
 induction l with
 | nil=>rfl
 | cons b l ih =>
   show bi (Nat.beq b.toNat c.toNat) (cntL c l+1) (cntL c l)=_
   rw [ih,beq_u8]
   unfold Lib.countByte
   rw [List.count_cons]
   cases hb:(b==c) <;> simp
def ofU8 (n:Int):UInt8:=n.toNat.toUInt8
noncomputable def idxF (vs:List Value) (Z:St):Option CR:=match vs with
 | [.string s,.int .u8 n]=>some ⟨false,.int .i64 (idxL (ofU8 n) s.data.toList),Z⟩
 | _=>none
noncomputable def cntF (vs:List Value) (Z:St):Option CR:=match vs with
 | [.string s,.int .u8 n]=>some ⟨false,.int .i64 (cntL (ofU8 n) s.data.toList:Nat),Z⟩
 | _=>none
section
variable {base:Env} {G:Nat}
theorem ext_ok {g:Nat}{fn:Func}(hf:Tryz.prog.funcs[g]? =some fn) (hn:(fn.name== "runtime.NumGoroutine")=false){F:ByteArray->Int->Int}
  (hrun:∀ s n w,(callFunc g #[.string s,.int .u8 n]).run Tryz.prog w= .ok (.value (.int .i64 (F s n))) w) {vs:List Value} {Z:St} {r:CR}
  (h:(match vs with|[.string s,.int .u8 n]=>some ⟨false,.int .i64 (F s n),Z⟩|_=>none)=some r):Adv Z r.Z/\∀ O w vs' N,Rel base O Z w->Free O Z.n N->r.Z.n<=N->Glob O G->VsRel O vs vs'->CallOk Tryz.prog base O g vs' Z w r:=by
 split at h
 ·rename_i s n
  cases h
  refine ⟨.refl _,fun O w vs' N hR hF hN hG hv=>?_⟩
  cases hv with
  | cons h1 hv =>
  cases hv with
  | cons h2 hv =>
  cases hv
  cases h1
  cases h2
  exact ⟨fn,hf,hn,.inr ⟨_,hrun s n w,rfl,rfl,.scal rfl⟩⟩
 ·cases h
theorem idxF_ok {vs:List Value}{Z:St}{r:CR}(h:idxF vs Z=some r):Adv Z r.Z/\∀ O w vs' N,Rel base O Z w->Free O Z.n N->r.Z.n<=N->Glob O G->VsRel O vs vs'->CallOk Tryz.prog base O 231 vs' Z w r :=
 ext_ok (F:=fun s n=>idxL (ofU8 n) s.data.toList) Tryz.func231 (by kernel_rfl) (fun s n w=>by
  rw [run_callFunc_extern Tryz.func231 (by kernel_rfl) (by kernel_rfl) (by kernel_rfl) (e:=Extern.BytealgIndexByte.indexByte) (by kernel_rfl),Lib.run_indexByteString,idxL_eq];rfl) h
theorem cntF_ok {vs:List Value}{Z:St}{r:CR}(h:cntF vs Z=some r):Adv Z r.Z/\∀ O w vs' N,Rel base O Z w->Free O Z.n N->r.Z.n<=N->Glob O G->VsRel O vs vs'->CallOk Tryz.prog base O 201 vs' Z w r :=
 ext_ok (F:=fun s n=>(cntL (ofU8 n) s.data.toList:Nat)) Tryz.func201 (by kernel_rfl) (fun s n w=>by
  rw [run_callFunc_extern Tryz.func201 (by kernel_rfl) (by kernel_rfl) (by kernel_rfl) (e:=Extern.BytealgCount.count) (by kernel_rfl),Lib.run_countString,cntL_eq];rfl) h
end
noncomputable def CS1:Sums:=fun g=>if g=231 then some (.plain idxF) else if g=201 then some (.plain cntF) else CS g
theorem sums1 {base:Env}{G:Nat}(hG:codeOk Tryz.prog 7 G parts.1=true/\codeOk Tryz.prog 7 G parts.2.2.1=true/\codeOk Tryz.prog 7 G parts.2.2.2=true):SumsOk Tryz.prog base G CS1:=by
 intro g s hs run hE vs Z r h
 unfold CS1 at hs
 split at hs
 ·rename_i hg;subst hg;cases hs;exact idxF_ok h
 ·split at hs
  ·rename_i hg;subst hg;cases hs;exact cntF_ok h
  ·exact sums0 hG g s hs run hE vs Z r h
end Go.Proofs.T
