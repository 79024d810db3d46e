/-
  jz: THE kA ZO AT AE6 AE7, IN wm wo (cu/lay-plain.mjs out of 'TItoaShelf.wu, LJ cu/lay-wv.mjs wrote): THE qy Qr wz THE qy xA: 'import', 'namespace', 'open', 'def', 'theorem' AND kB AE8: no command of the kC: FOR A AE9-IN. AF0 qz: the table of numbers ('..xB) and one theorem, a field a fact of the rA own or the cw Mw; each cx: ONE Sp.
-/
import Derived.Shelf.LaysM
import Derived.Shelf.Strconv.Itoa3
import Derived.Ground.NamesProg
import Derived.Test.YtbcanmagihejhaaGreatDoorProg
import Derived.Test.YtbcanmagihejhaaGreatDoorTSan
import Derived.Lib.AppendIntMem
set_option linter.unusedSimpArgs false
set_option linter.unusedVariables false
set_option maxHeartbeats 32000000
set_option maxRecDepth 100000
namespace Go.Proofs
open Go.Shelf
def Tryz.VB:Go.Shelf.Ren:=⟨fun|171=>67|243=>112|246=>153|283=>188|284=>189|285=>190|286=>191|129=>212|317=>211|318=>213|319=>214|320=>215|337=>227|338=>228|n=>n,fun|3=>3|9=>9|2=>2|4=>4|171=>218|0=>0|53=>180|37=>43|5=>5|173=>221|212=>235|51=>236|20=>20|213=>237|46=>238|232=>256|233=>257|n=>n,fun|17=>1|18=>4|19=>5|n=>n⟩
theorem Tryz.pk:Go.Proofs.LaysM.n171 Tryz.prog Tryz.VB:={
 mixed:=by kernel_rfl
 f129:=Tryz.func212.trans (congrArg some (by kernel_rfl))
 f171:=Tryz.func67.trans (congrArg some (by kernel_rfl))
 f243:=Tryz.func112.trans (congrArg some (by kernel_rfl))
 f246:=Tryz.func153.trans (congrArg some (by kernel_rfl))
 f283:=Tryz.func188.trans (congrArg some (by kernel_rfl))
 f284:=Tryz.func189.trans (congrArg some (by kernel_rfl))
 f285:=Tryz.func190.trans (congrArg some (by kernel_rfl))
 f286:=Tryz.func191.trans (congrArg some (by kernel_rfl))
 f317:=Tryz.func211.trans (congrArg some (by kernel_rfl))
 f318:=Tryz.func213.trans (congrArg some (by kernel_rfl))
 f319:=Tryz.func214.trans (congrArg some (by kernel_rfl))
 f320:=Tryz.func215.trans (congrArg some (by kernel_rfl))
 f337:=Tryz.func227.trans (congrArg some (by kernel_rfl))
 f338:=Tryz.func228.trans (congrArg some (by kernel_rfl))
 t0:=Tryz.underlying0
 a0:=Tryz.isAgg0
 z0:=Tryz.sizeOf0
 v0:=Tryz.zeroValue0
 t2:=Tryz.underlying2
 a2:=Tryz.isAgg2
 z2:=Tryz.sizeOf2
 v2:=Tryz.zeroValue2
 t3:=Tryz.underlying3
 a3:=Tryz.isAgg3
 z3:=Tryz.sizeOf3
 v3:=Tryz.zeroValue3
 t4:=Tryz.underlying4
 a4:=Tryz.isAgg4
 z4:=Tryz.sizeOf4
 v4:=Tryz.zeroValue4
 t5:=Tryz.underlying5
 a5:=Tryz.isAgg5
 z5:=Tryz.sizeOf5
 v5:=Tryz.zeroValue5
 t9:=Tryz.underlying9
 a9:=Tryz.isAgg9
 z9:=Tryz.sizeOf9
 v9:=Tryz.zeroValue9
 t20:=Tryz.underlying20
 a20:=Tryz.isAgg20
 z20:=Tryz.sizeOf20
 v20:=Tryz.zeroValue20
 t37:=Tryz.underlying43
 a37:=Tryz.isAgg43
 z37:=Tryz.sizeOf43
 v37:=Tryz.zeroValue43
 t46:=Tryz.underlying238
 a46:=Tryz.isAgg238
 z46:=Tryz.sizeOf238
 v46:=Tryz.zeroValue238
 t51:=Tryz.underlying236
 a51:=Tryz.isAgg236
 z51:=Tryz.sizeOf236
 v51:=Tryz.zeroValue236
 t53:=Tryz.underlying180
 a53:=Tryz.isAgg180
 z53:=Tryz.sizeOf180
 v53:=Tryz.zeroValue180
 t171:=Tryz.underlying218
 a171:=Tryz.isAgg218
 z171:=Tryz.sizeOf218
 v171:=Tryz.zeroValue218
 t173:=Tryz.underlying221
 a173:=Tryz.isAgg221
 z173:=Tryz.sizeOf221
 v173:=Tryz.zeroValue221
 t212:=Tryz.underlying235
 a212:=Tryz.isAgg235
 z212:=Tryz.sizeOf235
 v212:=Tryz.zeroValue235
 t213:=Tryz.underlying237
 a213:=Tryz.isAgg237
 z213:=Tryz.sizeOf237
 t232:=Tryz.underlying256
 a232:=Tryz.isAgg256
 z232:=Tryz.sizeOf256
 v232:=Tryz.zeroValue256
 t233:=Tryz.underlying257
 a233:=Tryz.isAgg257
 z233:=Tryz.sizeOf257
 v233:=Tryz.zeroValue257
 g17:=by kernel_rfl
 g18:=by kernel_rfl
 g19:=by kernel_rfl
 i0:=by kernel_rfl
 i2:=by kernel_rfl
 i3:=by kernel_rfl
 i4:=by kernel_rfl
 i5:=by kernel_rfl
 i9:=by kernel_rfl
 i20:=by kernel_rfl
 i37:=by kernel_rfl
 i46:=by kernel_rfl
 i51:=by kernel_rfl
 i53:=by kernel_rfl
 i171:=by kernel_rfl
 i173:=by kernel_rfl
 i212:=by kernel_rfl
 i232:=by kernel_rfl
 i233:=by kernel_rfl
 m17:=by kernel_rfl
 m18:=by kernel_rfl
 m19:=by kernel_rfl }
open Go.RowKit Go.Sort Go.Lib in
theorem Tryz.strconv_Itoa (n:Int) (h0: -9223372036854775808<=n) (h1:n<=9223372036854775807) (w:World) (AV5:Lib.TabIs Tryz.prog w "internal/strconv.uint64pow10" .u64 Lib.pow10Tab) :
  Calls Tryz.prog 67 #[.int .i64 n] w fun e w'=>e= .returned (.string ⟨(Lib.itoa n).toArray⟩)/\∃ k os,w'=grow (w.drewN k) os:=Any.strconv_Itoa Tryz.pk n h0 h1 w AV5
end Go.Proofs
namespace Go.Proofs.T
open Go Go.Ab
section
variable {P:Program} {base:Env}
theorem Zt {g:Nat}{fn:Func}(hf:P.funcs[g]? =some fn) (hn:(fn.name== "runtime.NumGoroutine")=false) (hb:fn.body.isSome=true){v:Value}(hs:H9 v=true){Z:St}{O:Ab.Place}{w:World}{vs':List Value}(hR:Rel base O Z w)
  (hc:Calls P g ⟨vs'⟩ w fun e w'=>e= .returned v/\∃ k os,w'=Sort.grow (w.drewN k) os):Az P base O g vs' Z w ⟨false,v,Z⟩:=by
 refine ⟨fn,hf,hn,.inl ⟨hb,hc.mono ?_⟩⟩;rintro e w' ⟨rfl,k,os,rfl⟩;have hB:=Lib.below_grow w.heap.size w (Nat.le_refl _) k os;have hsz:=Lib.size_grow w k os;have BV:∀ c,c<w.heap.size->(Sort.grow (w.drewN k) os).heap[c]? =w.heap[c]? :=fun c hc=>Lib.heap_grow_old w k os c hc
 exact ⟨v,O,rfl,⟨hR.fresh,fun b q B h1 h2=>(hR.Fb b q B h1 h2).mono (Place.le_refl _) (BV _ (hR.dom b q h1)),fun b q hb=>Nat.lt_of_lt_of_le (hR.dom b q hb) hsz,hR.own,hR.sep,Nat.le_trans hR.low hsz⟩,
  ⟨fun _ _=>rfl,Nat.le_refl _,hsz,fun c hc _=>BV c hc,fun b q B h1 h2 _=>⟨b,q,B,h1,rfl,h2,fun h=>h⟩,⟨rfl,rfl,rfl⟩,fun _ _ _=>rfl⟩,.H9 hs⟩
end
theorem TP:P9=Lib.pow10Tab.map fun z=>Value.int .u64 z:=by kernel_rfl
theorem Zu:∀ v∈P9,∃ n,v= .int .u64 n:=by
 intro v hv;rw [TP] at hv;obtain ⟨n,-,rfl⟩:=List.mem_map.1 hv;exact ⟨n,rfl⟩
theorem sV {base:Env}{O:Ab.Place}{Z:St}{w:World}(hR:Rel base O Z w) (hG:Am O 8) (hr:Z.read 1 0 20=some P9):Lib.TabIs Tryz.prog w "internal/strconv.uint64pow10" .u64 Lib.pow10Tab:=by
 obtain ⟨B,hB,hs⟩:=A4 (show ob (Z.BE 1) (fun B=>sub B.cells 0 20)=some P9 from hr);obtain ⟨m,h0,hm⟩:=hG 1 om;obtain rfl:=hm rfl rfl;obtain ⟨s1,s2⟩:=sub_eq hs;obtain ⟨arr,e,lo,hi,a1,a2,a3,a4,a5,a6⟩:=hR.row 1 _ B h0 hB;have hg:Tryz.prog.globalNamed "internal/strconv.uint64pow10"=some 1:=by kernel_rfl
 have hsz:arr.size=20:=a2;have Hj:arr=(Lib.pow10Tab.map fun z=>Value.int .u64 z).toArray:=by
  rw [<- TP];refine Array.ext (by rw [hsz];rfl) fun i hi1 hi2=>?_;have hp:P9[i]? =some (P9[i]'(by have:P9.length=20:=rfl;omega)):=List.getElem?_eq_getElem _;have hv':B.cells[i]? =P9[i]? :=by
   rw [s2,List.drop_zero,List.getElem?_take,if_pos om]
  obtain ⟨n,hn⟩:=Zu _ (List.mem_of_getElem? hp);rw [hp,hn] at hv';obtain ⟨v',b1,b2⟩:=a6 i _ hv';have hb1:arr[i]? =some v':=by rw [<- b1];show _=arr[0+i]?;rw [Nat.zero_add]
  have hv:v'= .int .u64 n:=by cases b2 with|H9=>rfl
  rw [Array.getElem?_eq_getElem hi1] at hb1;have h1:=Option.some.inj hb1;rw [h1,hv,<- hn];rfl
 unfold Lib.TabIs World.var?;rw [hg];show (match w.heap[1]? with|some (.cells cs _ _)=>some cs|_=>none)=_;have a1':w.heap[1]? =some (.cells arr e (lo,hi)):=a1;rw [a1',Hj]
noncomputable def sW (vs:List Value) (Z:St):Option CR:=match vs with
 | [.int .i64 n]=>bb (AK (Z.read 1 0 20) (some P9)) (bb (decide (-9223372036854775808<=n/\n<=9223372036854775807)) (some ⟨false,.string ⟨(Lib.itoa n).toArray⟩,Z⟩))
 | _=>none
theorem lO {base:Env}{vs:List Value}{Z:St}{r:CR}(BV:∀ x:Option (List Value),AK x (some P9)=true->x=some P9) (h:sW vs Z=some r):Adv Z r.Z/\∀ O w vs' N,Rel base O Z w->Ax O Z.n N->r.Z.n<=N->Am O 8->D8 O vs vs'->Az Tryz.prog base O 67 vs' Z w r:=by
 unfold sW at h;split at h
 ·rename_i n;obtain ⟨h1,h2⟩:=H2 h;obtain ⟨h3,h4⟩:=H2 h2;cases h4;have h3:=of_decide_eq_true h3;refine ⟨.refl _,fun O w vs' N hR hF hN hG hv=>?_⟩;cases hv with
  | cons hx hv =>
  cases hv;cases hx;exact Zt Tryz.func67 (by kernel_rfl) rfl rfl hR (Tryz.strconv_Itoa n h3.1 h3.2 w (sV hR hG (BV _ h1)))
 ·cases h
end Go.Proofs.T
