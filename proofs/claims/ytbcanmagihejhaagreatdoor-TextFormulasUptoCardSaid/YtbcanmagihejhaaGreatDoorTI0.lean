/-
  DERIVED: THE SHELF's CONTRACTS AT THIS DUMP, IN PLAIN WORDS (tools/lay-plain.mjs out of 'TItoaShelf.lean', which tools/lay-shelf.mjs wrote): THE SAME DECLARATIONS UNDER THE SAME NAMES: 'import', 'namespace', 'open', 'def', 'theorem' AND NOTHING ELSE: no command of the shelf's: FOR A HAND-IN. Each laying: the table of numbers ('.._ren') and one theorem, a field a fact of the dump's own or the kernel's comparison; each contract: ONE APPLICATION.
-/
import Derived.Shelf.LaysM
import Derived.Shelf.Strconv.Itoa3
import Derived.Ground.NamesProg
import Derived.Test.YtbcanmagihejhaaGreatDoorProg
import Derived.Test.YtbcanmagihejhaaGreatDoorTSan
import Derived.Lib.AppendIntMem
import Derived.Shelf.LaysC
import Derived.Shelf.Strconv.AtoiAll
import Derived.Test.YtbcanmagihejhaaGreatDoorAbD
set_option linter.unusedSimpArgs false
set_option linter.unusedVariables false
namespace Go.Proofs
open Go.Shelf
def Tryz.lays171_ren:Go.Shelf.Ren:=⟨fun|171=>67|243=>112|246=>153|283=>188|284=>189|285=>190|286=>191|129=>212|317=>211|318=>213|319=>214|320=>215|337=>227|338=>228|n=>n,fun|3=>3|9=>9|2=>2|4=>4|171=>218|0=>0|53=>180|37=>43|5=>5|173=>221|212=>235|51=>236|20=>20|213=>237|46=>238|232=>256|233=>257|n=>n,fun|17=>1|18=>4|19=>5|n=>n⟩
theorem Tryz.lays171:Go.Proofs.LaysM.n171 Tryz.prog Tryz.lays171_ren:={
 mixed:=by kernel_rfl
 f129:=Tryz.func212.trans (congrArg some (by kernel_rfl))
 f171:=Tryz.func67.trans (congrArg some (by kernel_rfl))
 f243:=Tryz.func112.trans (congrArg some (by kernel_rfl))
 f246:=Tryz.func153.trans (congrArg some (by kernel_rfl))
 f283:=Tryz.func188.trans (congrArg some (by kernel_rfl))
 f284:=Tryz.func189.trans (congrArg some (by kernel_rfl))
 f285:=Tryz.func190.trans (congrArg some (by kernel_rfl))
 f286:=Tryz.func191.trans (congrArg some (by kernel_rfl))
 f317:=Tryz.func211.trans (congrArg some (by kernel_rfl))
 f318:=Tryz.func213.trans (congrArg some (by kernel_rfl))
 f319:=Tryz.func214.trans (congrArg some (by kernel_rfl))
 f320:=Tryz.func215.trans (congrArg some (by kernel_rfl))
 f337:=Tryz.func227.trans (congrArg some (by kernel_rfl))
 f338:=Tryz.func228.trans (congrArg some (by kernel_rfl))
 t0:=Tryz.underlying0
 a0:=Tryz.isAgg0
 z0:=Tryz.sizeOf0
 v0:=Tryz.zeroValue0
 t2:=Tryz.underlying2
 a2:=Tryz.isAgg2
 z2:=Tryz.sizeOf2
 v2:=Tryz.zeroValue2
 t3:=Tryz.underlying3
 a3:=Tryz.isAgg3
 z3:=Tryz.sizeOf3
 v3:=Tryz.zeroValue3
 t4:=Tryz.underlying4
 a4:=Tryz.isAgg4
 z4:=Tryz.sizeOf4
 v4:=Tryz.zeroValue4
 t5:=Tryz.underlying5
 a5:=Tryz.isAgg5
 z5:=Tryz.sizeOf5
 v5:=Tryz.zeroValue5
 t9:=Tryz.underlying9
 a9:=Tryz.isAgg9
 z9:=Tryz.sizeOf9
 v9:=Tryz.zeroValue9
 t20:=Tryz.underlying20
 a20:=Tryz.isAgg20
 z20:=Tryz.sizeOf20
 v20:=Tryz.zeroValue20
 t37:=Tryz.underlying43
 a37:=Tryz.isAgg43
 z37:=Tryz.sizeOf43
 v37:=Tryz.zeroValue43
 t46:=Tryz.underlying238
 a46:=Tryz.isAgg238
 z46:=Tryz.sizeOf238
 v46:=Tryz.zeroValue238
 t51:=Tryz.underlying236
 a51:=Tryz.isAgg236
 z51:=Tryz.sizeOf236
 v51:=Tryz.zeroValue236
 t53:=Tryz.underlying180
 a53:=Tryz.isAgg180
 z53:=Tryz.sizeOf180
 v53:=Tryz.zeroValue180
 t171:=Tryz.underlying218
 a171:=Tryz.isAgg218
 z171:=Tryz.sizeOf218
 v171:=Tryz.zeroValue218
 t173:=Tryz.underlying221
 a173:=Tryz.isAgg221
 z173:=Tryz.sizeOf221
 v173:=Tryz.zeroValue221
 t212:=Tryz.underlying235
 a212:=Tryz.isAgg235
 z212:=Tryz.sizeOf235
 v212:=Tryz.zeroValue235
 t213:=Tryz.underlying237
 a213:=Tryz.isAgg237
 z213:=Tryz.sizeOf237
 t232:=Tryz.underlying256
 a232:=Tryz.isAgg256
 z232:=Tryz.sizeOf256
 v232:=Tryz.zeroValue256
 t233:=Tryz.underlying257
 a233:=Tryz.isAgg257
 z233:=Tryz.sizeOf257
 v233:=Tryz.zeroValue257
 g17:=by kernel_rfl
 g18:=by kernel_rfl
 g19:=by kernel_rfl
 i0:=by kernel_rfl
 i2:=by kernel_rfl
 i3:=by kernel_rfl
 i4:=by kernel_rfl
 i5:=by kernel_rfl
 i9:=by kernel_rfl
 i20:=by kernel_rfl
 i37:=by kernel_rfl
 i46:=by kernel_rfl
 i51:=by kernel_rfl
 i53:=by kernel_rfl
 i171:=by kernel_rfl
 i173:=by kernel_rfl
 i212:=by kernel_rfl
 i232:=by kernel_rfl
 i233:=by kernel_rfl
 m17:=by kernel_rfl
 m18:=by kernel_rfl
 m19:=by kernel_rfl }
open Go.RowKit Go.Sort Go.Lib in
theorem Tryz.strconv_Itoa (n:Int) (h0: -9223372036854775808<=n) (h1:n<=9223372036854775807) (w:World) (htab:Lib.TabIs Tryz.prog w "internal/strconv.uint64pow10" .u64 Lib.pow10Tab) :
  Calls Tryz.prog 67 #[.int .i64 n] w fun e w'=>e= .returned (.string ⟨(Lib.itoa n).toArray⟩)/\∃ k os,w'=grow (w.drewN k) os:=Any.strconv_Itoa Tryz.lays171 n h0 h1 w htab
end Go.Proofs
namespace Go.Proofs.T
open Go Go.Ab
set_option maxRecDepth 100000
section
variable {P:Program} {base:Env}
theorem call_grow {g:Nat}{fn:Func}(hf:P.funcs[g]? =some fn) (hn:(fn.name== "runtime.NumGoroutine")=false) (hb:fn.body.isSome=true){v:Value}(hs:scal v=true){Z:St}{O:Ab.Place}{w:World}{vs':List Value}(hR:Rel base O Z w)
  (hc:Calls P g ⟨vs'⟩ w fun e w'=>e= .returned v/\∃ k os,w'=Sort.grow (w.drewN k) os):CallOk P base O g vs' Z w ⟨false,v,Z⟩:=by
 refine ⟨fn,hf,hn,.inl ⟨hb,hc.mono ?_⟩⟩
 rintro e w' ⟨rfl,k,os,rfl⟩
 have hB:=Lib.below_grow w.heap.size w (Nat.le_refl _) k os
 have hsz:=Lib.size_grow w k os
 have hsame:∀ c,c<w.heap.size->(Sort.grow (w.drewN k) os).heap[c]? =w.heap[c]? :=fun c hc=>Lib.heap_grow_old w k os c hc
 exact ⟨v,O,rfl,⟨hR.fresh,fun b q B h1 h2=>(hR.sits b q B h1 h2).mono (Place.le_refl _) (hsame _ (hR.dom b q h1)),fun b q hb=>Nat.lt_of_lt_of_le (hR.dom b q hb) hsz,hR.own,hR.sep,hR.low.next hsz fun c hc=>hsame c (Nat.lt_of_lt_of_le hc hR.low.1)⟩,
  ⟨fun _ _=>rfl,Nat.le_refl _,hsz,fun c hc _=>hsame c hc,fun b q B h1 h2 _=>⟨b,q,B,h1,rfl,h2,fun h=>h⟩,⟨rfl,rfl,rfl⟩,fun _ _ _=>rfl⟩,.scal hs⟩
end
theorem pows_tab:pows=Lib.pow10Tab.map fun z=>Value.int .u64 z:=by kernel_rfl
theorem pows_scal:∀ v∈pows,∃ n,v= .int .u64 n:=by
 intro v hv
 rw [pows_tab] at hv
 obtain ⟨n,-,rfl⟩:=List.mem_map.1 hv
 exact ⟨n,rfl⟩
theorem tab_of {base:Env}{O:Ab.Place}{Z:St}{w:World}(hR:Rel base O Z w) (hG:Glob O 8) (hr:Z.read 1 0 20=some pows):Lib.TabIs Tryz.prog w "internal/strconv.uint64pow10" .u64 Lib.pow10Tab:=by
 obtain ⟨B,hB,hs⟩:=ob_eq (show ob (Z.rblk 1) (fun B=>sub B.cells 0 20)=some pows from hr)
 obtain ⟨m,h0,hm⟩:=hG 1 om
 obtain rfl:=hm rfl rfl
 obtain ⟨s1,s2⟩:=sub_eq hs
 obtain ⟨arr,e,lo,hi,a1,a2,a3,a4,a5,a6⟩:=hR.row 1 _ B h0 hB
 have hg:Tryz.prog.globalNamed "internal/strconv.uint64pow10"=some 1:=by kernel_rfl
 have hsz:arr.size=20:=a2
 have harr:arr=(Lib.pow10Tab.map fun z=>Value.int .u64 z).toArray:=by
  rw [<- pows_tab]
  refine Array.ext (by rw [hsz];rfl) fun i hi1 hi2=>?_
  have hp:pows[i]? =some (pows[i]'(by have:pows.length=20:=rfl;omega)):=List.getElem?_eq_getElem _
  have hv':B.cells[i]? =pows[i]? :=by
   rw [s2,List.drop_zero,List.getElem?_take,if_pos om]
  obtain ⟨n,hn⟩:=pows_scal _ (List.mem_of_getElem? hp)
  rw [hp,hn] at hv'
  obtain ⟨v',b1,b2⟩:=a6 i _ hv'
  have hb1:arr[i]? =some v':=by rw [<- b1];show _=arr[0+i]?;rw [Nat.zero_add]
  have hv:v'= .int .u64 n:=by cases b2 with|scal=>rfl
  rw [Array.getElem?_eq_getElem hi1] at hb1
  have h1:=Option.some.inj hb1
  rw [h1,hv,<- hn]
  rfl
 unfold Lib.TabIs World.var?
 rw [hg]
 show (match w.heap[1]? with|some (.cells cs _ _)=>some cs|_=>none)=_
 have a1':w.heap[1]? =some (.cells arr e (lo,hi)):=a1
 rw [a1',harr]
noncomputable def itoF (vs:List Value) (Z:St):Option CR:=match vs with
 | [.int .i64 n]=>bb (sameRow (Z.read 1 0 20) (some pows)) (bb (decide (-9223372036854775808<=n/\n<=9223372036854775807)) (some ⟨false,.string ⟨(Lib.itoa n).toArray⟩,Z⟩))
 | _=>none
theorem itoF_ok {base:Env}{vs:List Value}{Z:St}{r:CR}(hsame:∀ x:Option (List Value),sameRow x (some pows)=true->x=some pows) (h:itoF vs Z=some r):Adv Z r.Z/\∀ O w vs' N,Rel base O Z w->Free O Z.n N->r.Z.n<=N->Glob O 8->VsRel O vs vs'->CallOk Tryz.prog base O 67 vs' Z w r:=by
 unfold itoF at h
 split at h
 ·rename_i n
  obtain ⟨h1,h2⟩:=bb_eq h
  obtain ⟨h3,h4⟩:=bb_eq h2
  cases h4
  have h3:=of_decide_eq_true h3
  refine ⟨.refl _,fun O w vs' N hR hF hN hG hv=>?_⟩
  cases hv with
  | cons hx hv =>
  cases hv
  cases hx
  exact call_grow Tryz.func67 (by kernel_rfl) rfl rfl hR (Tryz.strconv_Itoa n h3.1 h3.2 w (tab_of hR hG (hsame _ h1)))
 ·cases h
end Go.Proofs.T
namespace Go.Proofs
open Go.Shelf
def Tryz.lays172_ren:Go.Shelf.Ren:=⟨fun|172=>216|244=>229|245=>230|247=>239|279=>240|280=>241|281=>242|282=>243|287=>245|316=>246|171=>67|205=>247|321=>248|322=>249|243=>112|246=>153|283=>188|284=>189|285=>190|286=>191|129=>212|317=>211|318=>213|319=>214|320=>215|337=>227|338=>228|n=>n,fun|9=>9|3=>3|75=>118|76=>119|4=>4|5=>5|167=>258|37=>43|0=>0|85=>259|2=>2|168=>261|53=>180|175=>267|46=>238|210=>271|127=>174|145=>276|143=>274|21=>21|171=>218|173=>221|212=>235|51=>236|20=>20|213=>237|232=>256|233=>257|80=>125|n=>n,fun|15=>6|16=>7|17=>1|18=>4|19=>5|n=>n⟩
theorem Tryz.lays172:Go.Proofs.LaysC.n172 Tryz.prog Tryz.lays172_ren:={
 mixed:=by kernel_rfl
 f129:=Tryz.func212.trans (congrArg some (by kernel_rfl))
 f171:=Tryz.func67.trans (congrArg some (by kernel_rfl))
 f172:=Tryz.func216.trans (congrArg some (by kernel_rfl))
 f205:=Tryz.func247.trans (congrArg some (by kernel_rfl))
 f243:=Tryz.func112.trans (congrArg some (by kernel_rfl))
 f244:=Tryz.func229.trans (congrArg some (by kernel_rfl))
 f245:=Tryz.func230.trans (congrArg some (by kernel_rfl))
 f246:=Tryz.func153.trans (congrArg some (by kernel_rfl))
 f247:=Tryz.func239.trans (congrArg some (by kernel_rfl))
 f279:=Tryz.func240.trans (congrArg some (by kernel_rfl))
 f280:=Tryz.func241.trans (congrArg some (by kernel_rfl))
 f281:=Tryz.func242.trans (congrArg some (by kernel_rfl))
 f282:=Tryz.func243.trans (congrArg some (by kernel_rfl))
 f283:=Tryz.func188.trans (congrArg some (by kernel_rfl))
 f284:=Tryz.func189.trans (congrArg some (by kernel_rfl))
 f285:=Tryz.func190.trans (congrArg some (by kernel_rfl))
 f286:=Tryz.func191.trans (congrArg some (by kernel_rfl))
 f287:=Tryz.func245.trans (congrArg some (by kernel_rfl))
 f316:=Tryz.func246.trans (congrArg some (by kernel_rfl))
 f317:=Tryz.func211.trans (congrArg some (by kernel_rfl))
 f318:=Tryz.func213.trans (congrArg some (by kernel_rfl))
 f319:=Tryz.func214.trans (congrArg some (by kernel_rfl))
 f320:=Tryz.func215.trans (congrArg some (by kernel_rfl))
 f321:=Tryz.func248.trans (congrArg some (by kernel_rfl))
 f322:=Tryz.func249.trans (congrArg some (by kernel_rfl))
 f337:=Tryz.func227.trans (congrArg some (by kernel_rfl))
 f338:=Tryz.func228.trans (congrArg some (by kernel_rfl))
 t0:=Tryz.underlying0
 a0:=Tryz.isAgg0
 z0:=Tryz.sizeOf0
 v0:=Tryz.zeroValue0
 t2:=Tryz.underlying2
 a2:=Tryz.isAgg2
 z2:=Tryz.sizeOf2
 v2:=Tryz.zeroValue2
 t3:=Tryz.underlying3
 a3:=Tryz.isAgg3
 z3:=Tryz.sizeOf3
 v3:=Tryz.zeroValue3
 t4:=Tryz.underlying4
 a4:=Tryz.isAgg4
 z4:=Tryz.sizeOf4
 v4:=Tryz.zeroValue4
 t5:=Tryz.underlying5
 a5:=Tryz.isAgg5
 z5:=Tryz.sizeOf5
 v5:=Tryz.zeroValue5
 t9:=Tryz.underlying9
 a9:=Tryz.isAgg9
 z9:=Tryz.sizeOf9
 v9:=Tryz.zeroValue9
 t20:=Tryz.underlying20
 a20:=Tryz.isAgg20
 z20:=Tryz.sizeOf20
 v20:=Tryz.zeroValue20
 t21:=Tryz.underlying21
 a21:=Tryz.isAgg21
 z21:=Tryz.sizeOf21
 v21:=Tryz.zeroValue21
 t37:=Tryz.underlying43
 a37:=Tryz.isAgg43
 z37:=Tryz.sizeOf43
 v37:=Tryz.zeroValue43
 t46:=Tryz.underlying238
 a46:=Tryz.isAgg238
 z46:=Tryz.sizeOf238
 v46:=Tryz.zeroValue238
 t51:=Tryz.underlying236
 a51:=Tryz.isAgg236
 z51:=Tryz.sizeOf236
 v51:=Tryz.zeroValue236
 t53:=Tryz.underlying180
 a53:=Tryz.isAgg180
 z53:=Tryz.sizeOf180
 v53:=Tryz.zeroValue180
 t75:=Tryz.underlying118
 a75:=Tryz.isAgg118
 z75:=Tryz.sizeOf118
 v75:=Tryz.zeroValue118
 t76:=Tryz.underlying119
 a76:=Tryz.isAgg119
 z76:=Tryz.sizeOf119
 v76:=Tryz.zeroValue119
 t85:=Tryz.underlying259
 a85:=Tryz.isAgg259
 z85:=Tryz.sizeOf259
 v85:=Tryz.zeroValue259
 t127:=Tryz.underlying174
 a127:=Tryz.isAgg174
 z127:=Tryz.sizeOf174
 v127:=Tryz.zeroValue174
 t143:=Tryz.underlying274
 a143:=Tryz.isAgg274
 z143:=Tryz.sizeOf274
 v143:=Tryz.zeroValue274
 t145:=Tryz.underlying276
 a145:=Tryz.isAgg276
 z145:=Tryz.sizeOf276
 v145:=Tryz.zeroValue276
 t167:=Tryz.underlying258
 a167:=Tryz.isAgg258
 z167:=Tryz.sizeOf258
 v167:=Tryz.zeroValue258
 t168:=Tryz.underlying261
 a168:=Tryz.isAgg261
 z168:=Tryz.sizeOf261
 v168:=Tryz.zeroValue261
 t171:=Tryz.underlying218
 a171:=Tryz.isAgg218
 z171:=Tryz.sizeOf218
 v171:=Tryz.zeroValue218
 t173:=Tryz.underlying221
 a173:=Tryz.isAgg221
 z173:=Tryz.sizeOf221
 v173:=Tryz.zeroValue221
 t175:=Tryz.underlying267
 a175:=Tryz.isAgg267
 z175:=Tryz.sizeOf267
 v175:=Tryz.zeroValue267
 t210:=Tryz.underlying271
 a210:=Tryz.isAgg271
 z210:=Tryz.sizeOf271
 v210:=Tryz.zeroValue271
 t212:=Tryz.underlying235
 a212:=Tryz.isAgg235
 z212:=Tryz.sizeOf235
 v212:=Tryz.zeroValue235
 t213:=Tryz.underlying237
 a213:=Tryz.isAgg237
 z213:=Tryz.sizeOf237
 t232:=Tryz.underlying256
 a232:=Tryz.isAgg256
 z232:=Tryz.sizeOf256
 v232:=Tryz.zeroValue256
 t233:=Tryz.underlying257
 a233:=Tryz.isAgg257
 z233:=Tryz.sizeOf257
 v233:=Tryz.zeroValue257
 g15:=by kernel_rfl
 g16:=by kernel_rfl
 g17:=by kernel_rfl
 g18:=by kernel_rfl
 g19:=by kernel_rfl
 t80:=Tryz.underlying125
 a80:=Tryz.isAgg125
 z80:=Tryz.sizeOf125
 v80:=Tryz.zeroValue125
 i0:=by kernel_rfl
 i2:=by kernel_rfl
 i3:=by kernel_rfl
 i4:=by kernel_rfl
 i5:=by kernel_rfl
 i9:=by kernel_rfl
 i20:=by kernel_rfl
 i21:=by kernel_rfl
 i37:=by kernel_rfl
 i46:=by kernel_rfl
 i51:=by kernel_rfl
 i53:=by kernel_rfl
 i75:=by kernel_rfl
 i76:=by kernel_rfl
 i80:=by kernel_rfl
 i85:=by kernel_rfl
 i127:=by kernel_rfl
 i143:=by kernel_rfl
 i145:=by kernel_rfl
 i167:=by kernel_rfl
 i168:=by kernel_rfl
 i171:=by kernel_rfl
 i173:=by kernel_rfl
 i175:=by kernel_rfl
 i210:=by kernel_rfl
 i212:=by kernel_rfl
 i232:=by kernel_rfl
 i233:=by kernel_rfl
 m15:=by kernel_rfl
 m16:=by kernel_rfl
 m17:=by kernel_rfl
 m18:=by kernel_rfl
 m19:=by kernel_rfl
 c0:=by kernel_rfl
 c2:=by kernel_rfl
 c3:=by kernel_rfl
 c4:=by kernel_rfl
 c5:=by kernel_rfl
 c9:=by kernel_rfl
 c20:=by kernel_rfl
 c21:=by kernel_rfl
 c37:=by kernel_rfl
 c46:=by kernel_rfl
 c51:=by kernel_rfl
 c53:=by kernel_rfl
 c75:=by kernel_rfl
 c76:=by kernel_rfl
 c80:=by kernel_rfl
 c85:=by kernel_rfl
 c127:=by kernel_rfl
 c143:=by kernel_rfl
 c145:=by kernel_rfl
 c167:=by kernel_rfl
 c168:=by kernel_rfl
 c171:=by kernel_rfl
 c173:=by kernel_rfl
 c175:=by kernel_rfl
 c210:=by kernel_rfl
 c212:=by kernel_rfl
 c213:=by kernel_rfl
 c232:=by kernel_rfl
 c233:=by kernel_rfl }
end Go.Proofs
namespace Go.Proofs.T
open Go Go.Ab
set_option maxRecDepth 100000
def valN (s:List UInt8):Nat:=s.foldl (fun n c=>10*n+(c.toNat-48)) 0
def dg (c:UInt8):Bool:=decide (48<=c.toNat)&&decide (c.toNat<=57)
theorem foldl_ge:∀ (l:List UInt8) (a:Nat),a<=l.foldl (fun n c=>10*n+(c.toNat-48)) a
 | [],a=>Nat.le_refl _
 | c::r,a=>Nat.le_trans (show a<=10*a+(c.toNat-48) by omega) (foldl_ge r _)
theorem uint_foldl:∀ (l:List UInt8) (a:Nat),l.all dg=true->Lib.parseUint10 a l=if l.foldl (fun n c=>10*n+(c.toNat-48)) a<18446744073709551616\/l=[] then .ok (l.foldl (fun n c=>10*n+(c.toNat-48)) a) else .range
 | [],a,_=>by rw [if_pos (.inr rfl)];rfl
 | c::r,a,h=>by
   rw [List.all_cons,Bool.and_eq_true] at h
   have hc:=h.1
   unfold dg at hc
   rw [Bool.and_eq_true,decide_eq_true_iff,decide_eq_true_iff] at hc
   have hge:=foldl_ge r (10*a+(c.toNat-48))
   have ecom:a*10+(c.toNat-48)=10*a+(c.toNat-48):=om
   rw [List.foldl_cons]
   unfold Lib.parseUint10
   rw [if_pos hc,ecom]
   by_cases h1:1844674407370955162<=a
   ·rw [if_pos h1,if_neg]
    rintro (h|h)
    ·omega
    ·cases h
   ·rw [if_neg h1]
    by_cases h2:18446744073709551616<=10*a+(c.toNat-48)
    ·rw [if_pos h2,if_neg]
     rintro (h|h)
     ·omega
     ·cases h
    ·rw [if_neg h2,uint_foldl r _ h.2]
     cases r with
     | nil=>rw [if_pos (.inr rfl),if_pos (.inl (by show 10*a+(c.toNat-48)<_;omega))]
     | cons d t =>
       by_cases h3:(d::t).foldl (fun n c=>10*n+(c.toNat-48)) (10*a+(c.toNat-48))<18446744073709551616
       ·rw [if_pos (.inl h3),if_pos (.inl h3)]
       ·rw [if_neg (by rintro (h|h);exact h3 h;cases h),if_neg (by rintro (h|h);exact h3 h;cases h)]
theorem atoi_digs {s:List UInt8}(h:s.all dg=true) (h0:s≠[]):Lib.atoiAll s=if valN s<9223372036854775808 then .ok (valN s:Nat) else .range:=by
 cases s with
 | nil=>exact absurd rfl h0
 | cons c r =>
   have hc:=h
   rw [List.all_cons,Bool.and_eq_true] at hc
   have hc:=hc.1
   unfold dg at hc
   rw [Bool.and_eq_true,decide_eq_true_iff,decide_eq_true_iff] at hc
   rw [Lib.atoiAll_plain c r om om]
   unfold Lib.parseMag
   rw [if_neg (by simp),uint_foldl _ _ h]
   have ev:(c::r).foldl (fun n c=>10*n+(c.toNat-48)) 0=valN (c::r):=rfl
   rw [ev]
   by_cases h1:valN (c::r)<18446744073709551616
   ·rw [if_pos (Or.inl h1)]
    unfold Lib.signless
    by_cases h2:valN (c::r)<9223372036854775808
    ·rw [if_pos h2];simp only;rw [if_neg om]
    ·rw [if_neg h2];simp only;rw [if_pos om]
   ·rw [if_neg (by rintro (h|h);exact h1 h;cases h),if_neg om]
    rfl
theorem sat_digs {s:List UInt8}(h:s.all dg=true) (h0:s≠[]):Lib.atoiSat s=9223372036854775807:=by
 cases s with
 | nil=>exact absurd rfl h0
 | cons c r =>
   have hc:=h
   rw [List.all_cons,Bool.and_eq_true] at hc
   have hc:=hc.1
   unfold dg at hc
   rw [Bool.and_eq_true,decide_eq_true_iff,decide_eq_true_iff] at hc
   exact Lib.atoiSat_other c r om
section
variable {P:Program} {base:Env}
theorem rel_newAt {O:Ab.Place}{Z:St}{w w':World}(h:Rel base O Z w) (hf:O Z.n=none){N:Nat}{arr:Array Value}{e:TypeId}(hN:w.heap.size<=N) (hnew:w'.heap[N]? =some (.cells arr e (0,0))) (hb:Go.RowKit.Below w.heap.size w w') :
  Rel base (O.put Z.n ⟨N,0,arr.size⟩) (Z.new []) w'/\Fram O Z w (O.put Z.n ⟨N,0,arr.size⟩) (Z.new []) w':=by
 have hNl:N<w'.heap.size:=by
  rcases Nat.lt_or_ge N w'.heap.size with hh|hh
  ·exact hh
  ·rw [Array.getElem?_eq_none hh] at hnew;cases hnew
 refine ⟨h.put hf ⟨arr,e,0,0,hnew,rfl,by show 0+0<=arr.size;omega,fun _=> .inr (Nat.le_refl _),fun v hv=>absurd hv (by simp),fun i v hi=>absurd hi (by simp)⟩ hb.size (fun c hc _=>hb.block c hc) hNl (Nat.le_trans h.low.1 hN) (fun b q' hb' _=>by have:=h.dom b q' hb';show q'.c≠N;omega) Typed.none,⟨?_,?_,hb.size,fun c hc _=>hb.block c hc,?_,⟨hb.os,hb.tape,hb.output⟩,fun b h1 _=>Tr.get_set_ne _ _ om⟩⟩
 ·intro b hb
  refine Place.put_ne _ _ ?_
  rcases hb with hb|hb
  ·omega
  ·change Z.n+1<=b at hb;omega
 ·show Z.n<=Z.n+1;omega
 ·intro b q B hb hB hcs
  by_cases hbn:b=Z.n
  ·subst hbn;rw [Ab.Place.put_same] at hb;cases hb;change N<w.heap.size at hcs;omega
  ·rw [Ab.Place.put_ne _ _ hbn] at hb;rw [new_blk_ne _ _ hbn] at hB;exact ⟨b,q,B,hb,rfl,hB,fun h=>h⟩
end
def ErrVar (w:World):Prop:=∃ ev,w.cell? ⟨7,0,none⟩=some ev/\(ev= .nilIface\/∃ te pe,ev= .iface te pe)
theorem ErrVar.low {base:Env}{w:World}(h:ErrVar base.w0) (hl:8<=base.lo) (hw:base.Low w):ErrVar w:=by
 obtain ⟨ev,h1,h2⟩:=h
 refine ⟨ev,?_,h2⟩
 have e:=hw.2 7 om
 unfold World.cell? at h1 ⊢
 dsimp only at h1 ⊢
 rw [e]
 exact h1
noncomputable def atoF (vs:List Value) (Z:St):Option CR:=match vs with
 | [.string s]=>bb (s.data.toList.all dg&&decide (s.data.toList≠[])&&decide (s.size<=1000000000)) (bi (decide (valN s.data.toList<9223372036854775808)) (some ⟨false,.tuple ⟨[.int .i64 (valN s.data.toList:Nat),.nilIface]⟩,Z⟩)
    (some ⟨false,.tuple ⟨[.int .i64 9223372036854775807,.iface 261 (.pointer (some ⟨Z.n,0,none⟩))]⟩,Z.new []⟩))
 | _=>none
theorem atoF_ok {base:Env}(hl:8<=base.lo) (hE:ErrVar base.w0){vs:List Value}{Z:St}{r:CR}(h:atoF vs Z=some r):Adv Z r.Z/\∀ O w vs' N,Rel base O Z w->Free O Z.n N->r.Z.n<=N->Glob O 8->VsRel O vs vs'->CallOk Tryz.prog base O 216 vs' Z w r:=by
 unfold atoF at h
 split at h
 ·rename_i s
  obtain ⟨h1,h2⟩:=bb_eq h
  rw [Bool.and_eq_true,Bool.and_eq_true,decide_eq_true_iff,decide_eq_true_iff] at h1
  obtain ⟨⟨hd,hne⟩,hsz⟩:=h1
  have hat:=atoi_digs hd hne
  cases hv:decide (valN s.data.toList<9223372036854775808) with
  | true =>
    rw [hv] at h2
    rw [if_pos (of_decide_eq_true hv)] at hat
    cases h2
    refine ⟨.refl _,fun O w vs' N hR hF hN hG hv=>?_⟩
    cases hv with
    | cons hx hv =>
    cases hv
    cases hx
    refine callOk_below (v':= .tuple #[.int .i64 (valN s.data.toList:Nat),.nilIface]) Tryz.func216 rfl rfl hR ((Any.strconv_Atoi_ok Tryz.lays172 s om _ hat w).mono ?_) (.tuple (.cons (.scal rfl) (.cons (.scal rfl) .nil)))
    rintro e w' ⟨rfl,hw⟩
    refine ⟨rfl,?_⟩
    rcases hw with rfl|⟨t,rfl⟩
    ·exact .refl _ _
    ·exact Lib.bytesWorld_below _ _ _
  | false =>
    rw [hv] at h2
    rw [if_neg (of_decide_eq_false hv)] at hat
    cases h2
    refine ⟨Adv.new _ _,fun O w vs' N hR hF hN hG hv=>?_⟩
    cases hv with
    | cons hx hv =>
    cases hv
    cases hx
    obtain ⟨ev,hc,hev⟩:=hE.low hl hR.low
    refine ⟨Tryz.f216,Tryz.func216,rfl,.inl ⟨rfl,(Any.strconv_Atoi_range Tryz.lays172 s om hat ev w hc hev).mono ?_⟩⟩
    rintro e w' ⟨M,rfl,hM,hnew,hbl⟩
    have hfree:O Z.n=none:=hF _ (Nat.le_refl _) (by have:Z.n+1<=N:=hN;omega)
    obtain ⟨k1,k2⟩:=rel_newAt hR hfree hM hnew hbl
    refine ⟨_,_,rfl,k1,k2,?_⟩
    rw [sat_digs hd hne]
    exact .tuple (.cons (.scal rfl) (.cons (.iface (.ptr (Ab.Place.put_same _ _ _))) .nil))
 ·cases h
end Go.Proofs.T
