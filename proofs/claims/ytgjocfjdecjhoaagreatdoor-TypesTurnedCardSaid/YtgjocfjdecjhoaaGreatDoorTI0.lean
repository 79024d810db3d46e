/-
  fO: THE fP TW AT Ag1 Ag2, IN AD4 AD5 (tools/lay-plain.mjs out of 'TItoaShelf.AD6, which tools/lay-AD7.mjs wrote): THE nM Ma AD8 THE nM AD9: 'import', 'namespace', 'open', 'def', 'theorem' AND fQ Ag3: no command of the fS: FOR A Ag4-IN. Ag5 nN: the table of numbers ('..AE0) and one theorem, a field a fact of the dump's own or the kernel's IQ; each Xj: ONE OU.
-/
import Derived.Shelf.Strconv.Itoa3
import Derived.Test.YtgjocfjdecjhoaaGreatDoorTSan
import Derived.Lib.AppendIntMem
import Derived.Shelf.Strconv.AtoiAll
set_option linter.unusedSimpArgs false
set_option linter.unusedVariables false
set_option linter.defProp false
set_option maxHeartbeats 32000000
set_option maxRecDepth 100000
namespace Go.Proofs
open Go.Shelf
def Tryz.bC:Go.Shelf.Ren:=⟨fun|171=>35|243=>78|246=>140|283=>186|284=>187|285=>188|286=>189|129=>216|317=>215|318=>217|319=>218|320=>219|337=>248|338=>249|n=>n,fun|3=>3|9=>9|2=>2|4=>4|171=>224|0=>0|53=>101|37=>199|5=>5|173=>227|212=>253|51=>254|20=>20|213=>255|46=>182|232=>286|233=>287|n=>n,fun|17=>0|18=>3|19=>4|n=>n⟩
def Tryz.AB3:Go.Proofs.LaysM.n171 Tryz.prog Tryz.bC:={
 mixed:=by kernel_rfl
 f129:=Tryz.func216.trans (congrArg some (by kernel_rfl))
 f171:=Tryz.func35.trans (congrArg some (by kernel_rfl))
 f243:=Tryz.func78.trans (congrArg some (by kernel_rfl))
 f246:=Tryz.func140.trans (congrArg some (by kernel_rfl))
 f283:=Tryz.func186.trans (congrArg some (by kernel_rfl))
 f284:=Tryz.func187.trans (congrArg some (by kernel_rfl))
 f285:=Tryz.func188.trans (congrArg some (by kernel_rfl))
 f286:=Tryz.func189.trans (congrArg some (by kernel_rfl))
 f317:=Tryz.func215.trans (congrArg some (by kernel_rfl))
 f318:=Tryz.func217.trans (congrArg some (by kernel_rfl))
 f319:=Tryz.func218.trans (congrArg some (by kernel_rfl))
 f320:=Tryz.func219.trans (congrArg some (by kernel_rfl))
 f337:=Tryz.func248.trans (congrArg some (by kernel_rfl))
 f338:=Tryz.func249.trans (congrArg some (by kernel_rfl))
 t0:=Tryz.underlying0
 a0:=Tryz.isAgg0
 z0:=Tryz.sizeOf0
 v0:=Tryz.zeroValue0
 t2:=Tryz.underlying2
 a2:=Tryz.isAgg2
 z2:=Tryz.sizeOf2
 v2:=Tryz.zeroValue2
 t3:=Tryz.underlying3
 a3:=Tryz.isAgg3
 z3:=Tryz.sizeOf3
 v3:=Tryz.zeroValue3
 t4:=Tryz.underlying4
 a4:=Tryz.isAgg4
 z4:=Tryz.sizeOf4
 v4:=Tryz.zeroValue4
 t5:=Tryz.underlying5
 a5:=Tryz.isAgg5
 z5:=Tryz.sizeOf5
 v5:=Tryz.zeroValue5
 t9:=Tryz.underlying9
 a9:=Tryz.isAgg9
 z9:=Tryz.sizeOf9
 v9:=Tryz.zeroValue9
 t20:=Tryz.underlying20
 a20:=Tryz.isAgg20
 z20:=Tryz.sizeOf20
 v20:=Tryz.zeroValue20
 t37:=Tryz.underlying199
 a37:=Tryz.isAgg199
 z37:=Tryz.sizeOf199
 v37:=Tryz.zeroValue199
 t46:=Tryz.underlying182
 a46:=Tryz.isAgg182
 z46:=Tryz.sizeOf182
 v46:=Tryz.zeroValue182
 t51:=Tryz.underlying254
 a51:=Tryz.isAgg254
 z51:=Tryz.sizeOf254
 v51:=Tryz.zeroValue254
 t53:=Tryz.underlying101
 a53:=Tryz.isAgg101
 z53:=Tryz.sizeOf101
 v53:=Tryz.zeroValue101
 t171:=Tryz.underlying224
 a171:=Tryz.isAgg224
 z171:=Tryz.sizeOf224
 v171:=Tryz.zeroValue224
 t173:=Tryz.underlying227
 a173:=Tryz.isAgg227
 z173:=Tryz.sizeOf227
 v173:=Tryz.zeroValue227
 t212:=Tryz.underlying253
 a212:=Tryz.isAgg253
 z212:=Tryz.sizeOf253
 v212:=Tryz.zeroValue253
 t213:=Tryz.underlying255
 a213:=Tryz.isAgg255
 z213:=Tryz.sizeOf255
 t232:=Tryz.underlying286
 a232:=Tryz.isAgg286
 z232:=Tryz.sizeOf286
 v232:=Tryz.zeroValue286
 t233:=Tryz.underlying287
 a233:=Tryz.isAgg287
 z233:=Tryz.sizeOf287
 v233:=Tryz.zeroValue287
 g17:=by kernel_rfl
 g18:=by kernel_rfl
 g19:=by kernel_rfl
 i0:=by kernel_rfl
 i2:=by kernel_rfl
 i3:=by kernel_rfl
 i4:=by kernel_rfl
 i5:=by kernel_rfl
 i9:=by kernel_rfl
 i20:=by kernel_rfl
 i37:=by kernel_rfl
 i46:=by kernel_rfl
 i51:=by kernel_rfl
 i53:=by kernel_rfl
 i171:=by kernel_rfl
 i173:=by kernel_rfl
 i212:=by kernel_rfl
 i232:=by kernel_rfl
 i233:=by kernel_rfl
 m17:=by kernel_rfl
 m18:=by kernel_rfl
 m19:=by kernel_rfl }
open Go.RowKit Go.Sort Go.Lib in
def Tryz.strconv_Itoa (n:Int) (h0: -9223372036854775808<=n) (h1:n<=9223372036854775807) (w:World) (BK2:Lib.TabIs Tryz.prog w "internal/strconv.uint64pow10" .u64 Lib.pow10Tab) :
  Calls Tryz.prog 35 #[.int .i64 n] w fun e w'=>e= .returned (.string ⟨(Lib.itoa n).toArray⟩)/\∃ k os,w'=grow (w.drewN k) os:=Any.strconv_Itoa Tryz.AB3 n h0 h1 w BK2
end Go.Proofs
namespace Go.Proofs.T
open Go Go.Ab
section
variable {P:Program}{B8:Env}
def jn {g:Nat}{fn:Func}(hf:P.funcs[g]? =some fn) (hn:(fn.name== "runtime.NumGoroutine")=false) (hb:fn.body.isSome=true){v:Value}(hs:I1 v=true){Z:St}{O:Ab.Place}{w:World}{vs':List Value}(hR:Rel B8 O Z w)
  (hc:Calls P g ⟨vs'⟩ w fun e w'=>e= .returned v/\∃ k os,w'=Sort.grow (w.drewN k) os):CG P B8 O g vs' Z w ⟨false,v,Z⟩:=by
 refine⟨fn,hf,hn,.inl ⟨hb,hc.mono ?_⟩⟩;rintro e w' ⟨rfl,k,os,rfl⟩;have hB:=Lib.below_grow w.heap.size w nL k os;have hsz:=Lib.size_grow w k os;have Dk:∀ c,c<w.heap.size->(Sort.grow (w.drewN k) os).heap[c]? =w.heap[c]? :=fun c hc=>Lib.heap_grow_old w k os c hc
 exact⟨v,O,rfl,⟨hR.fresh,fun b q B h1 h2=>(hR.Hm b q B h1 h2).mono (Place.le_refl _) (Dk _ (hR.dom b q h1)),fun b q hb=>z5z (hR.dom b q hb) hsz,hR.own,hR.sep,hR.low.next hsz fun c hc=>Dk c (z5z hc hR.low.1)⟩,
  ⟨fun _ _=>rfl,BF _,hsz,fun c hc _=>Dk c hc,fun b q B h1 h2 _=>⟨b,q,B,h1,rfl,h2,fun h=>h⟩,⟨rfl,rfl,rfl⟩,fun _ _ _=>rfl⟩,.I1 hs⟩
end
def YU:AE=Lib.pow10Tab.map fun z=>Value.int .u64 z:=kR
def jo:∀ v∈AE,∃ n,v= .int .u64 n:=by
 intro v hv;rw[YU]at hv;obtain⟨n,-,rfl⟩:=cO.1 hv;exact⟨n,rfl⟩
def AN8 {B8:Env}{O:Ab.Place}{Z:St}{w:World}(hR:Rel B8 O Z w) (hG:Bm O 10) (hr:Z.read 0 0 20=some AE):Lib.TabIs Tryz.prog w "internal/strconv.uint64pow10" .u64 Lib.pow10Tab:=by
 obtain⟨B,hB,hs⟩:=A8 (show ob (Z.GK 0) (fun B=>sub B.cells 0 20)=some AE from hr);obtain⟨m,h0,hm⟩:=hG 0 om;obtain rfl:=hm rfl rfl;obtain⟨s1,s2⟩:=sub_eq hs;obtain⟨arr,e,lo,hi,a1,a2,a3,a4,a5,a6⟩:=hR.row 0 _ B h0 hB;have hg:Tryz.prog.globalNamed "internal/strconv.uint64pow10"=some 0:=kR
 have hsz:arr.size=20:=a2;have Kc:arr=(Lib.pow10Tab.map fun z=>Value.int .u64 z).toArray:=by
  rw[<- YU];refine Array.ext (by rw[hsz];rfl) fun i hi1 hi2=>?_;have hp:AE[i]? =some (AE[i]'(by have:AE.length=20:=rfl;omega)):=List.getElem?_eq_getElem _;have hv':B.cells[i]? =AE[i]? :=by
   rw[s2,Sv,List.getElem?_take,z1z om]
  obtain⟨n,hn⟩:=jo _ (Bs hp);rw[hp,hn]at hv';obtain⟨v',b1,b2⟩:=a6 i _ hv';have hb1:arr[i]? =some v':=by rw[<- b1];show _=arr[0+i]?;rw[HC]
  have hv:v'= .int .u64 n:=by cases b2 with|I1=>rfl
  rw[Array.getElem?_eq_getElem hi1]at hb1;have h1:=z8z hb1;rw[h1,hv,<- hn];rfl
 unfold Lib.TabIs World.var?;rw[hg];show(match w.heap[0]? with|some (.cells cs _ _)=>some cs|_=>none)=_;have a1':w.heap[0]? =some (.cells arr e (lo,hi)):=a1;rw[a1',Kc]
noncomputable def AN9 (vs:List Value) (Z:St):Option CR:=match vs with
 | [.int .i64 n]=>bb (CJ (Z.read 0 0 20) (some AE)) (bb (decide (-9223372036854775808<=n/\n<=9223372036854775807)) (some ⟨false,.string ⟨(Lib.itoa n).toArray⟩,Z⟩))
 |_=>none
def wW {B8:Env}{vs:List Value}{Z:St}{r:CR}(Dk:∀ x:Option (List Value),CJ x (some AE)=true->x=some AE) (h:AN9 vs Z=some r):Adv Z r.Z/\∀ O w vs' N,Rel B8 O Z w->Cc O Z.n N->r.Z.n<=N->Bm O 10->E7 O vs vs'->CG Tryz.prog B8 O 35 vs' Z w r:=by
 unfold AN9 at h;split at h
 ·rename_i n;obtain⟨h1,h2⟩:=G7 h;obtain⟨h3,h4⟩:=G7 h2;cases h4;have h3:=z6z h3;refine⟨.refl _,fun O w vs' N hR hF hN hG hv=>?_⟩;cases hv with
  |cons hx hv=>
  cases hv;cases hx;exact jn Tryz.func35 kR rfl rfl hR (Tryz.strconv_Itoa n h3.1 h3.2 w (AN8 hR hG (Dk _ h1)))
 ·cases h
end Go.Proofs.T
namespace Go.Proofs
open Go.Shelf
def Tryz.Xv:Go.Shelf.Ren:=⟨fun|172=>290|244=>297|245=>298|247=>299|279=>300|280=>301|281=>302|282=>303|287=>304|316=>305|171=>35|205=>306|321=>307|322=>308|243=>78|246=>140|283=>186|284=>187|285=>188|286=>189|129=>216|317=>215|318=>217|319=>218|320=>219|337=>248|338=>249|n=>n,fun|9=>9|3=>3|75=>203|76=>204|4=>4|5=>5|167=>303|37=>199|0=>0|85=>304|2=>2|168=>306|53=>101|175=>309|46=>182|210=>313|127=>234|145=>318|143=>316|21=>21|171=>224|173=>227|212=>253|51=>254|20=>20|213=>255|232=>286|233=>287|80=>209|n=>n,fun|15=>8|16=>9|17=>0|18=>3|19=>4|n=>n⟩
def Tryz.fl:Go.Proofs.LaysC.n172 Tryz.prog Tryz.Xv:={
 mixed:=by kernel_rfl
 f129:=Tryz.func216.trans (congrArg some (by kernel_rfl))
 f171:=Tryz.func35.trans (congrArg some (by kernel_rfl))
 f172:=Tryz.func290.trans (congrArg some (by kernel_rfl))
 f205:=Tryz.func306.trans (congrArg some (by kernel_rfl))
 f243:=Tryz.func78.trans (congrArg some (by kernel_rfl))
 f244:=Tryz.func297.trans (congrArg some (by kernel_rfl))
 f245:=Tryz.func298.trans (congrArg some (by kernel_rfl))
 f246:=Tryz.func140.trans (congrArg some (by kernel_rfl))
 f247:=Tryz.func299.trans (congrArg some (by kernel_rfl))
 f279:=Tryz.func300.trans (congrArg some (by kernel_rfl))
 f280:=Tryz.func301.trans (congrArg some (by kernel_rfl))
 f281:=Tryz.func302.trans (congrArg some (by kernel_rfl))
 f282:=Tryz.func303.trans (congrArg some (by kernel_rfl))
 f283:=Tryz.func186.trans (congrArg some (by kernel_rfl))
 f284:=Tryz.func187.trans (congrArg some (by kernel_rfl))
 f285:=Tryz.func188.trans (congrArg some (by kernel_rfl))
 f286:=Tryz.func189.trans (congrArg some (by kernel_rfl))
 f287:=Tryz.func304.trans (congrArg some (by kernel_rfl))
 f316:=Tryz.func305.trans (congrArg some (by kernel_rfl))
 f317:=Tryz.func215.trans (congrArg some (by kernel_rfl))
 f318:=Tryz.func217.trans (congrArg some (by kernel_rfl))
 f319:=Tryz.func218.trans (congrArg some (by kernel_rfl))
 f320:=Tryz.func219.trans (congrArg some (by kernel_rfl))
 f321:=Tryz.func307.trans (congrArg some (by kernel_rfl))
 f322:=Tryz.func308.trans (congrArg some (by kernel_rfl))
 f337:=Tryz.func248.trans (congrArg some (by kernel_rfl))
 f338:=Tryz.func249.trans (congrArg some (by kernel_rfl))
 t0:=Tryz.underlying0
 a0:=Tryz.isAgg0
 z0:=Tryz.sizeOf0
 v0:=Tryz.zeroValue0
 t2:=Tryz.underlying2
 a2:=Tryz.isAgg2
 z2:=Tryz.sizeOf2
 v2:=Tryz.zeroValue2
 t3:=Tryz.underlying3
 a3:=Tryz.isAgg3
 z3:=Tryz.sizeOf3
 v3:=Tryz.zeroValue3
 t4:=Tryz.underlying4
 a4:=Tryz.isAgg4
 z4:=Tryz.sizeOf4
 v4:=Tryz.zeroValue4
 t5:=Tryz.underlying5
 a5:=Tryz.isAgg5
 z5:=Tryz.sizeOf5
 v5:=Tryz.zeroValue5
 t9:=Tryz.underlying9
 a9:=Tryz.isAgg9
 z9:=Tryz.sizeOf9
 v9:=Tryz.zeroValue9
 t20:=Tryz.underlying20
 a20:=Tryz.isAgg20
 z20:=Tryz.sizeOf20
 v20:=Tryz.zeroValue20
 t21:=Tryz.underlying21
 a21:=Tryz.isAgg21
 z21:=Tryz.sizeOf21
 v21:=Tryz.zeroValue21
 t37:=Tryz.underlying199
 a37:=Tryz.isAgg199
 z37:=Tryz.sizeOf199
 v37:=Tryz.zeroValue199
 t46:=Tryz.underlying182
 a46:=Tryz.isAgg182
 z46:=Tryz.sizeOf182
 v46:=Tryz.zeroValue182
 t51:=Tryz.underlying254
 a51:=Tryz.isAgg254
 z51:=Tryz.sizeOf254
 v51:=Tryz.zeroValue254
 t53:=Tryz.underlying101
 a53:=Tryz.isAgg101
 z53:=Tryz.sizeOf101
 v53:=Tryz.zeroValue101
 t75:=Tryz.underlying203
 a75:=Tryz.isAgg203
 z75:=Tryz.sizeOf203
 v75:=Tryz.zeroValue203
 t76:=Tryz.underlying204
 a76:=Tryz.isAgg204
 z76:=Tryz.sizeOf204
 v76:=Tryz.zeroValue204
 t85:=Tryz.underlying304
 a85:=Tryz.isAgg304
 z85:=Tryz.sizeOf304
 v85:=Tryz.zeroValue304
 t127:=Tryz.underlying234
 a127:=Tryz.isAgg234
 z127:=Tryz.sizeOf234
 v127:=Tryz.zeroValue234
 t143:=Tryz.underlying316
 a143:=Tryz.isAgg316
 z143:=Tryz.sizeOf316
 v143:=Tryz.zeroValue316
 t145:=Tryz.underlying318
 a145:=Tryz.isAgg318
 z145:=Tryz.sizeOf318
 v145:=Tryz.zeroValue318
 t167:=Tryz.underlying303
 a167:=Tryz.isAgg303
 z167:=Tryz.sizeOf303
 v167:=Tryz.zeroValue303
 t168:=Tryz.underlying306
 a168:=Tryz.isAgg306
 z168:=Tryz.sizeOf306
 v168:=Tryz.zeroValue306
 t171:=Tryz.underlying224
 a171:=Tryz.isAgg224
 z171:=Tryz.sizeOf224
 v171:=Tryz.zeroValue224
 t173:=Tryz.underlying227
 a173:=Tryz.isAgg227
 z173:=Tryz.sizeOf227
 v173:=Tryz.zeroValue227
 t175:=Tryz.underlying309
 a175:=Tryz.isAgg309
 z175:=Tryz.sizeOf309
 v175:=Tryz.zeroValue309
 t210:=Tryz.underlying313
 a210:=Tryz.isAgg313
 z210:=Tryz.sizeOf313
 v210:=Tryz.zeroValue313
 t212:=Tryz.underlying253
 a212:=Tryz.isAgg253
 z212:=Tryz.sizeOf253
 v212:=Tryz.zeroValue253
 t213:=Tryz.underlying255
 a213:=Tryz.isAgg255
 z213:=Tryz.sizeOf255
 t232:=Tryz.underlying286
 a232:=Tryz.isAgg286
 z232:=Tryz.sizeOf286
 v232:=Tryz.zeroValue286
 t233:=Tryz.underlying287
 a233:=Tryz.isAgg287
 z233:=Tryz.sizeOf287
 v233:=Tryz.zeroValue287
 g15:=by kernel_rfl
 g16:=by kernel_rfl
 g17:=by kernel_rfl
 g18:=by kernel_rfl
 g19:=by kernel_rfl
 t80:=Tryz.underlying209
 a80:=Tryz.isAgg209
 z80:=Tryz.sizeOf209
 v80:=Tryz.zeroValue209
 i0:=by kernel_rfl
 i2:=by kernel_rfl
 i3:=by kernel_rfl
 i4:=by kernel_rfl
 i5:=by kernel_rfl
 i9:=by kernel_rfl
 i20:=by kernel_rfl
 i21:=by kernel_rfl
 i37:=by kernel_rfl
 i46:=by kernel_rfl
 i51:=by kernel_rfl
 i53:=by kernel_rfl
 i75:=by kernel_rfl
 i76:=by kernel_rfl
 i80:=by kernel_rfl
 i85:=by kernel_rfl
 i127:=by kernel_rfl
 i143:=by kernel_rfl
 i145:=by kernel_rfl
 i167:=by kernel_rfl
 i168:=by kernel_rfl
 i171:=by kernel_rfl
 i173:=by kernel_rfl
 i175:=by kernel_rfl
 i210:=by kernel_rfl
 i212:=by kernel_rfl
 i232:=by kernel_rfl
 i233:=by kernel_rfl
 m15:=by kernel_rfl
 m16:=by kernel_rfl
 m17:=by kernel_rfl
 m18:=by kernel_rfl
 m19:=by kernel_rfl
 c0:=by kernel_rfl
 c2:=by kernel_rfl
 c3:=by kernel_rfl
 c4:=by kernel_rfl
 c5:=by kernel_rfl
 c9:=by kernel_rfl
 c20:=by kernel_rfl
 c21:=by kernel_rfl
 c37:=by kernel_rfl
 c46:=by kernel_rfl
 c51:=by kernel_rfl
 c53:=by kernel_rfl
 c75:=by kernel_rfl
 c76:=by kernel_rfl
 c80:=by kernel_rfl
 c85:=by kernel_rfl
 c127:=by kernel_rfl
 c143:=by kernel_rfl
 c145:=by kernel_rfl
 c167:=by kernel_rfl
 c168:=by kernel_rfl
 c171:=by kernel_rfl
 c173:=by kernel_rfl
 c175:=by kernel_rfl
 c210:=by kernel_rfl
 c212:=by kernel_rfl
 c213:=by kernel_rfl
 c232:=by kernel_rfl
 c233:=by kernel_rfl }
end Go.Proofs
namespace Go.Proofs.T
open Go Go.Ab
section
variable {s:List UInt8}{Z:St}{w:World}
def GI (s:List UInt8):Nat:=s.foldl (fun n c=>10*n+(c.toNat-48)) 0
def dg (c:UInt8):Bool:=decide (48<=c.toNat)&&decide (c.toNat<=57)
def aD:∀ (l:List UInt8) (a:Nat),a<=l.foldl (fun n c=>10*n+(c.toNat-48)) a
 | [],a=>BF _
 |c::r,a=>AV (show a<=10*a+(c.toNat-48) by omega) (aD r _)
def SR:∀ (l:List UInt8) (a:Nat),l.all dg=true->Lib.parseUint10 a l=if l.foldl (fun n c=>10*n+(c.toNat-48)) a<18446744073709551616\/l=[]then .ok (l.foldl (fun n c=>10*n+(c.toNat-48)) a)else .range
 | [],a,_=>by rw[z1z (.inr rfl)];rfl
 | c::r,a,h=>by
   rw[Xp,Q7]at h;have hc:=h.1;unfold dg at hc;rw[Q7,z3z,z3z]at hc;have hge:=aD r (10*a+(c.toNat-48));have BA6:a*10+(c.toNat-48)=10*a+(c.toNat-48):=om;rw[QB];unfold Lib.parseUint10;rw[z1z hc,BA6];by_cases h1:1844674407370955162<=a
   ·rw[z1z h1,z0z];rintro(h|h)
    ·omega
    ·cases h
   ·rw [z0z h1];by_cases h2:18446744073709551616<=10*a+(c.toNat-48)
    ·rw[z1z h2,z0z];rintro(h|h)
     ·omega
     ·cases h
    ·rw[z0z h2,SR r _ h.2];cases r with
     |nil=>rw[z1z (.inr rfl),z1z (.inl (by show 10*a+(c.toNat-48)<_;omega))]
     | cons d t=>
       by_cases h3:(d::t).foldl (fun n c=>10*n+(c.toNat-48)) (10*a+(c.toNat-48))<18446744073709551616
       ·rw[z1z (.inl h3),z1z (.inl h3)]
       ·rw[z0z (by rintro(h|h);exact h3 h;cases h),z0z (by rintro(h|h);exact h3 h;cases h)]
def lQ (h:s.all dg=true) (h0:s≠[]):Lib.atoiAll s=if GI s<9223372036854775808 then .ok (GI s:Nat)else .range:=by
 cases s with
 |nil=>exact absurd rfl h0
 | cons c r=>
   have hc:=h;rw[Xp,Q7]at hc;have hc:=hc.1;unfold dg at hc;rw[Q7,z3z,z3z]at hc;rw[Lib.atoiAll_plain c r om om];unfold Lib.parseMag;rw[z0z (by simp),SR _ _ h];have ev:(c::r).foldl (fun n c=>10*n+(c.toNat-48)) 0=GI (c::r):=rfl;rw[ev];by_cases h1:GI (c::r)<18446744073709551616
   ·rw[z1z (Or.inl h1)];unfold Lib.signless;by_cases h2:GI (c::r)<9223372036854775808
    ·rw[z1z h2];simp only;rw[z0z om]
    ·rw[z0z h2];simp only;rw[z1z om]
   ·rw[z0z (by rintro(h|h);exact h1 h;cases h),z0z om];rfl
def sn (h:s.all dg=true) (h0:s≠[]):Lib.atoiSat s=9223372036854775807:=by
 cases s with
 |nil=>exact absurd rfl h0
 | cons c r=>
   have hc:=h;rw[Xp,Q7]at hc;have hc:=hc.1;unfold dg at hc;rw[Q7,z3z,z3z]at hc;exact Lib.atoiSat_other c r om
section
variable {P:Program}{B8:Env}
def lR {O:Ab.Place}{w':World}(h:Rel B8 O Z w) (hf:O Z.n=none){N:Nat}{arr:Array Value}{e:TypeId}(hN:w.heap.size<=N) (LL:w'.heap[N]? =some (.cells arr e (0,0))) (hb:Go.RowKit.Below w.heap.size w w'):
  Rel B8 (O.put Z.n ⟨N,0,arr.size⟩) (Z.new []) w'/\X9 O Z w (O.put Z.n ⟨N,0,arr.size⟩) (Z.new []) w':=by
 have hNl:N<w'.heap.size:=by
  rcases AW N w'.heap.size with hh|hh
  ·exact hh
  ·rw[Array.getElem?_eq_none hh]at LL;cases LL
 refine⟨h.put hf ⟨arr,e,0,0,LL,rfl,by show 0+0<=arr.size;omega,fun _=> .inr nL,fun v hv=>absurd hv (by simp),fun i v hi=>absurd hi (by simp)⟩ hb.size (fun c hc _=>hb.block c hc) hNl (AV h.low.1 hN) (fun b q' hb' _=>by have:=h.dom b q' hb';show q'.c≠N;omega) Typed.none,⟨?_,?_,hb.size,fun c hc _=>hb.block c hc,?_,⟨hb.os,hb.tape,hb.output⟩,fun b h1 _=>Tr.L7 _ _ om⟩⟩
 ·intro b hb;refine Place.Ae _ _ ?_;rcases hb with hb|hb
  ·omega
  ·change Z.n+1<=b at hb;omega
 ·show Z.n<=Z.n+1;omega
 ·intro b q B hb hB hcs;by_cases hbn:b=Z.n
  ·subst hbn;rw[Ab.Place.O7]at hb;cases hb;change N<w.heap.size at hcs;omega
  ·rw[Ab.Place.Ae _ _ hbn]at hb;rw[LO _ _ hbn]at hB;exact⟨b,q,B,hb,rfl,hB,fun h=>h⟩
end
def LK (w:World):Prop:=∃ ev,w.cell? ⟨9,0,none⟩=some ev/\(ev= .nilIface\/∃ te pe,ev= .iface te pe)
def LK.low {B8:Env}(h:LK B8.w0) (hl:10<=B8.lo) (hw:B8.Low w):LK w:=by
 obtain⟨ev,h1,h2⟩:=h;refine⟨ev,?_,h2⟩;have e:=hw.2 9 om;unfold World.cell? at h1 ⊢;dsimp only at h1 ⊢;rw[e];exact h1
noncomputable def AQ0 (vs:List Value) (Z:St):Option CR:=match vs with
 | [.string s]=>bb (s.data.toList.all dg&&decide (s.data.toList≠[])&&decide (s.size<=1000000000)) (bi (decide (GI s.data.toList<9223372036854775808)) (some ⟨false,.tuple ⟨[.int .i64 (GI s.data.toList:Nat),.nilIface]⟩,Z⟩)
    (some ⟨false,.tuple ⟨[.int .i64 9223372036854775807,.iface 306 (.pointer (some ⟨Z.n,0,none⟩))]⟩,Z.new []⟩))
 |_=>none
def zO {B8:Env}(hl:10<=B8.lo) (hE:LK B8.w0){vs:List Value}{r:CR}(h:AQ0 vs Z=some r):Adv Z r.Z/\∀ O w vs' N,Rel B8 O Z w->Cc O Z.n N->r.Z.n<=N->Bm O 10->E7 O vs vs'->CG Tryz.prog B8 O 290 vs' Z w r:=by
 unfold AQ0 at h;split at h
 ·rename_i s;obtain⟨h1,h2⟩:=G7 h;rw[Q7,Q7,z3z,z3z]at h1;obtain⟨⟨hd,hne⟩,hsz⟩:=h1;have hat:=lQ hd hne;cases hv:decide (GI s.data.toList<9223372036854775808)with
  | true=>
    rw[hv]at h2;rw[z1z (z6z hv)]at hat;cases h2;refine⟨.refl _,fun O w vs' N hR hF hN hG hv=>?_⟩;cases hv with
    |cons hx hv=>
    cases hv;cases hx;refine Mu (v':= .tuple #[.int .i64 (GI s.data.toList:Nat),.nilIface]) Tryz.func290 rfl rfl hR ((Any.strconv_Atoi_ok Tryz.fl s om _ hat w).mono ?_) (.tuple (.cons (.I1 rfl) (.cons (.I1 rfl) .nil)));rintro e w' ⟨rfl,hw⟩;refine⟨rfl,?_⟩;rcases hw with rfl|⟨t,rfl⟩
    ·exact .refl _ _
    ·exact Lib.bytesWorld_below _ _ _
  | false=>
    rw[hv]at h2;rw[z0z (z9z hv)]at hat;cases h2;refine⟨Adv.new _ _,fun O w vs' N hR hF hN hG hv=>?_⟩;cases hv with
    |cons hx hv=>
    cases hv;cases hx;obtain⟨ev,hc,hev⟩:=hE.low hl hR.low;refine⟨Tryz.f290,Tryz.func290,rfl,.inl ⟨rfl,(Any.strconv_Atoi_range Tryz.fl s om hat ev w hc hev).mono ?_⟩⟩;rintro e w' ⟨M,rfl,hM,LL,hbl⟩;have HH:O Z.n=none:=hF _ nL (by have:Z.n+1<=N:=hN;omega);obtain⟨k1,k2⟩:=lR hR HH hM LL hbl;refine⟨_,_,rfl,k1,k2,?_⟩;rw[sn hd hne];exact .tuple (.cons (.I1 rfl) (.cons (.iface (.ptr (Ab.Place.O7 _ _ _))) .nil))
 ·cases h
end
end Go.Proofs.T
