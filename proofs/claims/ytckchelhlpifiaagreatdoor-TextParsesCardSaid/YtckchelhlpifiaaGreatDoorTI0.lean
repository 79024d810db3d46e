/-
  dE: THE dG SP AT AW5 AW6, IN zD zE (Vu/lay-plain.mjs out of 'TItoaShelf.zF, MM Vu/lay-zG.mjs wrote): THE mA MN zH THE mA zI: 'import', 'namespace', 'open', 'def', 'theorem' AND dH AW7: no command of the dI: FOR A AW8-IN. AW9 mB: the table of numbers ('..zJ) and one theorem, a field a fact of the mC own or the Vv LJ; each Vw: ONE No.
-/
import Derived.Shelf.Strconv.Itoa3
import Derived.Test.YtckchelhlpifiaaGreatDoorTSan
import Derived.Lib.AppendIntMem
import Derived.Shelf.Strconv.AtoiAll
set_option linter.unusedSimpArgs false
set_option linter.unusedVariables false
set_option linter.defProp false
set_option maxHeartbeats 32000000
set_option maxRecDepth 100000
namespace Go.Proofs
open Go.Shelf
def Tryz.ZK:Go.Shelf.Ren:=⟨fun|171=>57|243=>111|246=>156|283=>187|284=>188|285=>189|286=>190|129=>206|317=>205|318=>207|319=>208|320=>209|337=>221|338=>222|n=>n,fun|3=>3|9=>9|2=>2|4=>4|171=>214|0=>0|53=>160|37=>43|5=>5|173=>217|212=>224|51=>225|20=>20|213=>226|46=>220|232=>251|233=>252|n=>n,fun|17=>1|18=>4|19=>5|n=>n⟩
def Tryz.yj:Go.Proofs.LaysM.n171 Tryz.prog Tryz.ZK:={
 mixed:=by kernel_rfl
 f129:=Tryz.func206.trans (congrArg some (by kernel_rfl))
 f171:=Tryz.func57.trans (congrArg some (by kernel_rfl))
 f243:=Tryz.func111.trans (congrArg some (by kernel_rfl))
 f246:=Tryz.func156.trans (congrArg some (by kernel_rfl))
 f283:=Tryz.func187.trans (congrArg some (by kernel_rfl))
 f284:=Tryz.func188.trans (congrArg some (by kernel_rfl))
 f285:=Tryz.func189.trans (congrArg some (by kernel_rfl))
 f286:=Tryz.func190.trans (congrArg some (by kernel_rfl))
 f317:=Tryz.func205.trans (congrArg some (by kernel_rfl))
 f318:=Tryz.func207.trans (congrArg some (by kernel_rfl))
 f319:=Tryz.func208.trans (congrArg some (by kernel_rfl))
 f320:=Tryz.func209.trans (congrArg some (by kernel_rfl))
 f337:=Tryz.func221.trans (congrArg some (by kernel_rfl))
 f338:=Tryz.func222.trans (congrArg some (by kernel_rfl))
 t0:=Tryz.underlying0
 a0:=Tryz.isAgg0
 z0:=Tryz.sizeOf0
 v0:=Tryz.zeroValue0
 t2:=Tryz.underlying2
 a2:=Tryz.isAgg2
 z2:=Tryz.sizeOf2
 v2:=Tryz.zeroValue2
 t3:=Tryz.underlying3
 a3:=Tryz.isAgg3
 z3:=Tryz.sizeOf3
 v3:=Tryz.zeroValue3
 t4:=Tryz.underlying4
 a4:=Tryz.isAgg4
 z4:=Tryz.sizeOf4
 v4:=Tryz.zeroValue4
 t5:=Tryz.underlying5
 a5:=Tryz.isAgg5
 z5:=Tryz.sizeOf5
 v5:=Tryz.zeroValue5
 t9:=Tryz.underlying9
 a9:=Tryz.isAgg9
 z9:=Tryz.sizeOf9
 v9:=Tryz.zeroValue9
 t20:=Tryz.underlying20
 a20:=Tryz.isAgg20
 z20:=Tryz.sizeOf20
 v20:=Tryz.zeroValue20
 t37:=Tryz.underlying43
 a37:=Tryz.isAgg43
 z37:=Tryz.sizeOf43
 v37:=Tryz.zeroValue43
 t46:=Tryz.underlying220
 a46:=Tryz.isAgg220
 z46:=Tryz.sizeOf220
 v46:=Tryz.zeroValue220
 t51:=Tryz.underlying225
 a51:=Tryz.isAgg225
 z51:=Tryz.sizeOf225
 v51:=Tryz.zeroValue225
 t53:=Tryz.underlying160
 a53:=Tryz.isAgg160
 z53:=Tryz.sizeOf160
 v53:=Tryz.zeroValue160
 t171:=Tryz.underlying214
 a171:=Tryz.isAgg214
 z171:=Tryz.sizeOf214
 v171:=Tryz.zeroValue214
 t173:=Tryz.underlying217
 a173:=Tryz.isAgg217
 z173:=Tryz.sizeOf217
 v173:=Tryz.zeroValue217
 t212:=Tryz.underlying224
 a212:=Tryz.isAgg224
 z212:=Tryz.sizeOf224
 v212:=Tryz.zeroValue224
 t213:=Tryz.underlying226
 a213:=Tryz.isAgg226
 z213:=Tryz.sizeOf226
 t232:=Tryz.underlying251
 a232:=Tryz.isAgg251
 z232:=Tryz.sizeOf251
 v232:=Tryz.zeroValue251
 t233:=Tryz.underlying252
 a233:=Tryz.isAgg252
 z233:=Tryz.sizeOf252
 v233:=Tryz.zeroValue252
 g17:=by kernel_rfl
 g18:=by kernel_rfl
 g19:=by kernel_rfl
 i0:=by kernel_rfl
 i2:=by kernel_rfl
 i3:=by kernel_rfl
 i4:=by kernel_rfl
 i5:=by kernel_rfl
 i9:=by kernel_rfl
 i20:=by kernel_rfl
 i37:=by kernel_rfl
 i46:=by kernel_rfl
 i51:=by kernel_rfl
 i53:=by kernel_rfl
 i171:=by kernel_rfl
 i173:=by kernel_rfl
 i212:=by kernel_rfl
 i232:=by kernel_rfl
 i233:=by kernel_rfl
 m17:=by kernel_rfl
 m18:=by kernel_rfl
 m19:=by kernel_rfl }
open Go.RowKit Go.Sort Go.Lib in
def Tryz.strconv_Itoa (n:Int) (h0: -9223372036854775808<=n) (h1:n<=9223372036854775807) (w:World) (BI7:Lib.TabIs Tryz.prog w "internal/strconv.uint64pow10" .u64 Lib.pow10Tab) :
  Calls Tryz.prog 57 #[.int .i64 n] w fun e w'=>e= .returned (.string ⟨(Lib.itoa n).toArray⟩)/\∃ k os,w'=grow (w.drewN k) os:=Any.strconv_Itoa Tryz.yj n h0 h1 w BI7
end Go.Proofs
namespace Go.Proofs.T
open Go Go.Ab
section
variable {P:Program}{A8:Env}
def il {g:Nat}{fn:Func}(hf:P.funcs[g]? =some fn) (hn:(fn.name== "runtime.NumGoroutine")=false) (hb:fn.body.isSome=true){v:Value}(hs:H5 v=true){Z:St}{O:Ab.Place}{w:World}{vs':List Value}(hR:Rel A8 O Z w)
  (hc:Calls P g ⟨vs'⟩ w fun e w'=>e= .returned v/\∃ k os,w'=Sort.grow (w.drewN k) os):Bp P A8 O g vs' Z w ⟨false,v,Z⟩:=by
 refine⟨fn,hf,hn,.inl ⟨hb,hc.mono ?_⟩⟩;rintro e w' ⟨rfl,k,os,rfl⟩;have hB:=Lib.below_grow w.heap.size w nL k os;have hsz:=Lib.size_grow w k os;have Db:∀ c,c<w.heap.size->(Sort.grow (w.drewN k) os).heap[c]? =w.heap[c]? :=fun c hc=>Lib.heap_grow_old w k os c hc
 exact⟨v,O,rfl,⟨hR.fresh,fun b q B h1 h2=>(hR.KP b q B h1 h2).mono (Place.le_refl _) (Db _ (hR.dom b q h1)),fun b q hb=>z5z (hR.dom b q hb) hsz,hR.own,hR.sep,hR.low.next hsz fun c hc=>Db c (z5z hc hR.low.1)⟩,
  ⟨fun _ _=>rfl,AR _,hsz,fun c hc _=>Db c hc,fun b q B h1 h2 _=>⟨b,q,B,h1,rfl,h2,fun h=>h⟩,⟨rfl,rfl,rfl⟩,fun _ _ _=>rfl⟩,.H5 hs⟩
end
def Wq:BG=Lib.pow10Tab.map fun z=>Value.int .u64 z:=kR
def iq:∀ v∈BG,∃ n,v= .int .u64 n:=by
 intro v hv;rw[Wq]at hv;obtain⟨n,-,rfl⟩:=MJ.1 hv;exact⟨n,rfl⟩
def AH7 {A8:Env}{O:Ab.Place}{Z:St}{w:World}(hR:Rel A8 O Z w) (hG:Bo O 8) (hr:Z.read 1 0 20=some BG):Lib.TabIs Tryz.prog w "internal/strconv.uint64pow10" .u64 Lib.pow10Tab:=by
 obtain⟨B,hB,hs⟩:=A5 (show ob (Z.Dg 1) (fun B=>sub B.cells 0 20)=some BG from hr);obtain⟨m,h0,hm⟩:=hG 1 om;obtain rfl:=hm rfl rfl;obtain⟨s1,s2⟩:=sub_eq hs;obtain⟨arr,e,lo,hi,a1,a2,a3,a4,a5,a6⟩:=hR.row 1 _ B h0 hB;have hg:Tryz.prog.globalNamed "internal/strconv.uint64pow10"=some 1:=kR
 have hsz:arr.size=20:=a2;have KN:arr=(Lib.pow10Tab.map fun z=>Value.int .u64 z).toArray:=by
  rw[<- Wq];refine Array.ext (by rw[hsz];rfl) fun i hi1 hi2=>?_;have hp:BG[i]? =some (BG[i]'(by have:BG.length=20:=rfl;omega)):=List.getElem?_eq_getElem _;have hv':B.cells[i]? =BG[i]? :=by
   rw[s2,UU,List.getElem?_take,z1z om]
  obtain⟨n,hn⟩:=iq _ (W8 hp);rw[hp,hn]at hv';obtain⟨v',b1,b2⟩:=a6 i _ hv';have hb1:arr[i]? =some v':=by rw[<- b1];show _=arr[0+i]?;rw[Gy]
  have hv:v'= .int .u64 n:=by cases b2 with|H5=>rfl
  rw[Array.getElem?_eq_getElem hi1]at hb1;have h1:=z8z hb1;rw[h1,hv,<- hn];rfl
 unfold Lib.TabIs World.var?;rw[hg];show(match w.heap[1]? with|some (.cells cs _ _)=>some cs|_=>none)=_;have a1':w.heap[1]? =some (.cells arr e (lo,hi)):=a1;rw[a1',KN]
noncomputable def AH8 (vs:List Value) (Z:St):Option CR:=match vs with
 | [.int .i64 n]=>bb (BM (Z.read 1 0 20) (some BG)) (bb (decide (-9223372036854775808<=n/\n<=9223372036854775807)) (some ⟨false,.string ⟨(Lib.itoa n).toArray⟩,Z⟩))
 |_=>none
def uR {A8:Env}{vs:List Value}{Z:St}{r:CR}(Db:∀ x:Option (List Value),BM x (some BG)=true->x=some BG) (h:AH8 vs Z=some r):Adv Z r.Z/\∀ O w vs' N,Rel A8 O Z w->Ce O Z.n N->r.Z.n<=N->Bo O 8->G0 O vs vs'->Bp Tryz.prog A8 O 57 vs' Z w r:=by
 unfold AH8 at h;split at h
 ·rename_i n;obtain⟨h1,h2⟩:=H3 h;obtain⟨h3,h4⟩:=H3 h2;cases h4;have h3:=z6z h3;refine⟨.refl _,fun O w vs' N hR hF hN hG hv=>?_⟩;cases hv with
  |cons hx hv=>
  cases hv;cases hx;exact il Tryz.func57 kR rfl rfl hR (Tryz.strconv_Itoa n h3.1 h3.2 w (AH7 hR hG (Db _ h1)))
 ·cases h
end Go.Proofs.T
namespace Go.Proofs
open Go.Shelf
def Tryz.Wc:Go.Shelf.Ren:=⟨fun|172=>196|244=>213|245=>214|247=>226|279=>227|280=>228|281=>229|282=>230|287=>232|316=>233|171=>57|205=>234|321=>235|322=>236|243=>111|246=>156|283=>187|284=>188|285=>189|286=>190|129=>206|317=>205|318=>207|319=>208|320=>209|337=>221|338=>222|n=>n,fun|9=>9|3=>3|75=>126|76=>127|4=>4|5=>5|167=>242|37=>43|0=>0|85=>243|2=>2|168=>245|53=>160|175=>253|46=>220|210=>257|127=>158|145=>262|143=>260|21=>21|171=>214|173=>217|212=>224|51=>225|20=>20|213=>226|232=>251|233=>252|80=>133|n=>n,fun|15=>6|16=>7|17=>1|18=>4|19=>5|n=>n⟩
def Tryz.dY:Go.Proofs.LaysC.n172 Tryz.prog Tryz.Wc:={
 mixed:=by kernel_rfl
 f129:=Tryz.func206.trans (congrArg some (by kernel_rfl))
 f171:=Tryz.func57.trans (congrArg some (by kernel_rfl))
 f172:=Tryz.func196.trans (congrArg some (by kernel_rfl))
 f205:=Tryz.func234.trans (congrArg some (by kernel_rfl))
 f243:=Tryz.func111.trans (congrArg some (by kernel_rfl))
 f244:=Tryz.func213.trans (congrArg some (by kernel_rfl))
 f245:=Tryz.func214.trans (congrArg some (by kernel_rfl))
 f246:=Tryz.func156.trans (congrArg some (by kernel_rfl))
 f247:=Tryz.func226.trans (congrArg some (by kernel_rfl))
 f279:=Tryz.func227.trans (congrArg some (by kernel_rfl))
 f280:=Tryz.func228.trans (congrArg some (by kernel_rfl))
 f281:=Tryz.func229.trans (congrArg some (by kernel_rfl))
 f282:=Tryz.func230.trans (congrArg some (by kernel_rfl))
 f283:=Tryz.func187.trans (congrArg some (by kernel_rfl))
 f284:=Tryz.func188.trans (congrArg some (by kernel_rfl))
 f285:=Tryz.func189.trans (congrArg some (by kernel_rfl))
 f286:=Tryz.func190.trans (congrArg some (by kernel_rfl))
 f287:=Tryz.func232.trans (congrArg some (by kernel_rfl))
 f316:=Tryz.func233.trans (congrArg some (by kernel_rfl))
 f317:=Tryz.func205.trans (congrArg some (by kernel_rfl))
 f318:=Tryz.func207.trans (congrArg some (by kernel_rfl))
 f319:=Tryz.func208.trans (congrArg some (by kernel_rfl))
 f320:=Tryz.func209.trans (congrArg some (by kernel_rfl))
 f321:=Tryz.func235.trans (congrArg some (by kernel_rfl))
 f322:=Tryz.func236.trans (congrArg some (by kernel_rfl))
 f337:=Tryz.func221.trans (congrArg some (by kernel_rfl))
 f338:=Tryz.func222.trans (congrArg some (by kernel_rfl))
 t0:=Tryz.underlying0
 a0:=Tryz.isAgg0
 z0:=Tryz.sizeOf0
 v0:=Tryz.zeroValue0
 t2:=Tryz.underlying2
 a2:=Tryz.isAgg2
 z2:=Tryz.sizeOf2
 v2:=Tryz.zeroValue2
 t3:=Tryz.underlying3
 a3:=Tryz.isAgg3
 z3:=Tryz.sizeOf3
 v3:=Tryz.zeroValue3
 t4:=Tryz.underlying4
 a4:=Tryz.isAgg4
 z4:=Tryz.sizeOf4
 v4:=Tryz.zeroValue4
 t5:=Tryz.underlying5
 a5:=Tryz.isAgg5
 z5:=Tryz.sizeOf5
 v5:=Tryz.zeroValue5
 t9:=Tryz.underlying9
 a9:=Tryz.isAgg9
 z9:=Tryz.sizeOf9
 v9:=Tryz.zeroValue9
 t20:=Tryz.underlying20
 a20:=Tryz.isAgg20
 z20:=Tryz.sizeOf20
 v20:=Tryz.zeroValue20
 t21:=Tryz.underlying21
 a21:=Tryz.isAgg21
 z21:=Tryz.sizeOf21
 v21:=Tryz.zeroValue21
 t37:=Tryz.underlying43
 a37:=Tryz.isAgg43
 z37:=Tryz.sizeOf43
 v37:=Tryz.zeroValue43
 t46:=Tryz.underlying220
 a46:=Tryz.isAgg220
 z46:=Tryz.sizeOf220
 v46:=Tryz.zeroValue220
 t51:=Tryz.underlying225
 a51:=Tryz.isAgg225
 z51:=Tryz.sizeOf225
 v51:=Tryz.zeroValue225
 t53:=Tryz.underlying160
 a53:=Tryz.isAgg160
 z53:=Tryz.sizeOf160
 v53:=Tryz.zeroValue160
 t75:=Tryz.underlying126
 a75:=Tryz.isAgg126
 z75:=Tryz.sizeOf126
 v75:=Tryz.zeroValue126
 t76:=Tryz.underlying127
 a76:=Tryz.isAgg127
 z76:=Tryz.sizeOf127
 v76:=Tryz.zeroValue127
 t85:=Tryz.underlying243
 a85:=Tryz.isAgg243
 z85:=Tryz.sizeOf243
 v85:=Tryz.zeroValue243
 t127:=Tryz.underlying158
 a127:=Tryz.isAgg158
 z127:=Tryz.sizeOf158
 v127:=Tryz.zeroValue158
 t143:=Tryz.underlying260
 a143:=Tryz.isAgg260
 z143:=Tryz.sizeOf260
 v143:=Tryz.zeroValue260
 t145:=Tryz.underlying262
 a145:=Tryz.isAgg262
 z145:=Tryz.sizeOf262
 v145:=Tryz.zeroValue262
 t167:=Tryz.underlying242
 a167:=Tryz.isAgg242
 z167:=Tryz.sizeOf242
 v167:=Tryz.zeroValue242
 t168:=Tryz.underlying245
 a168:=Tryz.isAgg245
 z168:=Tryz.sizeOf245
 v168:=Tryz.zeroValue245
 t171:=Tryz.underlying214
 a171:=Tryz.isAgg214
 z171:=Tryz.sizeOf214
 v171:=Tryz.zeroValue214
 t173:=Tryz.underlying217
 a173:=Tryz.isAgg217
 z173:=Tryz.sizeOf217
 v173:=Tryz.zeroValue217
 t175:=Tryz.underlying253
 a175:=Tryz.isAgg253
 z175:=Tryz.sizeOf253
 v175:=Tryz.zeroValue253
 t210:=Tryz.underlying257
 a210:=Tryz.isAgg257
 z210:=Tryz.sizeOf257
 v210:=Tryz.zeroValue257
 t212:=Tryz.underlying224
 a212:=Tryz.isAgg224
 z212:=Tryz.sizeOf224
 v212:=Tryz.zeroValue224
 t213:=Tryz.underlying226
 a213:=Tryz.isAgg226
 z213:=Tryz.sizeOf226
 t232:=Tryz.underlying251
 a232:=Tryz.isAgg251
 z232:=Tryz.sizeOf251
 v232:=Tryz.zeroValue251
 t233:=Tryz.underlying252
 a233:=Tryz.isAgg252
 z233:=Tryz.sizeOf252
 v233:=Tryz.zeroValue252
 g15:=by kernel_rfl
 g16:=by kernel_rfl
 g17:=by kernel_rfl
 g18:=by kernel_rfl
 g19:=by kernel_rfl
 t80:=Tryz.underlying133
 a80:=Tryz.isAgg133
 z80:=Tryz.sizeOf133
 v80:=Tryz.zeroValue133
 i0:=by kernel_rfl
 i2:=by kernel_rfl
 i3:=by kernel_rfl
 i4:=by kernel_rfl
 i5:=by kernel_rfl
 i9:=by kernel_rfl
 i20:=by kernel_rfl
 i21:=by kernel_rfl
 i37:=by kernel_rfl
 i46:=by kernel_rfl
 i51:=by kernel_rfl
 i53:=by kernel_rfl
 i75:=by kernel_rfl
 i76:=by kernel_rfl
 i80:=by kernel_rfl
 i85:=by kernel_rfl
 i127:=by kernel_rfl
 i143:=by kernel_rfl
 i145:=by kernel_rfl
 i167:=by kernel_rfl
 i168:=by kernel_rfl
 i171:=by kernel_rfl
 i173:=by kernel_rfl
 i175:=by kernel_rfl
 i210:=by kernel_rfl
 i212:=by kernel_rfl
 i232:=by kernel_rfl
 i233:=by kernel_rfl
 m15:=by kernel_rfl
 m16:=by kernel_rfl
 m17:=by kernel_rfl
 m18:=by kernel_rfl
 m19:=by kernel_rfl
 c0:=by kernel_rfl
 c2:=by kernel_rfl
 c3:=by kernel_rfl
 c4:=by kernel_rfl
 c5:=by kernel_rfl
 c9:=by kernel_rfl
 c20:=by kernel_rfl
 c21:=by kernel_rfl
 c37:=by kernel_rfl
 c46:=by kernel_rfl
 c51:=by kernel_rfl
 c53:=by kernel_rfl
 c75:=by kernel_rfl
 c76:=by kernel_rfl
 c80:=by kernel_rfl
 c85:=by kernel_rfl
 c127:=by kernel_rfl
 c143:=by kernel_rfl
 c145:=by kernel_rfl
 c167:=by kernel_rfl
 c168:=by kernel_rfl
 c171:=by kernel_rfl
 c173:=by kernel_rfl
 c175:=by kernel_rfl
 c210:=by kernel_rfl
 c212:=by kernel_rfl
 c213:=by kernel_rfl
 c232:=by kernel_rfl
 c233:=by kernel_rfl }
end Go.Proofs
namespace Go.Proofs.T
open Go Go.Ab
section
variable {s:List UInt8}{Z:St}{w:World}
def T6 (s:List UInt8):Nat:=s.foldl (fun n c=>10*n+(c.toNat-48)) 0
def dg (c:UInt8):Bool:=decide (48<=c.toNat)&&decide (c.toNat<=57)
def Ya:∀ (l:List UInt8) (a:Nat),a<=l.foldl (fun n c=>10*n+(c.toNat-48)) a
 | [],a=>AR _
 |c::r,a=>X0 (show a<=10*a+(c.toNat-48) by omega) (Ya r _)
def RE:∀ (l:List UInt8) (a:Nat),l.all dg=true->Lib.parseUint10 a l=if l.foldl (fun n c=>10*n+(c.toNat-48)) a<18446744073709551616\/l=[]then .ok (l.foldl (fun n c=>10*n+(c.toNat-48)) a)else .range
 | [],a,_=>by rw[z1z (.inr rfl)];rfl
 | c::r,a,h=>by
   rw[UT,y6]at h;have hc:=h.1;unfold dg at hc;rw[y6,z3z,z3z]at hc;have hge:=Ya r (10*a+(c.toNat-48));have Ay1:a*10+(c.toNat-48)=10*a+(c.toNat-48):=om;rw[SE];unfold Lib.parseUint10;rw[z1z hc,Ay1];by_cases h1:1844674407370955162<=a
   ·rw[z1z h1,z0z];rintro(h|h)
    ·omega
    ·cases h
   ·rw [z0z h1];by_cases h2:18446744073709551616<=10*a+(c.toNat-48)
    ·rw[z1z h2,z0z];rintro(h|h)
     ·omega
     ·cases h
    ·rw[z0z h2,RE r _ h.2];cases r with
     |nil=>rw[z1z (.inr rfl),z1z (.inl (by show 10*a+(c.toNat-48)<_;omega))]
     | cons d t=>
       by_cases h3:(d::t).foldl (fun n c=>10*n+(c.toNat-48)) (10*a+(c.toNat-48))<18446744073709551616
       ·rw[z1z (.inl h3),z1z (.inl h3)]
       ·rw[z0z (by rintro(h|h);exact h3 h;cases h),z0z (by rintro(h|h);exact h3 h;cases h)]
def kN (h:s.all dg=true) (h0:s≠[]):Lib.atoiAll s=if T6 s<9223372036854775808 then .ok (T6 s:Nat)else .range:=by
 cases s with
 |nil=>exact absurd rfl h0
 | cons c r=>
   have hc:=h;rw[UT,y6]at hc;have hc:=hc.1;unfold dg at hc;rw[y6,z3z,z3z]at hc;rw[Lib.atoiAll_plain c r om om];unfold Lib.parseMag;rw[z0z (by simp),RE _ _ h];have ev:(c::r).foldl (fun n c=>10*n+(c.toNat-48)) 0=T6 (c::r):=rfl;rw[ev];by_cases h1:T6 (c::r)<18446744073709551616
   ·rw[z1z (Or.inl h1)];unfold Lib.signless;by_cases h2:T6 (c::r)<9223372036854775808
    ·rw[z1z h2];simp only;rw[z0z om]
    ·rw[z0z h2];simp only;rw[z1z om]
   ·rw[z0z (by rintro(h|h);exact h1 h;cases h),z0z om];rfl
def qo (h:s.all dg=true) (h0:s≠[]):Lib.atoiSat s=9223372036854775807:=by
 cases s with
 |nil=>exact absurd rfl h0
 | cons c r=>
   have hc:=h;rw[UT,y6]at hc;have hc:=hc.1;unfold dg at hc;rw[y6,z3z,z3z]at hc;exact Lib.atoiSat_other c r om
section
variable {P:Program}{A8:Env}
def kO {O:Ab.Place}{w':World}(h:Rel A8 O Z w) (hf:O Z.n=none){N:Nat}{arr:Array Value}{e:TypeId}(hN:w.heap.size<=N) (FT:w'.heap[N]? =some (.cells arr e (0,0))) (hb:Go.RowKit.Below w.heap.size w w'):
  Rel A8 (O.put Z.n ⟨N,0,arr.size⟩) (Z.new []) w'/\AD O Z w (O.put Z.n ⟨N,0,arr.size⟩) (Z.new []) w':=by
 have hNl:N<w'.heap.size:=by
  rcases y8 N w'.heap.size with hh|hh
  ·exact hh
  ·rw[Array.getElem?_eq_none hh]at FT;cases FT
 refine⟨h.put hf ⟨arr,e,0,0,FT,rfl,by show 0+0<=arr.size;omega,fun _=> .inr nL,fun v hv=>absurd hv (by simp),fun i v hi=>absurd hi (by simp)⟩ hb.size (fun c hc _=>hb.block c hc) hNl (X0 h.low.1 hN) (fun b q' hb' _=>by have:=h.dom b q' hb';show q'.c≠N;omega) Typed.none,⟨?_,?_,hb.size,fun c hc _=>hb.block c hc,?_,⟨hb.os,hb.tape,hb.output⟩,fun b h1 _=>Tr.J1 _ _ om⟩⟩
 ·intro b hb;refine Place.AW _ _ ?_;rcases hb with hb|hb
  ·omega
  ·change Z.n+1<=b at hb;omega
 ·show Z.n<=Z.n+1;omega
 ·intro b q B hb hB hcs;by_cases hbn:b=Z.n
  ·subst hbn;rw[Ab.Place.S8]at hb;cases hb;change N<w.heap.size at hcs;omega
  ·rw[Ab.Place.AW _ _ hbn]at hb;rw[LH _ _ hbn]at hB;exact⟨b,q,B,hb,rfl,hB,fun h=>h⟩
end
def Lk (w:World):Prop:=∃ ev,w.cell? ⟨7,0,none⟩=some ev/\(ev= .nilIface\/∃ te pe,ev= .iface te pe)
def Lk.low {A8:Env}(h:Lk A8.w0) (hl:8<=A8.lo) (hw:A8.Low w):Lk w:=by
 obtain⟨ev,h1,h2⟩:=h;refine⟨ev,?_,h2⟩;have e:=hw.2 7 om;unfold World.cell? at h1 ⊢;dsimp only at h1 ⊢;rw[e];exact h1
noncomputable def AK2 (vs:List Value) (Z:St):Option CR:=match vs with
 | [.string s]=>bb (s.data.toList.all dg&&decide (s.data.toList≠[])&&decide (s.size<=1000000000)) (bi (decide (T6 s.data.toList<9223372036854775808)) (some ⟨false,.tuple ⟨[.int .i64 (T6 s.data.toList:Nat),.nilIface]⟩,Z⟩)
    (some ⟨false,.tuple ⟨[.int .i64 9223372036854775807,.iface 245 (.pointer (some ⟨Z.n,0,none⟩))]⟩,Z.new []⟩))
 |_=>none
def xL {A8:Env}(hl:8<=A8.lo) (hE:Lk A8.w0){vs:List Value}{r:CR}(h:AK2 vs Z=some r):Adv Z r.Z/\∀ O w vs' N,Rel A8 O Z w->Ce O Z.n N->r.Z.n<=N->Bo O 8->G0 O vs vs'->Bp Tryz.prog A8 O 196 vs' Z w r:=by
 unfold AK2 at h;split at h
 ·rename_i s;obtain⟨h1,h2⟩:=H3 h;rw[y6,y6,z3z,z3z]at h1;obtain⟨⟨hd,hne⟩,hsz⟩:=h1;have hat:=kN hd hne;cases hv:decide (T6 s.data.toList<9223372036854775808)with
  | true=>
    rw[hv]at h2;rw[z1z (z6z hv)]at hat;cases h2;refine⟨.refl _,fun O w vs' N hR hF hN hG hv=>?_⟩;cases hv with
    |cons hx hv=>
    cases hv;cases hx;refine Md (v':= .tuple #[.int .i64 (T6 s.data.toList:Nat),.nilIface]) Tryz.func196 rfl rfl hR ((Any.strconv_Atoi_ok Tryz.dY s om _ hat w).mono ?_) (.tuple (.cons (.H5 rfl) (.cons (.H5 rfl) .nil)));rintro e w' ⟨rfl,hw⟩;refine⟨rfl,?_⟩;rcases hw with rfl|⟨t,rfl⟩
    ·exact .refl _ _
    ·exact Lib.bytesWorld_below _ _ _
  | false=>
    rw[hv]at h2;rw[z0z (z9z hv)]at hat;cases h2;refine⟨Adv.new _ _,fun O w vs' N hR hF hN hG hv=>?_⟩;cases hv with
    |cons hx hv=>
    cases hv;cases hx;obtain⟨ev,hc,hev⟩:=hE.low hl hR.low;refine⟨Tryz.f196,Tryz.func196,rfl,.inl ⟨rfl,(Any.strconv_Atoi_range Tryz.dY s om hat ev w hc hev).mono ?_⟩⟩;rintro e w' ⟨M,rfl,hM,FT,hbl⟩;have KX:O Z.n=none:=hF _ nL (by have:Z.n+1<=N:=hN;omega);obtain⟨k1,k2⟩:=kO hR KX hM FT hbl;refine⟨_,_,rfl,k1,k2,?_⟩;rw[qo hd hne];exact .tuple (.cons (.H5 rfl) (.cons (.iface (.ptr (Ab.Place.S8 _ _ _))) .nil))
 ·cases h
end
end Go.Proofs.T
