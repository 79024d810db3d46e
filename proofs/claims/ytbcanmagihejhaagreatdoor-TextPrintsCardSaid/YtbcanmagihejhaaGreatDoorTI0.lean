/-
  eQ: THE eS TS AT Ae1 Ae2, IN AA8 AA9 (XA/lay-plain.mjs out of 'TItoaShelf.AB0, Kg XA/lay-AB1.mjs wrote): THE nV MX AB2 THE nV AB3: 'import', 'namespace', 'open', 'def', 'theorem' AND eU Ae3: no command of the eV: FOR A Ae4-IN. Ae5 nY: the table of numbers ('..AB4) and one theorem, a field a fact of the nZ own or the XB La; each XC: ONE OK.
-/
import Derived.Shelf.Strconv.Itoa3
import Derived.Test.YtbcanmagihejhaaGreatDoorTSan
import Derived.Lib.AppendIntMem
import Derived.Shelf.Strconv.AtoiAll
set_option linter.unusedSimpArgs false
set_option linter.unusedVariables false
set_option linter.defProp false
set_option maxHeartbeats 32000000
set_option maxRecDepth 100000
namespace Go.Proofs
open Go.Shelf
def Tryz.aD:Go.Shelf.Ren:=⟨fun|171=>67|243=>112|246=>153|283=>188|284=>189|285=>190|286=>191|129=>212|317=>211|318=>213|319=>214|320=>215|337=>227|338=>228|n=>n,fun|3=>3|9=>9|2=>2|4=>4|171=>218|0=>0|53=>180|37=>43|5=>5|173=>221|212=>235|51=>236|20=>20|213=>237|46=>238|232=>256|233=>257|n=>n,fun|17=>1|18=>4|19=>5|n=>n⟩
def Tryz.zt:Go.Proofs.LaysM.n171 Tryz.prog Tryz.aD:={
 mixed:=by kernel_rfl
 f129:=Tryz.func212.trans (congrArg some (by kernel_rfl))
 f171:=Tryz.func67.trans (congrArg some (by kernel_rfl))
 f243:=Tryz.func112.trans (congrArg some (by kernel_rfl))
 f246:=Tryz.func153.trans (congrArg some (by kernel_rfl))
 f283:=Tryz.func188.trans (congrArg some (by kernel_rfl))
 f284:=Tryz.func189.trans (congrArg some (by kernel_rfl))
 f285:=Tryz.func190.trans (congrArg some (by kernel_rfl))
 f286:=Tryz.func191.trans (congrArg some (by kernel_rfl))
 f317:=Tryz.func211.trans (congrArg some (by kernel_rfl))
 f318:=Tryz.func213.trans (congrArg some (by kernel_rfl))
 f319:=Tryz.func214.trans (congrArg some (by kernel_rfl))
 f320:=Tryz.func215.trans (congrArg some (by kernel_rfl))
 f337:=Tryz.func227.trans (congrArg some (by kernel_rfl))
 f338:=Tryz.func228.trans (congrArg some (by kernel_rfl))
 t0:=Tryz.underlying0
 a0:=Tryz.isAgg0
 z0:=Tryz.sizeOf0
 v0:=Tryz.zeroValue0
 t2:=Tryz.underlying2
 a2:=Tryz.isAgg2
 z2:=Tryz.sizeOf2
 v2:=Tryz.zeroValue2
 t3:=Tryz.underlying3
 a3:=Tryz.isAgg3
 z3:=Tryz.sizeOf3
 v3:=Tryz.zeroValue3
 t4:=Tryz.underlying4
 a4:=Tryz.isAgg4
 z4:=Tryz.sizeOf4
 v4:=Tryz.zeroValue4
 t5:=Tryz.underlying5
 a5:=Tryz.isAgg5
 z5:=Tryz.sizeOf5
 v5:=Tryz.zeroValue5
 t9:=Tryz.underlying9
 a9:=Tryz.isAgg9
 z9:=Tryz.sizeOf9
 v9:=Tryz.zeroValue9
 t20:=Tryz.underlying20
 a20:=Tryz.isAgg20
 z20:=Tryz.sizeOf20
 v20:=Tryz.zeroValue20
 t37:=Tryz.underlying43
 a37:=Tryz.isAgg43
 z37:=Tryz.sizeOf43
 v37:=Tryz.zeroValue43
 t46:=Tryz.underlying238
 a46:=Tryz.isAgg238
 z46:=Tryz.sizeOf238
 v46:=Tryz.zeroValue238
 t51:=Tryz.underlying236
 a51:=Tryz.isAgg236
 z51:=Tryz.sizeOf236
 v51:=Tryz.zeroValue236
 t53:=Tryz.underlying180
 a53:=Tryz.isAgg180
 z53:=Tryz.sizeOf180
 v53:=Tryz.zeroValue180
 t171:=Tryz.underlying218
 a171:=Tryz.isAgg218
 z171:=Tryz.sizeOf218
 v171:=Tryz.zeroValue218
 t173:=Tryz.underlying221
 a173:=Tryz.isAgg221
 z173:=Tryz.sizeOf221
 v173:=Tryz.zeroValue221
 t212:=Tryz.underlying235
 a212:=Tryz.isAgg235
 z212:=Tryz.sizeOf235
 v212:=Tryz.zeroValue235
 t213:=Tryz.underlying237
 a213:=Tryz.isAgg237
 z213:=Tryz.sizeOf237
 t232:=Tryz.underlying256
 a232:=Tryz.isAgg256
 z232:=Tryz.sizeOf256
 v232:=Tryz.zeroValue256
 t233:=Tryz.underlying257
 a233:=Tryz.isAgg257
 z233:=Tryz.sizeOf257
 v233:=Tryz.zeroValue257
 g17:=by kernel_rfl
 g18:=by kernel_rfl
 g19:=by kernel_rfl
 i0:=by kernel_rfl
 i2:=by kernel_rfl
 i3:=by kernel_rfl
 i4:=by kernel_rfl
 i5:=by kernel_rfl
 i9:=by kernel_rfl
 i20:=by kernel_rfl
 i37:=by kernel_rfl
 i46:=by kernel_rfl
 i51:=by kernel_rfl
 i53:=by kernel_rfl
 i171:=by kernel_rfl
 i173:=by kernel_rfl
 i212:=by kernel_rfl
 i232:=by kernel_rfl
 i233:=by kernel_rfl
 m17:=by kernel_rfl
 m18:=by kernel_rfl
 m19:=by kernel_rfl }
open Go.RowKit Go.Sort Go.Lib in
def Tryz.strconv_Itoa (n:Int) (b: -9223372036854775808<=n) (c:n<=9223372036854775807) (w:World) (a:Lib.TabIs Tryz.prog w "internal/strconv.uint64pow10" .u64 Lib.pow10Tab) :
  Calls Tryz.prog 67 #[.int .i64 n] w fun e w'=>e= .returned (.string ⟨(Lib.itoa n).toArray⟩)/\∃ k os,w'=grow (w.drewN k) os:=Any.strconv_Itoa Tryz.zt n b c w a
end Go.Proofs
namespace Go.Proofs.T
open Go Go.Ab
section
variable {P:Program}{A9:Env}
def ji {g:Nat}{i:Func}(o:P.funcs[g]? =some i) (p:(i.name== "runtime.NumGoroutine")=false) (n:i.body.isSome=true){v:Value}(r:J8 v=true){Z:St}{O:Ab.Place}{w:World}{vs':List Value}(a:Rel A9 O Z w)
  (d:Calls P g ⟨vs'⟩ w fun e w'=>e= .returned v/\∃ k os,w'=Sort.grow (w.drewN k) os):CM P A9 O g vs' Z w ⟨false,v,Z⟩:=by
 refine⟨i,o,p,.inl ⟨n,d.mono ?_⟩⟩;rintro e w' ⟨rfl,k,os,rfl⟩;have s:=Lib.below_grow w.heap.size w nL k os;have f:=Lib.size_grow w k os;have l:∀ c,c<w.heap.size->(Sort.grow (w.drewN k) os).heap[c]? =w.heap[c]? :=fun c d=>Lib.heap_grow_old w k os c d
 exact⟨v,O,rfl,⟨a.fresh,fun b q B j m=>(a.KV b q B j m).mono (Place.le_refl _) (l _ (a.dom b q j)),fun b q n=>z5z (a.dom b q n) f,a.own,a.sep,a.low.next f fun c d=>l c (z5z d a.low.1)⟩,
  ⟨fun _ _=>rfl,AP _,f,fun c d _=>l c d,fun b q B j m _=>⟨b,q,B,j,rfl,m,fun h=>h⟩,⟨rfl,rfl,rfl⟩,fun _ _ _=>rfl⟩,.J8 r⟩
end
def YC:T7=Lib.pow10Tab.map fun z=>Value.int .u64 z:=kR
def jl:∀ v∈T7,∃ n,v= .int .u64 n:=by
 intro v a;rw[YC]at a;obtain⟨n,-,rfl⟩:=GI.1 a;exact⟨n,rfl⟩
def AK5 {A9:Env}{O:Ab.Place}{Z:St}{w:World}(q:Rel A9 O Z w) (p:CL O 8) (u:Z.read 1 0 20=some T7):Lib.TabIs Tryz.prog w "internal/strconv.uint64pow10" .u64 Lib.pow10Tab:=by
 obtain⟨B,o,v⟩:=A8 (show ob (Z.EI 1) (fun B=>sub B.cells 0 20)=some T7 from u);obtain⟨m,h0,hm⟩:=p 1 om;obtain rfl:=hm rfl rfl;obtain⟨s1,s2⟩:=sub_eq v;obtain⟨arr,e,lo,hi,a1,a2,a3,a4,a5,a6⟩:=q.row 1 _ B h0 o;have r:Tryz.prog.globalNamed "internal/strconv.uint64pow10"=some 1:=kR
 have f:arr.size=20:=a2;have j:arr=(Lib.pow10Tab.map fun z=>Value.int .u64 z).toArray:=by
  rw[<- YC];refine Array.ext (by rw[f];rfl) fun i d s=>?_;have h:T7[i]? =some (T7[i]'(by have:T7.length=20:=rfl;omega)):=List.getElem?_eq_getElem _;have b:B.cells[i]? =T7[i]? :=by
   rw[s2,Ma,List.getElem?_take,z1z om]
  obtain⟨n,g⟩:=jl _ (y6 h);rw[h,g]at b;obtain⟨v',b1,b2⟩:=a6 i _ b;have a:arr[i]? =some v':=by rw[<- b1];show _=arr[0+i]?;rw[Eo]
  have y:v'= .int .u64 n:=by cases b2 with|J8=>rfl
  rw[Array.getElem?_eq_getElem d]at a;have l:=z8z a;rw[l,y,<- g];rfl
 unfold Lib.TabIs World.var?;rw[r];show(match w.heap[1]? with|some (.cells cs _ _)=>some cs|_=>none)=_;have c:w.heap[1]? =some (.cells arr e (lo,hi)):=a1;rw[c,j]
noncomputable def AK6 (vs:List Value) (Z:St):Option CR:=match vs with
 | [.int .i64 n]=>bb (Aj (Z.read 1 0 20) (some T7)) (bb (decide (-9223372036854775808<=n/\n<=9223372036854775807)) (some ⟨false,.string ⟨(Lib.itoa n).toArray⟩,Z⟩))
 |_=>none
def vj {A9:Env}{vs:List Value}{Z:St}{r:CR}(d:∀ x:Option (List Value),Aj x (some T7)=true->x=some T7) (h:AK6 vs Z=some r):Adv Z r.Z/\∀ O w vs' N,Rel A9 O Z w->Cz O Z.n N->r.Z.n<=N->CL O 8->H8 O vs vs'->CM Tryz.prog A9 O 67 vs' Z w r:=by
 unfold AK6 at h;split at h
 ·rename_i n;obtain⟨e,f⟩:=J4 h;obtain⟨a,h4⟩:=J4 f;cases h4;have a:=z6z a;refine⟨.refl _,fun O w vs' N c j l g b=>?_⟩;cases b with
  |cons i b=>
  cases b;cases i;exact ji Tryz.func67 kR rfl rfl c (Tryz.strconv_Itoa n a.1 a.2 w (AK5 c g (d _ e)))
 ·cases h
end Go.Proofs.T
namespace Go.Proofs
open Go.Shelf
def Tryz.XT:Go.Shelf.Ren:=⟨fun|172=>216|244=>229|245=>230|247=>239|279=>240|280=>241|281=>242|282=>243|287=>245|316=>246|171=>67|205=>247|321=>248|322=>249|243=>112|246=>153|283=>188|284=>189|285=>190|286=>191|129=>212|317=>211|318=>213|319=>214|320=>215|337=>227|338=>228|n=>n,fun|9=>9|3=>3|75=>118|76=>119|4=>4|5=>5|167=>258|37=>43|0=>0|85=>259|2=>2|168=>261|53=>180|175=>267|46=>238|210=>271|127=>174|145=>276|143=>274|21=>21|171=>218|173=>221|212=>235|51=>236|20=>20|213=>237|232=>256|233=>257|80=>125|n=>n,fun|15=>6|16=>7|17=>1|18=>4|19=>5|n=>n⟩
def Tryz.fD:Go.Proofs.LaysC.n172 Tryz.prog Tryz.XT:={
 mixed:=by kernel_rfl
 f129:=Tryz.func212.trans (congrArg some (by kernel_rfl))
 f171:=Tryz.func67.trans (congrArg some (by kernel_rfl))
 f172:=Tryz.func216.trans (congrArg some (by kernel_rfl))
 f205:=Tryz.func247.trans (congrArg some (by kernel_rfl))
 f243:=Tryz.func112.trans (congrArg some (by kernel_rfl))
 f244:=Tryz.func229.trans (congrArg some (by kernel_rfl))
 f245:=Tryz.func230.trans (congrArg some (by kernel_rfl))
 f246:=Tryz.func153.trans (congrArg some (by kernel_rfl))
 f247:=Tryz.func239.trans (congrArg some (by kernel_rfl))
 f279:=Tryz.func240.trans (congrArg some (by kernel_rfl))
 f280:=Tryz.func241.trans (congrArg some (by kernel_rfl))
 f281:=Tryz.func242.trans (congrArg some (by kernel_rfl))
 f282:=Tryz.func243.trans (congrArg some (by kernel_rfl))
 f283:=Tryz.func188.trans (congrArg some (by kernel_rfl))
 f284:=Tryz.func189.trans (congrArg some (by kernel_rfl))
 f285:=Tryz.func190.trans (congrArg some (by kernel_rfl))
 f286:=Tryz.func191.trans (congrArg some (by kernel_rfl))
 f287:=Tryz.func245.trans (congrArg some (by kernel_rfl))
 f316:=Tryz.func246.trans (congrArg some (by kernel_rfl))
 f317:=Tryz.func211.trans (congrArg some (by kernel_rfl))
 f318:=Tryz.func213.trans (congrArg some (by kernel_rfl))
 f319:=Tryz.func214.trans (congrArg some (by kernel_rfl))
 f320:=Tryz.func215.trans (congrArg some (by kernel_rfl))
 f321:=Tryz.func248.trans (congrArg some (by kernel_rfl))
 f322:=Tryz.func249.trans (congrArg some (by kernel_rfl))
 f337:=Tryz.func227.trans (congrArg some (by kernel_rfl))
 f338:=Tryz.func228.trans (congrArg some (by kernel_rfl))
 t0:=Tryz.underlying0
 a0:=Tryz.isAgg0
 z0:=Tryz.sizeOf0
 v0:=Tryz.zeroValue0
 t2:=Tryz.underlying2
 a2:=Tryz.isAgg2
 z2:=Tryz.sizeOf2
 v2:=Tryz.zeroValue2
 t3:=Tryz.underlying3
 a3:=Tryz.isAgg3
 z3:=Tryz.sizeOf3
 v3:=Tryz.zeroValue3
 t4:=Tryz.underlying4
 a4:=Tryz.isAgg4
 z4:=Tryz.sizeOf4
 v4:=Tryz.zeroValue4
 t5:=Tryz.underlying5
 a5:=Tryz.isAgg5
 z5:=Tryz.sizeOf5
 v5:=Tryz.zeroValue5
 t9:=Tryz.underlying9
 a9:=Tryz.isAgg9
 z9:=Tryz.sizeOf9
 v9:=Tryz.zeroValue9
 t20:=Tryz.underlying20
 a20:=Tryz.isAgg20
 z20:=Tryz.sizeOf20
 v20:=Tryz.zeroValue20
 t21:=Tryz.underlying21
 a21:=Tryz.isAgg21
 z21:=Tryz.sizeOf21
 v21:=Tryz.zeroValue21
 t37:=Tryz.underlying43
 a37:=Tryz.isAgg43
 z37:=Tryz.sizeOf43
 v37:=Tryz.zeroValue43
 t46:=Tryz.underlying238
 a46:=Tryz.isAgg238
 z46:=Tryz.sizeOf238
 v46:=Tryz.zeroValue238
 t51:=Tryz.underlying236
 a51:=Tryz.isAgg236
 z51:=Tryz.sizeOf236
 v51:=Tryz.zeroValue236
 t53:=Tryz.underlying180
 a53:=Tryz.isAgg180
 z53:=Tryz.sizeOf180
 v53:=Tryz.zeroValue180
 t75:=Tryz.underlying118
 a75:=Tryz.isAgg118
 z75:=Tryz.sizeOf118
 v75:=Tryz.zeroValue118
 t76:=Tryz.underlying119
 a76:=Tryz.isAgg119
 z76:=Tryz.sizeOf119
 v76:=Tryz.zeroValue119
 t85:=Tryz.underlying259
 a85:=Tryz.isAgg259
 z85:=Tryz.sizeOf259
 v85:=Tryz.zeroValue259
 t127:=Tryz.underlying174
 a127:=Tryz.isAgg174
 z127:=Tryz.sizeOf174
 v127:=Tryz.zeroValue174
 t143:=Tryz.underlying274
 a143:=Tryz.isAgg274
 z143:=Tryz.sizeOf274
 v143:=Tryz.zeroValue274
 t145:=Tryz.underlying276
 a145:=Tryz.isAgg276
 z145:=Tryz.sizeOf276
 v145:=Tryz.zeroValue276
 t167:=Tryz.underlying258
 a167:=Tryz.isAgg258
 z167:=Tryz.sizeOf258
 v167:=Tryz.zeroValue258
 t168:=Tryz.underlying261
 a168:=Tryz.isAgg261
 z168:=Tryz.sizeOf261
 v168:=Tryz.zeroValue261
 t171:=Tryz.underlying218
 a171:=Tryz.isAgg218
 z171:=Tryz.sizeOf218
 v171:=Tryz.zeroValue218
 t173:=Tryz.underlying221
 a173:=Tryz.isAgg221
 z173:=Tryz.sizeOf221
 v173:=Tryz.zeroValue221
 t175:=Tryz.underlying267
 a175:=Tryz.isAgg267
 z175:=Tryz.sizeOf267
 v175:=Tryz.zeroValue267
 t210:=Tryz.underlying271
 a210:=Tryz.isAgg271
 z210:=Tryz.sizeOf271
 v210:=Tryz.zeroValue271
 t212:=Tryz.underlying235
 a212:=Tryz.isAgg235
 z212:=Tryz.sizeOf235
 v212:=Tryz.zeroValue235
 t213:=Tryz.underlying237
 a213:=Tryz.isAgg237
 z213:=Tryz.sizeOf237
 t232:=Tryz.underlying256
 a232:=Tryz.isAgg256
 z232:=Tryz.sizeOf256
 v232:=Tryz.zeroValue256
 t233:=Tryz.underlying257
 a233:=Tryz.isAgg257
 z233:=Tryz.sizeOf257
 v233:=Tryz.zeroValue257
 g15:=by kernel_rfl
 g16:=by kernel_rfl
 g17:=by kernel_rfl
 g18:=by kernel_rfl
 g19:=by kernel_rfl
 t80:=Tryz.underlying125
 a80:=Tryz.isAgg125
 z80:=Tryz.sizeOf125
 v80:=Tryz.zeroValue125
 i0:=by kernel_rfl
 i2:=by kernel_rfl
 i3:=by kernel_rfl
 i4:=by kernel_rfl
 i5:=by kernel_rfl
 i9:=by kernel_rfl
 i20:=by kernel_rfl
 i21:=by kernel_rfl
 i37:=by kernel_rfl
 i46:=by kernel_rfl
 i51:=by kernel_rfl
 i53:=by kernel_rfl
 i75:=by kernel_rfl
 i76:=by kernel_rfl
 i80:=by kernel_rfl
 i85:=by kernel_rfl
 i127:=by kernel_rfl
 i143:=by kernel_rfl
 i145:=by kernel_rfl
 i167:=by kernel_rfl
 i168:=by kernel_rfl
 i171:=by kernel_rfl
 i173:=by kernel_rfl
 i175:=by kernel_rfl
 i210:=by kernel_rfl
 i212:=by kernel_rfl
 i232:=by kernel_rfl
 i233:=by kernel_rfl
 m15:=by kernel_rfl
 m16:=by kernel_rfl
 m17:=by kernel_rfl
 m18:=by kernel_rfl
 m19:=by kernel_rfl
 c0:=by kernel_rfl
 c2:=by kernel_rfl
 c3:=by kernel_rfl
 c4:=by kernel_rfl
 c5:=by kernel_rfl
 c9:=by kernel_rfl
 c20:=by kernel_rfl
 c21:=by kernel_rfl
 c37:=by kernel_rfl
 c46:=by kernel_rfl
 c51:=by kernel_rfl
 c53:=by kernel_rfl
 c75:=by kernel_rfl
 c76:=by kernel_rfl
 c80:=by kernel_rfl
 c85:=by kernel_rfl
 c127:=by kernel_rfl
 c143:=by kernel_rfl
 c145:=by kernel_rfl
 c167:=by kernel_rfl
 c168:=by kernel_rfl
 c171:=by kernel_rfl
 c173:=by kernel_rfl
 c175:=by kernel_rfl
 c210:=by kernel_rfl
 c212:=by kernel_rfl
 c213:=by kernel_rfl
 c232:=by kernel_rfl
 c233:=by kernel_rfl }
end Go.Proofs
namespace Go.Proofs.T
open Go Go.Ab
section
variable {s:List UInt8}{Z:St}{w:World}
def AZ (s:List UInt8):Nat:=s.foldl (fun n c=>10*n+(c.toNat-48)) 0
def dg (c:UInt8):Bool:=decide (48<=c.toNat)&&decide (c.toNat<=57)
def ZU:∀ (l:List UInt8) (a:Nat),a<=l.foldl (fun n c=>10*n+(c.toNat-48)) a
 | [],a=>AP _
 |c::r,a=>W5 (show a<=10*a+(c.toNat-48) by omega) (ZU r _)
def Ru:∀ (l:List UInt8) (a:Nat),l.all dg=true->Lib.parseUint10 a l=if l.foldl (fun n c=>10*n+(c.toNat-48)) a<18446744073709551616\/l=[]then .ok (l.foldl (fun n c=>10*n+(c.toNat-48)) a)else .range
 | [],a,_=>by rw[z1z (.inr rfl)];rfl
 | c::r,a,h=>by
   rw[MZ,T1]at h;have hc:=h.1;unfold dg at hc;rw[T1,z3z,z3z]at hc;have i:=ZU r (10*a+(c.toNat-48));have e:a*10+(c.toNat-48)=10*a+(c.toNat-48):=om;rw[TJ];unfold Lib.parseUint10;rw[z1z hc,e];by_cases f:1844674407370955162<=a
   ·rw[z1z f,z0z];rintro(h|h)
    ·omega
    ·cases h
   ·rw [z0z f];by_cases g:18446744073709551616<=10*a+(c.toNat-48)
    ·rw[z1z g,z0z];rintro(h|h)
     ·omega
     ·cases h
    ·rw[z0z g,Ru r _ h.2];cases r with
     |nil=>rw[z1z (.inr rfl),z1z (.inl (by show 10*a+(c.toNat-48)<_;omega))]
     | cons d t=>
       by_cases b:(d::t).foldl (fun n c=>10*n+(c.toNat-48)) (10*a+(c.toNat-48))<18446744073709551616
       ·rw[z1z (.inl b),z1z (.inl b)]
       ·rw[z0z (by rintro(h|h);exact b h;cases h),z0z (by rintro(h|h);exact b h;cases h)]
def lV (h:s.all dg=true) (e:s≠[]):Lib.atoiAll s=if AZ s<9223372036854775808 then .ok (AZ s:Nat)else .range:=by
 cases s with
 |nil=>exact absurd rfl e
 | cons c r=>
   have a:=h;rw[MZ,T1]at a;have a:=a.1;unfold dg at a;rw[T1,z3z,z3z]at a;rw[Lib.atoiAll_plain c r om om];unfold Lib.parseMag;rw[z0z (by simp),Ru _ _ h];have ev:(c::r).foldl (fun n c=>10*n+(c.toNat-48)) 0=AZ (c::r):=rfl;rw[ev];by_cases b:AZ (c::r)<18446744073709551616
   ·rw[z1z (Or.inl b)];unfold Lib.signless;by_cases d:AZ (c::r)<9223372036854775808
    ·rw[z1z d];simp only;rw[z0z om]
    ·rw[z0z d];simp only;rw[z1z om]
   ·rw[z0z (by rintro(h|h);exact b h;cases h),z0z om];rfl
def sL (h:s.all dg=true) (b:s≠[]):Lib.atoiSat s=9223372036854775807:=by
 cases s with
 |nil=>exact absurd rfl b
 | cons c r=>
   have a:=h;rw[MZ,T1]at a;have a:=a.1;unfold dg at a;rw[T1,z3z,z3z]at a;exact Lib.atoiSat_other c r om
section
variable {P:Program}{A9:Env}
def lW {O:Ab.Place}{w':World}(h:Rel A9 O Z w) (y:O Z.n=none){N:Nat}{arr:Array Value}{e:TypeId}(u:w.heap.size<=N) (f:w'.heap[N]? =some (.cells arr e (0,0))) (a:Go.RowKit.Below w.heap.size w w'):
  Rel A9 (O.put Z.n ⟨N,0,arr.size⟩) (Z.new []) w'/\AS O Z w (O.put Z.n ⟨N,0,arr.size⟩) (Z.new []) w':=by
 have g:N<w'.heap.size:=by
  rcases AH N w'.heap.size with o|o
  ·exact o
  ·rw[Array.getElem?_eq_none o]at f;cases f
 refine⟨h.put y ⟨arr,e,0,0,f,rfl,by show 0+0<=arr.size;omega,fun _=> .inr nL,fun v z=>absurd z (by simp),fun i v hi=>absurd hi (by simp)⟩ a.size (fun c l _=>a.block c l) g (W5 h.low.1 u) (fun b r j _=>by have:=h.dom b r j;show r.c≠N;omega) Typed.none,⟨?_,?_,a.size,fun c l _=>a.block c l,?_,⟨a.os,a.tape,a.output⟩,fun b A _=>Tr.L8 _ _ om⟩⟩
 ·intro b a;refine Place.Ax _ _ ?_;rcases a with a|a
  ·omega
  ·change Z.n+1<=b at a;omega
 ·show Z.n<=Z.n+1;omega
 ·intro b q B a p m;by_cases d:b=Z.n
  ·subst d;rw[Ab.Place.S9]at a;cases a;change N<w.heap.size at m;omega
  ·rw[Ab.Place.Ax _ _ d]at a;rw[LY _ _ d]at p;exact⟨b,q,B,a,rfl,p,fun h=>h⟩
end
def Lz (w:World):Prop:=∃ ev,w.cell? ⟨7,0,none⟩=some ev/\(ev= .nilIface\/∃ te pe,ev= .iface te pe)
def Lz.low {A9:Env}(h:Lz A9.w0) (d:8<=A9.lo) (c:A9.Low w):Lz w:=by
 obtain⟨ev,a,b⟩:=h;refine⟨ev,?_,b⟩;have e:=c.2 7 om;unfold World.cell? at a ⊢;dsimp only at a ⊢;rw[e];exact a
noncomputable def AM8 (vs:List Value) (Z:St):Option CR:=match vs with
 | [.string s]=>bb (s.data.toList.all dg&&decide (s.data.toList≠[])&&decide (s.size<=1000000000)) (bi (decide (AZ s.data.toList<9223372036854775808)) (some ⟨false,.tuple ⟨[.int .i64 (AZ s.data.toList:Nat),.nilIface]⟩,Z⟩)
    (some ⟨false,.tuple ⟨[.int .i64 9223372036854775807,.iface 261 (.pointer (some ⟨Z.n,0,none⟩))]⟩,Z.new []⟩))
 |_=>none
def yN {A9:Env}(z:8<=A9.lo) (q:Lz A9.w0){vs:List Value}{r:CR}(h:AM8 vs Z=some r):Adv Z r.Z/\∀ O w vs' N,Rel A9 O Z w->Cz O Z.n N->r.Z.n<=N->CL O 8->H8 O vs vs'->CM Tryz.prog A9 O 216 vs' Z w r:=by
 unfold AM8 at h;split at h
 ·rename_i s;obtain⟨j,c⟩:=J4 h;rw[T1,T1,z3z,z3z]at j;obtain⟨⟨hd,hne⟩,hsz⟩:=j;have b:=lV hd hne;cases a:decide (AZ s.data.toList<9223372036854775808)with
  | true=>
    rw[a]at c;rw[z1z (z6z a)]at b;cases c;refine⟨.refl _,fun O w vs' N d l m u a=>?_⟩;cases a with
    |cons i a=>
    cases a;cases i;refine Mw (v':= .tuple #[.int .i64 (AZ s.data.toList:Nat),.nilIface]) Tryz.func216 rfl rfl d ((Any.strconv_Atoi_ok Tryz.fD s om _ b w).mono ?_) (.tuple (.cons (.J8 rfl) (.cons (.J8 rfl) .nil)));rintro e w' ⟨rfl,A⟩;refine⟨rfl,?_⟩;rcases A with rfl|⟨t,rfl⟩
    ·exact .refl _ _
    ·exact Lib.bytesWorld_below _ _ _
  | false=>
    rw[a]at c;rw[z0z (z9z a)]at b;cases c;refine⟨Adv.new _ _,fun O w vs' N d l m u a=>?_⟩;cases a with
    |cons i a=>
    cases a;cases i;obtain⟨ev,y,g⟩:=q.low z d.low;refine⟨Tryz.f216,Tryz.func216,rfl,.inl ⟨rfl,(Any.strconv_Atoi_range Tryz.fD s om b ev w y g).mono ?_⟩⟩;rintro e w' ⟨M,rfl,v,o,f⟩;have p:O Z.n=none:=l _ nL (by have:Z.n+1<=N:=m;omega);obtain⟨k1,k2⟩:=lW d p v o f;refine⟨_,_,rfl,k1,k2,?_⟩;rw[sL hd hne];exact .tuple (.cons (.J8 rfl) (.cons (.iface (.ptr (Ab.Place.S9 _ _ _))) .nil))
 ·cases h
end
end Go.Proofs.T
