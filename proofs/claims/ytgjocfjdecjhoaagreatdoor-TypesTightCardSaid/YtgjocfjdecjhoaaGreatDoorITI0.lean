/-
  gw: THE gx Um AT Ao6 Ao7, IN AM5 AM6 (tools/lay-plain.mjs out of 'TItoaShelf.AM7, which tools/lay-AM8.mjs wrote): THE pw NC AM9 THE pw AN0: 'import', 'namespace', 'open', 'def', 'theorem' AND gy Ao8: no command of the gz: FOR A Ao9-IN. Ap0 qA: the table of numbers ('..AN1) and one theorem, a field a fact of the dump's own or the kernel's Ix; each Yr: ONE PU.
-/
import Derived.Shelf.Strconv.Itoa3
import Derived.Test.YtgjocfjdecjhoaaGreatDoorITSan
import Derived.Lib.AppendIntMem
import Derived.Shelf.Strconv.AtoiAll
set_option linter.unusedSimpArgs false
set_option linter.unusedVariables false
set_option linter.defProp false
set_option maxHeartbeats 32000000
set_option maxRecDepth 100000
namespace Go.Proofs
open Go.Shelf
def Tryz.cd:Go.Shelf.Ren:=⟨fun|171=>35|243=>78|246=>140|283=>186|284=>187|285=>188|286=>189|129=>216|317=>215|318=>217|319=>218|320=>219|337=>248|338=>249|n=>n,fun|3=>3|9=>9|2=>2|4=>4|171=>224|0=>0|53=>101|37=>199|5=>5|173=>227|212=>253|51=>254|20=>20|213=>255|46=>182|232=>286|233=>287|n=>n,fun|17=>0|18=>3|19=>4|n=>n⟩
def Tryz.AK1:Go.Proofs.LaysM.n171 Tryz.prog Tryz.cd:={
 mixed:=by kernel_rfl
 f129:=Tryz.func216.trans (congrArg some (by kernel_rfl))
 f171:=Tryz.func35.trans (congrArg some (by kernel_rfl))
 f243:=Tryz.func78.trans (congrArg some (by kernel_rfl))
 f246:=Tryz.func140.trans (congrArg some (by kernel_rfl))
 f283:=Tryz.func186.trans (congrArg some (by kernel_rfl))
 f284:=Tryz.func187.trans (congrArg some (by kernel_rfl))
 f285:=Tryz.func188.trans (congrArg some (by kernel_rfl))
 f286:=Tryz.func189.trans (congrArg some (by kernel_rfl))
 f317:=Tryz.func215.trans (congrArg some (by kernel_rfl))
 f318:=Tryz.func217.trans (congrArg some (by kernel_rfl))
 f319:=Tryz.func218.trans (congrArg some (by kernel_rfl))
 f320:=Tryz.func219.trans (congrArg some (by kernel_rfl))
 f337:=Tryz.func248.trans (congrArg some (by kernel_rfl))
 f338:=Tryz.func249.trans (congrArg some (by kernel_rfl))
 t0:=Tryz.underlying0
 a0:=Tryz.isAgg0
 z0:=Tryz.sizeOf0
 v0:=Tryz.zeroValue0
 t2:=Tryz.underlying2
 a2:=Tryz.isAgg2
 z2:=Tryz.sizeOf2
 v2:=Tryz.zeroValue2
 t3:=Tryz.underlying3
 a3:=Tryz.isAgg3
 z3:=Tryz.sizeOf3
 v3:=Tryz.zeroValue3
 t4:=Tryz.underlying4
 a4:=Tryz.isAgg4
 z4:=Tryz.sizeOf4
 v4:=Tryz.zeroValue4
 t5:=Tryz.underlying5
 a5:=Tryz.isAgg5
 z5:=Tryz.sizeOf5
 v5:=Tryz.zeroValue5
 t9:=Tryz.underlying9
 a9:=Tryz.isAgg9
 z9:=Tryz.sizeOf9
 v9:=Tryz.zeroValue9
 t20:=Tryz.underlying20
 a20:=Tryz.isAgg20
 z20:=Tryz.sizeOf20
 v20:=Tryz.zeroValue20
 t37:=Tryz.underlying199
 a37:=Tryz.isAgg199
 z37:=Tryz.sizeOf199
 v37:=Tryz.zeroValue199
 t46:=Tryz.underlying182
 a46:=Tryz.isAgg182
 z46:=Tryz.sizeOf182
 v46:=Tryz.zeroValue182
 t51:=Tryz.underlying254
 a51:=Tryz.isAgg254
 z51:=Tryz.sizeOf254
 v51:=Tryz.zeroValue254
 t53:=Tryz.underlying101
 a53:=Tryz.isAgg101
 z53:=Tryz.sizeOf101
 v53:=Tryz.zeroValue101
 t171:=Tryz.underlying224
 a171:=Tryz.isAgg224
 z171:=Tryz.sizeOf224
 v171:=Tryz.zeroValue224
 t173:=Tryz.underlying227
 a173:=Tryz.isAgg227
 z173:=Tryz.sizeOf227
 v173:=Tryz.zeroValue227
 t212:=Tryz.underlying253
 a212:=Tryz.isAgg253
 z212:=Tryz.sizeOf253
 v212:=Tryz.zeroValue253
 t213:=Tryz.underlying255
 a213:=Tryz.isAgg255
 z213:=Tryz.sizeOf255
 t232:=Tryz.underlying286
 a232:=Tryz.isAgg286
 z232:=Tryz.sizeOf286
 v232:=Tryz.zeroValue286
 t233:=Tryz.underlying287
 a233:=Tryz.isAgg287
 z233:=Tryz.sizeOf287
 v233:=Tryz.zeroValue287
 g17:=by kernel_rfl
 g18:=by kernel_rfl
 g19:=by kernel_rfl
 i0:=by kernel_rfl
 i2:=by kernel_rfl
 i3:=by kernel_rfl
 i4:=by kernel_rfl
 i5:=by kernel_rfl
 i9:=by kernel_rfl
 i20:=by kernel_rfl
 i37:=by kernel_rfl
 i46:=by kernel_rfl
 i51:=by kernel_rfl
 i53:=by kernel_rfl
 i171:=by kernel_rfl
 i173:=by kernel_rfl
 i212:=by kernel_rfl
 i232:=by kernel_rfl
 i233:=by kernel_rfl
 m17:=by kernel_rfl
 m18:=by kernel_rfl
 m19:=by kernel_rfl }
open Go.RowKit Go.Sort Go.Lib in
def Tryz.strconv_Itoa (n:Int) (b: -9223372036854775808<=n) (c:n<=9223372036854775807) (w:World) (a:Lib.TabIs Tryz.prog w "internal/strconv.uint64pow10" .u64 Lib.pow10Tab) :
  Calls Tryz.prog 35 #[.int .i64 n] w fun e w'=>e= .returned (.string ⟨(Lib.itoa n).toArray⟩)/\∃ k os,w'=grow (w.drewN k) os:=Any.strconv_Itoa Tryz.AK1 n b c w a
end Go.Proofs
namespace Go.Proofs.T
open Go Go.Ab
section
variable {P:Program}{B8:Env}
def lZ {g:Nat}{fn:Func}(n:P.funcs[g]? =some fn) (o:(fn.name== "runtime.NumGoroutine")=false) (m:fn.body.isSome=true){v:Value}(p:I3 v=true){Z:St}{O:Ab.Place}{w:World}{vs':List Value}(a:Rel B8 O Z w)
  (d:Calls P g ⟨vs'⟩ w fun e w'=>e= .returned v/\∃ k os,w'=Sort.grow (w.drewN k) os):CW P B8 O g vs' Z w ⟨false,v,Z⟩:=by
 refine⟨fn,n,o,.inl ⟨m,d.mono ?_⟩⟩;rintro e w' ⟨rfl,k,os,rfl⟩;have r:=Lib.below_grow w.heap.size w nL k os;have f:=Lib.size_grow w k os;have j:∀ c,c<w.heap.size->(Sort.grow (w.drewN k) os).heap[c]? =w.heap[c]? :=fun c d=>Lib.heap_grow_old w k os c d
 exact⟨v,O,rfl,⟨a.fresh,fun b q B i l=>(a.IQ b q B i l).mono (Place.le_refl _) (j _ (a.dom b q i)),fun b q m=>z5z (a.dom b q m) f,a.own,a.sep,a.low.next f fun c d=>j c (z5z d a.low.1)⟩,
  ⟨fun _ _=>rfl,Bh _,f,fun c d _=>j c d,fun b q B i l _=>⟨b,q,B,i,rfl,l,fun h=>h⟩,⟨rfl,rfl,rfl⟩,fun _ _ _=>rfl⟩,.I3 p⟩
end
def Zd:AO=Lib.pow10Tab.map fun z=>Value.int .u64 z:=kR
def ld:∀ v∈AO,∃ n,v= .int .u64 n:=by
 intro v a;rw[Zd]at a;obtain⟨n,-,rfl⟩:=eE.1 a;exact⟨n,rfl⟩
def AX8 {B8:Env}{O:Ab.Place}{Z:St}{w:World}(p:Rel B8 O Z w) (o:Bw O 10) (s:Z.read 0 0 20=some AO):Lib.TabIs Tryz.prog w "internal/strconv.uint64pow10" .u64 Lib.pow10Tab:=by
 obtain⟨B,l,u⟩:=A8 (show ob (Z.Gc 0) (fun B=>sub B.cells 0 20)=some AO from s);obtain⟨m,h0,hm⟩:=o 0 om;obtain rfl:=hm rfl rfl;obtain⟨s1,s2⟩:=sub_eq u;obtain⟨arr,e,lo,hi,a1,a2,a3,a4,a5,a6⟩:=p.row 0 _ B h0 l;have q:Tryz.prog.globalNamed "internal/strconv.uint64pow10"=some 0:=kR
 have f:arr.size=20:=a2;have j:arr=(Lib.pow10Tab.map fun z=>Value.int .u64 z).toArray:=by
  rw[<- Zd];refine Array.ext (by rw[f];rfl) fun i d r=>?_;have h:AO[i]? =some (AO[i]'(by have:AO.length=20:=rfl;omega)):=List.getElem?_eq_getElem _;have b:B.cells[i]? =AO[i]? :=by
   rw[s2,NG,List.getElem?_take,z1z om]
  obtain⟨n,g⟩:=ld _ (Ag h);rw[h,g]at b;obtain⟨v',b1,b2⟩:=a6 i _ b;have a:arr[i]? =some v':=by rw[<- b1];show _=arr[0+i]?;rw[GK]
  have v:v'= .int .u64 n:=by cases b2 with|I3=>rfl
  rw[Array.getElem?_eq_getElem d]at a;have k:=z8z a;rw[k,v,<- g];rfl
 unfold Lib.TabIs World.var?;rw[q];show(match w.heap[0]? with|some (.cells cs _ _)=>some cs|_=>none)=_;have c:w.heap[0]? =some (.cells arr e (lo,hi)):=a1;rw[c,j]
noncomputable def AX9 (a:List Value) (Z:St):Option CR:=match a with
 | [.int .i64 n]=>bb (Cy (Z.read 0 0 20) (some AO)) (bb (decide (-9223372036854775808<=n/\n<=9223372036854775807)) (some ⟨false,.string ⟨(Lib.itoa n).toArray⟩,Z⟩))
 |_=>none
def yu {B8:Env}{d:List Value}{Z:St}{r:CR}(e:∀ x:Option (List Value),Cy x (some AO)=true->x=some AO) (h:AX9 d Z=some r):Adv Z r.Z/\∀ O w vs' N,Rel B8 O Z w->Co O Z.n N->r.Z.n<=N->Bw O 10->F8 O d vs'->CW Tryz.prog B8 O 35 vs' Z w r:=by
 unfold AX9 at h;split at h
 ·rename_i n;obtain⟨f,g⟩:=H9 h;obtain⟨a,h4⟩:=H9 g;cases h4;have a:=z6z a;refine⟨.refl _,fun O w vs' N c k l i b=>?_⟩;cases b with
  |cons j b=>
  cases b;cases j;exact lZ Tryz.func35 kR rfl rfl c (Tryz.strconv_Itoa n a.1 a.2 w (AX8 c i (e _ f)))
 ·cases h
end Go.Proofs.T
namespace Go.Proofs
open Go.Shelf
def Tryz.ZD:Go.Shelf.Ren:=⟨fun|172=>290|244=>297|245=>298|247=>299|279=>300|280=>301|281=>302|282=>303|287=>304|316=>305|171=>35|205=>306|321=>307|322=>308|243=>78|246=>140|283=>186|284=>187|285=>188|286=>189|129=>216|317=>215|318=>217|319=>218|320=>219|337=>248|338=>249|n=>n,fun|9=>9|3=>3|75=>203|76=>204|4=>4|5=>5|167=>303|37=>199|0=>0|85=>304|2=>2|168=>306|53=>101|175=>309|46=>182|210=>313|127=>234|145=>318|143=>316|21=>21|171=>224|173=>227|212=>253|51=>254|20=>20|213=>255|232=>286|233=>287|80=>209|n=>n,fun|15=>8|16=>9|17=>0|18=>3|19=>4|n=>n⟩
def Tryz.iM:Go.Proofs.LaysC.n172 Tryz.prog Tryz.ZD:={
 mixed:=by kernel_rfl
 f129:=Tryz.func216.trans (congrArg some (by kernel_rfl))
 f171:=Tryz.func35.trans (congrArg some (by kernel_rfl))
 f172:=Tryz.func290.trans (congrArg some (by kernel_rfl))
 f205:=Tryz.func306.trans (congrArg some (by kernel_rfl))
 f243:=Tryz.func78.trans (congrArg some (by kernel_rfl))
 f244:=Tryz.func297.trans (congrArg some (by kernel_rfl))
 f245:=Tryz.func298.trans (congrArg some (by kernel_rfl))
 f246:=Tryz.func140.trans (congrArg some (by kernel_rfl))
 f247:=Tryz.func299.trans (congrArg some (by kernel_rfl))
 f279:=Tryz.func300.trans (congrArg some (by kernel_rfl))
 f280:=Tryz.func301.trans (congrArg some (by kernel_rfl))
 f281:=Tryz.func302.trans (congrArg some (by kernel_rfl))
 f282:=Tryz.func303.trans (congrArg some (by kernel_rfl))
 f283:=Tryz.func186.trans (congrArg some (by kernel_rfl))
 f284:=Tryz.func187.trans (congrArg some (by kernel_rfl))
 f285:=Tryz.func188.trans (congrArg some (by kernel_rfl))
 f286:=Tryz.func189.trans (congrArg some (by kernel_rfl))
 f287:=Tryz.func304.trans (congrArg some (by kernel_rfl))
 f316:=Tryz.func305.trans (congrArg some (by kernel_rfl))
 f317:=Tryz.func215.trans (congrArg some (by kernel_rfl))
 f318:=Tryz.func217.trans (congrArg some (by kernel_rfl))
 f319:=Tryz.func218.trans (congrArg some (by kernel_rfl))
 f320:=Tryz.func219.trans (congrArg some (by kernel_rfl))
 f321:=Tryz.func307.trans (congrArg some (by kernel_rfl))
 f322:=Tryz.func308.trans (congrArg some (by kernel_rfl))
 f337:=Tryz.func248.trans (congrArg some (by kernel_rfl))
 f338:=Tryz.func249.trans (congrArg some (by kernel_rfl))
 t0:=Tryz.underlying0
 a0:=Tryz.isAgg0
 z0:=Tryz.sizeOf0
 v0:=Tryz.zeroValue0
 t2:=Tryz.underlying2
 a2:=Tryz.isAgg2
 z2:=Tryz.sizeOf2
 v2:=Tryz.zeroValue2
 t3:=Tryz.underlying3
 a3:=Tryz.isAgg3
 z3:=Tryz.sizeOf3
 v3:=Tryz.zeroValue3
 t4:=Tryz.underlying4
 a4:=Tryz.isAgg4
 z4:=Tryz.sizeOf4
 v4:=Tryz.zeroValue4
 t5:=Tryz.underlying5
 a5:=Tryz.isAgg5
 z5:=Tryz.sizeOf5
 v5:=Tryz.zeroValue5
 t9:=Tryz.underlying9
 a9:=Tryz.isAgg9
 z9:=Tryz.sizeOf9
 v9:=Tryz.zeroValue9
 t20:=Tryz.underlying20
 a20:=Tryz.isAgg20
 z20:=Tryz.sizeOf20
 v20:=Tryz.zeroValue20
 t21:=Tryz.underlying21
 a21:=Tryz.isAgg21
 z21:=Tryz.sizeOf21
 v21:=Tryz.zeroValue21
 t37:=Tryz.underlying199
 a37:=Tryz.isAgg199
 z37:=Tryz.sizeOf199
 v37:=Tryz.zeroValue199
 t46:=Tryz.underlying182
 a46:=Tryz.isAgg182
 z46:=Tryz.sizeOf182
 v46:=Tryz.zeroValue182
 t51:=Tryz.underlying254
 a51:=Tryz.isAgg254
 z51:=Tryz.sizeOf254
 v51:=Tryz.zeroValue254
 t53:=Tryz.underlying101
 a53:=Tryz.isAgg101
 z53:=Tryz.sizeOf101
 v53:=Tryz.zeroValue101
 t75:=Tryz.underlying203
 a75:=Tryz.isAgg203
 z75:=Tryz.sizeOf203
 v75:=Tryz.zeroValue203
 t76:=Tryz.underlying204
 a76:=Tryz.isAgg204
 z76:=Tryz.sizeOf204
 v76:=Tryz.zeroValue204
 t85:=Tryz.underlying304
 a85:=Tryz.isAgg304
 z85:=Tryz.sizeOf304
 v85:=Tryz.zeroValue304
 t127:=Tryz.underlying234
 a127:=Tryz.isAgg234
 z127:=Tryz.sizeOf234
 v127:=Tryz.zeroValue234
 t143:=Tryz.underlying316
 a143:=Tryz.isAgg316
 z143:=Tryz.sizeOf316
 v143:=Tryz.zeroValue316
 t145:=Tryz.underlying318
 a145:=Tryz.isAgg318
 z145:=Tryz.sizeOf318
 v145:=Tryz.zeroValue318
 t167:=Tryz.underlying303
 a167:=Tryz.isAgg303
 z167:=Tryz.sizeOf303
 v167:=Tryz.zeroValue303
 t168:=Tryz.underlying306
 a168:=Tryz.isAgg306
 z168:=Tryz.sizeOf306
 v168:=Tryz.zeroValue306
 t171:=Tryz.underlying224
 a171:=Tryz.isAgg224
 z171:=Tryz.sizeOf224
 v171:=Tryz.zeroValue224
 t173:=Tryz.underlying227
 a173:=Tryz.isAgg227
 z173:=Tryz.sizeOf227
 v173:=Tryz.zeroValue227
 t175:=Tryz.underlying309
 a175:=Tryz.isAgg309
 z175:=Tryz.sizeOf309
 v175:=Tryz.zeroValue309
 t210:=Tryz.underlying313
 a210:=Tryz.isAgg313
 z210:=Tryz.sizeOf313
 v210:=Tryz.zeroValue313
 t212:=Tryz.underlying253
 a212:=Tryz.isAgg253
 z212:=Tryz.sizeOf253
 v212:=Tryz.zeroValue253
 t213:=Tryz.underlying255
 a213:=Tryz.isAgg255
 z213:=Tryz.sizeOf255
 t232:=Tryz.underlying286
 a232:=Tryz.isAgg286
 z232:=Tryz.sizeOf286
 v232:=Tryz.zeroValue286
 t233:=Tryz.underlying287
 a233:=Tryz.isAgg287
 z233:=Tryz.sizeOf287
 v233:=Tryz.zeroValue287
 g15:=by kernel_rfl
 g16:=by kernel_rfl
 g17:=by kernel_rfl
 g18:=by kernel_rfl
 g19:=by kernel_rfl
 t80:=Tryz.underlying209
 a80:=Tryz.isAgg209
 z80:=Tryz.sizeOf209
 v80:=Tryz.zeroValue209
 i0:=by kernel_rfl
 i2:=by kernel_rfl
 i3:=by kernel_rfl
 i4:=by kernel_rfl
 i5:=by kernel_rfl
 i9:=by kernel_rfl
 i20:=by kernel_rfl
 i21:=by kernel_rfl
 i37:=by kernel_rfl
 i46:=by kernel_rfl
 i51:=by kernel_rfl
 i53:=by kernel_rfl
 i75:=by kernel_rfl
 i76:=by kernel_rfl
 i80:=by kernel_rfl
 i85:=by kernel_rfl
 i127:=by kernel_rfl
 i143:=by kernel_rfl
 i145:=by kernel_rfl
 i167:=by kernel_rfl
 i168:=by kernel_rfl
 i171:=by kernel_rfl
 i173:=by kernel_rfl
 i175:=by kernel_rfl
 i210:=by kernel_rfl
 i212:=by kernel_rfl
 i232:=by kernel_rfl
 i233:=by kernel_rfl
 m15:=by kernel_rfl
 m16:=by kernel_rfl
 m17:=by kernel_rfl
 m18:=by kernel_rfl
 m19:=by kernel_rfl
 c0:=by kernel_rfl
 c2:=by kernel_rfl
 c3:=by kernel_rfl
 c4:=by kernel_rfl
 c5:=by kernel_rfl
 c9:=by kernel_rfl
 c20:=by kernel_rfl
 c21:=by kernel_rfl
 c37:=by kernel_rfl
 c46:=by kernel_rfl
 c51:=by kernel_rfl
 c53:=by kernel_rfl
 c75:=by kernel_rfl
 c76:=by kernel_rfl
 c80:=by kernel_rfl
 c85:=by kernel_rfl
 c127:=by kernel_rfl
 c143:=by kernel_rfl
 c145:=by kernel_rfl
 c167:=by kernel_rfl
 c168:=by kernel_rfl
 c171:=by kernel_rfl
 c173:=by kernel_rfl
 c175:=by kernel_rfl
 c210:=by kernel_rfl
 c212:=by kernel_rfl
 c213:=by kernel_rfl
 c232:=by kernel_rfl
 c233:=by kernel_rfl }
end Go.Proofs
namespace Go.Proofs.T
open Go Go.Ab
section
variable {s:List UInt8}{Z:St}{w:World}
def GX (s:List UInt8):Nat:=s.foldl (fun n c=>10*n+(c.toNat-48)) 0
def dg (c:UInt8):Bool:=decide (48<=c.toNat)&&decide (c.toNat<=57)
def bZ:∀ (l:List UInt8) (a:Nat),a<=l.foldl (fun n c=>10*n+(c.toNat-48)) a
 | [],a=>Bh _
 |c::r,a=>j9 (show a<=10*a+(c.toNat-48) by omega) (bZ r _)
def Te:∀ (l:List UInt8) (a:Nat),l.all dg=true->Lib.parseUint10 a l=if l.foldl (fun n c=>10*n+(c.toNat-48)) a<18446744073709551616\/l=[]then .ok (l.foldl (fun n c=>10*n+(c.toNat-48)) a)else .range
 | [],a,_=>by rw[z1z (.inr rfl)];rfl
 | c::r,a,h=>by
   rw[Od,R2]at h;have hc:=h.1;unfold dg at hc;rw[R2,z3z,z3z]at hc;have i:=bZ r (10*a+(c.toNat-48));have e:a*10+(c.toNat-48)=10*a+(c.toNat-48):=om;rw[YW];unfold Lib.parseUint10;rw[z1z hc,e];by_cases f:1844674407370955162<=a
   ·rw[z1z f,z0z];rintro(h|h)
    ·omega
    ·cases h
   ·rw [z0z f];by_cases g:18446744073709551616<=10*a+(c.toNat-48)
    ·rw[z1z g,z0z];rintro(h|h)
     ·omega
     ·cases h
    ·rw[z0z g,Te r _ h.2];cases r with
     |nil=>rw[z1z (.inr rfl),z1z (.inl (by show 10*a+(c.toNat-48)<_;omega))]
     | cons d t=>
       by_cases b:(d::t).foldl (fun n c=>10*n+(c.toNat-48)) (10*a+(c.toNat-48))<18446744073709551616
       ·rw[z1z (.inl b),z1z (.inl b)]
       ·rw[z0z (by rintro(h|h);exact b h;cases h),z0z (by rintro(h|h);exact b h;cases h)]
def nh (h:s.all dg=true) (e:s≠[]):Lib.atoiAll s=if GX s<9223372036854775808 then .ok (GX s:Nat)else .range:=by
 cases s with
 |nil=>exact absurd rfl e
 | cons c r=>
   have a:=h;rw[Od,R2]at a;have a:=a.1;unfold dg at a;rw[R2,z3z,z3z]at a;rw[Lib.atoiAll_plain c r om om];unfold Lib.parseMag;rw[z0z (by simp),Te _ _ h];have ev:(c::r).foldl (fun n c=>10*n+(c.toNat-48)) 0=GX (c::r):=rfl;rw[ev];by_cases b:GX (c::r)<18446744073709551616
   ·rw[z1z (Or.inl b)];unfold Lib.signless;by_cases d:GX (c::r)<9223372036854775808
    ·rw[z1z d];simp only;rw[z0z om]
    ·rw[z0z d];simp only;rw[z1z om]
   ·rw[z0z (by rintro(h|h);exact b h;cases h),z0z om];rfl
def ux (h:s.all dg=true) (b:s≠[]):Lib.atoiSat s=9223372036854775807:=by
 cases s with
 |nil=>exact absurd rfl b
 | cons c r=>
   have a:=h;rw[Od,R2]at a;have a:=a.1;unfold dg at a;rw[R2,z3z,z3z]at a;exact Lib.atoiSat_other c r om
section
variable {P:Program}{B8:Env}
def ni {O:Ab.Place}{w':World}(h:Rel B8 O Z w) (u:O Z.n=none){N:Nat}{arr:Array Value}{e:TypeId}(r:w.heap.size<=N) (f:w'.heap[N]? =some (.cells arr e (0,0))) (a:Go.RowKit.Below w.heap.size w w'):
  Rel B8 (O.put Z.n ⟨N,0,arr.size⟩) (Z.new []) w'/\Y6 O Z w (O.put Z.n ⟨N,0,arr.size⟩) (Z.new []) w':=by
 have g:N<w'.heap.size:=by
  rcases AU N w'.heap.size with m|m
  ·exact m
  ·rw[Array.getElem?_eq_none m]at f;cases f
 refine⟨h.put u ⟨arr,e,0,0,f,rfl,by show 0+0<=arr.size;omega,fun _=> .inr nL,fun v y=>absurd y (by simp),fun i v hi=>absurd hi (by simp)⟩ a.size (fun c k _=>a.block c k) g (j9 h.low.1 r) (fun b p j _=>by have:=h.dom b p j;show p.c≠N;omega) Typed.none,⟨?_,?_,a.size,fun c k _=>a.block c k,?_,⟨a.os,a.tape,a.output⟩,fun b z _=>Tr.M7 _ _ om⟩⟩
 ·intro b a;refine Place.Ak _ _ ?_;rcases a with a|a
  ·omega
  ·change Z.n+1<=b at a;omega
 ·show Z.n<=Z.n+1;omega
 ·intro b q B a o l;by_cases d:b=Z.n
  ·subst d;rw[Ab.Place.R0]at a;cases a;change N<w.heap.size at l;omega
  ·rw[Ab.Place.Ak _ _ d]at a;rw[Ly _ _ d]at o;exact⟨b,q,B,a,rfl,o,fun h=>h⟩
end
def Kb (w:World):Prop:=∃ ev,w.cell? ⟨9,0,none⟩=some ev/\(ev= .nilIface\/∃ te pe,ev= .iface te pe)
def Kb.low {B8:Env}(h:Kb B8.w0) (d:10<=B8.lo) (c:B8.Low w):Kb w:=by
 obtain⟨ev,a,b⟩:=h;refine⟨ev,?_,b⟩;have e:=c.2 9 om;unfold World.cell? at a ⊢;dsimp only at a ⊢;rw[e];exact a
noncomputable def AZ8 (a:List Value) (Z:St):Option CR:=match a with
 | [.string s]=>bb (s.data.toList.all dg&&decide (s.data.toList≠[])&&decide (s.size<=1000000000)) (bi (decide (GX s.data.toList<9223372036854775808)) (some ⟨false,.tuple ⟨[.int .i64 (GX s.data.toList:Nat),.nilIface]⟩,Z⟩)
    (some ⟨false,.tuple ⟨[.int .i64 9223372036854775807,.iface 306 (.pointer (some ⟨Z.n,0,none⟩))]⟩,Z.new []⟩))
 |_=>none
def AF3 {B8:Env}(z:10<=B8.lo) (q:Kb B8.w0){m:List Value}{r:CR}(h:AZ8 m Z=some r):Adv Z r.Z/\∀ O w vs' N,Rel B8 O Z w->Co O Z.n N->r.Z.n<=N->Bw O 10->F8 O m vs'->CW Tryz.prog B8 O 290 vs' Z w r:=by
 unfold AZ8 at h;split at h
 ·rename_i s;obtain⟨j,c⟩:=H9 h;rw[R2,R2,z3z,z3z]at j;obtain⟨⟨hd,hne⟩,hsz⟩:=j;have b:=nh hd hne;cases a:decide (GX s.data.toList<9223372036854775808)with
  | true=>
    rw[a]at c;rw[z1z (z6z a)]at b;cases c;refine⟨.refl _,fun O w vs' N d k l u a=>?_⟩;cases a with
    |cons i a=>
    cases a;cases i;refine Nh (v':= .tuple #[.int .i64 (GX s.data.toList:Nat),.nilIface]) Tryz.func290 rfl rfl d ((Any.strconv_Atoi_ok Tryz.iM s om _ b w).mono ?_) (.tuple (.cons (.I3 rfl) (.cons (.I3 rfl) .nil)));rintro e w' ⟨rfl,A⟩;refine⟨rfl,?_⟩;rcases A with rfl|⟨t,rfl⟩
    ·exact .refl _ _
    ·exact Lib.bytesWorld_below _ _ _
  | false=>
    rw[a]at c;rw[z0z (z9z a)]at b;cases c;refine⟨Adv.new _ _,fun O w vs' N d k l u a=>?_⟩;cases a with
    |cons i a=>
    cases a;cases i;obtain⟨ev,y,g⟩:=q.low z d.low;refine⟨Tryz.f290,Tryz.func290,rfl,.inl ⟨rfl,(Any.strconv_Atoi_range Tryz.iM s om b ev w y g).mono ?_⟩⟩;rintro e w' ⟨M,rfl,v,p,f⟩;have o:O Z.n=none:=k _ nL (by have:Z.n+1<=N:=l;omega);obtain⟨k1,k2⟩:=ni d o v p f;refine⟨_,_,rfl,k1,k2,?_⟩;rw[ux hd hne];exact .tuple (.cons (.I3 rfl) (.cons (.iface (.ptr (Ab.Place.R0 _ _ _))) .nil))
 ·cases h
end
end Go.Proofs.T
