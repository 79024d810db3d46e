/- The Fs AO the yO lean on, and qP. -/
import Derived.Test.YtbcanmagihejhaaGreatDoorTA
import Derived.Test.YtbcanmagihejhaaGreatDoorTSan
import Derived.Test.YtbcanmagihejhaaGreatDoorTI0
import Derived.Test.YtbcanmagihejhaaGreatDoorAbD
set_option linter.unusedSimpArgs false
set_option linter.unusedVariables false
set_option maxHeartbeats 32000000
set_option maxRecDepth 100000
namespace Go.Proofs.T
open Go Go.Ab
noncomputable def HS:CZ:=fun g=>if g=12 then some (.plain fun vs Z=>match vs with|[]=>bb (AK (Z.read 1 0 20) (some P9)) (some ⟨false,.bool true,Z⟩)|_=>none) else if g=67 then some (.plain sW) else CS1 g
theorem aQ {Z:St}{n:Int}:LW Tryz.prog Z 5 3 (.int .u8 n)=some ⟨.int .i64 (IntKind.i64.wrap n),Z,.none⟩:=by kernel_rfl
theorem WU {Z:St}{n:Int}:LW Tryz.prog Z 3 180 (.int .i64 n)=some ⟨.int .u64 (IntKind.u64.wrap n),Z,.none⟩:=by kernel_rfl
theorem WV {Z:St}{n:Int}:LW Tryz.prog Z 180 3 (.int .u64 n)=some ⟨.int .i64 (IntKind.i64.wrap n),Z,.none⟩:=by kernel_rfl
theorem dC {Z:St}{l:List UInt8}:LW Tryz.prog Z 9 43 (str l)=some ⟨.slice (some ⟨Z.n,0,some 1⟩) l.length l.length,Z.new (J3 l),.none⟩:=by kernel_rfl
theorem tC {l:List UInt8}{i:Nat}:Vs Tryz.prog 9 (str l) i=ob (sub l i 1) dW:=by kernel_rfl
theorem tD {l:List UInt8}{lo hi:Option Value}:RF Tryz.prog 9 (str l) lo hi=ob (Ve l.length l.length lo hi) fun p=>pr p fun lo hi=>ob (sub l lo (hi-lo)) fun l=>some (str l):=by kernel_rfl
theorem mX {x y:Operand}{a b:Bool}:Aw Tryz.prog .eql 4 x y (.bool a) (.bool b)=some (.bool (bi a b (!b))):=by cases a <;> cases b <;> kernel_rfl
theorem tE {i:Tmp}:Aw Tryz.prog .neq 118 (.tmp i) (.const .nilIface) .nilIface .nilIface=some (.bool false):=by kernel_rfl
theorem eq_nil {i:Tmp}:Aw Tryz.prog .eql 118 (.tmp i) (.const .nilIface) .nilIface .nilIface=some (.bool true):=by kernel_rfl
theorem aR:fY none= .normal:=rfl
theorem fi {fr:Fr}{x:Operand}:Il Tryz.prog fr 86 x=ob (ev fr x) fun v=>some (.iface 86 v):=by kernel_rfl
theorem aS {v:Value}:fY (some v)= .pan v:=rfl
theorem WW {a:Addr}:Vq (.pointer (some a))=some (.pointer (some a)):=rfl
def tF (Z:St) (v:Value):Option Ab.Stepped:=match v with
 | .iface t v=>some ⟨.iface t v,Z,.pan⟩
 | _=>none
theorem WX {Z:St}{t:TypeId}{v:Value}:tF Z (.iface t v)=some ⟨.iface t v,Z,.pan⟩:=rfl
theorem yP {fr:Fr}{Z:St}{x:Operand}{Q:Ab.Stepped->Prop}{uq:Hd Q}:Ev (Nc fr Z x) Q uq=Ev (ev fr x) (fun v=>Ev (tF Z v) Q ⟨⟩) ⟨⟩:=by
 show Ev (ob (ev fr x) (tF Z)) Q uq=_;rw [D3]
theorem mY {P:Program}{call:R3}{all:Array Oper}{op:Op}{l:List Oper}{i:Nat}{fr:Fr}{Z0:St}{v:Value}{Z:St}{ds:List Ab.Trace}{Q:FST->Prop}{uq:Hd Q} :
  Ev (Te P call all op l i fr Z0 v Z ds) Q uq=H3 (BO op&&(Hz P call all (Region.before all).toList i l (i+1) fr Z0).isSome) (Q ⟨.nil,Z,ds,some v⟩) ⟨⟩:=by
 unfold Te;rw [YI];cases BO op with
 | false=>exact propext ⟨fun h=>(nomatch h.1),fun h=>(nomatch h.1)⟩
 | true =>
   rw [Pv,D3];cases Hz P call all (Region.before all).toList i l (i+1) fr Z0 with
   | none=>exact propext ⟨fun ⟨_,h,_⟩=>(nomatch h),fun h=>(nomatch h.1)⟩
   | some u=>rw [K4,K4];exact propext ⟨fun h=>⟨rfl,h⟩,fun h=>h.2⟩
theorem AH7 {k:IntKind}:nat? (.int k 1)=some 1/\nat? (.int k 2)=some 2/\nat? (.int k 3)=some 3/\nat? (.int k 4)=some 4/\nat? (.int k 5)=some 5/\nat? (.int k 6)=some 6/\nat? (.int k 7)=some 7/\nat? (.int k 8)=some 8/\nat? (.int k 9)=some 9/\nat? (.int k 10)=some 10/\nat? (.int k 11)=some 11/\nat? (.int k 12)=some 12/\nat? (.int k 13)=some 13/\nat? (.int k 14)=some 14/\nat? (.int k 15)=some 15/\nat? (.int k 16)=some 16:=⟨rfl,rfl,rfl,rfl,rfl,rfl,rfl,rfl,rfl,rfl,rfl,rfl,rfl,rfl,rfl,rfl⟩
end Go.Proofs.T
namespace Go.Ab
open Go
set_option linter.defProp false
def AJ1:=aI (aI (aI (aI (aI (aI @mz (aI @nA @tS)) (aI (aI @Ci @gJ) (aI @nB @ah))) (aI (aI @nC (aI @W4 @YF)) (aI (aI @fH @tW) (aI @Pr @tX)))) (aI (aI (aI @tY (aI @YG @Ps)) (aI (aI @tZ @td) (aI @nD @nE))) (aI (aI (aI @yj @D3) (aI @YI @Nl)) (aI (aI @K4 @gK) (aI @Wl @gL))))) (aI (aI (aI (aI @ai (aI @nG @aj)) (aI (aI @OI @Wm) (aI @gM @al))) (aI (aI (aI @Ro @nI) (aI @tf @ao)) (aI (aI @gN @UN) (aI @PC @aq)))) (aI (aI (aI @PD (aI @ar @PE)) (aI (aI @au @Wn) (aI @PF @UO))) (aI (aI (aI @nJ @nK) (aI @nL @Wo)) (aI (aI @gO @eD) (aI @av @tg)))))) (aI (aI (aI (aI (aI @gP (aI @Wp @gQ)) (aI (aI @ax @ay) (aI @OJ @gR))) (aI (aI @az (aI @Rp @nM)) (aI (aI @th @gT) (aI @bA @PG)))) (aI (aI (aI @bB (aI @PH @Wq)) (aI (aI @UQ @nN) (aI @Wr @gV))) (aI (aI (aI @eE @ti) (aI @lF @eF)) (aI (aI @lG @eZ) (aI @lX @ss))))) (aI (aI (aI (aI @L7 (aI @kY @lA)) (aI (aI @Gz.eq_1 @Ao.eq_1) (aI @HB.eq_1 @Eg.eq_1))) (aI (aI (aI @AH.eq_1 @Io.eq_1) (aI @Bc.eq_1 @VN.eq_1)) (aI (aI @evN.eq_1 @nO) (aI @eG @eH)))) (aI (aI (aI @fU (aI @mQ @mM)) (aI (aI @mN @fS) (aI @I9 @N8))) (aI (aI (aI @B9 @ec) (aI @ef @M0)) (aI (aI @L9 @mm2) (aI @Dk.eq_1 @Cd.eq_1))))))
def AJ2:=aI (aI (aI (aI (aI (aI (aI @D3 @K4) (aI @YI @Nl)) (aI (aI @Pv @YH) (aI @Tc @su))) (aI (aI (aI @mP @Tx) (aI @Ty @mO)) (aI (aI @aO @Km) (aI @Nu (aI @Tv @Tw))))) (aI (aI (aI (aI @aG @sK) (aI @sL @sM)) (aI (aI @sN @sO) (aI @sP @sQ))) (aI (aI (aI @sR @sS) (aI @sT @sU)) (aI (aI @lI @lJ) (aI @sw (aI @yH @yI)))))) (aI (aI (aI (aI (aI @AH6 @yJ) (aI @sx @yK)) (aI (aI @mU @sy) (aI @aH @aJ))) (aI (aI (aI @WN @Td) (aI @aK @WO)) (aI (aI @mA @mB) (aI @fK (aI @aL @mC))))) (aI (aI (aI (aI @fL @toArray_toList) (aI @mR @mS)) (aI (aI @mT @ptrTo.eq_1) (aI @nP (aI @bC @nQ)))) (aI (aI (aI @tj @GF) (aI @Bo @Nat.zero_mul)) (aI (aI @Nat.one_mul @Nat.mul_one) (aI @Gs (aI @Qt @nR))))))) (aI (aI (aI (aI (aI (aI @bE @nT) (aI @gW @gX)) (aI (aI @bF @bG) (aI @nU @nV))) (aI (aI (aI @lY @lZ) (aI @ld @eg)) (aI (aI @lf @lg) (aI @I8 (aI @o9 @sZ))))) (aI (aI (aI (aI @lW @Zx) (aI @Vz @eT)) (aI (aI @Zy @TS) (aI @eU @Pb))) (aI (aI (aI @eV @eW) (aI @List.map_cons.{0,0} @List.map_nil.{0,0})) (aI (aI @List.zip_cons_cons.{0,0} @List.zip_nil_left.{0,0}) (aI @List.getElem?_cons_succ.{0} (aI @List.getElem?_cons_zero.{0} @room.eq_1)))))) (aI (aI (aI (aI (aI @y0 @Jb) (aI @D4 @K5)) (aI (aI @Af @F5) (aI @Jz @C8))) (aI (aI (aI @D9 @D1) (aI @KC @Nat.zero_add)) (aI (aI @List.length_cons.{0} @List.length_nil.{0}) (aI @FN (aI @D6 @gY))))) (aI (aI (aI (aI @gZ @Ws) (aI @Wt @Tb)) (aI (aI @si @EL) (aI @lz (aI @wrap64_in @N3)))) (aI (aI (aI @LR @Rq) (aI @List.nil_append.{0} @List.append_nil.{0})) (aI (aI @List.cons_append.{0} @Bool.not_true) (aI @Bool.not_false (aI @decide_true @decide_false)))))))
def Wu:=And.intro (And.intro (@N3) (@LR)) (And.intro (@Ku) (And.intro (@Wv) (@Rq)))
def ga:=And.intro (And.intro (And.intro (@List.length_append.{0}) (@List.length_cons.{0})) (And.intro (@List.length_nil.{0}) (@N3))) (And.intro (And.intro (@LR) (@Ku)) (And.intro (@Wv) (@Rq)))
def nW:=And.intro (And.intro (And.intro (And.intro (@D4) (@K5)) (And.intro (@Af) (@F5))) (And.intro (And.intro (@Jz) (@C8)) (And.intro (@D9) (And.intro (@D1) (@Gv))))) (And.intro (And.intro (And.intro (@Rr) (@UR)) (And.intro (@Rt) (And.intro (@US) (@KC)))) (And.intro (And.intro (@N3) (@LR)) (And.intro (@Ku) (And.intro (@Wv) (@Rq)))))
theorem cL {p:Prop}(h:p:=by first|exact True.intro|rfl|assumption|omega|(simp only [Wu];omega)|(simp (disch:=first|omega|((try simp only [ga]) <;> omega)|fail) only [nW];first|done|rfl|assumption|omega)|trivial):p:=h
theorem cL1 {q p:Prop}(e:q) (h:q->p:=by intro zz;first|exact True.intro|rfl|assumption|omega|(simp only [Wu];omega)|(simp (disch:=first|omega|((try simp only [ga]) <;> omega)|fail) only [nW,zz];first|done|rfl|assumption|omega)|trivial):p:=h e
theorem fR {p:Prop}(h:p:=by first|exact True.intro|rfl|assumption|omega|(simp only [Wu];omega)|(simp (disch:=first|omega|((try simp only [ga]) <;> omega)|fail) only [nW,↓L7,Nat.reduceEqDiff,reduceIte,Km,Nu,ptrTo];first|done|rfl|assumption|omega)|trivial):p:=h
theorem fR1 {q p:Prop}(e:q) (h:q->p:=by intro zz;first|exact True.intro|rfl|assumption|omega|(simp only [Wu];omega)|(simp (disch:=first|omega|((try simp only [ga]) <;> omega)|fail) only [nW,↓L7,Nat.reduceEqDiff,reduceIte,Km,Nu,ptrTo,zz];first|done|rfl|assumption|omega)|trivial):p:=h e
theorem eX {p:Prop}(h:p:=by (repeat' (first|assumption|exact Ext.refl _|refine Ext.AF ?_ _|refine Ext.upd ?_ (by (try simp only [Wu]) <;> omega) _|refine Ext.dead ?_ (by (try simp only [Wu]) <;> omega)))):p:=h
theorem dS {p:Prop}(h:p:=by first|omega|((try simp only [ga]) <;> omega)|exact Re.mk rfl):p:=h
end Go.Ab
namespace Go.Proofs.T
open Go Go.Ab
open Nat (reduceMul reduceEqDiff reduceAdd)
set_option linter.defProp false
def zX:=aI (aI (aI (aI (aI (aI @ld3 (aI @st3 @ld4)) (aI (aI @st4 @ld5) (aI @ld9 @st9))) (aI (aI @AM8 (aI @AM9 @AN0)) (aI (aI @AN1 @AN2) (aI @AN3 @AN4)))) (aI (aI (aI @AN5 (aI @AN6 @AN7)) (aI (aI @AN8 @AN9) (aI @AO0 @AO1))) (aI (aI (aI @uo @uu) (aI @AO2 @AO3)) (aI (aI @AO4 @AO5) (aI @AO6 @uv))))) (aI (aI (aI (aI @uw (aI @ux @uy)) (aI (aI @AO7 @AO8) (aI @AO9 @AP0))) (aI (aI (aI @AP1 @AP2) (aI @AP3 @AP4)) (aI (aI @AP5 @uz) (aI @vA @vB)))) (aI (aI (aI @vC (aI @vD @AP6)) (aI (aI @AP7 @vE) (aI @vF @vG))) (aI (aI (aI @vH @vI) (aI @vJ @vK)) (aI (aI @vL @vM) (aI @vN @ow)))))) (aI (aI (aI (aI (aI @ox (aI @AP8 @AP9)) (aI (aI @AQ0 @AQ1) (aI @AQ2 @vO))) (aI (aI (aI @vP @AQ3) (aI @AQ4 @vQ)) (aI (aI @vR @vS) (aI @vT @vU)))) (aI (aI (aI @AQ5 (aI @AQ6 @vV)) (aI (aI @vW @vX) (aI @AQ7 @vY))) (aI (aI (aI @vZ @AQ8) (aI @AQ9 @zY)) (aI (aI @oy @zZ) (aI @oz @pA))))) (aI (aI (aI (aI @za (aI @pB @pC)) (aI (aI @pD @pE) (aI @zb @zc))) (aI (aI (aI @pF @pG) (aI @pH @pI)) (aI (aI @zd @ze) (aI @zf @pJ)))) (aI (aI (aI @pK (aI @pL @pM)) (aI (aI @pN @zg) (aI @zh @pO))) (aI (aI (aI @pP @zi) (aI @zj @pQ)) (aI (aI @pR @pT) (aI @pU @pV))))))
def zk:=aI (aI (aI (aI (aI (aI @al3 @Tryz.underlying9) (aI @Tryz.underlying22 (aI @AR0 @AR1))) (aI (aI @Tryz.underlying28 (aI @AR2 @Tryz.underlying29)) (aI @AR3 (aI @Tryz.underlying30 @AR4)))) (aI (aI (aI @AR5 @AR6) (aI @AR7 (aI @AR8 @Tryz.underlying33))) (aI (aI @AR9 (aI @AS0 @AS1)) (aI @AS2 (aI @AS3 @Tryz.underlying36))))) (aI (aI (aI (aI @AS4 @AS5) (aI @Tryz.underlying37 (aI @AS6 @AS7))) (aI (aI @AS8 (aI @AS9 @AT0)) (aI @AT1 (aI @Tryz.underlying43 @AT2)))) (aI (aI (aI @AT3 @AT4) (aI @AT5 (aI @AT6 @AT7))) (aI (aI @AT8 (aI @AT9 @AU0)) (aI @AU1 (aI @AU2 @AU3)))))) (aI (aI (aI (aI (aI @AU4 @AU5) (aI @Tryz.underlying97 (aI @AU6 @zl))) (aI (aI @zm (aI @zn @zo)) (aI @zp (aI @zq @zr)))) (aI (aI (aI @zt @zu) (aI @zv (aI @zw @zx))) (aI (aI @AA0 (aI @AA1 @AA2)) (aI @AA3 (aI @AA4 @AA5))))) (aI (aI (aI (aI @Tryz.underlying202 @AA6) (aI @AA7 (aI @AA8 @AA9))) (aI (aI @AB0 (aI @AH7 @aQ)) (aI @WU (aI @WV @dC)))) (aI (aI (aI @tC (aI @tD @mX)) (aI @tE (aI @eq_nil @aR))) (aI (aI @fi (aI @aS @WW)) (aI @WX (aI @yP @mY))))))
def A7:=And.intro (And.intro (And.intro (@N7) (@T1)) (And.intro (@T5) (And.intro (@R6) (@K2)))) (And.intro (And.intro (@R7) (@Q8)) (And.intro (@J0) (And.intro (@J5) (@F4))))
def bD:=And.intro AJ1 zX
def bU:=And.intro AJ2 zk
def bW:=And.intro bU (And.intro A7 @A1)
theorem gS {p q:Prop}(x:q) (h:p=q:=by simp (maxSteps:=8000000) (disch:=first|exact dS|fail) only [↓bD,bW,reduceMul,reduceEqDiff,reduceAdd,Nat.reduceBEq,reduceIte,Option.isNone_none];exact rfl):p:=Eq.mpr h x
theorem gS1 {e p q:Prop}(z:e) (x:q) (h:e->p=q:=by intro zz;simp (maxSteps:=8000000) (disch:=first|exact dS|fail) only [↓bD,bW,reduceMul,reduceEqDiff,reduceAdd,Nat.reduceBEq,reduceIte,Option.isNone_none,zz];exact rfl):p:=Eq.mpr (h z) x
theorem gU {p q:Prop}(x:q) (h:p=q:=by simp (maxSteps:=8000000) (disch:=first|exact dS|fail) only [↓bD,bU,reduceMul,reduceEqDiff,reduceAdd,Nat.reduceBEq,reduceIte,Option.isNone_none];exact rfl):p:=Eq.mpr h x
theorem gU1 {e p q:Prop}(z:e) (x:q) (h:e->p=q:=by intro zz;simp (maxSteps:=8000000) (disch:=first|exact dS|fail) only [↓bD,bU,reduceMul,reduceEqDiff,reduceAdd,Nat.reduceBEq,reduceIte,Option.isNone_none,zz];exact rfl):p:=Eq.mpr (h z) x
end Go.Proofs.T
