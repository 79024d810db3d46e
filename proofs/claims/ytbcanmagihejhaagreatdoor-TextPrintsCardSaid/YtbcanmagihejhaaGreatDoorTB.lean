/- The Hv Aa the Aj4 lean on, and AD2. -/
import Derived.Test.YtbcanmagihejhaaGreatDoorTI0
set_option linter.unusedSimpArgs false
set_option linter.unusedVariables false
set_option linter.defProp false
set_option maxHeartbeats 32000000
set_option maxRecDepth 100000
namespace Go.Proofs.T
open Go Go.Ab
section
variable {Z:St}{n:Int}{l:List UInt8}{fr:Fr}{v:Value}{i:Nat}{x:Operand}
noncomputable def HS:EP:=fun g=>if g=12 then some (.plain fun vs Z=>match vs with|[]=>bb (Aj (Z.read 1 0 20) (some T7)) (some ⟨false,.bool true,Z⟩)|_=>none)else if g=67 then some (.plain AK6)else if g=216 then some (.plain AM8)else CS1 g
def kK:Iw Tryz.prog Z 5 3 (.int .u8 n)=some ⟨.int .i64 (IntKind.i64.wrap n),Z,.none⟩:=kR
def kL:Iw Tryz.prog Z 3 5 (.int .i64 n)=some ⟨.int .u8 (IntKind.u8.wrap n),Z,.none⟩:=kR
def cI:Iw Tryz.prog Z 3 180 (.int .i64 n)=some ⟨.int .u64 (IntKind.u64.wrap n),Z,.none⟩:=kR
def cJ:Iw Tryz.prog Z 180 3 (.int .u64 n)=some ⟨.int .i64 (IntKind.i64.wrap n),Z,.none⟩:=kR
def qY {b off n c:Nat}{sp:Option Nat}:Iw Tryz.prog Z 43 9 (.slice (some ⟨b,off,sp⟩) n c)=ob (Z.read b off n) fun vs=>ob (BZ vs) fun l=>some ⟨str l,Z,.read ⟨b,off,n⟩⟩:=cK (e:=5) kR kR kR
def AM9:Iw Tryz.prog Z 9 43 (str l)=some ⟨.slice (some ⟨Z.n,0,some 1⟩) l.length l.length,Z.new (O9 l),.none⟩:=kR
def AN0:bH Tryz.prog 9 (str l) i=ob (sub l i 1) oP:=kR
def AN1 {lo hi:Option Value}:VL Tryz.prog 9 (str l) lo hi=ob (au l.length l.length lo hi) fun p=>pr p fun lo hi=>ob (sub l lo (hi-lo)) fun l=>some (str l):=kR
def eq_nil {i:Tmp}:CI Tryz.prog .eql 118 (.tmp i) (.const .nilIface) .nilIface .nilIface=some (.bool true):=kR
def kM:qS none= .normal:=rfl
def qZ:Lj Tryz.prog fr 86 x=ob (ev fr x) fun v=>some (.iface 86 v):=kR
def kN:qS (some v)= .pan v:=rfl
def cM {a:Addr}:bF (.pointer (some a))=some (.pointer (some a)):=rfl
def AN2 (Z:St) (v:Value):Option Ab.Stepped:=match v with
 | .iface t v=>some ⟨.iface t v,Z,.pan⟩
 |_=>none
def cN {t:TypeId}:AN2 Z (.iface t v)=some ⟨.iface t v,Z,.pan⟩:=rfl
def Aj5 {Q:Ab.Stepped->Prop}{uq:Hd Q}:Ev (RD fr Z x) Q uq=Ev (ev fr x) (fun v=>Ev (AN2 Z v) Q ⟨⟩) ⟨⟩:=by
 show Ev (ob (ev fr x) (AN2 Z)) Q uq=_;rw[G9]
def xF {P:Program}{call:W8}{all:Array Oper}{op:Op}{l:List Oper}{Z0:St}{ds:List Ab.Trace}{Q:FST->Prop}{uq:Hd Q}:
  Ev (YV P call all op l i fr Z0 v Z ds) Q uq=T3 (DQ op&&(Kq P call all (Region.before all).toList i l (i+1) fr Z0).isSome) (Q ⟨.nil,Z,ds,some v⟩) ⟨⟩:=by
 unfold YV;rw[fi];cases DQ op with
 |false=>exact propext ⟨fun h=>(nomatch h.1),fun h=>(nomatch h.1)⟩
 | true=>
   rw[UE,G9];cases Kq P call all (Region.before all).toList i l (i+1) fr Z0 with
   |none=>exact propext ⟨fun⟨_,h,_⟩=>(nomatch h),fun h=>(nomatch h.1)⟩
   |some u=>rw[M0,M0];exact propext ⟨fun h=>⟨rfl,h⟩,fun h=>h.2⟩
def BB3 {k:IntKind}:nat? (.int k 1)=some 1/\nat? (.int k 2)=some 2/\nat? (.int k 3)=some 3/\nat? (.int k 4)=some 4/\nat? (.int k 5)=some 5/\nat? (.int k 6)=some 6/\nat? (.int k 7)=some 7/\nat? (.int k 8)=some 8/\nat? (.int k 9)=some 9/\nat? (.int k 10)=some 10/\nat? (.int k 11)=some 11/\nat? (.int k 12)=some 12/\nat? (.int k 13)=some 13/\nat? (.int k 14)=some 14/\nat? (.int k 15)=some 15/\nat? (.int k 16)=some 16:=⟨rfl,rfl,rfl,rfl,rfl,rfl,rfl,rfl,rfl,rfl,rfl,rfl,rfl,rfl,rfl,rfl⟩
end
end Go.Proofs.T
namespace Go.Ab
open Go
set_option linter.defProp false
def BC5:=aI (aI (aI (aI (aI (aI @xV (aI @xW @AO7)) (aI (aI @Io @qw) (aI @xX @ki))) (aI (aI @xY (aI @Bw @fe)) (aI (aI @pw @AO8) (aI @UA @AO9)))) (aI (aI (aI @AP0 (aI @ff @UB)) (aI (aI @AP1 @AP2) (aI @xZ @xa))) (aI (aI (aI @Al0 @G9) (aI @fi @RN)) (aI (aI @M0 @qx) (aI @cd @qy))))) (aI (aI (aI (aI @kj (aI @xb @km)) (aI (aI @Rk @cf) (aI @qz @kq))) (aI (aI (aI @Vq @xc) (aI @AP3 @kr)) (aI (aI @rA @Yx) (aI @Su @ku)))) (aI (aI (aI @Sv (aI @kx @Sw)) (aI (aI @ky @cj) (aI @Sx @Yy))) (aI (aI (aI @xd @xe) (aI @xf @ck)) (aI (aI @rB @ox) (aI @kz @AP4)))))) (aI (aI (aI (aI (aI @rC (aI @cm @rE)) (aI (aI @lA @lC) (aI @Rl @rG))) (aI (aI (aI @lD @Vr) (aI @xg @AP5)) (aI (aI @rH @lE) (aI @Sy @lF)))) (aI (aI (aI @Sz (aI @cp @Yz)) (aI (aI @xh @cq) (aI @rI @oy))) (aI (aI (aI @AP6 @vT) (aI @vU @oz)) (aI (aI @vV @pP) (aI @wC @AM0))))) (aI (aI (aI (aI @N4 (aI @iJ @vP)) (aI (aI @Jh.eq_1 @Bu.eq_1) (aI @Jj.eq_1 @Ge.eq_1))) (aI (aI (aI @Az.eq_1 @Ll.eq_1) (aI @Cq.eq_1 @aU.eq_1)) (aI (aI @evN.eq_1 @xi) (aI @pA @pB)))) (aI (aI (aI @qI (aI @wv @wi)) (aI (aI @wj @qH) (aI @P0 @o6))) (aI (aI (aI @N7 @pQ) (aI @pR @T6)) (aI (aI @T5 @mm2) (aI @Ep.eq_1 @EO.eq_1))))))
def BC6:=aI (aI (aI (aI (aI (aI (aI @G9 @M0) (aI @fi @RN)) (aI (aI @UE @fh) (aI @YT @AM1))) (aI (aI (aI @wm @Yi) (aI @Yj @wk)) (aI (aI @kH @Nr) (aI @RW (aI @Yg @Yh))))) (aI (aI (aI (aI @kA @AJ3) (aI @AJ4 @AJ5)) (aI (aI @AJ6 @AJ7) (aI @AJ8 (aI @AJ9 @AK0)))) (aI (aI (aI @AK1 @AK2) (aI @AK3 @vX)) (aI (aI @vY @AM2) (aI @Ai7 (aI @Ai8 @BB2)))))) (aI (aI (aI (aI (aI @Ai9 @AM3) (aI @Aj0 @xC)) (aI (aI @AM4 @kB) (aI @kC @cA))) (aI (aI (aI @YU @kD) (aI @cB @wP)) (aI (aI @wQ @pz) (aI @kE (aI @wR @qA))))) (aI (aI (aI (aI @toArray_toList @wz) (aI @xA @xB)) (aI (aI @ptrTo.eq_1 @xj) (aI @lG (aI @xk @AP7)))) (aI (aI (aI @IY @HD) (aI @GV @SW)) (aI (aI @Fh @JY) (aI @Vp (aI @xm @lH))))))) (aI (aI (aI (aI (aI (aI @xr @rJ) (aI @rK @lI)) (aI (aI @ZA @Vs) (aI @xt @rL))) (aI (aI (aI @xu @xw) (aI @wD @wE)) (aI (aI @wF @pT) (aI @wG (aI @wH @N5))))) (aI (aI (aI (aI @j7 @AK9) (aI @wB @jr)) (aI (aI @bR @pL) (aI @js (aI @YH @pM)))) (aI (aI (aI @TX @pN) (aI @YI @OW.{0,0})) (aI (aI @List.map_nil.{0,0} @List.zip_cons_cons.{0,0}) (aI @List.zip_nil_left.{0,0} (aI @List.getElem?_cons_succ.{0} @List.getElem?_cons_zero.{0})))))) (aI (aI (aI (aI (aI @room.eq_1 @AB) (aI @Jc @G6)) (aI (aI @K2 @CQ) (aI @J1 (aI @NF @G8)))) (aI (aI (aI @I2 @H6) (aI @NG @Eo)) (aI (aI @AG.{0} @Hf.{0}) (aI @HG (aI @G3 @rM))))) (aI (aI (aI (aI @rN @ct) (aI @cu @YS)) (aI (aI @cC @Fi) (aI @wO (aI @wrap64_in @K9)))) (aI (aI (aI @Te @Vt) (aI @KP.{0} @Ca.{0})) (aI (aI @JF.{0} @XP) (aI @SY (aI @decide_true @decide_false)))))))
def cw:=And.intro (And.intro (@K9) (@Te)) (And.intro (@Nw) (@Vt))
def rO:=And.intro (And.intro (@W4.{0}) (And.intro (@AG.{0}) (@Hf.{0}))) (And.intro (And.intro (@K9) (@Te)) (And.intro (@Nw) (@Vt)))
def xx:=And.intro (And.intro (And.intro (And.intro (@G6) (@K2)) (And.intro (@CQ) (@J1))) (And.intro (And.intro (@NF) (@G8)) (And.intro (@I2) (@H6)))) (And.intro (And.intro (And.intro (@Ja) (@Vu)) (And.intro (@ZB) (@NG))) (And.intro (And.intro (@K9) (@Te)) (And.intro (@Nw) (@Vt))))
def cL {p:Prop}(h:p:=by first|exact True.intro|rfl|assumption|omega|(simp only[cw];omega)|(simp(disch:=first|omega|((try simp only[rO])<;>omega)|fail) only[xx];first|done|rfl|assumption|omega)|trivial):p:=h
def cL1 {q p:Prop}(e:q) (h:q->p:=by intro zz;first|exact True.intro|rfl|assumption|omega|(simp only[cw];omega)|(simp(disch:=first|omega|((try simp only[rO])<;>omega)|fail) only[xx,zz];first|done|rfl|assumption|omega)|trivial):p:=h e
def fR {p:Prop}(h:p:=by first|exact True.intro|rfl|assumption|omega|(simp only[cw];omega)|(simp(disch:=first|omega|((try simp only[rO])<;>omega)|fail) only[xx,↓N4,Nat.reduceEqDiff,reduceIte,Nr,RW,ptrTo];first|done|rfl|assumption|omega)|trivial):p:=h
def fR1 {q p:Prop}(e:q) (h:q->p:=by intro zz;first|exact True.intro|rfl|assumption|omega|(simp only[cw];omega)|(simp(disch:=first|omega|((try simp only[rO])<;>omega)|fail) only[xx,↓N4,Nat.reduceEqDiff,reduceIte,Nr,RW,ptrTo,zz];first|done|rfl|assumption|omega)|trivial):p:=h e
def eX {p:Prop}(h:p:=by(repeat' (first|assumption|exact Ext.refl _|refine Ext.Aw ?_ _|refine Ext.upd ?_ (by(try simp only[cw])<;>omega) _|refine Ext.dead ?_ (by(try simp only[cw])<;>omega)))):p:=h
def dS {p:Prop}(h:p:=by first|omega|((try simp only[rO])<;>omega)|exact Vh.mk rfl):p:=h
end Go.Ab
namespace Go.Proofs.T
open Go Go.Ab
set_option linter.defProp false
def Ap6:=aI (aI (aI (aI (aI (aI @ld3 (aI @st3 @ld4)) (aI (aI @st4 @ld5) (aI @ld9 @st9))) (aI (aI (aI @BG5 @BG6) (aI @BG7 @BG8)) (aI (aI @BG9 @BH0) (aI @BH1 @BH2)))) (aI (aI (aI @BH3 (aI @BH4 @BH5)) (aI (aI @BH6 @BH7) (aI @BH8 @BH9))) (aI (aI (aI @AV9 @AW0) (aI @BI0 @BI1)) (aI (aI @BI2 @BI3) (aI @BI4 @AW1))))) (aI (aI (aI (aI @AW2 (aI @AW3 @AW4)) (aI (aI @BI5 @BI6) (aI @BI7 @BI8))) (aI (aI (aI @BI9 @BJ0) (aI @BJ1 @BJ2)) (aI (aI @BJ3 @AW5) (aI @AW6 @AW7)))) (aI (aI (aI @AW8 (aI @AW9 @BJ4)) (aI (aI @BJ5 @AX0) (aI @AX1 @AX2))) (aI (aI (aI @AX3 @AX4) (aI @AX5 @AX6)) (aI (aI @AX7 @AX8) (aI @AX9 @zB)))))) (aI (aI (aI (aI (aI @zC (aI @BJ6 @BJ7)) (aI (aI @BJ8 @BJ9) (aI @BK0 @BK1))) (aI (aI (aI @AY0 @AY1) (aI @BK2 @BK3)) (aI (aI @AY2 @AY3) (aI @AY4 @AY5)))) (aI (aI (aI @AY6 (aI @BK4 @BK5)) (aI (aI @AY7 @AY8) (aI @AY9 @BK6))) (aI (aI (aI @AZ0 @AZ1) (aI @BK7 @BK8)) (aI (aI @Ap7 @zD) (aI @Ap8 @zE))))) (aI (aI (aI (aI @zF (aI @Ap9 @zG)) (aI (aI @zH @zI) (aI @zJ @Aq0))) (aI (aI (aI @Aq1 @zK) (aI @zL @zM)) (aI (aI @zN @Aq2) (aI @Aq3 @Aq4)))) (aI (aI (aI (aI @zO @zP) (aI @zQ @zR)) (aI (aI @zS @Aq5) (aI @Aq6 @zT))) (aI (aI (aI @zU @Aq7) (aI @Aq8 @zV)) (aI (aI @zW @zX) (aI @zY @zZ))))))
def Aq9:=aI (aI (aI (aI (aI (aI @al3 @Tryz.underlying9) (aI @Tryz.underlying22 (aI @BK9 @BL0))) (aI (aI @BL1 (aI @Tryz.underlying28 @BL2)) (aI @Tryz.underlying29 (aI @BL3 @Tryz.underlying30)))) (aI (aI (aI @BL4 @BL5) (aI @BL6 (aI @BL7 @BL8))) (aI (aI @Tryz.underlying33 (aI @BL9 @BM0)) (aI @BM1 (aI @BM2 @BM3))))) (aI (aI (aI (aI @Tryz.underlying36 @BM4) (aI @BM5 (aI @Tryz.underlying37 @BM6))) (aI (aI @BM7 (aI @BM8 @BM9)) (aI @BN0 (aI @BN1 @Tryz.underlying43)))) (aI (aI (aI @BN2 (aI @BN3 @BN4)) (aI @BN5 (aI @BN6 @BN7))) (aI (aI @BN8 (aI @BN9 @BO0)) (aI @BO1 (aI @BO2 @BO3)))))) (aI (aI (aI (aI (aI @BO4 @BO5) (aI @Tryz.underlying97 (aI @BO6 @Ar0))) (aI (aI @Ar1 (aI @Ar2 @Ar3)) (aI @Ar4 (aI @Ar5 @Ar6)))) (aI (aI (aI @Ar7 @Ar8) (aI @Ar9 (aI @As0 @As1))) (aI (aI @As2 (aI @As3 @As4)) (aI @As5 (aI @As6 @As7))))) (aI (aI (aI (aI @Tryz.underlying202 @As8) (aI @As9 (aI @At0 @At1))) (aI (aI @At2 (aI @BB3 @kK)) (aI @kL (aI @cI @cJ)))) (aI (aI (aI @qY (aI @AM9 @AN0)) (aI @AN1 (aI @eq_nil @kM))) (aI (aI @qZ (aI @kN @cM)) (aI @cN (aI @Aj5 @xF))))))
def C7:=And.intro (And.intro (And.intro (@P2) (@R5)) (And.intro (@R6) (And.intro (@R1) (@K6)))) (And.intro (And.intro (@R2) (@P5)) (And.intro (@K4) (And.intro (@K5) (@H5))))
def bD:=And.intro BC5 Ap6
def bU:=And.intro BC6 Aq9
def bW:=And.intro bU (And.intro C7 @A6)
def gS {p q:Prop}(x:q) (h:p=q:=by simp(maxSteps:=8000000) (disch:=first|exact dS|fail) only[↓bD,bW,Nat.reduceMul,Nat.reduceEqDiff,Nat.reduceAdd,Nat.reduceBEq,reduceIte,Option.isNone_none,H7,I0];exact rfl):p:=Eq.mpr h x
def gS1 {e p q:Prop}(z:e) (x:q) (h:e->p=q:=by intro zz;simp(maxSteps:=8000000) (disch:=first|exact dS|fail) only[↓bD,bW,Nat.reduceMul,Nat.reduceEqDiff,Nat.reduceAdd,Nat.reduceBEq,reduceIte,Option.isNone_none,H7,I0,zz];exact rfl):p:=Eq.mpr (h z) x
def gU {p q:Prop}(x:q) (h:p=q:=by simp(maxSteps:=8000000) (disch:=first|exact dS|fail) only[↓bD,bU,Nat.reduceMul,Nat.reduceEqDiff,Nat.reduceAdd,Nat.reduceBEq,reduceIte,Option.isNone_none,H7,I0];exact rfl):p:=Eq.mpr h x
def gU1 {e p q:Prop}(z:e) (x:q) (h:e->p=q:=by intro zz;simp(maxSteps:=8000000) (disch:=first|exact dS|fail) only[↓bD,bU,Nat.reduceMul,Nat.reduceEqDiff,Nat.reduceAdd,Nat.reduceBEq,reduceIte,Option.isNone_none,H7,I0,zz];exact rfl):p:=Eq.mpr (h z) x
def gP {p q:Prop}(x:q) (h:p=q:=by simp(maxSteps:=8000000) (disch:=first|exact dS|fail) only[↓bD,bU,A6,C7,Nat.reduceMul,Nat.reduceEqDiff,Nat.reduceAdd,Nat.reduceBEq,reduceIte,Option.isNone_none,H7,I0];exact rfl):p:=Eq.mpr h x
def gP1 {e p q:Prop}(z:e) (x:q) (h:e->p=q:=by intro zz;simp(maxSteps:=8000000) (disch:=first|exact dS|fail) only[↓bD,bU,A6,C7,Nat.reduceMul,Nat.reduceEqDiff,Nat.reduceAdd,Nat.reduceBEq,reduceIte,Option.isNone_none,H7,I0,zz];exact rfl):p:=Eq.mpr (h z) x
def gSd {d e p q:Prop}(y:d) (z:e) (x:q) (h:d->e->p=q:=by intro yy zz;simp(maxSteps:=8000000) (disch:=first|exact dS|fail) only[↓bD,bW,Nat.reduceMul,Nat.reduceEqDiff,Nat.reduceAdd,Nat.reduceBEq,reduceIte,Option.isNone_none,H7,I0,↓yy,zz];exact rfl):p:=Eq.mpr (h y z) x
def gUd {d e p q:Prop}(y:d) (z:e) (x:q) (h:d->e->p=q:=by intro yy zz;simp(maxSteps:=8000000) (disch:=first|exact dS|fail) only[↓bD,bU,Nat.reduceMul,Nat.reduceEqDiff,Nat.reduceAdd,Nat.reduceBEq,reduceIte,Option.isNone_none,H7,I0,↓yy,zz];exact rfl):p:=Eq.mpr (h y z) x
def gPd {d e p q:Prop}(y:d) (z:e) (x:q) (h:d->e->p=q:=by intro yy zz;simp(maxSteps:=8000000) (disch:=first|exact dS|fail) only[↓bD,bU,A6,C7,Nat.reduceMul,Nat.reduceEqDiff,Nat.reduceAdd,Nat.reduceBEq,reduceIte,Option.isNone_none,H7,I0,↓yy,zz];exact rfl):p:=Eq.mpr (h y z) x
def dW {c:Bool}{A:Prop}{u:Hd A}(k:A) (h:c=true:=by(repeat first|simp(disch:=omega) only[N7,Q9,N1]|rw[U0 (by kernel_rfl)]);first|done|rfl):T3 c A u:=⟨h,k⟩
def dW1 {e:Prop}{c:Bool}{A:Prop}{u:Hd A}(z:e) (k:A) (h:e->c=true:=by intro zz;(repeat first|simp(disch:=omega) only[N7,Q9,N1,zz]|rw[U0 (by kernel_rfl)]);first|done|rfl):T3 c A u:=⟨h z,k⟩
noncomputable abbrev gO (n:Nat):=go Tryz.prog HS (.fn n)
end Go.Proofs.T
