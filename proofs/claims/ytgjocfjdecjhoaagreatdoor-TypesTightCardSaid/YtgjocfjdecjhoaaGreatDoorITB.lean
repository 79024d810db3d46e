/- The Ig that the At0 lean on, and AP0. -/
import Derived.Test.YtgjocfjdecjhoaaGreatDoorITI0
set_option linter.unusedSimpArgs false
set_option linter.unusedVariables false
set_option linter.defProp false
set_option maxHeartbeats 32000000
set_option maxRecDepth 100000
namespace Go.Proofs.T
open Go Go.Ab
section
variable {Z:St}{n:Int}{l:List UInt8}
noncomputable def HS:EV:=fun g=>if g=8 then some (.plain fun a Z=>match a with|[]=>bb (Cy (Z.read 0 0 20) (some AO)) (some ⟨false,.bool true,Z⟩)|_=>none)else if g=35 then some (.plain AX9)else if g=290 then some (.plain AZ8)else CS1 g
def mQ:IX Tryz.prog Z 5 3 (.int .u8 n)=some ⟨.int .i64 (IntKind.i64.wrap n),Z,.none⟩:=kR
def mR:IX Tryz.prog Z 3 5 (.int .i64 n)=some ⟨.int .u8 (IntKind.u8.wrap n),Z,.none⟩:=kR
def fB:IX Tryz.prog Z 3 101 (.int .i64 n)=some ⟨.int .u64 (IntKind.u64.wrap n),Z,.none⟩:=kR
def fC:IX Tryz.prog Z 101 3 (.int .u64 n)=some ⟨.int .i64 (IntKind.i64.wrap n),Z,.none⟩:=kR
def tC {b off n c:Nat}{sp:Option Nat}:IX Tryz.prog Z 199 9 (.slice (some ⟨b,off,sp⟩) n c)=ob (Z.read b off n) fun vs=>ob (Ba vs) fun l=>some ⟨str l,Z,.read ⟨b,off,n⟩⟩:=fD (e:=5) kR kR kR
def AZ9 {i:Nat}:dw Tryz.prog 9 (str l) i=ob (sub l i 1) lJ:=kR
def Aa0 {lo hi:Option Value}:Wp Tryz.prog 9 (str l) lo hi=ob (dY l.length l.length lo hi) fun p=>pr p fun lo hi=>ob (sub l lo (hi-lo)) fun l=>some (str l):=kR
def zr {x y:Operand}{a b:Bool}:Aq Tryz.prog .eql 4 x y (.bool a) (.bool b)=some (.bool (bi a b (!b))):=by cases a<;>cases b<;>kernel_rfl
def mS:zl none= .normal:=rfl
def SF {a:Addr}:du (.pointer (some a))=some (.pointer (some a)):=rfl
def BX7 (Z:St) (v:Value):Option Ab.Stepped:=match v with
 | .iface t v=>some ⟨.iface t v,Z,.pan⟩
 |_=>none
def BG4 {k:IntKind}:nat? (.int k 1)=some 1/\nat? (.int k 2)=some 2/\nat? (.int k 3)=some 3/\nat? (.int k 4)=some 4/\nat? (.int k 5)=some 5/\nat? (.int k 6)=some 6/\nat? (.int k 7)=some 7/\nat? (.int k 8)=some 8/\nat? (.int k 9)=some 9/\nat? (.int k 10)=some 10/\nat? (.int k 11)=some 11/\nat? (.int k 12)=some 12/\nat? (.int k 13)=some 13/\nat? (.int k 14)=some 14/\nat? (.int k 15)=some 15/\nat? (.int k 16)=some 16:=⟨rfl,rfl,rfl,rfl,rfl,rfl,rfl,rfl,rfl,rfl,rfl,rfl,rfl,rfl,rfl,rfl⟩
end
end Go.Proofs.T
namespace Go.Ab
open Go
set_option linter.defProp false
def BH8:=aI (aI (aI (aI (aI (aI @AB8 (aI @AB9 @Aa9)) (aI @ti (aI @tj @AC0))) (aI (aI @mi (aI @AC1 @Gp)) (aI (aI @AC2 @Ab0) (aI @mj @Ab1)))) (aI (aI (aI @AC3 (aI @mn @Ab2)) (aI @AC4 (aI @AC5 @Au6))) (aI (aI @G1 (aI @sJ @Sr)) (aI (aI @N3 @tt) (aI @fO @tu))))) (aI (aI (aI (aI @mq (aI @AC6 @mr)) (aI @TO (aI @fP @uA))) (aI (aI @mu (aI @Xl @AC7)) (aI (aI @Ab3 @uB) (aI @az @UU)))) (aI (aI (aI @mw (aI @UW @UX)) (aI @my (aI @fQ @bA))) (aI (aI @AC8 (aI @AC9 @fS)) (aI (aI @uC @rI) (aI @Ab4 @uD)))))) (aI (aI (aI (aI (aI @fU (aI @uE @mz)) (aI @nA (aI @TP @uF))) (aI (aI @nB (aI @Xm @AD0)) (aI (aI @UY @UZ) (aI @bB @AD1)))) (aI (aI (aI @fV (aI @uG @rJ)) (aI @Ab5 (aI @yf @yg))) (aI (aI @yh (aI @rU @zC)) (aI (aI @AZ0 @BF) (aI @kW @ya))))) (aI (aI (aI (aI @KJ.eq_1 (aI @CD.eq_1 @SM.eq_1)) (aI @MH.eq_1 (aI @Aw.eq_1 @MK.eq_1))) (aI (aI @DI.eq_1 (aI @dE.eq_1 @evN.eq_1)) (aI (aI @AD2 @rK) (aI @rL @sV)))) (aI (aI (aI @zc (aI @zY @zZ)) (aI (aI @sU @uH) (aI @Ab6 @O4))) (aI (aI @rV (aI @rW @zG)) (aI (aI @zH @mm2) (aI @GJ.eq_1 @EU.eq_1))))))
def BH9:=aI (aI (aI (aI (aI (aI (aI @G1 @N3) (aI @sJ @Sr)) (aI (aI @mF @zL) (aI @sK @AZ1))) (aI (aI (aI @zb @ej) (aI @aG @za)) (aI (aI @mN @PA) (aI @TA @aE)))) (aI (aI (aI (aI @aF @mI) (aI @AW7 @AW8)) (aI (aI @AW9 @AX0) (aI @AX1 @AX2))) (aI (aI (aI @AX3 @AX4) (aI @AX5 @AX6)) (aI (aI @AX7 @yj) (aI @yp (aI @AZ2 @As4)))))) (aI (aI (aI (aI (aI @As5 @BG3) (aI @As6 @AZ3)) (aI (aI @zk @AZ4) (aI @mJ @mK))) (aI (aI (aI @ec @Pj) (aI @ef @zO)) (aI (aI @zP @sO) (aI @VN (aI @sP @toArray_toList))))) (aI (aI (aI (aI @zf @zi) (aI @zj @ptrTo.eq_1)) (aI (aI @AD3 @nC) (aI @AD4 @Ab7))) (aI (aI (aI @Rr @Kt) (aI @GH @RN)) (aI (aI @Ip @Rt) (aI @Ab8 (aI @AD5 @nD))))))) (aI (aI (aI (aI (aI (aI @AD6 @uI) (aI @uJ @nF)) (aI (aI @bC @Xo) (aI @AD7 @Ep))) (aI (aI (aI @AD8 @AD9) (aI @zD @zE)) (aI (aI @zF @iq) (aI @zI @Hq)))) (aI (aI (aI (aI @Cp @AY0) (aI @zB @lu)) (aI (aI @rQ @lz) (aI @Zi @rR))) (aI (aI (aI @Ut @rS) (aI @Zj @SR.{0,0})) (aI (aI @List.map_nil.{0,0} @List.zip_cons_cons.{0,0}) (aI @List.zip_nil_left.{0,0} (aI @List.getElem?_cons_succ.{0} @List.getElem?_cons_zero.{0})))))) (aI (aI (aI (aI (aI @room.eq_1 @Eh) (aI @TQ @K0)) (aI (aI @W3 @CY) (aI @M9 @Eu))) (aI (aI (aI @W4 @Ae) (aI @K9 @GK)) (aI (aI @Ap.{0} @Jg.{0}) (aI @bE (aI @C9 @uK))))) (aI (aI (aI (aI @uL @fW) (aI @fX @uM)) (aI (aI @eg @Oz) (aI @XT @wrap64_in))) (aI (aI (aI @G3 @HH) (aI @MC.{0} @Du.{0})) (aI (aI @LN.{0} @lK) (aI @Yd (aI @decide_true @decide_false)))))))
def nG:=And.intro (And.intro (@G3) (@HH)) (And.intro (@TR) (And.intro (@fY) (@fZ)))
def uN:=And.intro (And.intro (And.intro (@CU.{0}) (@Ap.{0})) (And.intro (@Jg.{0}) (@G3))) (And.intro (And.intro (@HH) (@TR)) (And.intro (@fY) (@fZ)))
def AE0:=And.intro (And.intro (And.intro (And.intro (@K0) (@W3)) (And.intro (@CY) (@M9))) (And.intro (And.intro (@Eu) (@W4)) (And.intro (@Ae) (And.intro (@K9) (@KE))))) (And.intro (And.intro (And.intro (@Xp) (@KY)) (And.intro (@Am) (And.intro (@bF) (@Xq)))) (And.intro (And.intro (@G3) (@HH)) (And.intro (@TR) (And.intro (@fY) (@fZ)))))
def cL {p:Prop}(h:p:=by first|exact True.intro|rfl|assumption|omega|(simp only[nG];omega)|(simp(disch:=first|omega|((try simp only[uN])<;>omega)|fail) only[AE0];first|done|rfl|assumption|omega)|trivial):p:=h
def cL1 {q p:Prop}(e:q) (h:q->p:=by intro zz;first|exact True.intro|rfl|assumption|omega|(simp only[nG];omega)|(simp(disch:=first|omega|((try simp only[uN])<;>omega)|fail) only[AE0,zz];first|done|rfl|assumption|omega)|trivial):p:=h e
def fR {p:Prop}(h:p:=by first|exact True.intro|rfl|assumption|omega|(simp only[nG];omega)|(simp(disch:=first|omega|((try simp only[uN])<;>omega)|fail) only[AE0,↓BF,Nat.reduceEqDiff,reduceIte,PA,TA,ptrTo];first|done|rfl|assumption|omega)|trivial):p:=h
def fR1 {q p:Prop}(e:q) (h:q->p:=by intro zz;first|exact True.intro|rfl|assumption|omega|(simp only[nG];omega)|(simp(disch:=first|omega|((try simp only[uN])<;>omega)|fail) only[AE0,↓BF,Nat.reduceEqDiff,reduceIte,PA,TA,ptrTo,zz];first|done|rfl|assumption|omega)|trivial):p:=h e
def eX {p:Prop}(h:p:=by(repeat' (first|assumption|exact Ext.refl _|refine Ext.Q3 ?_ _|refine Ext.upd ?_ (by(try simp only[nG])<;>omega) _|refine Ext.dead ?_ (by(try simp only[nG])<;>omega)))):p:=h
def dS {p:Prop}(h:p:=by first|omega|((try simp only[uN])<;>omega)|exact XS.mk rfl):p:=h
end Go.Ab
namespace Go.Proofs.T
open Go Go.Ab
set_option linter.defProp false
def Ay1:=aI (aI (aI (aI (aI (aI @ld3 (aI @st3 @ld4)) (aI @st4 (aI @ld9 @BL3))) (aI (aI @BL4 (aI @BL5 @BL6)) (aI (aI @BL7 @BL8) (aI @BL9 @BM0)))) (aI (aI (aI @BM1 (aI @BM2 @BM3)) (aI @BM4 (aI @BM5 @BM6))) (aI (aI @Af4 (aI @Af5 @BM7)) (aI (aI @BM8 @BM9) (aI @BN0 @Af6))))) (aI (aI (aI (aI @Af7 (aI @Af8 @Af9)) (aI @BN1 (aI @BN2 @BN3))) (aI (aI @BN4 (aI @BN5 @BN6)) (aI (aI @BN7 @BN8) (aI @Ag0 @Ag1)))) (aI (aI (aI @Ag2 (aI @Ag3 @Ag4)) (aI (aI @BN9 @BO0) (aI @Ag5 @Ag6))) (aI (aI @Ag7 (aI @Ag8 @Ag9)) (aI (aI @Ah0 @Ah1) (aI @Ah2 @Ah3)))))) (aI (aI (aI (aI (aI @Ah4 (aI @AI6 @AI7)) (aI @BO1 (aI @BO2 @Ah5))) (aI (aI @Ah6 (aI @BO3 @BO4)) (aI (aI @Ah7 @Ah8) (aI @Ah9 @Ai0)))) (aI (aI (aI @Ai1 (aI @BO5 @BO6)) (aI @Ai2 (aI @Ai3 @Ai4))) (aI (aI @Ay2 (aI @Ay3 @Ay4)) (aI (aI @AI8 @AI9) (aI @AJ0 @Ay5))))) (aI (aI (aI (aI @Ay6 (aI @AJ1 @AJ2)) (aI @xB (aI @xC @Ai5))) (aI (aI @Ai6 (aI @xD @xE)) (aI (aI @Ai7 @Ai8) (aI @BO7 @BO8)))) (aI (aI (aI @Ai9 (aI @Aj0 @Aj1)) (aI (aI @Aj2 @Aj3) (aI @Aj4 @Aj5))) (aI (aI @Aj6 (aI @Aj7 @Aj8)) (aI (aI @Aj9 @Ak0) (aI @Ak1 @Ak2))))))
def Ay7:=aI (aI (aI (aI (aI (aI @al3 @Tryz.underlying9) (aI @Tryz.underlying22 (aI @BO9 @BP0))) (aI (aI @Tryz.underlying25 @BP1) (aI @Tryz.underlying26 (aI @BP2 @Tryz.underlying27)))) (aI (aI (aI @BP3 @BP4) (aI @BP5 (aI @BP6 @BP7))) (aI (aI @Tryz.underlying30 @BP8) (aI @BP9 (aI @BQ0 @BQ1))))) (aI (aI (aI (aI @BQ2 @Tryz.underlying33) (aI @BQ3 (aI @BQ4 @Tryz.underlying34))) (aI (aI @BQ5 @BQ6) (aI @BQ7 (aI @BQ8 @BQ9)))) (aI (aI (aI @BR0 @BR1) (aI @BR2 (aI @BR3 @BR4))) (aI (aI @BR5 (aI @BR6 @BR7)) (aI @BR8 (aI @BR9 @BS0)))))) (aI (aI (aI (aI (aI @Ay8 @Ay9) (aI @Az0 (aI @Az1 @Az2))) (aI (aI @Az3 @Az4) (aI @Az5 (aI @Ak3 @Ak4)))) (aI (aI (aI @Ak5 @Ak6) (aI @Ak7 (aI @Ak8 @Ak9))) (aI (aI @BS1 (aI @Al0 @Al1)) (aI @Al2 (aI @Al3 @Tryz.underlying129))))) (aI (aI (aI (aI @Al4 @Tryz.underlying133) (aI @Al5 (aI @Tryz.underlying136 @Al6))) (aI (aI @Al7 @Al8) (aI @Al9 (aI @Am0 @Am1)))) (aI (aI (aI @BG4 @mQ) (aI @mR (aI @fB @fC))) (aI (aI @tC (aI @AZ9 @Aa0)) (aI @zr (aI @mS @SF))))))
def D7:=And.intro (And.intro (And.intro (@Av) (And.intro (@W8) (@Y8))) (And.intro (And.intro (@X9) (@V7)) (And.intro (@Y0) (@V8)))) (And.intro (And.intro (And.intro (@V9) (@W0)) (And.intro (@L7) (@I4))) (And.intro (And.intro (@J5) (@J3)) (And.intro (@I5) (@I6))))
def bD:=And.intro BH8 Ay1
def bU:=And.intro BH9 Ay7
def bW:=And.intro bU (And.intro D7 @A6)
def gS {p q:Prop}(x:q) (h:p=q:=by simp(maxSteps:=8000000) (disch:=first|exact dS|fail) only[↓bD,bW,Nat.reduceMul,Nat.reduceEqDiff,Nat.reduceAdd,Nat.reduceBEq,reduceIte,Option.isNone_none,D6,D8];exact rfl):p:=Eq.mpr h x
def gS1 {e p q:Prop}(z:e) (x:q) (h:e->p=q:=by intro zz;simp(maxSteps:=8000000) (disch:=first|exact dS|fail) only[↓bD,bW,Nat.reduceMul,Nat.reduceEqDiff,Nat.reduceAdd,Nat.reduceBEq,reduceIte,Option.isNone_none,D6,D8,zz];exact rfl):p:=Eq.mpr (h z) x
def gU {p q:Prop}(x:q) (h:p=q:=by simp(maxSteps:=8000000) (disch:=first|exact dS|fail) only[↓bD,bU,Nat.reduceMul,Nat.reduceEqDiff,Nat.reduceAdd,Nat.reduceBEq,reduceIte,Option.isNone_none,D6,D8];exact rfl):p:=Eq.mpr h x
def gU1 {e p q:Prop}(z:e) (x:q) (h:e->p=q:=by intro zz;simp(maxSteps:=8000000) (disch:=first|exact dS|fail) only[↓bD,bU,Nat.reduceMul,Nat.reduceEqDiff,Nat.reduceAdd,Nat.reduceBEq,reduceIte,Option.isNone_none,D6,D8,zz];exact rfl):p:=Eq.mpr (h z) x
def gP {p q:Prop}(x:q) (h:p=q:=by simp(maxSteps:=8000000) (disch:=first|exact dS|fail) only[↓bD,bU,A6,D7,Nat.reduceMul,Nat.reduceEqDiff,Nat.reduceAdd,Nat.reduceBEq,reduceIte,Option.isNone_none,D6,D8];exact rfl):p:=Eq.mpr h x
def gP1 {e p q:Prop}(z:e) (x:q) (h:e->p=q:=by intro zz;simp(maxSteps:=8000000) (disch:=first|exact dS|fail) only[↓bD,bU,A6,D7,Nat.reduceMul,Nat.reduceEqDiff,Nat.reduceAdd,Nat.reduceBEq,reduceIte,Option.isNone_none,D6,D8,zz];exact rfl):p:=Eq.mpr (h z) x
def gSd {d e p q:Prop}(y:d) (z:e) (x:q) (h:d->e->p=q:=by intro yy zz;simp(maxSteps:=8000000) (disch:=first|exact dS|fail) only[↓bD,bW,Nat.reduceMul,Nat.reduceEqDiff,Nat.reduceAdd,Nat.reduceBEq,reduceIte,Option.isNone_none,D6,D8,↓yy,zz];exact rfl):p:=Eq.mpr (h y z) x
def gUd {d e p q:Prop}(y:d) (z:e) (x:q) (h:d->e->p=q:=by intro yy zz;simp(maxSteps:=8000000) (disch:=first|exact dS|fail) only[↓bD,bU,Nat.reduceMul,Nat.reduceEqDiff,Nat.reduceAdd,Nat.reduceBEq,reduceIte,Option.isNone_none,D6,D8,↓yy,zz];exact rfl):p:=Eq.mpr (h y z) x
def gPd {d e p q:Prop}(y:d) (z:e) (x:q) (h:d->e->p=q:=by intro yy zz;simp(maxSteps:=8000000) (disch:=first|exact dS|fail) only[↓bD,bU,A6,D7,Nat.reduceMul,Nat.reduceEqDiff,Nat.reduceAdd,Nat.reduceBEq,reduceIte,Option.isNone_none,D6,D8,↓yy,zz];exact rfl):p:=Eq.mpr (h y z) x
def dW {c:Bool}{A:Prop}{u:Hd A}(k:A) (h:c=true:=by(repeat first|simp(disch:=omega) only[O4,G6,G9]|rw[W6 (by kernel_rfl)]);first|done|rfl):Ct c A u:=⟨h,k⟩
def dW1 {e:Prop}{c:Bool}{A:Prop}{u:Hd A}(z:e) (k:A) (h:e->c=true:=by intro zz;(repeat first|simp(disch:=omega) only[O4,G6,G9,zz]|rw[W6 (by kernel_rfl)]);first|done|rfl):Ct c A u:=⟨h z,k⟩
noncomputable abbrev gO (n:Nat):=go Tryz.prog HS (.fn n)
end Go.Proofs.T
