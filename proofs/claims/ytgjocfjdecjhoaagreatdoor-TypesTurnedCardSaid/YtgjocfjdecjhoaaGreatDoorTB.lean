/- The Hw that the Ak0 lean on, and AF7. -/
import Derived.Test.YtgjocfjdecjhoaaGreatDoorTI0
set_option linter.unusedSimpArgs false
set_option linter.unusedVariables false
set_option linter.defProp false
set_option maxHeartbeats 32000000
set_option maxRecDepth 100000
namespace Go.Proofs.T
open Go Go.Ab
section
variable {Z:St}{n:Int}{l:List UInt8}
noncomputable def HS:Dq:=fun g=>if g=8 then some (.plain fun vs Z=>match vs with|[]=>bb (CJ (Z.read 0 0 20) (some AE)) (some ⟨false,.bool true,Z⟩)|_=>none)else if g=35 then some (.plain AN9)else if g=290 then some (.plain AQ0)else CS1 g
def kK:Hp Tryz.prog Z 5 3 (.int .u8 n)=some ⟨.int .i64 (IntKind.i64.wrap n),Z,.none⟩:=kR
def kL:Hp Tryz.prog Z 3 5 (.int .i64 n)=some ⟨.int .u8 (IntKind.u8.wrap n),Z,.none⟩:=kR
def dP:Hp Tryz.prog Z 3 101 (.int .i64 n)=some ⟨.int .u64 (IntKind.u64.wrap n),Z,.none⟩:=kR
def dR:Hp Tryz.prog Z 101 3 (.int .u64 n)=some ⟨.int .i64 (IntKind.i64.wrap n),Z,.none⟩:=kR
def qY {b off n c:Nat}{sp:Option Nat}:Hp Tryz.prog Z 199 9 (.slice (some ⟨b,off,sp⟩) n c)=ob (Z.read b off n) fun vs=>ob (BQ vs) fun l=>some ⟨str l,Z,.read ⟨b,off,n⟩⟩:=dU (e:=5) kR kR kR
def AQ1 {i:Nat}:cJ Tryz.prog 9 (str l) i=ob (sub l i 1) jW:=kR
def AQ2 {lo hi:Option Value}:Ve Tryz.prog 9 (str l) lo hi=ob (bw l.length l.length lo hi) fun p=>pr p fun lo hi=>ob (sub l lo (hi-lo)) fun l=>some (str l):=kR
def xx {x y:Operand}{a b:Bool}:Ay Tryz.prog .eql 4 x y (.bool a) (.bool b)=some (.bool (bi a b (!b))):=by cases a<;>cases b<;>kernel_rfl
def kM:xr none= .normal:=rfl
def Qr {a:Addr}:cH (.pointer (some a))=some (.pointer (some a)):=rfl
def BO8 (Z:St) (v:Value):Option Ab.Stepped:=match v with
 | .iface t v=>some ⟨.iface t v,Z,.pan⟩
 |_=>none
def Ax0 {k:IntKind}:nat? (.int k 1)=some 1/\nat? (.int k 2)=some 2/\nat? (.int k 3)=some 3/\nat? (.int k 4)=some 4/\nat? (.int k 5)=some 5/\nat? (.int k 6)=some 6/\nat? (.int k 7)=some 7/\nat? (.int k 8)=some 8/\nat? (.int k 9)=some 9/\nat? (.int k 10)=some 10/\nat? (.int k 11)=some 11/\nat? (.int k 12)=some 12/\nat? (.int k 13)=some 13/\nat? (.int k 14)=some 14/\nat? (.int k 15)=some 15/\nat? (.int k 16)=some 16:=⟨rfl,rfl,rfl,rfl,rfl,rfl,rfl,rfl,rfl,rfl,rfl,rfl,rfl,rfl,rfl,rfl⟩
end
end Go.Proofs.T
namespace Go.Ab
open Go
set_option linter.defProp false
def Az2:=aI (aI (aI (aI (aI (aI @yV (aI @yW @AR3)) (aI @rR (aI @rS @yX))) (aI (aI @kY (aI @yY @Ga)) (aI (aI @yZ @AR4) (aI @kZ @AR5)))) (aI (aI (aI @ya (aI @kg @AR6)) (aI @yb (aI @yc @Al8))) (aI (aI @F7 (aI @pg @Re)) (aI (aI @K6 @rT) (aI @dw @rU))))) (aI (aI (aI (aI @kh (aI @yd @ki)) (aI @Rx (aI @eA @rV))) (aI (aI @kj (aI @WV @yf)) (aI (aI @AR7 @rW) (aI @ZX @TH)))) (aI (aI (aI @km (aI @TI @TJ)) (aI @kq (aI @eB @ZY))) (aI (aI @yg (aI @yh @eC)) (aI (aI @rX @oc) (aI @AR8 @rY)))))) (aI (aI (aI (aI (aI @eD (aI @re @kr)) (aI @ks (aI @Ry @rf))) (aI (aI @ku (aI @WW @yi)) (aI (aI @TK @TL) (aI @ZZ @yj)))) (aI (aI (aI @eE (aI @rh @od)) (aI @AR9 (aI @wL @wN))) (aI (aI @wO (aI @pC @xC)) (aI (aI @AP2 @Au) (aI @jC @wH))))) (aI (aI (aI (aI @Je.eq_1 (aI @Bo.eq_1 @RA.eq_1)) (aI @LY.eq_1 (aI @Al.eq_1 @Ld.eq_1))) (aI (aI @Cs.eq_1 (aI @bL.eq_1 @evN.eq_1)) (aI (aI @yp @oe) (aI @og @qG)))) (aI (aI (aI @xh (aI @xc @xe)) (aI (aI @qF @ri) (aI @AS0 @M9))) (aI (aI @pD (aI @pE @xG)) (aI (aI @xH @mm2) (aI @Ft.eq_1 @Dx.eq_1))))))
def Az3:=aI (aI (aI (aI (aI (aI (aI @F7 @K6) (aI @pg @Re)) (aI (aI @jz @xN) (aI @ph @AP3))) (aI (aI (aI @xg @dI) (aI @Yy @xf)) (aI (aI @kH @Nu) (aI @Rl @Yw)))) (aI (aI (aI (aI @Yx @kC) (aI @AM7 @AM8)) (aI (aI @AM9 @AN0) (aI @AN1 @AN2))) (aI (aI (aI @AN3 @AN4) (aI @AN5 @AN6)) (aI (aI @AN7 @wQ) (aI @wT (aI @AP4 @Aj5)))))) (aI (aI (aI (aI (aI @Aj6 @Aw9) (aI @qI @AP5)) (aI (aI @xm @AP6) (aI @kD @kE))) (aI (aI (aI @dB @Jj) (aI @dD @xQ)) (aI (aI @xR @pv) (aI @Nt (aI @qA @toArray_toList))))) (aI (aI (aI (aI @xi @xj) (aI @xk @ptrTo.eq_1)) (aI (aI @yq @kz) (aI @yr @AS1))) (aI (aI (aI @bq @Pl) (aI @Fp @QA)) (aI (aI @MH @Xq) (aI @AS2 (aI @yu @lA))))))) (aI (aI (aI (aI (aI (aI @yv @rj) (aI @rk @lC)) (aI (aI @Zb @WX) (aI @yw @ER))) (aI (aI (aI @yx @yz) (aI @xD @xE)) (aI (aI @xF @gI) (aI @xI @GN)))) (aI (aI (aI (aI @BR @AO0) (aI @xB @js)) (aI (aI @ox @jt) (aI @YZ @oy))) (aI (aI (aI @Td @pA) (aI @Ya @YW.{0,0})) (aI (aI @List.map_nil.{0,0} @List.zip_cons_cons.{0,0}) (aI @List.zip_nil_left.{0,0} (aI @List.getElem?_cons_succ.{0} @List.getElem?_cons_zero.{0})))))) (aI (aI (aI (aI (aI @room.eq_1 @Cz) (aI @Mz @K5)) (aI (aI @O9 @CI) (aI @M4 @EU))) (aI (aI (aI @R5 @AX) (aI @K0 @HC)) (aI (aI @CE.{0} @JQ.{0}) (aI @Zd (aI @C8 @rm))))) (aI (aI (aI (aI @ru @eF) (aI @eG @sB)) (aI (aI @dE @Jk) (aI @WI @wrap64_in))) (aI (aI (aI @F6 @Gn) (aI @Jb.{0} @FV.{0})) (aI (aI @Mp.{0} @br) (aI @XN (aI @decide_true @decide_false)))))))
def lD:=And.intro (And.intro (@F6) (@Gn)) (And.intro (@OB) (And.intro (@eH) (@eI)))
def sD:=And.intro (And.intro (And.intro (@Dc.{0}) (@CE.{0})) (And.intro (@JQ.{0}) (@F6))) (And.intro (And.intro (@Gn) (@OB)) (And.intro (@eH) (@eI)))
def zA:=And.intro (And.intro (And.intro (And.intro (@K5) (@O9)) (And.intro (@CI) (@M4))) (And.intro (And.intro (@EU) (@R5)) (And.intro (@AX) (And.intro (@K0) (@JZ))))) (And.intro (And.intro (And.intro (@WY) (@Js)) (And.intro (@S7) (And.intro (@Zf) (@WZ)))) (And.intro (And.intro (@F6) (@Gn)) (And.intro (@OB) (And.intro (@eH) (@eI)))))
def cL {p:Prop}(h:p:=by first|exact True.intro|rfl|assumption|omega|(simp only[lD];omega)|(simp(disch:=first|omega|((try simp only[sD])<;>omega)|fail) only[zA];first|done|rfl|assumption|omega)|trivial):p:=h
def cL1 {q p:Prop}(e:q) (h:q->p:=by intro zz;first|exact True.intro|rfl|assumption|omega|(simp only[lD];omega)|(simp(disch:=first|omega|((try simp only[sD])<;>omega)|fail) only[zA,zz];first|done|rfl|assumption|omega)|trivial):p:=h e
def fR {p:Prop}(h:p:=by first|exact True.intro|rfl|assumption|omega|(simp only[lD];omega)|(simp(disch:=first|omega|((try simp only[sD])<;>omega)|fail) only[zA,↓Au,Nat.reduceEqDiff,reduceIte,Nu,Rl,ptrTo];first|done|rfl|assumption|omega)|trivial):p:=h
def fR1 {q p:Prop}(e:q) (h:q->p:=by intro zz;first|exact True.intro|rfl|assumption|omega|(simp only[lD];omega)|(simp(disch:=first|omega|((try simp only[sD])<;>omega)|fail) only[zA,↓Au,Nat.reduceEqDiff,reduceIte,Nu,Rl,ptrTo,zz];first|done|rfl|assumption|omega)|trivial):p:=h e
def eX {p:Prop}(h:p:=by(repeat' (first|assumption|exact Ext.refl _|refine Ext.W6 ?_ _|refine Ext.upd ?_ (by(try simp only[lD])<;>omega) _|refine Ext.dead ?_ (by(try simp only[lD])<;>omega)))):p:=h
def dS {p:Prop}(h:p:=by first|omega|((try simp only[sD])<;>omega)|exact WH.mk rfl):p:=h
end Go.Ab
namespace Go.Proofs.T
open Go Go.Ab
set_option linter.defProp false
def Ap0:=aI (aI (aI (aI (aI (aI @ld3 (aI @st3 @ld4)) (aI (aI @st4 @ld9) (aI @BC8 @BC9))) (aI (aI @BD0 (aI @BD1 @BD2)) (aI (aI @BD3 @BD4) (aI @BD5 @BD6)))) (aI (aI (aI @BD7 (aI @BD8 @BD9)) (aI (aI @BE0 @BE1) (aI @AV2 @AV3))) (aI (aI @BE2 (aI @BE3 @BE4)) (aI (aI @BE5 @AV4) (aI @AV5 @AV6))))) (aI (aI (aI (aI @AV7 (aI @BE6 @BE7)) (aI (aI @BE8 @BE9) (aI @BF0 @BF1))) (aI (aI @BF2 (aI @BF3 @AV8)) (aI (aI @AV9 @AW0) (aI @AW1 @AW2)))) (aI (aI (aI @BF4 (aI @BF5 @AW3)) (aI (aI @AW4 @AW5) (aI @AW6 @AW7))) (aI (aI (aI @AW8 @AW9) (aI @AX0 @AX1)) (aI (aI @AX2 @zv) (aI @zw @BF6)))))) (aI (aI (aI (aI (aI @BF7 (aI @AX3 @AX4)) (aI (aI @BF8 @BF9) (aI @AX5 @AX6))) (aI (aI @AX7 (aI @AX8 @AX9)) (aI (aI @BG0 @BG1) (aI @AY0 @AY1)))) (aI (aI (aI @AY2 (aI @Ap1 @Ap2)) (aI (aI @Ap3 @zx) (aI @AA0 @AA1))) (aI (aI (aI @Ap4 @Ap5) (aI @AA2 @AA3)) (aI (aI @uJ @uK) (aI @AY3 @AY4))))) (aI (aI (aI (aI @uL (aI @uM @AY5)) (aI (aI @AY6 @uN) (aI @uO @AY7))) (aI (aI @AY8 (aI @BG2 @BG3)) (aI (aI @AY9 @AZ0) (aI @AZ1 @AZ2)))) (aI (aI (aI @AZ3 (aI @AZ4 @AZ5)) (aI (aI @AZ6 @AZ7) (aI @AZ8 @AZ9))) (aI (aI (aI @Aa0 @Aa1) (aI @Aa2 @Aa3)) (aI (aI @Aa4 @Aa5) (aI @Aa6 @Aa7))))))
def Ap6:=aI (aI (aI (aI (aI (aI @al3 @Tryz.underlying9) (aI @Tryz.underlying22 (aI @BG4 @BG5))) (aI (aI @Tryz.underlying25 (aI @BG6 @Tryz.underlying26)) (aI @BG7 (aI @Tryz.underlying27 @BG8)))) (aI (aI (aI @BG9 @BH0) (aI @BH1 (aI @BH2 @Tryz.underlying30))) (aI (aI @BH3 (aI @BH4 @BH5)) (aI @BH6 (aI @BH7 @Tryz.underlying33))))) (aI (aI (aI (aI @BH8 @Tryz.underlying34) (aI @BH9 (aI @BI0 @BI1))) (aI (aI @BI2 (aI @BI3 @BI4)) (aI @BI5 (aI @BI6 @BI7)))) (aI (aI (aI @BI8 (aI @BI9 @BJ0)) (aI @BJ1 (aI @BJ2 @BJ3))) (aI (aI @BJ4 (aI @Ap7 @Ap8)) (aI @Ap9 (aI @Aq0 @Aq1)))))) (aI (aI (aI (aI (aI @Aq2 @Aq3) (aI @Aq4 (aI @Aa8 @Aa9))) (aI (aI @Ab0 (aI @Ab1 @Ab2)) (aI @Ab3 (aI @Ab4 @Ab5)))) (aI (aI (aI @Ab6 @Ab7) (aI @Ab8 (aI @BJ5 @Ab9))) (aI (aI @Ac0 (aI @Ac1 @Ac2)) (aI @Tryz.underlying129 (aI @Ac3 @Tryz.underlying133))))) (aI (aI (aI (aI @Ac4 @Tryz.underlying136) (aI @Ac5 (aI @Ac6 @Ac7))) (aI (aI @Tryz.underlying173 (aI @Ac8 @Ac9)) (aI @Ad0 (aI @Ad1 @Ad2)))) (aI (aI (aI @Ad3 (aI @Ax0 @kK)) (aI @kL (aI @dP @dR))) (aI (aI @qY (aI @AQ1 @AQ2)) (aI @xx (aI @kM @Qr))))))
def D5:=And.intro (And.intro (And.intro (@Ag) (And.intro (@W4) (@Y0))) (And.intro (And.intro (@W8) (@U5)) (And.intro (@W5) (@U6)))) (And.intro (And.intro (And.intro (@U7) (@U8)) (And.intro (@K3) (@H9))) (And.intro (And.intro (@J3) (@I5)) (And.intro (@I6) (@I0))))
def bD:=And.intro Az2 Ap0
def bU:=And.intro Az3 Ap6
def bW:=And.intro bU (And.intro D5 @A6)
def gS {p q:Prop}(x:q) (h:p=q:=by simp(maxSteps:=8000000) (disch:=first|exact dS|fail) only[↓bD,bW,Nat.reduceMul,Nat.reduceEqDiff,Nat.reduceAdd,Nat.reduceBEq,reduceIte,Option.isNone_none,D9,F4];exact rfl):p:=Eq.mpr h x
def gS1 {e p q:Prop}(z:e) (x:q) (h:e->p=q:=by intro zz;simp(maxSteps:=8000000) (disch:=first|exact dS|fail) only[↓bD,bW,Nat.reduceMul,Nat.reduceEqDiff,Nat.reduceAdd,Nat.reduceBEq,reduceIte,Option.isNone_none,D9,F4,zz];exact rfl):p:=Eq.mpr (h z) x
def gU {p q:Prop}(x:q) (h:p=q:=by simp(maxSteps:=8000000) (disch:=first|exact dS|fail) only[↓bD,bU,Nat.reduceMul,Nat.reduceEqDiff,Nat.reduceAdd,Nat.reduceBEq,reduceIte,Option.isNone_none,D9,F4];exact rfl):p:=Eq.mpr h x
def gU1 {e p q:Prop}(z:e) (x:q) (h:e->p=q:=by intro zz;simp(maxSteps:=8000000) (disch:=first|exact dS|fail) only[↓bD,bU,Nat.reduceMul,Nat.reduceEqDiff,Nat.reduceAdd,Nat.reduceBEq,reduceIte,Option.isNone_none,D9,F4,zz];exact rfl):p:=Eq.mpr (h z) x
def gP {p q:Prop}(x:q) (h:p=q:=by simp(maxSteps:=8000000) (disch:=first|exact dS|fail) only[↓bD,bU,A6,D5,Nat.reduceMul,Nat.reduceEqDiff,Nat.reduceAdd,Nat.reduceBEq,reduceIte,Option.isNone_none,D9,F4];exact rfl):p:=Eq.mpr h x
def gP1 {e p q:Prop}(z:e) (x:q) (h:e->p=q:=by intro zz;simp(maxSteps:=8000000) (disch:=first|exact dS|fail) only[↓bD,bU,A6,D5,Nat.reduceMul,Nat.reduceEqDiff,Nat.reduceAdd,Nat.reduceBEq,reduceIte,Option.isNone_none,D9,F4,zz];exact rfl):p:=Eq.mpr (h z) x
def gSd {d e p q:Prop}(y:d) (z:e) (x:q) (h:d->e->p=q:=by intro yy zz;simp(maxSteps:=8000000) (disch:=first|exact dS|fail) only[↓bD,bW,Nat.reduceMul,Nat.reduceEqDiff,Nat.reduceAdd,Nat.reduceBEq,reduceIte,Option.isNone_none,D9,F4,↓yy,zz];exact rfl):p:=Eq.mpr (h y z) x
def gUd {d e p q:Prop}(y:d) (z:e) (x:q) (h:d->e->p=q:=by intro yy zz;simp(maxSteps:=8000000) (disch:=first|exact dS|fail) only[↓bD,bU,Nat.reduceMul,Nat.reduceEqDiff,Nat.reduceAdd,Nat.reduceBEq,reduceIte,Option.isNone_none,D9,F4,↓yy,zz];exact rfl):p:=Eq.mpr (h y z) x
def gPd {d e p q:Prop}(y:d) (z:e) (x:q) (h:d->e->p=q:=by intro yy zz;simp(maxSteps:=8000000) (disch:=first|exact dS|fail) only[↓bD,bU,A6,D5,Nat.reduceMul,Nat.reduceEqDiff,Nat.reduceAdd,Nat.reduceBEq,reduceIte,Option.isNone_none,D9,F4,↓yy,zz];exact rfl):p:=Eq.mpr (h y z) x
def dW {c:Bool}{A:Prop}{u:Hd A}(k:A) (h:c=true:=by(repeat first|simp(disch:=omega) only[M9,G3,G8]|rw[V8 (by kernel_rfl)]);first|done|rfl):Ca c A u:=⟨h,k⟩
def dW1 {e:Prop}{c:Bool}{A:Prop}{u:Hd A}(z:e) (k:A) (h:e->c=true:=by intro zz;(repeat first|simp(disch:=omega) only[M9,G3,G8,zz]|rw[V8 (by kernel_rfl)]);first|done|rfl):Ca c A u:=⟨h z,k⟩
noncomputable abbrev gO (n:Nat):=go Tryz.prog HS (.fn n)
end Go.Proofs.T
