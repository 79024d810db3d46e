/- The Hz AS the Ad2 lean on, and zf. -/
import Derived.Test.YtckchelhlpifiaaGreatDoorTI0
set_option linter.unusedSimpArgs false
set_option linter.unusedVariables false
set_option linter.defProp false
set_option maxHeartbeats 32000000
set_option maxRecDepth 100000
namespace Go.Proofs.T
open Go Go.Ab
section
variable {Z:St}{n:Int}{l:List UInt8}{fr:Fr}{v:Value}{i:Nat}{x:Operand}
noncomputable def HS:EW:=fun g=>if g=4 then some (.plain fun vs Z=>match vs with|[]=>bb (BM (Z.read 1 0 20) (some BG)) (some ⟨false,.bool true,Z⟩)|_=>none)else if g=57 then some (.plain AH8)else if g=196 then some (.plain AK2)else CS1 g
def jT:HG Tryz.prog Z 5 3 (.int .u8 n)=some ⟨.int .i64 (IntKind.i64.wrap n),Z,.none⟩:=kR
def jU:HG Tryz.prog Z 3 5 (.int .i64 n)=some ⟨.int .u8 (IntKind.u8.wrap n),Z,.none⟩:=kR
def bF:HG Tryz.prog Z 3 160 (.int .i64 n)=some ⟨.int .u64 (IntKind.u64.wrap n),Z,.none⟩:=kR
def bG:HG Tryz.prog Z 160 3 (.int .u64 n)=some ⟨.int .i64 (IntKind.i64.wrap n),Z,.none⟩:=kR
def pQ {b off n c:Nat}{sp:Option Nat}:HG Tryz.prog Z 43 9 (.slice (some ⟨b,off,sp⟩) n c)=ob (Z.read b off n) fun vs=>ob (Ac vs) fun l=>some ⟨str l,Z,.read ⟨b,off,n⟩⟩:=bH (e:=5) kR kR kR
def AK3:HG Tryz.prog Z 9 43 (str l)=some ⟨.slice (some ⟨Z.n,0,some 1⟩) l.length l.length,Z.new (N4 l),.none⟩:=kR
def AK4:aC Tryz.prog 9 (str l) i=ob (sub l i 1) mu:=kR
def AK5 {lo hi:Option Value}:Ud Tryz.prog 9 (str l) lo hi=ob (Zs l.length l.length lo hi) fun p=>pr p fun lo hi=>ob (sub l lo (hi-lo)) fun l=>some (str l):=kR
def eq_nil {i:Tmp}:Bi Tryz.prog .eql 126 (.tmp i) (.const .nilIface) .nilIface .nilIface=some (.bool true):=kR
def jV:pJ none= .normal:=rfl
def pR:La Tryz.prog fr 71 x=ob (ev fr x) fun v=>some (.iface 71 v):=kR
def jW:pJ (some v)= .pan v:=rfl
def V1 {a:Addr}:aA (.pointer (some a))=some (.pointer (some a)):=rfl
def AK6 (Z:St) (v:Value):Option Ab.Stepped:=match v with
 | .iface t v=>some ⟨.iface t v,Z,.pan⟩
 |_=>none
def bI {t:TypeId}:AK6 Z (.iface t v)=some ⟨.iface t v,Z,.pan⟩:=rfl
def Ad3 {Q:Ab.Stepped->Prop}{uq:Hd Q}:Ev (QM fr Z x) Q uq=Ev (ev fr x) (fun v=>Ev (AK6 Z v) Q ⟨⟩) ⟨⟩:=by
 show Ev (ob (ev fr x) (AK6 Z)) Q uq=_;rw[D7]
def vq {P:Program}{call:W0}{all:Array Oper}{op:Op}{l:List Oper}{Z0:St}{ds:List Ab.Trace}{Q:FST->Prop}{uq:Hd Q}:
  Ev (XQ P call all op l i fr Z0 v Z ds) Q uq=Ar (Cu op&&(Kj P call all (Region.before all).toList i l (i+1) fr Z0).isSome) (Q ⟨.nil,Z,ds,some v⟩) ⟨⟩:=by
 unfold XQ;rw[eP];cases Cu op with
 |false=>exact propext ⟨fun h=>(nomatch h.1),fun h=>(nomatch h.1)⟩
 | true=>
   rw[TI,D7];cases Kj P call all (Region.before all).toList i l (i+1) fr Z0 with
   |none=>exact propext ⟨fun⟨_,h,_⟩=>(nomatch h),fun h=>(nomatch h.1)⟩
   |some u=>rw[J7,J7];exact propext ⟨fun h=>⟨rfl,h⟩,fun h=>h.2⟩
def Av5 {k:IntKind}:nat? (.int k 1)=some 1/\nat? (.int k 2)=some 2/\nat? (.int k 3)=some 3/\nat? (.int k 4)=some 4/\nat? (.int k 5)=some 5/\nat? (.int k 6)=some 6/\nat? (.int k 7)=some 7/\nat? (.int k 8)=some 8/\nat? (.int k 9)=some 9/\nat? (.int k 10)=some 10/\nat? (.int k 11)=some 11/\nat? (.int k 12)=some 12/\nat? (.int k 13)=some 13/\nat? (.int k 14)=some 14/\nat? (.int k 15)=some 15/\nat? (.int k 16)=some 16:=⟨rfl,rfl,rfl,rfl,rfl,rfl,rfl,rfl,rfl,rfl,rfl,rfl,rfl,rfl,rfl,rfl⟩
end
end Go.Proofs.T
namespace Go.Ab
open Go
set_option linter.defProp false
def Aw8:=aI (aI (aI (aI (aI (aI @wK (aI @wL @AM3)) (aI (aI @LR @po) (aI @wM @Sp))) (aI (aI (aI @wN @Ck) (aI @eK @oe)) (aI (aI @AM4 @TF) (aI @AM5 @AM6)))) (aI (aI (aI @eM (aI @TG @AM7)) (aI (aI @AM8 @wO) (aI @wP @Ae6))) (aI (aI (aI @D7 @eP) (aI @QV @J7)) (aI (aI @pq @bV) (aI @pt @ji))))) (aI (aI (aI (aI @wQ (aI @jl @Ji)) (aI (aI @bZ @pv) (aI @jm @VE))) (aI (aI (aI @wR @AM9) (aI @jn @pw)) (aI (aI @YH @Rr) (aI @jo @Rt)))) (aI (aI (aI @jq (aI @Ru @jr)) (aI (aI @bd @Rv) (aI @YI @wT))) (aI (aI (aI @wU @wV) (aI @bf @px)) (aI (aI @nN @js) (aI @AN0 @py)))))) (aI (aI (aI (aI (aI @bg (aI @pz @jt)) (aI (aI @ju @Qt) (aI @qA @jv))) (aI (aI (aI @VF @wW) (aI @AN1 @qB)) (aI (aI @jw @Rx) (aI @jx @Ry)))) (aI (aI (aI @bh (aI @YJ @wX)) (aI (aI @wY @bj) (aI @qC @nO))) (aI (aI (aI @AN2 @uD) (aI @uE @nP)) (aI (aI @uF @uG) (aI @oH @uv))))) (aI (aI (aI (aI @AJ4 (aI @BA @AI9)) (aI (aI @tz @Je.eq_1) (aI @BW.eq_1 @Jg.eq_1))) (aI (aI (aI @Gj.eq_1 @Aa.eq_1) (aI @Lc.eq_1 @CU.eq_1)) (aI (aI @Za.eq_1 @evN.eq_1) (aI @wZ @nQ)))) (aI (aI (aI (aI @nR @pA) (aI @vd @vW)) (aI (aI @vX @oz) (aI @L8 @j9))) (aI (aI (aI @DH @oI) (aI @oJ @T8)) (aI (aI @T7 @mm2) (aI @Fp.eq_1 @Dn.eq_1))))))
def Aw9:=aI (aI (aI (aI (aI (aI (aI @D7 @J7) (aI @eP @QV)) (aI (aI @TI @eN) (aI @XO @AJ5))) (aI (aI (aI @vZ @Xl) (aI @Xo @vY)) (aI (aI @jP @NW) (aI @Qj (aI @Xj @Xk))))) (aI (aI (aI (aI @jI @AG1) (aI @AG2 @AG3)) (aI (aI @AG4 @AG5) (aI @AG6 (aI @AG7 @AG8)))) (aI (aI (aI @AG9 @AH0) (aI @AH1 @uI)) (aI (aI @uJ @AJ6) (aI @Ac5 (aI @Ac6 @Av4)))))) (aI (aI (aI (aI (aI @Ac7 @AJ7) (aI @Ac8 @vj)) (aI (aI @AJ8 @jJ) (aI @jK @au))) (aI (aI (aI @XP @jL) (aI @av @vK)) (aI (aI @vL @oq) (aI @jM (aI @vM @ot))))) (aI (aI (aI (aI @toArray_toList @vg) (aI @vh @vi)) (aI (aI @ptrTo.eq_1 @we) (aI @jy (aI @wh @AN3)))) (aI (aI (aI @IY @EJ) (aI @HY @Wt)) (aI (aI @Df @JY) (aI @AN4 (aI @wi @jz))))))) (aI (aI (aI (aI (aI (aI @wj @qD) (aI @qE @kA)) (aI (aI @YK @MA) (aI @wk @qG))) (aI (aI (aI @wv @wz) (aI @uw @ux)) (aI (aI @uy @oK) (aI @uz (aI @vA @K3))))) (aI (aI (aI (aI @BV @AI2) (aI @uu @iz)) (aI (aI @oC @jA) (aI @XA (aI @oD @Sa)))) (aI (aI (aI @oE @XB) (aI @SD.{0,0} @List.map_nil.{0,0})) (aI (aI @List.zip_cons_cons.{0,0} @List.zip_nil_left.{0,0}) (aI @List.getElem?_cons_succ.{0} (aI @List.getElem?_cons_zero.{0} @room.eq_1)))))) (aI (aI (aI (aI (aI @FL @Pk) (aI @D1 @M7)) (aI (aI @CQ @E9) (aI @Ml @D5))) (aI (aI (aI @M1 @I1) (aI @Mm @Gy)) (aI (aI @Ah.{0} @JH.{0}) (aI @YL (aI @D8 @qH))))) (aI (aI (aI (aI @qI @bm) (aI @br @XN)) (aI (aI @ay @JK) (aI @vJ (aI @wrap64_in @N8)))) (aI (aI (aI @Po @VG) (aI @Mz.{0} @IV.{0})) (aI (aI @OO.{0} @Gi) (aI @El (aI @decide_true @decide_false)))))))
def bw:=And.intro (And.intro (@N8) (@Po)) (And.intro (@VH) (@VG))
def qJ:=And.intro (And.intro (@BD.{0}) (And.intro (@Ah.{0}) (@JH.{0}))) (And.intro (And.intro (@N8) (@Po)) (And.intro (@VH) (@VG)))
def xA:=And.intro (And.intro (And.intro (And.intro (@D1) (@M7)) (And.intro (@CQ) (@E9))) (And.intro (And.intro (@Ml) (@D5)) (And.intro (@M1) (@I1)))) (And.intro (And.intro (And.intro (@Jc) (@VI)) (And.intro (@YM) (@Mm))) (And.intro (And.intro (@N8) (@Po)) (And.intro (@VH) (@VG))))
def cL {p:Prop}(h:p:=by first|exact True.intro|rfl|assumption|omega|(simp only[bw];omega)|(simp(disch:=first|omega|((try simp only[qJ])<;>omega)|fail) only[xA];first|done|rfl|assumption|omega)|trivial):p:=h
def cL1 {q p:Prop}(e:q) (h:q->p:=by intro zz;first|exact True.intro|rfl|assumption|omega|(simp only[bw];omega)|(simp(disch:=first|omega|((try simp only[qJ])<;>omega)|fail) only[xA,zz];first|done|rfl|assumption|omega)|trivial):p:=h e
def fR {p:Prop}(h:p:=by first|exact True.intro|rfl|assumption|omega|(simp only[bw];omega)|(simp(disch:=first|omega|((try simp only[qJ])<;>omega)|fail) only[xA,↓BA,Nat.reduceEqDiff,reduceIte,NW,Qj,ptrTo];first|done|rfl|assumption|omega)|trivial):p:=h
def fR1 {q p:Prop}(e:q) (h:q->p:=by intro zz;first|exact True.intro|rfl|assumption|omega|(simp only[bw];omega)|(simp(disch:=first|omega|((try simp only[qJ])<;>omega)|fail) only[xA,↓BA,Nat.reduceEqDiff,reduceIte,NW,Qj,ptrTo,zz];first|done|rfl|assumption|omega)|trivial):p:=h e
def eX {p:Prop}(h:p:=by(repeat' (first|assumption|exact Ext.refl _|refine Ext.AG ?_ _|refine Ext.upd ?_ (by(try simp only[bw])<;>omega) _|refine Ext.dead ?_ (by(try simp only[bw])<;>omega)))):p:=h
def dS {p:Prop}(h:p:=by first|omega|((try simp only[qJ])<;>omega)|exact Uv.mk rfl):p:=h
end Go.Ab
namespace Go.Proofs.T
open Go Go.Ab
set_option linter.defProp false
def Ak3:=aI (aI (aI (aI (aI (aI @ld3 (aI @st3 @ld4)) (aI (aI @st4 @ld5) (aI @st5 @ld9))) (aI (aI @st9 (aI @BA4 @BA5)) (aI (aI @BA6 @BA7) (aI @BA8 @BA9)))) (aI (aI (aI @BB0 (aI @BB1 @BB2)) (aI (aI @BB3 @BB4) (aI @BB5 @BB6))) (aI (aI (aI @BB7 @BB8) (aI @AQ8 @AQ9)) (aI (aI @BB9 @BC0) (aI @BC1 @BC2))))) (aI (aI (aI (aI @AR0 (aI @AR1 @AR2)) (aI (aI @AR3 @BC3) (aI @BC4 @BC5))) (aI (aI (aI @BC6 @BC7) (aI @BC8 @BC9)) (aI (aI @BD0 @BD1) (aI @AR4 @AR5)))) (aI (aI (aI @AR6 (aI @AR7 @AR8)) (aI (aI @BD2 @BD3) (aI @AR9 @AS0))) (aI (aI (aI @AS1 @AS2) (aI @AS3 @AS4)) (aI (aI @AS5 @AS6) (aI @AS7 @AS8)))))) (aI (aI (aI (aI (aI @xu (aI @xw @BD4)) (aI (aI @BD5 @BD6) (aI @BD7 @AS9))) (aI (aI @AT0 (aI @BD8 @BD9)) (aI (aI @AT1 @AT2) (aI @AT3 @AT4)))) (aI (aI (aI @AT5 (aI @BE0 @BE1)) (aI (aI @AT6 @AT7) (aI @AT8 @BE2))) (aI (aI (aI @AT9 @AU0) (aI @BE3 @BE4)) (aI (aI @Ak4 @Ak5) (aI @xx @xy))))) (aI (aI (aI (aI @Ak6 (aI @xz @yA)) (aI (aI @yB @yC) (aI @Ak7 @Ak8))) (aI (aI (aI @yD @yE) (aI @yF @yG)) (aI (aI @Ak9 @Al0) (aI @Al1 @yH)))) (aI (aI (aI @yI (aI @yJ @yK)) (aI (aI @yL @Al2) (aI @Al3 @yM))) (aI (aI (aI @yN @Al4) (aI @Al5 @yO)) (aI (aI @yP @yQ) (aI @yR @yS))))))
def Al6:=aI (aI (aI (aI (aI (aI @Tryz.underlying9 @Tryz.underlying22) (aI @BE5 (aI @BE6 @BE7))) (aI (aI @Tryz.underlying28 @BE8) (aI @Tryz.underlying29 (aI @BE9 @Tryz.underlying30)))) (aI (aI (aI @BF0 @BF1) (aI @BF2 (aI @BF3 @BF4))) (aI (aI @Tryz.underlying33 (aI @BF5 @BF6)) (aI @BF7 (aI @BF8 @BF9))))) (aI (aI (aI (aI @Tryz.underlying36 @BG0) (aI @BG1 (aI @Tryz.underlying37 @BG2))) (aI (aI @BG3 (aI @BG4 @BG5)) (aI @tR (aI @tQ @Tryz.underlying43)))) (aI (aI (aI @BG6 @BG7) (aI @BG8 (aI @BG9 @BH0))) (aI (aI @BH1 (aI @BH2 @BH3)) (aI @BH4 (aI @BH5 @BH6)))))) (aI (aI (aI (aI (aI @BH7 @BH8) (aI @Tryz.underlying75 (aI @BH9 @Al7))) (aI (aI @Al8 (aI @Al9 @Am0)) (aI @Am1 (aI @Am2 @Am3)))) (aI (aI (aI @Am4 @Am5) (aI @Am6 (aI @Am7 @Am8))) (aI (aI @Am9 (aI @An0 @An1)) (aI @An2 (aI @An3 @Tryz.underlying184))))) (aI (aI (aI (aI @An4 @An5) (aI @An6 (aI @An7 @An8))) (aI (aI @Av5 (aI @jT @jU)) (aI @bF (aI @bG @pQ)))) (aI (aI (aI @AK3 @AK4) (aI @AK5 (aI @eq_nil @jV))) (aI (aI @pR (aI @jW @V1)) (aI @bI (aI @Ad3 @vq))))))
def D3:=And.intro (And.intro (And.intro (@P9) (@N5)) (And.intro (@N9) (And.intro (@N6) (@K6)))) (And.intro (And.intro (@M4) (@M5)) (And.intro (@K7) (And.intro (@K8) (@H8))))
def bD:=And.intro Aw8 Ak3
def bU:=And.intro Aw9 Al6
def bW:=And.intro bU (And.intro D3 @A4)
def gS {p q:Prop}(x:q) (h:p=q:=by simp(maxSteps:=8000000) (disch:=first|exact dS|fail) only[↓bD,bW,Nat.reduceMul,Nat.reduceEqDiff,Nat.reduceAdd,Nat.reduceBEq,reduceIte,Option.isNone_none,G9,H2];exact rfl):p:=Eq.mpr h x
def gS1 {e p q:Prop}(z:e) (x:q) (h:e->p=q:=by intro zz;simp(maxSteps:=8000000) (disch:=first|exact dS|fail) only[↓bD,bW,Nat.reduceMul,Nat.reduceEqDiff,Nat.reduceAdd,Nat.reduceBEq,reduceIte,Option.isNone_none,G9,H2,zz];exact rfl):p:=Eq.mpr (h z) x
def gU {p q:Prop}(x:q) (h:p=q:=by simp(maxSteps:=8000000) (disch:=first|exact dS|fail) only[↓bD,bU,Nat.reduceMul,Nat.reduceEqDiff,Nat.reduceAdd,Nat.reduceBEq,reduceIte,Option.isNone_none,G9,H2];exact rfl):p:=Eq.mpr h x
def gU1 {e p q:Prop}(z:e) (x:q) (h:e->p=q:=by intro zz;simp(maxSteps:=8000000) (disch:=first|exact dS|fail) only[↓bD,bU,Nat.reduceMul,Nat.reduceEqDiff,Nat.reduceAdd,Nat.reduceBEq,reduceIte,Option.isNone_none,G9,H2,zz];exact rfl):p:=Eq.mpr (h z) x
def gP {p q:Prop}(x:q) (h:p=q:=by simp(maxSteps:=8000000) (disch:=first|exact dS|fail) only[↓bD,bU,A4,D3,Nat.reduceMul,Nat.reduceEqDiff,Nat.reduceAdd,Nat.reduceBEq,reduceIte,Option.isNone_none,G9,H2];exact rfl):p:=Eq.mpr h x
def gP1 {e p q:Prop}(z:e) (x:q) (h:e->p=q:=by intro zz;simp(maxSteps:=8000000) (disch:=first|exact dS|fail) only[↓bD,bU,A4,D3,Nat.reduceMul,Nat.reduceEqDiff,Nat.reduceAdd,Nat.reduceBEq,reduceIte,Option.isNone_none,G9,H2,zz];exact rfl):p:=Eq.mpr (h z) x
def gSd {d e p q:Prop}(y:d) (z:e) (x:q) (h:d->e->p=q:=by intro yy zz;simp(maxSteps:=8000000) (disch:=first|exact dS|fail) only[↓bD,bW,Nat.reduceMul,Nat.reduceEqDiff,Nat.reduceAdd,Nat.reduceBEq,reduceIte,Option.isNone_none,G9,H2,↓yy,zz];exact rfl):p:=Eq.mpr (h y z) x
def gUd {d e p q:Prop}(y:d) (z:e) (x:q) (h:d->e->p=q:=by intro yy zz;simp(maxSteps:=8000000) (disch:=first|exact dS|fail) only[↓bD,bU,Nat.reduceMul,Nat.reduceEqDiff,Nat.reduceAdd,Nat.reduceBEq,reduceIte,Option.isNone_none,G9,H2,↓yy,zz];exact rfl):p:=Eq.mpr (h y z) x
def gPd {d e p q:Prop}(y:d) (z:e) (x:q) (h:d->e->p=q:=by intro yy zz;simp(maxSteps:=8000000) (disch:=first|exact dS|fail) only[↓bD,bU,A4,D3,Nat.reduceMul,Nat.reduceEqDiff,Nat.reduceAdd,Nat.reduceBEq,reduceIte,Option.isNone_none,G9,H2,↓yy,zz];exact rfl):p:=Eq.mpr (h y z) x
def dW {c:Bool}{A:Prop}{u:Hd A}(k:A) (h:c=true:=by(repeat first|simp(disch:=omega) only[DH,Gc,Bq]|rw[IT (by kernel_rfl)]);first|done|rfl):Ar c A u:=⟨h,k⟩
def dW1 {e:Prop}{c:Bool}{A:Prop}{u:Hd A}(z:e) (k:A) (h:e->c=true:=by intro zz;(repeat first|simp(disch:=omega) only[DH,Gc,Bq,zz]|rw[IT (by kernel_rfl)]);first|done|rfl):Ar c A u:=⟨h z,k⟩
noncomputable abbrev gO (n:Nat):=go Tryz.prog HS (.fn n)
end Go.Proofs.T
