/- eI on the types of the HC. -/
import Derived.Test.YtbcanmagihejhaaGreatDoorAbD
import Derived.Test.YtbcanmagihejhaaGreatDoorTA
import Derived.Test.YtbcanmagihejhaaGreatDoorProg
import Derived.KernelRfl
import Derived.Test.YtbcanmagihejhaaGreatDoorSD
import Derived.Test.YtbcanmagihejhaaGreatDoorTK
import Derived.Test.YtbcanmagihejhaaGreatDoorWA
import Derived.Test.YtbcanmagihejhaaGreatDoorEA
set_option linter.unusedSimpArgs false
set_option linter.unusedVariables false
set_option maxHeartbeats 32000000
set_option maxRecDepth 100000
namespace Go.Proofs.T
open Go Go.Ab
section
variable {fr:Fr} {Z:St} {x ix a v:Operand} {ve:Value}
theorem xZ {b off i:Nat}:Ei Tryz.prog 23 (.pointer (some ⟨b,off,none⟩)) i=bb (Nat.blt i 2) (some (.pointer (some ⟨b,off+i*1,none⟩))):=by kernel_rfl
end
end Go.Proofs.T
namespace Go.Proofs.T
open Go Go.Ab
open Nat (reduceMul reduceEqDiff reduceAdd)
theorem Jh {Z Z':St}{cells:List Value}{T:Tn}(h:TnY (H6 Z []) cells T) (hE:Ext Z Z'):TnY (H6 Z' []) cells T:=h.E8 (DP hE)
theorem Vf {Z:St}{v0 v1:Value}{l0 l1:List Int}{q0 q1 q2:Int}(hl0:Y8 (H6 Z []) v0 l0) (hl1:Y8 (H6 Z []) v1 l1) (AG1:l0.length<=9223372036854775807) (AG2:l1.length<=9223372036854775807) (hq0:u7 q0) (hq1:u7 q1) (hq2:u7 q2) (hp:Z.read 1 0 20=some P9) (hp1:1<Z.n) :
  Ev (go Tryz.prog HS (.fn 11) [.agg ⟨[v0,v1]⟩,.agg ⟨[.int .i64 q0,.int .i64 q1,.int .i64 q2]⟩] Z) (fun r=>∃ Z',r=⟨false,.bool true,Z'⟩) ⟨⟩:=by
 obtain ⟨d0,n0,e0,rfl⟩:∃ a n c,v0= .slice a n c:=by
  obtain ⟨a,c,b,off,cells,h,-⟩:=hl0.1.use;exact ⟨a,_,c,h⟩
 obtain ⟨d1,n1,e1,rfl⟩:∃ a n c,v1= .slice a n c:=by
  obtain ⟨a,c,b,off,cells,h,-⟩:=hl1.1.use;exact ⟨a,_,c,h⟩
 have EA:Ext Z ((Z.new [.slice d0 n0 e0,.slice d1 n1 e1]).new [.int .i64 q0,.int .i64 q1,.int .i64 q2]):=eX;refine D7 Tryz.func11 rfl rfl ?_;simp (maxSteps:=8000000) (disch:=first|exact dS|fail) only [↓bD,bU,reduceMul,reduceEqDiff,reduceAdd,Nat.reduceBEq,reduceIte,Option.isNone_none,A1,A7,xZ,DU,Ze (An EA hp1 hp)];refine (Pj [] (by simp) (hl0.E8 (DP EA)) AG1).mono ?_;rintro r ⟨cT,T,Z1,rfl,E1,hT,hM⟩;have F1:=E1.n;simp only [N3] at F1;obtain ⟨a0,a1,a2,a3,a4,a5,a6,a7,a8,a9,a10,a11,a12,a13,a14,a15,a16,a17,a18,a19,rfl⟩:=hT.tn.cells;have wa:Z1.row Z.n=some [.slice d0 n0 e0,.slice d1 n1 e1]:=by rw [E1.row (by simp;omega)];exact cL
 have wq:Z1.row (Z.n+1)=some [.int .i64 q0,.int .i64 q1,.int .i64 q2]:=by rw [E1.row (by simp)];exact cL
 refine gU1 (a4N @A1 @A7 @xZ @wa) ?_;have EB:Ext Z1 ((Z1.new [str [],.slice none 0 0,.slice none 0 0,.slice none 0 0,.int .i64 0,.int .i64 0,str [],.int .i64 0,.int .i64 0,str [],.slice none 0 0,.slice none 0 0,.int .i64 0,.slice none 0 0,.int .i64 0,.int .i64 0,.int .i64 0,.int .i64 0,.int .i64 0,.int .i64 0] (some 41)).upd Z1.n [a0,a1,a2,a3,a4,a5,a6,a7,a8,a9,a10,a11,a12,a13,a14,a15,a16,a17,a18,a19]):=eX;refine (Pj [] (by simp) (hl1.E8 (DP ((EA.trans E1).trans EB))) AG2).mono ?_;rintro r ⟨cU,U,Z2,rfl,E2,hU,hN⟩;have F2:=E2.n;simp only [N3,LR] at F2;obtain ⟨b0,b1,b2,b3,b4,b5,b6,b7,b8,b9,b10,b11,b12,b13,b14,b15,b16,b17,b18,b19,rfl⟩:=hU.tn.cells;have wt:Z2.row Z1.n=some [a0,a1,a2,a3,a4,a5,a6,a7,a8,a9,a10,a11,a12,a13,a14,a15,a16,a17,a18,a19]:=by rw [E2.row (by simp)];exact cL
 have wq2:Z2.row (Z.n+1)=some [.int .i64 q0,.int .i64 q1,.int .i64 q2]:=by rw [E2.row (by simp;omega),D9 om,Af om];exact wq
 refine gU1 (a6N @A1 @A7 @xd @xe @wt @wq2) ?_;have EC:Ext Z2 ((Z2.new [str [],.slice none 0 0,.slice none 0 0,.slice none 0 0,.int .i64 0,.int .i64 0,str [],.int .i64 0,.int .i64 0,str [],.slice none 0 0,.slice none 0 0,.int .i64 0,.slice none 0 0,.int .i64 0,.int .i64 0,.int .i64 0,.int .i64 0,.int .i64 0,.int .i64 0] (some 41)).upd Z2.n [b0,b1,b2,b3,b4,b5,b6,b7,b8,b9,b10,b11,b12,b13,b14,b15,b16,b17,b18,b19]):=eX;have ET:=(EB.trans E2).trans EC;refine (kZ (H:=[]) (by simp) (Jh hT ET) (ke hM) om om om hq0 hq1 hq2).mono ?_;rintro r ⟨cV,V,Z3,rfl,E3,hV,hW⟩;have F3:=E3.n;simp only [N3,LR] at F3;obtain ⟨c0,c1,c2,c3,c4,c5,c6,c7,c8,c9,c10,c11,c12,c13,c14,c15,c16,c17,c18,c19,rfl⟩:=hV.tn.cells;have rt:Z3.row Z1.n=some [a0,a1,a2,a3,a4,a5,a6,a7,a8,a9,a10,a11,a12,a13,a14,a15,a16,a17,a18,a19]:=by rw [E3.row (by simp;omega),D9 om,Af om];exact wt
 have ru:Z3.row Z2.n=some [b0,b1,b2,b3,b4,b5,b6,b7,b8,b9,b10,b11,b12,b13,b14,b15,b16,b17,b18,b19]:=by rw [E3.row (by simp)];exact cL
 obtain ⟨S,hS⟩:∃ S,((Z3.new [str [],.slice none 0 0,.slice none 0 0,.slice none 0 0,.int .i64 0,.int .i64 0,str [],.int .i64 0,.int .i64 0,str [],.slice none 0 0,.slice none 0 0,.int .i64 0,.slice none 0 0,.int .i64 0,.int .i64 0,.int .i64 0,.int .i64 0,.int .i64 0,.int .i64 0] (some 41)).upd Z3.n [c0,c1,c2,c3,c4,c5,c6,c7,c8,c9,c10,c11,c12,c13,c14,c15,c16,c17,c18,c19])=S:=⟨_,rfl⟩
 have ED:Ext Z3 S:=by rw [<- hS];exact eX
 have nS:S.n=Z3.n+1:=by rw [<- hS];rfl
 have rt0:S.row Z1.n=some [a0,a1,a2,a3,a4,a5,a6,a7,a8,a9,a10,a11,a12,a13,a14,a15,a16,a17,a18,a19]:=by rw [ED.row om];exact rt
 have ru0:S.row Z2.n=some [b0,b1,b2,b3,b4,b5,b6,b7,b8,b9,b10,b11,b12,b13,b14,b15,b16,b17,b18,b19]:=by rw [ED.row om];exact ru
 have rv0:S.row Z3.n=some [c0,c1,c2,c3,c4,c5,c6,c7,c8,c9,c10,c11,c12,c13,c14,c15,c16,c17,c18,c19]:=by rw [<- hS];exact cL
 have ETS:Ext Z1 S:=(ET.trans E3).trans ED;have EUS:Ext Z2 S:=(EC.trans E3).trans ED;have tT:Ar S [a0,a1,a2,a3,a4,a5,a6,a7,a8,a9,a10,a11,a12,a13,a14,a15,a16,a17,a18,a19] T:=(Jh hT ETS).tn;have tU:Ar S [b0,b1,b2,b3,b4,b5,b6,b7,b8,b9,b10,b11,b12,b13,b14,b15,b16,b17,b18,b19] U:=(Jh hU EUS).tn;have tV:Ar S [c0,c1,c2,c3,c4,c5,c6,c7,c8,c9,c10,c11,c12,c13,c14,c15,c16,c17,c18,c19] V:=(Jh hV ED).tn;have cT:=hM.right.cap;have cU:=hN.right.cap;have cV:=sC hW om;have pS:S.read 1 0 20=some P9:=An ((EA.trans E1).trans ETS) hp1 hp;have n1S:1<S.n:=om;have ePr:=Zf hM.right hN.right;obtain ⟨h4,hrs⟩:=PY hM;obtain ⟨k4,krs⟩:=PY hN;have hsm:=hM.sm;have RI:=hN.sm;have hrt:=hM.right;have AG3:=hN.right;have eC:=Vg (T:=V) (U:=T);have eS:=Eh T;have lt1:Z1.n<S.n:=om;have lt2:Z2.n<S.n:=om;have lt3:Z3.n<S.n:=om;clear hT hU hV hM hN hW wa wq wt wq2 rt ru ETS EUS ET EA E1 EB E2 EC E3 ED;generalize hTU:N9 T U=bu at ePr;generalize hTV:N9 T V=bv at eC;have Oq:=ePr.symm;clear ePr;refine gU1 (a8N @A1 @A7 @J1 @J2 @hS @rt0 @ru0 @rv0) ?_;cases bu <;> cases bv
 all_goals
  refine (BA (tT.mono (Ext.refl S)) (tU.mono (Ext.refl S)) cT cU).mono ?_;rintro r ⟨S1,rfl,X1⟩;rw [hTU];have X0:Ext ((Z3.new [str [],.slice none 0 0,.slice none 0 0,.slice none 0 0,.int .i64 0,.int .i64 0,str [],.int .i64 0,.int .i64 0,str [],.slice none 0 0,.slice none 0 0,.int .i64 0,.slice none 0 0,.int .i64 0,.int .i64 0,.int .i64 0,.int .i64 0,.int .i64 0,.int .i64 0] (some 41)).upd Z3.n [c0,c1,c2,c3,c4,c5,c6,c7,c8,c9,c10,c11,c12,c13,c14,c15,c16,c17,c18,c19]) S1:=by rw [hS];exact X1
  clear hS;have G1:Ext S S1:=X1;have rt1:S1.row Z1.n=some [a0,a1,a2,a3,a4,a5,a6,a7,a8,a9,a10,a11,a12,a13,a14,a15,a16,a17,a18,a19]:=by rw [G1.row lt1];exact rt0
  have ru1:S1.row Z2.n=some [b0,b1,b2,b3,b4,b5,b6,b7,b8,b9,b10,b11,b12,b13,b14,b15,b16,b17,b18,b19]:=by rw [G1.row lt2];exact ru0
  have rv1:S1.row Z3.n=some [c0,c1,c2,c3,c4,c5,c6,c7,c8,c9,c10,c11,c12,c13,c14,c15,c16,c17,c18,c19]:=by rw [G1.row lt3];exact rv0
  refine gU1 (a8N @A1 @A7 @J1 @J2 @rt1 @ru1 @rv1 @Oq) ?_;refine (Pc (tT.mono G1) (tU.mono G1) cT cU).mono ?_;rintro r ⟨S2,rfl,X2⟩;rw [hTU];have G2:Ext S S2:=G1.trans X2;have rt2:S2.row Z1.n=some [a0,a1,a2,a3,a4,a5,a6,a7,a8,a9,a10,a11,a12,a13,a14,a15,a16,a17,a18,a19]:=by rw [G2.row lt1];exact rt0
  have ru2:S2.row Z2.n=some [b0,b1,b2,b3,b4,b5,b6,b7,b8,b9,b10,b11,b12,b13,b14,b15,b16,b17,b18,b19]:=by rw [G2.row lt2];exact ru0
  have rv2:S2.row Z3.n=some [c0,c1,c2,c3,c4,c5,c6,c7,c8,c9,c10,c11,c12,c13,c14,c15,c16,c17,c18,c19]:=by rw [G2.row lt3];exact rv0
  refine gU1 (a8N @A1 @A7 @J1 @J2 @rt2 @ru2 @rv2 @Oq) ?_;refine (BA (tT.mono G2) (tV.mono G2) cT cV).mono ?_;rintro r ⟨S3,rfl,X3⟩;rw [hTV];have G3:Ext S S3:=G2.trans X3;have rt3:S3.row Z1.n=some [a0,a1,a2,a3,a4,a5,a6,a7,a8,a9,a10,a11,a12,a13,a14,a15,a16,a17,a18,a19]:=by rw [G3.row lt1];exact rt0
  have ru3:S3.row Z2.n=some [b0,b1,b2,b3,b4,b5,b6,b7,b8,b9,b10,b11,b12,b13,b14,b15,b16,b17,b18,b19]:=by rw [G3.row lt2];exact ru0
  have rv3:S3.row Z3.n=some [c0,c1,c2,c3,c4,c5,c6,c7,c8,c9,c10,c11,c12,c13,c14,c15,c16,c17,c18,c19]:=by rw [G3.row lt3];exact rv0
  refine gU1 (a8N @A1 @A7 @J1 @J2 @rt3 @ru3 @rv3 @Oq) ?_;refine (Pc (tT.mono G3) (tV.mono G3) cT cV).mono ?_;rintro r ⟨S4,rfl,X4⟩;rw [hTV];have G4:Ext S S4:=G3.trans X4;have rt4:S4.row Z1.n=some [a0,a1,a2,a3,a4,a5,a6,a7,a8,a9,a10,a11,a12,a13,a14,a15,a16,a17,a18,a19]:=by rw [G4.row lt1];exact rt0
  have ru4:S4.row Z2.n=some [b0,b1,b2,b3,b4,b5,b6,b7,b8,b9,b10,b11,b12,b13,b14,b15,b16,b17,b18,b19]:=by rw [G4.row lt2];exact ru0
  have rv4:S4.row Z3.n=some [c0,c1,c2,c3,c4,c5,c6,c7,c8,c9,c10,c11,c12,c13,c14,c15,c16,c17,c18,c19]:=by rw [G4.row lt3];exact rv0
  refine gU1 (a8N @A1 @A7 @J1 @J2 @rt4 @ru4 @rv4 @Oq) ?_;refine (BA (tV.mono G4) (tT.mono G4) cV cT).mono ?_;rintro r ⟨S5,rfl,X5⟩;rw [eC];have G5:Ext S S5:=G4.trans X5;have rt5:S5.row Z1.n=some [a0,a1,a2,a3,a4,a5,a6,a7,a8,a9,a10,a11,a12,a13,a14,a15,a16,a17,a18,a19]:=by rw [G5.row lt1];exact rt0
  have ru5:S5.row Z2.n=some [b0,b1,b2,b3,b4,b5,b6,b7,b8,b9,b10,b11,b12,b13,b14,b15,b16,b17,b18,b19]:=by rw [G5.row lt2];exact ru0
  have rv5:S5.row Z3.n=some [c0,c1,c2,c3,c4,c5,c6,c7,c8,c9,c10,c11,c12,c13,c14,c15,c16,c17,c18,c19]:=by rw [G5.row lt3];exact rv0
  refine gU1 (a8N @A1 @A7 @J1 @J2 @rt5 @ru5 @rv5 @Oq) ?_;refine (BA (tT.mono G5) (tV.mono G5) cT cV).mono ?_;rintro r ⟨S6,rfl,X6⟩;rw [hTV];have G6:Ext S S6:=G5.trans X6;have rt6:S6.row Z1.n=some [a0,a1,a2,a3,a4,a5,a6,a7,a8,a9,a10,a11,a12,a13,a14,a15,a16,a17,a18,a19]:=by rw [G6.row lt1];exact rt0
  have ru6:S6.row Z2.n=some [b0,b1,b2,b3,b4,b5,b6,b7,b8,b9,b10,b11,b12,b13,b14,b15,b16,b17,b18,b19]:=by rw [G6.row lt2];exact ru0
  have rv6:S6.row Z3.n=some [c0,c1,c2,c3,c4,c5,c6,c7,c8,c9,c10,c11,c12,c13,c14,c15,c16,c17,c18,c19]:=by rw [G6.row lt3];exact rv0
  refine gU1 (a8N @A1 @A7 @J1 @J2 @rt6 @ru6 @rv6 @Oq) ?_;refine (BA (tT.mono G6) (tU.mono G6) cT cU).mono ?_;rintro r ⟨S7,rfl,X7⟩;rw [hTU];have G7:Ext S S7:=G6.trans X7;have rt7:S7.row Z1.n=some [a0,a1,a2,a3,a4,a5,a6,a7,a8,a9,a10,a11,a12,a13,a14,a15,a16,a17,a18,a19]:=by rw [G7.row lt1];exact rt0
  have ru7:S7.row Z2.n=some [b0,b1,b2,b3,b4,b5,b6,b7,b8,b9,b10,b11,b12,b13,b14,b15,b16,b17,b18,b19]:=by rw [G7.row lt2];exact ru0
  have rv7:S7.row Z3.n=some [c0,c1,c2,c3,c4,c5,c6,c7,c8,c9,c10,c11,c12,c13,c14,c15,c16,c17,c18,c19]:=by rw [G7.row lt3];exact rv0
  refine gU1 (a8N @A1 @A7 @J1 @J2 @rt7 @ru7 @rv7 @Oq) ?_;refine (Pk (tT.mono G7) hrt hsm (An G7 n1S pS) (by have:=G7.n;omega) h4 hrs).mono ?_;rintro r ⟨S8,rfl,X8⟩;have G8:Ext S S8:=G7.trans X8;have rt8:S8.row Z1.n=some [a0,a1,a2,a3,a4,a5,a6,a7,a8,a9,a10,a11,a12,a13,a14,a15,a16,a17,a18,a19]:=by rw [G8.row lt1];exact rt0
  have ru8:S8.row Z2.n=some [b0,b1,b2,b3,b4,b5,b6,b7,b8,b9,b10,b11,b12,b13,b14,b15,b16,b17,b18,b19]:=by rw [G8.row lt2];exact ru0
  have rv8:S8.row Z3.n=some [c0,c1,c2,c3,c4,c5,c6,c7,c8,c9,c10,c11,c12,c13,c14,c15,c16,c17,c18,c19]:=by rw [G8.row lt3];exact rv0
  refine gU1 (a8N @A1 @A7 @J1 @J2 @rt8 @ru8 @rv8 @Oq) ?_;refine (Pk (tU.mono G8) AG3 RI (An G8 n1S pS) (by have:=G8.n;omega) k4 krs).mono ?_;rintro r ⟨S9,rfl,X9⟩;have G9:Ext S S9:=G8.trans X9;have rt9:S9.row Z1.n=some [a0,a1,a2,a3,a4,a5,a6,a7,a8,a9,a10,a11,a12,a13,a14,a15,a16,a17,a18,a19]:=by rw [G9.row lt1];exact rt0
  have ru9:S9.row Z2.n=some [b0,b1,b2,b3,b4,b5,b6,b7,b8,b9,b10,b11,b12,b13,b14,b15,b16,b17,b18,b19]:=by rw [G9.row lt2];exact ru0
  have rv9:S9.row Z3.n=some [c0,c1,c2,c3,c4,c5,c6,c7,c8,c9,c10,c11,c12,c13,c14,c15,c16,c17,c18,c19]:=by rw [G9.row lt3];exact rv0
  refine gU1 (a8N @A1 @A7 @J1 @J2 @rt9 @ru9 @rv9 @Oq) ?_;refine (BA (tT.mono G9) (tT.mono G9) cT cT).mono ?_;rintro r ⟨S10,rfl,X10⟩;rw [eS];have G10:Ext S S10:=G9.trans X10;have AG4:S10.row Z1.n=some [a0,a1,a2,a3,a4,a5,a6,a7,a8,a9,a10,a11,a12,a13,a14,a15,a16,a17,a18,a19]:=by rw [G10.row lt1];exact rt0
  have AG5:S10.row Z2.n=some [b0,b1,b2,b3,b4,b5,b6,b7,b8,b9,b10,b11,b12,b13,b14,b15,b16,b17,b18,b19]:=by rw [G10.row lt2];exact ru0
  have AG6:S10.row Z3.n=some [c0,c1,c2,c3,c4,c5,c6,c7,c8,c9,c10,c11,c12,c13,c14,c15,c16,c17,c18,c19]:=by rw [G10.row lt3];exact rv0
  refine gU1 (a8N @A1 @A7 @J1 @J2 @AG4 @AG5 @AG6 @Oq) ?_
  try refine H3.intro (by (repeat first|simp (disch:=omega) only [B9,C9,C0,asx X0,asx X1,asx X2,asx X3,asx X4,asx X5,asx X6,asx X7,asx X8,asx X9,asx X10]|rw [D0 (by kernel_rfl)]);first|done|rfl) ?_
  try (refine gU1 (a5N @A1 @A7 @J1 @J2 @Tryz.results11) ?_;try exact ⟨⟩)
  exact ⟨_,rfl⟩
end Go.Proofs.T
namespace Go.Proofs.T
open Go Go.Ab Go.Ab.Ou
theorem eJ {P:Program}{Z:St}{t e:TypeId}{n:Nat}(ht:P.underlying t=some (.array n e)){f:Nat}{cs:List Value}(h:Bw P Z f t cs):∃ (g:Nat) (ps:List (List Value)),cs=ps.flatten/\ps.length=n/\∀ p∈ps,Bw P Z g e p:=by
 cases f with
 | zero=>exact h.elim
 | succ f =>
   unfold Bw at h;rw [ht] at h;obtain ⟨ps,h1,h2,h3⟩:=h;exact ⟨f,ps,h1,h2,fun p hp=>(h3 p hp).2⟩
theorem sX {Z:St}{f:Nat}{cs:List Value}(h:Bw Tryz.prog Z f 23 cs):∃ v0 v1 l0 l1,cs=[v0,v1]/\Y8 Z v0 l0/\Y8 Z v1 l1/\l0.length<=9223372036854775807/\l1.length<=9223372036854775807:=by
 obtain ⟨g,ps,rfl,p1,p2⟩:=eJ Tryz.underlying23 h
 match ps,p1,p2 with
 | [x0,x1],_,p2 =>
   obtain ⟨v0,l0,rfl,m0⟩:=YC Tryz.underlying22 Tryz.underlying3 (by kernel_rfl) (p2 x0 (by simp));obtain ⟨v1,l1,rfl,m1⟩:=YC Tryz.underlying22 Tryz.underlying3 (by kernel_rfl) (p2 x1 (by simp));exact ⟨v0,v1,l0,l1,rfl,m0,m1,eK Tryz.underlying22 (p2 _ (by simp)) m0,eK Tryz.underlying22 (p2 [v1] (by simp)) m1⟩
theorem eL {Z:St}{f:Nat}{cs:List Value}(h:Bw Tryz.prog Z f 52 cs):∃ q0 q1 q2:Int,cs=[.int .i64 q0,.int .i64 q1,.int .i64 q2]/\u7 q0/\u7 q1/\u7 q2:=by
 obtain ⟨l,h1,rfl,h2⟩:=sY Tryz.underlying52 Tryz.underlying3 h
 match l,h1,h2 with
 | [a,b,c],_,h2=>exact ⟨a,b,c,rfl,h2 a (by simp),h2 b (by simp),h2 c (by simp)⟩
end Go.Proofs.T
