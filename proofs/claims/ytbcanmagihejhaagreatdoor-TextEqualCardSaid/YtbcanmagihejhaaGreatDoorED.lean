/- The reference cZ AV. -/
import Derived.Test.YtbcanmagihejhaaGreatDoorQB
set_option linter.unusedSimpArgs false
set_option linter.unusedVariables false
set_option maxHeartbeats 32000000
set_option maxRecDepth 100000
namespace Go.Proofs.T
open Go Go.Ab
open Nat (reduceMul reduceEqDiff reduceAdd)
theorem rM:eqC []= .seq (eqC [0]) (eqC [1]):=by kernel_rfl
theorem rN:eqC [1]= .seq (eqC [1,0]) (eqC [1,1]):=by kernel_rfl
theorem rO:eqC [1,1]= .seq (eqC [1,1,0]) (eqC [1,1,1]):=by kernel_rfl
theorem rP:eqC [1,1,1]= .seq (eqC [1,1,1,0]) (eqC [1,1,1,1]):=by kernel_rfl
theorem rQ:eqC [1,1,1,1]= .seq (eqC [1,1,1,1,0]) (eqC [1,1,1,1,1]):=by kernel_rfl
theorem rR:eqC [1,1,1,1,1]= .seq (eqC [1,1,1,1,1,0]) (eqC [1,1,1,1,1,1]):=by kernel_rfl
theorem rU:eqC [1,1,1,1,1,1]= .seq (eqC [1,1,1,1,1,1,0]) (eqC [1,1,1,1,1,1,1]):=by kernel_rfl
theorem rV:eqC [1,1,1,1,1,1,1]= .seq (eqC [1,1,1,1,1,1,1,0]) (eqC [1,1,1,1,1,1,1,1]):=by kernel_rfl
theorem Pc {Z:St}{ca cb:List Value}{T U:Tn}(hT:Ar Z ca T) (hU:Ar Z cb U) (cT:Cap T) (cU:Cap U):Ev (go Tryz.prog HS (.fn 30) [.agg ⟨ca⟩,.agg ⟨cb⟩] Z) (fun r=>∃ Z',r=⟨false,.bool (N9 T U),Z'⟩/\Ext Z Z') ⟨⟩:=by
 obtain ⟨vl,vc,vr,ex,vt,vk,hp,h2,h3,h4,h5,h6,vs,h7,h8⟩:=hT.parts;obtain ⟨ul,uc,ur,ey,ut,uk,hq,k2,k3,k4,k5,k6,us,k7,k8⟩:=hU.parts;obtain ⟨la,lc,lb,lo,lcs,rfl,-⟩:=h2.use;obtain ⟨ca',cc,cb',co,ccs,rfl,-⟩:=h3.use;obtain ⟨ra,rc,rb,ro,rcs,rfl,-⟩:=h4.use;obtain ⟨ta,tc,tb,to',tcs,rfl,-⟩:=h6.use;obtain ⟨ka,kc,kb,ko,kcs,rfl,-⟩:=SL.Lx h7;obtain ⟨la2,lc2,lb2,lo2,AZ2,rfl,-⟩:=k2.use;obtain ⟨ca2,cc2,cb2,co2,AZ3,rfl,-⟩:=k3.use;obtain ⟨ra2,rc2,rb2,ro2,AZ4,rfl,-⟩:=k4.use;obtain ⟨ta2,tc2,tb2,to2,AZ5,rfl,-⟩:=k6.use;obtain ⟨ka2,kc2,kb2,ko2,AZ6,rfl,-⟩:=SL.Lx k7;have tq:∀ (t:Tim),[Value.int .i64 t.q,.int .i64 t.b,.int .i64 t.g,.int .i64 t.p,.int .i64 t.s]=t.row:=fun _=>rfl;have p15:=hp.p15;have q15:=hq.p15;rw [tq] at p15 q15;have hz0:=And.intro hp.all (And.intro hq.all (And.intro hp.p6 hq.p6));have hz:=And.intro hp.p0 (And.intro hq.p0 (And.intro hp.p4 (And.intro hq.p4 (And.intro hp.p5 (And.intro hq.p5 (And.intro hp.p12 (And.intro hq.p12 (And.intro hp.p14 (And.intro hq.p14 (And.intro p15 (And.intro q15 (And.intro hp.p1 (And.intro hq.p1 (And.intro hp.p2 (And.intro hq.p2 (And.intro hp.p3 (And.intro hq.p3 (And.intro hp.p11 (And.intro hq.p11 (And.intro hp.p13 hq.p13))))))))))))))))))));refine D7 (body:=eqC []) Tryz.func30 (by kernel_rfl) rfl ?_;obtain ⟨X,hX⟩:∃ X,eqC [1,1,1]=X:=⟨_,rfl⟩
 rw [rM,rN,rO,hX];simp only [eqC,Tryz.f30,F9,I7,U9,V0,V6,V7,List.append_eq,List.cons_append,List.nil_append];refine gU1 (a3N @A1 @A7 @hz0) ?_;have E0:Ext Z ((Z.new ca).new cb):=eX;refine (ju _ (Nat.lt_succ_self _) (h5.mono E0) (k5.mono E0)).mono ?_;rintro r ⟨Z2,rfl,E2⟩;have n2:=E2.n;simp only [N3] at n2;have w1:Z2.row Z.n=some ca:=by rw [E2.row (by simp;omega)];exact cL
 have w2:Z2.row (Z.n+1)=some cb:=by rw [E2.row (by simp)];exact cL
 have EF:Ext Z Z2:=E0.trans E2;have hz:=And.intro w1 (And.intro w2 hz);cases d1:decide (T.name=U.name) with
 | false =>
   have hq:N9 T U=false:=by unfold N9;simp only [d1,Bool.false_and,Bool.true_and,Bool.and_false]
   simp (maxSteps:=8000000) (disch:=first|exact dS|fail) only [↓bD,bU,reduceMul,reduceEqDiff,reduceAdd,Nat.reduceBEq,reduceIte,Option.isNone_none,A1,A7,hz,N0.1,N0.2,d1,J1,J2,Bool.not_true,Bool.not_false,Tryz.results30];rw [hq];exact ⟨_,rfl,EF⟩
 | true =>
 cases d2:decide (T.low=U.low) with
 | false =>
   have hq:N9 T U=false:=by unfold N9;simp only [d1,d2,Bool.false_and,Bool.true_and,Bool.and_false]
   simp (maxSteps:=8000000) (disch:=first|exact dS|fail) only [↓bD,bU,reduceMul,reduceEqDiff,reduceAdd,Nat.reduceBEq,reduceIte,Option.isNone_none,A1,A7,hz,N0.1,N0.2,d1,d2,J1,J2,Bool.not_true,Bool.not_false,Tryz.results30];rw [hq];exact ⟨_,rfl,EF⟩
 | true =>
 cases d3:decide (T.high=U.high) with
 | false =>
   have hq:N9 T U=false:=by unfold N9;simp only [d1,d2,d3,Bool.false_and,Bool.true_and,Bool.and_false]
   simp (maxSteps:=8000000) (disch:=first|exact dS|fail) only [↓bD,bU,reduceMul,reduceEqDiff,reduceAdd,Nat.reduceBEq,reduceIte,Option.isNone_none,A1,A7,hz,N0.1,N0.2,d1,d2,d3,J1,J2,Bool.not_true,Bool.not_false,Tryz.results30];rw [hq];exact ⟨_,rfl,EF⟩
 | true =>
 cases d4:decide (T.D5=U.D5) with
 | false =>
   have hq:N9 T U=false:=by unfold N9;simp only [d1,d2,d3,d4,Bool.false_and,Bool.true_and,Bool.and_false]
   simp (maxSteps:=8000000) (disch:=first|exact dS|fail) only [↓bD,bU,reduceMul,reduceEqDiff,reduceAdd,Nat.reduceBEq,reduceIte,Option.isNone_none,A1,A7,hz,N0.1,N0.2,d1,d2,d3,d4,J1,J2,Bool.not_true,Bool.not_false,Tryz.results30];rw [hq];exact ⟨_,rfl,EF⟩
 | true =>
 cases d5:decide (T.C1=U.C1) with
 | false =>
   have hq:N9 T U=false:=by unfold N9;simp only [d1,d2,d3,d4,d5,Bool.false_and,Bool.true_and,Bool.and_false]
   simp (maxSteps:=8000000) (disch:=first|exact dS|fail) only [↓bD,bU,reduceMul,reduceEqDiff,reduceAdd,Nat.reduceBEq,reduceIte,Option.isNone_none,A1,A7,hz,N0.1,N0.2,d1,d2,d3,d4,d5,J1,J2,Bool.not_true,Bool.not_false,Tryz.results30];rw [hq];exact ⟨_,rfl,EF⟩
 | true =>
 cases d6:decide (T.t=U.t) with
 | false =>
   have hq:N9 T U=false:=by unfold N9;simp only [d1,d2,d3,d4,d5,d6,Bool.false_and,Bool.true_and,Bool.and_false]
   simp (maxSteps:=8000000) (disch:=first|exact dS|fail) only [↓bD,bU,reduceMul,reduceEqDiff,reduceAdd,Nat.reduceBEq,reduceIte,Option.isNone_none,A1,A7,hz,N0.1,N0.2,d1,d2,d3,d4,d5,d6,J1,J2,Bool.not_true,Bool.not_false,Tryz.results30];rw [hq];exact ⟨_,rfl,EF⟩
 | true =>
 cases d7:CO T.f U.f with
 | false =>
   have hq:N9 T U=false:=by unfold N9;simp only [d1,d2,d3,d4,d5,d6,d7,Bool.false_and,Bool.true_and,Bool.and_false]
   simp (maxSteps:=8000000) (disch:=first|exact dS|fail) only [↓bD,bU,reduceMul,reduceEqDiff,reduceAdd,Nat.reduceBEq,reduceIte,Option.isNone_none,A1,A7,hz,N0.1,N0.2,d1,d2,d3,d4,d5,d6,J1,J2,Bool.not_true,Bool.not_false,Tryz.results30];rw [hq];exact ⟨_,rfl,EF⟩
 | true =>
 cases e1:decide ((T.D2.length:Int)=(U.D2.length:Int)) with
 | false =>
   have hne:decide (T.D2=U.D2)=false:=decide_eq_false fun h=>by rw [h] at e1;simp at e1
   have hq:N9 T U=false:=by unfold N9;simp only [hne,Bool.false_and,Bool.and_false]
   simp (maxSteps:=8000000) (disch:=first|exact dS|fail) only [↓bD,bU,reduceMul,reduceEqDiff,reduceAdd,Nat.reduceBEq,reduceIte,Option.isNone_none,A1,A7,hz,N0.1,N0.2,d1,d2,d3,d4,d5,d6,e1,J1,J2,Bool.not_true,Bool.not_false,Tryz.results30];rw [hq];exact ⟨_,rfl,EF⟩
 | true =>
 cases e2:decide ((T.C7.length:Int)=(U.C7.length:Int)) with
 | false =>
   have hne:decide (T.C7=U.C7)=false:=decide_eq_false fun h=>by rw [h] at e2;simp at e2
   have hq:N9 T U=false:=by unfold N9;simp only [hne,Bool.false_and,Bool.and_false]
   simp (maxSteps:=8000000) (disch:=first|exact dS|fail) only [↓bD,bU,reduceMul,reduceEqDiff,reduceAdd,Nat.reduceBEq,reduceIte,Option.isNone_none,A1,A7,hz,N0.1,N0.2,d1,d2,d3,d4,d5,d6,e1,e2,J1,J2,Bool.not_true,Bool.not_false,Tryz.results30];rw [hq];exact ⟨_,rfl,EF⟩
 | true =>
 cases e3:decide ((T.reqs.length:Int)=(U.reqs.length:Int)) with
 | false =>
   have hne:decide (T.reqs=U.reqs)=false:=decide_eq_false fun h=>by rw [h] at e3;simp at e3
   have hq:N9 T U=false:=by unfold N9;simp only [hne,Bool.false_and,Bool.and_false]
   simp (maxSteps:=8000000) (disch:=first|exact dS|fail) only [↓bD,bU,reduceMul,reduceEqDiff,reduceAdd,Nat.reduceBEq,reduceIte,Option.isNone_none,A1,A7,hz,N0.1,N0.2,d1,d2,d3,d4,d5,d6,e1,e2,e3,J1,J2,Bool.not_true,Bool.not_false,Tryz.results30];rw [hq];exact ⟨_,rfl,EF⟩
 | true =>
 cases e4:decide ((T.E9.length:Int)=(U.E9.length:Int)) with
 | false =>
   have hne:decide (T.E9=U.E9)=false:=decide_eq_false fun h=>by rw [h] at e4;simp at e4
   have hq:N9 T U=false:=by unfold N9;simp only [hne,Bool.false_and,Bool.and_false]
   simp (maxSteps:=8000000) (disch:=first|exact dS|fail) only [↓bD,bU,reduceMul,reduceEqDiff,reduceAdd,Nat.reduceBEq,reduceIte,Option.isNone_none,A1,A7,hz,N0.1,N0.2,d1,d2,d3,d4,d5,d6,e1,e2,e3,e4,J1,J2,Bool.not_true,Bool.not_false,Tryz.results30];rw [hq];exact ⟨_,rfl,EF⟩
 | true =>
 cases e5:decide ((vs.length:Int)=(us.length:Int)) with
 | false =>
   have hne:decide (T.C3=U.C3)=false:=decide_eq_false fun h=>by have h9:=h8.len;have h10:=k8.len;rw [h] at h9;rw [h9,h10] at e5;simp at e5
   have hq:N9 T U=false:=by unfold N9;simp only [hne,Bool.false_and,Bool.and_false]
   simp (maxSteps:=8000000) (disch:=first|exact dS|fail) only [↓bD,bU,reduceMul,reduceEqDiff,reduceAdd,Nat.reduceBEq,reduceIte,Option.isNone_none,A1,A7,hz,N0.1,N0.2,d1,d2,d3,d4,d5,d6,e1,e2,e3,e4,e5,J1,J2,Bool.not_true,Bool.not_false,Tryz.results30];rw [hq];exact ⟨_,rfl,EF⟩
 | true =>
 simp (maxSteps:=8000000) (disch:=first|exact dS|fail) only [↓bD,bU,reduceMul,reduceEqDiff,reduceAdd,Nat.reduceBEq,reduceIte,Option.isNone_none,A1,A7,hz,N0.1,N0.2,d1,d2,d3,d4,d5,d6,e1,e2,e3,e4,e5,J1,J2,Bool.not_true,Bool.not_false];have dH:∀ {α:Type} {a b:List α},decide ((a.length:Int)=(b.length:Int))=true->a.length=b.length:=fun h=>by have:=of_decide_eq_true h;omega
 rw [<- hX];clear hX;rw [rP,Ci];refine (kL (fR) (fR) w1 w2 hp.p1 hq.p1 (h2.mono EF) (k2.mono EF) (dH e1) cT.D2).mono ?_;rintro r (⟨fr0,rfl,⟨g2,g3⟩,z0⟩|⟨fr0,rfl,g4,z0⟩)
 rotate_left
 ·have hq:N9 T U=false:=by unfold N9;simp only [decide_eq_false z0,Bool.false_and,Bool.and_false]
  refine gU1 (a4N @A1 @A7 @g4 @Tryz.results30) ?_;rw [hq];exact ⟨_,rfl,EF⟩
 simp only [W4];rw [rQ,Ci];refine (dI g2 g3 w1 w2 hp.p2 hq.p2 (h3.mono EF) (k3.mono EF) (dH e2) cT.C7).mono ?_;rintro r (⟨fr1,rfl,⟨g2,g3⟩,z1⟩|⟨fr1,rfl,g4,z1⟩)
 rotate_left
 ·have hq:N9 T U=false:=by unfold N9;simp only [decide_eq_false z1,Bool.false_and,Bool.and_false]
  refine gU1 (a4N @A1 @A7 @g4 @Tryz.results30) ?_;rw [hq];exact ⟨_,rfl,EF⟩
 simp only [W4];rw [rR,Ci];refine (kM g2 g3 w1 w2 hp.p3 hq.p3 (h4.mono EF) (k4.mono EF) (dH e3) cT.reqs).mono ?_;rintro r (⟨fr2,rfl,⟨g2,g3⟩,z2⟩|⟨fr2,rfl,g4,z2⟩)
 rotate_left
 ·have hq:N9 T U=false:=by unfold N9;simp only [decide_eq_false z2,Bool.false_and,Bool.and_false]
  refine gU1 (a4N @A1 @A7 @g4 @Tryz.results30) ?_;rw [hq];exact ⟨_,rfl,EF⟩
 simp only [W4];rw [rU,Ci];refine (kN g2 g3 w1 w2 hp.p11 hq.p11 (h6.mono EF) (k6.mono EF) (dH e4) cT.E9).mono ?_;rintro r (⟨fr3,rfl,⟨g2,g3⟩,z3⟩|⟨fr3,rfl,g4,z3⟩)
 rotate_left
 ·have hq:N9 T U=false:=by unfold N9;simp only [decide_eq_false z3,Bool.false_and,Bool.and_false]
  refine gU1 (a4N @A1 @A7 @g4 @Tryz.results30) ?_;rw [hq];exact ⟨_,rfl,EF⟩
 simp only [W4];rw [rV,Ci];refine (ZV g2 g3 w1 w2 hp.p13 hq.p13 (h7.mono EF) (CB.mono (fun _ _ h=>Ca.mono h EF) h8) (k7.mono EF) (CB.mono (fun _ _ h=>Ca.mono h EF) k8) (by have h9:=h8.len;have h10:=k8.len;have:=dH e5;omega) cT.C3 cT.combo cU.combo).mono ?_;rintro r (⟨fr,rfl,z5⟩|⟨fr,rfl,g4,z5⟩)
 rotate_left
 ·have hq:N9 T U=false:=by unfold N9;simp only [decide_eq_false z5,Bool.false_and,Bool.and_false]
  refine gU1 (a4N @A1 @A7 @g4 @Tryz.results30) ?_;rw [hq];exact ⟨_,rfl,EF⟩
 have hq:N9 T U=true:=by unfold N9;simp only [d1,d2,d3,d4,d5,d6,d7,decide_eq_true z0,decide_eq_true z1,decide_eq_true z2,decide_eq_true z3,decide_eq_true z5,Bool.and_true]
 simp only [W4,eqC,Tryz.f30,F9,I7,U9,V0,V6,V7];refine gU1 (a3N @A1 @A7 @Tryz.results30) ?_;rw [hq];exact ⟨_,rfl,EF⟩
end Go.Proofs.T
