/- The G6 Check of a Fm nC Tc ends are small. -/
import Derived.Test.YtgjocfjdecjhoaaGreatDoorCB
import Derived.Test.YtgjocfjdecjhoaaGreatDoorRH
set_option linter.unusedSimpArgs false
set_option linter.unusedVariables false
set_option linter.defProp false
set_option maxHeartbeats 32000000
set_option maxRecDepth 100000
namespace Go.Proofs.T
open Go Go.Ab
open Nat (reduceMul reduceEqDiff reduceAdd)
def rK {Z:St}{ca:List Value}{T:Tn}{jf:Nat}{P:JC}(hT:Good Z ca T) (hf:FOk jf T.f) (hj:jf<=1000) (hiv:Iv T T.f P) (hP:∀ n d,P n d->RS n d):Ev (gO 29 [.agg ⟨ca⟩] Z) (fun r=>∃ s c Z',r=⟨false,.tuple ⟨[str s,.int .i64 c]⟩,Z'⟩/\Ext Z Z') ⟨⟩:=by
 obtain⟨vl,vc,vr,ex,vt,vk,hp,h2,h3,h4,h5,h6,vs,h7,h8⟩:=hT.at'.parts;obtain⟨la,lc,lb,lo,lcs,rfl,l1,l2⟩:=h2.use;obtain⟨ca',cc,cb,co,ccs,rfl,c1,c2⟩:=h3.use;obtain⟨ra,rc,rb,ro,rcs,rfl,r1,r2⟩:=h4.use;obtain⟨ta,tc,tb,to',tcs,rfl,t1,t2⟩:=h6.use;obtain⟨ka,kc,kb,ko,kcs,rfl,k1,k2⟩:=SL.LD h7;have hfa:=hp.all;have L1:=hT.wk.u9;have L2:=hT.wk.G9;have L3:=hT.wk.reqs;have L4:=hT.wk.AJ;have L5:=hT.wk.J9;have L6:=h8.len;have s1:=hp.p1;have s2:=hp.p2;have s3:=hp.p3;have s4:=hp.p4;have s5:=hp.p5;have s6:=hp.p6;have s7:=hp.p11;have s9:=hp.p13;have s15:=hp.q15;have s16:=hp.q16;have s17:=hp.q17;have s18:=hp.q18;refine C9 Tryz.func29 rfl rfl ?_;refine gS1 hfa ?_;have E0:Ext Z (Z.new ca):=eX;refine(eU (hT.mono E0).at' hT.wk).mono ?_;rintro r ⟨s,b,Z1,rfl,hE1,-⟩;cases b with
 | false=>
   refine gS1 @Tryz.results29 ?_;exact⟨_,_,_,rfl,E0.trans hE1⟩
 |true=>
 refine gS ?_;refine I4 T.G9.length (fun k fr Z'=>fr.get 6=some (.int .i64 k)/\fr.get 1=some (.pointer (some ⟨Z.n,0,none⟩))/\Ext (Z.new ca) Z') (fun r=>∃ fr Z',Ext (Z.new ca) Z'/\((r=⟨.exit 0,fr,Z'⟩/\fr.get 1=some (.pointer (some ⟨Z.n,0,none⟩)))\/(r=⟨.ret,fr,Z'⟩/\∃ s c,fr.get 2=some (str s)/\fr.get 3=some (.int .i64 c)))) ?_ ?_ ?_ ?_
 ·exact⟨fR,fR,hE1⟩
 ·skip
  rintro k fr Z' hk ⟨g4,g1,hE⟩;have hc:=L9 hk;have w1:Z'.row Z.n=some ca:=eT (hE.row (by simp)) cL;have hEn:=hE.n;simp only[F6]at hEn;have hE0:Ext Z Z':=E0.trans hE;obtain⟨x,hx⟩:=H5 hk;obtain⟨sp,rfl,l3,l4⟩:=c1 om;have w2:=eT (hE0.row l3) l4;obtain⟨m0,m1,m2,m3,m4,m5⟩:=c2 k x hx;refine gS1 (aI g4 (aI g1 (aI hc (aI w1 (aI s2 (aI w2 (aI m3 m4))))))) ?_;cases q:decide (x.high<x.low)with
  | true=>
    refine gS1 (aI g4 (aI g1 (aI w1 (aI s2 (aI w2 m1))))) ?_;exact⟨_,_,hE,.inr ⟨rfl,_,_,fR,fR⟩⟩
  | false=>
    refine gS1 g4 ?_;exact⟨fR,fR1 g1,hE⟩
 ·rintro fr Z' ⟨g4,g1,hE⟩;have w1:Z'.row Z.n=some ca:=eT (hE.row (by simp)) cL;refine gS1 (aI g4 (aI g1 (aI w1 s2))) ?_;exact⟨_,_,hE,.inl ⟨rfl,fR1 g1⟩⟩
 rintro r ⟨fr,Z',hE,⟨rfl,g1⟩|⟨rfl,s',c',g2,g3⟩⟩
 case inr=>
  refine gS1 (aI g2 (aI g3 @Tryz.results29)) ?_;exact⟨_,_,_,rfl,E0.trans hE⟩
 have w1:Z'.row Z.n=some ca:=eT (hE.row (by simp)) cL;have hEn:=hE.n;simp only[F6]at hEn;have hE0:Ext Z Z':=E0.trans hE;refine gS1 (aI g1 (aI w1 (aI s4 s5))) ?_;cases q0:decide (T.high<T.low)with
 | true=>
   refine gS1 @Tryz.results29 ?_;exact⟨_,_,_,rfl,hE0⟩
 |false=>
 refine gS ?_;clear w1 hEn hE0;refine I4 T.u9.length (fun k fr Z'=>fr.get 7=some (.int .i64 k)/\fr.get 1=some (.pointer (some ⟨Z.n,0,none⟩))/\Ext (Z.new ca) Z') (fun r=>∃ fr Z',Ext (Z.new ca) Z'/\((r=⟨.exit 2,fr,Z'⟩/\fr.get 1=some (.pointer (some ⟨Z.n,0,none⟩)))\/(r=⟨.ret,fr,Z'⟩/\∃ s c,fr.get 2=some (str s)/\fr.get 3=some (.int .i64 c)))) ?_ ?_ ?_ ?_
 ·exact⟨fR,fR1 g1,hE⟩
 ·clear g1 hE fr;rintro k fr Z' hk ⟨g4,g1,hE⟩;have hc:=L9 hk;have w1:Z'.row Z.n=some ca:=eT (hE.row (by simp)) cL;have hEn:=hE.n;simp only[F6]at hEn;have hE0:Ext Z Z':=E0.trans hE;obtain⟨x,hx⟩:=H5 hk;obtain⟨sp,rfl,l3,l4⟩:=l1 om;have w2:=eT (hE0.row l3) l4;obtain⟨-,m1,m2⟩:=l2 k x hx;refine gS1 (aI g4 (aI g1 (aI hc (aI w1 (aI s1 (aI s4 (aI w2 m2))))))) ?_;cases q:decide (x.y8<T.low)with
  | true=>
    refine gS ?_;exact⟨_,_,hE,.inr ⟨rfl,_,_,fR,fR⟩⟩
  | false=>
    refine gS1 g4 ?_;exact⟨fR,fR1 g1,hE⟩
 ·rintro fr Z' ⟨g4,g1,hE⟩;have w1:Z'.row Z.n=some ca:=eT (hE.row (by simp)) cL;refine gS1 (aI g4 (aI g1 (aI w1 s1))) ?_;exact⟨_,_,hE,.inl ⟨rfl,fR1 g1⟩⟩
 rintro r ⟨fr,Z',hE,⟨rfl,g1⟩|⟨rfl,s',c',g2,g3⟩⟩
 case inr=>
  refine gS1 (aI g2 (aI g3 @Tryz.results29)) ?_;exact⟨_,_,_,rfl,E0.trans hE⟩
 refine gS ?_;refine I4 T.reqs.length (fun k fr Z'=>fr.get 8=some (.int .i64 k)/\fr.get 1=some (.pointer (some ⟨Z.n,0,none⟩))/\Ext (Z.new ca) Z') (fun r=>∃ fr Z',Ext (Z.new ca) Z'/\((r=⟨.exit 4,fr,Z'⟩/\fr.get 1=some (.pointer (some ⟨Z.n,0,none⟩)))\/(r=⟨.ret,fr,Z'⟩/\∃ s c,fr.get 2=some (str s)/\fr.get 3=some (.int .i64 c)))) ?_ ?_ ?_ ?_
 ·exact⟨fR,fR1 g1,hE⟩
 ·clear g1 hE fr;rintro k fr Z' hk ⟨g4,g1,hE⟩;have hc:=L9 hk;have w1:Z'.row Z.n=some ca:=eT (hE.row (by simp)) cL;have hEn:=hE.n;simp only[F6]at hEn;have hE0:Ext Z Z':=E0.trans hE;obtain⟨x,hx⟩:=H5 hk;obtain⟨sp,rfl,l3,l4⟩:=r1 om;have w2:=eT (hE0.row l3) l4;obtain⟨-,m1,-⟩:=r2 k x hx;refine gS1 (aI g4 (aI g1 (aI hc (aI w1 s3)))) ?_
  refine I4 T.G9.length (fun j fr τ=>fr.get 10=some (.int .i64 j)/\fr.get 8=some (.int .i64 k)/\fr.get 1=some (.pointer (some ⟨Z.n,0,none⟩))/\(∃ n,fr.get 9=some (.int .i64 n))/\τ=Z')
   (fun r=>∃ fr,r=⟨.exit 6,fr,Z'⟩/\fr.get 8=some (.int .i64 k)/\fr.get 1=some (.pointer (some ⟨Z.n,0,none⟩))/\(∃ n,fr.get 9=some (.int .i64 n))) ?_ ?_ ?_ ?_
  ·exact⟨fR,fR1 g4,fR1 g1,⟨_,fR⟩,rfl⟩
  ·clear g4 g1 fr;rintro j fr τ hj ⟨g10,g4,g1,⟨n,g9⟩,rfl⟩;have hc:=L9 hj;obtain⟨y,hy⟩:=H5 hj;obtain⟨sp',rfl,l5,l6⟩:=c1 om;have w3:=eT (hE0.row l5) l6;obtain⟨-,n1,n2,-⟩:=c2 j y hy;refine gS1 (aI g10 (aI g4 (aI g1 (aI hc (aI w1 (aI s2 (aI s3 (aI w2 (aI w3 (aI m1 n1)))))))))) ?_;cases q:decide (y.name=x.name)with
   | true=>
     refine gS1 (aI g10 (aI g1 (aI w1 (aI s2 (aI w3 n2))))) ?_;exact⟨fR,fR1 g4,fR1 g1,⟨_,fR⟩,by trivial⟩
   | false=>
     refine gS1 g10 ?_;exact⟨fR,fR1 g4,fR1 g1,⟨n,fR1 g9⟩,by trivial⟩
  ·clear g4 g1 fr;rintro fr τ ⟨g10,g4,g1,⟨n,g9⟩,rfl⟩;refine gS1 (aI g10 (aI g1 (aI w1 s2))) ?_;exact⟨_,rfl,fR1 g4,fR1 g1,⟨n,fR1 g9⟩⟩
  clear g4 g1 fr;rintro r ⟨fr,rfl,g4,g1,⟨n,g9⟩⟩;cases q1:decide (n=0)with
  | true=>
    refine gS1 (aI g9 q1) ?_;exact⟨_,_,hE,.inr ⟨rfl,_,_,fR,fR⟩⟩
  |false=>
  cases q2:decide (n=2)with
  | false=>
    refine gS1 (aI g9 (aI q1 q2)) ?_;exact⟨_,_,hE,.inr ⟨rfl,_,_,fR,fR⟩⟩
  | true=>
    refine gS1 (aI g9 (aI q1 (aI q2 g4))) ?_;exact⟨fR,fR1 g1,hE⟩
 ·rintro fr Z' ⟨g4,g1,hE⟩;have w1:Z'.row Z.n=some ca:=eT (hE.row (by simp)) cL;refine gS1 (aI g4 (aI g1 (aI w1 s3))) ?_;exact⟨_,_,hE,.inl ⟨rfl,fR1 g1⟩⟩
 rintro r ⟨fr,Z',hE,⟨rfl,g1⟩|⟨rfl,s',c',g2,g3⟩⟩
 case inr=>
  refine gS1 (aI g2 (aI g3 @Tryz.results29)) ?_;exact⟨_,_,_,rfl,E0.trans hE⟩
 have w1:Z'.row Z.n=some ca:=eT (hE.row (by simp)) cL;have hEn:=hE.n;simp only[F6]at hEn;have hE0:Ext Z Z':=E0.trans hE;refine gS1 (aI g1 (aI w1 (aI hfa s6))) ?_;refine(th hf hj (hT.mono hE0) (h5.mono hE0)).mono ?_;rintro r ⟨p,c,Z2,rfl,-,-,hE2⟩;have n2:=hE2.n;have w2:=eT (hE2.row om) w1;have hF:=hE.trans hE2;have hF0:=hE0.trans hE2;refine gS ?_;cases qc:decide (c=0)with
 | false=>
   have qc':c≠0:=z9z qc;refine gS1 (aI qc (a3N @D9 @F4 @Tryz.results29)) ?_;exact⟨_,_,_,rfl,hF0⟩
 |true=>
 cases qp:decide (p=0)with
 | false=>
   have d14:decide ((14:Int)=0)=false:=by decide
   refine gS1 (aI qc (aI qp (aI d14 (a3N @D9 @F4 @Tryz.results29)))) ?_;exact⟨_,_,_,rfl,hF0⟩
 |true=>
 refine gS1 (aI qc (aI qp (aI g1 (aI w2 (aI hfa s6))))) ?_;refine(XT hiv hP (hT.mono hF0) (h5.mono hF0)).mono ?_;rintro r ⟨i1,i2,i3,i4,c2',Z3,rfl,-,hE3⟩;have n3:=hE3.n;have hG:=hF.trans hE3;have hG0:=hF0.trans hE3;refine gS ?_;cases qd:decide (c2'=0)with
 | false=>
   simp(maxSteps:=8000000) (disch:=first|exact dS|fail) only[↓bD,bW,reduceMul,reduceEqDiff,reduceAdd,Nat.reduceBEq,reduceIte,Option.isNone_none,qd,Tryz.results29];exact⟨_,_,_,rfl,hG0⟩
 |true=>
 simp(maxSteps:=8000000) (disch:=first|exact dS|fail) only[↓bD,bW,reduceMul,reduceEqDiff,reduceAdd,Nat.reduceBEq,reduceIte,Option.isNone_none,qd];clear w1 hEn hE0 n2 w2;have hE:=hG;clear hF hF0 hG hG0;refine I4 T.AJ.length (fun k fr Z'=>fr.get 13=some (.int .i64 k)/\fr.get 1=some (.pointer (some ⟨Z.n,0,none⟩))/\Ext (Z.new ca) Z') (fun r=>∃ fr Z',Ext (Z.new ca) Z'/\((r=⟨.exit 8,fr,Z'⟩/\fr.get 1=some (.pointer (some ⟨Z.n,0,none⟩)))\/(r=⟨.ret,fr,Z'⟩/\∃ s c,fr.get 2=some (str s)/\fr.get 3=some (.int .i64 c)))) ?_ ?_ ?_ ?_
 ·exact⟨fR,fR1 g1,hE⟩
 ·clear g1 hE fr;rintro k fr Z' hk ⟨g4,g1,hE⟩;have hc:=L9 hk;have w1:Z'.row Z.n=some ca:=eT (hE.row (by simp)) cL;have hEn:=hE.n;simp only[F6]at hEn;have hE0:Ext Z Z':=E0.trans hE;obtain⟨x,hx⟩:=H5 hk;obtain⟨sp,rfl,l3,l4⟩:=t1 om;have w2:=eT (hE0.row l3) l4;have m1:=t2 k x hx;refine gS1 (aI g4 (aI g1 (aI hc (aI w1 (aI hfa (aI s7 (aI w2 m1))))))) ?_;refine(NY (s:=x) (hT.mono hE0)).mono ?_;rintro r ⟨Z2,rfl,hE2⟩;have n2:=hE2.n;have v1:=eT (hE2.row om) w1;have v2:=eT (hE2.row om) w2;have hF:=hE.trans hE2;unfold PY;refine gS1 (asx hE2) ?_
  try refine dW1 (asx hE2) ?_
  try(refine gS ?_;try exact⟨⟩)
  cases q1:(W0 T x).2.2 with
  | false=>
    refine gS1 q1 ?_;exact⟨_,_,hF,.inr ⟨rfl,_,_,fR,fR⟩⟩
  |true=>
  cases q2:decide (x=[108,111,119])with
  | true=>
    refine gS1 (aI q1 (aI q2 (aI g1 (aI g4 (aI v1 (aI s7 (aI v2 m1))))))) ?_;exact⟨_,_,hF,.inr ⟨rfl,_,_,fR,fR⟩⟩
  | false=>
    refine gS1 (aI q1 (aI q2 (aI g1 (aI g4 (aI v1 (aI s7 (aI v2 m1))))))) ?_;exact⟨fR,fR1 g1,hF⟩
 ·rintro fr Z' ⟨g4,g1,hE⟩;have w1:Z'.row Z.n=some ca:=eT (hE.row (by simp)) cL;refine gS1 (aI g4 (aI g1 (aI w1 s7))) ?_;exact⟨_,_,hE,.inl ⟨rfl,fR1 g1⟩⟩
 rintro r ⟨fr,Z',hE,⟨rfl,g1⟩|⟨rfl,s',c',g2,g3⟩⟩
 case inr=>
  refine gS1 (aI g2 (aI g3 @Tryz.results29)) ?_;exact⟨_,_,_,rfl,E0.trans hE⟩
 refine gS ?_;refine I4 vs.length (fun k fr Z'=>fr.get 17=some (.int .i64 k)/\fr.get 1=some (.pointer (some ⟨Z.n,0,none⟩))/\Ext (Z.new ca) Z') (fun r=>∃ fr Z',Ext (Z.new ca) Z'/\((r=⟨.exit 10,fr,Z'⟩/\fr.get 1=some (.pointer (some ⟨Z.n,0,none⟩)))\/(r=⟨.ret,fr,Z'⟩/\∃ s c,fr.get 2=some (str s)/\fr.get 3=some (.int .i64 c)))) ?_ ?_ ?_ ?_
 ·exact⟨fR,fR1 g1,hE⟩
 ·clear g1 hE fr;rintro k fr Z' hk ⟨g4,g1,hE⟩;have hc:=L9 hk;have w1:Z'.row Z.n=some ca:=eT (hE.row (by simp)) cL;have hEn:=hE.n;simp only[F6]at hEn;have hE0:Ext Z Z':=E0.trans hE;obtain⟨x,hx⟩:=H5 hk;obtain⟨C,hC⟩:=H5 (show k<T.J9.length by omega);obtain⟨ia,ic,ib,io,ics,rfl,i1,i2⟩:=(h8.get hx hC).use;have LC:=(hT.wk.combo C (Bs hC)).1;obtain⟨sp,rfl,l3,l4⟩:=k1 om;have w2:=eT (hE0.row l3) l4;have m1:=k2 k _ hx;rw[MH]at m1;refine gS1 (aI g4 (aI g1 (aI hc (aI w1 s9)))) ?_
  refine I4 C.length (fun i fr τ=>fr.get 18=some (.int .i64 i)/\fr.get 17=some (.int .i64 k)/\fr.get 1=some (.pointer (some ⟨Z.n,0,none⟩))/\τ=Z')
   (fun r=>∃ fr,(r=⟨.exit 12,fr,Z'⟩/\fr.get 17=some (.int .i64 k)/\fr.get 1=some (.pointer (some ⟨Z.n,0,none⟩)))\/(r=⟨.ret,fr,Z'⟩/\∃ s c,fr.get 2=some (str s)/\fr.get 3=some (.int .i64 c))) ?_ ?_ ?_ ?_
  ·exact⟨fR,fR1 g4,fR1 g1,rfl⟩
  ·clear g4 g1 fr;rintro i fr τ hi ⟨g18,g4,g1,rfl⟩;have hc:=L9 hi;obtain⟨y,hy⟩:=H5 hi;obtain⟨sp',rfl,l5,l6⟩:=i1 om;have w3:=eT (hE0.row l5) l6;have n1:=i2 i y hy;refine gS1 (aI g18 (aI g4 (aI g1 (aI hc (aI w1 (aI s9 (aI w2 m1))))))) ?_
   refine I4 T.u9.length (fun j fr υ=>fr.get 20=some (.int .i64 j)/\fr.get 18=some (.int .i64 i)/\fr.get 17=some (.int .i64 k)/\fr.get 1=some (.pointer (some ⟨Z.n,0,none⟩))/\(∃ b,fr.get 19=some (.bool b))/\υ=τ)
    (fun r=>∃ fr,r=⟨.exit 14,fr,τ⟩/\fr.get 18=some (.int .i64 i)/\fr.get 17=some (.int .i64 k)/\fr.get 1=some (.pointer (some ⟨Z.n,0,none⟩))/\(∃ b,fr.get 19=some (.bool b))) ?_ ?_ ?_ ?_
   ·exact⟨fR,fR1 g18,fR1 g4,fR1 g1,⟨_,fR⟩,rfl⟩
   ·clear g18 g4 g1 fr;rintro j fr υ hj ⟨g20,g18,g4,g1,⟨b,g19⟩,rfl⟩;have hc:=L9 hj;obtain⟨z,hz⟩:=H5 hj;obtain⟨BP8,rfl,l7,l8⟩:=l1 om;have w4:υ.row lb=some lcs:=eT (hE0.row l7) l8;obtain⟨-,n2,-⟩:=l2 j z hz;cases b with
    | true=>
      refine gS1 (aI g20 (aI g18 (aI g4 (aI g1 (aI g19 (aI hc (aI w1 s1))))))) ?_;exact⟨fR,fR1 g18,fR1 g4,fR1 g1,⟨_,fR⟩,by trivial⟩
    | false=>
      refine gS1 (aI g20 (aI g18 (aI g4 (aI g1 (aI g19 (aI hc (aI w1 (aI s1 (aI s9 (aI w2 (aI m1 (aI w3 (aI n1 (aI w4 n2)))))))))))))) ?_;exact⟨fR,fR1 g18,fR1 g4,fR1 g1,⟨_,fR⟩,by trivial⟩
   ·clear g18 g4 g1 fr;rintro fr υ ⟨g20,g18,g4,g1,⟨b,g19⟩,rfl⟩;refine gS1 (aI g20 (aI g1 (aI w1 s1))) ?_;exact⟨_,rfl,fR1 g18,fR1 g4,fR1 g1,⟨b,fR1 g19⟩⟩
   clear g18 g4 g1 fr;rintro r ⟨fr,rfl,g18,g4,g1,⟨b,g19⟩⟩;cases b with
   | false=>
     refine gS1 g19 ?_;exact⟨_,.inr ⟨rfl,_,_,fR,fR⟩⟩
   | true=>
     refine gS1 (aI g19 g18) ?_;exact⟨fR,fR1 g4,fR1 g1,by trivial⟩
  ·clear g4 g1 fr;rintro fr τ ⟨g18,g4,g1,rfl⟩;refine gS1 (aI g18 (aI g4 (aI g1 (aI w1 (aI s9 (aI w2 m1)))))) ?_;exact⟨_,.inl ⟨rfl,fR1 g4,fR1 g1⟩⟩
  clear g4 g1 fr;rintro r ⟨fr,⟨rfl,g4,g1⟩|⟨rfl,s',c',g2,g3⟩⟩
  ·refine gS1 g4 ?_;exact⟨fR,fR1 g1,hE⟩
  ·refine gS ?_;exact⟨_,_,hE,.inr ⟨rfl,_,_,fR1 g2,fR1 g3⟩⟩
 ·rintro fr Z' ⟨g4,g1,hE⟩;have w1:Z'.row Z.n=some ca:=eT (hE.row (by simp)) cL;refine gS1 (aI g4 (aI g1 (aI w1 s9))) ?_;exact⟨_,_,hE,.inl ⟨rfl,fR1 g1⟩⟩
 rintro r ⟨fr,Z',hE,⟨rfl,g1⟩|⟨rfl,s',c',g2,g3⟩⟩
 case inr=>
  refine gS1 (aI g2 (aI g3 @Tryz.results29)) ?_;exact⟨_,_,_,rfl,E0.trans hE⟩
 have w1:Z'.row Z.n=some ca:=eT (hE.row (by simp)) cL;have hEn:=hE.n;simp only[F6]at hEn;have hE0:Ext Z Z':=E0.trans hE;have fin:∀ s' c',∃ s c τ,(⟨false,.tuple ⟨[str s',.int .i64 c']⟩,Z'⟩:CR)=⟨false,.tuple ⟨[str s,.int .i64 c]⟩,τ⟩/\Ext Z τ:=fun s' c'=>⟨_,_,_,rfl,hE0⟩
 refine gS1 (aI g1 (aI w1 (aI s15 s16))) ?_;cases q1:decide (T.t.b<T.t.q)with
 | true=>
   refine gS1 (aI q1 (a3N @D9 @F4 @Tryz.results29)) ?_;exact fin _ _
 |false=>
 cases q2:decide (T.t.g<T.t.b)with
 | true=>
   refine gS1 (aI q1 (aI q2 (aI g1 (aI w1 (aI s16 (aI s17 (a3N @D9 @F4 @Tryz.results29))))))) ?_;exact fin _ _
 |false=>
 cases q3:decide (T.t.p<T.t.g)with
 | true=>
   refine gS1 (aI q1 (aI q2 (aI q3 (aI g1 (aI w1 (aI s16 (aI s17 (aI s18 (a3N @D9 @F4 @Tryz.results29))))))))) ?_;exact fin _ _
 | false=>
   refine gS1 (aI q1 (aI q2 (aI q3 (aI g1 (aI w1 (aI s16 (aI s17 (aI s18 (a3N @D9 @F4 @Tryz.results29))))))))) ?_;exact fin _ _
end Go.Proofs.T
