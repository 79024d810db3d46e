/- The H3 Check of a GG pQ Us ends are small. -/
import Derived.Test.YtgjocfjdecjhoaaGreatDoorICB
import Derived.Test.YtgjocfjdecjhoaaGreatDoorIRH
set_option linter.unusedSimpArgs false
set_option linter.unusedVariables false
set_option linter.defProp false
set_option maxHeartbeats 32000000
set_option maxRecDepth 100000
namespace Go.Proofs.T
open Go Go.Ab
open Nat (reduceMul reduceEqDiff reduceAdd)
def qi {Z:St}{ca:List Value}{T:Tn}{jf:Nat}{P:Jc}(K:Good Z ca T) (hf:FOk jf T.f) (hj:jf<=1000) (a7:Iv T T.f P) (hP:∀ n d,P n d->RS n d):Ev (gO 29 [.agg ⟨ca⟩] Z) (fun r=>∃ s c Z',r=⟨false,.tuple ⟨[str s,.int .i64 c]⟩,Z'⟩/\Ext Z Z') ⟨⟩:=by
 obtain⟨vl,vc,vr,ex,vt,vk,I,h2,h3,h4,h5,h6,vs,h7,h8⟩:=K.at'.parts;obtain⟨la,lc,lb,lo,lcs,rfl,l1,l2⟩:=h2.use;obtain⟨ca',cc,cb,co,ccs,rfl,c1,c2⟩:=h3.use;obtain⟨ra,rc,rb,ro,rcs,rfl,r1,r2⟩:=h4.use;obtain⟨ta,tc,tb,to',tcs,rfl,t1,t2⟩:=h6.use;obtain⟨ka,kc,kb,ko,kcs,rfl,k1,k2⟩:=SL.Lo h7;have S:=I.all;have L1:=K.wk.AG;have L2:=K.wk.G7;have L3:=K.wk.reqs;have L4:=K.wk.AQ;have L5:=K.wk.K7;have L6:=h8.len;have s1:=I.p1;have s2:=I.p2;have s3:=I.p3;have s4:=I.p4;have s5:=I.p5;have s6:=I.p6;have s7:=I.p11;have s9:=I.p13;have a8:=I.q15;have V:=I.q16;have a1:=I.q17;have a4:=I.q18;refine C8 Tryz.func29 rfl rfl ?_;refine gS1 S ?_;have E:Ext Z (Z.new ca):=eX;refine(gB (K.mono E).at' K.wk).mono ?_;rintro r ⟨s,b,Z1,rfl,a2,-⟩;cases b with
 | false=>
   refine gS1 @Tryz.results29 ?_;exact⟨_,_,_,rfl,E.trans a2⟩
 |true=>
 refine gS ?_;refine G8 T.G7.length (fun k a Z'=>a.get 6=some (.int .i64 k)/\a.get 1=some (.pointer (some ⟨Z.n,0,none⟩))/\Ext (Z.new ca) Z') (fun r=>∃ a Z',Ext (Z.new ca) Z'/\((r=⟨.exit 0,a,Z'⟩/\a.get 1=some (.pointer (some ⟨Z.n,0,none⟩)))\/(r=⟨.ret,a,Z'⟩/\∃ s c,a.get 2=some (str s)/\a.get 3=some (.int .i64 c)))) ?_ ?_ ?_ ?_
 ·exact⟨fR,fR,a2⟩
 ·skip
  rintro k a Z' G ⟨l,e,h⟩;have B:=M4 G;have o:Z'.row Z.n=some ca:=eT (h.row (by simp)) cL;have u:=h.n;simp only[G3]at u;have m:Ext Z Z':=E.trans h;obtain⟨x,O⟩:=I1 G;obtain⟨sp,rfl,l3,l4⟩:=c1 om;have D:=eT (m.row l3) l4;obtain⟨m0,J,m2,m3,m4,m5⟩:=c2 k x O;refine gS1 (aI l (aI e (aI B (aI o (aI s2 (aI D (aI m3 m4))))))) ?_;cases q:decide (x.high<x.low)with
  | true=>
    refine gS1 (aI l (aI e (aI o (aI s2 (aI D J))))) ?_;exact⟨_,_,h,.inr ⟨rfl,_,_,fR,fR⟩⟩
  | false=>
    refine gS1 l ?_;exact⟨fR,fR1 e,h⟩
 ·rintro a Z' ⟨l,e,h⟩;have o:Z'.row Z.n=some ca:=eT (h.row (by simp)) cL;refine gS1 (aI l (aI e (aI o s2))) ?_;exact⟨_,_,h,.inl ⟨rfl,fR1 e⟩⟩
 rintro r ⟨a,Z',h,⟨rfl,e⟩|⟨rfl,X,W,M,N⟩⟩
 case inr=>
  refine gS1 (aI M (aI N @Tryz.results29)) ?_;exact⟨_,_,_,rfl,E.trans h⟩
 have o:Z'.row Z.n=some ca:=eT (h.row (by simp)) cL;have u:=h.n;simp only[G3]at u;have m:Ext Z Z':=E.trans h;refine gS1 (aI e (aI o (aI s4 s5))) ?_;cases q0:decide (T.high<T.low)with
 | true=>
   refine gS1 @Tryz.results29 ?_;exact⟨_,_,_,rfl,m⟩
 |false=>
 refine gS ?_;clear o u m;refine G8 T.AG.length (fun k a Z'=>a.get 7=some (.int .i64 k)/\a.get 1=some (.pointer (some ⟨Z.n,0,none⟩))/\Ext (Z.new ca) Z') (fun r=>∃ a Z',Ext (Z.new ca) Z'/\((r=⟨.exit 2,a,Z'⟩/\a.get 1=some (.pointer (some ⟨Z.n,0,none⟩)))\/(r=⟨.ret,a,Z'⟩/\∃ s c,a.get 2=some (str s)/\a.get 3=some (.int .i64 c)))) ?_ ?_ ?_ ?_
 ·exact⟨fR,fR1 e,h⟩
 ·clear e h a;rintro k a Z' G ⟨l,e,h⟩;have B:=M4 G;have o:Z'.row Z.n=some ca:=eT (h.row (by simp)) cL;have u:=h.n;simp only[G3]at u;have m:Ext Z Z':=E.trans h;obtain⟨x,O⟩:=I1 G;obtain⟨sp,rfl,l3,l4⟩:=l1 om;have D:=eT (m.row l3) l4;obtain⟨-,J,m2⟩:=l2 k x O;refine gS1 (aI l (aI e (aI B (aI o (aI s1 (aI s4 (aI D m2))))))) ?_;cases q:decide (x.AE<T.low)with
  | true=>
    refine gS ?_;exact⟨_,_,h,.inr ⟨rfl,_,_,fR,fR⟩⟩
  | false=>
    refine gS1 l ?_;exact⟨fR,fR1 e,h⟩
 ·rintro a Z' ⟨l,e,h⟩;have o:Z'.row Z.n=some ca:=eT (h.row (by simp)) cL;refine gS1 (aI l (aI e (aI o s1))) ?_;exact⟨_,_,h,.inl ⟨rfl,fR1 e⟩⟩
 rintro r ⟨a,Z',h,⟨rfl,e⟩|⟨rfl,X,W,M,N⟩⟩
 case inr=>
  refine gS1 (aI M (aI N @Tryz.results29)) ?_;exact⟨_,_,_,rfl,E.trans h⟩
 refine gS ?_;refine G8 T.reqs.length (fun k a Z'=>a.get 8=some (.int .i64 k)/\a.get 1=some (.pointer (some ⟨Z.n,0,none⟩))/\Ext (Z.new ca) Z') (fun r=>∃ a Z',Ext (Z.new ca) Z'/\((r=⟨.exit 4,a,Z'⟩/\a.get 1=some (.pointer (some ⟨Z.n,0,none⟩)))\/(r=⟨.ret,a,Z'⟩/\∃ s c,a.get 2=some (str s)/\a.get 3=some (.int .i64 c)))) ?_ ?_ ?_ ?_
 ·exact⟨fR,fR1 e,h⟩
 ·clear e h a;rintro k a Z' G ⟨l,e,h⟩;have B:=M4 G;have o:Z'.row Z.n=some ca:=eT (h.row (by simp)) cL;have u:=h.n;simp only[G3]at u;have m:Ext Z Z':=E.trans h;obtain⟨x,O⟩:=I1 G;obtain⟨sp,rfl,l3,l4⟩:=r1 om;have D:=eT (m.row l3) l4;obtain⟨-,J,-⟩:=r2 k x O;refine gS1 (aI l (aI e (aI B (aI o s3)))) ?_
  refine G8 T.G7.length (fun j a τ=>a.get 10=some (.int .i64 j)/\a.get 8=some (.int .i64 k)/\a.get 1=some (.pointer (some ⟨Z.n,0,none⟩))/\(∃ n,a.get 9=some (.int .i64 n))/\τ=Z')
   (fun r=>∃ a,r=⟨.exit 6,a,Z'⟩/\a.get 8=some (.int .i64 k)/\a.get 1=some (.pointer (some ⟨Z.n,0,none⟩))/\(∃ n,a.get 9=some (.int .i64 n))) ?_ ?_ ?_ ?_
  ·exact⟨fR,fR1 l,fR1 e,⟨_,fR⟩,rfl⟩
  ·clear l e a;rintro j a τ hj ⟨L,l,e,⟨n,Y⟩,rfl⟩;have B:=M4 hj;obtain⟨y,hy⟩:=I1 hj;obtain⟨sp',rfl,l5,l6⟩:=c1 om;have w3:=eT (m.row l5) l6;obtain⟨-,n1,n2,-⟩:=c2 j y hy;refine gS1 (aI L (aI l (aI e (aI B (aI o (aI s2 (aI s3 (aI D (aI w3 (aI J n1)))))))))) ?_;cases q:decide (y.name=x.name)with
   | true=>
     refine gS1 (aI L (aI e (aI o (aI s2 (aI w3 n2))))) ?_;exact⟨fR,fR1 l,fR1 e,⟨_,fR⟩,by trivial⟩
   | false=>
     refine gS1 L ?_;exact⟨fR,fR1 l,fR1 e,⟨n,fR1 Y⟩,by trivial⟩
  ·clear l e a;rintro a τ ⟨L,l,e,⟨n,Y⟩,rfl⟩;refine gS1 (aI L (aI e (aI o s2))) ?_;exact⟨_,rfl,fR1 l,fR1 e,⟨n,fR1 Y⟩⟩
  clear l e a;rintro r ⟨a,rfl,l,e,⟨n,Y⟩⟩;cases q1:decide (n=0)with
  | true=>
    refine gS1 (aI Y q1) ?_;exact⟨_,_,h,.inr ⟨rfl,_,_,fR,fR⟩⟩
  |false=>
  cases U:decide (n=2)with
  | false=>
    refine gS1 (aI Y (aI q1 U)) ?_;exact⟨_,_,h,.inr ⟨rfl,_,_,fR,fR⟩⟩
  | true=>
    refine gS1 (aI Y (aI q1 (aI U l))) ?_;exact⟨fR,fR1 e,h⟩
 ·rintro a Z' ⟨l,e,h⟩;have o:Z'.row Z.n=some ca:=eT (h.row (by simp)) cL;refine gS1 (aI l (aI e (aI o s3))) ?_;exact⟨_,_,h,.inl ⟨rfl,fR1 e⟩⟩
 rintro r ⟨a,Z',h,⟨rfl,e⟩|⟨rfl,X,W,M,N⟩⟩
 case inr=>
  refine gS1 (aI M (aI N @Tryz.results29)) ?_;exact⟨_,_,_,rfl,E.trans h⟩
 have o:Z'.row Z.n=some ca:=eT (h.row (by simp)) cL;have u:=h.n;simp only[G3]at u;have m:Ext Z Z':=E.trans h;refine gS1 (aI e (aI o (aI S s6))) ?_;refine(wO hf hj (K.mono m) (h5.mono m)).mono ?_;rintro r ⟨p,c,Z2,rfl,-,-,A⟩;have n2:=A.n;have D:=eT (A.row om) o;have hF:=h.trans A;have H:=m.trans A;refine gS ?_;cases qc:decide (c=0)with
 | false=>
   have a9:c≠0:=z9z qc;refine gS1 (aI qc (a3N @D6 @D8 @Tryz.results29)) ?_;exact⟨_,_,_,rfl,H⟩
 |true=>
 cases qp:decide (p=0)with
 | false=>
   have a6:decide ((14:Int)=0)=false:=by decide
   refine gS1 (aI qc (aI qp (aI a6 (a3N @D6 @D8 @Tryz.results29)))) ?_;exact⟨_,_,_,rfl,H⟩
 |true=>
 refine gS1 (aI qc (aI qp (aI e (aI D (aI S s6))))) ?_;refine(Yi a7 hP (K.mono H) (h5.mono H)).mono ?_;rintro r ⟨i1,i2,i3,i4,a5,Z3,rfl,-,a0⟩;have n3:=a0.n;have hG:=hF.trans a0;have a3:=H.trans a0;refine gS ?_;cases qd:decide (a5=0)with
 | false=>
   simp(maxSteps:=8000000) (disch:=first|exact dS|fail) only[↓bD,bW,reduceMul,reduceEqDiff,reduceAdd,Nat.reduceBEq,reduceIte,Option.isNone_none,qd,Tryz.results29];exact⟨_,_,_,rfl,a3⟩
 |true=>
 simp(maxSteps:=8000000) (disch:=first|exact dS|fail) only[↓bD,bW,reduceMul,reduceEqDiff,reduceAdd,Nat.reduceBEq,reduceIte,Option.isNone_none,qd];clear o u m n2 D;have h:=hG;clear hF H hG a3;refine G8 T.AQ.length (fun k a Z'=>a.get 13=some (.int .i64 k)/\a.get 1=some (.pointer (some ⟨Z.n,0,none⟩))/\Ext (Z.new ca) Z') (fun r=>∃ a Z',Ext (Z.new ca) Z'/\((r=⟨.exit 8,a,Z'⟩/\a.get 1=some (.pointer (some ⟨Z.n,0,none⟩)))\/(r=⟨.ret,a,Z'⟩/\∃ s c,a.get 2=some (str s)/\a.get 3=some (.int .i64 c)))) ?_ ?_ ?_ ?_
 ·exact⟨fR,fR1 e,h⟩
 ·clear e h a;rintro k a Z' G ⟨l,e,h⟩;have B:=M4 G;have o:Z'.row Z.n=some ca:=eT (h.row (by simp)) cL;have u:=h.n;simp only[G3]at u;have m:Ext Z Z':=E.trans h;obtain⟨x,O⟩:=I1 G;obtain⟨sp,rfl,l3,l4⟩:=t1 om;have D:=eT (m.row l3) l4;have J:=t2 k x O;refine gS1 (aI l (aI e (aI B (aI o (aI S (aI s7 (aI D J))))))) ?_;refine(IV (s:=x) (K.mono m)).mono ?_;rintro r ⟨Z2,rfl,A⟩;have n2:=A.n;have v1:=eT (A.row om) o;have v2:=eT (A.row om) D;have hF:=h.trans A;unfold Kl;refine gS1 (asx A) ?_
  try refine dW1 (asx A) ?_
  try(refine gS ?_;try exact⟨⟩)
  cases q1:(N4 T x).2.2 with
  | false=>
    refine gS1 q1 ?_;exact⟨_,_,hF,.inr ⟨rfl,_,_,fR,fR⟩⟩
  |true=>
  cases U:decide (x=[108,111,119])with
  | true=>
    refine gS1 (aI q1 (aI U (aI e (aI l (aI v1 (aI s7 (aI v2 J))))))) ?_;exact⟨_,_,hF,.inr ⟨rfl,_,_,fR,fR⟩⟩
  | false=>
    refine gS1 (aI q1 (aI U (aI e (aI l (aI v1 (aI s7 (aI v2 J))))))) ?_;exact⟨fR,fR1 e,hF⟩
 ·rintro a Z' ⟨l,e,h⟩;have o:Z'.row Z.n=some ca:=eT (h.row (by simp)) cL;refine gS1 (aI l (aI e (aI o s7))) ?_;exact⟨_,_,h,.inl ⟨rfl,fR1 e⟩⟩
 rintro r ⟨a,Z',h,⟨rfl,e⟩|⟨rfl,X,W,M,N⟩⟩
 case inr=>
  refine gS1 (aI M (aI N @Tryz.results29)) ?_;exact⟨_,_,_,rfl,E.trans h⟩
 refine gS ?_;refine G8 vs.length (fun k a Z'=>a.get 17=some (.int .i64 k)/\a.get 1=some (.pointer (some ⟨Z.n,0,none⟩))/\Ext (Z.new ca) Z') (fun r=>∃ a Z',Ext (Z.new ca) Z'/\((r=⟨.exit 10,a,Z'⟩/\a.get 1=some (.pointer (some ⟨Z.n,0,none⟩)))\/(r=⟨.ret,a,Z'⟩/\∃ s c,a.get 2=some (str s)/\a.get 3=some (.int .i64 c)))) ?_ ?_ ?_ ?_
 ·exact⟨fR,fR1 e,h⟩
 ·clear e h a;rintro k a Z' G ⟨l,e,h⟩;have B:=M4 G;have o:Z'.row Z.n=some ca:=eT (h.row (by simp)) cL;have u:=h.n;simp only[G3]at u;have m:Ext Z Z':=E.trans h;obtain⟨x,O⟩:=I1 G;obtain⟨C,hC⟩:=I1 (show k<T.K7.length by omega);obtain⟨ia,ic,ib,io,ics,rfl,i1,i2⟩:=(h8.get O hC).use;have LC:=(K.wk.combo C (Ag hC)).1;obtain⟨sp,rfl,l3,l4⟩:=k1 om;have D:=eT (m.row l3) l4;have J:=k2 k _ O;rw[Ip]at J;refine gS1 (aI l (aI e (aI B (aI o s9)))) ?_
  refine G8 C.length (fun i a τ=>a.get 18=some (.int .i64 i)/\a.get 17=some (.int .i64 k)/\a.get 1=some (.pointer (some ⟨Z.n,0,none⟩))/\τ=Z')
   (fun r=>∃ a,(r=⟨.exit 12,a,Z'⟩/\a.get 17=some (.int .i64 k)/\a.get 1=some (.pointer (some ⟨Z.n,0,none⟩)))\/(r=⟨.ret,a,Z'⟩/\∃ s c,a.get 2=some (str s)/\a.get 3=some (.int .i64 c))) ?_ ?_ ?_ ?_
  ·exact⟨fR,fR1 l,fR1 e,rfl⟩
  ·clear l e a;rintro i a τ hi ⟨v,l,e,rfl⟩;have B:=M4 hi;obtain⟨y,hy⟩:=I1 hi;obtain⟨sp',rfl,l5,l6⟩:=i1 om;have w3:=eT (m.row l5) l6;have n1:=i2 i y hy;refine gS1 (aI v (aI l (aI e (aI B (aI o (aI s9 (aI D J))))))) ?_
   refine G8 T.AG.length (fun j a υ=>a.get 20=some (.int .i64 j)/\a.get 18=some (.int .i64 i)/\a.get 17=some (.int .i64 k)/\a.get 1=some (.pointer (some ⟨Z.n,0,none⟩))/\(∃ b,a.get 19=some (.bool b))/\υ=τ)
    (fun r=>∃ a,r=⟨.exit 14,a,τ⟩/\a.get 18=some (.int .i64 i)/\a.get 17=some (.int .i64 k)/\a.get 1=some (.pointer (some ⟨Z.n,0,none⟩))/\(∃ b,a.get 19=some (.bool b))) ?_ ?_ ?_ ?_
   ·exact⟨fR,fR1 v,fR1 l,fR1 e,⟨_,fR⟩,rfl⟩
   ·clear v l e a;rintro j a υ hj ⟨R,v,l,e,⟨b,F⟩,rfl⟩;have B:=M4 hj;obtain⟨z,hz⟩:=I1 hj;obtain⟨BY7,rfl,l7,l8⟩:=l1 om;have w4:υ.row lb=some lcs:=eT (m.row l7) l8;obtain⟨-,n2,-⟩:=l2 j z hz;cases b with
    | true=>
      refine gS1 (aI R (aI v (aI l (aI e (aI F (aI B (aI o s1))))))) ?_;exact⟨fR,fR1 v,fR1 l,fR1 e,⟨_,fR⟩,by trivial⟩
    | false=>
      refine gS1 (aI R (aI v (aI l (aI e (aI F (aI B (aI o (aI s1 (aI s9 (aI D (aI J (aI w3 (aI n1 (aI w4 n2)))))))))))))) ?_;exact⟨fR,fR1 v,fR1 l,fR1 e,⟨_,fR⟩,by trivial⟩
   ·clear v l e a;rintro a υ ⟨R,v,l,e,⟨b,F⟩,rfl⟩;refine gS1 (aI R (aI e (aI o s1))) ?_;exact⟨_,rfl,fR1 v,fR1 l,fR1 e,⟨b,fR1 F⟩⟩
   clear v l e a;rintro r ⟨a,rfl,v,l,e,⟨b,F⟩⟩;cases b with
   | false=>
     refine gS1 F ?_;exact⟨_,.inr ⟨rfl,_,_,fR,fR⟩⟩
   | true=>
     refine gS1 (aI F v) ?_;exact⟨fR,fR1 l,fR1 e,by trivial⟩
  ·clear l e a;rintro a τ ⟨v,l,e,rfl⟩;refine gS1 (aI v (aI l (aI e (aI o (aI s9 (aI D J)))))) ?_;exact⟨_,.inl ⟨rfl,fR1 l,fR1 e⟩⟩
  clear l e a;rintro r ⟨a,⟨rfl,l,e⟩|⟨rfl,X,W,M,N⟩⟩
  ·refine gS1 l ?_;exact⟨fR,fR1 e,h⟩
  ·refine gS ?_;exact⟨_,_,h,.inr ⟨rfl,_,_,fR1 M,fR1 N⟩⟩
 ·rintro a Z' ⟨l,e,h⟩;have o:Z'.row Z.n=some ca:=eT (h.row (by simp)) cL;refine gS1 (aI l (aI e (aI o s9))) ?_;exact⟨_,_,h,.inl ⟨rfl,fR1 e⟩⟩
 rintro r ⟨a,Z',h,⟨rfl,e⟩|⟨rfl,X,W,M,N⟩⟩
 case inr=>
  refine gS1 (aI M (aI N @Tryz.results29)) ?_;exact⟨_,_,_,rfl,E.trans h⟩
 have o:Z'.row Z.n=some ca:=eT (h.row (by simp)) cL;have u:=h.n;simp only[G3]at u;have m:Ext Z Z':=E.trans h;have fin:∀ X W,∃ s c τ,(⟨false,.tuple ⟨[str X,.int .i64 W]⟩,Z'⟩:CR)=⟨false,.tuple ⟨[str s,.int .i64 c]⟩,τ⟩/\Ext Z τ:=fun X W=>⟨_,_,_,rfl,m⟩
 refine gS1 (aI e (aI o (aI a8 V))) ?_;cases q1:decide (T.t.b<T.t.q)with
 | true=>
   refine gS1 (aI q1 (a3N @D6 @D8 @Tryz.results29)) ?_;exact fin _ _
 |false=>
 cases U:decide (T.t.g<T.t.b)with
 | true=>
   refine gS1 (aI q1 (aI U (aI e (aI o (aI V (aI a1 (a3N @D6 @D8 @Tryz.results29))))))) ?_;exact fin _ _
 |false=>
 cases q3:decide (T.t.p<T.t.g)with
 | true=>
   refine gS1 (aI q1 (aI U (aI q3 (aI e (aI o (aI V (aI a1 (aI a4 (a3N @D6 @D8 @Tryz.results29))))))))) ?_;exact fin _ _
 | false=>
   refine gS1 (aI q1 (aI U (aI q3 (aI e (aI o (aI V (aI a1 (aI a4 (a3N @D6 @D8 @Tryz.results29))))))))) ?_;exact fin _ _
end Go.Proofs.T
