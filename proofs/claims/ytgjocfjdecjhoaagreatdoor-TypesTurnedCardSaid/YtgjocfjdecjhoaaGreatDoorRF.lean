/- The G6 Px of a Ww lists, of ID of any kind. -/
import Derived.Test.YtgjocfjdecjhoaaGreatDoorSA
set_option linter.unusedSimpArgs false
set_option linter.unusedVariables false
set_option linter.defProp false
set_option maxHeartbeats 32000000
set_option maxRecDepth 100000
namespace Go.Proofs.T
open Go Go.Ab
def JH {α:Type}{c:Bool}{x y:Option α}{Q:α->Prop}{u v:Hd Q}{w:Hd fun z:Bool=>cond z (Ev x Q u) (Ev y Q v)}(J:α->Prop) (h:Br c (Ev x J ⟨⟩) (Ev y J ⟨⟩) ⟨⟩) (k:∀ a,J a->Q a):Br c (Ev x Q u) (Ev y Q v) w :=
 ⟨fun e=>(h.1 e).mono k,fun e=>(h.2 e).mono k⟩
def Bx {Z:St}{n m:Int}:Ev (gO 123 [.int .i64 n,.int .i64 m] Z) (fun r=>∃ b,r=⟨false,.bool b,Z⟩/\Bi b (SmB m n)) ⟨⟩:=by
 refine C9 Tryz.func123 rfl rfl ?_;cases a:decide (n<m)with
 | true=>
   refine gS1 (aI a (a3N @D9 @F4 @Tryz.results123)) ?_;exact⟨_,rfl,Bi.no fun h=>by have:=z6z a;have:=h.1;omega⟩
 | false=>
   cases b:decide (1000000000<n)with
   | true=>
     refine gS1 (aI a (aI b (a3N @D9 @F4 @Tryz.results123))) ?_;exact⟨_,rfl,Bi.no fun h=>by have:=z6z b;have:=h.2;omega⟩
   | false=>
     refine gS1 (aI a (aI b (a3N @D9 @F4 @Tryz.results123))) ?_;exact⟨_,rfl,Bi.yes ⟨by have:=z9z a;omega,by have:=z9z b;omega⟩⟩
def NM {s:By}:NN s=Ei s:=by
 cases h:Ei s with
 |true=>exact mO h
 | false=>
   unfold Ei at h;unfold NN;rw[MG];cases hn:AM s with
   |false=>rfl
   | true=>
     rw[hn,IE]at h;unfold bG at h;simp at h;simp;intro a b c;exact h a b c
def Wx {Z:St}{ca:List Value}{T:Tn}(hT:HW Z ca T) (hC:∀ c∈T.J9,c.length<=12):Ev (gO 122 [.agg ⟨ca⟩] Z) (fun r=>∃ b Z',r=⟨false,.bool b,Z'⟩/\Ext Z Z'/\Bi b (LsT T)) ⟨⟩:=by
 obtain⟨vl,vc,vr,ex,vt,vk,hp,h2,h3,h4,h5,h6,vs,h7,h8⟩:=hT.parts;obtain⟨la,lc,lb,lo,lcs,rfl,l1,l2⟩:=h2.use;obtain⟨ca',cc,cb,co,ccs,rfl,c1,c2⟩:=h3.use;obtain⟨ra,rc,rb,ro,rcs,rfl,r1,r2⟩:=h4.use;obtain⟨ta,tc,tb,to',tcs,rfl,t1,t2⟩:=h6.use;obtain⟨ka,kc,kb,ko,kcs,rfl,k1,k2⟩:=SL.LD h7;have hfa:=hp.all;have L6:=h8.len;have s1:=hp.p1;have s2:=hp.p2;have s3:=hp.p3;have s7:=hp.p11;have s9:=hp.p13;refine C9 Tryz.func122 rfl rfl ?_;refine gS1 (aI hfa s1) ?_;have E0:Ext Z (Z.new ca):=eX;have fin:¬ LsT T->∃ b' Z',(⟨false,.bool false,Z.new ca⟩:CR)=⟨false,.bool b',Z'⟩/\Ext Z Z'/\Bi b' (LsT T):=fun h=>⟨_,_,rfl,E0,Bi.no h⟩
 cases z1:decide ((T.u9.length:Int)<1)
 case true=>refine gS1 (aI z1 (a3N @D9 @F4 @Tryz.results122)) ?_;exact fin fun h=>by have:=z6z z1;have:=h.n0;omega
 cases z2:decide (12<(T.u9.length:Int))
 case true=>refine gS1 (aI z1 (aI z2 (aI s1 (a3N @D9 @F4 @Tryz.results122)))) ?_;exact fin fun h=>by have:=z6z z2;have:=h.n1;omega
 cases z3:decide (12<(T.G9.length:Int))
 case true=>refine gS1 (aI z1 (aI z2 (aI z3 (aI s1 (aI s2 (a3N @D9 @F4 @Tryz.results122)))))) ?_;exact fin fun h=>by have:=z6z z3;have:=h.n2;omega
 cases z4:decide (24<(T.reqs.length:Int))
 case true=>refine gS1 (aI z1 (aI z2 (aI z3 (aI z4 (aI s1 (aI s2 (aI s3 (a3N @D9 @F4 @Tryz.results122)))))))) ?_;exact fin fun h=>by have:=z6z z4;have:=h.n3;omega
 cases z5:decide (12<(T.AJ.length:Int))
 case true=>refine gS1 (aI z1 (aI z2 (aI z3 (aI z4 (aI z5 (aI s1 (aI s2 (aI s3 (aI s7 (a3N @D9 @F4 @Tryz.results122)))))))))) ?_;exact fin fun h=>by have:=z6z z5;have:=h.n4;omega
 cases z6:decide (12<(vs.length:Int))
 case true=>refine gS1 (aI z1 (aI z2 (aI z3 (aI z4 (aI z5 (aI z6 (aI s1 (aI s2 (aI s3 (aI s7 (aI s9 (a3N @D9 @F4 @Tryz.results122)))))))))))) ?_;exact fin fun h=>by have:=z6z z6;have:=h.n5;omega
 refine gS1 (aI z1 (aI z2 (aI z3 (aI z4 (aI z5 (aI z6 (aI s1 (aI s2 (aI s3 (aI s7 s9)))))))))) ?_;have L0:1<=T.u9.length:=by have:=z9z z1;omega
 have L1:T.u9.length<=12:=by have:=z9z z2;omega
 have L2:T.G9.length<=12:=by have:=z9z z3;omega
 have L3:T.reqs.length<=24:=by have:=z9z z4;omega
 have L4:T.AJ.length<=12:=by have:=z9z z5;omega
 have L5:vs.length<=12:=by have:=z9z z6;omega
 clear z1 z2 z3 z4 z5 z6 fin
 refine I4 T.u9.length (fun k fr Z'=>fr.get 4=some (.int .i64 k)/\fr.get 1=some (.pointer (some ⟨Z.n,0,none⟩))/\(∃ b,fr.get 3=some (.bool b)/\Bi b (A1 T k))/\Ext (Z.new ca) Z')
  (fun r=>∃ fr Z',r=⟨.exit 0,fr,Z'⟩/\fr.get 1=some (.pointer (some ⟨Z.n,0,none⟩))/\(∃ b,fr.get 3=some (.bool b)/\Bi b (A1 T T.u9.length))/\Ext (Z.new ca) Z') ?_ ?_ ?_ ?_
 ·exact⟨fR,fR,⟨_,fR,Bi.yes ⟨trivial,up0⟩⟩,.refl _⟩
 ·skip
  rintro k fr Z' hk ⟨g4,g1,⟨b,g3,hb⟩,hE⟩;have hc:=L9 hk;have w1:Z'.row Z.n=some ca:=eT (hE.row (by simp)) cL;have hEn:=hE.n;simp only[F6]at hEn;have hE0:Ext Z Z':=E0.trans hE;obtain⟨x,hx⟩:=H5 hk;obtain⟨sp,rfl,l3,l4⟩:=l1 om;have w2:=eT (hE0.row l3) l4;obtain⟨-,m1,m2⟩:=l2 k x hx;obtain⟨S,hS⟩:=nm Z';rw[hS]at w1 w2 hE hE0 ⊢;refine gS1 (aI g4 (aI g1 (aI g3 (aI hc (aI w1 s1))))) ?_;obtain⟨X,hX⟩:∃ X:Prop,X=(A1 T k/\Ae9 x):=⟨_,rfl⟩
  refine JH (fun r=>∃ fr',r=⟨.normal,fr',S⟩/\fr'.get 4=some (.int .i64 k)/\fr'.get 1=some (.pointer (some ⟨Z.n,0,none⟩))/\∃ b,fr'.get 3=some (.bool b)/\Bi b X) ?_ ?_
  ·rw[hX];cases b with
   | false=>
     refine gS1 (aI g4 (aI g1 g3)) ?_;exact⟨_,rfl,fR1 g4,fR1 g1,_,fR,hb.f1⟩
   |true=>
   refine gS1 (aI g4 (aI g1 (aI g3 (aI w1 (aI s1 (aI w2 m1)))))) ?_;refine Bx.mono ?_;rintro r ⟨b1,rfl,hb1⟩;cases b1 with
   | false=>
     refine gS1 (aI g4 (aI g1 (aI g3 (aI w1 (aI s1 (aI w2 m1)))))) ?_;exact⟨_,rfl,fR1 g4,fR1 g1,_,fR,hb.t hb1.f1⟩
   |true=>
   refine gS1 (aI g4 (aI g1 (aI g3 (aI w1 (aI s1 (aI w2 (aI m1 m2))))))) ?_;refine Bx.mono ?_;rintro r ⟨b2,rfl,hb2⟩;refine gS1 (aI g4 (aI g1 (aI g3 (aI w1 (aI s1 (aI w2 m1)))))) ?_;exact⟨_,rfl,fR1 g4,fR1 g1,_,fR,hb.t (hb1.t hb2)⟩
  clear g4 g1 g3 hb b;rintro r ⟨fr,rfl,g4,g1,b,g3,hb⟩;refine gS ?_
  refine I4 k (fun j fr τ=>fr.get 5=some (.int .i64 j)/\fr.get 4=some (.int .i64 k)/\fr.get 1=some (.pointer (some ⟨Z.n,0,none⟩))/\(∃ b,fr.get 3=some (.bool b)/\Bi b (X/\UpT (DF Lot.id T.u9 x) j))/\τ=S)
   (fun r=>∃ fr,r=⟨.exit 2,fr,S⟩/\fr.get 4=some (.int .i64 k)/\fr.get 1=some (.pointer (some ⟨Z.n,0,none⟩))/\(∃ b,fr.get 3=some (.bool b)/\Bi b (X/\UpT (DF Lot.id T.u9 x) k))) ?_ ?_ ?_ ?_
  ·exact⟨fR,fR1 g4,fR1 g1,⟨_,fR1 g3,hb.start⟩,rfl⟩
  ·clear g3 hb b;rintro j fr τ hj ⟨h5,h4,g1,⟨b,g3,hb⟩,rfl⟩;have hc:=L9 hj;cases b with
   | false=>
     refine gS1 (aI h5 (aI h4 (aI g1 (aI g3 hc)))) ?_;exact⟨fR,fR1 h4,fR1 g1,⟨_,fR,hb.fs⟩,by trivial⟩
   | true=>
     obtain⟨y,hy⟩:=H5 (show j<T.u9.length by omega);obtain⟨-,n1,-⟩:=l2 j y hy;cases dn:decide (y.id=x.id)with
     | true=>
       refine gS1 (aI h5 (aI h4 (aI g1 (aI g3 (aI hc (aI w1 (aI s1 (aI w2 (aI m1 (aI n1 dn)))))))))) ?_;exact⟨fR,fR1 h4,fR1 g1,⟨_,fR,hb.dup hy (z6z dn)⟩,by trivial⟩
     | false=>
       refine gS1 (aI h5 (aI h4 (aI g1 (aI g3 (aI hc (aI w1 (aI s1 (aI w2 (aI m1 (aI n1 dn)))))))))) ?_;exact⟨fR,fR1 h4,fR1 g1,⟨_,fR,hb.new hy (z9z dn)⟩,by trivial⟩
  ·clear g3 hb b;rintro fr τ ⟨h5,h4,g1,⟨b,g3,hb⟩,rfl⟩;refine gS1 (aI h5 h4) ?_;exact⟨_,rfl,fR1 h4,fR1 g1,⟨b,fR1 g3,hb⟩⟩
  clear g3 hb b;rintro r ⟨fr,rfl,g4,g1,⟨b,g3,hb⟩⟩;refine gS1 (aI g4 g1) ?_;exact⟨fR,fR1 g1,⟨b,fR1 g3,hb.nd hX hx⟩,hE⟩
 ·rintro fr Z' ⟨g4,g1,⟨b,g3,hb⟩,hE⟩;have w1:Z'.row Z.n=some ca:=eT (hE.row (by simp)) cL;refine gS1 (aI g4 (aI g1 (aI w1 s1))) ?_;exact⟨_,_,rfl,fR1 g1,⟨b,fR1 g3,hb⟩,hE⟩
 rintro r ⟨fr,Z',rfl,g1,⟨b,g3,hb⟩,hE⟩;refine gS ?_
 refine I4 T.G9.length (fun k fr Z'=>fr.get 6=some (.int .i64 k)/\fr.get 1=some (.pointer (some ⟨Z.n,0,none⟩))/\(∃ b,fr.get 3=some (.bool b)/\Bi b (A2 T k))/\Ext (Z.new ca) Z')
  (fun r=>∃ fr Z',r=⟨.exit 4,fr,Z'⟩/\fr.get 1=some (.pointer (some ⟨Z.n,0,none⟩))/\(∃ b,fr.get 3=some (.bool b)/\Bi b (A2 T T.G9.length))/\Ext (Z.new ca) Z') ?_ ?_ ?_ ?_
 ·exact⟨fR,fR1 g1,⟨b,fR1 g3,hb.start⟩,hE⟩
 ·clear g1 g3 hE hb b fr;rintro k fr Z' hk ⟨g4,g1,⟨b,g3,hb⟩,hE⟩;have hc:=L9 hk;have w1:Z'.row Z.n=some ca:=eT (hE.row (by simp)) cL;have hEn:=hE.n;simp only[F6]at hEn;have hE0:Ext Z Z':=E0.trans hE;obtain⟨x,hx⟩:=H5 hk;obtain⟨sp,rfl,l3,l4⟩:=c1 om;have w2:=eT (hE0.row l3) l4;obtain⟨m0,m1,-⟩:=c2 k x hx;unfold Bz.row at m0;refine gS1 (aI g4 (aI g1 (aI g3 (aI hc (aI w1 (aI s2 (aI w2 m0))))))) ?_;obtain⟨S,hS⟩:=nm (((Z'.new [str [],.int .i64 0,.int .i64 0,.int .i64 0,.bool false] (some 57)).upd Z'.n [str x.name,.int .i64 x.kind,.int .i64 x.low,.int .i64 x.high,.bool x.less]));rw[hS];have E1:Ext Z' S:=by rw[<- hS];exact eX
  have wS:S.row Z'.n=some [str x.name,.int .i64 x.kind,.int .i64 x.low,.int .i64 x.high,.bool x.less]:=by rw[<- hS];exact cL
  have w1:=eT (E1.row om) w1;have w2:=eT (E1.row om) w2;obtain⟨X,hX⟩:∃ X:Prop,X=(A2 T k/\AB8 x):=⟨_,rfl⟩
  refine JH (fun r=>∃ fr',r=⟨.normal,fr',S⟩/\fr'.get 6=some (.int .i64 k)/\fr'.get 1=some (.pointer (some ⟨Z.n,0,none⟩))/\fr'.get 7=some (.pointer (some ⟨Z'.n,0,none⟩))/\∃ b,fr'.get 3=some (.bool b)/\Bi b X) ?_ ?_
  ·rw[hX];cases b with
   | false=>
     refine gS ?_;exact⟨_,rfl,fR1 g4,fR1 g1,fR,_,fR,hb.f1⟩
   |true=>
   refine gS1 wS ?_;refine LG.mono ?_;rintro r rfl;rw[NM];cases q1:Ei x.name with
   | false=>
     refine gS ?_;exact⟨_,rfl,fR1 g4,fR1 g1,fR,_,fR,hb.t (Bi.w q1).f1⟩
   |true=>
   refine gS1 wS ?_;refine Bx.mono ?_;rintro r ⟨b1,rfl,hb1⟩;cases b1 with
   | false=>
     refine gS ?_;exact⟨_,rfl,fR1 g4,fR1 g1,fR,_,fR,hb.t ((Bi.w q1).t hb1.f1)⟩
   |true=>
   refine gS1 wS ?_;refine Bx.mono ?_;rintro r ⟨b2,rfl,hb2⟩;cases b2 with
   | false=>
     refine gS ?_;exact⟨_,rfl,fR1 g4,fR1 g1,fR,_,fR,hb.t ((Bi.w q1).t (hb1.t hb2.f1))⟩
   |true=>
   refine gS1 wS ?_;cases q2:decide (x.kind=1)with
   | true=>
     refine gS1 (aI wS q2) ?_;exact⟨_,rfl,fR1 g4,fR1 g1,fR,_,fR,hb.t ((Bi.w q1).t (hb1.t (hb2.t (Bi.or1 q2))))⟩
   | false=>
     refine gS1 (aI wS q2) ?_;exact⟨_,rfl,fR1 g4,fR1 g1,fR,_,fR,hb.t ((Bi.w q1).t (hb1.t (hb2.t (Bi.or2 q2))))⟩
  clear g4 g1 g3 hb b;rintro r ⟨fr,rfl,g4,g1,g7,b,g3,hb⟩;refine gS ?_
  refine I4 k (fun j fr τ=>fr.get 8=some (.int .i64 j)/\fr.get 6=some (.int .i64 k)/\fr.get 1=some (.pointer (some ⟨Z.n,0,none⟩))/\fr.get 7=some (.pointer (some ⟨Z'.n,0,none⟩))/\(∃ b,fr.get 3=some (.bool b)/\Bi b (X/\UpT (DF Bz.name T.G9 x) j))/\τ=S)
   (fun r=>∃ fr,r=⟨.exit 6,fr,S⟩/\fr.get 6=some (.int .i64 k)/\fr.get 1=some (.pointer (some ⟨Z.n,0,none⟩))/\fr.get 7=some (.pointer (some ⟨Z'.n,0,none⟩))/\(∃ b,fr.get 3=some (.bool b)/\Bi b (X/\UpT (DF Bz.name T.G9 x) k))) ?_ ?_ ?_ ?_
  ·exact⟨fR,fR1 g4,fR1 g1,fR1 g7,⟨_,fR1 g3,hb.start⟩,rfl⟩
  ·clear g3 hb b;rintro j fr τ hj ⟨h5,h4,g1,g7,⟨b,g3,hb⟩,rfl⟩;have hc:=L9 hj;cases b with
   | false=>
     refine gS1 (aI h5 (aI h4 (aI g1 (aI g3 hc)))) ?_;exact⟨fR,fR1 h4,fR1 g1,fR1 g7,⟨_,fR,hb.fs⟩,by trivial⟩
   | true=>
     obtain⟨y,hy⟩:=H5 (show j<T.G9.length by omega);obtain⟨-,n1,-⟩:=c2 j y hy;cases dn:decide (y.name=x.name)with
     | true=>
       refine gS1 (aI h5 (aI h4 (aI g1 (aI g3 (aI hc (aI w1 (aI g7 (aI s2 (aI w2 (aI n1 (aI wS dn))))))))))) ?_;exact⟨fR,fR1 h4,fR1 g1,fR1 g7,⟨_,fR,hb.dup hy (z6z dn)⟩,by trivial⟩
     | false=>
       refine gS1 (aI h5 (aI h4 (aI g1 (aI g3 (aI hc (aI w1 (aI g7 (aI s2 (aI w2 (aI n1 (aI wS dn))))))))))) ?_;exact⟨fR,fR1 h4,fR1 g1,fR1 g7,⟨_,fR,hb.new hy (z9z dn)⟩,by trivial⟩
  ·clear g3 hb b;rintro fr τ ⟨h5,h4,g1,g7,⟨b,g3,hb⟩,rfl⟩;refine gS1 (aI h5 h4) ?_;exact⟨_,rfl,fR1 h4,fR1 g1,fR1 g7,⟨b,fR1 g3,hb⟩⟩
  clear g3 hb b;rintro r ⟨fr,rfl,g4,g1,g7,⟨b,g3,hb⟩⟩;refine gS1 (aI g4 g1) ?_;exact⟨fR,fR1 g1,⟨b,fR1 g3,hb.nd hX hx⟩,hE.trans E1⟩
 ·rintro fr Z' ⟨g4,g1,⟨b,g3,hb⟩,hE⟩;have w1:Z'.row Z.n=some ca:=eT (hE.row (by simp)) cL;refine gS1 (aI g4 (aI g1 (aI w1 s2))) ?_;exact⟨_,_,rfl,fR1 g1,⟨b,fR1 g3,hb⟩,hE⟩
 rintro r ⟨fr,Z',rfl,g1,⟨b,g3,hb⟩,hE⟩;refine gS ?_
 refine I4 T.reqs.length (fun k fr Z'=>fr.get 9=some (.int .i64 k)/\fr.get 1=some (.pointer (some ⟨Z.n,0,none⟩))/\(∃ b,fr.get 3=some (.bool b)/\Bi b (A3 T k))/\Ext (Z.new ca) Z')
  (fun r=>∃ fr Z',r=⟨.exit 8,fr,Z'⟩/\fr.get 1=some (.pointer (some ⟨Z.n,0,none⟩))/\(∃ b,fr.get 3=some (.bool b)/\Bi b (A3 T T.reqs.length))/\Ext (Z.new ca) Z') ?_ ?_ ?_ ?_
 ·exact⟨fR,fR1 g1,⟨b,fR1 g3,hb.start⟩,hE⟩
 ·clear g1 g3 hE hb b fr;rintro k fr Z' hk ⟨g4,g1,⟨b,g3,hb⟩,hE⟩;have hc:=L9 hk;have w1:Z'.row Z.n=some ca:=eT (hE.row (by simp)) cL;have hEn:=hE.n;simp only[F6]at hEn;have hE0:Ext Z Z':=E0.trans hE;obtain⟨x,hx⟩:=H5 hk;obtain⟨sp,rfl,l3,l4⟩:=r1 om;have w2:=eT (hE0.row l3) l4;obtain⟨m0,m1,-⟩:=r2 k x hx;unfold Req.row at m0;refine gS1 (aI g4 (aI g1 (aI g3 (aI hc (aI w1 (aI s3 (aI w2 m0))))))) ?_;obtain⟨S,hS⟩:=nm (((Z'.new [str [],str [],.int .i64 0] (some 61)).upd Z'.n [str x.name,str x.rel,.int .i64 x.value]));rw[hS];have E1:Ext Z' S:=by rw[<- hS];exact eX
  have wS:S.row Z'.n=some [str x.name,str x.rel,.int .i64 x.value]:=by rw[<- hS];exact cL
  refine JH (fun r=>∃ fr',r=⟨.normal,fr',S⟩/\fr'.get 9=some (.int .i64 k)/\fr'.get 1=some (.pointer (some ⟨Z.n,0,none⟩))/\∃ b,fr'.get 3=some (.bool b)/\Bi b (A3 T k/\Af0 x)) ?_ ?_
  ·cases b with
   | false=>
     refine gS ?_;exact⟨_,rfl,fR1 g4,fR1 g1,_,fR,hb.f1⟩
   |true=>
   refine gS1 wS ?_;refine LG.mono ?_;rintro r rfl;rw[NM];cases q1:Ei x.name with
   | false=>
     refine gS ?_;exact⟨_,rfl,fR1 g4,fR1 g1,_,fR,hb.t (Bi.w q1).f1⟩
   |true=>
   refine gS1 wS ?_;refine Bx.mono ?_;rintro r ⟨b1,rfl,hb1⟩;cases b1 with
   | false=>
     refine gS ?_;exact⟨_,rfl,fR1 g4,fR1 g1,_,fR,hb.t ((Bi.w q1).t hb1.f1)⟩
   |true=>
   refine gS1 wS ?_;cases q2:decide (x.rel=[60,61])with
   | true=>
     refine gS1 (aI wS q2) ?_;exact⟨_,rfl,fR1 g4,fR1 g1,_,fR,hb.t ((Bi.w q1).t (hb1.t (Bi.or1 q2)))⟩
   | false=>
     refine gS1 (aI wS q2) ?_;exact⟨_,rfl,fR1 g4,fR1 g1,_,fR,hb.t ((Bi.w q1).t (hb1.t (Bi.or2 q2)))⟩
  clear g4 g1 g3 hb b;rintro r ⟨fr,rfl,g4,g1,b,g3,hb⟩;refine gS1 g4 ?_;exact⟨fR,fR1 g1,⟨b,fR1 g3,hb.el hx⟩,hE.trans E1⟩
 ·rintro fr Z' ⟨g4,g1,⟨b,g3,hb⟩,hE⟩;have w1:Z'.row Z.n=some ca:=eT (hE.row (by simp)) cL;refine gS1 (aI g4 (aI g1 (aI w1 s3))) ?_;exact⟨_,_,rfl,fR1 g1,⟨b,fR1 g3,hb⟩,hE⟩
 rintro r ⟨fr,Z',rfl,g1,⟨b,g3,hb⟩,hE⟩;refine gS ?_
 refine I4 T.AJ.length (fun k fr Z'=>fr.get 11=some (.int .i64 k)/\fr.get 1=some (.pointer (some ⟨Z.n,0,none⟩))/\(∃ b,fr.get 3=some (.bool b)/\Bi b (A4 T k))/\Ext (Z.new ca) Z')
  (fun r=>∃ fr Z',r=⟨.exit 10,fr,Z'⟩/\fr.get 1=some (.pointer (some ⟨Z.n,0,none⟩))/\(∃ b,fr.get 3=some (.bool b)/\Bi b (A4 T T.AJ.length))/\Ext (Z.new ca) Z') ?_ ?_ ?_ ?_
 ·exact⟨fR,fR1 g1,⟨b,fR1 g3,hb.start⟩,hE⟩
 ·clear g1 g3 hE hb b fr;rintro k fr Z' hk ⟨g4,g1,⟨b,g3,hb⟩,hE⟩;have hc:=L9 hk;have w1:Z'.row Z.n=some ca:=eT (hE.row (by simp)) cL;have hEn:=hE.n;simp only[F6]at hEn;have hE0:Ext Z Z':=E0.trans hE;obtain⟨x,hx⟩:=H5 hk;obtain⟨sp,rfl,l3,l4⟩:=t1 om;have w2:=eT (hE0.row l3) l4;have m1:=t2 k x hx;refine gS1 (aI g4 (aI g1 (aI g3 (aI hc (aI w1 s7))))) ?_;obtain⟨S,hS⟩:=nm Z';rw[hS]at w1 w2 hE hE0 ⊢;obtain⟨X,hX⟩:∃ X:Prop,X=(A4 T k/\Af1 x):=⟨_,rfl⟩
  refine JH (fun r=>∃ fr',r=⟨.normal,fr',S⟩/\fr'.get 11=some (.int .i64 k)/\fr'.get 1=some (.pointer (some ⟨Z.n,0,none⟩))/\∃ b,fr'.get 3=some (.bool b)/\Bi b X) ?_ ?_
  ·rw[hX];cases b with
   | false=>
     refine gS1 (aI g4 (aI g1 g3)) ?_;exact⟨_,rfl,fR1 g4,fR1 g1,_,fR,hb.f1⟩
   |true=>
   cases q2:decide (x=[112,114,105,99,101])with
   | true=>
     refine gS1 (aI g4 (aI g1 (aI g3 (aI w1 (aI s7 (aI w2 (aI m1 q2))))))) ?_;exact⟨_,rfl,fR1 g4,fR1 g1,_,fR,hb.t (Bi.yes (.inl (z6z q2)))⟩
   | false=>
     refine gS1 (aI g4 (aI g1 (aI g3 (aI w1 (aI s7 (aI w2 (aI m1 q2))))))) ?_;refine LG.mono ?_;rintro r rfl;rw[NM];refine gS ?_;exact⟨_,rfl,fR1 g4,fR1 g1,_,fR,hb.t (Bi.mk (fun h=> .inr h) (fun h=>h.resolve_left (z9z q2)))⟩
  clear g4 g1 g3 hb b;rintro r ⟨fr,rfl,g4,g1,b,g3,hb⟩;refine gS ?_
  refine I4 k (fun j fr τ=>fr.get 12=some (.int .i64 j)/\fr.get 11=some (.int .i64 k)/\fr.get 1=some (.pointer (some ⟨Z.n,0,none⟩))/\(∃ b,fr.get 3=some (.bool b)/\Bi b (X/\UpT (DF id T.AJ x) j))/\τ=S)
   (fun r=>∃ fr,r=⟨.exit 12,fr,S⟩/\fr.get 11=some (.int .i64 k)/\fr.get 1=some (.pointer (some ⟨Z.n,0,none⟩))/\(∃ b,fr.get 3=some (.bool b)/\Bi b (X/\UpT (DF id T.AJ x) k))) ?_ ?_ ?_ ?_
  ·exact⟨fR,fR1 g4,fR1 g1,⟨_,fR1 g3,hb.start⟩,rfl⟩
  ·clear g3 hb b;rintro j fr τ hj ⟨h5,h4,g1,⟨b,g3,hb⟩,rfl⟩;have hc:=L9 hj;cases b with
   | false=>
     refine gS1 (aI h5 (aI h4 (aI g1 (aI g3 hc)))) ?_;exact⟨fR,fR1 h4,fR1 g1,⟨_,fR,hb.fs⟩,by trivial⟩
   | true=>
     obtain⟨y,hy⟩:=H5 (show j<T.AJ.length by omega);have n1:=t2 j y hy;cases dn:decide (y=x)with
     | true=>
       refine gS1 (aI h5 (aI h4 (aI g1 (aI g3 (aI hc (aI w1 (aI s7 (aI w2 (aI n1 (aI m1 dn)))))))))) ?_;exact⟨fR,fR1 h4,fR1 g1,⟨_,fR,hb.dup hy (z6z dn)⟩,by trivial⟩
     | false=>
       refine gS1 (aI h5 (aI h4 (aI g1 (aI g3 (aI hc (aI w1 (aI s7 (aI w2 (aI n1 (aI m1 dn)))))))))) ?_;exact⟨fR,fR1 h4,fR1 g1,⟨_,fR,hb.new hy (z9z dn)⟩,by trivial⟩
  ·clear g3 hb b;rintro fr τ ⟨h5,h4,g1,⟨b,g3,hb⟩,rfl⟩;refine gS1 (aI h5 h4) ?_;exact⟨_,rfl,fR1 h4,fR1 g1,⟨b,fR1 g3,hb⟩⟩
  clear g3 hb b;rintro r ⟨fr,rfl,g4,g1,⟨b,g3,hb⟩⟩;refine gS1 (aI g4 g1) ?_;exact⟨fR,fR1 g1,⟨b,fR1 g3,hb.nd hX hx⟩,hE⟩
 ·rintro fr Z' ⟨g4,g1,⟨b,g3,hb⟩,hE⟩;have w1:Z'.row Z.n=some ca:=eT (hE.row (by simp)) cL;refine gS1 (aI g4 (aI g1 (aI w1 s7))) ?_;exact⟨_,_,rfl,fR1 g1,⟨b,fR1 g3,hb⟩,hE⟩
 rintro r ⟨fr,Z',rfl,g1,⟨b,g3,hb⟩,hE⟩;refine gS ?_
 refine I4 vs.length (fun k fr Z'=>fr.get 13=some (.int .i64 k)/\fr.get 1=some (.pointer (some ⟨Z.n,0,none⟩))/\(∃ b,fr.get 3=some (.bool b)/\Bi b (A5 T k))/\Ext (Z.new ca) Z')
  (fun r=>∃ fr Z',r=⟨.exit 14,fr,Z'⟩/\fr.get 1=some (.pointer (some ⟨Z.n,0,none⟩))/\(∃ b,fr.get 3=some (.bool b)/\Bi b (A5 T T.J9.length))/\Ext (Z.new ca) Z') ?_ ?_ ?_ ?_
 ·exact⟨fR,fR1 g1,⟨b,fR1 g3,hb.start⟩,hE⟩
 ·clear g1 g3 hE hb b fr;rintro k fr Z' hk ⟨g4,g1,⟨b,g3,hb⟩,hE⟩;have hc:=L9 hk;have w1:Z'.row Z.n=some ca:=eT (hE.row (by simp)) cL;have hEn:=hE.n;simp only[F6]at hEn;have hE0:Ext Z Z':=E0.trans hE;obtain⟨x',hx'⟩:=H5 hk;obtain⟨C,hx⟩:=H5 (show k<T.J9.length by omega);obtain⟨ia,ic,ib,io,ics,rfl,i1,i2⟩:=(h8.get hx' hx).use;have LC:=hC C (Bs hx);obtain⟨sp,rfl,l3,l4⟩:=k1 om;have w2:=eT (hE0.row l3) l4;have m1:=k2 k _ hx';rw[MH]at m1;have q3:decide (12<(C.length:Int))=false:=dF;refine gS1 (aI g4 (aI g1 (aI g3 (aI hc (aI w1 (aI s9 (aI w2 m1))))))) ?_;obtain⟨S,hS⟩:=nm Z';rw[hS]at w1 w2 hE hE0 ⊢;obtain⟨Y,hY⟩:∃ Y:Prop,Y=(A5 T k/\2<=C.length):=⟨_,rfl⟩
  refine JH (fun r=>∃ fr',r=⟨.normal,fr',S⟩/\fr'.get 13=some (.int .i64 k)/\fr'.get 1=some (.pointer (some ⟨Z.n,0,none⟩))/\fr'.get 14=some (.slice ia C.length ic)/\∃ b,fr'.get 3=some (.bool b)/\Bi b Y) ?_ ?_
  ·rw[hY];cases b with
   | false=>
     refine gS ?_;exact⟨_,rfl,fR1 g4,fR1 g1,fR,_,fR,hb.f1⟩
   |true=>
   refine gS ?_;cases q2:decide ((C.length:Int)<2)with
   | true=>
     refine gS1 q2 ?_;exact⟨_,rfl,fR1 g4,fR1 g1,fR,_,fR,hb.t (Bi.no fun h=>by have:=z6z q2;omega)⟩
   | false=>
     refine gS1 (aI q2 q3) ?_;exact⟨_,rfl,fR1 g4,fR1 g1,fR,_,fR,hb.t (Bi.yes (by have:=z9z q2;omega))⟩
  clear g4 g1 g3 hb b;rintro r ⟨fr,rfl,g4,g1,g14,b,g3,hb⟩;refine gS ?_
  refine I4 C.length (fun i fr τ=>fr.get 15=some (.int .i64 i)/\fr.get 13=some (.int .i64 k)/\fr.get 1=some (.pointer (some ⟨Z.n,0,none⟩))/\fr.get 14=some (.slice ia C.length ic)/\(∃ b,fr.get 3=some (.bool b)/\Bi b (Y/\UpT (ND (SmB 1) id C) i))/\τ=S)
   (fun r=>∃ fr,r=⟨.exit 16,fr,S⟩/\fr.get 13=some (.int .i64 k)/\fr.get 1=some (.pointer (some ⟨Z.n,0,none⟩))/\(∃ b,fr.get 3=some (.bool b)/\Bi b (Y/\UpT (ND (SmB 1) id C) C.length))) ?_ ?_ ?_ ?_
  ·exact⟨fR,fR1 g4,fR1 g1,fR1 g14,⟨b,fR1 g3,hb.start⟩,rfl⟩
  ·clear g4 g1 g3 g14 hb b fr;rintro i fr τ hi ⟨g15,g13,g1,g14,⟨b,g3,hb⟩,rfl⟩;have hc:=L9 hi;obtain⟨x,hxi⟩:=H5 hi;obtain⟨sp,rfl,l3,l4⟩:=i1 om;have w3:=eT (hE0.row l3) l4;have n1:=i2 i x hxi;refine gS1 (aI g15 (aI g14 (aI hc g3))) ?_;obtain⟨S,hS⟩:=nm τ;rw[hS]at w1 w2 w3 hE hE0 ⊢;obtain⟨X,hX⟩:∃ X:Prop,X=((Y/\UpT (ND (SmB 1) id C) i)/\SmB 1 x):=⟨_,rfl⟩
   refine JH (fun r=>∃ fr',r=⟨.normal,fr',S⟩/\fr'.get 15=some (.int .i64 i)/\fr'.get 13=some (.int .i64 k)/\fr'.get 1=some (.pointer (some ⟨Z.n,0,none⟩))/\fr'.get 14=some (.slice (some ⟨ib,io,sp⟩) C.length ic)/\∃ b,fr'.get 3=some (.bool b)/\Bi b X) ?_ ?_
   ·rw[hX];cases b with
    | false=>
      refine gS1 g3 ?_;exact⟨_,rfl,fR1 g15,fR1 g13,fR1 g1,fR1 g14,_,fR,hb.f1⟩
    |true=>
    refine gS1 (aI g15 (aI g14 (aI w3 n1))) ?_;refine Bx.mono ?_;rintro r ⟨b1,rfl,hb1⟩;refine gS1 g3 ?_;exact⟨_,rfl,fR1 g15,fR1 g13,fR1 g1,fR1 g14,_,fR,hb.t hb1⟩
   clear g15 g13 g14 g1 g3 hb b fr;rintro r ⟨fr,rfl,g15,g13,g1,g14,b,g3,hb⟩;refine gS ?_
   refine I4 i (fun j fr τ=>fr.get 16=some (.int .i64 j)/\fr.get 15=some (.int .i64 i)/\fr.get 13=some (.int .i64 k)/\fr.get 1=some (.pointer (some ⟨Z.n,0,none⟩))/\fr.get 14=some (.slice (some ⟨ib,io,sp⟩) C.length ic)/\(∃ b,fr.get 3=some (.bool b)/\Bi b (X/\UpT (DF id C x) j))/\τ=S)
    (fun r=>∃ fr,r=⟨.exit 18,fr,S⟩/\fr.get 15=some (.int .i64 i)/\fr.get 13=some (.int .i64 k)/\fr.get 1=some (.pointer (some ⟨Z.n,0,none⟩))/\fr.get 14=some (.slice (some ⟨ib,io,sp⟩) C.length ic)/\(∃ b,fr.get 3=some (.bool b)/\Bi b (X/\UpT (DF id C x) i))) ?_ ?_ ?_ ?_
   ·exact⟨fR,fR1 g15,fR1 g13,fR1 g1,fR1 g14,⟨b,fR1 g3,hb.start⟩,rfl⟩
   ·clear g15 g13 g14 g1 g3 hb b fr;rintro j fr τ hj ⟨g16,g15,g13,g1,g14,⟨b,g3,hb⟩,rfl⟩;have hc:=L9 hj;obtain⟨y,hy⟩:=H5 (show j<C.length by omega);have n2:=i2 j y hy;cases b with
    | false=>
      refine gS1 (aI g16 (aI g15 (aI g13 (aI g1 (aI g14 (aI g3 hc)))))) ?_;exact⟨fR,fR1 g15,fR1 g13,fR1 g1,fR1 g14,⟨_,fR,hb.fs⟩,by trivial⟩
    | true=>
      cases dn:decide (y=x)with
      | true=>
        refine gS1 (aI g16 (aI g15 (aI g13 (aI g1 (aI g14 (aI g3 (aI hc (aI w3 (aI n1 (aI n2 dn)))))))))) ?_;exact⟨fR,fR1 g15,fR1 g13,fR1 g1,fR1 g14,⟨_,fR,hb.dup hy (z6z dn)⟩,by trivial⟩
      | false=>
        refine gS1 (aI g16 (aI g15 (aI g13 (aI g1 (aI g14 (aI g3 (aI hc (aI w3 (aI n1 (aI n2 dn)))))))))) ?_;exact⟨fR,fR1 g15,fR1 g13,fR1 g1,fR1 g14,⟨_,fR,hb.new hy (z9z dn)⟩,by trivial⟩
   ·clear g15 g13 g14 g1 g3 hb b;rintro fr τ ⟨g16,g15,g13,g1,g14,⟨b,g3,hb⟩,rfl⟩;refine gS1 (aI g16 g15) ?_;exact⟨_,rfl,fR1 g15,fR1 g13,fR1 g1,fR1 g14,⟨b,fR1 g3,hb⟩⟩
   clear g15 g13 g14 g1 g3 hb b fr;rintro r ⟨fr,rfl,g15,g13,g1,g14,⟨b,g3,hb⟩⟩;refine gS1 g15 ?_;exact⟨fR,fR1 g13,fR1 g1,fR1 g14,⟨b,fR1 g3,hb.nd hX hxi⟩,by trivial⟩
  ·clear g4 g1 g3 g14 hb b fr;rintro fr τ ⟨g15,g13,g1,g14,⟨b,g3,hb⟩,rfl⟩;refine gS1 (aI g15 g14) ?_;exact⟨_,rfl,fR1 g13,fR1 g1,⟨b,fR1 g3,hb⟩⟩
  clear g4 g1 g3 g14 hb b fr;rintro r ⟨fr,rfl,g4,g1,⟨b,g3,hb⟩⟩;refine gS1 g4 ?_;exact⟨fR,fR1 g1,⟨b,fR1 g3,hb.cmb hY hx⟩,hE⟩
 ·rintro fr Z' ⟨g4,g1,⟨b,g3,hb⟩,hE⟩;have w1:Z'.row Z.n=some ca:=eT (hE.row (by simp)) cL;refine gS1 (aI g4 (aI g1 (aI w1 s9))) ?_;exact⟨_,_,rfl,fR1 g1,⟨b,fR1 g3,(L6 ▸ hb)⟩,hE⟩
 rintro r ⟨fr,Z',rfl,g1,⟨b,g3,hb⟩,hE⟩;refine gS ?_;refine gS1 (aI g3 @Tryz.results122) ?_;exact⟨b,_,rfl,E0.trans hE,hb.trans (uu L0 L1 L2 L3 L4 om)⟩
end Go.Proofs.T
