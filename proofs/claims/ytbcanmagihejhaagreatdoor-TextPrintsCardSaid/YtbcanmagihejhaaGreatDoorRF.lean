/- The G2 Pk of a Pl lists, of Ag of any kind. -/
import Derived.Test.YtbcanmagihejhaaGreatDoorSA
set_option linter.unusedSimpArgs false
set_option linter.unusedVariables false
set_option linter.defProp false
set_option maxHeartbeats 32000000
set_option maxRecDepth 100000
namespace Go.Proofs.T
open Go Go.Ab
open Nat (reduceMul reduceEqDiff reduceAdd)
def LJ {b:Type}{c:Bool}{x y:Option b}{Q:b->Prop}{u v:Hd Q}{w:Hd fun z:Bool=>cond z (Ev x Q u) (Ev y Q v)}(J:b->Prop) (h:Br c (Ev x J ⟨⟩) (Ev y J ⟨⟩) ⟨⟩) (k:∀ a,J a->Q a):Br c (Ev x Q u) (Ev y Q v) w :=
 ⟨fun e=>(h.1 e).mono k,fun e=>(h.2 e).mono k⟩
def CE {Z:St}{n m:Int}:Ev (gO 59 [.int .i64 n,.int .i64 m] Z) (fun r=>∃ b,r=⟨false,.bool b,Z⟩/\Bi b (SmB m n)) ⟨⟩:=by
 refine G1 Tryz.func59 rfl rfl ?_;cases a:decide (n<m)with
 | true=>
   refine gS1 (aI a (a3N @H7 @I0 @Tryz.results59)) ?_;exact⟨_,rfl,Bi.no fun h=>by have:=z6z a;have:=h.1;omega⟩
 | false=>
   cases b:decide (1000000000<n)with
   | true=>
     refine gS1 (aI a (aI b (a3N @H7 @I0 @Tryz.results59))) ?_;exact⟨_,rfl,Bi.no fun h=>by have:=z6z b;have:=h.2;omega⟩
   | false=>
     refine gS1 (aI a (aI b (a3N @H7 @I0 @Tryz.results59))) ?_;exact⟨_,rfl,Bi.yes ⟨by have:=z9z a;omega,by have:=z9z b;omega⟩⟩
def NT {s:By}:NU s=R4 s:=by
 cases h:R4 s with
 |true=>exact mh h
 | false=>
   unfold R4 at h;unfold NU;rw[MH];cases d:W0 s with
   |false=>rfl
   | true=>
     rw[d,Bx]at h;unfold LK at h;simp at h;simp;intro a b c;exact h a b c
def Wb {Z:St}{ca:List Value}{T:Tn}(hT:Bj Z ca T) (hC:∀ c∈T.C8,c.length<=12):Ev (gO 58 [.agg ⟨ca⟩] Z) (fun r=>∃ b Z',r=⟨false,.bool b,Z'⟩/\Ext Z Z'/\Bi b (LsT T)) ⟨⟩:=by
 obtain⟨vl,vc,vr,ex,vt,vk,hp,h2,h3,o,B,h6,vs,h7,h8⟩:=hT.parts;obtain⟨la,lc,lb,lo,lcs,rfl,l1,l2⟩:=h2.use;obtain⟨ca',cc,cb,co,ccs,rfl,c1,c2⟩:=h3.use;obtain⟨ra,rc,rb,ro,rcs,rfl,r1,r2⟩:=o.use;obtain⟨ta,tc,tb,to',tcs,rfl,t1,t2⟩:=h6.use;obtain⟨ka,kc,kb,ko,kcs,rfl,k1,k2⟩:=SL.SU h7;have a2:=hp.all;have L6:=h8.len;have G:=hp.p1;have Q:=hp.p2;have s3:=hp.p3;have R:=hp.p11;have s9:=hp.p13;refine G1 Tryz.func58 rfl rfl ?_;refine gS1 (aI a2 G) ?_;have W:Ext Z (Z.new ca):=eX;have fin:¬ LsT T->∃ b' Z',(⟨false,.bool false,Z.new ca⟩:CR)=⟨false,.bool b',Z'⟩/\Ext Z Z'/\Bi b' (LsT T):=fun h=>⟨_,_,rfl,W,Bi.no h⟩
 cases O:decide ((T.F9.length:Int)<1)
 case true=>refine gS1 (aI O (a3N @H7 @I0 @Tryz.results58)) ?_;exact fin fun h=>by have:=z6z O;have:=h.n0;omega
 cases U:decide (12<(T.F9.length:Int))
 case true=>refine gS1 (aI O (aI U (aI G (a3N @H7 @I0 @Tryz.results58)))) ?_;exact fin fun h=>by have:=z6z U;have:=h.n1;omega
 cases V:decide (12<(T.E9.length:Int))
 case true=>refine gS1 (aI O (aI U (aI V (aI G (aI Q (a3N @H7 @I0 @Tryz.results58)))))) ?_;exact fin fun h=>by have:=z6z V;have:=h.n2;omega
 cases z4:decide (24<(T.reqs.length:Int))
 case true=>refine gS1 (aI O (aI U (aI V (aI z4 (aI G (aI Q (aI s3 (a3N @H7 @I0 @Tryz.results58)))))))) ?_;exact fin fun h=>by have:=z6z z4;have:=h.n3;omega
 cases z5:decide (12<(T.H2.length:Int))
 case true=>simp(maxSteps:=8000000) (disch:=first|exact dS|fail) only[↓bD,bW,reduceMul,reduceEqDiff,reduceAdd,Nat.reduceBEq,reduceIte,Option.isNone_none,O,U,V,z4,z5,G,Q,s3,R,H7,I0,Tryz.results58];exact fin fun h=>by have:=z6z z5;have:=h.n4;omega
 cases z6:decide (12<(vs.length:Int))
 case true=>simp(maxSteps:=8000000) (disch:=first|exact dS|fail) only[↓bD,bW,reduceMul,reduceEqDiff,reduceAdd,Nat.reduceBEq,reduceIte,Option.isNone_none,O,U,V,z4,z5,z6,G,Q,s3,R,s9,H7,I0,Tryz.results58];exact fin fun h=>by have:=z6z z6;have:=h.n5;omega
 simp(maxSteps:=8000000) (disch:=first|exact dS|fail) only[↓bD,bW,reduceMul,reduceEqDiff,reduceAdd,Nat.reduceBEq,reduceIte,Option.isNone_none,O,U,V,z4,z5,z6,G,Q,s3,R,s9,H7,I0];have L0:1<=T.F9.length:=by have:=z9z O;omega
 have L1:T.F9.length<=12:=by have:=z9z U;omega
 have L2:T.E9.length<=12:=by have:=z9z V;omega
 have L3:T.reqs.length<=24:=by have:=z9z z4;omega
 have L4:T.H2.length<=12:=by have:=z9z z5;omega
 have L5:vs.length<=12:=by have:=z9z z6;omega
 clear O U V z4 z5 z6 fin
 refine I9 T.F9.length (fun k fr Z'=>fr.get 4=some (.int .i64 k)/\fr.get 1=some (.pointer (some ⟨Z.n,0,none⟩))/\(∃ b,fr.get 3=some (.bool b)/\Bi b (A1 T k))/\Ext (Z.new ca) Z')
  (fun r=>∃ fr Z',r=⟨.exit 0,fr,Z'⟩/\fr.get 1=some (.pointer (some ⟨Z.n,0,none⟩))/\(∃ b,fr.get 3=some (.bool b)/\Bi b (A1 T T.F9.length))/\Ext (Z.new ca) Z') ?_ ?_ ?_ ?_
 ·exact⟨fR,fR,⟨_,fR,Bi.yes ⟨trivial,up0⟩⟩,.refl _⟩
 ·skip
  rintro k fr Z' H ⟨g4,a,⟨b,g3,d⟩,f⟩;have s:=M3 H;have m:Z'.row Z.n=some ca:=eT (f.row (by simp)) cL;have A:=f.n;simp only[K9]at A;have p:Ext Z Z':=W.trans f;obtain⟨x,E⟩:=I3 H;obtain⟨sp,rfl,l3,l4⟩:=l1 om;have u:=eT (p.row l3) l4;obtain⟨-,D,m2⟩:=l2 k x E;obtain⟨S,hS⟩:=nW Z';rw[hS]at m u f p ⊢;refine gS1 (aI g4 (aI a (aI g3 (aI s (aI m G))))) ?_;obtain⟨X,L⟩:∃ X:Prop,X=(A1 T k/\Ad4 x):=⟨_,rfl⟩
  refine LJ (fun r=>∃ fr',r=⟨.normal,fr',S⟩/\fr'.get 4=some (.int .i64 k)/\fr'.get 1=some (.pointer (some ⟨Z.n,0,none⟩))/\∃ b,fr'.get 3=some (.bool b)/\Bi b X) ?_ ?_
  ·rw[L];cases b with
   | false=>
     refine gS1 (aI g4 (aI a g3)) ?_;exact⟨_,rfl,fR1 g4,fR1 a,_,fR,d.f1⟩
   |true=>
   refine gS1 (aI g4 (aI a (aI g3 (aI m (aI G (aI u D)))))) ?_;refine CE.mono ?_;rintro r ⟨b1,rfl,q⟩;cases b1 with
   | false=>
     refine gS1 (aI g4 (aI a (aI g3 (aI m (aI G (aI u D)))))) ?_;exact⟨_,rfl,fR1 g4,fR1 a,_,fR,d.t q.f1⟩
   |true=>
   refine gS1 (aI g4 (aI a (aI g3 (aI m (aI G (aI u (aI D m2))))))) ?_;refine CE.mono ?_;rintro r ⟨b2,rfl,M⟩;refine gS1 (aI g4 (aI a (aI g3 (aI m (aI G (aI u D)))))) ?_;exact⟨_,rfl,fR1 g4,fR1 a,_,fR,d.t (q.t M)⟩
  clear g4 a g3 d b;rintro r ⟨fr,rfl,g4,a,b,g3,d⟩;refine gS ?_
  refine I9 k (fun j fr v=>fr.get 5=some (.int .i64 j)/\fr.get 4=some (.int .i64 k)/\fr.get 1=some (.pointer (some ⟨Z.n,0,none⟩))/\(∃ b,fr.get 3=some (.bool b)/\Bi b (X/\UpT (DF Lot.id T.F9 x) j))/\v=S)
   (fun r=>∃ fr,r=⟨.exit 2,fr,S⟩/\fr.get 4=some (.int .i64 k)/\fr.get 1=some (.pointer (some ⟨Z.n,0,none⟩))/\(∃ b,fr.get 3=some (.bool b)/\Bi b (X/\UpT (DF Lot.id T.F9 x) k))) ?_ ?_ ?_ ?_
  ·exact⟨fR,fR1 g4,fR1 a,⟨_,fR1 g3,d.start⟩,rfl⟩
  ·clear g3 d b;rintro j fr v hj ⟨B,o,a,⟨b,g3,d⟩,rfl⟩;have s:=M3 hj;cases b with
   | false=>
     refine gS1 (aI B (aI o (aI a (aI g3 s)))) ?_;exact⟨fR,fR1 o,fR1 a,⟨_,fR,d.fs⟩,by trivial⟩
   | true=>
     obtain⟨y,F⟩:=I3 (show j<T.F9.length by omega);obtain⟨-,J,-⟩:=l2 j y F;cases z:decide (y.id=x.id)with
     | true=>
       refine gS1 (aI B (aI o (aI a (aI g3 (aI s (aI m (aI G (aI u (aI D (aI J z)))))))))) ?_;exact⟨fR,fR1 o,fR1 a,⟨_,fR,d.dup F (z6z z)⟩,by trivial⟩
     | false=>
       refine gS1 (aI B (aI o (aI a (aI g3 (aI s (aI m (aI G (aI u (aI D (aI J z)))))))))) ?_;exact⟨fR,fR1 o,fR1 a,⟨_,fR,d.new F (z9z z)⟩,by trivial⟩
  ·clear g3 d b;rintro fr v ⟨B,o,a,⟨b,g3,d⟩,rfl⟩;refine gS1 (aI B o) ?_;exact⟨_,rfl,fR1 o,fR1 a,⟨b,fR1 g3,d⟩⟩
  clear g3 d b;rintro r ⟨fr,rfl,g4,a,⟨b,g3,d⟩⟩;refine gS1 (aI g4 a) ?_;exact⟨fR,fR1 a,⟨b,fR1 g3,d.nd L E⟩,f⟩
 ·rintro fr Z' ⟨g4,a,⟨b,g3,d⟩,f⟩;have m:Z'.row Z.n=some ca:=eT (f.row (by simp)) cL;refine gS1 (aI g4 (aI a (aI m G))) ?_;exact⟨_,_,rfl,fR1 a,⟨b,fR1 g3,d⟩,f⟩
 rintro r ⟨fr,Z',rfl,a,⟨b,g3,d⟩,f⟩;refine gS ?_
 refine I9 T.E9.length (fun k fr Z'=>fr.get 6=some (.int .i64 k)/\fr.get 1=some (.pointer (some ⟨Z.n,0,none⟩))/\(∃ b,fr.get 3=some (.bool b)/\Bi b (A2 T k))/\Ext (Z.new ca) Z')
  (fun r=>∃ fr Z',r=⟨.exit 4,fr,Z'⟩/\fr.get 1=some (.pointer (some ⟨Z.n,0,none⟩))/\(∃ b,fr.get 3=some (.bool b)/\Bi b (A2 T T.E9.length))/\Ext (Z.new ca) Z') ?_ ?_ ?_ ?_
 ·exact⟨fR,fR1 a,⟨b,fR1 g3,d.start⟩,f⟩
 ·clear a g3 f d b fr;rintro k fr Z' H ⟨g4,a,⟨b,g3,d⟩,f⟩;have s:=M3 H;have m:Z'.row Z.n=some ca:=eT (f.row (by simp)) cL;have A:=f.n;simp only[K9]at A;have p:Ext Z Z':=W.trans f;obtain⟨x,E⟩:=I3 H;obtain⟨sp,rfl,l3,l4⟩:=c1 om;have u:=eT (p.row l3) l4;obtain⟨m0,D,-⟩:=c2 k x E;unfold S8.row at m0;refine gS1 (aI g4 (aI a (aI g3 (aI s (aI m (aI Q (aI u m0))))))) ?_;obtain⟨S,hS⟩:=nW (((Z'.new [str [],.int .i64 0,.int .i64 0,.int .i64 0,.bool false] (some 80)).upd Z'.n [str x.name,.int .i64 x.kind,.int .i64 x.low,.int .i64 x.high,.bool x.less]));rw[hS];have E1:Ext Z' S:=by rw[<- hS];exact eX
  have I:S.row Z'.n=some [str x.name,.int .i64 x.kind,.int .i64 x.low,.int .i64 x.high,.bool x.less]:=by rw[<- hS];exact cL
  have m:=eT (E1.row om) m;have u:=eT (E1.row om) u;obtain⟨X,L⟩:∃ X:Prop,X=(A2 T k/\zw x):=⟨_,rfl⟩
  refine LJ (fun r=>∃ fr',r=⟨.normal,fr',S⟩/\fr'.get 6=some (.int .i64 k)/\fr'.get 1=some (.pointer (some ⟨Z.n,0,none⟩))/\fr'.get 7=some (.pointer (some ⟨Z'.n,0,none⟩))/\∃ b,fr'.get 3=some (.bool b)/\Bi b X) ?_ ?_
  ·rw[L];cases b with
   | false=>
     refine gS ?_;exact⟨_,rfl,fR1 g4,fR1 a,fR,_,fR,d.f1⟩
   |true=>
   refine gS1 I ?_;refine LL.mono ?_;rintro r rfl;rw[NT];cases q1:R4 x.name with
   | false=>
     refine gS ?_;exact⟨_,rfl,fR1 g4,fR1 a,fR,_,fR,d.t (Bi.w q1).f1⟩
   |true=>
   refine gS1 I ?_;refine CE.mono ?_;rintro r ⟨b1,rfl,q⟩;cases b1 with
   | false=>
     refine gS ?_;exact⟨_,rfl,fR1 g4,fR1 a,fR,_,fR,d.t ((Bi.w q1).t q.f1)⟩
   |true=>
   refine gS1 I ?_;refine CE.mono ?_;rintro r ⟨b2,rfl,M⟩;cases b2 with
   | false=>
     refine gS ?_;exact⟨_,rfl,fR1 g4,fR1 a,fR,_,fR,d.t ((Bi.w q1).t (q.t M.f1))⟩
   |true=>
   refine gS1 I ?_;cases q2:decide (x.kind=1)with
   | true=>
     refine gS1 (aI I q2) ?_;exact⟨_,rfl,fR1 g4,fR1 a,fR,_,fR,d.t ((Bi.w q1).t (q.t (M.t (Bi.or1 q2))))⟩
   | false=>
     refine gS1 (aI I q2) ?_;exact⟨_,rfl,fR1 g4,fR1 a,fR,_,fR,d.t ((Bi.w q1).t (q.t (M.t (Bi.or2 q2))))⟩
  clear g4 a g3 d b;rintro r ⟨fr,rfl,g4,a,N,b,g3,d⟩;refine gS ?_
  refine I9 k (fun j fr v=>fr.get 8=some (.int .i64 j)/\fr.get 6=some (.int .i64 k)/\fr.get 1=some (.pointer (some ⟨Z.n,0,none⟩))/\fr.get 7=some (.pointer (some ⟨Z'.n,0,none⟩))/\(∃ b,fr.get 3=some (.bool b)/\Bi b (X/\UpT (DF S8.name T.E9 x) j))/\v=S)
   (fun r=>∃ fr,r=⟨.exit 6,fr,S⟩/\fr.get 6=some (.int .i64 k)/\fr.get 1=some (.pointer (some ⟨Z.n,0,none⟩))/\fr.get 7=some (.pointer (some ⟨Z'.n,0,none⟩))/\(∃ b,fr.get 3=some (.bool b)/\Bi b (X/\UpT (DF S8.name T.E9 x) k))) ?_ ?_ ?_ ?_
  ·exact⟨fR,fR1 g4,fR1 a,fR1 N,⟨_,fR1 g3,d.start⟩,rfl⟩
  ·clear g3 d b;rintro j fr v hj ⟨B,o,a,N,⟨b,g3,d⟩,rfl⟩;have s:=M3 hj;cases b with
   | false=>
     refine gS1 (aI B (aI o (aI a (aI g3 s)))) ?_;exact⟨fR,fR1 o,fR1 a,fR1 N,⟨_,fR,d.fs⟩,by trivial⟩
   | true=>
     obtain⟨y,F⟩:=I3 (show j<T.E9.length by omega);obtain⟨-,J,-⟩:=c2 j y F;cases z:decide (y.name=x.name)with
     | true=>
       refine gS1 (aI B (aI o (aI a (aI g3 (aI s (aI m (aI N (aI Q (aI u (aI J (aI I z))))))))))) ?_;exact⟨fR,fR1 o,fR1 a,fR1 N,⟨_,fR,d.dup F (z6z z)⟩,by trivial⟩
     | false=>
       refine gS1 (aI B (aI o (aI a (aI g3 (aI s (aI m (aI N (aI Q (aI u (aI J (aI I z))))))))))) ?_;exact⟨fR,fR1 o,fR1 a,fR1 N,⟨_,fR,d.new F (z9z z)⟩,by trivial⟩
  ·clear g3 d b;rintro fr v ⟨B,o,a,N,⟨b,g3,d⟩,rfl⟩;refine gS1 (aI B o) ?_;exact⟨_,rfl,fR1 o,fR1 a,fR1 N,⟨b,fR1 g3,d⟩⟩
  clear g3 d b;rintro r ⟨fr,rfl,g4,a,N,⟨b,g3,d⟩⟩;refine gS1 (aI g4 a) ?_;exact⟨fR,fR1 a,⟨b,fR1 g3,d.nd L E⟩,f.trans E1⟩
 ·rintro fr Z' ⟨g4,a,⟨b,g3,d⟩,f⟩;have m:Z'.row Z.n=some ca:=eT (f.row (by simp)) cL;refine gS1 (aI g4 (aI a (aI m Q))) ?_;exact⟨_,_,rfl,fR1 a,⟨b,fR1 g3,d⟩,f⟩
 rintro r ⟨fr,Z',rfl,a,⟨b,g3,d⟩,f⟩;refine gS ?_
 refine I9 T.reqs.length (fun k fr Z'=>fr.get 9=some (.int .i64 k)/\fr.get 1=some (.pointer (some ⟨Z.n,0,none⟩))/\(∃ b,fr.get 3=some (.bool b)/\Bi b (A3 T k))/\Ext (Z.new ca) Z')
  (fun r=>∃ fr Z',r=⟨.exit 8,fr,Z'⟩/\fr.get 1=some (.pointer (some ⟨Z.n,0,none⟩))/\(∃ b,fr.get 3=some (.bool b)/\Bi b (A3 T T.reqs.length))/\Ext (Z.new ca) Z') ?_ ?_ ?_ ?_
 ·exact⟨fR,fR1 a,⟨b,fR1 g3,d.start⟩,f⟩
 ·clear a g3 f d b fr;rintro k fr Z' H ⟨g4,a,⟨b,g3,d⟩,f⟩;have s:=M3 H;have m:Z'.row Z.n=some ca:=eT (f.row (by simp)) cL;have A:=f.n;simp only[K9]at A;have p:Ext Z Z':=W.trans f;obtain⟨x,E⟩:=I3 H;obtain⟨sp,rfl,l3,l4⟩:=r1 om;have u:=eT (p.row l3) l4;obtain⟨m0,D,-⟩:=r2 k x E;unfold Req.row at m0;refine gS1 (aI g4 (aI a (aI g3 (aI s (aI m (aI s3 (aI u m0))))))) ?_;obtain⟨S,hS⟩:=nW (((Z'.new [str [],str [],.int .i64 0] (some 82)).upd Z'.n [str x.name,str x.rel,.int .i64 x.value]));rw[hS];have E1:Ext Z' S:=by rw[<- hS];exact eX
  have I:S.row Z'.n=some [str x.name,str x.rel,.int .i64 x.value]:=by rw[<- hS];exact cL
  refine LJ (fun r=>∃ fr',r=⟨.normal,fr',S⟩/\fr'.get 9=some (.int .i64 k)/\fr'.get 1=some (.pointer (some ⟨Z.n,0,none⟩))/\∃ b,fr'.get 3=some (.bool b)/\Bi b (A3 T k/\Ad5 x)) ?_ ?_
  ·cases b with
   | false=>
     refine gS ?_;exact⟨_,rfl,fR1 g4,fR1 a,_,fR,d.f1⟩
   |true=>
   refine gS1 I ?_;refine LL.mono ?_;rintro r rfl;rw[NT];cases q1:R4 x.name with
   | false=>
     refine gS ?_;exact⟨_,rfl,fR1 g4,fR1 a,_,fR,d.t (Bi.w q1).f1⟩
   |true=>
   refine gS1 I ?_;refine CE.mono ?_;rintro r ⟨b1,rfl,q⟩;cases b1 with
   | false=>
     refine gS ?_;exact⟨_,rfl,fR1 g4,fR1 a,_,fR,d.t ((Bi.w q1).t q.f1)⟩
   |true=>
   refine gS1 I ?_;cases q2:decide (x.rel=[60,61])with
   | true=>
     refine gS1 (aI I q2) ?_;exact⟨_,rfl,fR1 g4,fR1 a,_,fR,d.t ((Bi.w q1).t (q.t (Bi.or1 q2)))⟩
   | false=>
     refine gS1 (aI I q2) ?_;exact⟨_,rfl,fR1 g4,fR1 a,_,fR,d.t ((Bi.w q1).t (q.t (Bi.or2 q2)))⟩
  clear g4 a g3 d b;rintro r ⟨fr,rfl,g4,a,b,g3,d⟩;refine gS1 g4 ?_;exact⟨fR,fR1 a,⟨b,fR1 g3,d.el E⟩,f.trans E1⟩
 ·rintro fr Z' ⟨g4,a,⟨b,g3,d⟩,f⟩;have m:Z'.row Z.n=some ca:=eT (f.row (by simp)) cL;refine gS1 (aI g4 (aI a (aI m s3))) ?_;exact⟨_,_,rfl,fR1 a,⟨b,fR1 g3,d⟩,f⟩
 rintro r ⟨fr,Z',rfl,a,⟨b,g3,d⟩,f⟩;refine gS ?_
 refine I9 T.H2.length (fun k fr Z'=>fr.get 11=some (.int .i64 k)/\fr.get 1=some (.pointer (some ⟨Z.n,0,none⟩))/\(∃ b,fr.get 3=some (.bool b)/\Bi b (A4 T k))/\Ext (Z.new ca) Z')
  (fun r=>∃ fr Z',r=⟨.exit 10,fr,Z'⟩/\fr.get 1=some (.pointer (some ⟨Z.n,0,none⟩))/\(∃ b,fr.get 3=some (.bool b)/\Bi b (A4 T T.H2.length))/\Ext (Z.new ca) Z') ?_ ?_ ?_ ?_
 ·exact⟨fR,fR1 a,⟨b,fR1 g3,d.start⟩,f⟩
 ·clear a g3 f d b fr;rintro k fr Z' H ⟨g4,a,⟨b,g3,d⟩,f⟩;have s:=M3 H;have m:Z'.row Z.n=some ca:=eT (f.row (by simp)) cL;have A:=f.n;simp only[K9]at A;have p:Ext Z Z':=W.trans f;obtain⟨x,E⟩:=I3 H;obtain⟨sp,rfl,l3,l4⟩:=t1 om;have u:=eT (p.row l3) l4;have D:=t2 k x E;refine gS1 (aI g4 (aI a (aI g3 (aI s (aI m R))))) ?_;obtain⟨S,hS⟩:=nW Z';rw[hS]at m u f p ⊢;obtain⟨X,L⟩:∃ X:Prop,X=(A4 T k/\Ad6 x):=⟨_,rfl⟩
  refine LJ (fun r=>∃ fr',r=⟨.normal,fr',S⟩/\fr'.get 11=some (.int .i64 k)/\fr'.get 1=some (.pointer (some ⟨Z.n,0,none⟩))/\∃ b,fr'.get 3=some (.bool b)/\Bi b X) ?_ ?_
  ·rw[L];cases b with
   | false=>
     refine gS1 (aI g4 (aI a g3)) ?_;exact⟨_,rfl,fR1 g4,fR1 a,_,fR,d.f1⟩
   |true=>
   cases q2:decide (x=[112,114,105,99,101])with
   | true=>
     refine gS1 (aI g4 (aI a (aI g3 (aI m (aI R (aI u (aI D q2))))))) ?_;exact⟨_,rfl,fR1 g4,fR1 a,_,fR,d.t (Bi.yes (.inl (z6z q2)))⟩
   | false=>
     refine gS1 (aI g4 (aI a (aI g3 (aI m (aI R (aI u (aI D q2))))))) ?_;refine LL.mono ?_;rintro r rfl;rw[NT];refine gS ?_;exact⟨_,rfl,fR1 g4,fR1 a,_,fR,d.t (Bi.mk (fun h=> .inr h) (fun h=>h.resolve_left (z9z q2)))⟩
  clear g4 a g3 d b;rintro r ⟨fr,rfl,g4,a,b,g3,d⟩;refine gS ?_
  refine I9 k (fun j fr v=>fr.get 12=some (.int .i64 j)/\fr.get 11=some (.int .i64 k)/\fr.get 1=some (.pointer (some ⟨Z.n,0,none⟩))/\(∃ b,fr.get 3=some (.bool b)/\Bi b (X/\UpT (DF id T.H2 x) j))/\v=S)
   (fun r=>∃ fr,r=⟨.exit 12,fr,S⟩/\fr.get 11=some (.int .i64 k)/\fr.get 1=some (.pointer (some ⟨Z.n,0,none⟩))/\(∃ b,fr.get 3=some (.bool b)/\Bi b (X/\UpT (DF id T.H2 x) k))) ?_ ?_ ?_ ?_
  ·exact⟨fR,fR1 g4,fR1 a,⟨_,fR1 g3,d.start⟩,rfl⟩
  ·clear g3 d b;rintro j fr v hj ⟨B,o,a,⟨b,g3,d⟩,rfl⟩;have s:=M3 hj;cases b with
   | false=>
     refine gS1 (aI B (aI o (aI a (aI g3 s)))) ?_;exact⟨fR,fR1 o,fR1 a,⟨_,fR,d.fs⟩,by trivial⟩
   | true=>
     obtain⟨y,F⟩:=I3 (show j<T.H2.length by omega);have J:=t2 j y F;cases z:decide (y=x)with
     | true=>
       refine gS1 (aI B (aI o (aI a (aI g3 (aI s (aI m (aI R (aI u (aI J (aI D z)))))))))) ?_;exact⟨fR,fR1 o,fR1 a,⟨_,fR,d.dup F (z6z z)⟩,by trivial⟩
     | false=>
       refine gS1 (aI B (aI o (aI a (aI g3 (aI s (aI m (aI R (aI u (aI J (aI D z)))))))))) ?_;exact⟨fR,fR1 o,fR1 a,⟨_,fR,d.new F (z9z z)⟩,by trivial⟩
  ·clear g3 d b;rintro fr v ⟨B,o,a,⟨b,g3,d⟩,rfl⟩;refine gS1 (aI B o) ?_;exact⟨_,rfl,fR1 o,fR1 a,⟨b,fR1 g3,d⟩⟩
  clear g3 d b;rintro r ⟨fr,rfl,g4,a,⟨b,g3,d⟩⟩;refine gS1 (aI g4 a) ?_;exact⟨fR,fR1 a,⟨b,fR1 g3,d.nd L E⟩,f⟩
 ·rintro fr Z' ⟨g4,a,⟨b,g3,d⟩,f⟩;have m:Z'.row Z.n=some ca:=eT (f.row (by simp)) cL;refine gS1 (aI g4 (aI a (aI m R))) ?_;exact⟨_,_,rfl,fR1 a,⟨b,fR1 g3,d⟩,f⟩
 rintro r ⟨fr,Z',rfl,a,⟨b,g3,d⟩,f⟩;refine gS ?_
 refine I9 vs.length (fun k fr Z'=>fr.get 13=some (.int .i64 k)/\fr.get 1=some (.pointer (some ⟨Z.n,0,none⟩))/\(∃ b,fr.get 3=some (.bool b)/\Bi b (A5 T k))/\Ext (Z.new ca) Z')
  (fun r=>∃ fr Z',r=⟨.exit 14,fr,Z'⟩/\fr.get 1=some (.pointer (some ⟨Z.n,0,none⟩))/\(∃ b,fr.get 3=some (.bool b)/\Bi b (A5 T T.C8.length))/\Ext (Z.new ca) Z') ?_ ?_ ?_ ?_
 ·exact⟨fR,fR1 a,⟨b,fR1 g3,d.start⟩,f⟩
 ·clear a g3 f d b fr;rintro k fr Z' H ⟨g4,a,⟨b,g3,d⟩,f⟩;have s:=M3 H;have m:Z'.row Z.n=some ca:=eT (f.row (by simp)) cL;have A:=f.n;simp only[K9]at A;have p:Ext Z Z':=W.trans f;obtain⟨x',a0⟩:=I3 H;obtain⟨C,E⟩:=I3 (show k<T.C8.length by omega);obtain⟨ia,ic,ib,io,ics,rfl,i1,i2⟩:=(h8.get a0 E).use;have LC:=hC C (y6 E);obtain⟨sp,rfl,l3,l4⟩:=k1 om;have u:=eT (p.row l3) l4;have D:=k2 k _ a0;rw[Fh]at D;have q3:decide (12<(C.length:Int))=false:=dF;refine gS1 (aI g4 (aI a (aI g3 (aI s (aI m (aI s9 (aI u D))))))) ?_;obtain⟨S,hS⟩:=nW Z';rw[hS]at m u f p ⊢;obtain⟨Y,hY⟩:∃ Y:Prop,Y=(A5 T k/\2<=C.length):=⟨_,rfl⟩
  refine LJ (fun r=>∃ fr',r=⟨.normal,fr',S⟩/\fr'.get 13=some (.int .i64 k)/\fr'.get 1=some (.pointer (some ⟨Z.n,0,none⟩))/\fr'.get 14=some (.slice ia C.length ic)/\∃ b,fr'.get 3=some (.bool b)/\Bi b Y) ?_ ?_
  ·rw[hY];cases b with
   | false=>
     refine gS ?_;exact⟨_,rfl,fR1 g4,fR1 a,fR,_,fR,d.f1⟩
   |true=>
   refine gS ?_;cases q2:decide ((C.length:Int)<2)with
   | true=>
     refine gS1 q2 ?_;exact⟨_,rfl,fR1 g4,fR1 a,fR,_,fR,d.t (Bi.no fun h=>by have:=z6z q2;omega)⟩
   | false=>
     refine gS1 (aI q2 q3) ?_;exact⟨_,rfl,fR1 g4,fR1 a,fR,_,fR,d.t (Bi.yes (by have:=z9z q2;omega))⟩
  clear g4 a g3 d b;rintro r ⟨fr,rfl,g4,a,e,b,g3,d⟩;refine gS ?_
  refine I9 C.length (fun i fr v=>fr.get 15=some (.int .i64 i)/\fr.get 13=some (.int .i64 k)/\fr.get 1=some (.pointer (some ⟨Z.n,0,none⟩))/\fr.get 14=some (.slice ia C.length ic)/\(∃ b,fr.get 3=some (.bool b)/\Bi b (Y/\UpT (ND (SmB 1) id C) i))/\v=S)
   (fun r=>∃ fr,r=⟨.exit 16,fr,S⟩/\fr.get 13=some (.int .i64 k)/\fr.get 1=some (.pointer (some ⟨Z.n,0,none⟩))/\(∃ b,fr.get 3=some (.bool b)/\Bi b (Y/\UpT (ND (SmB 1) id C) C.length))) ?_ ?_ ?_ ?_
  ·exact⟨fR,fR1 g4,fR1 a,fR1 e,⟨b,fR1 g3,d.start⟩,rfl⟩
  ·clear g4 a g3 e d b fr;rintro i fr v hi ⟨g,l,a,e,⟨b,g3,d⟩,rfl⟩;have s:=M3 hi;obtain⟨x,a1⟩:=I3 hi;obtain⟨sp,rfl,l3,l4⟩:=i1 om;have w3:=eT (p.row l3) l4;have J:=i2 i x a1;refine gS1 (aI g (aI e (aI s g3))) ?_;obtain⟨S,hS⟩:=nW v;rw[hS]at m u w3 f p ⊢;obtain⟨X,L⟩:∃ X:Prop,X=((Y/\UpT (ND (SmB 1) id C) i)/\SmB 1 x):=⟨_,rfl⟩
   refine LJ (fun r=>∃ fr',r=⟨.normal,fr',S⟩/\fr'.get 15=some (.int .i64 i)/\fr'.get 13=some (.int .i64 k)/\fr'.get 1=some (.pointer (some ⟨Z.n,0,none⟩))/\fr'.get 14=some (.slice (some ⟨ib,io,sp⟩) C.length ic)/\∃ b,fr'.get 3=some (.bool b)/\Bi b X) ?_ ?_
   ·rw[L];cases b with
    | false=>
      refine gS1 g3 ?_;exact⟨_,rfl,fR1 g,fR1 l,fR1 a,fR1 e,_,fR,d.f1⟩
    |true=>
    refine gS1 (aI g (aI e (aI w3 J))) ?_;refine CE.mono ?_;rintro r ⟨b1,rfl,q⟩;refine gS1 g3 ?_;exact⟨_,rfl,fR1 g,fR1 l,fR1 a,fR1 e,_,fR,d.t q⟩
   clear g l e a g3 d b fr;rintro r ⟨fr,rfl,g,l,a,e,b,g3,d⟩;refine gS ?_
   refine I9 i (fun j fr v=>fr.get 16=some (.int .i64 j)/\fr.get 15=some (.int .i64 i)/\fr.get 13=some (.int .i64 k)/\fr.get 1=some (.pointer (some ⟨Z.n,0,none⟩))/\fr.get 14=some (.slice (some ⟨ib,io,sp⟩) C.length ic)/\(∃ b,fr.get 3=some (.bool b)/\Bi b (X/\UpT (DF id C x) j))/\v=S)
    (fun r=>∃ fr,r=⟨.exit 18,fr,S⟩/\fr.get 15=some (.int .i64 i)/\fr.get 13=some (.int .i64 k)/\fr.get 1=some (.pointer (some ⟨Z.n,0,none⟩))/\fr.get 14=some (.slice (some ⟨ib,io,sp⟩) C.length ic)/\(∃ b,fr.get 3=some (.bool b)/\Bi b (X/\UpT (DF id C x) i))) ?_ ?_ ?_ ?_
   ·exact⟨fR,fR1 g,fR1 l,fR1 a,fR1 e,⟨b,fR1 g3,d.start⟩,rfl⟩
   ·clear g l e a g3 d b fr;rintro j fr v hj ⟨K,g,l,a,e,⟨b,g3,d⟩,rfl⟩;have s:=M3 hj;obtain⟨y,F⟩:=I3 (show j<C.length by omega);have n2:=i2 j y F;cases b with
    | false=>
      refine gS1 (aI K (aI g (aI l (aI a (aI e (aI g3 s)))))) ?_;exact⟨fR,fR1 g,fR1 l,fR1 a,fR1 e,⟨_,fR,d.fs⟩,by trivial⟩
    | true=>
      cases z:decide (y=x)with
      | true=>
        refine gS1 (aI K (aI g (aI l (aI a (aI e (aI g3 (aI s (aI w3 (aI J (aI n2 z)))))))))) ?_;exact⟨fR,fR1 g,fR1 l,fR1 a,fR1 e,⟨_,fR,d.dup F (z6z z)⟩,by trivial⟩
      | false=>
        refine gS1 (aI K (aI g (aI l (aI a (aI e (aI g3 (aI s (aI w3 (aI J (aI n2 z)))))))))) ?_;exact⟨fR,fR1 g,fR1 l,fR1 a,fR1 e,⟨_,fR,d.new F (z9z z)⟩,by trivial⟩
   ·clear g l e a g3 d b;rintro fr v ⟨K,g,l,a,e,⟨b,g3,d⟩,rfl⟩;refine gS1 (aI K g) ?_;exact⟨_,rfl,fR1 g,fR1 l,fR1 a,fR1 e,⟨b,fR1 g3,d⟩⟩
   clear g l e a g3 d b fr;rintro r ⟨fr,rfl,g,l,a,e,⟨b,g3,d⟩⟩;refine gS1 g ?_;exact⟨fR,fR1 l,fR1 a,fR1 e,⟨b,fR1 g3,d.nd L a1⟩,by trivial⟩
  ·clear g4 a g3 e d b fr;rintro fr v ⟨g,l,a,e,⟨b,g3,d⟩,rfl⟩;refine gS1 (aI g e) ?_;exact⟨_,rfl,fR1 l,fR1 a,⟨b,fR1 g3,d⟩⟩
  clear g4 a g3 e d b fr;rintro r ⟨fr,rfl,g4,a,⟨b,g3,d⟩⟩;refine gS1 g4 ?_;exact⟨fR,fR1 a,⟨b,fR1 g3,d.cmb hY E⟩,f⟩
 ·rintro fr Z' ⟨g4,a,⟨b,g3,d⟩,f⟩;have m:Z'.row Z.n=some ca:=eT (f.row (by simp)) cL;refine gS1 (aI g4 (aI a (aI m s9))) ?_;exact⟨_,_,rfl,fR1 a,⟨b,fR1 g3,(L6 ▸ d)⟩,f⟩
 rintro r ⟨fr,Z',rfl,a,⟨b,g3,d⟩,f⟩;refine gS ?_;refine gS1 (aI g3 @Tryz.results58) ?_;exact⟨b,_,rfl,W.trans f,d.trans (uR L0 L1 L2 L3 L4 om)⟩
end Go.Proofs.T
