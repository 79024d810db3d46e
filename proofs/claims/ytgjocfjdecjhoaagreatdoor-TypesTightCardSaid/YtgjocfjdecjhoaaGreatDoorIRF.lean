/- The H3 OG of a YQ lists, of HW of any kind. -/
import Derived.Test.YtgjocfjdecjhoaaGreatDoorISA
set_option linter.unusedSimpArgs false
set_option linter.unusedVariables false
set_option linter.defProp false
set_option maxHeartbeats 32000000
set_option maxRecDepth 100000
namespace Go.Proofs.T
open Go Go.Ab
def Ji {b:Type}{c:Bool}{x y:Option b}{Q:b->Prop}{u v:Hd Q}{w:Hd fun z:Bool=>cond z (Ev x Q u) (Ev y Q v)}(J:b->Prop) (h:Br c (Ev x J ⟨⟩) (Ev y J ⟨⟩) ⟨⟩) (k:∀ a,J a->Q a):Br c (Ev x Q u) (Ev y Q v) w :=
 ⟨fun e=>(h.1 e).mono k,fun e=>(h.2 e).mono k⟩
def CK {Z:St}{n m:Int}:Ev (gO 123 [.int .i64 n,.int .i64 m] Z) (fun r=>∃ b,r=⟨false,.bool b,Z⟩/\Bi b (SmB m n)) ⟨⟩:=by
 refine C8 Tryz.func123 rfl rfl ?_;cases a:decide (n<m)with
 | true=>
   refine gS1 (aI a (a3N @D6 @D8 @Tryz.results123)) ?_;exact⟨_,rfl,Bi.no fun h=>by have:=z6z a;have:=h.1;omega⟩
 | false=>
   cases b:decide (1000000000<n)with
   | true=>
     refine gS1 (aI a (aI b (a3N @D6 @D8 @Tryz.results123))) ?_;exact⟨_,rfl,Bi.no fun h=>by have:=z6z b;have:=h.2;omega⟩
   | false=>
     refine gS1 (aI a (aI b (a3N @D6 @D8 @Tryz.results123))) ?_;exact⟨_,rfl,Bi.yes ⟨by have:=z9z a;omega,by have:=z9z b;omega⟩⟩
def OH {s:By}:OI s=FH s:=by
 cases h:FH s with
 |true=>exact oe h
 | false=>
   unfold FH at h;unfold OI;rw[Ml];cases d:AP s with
   |false=>rfl
   | true=>
     rw[d,Io]at h;unfold ct at h;simp at h;simp;intro a b c;exact h a b c
def YR {Z:St}{ca:List Value}{T:Tn}(hT:Jb Z ca T) (hC:∀ c∈T.K7,c.length<=12):Ev (gO 122 [.agg ⟨ca⟩] Z) (fun r=>∃ b Z',r=⟨false,.bool b,Z'⟩/\Ext Z Z'/\Bi b (LsT T)) ⟨⟩:=by
 obtain⟨vl,vc,vr,ex,vt,vk,hp,h2,h3,s,G,h6,vs,h7,h8⟩:=hT.parts;obtain⟨la,lc,lb,lo,lcs,rfl,l1,l2⟩:=h2.use;obtain⟨ca',cc,cb,co,ccs,rfl,c1,c2⟩:=h3.use;obtain⟨ra,rc,rb,ro,rcs,rfl,r1,r2⟩:=s.use;obtain⟨ta,tc,tb,to',tcs,rfl,t1,t2⟩:=h6.use;obtain⟨ka,kc,kb,ko,kcs,rfl,k1,k2⟩:=SL.Lo h7;have a2:=hp.all;have L6:=h8.len;have K:=hp.p1;have s2:=hp.p2;have s3:=hp.p3;have s7:=hp.p11;have s9:=hp.p13;refine C8 Tryz.func122 rfl rfl ?_;refine gS1 (aI a2 K) ?_;have E0:Ext Z (Z.new ca):=eX;have fin:¬ LsT T->∃ b' Z',(⟨false,.bool false,Z.new ca⟩:CR)=⟨false,.bool b',Z'⟩/\Ext Z Z'/\Bi b' (LsT T):=fun h=>⟨_,_,rfl,E0,Bi.no h⟩
 cases W:decide ((T.AG.length:Int)<1)
 case true=>refine gS1 (aI W (a3N @D6 @D8 @Tryz.results122)) ?_;exact fin fun h=>by have:=z6z W;have:=h.n0;omega
 cases z2:decide (12<(T.AG.length:Int))
 case true=>refine gS1 (aI W (aI z2 (aI K (a3N @D6 @D8 @Tryz.results122)))) ?_;exact fin fun h=>by have:=z6z z2;have:=h.n1;omega
 cases z3:decide (12<(T.G7.length:Int))
 case true=>refine gS1 (aI W (aI z2 (aI z3 (aI K (aI s2 (a3N @D6 @D8 @Tryz.results122)))))) ?_;exact fin fun h=>by have:=z6z z3;have:=h.n2;omega
 cases z4:decide (24<(T.reqs.length:Int))
 case true=>refine gS1 (aI W (aI z2 (aI z3 (aI z4 (aI K (aI s2 (aI s3 (a3N @D6 @D8 @Tryz.results122)))))))) ?_;exact fin fun h=>by have:=z6z z4;have:=h.n3;omega
 cases z5:decide (12<(T.AQ.length:Int))
 case true=>refine gS1 (aI W (aI z2 (aI z3 (aI z4 (aI z5 (aI K (aI s2 (aI s3 (aI s7 (a3N @D6 @D8 @Tryz.results122)))))))))) ?_;exact fin fun h=>by have:=z6z z5;have:=h.n4;omega
 cases z6:decide (12<(vs.length:Int))
 case true=>refine gS1 (aI W (aI z2 (aI z3 (aI z4 (aI z5 (aI z6 (aI K (aI s2 (aI s3 (aI s7 (aI s9 (a3N @D6 @D8 @Tryz.results122)))))))))))) ?_;exact fin fun h=>by have:=z6z z6;have:=h.n5;omega
 refine gS1 (aI W (aI z2 (aI z3 (aI z4 (aI z5 (aI z6 (aI K (aI s2 (aI s3 (aI s7 s9)))))))))) ?_;have L0:1<=T.AG.length:=by have:=z9z W;omega
 have L1:T.AG.length<=12:=by have:=z9z z2;omega
 have L2:T.G7.length<=12:=by have:=z9z z3;omega
 have L3:T.reqs.length<=24:=by have:=z9z z4;omega
 have L4:T.AQ.length<=12:=by have:=z9z z5;omega
 have L5:vs.length<=12:=by have:=z9z z6;omega
 clear W z2 z3 z4 z5 z6 fin
 refine G8 T.AG.length (fun k d Z'=>d.get 4=some (.int .i64 k)/\d.get 1=some (.pointer (some ⟨Z.n,0,none⟩))/\(∃ b,d.get 3=some (.bool b)/\Bi b (A1 T k))/\Ext (Z.new ca) Z')
  (fun r=>∃ d Z',r=⟨.exit 0,d,Z'⟩/\d.get 1=some (.pointer (some ⟨Z.n,0,none⟩))/\(∃ b,d.get 3=some (.bool b)/\Bi b (A1 T T.AG.length))/\Ext (Z.new ca) Z') ?_ ?_ ?_ ?_
 ·exact⟨fR,fR,⟨_,fR,Bi.yes ⟨trivial,up0⟩⟩,.refl _⟩
 ·skip
  rintro k d Z' L ⟨g,a,⟨b,f,e⟩,m⟩;have z:=M4 L;have q:Z'.row Z.n=some ca:=eT (m.row (by simp)) cL;have E:=m.n;simp only[G3]at E;have u:Ext Z Z':=E0.trans m;obtain⟨x,I⟩:=I1 L;obtain⟨sp,rfl,l3,l4⟩:=l1 om;have A:=eT (u.row l3) l4;obtain⟨-,H,m2⟩:=l2 k x I;obtain⟨S,hS⟩:=nW Z';rw[hS]at q A m u ⊢;refine gS1 (aI g (aI a (aI f (aI z (aI q K))))) ?_;obtain⟨X,R⟩:∃ X:Prop,X=(A1 T k/\An5 x):=⟨_,rfl⟩
  refine Ji (fun r=>∃ fr',r=⟨.normal,fr',S⟩/\fr'.get 4=some (.int .i64 k)/\fr'.get 1=some (.pointer (some ⟨Z.n,0,none⟩))/\∃ b,fr'.get 3=some (.bool b)/\Bi b X) ?_ ?_
  ·rw[R];cases b with
   | false=>
     refine gS1 (aI g (aI a f)) ?_;exact⟨_,rfl,fR1 g,fR1 a,_,fR,e.f1⟩
   |true=>
   refine gS1 (aI g (aI a (aI f (aI q (aI K (aI A H)))))) ?_;refine CK.mono ?_;rintro r ⟨b1,rfl,v⟩;cases b1 with
   | false=>
     refine gS1 (aI g (aI a (aI f (aI q (aI K (aI A H)))))) ?_;exact⟨_,rfl,fR1 g,fR1 a,_,fR,e.t v.f1⟩
   |true=>
   refine gS1 (aI g (aI a (aI f (aI q (aI K (aI A (aI H m2))))))) ?_;refine CK.mono ?_;rintro r ⟨b2,rfl,U⟩;refine gS1 (aI g (aI a (aI f (aI q (aI K (aI A H)))))) ?_;exact⟨_,rfl,fR1 g,fR1 a,_,fR,e.t (v.t U)⟩
  clear g a f e b;rintro r ⟨d,rfl,g,a,b,f,e⟩;refine gS ?_
  refine G8 k (fun j d B=>d.get 5=some (.int .i64 j)/\d.get 4=some (.int .i64 k)/\d.get 1=some (.pointer (some ⟨Z.n,0,none⟩))/\(∃ b,d.get 3=some (.bool b)/\Bi b (X/\UpT (DF Lot.id T.AG x) j))/\B=S)
   (fun r=>∃ d,r=⟨.exit 2,d,S⟩/\d.get 4=some (.int .i64 k)/\d.get 1=some (.pointer (some ⟨Z.n,0,none⟩))/\(∃ b,d.get 3=some (.bool b)/\Bi b (X/\UpT (DF Lot.id T.AG x) k))) ?_ ?_ ?_ ?_
  ·exact⟨fR,fR1 g,fR1 a,⟨_,fR1 f,e.start⟩,rfl⟩
  ·clear f e b;rintro j d B hj ⟨G,s,a,⟨b,f,e⟩,rfl⟩;have z:=M4 hj;cases b with
   | false=>
     refine gS1 (aI G (aI s (aI a (aI f z)))) ?_;exact⟨fR,fR1 s,fR1 a,⟨_,fR,e.fs⟩,by trivial⟩
   | true=>
     obtain⟨y,J⟩:=I1 (show j<T.AG.length by omega);obtain⟨-,N,-⟩:=l2 j y J;cases D:decide (y.id=x.id)with
     | true=>
       refine gS1 (aI G (aI s (aI a (aI f (aI z (aI q (aI K (aI A (aI H (aI N D)))))))))) ?_;exact⟨fR,fR1 s,fR1 a,⟨_,fR,e.dup J (z6z D)⟩,by trivial⟩
     | false=>
       refine gS1 (aI G (aI s (aI a (aI f (aI z (aI q (aI K (aI A (aI H (aI N D)))))))))) ?_;exact⟨fR,fR1 s,fR1 a,⟨_,fR,e.new J (z9z D)⟩,by trivial⟩
  ·clear f e b;rintro d B ⟨G,s,a,⟨b,f,e⟩,rfl⟩;refine gS1 (aI G s) ?_;exact⟨_,rfl,fR1 s,fR1 a,⟨b,fR1 f,e⟩⟩
  clear f e b;rintro r ⟨d,rfl,g,a,⟨b,f,e⟩⟩;refine gS1 (aI g a) ?_;exact⟨fR,fR1 a,⟨b,fR1 f,e.nd R I⟩,m⟩
 ·rintro d Z' ⟨g,a,⟨b,f,e⟩,m⟩;have q:Z'.row Z.n=some ca:=eT (m.row (by simp)) cL;refine gS1 (aI g (aI a (aI q K))) ?_;exact⟨_,_,rfl,fR1 a,⟨b,fR1 f,e⟩,m⟩
 rintro r ⟨d,Z',rfl,a,⟨b,f,e⟩,m⟩;refine gS ?_
 refine G8 T.G7.length (fun k d Z'=>d.get 6=some (.int .i64 k)/\d.get 1=some (.pointer (some ⟨Z.n,0,none⟩))/\(∃ b,d.get 3=some (.bool b)/\Bi b (A2 T k))/\Ext (Z.new ca) Z')
  (fun r=>∃ d Z',r=⟨.exit 4,d,Z'⟩/\d.get 1=some (.pointer (some ⟨Z.n,0,none⟩))/\(∃ b,d.get 3=some (.bool b)/\Bi b (A2 T T.G7.length))/\Ext (Z.new ca) Z') ?_ ?_ ?_ ?_
 ·exact⟨fR,fR1 a,⟨b,fR1 f,e.start⟩,m⟩
 ·clear a f m e b d;rintro k d Z' L ⟨g,a,⟨b,f,e⟩,m⟩;have z:=M4 L;have q:Z'.row Z.n=some ca:=eT (m.row (by simp)) cL;have E:=m.n;simp only[G3]at E;have u:Ext Z Z':=E0.trans m;obtain⟨x,I⟩:=I1 L;obtain⟨sp,rfl,l3,l4⟩:=c1 om;have A:=eT (u.row l3) l4;obtain⟨m0,H,-⟩:=c2 k x I;unfold CL.row at m0;refine gS1 (aI g (aI a (aI f (aI z (aI q (aI s2 (aI A m0))))))) ?_;obtain⟨S,hS⟩:=nW (((Z'.new [str [],.int .i64 0,.int .i64 0,.int .i64 0,.bool false] (some 57)).upd Z'.n [str x.name,.int .i64 x.kind,.int .i64 x.low,.int .i64 x.high,.bool x.less]));rw[hS];have E1:Ext Z' S:=by rw[<- hS];exact eX
  have M:S.row Z'.n=some [str x.name,.int .i64 x.kind,.int .i64 x.low,.int .i64 x.high,.bool x.less]:=by rw[<- hS];exact cL
  have q:=eT (E1.row om) q;have A:=eT (E1.row om) A;obtain⟨X,R⟩:∃ X:Prop,X=(A2 T k/\AK6 x):=⟨_,rfl⟩
  refine Ji (fun r=>∃ fr',r=⟨.normal,fr',S⟩/\fr'.get 6=some (.int .i64 k)/\fr'.get 1=some (.pointer (some ⟨Z.n,0,none⟩))/\fr'.get 7=some (.pointer (some ⟨Z'.n,0,none⟩))/\∃ b,fr'.get 3=some (.bool b)/\Bi b X) ?_ ?_
  ·rw[R];cases b with
   | false=>
     refine gS ?_;exact⟨_,rfl,fR1 g,fR1 a,fR,_,fR,e.f1⟩
   |true=>
   refine gS1 M ?_;refine Lp.mono ?_;rintro r rfl;rw[OH];cases q1:FH x.name with
   | false=>
     refine gS ?_;exact⟨_,rfl,fR1 g,fR1 a,fR,_,fR,e.t (Bi.w q1).f1⟩
   |true=>
   refine gS1 M ?_;refine CK.mono ?_;rintro r ⟨b1,rfl,v⟩;cases b1 with
   | false=>
     refine gS ?_;exact⟨_,rfl,fR1 g,fR1 a,fR,_,fR,e.t ((Bi.w q1).t v.f1)⟩
   |true=>
   refine gS1 M ?_;refine CK.mono ?_;rintro r ⟨b2,rfl,U⟩;cases b2 with
   | false=>
     refine gS ?_;exact⟨_,rfl,fR1 g,fR1 a,fR,_,fR,e.t ((Bi.w q1).t (v.t U.f1))⟩
   |true=>
   refine gS1 M ?_;cases F:decide (x.kind=1)with
   | true=>
     refine gS1 (aI M F) ?_;exact⟨_,rfl,fR1 g,fR1 a,fR,_,fR,e.t ((Bi.w q1).t (v.t (U.t (Bi.or1 F))))⟩
   | false=>
     refine gS1 (aI M F) ?_;exact⟨_,rfl,fR1 g,fR1 a,fR,_,fR,e.t ((Bi.w q1).t (v.t (U.t (Bi.or2 F))))⟩
  clear g a f e b;rintro r ⟨d,rfl,g,a,V,b,f,e⟩;refine gS ?_
  refine G8 k (fun j d B=>d.get 8=some (.int .i64 j)/\d.get 6=some (.int .i64 k)/\d.get 1=some (.pointer (some ⟨Z.n,0,none⟩))/\d.get 7=some (.pointer (some ⟨Z'.n,0,none⟩))/\(∃ b,d.get 3=some (.bool b)/\Bi b (X/\UpT (DF CL.name T.G7 x) j))/\B=S)
   (fun r=>∃ d,r=⟨.exit 6,d,S⟩/\d.get 6=some (.int .i64 k)/\d.get 1=some (.pointer (some ⟨Z.n,0,none⟩))/\d.get 7=some (.pointer (some ⟨Z'.n,0,none⟩))/\(∃ b,d.get 3=some (.bool b)/\Bi b (X/\UpT (DF CL.name T.G7 x) k))) ?_ ?_ ?_ ?_
  ·exact⟨fR,fR1 g,fR1 a,fR1 V,⟨_,fR1 f,e.start⟩,rfl⟩
  ·clear f e b;rintro j d B hj ⟨G,s,a,V,⟨b,f,e⟩,rfl⟩;have z:=M4 hj;cases b with
   | false=>
     refine gS1 (aI G (aI s (aI a (aI f z)))) ?_;exact⟨fR,fR1 s,fR1 a,fR1 V,⟨_,fR,e.fs⟩,by trivial⟩
   | true=>
     obtain⟨y,J⟩:=I1 (show j<T.G7.length by omega);obtain⟨-,N,-⟩:=c2 j y J;cases D:decide (y.name=x.name)with
     | true=>
       refine gS1 (aI G (aI s (aI a (aI f (aI z (aI q (aI V (aI s2 (aI A (aI N (aI M D))))))))))) ?_;exact⟨fR,fR1 s,fR1 a,fR1 V,⟨_,fR,e.dup J (z6z D)⟩,by trivial⟩
     | false=>
       refine gS1 (aI G (aI s (aI a (aI f (aI z (aI q (aI V (aI s2 (aI A (aI N (aI M D))))))))))) ?_;exact⟨fR,fR1 s,fR1 a,fR1 V,⟨_,fR,e.new J (z9z D)⟩,by trivial⟩
  ·clear f e b;rintro d B ⟨G,s,a,V,⟨b,f,e⟩,rfl⟩;refine gS1 (aI G s) ?_;exact⟨_,rfl,fR1 s,fR1 a,fR1 V,⟨b,fR1 f,e⟩⟩
  clear f e b;rintro r ⟨d,rfl,g,a,V,⟨b,f,e⟩⟩;refine gS1 (aI g a) ?_;exact⟨fR,fR1 a,⟨b,fR1 f,e.nd R I⟩,m.trans E1⟩
 ·rintro d Z' ⟨g,a,⟨b,f,e⟩,m⟩;have q:Z'.row Z.n=some ca:=eT (m.row (by simp)) cL;refine gS1 (aI g (aI a (aI q s2))) ?_;exact⟨_,_,rfl,fR1 a,⟨b,fR1 f,e⟩,m⟩
 rintro r ⟨d,Z',rfl,a,⟨b,f,e⟩,m⟩;refine gS ?_
 refine G8 T.reqs.length (fun k d Z'=>d.get 9=some (.int .i64 k)/\d.get 1=some (.pointer (some ⟨Z.n,0,none⟩))/\(∃ b,d.get 3=some (.bool b)/\Bi b (A3 T k))/\Ext (Z.new ca) Z')
  (fun r=>∃ d Z',r=⟨.exit 8,d,Z'⟩/\d.get 1=some (.pointer (some ⟨Z.n,0,none⟩))/\(∃ b,d.get 3=some (.bool b)/\Bi b (A3 T T.reqs.length))/\Ext (Z.new ca) Z') ?_ ?_ ?_ ?_
 ·exact⟨fR,fR1 a,⟨b,fR1 f,e.start⟩,m⟩
 ·clear a f m e b d;rintro k d Z' L ⟨g,a,⟨b,f,e⟩,m⟩;have z:=M4 L;have q:Z'.row Z.n=some ca:=eT (m.row (by simp)) cL;have E:=m.n;simp only[G3]at E;have u:Ext Z Z':=E0.trans m;obtain⟨x,I⟩:=I1 L;obtain⟨sp,rfl,l3,l4⟩:=r1 om;have A:=eT (u.row l3) l4;obtain⟨m0,H,-⟩:=r2 k x I;unfold Req.row at m0;refine gS1 (aI g (aI a (aI f (aI z (aI q (aI s3 (aI A m0))))))) ?_;obtain⟨S,hS⟩:=nW (((Z'.new [str [],str [],.int .i64 0] (some 61)).upd Z'.n [str x.name,str x.rel,.int .i64 x.value]));rw[hS];have E1:Ext Z' S:=by rw[<- hS];exact eX
  have M:S.row Z'.n=some [str x.name,str x.rel,.int .i64 x.value]:=by rw[<- hS];exact cL
  refine Ji (fun r=>∃ fr',r=⟨.normal,fr',S⟩/\fr'.get 9=some (.int .i64 k)/\fr'.get 1=some (.pointer (some ⟨Z.n,0,none⟩))/\∃ b,fr'.get 3=some (.bool b)/\Bi b (A3 T k/\An6 x)) ?_ ?_
  ·cases b with
   | false=>
     refine gS ?_;exact⟨_,rfl,fR1 g,fR1 a,_,fR,e.f1⟩
   |true=>
   refine gS1 M ?_;refine Lp.mono ?_;rintro r rfl;rw[OH];cases q1:FH x.name with
   | false=>
     refine gS ?_;exact⟨_,rfl,fR1 g,fR1 a,_,fR,e.t (Bi.w q1).f1⟩
   |true=>
   refine gS1 M ?_;refine CK.mono ?_;rintro r ⟨b1,rfl,v⟩;cases b1 with
   | false=>
     refine gS ?_;exact⟨_,rfl,fR1 g,fR1 a,_,fR,e.t ((Bi.w q1).t v.f1)⟩
   |true=>
   refine gS1 M ?_;cases F:decide (x.rel=[60,61])with
   | true=>
     refine gS1 (aI M F) ?_;exact⟨_,rfl,fR1 g,fR1 a,_,fR,e.t ((Bi.w q1).t (v.t (Bi.or1 F)))⟩
   | false=>
     refine gS1 (aI M F) ?_;exact⟨_,rfl,fR1 g,fR1 a,_,fR,e.t ((Bi.w q1).t (v.t (Bi.or2 F)))⟩
  clear g a f e b;rintro r ⟨d,rfl,g,a,b,f,e⟩;refine gS1 g ?_;exact⟨fR,fR1 a,⟨b,fR1 f,e.el I⟩,m.trans E1⟩
 ·rintro d Z' ⟨g,a,⟨b,f,e⟩,m⟩;have q:Z'.row Z.n=some ca:=eT (m.row (by simp)) cL;refine gS1 (aI g (aI a (aI q s3))) ?_;exact⟨_,_,rfl,fR1 a,⟨b,fR1 f,e⟩,m⟩
 rintro r ⟨d,Z',rfl,a,⟨b,f,e⟩,m⟩;refine gS ?_
 refine G8 T.AQ.length (fun k d Z'=>d.get 11=some (.int .i64 k)/\d.get 1=some (.pointer (some ⟨Z.n,0,none⟩))/\(∃ b,d.get 3=some (.bool b)/\Bi b (A4 T k))/\Ext (Z.new ca) Z')
  (fun r=>∃ d Z',r=⟨.exit 10,d,Z'⟩/\d.get 1=some (.pointer (some ⟨Z.n,0,none⟩))/\(∃ b,d.get 3=some (.bool b)/\Bi b (A4 T T.AQ.length))/\Ext (Z.new ca) Z') ?_ ?_ ?_ ?_
 ·exact⟨fR,fR1 a,⟨b,fR1 f,e.start⟩,m⟩
 ·clear a f m e b d;rintro k d Z' L ⟨g,a,⟨b,f,e⟩,m⟩;have z:=M4 L;have q:Z'.row Z.n=some ca:=eT (m.row (by simp)) cL;have E:=m.n;simp only[G3]at E;have u:Ext Z Z':=E0.trans m;obtain⟨x,I⟩:=I1 L;obtain⟨sp,rfl,l3,l4⟩:=t1 om;have A:=eT (u.row l3) l4;have H:=t2 k x I;refine gS1 (aI g (aI a (aI f (aI z (aI q s7))))) ?_;obtain⟨S,hS⟩:=nW Z';rw[hS]at q A m u ⊢;obtain⟨X,R⟩:∃ X:Prop,X=(A4 T k/\An7 x):=⟨_,rfl⟩
  refine Ji (fun r=>∃ fr',r=⟨.normal,fr',S⟩/\fr'.get 11=some (.int .i64 k)/\fr'.get 1=some (.pointer (some ⟨Z.n,0,none⟩))/\∃ b,fr'.get 3=some (.bool b)/\Bi b X) ?_ ?_
  ·rw[R];cases b with
   | false=>
     refine gS1 (aI g (aI a f)) ?_;exact⟨_,rfl,fR1 g,fR1 a,_,fR,e.f1⟩
   |true=>
   cases F:decide (x=[112,114,105,99,101])with
   | true=>
     refine gS1 (aI g (aI a (aI f (aI q (aI s7 (aI A (aI H F))))))) ?_;exact⟨_,rfl,fR1 g,fR1 a,_,fR,e.t (Bi.yes (.inl (z6z F)))⟩
   | false=>
     refine gS1 (aI g (aI a (aI f (aI q (aI s7 (aI A (aI H F))))))) ?_;refine Lp.mono ?_;rintro r rfl;rw[OH];refine gS ?_;exact⟨_,rfl,fR1 g,fR1 a,_,fR,e.t (Bi.mk (fun h=> .inr h) (fun h=>h.resolve_left (z9z F)))⟩
  clear g a f e b;rintro r ⟨d,rfl,g,a,b,f,e⟩;refine gS ?_
  refine G8 k (fun j d B=>d.get 12=some (.int .i64 j)/\d.get 11=some (.int .i64 k)/\d.get 1=some (.pointer (some ⟨Z.n,0,none⟩))/\(∃ b,d.get 3=some (.bool b)/\Bi b (X/\UpT (DF id T.AQ x) j))/\B=S)
   (fun r=>∃ d,r=⟨.exit 12,d,S⟩/\d.get 11=some (.int .i64 k)/\d.get 1=some (.pointer (some ⟨Z.n,0,none⟩))/\(∃ b,d.get 3=some (.bool b)/\Bi b (X/\UpT (DF id T.AQ x) k))) ?_ ?_ ?_ ?_
  ·exact⟨fR,fR1 g,fR1 a,⟨_,fR1 f,e.start⟩,rfl⟩
  ·clear f e b;rintro j d B hj ⟨G,s,a,⟨b,f,e⟩,rfl⟩;have z:=M4 hj;cases b with
   | false=>
     refine gS1 (aI G (aI s (aI a (aI f z)))) ?_;exact⟨fR,fR1 s,fR1 a,⟨_,fR,e.fs⟩,by trivial⟩
   | true=>
     obtain⟨y,J⟩:=I1 (show j<T.AQ.length by omega);have N:=t2 j y J;cases D:decide (y=x)with
     | true=>
       refine gS1 (aI G (aI s (aI a (aI f (aI z (aI q (aI s7 (aI A (aI N (aI H D)))))))))) ?_;exact⟨fR,fR1 s,fR1 a,⟨_,fR,e.dup J (z6z D)⟩,by trivial⟩
     | false=>
       refine gS1 (aI G (aI s (aI a (aI f (aI z (aI q (aI s7 (aI A (aI N (aI H D)))))))))) ?_;exact⟨fR,fR1 s,fR1 a,⟨_,fR,e.new J (z9z D)⟩,by trivial⟩
  ·clear f e b;rintro d B ⟨G,s,a,⟨b,f,e⟩,rfl⟩;refine gS1 (aI G s) ?_;exact⟨_,rfl,fR1 s,fR1 a,⟨b,fR1 f,e⟩⟩
  clear f e b;rintro r ⟨d,rfl,g,a,⟨b,f,e⟩⟩;refine gS1 (aI g a) ?_;exact⟨fR,fR1 a,⟨b,fR1 f,e.nd R I⟩,m⟩
 ·rintro d Z' ⟨g,a,⟨b,f,e⟩,m⟩;have q:Z'.row Z.n=some ca:=eT (m.row (by simp)) cL;refine gS1 (aI g (aI a (aI q s7))) ?_;exact⟨_,_,rfl,fR1 a,⟨b,fR1 f,e⟩,m⟩
 rintro r ⟨d,Z',rfl,a,⟨b,f,e⟩,m⟩;refine gS ?_
 refine G8 vs.length (fun k d Z'=>d.get 13=some (.int .i64 k)/\d.get 1=some (.pointer (some ⟨Z.n,0,none⟩))/\(∃ b,d.get 3=some (.bool b)/\Bi b (A5 T k))/\Ext (Z.new ca) Z')
  (fun r=>∃ d Z',r=⟨.exit 14,d,Z'⟩/\d.get 1=some (.pointer (some ⟨Z.n,0,none⟩))/\(∃ b,d.get 3=some (.bool b)/\Bi b (A5 T T.K7.length))/\Ext (Z.new ca) Z') ?_ ?_ ?_ ?_
 ·exact⟨fR,fR1 a,⟨b,fR1 f,e.start⟩,m⟩
 ·clear a f m e b d;rintro k d Z' L ⟨g,a,⟨b,f,e⟩,m⟩;have z:=M4 L;have q:Z'.row Z.n=some ca:=eT (m.row (by simp)) cL;have E:=m.n;simp only[G3]at E;have u:Ext Z Z':=E0.trans m;obtain⟨x',a0⟩:=I1 L;obtain⟨C,I⟩:=I1 (show k<T.K7.length by omega);obtain⟨ia,ic,ib,io,ics,rfl,i1,i2⟩:=(h8.get a0 I).use;have LC:=hC C (Ag I);obtain⟨sp,rfl,l3,l4⟩:=k1 om;have A:=eT (u.row l3) l4;have H:=k2 k _ a0;rw[Ip]at H;have q3:decide (12<(C.length:Int))=false:=dF;refine gS1 (aI g (aI a (aI f (aI z (aI q (aI s9 (aI A H))))))) ?_;obtain⟨S,hS⟩:=nW Z';rw[hS]at q A m u ⊢;obtain⟨Y,hY⟩:∃ Y:Prop,Y=(A5 T k/\2<=C.length):=⟨_,rfl⟩
  refine Ji (fun r=>∃ fr',r=⟨.normal,fr',S⟩/\fr'.get 13=some (.int .i64 k)/\fr'.get 1=some (.pointer (some ⟨Z.n,0,none⟩))/\fr'.get 14=some (.slice ia C.length ic)/\∃ b,fr'.get 3=some (.bool b)/\Bi b Y) ?_ ?_
  ·rw[hY];cases b with
   | false=>
     refine gS ?_;exact⟨_,rfl,fR1 g,fR1 a,fR,_,fR,e.f1⟩
   |true=>
   refine gS ?_;cases F:decide ((C.length:Int)<2)with
   | true=>
     refine gS1 F ?_;exact⟨_,rfl,fR1 g,fR1 a,fR,_,fR,e.t (Bi.no fun h=>by have:=z6z F;omega)⟩
   | false=>
     refine gS1 (aI F q3) ?_;exact⟨_,rfl,fR1 g,fR1 a,fR,_,fR,e.t (Bi.yes (by have:=z9z F;omega))⟩
  clear g a f e b;rintro r ⟨d,rfl,g,a,l,b,f,e⟩;refine gS ?_
  refine G8 C.length (fun i d B=>d.get 15=some (.int .i64 i)/\d.get 13=some (.int .i64 k)/\d.get 1=some (.pointer (some ⟨Z.n,0,none⟩))/\d.get 14=some (.slice ia C.length ic)/\(∃ b,d.get 3=some (.bool b)/\Bi b (Y/\UpT (ND (SmB 1) id C) i))/\B=S)
   (fun r=>∃ d,r=⟨.exit 16,d,S⟩/\d.get 13=some (.int .i64 k)/\d.get 1=some (.pointer (some ⟨Z.n,0,none⟩))/\(∃ b,d.get 3=some (.bool b)/\Bi b (Y/\UpT (ND (SmB 1) id C) C.length))) ?_ ?_ ?_ ?_
  ·exact⟨fR,fR1 g,fR1 a,fR1 l,⟨b,fR1 f,e.start⟩,rfl⟩
  ·clear g a f l e b d;rintro i d B hi ⟨o,p,a,l,⟨b,f,e⟩,rfl⟩;have z:=M4 hi;obtain⟨x,a1⟩:=I1 hi;obtain⟨sp,rfl,l3,l4⟩:=i1 om;have w3:=eT (u.row l3) l4;have N:=i2 i x a1;refine gS1 (aI o (aI l (aI z f))) ?_;obtain⟨S,hS⟩:=nW B;rw[hS]at q A w3 m u ⊢;obtain⟨X,R⟩:∃ X:Prop,X=((Y/\UpT (ND (SmB 1) id C) i)/\SmB 1 x):=⟨_,rfl⟩
   refine Ji (fun r=>∃ fr',r=⟨.normal,fr',S⟩/\fr'.get 15=some (.int .i64 i)/\fr'.get 13=some (.int .i64 k)/\fr'.get 1=some (.pointer (some ⟨Z.n,0,none⟩))/\fr'.get 14=some (.slice (some ⟨ib,io,sp⟩) C.length ic)/\∃ b,fr'.get 3=some (.bool b)/\Bi b X) ?_ ?_
   ·rw[R];cases b with
    | false=>
      refine gS1 f ?_;exact⟨_,rfl,fR1 o,fR1 p,fR1 a,fR1 l,_,fR,e.f1⟩
    |true=>
    refine gS1 (aI o (aI l (aI w3 N))) ?_;refine CK.mono ?_;rintro r ⟨b1,rfl,v⟩;refine gS1 f ?_;exact⟨_,rfl,fR1 o,fR1 p,fR1 a,fR1 l,_,fR,e.t v⟩
   clear o p l a f e b d;rintro r ⟨d,rfl,o,p,a,l,b,f,e⟩;refine gS ?_
   refine G8 i (fun j d B=>d.get 16=some (.int .i64 j)/\d.get 15=some (.int .i64 i)/\d.get 13=some (.int .i64 k)/\d.get 1=some (.pointer (some ⟨Z.n,0,none⟩))/\d.get 14=some (.slice (some ⟨ib,io,sp⟩) C.length ic)/\(∃ b,d.get 3=some (.bool b)/\Bi b (X/\UpT (DF id C x) j))/\B=S)
    (fun r=>∃ d,r=⟨.exit 18,d,S⟩/\d.get 15=some (.int .i64 i)/\d.get 13=some (.int .i64 k)/\d.get 1=some (.pointer (some ⟨Z.n,0,none⟩))/\d.get 14=some (.slice (some ⟨ib,io,sp⟩) C.length ic)/\(∃ b,d.get 3=some (.bool b)/\Bi b (X/\UpT (DF id C x) i))) ?_ ?_ ?_ ?_
   ·exact⟨fR,fR1 o,fR1 p,fR1 a,fR1 l,⟨b,fR1 f,e.start⟩,rfl⟩
   ·clear o p l a f e b d;rintro j d B hj ⟨O,o,p,a,l,⟨b,f,e⟩,rfl⟩;have z:=M4 hj;obtain⟨y,J⟩:=I1 (show j<C.length by omega);have n2:=i2 j y J;cases b with
    | false=>
      refine gS1 (aI O (aI o (aI p (aI a (aI l (aI f z)))))) ?_;exact⟨fR,fR1 o,fR1 p,fR1 a,fR1 l,⟨_,fR,e.fs⟩,by trivial⟩
    | true=>
      cases D:decide (y=x)with
      | true=>
        refine gS1 (aI O (aI o (aI p (aI a (aI l (aI f (aI z (aI w3 (aI N (aI n2 D)))))))))) ?_;exact⟨fR,fR1 o,fR1 p,fR1 a,fR1 l,⟨_,fR,e.dup J (z6z D)⟩,by trivial⟩
      | false=>
        refine gS1 (aI O (aI o (aI p (aI a (aI l (aI f (aI z (aI w3 (aI N (aI n2 D)))))))))) ?_;exact⟨fR,fR1 o,fR1 p,fR1 a,fR1 l,⟨_,fR,e.new J (z9z D)⟩,by trivial⟩
   ·clear o p l a f e b;rintro d B ⟨O,o,p,a,l,⟨b,f,e⟩,rfl⟩;refine gS1 (aI O o) ?_;exact⟨_,rfl,fR1 o,fR1 p,fR1 a,fR1 l,⟨b,fR1 f,e⟩⟩
   clear o p l a f e b d;rintro r ⟨d,rfl,o,p,a,l,⟨b,f,e⟩⟩;refine gS1 o ?_;exact⟨fR,fR1 p,fR1 a,fR1 l,⟨b,fR1 f,e.nd R a1⟩,by trivial⟩
  ·clear g a f l e b d;rintro d B ⟨o,p,a,l,⟨b,f,e⟩,rfl⟩;refine gS1 (aI o l) ?_;exact⟨_,rfl,fR1 p,fR1 a,⟨b,fR1 f,e⟩⟩
  clear g a f l e b d;rintro r ⟨d,rfl,g,a,⟨b,f,e⟩⟩;refine gS1 g ?_;exact⟨fR,fR1 a,⟨b,fR1 f,e.cmb hY I⟩,m⟩
 ·rintro d Z' ⟨g,a,⟨b,f,e⟩,m⟩;have q:Z'.row Z.n=some ca:=eT (m.row (by simp)) cL;refine gS1 (aI g (aI a (aI q s9))) ?_;exact⟨_,_,rfl,fR1 a,⟨b,fR1 f,(L6 ▸ e)⟩,m⟩
 rintro r ⟨d,Z',rfl,a,⟨b,f,e⟩,m⟩;refine gS ?_;refine gS1 (aI f @Tryz.results122) ?_;exact⟨b,_,rfl,E0.trans m,e.trans (xU L0 L1 L2 L3 L4 om)⟩
end Go.Proofs.T
