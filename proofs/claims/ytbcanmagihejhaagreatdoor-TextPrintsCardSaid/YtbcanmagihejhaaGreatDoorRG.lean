/- The reference Ic right Ag: numbers up to the Ao2. -/
import Derived.Test.YtbcanmagihejhaaGreatDoorRC
set_option linter.unusedSimpArgs false
set_option linter.unusedVariables false
set_option linter.defProp false
set_option maxHeartbeats 32000000
set_option maxRecDepth 100000
namespace Go.Proofs.T
open Go Go.Ab
open Nat (reduceMul reduceEqDiff reduceAdd)
structure Tn.Si (T:Tn):Prop where
 lot:∀ l∈T.F9,In9 l.id/\In9 l.G4
 Y7:∀ c∈T.E9,(c.kind=1\/c.kind=2)/\In9 c.low/\In9 c.high
 req:∀ r∈T.reqs,In9 r.value
 combo:∀ l∈T.C8,∀ n∈l,In9 n
 low:In9 T.low
 high:In9 T.high
 G4:In9 T.G4
 C9:In9 T.C9
 tim:In9 T.t.q/\In9 T.t.b/\In9 T.t.g/\In9 T.t.p/\In9 T.t.s
def BL.si {T:Tn}(h:BL T):T.Si :=
 ⟨fun l d=>⟨by obtain⟨a,b,c⟩:=h.lot l d;exact⟨om,b⟩,(h.lot l d).2.2⟩,fun c e=>(h.Y7 c e).2,fun r g=>(h.req r g).2.2,fun l d n f=>by
  have:=(h.combo l d).2.2.2 n f;exact⟨om,this.2⟩,h.low,h.high,h.G4,h.C9,h.t⟩
def Dv {n:Int}(h:In9 n):(dcN n.toNat).length<=10:=Ia 9 _ (by have:=h.1;have:=h.2;omega)
def BB {Z:St}{n:Int}(h:In9 n):Ev (gO 100 [.int .i64 n] Z) (fun r=>∃ Z',r=⟨false,str (dcN n.toNat),Z'⟩/\Ext Z Z') ⟨⟩:=by
 obtain⟨N,rfl⟩:=KR h.1;have a:=h.2;exact Il (n:=N) om
def WC {Z:St}{ca:List Value}{T:Tn}(hT:Bj Z ca T) (J:BL T):Ev (gO 60 [.agg ⟨ca⟩] Z) (fun r=>∃ Z',r=⟨false,str (DY T),Z'⟩/\Ext Z Z') ⟨⟩:=by
 obtain⟨vl,vc,vr,ex,vt,vk,I,h2,h3,h4,h5,h6,vs,h7,h8⟩:=hT.parts;obtain⟨la,lc,lb,lo,lcs,rfl,l1,l2⟩:=h2.use;obtain⟨ca',cc,cb,co,ccs,rfl,c1,c2⟩:=h3.use;obtain⟨ra,rc,rb,ro,rcs,rfl,r1,r2⟩:=h4.use;obtain⟨ta,tc,tb,to',tcs,rfl,t1,t2⟩:=h6.use;obtain⟨ka,kc,kb,ko,kcs,rfl,k1,k2⟩:=SL.SU h7;have A:=J.si;have a5:=I.all;have L0:=Mp J.name;have L1:=J.F9;have L2:=J.E9;have L3:=J.reqs;have L4:=J.H2;have L5:=J.C8;obtain⟨kf,jf,hf,Ao3,BX4⟩:=J.f;have L6:=h8.len;have s0:=I.p0;have s1:=I.p1;have s2:=I.p2;have s3:=I.p3;have s4:=I.p4;have s5:=I.p5;have s6:=I.p6;have s7:=I.p11;have s8:=I.p12;have s9:=I.p13;have a7:=I.p14;have a8:=I.p15;refine G1 Tryz.func60 rfl rfl ?_;refine gS1 (aI a5 s0) ?_;have M:Ext Z (Z.new ca):=eX
 refine I9 T.F9.length (fun k fr Z'=>fr.get 4=some (.int .i64 k)/\fr.get 1=some (.pointer (some ⟨Z.n,0,none⟩))/\(∃ s,fr.get 3=some (str s)/\s=B0 T++under ((T.F9.take k).map gl)/\s.length<=200+100*k)/\Ext (Z.new ca) Z')
  (fun r=>∃ fr Z',r=⟨.exit 0,fr,Z'⟩/\fr.get 1=some (.pointer (some ⟨Z.n,0,none⟩))/\(∃ s,fr.get 3=some (str s)/\s=B1 T/\s.length<=2000)/\Ext (Z.new ca) Z') ?_ ?_ ?_ ?_
 ·exact⟨fR,fR,⟨_,fR,(by rw[AU,Ca];simp[B0,nl,BI,spJ,LM.word,LM.txt]),by simp;omega⟩,.refl _⟩
 ·skip
  rintro k fr Z' F ⟨g4,c,⟨s,g3,a,o⟩,d⟩;have W:=M3 F;have l:Z'.row Z.n=some ca:=eT (d.row (by simp)) cL;have j:=d.n;simp only[K9]at j;have u:Ext Z Z':=M.trans d;obtain⟨x,E⟩:=I3 F;obtain⟨sp,rfl,l3,l4⟩:=l1 om;have G:=eT (u.row l3) l4;obtain⟨-,X,m2⟩:=l2 k x E;obtain⟨z1,z2⟩:=A.lot x (y6 E);have K:=Dv z1;have a1:=Dv z2;refine gS1 (aI g4 (aI c (aI g3 (aI W (aI l (aI s1 (aI G X))))))) ?_;refine(BB z1).mono ?_;rintro r ⟨Z2,rfl,e⟩;have n2:=e.n;have l:=eT (e.row om) l;have G:=eT (e.row om) G;refine gS1 (aI g4 (aI c (aI l (aI s1 (aI G m2))))) ?_;refine(BB z2).mono ?_;rintro r ⟨Z3,rfl,m⟩;refine gS1 (aI (asx e) (aI (asx m) (aI g4 c))) ?_
  try refine dW1 (aI (asx e) (asx m)) ?_
  try(refine gS1 (aI g4 c) ?_;try exact⟨⟩)
  exact⟨fR,fR1 c,⟨_,fR,(by rw[a,Co E];simp[gl,BI,spJ,LM.word,LM.txt,eF]),by simp;omega⟩,d.trans (e.trans m)⟩
 ·rintro fr Z' ⟨g4,c,⟨s,g3,a,o⟩,d⟩;have l:Z'.row Z.n=some ca:=eT (d.row (by simp)) cL;refine gS1 (aI g4 (aI c (aI l s1))) ?_;exact⟨_,_,rfl,fR1 c,⟨s,fR1 g3,(by rw[a,AV];rfl),om⟩,d⟩
 rintro r ⟨fr,Z',rfl,c,⟨s,g3,a,o⟩,d⟩;refine gS ?_
 refine I9 T.E9.length (fun k fr Z'=>fr.get 5=some (.int .i64 k)/\fr.get 1=some (.pointer (some ⟨Z.n,0,none⟩))/\(∃ s,fr.get 3=some (str s)/\s=B1 T++under ((T.E9.take k).map gc)/\s.length<=2000+100*k)/\Ext (Z.new ca) Z')
  (fun r=>∃ fr Z',r=⟨.exit 2,fr,Z'⟩/\fr.get 1=some (.pointer (some ⟨Z.n,0,none⟩))/\(∃ s,fr.get 3=some (str s)/\s=B2 T/\s.length<=4000)/\Ext (Z.new ca) Z') ?_ ?_ ?_ ?_
 ·exact⟨fR,fR1 c,⟨_,fR1 g3,(by rw[AU,Ca];exact a),by(try simp)<;>omega⟩,d⟩
 ·clear c g3 a o d s fr;rintro k fr Z' F ⟨g4,c,⟨s,g3,a,o⟩,d⟩;have W:=M3 F;have l:Z'.row Z.n=some ca:=eT (d.row (by simp)) cL;have j:=d.n;simp only[K9]at j;have u:Ext Z Z':=M.trans d;obtain⟨x,E⟩:=I3 F;obtain⟨sp,rfl,l3,l4⟩:=c1 om;have G:=eT (u.row l3) l4;obtain⟨m0,X,-⟩:=c2 k x E;have L:=y6 E;obtain⟨kd,z1,z2⟩:=A.Y7 x L;have ln:=SG (J.Y7 x L).1;have K:=Dv z1;have a1:=Dv z2;unfold S8.row at m0;refine gS1 (aI g4 (aI c (aI W (aI l (aI s2 (aI G m0)))))) ?_;obtain⟨S,z⟩:=nW (((Z'.new [str [],.int .i64 0,.int .i64 0,.int .i64 0,.bool false] (some 80)).upd Z'.n [str x.name,.int .i64 x.kind,.int .i64 x.low,.int .i64 x.high,.bool x.less]));rw[z];have E1:Ext Z' S:=by rw[<- z];exact eX
  have nS:S.n=Z'.n+1:=by rw[<- z];rfl
  have D:S.row Z'.n=some [str x.name,.int .i64 x.kind,.int .i64 x.low,.int .i64 x.high,.bool x.less]:=by rw[<- z];exact cL
  clear z;have ix:∃ t:By,t.length=5/\t=(if x.kind.toNat=2 then CH else Fj)/\sub [str [103,114,97,100,101],str [111,102,102,101,114]] (x.kind-1).toNat 1=some [str t]/\(∃ q:Nat,x.kind=(q:Int)+1/\q<2):=by
   rcases kd with h|h
   ·exact⟨[103,114,97,100,101],rfl,by rw[h];rfl,by rw[h];rfl,0,om,om⟩
   ·exact⟨[111,102,102,101,114],rfl,by rw[h];rfl,by rw[h];rfl,1,om,om⟩
  obtain⟨t,ht,a6,ix,q,hq,q2⟩:=ix;rw[hq]at D ix;rw[show((q:Int)+1-1).toNat=q by omega]at ix;have e1:(((q+1:Nat):Int)-1)=(q:Int):=om;refine gS1 (aI g3 (aI D (aI e1 ix))) ?_;refine(BB z1).mono ?_;rintro r ⟨Z2,rfl,e⟩;have n2:=e.n;simp only[K9]at n2;have a2:Z2.row Z'.n=some [str x.name,.int .i64 ((q:Int)+1),.int .i64 x.low,.int .i64 x.high,.bool x.less]:=by rw[e.row (cL),CQ om];exact D
  refine gS1 a2 ?_;refine(BB z2).mono ?_;rintro r ⟨Z3,rfl,m⟩;have n3:=m.n;have a3:=eT (m.row om) a2;have a4:Ext (Z.new ca) Z3:=d.trans (E1.trans (Ext.trans (Ext.trans (Ext.Aw (.refl _) _) e) m));refine gS1 (aI (asx e) (aI (asx m) (aI @N1 (aI g4 (aI c a3))))) ?_
  try refine dW1 (aI (asx e) (asx m)) ?_
  try(refine gS1 (aI g4 (aI c a3)) ?_;try exact⟨⟩)
  cases hl:x.less
  all_goals
   refine gS1 (aI hl (aI g4 c)) ?_;exact⟨fR,fR1 c,⟨_,fR,(by rw[a,Co E];simp[gc,BI,spJ,LM.word,LM.txt,hl,a6,Dy]),by simp;omega⟩,a4⟩
 ·rintro fr Z' ⟨g4,c,⟨s,g3,a,o⟩,d⟩;have l:Z'.row Z.n=some ca:=eT (d.row (by simp)) cL;refine gS1 (aI g4 (aI c (aI l s2))) ?_;exact⟨_,_,rfl,fR1 c,⟨s,fR1 g3,(by rw[a,AV];rfl),om⟩,d⟩
 clear c g3 a o d s fr;rintro r ⟨fr,Z',rfl,c,⟨s,g3,a,o⟩,d⟩;refine gS ?_
 refine I9 T.reqs.length (fun k fr Z'=>fr.get 7=some (.int .i64 k)/\fr.get 1=some (.pointer (some ⟨Z.n,0,none⟩))/\(∃ s,fr.get 3=some (str s)/\s=B2 T++under ((T.reqs.take k).map gr)/\s.length<=4000+100*k)/\Ext (Z.new ca) Z')
  (fun r=>∃ fr Z',r=⟨.exit 4,fr,Z'⟩/\fr.get 1=some (.pointer (some ⟨Z.n,0,none⟩))/\(∃ s,fr.get 3=some (str s)/\s=B3 T/\s.length<=8000)/\Ext (Z.new ca) Z') ?_ ?_ ?_ ?_
 ·exact⟨fR,fR1 c,⟨_,fR1 g3,(by rw[AU,Ca];exact a),by(try simp)<;>omega⟩,d⟩
 ·clear c g3 a o d s fr;rintro k fr Z' F ⟨g4,c,⟨s,g3,a,o⟩,d⟩;have W:=M3 F;have l:Z'.row Z.n=some ca:=eT (d.row (by simp)) cL;have j:=d.n;simp only[K9]at j;have u:Ext Z Z':=M.trans d;obtain⟨x,E⟩:=I3 F;obtain⟨sp,rfl,l3,l4⟩:=r1 om;have G:=eT (u.row l3) l4;obtain⟨m0,X,-⟩:=r2 k x E;have L:=y6 E;have z1:=A.req x L;have K:=Dv z1;have ln:=SG (J.req x L).1;have lr:x.rel.length<=2:=by
   have:=(J.req x L).2.1;simp at this;rcases this with h|h<;>rw[h]<;>decide
  unfold Req.row at m0;refine gS1 (aI g4 (aI c (aI g3 (aI W (aI l (aI s3 (aI G m0))))))) ?_;obtain⟨S,z⟩:=nW (((Z'.new [str [],str [],.int .i64 0] (some 82)).upd Z'.n [str x.name,str x.rel,.int .i64 x.value]));rw[z];have E1:Ext Z' S:=by rw[<- z];exact eX
  refine(BB z1).mono ?_;rintro r ⟨Z2,rfl,e⟩;refine gS1 (aI (asx e) (aI g4 c)) ?_
  try refine dW1 (asx e) ?_
  try(refine gS1 (aI g4 c) ?_;try exact⟨⟩)
  exact⟨fR,fR1 c,⟨_,fR,(by rw[a,Co E];simp[gr,BI,spJ,LM.word,LM.txt]),by simp;omega⟩,d.trans (E1.trans e)⟩
 ·rintro fr Z' ⟨g4,c,⟨s,g3,a,o⟩,d⟩;have l:Z'.row Z.n=some ca:=eT (d.row (by simp)) cL;refine gS1 (aI g4 (aI c (aI l s3))) ?_;exact⟨_,_,rfl,fR1 c,⟨s,fR1 g3,(by rw[a,AV];rfl),om⟩,d⟩
 clear c g3 a o d s fr;rintro r ⟨fr,Z',rfl,c,⟨s,g3,a,o⟩,d⟩;refine Ev.mono (R:=fun r=>r=⟨.normal,fr,Z'⟩) (v:=⟨⟩) (by simp(maxSteps:=8000000) (disch:=first|exact dS|fail) only[↓bD,bW,reduceMul,reduceEqDiff,reduceAdd,Nat.reduceBEq,reduceIte,Option.isNone_none]) ?_;rintro r rfl;simp only[Bw];refine Du (fun fr Z'=>fr.get 1=some (.pointer (some ⟨Z.n,0,none⟩))/\(∃ s,fr.get 3=some (str s)/\s=B4 T/\s.length<=60000)/\Ext (Z.new ca) Z') ?_ ?_
 ·
  have l:Z'.row Z.n=some ca:=eT (d.row (by simp)) cL;have j:=d.n;simp only[K9]at j;have u:Ext Z Z':=M.trans d;refine gS1 (aI c (aI g3 (aI l s4))) ?_;have K:=Dv A.low;have a1:=Dv A.high;refine(BB A.low).mono ?_;rintro r ⟨Z2,rfl,e⟩;have n2:=e.n;have G:=eT (e.row om) l;refine gS1 (aI c (aI G s5)) ?_;refine(BB A.high).mono ?_;rintro r ⟨Z3,rfl,m⟩;have n3:=m.n;have w3:=eT (m.row om) G;have E3:Ext Z Z3:=u.trans (e.trans m);refine gS1 (aI c (aI w3 s6)) ?_;have a9:=Df hf 12 0 Ao3;refine(kQ hf 12 Ao3 om om (h5.mono E3)).mono ?_;rintro r ⟨Z4,rfl,a0⟩;refine gS1 (aI (asx e) (aI (asx m) (aI (asx a0) c))) ?_
  try refine dW1 (aI (asx e) (aI (asx m) (asx a0))) ?_
  exact⟨_,_,rfl,fR1 c,⟨_,fR,(by rw[a];simp[B4,nl,BI,spJ,LM.word,LM.txt]),by simp;omega⟩,d.trans (e.trans (m.trans a0))⟩
 clear c g3 a o d s fr Z';rintro fr Z' ⟨c,⟨s,g3,a,o⟩,d⟩;refine Du (fun fr Z'=>fr.get 1=some (.pointer (some ⟨Z.n,0,none⟩))/\(∃ s,fr.get 3=some (str s)/\s=B5 T/\s.length<=62000)/\Ext (Z.new ca) Z') ?_ ?_
 ·
  have l:Z'.row Z.n=some ca:=eT (d.row (by simp)) cL;have j:=d.n;simp only[K9]at j;have u:Ext Z Z':=M.trans d;refine gS1 (aI c (aI l s7)) ?_;cases ht:decide (0<(T.H2.length:Int))with
  | false=>
    refine gS ?_;exact⟨_,_,rfl,fR1 c,⟨_,fR1 g3,(by rw[a];unfold B5;rw[z1z (NV (by have:=z9z ht;omega)),Ca]),om⟩,d⟩
  | true=>
    refine gS1 g3 ?_
    refine I9 T.H2.length (fun k fr Z'=>fr.get 9=some (.int .i64 k)/\fr.get 1=some (.pointer (some ⟨Z.n,0,none⟩))/\(∃ s,fr.get 3=some (str s)/\s=B4 T++(QS++blk (T.H2.take k))/\s.length<=60010+100*k)/\Ext (Z.new ca) Z')
     (fun r=>∃ fr Z',r=⟨.exit 6,fr,Z'⟩/\fr.get 1=some (.pointer (some ⟨Z.n,0,none⟩))/\(∃ s,fr.get 3=some (str s)/\s=B4 T++(QS++blk T.H2)/\s.length<=61900)/\Ext (Z.new ca) Z') ?_ ?_ ?_ ?_
    ·exact⟨fR,fR1 c,⟨_,fR1 g3,(by rw[a];simp[QS,blk]),by(try simp)<;>omega⟩,d⟩
    ·clear c g3 a o d s fr;rintro k fr Z' F ⟨g4,c,⟨s,g3,a,o⟩,d⟩;have W:=M3 F;have l:Z'.row Z.n=some ca:=eT (d.row (by simp)) cL;have j:=d.n;simp only[K9]at j;have u:Ext Z Z':=M.trans d;obtain⟨x,E⟩:=I3 F;obtain⟨sp,rfl,l3,l4⟩:=t1 om;have G:=eT (u.row l3) l4;have X:=t2 k x E;have ln:x.length<=30:=by
      rcases J.tie x (y6 E)with h|h
      ·rw[h];decide
      ·exact SG h
     refine gS1 (aI g4 (aI c (aI g3 (aI W (aI l (aI s7 (aI G X))))))) ?_;exact⟨fR,fR1 c,⟨_,fR,(by rw[a,sn E];simp),by simp;omega⟩,d⟩
    ·rintro fr Z' ⟨g4,c,⟨s,g3,a,o⟩,d⟩;have l:Z'.row Z.n=some ca:=eT (d.row (by simp)) cL;refine gS1 (aI g4 (aI c (aI l s7))) ?_;exact⟨_,_,rfl,fR1 c,⟨s,fR1 g3,(by rw[a,Dq]),om⟩,d⟩
    rintro r ⟨fr,Z',rfl,c,⟨s,g3,a,o⟩,d⟩;refine gS1 g3 ?_;exact⟨_,_,rfl,fR1 c,⟨_,fR,(by rw[a];unfold B5;rw[z0z (by intro h0;rw[h0]at ht;simp at ht),show BI (.tie T.H2)=QS++blk T.H2 from Jl _ _];simp[nl]),by simp;omega⟩,d⟩
 clear c g3 a o d s fr Z';rintro fr Z' ⟨c,⟨s,g3,a,o⟩,d⟩;refine Du (fun fr Z'=>fr.get 1=some (.pointer (some ⟨Z.n,0,none⟩))/\(∃ s,fr.get 3=some (str s)/\s=B6 T/\s.length<=62100)/\Ext (Z.new ca) Z') ?_ ?_
 ·
  have l:Z'.row Z.n=some ca:=eT (d.row (by simp)) cL;have j:=d.n;simp only[K9]at j;have u:Ext Z Z':=M.trans d;refine gS1 (aI c (aI l s8)) ?_;cases hm:decide (T.G4=0)with
  | true=>
    refine gS ?_;exact⟨_,_,rfl,fR1 c,⟨_,fR1 g3,(by rw[a];unfold B6;rw[z1z (z6z hm),Ca]),om⟩,d⟩
  | false=>
    refine gS1 (aI c (aI g3 (aI l s8))) ?_;have K:=Dv A.G4;refine(BB A.G4).mono ?_;rintro r ⟨Z2,rfl,e⟩;refine gS ?_;exact⟨_,_,rfl,fR1 c,⟨_,fR,(by rw[a];unfold B6;rw[z0z (z9z hm)];simp[nl,BI,spJ,LM.word,LM.txt]),by simp;omega⟩,d.trans e⟩
 clear c g3 a o d s fr Z';rintro fr Z' ⟨c,⟨s,g3,a,o⟩,d⟩;refine gS ?_
 refine I9 vs.length (fun k fr Z'=>fr.get 10=some (.int .i64 k)/\fr.get 1=some (.pointer (some ⟨Z.n,0,none⟩))/\(∃ s,fr.get 3=some (str s)/\s=B6 T++under ((T.C8.take k).map gk)/\s.length<=62100+400*k)/\Ext (Z.new ca) Z')
  (fun r=>∃ fr Z',r=⟨.exit 8,fr,Z'⟩/\fr.get 1=some (.pointer (some ⟨Z.n,0,none⟩))/\(∃ s,fr.get 3=some (str s)/\s=B7 T/\s.length<=70000)/\Ext (Z.new ca) Z') ?_ ?_ ?_ ?_
 ·exact⟨fR,fR1 c,⟨_,fR1 g3,(by rw[AU,Ca];exact a),by(try simp)<;>omega⟩,d⟩
 ·clear c g3 a o d s fr;rintro k fr Z' F ⟨g4,c,⟨s,g3,a,o⟩,d⟩;have W:=M3 F;have l:Z'.row Z.n=some ca:=eT (d.row (by simp)) cL;have j:=d.n;simp only[K9]at j;have u:Ext Z Z':=M.trans d;obtain⟨x,E⟩:=I3 F;obtain⟨C,hC⟩:=I3 (show k<T.C8.length by omega);obtain⟨ia,ic,ib,io,ics,rfl,i1,i2⟩:=(h8.get E hC).use;have LC:=(J.combo C (y6 hC)).2.1;obtain⟨sp,rfl,l3,l4⟩:=k1 om;have G:=eT (u.row l3) l4;have X:=k2 k _ E;rw[Fh]at X;refine gS1 (aI g4 (aI c (aI g3 (aI W (aI l s9))))) ?_
  refine I9 C.length (fun i fr τ=>fr.get 11=some (.int .i64 i)/\fr.get 10=some (.int .i64 k)/\fr.get 1=some (.pointer (some ⟨Z.n,0,none⟩))/\(∃ s,fr.get 3=some (str s)/\s=B6 T++(under ((T.C8.take k).map gk)++(WJ++blk ((C.take i).map fun n=>dcN n.toNat)))/\s.length<=62110+400*k+20*i)/\Ext (Z.new ca) τ)
   (fun r=>∃ fr τ,r=⟨.exit 10,fr,τ⟩/\fr.get 10=some (.int .i64 k)/\fr.get 1=some (.pointer (some ⟨Z.n,0,none⟩))/\(∃ s,fr.get 3=some (str s)/\s=B6 T++(under ((T.C8.take k).map gk)++(WJ++blk (C.map fun n=>dcN n.toNat)))/\s.length<=62450+400*k)/\Ext (Z.new ca) τ) ?_ ?_ ?_ ?_
  ·exact⟨fR,fR1 g4,fR1 c,⟨_,fR,(by rw[a];simp[WJ,blk]),by simp;omega⟩,d⟩
  ·clear g4 c g3 a o s fr;rintro i fr τ hi ⟨Y,N,c,⟨s,g3,a,o⟩,hF⟩;have W:=M3 hi;obtain⟨y,hy⟩:=I3 hi;obtain⟨sp',rfl,l5,l6⟩:=i1 om;have zy:=A.combo C (y6 hC) y (y6 hy);have B:Ext Z τ:=M.trans hF;have v1:τ.row Z.n=some ca:=eT (hF.row (by simp)) cL;have v2:=eT (B.row l3) l4;have v3:=eT (B.row l5) l6;have n1:=i2 i y hy;refine gS1 (aI Y (aI N (aI c (aI g3 (aI W (aI v1 (aI s9 (aI v2 (aI X (aI v3 n1)))))))))) ?_;have K:=Dv zy;refine(BB zy).mono ?_;rintro r ⟨Z2,rfl,e⟩;refine gS1 Y ?_;exact⟨fR,fR1 N,fR1 c,⟨_,fR,(by rw[a,WI hy];simp),by simp;omega⟩,hF.trans e⟩
  ·clear g4 c g3 a o s fr;rintro fr τ ⟨Y,N,c,⟨s,g3,a,o⟩,hF⟩;have B:Ext Z τ:=M.trans hF;have v1:τ.row Z.n=some ca:=eT (hF.row (by simp)) cL;have v2:=eT (B.row l3) l4;refine gS1 (aI Y (aI N (aI c (aI v1 (aI s9 (aI v2 X)))))) ?_;exact⟨_,_,rfl,fR1 N,fR1 c,⟨s,fR1 g3,(by rw[a,Dq]),om⟩,hF⟩
  clear g4 c g3 a o s fr;rintro r ⟨fr,τ,rfl,g4,c,⟨s,g3,a,o⟩,hF⟩;refine gS1 (aI g4 g3) ?_;exact⟨fR,fR1 c,⟨_,fR,(by rw[a,Co hC,show gk C=WJ++blk ((C.map Int.toNat).map dcN)from Jl _ _,Td];simp;rfl),by simp;omega⟩,hF⟩
 ·rintro fr Z' ⟨g4,c,⟨s,g3,a,o⟩,d⟩;have l:Z'.row Z.n=some ca:=eT (d.row (by simp)) cL;refine gS1 (aI g4 (aI c (aI l s9))) ?_;exact⟨_,_,rfl,fR1 c,⟨s,fR1 g3,(by rw[a,L6,AV];rfl),om⟩,d⟩
 rintro r ⟨fr,Z',rfl,c,⟨s,g3,a,o⟩,d⟩;have l:Z'.row Z.n=some ca:=eT (d.row (by simp)) cL;have j:=d.n;simp only[K9]at j;have u:Ext Z Z':=M.trans d;refine gS1 (aI c (aI l a8)) ?_;obtain⟨S,z⟩:=nW (((Z'.new [.int .i64 0,.int .i64 0,.int .i64 0,.int .i64 0,.int .i64 0] (some 39)).upd Z'.n [.int .i64 T.t.q,.int .i64 T.t.b,.int .i64 T.t.g,.int .i64 T.t.p,.int .i64 T.t.s]));rw[z];have E1:Ext Z' S:=by rw[<- z];exact eX
 have nS:S.n=Z'.n+1:=by rw[<- z];rfl
 have D:S.row Z'.n=some [.int .i64 T.t.q,.int .i64 T.t.b,.int .i64 T.t.g,.int .i64 T.t.p,.int .i64 T.t.s]:=by rw[<- z];exact cL
 have l:=eT (E1.row om) l;have H:=u.trans E1;refine gS1 (aI c (aI g3 (aI l a7))) ?_;have K:=Dv A.C9;have b0:=Dv A.tim.1;have b1:=Dv A.tim.2.1;have b2:=Dv A.tim.2.2.1;have b3:=Dv A.tim.2.2.2.1;have b4:=Dv A.tim.2.2.2.2;refine(BB A.C9).mono ?_;rintro r ⟨Z2,rfl,e⟩;have n2:=e.n;have D:=eT (e.row om) D;have H:=H.trans e;refine gS1 D ?_;refine(BB A.tim.1).mono ?_;rintro r ⟨Z3,rfl,B⟩;have m0:=B.n;have D:=eT (B.row om) D;have H:=H.trans B;refine gS1 D ?_;refine(BB A.tim.2.1).mono ?_;rintro r ⟨Z4,rfl,O⟩;have X:=O.n;have D:=eT (O.row om) D;have H:=H.trans O;refine gS1 D ?_;refine(BB A.tim.2.2.1).mono ?_;rintro r ⟨Z5,rfl,Q⟩;have m2:=Q.n;have D:=eT (Q.row om) D;have H:=H.trans Q;refine gS1 D ?_;refine(BB A.tim.2.2.2.1).mono ?_;rintro r ⟨Z6,rfl,U⟩;have m3:=U.n;have D:=eT (U.row om) D;have H:=H.trans U;refine gS1 D ?_;refine(BB A.tim.2.2.2.2).mono ?_;rintro r ⟨Z7,rfl,V⟩;have m4:=V.n;have D:=eT (V.row om) D;have H:=H.trans V;refine gS1 (aI (asx B) (aI (asx O) (aI (asx Q) (aI (asx U) (aI (asx V) @Tryz.results60))))) ?_
 try refine dW1 (aI (asx B) (aI (asx O) (aI (asx Q) (aI (asx U) (asx V))))) ?_
 try(refine gS1 @Tryz.results60 ?_;try exact⟨⟩)
 refine⟨_,?_,H⟩;rw[ej,<- a];simp[nl,BI,spJ,LM.word,LM.txt]
end Go.Proofs.T
