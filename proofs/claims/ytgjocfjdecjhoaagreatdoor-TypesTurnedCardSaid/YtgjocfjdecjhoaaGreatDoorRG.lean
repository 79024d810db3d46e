/- The reference IV right ID: numbers up to the sQ. -/
import Derived.Test.YtgjocfjdecjhoaaGreatDoorRC
set_option linter.unusedSimpArgs false
set_option linter.unusedVariables false
set_option linter.defProp false
set_option maxHeartbeats 32000000
set_option maxRecDepth 100000
namespace Go.Proofs.T
open Go Go.Ab
open Nat (reduceMul reduceEqDiff reduceAdd)
structure Tn.Si (T:Tn):Prop where
 lot:∀ l∈T.u9,In9 l.id/\In9 l.y8
 Du:∀ c∈T.G9,(c.kind=1\/c.kind=2)/\In9 c.low/\In9 c.high
 req:∀ r∈T.reqs,In9 r.value
 combo:∀ l∈T.J9,∀ n∈l,In9 n
 low:In9 T.low
 high:In9 T.high
 y8:In9 T.y8
 V9:In9 T.V9
 tim:In9 T.t.q/\In9 T.t.b/\In9 T.t.g/\In9 T.t.p/\In9 T.t.s
def IG.si {T:Tn}(h:IG T):T.Si :=
 ⟨fun l hl=>⟨by obtain⟨a,b,c⟩:=h.lot l hl;exact⟨om,b⟩,(h.lot l hl).2.2⟩,fun c hc=>(h.Du c hc).2,fun r hr=>(h.req r hr).2.2,fun l hl n hn=>by
  have:=(h.combo l hl).2.2.2 n hn;exact⟨om,this.2⟩,h.low,h.high,h.y8,h.V9,h.t⟩
def Dh {n:Int}(h:In9 n):(dcN n.toNat).length<=10:=KO 9 _ (by have:=h.1;have:=h.2;omega)
def Ar {Z:St}{n:Int}(h:In9 n):Ev (gO 173 [.int .i64 n] Z) (fun r=>∃ Z',r=⟨false,str (dcN n.toNat),Z'⟩/\Ext Z Z') ⟨⟩:=by
 obtain⟨N,rfl⟩:=Fo h.1;have h2:=h.2;exact Ig (n:=N) om
def Wh {Z:St}{ca:List Value}{T:Tn}(hT:HW Z ca T) (hr:IG T):Ev (gO 124 [.agg ⟨ca⟩] Z) (fun r=>∃ Z',r=⟨false,str (Il T),Z'⟩/\Ext Z Z') ⟨⟩:=by
 obtain⟨vl,vc,vr,ex,vt,vk,hp,h2,h3,h4,h5,h6,vs,h7,h8⟩:=hT.parts;obtain⟨la,lc,lb,lo,lcs,rfl,l1,l2⟩:=h2.use;obtain⟨ca',cc,cb,co,ccs,rfl,c1,c2⟩:=h3.use;obtain⟨ra,rc,rb,ro,rcs,rfl,r1,r2⟩:=h4.use;obtain⟨ta,tc,tb,to',tcs,rfl,t1,t2⟩:=h6.use;obtain⟨ka,kc,kb,ko,kcs,rfl,k1,k2⟩:=SL.LD h7;have hS:=hr.si;have hfa:=hp.all;have L0:=Ml hr.name;have L1:=hr.u9;have L2:=hr.G9;have L3:=hr.reqs;have L4:=hr.AJ;have L5:=hr.J9;obtain⟨kf,jf,hf,Ao0,BP7⟩:=hr.f;have L6:=h8.len;have s0:=hp.p0;have s1:=hp.p1;have s2:=hp.p2;have s3:=hp.p3;have s4:=hp.p4;have s5:=hp.p5;have s6:=hp.p6;have s7:=hp.p11;have s8:=hp.p12;have s9:=hp.p13;have s10:=hp.p14;have s15:=hp.p15;refine C9 Tryz.func124 rfl rfl ?_;refine gS1 (aI hfa s0) ?_;have E0:Ext Z (Z.new ca):=eX
 refine I4 T.u9.length (fun k fr Z'=>fr.get 4=some (.int .i64 k)/\fr.get 1=some (.pointer (some ⟨Z.n,0,none⟩))/\(∃ s,fr.get 3=some (str s)/\s=B0 T++under ((T.u9.take k).map gl)/\s.length<=200+100*k)/\Ext (Z.new ca) Z')
  (fun r=>∃ fr Z',r=⟨.exit 0,fr,Z'⟩/\fr.get 1=some (.pointer (some ⟨Z.n,0,none⟩))/\(∃ s,fr.get 3=some (str s)/\s=B1 T/\s.length<=2000)/\Ext (Z.new ca) Z') ?_ ?_ ?_ ?_
 ·exact⟨fR,fR,⟨_,fR,(by rw[Ip,FV];simp[B0,nl,DK,spJ,LM.word,LM.txt]),by simp;omega⟩,.refl _⟩
 ·skip
  rintro k fr Z' hk ⟨g4,g1,⟨s,g3,hsp,hs⟩,hE⟩;have hc:=L9 hk;have w1:Z'.row Z.n=some ca:=eT (hE.row (by simp)) cL;have hEn:=hE.n;simp only[F6]at hEn;have hE0:Ext Z Z':=E0.trans hE;obtain⟨x,hx⟩:=H5 hk;obtain⟨sp,rfl,l3,l4⟩:=l1 om;have w2:=eT (hE0.row l3) l4;obtain⟨-,m1,m2⟩:=l2 k x hx;obtain⟨z1,z2⟩:=hS.lot x (Bs hx);have hu1:=Dh z1;have hu2:=Dh z2;refine gS1 (aI g4 (aI g1 (aI g3 (aI hc (aI w1 (aI s1 (aI w2 m1))))))) ?_;refine(Ar z1).mono ?_;rintro r ⟨Z2,rfl,hE2⟩;have n2:=hE2.n;have w1:=eT (hE2.row om) w1;have w2:=eT (hE2.row om) w2;refine gS1 (aI g4 (aI g1 (aI w1 (aI s1 (aI w2 m2))))) ?_;refine(Ar z2).mono ?_;rintro r ⟨Z3,rfl,hE3⟩;refine gS1 (aI (asx hE2) (aI (asx hE3) (aI g4 g1))) ?_
  try refine dW1 (aI (asx hE2) (asx hE3)) ?_
  try(refine gS1 (aI g4 g1) ?_;try exact⟨⟩)
  exact⟨fR,fR1 g1,⟨_,fR,(by rw[hsp,Io hx];simp[gl,DK,spJ,LM.word,LM.txt,AC0]),by simp;omega⟩,hE.trans (hE2.trans hE3)⟩
 ·rintro fr Z' ⟨g4,g1,⟨s,g3,hsp,hs⟩,hE⟩;have w1:Z'.row Z.n=some ca:=eT (hE.row (by simp)) cL;refine gS1 (aI g4 (aI g1 (aI w1 s1))) ?_;exact⟨_,_,rfl,fR1 g1,⟨s,fR1 g3,(by rw[hsp,Iq];rfl),om⟩,hE⟩
 rintro r ⟨fr,Z',rfl,g1,⟨s,g3,hsp,hs⟩,hE⟩;refine gS ?_
 refine I4 T.G9.length (fun k fr Z'=>fr.get 5=some (.int .i64 k)/\fr.get 1=some (.pointer (some ⟨Z.n,0,none⟩))/\(∃ s,fr.get 3=some (str s)/\s=B1 T++under ((T.G9.take k).map gc)/\s.length<=2000+100*k)/\Ext (Z.new ca) Z')
  (fun r=>∃ fr Z',r=⟨.exit 2,fr,Z'⟩/\fr.get 1=some (.pointer (some ⟨Z.n,0,none⟩))/\(∃ s,fr.get 3=some (str s)/\s=B2 T/\s.length<=4000)/\Ext (Z.new ca) Z') ?_ ?_ ?_ ?_
 ·exact⟨fR,fR1 g1,⟨_,fR1 g3,(by rw[Ip,FV];exact hsp),by(try simp)<;>omega⟩,hE⟩
 ·clear g1 g3 hsp hs hE s fr;rintro k fr Z' hk ⟨g4,g1,⟨s,g3,hsp,hs⟩,hE⟩;have hc:=L9 hk;have w1:Z'.row Z.n=some ca:=eT (hE.row (by simp)) cL;have hEn:=hE.n;simp only[F6]at hEn;have hE0:Ext Z Z':=E0.trans hE;obtain⟨x,hx⟩:=H5 hk;obtain⟨sp,rfl,l3,l4⟩:=c1 om;have w2:=eT (hE0.row l3) l4;obtain⟨m0,m1,-⟩:=c2 k x hx;have mem:=Bs hx;obtain⟨kd,z1,z2⟩:=hS.Du x mem;have ln:=SW (hr.Du x mem).1;have hu1:=Dh z1;have hu2:=Dh z2;unfold Bz.row at m0;refine gS1 (aI g4 (aI g1 (aI hc (aI w1 (aI s2 (aI w2 m0)))))) ?_;obtain⟨S,hS'⟩:=nm (((Z'.new [str [],.int .i64 0,.int .i64 0,.int .i64 0,.bool false] (some 57)).upd Z'.n [str x.name,.int .i64 x.kind,.int .i64 x.low,.int .i64 x.high,.bool x.less]));rw[hS'];have E1:Ext Z' S:=by rw[<- hS'];exact eX
  have nS:S.n=Z'.n+1:=by rw[<- hS'];rfl
  have wS:S.row Z'.n=some [str x.name,.int .i64 x.kind,.int .i64 x.low,.int .i64 x.high,.bool x.less]:=by rw[<- hS'];exact cL
  clear hS';have ix:∃ t:By,t.length=5/\t=(if x.kind.toNat=2 then mX else mY)/\sub [str [103,114,97,100,101],str [111,102,102,101,114]] (x.kind-1).toNat 1=some [str t]/\(∃ q:Nat,x.kind=(q:Int)+1/\q<2):=by
   rcases kd with h|h
   ·exact⟨[103,114,97,100,101],rfl,by rw[h];rfl,by rw[h];rfl,0,om,om⟩
   ·exact⟨[111,102,102,101,114],rfl,by rw[h];rfl,by rw[h];rfl,1,om,om⟩
  obtain⟨t,ht,htk,ix,q,hq,q2⟩:=ix;rw[hq]at wS ix;rw[show((q:Int)+1-1).toNat=q by omega]at ix;have e1:(((q+1:Nat):Int)-1)=(q:Int):=om;refine gS1 (aI g3 (aI wS (aI e1 ix))) ?_;refine(Ar z1).mono ?_;rintro r ⟨Z2,rfl,hE2⟩;have n2:=hE2.n;simp only[F6]at n2;have wS2:Z2.row Z'.n=some [str x.name,.int .i64 ((q:Int)+1),.int .i64 x.low,.int .i64 x.high,.bool x.less]:=by rw[hE2.row (cL),CI om];exact wS
  refine gS1 wS2 ?_;refine(Ar z2).mono ?_;rintro r ⟨Z3,rfl,hE3⟩;have n3:=hE3.n;have wS3:=eT (hE3.row om) wS2;have hE':Ext (Z.new ca) Z3:=hE.trans (E1.trans (Ext.trans (Ext.trans (Ext.W6 (.refl _) _) hE2) hE3));refine gS1 (aI (asx hE2) (aI (asx hE3) (aI @G8 (aI g4 (aI g1 wS3))))) ?_
  try refine dW1 (aI (asx hE2) (asx hE3)) ?_
  try(refine gS1 (aI g4 (aI g1 wS3)) ?_;try exact⟨⟩)
  cases hl:x.less
  all_goals
   refine gS1 (aI hl (aI g4 g1)) ?_;exact⟨fR,fR1 g1,⟨_,fR,(by rw[hsp,Io hx];simp[gc,DK,spJ,LM.word,LM.txt,hl,htk,AC1]),by simp;omega⟩,hE'⟩
 ·rintro fr Z' ⟨g4,g1,⟨s,g3,hsp,hs⟩,hE⟩;have w1:Z'.row Z.n=some ca:=eT (hE.row (by simp)) cL;refine gS1 (aI g4 (aI g1 (aI w1 s2))) ?_;exact⟨_,_,rfl,fR1 g1,⟨s,fR1 g3,(by rw[hsp,Iq];rfl),om⟩,hE⟩
 clear g1 g3 hsp hs hE s fr;rintro r ⟨fr,Z',rfl,g1,⟨s,g3,hsp,hs⟩,hE⟩;refine gS ?_
 refine I4 T.reqs.length (fun k fr Z'=>fr.get 7=some (.int .i64 k)/\fr.get 1=some (.pointer (some ⟨Z.n,0,none⟩))/\(∃ s,fr.get 3=some (str s)/\s=B2 T++under ((T.reqs.take k).map gr)/\s.length<=4000+100*k)/\Ext (Z.new ca) Z')
  (fun r=>∃ fr Z',r=⟨.exit 4,fr,Z'⟩/\fr.get 1=some (.pointer (some ⟨Z.n,0,none⟩))/\(∃ s,fr.get 3=some (str s)/\s=B3 T/\s.length<=8000)/\Ext (Z.new ca) Z') ?_ ?_ ?_ ?_
 ·exact⟨fR,fR1 g1,⟨_,fR1 g3,(by rw[Ip,FV];exact hsp),by(try simp)<;>omega⟩,hE⟩
 ·clear g1 g3 hsp hs hE s fr;rintro k fr Z' hk ⟨g4,g1,⟨s,g3,hsp,hs⟩,hE⟩;have hc:=L9 hk;have w1:Z'.row Z.n=some ca:=eT (hE.row (by simp)) cL;have hEn:=hE.n;simp only[F6]at hEn;have hE0:Ext Z Z':=E0.trans hE;obtain⟨x,hx⟩:=H5 hk;obtain⟨sp,rfl,l3,l4⟩:=r1 om;have w2:=eT (hE0.row l3) l4;obtain⟨m0,m1,-⟩:=r2 k x hx;have mem:=Bs hx;have z1:=hS.req x mem;have hu1:=Dh z1;have ln:=SW (hr.req x mem).1;have lr:x.rel.length<=2:=by
   have:=(hr.req x mem).2.1;simp at this;rcases this with h|h<;>rw[h]<;>decide
  unfold Req.row at m0;refine gS1 (aI g4 (aI g1 (aI g3 (aI hc (aI w1 (aI s3 (aI w2 m0))))))) ?_;obtain⟨S,hS'⟩:=nm (((Z'.new [str [],str [],.int .i64 0] (some 61)).upd Z'.n [str x.name,str x.rel,.int .i64 x.value]));rw[hS'];have E1:Ext Z' S:=by rw[<- hS'];exact eX
  refine(Ar z1).mono ?_;rintro r ⟨Z2,rfl,hE2⟩;refine gS1 (aI (asx hE2) (aI g4 g1)) ?_
  try refine dW1 (asx hE2) ?_
  try(refine gS1 (aI g4 g1) ?_;try exact⟨⟩)
  exact⟨fR,fR1 g1,⟨_,fR,(by rw[hsp,Io hx];simp[gr,DK,spJ,LM.word,LM.txt]),by simp;omega⟩,hE.trans (E1.trans hE2)⟩
 ·rintro fr Z' ⟨g4,g1,⟨s,g3,hsp,hs⟩,hE⟩;have w1:Z'.row Z.n=some ca:=eT (hE.row (by simp)) cL;refine gS1 (aI g4 (aI g1 (aI w1 s3))) ?_;exact⟨_,_,rfl,fR1 g1,⟨s,fR1 g3,(by rw[hsp,Iq];rfl),om⟩,hE⟩
 clear g1 g3 hsp hs hE s fr;rintro r ⟨fr,Z',rfl,g1,⟨s,g3,hsp,hs⟩,hE⟩;refine Ev.mono (R:=fun r=>r=⟨.normal,fr,Z'⟩) (v:=⟨⟩) (by simp(maxSteps:=8000000) (disch:=first|exact dS|fail) only[↓bD,bW,reduceMul,reduceEqDiff,reduceAdd,Nat.reduceBEq,reduceIte,Option.isNone_none]) ?_;rintro r rfl;simp only[Ga];refine Nz (fun fr Z'=>fr.get 1=some (.pointer (some ⟨Z.n,0,none⟩))/\(∃ s,fr.get 3=some (str s)/\s=B4 T/\s.length<=60000)/\Ext (Z.new ca) Z') ?_ ?_
 ·
  have w1:Z'.row Z.n=some ca:=eT (hE.row (by simp)) cL;have hEn:=hE.n;simp only[F6]at hEn;have hE0:Ext Z Z':=E0.trans hE;refine gS1 (aI g1 (aI g3 (aI w1 s4))) ?_;have hu1:=Dh hS.low;have hu2:=Dh hS.high;refine(Ar hS.low).mono ?_;rintro r ⟨Z2,rfl,hE2⟩;have n2:=hE2.n;have w2:=eT (hE2.row om) w1;refine gS1 (aI g1 (aI w2 s5)) ?_;refine(Ar hS.high).mono ?_;rintro r ⟨Z3,rfl,hE3⟩;have n3:=hE3.n;have w3:=eT (hE3.row om) w2;have E3:Ext Z Z3:=hE0.trans (hE2.trans hE3);refine gS1 (aI g1 (aI w3 s6)) ?_;have hu3:=DV hf 12 0 Ao0;refine(kO hf 12 Ao0 om om (h5.mono E3)).mono ?_;rintro r ⟨Z4,rfl,hE4⟩;refine gS1 (aI (asx hE2) (aI (asx hE3) (aI (asx hE4) g1))) ?_
  try refine dW1 (aI (asx hE2) (aI (asx hE3) (asx hE4))) ?_
  exact⟨_,_,rfl,fR1 g1,⟨_,fR,(by rw[hsp];simp[B4,nl,DK,spJ,LM.word,LM.txt]),by simp;omega⟩,hE.trans (hE2.trans (hE3.trans hE4))⟩
 clear g1 g3 hsp hs hE s fr Z';rintro fr Z' ⟨g1,⟨s,g3,hsp,hs⟩,hE⟩;refine Nz (fun fr Z'=>fr.get 1=some (.pointer (some ⟨Z.n,0,none⟩))/\(∃ s,fr.get 3=some (str s)/\s=B5 T/\s.length<=62000)/\Ext (Z.new ca) Z') ?_ ?_
 ·
  have w1:Z'.row Z.n=some ca:=eT (hE.row (by simp)) cL;have hEn:=hE.n;simp only[F6]at hEn;have hE0:Ext Z Z':=E0.trans hE;refine gS1 (aI g1 (aI w1 s7)) ?_;cases ht:decide (0<(T.AJ.length:Int))with
  | false=>
    refine gS ?_;exact⟨_,_,rfl,fR1 g1,⟨_,fR1 g3,(by rw[hsp];unfold B5;rw[z1z (XB (by have:=z9z ht;omega)),FV]),om⟩,hE⟩
  | true=>
    refine gS1 g3 ?_
    refine I4 T.AJ.length (fun k fr Z'=>fr.get 9=some (.int .i64 k)/\fr.get 1=some (.pointer (some ⟨Z.n,0,none⟩))/\(∃ s,fr.get 3=some (str s)/\s=B4 T++(zX++blk (T.AJ.take k))/\s.length<=60010+100*k)/\Ext (Z.new ca) Z')
     (fun r=>∃ fr Z',r=⟨.exit 6,fr,Z'⟩/\fr.get 1=some (.pointer (some ⟨Z.n,0,none⟩))/\(∃ s,fr.get 3=some (str s)/\s=B4 T++(zX++blk T.AJ)/\s.length<=61900)/\Ext (Z.new ca) Z') ?_ ?_ ?_ ?_
    ·exact⟨fR,fR1 g1,⟨_,fR1 g3,(by rw[hsp];simp[zX,blk]),by(try simp)<;>omega⟩,hE⟩
    ·clear g1 g3 hsp hs hE s fr;rintro k fr Z' hk ⟨g4,g1,⟨s,g3,hsp,hs⟩,hE⟩;have hc:=L9 hk;have w1:Z'.row Z.n=some ca:=eT (hE.row (by simp)) cL;have hEn:=hE.n;simp only[F6]at hEn;have hE0:Ext Z Z':=E0.trans hE;obtain⟨x,hx⟩:=H5 hk;obtain⟨sp,rfl,l3,l4⟩:=t1 om;have w2:=eT (hE0.row l3) l4;have m1:=t2 k x hx;have ln:x.length<=30:=by
      rcases hr.tie x (Bs hx)with h|h
      ·rw[h];decide
      ·exact SW h
     refine gS1 (aI g4 (aI g1 (aI g3 (aI hc (aI w1 (aI s7 (aI w2 m1))))))) ?_;exact⟨fR,fR1 g1,⟨_,fR,(by rw[hsp,tI hx];simp),by simp;omega⟩,hE⟩
    ·rintro fr Z' ⟨g4,g1,⟨s,g3,hsp,hs⟩,hE⟩;have w1:Z'.row Z.n=some ca:=eT (hE.row (by simp)) cL;refine gS1 (aI g4 (aI g1 (aI w1 s7))) ?_;exact⟨_,_,rfl,fR1 g1,⟨s,fR1 g3,(by rw[hsp,JF]),om⟩,hE⟩
    rintro r ⟨fr,Z',rfl,g1,⟨s,g3,hsp,hs⟩,hE⟩;refine gS1 g3 ?_;exact⟨_,_,rfl,fR1 g1,⟨_,fR,(by rw[hsp];unfold B5;rw[z0z (by intro h0;rw[h0]at ht;simp at ht),show DK (.tie T.AJ)=zX++blk T.AJ from aK _ _];simp[nl]),by simp;omega⟩,hE⟩
 clear g1 g3 hsp hs hE s fr Z';rintro fr Z' ⟨g1,⟨s,g3,hsp,hs⟩,hE⟩;refine Nz (fun fr Z'=>fr.get 1=some (.pointer (some ⟨Z.n,0,none⟩))/\(∃ s,fr.get 3=some (str s)/\s=B6 T/\s.length<=62100)/\Ext (Z.new ca) Z') ?_ ?_
 ·
  have w1:Z'.row Z.n=some ca:=eT (hE.row (by simp)) cL;have hEn:=hE.n;simp only[F6]at hEn;have hE0:Ext Z Z':=E0.trans hE;refine gS1 (aI g1 (aI w1 s8)) ?_;cases hm:decide (T.y8=0)with
  | true=>
    refine gS ?_;exact⟨_,_,rfl,fR1 g1,⟨_,fR1 g3,(by rw[hsp];unfold B6;rw[z1z (z6z hm),FV]),om⟩,hE⟩
  | false=>
    refine gS1 (aI g1 (aI g3 (aI w1 s8))) ?_;have hu1:=Dh hS.y8;refine(Ar hS.y8).mono ?_;rintro r ⟨Z2,rfl,hE2⟩;refine gS ?_;exact⟨_,_,rfl,fR1 g1,⟨_,fR,(by rw[hsp];unfold B6;rw[z0z (z9z hm)];simp[nl,DK,spJ,LM.word,LM.txt]),by simp;omega⟩,hE.trans hE2⟩
 clear g1 g3 hsp hs hE s fr Z';rintro fr Z' ⟨g1,⟨s,g3,hsp,hs⟩,hE⟩;refine gS ?_
 refine I4 vs.length (fun k fr Z'=>fr.get 10=some (.int .i64 k)/\fr.get 1=some (.pointer (some ⟨Z.n,0,none⟩))/\(∃ s,fr.get 3=some (str s)/\s=B6 T++under ((T.J9.take k).map gk)/\s.length<=62100+400*k)/\Ext (Z.new ca) Z')
  (fun r=>∃ fr Z',r=⟨.exit 8,fr,Z'⟩/\fr.get 1=some (.pointer (some ⟨Z.n,0,none⟩))/\(∃ s,fr.get 3=some (str s)/\s=B7 T/\s.length<=70000)/\Ext (Z.new ca) Z') ?_ ?_ ?_ ?_
 ·exact⟨fR,fR1 g1,⟨_,fR1 g3,(by rw[Ip,FV];exact hsp),by(try simp)<;>omega⟩,hE⟩
 ·clear g1 g3 hsp hs hE s fr;rintro k fr Z' hk ⟨g4,g1,⟨s,g3,hsp,hs⟩,hE⟩;have hc:=L9 hk;have w1:Z'.row Z.n=some ca:=eT (hE.row (by simp)) cL;have hEn:=hE.n;simp only[F6]at hEn;have hE0:Ext Z Z':=E0.trans hE;obtain⟨x,hx⟩:=H5 hk;obtain⟨C,hC⟩:=H5 (show k<T.J9.length by omega);obtain⟨ia,ic,ib,io,ics,rfl,i1,i2⟩:=(h8.get hx hC).use;have LC:=(hr.combo C (Bs hC)).2.1;obtain⟨sp,rfl,l3,l4⟩:=k1 om;have w2:=eT (hE0.row l3) l4;have m1:=k2 k _ hx;rw[MH]at m1;refine gS1 (aI g4 (aI g1 (aI g3 (aI hc (aI w1 s9))))) ?_
  refine I4 C.length (fun i fr τ=>fr.get 11=some (.int .i64 i)/\fr.get 10=some (.int .i64 k)/\fr.get 1=some (.pointer (some ⟨Z.n,0,none⟩))/\(∃ s,fr.get 3=some (str s)/\s=B6 T++(under ((T.J9.take k).map gk)++(Wp++blk ((C.take i).map fun n=>dcN n.toNat)))/\s.length<=62110+400*k+20*i)/\Ext (Z.new ca) τ)
   (fun r=>∃ fr τ,r=⟨.exit 10,fr,τ⟩/\fr.get 10=some (.int .i64 k)/\fr.get 1=some (.pointer (some ⟨Z.n,0,none⟩))/\(∃ s,fr.get 3=some (str s)/\s=B6 T++(under ((T.J9.take k).map gk)++(Wp++blk (C.map fun n=>dcN n.toNat)))/\s.length<=62450+400*k)/\Ext (Z.new ca) τ) ?_ ?_ ?_ ?_
  ·exact⟨fR,fR1 g4,fR1 g1,⟨_,fR,(by rw[hsp];simp[Wp,blk]),by simp;omega⟩,hE⟩
  ·clear g4 g1 g3 hsp hs s fr;rintro i fr τ hi ⟨g11,g10,g1,⟨s,g3,hsp,hs⟩,hF⟩;have hc:=L9 hi;obtain⟨y,hy⟩:=H5 hi;obtain⟨sp',rfl,l5,l6⟩:=i1 om;have zy:=hS.combo C (Bs hC) y (Bs hy);have hF0:Ext Z τ:=E0.trans hF;have v1:τ.row Z.n=some ca:=eT (hF.row (by simp)) cL;have v2:=eT (hF0.row l3) l4;have v3:=eT (hF0.row l5) l6;have n1:=i2 i y hy;refine gS1 (aI g11 (aI g10 (aI g1 (aI g3 (aI hc (aI v1 (aI s9 (aI v2 (aI m1 (aI v3 n1)))))))))) ?_;have hu1:=Dh zy;refine(Ar zy).mono ?_;rintro r ⟨Z2,rfl,hE2⟩;refine gS1 g11 ?_;exact⟨fR,fR1 g10,fR1 g1,⟨_,fR,(by rw[hsp,Wo hy];simp),by simp;omega⟩,hF.trans hE2⟩
  ·clear g4 g1 g3 hsp hs s fr;rintro fr τ ⟨g11,g10,g1,⟨s,g3,hsp,hs⟩,hF⟩;have hF0:Ext Z τ:=E0.trans hF;have v1:τ.row Z.n=some ca:=eT (hF.row (by simp)) cL;have v2:=eT (hF0.row l3) l4;refine gS1 (aI g11 (aI g10 (aI g1 (aI v1 (aI s9 (aI v2 m1)))))) ?_;exact⟨_,_,rfl,fR1 g10,fR1 g1,⟨s,fR1 g3,(by rw[hsp,JF]),om⟩,hF⟩
  clear g4 g1 g3 hsp hs s fr;rintro r ⟨fr,τ,rfl,g4,g1,⟨s,g3,hsp,hs⟩,hF⟩;refine gS1 (aI g4 g3) ?_;exact⟨fR,fR1 g1,⟨_,fR,(by rw[hsp,Io hC,show gk C=Wp++blk ((C.map Int.toNat).map dcN)from aK _ _,List.map_map];simp;rfl),by simp;omega⟩,hF⟩
 ·rintro fr Z' ⟨g4,g1,⟨s,g3,hsp,hs⟩,hE⟩;have w1:Z'.row Z.n=some ca:=eT (hE.row (by simp)) cL;refine gS1 (aI g4 (aI g1 (aI w1 s9))) ?_;exact⟨_,_,rfl,fR1 g1,⟨s,fR1 g3,(by rw[hsp,L6,Iq];rfl),om⟩,hE⟩
 rintro r ⟨fr,Z',rfl,g1,⟨s,g3,hsp,hs⟩,hE⟩;have w1:Z'.row Z.n=some ca:=eT (hE.row (by simp)) cL;have hEn:=hE.n;simp only[F6]at hEn;have hE0:Ext Z Z':=E0.trans hE;refine gS1 (aI g1 (aI w1 s15)) ?_;obtain⟨S,hS'⟩:=nm (((Z'.new [.int .i64 0,.int .i64 0,.int .i64 0,.int .i64 0,.int .i64 0] (some 36)).upd Z'.n [.int .i64 T.t.q,.int .i64 T.t.b,.int .i64 T.t.g,.int .i64 T.t.p,.int .i64 T.t.s]));rw[hS'];have E1:Ext Z' S:=by rw[<- hS'];exact eX
 have nS:S.n=Z'.n+1:=by rw[<- hS'];rfl
 have wS:S.row Z'.n=some [.int .i64 T.t.q,.int .i64 T.t.b,.int .i64 T.t.g,.int .i64 T.t.p,.int .i64 T.t.s]:=by rw[<- hS'];exact cL
 have w1:=eT (E1.row om) w1;have EF:=hE0.trans E1;refine gS1 (aI g1 (aI g3 (aI w1 s10))) ?_;have hu1:=Dh hS.V9;have hv0:=Dh hS.tim.1;have hv1:=Dh hS.tim.2.1;have hv2:=Dh hS.tim.2.2.1;have hv3:=Dh hS.tim.2.2.2.1;have hv4:=Dh hS.tim.2.2.2.2;refine(Ar hS.V9).mono ?_;rintro r ⟨Z2,rfl,hE2⟩;have n2:=hE2.n;have wS:=eT (hE2.row om) wS;have EF:=EF.trans hE2;refine gS1 wS ?_;refine(Ar hS.tim.1).mono ?_;rintro r ⟨Z3,rfl,hF0⟩;have m0:=hF0.n;have wS:=eT (hF0.row om) wS;have EF:=EF.trans hF0;refine gS1 wS ?_;refine(Ar hS.tim.2.1).mono ?_;rintro r ⟨Z4,rfl,hF1⟩;have m1:=hF1.n;have wS:=eT (hF1.row om) wS;have EF:=EF.trans hF1;refine gS1 wS ?_;refine(Ar hS.tim.2.2.1).mono ?_;rintro r ⟨Z5,rfl,hF2⟩;have m2:=hF2.n;have wS:=eT (hF2.row om) wS;have EF:=EF.trans hF2;refine gS1 wS ?_;refine(Ar hS.tim.2.2.2.1).mono ?_;rintro r ⟨Z6,rfl,hF3⟩;have m3:=hF3.n;have wS:=eT (hF3.row om) wS;have EF:=EF.trans hF3;refine gS1 wS ?_;refine(Ar hS.tim.2.2.2.2).mono ?_;rintro r ⟨Z7,rfl,hF4⟩;have m4:=hF4.n;have wS:=eT (hF4.row om) wS;have EF:=EF.trans hF4;refine gS1 (aI (asx hF0) (aI (asx hF1) (aI (asx hF2) (aI (asx hF3) (aI (asx hF4) @Tryz.results124))))) ?_
 try refine dW1 (aI (asx hF0) (aI (asx hF1) (aI (asx hF2) (aI (asx hF3) (asx hF4))))) ?_
 try(refine gS1 @Tryz.results124 ?_;try exact⟨⟩)
 refine⟨_,?_,EF⟩;rw[zW,<- hsp];simp[nl,DK,spJ,LM.word,LM.txt]
end Go.Proofs.T
