/- The reference Iz right HW: numbers up to the uV. -/
import Derived.Test.YtgjocfjdecjhoaaGreatDoorIRC
set_option linter.unusedSimpArgs false
set_option linter.unusedVariables false
set_option linter.defProp false
set_option maxHeartbeats 32000000
set_option maxRecDepth 100000
namespace Go.Proofs.T
open Go Go.Ab
open Nat (reduceMul reduceEqDiff reduceAdd)
structure Tn.Si (T:Tn):Prop where
 lot:∀ l∈T.AG,In9 l.id/\In9 l.AE
 Dn:∀ c∈T.G7,(c.kind=1\/c.kind=2)/\In9 c.low/\In9 c.high
 req:∀ r∈T.reqs,In9 r.value
 combo:∀ l∈T.K7,∀ n∈l,In9 n
 low:In9 T.low
 high:In9 T.high
 AE:In9 T.AE
 U6:In9 T.U6
 tim:In9 T.t.q/\In9 T.t.b/\In9 T.t.g/\In9 T.t.p/\In9 T.t.s
def Iq.si {T:Tn}(h:Iq T):T.Si :=
 ⟨fun l d=>⟨by obtain⟨a,b,c⟩:=h.lot l d;exact⟨om,b⟩,(h.lot l d).2.2⟩,fun c e=>(h.Dn c e).2,fun r g=>(h.req r g).2.2,fun l d n f=>by
  have:=(h.combo l d).2.2.2 n f;exact⟨om,this.2⟩,h.low,h.high,h.AE,h.U6,h.t⟩
def Dx {n:Int}(h:In9 n):(dcN n.toNat).length<=10:=Ks 9 _ (by have:=h.1;have:=h.2;omega)
def BD {Z:St}{n:Int}(h:In9 n):Ev (gO 173 [.int .i64 n] Z) (fun r=>∃ Z',r=⟨false,str (dcN n.toNat),Z'⟩/\Ext Z Z') ⟨⟩:=by
 obtain⟨N,rfl⟩:=FM h.1;have a:=h.2;exact JG (n:=N) om
def YB {Z:St}{ca:List Value}{T:Tn}(hT:Jb Z ca T) (M:Iq T):Ev (gO 124 [.agg ⟨ca⟩] Z) (fun r=>∃ Z',r=⟨false,str (JN T),Z'⟩/\Ext Z Z') ⟨⟩:=by
 obtain⟨vl,vc,vr,ex,vt,vk,L,h2,h3,h4,h5,h6,vs,h7,h8⟩:=hT.parts;obtain⟨la,lc,lb,lo,lcs,rfl,l1,l2⟩:=h2.use;obtain⟨ca',cc,cb,co,ccs,rfl,c1,c2⟩:=h3.use;obtain⟨ra,rc,rb,ro,rcs,rfl,r1,r2⟩:=h4.use;obtain⟨ta,tc,tb,to',tcs,rfl,t1,t2⟩:=h6.use;obtain⟨ka,kc,kb,ko,kcs,rfl,k1,k2⟩:=SL.Lo h7;have E:=M.si;have a7:=L.all;have L0:=NX M.name;have L1:=M.AG;have L2:=M.G7;have L3:=M.reqs;have L4:=M.AQ;have L5:=M.K7;obtain⟨kf,jf,hf,Ax1,BY6⟩:=M.f;have L6:=h8.len;have s0:=L.p0;have s1:=L.p1;have s2:=L.p2;have s3:=L.p3;have s4:=L.p4;have s5:=L.p5;have s6:=L.p6;have s7:=L.p11;have s8:=L.p12;have s9:=L.p13;have a9:=L.p14;have b0:=L.p15;refine C8 Tryz.func124 rfl rfl ?_;refine gS1 (aI a7 s0) ?_;have U:Ext Z (Z.new ca):=eX
 refine G8 T.AG.length (fun k c Z'=>c.get 4=some (.int .i64 k)/\c.get 1=some (.pointer (some ⟨Z.n,0,none⟩))/\(∃ s,c.get 3=some (str s)/\s=B0 T++under ((T.AG.take k).map gl)/\s.length<=200+100*k)/\Ext (Z.new ca) Z')
  (fun r=>∃ c Z',r=⟨.exit 0,c,Z'⟩/\c.get 1=some (.pointer (some ⟨Z.n,0,none⟩))/\(∃ s,c.get 3=some (str s)/\s=B1 T/\s.length<=2000)/\Ext (Z.new ca) Z') ?_ ?_ ?_ ?_
 ·exact⟨fR,fR,⟨_,fR,(by rw[JQ,Du];simp[B0,nl,Dc,spJ,LM.word,LM.txt]),by simp;omega⟩,.refl _⟩
 ·skip
  rintro k c Z' I ⟨u,d,⟨s,l,a,A⟩,e⟩;have hc:=M4 I;have o:Z'.row Z.n=some ca:=eT (e.row (by simp)) cL;have m:=e.n;simp only[G3]at m;have B:Ext Z Z':=U.trans e;obtain⟨x,H⟩:=I1 I;obtain⟨sp,rfl,l3,l4⟩:=l1 om;have J:=eT (B.row l3) l4;obtain⟨-,m1,m2⟩:=l2 k x H;obtain⟨z1,z2⟩:=E.lot x (Ag H);have N:=Dx z1;have a3:=Dx z2;refine gS1 (aI u (aI d (aI l (aI hc (aI o (aI s1 (aI J m1))))))) ?_;refine(BD z1).mono ?_;rintro r ⟨Z2,rfl,j⟩;have n2:=j.n;have o:=eT (j.row om) o;have J:=eT (j.row om) J;refine gS1 (aI u (aI d (aI o (aI s1 (aI J m2))))) ?_;refine(BD z2).mono ?_;rintro r ⟨Z3,rfl,z⟩;refine gS1 (aI (asx j) (aI (asx z) (aI u d))) ?_
  try refine dW1 (aI (asx j) (asx z)) ?_
  try(refine gS1 (aI u d) ?_;try exact⟨⟩)
  exact⟨fR,fR1 d,⟨_,fR,(by rw[a,JP H];simp[gl,Dc,spJ,LM.word,LM.txt,AK9]),by simp;omega⟩,e.trans (j.trans z)⟩
 ·rintro c Z' ⟨u,d,⟨s,l,a,A⟩,e⟩;have o:Z'.row Z.n=some ca:=eT (e.row (by simp)) cL;refine gS1 (aI u (aI d (aI o s1))) ?_;exact⟨_,_,rfl,fR1 d,⟨s,fR1 l,(by rw[a,JR];rfl),om⟩,e⟩
 rintro r ⟨c,Z',rfl,d,⟨s,l,a,A⟩,e⟩;refine gS ?_
 refine G8 T.G7.length (fun k c Z'=>c.get 5=some (.int .i64 k)/\c.get 1=some (.pointer (some ⟨Z.n,0,none⟩))/\(∃ s,c.get 3=some (str s)/\s=B1 T++under ((T.G7.take k).map gc)/\s.length<=2000+100*k)/\Ext (Z.new ca) Z')
  (fun r=>∃ c Z',r=⟨.exit 2,c,Z'⟩/\c.get 1=some (.pointer (some ⟨Z.n,0,none⟩))/\(∃ s,c.get 3=some (str s)/\s=B2 T/\s.length<=4000)/\Ext (Z.new ca) Z') ?_ ?_ ?_ ?_
 ·exact⟨fR,fR1 d,⟨_,fR1 l,(by rw[JQ,Du];exact a),by(try simp)<;>omega⟩,e⟩
 ·clear d l a A e s c;rintro k c Z' I ⟨u,d,⟨s,l,a,A⟩,e⟩;have hc:=M4 I;have o:Z'.row Z.n=some ca:=eT (e.row (by simp)) cL;have m:=e.n;simp only[G3]at m;have B:Ext Z Z':=U.trans e;obtain⟨x,H⟩:=I1 I;obtain⟨sp,rfl,l3,l4⟩:=c1 om;have J:=eT (B.row l3) l4;obtain⟨m0,m1,-⟩:=c2 k x H;have O:=Ag H;obtain⟨kd,z1,z2⟩:=E.Dn x O;have ln:=Tk (M.Dn x O).1;have N:=Dx z1;have a3:=Dx z2;unfold CL.row at m0;refine gS1 (aI u (aI d (aI hc (aI o (aI s2 (aI J m0)))))) ?_;obtain⟨S,D⟩:=nW (((Z'.new [str [],.int .i64 0,.int .i64 0,.int .i64 0,.bool false] (some 57)).upd Z'.n [str x.name,.int .i64 x.kind,.int .i64 x.low,.int .i64 x.high,.bool x.less]));rw[D];have E1:Ext Z' S:=by rw[<- D];exact eX
  have nS:S.n=Z'.n+1:=by rw[<- D];rfl
  have G:S.row Z'.n=some [str x.name,.int .i64 x.kind,.int .i64 x.low,.int .i64 x.high,.bool x.less]:=by rw[<- D];exact cL
  clear D;have ix:∃ t:By,t.length=5/\t=(if x.kind.toNat=2 then pA else pB)/\sub [str [103,114,97,100,101],str [111,102,102,101,114]] (x.kind-1).toNat 1=some [str t]/\(∃ q:Nat,x.kind=(q:Int)+1/\q<2):=by
   rcases kd with h|h
   ·exact⟨[103,114,97,100,101],rfl,by rw[h];rfl,by rw[h];rfl,0,om,om⟩
   ·exact⟨[111,102,102,101,114],rfl,by rw[h];rfl,by rw[h];rfl,1,om,om⟩
  obtain⟨t,ht,a8,ix,q,hq,q2⟩:=ix;rw[hq]at G ix;rw[show((q:Int)+1-1).toNat=q by omega]at ix;have e1:(((q+1:Nat):Int)-1)=(q:Int):=om;refine gS1 (aI l (aI G (aI e1 ix))) ?_;refine(BD z1).mono ?_;rintro r ⟨Z2,rfl,j⟩;have n2:=j.n;simp only[G3]at n2;have a4:Z2.row Z'.n=some [str x.name,.int .i64 ((q:Int)+1),.int .i64 x.low,.int .i64 x.high,.bool x.less]:=by rw[j.row (cL),CY om];exact G
  refine gS1 a4 ?_;refine(BD z2).mono ?_;rintro r ⟨Z3,rfl,z⟩;have n3:=z.n;have a5:=eT (z.row om) a4;have a6:Ext (Z.new ca) Z3:=e.trans (E1.trans (Ext.trans (Ext.trans (Ext.Q3 (.refl _) _) j) z));refine gS1 (aI (asx j) (aI (asx z) (aI @G9 (aI u (aI d a5))))) ?_
  try refine dW1 (aI (asx j) (asx z)) ?_
  try(refine gS1 (aI u (aI d a5)) ?_;try exact⟨⟩)
  cases hl:x.less
  all_goals
   refine gS1 (aI hl (aI u d)) ?_;exact⟨fR,fR1 d,⟨_,fR,(by rw[a,JP H];simp[gc,Dc,spJ,LM.word,LM.txt,hl,a8,AL0]),by simp;omega⟩,a6⟩
 ·rintro c Z' ⟨u,d,⟨s,l,a,A⟩,e⟩;have o:Z'.row Z.n=some ca:=eT (e.row (by simp)) cL;refine gS1 (aI u (aI d (aI o s2))) ?_;exact⟨_,_,rfl,fR1 d,⟨s,fR1 l,(by rw[a,JR];rfl),om⟩,e⟩
 clear d l a A e s c;rintro r ⟨c,Z',rfl,d,⟨s,l,a,A⟩,e⟩;refine gS ?_
 refine G8 T.reqs.length (fun k c Z'=>c.get 7=some (.int .i64 k)/\c.get 1=some (.pointer (some ⟨Z.n,0,none⟩))/\(∃ s,c.get 3=some (str s)/\s=B2 T++under ((T.reqs.take k).map gr)/\s.length<=4000+100*k)/\Ext (Z.new ca) Z')
  (fun r=>∃ c Z',r=⟨.exit 4,c,Z'⟩/\c.get 1=some (.pointer (some ⟨Z.n,0,none⟩))/\(∃ s,c.get 3=some (str s)/\s=B3 T/\s.length<=8000)/\Ext (Z.new ca) Z') ?_ ?_ ?_ ?_
 ·exact⟨fR,fR1 d,⟨_,fR1 l,(by rw[JQ,Du];exact a),by(try simp)<;>omega⟩,e⟩
 ·clear d l a A e s c;rintro k c Z' I ⟨u,d,⟨s,l,a,A⟩,e⟩;have hc:=M4 I;have o:Z'.row Z.n=some ca:=eT (e.row (by simp)) cL;have m:=e.n;simp only[G3]at m;have B:Ext Z Z':=U.trans e;obtain⟨x,H⟩:=I1 I;obtain⟨sp,rfl,l3,l4⟩:=r1 om;have J:=eT (B.row l3) l4;obtain⟨m0,m1,-⟩:=r2 k x H;have O:=Ag H;have z1:=E.req x O;have N:=Dx z1;have ln:=Tk (M.req x O).1;have lr:x.rel.length<=2:=by
   have:=(M.req x O).2.1;simp at this;rcases this with h|h<;>rw[h]<;>decide
  unfold Req.row at m0;refine gS1 (aI u (aI d (aI l (aI hc (aI o (aI s3 (aI J m0))))))) ?_;obtain⟨S,D⟩:=nW (((Z'.new [str [],str [],.int .i64 0] (some 61)).upd Z'.n [str x.name,str x.rel,.int .i64 x.value]));rw[D];have E1:Ext Z' S:=by rw[<- D];exact eX
  refine(BD z1).mono ?_;rintro r ⟨Z2,rfl,j⟩;refine gS1 (aI (asx j) (aI u d)) ?_
  try refine dW1 (asx j) ?_
  try(refine gS1 (aI u d) ?_;try exact⟨⟩)
  exact⟨fR,fR1 d,⟨_,fR,(by rw[a,JP H];simp[gr,Dc,spJ,LM.word,LM.txt]),by simp;omega⟩,e.trans (E1.trans j)⟩
 ·rintro c Z' ⟨u,d,⟨s,l,a,A⟩,e⟩;have o:Z'.row Z.n=some ca:=eT (e.row (by simp)) cL;refine gS1 (aI u (aI d (aI o s3))) ?_;exact⟨_,_,rfl,fR1 d,⟨s,fR1 l,(by rw[a,JR];rfl),om⟩,e⟩
 clear d l a A e s c;rintro r ⟨c,Z',rfl,d,⟨s,l,a,A⟩,e⟩;refine Ev.mono (R:=fun r=>r=⟨.normal,c,Z'⟩) (v:=⟨⟩) (by simp(maxSteps:=8000000) (disch:=first|exact dS|fail) only[↓bD,bW,reduceMul,reduceEqDiff,reduceAdd,Nat.reduceBEq,reduceIte,Option.isNone_none]) ?_;rintro r rfl;simp only[Gp];refine Ol (fun c Z'=>c.get 1=some (.pointer (some ⟨Z.n,0,none⟩))/\(∃ s,c.get 3=some (str s)/\s=B4 T/\s.length<=60000)/\Ext (Z.new ca) Z') ?_ ?_
 ·
  have o:Z'.row Z.n=some ca:=eT (e.row (by simp)) cL;have m:=e.n;simp only[G3]at m;have B:Ext Z Z':=U.trans e;refine gS1 (aI d (aI l (aI o s4))) ?_;have N:=Dx E.low;have a3:=Dx E.high;refine(BD E.low).mono ?_;rintro r ⟨Z2,rfl,j⟩;have n2:=j.n;have J:=eT (j.row om) o;refine gS1 (aI d (aI J s5)) ?_;refine(BD E.high).mono ?_;rintro r ⟨Z3,rfl,z⟩;have n3:=z.n;have w3:=eT (z.row om) J;have E3:Ext Z Z3:=B.trans (j.trans z);refine gS1 (aI d (aI w3 s6)) ?_;have b1:=Di hf 12 0 Ax1;refine(mU hf 12 Ax1 om om (h5.mono E3)).mono ?_;rintro r ⟨Z4,rfl,a2⟩;refine gS1 (aI (asx j) (aI (asx z) (aI (asx a2) d))) ?_
  try refine dW1 (aI (asx j) (aI (asx z) (asx a2))) ?_
  exact⟨_,_,rfl,fR1 d,⟨_,fR,(by rw[a];simp[B4,nl,Dc,spJ,LM.word,LM.txt]),by simp;omega⟩,e.trans (j.trans (z.trans a2))⟩
 clear d l a A e s c Z';rintro c Z' ⟨d,⟨s,l,a,A⟩,e⟩;refine Ol (fun c Z'=>c.get 1=some (.pointer (some ⟨Z.n,0,none⟩))/\(∃ s,c.get 3=some (str s)/\s=B5 T/\s.length<=62000)/\Ext (Z.new ca) Z') ?_ ?_
 ·
  have o:Z'.row Z.n=some ca:=eT (e.row (by simp)) cL;have m:=e.n;simp only[G3]at m;have B:Ext Z Z':=U.trans e;refine gS1 (aI d (aI o s7)) ?_;cases ht:decide (0<(T.AQ.length:Int))with
  | false=>
    refine gS ?_;exact⟨_,_,rfl,fR1 d,⟨_,fR1 l,(by rw[a];unfold B5;rw[z1z (WI (by have:=z9z ht;omega)),Du]),om⟩,e⟩
  | true=>
    refine gS1 l ?_
    refine G8 T.AQ.length (fun k c Z'=>c.get 9=some (.int .i64 k)/\c.get 1=some (.pointer (some ⟨Z.n,0,none⟩))/\(∃ s,c.get 3=some (str s)/\s=B4 T++(AG6++blk (T.AQ.take k))/\s.length<=60010+100*k)/\Ext (Z.new ca) Z')
     (fun r=>∃ c Z',r=⟨.exit 6,c,Z'⟩/\c.get 1=some (.pointer (some ⟨Z.n,0,none⟩))/\(∃ s,c.get 3=some (str s)/\s=B4 T++(AG6++blk T.AQ)/\s.length<=61900)/\Ext (Z.new ca) Z') ?_ ?_ ?_ ?_
    ·exact⟨fR,fR1 d,⟨_,fR1 l,(by rw[a];simp[AG6,blk]),by(try simp)<;>omega⟩,e⟩
    ·clear d l a A e s c;rintro k c Z' I ⟨u,d,⟨s,l,a,A⟩,e⟩;have hc:=M4 I;have o:Z'.row Z.n=some ca:=eT (e.row (by simp)) cL;have m:=e.n;simp only[G3]at m;have B:Ext Z Z':=U.trans e;obtain⟨x,H⟩:=I1 I;obtain⟨sp,rfl,l3,l4⟩:=t1 om;have J:=eT (B.row l3) l4;have m1:=t2 k x H;have ln:x.length<=30:=by
      rcases M.tie x (Ag H)with h|h
      ·rw[h];decide
      ·exact Tk h
     refine gS1 (aI u (aI d (aI l (aI hc (aI o (aI s7 (aI J m1))))))) ?_;exact⟨fR,fR1 d,⟨_,fR,(by rw[a,vT H];simp),by simp;omega⟩,e⟩
    ·rintro c Z' ⟨u,d,⟨s,l,a,A⟩,e⟩;have o:Z'.row Z.n=some ca:=eT (e.row (by simp)) cL;refine gS1 (aI u (aI d (aI o s7))) ?_;exact⟨_,_,rfl,fR1 d,⟨s,fR1 l,(by rw[a,Jf]),om⟩,e⟩
    rintro r ⟨c,Z',rfl,d,⟨s,l,a,A⟩,e⟩;refine gS1 l ?_;exact⟨_,_,rfl,fR1 d,⟨_,fR,(by rw[a];unfold B5;rw[z0z (by intro h0;rw[h0]at ht;simp at ht),show Dc (.tie T.AQ)=AG6++blk T.AQ from br _ _];simp[nl]),by simp;omega⟩,e⟩
 clear d l a A e s c Z';rintro c Z' ⟨d,⟨s,l,a,A⟩,e⟩;refine Ol (fun c Z'=>c.get 1=some (.pointer (some ⟨Z.n,0,none⟩))/\(∃ s,c.get 3=some (str s)/\s=B6 T/\s.length<=62100)/\Ext (Z.new ca) Z') ?_ ?_
 ·
  have o:Z'.row Z.n=some ca:=eT (e.row (by simp)) cL;have m:=e.n;simp only[G3]at m;have B:Ext Z Z':=U.trans e;refine gS1 (aI d (aI o s8)) ?_;cases hm:decide (T.AE=0)with
  | true=>
    refine gS ?_;exact⟨_,_,rfl,fR1 d,⟨_,fR1 l,(by rw[a];unfold B6;rw[z1z (z6z hm),Du]),om⟩,e⟩
  | false=>
    refine gS1 (aI d (aI l (aI o s8))) ?_;have N:=Dx E.AE;refine(BD E.AE).mono ?_;rintro r ⟨Z2,rfl,j⟩;refine gS ?_;exact⟨_,_,rfl,fR1 d,⟨_,fR,(by rw[a];unfold B6;rw[z0z (z9z hm)];simp[nl,Dc,spJ,LM.word,LM.txt]),by simp;omega⟩,e.trans j⟩
 clear d l a A e s c Z';rintro c Z' ⟨d,⟨s,l,a,A⟩,e⟩;refine gS ?_
 refine G8 vs.length (fun k c Z'=>c.get 10=some (.int .i64 k)/\c.get 1=some (.pointer (some ⟨Z.n,0,none⟩))/\(∃ s,c.get 3=some (str s)/\s=B6 T++under ((T.K7.take k).map gk)/\s.length<=62100+400*k)/\Ext (Z.new ca) Z')
  (fun r=>∃ c Z',r=⟨.exit 8,c,Z'⟩/\c.get 1=some (.pointer (some ⟨Z.n,0,none⟩))/\(∃ s,c.get 3=some (str s)/\s=B7 T/\s.length<=70000)/\Ext (Z.new ca) Z') ?_ ?_ ?_ ?_
 ·exact⟨fR,fR1 d,⟨_,fR1 l,(by rw[JQ,Du];exact a),by(try simp)<;>omega⟩,e⟩
 ·clear d l a A e s c;rintro k c Z' I ⟨u,d,⟨s,l,a,A⟩,e⟩;have hc:=M4 I;have o:Z'.row Z.n=some ca:=eT (e.row (by simp)) cL;have m:=e.n;simp only[G3]at m;have B:Ext Z Z':=U.trans e;obtain⟨x,H⟩:=I1 I;obtain⟨C,hC⟩:=I1 (show k<T.K7.length by omega);obtain⟨ia,ic,ib,io,ics,rfl,i1,i2⟩:=(h8.get H hC).use;have LC:=(M.combo C (Ag hC)).2.1;obtain⟨sp,rfl,l3,l4⟩:=k1 om;have J:=eT (B.row l3) l4;have m1:=k2 k _ H;rw[Ip]at m1;refine gS1 (aI u (aI d (aI l (aI hc (aI o s9))))) ?_
  refine G8 C.length (fun i c τ=>c.get 11=some (.int .i64 i)/\c.get 10=some (.int .i64 k)/\c.get 1=some (.pointer (some ⟨Z.n,0,none⟩))/\(∃ s,c.get 3=some (str s)/\s=B6 T++(under ((T.K7.take k).map gk)++(YJ++blk ((C.take i).map fun n=>dcN n.toNat)))/\s.length<=62110+400*k+20*i)/\Ext (Z.new ca) τ)
   (fun r=>∃ c τ,r=⟨.exit 10,c,τ⟩/\c.get 10=some (.int .i64 k)/\c.get 1=some (.pointer (some ⟨Z.n,0,none⟩))/\(∃ s,c.get 3=some (str s)/\s=B6 T++(under ((T.K7.take k).map gk)++(YJ++blk (C.map fun n=>dcN n.toNat)))/\s.length<=62450+400*k)/\Ext (Z.new ca) τ) ?_ ?_ ?_ ?_
  ·exact⟨fR,fR1 u,fR1 d,⟨_,fR,(by rw[a];simp[YJ,blk]),by simp;omega⟩,e⟩
  ·clear u d l a A s c;rintro i c τ hi ⟨a1,V,d,⟨s,l,a,A⟩,hF⟩;have hc:=M4 hi;obtain⟨y,hy⟩:=I1 hi;obtain⟨sp',rfl,l5,l6⟩:=i1 om;have zy:=E.combo C (Ag hC) y (Ag hy);have F:Ext Z τ:=U.trans hF;have v1:τ.row Z.n=some ca:=eT (hF.row (by simp)) cL;have v2:=eT (F.row l3) l4;have v3:=eT (F.row l5) l6;have n1:=i2 i y hy;refine gS1 (aI a1 (aI V (aI d (aI l (aI hc (aI v1 (aI s9 (aI v2 (aI m1 (aI v3 n1)))))))))) ?_;have N:=Dx zy;refine(BD zy).mono ?_;rintro r ⟨Z2,rfl,j⟩;refine gS1 a1 ?_;exact⟨fR,fR1 V,fR1 d,⟨_,fR,(by rw[a,YI hy];simp),by simp;omega⟩,hF.trans j⟩
  ·clear u d l a A s c;rintro c τ ⟨a1,V,d,⟨s,l,a,A⟩,hF⟩;have F:Ext Z τ:=U.trans hF;have v1:τ.row Z.n=some ca:=eT (hF.row (by simp)) cL;have v2:=eT (F.row l3) l4;refine gS1 (aI a1 (aI V (aI d (aI v1 (aI s9 (aI v2 m1)))))) ?_;exact⟨_,_,rfl,fR1 V,fR1 d,⟨s,fR1 l,(by rw[a,Jf]),om⟩,hF⟩
  clear u d l a A s c;rintro r ⟨c,τ,rfl,u,d,⟨s,l,a,A⟩,hF⟩;refine gS1 (aI u l) ?_;exact⟨fR,fR1 d,⟨_,fR,(by rw[a,JP hC,show gk C=YJ++blk ((C.map Int.toNat).map dcN)from br _ _,List.map_map];simp;rfl),by simp;omega⟩,hF⟩
 ·rintro c Z' ⟨u,d,⟨s,l,a,A⟩,e⟩;have o:Z'.row Z.n=some ca:=eT (e.row (by simp)) cL;refine gS1 (aI u (aI d (aI o s9))) ?_;exact⟨_,_,rfl,fR1 d,⟨s,fR1 l,(by rw[a,L6,JR];rfl),om⟩,e⟩
 rintro r ⟨c,Z',rfl,d,⟨s,l,a,A⟩,e⟩;have o:Z'.row Z.n=some ca:=eT (e.row (by simp)) cL;have m:=e.n;simp only[G3]at m;have B:Ext Z Z':=U.trans e;refine gS1 (aI d (aI o b0)) ?_;obtain⟨S,D⟩:=nW (((Z'.new [.int .i64 0,.int .i64 0,.int .i64 0,.int .i64 0,.int .i64 0] (some 36)).upd Z'.n [.int .i64 T.t.q,.int .i64 T.t.b,.int .i64 T.t.g,.int .i64 T.t.p,.int .i64 T.t.s]));rw[D];have E1:Ext Z' S:=by rw[<- D];exact eX
 have nS:S.n=Z'.n+1:=by rw[<- D];rfl
 have G:S.row Z'.n=some [.int .i64 T.t.q,.int .i64 T.t.b,.int .i64 T.t.g,.int .i64 T.t.p,.int .i64 T.t.s]:=by rw[<- D];exact cL
 have o:=eT (E1.row om) o;have K:=B.trans E1;refine gS1 (aI d (aI l (aI o a9))) ?_;have N:=Dx E.U6;have b2:=Dx E.tim.1;have b3:=Dx E.tim.2.1;have b4:=Dx E.tim.2.2.1;have b5:=Dx E.tim.2.2.2.1;have b6:=Dx E.tim.2.2.2.2;refine(BD E.U6).mono ?_;rintro r ⟨Z2,rfl,j⟩;have n2:=j.n;have G:=eT (j.row om) G;have K:=K.trans j;refine gS1 G ?_;refine(BD E.tim.1).mono ?_;rintro r ⟨Z3,rfl,F⟩;have m0:=F.n;have G:=eT (F.row om) G;have K:=K.trans F;refine gS1 G ?_;refine(BD E.tim.2.1).mono ?_;rintro r ⟨Z4,rfl,W⟩;have m1:=W.n;have G:=eT (W.row om) G;have K:=K.trans W;refine gS1 G ?_;refine(BD E.tim.2.2.1).mono ?_;rintro r ⟨Z5,rfl,X⟩;have m2:=X.n;have G:=eT (X.row om) G;have K:=K.trans X;refine gS1 G ?_;refine(BD E.tim.2.2.2.1).mono ?_;rintro r ⟨Z6,rfl,Y⟩;have m3:=Y.n;have G:=eT (Y.row om) G;have K:=K.trans Y;refine gS1 G ?_;refine(BD E.tim.2.2.2.2).mono ?_;rintro r ⟨Z7,rfl,a0⟩;have m4:=a0.n;have G:=eT (a0.row om) G;have K:=K.trans a0;refine gS1 (aI (asx F) (aI (asx W) (aI (asx X) (aI (asx Y) (aI (asx a0) @Tryz.results124))))) ?_
 try refine dW1 (aI (asx F) (aI (asx W) (aI (asx X) (aI (asx Y) (asx a0))))) ?_
 try(refine gS1 @Tryz.results124 ?_;try exact⟨⟩)
 refine⟨_,?_,K⟩;rw[AG5,<- a];simp[nl,Dc,spJ,LM.word,LM.txt]
end Go.Proofs.T
