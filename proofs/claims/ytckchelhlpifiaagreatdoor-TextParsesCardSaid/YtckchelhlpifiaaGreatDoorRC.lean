/- The F9 bN of a nY lists: right AX0 are found right. -/
import Derived.Test.YtckchelhlpifiaaGreatDoorRB
set_option linter.unusedSimpArgs false
set_option linter.unusedVariables false
set_option linter.defProp false
set_option maxHeartbeats 32000000
set_option maxRecDepth 100000
namespace Go.Proofs.T
open Go Go.Ab
open Nat (reduceMul reduceEqDiff reduceAdd)
section
variable {Z:St}{ca:List Value}{T:Tn}
def o7 {n m:Int}(h1:m<=n) (h2:n<=1000000000):Ev (gO 35 [.int .i64 n,.int .i64 m] Z) (fun r=>r=⟨false,.bool true,Z⟩) ⟨⟩:=by
 have c1:decide (n<m)=false:=dF;have c2:decide (1000000000<n)=false:=dF;refine D0 Tryz.func35 rfl rfl ?_;refine gS1 (aI c1 (aI c2 (a3N @G9 @H2 @Tryz.results35))) ?_;try exact⟨⟩
structure Gt (Z:St) (ca:List Value) (T:Tn) (vl vc vr:Value) (ex:List Value) (vt vk:Value):Prop where
 all:sub ca 0 20=some ca
 p0:sub ca 0 1=some [str T.name]
 p1:sub ca 1 1=some [vl]
 p2:sub ca 2 1=some [vc]
 p3:sub ca 3 1=some [vr]
 p4:sub ca 4 1=some [.int .i64 T.low]
 p5:sub ca 5 1=some [.int .i64 T.high]
 p6:sub ca 6 5=some ex
 p11:sub ca 11 1=some [vt]
 p12:sub ca 12 1=some [.int .i64 T.P8]
 p13:sub ca 13 1=some [vk]
 p14:sub ca 14 1=some [.int .i64 T.J8]
 p15:sub ca 15 5=some [.int .i64 T.t.q,.int .i64 T.t.b,.int .i64 T.t.g,.int .i64 T.t.p,.int .i64 T.t.s]
 q15:sub ca 15 1=some [.int .i64 T.t.q]
 q16:sub ca 16 1=some [.int .i64 T.t.b]
 q17:sub ca 17 1=some [.int .i64 T.t.g]
 q18:sub ca 18 1=some [.int .i64 T.t.p]
 q19:sub ca 19 1=some [.int .i64 T.t.s]
def Dm.parts (h:Dm Z ca T):∃ vl vc vr ex vt vk,Gt Z ca T vl vc vr ex vt vk/\gW Z vl T.G8/\SJ Z vc T.D2/\gY Z vr T.reqs/\Ag Z ex T.f/\HX Z vt T.F5/\PC Z vk T.D6:=by
 obtain⟨vl,vc,vr,ex,vt,vk,rfl,h2,h3,h4,h5,h6,h7⟩:=h;have hx:=h5.len
 match ex,hx with
 | [x0,x1,x2,x3,x4],_=>
 exact⟨vl,vc,vr,_,vt,vk,⟨rfl,rfl,rfl,rfl,rfl,rfl,rfl,rfl,rfl,rfl,rfl,rfl,rfl,rfl,rfl,rfl,rfl,rfl⟩,h2,h3,h4,h5,h6,h7⟩
def RS {s:By}(h:AL s=true):NP s=true:=by
 unfold AL at h;rw[y6]at h;unfold NP;rw[IB,h.1];have:=h.2;unfold JZ at this;simp at this;obtain⟨h1,h2,h3,h4⟩:=this;simp[h1,h2,h3,h4]
def Mr {α:Type}{l:List α}(h:l.Nodup){i j:Nat}{a b:α}(hij:i<j) (ha:l[i]? =some a) (hb:l[j]? =some b):a≠b:=by
 obtain⟨h1,rfl⟩:=List.getElem?_eq_some_iff.1 ha;obtain⟨h2,rfl⟩:=List.getElem?_eq_some_iff.1 hb;exact zi.1 h i j h1 h2 hij
def cP (hT:Dm Z ca T) (hr:PQ T):Ev (gO 34 [.agg ⟨ca⟩] Z) (fun r=>∃ Z',r=⟨false,.bool true,Z'⟩/\Ext Z Z') ⟨⟩:=by
 obtain⟨vl,vc,vr,ex,vt,vk,hp,h2,h3,h4,h5,h6,vs,h7,h8⟩:=hT.parts;obtain⟨la,lc,lb,lo,lcs,rfl,l1,l2⟩:=h2.use;obtain⟨ca',cc,cb,co,ccs,rfl,c1,c2⟩:=h3.use;obtain⟨ra,rc,rb,ro,rcs,rfl,r1,r2⟩:=h4.use;obtain⟨ta,tc,tb,to',tcs,rfl,t1,t2⟩:=h6.use;obtain⟨ka,kc,kb,ko,kcs,rfl,k1,k2⟩:=SL.Pe h7;have hfa:=hp.all;have L0:=eE.2 hr.Az9;have L1:=hr.G8;have L2:=hr.D2;have L3:=hr.reqs;have L4:=hr.F5;have L5:=hr.D6;have L6:=h8.len;have s1:=hp.p1;have s2:=hp.p2;have s3:=hp.p3;have s7:=hp.p11;have s9:=hp.p13;refine D0 Tryz.func34 rfl rfl ?_;refine gS1 (aI hfa s1) ?_;have E0:Ext Z (Z.new ca):=eX;have z1:decide ((T.G8.length:Int)<1)=false:=dF;have z2:decide (12<(T.G8.length:Int))=false:=dF;have z3:decide (12<(T.D2.length:Int))=false:=dF;have z4:decide (24<(T.reqs.length:Int))=false:=dF;have z5:decide (12<(T.F5.length:Int))=false:=dF;have z6:decide (12<(vs.length:Int))=false:=dF;simp(maxSteps:=8000000) (disch:=first|exact dS|fail) only[↓bD,bW,reduceMul,reduceEqDiff,reduceAdd,Nat.reduceBEq,reduceIte,Option.isNone_none,z1,z2,z3,z4,z5,z6,s1,s2,s3,s7,s9,G9,H2];clear z1 z2 z3 z4 z5 z6
 refine F4 T.G8.length (fun k fr Z'=>fr.get 4=some (.int .i64 k)/\fr.get 1=some (.pointer (some ⟨Z.n,0,none⟩))/\fr.get 3=some (.bool true)/\Ext (Z.new ca) Z')
  (fun r=>∃ fr Z',r=⟨.exit 0,fr,Z'⟩/\fr.get 1=some (.pointer (some ⟨Z.n,0,none⟩))/\fr.get 3=some (.bool true)/\Ext (Z.new ca) Z') ?_ ?_ ?_ ?_
 ·exact⟨fR,fR,fR,.refl _⟩
 ·rintro k fr Z' hk ⟨g4,g1,g3,hE⟩;have hc:=J2 hk;have w1:Z'.row Z.n=some ca:=eT (hE.row (by simp)) cL;have hE0:Ext Z Z':=E0.trans hE;obtain⟨x,hx⟩:=E8 hk;obtain⟨sp,rfl,l3,l4⟩:=l1 om;have w2:=eT (hE0.row l3) l4;obtain⟨-,m1,m2⟩:=l2 k x hx;obtain⟨y1,y2,y3⟩:=hr.lot x (W8 hx);obtain⟨S,hS⟩:=nm Z';rw[hS]at w1 w2 hE hE0 ⊢;refine gS1 (aI g4 (aI g1 (aI g3 (aI hc (aI w1 (aI s1 (aI w2 m1))))))) ?_;refine(o7 y1 y2).mono ?_;rintro r rfl;refine gS1 (aI g4 (aI g1 (aI g3 (aI w1 (aI s1 (aI w2 (aI m1 m2))))))) ?_;refine(o7 y3.1 y3.2).mono ?_;rintro r rfl;refine gS1 (aI g4 (aI g1 (aI g3 (aI w1 (aI s1 (aI w2 m1)))))) ?_
  refine F4 k (fun j fr τ=>fr.get 5=some (.int .i64 j)/\fr.get 4=some (.int .i64 k)/\fr.get 1=some (.pointer (some ⟨Z.n,0,none⟩))/\fr.get 3=some (.bool true)/\τ=S)
   (fun r=>∃ fr,r=⟨.exit 2,fr,S⟩/\fr.get 4=some (.int .i64 k)/\fr.get 1=some (.pointer (some ⟨Z.n,0,none⟩))/\fr.get 3=some (.bool true)) ?_ ?_ ?_ ?_
  ·exact⟨fR,fR1 g4,fR1 g1,fR1 g3,rfl⟩
  ·rintro j fr τ hj ⟨h5,h4,g1,g3,rfl⟩;have hc:=J2 hj;obtain⟨y,hy⟩:=E8 (show j<T.G8.length by omega);obtain⟨-,n1,-⟩:=l2 j y hy;have dn:decide (y.id=x.id)=false:=z4z (Mr hr.ids hj (by rw[List.getElem?_map,hy];rfl) (by rw[List.getElem?_map,hx];rfl));refine gS1 (aI h5 (aI h4 (aI g1 (aI g3 (aI hc (aI w1 (aI s1 (aI w2 (aI m1 (aI n1 dn)))))))))) ?_;exact⟨fR,fR1 h4,fR1 g1,fR,by trivial⟩
  ·rintro fr τ ⟨h5,h4,g1,g3,rfl⟩;refine gS1 (aI h5 h4) ?_;exact⟨_,rfl,fR1 h4,fR1 g1,fR1 g3⟩
  rintro r ⟨fr,rfl,g4,g1,g3⟩;refine gS1 (aI g4 g1) ?_;exact⟨fR,fR1 g1,fR1 g3,hE⟩
 ·rintro fr Z' ⟨g4,g1,g3,hE⟩;have w1:Z'.row Z.n=some ca:=eT (hE.row (by simp)) cL;refine gS1 (aI g4 (aI g1 (aI w1 s1))) ?_;exact⟨_,_,rfl,fR1 g1,fR1 g3,hE⟩
 rintro r ⟨fr,Z',rfl,g1,g3,hE⟩;refine gS ?_
 refine F4 T.D2.length (fun k fr Z'=>fr.get 6=some (.int .i64 k)/\fr.get 1=some (.pointer (some ⟨Z.n,0,none⟩))/\fr.get 3=some (.bool true)/\Ext (Z.new ca) Z')
  (fun r=>∃ fr Z',r=⟨.exit 4,fr,Z'⟩/\fr.get 1=some (.pointer (some ⟨Z.n,0,none⟩))/\fr.get 3=some (.bool true)/\Ext (Z.new ca) Z') ?_ ?_ ?_ ?_
 ·exact⟨fR,fR1 g1,fR1 g3,hE⟩
 ·clear g1 g3 hE fr;rintro k fr Z' hk ⟨g4,g1,g3,hE⟩;have hc:=J2 hk;have w1:Z'.row Z.n=some ca:=eT (hE.row (by simp)) cL;have hEn:=hE.n;simp only[N8]at hEn;have hE0:Ext Z Z':=E0.trans hE;obtain⟨x,hx⟩:=E8 hk;obtain⟨sp,rfl,l3,l4⟩:=c1 om;have w2:=eT (hE0.row l3) l4;obtain⟨m0,m1,-⟩:=c2 k x hx;obtain⟨y1,y2,y3,y4⟩:=hr.MB x (W8 hx);unfold AB.row at m0;refine gS1 (aI g4 (aI g1 (aI g3 (aI hc (aI w1 (aI s2 (aI w2 m0))))))) ?_;obtain⟨S,hS⟩:=nm (((Z'.new [str [],.int .i64 0,.int .i64 0,.int .i64 0,.bool false] (some 64)).upd Z'.n [str x.name,.int .i64 x.kind,.int .i64 x.low,.int .i64 x.high,.bool x.less]));rw[hS];have E1:Ext Z' S:=by rw[<- hS];exact eX
  have wS:S.row Z'.n=some [str x.name,.int .i64 x.kind,.int .i64 x.low,.int .i64 x.high,.bool x.less]:=by rw[<- hS];exact cL
  have w1:=eT (E1.row om) w1;have w2:=eT (E1.row om) w2;refine DT.mono ?_;rintro r rfl;have q1:=RS y1;refine gS1 (aI q1 wS) ?_;refine(o7 y3.1 y3.2).mono ?_;rintro r rfl;refine gS1 wS ?_;refine(o7 y4.1 y4.2).mono ?_;rintro r rfl;have q2:∀ b,decide (x.kind=1)=b->(b=true\/decide (x.kind=2)=true):=by
   intro b hb;rcases y2 with h|h
   ·left;rw[<- hb,h];rfl
   ·right;rw[h];rfl
  have step:∀ fr:Fr,fr.get 8=some (.int .i64 (0:Nat))->True:=fun _ _=>trivial;clear step;cases q3:decide (x.kind=1)
  case' true=>
   refine gS1 (aI wS (aI @G9 (aI @H2 q3))) ?_
  case' false=>
   have q4:decide (x.kind=2)=true:=(q2 _ q3).resolve_left (by simp);refine gS1 (aI wS (aI @G9 (aI @H2 (aI q3 q4)))) ?_
  all_goals
   refine F4 k (fun j fr τ=>fr.get 8=some (.int .i64 j)/\fr.get 6=some (.int .i64 k)/\fr.get 1=some (.pointer (some ⟨Z.n,0,none⟩))/\fr.get 7=some (.pointer (some ⟨Z'.n,0,none⟩))/\fr.get 3=some (.bool true)/\τ=S)
    (fun r=>∃ fr,r=⟨.exit 6,fr,S⟩/\fr.get 6=some (.int .i64 k)/\fr.get 1=some (.pointer (some ⟨Z.n,0,none⟩))/\fr.get 7=some (.pointer (some ⟨Z'.n,0,none⟩))/\fr.get 3=some (.bool true)) ?_ ?_ ?_ ?_
   ·exact⟨fR,fR1 g4,fR1 g1,fR,fR,rfl⟩
   ·rintro j fr τ hj ⟨h5,h4,g1,g7,g3,rfl⟩;have hc:=J2 hj;obtain⟨y,hy⟩:=E8 (show j<T.D2.length by omega);obtain⟨-,n1,-⟩:=c2 j y hy;have dn:decide (y.name=x.name)=false:=z4z (Mr hr.crs hj (by rw[List.getElem?_map,hy];rfl) (by rw[List.getElem?_map,hx];rfl));refine gS1 (aI h5 (aI h4 (aI g1 (aI g3 (aI hc (aI w1 (aI g7 (aI s2 (aI w2 (aI n1 (aI wS dn))))))))))) ?_;exact⟨fR,fR1 h4,fR1 g1,fR1 g7,fR,by trivial⟩
   ·rintro fr τ ⟨h5,h4,g1,g7,g3,rfl⟩;refine gS1 (aI h5 h4) ?_;exact⟨_,rfl,fR1 h4,fR1 g1,fR1 g7,fR1 g3⟩
   rintro r ⟨fr,rfl,g4,g1,g7,g3⟩;refine gS1 (aI g4 g1) ?_;exact⟨fR,fR1 g1,fR1 g3,hE.trans E1⟩
 ·rintro fr Z' ⟨g4,g1,g3,hE⟩;have w1:Z'.row Z.n=some ca:=eT (hE.row (by simp)) cL;refine gS1 (aI g4 (aI g1 (aI w1 s2))) ?_;exact⟨_,_,rfl,fR1 g1,fR1 g3,hE⟩
 rintro r ⟨fr,Z',rfl,g1,g3,hE⟩;refine gS ?_
 refine F4 T.reqs.length (fun k fr Z'=>fr.get 9=some (.int .i64 k)/\fr.get 1=some (.pointer (some ⟨Z.n,0,none⟩))/\fr.get 3=some (.bool true)/\Ext (Z.new ca) Z')
  (fun r=>∃ fr Z',r=⟨.exit 8,fr,Z'⟩/\fr.get 1=some (.pointer (some ⟨Z.n,0,none⟩))/\fr.get 3=some (.bool true)/\Ext (Z.new ca) Z') ?_ ?_ ?_ ?_
 ·exact⟨fR,fR1 g1,fR1 g3,hE⟩
 ·clear g1 g3 hE fr;rintro k fr Z' hk ⟨g4,g1,g3,hE⟩;have hc:=J2 hk;have w1:Z'.row Z.n=some ca:=eT (hE.row (by simp)) cL;have hEn:=hE.n;simp only[N8]at hEn;have hE0:Ext Z Z':=E0.trans hE;obtain⟨x,hx⟩:=E8 hk;obtain⟨sp,rfl,l3,l4⟩:=r1 om;have w2:=eT (hE0.row l3) l4;obtain⟨m0,m1,-⟩:=r2 k x hx;obtain⟨y1,y2,y3⟩:=hr.req x (W8 hx);unfold Req.row at m0;refine gS1 (aI g4 (aI g1 (aI g3 (aI hc (aI w1 (aI s3 (aI w2 m0))))))) ?_;obtain⟨S,hS⟩:=nm (((Z'.new [str [],str [],.int .i64 0] (some 66)).upd Z'.n [str x.name,str x.rel,.int .i64 x.value]));rw[hS];have E1:Ext Z' S:=by rw[<- hS];exact eX
  have wS:S.row Z'.n=some [str x.name,str x.rel,.int .i64 x.value]:=by rw[<- hS];exact cL
  refine DT.mono ?_;rintro r rfl;have q1:=RS y1;refine gS1 (aI q1 wS) ?_;refine(o7 y3.1 y3.2).mono ?_;rintro r rfl;have q2:∀ b,decide (x.rel=[60,61])=b->(b=true\/decide (x.rel=[62,61])=true):=by
   intro b hb;simp at y2;rcases y2 with h|h
   ·left;rw[<- hb,h];rfl
   ·right;rw[h];rfl
  cases q3:decide (x.rel=[60,61])with
  | true=>
    refine gS1 (aI wS (aI g4 (aI @G9 (aI @H2 q3)))) ?_;exact⟨fR,fR1 g1,fR,hE.trans E1⟩
  | false=>
    have q4:decide (x.rel=[62,61])=true:=(q2 _ q3).resolve_left (by simp);refine gS1 (aI wS (aI g4 (aI @G9 (aI @H2 (aI q3 q4))))) ?_;exact⟨fR,fR1 g1,fR,hE.trans E1⟩
 ·rintro fr Z' ⟨g4,g1,g3,hE⟩;have w1:Z'.row Z.n=some ca:=eT (hE.row (by simp)) cL;refine gS1 (aI g4 (aI g1 (aI w1 s3))) ?_;exact⟨_,_,rfl,fR1 g1,fR1 g3,hE⟩
 rintro r ⟨fr,Z',rfl,g1,g3,hE⟩;refine gS ?_
 refine F4 T.F5.length (fun k fr Z'=>fr.get 11=some (.int .i64 k)/\fr.get 1=some (.pointer (some ⟨Z.n,0,none⟩))/\fr.get 3=some (.bool true)/\Ext (Z.new ca) Z')
  (fun r=>∃ fr Z',r=⟨.exit 10,fr,Z'⟩/\fr.get 1=some (.pointer (some ⟨Z.n,0,none⟩))/\fr.get 3=some (.bool true)/\Ext (Z.new ca) Z') ?_ ?_ ?_ ?_
 ·exact⟨fR,fR1 g1,fR1 g3,hE⟩
 ·clear g1 g3 hE fr;rintro k fr Z' hk ⟨g4,g1,g3,hE⟩;have hc:=J2 hk;have w1:Z'.row Z.n=some ca:=eT (hE.row (by simp)) cL;have hE0:Ext Z Z':=E0.trans hE;obtain⟨x,hx⟩:=E8 hk;obtain⟨sp,rfl,l3,l4⟩:=t1 om;have w2:=eT (hE0.row l3) l4;have m1:=t2 k x hx;have y1:=hr.tie x (W8 hx);obtain⟨S,hS⟩:=nm Z';rw[hS]at w1 w2 hE hE0 ⊢;have inner:∀ fr:Fr,fr.get 12=some (.int .i64 (0:Nat))->fr.get 11=some (.int .i64 k)->fr.get 1=some (.pointer (some ⟨Z.n,0,none⟩))->fr.get 3=some (.bool true)->True:=fun _ _ _ _ _=>trivial;clear inner;cases q2:decide (x=[112,114,105,99,101])
  case' true=>
   refine gS1 (aI g4 (aI g1 (aI g3 (aI hc (aI w1 (aI s7 (aI w2 (aI m1 q2)))))))) ?_
  case' false=>
   refine gS1 (aI g4 (aI g1 (aI g3 (aI hc (aI w1 (aI s7 (aI w2 (aI m1 q2)))))))) ?_;refine DT.mono ?_;rintro r rfl;have q5:=RS (y1.resolve_left (z9z q2));refine gS1 q5 ?_
  all_goals
   refine F4 k (fun j fr τ=>fr.get 12=some (.int .i64 j)/\fr.get 11=some (.int .i64 k)/\fr.get 1=some (.pointer (some ⟨Z.n,0,none⟩))/\fr.get 3=some (.bool true)/\τ=S)
    (fun r=>∃ fr,r=⟨.exit 12,fr,S⟩/\fr.get 11=some (.int .i64 k)/\fr.get 1=some (.pointer (some ⟨Z.n,0,none⟩))/\fr.get 3=some (.bool true)) ?_ ?_ ?_ ?_
   ·exact⟨fR,fR1 g4,fR1 g1,fR,rfl⟩
   ·rintro j fr τ hj ⟨h5,h4,g1,g3,rfl⟩;have hc:=J2 hj;obtain⟨y,hy⟩:=E8 (show j<T.F5.length by omega);have n1:=t2 j y hy;have dn:decide (y=x)=false:=z4z (Mr hr.tnd hj hy hx);refine gS1 (aI h5 (aI h4 (aI g1 (aI g3 (aI hc (aI w1 (aI s7 (aI w2 (aI n1 (aI m1 dn)))))))))) ?_;exact⟨fR,fR1 h4,fR1 g1,fR,by trivial⟩
   ·rintro fr τ ⟨h5,h4,g1,g3,rfl⟩;refine gS1 (aI h5 h4) ?_;exact⟨_,rfl,fR1 h4,fR1 g1,fR1 g3⟩
   rintro r ⟨fr,rfl,g4,g1,g3⟩;refine gS1 (aI g4 g1) ?_;exact⟨fR,fR1 g1,fR1 g3,hE⟩
 ·rintro fr Z' ⟨g4,g1,g3,hE⟩;have w1:Z'.row Z.n=some ca:=eT (hE.row (by simp)) cL;refine gS1 (aI g4 (aI g1 (aI w1 s7))) ?_;exact⟨_,_,rfl,fR1 g1,fR1 g3,hE⟩
 rintro r ⟨fr,Z',rfl,g1,g3,hE⟩;refine gS ?_
 refine F4 vs.length (fun k fr Z'=>fr.get 13=some (.int .i64 k)/\fr.get 1=some (.pointer (some ⟨Z.n,0,none⟩))/\fr.get 3=some (.bool true)/\Ext (Z.new ca) Z')
  (fun r=>∃ fr Z',r=⟨.exit 14,fr,Z'⟩/\fr.get 1=some (.pointer (some ⟨Z.n,0,none⟩))/\fr.get 3=some (.bool true)/\Ext (Z.new ca) Z') ?_ ?_ ?_ ?_
 ·exact⟨fR,fR1 g1,fR1 g3,hE⟩
 ·clear g1 g3 hE fr;rintro k fr Z' hk ⟨g4,g1,g3,hE⟩;have hc:=J2 hk;have w1:Z'.row Z.n=some ca:=eT (hE.row (by simp)) cL;have hE0:Ext Z Z':=E0.trans hE;obtain⟨x,hx⟩:=E8 hk;obtain⟨C,hC⟩:=E8 (show k<T.D6.length by omega);obtain⟨ia,ic,ib,io,ics,rfl,i1,i2⟩:=(h8.get hx hC).use;obtain⟨y1,y2,y3,y4⟩:=hr.combo C (W8 hC);obtain⟨sp,rfl,l3,l4⟩:=k1 om;have w2:=eT (hE0.row l3) l4;have m1:=k2 k _ hx;rw[Df]at m1;have q2:decide ((C.length:Int)<2)=false:=dF;have q3:decide (12<(C.length:Int))=false:=dF;obtain⟨S,hS⟩:=nm Z';rw[hS]at w1 w2 hE hE0 ⊢;refine gS1 (aI g4 (aI g1 (aI g3 (aI hc (aI w1 (aI s9 (aI w2 (aI m1 (aI q2 q3))))))))) ?_
  refine F4 C.length (fun i fr τ=>fr.get 15=some (.int .i64 i)/\fr.get 13=some (.int .i64 k)/\fr.get 1=some (.pointer (some ⟨Z.n,0,none⟩))/\fr.get 14=some (.slice ia C.length ic)/\fr.get 3=some (.bool true)/\τ=S)
   (fun r=>∃ fr,r=⟨.exit 16,fr,S⟩/\fr.get 13=some (.int .i64 k)/\fr.get 1=some (.pointer (some ⟨Z.n,0,none⟩))/\fr.get 3=some (.bool true)) ?_ ?_ ?_ ?_
  ·exact⟨fR,fR1 g4,fR1 g1,fR,fR,rfl⟩
  ·clear g1 g3 g4 hc;rintro i fr τ hi ⟨g15,g13,g1,g14,g3,rfl⟩;have hc:=J2 hi;obtain⟨y,hy⟩:=E8 hi;obtain⟨sp,rfl,l3,l4⟩:=i1 om;have w3:=eT (hE0.row l3) l4;have n1:=i2 i y hy;have yy:=y4 y (W8 hy);obtain⟨S,hS⟩:=nm τ;rw[hS]at w1 w2 w3 hE hE0 ⊢;refine gS1 (aI g15 (aI g14 (aI hc (aI g3 (aI w3 n1))))) ?_;refine(o7 yy.1 yy.2).mono ?_;rintro r rfl;refine gS1 (aI g3 g15) ?_
   refine F4 i (fun j fr τ=>fr.get 16=some (.int .i64 j)/\fr.get 15=some (.int .i64 i)/\fr.get 13=some (.int .i64 k)/\fr.get 1=some (.pointer (some ⟨Z.n,0,none⟩))/\fr.get 14=some (.slice (some ⟨ib,io,sp⟩) C.length ic)/\fr.get 3=some (.bool true)/\τ=S)
    (fun r=>∃ fr,r=⟨.exit 18,fr,S⟩/\fr.get 15=some (.int .i64 i)/\fr.get 13=some (.int .i64 k)/\fr.get 1=some (.pointer (some ⟨Z.n,0,none⟩))/\fr.get 14=some (.slice (some ⟨ib,io,sp⟩) C.length ic)/\fr.get 3=some (.bool true)) ?_ ?_ ?_ ?_
   ·exact⟨fR,fR1 g15,fR1 g13,fR1 g1,fR1 g14,fR,rfl⟩
   ·clear g15 g13 g1 g14 g3 hc;rintro j fr τ hj ⟨g16,g15,g13,g1,g14,g3,rfl⟩;have hc:=J2 hj;obtain⟨z,hz⟩:=E8 (show j<C.length by omega);have n2:=i2 j z hz;have dn:decide (z=y)=false:=z4z (Mr y3 hj hz hy);refine gS1 (aI g16 (aI g15 (aI g13 (aI g1 (aI g14 (aI g3 (aI hc (aI w3 (aI n1 (aI n2 dn)))))))))) ?_;exact⟨fR,fR1 g15,fR1 g13,fR1 g1,fR1 g14,fR,by trivial⟩
   ·rintro fr τ ⟨g16,g15,g13,g1,g14,g3,rfl⟩;refine gS1 (aI g16 g15) ?_;exact⟨_,rfl,fR1 g15,fR1 g13,fR1 g1,fR1 g14,fR1 g3⟩
   rintro r ⟨fr,rfl,g15,g13,g1,g14,g3⟩;refine gS1 g15 ?_;exact⟨fR,fR1 g13,fR1 g1,fR1 g14,fR1 g3,by trivial⟩
  ·rintro fr τ ⟨g15,g13,g1,g14,g3,rfl⟩;refine gS1 (aI g15 g14) ?_;exact⟨_,rfl,fR1 g13,fR1 g1,fR1 g3⟩
  rintro r ⟨fr,rfl,g4,g1,g3⟩;refine gS1 g4 ?_;exact⟨fR,fR1 g1,fR1 g3,hE⟩
 ·rintro fr Z' ⟨g4,g1,g3,hE⟩;have w1:Z'.row Z.n=some ca:=eT (hE.row (by simp)) cL;refine gS1 (aI g4 (aI g1 (aI w1 s9))) ?_;exact⟨_,_,rfl,fR1 g1,fR1 g3,hE⟩
 rintro r ⟨fr,Z',rfl,g1,g3,hE⟩;refine gS1 (aI g3 @Tryz.results34) ?_;exact⟨_,rfl,E0.trans hE⟩
end
section
variable {k:Nat}{n:Int}{Z:St}
def gl (l:Lot):By:=BU (.lot l.id.toNat l.P8.toNat)
def gc (c:AB):By:=BU (.MB c.name c.kind.toNat c.low.toNat c.high.toNat c.less)
def gr (r:Req):By:=BU (.req r.name r.rel r.value.toNat)
def gk (c:List Int):By:=BU (.combo (c.map Int.toNat))
def nl (l:By):By:=l++[10]
def B0 (T:Tn):By:=nl (BU (.Fj T.name))
def B1 (T:Tn):By:=B0 T++under (T.G8.map gl)
def B2 (T:Tn):By:=B1 T++under (T.D2.map gc)
def B3 (T:Tn):By:=B2 T++under (T.reqs.map gr)
def B4 (T:Tn):By:=B3 T++(nl (BU (.Vd T.low.toNat T.high.toNat))++nl (BU (.fml T.f)))
def B5 (T:Tn):By:=B4 T++(if T.F5=[]then[]else nl (BU (.tie T.F5)))
def B6 (T:Tn):By:=B5 T++(if T.P8=0 then[]else nl (BU (.P8 T.P8.toNat)))
def B7 (T:Tn):By:=B6 T++under (T.D6.map gk)
def Iw {α:Type}{l:List α}{g:α->By}{x:α}(h:l[k]? =some x):under ((l.take (k+1)).map g)=under ((l.take k).map g)++(g x++[10]):=by
 rw[Dj,h];unfold under;simp
def Ix {α:Type}{l:List α}{g:α->By}:under ((l.take 0).map g)=[]:=rfl
def Iy {α:Type}{l:List α}{g:α->By}:under ((l.take l.length).map g)=under (l.map g):=by rw[Bl]
def blk (ws:List By):By:=(ws.map fun x=>32::x).flatten
def Yj:∀ (ws:List By) (w:By),spJ (w::ws)=w++blk ws:=by
 intro ws;induction ws with
 |nil=>intro w;simp[spJ,blk]
 | cons v ws ih=>
   intro w;show w++32::spJ (v::ws)=_;rw[ih];simp[blk]
def rR {l:List By}{x:By}(h:l[k]? =some x):blk (l.take (k+1))=blk (l.take k)++32::x:=by
 rw[Dj,h];unfold blk;simp
def VR {α:Type}{l:List α}{f:α->By}{x:α}(h:l[k]? =some x):blk ((l.take (k+1)).map f)=blk ((l.take k).map f)++32::f x:=by
 rw[Dj,h];unfold blk;simp
def eG {T:Tn}:DQ T=B7 T++(nl (BU (.J8 T.J8.toNat))++nl (BU (.times T.t.q.toNat T.t.b.toNat T.t.g.toNat T.t.p.toNat T.t.s.toNat))):=by
 have e:∀ (p:Prop) [Decidable p] (m:LM),under ((if p then[]else[m]).map BU)=if p then[]else nl (BU m):=fun p _ m=>by split<;>simp[under,nl]
 have ua:∀ a b:List By,under (a++b)=under a++under b:=fun a b=>by unfold under;simp
 have uc:∀ (a:By) (b:List By),under (a::b)=nl a++under b:=fun a b=>by unfold under nl;simp
 have un:under []=[]:=rfl;unfold DQ gv B7 B6 B5 B4 B3 B2 B1 B0;simp only[SD,y7,og,List.map_nil,ua,uc,un,e,Ky,IV];rfl
def Cy (h:0<=n/\n<1000000000):(dcN n.toNat).length<=9:=Od 8 _ om
def RJ {s:By}(h:AL s=true):s.length<=30:=by
 unfold AL at h;rw[y6]at h;exact QC h.1
def xU:By:=[116,105,101]
def VS:By:=[99,111,109,98,111]
def cG {P:Program}{H:EW}{rd:Option Nat}{a b:Code}{fr:Fr}{Z:St}{Q:Res->Prop}{u:Hd Q}(J:Fr->St->Prop) (h:Ev (lim P H rd a fr Z) (fun r=>∃ fr' Z',r=⟨.normal,fr',Z'⟩/\J fr' Z') ⟨⟩)
  (k:∀ fr' Z',J fr' Z'->Ev (lim P H rd b fr' Z') Q ⟨⟩):Ev (lim P H rd (.seq a b) fr Z) Q u:=by
 rw[LR];refine h.mono ?_;rintro r ⟨fr',Z',rfl,hJ⟩;rw[Ck];exact k fr' Z' hJ
def SmN (n:Int):Prop:=0<=n/\n<1000000000
structure Tn.Sm (T:Tn):Prop where
 lot:∀ l∈T.G8,SmN l.id/\SmN l.P8
 MB:∀ c∈T.D2,(c.kind=1\/c.kind=2)/\SmN c.low/\SmN c.high
 req:∀ r∈T.reqs,SmN r.value
 combo:∀ l∈T.D6,∀ n∈l,SmN n
 low:SmN T.low
 high:SmN T.high
 P8:SmN T.P8
 J8:SmN T.J8
 tim:SmN T.t.q/\SmN T.t.b/\SmN T.t.g/\SmN T.t.p/\SmN T.t.s
def Bu (h:SmN n):Ev (gO 76 [.int .i64 n] Z) (fun r=>∃ Z',r=⟨false,str (dcN n.toNat),Z'⟩/\Ext Z Z') ⟨⟩:=by
 obtain⟨N,rfl⟩:=aH h.1;have h2:=h.2;exact Iu (n:=N) om
def Yk {ca:List Value}{T:Tn}(hT:Dm Z ca T) (hr:PQ T) (hS:T.Sm):Ev (gO 36 [.agg ⟨ca⟩] Z) (fun r=>∃ Z',r=⟨false,str (DQ T),Z'⟩/\Ext Z Z') ⟨⟩:=by
 obtain⟨vl,vc,vr,ex,vt,vk,hp,h2,h3,h4,h5,h6,vs,h7,h8⟩:=hT.parts;obtain⟨la,lc,lb,lo,lcs,rfl,l1,l2⟩:=h2.use;obtain⟨ca',cc,cb,co,ccs,rfl,c1,c2⟩:=h3.use;obtain⟨ra,rc,rb,ro,rcs,rfl,r1,r2⟩:=h4.use;obtain⟨ta,tc,tb,to',tcs,rfl,t1,t2⟩:=h6.use;obtain⟨ka,kc,kb,ko,kcs,rfl,k1,k2⟩:=SL.Pe h7;have hfa:=hp.all;have L0:=QC hr.name;have L1:=hr.G8;have L2:=hr.D2;have L3:=hr.reqs;have L4:=hr.F5;have L5:=hr.D6;obtain⟨kf,jf,hf,kY,Ag8⟩:=hr.f;have L6:=h8.len;have s0:=hp.p0;have s1:=hp.p1;have s2:=hp.p2;have s3:=hp.p3;have s4:=hp.p4;have s5:=hp.p5;have s6:=hp.p6;have s7:=hp.p11;have s8:=hp.p12;have s9:=hp.p13;have s10:=hp.p14;have s15:=hp.p15;refine D0 Tryz.func36 rfl rfl ?_;refine gS1 (aI hfa s0) ?_;have E0:Ext Z (Z.new ca):=eX
 refine F4 T.G8.length (fun k fr Z'=>fr.get 4=some (.int .i64 k)/\fr.get 1=some (.pointer (some ⟨Z.n,0,none⟩))/\(∃ s,fr.get 3=some (str s)/\s=B0 T++under ((T.G8.take k).map gl)/\s.length<=200+100*k)/\Ext (Z.new ca) Z')
  (fun r=>∃ fr Z',r=⟨.exit 0,fr,Z'⟩/\fr.get 1=some (.pointer (some ⟨Z.n,0,none⟩))/\(∃ s,fr.get 3=some (str s)/\s=B1 T/\s.length<=2000)/\Ext (Z.new ca) Z') ?_ ?_ ?_ ?_
 ·exact⟨fR,fR,⟨_,fR,(by rw[Ix,IV];simp[B0,nl,BU,spJ,LM.word,LM.txt]),by simp;omega⟩,.refl _⟩
 ·skip
  rintro k fr Z' hk ⟨g4,g1,⟨s,g3,hsp,hs⟩,hE⟩;have hc:=J2 hk;have w1:Z'.row Z.n=some ca:=eT (hE.row (by simp)) cL;have hEn:=hE.n;simp only[N8]at hEn;have hE0:Ext Z Z':=E0.trans hE;obtain⟨x,hx⟩:=E8 hk;obtain⟨sp,rfl,l3,l4⟩:=l1 om;have w2:=eT (hE0.row l3) l4;obtain⟨-,m1,m2⟩:=l2 k x hx;obtain⟨z1,z2⟩:=hS.lot x (W8 hx);have hu1:=Cy z1;have hu2:=Cy z2;refine gS1 (aI g4 (aI g1 (aI g3 (aI hc (aI w1 (aI s1 (aI w2 m1))))))) ?_;refine(Bu z1).mono ?_;rintro r ⟨Z2,rfl,hE2⟩;have n2:=hE2.n;have w1:=eT (hE2.row om) w1;have w2:=eT (hE2.row om) w2;refine gS1 (aI g4 (aI g1 (aI w1 (aI s1 (aI w2 m2))))) ?_;refine(Bu z2).mono ?_;rintro r ⟨Z3,rfl,hE3⟩;refine gS1 (aI (asx hE2) (aI (asx hE3) (aI g4 g1))) ?_
  try refine dW1 (aI (asx hE2) (asx hE3)) ?_
  try(refine gS1 (aI g4 g1) ?_;try exact⟨⟩)
  exact⟨fR,fR1 g1,⟨_,fR,(by rw[hsp,Iw hx];simp[gl,BU,spJ,LM.word,LM.txt,yp]),by simp;omega⟩,hE.trans (hE2.trans hE3)⟩
 ·rintro fr Z' ⟨g4,g1,⟨s,g3,hsp,hs⟩,hE⟩;have w1:Z'.row Z.n=some ca:=eT (hE.row (by simp)) cL;refine gS1 (aI g4 (aI g1 (aI w1 s1))) ?_;exact⟨_,_,rfl,fR1 g1,⟨s,fR1 g3,(by rw[hsp,Iy];rfl),om⟩,hE⟩
 rintro r ⟨fr,Z',rfl,g1,⟨s,g3,hsp,hs⟩,hE⟩;refine gS ?_
 refine F4 T.D2.length (fun k fr Z'=>fr.get 5=some (.int .i64 k)/\fr.get 1=some (.pointer (some ⟨Z.n,0,none⟩))/\(∃ s,fr.get 3=some (str s)/\s=B1 T++under ((T.D2.take k).map gc)/\s.length<=2000+100*k)/\Ext (Z.new ca) Z')
  (fun r=>∃ fr Z',r=⟨.exit 2,fr,Z'⟩/\fr.get 1=some (.pointer (some ⟨Z.n,0,none⟩))/\(∃ s,fr.get 3=some (str s)/\s=B2 T/\s.length<=4000)/\Ext (Z.new ca) Z') ?_ ?_ ?_ ?_
 ·exact⟨fR,fR1 g1,⟨_,fR1 g3,(by rw[Ix,IV];exact hsp),by(try simp)<;>omega⟩,hE⟩
 ·clear g1 g3 hsp hs hE s fr;rintro k fr Z' hk ⟨g4,g1,⟨s,g3,hsp,hs⟩,hE⟩;have hc:=J2 hk;have w1:Z'.row Z.n=some ca:=eT (hE.row (by simp)) cL;have hEn:=hE.n;simp only[N8]at hEn;have hE0:Ext Z Z':=E0.trans hE;obtain⟨x,hx⟩:=E8 hk;obtain⟨sp,rfl,l3,l4⟩:=c1 om;have w2:=eT (hE0.row l3) l4;obtain⟨m0,m1,-⟩:=c2 k x hx;have mem:=W8 hx;obtain⟨kd,z1,z2⟩:=hS.MB x mem;have ln:=RJ (hr.MB x mem).1;have hu1:=Cy z1;have hu2:=Cy z2;unfold AB.row at m0;refine gS1 (aI g4 (aI g1 (aI hc (aI w1 (aI s2 (aI w2 m0)))))) ?_;obtain⟨S,hS'⟩:=nm (((Z'.new [str [],.int .i64 0,.int .i64 0,.int .i64 0,.bool false] (some 64)).upd Z'.n [str x.name,.int .i64 x.kind,.int .i64 x.low,.int .i64 x.high,.bool x.less]));rw[hS'];have E1:Ext Z' S:=by rw[<- hS'];exact eX
  have nS:S.n=Z'.n+1:=by rw[<- hS'];rfl
  have wS:S.row Z'.n=some [str x.name,.int .i64 x.kind,.int .i64 x.low,.int .i64 x.high,.bool x.less]:=by rw[<- hS'];exact cL
  clear hS';have ix:∃ t:By,t.length=5/\t=(if x.kind.toNat=2 then BO else Fm)/\sub [str [103,114,97,100,101],str [111,102,102,101,114]] (x.kind-1).toNat 1=some [str t]/\(∃ q:Nat,x.kind=(q:Int)+1/\q<2):=by
   rcases kd with h|h
   ·exact⟨[103,114,97,100,101],rfl,by rw[h];rfl,by rw[h];rfl,0,om,om⟩
   ·exact⟨[111,102,102,101,114],rfl,by rw[h];rfl,by rw[h];rfl,1,om,om⟩
  obtain⟨t,ht,htk,ix,q,hq,q2⟩:=ix;rw[hq]at wS ix;rw[show((q:Int)+1-1).toNat=q by omega]at ix;have e1:(((q+1:Nat):Int)-1)=(q:Int):=om;refine gS1 (aI g3 (aI wS (aI e1 ix))) ?_;refine(Bu z1).mono ?_;rintro r ⟨Z2,rfl,hE2⟩;have n2:=hE2.n;simp only[N8]at n2;have wS2:Z2.row Z'.n=some [str x.name,.int .i64 ((q:Int)+1),.int .i64 x.low,.int .i64 x.high,.bool x.less]:=by rw[hE2.row (cL),CQ om];exact wS
  refine gS1 wS2 ?_;refine(Bu z2).mono ?_;rintro r ⟨Z3,rfl,hE3⟩;have n3:=hE3.n;have wS3:=eT (hE3.row om) wS2;have hE':Ext (Z.new ca) Z3:=hE.trans (E1.trans (Ext.trans (Ext.trans (Ext.AG (.refl _) _) hE2) hE3));refine gS1 (aI (asx hE2) (aI (asx hE3) (aI @Bq (aI g4 (aI g1 wS3))))) ?_
  try refine dW1 (aI (asx hE2) (asx hE3)) ?_
  try(refine gS1 (aI g4 (aI g1 wS3)) ?_;try exact⟨⟩)
  cases hl:x.less
  all_goals
   refine gS1 (aI hl (aI g4 g1)) ?_;exact⟨fR,fR1 g1,⟨_,fR,(by rw[hsp,Iw hx];simp[gc,BU,spJ,LM.word,LM.txt,hl,htk,HH]),by simp;omega⟩,hE'⟩
 ·rintro fr Z' ⟨g4,g1,⟨s,g3,hsp,hs⟩,hE⟩;have w1:Z'.row Z.n=some ca:=eT (hE.row (by simp)) cL;refine gS1 (aI g4 (aI g1 (aI w1 s2))) ?_;exact⟨_,_,rfl,fR1 g1,⟨s,fR1 g3,(by rw[hsp,Iy];rfl),om⟩,hE⟩
 clear g1 g3 hsp hs hE s fr;rintro r ⟨fr,Z',rfl,g1,⟨s,g3,hsp,hs⟩,hE⟩;refine gS ?_
 refine F4 T.reqs.length (fun k fr Z'=>fr.get 7=some (.int .i64 k)/\fr.get 1=some (.pointer (some ⟨Z.n,0,none⟩))/\(∃ s,fr.get 3=some (str s)/\s=B2 T++under ((T.reqs.take k).map gr)/\s.length<=4000+100*k)/\Ext (Z.new ca) Z')
  (fun r=>∃ fr Z',r=⟨.exit 4,fr,Z'⟩/\fr.get 1=some (.pointer (some ⟨Z.n,0,none⟩))/\(∃ s,fr.get 3=some (str s)/\s=B3 T/\s.length<=8000)/\Ext (Z.new ca) Z') ?_ ?_ ?_ ?_
 ·exact⟨fR,fR1 g1,⟨_,fR1 g3,(by rw[Ix,IV];exact hsp),by(try simp)<;>omega⟩,hE⟩
 ·clear g1 g3 hsp hs hE s fr;rintro k fr Z' hk ⟨g4,g1,⟨s,g3,hsp,hs⟩,hE⟩;have hc:=J2 hk;have w1:Z'.row Z.n=some ca:=eT (hE.row (by simp)) cL;have hEn:=hE.n;simp only[N8]at hEn;have hE0:Ext Z Z':=E0.trans hE;obtain⟨x,hx⟩:=E8 hk;obtain⟨sp,rfl,l3,l4⟩:=r1 om;have w2:=eT (hE0.row l3) l4;obtain⟨m0,m1,-⟩:=r2 k x hx;have mem:=W8 hx;have z1:=hS.req x mem;have hu1:=Cy z1;have ln:=RJ (hr.req x mem).1;have lr:x.rel.length<=2:=by
   have:=(hr.req x mem).2.1;simp at this;rcases this with h|h<;>rw[h]<;>decide
  unfold Req.row at m0;refine gS1 (aI g4 (aI g1 (aI g3 (aI hc (aI w1 (aI s3 (aI w2 m0))))))) ?_;obtain⟨S,hS'⟩:=nm (((Z'.new [str [],str [],.int .i64 0] (some 66)).upd Z'.n [str x.name,str x.rel,.int .i64 x.value]));rw[hS'];have E1:Ext Z' S:=by rw[<- hS'];exact eX
  refine(Bu z1).mono ?_;rintro r ⟨Z2,rfl,hE2⟩;refine gS1 (aI (asx hE2) (aI g4 g1)) ?_
  try refine dW1 (asx hE2) ?_
  try(refine gS1 (aI g4 g1) ?_;try exact⟨⟩)
  exact⟨fR,fR1 g1,⟨_,fR,(by rw[hsp,Iw hx];simp[gr,BU,spJ,LM.word,LM.txt]),by simp;omega⟩,hE.trans (E1.trans hE2)⟩
 ·rintro fr Z' ⟨g4,g1,⟨s,g3,hsp,hs⟩,hE⟩;have w1:Z'.row Z.n=some ca:=eT (hE.row (by simp)) cL;refine gS1 (aI g4 (aI g1 (aI w1 s3))) ?_;exact⟨_,_,rfl,fR1 g1,⟨s,fR1 g3,(by rw[hsp,Iy];rfl),om⟩,hE⟩
 clear g1 g3 hsp hs hE s fr;rintro r ⟨fr,Z',rfl,g1,⟨s,g3,hsp,hs⟩,hE⟩;refine Ev.mono (R:=fun r=>r=⟨.normal,fr,Z'⟩) (v:=⟨⟩) (by simp(maxSteps:=8000000) (disch:=first|exact dS|fail) only[↓bD,bW,reduceMul,reduceEqDiff,reduceAdd,Nat.reduceBEq,reduceIte,Option.isNone_none]) ?_;rintro r rfl;simp only[Ck];refine cG (fun fr Z'=>fr.get 1=some (.pointer (some ⟨Z.n,0,none⟩))/\(∃ s,fr.get 3=some (str s)/\s=B4 T/\s.length<=60000)/\Ext (Z.new ca) Z') ?_ ?_
 ·
  have w1:Z'.row Z.n=some ca:=eT (hE.row (by simp)) cL;have hEn:=hE.n;simp only[N8]at hEn;have hE0:Ext Z Z':=E0.trans hE;refine gS1 (aI g1 (aI g3 (aI w1 s4))) ?_;have hu1:=Cy hS.low;have hu2:=Cy hS.high;refine(Bu hS.low).mono ?_;rintro r ⟨Z2,rfl,hE2⟩;have n2:=hE2.n;have w2:=eT (hE2.row om) w1;refine gS1 (aI g1 (aI w2 s5)) ?_;refine(Bu hS.high).mono ?_;rintro r ⟨Z3,rfl,hE3⟩;have n3:=hE3.n;have w3:=eT (hE3.row om) w2;have E3:Ext Z Z3:=hE0.trans (hE2.trans hE3);refine gS1 (aI g1 (aI w3 s6)) ?_;have hu3:=Jk hf 12 0 kY;refine(ja hf 12 kY om om (h5.mono E3)).mono ?_;rintro r ⟨Z4,rfl,hE4⟩;refine gS1 (aI (asx hE2) (aI (asx hE3) (aI (asx hE4) g1))) ?_
  try refine dW1 (aI (asx hE2) (aI (asx hE3) (asx hE4))) ?_
  exact⟨_,_,rfl,fR1 g1,⟨_,fR,(by rw[hsp];simp[B4,nl,BU,spJ,LM.word,LM.txt]),by simp;omega⟩,hE.trans (hE2.trans (hE3.trans hE4))⟩
 clear g1 g3 hsp hs hE s fr Z';rintro fr Z' ⟨g1,⟨s,g3,hsp,hs⟩,hE⟩;refine cG (fun fr Z'=>fr.get 1=some (.pointer (some ⟨Z.n,0,none⟩))/\(∃ s,fr.get 3=some (str s)/\s=B5 T/\s.length<=62000)/\Ext (Z.new ca) Z') ?_ ?_
 ·
  have w1:Z'.row Z.n=some ca:=eT (hE.row (by simp)) cL;have hEn:=hE.n;simp only[N8]at hEn;have hE0:Ext Z Z':=E0.trans hE;refine gS1 (aI g1 (aI w1 s7)) ?_;cases ht:decide (0<(T.F5.length:Int))with
  | false=>
    refine gS ?_;exact⟨_,_,rfl,fR1 g1,⟨_,fR1 g3,(by rw[hsp];unfold B5;rw[z1z (WN (by have:=z9z ht;omega)),IV]),om⟩,hE⟩
  | true=>
    refine gS1 g3 ?_
    refine F4 T.F5.length (fun k fr Z'=>fr.get 9=some (.int .i64 k)/\fr.get 1=some (.pointer (some ⟨Z.n,0,none⟩))/\(∃ s,fr.get 3=some (str s)/\s=B4 T++(xU++blk (T.F5.take k))/\s.length<=60010+100*k)/\Ext (Z.new ca) Z')
     (fun r=>∃ fr Z',r=⟨.exit 6,fr,Z'⟩/\fr.get 1=some (.pointer (some ⟨Z.n,0,none⟩))/\(∃ s,fr.get 3=some (str s)/\s=B4 T++(xU++blk T.F5)/\s.length<=61900)/\Ext (Z.new ca) Z') ?_ ?_ ?_ ?_
    ·exact⟨fR,fR1 g1,⟨_,fR1 g3,(by rw[hsp];simp[xU,blk]),by(try simp)<;>omega⟩,hE⟩
    ·clear g1 g3 hsp hs hE s fr;rintro k fr Z' hk ⟨g4,g1,⟨s,g3,hsp,hs⟩,hE⟩;have hc:=J2 hk;have w1:Z'.row Z.n=some ca:=eT (hE.row (by simp)) cL;have hEn:=hE.n;simp only[N8]at hEn;have hE0:Ext Z Z':=E0.trans hE;obtain⟨x,hx⟩:=E8 hk;obtain⟨sp,rfl,l3,l4⟩:=t1 om;have w2:=eT (hE0.row l3) l4;have m1:=t2 k x hx;have ln:x.length<=30:=by
      rcases hr.tie x (W8 hx)with h|h
      ·rw[h];decide
      ·exact RJ h
     refine gS1 (aI g4 (aI g1 (aI g3 (aI hc (aI w1 (aI s7 (aI w2 m1))))))) ?_;exact⟨fR,fR1 g1,⟨_,fR,(by rw[hsp,rR hx];simp),by simp;omega⟩,hE⟩
    ·rintro fr Z' ⟨g4,g1,⟨s,g3,hsp,hs⟩,hE⟩;have w1:Z'.row Z.n=some ca:=eT (hE.row (by simp)) cL;refine gS1 (aI g4 (aI g1 (aI w1 s7))) ?_;exact⟨_,_,rfl,fR1 g1,⟨s,fR1 g3,(by rw[hsp,Bl]),om⟩,hE⟩
    rintro r ⟨fr,Z',rfl,g1,⟨s,g3,hsp,hs⟩,hE⟩;refine gS1 g3 ?_;exact⟨_,_,rfl,fR1 g1,⟨_,fR,(by rw[hsp];unfold B5;rw[z0z (by intro h0;rw[h0]at ht;simp at ht),show BU (.tie T.F5)=xU++blk T.F5 from Yj _ _];simp[nl]),by simp;omega⟩,hE⟩
 clear g1 g3 hsp hs hE s fr Z';rintro fr Z' ⟨g1,⟨s,g3,hsp,hs⟩,hE⟩;refine cG (fun fr Z'=>fr.get 1=some (.pointer (some ⟨Z.n,0,none⟩))/\(∃ s,fr.get 3=some (str s)/\s=B6 T/\s.length<=62100)/\Ext (Z.new ca) Z') ?_ ?_
 ·
  have w1:Z'.row Z.n=some ca:=eT (hE.row (by simp)) cL;have hEn:=hE.n;simp only[N8]at hEn;have hE0:Ext Z Z':=E0.trans hE;refine gS1 (aI g1 (aI w1 s8)) ?_;cases hm:decide (T.P8=0)with
  | true=>
    refine gS ?_;exact⟨_,_,rfl,fR1 g1,⟨_,fR1 g3,(by rw[hsp];unfold B6;rw[z1z (z6z hm),IV]),om⟩,hE⟩
  | false=>
    refine gS1 (aI g1 (aI g3 (aI w1 s8))) ?_;have hu1:=Cy hS.P8;refine(Bu hS.P8).mono ?_;rintro r ⟨Z2,rfl,hE2⟩;refine gS ?_;exact⟨_,_,rfl,fR1 g1,⟨_,fR,(by rw[hsp];unfold B6;rw[z0z (z9z hm)];simp[nl,BU,spJ,LM.word,LM.txt]),by simp;omega⟩,hE.trans hE2⟩
 clear g1 g3 hsp hs hE s fr Z';rintro fr Z' ⟨g1,⟨s,g3,hsp,hs⟩,hE⟩;refine gS ?_
 refine F4 vs.length (fun k fr Z'=>fr.get 10=some (.int .i64 k)/\fr.get 1=some (.pointer (some ⟨Z.n,0,none⟩))/\(∃ s,fr.get 3=some (str s)/\s=B6 T++under ((T.D6.take k).map gk)/\s.length<=62100+400*k)/\Ext (Z.new ca) Z')
  (fun r=>∃ fr Z',r=⟨.exit 8,fr,Z'⟩/\fr.get 1=some (.pointer (some ⟨Z.n,0,none⟩))/\(∃ s,fr.get 3=some (str s)/\s=B7 T/\s.length<=70000)/\Ext (Z.new ca) Z') ?_ ?_ ?_ ?_
 ·exact⟨fR,fR1 g1,⟨_,fR1 g3,(by rw[Ix,IV];exact hsp),by(try simp)<;>omega⟩,hE⟩
 ·clear g1 g3 hsp hs hE s fr;rintro k fr Z' hk ⟨g4,g1,⟨s,g3,hsp,hs⟩,hE⟩;have hc:=J2 hk;have w1:Z'.row Z.n=some ca:=eT (hE.row (by simp)) cL;have hEn:=hE.n;simp only[N8]at hEn;have hE0:Ext Z Z':=E0.trans hE;obtain⟨x,hx⟩:=E8 hk;obtain⟨C,hC⟩:=E8 (show k<T.D6.length by omega);obtain⟨ia,ic,ib,io,ics,rfl,i1,i2⟩:=(h8.get hx hC).use;have LC:=(hr.combo C (W8 hC)).2.1;obtain⟨sp,rfl,l3,l4⟩:=k1 om;have w2:=eT (hE0.row l3) l4;have m1:=k2 k _ hx;rw[Df]at m1;refine gS1 (aI g4 (aI g1 (aI g3 (aI hc (aI w1 s9))))) ?_
  refine F4 C.length (fun i fr τ=>fr.get 11=some (.int .i64 i)/\fr.get 10=some (.int .i64 k)/\fr.get 1=some (.pointer (some ⟨Z.n,0,none⟩))/\(∃ s,fr.get 3=some (str s)/\s=B6 T++(under ((T.D6.take k).map gk)++(VS++blk ((C.take i).map fun n=>dcN n.toNat)))/\s.length<=62110+400*k+20*i)/\Ext (Z.new ca) τ)
   (fun r=>∃ fr τ,r=⟨.exit 10,fr,τ⟩/\fr.get 10=some (.int .i64 k)/\fr.get 1=some (.pointer (some ⟨Z.n,0,none⟩))/\(∃ s,fr.get 3=some (str s)/\s=B6 T++(under ((T.D6.take k).map gk)++(VS++blk (C.map fun n=>dcN n.toNat)))/\s.length<=62450+400*k)/\Ext (Z.new ca) τ) ?_ ?_ ?_ ?_
  ·exact⟨fR,fR1 g4,fR1 g1,⟨_,fR,(by rw[hsp];simp[VS,blk]),by simp;omega⟩,hE⟩
  ·clear g4 g1 g3 hsp hs s fr;rintro i fr τ hi ⟨g11,g10,g1,⟨s,g3,hsp,hs⟩,hF⟩;have hc:=J2 hi;obtain⟨y,hy⟩:=E8 hi;obtain⟨sp',rfl,l5,l6⟩:=i1 om;have zy:=hS.combo C (W8 hC) y (W8 hy);have hF0:Ext Z τ:=E0.trans hF;have v1:τ.row Z.n=some ca:=eT (hF.row (by simp)) cL;have v2:=eT (hF0.row l3) l4;have v3:=eT (hF0.row l5) l6;have n1:=i2 i y hy;refine gS1 (aI g11 (aI g10 (aI g1 (aI g3 (aI hc (aI v1 (aI s9 (aI v2 (aI m1 (aI v3 n1)))))))))) ?_;have hu1:=Cy zy;refine(Bu zy).mono ?_;rintro r ⟨Z2,rfl,hE2⟩;refine gS1 g11 ?_;exact⟨fR,fR1 g10,fR1 g1,⟨_,fR,(by rw[hsp,VR hy];simp),by simp;omega⟩,hF.trans hE2⟩
  ·clear g4 g1 g3 hsp hs s fr;rintro fr τ ⟨g11,g10,g1,⟨s,g3,hsp,hs⟩,hF⟩;have hF0:Ext Z τ:=E0.trans hF;have v1:τ.row Z.n=some ca:=eT (hF.row (by simp)) cL;have v2:=eT (hF0.row l3) l4;refine gS1 (aI g11 (aI g10 (aI g1 (aI v1 (aI s9 (aI v2 m1)))))) ?_;exact⟨_,_,rfl,fR1 g10,fR1 g1,⟨s,fR1 g3,(by rw[hsp,Bl]),om⟩,hF⟩
  clear g4 g1 g3 hsp hs s fr;rintro r ⟨fr,τ,rfl,g4,g1,⟨s,g3,hsp,hs⟩,hF⟩;refine gS1 (aI g4 g3) ?_;exact⟨fR,fR1 g1,⟨_,fR,(by rw[hsp,Iw hC,show gk C=VS++blk ((C.map Int.toNat).map dcN)from Yj _ _,og];simp;rfl),by simp;omega⟩,hF⟩
 ·rintro fr Z' ⟨g4,g1,⟨s,g3,hsp,hs⟩,hE⟩;have w1:Z'.row Z.n=some ca:=eT (hE.row (by simp)) cL;refine gS1 (aI g4 (aI g1 (aI w1 s9))) ?_;exact⟨_,_,rfl,fR1 g1,⟨s,fR1 g3,(by rw[hsp,L6,Iy];rfl),om⟩,hE⟩
 rintro r ⟨fr,Z',rfl,g1,⟨s,g3,hsp,hs⟩,hE⟩;have w1:Z'.row Z.n=some ca:=eT (hE.row (by simp)) cL;have hEn:=hE.n;simp only[N8]at hEn;have hE0:Ext Z Z':=E0.trans hE;refine gS1 (aI g1 (aI w1 s15)) ?_;obtain⟨S,hS'⟩:=nm (((Z'.new [.int .i64 0,.int .i64 0,.int .i64 0,.int .i64 0,.int .i64 0] (some 39)).upd Z'.n [.int .i64 T.t.q,.int .i64 T.t.b,.int .i64 T.t.g,.int .i64 T.t.p,.int .i64 T.t.s]));rw[hS'];have E1:Ext Z' S:=by rw[<- hS'];exact eX
 have nS:S.n=Z'.n+1:=by rw[<- hS'];rfl
 have wS:S.row Z'.n=some [.int .i64 T.t.q,.int .i64 T.t.b,.int .i64 T.t.g,.int .i64 T.t.p,.int .i64 T.t.s]:=by rw[<- hS'];exact cL
 have w1:=eT (E1.row om) w1;have EF:=hE0.trans E1;refine gS1 (aI g1 (aI g3 (aI w1 s10))) ?_;have hu1:=Cy hS.J8;have hv0:=Cy hS.tim.1;have hv1:=Cy hS.tim.2.1;have hv2:=Cy hS.tim.2.2.1;have hv3:=Cy hS.tim.2.2.2.1;have hv4:=Cy hS.tim.2.2.2.2;refine(Bu hS.J8).mono ?_;rintro r ⟨Z2,rfl,hE2⟩;have n2:=hE2.n;have wS:=eT (hE2.row om) wS;have EF:=EF.trans hE2;refine gS1 wS ?_;refine(Bu hS.tim.1).mono ?_;rintro r ⟨Z3,rfl,hF0⟩;have m0:=hF0.n;have wS:=eT (hF0.row om) wS;have EF:=EF.trans hF0;refine gS1 wS ?_;refine(Bu hS.tim.2.1).mono ?_;rintro r ⟨Z4,rfl,hF1⟩;have m1:=hF1.n;have wS:=eT (hF1.row om) wS;have EF:=EF.trans hF1;refine gS1 wS ?_;refine(Bu hS.tim.2.2.1).mono ?_;rintro r ⟨Z5,rfl,hF2⟩;have m2:=hF2.n;have wS:=eT (hF2.row om) wS;have EF:=EF.trans hF2;refine gS1 wS ?_;refine(Bu hS.tim.2.2.2.1).mono ?_;rintro r ⟨Z6,rfl,hF3⟩;have m3:=hF3.n;have wS:=eT (hF3.row om) wS;have EF:=EF.trans hF3;refine gS1 wS ?_;refine(Bu hS.tim.2.2.2.2).mono ?_;rintro r ⟨Z7,rfl,hF4⟩;have m4:=hF4.n;have wS:=eT (hF4.row om) wS;have EF:=EF.trans hF4;refine gS1 (aI (asx hF0) (aI (asx hF1) (aI (asx hF2) (aI (asx hF3) (aI (asx hF4) @Tryz.results36))))) ?_
 try refine dW1 (aI (asx hF0) (aI (asx hF1) (aI (asx hF2) (aI (asx hF3) (asx hF4))))) ?_
 try(refine gS1 @Tryz.results36 ?_;try exact⟨⟩)
 refine⟨_,?_,EF⟩;rw[eG,<- hsp];simp[nl,BU,spJ,LM.word,LM.txt]
end
end Go.Proofs.T
namespace Go.Proofs.T
open Go Go.Ab
section
variable {Z:St}{ca:List Value}{T:Tn}
def lE (hT:Dm Z ca T) (hr:PQ T) (hS:T.Sm):Ev (gO 15 [.agg ⟨ca⟩] Z) (fun r=>∃ Z',r=⟨false,.tuple ⟨[str (DQ T),.bool (!decide (4000<(DQ T).length))]⟩,Z'⟩/\Ext Z Z') ⟨⟩:=by
 obtain⟨vl,vc,vr,ex,vt,vk,hp,-,-,-,h5,-⟩:=hT.parts;obtain⟨kf,jf,hf,kY,Ag8⟩:=hr.f;obtain⟨y0,y1,y2,y3,y4⟩:=hr.t;have hfa:=hp.all;have s0:=hp.p0;have s4:=hp.p4;have s5:=hp.p5;have s6:=hp.p6;have s8:=hp.p12;have s10:=hp.p14;have s15:=hp.p15;refine D0 Tryz.func15 rfl rfl ?_;refine gS1 (aI hfa s0) ?_;have E0:Ext Z (Z.new ca):=eX;refine Gn.mono ?_;rintro r rfl;have q1:CD T.name=true:=by rw[IB];exact hr.name
 refine gS1 (aI s6 q1) ?_;refine(bP kY Ag8 hf (h5.mono E0)).mono ?_;rintro r ⟨Z2,rfl,hE2⟩;have n2:=hE2.n;simp only[N8]at n2;have w2:Z2.row Z.n=some ca:=eT (hE2.row (cL)) cL;have E2:=E0.trans hE2;refine gS1 (aI w2 hfa) ?_;refine(cP (hT.mono E2) hr).mono ?_;rintro r ⟨Z3,rfl,hE3⟩;have n3:=hE3.n;have w3:=eT (hE3.row om) w2;have E3:=E2.trans hE3;refine gS1 (aI w3 (aI s15 s4)) ?_;obtain⟨S,hS'⟩:=nm (((Z3.new [.int .i64 0,.int .i64 0,.int .i64 0,.int .i64 0,.int .i64 0] (some 39)).upd Z3.n [.int .i64 T.t.q,.int .i64 T.t.b,.int .i64 T.t.g,.int .i64 T.t.p,.int .i64 T.t.s]));rw[hS'];have E1:Ext Z3 S:=by rw[<- hS'];exact eX
 have nS:S.n=Z3.n+1:=by rw[<- hS'];rfl
 have wS:S.row Z3.n=some [.int .i64 T.t.q,.int .i64 T.t.b,.int .i64 T.t.g,.int .i64 T.t.p,.int .i64 T.t.s]:=by rw[<- hS'];exact cL
 have w1:=eT (E1.row om) w3;have EF:=E3.trans E1;refine(o7 hr.low.1 hr.low.2).mono ?_;rintro r rfl;refine gS1 (aI w1 s5) ?_;refine(o7 hr.high.1 hr.high.2).mono ?_;rintro r rfl;refine gS1 (aI w1 s8) ?_;refine(o7 hr.P8.1 hr.P8.2).mono ?_;rintro r rfl;refine gS1 (aI w1 s10) ?_;refine(o7 hr.J8.1 hr.J8.2).mono ?_;rintro r rfl;refine gS1 wS ?_;refine(o7 y0.1 y0.2).mono ?_;rintro r rfl;refine gS1 wS ?_;refine(o7 y1.1 y1.2).mono ?_;rintro r rfl;refine gS1 wS ?_;refine(o7 y2.1 y2.2).mono ?_;rintro r rfl;refine gS1 wS ?_;refine(o7 y3.1 y3.2).mono ?_;rintro r rfl;refine gS1 wS ?_;refine(o7 y4.1 y4.2).mono ?_;rintro r rfl;refine gS1 (aI w1 (aI hfa q1)) ?_;refine(Yk (hT.mono EF) hr hS).mono ?_;rintro r ⟨Z4,rfl,hE4⟩;have e:decide ((4000:Int)<(((DQ T).length:Nat):Int))=decide (4000<(DQ T).length):=by rw[z7z,z3z,z3z];omega
 refine gS1 (aI e @Tryz.results15) ?_;exact⟨_,rfl,EF.trans hE4⟩
def iw (hT:Dm Z ca T) (hr:PQ T) (hS:T.Sm) (hl:(DQ T).length<=4000):Ev (gO 5 [.agg ⟨ca⟩] Z) (fun r=>∃ Z',r=⟨false,str (DQ T),Z'⟩/\Ext Z Z') ⟨⟩:=by
 have hfa:sub ca 0 20=some ca:=D8 (by rw[hT.len];omega) (by rw[hT.len];omega);refine D0 Tryz.func5 rfl rfl ?_;refine gS1 hfa ?_;have E0:Ext Z (Z.new ca):=eX;refine(lE (hT.mono E0) hr hS).mono ?_;rintro r ⟨Z2,rfl,hE⟩;have e:decide (4000<(DQ T).length)=false:=dF;refine gS1 (aI e (a4N @El @G9 @H2 @Tryz.results5)) ?_;exact⟨_,rfl,E0.trans hE⟩
end
section
variable {fr:Fr}{Z:St}{x ix a v:Operand}{ve:Value}
def uM:LDn 58 2:=by unfold LDn;intros;kernel_rfl
def uN:STn 58 2:=by unfold STn;intros;kernel_rfl
def Au0:u7 Tryz.prog 58=some (.agg ⟨[.slice none 0 0,.int .i64 0]⟩):=kR
def Au1 {z:List Value}{ps:List (Nat×Value)}:AU Tryz.prog 58 z ps=ob (Ai (fun i=>[(0,1),(1,1)][i]?) ps z) fun l=>some (.agg ⟨l⟩):=kR
def Ui:FAo 58 0:=by unfold FAo;intros;kernel_rfl
def Uj:FIo 58 0 0:=by unfold FIo;intros;kernel_rfl
def Uk:FAn 58 1 1:=by unfold FAn;intros;kernel_rfl
def Ul:FIo 58 1 1:=by unfold FIo;intros;kernel_rfl
end
end Go.Proofs.T
namespace Go.Proofs.T
open Go Go.Ab
open Nat (reduceMul reduceEqDiff reduceAdd)
def Y9 (Z:St) (v:Value) (l:List Int):Prop:=Fk Z v l/\∀ n∈l,EU n
theorem UY {Z:St}{n m:Int}(h1:EU n) (h3:0<m) (h4:m<=4294967296) :
  Ev (go Tryz.prog HS (.fn 19) [.int .i64 n,.int .i64 m] Z) (fun r=>r=⟨false,.int .i64 (n % m),Z⟩) ⟨⟩:=by
 obtain⟨h1,h2⟩:=h1;have hm0:m≠0:=om;have a1:=Int.tmod_lt_of_pos n h3;have a2: -m<n.tmod m:=by
  have:=Int.lt_tmod_of_pos n h3;omega
 have e:(n.tmod m+m).tmod m=n % m:=by
  rw[Int.tmod_eq_emod_of_nonneg om,Int.add_emod_right];rw[Int.tmod_def];exact Int.sub_mul_emod_self_left _ _ _
 refine D0 Tryz.func19 rfl rfl ?_;refine gS1 (aI @Tryz.results19 @e) ?_;try exact⟨⟩
structure AQ3 (Z:St) (q:Nat) (v:Value) (l:List Int) (k:Nat):Prop where
 row:Z.A7 q=some [v,.int .i64 (k:Nat)]
 lt:q<Z.n
 le:k<=l.length
theorem xj {Z:St}{q k:Nat}{v:Value}{l:List Int}{n:Int}(H:List Nat) (hH:q∈H) (hm:AQ3 Z q v l k) (hl:Y9 (J5 Z H) v l) (hll:l.length<=9223372036854775807) (h1:0<n) (h2:n<=100000) :
  Ev (go Tryz.prog HS (.fn 16) [.pointer (some ⟨q,0,none⟩),.int .i64 n] Z) (fun r=>∃ x k' Z',r=⟨false,.int .i64 x,Z'⟩/\0<=x/\x<n/\AQ3 Z' q v l k'/\B9 q Z Z') ⟨⟩:=by
 obtain⟨a,c,b,off,cells,rfl,l1,l2⟩:=hl.1.use;have ro:=hm.row;have rr:=A6 ro;have hk:=hm.le;refine D0 Tryz.func16 rfl rfl ?_;by_cases hlt:k<l.length
 ·have c1:decide (k<l.length)=true:=decide_eq_true hlt;obtain⟨y,hy⟩:=E8 hlt;obtain⟨sp,rfl,l3,l4⟩:=l1 om;have hbq:b∉H:=fun hb=>by rw[Pc hb]at l4;cases l4
  have hne:b≠q:=fun h=>hbq (h ▸ hH);rw[FZ hbq]at l4;rw[Ik]at l3;have s1:=l2 k y hy;have e1:(((k+1:Nat):Int)-1)=(k:Int):=om;simp(maxSteps:=8000000) (disch:=first|exact dS|fail) only[↓bD,bW,reduceMul,reduceEqDiff,reduceAdd,Nat.reduceBEq,reduceIte,Option.isNone_none,↓uM,↓uN,↓Ui,↓Uj,↓Uk,↓Ul,rr,ro,c1,l4,s1,e1,V1];have AH6:=hl.2 y (List.mem_of_getElem? hy);refine(UY AH6 h1 om).mono ?_;rintro r rfl;simp(maxSteps:=8000000) (disch:=first|exact dS|fail) only[↓bD,bW,reduceMul,reduceEqDiff,reduceAdd,Nat.reduceBEq,reduceIte,Option.isNone_none,↓uM,↓uN,↓Ui,↓Uj,↓Uk,↓Ul,asx (Ext.refl _),Tryz.results16]
  try refine Ar.intro (by(repeat first|simp(disch:=omega) only[DH,Gc,Bq,asx (Ext.refl _)]|rw[IT (by kernel_rfl)]);first|done|rfl) ?_
  try simp(maxSteps:=8000000) (disch:=first|exact dS|fail) only[↓bD,bW,reduceMul,reduceEqDiff,reduceAdd,Nat.reduceBEq,reduceIte,Option.isNone_none,↓uM,↓uN,↓Ui,↓Uj,↓Uk,↓Ul,Tryz.results16]
  exact⟨_,k+1,_,rfl,Int.emod_nonneg _ om,Int.emod_lt_of_pos _ h1,⟨cL,hm.lt,om⟩,B9.refl.upd _⟩
 ·have c1:decide (k<l.length)=false:=decide_eq_false hlt;simp(maxSteps:=8000000) (disch:=first|exact dS|fail) only[↓bD,bW,reduceMul,reduceEqDiff,reduceAdd,Nat.reduceBEq,reduceIte,Option.isNone_none,↓uM,↓uN,↓Ui,↓Uj,↓Uk,↓Ul,rr,c1,V1,Tryz.results16];exact⟨0,k,_,rfl,om,h1,hm,.refl⟩
theorem B9.Pg {q:Nat}{Z Z':St}{H:List Nat}(h:B9 q Z Z') (hq:q∈H):ET (J5 Z H) (J5 Z' H):=K0 h.n fun c hc hm=>⟨hm,h.row hc fun e=>hm (e ▸ hq)⟩
theorem Y9.J3 {Z Z':St}{v:Value}{l:List Int}(h:Y9 Z v l) (hE:ET Z Z'):Y9 Z' v l:=⟨SL.J3 h.1 hE,h.2⟩
structure MS (H:List Nat) (q:Nat) (v:Value) (l:List Int) (Z:St):Prop where
 mem:q∈H
 mf:∃ k,AQ3 Z q v l k
 arg:Y9 (J5 Z H) v l
 len:l.length<=9223372036854775807
theorem MS.ext {H:List Nat}{q:Nat}{v:Value}{l:List Int}{Z Z':St}(h:MS H q v l Z) (hE:Ext Z Z'):MS H q v l Z':=by
 obtain⟨m,⟨k,h1,h2,h3⟩,h4,h5⟩:=h;exact⟨m,⟨k,by rw[hE.A7 h2];exact h1,Nat.lt_of_lt_of_le h2 hE.n,h3⟩,h4.J3 (GW hE),h5⟩
theorem MS.lt {H:List Nat}{q:Nat}{v:Value}{l:List Int}{Z:St}(h:MS H q v l Z):q<Z.n:=by
 obtain⟨k,hk⟩:=h.mf;exact hk.lt
theorem Ph {H:List Nat}{q:Nat}{v:Value}{l:List Int}{Z:St}{n:Int}(h:MS H q v l Z) (h1:0<n) (h2:n<=100000) :
  Ev (go Tryz.prog HS (.fn 16) [.pointer (some ⟨q,0,none⟩),.int .i64 n] Z) (fun r=>∃ (x:Nat) (Z':St),r=⟨false,.int .i64 (x:Nat),Z'⟩/\(x:Int)<n/\MS H q v l Z'/\B9 q Z Z') ⟨⟩:=by
 obtain⟨k,hk⟩:=h.mf;refine(xj H h.mem hk h.arg h.len h1 h2).mono ?_;rintro r ⟨x,k',Z',rfl,x0,x1,hm,hE⟩;obtain⟨X,rfl⟩:=Int.eq_ofNat_of_zero_le x0;exact⟨X,Z',rfl,x1,⟨h.mem,⟨k',hm⟩,h.arg.J3 (hE.Pg h.mem),h.len⟩,hE⟩
end Go.Proofs.T
