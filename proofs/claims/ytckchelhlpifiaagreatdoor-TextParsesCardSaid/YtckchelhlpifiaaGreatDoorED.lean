/- The reference lQ Bn. -/
import Derived.Test.YtckchelhlpifiaaGreatDoorEA
set_option linter.unusedSimpArgs false
set_option linter.unusedVariables false
set_option linter.defProp false
set_option maxHeartbeats 32000000
set_option maxRecDepth 100000
namespace Go.Proofs.T
open Go Go.Ab
def AD6:eqC []= .seq (eqC [0]) (eqC [1]):=kR
def AD7:eqC [1]= .seq (eqC [1,0]) (eqC [1,1]):=kR
def AD8:eqC [1,1]= .seq (eqC [1,1,0]) (eqC [1,1,1]):=kR
def AD9:eqC [1,1,1]= .seq (eqC [1,1,1,0]) (eqC [1,1,1,1]):=kR
def AE0:eqC [1,1,1,1]= .seq (eqC [1,1,1,1,0]) (eqC [1,1,1,1,1]):=kR
def AE1:eqC [1,1,1,1,1]= .seq (eqC [1,1,1,1,1,0]) (eqC [1,1,1,1,1,1]):=kR
def AE2:eqC [1,1,1,1,1,1]= .seq (eqC [1,1,1,1,1,1,0]) (eqC [1,1,1,1,1,1,1]):=kR
def AE3:eqC [1,1,1,1,1,1,1]= .seq (eqC [1,1,1,1,1,1,1,0]) (eqC [1,1,1,1,1,1,1,1]):=kR
def Sb {Z:St}{ca cb:List Value}{T U:Tn}(hT:Dm Z ca T) (hU:Dm Z cb U) (cT:Cap T) (cU:Cap U):Ev (gO 21 [.agg ⟨ca⟩,.agg ⟨cb⟩] Z) (fun r=>∃ Z',r=⟨false,.bool (Y1 T U),Z'⟩/\Ext Z Z') ⟨⟩:=by
 obtain⟨vl,vc,vr,ex,vt,vk,hp,h2,h3,h4,h5,h6,vs,h7,h8⟩:=hT.parts;obtain⟨ul,uc,ur,ey,ut,uk,hq,k2,k3,k4,k5,k6,us,k7,k8⟩:=hU.parts;obtain⟨la,lc,lb,lo,lcs,rfl,-⟩:=h2.use;obtain⟨ca',cc,cb',co,ccs,rfl,-⟩:=h3.use;obtain⟨ra,rc,rb,ro,rcs,rfl,-⟩:=h4.use;obtain⟨ta,tc,tb,to',tcs,rfl,-⟩:=h6.use;obtain⟨ka,kc,kb,ko,kcs,rfl,-⟩:=SL.Pe h7;obtain⟨la2,lc2,lb2,lo2,BM8,rfl,-⟩:=k2.use;obtain⟨ca2,cc2,cb2,co2,BM9,rfl,-⟩:=k3.use;obtain⟨ra2,rc2,rb2,ro2,BN0,rfl,-⟩:=k4.use;obtain⟨ta2,tc2,tb2,to2,BN1,rfl,-⟩:=k6.use;obtain⟨ka2,kc2,kb2,ko2,BN2,rfl,-⟩:=SL.Pe k7;have tq:∀ (t:Tim),[Value.int .i64 t.q,.int .i64 t.b,.int .i64 t.g,.int .i64 t.p,.int .i64 t.s]=t.row:=fun _=>rfl;have p15:=hp.p15;have q15:=hq.p15;rw[tq]at p15 q15;have hz0:=And.intro hp.all (And.intro hq.all (And.intro hp.p6 hq.p6));have hz:=And.intro hp.p0 (And.intro hq.p0 (And.intro hp.p4 (And.intro hq.p4 (And.intro hp.p5 (And.intro hq.p5 (And.intro hp.p12 (And.intro hq.p12 (And.intro hp.p14 (And.intro hq.p14 (And.intro p15 (And.intro q15 (And.intro hp.p1 (And.intro hq.p1 (And.intro hp.p2 (And.intro hq.p2 (And.intro hp.p3 (And.intro hq.p3 (And.intro hp.p11 (And.intro hq.p11 (And.intro hp.p13 hq.p13))))))))))))))))))));refine D0 (body:=eqC []) Tryz.func21 kR rfl ?_;obtain⟨X,hX⟩:=nm (eqC [1,1,1]);rw[AD6,AD7,AD8,hX];simp only[eqC,Tryz.f21,J4,M0,BP,BQ,BR,BS,List.append_eq,OO,Mz];refine gU1 (aI @A4 (aI @D3 hz0)) ?_;have E0:Ext Z ((Z.new ca).new cb):=eX;refine(sk _ (MF _) (h5.mono E0) (k5.mono E0)).mono ?_;rintro r ⟨Z2,rfl,E2⟩;have n2:=E2.n;simp only[N8]at n2;have w1:Z2.row Z.n=some ca:=eT (E2.row (by simp;omega)) cL;have w2:Z2.row (Z.n+1)=some cb:=eT (E2.row (by simp)) cL;have EF:Ext Z Z2:=E0.trans E2;have hz:=And.intro w1 (And.intro w2 hz);cases d1:decide (T.name=U.name)with
 | false=>
   have hq:Y1 T U=false:=by unfold Y1;simp only[d1,CC,DL,Ge]
   refine gP1 (aI hz (aI @w8 (aI @w8 (aI d1 (a5N @G9 @H2 @Gi @El @Tryz.results21))))) ?_;rw[hq];exact⟨_,rfl,EF⟩
 |true=>
 cases d2:decide (T.low=U.low)with
 | false=>
   have hq:Y1 T U=false:=by unfold Y1;simp only[d1,d2,CC,DL,Ge]
   refine gP1 (aI hz (aI @w8 (aI @w8 (aI d1 (aI d2 (a5N @G9 @H2 @Gi @El @Tryz.results21)))))) ?_;rw[hq];exact⟨_,rfl,EF⟩
 |true=>
 cases d3:decide (T.high=U.high)with
 | false=>
   have hq:Y1 T U=false:=by unfold Y1;simp only[d1,d2,d3,CC,DL,Ge]
   refine gP1 (aI hz (aI @w8 (aI @w8 (aI d1 (aI d2 (aI d3 (a5N @G9 @H2 @Gi @El @Tryz.results21))))))) ?_;rw[hq];exact⟨_,rfl,EF⟩
 |true=>
 cases d4:decide (T.P8=U.P8)with
 | false=>
   have hq:Y1 T U=false:=by unfold Y1;simp only[d1,d2,d3,d4,CC,DL,Ge]
   refine gP1 (aI hz (aI @w8 (aI @w8 (aI d1 (aI d2 (aI d3 (aI d4 (a5N @G9 @H2 @Gi @El @Tryz.results21)))))))) ?_;rw[hq];exact⟨_,rfl,EF⟩
 |true=>
 cases d5:decide (T.J8=U.J8)with
 | false=>
   have hq:Y1 T U=false:=by unfold Y1;simp only[d1,d2,d3,d4,d5,CC,DL,Ge]
   refine gP1 (aI hz (aI @w8 (aI @w8 (aI d1 (aI d2 (aI d3 (aI d4 (aI d5 (a5N @G9 @H2 @Gi @El @Tryz.results21))))))))) ?_;rw[hq];exact⟨_,rfl,EF⟩
 |true=>
 cases d6:decide (T.t=U.t)with
 | false=>
   have hq:Y1 T U=false:=by unfold Y1;simp only[d1,d2,d3,d4,d5,d6,CC,DL,Ge]
   refine gP1 (aI hz (aI @w8 (aI @w8 (aI d1 (aI d2 (aI d3 (aI d4 (aI d5 (aI d6 (a5N @G9 @H2 @Gi @El @Tryz.results21)))))))))) ?_;rw[hq];exact⟨_,rfl,EF⟩
 |true=>
 cases d7:HI T.f U.f with
 | false=>
   have hq:Y1 T U=false:=by unfold Y1;simp only[d1,d2,d3,d4,d5,d6,d7,CC,DL,Ge]
   refine gP1 (aI hz (aI @w8 (aI @w8 (aI d1 (aI d2 (aI d3 (aI d4 (aI d5 (aI d6 (a5N @G9 @H2 @Gi @El @Tryz.results21)))))))))) ?_;rw[hq];exact⟨_,rfl,EF⟩
 |true=>
 cases e1:decide ((T.G8.length:Int)=(U.G8.length:Int))with
 | false=>
   have hne:decide (T.G8=U.G8)=false:=z4z fun h=>by rw[h]at e1;simp at e1
   have hq:Y1 T U=false:=by unfold Y1;simp only[hne,CC,Ge]
   refine gP1 (aI hz (aI @w8 (aI @w8 (aI d1 (aI d2 (aI d3 (aI d4 (aI d5 (aI d6 (aI e1 (a5N @G9 @H2 @Gi @El @Tryz.results21))))))))))) ?_;rw[hq];exact⟨_,rfl,EF⟩
 |true=>
 cases e2:decide ((T.D2.length:Int)=(U.D2.length:Int))with
 | false=>
   have hne:decide (T.D2=U.D2)=false:=z4z fun h=>by rw[h]at e2;simp at e2
   have hq:Y1 T U=false:=by unfold Y1;simp only[hne,CC,Ge]
   refine gP1 (aI hz (aI @w8 (aI @w8 (aI d1 (aI d2 (aI d3 (aI d4 (aI d5 (aI d6 (aI e1 (aI e2 (a5N @G9 @H2 @Gi @El @Tryz.results21)))))))))))) ?_;rw[hq];exact⟨_,rfl,EF⟩
 |true=>
 cases e3:decide ((T.reqs.length:Int)=(U.reqs.length:Int))with
 | false=>
   have hne:decide (T.reqs=U.reqs)=false:=z4z fun h=>by rw[h]at e3;simp at e3
   have hq:Y1 T U=false:=by unfold Y1;simp only[hne,CC,Ge]
   refine gP1 (aI hz (aI @w8 (aI @w8 (aI d1 (aI d2 (aI d3 (aI d4 (aI d5 (aI d6 (aI e1 (aI e2 (aI e3 (a5N @G9 @H2 @Gi @El @Tryz.results21))))))))))))) ?_;rw[hq];exact⟨_,rfl,EF⟩
 |true=>
 cases e4:decide ((T.F5.length:Int)=(U.F5.length:Int))with
 | false=>
   have hne:decide (T.F5=U.F5)=false:=z4z fun h=>by rw[h]at e4;simp at e4
   have hq:Y1 T U=false:=by unfold Y1;simp only[hne,CC,Ge]
   refine gP1 (aI hz (aI @w8 (aI @w8 (aI d1 (aI d2 (aI d3 (aI d4 (aI d5 (aI d6 (aI e1 (aI e2 (aI e3 (aI e4 (a5N @G9 @H2 @Gi @El @Tryz.results21)))))))))))))) ?_;rw[hq];exact⟨_,rfl,EF⟩
 |true=>
 cases e5:decide ((vs.length:Int)=(us.length:Int))with
 | false=>
   have hne:decide (T.D6=U.D6)=false:=z4z fun h=>by have h9:=h8.len;have h10:=k8.len;rw[h]at h9;rw[h9,h10]at e5;simp at e5
   have hq:Y1 T U=false:=by unfold Y1;simp only[hne,CC,Ge]
   refine gP1 (aI hz (aI @w8 (aI @w8 (aI d1 (aI d2 (aI d3 (aI d4 (aI d5 (aI d6 (aI e1 (aI e2 (aI e3 (aI e4 (aI e5 (a5N @G9 @H2 @Gi @El @Tryz.results21))))))))))))))) ?_;rw[hq];exact⟨_,rfl,EF⟩
 |true=>
 refine gP1 (aI hz (aI @w8 (aI @w8 (aI d1 (aI d2 (aI d3 (aI d4 (aI d5 (aI d6 (aI e1 (aI e2 (aI e3 (aI e4 (aI e5 (a4N @G9 @H2 @Gi @El))))))))))))))) ?_;have mZ:∀ {α:Type}{a b:List α},decide ((a.length:Int)=(b.length:Int))=true->a.length=b.length:=fun h=>by have:=z6z h;omega
 rw[<- hX];clear hX;rw[AD9,LR];refine(tT (fR) (fR) w1 w2 hp.p1 hq.p1 (h2.mono EF) (k2.mono EF) (mZ e1) cT.G8).mono ?_;rintro r (⟨fr0,rfl,⟨g2,g3⟩,z0⟩|⟨fr0,rfl,g4,z0⟩)
 rotate_left
 ·have hq:Y1 T U=false:=by unfold Y1;simp only[z4z z0,CC,Ge]
  refine gU1 (aI @A4 (aI @D3 (aI g4 @Tryz.results21))) ?_;rw[hq];exact⟨_,rfl,EF⟩
 simp only[Ck];rw[AE0,LR];refine(mc g2 g3 w1 w2 hp.p2 hq.p2 (h3.mono EF) (k3.mono EF) (mZ e2) cT.D2).mono ?_;rintro r (⟨fr1,rfl,⟨g2,g3⟩,z1⟩|⟨fr1,rfl,g4,z1⟩)
 rotate_left
 ·have hq:Y1 T U=false:=by unfold Y1;simp only[z4z z1,CC,Ge]
  refine gU1 (aI @A4 (aI @D3 (aI g4 @Tryz.results21))) ?_;rw[hq];exact⟨_,rfl,EF⟩
 simp only[Ck];rw[AE1,LR];refine(tU g2 g3 w1 w2 hp.p3 hq.p3 (h4.mono EF) (k4.mono EF) (mZ e3) cT.reqs).mono ?_;rintro r (⟨fr2,rfl,⟨g2,g3⟩,z2⟩|⟨fr2,rfl,g4,z2⟩)
 rotate_left
 ·have hq:Y1 T U=false:=by unfold Y1;simp only[z4z z2,CC,Ge]
  refine gU1 (aI @A4 (aI @D3 (aI g4 @Tryz.results21))) ?_;rw[hq];exact⟨_,rfl,EF⟩
 simp only[Ck];rw[AE2,LR];refine(tV g2 g3 w1 w2 hp.p11 hq.p11 (h6.mono EF) (k6.mono EF) (mZ e4) cT.F5).mono ?_;rintro r (⟨fr3,rfl,⟨g2,g3⟩,z3⟩|⟨fr3,rfl,g4,z3⟩)
 rotate_left
 ·have hq:Y1 T U=false:=by unfold Y1;simp only[z4z z3,CC,Ge]
  refine gU1 (aI @A4 (aI @D3 (aI g4 @Tryz.results21))) ?_;rw[hq];exact⟨_,rfl,EF⟩
 simp only[Ck];rw[AE3,LR];refine(iJ g2 g3 w1 w2 hp.p13 hq.p13 (h7.mono EF) (FP.mono (fun _ _ h=>Fk.mono h EF) h8) (k7.mono EF) (FP.mono (fun _ _ h=>Fk.mono h EF) k8) (by have h9:=h8.len;have h10:=k8.len;have:=mZ e5;omega) cT.D6 cT.combo cU.combo).mono ?_;rintro r (⟨fr,rfl,z5⟩|⟨fr,rfl,g4,z5⟩)
 rotate_left
 ·have hq:Y1 T U=false:=by unfold Y1;simp only[z4z z5,CC,Ge]
  refine gU1 (aI @A4 (aI @D3 (aI g4 @Tryz.results21))) ?_;rw[hq];exact⟨_,rfl,EF⟩
 have hq:Y1 T U=true:=by unfold Y1;simp only[d1,d2,d3,d4,d5,d6,d7,Aq z0,Aq z1,Aq z2,Aq z3,Aq z5,WE]
 simp only[Ck,eqC,Tryz.f21,J4,M0,BP,BQ,BR,BS];refine gU1 (a3N @A4 @D3 @Tryz.results21) ?_;rw[hq];exact⟨_,rfl,EF⟩
end Go.Proofs.T
