/- The law that values lie in the interval: the walk. -/
import Derived.Test.YtgjocfjdecjhoaaGreatDoorILA
import Derived.Test.YtgjocfjdecjhoaaGreatDoorIWA
set_option linter.unusedSimpArgs false
set_option linter.unusedVariables false
set_option linter.defProp false
set_option maxHeartbeats 32000000
set_option maxRecDepth 100000
namespace Go.Proofs.T
open Go Go.Ab Go.N9
open Nat (reduceMul reduceEqDiff reduceAdd)
def cB {Z:St}{v vp:Value}{l picks:List Int}(hl:BG (N5 Z []) v l) (a4:l.length<=9223372036854775807) (hp:BG (N5 Z []) vp picks) (a5:picks.length<=9223372036854775807) (C:Z.read 0 0 20=some AO) (I:0<Z.n) :
  Ev (gO 4 [v,vp] Z) (fun r=>∃ Z',r=⟨false,.bool true,Z'⟩) ⟨⟩:=by
 obtain⟨d0,n0,e0,rfl⟩:∃ a n c,v= .slice a n c:=by
  obtain⟨a,c,b,off,cells,h,-⟩:=hl.1.use;exact⟨a,_,c,h⟩
 obtain⟨d1,n1,e1,rfl⟩:∃ a n c,vp= .slice a n c:=by
  obtain⟨a,c,b,off,cells,h,-⟩:=hp.1.use;exact⟨a,_,c,h⟩
 refine C8 Tryz.func4 rfl rfl ?_;simp(maxSteps:=8000000) (disch:=first|exact dS|fail) only[↓bD,bW,reduceMul,reduceEqDiff,reduceAdd,Nat.reduceBEq,reduceIte,Option.isNone_none,kL C];refine(iP [] (by simp) hl a4).mono ?_;rintro r ⟨ca,T,N,rfl,K,hT,V,⟨jf,B,a3⟩,u,G⟩;have k1:=K.n;have hB:=V.bd;have H:Jb N ca T:=(hT.I2 KG).tn;have z:=H;obtain⟨vl,vc,vr,ex,vt,vk,A,-,-,-,O,-,-⟩:=H;obtain⟨x1,x2,x3,x4,x5,rfl⟩:=dZ O.len;unfold Ui at A;simp only[LN,MC]at A;subst A;obtain⟨xx,hxr,hxk,Mm⟩:=AG1 G u;obtain⟨kk,mm,hfw,hkk,hmm⟩:=kE u;have a0:T.G7.length<=1000:=by have:=V.ok.G7;omega
 refine gS ?_;refine PL ?_;intro S1 j;obtain⟨CA,i⟩:∃ l:List Value,[str T.name,vl,vc,vr,.int .i64 T.low,.int .i64 T.high,x1,x2,x3,x4,x5,vt,.int .i64 T.AE,vk,.int .i64 T.U6,.int .i64 T.t.q,.int .i64 T.t.b,.int .i64 T.t.g,.int .i64 T.t.p,.int .i64 T.t.s]=l:=⟨_,rfl⟩
 have M:Ext N S1:=by rw[j];exact eX
 have m1:S1.n=N.n+1:=by rw[j];rfl
 have t1:S1.row N.n=some CA:=by rw[j,<- i];exact cL
 have a1:sub CA 6 5=some [x1,x2,x3,x4,x5]:=by rw[<- i];rfl
 have a2:sub CA 0 20=some CA:=by rw[<- i];rfl
 rw[i]at z ⊢;clear j i;have EA:=K.trans M;refine(Vv hB (z.mono M) a0 B.wf.1 om (O.mono M) (CB EA I C) om).mono ?_;rintro r ⟨D,rfl,S⟩;rw[hxr];have k2:=S.n;have t2:=eT (S.row om) t1;have E2:=M.trans S;unfold oE qv P6;refine gS1 (aI t2 (aI a2 a1)) ?_;refine PL ?_;intro S3 e;have F3:Ext D S3:=by rw[e];exact eX
 have m3:S3.n=D.n+2:=by rw[e];rfl
 have u1:S3.row D.n=some [.int .i64 xx.1.n,.int .i64 xx.1.d]:=by rw[e];exact cL
 have u2:S3.row (D.n+1)=some [.int .i64 xx.2.n,.int .i64 xx.2.d]:=by rw[e];exact cL
 have t3:=eT (F3.row om) t2;have R:=E2.trans F3;refine(ar B.wf.1 om (O.mono R) (CB (K.trans R) I C) om (by have:=JS hfw;omega)).mono ?_;rintro r ⟨vn,Z4,rfl,m,hN⟩;have k4:=m.n;have L:=R.trans m;have E:=m;rw[e]at E;clear e;have t4:=eT (m.row om) t3;have y:=hN.strs;generalize W:(if AF T.f=true then dedup (S8 T.f)else[])=NN at hN y;have X:NN.length<=1000000:=by
  rw[<- W];split
  ·have:=@Vc (S8 T.f);have:=JS hfw;omega
  ·simp
 obtain⟨an,a6,bn,on,a7,rfl,-,-⟩:=Hy.use y;refine gS1 (asx m) ?_;have Y:BG Z4 (.slice d1 n1 e1) picks:=hp.I2 ((I9 (K.trans L)).trans KG);refine(ZY (names:=NN) X a5 hp.2 hfw ⟨z.mono L,V.wk B a3⟩ (O.mono L) y Y.1 (gJ G u)).mono ?_;rintro r ⟨q,b,F,rfl,o,kq,J⟩;have k5:=o.n;have E5:=L.trans o;obtain⟨v1,hv1,hv2⟩:=Mm _ (yZ (names:=NN) (picks:=picks));rw[hv1]at J;cases b with
 |false=>rw[z0z (by decide)]at J;cases J
 |true=>
 rw[z1z rfl]at J;cases J;have c1:=wL hv2.2.1;have c2:=wL hv2.2.2;have t5:=eT (o.row om) t4;have w1:F.row D.n=some [.int .i64 xx.1.n,.int .i64 xx.1.d]:=by rw[(m.trans o).row om];exact u1
 have w2:F.row (D.n+1)=some [.int .i64 xx.2.n,.int .i64 xx.2.d]:=by rw[(m.trans o).row om];exact u2
 unfold qv P6;refine gS1 (aI (asx m) (asx o)) ?_;refine Ct.intro (by(repeat first|simp(disch:=omega) only[O4,G6,G9,asx E,asx o]|rw[W6 (by kernel_rfl)]);rfl) ?_;refine gS1 w1 ?_;refine PL ?_;intro S6 k;have F6:Ext F S6:=by rw[k];exact eX
 have m6:S6.n=F.n+1:=by rw[k];rfl
 have y1:S6.row F.n=some [.int .i64 q.n,.int .i64 q.d]:=by rw[k];exact cL
 have y2:=eT (F6.row om) w2;clear k;refine(NW hxk.1 kq).mono ?_;rintro r ⟨Z7,rfl,U⟩;have k7:=U.n;have z1:=eT (U.row om) y1;have z2:=eT (U.row om) y2;refine gS1 (aI z1 (aI z2 c1)) ?_;refine(NW kq hxk.2).mono ?_;rintro r ⟨Z8,rfl,H8⟩;refine gS1 (aI c2 @Tryz.results4) ?_;exact⟨_,rfl⟩
end Go.Proofs.T
namespace Go.Proofs.YtgjocfjdecjhoaaGreatDoor
open Go Go.ChangeShapes Go.WideShapes Go.ChangeAt Go.RowKit
def xe {H:Type}{enc:TypeId×Value->H}{f0 f1:Nat}{x0 x1:DataW H×List MemPlace}(sa:Option Addr) (sl sc:Nat) (ta:Option Addr) (tl tc:Nat){w:World}(h0:DataW.trod enc Tryz.prog w 0 (fun _=>true) true f0 22 [.slice sa sl sc]=some x0) (h1:DataW.trod enc Tryz.prog w 0 (fun _=>true) true f1 22 [.slice ta tl tc]=some x1) (hd0:Ab.Nt.GR Tryz.prog f0 22=true) (hd1:Ab.Nt.GR Tryz.prog f1 22=true)
  (hg:10<=w.heap.size) (hE:T.Kb w) {arr:Array Value}{e:TypeId}{f:Nat×Nat} (hc:w.heap[0]? =some (.cells arr e f)) (h20:arr.size=20) (hp:∀ (i:Nat) (v:Value),T.AO[i]? =some v->arr[i]? =some v) :
  Calls Tryz.prog 4 #[.slice sa sl sc,.slice ta tl tc] w fun e w'=>e= .returned (.bool true)/\Below w.heap.size w w':=by
 let B8:Ab.Env:=⟨w.heap.size,fun n c=>Ab.codeOk Tryz.prog n 10 c,w⟩
 have FC:∀ n c,B8.chk n c=Ab.codeOk Tryz.prog n 10 c:=fun _ _=>rfl;obtain⟨O,hI⟩:=Vy (B8:=B8) rfl rfl hg hc h20 hp;obtain⟨Z1,O1,c0,i1,k1,l1,v1,a1,t1⟩:=Ab.Nt.imp (B8:=B8) (Nat.le_refl _) f0 22 _ _ h0 hd0 _ O hI;obtain⟨Z2,O2,c1,i2,k2,l2,v2,a2,t2⟩:=Ab.Nt.imp (B8:=B8) (Nat.le_refl _) f1 22 _ _ h1 hd1 Z1 O1 i1;obtain⟨u0,m0,rfl,g0⟩:=T.RD Tryz.underlying22 Tryz.underlying3 (by kernel_rfl) a1;have y0:=T.YN Tryz.underlying22 a1 g0;obtain⟨u1,m1,rfl,g1⟩:=T.RD Tryz.underlying22 Tryz.underlying3 (by kernel_rfl) a2;have y1:=T.YN Tryz.underlying22 a2 g1;have Ae5:=T.kM (k1.trans k2);have hev:=T.cB (g0.I2 (T.RE k2)) y0 (g1.I2 (T.RE (Ab.Nt.Kp.refl _))) y1 Ae5 (Nat.lt_of_lt_of_le (show(0:Nat)<11 by omega) (k1.trans k2).n);cases v1 with
 | cons vv vn=>
   cases vn;cases v2 with
   | cons vu vm=>
     cases vm;refine(Ab.QA (B8:=B8) T.mixed FC T.Ts (T.kO FC hg hE) Tryz.func4 rfl hev i2.rel i2.free i2.Ac7 (.cons (vv.mono l2) (.cons vu .nil))).mono ?_;rintro en w' ⟨r,v',O',⟨Z',rfl⟩,rfl,r1,r2,r3⟩;exact⟨by cases r3;rfl,cE i2.own r2⟩
end Go.Proofs.YtgjocfjdecjhoaaGreatDoor
