/- types: the bounds of a name. -/
import Derived.Test.YtgjocfjdecjhoaaGreatDoorRAU
import Derived.Test.YtgjocfjdecjhoaaGreatDoorTYA
set_option linter.unusedSimpArgs false
set_option linter.unusedVariables false
set_option linter.defProp false
set_option maxHeartbeats 32000000
set_option maxRecDepth 100000
namespace Go.Proofs.T
open Go Go.Ab Go.V6
def jQ {α:Type}{p:α->Bool}{l:List α}{k:Nat}{x:α}(h:(l.take k).find? p=none) (hx:l[k]? =some x) (hp:p x=true):l.find? p=some x:=by
 obtain⟨hk,hv⟩:=List.getElem?_eq_some_iff.1 hx;rw[<- fV k l,List.find?_append,h,PL hk,hv,List.find?_cons,hp];rfl
def jR {α:Type}{p:α->Bool}{l:List α}{k:Nat}{x:α}(h:(l.take k).find? p=none) (hx:l[k]? =some x) (hp:p x=false):(l.take (k+1)).find? p=none:=by
 rw[Sw,hx,List.find?_append,h];simp[hp]
def bm {Z:St}{v:Value}{l:List Bz}{g:Nat}{fs cs:List Value}{p:Bz->Bool}(hl:SL Z 5 v (l.map Bz.row)) (hn:l.length<=4294967296)
  (hf:∀ (Z':St) (x:Bz),Ext Z Z'->x∈l->Ev (go Tryz.prog HS (.fn g) (fs++[.agg ⟨x.row⟩]++cs) Z') (fun r=>∃ Z2,r=⟨false,.bool (p x),Z2⟩/\Ext Z' Z2) ⟨⟩) :
  Ev (gO 91 [v,.func (.func g) ⟨fs⟩ ⟨cs⟩] Z) (fun r=>(∃ Z',r=⟨false,.int .i64 (-1),Z'⟩/\Ext Z Z'/\l.find? p=none)\/∃ (k:Nat) (x:Bz) (Z':St),r=⟨false,.int .i64 (k:Nat),Z'⟩/\Ext Z Z'/\l[k]? =some x/\l.find? p=some x) ⟨⟩:=by
 obtain⟨a,c,b,off,cells,rfl,h1,h2⟩:=hl.use;rw[z2z]at *;refine C9 Tryz.func91 rfl rfl ?_;refine gS ?_
 refine CD (fun j fr Z'=>∃ k,j=l.length-k/\k<=l.length/\fr.get 0=some (.slice a l.length c)/\fr.get 1=some (.func (.func g) ⟨fs⟩ ⟨cs⟩)/\fr.get 7=some (.int .i64 l.length)/\fr.get 8=some (.int .i64 k)/\Ext Z Z'/\(l.take k).find? p=none)
  (fun r=>(∃ fr Z',r=⟨.exit 0,fr,Z'⟩/\Ext Z Z'/\l.find? p=none)\/(∃ fr Z' k x,r=⟨.ret,fr,Z'⟩/\Ext Z Z'/\fr.get 4=some (.int .i64 (k:Nat))/\l[k]? =some x/\l.find? p=some x)) l.length ?_ ?_ ?_
 ·exact⟨0,rfl,om,fR,fR,fR,fR,.refl _,rfl⟩
 ·rintro j fr Z' ⟨k,rfl,hk,g0,g1,g7,g8,hE,hm⟩;by_cases hc:k<l.length
  ·obtain⟨sp,rfl,hb,hr⟩:=h1 om;obtain⟨x,hx⟩:∃ x,l[k]? =some x:=⟨_,List.getElem?_eq_getElem hc⟩
   have hr':=eT (hE.row hb) hr;have h2:=h2 k x.row (by rw[List.getElem?_map,hx];rfl);have hc':decide (k<l.length)=true:=by simpa using hc
   have hxx:Bz.row x=[str x.name,.int .i64 x.kind,.int .i64 x.low,.int .i64 x.high,.bool x.less]:=rfl;rw[hxx]at h2;refine gS1 (aI g0 (aI g1 (aI g7 (aI g8 (aI @bq (aI hc' (aI hr' h2))))))) ?_;have hf':=hf Z' x hE (Bs hx);rw[hxx]at hf';refine hf'.mono ?_;rintro r ⟨Z2,rfl,hE2⟩;have hE3:=hE.trans hE2;cases hp:p x with
   | true=>
     refine gS1 (aI g0 (aI g1 (aI g7 (aI g8 @AK4)))) ?_;exact .inr ⟨_,_,k,x,rfl,hE3,fR,hx,jQ hm hx hp⟩
   | false=>
     refine gS1 (aI g0 (aI g1 (aI g7 (aI g8 (aI @Xq @j7))))) ?_;exact⟨l.length-(k+1),om,k+1,rfl,om,fR1 g0,fR1 g1,fR1 g7,fR,hE3,jR hm hx hp⟩
  ·have hc':decide (k<l.length)=false:=by simpa using hc
   obtain rfl:k=l.length:=om;rw[JF]at hm;refine gS1 (aI g0 (aI g1 (aI g7 (aI g8 (aI @bq (aI hc' @Bj)))))) ?_;exact .inl ⟨_,_,rfl,hE,hm⟩
 ·rintro r (⟨fr,Z',rfl,hE,hm⟩|⟨fr,Z',k,x,rfl,hE,g4,hx,hm⟩)
  ·refine gS1 @Tryz.results91 ?_;exact .inl ⟨_,rfl,hE,hm⟩
  ·refine gS1 (aI @Tryz.results91 g4) ?_;exact .inr ⟨k,x,_,rfl,hE,hx,hm⟩
def bdV (o:Option (Int×Int)):Value:= .tuple ⟨[.int .i64 (o.getD (0,0)).1,.int .i64 (o.getD (0,0)).2,.bool o.isSome]⟩
def nW {τ:St}{x:Bz}{nm:By}{p:Nat}(hp:p<τ.n) (hr:τ.row p=some [str nm]):Ev (gO 92 [.agg ⟨x.row⟩,.pointer (some ⟨p,0,none⟩)] τ) (fun r=>∃ τ',r=⟨false,.bool (decide (x.name=nm)),τ'⟩/\Ext τ τ') ⟨⟩:=by
 have hxx:Bz.row x=[str x.name,.int .i64 x.kind,.int .i64 x.low,.int .i64 x.high,.bool x.less]:=rfl;rw[hxx];refine C9 Tryz.func92 rfl rfl ?_;refine gS1 (aI hr @Tryz.results92) ?_;exact⟨_,rfl,eX⟩
def Qk {Z:St}{ca:List Value}{T:Tn}{nm:By}(hT:HW Z ca T) (hc:T.G9.length<=1000):Ev (gO 39 [.agg ⟨ca⟩,str nm] Z) (fun r=>∃ Z',r=⟨false,bdV (Av T nm),Z'⟩/\Ext Z Z') ⟨⟩:=by
 obtain⟨vl,vc,vr,ex,vt,vk,hp,h2,h3,-⟩:=hT.parts;have hfa:=hp.all;have s2:=hp.p2;have s4:=hp.p4;have s5:=hp.p5;refine C9 Tryz.func39 rfl rfl ?_;have e1:([112,114,105,99,101]:By)=N9:=rfl;have e2:([108,111,119]:By)=Dp:=rfl;cases c1:decide (nm=[112,114,105,99,101])with
 | true=>
   have hb:Av T nm=some (T.low,T.high):=by unfold Av;rw[z1z (.inl (z6z c1))]
   rw[hb];refine gS1 (aI hfa (aI s4 (aI s5 (aI c1 (a3N @D9 @F4 @Tryz.results39))))) ?_
   try refine dW ?_
   try(refine gS1 @Tryz.results39 ?_;try exact⟨⟩)
   exact⟨_,rfl,eX⟩
 |false=>
 cases c2:decide (nm=[108,111,119])with
 | true=>
   have hb:Av T nm=some (T.low,T.high):=by unfold Av;rw[z1z (.inr (z6z c2))]
   rw[hb];refine gS1 (aI hfa (aI s4 (aI s5 (aI c1 (aI c2 (a3N @D9 @F4 @Tryz.results39)))))) ?_
   try refine dW ?_
   try(refine gS1 @Tryz.results39 ?_;try exact⟨⟩)
   exact⟨_,rfl,eX⟩
 |false=>
 have hb:Av T nm=(T.G9.find? fun c=>decide (c.name=nm)).map fun c=>(c.low,c.high):=by
  unfold Av;rw[z0z];rintro(h|h)
  ·exact z9z c1 h
  ·exact z9z c2 h
 rw[hb];have E0:Ext Z ((Z.new ca).new [str nm]):=eX;obtain⟨a,c,cb,co,ccs,rfl,d1,d2⟩:=h3.use;refine gS1 (aI hfa (aI s2 (aI c1 c2))) ?_;refine(bm (p:=fun c=>decide (c.name=nm)) (fs:=[]) (cs:=[.pointer (some ⟨Z.n+1,0,none⟩)]) (SL.mono (show SL Z 5 (.slice a T.G9.length c) (T.G9.map Bz.row)from h3) E0) om fun τ x hE _=>nW (by have:=hE.n;simp at this;omega) (by rw[hE.row (cL)];exact cL)).mono ?_;rintro r (⟨Z2,rfl,hE2,hf⟩|⟨k,x,Z2,rfl,hE2,hx,hf⟩)
 ·have n1:decide ((-1:Int)<0)=true:=rfl;refine gS1 (aI n1 @Tryz.results39) ?_;rw[hf];exact⟨_,rfl,E0.trans hE2⟩
 ·have k2:=hE2.n;simp only[F6]at k2;have w2:Z2.row Z.n=some ca:=eT (hE2.row (cL)) cL;have hk:k<T.G9.length:=(List.getElem?_eq_some_iff.1 hx).1;obtain⟨sp,rfl,l3,l4⟩:=d1 om;have w3:Z2.row cb=some ccs:=by rw[hE2.row (by simp;omega),CI (by simp;omega),CI om];exact l4
  obtain⟨m0,m1,m2,m3,m4,m5⟩:=d2 k x hx;have kd:decide ((k:Int)<0)=false:=dF;have kb:Nat.blt k T.G9.length=true:=by rw[Bt];omega
  refine gS1 (aI kd (aI w2 (aI s2 (aI w3 (aI m0 (aI m3 (aI m4 (aI kb @Tryz.results39)))))))) ?_
  try refine dW ?_
  try(refine gS1 @Tryz.results39 ?_;try exact⟨⟩)
  rw[hf];exact⟨_,rfl,E0.trans hE2⟩
end Go.Proofs.T
namespace Go.Proofs.T
open Go Go.Ab Go.V6
open Nat (reduceMul reduceEqDiff reduceAdd)
section
variable {Z:St}{v:Value}
def UW {m x:Q}{l:List Q}:Co m (l++[x])=if DR x (Co m l)<0 then x else Co m l:=by unfold Co;rw[gu];rfl
def UX {m x:Q}{l:List Q}:Cp m (l++[x])=if 0<DR x (Cp m l)then x else Cp m l:=by unfold Cp;rw[gu];rfl
def iG {q:Q}{l:List Q}(hs:SL Z 2 v ((q::l).map P7)) (hl:l.length<=100) (hq:∀ x∈q::l,x.Ok):
  Ev (gO 81 [v,.func (.func 16) ⟨[]⟩ ⟨[]⟩] Z) (fun r=>∃ Z',r=⟨false,qv (Co q l),Z'⟩/\Ext Z Z') ⟨⟩:=by
 obtain⟨a,c,b,off,cells,rfl,h1,h2⟩:=SL.LD hs;have hln:(q::l).length=l.length+1:=rfl;obtain⟨sp,rfl,hb,hr⟩:=h1 (by simp);rw[hln];have f0:=h2 0 q rfl;rw[Fp,AG]at f0;unfold P7 at f0;have c0:decide (((l.length+1:Nat):Int)<1)=false:=dF;have l0:Nat.blt 0 (l.length+1)=true:=by rw[Bt];omega
 refine C9 Tryz.func81 rfl rfl ?_;refine gS1 (aI c0 (aI l0 (aI hr (aI f0 (aI @Fp @AG))))) ?_
 refine CD (fun j fr τ=>∃ k:Nat,j=l.length-k/\k<=l.length/\fr.get 6=some (.int .i64 ((k+1:Nat):Int))/\fr.get 0=some (.slice (some ⟨b,off,sp⟩) (l.length+1) c)/\fr.get 1=some (.func (.func 16) ⟨[]⟩ ⟨[]⟩)/\fr.get 4=some (.pointer (some ⟨Z.n,0,none⟩))/\fr.get 5=some (.pointer (some ⟨Z.n+1,0,none⟩))/\Ext Z τ/\Z.n+2<=τ.n/\τ.A7 Z.n=some [.int .i64 0,.int .i64 0]/\τ.A7 (Z.n+1)=some (P7 (Co q (l.take k))))
  (fun r=>∃ fr τ,r=⟨.exit 0,fr,τ⟩/\fr.get 4=some (.pointer (some ⟨Z.n,0,none⟩))/\fr.get 5=some (.pointer (some ⟨Z.n+1,0,none⟩))/\Ext Z τ/\Z.n+2<=τ.n/\τ.A7 Z.n=some [.int .i64 0,.int .i64 0]/\τ.A7 (Z.n+1)=some (P7 (Co q l))) l.length ?_ ?_ ?_
 ·exact⟨0,rfl,om,fR,fR,fR,fR,fR,eX,by simp,cL,by unfold P7;exact cL⟩
 ·rintro j fr τ ⟨k,rfl,hk,g6,g0,g1,g4,g5,hE,hn,z0,m0⟩;by_cases hc:k<l.length
  ·have hc':decide (((k+1:Nat):Int)<((l.length+1:Nat):Int))=true:=dT;obtain⟨x,hx⟩:∃ x,l[k]? =some x:=⟨_,List.getElem?_eq_getElem hc⟩
   have hr':=eT (hE.row hb) hr;have f1:=h2 (k+1) x hx;unfold P7 at f1 m0;have m0r:=A9 m0;have lk:Nat.blt (k+1) (l.length+1)=true:=by rw[Bt];omega
   have okx:x.Ok:=hq x (GA _ (Bs hx));have okm:(Co q (l.take k)).Ok:=Pf (hq q (Kf ..)) fun y hy=>hq y (GA _ (PF hy));have e2:((k+1:Nat):Int)+1=((k+1+1:Nat):Int):=om;have tk:l.take (k+1)=l.take k++[x]:=by rw[Sw,hx];rfl
   refine gS1 (aI g6 (aI g0 (aI g1 (aI g4 (aI g5 (aI hc' (aI hr' (aI @f1 (aI m0r lk))))))))) ?_;refine(gw okx okm).mono ?_;rintro r ⟨Z2,rfl,hE2⟩;have k2:=hE2.n;have hr2:=eT (hE2.row om) hr';have z2:=eT (hE2.A7 om) z0;have m2:=eT (hE2.A7 om) m0;cases cc:decide (DR x (Co q (l.take k))<0)with
   | true=>
     refine gS1 (aI g6 (aI g0 (aI g1 (aI g4 (aI g5 (aI cc (aI hr2 (aI @f1 (aI m2 (aI lk (asx hE2))))))))))) ?_
     try refine dW1 (asx hE2) ?_
     try(refine gS1 (aI g6 (aI g0 (aI g1 (aI g4 (aI g5 (aI cc (aI hr2 (aI @f1 (aI m2 (aI lk (aI e2 @j7))))))))))) ?_;try exact⟨⟩)
     exact⟨l.length-(k+1),om,k+1,rfl,om,fR,fR1 g0,fR1 g1,fR1 g4,fR1 g5,(hE.trans hE2).upd om _,by first|omega|(simp;omega),by first|rfl|exact z2|exact cL1 z2,by rw[tk,UW,z1z (z6z cc)];first|rfl|(unfold P7;exact cL)⟩
   | false=>
     refine gS1 (aI g6 (aI g0 (aI g1 (aI g4 (aI g5 (aI cc (aI hr2 (aI @f1 (aI m2 (aI lk (asx hE2))))))))))) ?_
     try refine dW1 (asx hE2) ?_
     try(refine gS1 (aI g6 (aI g0 (aI g1 (aI g4 (aI g5 (aI cc (aI hr2 (aI @f1 (aI m2 (aI lk (aI e2 @j7))))))))))) ?_;try exact⟨⟩)
     exact⟨l.length-(k+1),om,k+1,rfl,om,fR,fR1 g0,fR1 g1,fR1 g4,fR1 g5,hE.trans hE2,om,by first|rfl|exact z2,by rw[tk,UW,z0z (z9z cc)];first|rfl|exact m2⟩
  ·have hc':decide (((k+1:Nat):Int)<((l.length+1:Nat):Int))=false:=dF;obtain rfl:k=l.length:=om;rw[JF]at m0;refine gS1 (aI g6 (aI g0 (aI hc' @Bj))) ?_;exact⟨_,_,rfl,fR1 g4,fR1 g5,hE,hn,z0,m0⟩
 rintro r ⟨fr,τ,rfl,g4,g5,hE,hn,z0,m0⟩;unfold qv P7 at *;simp(maxSteps:=8000000) (disch:=first|exact dS|fail) only[↓bD,bW,reduceMul,reduceEqDiff,reduceAdd,Nat.reduceBEq,reduceIte,Option.isNone_none,g4,g5,z0,A9 m0,Tryz.results81];exact⟨_,rfl,hE.upd om _⟩
def iH {q:Q}{l:List Q}(hs:SL Z 2 v ((q::l).map P7)) (hl:l.length<=100) (hq:∀ x∈q::l,x.Ok):
  Ev (gO 83 [v,.func (.func 16) ⟨[]⟩ ⟨[]⟩] Z) (fun r=>∃ Z',r=⟨false,qv (Cp q l),Z'⟩/\Ext Z Z') ⟨⟩:=by
 obtain⟨a,c,b,off,cells,rfl,h1,h2⟩:=SL.LD hs;have hln:(q::l).length=l.length+1:=rfl;obtain⟨sp,rfl,hb,hr⟩:=h1 (by simp);rw[hln];have f0:=h2 0 q rfl;rw[Fp,AG]at f0;unfold P7 at f0;have c0:decide (((l.length+1:Nat):Int)<1)=false:=dF;have l0:Nat.blt 0 (l.length+1)=true:=by rw[Bt];omega
 refine C9 Tryz.func83 rfl rfl ?_;refine gS1 (aI c0 (aI l0 (aI hr (aI f0 (aI @Fp @AG))))) ?_
 refine CD (fun j fr τ=>∃ k:Nat,j=l.length-k/\k<=l.length/\fr.get 6=some (.int .i64 ((k+1:Nat):Int))/\fr.get 0=some (.slice (some ⟨b,off,sp⟩) (l.length+1) c)/\fr.get 1=some (.func (.func 16) ⟨[]⟩ ⟨[]⟩)/\fr.get 4=some (.pointer (some ⟨Z.n,0,none⟩))/\fr.get 5=some (.pointer (some ⟨Z.n+1,0,none⟩))/\Ext Z τ/\Z.n+2<=τ.n/\τ.A7 Z.n=some [.int .i64 0,.int .i64 0]/\τ.A7 (Z.n+1)=some (P7 (Cp q (l.take k))))
  (fun r=>∃ fr τ,r=⟨.exit 0,fr,τ⟩/\fr.get 4=some (.pointer (some ⟨Z.n,0,none⟩))/\fr.get 5=some (.pointer (some ⟨Z.n+1,0,none⟩))/\Ext Z τ/\Z.n+2<=τ.n/\τ.A7 Z.n=some [.int .i64 0,.int .i64 0]/\τ.A7 (Z.n+1)=some (P7 (Cp q l))) l.length ?_ ?_ ?_
 ·exact⟨0,rfl,om,fR,fR,fR,fR,fR,eX,by simp,cL,by unfold P7;exact cL⟩
 ·rintro j fr τ ⟨k,rfl,hk,g6,g0,g1,g4,g5,hE,hn,z0,m0⟩;by_cases hc:k<l.length
  ·have hc':decide (((k+1:Nat):Int)<((l.length+1:Nat):Int))=true:=dT;obtain⟨x,hx⟩:∃ x,l[k]? =some x:=⟨_,List.getElem?_eq_getElem hc⟩
   have hr':=eT (hE.row hb) hr;have f1:=h2 (k+1) x hx;unfold P7 at f1 m0;have m0r:=A9 m0;have lk:Nat.blt (k+1) (l.length+1)=true:=by rw[Bt];omega
   have okx:x.Ok:=hq x (GA _ (Bs hx));have okm:(Cp q (l.take k)).Ok:=Pg (hq q (Kf ..)) fun y hy=>hq y (GA _ (PF hy));have e2:((k+1:Nat):Int)+1=((k+1+1:Nat):Int):=om;have tk:l.take (k+1)=l.take k++[x]:=by rw[Sw,hx];rfl
   refine gS1 (aI g6 (aI g0 (aI g1 (aI g4 (aI g5 (aI hc' (aI hr' (aI @f1 (aI m0r lk))))))))) ?_;refine(gw okx okm).mono ?_;rintro r ⟨Z2,rfl,hE2⟩;have k2:=hE2.n;have hr2:=eT (hE2.row om) hr';have z2:=eT (hE2.A7 om) z0;have m2:=eT (hE2.A7 om) m0;cases cc:decide (0<DR x (Cp q (l.take k)))with
   | true=>
     refine gS1 (aI g6 (aI g0 (aI g1 (aI g4 (aI g5 (aI cc (aI hr2 (aI @f1 (aI m2 (aI lk (asx hE2))))))))))) ?_
     try refine dW1 (asx hE2) ?_
     try(refine gS1 (aI g6 (aI g0 (aI g1 (aI g4 (aI g5 (aI cc (aI hr2 (aI @f1 (aI m2 (aI lk (aI e2 @j7))))))))))) ?_;try exact⟨⟩)
     exact⟨l.length-(k+1),om,k+1,rfl,om,fR,fR1 g0,fR1 g1,fR1 g4,fR1 g5,(hE.trans hE2).upd om _,by first|omega|(simp;omega),by first|rfl|exact z2|exact cL1 z2,by rw[tk,UX,z1z (z6z cc)];first|rfl|(unfold P7;exact cL)⟩
   | false=>
     refine gS1 (aI g6 (aI g0 (aI g1 (aI g4 (aI g5 (aI cc (aI hr2 (aI @f1 (aI m2 (aI lk (asx hE2))))))))))) ?_
     try refine dW1 (asx hE2) ?_
     try(refine gS1 (aI g6 (aI g0 (aI g1 (aI g4 (aI g5 (aI cc (aI hr2 (aI @f1 (aI m2 (aI lk (aI e2 @j7))))))))))) ?_;try exact⟨⟩)
     exact⟨l.length-(k+1),om,k+1,rfl,om,fR,fR1 g0,fR1 g1,fR1 g4,fR1 g5,hE.trans hE2,om,by first|rfl|exact z2,by rw[tk,UX,z0z (z9z cc)];first|rfl|exact m2⟩
  ·have hc':decide (((k+1:Nat):Int)<((l.length+1:Nat):Int))=false:=dF;obtain rfl:k=l.length:=om;rw[JF]at m0;refine gS1 (aI g6 (aI g0 (aI hc' @Bj))) ?_;exact⟨_,_,rfl,fR1 g4,fR1 g5,hE,hn,z0,m0⟩
 rintro r ⟨fr,τ,rfl,g4,g5,hE,hn,z0,m0⟩;unfold qv P7 at *;simp(maxSteps:=8000000) (disch:=first|exact dS|fail) only[↓bD,bW,reduceMul,reduceEqDiff,reduceAdd,Nat.reduceBEq,reduceIte,Option.isNone_none,g4,g5,z0,A9 m0,Tryz.results83];exact⟨_,rfl,hE.upd om _⟩
def O8 (x:QQ):List Value:=[.int .i64 x.1.n,.int .i64 x.1.d,.int .i64 x.2.n,.int .i64 x.2.d]
def zG {q:Q}{l:List Q}(hs:SL Z 2 v ((q::l).map P7)) (hl:l.length<=100) (hq:∀ x∈q::l,x.Ok):
  Ev (gO 141 [v] Z) (fun r=>∃ Z',r=⟨false,.agg ⟨O8 (RD (q::l))⟩,Z'⟩/\Ext Z Z') ⟨⟩:=by
 obtain⟨a,c,b,off,cells,hv,h1,h2⟩:=SL.LD hs;subst hv;refine C9 Tryz.func141 rfl rfl ?_;refine gS ?_;refine(iG (SL.mono hs (.new _ _)) hl hq).mono ?_;rintro r ⟨Z2,rfl,hE2⟩;have k2:=hE2.n;simp only[F6]at k2;have E2:Ext Z Z2:=Ext.trans (.new _ _) hE2;have z2:Z2.A7 Z.n=some [.int .i64 0,.int .i64 0,.int .i64 0,.int .i64 0]:=eT (hE2.A7 (cL)) cL;refine gS ?_;refine(iH (SL.mono hs E2) hl hq).mono ?_;rintro r ⟨Z3,rfl,hE3⟩;have k3:=hE3.n;have z3:=eT (hE3.A7 om) z2;unfold qv P7 O8 RD;refine gS1 (aI z3 (aI (asx hE2) (aI (asx hE3) (a3N @G8 @G3 @Tryz.results141)))) ?_
 try refine dW1 (aI (asx hE2) (asx hE3)) ?_
 try(refine gS1 (aI z3 @Tryz.results141) ?_;try exact⟨⟩)
 exact⟨_,rfl,(E2.trans hE3).upd om _⟩
end
end Go.Proofs.T
namespace Go.Proofs.T
open Go Go.Ab Go.V6
def si0:(none:Option Q).isSome=false:=rfl
def si1 {x:Q}:(some x).isSome=true:=rfl
def gd0:(none:Option Q).getD GH=GH:=rfl
def gd1 {x:Q}:(some x).getD GH=x:=rfl
def zF (p:Q×Q):List Value:=[.int .i64 p.1.n,.int .i64 p.1.d,.int .i64 p.2.n,.int .i64 p.2.d]
def j9:List Value:=[.int .i64 0,.int .i64 0,.int .i64 0,.int .i64 0]
def Ad (r:Except Int QQ):Value:=match r with
 | .ok x=> .tuple ⟨[.agg ⟨O8 x⟩,.int .i64 0]⟩
 | .error k=> .tuple ⟨[.agg ⟨j9⟩,.int .i64 k]⟩
def Ui {f:Q->Q->Option Q}:∀ {a b:List (Q×Q)},Y4 f (a++b)=(Y4 f a).bind fun xs=>(Y4 f b).bind fun ys=>some (xs++ys)
 | [],b=>by rw[Jb,Y4];cases Y4 f b<;>rfl
 | p::a,b=>by
   rw[Mp,Y4,Y4,Ui];cases f p.1 p.2 with
   |none=>rfl
   | some x=>
     cases Y4 f a with
     |none=>rfl
     |some xs=>cases Y4 f b<;>rfl
def lX {f:Q->Q->Option Q}{p:Q×Q}:Y4 f [p]=(f p.1 p.2).bind fun x=>some [x]:=by
 rw[Y4];cases f p.1 p.2 with
 |none=>rfl
 |some x=>rw[Y4];rfl
def ec {f:Q->Q->Option Q}{ps:List (Q×Q)}{p:Q×Q}(hp:p∈ps) (h:f p.1 p.2=none):Y4 f ps=none:=by
 induction ps with
 |nil=>cases hp
 | cons a l ih=>
   rw[Y4];rcases Y5.1 hp with rfl|hp
   ·rw[h];rfl
   ·cases f a.1 a.2 with
    |none=>rfl
    |some x=>rw[ih hp];rfl
def MO {Z:St}{v:Value}{g:Nat}{f:Q->Q->Option Q}{ps:List (Q×Q)}
  (En:∀ (τ:St) (a b:Q),a.Ok->b.Ok->Ev (go Tryz.prog HS (.fn g) [qv a,qv b] τ) (fun r=>∃ τ',r=⟨false,GC (f a b),τ'⟩/\Ext τ τ') ⟨⟩) (hf:∀ a b x,a.Ok->b.Ok->f a b=some x->x.Ok)
  (hs:SL Z 4 v (ps.map zF)) (h0:0<ps.length) (hl:ps.length<=4) (hps:∀ p∈ps,p.1.Ok/\p.2.Ok) :
  Ev (gO 85 [.func (.func g) ⟨[]⟩ ⟨[]⟩,v] Z) (fun r=>∃ Z',r=⟨false,Ad (Bu f ps),Z'⟩/\Ext Z Z') ⟨⟩:=by
 obtain⟨a,c,b,off,cells,rfl,h1,h2⟩:=SL.LD hs;obtain⟨sp,rfl,hb,hr⟩:=h1 h0;refine C9 Tryz.func85 rfl rfl ?_;refine gU1 (a15N @A6 @Ag @W4 @Y0 @W8 @U5 @W5 @U6 @U7 @U8 @K3 @H9 @I5 @I6 @I0) ?_
 refine I4 ps.length (fun k fr τ=>fr.get 13=some (.int .i64 k)/\fr.get 12=some (.int .i64 ps.length)/\fr.get 11=some (.slice (some ⟨b,off,sp⟩) ps.length c)/\fr.get 0=some (.func (.func g) ⟨[]⟩ ⟨[]⟩)/\fr.get 4=some (.pointer (some ⟨Z.n,0,none⟩))/\Ext Z τ/\Z.n<τ.n/\τ.A7 Z.n=some j9 /\
   ∃ u xs,fr.get 6=some u/\OL (Z.n+1) τ 2 u (xs.map P7)/\Y4 f (ps.take k)=some xs/\xs.length=k)
  (fun r=>∃ fr τ,Ext Z τ/\Z.n<τ.n/\fr.get 4=some (.pointer (some ⟨Z.n,0,none⟩))/\((r=⟨.ret,fr,τ⟩/\τ.A7 Z.n=some j9/\fr.get 5=some (.int .i64 3)/\Y4 f ps=none)\/(r=⟨.exit 0,fr,τ⟩/\τ.A7 Z.n=some j9/\∃ u xs,fr.get 6=some u/\OL (Z.n+1) τ 2 u (xs.map P7)/\Y4 f ps=some xs/\xs.length=ps.length))) ?_ ?_ ?_ ?_
 ·exact⟨fR,fR,fR,fR,fR,eX,by simp,by unfold j9;exact cL,_,[],fR,OL.nil,by rw[Oa,Y4],rfl⟩
 ·rintro k fr τ hk ⟨g13,g12,g11,g0,g4,hE,hn,z0,u,xs,g6,ho,he,hx⟩;have hc:=L9 hk;obtain⟨p,hp⟩:=H5 hk;obtain⟨An8,An9⟩:=hps p (Bs hp);have hr':=eT (hE.row hb) hr;have f1:=h2 k p hp;have lk:Nat.blt k ps.length=true:=by rw[Bt];omega
  unfold zF at f1;have ek:Y4 f (ps.take (k+1))=(f p.1 p.2).bind fun x=>some (xs++[x]):=by
   rw[Sw,hp,Option.toList_some,Ui,he,lX];cases f p.1 p.2<;>rfl
  refine gU1 (aI @A6 (aI @Ag (aI @W4 (aI @Y0 (aI @W8 (aI @U5 (aI @W5 (aI @U6 (aI @U7 (aI @U8 (aI @K3 (aI @H9 (aI @I5 (aI @I6 (aI @I0 (aI g13 (aI g12 (aI g11 (aI g0 (aI hc (aI hr' (aI @f1 lk)))))))))))))))))))))) ?_;refine(En _ p.1 p.2 An8 An9).mono ?_;rintro r ⟨Z2,rfl,hE2⟩;have k2:=hE2.n;simp only[F6,Gn]at k2;have E2:Ext Z Z2:=hE.trans (Ext.trans (eX) hE2);have z2:Z2.A7 Z.n=some j9:=by rw[hE2.A7 (by simp;omega),K0 om,M4 om];exact z0
  have ho2:OL (Z.n+1) Z2 2 u (xs.map P7):=OL.ext ho (Ext.trans (eX) hE2);cases hfp:f p.1 p.2 with
  | none=>
    rw[GC,gd0,si0];unfold qv P7 GH;unfold j9 at z2;refine gU1 (aI @A6 (aI @Ag (aI @W4 (aI @Y0 (aI @W8 (aI @U5 (aI @W5 (aI @U6 (aI @U7 (aI @U8 (aI @K3 (aI @H9 (aI @I5 (aI @I6 (aI @I0 (aI g13 (aI g12 (aI g11 (aI g0 (aI g4 z2)))))))))))))))))))) ?_;exact⟨_,_,(E2.trans (eX)).upd om _,by simp;omega,fR1 g4,.inl ⟨rfl,by unfold j9;exact cL,fR,ec (Bs hp) hfp⟩⟩
  | some x=>
    rw[hfp]at ek;have okx:=hf _ _ _ An8 An9 hfp;rw[GC,gd1,si1];unfold qv P7;refine gU1 (aI @A6 (aI @Ag (aI @W4 (aI @Y0 (aI @W8 (aI @U5 (aI @W5 (aI @U6 (aI @U7 (aI @U8 (aI @K3 (aI @H9 (aI @I5 (aI @I6 (aI @I0 (aI g13 (aI g12 (aI g11 (aI g0 (aI g4 g6)))))))))))))))))))) ?_;obtain⟨S3,hS3⟩:=nm ((((Z2.new [.int .i64 0,.int .i64 0] (some 29)).upd Z2.n [.int .i64 x.n,.int .i64 x.d]).new [.int .i64 x.n,.int .i64 x.d]));have E3:Ext Z2 S3:=by rw[<- hS3];exact eX
    have n3:S3.n=Z2.n+2:=by rw[<- hS3];rfl
    have x3:S3.row (Z2.n+1)=some [.int .i64 x.n,.int .i64 x.d]:=by rw[<- hS3];exact cL
    rw[hS3];have ho3:OL (Z.n+1) S3 2 u (xs.map P7):=OL.ext ho2 E3;refine AF (row:=P7 x) (fun _ _ _ _=>J3) ho3 x3 (C8 (by simp[P7]) (by simp)) (by rw[z2z];omega) om ?_;rintro v2 τ2 ho4 hap -;have z3:τ2.A7 Z.n=some j9:=by rw[D6 (hap.same Z.n om fun hb=>by have:=(ho3.blk hb).1;omega),E3.A7 om];exact z2
    refine gU1 (aI @A6 (aI @Ag (aI @W4 (aI @Y0 (aI @W8 (aI @U5 (aI @W5 (aI @U6 (aI @U7 (aI @U8 (aI @K3 (aI @H9 (aI @I5 (aI @I6 (aI @I0 (aI g13 (aI g12 (aI g11 (aI g0 g4))))))))))))))))))) ?_;exact⟨fR,fR1 g12,fR1 g11,fR1 g0,fR1 g4,hap.ext (E2.trans E3) ho3 om,by have:=hap.n;omega,z3,v2,xs++[x],fR,by rw[IY];exact ho4,ek,by rw[Dc,hx];rfl⟩
 ·rintro fr τ ⟨g13,g12,g11,g0,g4,hE,hn,z0,u,xs,g6,ho,he,hx⟩;rw[JF]at he;refine gU1 (aI @A6 (aI @Ag (aI @W4 (aI @Y0 (aI @W8 (aI @U5 (aI @W5 (aI @U6 (aI @U7 (aI @U8 (aI @K3 (aI @H9 (aI @I5 (aI @I6 (aI @I0 (aI g13 (aI g12 @Pl))))))))))))))))) ?_;exact⟨_,_,hE,hn,fR1 g4,.inr ⟨rfl,z0,u,xs,fR1 g6,ho,he,hx⟩⟩
 rintro r ⟨fr,τ,hE,hn,g4,⟨rfl,z0,g5,hn0⟩|⟨rfl,z0,u,xs,g6,ho,he,hx⟩⟩
 ·have e0:Bu f ps= .error 3:=by unfold Bu;rw[hn0]
  rw[e0];unfold j9 at z0;have z0r:=A9 z0;refine gS1 (aI g4 (aI g5 (aI z0r @Tryz.results85))) ?_;exact⟨_,rfl,hE⟩
 ·have e0:Bu f ps= .ok (RD xs):=by unfold Bu;rw[he]
  rw[e0];obtain⟨y,ys,rfl⟩:∃ y ys,xs=y::ys:=by
   cases xs with
   |nil=>simp at hx;omega
   |cons y ys=>exact⟨y,ys,rfl⟩
  have hok:∀ z∈y::ys,z.Ok:=OG (P:=Q.Ok) (fun p hp z hz=>hf _ _ _ (hps p hp).1 (hps p hp).2 hz) he;have hsl:=OL.sl ho;obtain⟨ua,rfl⟩:=OL.shape ho;refine gU1 (aI @A6 (aI @Ag (aI @W4 (aI @Y0 (aI @W8 (aI @U5 (aI @W5 (aI @U6 (aI @U7 (aI @U8 (aI @K3 (aI @H9 (aI @I5 (aI @I6 (aI @I0 (aI g4 g6)))))))))))))))) ?_;refine(zG hsl (by simp at hx;omega) hok).mono ?_;rintro r ⟨Z2,rfl,hE2⟩;have k2:=hE2.n;have z2:=eT (hE2.A7 om) z0;unfold j9 at z2;unfold O8;refine gS1 (aI g4 (aI z2 @Tryz.results85)) ?_;exact⟨_,rfl,(hE.trans hE2).upd om _⟩
section
variable {a0 a1 a2 a3 z0 z1 a4 a5 a6 a7 z2 z3 a8 a9 a10 a11 a12 a13 a14 a15:Value}{Z:St}
def MQ:M7 [a0,a1,a2,a3] 0 [z0,z1]=some [z0,z1,a2,a3]:=rfl
def MR:M7 [a0,a1,a2,a3] 2 [z0,z1]=some [a0,a1,z0,z1]:=rfl
def AG3:M7 [a0,a1,a2,a3,a4,a5,a6,a7] 0 [z0,z1,z2,z3]=some [z0,z1,z2,z3,a4,a5,a6,a7]:=rfl
def AG4:M7 [a0,a1,a2,a3,a4,a5,a6,a7] 4 [z0,z1,z2,z3]=some [a0,a1,a2,a3,z0,z1,z2,z3]:=rfl
def AS5:M7 [a0,a1,a2,a3,a4,a5,a6,a7,a8,a9,a10,a11,a12,a13,a14,a15] 0 [z0,z1,z2,z3]=some [z0,z1,z2,z3,a4,a5,a6,a7,a8,a9,a10,a11,a12,a13,a14,a15]:=rfl
def AS6:M7 [a0,a1,a2,a3,a4,a5,a6,a7,a8,a9,a10,a11,a12,a13,a14,a15] 4 [z0,z1,z2,z3]=some [a0,a1,a2,a3,z0,z1,z2,z3,a8,a9,a10,a11,a12,a13,a14,a15]:=rfl
def AS7:M7 [a0,a1,a2,a3,a4,a5,a6,a7,a8,a9,a10,a11,a12,a13,a14,a15] 8 [z0,z1,z2,z3]=some [a0,a1,a2,a3,a4,a5,a6,a7,z0,z1,z2,z3,a12,a13,a14,a15]:=rfl
def zE:M7 [a0,a1,a2,a3,a4,a5,a6,a7,a8,a9,a10,a11,a12,a13,a14,a15] 12 [z0,z1,z2,z3]=some [a0,a1,a2,a3,a4,a5,a6,a7,a8,a9,a10,a11,z0,z1,z2,z3]:=rfl
def NB {b size c:Nat}{sp:Option Nat}{B9:List (List Value)}{cells:List Value}{n:Nat}(hr:∀ r∈B9,r.length=size) (hb:b<Z.n) (hc:Z.row b=some cells) (hf:cells=B9.flatten) (hn:n=B9.length):SL Z size (.slice (some ⟨b,0,sp⟩) n c) B9:=by
 subst hf;subst hn;refine .inr ⟨b,0,sp,c,_,rfl,hb,hc,fun k r hk=>?_⟩;have:=Jc hr hk (o:=0) (n:=size) om;have hl:r.length=size:=hr r (Bs hk);rw[AG]at this;rw[HC,this];exact C8 om om
def SH {ps:List (Q×Q)}:∀ r∈ps.map zF,r.length=4:=fun r hr=>by
 obtain⟨p,-,rfl⟩:=cO.1 hr;rfl
def Zp {qs:List Q}:∀ r∈qs.map P7,r.length=2:=fun r hr=>by
 obtain⟨p,-,rfl⟩:=cO.1 hr;rfl
def LJ {x y:QQ}:Ev (gO 79 [.agg ⟨O8 x⟩,.agg ⟨O8 y⟩] Z) (fun r=>∃ b Z',r=⟨false,.slice (some ⟨b,0,none⟩) 4 4,Z'⟩/\Ext Z Z'/\SL Z' 4 (.slice (some ⟨b,0,none⟩) 4 4) ((R7 x y).map zF)) ⟨⟩:=by
 refine C9 Tryz.func79 rfl rfl ?_;unfold O8;refine gU1 (a8N @D5 @MQ @MR @AS5 @AS6 @AS7 @zE @Tryz.results79) ?_;exact⟨_,_,rfl,eX,NB SH (by simp) (cL) rfl rfl⟩
def JO {x y:QQ}(hx:EY x) (hy:EY y):∀ p∈R7 x y,p.1.Ok/\p.2.Ok:=by
 intro p hp;simp only[R7,Y5,FN,Em]at hp;rcases hp with rfl|rfl|rfl|rfl
 ·exact⟨hx.1,hy.1⟩
 ·exact⟨hx.1,hy.2⟩
 ·exact⟨hx.2,hy.1⟩
 ·exact⟨hx.2,hy.2⟩
def TT {a b:Q}(ha:a.Ok) (hb:b.Ok):Ev (gO 80 [qv a,qv b] Z) (fun r=>∃ Z',r=⟨false,qv (Co a [b]),Z'⟩/\Ext Z Z') ⟨⟩:=by
 refine C9 Tryz.func80 rfl rfl ?_;unfold qv P7;refine gS ?_;refine(iG (q:=a) (l:=[b]) (NB (c:=2) (sp:=none) Zp (by simp) (cL) rfl rfl) (by simp) (by intro z hz;simp only[Y5,FN,Em]at hz;rcases hz with rfl|rfl<;>assumption)).mono ?_;rintro r ⟨Z2,rfl,hE2⟩;have k2:=hE2.n;simp only[F6]at k2;have z2:Z2.A7 (Z.n+1+1)=some [.int .i64 0,.int .i64 0]:=eT (hE2.A7 (cL)) cL;unfold qv P7;refine gS1 (aI z2 @Tryz.results80) ?_;exact⟨_,rfl,(Ext.trans (eX) hE2).upd om _⟩
def QJ {a b:Q}(ha:a.Ok) (hb:b.Ok):Ev (gO 82 [qv a,qv b] Z) (fun r=>∃ Z',r=⟨false,qv (Cp a [b]),Z'⟩/\Ext Z Z') ⟨⟩:=by
 refine C9 Tryz.func82 rfl rfl ?_;unfold qv P7;refine gS ?_;refine(iH (q:=a) (l:=[b]) (NB (c:=2) (sp:=none) Zp (by simp) (cL) rfl rfl) (by simp) (by intro z hz;simp only[Y5,FN,Em]at hz;rcases hz with rfl|rfl<;>assumption)).mono ?_;rintro r ⟨Z2,rfl,hE2⟩;have k2:=hE2.n;simp only[F6]at k2;have z2:Z2.A7 (Z.n+1+1)=some [.int .i64 0,.int .i64 0]:=eT (hE2.A7 (cL)) cL;unfold qv P7;refine gS1 (aI z2 @Tryz.results82) ?_;exact⟨_,rfl,(Ext.trans (eX) hE2).upd om _⟩
def sN {x y:QQ}(hx:EY x) (hy:EY y):Ev (gO 84 [.agg ⟨O8 x⟩,.agg ⟨O8 y⟩] Z) (fun r=>∃ Z',r=⟨false,Ad (opI [43] x y),Z'⟩/\Ext Z Z') ⟨⟩:=by
 have he:opI [43] x y=Bu PT [(x.1,y.1),(x.2,y.2)]:=by unfold opI;rw[z1z rfl]
 refine C9 Tryz.func84 rfl rfl ?_;unfold O8;refine gU1 (a5N @D5 @MQ @MR @AG3 @AG4) ?_;refine(MO (f:=PT) (ps:=[(x.1,y.1),(x.2,y.2)]) (fun τ a b ha hb=>yN ha hb) (fun a b z ha hb h=>(Vj ha hb h).1) (NB (c:=2) (sp:=none) SH (by simp) (cL) rfl rfl) (by simp) (by simp) (by intro p hp;simp only[Y5,FN,Em]at hp;rcases hp with rfl|rfl;exact⟨hx.1,hy.1⟩;exact⟨hx.2,hy.2⟩)).mono ?_;rintro r ⟨Z2,rfl,hE2⟩;have k2:=hE2.n;simp only[F6]at k2;have z2:Z2.A7 (Z.n+1+1)=some j9:=by rw[hE2.A7 (cL)];unfold j9;exact cL
 unfold j9 at z2;rw[he];cases Bu PT [(x.1,y.1),(x.2,y.2)]with
 | error k=>
   unfold Ad j9;refine gS1 (aI z2 @Tryz.results84) ?_;exact⟨_,rfl,(Ext.trans (eX) hE2).upd om _⟩
 | ok z=>
   unfold Ad O8;refine gS1 (aI z2 @Tryz.results84) ?_;exact⟨_,rfl,(Ext.trans (eX) hE2).upd om _⟩
def sO {x y:QQ}(hx:EY x) (hy:EY y):Ev (gO 86 [.agg ⟨O8 x⟩,.agg ⟨O8 y⟩] Z) (fun r=>∃ Z',r=⟨false,Ad (opI [45] x y),Z'⟩/\Ext Z Z') ⟨⟩:=by
 have he:opI [45] x y=Bu YJ [(x.1,y.2),(x.2,y.1)]:=by unfold opI;rw[z0z (by decide),z1z rfl]
 refine C9 Tryz.func86 rfl rfl ?_;unfold O8;refine gU1 (a5N @D5 @MQ @MR @AG3 @AG4) ?_;refine(MO (f:=YJ) (ps:=[(x.1,y.2),(x.2,y.1)]) (fun τ a b ha hb=>yO ha hb) (fun a b z ha hb h=>(Vi ha hb h).1) (NB (c:=2) (sp:=none) SH (by simp) (cL) rfl rfl) (by simp) (by simp) (by intro p hp;simp only[Y5,FN,Em]at hp;rcases hp with rfl|rfl;exact⟨hx.1,hy.2⟩;exact⟨hx.2,hy.1⟩)).mono ?_;rintro r ⟨Z2,rfl,hE2⟩;have k2:=hE2.n;simp only[F6]at k2;have z2:Z2.A7 (Z.n+1+1)=some j9:=by rw[hE2.A7 (cL)];unfold j9;exact cL
 unfold j9 at z2;rw[he];cases Bu YJ [(x.1,y.2),(x.2,y.1)]with
 | error k=>
   unfold Ad j9;refine gS1 (aI z2 @Tryz.results86) ?_;exact⟨_,rfl,(Ext.trans (eX) hE2).upd om _⟩
 | ok z=>
   unfold Ad O8;refine gS1 (aI z2 @Tryz.results86) ?_;exact⟨_,rfl,(Ext.trans (eX) hE2).upd om _⟩
end
section
variable {Z:St}{c:Nat}
abbrev Bf (c:Nat):Value:= .pointer (some ⟨c,0,none⟩)
def mh {x y:QQ}(hx:EY x) (hy:EY y) (hc:c<Z.n) (hr:Z.A7 c=some [.func (.func 79) ⟨[]⟩ ⟨[]⟩]):Ev (gO 87 [.agg ⟨O8 x⟩,.agg ⟨O8 y⟩,Bf c] Z) (fun r=>∃ Z',r=⟨false,Ad (opI [42] x y),Z'⟩/\Ext Z Z') ⟨⟩:=by
 have he:opI [42] x y=Bu Kd (R7 x y):=by unfold opI;rw[z0z (by decide),z0z (by decide),z1z rfl]
 have hr':=A9 hr;refine C9 Tryz.func87 rfl rfl ?_;unfold O8;refine gS1 (aI hr hr') ?_;rw[he];refine LJ.mono ?_;rintro r ⟨b1,Z1,rfl,hE1,hs1⟩;have k1:=hE1.n;simp only[F6]at k1;have z1:Z1.A7 (Z.n+1+1)=some j9:=by rw[hE1.A7 (cL)];unfold j9;exact cL
 refine gS ?_;refine(MO (f:=Kd) (ps:=R7 x y) (fun τ a b ha hb=>vE ha hb) (fun a b z ha hb h=>(KG ha hb h).1) hs1 (by simp[R7]) (by simp[R7]) (JO hx hy)).mono ?_;rintro r ⟨Z2,rfl,hE2⟩;have k2:=hE2.n;have z2:=eT (hE2.A7 om) z1;unfold j9 at z2;cases Bu Kd (R7 x y)with
 | error k=>
   unfold Ad j9;refine gS1 (aI z2 @Tryz.results87) ?_;exact⟨_,rfl,(Ext.trans (eX) (hE1.trans hE2)).upd om _⟩
 | ok z=>
   unfold Ad O8;refine gS1 (aI z2 @Tryz.results87) ?_;exact⟨_,rfl,(Ext.trans (eX) (hE1.trans hE2)).upd om _⟩
def mi {x y:QQ}(hx:EY x) (hy:EY y) (hc:c<Z.n) (hr:Z.A7 c=some [.func (.func 79) ⟨[]⟩ ⟨[]⟩]):Ev (gO 88 [.agg ⟨O8 x⟩,.agg ⟨O8 y⟩,Bf c] Z) (fun r=>∃ Z',r=⟨false,Ad (opI [47] x y),Z'⟩/\Ext Z Z') ⟨⟩:=by
 have he:opI [47] x y=if y.1.n<=0/\0<=y.2.n then .error 15 else Bu MP (R7 x y):=by unfold opI;rw[z0z (by decide),z0z (by decide),z0z (by decide),z1z rfl]
 have hr':=A9 hr;refine C9 Tryz.func88 rfl rfl ?_;unfold O8;rw[he];cases h1:decide (0<y.1.n)with
 | true=>
   have h1':¬ y.1.n<=0:=by have:=z6z h1;omega
   rw[z0z (fun h=>h1' h.1)];refine gS1 (aI hr (aI hr' h1)) ?_;refine LJ.mono ?_;rintro r ⟨b1,Z1,rfl,hE1,hs1⟩;have k1:=hE1.n;simp only[F6]at k1;have z1:Z1.A7 (Z.n+1+1)=some j9:=by rw[hE1.A7 (cL)];unfold j9;exact cL
   refine gS ?_;refine(MO (f:=MP) (ps:=R7 x y) (fun τ a b ha hb=>fH ha hb) (fun a b z ha hb h=>(Uy ha h).1) hs1 (by simp[R7]) (by simp[R7]) (JO hx hy)).mono ?_;rintro r ⟨Z2,rfl,hE2⟩;have k2:=hE2.n;have z2:=eT (hE2.A7 om) z1;unfold j9 at z2;cases Bu MP (R7 x y)with
   | error k=>
     unfold Ad j9;refine gS1 (aI z2 @Tryz.results88) ?_;exact⟨_,rfl,(Ext.trans (eX) (hE1.trans hE2)).upd om _⟩
   | ok z=>
     unfold Ad O8;refine gS1 (aI z2 @Tryz.results88) ?_;exact⟨_,rfl,(Ext.trans (eX) (hE1.trans hE2)).upd om _⟩
 | false=>
   have h1':y.1.n<=0:=by have:=z9z h1;omega
   cases h2:decide (y.2.n<0)with
   | false=>
     rw[z1z ⟨h1',by have:=z9z h2;omega⟩];unfold Ad j9;refine gS1 (aI hr (aI hr' (aI h1 (aI h2 @Tryz.results88)))) ?_;exact⟨_,rfl,eX⟩
   | true=>
     rw[z0z (fun h=>by have:=z6z h2;have:=h.2;omega)];refine gS1 (aI hr (aI hr' (aI h1 h2))) ?_;refine LJ.mono ?_;rintro r ⟨b1,Z1,rfl,hE1,hs1⟩;have k1:=hE1.n;simp only[F6]at k1;have z1:Z1.A7 (Z.n+1+1)=some j9:=by rw[hE1.A7 (cL)];unfold j9;exact cL
     refine gS ?_;refine(MO (f:=MP) (ps:=R7 x y) (fun τ a b ha hb=>fH ha hb) (fun a b z ha hb h=>(Uy ha h).1) hs1 (by simp[R7]) (by simp[R7]) (JO hx hy)).mono ?_;rintro r ⟨Z2,rfl,hE2⟩;have k2:=hE2.n;have z2:=eT (hE2.A7 om) z1;unfold j9 at z2;cases Bu MP (R7 x y)with
     | error k=>
       unfold Ad j9;refine gS1 (aI z2 @Tryz.results88) ?_;exact⟨_,rfl,(Ext.trans (eX) (hE1.trans hE2)).upd om _⟩
     | ok z=>
       unfold Ad O8;refine gS1 (aI z2 @Tryz.results88) ?_;exact⟨_,rfl,(Ext.trans (eX) (hE1.trans hE2)).upd om _⟩
def mj {x y:QQ}(hx:EY x) (hy:EY y) (hc:c<Z.n) (hr:Z.A7 c=some [.func (.func 80) ⟨[]⟩ ⟨[]⟩]):Ev (gO 89 [.agg ⟨O8 x⟩,.agg ⟨O8 y⟩,Bf c] Z) (fun r=>∃ Z',r=⟨false,Ad (.ok (Co x.1 [y.1],Co x.2 [y.2])),Z'⟩/\Ext Z Z') ⟨⟩:=by
 have hr':=A9 hr;refine C9 Tryz.func89 rfl rfl ?_;unfold O8;refine gS1 (aI hr hr') ?_;refine(TT (a:=x.1) (b:=y.1) hx.1 hy.1).mono ?_;rintro r ⟨Z1,rfl,hE1⟩;have k1:=hE1.n;simp only[F6]at k1;have z1:Z1.A7 (Z.n+1+1)=some [.int .i64 0,.int .i64 0,.int .i64 0,.int .i64 0]:=eT (hE1.A7 (cL)) cL;have a1:Z1.A7 Z.n=some [.int .i64 x.1.n,.int .i64 x.1.d,.int .i64 x.2.n,.int .i64 x.2.d]:=eT (hE1.A7 (cL)) cL;have b1:Z1.A7 (Z.n+1)=some [.int .i64 y.1.n,.int .i64 y.1.d,.int .i64 y.2.n,.int .i64 y.2.d]:=eT (hE1.A7 (cL)) cL;have c1:Z1.A7 c=some [.func (.func 80) ⟨[]⟩ ⟨[]⟩]:=eT (hE1.A7 (cL)) cL;have a1':=A9 a1;have b1':=A9 b1;have c1':=A9 c1;refine gS1 (aI a1 (aI b1 (aI c1 (aI a1' (aI b1' c1'))))) ?_;refine(TT (a:=x.2) (b:=y.2) hx.2 hy.2).mono ?_;rintro r ⟨Z2,rfl,hE2⟩;have k2:=hE2.n;have z2:=eT (hE2.A7 om) z1;unfold Ad O8 qv P7;refine gU1 (aI @D5 (aI @MQ (aI @MR (aI (asx hE1) (aI (asx hE2) z2))))) ?_;refine Ca.intro (by(repeat first|simp(disch:=omega) only[M9,G3,asx hE1,asx hE2]|rw[V8 (by kernel_rfl)]);rfl) ?_;refine gU1 (aI @D5 (aI @MQ (aI @MR (aI z2 @Tryz.results89)))) ?_;exact⟨_,rfl,(Ext.trans (eX) (hE1.trans hE2)).upd om _⟩
def mn {x y:QQ}(hx:EY x) (hy:EY y) (hc:c<Z.n) (hr:Z.A7 c=some [.func (.func 82) ⟨[]⟩ ⟨[]⟩]):Ev (gO 90 [.agg ⟨O8 x⟩,.agg ⟨O8 y⟩,Bf c] Z) (fun r=>∃ Z',r=⟨false,Ad (.ok (Cp x.1 [y.1],Cp x.2 [y.2])),Z'⟩/\Ext Z Z') ⟨⟩:=by
 have hr':=A9 hr;refine C9 Tryz.func90 rfl rfl ?_;unfold O8;refine gS1 (aI hr hr') ?_;refine(QJ (a:=x.1) (b:=y.1) hx.1 hy.1).mono ?_;rintro r ⟨Z1,rfl,hE1⟩;have k1:=hE1.n;simp only[F6]at k1;have z1:Z1.A7 (Z.n+1+1)=some [.int .i64 0,.int .i64 0,.int .i64 0,.int .i64 0]:=eT (hE1.A7 (cL)) cL;have a1:Z1.A7 Z.n=some [.int .i64 x.1.n,.int .i64 x.1.d,.int .i64 x.2.n,.int .i64 x.2.d]:=eT (hE1.A7 (cL)) cL;have b1:Z1.A7 (Z.n+1)=some [.int .i64 y.1.n,.int .i64 y.1.d,.int .i64 y.2.n,.int .i64 y.2.d]:=eT (hE1.A7 (cL)) cL;have c1:Z1.A7 c=some [.func (.func 82) ⟨[]⟩ ⟨[]⟩]:=eT (hE1.A7 (cL)) cL;have a1':=A9 a1;have b1':=A9 b1;have c1':=A9 c1;refine gS1 (aI a1 (aI b1 (aI c1 (aI a1' (aI b1' c1'))))) ?_;refine(QJ (a:=x.2) (b:=y.2) hx.2 hy.2).mono ?_;rintro r ⟨Z2,rfl,hE2⟩;have k2:=hE2.n;have z2:=eT (hE2.A7 om) z1;unfold Ad O8 qv P7;refine gU1 (aI @D5 (aI @MQ (aI @MR (aI (asx hE1) (aI (asx hE2) z2))))) ?_;refine Ca.intro (by(repeat first|simp(disch:=omega) only[M9,G3,asx hE1,asx hE2]|rw[V8 (by kernel_rfl)]);rfl) ?_;refine gU1 (aI @D5 (aI @MQ (aI @MR (aI z2 @Tryz.results90)))) ?_;exact⟨_,rfl,(Ext.trans (eX) (hE1.trans hE2)).upd om _⟩
end
def Fw:Iw Tryz.prog 85=some (9,92):=kR
def Nc:BJ Tryz.prog 92=some .nilFunc:=kR
abbrev fnV (g:Nat):Value:= .func (.func g) ⟨[]⟩ ⟨[]⟩
def o7 (c:Nat):List (By×Value):=[
 ([43],fnV 84),
 ([45],fnV 86),
 ([42],.func (.func 87) ⟨[]⟩ ⟨[Bf c]⟩),
 ([47],.func (.func 88) ⟨[]⟩ ⟨[Bf c]⟩),
 (R3,.func (.func 89) ⟨[]⟩ ⟨[Bf (c+1)]⟩),
 (R6,.func (.func 90) ⟨[]⟩ ⟨[Bf (c+1+1)]⟩)]
def VQ {Z:St}:Ev (gO 36 [] Z) (fun r=>∃ b c Z',r=⟨false,.map (some b),Z'⟩/\Ext Z Z'/\b<Z'.n/\c+2<Z'.n/\JX Z' b (o7 c)/\Z'.A7 c=some [fnV 79]/\Z'.A7 (c+1)=some [fnV 80]/\Z'.A7 (c+1+1)=some [fnV 82]) ⟨⟩:=by
 refine C9 Tryz.func36 rfl rfl ?_;refine gS1 (aI @AK1 @emk) ?_;refine GX (b:=_) (kv:=(o7 Z.n).take 0) (w:=((o7 Z.n).getD 0 ([],.nilIface)).1) (xv:=((o7 Z.n).getD 0 ([],.nilIface)).2) Fw PJ kR kR kR vS ?_;refine gS1 @emk ?_;refine GX (b:=_) (kv:=(o7 Z.n).take 1) (w:=((o7 Z.n).getD 1 ([],.nilIface)).1) (xv:=((o7 Z.n).getD 1 ([],.nilIface)).2) Fw PJ kR kR kR KI ?_;refine gS1 @emk ?_;refine GX (b:=_) (kv:=(o7 Z.n).take 2) (w:=((o7 Z.n).getD 2 ([],.nilIface)).1) (xv:=((o7 Z.n).getD 2 ([],.nilIface)).2) Fw PJ kR kR kR KI ?_;refine gS1 @emk ?_;refine GX (b:=_) (kv:=(o7 Z.n).take 3) (w:=((o7 Z.n).getD 3 ([],.nilIface)).1) (xv:=((o7 Z.n).getD 3 ([],.nilIface)).2) Fw PJ kR kR kR KI ?_;refine gS1 @emk ?_;refine GX (b:=_) (kv:=(o7 Z.n).take 4) (w:=((o7 Z.n).getD 4 ([],.nilIface)).1) (xv:=((o7 Z.n).getD 4 ([],.nilIface)).2) Fw PJ kR kR kR KI ?_;refine gS1 @emk ?_;refine GX (b:=_) (kv:=(o7 Z.n).take 5) (w:=((o7 Z.n).getD 5 ([],.nilIface)).1) (xv:=((o7 Z.n).getD 5 ([],.nilIface)).2) Fw PJ kR kR kR KI ?_;refine gS1 (aI @emk @Tryz.results36) ?_;obtain⟨S3,hS3⟩:=nm (((((((Z.new [.nilFunc] (some 131)).upd Z.n [fnV 79]).new [.nilFunc] (some 134)).upd (Z.n+1) [fnV 80]).new [.nilFunc] (some 134)).upd (Z.n+1+1) [fnV 82]));have E3:Ext Z S3:=by rw[<- hS3];exact eX
 have m3:S3.n=Z.n+1+1+1:=by rw[<- hS3];rfl
 have o0:S3.A7 Z.n=some [fnV 79]:=by rw[<- hS3];exact cL
 have o1:S3.A7 (Z.n+1)=some [fnV 80]:=by rw[<- hS3];exact cL
 have o2:S3.A7 (Z.n+1+1)=some [fnV 82]:=by rw[<- hS3];exact cL
 have le3:S3.n<=Z.n+1+1+1:=om;generalize hF:PK _ _ _=F;have hF':F=PK (PK (PK (PK (PK (PK (S3.Dd [] .map) (Z.n+1+1+1) (JY ((o7 Z.n).take 1))) (Z.n+1+1+1) (JY ((o7 Z.n).take 2))) (Z.n+1+1+1) (JY ((o7 Z.n).take 3))) (Z.n+1+1+1) (JY ((o7 Z.n).take 4))) (Z.n+1+1+1) (JY ((o7 Z.n).take 5))) (Z.n+1+1+1) (JY (o7 Z.n)):=by rw[<- hF,<- hS3];rfl
 have E4:Ext S3 F:=by rw[hF'];exact jO (jO (jO (jO (jO (jO ((Ext.refl S3).Dd [] .map) le3) le3) le3) le3) le3) le3
 have m4:F.n=S3.n+1:=by rw[hF'];rfl
 exact⟨_,Z.n,_,rfl,E3.trans E4,om,om,by rw[hF'];exact KI,by rw[E4.A7 om];exact o0,by rw[E4.A7 om];exact o1,by rw[E4.A7 om];exact o2⟩
def Um (Z:St) (b c:Nat):Prop:=b<Z.n/\c+2<Z.n/\JX Z b (o7 c)/\Z.A7 c=some [fnV 79]/\Z.A7 (c+1)=some [fnV 80]/\Z.A7 (c+1+1)=some [fnV 82]
def Um.ext {Z Z':St}{b c:Nat}(h:Um Z b c) (hE:Ext Z Z'):Um Z' b c:=by
 obtain⟨h1,h2,h3,h4,h5,h6⟩:=h;have hn:=hE.n;exact⟨om,om,h3.ext h1 hE,by rw[hE.A7 om];exact h4,by rw[hE.A7 om];exact h5,by rw[hE.A7 om];exact h6⟩
def OpB (op:By):Prop:=op=[43]\/op=[45]\/op=[42]\/op=[47]\/op=R3\/op=R6
def uD {Z:St}{op:By}{x y:QQ}{p b c:Nat}(hop:OpB op) (hx:EY x) (hy:EY y) (hp:p<Z.n) (hr:Z.A7 p=some [.map (some b)]) (hO:Um Z b c):Ev (gO 40 [str op,.agg ⟨O8 x⟩,.agg ⟨O8 y⟩,Bf p] Z) (fun r=>∃ Z',r=⟨false,Ad (opI op x y),Z'⟩/\Ext Z Z') ⟨⟩:=by
 have hr':=A9 hr;refine C9 Tryz.func40 rfl rfl ?_;unfold O8;refine gS1 (aI hr hr') ?_;have E1:Ext Z (((Z.new [.int .i64 x.1.n,.int .i64 x.1.d,.int .i64 x.2.n,.int .i64 x.2.d]).new [.int .i64 y.1.n,.int .i64 y.1.d,.int .i64 y.2.n,.int .i64 y.2.d]).new [.int .i64 0,.int .i64 0,.int .i64 0,.int .i64 0] (some 88)):=eX;obtain⟨S1,hS1⟩:=nm ((((Z.new [.int .i64 x.1.n,.int .i64 x.1.d,.int .i64 x.2.n,.int .i64 x.2.d]).new [.int .i64 y.1.n,.int .i64 y.1.d,.int .i64 y.2.n,.int .i64 y.2.d]).new [.int .i64 0,.int .i64 0,.int .i64 0,.int .i64 0] (some 88)));have m1:S1.n=Z.n+1+1+1:=by rw[<- hS1];rfl
 have a1:S1.A7 Z.n=some [.int .i64 x.1.n,.int .i64 x.1.d,.int .i64 x.2.n,.int .i64 x.2.d]:=by rw[<- hS1];exact cL
 have b1:S1.A7 (Z.n+1)=some [.int .i64 y.1.n,.int .i64 y.1.d,.int .i64 y.2.n,.int .i64 y.2.d]:=by rw[<- hS1];exact cL
 have z1:S1.A7 (Z.n+1+1)=some [.int .i64 0,.int .i64 0,.int .i64 0,.int .i64 0]:=by rw[<- hS1];exact cL
 rw[hS1]at E1 ⊢;have a1':=A9 a1;have b1':=A9 b1;have O1:=hO.ext E1;obtain⟨hb,hc,hM,f1,f2,f3⟩:=id O1;rcases hop with rfl|rfl|rfl|rfl|rfl|rfl
 ·have hl:(EV ([43]:By) (o7 c)).getD .nilFunc=fnV 84:=rfl;refine KZ (b:=b) (kv:=o7 c) (w:=[43]) Fw PJ Nc kR kR hM ?_;rw[hl];refine gS1 (aI a1' (aI b1' (aI a1 b1))) ?_;refine(sN hx hy).mono ?_;rintro r ⟨Z2,rfl,hE2⟩;have k2:=hE2.n;have z2:=eT (hE2.A7 om) z1;generalize opI [43] x y=R;cases R with
  | error k=>
    unfold Ad j9;refine gS1 (aI z2 @Tryz.results40) ?_;exact⟨_,rfl,(E1.trans hE2).upd om _⟩
  | ok z=>
    unfold Ad O8;refine gS1 (aI z2 @Tryz.results40) ?_;exact⟨_,rfl,(E1.trans hE2).upd om _⟩
 ·have hl:(EV ([45]:By) (o7 c)).getD .nilFunc=fnV 86:=rfl;refine KZ (b:=b) (kv:=o7 c) (w:=[45]) Fw PJ Nc kR kR hM ?_;rw[hl];refine gS1 (aI a1' (aI b1' (aI a1 b1))) ?_;refine(sO hx hy).mono ?_;rintro r ⟨Z2,rfl,hE2⟩;have k2:=hE2.n;have z2:=eT (hE2.A7 om) z1;generalize opI [45] x y=R;cases R with
  | error k=>
    unfold Ad j9;refine gS1 (aI z2 @Tryz.results40) ?_;exact⟨_,rfl,(E1.trans hE2).upd om _⟩
  | ok z=>
    unfold Ad O8;refine gS1 (aI z2 @Tryz.results40) ?_;exact⟨_,rfl,(E1.trans hE2).upd om _⟩
 ·have hl:(EV ([42]:By) (o7 c)).getD .nilFunc= .func (.func 87) ⟨[]⟩ ⟨[Bf c]⟩:=rfl;refine KZ (b:=b) (kv:=o7 c) (w:=[42]) Fw PJ Nc kR kR hM ?_;rw[hl];refine gS1 (aI a1' (aI b1' (aI a1 b1))) ?_;refine(mh hx hy om f1).mono ?_;rintro r ⟨Z2,rfl,hE2⟩;have k2:=hE2.n;have z2:=eT (hE2.A7 om) z1;generalize opI [42] x y=R;cases R with
  | error k=>
    unfold Ad j9;refine gS1 (aI z2 @Tryz.results40) ?_;exact⟨_,rfl,(E1.trans hE2).upd om _⟩
  | ok z=>
    unfold Ad O8;refine gS1 (aI z2 @Tryz.results40) ?_;exact⟨_,rfl,(E1.trans hE2).upd om _⟩
 ·have hl:(EV ([47]:By) (o7 c)).getD .nilFunc= .func (.func 88) ⟨[]⟩ ⟨[Bf c]⟩:=rfl;refine KZ (b:=b) (kv:=o7 c) (w:=[47]) Fw PJ Nc kR kR hM ?_;rw[hl];refine gS1 (aI a1' (aI b1' (aI a1 b1))) ?_;refine(mi hx hy om f1).mono ?_;rintro r ⟨Z2,rfl,hE2⟩;have k2:=hE2.n;have z2:=eT (hE2.A7 om) z1;generalize opI [47] x y=R;cases R with
  | error k=>
    unfold Ad j9;refine gS1 (aI z2 @Tryz.results40) ?_;exact⟨_,rfl,(E1.trans hE2).upd om _⟩
  | ok z=>
    unfold Ad O8;refine gS1 (aI z2 @Tryz.results40) ?_;exact⟨_,rfl,(E1.trans hE2).upd om _⟩
 ·have hl:(EV (R3:By) (o7 c)).getD .nilFunc= .func (.func 89) ⟨[]⟩ ⟨[Bf (c+1)]⟩:=rfl;refine KZ (b:=b) (kv:=o7 c) (w:=R3) Fw PJ Nc kR kR hM ?_;rw[hl];refine gS1 (aI a1' (aI b1' (aI a1 b1))) ?_;refine(mj hx hy om f2).mono ?_;rintro r ⟨Z2,rfl,hE2⟩;have k2:=hE2.n;have z2:=eT (hE2.A7 om) z1;have he:opI R3 x y= .ok (Co x.1 [y.1],Co x.2 [y.2]):=rfl;rw[he];generalize (Except.ok (Co x.1 [y.1],Co x.2 [y.2]):Except Int QQ)=R;cases R with
  | error k=>
    unfold Ad j9;refine gS1 (aI z2 @Tryz.results40) ?_;exact⟨_,rfl,(E1.trans hE2).upd om _⟩
  | ok z=>
    unfold Ad O8;refine gS1 (aI z2 @Tryz.results40) ?_;exact⟨_,rfl,(E1.trans hE2).upd om _⟩
 ·have hl:(EV (R6:By) (o7 c)).getD .nilFunc= .func (.func 90) ⟨[]⟩ ⟨[Bf (c+1+1)]⟩:=rfl;refine KZ (b:=b) (kv:=o7 c) (w:=R6) Fw PJ Nc kR kR hM ?_;rw[hl];refine gS1 (aI a1' (aI b1' (aI a1 b1))) ?_;refine(mn hx hy om f3).mono ?_;rintro r ⟨Z2,rfl,hE2⟩;have k2:=hE2.n;have z2:=eT (hE2.A7 om) z1;have he:opI R6 x y= .ok (Cp x.1 [y.1],Cp x.2 [y.2]):=rfl;rw[he];generalize (Except.ok (Cp x.1 [y.1],Cp x.2 [y.2]):Except Int QQ)=R;cases R with
  | error k=>
    unfold Ad j9;refine gS1 (aI z2 @Tryz.results40) ?_;exact⟨_,rfl,(E1.trans hE2).upd om _⟩
  | ok z=>
    unfold Ad O8;refine gS1 (aI z2 @Tryz.results40) ?_;exact⟨_,rfl,(E1.trans hE2).upd om _⟩
end Go.Proofs.T
namespace Go.Proofs.T
open Go Go.Ab
section
variable {b c m:Nat}
def GS4 (lo:Nat) (Z:St) (v:Value) (B9:List (List Value)):Prop:=(∀ r∈B9,r.length=4)/\((v= .slice none 0 0/\B9=[]) \/
 ∃ b c cells,v= .slice (some ⟨b,0,some 4⟩) B9.length c/\B9.length<=c/\lo<=b/\b<Z.n/\Z.A7 b=some cells/\cells.length=c*4/\∀ k r,B9[k]? =some r->sub cells (k*4) 4=some r)
section
variable {lo:Nat}{Z Z':St}{v:Value}{B9:List (List Value)}{k:Nat}
def GS4.nil:GS4 lo Z (.slice none 0 0) []:=⟨fun r h=>by simp at h,.inl ⟨rfl,rfl⟩⟩
def GS4.H4 (h:GS4 lo Z v B9) (hn:Z.n<=Z'.n) (hk:∀ b,N0 v=some b->Z'.h.get b=Z.h.get b):GS4 lo Z' v B9:=by
 obtain⟨hr,⟨rfl,rfl⟩|⟨b,c,cells,rfl,h2,h3,h4,h5,h6,h7⟩⟩:=h
 ·exact .nil
 ·exact⟨hr,.inr ⟨b,c,cells,rfl,h2,h3,om,by rw[D6 (hk b rfl)];exact h5,h6,h7⟩⟩
def GS4.blk (h:GS4 lo Z v B9) (hb:N0 v=some b):lo<=b/\b<Z.n:=by
 obtain⟨hr,⟨rfl,rfl⟩|⟨b',c,cells,rfl,h2,h3,h4,-⟩⟩:=h
 ·cases hb
 ·cases hb;exact⟨h3,h4⟩
def GS4.ext (h:GS4 lo Z v B9) (hE:Ext Z Z'):GS4 lo Z' v B9:=h.H4 hE.n fun b hb=>hE.same b (h.blk hb).2
def GS4.shape (h:GS4 lo Z v B9):∃ a c,v= .slice a B9.length c/\B9.length<=c:=by
 obtain⟨hr,⟨rfl,rfl⟩|⟨b',c,cells,rfl,h2,-⟩⟩:=h
 ·exact⟨_,_,rfl,BF _⟩
 ·exact⟨_,_,rfl,h2⟩
def GS4.use (h:GS4 lo Z v B9) (hl:0<B9.length):∃ b c cells,v= .slice (some ⟨b,0,some 4⟩) B9.length c/\B9.length<=c/\lo<=b/\b<Z.n/\Z.A7 b=some cells/\∀ k r,B9[k]? =some r->sub cells (k*4) 4=some r:=by
 obtain⟨hr,⟨rfl,rfl⟩|⟨b',c,cells,rfl,h2,h3,h4,h5,h6,h7⟩⟩:=h
 ·simp at hl
 ·exact⟨b',c,cells,rfl,h2,h3,h4,h5,h7⟩
def GS4.cut (h:GS4 lo Z (.slice (some ⟨b,0,some 4⟩) B9.length c) B9) (hm:m<=B9.length):GS4 lo Z (.slice (some ⟨b,0,some 4⟩) m c) (B9.take m):=by
 obtain⟨hr,⟨h,-⟩|⟨b',c',cells,h1,h2,h3,h4,h5,h6,h7⟩⟩:=h
 ·cases h
 ·cases h1;have hl:(B9.take m).length=m:=by rw[IK];omega
  refine⟨fun r hr'=>hr r (PF hr'),.inr ⟨b,c,cells,by rw[hl],om,h3,h4,h5,h6,fun k r hk=>h7 k r ?_⟩⟩;rw[List.getElem?_take]at hk;split at hk
  ·exact hk
  ·cases hk
end
def Zq {P:Program}{te:TypeId}{Z:St}{t by' lo:Nat}{v:Value}{row cells:List Value}{B9:List (List Value)}{c o cc:Nat}{sp:Option Nat}{Q:Value×St->Prop}{uq:Hd Q}
  (hap:∀ (b:Option Addr) (len cap:Nat) (w:Value),FL P Z t (.slice b len cap) w=ob (Ao Z 4 w) fun p=>pr p fun n new=>bi (Nat.ble (len+n) cap) (DT Z 4 b len cap n new) (bb (Nat.ble ((len+n)*by') room) (Ch te Z 4 b len n new)))
  (hl:GS4 lo Z v B9) (hc:Z.row c=some cells) (hs:sub cells o 4=some row) (FT:row.length=4) (hb:(B9.length+1)*by'<=4294967296) (hlo:lo<=Z.n)
  (h:∀ v' Z',GS4 lo Z' v' (B9++[row])->Psh Z Z' v v'->Q (v',Z')):Ev (FL P Z t v (.slice (some ⟨c,o,sp⟩) 1 cc)) Q uq:=by
 have TN:Ao Z 4 (.slice (some ⟨c,o,sp⟩) 1 cc)=some (1,row):=by
  rw[KR,Cz,hc,D4,QA,hs,D4]
 have Cj:Nat.ble ((B9.length+1)*by') room=true:=Jk hb;obtain⟨hr,hl⟩:=hl;have hr':∀ r∈B9++[row],r.length=4:=fun r hm=>by
  rcases HX.1 hm with h|h
  ·exact hr r h
  ·simp only[Y5,FN,Em]at h;subst h;exact FT
 have hln:(B9++[row]).length=B9.length+1:=sI;rcases hl with⟨rfl,rfl⟩|⟨b,m,bs,rfl,h2,h3,h4,h5,h6,h7⟩
 ·have eK:Nat.ble ((0+1)*by') room=true:=Cj;rw[hap,TN,D4,Jv,Lm om,BR,eK,Ax,Vv,K6];refine h _ _ ⟨hr',.inr ⟨Z.n,1,row,rfl,BF _,hlo,by simp,O9 nL nL,om,fun k r hk=>?_⟩⟩ ⟨by simp,fun c hc _=>by rw[CX,z0z om],fun b hb=>by cases hb;exact .inr nL⟩;rcases k with _|k
  ·cases hk;exact C8 om om
  ·simp at hk
 ·have h8:=A9 h5;obtain⟨n,hn⟩:=nm B9.length;rw[hn]at h2 Cj hln ⊢;by_cases eL:n+1<=m
  ·have hb1:Nat.ble (n+1) m=true:=Jk eL;have hlen:n*4+row.length<=bs.length:=by rw[FT,h6];omega
   rw[hap,TN,D4,Jv,hb1,GN,Vx,Mz,h5,D4,HC,LU hlen,D4,D4,K6];refine h _ _ ⟨hr',.inr ⟨b,m,_,by rw[hln],om,h3,h4,R5,?_,fun k r hk=>?_⟩⟩ ⟨by simp,fun c hc hne=>by rw[W1,z0z (fun e=>hne (by rw[e];rfl))],fun b' hb=> .inl hb⟩
   ·simp;omega
   ·by_cases e1:k=n
    ·subst e1;rw[List.getElem?_append_right om,hn,Vb]at hk;cases hk;have htl:(bs.take (k*4)).length=k*4:=by rw[IK];omega
     rw[o9 (by simp;omega),PI,List.drop_append_of_le_length om,Xr om,Jb,List.take_append_of_le_length om,Ql om]
    ·have hkn:k<n:=by
      have:=(List.getElem?_eq_some_iff.1 hk).1;omega
     rw[List.getElem?_append_left om]at hk;have r1:=h7 k r hk;rw[<- r1,o9 (by simp;omega),o9 om];congr 1;have htl:(bs.take (n*4)).length=n*4:=by rw[IK];omega
     rw[PI,List.drop_append_of_le_length om,List.take_append_of_le_length (by rw[Ng];omega),rN,Tz];congr 1;omega
  ·obtain rfl:m=n:=om;have hold:sub bs 0 (m*4)=some bs:=C8 om om;rw[hap,TN,D4,Jv,Lm om,BR,Cj,Ax,Vw,Cz,h8,D4,hold,D4,Wd,h5,D4,D4,K6];refine h _ _ ⟨hr',.inr ⟨Z.n,m+1,bs++row,by rw[hln];simp,om,hlo,by simp,O9 (by simp) (by simp),by simp;omega,fun k r hk=>?_⟩⟩ ⟨by simp,fun c hc hne=>by rw[CX,z0z (by rw[OB];omega),Gm,z0z (fun h=>hne (by rw[h];rfl))],fun b hb=>by cases hb;exact .inr (by simp)⟩;by_cases e1:k=m
   ·subst e1;rw[List.getElem?_append_right om,hn,Vb]at hk;cases hk;rw[o9 (by simp;omega),List.drop_append_of_le_length om,Xr om,Jb,Ql om]
   ·have hkn:k<m:=by
     have:=(List.getElem?_eq_some_iff.1 hk).1;omega
    rw[List.getElem?_append_left om]at hk;have r1:=h7 k r hk;rw[<- r1,o9 (by simp;omega),o9 om,List.drop_append_of_le_length om,List.take_append_of_le_length (by rw[Ng];omega)]
def GS2 (lo:Nat) (Z:St) (v:Value) (B9:List (List Value)):Prop:=(∀ r∈B9,r.length=2)/\((v= .slice none 0 0/\B9=[]) \/
 ∃ b c cells,v= .slice (some ⟨b,0,some 2⟩) B9.length c/\B9.length<=c/\lo<=b/\b<Z.n/\Z.A7 b=some cells/\cells.length=c*2/\∀ k r,B9[k]? =some r->sub cells (k*2) 2=some r)
section
variable {lo:Nat}{Z Z':St}{v:Value}{B9:List (List Value)}{k:Nat}
def GS2.nil:GS2 lo Z (.slice none 0 0) []:=⟨fun r h=>by simp at h,.inl ⟨rfl,rfl⟩⟩
def GS2.H4 (h:GS2 lo Z v B9) (hn:Z.n<=Z'.n) (hk:∀ b,N0 v=some b->Z'.h.get b=Z.h.get b):GS2 lo Z' v B9:=by
 obtain⟨hr,⟨rfl,rfl⟩|⟨b,c,cells,rfl,h2,h3,h4,h5,h6,h7⟩⟩:=h
 ·exact .nil
 ·exact⟨hr,.inr ⟨b,c,cells,rfl,h2,h3,om,by rw[D6 (hk b rfl)];exact h5,h6,h7⟩⟩
def GS2.blk (h:GS2 lo Z v B9) (hb:N0 v=some b):lo<=b/\b<Z.n:=by
 obtain⟨hr,⟨rfl,rfl⟩|⟨b',c,cells,rfl,h2,h3,h4,-⟩⟩:=h
 ·cases hb
 ·cases hb;exact⟨h3,h4⟩
def GS2.ext (h:GS2 lo Z v B9) (hE:Ext Z Z'):GS2 lo Z' v B9:=h.H4 hE.n fun b hb=>hE.same b (h.blk hb).2
def GS2.shape (h:GS2 lo Z v B9):∃ a c,v= .slice a B9.length c/\B9.length<=c:=by
 obtain⟨hr,⟨rfl,rfl⟩|⟨b',c,cells,rfl,h2,-⟩⟩:=h
 ·exact⟨_,_,rfl,BF _⟩
 ·exact⟨_,_,rfl,h2⟩
def GS2.use (h:GS2 lo Z v B9) (hl:0<B9.length):∃ b c cells,v= .slice (some ⟨b,0,some 2⟩) B9.length c/\B9.length<=c/\lo<=b/\b<Z.n/\Z.A7 b=some cells/\∀ k r,B9[k]? =some r->sub cells (k*2) 2=some r:=by
 obtain⟨hr,⟨rfl,rfl⟩|⟨b',c,cells,rfl,h2,h3,h4,h5,h6,h7⟩⟩:=h
 ·simp at hl
 ·exact⟨b',c,cells,rfl,h2,h3,h4,h5,h7⟩
def GS2.cut (h:GS2 lo Z (.slice (some ⟨b,0,some 2⟩) B9.length c) B9) (hm:m<=B9.length):GS2 lo Z (.slice (some ⟨b,0,some 2⟩) m c) (B9.take m):=by
 obtain⟨hr,⟨h,-⟩|⟨b',c',cells,h1,h2,h3,h4,h5,h6,h7⟩⟩:=h
 ·cases h
 ·cases h1;have hl:(B9.take m).length=m:=by rw[IK];omega
  refine⟨fun r hr'=>hr r (PF hr'),.inr ⟨b,c,cells,by rw[hl],om,h3,h4,h5,h6,fun k r hk=>h7 k r ?_⟩⟩;rw[List.getElem?_take]at hk;split at hk
  ·exact hk
  ·cases hk
end
def Zr {P:Program}{te:TypeId}{Z:St}{t by' lo:Nat}{v:Value}{row cells:List Value}{B9:List (List Value)}{c o cc:Nat}{sp:Option Nat}{Q:Value×St->Prop}{uq:Hd Q}
  (hap:∀ (b:Option Addr) (len cap:Nat) (w:Value),FL P Z t (.slice b len cap) w=ob (Ao Z 2 w) fun p=>pr p fun n new=>bi (Nat.ble (len+n) cap) (DT Z 2 b len cap n new) (bb (Nat.ble ((len+n)*by') room) (Ch te Z 2 b len n new)))
  (hl:GS2 lo Z v B9) (hc:Z.row c=some cells) (hs:sub cells o 2=some row) (FT:row.length=2) (hb:(B9.length+1)*by'<=4294967296) (hlo:lo<=Z.n)
  (h:∀ v' Z',GS2 lo Z' v' (B9++[row])->Psh Z Z' v v'->Q (v',Z')):Ev (FL P Z t v (.slice (some ⟨c,o,sp⟩) 1 cc)) Q uq:=by
 have TN:Ao Z 2 (.slice (some ⟨c,o,sp⟩) 1 cc)=some (1,row):=by
  rw[KR,Cz,hc,D4,QA,hs,D4]
 have Cj:Nat.ble ((B9.length+1)*by') room=true:=Jk hb;obtain⟨hr,hl⟩:=hl;have hr':∀ r∈B9++[row],r.length=2:=fun r hm=>by
  rcases HX.1 hm with h|h
  ·exact hr r h
  ·simp only[Y5,FN,Em]at h;subst h;exact FT
 have hln:(B9++[row]).length=B9.length+1:=sI;rcases hl with⟨rfl,rfl⟩|⟨b,m,bs,rfl,h2,h3,h4,h5,h6,h7⟩
 ·have eK:Nat.ble ((0+1)*by') room=true:=Cj;rw[hap,TN,D4,Jv,Lm om,BR,eK,Ax,Vv,K6];refine h _ _ ⟨hr',.inr ⟨Z.n,1,row,rfl,BF _,hlo,by simp,O9 nL nL,om,fun k r hk=>?_⟩⟩ ⟨by simp,fun c hc _=>by rw[CX,z0z om],fun b hb=>by cases hb;exact .inr nL⟩;rcases k with _|k
  ·cases hk;exact C8 om om
  ·simp at hk
 ·have h8:=A9 h5;obtain⟨n,hn⟩:=nm B9.length;rw[hn]at h2 Cj hln ⊢;by_cases eL:n+1<=m
  ·have hb1:Nat.ble (n+1) m=true:=Jk eL;have hlen:n*2+row.length<=bs.length:=by rw[FT,h6];omega
   rw[hap,TN,D4,Jv,hb1,GN,Vx,Mz,h5,D4,HC,LU hlen,D4,D4,K6];refine h _ _ ⟨hr',.inr ⟨b,m,_,by rw[hln],om,h3,h4,R5,?_,fun k r hk=>?_⟩⟩ ⟨by simp,fun c hc hne=>by rw[W1,z0z (fun e=>hne (by rw[e];rfl))],fun b' hb=> .inl hb⟩
   ·simp;omega
   ·by_cases e1:k=n
    ·subst e1;rw[List.getElem?_append_right om,hn,Vb]at hk;cases hk;have htl:(bs.take (k*2)).length=k*2:=by rw[IK];omega
     rw[o9 (by simp;omega),PI,List.drop_append_of_le_length om,Xr om,Jb,List.take_append_of_le_length om,Ql om]
    ·have hkn:k<n:=by
      have:=(List.getElem?_eq_some_iff.1 hk).1;omega
     rw[List.getElem?_append_left om]at hk;have r1:=h7 k r hk;rw[<- r1,o9 (by simp;omega),o9 om];congr 1;have htl:(bs.take (n*2)).length=n*2:=by rw[IK];omega
     rw[PI,List.drop_append_of_le_length om,List.take_append_of_le_length (by rw[Ng];omega),rN,Tz];congr 1;omega
  ·obtain rfl:m=n:=om;have hold:sub bs 0 (m*2)=some bs:=C8 om om;rw[hap,TN,D4,Jv,Lm om,BR,Cj,Ax,Vw,Cz,h8,D4,hold,D4,Wd,h5,D4,D4,K6];refine h _ _ ⟨hr',.inr ⟨Z.n,m+1,bs++row,by rw[hln];simp,om,hlo,by simp,O9 (by simp) (by simp),by simp;omega,fun k r hk=>?_⟩⟩ ⟨by simp,fun c hc hne=>by rw[CX,z0z (by rw[OB];omega),Gm,z0z (fun h=>hne (by rw[h];rfl))],fun b hb=>by cases hb;exact .inr (by simp)⟩;by_cases e1:k=m
   ·subst e1;rw[List.getElem?_append_right om,hn,Vb]at hk;cases hk;rw[o9 (by simp;omega),List.drop_append_of_le_length om,Xr om,Jb,Ql om]
   ·have hkn:k<m:=by
     have:=(List.getElem?_eq_some_iff.1 hk).1;omega
    rw[List.getElem?_append_left om]at hk;have r1:=h7 k r hk;rw[<- r1,o9 (by simp;omega),o9 om,List.drop_append_of_le_length om,List.take_append_of_le_length (by rw[Ng];omega)]
end
end Go.Proofs.T
