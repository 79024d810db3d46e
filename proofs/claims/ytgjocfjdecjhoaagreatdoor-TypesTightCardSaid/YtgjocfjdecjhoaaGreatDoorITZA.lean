/- types: the bounds of a name. -/
import Derived.Test.YtgjocfjdecjhoaaGreatDoorIRAU
import Derived.Test.YtgjocfjdecjhoaaGreatDoorITYA
set_option linter.unusedSimpArgs false
set_option linter.unusedVariables false
set_option linter.defProp false
set_option maxHeartbeats 32000000
set_option maxRecDepth 100000
namespace Go.Proofs.T
open Go Go.Ab Go.N9
def lD {a:Type}{p:a->Bool}{l:List a}{k:Nat}{x:a}(h:(l.take k).find? p=none) (e:l[k]? =some x) (c:p x=true):l.find? p=some x:=by
 obtain⟨b,d⟩:=List.getElem?_eq_some_iff.1 e;rw[<- iB k l,List.find?_append,h,Oe b,d,List.find?_cons,c];rfl
def lE {a:Type}{p:a->Bool}{l:List a}{k:Nat}{x:a}(h:(l.take k).find? p=none) (c:l[k]? =some x) (b:p x=false):(l.take (k+1)).find? p=none:=by
 rw[Rv,c,List.find?_append,h];simp[b]
def dV {Z:St}{v:Value}{l:List CL}{g:Nat}{fs cs:List Value}{p:CL->Bool}(I:SL Z 5 v (l.map CL.row)) (L:l.length<=4294967296)
  (H:∀ (Z':St) (x:CL),Ext Z Z'->x∈l->Ev (go Tryz.prog HS (.fn g) (fs++[.agg ⟨x.row⟩]++cs) Z') (fun r=>∃ Z2,r=⟨false,.bool (p x),Z2⟩/\Ext Z' Z2) ⟨⟩) :
  Ev (gO 91 [v,.func (.func g) ⟨fs⟩ ⟨cs⟩] Z) (fun r=>(∃ Z',r=⟨false,.int .i64 (-1),Z'⟩/\Ext Z Z'/\l.find? p=none)\/∃ (k:Nat) (x:CL) (Z':St),r=⟨false,.int .i64 (k:Nat),Z'⟩/\Ext Z Z'/\l[k]? =some x/\l.find? p=some x) ⟨⟩:=by
 obtain⟨a,c,b,off,cells,rfl,F,z⟩:=I.use;rw[z2z]at *;refine C8 Tryz.func91 rfl rfl ?_;refine gS ?_
 refine Bt (fun j d Z'=>∃ k,j=l.length-k/\k<=l.length/\d.get 0=some (.slice a l.length c)/\d.get 1=some (.func (.func g) ⟨fs⟩ ⟨cs⟩)/\d.get 7=some (.int .i64 l.length)/\d.get 8=some (.int .i64 k)/\Ext Z Z'/\(l.take k).find? p=none)
  (fun r=>(∃ d Z',r=⟨.exit 0,d,Z'⟩/\Ext Z Z'/\l.find? p=none)\/(∃ d Z' k x,r=⟨.ret,d,Z'⟩/\Ext Z Z'/\d.get 4=some (.int .i64 (k:Nat))/\l[k]? =some x/\l.find? p=some x)) l.length ?_ ?_ ?_
 ·exact⟨0,rfl,om,fR,fR,fR,fR,.refl _,rfl⟩
 ·rintro j d Z' ⟨k,rfl,K,m,n,o,y,e,f⟩;by_cases B:k<l.length
  ·obtain⟨sp,rfl,G,J⟩:=F om;obtain⟨x,i⟩:∃ x,l[k]? =some x:=⟨_,List.getElem?_eq_getElem B⟩
   have C:=eT (e.row G) J;have z:=z k x.row (by rw[List.getElem?_map,i];rfl);have h:decide (k<l.length)=true:=by simpa using B
   have u:CL.row x=[str x.name,.int .i64 x.kind,.int .i64 x.low,.int .i64 x.high,.bool x.less]:=rfl;rw[u]at z;refine gS1 (aI m (aI n (aI o (aI y (aI @Rr (aI h (aI C z))))))) ?_;have s:=H Z' x e (Ag i);rw[u]at s;refine s.mono ?_;rintro r ⟨Z2,rfl,A⟩;have q:=e.trans A;cases D:p x with
   | true=>
     refine gS1 (aI m (aI n (aI o (aI y @qH)))) ?_;exact .inr ⟨_,_,k,x,rfl,q,fR,i,lD f i D⟩
   | false=>
     refine gS1 (aI m (aI n (aI o (aI y (aI @Rt @X8))))) ?_;exact⟨l.length-(k+1),om,k+1,rfl,om,fR1 m,fR1 n,fR1 o,fR,q,lE f i D⟩
  ·have h:decide (k<l.length)=false:=by simpa using B
   obtain rfl:k=l.length:=om;rw[Jf]at f;refine gS1 (aI m (aI n (aI o (aI y (aI @Rr (aI h @BT)))))) ?_;exact .inl ⟨_,_,rfl,e,f⟩
 ·rintro r (⟨d,Z',rfl,e,f⟩|⟨d,Z',k,x,rfl,e,E,i,f⟩)
  ·refine gS1 @Tryz.results91 ?_;exact .inl ⟨_,rfl,e,f⟩
  ·refine gS1 (aI @Tryz.results91 E) ?_;exact .inr ⟨k,x,_,rfl,e,i,f⟩
def bdV (o:Option (Int×Int)):Value:= .tuple ⟨[.int .i64 (o.getD (0,0)).1,.int .i64 (o.getD (0,0)).2,.bool o.isSome]⟩
def qJ {a:St}{x:CL}{nm:By}{p:Nat}(d:p<a.n) (c:a.row p=some [str nm]):Ev (gO 92 [.agg ⟨x.row⟩,.pointer (some ⟨p,0,none⟩)] a) (fun r=>∃ τ',r=⟨false,.bool (decide (x.name=nm)),τ'⟩/\Ext a τ') ⟨⟩:=by
 have b:CL.row x=[str x.name,.int .i64 x.kind,.int .i64 x.low,.int .i64 x.high,.bool x.less]:=rfl;rw[b];refine C8 Tryz.func92 rfl rfl ?_;refine gS1 (aI c @Tryz.results92) ?_;exact⟨_,rfl,eX⟩
def dX {Z:St}{ca:List Value}{T:Tn}{nm:By}(B:Jb Z ca T) (U:T.G7.length<=1000):Ev (gO 39 [.agg ⟨ca⟩,str nm] Z) (fun r=>∃ Z',r=⟨false,bdV (O5 T nm),Z'⟩/\Ext Z Z') ⟨⟩:=by
 obtain⟨vl,vc,vr,R,vt,vk,g,S,m,-⟩:=B.parts;have d:=g.all;have s:=g.p2;have u:=g.p4;have v:=g.p5;refine C8 Tryz.func39 rfl rfl ?_;have N:([112,114,105,99,101]:By)=J8:=rfl;have O:([108,111,119]:By)=Bp:=rfl;cases c1:decide (nm=[112,114,105,99,101])with
 | true=>
   have e:O5 T nm=some (T.low,T.high):=by unfold O5;rw[z1z (.inl (z6z c1))]
   rw[e];refine gS1 (aI d (aI u (aI v (aI c1 (a3N @D6 @D8 @Tryz.results39))))) ?_
   try refine dW ?_
   try(refine gS1 @Tryz.results39 ?_;try exact⟨⟩)
   exact⟨_,rfl,eX⟩
 |false=>
 cases f:decide (nm=[108,111,119])with
 | true=>
   have e:O5 T nm=some (T.low,T.high):=by unfold O5;rw[z1z (.inr (z6z f))]
   rw[e];refine gS1 (aI d (aI u (aI v (aI c1 (aI f (a3N @D6 @D8 @Tryz.results39)))))) ?_
   try refine dW ?_
   try(refine gS1 @Tryz.results39 ?_;try exact⟨⟩)
   exact⟨_,rfl,eX⟩
 |false=>
 have e:O5 T nm=(T.G7.find? fun c=>decide (c.name=nm)).map fun c=>(c.low,c.high):=by
  unfold O5;rw[z0z];rintro(h|h)
  ·exact z9z c1 h
  ·exact z9z f h
 rw[e];have i:Ext Z ((Z.new ca).new [str nm]):=eX;obtain⟨a,c,y,M,ccs,rfl,z,A⟩:=m.use;refine gS1 (aI d (aI s (aI c1 f))) ?_;refine(dV (p:=fun c=>decide (c.name=nm)) (fs:=[]) (cs:=[.pointer (some ⟨Z.n+1,0,none⟩)]) (SL.mono (show SL Z 5 (.slice a T.G7.length c) (T.G7.map CL.row)from m) i) om fun τ x o _=>qJ (by have:=o.n;simp at this;omega) (by rw[o.row (cL)];exact cL)).mono ?_;rintro r (⟨j,rfl,b,l⟩|⟨k,x,j,rfl,b,q,l⟩)
 ·have J:decide ((-1:Int)<0)=true:=rfl;refine gS1 (aI J @Tryz.results39) ?_;rw[l];exact⟨_,rfl,i.trans b⟩
 ·have C:=b.n;simp only[G3]at C;have K:j.row Z.n=some ca:=eT (b.row (cL)) cL;have V:k<T.G7.length:=(List.getElem?_eq_some_iff.1 q).1;obtain⟨sp,rfl,W,F⟩:=z om;have L:j.row y=some ccs:=by rw[b.row (by simp;omega),CY (by simp;omega),CY om];exact F
  obtain⟨G,X,Y,H,I,m5⟩:=A k x q;have E:decide ((k:Int)<0)=false:=dF;have D:Nat.blt k T.G7.length=true:=by rw[BW];omega
  refine gS1 (aI E (aI K (aI s (aI L (aI G (aI H (aI I (aI D @Tryz.results39)))))))) ?_
  try refine dW ?_
  try(refine gS1 @Tryz.results39 ?_;try exact⟨⟩)
  rw[l];exact⟨_,rfl,i.trans b⟩
end Go.Proofs.T
namespace Go.Proofs.T
open Go Go.Ab Go.N9
open Nat (reduceMul reduceEqDiff reduceAdd)
section
variable {Z:St}{v:Value}
def Vh {m x:Q}{l:List Q}:CG m (l++[x])=if AJ x (CG m l)<0 then x else CG m l:=by unfold CG;rw[aX];rfl
def Vi {m x:Q}{l:List Q}:CH m (l++[x])=if 0<AJ x (CH m l)then x else CH m l:=by unfold CH;rw[aX];rfl
def jc {q:Q}{l:List Q}(X:SL Z 2 v ((q::l).map P6)) (hl:l.length<=100) (H:∀ x∈q::l,x.Ok):
  Ev (gO 81 [v,.func (.func 16) ⟨[]⟩ ⟨[]⟩] Z) (fun r=>∃ Z',r=⟨false,qv (CG q l),Z'⟩/\Ext Z Z') ⟨⟩:=by
 obtain⟨a,c,b,off,cells,rfl,V,O⟩:=SL.Lo X;have G:(q::l).length=l.length+1:=rfl;obtain⟨sp,rfl,hb,hr⟩:=V (by simp);rw[G];have F:=O 0 q rfl;rw[GH,j7]at F;unfold P6 at F;have U:decide (((l.length+1:Nat):Int)<1)=false:=dF;have l0:Nat.blt 0 (l.length+1)=true:=by rw[BW];omega
 refine C8 Tryz.func81 rfl rfl ?_;refine gS1 (aI U (aI l0 (aI hr (aI F (aI @GH @j7))))) ?_
 refine Bt (fun j f e=>∃ k:Nat,j=l.length-k/\k<=l.length/\f.get 6=some (.int .i64 ((k+1:Nat):Int))/\f.get 0=some (.slice (some ⟨b,off,sp⟩) (l.length+1) c)/\f.get 1=some (.func (.func 16) ⟨[]⟩ ⟨[]⟩)/\f.get 4=some (.pointer (some ⟨Z.n,0,none⟩))/\f.get 5=some (.pointer (some ⟨Z.n+1,0,none⟩))/\Ext Z e/\Z.n+2<=e.n/\e.A7 Z.n=some [.int .i64 0,.int .i64 0]/\e.A7 (Z.n+1)=some (P6 (CG q (l.take k))))
  (fun r=>∃ f e,r=⟨.exit 0,f,e⟩/\f.get 4=some (.pointer (some ⟨Z.n,0,none⟩))/\f.get 5=some (.pointer (some ⟨Z.n+1,0,none⟩))/\Ext Z e/\Z.n+2<=e.n/\e.A7 Z.n=some [.int .i64 0,.int .i64 0]/\e.A7 (Z.n+1)=some (P6 (CG q l))) l.length ?_ ?_ ?_
 ·exact⟨0,rfl,om,fR,fR,fR,fR,fR,eX,by simp,cL,by unfold P6;exact cL⟩
 ·rintro j f e ⟨k,rfl,hk,z,m,o,g,h,A,R,E,s⟩;by_cases W:k<l.length
  ·have p:decide (((k+1:Nat):Int)<((l.length+1:Nat):Int))=true:=dT;obtain⟨x,I⟩:∃ x,l[k]? =some x:=⟨_,List.getElem?_eq_getElem W⟩
   have B:=eT (A.row hb) hr;have f1:=O (k+1) x I;unfold P6 at f1 s;have J:=A9 s;have C:Nat.blt (k+1) (l.length+1)=true:=by rw[BW];omega
   have L:x.Ok:=H x (De _ (Ag I));have K:(CG q (l.take k)).Ok:=NM (H q (HV ..)) fun y Y=>H y (De _ (RR Y));have N:((k+1:Nat):Int)+1=((k+1+1:Nat):Int):=om;have S:l.take (k+1)=l.take k++[x]:=by rw[Rv,I];rfl
   refine gS1 (aI z (aI m (aI o (aI g (aI h (aI p (aI B (aI @f1 (aI J C))))))))) ?_;refine(NW L K).mono ?_;rintro r ⟨Z2,rfl,d⟩;have k2:=d.n;have i:=eT (d.row om) B;have M:=eT (d.A7 om) E;have D:=eT (d.A7 om) s;cases u:decide (AJ x (CG q (l.take k))<0)with
   | true=>
     refine gS1 (aI z (aI m (aI o (aI g (aI h (aI u (aI i (aI @f1 (aI D (aI C (asx d))))))))))) ?_
     try refine dW1 (asx d) ?_
     try(refine gS1 (aI z (aI m (aI o (aI g (aI h (aI u (aI i (aI @f1 (aI D (aI C (aI N @X8))))))))))) ?_;try exact⟨⟩)
     exact⟨l.length-(k+1),om,k+1,rfl,om,fR,fR1 m,fR1 o,fR1 g,fR1 h,(A.trans d).upd om _,by first|omega|(simp;omega),by first|rfl|exact M|exact cL1 M,by rw[S,Vh,z1z (z6z u)];first|rfl|(unfold P6;exact cL)⟩
   | false=>
     refine gS1 (aI z (aI m (aI o (aI g (aI h (aI u (aI i (aI @f1 (aI D (aI C (asx d))))))))))) ?_
     try refine dW1 (asx d) ?_
     try(refine gS1 (aI z (aI m (aI o (aI g (aI h (aI u (aI i (aI @f1 (aI D (aI C (aI N @X8))))))))))) ?_;try exact⟨⟩)
     exact⟨l.length-(k+1),om,k+1,rfl,om,fR,fR1 m,fR1 o,fR1 g,fR1 h,A.trans d,om,by first|rfl|exact M,by rw[S,Vh,z0z (z9z u)];first|rfl|exact D⟩
  ·have p:decide (((k+1:Nat):Int)<((l.length+1:Nat):Int))=false:=dF;obtain rfl:k=l.length:=om;rw[Jf]at s;refine gS1 (aI z (aI m (aI p @BT))) ?_;exact⟨_,_,rfl,fR1 g,fR1 h,A,R,E,s⟩
 rintro r ⟨f,e,rfl,g,h,A,R,E,s⟩;unfold qv P6 at *;simp(maxSteps:=8000000) (disch:=first|exact dS|fail) only[↓bD,bW,reduceMul,reduceEqDiff,reduceAdd,Nat.reduceBEq,reduceIte,Option.isNone_none,g,h,E,A9 s,Tryz.results81];exact⟨_,rfl,A.upd om _⟩
def je {q:Q}{l:List Q}(X:SL Z 2 v ((q::l).map P6)) (hl:l.length<=100) (H:∀ x∈q::l,x.Ok):
  Ev (gO 83 [v,.func (.func 16) ⟨[]⟩ ⟨[]⟩] Z) (fun r=>∃ Z',r=⟨false,qv (CH q l),Z'⟩/\Ext Z Z') ⟨⟩:=by
 obtain⟨a,c,b,off,cells,rfl,V,O⟩:=SL.Lo X;have G:(q::l).length=l.length+1:=rfl;obtain⟨sp,rfl,hb,hr⟩:=V (by simp);rw[G];have F:=O 0 q rfl;rw[GH,j7]at F;unfold P6 at F;have U:decide (((l.length+1:Nat):Int)<1)=false:=dF;have l0:Nat.blt 0 (l.length+1)=true:=by rw[BW];omega
 refine C8 Tryz.func83 rfl rfl ?_;refine gS1 (aI U (aI l0 (aI hr (aI F (aI @GH @j7))))) ?_
 refine Bt (fun j f e=>∃ k:Nat,j=l.length-k/\k<=l.length/\f.get 6=some (.int .i64 ((k+1:Nat):Int))/\f.get 0=some (.slice (some ⟨b,off,sp⟩) (l.length+1) c)/\f.get 1=some (.func (.func 16) ⟨[]⟩ ⟨[]⟩)/\f.get 4=some (.pointer (some ⟨Z.n,0,none⟩))/\f.get 5=some (.pointer (some ⟨Z.n+1,0,none⟩))/\Ext Z e/\Z.n+2<=e.n/\e.A7 Z.n=some [.int .i64 0,.int .i64 0]/\e.A7 (Z.n+1)=some (P6 (CH q (l.take k))))
  (fun r=>∃ f e,r=⟨.exit 0,f,e⟩/\f.get 4=some (.pointer (some ⟨Z.n,0,none⟩))/\f.get 5=some (.pointer (some ⟨Z.n+1,0,none⟩))/\Ext Z e/\Z.n+2<=e.n/\e.A7 Z.n=some [.int .i64 0,.int .i64 0]/\e.A7 (Z.n+1)=some (P6 (CH q l))) l.length ?_ ?_ ?_
 ·exact⟨0,rfl,om,fR,fR,fR,fR,fR,eX,by simp,cL,by unfold P6;exact cL⟩
 ·rintro j f e ⟨k,rfl,hk,z,m,o,g,h,A,R,E,s⟩;by_cases W:k<l.length
  ·have p:decide (((k+1:Nat):Int)<((l.length+1:Nat):Int))=true:=dT;obtain⟨x,I⟩:∃ x,l[k]? =some x:=⟨_,List.getElem?_eq_getElem W⟩
   have B:=eT (A.row hb) hr;have f1:=O (k+1) x I;unfold P6 at f1 s;have J:=A9 s;have C:Nat.blt (k+1) (l.length+1)=true:=by rw[BW];omega
   have L:x.Ok:=H x (De _ (Ag I));have K:(CH q (l.take k)).Ok:=NO (H q (HV ..)) fun y Y=>H y (De _ (RR Y));have N:((k+1:Nat):Int)+1=((k+1+1:Nat):Int):=om;have S:l.take (k+1)=l.take k++[x]:=by rw[Rv,I];rfl
   refine gS1 (aI z (aI m (aI o (aI g (aI h (aI p (aI B (aI @f1 (aI J C))))))))) ?_;refine(NW L K).mono ?_;rintro r ⟨Z2,rfl,d⟩;have k2:=d.n;have i:=eT (d.row om) B;have M:=eT (d.A7 om) E;have D:=eT (d.A7 om) s;cases u:decide (0<AJ x (CH q (l.take k)))with
   | true=>
     refine gS1 (aI z (aI m (aI o (aI g (aI h (aI u (aI i (aI @f1 (aI D (aI C (asx d))))))))))) ?_
     try refine dW1 (asx d) ?_
     try(refine gS1 (aI z (aI m (aI o (aI g (aI h (aI u (aI i (aI @f1 (aI D (aI C (aI N @X8))))))))))) ?_;try exact⟨⟩)
     exact⟨l.length-(k+1),om,k+1,rfl,om,fR,fR1 m,fR1 o,fR1 g,fR1 h,(A.trans d).upd om _,by first|omega|(simp;omega),by first|rfl|exact M|exact cL1 M,by rw[S,Vi,z1z (z6z u)];first|rfl|(unfold P6;exact cL)⟩
   | false=>
     refine gS1 (aI z (aI m (aI o (aI g (aI h (aI u (aI i (aI @f1 (aI D (aI C (asx d))))))))))) ?_
     try refine dW1 (asx d) ?_
     try(refine gS1 (aI z (aI m (aI o (aI g (aI h (aI u (aI i (aI @f1 (aI D (aI C (aI N @X8))))))))))) ?_;try exact⟨⟩)
     exact⟨l.length-(k+1),om,k+1,rfl,om,fR,fR1 m,fR1 o,fR1 g,fR1 h,A.trans d,om,by first|rfl|exact M,by rw[S,Vi,z0z (z9z u)];first|rfl|exact D⟩
  ·have p:decide (((k+1:Nat):Int)<((l.length+1:Nat):Int))=false:=dF;obtain rfl:k=l.length:=om;rw[Jf]at s;refine gS1 (aI z (aI m (aI p @BT))) ?_;exact⟨_,_,rfl,fR1 g,fR1 h,A,R,E,s⟩
 rintro r ⟨f,e,rfl,g,h,A,R,E,s⟩;unfold qv P6 at *;simp(maxSteps:=8000000) (disch:=first|exact dS|fail) only[↓bD,bW,reduceMul,reduceEqDiff,reduceAdd,Nat.reduceBEq,reduceIte,Option.isNone_none,g,h,E,A9 s,Tryz.results83];exact⟨_,rfl,A.upd om _⟩
def R3 (x:QQ):List Value:=[.int .i64 x.1.n,.int .i64 x.1.d,.int .i64 x.2.n,.int .i64 x.2.d]
def AE5 {q:Q}{l:List Q}(f:SL Z 2 v ((q::l).map P6)) (h:l.length<=100) (i:∀ x∈q::l,x.Ok):
  Ev (gO 141 [v] Z) (fun r=>∃ Z',r=⟨false,.agg ⟨R3 (TY (q::l))⟩,Z'⟩/\Ext Z Z') ⟨⟩:=by
 obtain⟨a,c,b,off,cells,k,s,u⟩:=SL.Lo f;subst k;refine C8 Tryz.func141 rfl rfl ?_;refine gS ?_;refine(jc (SL.mono f (.new _ _)) h i).mono ?_;rintro r ⟨Z2,rfl,d⟩;have m:=d.n;simp only[G3]at m;have g:Ext Z Z2:=Ext.trans (.new _ _) d;have o:Z2.A7 Z.n=some [.int .i64 0,.int .i64 0,.int .i64 0,.int .i64 0]:=eT (d.A7 (cL)) cL;refine gS ?_;refine(je (SL.mono f g) h i).mono ?_;rintro r ⟨p,rfl,e⟩;have y:=e.n;have j:=eT (e.A7 om) o;unfold qv P6 R3 TY;refine gS1 (aI j (aI (asx d) (aI (asx e) (a3N @G9 @G6 @Tryz.results141)))) ?_
 try refine dW1 (aI (asx d) (asx e)) ?_
 try(refine gS1 (aI j @Tryz.results141) ?_;try exact⟨⟩)
 exact⟨_,rfl,(g.trans e).upd om _⟩
end
end Go.Proofs.T
namespace Go.Proofs.T
open Go Go.Ab Go.N9
def si0:(none:Option Q).isSome=false:=rfl
def si1 {x:Q}:(some x).isSome=true:=rfl
def gd0:(none:Option Q).getD DJ=DJ:=rfl
def gd1 {x:Q}:(some x).getD DJ=x:=rfl
def AE4 (p:Q×Q):List Value:=[.int .i64 p.1.n,.int .i64 p.1.d,.int .i64 p.2.n,.int .i64 p.2.d]
def AA:List Value:=[.int .i64 0,.int .i64 0,.int .i64 0,.int .i64 0]
def Aj (r:Except Int QQ):Value:=match r with
 | .ok x=> .tuple ⟨[.agg ⟨R3 x⟩,.int .i64 0]⟩
 | .error k=> .tuple ⟨[.agg ⟨AA⟩,.int .i64 k]⟩
def Vu {f:Q->Q->Option Q}:∀ {a b:List (Q×Q)},Y7 f (a++b)=(Y7 f a).bind fun xs=>(Y7 f b).bind fun ys=>some (xs++ys)
 | [],b=>by rw[MC,Y7];cases Y7 f b<;>rfl
 | p::a,b=>by
   rw[LN,Y7,Y7,Vu];cases f p.1 p.2 with
   |none=>rfl
   | some x=>
     cases Y7 f a with
     |none=>rfl
     |some xs=>cases Y7 f b<;>rfl
def oD {f:Q->Q->Option Q}{p:Q×Q}:Y7 f [p]=(f p.1 p.2).bind fun x=>some [x]:=by
 rw[Y7];cases f p.1 p.2 with
 |none=>rfl
 |some x=>rw[Y7];rfl
def gI {f:Q->Q->Option Q}{ps:List (Q×Q)}{p:Q×Q}(b:p∈ps) (h:f p.1 p.2=none):Y7 f ps=none:=by
 induction ps with
 |nil=>cases b
 | cons a l ih=>
   rw[Y7];rcases W1.1 b with rfl|b
   ·rw[h];rfl
   ·cases f a.1 a.2 with
    |none=>rfl
    |some x=>rw[ih b];rfl
def Mr {Z:St}{v:Value}{g:Nat}{f:Q->Q->Option Q}{ps:List (Q×Q)}
  (FN:∀ (τ:St) (a b:Q),a.Ok->b.Ok->Ev (go Tryz.prog HS (.fn g) [qv a,qv b] τ) (fun r=>∃ τ',r=⟨false,Ek (f a b),τ'⟩/\Ext τ τ') ⟨⟩) (hf:∀ a b x,a.Ok->b.Ok->f a b=some x->x.Ok)
  (hs:SL Z 4 v (ps.map AE4)) (h0:0<ps.length) (hl:ps.length<=4) (F:∀ p∈ps,p.1.Ok/\p.2.Ok) :
  Ev (gO 85 [.func (.func g) ⟨[]⟩ ⟨[]⟩,v] Z) (fun r=>∃ Z',r=⟨false,Aj (BI f ps),Z'⟩/\Ext Z Z') ⟨⟩:=by
 obtain⟨a,c,b,off,cells,rfl,h1,h2⟩:=SL.Lo hs;obtain⟨sp,rfl,N,hr⟩:=h1 h0;refine C8 Tryz.func85 rfl rfl ?_;refine gU1 (a15N @A6 @Av @W8 @Y8 @X9 @V7 @Y0 @V8 @V9 @W0 @L7 @I4 @J3 @I5 @I6) ?_
 refine G8 ps.length (fun k h τ=>h.get 13=some (.int .i64 k)/\h.get 12=some (.int .i64 ps.length)/\h.get 11=some (.slice (some ⟨b,off,sp⟩) ps.length c)/\h.get 0=some (.func (.func g) ⟨[]⟩ ⟨[]⟩)/\h.get 4=some (.pointer (some ⟨Z.n,0,none⟩))/\Ext Z τ/\Z.n<τ.n/\τ.A7 Z.n=some AA /\
   ∃ u xs,h.get 6=some u/\OL (Z.n+1) τ 2 u (xs.map P6)/\Y7 f (ps.take k)=some xs/\xs.length=k)
  (fun r=>∃ h τ,Ext Z τ/\Z.n<τ.n/\h.get 4=some (.pointer (some ⟨Z.n,0,none⟩))/\((r=⟨.ret,h,τ⟩/\τ.A7 Z.n=some AA/\h.get 5=some (.int .i64 3)/\Y7 f ps=none)\/(r=⟨.exit 0,h,τ⟩/\τ.A7 Z.n=some AA/\∃ u xs,h.get 6=some u/\OL (Z.n+1) τ 2 u (xs.map P6)/\Y7 f ps=some xs/\xs.length=ps.length))) ?_ ?_ ?_ ?_
 ·exact⟨fR,fR,fR,fR,fR,eX,by simp,by unfold AA;exact cL,_,[],fR,OL.nil,by rw[PZ,Y7],rfl⟩
 ·rintro k h τ hk ⟨l,i,j,G,m,s,O,q,u,xs,K,H,B,I⟩;have hc:=M4 hk;obtain⟨p,E⟩:=I1 hk;obtain⟨Aw9,Ax0⟩:=F p (Ag E);have W:=eT (s.row N) hr;have f1:=h2 k p E;have lk:Nat.blt k ps.length=true:=by rw[BW];omega
  unfold AE4 at f1;have ek:Y7 f (ps.take (k+1))=(f p.1 p.2).bind fun x=>some (xs++[x]):=by
   rw[Rv,E,Option.toList_some,Vu,B,oD];cases f p.1 p.2<;>rfl
  refine gU1 (aI @A6 (aI @Av (aI @W8 (aI @Y8 (aI @X9 (aI @V7 (aI @Y0 (aI @V8 (aI @V9 (aI @W0 (aI @L7 (aI @I4 (aI @J3 (aI @I5 (aI @I6 (aI l (aI i (aI j (aI G (aI hc (aI W (aI @f1 lk)))))))))))))))))))))) ?_;refine(FN _ p.1 p.2 Aw9 Ax0).mono ?_;rintro r ⟨Z2,rfl,e⟩;have k2:=e.n;simp only[G3,HH]at k2;have E2:Ext Z Z2:=s.trans (Ext.trans (eX) e);have J:Z2.A7 Z.n=some AA:=by rw[e.A7 (by simp;omega),K9 om,M9 om];exact q
  have S:OL (Z.n+1) Z2 2 u (xs.map P6):=OL.ext H (Ext.trans (eX) e);cases C:f p.1 p.2 with
  | none=>
    rw[Ek,gd0,si0];unfold qv P6 DJ;unfold AA at J;refine gU1 (aI @A6 (aI @Av (aI @W8 (aI @Y8 (aI @X9 (aI @V7 (aI @Y0 (aI @V8 (aI @V9 (aI @W0 (aI @L7 (aI @I4 (aI @J3 (aI @I5 (aI @I6 (aI l (aI i (aI j (aI G (aI m J)))))))))))))))))))) ?_;exact⟨_,_,(E2.trans (eX)).upd om _,by simp;omega,fR1 m,.inl ⟨rfl,by unfold AA;exact cL,fR,gI (Ag E) C⟩⟩
  | some x=>
    rw[C]at ek;have a1:=hf _ _ _ Aw9 Ax0 C;rw[Ek,gd1,si1];unfold qv P6;refine gU1 (aI @A6 (aI @Av (aI @W8 (aI @Y8 (aI @X9 (aI @V7 (aI @Y0 (aI @V8 (aI @V9 (aI @W0 (aI @L7 (aI @I4 (aI @J3 (aI @I5 (aI @I6 (aI l (aI i (aI j (aI G (aI m K)))))))))))))))))))) ?_;obtain⟨S3,o⟩:=nW ((((Z2.new [.int .i64 0,.int .i64 0] (some 29)).upd Z2.n [.int .i64 x.n,.int .i64 x.d]).new [.int .i64 x.n,.int .i64 x.d]));have L:Ext Z2 S3:=by rw[<- o];exact eX
    have n3:S3.n=Z2.n+2:=by rw[<- o];rfl
    have x3:S3.row (Z2.n+1)=some [.int .i64 x.n,.int .i64 x.d]:=by rw[<- o];exact cL
    rw[o];have D:OL (Z.n+1) S3 2 u (xs.map P6):=OL.ext S L;refine Y1 (row:=P6 x) (fun _ _ _ _=>J5) D x3 (C9 (by simp[P6]) (by simp)) (by rw[z2z];omega) om ?_;rintro v2 a0 U A -;have z3:a0.A7 Z.n=some AA:=by rw[F7 (A.same Z.n om fun N=>by have:=(D.blk N).1;omega),L.A7 om];exact J
    refine gU1 (aI @A6 (aI @Av (aI @W8 (aI @Y8 (aI @X9 (aI @V7 (aI @Y0 (aI @V8 (aI @V9 (aI @W0 (aI @L7 (aI @I4 (aI @J3 (aI @I5 (aI @I6 (aI l (aI i (aI j (aI G m))))))))))))))))))) ?_;exact⟨fR,fR1 i,fR1 j,fR1 G,fR1 m,A.ext (E2.trans L) D om,by have:=A.n;omega,z3,v2,xs++[x],fR,by rw[HI];exact U,ek,by rw[CU,I];rfl⟩
 ·rintro h τ ⟨l,i,j,G,m,s,O,q,u,xs,K,H,B,I⟩;rw[Jf]at B;refine gU1 (aI @A6 (aI @Av (aI @W8 (aI @Y8 (aI @X9 (aI @V7 (aI @Y0 (aI @V8 (aI @V9 (aI @W0 (aI @L7 (aI @I4 (aI @J3 (aI @I5 (aI @I6 (aI l (aI i @Kt))))))))))))))))) ?_;exact⟨_,_,s,O,fR1 m,.inr ⟨rfl,q,u,xs,fR1 K,H,B,I⟩⟩
 rintro r ⟨h,τ,s,O,m,⟨rfl,q,g5,R⟩|⟨rfl,q,u,xs,K,H,B,I⟩⟩
 ·have M:BI f ps= .error 3:=by unfold BI;rw[R]
  rw[M];unfold AA at q;have Y:=A9 q;refine gS1 (aI m (aI g5 (aI Y @Tryz.results85))) ?_;exact⟨_,rfl,s⟩
 ·have M:BI f ps= .ok (TY xs):=by unfold BI;rw[B]
  rw[M];obtain⟨y,ys,rfl⟩:∃ y ys,xs=y::ys:=by
   cases xs with
   |nil=>simp at I;omega
   |cons y ys=>exact⟨y,ys,rfl⟩
  have V:∀ z∈y::ys,z.Ok:=PJ (P:=Q.Ok) (fun p E z hz=>hf _ _ _ (F p E).1 (F p E).2 hz) B;have X:=OL.sl H;obtain⟨ua,rfl⟩:=OL.shape H;refine gU1 (aI @A6 (aI @Av (aI @W8 (aI @Y8 (aI @X9 (aI @V7 (aI @Y0 (aI @V8 (aI @V9 (aI @W0 (aI @L7 (aI @I4 (aI @J3 (aI @I5 (aI @I6 (aI m K)))))))))))))))) ?_;refine(AE5 X (by simp at I;omega) V).mono ?_;rintro r ⟨Z2,rfl,e⟩;have k2:=e.n;have J:=eT (e.A7 om) q;unfold AA at J;unfold R3;refine gS1 (aI m (aI J @Tryz.results85)) ?_;exact⟨_,rfl,(s.trans e).upd om _⟩
section
variable {a0 a1 a2 a3 z0 z1 a4 a5 a6 a7 z2 z3 a8 a9 a10 a11 a12 a13 a14 a15:Value}{Z:St}
def Ms:N8 [a0,a1,a2,a3] 0 [z0,z1]=some [z0,z1,a2,a3]:=rfl
def Mt:N8 [a0,a1,a2,a3] 2 [z0,z1]=some [a0,a1,z0,z1]:=rfl
def AP6:N8 [a0,a1,a2,a3,a4,a5,a6,a7] 0 [z0,z1,z2,z3]=some [z0,z1,z2,z3,a4,a5,a6,a7]:=rfl
def AP7:N8 [a0,a1,a2,a3,a4,a5,a6,a7] 4 [z0,z1,z2,z3]=some [a0,a1,a2,a3,z0,z1,z2,z3]:=rfl
def Ac1:N8 [a0,a1,a2,a3,a4,a5,a6,a7,a8,a9,a10,a11,a12,a13,a14,a15] 0 [z0,z1,z2,z3]=some [z0,z1,z2,z3,a4,a5,a6,a7,a8,a9,a10,a11,a12,a13,a14,a15]:=rfl
def Ac2:N8 [a0,a1,a2,a3,a4,a5,a6,a7,a8,a9,a10,a11,a12,a13,a14,a15] 4 [z0,z1,z2,z3]=some [a0,a1,a2,a3,z0,z1,z2,z3,a8,a9,a10,a11,a12,a13,a14,a15]:=rfl
def Ac3:N8 [a0,a1,a2,a3,a4,a5,a6,a7,a8,a9,a10,a11,a12,a13,a14,a15] 8 [z0,z1,z2,z3]=some [a0,a1,a2,a3,a4,a5,a6,a7,z0,z1,z2,z3,a12,a13,a14,a15]:=rfl
def AE3:N8 [a0,a1,a2,a3,a4,a5,a6,a7,a8,a9,a10,a11,a12,a13,a14,a15] 12 [z0,z1,z2,z3]=some [a0,a1,a2,a3,a4,a5,a6,a7,a8,a9,a10,a11,z0,z1,z2,z3]:=rfl
def Ns {b size c:Nat}{sp:Option Nat}{a:List (List Value)}{cells:List Value}{n:Nat}(e:∀ r∈a,r.length=size) (f:b<Z.n) (g:Z.row b=some cells) (h:cells=a.flatten) (i:n=a.length):SL Z size (.slice (some ⟨b,0,sp⟩) n c) a:=by
 subst h;subst i;refine .inr ⟨b,0,sp,c,_,rfl,f,g,fun k r d=>?_⟩;have:=KH e d (o:=0) (n:=size) om;have j:r.length=size:=e r (Ag d);rw[j7]at this;rw[GK,this];exact C9 om om
def TX {ps:List (Q×Q)}:∀ r∈ps.map AE4,r.length=4:=fun r a=>by
 obtain⟨p,-,rfl⟩:=eE.1 a;rfl
def bJ {qs:List Q}:∀ r∈qs.map P6,r.length=2:=fun r a=>by
 obtain⟨p,-,rfl⟩:=eE.1 a;rfl
def Lv {x y:QQ}:Ev (gO 79 [.agg ⟨R3 x⟩,.agg ⟨R3 y⟩] Z) (fun r=>∃ b Z',r=⟨false,.slice (some ⟨b,0,none⟩) 4 4,Z'⟩/\Ext Z Z'/\SL Z' 4 (.slice (some ⟨b,0,none⟩) 4 4) ((N6 x y).map AE4)) ⟨⟩:=by
 refine C8 Tryz.func79 rfl rfl ?_;unfold R3;refine gU1 (a8N @D7 @Ms @Mt @Ac1 @Ac2 @Ac3 @AE3 @Tryz.results79) ?_;exact⟨_,_,rfl,eX,Ns TX (by simp) (cL) rfl rfl⟩
def Jr {x y:QQ}(a:Dr x) (b:Dr y):∀ p∈N6 x y,p.1.Ok/\p.2.Ok:=by
 intro p c;simp only[N6,W1,EP,EK]at c;rcases c with rfl|rfl|rfl|rfl
 ·exact⟨a.1,b.1⟩
 ·exact⟨a.1,b.2⟩
 ·exact⟨a.2,b.1⟩
 ·exact⟨a.2,b.2⟩
def Uj {a b:Q}(h:a.Ok) (i:b.Ok):Ev (gO 80 [qv a,qv b] Z) (fun r=>∃ Z',r=⟨false,qv (CG a [b]),Z'⟩/\Ext Z Z') ⟨⟩:=by
 refine C8 Tryz.func80 rfl rfl ?_;unfold qv P6;refine gS ?_;refine(jc (q:=a) (l:=[b]) (Ns (c:=2) (sp:=none) bJ (by simp) (cL) rfl rfl) (by simp) (by intro z e;simp only[W1,EP,EK]at e;rcases e with rfl|rfl<;>assumption)).mono ?_;rintro r ⟨f,rfl,d⟩;have g:=d.n;simp only[G3]at g;have z2:f.A7 (Z.n+1+1)=some [.int .i64 0,.int .i64 0]:=eT (d.A7 (cL)) cL;unfold qv P6;refine gS1 (aI z2 @Tryz.results80) ?_;exact⟨_,rfl,(Ext.trans (eX) d).upd om _⟩
def RY {a b:Q}(h:a.Ok) (i:b.Ok):Ev (gO 82 [qv a,qv b] Z) (fun r=>∃ Z',r=⟨false,qv (CH a [b]),Z'⟩/\Ext Z Z') ⟨⟩:=by
 refine C8 Tryz.func82 rfl rfl ?_;unfold qv P6;refine gS ?_;refine(je (q:=a) (l:=[b]) (Ns (c:=2) (sp:=none) bJ (by simp) (cL) rfl rfl) (by simp) (by intro z e;simp only[W1,EP,EK]at e;rcases e with rfl|rfl<;>assumption)).mono ?_;rintro r ⟨f,rfl,d⟩;have g:=d.n;simp only[G3]at g;have z2:f.A7 (Z.n+1+1)=some [.int .i64 0,.int .i64 0]:=eT (d.A7 (cL)) cL;unfold qv P6;refine gS1 (aI z2 @Tryz.results82) ?_;exact⟨_,rfl,(Ext.trans (eX) d).upd om _⟩
def uS {x y:QQ}(j:Dr x) (l:Dr y):Ev (gO 84 [.agg ⟨R3 x⟩,.agg ⟨R3 y⟩] Z) (fun r=>∃ Z',r=⟨false,Aj (opI [43] x y),Z'⟩/\Ext Z Z') ⟨⟩:=by
 have o:opI [43] x y=BI QI [(x.1,y.1),(x.2,y.2)]:=by unfold opI;rw[z1z rfl]
 refine C8 Tryz.func84 rfl rfl ?_;unfold R3;refine gU1 (a5N @D7 @Ms @Mt @AP6 @AP7) ?_;refine(Mr (f:=QI) (ps:=[(x.1,y.1),(x.2,y.2)]) (fun s a b e g=>iW e g) (fun a b z e g h=>(QX e g h).1) (Ns (c:=2) (sp:=none) TX (by simp) (cL) rfl rfl) (by simp) (by simp) (by intro p i;simp only[W1,EP,EK]at i;rcases i with rfl|rfl;exact⟨j.1,l.1⟩;exact⟨j.2,l.2⟩)).mono ?_;rintro r ⟨m,rfl,d⟩;have q:=d.n;simp only[G3]at q;have z2:m.A7 (Z.n+1+1)=some AA:=by rw[d.A7 (cL)];unfold AA;exact cL
 unfold AA at z2;rw[o];cases BI QI [(x.1,y.1),(x.2,y.2)]with
 | error k=>
   unfold Aj AA;refine gS1 (aI z2 @Tryz.results84) ?_;exact⟨_,rfl,(Ext.trans (eX) d).upd om _⟩
 | ok z=>
   unfold Aj R3;refine gS1 (aI z2 @Tryz.results84) ?_;exact⟨_,rfl,(Ext.trans (eX) d).upd om _⟩
def uT {x y:QQ}(j:Dr x) (l:Dr y):Ev (gO 86 [.agg ⟨R3 x⟩,.agg ⟨R3 y⟩] Z) (fun r=>∃ Z',r=⟨false,Aj (opI [45] x y),Z'⟩/\Ext Z Z') ⟨⟩:=by
 have o:opI [45] x y=BI Ry [(x.1,y.2),(x.2,y.1)]:=by unfold opI;rw[z0z (by decide),z1z rfl]
 refine C8 Tryz.func86 rfl rfl ?_;unfold R3;refine gU1 (a5N @D7 @Ms @Mt @AP6 @AP7) ?_;refine(Mr (f:=Ry) (ps:=[(x.1,y.2),(x.2,y.1)]) (fun s a b e g=>iX e g) (fun a b z e g h=>(QY e g h).1) (Ns (c:=2) (sp:=none) TX (by simp) (cL) rfl rfl) (by simp) (by simp) (by intro p i;simp only[W1,EP,EK]at i;rcases i with rfl|rfl;exact⟨j.1,l.2⟩;exact⟨j.2,l.1⟩)).mono ?_;rintro r ⟨m,rfl,d⟩;have q:=d.n;simp only[G3]at q;have z2:m.A7 (Z.n+1+1)=some AA:=by rw[d.A7 (cL)];unfold AA;exact cL
 unfold AA at z2;rw[o];cases BI Ry [(x.1,y.2),(x.2,y.1)]with
 | error k=>
   unfold Aj AA;refine gS1 (aI z2 @Tryz.results86) ?_;exact⟨_,rfl,(Ext.trans (eX) d).upd om _⟩
 | ok z=>
   unfold Aj R3;refine gS1 (aI z2 @Tryz.results86) ?_;exact⟨_,rfl,(Ext.trans (eX) d).upd om _⟩
end
section
variable {Z:St}{c:Nat}
abbrev DB (c:Nat):Value:= .pointer (some ⟨c,0,none⟩)
def pH {x y:QQ}(s:Dr x) (u:Dr y) (D:c<Z.n) (o:Z.A7 c=some [.func (.func 79) ⟨[]⟩ ⟨[]⟩]):Ev (gO 87 [.agg ⟨R3 x⟩,.agg ⟨R3 y⟩,DB c] Z) (fun r=>∃ Z',r=⟨false,Aj (opI [42] x y),Z'⟩/\Ext Z Z') ⟨⟩:=by
 have q:opI [42] x y=BI UC (N6 x y):=by unfold opI;rw[z0z (by decide),z0z (by decide),z1z rfl]
 have j:=A9 o;refine C8 Tryz.func87 rfl rfl ?_;unfold R3;refine gS1 (aI o j) ?_;rw[q];refine Lv.mono ?_;rintro r ⟨C,p,rfl,d,l⟩;have v:=d.n;simp only[G3]at v;have A:p.A7 (Z.n+1+1)=some AA:=by rw[d.A7 (cL)];unfold AA;exact cL
 refine gS ?_;refine(Mr (f:=UC) (ps:=N6 x y) (fun F a b g i=>gh g i) (fun a b z g i h=>(WM g i h).1) l (by simp[N6]) (by simp[N6]) (Jr s u)).mono ?_;rintro r ⟨B,rfl,e⟩;have E:=e.n;have m:=eT (e.A7 om) A;unfold AA at m;cases BI UC (N6 x y)with
 | error k=>
   unfold Aj AA;refine gS1 (aI m @Tryz.results87) ?_;exact⟨_,rfl,(Ext.trans (eX) (d.trans e)).upd om _⟩
 | ok z=>
   unfold Aj R3;refine gS1 (aI m @Tryz.results87) ?_;exact⟨_,rfl,(Ext.trans (eX) (d.trans e)).upd om _⟩
def pI {x y:QQ}(B:Dr x) (C:Dr y) (I:c<Z.n) (s:Z.A7 c=some [.func (.func 79) ⟨[]⟩ ⟨[]⟩]):Ev (gO 88 [.agg ⟨R3 x⟩,.agg ⟨R3 y⟩,DB c] Z) (fun r=>∃ Z',r=⟨false,Aj (opI [47] x y),Z'⟩/\Ext Z Z') ⟨⟩:=by
 have F:opI [47] x y=if y.1.n<=0/\0<=y.2.n then .error 15 else BI Ir (N6 x y):=by unfold opI;rw[z0z (by decide),z0z (by decide),z0z (by decide),z1z rfl]
 have j:=A9 s;refine C8 Tryz.func88 rfl rfl ?_;unfold R3;rw[F];cases o:decide (0<y.1.n)with
 | true=>
   have g:¬ y.1.n<=0:=by have:=z6z o;omega
   rw[z0z (fun h=>g h.1)];refine gS1 (aI s (aI j o)) ?_;refine Lv.mono ?_;rintro r ⟨E,u,rfl,d,l⟩;have v:=d.n;simp only[G3]at v;have A:u.A7 (Z.n+1+1)=some AA:=by rw[d.A7 (cL)];unfold AA;exact cL
   refine gS ?_;refine(Mr (f:=Ir) (ps:=N6 x y) (fun H a b i p=>WO i p) (fun a b z i p h=>(Ga i h).1) l (by simp[N6]) (by simp[N6]) (Jr B C)).mono ?_;rintro r ⟨D,rfl,e⟩;have G:=e.n;have m:=eT (e.A7 om) A;unfold AA at m;cases BI Ir (N6 x y)with
   | error k=>
     unfold Aj AA;refine gS1 (aI m @Tryz.results88) ?_;exact⟨_,rfl,(Ext.trans (eX) (d.trans e)).upd om _⟩
   | ok z=>
     unfold Aj R3;refine gS1 (aI m @Tryz.results88) ?_;exact⟨_,rfl,(Ext.trans (eX) (d.trans e)).upd om _⟩
 | false=>
   have g:y.1.n<=0:=by have:=z9z o;omega
   cases q:decide (y.2.n<0)with
   | false=>
     rw[z1z ⟨g,by have:=z9z q;omega⟩];unfold Aj AA;refine gS1 (aI s (aI j (aI o (aI q @Tryz.results88)))) ?_;exact⟨_,rfl,eX⟩
   | true=>
     rw[z0z (fun h=>by have:=z6z q;have:=h.2;omega)];refine gS1 (aI s (aI j (aI o q))) ?_;refine Lv.mono ?_;rintro r ⟨E,u,rfl,d,l⟩;have v:=d.n;simp only[G3]at v;have A:u.A7 (Z.n+1+1)=some AA:=by rw[d.A7 (cL)];unfold AA;exact cL
     refine gS ?_;refine(Mr (f:=Ir) (ps:=N6 x y) (fun H a b i p=>WO i p) (fun a b z i p h=>(Ga i h).1) l (by simp[N6]) (by simp[N6]) (Jr B C)).mono ?_;rintro r ⟨D,rfl,e⟩;have G:=e.n;have m:=eT (e.A7 om) A;unfold AA at m;cases BI Ir (N6 x y)with
     | error k=>
       unfold Aj AA;refine gS1 (aI m @Tryz.results88) ?_;exact⟨_,rfl,(Ext.trans (eX) (d.trans e)).upd om _⟩
     | ok z=>
       unfold Aj R3;refine gS1 (aI m @Tryz.results88) ?_;exact⟨_,rfl,(Ext.trans (eX) (d.trans e)).upd om _⟩
def pJ {x y:QQ}(p:Dr x) (q:Dr y) (A:c<Z.n) (o:Z.A7 c=some [.func (.func 80) ⟨[]⟩ ⟨[]⟩]):Ev (gO 89 [.agg ⟨R3 x⟩,.agg ⟨R3 y⟩,DB c] Z) (fun r=>∃ Z',r=⟨false,Aj (.ok (CG x.1 [y.1],CG x.2 [y.2])),Z'⟩/\Ext Z Z') ⟨⟩:=by
 have k:=A9 o;refine C8 Tryz.func89 rfl rfl ?_;unfold R3;refine gS1 (aI o k) ?_;refine(Uj (a:=x.1) (b:=y.1) p.1 q.1).mono ?_;rintro r ⟨g,rfl,e⟩;have u:=e.n;simp only[G3]at u;have v:g.A7 (Z.n+1+1)=some [.int .i64 0,.int .i64 0,.int .i64 0,.int .i64 0]:=eT (e.A7 (cL)) cL;have l:g.A7 Z.n=some [.int .i64 x.1.n,.int .i64 x.1.d,.int .i64 x.2.n,.int .i64 x.2.d]:=eT (e.A7 (cL)) cL;have m:g.A7 (Z.n+1)=some [.int .i64 y.1.n,.int .i64 y.1.d,.int .i64 y.2.n,.int .i64 y.2.d]:=eT (e.A7 (cL)) cL;have c1:g.A7 c=some [.func (.func 80) ⟨[]⟩ ⟨[]⟩]:=eT (e.A7 (cL)) cL;have h:=A9 l;have i:=A9 m;have j:=A9 c1;refine gS1 (aI l (aI m (aI c1 (aI h (aI i j))))) ?_;refine(Uj (a:=x.2) (b:=y.2) p.2 q.2).mono ?_;rintro r ⟨z,rfl,f⟩;have B:=f.n;have s:=eT (f.A7 om) v;unfold Aj R3 qv P6;refine gU1 (aI @D7 (aI @Ms (aI @Mt (aI (asx e) (aI (asx f) s))))) ?_;refine Ct.intro (by(repeat first|simp(disch:=omega) only[O4,G6,asx e,asx f]|rw[W6 (by kernel_rfl)]);rfl) ?_;refine gU1 (aI @D7 (aI @Ms (aI @Mt (aI s @Tryz.results89)))) ?_;exact⟨_,rfl,(Ext.trans (eX) (e.trans f)).upd om _⟩
def pK {x y:QQ}(p:Dr x) (q:Dr y) (A:c<Z.n) (o:Z.A7 c=some [.func (.func 82) ⟨[]⟩ ⟨[]⟩]):Ev (gO 90 [.agg ⟨R3 x⟩,.agg ⟨R3 y⟩,DB c] Z) (fun r=>∃ Z',r=⟨false,Aj (.ok (CH x.1 [y.1],CH x.2 [y.2])),Z'⟩/\Ext Z Z') ⟨⟩:=by
 have k:=A9 o;refine C8 Tryz.func90 rfl rfl ?_;unfold R3;refine gS1 (aI o k) ?_;refine(RY (a:=x.1) (b:=y.1) p.1 q.1).mono ?_;rintro r ⟨g,rfl,e⟩;have u:=e.n;simp only[G3]at u;have v:g.A7 (Z.n+1+1)=some [.int .i64 0,.int .i64 0,.int .i64 0,.int .i64 0]:=eT (e.A7 (cL)) cL;have l:g.A7 Z.n=some [.int .i64 x.1.n,.int .i64 x.1.d,.int .i64 x.2.n,.int .i64 x.2.d]:=eT (e.A7 (cL)) cL;have m:g.A7 (Z.n+1)=some [.int .i64 y.1.n,.int .i64 y.1.d,.int .i64 y.2.n,.int .i64 y.2.d]:=eT (e.A7 (cL)) cL;have c1:g.A7 c=some [.func (.func 82) ⟨[]⟩ ⟨[]⟩]:=eT (e.A7 (cL)) cL;have h:=A9 l;have i:=A9 m;have j:=A9 c1;refine gS1 (aI l (aI m (aI c1 (aI h (aI i j))))) ?_;refine(RY (a:=x.2) (b:=y.2) p.2 q.2).mono ?_;rintro r ⟨z,rfl,f⟩;have B:=f.n;have s:=eT (f.A7 om) v;unfold Aj R3 qv P6;refine gU1 (aI @D7 (aI @Ms (aI @Mt (aI (asx e) (aI (asx f) s))))) ?_;refine Ct.intro (by(repeat first|simp(disch:=omega) only[O4,G6,asx e,asx f]|rw[W6 (by kernel_rfl)]);rfl) ?_;refine gU1 (aI @D7 (aI @Ms (aI @Mt (aI s @Tryz.results90)))) ?_;exact⟨_,rfl,(Ext.trans (eX) (e.trans f)).upd om _⟩
end
def GN:JV Tryz.prog 85=some (9,92):=kR
def Oa:Bn Tryz.prog 92=some .nilFunc:=kR
abbrev fnV (g:Nat):Value:= .func (.func g) ⟨[]⟩ ⟨[]⟩
def AB (c:Nat):List (By×Value):=[
 ([43],fnV 84),
 ([45],fnV 86),
 ([42],.func (.func 87) ⟨[]⟩ ⟨[DB c]⟩),
 ([47],.func (.func 88) ⟨[]⟩ ⟨[DB c]⟩),
 (Q7,.func (.func 89) ⟨[]⟩ ⟨[DB (c+1)]⟩),
 (R4,.func (.func 90) ⟨[]⟩ ⟨[DB (c+1+1)]⟩)]
def Wb {Z:St}:Ev (gO 36 [] Z) (fun r=>∃ b c Z',r=⟨false,.map (some b),Z'⟩/\Ext Z Z'/\b<Z'.n/\c+2<Z'.n/\KB Z' b (AB c)/\Z'.A7 c=some [fnV 79]/\Z'.A7 (c+1)=some [fnV 80]/\Z'.A7 (c+1+1)=some [fnV 82]) ⟨⟩:=by
 refine C8 Tryz.func36 rfl rfl ?_;refine gS1 (aI @AT9 @emk) ?_;refine Gn (b:=_) (kv:=(AB Z.n).take 0) (w:=((AB Z.n).getD 0 ([],.nilIface)).1) (xv:=((AB Z.n).getD 0 ([],.nilIface)).2) GN QG kR kR kR xz ?_;refine gS1 @emk ?_;refine Gn (b:=_) (kv:=(AB Z.n).take 1) (w:=((AB Z.n).getD 1 ([],.nilIface)).1) (xv:=((AB Z.n).getD 1 ([],.nilIface)).2) GN QG kR kR kR Km ?_;refine gS1 @emk ?_;refine Gn (b:=_) (kv:=(AB Z.n).take 2) (w:=((AB Z.n).getD 2 ([],.nilIface)).1) (xv:=((AB Z.n).getD 2 ([],.nilIface)).2) GN QG kR kR kR Km ?_;refine gS1 @emk ?_;refine Gn (b:=_) (kv:=(AB Z.n).take 3) (w:=((AB Z.n).getD 3 ([],.nilIface)).1) (xv:=((AB Z.n).getD 3 ([],.nilIface)).2) GN QG kR kR kR Km ?_;refine gS1 @emk ?_;refine Gn (b:=_) (kv:=(AB Z.n).take 4) (w:=((AB Z.n).getD 4 ([],.nilIface)).1) (xv:=((AB Z.n).getD 4 ([],.nilIface)).2) GN QG kR kR kR Km ?_;refine gS1 @emk ?_;refine Gn (b:=_) (kv:=(AB Z.n).take 5) (w:=((AB Z.n).getD 5 ([],.nilIface)).1) (xv:=((AB Z.n).getD 5 ([],.nilIface)).2) GN QG kR kR kR Km ?_;refine gS1 (aI @emk @Tryz.results36) ?_;obtain⟨S3,a⟩:=nW (((((((Z.new [.nilFunc] (some 131)).upd Z.n [fnV 79]).new [.nilFunc] (some 134)).upd (Z.n+1) [fnV 80]).new [.nilFunc] (some 134)).upd (Z.n+1+1) [fnV 82]));have g:Ext Z S3:=by rw[<- a];exact eX
 have l:S3.n=Z.n+1+1+1:=by rw[<- a];rfl
 have i:S3.A7 Z.n=some [fnV 79]:=by rw[<- a];exact cL
 have j:S3.A7 (Z.n+1)=some [fnV 80]:=by rw[<- a];exact cL
 have k:S3.A7 (Z.n+1+1)=some [fnV 82]:=by rw[<- a];exact cL
 have d:S3.n<=Z.n+1+1+1:=om;generalize h:QH _ _ _=F;have e:F=QH (QH (QH (QH (QH (QH (S3.Dt [] .map) (Z.n+1+1+1) (KC ((AB Z.n).take 1))) (Z.n+1+1+1) (KC ((AB Z.n).take 2))) (Z.n+1+1+1) (KC ((AB Z.n).take 3))) (Z.n+1+1+1) (KC ((AB Z.n).take 4))) (Z.n+1+1+1) (KC ((AB Z.n).take 5))) (Z.n+1+1+1) (KC (AB Z.n)):=by rw[<- h,<- a];rfl
 have f:Ext S3 F:=by rw[e];exact ks (ks (ks (ks (ks (ks ((Ext.refl S3).Dt [] .map) d) d) d) d) d) d
 have m:F.n=S3.n+1:=by rw[e];rfl
 exact⟨_,Z.n,_,rfl,g.trans f,om,om,by rw[e];exact Km,by rw[f.A7 om];exact i,by rw[f.A7 om];exact j,by rw[f.A7 om];exact k⟩
def WA (Z:St) (b c:Nat):Prop:=b<Z.n/\c+2<Z.n/\KB Z b (AB c)/\Z.A7 c=some [fnV 79]/\Z.A7 (c+1)=some [fnV 80]/\Z.A7 (c+1+1)=some [fnV 82]
def WA.ext {Z Z':St}{b c:Nat}(h:WA Z b c) (a:Ext Z Z'):WA Z' b c:=by
 obtain⟨d,j,e,f,g,i⟩:=h;have k:=a.n;exact⟨om,om,e.ext d a,by rw[a.A7 om];exact f,by rw[a.A7 om];exact g,by rw[a.A7 om];exact i⟩
def OpB (op:By):Prop:=op=[43]\/op=[45]\/op=[42]\/op=[47]\/op=Q7\/op=R4
def wZ {Z:St}{op:By}{x y:QQ}{p b c:Nat}(D:OpB op) (q:Dr x) (s:Dr y) (M:p<Z.n) (F:Z.A7 p=some [.map (some b)]) (J:WA Z b c):Ev (gO 40 [str op,.agg ⟨R3 x⟩,.agg ⟨R3 y⟩,DB p] Z) (fun r=>∃ Z',r=⟨false,Aj (opI op x y),Z'⟩/\Ext Z Z') ⟨⟩:=by
 have E:=A9 F;refine C8 Tryz.func40 rfl rfl ?_;unfold R3;refine gS1 (aI F E) ?_;have f:Ext Z (((Z.new [.int .i64 x.1.n,.int .i64 x.1.d,.int .i64 x.2.n,.int .i64 x.2.d]).new [.int .i64 y.1.n,.int .i64 y.1.d,.int .i64 y.2.n,.int .i64 y.2.d]).new [.int .i64 0,.int .i64 0,.int .i64 0,.int .i64 0] (some 88)):=eX;obtain⟨B,i⟩:=nW ((((Z.new [.int .i64 x.1.n,.int .i64 x.1.d,.int .i64 x.2.n,.int .i64 x.2.d]).new [.int .i64 y.1.n,.int .i64 y.1.d,.int .i64 y.2.n,.int .i64 y.2.d]).new [.int .i64 0,.int .i64 0,.int .i64 0,.int .i64 0] (some 88)));have N:B.n=Z.n+1+1+1:=by rw[<- i];rfl
 have l:B.A7 Z.n=some [.int .i64 x.1.n,.int .i64 x.1.d,.int .i64 x.2.n,.int .i64 x.2.d]:=by rw[<- i];exact cL
 have m:B.A7 (Z.n+1)=some [.int .i64 y.1.n,.int .i64 y.1.d,.int .i64 y.2.n,.int .i64 y.2.d]:=by rw[<- i];exact cL
 have u:B.A7 (Z.n+1+1)=some [.int .i64 0,.int .i64 0,.int .i64 0,.int .i64 0]:=by rw[<- i];exact cL
 rw[i]at f ⊢;have g:=A9 l;have h:=A9 m;have G:=J.ext f;obtain⟨K,L,o,f1,H,I⟩:=id G;rcases D with rfl|rfl|rfl|rfl|rfl|rfl
 ·have j:(FA ([43]:By) (AB c)).getD .nilFunc=fnV 84:=rfl;refine LD (b:=b) (kv:=AB c) (w:=[43]) GN QG Oa kR kR o ?_;rw[j];refine gS1 (aI g (aI h (aI l m))) ?_;refine(uS q s).mono ?_;rintro r ⟨v,rfl,a⟩;have A:=a.n;have e:=eT (a.A7 om) u;generalize opI [43] x y=R;cases R with
  | error k=>
    unfold Aj AA;refine gS1 (aI e @Tryz.results40) ?_;exact⟨_,rfl,(f.trans a).upd om _⟩
  | ok z=>
    unfold Aj R3;refine gS1 (aI e @Tryz.results40) ?_;exact⟨_,rfl,(f.trans a).upd om _⟩
 ·have j:(FA ([45]:By) (AB c)).getD .nilFunc=fnV 86:=rfl;refine LD (b:=b) (kv:=AB c) (w:=[45]) GN QG Oa kR kR o ?_;rw[j];refine gS1 (aI g (aI h (aI l m))) ?_;refine(uT q s).mono ?_;rintro r ⟨v,rfl,a⟩;have A:=a.n;have e:=eT (a.A7 om) u;generalize opI [45] x y=R;cases R with
  | error k=>
    unfold Aj AA;refine gS1 (aI e @Tryz.results40) ?_;exact⟨_,rfl,(f.trans a).upd om _⟩
  | ok z=>
    unfold Aj R3;refine gS1 (aI e @Tryz.results40) ?_;exact⟨_,rfl,(f.trans a).upd om _⟩
 ·have j:(FA ([42]:By) (AB c)).getD .nilFunc= .func (.func 87) ⟨[]⟩ ⟨[DB c]⟩:=rfl;refine LD (b:=b) (kv:=AB c) (w:=[42]) GN QG Oa kR kR o ?_;rw[j];refine gS1 (aI g (aI h (aI l m))) ?_;refine(pH q s om f1).mono ?_;rintro r ⟨v,rfl,a⟩;have A:=a.n;have e:=eT (a.A7 om) u;generalize opI [42] x y=R;cases R with
  | error k=>
    unfold Aj AA;refine gS1 (aI e @Tryz.results40) ?_;exact⟨_,rfl,(f.trans a).upd om _⟩
  | ok z=>
    unfold Aj R3;refine gS1 (aI e @Tryz.results40) ?_;exact⟨_,rfl,(f.trans a).upd om _⟩
 ·have j:(FA ([47]:By) (AB c)).getD .nilFunc= .func (.func 88) ⟨[]⟩ ⟨[DB c]⟩:=rfl;refine LD (b:=b) (kv:=AB c) (w:=[47]) GN QG Oa kR kR o ?_;rw[j];refine gS1 (aI g (aI h (aI l m))) ?_;refine(pI q s om f1).mono ?_;rintro r ⟨v,rfl,a⟩;have A:=a.n;have e:=eT (a.A7 om) u;generalize opI [47] x y=R;cases R with
  | error k=>
    unfold Aj AA;refine gS1 (aI e @Tryz.results40) ?_;exact⟨_,rfl,(f.trans a).upd om _⟩
  | ok z=>
    unfold Aj R3;refine gS1 (aI e @Tryz.results40) ?_;exact⟨_,rfl,(f.trans a).upd om _⟩
 ·have j:(FA (Q7:By) (AB c)).getD .nilFunc= .func (.func 89) ⟨[]⟩ ⟨[DB (c+1)]⟩:=rfl;refine LD (b:=b) (kv:=AB c) (w:=Q7) GN QG Oa kR kR o ?_;rw[j];refine gS1 (aI g (aI h (aI l m))) ?_;refine(pJ q s om H).mono ?_;rintro r ⟨v,rfl,a⟩;have A:=a.n;have e:=eT (a.A7 om) u;have C:opI Q7 x y= .ok (CG x.1 [y.1],CG x.2 [y.2]):=rfl;rw[C];generalize (Except.ok (CG x.1 [y.1],CG x.2 [y.2]):Except Int QQ)=R;cases R with
  | error k=>
    unfold Aj AA;refine gS1 (aI e @Tryz.results40) ?_;exact⟨_,rfl,(f.trans a).upd om _⟩
  | ok z=>
    unfold Aj R3;refine gS1 (aI e @Tryz.results40) ?_;exact⟨_,rfl,(f.trans a).upd om _⟩
 ·have j:(FA (R4:By) (AB c)).getD .nilFunc= .func (.func 90) ⟨[]⟩ ⟨[DB (c+1+1)]⟩:=rfl;refine LD (b:=b) (kv:=AB c) (w:=R4) GN QG Oa kR kR o ?_;rw[j];refine gS1 (aI g (aI h (aI l m))) ?_;refine(pK q s om I).mono ?_;rintro r ⟨v,rfl,a⟩;have A:=a.n;have e:=eT (a.A7 om) u;have C:opI R4 x y= .ok (CH x.1 [y.1],CH x.2 [y.2]):=rfl;rw[C];generalize (Except.ok (CH x.1 [y.1],CH x.2 [y.2]):Except Int QQ)=R;cases R with
  | error k=>
    unfold Aj AA;refine gS1 (aI e @Tryz.results40) ?_;exact⟨_,rfl,(f.trans a).upd om _⟩
  | ok z=>
    unfold Aj R3;refine gS1 (aI e @Tryz.results40) ?_;exact⟨_,rfl,(f.trans a).upd om _⟩
end Go.Proofs.T
namespace Go.Proofs.T
open Go Go.Ab
def GS4 (lo:Nat) (Z:St) (v:Value) (B9:List (List Value)):Prop:=(∀ r∈B9,r.length=4)/\((v= .slice none 0 0/\B9=[]) \/
 ∃ b c cells,v= .slice (some ⟨b,0,some 4⟩) B9.length c/\B9.length<=c/\lo<=b/\b<Z.n/\Z.A7 b=some cells/\cells.length=c*4/\∀ k r,B9[k]? =some r->sub cells (k*4) 4=some r)
section
variable {lo:Nat}{Z Z':St}{v:Value}{B9:List (List Value)}{k:Nat}
def GS4.nil:GS4 lo Z (.slice none 0 0) []:=⟨fun r h=>by simp at h,.inl ⟨rfl,rfl⟩⟩
def GS4.I2 (h:GS4 lo Z v B9) (m:Z.n<=Z'.n) (i:∀ b,P4 v=some b->Z'.h.get b=Z.h.get b):GS4 lo Z' v B9:=by
 obtain⟨j,⟨rfl,rfl⟩|⟨b,c,cells,rfl,a,d,l,e,f,g⟩⟩:=h
 ·exact .nil
 ·exact⟨j,.inr ⟨b,c,cells,rfl,a,d,om,by rw[F7 (i b rfl)];exact e,f,g⟩⟩
def GS4.blk {b:Nat}(h:GS4 lo Z v B9) (a:P4 v=some b):lo<=b/\b<Z.n:=by
 obtain⟨i,⟨rfl,rfl⟩|⟨f,c,cells,rfl,g,d,e,-⟩⟩:=h
 ·cases a
 ·cases a;exact⟨d,e⟩
def GS4.ext (h:GS4 lo Z v B9) (a:Ext Z Z'):GS4 lo Z' v B9:=h.I2 a.n fun b c=>a.same b (h.blk c).2
def GS4.shape (h:GS4 lo Z v B9):∃ a c,v= .slice a B9.length c/\B9.length<=c:=by
 obtain⟨e,⟨rfl,rfl⟩|⟨d,c,cells,rfl,b,-⟩⟩:=h
 ·exact⟨_,_,rfl,Bh _⟩
 ·exact⟨_,_,rfl,b⟩
def GS4.use (h:GS4 lo Z v B9) (j:0<B9.length):∃ b c cells,v= .slice (some ⟨b,0,some 4⟩) B9.length c/\B9.length<=c/\lo<=b/\b<Z.n/\Z.A7 b=some cells/\∀ k r,B9[k]? =some r->sub cells (k*4) 4=some r:=by
 obtain⟨m,⟨rfl,rfl⟩|⟨a,c,cells,rfl,d,e,f,g,l,i⟩⟩:=h
 ·simp at j
 ·exact⟨a,c,cells,rfl,d,e,f,g,i⟩
def GS4.cut {b c m:Nat}(h:GS4 lo Z (.slice (some ⟨b,0,some 4⟩) B9.length c) B9) (u:m<=B9.length):GS4 lo Z (.slice (some ⟨b,0,some 4⟩) m c) (B9.take m):=by
 obtain⟨o,⟨h,-⟩|⟨p,q,cells,e,s,f,g,i,j,l⟩⟩:=h
 ·cases h
 ·cases e;have n:(B9.take m).length=m:=by rw[Jw];omega
  refine⟨fun r d=>o r (RR d),.inr ⟨b,c,cells,by rw[n],om,f,g,i,j,fun k r a=>l k r ?_⟩⟩;rw[List.getElem?_take]at a;split at a
  ·exact a
  ·cases a
end
def bK {P:Program}{Y:TypeId}{Z:St}{t d lo:Nat}{v:Value}{row cells:List Value}{B9:List (List Value)}{c o L:Nat}{sp:Option Nat}{Q:Value×St->Prop}{uq:Hd Q}
  (f:∀ (b:Option Addr) (len cap:Nat) (w:Value),Dj P Z t (.slice b len cap) w=ob (Az Z 4 w) fun p=>pr p fun n new=>bi (Nat.ble (len+n) cap) (DD Z 4 b len cap n new) (bb (Nat.ble ((len+n)*d) room) (Bv Y Z 4 b len n new)))
  (G:GS4 lo Z v B9) (y:Z.row c=some cells) (X:sub cells o 4=some row) (K:row.length=4) (g:(B9.length+1)*d<=4294967296) (s:lo<=Z.n)
  (h:∀ v' Z',GS4 lo Z' v' (B9++[row])->Psh Z Z' v v'->Q (v',Z')):Ev (Dj P Z t v (.slice (some ⟨c,o,sp⟩) 1 L)) Q uq:=by
 have J:Az Z 4 (.slice (some ⟨c,o,sp⟩) 1 L)=some (1,row):=by
  rw[Ox,Eh,y,D5,RN,X,D5]
 have B:Nat.ble ((B9.length+1)*d) room=true:=Oz g;obtain⟨W,G⟩:=G;have l:∀ r∈B9++[row],r.length=4:=fun r V=>by
  rcases EM.1 V with h|h
  ·exact W r h
  ·simp only[W1,EP,EK]at h;subst h;exact K
 have i:(B9++[row]).length=B9.length+1:=sI;rcases G with⟨rfl,rfl⟩|⟨b,m,bs,rfl,N,O,R,D,S,M⟩
 ·have z:Nat.ble ((0+1)*d) room=true:=B;rw[f,J,D5,Pv,SZ om,Cp,z,DA,ir,N3];refine h _ _ ⟨l,.inr ⟨Z.n,1,row,rfl,Bh _,s,by simp,W3 nL nL,om,fun k r a=>?_⟩⟩ ⟨by simp,fun c y _=>by rw[Dk,z0z om],fun b g=>by cases g;exact .inr nL⟩;rcases k with _|k
  ·cases a;exact C9 om om
  ·simp at a
 ·have U:=A9 D;obtain⟨n,H⟩:=nW B9.length;rw[H]at N B i ⊢;by_cases A:n+1<=m
  ·have E:Nat.ble (n+1) m=true:=Oz A;have q:n*4+row.length<=bs.length:=by rw[K,S];omega
   rw[f,J,D5,Pv,E,Hq,iw,TQ,D,D5,GK,Rw q,D5,D5,N3];refine h _ _ ⟨l,.inr ⟨b,m,_,by rw[i],om,O,R,W4,?_,fun k r a=>?_⟩⟩ ⟨by simp,fun c y j=>by rw[Aa,z0z (fun e=>j (by rw[e];rfl))],fun b' g=> .inl g⟩
   ·simp;omega
   ·by_cases C:k=n
    ·subst C;rw[List.getElem?_append_right om,H,Yz]at a;cases a;have I:(bs.take (k*4)).length=k*4:=by rw[Jw];omega
     rw[BR (by simp;omega),OU,List.drop_append_of_le_length om,iJ om,MC,List.take_append_of_le_length om,Og om]
    ·have F:k<n:=by
      have:=(List.getElem?_eq_some_iff.1 a).1;omega
     rw[List.getElem?_append_left om]at a;have r1:=M k r a;rw[<- r1,BR (by simp;omega),BR om];congr 1;have I:(bs.take (n*4)).length=n*4:=by rw[Jw];omega
     rw[OU,List.drop_append_of_le_length om,List.take_append_of_le_length (by rw[MD];omega),List.drop_take,Zf];congr 1;omega
  ·obtain rfl:m=n:=om;have u:sub bs 0 (m*4)=some bs:=C9 om om;rw[f,J,D5,Pv,SZ om,Cp,B,DA,iu,Eh,U,D5,u,D5,jg,D,D5,D5,N3];refine h _ _ ⟨l,.inr ⟨Z.n,m+1,bs++row,by rw[i];simp,om,s,by simp,W3 (by simp) (by simp),by simp;omega,fun k r a=>?_⟩⟩ ⟨by simp,fun c y j=>by rw[Dk,z0z (by rw[TR];omega),IZ,z0z (fun h=>j (by rw[h];rfl))],fun b g=>by cases g;exact .inr (by simp)⟩;by_cases C:k=m
   ·subst C;rw[List.getElem?_append_right om,H,Yz]at a;cases a;rw[BR (by simp;omega),List.drop_append_of_le_length om,iJ om,MC,Og om]
   ·have F:k<m:=by
     have:=(List.getElem?_eq_some_iff.1 a).1;omega
    rw[List.getElem?_append_left om]at a;have r1:=M k r a;rw[<- r1,BR (by simp;omega),BR om,List.drop_append_of_le_length om,List.take_append_of_le_length (by rw[MD];omega)]
def GS2 (lo:Nat) (Z:St) (v:Value) (B9:List (List Value)):Prop:=(∀ r∈B9,r.length=2)/\((v= .slice none 0 0/\B9=[]) \/
 ∃ b c cells,v= .slice (some ⟨b,0,some 2⟩) B9.length c/\B9.length<=c/\lo<=b/\b<Z.n/\Z.A7 b=some cells/\cells.length=c*2/\∀ k r,B9[k]? =some r->sub cells (k*2) 2=some r)
section
variable {lo:Nat}{Z Z':St}{v:Value}{B9:List (List Value)}{k:Nat}
end
end Go.Proofs.T
