/- The reference reads a set of G8. -/
import Derived.Test.YtckchelhlpifiaaGreatDoorVD
import Derived.Test.YtckchelhlpifiaaGreatDoorVB
set_option linter.unusedSimpArgs false
set_option linter.unusedVariables false
set_option linter.defProp false
set_option maxHeartbeats 32000000
set_option maxRecDepth 100000
namespace Go.Proofs.T
open Go Go.Ab
section
variable {Z0 Z Z' τ:St}{b:Nat}{T T':Tn}{seen seen':List By}{s:By}{tv:Value}{A1:List Tok}{st st':Except Er Nat}{v:Nat->Value}{fc fc' vs vs':List Value}{k:Nat}{C8:List Value}{a e:Int}
def Pq (A1:List Tok) (c:Bool) (st:Except Er Nat):Except Er Nat:=if c then G2 st (LZ A1 2)else st
noncomputable def coC (l:List Nat):Code:=HF l ((Tryz.f134).body.getD .skip)
def AZ1:coC [1,0,2,3]= .seq (coC [1,0,2,3,0]) (coC [1,0,2,3,1]):=kR
def AZ2:coC [1,0,2,3,1]= .block 1 (coC [1,0,2,3,1,2]):=kR
def AZ3:coC [1,0,2,3,1,2]= .seq (coC [1,0,2,3,1,2,0]) (coC [1,0,2,3,1,2,1]):=kR
def Rw.tf (hW:Rw τ b tv A1 C8 st) (hX:B9 b Z Z') (hr:Z'.A7 b=τ.A7 b) (h0:Rw Z b tv A1 C8 st') (_hb:b<Z.n):Rw Z' b tv A1 C8 st:=h0.far hX hW hr
def Zt {fr:Fr}{n:Int}{l:List Int}{w:Value}(hb:b<Z.n) (hW0:Rw Z b tv A1 C8 st') (hX:B9 b Z Z') (hW:Rw Z' b tv A1 C8 st) (h1:∀ k,st= .ok k->1<=k) (hol:OL Z.n Z' 1 w (l.map fun n=>[.int .i64 n])) (hl:l.length<=100) (g0:fr.get 0=some (.pointer (some ⟨b,0,none⟩))) (g2:fr.get 2=some w) (g3:fr.get 3=some (.int .i64 n)) :
  Ev (lim Tryz.prog HS none (coC [1,0,2,3,1,2,1]) fr Z') (fun r=>∃ fr' Z2 w2,r=⟨.normal,fr',Z2⟩/\fr'.get 0=some (.pointer (some ⟨b,0,none⟩))/\fr'.get 2=some w2/\B9 b Z Z2/\Rw Z2 b tv A1 C8 (Pq A1 (decide (l.length=12)) (AN A1 (l.contains n) st))/\OL Z.n Z2 1 w2 ((l++[n]).map fun n=>[.int .i64 n])) ⟨⟩:=by
 obtain⟨la,rfl⟩:=OL.shape hol;rw[z2z]at *;simp only[coC,Tryz.f134,J4,M0,BP,BQ,BR,BS];refine gS ?_
 refine F4 l.length (fun i fr τ=>fr.get 0=some (.pointer (some ⟨b,0,none⟩))/\fr.get 2=some (.slice la l.length l.length)/\fr.get 3=some (.int .i64 n)/\fr.get 4=some (.int .i64 (i:Nat))/\B9 b Z τ/\OL Z.n τ 1 (.slice la l.length l.length) (l.map fun n=>[.int .i64 n])/\Rw τ b tv A1 C8 (AN A1 ((l.take i).any fun x=>decide (x=n)) st))
  (fun r=>∃ fr τ,r=⟨.exit 2,fr,τ⟩/\fr.get 0=some (.pointer (some ⟨b,0,none⟩))/\fr.get 2=some (.slice la l.length l.length)/\fr.get 3=some (.int .i64 n)/\B9 b Z τ/\OL Z.n τ 1 (.slice la l.length l.length) (l.map fun n=>[.int .i64 n])/\Rw τ b tv A1 C8 (AN A1 (l.any fun x=>decide (x=n)) st)) ?_ ?_ ?_ ?_
 ·exact⟨fR1 g0,fR1 g2,fR1 g3,fR,hX,hol,hW⟩
 ·rintro i fr τ hi ⟨g0,g2,g3,g4,hX,hol,hW⟩;have hc:=J2 hi;obtain⟨x,hx⟩:=E8 hi;obtain⟨a',cc,b2,off,cells,q0,l1,l2⟩:=hol.sl.use;rw[z2z]at q0 l1;cases q0;obtain⟨sp,rfl,l3,l4⟩:=l1 om;have m1:sub cells (off+i*1) 1=some [.int .i64 x]:=l2 i [.int .i64 x] (by rw[List.getElem?_map,hx];rfl);rw[Df]at m1;have hst:AN A1 ((l.take (i+1)).any fun x=>decide (x=n)) st=(if decide (x=n)then G2 (AN A1 ((l.take i).any fun x=>decide (x=n)) st) (LZ A1 13)else AN A1 ((l.take i).any fun x=>decide (x=n)) st):=by
   rw[Dj,hx,Wa,Ps];simp
  refine gX1 (aI g0 (aI g2 (aI g3 (aI g4 (aI hc (aI l4 m1)))))) ?_;cases hxe:decide (x=n)with
  | true=>
    refine gX1 (aI g0 hxe) ?_;refine(KB (e:=13) hW om fun k2 h2=>Oa h1 h2).mono ?_;rintro r ⟨Z2,rfl,X2,W2⟩;refine gX1 (aI g0 (aI g2 (aI g3 g4))) ?_;exact⟨fR1 g0,fR1 g2,fR1 g3,fR,hX.trans X2,OL.BI hol X2 hb,by rw[hst,hxe,z1z rfl];exact W2⟩
  | false=>
    refine gX1 (aI g0 (aI g2 (aI g3 (aI g4 hxe)))) ?_;exact⟨fR1 g0,fR1 g2,fR1 g3,fR,hX,hol,by rw[hst,hxe,z0z (by simp)];exact hW⟩
 ·rintro fr τ ⟨g0,g2,g3,g4,hX,hol,hW⟩;rw[Bl]at hW;have hc:decide ((l.length:Int)<(l.length:Int))=false:=sI;refine gX1 (aI g0 (aI g2 (aI g3 (aI g4 hc)))) ?_;exact⟨_,_,rfl,fR1 g0,fR1 g2,fR1 g3,hX,hol,hW⟩
 rintro r ⟨fr,Z2,rfl,g0,g2,g3,X2,ol2,W2⟩;have AF2:(l.any fun x=>decide (x=n))=l.contains n:=by
  rw[z7z,Wb,PV];constructor
  ·rintro⟨x,h1,h2⟩;rw[<- z6z h2];exact h1
  ·exact fun h=>⟨n,h,Aq rfl⟩
 rw[AF2]at W2;have e12:decide ((l.length:Int)=12)=decide (l.length=12):=by rw[z7z];simp;omega
 cases h12:decide (l.length=12)with
 | true=>
   refine gX1 (aI g0 (aI g2 (aI g3 (aI e12 h12)))) ?_;refine(KB (e:=2) W2 om fun k2 h2=>Oa h1 h2).mono ?_;rintro r ⟨Z3,rfl,X3,W3⟩;have ol3:=OL.BI ol2 X3 hb;have X3':=X2.trans X3
   try(refine gUd (a35N @Bx @Aj @Ak @Al @V3 @V4 @V5 @V6 @O5 @O6 @O7 @O8 @O9 @P6 @IZ @Ia @Ib @Ic @Dt @Du @Dv @Ie @Ig @Ih @Ii @Dw @Dx @Dy @Dz @EA @EB @EC @ED @Ij @EE) (aI @A4 (aI @N5 (aI @N9 (aI @N6 (aI @K6 (aI @M4 (aI @M5 (aI @K7 (aI @K8 (aI @H8 (aI @Am (aI @V1 (aI g0 (aI g2 g3)))))))))))))) ?_;try exact⟨⟩)
   have ol4:=OL.ext ol3 (Ext.new (t:=none) Z3 [.int .i64 n]);refine G4 (lo:=Z.n) (D4:=l.map fun n=>[.int .i64 n]) (row:=[.int .i64 n]) (fun _ _ _ _=>P9) (by first|exact ol4|(rw[z2z];exact ol4)) (D1 nL nL) (D8 (by simp) (by simp)) (by rw[z2z];omega) (by have:=X3'.n;simp;omega) ?_;intro w9 Z9 d1 d2 d3;have X9:B9 b Z Z9:=B9.app d2 (X3'.LL _) ol4 nL;have W9:=W3.tf X9 (by rw[B8 (d2.same b (by have:=X3'.n;simp;omega) fun e=>by have:=(ol4.blk e).1;omega),E9 (by have:=X3'.n;omega)]) hW0 hb;refine gX1 (aI g0 (aI g2 g3)) ?_;exact⟨_,_,w9,rfl,fR1 g0,fR,X9,W9,by rw[y7];exact d1⟩
 | false=>
   refine gUd (a35N @Bx @Aj @Ak @Al @V3 @V4 @V5 @V6 @O5 @O6 @O7 @O8 @O9 @P6 @IZ @Ia @Ib @Ic @Dt @Du @Dv @Ie @Ig @Ih @Ii @Dw @Dx @Dy @Dz @EA @EB @EC @ED @Ij @EE) (aI @A4 (aI @N5 (aI @N9 (aI @N6 (aI @K6 (aI @M4 (aI @M5 (aI @K7 (aI @K8 (aI @H8 (aI @Am (aI @V1 (aI g0 (aI g2 (aI g3 (aI e12 h12)))))))))))))))) ?_
   try(refine gUd (a35N @Bx @Aj @Ak @Al @V3 @V4 @V5 @V6 @O5 @O6 @O7 @O8 @O9 @P6 @IZ @Ia @Ib @Ic @Dt @Du @Dv @Ie @Ig @Ih @Ii @Dw @Dx @Dy @Dz @EA @EB @EC @ED @Ij @EE) (aI @A4 (aI @N5 (aI @N9 (aI @N6 (aI @K6 (aI @M4 (aI @M5 (aI @K7 (aI @K8 (aI @H8 (aI @Am (aI @V1 (aI g0 (aI g2 g3)))))))))))))) ?_;try exact⟨⟩)
   have ol4:=OL.ext ol2 (Ext.new (t:=none) Z2 [.int .i64 n]);refine G4 (lo:=Z.n) (D4:=l.map fun n=>[.int .i64 n]) (row:=[.int .i64 n]) (fun _ _ _ _=>P9) (by first|exact ol4|(rw[z2z];exact ol4)) (D1 nL nL) (D8 (by simp) (by simp)) (by rw[z2z];omega) (by have:=X2.n;simp;omega) ?_;intro w9 Z9 d1 d2 d3;have X9:B9 b Z Z9:=B9.app d2 (X2.LL _) ol4 nL;have W9:=W2.tf X9 (by rw[B8 (d2.same b (by have:=X2.n;simp;omega) fun e=>by have:=(ol4.blk e).1;omega),E9 (by have:=X2.n;omega)]) hW0 hb;refine gX1 (aI g0 (aI g2 g3)) ?_;exact⟨_,_,w9,rfl,fR1 g0,fR,X9,W9,by rw[y7];exact d1⟩
def nB (A1:List Tok) (k:Nat) (l:List Int) (st:Except Er Nat) (j:Nat):Prop:=match st with
 | .ok k'=>j=A1.length-k'/\l.length<=12/\DS A1 j l k'=DS A1 (A1.length-k) [] k
 | .error x=>DS A1 (A1.length-k) [] k= .error x/\l.length<=13
def At7 (R:Except Er (List Int×Nat)) (l:List Int) (st:Except Er Nat):Prop:=match R with
 | .ok (l2,k')=>l=l2/\st= .ok k'
 | .error x=>st= .error x
def iU (h:Rn Z0 Z b T seen s tv A1 (.ok k) v fc vs) (C7:Ends A1) (hsh:u9 A1) (hlen:T.D6.length<=100000) :
  Ev (gO 134 [.pointer (some ⟨b,0,none⟩)] Z) (RnP Z0 b seen s tv A1 (DA A1 T k)) ⟨⟩:=by
 have hb:=h.lt;have hW0:=h.rw;have hvs:=h.iv.len;refine D0 Tryz.func134 rfl rfl ?_;refine gS ?_
 refine V9 (fun j fr Z'=>∃ l w st',fr.get 0=some (.pointer (some ⟨b,0,none⟩))/\fr.get 2=some w/\B9 b Z Z'/\Rw Z' b tv A1 (o9 s T v fc) st'/\OL Z.n Z' 1 w (l.map fun n=>[.int .i64 n])/\nB A1 k l st' j)
  (fun r=>∃ l w st' fr Z',r=⟨.exit 0,fr,Z'⟩/\fr.get 0=some (.pointer (some ⟨b,0,none⟩))/\fr.get 2=some w/\B9 b Z Z'/\Rw Z' b tv A1 (o9 s T v fc) st'/\OL Z.n Z' 1 w (l.map fun n=>[.int .i64 n])/\l.length<=13/\At7 (DS A1 (A1.length-k) [] k) l st') (A1.length-k) ?_ ?_ ?_
 ·exact⟨[],.slice none 0 0,.ok k,fR,fR,.refl,hW0,OL.nil,rfl,by simp,rfl⟩
 ·rintro j fr Z' ⟨l,w,st',g0,g2,hX,hW,hol,hG⟩;show Ev (lim Tryz.prog HS none (coC [1,0,2,3]) fr Z') _ _;rw[AZ1,AZ2,AZ3];obtain⟨X,hXc⟩:=nm (coC [1,0,2,3,1,2,1]);rw[hXc];simp only[coC,Tryz.f134,J4,M0,BP,BQ,BR,BS];obtain⟨kk,a,e,hh,hs⟩:=hW.hd;have hd:=hh.dec;have rr:=A6 hs.row;obtain⟨la,rfl⟩:=OL.shape hol;rw[z2z]at *;cases st' with
  | error x=>
    have hd0:decide (e=0)=false:=hd;refine gX1 (aI g0 (aI g2 (aI rr (aI hd0 (a3N @G9 @H2 @Q9))))) ?_;exact⟨l,_,_,_,_,rfl,fR1 g0,fR1 g2,hX,hW,hol,hG.2,by rw[hG.1];rfl⟩
  | ok k' =>
    obtain⟨rfl,AF3,hT⟩:=hG;obtain⟨rfl,rfl,rfl⟩:=hh;have hk':=hs.k;have zR:=hs.len;have ht0:=I9 hk';obtain⟨f,hf⟩:∃ f,A1.length-k'=f+1:=⟨A1.length-k'-1,om⟩
    rw[hf,HO]at hT;have ez:decide ((l.length:Int)<2)=decide (l.length<2):=by rw[z7z];simp;omega
    have fin:∀ (fr:Fr) (n:Int) (Z1:St),(decide (l.length<2)|| !decide ((A9 A1 k').1=[]))=true->B9 b Z' Z1->Rw Z1 b tv A1 (o9 s T v fc) (T3 A1 1 k')->(∀ m k2,rdNum A1 1 (fun _=>true) k'= .ok (m,k2)->n=m)->fr.get 0=some (.pointer (some ⟨b,0,none⟩))->fr.get 2=some (.slice la l.length l.length)->fr.get 3=some (.int .i64 n) ->
      Ev (lim Tryz.prog HS none X fr Z1) (fun r=>∃ fr' Z2,r=⟨.normal,fr',Z2⟩/\∃ j',j'<f+1/\∃ l w st',fr'.get 0=some (.pointer (some ⟨b,0,none⟩))/\fr'.get 2=some w/\B9 b Z Z2/\Rw Z2 b tv A1 (o9 s T v fc) st'/\OL Z.n Z2 1 w (l.map fun n=>[.int .i64 n])/\nB A1 k l st' j') ⟨⟩:=by
     intro fr n Z1 hc X1 W1 hn g0 g2 g3;rw[z1z hc]at hT;rw[<- hXc];refine(Zt (Z:=Z) hb hW0 (hX.trans X1) W1 (fun k2 e=>by have:=Ug e;omega) (OL.BI hol X1 hb) om g0 g2 g3).mono ?_;rintro r ⟨fr',Z2,w2,rfl,q0,q2,X2,W2,ol2⟩;refine⟨_,_,rfl,f,om,l++[n],w2,_,q0,q2,X2,W2,ol2,?_⟩;have e0:T3 A1 1 k'=G2 (rdNum A1 1 (fun _=>true) k') fun(_,k')=> .ok k':=rfl;cases hR:rdNum A1 1 (fun _=>true) k' with
     | error x=>
       rw[hR,D9]at e0;rw[MT,hR]at hT;have:Pq A1 (decide (l.length=12)) (AN A1 (l.contains n) (T3 A1 1 k'))= .error x:=by
        rw[e0];cases decide (l.length=12)<;>cases l.contains n<;>rfl
       rw[this];exact⟨hT.symm,by rw[BD];simp;omega⟩
     | ok p =>
       obtain⟨m,k1⟩:=p;obtain rfl:=hn _ _ hR;have hk1:=Sk hR;subst hk1;rw[hR,C1]at e0;rw[MT,hR]at hT;cases hd:l.contains (m:Int)with
       | true=>
         simp only[C1,D9,hd,Gi,Hf,GX]at hT;have:Pq A1 (decide (l.length=12)) (AN A1 true (T3 A1 1 k'))= .error ((A9 A1 k').2,13):=by
          rw[e0];cases decide (l.length=12)<;>rfl
         rw[this];exact⟨hT.symm,by rw[BD];simp;omega⟩
       | false=>
         simp only[C1,D9,hd,El,Dl]at hT;cases h12:decide (l.length=12)with
         | true=>
           rw[z1z (z6z h12)]at hT;have:Pq A1 true (AN A1 false (T3 A1 1 k'))= .error ((A9 A1 k').2,2):=by
            rw[e0];rfl
           rw[this];exact⟨hT.symm,by rw[BD];simp;omega⟩
         | false=>
           have:=z9z h12;rw[z0z this]at hT;have e2:Pq A1 false (AN A1 false (T3 A1 1 k'))= .ok (k'+1):=by rw[e0];rfl
           rw[e2];exact⟨om,by rw[BD];simp;omega,hT⟩
    cases hz:decide (l.length<2)with
    | true=>
      refine gX1 (aI g0 (aI g2 (aI rr (aI ez hz)))) ?_;refine(T4 (I3:=1) hW C7 hsh).mono ?_;rintro r ⟨Z1,n,rfl,X1,W1,hn⟩;refine gX1 (aI g0 g2) ?_;refine(fin _ n Z1 (by rw[hz];rfl) X1 W1 (fun m k2=>hn k' m k2 rfl) (fR1 g0) (fR1 g2) (fR)).mono ?_;rintro r ⟨fr',Z2,rfl,hJ⟩;refine gS1 @H6 ?_;rw[hf];exact hJ
    | false=>
      refine gX1 (aI g0 (aI g2 (aI rr (aI ez hz)))) ?_;refine(K5 hs).mono ?_;rintro r rfl;cases hwe:decide ((A9 A1 k').1=[])with
      | true=>
        rw[z0z (by rw[hz,hwe];simp)]at hT;refine gX1 (aI g0 (aI g2 (aI hwe (a3N @G9 @H2 @Q9)))) ?_;exact⟨l,_,_,_,_,rfl,fR1 g0,fR1 g2,hX,hW,hol,om,by rw[<- hT];exact⟨rfl,rfl⟩⟩
      | false=>
        refine gX1 (aI g0 (aI g2 hwe)) ?_;refine(T4 (I3:=1) hW C7 hsh).mono ?_;rintro r ⟨Z1,n,rfl,X1,W1,hn⟩;refine gX1 (aI g0 g2) ?_;refine(fin _ n Z1 (by rw[hz,hwe];rfl) X1 W1 (fun m k2=>hn k' m k2 rfl) (fR1 g0) (fR1 g2) (fR)).mono ?_;rintro r ⟨fr',Z2,rfl,hJ⟩;refine gS1 @H6 ?_;rw[hf];exact hJ
 ·rintro r ⟨l,w,st',fr,Z',rfl,g0,g2,hX,hW,hol,BN4,hE⟩;have R2:=h.step hX hW;obtain⟨lv,hlv⟩:=R2.lst (i:=4) (n:=vs.length) om (z2z ..);obtain⟨kk,a,e,c1,c2,c3,c4,c5,rfl,hh,hd,hs,ro⟩:=R2.cells;have rr:=A6 ro;rw[hlv]at rr ro;have hb2:=R2.lt;obtain⟨aw,rfl⟩:=OL.shape hol;rw[z2z]at *;refine gUd (a35N @Bx @Aj @Ak @Al @V3 @V4 @V5 @V6 @O5 @O6 @O7 @O8 @O9 @P6 @IZ @Ia @Ib @Ic @Dt @Du @Dv @Ie @Ig @Ih @Ii @Dw @Dx @Dy @Dz @EA @EB @EC @ED @Ij @EE) (aI @A4 (aI @P9 (aI @N5 (aI @N9 (aI @N6 (aI @K6 (aI @M4 (aI @K7 (aI @K8 (aI @H8 (aI @Am (aI @V1 (aI g0 (aI g2 rr)))))))))))))) ?_;have R5:=R2.J0 (Ext.new (t:=none) Z' [.slice aw l.length l.length]);have hl0:=R5.sl 4 om;have d1:I2 (v 4)≠some b:=fun e=>by have:=((R5.sl 4 om).blk e).1;have:=h.btl;omega
  rw[hlv]at hl0 d1;refine G4 (lo:=Z0.n) (D4:=vs.map fun x=>[x]) (row:=[.slice aw l.length l.length]) (fun _ _ _ _=>M5) (by first|exact hl0|(rw[z2z];exact hl0)) (D1 nL nL) (D8 (by simp) (by simp)) (by rw[z2z];omega) (by have:=R5.ext.n;simp at this ⊢;omega) ?_;intro v9 Z9 y1 y2 y3;have ro9:=(show Z9.A7 b=Z'.A7 b by rw[B8 (y2.same b (by simp;omega) d1),E9 om]).trans ro;obtain⟨a',rfl⟩:=OL.shape y1;have hin:Fk (J5 (Z'.new [.slice aw l.length l.length] none) (CT b v)) (.slice aw l.length l.length) l:=by
   refine(OL.J5 (OL.ext hol (Ext.new (t:=none) Z' [.slice aw l.length l.length])) fun q hq=>?_).sl;rcases l8.1 hq with e|⟨i,hi,e⟩|e
   ·omega
   ·have:=((h.sl i hi).blk e).2;omega
   ·omega
  have R6:=R5.app (T':={ T with D6:=T.D6++[l] }) (vs':=vs++[.slice aw l.length l.length]) (seen':=seen) (i:=4) hh (hs.ext (Ext.new (t:=none) Z' [.slice aw l.length l.length])) om (by rw[hlv];exact y2) (by show OL _ _ 1 _ (List.map _ _);rw[y7];exact y1) (by intro j hj hne;match j,hj,hne with|0,_,_=>rfl|1,_,_=>rfl|2,_,_=>rfl|3,_,_=>rfl|5,_,_=>rfl|4,_,hq=>exact absurd rfl hq) rfl (FP.app hin R5.iv);refine gX1 (aI ro9 (a3N @G9 @H2 @Tryz.results134)) ?_;refine⟨_,{ T with D6:=T.D6++[l] },_,_,_,_,rfl,R6,?_⟩;unfold DA;cases hC:DS A1 (A1.length-k) [] k with
  |error x=>rw[hC]at hE;exact hE
  | ok p=>
    obtain⟨l2,k2⟩:=p;rw[hC]at hE;obtain⟨rfl,rfl⟩:=hE;exact⟨rfl,rfl⟩
end
section
variable {en:Int}
section
variable {Z0 Z Z' τ:St}{b:Nat}{T T':Tn}{seen seen':List By}{s:By}{tv:Value}{A1:List Tok}{st st':Except Er Nat}{v:Nat->Value}{fc fc' vs vs':List Value}{k:Nat}{C8:List Value}{a e:Int}
noncomputable def lnC (l:List Nat):Code:=HF l ((Tryz.f88).body.getD .skip)
def Jm:lnC []= .seq (lnC [0]) (lnC [1]):=kR
def Yu (A1:List Tok) (k:Nat):Except Er Nat:=if (A9 A1 k).1=[]then .ok k else .error ((A9 A1 k).2,12)
def Gd (A1:List Tok) (R:Except Er (Tn×Nat)):Except Er (Tn×Nat):=G2 R fun(T',k)=>if (A9 A1 k).1=[]then .ok (T',k)else .error ((A9 A1 k).2,12)
def EX.line {R:Except Er (Tn×Nat)}(h:EX R T st):EX (Gd A1 R) T (G2 st (Yu A1)):=by
 cases R with
 |error x=>obtain rfl:st= .error x:=h;rfl
 | ok p=>
   obtain⟨T2,k⟩:=p;obtain⟨rfl,rfl⟩:=h;show EX (if _ then _ else _) T (Yu A1 k);unfold Yu;split
   ·exact⟨rfl,rfl⟩
   ·rfl
def Av {fr:Fr}(h:Rn Z0 Z b T seen s tv A1 st v fc vs) (g0:fr.get 0=some (.pointer (some ⟨b,0,none⟩))):
  Ev (lim Tryz.prog HS none (lnC [1]) fr Z) (fun r=>∃ fr' Z',r=⟨.normal,fr',Z'⟩/\Rn Z0 Z' b T seen s tv A1 (G2 st (Yu A1)) v fc vs) ⟨⟩:=by
 simp only[lnC,Tryz.f88,J4,M0,BP,BQ,BR,BS];obtain⟨kk,a,e,hh,hs⟩:=h.sc;have hd:=hh.dec;have rr:=A6 hs.row;cases st with
 | error x=>
   have hd0:decide (e=0)=false:=hd;refine gX1 (aI g0 (aI rr hd0)) ?_;exact⟨_,_,rfl,h⟩
 | ok k=>
   obtain⟨rfl,rfl,rfl⟩:=hh;refine gX1 (aI g0 rr) ?_;refine(K5 hs).mono ?_;rintro r rfl;rw[C1];unfold Yu;cases hwe:decide ((A9 A1 k).1=[])with
   | true=>
     refine gX1 (aI g0 hwe) ?_;exact⟨_,_,rfl,by rw[z1z (z6z hwe)];exact h⟩
   | false=>
     refine gX1 (aI g0 hwe) ?_;refine(CB (er:=12) (st:= .ok k) ⟨rfl,rfl,rfl⟩ hs om).mono ?_;rintro r ⟨Z2,a',e',rfl,X2,hh2,hs2⟩;refine gX ?_;exact⟨_,_,rfl,by rw[z0z (z9z hwe)];exact h.Fh X2 hh2 hs2⟩
def VY {n:Int}{f:Int->Tn}(hn:∀ m k',rdNum A1 0 (fun _=>true) k= .ok (m,k')->n=m):EX (G2 (N7 A1 k) fun(n,k)=> .ok (f n,k)) (f n) (T3 A1 0 k):=by
 unfold T3 N7;cases hR:rdNum A1 0 (fun _=>true) k with
 |error x=>rfl
 | ok p=>
   obtain⟨m,k'⟩:=p;rw[hn _ _ hR];exact⟨rfl,rfl⟩
def mL (h:Rn Z0 Z b T seen s tv A1 (.ok k) v fc vs) (C7:Ends A1) (hsh:u9 A1):
  Ev (gO 88 [.pointer (some ⟨b,0,none⟩),str [109,111,115,116],.int .i64 en] Z) (RnP Z0 b seen s tv A1 (Gd A1 (Hl A1 T k))) ⟨⟩:=by
 refine D0 Tryz.func88 rfl rfl ?_;show Ev (lim Tryz.prog HS none (lnC []) _ _) _ _;rw[Jm];obtain⟨X,hX⟩:=nm (lnC [1]);rw[hX];simp only[lnC,Tryz.f88,J4,M0,BP,BQ,BR,BS];have V2:decide (([109,111,115,116]:By)=[116,101,110,100,101,114])=false:=rfl;have EL:decide (([109,111,115,116]:By)=[108,111,116])=false:=rfl;have N1:decide (([109,111,115,116]:By)=[99,114,105,116,101,114,105,111,110])=false:=rfl;have o0:decide (([109,111,115,116]:By)=[114,101,113,117,105,114,101])=false:=rfl;have Cp:decide (([109,111,115,116]:By)=[112,114,105,99,101])=false:=rfl;have Bb:decide (([109,111,115,116]:By)=[102,111,114,109,117,108,97])=false:=rfl;have Mt:decide (([109,111,115,116]:By)=[116,105,101])=false:=rfl;have Lu:decide (([109,111,115,116]:By)=[109,111,115,116])=true:=rfl;obtain⟨q1,q2,q3,q4,q5,rfl⟩:=fc5 h.fx;refine gX1 (aI V2 (aI EL (aI N1 (aI o0 (aI Cp (aI Bb (aI Mt Lu))))))) ?_;refine(T4 (I3:=0) h.rw C7 hsh).mono ?_;rintro r ⟨Z1,n1,rfl,X1,W1,hn1⟩;have P1:=h.step X1 W1;obtain⟨k1,a1,e1,c1,c2,c3,c4,c5,hfc,hh1,hd1,hs1,ro1⟩:=P1.cells;cases hfc;have rr1:=A6 ro1;have R1:=P1.put hh1 hs1 ({ T with P8:=n1 }) (fun i=>by match i with|0=>rfl|1=>rfl|2=>rfl|3=>rfl|4=>rfl|_+5=>rfl) rfl rfl;refine gX1 (aI ro1 rr1) ?_;rw[<- hX];refine(Av R1 (fR)).mono ?_;rintro r ⟨fr',Z9,rfl,R9⟩;refine gS1 @Tryz.results88 ?_;exact⟨_,_,_,_,_,_,rfl,R9,EX.line (VY (f:=fun n=>{ T with P8:=n }) fun m k'=>hn1 k m k' rfl)⟩
def Zo (h:Rn Z0 Z b T seen s tv A1 (.ok k) v fc vs) (C7:Ends A1) (hsh:u9 A1):
  Ev (gO 88 [.pointer (some ⟨b,0,none⟩),str [98,117,100,103,101,116],.int .i64 en] Z) (RnP Z0 b seen s tv A1 (Gd A1 (Cg A1 T k))) ⟨⟩:=by
 refine D0 Tryz.func88 rfl rfl ?_;show Ev (lim Tryz.prog HS none (lnC []) _ _) _ _;rw[Jm];obtain⟨X,hX⟩:=nm (lnC [1]);rw[hX];simp only[lnC,Tryz.f88,J4,M0,BP,BQ,BR,BS];have V2:decide (([98,117,100,103,101,116]:By)=[116,101,110,100,101,114])=false:=rfl;have EL:decide (([98,117,100,103,101,116]:By)=[108,111,116])=false:=rfl;have N1:decide (([98,117,100,103,101,116]:By)=[99,114,105,116,101,114,105,111,110])=false:=rfl;have o0:decide (([98,117,100,103,101,116]:By)=[114,101,113,117,105,114,101])=false:=rfl;have Cp:decide (([98,117,100,103,101,116]:By)=[112,114,105,99,101])=false:=rfl;have Bb:decide (([98,117,100,103,101,116]:By)=[102,111,114,109,117,108,97])=false:=rfl;have Mt:decide (([98,117,100,103,101,116]:By)=[116,105,101])=false:=rfl;have Lu:decide (([98,117,100,103,101,116]:By)=[109,111,115,116])=false:=rfl;have Mu:decide (([98,117,100,103,101,116]:By)=[99,111,109,98,111])=false:=rfl;have RT:decide (([98,117,100,103,101,116]:By)=[98,117,100,103,101,116])=true:=rfl;obtain⟨q1,q2,q3,q4,q5,rfl⟩:=fc5 h.fx;refine gX1 (aI V2 (aI EL (aI N1 (aI o0 (aI Cp (aI Bb (aI Mt (aI Lu (aI Mu RT))))))))) ?_;refine(T4 (I3:=0) h.rw C7 hsh).mono ?_;rintro r ⟨Z1,n1,rfl,X1,W1,hn1⟩;have P1:=h.step X1 W1;obtain⟨k1,a1,e1,c1,c2,c3,c4,c5,hfc,hh1,hd1,hs1,ro1⟩:=P1.cells;cases hfc;have rr1:=A6 ro1;have R1:=P1.put hh1 hs1 ({ T with J8:=n1 }) (fun i=>by match i with|0=>rfl|1=>rfl|2=>rfl|3=>rfl|4=>rfl|_+5=>rfl) rfl rfl;refine gX1 (aI ro1 rr1) ?_;rw[<- hX];refine(Av R1 (fR)).mono ?_;rintro r ⟨fr',Z9,rfl,R9⟩;refine gS1 @Tryz.results88 ?_;exact⟨_,_,_,_,_,_,rfl,R9,EX.line (VY (f:=fun n=>{ T with J8:=n }) fun m k'=>hn1 k m k' rfl)⟩
def Yv {α β γ:Type}{x:Except Er α}{f:α->Except Er β}{g:β->Except Er γ}:G2 (G2 x f) g=G2 x fun y=>G2 (f y) g:=by cases x<;>rfl
def Jt {f:Nat->Nat->Except Er (Tn×Nat)}{g:Nat->Except Er Nat}(h:∀ m k1,rdNum A1 0 (fun _=>true) k= .ok (m,k1)->EX (f m k1) T' (g k1)):EX (G2 (N7 A1 k) fun(m,k1)=>f m k1) T' (G2 (T3 A1 0 k) g):=by
 unfold T3 N7;cases hR:rdNum A1 0 (fun _=>true) k with
 |error x=>rfl
 | ok p=>
   obtain⟨m,k'⟩:=p;exact h m k' hR
def UA {f:Nat->Nat->Except Er (Tn×Nat)}(h:∀ m k1,rdNum A1 0 (fun _=>true) k= .ok (m,k1)->EX (f m k1) T' (.ok k1)):EX (G2 (N7 A1 k) fun(m,k1)=>f m k1) T' (T3 A1 0 k):=by
 unfold T3 N7;cases hR:rdNum A1 0 (fun _=>true) k with
 |error x=>rfl
 | ok p=>
   obtain⟨m,k'⟩:=p;exact h m k' hR
def RU {m k1:Nat}(h:rdNum A1 0 (fun _=>true) k= .ok (m,k1)):T3 A1 ((0:Nat):Int) k= .ok k1:=by
 show T3 A1 0 k=_;unfold T3;rw[h];rfl
def gx (h:Rn Z0 Z b T seen s tv A1 (.ok k) v fc vs) (C7:Ends A1) (hsh:u9 A1):
  Ev (gO 88 [.pointer (some ⟨b,0,none⟩),str [112,114,105,99,101],.int .i64 en] Z) (RnP Z0 b seen s tv A1 (Gd A1 (Ep A1 T k))) ⟨⟩:=by
 refine D0 Tryz.func88 rfl rfl ?_;show Ev (lim Tryz.prog HS none (lnC []) _ _) _ _;rw[Jm];obtain⟨X,hX⟩:=nm (lnC [1]);rw[hX];simp only[lnC,Tryz.f88,J4,M0,BP,BQ,BR,BS];have V2:decide (([112,114,105,99,101]:By)=[116,101,110,100,101,114])=false:=rfl;have EL:decide (([112,114,105,99,101]:By)=[108,111,116])=false:=rfl;have N1:decide (([112,114,105,99,101]:By)=[99,114,105,116,101,114,105,111,110])=false:=rfl;have o0:decide (([112,114,105,99,101]:By)=[114,101,113,117,105,114,101])=false:=rfl;have Cp:decide (([112,114,105,99,101]:By)=[112,114,105,99,101])=true:=rfl;obtain⟨q1,q2,q3,q4,q5,rfl⟩:=fc5 h.fx;refine gX1 (aI V2 (aI EL (aI N1 (aI o0 Cp)))) ?_;refine(T4 (I3:=0) h.rw C7 hsh).mono ?_;rintro r ⟨Z1,n1,rfl,X1,W1,hn1⟩;have P1:=h.step X1 W1;obtain⟨k1,a1,e1,c1,c2,c3,c4,c5,hfc,hh1,hd1,hs1,ro1⟩:=P1.cells;cases hfc;have rr1:=A6 ro1;have R1:=P1.put hh1 hs1 ({ T with low:=n1 }) (fun i=>by match i with|0=>rfl|1=>rfl|2=>rfl|3=>rfl|4=>rfl|_+5=>rfl) rfl rfl;refine gX1 (aI ro1 rr1) ?_;refine(T4 (I3:=0) R1.rw C7 hsh).mono ?_;rintro r ⟨Z2,n2,rfl,X2,W2,hn2⟩;have P2:=R1.step X2 W2;obtain⟨k2,a2,e2,c1,c2,c3,c4,c5,hfc,hh2,hd2,hs2,ro2⟩:=P2.cells;cases hfc;have rr2:=A6 ro2;have R2:=P2.put hh2 hs2 ({ T with low:=n1,high:=n2 }) (fun i=>by match i with|0=>rfl|1=>rfl|2=>rfl|3=>rfl|4=>rfl|_+5=>rfl) rfl rfl;refine gX1 (aI ro2 rr2) ?_;rw[<- hX];refine(Av R2 (fR)).mono ?_;rintro r ⟨fr',Z9,rfl,R9⟩;refine gS1 @Tryz.results88 ?_;refine⟨_,_,_,_,_,_,rfl,R9,EX.line ?_⟩;rw[C1];refine Jt (f:=fun m k1=>G2 (N7 A1 k1) fun(m2,k2)=> .ok ({ T with low:=m,high:=m2 },k2)) (g:=fun k1=>T3 A1 0 k1) fun m k1 q1=>?_;refine UA (f:=fun m2 k2=> .ok ({ T with low:=m,high:=m2 },k2)) fun m2 k2 q2=>?_;obtain rfl:=hn1 k m k1 rfl q1;obtain rfl:=hn2 k1 m2 k2 (RU q1) q2;exact⟨rfl,rfl⟩
def gz (h:Rn Z0 Z b T seen s tv A1 (.ok k) v fc vs) (C7:Ends A1) (hsh:u9 A1):
  Ev (gO 88 [.pointer (some ⟨b,0,none⟩),str [116,105,109,101,115],.int .i64 en] Z) (RnP Z0 b seen s tv A1 (Gd A1 (DR A1 T k))) ⟨⟩:=by
 refine D0 Tryz.func88 rfl rfl ?_;show Ev (lim Tryz.prog HS none (lnC []) _ _) _ _;rw[Jm];obtain⟨X,hX⟩:=nm (lnC [1]);rw[hX];simp only[lnC,Tryz.f88,J4,M0,BP,BQ,BR,BS];have V2:decide (([116,105,109,101,115]:By)=[116,101,110,100,101,114])=false:=rfl;have EL:decide (([116,105,109,101,115]:By)=[108,111,116])=false:=rfl;have N1:decide (([116,105,109,101,115]:By)=[99,114,105,116,101,114,105,111,110])=false:=rfl;have o0:decide (([116,105,109,101,115]:By)=[114,101,113,117,105,114,101])=false:=rfl;have Cp:decide (([116,105,109,101,115]:By)=[112,114,105,99,101])=false:=rfl;have Bb:decide (([116,105,109,101,115]:By)=[102,111,114,109,117,108,97])=false:=rfl;have Mt:decide (([116,105,109,101,115]:By)=[116,105,101])=false:=rfl;have Lu:decide (([116,105,109,101,115]:By)=[109,111,115,116])=false:=rfl;have Mu:decide (([116,105,109,101,115]:By)=[99,111,109,98,111])=false:=rfl;have RT:decide (([116,105,109,101,115]:By)=[98,117,100,103,101,116])=false:=rfl;have yV:decide (([116,105,109,101,115]:By)=[116,105,109,101,115])=true:=rfl;obtain⟨q1,q2,q3,q4,q5,rfl⟩:=fc5 h.fx;refine gX1 (aI V2 (aI EL (aI N1 (aI o0 (aI Cp (aI Bb (aI Mt (aI Lu (aI Mu (aI RT yV)))))))))) ?_;refine(T4 (I3:=0) h.rw C7 hsh).mono ?_;rintro r ⟨Z1,n1,rfl,X1,W1,hn1⟩;have P1:=h.step X1 W1;obtain⟨k1,a1,e1,c1,c2,c3,c4,c5,hfc,hh1,hd1,hs1,ro1⟩:=P1.cells;cases hfc;have rr1:=A6 ro1;have R1:=P1.put hh1 hs1 ({ T with t:=⟨n1,T.t.b,T.t.g,T.t.p,T.t.s⟩ }) (fun i=>by match i with|0=>rfl|1=>rfl|2=>rfl|3=>rfl|4=>rfl|_+5=>rfl) rfl rfl;refine gX1 (aI ro1 rr1) ?_;refine(T4 (I3:=0) R1.rw C7 hsh).mono ?_;rintro r ⟨Z2,n2,rfl,X2,W2,hn2⟩;have P2:=R1.step X2 W2;obtain⟨k2,a2,e2,c1,c2,c3,c4,c5,hfc,hh2,hd2,hs2,ro2⟩:=P2.cells;cases hfc;have rr2:=A6 ro2;have R2:=P2.put hh2 hs2 ({ T with t:=⟨n1,n2,T.t.g,T.t.p,T.t.s⟩ }) (fun i=>by match i with|0=>rfl|1=>rfl|2=>rfl|3=>rfl|4=>rfl|_+5=>rfl) rfl rfl;refine gX1 (aI ro2 rr2) ?_;refine(T4 (I3:=0) R2.rw C7 hsh).mono ?_;rintro r ⟨Z3,n3,rfl,X3,W3,hn3⟩;have P3:=R2.step X3 W3;obtain⟨k3,a3,e3,c1,c2,c3,c4,c5,hfc,hh3,hd3,hs3,ro3⟩:=P3.cells;cases hfc;have rr3:=A6 ro3;have R3:=P3.put hh3 hs3 ({ T with t:=⟨n1,n2,n3,T.t.p,T.t.s⟩ }) (fun i=>by match i with|0=>rfl|1=>rfl|2=>rfl|3=>rfl|4=>rfl|_+5=>rfl) rfl rfl;refine gX1 (aI ro3 rr3) ?_;refine(T4 (I3:=0) R3.rw C7 hsh).mono ?_;rintro r ⟨Z4,n4,rfl,X4,W4,hn4⟩;have P4:=R3.step X4 W4;obtain⟨k4,a4,e4,c1,c2,c3,c4,c5,hfc,hh4,hd4,hs4,ro4⟩:=P4.cells;cases hfc;have rr4:=A6 ro4;have R4:=P4.put hh4 hs4 ({ T with t:=⟨n1,n2,n3,n4,T.t.s⟩ }) (fun i=>by match i with|0=>rfl|1=>rfl|2=>rfl|3=>rfl|4=>rfl|_+5=>rfl) rfl rfl;refine gX1 (aI ro4 rr4) ?_;refine(T4 (I3:=0) R4.rw C7 hsh).mono ?_;rintro r ⟨Z5,n5,rfl,X5,W5,hn5⟩;have P5:=R4.step X5 W5;obtain⟨k5,a5,e5,c1,c2,c3,c4,c5,hfc,hh5,hd5,hs5,ro5⟩:=P5.cells;cases hfc;have rr5:=A6 ro5;have R5:=P5.put hh5 hs5 ({ T with t:=⟨n1,n2,n3,n4,n5⟩ }) (fun i=>by match i with|0=>rfl|1=>rfl|2=>rfl|3=>rfl|4=>rfl|_+5=>rfl) rfl rfl;refine gX1 (aI ro5 rr5) ?_;rw[<- hX];refine(Av R5 (fR)).mono ?_;rintro r ⟨fr',Z9,rfl,R9⟩;refine gS1 @Tryz.results88 ?_;refine⟨_,_,_,_,_,_,rfl,R9,EX.line ?_⟩;rw[C1];simp only[Yv];refine Jt (f:=fun m k1=>Dp A1 4 (Y0 0 T m) k1) fun m k1 q1=>?_;refine Jt (f:=fun m2 k1=>Dp A1 3 (Y0 1 (Y0 0 T m) m2) k1) fun m2 k2 q2=>?_;refine Jt (f:=fun m3 k1=>Dp A1 2 (Y0 2 (Y0 1 (Y0 0 T m) m2) m3) k1) fun m3 k3 q3=>?_;refine Jt (f:=fun m4 k1=>Dp A1 1 (Y0 3 (Y0 2 (Y0 1 (Y0 0 T m) m2) m3) m4) k1) fun m4 k4 q4=>?_;refine UA (f:=fun m5 k1=>Dp A1 0 (Y0 4 (Y0 3 (Y0 2 (Y0 1 (Y0 0 T m) m2) m3) m4) m5) k1) fun m5 k5 q5=>?_;have s1:T3 A1 ((0:Nat):Int) k= .ok k1:=RU q1;have s2:=RU q2;have s3:=RU q3;have s4:=RU q4;obtain rfl:=hn1 k m k1 rfl q1;obtain rfl:=hn2 k1 m2 k2 s1 q2;obtain rfl:=hn3 k2 m3 k3 (by show G2 (T3 A1 ((0:Nat):Int) k) _=_;rw[s1];exact s2) q3;obtain rfl:=hn4 k3 m4 k4 (by show G2 (G2 (T3 A1 ((0:Nat):Int) k) _) _=_;rw[s1,C1,s2];exact s3) q4;obtain rfl:=hn5 k4 m5 k5 (by show G2 (G2 (G2 (T3 A1 ((0:Nat):Int) k) _) _) _=_;rw[s1,C1,s2,C1,s3];exact s4) q5;exact⟨rfl,rfl⟩
end
end
section
variable {en:Int}
section
variable {Z0 Z Z' τ:St}{b:Nat}{T T':Tn}{seen seen':List By}{s:By}{tv:Value}{A1:List Tok}{st st':Except Er Nat}{v:Nat->Value}{fc fc' vs vs':List Value}{k:Nat}{C8:List Value}{a e:Int}
def tI (h:Rn Z0 Z b T seen s tv A1 (.ok k) v fc vs) (C7:Ends A1) (hsh:u9 A1) (hlen:T.G8.length<=100000):
  Ev (gO 88 [.pointer (some ⟨b,0,none⟩),str [108,111,116],.int .i64 en] Z) (RnP Z0 b seen s tv A1 (Gd A1 (JX A1 T k))) ⟨⟩:=by
 refine D0 Tryz.func88 rfl rfl ?_;show Ev (lim Tryz.prog HS none (lnC []) _ _) _ _;rw[Jm];obtain⟨X,hX⟩:=nm (lnC [1]);rw[hX];simp only[lnC,Tryz.f88,J4,M0,BP,BQ,BR,BS];have V2:decide (([108,111,116]:By)=[116,101,110,100,101,114])=false:=rfl;have EL:decide (([108,111,116]:By)=[108,111,116])=true:=rfl;obtain⟨q1,q2,q3,q4,q5,rfl⟩:=fc5 h.fx;refine gX1 (aI V2 EL) ?_;refine(ye h C7 hsh hlen).mono ?_;rintro r ⟨Z1,T1,st1,v1,fc1,vs1,rfl,R1,hE⟩;have hE:EX (JX A1 T k) T1 st1:=hE;refine gX ?_;rw[<- hX];refine(Av R1 (fR)).mono ?_;rintro r ⟨fr',Z9,rfl,R9⟩;refine gS1 @Tryz.results88 ?_;exact⟨_,_,_,_,_,_,rfl,R9,EX.line hE⟩
def mK (h:Rn Z0 Z b T seen s tv A1 (.ok k) v fc vs) (C7:Ends A1) (hsh:u9 A1) (hlen:T.D2.length<=100000):
  Ev (gO 88 [.pointer (some ⟨b,0,none⟩),str [99,114,105,116,101,114,105,111,110],.int .i64 en] Z) (RnP Z0 b seen s tv A1 (Gd A1 (S9 A1 T k))) ⟨⟩:=by
 refine D0 Tryz.func88 rfl rfl ?_;show Ev (lim Tryz.prog HS none (lnC []) _ _) _ _;rw[Jm];obtain⟨X,hX⟩:=nm (lnC [1]);rw[hX];simp only[lnC,Tryz.f88,J4,M0,BP,BQ,BR,BS];have V2:decide (([99,114,105,116,101,114,105,111,110]:By)=[116,101,110,100,101,114])=false:=rfl;have EL:decide (([99,114,105,116,101,114,105,111,110]:By)=[108,111,116])=false:=rfl;have N1:decide (([99,114,105,116,101,114,105,111,110]:By)=[99,114,105,116,101,114,105,111,110])=true:=rfl;obtain⟨q1,q2,q3,q4,q5,rfl⟩:=fc5 h.fx;refine gX1 (aI V2 (aI EL N1)) ?_;refine(nh h C7 hsh hlen).mono ?_;rintro r ⟨Z1,T1,st1,v1,fc1,vs1,rfl,R1,hE⟩;have hE:EX (S9 A1 T k) T1 st1:=hE;refine gX ?_;rw[<- hX];refine(Av R1 (fR)).mono ?_;rintro r ⟨fr',Z9,rfl,R9⟩;refine gS1 @Tryz.results88 ?_;exact⟨_,_,_,_,_,_,rfl,R9,EX.line hE⟩
def tJ (h:Rn Z0 Z b T seen s tv A1 (.ok k) v fc vs) (C7:Ends A1) (hsh:u9 A1) (hlen:T.F5.length<=12):
  Ev (gO 88 [.pointer (some ⟨b,0,none⟩),str [116,105,101],.int .i64 en] Z) (RnP Z0 b seen s tv A1 (Gd A1 (HE A1 T k))) ⟨⟩:=by
 refine D0 Tryz.func88 rfl rfl ?_;show Ev (lim Tryz.prog HS none (lnC []) _ _) _ _;rw[Jm];obtain⟨X,hX⟩:=nm (lnC [1]);rw[hX];simp only[lnC,Tryz.f88,J4,M0,BP,BQ,BR,BS];have V2:decide (([116,105,101]:By)=[116,101,110,100,101,114])=false:=rfl;have EL:decide (([116,105,101]:By)=[108,111,116])=false:=rfl;have N1:decide (([116,105,101]:By)=[99,114,105,116,101,114,105,111,110])=false:=rfl;have o0:decide (([116,105,101]:By)=[114,101,113,117,105,114,101])=false:=rfl;have Cp:decide (([116,105,101]:By)=[112,114,105,99,101])=false:=rfl;have Bb:decide (([116,105,101]:By)=[102,111,114,109,117,108,97])=false:=rfl;have Mt:decide (([116,105,101]:By)=[116,105,101])=true:=rfl;obtain⟨q1,q2,q3,q4,q5,rfl⟩:=fc5 h.fx;refine gX1 (aI V2 (aI EL (aI N1 (aI o0 (aI Cp (aI Bb Mt)))))) ?_;refine(sM h C7 hlen).mono ?_;rintro r ⟨Z1,T1,st1,v1,fc1,vs1,rfl,R1,hE⟩;have hE:EX (HE A1 T k) T1 st1:=hE;refine gX ?_;rw[<- hX];refine(Av R1 (fR)).mono ?_;rintro r ⟨fr',Z9,rfl,R9⟩;refine gS1 @Tryz.results88 ?_;exact⟨_,_,_,_,_,_,rfl,R9,EX.line hE⟩
def gy (h:Rn Z0 Z b T seen s tv A1 (.ok k) v fc vs) (C7:Ends A1) (hsh:u9 A1) (hlen:T.D6.length<=100000):
  Ev (gO 88 [.pointer (some ⟨b,0,none⟩),str [99,111,109,98,111],.int .i64 en] Z) (RnP Z0 b seen s tv A1 (Gd A1 (DA A1 T k))) ⟨⟩:=by
 refine D0 Tryz.func88 rfl rfl ?_;show Ev (lim Tryz.prog HS none (lnC []) _ _) _ _;rw[Jm];obtain⟨X,hX⟩:=nm (lnC [1]);rw[hX];simp only[lnC,Tryz.f88,J4,M0,BP,BQ,BR,BS];have V2:decide (([99,111,109,98,111]:By)=[116,101,110,100,101,114])=false:=rfl;have EL:decide (([99,111,109,98,111]:By)=[108,111,116])=false:=rfl;have N1:decide (([99,111,109,98,111]:By)=[99,114,105,116,101,114,105,111,110])=false:=rfl;have o0:decide (([99,111,109,98,111]:By)=[114,101,113,117,105,114,101])=false:=rfl;have Cp:decide (([99,111,109,98,111]:By)=[112,114,105,99,101])=false:=rfl;have Bb:decide (([99,111,109,98,111]:By)=[102,111,114,109,117,108,97])=false:=rfl;have Mt:decide (([99,111,109,98,111]:By)=[116,105,101])=false:=rfl;have Lu:decide (([99,111,109,98,111]:By)=[109,111,115,116])=false:=rfl;have Mu:decide (([99,111,109,98,111]:By)=[99,111,109,98,111])=true:=rfl;obtain⟨q1,q2,q3,q4,q5,rfl⟩:=fc5 h.fx;refine gX1 (aI V2 (aI EL (aI N1 (aI o0 (aI Cp (aI Bb (aI Mt (aI Lu Mu)))))))) ?_;refine(iU h C7 hsh hlen).mono ?_;rintro r ⟨Z1,T1,st1,v1,fc1,vs1,rfl,R1,hE⟩;have hE:EX (DA A1 T k) T1 st1:=hE;refine gX ?_;rw[<- hX];refine(Av R1 (fR)).mono ?_;rintro r ⟨fr',Z9,rfl,R9⟩;refine gS1 @Tryz.results88 ?_;exact⟨_,_,_,_,_,_,rfl,R9,EX.line hE⟩
def Zn (h:Rn Z0 Z b T seen s tv A1 (.ok k) v fc vs) (C7:Ends A1) (hsh:u9 A1):
  Ev (gO 88 [.pointer (some ⟨b,0,none⟩),str [116,101,110,100,101,114],.int .i64 en] Z) (RnP Z0 b seen s tv A1 (Gd A1 (Ad A1 T k))) ⟨⟩:=by
 refine D0 Tryz.func88 rfl rfl ?_;show Ev (lim Tryz.prog HS none (lnC []) _ _) _ _;rw[Jm];obtain⟨X,hX⟩:=nm (lnC [1]);rw[hX];simp only[lnC,Tryz.f88,J4,M0,BP,BQ,BR,BS];obtain⟨kk,a,e,c1,c2,c3,c4,c5,BI6,hh,hd,hs,ro⟩:=h.cells;have V2:decide (([116,101,110,100,101,114]:By)=[116,101,110,100,101,114])=true:=rfl;obtain⟨q1,q2,q3,q4,q5,rfl⟩:=fc5 h.fx;refine gX1 V2 ?_;cases BI6;obtain⟨rfl,rfl,rfl⟩:=hh;have rr:=A6 ro;have hk:=hs.k;have hlen:=hs.len;have ht0:=I9 hk;have ek:(k:Int)+1=((k+1:Nat):Int):=om;refine(K5 hs).mono ?_;rintro r rfl;have hlt:BB (A9 A1 k).1=true->k+1<A1.length:=fun h=>C7 k _ ht0 (Yl h);have eS:Ad A1 T k=(if BB (A9 A1 k).1 then .ok ({ T with name:=(A9 A1 k).1 },k+1)else .error ((A9 A1 k).2,12)):=rfl;generalize hw:(A9 A1 k).1=w at hlt eS;refine gX1 (aI rr ro) ?_;refine Gn.mono ?_;rintro r rfl;rw[IB];have R1:=h.put (k:=k) (a:=0) (e:=0) ⟨rfl,rfl,rfl⟩ hs { T with name:=w } (fun i=>by match i with|0=>rfl|1=>rfl|2=>rfl|3=>rfl|4=>rfl|_+5=>rfl) rfl rfl;cases hn:BB w with
 | false=>
   refine gX1 hn ?_;refine(CB (er:=12) (st:= .ok k) ⟨rfl,rfl,rfl⟩ (hs.put (rest':= .int .i64 0:: .int .i64 0::o9 s { T with name:=w } v [c1,c2,c3,c4,c5])) om).mono ?_;rintro r ⟨Z2,a',e',rfl,X2,hh2,hs2⟩;refine gX1 @Tryz.results88 ?_;refine⟨_,_,_,_,_,_,rfl,R1.Fh X2 hh2 hs2,?_⟩;rw[eS,z0z (by rw[hn];simp)];rfl
 | true=>
   have hlt:=hlt hn;refine gX1 (aI hn ek) ?_;have R2:=R1.Fh (B9.refl.upd (p:=b) (cs:=tv:: .int .i64 (k+1:Nat):: .int .i64 0:: .int .i64 0::o9 s { T with name:=w } v [c1,c2,c3,c4,c5])) (st':= .ok (k+1)) (k':=k+1) ⟨rfl,rfl,rfl⟩ ((hs.put (rest':= .int .i64 0:: .int .i64 0::o9 s { T with name:=w } v [c1,c2,c3,c4,c5])).K4 (B9.refl.upd _) D5 hlt);rw[<- hX];refine(Av R2 (fR)).mono ?_;rintro r ⟨fr',Z9,rfl,R9⟩;refine gS1 @Tryz.results88 ?_;refine⟨_,_,_,_,_,_,rfl,R9,EX.line ?_⟩;rw[eS,z1z hn];exact⟨rfl,rfl⟩
end
end
section
variable {Z0 Z Z' τ:St}{b:Nat}{T T':Tn}{seen seen':List By}{s:By}{tv:Value}{A1:List Tok}{st st':Except Er Nat}{v:Nat->Value}{fc fc' vs vs':List Value}{k:Nat}{C8:List Value}{a e:Int}
def yZ (w x:By) (n:Int):(∀ m,BZ A1 k= .ok m->w=m)->(∀ k2,BH A1 k= .ok k2->x=(A9 A1 k2).1) ->
  (∀ k2 m k',G2 (BH A1 k) (Hr A1 [[60,61],[62,61]])= .ok k2->rdNum A1 0 (fun _=>true) k2= .ok (m,k')->n=m) ->
  EX (AY A1 T k) { T with reqs:=T.reqs++[⟨w,x,n⟩] } (G2 (G2 (BH A1 k) (Hr A1 [[60,61],[62,61]])) (T3 A1 0)):=by
 intro hw hx hn;unfold AY;cases hR:BZ A1 k with
 | error y=>
   have e0:BH A1 k= .error y:=by unfold BH;rw[hR];rfl
   rw[e0];rfl
 | ok m=>
   obtain rfl:=hw _ hR;have e0:BH A1 k= .ok (k+1):=by unfold BH;rw[hR];rfl
   rw[e0]at hx hn ⊢;rw[C1]at hn ⊢;have hx:=hx _ rfl;have e1:Hr A1 [[60,61],[62,61]] (k+1)=G2 (Ct A1 [[60,61],[62,61]] (k+1)) fun(_,k')=> .ok k':=rfl;rw[C1];cases hO:Ct A1 [[60,61],[62,61]] (k+1)with
   |error y=>rw[e1,hO];rfl
   | ok p=>
     obtain⟨o,k2⟩:=p;have ho:o=x:=by
      unfold Ct rd1 at hO;rw[hx];split at hO
      ·rename_i h;split at h
       ·cases hO;cases h;rfl
       ·cases h
      ·cases hO
     subst ho;rw[hO,C1]at e1;rw[e1]at hn ⊢;rw[C1,C1];exact VY (f:=fun n=>{ T with reqs:=T.reqs++[⟨w,o,n⟩] }) fun m k' q=>hn k2 m k' rfl q
def WA {en:Int}(h:Rn Z0 Z b T seen s tv A1 (.ok k) v fc vs) (C7:Ends A1) (hsh:u9 A1) (hlen:T.reqs.length<=100000) :
  Ev (gO 88 [.pointer (some ⟨b,0,none⟩),str [114,101,113,117,105,114,101],.int .i64 en] Z) (RnP Z0 b seen s tv A1 (Gd A1 (AY A1 T k))) ⟨⟩:=by
 have hb:=h.lt;have hW:=h.rw;refine D0 Tryz.func88 rfl rfl ?_;show Ev (lim Tryz.prog HS none (lnC []) _ _) _ _;rw[Jm];obtain⟨X,hX⟩:=nm (lnC [1]);rw[hX];simp only[lnC,Tryz.f88,J4,M0,BP,BQ,BR,BS];have V2:decide (([114,101,113,117,105,114,101]:By)=[116,101,110,100,101,114])=false:=rfl;have EL:decide (([114,101,113,117,105,114,101]:By)=[108,111,116])=false:=rfl;have N1:decide (([114,101,113,117,105,114,101]:By)=[99,114,105,116,101,114,105,111,110])=false:=rfl;have o0:decide (([114,101,113,117,105,114,101]:By)=[114,101,113,117,105,114,101])=true:=rfl;obtain⟨q1,q2,q3,q4,q5,rfl⟩:=fc5 h.fx;refine gX1 (aI V2 (aI EL (aI N1 o0))) ?_;refine(Wr hW C7 hsh).mono ?_;rintro r ⟨Z1,w,rfl,X1,W1,hw⟩;rw[C1]at W1;have hw:=hw _ rfl;have hw':∀ m,BZ A1 k= .ok m->w=m:=by
  intro m hm;unfold BZ at hm;split at hm
  ·cases hm;exact hw
  ·cases hm
 have n1:=X1.n;obtain⟨la,hla⟩:=h.lst (i:=2) (n:=T.reqs.length) om (z2z ..);obtain⟨S1,hS1⟩:=nm ((Z1.new [str [],str [],.int .i64 0] (some 66)).upd Z1.n [str w,str [],.int .i64 0]);have E1:Ext Z1 S1:=by rw[<- hS1];exact eX
 have nS:S1.n=Z1.n+1:=by rw[<- hS1];rfl
 have c1:S1.A7 Z1.n=some [str w,str [],.int .i64 0]:=by rw[<- hS1];exact cL
 have XS:B9 b Z S1:=X1.trans (.of E1);have WS:=W1.ext E1;refine gX1 hS1 ?_
 try rw[hS1]
 generalize hcb:Z1.n=cb at nS c1 ⊢;have bcb:b≠cb:=om;refine(eA (u:=[60,61]) (w:=[62,61]) WS C7 (by decide) (by decide)).mono ?_;rintro r ⟨Z3,x,rfl,X3,W3,hx⟩;have n3:=X3.n;have rc3:=eT (X3.A7 om om) c1;have AH9:=A6 rc3;obtain⟨S3,hS3⟩:=nm (Z3.upd cb [str w,str x,.int .i64 0]);have X3s:B9 b Z S3:=by rw[<- hS3];exact B9.As (XS.trans X3) om _
 have W3s:Rw S3 b tv A1 (o9 s T v [q1,q2,q3,q4,q5]) (G2 (BH A1 k) (Hr A1 [[60,61],[62,61]])):=hW.far X3s W3 (by rw[<- hS3,I1 bcb]);have rs3:S3.A7 cb=some [str w,str x,.int .i64 0]:=by rw[<- hS3];exact D5
 have n3s:cb<S3.n:=by rw[<- hS3];exact(by omega:cb<Z3.n)
 refine gX1 (aI rc3 (aI AH9 hS3)) ?_
 try rw[hS3]
 refine(T4 (I3:=0) W3s C7 hsh).mono ?_;rintro r ⟨Z4,n,rfl,X4,W4,hn⟩;have n4:=X4.n;have rc4:=eT (X4.A7 om om) rs3;have AI0:=A6 rc4;obtain⟨S4,hS4⟩:=nm (Z4.upd cb [str w,str x,.int .i64 n]);have X4s:B9 b Z S4:=by rw[<- hS4];exact B9.As (X3s.trans X4) om _
 have W4s:Rw S4 b tv A1 (o9 s T v [q1,q2,q3,q4,q5]) (G2 (G2 (BH A1 k) (Hr A1 [[60,61],[62,61]])) (T3 A1 (0:Nat))):=hW.far X4s W4 (by rw[<- hS4,I1 bcb]);have rs4:S4.A7 cb=some [str w,str x,.int .i64 n]:=by rw[<- hS4];exact D5
 have BI3:=A6 rs4;have n4s:cb<S4.n:=by rw[<- hS4];exact(by omega:cb<Z4.n)
 have R4:=h.step X4s W4s;obtain⟨kk,a,e,d1,d2,d3,d4,d5,hfc,hh,hd,hs,ro⟩:=R4.cells;cases hfc;have rr:=A6 ro;rw[hla]at rr ro;have hb4:=R4.lt;refine gUd (a35N @Bx @Aj @Ak @Al @V3 @V4 @V5 @V6 @O5 @O6 @O7 @O8 @O9 @P6 @IZ @Ia @Ib @Ic @Dt @Du @Dv @Ie @Ig @Ih @Ii @Dw @Dx @Dy @Dz @EA @EB @EC @ED @Ij @EE) (aI @A4 (aI @P9 (aI @N5 (aI @N9 (aI @K6 (aI @M4 (aI @M5 (aI @K7 (aI @K8 (aI @H8 (aI @Am (aI @V1 (aI rc4 (aI AI0 (aI hS4 (aI rr BI3)))))))))))))))) ?_
 try rw[hS4]
 have R6:=R4.J0 (Ext.new (t:=none) S4 [str w,str x,.int .i64 n]);have hl0:=R6.sl 2 om;have e1:I2 (v 2)≠some b:=fun e=>by have:=((R6.sl 2 om).blk e).1;have:=h.btl;omega
 have e2:I2 (v 2)≠some cb:=fun e=>by have:=((h.sl 2 om).blk e).2;omega
 rw[hla]at hl0 e1 e2;refine G4 (lo:=Z0.n) (D4:=T.reqs.map Req.row) (row:=[str w,str x,.int .i64 n]) (fun _ _ _ _=>N6) hl0 (D1 nL nL) (D8 (by simp) (by simp)) (by rw[z2z];omega) (by have:=R6.ext.n;simp at this ⊢;omega) ?_;intro v' Z7 y1 y2 y3;have ro7:=(show Z7.A7 b=S4.A7 b by rw[B8 (y2.same b (by simp;omega) e1),E9 om]).trans ro;obtain⟨a',rfl⟩:=OL.shape y1;have R7:=R6.app (T':={ T with reqs:=T.reqs++[⟨w,x,n⟩] }) (vs':=vs) (seen':=seen) (i:=2) hh (hs.ext (Ext.new (t:=none) S4 [str w,str x,.int .i64 n])) om (by rw[hla];exact y2) (by show OL _ _ 3 _ (List.map _ _);rw[y7];exact y1) (by intro j hj hne;match j,hj,hne with|0,_,_=>rfl|1,_,_=>rfl|3,_,_=>rfl|4,_,_=>rfl|5,_,_=>rfl) rfl R6.iv;refine gX1 ro7 ?_;refine dW1 (aI (Ba y2 e1) (Ba y2 e2)) ?_
 try(refine gSd (a35N @Bx @Aj @Ak @Al @V3 @V4 @V5 @V6 @O5 @O6 @O7 @O8 @O9 @P6 @IZ @Ia @Ib @Ic @Dt @Du @Dv @Ie @Ig @Ih @Ii @Dw @Dx @Dy @Dz @EA @EB @EC @ED @Ij @EE) (aI @Am (aI @V1 ro7)) ?_;try exact⟨⟩)
 rw[<- hX];refine(Av R7 (fR)).mono ?_;rintro r ⟨fr',Z9,rfl,R9⟩;refine gS1 @Tryz.results88 ?_;exact⟨_,_,_,_,_,_,rfl,R9,EX.line (yZ w x n hw' (fun k2 q=>hx k2 q) fun k2 m k' q=>hn k2 m k' q)⟩
end
section
variable {u:By}{d to:Nat}
def Lj {p:Int->Bool}{k:Nat}:I0 p u (d+k)=I0 p (u.drop d) k:=by unfold I0;rw[Kz]
def ae {k:Nat}{c:UInt8}(h:k<(u.drop d).length):L7 u (d+k) c=d+L7 (u.drop d) k c:=by
 have hl:(u.drop d).length=u.length-d:=Ei;unfold L7;rw[Lj,Lj];split
 ·omega
 ·split
  ·generalize hr:I0 F0 (u.drop d) k=r;have hm:min (d+k+r+1) u.length=d+min (k+r+1) (u.drop d).length:=om;have hg:u[d+k+r]? =(u.drop d)[k+r]? :=by rw[List.getElem?_drop,PE]
   rw[hm,Lj,hg];generalize min (k+r+1) (u.drop d).length=m;generalize I0 F0 (u.drop d) m=q;have e1:decide (d+k+r<u.length)=decide (k+r<(u.drop d).length):=by rw[z7z,z3z,z3z];omega
   have e2:decide (d+k+r+1<d+m+q)=decide (k+r+1<m+q):=by rw[z7z,z3z,z3z];omega
   rw[e1,e2];split<;>omega
  ·omega
def vC:∀ (f k:Nat),fT u 0 f (d+k)=fT (u.drop d) d f k:=by
 intro f;induction f with
 |zero=>intro k;rfl
 | succ f ih=>
   intro k;unfold fT;rw[<- List.getElem?_drop];cases hc:(u.drop d)[k]? with
   |none=>rfl
   | some c=>
     have hk:=(List.getElem?_eq_some_iff.1 hc).1;dsimp only;rw[ae hk,ih,PE,ih,Kz,Gy,show d+L7 (u.drop d) k c-(d+k)=L7 (u.drop d) k c-k by omega]
def vD {s:By}{from':Nat}(hft:from'<=to) (hto:to<=s.length):fT (s.take to) 0 (to-from') from'++[([],to)]=CE ((s.take to).drop from') from':=by
 have hl:((s.take to).drop from').length=to-from':=by rw[Ei,Dh,Um hto]
 have:=vC (u:=s.take to) (d:=from') (to-from') 0;rw[Ej]at this;unfold CE;rw[this,hl,nZ hft]
def AI6 {s:By}{a:Nat}:∀ (f k:Nat) (t:Tok),t∈fT s a f k->t.1.length<=s.length:=by
 intro f;induction f with
 |zero=>intro k t ht;cases ht
 | succ f ih=>
   intro k t ht;unfold fT at ht;split at ht
   ·cases ht
   ·split at ht
    ·exact ih _ _ ht
    ·rcases BJ.1 ht with rfl|ht
     ·simp only[Dh,Ei];omega
     ·exact ih _ _ ht
def MZ {s:By}{a:Nat}(h:s.length<10000000):Gf (CE s a):=by
 intro t ht;unfold CE at ht;rcases DK.1 ht with ht|ht
 ·have:=AI6 _ _ t ht;omega
 ·rw[GK]at ht;subst ht;simp
section
variable {Z0 Z Z' τ:St}{b:Nat}{T T':Tn}{seen seen':List By}{s:By}{tv:Value}{A1:List Tok}{st st':Except Er Nat}{v:Nat->Value}{fc fc' vs vs':List Value}{k:Nat}{C8:List Value}{a e:Int}
def Rn.Ab9 {k':Nat}{f:Ex} (h:Rn Z0 Z b T seen s tv A1 st v fc vs) (hE:B9 b Z Z') (hh:Hd3 st' k' a e) (hs:Sc Z' b tv A1 k' (.int .i64 a:: .int .i64 e::o9 s {T with f:=f} v fc')) (hf:Ag (J5 Z' (CT b v)) fc' f):
  Rn Z0 Z' b { T with f:=f } seen s tv A1 st' v fc' vs:=by
 have GF:ET (J5 Z (CT b v)) (J5 Z' (CT b v)):=K0 hE.n fun c hc hm=>⟨hm,hE.row hc fun e=>hm (l8.2 (.inl e))⟩
 refine⟨⟨X0 h.ext.n hE.n,fun c hc hne=>?_⟩,h.btl,⟨k',a,e,hh,hs⟩,fun i hi=>?_,h.dis,hf,h.iv.mono fun _ _ hx=>SL.J3 hx GF,h.tk⟩
 ·rw[hE.same c (z5z hc h.ext.n) hne,h.ext.same c hc hne]
 ·refine(h.sl i hi).J3 hE.n fun c hc=>hE.same c ((h.sl i hi).blk hc).2 fun e=>?_;have:=((h.sl i hi).blk hc).1;have:=h.btl;omega
def WB (h:Rn Z0 Z b T seen s tv A1 (.ok 1) v fc vs) (hto:to<=s.length) (hsl:s.length<10000000) (hft:(A9 A1 0).2+7<=to):
  Ev (gO 88 [.pointer (some ⟨b,0,none⟩),str [102,111,114,109,117,108,97],.int .i64 (to:Nat)] Z) (RnP Z0 b seen s tv A1 (Gd A1 (AZ A1 ((s.take to).drop ((A9 A1 0).2+7)) ((A9 A1 0).2+7) T 1))) ⟨⟩:=by
 refine D0 Tryz.func88 rfl rfl ?_;show Ev (lim Tryz.prog HS none (lnC []) _ _) _ _;rw[Jm];obtain⟨X,hX⟩:=nm (lnC [1]);rw[hX];simp only[lnC,Tryz.f88,J4,M0,BP,BQ,BR,BS];obtain⟨kk,a,e,c1,c2,c3,c4,c5,hfc,hh,hd,hs,ro⟩:=h.cells;obtain⟨rfl,rfl,rfl⟩:=hh;subst hfc;have rr:=A6 ro;have hk:=hs.k;have hlen:=hs.len;have hb:=h.lt;have hne:=hs.ne;obtain⟨aq,cq,bq,off,cells,htv,k1,k2⟩:=hs.sl.use;rw[z2z]at htv k1;obtain⟨sp,rfl,k3,k4⟩:=k1 om;have hk0:sub cells (off+0*2) 2=some [str (A9 A1 0).1,.int .i64 ((A9 A1 0).2:Nat)]:=k2 0 (W6 (A9 A1 0)) (by rw[List.getElem?_map,I9 om];rfl);have hk1:sub cells (off+0*2+1) 1=some [.int .i64 ((A9 A1 0).2:Nat)]:=CM (i:=1) (m:=1) hk0 om;rw[HY,Ej]at hk0 hk1;generalize (A9 A1 0).2=p0 at hk1 hft hk0;have hlt:Nat.blt 0 A1.length=true:=by rw[DC];omega
 have XC:decide (0<A1.length)=true:=J2 om;have e1:((1:Nat):Int)-1=((0:Nat):Int):=rfl;have e2:(p0:Int)+7=((p0+7:Nat):Int):=om;have e3:(A1.length:Int)-1=((A1.length-1:Nat):Int):=om;rw[htv]at rr ro;have V2:decide (([102,111,114,109,117,108,97]:By)=[116,101,110,100,101,114])=false:=rfl;have EL:decide (([102,111,114,109,117,108,97]:By)=[108,111,116])=false:=rfl;have N1:decide (([102,111,114,109,117,108,97]:By)=[99,114,105,116,101,114,105,111,110])=false:=rfl;have o0:decide (([102,111,114,109,117,108,97]:By)=[114,101,113,117,105,114,101])=false:=rfl;have Cp:decide (([102,111,114,109,117,108,97]:By)=[112,114,105,99,101])=false:=rfl;have Bb:decide (([102,111,114,109,117,108,97]:By)=[102,111,114,109,117,108,97])=true:=rfl;refine gX1 (aI V2 (aI EL (aI N1 (aI o0 (aI Cp (aI Bb (aI rr (aI k4 (aI hk0 (aI hk1 (aI hlt (aI XC (aI e1 (aI e2 (aI @HY @Ej))))))))))))))) ?_
 try refine dW ?_
 try(refine gSd (a35N @Bx @Aj @Ak @Al @V3 @V4 @V5 @V6 @O5 @O6 @O7 @O8 @O9 @P6 @IZ @Ia @Ib @Ic @Dt @Du @Dv @Ie @Ig @Ih @Ii @Dw @Dx @Dy @Dz @EA @EB @EC @ED @Ij @EE) (aI @Am (aI @V1 (aI rr (aI k4 (aI hk0 (aI hk1 (aI hlt (aI XC (aI e1 (aI e2 (aI @HY @Ej))))))))))) ?_;try exact⟨⟩)
 refine(oZ hft hto hsl (vD hft hto) It NV ?_).mono ?_
 ·refine MZ ?_;rw[Ei,Dh];omega
 generalize hR:Ke (CE ((s.take to).drop (p0+7)) (p0+7))=R;have hW:=h.rw;have zc:∀ q∈CT b v,q<Z.n:=by
  intro q hq;rcases l8.1 hq with e|⟨i,hi,e⟩|e
  ·omega
  ·exact((h.sl i hi).blk e).2
  ·omega
 have zd:A1.length-1<A1.length:=om;have hFS:AZ A1 ((s.take to).drop (p0+7)) (p0+7) T 1=G2 R fun e=> .ok ({ T with f:=e },A1.length-1):=by unfold AZ;rw[hR]
 rw[hFS];intro r hr;cases R with
 | ok f=>
   obtain⟨Z1,row,rfl,E1,F1⟩:=hr;obtain⟨f1,f2,f3,f4,f5,rfl⟩:=F1.Bj;have ro1:=(show Z1.A7 b=Z.A7 b from B8 (E1.same b hb)).trans ro;have rr1:=A6 ro1;refine gX1 (aI ro1 (aI rr1 e3)) ?_;have hf1:=F1 (CT b v) zc;have R2:∀ τ:St,B9 b Z1 τ->τ.A7 b=some (tv:: .int .i64 (A1.length-1:Nat):: .int .i64 0:: .int .i64 0::o9 s { T with f:=f } v [f1,f2,f3,f4,f5])->Rn Z0 τ b { T with f:=f } seen s tv A1 (.ok (A1.length-1)) v [f1,f2,f3,f4,f5] vs:=fun τ hX hr=>h.Ab9 ((B9.of E1).trans hX) (k':=A1.length-1) (a:=0) (e:=0) ⟨rfl,rfl,rfl⟩ (hs.K4 ((B9.of E1).trans hX) hr zd) (hf1.J3 (K0 hX.n fun c hc hm=>⟨hm,hX.row hc fun e=>hm (l8.2 (.inl e))⟩));rw[<- hX];refine(Av (R2 _ (by repeat' (first|exact B9.refl|refine B9.upd ?_ _)) (by rw[D5,htv];rfl)) (fR)).mono ?_;rintro r ⟨fr',Z9,rfl,R9⟩;refine gS1 @Tryz.results88 ?_;exact⟨_,_,_,_,_,_,rfl,R9,EX.line ⟨rfl,rfl⟩⟩
 | error pe=>
   obtain⟨p,er⟩:=pe;obtain⟨Z1,rfl,E1⟩:=hr;have her:er≠0:=eJ It NV (by unfold CE;simp) hR;have ro1:=(show Z1.A7 b=Z.A7 b from B8 (E1.same b hb)).trans ro;have rr1:=A6 ro1;unfold z5;refine gX1 (aI ro1 (aI rr1 e3)) ?_;have hf1:=(CX (L:=fun q=>q<Z.n) (Z:=Z1) (o:=[]) (nm:=[]) (n:=0) (d:=0)) (CT b v) zc;have R2:∀ τ:St,B9 b Z1 τ->τ.A7 b=some (tv:: .int .i64 (A1.length-1:Nat):: .int .i64 (p:Nat):: .int .i64 er::o9 s { T with f:= .mk [] 0 0 [] [] } v [str [],.int .i64 0,.int .i64 0,str [],.slice none 0 0])->Rn Z0 τ b { T with f:= .mk [] 0 0 [] [] } seen s tv A1 (.error (p,er)) v [str [],.int .i64 0,.int .i64 0,str [],.slice none 0 0] vs:=fun τ hX hr=>h.Ab9 ((B9.of E1).trans hX) (k':=A1.length-1) (a:=(p:Nat)) (e:=er) ⟨rfl,rfl,her⟩ (hs.K4 ((B9.of E1).trans hX) hr zd) (hf1.J3 (K0 hX.n fun c hc hm=>⟨hm,hX.row hc fun e=>hm (l8.2 (.inl e))⟩));rw[<- hX];refine(Av (R2 _ (by repeat' (first|exact B9.refl|refine B9.upd ?_ _)) (by rw[D5,htv];rfl)) (fR)).mono ?_;rintro r ⟨fr',Z9,rfl,R9⟩;refine gS1 @Tryz.results88 ?_;exact⟨_,_,_,_,_,_,rfl,R9,EX.line (T:={ T with f:= .mk [] 0 0 [] [] }) (R:= .error (p,er)) rfl⟩
end
end
def mJ {A1:List Tok}:∀ (f:Nat) (T:Tn) (k:Nat) (T':Tn) (k':Nat),T.F5.length<=12->Rf A1 f T k= .ok (T',k')->T'.F5.length<=12:=by
 intro f;induction f with
 |zero=>intro T k T' k' h e;cases e;exact h
 | succ f ih=>
   intro T k T' k' h e;rw[GU]at e;split at e
   ·split at e
    ·split at e
     ·cases e
     ·split at e
      ·rename_i hlt;refine ih { T with F5:=T.F5++[(A9 A1 k).1] } (k+1) _ _ ?_ e;simp;omega
      ·cases e
    ·cases e
   ·cases e;exact h
def Zl {A1:List Tok}:∀ (f:Nat) (T:Tn) (k:Nat) (T':Tn) (k':Nat),T.F5.length<=12->Dp A1 f T k= .ok (T',k')->T'.F5.length<=12:=by
 intro f;induction f with
 |zero=>intro T k T' k' h e;cases e;exact h
 | succ f ih=>
   intro T k T' k' h e;rw[FX]at e;obtain⟨⟨m,k1⟩,h1,h2⟩:=C9 e;refine ih _ _ _ _ ?_ h2;unfold Y0;split<;>exact h
def tH {w:By}{ks:KS}(hk:kS w=some ks){A1:List Tok}{tx:By}{fr:Nat}{T T':Tn}{k k':Nat}(h:T.F5.length<=12) (e:ks.rd A1 tx fr T k= .ok (T',k')):T'.F5.length<=12:=by
 by_cases h0:w=[116,101,110,100,101,114]
 ·subst h0;obtain rfl:=z8z (show some ((⟨true,fun _=>false,fun A1 _ _ T k=>Ad A1 T k⟩:KS))=some ks from hk);change Ad A1 T k=_ at e;unfold Ad at e;split at e<;>cases e;exact h
 by_cases h1:w=[108,111,116]
 ·subst h1;obtain rfl:=z8z (show some ((⟨false,fun T=>decide (T.G8.length=12),fun A1 _ _ T k=>JX A1 T k⟩:KS))=some ks from hk);obtain⟨⟨a,k1⟩,h1,e⟩:=C9 (show JX A1 T k=_ from e);obtain⟨⟨b,k2⟩,h2,e⟩:=C9 e;obtain⟨⟨c,k3⟩,h3,e⟩:=C9 e;cases e;exact h
 by_cases h2:w=[99,114,105,116,101,114,105,111,110]
 ·subst h2;obtain rfl:=z8z (show some ((⟨false,fun T=>decide (T.D2.length=12),fun A1 _ _ T k=>S9 A1 T k⟩:KS))=some ks from hk);obtain⟨a,h1,e⟩:=C9 (show S9 A1 T k=_ from e);split at e
  ·cases e
  obtain⟨⟨b,k2⟩,h2,e⟩:=C9 e;obtain⟨⟨c,k3⟩,h3,e⟩:=C9 e;obtain⟨⟨d,k4⟩,h4,e⟩:=C9 e;cases e;exact h
 by_cases h3:w=[114,101,113,117,105,114,101]
 ·subst h3;obtain rfl:=z8z (show some ((⟨false,fun T=>decide (T.reqs.length=24),fun A1 _ _ T k=>AY A1 T k⟩:KS))=some ks from hk);obtain⟨a,h1,e⟩:=C9 (show AY A1 T k=_ from e);obtain⟨⟨b,k2⟩,h2,e⟩:=C9 e;obtain⟨⟨c,k3⟩,h3,e⟩:=C9 e;cases e;exact h
 by_cases h4:w=[112,114,105,99,101]
 ·subst h4;obtain rfl:=z8z (show some ((⟨true,fun _=>false,fun A1 _ _ T k=>Ep A1 T k⟩:KS))=some ks from hk);obtain⟨⟨a,k1⟩,h1,e⟩:=C9 (show Ep A1 T k=_ from e);obtain⟨⟨b,k2⟩,h2,e⟩:=C9 e;cases e;exact h
 by_cases h5:w=[102,111,114,109,117,108,97]
 ·subst h5;obtain rfl:=z8z (show some ((⟨true,fun _=>false,fun A1 tx fr T k=>AZ A1 tx fr T k⟩:KS))=some ks from hk);obtain⟨a,h1,e⟩:=C9 (show AZ A1 tx fr T k=_ from e);cases e;exact h
 by_cases h6:w=[116,105,101]
 ·subst h6;obtain rfl:=z8z (show some ((⟨true,fun _=>false,fun A1 _ _ T k=>HE A1 T k⟩:KS))=some ks from hk);exact mJ _ _ _ _ _ h (show HE A1 T k=_ from e)
 by_cases h7:w=[109,111,115,116]
 ·subst h7;obtain rfl:=z8z (show some ((⟨true,fun _=>false,fun A1 _ _ T k=>Hl A1 T k⟩:KS))=some ks from hk);obtain⟨⟨a,k1⟩,h1,e⟩:=C9 (show Hl A1 T k=_ from e);cases e;exact h
 by_cases h8:w=[99,111,109,98,111]
 ·subst h8;obtain rfl:=z8z (show some ((⟨false,fun T=>decide (T.D6.length=12),fun A1 _ _ T k=>DA A1 T k⟩:KS))=some ks from hk);obtain⟨⟨a,k1⟩,h1,e⟩:=C9 (show DA A1 T k=_ from e);cases e;exact h
 by_cases h9:w=[98,117,100,103,101,116]
 ·subst h9;obtain rfl:=z8z (show some ((⟨true,fun _=>false,fun A1 _ _ T k=>Cg A1 T k⟩:KS))=some ks from hk);obtain⟨⟨a,k1⟩,h1,e⟩:=C9 (show Cg A1 T k=_ from e);cases e;exact h
 by_cases h10:w=[116,105,109,101,115]
 ·subst h10;obtain rfl:=z8z (show some ((⟨true,fun _=>false,fun A1 _ _ T k=>DR A1 T k⟩:KS))=some ks from hk);exact Zl _ _ _ _ _ h (show DR A1 T k=_ from e)
 unfold kS at hk;simp only[z0z h0,z0z h1,z0z h2,z0z h3,z0z h4,z0z h5,z0z h6,z0z h7,z0z h8,z0z h9,z0z h10]at hk;cases hk
section
variable {Z0 Z Z' τ:St}{b:Nat}{T T':Tn}{seen seen':List By}{s:By}{tv:Value}{A1:List Tok}{st st':Except Er Nat}{v:Nat->Value}{fc fc' vs vs':List Value}{k:Nat}{C8:List Value}{a e:Int}
def SV {w:By}{ks:KS}{to:Nat}(hk:kS w=some ks) (h:Rn Z0 Z b T seen s tv A1 (.ok 1) v fc vs) (C7:Ends A1) (hsh:u9 A1) (hF:Fits T) (h12:T.F5.length<=12) (hto:to<=s.length) (hsl:s.length<10000000) (hft:(A9 A1 0).2+w.length<=to) :
  Ev (gO 88 [.pointer (some ⟨b,0,none⟩),str w,.int .i64 (to:Nat)] Z) (RnP Z0 b seen s tv A1 (Gd A1 (ks.rd A1 ((s.take to).drop ((A9 A1 0).2+w.length)) ((A9 A1 0).2+w.length) T 1))) ⟨⟩:=by
 by_cases h0:w=[116,101,110,100,101,114]
 ·subst h0;obtain rfl:=z8z (show some ((⟨true,fun _=>false,fun A1 _ _ T k=>Ad A1 T k⟩:KS))=some ks from hk);exact Zn h C7 hsh
 by_cases h1:w=[108,111,116]
 ·subst h1;obtain rfl:=z8z (show some ((⟨false,fun T=>decide (T.G8.length=12),fun A1 _ _ T k=>JX A1 T k⟩:KS))=some ks from hk);exact tI h C7 hsh hF.G8
 by_cases h2:w=[99,114,105,116,101,114,105,111,110]
 ·subst h2;obtain rfl:=z8z (show some ((⟨false,fun T=>decide (T.D2.length=12),fun A1 _ _ T k=>S9 A1 T k⟩:KS))=some ks from hk);exact mK h C7 hsh hF.D2
 by_cases h3:w=[114,101,113,117,105,114,101]
 ·subst h3;obtain rfl:=z8z (show some ((⟨false,fun T=>decide (T.reqs.length=24),fun A1 _ _ T k=>AY A1 T k⟩:KS))=some ks from hk);exact WA h C7 hsh hF.reqs
 by_cases h4:w=[112,114,105,99,101]
 ·subst h4;obtain rfl:=z8z (show some ((⟨true,fun _=>false,fun A1 _ _ T k=>Ep A1 T k⟩:KS))=some ks from hk);exact gx h C7 hsh
 by_cases h5:w=[102,111,114,109,117,108,97]
 ·subst h5;obtain rfl:=z8z (show some ((⟨true,fun _=>false,fun A1 tx fr T k=>AZ A1 tx fr T k⟩:KS))=some ks from hk);exact WB h hto hsl hft
 by_cases h6:w=[116,105,101]
 ·subst h6;obtain rfl:=z8z (show some ((⟨true,fun _=>false,fun A1 _ _ T k=>HE A1 T k⟩:KS))=some ks from hk);exact tJ h C7 hsh h12
 by_cases h7:w=[109,111,115,116]
 ·subst h7;obtain rfl:=z8z (show some ((⟨true,fun _=>false,fun A1 _ _ T k=>Hl A1 T k⟩:KS))=some ks from hk);exact mL h C7 hsh
 by_cases h8:w=[99,111,109,98,111]
 ·subst h8;obtain rfl:=z8z (show some ((⟨false,fun T=>decide (T.D6.length=12),fun A1 _ _ T k=>DA A1 T k⟩:KS))=some ks from hk);exact gy h C7 hsh hF.D6
 by_cases h9:w=[98,117,100,103,101,116]
 ·subst h9;obtain rfl:=z8z (show some ((⟨true,fun _=>false,fun A1 _ _ T k=>Cg A1 T k⟩:KS))=some ks from hk);exact Zo h C7 hsh
 by_cases h10:w=[116,105,109,101,115]
 ·subst h10;obtain rfl:=z8z (show some ((⟨true,fun _=>false,fun A1 _ _ T k=>DR A1 T k⟩:KS))=some ks from hk);exact gz h C7 hsh
 unfold kS at hk;simp only[z0z h0,z0z h1,z0z h2,z0z h3,z0z h4,z0z h5,z0z h6,z0z h7,z0z h8,z0z h9,z0z h10]at hk;cases hk
end
end Go.Proofs.T
