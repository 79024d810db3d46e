/- The reference reads a lot. -/
import Derived.Test.YtckchelhlpifiaaGreatDoorVC
set_option linter.unusedSimpArgs false
set_option linter.unusedVariables false
set_option linter.defProp false
set_option maxHeartbeats 32000000
set_option maxRecDepth 100000
namespace Go.Proofs.T
open Go Go.Ab
section
variable {I3:Int}{k' n:Nat}{c:Bool}{w:By}
section
variable {Z0 Z Z':St}{b:Nat}{T T':Tn}{seen seen':List By}{s:By}{tv:Value}{A1:List Tok}{st st':Except Er Nat}{v:Nat->Value}{fc fc' vs vs':List Value}{k:Nat}
def Rn.lt (h:Rn Z0 Z b T seen s tv A1 st v fc vs):b<Z.n:=z5z h.btl h.ext.n
def Rn.cells (h:Rn Z0 Z b T seen s tv A1 st v fc vs):∃ (k:Nat) (a e:Int) (c1 c2 c3 c4 c5:Value),fc=[c1,c2,c3,c4,c5]/\Hd3 st k a e/\decide (e=0)=AL7 st/\Sc Z b tv A1 k (.int .i64 a:: .int .i64 e::o9 s T v fc) /\
  Z.A7 b=some [tv,.int .i64 (k:Nat),.int .i64 a,.int .i64 e,str s,str T.name,v 0,v 1,v 2,.int .i64 T.low,.int .i64 T.high,c1,c2,c3,c4,c5,v 3,.int .i64 T.P8,v 4,.int .i64 T.J8,.int .i64 T.t.q,.int .i64 T.t.b,.int .i64 T.t.g,.int .i64 T.t.p,.int .i64 T.t.s,v 5]:=by
 obtain⟨k,a,e,hh,hs⟩:=h.sc;obtain⟨c1,c2,c3,c4,c5,rfl⟩:=fc5 h.fx;exact⟨k,a,e,c1,c2,c3,c4,c5,rfl,hh,hh.dec,hs,hs.row⟩
def Rn.lst (h:Rn Z0 Z b T seen s tv A1 st v fc vs){i:Nat}(hi:i<6) (hn:(Hn T vs seen i).length=n):∃ a,v i= .slice a n n:=by
 obtain⟨a,ha⟩:=OL.shape (h.sl i hi);rw[hn]at ha;exact⟨a,ha⟩
def AN (A1:List Tok) (c:Bool) (st:Except Er Nat):Except Er Nat:=if c then G2 st (LZ A1 13)else st
def Ps {d:Bool}{st:Except Er Nat}:AN A1 (c||d) st=(if d then G2 (AN A1 c st) (LZ A1 13)else AN A1 c st):=by
 cases c<;>cases d<;>cases st<;>rfl
def Ug {k:Nat}(h:T3 A1 I3 k= .ok k'):k'=k+1:=by
 unfold T3 at h;cases hR:rdNum A1 I3 (fun _=>true) k with
 |error e=>rw[hR]at h;cases h
 | ok p=>
   obtain⟨n,k2⟩:=p;rw[hR]at h;cases h;unfold rdNum rd1 at hR;cases hN:Mk I3 (fun _=>true) (A9 A1 k).1 with
   |error e=>rw[hN]at hR;cases hR
   |ok n=>rw[hN]at hR;cases hR;rfl
def Oa {st:Except Er Nat}(h1:∀ k,st= .ok k->1<=k) (h:AN A1 c st= .ok k'):1<=k':=by
 cases c with
 |false=>exact h1 _ h
 | true=>
   cases st with
   |ok k=>cases h
   |error e=>cases h
def MT {nw:Int->Bool}:rdNum A1 I3 nw k=G2 (rdNum A1 I3 (fun _=>true) k) fun(n,k')=>if nw n then .ok (n,k')else .error ((A9 A1 k).2,13):=by
 unfold rdNum rd1 Mk;split
 ·rename_i h;split at h
  ·cases h
  ·rw[z0z (by assumption)];split at h
   ·rename_i h2;rw[z1z h2];split at h
    ·rename_i h3;cases h;show _=(if _ then _ else _)
     rw[z1z h3]
    ·cases h
   ·cases h
 ·rename_i h;split at h
  ·cases h;rw[z1z (by assumption)];rfl
  ·rw[z0z (by assumption)];split at h
   ·rename_i h2;rw[z1z h2];split at h
    ·cases h
    ·rename_i h3;cases h;show _=(if _ then _ else _)
     rw[z0z h3]
   ·rename_i h2;cases h;rw[z0z h2];rfl
def Sk (h:rdNum A1 I3 (fun _=>true) k= .ok (n,k')):k'=k+1:=Ug (I3:=I3) (by unfold T3;rw[h];rfl)
def ZC {k2:Nat}(h:X7 A1 w k= .ok k2):Ct A1 [w] k= .ok ((A9 A1 k).1,k2):=by
 unfold X7 at h;split at h
 ·rename_i h2;cases h;unfold Ct;rw[h2,z1z (by simp)];rfl
 ·cases h
def ZD {x:Er}(h:X7 A1 w k= .error x):Ct A1 [w] k= .error x:=by
 unfold X7 at h;split at h
 ·cases h
 ·rename_i h2;cases h;unfold Ct;rw[z0z (by simpa using h2)];rfl
def gH (A1:List Tok) (T:Tn) (k:Nat):∀ st1 st2 st3:Except Er Nat,st1=T3 A1 1 k->(∃ n:Int,(∀ m k',rdNum A1 1 (fun _=>true) k= .ok (m,k')->n=m)/\st2=AN A1 (T.G8.any fun l=>decide (l.id=n)) st1) ->
  st3=G2 (G2 st2 (X7 A1 [109,111,115,116])) (T3 A1 0)->∀ (n n':Int),(∀ m k',rdNum A1 1 (fun _=>true) k= .ok (m,k')->n=m)->(∀ k2 m k',G2 st2 (X7 A1 [109,111,115,116])= .ok k2->rdNum A1 0 (fun _=>true) k2= .ok (m,k')->n'=m) ->
  match JX A1 T k with
  | .ok (T2,k')=>{ T with G8:=T.G8++[⟨n,n'⟩] }=T2/\st3= .ok k'
  | .error x=>st3= .error x:=by
 rintro st1 st2 st3 rfl ⟨m,hm,rfl⟩ rfl n n' hn hn';have e0:T3 A1 1 k=G2 (rdNum A1 1 (fun _=>true) k) fun(_,k')=> .ok k':=rfl;unfold JX;cases hR:rdNum A1 1 (fun _=>true) k with
 | error x=>
   rw[hR,D9]at e0;rw[MT,hR];have:AN A1 (T.G8.any fun l=>decide (l.id=m)) (T3 A1 1 k)= .error x:=by rw[e0];cases T.G8.any fun l=>decide (l.id=m)<;>rfl
   rw[this];rfl
 | ok p=>
   obtain⟨id,k1⟩:=p;obtain rfl:=hm _ _ hR;obtain rfl:=hn _ _ hR;rw[hR,C1]at e0;rw[MT,hR];cases hd:T.G8.any fun l=>decide (l.id=(id:Int))with
   | true=>
     have hk1:=Sk hR;subst hk1;simp only[e0,C1,D9,hd,Gi,Hf,GX];rfl
   | false=>
     rw[e0]at hn' ⊢;simp only[C1,hd,El,Dl];have es:G2 (AN A1 false (.ok k1)) (X7 A1 [109,111,115,116])=X7 A1 [109,111,115,116] k1:=rfl;rw[hd]at hn';rw[es]at hn'
     try rw[es]
     cases hS:X7 A1 [109,111,115,116] k1 with
     | error x=>
       rw[ZD hS];rfl
     | ok k2=>
       rw[ZC hS];rw[C1,C1];have e1:T3 A1 0 k2=G2 (rdNum A1 0 (fun _=>true) k2) fun(_,k')=> .ok k':=rfl;dsimp only;unfold N7;cases hQ:rdNum A1 0 (fun _=>true) k2 with
       |error x=>rw[e1,hQ];rfl
       | ok p=>
         obtain⟨m,k3⟩:=p;obtain rfl:=hn' _ _ _ hS hQ;rw[e1,hQ];exact⟨rfl,rfl⟩
def ye (h:Rn Z0 Z b T seen s tv A1 (.ok k) v fc vs) (C7:Ends A1) (hsh:u9 A1) (hlen:T.G8.length<=100000):
  Ev (gO 127 [.pointer (some ⟨b,0,none⟩)] Z) (RnP Z0 b seen s tv A1 (JX A1 T k)) ⟨⟩:=by
 refine D0 Tryz.func127 rfl rfl ?_;have hb:=h.lt;refine gS ?_;refine(T4 (I3:=1) h.rw C7 hsh).mono ?_;rintro r ⟨Z1,n,rfl,X1,W1,hn⟩;rw[C1]at W1;have R1:=h.step X1 W1;obtain⟨la,hla⟩:=R1.lst (i:=0) (n:=T.G8.length) om (z2z ..);have MP:∀ k1,T3 A1 1 k= .ok k1->1<=k1:=fun k1 e=>by have:=Ug e;omega
 generalize uT:T3 A1 1 k=st1 at W1 R1 MP;refine gS ?_
 refine F4 T.G8.length (fun i fr Z'=>fr.get 0=some (.pointer (some ⟨b,0,none⟩))/\fr.get 2=some (.int .i64 n)/\fr.get 3=some (.int .i64 (i:Nat))/\Rn Z0 Z' b T seen s tv A1 (AN A1 ((T.G8.take i).any fun l=>decide (l.id=n)) st1) v fc vs)
  (fun r=>∃ fr Z',r=⟨.exit 0,fr,Z'⟩/\fr.get 0=some (.pointer (some ⟨b,0,none⟩))/\fr.get 2=some (.int .i64 n)/\Rn Z0 Z' b T seen s tv A1 (AN A1 (T.G8.any fun l=>decide (l.id=n)) st1) v fc vs) ?_ ?_ ?_ ?_
 ·exact⟨fR,fR,fR,R1⟩
 ·rintro i fr Z' hi ⟨g0,g2,g3,hR⟩;obtain⟨kk,a,e,c1,c2,c3,c4,c5,hfc,hh,hd,hs,ro⟩:=hR.cells;have rr:=A6 ro;rw[hla]at rr;have hc:=J2 hi;obtain⟨x,hx⟩:=E8 hi;have hsl:=(hR.sl 0 om).sl;rw[hla]at hsl;obtain⟨a',cc,b2,off,cells,q0,l1,l2⟩:=hsl.use;rw[show(Hn T vs seen 0).length=T.G8.length from z2z ..]at q0 l1;cases q0;obtain⟨sp,rfl,l3,l4⟩:=l1 om;have m1:sub cells (off+i*2) 2=some x.row:=l2 i x.row (by show(T.G8.map Lot.row)[i]? =_;rw[List.getElem?_map,hx];rfl);have m2:sub cells (off+i*2) 1=some [.int .i64 x.id]:=CM (i:=0) (m:=1) m1 om;refine gV1 (aI g0 (aI g2 (aI g3 (aI hc (aI rr (aI l4 (aI m1 m2))))))) ?_;have hst:AN A1 ((T.G8.take (i+1)).any fun l=>decide (l.id=n)) st1=(if decide (x.id=n)then G2 (AN A1 ((T.G8.take i).any fun l=>decide (l.id=n)) st1) (LZ A1 13)else AN A1 ((T.G8.take i).any fun l=>decide (l.id=n)) st1):=by
   rw[Dj,hx,Wa,Ps];simp
  cases hxe:decide (x.id=n)with
  | true=>
    refine gV1 (aI g0 hxe) ?_;refine(KB (e:=13) hR.rw om fun k2 h2=>Oa MP h2).mono ?_;rintro r ⟨Z2,rfl,X2,W2⟩;refine gV1 (aI g0 (aI g2 g3)) ?_;exact⟨fR1 g0,fR1 g2,fR,by rw[hst,hxe,z1z rfl];exact hR.step X2 W2⟩
  | false=>
    refine gV1 (aI g0 (aI g2 (aI g3 hxe))) ?_;exact⟨fR1 g0,fR1 g2,fR,by rw[hst,hxe,z0z (by simp)];exact hR⟩
 ·rintro fr Z' ⟨g0,g2,g3,hR⟩;obtain⟨kk,a,e,c1,c2,c3,c4,c5,hfc,hh,hd,hs,ro⟩:=hR.cells;have rr:=A6 ro;rw[hla]at rr;rw[Bl]at hR;have hc:decide ((T.G8.length:Int)<(T.G8.length:Int))=false:=sI;refine gV1 (aI g0 (aI g2 (aI g3 (aI hc rr)))) ?_;exact⟨_,_,rfl,fR1 g0,fR1 g2,hR⟩
 rintro r ⟨fr,Z2,rfl,g0,g2,R2⟩;generalize uU:AN A1 (T.G8.any fun l=>decide (l.id=n)) st1=st2 at R2;obtain⟨kk,a,e,c1,c2,c3,c4,c5,hfc,hh,hd,hs,ro⟩:=R2.cells;have rr:=A6 ro;have W2:=R2.rw;cases st2 with
 | error x=>
   have R3:=R2;obtain⟨st3,h3'⟩:∃ st3:Except Er Nat,(.error x:Except Er Nat)=st3:=⟨_,rfl⟩
   have h3:G2 (.error x) (X7 A1 [109,111,115,116])=st3:=h3';have hd0:decide (e=0)=false:=hd;rw[h3']at R3;refine gV1 (aI g0 (aI g2 (aI rr hd0))) ?_;refine(T4 (I3:=0) R3.rw C7 hsh).mono ?_;rintro r ⟨Z4,n',rfl,X4,W4,hn'⟩;have R4:=R3.step X4 W4;refine gV1 (aI g0 g2) ?_;obtain⟨kk,a,e,c1,c2,c3,c4,c5,rfl,hh,hd,hs,ro⟩:=R4.cells;have rr:=A6 ro;rw[hla]at rr ro;have hb4:=R4.lt;refine gUd (a14N @Bx @Aj @Ak @Al @V3 @V4 @V5 @V6 @O5 @O6 @O7 @O8 @O9 @P6) (aI @A4 (aI @P9 (aI @N9 (aI @N6 (aI @K6 (aI @M4 (aI @M5 (aI @K7 (aI @K8 (aI @H8 (aI @Am (aI @V1 (aI g0 (aI g2 rr)))))))))))))) ?_;have R5:=R4.J0 (Ext.new (t:=none) Z4 [.int .i64 n,.int .i64 n']);have hl0:=R5.sl 0 om;have d1:I2 (v 0)≠some b:=fun e=>by have:=((R5.sl 0 om).blk e).1;have:=h.btl;omega
   rw[hla]at hl0 d1;refine G4 (lo:=Z0.n) (D4:=T.G8.map Lot.row) (row:=[.int .i64 n,.int .i64 n']) (fun _ _ _ _=>N5) hl0 (D1 nL nL) (D8 (by simp) (by simp)) (by rw[z2z];omega) (by have:=R5.ext.n;simp at this ⊢;omega) ?_;intro v' Z5 y1 y2 y3;have ro5:Z5.A7 b=some [tv,.int .i64 (kk:Nat),.int .i64 a,.int .i64 e,str s,str T.name,.slice la T.G8.length T.G8.length,v 1,v 2,.int .i64 T.low,.int .i64 T.high,c1,c2,c3,c4,c5,v 3,.int .i64 T.P8,v 4,.int .i64 T.J8,.int .i64 T.t.q,.int .i64 T.t.b,.int .i64 T.t.g,.int .i64 T.t.p,.int .i64 T.t.s,v 5]:=by
    rw[B8 (y2.same b (by simp;omega) d1),E9 om];exact ro
   obtain⟨a',rfl⟩:=OL.shape y1;have R6:=R5.app (T':={ T with G8:=T.G8++[⟨n,n'⟩] }) (vs':=vs) (seen':=seen) (i:=0) hh (hs.ext (Ext.new (t:=none) Z4 [.int .i64 n,.int .i64 n'])) om (by rw[hla];exact y2) (by show OL _ _ 2 _ (List.map _ _);rw[y7];exact y1) (by intro j hj hne;match j,hj,hne with|1,_,_=>rfl|2,_,_=>rfl|3,_,_=>rfl|4,_,_=>rfl|5,_,_=>rfl) rfl R5.iv;refine gV1 (aI ro5 (a3N @G9 @H2 @Tryz.results127)) ?_;exact⟨_,{ T with G8:=T.G8++[⟨n,n'⟩] },_,vup v 0 _,_,_,rfl,R6,gH A1 T k (T3 A1 1 k) (.error x) (G2 st3 (T3 A1 0)) rfl ⟨n,fun m k'=>hn k m k' rfl,by rw[uT];exact uU.symm⟩ (by rw[<- h3]) n n' (fun m k'=>hn k m k' rfl) fun k2 m k' q=>hn' k2 m k' (by rw[<- h3];exact q)⟩
 | ok k1=>
   have hd0:decide (e=0)=true:=hd;refine gV1 (aI g0 (aI g2 (aI rr hd0))) ?_;refine(pZ W2 C7 (by simp)).mono ?_;rintro r ⟨Z3,rfl,X3,W3⟩;have R3:=R2.step X3 W3;obtain⟨st3,h3⟩:=nm (X7 A1 [109,111,115,116] k1);rw[h3]at R3;have h3:G2 (.ok k1) (X7 A1 [109,111,115,116])=st3:=h3;refine gV1 (aI g0 g2) ?_;refine(T4 (I3:=0) R3.rw C7 hsh).mono ?_;rintro r ⟨Z4,n',rfl,X4,W4,hn'⟩;have R4:=R3.step X4 W4;refine gV1 (aI g0 g2) ?_;obtain⟨kk,a,e,c1,c2,c3,c4,c5,rfl,hh,hd,hs,ro⟩:=R4.cells;have rr:=A6 ro;rw[hla]at rr ro;have hb4:=R4.lt;refine gUd (a14N @Bx @Aj @Ak @Al @V3 @V4 @V5 @V6 @O5 @O6 @O7 @O8 @O9 @P6) (aI @A4 (aI @P9 (aI @N9 (aI @N6 (aI @K6 (aI @M4 (aI @M5 (aI @K7 (aI @K8 (aI @H8 (aI @Am (aI @V1 (aI g0 (aI g2 rr)))))))))))))) ?_;have R5:=R4.J0 (Ext.new (t:=none) Z4 [.int .i64 n,.int .i64 n']);have hl0:=R5.sl 0 om;have d1:I2 (v 0)≠some b:=fun e=>by have:=((R5.sl 0 om).blk e).1;have:=h.btl;omega
   rw[hla]at hl0 d1;refine G4 (lo:=Z0.n) (D4:=T.G8.map Lot.row) (row:=[.int .i64 n,.int .i64 n']) (fun _ _ _ _=>N5) hl0 (D1 nL nL) (D8 (by simp) (by simp)) (by rw[z2z];omega) (by have:=R5.ext.n;simp at this ⊢;omega) ?_;intro v' Z5 y1 y2 y3;have ro5:Z5.A7 b=some [tv,.int .i64 (kk:Nat),.int .i64 a,.int .i64 e,str s,str T.name,.slice la T.G8.length T.G8.length,v 1,v 2,.int .i64 T.low,.int .i64 T.high,c1,c2,c3,c4,c5,v 3,.int .i64 T.P8,v 4,.int .i64 T.J8,.int .i64 T.t.q,.int .i64 T.t.b,.int .i64 T.t.g,.int .i64 T.t.p,.int .i64 T.t.s,v 5]:=by
    rw[B8 (y2.same b (by simp;omega) d1),E9 om];exact ro
   obtain⟨a',rfl⟩:=OL.shape y1;have R6:=R5.app (T':={ T with G8:=T.G8++[⟨n,n'⟩] }) (vs':=vs) (seen':=seen) (i:=0) hh (hs.ext (Ext.new (t:=none) Z4 [.int .i64 n,.int .i64 n'])) om (by rw[hla];exact y2) (by show OL _ _ 2 _ (List.map _ _);rw[y7];exact y1) (by intro j hj hne;match j,hj,hne with|1,_,_=>rfl|2,_,_=>rfl|3,_,_=>rfl|4,_,_=>rfl|5,_,_=>rfl) rfl R5.iv;refine gV1 (aI ro5 (a3N @G9 @H2 @Tryz.results127)) ?_;exact⟨_,{ T with G8:=T.G8++[⟨n,n'⟩] },_,vup v 0 _,_,_,rfl,R6,gH A1 T k (T3 A1 1 k) (.ok k1) (G2 st3 (T3 A1 0)) rfl ⟨n,fun m k'=>hn k m k' rfl,by rw[uT];exact uU.symm⟩ (by rw[<- h3]) n n' (fun m k'=>hn k m k' rfl) fun k2 m k' q=>hn' k2 m k' (by rw[<- h3];exact q)⟩
end
end
section
variable {Z0 Z Z' τ:St}{b:Nat}{T T':Tn}{seen seen':List By}{s:By}{tv:Value}{A1:List Tok}{st st':Except Er Nat}{v:Nat->Value}{fc fc' vs vs':List Value}{k:Nat}{C8:List Value}
def Rw.far (h0:Rw Z b tv A1 C8 st') (hX:B9 b Z Z') (hW:Rw τ b tv A1 C8 st) (hr:Z'.A7 b=τ.A7 b):Rw Z' b tv A1 C8 st:=by
 obtain⟨k0,a0,e0,-,hs0⟩:=h0.hd;obtain⟨k,a,e,hh,hs⟩:=hW.hd;exact hh.rw (hs0.K4 hX (by rw[hr];exact hs.row) hs.k)
def Sc.tf {k0 k1:Nat}{r0 r1:List Value}(_hs:Sc τ b tv A1 k0 r0) (hX:B9 b Z Z') (h0:Rw Z b tv A1 C8 st') (hr:Z'.A7 b=some (tv:: .int .i64 (k1:Nat)::r1)) (hk:k1<A1.length):Sc Z' b tv A1 k1 r1:=by
 obtain⟨k,a,e,-,hs⟩:=h0.hd;exact hs.K4 hX hr hk
def dw (A1:List Tok) (w:By) (k:Nat):Except Er Nat:= .ok (cond (decide ((A9 A1 k).1=w)) (k+1) k)
def ng (A1:List Tok) (T:Tn) (k:Nat) (w x:By) (n n':Int) (l:Bool):(∀ m,BZ A1 k= .ok m->w=m) ->
  ∀ st2:Except Er Nat,st2=AN A1 (T.D2.any fun c=>decide (c.name=w)) (BH A1 k) ->
  (∀ k2,st2= .ok k2->x=(A9 A1 k2).1) ->
  ∀ st3:Except Er Nat,st3=G2 st2 (Hr A1 [Fm,BO]) ->
  (∀ k2 m k',st3= .ok k2->rdNum A1 0 (fun _=>true) k2= .ok (m,k')->n=m) ->
  ∀ st4:Except Er Nat,st4=G2 st3 (T3 A1 0) ->
  (∀ k2 m k',st4= .ok k2->rdNum A1 0 (fun _=>true) k2= .ok (m,k')->n'=m) ->
  ∀ st5:Except Er Nat,st5=G2 st4 (T3 A1 0) ->
  (∀ k2,st5= .ok k2->l=decide ((A9 A1 k2).1=HH)) ->
  match S9 A1 T k with
  | .ok (T2,k')=>{ T with D2:=T.D2++[⟨w,cond (decide (x=BO)) 2 1,n,n',l⟩] }=T2/\G2 st5 (dw A1 HH)= .ok k'
  | .error x=>G2 st5 (dw A1 HH)= .error x:=by
 rintro hw _ rfl hx _ rfl hn _ rfl hn' _ rfl hl;unfold S9;cases hR:BZ A1 k with
 | error y=>
   have e0:BH A1 k= .error y:=by unfold BH;rw[hR];rfl
   have:AN A1 (T.D2.any fun c=>decide (c.name=w)) (BH A1 k)= .error y:=by rw[e0];cases T.D2.any fun c=>decide (c.name=w)<;>rfl
   rw[this];rfl
 | ok m =>
   obtain rfl:=hw _ hR;have e0:BH A1 k= .ok (k+1):=by unfold BH;rw[hR];rfl
   cases hd:T.D2.any fun c=>decide (c.name=w)with
   | true=>
     simp only[e0,C1,D9,hd,Dl];rfl
   | false =>
     rw[e0,hd]at hx hn hn' hl;have es:AN A1 false (.ok (k+1))= .ok (k+1):=rfl;rw[es]at hx hn hn' hl;rw[C1]at hn hn' hl;simp only[e0,es,C1,hd,Hf,GX];have hx:=hx _ rfl;have e1:Hr A1 [Fm,BO] (k+1)=G2 (Ct A1 [Fm,BO] (k+1)) fun(_,k')=> .ok k':=rfl;cases hO:Ct A1 [Fm,BO] (k+1)with
     |error y=>rw[e1,hO];rfl
     | ok p=>
       obtain⟨o,k2⟩:=p;have ho:o=x:=by
        unfold Ct rd1 at hO;rw[hx];split at hO
        ·rename_i h;split at h
         ·cases hO;cases h;rfl
         ·cases h
        ·cases hO
       subst ho;rw[hO,C1]at e1;rw[e1]at hn hn' hl ⊢;rw[C1]at hn' hl;simp only[C1];have e2:T3 A1 0 k2=G2 (rdNum A1 0 (fun _=>true) k2) fun(_,k')=> .ok k':=rfl;unfold N7;cases hN:rdNum A1 0 (fun _=>true) k2 with
       |error y=>rw[e2,hN];rfl
       | ok p=>
         obtain⟨lo,k3⟩:=p;obtain rfl:=hn _ _ _ rfl hN;rw[hN,C1]at e2;rw[e2]at hn' hl ⊢;rw[C1]at hl;simp only[C1];have e3:T3 A1 0 k3=G2 (rdNum A1 0 (fun _=>true) k3) fun(_,k')=> .ok k':=rfl;cases hM:rdNum A1 0 (fun _=>true) k3 with
         |error y=>rw[e3,hM];rfl
         | ok p=>
           obtain⟨hi,k4⟩:=p;obtain rfl:=hn' _ _ _ rfl hM;rw[hM,C1]at e3;rw[e3]at hl ⊢;obtain rfl:=hl _ rfl;exact⟨rfl,rfl⟩
def nh (h:Rn Z0 Z b T seen s tv A1 (.ok k) v fc vs) (C7:Ends A1) (hsh:u9 A1) (hlen:T.D2.length<=100000) :
  Ev (gO 128 [.pointer (some ⟨b,0,none⟩)] Z) (RnP Z0 b seen s tv A1 (S9 A1 T k)) ⟨⟩:=by
 refine D0 Tryz.func128 rfl rfl ?_;have hb:=h.lt;have hW:=h.rw;refine gS ?_;refine(Wr hW C7 hsh).mono ?_;rintro r ⟨Z1,w,rfl,X1,W1,hw⟩;rw[C1]at W1;have hw:=hw _ rfl;have hw':∀ m,BZ A1 k= .ok m->w=m:=by
  intro m hm;unfold BZ at hm;split at hm
  ·cases hm;exact hw
  ·cases hm
 have n1:=X1.n;obtain⟨la,hla⟩:=h.lst (i:=1) (n:=T.D2.length) om (z2z ..);obtain⟨S1,hS1⟩:=nm ((Z1.new [str [],.int .i64 0,.int .i64 0,.int .i64 0,.bool false] (some 64)).upd Z1.n [str w,.int .i64 1,.int .i64 0,.int .i64 0,.bool false]);have E1:Ext Z1 S1:=by rw[<- hS1];exact eX
 have nS:S1.n=Z1.n+1:=by rw[<- hS1];rfl
 have c1:S1.A7 Z1.n=some [str w,.int .i64 1,.int .i64 0,.int .i64 0,.bool false]:=by rw[<- hS1];exact cL
 have XS:B9 b Z S1:=X1.trans (.of E1);have WS:=W1.ext E1;have MP:∀ k1,BH A1 k= .ok k1->1<=k1:=by
  intro k1 e;unfold BH at e;cases hR:BZ A1 k with
  |error y=>rw[hR]at e;cases e
  |ok m=>rw[hR]at e;cases e;omega
 generalize uT:BH A1 k=st1 at W1 WS MP;refine gS1 hS1 ?_
 try rw[hS1]
 generalize hcb:Z1.n=cb at nS c1 ⊢;have bcb:b≠cb:=om
 refine F4 T.D2.length (fun i fr Z'=>fr.get 0=some (.pointer (some ⟨b,0,none⟩))/\fr.get 2=some (.pointer (some ⟨cb,0,none⟩))/\fr.get 3=some (.int .i64 (i:Nat))/\B9 b Z Z'/\cb<Z'.n/\Z'.A7 cb=some [str w,.int .i64 1,.int .i64 0,.int .i64 0,.bool false]/\Rw Z' b tv A1 (o9 s T v fc) (AN A1 ((T.D2.take i).any fun c=>decide (c.name=w)) st1))
  (fun r=>∃ fr Z',r=⟨.exit 0,fr,Z'⟩/\fr.get 0=some (.pointer (some ⟨b,0,none⟩))/\fr.get 2=some (.pointer (some ⟨cb,0,none⟩))/\B9 b Z Z'/\cb<Z'.n/\Z'.A7 cb=some [str w,.int .i64 1,.int .i64 0,.int .i64 0,.bool false]/\Rw Z' b tv A1 (o9 s T v fc) (AN A1 (T.D2.any fun c=>decide (c.name=w)) st1)) ?_ ?_ ?_ ?_
 ·exact⟨fR,fR,fR,XS,om,c1,WS⟩
 ·rintro i fr Z' hi ⟨g0,g2,g3,hX,hn,hcr,hR0⟩;have hR:=h.step hX hR0;obtain⟨kk,a,e,c1,c2,c3,c4,c5,hfc,hh,hd,hs,ro⟩:=hR.cells;have rr:=A6 ro;have rc:=A6 hcr;rw[hla]at rr;have hc:=J2 hi;obtain⟨x,hx⟩:=E8 hi;have hsl:=(hR.sl 1 om).sl;rw[hla]at hsl;obtain⟨a',cc,b2,off,cells,q0,l1,l2⟩:=hsl.use;rw[show(Hn T vs seen 1).length=T.D2.length from z2z ..]at q0 l1;cases q0;obtain⟨sp,rfl,l3,l4⟩:=l1 om;have m1:sub cells (off+i*5) 5=some x.row:=l2 i x.row (by show(T.D2.map AB.row)[i]? =_;rw[List.getElem?_map,hx];rfl);have m2:sub cells (off+i*5) 1=some [str x.name]:=CM (i:=0) (m:=1) m1 om;refine gV1 (aI g0 (aI g2 (aI g3 (aI hc (aI rr (aI rc (aI l4 (aI m1 m2)))))))) ?_;have hst:AN A1 ((T.D2.take (i+1)).any fun c=>decide (c.name=w)) st1=(if decide (x.name=w)then G2 (AN A1 ((T.D2.take i).any fun c=>decide (c.name=w)) st1) (LZ A1 13)else AN A1 ((T.D2.take i).any fun c=>decide (c.name=w)) st1):=by
   rw[Dj,hx,Wa,Ps];simp
  cases hxe:decide (x.name=w)with
  | true=>
    refine gV1 (aI g0 hxe) ?_;refine(KB (e:=13) hR0 om fun k2 h2=>Oa MP h2).mono ?_;rintro r ⟨Z2,rfl,X2,W2⟩;have n2:=X2.n;refine gV1 (aI g0 (aI g2 g3)) ?_;exact⟨fR1 g0,fR1 g2,fR,hX.trans X2,om,by rw[X2.A7 om om];exact hcr,by rw[hst,hxe,z1z rfl];exact W2⟩
  | false=>
    refine gV1 (aI g0 (aI g2 (aI g3 hxe))) ?_;exact⟨fR1 g0,fR1 g2,fR,hX,hn,hcr,by rw[hst,hxe,z0z (by simp)];exact hR0⟩
 ·rintro fr Z' ⟨g0,g2,g3,hX,hn,hcr,hR0⟩;have hR:=h.step hX hR0;obtain⟨kk,a,e,c1,c2,c3,c4,c5,hfc,hh,hd,hs,ro⟩:=hR.cells;have rr:=A6 ro;rw[hla]at rr;rw[Bl]at hR0;have hc:decide ((T.D2.length:Int)<(T.D2.length:Int))=false:=sI;refine gV1 (aI g0 (aI g2 (aI g3 (aI hc rr)))) ?_;exact⟨_,_,rfl,fR1 g0,fR1 g2,hX,hn,hcr,hR0⟩
 rintro r ⟨fr,Z2,rfl,g0,g2,X2,n2,rc2,W2⟩;generalize uU:AN A1 (T.D2.any fun c=>decide (c.name=w)) st1=st2 at W2;refine gV1 (aI g0 g2) ?_;refine(eA (u:=Fm) (w:=BO) W2 C7 (by decide) (by decide)).mono ?_;rintro r ⟨Z3,x,rfl,X3,W3,hx⟩;have n3:=X3.n;have rc3:=eT (X3.A7 om om) rc2;have X3':=X2.trans X3;obtain⟨st3,Aa7⟩:=nm (G2 st2 (Hr A1 [Fm,BO]));rw[Aa7]at W3;have hdo:decide (x=[111,102,102,101,114])=decide (x=BO):=rfl;cases ho:decide (x=BO)
 case' true=>
  have AH9:=A6 rc3;refine gV1 (aI g0 (aI g2 (aI hdo (aI ho (aI rc3 AH9))))) ?_;obtain⟨S3,hS3⟩:=nm (Z3.upd cb [str w,.int .i64 2,.int .i64 0,.int .i64 0,.bool false]);have X3s:B9 b Z S3:=by rw[<- hS3];exact B9.As X3' om _
  have W3s:Rw S3 b tv A1 (o9 s T v fc) st3:=hW.far X3s W3 (by rw[<- hS3,I1 bcb]);have rs3:S3.A7 cb=some [str w,.int .i64 2,.int .i64 0,.int .i64 0,.bool false]:=by rw[<- hS3];exact D5
  have n3s:cb<S3.n:=by rw[<- hS3];exact(by omega:cb<Z3.n)
  try rw[hS3]
  obtain⟨kd,hkd⟩:=nm ((cond (decide (x=BO)) 2 1:Int));have rs3:S3.A7 cb=some [str w,.int .i64 kd,.int .i64 0,.int .i64 0,.bool false]:=by rw[<- hkd,ho];exact rs3
 case' false=>
  refine gV1 (aI g0 (aI g2 (aI hdo ho))) ?_;obtain⟨S3,hS3⟩:=nm Z3;have X3s:B9 b Z S3:=by rw[<- hS3];exact X3'
  have W3s:Rw S3 b tv A1 (o9 s T v fc) st3:=by rw[<- hS3];exact W3
  have rs3:S3.A7 cb=some [str w,.int .i64 1,.int .i64 0,.int .i64 0,.bool false]:=by rw[<- hS3];exact rc3
  have n3s:cb<S3.n:=by rw[<- hS3];omega
  rw[hS3];obtain⟨kd,hkd⟩:=nm ((cond (decide (x=BO)) 2 1:Int));have rs3:S3.A7 cb=some [str w,.int .i64 kd,.int .i64 0,.int .i64 0,.bool false]:=by rw[<- hkd,ho];exact rs3
 all_goals
  refine(T4 (I3:=0) W3s C7 hsh).mono ?_;rintro r ⟨Z4,lo,rfl,X4,W4,hlo⟩;have n4:=X4.n;have rc4:=eT (X4.A7 om om) rs3;have AI0:=A6 rc4;obtain⟨st4,Aa8⟩:=nm (G2 st3 (T3 A1 (0:Nat)));rw[Aa8]at W4;obtain⟨S4,hS4⟩:=nm (Z4.upd cb [str w,.int .i64 kd,.int .i64 lo,.int .i64 0,.bool false]);have X4s:B9 b Z S4:=by rw[<- hS4];exact B9.As (X3s.trans X4) om _
  have W4s:Rw S4 b tv A1 (o9 s T v fc) st4:=hW.far X4s W4 (by rw[<- hS4,I1 bcb]);have rs4:S4.A7 cb=some [str w,.int .i64 kd,.int .i64 lo,.int .i64 0,.bool false]:=by rw[<- hS4];exact D5
  have n4s:cb<S4.n:=by rw[<- hS4];exact(by omega:cb<Z4.n)
  refine gV1 (aI g0 (aI g2 (aI rc4 (aI AI0 hS4)))) ?_
  try rw[hS4]
  refine(T4 (I3:=0) W4s C7 hsh).mono ?_;rintro r ⟨Z5,hi,rfl,X5,W5,hhi⟩;have n5:=X5.n;have rc5:=eT (X5.A7 om om) rs4;have Aa9:=A6 rc5;obtain⟨st5,uV⟩:=nm (G2 st4 (T3 A1 (0:Nat)));rw[uV]at W5;obtain⟨S5,hS5⟩:=nm (Z5.upd cb [str w,.int .i64 kd,.int .i64 lo,.int .i64 hi,.bool false]);have X5s:B9 b Z S5:=by rw[<- hS5];exact B9.As (X4s.trans X5) om _
  have W5s:Rw S5 b tv A1 (o9 s T v fc) st5:=hW.far X5s W5 (by rw[<- hS5,I1 bcb]);have rs5:S5.A7 cb=some [str w,.int .i64 kd,.int .i64 lo,.int .i64 hi,.bool false]:=by rw[<- hS5];exact D5
  have n5s:cb<S5.n:=by rw[<- hS5];exact(by omega:cb<Z5.n)
  have R5:=h.step X5s W5s;have uW:=fun(l:Bool) (st5:Except Er Nat) (h5:st5=G2 st4 (T3 A1 0)) (hl:∀ k2,st5= .ok k2->l=decide ((A9 A1 k2).1=HH))=>ng A1 T k w x lo hi l hw' st2 (by rw[uT];exact uU.symm) hx st3 Aa7.symm (fun k2 m k'=>hlo k2 m k') st4 Aa8.symm (fun k2 m k'=>hhi k2 m k') st5 h5 hl;rw[hkd]at uW;obtain⟨kk,a,e,d1,d2,d3,d4,d5,hfc,hh,hd,hs,ro⟩:=R5.cells;have rr:=A6 ro;have uX:=A6 rs5;rw[hla]at rr ro;cases st5 with
  | error y=>
    have hd0:decide (e=0)=false:=hd;refine gUd (a14N @Bx @Aj @Ak @Al @V3 @V4 @V5 @V6 @O5 @O6 @O7 @O8 @O9 @P6) (aI @A4 (aI @P9 (aI @N5 (aI @N6 (aI @K6 (aI @M4 (aI @M5 (aI @K7 (aI @K8 (aI @H8 (aI @Am (aI @V1 (aI g0 (aI g2 (aI rc5 (aI Aa9 (aI hS5 (aI rr (aI hd0 uX))))))))))))))))))) ?_
    try rw[hS5]
    have R5x:=R5;obtain⟨kx,ax,ex,f1,f2,f3,f4,f5,rfl,hhx,hdx,hsx,rox⟩:=R5x.cells;rw[hla]at rox;have R6:=R5x.J0 (Ext.new (t:=none) S5 [str w,.int .i64 kd,.int .i64 lo,.int .i64 hi,.bool false]);have hl0:=R6.sl 1 om;have e1:I2 (v 1)≠some b:=fun e=>by have:=((R6.sl 1 om).blk e).1;have:=h.btl;omega
    have hb5:=R5x.lt;rw[hla]at hl0 e1;refine G4 (lo:=Z0.n) (D4:=T.D2.map AB.row) (row:=[str w,.int .i64 kd,.int .i64 lo,.int .i64 hi,.bool false]) (fun _ _ _ _=>N9) hl0 (D1 nL nL) (D8 (by simp) (by simp)) (by rw[z2z];omega) (by have:=R6.ext.n;simp at this ⊢;omega) ?_;intro v' Z7 y1 y2 y3;have ro7:Z7.A7 b=some [tv,.int .i64 (kx:Nat),.int .i64 ax,.int .i64 ex,str s,str T.name,v 0,.slice la T.D2.length T.D2.length,v 2,.int .i64 T.low,.int .i64 T.high,f1,f2,f3,f4,f5,v 3,.int .i64 T.P8,v 4,.int .i64 T.J8,.int .i64 T.t.q,.int .i64 T.t.b,.int .i64 T.t.g,.int .i64 T.t.p,.int .i64 T.t.s,v 5]:=by
     rw[B8 (y2.same b (by simp;omega) e1),E9 om];exact rox
    obtain⟨a',rfl⟩:=OL.shape y1;have R7:=R6.app (T':={ T with D2:=T.D2++[⟨w,kd,lo,hi,false⟩] }) (vs':=vs) (seen':=seen) (i:=1) hhx (hsx.ext (Ext.new (t:=none) S5 [str w,.int .i64 kd,.int .i64 lo,.int .i64 hi,.bool false])) om (by rw[hla];exact y2) (by show OL _ _ 5 _ (List.map _ _);rw[y7];exact y1) (by intro j hj hne;match j,hj,hne with|0,_,_=>rfl|2,_,_=>rfl|3,_,_=>rfl|4,_,_=>rfl|5,_,_=>rfl) rfl R6.iv;have e2:I2 (v 1)≠some cb:=fun e=>by have:=((h.sl 1 om).blk e).2;omega
    rw[hla]at e2;refine gV1 ro7 ?_;refine dW1 (aI (Ba y2 e1) (Ba y2 e2)) ?_;refine gS1 @Tryz.results128 ?_;exact⟨_,{ T with D2:=T.D2++[⟨w,kd,lo,hi,false⟩] },_,vup v 1 _,_,_,rfl,R7,uW false (.error y) uV.symm (fun k2 h=>by cases h)⟩
  | ok k5=>
    have hd0:decide (e=0)=true:=hd;refine gUd (a14N @Bx @Aj @Ak @Al @V3 @V4 @V5 @V6 @O5 @O6 @O7 @O8 @O9 @P6) (aI @A4 (aI @P9 (aI @N5 (aI @N6 (aI @K6 (aI @M4 (aI @M5 (aI @K7 (aI @K8 (aI @H8 (aI @Am (aI @V1 (aI g0 (aI g2 (aI rc5 (aI Aa9 (aI hS5 (aI rr (aI hd0 uX))))))))))))))))))) ?_
    try rw[hS5]
    obtain⟨a0,ha0,hs5⟩:=W5s;have ht0:=I9 hs5.k;refine(K5 hs5).mono ?_;rintro r rfl;have hdl:decide ((A9 A1 k5).1=[108,101,115,115])=decide ((A9 A1 k5).1=HH):=rfl;cases hle:decide ((A9 A1 k5).1=HH)with
    | true=>
      obtain⟨rfl,rfl,rfl⟩:=hh;have BJ9:=hs.len;have hk5:=hs.k;have ek:(k5:Int)+1=((k5+1:Nat):Int):=om;obtain⟨S6,hS6⟩:=nm ((S5.upd cb [str w,.int .i64 kd,.int .i64 lo,.int .i64 hi,.bool true]).upd b [tv,.int .i64 (k5+1:Nat),.int .i64 0,.int .i64 0,str s,str T.name,v 0,.slice la T.D2.length T.D2.length,v 2,.int .i64 T.low,.int .i64 T.high,d1,d2,d3,d4,d5,v 3,.int .i64 T.P8,v 4,.int .i64 T.J8,.int .i64 T.t.q,.int .i64 T.t.b,.int .i64 T.t.g,.int .i64 T.t.p,.int .i64 T.t.s,v 5]);have X6s:B9 b Z S6:=by rw[<- hS6];exact(B9.As X5s om _).upd _
      have W6s:Rw S6 b tv A1 (o9 s T v fc) (.ok (k5+1)):=⟨0,rfl,hs5.tf X6s hW (by rw[<- hS6,hfc,D5,<- hla];rfl) (C7 k5 _ ht0 (by rw[z6z hle];decide))⟩
      have R6x:=h.step X6s W6s;have rs6:S6.A7 cb=some [str w,.int .i64 kd,.int .i64 lo,.int .i64 hi,.bool true]:=by rw[<- hS6,I1 (fun e=>bcb e.symm)];exact D5
      have Au2:=A6 rs6;have R5x:=R6x;obtain⟨kx,ax,ex,f1,f2,f3,f4,f5,Au3,hhx,hdx,hsx,rox⟩:=R5x.cells;have rrx:=A6 rox;rw[hla]at rox rrx;refine gUd (a14N @Bx @Aj @Ak @Al @V3 @V4 @V5 @V6 @O5 @O6 @O7 @O8 @O9 @P6) (aI @A4 (aI @P9 (aI @N5 (aI @N6 (aI @K6 (aI @M4 (aI @M5 (aI @K7 (aI @K8 (aI @H8 (aI @Am (aI @V1 (aI g0 (aI g2 (aI hdl (aI hle (aI rr (aI ro (aI ek (aI rs5 (aI uX (aI hS6 (aI rrx Au2))))))))))))))))))))))) ?_
      try rw[hS6]
      subst Au3;have R6:=R5x.J0 (Ext.new (t:=none) S6 [str w,.int .i64 kd,.int .i64 lo,.int .i64 hi,.bool true]);have hl0:=R6.sl 1 om;have e1:I2 (v 1)≠some b:=fun e=>by have:=((R6.sl 1 om).blk e).1;have:=h.btl;omega
      have hb5:=R5x.lt;rw[hla]at hl0 e1;refine G4 (lo:=Z0.n) (D4:=T.D2.map AB.row) (row:=[str w,.int .i64 kd,.int .i64 lo,.int .i64 hi,.bool true]) (fun _ _ _ _=>N9) hl0 (D1 nL nL) (D8 (by simp) (by simp)) (by rw[z2z];omega) (by have:=R6.ext.n;simp at this ⊢;omega) ?_;intro v' Z7 y1 y2 y3;have ro7:Z7.A7 b=some [tv,.int .i64 (kx:Nat),.int .i64 ax,.int .i64 ex,str s,str T.name,v 0,.slice la T.D2.length T.D2.length,v 2,.int .i64 T.low,.int .i64 T.high,f1,f2,f3,f4,f5,v 3,.int .i64 T.P8,v 4,.int .i64 T.J8,.int .i64 T.t.q,.int .i64 T.t.b,.int .i64 T.t.g,.int .i64 T.t.p,.int .i64 T.t.s,v 5]:=by
       rw[B8 (y2.same b (by simp;omega) e1),E9 om];exact rox
      obtain⟨a',rfl⟩:=OL.shape y1;have R7:=R6.app (T':={ T with D2:=T.D2++[⟨w,kd,lo,hi,true⟩] }) (vs':=vs) (seen':=seen) (i:=1) hhx (hsx.ext (Ext.new (t:=none) S6 [str w,.int .i64 kd,.int .i64 lo,.int .i64 hi,.bool true])) om (by rw[hla];exact y2) (by show OL _ _ 5 _ (List.map _ _);rw[y7];exact y1) (by intro j hj hne;match j,hj,hne with|0,_,_=>rfl|2,_,_=>rfl|3,_,_=>rfl|4,_,_=>rfl|5,_,_=>rfl) rfl R6.iv;have e2:I2 (v 1)≠some cb:=fun e=>by have:=((h.sl 1 om).blk e).2;omega
      rw[hla]at e2;refine gV1 ro7 ?_;refine dW1 (aI (Ba y2 e1) (Ba y2 e2)) ?_;refine gS1 @Tryz.results128 ?_;exact⟨_,{ T with D2:=T.D2++[⟨w,kd,lo,hi,true⟩] },_,vup v 1 _,_,_,rfl,R7,by have q:=uW true (.ok k5) uV.symm (fun k2 h=>by cases h;exact hle.symm);unfold dw at q;rw[C1,hle]at q;exact q⟩
    | false=>
      refine gUd (a14N @Bx @Aj @Ak @Al @V3 @V4 @V5 @V6 @O5 @O6 @O7 @O8 @O9 @P6) (aI @A4 (aI @P9 (aI @N5 (aI @N6 (aI @K6 (aI @M4 (aI @M5 (aI @K7 (aI @K8 (aI @H8 (aI @Am (aI @V1 (aI g0 (aI g2 (aI hdl (aI hle (aI rr (aI rs5 uX)))))))))))))))))) ?_;have R5x:=R5;obtain⟨kx,ax,ex,f1,f2,f3,f4,f5,rfl,hhx,hdx,hsx,rox⟩:=R5x.cells;rw[hla]at rox;have R6:=R5x.J0 (Ext.new (t:=none) S5 [str w,.int .i64 kd,.int .i64 lo,.int .i64 hi,.bool false]);have hl0:=R6.sl 1 om;have e1:I2 (v 1)≠some b:=fun e=>by have:=((R6.sl 1 om).blk e).1;have:=h.btl;omega
      have hb5:=R5x.lt;rw[hla]at hl0 e1;refine G4 (lo:=Z0.n) (D4:=T.D2.map AB.row) (row:=[str w,.int .i64 kd,.int .i64 lo,.int .i64 hi,.bool false]) (fun _ _ _ _=>N9) hl0 (D1 nL nL) (D8 (by simp) (by simp)) (by rw[z2z];omega) (by have:=R6.ext.n;simp at this ⊢;omega) ?_;intro v' Z7 y1 y2 y3;have ro7:Z7.A7 b=some [tv,.int .i64 (kx:Nat),.int .i64 ax,.int .i64 ex,str s,str T.name,v 0,.slice la T.D2.length T.D2.length,v 2,.int .i64 T.low,.int .i64 T.high,f1,f2,f3,f4,f5,v 3,.int .i64 T.P8,v 4,.int .i64 T.J8,.int .i64 T.t.q,.int .i64 T.t.b,.int .i64 T.t.g,.int .i64 T.t.p,.int .i64 T.t.s,v 5]:=by
       rw[B8 (y2.same b (by simp;omega) e1),E9 om];exact rox
      obtain⟨a',rfl⟩:=OL.shape y1;have R7:=R6.app (T':={ T with D2:=T.D2++[⟨w,kd,lo,hi,false⟩] }) (vs':=vs) (seen':=seen) (i:=1) hhx (hsx.ext (Ext.new (t:=none) S5 [str w,.int .i64 kd,.int .i64 lo,.int .i64 hi,.bool false])) om (by rw[hla];exact y2) (by show OL _ _ 5 _ (List.map _ _);rw[y7];exact y1) (by intro j hj hne;match j,hj,hne with|0,_,_=>rfl|2,_,_=>rfl|3,_,_=>rfl|4,_,_=>rfl|5,_,_=>rfl) rfl R6.iv;have e2:I2 (v 1)≠some cb:=fun e=>by have:=((h.sl 1 om).blk e).2;omega
      rw[hla]at e2;refine gV1 ro7 ?_;refine dW1 (aI (Ba y2 e1) (Ba y2 e2)) ?_;refine gS1 @Tryz.results128 ?_;exact⟨_,{ T with D2:=T.D2++[⟨w,kd,lo,hi,false⟩] },_,vup v 1 _,_,_,rfl,R7,by have q:=uW false (.ok k5) uV.symm (fun k2 h=>by cases h;exact hle.symm);unfold dw at q;rw[C1,hle]at q;exact q⟩
end
section
variable {Z0 Z Z' τ:St}{b:Nat}{T T':Tn}{seen seen':List By}{s:By}{tv:Value}{A1:List Tok}{st st':Except Er Nat}{v:Nat->Value}{fc fc' vs vs':List Value}{k:Nat}{C8:List Value}{a e:Int}
def VW (A1:List Tok) (e:Int) (k:Nat):Except Er Nat:= .error ((A9 A1 k).2,e)
def CB {er:Int}(hh:Hd3 st k a e) (hs:Sc Z b tv A1 k (.int .i64 a:: .int .i64 e::C8)) (he:er≠0) :
  Ev (gO 87 [.pointer (some ⟨b,0,none⟩),.int .i64 er] Z) (fun r=>∃ Z' a' e',r=⟨false,.tuple ⟨[]⟩,Z'⟩/\B9 b Z Z'/\Hd3 (G2 st (VW A1 er)) k a' e'/\Sc Z' b tv A1 k (.int .i64 a':: .int .i64 e'::C8)) ⟨⟩:=by
 cases st with
 | ok k'=>
   obtain⟨rfl,rfl,rfl⟩:=hh;refine(Y6 (e:=er) hs).mono ?_;rintro r ⟨Z',rfl,X,o⟩;exact⟨_,_,_,rfl,X,⟨rfl,rfl,he⟩,hs.K4 X o hs.k⟩
 | error pe=>
   obtain⟨rfl,rfl,h0⟩:=hh;refine(aP (e:=er) h0 hs).mono ?_;rintro r rfl;exact⟨_,_,_,rfl,.refl,⟨rfl,rfl,h0⟩,hs⟩
def Rn.Fh {a' e':Int}{k':Nat}(h:Rn Z0 Z b T seen s tv A1 st v fc vs) (hE:B9 b Z Z') (hh:Hd3 st' k' a' e') (hs:Sc Z' b tv A1 k' (.int .i64 a':: .int .i64 e'::o9 s T v fc)):Rn Z0 Z' b T seen s tv A1 st' v fc vs:=h.step hE (hh.rw hs)
def Rn.VX (h:Rn Z0 Z b T seen s tv A1 st v fc vs) (hh:Hd3 st k a e) (hs:Sc Z b tv A1 k (.int .i64 a:: .int .i64 e::o9 s T v fc)):∃ c1 c2 c3 c4 c5:Value,fc=[c1,c2,c3,c4,c5]/\decide (e=0)=AL7 st /\
  Z.A7 b=some [tv,.int .i64 (k:Nat),.int .i64 a,.int .i64 e,str s,str T.name,v 0,v 1,v 2,.int .i64 T.low,.int .i64 T.high,c1,c2,c3,c4,c5,v 3,.int .i64 T.P8,v 4,.int .i64 T.J8,.int .i64 T.t.q,.int .i64 T.t.b,.int .i64 T.t.g,.int .i64 T.t.p,.int .i64 T.t.s,v 5]:=by
 obtain⟨c1,c2,c3,c4,c5,rfl⟩:=fc5 h.fx;exact⟨c1,c2,c3,c4,c5,rfl,hh.dec,hs.row⟩
def He (A1:List Tok) (c:Bool) (e:Int) (st:Except Er Nat):Except Er Nat:=if c then G2 st (VW A1 e)else st
def kr {c d:Bool}{er:Int}{st:Except Er Nat}:He A1 (c||d) er st=(if d then G2 (He A1 c er st) (VW A1 er)else He A1 c er st):=by
 cases c<;>cases d<;>cases st<;>rfl
def AB0 (st:Except Er Nat):Except Er Nat:=G2 st fun k=> .ok (k+1)
def Hd3.inc (hh:Hd3 st k a e):Hd3 (AB0 st) (k+1) a e:=by
 cases st with
 |ok k'=>obtain⟨rfl,rfl,rfl⟩:=hh;exact⟨rfl,rfl,rfl⟩
 |error pe=>exact hh
def AQ4 (A1:List Tok) (T:Tn) (k:Nat) (T':Tn) (st:Except Er Nat) (j:Nat):Prop:=match st with
 | .ok k'=>j=A1.length-k'/\T'.F5.length<=12/\Rf A1 j T' k'=HE A1 T k
 | .error x=>HE A1 T k= .error x
def EX (R:Except Er (Tn×Nat)) (T':Tn) (st:Except Er Nat):Prop:=match R with
 | .ok (T2,k')=>T'=T2/\st= .ok k'
 | .error x=>st= .error x
noncomputable def tiC (l:List Nat):Code:=HF l ((Tryz.f133).body.getD .skip)
def Ai8:tiC [2,3]= .seq (tiC [2,3,0]) (tiC [2,3,1]):=kR
def Ai9:tiC [2,3,1]= .block 1 (tiC [2,3,1,2]):=kR
def Aj0:tiC [2,3,1,2]= .seq (tiC [2,3,1,2,0]) (tiC [2,3,1,2,1]):=kR
def Aj1:tiC [2,3,1,2,1]= .seq (tiC [2,3,1,2,1,0]) (tiC [2,3,1,2,1,1]):=kR
def Aj2:tiC [2,3,1,2,1,1]= .seq (tiC [2,3,1,2,1,1,0]) (tiC [2,3,1,2,1,1,1]):=kR
def Tz {fr:Fr}{w:By}(h:Rn Z0 Z b T seen s tv A1 (.ok k) v fc vs) (hlen:T.F5.length<=12) (hw:(A9 A1 k).1=w) (hk1:k+1<A1.length) (g0:fr.get 0=some (.pointer (some ⟨b,0,none⟩))) (g2:fr.get 2=some (str w)) :
  Ev (lim Tryz.prog HS none (tiC [2,3,1,2,1,1,1]) fr Z) (fun r=>∃ fr' Z2 v2,r=⟨.normal,fr',Z2⟩/\fr'.get 0=some (.pointer (some ⟨b,0,none⟩))/\Rn Z0 Z2 b { T with F5:=T.F5++[w] } seen s tv A1 (AB0 (He A1 (decide (T.F5.length=12)) 2 (He A1 (T.F5.contains w) 13 (.ok k)))) v2 fc vs) ⟨⟩:=by
 obtain⟨la,hla⟩:=h.lst (i:=3) (n:=T.F5.length) om (z2z ..);obtain⟨q1,q2,q3,q4,q5,rfl⟩:=fc5 h.fx;simp only[tiC,Tryz.f133,J4,M0,BP,BQ,BR,BS];refine gS ?_
 refine F4 T.F5.length (fun i fr Z'=>fr.get 0=some (.pointer (some ⟨b,0,none⟩))/\fr.get 2=some (str w)/\fr.get 4=some (.int .i64 (i:Nat))/\B9 b Z Z'/\∃ a e,Hd3 (He A1 ((T.F5.take i).any fun x=>decide (x=w)) 13 (.ok k)) k a e/\Sc Z' b tv A1 k (.int .i64 a:: .int .i64 e::o9 s T v [q1,q2,q3,q4,q5]))
  (fun r=>∃ fr Z' a e,r=⟨.exit 2,fr,Z'⟩/\fr.get 0=some (.pointer (some ⟨b,0,none⟩))/\fr.get 2=some (str w)/\B9 b Z Z'/\Hd3 (He A1 (T.F5.any fun x=>decide (x=w)) 13 (.ok k)) k a e/\Sc Z' b tv A1 k (.int .i64 a:: .int .i64 e::o9 s T v [q1,q2,q3,q4,q5])) ?_ ?_ ?_ ?_
 ·obtain⟨k0,a,e,hh,hs⟩:=h.sc;have hk0:k=k0:=hh.1;subst hk0;exact⟨fR1 g0,fR1 g2,fR,.refl,a,e,hh,hs⟩
 ·rintro i fr Z' hi ⟨g0,g2,g4,hX,a,e,hh,hs⟩;have hR:=h.Fh hX hh hs;obtain⟨c1,c2,c3,c4,c5,hfc,hd,ro⟩:=hR.VX hh hs;cases hfc;have rr:=A6 ro;rw[hla]at rr;have hc:=J2 hi;obtain⟨x,hx⟩:=E8 hi;have hsl:=(hR.sl 3 om).sl;rw[hla]at hsl;obtain⟨a',cc,b2,off,cells,q0,l1,l2⟩:=hsl.use;rw[show(Hn T vs seen 3).length=T.F5.length from z2z ..]at q0 l1;cases q0;obtain⟨sp,rfl,l3,l4⟩:=l1 om;have m1:sub cells (off+i*1) 1=some [str x]:=l2 i [str x] (by show(T.F5.map fun s=>[str s])[i]? =_;rw[List.getElem?_map,hx];rfl);rw[Df]at m1;have hst:He A1 ((T.F5.take (i+1)).any fun x=>decide (x=w)) 13 (.ok k)=(if decide (x=w)then G2 (He A1 ((T.F5.take i).any fun x=>decide (x=w)) 13 (.ok k)) (VW A1 13)else He A1 ((T.F5.take i).any fun x=>decide (x=w)) 13 (.ok k)):=by
   rw[Dj,hx,Wa,kr];simp
  refine gX1 (aI g0 (aI g2 (aI g4 (aI hc (aI rr (aI l4 m1)))))) ?_;cases hxe:decide (x=w)with
  | true=>
    refine gX1 (aI g0 hxe) ?_;refine(CB (er:=13) hh hs om).mono ?_;rintro r ⟨Z2,a2,e2,rfl,X2,hh2,hs2⟩;refine gX1 (aI g0 (aI g2 g4)) ?_;exact⟨fR1 g0,fR1 g2,fR,hX.trans X2,a2,e2,by rw[hst,hxe,z1z rfl];exact hh2,hs2⟩
  | false=>
    refine gX1 (aI g0 (aI g2 (aI g4 hxe))) ?_;exact⟨fR1 g0,fR1 g2,fR,hX,a,e,by rw[hst,hxe,z0z (by simp)];exact hh,hs⟩
 ·rintro fr Z' ⟨g0,g2,g4,hX,a,e,hh,hs⟩;have hR:=h.Fh hX hh hs;obtain⟨c1,c2,c3,c4,c5,hfc,hd,ro⟩:=hR.VX hh hs;cases hfc;have rr:=A6 ro;rw[hla]at rr;rw[Bl]at hh;have hc:decide ((T.F5.length:Int)<(T.F5.length:Int))=false:=sI;refine gX1 (aI g0 (aI g2 (aI g4 (aI hc rr)))) ?_;exact⟨_,_,a,e,rfl,fR1 g0,fR1 g2,hX,hh,hs⟩
 rintro r ⟨fr,Z2,a,e,rfl,g0,g2,X2,hh,hs⟩;have AF2:(T.F5.any fun x=>decide (x=w))=T.F5.contains w:=by
  rw[z7z,Wb,PV];constructor
  ·rintro⟨x,h1,h2⟩;rw[<- z6z h2];exact h1
  ·exact fun h=>⟨w,h,Aq rfl⟩
 rw[AF2]at hh;have R2:=h.Fh X2 hh hs;obtain⟨c1,c2,c3,c4,c5,hfc,hd,ro⟩:=R2.VX hh hs;cases hfc;have rr:=A6 ro;rw[hla]at rr ro;have ez:decide ((T.F5.length:Int)=12)=decide (T.F5.length=12):=by rw[z7z];simp;omega
 cases h12:decide (T.F5.length=12)with
 | true=>
   refine gX1 (aI g0 (aI g2 (aI rr (aI ez h12)))) ?_;refine(CB (er:=2) hh hs om).mono ?_;rintro r ⟨Z3,a3,e3,rfl,X3,hh3,hs3⟩;have R3:=R2.Fh X3 hh3 hs3;obtain⟨d1,d2,d3,d4,d5,hfd,hd3,ro3⟩:=R3.VX hh3 hs3;cases hfd;rw[hla]at ro3;have Az7:=A6 ro3;have BP2:=R3.lt
   try(refine gUd (a35N @Bx @Aj @Ak @Al @V3 @V4 @V5 @V6 @O5 @O6 @O7 @O8 @O9 @P6 @IZ @Ia @Ib @Ic @Dt @Du @Dv @Ie @Ig @Ih @Ii @Dw @Dx @Dy @Dz @EA @EB @EC @ED @Ij @EE) (aI @A4 (aI @P9 (aI @N5 (aI @N9 (aI @N6 (aI @K6 (aI @M5 (aI @K7 (aI @K8 (aI @H8 (aI @Am (aI @V1 (aI g0 (aI g2 Az7)))))))))))))) ?_;try exact⟨⟩)
   have R6:=R3.J0 (Ext.new (t:=none) Z3 [str w]);have hl0:=R6.sl 3 om;have y0:I2 (v 3)≠some b:=fun e=>by have:=((R6.sl 3 om).blk e).1;have:=h.btl;omega
   rw[hla]at hl0 y0;refine G4 (lo:=Z0.n) (D4:=T.F5.map fun s=>[str s]) (row:=[str w]) (fun _ _ _ _=>M4) hl0 (D1 nL nL) (D8 (by simp) (by simp)) (by rw[z2z];omega) (by have:=R6.ext.n;simp at this ⊢;omega) ?_;intro v' Z7 y1 y2 y3;have ro7:=(show Z7.A7 b=Z3.A7 b by rw[B8 (y2.same b (by simp;omega) y0),E9 om]).trans ro3;obtain⟨a',rfl⟩:=OL.shape y1;have hk3:=hs3.k;have Aj3:=hs3.len;have ek:(k:Int)+1=((k+1:Nat):Int):=om;have R7:=R6.app (T':={ T with F5:=T.F5++[w] }) (vs':=vs) (seen':=seen) (i:=3) hh3 (hs3.ext (Ext.new (t:=none) Z3 [str w])) om (by rw[hla];exact y2) (by show OL _ _ 1 _ (List.map _ _);rw[y7];exact y1) (by intro j hj hne;match j,hj,hne with|0,_,_=>rfl|1,_,_=>rfl|2,_,_=>rfl|4,_,_=>rfl|5,_,_=>rfl) rfl R6.iv;refine gX1 (aI g0 (aI g2 (aI ro7 ek))) ?_;obtain⟨k8,a8,e8,hh8,hs8⟩:=R7.sc;exact⟨_,_,vup v 3 _,rfl,fR1 g0,R7.Fh (B9.refl.upd _) hh3.inc (hs8.K4 (B9.refl.upd _) (by rw[D5];rfl) hk1)⟩
 | false=>
   refine gUd (a35N @Bx @Aj @Ak @Al @V3 @V4 @V5 @V6 @O5 @O6 @O7 @O8 @O9 @P6 @IZ @Ia @Ib @Ic @Dt @Du @Dv @Ie @Ig @Ih @Ii @Dw @Dx @Dy @Dz @EA @EB @EC @ED @Ij @EE) (aI @A4 (aI @P9 (aI @N5 (aI @N9 (aI @N6 (aI @K6 (aI @M5 (aI @K7 (aI @K8 (aI @H8 (aI @Am (aI @V1 (aI g0 (aI g2 (aI rr (aI ez h12)))))))))))))))) ?_;have Az8:=A6 ro;have BP3:=R2.lt
   try(refine gUd (a35N @Bx @Aj @Ak @Al @V3 @V4 @V5 @V6 @O5 @O6 @O7 @O8 @O9 @P6 @IZ @Ia @Ib @Ic @Dt @Du @Dv @Ie @Ig @Ih @Ii @Dw @Dx @Dy @Dz @EA @EB @EC @ED @Ij @EE) (aI @A4 (aI @P9 (aI @N5 (aI @N9 (aI @N6 (aI @K6 (aI @M5 (aI @K7 (aI @K8 (aI @H8 (aI @Am (aI @V1 (aI g0 (aI g2 Az8)))))))))))))) ?_;try exact⟨⟩)
   have R6:=R2.J0 (Ext.new (t:=none) Z2 [str w]);have hl0:=R6.sl 3 om;have y0:I2 (v 3)≠some b:=fun e=>by have:=((R6.sl 3 om).blk e).1;have:=h.btl;omega
   rw[hla]at hl0 y0;refine G4 (lo:=Z0.n) (D4:=T.F5.map fun s=>[str s]) (row:=[str w]) (fun _ _ _ _=>M4) hl0 (D1 nL nL) (D8 (by simp) (by simp)) (by rw[z2z];omega) (by have:=R6.ext.n;simp at this ⊢;omega) ?_;intro v' Z7 y1 y2 y3;have ro7:=(show Z7.A7 b=Z2.A7 b by rw[B8 (y2.same b (by simp;omega) y0),E9 om]).trans ro;obtain⟨a',rfl⟩:=OL.shape y1;have hk3:=hs.k;have Aj3:=hs.len;have ek:(k:Int)+1=((k+1:Nat):Int):=om;have R7:=R6.app (T':={ T with F5:=T.F5++[w] }) (vs':=vs) (seen':=seen) (i:=3) hh (hs.ext (Ext.new (t:=none) Z2 [str w])) om (by rw[hla];exact y2) (by show OL _ _ 1 _ (List.map _ _);rw[y7];exact y1) (by intro j hj hne;match j,hj,hne with|0,_,_=>rfl|1,_,_=>rfl|2,_,_=>rfl|4,_,_=>rfl|5,_,_=>rfl) rfl R6.iv;refine gX1 (aI g0 (aI g2 (aI ro7 ek))) ?_;obtain⟨k8,a8,e8,hh8,hs8⟩:=R7.sc;exact⟨_,_,vup v 3 _,rfl,fR1 g0,R7.Fh (B9.refl.upd _) hh.inc (hs8.K4 (B9.refl.upd _) (by rw[D5];rfl) hk1)⟩
def sM (h:Rn Z0 Z b T seen s tv A1 (.ok k) v fc vs) (C7:Ends A1) (hlen:T.F5.length<=12) :
  Ev (gO 133 [.pointer (some ⟨b,0,none⟩)] Z) (RnP Z0 b seen s tv A1 (HE A1 T k)) ⟨⟩:=by
 refine D0 Tryz.func133 rfl rfl ?_;refine gS ?_
 refine V9 (fun j fr Z'=>∃ T' st' v' fc' vs',fr.get 0=some (.pointer (some ⟨b,0,none⟩))/\Rn Z0 Z' b T' seen s tv A1 st' v' fc' vs'/\AQ4 A1 T k T' st' j)
  (fun r=>∃ T' st' v' fc' vs' fr Z' o,r=⟨o,fr,Z'⟩/\(o= .exit 0\/o= .ret)/\Rn Z0 Z' b T' seen s tv A1 st' v' fc' vs'/\EX (HE A1 T k) T' st') (A1.length-k) ?_ ?_ ?_
 ·exact⟨T,.ok k,v,fc,vs,fR,h,rfl,hlen,rfl⟩
 ·rintro j fr Z' ⟨T',st',v',fc',vs',g0,hR,hG⟩;show Ev (lim Tryz.prog HS none (tiC [2,3]) fr Z') _ _;rw[Ai8,Ai9,Aj0,Aj1,Aj2];obtain⟨X,hX⟩:=nm (tiC [2,3,1,2,1,1,1]);rw[hX];simp only[tiC,Tryz.f133,J4,M0,BP,BQ,BR,BS];obtain⟨kk,a,e,c1,c2,c3,c4,c5,hfc,hh,hd,hs,ro⟩:=hR.cells;have rr:=A6 ro;obtain⟨la,hla⟩:=hR.lst (i:=3) (n:=T'.F5.length) om (z2z ..);rw[hla]at rr ro;cases st' with
  | error x=>
    have hd0:decide (e=0)=false:=hd;refine gX1 (aI g0 (aI rr (aI hd0 (a3N @G9 @H2 @Q9)))) ?_;exact⟨_,_,_,_,_,_,_,_,rfl,.inl rfl,hR,by have hG:HE A1 T k= .error x:=hG;rw[hG];rfl⟩
  | ok k' =>
    obtain⟨rfl,AF3,hT⟩:=hG;obtain⟨rfl,rfl,rfl⟩:=hh;have hk':=hs.k;have zR:=hs.len;have ht0:=I9 hk';obtain⟨f,hf⟩:∃ f,A1.length-k'=f+1:=⟨A1.length-k'-1,om⟩
    rw[hf,GU]at hT;have ez:decide ((T'.F5.length:Int)=0)=decide (T'.F5.length=0):=by rw[z7z];simp
    have ek:(k':Int)+1=((k'+1:Nat):Int):=om
    -- the end,where nothing follows
    have stop:(decide (T'.F5.length=0)|| !decide ((A9 A1 k').1=[]))=false->EX (HE A1 T k) T' (.ok k'):=by
     intro hc;rw[z0z (by rw[hc];simp)]at hT;rw[<- hT];exact⟨rfl,rfl⟩
    generalize hw:(A9 A1 k').1=w at hT stop;have hpp:decide (w=[112,114,105,99,101])=decide (w=Ft):=rfl;have dne:(decide (w=Ft)||AL w)=true->k'+1<A1.length:=by
     intro h;refine C7 k' _ ht0 ?_;rw[hw];rintro rfl;cases h
    cases hz:decide (T'.F5.length=0)with
    | true =>
      refine gX1 (aI g0 (aI rr (aI ez hz))) ?_;have dc:(decide (T'.F5.length=0)|| !decide (w=[]))=true:=by rw[hz];rfl
      rw[z1z dc]at hT;refine(K5 hs).mono ?_;rintro r rfl;rw[hw];refine gS ?_;refine DT.mono ?_;rintro r rfl;rw[KH];cases hg:(decide (w=Ft)||AL w)with
      | false=>
        rw[SK]at hg;refine gX1 (aI g0 (aI hpp (aI (hg.1) (hg.2)))) ?_;refine(CB (er:=12) (st:= .ok k') ⟨rfl,rfl,rfl⟩ hs om).mono ?_;rintro r ⟨Z2,a',e',rfl,X2,hh2,hs2⟩;rw[z0z (by rw[hg.1,hg.2];simp)]at hT;refine gS1 @NL ?_;exact⟨_,_,_,_,_,_,_,_,rfl,.inr rfl,hR.Fh X2 hh2 hs2,by rw[<- hT];rfl⟩
      | true =>
        rw [z1z hg]at hT;have hlt:=dne hg;have fin:∀ (fr:Fr),fr.get 0=some (.pointer (some ⟨b,0,none⟩))->fr.get 2=some (str w)->Ev (lim Tryz.prog HS none (tiC [2,3,1,2,1,1,1]) fr Z') (fun r=>∃ fr' Z2,r=⟨.normal,fr',Z2⟩/\∃ j',j'<A1.length-k'/\∃ T' st' v' fc' vs',fr'.get 0=some (.pointer (some ⟨b,0,none⟩))/\Rn Z0 Z2 b T' seen s tv A1 st' v' fc' vs'/\AQ4 A1 T k T' st' j') ⟨⟩:=by
         intro fr g0 g2;refine(Tz hR AF3 hw hlt g0 g2).mono ?_;rintro r ⟨fr',Z2,v2,rfl,g0',R2⟩;refine⟨_,_,rfl,f,om,_,_,_,_,_,g0',R2,?_⟩;cases hc:T'.F5.contains w with
         | true=>
           rw[z1z hc]at hT;cases decide (T'.F5.length=12)<;>exact hT.symm
         | false=>
           rw[z0z (by rw[hc];simp)]at hT;cases h12:decide (T'.F5.length=12)with
           | true=>
             rw[z0z (by have:=z6z h12;omega)]at hT;exact hT.symm
           | false=>
             have:=z9z h12;rw[z1z om]at hT;exact⟨om,by rw[BD];simp;omega,hT⟩
        cases hpc:decide (w=Ft)
        case' true=>
         refine gX1 (aI g0 (aI hpp hpc)) ?_
        case' false=>
         have hwo:AL w=true:=by rw[hpc,VD]at hg;exact hg
         refine gX1 (aI g0 (aI hpp (aI hpc hwo))) ?_
        all_goals
         try rw[<- hX]
         refine(fin _ (fR1 g0) (fR)).mono ?_;rintro r ⟨fr',Z2,rfl,hJ⟩;refine gS1 @H6 ?_;rw[hf]at hJ ⊢;exact hJ
    | false=>
      refine gX1 (aI g0 (aI rr (aI ez hz))) ?_;refine(K5 hs).mono ?_;rintro r rfl;rw[hw];cases hwe:decide (w=[])with
      | true=>
        refine gX1 (aI g0 (aI rr (aI ez (aI hz (aI hwe (a3N @G9 @H2 @Q9)))))) ?_;exact⟨_,_,_,_,_,_,_,_,rfl,.inl rfl,hR,stop (by rw[hz,hwe];rfl)⟩
      | false=>
        refine gX1 (aI g0 (aI rr (aI ez (aI hz hwe)))) ?_;have dc:(decide (T'.F5.length=0)|| !decide (w=[]))=true:=by rw[hz,hwe];rfl
        rw[z1z dc]at hT;refine(K5 hs).mono ?_;rintro r rfl;rw[hw];refine gS ?_;refine DT.mono ?_;rintro r rfl;rw[KH];cases hg:(decide (w=Ft)||AL w)with
        | false=>
          rw[SK]at hg;refine gX1 (aI g0 (aI hpp (aI (hg.1) (hg.2)))) ?_;refine(CB (er:=12) (st:= .ok k') ⟨rfl,rfl,rfl⟩ hs om).mono ?_;rintro r ⟨Z2,a',e',rfl,X2,hh2,hs2⟩;rw[z0z (by rw[hg.1,hg.2];simp)]at hT;refine gS1 @NL ?_;exact⟨_,_,_,_,_,_,_,_,rfl,.inr rfl,hR.Fh X2 hh2 hs2,by rw[<- hT];rfl⟩
        | true =>
          rw [z1z hg]at hT;have hlt:=dne hg;have fin:∀ (fr:Fr),fr.get 0=some (.pointer (some ⟨b,0,none⟩))->fr.get 2=some (str w)->Ev (lim Tryz.prog HS none (tiC [2,3,1,2,1,1,1]) fr Z') (fun r=>∃ fr' Z2,r=⟨.normal,fr',Z2⟩/\∃ j',j'<A1.length-k'/\∃ T' st' v' fc' vs',fr'.get 0=some (.pointer (some ⟨b,0,none⟩))/\Rn Z0 Z2 b T' seen s tv A1 st' v' fc' vs'/\AQ4 A1 T k T' st' j') ⟨⟩:=by
           intro fr g0 g2;refine(Tz hR AF3 hw hlt g0 g2).mono ?_;rintro r ⟨fr',Z2,v2,rfl,g0',R2⟩;refine⟨_,_,rfl,f,om,_,_,_,_,_,g0',R2,?_⟩;cases hc:T'.F5.contains w with
           | true=>
             rw[z1z hc]at hT;cases decide (T'.F5.length=12)<;>exact hT.symm
           | false=>
             rw[z0z (by rw[hc];simp)]at hT;cases h12:decide (T'.F5.length=12)with
             | true=>
               rw[z0z (by have:=z6z h12;omega)]at hT;exact hT.symm
             | false=>
               have:=z9z h12;rw[z1z om]at hT;exact⟨om,by rw[BD];simp;omega,hT⟩
          cases hpc:decide (w=Ft)
          case' true=>
           refine gX1 (aI g0 (aI hpp hpc)) ?_
          case' false=>
           have hwo:AL w=true:=by rw[hpc,VD]at hg;exact hg
           refine gX1 (aI g0 (aI hpp (aI hpc hwo))) ?_
          all_goals
           try rw[<- hX]
           refine(fin _ (fR1 g0) (fR)).mono ?_;rintro r ⟨fr',Z2,rfl,hJ⟩;refine gS1 @H6 ?_;rw[hf]at hJ ⊢;exact hJ
 ·rintro r ⟨T',st',v',fc',vs',fr,Z',o,rfl,ho,hR,hE⟩;rcases ho with rfl|rfl
  ·refine gS1 @Tryz.results133 ?_;exact⟨_,_,_,_,_,_,rfl,hR,hE⟩
  ·refine gS1 @Tryz.results133 ?_;exact⟨_,_,_,_,_,_,rfl,hR,hE⟩
end
end Go.Proofs.T
