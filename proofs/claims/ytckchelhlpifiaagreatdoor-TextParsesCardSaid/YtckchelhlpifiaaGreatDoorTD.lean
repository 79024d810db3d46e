/- zU with plain fields: name, Vd, P8, J8, times. -/
import Derived.Test.YtckchelhlpifiaaGreatDoorTC
set_option linter.unusedSimpArgs false
set_option linter.unusedVariables false
set_option linter.defProp false
set_option maxHeartbeats 32000000
set_option maxRecDepth 100000
namespace Go.Proofs.T
open Go Go.Ab
section
variable {Z ZL:St}{bt bx:Nat}{T:Tn}{tv:Value}{A1:List Tok}{k:Nat}{tx:By}{from':Nat}{v:Nat->Value}{fc vs:List Value}
def Ad (A1:List Tok) (T:Tn) (k:Nat):Except Er (Tn×Nat) :=
 if BB (A9 A1 k).1 then .ok ({ T with name:=(A9 A1 k).1 },k+1)else .error ((A9 A1 k).2,12)
def Hl (A1:List Tok) (T:Tn) (k:Nat):Except Er (Tn×Nat):=G2 (N7 A1 k) fun(n,k)=> .ok ({ T with P8:=n },k)
def Cg (A1:List Tok) (T:Tn) (k:Nat):Except Er (Tn×Nat):=G2 (N7 A1 k) fun(n,k)=> .ok ({ T with J8:=n },k)
def Ep (A1:List Tok) (T:Tn) (k:Nat):Except Er (Tn×Nat):=G2 (N7 A1 k) fun(a,k)=>G2 (N7 A1 k) fun(b,k)=> .ok ({ T with low:=a,high:=b },k)
def Yl {s:By}(h:BB s=true):s≠[]:=by rintro rfl;simp[BB,DY]at h
def kZ (h:Ln ZL Z bt bx T tv A1 k (K2 tx from' bt) v fc vs) (C7:Ends A1) (hsh:u9 A1) :
  Ev (gO 90 [.pointer (some ⟨bx,0,none⟩)] Z) (LnP ZL bt bx tv A1 (K2 tx from' bt) (Ad A1 T k)) ⟨⟩:=by
 have ht0:=I9 h.sc.k;have hs:=hsh _ (W8 ht0);refine D0 Tryz.func90 rfl rfl ?_;refine gS ?_;refine(Y8 h.sc ht0).mono ?_;rintro r ⟨Z1,rfl,hE1⟩;refine gS ?_;refine(KA om).mono ?_;rintro r rfl;refine gS ?_;have h1:=h.J0 hE1;refine(M6 h1.sc ht0).mono ?_;unfold Ad;rintro r (⟨hok,rfl⟩|⟨hok,Z3,rfl,hE3⟩)
 case inr=>
  refine gS ?_;refine Ar.intro kR ?_;refine gS ?_;rw[z0z (by rw[hok];simp)];exact⟨_,rfl,(h1.J0 hE3).ext⟩
 rw[z1z hok];have hx:=A6 h1.sc.row;unfold K2 at hx;obtain⟨c1,c2,c3,c4,c5,rfl⟩:=fc5 h1.fx;refine gS1 hx ?_;refine(Aw h1.sc ht0).mono ?_;rintro r ⟨Z4,rfl,hE4,hr4⟩;have h4:=h1.step hE4 hr4 (C7 k _ ht0 (Yl hok));have ro4:=h4.row;unfold tnR AI at ro4;have hL:=h.btl;have hg:=h.bxg;refine gS1 ro4 ?_;refine dW1 (Iz h1 h4) ?_;refine gS1 @Tryz.results90 ?_;exact⟨_,_,_,_,rfl,h4.put { T with name:=(A9 A1 k).1 } rfl rfl rfl⟩
def xV (h:Ln ZL Z bt bx T tv A1 k (K2 tx from' bt) v fc vs) (C7:Ends A1) (hsh:u9 A1) :
  Ev (gO 100 [.pointer (some ⟨bx,0,none⟩)] Z) (LnP ZL bt bx tv A1 (K2 tx from' bt) (Hl A1 T k)) ⟨⟩:=by
 refine D0 Tryz.func100 rfl rfl ?_;have hx:=A6 h.sc.row;unfold K2 at hx;obtain⟨c1,c2,c3,c4,c5,rfl⟩:=fc5 h.fx;refine gS1 hx ?_;refine(Gs h.sc C7 hsh).mono ?_;intro r;unfold Hl;cases hR:N7 A1 k with
 | error pe=>
   obtain⟨p,e⟩:=pe;rintro⟨Z',rfl,hE⟩;refine gS ?_;refine Ar.intro kR ?_;refine dW1 (Be hE) ?_;refine gS ?_;rw[D9];exact⟨_,rfl,(h.J0 hE).ext⟩
 | ok ak=>
   obtain⟨n,k1⟩:=ak;rintro⟨Z1,rfl,hE1,hr1,hk1⟩;rw[C1];have h4:=h.step hE1 hr1 hk1;have ro4:=h4.row;unfold tnR AI at ro4;have hL:=h.btl;have hg:=h.bxg;unfold NY;refine gS1 ro4 ?_;refine dW1 (Iz h h4) ?_;refine gS1 @Tryz.results100 ?_;exact⟨_,_,_,_,rfl,h4.put { T with P8:=n } rfl rfl rfl⟩
def ke (h:Ln ZL Z bt bx T tv A1 k (K2 tx from' bt) v fc vs) (C7:Ends A1) (hsh:u9 A1) :
  Ev (gO 103 [.pointer (some ⟨bx,0,none⟩)] Z) (LnP ZL bt bx tv A1 (K2 tx from' bt) (Cg A1 T k)) ⟨⟩:=by
 refine D0 Tryz.func103 rfl rfl ?_;have hx:=A6 h.sc.row;unfold K2 at hx;obtain⟨c1,c2,c3,c4,c5,rfl⟩:=fc5 h.fx;refine gS1 hx ?_;refine(Gs h.sc C7 hsh).mono ?_;intro r;unfold Cg;cases hR:N7 A1 k with
 | error pe=>
   obtain⟨p,e⟩:=pe;rintro⟨Z',rfl,hE⟩;refine gS ?_;refine Ar.intro kR ?_;refine dW1 (Be hE) ?_;refine gS ?_;rw[D9];exact⟨_,rfl,(h.J0 hE).ext⟩
 | ok ak=>
   obtain⟨n,k1⟩:=ak;rintro⟨Z1,rfl,hE1,hr1,hk1⟩;rw[C1];have h4:=h.step hE1 hr1 hk1;have ro4:=h4.row;unfold tnR AI at ro4;have hL:=h.btl;have hg:=h.bxg;unfold NY;refine gS1 ro4 ?_;refine dW1 (Iz h h4) ?_;refine gS1 @Tryz.results103 ?_;exact⟨_,_,_,_,rfl,h4.put { T with J8:=n } rfl rfl rfl⟩
def rT (h:Ln ZL Z bt bx T tv A1 k (K2 tx from' bt) v fc vs) (C7:Ends A1) (hsh:u9 A1) :
  Ev (gO 97 [.pointer (some ⟨bx,0,none⟩)] Z) (LnP ZL bt bx tv A1 (K2 tx from' bt) (Ep A1 T k)) ⟨⟩:=by
 refine D0 Tryz.func97 rfl rfl ?_;have hx:=A6 h.sc.row;unfold K2 at hx;obtain⟨c1,c2,c3,c4,c5,rfl⟩:=fc5 h.fx;refine gS1 hx ?_;refine(Gs h.sc C7 hsh).mono ?_;intro r;unfold Ep;cases hR:N7 A1 k with
 | error pe=>
   obtain⟨p,e⟩:=pe;rintro⟨Z',rfl,hE⟩;refine gS ?_;refine Ar.intro kR ?_;refine dW1 (Be hE) ?_;refine gS ?_;rw[D9];exact⟨_,rfl,(h.J0 hE).ext⟩
 | ok ak=>
   obtain⟨n,k1⟩:=ak;rintro⟨Z1,rfl,hE1,hr1,hk1⟩;rw[C1];have h4:=h.step hE1 hr1 hk1;refine gS ?_;refine(Gs h4.sc C7 hsh).mono ?_;intro r
   try dsimp only
   cases hR2:N7 A1 k1 with
   | error pe=>
     obtain⟨p,e⟩:=pe;rintro⟨Z',rfl,hE⟩;refine gS ?_;refine Ar.intro kR ?_;have hL:=h.btl;have hg:=h.bxg;refine dW1 (aI @L8 (aI @T7 (aI @T8 (aI @K3 (aI @j9 (aI (Be hE) (aI (Iz h h4) (cH hE1)))))))) ?_;refine gS ?_;rw[D9];exact⟨_,rfl,(h4.J0 hE).ext⟩
   | ok ak=>
     obtain⟨m,k2⟩:=ak;rintro⟨Z2,rfl,hE2,hr2,hk2⟩;rw[C1];have h5:=h4.step hE2 hr2 hk2;have ro5:=h5.row;unfold tnR AI at ro5;have hL:=h.btl;have hg:=h.bxg;unfold NY;refine gS1 ro5 ?_;refine dW1 (aI (Iz h h4) (Iz h4 h5)) ?_;refine gS1 @Tryz.results97 ?_;have h6:=h5.put { T with low:=n } rfl rfl rfl;exact⟨_,_,_,_,rfl,h6.put { T with low:=n,high:=m } rfl rfl rfl⟩
end
section
variable {Z ZL:St}{bt bx:Nat}{T:Tn}{tv:Value}{A1:List Tok}{k:Nat}{tx:By}{from':Nat}{v:Nat->Value}{fc vs:List Value}
def AY (A1:List Tok) (T:Tn) (k:Nat):Except Er (Tn×Nat) :=
 G2 (BZ A1 k) fun w=>G2 (Ct A1 [[60,61],[62,61]] (k+1)) fun(r,k)=>G2 (N7 A1 k) fun(n,k)=> .ok ({ T with reqs:=T.reqs++[⟨w,r,n⟩] },k)
def Mg {s:By}(h:AL s=true):s≠[]:=by rintro rfl;simp[AL,BB,DY]at h
def cM (h:Ln ZL Z bt bx T tv A1 k (K2 tx from' bt) v fc vs) (C7:Ends A1) (hsh:u9 A1) (hlen:T.reqs.length<=100000) :
  Ev (gO 95 [.pointer (some ⟨bx,0,none⟩)] Z) (LnP ZL bt bx tv A1 (K2 tx from' bt) (AY A1 T k)) ⟨⟩:=by
 have ht0:=I9 h.sc.k;refine D0 Tryz.func95 rfl rfl ?_;refine gS ?_;refine(fD h.sc hsh ht0).mono ?_;unfold AY BZ;have hbx:=h.sc.lt;have hL:=h.btl;have hg:=h.bxg;have hLn:=h.ext.n;rintro r (⟨hok,Z1,rfl,hE1⟩|⟨hok,Z1,rfl,hE1⟩)
 case inr=>
  refine gS ?_;rw[z0z (by rw[hok];simp),D9];exact⟨_,rfl,(h.J0 hE1).ext⟩
 rw[z1z hok,C1];have hn1:=hE1.n;refine gS ?_;have hE2:B9 bx Z ((Z1.new [str [],str [],.int .i64 0] (some 66)).upd Z1.n [str (A9 A1 k).1,str [],.int .i64 0]):=eXX;have q1:=(h.J0 hE1).sc.row;have h2:=h.step hE2 (cL1 q1) h.sc.k;refine(Aw h2.sc ht0).mono ?_;rintro r ⟨Z3,rfl,hE3,q3⟩;have h3:=h2.step hE3 q3 (C7 k _ ht0 (Mg hok));have hn3:=hE3.n;simp at hn3;have c3:Z3.A7 Z1.n=some [str (A9 A1 k).1,str [],.int .i64 0]:=eT (hE3.A7 (by simp) om) cL;refine gS ?_;have h4:=h3.J0 (Ext.new (t:=none) Z3 [str [60,61],str [62,61]]);refine(AK9 h4.sc C7 (Mh (l:=[[60,61],[62,61]])) (by decide) (by decide)).mono ?_;intro r
 try dsimp only
 cases hR2:Ct A1 [[60,61],[62,61]] (k+1)with
 | error pe=>
   obtain⟨p,e⟩:=pe;rintro⟨Z',rfl,hE⟩;refine gS ?_;rw[D9];exact⟨_,rfl,(h4.J0 hE).ext⟩
 | ok ak=>
   obtain⟨w,k2⟩:=ak;rintro⟨Z5,rfl,hE5,q5,hk5⟩;rw[C1];have hn5:=hE5.n;simp at hn5;have c5:Z5.A7 Z1.n=some [str (A9 A1 k).1,str [],.int .i64 0]:=by rw[hE5.A7 (by simp;omega) om];exact cL1 c3
   have c5':=A6 c5;refine gS1 (aI c5 c5') ?_;have hE6:B9 bx Z (Z5.upd Z1.n [str (A9 A1 k).1,str w,.int .i64 0]):=B9.As (((hE2.trans hE3).LL _).trans hE5) om _;have h6:=h.step hE6 (cL1 q5) hk5;refine(Gs h6.sc C7 hsh).mono ?_;intro r
   try dsimp only
   cases hR3:N7 A1 k2 with
   | error pe=>
     obtain⟨p,e⟩:=pe;rintro⟨Z',rfl,hE⟩;refine gS ?_;rw[D9];exact⟨_,rfl,(h6.J0 hE).ext⟩
   | ok ak=>
     obtain⟨m,k3⟩:=ak;rintro⟨Z7,rfl,hE7,q7,hk7⟩;rw[C1];have hn7:=hE7.n;simp at hn7;have c7:Z7.A7 Z1.n=some [str (A9 A1 k).1,str w,.int .i64 0]:=eT (hE7.A7 (by simp;omega) om) cL;have c7':=A6 c7;have hE8:B9 bx Z (Z7.upd Z1.n [str (A9 A1 k).1,str w,.int .i64 m]):=B9.As (hE6.trans hE7) om _;have h8:=h.step hE8 (cL1 q7) hk7;have hx:=A6 h8.sc.row;have ht:=A6 h8.row;unfold K2 at hx;obtain⟨c1,c2,c3,c4,c5,rfl⟩:=fc5 h8.fx;unfold tnR AI at ht;obtain⟨a,ha⟩:=OL.shape (h8.sl 2 om);rw[ha]at ht;rw[M1 om]at hx ht;unfold NY;refine gU1 (aI @A4 (aI @P9 (aI @N5 (aI @N9 (aI @K6 (aI @M4 (aI @M5 (aI @K7 (aI @K8 (aI @H8 (aI c7 (aI c7' (aI hx ht))))))))))))) ?_;have h9:=h8.J0 (Ext.new (t:=none) (Z7.upd Z1.n [str (A9 A1 k).1,str w,.int .i64 m]) [str (A9 A1 k).1,str w,.int .i64 m]);have hl0:=h9.sl 2 om;have d1:=h9.dx 2 om;have d2:I2 (v 2)≠some Z1.n:=fun e=>by have:=((h.sl 2 om).blk e).2;omega
     rw[ha]at hl0 d1 d2;rw[show(CH T vs 2).length=T.reqs.length from z2z ..]at *;refine G4 (lo:=ZL.n) (D4:=T.reqs.map Req.row) (row:=[str (A9 A1 k).1,str w,.int .i64 m]) (fun _ _ _ _=>N6) hl0 (D1 nL nL) (D8 (by simp) (by simp)) (by rw[z2z];omega) (by have:=h9.ext.n;simp at this ⊢;omega) ?_;intro v' Z10 g1 g2 g3;have ro:Z10.A7 bt=some (tnR T v [c1,c2,c3,c4,c5]):=by
      rw[B8 (g2.same bt (by simp;omega) fun e=>by have:=(hl0.blk e).1;omega)];exact h9.row
     obtain⟨a',rfl⟩:=OL.shape g1;have h10:=h9.app (T':={ T with reqs:=T.reqs++[⟨(A9 A1 k).1,w,m⟩] }) (vs':=vs) (i:=2) om (by rw[ha];exact g2) (by show OL _ _ 3 _ (List.map _ _);rw[y7];exact g1) (by intro j hj hne;match j,hj,hne with|0,_,_=>rfl|1,_,_=>rfl|3,_,_=>rfl|4,_,_=>rfl) rfl h9.iv;unfold tnR AI at ro;refine gS1 ro ?_;refine dW1 (aI (Ba g2 d1) (Ba g2 d2)) ?_;refine gS1 @Tryz.results95 ?_;exact⟨_,_,_,_,rfl,h10⟩
end
section
variable {Z ZL:St}{bt bx:Nat}{T:Tn}{tv:Value}{A1:List Tok}{k:Nat}{tx:By}{from':Nat}{v:Nat->Value}{fc vs:List Value}
def Fm:By:=[103,114,97,100,101]
def BO:By:=[111,102,102,101,114]
def HH:By:=[108,101,115,115]
def S9 (A1:List Tok) (T:Tn) (k:Nat):Except Er (Tn×Nat) :=
 G2 (BZ A1 k) fun w=>if (T.D2.any fun c=>decide (c.name=w))=true then .error ((A9 A1 k).2,13)else
  G2 (Ct A1 [Fm,BO] (k+1)) fun(o,k)=>G2 (N7 A1 k) fun(lo,k)=>G2 (N7 A1 k) fun(hi,k)=>
   .ok ({ T with D2:=T.D2++[⟨w,cond (decide (o=BO)) 2 1,lo,hi,decide ((A9 A1 k).1=HH)⟩] },cond (decide ((A9 A1 k).1=HH)) (k+1) k)
def YC {Z:St}{x:AB}{w:By}{c1 c2 c3 c4:Value}{bn:Nat}(hn:Z.row bn=some [str w,c1,c2,c3,c4]) (hb:bn<Z.n) :
  Ev (gO 143 [.agg ⟨x.row⟩,.pointer (some ⟨bn,0,none⟩)] Z) (fun r=>∃ Z2,r=⟨false,.bool (decide (x.name=w)),Z2⟩/\Ext Z Z2) ⟨⟩:=by
 refine D0 Tryz.func143 rfl rfl ?_;rw[show x.row=[str x.name,.int .i64 x.kind,.int .i64 x.low,.int .i64 x.high,.bool x.less]from rfl];refine gS1 (aI hn @Tryz.results143) ?_;exact⟨_,rfl,eX⟩
def VB (h:Ln ZL Z bt bx T tv A1 k (K2 tx from' bt) v fc vs) (C7:Ends A1) (hsh:u9 A1) (hlen:T.D2.length<=100000) :
  Ev (gO 93 [.pointer (some ⟨bx,0,none⟩)] Z) (LnP ZL bt bx tv A1 (K2 tx from' bt) (S9 A1 T k)) ⟨⟩:=by
 have ht0:=I9 h.sc.k;refine D0 Tryz.func93 rfl rfl ?_;refine gS ?_;refine(fD h.sc hsh ht0).mono ?_;unfold S9 BZ;have hbx:=h.sc.lt;have hL:=h.btl;have hg:=h.bxg;have hLn:=h.ext.n;rintro r (⟨hok,Z1,rfl,hE1⟩|⟨hok,Z1,rfl,hE1⟩)
 case inr=>
  refine gS ?_;rw[z0z (by rw[hok];simp),D9];exact⟨_,rfl,(h.J0 hE1).ext⟩
 rw[z1z hok,C1];have hn1:=hE1.n;have q1:=(h.J0 hE1).sc.row;have hE2:B9 bx Z ((Z1.new [str [],.int .i64 0,.int .i64 0,.int .i64 0,.bool false] (some 64)).upd Z1.n [str (A9 A1 k).1,.int .i64 1,.int .i64 0,.int .i64 0,.bool false]):=eXX;have h2:=h.step hE2 (cL1 q1) h.sc.k;have hx:=A6 h2.sc.row;have ht:=A6 h2.row;unfold K2 at hx;obtain⟨e1,e2,e3,e4,e5,rfl⟩:=fc5 h2.fx;unfold tnR AI at ht;obtain⟨a,ha⟩:=OL.shape (h2.sl 1 om);rw[ha]at ht;rw[M1 om,CQ om]at hx ht;refine gS1 (aI hx ht) ?_;have hcs:=OL.sl (h2.sl 1 om);rw[ha]at hcs;rw[show(CH T vs 1).length=T.D2.length from z2z ..]at *;refine(jZ (p:=fun c=>decide (c.name=(A9 A1 k).1)) (fs:=[]) hcs om fun Z' x hE _=>?_).mono ?_
 ·refine YC (bn:=Z1.n) (w:=(A9 A1 k).1) (c1:= .int .i64 1) (c2:= .int .i64 0) (c3:= .int .i64 0) (c4:= .bool false) ?_ ?_
  ·rw[hE.row (by simp)];exact cL
  ·have:=hE.n;simp at this;omega
 rintro r ⟨Z2,rfl,hEc⟩;have hn2:=hEc.n;simp at hn2;refine gS ?_;have h3:=h2.J0 hEc;refine(M6 h3.sc ht0).mono ?_;rintro r (⟨BX,rfl⟩|⟨BX,Z3,rfl,hE3⟩)
 case inr=>
  refine gS ?_;refine Ar.intro kR ?_;refine gS ?_;refine dW1 (aI (Be hEc) (Be hE3)) ?_;refine gS ?_;rw[z1z (by simpa using BX)];exact⟨_,rfl,(h3.J0 hE3).ext⟩
 rw[z0z (by simpa using BX)];refine gS ?_;refine dW1 (aI (Be hEc) (Be (Ext.refl Z2))) ?_;refine gS ?_;have PY:B9 bx Z Z2:=hE2.trans (.of hEc);have c2:Z2.A7 Z1.n=some [str (A9 A1 k).1,.int .i64 1,.int .i64 0,.int .i64 0,.bool false]:=by rw[B8 (hEc.same _ (by simp))];exact cL
 refine(Aw h3.sc ht0).mono ?_;rintro r ⟨Z4,rfl,hE4,q4⟩;have hk4:=C7 k _ ht0 (Mg hok);have hn4:=hE4.n;have h4:=h3.step hE4 q4 hk4;have c4:=eT (hE4.A7 om om) c2;refine gS ?_;have h4':=h4.J0 (Ext.new (t:=none) Z4 [str Fm,str BO]);refine(AK9 h4'.sc C7 (Mh (l:=[Fm,BO])) (by decide) (by decide)).mono ?_;intro r
 try dsimp only
 cases hR2:Ct A1 [Fm,BO] (k+1)with
 | error pe=>
   obtain⟨p,e⟩:=pe;rintro⟨Z',rfl,hE⟩;refine gS ?_;rw[D9];exact⟨_,rfl,(h4'.J0 hE).ext⟩
 | ok ak =>
   obtain⟨o,k2⟩:=ak;rintro⟨Z5,rfl,hE5,q5,hk5⟩;rw[C1];have hn5:=hE5.n;simp at hn5;have c5:Z5.A7 Z1.n=some [str (A9 A1 k).1,.int .i64 1,.int .i64 0,.int .i64 0,.bool false]:=by rw[hE5.A7 (by simp;omega) om];exact cL1 c4
   have c5':=A6 c5;have Wm:B9 bx Z Z5:=((PY.trans hE4).LL _).trans hE5;have hdo:decide (o=[111,102,102,101,114])=decide (o=BO):=rfl;cases ho:decide (o=BO)with
   | false =>
     refine gS1 (aI hdo ho) ?_;have hE6:=Wm;have c6:=c5;have h6:=h.step hE6 q5 hk5;refine(Gs h6.sc C7 hsh).mono ?_;intro r
     try dsimp only
     cases hR3:N7 A1 k2 with
     | error pe=>
       obtain⟨p,e⟩:=pe;rintro⟨Z',rfl,hE⟩;refine gS ?_;rw[D9];exact⟨_,rfl,(h6.J0 hE).ext⟩
     | ok ak=>
       obtain⟨lo,k3⟩:=ak;rintro⟨Z7,rfl,hE7,q7,hk7⟩;rw[C1];have hn7:=hE7.n
       try simp at hn7
       have c7:Z7.A7 Z1.n=some [str (A9 A1 k).1,.int .i64 1,.int .i64 0,.int .i64 0,.bool false]:=by rw[hE7.A7 (by(try simp);omega) om];exact c6
       have h7:=h6.step hE7 q7 hk7;refine gS ?_;refine(Gs h7.sc C7 hsh).mono ?_;intro r
       try dsimp only
       cases hR4:N7 A1 k3 with
       | error pe=>
         obtain⟨p,e⟩:=pe;rintro⟨Z',rfl,hE⟩;refine gS ?_;rw[D9];exact⟨_,rfl,(h7.J0 hE).ext⟩
       | ok ak=>
         obtain⟨hi,k4⟩:=ak;rintro⟨Z8,rfl,hE8,q8,hk8⟩;rw[C1];have hn8:=hE8.n;have c8:=eT (hE8.A7 om om) c7;have c8':=A6 c8;unfold NY;refine gS1 (aI c8 c8') ?_;have bK:B9 bx Z ((Z8.upd Z1.n [str (A9 A1 k).1,.int .i64 1,.int .i64 lo,.int .i64 0,.bool false]).upd Z1.n [str (A9 A1 k).1,.int .i64 1,.int .i64 lo,.int .i64 hi,.bool false]):=((((hE6.trans hE7).trans hE8).As om _).As om _)
         have h8:=h.step bK (cL1 q8) hk8;have ht8:=I9 h8.sc.k;refine(Y8 h8.sc ht8).mono ?_;rintro r ⟨Z9,rfl,hE9⟩;have hn9:=hE9.n;simp at hn9;have h9:=h8.J0 hE9;have AL0:=bK.trans (.of hE9);have c9:Z9.A7 Z1.n=some [str (A9 A1 k).1,.int .i64 1,.int .i64 lo,.int .i64 hi,.bool false]:=by rw[B8 (hE9.same _ (by simp;omega))];exact cL
         have c9':=A6 c9;have hdl:decide ((A9 A1 k4).1=[108,101,115,115])=decide ((A9 A1 k4).1=HH):=rfl;cases hl:decide ((A9 A1 k4).1=HH)
         case' false=>
          refine gS1 (aI hdl hl) ?_;have hx:=A6 h9.sc.row;have ht:=A6 h9.row;unfold K2 at hx;obtain⟨f1,f2,f3,f4,f5,hf5⟩:=fc5 h9.fx;cases hf5;unfold tnR AI at ht;rw[ha]at ht;have cr:=A6 c9
          try rw[M1 om]at hx ht
          refine gU1 (aI @A4 (aI @P9 (aI @N5 (aI @N6 (aI @K6 (aI @M4 (aI @M5 (aI @K7 (aI @K8 (aI @H8 (aI hx (aI ht cr)))))))))))) ?_;have h12:=h9.J0 (Ext.new (t:=none) Z9 [str (A9 A1 k).1,.int .i64 1,.int .i64 lo,.int .i64 hi,.bool false]);have hl0:=h12.sl 1 om;have d1:=h12.dx 1 om;have d2:I2 (v 1)≠some Z1.n:=fun e=>by have:=((h.sl 1 om).blk e).2;omega
          rw[ha]at hl0 d1 d2
          try rw[show(CH T vs 1).length=T.D2.length from z2z ..]at *
          refine G4 (lo:=ZL.n) (D4:=T.D2.map AB.row) (row:=[str (A9 A1 k).1,.int .i64 1,.int .i64 lo,.int .i64 hi,.bool false]) (fun _ _ _ _=>N9) hl0 (D1 nL nL) (D8 (by simp) (by simp)) (by rw[z2z];omega) (by have:=h12.ext.n;simp at this ⊢;omega) ?_;intro v' Z13 g1 g2 g3;have ro:Z13.A7 bt=some (tnR T v [e1,e2,e3,e4,e5]):=by
           rw[B8 (g2.same bt (by simp;omega) fun e=>by have:=(hl0.blk e).1;omega)];exact h12.row
          obtain⟨a',rfl⟩:=OL.shape g1;have h13:=h12.app (T':={ T with D2:=T.D2++[⟨(A9 A1 k).1,1,lo,hi,false⟩] }) (vs':=vs) (i:=1) om (by rw[ha];exact g2) (by show OL _ _ 5 _ (List.map _ _);rw[y7];exact g1) (by intro j hj hne;match j,hj,hne with|0,_,_=>rfl|2,_,_=>rfl|3,_,_=>rfl|4,_,_=>rfl) rfl h12.iv
         case' true=>
          refine gS1 (aI hdl hl) ?_;refine(Aw h9.sc ht8).mono ?_;rintro r ⟨Z10,rfl,bL,q10⟩;have Av7:=bL.n;have c10:=eT (bL.A7 om om) c9;have AL1:=A6 c10;refine gS1 (aI c10 AL1) ?_;have AL2:B9 bx Z (Z10.upd Z1.n [str (A9 A1 k).1,.int .i64 1,.int .i64 lo,.int .i64 hi,.bool true]):=(AL0.trans bL).As om _;have h11:=h.step AL2 (cL1 q10) (C7 k4 _ ht8 (by intro e;rw[e]at hl;cases hl));have c11:(Z10.upd Z1.n [str (A9 A1 k).1,.int .i64 1,.int .i64 lo,.int .i64 hi,.bool true]).A7 Z1.n=some [str (A9 A1 k).1,.int .i64 1,.int .i64 lo,.int .i64 hi,.bool true]:=D5;have hx:=A6 h11.sc.row;have ht:=A6 h11.row;unfold K2 at hx;obtain⟨f1,f2,f3,f4,f5,hf5⟩:=fc5 h11.fx;cases hf5;unfold tnR AI at ht;rw[ha]at ht;have cr:=A6 c11
          try rw[M1 om]at hx ht
          refine gU1 (aI @A4 (aI @P9 (aI @N5 (aI @N6 (aI @K6 (aI @M4 (aI @M5 (aI @K7 (aI @K8 (aI @H8 (aI hx (aI ht cr)))))))))))) ?_;have h12:=h11.J0 (Ext.new (t:=none) (Z10.upd Z1.n [str (A9 A1 k).1,.int .i64 1,.int .i64 lo,.int .i64 hi,.bool true]) [str (A9 A1 k).1,.int .i64 1,.int .i64 lo,.int .i64 hi,.bool true]);have hl0:=h12.sl 1 om;have d1:=h12.dx 1 om;have d2:I2 (v 1)≠some Z1.n:=fun e=>by have:=((h.sl 1 om).blk e).2;omega
          rw[ha]at hl0 d1 d2
          try rw[show(CH T vs 1).length=T.D2.length from z2z ..]at *
          refine G4 (lo:=ZL.n) (D4:=T.D2.map AB.row) (row:=[str (A9 A1 k).1,.int .i64 1,.int .i64 lo,.int .i64 hi,.bool true]) (fun _ _ _ _=>N9) hl0 (D1 nL nL) (D8 (by simp) (by simp)) (by rw[z2z];omega) (by have:=h12.ext.n;simp at this ⊢;omega) ?_;intro v' Z13 g1 g2 g3;have ro:Z13.A7 bt=some (tnR T v [e1,e2,e3,e4,e5]):=by
           rw[B8 (g2.same bt (by simp;omega) fun e=>by have:=(hl0.blk e).1;omega)];exact h12.row
          obtain⟨a',rfl⟩:=OL.shape g1;have h13:=h12.app (T':={ T with D2:=T.D2++[⟨(A9 A1 k).1,1,lo,hi,true⟩] }) (vs':=vs) (i:=1) om (by rw[ha];exact g2) (by show OL _ _ 5 _ (List.map _ _);rw[y7];exact g1) (by intro j hj hne;match j,hj,hne with|0,_,_=>rfl|2,_,_=>rfl|3,_,_=>rfl|4,_,_=>rfl) rfl h12.iv
         all_goals
          unfold tnR AI at ro;refine gS1 ro ?_;refine dW1 (aI (Ba g2 d1) (Ba g2 d2)) ?_;refine gS1 @Tryz.results93 ?_;exact⟨_,_,_,_,rfl,h13⟩
   | true =>
     refine gS1 (aI hdo (aI ho (aI c5 c5'))) ?_;have hE6:B9 bx Z (Z5.upd Z1.n [str (A9 A1 k).1,.int .i64 2,.int .i64 0,.int .i64 0,.bool false]):=Wm.As om _;have c6:(Z5.upd Z1.n [str (A9 A1 k).1,.int .i64 2,.int .i64 0,.int .i64 0,.bool false]).A7 Z1.n=some [str (A9 A1 k).1,.int .i64 2,.int .i64 0,.int .i64 0,.bool false]:=D5;have h6:=h.step hE6 (cL1 q5) hk5;refine(Gs h6.sc C7 hsh).mono ?_;intro r
     try dsimp only
     cases hR3:N7 A1 k2 with
     | error pe=>
       obtain⟨p,e⟩:=pe;rintro⟨Z',rfl,hE⟩;refine gS ?_;rw[D9];exact⟨_,rfl,(h6.J0 hE).ext⟩
     | ok ak=>
       obtain⟨lo,k3⟩:=ak;rintro⟨Z7,rfl,hE7,q7,hk7⟩;rw[C1];have hn7:=hE7.n
       try simp at hn7
       have c7:Z7.A7 Z1.n=some [str (A9 A1 k).1,.int .i64 2,.int .i64 0,.int .i64 0,.bool false]:=by rw[hE7.A7 (by(try simp);omega) om];exact c6
       have h7:=h6.step hE7 q7 hk7;refine gS ?_;refine(Gs h7.sc C7 hsh).mono ?_;intro r
       try dsimp only
       cases hR4:N7 A1 k3 with
       | error pe=>
         obtain⟨p,e⟩:=pe;rintro⟨Z',rfl,hE⟩;refine gS ?_;rw[D9];exact⟨_,rfl,(h7.J0 hE).ext⟩
       | ok ak=>
         obtain⟨hi,k4⟩:=ak;rintro⟨Z8,rfl,hE8,q8,hk8⟩;rw[C1];have hn8:=hE8.n;have c8:=eT (hE8.A7 om om) c7;have c8':=A6 c8;unfold NY;refine gS1 (aI c8 c8') ?_;have bK:B9 bx Z ((Z8.upd Z1.n [str (A9 A1 k).1,.int .i64 2,.int .i64 lo,.int .i64 0,.bool false]).upd Z1.n [str (A9 A1 k).1,.int .i64 2,.int .i64 lo,.int .i64 hi,.bool false]):=((((hE6.trans hE7).trans hE8).As om _).As om _)
         have h8:=h.step bK (cL1 q8) hk8;have ht8:=I9 h8.sc.k;refine(Y8 h8.sc ht8).mono ?_;rintro r ⟨Z9,rfl,hE9⟩;have hn9:=hE9.n;simp at hn9;have h9:=h8.J0 hE9;have AL0:=bK.trans (.of hE9);have c9:Z9.A7 Z1.n=some [str (A9 A1 k).1,.int .i64 2,.int .i64 lo,.int .i64 hi,.bool false]:=by rw[B8 (hE9.same _ (by simp;omega))];exact cL
         have c9':=A6 c9;have hdl:decide ((A9 A1 k4).1=[108,101,115,115])=decide ((A9 A1 k4).1=HH):=rfl;cases hl:decide ((A9 A1 k4).1=HH)
         case' false=>
          refine gS1 (aI hdl hl) ?_;have hx:=A6 h9.sc.row;have ht:=A6 h9.row;unfold K2 at hx;obtain⟨f1,f2,f3,f4,f5,hf5⟩:=fc5 h9.fx;cases hf5;unfold tnR AI at ht;rw[ha]at ht;have cr:=A6 c9
          try rw[M1 om]at hx ht
          refine gU1 (aI @A4 (aI @P9 (aI @N5 (aI @N6 (aI @K6 (aI @M4 (aI @M5 (aI @K7 (aI @K8 (aI @H8 (aI hx (aI ht cr)))))))))))) ?_;have h12:=h9.J0 (Ext.new (t:=none) Z9 [str (A9 A1 k).1,.int .i64 2,.int .i64 lo,.int .i64 hi,.bool false]);have hl0:=h12.sl 1 om;have d1:=h12.dx 1 om;have d2:I2 (v 1)≠some Z1.n:=fun e=>by have:=((h.sl 1 om).blk e).2;omega
          rw[ha]at hl0 d1 d2
          try rw[show(CH T vs 1).length=T.D2.length from z2z ..]at *
          refine G4 (lo:=ZL.n) (D4:=T.D2.map AB.row) (row:=[str (A9 A1 k).1,.int .i64 2,.int .i64 lo,.int .i64 hi,.bool false]) (fun _ _ _ _=>N9) hl0 (D1 nL nL) (D8 (by simp) (by simp)) (by rw[z2z];omega) (by have:=h12.ext.n;simp at this ⊢;omega) ?_;intro v' Z13 g1 g2 g3;have ro:Z13.A7 bt=some (tnR T v [e1,e2,e3,e4,e5]):=by
           rw[B8 (g2.same bt (by simp;omega) fun e=>by have:=(hl0.blk e).1;omega)];exact h12.row
          obtain⟨a',rfl⟩:=OL.shape g1;have h13:=h12.app (T':={ T with D2:=T.D2++[⟨(A9 A1 k).1,2,lo,hi,false⟩] }) (vs':=vs) (i:=1) om (by rw[ha];exact g2) (by show OL _ _ 5 _ (List.map _ _);rw[y7];exact g1) (by intro j hj hne;match j,hj,hne with|0,_,_=>rfl|2,_,_=>rfl|3,_,_=>rfl|4,_,_=>rfl) rfl h12.iv
         case' true=>
          refine gS1 (aI hdl hl) ?_;refine(Aw h9.sc ht8).mono ?_;rintro r ⟨Z10,rfl,bL,q10⟩;have Av7:=bL.n;have c10:=eT (bL.A7 om om) c9;have AL1:=A6 c10;refine gS1 (aI c10 AL1) ?_;have AL2:B9 bx Z (Z10.upd Z1.n [str (A9 A1 k).1,.int .i64 2,.int .i64 lo,.int .i64 hi,.bool true]):=(AL0.trans bL).As om _;have h11:=h.step AL2 (cL1 q10) (C7 k4 _ ht8 (by intro e;rw[e]at hl;cases hl));have c11:(Z10.upd Z1.n [str (A9 A1 k).1,.int .i64 2,.int .i64 lo,.int .i64 hi,.bool true]).A7 Z1.n=some [str (A9 A1 k).1,.int .i64 2,.int .i64 lo,.int .i64 hi,.bool true]:=D5;have hx:=A6 h11.sc.row;have ht:=A6 h11.row;unfold K2 at hx;obtain⟨f1,f2,f3,f4,f5,hf5⟩:=fc5 h11.fx;cases hf5;unfold tnR AI at ht;rw[ha]at ht;have cr:=A6 c11
          try rw[M1 om]at hx ht
          refine gU1 (aI @A4 (aI @P9 (aI @N5 (aI @N6 (aI @K6 (aI @M4 (aI @M5 (aI @K7 (aI @K8 (aI @H8 (aI hx (aI ht cr)))))))))))) ?_;have h12:=h11.J0 (Ext.new (t:=none) (Z10.upd Z1.n [str (A9 A1 k).1,.int .i64 2,.int .i64 lo,.int .i64 hi,.bool true]) [str (A9 A1 k).1,.int .i64 2,.int .i64 lo,.int .i64 hi,.bool true]);have hl0:=h12.sl 1 om;have d1:=h12.dx 1 om;have d2:I2 (v 1)≠some Z1.n:=fun e=>by have:=((h.sl 1 om).blk e).2;omega
          rw[ha]at hl0 d1 d2
          try rw[show(CH T vs 1).length=T.D2.length from z2z ..]at *
          refine G4 (lo:=ZL.n) (D4:=T.D2.map AB.row) (row:=[str (A9 A1 k).1,.int .i64 2,.int .i64 lo,.int .i64 hi,.bool true]) (fun _ _ _ _=>N9) hl0 (D1 nL nL) (D8 (by simp) (by simp)) (by rw[z2z];omega) (by have:=h12.ext.n;simp at this ⊢;omega) ?_;intro v' Z13 g1 g2 g3;have ro:Z13.A7 bt=some (tnR T v [e1,e2,e3,e4,e5]):=by
           rw[B8 (g2.same bt (by simp;omega) fun e=>by have:=(hl0.blk e).1;omega)];exact h12.row
          obtain⟨a',rfl⟩:=OL.shape g1;have h13:=h12.app (T':={ T with D2:=T.D2++[⟨(A9 A1 k).1,2,lo,hi,true⟩] }) (vs':=vs) (i:=1) om (by rw[ha];exact g2) (by show OL _ _ 5 _ (List.map _ _);rw[y7];exact g1) (by intro j hj hne;match j,hj,hne with|0,_,_=>rfl|2,_,_=>rfl|3,_,_=>rfl|4,_,_=>rfl) rfl h12.iv
         all_goals
          unfold tnR AI at ro;refine gS1 ro ?_;refine dW1 (aI (Ba g2 d1) (Ba g2 d2)) ?_;refine gS1 @Tryz.results93 ?_;exact⟨_,_,_,_,rfl,h13⟩
end
section
variable {Z ZL:St}{bt bx:Nat}{T:Tn}{tv:Value}{A1:List Tok}{k:Nat}{tx:By}{from':Nat}{v:Nat->Value}{fc vs:List Value}
def Ft:By:=[112,114,105,99,101]
def Rf (A1:List Tok):Nat->Tn->Nat->Except Er (Tn×Nat)
 |0,T,k=> .ok (T,k)
 | f+1,T,k=>if (decide (T.F5.length=0)|| !decide ((A9 A1 k).1=[]))=true then
    if (decide ((A9 A1 k).1=Ft)||AL (A9 A1 k).1)=true then
     if T.F5.contains (A9 A1 k).1=true then .error ((A9 A1 k).2,13)else
      if T.F5.length<12 then Rf A1 f { T with F5:=T.F5++[(A9 A1 k).1] } (k+1)else .error ((A9 A1 k).2,2)
    else .error ((A9 A1 k).2,12)
   else .ok (T,k)
def GU {A1:List Tok}{f:Nat}{T:Tn}{k:Nat}:Rf A1 (f+1) T k=(if (decide (T.F5.length=0)|| !decide ((A9 A1 k).1=[]))=true then
   if (decide ((A9 A1 k).1=Ft)||AL (A9 A1 k).1)=true then
    if T.F5.contains (A9 A1 k).1=true then .error ((A9 A1 k).2,13)else
     if T.F5.length<12 then Rf A1 f { T with F5:=T.F5++[(A9 A1 k).1] } (k+1)else .error ((A9 A1 k).2,2)
   else .error ((A9 A1 k).2,12)
  else .ok (T,k)):=rfl
def HE (A1:List Tok) (T:Tn) (k:Nat):Except Er (Tn×Nat):=Rf A1 (A1.length-k) T k
def xe {lo:Nat}{v:Value}{Z:St}(h:OL lo Z 1 v (CH T vs 3)):∃ a,v= .slice a T.F5.length T.F5.length:=by
 obtain⟨a,ha⟩:=OL.shape h;rw[show(CH T vs 3).length=T.F5.length from z2z ..]at ha;exact⟨a,ha⟩
def AP3 (h:Ln ZL Z bt bx T tv A1 k (K2 tx from' bt) v fc vs) (C7:Ends A1) (hsh:u9 A1) (hlen:T.F5.length<=100000) :
  Ev (gO 99 [.pointer (some ⟨bx,0,none⟩)] Z) (LnP ZL bt bx tv A1 (K2 tx from' bt) (HE A1 T k)) ⟨⟩:=by
 refine D0 Tryz.func99 rfl rfl ?_;refine gS ?_
 refine V9 (fun j fr Z'=>∃ T' k' v' fc' vs',j=A1.length-k'/\fr.get 0=some (.pointer (some ⟨bx,0,none⟩))/\Ln ZL Z' bt bx T' tv A1 k' (K2 tx from' bt) v' fc' vs'/\Rf A1 j T' k'=HE A1 T k/\T'.F5.length<=100000)
  (fun r=>match HE A1 T k with
    | .ok (T',k')=>∃ fr Z' v fc vs,r=⟨.exit 0,fr,Z'⟩/\Ln ZL Z' bt bx T' tv A1 k' (K2 tx from' bt) v fc vs
    | .error (p,e)=>∃ fr Z',r=⟨.pan (fault p e),fr,Z'⟩/\B9 bt ZL Z') (A1.length-k) ?_ ?_ ?_
 ·exact⟨T,k,v,fc,vs,rfl,fR,h,rfl,hlen⟩
 ·rintro j fr Z' ⟨T',k',v',fc',vs',rfl,g0,hL,hT,zR⟩;rw[<- hT];clear hT hlen;obtain⟨f,hf⟩:∃ f,A1.length-k'=f+1:=⟨A1.length-k'-1,by have:=hL.sc.k;omega⟩
  rw[hf];rw[GU];have ht0:=I9 hL.sc.k;have hs:=hsh _ (W8 ht0);have hx:=A6 hL.sc.row;have ht:=A6 hL.row;unfold K2 at hx;obtain⟨c1,c2,c3,c4,c5,rfl⟩:=fc5 hL.fx;unfold tnR AI at ht;obtain⟨a,ha⟩:=xe (hL.sl 3 om);rw[ha]at ht;have l1:=hL.btl;have l2:=hL.bxg;have l3:=hL.ext.n;have l4:=hL.sc.lt;have ez:decide ((T'.F5.length:Int)=0)=decide (T'.F5.length=0):=by rw[z7z];simp
  have e12:decide ((T'.F5.length:Int)<12)=decide (T'.F5.length<12):=by rw[z7z];simp;omega
  generalize hw:A9 A1 k'=w at *;cases hz:decide (T'.F5.length=0)
  case' true=>
   have hq:True:=trivial;refine gS1 (aI g0 (aI hx (aI ht (aI ez hz)))) ?_;rw[z1z (by first|rfl|(rw[hq];rfl))];refine(Y8 hL.sc ht0).mono ?_;rintro r ⟨Z2,rfl,hE2⟩;have h2:=hL.J0 hE2
  case' false=>
   refine gS1 (aI g0 (aI hx (aI ht (aI ez hz)))) ?_;refine(Y8 hL.sc ht0).mono ?_;rintro r ⟨Z1,rfl,hE1⟩;have h1:=hL.J0 hE1;cases hq:decide (w.1=[])
   case true=>
     refine gS1 (aI g0 (aI hq @Q9)) ?_;rw[z0z (by simp)];exact⟨_,_,_,_,_,rfl,h1⟩
   refine gS1 (aI g0 hq) ?_;rw[z1z (by first|rfl|(rw[hq];rfl))];refine(Y8 h1.sc ht0).mono ?_;rintro r ⟨Z2,rfl,hE2⟩;have h2:=h1.J0 hE2
  all_goals
   have hx2:=A6 h2.sc.row;have ht2:=A6 h2.row;unfold K2 at hx2;unfold tnR AI at ht2;rw[ha]at ht2;have hpp:decide (w.1=[112,114,105,99,101])=decide (w.1=Ft):=rfl;cases hp:decide (w.1=Ft)
   case' true=>
    refine gS1 (aI g0 (aI hpp hp)) ?_;refine(M6 h2.sc ht0).mono ?_;rintro r (⟨hok,rfl⟩|⟨hok,-⟩)
    case inr=>cases hok
    rw[z1z (by rfl)];refine gS1 (aI g0 (aI hx2 ht2)) ?_;have hst:HX Z2 (.slice a T'.F5.length T'.F5.length) T'.F5:=by rw[<- ha];exact OL.sl (h2.sl 3 om)
    refine(Ch hst om).mono ?_;rintro r rfl;refine gS1 g0 ?_;refine(M6 h2.sc ht0).mono ?_;rintro r (⟨hc,rfl⟩|⟨hc,Z5,rfl,hE5⟩)
    case inr=>
     refine gS ?_;refine Ar.intro kR ?_;refine dW1 (aI @L8 (aI @T7 (aI @T8 (aI @K3 (aI @j9 (aI (Be (Ext.refl Z2)) (Be hE5))))))) ?_;refine gS ?_;rw[z1z (by simpa using hc)];exact⟨_,_,rfl,(h2.J0 hE5).ext⟩
    rw[z0z (by simpa using hc)];refine gS1 (aI g0 (aI hx2 ht2)) ?_;refine dW1 (aI @L8 (aI @T7 (aI @T8 (aI @K3 (aI @j9 (Be (Ext.refl Z2))))))) ?_;refine gS1 (aI g0 (aI hx2 (aI ht2 e12))) ?_;refine(M6 h2.sc ht0).mono ?_;rintro r (⟨hc,rfl⟩|⟨hc,Z5,rfl,hE5⟩)
    case inr=>
     refine gS ?_;refine Ar.intro kR ?_;refine dW1 (aI @L8 (aI @T7 (aI @T8 (aI @K3 (aI @j9 (aI (Be (Ext.refl Z2)) (Be hE5))))))) ?_;refine gS ?_;rw[z0z (z9z hc)];exact⟨_,_,rfl,(h2.J0 hE5).ext⟩
    rw[z1z (z6z hc)];refine gS1 (aI g0 (aI hx2 ht2)) ?_;refine dW1 (aI @L8 (aI @T7 (aI @T8 (aI @K3 (aI @j9 (Be (Ext.refl Z2))))))) ?_;refine gS1 (aI g0 (aI hx2 ht2)) ?_;refine(Aw h2.sc ht0).mono ?_;rintro r ⟨Z6,rfl,hE6,q6⟩;have h6:=h2.step hE6 q6 (C7 k' _ ht0 (by rw[z6z hp];decide));refine gU1 (aI @A4 (aI @P9 (aI @N5 (aI @N9 (aI @N6 (aI @K6 (aI @M5 (aI @K7 (aI @K8 (aI @H8 g0)))))))))) ?_;have h7:=h6.J0 (Ext.new (t:=none) Z6 [str w.1]);have hl0:=h7.sl 3 om;have d1:=h7.dx 3 om;rw[ha]at hl0 d1;refine G4 (lo:=ZL.n) (D4:=T'.F5.map fun s=>[str s]) (row:=[str w.1]) (fun _ _ _ _=>M4) hl0 (D1 nL nL) (D8 (by simp) (by simp)) (by rw[z2z];omega) (by have:=h7.ext.n;simp at this ⊢;omega) ?_;intro v9 Z9 g1 g2 g3;have hbt:bt<Z6.n:=z5z h6.btl h6.ext.n;have ro:Z9.A7 bt=some (tnR T' v' [c1,c2,c3,c4,c5]):=by
     rw[B8 (g2.same bt (by simp;omega) fun e=>by have:=(hl0.blk e).1;omega)];exact h7.row
    obtain⟨a',rfl⟩:=OL.shape g1;have h10:=h7.app (T':={ T' with F5:=T'.F5++[w.1] }) (vs':=vs') (i:=3) om (by rw[ha];exact g2) (by show OL _ _ 1 _ (List.map _ _);rw[y7];exact g1) (by intro j hj hne;match j,hj,hne with|0,_,_=>rfl|1,_,_=>rfl|2,_,_=>rfl|4,_,_=>rfl) rfl h7.iv;unfold tnR AI at ro;refine gS1 ro ?_;refine dW1 (aI @L8 (aI @T7 (aI @T8 (aI @K3 (aI @j9 (aI (cH hE6) (aI (Iz h2 h6) (Ba g2 d1)))))))) ?_
   case' false=>
    refine gS1 (aI g0 (aI hpp hp)) ?_;refine(Td om).mono ?_;rintro r ⟨Z3,rfl,hE3⟩;have h3:=h2.J0 hE3;refine gS ?_;refine(M6 h3.sc ht0).mono ?_;rintro r (⟨hok,rfl⟩|⟨hok,Z4,rfl,hE4⟩)
    case inr=>
     refine gS ?_;refine Ar.intro kR ?_;refine gS ?_;rw[z0z (by rw[hok];simp)];exact⟨_,_,rfl,(h3.J0 hE4).ext⟩
    rw[z1z (by rw[hok];rfl)];have hx3:=A6 h3.sc.row;have ht3:=A6 h3.row;unfold K2 at hx3;unfold tnR AI at ht3;rw[ha]at ht3;refine gS1 (aI g0 (aI hx3 ht3)) ?_;have hst:HX Z3 (.slice a T'.F5.length T'.F5.length) T'.F5:=by rw[<- ha];exact OL.sl (h3.sl 3 om)
    refine(Ch hst om).mono ?_;rintro r rfl;refine gS1 g0 ?_;refine(M6 h3.sc ht0).mono ?_;rintro r (⟨hc,rfl⟩|⟨hc,Z5,rfl,hE5⟩)
    case inr=>
     refine gS ?_;refine Ar.intro kR ?_;refine dW1 (aI @L8 (aI @T7 (aI @T8 (aI @K3 (aI @j9 (aI (Be (Ext.refl Z3)) (Be hE5))))))) ?_;refine gS ?_;rw[z1z (by simpa using hc)];exact⟨_,_,rfl,(h3.J0 hE5).ext⟩
    rw[z0z (by simpa using hc)];refine gS1 (aI g0 (aI hx3 ht3)) ?_;refine dW1 (aI @L8 (aI @T7 (aI @T8 (aI @K3 (aI @j9 (Be (Ext.refl Z3))))))) ?_;refine gS1 (aI g0 (aI hx3 (aI ht3 e12))) ?_;refine(M6 h3.sc ht0).mono ?_;rintro r (⟨hc,rfl⟩|⟨hc,Z5,rfl,hE5⟩)
    case inr=>
     refine gS ?_;refine Ar.intro kR ?_;refine dW1 (aI @L8 (aI @T7 (aI @T8 (aI @K3 (aI @j9 (aI (Be (Ext.refl Z3)) (Be hE5))))))) ?_;refine gS ?_;rw[z0z (z9z hc)];exact⟨_,_,rfl,(h3.J0 hE5).ext⟩
    rw[z1z (z6z hc)];refine gS1 (aI g0 (aI hx3 ht3)) ?_;refine dW1 (aI @L8 (aI @T7 (aI @T8 (aI @K3 (aI @j9 (Be (Ext.refl Z3))))))) ?_;refine gS1 (aI g0 (aI hx3 ht3)) ?_;refine(Aw h3.sc ht0).mono ?_;rintro r ⟨Z6,rfl,hE6,q6⟩;have h6:=h3.step hE6 q6 (C7 k' _ ht0 (Mg hok));refine gU1 (aI @A4 (aI @P9 (aI @N5 (aI @N9 (aI @N6 (aI @K6 (aI @M5 (aI @K7 (aI @K8 (aI @H8 g0)))))))))) ?_;have h7:=h6.J0 (Ext.new (t:=none) Z6 [str w.1]);have hl0:=h7.sl 3 om;have d1:=h7.dx 3 om;rw[ha]at hl0 d1;refine G4 (lo:=ZL.n) (D4:=T'.F5.map fun s=>[str s]) (row:=[str w.1]) (fun _ _ _ _=>M4) hl0 (D1 nL nL) (D8 (by simp) (by simp)) (by rw[z2z];omega) (by have:=h7.ext.n;simp at this ⊢;omega) ?_;intro v9 Z9 g1 g2 g3;have hbt:bt<Z6.n:=z5z h6.btl h6.ext.n;have ro:Z9.A7 bt=some (tnR T' v' [c1,c2,c3,c4,c5]):=by
     rw[B8 (g2.same bt (by simp;omega) fun e=>by have:=(hl0.blk e).1;omega)];exact h7.row
    obtain⟨a',rfl⟩:=OL.shape g1;have h10:=h7.app (T':={ T' with F5:=T'.F5++[w.1] }) (vs':=vs') (i:=3) om (by rw[ha];exact g2) (by show OL _ _ 1 _ (List.map _ _);rw[y7];exact g1) (by intro j hj hne;match j,hj,hne with|0,_,_=>rfl|1,_,_=>rfl|2,_,_=>rfl|4,_,_=>rfl) rfl h7.iv;unfold tnR AI at ro;refine gS1 ro ?_;refine dW1 (aI @L8 (aI @T7 (aI @T8 (aI @K3 (aI @j9 (aI (cH hE6) (aI (Iz h3 h6) (Ba g2 d1)))))))) ?_
   all_goals
    refine gS1 @H6 ?_;refine⟨f,om,_,k'+1,_,_,_,om,fR1 g0,h10,rfl,?_⟩;rw[BD];have:=z6z hc;simp;omega
 ·intro r;cases hR:HE A1 T k with
  | error pe=>
    obtain⟨p,e⟩:=pe;rintro⟨fr,Z',rfl,hE⟩;refine gS ?_;exact⟨_,rfl,hE⟩
  | ok ak=>
    obtain⟨T',k'⟩:=ak;rintro⟨fr,Z',v',fc',vs',rfl,hL⟩;refine gS1 @Tryz.results99 ?_;exact⟨_,_,_,_,rfl,hL⟩
end
section
variable {l:List Int}{s:Int}
section
variable {Z:St}
def Js (l:List Int) (s:Int):Nat->Bool
 |0=>false
 |k+1=>Js l s k||decide (l[k]? =some s)
def cN (l:List Int) (s:Int) (k:Nat):Js l s k=true↔∃ i,i<k/\l[i]? =some s:=by
 induction k with
 |zero=>simp[Js]
 | succ k ih=>
   simp only[Js,IJ,ih,z3z];constructor
   ·rintro(⟨i,h1,h2⟩|h)
    ·exact⟨i,om,h2⟩
    ·exact⟨k,om,h⟩
   ·rintro⟨i,h1,h2⟩;by_cases e:i=k
    ·subst e;exact .inr h2
    ·exact .inl ⟨i,om,h2⟩
def OV (l:List Int) (s:Int):Js l s l.length=l.contains s:=by
 rw[z7z,cN,PV,WI];constructor
 ·rintro⟨i,-,h⟩;exact⟨i,h⟩
 ·rintro⟨i,h⟩;obtain⟨hlt,_⟩:=List.getElem?_eq_some_iff.1 h;exact⟨i,hlt,h⟩
def cO {v:Value}(hl:Fk Z v l) (hn:l.length<=4294967296):
  Ev (gO 178 [v,.int .i64 s] Z) (fun r=>∃ n:Int,r=⟨false,.int .i64 n,Z⟩/\(0<=n↔l.contains s=true)/\ -1<=n/\n<4294967297) ⟨⟩:=by
 obtain⟨a,c,b,off,cells,rfl,h1,h2⟩:=SL.use hl;rw[z2z]at *;refine D0 Tryz.func178 rfl rfl ?_;refine gS ?_
 refine V9 (fun j fr Z'=>∃ k,j=l.length-k/\k<=l.length/\fr.get 0=some (.slice a l.length c)/\fr.get 1=some (.int .i64 s)/\fr.get 7=some (.int .i64 l.length)/\fr.get 8=some (.int .i64 k)/\Z'=Z/\Js l s k=false)
  (fun r=>(∃ fr,r=⟨.exit 0,fr,Z⟩/\Js l s l.length=false)\/(∃ fr k,r=⟨.ret,fr,Z⟩/\fr.get 4=some (.int .i64 (k:Nat))/\k<l.length/\l.contains s=true)) l.length ?_ ?_ ?_
 ·refine⟨0,rfl,om,?_,?_,?_,?_,rfl,rfl⟩
  all_goals exact fR
 ·rintro j fr Z' ⟨k,rfl,hk,g0,g1,g7,g8,rfl,hm⟩;by_cases hc:k<l.length
  ·obtain⟨sp,rfl,hb,hr⟩:=h1 om;obtain⟨x,hx⟩:∃ x,l[k]? =some x:=⟨_,List.getElem?_eq_getElem hc⟩
   have h2:=h2 k _ (by rw[List.getElem?_map,hx];rfl);rw[Df]at h2;have hc':decide (k<l.length)=true:=by simpa using hc
   refine gS1 (aI g0 (aI g1 (aI g7 (aI g8 (aI @IY (aI hc' (aI hr (aI @Df h2)))))))) ?_;refine Br.intro (fun hd=>?_) (fun hd=>?_)
   ·obtain rfl:s=x:=by simpa using hd
    refine gS1 (aI g0 (aI g1 (aI g7 (aI g8 @NL)))) ?_;refine .inr ⟨_,k,rfl,fR,hc,?_⟩;rw[PV];exact W8 hx
   ·have hd:s≠x:=by simpa using hd
    refine gS1 (aI g0 (aI g1 (aI g7 (aI g8 (aI @JY @H6))))) ?_;refine⟨l.length-(k+1),om,k+1,rfl,om,fR1 g0,fR1 g1,fR1 g7,fR,by trivial,?_⟩;show(Js l s k||decide (l[k]? =some s))=false;rw[hm,hx]
    simpa using fun h=>hd h.symm
  ·have hc':decide (k<l.length)=false:=by simpa using hc
   obtain rfl:k=l.length:=om;refine gS1 (aI g0 (aI g1 (aI g7 (aI g8 (aI @IY (aI hc' @Q9)))))) ?_;exact .inl ⟨_,rfl,hm⟩
 ·rintro r (⟨fr,rfl,hm⟩|⟨fr,k,rfl,g4,hk,hm⟩)
  ·refine gS1 @Tryz.results178 ?_;refine⟨-1,rfl,?_,om,om⟩;rw[<- OV,hm];simp
  ·refine gS1 (aI @Tryz.results178 g4) ?_;exact⟨k,rfl,by rw[hm];simp,om,om⟩
def SB {v:Value}(hl:Fk Z v l) (hn:l.length<=4294967296):
  Ev (gO 147 [v,.int .i64 s] Z) (fun r=>r=⟨false,.bool (l.contains s),Z⟩) ⟨⟩:=by
 have hl':=hl;obtain⟨a,c,b,off,cells,rfl,h1,h2⟩:=SL.use hl;rw[z2z]at *;refine D0 Tryz.func147 rfl rfl ?_;refine gS ?_;refine(cO hl' hn).mono ?_;rintro r ⟨n,rfl,h3,h4,h5⟩;have hb:(!decide (n<0))=l.contains s:=by
  rw[z7z,<- h3];simp
 refine gS1 (aI @Tryz.results147 hb) ?_;try exact⟨⟩
end
def DS (A1:List Tok):Nat->List Int->Nat->Except Er (List Int×Nat)
 |0,l,k=> .ok (l,k)
 | f+1,l,k=>if (decide (l.length<2)|| !decide ((A9 A1 k).1=[]))=true then
    G2 (rdNum A1 1 (fun n=> !(l.contains n)) k) fun(n,k1)=>if l.length=12 then .error ((A9 A1 k).2,2)else DS A1 f (l++[(n:Int)]) k1
   else .ok (l,k)
def HO {A1:List Tok}{f:Nat}{k:Nat}:DS A1 (f+1) l k=(if (decide (l.length<2)|| !decide ((A9 A1 k).1=[]))=true then
   G2 (rdNum A1 1 (fun n=> !(l.contains n)) k) fun(n,k1)=>if l.length=12 then .error ((A9 A1 k).2,2)else DS A1 f (l++[(n:Int)]) k1
  else .ok (l,k)):=rfl
def DA (A1:List Tok) (T:Tn) (k:Nat):Except Er (Tn×Nat):=G2 (DS A1 (A1.length-k) [] k) fun(l,k)=> .ok ({ T with D6:=T.D6++[l] },k)
def sJ {α:Type}{A1:List Tok}{k k1:Nat}{R:Except Int α}{a:α}(h:rd1 A1 k R= .ok (a,k1)):k1=k+1:=by
 cases R with
 |ok b=>cases h;rfl
 |error e=>cases h
section
variable {Z ZL:St}{bt bx:Nat}{T:Tn}{tv:Value}{A1:List Tok}{k:Nat}{tx:By}{from':Nat}{v:Nat->Value}{fc vs:List Value}
def Yq {n:Nat}{c:Nat}{w:Value}(hc:Z.row c=some [w]) (hw:Fk Z w l) (hl:l.length<=100):
  Ev (gO 146 [.int .i64 (n:Nat),.pointer (some ⟨c,0,none⟩)] Z) (fun r=>∃ Z2,r=⟨false,.bool (!(l.contains (n:Int))),Z2⟩/\Ext Z Z2) ⟨⟩:=by
 obtain⟨a,cc,b,off,cells,rfl,h1,h2⟩:=SL.use hw;rw[z2z]at *;refine D0 Tryz.func146 rfl rfl ?_;refine gS1 hc ?_;refine(SB hw om).mono ?_;rintro r rfl;refine gS1 @Tryz.results146 ?_;exact⟨_,rfl,.refl _⟩
def sK (h:Ln ZL Z bt bx T tv A1 k (K2 tx from' bt) v fc vs) (C7:Ends A1) (hsh:u9 A1) (hlen:vs.length<=100000):
  Ev (gO 101 [.pointer (some ⟨bx,0,none⟩)] Z) (LnP ZL bt bx tv A1 (K2 tx from' bt) (DA A1 T k)) ⟨⟩:=by
 have m1:=h.btl;have m2:=h.bxg;have m3:=h.ext.n;have m4:=h.sc.lt;refine D0 Tryz.func101 rfl rfl ?_;refine gS ?_
 refine V9 (fun j fr Z'=>∃ l k' w,j=A1.length-k'/\fr.get 0=some (.pointer (some ⟨bx,0,none⟩))/\fr.get 2=some (.pointer (some ⟨Z.n,0,none⟩))/\B9 bx Z Z'/\Z'.A7 bx=some (tv:: .int .i64 (k':Nat)::K2 tx from' bt)/\k'<A1.length /\
   Z.n<Z'.n/\Z'.A7 Z.n=some [w]/\OL (Z.n+1) Z' 1 w (l.map fun n=>[.int .i64 n])/\DS A1 j l k'=DS A1 (A1.length-k) [] k/\l.length<=12)
  (fun r=>match DS A1 (A1.length-k) [] k with
    | .ok (l,k')=>∃ fr Z' w,r=⟨.exit 0,fr,Z'⟩/\fr.get 0=some (.pointer (some ⟨bx,0,none⟩))/\fr.get 2=some (.pointer (some ⟨Z.n,0,none⟩))/\B9 bx Z Z'/\Z'.A7 bx=some (tv:: .int .i64 (k':Nat)::K2 tx from' bt)/\k'<A1.length /\
       Z.n<Z'.n/\Z'.A7 Z.n=some [w]/\OL (Z.n+1) Z' 1 w (l.map fun n=>[.int .i64 n])
    | .error (p,e)=>∃ fr Z',r=⟨.pan (fault p e),fr,Z'⟩/\B9 bt ZL Z') (A1.length-k) ?_ ?_ ?_
 ·exact⟨[],k,.slice none 0 0,rfl,fR,fR,eXX,cL1 @h.sc.row,h.sc.k,by simp,cL,OL.nil,rfl,by simp⟩
 ·rintro j fr Z' ⟨l,k',w,rfl,g0,g2,hE,hq,hk,hc,ho,hol,hT,hl⟩;rw[<- hT];clear hT;obtain⟨f,hf⟩:∃ f,A1.length-k'=f+1:=⟨A1.length-k'-1,om⟩
  rw[hf,HO];have hL:=h.step hE hq hk;have ht0:=I9 hk;have ho':=A6 ho;obtain⟨a,rfl⟩:=OL.shape hol;rw[z2z]at *;have ez:decide ((l.length:Int)<2)=decide (l.length<2):=by rw[z7z];simp;omega
  have e12:decide ((l.length:Int)=12)=decide (l.length=12):=by rw[z7z];simp;omega
  cases hz:decide (l.length<2)
  case' true=>
   have hq2:True:=trivial;refine gS1 (aI g0 (aI g2 (aI ho' (aI ez hz)))) ?_;rw[z1z (by first|rfl|(rw[hq2];rfl))];refine(Y8 hL.sc ht0).mono ?_;rintro r ⟨Z2,rfl,hE2⟩;have h2:=hL.J0 hE2;have PY:B9 bx Z Z2:=hE.trans (.of hE2);have o2:Z2.A7 Z.n=some [.slice a l.length l.length]:=by rw[B8 (hE2.same _ om)];exact ho
   have ol2:OL (Z.n+1) Z2 1 (.slice a l.length l.length) (l.map fun n=>[.int .i64 n]):=OL.ext hol hE2
  case' false=>
   refine gS1 (aI g0 (aI g2 (aI ho' (aI ez hz)))) ?_;refine(Y8 hL.sc ht0).mono ?_;rintro r ⟨Z1,rfl,hE1⟩;have h1:=hL.J0 hE1;have Nf:B9 bx Z Z1:=hE.trans (.of hE1);have o1:Z1.A7 Z.n=some [.slice a l.length l.length]:=by rw[B8 (hE1.same _ om)];exact ho
   have ol1:=OL.ext hol hE1;have hn1:=hE1.n;cases hq2:decide ((A9 A1 k').1=[])
   case true=>
     refine gS1 (aI g0 (aI g2 (aI hq2 @Q9))) ?_;rw[z0z (by simp)];exact⟨_,_,_,rfl,fR1 g0,fR1 g2,Nf,h1.sc.row,hk,om,o1,ol1⟩
   refine gS1 (aI g0 (aI g2 hq2)) ?_;rw[z1z (by first|rfl|(rw[hq2];rfl))];refine(Y8 h1.sc ht0).mono ?_;rintro r ⟨Z2,rfl,hE2⟩;have h2:=h1.J0 hE2;have PY:B9 bx Z Z2:=Nf.trans (.of hE2);have o2:Z2.A7 Z.n=some [.slice a l.length l.length]:=by rw[B8 (hE2.same _ om)];exact o1
   have ol2:OL (Z.n+1) Z2 1 (.slice a l.length l.length) (l.map fun n=>[.int .i64 n]):=OL.ext ol1 hE2
  all_goals
   have hn2:=hE2.n;refine gS1 (aI g0 g2) ?_;refine(gC (fs:=[]) (cs:=[.pointer (some ⟨Z.n,0,none⟩)]) (nw:=fun n=> !(l.contains n)) h2.sc C7 hsh fun Z' n hE' _=>?_).mono ?_
   ·refine Yq (w:= .slice a l.length l.length) ?_ (OL.sl (OL.ext ol2 hE')) om;rw[hE'.row om];exact A6 o2
   intro r;cases hR:rdNum A1 1 (fun n=> !(l.contains n)) k' with
   | error pe=>
     obtain⟨p,e⟩:=pe;rintro⟨Z3,rfl,hE3⟩;refine gS1 (aI g0 g2) ?_;rw[D9];exact⟨_,_,rfl,(h2.J0 hE3).ext⟩
   | ok ak=>
     obtain⟨n,k1⟩:=ak;rintro⟨Z3,rfl,hE3,q3,hk3⟩;rw[C1]
     try dsimp only
     have hk1:=sJ hR;have sL:=PY.trans hE3;have o3:=eT (hE3.A7 om om) o2;have ol3:OL (Z.n+1) Z3 1 (.slice a l.length l.length) (l.map fun n=>[.int .i64 n]):=OL.BI ol2 hE3 om;have o3':=A6 o3;have hn3:=hE3.n;unfold NY;cases h12:decide (l.length=12)with
     | true=>
       rw[z1z (z6z h12)];refine gS1 (aI g0 (aI g2 (aI o3' (aI e12 h12)))) ?_;exact⟨_,_,rfl,(h.step sL q3 hk3).ext⟩
     | false=>
       rw[z0z (z9z h12)];refine gU1 (aI @A4 (aI @N5 (aI @N9 (aI @N6 (aI @K6 (aI @M4 (aI @M5 (aI @K7 (aI @K8 (aI @H8 (aI g0 (aI g2 (aI o3' (aI e12 h12)))))))))))))) ?_;have ol4:=OL.ext ol3 (Ext.new (t:=none) Z3 [.int .i64 n]);refine G4 (lo:=Z.n+1) (D4:=l.map fun n=>[.int .i64 n]) (row:=[.int .i64 n]) (fun _ _ _ _=>P9) (by first|exact ol4|(rw[z2z];exact ol4)) (D1 nL nL) (D8 (by simp) (by simp)) (by rw[z2z];omega) (by simp;omega) ?_;intro w9 Z9 d1 d2 d3;have ro:Z9.A7 Z.n=some [.slice a l.length l.length]:=by
        rw[B8 (d2.same _ (by simp;omega) fun e=>by have:=(ol4.blk e).1;omega)];exact cL1 o3
       have hE9:B9 bx Z Z9:=B9.app d2 (sL.LL _) ol4 om;have q9:Z9.A7 bx=some (tv:: .int .i64 (k1:Nat)::K2 tx from' bt):=by
        rw[B8 (d2.same bx (by simp;omega) fun e=>by have:=(ol4.blk e).1;omega)];exact cL1 q3
       obtain⟨a',rfl⟩:=OL.shape d1;have hn9:=d2.n;simp at hn9;refine gS1 (aI g0 (aI g2 (aI ro @H6))) ?_;refine⟨f,om,l++[(n:Int)],k1,_,om,fR1 g0,fR1 g2,hE9.As om _,cL1 q9,hk3,by(try simp);omega,(by first|rfl|exact D5),?_,rfl,?_⟩
       ·rw[y7];exact OL.Fz d1 om
       ·rw[BD];have:=z9z h12;simp;omega
 ·intro r;unfold DA;cases hR:DS A1 (A1.length-k) [] k with
  | error pe=>
    obtain⟨p,e⟩:=pe;rintro⟨fr,Z',rfl,hE⟩;refine gS ?_;rw[D9];exact⟨_,rfl,hE⟩
  | ok ak=>
    obtain⟨l,k1⟩:=ak;rintro⟨fr,Z',w,rfl,g0,g2,hE,hq,hk,hc,ho,hol⟩;rw[C1];have h2:=h.step hE hq hk;have hx:=A6 h2.sc.row;have ht:=A6 h2.row;have ho':=A6 ho;unfold K2 at hx;obtain⟨c1,c2,c3,c4,c5,rfl⟩:=fc5 h2.fx;unfold tnR AI at ht;obtain⟨a,ha⟩:=OL.shape (h2.sl 4 om);rw[show(CH T vs 4).length=vs.length from z2z ..]at ha;rw[ha]at ht;obtain⟨aw,rfl⟩:=OL.shape hol;refine gU1 (aI @A4 (aI @P9 (aI @N5 (aI @N9 (aI @N6 (aI @K6 (aI @M4 (aI @K7 (aI @K8 (aI @H8 (aI g0 (aI g2 (aI hx (aI ht ho')))))))))))))) ?_;rw[z2z]at *;have h5:=h2.J0 (Ext.new (t:=none) Z' [.slice aw l.length l.length]);have hl0:=h5.sl 4 om;have d1:=h5.dx 4 om;have d2:I2 (v 4)≠some Z.n:=fun e=>by have:=((h.sl 4 om).blk e).2;omega
    rw[ha]at hl0 d1 d2;refine G4 (lo:=ZL.n) (D4:=vs.map fun x=>[x]) (row:=[.slice aw l.length l.length]) (fun _ _ _ _=>M5) (by first|exact hl0|(rw[z2z];exact hl0)) (D1 nL nL) (D8 (by simp) (by simp)) (by rw[z2z];omega) (by have:=h5.ext.n;simp at this ⊢;omega) ?_;intro v9 Z9 g1 g2' g3;have hn:=hE.n;have ro:Z9.A7 bt=some (tnR T v [c1,c2,c3,c4,c5]):=by
     rw[B8 (g2'.same bt (by simp;omega) fun e=>by have:=(hl0.blk e).1;omega)];exact h5.row
    obtain⟨a',rfl⟩:=OL.shape g1;have hin:Fk (J5 (Z'.new [.slice aw l.length l.length] none) (held bt bx v)) (.slice aw l.length l.length) l:=by
     refine(OL.J5 (OL.ext hol (Ext.new (t:=none) Z' [.slice aw l.length l.length])) fun q hq=>?_).sl;rcases CN.1 hq with e|e|⟨i,hi,e⟩|e
     ·omega
     ·omega
     ·have:=((h.sl i hi).blk e).2;omega
     ·omega
    have h10:=h5.app (T':={ T with D6:=T.D6++[l] }) (vs':=vs++[.slice aw l.length l.length]) (i:=4) om (by rw[ha];exact g2') (by show OL _ _ 1 _ (List.map _ _);rw[y7];exact g1) (by intro j hj hne;match j,hj,hne with|0,_,_=>rfl|1,_,_=>rfl|2,_,_=>rfl|3,_,_=>rfl|4,_,hq=>exact absurd rfl hq) rfl (FP.app hin h5.iv);unfold tnR AI at ro;refine gS1 ro ?_;refine dW1 (aI @L8 (aI @T7 (aI @T8 (aI @K3 (aI @j9 (aI (Ba g2' d1) (Ba g2' d2))))))) ?_;refine gS1 @Tryz.results101 ?_;exact⟨_,_,_,_,rfl,h10⟩
end
end
section
variable {Z ZL:St}{bt bx:Nat}{T:Tn}{tv:Value}{A1:List Tok}{k:Nat}{tx:By}{from':Nat}{v:Nat->Value}{fc vs:List Value}
def Y0 (i:Nat) (T:Tn) (n:Int):Tn:=match i with
 |0=>{ T with t:={ T.t with q:=n } }
 |1=>{ T with t:={ T.t with b:=n } }
 |2=>{ T with t:={ T.t with g:=n } }
 |3=>{ T with t:={ T.t with p:=n } }
 |_=>{ T with t:={ T.t with s:=n } }
def Dp (A1:List Tok):Nat->Tn->Nat->Except Er (Tn×Nat)
 |0,T,k=> .ok (T,k)
 |f+1,T,k=>G2 (N7 A1 k) fun(n,k)=>Dp A1 f (Y0 (4-f) T n) k
def FX {A1:List Tok}{f:Nat}{T:Tn}{k:Nat}:Dp A1 (f+1) T k=G2 (N7 A1 k) fun(n,k)=>Dp A1 f (Y0 (4-f) T n) k:=rfl
def DR (A1:List Tok) (T:Tn) (k:Nat):Except Er (Tn×Nat):=Dp A1 5 T k
def qX (h:Ln ZL Z bt bx T tv A1 k (K2 tx from' bt) v fc vs) (C7:Ends A1) (hsh:u9 A1) :
  Ev (gO 104 [.pointer (some ⟨bx,0,none⟩)] Z) (LnP ZL bt bx tv A1 (K2 tx from' bt) (DR A1 T k)) ⟨⟩:=by
 have m1:=h.btl;have m2:=h.bxg;have m3:=h.ext.n;have m4:=h.sc.lt;have hx:=A6 h.sc.row;unfold K2 at hx;refine D0 Tryz.func104 rfl rfl ?_;refine gS1 hx ?_
 refine F4 5 (fun i fr Z'=>∃ T' k' v' fc' vs',fr.get 0=some (.pointer (some ⟨bx,0,none⟩))/\fr.get 26=some (.slice (some ⟨Z.n,0,none⟩) 5 5)/\fr.get 27=some (.int .i64 5)/\fr.get 28=some (.int .i64 (i:Nat))/\Z.n<Z'.n /\
   Z'.row Z.n=some [.pointer (some ⟨bt,15,none⟩),.pointer (some ⟨bt,16,none⟩),.pointer (some ⟨bt,17,none⟩),.pointer (some ⟨bt,18,none⟩),.pointer (some ⟨bt,19,none⟩)] /\
   Ln ZL Z' bt bx T' tv A1 k' (K2 tx from' bt) v' fc' vs'/\Dp A1 (5-i) T' k'=DR A1 T k)
  (fun r=>match DR A1 T k with
    | .ok (T',k')=>∃ fr Z' v fc vs,r=⟨.exit 0,fr,Z'⟩/\Ln ZL Z' bt bx T' tv A1 k' (K2 tx from' bt) v fc vs
    | .error (p,e)=>∃ fr Z',r=⟨.pan (fault p e),fr,Z'⟩/\B9 bt ZL Z') ?_ ?_ ?_ ?_
 ·exact⟨T,k,v,fc,vs,fR,fR,fR,fR,by simp,cL,h.J0 (.new _ _),rfl⟩
 ·rintro i fr Z' hi ⟨T',k',v',fc',vs',g0,g26,g27,g28,hn,hr,hL,hT⟩;rw[<- hT];clear hT;have ht0:=I9 hL.sc.k;have ed:decide ((i:Int)<5)=true:=by rw[z3z];omega
  have ed2:decide (i<5)=true:=by rw[z3z];omega
  have e1:(i:Int)+1=((i+1:Nat):Int):=om;have hs:sub [.pointer (some ⟨bt,15,none⟩),.pointer (some ⟨bt,16,none⟩),.pointer (some ⟨bt,17,none⟩),.pointer (some ⟨bt,18,none⟩),.pointer (some ⟨bt,19,none⟩)] i 1=some [Value.pointer (some ⟨bt,15+i,none⟩)]:=by
   obtain rfl|rfl|rfl|rfl|rfl:i=0\/i=1\/i=2\/i=3\/i=4:=om
   all_goals rfl
  obtain⟨f,hf⟩:∃ f,5-i=f+1:=⟨4-i,om⟩
  rw[hf,FX];have hlt:Nat.blt i 5=true:=by rw[DC];exact hi
  refine gS1 (aI g0 (aI g26 (aI g27 (aI g28 (aI hr (aI hs (aI ed (aI ed2 @Df)))))))) ?_;refine(Gs hL.sc C7 hsh).mono ?_;intro r;cases hR:N7 A1 k' with
  | error pe=>
    obtain⟨p,e⟩:=pe;rintro⟨Z3,rfl,hE3⟩;refine gS ?_;rw[D9];exact⟨_,_,rfl,(hL.J0 hE3).ext⟩
  | ok ak=>
    obtain⟨n,k1⟩:=ak;rintro⟨Z3,rfl,hE3,q3,hk3⟩;rw[C1]
    try dsimp only
    have h3:=hL.step hE3 q3 hk3;have hr3:Z3.row Z.n=_:=(hE3.row hn om).trans hr;have hn3:=hE3.n;obtain⟨c1,c2,c3,c4,c5,rfl⟩:=fc5 h3.fx;have ro:=h3.row;have hsp:I7 (tnR T' v' [c1,c2,c3,c4,c5]) (15+i) [.int .i64 (n:Nat)]=some (tnR (Y0 i T' n) v' [c1,c2,c3,c4,c5]):=by
     obtain rfl|rfl|rfl|rfl|rfl:i=0\/i=1\/i=2\/i=3\/i=4:=om
     all_goals rfl
    unfold NY;refine gS1 (aI ro (aI hsp (aI g0 (aI g26 (aI g27 (aI g28 e1)))))) ?_;have hfi:4-f=i:=om;refine⟨Y0 i T' n,k1,v',[c1,c2,c3,c4,c5],vs',fR1 g0,fR1 g26,fR1 g27,fR,by(try simp);omega,cL1 hr3,?_,?_⟩
    ·refine h3.put (Y0 i T' n) ?_ ?_ ?_
     all_goals (obtain rfl|rfl|rfl|rfl|rfl:i=0\/i=1\/i=2\/i=3\/i=4:=om)
     all_goals rfl
    ·rw[hfi,show 5-(i+1)=f by omega]
 ·rintro fr Z' ⟨T',k',v',fc',vs',g0,g26,g27,g28,hn,hr,hL,hT⟩;rw[<- hT];clear hT;have ed:decide (((5:Nat):Int)<5)=false:=rfl;refine gS1 (aI g0 (aI g26 (aI g27 (aI g28 (aI ed @Q9))))) ?_;exact⟨_,_,_,_,_,rfl,hL⟩
 ·intro r;cases hR:DR A1 T k with
  | error pe=>
    obtain⟨p,e⟩:=pe;rintro⟨fr,Z',rfl,hE⟩;refine gS ?_;exact⟨_,rfl,hE⟩
  | ok ak=>
    obtain⟨T',k'⟩:=ak;rintro⟨fr,Z',v',fc',vs',rfl,hL⟩;refine gS1 @Tryz.results104 ?_;exact⟨_,_,_,_,rfl,hL⟩
end
end Go.Proofs.T
