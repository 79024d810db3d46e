/- A Fj AS was read is bounded. -/
import Derived.Test.YtckchelhlpifiaaGreatDoorVF
import Derived.Test.YtckchelhlpifiaaGreatDoorED
set_option linter.unusedSimpArgs false
set_option linter.unusedVariables false
set_option linter.defProp false
set_option maxHeartbeats 32000000
set_option maxRecDepth 100000
namespace Go.Proofs.T
open Go Go.Ab
section
variable {T T':Tn}{A1:List Tok}
structure B12 (T:Tn):Prop where
 G8:T.G8.length<=12
 D2:T.D2.length<=12
 reqs:T.reqs.length<=24
 F5:T.F5.length<=12
 D6:T.D6.length<=12
 combo:∀ c∈T.D6,c.length<=12
def B12.cap (h:B12 T):Cap T:=⟨by have:=h.G8;omega,by have:=h.D2;omega,by have:=h.reqs;omega,by have:=h.F5;omega,by have:=h.D6;omega,fun c hc=>by have:=h.combo c hc;omega⟩
def nT:∀ (f:Nat) (T:Tn) (k:Nat) (T':Tn) (k':Nat),B12 T->Rf A1 f T k= .ok (T',k')->B12 T':=by
 intro f;induction f with
 |zero=>intro T k T' k' h e;cases e;exact h
 | succ f ih=>
   intro T k T' k' h e;rw[GU]at e;split at e
   ·split at e
    ·split at e
     ·cases e
     ·split at e
      ·rename_i hlt;refine ih { T with F5:=T.F5++[(A9 A1 k).1] } (k+1) _ _ ⟨h.G8,h.D2,h.reqs,?_,h.D6,h.combo⟩ e;simp;omega
      ·cases e
    ·cases e
   ·cases e;exact h
def aF:∀ (f:Nat) (T:Tn) (k:Nat) (T':Tn) (k':Nat),B12 T->Dp A1 f T k= .ok (T',k')->B12 T':=by
 intro f;induction f with
 |zero=>intro T k T' k' h e;cases e;exact h
 | succ f ih=>
   intro T k T' k' h e;rw[FX]at e;obtain⟨⟨m,k1⟩,h1,h2⟩:=C9 e;refine ih _ _ _ _ ?_ h2;unfold Y0;split<;>exact⟨h.G8,h.D2,h.reqs,h.F5,h.D6,h.combo⟩
def aG:∀ (f:Nat) (l:List Int) (k:Nat) (l':List Int) (k':Nat),l.length<=12->DS A1 f l k= .ok (l',k')->l'.length<=12:=by
 intro f;induction f with
 |zero=>intro l k l' k' h e;cases e;exact h
 | succ f ih=>
   intro l k l' k' h e;rw[HO]at e;split at e
   ·obtain⟨⟨m,k1⟩,h1,h2⟩:=C9 e;dsimp only at h2;split at h2
    ·cases h2
    ·refine ih _ _ _ _ ?_ h2;rw[BD];simp;omega
   ·cases e;exact h
def AH2 {w:By}{ks:KS}(hk:kS w=some ks){tx:By}{fr:Nat}{k k':Nat}(h:B12 T) (hf:ks.full T=false) (e:ks.rd A1 tx fr T k= .ok (T',k')):B12 T':=by
 by_cases h0:w=[116,101,110,100,101,114]
 ·subst h0;obtain rfl:=z8z (show some ((⟨true,fun _=>false,fun A1 _ _ T k=>Ad A1 T k⟩:KS))=some ks from hk);change Ad A1 T k=_ at e;unfold Ad at e;split at e<;>cases e;exact⟨h.G8,h.D2,h.reqs,h.F5,h.D6,h.combo⟩
 by_cases h1:w=[108,111,116]
 ·subst h1;obtain rfl:=z8z (show some ((⟨false,fun T=>decide (T.G8.length=12),fun A1 _ _ T k=>JX A1 T k⟩:KS))=some ks from hk);obtain⟨⟨a,k1⟩,h1,e⟩:=C9 (show JX A1 T k=_ from e);obtain⟨⟨b,k2⟩,h2,e⟩:=C9 e;obtain⟨⟨c,k3⟩,h3,e⟩:=C9 e;cases e;have:=h.G8;have hf:=z9z (show decide (T.G8.length=12)=false from hf);exact⟨by simp;omega,h.D2,h.reqs,h.F5,h.D6,h.combo⟩
 by_cases h2:w=[99,114,105,116,101,114,105,111,110]
 ·subst h2;obtain rfl:=z8z (show some ((⟨false,fun T=>decide (T.D2.length=12),fun A1 _ _ T k=>S9 A1 T k⟩:KS))=some ks from hk);obtain⟨a,h1,e⟩:=C9 (show S9 A1 T k=_ from e);split at e
  ·cases e
  obtain⟨⟨b,k2⟩,h2,e⟩:=C9 e;obtain⟨⟨c,k3⟩,h3,e⟩:=C9 e;obtain⟨⟨d,k4⟩,h4,e⟩:=C9 e;cases e;have:=h.D2;have hf:=z9z (show decide (T.D2.length=12)=false from hf);exact⟨h.G8,by simp;omega,h.reqs,h.F5,h.D6,h.combo⟩
 by_cases h3:w=[114,101,113,117,105,114,101]
 ·subst h3;obtain rfl:=z8z (show some ((⟨false,fun T=>decide (T.reqs.length=24),fun A1 _ _ T k=>AY A1 T k⟩:KS))=some ks from hk);obtain⟨a,h1,e⟩:=C9 (show AY A1 T k=_ from e);obtain⟨⟨b,k2⟩,h2,e⟩:=C9 e;obtain⟨⟨c,k3⟩,h3,e⟩:=C9 e;cases e;have:=h.reqs;have hf:=z9z (show decide (T.reqs.length=24)=false from hf);exact⟨h.G8,h.D2,by simp;omega,h.F5,h.D6,h.combo⟩
 by_cases h4:w=[112,114,105,99,101]
 ·subst h4;obtain rfl:=z8z (show some ((⟨true,fun _=>false,fun A1 _ _ T k=>Ep A1 T k⟩:KS))=some ks from hk);obtain⟨⟨a,k1⟩,h1,e⟩:=C9 (show Ep A1 T k=_ from e);obtain⟨⟨b,k2⟩,h2,e⟩:=C9 e;cases e;exact⟨h.G8,h.D2,h.reqs,h.F5,h.D6,h.combo⟩
 by_cases h5:w=[102,111,114,109,117,108,97]
 ·subst h5;obtain rfl:=z8z (show some ((⟨true,fun _=>false,fun A1 tx fr T k=>AZ A1 tx fr T k⟩:KS))=some ks from hk);obtain⟨a,h1,e⟩:=C9 (show AZ A1 tx fr T k=_ from e);cases e;exact⟨h.G8,h.D2,h.reqs,h.F5,h.D6,h.combo⟩
 by_cases h6:w=[116,105,101]
 ·subst h6;obtain rfl:=z8z (show some ((⟨true,fun _=>false,fun A1 _ _ T k=>HE A1 T k⟩:KS))=some ks from hk);exact nT _ _ _ _ _ h (show HE A1 T k=_ from e)
 by_cases h7:w=[109,111,115,116]
 ·subst h7;obtain rfl:=z8z (show some ((⟨true,fun _=>false,fun A1 _ _ T k=>Hl A1 T k⟩:KS))=some ks from hk);obtain⟨⟨a,k1⟩,h1,e⟩:=C9 (show Hl A1 T k=_ from e);cases e;exact⟨h.G8,h.D2,h.reqs,h.F5,h.D6,h.combo⟩
 by_cases h8:w=[99,111,109,98,111]
 ·subst h8;obtain rfl:=z8z (show some ((⟨false,fun T=>decide (T.D6.length=12),fun A1 _ _ T k=>DA A1 T k⟩:KS))=some ks from hk);obtain⟨⟨a,k1⟩,h1,e⟩:=C9 (show DA A1 T k=_ from e);cases e;have:=h.D6;have hf:=z9z (show decide (T.D6.length=12)=false from hf);have hl:=aG _ _ _ _ _ (by simp) h1;refine⟨h.G8,h.D2,h.reqs,h.F5,by simp;omega,fun c hc=>?_⟩;rcases DK.1 hc with hc|hc
  ·exact h.combo c hc
  ·rw[GK]at hc;subst hc;exact hl
 by_cases h9:w=[98,117,100,103,101,116]
 ·subst h9;obtain rfl:=z8z (show some ((⟨true,fun _=>false,fun A1 _ _ T k=>Cg A1 T k⟩:KS))=some ks from hk);obtain⟨⟨a,k1⟩,h1,e⟩:=C9 (show Cg A1 T k=_ from e);cases e;exact⟨h.G8,h.D2,h.reqs,h.F5,h.D6,h.combo⟩
 by_cases h10:w=[116,105,109,101,115]
 ·subst h10;obtain rfl:=z8z (show some ((⟨true,fun _=>false,fun A1 _ _ T k=>DR A1 T k⟩:KS))=some ks from hk);exact aF _ _ _ _ _ h (show DR A1 T k=_ from e)
 unfold kS at hk;simp only[z0z h0,z0z h1,z0z h2,z0z h3,z0z h4,z0z h5,z0z h6,z0z h7,z0z h8,z0z h9,z0z h10]at hk;cases hk
def nU {l:By}{a:Nat}{kv kv':List (By×Value)}(h:B12 T) (e:CO l a T kv= .ok (T',kv')):B12 T':=by
 unfold CO at e;split at e
 ·cases e;exact h
 ·split at e
  ·cases e
  ·rename_i ks hk;split at e
   ·cases e
   ·split at e
    ·cases e
    ·rename_i hfu;obtain⟨⟨T2,k2⟩,h1,h2⟩:=C9 e;dsimp only at h2;split at h2
     ·cases h2;exact AH2 hk h (by simpa using hfu) h1
     ·cases h2
def So:∀ (ls:List By) (a:Nat) (T:Tn) (kv:List (By×Value)) (T':Tn) (kv':List (By×Value)),B12 T->Fw ls a T kv= .ok (T',kv')->B12 T'
 | [],_,_,_,_,_,h,e=>by cases e;exact h
 | l::ls,a,T,kv,T',kv',h,e=>by
   rw[FY]at e;obtain⟨⟨T2,k2⟩,h1,h2⟩:=C9 e;exact So ls _ _ _ _ _ (nU h h1) h2
def ig {s:By}(e:DB s= .ok T):B12 T:=by
 unfold DB at e;obtain⟨⟨T2,kv⟩,h1,h2⟩:=C9 e;dsimp only at h2;split at h2
 ·cases h2;exact So _ _ _ _ _ _ ⟨by simp[T0],by simp[T0],by simp[T0],by simp[T0],by simp[T0],fun c hc=>by cases hc⟩ h1
 ·cases h2
end
def gE {Z:St}:Dm Z z20 T0 :=
 ⟨.slice none 0 0,.slice none 0 0,.slice none 0 0,[str [],.int .i64 0,.int .i64 0,str [],.slice none 0 0],.slice none 0 0,.slice none 0 0,rfl,.inl ⟨rfl,rfl⟩,.inl ⟨rfl,rfl⟩,.inl ⟨rfl,rfl⟩,⟨_,[],rfl,.inl ⟨rfl,rfl⟩,by simp,rfl⟩,.inl ⟨rfl,rfl⟩,[],.inl ⟨rfl,rfl⟩,trivial⟩
def Yw:Cap T0:=⟨by simp[T0],by simp[T0],by simp[T0],by simp[T0],by simp[T0],fun c hc=>by cases hc⟩
def iy {Z:St}{s:By} :
  Ev (gO 8 [str s] Z) (fun r=>∃ Z',r=⟨false,.bool true,Z'⟩/\Ext Z Z') ⟨⟩:=by
 refine D0 Tryz.func8 rfl rfl ?_;refine gS ?_;refine(iP (fun h l a hl _=>cE (by have:=Yt hl;rw[FE]at this;omega)) (fun _=>qs)).mono ?_;have gf:∀ T,LQ s= .ok T->Cap T:=by
  intro T h;unfold LQ at h;split at h
  ·cases h
  ·exact(ig h).cap
 generalize hR:LQ s=R at gf;have hr2:=fun Z=>iH (Z:=Z) (s:=s);rw[hR]at hr2;intro r hr;have fin:∀ (Z1:St) (cs:List Value) (T:Tn) (p e:Int) (fr:Fr),True:=fun _ _ _ _ _ _=>trivial;cases R with
 | error pe=>
   obtain⟨p,e⟩:=pe;obtain⟨Z1,rfl,E1⟩:=hr;unfold z20;refine gS ?_
   try refine dW1 (asx E1) ?_
   try(refine gS ?_;try exact⟨⟩)
   refine(hr2 _).mono ?_;rintro r ⟨Z2,rfl,E2⟩;have n2:Z1.n<Z2.n:=by have:=E2.n;simp at this;omega
   have rA:Z2.row Z1.n=some z20:=by rw[E2.row (by simp)];unfold z20;exact cL
   unfold z20 at rA ⊢;refine gS1 rA ?_
   try refine dW1 (asx E2) ?_
   try(refine gS1 rA ?_;try exact⟨⟩)
   refine(Sb (T:=T0) (U:=T0) gE gE Yw Yw).mono ?_;rintro r ⟨Z3,rfl,E3⟩;rw[RN];refine gS1 (a3N @G9 @H2 @Tryz.results8) ?_;refine⟨_,rfl,Ext.trans (Ext.trans (Ext.trans (Ext.trans E1 ?_) E2) ?_) E3⟩<;>exact eX
 | ok T=>
   obtain⟨Z1,cs,rfl,E1,hT⟩:=hr;have hT:=(hT [] (by simp)).Pg Pd;obtain⟨c0,c1,c2,c3,c4,c5,c6,c7,c8,c9,c10,c11,c12,c13,c14,c15,c16,c17,c18,c19,rfl⟩:=hT.cells;refine gS ?_
   try refine dW1 (asx E1) ?_
   try(refine gS ?_;try exact⟨⟩)
   refine(hr2 _).mono ?_;rintro r ⟨Z2,ds,rfl,E2,hU⟩;obtain⟨d0,d1,d2,d3,d4,d5,d6,d7,d8,d9,d10,d11,d12,d13,d14,d15,d16,d17,d18,d19,rfl⟩:=hU.cells;have n2:Z1.n<Z2.n:=by have:=E2.n;simp at this;omega
   have rA:Z2.row Z1.n=some [c0,c1,c2,c3,c4,c5,c6,c7,c8,c9,c10,c11,c12,c13,c14,c15,c16,c17,c18,c19]:=eT (E2.row (by simp)) cL;refine gS1 rA ?_
   try refine dW1 (asx E2) ?_
   try(refine gS1 rA ?_;try exact⟨⟩)
   have e1:Ext Z1 Z2:=Ext.trans (eX) E2;have e2:Ext Z2 ((Z2.new [str [],.slice none 0 0,.slice none 0 0,.slice none 0 0,.int .i64 0,.int .i64 0,str [],.int .i64 0,.int .i64 0,str [],.slice none 0 0,.slice none 0 0,.int .i64 0,.slice none 0 0,.int .i64 0,.int .i64 0,.int .i64 0,.int .i64 0,.int .i64 0,.int .i64 0] (some 41)).upd Z2.n [d0,d1,d2,d3,d4,d5,d6,d7,d8,d9,d10,d11,d12,d13,d14,d15,d16,d17,d18,d19]):=eX;refine(Sb (T:=T) (U:=T) (hT.mono (e1.trans e2)) (hU.mono e2) (gf T rfl) (gf T rfl)).mono ?_;rintro r ⟨Z3,rfl,E3⟩;rw[RN];refine gS1 (a3N @G9 @H2 @Tryz.results8) ?_;exact⟨_,rfl,((E1.trans e1).trans e2).trans E3⟩
end Go.Proofs.T
