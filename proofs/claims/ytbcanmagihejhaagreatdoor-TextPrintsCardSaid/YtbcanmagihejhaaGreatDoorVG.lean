/- A AQ Aa was read is bounded. -/
import Derived.Test.YtbcanmagihejhaaGreatDoorVC
import Derived.Test.YtbcanmagihejhaaGreatDoorEQ
set_option linter.unusedSimpArgs false
set_option linter.unusedVariables false
set_option linter.defProp false
set_option maxHeartbeats 32000000
set_option maxRecDepth 100000
namespace Go.Proofs.T
open Go Go.Ab
section
variable {A7:List Tok}{T T':Tn}
structure B12 (T:Tn):Prop where
 F9:T.F9.length<=12
 E9:T.E9.length<=12
 reqs:T.reqs.length<=24
 H2:T.H2.length<=12
 C8:T.C8.length<=12
 combo:∀ c∈T.C8,c.length<=12
def pC:∀ (f:Nat) (T:Tn) (k:Nat) (T':Tn) (k':Nat),B12 T->Na A7 f T k= .ok (T',k')->B12 T':=by
 intro f;induction f with
 |zero=>intro T k T' k' h e;cases e;exact h
 | succ f ih=>
   intro T k T' k' h e;rw[Hb]at e;split at e
   ·split at e
    ·split at e
     ·cases e
     ·split at e
      ·rename_i a;refine ih { T with H2:=T.H2++[(E8 A7 k).1] } (k+1) _ _ ⟨h.F9,h.E9,h.reqs,?_,h.C8,h.combo⟩ e;simp;omega
      ·cases e
    ·cases e
   ·cases e;exact h
def bM:∀ (f:Nat) (T:Tn) (k:Nat) (T':Tn) (k':Nat),B12 T->IL A7 f T k= .ok (T',k')->B12 T':=by
 intro f;induction f with
 |zero=>intro T k T' k' h e;cases e;exact h
 | succ f ih=>
   intro T k T' k' h e;rw[Ak]at e;obtain⟨⟨m,c⟩,b,a⟩:=D9 e;refine ih _ _ _ _ ?_ a;unfold Gy;split<;>exact⟨h.F9,h.E9,h.reqs,h.H2,h.C8,h.combo⟩
def bN:∀ (f:Nat) (l:List Int) (k:Nat) (l':List Int) (k':Nat),l.length<=12->Dn A7 f l k= .ok (l',k')->l'.length<=12:=by
 intro f;induction f with
 |zero=>intro l k l' k' h e;cases e;exact h
 | succ f ih=>
   intro l k l' k' h e;rw[Gz]at e;split at e
   ·obtain⟨⟨m,c⟩,b,a⟩:=D9 e;dsimp only at a;split at a
    ·cases a
    ·refine ih _ _ _ _ ?_ a;rw[W4];simp;omega
   ·cases e;exact h
def AK4 {w:By}{g:KS}(f:kS w=some g){p:By}{fr:Nat}{k k':Nat}(h:B12 T) (j:g.full T=false) (e:g.rd A7 p fr T k= .ok (T',k')):B12 T':=by
 by_cases s:w=[116,101,110,100,101,114]
 ·subst s;obtain rfl:=z8z (show some ((⟨true,fun _=>false,fun A7 _ _ T k=>BU A7 T k⟩:KS))=some g from f);change BU A7 T k=_ at e;unfold BU at e;split at e<;>cases e;exact⟨h.F9,h.E9,h.reqs,h.H2,h.C8,h.combo⟩
 by_cases i:w=[108,111,116]
 ·subst i;obtain rfl:=z8z (show some ((⟨false,fun T=>decide (T.F9.length=12),fun A7 _ _ T k=>Nb A7 T k⟩:KS))=some g from f);obtain⟨⟨a,k1⟩,i,e⟩:=D9 (show Nb A7 T k=_ from e);obtain⟨⟨b,r⟩,l,e⟩:=D9 e;obtain⟨⟨c,k3⟩,o,e⟩:=D9 e;cases e;have:=h.F9;have j:=z9z (show decide (T.F9.length=12)=false from j);exact⟨by simp;omega,h.E9,h.reqs,h.H2,h.C8,h.combo⟩
 by_cases l:w=[99,114,105,116,101,114,105,111,110]
 ·subst l;obtain rfl:=z8z (show some ((⟨false,fun T=>decide (T.E9.length=12),fun A7 _ _ T k=>o7 A7 T k⟩:KS))=some g from f);obtain⟨a,i,e⟩:=D9 (show o7 A7 T k=_ from e);split at e
  ·cases e
  obtain⟨⟨b,r⟩,l,e⟩:=D9 e;obtain⟨⟨c,k3⟩,o,e⟩:=D9 e;obtain⟨⟨d,k4⟩,q,e⟩:=D9 e;cases e;have:=h.E9;have j:=z9z (show decide (T.E9.length=12)=false from j);exact⟨h.F9,by simp;omega,h.reqs,h.H2,h.C8,h.combo⟩
 by_cases o:w=[114,101,113,117,105,114,101]
 ·subst o;obtain rfl:=z8z (show some ((⟨false,fun T=>decide (T.reqs.length=24),fun A7 _ _ T k=>Bn A7 T k⟩:KS))=some g from f);obtain⟨a,i,e⟩:=D9 (show Bn A7 T k=_ from e);obtain⟨⟨b,r⟩,l,e⟩:=D9 e;obtain⟨⟨c,k3⟩,o,e⟩:=D9 e;cases e;have:=h.reqs;have j:=z9z (show decide (T.reqs.length=24)=false from j);exact⟨h.F9,h.E9,by simp;omega,h.H2,h.C8,h.combo⟩
 by_cases q:w=[112,114,105,99,101]
 ·subst q;obtain rfl:=z8z (show some ((⟨true,fun _=>false,fun A7 _ _ T k=>Et A7 T k⟩:KS))=some g from f);obtain⟨⟨a,k1⟩,i,e⟩:=D9 (show Et A7 T k=_ from e);obtain⟨⟨b,r⟩,l,e⟩:=D9 e;cases e;exact⟨h.F9,h.E9,h.reqs,h.H2,h.C8,h.combo⟩
 by_cases u:w=[102,111,114,109,117,108,97]
 ·subst u;obtain rfl:=z8z (show some ((⟨true,fun _=>false,fun A7 p fr T k=>Bk A7 p fr T k⟩:KS))=some g from f);obtain⟨a,i,e⟩:=D9 (show Bk A7 p fr T k=_ from e);cases e;exact⟨h.F9,h.E9,h.reqs,h.H2,h.C8,h.combo⟩
 by_cases v:w=[116,105,101]
 ·subst v;obtain rfl:=z8z (show some ((⟨true,fun _=>false,fun A7 _ _ T k=>LS A7 T k⟩:KS))=some g from f);exact pC _ _ _ _ _ h (show LS A7 T k=_ from e)
 by_cases y:w=[109,111,115,116]
 ·subst y;obtain rfl:=z8z (show some ((⟨true,fun _=>false,fun A7 _ _ T k=>Hc A7 T k⟩:KS))=some g from f);obtain⟨⟨a,k1⟩,i,e⟩:=D9 (show Hc A7 T k=_ from e);cases e;exact⟨h.F9,h.E9,h.reqs,h.H2,h.C8,h.combo⟩
 by_cases z:w=[99,111,109,98,111]
 ·subst z;obtain rfl:=z8z (show some ((⟨false,fun T=>decide (T.C8.length=12),fun A7 _ _ T k=>Eu A7 T k⟩:KS))=some g from f);obtain⟨⟨a,k1⟩,i,e⟩:=D9 (show Eu A7 T k=_ from e);cases e;have:=h.C8;have j:=z9z (show decide (T.C8.length=12)=false from j);have B:=bN _ _ _ _ _ (by simp) i;refine⟨h.F9,h.E9,h.reqs,h.H2,by simp;omega,fun c m=>?_⟩;rcases An.1 m with m|m
  ·exact h.combo c m
  ·rw[Cb]at m;subst m;exact B
 by_cases A:w=[98,117,100,103,101,116]
 ·subst A;obtain rfl:=z8z (show some ((⟨true,fun _=>false,fun A7 _ _ T k=>Cx A7 T k⟩:KS))=some g from f);obtain⟨⟨a,k1⟩,i,e⟩:=D9 (show Cx A7 T k=_ from e);cases e;exact⟨h.F9,h.E9,h.reqs,h.H2,h.C8,h.combo⟩
 by_cases n:w=[116,105,109,101,115]
 ·subst n;obtain rfl:=z8z (show some ((⟨true,fun _=>false,fun A7 _ _ T k=>Dp A7 T k⟩:KS))=some g from f);exact bM _ _ _ _ _ h (show Dp A7 T k=_ from e)
 unfold kS at f;simp only[z0z s,z0z i,z0z l,z0z o,z0z q,z0z u,z0z v,z0z y,z0z z,z0z A,z0z n]at f;cases f
def pD {l:By}{a:Nat}{kv kv':List (By×Value)}(h:B12 T) (e:DL l a T kv= .ok (T',kv')):B12 T':=by
 unfold DL at e;split at e
 ·cases e;exact h
 ·split at e
  ·cases e
  ·rename_i j f;split at e
   ·cases e
   ·split at e
    ·cases e
    ·rename_i c;obtain⟨⟨g,i⟩,d,b⟩:=D9 e;dsimp only at b;split at b
     ·cases b;exact AK4 f h (by simpa using c) d
     ·cases b
def Tq:∀ (ls:List By) (a:Nat) (T:Tn) (kv:List (By×Value)) (T':Tn) (kv':List (By×Value)),B12 T->BN ls a T kv= .ok (T',kv')->B12 T'
 | [],_,_,_,_,_,h,e=>by cases e;exact h
 | l::ls,a,T,kv,T',kv',h,e=>by
   rw[HA]at e;obtain⟨⟨T2,k2⟩,h1,h2⟩:=D9 e;exact Tq ls _ _ _ _ _ (pD h h1) h2
def ij {s:By}(e:Bo s= .ok T):B12 T:=by
 unfold Bo at e;obtain⟨⟨f,kv⟩,b,a⟩:=D9 e;dsimp only at a;split at a
 ·cases a;exact Tq _ _ _ _ _ _ ⟨by simp[T0],by simp[T0],by simp[T0],by simp[T0],by simp[T0],fun c d=>by cases d⟩ b
 ·cases a
end
section
variable {k k' n:Nat}{kv:List (By×Value)}{w:By}{T T':Tn}
section
variable {A7:List Tok}
def uZ (b:Ends A7) (g:iY A7) (c:0<A7.length){e:Ex}(h:JO A7= .ok e):∃ k m,FW k m e/\k<=12/\m<=60:=by
 obtain⟨f1,-⟩:=nK b g A7.length 0 0 om c;unfold JO at h;obtain⟨⟨e',d,k,p⟩,h1,h2⟩:=D9 h;dsimp only at h2;split at h2
 ·split at h2
  ·cases h2
  ·rename_i a;cases h2;obtain⟨-,f,-⟩:=f1 _ _ _ _ h1;simp only[II,Ej,not_or,Nat.not_lt]at a;exact⟨d,p-0,f,a.2,om⟩
 ·cases h2
def IJ {G7:Int}{nw:Int->Bool}(h:rdNum A7 G7 nw k= .ok (n,k')):G7<=(n:Int)/\n<=1000000000/\nw n=true/\k'=k+1/\JD (E8 A7 k).1=true:=by
 unfold rdNum rd1 at h;split at h
 ·rename_i a e;cases h;unfold MP at e;split at e
  ·cases e
  ·rename_i c;split at e
   ·rename_i b;split at e
    ·rename_i d;cases e;exact⟨b.2,b.1,d,rfl,by simpa using c⟩
    ·cases e
   ·cases e
 ·cases h
def BT (h:W3 A7 k= .ok (n,k')):In9 (n:Int):=by
 obtain⟨a,b,-,-,-⟩:=IJ (show rdNum A7 0 (fun _=>true) _=_ from h);exact⟨a,om⟩
def aW {b:List By}(h:Ha A7 b k= .ok (w,k')):b.contains w=true:=by
 unfold Ha rd1 at h;split at h
 ·rename_i a e;cases h;split at e
  ·rename_i c;cases e;exact c
  ·cases e
 ·cases h
def OH (h:HN A7 k= .ok w):R4 w=true:=by
 unfold HN at h;split at h
 ·rename_i a;cases h;exact a
 ·cases h
def Dz {c:Type}{p:c->Prop}{l:List c}{a:c}(h:∀ x∈l,p x) (d:p a):∀ x∈l++[a],p x:=fun x b=>by
 rcases An.1 b with b|b
 ·exact h x b
 ·rw[Cb]at b;subst b;exact d
def IK {c:Type}{l:List c}{a:c}(h:l.Nodup) (d:a∉l):(l++[a]).Nodup:=by
 rw[List.nodup_append];exact⟨h,by simp,fun x f y b=>by rw[Cb]at b;subst b;exact fun e=>d (e ▸ f)⟩
structure PR (T:Tn) (kv:List (By×Value)):Prop where
 name:(W1 [116,101,110,100,101,114] kv).isSome=true->W0 T.name=true
 HM:(W1 [108,111,116] kv).isSome=true->T.F9≠[]
 f:(W1 [102,111,114,109,117,108,97] kv).isSome=true->∃ k m,FW k m T.f/\k<=12/\m<=60
 lot:∀ l∈T.F9,1<=l.id/\l.id<=1000000000/\In9 l.G4
 ids:(T.F9.map Lot.id).Nodup
 Y7:∀ c∈T.E9,R4 c.name=true/\(c.kind=1\/c.kind=2)/\In9 c.low/\In9 c.high
 crs:(T.E9.map S8.name).Nodup
 req:∀ r∈T.reqs,R4 r.name=true/\([[60,61],[62,61]]:List By).contains r.rel=true/\In9 r.value
 low:In9 T.low
 high:In9 T.high
 tie:∀ w∈T.H2,(w=Fk\/R4 w=true)
 tnd:T.H2.Nodup
 G4:In9 T.G4
 combo:∀ c∈T.C8,2<=c.length/\c.Nodup/\∀ n∈c,1<=n/\n<=1000000000
 C9:In9 T.C9
 t:In9 T.t.q/\In9 T.t.b/\In9 T.t.g/\In9 T.t.p/\In9 T.t.s
def O7 {x:By}{v:Value}(a:w≠x) (h:(W1 w (DM x v kv)).isSome=true):(W1 w kv).isSome=true:=by rwa [Wq,z0z a]at h
def ub:∀ (f:Nat) (T:Tn) (k:Nat) (T':Tn) (k':Nat),PR T kv->Na A7 f T k= .ok (T',k')->PR T' (DM [116,105,101] tru kv):=by
 intro f;induction f with
 |zero=>intro T k T' k' h e;cases e;exact⟨fun x=>h.name (O7 (by decide) x),fun x=>h.HM (O7 (by decide) x),fun x=>h.f (O7 (by decide) x),h.lot,h.ids,h.Y7,h.crs,h.req,h.low,h.high,h.tie,h.tnd,h.G4,h.combo,h.C9,h.t⟩
 | succ f ih=>
   intro T k T' k' h e;rw[Hb]at e;split at e
   ·split at e
    ·rename_i a;split at e
     ·cases e
     ·rename_i c;split at e
      ·refine ih { T with H2:=T.H2++[(E8 A7 k).1] } (k+1) _ _ ?_ e;rw[II,Ej]at a;exact⟨h.name,h.HM,h.f,h.lot,h.ids,h.Y7,h.crs,h.req,h.low,h.high,Dz h.tie a,IK h.tnd (fun b=>c (by simpa using b)),h.G4,h.combo,h.C9,h.t⟩
      ·cases e
    ·cases e
   ·cases e;exact⟨fun x=>h.name (O7 (by decide) x),fun x=>h.HM (O7 (by decide) x),fun x=>h.f (O7 (by decide) x),h.lot,h.ids,h.Y7,h.crs,h.req,h.low,h.high,h.tie,h.tnd,h.G4,h.combo,h.C9,h.t⟩
def ie:∀ (f:Nat) (T:Tn) (k:Nat) (T':Tn) (k':Nat),PR T kv->IL A7 f T k= .ok (T',k')->PR T' (DM [116,105,109,101,115] tru kv):=by
 intro f;induction f with
 |zero=>intro T k T' k' h e;cases e;exact⟨fun x=>h.name (O7 (by decide) x),fun x=>h.HM (O7 (by decide) x),fun x=>h.f (O7 (by decide) x),h.lot,h.ids,h.Y7,h.crs,h.req,h.low,h.high,h.tie,h.tnd,h.G4,h.combo,h.C9,h.t⟩
 | succ f ih=>
   intro T k T' k' h e;rw[Ak]at e;obtain⟨⟨m,l⟩,i,j⟩:=D9 e;refine ih _ _ _ _ ?_ j;obtain⟨y1,y2,-,-,-⟩:=IJ (show rdNum A7 0 (fun _=>true) _=_ from i);have hi:In9 (m:Int):=⟨om,om⟩
   obtain⟨a,b,c,d,g⟩:=h.t;unfold Gy;split
   ·exact⟨h.name,h.HM,h.f,h.lot,h.ids,h.Y7,h.crs,h.req,h.low,h.high,h.tie,h.tnd,h.G4,h.combo,h.C9,hi,b,c,d,g⟩
   ·exact⟨h.name,h.HM,h.f,h.lot,h.ids,h.Y7,h.crs,h.req,h.low,h.high,h.tie,h.tnd,h.G4,h.combo,h.C9,a,hi,c,d,g⟩
   ·exact⟨h.name,h.HM,h.f,h.lot,h.ids,h.Y7,h.crs,h.req,h.low,h.high,h.tie,h.tnd,h.G4,h.combo,h.C9,a,b,hi,d,g⟩
   ·exact⟨h.name,h.HM,h.f,h.lot,h.ids,h.Y7,h.crs,h.req,h.low,h.high,h.tie,h.tnd,h.G4,h.combo,h.C9,a,b,c,hi,g⟩
   ·exact⟨h.name,h.HM,h.f,h.lot,h.ids,h.Y7,h.crs,h.req,h.low,h.high,h.tie,h.tnd,h.G4,h.combo,h.C9,a,b,c,d,hi⟩
def ig (o:Ends A7):∀ (f:Nat) (l:List Int) (k:Nat) (l':List Int) (k':Nat),A7.length-k<=f->k<A7.length->l.Nodup->(∀ n∈l,1<=n/\n<=1000000000)->Dn A7 f l k= .ok (l',k')->2<=l'.length/\l'.Nodup/\∀ n∈l',1<=n/\n<=1000000000:=by
 intro f;induction f with
 |zero=>intro l k l' k' p d;omega
 | succ f ih=>
   intro l k l' k' p d g h e;rw[Gz]at e;split at e
   ·obtain⟨⟨m,u⟩,q,a⟩:=D9 e;dsimp only at a;split at a
    ·cases a
    ·obtain⟨s,v,c,rfl,j⟩:=IJ q;have b:=o k _ (R9 d) (by intro e;rw[e]at j;cases j);refine ih _ _ _ _ om b (IK g fun r=>?_) (Dz h ⟨s,om⟩) a;rw[Bool.not_eq_true']at c;rw[nM.2 r]at c;cases c
   ·rename_i i;cases e;simp only[II,Ej,not_or,Nat.not_lt]at i;exact⟨i.1,g,h⟩
def Ad9 {j:KS}(i:kS w=some j){v:By}{fr:Nat}(I:Ends A7) (y:k<A7.length) (h:PR T kv) (e:j.rd A7 v fr T k= .ok (T',k')):PR T' (DM w tru kv):=by
 by_cases E:w=[116,101,110,100,101,114]
 ·subst E;obtain rfl:=z8z (show some ((⟨true,fun _=>false,fun A7 _ _ T k=>BU A7 T k⟩:KS))=some j from i);change BU A7 T k=_ at e;unfold BU at e;split at e
  ·rename_i J;cases e;exact⟨fun _=>J,fun x=>h.HM (O7 (by decide) x),fun x=>h.f (O7 (by decide) x),h.lot,h.ids,h.Y7,h.crs,h.req,h.low,h.high,h.tie,h.tnd,h.G4,h.combo,h.C9,h.t⟩
  ·cases e
 by_cases g:w=[108,111,116]
 ·subst g;obtain rfl:=z8z (show some ((⟨false,fun T=>decide (T.F9.length=12),fun A7 _ _ T k=>Nb A7 T k⟩:KS))=some j from i);obtain⟨⟨a,k1⟩,g,e⟩:=D9 (show Nb A7 T k=_ from e);obtain⟨⟨b,C⟩,m,e⟩:=D9 e;obtain⟨⟨c,k3⟩,o,e⟩:=D9 e;cases e;obtain⟨x1,x2,x3,-,-⟩:=IJ g;have s:=BT o;exact⟨fun x=>h.name (O7 (by decide) x),fun _=>by simp,fun x=>h.f (O7 (by decide) x),Dz h.lot ⟨x1,by show(a:Int)<=_;omega,s⟩,by rw[Ah];exact IK h.ids (fun A=>by obtain⟨l,p,q⟩:=GI.1 A;rw[Bool.not_eq_true',List.any_eq_false]at x3;exact absurd (AK q) (x3 l p)),h.Y7,h.crs,h.req,h.low,h.high,h.tie,h.tnd,h.G4,h.combo,h.C9,h.t⟩
 by_cases m:w=[99,114,105,116,101,114,105,111,110]
 ·subst m;obtain rfl:=z8z (show some ((⟨false,fun T=>decide (T.E9.length=12),fun A7 _ _ T k=>o7 A7 T k⟩:KS))=some j from i);obtain⟨a,g,e⟩:=D9 (show o7 A7 T k=_ from e);split at e
  ·cases e
  rename_i D;obtain⟨⟨b,C⟩,m,e⟩:=D9 e;obtain⟨⟨c,k3⟩,o,e⟩:=D9 e;obtain⟨⟨d,k4⟩,u,e⟩:=D9 e;cases e;have B:=OH g;have s:=BT o;have L:=BT u;have z:(cond (decide (b=CH)) 2 1:Int)=1\/(cond (decide (b=CH)) 2 1:Int)=2:=by cases decide (b=CH)<;>simp
  exact⟨fun x=>h.name (O7 (by decide) x),fun x=>h.HM (O7 (by decide) x),fun x=>h.f (O7 (by decide) x),h.lot,h.ids,Dz h.Y7 ⟨B,z,s,L⟩,by rw[Ah];exact IK h.crs (fun A=>by obtain⟨l,p,q⟩:=GI.1 A;rw[nN,List.any_eq_false]at D;exact absurd (AK q) (D l p)),h.req,h.low,h.high,h.tie,h.tnd,h.G4,h.combo,h.C9,h.t⟩
 by_cases o:w=[114,101,113,117,105,114,101]
 ·subst o;obtain rfl:=z8z (show some ((⟨false,fun T=>decide (T.reqs.length=24),fun A7 _ _ T k=>Bn A7 T k⟩:KS))=some j from i);obtain⟨a,g,e⟩:=D9 (show Bn A7 T k=_ from e);obtain⟨⟨b,C⟩,m,e⟩:=D9 e;obtain⟨⟨c,k3⟩,o,e⟩:=D9 e;cases e;have B:=OH g;have K:=aW m;have s:=BT o;exact⟨fun x=>h.name (O7 (by decide) x),fun x=>h.HM (O7 (by decide) x),fun x=>h.f (O7 (by decide) x),h.lot,h.ids,h.Y7,h.crs,Dz h.req ⟨B,K,s⟩,h.low,h.high,h.tie,h.tnd,h.G4,h.combo,h.C9,h.t⟩
 by_cases u:w=[112,114,105,99,101]
 ·subst u;obtain rfl:=z8z (show some ((⟨true,fun _=>false,fun A7 _ _ T k=>Et A7 T k⟩:KS))=some j from i);obtain⟨⟨a,k1⟩,g,e⟩:=D9 (show Et A7 T k=_ from e);obtain⟨⟨b,C⟩,m,e⟩:=D9 e;cases e;exact⟨fun x=>h.name (O7 (by decide) x),fun x=>h.HM (O7 (by decide) x),fun x=>h.f (O7 (by decide) x),h.lot,h.ids,h.Y7,h.crs,h.req,BT g,BT m,h.tie,h.tnd,h.G4,h.combo,h.C9,h.t⟩
 by_cases p:w=[102,111,114,109,117,108,97]
 ·subst p;obtain rfl:=z8z (show some ((⟨true,fun _=>false,fun A7 v fr T k=>Bk A7 v fr T k⟩:KS))=some j from i);obtain⟨a,g,e⟩:=D9 (show Bk A7 v fr T k=_ from e);cases e;exact⟨fun x=>h.name (O7 (by decide) x),fun x=>h.HM (O7 (by decide) x),fun _=>uZ LR TN (by unfold Ck;simp) g,h.lot,h.ids,h.Y7,h.crs,h.req,h.low,h.high,h.tie,h.tnd,h.G4,h.combo,h.C9,h.t⟩
 by_cases q:w=[116,105,101]
 ·subst q;obtain rfl:=z8z (show some ((⟨true,fun _=>false,fun A7 _ _ T k=>LS A7 T k⟩:KS))=some j from i);exact ub _ _ _ _ _ h (show LS A7 T k=_ from e)
 by_cases F:w=[109,111,115,116]
 ·subst F;obtain rfl:=z8z (show some ((⟨true,fun _=>false,fun A7 _ _ T k=>Hc A7 T k⟩:KS))=some j from i);obtain⟨⟨a,k1⟩,g,e⟩:=D9 (show Hc A7 T k=_ from e);cases e;exact⟨fun x=>h.name (O7 (by decide) x),fun x=>h.HM (O7 (by decide) x),fun x=>h.f (O7 (by decide) x),h.lot,h.ids,h.Y7,h.crs,h.req,h.low,h.high,h.tie,h.tnd,BT g,h.combo,h.C9,h.t⟩
 by_cases G:w=[99,111,109,98,111]
 ·subst G;obtain rfl:=z8z (show some ((⟨false,fun T=>decide (T.C8.length=12),fun A7 _ _ T k=>Eu A7 T k⟩:KS))=some j from i);obtain⟨⟨a,k1⟩,g,e⟩:=D9 (show Eu A7 T k=_ from e);cases e;obtain⟨y1,y2,y3⟩:=ig I _ _ _ _ _ nL y List.nodup_nil (by simp) g;exact⟨fun x=>h.name (O7 (by decide) x),fun x=>h.HM (O7 (by decide) x),fun x=>h.f (O7 (by decide) x),h.lot,h.ids,h.Y7,h.crs,h.req,h.low,h.high,h.tie,h.tnd,h.G4,Dz h.combo ⟨y1,y2,y3⟩,h.C9,h.t⟩
 by_cases H:w=[98,117,100,103,101,116]
 ·subst H;obtain rfl:=z8z (show some ((⟨true,fun _=>false,fun A7 _ _ T k=>Cx A7 T k⟩:KS))=some j from i);obtain⟨⟨a,k1⟩,g,e⟩:=D9 (show Cx A7 T k=_ from e);cases e;exact⟨fun x=>h.name (O7 (by decide) x),fun x=>h.HM (O7 (by decide) x),fun x=>h.f (O7 (by decide) x),h.lot,h.ids,h.Y7,h.crs,h.req,h.low,h.high,h.tie,h.tnd,h.G4,h.combo,BT g,h.t⟩
 by_cases r:w=[116,105,109,101,115]
 ·subst r;obtain rfl:=z8z (show some ((⟨true,fun _=>false,fun A7 _ _ T k=>Dp A7 T k⟩:KS))=some j from i);exact ie _ _ _ _ _ h (show Dp A7 T k=_ from e)
 unfold kS at i;simp only[z0z E,z0z g,z0z m,z0z o,z0z u,z0z p,z0z q,z0z F,z0z G,z0z H,z0z r]at i;cases i
end
def ud {l:By}{a:Nat}{kv':List (By×Value)}(h:PR T kv) (e:DL l a T kv= .ok (T',kv')):PR T' kv':=by
 unfold DL at e;split at e
 ·cases e;exact h
 ·rename_i c;split at e
  ·cases e
  ·rename_i m g;split at e
   ·cases e
   ·split at e
    ·cases e
    ·obtain⟨⟨i,j⟩,f,b⟩:=D9 e;dsimp only at b;split at b
     ·cases b;have d:0<(H3 l a).length:=by unfold H3;simp
      exact Ad9 g He (He 0 _ (R9 d) c) h f
     ·cases b
def Wr:∀ (ls:List By) (a:Nat) (T:Tn) (kv:List (By×Value)) (T':Tn) (kv':List (By×Value)),PR T kv->BN ls a T kv= .ok (T',kv')->PR T' kv'
 | [],_,_,_,_,_,h,e=>by cases e;exact h
 | l::ls,a,T,kv,T',kv',h,e=>by
   rw[HA]at e;obtain⟨⟨T2,k2⟩,h1,h2⟩:=D9 e;exact Wr ls _ _ _ _ _ (ud h h1) h2
def Ws {s:By}(e:Bo s= .ok T):BL T:=by
 have d:=ij e;unfold Bo at e;obtain⟨⟨m,kv⟩,l,g⟩:=D9 e;dsimp only at g;split at g
 ·rename_i i;cases g;have b:In9 0:=⟨om,om⟩
  have h:=Wr _ _ _ _ _ _ (⟨fun x=>(by cases x),fun x=>(by cases x),fun x=>(by cases x),fun x a=>(by cases a),List.nodup_nil,fun x a=>(by cases a),List.nodup_nil,fun x a=>(by cases a),b,b,fun x a=>(by cases a),List.nodup_nil,b,fun x a=>(by cases a),b,b,b,b,b,b⟩:PR T0 []) l;rw[GH]at i;exact⟨h.name (i _ (by simp[six])),d.F9,h.HM (i _ (by simp[six])),h.lot,h.ids,d.E9,h.Y7,h.crs,d.reqs,h.req,h.low,h.high,h.f (i _ (by simp[six])),d.H2,h.tie,h.tnd,h.G4,d.C8,fun c j=>⟨(h.combo c j).1,d.combo c j,(h.combo c j).2⟩,h.C9,h.t⟩
 ·cases g
end
end Go.Proofs.T
