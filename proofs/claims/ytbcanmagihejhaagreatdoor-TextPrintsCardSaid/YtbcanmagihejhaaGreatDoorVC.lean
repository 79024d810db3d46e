/- The G2 tokens of a line. -/
import Derived.Test.YtbcanmagihejhaaGreatDoorVA
set_option linter.unusedSimpArgs false
set_option linter.unusedVariables false
set_option linter.defProp false
set_option maxHeartbeats 32000000
set_option maxRecDepth 100000
namespace Go.Proofs.T
open Go Go.Ab

section
variable {b:Nat}{Z:St}{tv:Value}{A7:List Tok}{H4:List Value}{st:Except Er Nat}
end
def Hd3 (st:Except Er Nat) (k:Nat) (a e:Int):Prop:=match st with
 | .ok k'=>k'=k/\a=0/\e=0
 | .error (p,e')=>a=(p:Nat)/\e=e'/\e'≠0
def AD4 (T:Tn) (vs:List Value) (seen:List By) (i:Nat):List (List Value):=match i with
 |0=>T.F9.map Lot.row
 |1=>T.E9.map S8.row
 |2=>T.reqs.map Req.row
 |3=>T.H2.map fun s=>[str s]
 |4=>vs.map fun x=>[x]
 |_=>seen.map fun s=>[str s]
def gK (b:Nat) (v:Nat->Value):List Nat:=List.range b++b::(JC (v 0)++JC (v 1)++JC (v 2)++JC (v 3)++JC (v 4)++JC (v 5))
def AD5 (s:By) (T:Tn) (v:Nat->Value) (fc:List Value):List Value:=str s::(tnR T v fc++[v 5])
structure Rn (Z0 Z:St) (b:Nat) (T:Tn) (seen:List By) (s:By) (tv:Value) (A7:List Tok) (st:Except Er Nat) (v:Nat->Value) (fc vs:List Value):Prop where
 ext:G5 b Z0 Z
 btl:b<Z0.n
 sc:∃ (k:Nat) (a e:Int),Hd3 st k a e/\Sc Z b tv A7 k (.int .i64 a:: .int .i64 e::AD5 s T v fc)
 sl:∀ i,i<6->OL Z0.n Z (szT i) (v i) (AD4 T vs seen i)
 dis:∀ i j c,i<6->j<6->i≠j->K3 (v i)=some c->K3 (v j)≠some c
 fx:Aq (J0 Z (gK b v)) fc T.f
 iv:EK (GG (J0 Z (gK b v))) vs T.C8
 tk:∀ c,K3 tv=some c->∀ i,i<6->K3 (v i)≠some c
section
variable {Z0 Z Z':St}{b:Nat}{T T':Tn}{seen ET:List By}{s:By}{tv:Value}{A7:List Tok}{st st':Except Er Nat}{v:Nat->Value}{fc fc' vs vs':List Value}{H4:List Value}
end
section
variable {x0 x1 x2 x3 x4 x5 x6 x7 x8 x9 x10 x11 x12 x13 x14 x15 x16 x17 x18 x19 x20 x21 x22 x23 x24 x25:Value}
end
set_option linter.defProp false
section
variable {Z0 Z Z':St}{b:Nat}{T T':Tn}{seen ET:List By}{s:By}{tv:Value}{A7:List Tok}{st st':Except Er Nat}{v:Nat->Value}{fc fc' vs vs':List Value}{k:Nat}
end
section
variable {Z0 Z Z' τ:St}{b:Nat}{T T':Tn}{seen ET:List By}{s:By}{tv:Value}{A7:List Tok}{st st':Except Er Nat}{v:Nat->Value}{fc fc' vs vs':List Value}{k:Nat}{H4:List Value}
end
section
variable {Z0 Z Z' τ:St}{b:Nat}{T T':Tn}{seen ET:List By}{s:By}{tv:Value}{A7:List Tok}{st st':Except Er Nat}{v:Nat->Value}{fc fc' vs vs':List Value}{k:Nat}{H4:List Value}{a e:Int}
end
section
variable {Z0 Z Z' τ:St}{b:Nat}{T T':Tn}{seen ET:List By}{s:By}{tv:Value}{A7:List Tok}{st st':Except Er Nat}{v:Nat->Value}{fc fc' vs vs':List Value}{k:Nat}{H4:List Value}{a e:Int}
end
section
variable {Z0 Z Z' τ:St}{b:Nat}{T T':Tn}{seen ET:List By}{s:By}{tv:Value}{A7:List Tok}{st st':Except Er Nat}{v:Nat->Value}{fc fc' vs vs':List Value}{k:Nat}{H4:List Value}{a e:Int}
end
section
variable {Z0 Z Z' τ:St}{b:Nat}{T T':Tn}{seen ET:List By}{s:By}{tv:Value}{A7:List Tok}{st st':Except Er Nat}{v:Nat->Value}{fc fc' vs vs':List Value}{k:Nat}{H4:List Value}{a e:Int}
end
section
variable {Z0 Z Z' τ:St}{b:Nat}{T T':Tn}{seen ET:List By}{s:By}{tv:Value}{A7:List Tok}{st st':Except Er Nat}{v:Nat->Value}{fc fc' vs vs':List Value}{k:Nat}{H4:List Value}{a e:Int}
end
def AL3 {s:By}{a:Nat}:∀ (f k:Nat) (t:Tok),t∈fT s a f k->t.1.length<=s.length:=by
 intro f;induction f with
 |zero=>intro k t ht;cases ht
 | succ f ih=>
   intro k t ht;unfold fT at ht;split at ht
   ·cases ht
   ·split at ht
    ·exact ih _ _ ht
    ·rcases V9.1 ht with rfl|ht
     ·simp only[KW,HW];omega
     ·exact ih _ _ ht
def Vc {s:By}{a:Nat}(h:s.length<10000000):IZ (Ck s a):=by
 intro t ht;unfold Ck at ht;rcases An.1 ht with ht|ht
 ·have:=AL3 _ _ t ht;omega
 ·rw[Cb]at ht;subst ht;simp
section
variable {Z0 Z Z' τ:St}{b:Nat}{T T':Tn}{seen ET:List By}{s:By}{tv:Value}{A7:List Tok}{st st':Except Er Nat}{v:Nat->Value}{fc fc' vs vs':List Value}{k:Nat}{H4:List Value}{a e:Int}
end
section
variable {Z0 Z Z' τ:St}{b:Nat}{T T':Tn}{seen ET:List By}{s:By}{tv:Value}{A7:List Tok}{st st':Except Er Nat}{v:Nat->Value}{fc fc' vs vs':List Value}{k:Nat}{H4:List Value}{a e:Int}
end
section
variable {Z0 Z Z' τ:St}{b:Nat}{T T':Tn}{seen ET:List By}{s:By}{tv:Value}{A7:List Tok}{st st':Except Er Nat}{v:Nat->Value}{fc fc' vs vs':List Value}{k:Nat}{H4:List Value}{a e:Int}
end
section
variable {Z0 Z Z' Z1 τ:St}{b:Nat}{T T':Tn}{seen ET:List By}{s:By}{tv:Value}{A7:List Tok}{st st':Except Er Nat}{v:Nat->Value}{fc fc' vs vs':List Value}{k:Nat}{H4:List Value}{a e:Int}
def mL {c:List By}{k:Nat}{t:Tok}(h:t∈Av c k):t.1∈c:=by
 induction c generalizing k with
 |nil=>cases h
 | cons w c ih=>
   rcases An.1 (show t∈(if w=[]then[]else[(w,k)])++Av c (k+w.length+1)from h)with h|h
   ·split at h
    ·cases h
    ·rw[Cb]at h;subst h;exact Cw ..
   ·exact Ci _ (ih h)
def SD {c:List By}{w:By}(h:w∈c):w.length+1<=lens c:=by
 induction c with
 |nil=>cases h
 | cons u c ih=>
   show _<=u.length+1+lens c;rcases V9.1 h with rfl|h
   ·omega
   ·have:=ih h;omega
def ZX {l:By}{k:Nat}(c:l.length<10000000):En (H3 l k):=by
 intro t ht;unfold H3 at ht;rcases An.1 ht with ht|ht
 ·have:=SD (mL ht);rw[Dt]at this;omega
 ·rw[Cb]at ht;subst ht;simp
structure Rp (Z0 Z:St) (b:Nat) (T:Tn) (seen:List By) (s:By) (v:Nat->Value) (fc vs:List Value):Prop where
 ext:G5 b Z0 Z
 btl:b<Z0.n
 row:∃ (tv:Value) (k:Int),Z.B8 b=some (tv:: .int .i64 k:: .int .i64 0:: .int .i64 0::AD5 s T v fc)
 sl:∀ i,i<6->OL Z0.n Z (szT i) (v i) (AD4 T vs seen i)
 dis:∀ i j c,i<6->j<6->i≠j->K3 (v i)=some c->K3 (v j)≠some c
 fx:Aq (J0 Z (gK b v)) fc T.f
 iv:EK (GG (J0 Z (gK b v))) vs T.C8
end
section
variable {Z0 Z Z':St}{b:Nat}{T:Tn}{seen:List By}{s:By}{v:Nat->Value}{fc vs:List Value}
end

section
variable {a:Nat}{s l:By}
def Ne0 {b:Type}(R:Except Er b):Prop:=∀ p e,R= .error (p,e)->e≠0
def Dh {b:Type}{a:b}:Ne0 (.ok a:Except Er b):=fun p e h=>by cases h
def Gn {c:Type}{p:Nat}{e:Int}(h:e≠0):Ne0 (.error (p,e):Except Er c):=fun q d b=>by cases b;exact h
def AD {b h:Type}{x:Except Er b}{f:b->Except Er h}(d:Ne0 x) (c:∀ a,Ne0 (f a)):Ne0 (V6 x f):=by
 cases x with
 |ok a=>exact c a
 |error g=>obtain⟨p,e⟩:=g;exact Gn (d p e rfl)
def HI {b:Type}{c:Prop} [Decidable c] {x y:Except Er b}(d:Ne0 x) (e:Ne0 y):Ne0 (if c then x else y):=by split<;>assumption
section
variable {A7:List Tok}{k:Nat}{T:Tn}
def Gp {G7:Int}{nw:Int->Bool}:Ne0 (rdNum A7 G7 nw k):=by
 unfold rdNum rd1 MP;split
 ·exact Dh
 ·rename_i h;refine Gn ?_;split at h
  ·cases h;omega
  ·split at h
   ·split at h<;>cases h;omega
   ·cases h;omega
def dG {b:List By}:Ne0 (Ha A7 b k):=by
 unfold Ha rd1;split
 ·exact Dh
 ·rename_i h;refine Gn ?_;split at h<;>cases h;omega
def gh:Ne0 (HN A7 k):=by unfold HN;exact HI Dh (Gn om)
def AS2:∀ (f:Nat) (T:Tn) (k:Nat),Ne0 (Na A7 f T k):=by
 intro f;induction f with
 |zero=>intro T k;exact Dh
 | succ f ih=>
   intro T k;rw[Hb];exact HI (HI (HI (Gn om) (HI (ih _ _) (Gn om))) (Gn om)) Dh
def sM:∀ (f:Nat) (l:List Int) (k:Nat),Ne0 (Dn A7 f l k):=by
 intro f;induction f with
 |zero=>intro l k;exact Dh
 | succ f ih=>
   intro l k;rw[Gz];exact HI (AD Gp fun⟨n,b⟩=>HI (Gn om) (ih _ _)) Dh
def sN:∀ (f:Nat) (T:Tn) (k:Nat),Ne0 (IL A7 f T k):=by
 intro f;induction f with
 |zero=>intro T k;exact Dh
 | succ f ih=>
   intro T k;rw[Ak];exact AD Gp fun⟨n,b⟩=>ih _ _
def yR:Ne0 (JO (Ck s a)):=fun p e h=>yF LR TN (by unfold Ck;simp) h
def Am4 {w:By}{f:KS}{i:By}{fr:Nat}(e:kS w=some f):Ne0 (f.rd A7 i fr T k):=by
 by_cases m:w=[116,101,110,100,101,114]
 ·subst m;obtain rfl:=z8z (show some ((⟨true,fun _=>false,fun A7 _ _ T k=>BU A7 T k⟩:KS))=some f from e);show Ne0 (BU A7 T k);unfold BU;exact HI Dh (Gn om)
 by_cases n:w=[108,111,116]
 ·subst n;obtain rfl:=z8z (show some ((⟨false,fun T=>decide (T.F9.length=12),fun A7 _ _ T k=>Nb A7 T k⟩:KS))=some f from e);show Ne0 (Nb A7 T k);exact AD Gp fun⟨a,h⟩=>AD dG fun⟨b,A⟩=>AD Gp fun⟨c,j⟩=>Dh
 by_cases o:w=[99,114,105,116,101,114,105,111,110]
 ·subst o;obtain rfl:=z8z (show some ((⟨false,fun T=>decide (T.E9.length=12),fun A7 _ _ T k=>o7 A7 T k⟩:KS))=some f from e);show Ne0 (o7 A7 T k);exact AD gh fun w=>HI (Gn om) (AD dG fun⟨b,A⟩=>AD Gp fun⟨c,j⟩=>AD Gp fun⟨d,B⟩=>Dh)
 by_cases p:w=[114,101,113,117,105,114,101]
 ·subst p;obtain rfl:=z8z (show some ((⟨false,fun T=>decide (T.reqs.length=24),fun A7 _ _ T k=>Bn A7 T k⟩:KS))=some f from e);show Ne0 (Bn A7 T k);exact AD gh fun w=>AD dG fun⟨b,A⟩=>AD Gp fun⟨c,j⟩=>Dh
 by_cases q:w=[112,114,105,99,101]
 ·subst q;obtain rfl:=z8z (show some ((⟨true,fun _=>false,fun A7 _ _ T k=>Et A7 T k⟩:KS))=some f from e);show Ne0 (Et A7 T k);exact AD Gp fun⟨a,h⟩=>AD Gp fun⟨c,j⟩=>Dh
 by_cases r:w=[102,111,114,109,117,108,97]
 ·subst r;obtain rfl:=z8z (show some ((⟨true,fun _=>false,fun A7 i fr T k=>Bk A7 i fr T k⟩:KS))=some f from e);show Ne0 (Bk A7 i fr T k);exact AD yR fun a=>Dh
 by_cases u:w=[116,105,101]
 ·subst u;obtain rfl:=z8z (show some ((⟨true,fun _=>false,fun A7 _ _ T k=>LS A7 T k⟩:KS))=some f from e);show Ne0 (LS A7 T k);exact AS2 _ _ _
 by_cases v:w=[109,111,115,116]
 ·subst v;obtain rfl:=z8z (show some ((⟨true,fun _=>false,fun A7 _ _ T k=>Hc A7 T k⟩:KS))=some f from e);show Ne0 (Hc A7 T k);exact AD Gp fun⟨a,h⟩=>Dh
 by_cases y:w=[99,111,109,98,111]
 ·subst y;obtain rfl:=z8z (show some ((⟨false,fun T=>decide (T.C8.length=12),fun A7 _ _ T k=>Eu A7 T k⟩:KS))=some f from e);show Ne0 (Eu A7 T k);exact AD (sM _ _ _) fun⟨a,h⟩=>Dh
 by_cases z:w=[98,117,100,103,101,116]
 ·subst z;obtain rfl:=z8z (show some ((⟨true,fun _=>false,fun A7 _ _ T k=>Cx A7 T k⟩:KS))=some f from e);show Ne0 (Cx A7 T k);exact AD Gp fun⟨a,h⟩=>Dh
 by_cases g:w=[116,105,109,101,115]
 ·subst g;obtain rfl:=z8z (show some ((⟨true,fun _=>false,fun A7 _ _ T k=>Dp A7 T k⟩:KS))=some f from e);show Ne0 (Dp A7 T k);exact sN _ _ _
 unfold kS at e;simp only[z0z m,z0z n,z0z o,z0z p,z0z q,z0z r,z0z u,z0z v,z0z y,z0z z,z0z g]at e;cases e
def yS {kv:List (By×Value)}:Ne0 (DL l a T kv):=by
 unfold DL;refine HI Dh ?_;split
 ·exact Gn om
 ·rename_i c b;exact HI (Gn om) (HI (Gn om) (AD (Am4 b) fun⟨T',k⟩=>HI Dh (Gn om)))
def ZW:∀ (ls:List By) (a:Nat) (T:Tn) (kv:List (By×Value)),Ne0 (BN ls a T kv)
 | [],_,_,_=>Dh
 | l::ls,a,T,kv=>by
   rw[HA];exact AD yS fun⟨T',kv'⟩=>ZW ls _ _ _
def Rv:Ne0 (Bo s):=by
 unfold Bo;exact AD (ZW _ _ _ _) fun⟨T,kv⟩=>HI Dh (Gn om)
def Rw (b:l.length<10000000):QQ l a:=⟨ZX b,fun n=>Vc (by rw[HW];omega)⟩
end
end
end Go.Proofs.T
