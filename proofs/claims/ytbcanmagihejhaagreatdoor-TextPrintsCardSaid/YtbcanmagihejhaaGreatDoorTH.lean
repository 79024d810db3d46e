/- Aj6 with keys Aa are texts; the kinds of lines. -/
import Derived.Test.YtbcanmagihejhaaGreatDoorTF
set_option linter.unusedSimpArgs false
set_option linter.unusedVariables false
set_option linter.defProp false
set_option maxHeartbeats 32000000
set_option maxRecDepth 100000
namespace Go.Proofs.T
open Go Go.Ab
section
variable {w k:By}{v:Value}{l:List (By×Value)}{cs:List Value}{fr:Fr}
def JH (kv:List (By×Value)):List Value:=(kv.map fun p=>[str p.1,p.2]).flatten
def W1 (w:By):List (By×Value)->Option Value
 | []=>none
 | (k,v)::l=>if w=k then some v else W1 w l
def DM (w:By) (x:Value):List (By×Value)->List (By×Value)
 | []=>[(w,x)]
 | (k,v)::l=>if w=k then(w,x)::l else(k,v)::DM w x l
def Uf {a b:By}:Kz (str a) (str b)=some (decide (a=b)):=by
 show some (Lp a b)=_;rw[Re];congr 1;rw[z7z];simp
def Cp:W1 w ((k,v)::l)=if w=k then some v else W1 w l:=rfl
def Li {x:Value}:DM w x ((k,v)::l)=if w=k then(w,x)::l else(k,v)::DM w x l:=rfl
def gj {w:By}:∀ kv:List (By×Value),PF (str w) (JH kv)=some (W1 w kv)
 | []=>rfl
 | (k,v)::l=>by
   show ob (Kz (str w) (str k)) (fun s=>bi s (some (some v)) (PF (str w) (JH l)))=_;rw[Uf,F8,gj l];rw[Cp];by_cases h:w=k
   ·rw[z1z h,AK h];rfl
   ·rw[z0z h,z4z h];rfl
def gm {w:By}{x:Value}:∀ kv:List (By×Value),My (str w) x (JH kv)=some (JH (DM w x kv))
 | []=>rfl
 | (k,v)::l=>by
   show ob (Kz (str w) (str k)) (fun s=>bi s (some (str w::x::JH l)) (ob (My (str w) x (JH l)) fun r=>some (str k::v::r)))=_;rw[Uf,F8,gm l];rw[Li];by_cases h:w=k
   ·rw[z1z h,AK h];rfl
   ·rw[z0z h,z4z h];rfl
def Ch (Z:St) (b:Nat) (kv:List (By×Value)):Prop:=∃ ver,Z.h.get b=some ⟨JH kv,true,true,ver,.map⟩
noncomputable def IH (Z:St) (b:Nat) (cs:List Value):St:=⟨Z.h.set b ⟨cs,true,true,(Z.ver b)+1,.map⟩,Z.n⟩
section
variable {Z Z':St}{b:Nat}{kv:List (By×Value)}
def Ch.ext (h:Ch Z b kv) (c:b<Z.n) (a:Ext Z Z'):Ch Z' b kv:=let ⟨v,h⟩:=h;⟨v,by rw[a.same b c];exact h⟩
def Ch.CA {p:Nat}(h:Ch Z b kv) (c:b<Z.n) (a:G5 p Z Z') (d:b≠p):Ch Z' b kv:=let ⟨v,h⟩:=h;⟨v,by rw[a.same b c d];exact h⟩
@[simp] theorem sO {cs:List Value}:(IH Z b cs).n=Z.n:=rfl
theorem Cu {kv':List (By×Value)}:Ch (IH Z b (JH kv')) b kv':=⟨_,Tr.get_set_same _ _ _⟩
def AY {c:Nat}(h:c≠b):(IH Z b cs).h.get c=Z.h.get c:=Tr.L8 _ _ h
def gp:Ch (Z.Hg [] .map) Z.n []:=⟨0,Tr.get_set_same _ _ _⟩
def Rx {Z0:St}(h:Ext Z0 Z) (d:Z0.n<=b):Ext Z0 (IH Z b cs):=⟨h.n,fun c a=>by rw[AY om];exact h.same c a⟩
def Ch.blk (h:Ch Z b kv):∃ ver,Z.Se b=some ⟨JH kv,true,true,ver,.map⟩/\ver=Z.ver b:=by
 obtain⟨v,h⟩:=h;refine⟨v,?_,?_⟩
 ·show ob (ob (Z.h.get b) _) _=_;rw[h];rfl
 ·unfold St.ver;rw[h]
def Ap {P:Program}{fr:Fr}{t c d:TypeId}{m k x:Operand}{w:By}{xv:Value}{Q:Value×St->Prop}{p:Hd Q}(i:Hw P t=some (c,d)) (g:∀ s,DR (P.underlying c) (str s)=true)
  (n:ev fr m=some (.map (some b))) (j:ev fr k=some (str w)) (o:ev fr x=some xv) (f:Ch Z b kv) (h:Q (R7,IH Z b (JH (DM w xv kv)))):Ev (Y0 P fr Z t m k x) Q p:=by
 obtain⟨ver,a,e⟩:=f.blk;refine⟨_,?_,h⟩;unfold Y0;rw[i,F8,Jb,n,F8];show ob (some (some b)) _=_;rw[F8,F8,j,F8,g,V0,o,F8,a,F8,gm,F8];show ob (ob (Z.Se b) _) _=_;rw[a];subst e;rfl
def WB {P:Program}{fr:Fr}{t c a:TypeId}{m k:Operand}{w:By}{z:Value}{ok:Bool}{Q:Value×St->Prop}{o:Hd Q}(g:Hw P t=some (c,a)) (f:∀ s,DR (P.underlying c) (str s)=true) (n:Ad P a=some z)
  (j:ev fr m=some (.map (some b))) (i:ev fr k=some (str w)) (e:Ch Z b kv)
  (h:Q (bi ok (.tuple ⟨[(W1 w kv).getD z,.bool (W1 w kv).isSome]⟩) ((W1 w kv).getD z),Z)):Ev (DI P fr Z t m k ok) Q o:=by
 obtain⟨ver,d,p⟩:=e.blk;refine⟨_,?_,h⟩;unfold DI;rw[g,F8,Jb,j,F8];show ob (some (some b)) _=_;rw[F8,i,F8,f,V0];show ob (ob (Z.Se b) _) _=_;rw[d,F8,F8];show ob (PF (str w) (JH kv)) _=_;rw[gj,F8];cases W1 w kv with
 |none=>show ob (ob (Ad P a) _) _=_;rw[n];rfl
 |some v=>rfl
end
def Pc:Hw Tryz.prog 127=some (9,4):=kR
def Dj:Hw Tryz.prog 128=some (9,143):=kR
def KY (s:By):DR ((Tryz.prog).underlying 9) (str s)=true:=kR
def sP:ev fr (.const (.map none))=some (.map none):=rfl
def emk {Z:St}:Fc fr Z none=some (.map (some Z.n),Z.Hg [] .map):=rfl
def IB (g:Nat) (once:Bool) (a:Nat):Value:= .agg ⟨[.func (.func g) ⟨[]⟩ ⟨[]⟩,.bool once,.func (.func a) ⟨[]⟩ ⟨[]⟩]⟩
def N0:List (By×Value):=[
 ([116,101,110,100,101,114],IB 114 true 113),
 ([108,111,116],IB 115 false 116),
 ([99,114,105,116,101,114,105,111,110],IB 117 false 118),
 ([114,101,113,117,105,114,101],IB 119 false 120),
 ([112,114,105,99,101],IB 121 true 113),
 ([102,111,114,109,117,108,97],IB 122 true 113),
 ([116,105,101],IB 123 true 113),
 ([109,111,115,116],IB 124 true 113),
 ([99,111,109,98,111],IB 125 false 126),
 ([98,117,100,103,101,116],IB 127 true 113),
 ([116,105,109,101,115],IB 128 true 113)]
def sQ {Z:St}:Ev (gO 70 [] Z) (fun r=>∃ Z',r=⟨false,.map (some Z.n),Z'⟩/\Ext Z Z'/\Z.n<Z'.n/\Ch Z' Z.n N0) ⟨⟩:=by
 refine G1 Tryz.func70 rfl rfl ?_;refine gS1 (aI @sP @emk) ?_;refine Ap (b:=Z.n) (kv:=N0.take 0) (w:=(N0.getD 0 ([],.nilIface)).1) (xv:=(N0.getD 0 ([],.nilIface)).2) Dj KY kR kR kR gp ?_;refine gS1 @emk ?_;refine Ap (b:=Z.n) (kv:=N0.take 1) (w:=(N0.getD 1 ([],.nilIface)).1) (xv:=(N0.getD 1 ([],.nilIface)).2) Dj KY kR kR kR Cu ?_;refine gS1 @emk ?_;refine Ap (b:=Z.n) (kv:=N0.take 2) (w:=(N0.getD 2 ([],.nilIface)).1) (xv:=(N0.getD 2 ([],.nilIface)).2) Dj KY kR kR kR Cu ?_;refine gS1 @emk ?_;refine Ap (b:=Z.n) (kv:=N0.take 3) (w:=(N0.getD 3 ([],.nilIface)).1) (xv:=(N0.getD 3 ([],.nilIface)).2) Dj KY kR kR kR Cu ?_;refine gS1 @emk ?_;refine Ap (b:=Z.n) (kv:=N0.take 4) (w:=(N0.getD 4 ([],.nilIface)).1) (xv:=(N0.getD 4 ([],.nilIface)).2) Dj KY kR kR kR Cu ?_;refine gS1 @emk ?_;refine Ap (b:=Z.n) (kv:=N0.take 5) (w:=(N0.getD 5 ([],.nilIface)).1) (xv:=(N0.getD 5 ([],.nilIface)).2) Dj KY kR kR kR Cu ?_;refine gS1 @emk ?_;refine Ap (b:=Z.n) (kv:=N0.take 6) (w:=(N0.getD 6 ([],.nilIface)).1) (xv:=(N0.getD 6 ([],.nilIface)).2) Dj KY kR kR kR Cu ?_;refine gS1 @emk ?_;refine Ap (b:=Z.n) (kv:=N0.take 7) (w:=(N0.getD 7 ([],.nilIface)).1) (xv:=(N0.getD 7 ([],.nilIface)).2) Dj KY kR kR kR Cu ?_;refine gS1 @emk ?_;refine Ap (b:=Z.n) (kv:=N0.take 8) (w:=(N0.getD 8 ([],.nilIface)).1) (xv:=(N0.getD 8 ([],.nilIface)).2) Dj KY kR kR kR Cu ?_;refine gS1 @emk ?_;refine Ap (b:=Z.n) (kv:=N0.take 9) (w:=(N0.getD 9 ([],.nilIface)).1) (xv:=(N0.getD 9 ([],.nilIface)).2) Dj KY kR kR kR Cu ?_;refine gS1 @emk ?_;refine Ap (b:=Z.n) (kv:=N0.take 10) (w:=(N0.getD 10 ([],.nilIface)).1) (xv:=(N0.getD 10 ([],.nilIface)).2) Dj KY kR kR kR Cu ?_;refine gS1 (aI @emk @Tryz.results70) ?_;exact⟨_,rfl,(Rx (Rx (Rx (Rx (Rx (Rx (Rx (Rx (Rx (Rx (Rx ((Ext.refl Z).Hg [] .map) nL) nL) nL) nL) nL) nL) nL) nL) nL) nL) nL),by simp,Cu (kv':=N0)⟩
end
structure KS where
 once:Bool
 full:Tn->Bool
 rd:List Tok->By->Nat->Tn->Nat->Except Er (Tn×Nat)
noncomputable def kS (w:By):Option KS :=
 if w=[116,101,110,100,101,114]then some ⟨true,fun _=>false,fun A7 _ _ T k=>BU A7 T k⟩else
 if w=[108,111,116]then some ⟨false,fun T=>decide (T.F9.length=12),fun A7 _ _ T k=>Nb A7 T k⟩else
 if w=[99,114,105,116,101,114,105,111,110]then some ⟨false,fun T=>decide (T.E9.length=12),fun A7 _ _ T k=>o7 A7 T k⟩else
 if w=[114,101,113,117,105,114,101]then some ⟨false,fun T=>decide (T.reqs.length=24),fun A7 _ _ T k=>Bn A7 T k⟩else
 if w=[112,114,105,99,101]then some ⟨true,fun _=>false,fun A7 _ _ T k=>Et A7 T k⟩else
 if w=[102,111,114,109,117,108,97]then some ⟨true,fun _=>false,fun A7 a fr T k=>Bk A7 a fr T k⟩else
 if w=[116,105,101]then some ⟨true,fun _=>false,fun A7 _ _ T k=>LS A7 T k⟩else
 if w=[109,111,115,116]then some ⟨true,fun _=>false,fun A7 _ _ T k=>Hc A7 T k⟩else
 if w=[99,111,109,98,111]then some ⟨false,fun T=>decide (T.C8.length=12),fun A7 _ _ T k=>Eu A7 T k⟩else
 if w=[98,117,100,103,101,116]then some ⟨true,fun _=>false,fun A7 _ _ T k=>Cx A7 T k⟩else
 if w=[116,105,109,101,115]then some ⟨true,fun _=>false,fun A7 _ _ T k=>Dp A7 T k⟩else none
section
variable {Z ZL:St}{bt bx:Nat}{T:Tn}{tv:Value}{A7:List Tok}{k:Nat}{H4:List Value}{v:Nat->Value}{fc vs:List Value}
def uK {Z:St}{b:Value}:Ev (gO 113 [b] Z) (fun r=>r=⟨false,.bool false,Z⟩) ⟨⟩:=by
 refine G1 Tryz.func113 rfl rfl ?_;refine gS1 @Tryz.results113 ?_;try exact⟨⟩
def mV (h:Ln ZL Z bt bx T tv A7 k H4 v fc vs):Ev (gO 116 [.pointer (some ⟨bt,0,none⟩)] Z) (fun r=>r=⟨false,.bool (decide (T.F9.length=12)),Z⟩) ⟨⟩:=by
 have ht:=C1 h.row;obtain⟨c1,c2,c3,c4,b,rfl⟩:=fc5 h.fx;unfold tnR Ae at ht;obtain⟨a,ha⟩:=OL.shape (h.sl 0 om);rw[show(Cg T vs 0).length=T.F9.length from z2z ..]at ha;rw[ha]at ht;have e:decide ((T.F9.length:Int)=12)=decide (T.F9.length=12):=by rw[z7z,z3z,z3z];omega
 refine G1 Tryz.func116 rfl rfl ?_;refine gS1 (aI ht (aI e @Tryz.results116)) ?_;try exact⟨⟩
def eA (h:Ln ZL Z bt bx T tv A7 k H4 v fc vs):Ev (gO 118 [.pointer (some ⟨bt,0,none⟩)] Z) (fun r=>r=⟨false,.bool (decide (T.E9.length=12)),Z⟩) ⟨⟩:=by
 have ht:=C1 h.row;obtain⟨c1,c2,c3,c4,b,rfl⟩:=fc5 h.fx;unfold tnR Ae at ht;obtain⟨a,ha⟩:=OL.shape (h.sl 1 om);rw[show(Cg T vs 1).length=T.E9.length from z2z ..]at ha;rw[ha]at ht;have e:decide ((T.E9.length:Int)=12)=decide (T.E9.length=12):=by rw[z7z,z3z,z3z];omega
 refine G1 Tryz.func118 rfl rfl ?_;refine gS1 (aI ht (aI e @Tryz.results118)) ?_;try exact⟨⟩
def mW (h:Ln ZL Z bt bx T tv A7 k H4 v fc vs):Ev (gO 120 [.pointer (some ⟨bt,0,none⟩)] Z) (fun r=>r=⟨false,.bool (decide (T.reqs.length=24)),Z⟩) ⟨⟩:=by
 have ht:=C1 h.row;obtain⟨c1,c2,c3,c4,b,rfl⟩:=fc5 h.fx;unfold tnR Ae at ht;obtain⟨a,ha⟩:=OL.shape (h.sl 2 om);rw[show(Cg T vs 2).length=T.reqs.length from z2z ..]at ha;rw[ha]at ht;have e:decide ((T.reqs.length:Int)=24)=decide (T.reqs.length=24):=by rw[z7z,z3z,z3z];omega
 refine G1 Tryz.func120 rfl rfl ?_;refine gS1 (aI ht (aI e @Tryz.results120)) ?_;try exact⟨⟩
def aG (h:Ln ZL Z bt bx T tv A7 k H4 v fc vs):Ev (gO 126 [.pointer (some ⟨bt,0,none⟩)] Z) (fun r=>r=⟨false,.bool (decide (T.C8.length=12)),Z⟩) ⟨⟩:=by
 have ht:=C1 h.row;obtain⟨c1,c2,c3,c4,b,rfl⟩:=fc5 h.fx;unfold tnR Ae at ht;obtain⟨a,ha⟩:=OL.shape (h.sl 4 om);rw[show(Cg T vs 4).length=vs.length from z2z ..]at ha;rw[h.iv.len]at ha;rw[ha]at ht;have e:decide ((T.C8.length:Int)=12)=decide (T.C8.length=12):=by rw[z7z,z3z,z3z];omega
 refine G1 Tryz.func126 rfl rfl ?_;refine gS1 (aI ht (aI e @Tryz.results126)) ?_;try exact⟨⟩
end
structure Fits (T:Tn):Prop where
 F9:T.F9.length<=100000
 E9:T.E9.length<=100000
 reqs:T.reqs.length<=100000
 H2:T.H2.length<=100000
 C8:T.C8.length<=100000
def uL (f:Nat) (a:KS):Prop:=∀ (ZL Z:St) (bt bx:Nat) (T:Tn) (tv:Value) (A7:List Tok) (k:Nat) (H4:List Value) (v:Nat->Value) (fc vs:List Value),Ln ZL Z bt bx T tv A7 k H4 v fc vs ->
 Ev (go Tryz.prog HS (.fn f) [.pointer (some ⟨bt,0,none⟩)] Z) (fun r=>r=⟨false,.bool (a.full T),Z⟩) ⟨⟩
def Ac1 (g:Nat) (a:KS):Prop:=∀ (ZL Z:St) (bt bx:Nat) (T:Tn) (tv:Value) (A7:List Tok) (k:Nat) (tx:By) (from':Nat) (v:Nat->Value) (fc vs:List Value),Ln ZL Z bt bx T tv A7 k (N9 tx from' bt) v fc vs->Ends A7->En A7->Fits T ->
 tx.length<10000000->from'<10000000->Ends (Ck tx from')->IZ (Ck tx from')->Ev (go Tryz.prog HS (.fn g) [.pointer (some ⟨bx,0,none⟩)] Z) (LnP ZL bt bx tv A7 (N9 tx from' bt) (a.rd A7 tx from' T k)) ⟨⟩
def Dw {a:KS}(h:a.full=fun _=>false):uL 113 a:=by
 intro ZL Z bt bx T tv A7 k H4 v fc vs b;rw[h];exact uK
def lf (w:By):(W1 w N0=none/\kS w=none)\/∃ g f ks,W1 w N0=some (IB g ks.once f)/\kS w=some ks/\uL f ks/\Ac1 g ks:=by
 by_cases i:w=[116,101,110,100,101,114]
 ·subst i;exact .inr ⟨_,_,_,rfl,rfl,Dw rfl,fun _ _ _ _ _ _ _ _ _ _ _ _ _ a b c d _ _ _ _=>lu a b c⟩
 by_cases j:w=[108,111,116]
 ·subst j;exact .inr ⟨_,_,_,rfl,rfl,fun _ _ _ _ _ _ _ _ _ _ _ _ a=>mV a,fun _ _ _ _ _ _ _ _ _ _ _ _ _ a b c d _ _ _ _=>AU6 a b c d.F9⟩
 by_cases l:w=[99,114,105,116,101,114,105,111,110]
 ·subst l;exact .inr ⟨_,_,_,rfl,rfl,fun _ _ _ _ _ _ _ _ _ _ _ _ a=>eA a,fun _ _ _ _ _ _ _ _ _ _ _ _ _ a b c d _ _ _ _=>Vn a b c d.E9⟩
 by_cases m:w=[114,101,113,117,105,114,101]
 ·subst m;exact .inr ⟨_,_,_,rfl,rfl,fun _ _ _ _ _ _ _ _ _ _ _ _ a=>mW a,fun _ _ _ _ _ _ _ _ _ _ _ _ _ a b c d _ _ _ _=>df a b c d.reqs⟩
 by_cases n:w=[112,114,105,99,101]
 ·subst n;exact .inr ⟨_,_,_,rfl,rfl,Dw rfl,fun _ _ _ _ _ _ _ _ _ _ _ _ _ a b c d _ _ _ _=>ss a b c⟩
 by_cases o:w=[102,111,114,109,117,108,97]
 ·subst o;exact .inr ⟨_,_,_,rfl,rfl,Dw rfl,fun _ _ _ _ _ _ _ _ _ _ _ _ _ a b c d s g2 g3 g4=>nv a s g2 g3 g4⟩
 by_cases p:w=[116,105,101]
 ·subst p;exact .inr ⟨_,_,_,rfl,rfl,Dw rfl,fun _ _ _ _ _ _ _ _ _ _ _ _ _ a b c d _ _ _ _=>AU4 a b c d.H2⟩
 by_cases q:w=[109,111,115,116]
 ·subst q;exact .inr ⟨_,_,_,rfl,rfl,Dw rfl,fun _ _ _ _ _ _ _ _ _ _ _ _ _ a b c d _ _ _ _=>yY a b c⟩
 by_cases r:w=[99,111,109,98,111]
 ·subst r;exact .inr ⟨_,_,_,rfl,rfl,fun _ _ _ _ _ _ _ _ _ _ _ _ a=>aG a,fun _ _ _ _ _ _ _ _ _ _ _ _ _ a b c d _ _ _ _=>ti a b c (by rw[a.iv.len];exact d.C8)⟩
 by_cases e:w=[98,117,100,103,101,116]
 ·subst e;exact .inr ⟨_,_,_,rfl,rfl,Dw rfl,fun _ _ _ _ _ _ _ _ _ _ _ _ _ a b c d _ _ _ _=>lz a b c⟩
 by_cases h:w=[116,105,109,101,115]
 ·subst h;exact .inr ⟨_,_,_,rfl,rfl,Dw rfl,fun _ _ _ _ _ _ _ _ _ _ _ _ _ a b c d _ _ _ _=>ri a b c⟩
 left;constructor
 ·unfold N0;simp only[Cp,z0z i,z0z j,z0z l,z0z m,z0z n,z0z o,z0z p,z0z q,z0z r,z0z e,z0z h];rfl
 ·unfold kS;simp only[z0z i,z0z j,z0z l,z0z m,z0z n,z0z o,z0z p,z0z q,z0z r,z0z e,z0z h]
def Ka (bt:Nat) (v:Nat->Value):List Nat:=List.range bt++bt::(JC (v 0)++JC (v 1)++JC (v 2)++JC (v 3)++JC (v 4))
def Pj {bt bx c:Nat}{v:Nat->Value}:c∈held bt bx v↔c=bx\/c∈Ka bt v:=by
 unfold held Ka;rw[An,An,V9,V9,V9];constructor
 ·rintro(h|h|h|h)
  ·exact .inr (.inl h)
  ·exact .inr (.inr (.inl h))
  ·exact .inl h
  ·exact .inr (.inr (.inr h))
 ·rintro(h|h|h|h)
  ·exact .inr (.inr (.inl h))
  ·exact .inl h
  ·exact .inr (.inl h)
  ·exact .inr (.inr (.inr h))
structure Tp (ZL Z:St) (bt:Nat) (T:Tn) (v:Nat->Value) (fc vs:List Value):Prop where
 ext:G5 bt ZL Z
 btl:bt<ZL.n
 row:Z.B8 bt=some (tnR T v fc)
 sl:∀ i,i<5->OL ZL.n Z (szT i) (v i) (Cg T vs i)
 dis:∀ i j c,i<5->j<5->i≠j->K3 (v i)=some c->K3 (v j)≠some c
 fx:Aq (J0 Z (Ka bt v)) fc T.f
 iv:EK (GG (J0 Z (Ka bt v))) vs T.C8
section
variable {ZL Z Z':St}{bt bx:Nat}{T:Tn}{tv:Value}{A7:List Tok}{k:Nat}{H4:List Value}{v:Nat->Value}{fc vs:List Value}
def Ln.tp (h:Ln ZL Z bt bx T tv A7 k H4 v fc vs):Tp ZL Z bt T v fc vs:=by
 have b:Ao (J0 Z (held bt bx v)) (J0 Z (Ka bt v)):=K8 nL fun c _ d=>⟨fun a=>d (Pj.2 (.inr a)),rfl⟩
 exact⟨h.ext,h.btl,h.row,h.sl,h.dis,h.fx.I4 b,h.iv.mono fun _ _ e=>SL.I4 e b⟩
def Tp.ext' (h:Tp ZL Z bt T v fc vs) (a:Ext Z Z'):Tp ZL Z' bt T v fc vs :=
 ⟨h.ext.trans (.of a),h.btl,by rw[B9 (a.same bt (z5z h.btl h.ext.n))];exact h.row,fun i hi=>OL.ext (h.sl i hi) a,h.dis,h.fx.I4 (HX a),h.iv.mono fun _ _ b=>SL.I4 b (HX a)⟩
def Tp.ln {Z0:St}(h:Tp ZL Z0 bt T v fc vs) (f:Ext Z0 Z) (l:Z0.n<=bx) (o:Sc Z bx tv A7 k H4) (a:∀ c,K3 tv=some c->Z0.n<=c):Ln ZL Z bt bx T tv A7 k H4 v fc vs:=by
 have d:=h.ext' f;have j:Ao (J0 Z0 (Ka bt v)) (J0 Z (held bt bx v)):=K8 f.n fun c b m=>⟨fun g=>by
  rcases Pj.1 g with e|e
  ·omega
  ·exact m e,f.row b⟩
 have q:=h.ext.n;refine⟨d.ext,h.btl,om,d.row,d.sl,h.dis,fun i hi e=>?_,h.fx.I4 j,h.iv.mono fun _ _ p=>SL.I4 p j,o,fun c b=>⟨fun e=>?_,fun i hi e=>?_⟩⟩
 ·have:=((h.sl i hi).blk e).2;omega
 ·have:=a c b;have:=h.btl;omega
 ·have:=a c b;have:=((h.sl i hi).blk e).2;omega
def Tp.seen {a:Nat}{kv kv':List (By×Value)}(h:Tp ZL Z bt T v fc vs) (o:Ch Z a kv) (r:a<ZL.n) (j:a≠bt):Tp (IH ZL a (JH kv')) (IH Z a (JH kv')) bt T v fc vs:=by
 have p:Z.row a=none:=by
  obtain⟨ver,g⟩:=o;show ob (Z.EI a) _=_;unfold St.EI St.blk;rw[g];rfl
 have l:(IH Z a (JH kv')).row a=none:=by
  obtain⟨ver,g⟩:=Cu (Z:=Z) (b:=a) (kv':=kv');show ob ((IH Z a (JH kv')).EI a) _=_;unfold St.EI St.blk;rw[g];rfl
 have m:Ao (J0 Z (Ka bt v)) (J0 (IH Z a (JH kv')) (Ka bt v)):=K8 nL fun c _ d=>⟨d,by
  by_cases e:c=a
  ·rw[e,p,l]
  ·exact V7 (AY e)⟩
 refine⟨⟨h.ext.n,fun c d f=>?_⟩,h.btl,by rw[B9 (AY (fun e=>j e.symm))];exact h.row,fun i hi=>(h.sl i hi).I4 nL fun c d=>AY (by have:=((h.sl i hi).blk d).1;omega),h.dis,h.fx.I4 m,h.iv.mono fun _ _ q=>SL.I4 q m⟩;by_cases e:c=a
 ·subst e;have g:=h.ext.same c d f;show(Tr.set _ _ _).get c=(Tr.set _ _ _).get c;rw[Tr.get_set_same,Tr.get_set_same];unfold St.ver;rw[g]
 ·rw[AY e,AY e];exact h.ext.same c d f
end
def Zz {l:List Tok}{n:Nat}:Ends (l++[([],n)]):=by
 intro k t h a;rcases AH k l.length with b|b
 ·simp;omega
 ·rw[List.getElem?_append_right b]at h;cases c:k-l.length with
  |zero=>rw[c]at h;cases h;exact absurd rfl a
  |succ j=>rw[c]at h;simp at h
def He {s:By}{k:Nat}:Ends (H3 s k):=Zz
def LR {s:By}{k:Nat}:Ends (Ck s k):=Zz
def T0:Tn:=⟨[],[],[],[],0,0,.mk [] 0 0 [] [],[],0,[],0,⟨0,0,0,0,0⟩⟩
def tru:Value:= .bool true
noncomputable def DL (l:By) (at':Nat) (T:Tn) (seen:List (By×Value)):Except Er (Tn×List (By×Value)) :=
 if (E8 (H3 l at') 0).1=[]then .ok (T,seen)else
  match kS (E8 (H3 l at') 0).1 with
  |none=> .error ((E8 (H3 l at') 0).2,12)
  |some a=>if (a.once&&(W1 (E8 (H3 l at') 0).1 seen).isSome)=true then .error ((E8 (H3 l at') 0).2,13)else
     if a.full T=true then .error ((E8 (H3 l at') 0).2,2)else
      V6 (a.rd (H3 l at') (l.drop ((E8 (H3 l at') 0).2+(E8 (H3 l at') 0).1.length-at')) ((E8 (H3 l at') 0).2+(E8 (H3 l at') 0).1.length) T 1) fun(T',k)=>
       if (E8 (H3 l at') k).1=[]then .ok (T',DM (E8 (H3 l at') 0).1 tru seen)else .error ((E8 (H3 l at') k).2,12)
noncomputable def BN:List By->Nat->Tn->List (By×Value)->Except Er (Tn×List (By×Value))
 | [],_,T,seen=> .ok (T,seen)
 |l::ls,at',T,seen=>V6 (DL l at' T seen) fun(T',ET)=>BN ls (at'+(l.length+1)) T' ET
def six:List By:=[[116,101,110,100,101,114],[108,111,116],[112,114,105,99,101],[102,111,114,109,117,108,97],[98,117,100,103,101,116],[116,105,109,101,115]]
noncomputable def Bo (s:By):Except Er Tn:=V6 (BN (L7 10 s) 0 T0 []) fun(T,seen)=>if six.all (fun w=>(W1 w seen).isSome)=true then .ok T else .error (s.length,12)
def QQ (l:By) (at':Nat):Prop:=En (H3 l at')/\∀ n,IZ (Ck (l.drop n) (at'+n))
def yT {a:St}{b:Nat}(d:b<a.n) (f:a.B8 b=some (tnR T0 (fun _=> .slice none 0 0) [str [],.int .i64 0,.int .i64 0,str [],.slice none 0 0])) :
  Tp a a b T0 (fun _=> .slice none 0 0) [str [],.int .i64 0,.int .i64 0,str [],.slice none 0 0] []:=by
 refine⟨.refl,d,f,fun i hi=>?_,fun i j c _ _ _ e=>(by cases e),⟨_,[],rfl,.inl ⟨rfl,rfl⟩,by simp,rfl⟩,trivial⟩
 match i,hi with
 |0,_=>exact OL.nil
 |1,_=>exact OL.nil
 |2,_=>exact OL.nil
 |3,_=>exact OL.nil
 |4,_=>exact OL.nil
def lh {l:By}{at':Nat}(h:(E8 (H3 l at') 0).1≠[]):at'<=(E8 (H3 l at') 0).2/\(E8 (H3 l at') 0).2+(E8 (H3 l at') 0).1.length<=at'+l.length:=by
 have key:∀ (ws:List By) (k:Nat),(E8 (Av ws k++[([],k+lens ws-1)]) 0).1≠[]->k<=(E8 (Av ws k++[([],k+lens ws-1)]) 0).2/\(E8 (Av ws k++[([],k+lens ws-1)]) 0).2+(E8 (Av ws k++[([],k+lens ws-1)]) 0).1.length+1<=k+lens ws:=by
  intro ws;induction ws with
  |nil=>intro k h;exact absurd rfl h
  | cons w ws ih=>
    intro k h;by_cases b:w=[]
    ·subst b;have e:Av ([]::ws) k++[([],k+lens ([]::ws)-1)]=Av ws (k+1)++[([],(k+1)+lens ws-1)]:=by
      have:k+lens ([]::ws)-1=(k+1)+lens ws-1:=by simp[lens];omega
      rw[this];simp[Av]
     rw[e]at h ⊢;have:=ih (k+1) h;simp only[lens,Hf];omega
    ·have e:E8 (Av (w::ws) k++[([],k+lens (w::ws)-1)]) 0=(w,k):=by simp[E8,Av,b]
     rw[e];simp only[lens];omega
 have c:=Dt 32 l;have a:=key (L7 32 l) at';rw[c,show at'+(l.length+1)-1=at'+l.length by omega]at a;have:=a h;exact⟨this.1,by have:=this.2;show _+_<=_;exact Nat.le_of_succ_le_succ (by show _+1<=at'+l.length+1;exact this)⟩
section
variable {n:Nat}{T:Tn}{A7:List Tok}
structure JA (n:Nat) (T:Tn):Prop where
 F9:T.F9.length<=n
 E9:T.E9.length<=n
 reqs:T.reqs.length<=n
 H2:T.H2.length<=n
 C8:T.C8.length<=n
def JA.mono {m:Nat}(h:JA n T) (a:n<=m):JA m T:=⟨W5 h.F9 a,W5 h.E9 a,W5 h.reqs a,W5 h.H2 a,W5 h.C8 a⟩
def JA.fits (h:JA n T) (a:n<=100000):Fits T:=⟨W5 h.F9 a,W5 h.E9 a,W5 h.reqs a,W5 h.H2 a,W5 h.C8 a⟩
def lX (b:12<=n):∀ (f:Nat) (T:Tn) (k:Nat) (T':Tn) (k':Nat),JA n T->Na A7 f T k= .ok (T',k')->JA n T':=by
 intro f;induction f with
 |zero=>intro T k T' k' h e;cases e;exact h
 | succ f ih=>
   intro T k T' k' h e;rw[Hb]at e;split at e
   ·split at e
    ·split at e
     ·cases e
     ·split at e
      ·rename_i a;refine ih { T with H2:=T.H2++[(E8 A7 k).1] } (k+1) _ _ ⟨h.F9,h.E9,h.reqs,?_,h.C8⟩ e;simp;omega
      ·cases e
    ·cases e
   ·cases e;exact h
def ZV:∀ (f:Nat) (T:Tn) (k:Nat) (T':Tn) (k':Nat),JA n T->IL A7 f T k= .ok (T',k')->JA n T':=by
 intro f;induction f with
 |zero=>intro T k T' k' h e;cases e;exact h
 | succ f ih=>
   intro T k T' k' h e;rw[Ak]at e;obtain⟨⟨m,c⟩,b,a⟩:=D9 e;refine ih _ _ _ _ ?_ a;unfold Gy;split<;>exact⟨h.F9,h.E9,h.reqs,h.H2,h.C8⟩
def yO {w:By}{i:KS}(g:kS w=some i){p:By}{fr:Nat}{T':Tn}{k k':Nat}(B:12<=n) (h:JA n T) (e:i.rd A7 p fr T k= .ok (T',k')):JA (n+1) T':=by
 have f:=h.mono (YJ n);by_cases s:w=[116,101,110,100,101,114]
 ·subst s;obtain rfl:=z8z (show some ((⟨true,fun _=>false,fun A7 _ _ T k=>BU A7 T k⟩:KS))=some i from g);change BU A7 T k=_ at e;unfold BU at e;split at e<;>cases e;exact⟨f.F9,f.E9,f.reqs,f.H2,f.C8⟩
 by_cases j:w=[108,111,116]
 ·subst j;obtain rfl:=z8z (show some ((⟨false,fun T=>decide (T.F9.length=12),fun A7 _ _ T k=>Nb A7 T k⟩:KS))=some i from g);obtain⟨⟨a,k1⟩,j,e⟩:=D9 (show Nb A7 T k=_ from e);obtain⟨⟨b,r⟩,l,e⟩:=D9 e;obtain⟨⟨c,k3⟩,o,e⟩:=D9 e;cases e;exact⟨by simp;exact h.F9,f.E9,f.reqs,f.H2,f.C8⟩
 by_cases l:w=[99,114,105,116,101,114,105,111,110]
 ·subst l;obtain rfl:=z8z (show some ((⟨false,fun T=>decide (T.E9.length=12),fun A7 _ _ T k=>o7 A7 T k⟩:KS))=some i from g);obtain⟨a,j,e⟩:=D9 (show o7 A7 T k=_ from e);split at e
  ·cases e
  obtain⟨⟨b,r⟩,l,e⟩:=D9 e;obtain⟨⟨c,k3⟩,o,e⟩:=D9 e;obtain⟨⟨d,k4⟩,q,e⟩:=D9 e;cases e;exact⟨f.F9,by simp;exact h.E9,f.reqs,f.H2,f.C8⟩
 by_cases o:w=[114,101,113,117,105,114,101]
 ·subst o;obtain rfl:=z8z (show some ((⟨false,fun T=>decide (T.reqs.length=24),fun A7 _ _ T k=>Bn A7 T k⟩:KS))=some i from g);obtain⟨a,j,e⟩:=D9 (show Bn A7 T k=_ from e);obtain⟨⟨b,r⟩,l,e⟩:=D9 e;obtain⟨⟨c,k3⟩,o,e⟩:=D9 e;cases e;exact⟨f.F9,f.E9,by simp;exact h.reqs,f.H2,f.C8⟩
 by_cases q:w=[112,114,105,99,101]
 ·subst q;obtain rfl:=z8z (show some ((⟨true,fun _=>false,fun A7 _ _ T k=>Et A7 T k⟩:KS))=some i from g);obtain⟨⟨a,k1⟩,j,e⟩:=D9 (show Et A7 T k=_ from e);obtain⟨⟨b,r⟩,l,e⟩:=D9 e;cases e;exact⟨f.F9,f.E9,f.reqs,f.H2,f.C8⟩
 by_cases u:w=[102,111,114,109,117,108,97]
 ·subst u;obtain rfl:=z8z (show some ((⟨true,fun _=>false,fun A7 p fr T k=>Bk A7 p fr T k⟩:KS))=some i from g);obtain⟨a,j,e⟩:=D9 (show Bk A7 p fr T k=_ from e);cases e;exact⟨f.F9,f.E9,f.reqs,f.H2,f.C8⟩
 by_cases v:w=[116,105,101]
 ·subst v;obtain rfl:=z8z (show some ((⟨true,fun _=>false,fun A7 _ _ T k=>LS A7 T k⟩:KS))=some i from g);exact(lX B _ _ _ _ _ h (show LS A7 T k=_ from e)).mono (YJ n)
 by_cases y:w=[109,111,115,116]
 ·subst y;obtain rfl:=z8z (show some ((⟨true,fun _=>false,fun A7 _ _ T k=>Hc A7 T k⟩:KS))=some i from g);obtain⟨⟨a,k1⟩,j,e⟩:=D9 (show Hc A7 T k=_ from e);cases e;exact⟨f.F9,f.E9,f.reqs,f.H2,f.C8⟩
 by_cases z:w=[99,111,109,98,111]
 ·subst z;obtain rfl:=z8z (show some ((⟨false,fun T=>decide (T.C8.length=12),fun A7 _ _ T k=>Eu A7 T k⟩:KS))=some i from g);obtain⟨⟨a,k1⟩,j,e⟩:=D9 (show Eu A7 T k=_ from e);cases e;exact⟨f.F9,f.E9,f.reqs,f.H2,by simp;exact h.C8⟩
 by_cases A:w=[98,117,100,103,101,116]
 ·subst A;obtain rfl:=z8z (show some ((⟨true,fun _=>false,fun A7 _ _ T k=>Cx A7 T k⟩:KS))=some i from g);obtain⟨⟨a,k1⟩,j,e⟩:=D9 (show Cx A7 T k=_ from e);cases e;exact⟨f.F9,f.E9,f.reqs,f.H2,f.C8⟩
 by_cases m:w=[116,105,109,101,115]
 ·subst m;obtain rfl:=z8z (show some ((⟨true,fun _=>false,fun A7 _ _ T k=>Dp A7 T k⟩:KS))=some i from g);exact(ZV _ _ _ _ _ h (show Dp A7 T k=_ from e)).mono (YJ n)
 unfold kS at g;simp only[z0z s,z0z j,z0z l,z0z o,z0z q,z0z u,z0z v,z0z y,z0z z,z0z A,z0z m]at g;cases g
end
end Go.Proofs.T
