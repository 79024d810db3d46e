/- Ad4 with keys AS are texts; the kinds of lines. -/
import Derived.Test.YtckchelhlpifiaaGreatDoorTF
set_option linter.unusedSimpArgs false
set_option linter.unusedVariables false
set_option linter.defProp false
set_option maxHeartbeats 32000000
set_option maxRecDepth 100000
namespace Go.Proofs.T
open Go Go.Ab
section
variable {w k:By}{v:Value}{l:List (By×Value)}{cs:List Value}{fr:Fr}
def JL (kv:List (By×Value)):List Value:=(kv.map fun p=>[str p.1,p.2]).flatten
def U9 (w:By):List (By×Value)->Option Value
 | []=>none
 | (k,v)::l=>if w=k then some v else U9 w l
def GG (w:By) (x:Value):List (By×Value)->List (By×Value)
 | []=>[(w,x)]
 | (k,v)::l=>if w=k then(w,x)::l else(k,v)::GG w x l
def Tl {a b:By}:Kt (str a) (str b)=some (decide (a=b)):=by
 show some (Lf a b)=_;rw[Qo];congr 1;rw[z7z];simp
def CZ:U9 w ((k,v)::l)=if w=k then some v else U9 w l:=rfl
def Ll {x:Value}:GG w x ((k,v)::l)=if w=k then(w,x)::l else(k,v)::GG w x l:=rfl
def fX {w:By}:∀ kv:List (By×Value),OT (str w) (JL kv)=some (U9 w kv)
 | []=>rfl
 | (k,v)::l=>by
   show ob (Kt (str w) (str k)) (fun s=>bi s (some (some v)) (OT (str w) (JL l)))=_;rw[Tl,F8,fX l];rw[CZ];by_cases h:w=k
   ·rw[z1z h,Aq h];rfl
   ·rw[z0z h,z4z h];rfl
def fY {w:By}{x:Value}:∀ kv:List (By×Value),Mf (str w) x (JL kv)=some (JL (GG w x kv))
 | []=>rfl
 | (k,v)::l=>by
   show ob (Kt (str w) (str k)) (fun s=>bi s (some (str w::x::JL l)) (ob (Mf (str w) x (JL l)) fun r=>some (str k::v::r)))=_;rw[Tl,F8,fY l];rw[Ll];by_cases h:w=k
   ·rw[z1z h,Aq h];rfl
   ·rw[z0z h,z4z h];rfl
def CI (Z:St) (b:Nat) (kv:List (By×Value)):Prop:=∃ ver,Z.h.get b=some ⟨JL kv,true,true,ver,.map⟩
noncomputable def II (Z:St) (b:Nat) (cs:List Value):St:=⟨Z.h.set b ⟨cs,true,true,(Z.ver b)+1,.map⟩,Z.n⟩
section
variable {Z Z':St}{b:Nat}{kv:List (By×Value)}
def CI.ext (h:CI Z b kv) (hb:b<Z.n) (hE:Ext Z Z'):CI Z' b kv:=let ⟨v,h⟩:=h;⟨v,by rw[hE.same b hb];exact h⟩
def CI.K4 {p:Nat}(h:CI Z b kv) (hb:b<Z.n) (hE:B9 p Z Z') (hp:b≠p):CI Z' b kv:=let ⟨v,h⟩:=h;⟨v,by rw[hE.same b hb hp];exact h⟩
@[simp] theorem qt {cs:List Value}:(II Z b cs).n=Z.n:=rfl
theorem Cb {kv':List (By×Value)}:CI (II Z b (JL kv')) b kv':=⟨_,Tr.get_set_same _ _ _⟩
def AF {c:Nat}(h:c≠b):(II Z b cs).h.get c=Z.h.get c:=Tr.J1 _ _ h
def fZ:CI (Z.Hi [] .map) Z.n []:=⟨0,Tr.get_set_same _ _ _⟩
def RF {Z0:St}(h:Ext Z0 Z) (hb:Z0.n<=b):Ext Z0 (II Z b cs):=⟨h.n,fun c hc=>by rw[AF om];exact h.same c hc⟩
def CI.blk (h:CI Z b kv):∃ ver,Z.Rb b=some ⟨JL kv,true,true,ver,.map⟩/\ver=Z.ver b:=by
 obtain⟨v,h⟩:=h;refine⟨v,?_,?_⟩
 ·show ob (ob (Z.h.get b) _) _=_;rw[h];rfl
 ·unfold St.ver;rw[h]
def AQ {P:Program}{fr:Fr}{t kt et:TypeId}{m k x:Operand}{w:By}{xv:Value}{Q:Value×St->Prop}{uq:Hd Q}(hT:IA P t=some (kt,et)) (hK:∀ s,Cv (P.underlying kt) (str s)=true)
  (hm:ev fr m=some (.map (some b))) (hk:ev fr k=some (str w)) (hx:ev fr x=some xv) (hB:CI Z b kv) (h:Q (Q8,II Z b (JL (GG w xv kv)))):Ev (Y4 P fr Z t m k x) Q uq:=by
 obtain⟨ver,h1,h2⟩:=hB.blk;refine⟨_,?_,h⟩;unfold Y4;rw[hT,F8,Sf,hm,F8];show ob (some (some b)) _=_;rw[F8,F8,hk,F8,hK,FK,hx,F8,h1,F8,fY,F8];show ob (ob (Z.Rb b) _) _=_;rw[h1];subst h2;rfl
def VN {P:Program}{fr:Fr}{t kt et:TypeId}{m k:Operand}{w:By}{z:Value}{ok:Bool}{Q:Value×St->Prop}{uq:Hd Q}(hT:IA P t=some (kt,et)) (hK:∀ s,Cv (P.underlying kt) (str s)=true) (hz:u7 P et=some z)
  (hm:ev fr m=some (.map (some b))) (hk:ev fr k=some (str w)) (hB:CI Z b kv)
  (h:Q (bi ok (.tuple ⟨[(U9 w kv).getD z,.bool (U9 w kv).isSome]⟩) ((U9 w kv).getD z),Z)):Ev (Co P fr Z t m k ok) Q uq:=by
 obtain⟨ver,h1,h2⟩:=hB.blk;refine⟨_,?_,h⟩;unfold Co;rw[hT,F8,Sf,hm,F8];show ob (some (some b)) _=_;rw[F8,hk,F8,hK,FK];show ob (ob (Z.Rb b) _) _=_;rw[h1,F8,F8];show ob (OT (str w) (JL kv)) _=_;rw[fX,F8];cases U9 w kv with
 |none=>show ob (ob (u7 P et) _) _=_;rw[hz];rfl
 |some v=>rfl
end
def Oj:IA Tryz.prog 95=some (9,4):=kR
def DJ:IA Tryz.prog 96=some (9,111):=kR
def KT (s:By):Cv ((Tryz.prog).underlying 9) (str s)=true:=kR
def qu:ev fr (.const (.map none))=some (.map none):=rfl
def emk {Z:St}:Fc fr Z none=some (.map (some Z.n),Z.Hi [] .map):=rfl
def ID (g:Nat) (once:Bool) (full:Nat):Value:= .agg ⟨[.func (.func g) ⟨[]⟩ ⟨[]⟩,.bool once,.func (.func full) ⟨[]⟩ ⟨[]⟩]⟩
def J6:List (By×Value):=[
 ([116,101,110,100,101,114],ID 90 true 89),
 ([108,111,116],ID 91 false 92),
 ([99,114,105,116,101,114,105,111,110],ID 93 false 94),
 ([114,101,113,117,105,114,101],ID 95 false 96),
 ([112,114,105,99,101],ID 97 true 89),
 ([102,111,114,109,117,108,97],ID 98 true 89),
 ([116,105,101],ID 99 true 89),
 ([109,111,115,116],ID 100 true 89),
 ([99,111,109,98,111],ID 101 false 102),
 ([98,117,100,103,101,116],ID 103 true 89),
 ([116,105,109,101,115],ID 104 true 89)]
def qv {Z:St}:Ev (gO 43 [] Z) (fun r=>∃ Z',r=⟨false,.map (some Z.n),Z'⟩/\Ext Z Z'/\Z.n<Z'.n/\CI Z' Z.n J6) ⟨⟩:=by
 refine D0 Tryz.func43 rfl rfl ?_;refine gS1 (aI @qu @emk) ?_;refine AQ (b:=Z.n) (kv:=J6.take 0) (w:=(J6.getD 0 ([],.nilIface)).1) (xv:=(J6.getD 0 ([],.nilIface)).2) DJ KT kR kR kR fZ ?_;refine gS1 @emk ?_;refine AQ (b:=Z.n) (kv:=J6.take 1) (w:=(J6.getD 1 ([],.nilIface)).1) (xv:=(J6.getD 1 ([],.nilIface)).2) DJ KT kR kR kR Cb ?_;refine gS1 @emk ?_;refine AQ (b:=Z.n) (kv:=J6.take 2) (w:=(J6.getD 2 ([],.nilIface)).1) (xv:=(J6.getD 2 ([],.nilIface)).2) DJ KT kR kR kR Cb ?_;refine gS1 @emk ?_;refine AQ (b:=Z.n) (kv:=J6.take 3) (w:=(J6.getD 3 ([],.nilIface)).1) (xv:=(J6.getD 3 ([],.nilIface)).2) DJ KT kR kR kR Cb ?_;refine gS1 @emk ?_;refine AQ (b:=Z.n) (kv:=J6.take 4) (w:=(J6.getD 4 ([],.nilIface)).1) (xv:=(J6.getD 4 ([],.nilIface)).2) DJ KT kR kR kR Cb ?_;refine gS1 @emk ?_;refine AQ (b:=Z.n) (kv:=J6.take 5) (w:=(J6.getD 5 ([],.nilIface)).1) (xv:=(J6.getD 5 ([],.nilIface)).2) DJ KT kR kR kR Cb ?_;refine gS1 @emk ?_;refine AQ (b:=Z.n) (kv:=J6.take 6) (w:=(J6.getD 6 ([],.nilIface)).1) (xv:=(J6.getD 6 ([],.nilIface)).2) DJ KT kR kR kR Cb ?_;refine gS1 @emk ?_;refine AQ (b:=Z.n) (kv:=J6.take 7) (w:=(J6.getD 7 ([],.nilIface)).1) (xv:=(J6.getD 7 ([],.nilIface)).2) DJ KT kR kR kR Cb ?_;refine gS1 @emk ?_;refine AQ (b:=Z.n) (kv:=J6.take 8) (w:=(J6.getD 8 ([],.nilIface)).1) (xv:=(J6.getD 8 ([],.nilIface)).2) DJ KT kR kR kR Cb ?_;refine gS1 @emk ?_;refine AQ (b:=Z.n) (kv:=J6.take 9) (w:=(J6.getD 9 ([],.nilIface)).1) (xv:=(J6.getD 9 ([],.nilIface)).2) DJ KT kR kR kR Cb ?_;refine gS1 @emk ?_;refine AQ (b:=Z.n) (kv:=J6.take 10) (w:=(J6.getD 10 ([],.nilIface)).1) (xv:=(J6.getD 10 ([],.nilIface)).2) DJ KT kR kR kR Cb ?_;refine gS1 (aI @emk @Tryz.results43) ?_;exact⟨_,rfl,(RF (RF (RF (RF (RF (RF (RF (RF (RF (RF (RF ((Ext.refl Z).Hi [] .map) nL) nL) nL) nL) nL) nL) nL) nL) nL) nL) nL),by simp,Cb (kv':=J6)⟩
end
structure KS where
 once:Bool
 full:Tn->Bool
 rd:List Tok->By->Nat->Tn->Nat->Except Er (Tn×Nat)
noncomputable def kS (w:By):Option KS :=
 if w=[116,101,110,100,101,114]then some ⟨true,fun _=>false,fun A1 _ _ T k=>Ad A1 T k⟩else
 if w=[108,111,116]then some ⟨false,fun T=>decide (T.G8.length=12),fun A1 _ _ T k=>JX A1 T k⟩else
 if w=[99,114,105,116,101,114,105,111,110]then some ⟨false,fun T=>decide (T.D2.length=12),fun A1 _ _ T k=>S9 A1 T k⟩else
 if w=[114,101,113,117,105,114,101]then some ⟨false,fun T=>decide (T.reqs.length=24),fun A1 _ _ T k=>AY A1 T k⟩else
 if w=[112,114,105,99,101]then some ⟨true,fun _=>false,fun A1 _ _ T k=>Ep A1 T k⟩else
 if w=[102,111,114,109,117,108,97]then some ⟨true,fun _=>false,fun A1 tx fr T k=>AZ A1 tx fr T k⟩else
 if w=[116,105,101]then some ⟨true,fun _=>false,fun A1 _ _ T k=>HE A1 T k⟩else
 if w=[109,111,115,116]then some ⟨true,fun _=>false,fun A1 _ _ T k=>Hl A1 T k⟩else
 if w=[99,111,109,98,111]then some ⟨false,fun T=>decide (T.D6.length=12),fun A1 _ _ T k=>DA A1 T k⟩else
 if w=[98,117,100,103,101,116]then some ⟨true,fun _=>false,fun A1 _ _ T k=>Cg A1 T k⟩else
 if w=[116,105,109,101,115]then some ⟨true,fun _=>false,fun A1 _ _ T k=>DR A1 T k⟩else none
section
variable {Z ZL:St}{bt bx:Nat}{T:Tn}{tv:Value}{A1:List Tok}{k:Nat}{C8:List Value}{v:Nat->Value}{fc vs:List Value}
def sT {Z:St}{b:Value}:Ev (gO 89 [b] Z) (fun r=>r=⟨false,.bool false,Z⟩) ⟨⟩:=by
 refine D0 Tryz.func89 rfl rfl ?_;refine gS1 @Tryz.results89 ?_;try exact⟨⟩
def lF (h:Ln ZL Z bt bx T tv A1 k C8 v fc vs):Ev (gO 92 [.pointer (some ⟨bt,0,none⟩)] Z) (fun r=>r=⟨false,.bool (decide (T.G8.length=12)),Z⟩) ⟨⟩:=by
 have ht:=A6 h.row;obtain⟨c1,c2,c3,c4,c5,rfl⟩:=fc5 h.fx;unfold tnR AI at ht;obtain⟨a,ha⟩:=OL.shape (h.sl 0 om);rw[show(CH T vs 0).length=T.G8.length from z2z ..]at ha;rw[ha]at ht;have e:decide ((T.G8.length:Int)=12)=decide (T.G8.length=12):=by rw[z7z,z3z,z3z];omega
 refine D0 Tryz.func92 rfl rfl ?_;refine gS1 (aI ht (aI e @Tryz.results92)) ?_;try exact⟨⟩
def cY (h:Ln ZL Z bt bx T tv A1 k C8 v fc vs):Ev (gO 94 [.pointer (some ⟨bt,0,none⟩)] Z) (fun r=>r=⟨false,.bool (decide (T.D2.length=12)),Z⟩) ⟨⟩:=by
 have ht:=A6 h.row;obtain⟨c1,c2,c3,c4,c5,rfl⟩:=fc5 h.fx;unfold tnR AI at ht;obtain⟨a,ha⟩:=OL.shape (h.sl 1 om);rw[show(CH T vs 1).length=T.D2.length from z2z ..]at ha;rw[ha]at ht;have e:decide ((T.D2.length:Int)=12)=decide (T.D2.length=12):=by rw[z7z,z3z,z3z];omega
 refine D0 Tryz.func94 rfl rfl ?_;refine gS1 (aI ht (aI e @Tryz.results94)) ?_;try exact⟨⟩
def lG (h:Ln ZL Z bt bx T tv A1 k C8 v fc vs):Ev (gO 96 [.pointer (some ⟨bt,0,none⟩)] Z) (fun r=>r=⟨false,.bool (decide (T.reqs.length=24)),Z⟩) ⟨⟩:=by
 have ht:=A6 h.row;obtain⟨c1,c2,c3,c4,c5,rfl⟩:=fc5 h.fx;unfold tnR AI at ht;obtain⟨a,ha⟩:=OL.shape (h.sl 2 om);rw[show(CH T vs 2).length=T.reqs.length from z2z ..]at ha;rw[ha]at ht;have e:decide ((T.reqs.length:Int)=24)=decide (T.reqs.length=24):=by rw[z7z,z3z,z3z];omega
 refine D0 Tryz.func96 rfl rfl ?_;refine gS1 (aI ht (aI e @Tryz.results96)) ?_;try exact⟨⟩
def ZO (h:Ln ZL Z bt bx T tv A1 k C8 v fc vs):Ev (gO 102 [.pointer (some ⟨bt,0,none⟩)] Z) (fun r=>r=⟨false,.bool (decide (T.D6.length=12)),Z⟩) ⟨⟩:=by
 have ht:=A6 h.row;obtain⟨c1,c2,c3,c4,c5,rfl⟩:=fc5 h.fx;unfold tnR AI at ht;obtain⟨a,ha⟩:=OL.shape (h.sl 4 om);rw[show(CH T vs 4).length=vs.length from z2z ..]at ha;rw[h.iv.len]at ha;rw[ha]at ht;have e:decide ((T.D6.length:Int)=12)=decide (T.D6.length=12):=by rw[z7z,z3z,z3z];omega
 refine D0 Tryz.func102 rfl rfl ?_;refine gS1 (aI ht (aI e @Tryz.results102)) ?_;try exact⟨⟩
end
structure Fits (T:Tn):Prop where
 G8:T.G8.length<=100000
 D2:T.D2.length<=100000
 reqs:T.reqs.length<=100000
 F5:T.F5.length<=100000
 D6:T.D6.length<=100000
def sU (f:Nat) (ks:KS):Prop:=∀ (ZL Z:St) (bt bx:Nat) (T:Tn) (tv:Value) (A1:List Tok) (k:Nat) (C8:List Value) (v:Nat->Value) (fc vs:List Value),Ln ZL Z bt bx T tv A1 k C8 v fc vs ->
 Ev (go Tryz.prog HS (.fn f) [.pointer (some ⟨bt,0,none⟩)] Z) (fun r=>r=⟨false,.bool (ks.full T),Z⟩) ⟨⟩
def AU6 (g:Nat) (ks:KS):Prop:=∀ (ZL Z:St) (bt bx:Nat) (T:Tn) (tv:Value) (A1:List Tok) (k:Nat) (tx:By) (from':Nat) (v:Nat->Value) (fc vs:List Value),Ln ZL Z bt bx T tv A1 k (K2 tx from' bt) v fc vs->Ends A1->u9 A1->Fits T ->
 tx.length<10000000->from'<10000000->Ends (CE tx from')->Gf (CE tx from')->Ev (go Tryz.prog HS (.fn g) [.pointer (some ⟨bx,0,none⟩)] Z) (LnP ZL bt bx tv A1 (K2 tx from' bt) (ks.rd A1 tx from' T k)) ⟨⟩
def DW {ks:KS}(h:ks.full=fun _=>false):sU 89 ks:=by
 intro ZL Z bt bx T tv A1 k C8 v fc vs hL;rw[h];exact sT
def kV (w:By):(U9 w J6=none/\kS w=none)\/∃ g f ks,U9 w J6=some (ID g ks.once f)/\kS w=some ks/\sU f ks/\AU6 g ks:=by
 by_cases h1:w=[116,101,110,100,101,114]
 ·subst h1;exact .inr ⟨_,_,_,rfl,rfl,DW rfl,fun _ _ _ _ _ _ _ _ _ _ _ _ _ hL he hs hf _ _ _ _=>kZ hL he hs⟩
 by_cases h2:w=[108,111,116]
 ·subst h2;exact .inr ⟨_,_,_,rfl,rfl,fun _ _ _ _ _ _ _ _ _ _ _ _ hL=>lF hL,fun _ _ _ _ _ _ _ _ _ _ _ _ _ hL he hs hf _ _ _ _=>AP5 hL he hs hf.G8⟩
 by_cases h3:w=[99,114,105,116,101,114,105,111,110]
 ·subst h3;exact .inr ⟨_,_,_,rfl,rfl,fun _ _ _ _ _ _ _ _ _ _ _ _ hL=>cY hL,fun _ _ _ _ _ _ _ _ _ _ _ _ _ hL he hs hf _ _ _ _=>VB hL he hs hf.D2⟩
 by_cases h4:w=[114,101,113,117,105,114,101]
 ·subst h4;exact .inr ⟨_,_,_,rfl,rfl,fun _ _ _ _ _ _ _ _ _ _ _ _ hL=>lG hL,fun _ _ _ _ _ _ _ _ _ _ _ _ _ hL he hs hf _ _ _ _=>cM hL he hs hf.reqs⟩
 by_cases h5:w=[112,114,105,99,101]
 ·subst h5;exact .inr ⟨_,_,_,rfl,rfl,DW rfl,fun _ _ _ _ _ _ _ _ _ _ _ _ _ hL he hs hf _ _ _ _=>rT hL he hs⟩
 by_cases h6:w=[102,111,114,109,117,108,97]
 ·subst h6;exact .inr ⟨_,_,_,rfl,rfl,DW rfl,fun _ _ _ _ _ _ _ _ _ _ _ _ _ hL he hs hf g1 g2 g3 g4=>mT hL g1 g2 g3 g4⟩
 by_cases h7:w=[116,105,101]
 ·subst h7;exact .inr ⟨_,_,_,rfl,rfl,DW rfl,fun _ _ _ _ _ _ _ _ _ _ _ _ _ hL he hs hf _ _ _ _=>AP3 hL he hs hf.F5⟩
 by_cases h8:w=[109,111,115,116]
 ·subst h8;exact .inr ⟨_,_,_,rfl,rfl,DW rfl,fun _ _ _ _ _ _ _ _ _ _ _ _ _ hL he hs hf _ _ _ _=>xV hL he hs⟩
 by_cases h9:w=[99,111,109,98,111]
 ·subst h9;exact .inr ⟨_,_,_,rfl,rfl,fun _ _ _ _ _ _ _ _ _ _ _ _ hL=>ZO hL,fun _ _ _ _ _ _ _ _ _ _ _ _ _ hL he hs hf _ _ _ _=>sK hL he hs (by rw[hL.iv.len];exact hf.D6)⟩
 by_cases h10:w=[98,117,100,103,101,116]
 ·subst h10;exact .inr ⟨_,_,_,rfl,rfl,DW rfl,fun _ _ _ _ _ _ _ _ _ _ _ _ _ hL he hs hf _ _ _ _=>ke hL he hs⟩
 by_cases h11:w=[116,105,109,101,115]
 ·subst h11;exact .inr ⟨_,_,_,rfl,rfl,DW rfl,fun _ _ _ _ _ _ _ _ _ _ _ _ _ hL he hs hf _ _ _ _=>qX hL he hs⟩
 left;constructor
 ·unfold J6;simp only[CZ,z0z h1,z0z h2,z0z h3,z0z h4,z0z h5,z0z h6,z0z h7,z0z h8,z0z h9,z0z h10,z0z h11];rfl
 ·unfold kS;simp only[z0z h1,z0z h2,z0z h3,z0z h4,z0z h5,z0z h6,z0z h7,z0z h8,z0z h9,z0z h10,z0z h11]
def KV (bt:Nat) (v:Nat->Value):List Nat:=List.range bt++bt::(JG (v 0)++JG (v 1)++JG (v 2)++JG (v 3)++JG (v 4))
def Ot {bt bx c:Nat}{v:Nat->Value}:c∈held bt bx v↔c=bx\/c∈KV bt v:=by
 unfold held KV;rw[DK,DK,BJ,BJ,BJ];constructor
 ·rintro(h|h|h|h)
  ·exact .inr (.inl h)
  ·exact .inr (.inr (.inl h))
  ·exact .inl h
  ·exact .inr (.inr (.inr h))
 ·rintro(h|h|h|h)
  ·exact .inr (.inr (.inl h))
  ·exact .inl h
  ·exact .inr (.inl h)
  ·exact .inr (.inr (.inr h))
structure Tp (ZL Z:St) (bt:Nat) (T:Tn) (v:Nat->Value) (fc vs:List Value):Prop where
 ext:B9 bt ZL Z
 btl:bt<ZL.n
 row:Z.A7 bt=some (tnR T v fc)
 sl:∀ i,i<5->OL ZL.n Z (szT i) (v i) (CH T vs i)
 dis:∀ i j c,i<5->j<5->i≠j->I2 (v i)=some c->I2 (v j)≠some c
 fx:Ag (J5 Z (KV bt v)) fc T.f
 iv:FP (Fk (J5 Z (KV bt v))) vs T.D6
section
variable {ZL Z Z':St}{bt bx:Nat}{T:Tn}{tv:Value}{A1:List Tok}{k:Nat}{C8:List Value}{v:Nat->Value}{fc vs:List Value}
def Ln.tp (h:Ln ZL Z bt bx T tv A1 k C8 v fc vs):Tp ZL Z bt T v fc vs:=by
 have hk:ET (J5 Z (held bt bx v)) (J5 Z (KV bt v)):=K0 nL fun c _ hm=>⟨fun hm'=>hm (Ot.2 (.inr hm')),rfl⟩
 exact⟨h.ext,h.btl,h.row,h.sl,h.dis,h.fx.J3 hk,h.iv.mono fun _ _ hx=>SL.J3 hx hk⟩
def Tp.ext' (h:Tp ZL Z bt T v fc vs) (hE:Ext Z Z'):Tp ZL Z' bt T v fc vs :=
 ⟨h.ext.trans (.of hE),h.btl,by rw[B8 (hE.same bt (z5z h.btl h.ext.n))];exact h.row,fun i hi=>OL.ext (h.sl i hi) hE,h.dis,h.fx.J3 (GW hE),h.iv.mono fun _ _ hx=>SL.J3 hx (GW hE)⟩
def Tp.ln {Z0:St}(h:Tp ZL Z0 bt T v fc vs) (hE:Ext Z0 Z) (hbx:Z0.n<=bx) (hs:Sc Z bx tv A1 k C8) (htk:∀ c,I2 tv=some c->Z0.n<=c):Ln ZL Z bt bx T tv A1 k C8 v fc vs:=by
 have h':=h.ext' hE;have hk:ET (J5 Z0 (KV bt v)) (J5 Z (held bt bx v)):=K0 hE.n fun c hc hm=>⟨fun hm'=>by
  rcases Ot.1 hm' with e|e
  ·omega
  ·exact hm e,hE.row hc⟩
 have hn:=h.ext.n;refine⟨h'.ext,h.btl,om,h'.row,h'.sl,h.dis,fun i hi e=>?_,h.fx.J3 hk,h.iv.mono fun _ _ hx=>SL.J3 hx hk,hs,fun c hc=>⟨fun e=>?_,fun i hi e=>?_⟩⟩
 ·have:=((h.sl i hi).blk e).2;omega
 ·have:=htk c hc;have:=h.btl;omega
 ·have:=htk c hc;have:=((h.sl i hi).blk e).2;omega
def Tp.seen {ms:Nat}{kv kv':List (By×Value)}(h:Tp ZL Z bt T v fc vs) (hm:CI Z ms kv) (hl:ms<ZL.n) (hne:ms≠bt):Tp (II ZL ms (JL kv')) (II Z ms (JL kv')) bt T v fc vs:=by
 have hr:Z.row ms=none:=by
  obtain⟨ver,hg⟩:=hm;show ob (Z.Dg ms) _=_;unfold St.Dg St.blk;rw[hg];rfl
 have hr':(II Z ms (JL kv')).row ms=none:=by
  obtain⟨ver,hg⟩:=Cb (Z:=Z) (b:=ms) (kv':=kv');show ob ((II Z ms (JL kv')).Dg ms) _=_;unfold St.Dg St.blk;rw[hg];rfl
 have hk:ET (J5 Z (KV bt v)) (J5 (II Z ms (JL kv')) (KV bt v)):=K0 nL fun c _ hc=>⟨hc,by
  by_cases e:c=ms
  ·rw[e,hr,hr']
  ·exact T5 (AF e)⟩
 refine⟨⟨h.ext.n,fun c hc hcb=>?_⟩,h.btl,by rw[B8 (AF (fun e=>hne e.symm))];exact h.row,fun i hi=>(h.sl i hi).J3 nL fun c hc=>AF (by have:=((h.sl i hi).blk hc).1;omega),h.dis,h.fx.J3 hk,h.iv.mono fun _ _ hx=>SL.J3 hx hk⟩;by_cases e:c=ms
 ·subst e;have hg:=h.ext.same c hc hcb;show(Tr.set _ _ _).get c=(Tr.set _ _ _).get c;rw[Tr.get_set_same,Tr.get_set_same];unfold St.ver;rw[hg]
 ·rw[AF e,AF e];exact h.ext.same c hc hcb
end
def ZG {l:List Tok}{n:Nat}:Ends (l++[([],n)]):=by
 intro k t h hne;rcases y8 k l.length with hk|hk
 ·simp;omega
 ·rw[List.getElem?_append_right hk]at h;cases hz:k-l.length with
  |zero=>rw[hz]at h;cases h;exact absurd rfl hne
  |succ j=>rw[hz]at h;simp at h
def KK {s:By}{k:Nat}:Ends (G3 s k):=ZG
def It {s:By}{k:Nat}:Ends (CE s k):=ZG
def T0:Tn:=⟨[],[],[],[],0,0,.mk [] 0 0 [] [],[],0,[],0,⟨0,0,0,0,0⟩⟩
def tru:Value:= .bool true
noncomputable def CO (l:By) (at':Nat) (T:Tn) (seen:List (By×Value)):Except Er (Tn×List (By×Value)) :=
 if (A9 (G3 l at') 0).1=[]then .ok (T,seen)else
  match kS (A9 (G3 l at') 0).1 with
  |none=> .error ((A9 (G3 l at') 0).2,12)
  |some ks=>if (ks.once&&(U9 (A9 (G3 l at') 0).1 seen).isSome)=true then .error ((A9 (G3 l at') 0).2,13)else
     if ks.full T=true then .error ((A9 (G3 l at') 0).2,2)else
      G2 (ks.rd (G3 l at') (l.drop ((A9 (G3 l at') 0).2+(A9 (G3 l at') 0).1.length-at')) ((A9 (G3 l at') 0).2+(A9 (G3 l at') 0).1.length) T 1) fun(T',k)=>
       if (A9 (G3 l at') k).1=[]then .ok (T',GG (A9 (G3 l at') 0).1 tru seen)else .error ((A9 (G3 l at') k).2,12)
noncomputable def Fw:List By->Nat->Tn->List (By×Value)->Except Er (Tn×List (By×Value))
 | [],_,T,seen=> .ok (T,seen)
 |l::ls,at',T,seen=>G2 (CO l at' T seen) fun(T',seen')=>Fw ls (at'+(l.length+1)) T' seen'
def six:List By:=[[116,101,110,100,101,114],[108,111,116],[112,114,105,99,101],[102,111,114,109,117,108,97],[98,117,100,103,101,116],[116,105,109,101,115]]
noncomputable def DB (s:By):Except Er Tn:=G2 (Fw (I8 10 s) 0 T0 []) fun(T,seen)=>if six.all (fun w=>(U9 w seen).isSome)=true then .ok T else .error (s.length,12)
def Pl (l:By) (at':Nat):Prop:=u9 (G3 l at')/\∀ n,Gf (CE (l.drop n) (at'+n))
def xQ {ZL:St}{bt:Nat}(hb:bt<ZL.n) (hr:ZL.A7 bt=some (tnR T0 (fun _=> .slice none 0 0) [str [],.int .i64 0,.int .i64 0,str [],.slice none 0 0])) :
  Tp ZL ZL bt T0 (fun _=> .slice none 0 0) [str [],.int .i64 0,.int .i64 0,str [],.slice none 0 0] []:=by
 refine⟨.refl,hb,hr,fun i hi=>?_,fun i j c _ _ _ e=>(by cases e),⟨_,[],rfl,.inl ⟨rfl,rfl⟩,by simp,rfl⟩,trivial⟩
 match i,hi with
 |0,_=>exact OL.nil
 |1,_=>exact OL.nil
 |2,_=>exact OL.nil
 |3,_=>exact OL.nil
 |4,_=>exact OL.nil
def Tq {l:By}{at':Nat}(h:(A9 (G3 l at') 0).1≠[]):at'<=(A9 (G3 l at') 0).2/\(A9 (G3 l at') 0).2+(A9 (G3 l at') 0).1.length<=at'+l.length:=by
 have key:∀ (ws:List By) (k:Nat),(A9 (CA ws k++[([],k+lens ws-1)]) 0).1≠[]->k<=(A9 (CA ws k++[([],k+lens ws-1)]) 0).2/\(A9 (CA ws k++[([],k+lens ws-1)]) 0).2+(A9 (CA ws k++[([],k+lens ws-1)]) 0).1.length+1<=k+lens ws:=by
  intro ws;induction ws with
  |nil=>intro k h;exact absurd rfl h
  | cons w ws ih=>
    intro k h;by_cases hw:w=[]
    ·subst hw;have e:CA ([]::ws) k++[([],k+lens ([]::ws)-1)]=CA ws (k+1)++[([],(k+1)+lens ws-1)]:=by
      have:k+lens ([]::ws)-1=(k+1)+lens ws-1:=by simp[lens];omega
      rw[this];simp[CA]
     rw[e]at h ⊢;have:=ih (k+1) h;simp only[lens,JH];omega
    ·have e:A9 (CA (w::ws) k++[([],k+lens (w::ws)-1)]) 0=(w,k):=by simp[A9,CA,hw]
     rw[e];simp only[lens];omega
 have hl:=FE 32 l;have hk:=key (I8 32 l) at';rw[hl,show at'+(l.length+1)-1=at'+l.length by omega]at hk;have:=hk h;exact⟨this.1,by have:=this.2;show _+_<=_;exact Nat.le_of_succ_le_succ (by show _+1<=at'+l.length+1;exact this)⟩
section
variable {n:Nat}{T:Tn}{A1:List Tok}
structure Gg (n:Nat) (T:Tn):Prop where
 G8:T.G8.length<=n
 D2:T.D2.length<=n
 reqs:T.reqs.length<=n
 F5:T.F5.length<=n
 D6:T.D6.length<=n
def Gg.mono {m:Nat}(h:Gg n T) (hm:n<=m):Gg m T:=⟨X0 h.G8 hm,X0 h.D2 hm,X0 h.reqs hm,X0 h.F5 hm,X0 h.D6 hm⟩
def Gg.fits (h:Gg n T) (hn:n<=100000):Fits T:=⟨X0 h.G8 hn,X0 h.D2 hn,X0 h.reqs hn,X0 h.F5 hn,X0 h.D6 hn⟩
def kP (hn:12<=n):∀ (f:Nat) (T:Tn) (k:Nat) (T':Tn) (k':Nat),Gg n T->Rf A1 f T k= .ok (T',k')->Gg n T':=by
 intro f;induction f with
 |zero=>intro T k T' k' h e;cases e;exact h
 | succ f ih=>
   intro T k T' k' h e;rw[GU]at e;split at e
   ·split at e
    ·split at e
     ·cases e
     ·split at e
      ·rename_i hlt;refine ih { T with F5:=T.F5++[(A9 A1 k).1] } (k+1) _ _ ⟨h.G8,h.D2,h.reqs,?_,h.D6⟩ e;simp;omega
      ·cases e
    ·cases e
   ·cases e;exact h
def Yb:∀ (f:Nat) (T:Tn) (k:Nat) (T':Tn) (k':Nat),Gg n T->Dp A1 f T k= .ok (T',k')->Gg n T':=by
 intro f;induction f with
 |zero=>intro T k T' k' h e;cases e;exact h
 | succ f ih=>
   intro T k T' k' h e;rw[FX]at e;obtain⟨⟨m,k1⟩,h1,h2⟩:=C9 e;refine ih _ _ _ _ ?_ h2;unfold Y0;split<;>exact⟨h.G8,h.D2,h.reqs,h.F5,h.D6⟩
def dk {w:By}{ks:KS}(hk:kS w=some ks){tx:By}{fr:Nat}{T':Tn}{k k':Nat}(hn:12<=n) (h:Gg n T) (e:ks.rd A1 tx fr T k= .ok (T',k')):Gg (n+1) T':=by
 have hm:=h.mono (Ss n);by_cases h0:w=[116,101,110,100,101,114]
 ·subst h0;obtain rfl:=z8z (show some ((⟨true,fun _=>false,fun A1 _ _ T k=>Ad A1 T k⟩:KS))=some ks from hk);change Ad A1 T k=_ at e;unfold Ad at e;split at e<;>cases e;exact⟨hm.G8,hm.D2,hm.reqs,hm.F5,hm.D6⟩
 by_cases h1:w=[108,111,116]
 ·subst h1;obtain rfl:=z8z (show some ((⟨false,fun T=>decide (T.G8.length=12),fun A1 _ _ T k=>JX A1 T k⟩:KS))=some ks from hk);obtain⟨⟨a,k1⟩,h1,e⟩:=C9 (show JX A1 T k=_ from e);obtain⟨⟨b,k2⟩,h2,e⟩:=C9 e;obtain⟨⟨c,k3⟩,h3,e⟩:=C9 e;cases e;exact⟨by simp;exact h.G8,hm.D2,hm.reqs,hm.F5,hm.D6⟩
 by_cases h2:w=[99,114,105,116,101,114,105,111,110]
 ·subst h2;obtain rfl:=z8z (show some ((⟨false,fun T=>decide (T.D2.length=12),fun A1 _ _ T k=>S9 A1 T k⟩:KS))=some ks from hk);obtain⟨a,h1,e⟩:=C9 (show S9 A1 T k=_ from e);split at e
  ·cases e
  obtain⟨⟨b,k2⟩,h2,e⟩:=C9 e;obtain⟨⟨c,k3⟩,h3,e⟩:=C9 e;obtain⟨⟨d,k4⟩,h4,e⟩:=C9 e;cases e;exact⟨hm.G8,by simp;exact h.D2,hm.reqs,hm.F5,hm.D6⟩
 by_cases h3:w=[114,101,113,117,105,114,101]
 ·subst h3;obtain rfl:=z8z (show some ((⟨false,fun T=>decide (T.reqs.length=24),fun A1 _ _ T k=>AY A1 T k⟩:KS))=some ks from hk);obtain⟨a,h1,e⟩:=C9 (show AY A1 T k=_ from e);obtain⟨⟨b,k2⟩,h2,e⟩:=C9 e;obtain⟨⟨c,k3⟩,h3,e⟩:=C9 e;cases e;exact⟨hm.G8,hm.D2,by simp;exact h.reqs,hm.F5,hm.D6⟩
 by_cases h4:w=[112,114,105,99,101]
 ·subst h4;obtain rfl:=z8z (show some ((⟨true,fun _=>false,fun A1 _ _ T k=>Ep A1 T k⟩:KS))=some ks from hk);obtain⟨⟨a,k1⟩,h1,e⟩:=C9 (show Ep A1 T k=_ from e);obtain⟨⟨b,k2⟩,h2,e⟩:=C9 e;cases e;exact⟨hm.G8,hm.D2,hm.reqs,hm.F5,hm.D6⟩
 by_cases h5:w=[102,111,114,109,117,108,97]
 ·subst h5;obtain rfl:=z8z (show some ((⟨true,fun _=>false,fun A1 tx fr T k=>AZ A1 tx fr T k⟩:KS))=some ks from hk);obtain⟨a,h1,e⟩:=C9 (show AZ A1 tx fr T k=_ from e);cases e;exact⟨hm.G8,hm.D2,hm.reqs,hm.F5,hm.D6⟩
 by_cases h6:w=[116,105,101]
 ·subst h6;obtain rfl:=z8z (show some ((⟨true,fun _=>false,fun A1 _ _ T k=>HE A1 T k⟩:KS))=some ks from hk);exact(kP hn _ _ _ _ _ h (show HE A1 T k=_ from e)).mono (Ss n)
 by_cases h7:w=[109,111,115,116]
 ·subst h7;obtain rfl:=z8z (show some ((⟨true,fun _=>false,fun A1 _ _ T k=>Hl A1 T k⟩:KS))=some ks from hk);obtain⟨⟨a,k1⟩,h1,e⟩:=C9 (show Hl A1 T k=_ from e);cases e;exact⟨hm.G8,hm.D2,hm.reqs,hm.F5,hm.D6⟩
 by_cases h8:w=[99,111,109,98,111]
 ·subst h8;obtain rfl:=z8z (show some ((⟨false,fun T=>decide (T.D6.length=12),fun A1 _ _ T k=>DA A1 T k⟩:KS))=some ks from hk);obtain⟨⟨a,k1⟩,h1,e⟩:=C9 (show DA A1 T k=_ from e);cases e;exact⟨hm.G8,hm.D2,hm.reqs,hm.F5,by simp;exact h.D6⟩
 by_cases h9:w=[98,117,100,103,101,116]
 ·subst h9;obtain rfl:=z8z (show some ((⟨true,fun _=>false,fun A1 _ _ T k=>Cg A1 T k⟩:KS))=some ks from hk);obtain⟨⟨a,k1⟩,h1,e⟩:=C9 (show Cg A1 T k=_ from e);cases e;exact⟨hm.G8,hm.D2,hm.reqs,hm.F5,hm.D6⟩
 by_cases h10:w=[116,105,109,101,115]
 ·subst h10;obtain rfl:=z8z (show some ((⟨true,fun _=>false,fun A1 _ _ T k=>DR A1 T k⟩:KS))=some ks from hk);exact(Yb _ _ _ _ _ h (show DR A1 T k=_ from e)).mono (Ss n)
 unfold kS at hk;simp only[z0z h0,z0z h1,z0z h2,z0z h3,z0z h4,z0z h5,z0z h6,z0z h7,z0z h8,z0z h9,z0z h10]at hk;cases hk
end
end Go.Proofs.T
