/- yQ with keys AO are texts; the kinds of lines. -/
import Derived.Test.YtbcanmagihejhaaGreatDoorTG
set_option linter.unusedSimpArgs false
set_option linter.unusedVariables false
set_option maxHeartbeats 32000000
set_option maxRecDepth 100000
namespace Go.Proofs.T
open Go Go.Ab
open Nat (reduceMul reduceEqDiff reduceAdd)
def Gc (kv:List (By×Value)):List Value:=(kv.map fun p=>[str p.1,p.2]).flatten
def Y1 (w:By):List (By×Value)->Option Value
 | []=>none
 | (k,v)::l=>if w=k then some v else Y1 w l
def CN (w:By) (x:Value):List (By×Value)->List (By×Value)
 | []=>[(w,x)]
 | (k,v)::l=>if w=k then (w,x)::l else (k,v)::CN w x l
theorem QR {a b:By}:IJ (str a) (str b)=some (decide (a=b)):=by
 show some (Iq a b)=_;rw [Nz];congr 1;rw [Bool.eq_iff_iff];simp
theorem BZ {w k:By}{v:Value}{l:List (By×Value)}:Y1 w ((k,v)::l)=if w=k then some v else Y1 w l:=rfl
theorem Ik {w k:By}{x v:Value}{l:List (By×Value)}:CN w x ((k,v)::l)=if w=k then (w,x)::l else (k,v)::CN w x l:=rfl
theorem Yg {w:By}:∀ kv:List (By×Value),MB (str w) (Gc kv)=some (Y1 w kv)
 | []=>rfl
 | (k,v)::l=>by
   show ob (IJ (str w) (str k)) (fun s=>bi s (some (some v)) (MB (str w) (Gc l)))=_;rw [QR,C6,Yg l];rw [BZ];by_cases h:w=k
   ·rw [if_pos h,decide_eq_true h];rfl
   ·rw [if_neg h,decide_eq_false h];rfl
theorem Yh {w:By}{x:Value}:∀ kv:List (By×Value),Jt (str w) x (Gc kv)=some (Gc (CN w x kv))
 | []=>rfl
 | (k,v)::l=>by
   show ob (IJ (str w) (str k)) (fun s=>bi s (some (str w::x::Gc l)) (ob (Jt (str w) x (Gc l)) fun r=>some (str k::v::r)))=_;rw [QR,C6,Yh l];rw [Ik];by_cases h:w=k
   ·rw [if_pos h,decide_eq_true h];rfl
   ·rw [if_neg h,decide_eq_false h];rfl
def BS (Z:St) (b:Nat) (kv:List (By×Value)):Prop:=∃ ver,Z.h.get b=some ⟨Gc kv,true,true,ver,.map⟩
noncomputable def FY (Z:St) (b:Nat) (cs:List Value):St:=⟨Z.h.set b ⟨cs,true,true,(Z.ver b)+1,.map⟩,Z.n⟩
section
variable {Z Z':St} {b:Nat} {kv:List (By×Value)}
theorem BS.ext (h:BS Z b kv) (hb:b<Z.n) (hE:Ext Z Z'):BS Z' b kv:=let ⟨v,h⟩:=h;⟨v,by rw [hE.same b hb];exact h⟩
theorem BS.W7 {p:Nat}(h:BS Z b kv) (hb:b<Z.n) (hE:C5 p Z Z') (hp:b≠p):BS Z' b kv:=let ⟨v,h⟩:=h;⟨v,by rw [hE.same b hb hp];exact h⟩
@[simp] theorem gz {cs:List Value}:(FY Z b cs).n=Z.n:=rfl
theorem BL {kv':List (By×Value)}:BS (FY Z b (Gc kv')) b kv':=⟨_,Tr.get_set_same _ _ _⟩
theorem o6 {c:Nat}{cs:List Value}(h:c≠b):(FY Z b cs).h.get c=Z.h.get c:=Tr.I2 _ _ h
theorem Yi:BS (Z.Dz [] .map) Z.n []:=⟨0,Tr.get_set_same _ _ _⟩
theorem OQ {Z0:St}(h:Ext Z0 Z) (hb:Z0.n<=b){cs:List Value}:Ext Z0 (FY Z b cs):=⟨h.n,fun c hc=>by rw [o6 om];exact h.same c hc⟩
theorem BS.blk (h:BS Z b kv):∃ ver,Z.Oh b=some ⟨Gc kv,true,true,ver,.map⟩/\ver=Z.ver b:=by
 obtain ⟨v,h⟩:=h;refine ⟨v,?_,?_⟩
 ·show ob (ob (Z.h.get b) _) _=_;rw [h];rfl
 ·unfold St.ver;rw [h]
theorem AD {P:Program}{fr:Fr}{t kt et:TypeId}{m k x:Operand}{w:By}{xv:Value}{Q:Value×St->Prop}{uq:Hd Q}(hT:Ft P t=some (kt,et)) (hK:∀ s,Bt (P.underlying kt) (str s)=true)
  (hm:ev fr m=some (.map (some b))) (hk:ev fr k=some (str w)) (hx:ev fr x=some xv) (hB:BS Z b kv) (h:Q (O8,FY Z b (Gc (CN w xv kv)))):Ev (U0 P fr Z t m k x) Q uq:=by
 obtain ⟨ver,h1,h2⟩:=hB.blk;refine ⟨_,?_,h⟩;unfold U0;rw [hT,C6,Hu,hm,C6];show ob (some (some b)) _=_;rw [C6,C6,hk,C6,hK,j0,hx,C6,h1,C6,Yh,C6];show ob (ob (Z.Oh b) _) _=_;rw [h1];subst h2;rfl
theorem Rz {P:Program}{fr:Fr}{t kt et:TypeId}{m k:Operand}{w:By}{z:Value}{ok:Bool}{Q:Value×St->Prop}{uq:Hd Q}(hT:Ft P t=some (kt,et)) (hK:∀ s,Bt (P.underlying kt) (str s)=true) (hz:y7 P et=some z)
  (hm:ev fr m=some (.map (some b))) (hk:ev fr k=some (str w)) (hB:BS Z b kv)
  (h:Q (bi ok (.tuple ⟨[(Y1 w kv).getD z,.bool (Y1 w kv).isSome]⟩) ((Y1 w kv).getD z),Z)):Ev (Bn P fr Z t m k ok) Q uq:=by
 obtain ⟨ver,h1,h2⟩:=hB.blk;refine ⟨_,?_,h⟩;unfold Bn;rw [hT,C6,Hu,hm,C6];show ob (some (some b)) _=_;rw [C6,hk,C6,hK,j0];show ob (ob (Z.Oh b) _) _=_;rw [h1,C6,C6];show ob (MB (str w) (Gc kv)) _=_;rw [Yg,C6];cases Y1 w kv with
 | none=>show ob (ob (y7 P et) _) _=_;rw [hz];rfl
 | some v=>rfl
end
theorem Mb:Ft Tryz.prog 127=some (9,4):=by kernel_rfl
theorem CH:Ft Tryz.prog 128=some (9,143):=by kernel_rfl
theorem Hl (s:By):Bt ((Tryz.prog).underlying 9) (str s)=true:=by kernel_rfl
theorem hZ {fr:Fr}:ev fr (.const (.map none))=some (.map none):=rfl
theorem emk {fr:Fr}{Z:St}:DZ fr Z none=some (.map (some Z.n),Z.Dz [] .map):=rfl
def Fv (g:Nat) (once:Bool) (full:Nat):Value:= .agg ⟨[.func (.func g) ⟨[]⟩ ⟨[]⟩,.bool once,.func (.func full) ⟨[]⟩ ⟨[]⟩]⟩
def K7:List (By×Value):=[
 ([116,101,110,100,101,114],Fv 114 true 113),
 ([108,111,116],Fv 115 false 116),
 ([99,114,105,116,101,114,105,111,110],Fv 117 false 118),
 ([114,101,113,117,105,114,101],Fv 119 false 120),
 ([112,114,105,99,101],Fv 121 true 113),
 ([102,111,114,109,117,108,97],Fv 122 true 113),
 ([116,105,101],Fv 123 true 113),
 ([109,111,115,116],Fv 124 true 113),
 ([99,111,109,98,111],Fv 125 false 126),
 ([98,117,100,103,101,116],Fv 127 true 113),
 ([116,105,109,101,115],Fv 128 true 113)]
theorem iA {Z:St}:Ev (go Tryz.prog HS (.fn 70) [] Z) (fun r=>∃ Z',r=⟨false,.map (some Z.n),Z'⟩/\Ext Z Z'/\Z.n<Z'.n/\BS Z' Z.n K7) ⟨⟩:=by
 refine D7 Tryz.func70 rfl rfl ?_;refine gS1 (aI @hZ @emk) ?_;refine AD (b:=Z.n) (kv:=K7.take 0) (w:=(K7.getD 0 ([],.nilIface)).1) (xv:=(K7.getD 0 ([],.nilIface)).2) CH Hl (by kernel_rfl) (by kernel_rfl) (by kernel_rfl) Yi ?_;refine gS1 @emk ?_;refine AD (b:=Z.n) (kv:=K7.take 1) (w:=(K7.getD 1 ([],.nilIface)).1) (xv:=(K7.getD 1 ([],.nilIface)).2) CH Hl (by kernel_rfl) (by kernel_rfl) (by kernel_rfl) BL ?_;refine gS1 @emk ?_;refine AD (b:=Z.n) (kv:=K7.take 2) (w:=(K7.getD 2 ([],.nilIface)).1) (xv:=(K7.getD 2 ([],.nilIface)).2) CH Hl (by kernel_rfl) (by kernel_rfl) (by kernel_rfl) BL ?_;refine gS1 @emk ?_;refine AD (b:=Z.n) (kv:=K7.take 3) (w:=(K7.getD 3 ([],.nilIface)).1) (xv:=(K7.getD 3 ([],.nilIface)).2) CH Hl (by kernel_rfl) (by kernel_rfl) (by kernel_rfl) BL ?_;refine gS1 @emk ?_;refine AD (b:=Z.n) (kv:=K7.take 4) (w:=(K7.getD 4 ([],.nilIface)).1) (xv:=(K7.getD 4 ([],.nilIface)).2) CH Hl (by kernel_rfl) (by kernel_rfl) (by kernel_rfl) BL ?_;refine gS1 @emk ?_;refine AD (b:=Z.n) (kv:=K7.take 5) (w:=(K7.getD 5 ([],.nilIface)).1) (xv:=(K7.getD 5 ([],.nilIface)).2) CH Hl (by kernel_rfl) (by kernel_rfl) (by kernel_rfl) BL ?_;refine gS1 @emk ?_;refine AD (b:=Z.n) (kv:=K7.take 6) (w:=(K7.getD 6 ([],.nilIface)).1) (xv:=(K7.getD 6 ([],.nilIface)).2) CH Hl (by kernel_rfl) (by kernel_rfl) (by kernel_rfl) BL ?_;refine gS1 @emk ?_;refine AD (b:=Z.n) (kv:=K7.take 7) (w:=(K7.getD 7 ([],.nilIface)).1) (xv:=(K7.getD 7 ([],.nilIface)).2) CH Hl (by kernel_rfl) (by kernel_rfl) (by kernel_rfl) BL ?_;refine gS1 @emk ?_;refine AD (b:=Z.n) (kv:=K7.take 8) (w:=(K7.getD 8 ([],.nilIface)).1) (xv:=(K7.getD 8 ([],.nilIface)).2) CH Hl (by kernel_rfl) (by kernel_rfl) (by kernel_rfl) BL ?_;refine gS1 @emk ?_;refine AD (b:=Z.n) (kv:=K7.take 9) (w:=(K7.getD 9 ([],.nilIface)).1) (xv:=(K7.getD 9 ([],.nilIface)).2) CH Hl (by kernel_rfl) (by kernel_rfl) (by kernel_rfl) BL ?_;refine gS1 @emk ?_;refine AD (b:=Z.n) (kv:=K7.take 10) (w:=(K7.getD 10 ([],.nilIface)).1) (xv:=(K7.getD 10 ([],.nilIface)).2) CH Hl (by kernel_rfl) (by kernel_rfl) (by kernel_rfl) BL ?_;refine gS1 (aI @emk @Tryz.results70) ?_;exact ⟨_,rfl,(OQ (OQ (OQ (OQ (OQ (OQ (OQ (OQ (OQ (OQ (OQ ((Ext.refl Z).Dz [] .map) (Nat.le_refl _)) (Nat.le_refl _)) (Nat.le_refl _)) (Nat.le_refl _)) (Nat.le_refl _)) (Nat.le_refl _)) (Nat.le_refl _)) (Nat.le_refl _)) (Nat.le_refl _)) (Nat.le_refl _)) (Nat.le_refl _)),by simp,BL (kv':=K7)⟩
structure KS where
 once:Bool
 full:Tn->Bool
 rd:List Tok->By->Nat->Tn->Nat->Except Er (Tn×Nat)
noncomputable def kS (w:By):Option KS :=
 if w=[116,101,110,100,101,114] then some ⟨true,fun _=>false,fun toks _ _ T k=>FM toks T k⟩ else
 if w=[108,111,116] then some ⟨false,fun T=>decide (T.D2.length=12),fun toks _ _ T k=>Wg toks T k⟩ else
 if w=[99,114,105,116,101,114,105,111,110] then some ⟨false,fun T=>decide (T.C7.length=12),fun toks _ _ T k=>CL toks T k⟩ else
 if w=[114,101,113,117,105,114,101] then some ⟨false,fun T=>decide (T.reqs.length=24),fun toks _ _ T k=>En toks T k⟩ else
 if w=[112,114,105,99,101] then some ⟨true,fun _=>false,fun toks _ _ T k=>Ix toks T k⟩ else
 if w=[102,111,114,109,117,108,97] then some ⟨true,fun _=>false,fun toks tx fr T k=>EM toks tx fr T k⟩ else
 if w=[116,105,101] then some ⟨true,fun _=>false,fun toks _ _ T k=>Rn toks T k⟩ else
 if w=[109,111,115,116] then some ⟨true,fun _=>false,fun toks _ _ T k=>OE toks T k⟩ else
 if w=[99,111,109,98,111] then some ⟨false,fun T=>decide (T.C3.length=12),fun toks _ _ T k=>Iy toks T k⟩ else
 if w=[98,117,100,103,101,116] then some ⟨true,fun _=>false,fun toks _ _ T k=>GM toks T k⟩ else
 if w=[116,105,109,101,115] then some ⟨true,fun _=>false,fun toks _ _ T k=>GN toks T k⟩ else none
section
variable {Z ZL:St} {bt bx:Nat} {T:Tn} {tv:Value} {toks:List Tok} {k:Nat} {rest:List Value} {v:Nat->Value} {fc vs:List Value}
theorem je {Z:St}{b:Value}:Ev (go Tryz.prog HS (.fn 113) [b] Z) (fun r=>r=⟨false,.bool false,Z⟩) ⟨⟩:=by
 refine D7 Tryz.func113 rfl rfl ?_;refine gS1 @Tryz.results113 ?_;try exact ⟨⟩
theorem cJ (h:Ln ZL Z bt bx T tv toks k rest v fc vs):Ev (go Tryz.prog HS (.fn 116) [.pointer (some ⟨bt,0,none⟩)] Z) (fun r=>r=⟨false,.bool (decide (T.D2.length=12)),Z⟩) ⟨⟩:=by
 have ht:=A8 h.row;obtain ⟨c1,c2,c3,c4,c5,rfl⟩:=fc5 h.fx;unfold tnR T3 at ht;obtain ⟨a,ha⟩:=OL.shape (h.sl 0 om);rw [show (BQ T vs 0).length=T.D2.length from List.length_map ..] at ha;rw [ha] at ht;have e:decide (((T.D2.length:Nat):Int)=12)=decide (T.D2.length=12):=by rw [Bool.eq_iff_iff,decide_eq_true_iff,decide_eq_true_iff];omega
 refine D7 Tryz.func116 rfl rfl ?_;refine gS1 (a3N @ht @e @Tryz.results116) ?_;try exact ⟨⟩
theorem XU (h:Ln ZL Z bt bx T tv toks k rest v fc vs):Ev (go Tryz.prog HS (.fn 118) [.pointer (some ⟨bt,0,none⟩)] Z) (fun r=>r=⟨false,.bool (decide (T.C7.length=12)),Z⟩) ⟨⟩:=by
 have ht:=A8 h.row;obtain ⟨c1,c2,c3,c4,c5,rfl⟩:=fc5 h.fx;unfold tnR T3 at ht;obtain ⟨a,ha⟩:=OL.shape (h.sl 1 om);rw [show (BQ T vs 1).length=T.C7.length from List.length_map ..] at ha;rw [ha] at ht;have e:decide (((T.C7.length:Nat):Int)=12)=decide (T.C7.length=12):=by rw [Bool.eq_iff_iff,decide_eq_true_iff,decide_eq_true_iff];omega
 refine D7 Tryz.func118 rfl rfl ?_;refine gS1 (a3N @ht @e @Tryz.results118) ?_;try exact ⟨⟩
theorem cK (h:Ln ZL Z bt bx T tv toks k rest v fc vs):Ev (go Tryz.prog HS (.fn 120) [.pointer (some ⟨bt,0,none⟩)] Z) (fun r=>r=⟨false,.bool (decide (T.reqs.length=24)),Z⟩) ⟨⟩:=by
 have ht:=A8 h.row;obtain ⟨c1,c2,c3,c4,c5,rfl⟩:=fc5 h.fx;unfold tnR T3 at ht;obtain ⟨a,ha⟩:=OL.shape (h.sl 2 om);rw [show (BQ T vs 2).length=T.reqs.length from List.length_map ..] at ha;rw [ha] at ht;have e:decide (((T.reqs.length:Nat):Int)=24)=decide (T.reqs.length=24):=by rw [Bool.eq_iff_iff,decide_eq_true_iff,decide_eq_true_iff];omega
 refine D7 Tryz.func120 rfl rfl ?_;refine gS1 (a3N @ht @e @Tryz.results120) ?_;try exact ⟨⟩
theorem VE (h:Ln ZL Z bt bx T tv toks k rest v fc vs):Ev (go Tryz.prog HS (.fn 126) [.pointer (some ⟨bt,0,none⟩)] Z) (fun r=>r=⟨false,.bool (decide (T.C3.length=12)),Z⟩) ⟨⟩:=by
 have ht:=A8 h.row;obtain ⟨c1,c2,c3,c4,c5,rfl⟩:=fc5 h.fx;unfold tnR T3 at ht;obtain ⟨a,ha⟩:=OL.shape (h.sl 4 om);rw [show (BQ T vs 4).length=vs.length from List.length_map ..] at ha;rw [h.iv.len] at ha;rw [ha] at ht;have e:decide (((T.C3.length:Nat):Int)=12)=decide (T.C3.length=12):=by rw [Bool.eq_iff_iff,decide_eq_true_iff,decide_eq_true_iff];omega
 refine D7 Tryz.func126 rfl rfl ?_;refine gS1 (a3N @ht @e @Tryz.results126) ?_;try exact ⟨⟩
end
structure Fits (T:Tn):Prop where
 D2:T.D2.length<=100000
 C7:T.C7.length<=100000
 reqs:T.reqs.length<=100000
 E9:T.E9.length<=100000
 C3:T.C3.length<=100000
def jg (f:Nat) (ks:KS):Prop:=∀ (ZL Z:St) (bt bx:Nat) (T:Tn) (tv:Value) (toks:List Tok) (k:Nat) (rest:List Value) (v:Nat->Value) (fc vs:List Value),Ln ZL Z bt bx T tv toks k rest v fc vs ->
 Ev (go Tryz.prog HS (.fn f) [.pointer (some ⟨bt,0,none⟩)] Z) (fun r=>r=⟨false,.bool (ks.full T),Z⟩) ⟨⟩
def wT (g:Nat) (ks:KS):Prop:=∀ (ZL Z:St) (bt bx:Nat) (T:Tn) (tv:Value) (toks:List Tok) (k:Nat) (tx:By) (from':Nat) (v:Nat->Value) (fc vs:List Value),Ln ZL Z bt bx T tv toks k (M4 tx from' bt) v fc vs->Ends toks->Db toks->Fits T ->
 tx.length<10000000->from'<10000000->Ends (Cr tx from')->Gu (Cr tx from')->Ev (go Tryz.prog HS (.fn g) [.pointer (some ⟨bx,0,none⟩)] Z) (LnP ZL bt bx tv toks (M4 tx from' bt) (ks.rd toks tx from' T k)) ⟨⟩
theorem CM {ks:KS}(h:ks.full=fun _=>false):jg 113 ks:=by
 intro ZL Z bt bx T tv toks k rest v fc vs hL;rw [h];exact je
theorem bX (w:By):(Y1 w K7=none/\kS w=none)\/∃ g f ks,Y1 w K7=some (Fv g ks.once f)/\kS w=some ks/\jg f ks/\wT g ks:=by
 by_cases h1:w=[116,101,110,100,101,114]
 ·subst h1;exact .inr ⟨_,_,_,rfl,rfl,CM rfl,fun _ _ _ _ _ _ _ _ _ _ _ _ _ hL he hs hf _ _ _ _=>bf hL he hs⟩
 by_cases h2:w=[108,111,116]
 ·subst h2;exact .inr ⟨_,_,_,rfl,rfl,fun _ _ _ _ _ _ _ _ _ _ _ _ hL=>cJ hL,fun _ _ _ _ _ _ _ _ _ _ _ _ _ hL he hs hf _ _ _ _=>uZ hL he hs hf.D2⟩
 by_cases h3:w=[99,114,105,116,101,114,105,111,110]
 ·subst h3;exact .inr ⟨_,_,_,rfl,rfl,fun _ _ _ _ _ _ _ _ _ _ _ _ hL=>XU hL,fun _ _ _ _ _ _ _ _ _ _ _ _ _ hL he hs hf _ _ _ _=>Rl hL he hs hf.C7⟩
 by_cases h4:w=[114,101,113,117,105,114,101]
 ·subst h4;exact .inr ⟨_,_,_,rfl,rfl,fun _ _ _ _ _ _ _ _ _ _ _ _ hL=>cK hL,fun _ _ _ _ _ _ _ _ _ _ _ _ _ hL he hs hf _ _ _ _=>XL hL he hs hf.reqs⟩
 by_cases h5:w=[112,114,105,99,101]
 ·subst h5;exact .inr ⟨_,_,_,rfl,rfl,CM rfl,fun _ _ _ _ _ _ _ _ _ _ _ _ _ hL he hs hf _ _ _ _=>iX hL he hs⟩
 by_cases h6:w=[102,111,114,109,117,108,97]
 ·subst h6;exact .inr ⟨_,_,_,rfl,rfl,CM rfl,fun _ _ _ _ _ _ _ _ _ _ _ _ _ hL he hs hf g1 g2 g3 g4=>dF hL g1 g2 g3 g4⟩
 by_cases h7:w=[116,105,101]
 ·subst h7;exact .inr ⟨_,_,_,rfl,rfl,CM rfl,fun _ _ _ _ _ _ _ _ _ _ _ _ _ hL he hs hf _ _ _ _=>uX hL he hs hf.E9⟩
 by_cases h8:w=[109,111,115,116]
 ·subst h8;exact .inr ⟨_,_,_,rfl,rfl,CM rfl,fun _ _ _ _ _ _ _ _ _ _ _ _ _ hL he hs hf _ _ _ _=>oK hL he hs⟩
 by_cases h9:w=[99,111,109,98,111]
 ·subst h9;exact .inr ⟨_,_,_,rfl,rfl,fun _ _ _ _ _ _ _ _ _ _ _ _ hL=>VE hL,fun _ _ _ _ _ _ _ _ _ _ _ _ _ hL he hs hf _ _ _ _=>jN hL he hs (by rw [hL.iv.len];exact hf.C3)⟩
 by_cases h10:w=[98,117,100,103,101,116]
 ·subst h10;exact .inr ⟨_,_,_,rfl,rfl,CM rfl,fun _ _ _ _ _ _ _ _ _ _ _ _ _ hL he hs hf _ _ _ _=>bg hL he hs⟩
 by_cases h11:w=[116,105,109,101,115]
 ·subst h11;exact .inr ⟨_,_,_,rfl,rfl,CM rfl,fun _ _ _ _ _ _ _ _ _ _ _ _ _ hL he hs hf _ _ _ _=>gh hL he hs⟩
 left;constructor
 ·unfold K7;simp only [BZ,if_neg h1,if_neg h2,if_neg h3,if_neg h4,if_neg h5,if_neg h6,if_neg h7,if_neg h8,if_neg h9,if_neg h10,if_neg h11];rfl
 ·unfold kS;simp only [if_neg h1,if_neg h2,if_neg h3,if_neg h4,if_neg h5,if_neg h6,if_neg h7,if_neg h8,if_neg h9,if_neg h10,if_neg h11]
end Go.Proofs.T
namespace Go.Proofs.T
open Go Go.Ab
def Ho (bt:Nat) (v:Nat->Value):List Nat:=List.range bt++bt::(Lu (v 0)++Lu (v 1)++Lu (v 2)++Lu (v 3)++Lu (v 4))
theorem Mg {bt bx c:Nat}{v:Nat->Value}:c∈held bt bx v↔c=bx\/c∈Ho bt v:=by
 unfold held Ho;rw [List.mem_append,List.mem_append,List.mem_cons,List.mem_cons,List.mem_cons];constructor
 ·rintro (h|h|h|h)
  ·exact .inr (.inl h)
  ·exact .inr (.inr (.inl h))
  ·exact .inl h
  ·exact .inr (.inr (.inr h))
 ·rintro (h|h|h|h)
  ·exact .inr (.inr (.inl h))
  ·exact .inl h
  ·exact .inr (.inl h)
  ·exact .inr (.inr (.inr h))
structure Tp (ZL Z:St) (bt:Nat) (T:Tn) (v:Nat->Value) (fc vs:List Value):Prop where
 ext:C5 bt ZL Z
 btl:bt<ZL.n
 row:Z.A5 bt=some (tnR T v fc)
 sl:∀ i,i<5->OL ZL.n Z (szT i) (v i) (BQ T vs i)
 dis:∀ i j c,i<5->j<5->i≠j->K8 (v i)=some c->K8 (v j)≠some c
 fx:Ah (H6 Z (Ho bt v)) fc T.f
 iv:CB (Ca (H6 Z (Ho bt v))) vs T.C3
section
variable {ZL Z Z':St} {bt bx:Nat} {T:Tn} {tv:Value} {toks:List Tok} {k:Nat} {rest:List Value} {v:Nat->Value} {fc vs:List Value}
theorem Ln.tp (h:Ln ZL Z bt bx T tv toks k rest v fc vs):Tp ZL Z bt T v fc vs:=by
 have hk:o0 (H6 Z (held bt bx v)) (H6 Z (Ho bt v)):=I5 (Nat.le_refl _) fun c _ hm=>⟨fun hm'=>hm (Mg.2 (.inr hm')),rfl⟩
 exact ⟨h.ext,h.btl,h.row,h.sl,h.dis,h.fx.E8 hk,h.iv.mono fun _ _ hx=>SL.E8 hx hk⟩
theorem Tp.ext' (h:Tp ZL Z bt T v fc vs) (hE:Ext Z Z'):Tp ZL Z' bt T v fc vs :=
 ⟨h.ext.trans (.of hE),h.btl,by rw [A6 (hE.same bt (Nat.lt_of_lt_of_le h.btl h.ext.n))];exact h.row,fun i hi=>OL.ext (h.sl i hi) hE,h.dis,h.fx.E8 (DP hE),h.iv.mono fun _ _ hx=>SL.E8 hx (DP hE)⟩
theorem Tp.ln {Z0:St}(h:Tp ZL Z0 bt T v fc vs) (hE:Ext Z0 Z) (hbx:Z0.n<=bx) (hs:Sc Z bx tv toks k rest) (htk:∀ c,K8 tv=some c->Z0.n<=c):Ln ZL Z bt bx T tv toks k rest v fc vs:=by
 have h':=h.ext' hE;have hk:o0 (H6 Z0 (Ho bt v)) (H6 Z (held bt bx v)):=I5 hE.n fun c hc hm=>⟨fun hm'=>by
  rcases Mg.1 hm' with e|e
  ·omega
  ·exact hm e,hE.row hc⟩
 have hn:=h.ext.n;refine ⟨h'.ext,h.btl,om,h'.row,h'.sl,h.dis,fun i hi e=>?_,h.fx.E8 hk,h.iv.mono fun _ _ hx=>SL.E8 hx hk,hs,fun c hc=>⟨fun e=>?_,fun i hi e=>?_⟩⟩
 ·have:=((h.sl i hi).blk e).2;omega
 ·have:=htk c hc;have:=h.btl;omega
 ·have:=htk c hc;have:=((h.sl i hi).blk e).2;omega
theorem Tp.seen {ms:Nat}{kv kv':List (By×Value)}(h:Tp ZL Z bt T v fc vs) (hm:BS Z ms kv) (hl:ms<ZL.n) (hne:ms≠bt):Tp (FY ZL ms (Gc kv')) (FY Z ms (Gc kv')) bt T v fc vs:=by
 have hr:Z.row ms=none:=by
  obtain ⟨ver,hg⟩:=hm;show ob (Z.BE ms) _=_;unfold St.BE St.blk;rw [hg];rfl
 have hr':(FY Z ms (Gc kv')).row ms=none:=by
  obtain ⟨ver,hg⟩:=BL (Z:=Z) (b:=ms) (kv':=kv');show ob ((FY Z ms (Gc kv')).BE ms) _=_;unfold St.BE St.blk;rw [hg];rfl
 have hk:o0 (H6 Z (Ho bt v)) (H6 (FY Z ms (Gc kv')) (Ho bt v)):=I5 (Nat.le_refl _) fun c _ hc=>⟨hc,by
  by_cases e:c=ms
  ·rw [e,hr,hr']
  ·exact O4 (o6 e)⟩
 refine ⟨⟨h.ext.n,fun c hc hcb=>?_⟩,h.btl,by rw [A6 (o6 (fun e=>hne e.symm))];exact h.row,fun i hi=>(h.sl i hi).E8 (Nat.le_refl _) fun c hc=>o6 (by have:=((h.sl i hi).blk hc).1;omega),h.dis,h.fx.E8 hk,h.iv.mono fun _ _ hx=>SL.E8 hx hk⟩;by_cases e:c=ms
 ·subst e;have hg:=h.ext.same c hc hcb;show (Tr.set _ _ _).get c=(Tr.set _ _ _).get c;rw [Tr.get_set_same,Tr.get_set_same];unfold St.ver;rw [hg]
 ·rw [o6 e,o6 e];exact h.ext.same c hc hcb
end
theorem Ux {l:List Tok}{n:Nat}:Ends (l++[([],n)]):=by
 intro k t h hne;rcases Nat.lt_or_ge k l.length with hk|hk
 ·simp;omega
 ·rw [List.getElem?_append_right hk] at h;cases hz:k-l.length with
  | zero=>rw [hz] at h;cases h;exact absurd rfl hne
  | succ j=>rw [hz] at h;simp at h
theorem Hc {s:By}{k:Nat}:Ends (C4 s k):=Ux
theorem OS {s:By}{k:Nat}:Ends (Cr s k):=Ux
def T0:Tn:=⟨[],[],[],[],0,0,.mk [] 0 0 [] [],[],0,[],0,⟨0,0,0,0,0⟩⟩
def tru:Value:= .bool true
noncomputable def Dy (l:By) (at':Nat) (T:Tn) (seen:List (By×Value)):Except Er (Tn×List (By×Value)) :=
 if (A9 (C4 l at') 0).1=[] then .ok (T,seen) else
  match kS (A9 (C4 l at') 0).1 with
  | none=> .error ((A9 (C4 l at') 0).2,12)
  | some ks=>if (ks.once&&(Y1 (A9 (C4 l at') 0).1 seen).isSome)=true then .error ((A9 (C4 l at') 0).2,13) else
     if ks.full T=true then .error ((A9 (C4 l at') 0).2,2) else
      Q9 (ks.rd (C4 l at') (l.drop ((A9 (C4 l at') 0).2+(A9 (C4 l at') 0).1.length-at')) ((A9 (C4 l at') 0).2+(A9 (C4 l at') 0).1.length) T 1) fun (T',k) =>
       if (A9 (C4 l at') k).1=[] then .ok (T',CN (A9 (C4 l at') 0).1 tru seen) else .error ((A9 (C4 l at') k).2,12)
noncomputable def BB:List By->Nat->Tn->List (By×Value)->Except Er (Tn×List (By×Value))
 | [],_,T,seen=> .ok (T,seen)
 | l::ls,at',T,seen=>Q9 (Dy l at' T seen) fun (T',NP)=>BB ls (at'+(l.length+1)) T' NP
def six:List By:=[[116,101,110,100,101,114],[108,111,116],[112,114,105,99,101],[102,111,114,109,117,108,97],[98,117,100,103,101,116],[116,105,109,101,115]]
noncomputable def Cj (s:By):Except Er Tn:=Q9 (BB (I3 10 s) 0 T0 []) fun (T,seen)=>if six.all (fun w=>(Y1 w seen).isSome)=true then .ok T else .error (s.length,12)
def Kc (l:By) (at':Nat):Prop:=Db (C4 l at')/\∀ n,Gu (Cr (l.drop n) (at'+n))
theorem oE {ZL:St}{bt:Nat}(hb:bt<ZL.n) (hr:ZL.A5 bt=some (tnR T0 (fun _=> .slice none 0 0) [str [],.int .i64 0,.int .i64 0,str [],.slice none 0 0])) :
  Tp ZL ZL bt T0 (fun _=> .slice none 0 0) [str [],.int .i64 0,.int .i64 0,str [],.slice none 0 0] []:=by
 refine ⟨.refl,hb,hr,fun i hi=>?_,fun i j c _ _ _ e=>(by cases e),⟨_,[],rfl,.inl ⟨rfl,rfl⟩,by simp,rfl⟩,trivial⟩
 match i,hi with
 | 0,_=>exact OL.nil
 | 1,_=>exact OL.nil
 | 2,_=>exact OL.nil
 | 3,_=>exact OL.nil
 | 4,_=>exact OL.nil
theorem QU {l:By}{at':Nat}(h:(A9 (C4 l at') 0).1≠[]):at'<=(A9 (C4 l at') 0).2/\(A9 (C4 l at') 0).2+(A9 (C4 l at') 0).1.length<=at'+l.length:=by
 have key:∀ (ws:List By) (k:Nat),(A9 (AE ws k++[([],k+lens ws-1)]) 0).1≠[]->k<=(A9 (AE ws k++[([],k+lens ws-1)]) 0).2/\(A9 (AE ws k++[([],k+lens ws-1)]) 0).2+(A9 (AE ws k++[([],k+lens ws-1)]) 0).1.length+1<=k+lens ws:=by
  intro ws;induction ws with
  | nil=>intro k h;exact absurd rfl h
  | cons w ws ih =>
    intro k h;by_cases hw:w=[]
    ·subst hw;have e:AE ([]::ws) k++[([],k+lens ([]::ws)-1)]=AE ws (k+1)++[([],(k+1)+lens ws-1)]:=by
      have:k+lens ([]::ws)-1=(k+1)+lens ws-1:=by simp [lens];omega
      rw [this];simp [AE]
     rw [e] at h ⊢;have:=ih (k+1) h;simp only [lens,List.length_nil];omega
    ·have e:A9 (AE (w::ws) k++[([],k+lens (w::ws)-1)]) 0=(w,k):=by simp [A9,AE,hw]
     rw [e];simp only [lens];omega
 have hl:=GP 32 l;have hk:=key (I3 32 l) at';rw [hl,show at'+(l.length+1)-1=at'+l.length by omega] at hk;have:=hk h;exact ⟨this.1,by have:=this.2;show _+_<=_;exact Nat.le_of_succ_le_succ (by show _+1<=at'+l.length+1;exact this)⟩
structure Ga (n:Nat) (T:Tn):Prop where
 D2:T.D2.length<=n
 C7:T.C7.length<=n
 reqs:T.reqs.length<=n
 E9:T.E9.length<=n
 C3:T.C3.length<=n
theorem Ga.mono {n m:Nat}{T:Tn}(h:Ga n T) (hm:n<=m):Ga m T:=⟨Nat.le_trans h.D2 hm,Nat.le_trans h.C7 hm,Nat.le_trans h.reqs hm,Nat.le_trans h.E9 hm,Nat.le_trans h.C3 hm⟩
theorem Ga.fits {n:Nat}{T:Tn}(h:Ga n T) (hn:n<=100000):Fits T:=⟨Nat.le_trans h.D2 hn,Nat.le_trans h.C7 hn,Nat.le_trans h.reqs hn,Nat.le_trans h.E9 hn,Nat.le_trans h.C3 hn⟩
theorem bS {toks:List Tok}{n:Nat}(hn:12<=n):∀ (f:Nat) (T:Tn) (k:Nat) (T':Tn) (k':Nat),Ga n T->PA toks f T k= .ok (T',k')->Ga n T':=by
 intro f;induction f with
 | zero=>intro T k T' k' h e;cases e;exact h
 | succ f ih =>
   intro T k T' k' h e;rw [QQ] at e;split at e
   ·split at e
    ·split at e
     ·cases e
     ·split at e
      ·rename_i hlt;refine ih { T with E9:=T.E9++[(A9 toks k).1] } (k+1) _ _ ⟨h.D2,h.C7,h.reqs,?_,h.C3⟩ e;simp;omega
      ·cases e
    ·cases e
   ·cases e;exact h
theorem Ue {toks:List Tok}{n:Nat}:∀ (f:Nat) (T:Tn) (k:Nat) (T':Tn) (k':Nat),Ga n T->Kv toks f T k= .ok (T',k')->Ga n T':=by
 intro f;induction f with
 | zero=>intro T k T' k' h e;cases e;exact h
 | succ f ih =>
   intro T k T' k' h e;rw [Be] at e;obtain ⟨⟨m,k1⟩,h1,h2⟩:=J7 e;refine ih _ _ _ _ ?_ h2;unfold Ha;split <;> exact ⟨h.D2,h.C7,h.reqs,h.E9,h.C3⟩
theorem Yf {w:By}{ks:KS}(hk:kS w=some ks){toks:List Tok}{tx:By}{fr n:Nat}{T T':Tn}{k k':Nat}(hn:12<=n) (h:Ga n T) (e:ks.rd toks tx fr T k= .ok (T',k')):Ga (n+1) T':=by
 have hm:=h.mono (Nat.le_succ n);by_cases h0:w=[116,101,110,100,101,114]
 ·subst h0;obtain rfl:=Option.some.inj (show some ((⟨true,fun _=>false,fun toks _ _ T k=>FM toks T k⟩:KS))=some ks from hk);change FM toks T k=_ at e;unfold FM at e;split at e <;> cases e;exact ⟨hm.D2,hm.C7,hm.reqs,hm.E9,hm.C3⟩
 by_cases h1:w=[108,111,116]
 ·subst h1;obtain rfl:=Option.some.inj (show some ((⟨false,fun T=>decide (T.D2.length=12),fun toks _ _ T k=>Wg toks T k⟩:KS))=some ks from hk);obtain ⟨⟨a,k1⟩,h1,e⟩:=J7 (show Wg toks T k=_ from e);obtain ⟨⟨b,k2⟩,h2,e⟩:=J7 e;obtain ⟨⟨c,k3⟩,h3,e⟩:=J7 e;cases e;exact ⟨by simp;exact h.D2,hm.C7,hm.reqs,hm.E9,hm.C3⟩
 by_cases h2:w=[99,114,105,116,101,114,105,111,110]
 ·subst h2;obtain rfl:=Option.some.inj (show some ((⟨false,fun T=>decide (T.C7.length=12),fun toks _ _ T k=>CL toks T k⟩:KS))=some ks from hk);obtain ⟨a,h1,e⟩:=J7 (show CL toks T k=_ from e);split at e
  ·cases e
  obtain ⟨⟨b,k2⟩,h2,e⟩:=J7 e;obtain ⟨⟨c,k3⟩,h3,e⟩:=J7 e;obtain ⟨⟨d,k4⟩,h4,e⟩:=J7 e;cases e;exact ⟨hm.D2,by simp;exact h.C7,hm.reqs,hm.E9,hm.C3⟩
 by_cases h3:w=[114,101,113,117,105,114,101]
 ·subst h3;obtain rfl:=Option.some.inj (show some ((⟨false,fun T=>decide (T.reqs.length=24),fun toks _ _ T k=>En toks T k⟩:KS))=some ks from hk);obtain ⟨a,h1,e⟩:=J7 (show En toks T k=_ from e);obtain ⟨⟨b,k2⟩,h2,e⟩:=J7 e;obtain ⟨⟨c,k3⟩,h3,e⟩:=J7 e;cases e;exact ⟨hm.D2,hm.C7,by simp;exact h.reqs,hm.E9,hm.C3⟩
 by_cases h4:w=[112,114,105,99,101]
 ·subst h4;obtain rfl:=Option.some.inj (show some ((⟨true,fun _=>false,fun toks _ _ T k=>Ix toks T k⟩:KS))=some ks from hk);obtain ⟨⟨a,k1⟩,h1,e⟩:=J7 (show Ix toks T k=_ from e);obtain ⟨⟨b,k2⟩,h2,e⟩:=J7 e;cases e;exact ⟨hm.D2,hm.C7,hm.reqs,hm.E9,hm.C3⟩
 by_cases h5:w=[102,111,114,109,117,108,97]
 ·subst h5;obtain rfl:=Option.some.inj (show some ((⟨true,fun _=>false,fun toks tx fr T k=>EM toks tx fr T k⟩:KS))=some ks from hk);obtain ⟨a,h1,e⟩:=J7 (show EM toks tx fr T k=_ from e);cases e;exact ⟨hm.D2,hm.C7,hm.reqs,hm.E9,hm.C3⟩
 by_cases h6:w=[116,105,101]
 ·subst h6;obtain rfl:=Option.some.inj (show some ((⟨true,fun _=>false,fun toks _ _ T k=>Rn toks T k⟩:KS))=some ks from hk);exact (bS hn _ _ _ _ _ h (show Rn toks T k=_ from e)).mono (Nat.le_succ n)
 by_cases h7:w=[109,111,115,116]
 ·subst h7;obtain rfl:=Option.some.inj (show some ((⟨true,fun _=>false,fun toks _ _ T k=>OE toks T k⟩:KS))=some ks from hk);obtain ⟨⟨a,k1⟩,h1,e⟩:=J7 (show OE toks T k=_ from e);cases e;exact ⟨hm.D2,hm.C7,hm.reqs,hm.E9,hm.C3⟩
 by_cases h8:w=[99,111,109,98,111]
 ·subst h8;obtain rfl:=Option.some.inj (show some ((⟨false,fun T=>decide (T.C3.length=12),fun toks _ _ T k=>Iy toks T k⟩:KS))=some ks from hk);obtain ⟨⟨a,k1⟩,h1,e⟩:=J7 (show Iy toks T k=_ from e);cases e;exact ⟨hm.D2,hm.C7,hm.reqs,hm.E9,by simp;exact h.C3⟩
 by_cases h9:w=[98,117,100,103,101,116]
 ·subst h9;obtain rfl:=Option.some.inj (show some ((⟨true,fun _=>false,fun toks _ _ T k=>GM toks T k⟩:KS))=some ks from hk);obtain ⟨⟨a,k1⟩,h1,e⟩:=J7 (show GM toks T k=_ from e);cases e;exact ⟨hm.D2,hm.C7,hm.reqs,hm.E9,hm.C3⟩
 by_cases h10:w=[116,105,109,101,115]
 ·subst h10;obtain rfl:=Option.some.inj (show some ((⟨true,fun _=>false,fun toks _ _ T k=>GN toks T k⟩:KS))=some ks from hk);exact (Ue _ _ _ _ _ h (show GN toks T k=_ from e)).mono (Nat.le_succ n)
 unfold kS at hk;simp only [if_neg h0,if_neg h1,if_neg h2,if_neg h3,if_neg h4,if_neg h5,if_neg h6,if_neg h7,if_neg h8,if_neg h9,if_neg h10] at hk;cases hk
end Go.Proofs.T
