/- Maps with keys that are texts; the kinds of lines. -/
import Derived.Test.YtbcanmagihejhaaGreatDoorTG
set_option linter.unusedSimpArgs false
set_option linter.unusedVariables false
namespace Go.Proofs.T
open Go Go.Ab
open Nat (reduceMul reduceEqDiff reduceAdd)
set_option maxRecDepth 100000
def mapC (kv:List (By×Value)):List Value:=(kv.map fun p=>[str p.1,p.2]).flatten
def lookKV (w:By):List (By×Value)->Option Value
 | []=>none
 | (k,v)::l=>if w=k then some v else lookKV w l
def setKV (w:By) (x:Value):List (By×Value)->List (By×Value)
 | []=>[(w,x)]
 | (k,v)::l=>if w=k then (w,x)::l else (k,v)::setKV w x l
theorem ksame_str {a b:By}:ksame (str a) (str b)=some (decide (a=b)):=by
 show some (beqL a b)=_
 rw [beqL_iff]
 congr 1
 rw [Bool.eq_iff_iff];simp
theorem lookKV_cons {w k:By}{v:Value}{l:List (By×Value)}:lookKV w ((k,v)::l)=if w=k then some v else lookKV w l:=rfl
theorem setKV_cons {w k:By}{x v:Value}{l:List (By×Value)}:setKV w x ((k,v)::l)=if w=k then (w,x)::l else (k,v)::setKV w x l:=rfl
theorem mget_kv {w:By}:∀ kv:List (By×Value),mget (str w) (mapC kv)=some (lookKV w kv)
 | []=>rfl
 | (k,v)::l=>by
   show ob (ksame (str w) (str k)) (fun s=>bi s (some (some v)) (mget (str w) (mapC l)))=_
   rw [ksame_str,ob_some,mget_kv l]
   rw [lookKV_cons]
   by_cases h:w=k
   ·rw [if_pos h,decide_eq_true h];rfl
   ·rw [if_neg h,decide_eq_false h];rfl
theorem mset_kv {w:By}{x:Value}:∀ kv:List (By×Value),mset (str w) x (mapC kv)=some (mapC (setKV w x kv))
 | []=>rfl
 | (k,v)::l=>by
   show ob (ksame (str w) (str k)) (fun s=>bi s (some (str w::x::mapC l)) (ob (mset (str w) x (mapC l)) fun r=>some (str k::v::r)))=_
   rw [ksame_str,ob_some,mset_kv l]
   rw [setKV_cons]
   by_cases h:w=k
   ·rw [if_pos h,decide_eq_true h];rfl
   ·rw [if_neg h,decide_eq_false h];rfl
def MapAt (Z:St) (b:Nat) (kv:List (By×Value)):Prop:=∃ ver,Z.h.get b=some ⟨mapC kv,true,true,ver,.map⟩
noncomputable def updM (Z:St) (b:Nat) (cs:List Value):St:=⟨Z.h.set b ⟨cs,true,true,(Z.ver b)+1,.map⟩,Z.n⟩
section
variable {Z Z':St} {b:Nat} {kv:List (By×Value)}
theorem MapAt.ext (h:MapAt Z b kv) (hb:b<Z.n) (hE:Ext Z Z'):MapAt Z' b kv:=let ⟨v,h⟩:=h;⟨v,by rw [hE.same b hb];exact h⟩
theorem MapAt.extX {p:Nat}(h:MapAt Z b kv) (hb:b<Z.n) (hE:ExtX p Z Z') (hp:b≠p):MapAt Z' b kv:=let ⟨v,h⟩:=h;⟨v,by rw [hE.same b hb hp];exact h⟩
@[simp] theorem updM_n {cs:List Value}:(updM Z b cs).n=Z.n:=rfl
theorem updM_at {kv':List (By×Value)}:MapAt (updM Z b (mapC kv')) b kv':=⟨_,Tr.get_set_same _ _ _⟩
theorem updM_get {c:Nat}{cs:List Value}(h:c≠b):(updM Z b cs).h.get c=Z.h.get c:=Tr.get_set_ne _ _ h
theorem newM_at:MapAt (Z.newK [] .map) Z.n []:=⟨0,Tr.get_set_same _ _ _⟩
theorem extM {Z0:St}(h:Ext Z0 Z) (hb:Z0.n<=b){cs:List Value}:Ext Z0 (updM Z b cs):=⟨h.n,fun c hc=>by rw [updM_get om];exact h.same c hc⟩
theorem MapAt.blk (h:MapAt Z b kv):∃ ver,Z.mblk b=some ⟨mapC kv,true,true,ver,.map⟩/\ver=Z.ver b:=by
 obtain ⟨v,h⟩:=h
 refine ⟨v,?_,?_⟩
 ·show ob (ob (Z.h.get b) _) _=_
  rw [h];rfl
 ·unfold St.ver;rw [h]
theorem mapupd_ok {P:Program}{fr:Fr}{t kt et:TypeId}{m k x:Operand}{w:By}{xv:Value}{Q:Value×St->Prop}{uq:Hd Q}(hT:mapT? P t=some (kt,et)) (hK:∀ s,keyOk (P.underlying kt) (str s)=true)
  (hm:ev fr m=some (.map (some b))) (hk:ev fr k=some (str w)) (hx:ev fr x=some xv) (hB:MapAt Z b kv) (h:Q (undefV,updM Z b (mapC (setKV w xv kv)))):Ev (eMapUpdate P fr Z t m k x) Q uq:=by
 obtain ⟨ver,h1,h2⟩:=hB.blk
 refine ⟨_,?_,h⟩
 unfold eMapUpdate
 rw [hT,ob_some,pr_mk,hm,ob_some]
 show ob (some (some b)) _=_
 rw [ob_some,ob_some,hk,ob_some,hK,bb_true,hx,ob_some,h1,ob_some,mset_kv,ob_some]
 show ob (ob (Z.mblk b) _) _=_
 rw [h1]
 subst h2
 rfl
theorem look_ok {P:Program}{fr:Fr}{t kt et:TypeId}{m k:Operand}{w:By}{z:Value}{ok:Bool}{Q:Value×St->Prop}{uq:Hd Q}(hT:mapT? P t=some (kt,et)) (hK:∀ s,keyOk (P.underlying kt) (str s)=true) (hz:zero? P et=some z)
  (hm:ev fr m=some (.map (some b))) (hk:ev fr k=some (str w)) (hB:MapAt Z b kv)
  (h:Q (bi ok (.tuple ⟨[(lookKV w kv).getD z,.bool (lookKV w kv).isSome]⟩) ((lookKV w kv).getD z),Z)):Ev (eLookup P fr Z t m k ok) Q uq:=by
 obtain ⟨ver,h1,h2⟩:=hB.blk
 refine ⟨_,?_,h⟩
 unfold eLookup
 rw [hT,ob_some,pr_mk,hm,ob_some]
 show ob (some (some b)) _=_
 rw [ob_some,hk,ob_some,hK,bb_true]
 show ob (ob (Z.mblk b) _) _=_
 rw [h1,ob_some,ob_some]
 show ob (mget (str w) (mapC kv)) _=_
 rw [mget_kv,ob_some]
 cases lookKV w kv with
 | none=>show ob (ob (zero? P et) _) _=_;rw [hz];rfl
 | some v=>rfl
end
theorem mapT127:mapT? Tryz.prog 127=some (9,4):=by kernel_rfl
theorem mapT128:mapT? Tryz.prog 128=some (9,143):=by kernel_rfl
theorem keyS (s:By):keyOk ((Tryz.prog).underlying 9) (str s)=true:=by kernel_rfl
theorem ev_map {fr:Fr}:ev fr (.const (.map none))=some (.map none):=rfl
theorem emk {fr:Fr}{Z:St}:eMakeMap fr Z none=some (.map (some Z.n),Z.newK [] .map):=rfl
def kindV (g:Nat) (once:Bool) (full:Nat):Value:= .agg ⟨[.func (.func g) ⟨[]⟩ ⟨[]⟩,.bool once,.func (.func full) ⟨[]⟩ ⟨[]⟩]⟩
def kindsKV:List (By×Value):=[
 ([116,101,110,100,101,114],kindV 114 true 113),
 ([108,111,116],kindV 115 false 116),
 ([99,114,105,116,101,114,105,111,110],kindV 117 false 118),
 ([114,101,113,117,105,114,101],kindV 119 false 120),
 ([112,114,105,99,101],kindV 121 true 113),
 ([102,111,114,109,117,108,97],kindV 122 true 113),
 ([116,105,101],kindV 123 true 113),
 ([109,111,115,116],kindV 124 true 113),
 ([99,111,109,98,111],kindV 125 false 126),
 ([98,117,100,103,101,116],kindV 127 true 113),
 ([116,105,109,101,115],kindV 128 true 113)]
set_option maxHeartbeats 8000000 in
theorem kinds_ok {Z:St}:Ev (go Tryz.prog HS (.fn 70) [] Z) (fun r=>∃ Z',r=⟨false,.map (some Z.n),Z'⟩/\Ext Z Z'/\Z.n<Z'.n/\MapAt Z' Z.n kindsKV) ⟨⟩:=by
 refine ev_go Tryz.func70 rfl rfl ?_
 refine gS1 (aI @ev_map @emk) ?_
 refine mapupd_ok (b:=Z.n) (kv:=kindsKV.take 0) (w:=(kindsKV.getD 0 ([],.nilIface)).1) (xv:=(kindsKV.getD 0 ([],.nilIface)).2) mapT128 keyS (by kernel_rfl) (by kernel_rfl) (by kernel_rfl) newM_at ?_
 refine gS1 @emk ?_
 refine mapupd_ok (b:=Z.n) (kv:=kindsKV.take 1) (w:=(kindsKV.getD 1 ([],.nilIface)).1) (xv:=(kindsKV.getD 1 ([],.nilIface)).2) mapT128 keyS (by kernel_rfl) (by kernel_rfl) (by kernel_rfl) updM_at ?_
 refine gS1 @emk ?_
 refine mapupd_ok (b:=Z.n) (kv:=kindsKV.take 2) (w:=(kindsKV.getD 2 ([],.nilIface)).1) (xv:=(kindsKV.getD 2 ([],.nilIface)).2) mapT128 keyS (by kernel_rfl) (by kernel_rfl) (by kernel_rfl) updM_at ?_
 refine gS1 @emk ?_
 refine mapupd_ok (b:=Z.n) (kv:=kindsKV.take 3) (w:=(kindsKV.getD 3 ([],.nilIface)).1) (xv:=(kindsKV.getD 3 ([],.nilIface)).2) mapT128 keyS (by kernel_rfl) (by kernel_rfl) (by kernel_rfl) updM_at ?_
 refine gS1 @emk ?_
 refine mapupd_ok (b:=Z.n) (kv:=kindsKV.take 4) (w:=(kindsKV.getD 4 ([],.nilIface)).1) (xv:=(kindsKV.getD 4 ([],.nilIface)).2) mapT128 keyS (by kernel_rfl) (by kernel_rfl) (by kernel_rfl) updM_at ?_
 refine gS1 @emk ?_
 refine mapupd_ok (b:=Z.n) (kv:=kindsKV.take 5) (w:=(kindsKV.getD 5 ([],.nilIface)).1) (xv:=(kindsKV.getD 5 ([],.nilIface)).2) mapT128 keyS (by kernel_rfl) (by kernel_rfl) (by kernel_rfl) updM_at ?_
 refine gS1 @emk ?_
 refine mapupd_ok (b:=Z.n) (kv:=kindsKV.take 6) (w:=(kindsKV.getD 6 ([],.nilIface)).1) (xv:=(kindsKV.getD 6 ([],.nilIface)).2) mapT128 keyS (by kernel_rfl) (by kernel_rfl) (by kernel_rfl) updM_at ?_
 refine gS1 @emk ?_
 refine mapupd_ok (b:=Z.n) (kv:=kindsKV.take 7) (w:=(kindsKV.getD 7 ([],.nilIface)).1) (xv:=(kindsKV.getD 7 ([],.nilIface)).2) mapT128 keyS (by kernel_rfl) (by kernel_rfl) (by kernel_rfl) updM_at ?_
 refine gS1 @emk ?_
 refine mapupd_ok (b:=Z.n) (kv:=kindsKV.take 8) (w:=(kindsKV.getD 8 ([],.nilIface)).1) (xv:=(kindsKV.getD 8 ([],.nilIface)).2) mapT128 keyS (by kernel_rfl) (by kernel_rfl) (by kernel_rfl) updM_at ?_
 refine gS1 @emk ?_
 refine mapupd_ok (b:=Z.n) (kv:=kindsKV.take 9) (w:=(kindsKV.getD 9 ([],.nilIface)).1) (xv:=(kindsKV.getD 9 ([],.nilIface)).2) mapT128 keyS (by kernel_rfl) (by kernel_rfl) (by kernel_rfl) updM_at ?_
 refine gS1 @emk ?_
 refine mapupd_ok (b:=Z.n) (kv:=kindsKV.take 10) (w:=(kindsKV.getD 10 ([],.nilIface)).1) (xv:=(kindsKV.getD 10 ([],.nilIface)).2) mapT128 keyS (by kernel_rfl) (by kernel_rfl) (by kernel_rfl) updM_at ?_
 refine gS1 (aI @emk @Tryz.results70) ?_
 exact ⟨_,rfl,(extM (extM (extM (extM (extM (extM (extM (extM (extM (extM (extM ((Ext.refl Z).newK [] .map) (Nat.le_refl _)) (Nat.le_refl _)) (Nat.le_refl _)) (Nat.le_refl _)) (Nat.le_refl _)) (Nat.le_refl _)) (Nat.le_refl _)) (Nat.le_refl _)) (Nat.le_refl _)) (Nat.le_refl _)) (Nat.le_refl _)),by simp,updM_at (kv':=kindsKV)⟩
end Go.Proofs.T
namespace Go.Proofs.T
open Go Go.Ab
open Nat (reduceMul reduceEqDiff reduceAdd)
set_option maxRecDepth 100000
structure KS where
 once:Bool
 full:Tn->Bool
 rd:List Tok->By->Nat->Tn->Nat->Except Er (Tn×Nat)
noncomputable def kS (w:By):Option KS :=
 if w=[116,101,110,100,101,114] then some ⟨true,fun _=>false,fun toks _ _ T k=>tenderS toks T k⟩ else
 if w=[108,111,116] then some ⟨false,fun T=>decide (T.lots.length=12),fun toks _ _ T k=>lotS toks T k⟩ else
 if w=[99,114,105,116,101,114,105,111,110] then some ⟨false,fun T=>decide (T.crits.length=12),fun toks _ _ T k=>criterionS toks T k⟩ else
 if w=[114,101,113,117,105,114,101] then some ⟨false,fun T=>decide (T.reqs.length=24),fun toks _ _ T k=>requireS toks T k⟩ else
 if w=[112,114,105,99,101] then some ⟨true,fun _=>false,fun toks _ _ T k=>priceS toks T k⟩ else
 if w=[102,111,114,109,117,108,97] then some ⟨true,fun _=>false,fun toks tx fr T k=>formulaS toks tx fr T k⟩ else
 if w=[116,105,101] then some ⟨true,fun _=>false,fun toks _ _ T k=>tieS toks T k⟩ else
 if w=[109,111,115,116] then some ⟨true,fun _=>false,fun toks _ _ T k=>mostS toks T k⟩ else
 if w=[99,111,109,98,111] then some ⟨false,fun T=>decide (T.combos.length=12),fun toks _ _ T k=>comboS toks T k⟩ else
 if w=[98,117,100,103,101,116] then some ⟨true,fun _=>false,fun toks _ _ T k=>budgetS toks T k⟩ else
 if w=[116,105,109,101,115] then some ⟨true,fun _=>false,fun toks _ _ T k=>timesS toks T k⟩ else none
section
variable {Z ZL:St} {bt bx:Nat} {T:Tn} {tv:Value} {toks:List Tok} {k:Nat} {rest:List Value} {v:Nat->Value} {fc vs:List Value}
theorem never_ok {Z:St}{b:Value}:Ev (go Tryz.prog HS (.fn 113) [b] Z) (fun r=>r=⟨false,.bool false,Z⟩) ⟨⟩:=by
 refine ev_go Tryz.func113 rfl rfl ?_
 refine gS1 @Tryz.results113 ?_;try exact ⟨⟩
theorem full_lots (h:Ln ZL Z bt bx T tv toks k rest v fc vs):Ev (go Tryz.prog HS (.fn 116) [.pointer (some ⟨bt,0,none⟩)] Z) (fun r=>r=⟨false,.bool (decide (T.lots.length=12)),Z⟩) ⟨⟩:=by
 have ht:=row_of h.row
 obtain ⟨c1,c2,c3,c4,c5,rfl⟩:=fc5 h.fx
 unfold tnR tnRow at ht
 obtain ⟨a,ha⟩:=OL.shape (h.sl 0 om)
 rw [show (rowsT T vs 0).length=T.lots.length from List.length_map ..] at ha
 rw [ha] at ht
 have e:decide (((T.lots.length:Nat):Int)=12)=decide (T.lots.length=12):=by rw [Bool.eq_iff_iff,decide_eq_true_iff,decide_eq_true_iff];omega
 refine ev_go Tryz.func116 rfl rfl ?_
 refine gS1 (aI @ht (aI @e @Tryz.results116)) ?_;try exact ⟨⟩
theorem full_crits (h:Ln ZL Z bt bx T tv toks k rest v fc vs):Ev (go Tryz.prog HS (.fn 118) [.pointer (some ⟨bt,0,none⟩)] Z) (fun r=>r=⟨false,.bool (decide (T.crits.length=12)),Z⟩) ⟨⟩:=by
 have ht:=row_of h.row
 obtain ⟨c1,c2,c3,c4,c5,rfl⟩:=fc5 h.fx
 unfold tnR tnRow at ht
 obtain ⟨a,ha⟩:=OL.shape (h.sl 1 om)
 rw [show (rowsT T vs 1).length=T.crits.length from List.length_map ..] at ha
 rw [ha] at ht
 have e:decide (((T.crits.length:Nat):Int)=12)=decide (T.crits.length=12):=by rw [Bool.eq_iff_iff,decide_eq_true_iff,decide_eq_true_iff];omega
 refine ev_go Tryz.func118 rfl rfl ?_
 refine gS1 (aI @ht (aI @e @Tryz.results118)) ?_;try exact ⟨⟩
theorem full_reqs (h:Ln ZL Z bt bx T tv toks k rest v fc vs):Ev (go Tryz.prog HS (.fn 120) [.pointer (some ⟨bt,0,none⟩)] Z) (fun r=>r=⟨false,.bool (decide (T.reqs.length=24)),Z⟩) ⟨⟩:=by
 have ht:=row_of h.row
 obtain ⟨c1,c2,c3,c4,c5,rfl⟩:=fc5 h.fx
 unfold tnR tnRow at ht
 obtain ⟨a,ha⟩:=OL.shape (h.sl 2 om)
 rw [show (rowsT T vs 2).length=T.reqs.length from List.length_map ..] at ha
 rw [ha] at ht
 have e:decide (((T.reqs.length:Nat):Int)=24)=decide (T.reqs.length=24):=by rw [Bool.eq_iff_iff,decide_eq_true_iff,decide_eq_true_iff];omega
 refine ev_go Tryz.func120 rfl rfl ?_
 refine gS1 (aI @ht (aI @e @Tryz.results120)) ?_;try exact ⟨⟩
theorem full_combos (h:Ln ZL Z bt bx T tv toks k rest v fc vs):Ev (go Tryz.prog HS (.fn 126) [.pointer (some ⟨bt,0,none⟩)] Z) (fun r=>r=⟨false,.bool (decide (T.combos.length=12)),Z⟩) ⟨⟩:=by
 have ht:=row_of h.row
 obtain ⟨c1,c2,c3,c4,c5,rfl⟩:=fc5 h.fx
 unfold tnR tnRow at ht
 obtain ⟨a,ha⟩:=OL.shape (h.sl 4 om)
 rw [show (rowsT T vs 4).length=vs.length from List.length_map ..] at ha
 rw [h.iv.len] at ha
 rw [ha] at ht
 have e:decide (((T.combos.length:Nat):Int)=12)=decide (T.combos.length=12):=by rw [Bool.eq_iff_iff,decide_eq_true_iff,decide_eq_true_iff];omega
 refine ev_go Tryz.func126 rfl rfl ?_
 refine gS1 (aI @ht (aI @e @Tryz.results126)) ?_;try exact ⟨⟩
end
structure Fits (T:Tn):Prop where
 lots:T.lots.length<=100000
 crits:T.crits.length<=100000
 reqs:T.reqs.length<=100000
 ties:T.ties.length<=100000
 combos:T.combos.length<=100000
def FullOk (f:Nat) (ks:KS):Prop:=∀ (ZL Z:St) (bt bx:Nat) (T:Tn) (tv:Value) (toks:List Tok) (k:Nat) (rest:List Value) (v:Nat->Value) (fc vs:List Value),Ln ZL Z bt bx T tv toks k rest v fc vs ->
 Ev (go Tryz.prog HS (.fn f) [.pointer (some ⟨bt,0,none⟩)] Z) (fun r=>r=⟨false,.bool (ks.full T),Z⟩) ⟨⟩
def ReadOk (g:Nat) (ks:KS):Prop:=∀ (ZL Z:St) (bt bx:Nat) (T:Tn) (tv:Value) (toks:List Tok) (k:Nat) (tx:By) (from':Nat) (v:Nat->Value) (fc vs:List Value),Ln ZL Z bt bx T tv toks k (restL tx from' bt) v fc vs->Ends toks->Short toks->Fits T ->
 tx.length<10000000->from'<10000000->Ends (fToks tx from')->ShortF (fToks tx from')->Ev (go Tryz.prog HS (.fn g) [.pointer (some ⟨bx,0,none⟩)] Z) (LnP ZL bt bx tv toks (restL tx from' bt) (ks.rd toks tx from' T k)) ⟨⟩
theorem never_full {ks:KS}(h:ks.full=fun _=>false):FullOk 113 ks:=by
 intro ZL Z bt bx T tv toks k rest v fc vs hL
 rw [h];exact never_ok
theorem kinds_all (w:By):(lookKV w kindsKV=none/\kS w=none)\/∃ g f ks,lookKV w kindsKV=some (kindV g ks.once f)/\kS w=some ks/\FullOk f ks/\ReadOk g ks:=by
 by_cases h1:w=[116,101,110,100,101,114]
 ·subst h1;exact .inr ⟨_,_,_,rfl,rfl,never_full rfl,fun _ _ _ _ _ _ _ _ _ _ _ _ _ hL he hs hf _ _ _ _=>tender_ok hL he hs⟩
 by_cases h2:w=[108,111,116]
 ·subst h2;exact .inr ⟨_,_,_,rfl,rfl,fun _ _ _ _ _ _ _ _ _ _ _ _ hL=>full_lots hL,fun _ _ _ _ _ _ _ _ _ _ _ _ _ hL he hs hf _ _ _ _=>lot_ok hL he hs hf.lots⟩
 by_cases h3:w=[99,114,105,116,101,114,105,111,110]
 ·subst h3;exact .inr ⟨_,_,_,rfl,rfl,fun _ _ _ _ _ _ _ _ _ _ _ _ hL=>full_crits hL,fun _ _ _ _ _ _ _ _ _ _ _ _ _ hL he hs hf _ _ _ _=>criterion_ok hL he hs hf.crits⟩
 by_cases h4:w=[114,101,113,117,105,114,101]
 ·subst h4;exact .inr ⟨_,_,_,rfl,rfl,fun _ _ _ _ _ _ _ _ _ _ _ _ hL=>full_reqs hL,fun _ _ _ _ _ _ _ _ _ _ _ _ _ hL he hs hf _ _ _ _=>require_ok hL he hs hf.reqs⟩
 by_cases h5:w=[112,114,105,99,101]
 ·subst h5;exact .inr ⟨_,_,_,rfl,rfl,never_full rfl,fun _ _ _ _ _ _ _ _ _ _ _ _ _ hL he hs hf _ _ _ _=>price_ok hL he hs⟩
 by_cases h6:w=[102,111,114,109,117,108,97]
 ·subst h6;exact .inr ⟨_,_,_,rfl,rfl,never_full rfl,fun _ _ _ _ _ _ _ _ _ _ _ _ _ hL he hs hf g1 g2 g3 g4=>fline_ok hL g1 g2 g3 g4⟩
 by_cases h7:w=[116,105,101]
 ·subst h7;exact .inr ⟨_,_,_,rfl,rfl,never_full rfl,fun _ _ _ _ _ _ _ _ _ _ _ _ _ hL he hs hf _ _ _ _=>tie_ok hL he hs hf.ties⟩
 by_cases h8:w=[109,111,115,116]
 ·subst h8;exact .inr ⟨_,_,_,rfl,rfl,never_full rfl,fun _ _ _ _ _ _ _ _ _ _ _ _ _ hL he hs hf _ _ _ _=>most_ok hL he hs⟩
 by_cases h9:w=[99,111,109,98,111]
 ·subst h9;exact .inr ⟨_,_,_,rfl,rfl,fun _ _ _ _ _ _ _ _ _ _ _ _ hL=>full_combos hL,fun _ _ _ _ _ _ _ _ _ _ _ _ _ hL he hs hf _ _ _ _=>combo_ok hL he hs (by rw [hL.iv.len];exact hf.combos)⟩
 by_cases h10:w=[98,117,100,103,101,116]
 ·subst h10;exact .inr ⟨_,_,_,rfl,rfl,never_full rfl,fun _ _ _ _ _ _ _ _ _ _ _ _ _ hL he hs hf _ _ _ _=>budget_ok hL he hs⟩
 by_cases h11:w=[116,105,109,101,115]
 ·subst h11;exact .inr ⟨_,_,_,rfl,rfl,never_full rfl,fun _ _ _ _ _ _ _ _ _ _ _ _ _ hL he hs hf _ _ _ _=>times_ok hL he hs⟩
 left
 constructor
 ·unfold kindsKV;simp only [lookKV_cons,if_neg h1,if_neg h2,if_neg h3,if_neg h4,if_neg h5,if_neg h6,if_neg h7,if_neg h8,if_neg h9,if_neg h10,if_neg h11];rfl
 ·unfold kS;simp only [if_neg h1,if_neg h2,if_neg h3,if_neg h4,if_neg h5,if_neg h6,if_neg h7,if_neg h8,if_neg h9,if_neg h10,if_neg h11]
end Go.Proofs.T
namespace Go.Proofs.T
open Go Go.Ab
set_option maxRecDepth 100000
def held0 (bt:Nat) (v:Nat->Value):List Nat:=List.range bt++bt::(blks (v 0)++blks (v 1)++blks (v 2)++blks (v 3)++blks (v 4))
theorem held_held0 {bt bx c:Nat}{v:Nat->Value}:c∈held bt bx v↔c=bx\/c∈held0 bt v:=by
 unfold held held0
 rw [List.mem_append,List.mem_append,List.mem_cons,List.mem_cons,List.mem_cons]
 constructor
 ·rintro (h|h|h|h)
  ·exact .inr (.inl h)
  ·exact .inr (.inr (.inl h))
  ·exact .inl h
  ·exact .inr (.inr (.inr h))
 ·rintro (h|h|h|h)
  ·exact .inr (.inr (.inl h))
  ·exact .inl h
  ·exact .inr (.inl h)
  ·exact .inr (.inr (.inr h))
structure Tp (ZL Z:St) (bt:Nat) (T:Tn) (v:Nat->Value) (fc vs:List Value):Prop where
 ext:ExtX bt ZL Z
 btl:bt<ZL.n
 row:Z.orow bt=some (tnR T v fc)
 sl:∀ i,i<5->OL ZL.n Z (szT i) (v i) (rowsT T vs i)
 dis:∀ i j c,i<5->j<5->i≠j->blkOf (v i)=some c->blkOf (v j)≠some c
 fx:ExAt (hide Z (held0 bt v)) fc T.f
 iv:All2 (Ints (hide Z (held0 bt v))) vs T.combos
section
variable {ZL Z Z':St} {bt bx:Nat} {T:Tn} {tv:Value} {toks:List Tok} {k:Nat} {rest:List Value} {v:Nat->Value} {fc vs:List Value}
theorem Ln.tp (h:Ln ZL Z bt bx T tv toks k rest v fc vs):Tp ZL Z bt T v fc vs:=by
 have hk:Keep (hide Z (held bt bx v)) (hide Z (held0 bt v)):=keep_hide (Nat.le_refl _) fun c _ hm=>⟨fun hm'=>hm (held_held0.2 (.inr hm')),rfl⟩
 exact ⟨h.ext,h.btl,h.row,h.sl,h.dis,h.fx.keep hk,h.iv.mono fun _ _ hx=>SL.keep hx hk⟩
theorem Tp.ext' (h:Tp ZL Z bt T v fc vs) (hE:Ext Z Z'):Tp ZL Z' bt T v fc vs :=
 ⟨h.ext.trans (.of hE),h.btl,by rw [orow_congr (hE.same bt (Nat.lt_of_lt_of_le h.btl h.ext.n))];exact h.row,fun i hi=>OL.ext (h.sl i hi) hE,h.dis,h.fx.keep (keep_ext hE),h.iv.mono fun _ _ hx=>SL.keep hx (keep_ext hE)⟩
theorem Tp.ln {Z0:St}(h:Tp ZL Z0 bt T v fc vs) (hE:Ext Z0 Z) (hbx:Z0.n<=bx) (hs:Sc Z bx tv toks k rest) (htk:∀ c,blkOf tv=some c->Z0.n<=c):Ln ZL Z bt bx T tv toks k rest v fc vs:=by
 have h':=h.ext' hE
 have hk:Keep (hide Z0 (held0 bt v)) (hide Z (held bt bx v)):=keep_hide hE.n fun c hc hm=>⟨fun hm'=>by
  rcases held_held0.1 hm' with e|e
  ·omega
  ·exact hm e,hE.row hc⟩
 have hn:=h.ext.n
 refine ⟨h'.ext,h.btl,om,h'.row,h'.sl,h.dis,fun i hi e=>?_,h.fx.keep hk,h.iv.mono fun _ _ hx=>SL.keep hx hk,hs,fun c hc=>⟨fun e=>?_,fun i hi e=>?_⟩⟩
 ·have:=((h.sl i hi).blk e).2;omega
 ·have:=htk c hc;have:=h.btl;omega
 ·have:=htk c hc;have:=((h.sl i hi).blk e).2;omega
theorem Tp.seen {ms:Nat}{kv kv':List (By×Value)}(h:Tp ZL Z bt T v fc vs) (hm:MapAt Z ms kv) (hl:ms<ZL.n) (hne:ms≠bt):Tp (updM ZL ms (mapC kv')) (updM Z ms (mapC kv')) bt T v fc vs:=by
 have hr:Z.row ms=none:=by
  obtain ⟨ver,hg⟩:=hm
  show ob (Z.rblk ms) _=_
  unfold St.rblk St.blk
  rw [hg];rfl
 have hr':(updM Z ms (mapC kv')).row ms=none:=by
  obtain ⟨ver,hg⟩:=updM_at (Z:=Z) (b:=ms) (kv':=kv')
  show ob ((updM Z ms (mapC kv')).rblk ms) _=_
  unfold St.rblk St.blk
  rw [hg];rfl
 have hk:Keep (hide Z (held0 bt v)) (hide (updM Z ms (mapC kv')) (held0 bt v)):=keep_hide (Nat.le_refl _) fun c _ hc=>⟨hc,by
  by_cases e:c=ms
  ·rw [e,hr,hr']
  ·exact row_congr (updM_get e)⟩
 refine ⟨⟨h.ext.n,fun c hc hcb=>?_⟩,h.btl,by rw [orow_congr (updM_get (fun e=>hne e.symm))];exact h.row,fun i hi=>(h.sl i hi).keep (Nat.le_refl _) fun c hc=>updM_get (by have:=((h.sl i hi).blk hc).1;omega),h.dis,h.fx.keep hk,h.iv.mono fun _ _ hx=>SL.keep hx hk⟩
 by_cases e:c=ms
 ·subst e
  have hg:=h.ext.same c hc hcb
  show (Tr.set _ _ _).get c=(Tr.set _ _ _).get c
  rw [Tr.get_set_same,Tr.get_set_same]
  unfold St.ver
  rw [hg]
 ·rw [updM_get e,updM_get e];exact h.ext.same c hc hcb
end
end Go.Proofs.T
namespace Go.Proofs.T
open Go Go.Ab
set_option maxRecDepth 100000
theorem ends_app {l:List Tok}{n:Nat}:Ends (l++[([],n)]):=by
 intro k t h hne
 rcases Nat.lt_or_ge k l.length with hk|hk
 ·simp;omega
 ·rw [List.getElem?_append_right hk] at h
  cases hz:k-l.length with
  | zero=>rw [hz] at h;cases h;exact absurd rfl hne
  | succ j=>rw [hz] at h;simp at h
theorem ends_toks {s:By}{k:Nat}:Ends (toksS s k):=ends_app
theorem ends_ftoks {s:By}{k:Nat}:Ends (fToks s k):=ends_app
def T0:Tn:=⟨[],[],[],[],0,0,.mk [] 0 0 [] [],[],0,[],0,⟨0,0,0,0,0⟩⟩
def tru:Value:= .bool true
noncomputable def lineS (l:By) (at':Nat) (T:Tn) (seen:List (By×Value)):Except Er (Tn×List (By×Value)) :=
 if (tokA (toksS l at') 0).1=[] then .ok (T,seen) else
  match kS (tokA (toksS l at') 0).1 with
  | none=> .error ((tokA (toksS l at') 0).2,12)
  | some ks=>if (ks.once&&(lookKV (tokA (toksS l at') 0).1 seen).isSome)=true then .error ((tokA (toksS l at') 0).2,13) else
     if ks.full T=true then .error ((tokA (toksS l at') 0).2,2) else
      thenR (ks.rd (toksS l at') (l.drop ((tokA (toksS l at') 0).2+(tokA (toksS l at') 0).1.length-at')) ((tokA (toksS l at') 0).2+(tokA (toksS l at') 0).1.length) T 1) fun (T',k) =>
       if (tokA (toksS l at') k).1=[] then .ok (T',setKV (tokA (toksS l at') 0).1 tru seen) else .error ((tokA (toksS l at') k).2,12)
noncomputable def linesS:List By->Nat->Tn->List (By×Value)->Except Er (Tn×List (By×Value))
 | [],_,T,seen=> .ok (T,seen)
 | l::ls,at',T,seen=>thenR (lineS l at' T seen) fun (T',seen')=>linesS ls (at'+(l.length+1)) T' seen'
def six:List By:=[[116,101,110,100,101,114],[108,111,116],[112,114,105,99,101],[102,111,114,109,117,108,97],[98,117,100,103,101,116],[116,105,109,101,115]]
noncomputable def parseS (s:By):Except Er Tn:=thenR (linesS (splitB 10 s) 0 T0 []) fun (T,seen)=>if six.all (fun w=>(lookKV w seen).isSome)=true then .ok T else .error (s.length,12)
def LineOk (l:By) (at':Nat):Prop:=Short (toksS l at')/\∀ n,ShortF (fToks (l.drop n) (at'+n))
theorem zero_tp {ZL:St}{bt:Nat}(hb:bt<ZL.n) (hr:ZL.orow bt=some (tnR T0 (fun _=> .slice none 0 0) [str [],.int .i64 0,.int .i64 0,str [],.slice none 0 0])) :
  Tp ZL ZL bt T0 (fun _=> .slice none 0 0) [str [],.int .i64 0,.int .i64 0,str [],.slice none 0 0] []:=by
 refine ⟨.refl,hb,hr,fun i hi=>?_,fun i j c _ _ _ e=>(by cases e),⟨_,[],rfl,.inl ⟨rfl,rfl⟩,by simp,rfl⟩,trivial⟩
 match i,hi with
 | 0,_=>exact OL.nil
 | 1,_=>exact OL.nil
 | 2,_=>exact OL.nil
 | 3,_=>exact OL.nil
 | 4,_=>exact OL.nil
theorem first_tok {l:By}{at':Nat}(h:(tokA (toksS l at') 0).1≠[]):at'<=(tokA (toksS l at') 0).2/\(tokA (toksS l at') 0).2+(tokA (toksS l at') 0).1.length<=at'+l.length:=by
 have key:∀ (ws:List By) (k:Nat),(tokA (toksP ws k++[([],k+lens ws-1)]) 0).1≠[]->k<=(tokA (toksP ws k++[([],k+lens ws-1)]) 0).2/\(tokA (toksP ws k++[([],k+lens ws-1)]) 0).2+(tokA (toksP ws k++[([],k+lens ws-1)]) 0).1.length+1<=k+lens ws:=by
  intro ws
  induction ws with
  | nil=>intro k h;exact absurd rfl h
  | cons w ws ih =>
    intro k h
    by_cases hw:w=[]
    ·subst hw
     have e:toksP ([]::ws) k++[([],k+lens ([]::ws)-1)]=toksP ws (k+1)++[([],(k+1)+lens ws-1)]:=by
      have:k+lens ([]::ws)-1=(k+1)+lens ws-1:=by simp [lens];omega
      rw [this];simp [toksP]
     rw [e] at h ⊢
     have:=ih (k+1) h
     simp only [lens,List.length_nil]
     omega
    ·have e:tokA (toksP (w::ws) k++[([],k+lens (w::ws)-1)]) 0=(w,k):=by simp [tokA,toksP,hw]
     rw [e]
     simp only [lens]
     omega
 have hl:=lens_split 32 l
 have hk:=key (splitB 32 l) at'
 rw [hl,show at'+(l.length+1)-1=at'+l.length by omega] at hk
 have:=hk h
 exact ⟨this.1,by have:=this.2;show _+_<=_;exact Nat.le_of_succ_le_succ (by show _+1<=at'+l.length+1;exact this)⟩
end Go.Proofs.T
namespace Go.Proofs.T
open Go Go.Ab
set_option maxRecDepth 100000
structure FitsN (n:Nat) (T:Tn):Prop where
 lots:T.lots.length<=n
 crits:T.crits.length<=n
 reqs:T.reqs.length<=n
 ties:T.ties.length<=n
 combos:T.combos.length<=n
theorem FitsN.mono {n m:Nat}{T:Tn}(h:FitsN n T) (hm:n<=m):FitsN m T:=⟨Nat.le_trans h.lots hm,Nat.le_trans h.crits hm,Nat.le_trans h.reqs hm,Nat.le_trans h.ties hm,Nat.le_trans h.combos hm⟩
theorem FitsN.fits {n:Nat}{T:Tn}(h:FitsN n T) (hn:n<=100000):Fits T:=⟨Nat.le_trans h.lots hn,Nat.le_trans h.crits hn,Nat.le_trans h.reqs hn,Nat.le_trans h.ties hn,Nat.le_trans h.combos hn⟩
theorem tieF_fits {toks:List Tok}{n:Nat}(hn:12<=n):∀ (f:Nat) (T:Tn) (k:Nat) (T':Tn) (k':Nat),FitsN n T->tieF toks f T k= .ok (T',k')->FitsN n T':=by
 intro f
 induction f with
 | zero=>intro T k T' k' h e;cases e;exact h
 | succ f ih =>
   intro T k T' k' h e
   rw [tieF_succ] at e
   split at e
   ·split at e
    ·split at e
     ·cases e
     ·split at e
      ·rename_i hlt
       refine ih { T with ties:=T.ties++[(tokA toks k).1] } (k+1) _ _ ⟨h.lots,h.crits,h.reqs,?_,h.combos⟩ e
       simp;omega
      ·cases e
    ·cases e
   ·cases e;exact h
theorem timesG_fits {toks:List Tok}{n:Nat}:∀ (f:Nat) (T:Tn) (k:Nat) (T':Tn) (k':Nat),FitsN n T->timesG toks f T k= .ok (T',k')->FitsN n T':=by
 intro f
 induction f with
 | zero=>intro T k T' k' h e;cases e;exact h
 | succ f ih =>
   intro T k T' k' h e
   rw [timesG_succ] at e
   obtain ⟨⟨m,k1⟩,h1,h2⟩:=thenR_some e
   refine ih _ _ _ _ ?_ h2
   unfold setTime
   split <;> exact ⟨h.lots,h.crits,h.reqs,h.ties,h.combos⟩
theorem rd_fits {w:By}{ks:KS}(hk:kS w=some ks){toks:List Tok}{tx:By}{fr n:Nat}{T T':Tn}{k k':Nat}(hn:12<=n) (h:FitsN n T) (e:ks.rd toks tx fr T k= .ok (T',k')):FitsN (n+1) T':=by
 have hm:=h.mono (Nat.le_succ n)
 by_cases h0:w=[116,101,110,100,101,114]
 ·subst h0;obtain rfl:=Option.some.inj (show some ((⟨true,fun _=>false,fun toks _ _ T k=>tenderS toks T k⟩:KS))=some ks from hk)
  change tenderS toks T k=_ at e
  unfold tenderS at e
  split at e <;> cases e
  exact ⟨hm.lots,hm.crits,hm.reqs,hm.ties,hm.combos⟩
 by_cases h1:w=[108,111,116]
 ·subst h1;obtain rfl:=Option.some.inj (show some ((⟨false,fun T=>decide (T.lots.length=12),fun toks _ _ T k=>lotS toks T k⟩:KS))=some ks from hk)
  obtain ⟨⟨a,k1⟩,h1,e⟩:=thenR_some (show lotS toks T k=_ from e)
  obtain ⟨⟨b,k2⟩,h2,e⟩:=thenR_some e
  obtain ⟨⟨c,k3⟩,h3,e⟩:=thenR_some e
  cases e
  exact ⟨by simp;exact h.lots,hm.crits,hm.reqs,hm.ties,hm.combos⟩
 by_cases h2:w=[99,114,105,116,101,114,105,111,110]
 ·subst h2;obtain rfl:=Option.some.inj (show some ((⟨false,fun T=>decide (T.crits.length=12),fun toks _ _ T k=>criterionS toks T k⟩:KS))=some ks from hk)
  obtain ⟨a,h1,e⟩:=thenR_some (show criterionS toks T k=_ from e)
  split at e
  ·cases e
  obtain ⟨⟨b,k2⟩,h2,e⟩:=thenR_some e
  obtain ⟨⟨c,k3⟩,h3,e⟩:=thenR_some e
  obtain ⟨⟨d,k4⟩,h4,e⟩:=thenR_some e
  cases e
  exact ⟨hm.lots,by simp;exact h.crits,hm.reqs,hm.ties,hm.combos⟩
 by_cases h3:w=[114,101,113,117,105,114,101]
 ·subst h3;obtain rfl:=Option.some.inj (show some ((⟨false,fun T=>decide (T.reqs.length=24),fun toks _ _ T k=>requireS toks T k⟩:KS))=some ks from hk)
  obtain ⟨a,h1,e⟩:=thenR_some (show requireS toks T k=_ from e)
  obtain ⟨⟨b,k2⟩,h2,e⟩:=thenR_some e
  obtain ⟨⟨c,k3⟩,h3,e⟩:=thenR_some e
  cases e
  exact ⟨hm.lots,hm.crits,by simp;exact h.reqs,hm.ties,hm.combos⟩
 by_cases h4:w=[112,114,105,99,101]
 ·subst h4;obtain rfl:=Option.some.inj (show some ((⟨true,fun _=>false,fun toks _ _ T k=>priceS toks T k⟩:KS))=some ks from hk)
  obtain ⟨⟨a,k1⟩,h1,e⟩:=thenR_some (show priceS toks T k=_ from e)
  obtain ⟨⟨b,k2⟩,h2,e⟩:=thenR_some e
  cases e
  exact ⟨hm.lots,hm.crits,hm.reqs,hm.ties,hm.combos⟩
 by_cases h5:w=[102,111,114,109,117,108,97]
 ·subst h5;obtain rfl:=Option.some.inj (show some ((⟨true,fun _=>false,fun toks tx fr T k=>formulaS toks tx fr T k⟩:KS))=some ks from hk)
  obtain ⟨a,h1,e⟩:=thenR_some (show formulaS toks tx fr T k=_ from e)
  cases e
  exact ⟨hm.lots,hm.crits,hm.reqs,hm.ties,hm.combos⟩
 by_cases h6:w=[116,105,101]
 ·subst h6;obtain rfl:=Option.some.inj (show some ((⟨true,fun _=>false,fun toks _ _ T k=>tieS toks T k⟩:KS))=some ks from hk)
  exact (tieF_fits hn _ _ _ _ _ h (show tieS toks T k=_ from e)).mono (Nat.le_succ n)
 by_cases h7:w=[109,111,115,116]
 ·subst h7;obtain rfl:=Option.some.inj (show some ((⟨true,fun _=>false,fun toks _ _ T k=>mostS toks T k⟩:KS))=some ks from hk)
  obtain ⟨⟨a,k1⟩,h1,e⟩:=thenR_some (show mostS toks T k=_ from e)
  cases e
  exact ⟨hm.lots,hm.crits,hm.reqs,hm.ties,hm.combos⟩
 by_cases h8:w=[99,111,109,98,111]
 ·subst h8;obtain rfl:=Option.some.inj (show some ((⟨false,fun T=>decide (T.combos.length=12),fun toks _ _ T k=>comboS toks T k⟩:KS))=some ks from hk)
  obtain ⟨⟨a,k1⟩,h1,e⟩:=thenR_some (show comboS toks T k=_ from e)
  cases e
  exact ⟨hm.lots,hm.crits,hm.reqs,hm.ties,by simp;exact h.combos⟩
 by_cases h9:w=[98,117,100,103,101,116]
 ·subst h9;obtain rfl:=Option.some.inj (show some ((⟨true,fun _=>false,fun toks _ _ T k=>budgetS toks T k⟩:KS))=some ks from hk)
  obtain ⟨⟨a,k1⟩,h1,e⟩:=thenR_some (show budgetS toks T k=_ from e)
  cases e
  exact ⟨hm.lots,hm.crits,hm.reqs,hm.ties,hm.combos⟩
 by_cases h10:w=[116,105,109,101,115]
 ·subst h10;obtain rfl:=Option.some.inj (show some ((⟨true,fun _=>false,fun toks _ _ T k=>timesS toks T k⟩:KS))=some ks from hk)
  exact (timesG_fits _ _ _ _ _ h (show timesS toks T k=_ from e)).mono (Nat.le_succ n)
 unfold kS at hk
 simp only [if_neg h0,if_neg h1,if_neg h2,if_neg h3,if_neg h4,if_neg h5,if_neg h6,if_neg h7,if_neg h8,if_neg h9,if_neg h10] at hk
 cases hk
end Go.Proofs.T
