/- The line of ties. -/
import Derived.Test.YtbcanmagihejhaaGreatDoorTD
set_option linter.unusedSimpArgs false
set_option linter.unusedVariables false
namespace Go.Proofs.T
open Go Go.Ab
open Nat (reduceMul reduceEqDiff reduceAdd)
set_option maxRecDepth 100000
section
variable {Z ZL:St} {bt bx:Nat} {T:Tn} {tv:Value} {toks:List Tok} {k:Nat} {tx:By} {from':Nat} {v:Nat->Value} {fc vs:List Value}
def priceB:By:=[112,114,105,99,101]
def tieF (toks:List Tok):Nat->Tn->Nat->Except Er (Tn×Nat)
 | 0,T,k=> .ok (T,k)
 | f+1,T,k=>if (decide (T.ties.length=0)|| !decide ((tokA toks k).1=[]))=true then
    if (decide ((tokA toks k).1=priceB)||wordB (tokA toks k).1)=true then
     if T.ties.contains (tokA toks k).1=true then .error ((tokA toks k).2,13) else
      if T.ties.length<12 then tieF toks f { T with ties:=T.ties++[(tokA toks k).1] } (k+1) else .error ((tokA toks k).2,2)
    else .error ((tokA toks k).2,12)
   else .ok (T,k)
theorem tieF_succ {toks:List Tok}{f:Nat}{T:Tn}{k:Nat}:tieF toks (f+1) T k=(if (decide (T.ties.length=0)|| !decide ((tokA toks k).1=[]))=true then
   if (decide ((tokA toks k).1=priceB)||wordB (tokA toks k).1)=true then
    if T.ties.contains (tokA toks k).1=true then .error ((tokA toks k).2,13) else
     if T.ties.length<12 then tieF toks f { T with ties:=T.ties++[(tokA toks k).1] } (k+1) else .error ((tokA toks k).2,2)
   else .error ((tokA toks k).2,12)
  else .ok (T,k)):=rfl
def tieS (toks:List Tok) (T:Tn) (k:Nat):Except Er (Tn×Nat):=tieF toks (toks.length-k) T k
theorem tie_len {lo:Nat}{v:Value}{Z:St}(h:OL lo Z 1 v (rowsT T vs 3)):∃ a,v= .slice a T.ties.length T.ties.length:=by
 obtain ⟨a,ha⟩:=OL.shape h
 rw [show (rowsT T vs 3).length=T.ties.length from List.length_map ..] at ha
 exact ⟨a,ha⟩
set_option maxHeartbeats 16000000 in
theorem tie_ok (h:Ln ZL Z bt bx T tv toks k (restL tx from' bt) v fc vs) (hends:Ends toks) (hsh:Short toks) (hlen:T.ties.length<=100000) :
  Ev (go Tryz.prog HS (.fn 123) [.pointer (some ⟨bx,0,none⟩)] Z) (LnP ZL bt bx tv toks (restL tx from' bt) (tieS toks T k)) ⟨⟩:=by
 refine ev_go Tryz.func123 rfl rfl ?_
 refine gS ?_
 refine ev_loop (fun j fr Z'=>∃ T' k' v' fc' vs',j=toks.length-k'/\fr.get 0=some (.pointer (some ⟨bx,0,none⟩))/\Ln ZL Z' bt bx T' tv toks k' (restL tx from' bt) v' fc' vs'/\tieF toks j T' k'=tieS toks T k/\T'.ties.length<=100000)
  (fun r=>match tieS toks T k with
    | .ok (T',k')=>∃ fr Z' v fc vs,r=⟨.exit 0,fr,Z'⟩/\Ln ZL Z' bt bx T' tv toks k' (restL tx from' bt) v fc vs
    | .error (p,e)=>∃ fr Z',r=⟨.pan (fault p e),fr,Z'⟩/\ExtX bt ZL Z') (toks.length-k) ?_ ?_ ?_
 ·exact ⟨T,k,v,fc,vs,rfl,fR,h,rfl,hlen⟩
 ·rintro j fr Z' ⟨T',k',v',fc',vs',rfl,g0,hL,hT,hlen'⟩
  rw [<- hT]
  clear hT hlen
  obtain ⟨f,hf⟩:∃ f,toks.length-k'=f+1:=⟨toks.length-k'-1,by have:=hL.sc.k;omega⟩
  rw [hf]
  rw [tieF_succ]
  have ht0:=tokA_at hL.sc.k
  have hs:=hsh _ (List.mem_of_getElem? ht0)
  have hx:=row_of hL.sc.row
  have ht:=row_of hL.row
  unfold restL at hx
  obtain ⟨c1,c2,c3,c4,c5,rfl⟩:=fc5 hL.fx
  unfold tnR tnRow at ht
  obtain ⟨a,ha⟩:=tie_len (hL.sl 3 om)
  rw [ha] at ht
  have l1:=hL.btl;have l2:=hL.bxg;have l3:=hL.ext.n;have l4:=hL.sc.lt
  have ez:decide ((T'.ties.length:Int)=0)=decide (T'.ties.length=0):=by rw [Bool.eq_iff_iff];simp
  have e12:decide ((T'.ties.length:Int)<12)=decide (T'.ties.length<12):=by rw [Bool.eq_iff_iff];simp;omega
  generalize hw:tokA toks k'=w at *
  cases hz:decide (T'.ties.length=0) with
  | true =>
    have hq:True:=trivial
    refine gS1 (aI @g0 (aI @hx (aI @ht (aI @ez @hz)))) ?_
    rw [if_pos (by first|rfl|(rw [hq];rfl))]
    refine (peek_ok hL.sc ht0).mono ?_
    rintro r ⟨Z2,rfl,hE2⟩
    have h2:=hL.stepE hE2
    have hx2:=row_of h2.sc.row
    have ht2:=row_of h2.row
    unfold restL at hx2
    unfold tnR tnRow at ht2
    rw [ha] at ht2
    have hpp:decide (w.1=[112,114,105,99,101])=decide (w.1=priceB):=rfl
    cases hp:decide (w.1=priceB) with
    | true =>
      refine gS1 (aI @g0 (aI @hpp @hp)) ?_
      refine (need_ok h2.sc ht0).mono ?_
      rintro r (⟨hok,rfl⟩|⟨hok,-⟩)
      case inr=>cases hok
      rw [if_pos (by rfl)]
      refine gS1 (aI @g0 (aI @hx2 @ht2)) ?_
      have hst:Strs Z2 (.slice a T'.ties.length T'.ties.length) T'.ties:=by rw [<- ha];exact OL.sl (h2.sl 3 om)
      refine (contains_strings hst om).mono ?_
      rintro r rfl
      refine gS1 @g0 ?_
      refine (need_ok h2.sc ht0).mono ?_
      rintro r (⟨hc,rfl⟩|⟨hc,Z5,rfl,hE5⟩)
      case inr =>
       refine gS ?_
       refine Must.intro (by kernel_rfl) ?_
       refine Must.intro (by (repeat first|simp (disch:=omega) only [as_read,as_upd,as_newb,rok_read,rok_eff,rok_nil,bi_true,as_nil,as_e (Ext.refl Z2),as_e hE5]|rw [as_ord (by kernel_rfl)]);first|done|rfl) ?_
       refine gS ?_
       rw [if_pos (by simpa using hc)]
       exact ⟨_,_,rfl,(h2.stepE hE5).ext⟩
      rw [if_neg (by simpa using hc)]
      refine gS1 (aI @g0 (aI @hx2 @ht2)) ?_
      refine Must.intro (by (repeat first|simp (disch:=omega) only [as_read,as_upd,as_newb,rok_read,rok_eff,rok_nil,bi_true,as_nil,as_e (Ext.refl Z2)]|rw [as_ord (by kernel_rfl)]);first|done|rfl) ?_
      refine gS1 (aI @g0 (aI @hx2 (aI @ht2 @e12))) ?_
      refine (need_ok h2.sc ht0).mono ?_
      rintro r (⟨hc,rfl⟩|⟨hc,Z5,rfl,hE5⟩)
      case inr =>
       refine gS ?_
       refine Must.intro (by kernel_rfl) ?_
       refine Must.intro (by (repeat first|simp (disch:=omega) only [as_read,as_upd,as_newb,rok_read,rok_eff,rok_nil,bi_true,as_nil,as_e (Ext.refl Z2),as_e hE5]|rw [as_ord (by kernel_rfl)]);first|done|rfl) ?_
       refine gS ?_
       rw [if_neg (of_decide_eq_false hc)]
       exact ⟨_,_,rfl,(h2.stepE hE5).ext⟩
      rw [if_pos (of_decide_eq_true hc)]
      refine gS1 (aI @g0 (aI @hx2 @ht2)) ?_
      refine Must.intro (by (repeat first|simp (disch:=omega) only [as_read,as_upd,as_newb,rok_read,rok_eff,rok_nil,bi_true,as_nil,as_e (Ext.refl Z2)]|rw [as_ord (by kernel_rfl)]);first|done|rfl) ?_
      refine gS1 (aI @g0 (aI @hx2 @ht2)) ?_
      refine (take_ok h2.sc ht0).mono ?_
      rintro r ⟨Z6,rfl,hE6,q6⟩
      have h6:=h2.step hE6 q6 (hends k' _ ht0 (by rw [of_decide_eq_true hp];decide))
      refine gU1 (aI @splice_succ (aI @ap22 (aI @ap28 (aI @ap29 (aI @ap30 (aI @ap33 (aI @ap37 (aI @ap43 (aI @ap97 (aI @ap202 @g0)))))))))) ?_
      have h7:=h6.stepE (Ext.new (t:=none) Z6 [str w.1])
      have hl0:=h7.sl 3 om
      have d1:=h7.dx 3 om
      rw [ha] at hl0 d1
      refine ev_append (lo:=ZL.n) (rows:=T'.ties.map fun s=>[str s]) (row:=[str w.1]) (fun _ _ _ _=>ap36) hl0 (row_new_same (Nat.le_refl _) (Nat.le_refl _)) (sub_full (by simp) (by simp)) (by rw [List.length_map];omega) (by have:=h7.ext.n;simp at this ⊢;omega) ?_
      intro v9 Z9 g1 g2 g3
      have hbt:bt<Z6.n:=Nat.lt_of_lt_of_le h6.btl h6.ext.n
      have ro:Z9.orow bt=some (tnR T' v' [c1,c2,c3,c4,c5]):=by
       rw [orow_congr (g2.same bt (by simp;omega) fun e=>by have:=(hl0.blk e).1;omega)];exact h7.row
      obtain ⟨a',rfl⟩:=OL.shape g1
      have h10:=h7.app (T':={ T' with ties:=T'.ties++[w.1] }) (vs':=vs') (i:=3) om (by rw [ha];exact g2) (by show OL _ _ 1 _ (List.map _ _);rw [List.map_append];exact g1) (by intro j hj hne;match j,hj,hne with|0,_,_=>rfl|1,_,_=>rfl|2,_,_=>rfl|4,_,_=>rfl) rfl h7.iv
      unfold tnR tnRow at ro
      refine gS1 @ro ?_
      refine Must.intro (by (repeat first|simp (disch:=omega) only [as_read,as_upd,as_newb,rok_read,rok_eff,rok_nil,bi_true,as_nil,as_x hE6,as_bt h2 h6,as_app g2 d1]|rw [as_ord (by kernel_rfl)]);first|done|rfl) ?_
      refine gS1 @lp_normal ?_
      refine ⟨f,om,_,k'+1,_,_,_,om,fR1 g0,h10,rfl,?_⟩
      rw [List.length_append]
      have:=of_decide_eq_true hc
      simp;omega
    | false =>
      refine gS1 (aI @g0 (aI @hpp @hp)) ?_
      refine (isword_ok om).mono ?_
      rintro r ⟨Z3,rfl,hE3⟩
      have h3:=h2.stepE hE3
      refine gS ?_
      refine (need_ok h3.sc ht0).mono ?_
      rintro r (⟨hok,rfl⟩|⟨hok,Z4,rfl,hE4⟩)
      case inr =>
       refine gS ?_
       refine Must.intro (by kernel_rfl) ?_
       refine gS ?_
       rw [if_neg (by rw [hok];simp)]
       exact ⟨_,_,rfl,(h3.stepE hE4).ext⟩
      rw [if_pos (by rw [hok];rfl)]
      have hx3:=row_of h3.sc.row
      have ht3:=row_of h3.row
      unfold restL at hx3
      unfold tnR tnRow at ht3
      rw [ha] at ht3
      refine gS1 (aI @g0 (aI @hx3 @ht3)) ?_
      have hst:Strs Z3 (.slice a T'.ties.length T'.ties.length) T'.ties:=by rw [<- ha];exact OL.sl (h3.sl 3 om)
      refine (contains_strings hst om).mono ?_
      rintro r rfl
      refine gS1 @g0 ?_
      refine (need_ok h3.sc ht0).mono ?_
      rintro r (⟨hc,rfl⟩|⟨hc,Z5,rfl,hE5⟩)
      case inr =>
       refine gS ?_
       refine Must.intro (by kernel_rfl) ?_
       refine Must.intro (by (repeat first|simp (disch:=omega) only [as_read,as_upd,as_newb,rok_read,rok_eff,rok_nil,bi_true,as_nil,as_e (Ext.refl Z3),as_e hE5]|rw [as_ord (by kernel_rfl)]);first|done|rfl) ?_
       refine gS ?_
       rw [if_pos (by simpa using hc)]
       exact ⟨_,_,rfl,(h3.stepE hE5).ext⟩
      rw [if_neg (by simpa using hc)]
      refine gS1 (aI @g0 (aI @hx3 @ht3)) ?_
      refine Must.intro (by (repeat first|simp (disch:=omega) only [as_read,as_upd,as_newb,rok_read,rok_eff,rok_nil,bi_true,as_nil,as_e (Ext.refl Z3)]|rw [as_ord (by kernel_rfl)]);first|done|rfl) ?_
      refine gS1 (aI @g0 (aI @hx3 (aI @ht3 @e12))) ?_
      refine (need_ok h3.sc ht0).mono ?_
      rintro r (⟨hc,rfl⟩|⟨hc,Z5,rfl,hE5⟩)
      case inr =>
       refine gS ?_
       refine Must.intro (by kernel_rfl) ?_
       refine Must.intro (by (repeat first|simp (disch:=omega) only [as_read,as_upd,as_newb,rok_read,rok_eff,rok_nil,bi_true,as_nil,as_e (Ext.refl Z3),as_e hE5]|rw [as_ord (by kernel_rfl)]);first|done|rfl) ?_
       refine gS ?_
       rw [if_neg (of_decide_eq_false hc)]
       exact ⟨_,_,rfl,(h3.stepE hE5).ext⟩
      rw [if_pos (of_decide_eq_true hc)]
      refine gS1 (aI @g0 (aI @hx3 @ht3)) ?_
      refine Must.intro (by (repeat first|simp (disch:=omega) only [as_read,as_upd,as_newb,rok_read,rok_eff,rok_nil,bi_true,as_nil,as_e (Ext.refl Z3)]|rw [as_ord (by kernel_rfl)]);first|done|rfl) ?_
      refine gS1 (aI @g0 (aI @hx3 @ht3)) ?_
      refine (take_ok h3.sc ht0).mono ?_
      rintro r ⟨Z6,rfl,hE6,q6⟩
      have h6:=h3.step hE6 q6 (hends k' _ ht0 (wordB_ne hok))
      refine gU1 (aI @splice_succ (aI @ap22 (aI @ap28 (aI @ap29 (aI @ap30 (aI @ap33 (aI @ap37 (aI @ap43 (aI @ap97 (aI @ap202 @g0)))))))))) ?_
      have h7:=h6.stepE (Ext.new (t:=none) Z6 [str w.1])
      have hl0:=h7.sl 3 om
      have d1:=h7.dx 3 om
      rw [ha] at hl0 d1
      refine ev_append (lo:=ZL.n) (rows:=T'.ties.map fun s=>[str s]) (row:=[str w.1]) (fun _ _ _ _=>ap36) hl0 (row_new_same (Nat.le_refl _) (Nat.le_refl _)) (sub_full (by simp) (by simp)) (by rw [List.length_map];omega) (by have:=h7.ext.n;simp at this ⊢;omega) ?_
      intro v9 Z9 g1 g2 g3
      have hbt:bt<Z6.n:=Nat.lt_of_lt_of_le h6.btl h6.ext.n
      have ro:Z9.orow bt=some (tnR T' v' [c1,c2,c3,c4,c5]):=by
       rw [orow_congr (g2.same bt (by simp;omega) fun e=>by have:=(hl0.blk e).1;omega)];exact h7.row
      obtain ⟨a',rfl⟩:=OL.shape g1
      have h10:=h7.app (T':={ T' with ties:=T'.ties++[w.1] }) (vs':=vs') (i:=3) om (by rw [ha];exact g2) (by show OL _ _ 1 _ (List.map _ _);rw [List.map_append];exact g1) (by intro j hj hne;match j,hj,hne with|0,_,_=>rfl|1,_,_=>rfl|2,_,_=>rfl|4,_,_=>rfl) rfl h7.iv
      unfold tnR tnRow at ro
      refine gS1 @ro ?_
      refine Must.intro (by (repeat first|simp (disch:=omega) only [as_read,as_upd,as_newb,rok_read,rok_eff,rok_nil,bi_true,as_nil,as_x hE6,as_bt h3 h6,as_app g2 d1]|rw [as_ord (by kernel_rfl)]);first|done|rfl) ?_
      refine gS1 @lp_normal ?_
      refine ⟨f,om,_,k'+1,_,_,_,om,fR1 g0,h10,rfl,?_⟩
      rw [List.length_append]
      have:=of_decide_eq_true hc
      simp;omega
  | false =>
    refine gS1 (aI @g0 (aI @hx (aI @ht (aI @ez @hz)))) ?_
    refine (peek_ok hL.sc ht0).mono ?_
    rintro r ⟨Z1,rfl,hE1⟩
    have h1:=hL.stepE hE1
    cases hq:decide (w.1=[]) with
    | true =>
      refine gS1 (aI @g0 (aI @hq @lp_exit)) ?_
      rw [if_neg (by simp)]
      exact ⟨_,_,_,_,_,rfl,h1⟩
    | false =>
    refine gS1 (aI @g0 @hq) ?_
    rw [if_pos (by first|rfl|(rw [hq];rfl))]
    refine (peek_ok h1.sc ht0).mono ?_
    rintro r ⟨Z2,rfl,hE2⟩
    have h2:=h1.stepE hE2
    have hx2:=row_of h2.sc.row
    have ht2:=row_of h2.row
    unfold restL at hx2
    unfold tnR tnRow at ht2
    rw [ha] at ht2
    have hpp:decide (w.1=[112,114,105,99,101])=decide (w.1=priceB):=rfl
    cases hp:decide (w.1=priceB) with
    | true =>
      refine gS1 (aI @g0 (aI @hpp @hp)) ?_
      refine (need_ok h2.sc ht0).mono ?_
      rintro r (⟨hok,rfl⟩|⟨hok,-⟩)
      case inr=>cases hok
      rw [if_pos (by rfl)]
      refine gS1 (aI @g0 (aI @hx2 @ht2)) ?_
      have hst:Strs Z2 (.slice a T'.ties.length T'.ties.length) T'.ties:=by rw [<- ha];exact OL.sl (h2.sl 3 om)
      refine (contains_strings hst om).mono ?_
      rintro r rfl
      refine gS1 @g0 ?_
      refine (need_ok h2.sc ht0).mono ?_
      rintro r (⟨hc,rfl⟩|⟨hc,Z5,rfl,hE5⟩)
      case inr =>
       refine gS ?_
       refine Must.intro (by kernel_rfl) ?_
       refine Must.intro (by (repeat first|simp (disch:=omega) only [as_read,as_upd,as_newb,rok_read,rok_eff,rok_nil,bi_true,as_nil,as_e (Ext.refl Z2),as_e hE5]|rw [as_ord (by kernel_rfl)]);first|done|rfl) ?_
       refine gS ?_
       rw [if_pos (by simpa using hc)]
       exact ⟨_,_,rfl,(h2.stepE hE5).ext⟩
      rw [if_neg (by simpa using hc)]
      refine gS1 (aI @g0 (aI @hx2 @ht2)) ?_
      refine Must.intro (by (repeat first|simp (disch:=omega) only [as_read,as_upd,as_newb,rok_read,rok_eff,rok_nil,bi_true,as_nil,as_e (Ext.refl Z2)]|rw [as_ord (by kernel_rfl)]);first|done|rfl) ?_
      refine gS1 (aI @g0 (aI @hx2 (aI @ht2 @e12))) ?_
      refine (need_ok h2.sc ht0).mono ?_
      rintro r (⟨hc,rfl⟩|⟨hc,Z5,rfl,hE5⟩)
      case inr =>
       refine gS ?_
       refine Must.intro (by kernel_rfl) ?_
       refine Must.intro (by (repeat first|simp (disch:=omega) only [as_read,as_upd,as_newb,rok_read,rok_eff,rok_nil,bi_true,as_nil,as_e (Ext.refl Z2),as_e hE5]|rw [as_ord (by kernel_rfl)]);first|done|rfl) ?_
       refine gS ?_
       rw [if_neg (of_decide_eq_false hc)]
       exact ⟨_,_,rfl,(h2.stepE hE5).ext⟩
      rw [if_pos (of_decide_eq_true hc)]
      refine gS1 (aI @g0 (aI @hx2 @ht2)) ?_
      refine Must.intro (by (repeat first|simp (disch:=omega) only [as_read,as_upd,as_newb,rok_read,rok_eff,rok_nil,bi_true,as_nil,as_e (Ext.refl Z2)]|rw [as_ord (by kernel_rfl)]);first|done|rfl) ?_
      refine gS1 (aI @g0 (aI @hx2 @ht2)) ?_
      refine (take_ok h2.sc ht0).mono ?_
      rintro r ⟨Z6,rfl,hE6,q6⟩
      have h6:=h2.step hE6 q6 (hends k' _ ht0 (by rw [of_decide_eq_true hp];decide))
      refine gU1 (aI @splice_succ (aI @ap22 (aI @ap28 (aI @ap29 (aI @ap30 (aI @ap33 (aI @ap37 (aI @ap43 (aI @ap97 (aI @ap202 @g0)))))))))) ?_
      have h7:=h6.stepE (Ext.new (t:=none) Z6 [str w.1])
      have hl0:=h7.sl 3 om
      have d1:=h7.dx 3 om
      rw [ha] at hl0 d1
      refine ev_append (lo:=ZL.n) (rows:=T'.ties.map fun s=>[str s]) (row:=[str w.1]) (fun _ _ _ _=>ap36) hl0 (row_new_same (Nat.le_refl _) (Nat.le_refl _)) (sub_full (by simp) (by simp)) (by rw [List.length_map];omega) (by have:=h7.ext.n;simp at this ⊢;omega) ?_
      intro v9 Z9 g1 g2 g3
      have hbt:bt<Z6.n:=Nat.lt_of_lt_of_le h6.btl h6.ext.n
      have ro:Z9.orow bt=some (tnR T' v' [c1,c2,c3,c4,c5]):=by
       rw [orow_congr (g2.same bt (by simp;omega) fun e=>by have:=(hl0.blk e).1;omega)];exact h7.row
      obtain ⟨a',rfl⟩:=OL.shape g1
      have h10:=h7.app (T':={ T' with ties:=T'.ties++[w.1] }) (vs':=vs') (i:=3) om (by rw [ha];exact g2) (by show OL _ _ 1 _ (List.map _ _);rw [List.map_append];exact g1) (by intro j hj hne;match j,hj,hne with|0,_,_=>rfl|1,_,_=>rfl|2,_,_=>rfl|4,_,_=>rfl) rfl h7.iv
      unfold tnR tnRow at ro
      refine gS1 @ro ?_
      refine Must.intro (by (repeat first|simp (disch:=omega) only [as_read,as_upd,as_newb,rok_read,rok_eff,rok_nil,bi_true,as_nil,as_x hE6,as_bt h2 h6,as_app g2 d1]|rw [as_ord (by kernel_rfl)]);first|done|rfl) ?_
      refine gS1 @lp_normal ?_
      refine ⟨f,om,_,k'+1,_,_,_,om,fR1 g0,h10,rfl,?_⟩
      rw [List.length_append]
      have:=of_decide_eq_true hc
      simp;omega
    | false =>
      refine gS1 (aI @g0 (aI @hpp @hp)) ?_
      refine (isword_ok om).mono ?_
      rintro r ⟨Z3,rfl,hE3⟩
      have h3:=h2.stepE hE3
      refine gS ?_
      refine (need_ok h3.sc ht0).mono ?_
      rintro r (⟨hok,rfl⟩|⟨hok,Z4,rfl,hE4⟩)
      case inr =>
       refine gS ?_
       refine Must.intro (by kernel_rfl) ?_
       refine gS ?_
       rw [if_neg (by rw [hok];simp)]
       exact ⟨_,_,rfl,(h3.stepE hE4).ext⟩
      rw [if_pos (by rw [hok];rfl)]
      have hx3:=row_of h3.sc.row
      have ht3:=row_of h3.row
      unfold restL at hx3
      unfold tnR tnRow at ht3
      rw [ha] at ht3
      refine gS1 (aI @g0 (aI @hx3 @ht3)) ?_
      have hst:Strs Z3 (.slice a T'.ties.length T'.ties.length) T'.ties:=by rw [<- ha];exact OL.sl (h3.sl 3 om)
      refine (contains_strings hst om).mono ?_
      rintro r rfl
      refine gS1 @g0 ?_
      refine (need_ok h3.sc ht0).mono ?_
      rintro r (⟨hc,rfl⟩|⟨hc,Z5,rfl,hE5⟩)
      case inr =>
       refine gS ?_
       refine Must.intro (by kernel_rfl) ?_
       refine Must.intro (by (repeat first|simp (disch:=omega) only [as_read,as_upd,as_newb,rok_read,rok_eff,rok_nil,bi_true,as_nil,as_e (Ext.refl Z3),as_e hE5]|rw [as_ord (by kernel_rfl)]);first|done|rfl) ?_
       refine gS ?_
       rw [if_pos (by simpa using hc)]
       exact ⟨_,_,rfl,(h3.stepE hE5).ext⟩
      rw [if_neg (by simpa using hc)]
      refine gS1 (aI @g0 (aI @hx3 @ht3)) ?_
      refine Must.intro (by (repeat first|simp (disch:=omega) only [as_read,as_upd,as_newb,rok_read,rok_eff,rok_nil,bi_true,as_nil,as_e (Ext.refl Z3)]|rw [as_ord (by kernel_rfl)]);first|done|rfl) ?_
      refine gS1 (aI @g0 (aI @hx3 (aI @ht3 @e12))) ?_
      refine (need_ok h3.sc ht0).mono ?_
      rintro r (⟨hc,rfl⟩|⟨hc,Z5,rfl,hE5⟩)
      case inr =>
       refine gS ?_
       refine Must.intro (by kernel_rfl) ?_
       refine Must.intro (by (repeat first|simp (disch:=omega) only [as_read,as_upd,as_newb,rok_read,rok_eff,rok_nil,bi_true,as_nil,as_e (Ext.refl Z3),as_e hE5]|rw [as_ord (by kernel_rfl)]);first|done|rfl) ?_
       refine gS ?_
       rw [if_neg (of_decide_eq_false hc)]
       exact ⟨_,_,rfl,(h3.stepE hE5).ext⟩
      rw [if_pos (of_decide_eq_true hc)]
      refine gS1 (aI @g0 (aI @hx3 @ht3)) ?_
      refine Must.intro (by (repeat first|simp (disch:=omega) only [as_read,as_upd,as_newb,rok_read,rok_eff,rok_nil,bi_true,as_nil,as_e (Ext.refl Z3)]|rw [as_ord (by kernel_rfl)]);first|done|rfl) ?_
      refine gS1 (aI @g0 (aI @hx3 @ht3)) ?_
      refine (take_ok h3.sc ht0).mono ?_
      rintro r ⟨Z6,rfl,hE6,q6⟩
      have h6:=h3.step hE6 q6 (hends k' _ ht0 (wordB_ne hok))
      refine gU1 (aI @splice_succ (aI @ap22 (aI @ap28 (aI @ap29 (aI @ap30 (aI @ap33 (aI @ap37 (aI @ap43 (aI @ap97 (aI @ap202 @g0)))))))))) ?_
      have h7:=h6.stepE (Ext.new (t:=none) Z6 [str w.1])
      have hl0:=h7.sl 3 om
      have d1:=h7.dx 3 om
      rw [ha] at hl0 d1
      refine ev_append (lo:=ZL.n) (rows:=T'.ties.map fun s=>[str s]) (row:=[str w.1]) (fun _ _ _ _=>ap36) hl0 (row_new_same (Nat.le_refl _) (Nat.le_refl _)) (sub_full (by simp) (by simp)) (by rw [List.length_map];omega) (by have:=h7.ext.n;simp at this ⊢;omega) ?_
      intro v9 Z9 g1 g2 g3
      have hbt:bt<Z6.n:=Nat.lt_of_lt_of_le h6.btl h6.ext.n
      have ro:Z9.orow bt=some (tnR T' v' [c1,c2,c3,c4,c5]):=by
       rw [orow_congr (g2.same bt (by simp;omega) fun e=>by have:=(hl0.blk e).1;omega)];exact h7.row
      obtain ⟨a',rfl⟩:=OL.shape g1
      have h10:=h7.app (T':={ T' with ties:=T'.ties++[w.1] }) (vs':=vs') (i:=3) om (by rw [ha];exact g2) (by show OL _ _ 1 _ (List.map _ _);rw [List.map_append];exact g1) (by intro j hj hne;match j,hj,hne with|0,_,_=>rfl|1,_,_=>rfl|2,_,_=>rfl|4,_,_=>rfl) rfl h7.iv
      unfold tnR tnRow at ro
      refine gS1 @ro ?_
      refine Must.intro (by (repeat first|simp (disch:=omega) only [as_read,as_upd,as_newb,rok_read,rok_eff,rok_nil,bi_true,as_nil,as_x hE6,as_bt h3 h6,as_app g2 d1]|rw [as_ord (by kernel_rfl)]);first|done|rfl) ?_
      refine gS1 @lp_normal ?_
      refine ⟨f,om,_,k'+1,_,_,_,om,fR1 g0,h10,rfl,?_⟩
      rw [List.length_append]
      have:=of_decide_eq_true hc
      simp;omega
 ·intro r
  cases hR:tieS toks T k with
  | error pe =>
    obtain ⟨p,e⟩:=pe
    rintro ⟨fr,Z',rfl,hE⟩
    refine gS ?_
    exact ⟨_,rfl,hE⟩
  | ok ak =>
    obtain ⟨T',k'⟩:=ak
    rintro ⟨fr,Z',v',fc',vs',rfl,hL⟩
    refine gS1 @Tryz.results123 ?_
    exact ⟨_,_,_,_,rfl,hL⟩
end
end Go.Proofs.T
namespace Go.Proofs.T
open Go Go.Ab
open Nat (reduceMul reduceEqDiff reduceAdd)
set_option maxRecDepth 100000
section
variable {Z:St}
def amongI (l:List Int) (s:Int):Nat->Bool
 | 0=>false
 | k+1=>amongI l s k||decide (l[k]? =some s)
theorem amongI_all (l:List Int) (s:Int) (k:Nat):amongI l s k=true↔∃ i,i<k/\l[i]? =some s:=by
 induction k with
 | zero=>simp [amongI]
 | succ k ih =>
   simp only [amongI,Bool.or_eq_true,ih,decide_eq_true_iff]
   constructor
   ·rintro (⟨i,h1,h2⟩|h)
    ·exact ⟨i,om,h2⟩
    ·exact ⟨k,om,h⟩
   ·rintro ⟨i,h1,h2⟩
    by_cases e:i=k
    ·subst e;exact .inr h2
    ·exact .inl ⟨i,om,h2⟩
theorem amongI_contains (l:List Int) (s:Int):amongI l s l.length=l.contains s:=by
 rw [Bool.eq_iff_iff,amongI_all,List.contains_iff_mem,List.mem_iff_getElem?]
 constructor
 ·rintro ⟨i,-,h⟩;exact ⟨i,h⟩
 ·rintro ⟨i,h⟩
  obtain ⟨hlt,_⟩:=List.getElem?_eq_some_iff.1 h
  exact ⟨i,hlt,h⟩
theorem index_ints {v:Value}{l:List Int}{s:Int}(hl:Ints Z v l) (hn:l.length<=4294967296) :
  Ev (go Tryz.prog HS (.fn 198) [v,.int .i64 s] Z) (fun r=>∃ n:Int,r=⟨false,.int .i64 n,Z⟩/\(0<=n↔l.contains s=true)/\ -1<=n/\n<4294967297) ⟨⟩:=by
 obtain ⟨a,c,b,off,cells,rfl,h1,h2⟩:=SL.use hl
 rw [List.length_map] at *
 refine ev_go Tryz.func198 rfl rfl ?_
 refine gS ?_
 refine ev_loop (fun j fr Z'=>∃ k,j=l.length-k/\k<=l.length/\fr.get 0=some (.slice a l.length c)/\fr.get 1=some (.int .i64 s)/\fr.get 7=some (.int .i64 l.length)/\fr.get 8=some (.int .i64 k)/\Z'=Z/\amongI l s k=false)
  (fun r=>(∃ fr,r=⟨.exit 0,fr,Z⟩/\amongI l s l.length=false)\/(∃ fr k,r=⟨.ret,fr,Z⟩/\fr.get 4=some (.int .i64 (k:Nat))/\k<l.length/\l.contains s=true)) l.length ?_ ?_ ?_
 ·refine ⟨0,rfl,om,?_,?_,?_,?_,rfl,rfl⟩
  all_goals exact fR
 ·rintro j fr Z' ⟨k,rfl,hk,g0,g1,g7,g8,rfl,hm⟩
  by_cases hc:k<l.length
  ·obtain ⟨sp,rfl,hb,hr⟩:=h1 om
   obtain ⟨x,hx⟩:∃ x,l[k]? =some x:=⟨_,List.getElem?_eq_getElem hc⟩
   have h2:=h2 k _ (by rw [List.getElem?_map,hx];rfl)
   rw [Nat.mul_one] at h2
   have hc':decide (k<l.length)=true:=by simpa using hc
   refine gS1 (aI @g0 (aI @g1 (aI @g7 (aI @g8 (aI @lt_nat (aI @hc' (aI @hr (aI @Nat.mul_one @h2)))))))) ?_
   refine Br.intro (fun hd=>?_) (fun hd=>?_)
   ·obtain rfl:s=x:=by simpa using hd
    refine gS1 (aI @g0 (aI @g1 (aI @g7 (aI @g8 @lp_ret)))) ?_
    refine .inr ⟨_,k,rfl,fR,hc,?_⟩
    rw [List.contains_iff_mem]
    exact List.mem_of_getElem? hx
   ·have hd:s≠x:=by simpa using hd
    refine gS1 (aI @g0 (aI @g1 (aI @g7 (aI @g8 (aI @nat_succ @lp_normal))))) ?_
    refine ⟨l.length-(k+1),om,k+1,rfl,om,fR1 g0,fR1 g1,fR1 g7,fR,by trivial,?_⟩
    show (amongI l s k||decide (l[k]? =some s))=false
    rw [hm,hx]
    simpa using fun h=>hd h.symm
  ·have hc':decide (k<l.length)=false:=by simpa using hc
   obtain rfl:k=l.length:=om
   refine gS1 (aI @g0 (aI @g1 (aI @g7 (aI @g8 (aI @lt_nat (aI @hc' @lp_exit)))))) ?_
   exact .inl ⟨_,rfl,hm⟩
 ·rintro r (⟨fr,rfl,hm⟩|⟨fr,k,rfl,g4,hk,hm⟩)
  ·refine gS1 @Tryz.results198 ?_
   refine ⟨-1,rfl,?_,om,om⟩
   rw [<- amongI_contains,hm]
   simp
  ·refine gS1 (aI @Tryz.results198 @g4) ?_
   exact ⟨k,rfl,by rw [hm];simp,om,om⟩
theorem contains_ints {v:Value}{l:List Int}{s:Int}(hl:Ints Z v l) (hn:l.length<=4294967296) :
  Ev (go Tryz.prog HS (.fn 166) [v,.int .i64 s] Z) (fun r=>r=⟨false,.bool (l.contains s),Z⟩) ⟨⟩:=by
 have hl':=hl
 obtain ⟨a,c,b,off,cells,rfl,h1,h2⟩:=SL.use hl
 rw [List.length_map] at *
 refine ev_go Tryz.func166 rfl rfl ?_
 refine gS ?_
 refine (index_ints hl' hn).mono ?_
 rintro r ⟨n,rfl,h3,h4,h5⟩
 have hb:(!decide (n<0))=l.contains s:=by
  rw [Bool.eq_iff_iff,<- h3];simp
 refine gS1 (aI @Tryz.results166 @hb) ?_;try exact ⟨⟩
end
def comboF (toks:List Tok):Nat->List Int->Nat->Except Er (List Int×Nat)
 | 0,l,k=> .ok (l,k)
 | f+1,l,k=>if (decide (l.length<2)|| !decide ((tokA toks k).1=[]))=true then
    thenR (rdNum toks 1 (fun n=> !(l.contains n)) k) fun (n,k1)=>if l.length=12 then .error ((tokA toks k).2,2) else comboF toks f (l++[(n:Int)]) k1
   else .ok (l,k)
theorem comboF_succ {toks:List Tok}{f:Nat}{l:List Int}{k:Nat}:comboF toks (f+1) l k=(if (decide (l.length<2)|| !decide ((tokA toks k).1=[]))=true then
   thenR (rdNum toks 1 (fun n=> !(l.contains n)) k) fun (n,k1)=>if l.length=12 then .error ((tokA toks k).2,2) else comboF toks f (l++[(n:Int)]) k1
  else .ok (l,k)):=rfl
def comboS (toks:List Tok) (T:Tn) (k:Nat):Except Er (Tn×Nat):=thenR (comboF toks (toks.length-k) [] k) fun (l,k)=> .ok ({ T with combos:=T.combos++[l] },k)
theorem rd1_next {α:Type}{toks:List Tok}{k k1:Nat}{R:Except Int α}{a:α}(h:rd1 toks k R= .ok (a,k1)):k1=k+1:=by
 cases R with
 | ok b=>cases h;rfl
 | error e=>cases h
section
variable {Z ZL:St} {bt bx:Nat} {T:Tn} {tv:Value} {toks:List Tok} {k:Nat} {tx:By} {from':Nat} {v:Nat->Value} {fc vs:List Value}
theorem combonew_ok {n:Nat}{c:Nat}{w:Value}{l:List Int}(hc:Z.row c=some [w]) (hw:Ints Z w l) (hl:l.length<=100) :
  Ev (go Tryz.prog HS (.fn 165) [.int .i64 (n:Nat),.pointer (some ⟨c,0,none⟩)] Z) (fun r=>∃ Z2,r=⟨false,.bool (!(l.contains (n:Int))),Z2⟩/\Ext Z Z2) ⟨⟩:=by
 obtain ⟨a,cc,b,off,cells,rfl,h1,h2⟩:=SL.use hw
 rw [List.length_map] at *
 refine ev_go Tryz.func165 rfl rfl ?_
 refine gS1 @hc ?_
 refine (contains_ints hw om).mono ?_
 rintro r rfl
 refine gS1 @Tryz.results165 ?_
 exact ⟨_,rfl,.refl _⟩
set_option maxHeartbeats 16000000 in
theorem combo_ok (h:Ln ZL Z bt bx T tv toks k (restL tx from' bt) v fc vs) (hends:Ends toks) (hsh:Short toks) (hlen:vs.length<=100000) :
  Ev (go Tryz.prog HS (.fn 125) [.pointer (some ⟨bx,0,none⟩)] Z) (LnP ZL bt bx tv toks (restL tx from' bt) (comboS toks T k)) ⟨⟩:=by
 have m1:=h.btl;have m2:=h.bxg;have m3:=h.ext.n;have m4:=h.sc.lt
 refine ev_go Tryz.func125 rfl rfl ?_
 refine gS ?_
 refine ev_loop (fun j fr Z'=>∃ l k' w,j=toks.length-k'/\fr.get 0=some (.pointer (some ⟨bx,0,none⟩))/\fr.get 2=some (.pointer (some ⟨Z.n,0,none⟩))/\ExtX bx Z Z'/\Z'.orow bx=some (tv:: .int .i64 (k':Nat)::restL tx from' bt)/\k'<toks.length /\
   Z.n<Z'.n/\Z'.orow Z.n=some [w]/\OL (Z.n+1) Z' 1 w (l.map fun n=>[.int .i64 n])/\comboF toks j l k'=comboF toks (toks.length-k) [] k/\l.length<=12)
  (fun r=>match comboF toks (toks.length-k) [] k with
    | .ok (l,k')=>∃ fr Z' w,r=⟨.exit 0,fr,Z'⟩/\fr.get 0=some (.pointer (some ⟨bx,0,none⟩))/\fr.get 2=some (.pointer (some ⟨Z.n,0,none⟩))/\ExtX bx Z Z'/\Z'.orow bx=some (tv:: .int .i64 (k':Nat)::restL tx from' bt)/\k'<toks.length /\
       Z.n<Z'.n/\Z'.orow Z.n=some [w]/\OL (Z.n+1) Z' 1 w (l.map fun n=>[.int .i64 n])
    | .error (p,e)=>∃ fr Z',r=⟨.pan (fault p e),fr,Z'⟩/\ExtX bt ZL Z') (toks.length-k) ?_ ?_ ?_
 ·exact ⟨[],k,.slice none 0 0,rfl,fR,fR,eXX,cL1 @h.sc.row,h.sc.k,by simp,cL,OL.nil,rfl,by simp⟩
 ·rintro j fr Z' ⟨l,k',w,rfl,g0,g2,hE,hq,hk,hc,ho,hol,hT,hl⟩
  rw [<- hT]
  clear hT
  obtain ⟨f,hf⟩:∃ f,toks.length-k'=f+1:=⟨toks.length-k'-1,om⟩
  rw [hf,comboF_succ]
  have hL:=h.step hE hq hk
  have ht0:=tokA_at hk
  have ho':=row_of ho
  obtain ⟨a,rfl⟩:=OL.shape hol
  rw [List.length_map] at *
  have ez:decide ((l.length:Int)<2)=decide (l.length<2):=by rw [Bool.eq_iff_iff];simp;omega
  have e12:decide ((l.length:Int)=12)=decide (l.length=12):=by rw [Bool.eq_iff_iff];simp;omega
  cases hz:decide (l.length<2) with
  | true =>
    have hq2:True:=trivial
    refine gS1 (aI @g0 (aI @g2 (aI @ho' (aI @ez @hz)))) ?_
    rw [if_pos (by first|rfl|(rw [hq2];rfl))]
    refine (peek_ok hL.sc ht0).mono ?_
    rintro r ⟨Z2,rfl,hE2⟩
    have h2:=hL.stepE hE2
    have hE2':ExtX bx Z Z2:=hE.trans (.of hE2)
    have o2:Z2.orow Z.n=some [.slice a l.length l.length]:=by rw [orow_congr (hE2.same _ om)];exact ho
    have ol2:OL (Z.n+1) Z2 1 (.slice a l.length l.length) (l.map fun n=>[.int .i64 n]):=OL.ext hol hE2
    have hn2:=hE2.n
    refine gS1 (aI @g0 @g2) ?_
    refine (numberK (fs:=[]) (cs:=[.pointer (some ⟨Z.n,0,none⟩)]) (nw:=fun n=> !(l.contains n)) h2.sc hends hsh fun Z' n hE' _=>?_).mono ?_
    ·refine combonew_ok (w:= .slice a l.length l.length) ?_ (OL.sl (OL.ext ol2 hE')) om
     rw [hE'.row om];exact row_of o2
    intro r
    cases hR:rdNum toks 1 (fun n=> !(l.contains n)) k' with
    | error pe =>
      obtain ⟨p,e⟩:=pe
      rintro ⟨Z3,rfl,hE3⟩
      refine gS1 (aI @g0 @g2) ?_
      rw [thenR_er]
      exact ⟨_,_,rfl,(h2.stepE hE3).ext⟩
    | ok ak =>
      obtain ⟨n,k1⟩:=ak
      rintro ⟨Z3,rfl,hE3,q3,hk3⟩
      rw [thenR_ok]
      try dsimp only
      have hk1:=rd1_next hR
      have hE3':=hE2'.trans hE3
      have o3:Z3.orow Z.n=some [.slice a l.length l.length]:=by rw [hE3.orow om om];exact o2
      have ol3:OL (Z.n+1) Z3 1 (.slice a l.length l.length) (l.map fun n=>[.int .i64 n]):=OL.keepX ol2 hE3 om
      have o3':=row_of o3
      have hn3:=hE3.n
      unfold natV
      cases h12:decide (l.length=12) with
      | true =>
        rw [if_pos (of_decide_eq_true h12)]
        refine gS1 (aI @g0 (aI @g2 (aI @o3' (aI @e12 @h12)))) ?_
        exact ⟨_,_,rfl,(h.step hE3' q3 hk3).ext⟩
      | false =>
        rw [if_neg (of_decide_eq_false h12)]
        refine gU1 (aI @splice_succ (aI @ap28 (aI @ap29 (aI @ap30 (aI @ap33 (aI @ap36 (aI @ap37 (aI @ap43 (aI @ap97 (aI @ap202 (aI @g0 (aI @g2 (aI @o3' (aI @e12 @h12)))))))))))))) ?_
        have ol4:=OL.ext ol3 (Ext.new (t:=none) Z3 [.int .i64 n])
        refine ev_append (lo:=Z.n+1) (rows:=l.map fun n=>[.int .i64 n]) (row:=[.int .i64 n]) (fun _ _ _ _=>ap22) (by first|exact ol4|(rw [List.length_map];exact ol4)) (row_new_same (Nat.le_refl _) (Nat.le_refl _)) (sub_full (by simp) (by simp)) (by rw [List.length_map];omega) (by simp;omega) ?_
        intro w9 Z9 d1 d2 d3
        have ro:Z9.orow Z.n=some [.slice a l.length l.length]:=by
         rw [orow_congr (d2.same _ (by simp;omega) fun e=>by have:=(ol4.blk e).1;omega)];exact cL1 o3
        have hE9:ExtX bx Z Z9:=ExtX.app d2 (hE3'.newF _) ol4 om
        have q9:Z9.orow bx=some (tv:: .int .i64 (k1:Nat)::restL tx from' bt):=by
         rw [orow_congr (d2.same bx (by simp;omega) fun e=>by have:=(ol4.blk e).1;omega)];exact cL1 q3
        obtain ⟨a',rfl⟩:=OL.shape d1
        have hn9:=d2.n
        simp at hn9
        refine gS1 (aI @g0 (aI @g2 (aI @ro @lp_normal))) ?_
        refine ⟨f,om,l++[(n:Int)],k1,_,om,fR1 g0,fR1 g2,hE9.updF om _,cL1 q9,hk3,by (try simp);omega,(by first|rfl|exact orow_upd_same),?_,rfl,?_⟩
        ·rw [List.map_append]
         exact OL.upd_ne d1 om
        ·rw [List.length_append]
         have:=of_decide_eq_false h12
         simp;omega
  | false =>
    refine gS1 (aI @g0 (aI @g2 (aI @ho' (aI @ez @hz)))) ?_
    refine (peek_ok hL.sc ht0).mono ?_
    rintro r ⟨Z1,rfl,hE1⟩
    have h1:=hL.stepE hE1
    have hE1':ExtX bx Z Z1:=hE.trans (.of hE1)
    have o1:Z1.orow Z.n=some [.slice a l.length l.length]:=by rw [orow_congr (hE1.same _ om)];exact ho
    have ol1:=OL.ext hol hE1
    have hn1:=hE1.n
    cases hq2:decide ((tokA toks k').1=[]) with
    | true =>
      refine gS1 (aI @g0 (aI @g2 (aI @hq2 @lp_exit))) ?_
      rw [if_neg (by simp)]
      exact ⟨_,_,_,rfl,fR1 g0,fR1 g2,hE1',h1.sc.row,hk,om,o1,ol1⟩
    | false =>
    refine gS1 (aI @g0 (aI @g2 @hq2)) ?_
    rw [if_pos (by first|rfl|(rw [hq2];rfl))]
    refine (peek_ok h1.sc ht0).mono ?_
    rintro r ⟨Z2,rfl,hE2⟩
    have h2:=h1.stepE hE2
    have hE2':ExtX bx Z Z2:=hE1'.trans (.of hE2)
    have o2:Z2.orow Z.n=some [.slice a l.length l.length]:=by rw [orow_congr (hE2.same _ om)];exact o1
    have ol2:OL (Z.n+1) Z2 1 (.slice a l.length l.length) (l.map fun n=>[.int .i64 n]):=OL.ext ol1 hE2
    have hn2:=hE2.n
    refine gS1 (aI @g0 @g2) ?_
    refine (numberK (fs:=[]) (cs:=[.pointer (some ⟨Z.n,0,none⟩)]) (nw:=fun n=> !(l.contains n)) h2.sc hends hsh fun Z' n hE' _=>?_).mono ?_
    ·refine combonew_ok (w:= .slice a l.length l.length) ?_ (OL.sl (OL.ext ol2 hE')) om
     rw [hE'.row om];exact row_of o2
    intro r
    cases hR:rdNum toks 1 (fun n=> !(l.contains n)) k' with
    | error pe =>
      obtain ⟨p,e⟩:=pe
      rintro ⟨Z3,rfl,hE3⟩
      refine gS1 (aI @g0 @g2) ?_
      rw [thenR_er]
      exact ⟨_,_,rfl,(h2.stepE hE3).ext⟩
    | ok ak =>
      obtain ⟨n,k1⟩:=ak
      rintro ⟨Z3,rfl,hE3,q3,hk3⟩
      rw [thenR_ok]
      try dsimp only
      have hk1:=rd1_next hR
      have hE3':=hE2'.trans hE3
      have o3:Z3.orow Z.n=some [.slice a l.length l.length]:=by rw [hE3.orow om om];exact o2
      have ol3:OL (Z.n+1) Z3 1 (.slice a l.length l.length) (l.map fun n=>[.int .i64 n]):=OL.keepX ol2 hE3 om
      have o3':=row_of o3
      have hn3:=hE3.n
      unfold natV
      cases h12:decide (l.length=12) with
      | true =>
        rw [if_pos (of_decide_eq_true h12)]
        refine gS1 (aI @g0 (aI @g2 (aI @o3' (aI @e12 @h12)))) ?_
        exact ⟨_,_,rfl,(h.step hE3' q3 hk3).ext⟩
      | false =>
        rw [if_neg (of_decide_eq_false h12)]
        refine gU1 (aI @splice_succ (aI @ap28 (aI @ap29 (aI @ap30 (aI @ap33 (aI @ap36 (aI @ap37 (aI @ap43 (aI @ap97 (aI @ap202 (aI @g0 (aI @g2 (aI @o3' (aI @e12 @h12)))))))))))))) ?_
        have ol4:=OL.ext ol3 (Ext.new (t:=none) Z3 [.int .i64 n])
        refine ev_append (lo:=Z.n+1) (rows:=l.map fun n=>[.int .i64 n]) (row:=[.int .i64 n]) (fun _ _ _ _=>ap22) (by first|exact ol4|(rw [List.length_map];exact ol4)) (row_new_same (Nat.le_refl _) (Nat.le_refl _)) (sub_full (by simp) (by simp)) (by rw [List.length_map];omega) (by simp;omega) ?_
        intro w9 Z9 d1 d2 d3
        have ro:Z9.orow Z.n=some [.slice a l.length l.length]:=by
         rw [orow_congr (d2.same _ (by simp;omega) fun e=>by have:=(ol4.blk e).1;omega)];exact cL1 o3
        have hE9:ExtX bx Z Z9:=ExtX.app d2 (hE3'.newF _) ol4 om
        have q9:Z9.orow bx=some (tv:: .int .i64 (k1:Nat)::restL tx from' bt):=by
         rw [orow_congr (d2.same bx (by simp;omega) fun e=>by have:=(ol4.blk e).1;omega)];exact cL1 q3
        obtain ⟨a',rfl⟩:=OL.shape d1
        have hn9:=d2.n
        simp at hn9
        refine gS1 (aI @g0 (aI @g2 (aI @ro @lp_normal))) ?_
        refine ⟨f,om,l++[(n:Int)],k1,_,om,fR1 g0,fR1 g2,hE9.updF om _,cL1 q9,hk3,by (try simp);omega,(by first|rfl|exact orow_upd_same),?_,rfl,?_⟩
        ·rw [List.map_append]
         exact OL.upd_ne d1 om
        ·rw [List.length_append]
         have:=of_decide_eq_false h12
         simp;omega
 ·intro r
  unfold comboS
  cases hR:comboF toks (toks.length-k) [] k with
  | error pe =>
    obtain ⟨p,e⟩:=pe
    rintro ⟨fr,Z',rfl,hE⟩
    refine gS ?_
    rw [thenR_er]
    exact ⟨_,rfl,hE⟩
  | ok ak =>
    obtain ⟨l,k1⟩:=ak
    rintro ⟨fr,Z',w,rfl,g0,g2,hE,hq,hk,hc,ho,hol⟩
    rw [thenR_ok]
    have h2:=h.step hE hq hk
    have hx:=row_of h2.sc.row
    have ht:=row_of h2.row
    have ho':=row_of ho
    unfold restL at hx
    obtain ⟨c1,c2,c3,c4,c5,rfl⟩:=fc5 h2.fx
    unfold tnR tnRow at ht
    obtain ⟨a,ha⟩:=OL.shape (h2.sl 4 om)
    rw [show (rowsT T vs 4).length=vs.length from List.length_map ..] at ha
    rw [ha] at ht
    obtain ⟨aw,rfl⟩:=OL.shape hol
    refine gU1 (aI @splice_succ (aI @ap22 (aI @ap28 (aI @ap29 (aI @ap30 (aI @ap33 (aI @ap36 (aI @ap43 (aI @ap97 (aI @ap202 (aI @g0 (aI @g2 (aI @hx (aI @ht @ho')))))))))))))) ?_
    rw [List.length_map] at *
    have h5:=h2.stepE (Ext.new (t:=none) Z' [.slice aw l.length l.length])
    have hl0:=h5.sl 4 om
    have d1:=h5.dx 4 om
    have d2:blkOf (v 4)≠some Z.n:=fun e=>by have:=((h.sl 4 om).blk e).2;omega
    rw [ha] at hl0 d1 d2
    refine ev_append (lo:=ZL.n) (rows:=vs.map fun x=>[x]) (row:=[.slice aw l.length l.length]) (fun _ _ _ _=>ap37) (by first|exact hl0|(rw [List.length_map];exact hl0)) (row_new_same (Nat.le_refl _) (Nat.le_refl _)) (sub_full (by simp) (by simp)) (by rw [List.length_map];omega) (by have:=h5.ext.n;simp at this ⊢;omega) ?_
    intro v9 Z9 g1 g2' g3
    have hn:=hE.n
    have ro:Z9.orow bt=some (tnR T v [c1,c2,c3,c4,c5]):=by
     rw [orow_congr (g2'.same bt (by simp;omega) fun e=>by have:=(hl0.blk e).1;omega)];exact h5.row
    obtain ⟨a',rfl⟩:=OL.shape g1
    have hin:Ints (hide (Z'.new [.slice aw l.length l.length] none) (held bt bx v)) (.slice aw l.length l.length) l:=by
     refine (OL.hide (OL.ext hol (Ext.new (t:=none) Z' [.slice aw l.length l.length])) fun q hq=>?_).sl
     rcases mem_held.1 hq with e|e|⟨i,hi,e⟩|e
     ·omega
     ·omega
     ·have:=((h.sl i hi).blk e).2;omega
     ·omega
    have h10:=h5.app (T':={ T with combos:=T.combos++[l] }) (vs':=vs++[.slice aw l.length l.length]) (i:=4) om (by rw [ha];exact g2') (by show OL _ _ 1 _ (List.map _ _);rw [List.map_append];exact g1) (by intro j hj hne;match j,hj,hne with|0,_,_=>rfl|1,_,_=>rfl|2,_,_=>rfl|3,_,_=>rfl|4,_,hq=>exact absurd rfl hq) rfl (All2.app hin h5.iv)
    unfold tnR tnRow at ro
    refine gS1 @ro ?_
    refine Must.intro (by (repeat first|simp (disch:=omega) only [as_read,as_upd,as_newb,rok_read,rok_eff,rok_nil,bi_true,as_nil,as_app g2' d1,as_app g2' d2]|rw [as_ord (by kernel_rfl)]);first|done|rfl) ?_
    refine gS1 @Tryz.results125 ?_
    exact ⟨_,_,_,_,rfl,h10⟩
end
end Go.Proofs.T
namespace Go.Proofs.T
open Go Go.Ab
open Nat (reduceMul reduceEqDiff reduceAdd)
set_option maxRecDepth 100000
section
variable {Z ZL:St} {bt bx:Nat} {T:Tn} {tv:Value} {toks:List Tok} {k:Nat} {tx:By} {from':Nat} {v:Nat->Value} {fc vs:List Value}
def setTime (i:Nat) (T:Tn) (n:Int):Tn:=match i with
 | 0=>{ T with t:={ T.t with q:=n } }
 | 1=>{ T with t:={ T.t with b:=n } }
 | 2=>{ T with t:={ T.t with g:=n } }
 | 3=>{ T with t:={ T.t with p:=n } }
 | _=>{ T with t:={ T.t with s:=n } }
def timesG (toks:List Tok):Nat->Tn->Nat->Except Er (Tn×Nat)
 | 0,T,k=> .ok (T,k)
 | f+1,T,k=>thenR (rdPlain toks k) fun (n,k)=>timesG toks f (setTime (4-f) T n) k
theorem timesG_succ {toks:List Tok}{f:Nat}{T:Tn}{k:Nat}:timesG toks (f+1) T k=thenR (rdPlain toks k) fun (n,k)=>timesG toks f (setTime (4-f) T n) k:=rfl
def timesS (toks:List Tok) (T:Tn) (k:Nat):Except Er (Tn×Nat):=timesG toks 5 T k
set_option maxHeartbeats 16000000 in
theorem times_ok (h:Ln ZL Z bt bx T tv toks k (restL tx from' bt) v fc vs) (hends:Ends toks) (hsh:Short toks) :
  Ev (go Tryz.prog HS (.fn 128) [.pointer (some ⟨bx,0,none⟩)] Z) (LnP ZL bt bx tv toks (restL tx from' bt) (timesS toks T k)) ⟨⟩:=by
 have m1:=h.btl;have m2:=h.bxg;have m3:=h.ext.n;have m4:=h.sc.lt
 have hx:=row_of h.sc.row
 unfold restL at hx
 refine ev_go Tryz.func128 rfl rfl ?_
 refine gS1 @hx ?_
 refine ev_count 5 (fun i fr Z'=>∃ T' k' v' fc' vs',fr.get 0=some (.pointer (some ⟨bx,0,none⟩))/\fr.get 26=some (.slice (some ⟨Z.n,0,none⟩) 5 5)/\fr.get 27=some (.int .i64 5)/\fr.get 28=some (.int .i64 (i:Nat))/\Z.n<Z'.n /\
   Z'.row Z.n=some [.pointer (some ⟨bt,15,none⟩),.pointer (some ⟨bt,16,none⟩),.pointer (some ⟨bt,17,none⟩),.pointer (some ⟨bt,18,none⟩),.pointer (some ⟨bt,19,none⟩)] /\
   Ln ZL Z' bt bx T' tv toks k' (restL tx from' bt) v' fc' vs'/\timesG toks (5-i) T' k'=timesS toks T k)
  (fun r=>match timesS toks T k with
    | .ok (T',k')=>∃ fr Z' v fc vs,r=⟨.exit 0,fr,Z'⟩/\Ln ZL Z' bt bx T' tv toks k' (restL tx from' bt) v fc vs
    | .error (p,e)=>∃ fr Z',r=⟨.pan (fault p e),fr,Z'⟩/\ExtX bt ZL Z') ?_ ?_ ?_ ?_
 ·exact ⟨T,k,v,fc,vs,fR,fR,fR,fR,by simp,cL,h.stepE (.new _ _),rfl⟩
 ·rintro i fr Z' hi ⟨T',k',v',fc',vs',g0,g26,g27,g28,hn,hr,hL,hT⟩
  rw [<- hT]
  clear hT
  have ht0:=tokA_at hL.sc.k
  have ed:decide (((i:Nat):Int)<5)=true:=by rw [decide_eq_true_iff];omega
  have ed2:decide (i<5)=true:=by rw [decide_eq_true_iff];omega
  have e1:((i:Nat):Int)+1=((i+1:Nat):Int):=om
  have hs:sub [.pointer (some ⟨bt,15,none⟩),.pointer (some ⟨bt,16,none⟩),.pointer (some ⟨bt,17,none⟩),.pointer (some ⟨bt,18,none⟩),.pointer (some ⟨bt,19,none⟩)] i 1=some [Value.pointer (some ⟨bt,15+i,none⟩)]:=by
   obtain rfl|rfl|rfl|rfl|rfl:i=0\/i=1\/i=2\/i=3\/i=4:=om
   all_goals rfl
  obtain ⟨f,hf⟩:∃ f,5-i=f+1:=⟨4-i,om⟩
  rw [hf,timesG_succ]
  have hlt:Nat.blt i 5=true:=by rw [Nat.blt_eq];exact hi
  refine gS1 (aI @g0 (aI @g26 (aI @g27 (aI @g28 (aI @hr (aI @hs (aI @ed (aI @ed2 @Nat.mul_one)))))))) ?_
  refine (plainK hL.sc hends hsh).mono ?_
  intro r
  cases hR:rdPlain toks k' with
  | error pe =>
    obtain ⟨p,e⟩:=pe
    rintro ⟨Z3,rfl,hE3⟩
    refine gS ?_
    rw [thenR_er]
    exact ⟨_,_,rfl,(hL.stepE hE3).ext⟩
  | ok ak =>
    obtain ⟨n,k1⟩:=ak
    rintro ⟨Z3,rfl,hE3,q3,hk3⟩
    rw [thenR_ok]
    try dsimp only
    have h3:=hL.step hE3 q3 hk3
    have hr3:Z3.row Z.n=_:=(hE3.row hn om).trans hr
    have hn3:=hE3.n
    obtain ⟨c1,c2,c3,c4,c5,rfl⟩:=fc5 h3.fx
    have ro:=h3.row
    have hsp:splice (tnR T' v' [c1,c2,c3,c4,c5]) (15+i) [.int .i64 (n:Nat)]=some (tnR (setTime i T' n) v' [c1,c2,c3,c4,c5]):=by
     obtain rfl|rfl|rfl|rfl|rfl:i=0\/i=1\/i=2\/i=3\/i=4:=om
     all_goals rfl
    unfold natV
    refine gS1 (aI @ro (aI @hsp (aI @g0 (aI @g26 (aI @g27 (aI @g28 @e1)))))) ?_
    have hfi:4-f=i:=om
    refine ⟨setTime i T' n,k1,v',[c1,c2,c3,c4,c5],vs',fR1 g0,fR1 g26,fR1 g27,fR,by (try simp);omega,cL1 hr3,?_,?_⟩
    ·refine h3.put (setTime i T' n) ?_ ?_ ?_
     all_goals (obtain rfl|rfl|rfl|rfl|rfl:i=0\/i=1\/i=2\/i=3\/i=4:=om)
     all_goals rfl
    ·rw [hfi,show 5-(i+1)=f by omega]
 ·rintro fr Z' ⟨T',k',v',fc',vs',g0,g26,g27,g28,hn,hr,hL,hT⟩
  rw [<- hT]
  clear hT
  have ed:decide (((5:Nat):Int)<5)=false:=rfl
  refine gS1 (aI @g0 (aI @g26 (aI @g27 (aI @g28 (aI @ed @lp_exit))))) ?_
  exact ⟨_,_,_,_,_,rfl,hL⟩
 ·intro r
  cases hR:timesS toks T k with
  | error pe =>
    obtain ⟨p,e⟩:=pe
    rintro ⟨fr,Z',rfl,hE⟩
    refine gS ?_
    exact ⟨_,rfl,hE⟩
  | ok ak =>
    obtain ⟨T',k'⟩:=ak
    rintro ⟨fr,Z',v',fc',vs',rfl,hL⟩
    refine gS1 @Tryz.results128 ?_
    exact ⟨_,_,_,_,rfl,hL⟩
end
end Go.Proofs.T
