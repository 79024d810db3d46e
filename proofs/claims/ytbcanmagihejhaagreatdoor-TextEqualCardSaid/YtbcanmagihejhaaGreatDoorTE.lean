/- The line of E9. -/
import Derived.Test.YtbcanmagihejhaaGreatDoorTD
set_option linter.unusedSimpArgs false
set_option linter.unusedVariables false
set_option maxHeartbeats 32000000
set_option maxRecDepth 100000
namespace Go.Proofs.T
open Go Go.Ab
open Nat (reduceMul reduceEqDiff reduceAdd)
section
variable {Z ZL:St} {bt bx:Nat} {T:Tn} {tv:Value} {toks:List Tok} {k:Nat} {tx:By} {from':Nat} {v:Nat->Value} {fc vs:List Value}
def Di:By:=[112,114,105,99,101]
def PA (toks:List Tok):Nat->Tn->Nat->Except Er (Tn×Nat)
 | 0,T,k=> .ok (T,k)
 | f+1,T,k=>if (decide (T.E9.length=0)|| !decide ((A9 toks k).1=[]))=true then
    if (decide ((A9 toks k).1=Di)||Y0 (A9 toks k).1)=true then
     if T.E9.contains (A9 toks k).1=true then .error ((A9 toks k).2,13) else
      if T.E9.length<12 then PA toks f { T with E9:=T.E9++[(A9 toks k).1] } (k+1) else .error ((A9 toks k).2,2)
    else .error ((A9 toks k).2,12)
   else .ok (T,k)
theorem QQ {toks:List Tok}{f:Nat}{T:Tn}{k:Nat}:PA toks (f+1) T k=(if (decide (T.E9.length=0)|| !decide ((A9 toks k).1=[]))=true then
   if (decide ((A9 toks k).1=Di)||Y0 (A9 toks k).1)=true then
    if T.E9.contains (A9 toks k).1=true then .error ((A9 toks k).2,13) else
     if T.E9.length<12 then PA toks f { T with E9:=T.E9++[(A9 toks k).1] } (k+1) else .error ((A9 toks k).2,2)
   else .error ((A9 toks k).2,12)
  else .ok (T,k)):=rfl
def Rn (toks:List Tok) (T:Tn) (k:Nat):Except Er (Tn×Nat):=PA toks (toks.length-k) T k
theorem oQ {lo:Nat}{v:Value}{Z:St}(h:OL lo Z 1 v (BQ T vs 3)):∃ a,v= .slice a T.E9.length T.E9.length:=by
 obtain ⟨a,ha⟩:=OL.shape h;rw [show (BQ T vs 3).length=T.E9.length from List.length_map ..] at ha;exact ⟨a,ha⟩
theorem uX (h:Ln ZL Z bt bx T tv toks k (M4 tx from' bt) v fc vs) (I4:Ends toks) (hsh:Db toks) (hlen:T.E9.length<=100000) :
  Ev (go Tryz.prog HS (.fn 123) [.pointer (some ⟨bx,0,none⟩)] Z) (LnP ZL bt bx tv toks (M4 tx from' bt) (Rn toks T k)) ⟨⟩:=by
 refine D7 Tryz.func123 rfl rfl ?_;refine gS ?_
 refine Bj (fun j fr Z'=>∃ T' k' v' fc' vs',j=toks.length-k'/\fr.get 0=some (.pointer (some ⟨bx,0,none⟩))/\Ln ZL Z' bt bx T' tv toks k' (M4 tx from' bt) v' fc' vs'/\PA toks j T' k'=Rn toks T k/\T'.E9.length<=100000)
  (fun r=>match Rn toks T k with
    | .ok (T',k')=>∃ fr Z' v fc vs,r=⟨.exit 0,fr,Z'⟩/\Ln ZL Z' bt bx T' tv toks k' (M4 tx from' bt) v fc vs
    | .error (p,e)=>∃ fr Z',r=⟨.pan (fault p e),fr,Z'⟩/\C5 bt ZL Z') (toks.length-k) ?_ ?_ ?_
 ·exact ⟨T,k,v,fc,vs,rfl,fR,h,rfl,hlen⟩
 ·rintro j fr Z' ⟨T',k',v',fc',vs',rfl,g0,hL,hT,AY2⟩;rw [<- hT];clear hT hlen;obtain ⟨f,hf⟩:∃ f,toks.length-k'=f+1:=⟨toks.length-k'-1,by have:=hL.sc.k;omega⟩
  rw [hf];rw [QQ];have ht0:=W1 hL.sc.k;have hs:=hsh _ (List.mem_of_getElem? ht0);have hx:=A8 hL.sc.row;have ht:=A8 hL.row;unfold M4 at hx;obtain ⟨c1,c2,c3,c4,c5,rfl⟩:=fc5 hL.fx;unfold tnR T3 at ht;obtain ⟨a,ha⟩:=oQ (hL.sl 3 om);rw [ha] at ht;have l1:=hL.btl;have l2:=hL.bxg;have l3:=hL.ext.n;have l4:=hL.sc.lt;have ez:decide ((T'.E9.length:Int)=0)=decide (T'.E9.length=0):=by rw [Bool.eq_iff_iff];simp
  have e12:decide ((T'.E9.length:Int)<12)=decide (T'.E9.length<12):=by rw [Bool.eq_iff_iff];simp;omega
  generalize hw:A9 toks k'=w at *;cases hz:decide (T'.E9.length=0) with
  | true =>
    have hq:True:=trivial;refine gS1 (a5N @g0 @hx @ht @ez @hz) ?_;rw [if_pos (by first|rfl|(rw [hq];rfl))];refine (T7 hL.sc ht0).mono ?_;rintro r ⟨Z2,rfl,hE2⟩;have h2:=hL.J6 hE2;have hx2:=A8 h2.sc.row;have ht2:=A8 h2.row;unfold M4 at hx2;unfold tnR T3 at ht2;rw [ha] at ht2;have hpp:decide (w.1=[112,114,105,99,101])=decide (w.1=Di):=rfl;cases hp:decide (w.1=Di) with
    | true =>
      refine gS1 (a3N @g0 @hpp @hp) ?_;refine (K6 h2.sc ht0).mono ?_;rintro r (⟨hok,rfl⟩|⟨hok,-⟩)
      case inr=>cases hok
      rw [if_pos (by rfl)];refine gS1 (a3N @g0 @hx2 @ht2) ?_;have hst:Dh Z2 (.slice a T'.E9.length T'.E9.length) T'.E9:=by rw [<- ha];exact OL.sl (h2.sl 3 om)
      refine (AA hst om).mono ?_;rintro r rfl;refine gS1 @g0 ?_;refine (K6 h2.sc ht0).mono ?_;rintro r (⟨hc,rfl⟩|⟨hc,Z5,rfl,hE5⟩)
      case inr =>
       refine gS ?_;refine H3.intro (by kernel_rfl) ?_;refine H3.intro (by (repeat first|simp (disch:=omega) only [B9,C9,C0,I9,L9,M0,I8,N8,W3 (Ext.refl Z2),W3 hE5]|rw [D0 (by kernel_rfl)]);first|done|rfl) ?_;refine gS ?_;rw [if_pos (by simpa using hc)];exact ⟨_,_,rfl,(h2.J6 hE5).ext⟩
      rw [if_neg (by simpa using hc)];refine gS1 (a3N @g0 @hx2 @ht2) ?_;refine H3.intro (by (repeat first|simp (disch:=omega) only [B9,C9,C0,I9,L9,M0,I8,N8,W3 (Ext.refl Z2)]|rw [D0 (by kernel_rfl)]);first|done|rfl) ?_;refine gS1 (a4N @g0 @hx2 @ht2 @e12) ?_;refine (K6 h2.sc ht0).mono ?_;rintro r (⟨hc,rfl⟩|⟨hc,Z5,rfl,hE5⟩)
      case inr =>
       refine gS ?_;refine H3.intro (by kernel_rfl) ?_;refine H3.intro (by (repeat first|simp (disch:=omega) only [B9,C9,C0,I9,L9,M0,I8,N8,W3 (Ext.refl Z2),W3 hE5]|rw [D0 (by kernel_rfl)]);first|done|rfl) ?_;refine gS ?_;rw [if_neg (of_decide_eq_false hc)];exact ⟨_,_,rfl,(h2.J6 hE5).ext⟩
      rw [if_pos (of_decide_eq_true hc)];refine gS1 (a3N @g0 @hx2 @ht2) ?_;refine H3.intro (by (repeat first|simp (disch:=omega) only [B9,C9,C0,I9,L9,M0,I8,N8,W3 (Ext.refl Z2)]|rw [D0 (by kernel_rfl)]);first|done|rfl) ?_;refine gS1 (a3N @g0 @hx2 @ht2) ?_;refine (W8 h2.sc ht0).mono ?_;rintro r ⟨Z6,rfl,hE6,q6⟩;have h6:=h2.step hE6 q6 (I4 k' _ ht0 (by rw [of_decide_eq_true hp];decide));refine gU1 (a11N @A1 @N7 @T1 @T5 @R6 @K2 @Q8 @J0 @J5 @F4 @g0) ?_;have h7:=h6.J6 (Ext.new (t:=none) Z6 [str w.1]);have hl0:=h7.sl 3 om;have d1:=h7.dx 3 om;rw [ha] at hl0 d1;refine I0 (lo:=ZL.n) (rows:=T'.E9.map fun s=>[str s]) (row:=[str w.1]) (fun _ _ _ _=>R7) hl0 (D4 (Nat.le_refl _) (Nat.le_refl _)) (D6 (by simp) (by simp)) (by rw [List.length_map];omega) (by have:=h7.ext.n;simp at this ⊢;omega) ?_;intro v9 Z9 g1 g2 g3;have hbt:bt<Z6.n:=Nat.lt_of_lt_of_le h6.btl h6.ext.n;have ro:Z9.A5 bt=some (tnR T' v' [c1,c2,c3,c4,c5]):=by
       rw [A6 (g2.same bt (by simp;omega) fun e=>by have:=(hl0.blk e).1;omega)];exact h7.row
      obtain ⟨a',rfl⟩:=OL.shape g1;have h10:=h7.app (T':={ T' with E9:=T'.E9++[w.1] }) (vs':=vs') (i:=3) om (by rw [ha];exact g2) (by show OL _ _ 1 _ (List.map _ _);rw [List.map_append];exact g1) (by intro j hj hne;match j,hj,hne with|0,_,_=>rfl|1,_,_=>rfl|2,_,_=>rfl|4,_,_=>rfl) rfl h7.iv;unfold tnR T3 at ro;refine gS1 @ro ?_;refine H3.intro (by (repeat first|simp (disch:=omega) only [B9,C9,C0,I9,L9,M0,I8,N8,SH hE6,HK h2 h6,BK g2 d1]|rw [D0 (by kernel_rfl)]);first|done|rfl) ?_;refine gS1 @O5 ?_;refine ⟨f,om,_,k'+1,_,_,_,om,fR1 g0,h10,rfl,?_⟩;rw [List.length_append];have:=of_decide_eq_true hc;simp;omega
    | false =>
      refine gS1 (a3N @g0 @hpp @hp) ?_;refine (Kt om).mono ?_;rintro r ⟨Z3,rfl,hE3⟩;have h3:=h2.J6 hE3;refine gS ?_;refine (K6 h3.sc ht0).mono ?_;rintro r (⟨hok,rfl⟩|⟨hok,Z4,rfl,hE4⟩)
      case inr =>
       refine gS ?_;refine H3.intro (by kernel_rfl) ?_;refine gS ?_;rw [if_neg (by rw [hok];simp)];exact ⟨_,_,rfl,(h3.J6 hE4).ext⟩
      rw [if_pos (by rw [hok];rfl)];have hx3:=A8 h3.sc.row;have ht3:=A8 h3.row;unfold M4 at hx3;unfold tnR T3 at ht3;rw [ha] at ht3;refine gS1 (a3N @g0 @hx3 @ht3) ?_;have hst:Dh Z3 (.slice a T'.E9.length T'.E9.length) T'.E9:=by rw [<- ha];exact OL.sl (h3.sl 3 om)
      refine (AA hst om).mono ?_;rintro r rfl;refine gS1 @g0 ?_;refine (K6 h3.sc ht0).mono ?_;rintro r (⟨hc,rfl⟩|⟨hc,Z5,rfl,hE5⟩)
      case inr =>
       refine gS ?_;refine H3.intro (by kernel_rfl) ?_;refine H3.intro (by (repeat first|simp (disch:=omega) only [B9,C9,C0,I9,L9,M0,I8,N8,W3 (Ext.refl Z3),W3 hE5]|rw [D0 (by kernel_rfl)]);first|done|rfl) ?_;refine gS ?_;rw [if_pos (by simpa using hc)];exact ⟨_,_,rfl,(h3.J6 hE5).ext⟩
      rw [if_neg (by simpa using hc)];refine gS1 (a3N @g0 @hx3 @ht3) ?_;refine H3.intro (by (repeat first|simp (disch:=omega) only [B9,C9,C0,I9,L9,M0,I8,N8,W3 (Ext.refl Z3)]|rw [D0 (by kernel_rfl)]);first|done|rfl) ?_;refine gS1 (a4N @g0 @hx3 @ht3 @e12) ?_;refine (K6 h3.sc ht0).mono ?_;rintro r (⟨hc,rfl⟩|⟨hc,Z5,rfl,hE5⟩)
      case inr =>
       refine gS ?_;refine H3.intro (by kernel_rfl) ?_;refine H3.intro (by (repeat first|simp (disch:=omega) only [B9,C9,C0,I9,L9,M0,I8,N8,W3 (Ext.refl Z3),W3 hE5]|rw [D0 (by kernel_rfl)]);first|done|rfl) ?_;refine gS ?_;rw [if_neg (of_decide_eq_false hc)];exact ⟨_,_,rfl,(h3.J6 hE5).ext⟩
      rw [if_pos (of_decide_eq_true hc)];refine gS1 (a3N @g0 @hx3 @ht3) ?_;refine H3.intro (by (repeat first|simp (disch:=omega) only [B9,C9,C0,I9,L9,M0,I8,N8,W3 (Ext.refl Z3)]|rw [D0 (by kernel_rfl)]);first|done|rfl) ?_;refine gS1 (a3N @g0 @hx3 @ht3) ?_;refine (W8 h3.sc ht0).mono ?_;rintro r ⟨Z6,rfl,hE6,q6⟩;have h6:=h3.step hE6 q6 (I4 k' _ ht0 (Jv hok));refine gU1 (a11N @A1 @N7 @T1 @T5 @R6 @K2 @Q8 @J0 @J5 @F4 @g0) ?_;have h7:=h6.J6 (Ext.new (t:=none) Z6 [str w.1]);have hl0:=h7.sl 3 om;have d1:=h7.dx 3 om;rw [ha] at hl0 d1;refine I0 (lo:=ZL.n) (rows:=T'.E9.map fun s=>[str s]) (row:=[str w.1]) (fun _ _ _ _=>R7) hl0 (D4 (Nat.le_refl _) (Nat.le_refl _)) (D6 (by simp) (by simp)) (by rw [List.length_map];omega) (by have:=h7.ext.n;simp at this ⊢;omega) ?_;intro v9 Z9 g1 g2 g3;have hbt:bt<Z6.n:=Nat.lt_of_lt_of_le h6.btl h6.ext.n;have ro:Z9.A5 bt=some (tnR T' v' [c1,c2,c3,c4,c5]):=by
       rw [A6 (g2.same bt (by simp;omega) fun e=>by have:=(hl0.blk e).1;omega)];exact h7.row
      obtain ⟨a',rfl⟩:=OL.shape g1;have h10:=h7.app (T':={ T' with E9:=T'.E9++[w.1] }) (vs':=vs') (i:=3) om (by rw [ha];exact g2) (by show OL _ _ 1 _ (List.map _ _);rw [List.map_append];exact g1) (by intro j hj hne;match j,hj,hne with|0,_,_=>rfl|1,_,_=>rfl|2,_,_=>rfl|4,_,_=>rfl) rfl h7.iv;unfold tnR T3 at ro;refine gS1 @ro ?_;refine H3.intro (by (repeat first|simp (disch:=omega) only [B9,C9,C0,I9,L9,M0,I8,N8,SH hE6,HK h3 h6,BK g2 d1]|rw [D0 (by kernel_rfl)]);first|done|rfl) ?_;refine gS1 @O5 ?_;refine ⟨f,om,_,k'+1,_,_,_,om,fR1 g0,h10,rfl,?_⟩;rw [List.length_append];have:=of_decide_eq_true hc;simp;omega
  | false =>
    refine gS1 (a5N @g0 @hx @ht @ez @hz) ?_;refine (T7 hL.sc ht0).mono ?_;rintro r ⟨Z1,rfl,hE1⟩;have h1:=hL.J6 hE1;cases hq:decide (w.1=[]) with
    | true =>
      refine gS1 (a3N @g0 @hq @BM) ?_;rw [if_neg (by simp)];exact ⟨_,_,_,_,_,rfl,h1⟩
    | false =>
    refine gS1 (aI @g0 @hq) ?_;rw [if_pos (by first|rfl|(rw [hq];rfl))];refine (T7 h1.sc ht0).mono ?_;rintro r ⟨Z2,rfl,hE2⟩;have h2:=h1.J6 hE2;have hx2:=A8 h2.sc.row;have ht2:=A8 h2.row;unfold M4 at hx2;unfold tnR T3 at ht2;rw [ha] at ht2;have hpp:decide (w.1=[112,114,105,99,101])=decide (w.1=Di):=rfl;cases hp:decide (w.1=Di) with
    | true =>
      refine gS1 (a3N @g0 @hpp @hp) ?_;refine (K6 h2.sc ht0).mono ?_;rintro r (⟨hok,rfl⟩|⟨hok,-⟩)
      case inr=>cases hok
      rw [if_pos (by rfl)];refine gS1 (a3N @g0 @hx2 @ht2) ?_;have hst:Dh Z2 (.slice a T'.E9.length T'.E9.length) T'.E9:=by rw [<- ha];exact OL.sl (h2.sl 3 om)
      refine (AA hst om).mono ?_;rintro r rfl;refine gS1 @g0 ?_;refine (K6 h2.sc ht0).mono ?_;rintro r (⟨hc,rfl⟩|⟨hc,Z5,rfl,hE5⟩)
      case inr =>
       refine gS ?_;refine H3.intro (by kernel_rfl) ?_;refine H3.intro (by (repeat first|simp (disch:=omega) only [B9,C9,C0,I9,L9,M0,I8,N8,W3 (Ext.refl Z2),W3 hE5]|rw [D0 (by kernel_rfl)]);first|done|rfl) ?_;refine gS ?_;rw [if_pos (by simpa using hc)];exact ⟨_,_,rfl,(h2.J6 hE5).ext⟩
      rw [if_neg (by simpa using hc)];refine gS1 (a3N @g0 @hx2 @ht2) ?_;refine H3.intro (by (repeat first|simp (disch:=omega) only [B9,C9,C0,I9,L9,M0,I8,N8,W3 (Ext.refl Z2)]|rw [D0 (by kernel_rfl)]);first|done|rfl) ?_;refine gS1 (a4N @g0 @hx2 @ht2 @e12) ?_;refine (K6 h2.sc ht0).mono ?_;rintro r (⟨hc,rfl⟩|⟨hc,Z5,rfl,hE5⟩)
      case inr =>
       refine gS ?_;refine H3.intro (by kernel_rfl) ?_;refine H3.intro (by (repeat first|simp (disch:=omega) only [B9,C9,C0,I9,L9,M0,I8,N8,W3 (Ext.refl Z2),W3 hE5]|rw [D0 (by kernel_rfl)]);first|done|rfl) ?_;refine gS ?_;rw [if_neg (of_decide_eq_false hc)];exact ⟨_,_,rfl,(h2.J6 hE5).ext⟩
      rw [if_pos (of_decide_eq_true hc)];refine gS1 (a3N @g0 @hx2 @ht2) ?_;refine H3.intro (by (repeat first|simp (disch:=omega) only [B9,C9,C0,I9,L9,M0,I8,N8,W3 (Ext.refl Z2)]|rw [D0 (by kernel_rfl)]);first|done|rfl) ?_;refine gS1 (a3N @g0 @hx2 @ht2) ?_;refine (W8 h2.sc ht0).mono ?_;rintro r ⟨Z6,rfl,hE6,q6⟩;have h6:=h2.step hE6 q6 (I4 k' _ ht0 (by rw [of_decide_eq_true hp];decide));refine gU1 (a11N @A1 @N7 @T1 @T5 @R6 @K2 @Q8 @J0 @J5 @F4 @g0) ?_;have h7:=h6.J6 (Ext.new (t:=none) Z6 [str w.1]);have hl0:=h7.sl 3 om;have d1:=h7.dx 3 om;rw [ha] at hl0 d1;refine I0 (lo:=ZL.n) (rows:=T'.E9.map fun s=>[str s]) (row:=[str w.1]) (fun _ _ _ _=>R7) hl0 (D4 (Nat.le_refl _) (Nat.le_refl _)) (D6 (by simp) (by simp)) (by rw [List.length_map];omega) (by have:=h7.ext.n;simp at this ⊢;omega) ?_;intro v9 Z9 g1 g2 g3;have hbt:bt<Z6.n:=Nat.lt_of_lt_of_le h6.btl h6.ext.n;have ro:Z9.A5 bt=some (tnR T' v' [c1,c2,c3,c4,c5]):=by
       rw [A6 (g2.same bt (by simp;omega) fun e=>by have:=(hl0.blk e).1;omega)];exact h7.row
      obtain ⟨a',rfl⟩:=OL.shape g1;have h10:=h7.app (T':={ T' with E9:=T'.E9++[w.1] }) (vs':=vs') (i:=3) om (by rw [ha];exact g2) (by show OL _ _ 1 _ (List.map _ _);rw [List.map_append];exact g1) (by intro j hj hne;match j,hj,hne with|0,_,_=>rfl|1,_,_=>rfl|2,_,_=>rfl|4,_,_=>rfl) rfl h7.iv;unfold tnR T3 at ro;refine gS1 @ro ?_;refine H3.intro (by (repeat first|simp (disch:=omega) only [B9,C9,C0,I9,L9,M0,I8,N8,SH hE6,HK h2 h6,BK g2 d1]|rw [D0 (by kernel_rfl)]);first|done|rfl) ?_;refine gS1 @O5 ?_;refine ⟨f,om,_,k'+1,_,_,_,om,fR1 g0,h10,rfl,?_⟩;rw [List.length_append];have:=of_decide_eq_true hc;simp;omega
    | false =>
      refine gS1 (a3N @g0 @hpp @hp) ?_;refine (Kt om).mono ?_;rintro r ⟨Z3,rfl,hE3⟩;have h3:=h2.J6 hE3;refine gS ?_;refine (K6 h3.sc ht0).mono ?_;rintro r (⟨hok,rfl⟩|⟨hok,Z4,rfl,hE4⟩)
      case inr =>
       refine gS ?_;refine H3.intro (by kernel_rfl) ?_;refine gS ?_;rw [if_neg (by rw [hok];simp)];exact ⟨_,_,rfl,(h3.J6 hE4).ext⟩
      rw [if_pos (by rw [hok];rfl)];have hx3:=A8 h3.sc.row;have ht3:=A8 h3.row;unfold M4 at hx3;unfold tnR T3 at ht3;rw [ha] at ht3;refine gS1 (a3N @g0 @hx3 @ht3) ?_;have hst:Dh Z3 (.slice a T'.E9.length T'.E9.length) T'.E9:=by rw [<- ha];exact OL.sl (h3.sl 3 om)
      refine (AA hst om).mono ?_;rintro r rfl;refine gS1 @g0 ?_;refine (K6 h3.sc ht0).mono ?_;rintro r (⟨hc,rfl⟩|⟨hc,Z5,rfl,hE5⟩)
      case inr =>
       refine gS ?_;refine H3.intro (by kernel_rfl) ?_;refine H3.intro (by (repeat first|simp (disch:=omega) only [B9,C9,C0,I9,L9,M0,I8,N8,W3 (Ext.refl Z3),W3 hE5]|rw [D0 (by kernel_rfl)]);first|done|rfl) ?_;refine gS ?_;rw [if_pos (by simpa using hc)];exact ⟨_,_,rfl,(h3.J6 hE5).ext⟩
      rw [if_neg (by simpa using hc)];refine gS1 (a3N @g0 @hx3 @ht3) ?_;refine H3.intro (by (repeat first|simp (disch:=omega) only [B9,C9,C0,I9,L9,M0,I8,N8,W3 (Ext.refl Z3)]|rw [D0 (by kernel_rfl)]);first|done|rfl) ?_;refine gS1 (a4N @g0 @hx3 @ht3 @e12) ?_;refine (K6 h3.sc ht0).mono ?_;rintro r (⟨hc,rfl⟩|⟨hc,Z5,rfl,hE5⟩)
      case inr =>
       refine gS ?_;refine H3.intro (by kernel_rfl) ?_;refine H3.intro (by (repeat first|simp (disch:=omega) only [B9,C9,C0,I9,L9,M0,I8,N8,W3 (Ext.refl Z3),W3 hE5]|rw [D0 (by kernel_rfl)]);first|done|rfl) ?_;refine gS ?_;rw [if_neg (of_decide_eq_false hc)];exact ⟨_,_,rfl,(h3.J6 hE5).ext⟩
      rw [if_pos (of_decide_eq_true hc)];refine gS1 (a3N @g0 @hx3 @ht3) ?_;refine H3.intro (by (repeat first|simp (disch:=omega) only [B9,C9,C0,I9,L9,M0,I8,N8,W3 (Ext.refl Z3)]|rw [D0 (by kernel_rfl)]);first|done|rfl) ?_;refine gS1 (a3N @g0 @hx3 @ht3) ?_;refine (W8 h3.sc ht0).mono ?_;rintro r ⟨Z6,rfl,hE6,q6⟩;have h6:=h3.step hE6 q6 (I4 k' _ ht0 (Jv hok));refine gU1 (a11N @A1 @N7 @T1 @T5 @R6 @K2 @Q8 @J0 @J5 @F4 @g0) ?_;have h7:=h6.J6 (Ext.new (t:=none) Z6 [str w.1]);have hl0:=h7.sl 3 om;have d1:=h7.dx 3 om;rw [ha] at hl0 d1;refine I0 (lo:=ZL.n) (rows:=T'.E9.map fun s=>[str s]) (row:=[str w.1]) (fun _ _ _ _=>R7) hl0 (D4 (Nat.le_refl _) (Nat.le_refl _)) (D6 (by simp) (by simp)) (by rw [List.length_map];omega) (by have:=h7.ext.n;simp at this ⊢;omega) ?_;intro v9 Z9 g1 g2 g3;have hbt:bt<Z6.n:=Nat.lt_of_lt_of_le h6.btl h6.ext.n;have ro:Z9.A5 bt=some (tnR T' v' [c1,c2,c3,c4,c5]):=by
       rw [A6 (g2.same bt (by simp;omega) fun e=>by have:=(hl0.blk e).1;omega)];exact h7.row
      obtain ⟨a',rfl⟩:=OL.shape g1;have h10:=h7.app (T':={ T' with E9:=T'.E9++[w.1] }) (vs':=vs') (i:=3) om (by rw [ha];exact g2) (by show OL _ _ 1 _ (List.map _ _);rw [List.map_append];exact g1) (by intro j hj hne;match j,hj,hne with|0,_,_=>rfl|1,_,_=>rfl|2,_,_=>rfl|4,_,_=>rfl) rfl h7.iv;unfold tnR T3 at ro;refine gS1 @ro ?_;refine H3.intro (by (repeat first|simp (disch:=omega) only [B9,C9,C0,I9,L9,M0,I8,N8,SH hE6,HK h3 h6,BK g2 d1]|rw [D0 (by kernel_rfl)]);first|done|rfl) ?_;refine gS1 @O5 ?_;refine ⟨f,om,_,k'+1,_,_,_,om,fR1 g0,h10,rfl,?_⟩;rw [List.length_append];have:=of_decide_eq_true hc;simp;omega
 ·intro r;cases hR:Rn toks T k with
  | error pe =>
    obtain ⟨p,e⟩:=pe;rintro ⟨fr,Z',rfl,hE⟩;refine gS ?_;exact ⟨_,rfl,hE⟩
  | ok ak =>
    obtain ⟨T',k'⟩:=ak;rintro ⟨fr,Z',v',fc',vs',rfl,hL⟩;refine gS1 @Tryz.results123 ?_;exact ⟨_,_,_,_,rfl,hL⟩
end
section
variable {Z:St}
def HN (l:List Int) (s:Int):Nat->Bool
 | 0=>false
 | k+1=>HN l s k||decide (l[k]? =some s)
theorem XM (l:List Int) (s:Int) (k:Nat):HN l s k=true↔∃ i,i<k/\l[i]? =some s:=by
 induction k with
 | zero=>simp [HN]
 | succ k ih =>
   simp only [HN,Bool.or_eq_true,ih,decide_eq_true_iff];constructor
   ·rintro (⟨i,h1,h2⟩|h)
    ·exact ⟨i,om,h2⟩
    ·exact ⟨k,om,h⟩
   ·rintro ⟨i,h1,h2⟩;by_cases e:i=k
    ·subst e;exact .inr h2
    ·exact .inl ⟨i,om,h2⟩
theorem MH (l:List Int) (s:Int):HN l s l.length=l.contains s:=by
 rw [Bool.eq_iff_iff,XM,List.contains_iff_mem,List.mem_iff_getElem?];constructor
 ·rintro ⟨i,-,h⟩;exact ⟨i,h⟩
 ·rintro ⟨i,h⟩;obtain ⟨hlt,_⟩:=List.getElem?_eq_some_iff.1 h;exact ⟨i,hlt,h⟩
theorem XN {v:Value}{l:List Int}{s:Int}(hl:Ca Z v l) (hn:l.length<=4294967296) :
  Ev (go Tryz.prog HS (.fn 198) [v,.int .i64 s] Z) (fun r=>∃ n:Int,r=⟨false,.int .i64 n,Z⟩/\(0<=n↔l.contains s=true)/\ -1<=n/\n<4294967297) ⟨⟩:=by
 obtain ⟨a,c,b,off,cells,rfl,h1,h2⟩:=SL.use hl;rw [List.length_map] at *;refine D7 Tryz.func198 rfl rfl ?_;refine gS ?_
 refine Bj (fun j fr Z'=>∃ k,j=l.length-k/\k<=l.length/\fr.get 0=some (.slice a l.length c)/\fr.get 1=some (.int .i64 s)/\fr.get 7=some (.int .i64 l.length)/\fr.get 8=some (.int .i64 k)/\Z'=Z/\HN l s k=false)
  (fun r=>(∃ fr,r=⟨.exit 0,fr,Z⟩/\HN l s l.length=false)\/(∃ fr k,r=⟨.ret,fr,Z⟩/\fr.get 4=some (.int .i64 (k:Nat))/\k<l.length/\l.contains s=true)) l.length ?_ ?_ ?_
 ·refine ⟨0,rfl,om,?_,?_,?_,?_,rfl,rfl⟩
  all_goals exact fR
 ·rintro j fr Z' ⟨k,rfl,hk,g0,g1,g7,g8,rfl,hm⟩;by_cases hc:k<l.length
  ·obtain ⟨sp,rfl,hb,hr⟩:=h1 om;obtain ⟨x,hx⟩:∃ x,l[k]? =some x:=⟨_,List.getElem?_eq_getElem hc⟩
   have h2:=h2 k _ (by rw [List.getElem?_map,hx];rfl);rw [Nat.mul_one] at h2;have hc':decide (k<l.length)=true:=by simpa using hc
   refine gS1 (a9N @g0 @g1 @g7 @g8 @GF @hc' @hr @Nat.mul_one @h2) ?_;refine Br.intro (fun hd=>?_) (fun hd=>?_)
   ·obtain rfl:s=x:=by simpa using hd
    refine gS1 (a5N @g0 @g1 @g7 @g8 @Qv) ?_;refine .inr ⟨_,k,rfl,fR,hc,?_⟩;rw [List.contains_iff_mem];exact List.mem_of_getElem? hx
   ·have hd:s≠x:=by simpa using hd
    refine gS1 (a6N @g0 @g1 @g7 @g8 @Gs @O5) ?_;refine ⟨l.length-(k+1),om,k+1,rfl,om,fR1 g0,fR1 g1,fR1 g7,fR,by trivial,?_⟩;show (HN l s k||decide (l[k]? =some s))=false;rw [hm,hx]
    simpa using fun h=>hd h.symm
  ·have hc':decide (k<l.length)=false:=by simpa using hc
   obtain rfl:k=l.length:=om;refine gS1 (a7N @g0 @g1 @g7 @g8 @GF @hc' @BM) ?_;exact .inl ⟨_,rfl,hm⟩
 ·rintro r (⟨fr,rfl,hm⟩|⟨fr,k,rfl,g4,hk,hm⟩)
  ·refine gS1 @Tryz.results198 ?_;refine ⟨-1,rfl,?_,om,om⟩;rw [<- MH,hm];simp
  ·refine gS1 (aI @Tryz.results198 @g4) ?_;exact ⟨k,rfl,by rw [hm];simp,om,om⟩
theorem PM {v:Value}{l:List Int}{s:Int}(hl:Ca Z v l) (hn:l.length<=4294967296) :
  Ev (go Tryz.prog HS (.fn 166) [v,.int .i64 s] Z) (fun r=>r=⟨false,.bool (l.contains s),Z⟩) ⟨⟩:=by
 have hl':=hl;obtain ⟨a,c,b,off,cells,rfl,h1,h2⟩:=SL.use hl;rw [List.length_map] at *;refine D7 Tryz.func166 rfl rfl ?_;refine gS ?_;refine (XN hl' hn).mono ?_;rintro r ⟨n,rfl,h3,h4,h5⟩;have hb:(!decide (n<0))=l.contains s:=by
  rw [Bool.eq_iff_iff,<- h3];simp
 refine gS1 (aI @Tryz.results166 @hb) ?_;try exact ⟨⟩
end
def Dv (toks:List Tok):Nat->List Int->Nat->Except Er (List Int×Nat)
 | 0,l,k=> .ok (l,k)
 | f+1,l,k=>if (decide (l.length<2)|| !decide ((A9 toks k).1=[]))=true then
    Q9 (rdNum toks 1 (fun n=> !(l.contains n)) k) fun (n,k1)=>if l.length=12 then .error ((A9 toks k).2,2) else Dv toks f (l++[(n:Int)]) k1
   else .ok (l,k)
theorem Ur {toks:List Tok}{f:Nat}{l:List Int}{k:Nat}:Dv toks (f+1) l k=(if (decide (l.length<2)|| !decide ((A9 toks k).1=[]))=true then
   Q9 (rdNum toks 1 (fun n=> !(l.contains n)) k) fun (n,k1)=>if l.length=12 then .error ((A9 toks k).2,2) else Dv toks f (l++[(n:Int)]) k1
  else .ok (l,k)):=rfl
def Iy (toks:List Tok) (T:Tn) (k:Nat):Except Er (Tn×Nat):=Q9 (Dv toks (toks.length-k) [] k) fun (l,k)=> .ok ({ T with C3:=T.C3++[l] },k)
theorem Us {α:Type}{toks:List Tok}{k k1:Nat}{R:Except Int α}{a:α}(h:rd1 toks k R= .ok (a,k1)):k1=k+1:=by
 cases R with
 | ok b=>cases h;rfl
 | error e=>cases h
section
variable {Z ZL:St} {bt bx:Nat} {T:Tn} {tv:Value} {toks:List Tok} {k:Nat} {tx:By} {from':Nat} {v:Nat->Value} {fc vs:List Value}
theorem Lt {n:Nat}{c:Nat}{w:Value}{l:List Int}(hc:Z.row c=some [w]) (hw:Ca Z w l) (hl:l.length<=100) :
  Ev (go Tryz.prog HS (.fn 165) [.int .i64 (n:Nat),.pointer (some ⟨c,0,none⟩)] Z) (fun r=>∃ Z2,r=⟨false,.bool (!(l.contains (n:Int))),Z2⟩/\Ext Z Z2) ⟨⟩:=by
 obtain ⟨a,cc,b,off,cells,rfl,h1,h2⟩:=SL.use hw;rw [List.length_map] at *;refine D7 Tryz.func165 rfl rfl ?_;refine gS1 @hc ?_;refine (PM hw om).mono ?_;rintro r rfl;refine gS1 @Tryz.results165 ?_;exact ⟨_,rfl,.refl _⟩
theorem jN (h:Ln ZL Z bt bx T tv toks k (M4 tx from' bt) v fc vs) (I4:Ends toks) (hsh:Db toks) (hlen:vs.length<=100000) :
  Ev (go Tryz.prog HS (.fn 125) [.pointer (some ⟨bx,0,none⟩)] Z) (LnP ZL bt bx tv toks (M4 tx from' bt) (Iy toks T k)) ⟨⟩:=by
 have m1:=h.btl;have m2:=h.bxg;have m3:=h.ext.n;have m4:=h.sc.lt;refine D7 Tryz.func125 rfl rfl ?_;refine gS ?_
 refine Bj (fun j fr Z'=>∃ l k' w,j=toks.length-k'/\fr.get 0=some (.pointer (some ⟨bx,0,none⟩))/\fr.get 2=some (.pointer (some ⟨Z.n,0,none⟩))/\C5 bx Z Z'/\Z'.A5 bx=some (tv:: .int .i64 (k':Nat)::M4 tx from' bt)/\k'<toks.length /\
   Z.n<Z'.n/\Z'.A5 Z.n=some [w]/\OL (Z.n+1) Z' 1 w (l.map fun n=>[.int .i64 n])/\Dv toks j l k'=Dv toks (toks.length-k) [] k/\l.length<=12)
  (fun r=>match Dv toks (toks.length-k) [] k with
    | .ok (l,k')=>∃ fr Z' w,r=⟨.exit 0,fr,Z'⟩/\fr.get 0=some (.pointer (some ⟨bx,0,none⟩))/\fr.get 2=some (.pointer (some ⟨Z.n,0,none⟩))/\C5 bx Z Z'/\Z'.A5 bx=some (tv:: .int .i64 (k':Nat)::M4 tx from' bt)/\k'<toks.length /\
       Z.n<Z'.n/\Z'.A5 Z.n=some [w]/\OL (Z.n+1) Z' 1 w (l.map fun n=>[.int .i64 n])
    | .error (p,e)=>∃ fr Z',r=⟨.pan (fault p e),fr,Z'⟩/\C5 bt ZL Z') (toks.length-k) ?_ ?_ ?_
 ·exact ⟨[],k,.slice none 0 0,rfl,fR,fR,eXX,cL1 @h.sc.row,h.sc.k,by simp,cL,OL.nil,rfl,by simp⟩
 ·rintro j fr Z' ⟨l,k',w,rfl,g0,g2,hE,hq,hk,hc,ho,hol,hT,hl⟩;rw [<- hT];clear hT;obtain ⟨f,hf⟩:∃ f,toks.length-k'=f+1:=⟨toks.length-k'-1,om⟩
  rw [hf,Ur];have hL:=h.step hE hq hk;have ht0:=W1 hk;have ho':=A8 ho;obtain ⟨a,rfl⟩:=OL.shape hol;rw [List.length_map] at *;have ez:decide ((l.length:Int)<2)=decide (l.length<2):=by rw [Bool.eq_iff_iff];simp;omega
  have e12:decide ((l.length:Int)=12)=decide (l.length=12):=by rw [Bool.eq_iff_iff];simp;omega
  cases hz:decide (l.length<2) with
  | true =>
    have hq2:True:=trivial;refine gS1 (a5N @g0 @g2 @ho' @ez @hz) ?_;rw [if_pos (by first|rfl|(rw [hq2];rfl))];refine (T7 hL.sc ht0).mono ?_;rintro r ⟨Z2,rfl,hE2⟩;have h2:=hL.J6 hE2;have JY:C5 bx Z Z2:=hE.trans (.of hE2);have o2:Z2.A5 Z.n=some [.slice a l.length l.length]:=by rw [A6 (hE2.same _ om)];exact ho
    have ol2:OL (Z.n+1) Z2 1 (.slice a l.length l.length) (l.map fun n=>[.int .i64 n]):=OL.ext hol hE2;have hn2:=hE2.n;refine gS1 (aI @g0 @g2) ?_;refine (SI (fs:=[]) (cs:=[.pointer (some ⟨Z.n,0,none⟩)]) (nw:=fun n=> !(l.contains n)) h2.sc I4 hsh fun Z' n hE' _=>?_).mono ?_
    ·refine Lt (w:= .slice a l.length l.length) ?_ (OL.sl (OL.ext ol2 hE')) om;rw [hE'.row om];exact A8 o2
    intro r;cases hR:rdNum toks 1 (fun n=> !(l.contains n)) k' with
    | error pe =>
      obtain ⟨p,e⟩:=pe;rintro ⟨Z3,rfl,hE3⟩;refine gS1 (aI @g0 @g2) ?_;rw [H4];exact ⟨_,_,rfl,(h2.J6 hE3).ext⟩
    | ok ak =>
      obtain ⟨n,k1⟩:=ak;rintro ⟨Z3,rfl,hE3,q3,hk3⟩;rw [C2]
      try dsimp only
      have hk1:=Us hR;have Ob:=JY.trans hE3;have o3:Z3.A5 Z.n=some [.slice a l.length l.length]:=by rw [hE3.A5 om om];exact o2
      have ol3:OL (Z.n+1) Z3 1 (.slice a l.length l.length) (l.map fun n=>[.int .i64 n]):=OL.R8 ol2 hE3 om;have o3':=A8 o3;have hn3:=hE3.n;unfold Jx;cases h12:decide (l.length=12) with
      | true =>
        rw [if_pos (of_decide_eq_true h12)];refine gS1 (a5N @g0 @g2 @o3' @e12 @h12) ?_;exact ⟨_,_,rfl,(h.step Ob q3 hk3).ext⟩
      | false =>
        rw [if_neg (of_decide_eq_false h12)];refine gU1 (a15N @A1 @T1 @T5 @R6 @K2 @R7 @Q8 @J0 @J5 @F4 @g0 @g2 @o3' @e12 @h12) ?_;have ol4:=OL.ext ol3 (Ext.new (t:=none) Z3 [.int .i64 n]);refine I0 (lo:=Z.n+1) (rows:=l.map fun n=>[.int .i64 n]) (row:=[.int .i64 n]) (fun _ _ _ _=>N7) (by first|exact ol4|(rw [List.length_map];exact ol4)) (D4 (Nat.le_refl _) (Nat.le_refl _)) (D6 (by simp) (by simp)) (by rw [List.length_map];omega) (by simp;omega) ?_;intro w9 Z9 d1 d2 d3;have ro:Z9.A5 Z.n=some [.slice a l.length l.length]:=by
         rw [A6 (d2.same _ (by simp;omega) fun e=>by have:=(ol4.blk e).1;omega)];exact cL1 o3
        have hE9:C5 bx Z Z9:=C5.app d2 (Ob.KZ _) ol4 om;have q9:Z9.A5 bx=some (tv:: .int .i64 (k1:Nat)::M4 tx from' bt):=by
         rw [A6 (d2.same bx (by simp;omega) fun e=>by have:=(ol4.blk e).1;omega)];exact cL1 q3
        obtain ⟨a',rfl⟩:=OL.shape d1;have hn9:=d2.n;simp at hn9;refine gS1 (a4N @g0 @g2 @ro @O5) ?_;refine ⟨f,om,l++[(n:Int)],k1,_,om,fR1 g0,fR1 g2,hE9.BJ om _,cL1 q9,hk3,by (try simp);omega,(by first|rfl|exact C8),?_,rfl,?_⟩
        ·rw [List.map_append];exact OL.DD d1 om
        ·rw [List.length_append];have:=of_decide_eq_false h12;simp;omega
  | false =>
    refine gS1 (a5N @g0 @g2 @ho' @ez @hz) ?_;refine (T7 hL.sc ht0).mono ?_;rintro r ⟨Z1,rfl,hE1⟩;have h1:=hL.J6 hE1;have KE:C5 bx Z Z1:=hE.trans (.of hE1);have o1:Z1.A5 Z.n=some [.slice a l.length l.length]:=by rw [A6 (hE1.same _ om)];exact ho
    have ol1:=OL.ext hol hE1;have hn1:=hE1.n;cases hq2:decide ((A9 toks k').1=[]) with
    | true =>
      refine gS1 (a4N @g0 @g2 @hq2 @BM) ?_;rw [if_neg (by simp)];exact ⟨_,_,_,rfl,fR1 g0,fR1 g2,KE,h1.sc.row,hk,om,o1,ol1⟩
    | false =>
    refine gS1 (a3N @g0 @g2 @hq2) ?_;rw [if_pos (by first|rfl|(rw [hq2];rfl))];refine (T7 h1.sc ht0).mono ?_;rintro r ⟨Z2,rfl,hE2⟩;have h2:=h1.J6 hE2;have JY:C5 bx Z Z2:=KE.trans (.of hE2);have o2:Z2.A5 Z.n=some [.slice a l.length l.length]:=by rw [A6 (hE2.same _ om)];exact o1
    have ol2:OL (Z.n+1) Z2 1 (.slice a l.length l.length) (l.map fun n=>[.int .i64 n]):=OL.ext ol1 hE2;have hn2:=hE2.n;refine gS1 (aI @g0 @g2) ?_;refine (SI (fs:=[]) (cs:=[.pointer (some ⟨Z.n,0,none⟩)]) (nw:=fun n=> !(l.contains n)) h2.sc I4 hsh fun Z' n hE' _=>?_).mono ?_
    ·refine Lt (w:= .slice a l.length l.length) ?_ (OL.sl (OL.ext ol2 hE')) om;rw [hE'.row om];exact A8 o2
    intro r;cases hR:rdNum toks 1 (fun n=> !(l.contains n)) k' with
    | error pe =>
      obtain ⟨p,e⟩:=pe;rintro ⟨Z3,rfl,hE3⟩;refine gS1 (aI @g0 @g2) ?_;rw [H4];exact ⟨_,_,rfl,(h2.J6 hE3).ext⟩
    | ok ak =>
      obtain ⟨n,k1⟩:=ak;rintro ⟨Z3,rfl,hE3,q3,hk3⟩;rw [C2]
      try dsimp only
      have hk1:=Us hR;have Ob:=JY.trans hE3;have o3:Z3.A5 Z.n=some [.slice a l.length l.length]:=by rw [hE3.A5 om om];exact o2
      have ol3:OL (Z.n+1) Z3 1 (.slice a l.length l.length) (l.map fun n=>[.int .i64 n]):=OL.R8 ol2 hE3 om;have o3':=A8 o3;have hn3:=hE3.n;unfold Jx;cases h12:decide (l.length=12) with
      | true =>
        rw [if_pos (of_decide_eq_true h12)];refine gS1 (a5N @g0 @g2 @o3' @e12 @h12) ?_;exact ⟨_,_,rfl,(h.step Ob q3 hk3).ext⟩
      | false =>
        rw [if_neg (of_decide_eq_false h12)];refine gU1 (a15N @A1 @T1 @T5 @R6 @K2 @R7 @Q8 @J0 @J5 @F4 @g0 @g2 @o3' @e12 @h12) ?_;have ol4:=OL.ext ol3 (Ext.new (t:=none) Z3 [.int .i64 n]);refine I0 (lo:=Z.n+1) (rows:=l.map fun n=>[.int .i64 n]) (row:=[.int .i64 n]) (fun _ _ _ _=>N7) (by first|exact ol4|(rw [List.length_map];exact ol4)) (D4 (Nat.le_refl _) (Nat.le_refl _)) (D6 (by simp) (by simp)) (by rw [List.length_map];omega) (by simp;omega) ?_;intro w9 Z9 d1 d2 d3;have ro:Z9.A5 Z.n=some [.slice a l.length l.length]:=by
         rw [A6 (d2.same _ (by simp;omega) fun e=>by have:=(ol4.blk e).1;omega)];exact cL1 o3
        have hE9:C5 bx Z Z9:=C5.app d2 (Ob.KZ _) ol4 om;have q9:Z9.A5 bx=some (tv:: .int .i64 (k1:Nat)::M4 tx from' bt):=by
         rw [A6 (d2.same bx (by simp;omega) fun e=>by have:=(ol4.blk e).1;omega)];exact cL1 q3
        obtain ⟨a',rfl⟩:=OL.shape d1;have hn9:=d2.n;simp at hn9;refine gS1 (a4N @g0 @g2 @ro @O5) ?_;refine ⟨f,om,l++[(n:Int)],k1,_,om,fR1 g0,fR1 g2,hE9.BJ om _,cL1 q9,hk3,by (try simp);omega,(by first|rfl|exact C8),?_,rfl,?_⟩
        ·rw [List.map_append];exact OL.DD d1 om
        ·rw [List.length_append];have:=of_decide_eq_false h12;simp;omega
 ·intro r;unfold Iy;cases hR:Dv toks (toks.length-k) [] k with
  | error pe =>
    obtain ⟨p,e⟩:=pe;rintro ⟨fr,Z',rfl,hE⟩;refine gS ?_;rw [H4];exact ⟨_,rfl,hE⟩
  | ok ak =>
    obtain ⟨l,k1⟩:=ak;rintro ⟨fr,Z',w,rfl,g0,g2,hE,hq,hk,hc,ho,hol⟩;rw [C2];have h2:=h.step hE hq hk;have hx:=A8 h2.sc.row;have ht:=A8 h2.row;have ho':=A8 ho;unfold M4 at hx;obtain ⟨c1,c2,c3,c4,c5,rfl⟩:=fc5 h2.fx;unfold tnR T3 at ht;obtain ⟨a,ha⟩:=OL.shape (h2.sl 4 om);rw [show (BQ T vs 4).length=vs.length from List.length_map ..] at ha;rw [ha] at ht;obtain ⟨aw,rfl⟩:=OL.shape hol;refine gU1 (a15N @A1 @N7 @T1 @T5 @R6 @K2 @R7 @J0 @J5 @F4 @g0 @g2 @hx @ht @ho') ?_;rw [List.length_map] at *;have h5:=h2.J6 (Ext.new (t:=none) Z' [.slice aw l.length l.length]);have hl0:=h5.sl 4 om;have d1:=h5.dx 4 om;have d2:K8 (v 4)≠some Z.n:=fun e=>by have:=((h.sl 4 om).blk e).2;omega
    rw [ha] at hl0 d1 d2;refine I0 (lo:=ZL.n) (rows:=vs.map fun x=>[x]) (row:=[.slice aw l.length l.length]) (fun _ _ _ _=>Q8) (by first|exact hl0|(rw [List.length_map];exact hl0)) (D4 (Nat.le_refl _) (Nat.le_refl _)) (D6 (by simp) (by simp)) (by rw [List.length_map];omega) (by have:=h5.ext.n;simp at this ⊢;omega) ?_;intro v9 Z9 g1 g2' g3;have hn:=hE.n;have ro:Z9.A5 bt=some (tnR T v [c1,c2,c3,c4,c5]):=by
     rw [A6 (g2'.same bt (by simp;omega) fun e=>by have:=(hl0.blk e).1;omega)];exact h5.row
    obtain ⟨a',rfl⟩:=OL.shape g1;have hin:Ca (H6 (Z'.new [.slice aw l.length l.length] none) (held bt bx v)) (.slice aw l.length l.length) l:=by
     refine (OL.H6 (OL.ext hol (Ext.new (t:=none) Z' [.slice aw l.length l.length])) fun q hq=>?_).sl;rcases BW.1 hq with e|e|⟨i,hi,e⟩|e
     ·omega
     ·omega
     ·have:=((h.sl i hi).blk e).2;omega
     ·omega
    have h10:=h5.app (T':={ T with C3:=T.C3++[l] }) (vs':=vs++[.slice aw l.length l.length]) (i:=4) om (by rw [ha];exact g2') (by show OL _ _ 1 _ (List.map _ _);rw [List.map_append];exact g1) (by intro j hj hne;match j,hj,hne with|0,_,_=>rfl|1,_,_=>rfl|2,_,_=>rfl|3,_,_=>rfl|4,_,hq=>exact absurd rfl hq) rfl (CB.app hin h5.iv);unfold tnR T3 at ro;refine gS1 @ro ?_;refine H3.intro (by (repeat first|simp (disch:=omega) only [B9,C9,C0,I9,L9,M0,I8,N8,BK g2' d1,BK g2' d2]|rw [D0 (by kernel_rfl)]);first|done|rfl) ?_;refine gS1 @Tryz.results125 ?_;exact ⟨_,_,_,_,rfl,h10⟩
end
section
variable {Z ZL:St} {bt bx:Nat} {T:Tn} {tv:Value} {toks:List Tok} {k:Nat} {tx:By} {from':Nat} {v:Nat->Value} {fc vs:List Value}
def Ha (i:Nat) (T:Tn) (n:Int):Tn:=match i with
 | 0=>{ T with t:={ T.t with q:=n } }
 | 1=>{ T with t:={ T.t with b:=n } }
 | 2=>{ T with t:={ T.t with g:=n } }
 | 3=>{ T with t:={ T.t with p:=n } }
 | _=>{ T with t:={ T.t with s:=n } }
def Kv (toks:List Tok):Nat->Tn->Nat->Except Er (Tn×Nat)
 | 0,T,k=> .ok (T,k)
 | f+1,T,k=>Q9 (U6 toks k) fun (n,k)=>Kv toks f (Ha (4-f) T n) k
theorem Be {toks:List Tok}{f:Nat}{T:Tn}{k:Nat}:Kv toks (f+1) T k=Q9 (U6 toks k) fun (n,k)=>Kv toks f (Ha (4-f) T n) k:=rfl
def GN (toks:List Tok) (T:Tn) (k:Nat):Except Er (Tn×Nat):=Kv toks 5 T k
theorem gh (h:Ln ZL Z bt bx T tv toks k (M4 tx from' bt) v fc vs) (I4:Ends toks) (hsh:Db toks) :
  Ev (go Tryz.prog HS (.fn 128) [.pointer (some ⟨bx,0,none⟩)] Z) (LnP ZL bt bx tv toks (M4 tx from' bt) (GN toks T k)) ⟨⟩:=by
 have m1:=h.btl;have m2:=h.bxg;have m3:=h.ext.n;have m4:=h.sc.lt;have hx:=A8 h.sc.row;unfold M4 at hx;refine D7 Tryz.func128 rfl rfl ?_;refine gS1 @hx ?_
 refine L8 5 (fun i fr Z'=>∃ T' k' v' fc' vs',fr.get 0=some (.pointer (some ⟨bx,0,none⟩))/\fr.get 26=some (.slice (some ⟨Z.n,0,none⟩) 5 5)/\fr.get 27=some (.int .i64 5)/\fr.get 28=some (.int .i64 (i:Nat))/\Z.n<Z'.n /\
   Z'.row Z.n=some [.pointer (some ⟨bt,15,none⟩),.pointer (some ⟨bt,16,none⟩),.pointer (some ⟨bt,17,none⟩),.pointer (some ⟨bt,18,none⟩),.pointer (some ⟨bt,19,none⟩)] /\
   Ln ZL Z' bt bx T' tv toks k' (M4 tx from' bt) v' fc' vs'/\Kv toks (5-i) T' k'=GN toks T k)
  (fun r=>match GN toks T k with
    | .ok (T',k')=>∃ fr Z' v fc vs,r=⟨.exit 0,fr,Z'⟩/\Ln ZL Z' bt bx T' tv toks k' (M4 tx from' bt) v fc vs
    | .error (p,e)=>∃ fr Z',r=⟨.pan (fault p e),fr,Z'⟩/\C5 bt ZL Z') ?_ ?_ ?_ ?_
 ·exact ⟨T,k,v,fc,vs,fR,fR,fR,fR,by simp,cL,h.J6 (.new _ _),rfl⟩
 ·rintro i fr Z' hi ⟨T',k',v',fc',vs',g0,g26,g27,g28,hn,hr,hL,hT⟩;rw [<- hT];clear hT;have ht0:=W1 hL.sc.k;have ed:decide (((i:Nat):Int)<5)=true:=by rw [decide_eq_true_iff];omega
  have ed2:decide (i<5)=true:=by rw [decide_eq_true_iff];omega
  have e1:((i:Nat):Int)+1=((i+1:Nat):Int):=om;have hs:sub [.pointer (some ⟨bt,15,none⟩),.pointer (some ⟨bt,16,none⟩),.pointer (some ⟨bt,17,none⟩),.pointer (some ⟨bt,18,none⟩),.pointer (some ⟨bt,19,none⟩)] i 1=some [Value.pointer (some ⟨bt,15+i,none⟩)]:=by
   obtain rfl|rfl|rfl|rfl|rfl:i=0\/i=1\/i=2\/i=3\/i=4:=om
   all_goals rfl
  obtain ⟨f,hf⟩:∃ f,5-i=f+1:=⟨4-i,om⟩
  rw [hf,Be];have hlt:Nat.blt i 5=true:=by rw [Nat.blt_eq];exact hi
  refine gS1 (a9N @g0 @g26 @g27 @g28 @hr @hs @ed @ed2 @Nat.mul_one) ?_;refine (Em hL.sc I4 hsh).mono ?_;intro r;cases hR:U6 toks k' with
  | error pe =>
    obtain ⟨p,e⟩:=pe;rintro ⟨Z3,rfl,hE3⟩;refine gS ?_;rw [H4];exact ⟨_,_,rfl,(hL.J6 hE3).ext⟩
  | ok ak =>
    obtain ⟨n,k1⟩:=ak;rintro ⟨Z3,rfl,hE3,q3,hk3⟩;rw [C2]
    try dsimp only
    have h3:=hL.step hE3 q3 hk3;have hr3:Z3.row Z.n=_:=(hE3.row hn om).trans hr;have hn3:=hE3.n;obtain ⟨c1,c2,c3,c4,c5,rfl⟩:=fc5 h3.fx;have ro:=h3.row;have hsp:M3 (tnR T' v' [c1,c2,c3,c4,c5]) (15+i) [.int .i64 (n:Nat)]=some (tnR (Ha i T' n) v' [c1,c2,c3,c4,c5]):=by
     obtain rfl|rfl|rfl|rfl|rfl:i=0\/i=1\/i=2\/i=3\/i=4:=om
     all_goals rfl
    unfold Jx;refine gS1 (a7N @ro @hsp @g0 @g26 @g27 @g28 @e1) ?_;have hfi:4-f=i:=om;refine ⟨Ha i T' n,k1,v',[c1,c2,c3,c4,c5],vs',fR1 g0,fR1 g26,fR1 g27,fR,by (try simp);omega,cL1 hr3,?_,?_⟩
    ·refine h3.put (Ha i T' n) ?_ ?_ ?_
     all_goals (obtain rfl|rfl|rfl|rfl|rfl:i=0\/i=1\/i=2\/i=3\/i=4:=om)
     all_goals rfl
    ·rw [hfi,show 5-(i+1)=f by omega]
 ·rintro fr Z' ⟨T',k',v',fc',vs',g0,g26,g27,g28,hn,hr,hL,hT⟩;rw [<- hT];clear hT;have ed:decide (((5:Nat):Int)<5)=false:=rfl;refine gS1 (a6N @g0 @g26 @g27 @g28 @ed @BM) ?_;exact ⟨_,_,_,_,_,rfl,hL⟩
 ·intro r;cases hR:GN toks T k with
  | error pe =>
    obtain ⟨p,e⟩:=pe;rintro ⟨fr,Z',rfl,hE⟩;refine gS ?_;exact ⟨_,rfl,hE⟩
  | ok ak =>
    obtain ⟨T',k'⟩:=ak;rintro ⟨fr,Z',v',fc',vs',rfl,hL⟩;refine gS1 @Tryz.results128 ?_;exact ⟨_,_,_,_,rfl,hL⟩
end
end Go.Proofs.T
