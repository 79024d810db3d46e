/- The tokens of a formula. -/
import Derived.Test.YtbcanmagihejhaaGreatDoorTD
set_option linter.unusedSimpArgs false
set_option linter.unusedVariables false
namespace Go.Proofs.T
open Go Go.Ab
open Nat (reduceMul reduceEqDiff reduceAdd)
set_option maxRecDepth 100000
def endT (s:By) (k:Nat) (c:UInt8):Nat :=
 if on letB c then k+runs folB s k else if on digB c then
  if (decide (k+runs digB s k<s.length)&&decide (s[k+runs digB s k]? =some 46)&&decide (k+runs digB s k+1<min (k+runs digB s k+1) s.length+runs digB s (min (k+runs digB s k+1) s.length)))=true
  then min (k+runs digB s k+1) s.length+runs digB s (min (k+runs digB s k+1) s.length) else k+runs digB s k
 else k+1
def fT (s:By) (from':Nat):Nat->Nat->List Tok
 | 0,_=>[]
 | f+1,k=>match s[k]? with
   | none=>[]
   | some c=>if c=32 then fT s from' f (k+1) else ((s.drop k).take (endT s k c-k),from'+k)::fT s from' f (endT s k c)
def fToks (s:By) (from':Nat):List Tok:=fT s from' s.length 0++[([],from'+s.length)]
theorem runs_pos {p:Int->Bool}{s:By}{k:Nat}{c:UInt8}(h:s[k]? =some c) (hp:on p c=true):0<runs p s k:=by
 obtain ⟨h1,h2⟩:=List.getElem?_eq_some_iff.1 h
 unfold runs
 rw [List.drop_eq_getElem_cons h1,h2,List.takeWhile_cons,hp];simp
theorem endT_in {s:By}{k:Nat}{c:UInt8}(h:s[k]? =some c):k<endT s k c/\endT s k c<=s.length:=by
 obtain ⟨h1,h2⟩:=List.getElem?_eq_some_iff.1 h
 unfold endT
 split
 ·rename_i hl
  have hf:on folB c=true:=by unfold on folB;rw [show letB (c.toNat:Nat)=true from hl];rfl
  have:=runs_pos h hf;have:=runs_le folB s k om;omega
 ·split
  ·rename_i hd
   have:=runs_pos h hd;have:=runs_le digB s k om
   have:=runs_le digB s (min (k+runs digB s k+1) s.length) om
   split
   ·rename_i hx
    rw [Bool.and_eq_true,Bool.and_eq_true,decide_eq_true_iff,decide_eq_true_iff,decide_eq_true_iff] at hx
    omega
   ·omega
  ·omega
theorem fT_fuel {s:By}{from':Nat}:∀ (f f' k:Nat),s.length-k<=f->s.length-k<=f'->fT s from' f k=fT s from' f' k:=by
 intro f
 induction f with
 | zero =>
   intro f' k h1 _
   cases f' with
   | zero=>rfl
   | succ f' =>
     unfold fT
     rw [List.getElem?_eq_none om]
 | succ f ih =>
   intro f' k h1 h2
   cases f' with
   | zero =>
     unfold fT
     rw [List.getElem?_eq_none om]
   | succ f' =>
     unfold fT
     cases hc:s[k]? with
     | none=>rfl
     | some c =>
       have:=(List.getElem?_eq_some_iff.1 hc).1
       have h3:=endT_in hc
       dsimp only
       rw [ih f' (k+1) om om,ih f' (endT s k c) om om]
theorem fT_len {s:By}{from':Nat}:∀ (f k:Nat),(fT s from' f k).length<=s.length-k:=by
 intro f
 induction f with
 | zero=>intro k;simp [fT]
 | succ f ih =>
   intro k
   unfold fT
   cases hc:s[k]? with
   | none=>simp
   | some c =>
     have:=(List.getElem?_eq_some_iff.1 hc).1
     have h3:=endT_in hc
     have h4:=ih (k+1)
     have h5:=ih (endT s k c)
     dsimp only
     split
     ·omega
     ·rw [List.length_cons];omega
set_option maxHeartbeats 16000000 in
theorem ftokens_ok {Z:St}{s:By}{from':Nat}(hs:s.length<10000000) (hk0:from'<10000000) :
  Ev (go Tryz.prog HS (.fn 52) [str s,.int .i64 (from':Nat)] Z) (fun r=>∃ v Z',r=⟨false,v,Z'⟩/\OL Z.n Z' 2 v ((fToks s from').map tokC)/\Ext Z Z') ⟨⟩:=by
 refine ev_go Tryz.func52 rfl rfl ?_
 refine gS ?_
 refine ev_loop (fun j fr Z'=>∃ k done vo,j=s.length-k/\k<=s.length/\fr.get 0=some (str s)/\fr.get 1=some (.int .i64 (from':Nat))/\fr.get 6=some (.int .i64 (k:Nat))/\fr.get 5=some vo/\OL Z.n Z' 2 vo (done.map tokC)/\Ext Z Z'/\done++fT s from' (s.length-k) k=fT s from' s.length 0/\done.length<=k)
  (fun r=>∃ fr Z' vo,r=⟨.exit 0,fr,Z'⟩/\fr.get 0=some (str s)/\fr.get 1=some (.int .i64 (from':Nat))/\fr.get 5=some vo/\OL Z.n Z' 2 vo ((fT s from' s.length 0).map tokC)/\Ext Z Z') s.length ?_ ?_ ?_
 ·exact ⟨0,[],_,rfl,Nat.zero_le _,fR,fR,fR,fR,OL.nil,.refl _,rfl,Nat.zero_le _⟩
 ·rintro j fr Z' ⟨k,done,vo,rfl,hk,g0,g1,g6,g5,hol,hE,hT,hd⟩
  have e1:decide (((k:Nat):Int)<(s.length:Int))=decide (k<s.length):=by rw [Bool.eq_iff_iff];simp
  have en:((k:Nat):Int)+1=((k+1:Nat):Int):=om
  cases hlt:decide (k<s.length) with
  | false =>
    have hkl:k=s.length:=by have:=of_decide_eq_false hlt;omega
    refine gS1 (aI @g0 (aI @g1 (aI @g6 (aI @e1 (aI @hlt @lp_exit))))) ?_
    refine ⟨_,_,vo,rfl,fR1 g0,fR1 g1,fR1 g5,?_,hE⟩
    rw [<- hT,hkl,Nat.sub_self]
    show OL _ _ _ _ (List.map tokC (done++[]))
    rw [List.append_nil];exact hol
  | true =>
    have hkl:=of_decide_eq_true hlt
    obtain ⟨c,hc⟩:=at_some hkl
    have h1:=sub_at1 hc
    have hend:=endT_in hc
    obtain ⟨f,hf⟩:∃ f,s.length-k=f+1:=⟨s.length-k-1,om⟩
    rw [hf] at hT
    have hT':fT s from' (f+1) k=if c=32 then fT s from' f (k+1) else ((s.drop k).take (endT s k c-k),from'+k)::fT s from' f (endT s k c):=by
     show (match s[k]? with|none=>_|some c=>_)=_
     rw [hc]
    rw [hT'] at hT
    have hc32:decide (((c.toNat:Nat):Int)=32)=decide (c=32):=by
     rw [Bool.eq_iff_iff,decide_eq_true_iff,decide_eq_true_iff]
     constructor
     ·intro h
      have:c.toNat=32:=om
      exact UInt8.toNat.inj this
     ·rintro rfl;rfl
    cases h32:decide (c=32) with
    | true =>
      rw [if_pos (of_decide_eq_true h32)] at hT
      refine gS1 (aI @g0 (aI @g1 (aI @g6 (aI @e1 (aI @hlt (aI @h1 (aI @oneB_one (aI @en (aI @hc32 (aI @h32 @lp_normal)))))))))) ?_
      refine ⟨f,om,k+1,done,vo,om,om,fR1 g0,fR1 g1,fR,fR1 g5,hol,hE,?_,om⟩
      rw [<- hT,fT_fuel (s.length-(k+1)) f (k+1) om om]
    | false =>
      rw [if_neg (of_decide_eq_false h32)] at hT
      refine gS1 (aI @g0 (aI @g1 (aI @g6 (aI @e1 (aI @hlt (aI @h1 (aI @oneB_one (aI @en (aI @hc32 @h32))))))))) ?_
      refine letter_ok.mono ?_
      rintro r rfl
      have hon:letB ((c.toNat:Nat):Int)=on letB c:=rfl
      cases hl:on letB c with
      | true =>
        refine gS1 (aI @hon (aI @hl (aI @g0 @g6))) ?_
        refine (run_ok (k:=k) tests_name om om).mono ?_
        rintro r rfl
        have hend':endT s k c=k+runs folB s k:=by unfold endT;rw [if_pos hl]
        have hsb:sub s k (k+runs folB s k-k)=some ((s.drop k).take (endT s k c-k)):=by rw [hend',sub_of om]
        have e3:((from':Nat):Int)+((k:Nat):Int)=((from'+k:Nat):Int):=om
        have hb1:k<=k+runs folB s k:=om
        have hb2:k+runs folB s k<=s.length:=om
        refine gU1 (aI @splice_succ (aI @ap22 (aI @ap28 (aI @ap29 (aI @ap30 (aI @ap33 (aI @ap36 (aI @ap37 (aI @ap43 (aI @ap202 (aI @g0 (aI @g1 (aI @g6 (aI @g5 (aI @hsb @e3))))))))))))))) ?_
        refine ev_append (row:=tokC ((s.drop k).take (endT s k c-k),from'+k)) (fun _ _ _ _=>ap97) (OL.ext hol (.new _ _)) (row_new_same (Nat.le_refl _) (Nat.le_refl _)) (sub_full (by simp [tokC]) (by simp)) (by rw [List.length_map];omega) (by have:=hE.n;simp;omega) ?_
        intro vo' Z3 d1 d2 d3
        have hE3:Ext Z Z3:=d2.ext (hE.trans (Ext.new (t:=none) Z' [str ((s.drop k).take (endT s k c-k)),.int .i64 (from'+k:Nat)])) (OL.ext hol (.new _ _)) (Nat.le_refl _)
        refine gS1 (aI @g0 (aI @g1 (aI @g6 (aI @g5 @lp_normal)))) ?_
        refine ⟨s.length-endT s k c,om,endT s k c,done++[((s.drop k).take (endT s k c-k),from'+k)],vo',rfl,hend.2,fR1 g0,fR1 g1,fR1 hend',fR,by rw [List.map_append];exact d1,hE3,?_,by simp;omega⟩
        rw [List.append_assoc,List.singleton_append,<- hT,fT_fuel (s.length-endT s k c) f (endT s k c) om om]
      | false =>
        refine gS1 (aI @hon (aI @hl (aI @g0 (aI @g6 (aI @h1 @oneB_one))))) ?_
        refine digit_ok.mono ?_
        rintro r rfl
        have hdn:digB ((c.toNat:Nat):Int)=on digB c:=rfl
        cases hdg:on digB c with
        | false =>
          refine gS1 (aI @hdn (aI @hdg (aI @g0 (aI @g6 @h1)))) ?_
          have hend':endT s k c=k+1:=by unfold endT;rw [if_neg (by rw [hl];simp),if_neg (by rw [hdg];simp)]
          have hsb:sub s k (k+1-k)=some ((s.drop k).take (endT s k c-k)):=by rw [hend',sub_of om]
          have e3:((from':Nat):Int)+((k:Nat):Int)=((from'+k:Nat):Int):=om
          have hb1:k<=k+1:=om
          have hb2:k+1<=s.length:=om
          refine gU1 (aI @splice_succ (aI @ap22 (aI @ap28 (aI @ap29 (aI @ap30 (aI @ap33 (aI @ap36 (aI @ap37 (aI @ap43 (aI @ap202 (aI @g0 (aI @g1 (aI @g6 (aI @g5 (aI @hsb @e3))))))))))))))) ?_
          refine ev_append (row:=tokC ((s.drop k).take (endT s k c-k),from'+k)) (fun _ _ _ _=>ap97) (OL.ext hol (.new _ _)) (row_new_same (Nat.le_refl _) (Nat.le_refl _)) (sub_full (by simp [tokC]) (by simp)) (by rw [List.length_map];omega) (by have:=hE.n;simp;omega) ?_
          intro vo' Z3 d1 d2 d3
          have hE3:Ext Z Z3:=d2.ext (hE.trans (Ext.new (t:=none) Z' [str ((s.drop k).take (endT s k c-k)),.int .i64 (from'+k:Nat)])) (OL.ext hol (.new _ _)) (Nat.le_refl _)
          refine gS1 (aI @g0 (aI @g1 (aI @g6 (aI @g5 @lp_normal)))) ?_
          refine ⟨s.length-endT s k c,om,endT s k c,done++[((s.drop k).take (endT s k c-k),from'+k)],vo',rfl,hend.2,fR1 g0,fR1 g1,fR1 hend',fR,by rw [List.map_append];exact d1,hE3,?_,by simp;omega⟩
          rw [List.append_assoc,List.singleton_append,<- hT,fT_fuel (s.length-endT s k c) f (endT s k c) om om]
        | true =>
          refine gS1 (aI @hdn (aI @hdg (aI @g0 @g6))) ?_
          refine (run_ok (k:=k) tests_digit om om).mono ?_
          rintro r rfl
          have hle:=runs_le digB s k om
          have hq0:endT s k c=if (decide (k+runs digB s k<s.length)&&decide (s[k+runs digB s k]? =some 46)&&decide (k+runs digB s k+1<min (k+runs digB s k+1) s.length+runs digB s (min (k+runs digB s k+1) s.length)))=true
            then min (k+runs digB s k+1) s.length+runs digB s (min (k+runs digB s k+1) s.length) else k+runs digB s k:=by
           unfold endT;rw [if_neg (by rw [hl];simp),if_pos hdg]
          generalize k+runs digB s k=e at *
          have em1:((e:Nat):Int)+1=((e+1:Nat):Int):=om
          have em2:min (((e+1:Nat):Int)) (s.length:Int)=((min (e+1) s.length:Nat):Int):=om
          refine gS1 (aI @g0 (aI @g6 (aI @em1 @em2))) ?_
          refine (run_ok (k:=min (e+1) s.length) tests_digit om om).mono ?_
          rintro r rfl
          generalize min (e+1) s.length+runs digB s (min (e+1) s.length)=fr2 at *
          have ee1:decide (((e:Nat):Int)<(s.length:Int))=decide (e<s.length):=by rw [Bool.eq_iff_iff];simp
          cases hel:decide (e<s.length) with
          | false =>
            rw [hel] at hq0
            refine gS1 (aI @g0 (aI @g6 (aI @ee1 (aI @hel (aI @yu_t @yu_f))))) ?_
            have hend':endT s k c=e:=by rw [hq0];rfl
            have hsb:sub s k (e-k)=some ((s.drop k).take (endT s k c-k)):=by rw [hend',sub_of om]
            have e3:((from':Nat):Int)+((k:Nat):Int)=((from'+k:Nat):Int):=om
            have hb1:k<=e:=om
            have hb2:e<=s.length:=om
            refine gU1 (aI @splice_succ (aI @ap22 (aI @ap28 (aI @ap29 (aI @ap30 (aI @ap33 (aI @ap36 (aI @ap37 (aI @ap43 (aI @ap202 (aI @g0 (aI @g1 (aI @g6 (aI @g5 (aI @hsb @e3))))))))))))))) ?_
            refine ev_append (row:=tokC ((s.drop k).take (endT s k c-k),from'+k)) (fun _ _ _ _=>ap97) (OL.ext hol (.new _ _)) (row_new_same (Nat.le_refl _) (Nat.le_refl _)) (sub_full (by simp [tokC]) (by simp)) (by rw [List.length_map];omega) (by have:=hE.n;simp;omega) ?_
            intro vo' Z3 d1 d2 d3
            have hE3:Ext Z Z3:=d2.ext (hE.trans (Ext.new (t:=none) Z' [str ((s.drop k).take (endT s k c-k)),.int .i64 (from'+k:Nat)])) (OL.ext hol (.new _ _)) (Nat.le_refl _)
            refine gS1 (aI @g0 (aI @g1 (aI @g6 (aI @g5 @lp_normal)))) ?_
            refine ⟨s.length-endT s k c,om,endT s k c,done++[((s.drop k).take (endT s k c-k),from'+k)],vo',rfl,hend.2,fR1 g0,fR1 g1,fR1 hend',fR,by rw [List.map_append];exact d1,hE3,?_,by simp;omega⟩
            rw [List.append_assoc,List.singleton_append,<- hT,fT_fuel (s.length-endT s k c) f (endT s k c) om om]
          | true =>
            obtain ⟨d,hd46⟩:=at_some (of_decide_eq_true hel)
            have h2:=sub_at1 hd46
            have hdd:decide (((d.toNat:Nat):Int)=46)=decide (d=46):=by
             rw [Bool.eq_iff_iff,decide_eq_true_iff,decide_eq_true_iff]
             constructor
             ·intro h
              have:d.toNat=46:=om
              exact UInt8.toNat.inj this
             ·rintro rfl;rfl
            have hde:decide (s[e]? =some 46)=decide (d=46):=by rw [hd46];simp
            have hgt:decide (((e+1:Nat):Int)<((fr2:Nat):Int))=decide (e+1<fr2):=by rw [Bool.eq_iff_iff,decide_eq_true_iff,decide_eq_true_iff];omega
            rw [hel,hde] at hq0
            cases h46:decide (d=46) with
            | false =>
              rw [h46] at hq0
              refine gS1 (aI @g0 (aI @g6 (aI @ee1 (aI @hel (aI @h2 (aI @oneB_one (aI @hdd (aI @h46 (aI @yu_t @yu_f))))))))) ?_
              have hend':endT s k c=e:=by rw [hq0];rfl
              have hsb:sub s k (e-k)=some ((s.drop k).take (endT s k c-k)):=by rw [hend',sub_of om]
              have e3:((from':Nat):Int)+((k:Nat):Int)=((from'+k:Nat):Int):=om
              have hb1:k<=e:=om
              have hb2:e<=s.length:=om
              refine gU1 (aI @splice_succ (aI @ap22 (aI @ap28 (aI @ap29 (aI @ap30 (aI @ap33 (aI @ap36 (aI @ap37 (aI @ap43 (aI @ap202 (aI @g0 (aI @g1 (aI @g6 (aI @g5 (aI @hsb @e3))))))))))))))) ?_
              refine ev_append (row:=tokC ((s.drop k).take (endT s k c-k),from'+k)) (fun _ _ _ _=>ap97) (OL.ext hol (.new _ _)) (row_new_same (Nat.le_refl _) (Nat.le_refl _)) (sub_full (by simp [tokC]) (by simp)) (by rw [List.length_map];omega) (by have:=hE.n;simp;omega) ?_
              intro vo' Z3 d1 d2 d3
              have hE3:Ext Z Z3:=d2.ext (hE.trans (Ext.new (t:=none) Z' [str ((s.drop k).take (endT s k c-k)),.int .i64 (from'+k:Nat)])) (OL.ext hol (.new _ _)) (Nat.le_refl _)
              refine gS1 (aI @g0 (aI @g1 (aI @g6 (aI @g5 @lp_normal)))) ?_
              refine ⟨s.length-endT s k c,om,endT s k c,done++[((s.drop k).take (endT s k c-k),from'+k)],vo',rfl,hend.2,fR1 g0,fR1 g1,fR1 hend',fR,by rw [List.map_append];exact d1,hE3,?_,by simp;omega⟩
              rw [List.append_assoc,List.singleton_append,<- hT,fT_fuel (s.length-endT s k c) f (endT s k c) om om]
            | true =>
              rw [h46] at hq0
              cases hg:decide (e+1<fr2) with
              | false =>
                rw [hg] at hq0
                refine gS1 (aI @g0 (aI @g6 (aI @ee1 (aI @hel (aI @h2 (aI @oneB_one (aI @hdd (aI @h46 (aI @em1 (aI @hgt (aI @hg (aI @yu_t @yu_f)))))))))))) ?_
                have hend':endT s k c=e:=by rw [hq0];rfl
                have hsb:sub s k (e-k)=some ((s.drop k).take (endT s k c-k)):=by rw [hend',sub_of om]
                have e3:((from':Nat):Int)+((k:Nat):Int)=((from'+k:Nat):Int):=om
                have hb1:k<=e:=om
                have hb2:e<=s.length:=om
                refine gU1 (aI @splice_succ (aI @ap22 (aI @ap28 (aI @ap29 (aI @ap30 (aI @ap33 (aI @ap36 (aI @ap37 (aI @ap43 (aI @ap202 (aI @g0 (aI @g1 (aI @g6 (aI @g5 (aI @hsb @e3))))))))))))))) ?_
                refine ev_append (row:=tokC ((s.drop k).take (endT s k c-k),from'+k)) (fun _ _ _ _=>ap97) (OL.ext hol (.new _ _)) (row_new_same (Nat.le_refl _) (Nat.le_refl _)) (sub_full (by simp [tokC]) (by simp)) (by rw [List.length_map];omega) (by have:=hE.n;simp;omega) ?_
                intro vo' Z3 d1 d2 d3
                have hE3:Ext Z Z3:=d2.ext (hE.trans (Ext.new (t:=none) Z' [str ((s.drop k).take (endT s k c-k)),.int .i64 (from'+k:Nat)])) (OL.ext hol (.new _ _)) (Nat.le_refl _)
                refine gS1 (aI @g0 (aI @g1 (aI @g6 (aI @g5 @lp_normal)))) ?_
                refine ⟨s.length-endT s k c,om,endT s k c,done++[((s.drop k).take (endT s k c-k),from'+k)],vo',rfl,hend.2,fR1 g0,fR1 g1,fR1 hend',fR,by rw [List.map_append];exact d1,hE3,?_,by simp;omega⟩
                rw [List.append_assoc,List.singleton_append,<- hT,fT_fuel (s.length-endT s k c) f (endT s k c) om om]
              | true =>
                rw [hg] at hq0
                refine gS1 (aI @g0 (aI @g6 (aI @ee1 (aI @hel (aI @h2 (aI @oneB_one (aI @hdd (aI @h46 (aI @em1 (aI @hgt (aI @hg (aI @yu_t @yu_f)))))))))))) ?_
                have hend':endT s k c=fr2:=by rw [hq0];rfl
                have hsb:sub s k (fr2-k)=some ((s.drop k).take (endT s k c-k)):=by rw [hend',sub_of om]
                have e3:((from':Nat):Int)+((k:Nat):Int)=((from'+k:Nat):Int):=om
                have hb1:k<=fr2:=om
                have hb2:fr2<=s.length:=om
                refine gU1 (aI @splice_succ (aI @ap22 (aI @ap28 (aI @ap29 (aI @ap30 (aI @ap33 (aI @ap36 (aI @ap37 (aI @ap43 (aI @ap202 (aI @g0 (aI @g1 (aI @g6 (aI @g5 (aI @hsb @e3))))))))))))))) ?_
                refine ev_append (row:=tokC ((s.drop k).take (endT s k c-k),from'+k)) (fun _ _ _ _=>ap97) (OL.ext hol (.new _ _)) (row_new_same (Nat.le_refl _) (Nat.le_refl _)) (sub_full (by simp [tokC]) (by simp)) (by rw [List.length_map];omega) (by have:=hE.n;simp;omega) ?_
                intro vo' Z3 d1 d2 d3
                have hE3:Ext Z Z3:=d2.ext (hE.trans (Ext.new (t:=none) Z' [str ((s.drop k).take (endT s k c-k)),.int .i64 (from'+k:Nat)])) (OL.ext hol (.new _ _)) (Nat.le_refl _)
                refine gS1 (aI @g0 (aI @g1 (aI @g6 (aI @g5 @lp_normal)))) ?_
                refine ⟨s.length-endT s k c,om,endT s k c,done++[((s.drop k).take (endT s k c-k),from'+k)],vo',rfl,hend.2,fR1 g0,fR1 g1,fR1 hend',fR,by rw [List.map_append];exact d1,hE3,?_,by simp;omega⟩
                rw [List.append_assoc,List.singleton_append,<- hT,fT_fuel (s.length-endT s k c) f (endT s k c) om om]
 rintro r ⟨fr,Z',vo,rfl,g0,g1,g5,hol,hE⟩
 have e4:((from':Nat):Int)+((s.length:Nat):Int)=((from'+s.length:Nat):Int):=om
 refine gU1 (aI @splice_succ (aI @ap22 (aI @ap28 (aI @ap29 (aI @ap30 (aI @ap33 (aI @ap36 (aI @ap37 (aI @ap43 (aI @ap202 (aI @g0 (aI @g1 (aI @g5 @e4))))))))))))) ?_
 have hlen:=fT_len (s:=s) (from':=from') s.length 0
 refine ev_append (row:=tokC ([],from'+s.length)) (fun _ _ _ _=>ap97) (OL.ext hol (.new _ _)) (row_new_same (Nat.le_refl _) (Nat.le_refl _)) (sub_full (by simp [tokC]) (by simp)) (by rw [List.length_map];omega) (by have:=hE.n;simp;omega) ?_
 intro vo' Z3 d1 d2 d3
 have hE3:Ext Z Z3:=d2.ext (hE.trans (Ext.new (t:=none) Z' [str [],.int .i64 (from'+s.length:Nat)])) (OL.ext hol (.new _ _)) (Nat.le_refl _)
 refine gS1 @Tryz.results52 ?_
 exact ⟨vo',Z3,rfl,by unfold fToks;rw [List.map_append];exact d1,hE3⟩
end Go.Proofs.T
namespace Go.Proofs.T
open Go Go.Ab
open Nat (reduceMul reduceEqDiff reduceAdd)
set_option maxRecDepth 100000
def Fresh (L:Nat->Prop) (Z:St) (row:List Value) (e:Ex):Prop:=∀ H:List Nat,(∀ q∈H,L q)->ExAt (hide Z H) row e
theorem Fresh.weak {L L':Nat->Prop}{Z:St}{row:List Value}{e:Ex}(h:Fresh L Z row e) (hL:∀ q,L' q->L q):Fresh L' Z row e:=fun H hH=>h H fun q hq=>hL q (hH q hq)
theorem Fresh.more {L L':Nat->Prop}{Z Z':St}{row:List Value}{e:Ex}(h:Fresh L Z row e) (hE:Ext Z Z') (hL:∀ q,L' q->L q\/Z.n<=q):Fresh L' Z' row e:=by
 intro H hH
 refine (h (H.filter fun q=>decide (q<Z.n)) fun q hq=>?_).keep (keep_hide hE.n fun c hc hm=>⟨fun hm'=>hm ?_,hE.row hc⟩)
 ·obtain ⟨h1,h2⟩:=List.mem_filter.1 hq
  rcases hL q (hH q h1) with h3|h3
  ·exact h3
  ·have:=of_decide_eq_true h2;omega
 ·exact List.mem_filter.2 ⟨hm',decide_eq_true hc⟩
theorem Fresh.extX {L:Nat->Prop}{b:Nat}{Z Z':St}{row:List Value}{e:Ex}(h:Fresh L Z row e) (hE:ExtX b Z Z') (hb:L b):Fresh L Z' row e:=by
 intro H hH
 refine (h (b::H) fun q hq=>?_).keep (keep_hide hE.n fun c hc hm=>⟨fun hm'=>hm (List.mem_cons_of_mem _ hm'),hE.row hc fun e=>hm (by simp [e])⟩)
 rcases List.mem_cons.1 hq with rfl|hq
 ·exact hb
 ·exact hH q hq
theorem Fresh.ext {L:Nat->Prop}{Z Z':St}{row:List Value}{e:Ex}(h:Fresh L Z row e) (hE:Ext Z Z'):Fresh L Z' row e:=fun H hH=>(h H hH).keep (keep_ext hE)
theorem Fresh.at {L:Nat->Prop}{Z:St}{row:List Value}{e:Ex}(h:Fresh L Z row e):ExAt Z row e:=h [] (by simp)
theorem Fresh.five {L:Nat->Prop}{Z:St}{row:List Value}{e:Ex}(h:Fresh L Z row e):∃ c1 c2 c3 c4 c5,row=[c1,c2,c3,c4,c5]:=fc5 h.at
abbrev Fx:=Ex×Nat×Nat×Nat
def FmP (L:Nat->Prop) (Z:St) (b:Nat) (tv:Value) (toks:List Tok) (R:Except Er Fx) (r:CR):Prop:=match R with
 | .ok (e,d,k,p)=>∃ Z' row,r=⟨false,.agg ⟨row++[.int .i64 (d:Nat)]⟩,Z'⟩/\ExtX b Z Z'/\Z'.orow b=some [tv,.int .i64 (k:Nat),.int .i64 (p:Nat)]/\k<toks.length/\Fresh L Z' row e
 | .error (at',e)=>∃ Z',r=⟨true,fault at' e,Z'⟩/\ExtX b Z Z'
section
variable {L:Nat->Prop} {b:Nat} {Z:St} {tv:Value} {toks:List Tok} {k p:Nat}
theorem leaf_ok (h:Sc Z b tv toks k [.int .i64 (p:Nat)]) (hp:p<1000000000){row:List Value}{e:Ex}(he:Fresh L Z row e) (hb:L b) :
  Ev (go Tryz.prog HS (.fn 205) [.pointer (some ⟨b,0,none⟩),.agg ⟨row⟩] Z) (FmP L Z b tv toks (.ok (e,1,k,p+1))) ⟨⟩:=by
 have ro:=h.row
 have hl:=h.lt
 obtain ⟨c1,c2,c3,c4,c5,rfl⟩:=he.five
 have e1:((p:Nat):Int)+1=((p+1:Nat):Int):=om
 refine ev_go Tryz.func205 rfl rfl ?_
 have hr:=row_of ro
 refine gS1 (aI @hr (aI @ro (aI @e1 @Tryz.results205))) ?_
 have hE:ExtX b Z ((((Z.new [c1,c2,c3,c4,c5]).new [str [],.int .i64 0,.int .i64 0,str [],.slice none 0 0,.int .i64 0] (some 154)).upd b [tv,.int .i64 (k:Nat),.int .i64 (p+1:Nat)]).upd (Z.n+1) [c1,c2,c3,c4,c5,.int .i64 1]):=eXX
 exact ⟨_,[c1,c2,c3,c4,c5],rfl,hE,cL,h.k,he.extX hE hb⟩
theorem skip_ok {w:By}{rest:List Value}(h:Sc Z b tv toks k rest) (hends:Ends toks) (hw:w≠[]) :
  Ev (go Tryz.prog HS (.fn 204) [.pointer (some ⟨b,0,none⟩),str w] Z) (fun r=>if (tokA toks k).1=w then ∃ Z',r=⟨false,.tuple ⟨[]⟩,Z'⟩/\ExtX b Z Z'/\Z'.orow b=some (tv:: .int .i64 (k+1:Nat)::rest)/\k+1<toks.length
   else ∃ Z',r=⟨true,fault (tokA toks k).2 12,Z'⟩/\ExtX b Z Z') ⟨⟩:=by
 have ht0:=tokA_at h.k
 refine ev_go Tryz.func204 rfl rfl ?_
 refine gS ?_
 refine (peek_ok h ht0).mono ?_
 rintro r ⟨Z1,rfl,hE1⟩
 have h1:=h.ext hE1
 refine gS ?_
 refine (need_ok h1 ht0).mono ?_
 rintro r (⟨hok,rfl⟩|⟨hok,Z3,rfl,hE3⟩)
 case inr =>
  refine gS ?_
  refine Must.intro (by kernel_rfl) ?_
  refine gS ?_
  rw [if_neg (of_decide_eq_false hok)]
  exact ⟨_,rfl,.of (hE1.trans hE3)⟩
 have hw':=of_decide_eq_true hok
 refine gS ?_
 refine (take_ok h1 ht0).mono ?_
 rintro r ⟨Z4,rfl,hE4,hr4⟩
 refine gS1 @Tryz.results204 ?_
 rw [if_pos hw']
 exact ⟨_,rfl,(ExtX.of hE1).trans hE4,hr4,hends k _ ht0 (by rw [hw'];exact hw)⟩
theorem node_ok (h:Sc Z b tv toks k [.int .i64 (p:Nat)]) (hp:p<1000000000){op:By}{row row':List Value}{e e':Ex}{d d':Nat}(hd:d<1000000000) (hd':d'<1000000000) (he:Fresh L Z row e) (he':Fresh L Z row' e') (hb:L b) (hL:∀ q,L q->q<Z.n) :
  Ev (go Tryz.prog HS (.fn 172) [.pointer (some ⟨b,0,none⟩),str op,.agg ⟨row++[.int .i64 (d:Nat)]⟩,.agg ⟨row'++[.int .i64 (d':Nat)]⟩] Z) (FmP L Z b tv toks (.ok (.mk op 0 0 [] [e,e'],1+max d d',k,p+1))) ⟨⟩:=by
 have ro:=h.row
 have hl:=h.lt
 obtain ⟨c1,c2,c3,c4,c5,rfl⟩:=he.five
 obtain ⟨f1,f2,f3,f4,f5,rfl⟩:=he'.five
 have e1:((p:Nat):Int)+1=((p+1:Nat):Int):=om
 have e2:max ((d:Nat):Int) ((d':Nat):Int)=((max d d':Nat):Int):=om
 have e3:(1:Int)+((max d d':Nat):Int)=((1+max d d':Nat):Int):=om
 refine ev_go Tryz.func172 rfl rfl ?_
 have hr:=row_of ro
 refine gS1 (aI @hr (aI @ro (aI @e1 (aI @e2 (aI @e3 @Tryz.results172))))) ?_
 have hE:ExtX b Z ((((((Z.new [c1,c2,c3,c4,c5,.int .i64 (d:Nat)]).new [f1,f2,f3,f4,f5,.int .i64 (d':Nat)]).new [str [],.int .i64 0,.int .i64 0,str [],.slice none 0 0,.int .i64 0] (some 154)).upd b [tv,.int .i64 (k:Nat),.int .i64 (p+1:Nat)]).new [c1,c2,c3,c4,c5,f1,f2,f3,f4,f5]).upd (Z.n+1+1)
  [str op,.int .i64 0,.int .i64 0,str [],.slice (some ⟨Z.n+1+1+1,0,none⟩) 2 2,.int .i64 (1+max d d':Nat)]):=eXX
 have hol:OL Z.n ((((((Z.new [c1,c2,c3,c4,c5,.int .i64 (d:Nat)]).new [f1,f2,f3,f4,f5,.int .i64 (d':Nat)]).new [str [],.int .i64 0,.int .i64 0,str [],.slice none 0 0,.int .i64 0] (some 154)).upd b [tv,.int .i64 (k:Nat),.int .i64 (p+1:Nat)]).new [c1,c2,c3,c4,c5,f1,f2,f3,f4,f5]).upd (Z.n+1+1)
  [str op,.int .i64 0,.int .i64 0,str [],.slice (some ⟨Z.n+1+1+1,0,none⟩) 2 2,.int .i64 (1+max d d':Nat)]) 5 (.slice (some ⟨Z.n+1+1+1,0,none⟩) 2 2) [[c1,c2,c3,c4,c5],[f1,f2,f3,f4,f5]]:=OL.mk (cells:=[c1,c2,c3,c4,c5,f1,f2,f3,f4,f5]) rfl rfl (by simp) (.inl rfl) om (by simp) (cL)
 refine ⟨_,[str op,.int .i64 0,.int .i64 0,str [],.slice (some ⟨Z.n+1+1+1,0,none⟩) 2 2],rfl,hE,cL,h.k,fun H hH=>?_⟩
 have g1:=(he.extX hE hb) H hH
 have g2:=(he'.extX hE hb) H hH
 refine ⟨_,[[c1,c2,c3,c4,c5],[f1,f2,f3,f4,f5]],rfl,(OL.hide hol fun q hq=>hL q (hH q hq)).sl,by simp,_,_,rfl,g1,_,_,rfl,g2,rfl⟩
end
end Go.Proofs.T
namespace Go.Proofs.T
open Go Go.Ab
open Nat (reduceMul reduceEqDiff reduceAdd)
set_option maxRecDepth 100000
theorem containsc_ok {Z:St}{s:By}{c:UInt8}:Ev (go Tryz.prog HS (.fn 171) [str s,str [c]] Z) (fun r=>r=⟨false,.bool (!decide (idxL c s<0)),Z⟩) ⟨⟩:=by
 refine ev_go Tryz.func171 rfl rfl ?_
 refine gS ?_
 refine index_ok.mono ?_
 rintro r rfl
 refine gS1 @Tryz.results171 ?_;try exact ⟨⟩
noncomputable def opB (ops t:By):Bool:=match t with
 | [c]=> !decide (idxL c ops<0)
 | _=>false
theorem opB_ne {ops t:By}(h:opB ops t=true):t≠[]:=by rintro rfl;cases h
noncomputable def chainF (A:Nat->Nat->Except Er Fx) (ops:By) (toks:List Tok):Nat->Fx->Except Er Fx
 | 0,x=> .ok x
 | f+1,(e,d,k,p)=>if opB ops (tokA toks k).1=true then thenR (A (k+1) p) fun (e',d',k',p')=>chainF A ops toks f (.mk (tokA toks k).1 0 0 [] [e,e'],1+max d d',k',p'+1) else .ok (e,d,k,p)
theorem chainF_succ {A:Nat->Nat->Except Er Fx}{ops:By}{toks:List Tok}{f:Nat}{e:Ex}{d k p:Nat}:chainF A ops toks (f+1) (e,d,k,p)=if opB ops (tokA toks k).1=true then thenR (A (k+1) p) fun (e',d',k',p')=>chainF A ops toks f (.mk (tokA toks k).1 0 0 [] [e,e'],1+max d d',k',p'+1) else .ok (e,d,k,p):=rfl
theorem chainF_fuel {A:Nat->Nat->Except Er Fx}{ops:By}{toks:List Tok}{k0:Nat}(hA:∀ k p,k0<=k->∀ e d k' p',A k p= .ok (e,d,k',p')->k<k'):∀ (f f':Nat) (e:Ex) (d k p:Nat),k0<=k->toks.length-k<=f->toks.length-k<=f'->k<toks.length+1->(∀ k,toks.length<=k->opB ops (tokA toks k).1=false) ->
  chainF A ops toks f (e,d,k,p)=chainF A ops toks f' (e,d,k,p):=by
 intro f
 induction f with
 | zero =>
   intro f' e d k p h0 h1 h2 h3 hop
   cases f' with
   | zero=>rfl
   | succ f'=>rw [chainF_succ,if_neg (by rw [hop k om];simp)];rfl
 | succ f ih =>
   intro f' e d k p h0 h1 h2 h3 hop
   cases f' with
   | zero=>rw [chainF_succ,if_neg (by rw [hop k om];simp)];rfl
   | succ f' =>
     rw [chainF_succ,chainF_succ]
     by_cases ho:opB ops (tokA toks k).1=true
     ·rw [if_pos ho,if_pos ho]
      cases hR:A (k+1) p with
      | error e=>rfl
      | ok x =>
        obtain ⟨e',d',k',p'⟩:=x
        have:=hA (k+1) p om _ _ _ _ hR
        rw [thenR_ok,thenR_ok]
        dsimp only
        by_cases hk:k'<toks.length+1
        ·exact ih f' _ _ _ _ om om om hk hop
        ·have hz:∀ g,chainF A ops toks g (.mk (tokA toks k).1 0 0 [] [e,e'],1+max d d',k',p'+1)= .ok (.mk (tokA toks k).1 0 0 [] [e,e'],1+max d d',k',p'+1):=by
          intro g
          cases g with
          | zero=>rfl
          | succ g=>rw [chainF_succ,if_neg (by rw [hop k' om];simp)]
         rw [hz,hz]
     ·rw [if_neg ho,if_neg ho]
noncomputable def chainS (A:Nat->Nat->Except Er Fx) (ops:By) (toks:List Tok) (k p:Nat):Except Er Fx:=thenR (A k p) fun (e,d,k,p)=>chainF A ops toks (toks.length-k) (e,d,k,p)
def Bd (k0 p0:Nat) (R:Except Er Fx):Prop:=∀ e d k p,R= .ok (e,d,k,p)->k0<k/\p<=p0+(k-k0)/\d<=k-k0
theorem opB_end {ops:By}{toks:List Tok}{k:Nat}(h:toks.length<=k):opB ops (tokA toks k).1=false:=by
 have:tokA toks k=([],0):=by unfold tokA;rw [List.getD_eq_getElem?_getD,List.getElem?_eq_none h];rfl
 rw [this];rfl
set_option maxHeartbeats 16000000 in
theorem chain_ok {L:Nat->Prop}{b:Nat}{Z:St}{tv:Value}{toks:List Tok}{k p:Nat}{ops:By}{A:Nat->Nat->Except Er Fx}{g:Nat}(h:Sc Z b tv toks k [.int .i64 (p:Nat)]) (hends:Ends toks) (htl:toks.length<100000000) (hp:p<=k) (hb:L b) (hL:∀ q,L q->q<Z.n)
  (hA:∀ (M:Nat->Prop) (Z':St) (k' p':Nat),M b->(∀ q,M q->q<Z'.n)->k<=k'->p'<=k'->Sc Z' b tv toks k' [.int .i64 (p':Nat)]->Ev (go Tryz.prog HS (.fn g) [.pointer (some ⟨b,0,none⟩)] Z') (FmP M Z' b tv toks (A k' p')) ⟨⟩)
  (hB:∀ k' p',k<=k'->Bd k' p' (A k' p')) :
  Ev (go Tryz.prog HS (.fn 132) [.pointer (some ⟨b,0,none⟩),str ops,.func (.func g) ⟨[.pointer (some ⟨b,0,none⟩)]⟩ ⟨[]⟩] Z) (FmP L Z b tv toks (chainS A ops toks k p)) ⟨⟩:=by
 have hbl:=h.lt
 refine ev_go Tryz.func132 rfl rfl ?_
 refine gS ?_
 have h1:=h.ext (Ext.new (t:=some 154) Z [str [],.int .i64 0,.int .i64 0,str [],.slice none 0 0,.int .i64 0])
 refine (hA (fun q=>L q\/q=Z.n) _ k p (.inl hb) (by rintro q (hq|rfl);have:=hL q hq;simp;omega;simp) (Nat.le_refl _) hp h1).mono ?_
 intro r
 unfold chainS
 cases hR:A k p with
 | error pe =>
   obtain ⟨at',e⟩:=pe
   rintro ⟨Z',rfl,hE⟩
   refine gS ?_
   rw [thenR_er]
   exact ⟨_,rfl,(ExtX.of (.new _ _)).trans hE⟩
 | ok x =>
   obtain ⟨e1,d1,k1,p1⟩:=x
   obtain ⟨b1,b2,b3⟩:=hB k p (Nat.le_refl _) _ _ _ _ hR
   rintro ⟨Z1,row1,rfl,hE1,q1,hk1,hf1⟩
   rw [thenR_ok]
   try dsimp only
   obtain ⟨c1,c2,c3,c4,c5,rfl⟩:=hf1.five
   have hn1:=hE1.n
   simp at hn1
   have z1:Z1.orow Z.n=some [str [],.int .i64 0,.int .i64 0,str [],.slice none 0 0,.int .i64 0]:=by rw [hE1.orow (by simp) om];exact cL
   refine gS ?_
   have hE2:ExtX b Z ((Z1.new [str [],.int .i64 0,.int .i64 0,str [],.slice none 0 0,.int .i64 0] (some 154)).upd Z1.n [c1,c2,c3,c4,c5,.int .i64 (d1:Nat)]) :=
    (((((ExtX.of (.new _ _)).trans hE1)).newF _).updF om _)
   have h2:=h.extX hE2 (k':=k1) (rest':=[.int .i64 (p1:Nat)]) (cL1 q1) hk1
   have ht0:=tokA_at hk1
   refine (peek_ok h2 ht0).mono ?_
   rintro r ⟨Z3,rfl,hE3⟩
   have h3:=h2.ext hE3
   have hn3:=hE3.n
   simp at hn3
   have z3:Z3.orow Z.n=some [str [],.int .i64 0,.int .i64 0,str [],.slice none 0 0,.int .i64 0]:=by rw [orow_congr (hE3.same _ (by simp;omega))];exact cL1 z1
   have c3':Z3.orow Z1.n=some [c1,c2,c3,c4,c5,.int .i64 (d1:Nat)]:=by rw [orow_congr (hE3.same _ (by simp))];exact cL
   have hf3:Fresh (fun q=>L q\/q=Z.n\/q=Z1.n) Z3 [c1,c2,c3,c4,c5] e1:=by
    refine hf1.more (L':=fun q=>L q\/q=Z.n\/q=Z1.n) ⟨om,fun c hc=>?_⟩ ?_
    ·rw [hE3.same c (by simp;omega),upd_get,if_neg om,new_get,if_neg om]
    ·rintro q (hq|rfl|rfl)
     ·exact .inl (.inl hq)
     ·exact .inl (.inr rfl)
     ·exact .inr (Nat.le_refl _)
   refine gS ?_
   refine ev_loop (fun j fr Z'=>∃ e d k' p' row,j=toks.length-k'/\fr.get 0=some (.pointer (some ⟨b,0,none⟩))/\fr.get 1=some (str ops)/\fr.get 2=some (.func (.func g) ⟨[.pointer (some ⟨b,0,none⟩)]⟩ ⟨[]⟩)/\fr.get 6=some (.pointer (some ⟨Z.n,0,none⟩))/\fr.get 7=some (.pointer (some ⟨Z1.n,0,none⟩)) /\
     fr.get 8=some (str (tokA toks k').1)/\ExtX b Z Z'/\Z'.orow b=some [tv,.int .i64 (k':Nat),.int .i64 (p':Nat)]/\k'<toks.length/\Z1.n<Z'.n/\Z'.orow Z1.n=some (row++[.int .i64 (d:Nat)])/\Z'.orow Z.n=some [str [],.int .i64 0,.int .i64 0,str [],.slice none 0 0,.int .i64 0] /\
     Fresh (fun q=>L q\/q=Z.n\/q=Z1.n) Z' row e/\chainF A ops toks j (e,d,k',p')=chainF A ops toks (toks.length-k1) (e1,d1,k1,p1)/\k<k'/\p'<=p+(k'-k)/\d<=k'-k)
    (fun r=>match chainF A ops toks (toks.length-k1) (e1,d1,k1,p1) with
      | .ok (e,d,k',p')=>∃ fr Z' row,r=⟨.exit 0,fr,Z'⟩/\fr.get 6=some (.pointer (some ⟨Z.n,0,none⟩))/\fr.get 7=some (.pointer (some ⟨Z1.n,0,none⟩))/\ExtX b Z Z'/\Z'.orow b=some [tv,.int .i64 (k':Nat),.int .i64 (p':Nat)]/\k'<toks.length/\Z1.n<Z'.n /\
         Z'.orow Z1.n=some (row++[.int .i64 (d:Nat)])/\Z'.orow Z.n=some [str [],.int .i64 0,.int .i64 0,str [],.slice none 0 0,.int .i64 0]/\Fresh (fun q=>L q\/q=Z.n\/q=Z1.n) Z' row e
      | .error (at',e)=>∃ fr Z',r=⟨.pan (fault at' e),fr,Z'⟩/\ExtX b Z Z') (toks.length-k1) ?_ ?_ ?_
   ·exact ⟨e1,d1,k1,p1,[c1,c2,c3,c4,c5],rfl,fR,fR,fR,fR,fR,fR,hE2.trans (.of hE3),h3.row,hk1,om,c3',z3,hf3,rfl,b1,b2,b3⟩
   ·rintro j fr Z' ⟨e,d,k',p',row,rfl,g0,g1,g2,g6,g7,g8,hE,hq,hk,hc,ho,hz,hf,hT,i1,i2,i3⟩
    rw [<- hT]
    clear hT
    obtain ⟨f,hff⟩:∃ f,toks.length-k'=f+1:=⟨toks.length-k'-1,om⟩
    rw [hff,chainF_succ]
    have hS:=h.extX hE hq hk
    have ht1:=tokA_at hk
    have shp:∀ w1:By,(tokA toks k').1=w1->(decide ((w1.length:Int)=1)=false/\opB ops w1=false)\/∃ c,w1=[c]:=by
     intro w1 _
     match w1 with
     | []=>exact .inl ⟨rfl,rfl⟩
     | [c]=>exact .inr ⟨c,rfl⟩
     | c::d::r=>exact .inl ⟨by rw [decide_eq_false_iff_not];simp;omega,rfl⟩
    rcases shp _ rfl with ⟨y1,y2⟩|⟨c,hw1⟩
    ·rw [if_neg (by rw [y2];simp)]
     refine gS1 (aI @g0 (aI @g1 (aI @g8 (aI @y1 @lp_exit)))) ?_
     exact ⟨_,_,row,rfl,fR1 g6,fR1 g7,hE,hq,hk,hc,ho,hz,hf⟩
    ·have hop:opB ops (tokA toks k').1= !decide (idxL c ops<0):=by rw [hw1];rfl
     rw [hop]
     rw [hw1] at g8
     have y1:decide (((1:Nat):Int)=1)=true:=rfl
     refine gS1 (aI @g0 (aI @g1 (aI @g8 @y1))) ?_
     refine containsc_ok.mono ?_
     rintro r rfl
     cases hx:(!decide (idxL c ops<0)) with
     | false =>
       rw [if_neg (by simp)]
       refine gS1 (aI @hx @lp_exit) ?_
       exact ⟨_,_,row,rfl,fR1 g6,fR1 g7,hE,hq,hk,hc,ho,hz,hf⟩
     | true =>
       rw [if_pos rfl]
       refine gS1 (aI @hx @g0) ?_
       refine (take_ok hS ht1).mono ?_
       rintro r ⟨Z4,rfl,hE4,q4⟩
       have hk4:=hends k' _ ht1 (by rw [hw1];simp)
       have h4:=hS.extX hE4 q4 hk4
       have hn4:=hE4.n
       have ho4:Z4.orow Z1.n=some (row++[.int .i64 (d:Nat)]):=by rw [hE4.orow hc om];exact ho
       have hz4:Z4.orow Z.n=some [str [],.int .i64 0,.int .i64 0,str [],.slice none 0 0,.int .i64 0]:=by rw [hE4.orow om om];exact hz
       have hf4:=hf.extX hE4 (.inl hb)
       obtain ⟨r1,r2,r3,r4,r5,rfl⟩:=hf4.five
       have ho4':=row_of ho4
       simp only [List.cons_append,List.nil_append] at ho4'
       refine gS1 (aI @g0 (aI @g2 (aI @g7 (aI @g8 @ho4')))) ?_
       refine (hA (fun q=>L q\/q=Z.n\/q=Z1.n) Z4 (k'+1) p' (.inl hb) (by rintro q (hq|rfl|rfl);have:=hL q hq;omega;omega;omega) om om h4).mono ?_
       intro r
       cases hR2:A (k'+1) p' with
       | error pe =>
         obtain ⟨at',e2⟩:=pe
         rintro ⟨Z5,rfl,hE5⟩
         refine gS ?_
         refine Must.intro (by kernel_rfl) ?_
         refine Must.intro (by (repeat first|simp (disch:=omega) only [as_read,as_upd,as_newb,rok_read,rok_eff,rok_nil,bi_true,as_nil,as_x hE5]|rw [as_ord (by kernel_rfl)]);first|done|rfl) ?_
         refine gS ?_
         rw [thenR_er]
         exact ⟨_,_,rfl,(hE.trans hE4).trans hE5⟩
       | ok x =>
         obtain ⟨e2,d2,k2,p2⟩:=x
         obtain ⟨b4,b5,b6⟩:=hB (k'+1) p' om _ _ _ _ hR2
         rintro ⟨Z5,row2,rfl,hE5,q5,hk5,hf5⟩
         rw [thenR_ok]
         try dsimp only
         obtain ⟨s1,s2,s3,s4,s5,rfl⟩:=hf5.five
         have h5:=h4.extX hE5 q5 hk5
         have hn5:=hE5.n
         have hf5':=hf4.extX hE5 (.inl hb)
         refine gS ?_
         refine (node_ok h5 (p:=p2) (op:=[c]) (d:=d) (d':=d2) om om om hf5' hf5 (.inl hb) (by rintro q (hq|rfl|rfl);have:=hL q hq;omega;omega;omega)).mono ?_
         rintro r ⟨Z6,row6,rfl,hE6,q6,hk6,hf6⟩
         obtain ⟨v1,v2,v3,v4,v5,rfl⟩:=hf6.five
         have hn6:=hE6.n
         have ho6:Z6.orow Z1.n=some [r1,r2,r3,r4,r5,.int .i64 (d:Nat)]:=by rw [hE6.orow om om,hE5.orow om om];exact ho4
         have hz6:Z6.orow Z.n=some [str [],.int .i64 0,.int .i64 0,str [],.slice none 0 0,.int .i64 0]:=by rw [hE6.orow om om,hE5.orow om om];exact hz4
         refine gS1 (aI @ho6 @g7) ?_
         refine Must.intro (by (repeat first|simp (disch:=omega) only [as_read,as_upd,as_newb,rok_read,rok_eff,rok_nil,bi_true,as_nil,as_x hE5,as_x hE6]|rw [as_ord (by kernel_rfl)]);first|done|rfl) ?_
         refine gS1 @g0 ?_
         have hE7:ExtX b Z (Z6.upd Z1.n [v1,v2,v3,v4,v5,.int .i64 (1+max d d2:Nat)]):=(((hE.trans hE4).trans hE5).trans hE6).updF om _
         have h7:=h.extX hE7 (k':=k2) (rest':=[.int .i64 (p2+1:Nat)]) (cL1 q6) hk6
         have ht7:=tokA_at hk6
         refine (peek_ok h7 ht7).mono ?_
         rintro r ⟨Z8,rfl,hE8⟩
         have hn8:=hE8.n
         simp at hn8
         have hf7:=(hf6.extX (b:=Z1.n) (Z':=Z6.upd Z1.n [v1,v2,v3,v4,v5,.int .i64 (1+max d d2:Nat)]) (ExtX.upd .refl _) (.inr (.inr rfl))).ext hE8
         rw [hw1]
         refine gS1 (aI @g0 @lp_normal) ?_
         refine ⟨toks.length-k2,om,.mk [c] 0 0 [] [e,e2],1+max d d2,k2,p2+1,[v1,v2,v3,v4,v5],rfl,fR1 g0,fR1 g1,fR1 g2,fR1 g6,fR1 g7,fR,hE7.trans (.of hE8),(h7.ext hE8).row,hk6,om,?_,?_,hf7,?_,om,om,om⟩
         ·rw [orow_congr (hE8.same _ (by simp;omega))];exact cL
         ·rw [orow_congr (hE8.same _ (by simp;omega))];exact cL1 hz6
         ·rw [<- hw1]
          exact chainF_fuel (k0:=k) (fun k3 p3 h3 e3 d3 k4 p4 h4=>(hB k3 p3 h3 _ _ _ _ h4).1) _ _ _ _ _ _ om (Nat.le_refl _) om om (fun _ h3=>opB_end h3)
   ·intro r
    cases hRR:chainF A ops toks (toks.length-k1) (e1,d1,k1,p1) with
    | error pe =>
      obtain ⟨at',e⟩:=pe
      rintro ⟨fr,Z',rfl,hE⟩
      refine gS ?_
      exact ⟨_,rfl,hE⟩
    | ok x =>
      obtain ⟨e,d,k',p'⟩:=x
      rintro ⟨fr,Z',row,rfl,g6,g7,hE,hq,hk,hc,ho,hz,hf⟩
      obtain ⟨r1,r2,r3,r4,r5,rfl⟩:=hf.five
      have ho':=row_of ho
      simp only [List.cons_append,List.nil_append] at ho'
      refine gS1 (aI @g6 (aI @g7 (aI @ho' (aI @hz @Tryz.results132)))) ?_
      exact ⟨_,[r1,r2,r3,r4,r5],rfl,hE.updF (Nat.le_refl _) _,cL1 hq,hk,(hf.extX (b:=Z.n) (ExtX.upd .refl _) (.inr (.inl rfl))).weak fun q hq=> .inl hq⟩
end Go.Proofs.T
namespace Go.Proofs.T
open Go Go.Ab
open Nat (reduceMul reduceEqDiff reduceAdd)
set_option maxRecDepth 100000
theorem wrapU_in {n:Int}(h1:0<=n) (h2:n<18446744073709551616):IntKind.u64.wrap n=n:=by
 have hm:n % 18446744073709551616=n:=Int.emod_eq_of_lt h1 h2
 simp [IntKind.wrap,IntKind.bits,IntKind.signed,hm]
theorem gcdU_ok {Z:St}{a b:Nat} :
  Ev (go Tryz.prog HS (.fn 136) [.int .u64 (a:Nat),.int .u64 (b:Nat)] Z) (fun r=>r=⟨false,.int .u64 (Nat.gcd a b:Nat),Z⟩) ⟨⟩:=by
 refine ev_go Tryz.func136 rfl rfl ?_
 refine gS ?_
 refine ev_loop (fun m fr Z'=>∃ a':Nat,fr.get 0=some (.int .u64 (a':Nat))/\fr.get 1=some (.int .u64 (m:Nat))/\Z'=Z/\Nat.gcd a' m=Nat.gcd a b)
  (fun r=>∃ fr,r=⟨.exit 0,fr,Z⟩/\fr.get 0=some (.int .u64 (Nat.gcd a b:Nat))) b ?_ ?_ ?_
 ·exact ⟨a,fR,fR,rfl,rfl⟩
 ·rintro m fr Z' ⟨a',g0,g1,rfl,hg⟩
  have e1:decide ((0:Int)<((m:Nat):Int))=decide (0<m):=by rw [Bool.eq_iff_iff];simp
  cases hm:decide (0<m) with
  | false =>
    have:m=0:=by have:=of_decide_eq_false hm;omega
    subst this
    refine gS1 (aI @g0 (aI @g1 (aI @e1 (aI @hm @lp_exit)))) ?_
    exact ⟨_,rfl,by rw [<- hg,Nat.gcd_zero_right];exact fR1 g0⟩
  | true =>
    have hm':=of_decide_eq_true hm
    have e2:Int.tmod ((a':Nat):Int) ((m:Nat):Int)=((a' % m:Nat):Int):=by
     rw [<- Int.ofNat_tmod]
    refine gS1 (aI @g0 (aI @g1 (aI @e1 (aI @hm (aI @e2 @lp_normal))))) ?_
    exact ⟨a' % m,Nat.mod_lt _ hm',m,fR,fR,by trivial,by rw [<- hg,Nat.gcd_comm m,<- Nat.gcd_rec,Nat.gcd_comm]⟩
 rintro r ⟨fr,rfl,g0⟩
 refine gS1 (aI @g0 @Tryz.results136) ?_;try exact ⟨⟩
theorem size_ok {Z:St}{n:Nat}(h:n<9223372036854775808) :
  Ev (go Tryz.prog HS (.fn 137) [.int .i64 (n:Nat)] Z) (fun r=>r=⟨false,.int .u64 (n:Nat),Z⟩) ⟨⟩:=by
 have e1:decide (((n:Nat):Int)<0)=false:=by rw [decide_eq_false_iff_not];omega
 have e2:IntKind.u64.wrap ((n:Nat):Int)=(n:Nat):=wrapU_in om om
 refine ev_go Tryz.func137 rfl rfl ?_
 refine gS1 (aI @e1 (aI @e2 @Tryz.results137)) ?_;try exact ⟨⟩
theorem rat_ok {Z:St}{n d:Nat}(hn:n<9223372036854775808) (hd:d<9223372036854775808) :
  Ev (go Tryz.prog HS (.fn 244) [.bool false,.agg ⟨[.int .u64 0,.int .u64 (n:Nat)]⟩,.agg ⟨[.int .u64 0,.int .u64 (d:Nat)]⟩] Z) (fun r=>∃ Z',r=⟨false,.tuple ⟨[.agg ⟨[.int .i64 (n:Nat),.int .i64 (d:Nat)]⟩,.bool true]⟩,Z'⟩/\Ext Z Z') ⟨⟩:=by
 have e1:decide ((9223372036854775807:Int)<((d:Nat):Int))=false:=by rw [decide_eq_false_iff_not];omega
 have e2:decide ((9223372036854775808:Int)<((n:Nat):Int))=false:=by rw [decide_eq_false_iff_not];omega
 have e3:decide (((n:Nat):Int)=(9223372036854775808:Int))=false:=by rw [decide_eq_false_iff_not];omega
 have e4:IntKind.i64.wrap ((n:Nat):Int)=(n:Nat):=wrap64_in om om
 have e5:IntKind.i64.wrap ((d:Nat):Int)=(d:Nat):=wrap64_in om om
 have e0:decide ((0:Int)<0)=false:=rfl
 refine ev_go Tryz.func244 rfl rfl ?_
 refine gS1 (aI @e0 (aI @e1 (aI @e2 (aI @e3 (aI @e4 (aI @e5 (aI @yu_t (aI @yu_f @Tryz.results244)))))))) ?_
 exact ⟨_,rfl,eX⟩
theorem lowest_ok {Z:St}{n d:Nat}(hn:n<9223372036854775808) (hd:d<9223372036854775808) (hd0:0<d) :
  Ev (go Tryz.prog HS (.fn 236) [.agg ⟨[.bool false,.int .u64 (n:Nat),.int .u64 (d:Nat)]⟩] Z) (fun r=>∃ Z',r=⟨false,.tuple ⟨[.agg ⟨[.int .i64 (n / Nat.gcd n d:Nat),.int .i64 (d / Nat.gcd n d:Nat)]⟩,.bool true]⟩,Z'⟩/\Ext Z Z') ⟨⟩:=by
 have hg:0<Nat.gcd n d:=Nat.gcd_pos_of_pos_right n hd0
 have hq1:n / Nat.gcd n d<=n:=Nat.div_le_self _ _
 have hq2:d / Nat.gcd n d<=d:=Nat.div_le_self _ _
 refine ev_go Tryz.func236 rfl rfl ?_
 refine gS ?_
 refine gcdU_ok.mono ?_
 rintro r rfl
 generalize Nat.gcd n d=g at *
 have e1:IntKind.u64.wrap (Int.tdiv ((n:Nat):Int) ((g:Nat):Int))=((n / g:Nat):Int):=by
  rw [<- Int.ofNat_tdiv];exact wrapU_in (Int.natCast_nonneg _) om
 have e2:IntKind.u64.wrap (Int.tdiv ((d:Nat):Int) ((g:Nat):Int))=((d / g:Nat):Int):=by
  rw [<- Int.ofNat_tdiv];exact wrapU_in (Int.natCast_nonneg _) om
 refine gS1 (aI @e1 (aI @e2 (aI @yu_t @yu_f))) ?_
 refine (rat_ok (n:=n / g) (d:=d / g) om om).mono ?_
 rintro r ⟨Z',rfl,hE⟩
 have hn:=hE.n
 simp at hn
 have z:Z'.orow (Z.n+1)=some [.int .i64 0,.int .i64 0]:=by rw [orow_congr (hE.same _ (by simp))];exact cL
 refine gS1 @z ?_
 refine Must.intro (by (repeat first|simp (disch:=omega) only [as_read,as_upd,as_newb,rok_read,rok_eff,rok_nil,bi_true,as_nil,as_e hE]|rw [as_ord (by kernel_rfl)]);first|done|rfl) ?_
 refine gS1 @Tryz.results236 ?_
 exact ⟨_,rfl,(((Ext.new _ _).trans (.new _ _)).trans hE).upd om _⟩
theorem nqb_ff {i j:Tmp}:bin2 Tryz.prog .neq 4 (.tmp i) (.tmp j) (.bool false) (.bool false)=some (.bool false):=by kernel_rfl
theorem make_ok {Z:St}{n d:Nat}(hn:n<9223372036854775808) (hd:d<9223372036854775808) (hd0:0<d) :
  Ev (go Tryz.prog HS (.fn 224) [.int .i64 (n:Nat),.int .i64 (d:Nat)] Z) (fun r=>∃ Z',r=⟨false,.tuple ⟨[.agg ⟨[.int .i64 (n / Nat.gcd n d:Nat),.int .i64 (d / Nat.gcd n d:Nat)]⟩,.bool true]⟩,Z'⟩/\Ext Z Z') ⟨⟩:=by
 have e0:decide (((d:Nat):Int)=0)=false:=by rw [decide_eq_false_iff_not];omega
 have e1:decide (((n:Nat):Int)<0)=false:=by rw [decide_eq_false_iff_not];omega
 have e2:decide (((d:Nat):Int)<0)=false:=by rw [decide_eq_false_iff_not];omega
 refine ev_go Tryz.func224 rfl rfl ?_
 refine gS1 (aI @e0 (aI @e1 (aI @e2 @nqb_ff))) ?_
 refine (size_ok hn).mono ?_
 rintro r rfl
 refine gS ?_
 refine (size_ok hd).mono ?_
 rintro r rfl
 refine gS ?_
 have hE0:=Ext.new (t:=some 32) Z [.int .i64 0,.int .i64 0]
 refine (lowest_ok hn hd hd0).mono ?_
 rintro r ⟨Z',rfl,hE⟩
 have hn:=hE.n
 simp at hn
 have z:Z'.orow Z.n=some [.int .i64 0,.int .i64 0]:=by rw [orow_congr (hE.same _ (by simp))];exact cL
 refine gS1 (aI @z @Tryz.results224) ?_
 exact ⟨_,rfl,(hE0.trans hE).upd om _⟩
end Go.Proofs.T
namespace Go.Proofs.T
open Go Go.Ab
open Nat (reduceMul reduceEqDiff reduceAdd)
set_option maxRecDepth 100000
theorem idxL_lt (c:UInt8):∀ s:By,idxL c s<s.length/\ -1<=idxL c s:=by
 intro s
 induction s with
 | nil=>exact ⟨by show (-1:Int)<0;omega,Int.le_refl _⟩
 | cons x s ih =>
   have hx:idxL c (x::s)=bi (x==c) 0 (bi (ilt (idxL c s) 0) (-1) (idxL c s+1)):=by rw [<- beq_u8];rfl
   rw [hx]
   cases x==c with
   | true=>exact ⟨by show (0:Int)<_;simp,by show (-1:Int)<=0;omega⟩
   | false =>
     rw [bi_false]
     cases hlt:ilt (idxL c s) 0 with
     | true=>exact ⟨by show (-1:Int)<_;simp;omega,Int.le_refl _⟩
     | false=>rw [bi_false];simp;omega
noncomputable def cutS (t:By):By×By:=if decide (idxL 46 t<0)=true then (t,[]) else (t.take (idxL 46 t).toNat,t.drop ((idxL 46 t).toNat+1))
theorem cut_ok {Z:St}{t:By}(ht:t.length<100000000) :
  Ev (go Tryz.prog HS (.fn 222) [str t,str [46]] Z) (fun r=>∃ ok,r=⟨false,.tuple ⟨[str (cutS t).1,str (cutS t).2,.bool ok]⟩,Z⟩) ⟨⟩:=by
 have hi:=idxL_lt 46 t
 refine ev_go Tryz.func222 rfl rfl ?_
 refine gS ?_
 have key:Ev (go Tryz.prog HS (.fn 233) [str t,str [46]] Z) (fun r=>∃ ok,r=⟨false,.tuple ⟨[str (cutS t).1,str (cutS t).2,.bool ok]⟩,Z⟩) ⟨⟩:=by
  refine ev_go Tryz.func233 rfl rfl ?_
  refine gS ?_
  refine sliteindex_ok.mono ?_
  rintro r rfl
  unfold cutS
  cases hx:decide (idxL 46 t<0) with
  | true =>
    rw [if_pos rfl]
    refine gS1 (aI @hx @Tryz.results233) ?_
    exact ⟨_,rfl⟩
  | false =>
    rw [if_neg (by simp)]
    have hge:=of_decide_eq_false hx
    obtain ⟨i,hii⟩:∃ i:Nat,idxL 46 t=(i:Nat):=⟨(idxL 46 t).toNat,om⟩
    rw [hii] at hx hi ⊢
    have e1:((i:Nat):Int)+((1:Nat):Int)=((i+1:Nat):Int):=om
    have s1:sub t 0 i=some (t.take i):=by rw [sub_of om];rfl
    have s2:sub t (i+1) (t.length-(i+1))=some (t.drop (i+1)):=by rw [sub_of om,List.take_of_length_le (by simp)]
    have l1:i<=t.length:=om
    have l2:i+1<=t.length:=om
    refine gS1 (aI @hx (aI @e1 (aI @s1 (aI @s2 (aI @Nat.sub_zero @Tryz.results233))))) ?_
    exact ⟨_,rfl⟩
 refine key.mono ?_
 rintro r ⟨ok,rfl⟩
 refine gS1 @Tryz.results222 ?_
 exact ⟨_,rfl⟩
def sufB (s:By):Bool:=decide (s.drop (s.length-1)=[48])
theorem suffix_ok {Z:St}{t:By}(ht:t.length<100000000) :
  Ev (go Tryz.prog HS (.fn 223) [str t,str [48]] Z) (fun r=>r=⟨false,.bool (sufB t),Z⟩) ⟨⟩:=by
 refine ev_go Tryz.func223 rfl rfl ?_
 refine gS ?_
 have key:Ev (go Tryz.prog HS (.fn 234) [str t,str [48]] Z) (fun r=>r=⟨false,.bool (sufB t),Z⟩) ⟨⟩:=by
  refine ev_go Tryz.func234 rfl rfl ?_
  by_cases h0:t=[]
  ·subst h0
   have d1:decide ((([]:By)).length<1)=true:=rfl
   have d2:decide (0<1)=true:=rfl
   refine gS1 (aI @d1 (aI @d2 (aI @yu_t (aI @yu_f @Tryz.results234)))) ?_
   rfl
  ·have hl:0<t.length:=List.length_pos_iff.2 h0
   have d1:decide (t.length<1)=false:=by rw [decide_eq_false_iff_not];omega
   have e1:((t.length:Nat):Int)-((1:Nat):Int)=((t.length-1:Nat):Int):=om
   have s1:sub t (t.length-1) (t.length-(t.length-1))=some (t.drop (t.length-1)):=by rw [sub_of om,List.take_of_length_le (by simp)]
   have d3:decide ([48]=t.drop (t.length-1))=decide (t.drop (t.length-1)=[48]):=by rw [Bool.eq_iff_iff,decide_eq_true_iff,decide_eq_true_iff];exact eq_comm
   unfold sufB
   refine gS1 (aI @d1 (aI @e1 (aI @s1 (aI @d3 (aI @yu_t (aI @yu_f @Tryz.results234)))))) ?_;try exact ⟨⟩
 refine key.mono ?_
 rintro r rfl
 refine gS1 @Tryz.results223 ?_;try exact ⟨⟩
end Go.Proofs.T
