/- Facts on the types of the translation. -/
import Derived.Test.YtbcanmagihejhaaGreatDoorAbD
import Derived.Test.YtbcanmagihejhaaGreatDoorTA
import Derived.Test.YtbcanmagihejhaaGreatDoorProg
import Derived.KernelRfl
import Derived.Test.YtbcanmagihejhaaGreatDoorTF
import Derived.Test.YtbcanmagihejhaaGreatDoorRA
import Derived.Test.YtbcanmagihejhaaGreatDoorBA
import Derived.Test.YtbcanmagihejhaaGreatDoorTG
import Derived.Test.YtbcanmagihejhaaGreatDoorBB
import Derived.Test.YtbcanmagihejhaaGreatDoorPC
set_option linter.unusedSimpArgs false
set_option linter.unusedVariables false
namespace Go.Proofs.T
open Go Go.Ab
section
variable {fr:Fr} {Z:St} {x ix a v:Operand} {ve:Value}
theorem ld108:LDo 108:=by unfold LDo;intros;kernel_rfl
theorem ia108:IAs 108 2:=by unfold IAs;intros;kernel_rfl
theorem ap108:APn 108 2 25 179:=by unfold APn;intros;kernel_rfl
theorem sl108:SLn 108 2 [str [],.int .i64 0]:=by unfold SLn;intros;kernel_rfl
theorem ze110:zero? Tryz.prog 110=some (.agg ⟨[.slice none 0 0,.int .i64 0,.int .i64 0,.int .i64 0]⟩):=by kernel_rfl
theorem bv110 {z:List Value}{ps:List (Nat×Value)}:buildV Tryz.prog 110 z ps=ob (fillL (fun i=>[(0,1),(1,1),(2,1),(3,1)][i]?) ps z) fun l=>some (.agg ⟨l⟩):=by kernel_rfl
theorem fa110_0:FAo 110 0:=by unfold FAo;intros;kernel_rfl
theorem fa110_1:FAn 110 1 1:=by unfold FAn;intros;kernel_rfl
theorem fa110_2:FAn 110 2 2:=by unfold FAn;intros;kernel_rfl
theorem fa110_3:FAn 110 3 3:=by unfold FAn;intros;kernel_rfl
theorem ld158:LDo 158:=by unfold LDo;intros;kernel_rfl
theorem ld179:LDn 179 2:=by unfold LDn;intros;kernel_rfl
theorem ze179:zero? Tryz.prog 179=some (.agg ⟨[str [],.int .i64 0]⟩):=by kernel_rfl
theorem bv179 {z:List Value}{ps:List (Nat×Value)}:buildV Tryz.prog 179 z ps=ob (fillL (fun i=>[(0,1),(1,1)][i]?) ps z) fun l=>some (.agg ⟨l⟩):=by kernel_rfl
theorem fa179_0:FAo 179 0:=by unfold FAo;intros;kernel_rfl
theorem fa179_1:FAn 179 1 1:=by unfold FAn;intros;kernel_rfl
end
end Go.Proofs.T
namespace Go.Proofs.T
open Go Go.Ab
open Nat (reduceMul reduceEqDiff reduceAdd)
set_option maxRecDepth 100000
noncomputable def ptC (l:List Nat):Code:=cdAt l ((Tryz.f89).body.getD .skip)
theorem pt_e0:ptC [1,1,1,0,2,3]= .seq (ptC [1,1,1,0,2,3,0]) (ptC [1,1,1,0,2,3,1]):=by kernel_rfl
theorem pt_e1:ptC [1,1,1,0,2,3,1]= .block 1 (ptC [1,1,1,0,2,3,1,2]):=by kernel_rfl
theorem pt_e2:ptC [1,1,1,0,2,3,1,2]= .seq (ptC [1,1,1,0,2,3,1,2,0]) (ptC [1,1,1,0,2,3,1,2,1]):=by kernel_rfl
theorem pt_e3:ptC [1,1,1,0,2,3,1,2,1]= .seq (ptC [1,1,1,0,2,3,1,2,1,0]) (ptC [1,1,1,0,2,3,1,2,1,1]):=by kernel_rfl
theorem pt_e4:ptC [1,1,1,0,2,3,1,2,1,1]= .seq (ptC [1,1,1,0,2,3,1,2,1,1,0]) (ptC [1,1,1,0,2,3,1,2,1,1,1]):=by kernel_rfl
theorem pt_e5:ptC [1,1,1,0,2,3,1,2,1,1,1]= .seq (ptC [1,1,1,0,2,3,1,2,1,1,1,0]) (ptC [1,1,1,0,2,3,1,2,1,1,1,1]):=by kernel_rfl
theorem pt_e6:ptC [1,1,1,0,2,3,1,2,1,1,1,1]= .seq (ptC [1,1,1,0,2,3,1,2,1,1,1,1,0]) (ptC [1,1,1,0,2,3,1,2,1,1,1,1,1]):=by kernel_rfl
theorem pt_e7:ptC [1,1,1,0,2,3,1,2,1,1,1,1,1]= .seq (ptC [1,1,1,0,2,3,1,2,1,1,1,1,1,0]) (ptC [1,1,1,0,2,3,1,2,1,1,1,1,1,1]):=by kernel_rfl
theorem runs_next {p:Int->Bool}{s:By}{k:Nat}{c:UInt8}(h:s[k]? =some c) (hp:on p c=true):runs p s k=1+runs p s (k+1):=by
 obtain ⟨h1,h2⟩:=List.getElem?_eq_some_iff.1 h
 unfold runs
 rw [List.drop_eq_getElem_cons h1,h2,List.takeWhile_cons,hp]
 simp;omega
theorem runs_no {p:Int->Bool}{s:By}{k:Nat}{c:UInt8}(h:s[k]? =some c) (hp:on p c=false):runs p s k=0:=by
 obtain ⟨h1,h2⟩:=List.getElem?_eq_some_iff.1 h
 unfold runs
 rw [List.drop_eq_getElem_cons h1,h2,List.takeWhile_cons,hp]
 rfl
theorem runs_at {p:Int->Bool}{s:By}{k j:Nat}(h:j<runs p s k):∃ c,s[k+j]? =some c/\on p c=true:=by
 obtain ⟨c,hc,hpc⟩:=tw_get (show j<((s.drop k).takeWhile (on p)).length from h)
 rw [List.getElem?_drop] at hc
 exact ⟨c,hc,hpc⟩
theorem runs_end {p:Int->Bool}{s:By}{k:Nat}:s[k+runs p s k]? =none\/∃ c,s[k+runs p s k]? =some c/\on p c=false:=by
 rcases (show (s.drop k)[runs p s k]? =none\/∃ c,(s.drop k)[runs p s k]? =some c/\on p c=false from tw_end) with hc|⟨c,hc,hpc⟩
 ·rw [List.getElem?_drop] at hc;exact .inl hc
 ·rw [List.getElem?_drop] at hc;exact .inr ⟨c,hc,hpc⟩
theorem let_dig {c:UInt8}(h:on letB c=true):on digB c=false:=by
 cases hd:on digB c
 ·rfl
 ·have h1:=dig_range hd
  unfold on letB at h
  simp at h
  omega
theorem take_at {s:By}{to i:Nat}{c:UInt8}(h:(s.take to)[i]? =some c):s[i]? =some c/\i<to:=by
 rw [List.getElem?_take] at h
 split at h
 ·exact ⟨h,by assumption⟩
 ·cases h
theorem u8_eq {c:UInt8}{n:Nat}{m:UInt8}(hm:m.toNat=n):decide (((c.toNat:Nat):Int)=(n:Nat))=decide (c=m):=by
 rw [Bool.eq_iff_iff,decide_eq_true_iff,decide_eq_true_iff]
 constructor
 ·intro h
  exact UInt8.toNat.inj om
 ·rintro rfl;omega
theorem pt_tail {Z Z':St}{s:By}{to k e:Nat}{fr:Fr}{vo:Value}{done:List Tok}(g0:fr.get 0=some (str s)) (g2:fr.get 2=some (.int .i64 (to:Nat))) (g7:fr.get 7=some vo) (g8:fr.get 8=some (.int .i64 (k:Nat))) (g9:fr.get 9=some (.int .i64 (e:Nat)))
  (hke:k<=e) (het:e<=to) (hto:to<=s.length) (hs:s.length<10000000) (hol:OL Z.n Z' 2 vo (done.map tokC)) (hE:Ext Z Z') (hd:done.length<=k) :
  Ev (lim Tryz.prog HS none (ptC [1,1,1,0,2,3,1,2,1,1,1,1,1,1]) fr Z') (fun r=>∃ fr' Z2 vo',r=⟨.normal,fr',Z2⟩/\fr'.get 0=some (str s)/\fr'.get 2=some (.int .i64 (to:Nat))/\fr'.get 8=some (.int .i64 (e:Nat))/\fr'.get 7=some vo'/\OL Z.n Z2 2 vo' ((done++[(((s.take to).drop k).take (e-k),k)]).map tokC)/\Ext Z Z2) ⟨⟩:=by
 have hsb:sub s k (e-k)=some (((s.take to).drop k).take (e-k)):=by
  rw [sub_of om,List.drop_take,List.take_take,Nat.min_eq_left om]
 have hb2:e<=s.length:=om
 simp only [ptC,Tryz.f89,gd_some,cd_nil,cd_0,cd_1,cd_2,cd_3]
 refine gS1 (aI @g0 (aI @g2 (aI @g7 (aI @g8 (aI @g9 (aI @hsb (aI @bv179 (aI @ze179 (aI @sl108 @Tryz.underlying108))))))))) ?_
 refine ev_append (row:=tokC (((s.take to).drop k).take (e-k),k)) (fun _ _ _ _=>ap108) (OL.ext hol (.new _ _)) (row_new_same (Nat.le_refl _) (Nat.le_refl _)) (sub_full (by simp [tokC]) (by simp [tokC])) (by rw [List.length_map];omega) (by have:=hE.n;simp;omega) ?_
 intro vo' Z3 d1 d2 d3
 have hE3:Ext Z Z3:=d2.ext (hE.trans (Ext.new (t:=none) Z' [str (((s.take to).drop k).take (e-k)),.int .i64 (k:Nat)])) (OL.ext hol (.new _ _)) (Nat.le_refl _)
 refine gS1 (aI @g0 (aI @g2 (aI @g7 (aI @g8 @g9)))) ?_
 exact ⟨_,_,vo',rfl,fR1 g0,fR1 g2,fR1 g9,fR,by rw [List.map_append];exact d1,hE3⟩
def PtJ (Z:St) (s:By) (to from':Nat) (j:Nat) (fr:Fr) (Z':St):Prop:=∃ k done vo,j=to-k/\from'<=k/\k<=to/\fr.get 0=some (str s)/\fr.get 2=some (.int .i64 (to:Nat))/\fr.get 8=some (.int .i64 (k:Nat))/\fr.get 7=some vo/\OL Z.n Z' 2 vo (done.map tokC)/\Ext Z Z'/\done++fT (s.take to) 0 (to-k) k=fT (s.take to) 0 (to-from') from'/\done.length<=k
def PtR (Z:St) (s:By) (to from':Nat) (r:Res):Prop:=∃ fr Z' vo,r=⟨.exit 0,fr,Z'⟩/\fr.get 2=some (.int .i64 (to:Nat))/\fr.get 7=some vo/\OL Z.n Z' 2 vo ((fT (s.take to) 0 (to-from') from').map tokC)/\Ext Z Z'
set_option maxHeartbeats 16000000 in
theorem pt_round {Z Z':St}{s:By}{to from':Nat}(hto:to<=s.length) (hs:s.length<10000000){j:Nat}{fr:Fr}(hJ:PtJ Z s to from' j fr Z') :
  Ev (lim Tryz.prog HS none (ptC [1,1,1,0,2,3]) fr Z') (LP (PtJ Z s to from') (PtR Z s to from') j) ⟨⟩:=by
 obtain ⟨k,done,vo,rfl,hfk,hk,g0,g2,g8,g7,hol,hE,hT,hd⟩:=hJ
 obtain ⟨u,hu⟩:∃ u,s.take to=u:=⟨_,rfl⟩
 have hul:u.length=to:=by rw [<- hu,List.length_take];omega
 rw [hu] at hT
 rw [pt_e0,pt_e1,pt_e2,pt_e3,pt_e4,pt_e5,pt_e6,pt_e7]
 obtain ⟨X,hX⟩:∃ X,ptC [1,1,1,0,2,3,1,2,1,1,1,1,1,1]=X:=⟨_,rfl⟩
 rw [hX]
 simp only [ptC,Tryz.f89,gd_some,cd_nil,cd_0,cd_1,cd_2,cd_3]
 have e1:decide (((k:Nat):Int)<((to:Nat):Int))=decide (k<to):=by rw [Bool.eq_iff_iff];simp
 have en:((k:Nat):Int)+1=((k+1:Nat):Int):=om
 cases hlt:decide (k<to) with
 | false =>
   have hkl:k=to:=by have:=of_decide_eq_false hlt;omega
   refine gS1 (aI @g0 (aI @g2 (aI @g8 (aI @e1 (aI @hlt @lp_exit))))) ?_
   refine ⟨_,_,vo,rfl,fR1 g2,fR1 g7,?_,hE⟩
   rw [hu,<- hT,hkl,Nat.sub_self]
   show OL _ _ _ _ (List.map tokC (done++[]))
   rw [List.append_nil];exact hol
 | true =>
   have hkl:=of_decide_eq_true hlt
   obtain ⟨c,hc⟩:=at_some (l:=u) (k:=k) om
   obtain ⟨hcs,-⟩:=take_at (by rw [hu];exact hc)
   have h1:=sub_at1 hcs
   have hks:decide (k<s.length)=true:=decide_eq_true om
   have hend:=endT_in hc
   obtain ⟨f,hf⟩:∃ f,to-k=f+1:=⟨to-k-1,om⟩
   rw [hf] at hT
   have hT':fT u 0 (f+1) k=if c=32 then fT u 0 f (k+1) else ((u.drop k).take (endT u k c-k),0+k)::fT u 0 f (endT u k c):=by
    show (match u[k]? with|none=>_|some c=>_)=_
    rw [hc]
   rw [hT',Nat.zero_add] at hT
   have hc32:decide (((c.toNat:Nat):Int)=32)=decide (c=32):=u8_eq (n:=32) rfl
   cases h32:decide (c=32) with
   | true =>
     rw [if_pos (of_decide_eq_true h32)] at hT
     refine gS1 (aI @g0 (aI @g2 (aI @g8 (aI @e1 (aI @hlt (aI @h1 (aI @oneB_one (aI @en (aI @hc32 (aI @h32 @lp_normal)))))))))) ?_
     refine ⟨f,om,k+1,done,vo,om,om,om,fR1 g0,fR1 g2,fR,fR1 g7,hol,hE,?_,om⟩
     rw [hu,<- hT,fT_fuel (to-(k+1)) f (k+1) om om]
   | false =>
     rw [if_neg (of_decide_eq_false h32)] at hT
     have fin:∀ {fr2:Fr} {e:Nat},fr2.get 0=some (str s)->fr2.get 2=some (.int .i64 (to:Nat))->fr2.get 7=some vo->fr2.get 8=some (.int .i64 (k:Nat))->fr2.get 9=some (.int .i64 (e:Nat))->endT u k c=e ->
       Ev (lim Tryz.prog HS none X fr2 Z') (fun r=>∃ fr' Z2,r=⟨.normal,fr',Z2⟩/\PtJ Z s to from' (to-e) fr' Z2) ⟨⟩:=fun f0 f2 f7 f8 f9 fe=>by
      rw [<- hX]
      refine (pt_tail f0 f2 f7 f8 f9 om om hto hs hol hE hd).mono ?_
      rintro r ⟨fr',Z2,vo',rfl,k0,k2,k8,k7,kl,kE⟩
      refine ⟨_,_,rfl,_,_,vo',rfl,om,om,k0,k2,k8,k7,kl,kE,?_,by simp;omega⟩
      rw [hu,List.append_assoc,List.singleton_append,<- hT,fe,fT_fuel (to-_) f _ om om]
     clear hX
     have hon:letB ((c.toNat:Nat):Int)=on letB c:=rfl
     have hdn:digB ((c.toNat:Nat):Int)=on digB c:=rfl
     refine gS1 (aI @g0 (aI @g2 (aI @g8 (aI @e1 (aI @hlt (aI @h1 (aI @oneB_one (aI @en (aI @hc32 @h32))))))))) ?_
     refine rletter_ok.mono ?_
     rintro r rfl
     refine gS1 (aI @g0 (aI @g2 (aI @g8 (aI @hon (aI @h1 @oneB_one))))) ?_
     refine rdigit_ok.mono ?_
     rintro r rfl
     cases hl:on letB c with
     | true =>
       have hld:=let_dig hl
       have hend':endT u k c=k+runs folB u k:=by unfold endT;rw [if_pos hl]
       have hfc:on folB c=true:=by unfold on folB;rw [show letB (c.toNat:Nat)=true from hl];rfl
       have hrn:=runs_next hc hfc
       have hle:=runs_le folB u (k+1) om
       refine gS1 (aI @hdn (aI @hld (aI @hl (aI @g0 (aI @g2 (aI @g7 @g8)))))) ?_
       refine ev_count (runs folB u (k+1)) (fun i fr Z2=>fr.get 9=some (.int .i64 (k+1+i:Nat))/\fr.get 0=some (str s)/\fr.get 2=some (.int .i64 (to:Nat))/\fr.get 7=some (vo)/\fr.get 8=some (.int .i64 (k:Nat))/\fr.get 11=some (.bool false)/\Z2=Z')
        (fun r=>∃ fr,r=⟨.exit 2,fr,Z'⟩/\fr.get 9=some (.int .i64 (k+1+runs folB u (k+1):Nat))/\fr.get 0=some (str s)/\fr.get 2=some (.int .i64 (to:Nat))/\fr.get 7=some (vo)/\fr.get 8=some (.int .i64 (k:Nat))/\fr.get 11=some (.bool false)) ?_ ?_ ?_ ?_
       ·exact ⟨fR,fR1 g0,fR1 g2,fR1 g7,fR1 g8,fR,rfl⟩
       ·rintro i fr Z2 hi ⟨g9,g0,g2,g7,g8,g11,rfl⟩
        obtain ⟨d,hdu,hdp⟩:=runs_at hi
        obtain ⟨hds,hdt⟩:=take_at (by rw [hu];exact hdu)
        have q1:=sub_at1 hds
        have q2:decide (((k+1+i:Nat):Int)<((to:Nat):Int))=true:=decide_eq_true om
        have q3:((k+1+i:Nat):Int)+1=((k+1+(i+1):Nat):Int):=om
        have q4:folB ((d.toNat:Nat):Int)=true:=hdp
        refine gS1 (aI @g9 (aI @g0 (aI @g2 (aI @g7 (aI @g8 (aI @g11 (aI @q1 (aI @q2 (aI @oneB_one (aI @yu_t @yu_f)))))))))) ?_
        refine rfollows_ok.mono ?_
        rintro r rfl
        refine gS1 (aI @g9 (aI @g0 (aI @g2 (aI @g7 (aI @g8 (aI @g11 (aI @q2 (aI @q3 (aI @q4 (aI @yu_t @yu_f)))))))))) ?_
        exact ⟨fR,fR1 g0,fR1 g2,fR1 g7,fR1 g8,fR1 g11,by trivial⟩
       ·rintro fr Z2 ⟨g9,g0,g2,g7,g8,g11,rfl⟩
        rcases runs_end (p:=folB) (s:=u) (k:=k+1) with hn|⟨d,hdu,hdp⟩
        ·have q2:decide (((k+1+runs folB u (k+1):Nat):Int)<((to:Nat):Int))=false:=decide_eq_false (fun h=>by
          have h':k+1+runs folB u (k+1)<u.length:=om
          rw [List.getElem?_eq_getElem h'] at hn;cases hn)
         refine gS1 (aI @g9 (aI @g0 (aI @g2 (aI @g7 (aI @g8 (aI @g11 (aI @q2 (aI @yu_t @yu_f)))))))) ?_
         exact ⟨_,rfl,fR1 g9,fR1 g0,fR1 g2,fR1 g7,fR1 g8,fR1 g11⟩
        ·obtain ⟨hds,hdt⟩:=take_at (by rw [hu];exact hdu)
         have q1:=sub_at1 hds
         have q2:decide (((k+1+runs folB u (k+1):Nat):Int)<((to:Nat):Int))=true:=decide_eq_true om
         have q4:folB ((d.toNat:Nat):Int)=false:=hdp
         refine gS1 (aI @g9 (aI @g0 (aI @g2 (aI @g7 (aI @g8 (aI @g11 (aI @q1 (aI @q2 (aI @oneB_one (aI @yu_t @yu_f)))))))))) ?_
         refine rfollows_ok.mono ?_
         rintro r rfl
         refine gS1 (aI @g9 (aI @g0 (aI @g2 (aI @g7 (aI @g8 (aI @g11 (aI @q2 (aI @q4 (aI @yu_t @yu_f))))))))) ?_
         exact ⟨_,rfl,fR1 g9,fR1 g0,fR1 g2,fR1 g7,fR1 g8,fR1 g11⟩
       rintro r ⟨fr,rfl,g9,g0,g2,g7,g8,g11⟩
       refine gS1 @g11 ?_
       refine (fin (e:=k+1+runs folB u (k+1)) (fR1 g0) (fR1 g2) (fR1 g7) (fR1 g8) (fR1 g9) om).mono ?_
       rintro r ⟨fr',Z3,rfl,hJ⟩
       refine gS1 @lp_normal ?_
       exact ⟨_,om,hJ⟩
     | false =>
       cases hdg:on digB c with
       | false =>
         have hend':endT u k c=k+1:=by unfold endT;rw [if_neg (by rw [hl];simp),if_neg (by rw [hdg];simp)]
         refine gS1 (aI @hdn (aI @hdg (aI @hl (aI @g0 (aI @g2 (aI @g7 @g8)))))) ?_
         refine (fin (e:=k+1) (fR1 g0) (fR1 g2) (fR1 g7) (fR1 g8) (fR) hend').mono ?_
         rintro r ⟨fr',Z3,rfl,hJ⟩
         refine gS1 @lp_normal ?_
         exact ⟨_,om,hJ⟩
       | true =>
         have hrn:=runs_next hc hdg
         have hle:=runs_le digB u (k+1) om
         have hq0:endT u k c=if (decide (k+runs digB u k<u.length)&&decide (u[k+runs digB u k]? =some 46)&&decide (k+runs digB u k+1<min (k+runs digB u k+1) u.length+runs digB u (min (k+runs digB u k+1) u.length)))=true
           then min (k+runs digB u k+1) u.length+runs digB u (min (k+runs digB u k+1) u.length) else k+runs digB u k:=by
          unfold endT;rw [if_neg (by rw [hl];simp),if_pos hdg]
         refine gS1 (aI @hdn (aI @hdg (aI @hl (aI @g0 (aI @g2 (aI @g7 @g8)))))) ?_
         refine ev_count (runs digB u (k+1)) (fun i fr Z2=>fr.get 9=some (.int .i64 (k+1+i:Nat))/\fr.get 0=some (str s)/\fr.get 2=some (.int .i64 (to:Nat))/\fr.get 7=some (vo)/\fr.get 8=some (.int .i64 (k:Nat))/\Z2=Z')
          (fun r=>∃ fr,r=⟨.exit 4,fr,Z'⟩/\fr.get 9=some (.int .i64 (k+1+runs digB u (k+1):Nat))/\fr.get 0=some (str s)/\fr.get 2=some (.int .i64 (to:Nat))/\fr.get 7=some (vo)/\fr.get 8=some (.int .i64 (k:Nat))) ?_ ?_ ?_ ?_
         ·exact ⟨fR,fR1 g0,fR1 g2,fR1 g7,fR1 g8,rfl⟩
         ·rintro i fr Z2 hi ⟨g9,g0,g2,g7,g8,rfl⟩
          obtain ⟨d,hdu,hdp⟩:=runs_at hi
          obtain ⟨hds,hdt⟩:=take_at (by rw [hu];exact hdu)
          have q1:=sub_at1 hds
          have q2:decide (((k+1+i:Nat):Int)<((to:Nat):Int))=true:=decide_eq_true om
          have q3:((k+1+i:Nat):Int)+1=((k+1+(i+1):Nat):Int):=om
          have q4:digB ((d.toNat:Nat):Int)=true:=hdp
          refine gS1 (aI @g9 (aI @g0 (aI @g2 (aI @g7 (aI @g8 (aI @q1 (aI @q2 (aI @oneB_one (aI @yu_t @yu_f))))))))) ?_
          refine rdigit_ok.mono ?_
          rintro r rfl
          refine gS1 (aI @g9 (aI @g0 (aI @g2 (aI @g7 (aI @g8 (aI @q2 (aI @q3 (aI @q4 (aI @yu_t @yu_f))))))))) ?_
          exact ⟨fR,fR1 g0,fR1 g2,fR1 g7,fR1 g8,by trivial⟩
         ·rintro fr Z2 ⟨g9,g0,g2,g7,g8,rfl⟩
          rcases runs_end (p:=digB) (s:=u) (k:=k+1) with hn|⟨d,hdu,hdp⟩
          ·have q2:decide (((k+1+runs digB u (k+1):Nat):Int)<((to:Nat):Int))=false:=decide_eq_false (fun h=>by
            have h':k+1+runs digB u (k+1)<u.length:=om
            rw [List.getElem?_eq_getElem h'] at hn;cases hn)
           refine gS1 (aI @g9 (aI @g0 (aI @g2 (aI @g7 (aI @g8 (aI @q2 (aI @yu_t @yu_f))))))) ?_
           exact ⟨_,rfl,fR1 g9,fR1 g0,fR1 g2,fR1 g7,fR1 g8⟩
          ·obtain ⟨hds,hdt⟩:=take_at (by rw [hu];exact hdu)
           have q1:=sub_at1 hds
           have q2:decide (((k+1+runs digB u (k+1):Nat):Int)<((to:Nat):Int))=true:=decide_eq_true om
           have q4:digB ((d.toNat:Nat):Int)=false:=hdp
           refine gS1 (aI @g9 (aI @g0 (aI @g2 (aI @g7 (aI @g8 (aI @q1 (aI @q2 (aI @oneB_one (aI @yu_t @yu_f))))))))) ?_
           refine rdigit_ok.mono ?_
           rintro r rfl
           refine gS1 (aI @g9 (aI @g0 (aI @g2 (aI @g7 (aI @g8 (aI @q2 (aI @q4 (aI @yu_t @yu_f)))))))) ?_
           exact ⟨_,rfl,fR1 g9,fR1 g0,fR1 g2,fR1 g7,fR1 g8⟩
         rintro r ⟨fr,rfl,g9,g0,g2,g7,g8⟩
         obtain ⟨e,he⟩:∃ e,k+1+runs digB u (k+1)=e:=⟨_,rfl⟩
         have he2:k+runs digB u k=e:=om
         rw [he] at g9
         rw [he2] at hq0
         have em1:((e:Nat):Int)+1=((e+1:Nat):Int):=om
         have em2:((e:Nat):Int)+2=((e+2:Nat):Int):=om
         have ee1:decide (((e+1:Nat):Int)<((to:Nat):Int))=decide (e+1<to):=by rw [Bool.eq_iff_iff,decide_eq_true_iff,decide_eq_true_iff];omega
         have out:∀ {fr2:Fr},fr2.get 0=some (str s)->fr2.get 2=some (.int .i64 (to:Nat))->fr2.get 7=some vo->fr2.get 8=some (.int .i64 (k:Nat))->fr2.get 9=some (.int .i64 (e:Nat))->endT u k c=e->Ev (lim Tryz.prog HS none X fr2 Z') (fun r=>∃ fr' Z2,r=⟨.normal,fr',Z2⟩/\PtJ Z s to from' (to-e) fr' Z2) ⟨⟩:=fun a b c d e f=>fin a b c d e f
         cases hel:decide (e+1<to) with
         | false =>
           have hel':=of_decide_eq_false hel
           have hend':endT u k c=e:=by
            rw [hq0,if_neg]
            intro h
            simp only [Bool.and_eq_true,decide_eq_true_eq] at h
            have h3:=h.2
            rw [Nat.min_eq_right om] at h3
            have:=runs_le digB u u.length (Nat.le_refl _)
            omega
           refine gS1 (aI @g0 (aI @g2 (aI @g8 (aI @g9 (aI @em1 (aI @ee1 (aI @hel (aI @yu_t @yu_f)))))))) ?_
           refine (out (fR1 g0) (fR1 g2) (fR1 g7) (fR1 g8) (fR1 g9) hend').mono ?_
           rintro r ⟨fr',Z3,rfl,hJ⟩
           refine gS1 @lp_normal ?_
           exact ⟨_,om,hJ⟩
         | true =>
           have hel':=of_decide_eq_true hel
           obtain ⟨d,hdu⟩:=at_some (l:=u) (k:=e) om
           obtain ⟨d2,hd2u⟩:=at_some (l:=u) (k:=e+1) om
           obtain ⟨hds,-⟩:=take_at (by rw [hu];exact hdu)
           obtain ⟨hd2s,-⟩:=take_at (by rw [hu];exact hd2u)
           have q1:=sub_at1 hds
           have q2:=sub_at1 hd2s
           have q3:decide (((d.toNat:Nat):Int)=46)=decide (d=46):=u8_eq (n:=46) rfl
           have q4:decide (u[e]? =some 46)=decide (d=46):=by rw [hdu];simp
           have q5:digB ((d2.toNat:Nat):Int)=on digB d2:=rfl
           rw [q4,Nat.min_eq_left om] at hq0
           cases h46:decide (d=46) with
           | false =>
             have hend':endT u k c=e:=by rw [hq0,h46];simp
             refine gS1 (aI @g0 (aI @g2 (aI @g8 (aI @g9 (aI @em1 (aI @ee1 (aI @hel (aI @q1 (aI @q3 (aI @h46 (aI @oneB_one (aI @yu_t @yu_f)))))))))))) ?_
             refine (out (fR1 g0) (fR1 g2) (fR1 g7) (fR1 g8) (fR1 g9) hend').mono ?_
             rintro r ⟨fr',Z3,rfl,hJ⟩
             refine gS1 @lp_normal ?_
             exact ⟨_,om,hJ⟩
           | true =>
             refine gS1 (aI @g0 (aI @g2 (aI @g8 (aI @g9 (aI @em1 (aI @ee1 (aI @hel (aI @q1 (aI @q2 (aI @q3 (aI @h46 (aI @oneB_one (aI @yu_t @yu_f))))))))))))) ?_
             refine rdigit_ok.mono ?_
             rintro r rfl
             cases hd2:on digB d2 with
             | false =>
               have hr0:=runs_no hd2u hd2
               have hend':endT u k c=e:=by rw [hq0,hr0];simp
               refine gS1 (aI @q5 (aI @hd2 (aI @yu_t (aI @yu_f (aI @g0 (aI @g2 (aI @g8 @g9))))))) ?_
               refine (out (fR1 g0) (fR1 g2) (fR1 g7) (fR1 g8) (fR1 g9) hend').mono ?_
               rintro r ⟨fr',Z3,rfl,hJ⟩
               refine gS1 @lp_normal ?_
               exact ⟨_,om,hJ⟩
             | true =>
               have hr1:runs digB u (e+1)=1+runs digB u (e+2):=runs_next hd2u hd2
               have hle2:=runs_le digB u (e+2) om
               have hend':endT u k c=e+2+runs digB u (e+2):=by
                rw [hq0,h46,decide_eq_true (show e<u.length by omega),decide_eq_true (show e+1<e+1+runs digB u (e+1) by omega),hr1]
                show e+1+(1+runs digB u (e+2))=_
                omega
               refine gS1 (aI @q5 (aI @hd2 (aI @yu_t (aI @yu_f (aI @g0 (aI @g2 (aI @g8 (aI @g9 @em2)))))))) ?_
               refine ev_count (runs digB u (e+2)) (fun i fr Z2=>fr.get 9=some (.int .i64 (e+2+i:Nat))/\fr.get 0=some (str s)/\fr.get 2=some (.int .i64 (to:Nat))/\fr.get 7=some (vo)/\fr.get 8=some (.int .i64 (k:Nat))/\Z2=Z')
                (fun r=>∃ fr,r=⟨.exit 6,fr,Z'⟩/\fr.get 9=some (.int .i64 (e+2+runs digB u (e+2):Nat))/\fr.get 0=some (str s)/\fr.get 2=some (.int .i64 (to:Nat))/\fr.get 7=some (vo)/\fr.get 8=some (.int .i64 (k:Nat))) ?_ ?_ ?_ ?_
               ·exact ⟨fR,fR1 g0,fR1 g2,fR1 g7,fR1 g8,rfl⟩
               ·rintro i fr Z2 hi ⟨g9,g0,g2,g7,g8,rfl⟩
                obtain ⟨d,hdu,hdp⟩:=runs_at hi
                obtain ⟨hds,hdt⟩:=take_at (by rw [hu];exact hdu)
                have q1:=sub_at1 hds
                have q2:decide (((e+2+i:Nat):Int)<((to:Nat):Int))=true:=decide_eq_true om
                have q3:((e+2+i:Nat):Int)+1=((e+2+(i+1):Nat):Int):=om
                have q4:digB ((d.toNat:Nat):Int)=true:=hdp
                refine gS1 (aI @g9 (aI @g0 (aI @g2 (aI @g7 (aI @g8 (aI @q1 (aI @q2 (aI @oneB_one (aI @yu_t @yu_f))))))))) ?_
                refine rdigit_ok.mono ?_
                rintro r rfl
                refine gS1 (aI @g9 (aI @g0 (aI @g2 (aI @g7 (aI @g8 (aI @q2 (aI @q3 (aI @q4 (aI @yu_t @yu_f))))))))) ?_
                exact ⟨fR,fR1 g0,fR1 g2,fR1 g7,fR1 g8,by trivial⟩
               ·rintro fr Z2 ⟨g9,g0,g2,g7,g8,rfl⟩
                rcases runs_end (p:=digB) (s:=u) (k:=e+2) with hn|⟨d,hdu,hdp⟩
                ·have q2:decide (((e+2+runs digB u (e+2):Nat):Int)<((to:Nat):Int))=false:=decide_eq_false (fun h=>by
                  have h':e+2+runs digB u (e+2)<u.length:=om
                  rw [List.getElem?_eq_getElem h'] at hn;cases hn)
                 refine gS1 (aI @g9 (aI @g0 (aI @g2 (aI @g7 (aI @g8 (aI @q2 (aI @yu_t @yu_f))))))) ?_
                 exact ⟨_,rfl,fR1 g9,fR1 g0,fR1 g2,fR1 g7,fR1 g8⟩
                ·obtain ⟨hds,hdt⟩:=take_at (by rw [hu];exact hdu)
                 have q1:=sub_at1 hds
                 have q2:decide (((e+2+runs digB u (e+2):Nat):Int)<((to:Nat):Int))=true:=decide_eq_true om
                 have q4:digB ((d.toNat:Nat):Int)=false:=hdp
                 refine gS1 (aI @g9 (aI @g0 (aI @g2 (aI @g7 (aI @g8 (aI @q1 (aI @q2 (aI @oneB_one (aI @yu_t @yu_f))))))))) ?_
                 refine rdigit_ok.mono ?_
                 rintro r rfl
                 refine gS1 (aI @g9 (aI @g0 (aI @g2 (aI @g7 (aI @g8 (aI @q2 (aI @q4 (aI @yu_t @yu_f)))))))) ?_
                 exact ⟨_,rfl,fR1 g9,fR1 g0,fR1 g2,fR1 g7,fR1 g8⟩
               rintro r ⟨fr,rfl,g9,g0,g2,g7,g8⟩
               refine gS ?_
               refine (fin (e:=e+2+runs digB u (e+2)) (fR1 g0) (fR1 g2) (fR1 g7) (fR1 g8) (fR1 g9) hend').mono ?_
               rintro r ⟨fr',Z3,rfl,hJ⟩
               refine gS1 @lp_normal ?_
               exact ⟨_,om,hJ⟩
theorem rparts_ok' {Z:St}{s:By}{from' to:Nat}(hft:from'<=to) (hto:to<=s.length) (hs:s.length<10000000) :
  Ev (go Tryz.prog HS (.fn 89) [str s,.int .i64 (from':Nat),.int .i64 (to:Nat)] Z) (fun r=>∃ v Z',r=⟨false,v,Z'⟩/\OL Z.n Z' 2 v ((fT (s.take to) 0 (to-from') from'++[([],to)]).map tokC)/\Ext Z Z') ⟨⟩:=by
 refine ev_go Tryz.func89 rfl rfl ?_
 refine gS ?_
 refine ev_loop (PtJ Z s to from') (PtR Z s to from') (to-from') ?_ (fun j fr Z' h=>pt_round hto hs h) ?_
 ·exact ⟨from',[],_,rfl,Nat.le_refl _,hft,fR,fR,fR,fR,OL.nil,.refl _,rfl,Nat.zero_le _⟩
 ·rintro r ⟨fr,Z',vo,rfl,g2,g7,hol,hE⟩
  have hfl:=fT_len (s:=s.take to) (from':=0) (to-from') from'
  rw [List.length_take] at hfl
  refine gS1 (aI @g2 (aI @g7 (aI @bv179 (aI @ze179 (aI @sl108 @Tryz.underlying108))))) ?_
  refine ev_append (row:=tokC ([],to)) (fun _ _ _ _=>ap108) (OL.ext hol (.new _ _)) (row_new_same (Nat.le_refl _) (Nat.le_refl _)) (sub_full (by simp [tokC]) (by simp [tokC])) (by rw [List.length_map];omega) (by have:=hE.n;simp;omega) ?_
  intro vo' Z3 d1 d2 d3
  have hE3:Ext Z Z3:=d2.ext (hE.trans (Ext.new (t:=none) Z' [str [],.int .i64 (to:Nat)])) (OL.ext hol (.new _ _)) (Nat.le_refl _)
  refine gS1 @Tryz.results89 ?_
  exact ⟨vo',_,rfl,by rw [List.map_append];exact d1,hE3⟩
end Go.Proofs.T
namespace Go.Proofs.T
open Go Go.Ab
open Nat (reduceMul reduceEqDiff reduceAdd)
set_option maxRecDepth 100000
section
variable {b:Nat} {Z:St} {tv:Value} {toks:List Tok} {k:Nat} {rest:List Value}
theorem rdtext_ok (h:Sc Z b tv toks k rest):Ev (go Tryz.prog HS (.fn 91) [.pointer (some ⟨b,0,none⟩)] Z) (fun r=>r=⟨false,str (tokA toks k).1,Z⟩) ⟨⟩:=by
 obtain ⟨h1,h2,h3,h4,h5,h6⟩:=h
 obtain ⟨a,c,b2,off,cells,rfl,k1,k2⟩:=h3.use
 rw [List.length_map] at *
 obtain ⟨sp,rfl,k3,k4⟩:=k1 om
 have hr:=row_of h1
 have hk:sub cells (off+k*2) 2=some [str (tokA toks k).1,.int .i64 ((tokA toks k).2:Nat)]:=k2 k (tokC (tokA toks k)) (by rw [List.getElem?_map,tokA_at h5];rfl)
 have hk0:sub cells (off+k*2) 1=some [str (tokA toks k).1]:=sub_in (i:=0) (m:=1) hk om
 have hlt:Nat.blt k toks.length=true:=by rw [Nat.blt_eq];exact h5
 have hlt2:decide (k<toks.length)=true:=lt_true h5
 refine ev_go Tryz.func91 rfl rfl ?_
 simp (maxSteps:=8000000) (disch:=first|exact dS|fail) only [↓bD,bW,reduceMul,reduceEqDiff,reduceAdd,Nat.reduceBEq,reduceIte,Option.isNone_none,↓ld108,↓ld158,↓ld179,↓fa110_0,↓fa110_1,↓fa110_2,↓fa110_3,↓fa179_0,↓fa179_1,ia108,nn_ptr,hr,k4,hk,hk0,hlt,hlt2]
 try refine Must.intro (by (repeat first|simp (disch:=omega) only [as_read,as_upd,as_newb]|rw [as_ord (by kernel_rfl)]);first|done|rfl) ?_
 try simp (maxSteps:=8000000) (disch:=first|exact dS|fail) only [↓bD,bW,reduceMul,reduceEqDiff,reduceAdd,Nat.reduceBEq,reduceIte,Option.isNone_none,Tryz.results91]
theorem rdfail_ok {a e:Int}(h:Sc Z b tv toks k (.int .i64 a:: .int .i64 0::rest)):Ev (go Tryz.prog HS (.fn 92) [.pointer (some ⟨b,0,none⟩),.int .i64 e] Z) (fun r=>∃ Z',r=⟨false,.tuple ⟨[]⟩,Z'⟩/\ExtX b Z Z'/\Z'.orow b=some (tv:: .int .i64 (k:Nat):: .int .i64 ((tokA toks k).2:Nat):: .int .i64 e::rest)) ⟨⟩:=by
 obtain ⟨h1,h2,h3,h4,h5,h6⟩:=h
 obtain ⟨q,c,b2,off,cells,rfl,k1,k2⟩:=h3.use
 rw [List.length_map] at *
 obtain ⟨sp,rfl,k3,k4⟩:=k1 om
 have hr:=row_of h1
 have hk:sub cells (off+k*2) 2=some [str (tokA toks k).1,.int .i64 ((tokA toks k).2:Nat)]:=k2 k (tokC (tokA toks k)) (by rw [List.getElem?_map,tokA_at h5];rfl)
 have hk1:sub cells (off+k*2+1) 1=some [.int .i64 ((tokA toks k).2:Nat)]:=sub_in (i:=1) (m:=1) hk om
 have hlt:Nat.blt k toks.length=true:=by rw [Nat.blt_eq];exact h5
 have hlt2:decide (k<toks.length)=true:=lt_true h5
 have hbb:b2≠b:=by intro e;exact h4 (by rw [e];rfl)
 refine ev_go Tryz.func92 rfl rfl ?_
 simp (maxSteps:=8000000) (disch:=first|exact dS|fail) only [↓bD,bW,reduceMul,reduceEqDiff,reduceAdd,Nat.reduceBEq,reduceIte,Option.isNone_none,↓ld108,↓ld158,↓ld179,↓fa110_0,↓fa110_1,↓fa110_2,↓fa110_3,↓fa179_0,↓fa179_1,ia108,nn_ptr,hr,h1,k4,hk,hk1,hlt,hlt2]
 try refine Must.intro (by (repeat first|simp (disch:=omega) only [as_read,as_upd,as_newb]|rw [as_ord (by kernel_rfl)]);first|done|rfl) ?_
 try simp (maxSteps:=8000000) (disch:=first|exact dS|fail) only [↓bD,bW,reduceMul,reduceEqDiff,reduceAdd,Nat.reduceBEq,reduceIte,Option.isNone_none,↓ld108,↓ld158,↓ld179,↓fa110_0,↓fa110_1,↓fa110_2,↓fa110_3,↓fa179_0,↓fa179_1,ia108,nn_ptr,Tryz.results92]
 exact ⟨_,rfl,eXX,cL⟩
theorem rdskip_ok {w:By}(h:Sc Z b tv toks k (.int .i64 0:: .int .i64 0::rest)) (hends:Ends toks) (hw:w≠[]):Ev (go Tryz.prog HS (.fn 184) [.pointer (some ⟨b,0,none⟩),str w] Z) (fun r=>∃ Z',r=⟨false,.tuple ⟨[]⟩,Z'⟩/\ExtX b Z Z'/\match skipS toks w k with
   | .ok k'=>k'<toks.length/\Z'.orow b=some (tv:: .int .i64 (k':Nat):: .int .i64 0:: .int .i64 0::rest)
   | .error (p,e)=>Z'.orow b=some (tv:: .int .i64 (k:Nat):: .int .i64 (p:Nat):: .int .i64 e::rest)/\e≠0) ⟨⟩:=by
 have hw0:decide (w=[])=false:=decide_eq_false hw
 have hk:=h.k
 have hl:=h.len
 have ro:=h.row
 have rr:=row_of ro
 refine ev_go Tryz.func184 rfl rfl ?_
 refine gS ?_
 refine (rdtext_ok h).mono ?_
 rintro r rfl
 unfold skipS
 cases c1:decide ((tokA toks k).1=w) with
 | false =>
   rw [if_neg (of_decide_eq_false c1)]
   refine gS1 (aI @c1 (aI @yu_t @yu_f)) ?_
   refine (rdfail_ok (e:=12) h).mono ?_
   rintro r ⟨Z2,rfl,X2,o2⟩
   refine gS1 @Tryz.results184 ?_
   exact ⟨_,rfl,X2,o2,om⟩
 | true =>
   have hlt:=hends k _ (tokA_at hk) (by rw [of_decide_eq_true c1];exact hw)
   have e1:((k:Nat):Int)+1=((k+1:Nat):Int):=om
   rw [if_pos (of_decide_eq_true c1)]
   simp (maxSteps:=8000000) (disch:=first|exact dS|fail) only [↓bD,bW,reduceMul,reduceEqDiff,reduceAdd,Nat.reduceBEq,reduceIte,Option.isNone_none,↓ld108,↓ld158,↓ld179,↓fa110_0,↓fa110_1,↓fa110_2,↓fa110_3,↓fa179_0,↓fa179_1,ia108,nn_ptr,c1,hw0,rr,ro,e1,yu_t,yu_f,Tryz.results184]
   exact ⟨_,rfl,eXX,hlt,cL⟩
end
theorem risnumber_ok {Z:St}{s:By}(hs:s.length<9223372036854775807):Ev (go Tryz.prog HS (.fn 185) [str s] Z) (fun r=>r=⟨false,.bool (numB s),Z⟩) ⟨⟩:=by
 have hle:=runs_le digB s 0 om
 refine ev_go Tryz.func185 rfl rfl ?_
 refine gS ?_
 refine ev_upto s.length (fun i fr Z2=>i<=s.length/\fr.get 3=some (.int .i64 (i:Nat))/\fr.get 0=some (str s)/\(s.take i).all (on digB)=true/\Z2=Z)
  (fun r=>(∃ fr,r=⟨.exit 0,fr,Z⟩/\fr.get 0=some (str s)/\s.all (on digB)=true)\/(∃ fr,r=⟨.ret,fr,Z⟩/\fr.get 2=some (.bool false)/\s.all (on digB)=false)) ?_ ?_ ?_
 ·exact ⟨om,fR,fR,rfl,rfl⟩
 ·rintro i fr Z2 hi ⟨-,g3,g0,ha,rfl⟩
  have e0:decide (((i:Nat):Int)<((s.length:Nat):Int))=decide (i<s.length):=by rw [Bool.eq_iff_iff];simp
  have e3:((i:Nat):Int)+1=((i+1:Nat):Int):=om
  cases hlt:decide (i<s.length) with
  | false =>
    have:i=s.length:=by have:=of_decide_eq_false hlt;omega
    refine gS1 (aI @g3 (aI @g0 (aI @e0 @hlt))) ?_
    rw [this,List.take_length] at ha
    exact .inl ⟨_,rfl,fR1 g0,ha⟩
  | true =>
    obtain ⟨c,hc⟩:=at_some (of_decide_eq_true hlt)
    have h1:=sub_at1 hc
    have hd:digB ((c.toNat:Nat):Int)=on digB c:=rfl
    refine gS1 (aI @g3 (aI @g0 (aI @e0 (aI @hlt (aI @h1 @oneB_one))))) ?_
    refine rdigit_ok.mono ?_
    rintro r rfl
    cases hdc:on digB c with
    | false =>
      refine gS1 (aI @hd @hdc) ?_
      refine .inr ⟨_,rfl,fR,?_⟩
      rw [<- Bool.not_eq_true,List.all_eq_true]
      intro h
      rw [h c (List.mem_of_getElem? hc)] at hdc
      cases hdc
    | true =>
      refine gS1 (aI @hd (aI @hdc (aI @g3 (aI @g0 @e3)))) ?_
      have:=of_decide_eq_true hlt
      refine ⟨om,om,fR,fR1 g0,?_,by trivial⟩
      rw [List.take_add_one,hc,List.all_append,ha]
      simp [hdc]
 ·rintro r (⟨fr,rfl,g0,ha⟩|⟨fr,rfl,g2,ha⟩)
  ·cases s with
   | nil =>
     have c0:decide ((0:Int)<((0:Nat):Int))=false:=rfl
     refine gS1 (aI @g0 (aI @c0 (aI @yu_t (aI @yu_f @Tryz.results185)))) ?_
     rfl
   | cons c w =>
     have c1:decide ((0:Int)<((w.length+1:Nat):Int))=true:=decide_eq_true om
     have h1:sub (c::w) 0 1=some [c]:=rfl
     have h0:on digB c=true:=List.all_eq_true.1 ha c (List.mem_cons_self ..)
     have h48:decide (((c.toNat:Nat):Int)=48)=decide (c=48):=u8_eq (n:=48) rfl
     have hl1:decide (((w.length+1:Nat):Int)=1)=decide (w=[]):=by
      rw [Bool.eq_iff_iff,decide_eq_true_iff,decide_eq_true_iff]
      cases w with
      | nil=>simp
      | cons d v=>simp;omega
     have hn:numB (c::w)=(!decide (c=48)||decide (w=[])):=by
      unfold numB
      rw [headB_cons,h0,ha]
      unfold zero1
      cases w with
      | nil=>simp
      | cons d v=>simp
     rw [hn]
     cases c48:decide (c=48) <;> cases cw:decide (w=[]) <;> (simp (maxSteps:=8000000) (disch:=first|exact dS|fail) only [↓bD,bW,reduceMul,reduceEqDiff,reduceAdd,Nat.reduceBEq,reduceIte,Option.isNone_none,g0,c1,h1,oneB_one,h48,c48,hl1,cw,yu_t,yu_f,Tryz.results185]) <;> rfl
  ·refine gS1 (aI @g2 @Tryz.results185) ?_
   have:numB s=false:=by unfold numB;rw [ha];simp
   rw [this]
def satN (s:By):Nat:=s.foldl (fun n c=>min (10*n+(c.toNat+208) % 256) 1000000001) 0
theorem satN_snoc (s:By) (c:UInt8):satN (s++[c])=min (10*satN s+(c.toNat+208) % 256) 1000000001:=by simp [satN,List.foldl_append]
theorem satN_le:∀ (n:Nat){s:By},s.length=n->satN s<=1000000001:=by
 intro n
 induction n with
 | zero=>intro s h;obtain rfl:=List.eq_nil_of_length_eq_zero h;simp [satN]
 | succ n ih =>
   intro s h
   obtain ⟨w,c,rfl⟩:∃ w c,s=w++[c]:=⟨s.dropLast,s.getLast (by intro e;rw [e] at h;simp at h),(List.dropLast_concat_getLast _).symm⟩
   rw [satN_snoc];omega
theorem satN_val:∀ (n:Nat){s:By},s.length=n->s.all (on digB)=true->satN s=min (valN s) 1000000001:=by
 intro n
 induction n with
 | zero=>intro s h _;obtain rfl:=List.eq_nil_of_length_eq_zero h;simp [satN,valN]
 | succ n ih =>
   intro s h ha
   obtain ⟨w,c,rfl⟩:∃ w c,s=w++[c]:=⟨s.dropLast,s.getLast (by intro e;rw [e] at h;simp at h),(List.dropLast_concat_getLast _).symm⟩
   rw [List.all_append,Bool.and_eq_true] at ha
   have hd:=dig_range (List.all_eq_true.1 ha.2 c (List.mem_singleton.2 rfl))
   rw [satN_snoc,valN_snoc,ih (by simpa using h) ha.1]
   omega
theorem rvalue_ok {Z:St}{s:By}(hs:s.length<9223372036854775807):Ev (go Tryz.prog HS (.fn 186) [str s] Z) (fun r=>r=⟨false,.int .i64 (satN s:Nat),Z⟩) ⟨⟩:=by
 refine ev_go Tryz.func186 rfl rfl ?_
 refine gS ?_
 refine ev_count s.length (fun i fr Z2=>fr.get 4=some (.int .i64 (i:Nat))/\fr.get 0=some (str s)/\fr.get 3=some (.int .i64 (satN (s.take i):Nat))/\Z2=Z)
  (fun r=>∃ fr,r=⟨.exit 0,fr,Z⟩/\fr.get 3=some (.int .i64 (satN s:Nat))) ?_ ?_ ?_ ?_
 ·exact ⟨fR,fR,fR,rfl⟩
 ·rintro i fr Z2 hi ⟨g4,g0,g3,rfl⟩
  obtain ⟨c,hc⟩:=at_some hi
  have h1:=sub_at1 hc
  have e0:decide (((i:Nat):Int)<((s.length:Nat):Int))=true:=decide_eq_true om
  have e3:((i:Nat):Int)+1=((i+1:Nat):Int):=om
  have hle:=satN_le _ (s:=s.take i) rfl
  have hst:satN (s.take (i+1))=min (10*satN (s.take i)+(c.toNat+208) % 256) 1000000001:=by rw [List.take_add_one,hc];exact satN_snoc _ _
  generalize satN (s.take i)=q at *
  have hm:(c.toNat+208) % 256<256:=Nat.mod_lt _ om
  have ew:IntKind.u8.wrap (((c.toNat:Nat):Int)-48)=(((c.toNat+208) % 256:Nat):Int):=by rw [wrap_u8];omega
  have ewF:wrapF .u8 (((c.toNat:Nat):Int)-48)=(((c.toNat+208) % 256:Nat):Int):=by rw [wrapF_eq];exact ew
  have ew2:IntKind.i64.wrap (((c.toNat+208) % 256:Nat):Int)=(((c.toNat+208) % 256:Nat):Int):=wrap64_in om om
  generalize (c.toNat+208) % 256=m at *
  have e10:(10:Int)*((q:Nat):Int)=((10*q:Nat):Int):=om
  have e11:((10*q:Nat):Int)+((m:Nat):Int)=((10*q+m:Nat):Int):=om
  have e12:min ((10*q+m:Nat):Int) 1000000001=((min (10*q+m) 1000000001:Nat):Int):=om
  refine gS1 (aI @g4 (aI @g0 (aI @g3 (aI @e0 (aI @h1 (aI @oneB_one (aI @ew (aI @ewF (aI @ew2 (aI @e10 (aI @e11 (aI @e12 @e3)))))))))))) ?_
  exact ⟨fR,fR1 g0,by rw [hst],by trivial⟩
 ·rintro fr Z2 ⟨g4,g0,g3,rfl⟩
  have e0:decide (((s.length:Nat):Int)<((s.length:Nat):Int))=false:=by simp
  rw [List.take_length] at g3
  refine gS1 (aI @g4 (aI @g0 @e0)) ?_
  exact ⟨_,rfl,fR1 g3⟩
 rintro r ⟨fr,rfl,g3⟩
 refine gS1 (aI @g3 @Tryz.results186) ?_;try exact ⟨⟩
end Go.Proofs.T
namespace Go.Proofs.T
open Go Go.Ab
open Nat (reduceMul reduceEqDiff reduceAdd)
set_option maxRecDepth 100000
theorem lowF_nat {n d:Nat}(hn:n<=9223372036854775807) (hd:d<=9223372036854775807):lowF false n d=(((n / Nat.gcd n d:Nat):Int),((d / Nat.gcd n d:Nat):Int),true):=by
 have hF:∀ m,m<=9223372036854775807->fitF false m=((m:Int),true):=fun m hm=>by unfold fitF;rw [if_neg (by simp),if_neg om]
 have h1:n / Nat.gcd n d<=n:=Nat.div_le_self _ _
 have h2:d / Nat.gcd n d<=d:=Nat.div_le_self _ _
 unfold lowF
 rw [Bool.false_and,hF _ om,hF _ om]
 rfl
theorem q_nat {n d:Nat}:qn (n:Nat) (d:Nat)=(n / Nat.gcd n d:Nat)/\qd (n:Nat) (d:Nat)=(d / Nat.gcd n d:Nat):=by
 have hg:Int.gcd (n:Nat) (d:Nat)=Nat.gcd n d:=rfl
 unfold qn qd
 rw [if_neg om,if_neg om,hg]
 exact ⟨rfl,rfl⟩
set_option maxHeartbeats 8000000 in
theorem rmakeN_ok {Z:St}{n d:Nat}(hn:n<=9223372036854775807) (hd:d<=9223372036854775807) (h0:0<d) :
  Ev (go Tryz.prog HS (.fn 61) [.int .i64 (n:Nat),.int .i64 (d:Nat)] Z) (fun r=>∃ Z',r=⟨false,.tuple ⟨[.agg ⟨[.int .i64 (n / Nat.gcd n d:Nat),.int .i64 (d / Nat.gcd n d:Nat)]⟩,.bool true]⟩,Z'⟩/\Ext Z Z') ⟨⟩:=by
 cases hs:(smallB (n:Nat)&&smallB (d:Nat)) with
 | true =>
   unfold smallB at hs
   simp only [Bool.and_eq_true,decide_eq_true_eq] at hs
   refine (rmake_ok (n:=(n:Nat)) (d:=(d:Nat)) om om om om om).mono ?_
   rintro r ⟨Z',rfl,hE⟩
   rw [q_nat.1,q_nat.2]
   exact ⟨_,rfl,hE⟩
 | false =>
   have c5:decide (((d:Nat):Int)=0)=false:=decide_eq_false om
   have hin:In64 (n:Nat):=⟨om,om⟩
   have hid:In64 (d:Nat):=⟨om,om⟩
   have sn:decide (((n:Nat):Int)<0)=false:=decide_eq_false om
   have sd:decide (((d:Nat):Int)<0)=false:=decide_eq_false om
   refine ev_go Tryz.func61 rfl rfl ?_
   refine gU1 (aI @splice_succ (aI @bunAP @c5)) ?_
   refine small2_ok.mono ?_
   rintro r rfl
   cases b1:smallB (n:Nat)
   case' true =>
    rw [b1,Bool.true_and] at hs
    refine gU1 (aI @splice_succ (aI @bunAP (aI @yu_t @yu_f))) ?_
    refine small2_ok.mono ?_
    rintro r rfl
    rw [hs]
   all_goals
    refine gU1 (aI @splice_succ (aI @bunAP (aI @yu_t @yu_f))) ?_
    refine (of_ok hin).mono ?_
    rintro r ⟨v1,l1,Z2,rfl,hE2,⟨w1,rfl,hw1⟩,dl1,tl1,hv1,ll1⟩
    obtain ⟨x1,y1,hs1⟩:=hw1.shape
    subst hs1
    have n2:=hE2.n
    simp only [new_n] at n2
    refine gU1 (aI @splice_succ @bunAP) ?_
    refine (of_ok hid).mono ?_
    rintro r ⟨v3,l3,Z3,rfl,hE3,⟨w3,rfl,hw3⟩,dl3,tl3,hv3,ll3⟩
    obtain ⟨x3,y3,hs3⟩:=hw3.shape
    subst hs3
    have n3:=hE3.n
    refine gU1 (aI @splice_succ @bunAP) ?_
    refine (blowest_ok ⟨_,rfl,hw1.mono hE3⟩ ⟨_,rfl,hw3⟩ dl1 dl3 tl1 tl3 om om om).mono ?_
    rintro r ⟨Z4,rfl,hE4⟩
    have n4:=hE4.n
    rw [hv1,hv3,sn,sd]
    have e2:((n:Nat):Int).natAbs=n:=rfl
    have e3:((d:Nat):Int).natAbs=d:=rfl
    have e4:(false != false)=false:=rfl
    rw [e2,e3,e4,lowF_nat hn hd]
    have hE:Ext Z Z4:=((Ext.trans (eX) hE2).trans hE3).trans hE4
    have o4:Z4.orow Z.n=some [.int .i64 0,.int .i64 0]:=by rw [orow_congr (hE4.same _ om),orow_congr (hE3.same _ om),orow_congr (hE2.same _ (by simp))];exact orow_new_same (Nat.le_refl _) (Nat.le_refl _)
    dsimp only
    refine gU1 (aI @splice_succ (aI @bunAP (aI @o4 @Tryz.results61))) ?_
    exact ⟨_,rfl,eX⟩
end Go.Proofs.T
namespace Go.Proofs.T
open Go Go.Ab
open Nat (reduceMul reduceEqDiff reduceAdd)
set_option maxRecDepth 100000
def DotAt (n:Nat) (s:By):Prop:=n<=s.length/\∀ (j:Nat) (c:UInt8),s[j]? =some c->(c=46↔j=n)
theorem cut_dot {n:Nat}{s:By}(h:DotAt n s):cutS s=(s.take n,s.drop (n+1)):=by
 obtain ⟨h1,h2⟩:=h
 have hno:∀ x∈s.take n,x≠46:=fun x hx e=>by
  obtain ⟨j,hj⟩:=List.mem_iff_getElem?.1 hx
  rw [List.getElem?_take] at hj
  split at hj
  ·have:=(h2 j x hj).1 e;omega
  ·cases hj
 by_cases hn:n<s.length
 ·obtain ⟨c,hc⟩:=at_some hn
  have hc46:=(h2 n c hc).2 rfl
  have e:s=s.take n++46::s.drop (n+1):=by
   obtain ⟨h3,h4⟩:=List.getElem?_eq_some_iff.1 hc
   conv=>lhs;rw [<- List.take_append_drop n s,List.drop_eq_getElem_cons h3,h4,hc46]
  have:=cutS_at (t:=s.drop (n+1)) hno
  rw [<- e] at this
  exact this
 ·have e:n=s.length:=om
  rw [e,List.take_length] at hno ⊢
  rw [cutS_none hno,List.drop_eq_nil_of_le om]
def RfP (L:Nat->Prop) (Z:St) (b:Nat) (tv:Value) (toks:List Tok) (rest:List Value) (R:Except Er Fx) (r:CR):Prop:=∃ Z' row e',r=⟨false,.agg ⟨row⟩,Z'⟩/\ExtX b Z Z'/\Fresh L Z' row e'/\(match R with
 | .ok (e,_,k,_)=>e'=e/\k<toks.length/\Z'.orow b=some (tv:: .int .i64 (k:Nat):: .int .i64 0:: .int .i64 0::rest)
 | .error (p,er)=>er≠0/\∃ k:Nat,k<toks.length/\Z'.orow b=some (tv:: .int .i64 (k:Nat):: .int .i64 (p:Nat):: .int .i64 er::rest))
noncomputable def dcC (l:List Nat):Code:=cdAt l ((Tryz.f206).body.getD .skip)
theorem dc_e0:dcC []= .seq (dcC [0]) (dcC [1]):=by kernel_rfl
theorem dc_e1:dcC [1]= .seq (dcC [1,0]) (dcC [1,1]):=by kernel_rfl
theorem dc_e2:dcC [1,1]= .seq (dcC [1,1,0]) (dcC [1,1,1]):=by kernel_rfl
theorem dc_e3:dcC [1,1,1]= .seq (dcC [1,1,1,0]) (dcC [1,1,1,1]):=by kernel_rfl
theorem dc_e4:dcC [1,1,1,1]= .seq (dcC [1,1,1,1,0]) (dcC [1,1,1,1,1]):=by kernel_rfl
theorem dc_e5:dcC [1,1,1,1,1]= .seq (dcC [1,1,1,1,1,0]) (dcC [1,1,1,1,1,1]):=by kernel_rfl
theorem dc_e6:dcC [1,1,1,1,1,1]= .seq (dcC [1,1,1,1,1,1,0]) (dcC [1,1,1,1,1,1,1]):=by kernel_rfl
theorem dc_f0:dcC [1,1,1,1,1,1,1]= .seq (dcC [1,1,1,1,1,1,1,0]) (dcC [1,1,1,1,1,1,1,1]):=by kernel_rfl
theorem dc_f1:dcC [1,1,1,1,1,1,1,1]= .seq (dcC [1,1,1,1,1,1,1,1,0]) (dcC [1,1,1,1,1,1,1,1,1]):=by kernel_rfl
theorem fresh_leaf {L:Nat->Prop}{Z:St}{o nm:By}{n d:Int}:Fresh L Z [str o,.int .i64 n,.int .i64 d,str nm,.slice none 0 0] (.mk o n d nm []):=fun H hH=>⟨_,[],rfl,.inl ⟨rfl,rfl⟩,by simp,rfl⟩
section
variable {L:Nat->Prop} {b:Nat} {Z τ:St} {tv:Value} {toks:List Tok} {k:Nat} {rest:List Value}
set_option maxHeartbeats 4000000 in
theorem dc_tail {fr:Fr}{n:Nat}{rs:By}(hE:Ext Z τ) (hlt:Z.n<τ.n) (hbl:b<Z.n) (h:Sc τ b tv toks k (.int .i64 0:: .int .i64 0::rest)) (hz:τ.orow Z.n=some [str [],.int .i64 0,.int .i64 0,str [],.slice none 0 0]) (hn:n<=1000000000) (hl:rs.length<=6)
  (g0:fr.get 0=some (.pointer (some ⟨b,0,none⟩))) (g2:fr.get 2=some (.pointer (some ⟨Z.n,0,none⟩))) (g5:fr.get 5=some (str rs)) (g8:fr.get 8=some (.int .i64 (n:Nat))) :
  Ev (lim Tryz.prog HS none (dcC [1,1,1,1,1,1,1,1,1]) fr τ) (fun r=>∃ fr' τ',r=⟨.ret,fr',τ'⟩/\fr'.get 2=some (.pointer (some ⟨Z.n,0,none⟩))/\ExtX b Z τ'/\τ'.orow Z.n=some [str numB3,.int .i64 (decN n rs / Nat.gcd (decN n rs) (10 ^ rs.length):Nat),.int .i64 (10 ^ rs.length / Nat.gcd (decN n rs) (10 ^ rs.length):Nat),str [],.slice none 0 0]/\τ'.orow b=some (tv:: .int .i64 (k+1:Nat):: .int .i64 0:: .int .i64 0::rest)) ⟨⟩:=by
 simp only [dcC,Tryz.f206,gd_some,cd_nil,cd_0,cd_1,cd_2,cd_3]
 refine gS1 (aI @g0 (aI @g2 (aI @g5 @g8))) ?_
 refine ev_count rs.length (fun i fr Z'=>fr.get 0=some (.pointer (some ⟨b,0,none⟩))/\fr.get 2=some (.pointer (some ⟨Z.n,0,none⟩))/\fr.get 5=some (str rs)/\fr.get 10=some (.int .i64 (i:Nat)) /\
   fr.get 8=some (.int .i64 (decN n (rs.take i):Nat))/\fr.get 9=some (.int .i64 (10 ^ i:Nat))/\Z'=τ)
  (fun r=>∃ fr,r=⟨.exit 2,fr,τ⟩/\fr.get 0=some (.pointer (some ⟨b,0,none⟩))/\fr.get 2=some (.pointer (some ⟨Z.n,0,none⟩))/\fr.get 8=some (.int .i64 (decN n rs:Nat))/\fr.get 9=some (.int .i64 (10 ^ rs.length:Nat))) ?_ ?_ ?_ ?_
 ·exact ⟨fR1 g0,fR1 g2,fR1 g5,fR,fR1 g8,fR,rfl⟩
 ·rintro i fr Z' hi ⟨g0,g2,g5,g10,g8,g9,rfl⟩
  obtain ⟨c,hc⟩:=at_some hi
  have h1:=sub_at1 hc
  have ed:decide (((i:Nat):Int)<((rs.length:Nat):Int))=true:=by rw [decide_eq_true_iff];omega
  have ew:IntKind.u8.wrap (((c.toNat:Nat):Int)-48)=(((c.toNat+208) % 256:Nat):Int):=by rw [wrap_u8];omega
  have ewF:wrapF .u8 (((c.toNat:Nat):Int)-48)=(((c.toNat+208) % 256:Nat):Int):=by rw [wrapF_eq];exact ew
  have hm:(c.toNat+208) % 256<256:=Nat.mod_lt _ om
  have ew2:IntKind.i64.wrap (((c.toNat+208) % 256:Nat):Int)=(((c.toNat+208) % 256:Nat):Int):=wrap64_in om om
  have hd1:=decN_le (n:=n) (rs.take i)
  have hlt:(rs.take i).length=i:=by rw [List.length_take];omega
  rw [hlt] at hd1
  have hp1:10 ^ i<=10 ^ 5:=Nat.pow_le_pow_right om om
  have hp2:(n+29)*10 ^ i<=(1000000000+29)*10 ^ 5:=Nat.mul_le_mul om hp1
  have hs2:=decN_succ (n:=n) hc
  generalize decN n (rs.take i)=q at *
  generalize ht10:10 ^ i=t10 at *
  have e10:(10:Int)*((q:Nat):Int)=((10*q:Nat):Int):=om
  have e11:((10*q:Nat):Int)+(((c.toNat+208) % 256:Nat):Int)=((10*q+(c.toNat+208) % 256:Nat):Int):=om
  have e12:(10:Int)*((t10:Nat):Int)=((10*t10:Nat):Int):=om
  have e13:((i:Nat):Int)+1=((i+1:Nat):Int):=om
  have e14:10 ^ (i+1)=10*t10:=by rw [Nat.pow_succ,ht10,Nat.mul_comm]
  refine gS1 (aI @g0 (aI @g2 (aI @g5 (aI @g10 (aI @g8 (aI @g9 (aI @ed (aI @h1 (aI @oneB_one (aI @ew (aI @ewF (aI @ew2 (aI @e10 (aI @e11 (aI @e12 @e13))))))))))))))) ?_
  exact ⟨fR1 g0,fR1 g2,fR1 g5,fR,by rw [hs2],by rw [e14],by trivial⟩
 ·rintro fr Z' ⟨g0,g2,g5,g10,g8,g9,rfl⟩
  have ed:decide (((rs.length:Nat):Int)<((rs.length:Nat):Int))=false:=by simp
  rw [List.take_length] at g8
  refine gS1 (aI @g5 (aI @g10 @ed)) ?_
  exact ⟨_,rfl,fR1 g0,fR1 g2,fR1 g8,fR1 g9⟩
 rintro r ⟨fr,rfl,g0,g2,g8,g9⟩
 have hd1:=decN_le (n:=n) rs
 have hp1:10 ^ rs.length<=10 ^ 6:=Nat.pow_le_pow_right om hl
 have hp0:0<10 ^ rs.length:=Nat.pow_pos om
 have hp2:(n+29)*10 ^ rs.length<=(1000000000+29)*10 ^ 6:=Nat.mul_le_mul om hp1
 refine gS1 (aI @g0 (aI @g2 (aI @g8 @g9))) ?_
 refine (rmakeN_ok om om hp0).mono ?_
 rintro r ⟨Z5,rfl,hE5⟩
 have hn5:=hE5.n
 have hbn:b≠Z5.n:=om
 have hrow5:Z5.orow b=some (tv:: .int .i64 (k:Nat):: .int .i64 0:: .int .i64 0::rest):=by rw [hE5.orow h.lt];exact h.row
 have rr5:=row_of hrow5
 have hz5:Z5.orow Z.n=some [str [],.int .i64 0,.int .i64 0,str [],.slice none 0 0]:=by rw [hE5.orow hlt];exact hz
 have e1:((k:Nat):Int)+1=((k+1:Nat):Int):=om
 have hkl:=h.k
 have hkn:=h.len
 have hs0:Z.n≠b:=om
 simp (maxSteps:=8000000) (disch:=first|exact dS|fail) only [↓bD,bW,reduceMul,reduceEqDiff,reduceAdd,Nat.reduceBEq,reduceIte,Option.isNone_none,↓ld108,↓ld158,↓ld179,↓fa110_0,↓fa110_1,↓fa110_2,↓fa110_3,↓fa179_0,↓fa179_1,ia108,nn_ptr,g0,g2,hrow5,rr5,hz5,e1]
 refine ⟨_,_,rfl,fR1 g2,?_,?_,?_⟩
 ·exact (((ExtX.of ((hE.trans hE5).new' _)).updF om _).upd _).updF (Nat.le_refl _) _
 ·unfold numB3;exact cL
 ·exact cL
set_option maxHeartbeats 4000000 in
theorem rdecimal2_ok {p n0:Nat}(h:Sc Z b tv toks k (.int .i64 0:: .int .i64 0::rest)) (hends:Ends toks) (hlen:(tokA toks k).1.length<10000000) (hdot:DotAt n0 (tokA toks k).1) (hne:(tokA toks k).1≠[]) :
  Ev (go Tryz.prog HS (.fn 206) [.pointer (some ⟨b,0,none⟩)] Z) (RfP L Z b tv toks rest (decS toks k p)) ⟨⟩:=by
 have hbl:=h.lt
 have hkl:=h.k
 have hk1:=hends k _ (tokA_at h.k) hne
 obtain ⟨hn0,hdt⟩:=hdot
 have hcut:=cut_dot ⟨hn0,hdt⟩
 refine ev_go (body:=dcC []) Tryz.func206 (by kernel_rfl) rfl ?_
 obtain ⟨X,hX⟩:∃ X,dcC [1,1,1,1,1,1,1]=X:=⟨_,rfl⟩
 rw [dc_e0,dc_e1,dc_e2,dc_e3,dc_e4,dc_e5,dc_e6,hX]
 simp only [dcC,Tryz.f206,gd_some,cd_nil,cd_0,cd_1,cd_2,cd_3]
 refine gS ?_
 obtain ⟨S,hS⟩:∃ S,Z.new [str [],.int .i64 0,.int .i64 0,str [],.slice none 0 0] (some 35)=S:=⟨_,rfl⟩
 have ES:Ext Z S:=by rw [<- hS];exact eX
 have nS:S.n=Z.n+1:=by rw [<- hS];rfl
 have zS:S.orow Z.n=some [str [],.int .i64 0,.int .i64 0,str [],.slice none 0 0]:=by rw [<- hS];exact cL
 have h1:=h.ext ES
 rw [hS]
 clear hS
 refine (rdtext_ok h1).mono ?_
 rintro r rfl
 unfold decS
 rw [hcut]
 dsimp only
 generalize hsn:(tokA toks k).1=s at *
 refine gS ?_
 refine ev_count s.length (fun i fr Z'=>fr.get 0=some (.pointer (some ⟨b,0,none⟩))/\fr.get 2=some (.pointer (some ⟨Z.n,0,none⟩))/\fr.get 3=some (str s)/\fr.get 6=some (.int .i64 (i:Nat))/\fr.get 4=some (str (if i<=n0 then s else s.take n0))/\fr.get 5=some (str (if i<=n0 then [] else s.drop (n0+1)))/\Z'=S)
  (fun r=>∃ fr,r=⟨.exit 0,fr,S⟩/\fr.get 0=some (.pointer (some ⟨b,0,none⟩))/\fr.get 2=some (.pointer (some ⟨Z.n,0,none⟩))/\fr.get 4=some (str (s.take n0))/\fr.get 5=some (str (s.drop (n0+1)))) ?_ ?_ ?_ ?_
 ·exact ⟨fR,fR,fR,fR,by rw [if_pos om];rfl,by rw [if_pos om];rfl,rfl⟩
 ·rintro i fr Z' hi ⟨g0,g2,g3,g6,g4,g5,rfl⟩
  obtain ⟨c,hc⟩:=at_some hi
  have q1:=sub_at1 hc
  have ed:decide (((i:Nat):Int)<((s.length:Nat):Int))=true:=by rw [decide_eq_true_iff];omega
  have e13:((i:Nat):Int)+1=((i+1:Nat):Int):=om
  have h46:decide (((c.toNat:Nat):Int)=46)=decide (c=46):=u8_eq (n:=46) rfl
  by_cases hin:i=n0
  ·subst hin
   have hc46:decide (c=46)=true:=decide_eq_true ((hdt i c hc).2 rfl)
   have s1:sub s 0 i=some (s.take i):=by rw [sub_of om];rfl
   have s2:sub s (i+1) (s.length-(i+1))=some (s.drop (i+1)):=by rw [sub_of om,List.take_of_length_le (by rw [List.length_drop];omega)]
   refine gS1 (aI @g0 (aI @g2 (aI @g3 (aI @g6 (aI @g4 (aI @g5 (aI @ed (aI @q1 (aI @oneB_one (aI @h46 (aI @hc46 (aI @s1 (aI @s2 (aI @e13 @Nat.sub_zero)))))))))))))) ?_
   exact ⟨fR1 g0,fR1 g2,fR1 g3,fR,by rw [if_neg om],by rw [if_neg om],by trivial⟩
  ·have hc46:decide (c=46)=false:=decide_eq_false fun e=>hin ((hdt i c hc).1 e)
   refine gS1 (aI @g0 (aI @g2 (aI @g3 (aI @g6 (aI @g4 (aI @g5 (aI @ed (aI @q1 (aI @oneB_one (aI @h46 (aI @hc46 @e13))))))))))) ?_
   refine ⟨fR1 g0,fR1 g2,fR1 g3,fR,?_,?_,by trivial⟩
   ·by_cases hle:i<=n0
    ·rw [if_pos hle];rw [if_pos om]
    ·rw [if_neg hle];rw [if_neg om]
   ·by_cases hle:i<=n0
    ·rw [if_pos hle];rw [if_pos om]
    ·rw [if_neg hle];rw [if_neg om]
 ·rintro fr Z' ⟨g0,g2,g3,g6,g4,g5,rfl⟩
  have ed:decide (((s.length:Nat):Int)<((s.length:Nat):Int))=false:=by simp
  have k4:fr.get 4=some (str (s.take n0)):=by
   by_cases hle:s.length<=n0
   ·rw [if_pos hle] at g4;rw [g4,List.take_of_length_le hle]
   ·rw [if_neg hle] at g4;exact g4
  have k5:fr.get 5=some (str (s.drop (n0+1))):=by
   by_cases hle:s.length<=n0
   ·rw [if_pos hle] at g5;rw [g5,List.drop_eq_nil_of_le om]
   ·rw [if_neg hle] at g5;exact g5
  refine gS1 (aI @g3 (aI @g6 @ed)) ?_
  exact ⟨_,rfl,fR1 g0,fR1 g2,fR1 k4,fR1 k5⟩
 rintro r ⟨fr,rfl,g0,g2,g4,g5⟩
 have hwl:(s.take n0).length<=s.length:=by rw [List.length_take];omega
 have hrl:(s.drop (n0+1)).length<=s.length:=by rw [List.length_drop];omega
 generalize s.take n0=w at *
 generalize s.drop (n0+1)=rs at *
 clear hcut hdt
 refine gS1 @g4 ?_
 refine (risnumber_ok om).mono ?_
 rintro r rfl
 -- an error at this token
 have bad:∀ {Z2:St} {e:Int},e≠0->ExtX b S Z2->Z2.orow b=some (tv:: .int .i64 (k:Nat):: .int .i64 ((tokA toks k).2:Nat):: .int .i64 e::rest)->RfP L Z b tv toks rest (.error ((tokA toks k).2,e)) ⟨false,.agg ⟨[str [],.int .i64 0,.int .i64 0,str [],.slice none 0 0]⟩,Z2.upd Z.n [str [],.int .i64 0,.int .i64 0,str [],.slice none 0 0]⟩:=fun {Z2 e} he hX ho =>
  ⟨_,_,_,rfl,((ExtX.of ES).trans hX).updF (Nat.le_refl _) _,fresh_leaf,he,k,hkl,by rw [orow_upd_ne om];exact ho⟩
 have hz2:∀ {Z2:St},ExtX b S Z2->Z2.orow Z.n=some [str [],.int .i64 0,.int .i64 0,str [],.slice none 0 0]:=fun {Z2} hX=>by rw [hX.orow om om];exact zS
 have rest2:∀ {fr:Fr},numB w=true->sufB rs=false->fr.get 0=some (.pointer (some ⟨b,0,none⟩))->fr.get 2=some (.pointer (some ⟨Z.n,0,none⟩))->fr.get 4=some (str w)->fr.get 5=some (str rs) ->
   Ev (lim Tryz.prog HS none X fr S) (fun r=>∃ fr' τ',r=⟨.ret,fr',τ'⟩/\fr'.get 2=some (.pointer (some ⟨Z.n,0,none⟩))/\∃ row,τ'.orow Z.n=some row/\RfP L Z b tv toks rest (if (decide (valN w<=1000000000)&&decide (rs.length<=6)&&(decide (valN w<1000000000)||decide (rs=[])))=true then
   .ok (.mk numB3 (decN (valN w) rs / Nat.gcd (decN (valN w) rs) (10 ^ rs.length):Nat)
    (10 ^ rs.length / Nat.gcd (decN (valN w) rs) (10 ^ rs.length):Nat) [] [],1,k+1,p+1)
  else .error ((tokA toks k).2,3)) ⟨false,.agg ⟨row⟩,τ'⟩) ⟨⟩:=fun {fr} hnw hsf f0 f2 f4 f5=>by
  rw [<- hX]
  obtain ⟨Y,hY⟩:∃ Y,dcC [1,1,1,1,1,1,1,1,1]=Y:=⟨_,rfl⟩
  rw [dc_f0,dc_f1,hY]
  simp only [dcC,Tryz.f206,gd_some,cd_nil,cd_0,cd_1,cd_2,cd_3]
  have hv:=satN_val _ (s:=w) rfl (numB_all hnw).1
  refine gS1 @f4 ?_
  refine (rvalue_ok om).mono ?_
  rintro r rfl
  rw [hv]
  have e6:decide ((6:Int)<((rs.length:Nat):Int))=decide (6<rs.length):=by rw [Bool.eq_iff_iff,decide_eq_true_iff,decide_eq_true_iff];omega
  cases hv9:decide (valN w<=1000000000) with
  | false =>
    have:=of_decide_eq_false hv9
    have em:min (valN w) 1000000001=1000000001:=om
    have ec:decide ((1000000000:Int)<((1000000001:Nat):Int))=true:=rfl
    rw [em,if_neg (by simp)]
    refine gS1 (aI @f0 (aI @f2 (aI @f5 (aI @ec (aI @yu_t @yu_f))))) ?_
    refine (rdfail_ok (e:=3) h1).mono ?_
    rintro r ⟨Z2,rfl,X2,o2⟩
    simp (maxSteps:=8000000) (disch:=first|exact dS|fail) only [↓bD,bW,reduceMul,reduceEqDiff,reduceAdd,Nat.reduceBEq,reduceIte,Option.isNone_none,f2,hz2 X2]
    exact ⟨_,_,rfl,fR1 f2,_,cL,bad om X2 o2⟩
  | true =>
    have hvl:=of_decide_eq_true hv9
    have em:min (valN w) 1000000001=valN w:=om
    rw [em]
    generalize valN w=n at *
    have ec:decide ((1000000000:Int)<((n:Nat):Int))=false:=decide_eq_false om
    have e9:decide (((n:Nat):Int)=1000000000)= !decide (n<1000000000):=by rw [Bool.eq_iff_iff,decide_eq_true_iff];simp;omega
    cases h6:decide (rs.length<=6) with
    | false =>
      have e6':decide (6<rs.length)=true:=decide_eq_true (by have:=of_decide_eq_false h6;omega)
      rw [if_neg (by simp)]
      refine gS1 (aI @f0 (aI @f2 (aI @f5 (aI @ec (aI @e6 (aI @e6' (aI @yu_t @yu_f))))))) ?_
      refine (rdfail_ok (e:=3) h1).mono ?_
      rintro r ⟨Z2,rfl,X2,o2⟩
      simp (maxSteps:=8000000) (disch:=first|exact dS|fail) only [↓bD,bW,reduceMul,reduceEqDiff,reduceAdd,Nat.reduceBEq,reduceIte,Option.isNone_none,f2,hz2 X2]
      exact ⟨_,_,rfl,fR1 f2,_,cL,bad om X2 o2⟩
    | true =>
      have e6':decide (6<rs.length)=false:=decide_eq_false (by have:=of_decide_eq_true h6;omega)
      have good:∀ {fr:Fr},fr.get 0=some (.pointer (some ⟨b,0,none⟩))->fr.get 2=some (.pointer (some ⟨Z.n,0,none⟩))->fr.get 5=some (str rs)->fr.get 8=some (.int .i64 (n:Nat)) ->
        Ev (lim Tryz.prog HS none Y fr S) (fun r=>∃ fr' τ',r=⟨.ret,fr',τ'⟩/\fr'.get 2=some (.pointer (some ⟨Z.n,0,none⟩))/\∃ row,τ'.orow Z.n=some row/\RfP L Z b tv toks rest (.ok (.mk numB3 (decN n rs / Nat.gcd (decN n rs) (10 ^ rs.length):Nat) (10 ^ rs.length / Nat.gcd (decN n rs) (10 ^ rs.length):Nat) [] [],1,k+1,p+1)) ⟨false,.agg ⟨row⟩,τ'⟩) ⟨⟩:=fun {fr} a0 a2 a5 a8=>by
       rw [<- hY]
       refine (dc_tail ES om hbl h1 zS hvl (of_decide_eq_true h6) a0 a2 a5 a8).mono ?_
       rintro r ⟨fr',τ',rfl,b2,bX,bz,bo⟩
       exact ⟨_,_,rfl,b2,_,bz,_,_,_,rfl,bX,fresh_leaf,rfl,hk1,bo⟩
      clear hY
      cases h9:decide (n<1000000000) with
      | true =>
        rw [if_pos (by simp)]
        refine gS1 (aI @f0 (aI @f2 (aI @f5 (aI @ec (aI @e6 (aI @e6' (aI @e9 (aI @h9 (aI @Bool.not_true (aI @yu_t @yu_f)))))))))) ?_
        refine (good (fR1 f0) (fR1 f2) (fR1 f5) (fR)).mono ?_
        rintro r ⟨fr',τ',rfl,b2,row,bz,hR⟩
        try simp (maxSteps:=8000000) (disch:=first|exact dS|fail) only [↓bD,bW,reduceMul,reduceEqDiff,reduceAdd,Nat.reduceBEq,reduceIte,Option.isNone_none]
        exact ⟨_,_,rfl,b2,row,bz,hR⟩
      | false =>
        cases hr0:decide (rs=[]) with
        | true =>
          rw [if_pos (by simp)]
          refine gS1 (aI @f0 (aI @f2 (aI @f5 (aI @ec (aI @e6 (aI @e6' (aI @e9 (aI @h9 (aI @hr0 (aI @Bool.not_false (aI @yu_t @yu_f))))))))))) ?_
          refine (good (fR1 f0) (fR1 f2) (fR1 f5) (fR)).mono ?_
          rintro r ⟨fr',τ',rfl,b2,row,bz,hR⟩
          try simp (maxSteps:=8000000) (disch:=first|exact dS|fail) only [↓bD,bW,reduceMul,reduceEqDiff,reduceAdd,Nat.reduceBEq,reduceIte,Option.isNone_none]
          exact ⟨_,_,rfl,b2,row,bz,hR⟩
        | false =>
          rw [if_neg (by simp)]
          refine gS1 (aI @f0 (aI @f2 (aI @f5 (aI @ec (aI @e6 (aI @e6' (aI @e9 (aI @h9 (aI @hr0 (aI @Bool.not_false (aI @yu_t @yu_f))))))))))) ?_
          refine (rdfail_ok (e:=3) h1).mono ?_
          rintro r ⟨Z2,rfl,X2,o2⟩
          simp (maxSteps:=8000000) (disch:=first|exact dS|fail) only [↓bD,bW,reduceMul,reduceEqDiff,reduceAdd,Nat.reduceBEq,reduceIte,Option.isNone_none,f2,hz2 X2]
          exact ⟨_,_,rfl,fR1 f2,_,cL,bad om X2 o2⟩
 clear hX
 cases hnw:numB w with
 | false =>
   rw [if_neg (by simp)]
   refine gS1 (aI @hnw (aI @g0 (aI @g2 (aI @g5 (aI @yu_t @yu_f))))) ?_
   refine (rdfail_ok (e:=12) h1).mono ?_
   rintro r ⟨Z2,rfl,X2,o2⟩
   simp (maxSteps:=8000000) (disch:=first|exact dS|fail) only [↓bD,bW,reduceMul,reduceEqDiff,reduceAdd,Nat.reduceBEq,reduceIte,Option.isNone_none,g2,hz2 X2,Tryz.results206]
   exact bad (e:=12) om X2 o2
 | true =>
   cases hr0:decide (rs=[]) with
   | true =>
     obtain rfl:=of_decide_eq_true hr0
     rw [if_pos (by rfl)]
     refine gS1 (aI @hnw (aI @g0 (aI @g2 (aI @g5 (aI @hr0 (aI @yu_t @yu_f)))))) ?_
     refine (rest2 hnw rfl (fR1 g0) (fR1 g2) (fR1 g4) (fR1 g5)).mono ?_
     rintro r ⟨fr',τ',rfl,b2,row,bz,hR⟩
     have hR':=hR
     obtain ⟨Z9,row9,e9,hq,-,hf9,-⟩:=hR'
     cases hq
     obtain ⟨y1,y2,y3,y4,y5,rfl⟩:=hf9.five
     have bzr:=row_of bz
     refine gS1 (aI @b2 (aI @bz (aI @bzr @Tryz.results206))) ?_
     exact hR
   | false =>
     have hrn:=of_decide_eq_false hr0
     have hpos:=List.length_pos_iff.2 hrn
     obtain ⟨c,hc⟩:=at_some (l:=rs) (k:=rs.length-1) om
     have q1:=sub_at1 hc
     have eL:((rs.length:Nat):Int)-1=((rs.length-1:Nat):Int):=om
     have h48:decide (((c.toNat:Nat):Int)=48)=decide (c=48):=u8_eq (n:=48) rfl
     have hsf:sufB rs=decide (c=48):=by
      obtain ⟨h3,h4⟩:=List.getElem?_eq_some_iff.1 hc
      unfold sufB
      rw [List.drop_eq_getElem_cons h3,h4,List.drop_eq_nil_of_le om]
      simp
     rw [hsf]
     cases c48:decide (c=48) with
     | true =>
       rw [if_neg (by simp)]
       refine gS1 (aI @hnw (aI @g0 (aI @g2 (aI @g5 (aI @hr0 (aI @eL (aI @q1 (aI @oneB_one (aI @h48 (aI @c48 (aI @yu_t @yu_f))))))))))) ?_
       refine (rdfail_ok (e:=12) h1).mono ?_
       rintro r ⟨Z2,rfl,X2,o2⟩
       simp (maxSteps:=8000000) (disch:=first|exact dS|fail) only [↓bD,bW,reduceMul,reduceEqDiff,reduceAdd,Nat.reduceBEq,reduceIte,Option.isNone_none,g2,hz2 X2,Tryz.results206]
       exact bad om X2 o2
     | false =>
       rw [if_pos (by simp)]
       refine gS1 (aI @hnw (aI @g0 (aI @g2 (aI @g5 (aI @hr0 (aI @eL (aI @q1 (aI @oneB_one (aI @h48 (aI @c48 (aI @yu_t @yu_f))))))))))) ?_
       refine (rest2 hnw (by rw [hsf];exact c48) (fR1 g0) (fR1 g2) (fR1 g4) (fR1 g5)).mono ?_
       rintro r ⟨fr',τ',rfl,b2,row,bz,hR⟩
       have hR':=hR
       obtain ⟨Z9,row9,e9,hq,-,hf9,-⟩:=hR'
       cases hq
       obtain ⟨y1,y2,y3,y4,y5,rfl⟩:=hf9.five
       have bzr:=row_of bz
       refine gS1 (aI @b2 (aI @bz (aI @bzr @Tryz.results206))) ?_
       rw [hr0] at hR
       exact hR
end
end Go.Proofs.T
