/- Decimals of a formula. -/
import Derived.Test.YtbcanmagihejhaaGreatDoorTF
set_option linter.unusedSimpArgs false
set_option linter.unusedVariables false
namespace Go.Proofs.T
open Go Go.Ab
open Nat (reduceMul reduceEqDiff reduceAdd)
set_option maxRecDepth 100000
def decN (n:Nat) (l:By):Nat:=l.foldl (fun n c=>10*n+(c.toNat+208) % 256) n
def numB3:By:=[110,117,109]
noncomputable def decS (toks:List Tok) (k p:Nat):Except Er Fx :=
 if (numB (cutS (tokA toks k).1).1&& !sufB (cutS (tokA toks k).1).2)=true then
  if (decide (valN (cutS (tokA toks k).1).1<=1000000000)&&decide ((cutS (tokA toks k).1).2.length<=6)&&(decide (valN (cutS (tokA toks k).1).1<1000000000)||decide ((cutS (tokA toks k).1).2=[])))=true then
   .ok (.mk numB3 (decN (valN (cutS (tokA toks k).1).1) (cutS (tokA toks k).1).2 / Nat.gcd (decN (valN (cutS (tokA toks k).1).1) (cutS (tokA toks k).1).2) (10 ^ (cutS (tokA toks k).1).2.length):Nat)
    (10 ^ (cutS (tokA toks k).1).2.length / Nat.gcd (decN (valN (cutS (tokA toks k).1).1) (cutS (tokA toks k).1).2) (10 ^ (cutS (tokA toks k).1).2.length):Nat) [] [],1,k+1,p+1)
  else .error ((tokA toks k).2,3)
 else .error ((tokA toks k).2,12)
theorem decN_succ {n:Nat}{l:By}{i:Nat}{c:UInt8}(h:l[i]? =some c):decN n (l.take (i+1))=10*decN n (l.take i)+(c.toNat+208) % 256:=by
 unfold decN
 rw [List.take_add_one,h,List.foldl_append];rfl
theorem decN_le {n:Nat}:∀ (l:By),decN n l+29<=(n+29)*10 ^ l.length:=by
 intro l
 unfold decN
 induction l generalizing n with
 | nil=>simp
 | cons c l ih =>
   have:=ih (n:=10*n+(c.toNat+208) % 256)
   rw [List.foldl_cons,List.length_cons,Nat.pow_succ]
   refine Nat.le_trans this ?_
   have hc:(c.toNat+208) % 256<256:=Nat.mod_lt _ om
   have h1:10*n+(c.toNat+208) % 256+29<=(n+29)*10:=om
   calc (10*n+(c.toNat+208) % 256+29)*10 ^ l.length<=((n+29)*10)*10 ^ l.length:=Nat.mul_le_mul_right _ h1
    _=(n+29)*(10 ^ l.length*10):=by rw [Nat.mul_assoc,Nat.mul_comm 10]
def ShortF (toks:List Tok):Prop:=∀ t∈toks,t.1.length<10000000
theorem cutS_len {t:By}:(cutS t).1.length<=t.length/\(cutS t).2.length<=t.length:=by
 unfold cutS
 split
 ·exact ⟨Nat.le_refl _,Nat.zero_le _⟩
 ·simp;omega
set_option maxHeartbeats 16000000 in
theorem decimal_ok {L:Nat->Prop}{b:Nat}{Z:St}{tv:Value}{toks:List Tok}{k p:Nat}(h:Sc Z b tv toks k [.int .i64 (p:Nat)]) (hends:Ends toks) (hsh:ShortF toks) (hp:p<1000000000) (hb:L b) (hL:∀ q,L q->q<Z.n) (hne:(tokA toks k).1≠[]) :
  Ev (go Tryz.prog HS (.fn 203) [.pointer (some ⟨b,0,none⟩),str (tokA toks k).1] Z) (FmP L Z b tv toks (decS toks k p)) ⟨⟩:=by
 have hbl:=h.lt
 have ht0:=tokA_at h.k
 have hs:=hsh _ (List.mem_of_getElem? ht0)
 have hcl:=cutS_len (t:=(tokA toks k).1)
 refine ev_go Tryz.func203 rfl rfl ?_
 refine gS ?_
 refine (cut_ok om).mono ?_
 rintro r ⟨ok,rfl⟩
 unfold decS
 generalize hw:(cutS (tokA toks k).1).1=w at *
 generalize hrr:(cutS (tokA toks k).1).2=rs at *
 refine gS ?_
 have hE1:Ext Z (Z.new [str [],.int .i64 0,.int .i64 0,str [],.slice none 0 0,.int .i64 0] (some 154)):= .new _ _
 refine (isnumber_ok om).mono ?_
 rintro r rfl
 have h1:=h.ext hE1
 cases hnb:numB w with
 | false =>
   refine gS ?_
   refine (need_ok h1 ht0).mono ?_
   rintro r (⟨hok,-⟩|⟨hok,Z3,rfl,hE3⟩)
   case inl=>cases hok
   refine gS ?_
   refine Must.intro (by kernel_rfl) ?_
   refine gS ?_
   rw [if_neg (by simp)]
   exact ⟨_,rfl,.of (hE1.trans hE3)⟩
 | true =>
   refine gS ?_
   refine (suffix_ok om).mono ?_
   rintro r rfl
   refine gS ?_
   refine (need_ok h1 ht0).mono ?_
   rintro r (⟨hok,rfl⟩|⟨hok,Z3,rfl,hE3⟩)
   case inr =>
    refine gS ?_
    refine Must.intro (by kernel_rfl) ?_
    refine gS ?_
    rw [hok,if_neg (by simp)]
    exact ⟨_,rfl,.of (hE1.trans hE3)⟩
   rw [hok,if_pos (by simp)]
   refine gS ?_
   refine (tnumber_ok (numB_all hnb).1 (numB_all hnb).2.1 om).mono ?_
   rintro r ⟨Z2,n1,rfl,hE2,hn1⟩
   have h2:=h1.ext hE2
   have hE12:=hE1.trans hE2
   have hn2:=hE2.n
   simp at hn2
   have z2:Z2.orow Z.n=some [str [],.int .i64 0,.int .i64 0,str [],.slice none 0 0,.int .i64 0]:=by rw [orow_congr (hE2.same _ (by simp))];exact cL
   generalize hnn:valN w=n at *
   have e9:decide (((n:Nat):Int)<1000000000)=decide (n<1000000000):=by rw [Bool.eq_iff_iff,decide_eq_true_iff,decide_eq_true_iff];omega
   have e6:decide ((6:Int)<((rs.length:Nat):Int))=decide (6<rs.length):=by rw [Bool.eq_iff_iff,decide_eq_true_iff,decide_eq_true_iff];omega
   have e6':decide (rs.length<=6)= !decide (6<rs.length):=by rw [Bool.eq_iff_iff];simp
   rw [e6']
   cases hv:decide (n<=1000000000) with
   | false =>
     refine gS1 (aI @e6 (aI @e9 (aI @yu_t @yu_f))) ?_
     refine (need_ok h2 ht0).mono ?_
     rintro r (⟨hok2,-⟩|⟨hok2,Z3,rfl,hE3⟩)
     case inl=>cases hok2
     refine gS ?_
     rw [if_neg (by simp)]
     exact ⟨_,rfl,.of (hE12.trans hE3)⟩
   | true =>
     have hq1:n=n1:=(hn1 (of_decide_eq_true hv)).symm
     subst hq1
     cases hl:decide (6<rs.length) with
     | true =>
       refine gS1 (aI @e6 (aI @hl (aI @e9 (aI @yu_t @yu_f)))) ?_
       refine (need_ok h2 ht0).mono ?_
       rintro r (⟨hok2,-⟩|⟨hok2,Z3,rfl,hE3⟩)
       case inl=>cases hok2
       refine gS ?_
       rw [if_neg (by simp)]
       exact ⟨_,rfl,.of (hE12.trans hE3)⟩
     | false =>
       cases hn9:decide (n<1000000000) with
       | false =>
         cases hr0:decide (rs=[]) with
         | false =>
           refine gS1 (aI @e6 (aI @hl (aI @e9 (aI @hn9 (aI @hr0 (aI @yu_t @yu_f)))))) ?_
           refine (need_ok h2 ht0).mono ?_
           rintro r (⟨hok2,-⟩|⟨hok2,Z3,rfl,hE3⟩)
           case inl=>cases hok2
           refine gS ?_
           rw [if_neg (by simp)]
           exact ⟨_,rfl,.of (hE12.trans hE3)⟩
         | true =>
           refine gS1 (aI @e6 (aI @hl (aI @e9 (aI @hn9 (aI @hr0 (aI @yu_t @yu_f)))))) ?_
           refine (need_ok h2 ht0).mono ?_
           rintro r (⟨hok2,rfl⟩|⟨hok2,-⟩)
           case inr=>cases hok2
           rw [if_pos (by rfl)]
           have hcond:n<=1000000000:=of_decide_eq_true hv
           have hlen6:rs.length<=6:=by have:=of_decide_eq_false hl;omega
           have hE3:Ext Z (Z2.new (bytesV rs)):=hE12.new' _
           have hblen:(bytesV rs).length=rs.length:=by unfold bytesV;simp
           refine gS1 (aI @e6 (aI @hl @hblen)) ?_
           refine ev_count rs.length (fun i fr Z'=>fr.get 0=some (.pointer (some ⟨b,0,none⟩))/\fr.get 4=some (.pointer (some ⟨Z.n,0,none⟩))/\fr.get 56=some (.slice (some ⟨Z2.n,0,some 1⟩) rs.length rs.length)/\fr.get 57=some (.int .i64 (rs.length:Nat))/\fr.get 58=some (.int .i64 (i:Nat)) /\
             fr.get 8=some (.int .i64 (decN n (rs.take i):Nat))/\fr.get 10=some (.int .i64 (10 ^ i:Nat))/\Z'=Z2.new (bytesV rs))
            (fun r=>∃ fr,r=⟨.exit 0,fr,Z2.new (bytesV rs)⟩/\fr.get 0=some (.pointer (some ⟨b,0,none⟩))/\fr.get 4=some (.pointer (some ⟨Z.n,0,none⟩))/\fr.get 8=some (.int .i64 (decN n rs:Nat))/\fr.get 10=some (.int .i64 (10 ^ rs.length:Nat))) ?_ ?_ ?_ ?_
           ·exact ⟨fR,fR,fR,fR,fR,fR,fR,rfl⟩
           ·rintro i fr Z' hi ⟨g0,g4,g56,g57,g58,g8,g10,rfl⟩
            obtain ⟨c,hc⟩:=at_some hi
            have hcs:sub (bytesV rs) i 1=some [.int .u8 (c.toNat:Nat)]:=by unfold bytesV;exact sub_at1 (by rw [List.getElem?_map,hc];rfl)
            have ed:decide (((i:Nat):Int)<((rs.length:Nat):Int))=true:=by rw [decide_eq_true_iff];omega
            have ed2:decide (i<rs.length)=true:=decide_eq_true hi
            have ew:IntKind.u8.wrap (((c.toNat:Nat):Int)-48)=(((c.toNat+208) % 256:Nat):Int):=by rw [wrap_u8];omega
            have ewF:wrapF .u8 (((c.toNat:Nat):Int)-48)=(((c.toNat+208) % 256:Nat):Int):=by rw [wrapF_eq];exact ew
            have hm:(c.toNat+208) % 256<256:=Nat.mod_lt _ om
            have ew2:IntKind.i64.wrap (((c.toNat+208) % 256:Nat):Int)=(((c.toNat+208) % 256:Nat):Int):=wrap64_in om om
            have hd1:=decN_le (n:=n) (rs.take i)
            have hlt:(rs.take i).length=i:=by rw [List.length_take];omega
            rw [hlt] at hd1
            have hp1:10 ^ i<=10 ^ 5:=Nat.pow_le_pow_right om om
            have hp2:(n+29)*10 ^ i<=(1000000000+29)*10 ^ 5:=Nat.mul_le_mul om hp1
            have hs2:=decN_succ (n:=n) hc
            generalize decN n (rs.take i)=q at *
            generalize ht10:10 ^ i=t10 at *
            have e10:(10:Int)*((q:Nat):Int)=((10*q:Nat):Int):=om
            have e11:((10*q:Nat):Int)+(((c.toNat+208) % 256:Nat):Int)=((10*q+(c.toNat+208) % 256:Nat):Int):=om
            have e12:(10:Int)*((t10:Nat):Int)=((10*t10:Nat):Int):=om
            have e13:((i:Nat):Int)+1=((i+1:Nat):Int):=om
            have e14:10 ^ (i+1)=10*t10:=by rw [Nat.pow_succ,ht10,Nat.mul_comm]
            refine gS1 (aI @g0 (aI @g4 (aI @g56 (aI @g57 (aI @g58 (aI @g8 (aI @g10 (aI @ed (aI @ed2 (aI @hcs (aI @ew (aI @ewF (aI @ew2 (aI @e10 (aI @e11 (aI @e12 (aI @e13 @Nat.mul_one))))))))))))))))) ?_
            exact ⟨fR1 g0,fR1 g4,fR1 g56,fR1 g57,fR,by rw [hs2],by rw [e14],by trivial⟩
           ·rintro fr Z' ⟨g0,g4,g56,g57,g58,g8,g10,rfl⟩
            have ed:decide (((rs.length:Nat):Int)<((rs.length:Nat):Int))=false:=by simp
            have ed2:decide (rs.length<rs.length)=false:=by simp
            rw [List.take_length] at g8
            refine gS1 (aI @g57 (aI @g58 (aI @ed @ed2))) ?_
            exact ⟨_,rfl,by rw [Tr.get_set_ne _ _ om];exact g0,by rw [Tr.get_set_ne _ _ om];exact g4,by rw [Tr.get_set_ne _ _ om];exact g8,by rw [Tr.get_set_ne _ _ om];exact g10⟩
           rintro r ⟨fr,rfl,g0,g4,g8,g10⟩
           have hd1:=decN_le (n:=n) rs
           have hp1:10 ^ rs.length<=10 ^ 6:=Nat.pow_le_pow_right om hlen6
           have hp0:0<10 ^ rs.length:=Nat.pow_pos om
           have hp2:(n+29)*10 ^ rs.length<=(1000000000+29)*10 ^ 6:=Nat.mul_le_mul om hp1
           refine gS1 (aI @g0 (aI @g4 (aI @g8 @g10))) ?_
           refine (make_ok om om hp0).mono ?_
           rintro r ⟨Z5,rfl,hE5⟩
           have hn5:=hE5.n
           simp at hn5
           have hE5':=hE3.trans hE5
           have hE5'':Ext Z ((Z5.new [.int .i64 0,.int .i64 0] (some 32)).upd Z5.n [.int .i64 (decN n rs / Nat.gcd (decN n rs) (10 ^ rs.length):Nat),.int .i64 (10 ^ rs.length / Nat.gcd (decN n rs) (10 ^ rs.length):Nat)]):=(hE5'.new' _).upd om _
           refine gS1 @g0 ?_
           have h5:=h.ext hE5''
           refine (take_ok h5 ht0).mono ?_
           rintro r ⟨Z6,rfl,hE6,q6⟩
           have h6:=h5.extX hE6 q6 (hends k _ ht0 hne)
           have hn6:=hE6.n
           simp at hn6
           have r6:Z6.row Z5.n=some [.int .i64 (decN n rs / Nat.gcd (decN n rs) (10 ^ rs.length):Nat),.int .i64 (10 ^ rs.length / Nat.gcd (decN n rs) (10 ^ rs.length):Nat)]:=by rw [hE6.row (by simp) om];exact row_of orow_upd_same
           refine gS1 (aI @g0 (aI @g4 @r6)) ?_
           have hz6:Z6.orow Z.n=some [str [],.int .i64 0,.int .i64 0,str [],.slice none 0 0,.int .i64 0]:=by
            rw [hE6.orow (by simp;omega) om,orow_upd_ne om,orow_new_ne om,orow_congr (hE5.same _ (by simp;omega)),orow_new_ne om];exact z2
           refine (leaf_ok h6 hp (L:=fun q=>L q\/q=Z.n) (row:=[str numB3,.int .i64 (decN n rs / Nat.gcd (decN n rs) (10 ^ rs.length):Nat),.int .i64 (10 ^ rs.length / Nat.gcd (decN n rs) (10 ^ rs.length):Nat),str [],.slice none 0 0])
            (e:= .mk numB3 (decN n rs / Nat.gcd (decN n rs) (10 ^ rs.length):Nat) (10 ^ rs.length / Nat.gcd (decN n rs) (10 ^ rs.length):Nat) [] []) (fun H hH=>⟨_,[],rfl,.inl ⟨rfl,rfl⟩,by simp,rfl⟩) (.inl hb)).mono ?_
           rintro r ⟨Z7,row7,rfl,hE7,q7,hk7,hf7⟩
           obtain ⟨v1,v2,v3,v4,v5,rfl⟩:=hf7.five
           have hn7:=hE7.n
           have hz7:Z7.orow Z.n=some [str [],.int .i64 0,.int .i64 0,str [],.slice none 0 0,.int .i64 0]:=by rw [hE7.orow om om];exact hz6
           refine gS1 (aI @g4 (aI @hz7 @Tryz.results203)) ?_
           exact ⟨_,[v1,v2,v3,v4,v5],rfl,(((ExtX.of hE5'').trans hE6).trans hE7).updF (Nat.le_refl _) _,by rw [orow_upd_ne om];exact q7,hk7,(hf7.extX (b:=Z.n) (ExtX.upd .refl _) (.inr rfl)).weak fun q hq=> .inl hq⟩
       | true =>
         refine gS1 (aI @e6 (aI @hl (aI @e9 (aI @hn9 (aI @yu_t @yu_f))))) ?_
         refine (need_ok h2 ht0).mono ?_
         rintro r (⟨hok2,rfl⟩|⟨hok2,-⟩)
         case inr=>cases hok2
         rw [if_pos (by rfl)]
         have hcond:n<=1000000000:=of_decide_eq_true hv
         have hlen6:rs.length<=6:=by have:=of_decide_eq_false hl;omega
         have hE3:Ext Z (Z2.new (bytesV rs)):=hE12.new' _
         have hblen:(bytesV rs).length=rs.length:=by unfold bytesV;simp
         refine gS1 (aI @e6 (aI @hl @hblen)) ?_
         refine ev_count rs.length (fun i fr Z'=>fr.get 0=some (.pointer (some ⟨b,0,none⟩))/\fr.get 4=some (.pointer (some ⟨Z.n,0,none⟩))/\fr.get 56=some (.slice (some ⟨Z2.n,0,some 1⟩) rs.length rs.length)/\fr.get 57=some (.int .i64 (rs.length:Nat))/\fr.get 58=some (.int .i64 (i:Nat)) /\
           fr.get 8=some (.int .i64 (decN n (rs.take i):Nat))/\fr.get 10=some (.int .i64 (10 ^ i:Nat))/\Z'=Z2.new (bytesV rs))
          (fun r=>∃ fr,r=⟨.exit 0,fr,Z2.new (bytesV rs)⟩/\fr.get 0=some (.pointer (some ⟨b,0,none⟩))/\fr.get 4=some (.pointer (some ⟨Z.n,0,none⟩))/\fr.get 8=some (.int .i64 (decN n rs:Nat))/\fr.get 10=some (.int .i64 (10 ^ rs.length:Nat))) ?_ ?_ ?_ ?_
         ·exact ⟨fR,fR,fR,fR,fR,fR,fR,rfl⟩
         ·rintro i fr Z' hi ⟨g0,g4,g56,g57,g58,g8,g10,rfl⟩
          obtain ⟨c,hc⟩:=at_some hi
          have hcs:sub (bytesV rs) i 1=some [.int .u8 (c.toNat:Nat)]:=by unfold bytesV;exact sub_at1 (by rw [List.getElem?_map,hc];rfl)
          have ed:decide (((i:Nat):Int)<((rs.length:Nat):Int))=true:=by rw [decide_eq_true_iff];omega
          have ed2:decide (i<rs.length)=true:=decide_eq_true hi
          have ew:IntKind.u8.wrap (((c.toNat:Nat):Int)-48)=(((c.toNat+208) % 256:Nat):Int):=by rw [wrap_u8];omega
          have ewF:wrapF .u8 (((c.toNat:Nat):Int)-48)=(((c.toNat+208) % 256:Nat):Int):=by rw [wrapF_eq];exact ew
          have hm:(c.toNat+208) % 256<256:=Nat.mod_lt _ om
          have ew2:IntKind.i64.wrap (((c.toNat+208) % 256:Nat):Int)=(((c.toNat+208) % 256:Nat):Int):=wrap64_in om om
          have hd1:=decN_le (n:=n) (rs.take i)
          have hlt:(rs.take i).length=i:=by rw [List.length_take];omega
          rw [hlt] at hd1
          have hp1:10 ^ i<=10 ^ 5:=Nat.pow_le_pow_right om om
          have hp2:(n+29)*10 ^ i<=(1000000000+29)*10 ^ 5:=Nat.mul_le_mul om hp1
          have hs2:=decN_succ (n:=n) hc
          generalize decN n (rs.take i)=q at *
          generalize ht10:10 ^ i=t10 at *
          have e10:(10:Int)*((q:Nat):Int)=((10*q:Nat):Int):=om
          have e11:((10*q:Nat):Int)+(((c.toNat+208) % 256:Nat):Int)=((10*q+(c.toNat+208) % 256:Nat):Int):=om
          have e12:(10:Int)*((t10:Nat):Int)=((10*t10:Nat):Int):=om
          have e13:((i:Nat):Int)+1=((i+1:Nat):Int):=om
          have e14:10 ^ (i+1)=10*t10:=by rw [Nat.pow_succ,ht10,Nat.mul_comm]
          refine gS1 (aI @g0 (aI @g4 (aI @g56 (aI @g57 (aI @g58 (aI @g8 (aI @g10 (aI @ed (aI @ed2 (aI @hcs (aI @ew (aI @ewF (aI @ew2 (aI @e10 (aI @e11 (aI @e12 (aI @e13 @Nat.mul_one))))))))))))))))) ?_
          exact ⟨fR1 g0,fR1 g4,fR1 g56,fR1 g57,fR,by rw [hs2],by rw [e14],by trivial⟩
         ·rintro fr Z' ⟨g0,g4,g56,g57,g58,g8,g10,rfl⟩
          have ed:decide (((rs.length:Nat):Int)<((rs.length:Nat):Int))=false:=by simp
          have ed2:decide (rs.length<rs.length)=false:=by simp
          rw [List.take_length] at g8
          refine gS1 (aI @g57 (aI @g58 (aI @ed @ed2))) ?_
          exact ⟨_,rfl,by rw [Tr.get_set_ne _ _ om];exact g0,by rw [Tr.get_set_ne _ _ om];exact g4,by rw [Tr.get_set_ne _ _ om];exact g8,by rw [Tr.get_set_ne _ _ om];exact g10⟩
         rintro r ⟨fr,rfl,g0,g4,g8,g10⟩
         have hd1:=decN_le (n:=n) rs
         have hp1:10 ^ rs.length<=10 ^ 6:=Nat.pow_le_pow_right om hlen6
         have hp0:0<10 ^ rs.length:=Nat.pow_pos om
         have hp2:(n+29)*10 ^ rs.length<=(1000000000+29)*10 ^ 6:=Nat.mul_le_mul om hp1
         refine gS1 (aI @g0 (aI @g4 (aI @g8 @g10))) ?_
         refine (make_ok om om hp0).mono ?_
         rintro r ⟨Z5,rfl,hE5⟩
         have hn5:=hE5.n
         simp at hn5
         have hE5':=hE3.trans hE5
         have hE5'':Ext Z ((Z5.new [.int .i64 0,.int .i64 0] (some 32)).upd Z5.n [.int .i64 (decN n rs / Nat.gcd (decN n rs) (10 ^ rs.length):Nat),.int .i64 (10 ^ rs.length / Nat.gcd (decN n rs) (10 ^ rs.length):Nat)]):=(hE5'.new' _).upd om _
         refine gS1 @g0 ?_
         have h5:=h.ext hE5''
         refine (take_ok h5 ht0).mono ?_
         rintro r ⟨Z6,rfl,hE6,q6⟩
         have h6:=h5.extX hE6 q6 (hends k _ ht0 hne)
         have hn6:=hE6.n
         simp at hn6
         have r6:Z6.row Z5.n=some [.int .i64 (decN n rs / Nat.gcd (decN n rs) (10 ^ rs.length):Nat),.int .i64 (10 ^ rs.length / Nat.gcd (decN n rs) (10 ^ rs.length):Nat)]:=by rw [hE6.row (by simp) om];exact row_of orow_upd_same
         refine gS1 (aI @g0 (aI @g4 @r6)) ?_
         have hz6:Z6.orow Z.n=some [str [],.int .i64 0,.int .i64 0,str [],.slice none 0 0,.int .i64 0]:=by
          rw [hE6.orow (by simp;omega) om,orow_upd_ne om,orow_new_ne om,orow_congr (hE5.same _ (by simp;omega)),orow_new_ne om];exact z2
         refine (leaf_ok h6 hp (L:=fun q=>L q\/q=Z.n) (row:=[str numB3,.int .i64 (decN n rs / Nat.gcd (decN n rs) (10 ^ rs.length):Nat),.int .i64 (10 ^ rs.length / Nat.gcd (decN n rs) (10 ^ rs.length):Nat),str [],.slice none 0 0])
          (e:= .mk numB3 (decN n rs / Nat.gcd (decN n rs) (10 ^ rs.length):Nat) (10 ^ rs.length / Nat.gcd (decN n rs) (10 ^ rs.length):Nat) [] []) (fun H hH=>⟨_,[],rfl,.inl ⟨rfl,rfl⟩,by simp,rfl⟩) (.inl hb)).mono ?_
         rintro r ⟨Z7,row7,rfl,hE7,q7,hk7,hf7⟩
         obtain ⟨v1,v2,v3,v4,v5,rfl⟩:=hf7.five
         have hn7:=hE7.n
         have hz7:Z7.orow Z.n=some [str [],.int .i64 0,.int .i64 0,str [],.slice none 0 0,.int .i64 0]:=by rw [hE7.orow om om];exact hz6
         refine gS1 (aI @g4 (aI @hz7 @Tryz.results203)) ?_
         exact ⟨_,[v1,v2,v3,v4,v5],rfl,(((ExtX.of hE5'').trans hE6).trans hE7).updF (Nat.le_refl _) _,by rw [orow_upd_ne om];exact q7,hk7,(hf7.extX (b:=Z.n) (ExtX.upd .refl _) (.inr rfl)).weak fun q hq=> .inl hq⟩
end Go.Proofs.T
namespace Go.Proofs.T
open Go Go.Ab
open Nat (reduceMul reduceEqDiff reduceAdd)
set_option maxRecDepth 100000
def minB:By:=[109,105,110]
def maxB:By:=[109,97,120]
def nmB:By:=[110,97,109,101]
def skipS (toks:List Tok) (w:By) (k:Nat):Except Er Nat:=if (tokA toks k).1=w then .ok (k+1) else .error ((tokA toks k).2,12)
noncomputable def facS (F:Nat->Nat->Except Er Fx) (toks:List Tok) (k p:Nat):Except Er Fx :=
 if headB digB (tokA toks k).1=true then decS toks k p else
 if (tokA toks k).1=[40] then thenR (F (k+1) p) fun (e,d,k,p)=>thenR (skipS toks [41] k) fun k=> .ok (e,d,k,p) else
 if (decide ((tokA toks k).1=minB)||decide ((tokA toks k).1=maxB))=true then
  thenR (skipS toks [40] (k+1)) fun k1=>thenR (F k1 p) fun (e,d,k2,p2)=>thenR (skipS toks [44] k2) fun k3=>thenR (F k3 p2) fun (e',d',k4,p4)=>thenR (skipS toks [41] k4) fun k5 =>
   .ok (.mk (tokA toks k).1 0 0 [] [e,e'],1+max d d',k5,p4+1) else
 if nameB (tokA toks k).1=true then .ok (.mk nmB 0 0 (tokA toks k).1 [],1,k+1,p+1) else .error ((tokA toks k).2,12)
noncomputable def fmlF (toks:List Tok):Nat->Nat->Nat->Except Er Fx
 | 0,_,_=> .error (0,0)
 | f+1,k,p=>chainS (fun k p=>chainS (facS (fmlF toks f) toks) [42,47] toks k p) [43,45] toks k p
theorem thenR_some {α β:Type}{x:Except Er α}{f:α->Except Er β}{b:β}(h:thenR x f= .ok b):∃ a,x= .ok a/\f a= .ok b:=by
 cases x with
 | error e=>cases h
 | ok a=>exact ⟨a,rfl,h⟩
theorem skipS_ok {toks:List Tok}{w:By}{k k':Nat}(h:skipS toks w k= .ok k'):k'=k+1:=by
 unfold skipS at h
 split at h <;> cases h
 rfl
theorem facS_bd {F:Nat->Nat->Except Er Fx}{toks:List Tok}(hF:∀ k p,Bd k p (F k p)) (k p:Nat):Bd k p (facS F toks k p):=by
 intro e d k' p' h
 unfold facS at h
 split at h
 ·unfold decS at h
  split at h
  ·split at h
   ·cases h;omega
   ·cases h
  ·cases h
 ·split at h
  ·obtain ⟨⟨e1,d1,k1,p1⟩,h1,h2⟩:=thenR_some h
   obtain ⟨k2,h3,h4⟩:=thenR_some h2
   have:=hF _ _ _ _ _ _ h1
   have:=skipS_ok h3
   cases h4;omega
  ·split at h
   ·obtain ⟨k1,h1,h⟩:=thenR_some h
    obtain ⟨⟨e2,d2,k2,p2⟩,h2,h⟩:=thenR_some h
    obtain ⟨k3,h3,h⟩:=thenR_some h
    obtain ⟨⟨e4,d4,k4,p4⟩,h4,h⟩:=thenR_some h
    obtain ⟨k5,h5,h⟩:=thenR_some h
    have:=skipS_ok h1
    have:=hF _ _ _ _ _ _ h2
    have:=skipS_ok h3
    have:=hF _ _ _ _ _ _ h4
    have:=skipS_ok h5
    cases h;omega
   ·split at h
    ·cases h;omega
    ·cases h
theorem chainF_bd {A:Nat->Nat->Except Er Fx}{ops:By}{toks:List Tok}(hA:∀ k p,Bd k p (A k p)):∀ (f:Nat) (e0:Ex) (d0 k0 p0 k p:Nat),k<k0->p0<=p+(k0-k)->d0<=k0-k->Bd k p (chainF A ops toks f (e0,d0,k0,p0)):=by
 intro f
 induction f with
 | zero=>intro e0 d0 k0 p0 k p h1 h2 h3 e d k' p' h;cases h;omega
 | succ f ih =>
   intro e0 d0 k0 p0 k p h1 h2 h3 e d k' p' h
   rw [chainF_succ] at h
   split at h
   ·obtain ⟨⟨e1,d1,k1,p1⟩,h4,h5⟩:=thenR_some h
    have:=hA _ _ _ _ _ _ h4
    exact ih _ _ _ _ k p om om om _ _ _ _ h5
   ·cases h;omega
theorem chainS_bd {A:Nat->Nat->Except Er Fx}{ops:By}{toks:List Tok}(hA:∀ k p,Bd k p (A k p)) (k p:Nat):Bd k p (chainS A ops toks k p):=by
 intro e d k' p' h
 obtain ⟨⟨e1,d1,k1,p1⟩,h1,h2⟩:=thenR_some h
 have:=hA _ _ _ _ _ _ h1
 exact chainF_bd hA _ _ _ _ _ k p om om om _ _ _ _ h2
theorem fmlF_bd {toks:List Tok}:∀ f k p,Bd k p (fmlF toks f k p):=by
 intro f
 induction f with
 | zero=>intro k p e d k' p' h;cases h
 | succ f ih=>intro k p;exact chainS_bd (fun k p=>chainS_bd (fun k p=>facS_bd ih k p) k p) k p
theorem skipK {b:Nat}{Z:St}{tv:Value}{toks:List Tok}{k:Nat}{rest:List Value}{w:By}(h:Sc Z b tv toks k rest) (hends:Ends toks) (hw:w≠[]) :
  Ev (go Tryz.prog HS (.fn 204) [.pointer (some ⟨b,0,none⟩),str w] Z) (fun r=>match skipS toks w k with
   | .ok k'=>∃ Z',r=⟨false,.tuple ⟨[]⟩,Z'⟩/\ExtX b Z Z'/\Z'.orow b=some (tv:: .int .i64 (k':Nat)::rest)/\k'<toks.length
   | .error (p,e)=>∃ Z',r=⟨true,fault p e,Z'⟩/\ExtX b Z Z') ⟨⟩:=by
 refine (skip_ok h hends hw).mono fun r hr=>?_
 unfold skipS
 by_cases hq:(tokA toks k).1=w
 ·rw [if_pos hq] at hr ⊢;exact hr
 ·rw [if_neg hq] at hr ⊢;exact hr
def zSx:List Value:=[str [],.int .i64 0,.int .i64 0,str [],.slice none 0 0,.int .i64 0]
set_option maxHeartbeats 16000000 in
theorem factor_ok {L:Nat->Prop}{b:Nat}{Z:St}{tv:Value}{toks:List Tok}{k p:Nat}{F:Nat->Nat->Except Er Fx}(h:Sc Z b tv toks k [.int .i64 (p:Nat)]) (hends:Ends toks) (hsh:ShortF toks) (htl:toks.length<100000000) (hp:p<=k) (hb:L b) (hL:∀ q,L q->q<Z.n)
  (hF:∀ (M:Nat->Prop) (Z':St) (k' p':Nat),M b->(∀ q,M q->q<Z'.n)->k<k'->p'<=k'->Sc Z' b tv toks k' [.int .i64 (p':Nat)]->Ev (go Tryz.prog HS (.fn 84) [.pointer (some ⟨b,0,none⟩)] Z') (FmP M Z' b tv toks (F k' p')) ⟨⟩)
  (hB:∀ k' p',Bd k' p' (F k' p')) :
  Ev (go Tryz.prog HS (.fn 173) [.pointer (some ⟨b,0,none⟩)] Z) (FmP L Z b tv toks (facS F toks k p)) ⟨⟩:=by
 have hbl:=h.lt
 have hkl:=h.k
 have ht0:=tokA_at h.k
 have hs:=hsh _ (List.mem_of_getElem? ht0)
 refine ev_go Tryz.func173 rfl rfl ?_
 refine gS ?_
 have h1:=h.ext (Ext.new (t:=some 154) Z zSx)
 refine (peek_ok h1 ht0).mono ?_
 rintro r ⟨Z1,rfl,hE1⟩
 have h2:=h1.ext hE1
 have hE1':Ext Z Z1:=(Ext.new _ _).trans hE1
 have hn1:=hE1.n
 simp at hn1
 have z1:Z1.orow Z.n=some [str [],.int .i64 0,.int .i64 0,str [],.slice none 0 0,.int .i64 0]:=by rw [orow_congr (hE1.same _ (by simp))];exact cL
 have hM:∀ q,(L q\/q=Z.n)->q<Z1.n:=by rintro q (hq|rfl);have:=hL q hq;omega;omega
 unfold facS
 cases hw:(tokA toks k).1 with
 | nil =>
   have d0:decide (([]:By)=[])=true:=rfl
   have d1:decide (([]:By)=[40])=false:=rfl
   have d2:decide (([]:By)=[109,105,110])=false:=rfl
   have d3:decide (([]:By)=[109,97,120])=false:=rfl
   refine gS1 (aI @d0 (aI @d1 (aI @d2 (aI @d3 (aI @yu_t @yu_f))))) ?_
   refine (isname_ok (s:=[]) (by simp)).mono ?_
   rintro r rfl
   refine gS ?_
   refine (need_ok h2 ht0).mono ?_
   rintro r (⟨hok,-⟩|⟨hok,Z3,rfl,hE3⟩)
   case inl=>cases hok
   refine gS ?_
   refine Must.intro (by kernel_rfl) ?_
   refine gS ?_
   rw [if_neg (by simp [headB]),if_neg (by simp),if_neg (by decide),if_neg (by decide)]
   exact ⟨_,rfl,.of (hE1'.trans hE3)⟩
 | cons c s =>
   have d0:decide (c::s=([]:By))=false:=rfl
   have s1:sub (c::s) 0 1=some [c]:=sub_at1 rfl
   refine gS1 (aI @d0 (aI @s1 (aI @oneB_one (aI @yu_t @yu_f)))) ?_
   refine digit_ok.mono ?_
   rintro r rfl
   have hdn:digB ((c.toNat:Nat):Int)=headB digB (c::s):=rfl
   cases hdg:headB digB (c::s) with
   | true =>
     refine gS1 (aI @hdn @hdg) ?_
     rw [if_pos rfl,<- hw]
     refine (decimal_ok h2 hends hsh om (L:=fun q=>L q\/q=Z.n) (.inl hb) hM (by rw [hw];simp)).mono ?_
     intro r
     cases hR:decS toks k p with
     | error pe =>
       obtain ⟨at',e⟩:=pe
       rintro ⟨Z',rfl,hE⟩
       refine gS ?_
       exact ⟨_,rfl,(ExtX.of hE1').trans hE⟩
     | ok x =>
       obtain ⟨e,d,k',p'⟩:=x
       rintro ⟨Z',row,rfl,hE,q',hk',hf⟩
       obtain ⟨v1,v2,v3,v4,v5,rfl⟩:=hf.five
       have hn':=hE.n
       have z':Z'.orow Z.n=some [str [],.int .i64 0,.int .i64 0,str [],.slice none 0 0,.int .i64 0]:=by rw [hE.orow om om];exact z1
       refine gS1 (aI @z' @Tryz.results173) ?_
       exact ⟨_,[v1,v2,v3,v4,v5],rfl,((ExtX.of hE1').trans hE).updF (Nat.le_refl _) _,cL1 q',hk',(hf.extX (b:=Z.n) (ExtX.upd .refl _) (.inr rfl)).weak fun q hq=> .inl hq⟩
   | false =>
     refine gS1 (aI @hdn @hdg) ?_
     rw [if_neg (by simp)]
     have hpe:decide (c::s=[40])=decide ((tokA toks k).1=[40]):=by rw [hw]
     cases hpar:decide (c::s=[40]) with
     | true =>
       rw [if_pos (of_decide_eq_true hpar)]
       refine gS1 @hpar ?_
       refine (take_ok h2 ht0).mono ?_
       rintro r ⟨Z3,rfl,hE3,q3⟩
       have hk3:=hends k _ ht0 (by rw [hw];simp)
       have h3:=h2.extX hE3 q3 hk3
       have hn3:=hE3.n
       have z3:Z3.orow Z.n=some [str [],.int .i64 0,.int .i64 0,str [],.slice none 0 0,.int .i64 0]:=by rw [hE3.orow om om];exact z1
       refine gS ?_
       refine (hF (fun q=>L q\/q=Z.n) Z3 (k+1) p (.inl hb) (fun q hq=>by have:=hM q hq;omega) om om h3).mono ?_
       intro r
       cases hR:F (k+1) p with
       | error pe =>
         obtain ⟨at',e⟩:=pe
         rintro ⟨Z',rfl,hE⟩
         refine gS ?_
         rw [thenR_er]
         exact ⟨_,rfl,((ExtX.of hE1').trans hE3).trans hE⟩
       | ok x =>
         obtain ⟨e,d,k4,p4⟩:=x
         have hbd:=hB _ _ _ _ _ _ hR
         rintro ⟨Z4,row,rfl,hE4,q4,hk4,hf4⟩
         obtain ⟨v1,v2,v3,v4,v5,rfl⟩:=hf4.five
         rw [thenR_ok]
         try dsimp only
         have hn4:=hE4.n
         have z4:Z4.orow Z.n=some [str [],.int .i64 0,.int .i64 0,str [],.slice none 0 0,.int .i64 0]:=by rw [hE4.orow om om];exact z3
         refine gS ?_
         have hE5:ExtX b Z ((Z4.new [str [],.int .i64 0,.int .i64 0,str [],.slice none 0 0,.int .i64 0] (some 154)).upd Z4.n [v1,v2,v3,v4,v5,.int .i64 (d:Nat)]):=((((ExtX.of hE1').trans hE3).trans hE4).newF _).updF om _
         have h5:=h.extX hE5 (k':=k4) (rest':=[.int .i64 (p4:Nat)]) (cL1 q4) hk4
         refine (skipK h5 hends (w:=[41]) (by simp)).mono ?_
         intro r
         cases hR5:skipS toks [41] k4 with
         | error pe =>
           obtain ⟨at',e⟩:=pe
           rintro ⟨Z',rfl,hE⟩
           refine gS ?_
           rw [thenR_er]
           exact ⟨_,rfl,hE5.trans hE⟩
         | ok k6 =>
           rintro ⟨Z6,rfl,hE6,q6,hk6⟩
           rw [thenR_ok]
           have hn6:=hE6.n
           simp at hn6
           have r6:Z6.row Z4.n=some [v1,v2,v3,v4,v5,.int .i64 (d:Nat)]:=by rw [hE6.row (by simp) om];exact row_of orow_upd_same
           have z6:Z6.orow Z.n=some [str [],.int .i64 0,.int .i64 0,str [],.slice none 0 0,.int .i64 0]:=by rw [hE6.orow (by simp;omega) om,orow_upd_ne om,orow_new_ne om];exact z4
           have hf6:Fresh (fun q=>L q\/q=Z.n) Z6 [v1,v2,v3,v4,v5] e:=by
            refine Fresh.extX (b:=b) (hf4.more (L':=fun q=>L q\/q=Z.n) ⟨by simp,fun c hc=>?_⟩ fun q hq=> .inl hq) hE6 (.inl hb)
            rw [upd_get,if_neg om,new_get,if_neg om]
           refine gS1 (aI @r6 (aI @z6 @Tryz.results173)) ?_
           exact ⟨_,[v1,v2,v3,v4,v5],rfl,(hE5.trans hE6).updF (Nat.le_refl _) _,cL1 q6,hk6,(hf6.extX (b:=Z.n) (ExtX.upd .refl _) (.inr rfl)).weak fun q hq=> .inl hq⟩
     | false =>
       rw [if_neg (of_decide_eq_false hpar)]
       have hmi:decide (c::s=[109,105,110])=decide (c::s=minB):=rfl
       have hma:decide (c::s=[109,97,120])=decide (c::s=maxB):=rfl
       cases hmm:(decide (c::s=minB)||decide (c::s=maxB)) with
       | false =>
         rw [Bool.or_eq_false_iff] at hmm
         obtain ⟨m1,m2⟩:=hmm
         rw [if_neg (by simp)]
         refine gS1 (aI @hpar (aI @hmi (aI @hma (aI @m1 (aI @m2 (aI @yu_t @yu_f)))))) ?_
         refine (isname_ok (s:=c::s) (by rw [hw] at hs;omega)).mono ?_
         rintro r rfl
         refine gS ?_
         refine (need_ok h2 ht0).mono ?_
         rintro r (⟨hok,rfl⟩|⟨hok,Z3,rfl,hE3⟩)
         case inr =>
          refine gS ?_
          refine Must.intro (by kernel_rfl) ?_
          refine gS ?_
          rw [if_neg (by rw [hok];simp)]
          exact ⟨_,rfl,.of (hE1'.trans hE3)⟩
         rw [if_pos hok]
         refine gS ?_
         refine (take_ok h2 ht0).mono ?_
         rintro r ⟨Z3,rfl,hE3,q3⟩
         have hk3:=hends k _ ht0 (by rw [hw];simp)
         have h3:=h2.extX hE3 q3 hk3
         have hn3:=hE3.n
         have z3:Z3.orow Z.n=some [str [],.int .i64 0,.int .i64 0,str [],.slice none 0 0,.int .i64 0]:=by rw [hE3.orow om om];exact z1
         refine gS ?_
         refine (leaf_ok h3 om (L:=fun q=>L q\/q=Z.n) (row:=[str nmB,.int .i64 0,.int .i64 0,str (c::s),.slice none 0 0]) (e:= .mk nmB 0 0 (c::s) []) (fun H hH=>⟨_,[],rfl,.inl ⟨rfl,rfl⟩,by simp,rfl⟩) (.inl hb)).mono ?_
         rintro r ⟨Z7,row7,rfl,hE7,q7,hk7,hf7⟩
         obtain ⟨v1,v2,v3,v4,v5,rfl⟩:=hf7.five
         have hn7:=hE7.n
         have hz7:Z7.orow Z.n=some [str [],.int .i64 0,.int .i64 0,str [],.slice none 0 0,.int .i64 0]:=by rw [hE7.orow om om];exact z3
         refine gS1 (aI @hz7 @Tryz.results173) ?_
         exact ⟨_,[v1,v2,v3,v4,v5],rfl,(((ExtX.of hE1').trans hE3).trans hE7).updF (Nat.le_refl _) _,by rw [orow_upd_ne om];exact q7,hk7,(hf7.extX (b:=Z.n) (ExtX.upd .refl _) (.inr rfl)).weak fun q hq=> .inl hq⟩
       | true =>
         rw [if_pos rfl]
         have hmm2:(decide (c::s=minB)=true)\/(decide (c::s=minB)=false/\decide (c::s=maxB)=true):=by
          cases m1:decide (c::s=minB) with
          | true=>exact .inl rfl
          | false=>rw [m1] at hmm;exact .inr ⟨rfl,hmm⟩
         rcases hmm2 with m1|⟨m1,m2⟩
         ·refine gS1 (aI @hpar (aI @hmi (aI @hma (aI @m1 (aI @yu_t @yu_f))))) ?_
          refine (take_ok h2 ht0).mono ?_
          rintro r ⟨Z3,rfl,hE3,q3⟩
          have hk3:=hends k _ ht0 (by rw [hw];simp)
          have h3:=h2.extX hE3 q3 hk3
          have hn3:=hE3.n
          have z3:Z3.orow Z.n=some [str [],.int .i64 0,.int .i64 0,str [],.slice none 0 0,.int .i64 0]:=by rw [hE3.orow om om];exact z1
          have hE3':ExtX b Z Z3:=(ExtX.of hE1').trans hE3
          refine gS ?_
          refine (skipK h3 hends (w:=[40]) (by simp)).mono ?_
          intro r
          cases hR1:skipS toks [40] (k+1) with
          | error pe =>
            obtain ⟨at',e⟩:=pe
            rintro ⟨Z',rfl,hE⟩
            refine gS ?_
            rw [thenR_er]
            exact ⟨_,rfl,hE3'.trans hE⟩
          | ok k1 =>
          have hs1:=skipS_ok hR1
          rintro ⟨Z4,rfl,hE4,q4,hk4⟩
          rw [thenR_ok]
          try dsimp only
          have h4:=h3.extX hE4 q4 hk4
          have hE4':=hE3'.trans hE4
          have hn4:=hE4.n
          have z4:Z4.orow Z.n=some [str [],.int .i64 0,.int .i64 0,str [],.slice none 0 0,.int .i64 0]:=by rw [hE4.orow om om];exact z3
          refine gS ?_
          refine (hF (fun q=>L q\/q=Z.n) Z4 k1 p (.inl hb) (fun q hq=>by have:=hM q hq;omega) om om h4).mono ?_
          intro r
          cases hR2:F k1 p with
          | error pe =>
            obtain ⟨at',e⟩:=pe
            rintro ⟨Z',rfl,hE⟩
            refine gS ?_
            rw [thenR_er]
            exact ⟨_,rfl,hE4'.trans hE⟩
          | ok x =>
          obtain ⟨e,d,k2,p2⟩:=x
          have hbd:=hB _ _ _ _ _ _ hR2
          rintro ⟨Z5,row5,rfl,hE5,q5,hk5,hf5⟩
          obtain ⟨v1,v2,v3,v4,v5,rfl⟩:=hf5.five
          rw [thenR_ok]
          try dsimp only
          have hn5:=hE5.n
          have z5:Z5.orow Z.n=some [str [],.int .i64 0,.int .i64 0,str [],.slice none 0 0,.int .i64 0]:=by rw [hE5.orow om om];exact z4
          refine gS ?_
          have hE5':ExtX b Z ((Z5.new [str [],.int .i64 0,.int .i64 0,str [],.slice none 0 0,.int .i64 0] (some 154)).upd Z5.n [v1,v2,v3,v4,v5,.int .i64 (d:Nat)]):=((hE4'.trans hE5).newF _).updF om _
          have hEa:Ext Z5 ((Z5.new [str [],.int .i64 0,.int .i64 0,str [],.slice none 0 0,.int .i64 0] (some 154)).upd Z5.n [v1,v2,v3,v4,v5,.int .i64 (d:Nat)]):=(Ext.new _ _).upd (Nat.le_refl _) _
          have hfa:Fresh (fun q=>(L q\/q=Z.n)\/q=Z5.n) ((Z5.new [str [],.int .i64 0,.int .i64 0,str [],.slice none 0 0,.int .i64 0] (some 154)).upd Z5.n [v1,v2,v3,v4,v5,.int .i64 (d:Nat)]) [v1,v2,v3,v4,v5] e:=hf5.more hEa (by rintro q (hq|rfl);exact .inl hq;exact .inr (Nat.le_refl _))
          have h5:=h.extX hE5' (k':=k2) (rest':=[.int .i64 (p2:Nat)]) (cL1 q5) hk5
          refine (skipK h5 hends (w:=[44]) (by simp)).mono ?_
          intro r
          cases hR3:skipS toks [44] k2 with
          | error pe =>
            obtain ⟨at',e⟩:=pe
            rintro ⟨Z',rfl,hE⟩
            refine gS ?_
            rw [thenR_er]
            exact ⟨_,rfl,hE5'.trans hE⟩
          | ok k3 =>
          have hs3:=skipS_ok hR3
          rintro ⟨Z6,rfl,hE6,q6,hk6⟩
          rw [thenR_ok]
          try dsimp only
          have h6:=h5.extX hE6 q6 hk6
          have hE6':=hE5'.trans hE6
          have hn6:=hE6.n
          simp at hn6
          have hfb:=hfa.extX hE6 (.inl (.inl hb))
          have r6:Z6.orow Z5.n=some [v1,v2,v3,v4,v5,.int .i64 (d:Nat)]:=by rw [hE6.orow (by simp) om];exact orow_upd_same
          have z6:Z6.orow Z.n=some [str [],.int .i64 0,.int .i64 0,str [],.slice none 0 0,.int .i64 0]:=by rw [hE6.orow (by simp;omega) om,orow_upd_ne om,orow_new_ne om];exact z5
          refine gS ?_
          refine (hF (fun q=>(L q\/q=Z.n)\/q=Z5.n) Z6 k3 p2 (.inl (.inl hb)) (by rintro q (hq|rfl);have:=hM q hq;omega;omega) om om h6).mono ?_
          intro r
          cases hR4:F k3 p2 with
          | error pe =>
            obtain ⟨at',e⟩:=pe
            rintro ⟨Z',rfl,hE⟩
            refine gS ?_
            rw [thenR_er]
            exact ⟨_,rfl,hE6'.trans hE⟩
          | ok x =>
          obtain ⟨e',d',k4,p4⟩:=x
          have hbd2:=hB _ _ _ _ _ _ hR4
          rintro ⟨Z7,row7,rfl,hE7,q7,hk7,hf7⟩
          obtain ⟨w1,w2,w3,w4,w5,rfl⟩:=hf7.five
          rw [thenR_ok]
          try dsimp only
          have hn7:=hE7.n
          have hfc:=hfb.extX hE7 (.inl (.inl hb))
          have r7:Z7.orow Z5.n=some [v1,v2,v3,v4,v5,.int .i64 (d:Nat)]:=by rw [hE7.orow om om];exact r6
          have z7:Z7.orow Z.n=some [str [],.int .i64 0,.int .i64 0,str [],.slice none 0 0,.int .i64 0]:=by rw [hE7.orow om om];exact z6
          refine gS ?_
          have hE7':ExtX b Z ((Z7.new [str [],.int .i64 0,.int .i64 0,str [],.slice none 0 0,.int .i64 0] (some 154)).upd Z7.n [w1,w2,w3,w4,w5,.int .i64 (d':Nat)]):=((hE6'.trans hE7).newF _).updF om _
          have hEb:Ext Z7 ((Z7.new [str [],.int .i64 0,.int .i64 0,str [],.slice none 0 0,.int .i64 0] (some 154)).upd Z7.n [w1,w2,w3,w4,w5,.int .i64 (d':Nat)]):=(Ext.new _ _).upd (Nat.le_refl _) _
          have h7:=h.extX hE7' (k':=k4) (rest':=[.int .i64 (p4:Nat)]) (cL1 q7) hk7
          refine (skipK h7 hends (w:=[41]) (by simp)).mono ?_
          intro r
          cases hR5:skipS toks [41] k4 with
          | error pe =>
            obtain ⟨at',e⟩:=pe
            rintro ⟨Z',rfl,hE⟩
            refine gS ?_
            rw [thenR_er]
            exact ⟨_,rfl,hE7'.trans hE⟩
          | ok k5 =>
          have hs5:=skipS_ok hR5
          rintro ⟨Z8,rfl,hE8,q8,hk8⟩
          rw [thenR_ok]
          try dsimp only
          have h8:=h7.extX hE8 q8 hk8
          have hE8':=hE7'.trans hE8
          have hn8:=hE8.n
          simp at hn8
          have g1:=(hfc.more (L':=fun q=>((L q\/q=Z.n)\/q=Z5.n)\/q=Z7.n) hEb (by rintro q (hq|rfl);exact .inl hq;exact .inr (Nat.le_refl _))).extX hE8 (.inl (.inl (.inl hb)))
          have g2:=(hf7.more (L':=fun q=>((L q\/q=Z.n)\/q=Z5.n)\/q=Z7.n) hEb (by rintro q (hq|rfl);exact .inl hq;exact .inr (Nat.le_refl _))).extX hE8 (.inl (.inl (.inl hb)))
          have r8:Z8.row Z5.n=some [v1,v2,v3,v4,v5,.int .i64 (d:Nat)]:=by rw [hE8.row (by simp;omega) om];exact row_of (by rw [orow_upd_ne om,orow_new_ne om];exact r7)
          have r8':Z8.row Z7.n=some [w1,w2,w3,w4,w5,.int .i64 (d':Nat)]:=by rw [hE8.row (by simp) om];exact row_of orow_upd_same
          have z8:Z8.orow Z.n=some [str [],.int .i64 0,.int .i64 0,str [],.slice none 0 0,.int .i64 0]:=by rw [hE8.orow (by simp;omega) om,orow_upd_ne om,orow_new_ne om];exact z7
          refine gS1 (aI @r8 @r8') ?_
          refine (node_ok h8 (op:=c::s) (d:=d) (d':=d') om om om g1 g2 (.inl (.inl (.inl hb))) (by rintro q (((hq|rfl)|rfl)|rfl);have:=hL q hq;omega;omega;omega;omega)).mono ?_
          rintro r ⟨Z9,row9,rfl,hE9,q9,hk9,hf9⟩
          obtain ⟨y1,y2,y3,y4,y5,rfl⟩:=hf9.five
          have hn9:=hE9.n
          have z9:Z9.orow Z.n=some [str [],.int .i64 0,.int .i64 0,str [],.slice none 0 0,.int .i64 0]:=by rw [hE9.orow om om];exact z8
          refine gS1 (aI @z9 @Tryz.results173) ?_
          exact ⟨_,[y1,y2,y3,y4,y5],rfl,(hE8'.trans hE9).updF (Nat.le_refl _) _,by rw [orow_upd_ne om];exact q9,hk9,(hf9.extX (b:=Z.n) (ExtX.upd .refl _) (.inl (.inl (.inr rfl)))).weak fun q hq=> .inl (.inl (.inl hq))⟩
         ·refine gS1 (aI @hpar (aI @hmi (aI @hma (aI @m1 (aI @m2 (aI @yu_t @yu_f)))))) ?_
          refine (take_ok h2 ht0).mono ?_
          rintro r ⟨Z3,rfl,hE3,q3⟩
          have hk3:=hends k _ ht0 (by rw [hw];simp)
          have h3:=h2.extX hE3 q3 hk3
          have hn3:=hE3.n
          have z3:Z3.orow Z.n=some [str [],.int .i64 0,.int .i64 0,str [],.slice none 0 0,.int .i64 0]:=by rw [hE3.orow om om];exact z1
          have hE3':ExtX b Z Z3:=(ExtX.of hE1').trans hE3
          refine gS ?_
          refine (skipK h3 hends (w:=[40]) (by simp)).mono ?_
          intro r
          cases hR1:skipS toks [40] (k+1) with
          | error pe =>
            obtain ⟨at',e⟩:=pe
            rintro ⟨Z',rfl,hE⟩
            refine gS ?_
            rw [thenR_er]
            exact ⟨_,rfl,hE3'.trans hE⟩
          | ok k1 =>
          have hs1:=skipS_ok hR1
          rintro ⟨Z4,rfl,hE4,q4,hk4⟩
          rw [thenR_ok]
          try dsimp only
          have h4:=h3.extX hE4 q4 hk4
          have hE4':=hE3'.trans hE4
          have hn4:=hE4.n
          have z4:Z4.orow Z.n=some [str [],.int .i64 0,.int .i64 0,str [],.slice none 0 0,.int .i64 0]:=by rw [hE4.orow om om];exact z3
          refine gS ?_
          refine (hF (fun q=>L q\/q=Z.n) Z4 k1 p (.inl hb) (fun q hq=>by have:=hM q hq;omega) om om h4).mono ?_
          intro r
          cases hR2:F k1 p with
          | error pe =>
            obtain ⟨at',e⟩:=pe
            rintro ⟨Z',rfl,hE⟩
            refine gS ?_
            rw [thenR_er]
            exact ⟨_,rfl,hE4'.trans hE⟩
          | ok x =>
          obtain ⟨e,d,k2,p2⟩:=x
          have hbd:=hB _ _ _ _ _ _ hR2
          rintro ⟨Z5,row5,rfl,hE5,q5,hk5,hf5⟩
          obtain ⟨v1,v2,v3,v4,v5,rfl⟩:=hf5.five
          rw [thenR_ok]
          try dsimp only
          have hn5:=hE5.n
          have z5:Z5.orow Z.n=some [str [],.int .i64 0,.int .i64 0,str [],.slice none 0 0,.int .i64 0]:=by rw [hE5.orow om om];exact z4
          refine gS ?_
          have hE5':ExtX b Z ((Z5.new [str [],.int .i64 0,.int .i64 0,str [],.slice none 0 0,.int .i64 0] (some 154)).upd Z5.n [v1,v2,v3,v4,v5,.int .i64 (d:Nat)]):=((hE4'.trans hE5).newF _).updF om _
          have hEa:Ext Z5 ((Z5.new [str [],.int .i64 0,.int .i64 0,str [],.slice none 0 0,.int .i64 0] (some 154)).upd Z5.n [v1,v2,v3,v4,v5,.int .i64 (d:Nat)]):=(Ext.new _ _).upd (Nat.le_refl _) _
          have hfa:Fresh (fun q=>(L q\/q=Z.n)\/q=Z5.n) ((Z5.new [str [],.int .i64 0,.int .i64 0,str [],.slice none 0 0,.int .i64 0] (some 154)).upd Z5.n [v1,v2,v3,v4,v5,.int .i64 (d:Nat)]) [v1,v2,v3,v4,v5] e:=hf5.more hEa (by rintro q (hq|rfl);exact .inl hq;exact .inr (Nat.le_refl _))
          have h5:=h.extX hE5' (k':=k2) (rest':=[.int .i64 (p2:Nat)]) (cL1 q5) hk5
          refine (skipK h5 hends (w:=[44]) (by simp)).mono ?_
          intro r
          cases hR3:skipS toks [44] k2 with
          | error pe =>
            obtain ⟨at',e⟩:=pe
            rintro ⟨Z',rfl,hE⟩
            refine gS ?_
            rw [thenR_er]
            exact ⟨_,rfl,hE5'.trans hE⟩
          | ok k3 =>
          have hs3:=skipS_ok hR3
          rintro ⟨Z6,rfl,hE6,q6,hk6⟩
          rw [thenR_ok]
          try dsimp only
          have h6:=h5.extX hE6 q6 hk6
          have hE6':=hE5'.trans hE6
          have hn6:=hE6.n
          simp at hn6
          have hfb:=hfa.extX hE6 (.inl (.inl hb))
          have r6:Z6.orow Z5.n=some [v1,v2,v3,v4,v5,.int .i64 (d:Nat)]:=by rw [hE6.orow (by simp) om];exact orow_upd_same
          have z6:Z6.orow Z.n=some [str [],.int .i64 0,.int .i64 0,str [],.slice none 0 0,.int .i64 0]:=by rw [hE6.orow (by simp;omega) om,orow_upd_ne om,orow_new_ne om];exact z5
          refine gS ?_
          refine (hF (fun q=>(L q\/q=Z.n)\/q=Z5.n) Z6 k3 p2 (.inl (.inl hb)) (by rintro q (hq|rfl);have:=hM q hq;omega;omega) om om h6).mono ?_
          intro r
          cases hR4:F k3 p2 with
          | error pe =>
            obtain ⟨at',e⟩:=pe
            rintro ⟨Z',rfl,hE⟩
            refine gS ?_
            rw [thenR_er]
            exact ⟨_,rfl,hE6'.trans hE⟩
          | ok x =>
          obtain ⟨e',d',k4,p4⟩:=x
          have hbd2:=hB _ _ _ _ _ _ hR4
          rintro ⟨Z7,row7,rfl,hE7,q7,hk7,hf7⟩
          obtain ⟨w1,w2,w3,w4,w5,rfl⟩:=hf7.five
          rw [thenR_ok]
          try dsimp only
          have hn7:=hE7.n
          have hfc:=hfb.extX hE7 (.inl (.inl hb))
          have r7:Z7.orow Z5.n=some [v1,v2,v3,v4,v5,.int .i64 (d:Nat)]:=by rw [hE7.orow om om];exact r6
          have z7:Z7.orow Z.n=some [str [],.int .i64 0,.int .i64 0,str [],.slice none 0 0,.int .i64 0]:=by rw [hE7.orow om om];exact z6
          refine gS ?_
          have hE7':ExtX b Z ((Z7.new [str [],.int .i64 0,.int .i64 0,str [],.slice none 0 0,.int .i64 0] (some 154)).upd Z7.n [w1,w2,w3,w4,w5,.int .i64 (d':Nat)]):=((hE6'.trans hE7).newF _).updF om _
          have hEb:Ext Z7 ((Z7.new [str [],.int .i64 0,.int .i64 0,str [],.slice none 0 0,.int .i64 0] (some 154)).upd Z7.n [w1,w2,w3,w4,w5,.int .i64 (d':Nat)]):=(Ext.new _ _).upd (Nat.le_refl _) _
          have h7:=h.extX hE7' (k':=k4) (rest':=[.int .i64 (p4:Nat)]) (cL1 q7) hk7
          refine (skipK h7 hends (w:=[41]) (by simp)).mono ?_
          intro r
          cases hR5:skipS toks [41] k4 with
          | error pe =>
            obtain ⟨at',e⟩:=pe
            rintro ⟨Z',rfl,hE⟩
            refine gS ?_
            rw [thenR_er]
            exact ⟨_,rfl,hE7'.trans hE⟩
          | ok k5 =>
          have hs5:=skipS_ok hR5
          rintro ⟨Z8,rfl,hE8,q8,hk8⟩
          rw [thenR_ok]
          try dsimp only
          have h8:=h7.extX hE8 q8 hk8
          have hE8':=hE7'.trans hE8
          have hn8:=hE8.n
          simp at hn8
          have g1:=(hfc.more (L':=fun q=>((L q\/q=Z.n)\/q=Z5.n)\/q=Z7.n) hEb (by rintro q (hq|rfl);exact .inl hq;exact .inr (Nat.le_refl _))).extX hE8 (.inl (.inl (.inl hb)))
          have g2:=(hf7.more (L':=fun q=>((L q\/q=Z.n)\/q=Z5.n)\/q=Z7.n) hEb (by rintro q (hq|rfl);exact .inl hq;exact .inr (Nat.le_refl _))).extX hE8 (.inl (.inl (.inl hb)))
          have r8:Z8.row Z5.n=some [v1,v2,v3,v4,v5,.int .i64 (d:Nat)]:=by rw [hE8.row (by simp;omega) om];exact row_of (by rw [orow_upd_ne om,orow_new_ne om];exact r7)
          have r8':Z8.row Z7.n=some [w1,w2,w3,w4,w5,.int .i64 (d':Nat)]:=by rw [hE8.row (by simp) om];exact row_of orow_upd_same
          have z8:Z8.orow Z.n=some [str [],.int .i64 0,.int .i64 0,str [],.slice none 0 0,.int .i64 0]:=by rw [hE8.orow (by simp;omega) om,orow_upd_ne om,orow_new_ne om];exact z7
          refine gS1 (aI @r8 @r8') ?_
          refine (node_ok h8 (op:=c::s) (d:=d) (d':=d') om om om g1 g2 (.inl (.inl (.inl hb))) (by rintro q (((hq|rfl)|rfl)|rfl);have:=hL q hq;omega;omega;omega;omega)).mono ?_
          rintro r ⟨Z9,row9,rfl,hE9,q9,hk9,hf9⟩
          obtain ⟨y1,y2,y3,y4,y5,rfl⟩:=hf9.five
          have hn9:=hE9.n
          have z9:Z9.orow Z.n=some [str [],.int .i64 0,.int .i64 0,str [],.slice none 0 0,.int .i64 0]:=by rw [hE9.orow om om];exact z8
          refine gS1 (aI @z9 @Tryz.results173) ?_
          exact ⟨_,[y1,y2,y3,y4,y5],rfl,(hE8'.trans hE9).updF (Nat.le_refl _) _,by rw [orow_upd_ne om];exact q9,hk9,(hf9.extX (b:=Z.n) (ExtX.upd .refl _) (.inl (.inl (.inr rfl)))).weak fun q hq=> .inl (.inl (.inl hq))⟩
end Go.Proofs.T
namespace Go.Proofs.T
open Go Go.Ab
open Nat (reduceMul reduceEqDiff reduceAdd)
set_option maxRecDepth 100000
set_option maxHeartbeats 4000000 in
theorem term_ok {L:Nat->Prop}{b:Nat}{Z:St}{tv:Value}{toks:List Tok}{k p:Nat}{F:Nat->Nat->Except Er Fx}(h:Sc Z b tv toks k [.int .i64 (p:Nat)]) (hends:Ends toks) (hsh:ShortF toks) (htl:toks.length<100000000) (hp:p<=k) (hb:L b) (hL:∀ q,L q->q<Z.n)
  (hF:∀ (M:Nat->Prop) (Z':St) (k' p':Nat),M b->(∀ q,M q->q<Z'.n)->k<k'->p'<=k'->Sc Z' b tv toks k' [.int .i64 (p':Nat)]->Ev (go Tryz.prog HS (.fn 84) [.pointer (some ⟨b,0,none⟩)] Z') (FmP M Z' b tv toks (F k' p')) ⟨⟩)
  (hB:∀ k' p',Bd k' p' (F k' p')) :
  Ev (go Tryz.prog HS (.fn 133) [.pointer (some ⟨b,0,none⟩)] Z) (FmP L Z b tv toks (chainS (facS F toks) [42,47] toks k p)) ⟨⟩:=by
 have hbl:=h.lt
 refine ev_go Tryz.func133 rfl rfl ?_
 refine gS ?_
 have h1:=h.ext (Ext.new (t:=some 154) Z [str [],.int .i64 0,.int .i64 0,str [],.slice none 0 0,.int .i64 0])
 refine (chain_ok (L:=fun q=>L q\/q=Z.n) (A:=facS F toks) h1 hends htl hp (.inl hb) (by rintro q (hq|rfl);have:=hL q hq;simp;omega;simp)
  (fun M Z' k' p' m1 m2 m3 m4 m5=>factor_ok m5 hends hsh htl m4 m1 m2 (fun N Z2 k2 p2 n1 n2 n3 n4 n5=>hF N Z2 k2 p2 n1 n2 om n4 n5) hB) (fun k' p' _=>facS_bd hB k' p')).mono ?_
 intro r
 cases hR:chainS (facS F toks) [42,47] toks k p with
 | error pe =>
   obtain ⟨at',e⟩:=pe
   rintro ⟨Z',rfl,hE⟩
   refine gS ?_
   exact ⟨_,rfl,(ExtX.of (.new _ _)).trans hE⟩
 | ok x =>
   obtain ⟨e,d,k',p'⟩:=x
   rintro ⟨Z',row,rfl,hE,q',hk',hf⟩
   obtain ⟨v1,v2,v3,v4,v5,rfl⟩:=hf.five
   have hn':=hE.n
   simp at hn'
   have z':Z'.orow Z.n=some [str [],.int .i64 0,.int .i64 0,str [],.slice none 0 0,.int .i64 0]:=by rw [hE.orow (by simp) om];exact cL
   refine gS1 (aI @z' @Tryz.results133) ?_
   exact ⟨_,[v1,v2,v3,v4,v5],rfl,((ExtX.of (.new _ _)).trans hE).updF (Nat.le_refl _) _,cL1 q',hk',(hf.extX (b:=Z.n) (ExtX.upd .refl _) (.inr rfl)).weak fun q hq=> .inl hq⟩
set_option maxHeartbeats 4000000 in
theorem formula_ok {b:Nat}{tv:Value}{toks:List Tok}(hends:Ends toks) (hsh:ShortF toks) (htl:toks.length<100000000):∀ (f:Nat) (L:Nat->Prop) (Z:St) (k p:Nat),toks.length-k<=f->L b->(∀ q,L q->q<Z.n)->p<=k->Sc Z b tv toks k [.int .i64 (p:Nat)] ->
  Ev (go Tryz.prog HS (.fn 84) [.pointer (some ⟨b,0,none⟩)] Z) (FmP L Z b tv toks (fmlF toks f k p)) ⟨⟩:=by
 intro f
 induction f with
 | zero=>intro L Z k p hf hb hL hp h;have:=h.k;omega
 | succ f ih =>
   intro L Z k p hf hb hL hp h
   have hbl:=h.lt
   refine ev_go Tryz.func84 rfl rfl ?_
   refine gS ?_
   have h1:=h.ext (Ext.new (t:=some 154) Z [str [],.int .i64 0,.int .i64 0,str [],.slice none 0 0,.int .i64 0])
   have hB:=fmlF_bd (toks:=toks) f
   refine (chain_ok (L:=fun q=>L q\/q=Z.n) (A:=fun k p=>chainS (facS (fmlF toks f) toks) [42,47] toks k p) h1 hends htl hp (.inl hb) (by rintro q (hq|rfl);have:=hL q hq;simp;omega;simp)
    (fun M Z' k' p' m1 m2 m3 m4 m5=>term_ok m5 hends hsh htl m4 m1 m2 (fun N Z2 k2 p2 n1 n2 n3 n4 n5=>ih N Z2 k2 p2 om n1 n2 n4 n5) hB) (fun k' p' _=>chainS_bd (fun k p=>facS_bd hB k p) k' p')).mono ?_
   intro r
   show FmP _ _ b tv toks (fmlF toks (f+1) k p) r->_
   cases hR:fmlF toks (f+1) k p with
   | error pe =>
     obtain ⟨at',e⟩:=pe
     rintro ⟨Z',rfl,hE⟩
     refine gS ?_
     exact ⟨_,rfl,(ExtX.of (.new _ _)).trans hE⟩
   | ok x =>
     obtain ⟨e,d,k',p'⟩:=x
     rintro ⟨Z',row,rfl,hE,q',hk',hf⟩
     obtain ⟨v1,v2,v3,v4,v5,rfl⟩:=hf.five
     have hn':=hE.n
     simp at hn'
     have z':Z'.orow Z.n=some [str [],.int .i64 0,.int .i64 0,str [],.slice none 0 0,.int .i64 0]:=by rw [hE.orow (by simp) om];exact cL
     refine gS1 (aI @z' @Tryz.results84) ?_
     exact ⟨_,[v1,v2,v3,v4,v5],rfl,((ExtX.of (.new _ _)).trans hE).updF (Nat.le_refl _) _,cL1 q',hk',(hf.extX (b:=Z.n) (ExtX.upd .refl _) (.inr rfl)).weak fun q hq=> .inl hq⟩
end Go.Proofs.T
namespace Go.Proofs.T
open Go Go.Ab
open Nat (reduceMul reduceEqDiff reduceAdd)
set_option maxRecDepth 100000
noncomputable def readS (toks:List Tok):Except Er Ex:=thenR (fmlF toks toks.length 0 0) fun (e,d,k,p) =>
 if (tokA toks k).1=[] then if (decide (60<p)||decide (12<d))=true then .error ((tokA toks 0).2,2) else .ok e else .error ((tokA toks k).2,12)
def RdP (Z:St) (R:Except Er Ex) (r:CR):Prop:=match R with
 | .ok e=>∃ Z' row,r=⟨false,.agg ⟨row⟩,Z'⟩/\Ext Z Z'/\Fresh (fun q=>q<Z.n) Z' row e
 | .error (p,e)=>∃ Z',r=⟨true,fault p e,Z'⟩/\Ext Z Z'
set_option maxHeartbeats 8000000 in
theorem read_ok {Z:St}{tv:Value}{toks:List Tok}(hsl:SL Z 2 tv (toks.map tokC)) (h0:0<toks.length) (hends:Ends toks) (hsh:ShortF toks) (htl:toks.length<100000000) :
  Ev (go Tryz.prog HS (.fn 51) [tv] Z) (RdP Z (readS toks)) ⟨⟩:=by
 obtain ⟨a,c,bb0,off,cells,rfl,y1,y2⟩:=SL.use hsl
 rw [List.length_map] at *
 obtain ⟨sp,rfl,y3,y4⟩:=y1 h0
 have ht0:=tokA_at h0
 have hk0:sub cells (off+0*2) 2=some [str (tokA toks 0).1,.int .i64 ((tokA toks 0).2:Nat)]:=y2 0 (tokC (tokA toks 0)) (by rw [List.getElem?_map,ht0];rfl)
 have hk1:sub cells (off+1) 1=some [.int .i64 ((tokA toks 0).2:Nat)]:=by
  have:=sub_in (i:=1) (m:=1) hk0 om
  rw [Nat.zero_mul,Nat.add_zero] at this
  exact this
 refine ev_go Tryz.func51 rfl rfl ?_
 refine gS ?_
 have hE1:Ext Z ((Z.new [str [],.int .i64 0,.int .i64 0,str [],.slice none 0 0] (some 35)).new [.slice (some ⟨bb0,off,sp⟩) toks.length c,.int .i64 0,.int .i64 0]):=(Ext.new _ _).trans (.new _ _)
 have h1:Sc ((Z.new [str [],.int .i64 0,.int .i64 0,str [],.slice none 0 0] (some 35)).new [.slice (some ⟨bb0,off,sp⟩) toks.length c,.int .i64 0,.int .i64 0]) (Z.n+1) (.slice (some ⟨bb0,off,sp⟩) toks.length c) toks 0 [.int .i64 (0:Nat)] :=
  ⟨cL,by simp,hsl.mono hE1,by show some bb0≠some (Z.n+1);intro e;cases e;omega,h0,om⟩
 refine (formula_ok hends hsh htl toks.length (fun q=>q<Z.n+2) _ 0 0 om (by show Z.n+1<Z.n+2;omega) (fun q hq=>by simp;exact hq) (Nat.le_refl _) h1).mono ?_
 intro r
 unfold readS
 cases hR:fmlF toks toks.length 0 0 with
 | error pe =>
   obtain ⟨p,e⟩:=pe
   rintro ⟨Z',rfl,hE⟩
   refine gS ?_
   rw [thenR_er]
   exact ⟨_,rfl,hE.ext hE1 om⟩
 | ok x =>
   obtain ⟨e,d,k,p⟩:=x
   have hbd:=fmlF_bd _ _ _ _ _ _ _ hR
   rintro ⟨Z2,row,rfl,hE2,q2,hk2,hf2⟩
   obtain ⟨v1,v2,v3,v4,v5,rfl⟩:=hf2.five
   rw [thenR_ok]
   try dsimp only
   have hn2:=hE2.n
   simp at hn2
   have hE2':Ext Z Z2:=hE2.ext hE1 om
   have z2:Z2.orow Z.n=some [str [],.int .i64 0,.int .i64 0,str [],.slice none 0 0]:=by rw [hE2.orow (by simp;omega) om];exact cL
   refine gS ?_
   have hE3:ExtX (Z.n+1) ((Z.new [str [],.int .i64 0,.int .i64 0,str [],.slice none 0 0] (some 35)).new [.slice (some ⟨bb0,off,sp⟩) toks.length c,.int .i64 0,.int .i64 0]) ((Z2.new [str [],.int .i64 0,.int .i64 0,str [],.slice none 0 0,.int .i64 0] (some 154)).upd Z2.n [v1,v2,v3,v4,v5,.int .i64 (d:Nat)]):=(hE2.newF _).updF (by simp;omega) _
   have h3:=h1.extX hE3 (k':=k) (rest':=[.int .i64 (p:Nat)]) (cL1 q2) hk2
   have ht3:=tokA_at hk2
   refine (peek_ok h3 ht3).mono ?_
   rintro r ⟨Z4,rfl,hE4⟩
   have h4:=h3.ext hE4
   have hn4:=hE4.n
   simp at hn4
   refine gS ?_
   refine (need_ok h4 ht3).mono ?_
   have hE4':Ext Z Z4:=(((hE2'.new' _).upd om _)).trans hE4
   rintro r (⟨hok,rfl⟩|⟨hok,Z5,rfl,hE5⟩)
   case inr =>
    refine gS ?_
    refine Must.intro (by kernel_rfl) ?_
    refine gS ?_
    rw [if_neg (of_decide_eq_false hok)]
    exact ⟨_,rfl,hE4'.trans hE5⟩
   rw [if_pos (of_decide_eq_true hok)]
   have r4:=row_of h4.row
   have r4':Z4.row Z2.n=some [v1,v2,v3,v4,v5,.int .i64 (d:Nat)]:=by rw [hE4.row (by simp)];exact row_of orow_upd_same
   have z4:Z4.orow Z.n=some [str [],.int .i64 0,.int .i64 0,str [],.slice none 0 0]:=by rw [orow_congr (hE4.same _ (by simp;omega)),orow_upd_ne om,orow_new_ne om];exact z2
   have y5:Z4.row bb0=some cells:=by rw [hE4'.row y3];exact y4
   have e60:decide ((60:Int)<((p:Nat):Int))=decide (60<p):=by rw [Bool.eq_iff_iff,decide_eq_true_iff,decide_eq_true_iff];omega
   have e12:decide ((12:Int)<((d:Nat):Int))=decide (12<d):=by rw [Bool.eq_iff_iff,decide_eq_true_iff,decide_eq_true_iff];omega
   have l0:decide (0<toks.length)=true:=decide_eq_true h0
   cases hp60:decide (60<p) with
   | true =>
     refine gS1 (aI @r4 (aI @e60 (aI @hp60 (aI @yu_t (aI @yu_f (aI @y5 (aI @hk1 @l0))))))) ?_
     exact ⟨_,rfl,hE4'⟩
   | false =>
     cases hd12:decide (12<d) with
     | true =>
       refine gS1 (aI @r4 (aI @r4' (aI @e60 (aI @hp60 (aI @e12 (aI @hd12 (aI @yu_t (aI @yu_f (aI @y5 (aI @hk1 @l0)))))))))) ?_
       exact ⟨_,rfl,hE4'⟩
     | false =>
       refine gS1 (aI @r4 (aI @r4' (aI @e60 (aI @hp60 (aI @e12 (aI @hd12 (aI @yu_t (aI @yu_f (aI @z4 @Tryz.results51))))))))) ?_
       rw [if_neg (by simp)]
       refine ⟨_,[v1,v2,v3,v4,v5],rfl,hE4'.upd om _,?_⟩
       have hE24:Ext Z2 Z4:=((Ext.new _ _).upd (Nat.le_refl _) _).trans hE4
       exact ((hf2.ext hE24).extX (b:=Z.n) (ExtX.upd .refl _) (by show Z.n<Z.n+2;omega)).weak fun q hq=>by show q<Z.n+2;omega
section
variable {Z ZL:St} {bt bx:Nat} {T:Tn} {tv:Value} {toks:List Tok} {k:Nat} {tx:By} {from':Nat} {v:Nat->Value} {fc vs:List Value}
end
end Go.Proofs.T
