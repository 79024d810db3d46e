/- du of a FE. -/
import Derived.Test.YtbcanmagihejhaaGreatDoorTF
set_option linter.unusedSimpArgs false
set_option linter.unusedVariables false
set_option maxHeartbeats 32000000
set_option maxRecDepth 100000
namespace Go.Proofs.T
open Go Go.Ab
open Nat (reduceMul reduceEqDiff reduceAdd)
def Ak (n:Nat) (l:By):Nat:=l.foldl (fun n c=>10*n+(c.toNat+208) % 256) n
def R5:By:=[110,117,109]
noncomputable def SY (toks:List Tok) (k p:Nat):Except Er Fx :=
 if (FZ (AU (A9 toks k).1).1&& !cQ (AU (A9 toks k).1).2)=true then
  if (decide (y9 (AU (A9 toks k).1).1<=1000000000)&&decide ((AU (A9 toks k).1).2.length<=6)&&(decide (y9 (AU (A9 toks k).1).1<1000000000)||decide ((AU (A9 toks k).1).2=[])))=true then
   .ok (.mk R5 (Ak (y9 (AU (A9 toks k).1).1) (AU (A9 toks k).1).2 / Nat.gcd (Ak (y9 (AU (A9 toks k).1).1) (AU (A9 toks k).1).2) (10 ^ (AU (A9 toks k).1).2.length):Nat)
    (10 ^ (AU (A9 toks k).1).2.length / Nat.gcd (Ak (y9 (AU (A9 toks k).1).1) (AU (A9 toks k).1).2) (10 ^ (AU (A9 toks k).1).2.length):Nat) [] [],1,k+1,p+1)
  else .error ((A9 toks k).2,3)
 else .error ((A9 toks k).2,12)
theorem Pl {n:Nat}{l:By}{i:Nat}{c:UInt8}(h:l[i]? =some c):Ak n (l.take (i+1))=10*Ak n (l.take i)+(c.toNat+208) % 256:=by
 unfold Ak;rw [List.take_add_one,h,List.foldl_append];rfl
theorem MN {n:Nat}:∀ (l:By),Ak n l+29<=(n+29)*10 ^ l.length:=by
 intro l;unfold Ak;induction l generalizing n with
 | nil=>simp
 | cons c l ih =>
   have:=ih (n:=10*n+(c.toNat+208) % 256);rw [List.foldl_cons,List.length_cons,Nat.pow_succ];refine Nat.le_trans this ?_;have hc:(c.toNat+208) % 256<256:=Nat.mod_lt _ om;have h1:10*n+(c.toNat+208) % 256+29<=(n+29)*10:=om
   calc (10*n+(c.toNat+208) % 256+29)*10 ^ l.length<=((n+29)*10)*10 ^ l.length:=Nat.mul_le_mul_right _ h1
    _=(n+29)*(10 ^ l.length*10):=by rw [Nat.mul_assoc,Nat.mul_comm 10]
def Gu (toks:List Tok):Prop:=∀ t∈toks,t.1.length<10000000/\(FZ (AU t.1).1=true->(AU t.1).1.length<19)
theorem dv {t:By}:(AU t).1.length<=t.length/\(AU t).2.length<=t.length:=by
 unfold AU;split
 ·exact ⟨Nat.le_refl _,Nat.zero_le _⟩
 ·simp;omega
theorem Vu {L:Nat->Prop}{b:Nat}{Z:St}{tv:Value}{toks:List Tok}{k p:Nat}(h:Sc Z b tv toks k [.int .i64 (p:Nat)]) (I4:Ends toks) (hsh:Gu toks) (hp:p<1000000000) (hb:L b) (hL:∀ q,L q->q<Z.n) (hne:(A9 toks k).1≠[]) :
  Ev (go Tryz.prog HS (.fn 203) [.pointer (some ⟨b,0,none⟩),str (A9 toks k).1] Z) (FmP L Z b tv toks (SY toks k p)) ⟨⟩:=by
 have hbl:=h.lt;have ht0:=W1 h.k;have hs:=hsh _ (List.mem_of_getElem? ht0);have hcl:=dv (t:=(A9 toks k).1);refine D7 Tryz.func203 rfl rfl ?_;refine gS ?_;refine (sG om).mono ?_;rintro r ⟨ok,rfl⟩;unfold SY;generalize hw:(AU (A9 toks k).1).1=w at *;generalize hrr:(AU (A9 toks k).1).2=rs at *;refine gS ?_;have hE1:Ext Z (Z.new [str [],.int .i64 0,.int .i64 0,str [],.slice none 0 0,.int .i64 0] (some 154)):= .new _ _;refine (LQ om).mono ?_;rintro r rfl;have h1:=h.ext hE1;cases hnb:FZ w with
 | false =>
   refine gS ?_;refine (K6 h1 ht0).mono ?_;rintro r (⟨hok,-⟩|⟨hok,Z3,rfl,hE3⟩)
   case inl=>cases hok
   refine gS ?_;refine H3.intro (by kernel_rfl) ?_;refine gS ?_;rw [if_neg (by simp)];exact ⟨_,rfl,.of (hE1.trans hE3)⟩
 | true =>
   refine gS ?_;refine (Zp om).mono ?_;rintro r rfl;refine gS ?_;refine (K6 h1 ht0).mono ?_;rintro r (⟨hok,rfl⟩|⟨hok,Z3,rfl,hE3⟩)
   case inr =>
    refine gS ?_;refine H3.intro (by kernel_rfl) ?_;refine gS ?_;rw [hok,if_neg (by simp)];exact ⟨_,rfl,.of (hE1.trans hE3)⟩
   rw [hok,if_pos (by simp)];refine gS ?_;refine (NV (Jl hnb).1 (Jl hnb).2.1 (by have:=hs.2;exact this hnb)).mono ?_;rintro r ⟨Z2,rfl,hE2⟩;have h2:=h1.ext hE2;have RL:=hE1.trans hE2;have hn2:=hE2.n;simp at hn2;have z2:Z2.A5 Z.n=some [str [],.int .i64 0,.int .i64 0,str [],.slice none 0 0,.int .i64 0]:=by rw [A6 (hE2.same _ (by simp))];exact cL
   generalize hnn:y9 w=n at *;have e9:decide (((n:Nat):Int)<1000000000)=decide (n<1000000000):=by rw [Bool.eq_iff_iff,decide_eq_true_iff,decide_eq_true_iff];omega
   have e6:decide ((6:Int)<((rs.length:Nat):Int))=decide (6<rs.length):=by rw [Bool.eq_iff_iff,decide_eq_true_iff,decide_eq_true_iff];omega
   have e6':decide (rs.length<=6)= !decide (6<rs.length):=by rw [Bool.eq_iff_iff];simp
   rw [e6'];cases hv:decide (n<=1000000000) with
   | false =>
     refine gS1 (a4N @e6 @e9 @J1 @J2) ?_;refine (K6 h2 ht0).mono ?_;rintro r (⟨AB,-⟩|⟨AB,Z3,rfl,hE3⟩)
     case inl=>cases AB
     refine gS ?_;rw [if_neg (by simp)];exact ⟨_,rfl,.of (RL.trans hE3)⟩
   | true =>
     cases hl:decide (6<rs.length) with
     | true =>
       refine gS1 (a5N @e6 @hl @e9 @J1 @J2) ?_;refine (K6 h2 ht0).mono ?_;rintro r (⟨AB,-⟩|⟨AB,Z3,rfl,hE3⟩)
       case inl=>cases AB
       refine gS ?_;rw [if_neg (by simp)];exact ⟨_,rfl,.of (RL.trans hE3)⟩
     | false =>
       cases hn9:decide (n<1000000000) with
       | false =>
         cases hr0:decide (rs=[]) with
         | false =>
           refine gS1 (a7N @e6 @hl @e9 @hn9 @hr0 @J1 @J2) ?_;refine (K6 h2 ht0).mono ?_;rintro r (⟨AB,-⟩|⟨AB,Z3,rfl,hE3⟩)
           case inl=>cases AB
           refine gS ?_;rw [if_neg (by simp)];exact ⟨_,rfl,.of (RL.trans hE3)⟩
         | true =>
           refine gS1 (a7N @e6 @hl @e9 @hn9 @hr0 @J1 @J2) ?_;refine (K6 h2 ht0).mono ?_;rintro r (⟨AB,rfl⟩|⟨AB,-⟩)
           case inr=>cases AB
           rw [if_pos (by rfl)];have xj:n<=1000000000:=of_decide_eq_true hv;have dw:rs.length<=6:=by have:=of_decide_eq_false hl;omega
           have hE3:Ext Z (Z2.new (J3 rs)):=RL.AF _;have dy:(J3 rs).length=rs.length:=by unfold J3;simp
           refine gS1 (a3N @e6 @hl @dy) ?_
           refine L8 rs.length (fun i fr Z'=>fr.get 0=some (.pointer (some ⟨b,0,none⟩))/\fr.get 4=some (.pointer (some ⟨Z.n,0,none⟩))/\fr.get 56=some (.slice (some ⟨Z2.n,0,some 1⟩) rs.length rs.length)/\fr.get 57=some (.int .i64 (rs.length:Nat))/\fr.get 58=some (.int .i64 (i:Nat)) /\
             fr.get 8=some (.int .i64 (Ak n (rs.take i):Nat))/\fr.get 10=some (.int .i64 (10 ^ i:Nat))/\Z'=Z2.new (J3 rs))
            (fun r=>∃ fr,r=⟨.exit 0,fr,Z2.new (J3 rs)⟩/\fr.get 0=some (.pointer (some ⟨b,0,none⟩))/\fr.get 4=some (.pointer (some ⟨Z.n,0,none⟩))/\fr.get 8=some (.int .i64 (Ak n rs:Nat))/\fr.get 10=some (.int .i64 (10 ^ rs.length:Nat))) ?_ ?_ ?_ ?_
           ·exact ⟨fR,fR,fR,fR,fR,fR,fR,rfl⟩
           ·rintro i fr Z' hi ⟨g0,g4,g56,g57,g58,g8,g10,rfl⟩;obtain ⟨c,hc⟩:=H8 hi;have hcs:sub (J3 rs) i 1=some [.int .u8 (c.toNat:Nat)]:=by unfold J3;exact CF (by rw [List.getElem?_map,hc];rfl)
            have ed:decide (((i:Nat):Int)<((rs.length:Nat):Int))=true:=by rw [decide_eq_true_iff];omega
            have ed2:decide (i<rs.length)=true:=decide_eq_true hi;have ew:IntKind.u8.wrap (((c.toNat:Nat):Int)-48)=(((c.toNat+208) % 256:Nat):Int):=by rw [wrap_u8];omega
            have ewF:FJ .u8 (((c.toNat:Nat):Int)-48)=(((c.toNat+208) % 256:Nat):Int):=by rw [Jm];exact ew
            have hm:(c.toNat+208) % 256<256:=Nat.mod_lt _ om;have ew2:IntKind.i64.wrap (((c.toNat+208) % 256:Nat):Int)=(((c.toNat+208) % 256:Nat):Int):=wrap64_in om om;have hd1:=MN (n:=n) (rs.take i);have hlt:(rs.take i).length=i:=by rw [List.length_take];omega
            rw [hlt] at hd1;have hp1:10 ^ i<=10 ^ 5:=Nat.pow_le_pow_right om om;have hp2:(n+29)*10 ^ i<=(1000000000+29)*10 ^ 5:=Nat.mul_le_mul om hp1;have hs2:=Pl (n:=n) hc;generalize Ak n (rs.take i)=q at *;generalize sH:10 ^ i=t10 at *;have e10:(10:Int)*((q:Nat):Int)=((10*q:Nat):Int):=om;have e11:((10*q:Nat):Int)+(((c.toNat+208) % 256:Nat):Int)=((10*q+(c.toNat+208) % 256:Nat):Int):=om;have e12:(10:Int)*((t10:Nat):Int)=((10*t10:Nat):Int):=om;have e13:((i:Nat):Int)+1=((i+1:Nat):Int):=om;have e14:10 ^ (i+1)=10*t10:=by rw [Nat.pow_succ,sH,Nat.mul_comm]
            refine gS1 (a18N @g0 @g4 @g56 @g57 @g58 @g8 @g10 @ed @ed2 @hcs @ew @ewF @ew2 @e10 @e11 @e12 @e13 @Nat.mul_one) ?_;exact ⟨fR1 g0,fR1 g4,fR1 g56,fR1 g57,fR,by rw [hs2],by rw [e14],by trivial⟩
           ·rintro fr Z' ⟨g0,g4,g56,g57,g58,g8,g10,rfl⟩;have ed:decide (((rs.length:Nat):Int)<((rs.length:Nat):Int))=false:=by simp
            have ed2:decide (rs.length<rs.length)=false:=by simp
            rw [List.take_length] at g8;refine gS1 (a4N @g57 @g58 @ed @ed2) ?_;exact ⟨_,rfl,by rw [Tr.I2 _ _ om];exact g0,by rw [Tr.I2 _ _ om];exact g4,by rw [Tr.I2 _ _ om];exact g8,by rw [Tr.I2 _ _ om];exact g10⟩
           rintro r ⟨fr,rfl,g0,g4,g8,g10⟩;have hd1:=MN (n:=n) rs;have hp1:10 ^ rs.length<=10 ^ 6:=Nat.pow_le_pow_right om dw;have hp0:0<10 ^ rs.length:=Nat.pow_pos om;have hp2:(n+29)*10 ^ rs.length<=(1000000000+29)*10 ^ 6:=Nat.mul_le_mul om hp1;refine gS1 (a4N @g0 @g4 @g8 @g10) ?_;refine (Xk om om hp0).mono ?_;rintro r ⟨Z5,rfl,hE5⟩;have hn5:=hE5.n;simp at hn5;have Jn:=hE3.trans hE5;have TJ:Ext Z ((Z5.new [.int .i64 0,.int .i64 0] (some 32)).upd Z5.n [.int .i64 (Ak n rs / Nat.gcd (Ak n rs) (10 ^ rs.length):Nat),.int .i64 (10 ^ rs.length / Nat.gcd (Ak n rs) (10 ^ rs.length):Nat)]):=(Jn.AF _).upd om _;refine gS1 @g0 ?_;have h5:=h.ext TJ;refine (W8 h5 ht0).mono ?_;rintro r ⟨Z6,rfl,hE6,q6⟩;have h6:=h5.W7 hE6 q6 (I4 k _ ht0 hne);have hn6:=hE6.n;simp at hn6;have r6:Z6.row Z5.n=some [.int .i64 (Ak n rs / Nat.gcd (Ak n rs) (10 ^ rs.length):Nat),.int .i64 (10 ^ rs.length / Nat.gcd (Ak n rs) (10 ^ rs.length):Nat)]:=by rw [hE6.row (by simp) om];exact A8 C8
           refine gS1 (a3N @g0 @g4 @r6) ?_;have hz6:Z6.A5 Z.n=some [str [],.int .i64 0,.int .i64 0,str [],.slice none 0 0,.int .i64 0]:=by
            rw [hE6.A5 (by simp;omega) om,D1 om,F5 om,A6 (hE5.same _ (by simp;omega)),F5 om];exact z2
           refine (Qj h6 hp (L:=fun q=>L q\/q=Z.n) (row:=[str R5,.int .i64 (Ak n rs / Nat.gcd (Ak n rs) (10 ^ rs.length):Nat),.int .i64 (10 ^ rs.length / Nat.gcd (Ak n rs) (10 ^ rs.length):Nat),str [],.slice none 0 0])
            (e:= .mk R5 (Ak n rs / Nat.gcd (Ak n rs) (10 ^ rs.length):Nat) (10 ^ rs.length / Nat.gcd (Ak n rs) (10 ^ rs.length):Nat) [] []) (fun H hH=>⟨_,[],rfl,.inl ⟨rfl,rfl⟩,by simp,rfl⟩) (.inl hb)).mono ?_
           rintro r ⟨Z7,kx,rfl,hE7,q7,hk7,hf7⟩;obtain ⟨v1,v2,v3,v4,v5,rfl⟩:=hf7.ER;have hn7:=hE7.n;have hz7:Z7.A5 Z.n=some [str [],.int .i64 0,.int .i64 0,str [],.slice none 0 0,.int .i64 0]:=by rw [hE7.A5 om om];exact hz6
           refine gS1 (a3N @g4 @hz7 @Tryz.results203) ?_;exact ⟨_,[v1,v2,v3,v4,v5],rfl,(((C5.of TJ).trans hE6).trans hE7).BJ (Nat.le_refl _) _,by rw [D1 om];exact q7,hk7,(hf7.W7 (b:=Z.n) (C5.upd .refl _) (.inr rfl)).Mm fun q hq=> .inl hq⟩
       | true =>
         refine gS1 (a6N @e6 @hl @e9 @hn9 @J1 @J2) ?_;refine (K6 h2 ht0).mono ?_;rintro r (⟨AB,rfl⟩|⟨AB,-⟩)
         case inr=>cases AB
         rw [if_pos (by rfl)];have xj:n<=1000000000:=of_decide_eq_true hv;have dw:rs.length<=6:=by have:=of_decide_eq_false hl;omega
         have hE3:Ext Z (Z2.new (J3 rs)):=RL.AF _;have dy:(J3 rs).length=rs.length:=by unfold J3;simp
         refine gS1 (a3N @e6 @hl @dy) ?_
         refine L8 rs.length (fun i fr Z'=>fr.get 0=some (.pointer (some ⟨b,0,none⟩))/\fr.get 4=some (.pointer (some ⟨Z.n,0,none⟩))/\fr.get 56=some (.slice (some ⟨Z2.n,0,some 1⟩) rs.length rs.length)/\fr.get 57=some (.int .i64 (rs.length:Nat))/\fr.get 58=some (.int .i64 (i:Nat)) /\
           fr.get 8=some (.int .i64 (Ak n (rs.take i):Nat))/\fr.get 10=some (.int .i64 (10 ^ i:Nat))/\Z'=Z2.new (J3 rs))
          (fun r=>∃ fr,r=⟨.exit 0,fr,Z2.new (J3 rs)⟩/\fr.get 0=some (.pointer (some ⟨b,0,none⟩))/\fr.get 4=some (.pointer (some ⟨Z.n,0,none⟩))/\fr.get 8=some (.int .i64 (Ak n rs:Nat))/\fr.get 10=some (.int .i64 (10 ^ rs.length:Nat))) ?_ ?_ ?_ ?_
         ·exact ⟨fR,fR,fR,fR,fR,fR,fR,rfl⟩
         ·rintro i fr Z' hi ⟨g0,g4,g56,g57,g58,g8,g10,rfl⟩;obtain ⟨c,hc⟩:=H8 hi;have hcs:sub (J3 rs) i 1=some [.int .u8 (c.toNat:Nat)]:=by unfold J3;exact CF (by rw [List.getElem?_map,hc];rfl)
          have ed:decide (((i:Nat):Int)<((rs.length:Nat):Int))=true:=by rw [decide_eq_true_iff];omega
          have ed2:decide (i<rs.length)=true:=decide_eq_true hi;have ew:IntKind.u8.wrap (((c.toNat:Nat):Int)-48)=(((c.toNat+208) % 256:Nat):Int):=by rw [wrap_u8];omega
          have ewF:FJ .u8 (((c.toNat:Nat):Int)-48)=(((c.toNat+208) % 256:Nat):Int):=by rw [Jm];exact ew
          have hm:(c.toNat+208) % 256<256:=Nat.mod_lt _ om;have ew2:IntKind.i64.wrap (((c.toNat+208) % 256:Nat):Int)=(((c.toNat+208) % 256:Nat):Int):=wrap64_in om om;have hd1:=MN (n:=n) (rs.take i);have hlt:(rs.take i).length=i:=by rw [List.length_take];omega
          rw [hlt] at hd1;have hp1:10 ^ i<=10 ^ 5:=Nat.pow_le_pow_right om om;have hp2:(n+29)*10 ^ i<=(1000000000+29)*10 ^ 5:=Nat.mul_le_mul om hp1;have hs2:=Pl (n:=n) hc;generalize Ak n (rs.take i)=q at *;generalize sH:10 ^ i=t10 at *;have e10:(10:Int)*((q:Nat):Int)=((10*q:Nat):Int):=om;have e11:((10*q:Nat):Int)+(((c.toNat+208) % 256:Nat):Int)=((10*q+(c.toNat+208) % 256:Nat):Int):=om;have e12:(10:Int)*((t10:Nat):Int)=((10*t10:Nat):Int):=om;have e13:((i:Nat):Int)+1=((i+1:Nat):Int):=om;have e14:10 ^ (i+1)=10*t10:=by rw [Nat.pow_succ,sH,Nat.mul_comm]
          refine gS1 (a18N @g0 @g4 @g56 @g57 @g58 @g8 @g10 @ed @ed2 @hcs @ew @ewF @ew2 @e10 @e11 @e12 @e13 @Nat.mul_one) ?_;exact ⟨fR1 g0,fR1 g4,fR1 g56,fR1 g57,fR,by rw [hs2],by rw [e14],by trivial⟩
         ·rintro fr Z' ⟨g0,g4,g56,g57,g58,g8,g10,rfl⟩;have ed:decide (((rs.length:Nat):Int)<((rs.length:Nat):Int))=false:=by simp
          have ed2:decide (rs.length<rs.length)=false:=by simp
          rw [List.take_length] at g8;refine gS1 (a4N @g57 @g58 @ed @ed2) ?_;exact ⟨_,rfl,by rw [Tr.I2 _ _ om];exact g0,by rw [Tr.I2 _ _ om];exact g4,by rw [Tr.I2 _ _ om];exact g8,by rw [Tr.I2 _ _ om];exact g10⟩
         rintro r ⟨fr,rfl,g0,g4,g8,g10⟩;have hd1:=MN (n:=n) rs;have hp1:10 ^ rs.length<=10 ^ 6:=Nat.pow_le_pow_right om dw;have hp0:0<10 ^ rs.length:=Nat.pow_pos om;have hp2:(n+29)*10 ^ rs.length<=(1000000000+29)*10 ^ 6:=Nat.mul_le_mul om hp1;refine gS1 (a4N @g0 @g4 @g8 @g10) ?_;refine (Xk om om hp0).mono ?_;rintro r ⟨Z5,rfl,hE5⟩;have hn5:=hE5.n;simp at hn5;have Jn:=hE3.trans hE5;have TJ:Ext Z ((Z5.new [.int .i64 0,.int .i64 0] (some 32)).upd Z5.n [.int .i64 (Ak n rs / Nat.gcd (Ak n rs) (10 ^ rs.length):Nat),.int .i64 (10 ^ rs.length / Nat.gcd (Ak n rs) (10 ^ rs.length):Nat)]):=(Jn.AF _).upd om _;refine gS1 @g0 ?_;have h5:=h.ext TJ;refine (W8 h5 ht0).mono ?_;rintro r ⟨Z6,rfl,hE6,q6⟩;have h6:=h5.W7 hE6 q6 (I4 k _ ht0 hne);have hn6:=hE6.n;simp at hn6;have r6:Z6.row Z5.n=some [.int .i64 (Ak n rs / Nat.gcd (Ak n rs) (10 ^ rs.length):Nat),.int .i64 (10 ^ rs.length / Nat.gcd (Ak n rs) (10 ^ rs.length):Nat)]:=by rw [hE6.row (by simp) om];exact A8 C8
         refine gS1 (a3N @g0 @g4 @r6) ?_;have hz6:Z6.A5 Z.n=some [str [],.int .i64 0,.int .i64 0,str [],.slice none 0 0,.int .i64 0]:=by
          rw [hE6.A5 (by simp;omega) om,D1 om,F5 om,A6 (hE5.same _ (by simp;omega)),F5 om];exact z2
         refine (Qj h6 hp (L:=fun q=>L q\/q=Z.n) (row:=[str R5,.int .i64 (Ak n rs / Nat.gcd (Ak n rs) (10 ^ rs.length):Nat),.int .i64 (10 ^ rs.length / Nat.gcd (Ak n rs) (10 ^ rs.length):Nat),str [],.slice none 0 0])
          (e:= .mk R5 (Ak n rs / Nat.gcd (Ak n rs) (10 ^ rs.length):Nat) (10 ^ rs.length / Nat.gcd (Ak n rs) (10 ^ rs.length):Nat) [] []) (fun H hH=>⟨_,[],rfl,.inl ⟨rfl,rfl⟩,by simp,rfl⟩) (.inl hb)).mono ?_
         rintro r ⟨Z7,kx,rfl,hE7,q7,hk7,hf7⟩;obtain ⟨v1,v2,v3,v4,v5,rfl⟩:=hf7.ER;have hn7:=hE7.n;have hz7:Z7.A5 Z.n=some [str [],.int .i64 0,.int .i64 0,str [],.slice none 0 0,.int .i64 0]:=by rw [hE7.A5 om om];exact hz6
         refine gS1 (a3N @g4 @hz7 @Tryz.results203) ?_;exact ⟨_,[v1,v2,v3,v4,v5],rfl,(((C5.of TJ).trans hE6).trans hE7).BJ (Nat.le_refl _) _,by rw [D1 om];exact q7,hk7,(hf7.W7 (b:=Z.n) (C5.upd .refl _) (.inr rfl)).Mm fun q hq=> .inl hq⟩
def Dt:By:=[109,105,110]
def EZ:By:=[109,97,120]
def nmB:By:=[110,97,109,101]
def De (toks:List Tok) (w:By) (k:Nat):Except Er Nat:=if (A9 toks k).1=w then .ok (k+1) else .error ((A9 toks k).2,12)
noncomputable def Ge (F:Nat->Nat->Except Er Fx) (toks:List Tok) (k p:Nat):Except Er Fx :=
 if Fg J9 (A9 toks k).1=true then SY toks k p else
 if (A9 toks k).1=[40] then Q9 (F (k+1) p) fun (e,d,k,p)=>Q9 (De toks [41] k) fun k=> .ok (e,d,k,p) else
 if (decide ((A9 toks k).1=Dt)||decide ((A9 toks k).1=EZ))=true then
  Q9 (De toks [40] (k+1)) fun k1=>Q9 (F k1 p) fun (e,d,k2,p2)=>Q9 (De toks [44] k2) fun k3=>Q9 (F k3 p2) fun (e',d',k4,p4)=>Q9 (De toks [41] k4) fun k5 =>
   .ok (.mk (A9 toks k).1 0 0 [] [e,e'],1+max d d',k5,p4+1) else
 if AL (A9 toks k).1=true then .ok (.mk nmB 0 0 (A9 toks k).1 [],1,k+1,p+1) else .error ((A9 toks k).2,12)
noncomputable def Om (toks:List Tok):Nat->Nat->Nat->Except Er Fx
 | 0,_,_=> .error (0,0)
 | f+1,k,p=>Dw (fun k p=>Dw (Ge (Om toks f) toks) [42,47] toks k p) [43,45] toks k p
theorem J7 {α β:Type}{x:Except Er α}{f:α->Except Er β}{b:β}(h:Q9 x f= .ok b):∃ a,x= .ok a/\f a= .ok b:=by
 cases x with
 | error e=>cases h
 | ok a=>exact ⟨a,rfl,h⟩
theorem CE {toks:List Tok}{w:By}{k k':Nat}(h:De toks w k= .ok k'):k'=k+1:=by
 unfold De at h;split at h <;> cases h;rfl
theorem MZ {F:Nat->Nat->Except Er Fx}{toks:List Tok}(hF:∀ k p,Bd k p (F k p)) (k p:Nat):Bd k p (Ge F toks k p):=by
 intro e d k' p' h;unfold Ge at h;split at h
 ·unfold SY at h;split at h
  ·split at h
   ·cases h;omega
   ·cases h
  ·cases h
 ·split at h
  ·obtain ⟨⟨e1,d1,k1,p1⟩,h1,h2⟩:=J7 h;obtain ⟨k2,h3,h4⟩:=J7 h2;have:=hF _ _ _ _ _ _ h1;have:=CE h3;cases h4;omega
  ·split at h
   ·obtain ⟨k1,h1,h⟩:=J7 h;obtain ⟨⟨e2,d2,k2,p2⟩,h2,h⟩:=J7 h;obtain ⟨k3,h3,h⟩:=J7 h;obtain ⟨⟨e4,d4,k4,p4⟩,h4,h⟩:=J7 h;obtain ⟨k5,h5,h⟩:=J7 h;have:=CE h1;have:=hF _ _ _ _ _ _ h2;have:=CE h3;have:=hF _ _ _ _ _ _ h4;have:=CE h5;cases h;omega
   ·split at h
    ·cases h;omega
    ·cases h
theorem cC {A:Nat->Nat->Except Er Fx}{ops:By}{toks:List Tok}(hA:∀ k p,Bd k p (A k p)):∀ (f:Nat) (e0:Ex) (d0 k0 p0 k p:Nat),k<k0->p0<=p+(k0-k)->d0<=k0-k->Bd k p (Bf A ops toks f (e0,d0,k0,p0)):=by
 intro f;induction f with
 | zero=>intro e0 d0 k0 p0 k p h1 h2 h3 e d k' p' h;cases h;omega
 | succ f ih =>
   intro e0 d0 k0 p0 k p h1 h2 h3 e d k' p' h;rw [AX] at h;split at h
   ·obtain ⟨⟨e1,d1,k1,p1⟩,h4,h5⟩:=J7 h;have:=hA _ _ _ _ _ _ h4;exact ih _ _ _ _ k p om om om _ _ _ _ h5
   ·cases h;omega
theorem HZ {A:Nat->Nat->Except Er Fx}{ops:By}{toks:List Tok}(hA:∀ k p,Bd k p (A k p)) (k p:Nat):Bd k p (Dw A ops toks k p):=by
 intro e d k' p' h;obtain ⟨⟨e1,d1,k1,p1⟩,h1,h2⟩:=J7 h;have:=hA _ _ _ _ _ _ h1;exact cC hA _ _ _ _ _ k p om om om _ _ _ _ h2
theorem RA {toks:List Tok}:∀ f k p,Bd k p (Om toks f k p):=by
 intro f;induction f with
 | zero=>intro k p e d k' p' h;cases h
 | succ f ih=>intro k p;exact HZ (fun k p=>HZ (fun k p=>MZ ih k p) k p) k p
theorem Od {b:Nat}{Z:St}{tv:Value}{toks:List Tok}{k:Nat}{rest:List Value}{w:By}(h:Sc Z b tv toks k rest) (I4:Ends toks) (hw:w≠[]) :
  Ev (go Tryz.prog HS (.fn 204) [.pointer (some ⟨b,0,none⟩),str w] Z) (fun r=>match De toks w k with
   | .ok k'=>∃ Z',r=⟨false,.tuple ⟨[]⟩,Z'⟩/\C5 b Z Z'/\Z'.A5 b=some (tv:: .int .i64 (k':Nat)::rest)/\k'<toks.length
   | .error (p,e)=>∃ Z',r=⟨true,fault p e,Z'⟩/\C5 b Z Z') ⟨⟩:=by
 refine (jv h I4 hw).mono fun r hr=>?_;unfold De;by_cases hq:(A9 toks k).1=w
 ·rw [if_pos hq] at hr ⊢;exact hr
 ·rw [if_neg hq] at hr ⊢;exact hr
def zSx:List Value:=[str [],.int .i64 0,.int .i64 0,str [],.slice none 0 0,.int .i64 0]
theorem ag {L:Nat->Prop}{b:Nat}{Z:St}{tv:Value}{toks:List Tok}{k p:Nat}{F:Nat->Nat->Except Er Fx}(h:Sc Z b tv toks k [.int .i64 (p:Nat)]) (I4:Ends toks) (hsh:Gu toks) (htl:toks.length<100000000) (hp:p<=k) (hb:L b) (hL:∀ q,L q->q<Z.n)
  (hF:∀ (M:Nat->Prop) (Z':St) (k' p':Nat),M b->(∀ q,M q->q<Z'.n)->k<k'->p'<=k'->Sc Z' b tv toks k' [.int .i64 (p':Nat)]->Ev (go Tryz.prog HS (.fn 84) [.pointer (some ⟨b,0,none⟩)] Z') (FmP M Z' b tv toks (F k' p')) ⟨⟩)
  (hB:∀ k' p',Bd k' p' (F k' p')) :
  Ev (go Tryz.prog HS (.fn 173) [.pointer (some ⟨b,0,none⟩)] Z) (FmP L Z b tv toks (Ge F toks k p)) ⟨⟩:=by
 have hbl:=h.lt;have hkl:=h.k;have ht0:=W1 h.k;have hs:=hsh _ (List.mem_of_getElem? ht0);refine D7 Tryz.func173 rfl rfl ?_;refine gS ?_;have h1:=h.ext (Ext.new (t:=some 154) Z zSx);refine (T7 h1 ht0).mono ?_;rintro r ⟨Z1,rfl,hE1⟩;have h2:=h1.ext hE1;have KE:Ext Z Z1:=(Ext.new _ _).trans hE1;have hn1:=hE1.n;simp at hn1;have z1:Z1.A5 Z.n=some [str [],.int .i64 0,.int .i64 0,str [],.slice none 0 0,.int .i64 0]:=by rw [A6 (hE1.same _ (by simp))];exact cL
 have hM:∀ q,(L q\/q=Z.n)->q<Z1.n:=by rintro q (hq|rfl);have:=hL q hq;omega;omega
 unfold Ge;cases hw:(A9 toks k).1 with
 | nil =>
   have d0:decide (([]:By)=[])=true:=rfl;have d1:decide (([]:By)=[40])=false:=rfl;have d2:decide (([]:By)=[109,105,110])=false:=rfl;have d3:decide (([]:By)=[109,97,120])=false:=rfl;refine gS1 (a6N @d0 @d1 @d2 @d3 @J1 @J2) ?_;refine (Fh (s:=[]) (by simp)).mono ?_;rintro r rfl;refine gS ?_;refine (K6 h2 ht0).mono ?_;rintro r (⟨hok,-⟩|⟨hok,Z3,rfl,hE3⟩)
   case inl=>cases hok
   refine gS ?_;refine H3.intro (by kernel_rfl) ?_;refine gS ?_;rw [if_neg (by simp [Fg]),if_neg (by simp),if_neg (by decide),if_neg (by decide)];exact ⟨_,rfl,.of (KE.trans hE3)⟩
 | cons c s =>
   have d0:decide (c::s=([]:By))=false:=rfl;have s1:sub (c::s) 0 1=some [c]:=CF rfl;refine gS1 (a5N @d0 @s1 @T6 @J1 @J2) ?_;refine Jf.mono ?_;rintro r rfl;have hdn:J9 ((c.toNat:Nat):Int)=Fg J9 (c::s):=rfl;cases hdg:Fg J9 (c::s) with
   | true =>
     refine gS1 (aI @hdn @hdg) ?_;rw [if_pos rfl,<- hw];refine (Vu h2 I4 hsh om (L:=fun q=>L q\/q=Z.n) (.inl hb) hM (by rw [hw];simp)).mono ?_;intro r;cases hR:SY toks k p with
     | error pe =>
       obtain ⟨at',e⟩:=pe;rintro ⟨Z',rfl,hE⟩;refine gS ?_;exact ⟨_,rfl,(C5.of KE).trans hE⟩
     | ok x =>
       obtain ⟨e,d,k',p'⟩:=x;rintro ⟨Z',row,rfl,hE,q',hk',hf⟩;obtain ⟨v1,v2,v3,v4,v5,rfl⟩:=hf.ER;have hn':=hE.n;have z':Z'.A5 Z.n=some [str [],.int .i64 0,.int .i64 0,str [],.slice none 0 0,.int .i64 0]:=by rw [hE.A5 om om];exact z1
       refine gS1 (aI @z' @Tryz.results173) ?_;exact ⟨_,[v1,v2,v3,v4,v5],rfl,((C5.of KE).trans hE).BJ (Nat.le_refl _) _,cL1 q',hk',(hf.W7 (b:=Z.n) (C5.upd .refl _) (.inr rfl)).Mm fun q hq=> .inl hq⟩
   | false =>
     refine gS1 (aI @hdn @hdg) ?_;rw [if_neg (by simp)];have hpe:decide (c::s=[40])=decide ((A9 toks k).1=[40]):=by rw [hw]
     cases cD:decide (c::s=[40]) with
     | true =>
       rw [if_pos (of_decide_eq_true cD)];refine gS1 @cD ?_;refine (W8 h2 ht0).mono ?_;rintro r ⟨Z3,rfl,hE3,q3⟩;have hk3:=I4 k _ ht0 (by rw [hw];simp);have h3:=h2.W7 hE3 q3 hk3;have hn3:=hE3.n;have z3:Z3.A5 Z.n=some [str [],.int .i64 0,.int .i64 0,str [],.slice none 0 0,.int .i64 0]:=by rw [hE3.A5 om om];exact z1
       refine gS ?_;refine (hF (fun q=>L q\/q=Z.n) Z3 (k+1) p (.inl hb) (fun q hq=>by have:=hM q hq;omega) om om h3).mono ?_;intro r;cases hR:F (k+1) p with
       | error pe =>
         obtain ⟨at',e⟩:=pe;rintro ⟨Z',rfl,hE⟩;refine gS ?_;rw [H4];exact ⟨_,rfl,((C5.of KE).trans hE3).trans hE⟩
       | ok x =>
         obtain ⟨e,d,k4,p4⟩:=x;have hbd:=hB _ _ _ _ _ _ hR;rintro ⟨Z4,row,rfl,hE4,q4,hk4,hf4⟩;obtain ⟨v1,v2,v3,v4,v5,rfl⟩:=hf4.ER;rw [C2]
         try dsimp only
         have hn4:=hE4.n;have z4:Z4.A5 Z.n=some [str [],.int .i64 0,.int .i64 0,str [],.slice none 0 0,.int .i64 0]:=by rw [hE4.A5 om om];exact z3
         refine gS ?_;have hE5:C5 b Z ((Z4.new [str [],.int .i64 0,.int .i64 0,str [],.slice none 0 0,.int .i64 0] (some 154)).upd Z4.n [v1,v2,v3,v4,v5,.int .i64 (d:Nat)]):=((((C5.of KE).trans hE3).trans hE4).KZ _).BJ om _;have h5:=h.W7 hE5 (k':=k4) (rest':=[.int .i64 (p4:Nat)]) (cL1 q4) hk4;refine (Od h5 I4 (w:=[41]) (by simp)).mono ?_;intro r;cases hR5:De toks [41] k4 with
         | error pe =>
           obtain ⟨at',e⟩:=pe;rintro ⟨Z',rfl,hE⟩;refine gS ?_;rw [H4];exact ⟨_,rfl,hE5.trans hE⟩
         | ok k6 =>
           rintro ⟨Z6,rfl,hE6,q6,hk6⟩;rw [C2];have hn6:=hE6.n;simp at hn6;have r6:Z6.row Z4.n=some [v1,v2,v3,v4,v5,.int .i64 (d:Nat)]:=by rw [hE6.row (by simp) om];exact A8 C8
           have z6:Z6.A5 Z.n=some [str [],.int .i64 0,.int .i64 0,str [],.slice none 0 0,.int .i64 0]:=by rw [hE6.A5 (by simp;omega) om,D1 om,F5 om];exact z4
           have hf6:Ag (fun q=>L q\/q=Z.n) Z6 [v1,v2,v3,v4,v5] e:=by
            refine Ag.W7 (b:=b) (hf4.more (L':=fun q=>L q\/q=Z.n) ⟨by simp,fun c hc=>?_⟩ fun q hq=> .inl hq) hE6 (.inl hb);rw [J8,if_neg om,M7,if_neg om]
           refine gS1 (a3N @r6 @z6 @Tryz.results173) ?_;exact ⟨_,[v1,v2,v3,v4,v5],rfl,(hE5.trans hE6).BJ (Nat.le_refl _) _,cL1 q6,hk6,(hf6.W7 (b:=Z.n) (C5.upd .refl _) (.inr rfl)).Mm fun q hq=> .inl hq⟩
     | false =>
       rw [if_neg (of_decide_eq_false cD)];have hmi:decide (c::s=[109,105,110])=decide (c::s=Dt):=rfl;have hma:decide (c::s=[109,97,120])=decide (c::s=EZ):=rfl;cases hmm:(decide (c::s=Dt)||decide (c::s=EZ)) with
       | false =>
         rw [Bool.or_eq_false_iff] at hmm;obtain ⟨m1,m2⟩:=hmm;rw [if_neg (by simp)];refine gS1 (a7N @cD @hmi @hma @m1 @m2 @J1 @J2) ?_;refine (Fh (s:=c::s) (by rw [hw] at hs;omega)).mono ?_;rintro r rfl;refine gS ?_;refine (K6 h2 ht0).mono ?_;rintro r (⟨hok,rfl⟩|⟨hok,Z3,rfl,hE3⟩)
         case inr =>
          refine gS ?_;refine H3.intro (by kernel_rfl) ?_;refine gS ?_;rw [if_neg (by rw [hok];simp)];exact ⟨_,rfl,.of (KE.trans hE3)⟩
         rw [if_pos hok];refine gS ?_;refine (W8 h2 ht0).mono ?_;rintro r ⟨Z3,rfl,hE3,q3⟩;have hk3:=I4 k _ ht0 (by rw [hw];simp);have h3:=h2.W7 hE3 q3 hk3;have hn3:=hE3.n;have z3:Z3.A5 Z.n=some [str [],.int .i64 0,.int .i64 0,str [],.slice none 0 0,.int .i64 0]:=by rw [hE3.A5 om om];exact z1
         refine gS ?_;refine (Qj h3 om (L:=fun q=>L q\/q=Z.n) (row:=[str nmB,.int .i64 0,.int .i64 0,str (c::s),.slice none 0 0]) (e:= .mk nmB 0 0 (c::s) []) (fun H hH=>⟨_,[],rfl,.inl ⟨rfl,rfl⟩,by simp,rfl⟩) (.inl hb)).mono ?_;rintro r ⟨Z7,kx,rfl,hE7,q7,hk7,hf7⟩;obtain ⟨v1,v2,v3,v4,v5,rfl⟩:=hf7.ER;have hn7:=hE7.n;have hz7:Z7.A5 Z.n=some [str [],.int .i64 0,.int .i64 0,str [],.slice none 0 0,.int .i64 0]:=by rw [hE7.A5 om om];exact z3
         refine gS1 (aI @hz7 @Tryz.results173) ?_;exact ⟨_,[v1,v2,v3,v4,v5],rfl,(((C5.of KE).trans hE3).trans hE7).BJ (Nat.le_refl _) _,by rw [D1 om];exact q7,hk7,(hf7.W7 (b:=Z.n) (C5.upd .refl _) (.inr rfl)).Mm fun q hq=> .inl hq⟩
       | true =>
         rw [if_pos rfl];have AU9:(decide (c::s=Dt)=true)\/(decide (c::s=Dt)=false/\decide (c::s=EZ)=true):=by
          cases m1:decide (c::s=Dt) with
          | true=>exact .inl rfl
          | false=>rw [m1] at hmm;exact .inr ⟨rfl,hmm⟩
         rcases AU9 with m1|⟨m1,m2⟩
         ·refine gS1 (a6N @cD @hmi @hma @m1 @J1 @J2) ?_;refine (W8 h2 ht0).mono ?_;rintro r ⟨Z3,rfl,hE3,q3⟩;have hk3:=I4 k _ ht0 (by rw [hw];simp);have h3:=h2.W7 hE3 q3 hk3;have hn3:=hE3.n;have z3:Z3.A5 Z.n=some [str [],.int .i64 0,.int .i64 0,str [],.slice none 0 0,.int .i64 0]:=by rw [hE3.A5 om om];exact z1
          have Ob:C5 b Z Z3:=(C5.of KE).trans hE3;refine gS ?_;refine (Od h3 I4 (w:=[40]) (by simp)).mono ?_;intro r;cases hR1:De toks [40] (k+1) with
          | error pe =>
            obtain ⟨at',e⟩:=pe;rintro ⟨Z',rfl,hE⟩;refine gS ?_;rw [H4];exact ⟨_,rfl,Ob.trans hE⟩
          | ok k1 =>
          have hs1:=CE hR1;rintro ⟨Z4,rfl,hE4,q4,hk4⟩;rw [C2]
          try dsimp only
          have h4:=h3.W7 hE4 q4 hk4;have NF:=Ob.trans hE4;have hn4:=hE4.n;have z4:Z4.A5 Z.n=some [str [],.int .i64 0,.int .i64 0,str [],.slice none 0 0,.int .i64 0]:=by rw [hE4.A5 om om];exact z3
          refine gS ?_;refine (hF (fun q=>L q\/q=Z.n) Z4 k1 p (.inl hb) (fun q hq=>by have:=hM q hq;omega) om om h4).mono ?_;intro r;cases hR2:F k1 p with
          | error pe =>
            obtain ⟨at',e⟩:=pe;rintro ⟨Z',rfl,hE⟩;refine gS ?_;rw [H4];exact ⟨_,rfl,NF.trans hE⟩
          | ok x =>
          obtain ⟨e,d,k2,p2⟩:=x;have hbd:=hB _ _ _ _ _ _ hR2;rintro ⟨Z5,xu,rfl,hE5,q5,hk5,hf5⟩;obtain ⟨v1,v2,v3,v4,v5,rfl⟩:=hf5.ER;rw [C2]
          try dsimp only
          have hn5:=hE5.n;have z5:Z5.A5 Z.n=some [str [],.int .i64 0,.int .i64 0,str [],.slice none 0 0,.int .i64 0]:=by rw [hE5.A5 om om];exact z4
          refine gS ?_;have Jn:C5 b Z ((Z5.new [str [],.int .i64 0,.int .i64 0,str [],.slice none 0 0,.int .i64 0] (some 154)).upd Z5.n [v1,v2,v3,v4,v5,.int .i64 (d:Nat)]):=((NF.trans hE5).KZ _).BJ om _;have hEa:Ext Z5 ((Z5.new [str [],.int .i64 0,.int .i64 0,str [],.slice none 0 0,.int .i64 0] (some 154)).upd Z5.n [v1,v2,v3,v4,v5,.int .i64 (d:Nat)]):=(Ext.new _ _).upd (Nat.le_refl _) _;have hfa:Ag (fun q=>(L q\/q=Z.n)\/q=Z5.n) ((Z5.new [str [],.int .i64 0,.int .i64 0,str [],.slice none 0 0,.int .i64 0] (some 154)).upd Z5.n [v1,v2,v3,v4,v5,.int .i64 (d:Nat)]) [v1,v2,v3,v4,v5] e:=hf5.more hEa (by rintro q (hq|rfl);exact .inl hq;exact .inr (Nat.le_refl _));have h5:=h.W7 Jn (k':=k2) (rest':=[.int .i64 (p2:Nat)]) (cL1 q5) hk5;refine (Od h5 I4 (w:=[44]) (by simp)).mono ?_;intro r;cases hR3:De toks [44] k2 with
          | error pe =>
            obtain ⟨at',e⟩:=pe;rintro ⟨Z',rfl,hE⟩;refine gS ?_;rw [H4];exact ⟨_,rfl,Jn.trans hE⟩
          | ok k3 =>
          have hs3:=CE hR3;rintro ⟨Z6,rfl,hE6,q6,hk6⟩;rw [C2]
          try dsimp only
          have h6:=h5.W7 hE6 q6 hk6;have jR:=Jn.trans hE6;have hn6:=hE6.n;simp at hn6;have hfb:=hfa.W7 hE6 (.inl (.inl hb));have r6:Z6.A5 Z5.n=some [v1,v2,v3,v4,v5,.int .i64 (d:Nat)]:=by rw [hE6.A5 (by simp) om];exact C8
          have z6:Z6.A5 Z.n=some [str [],.int .i64 0,.int .i64 0,str [],.slice none 0 0,.int .i64 0]:=by rw [hE6.A5 (by simp;omega) om,D1 om,F5 om];exact z5
          refine gS ?_;refine (hF (fun q=>(L q\/q=Z.n)\/q=Z5.n) Z6 k3 p2 (.inl (.inl hb)) (by rintro q (hq|rfl);have:=hM q hq;omega;omega) om om h6).mono ?_;intro r;cases hR4:F k3 p2 with
          | error pe =>
            obtain ⟨at',e⟩:=pe;rintro ⟨Z',rfl,hE⟩;refine gS ?_;rw [H4];exact ⟨_,rfl,jR.trans hE⟩
          | ok x =>
          obtain ⟨e',d',k4,p4⟩:=x;have AV0:=hB _ _ _ _ _ _ hR4;rintro ⟨Z7,kx,rfl,hE7,q7,hk7,hf7⟩;obtain ⟨w1,w2,w3,w4,w5,rfl⟩:=hf7.ER;rw [C2]
          try dsimp only
          have hn7:=hE7.n;have hfc:=hfb.W7 hE7 (.inl (.inl hb));have r7:Z7.A5 Z5.n=some [v1,v2,v3,v4,v5,.int .i64 (d:Nat)]:=by rw [hE7.A5 om om];exact r6
          have z7:Z7.A5 Z.n=some [str [],.int .i64 0,.int .i64 0,str [],.slice none 0 0,.int .i64 0]:=by rw [hE7.A5 om om];exact z6
          refine gS ?_;have XP:C5 b Z ((Z7.new [str [],.int .i64 0,.int .i64 0,str [],.slice none 0 0,.int .i64 0] (some 154)).upd Z7.n [w1,w2,w3,w4,w5,.int .i64 (d':Nat)]):=((jR.trans hE7).KZ _).BJ om _;have hEb:Ext Z7 ((Z7.new [str [],.int .i64 0,.int .i64 0,str [],.slice none 0 0,.int .i64 0] (some 154)).upd Z7.n [w1,w2,w3,w4,w5,.int .i64 (d':Nat)]):=(Ext.new _ _).upd (Nat.le_refl _) _;have h7:=h.W7 XP (k':=k4) (rest':=[.int .i64 (p4:Nat)]) (cL1 q7) hk7;refine (Od h7 I4 (w:=[41]) (by simp)).mono ?_;intro r;cases hR5:De toks [41] k4 with
          | error pe =>
            obtain ⟨at',e⟩:=pe;rintro ⟨Z',rfl,hE⟩;refine gS ?_;rw [H4];exact ⟨_,rfl,XP.trans hE⟩
          | ok k5 =>
          have hs5:=CE hR5;rintro ⟨Z8,rfl,hE8,q8,hk8⟩;rw [C2]
          try dsimp only
          have h8:=h7.W7 hE8 q8 hk8;have Rm:=XP.trans hE8;have hn8:=hE8.n;simp at hn8;have g1:=(hfc.more (L':=fun q=>((L q\/q=Z.n)\/q=Z5.n)\/q=Z7.n) hEb (by rintro q (hq|rfl);exact .inl hq;exact .inr (Nat.le_refl _))).W7 hE8 (.inl (.inl (.inl hb)));have g2:=(hf7.more (L':=fun q=>((L q\/q=Z.n)\/q=Z5.n)\/q=Z7.n) hEb (by rintro q (hq|rfl);exact .inl hq;exact .inr (Nat.le_refl _))).W7 hE8 (.inl (.inl (.inl hb)));have r8:Z8.row Z5.n=some [v1,v2,v3,v4,v5,.int .i64 (d:Nat)]:=by rw [hE8.row (by simp;omega) om];exact A8 (by rw [D1 om,F5 om];exact r7)
          have r8':Z8.row Z7.n=some [w1,w2,w3,w4,w5,.int .i64 (d':Nat)]:=by rw [hE8.row (by simp) om];exact A8 C8
          have z8:Z8.A5 Z.n=some [str [],.int .i64 0,.int .i64 0,str [],.slice none 0 0,.int .i64 0]:=by rw [hE8.A5 (by simp;omega) om,D1 om,F5 om];exact z7
          refine gS1 (aI @r8 @r8') ?_;refine (Qk h8 (op:=c::s) (d:=d) (d':=d') om om om g1 g2 (.inl (.inl (.inl hb))) (by rintro q (((hq|rfl)|rfl)|rfl);have:=hL q hq;omega;omega;omega;omega)).mono ?_;rintro r ⟨Z9,AV1,rfl,hE9,q9,hk9,hf9⟩;obtain ⟨y1,y2,y3,y4,y5,rfl⟩:=hf9.ER;have hn9:=hE9.n;have z9:Z9.A5 Z.n=some [str [],.int .i64 0,.int .i64 0,str [],.slice none 0 0,.int .i64 0]:=by rw [hE9.A5 om om];exact z8
          refine gS1 (aI @z9 @Tryz.results173) ?_;exact ⟨_,[y1,y2,y3,y4,y5],rfl,(Rm.trans hE9).BJ (Nat.le_refl _) _,by rw [D1 om];exact q9,hk9,(hf9.W7 (b:=Z.n) (C5.upd .refl _) (.inl (.inl (.inr rfl)))).Mm fun q hq=> .inl (.inl (.inl hq))⟩
         ·refine gS1 (a7N @cD @hmi @hma @m1 @m2 @J1 @J2) ?_;refine (W8 h2 ht0).mono ?_;rintro r ⟨Z3,rfl,hE3,q3⟩;have hk3:=I4 k _ ht0 (by rw [hw];simp);have h3:=h2.W7 hE3 q3 hk3;have hn3:=hE3.n;have z3:Z3.A5 Z.n=some [str [],.int .i64 0,.int .i64 0,str [],.slice none 0 0,.int .i64 0]:=by rw [hE3.A5 om om];exact z1
          have Ob:C5 b Z Z3:=(C5.of KE).trans hE3;refine gS ?_;refine (Od h3 I4 (w:=[40]) (by simp)).mono ?_;intro r;cases hR1:De toks [40] (k+1) with
          | error pe =>
            obtain ⟨at',e⟩:=pe;rintro ⟨Z',rfl,hE⟩;refine gS ?_;rw [H4];exact ⟨_,rfl,Ob.trans hE⟩
          | ok k1 =>
          have hs1:=CE hR1;rintro ⟨Z4,rfl,hE4,q4,hk4⟩;rw [C2]
          try dsimp only
          have h4:=h3.W7 hE4 q4 hk4;have NF:=Ob.trans hE4;have hn4:=hE4.n;have z4:Z4.A5 Z.n=some [str [],.int .i64 0,.int .i64 0,str [],.slice none 0 0,.int .i64 0]:=by rw [hE4.A5 om om];exact z3
          refine gS ?_;refine (hF (fun q=>L q\/q=Z.n) Z4 k1 p (.inl hb) (fun q hq=>by have:=hM q hq;omega) om om h4).mono ?_;intro r;cases hR2:F k1 p with
          | error pe =>
            obtain ⟨at',e⟩:=pe;rintro ⟨Z',rfl,hE⟩;refine gS ?_;rw [H4];exact ⟨_,rfl,NF.trans hE⟩
          | ok x =>
          obtain ⟨e,d,k2,p2⟩:=x;have hbd:=hB _ _ _ _ _ _ hR2;rintro ⟨Z5,xu,rfl,hE5,q5,hk5,hf5⟩;obtain ⟨v1,v2,v3,v4,v5,rfl⟩:=hf5.ER;rw [C2]
          try dsimp only
          have hn5:=hE5.n;have z5:Z5.A5 Z.n=some [str [],.int .i64 0,.int .i64 0,str [],.slice none 0 0,.int .i64 0]:=by rw [hE5.A5 om om];exact z4
          refine gS ?_;have Jn:C5 b Z ((Z5.new [str [],.int .i64 0,.int .i64 0,str [],.slice none 0 0,.int .i64 0] (some 154)).upd Z5.n [v1,v2,v3,v4,v5,.int .i64 (d:Nat)]):=((NF.trans hE5).KZ _).BJ om _;have hEa:Ext Z5 ((Z5.new [str [],.int .i64 0,.int .i64 0,str [],.slice none 0 0,.int .i64 0] (some 154)).upd Z5.n [v1,v2,v3,v4,v5,.int .i64 (d:Nat)]):=(Ext.new _ _).upd (Nat.le_refl _) _;have hfa:Ag (fun q=>(L q\/q=Z.n)\/q=Z5.n) ((Z5.new [str [],.int .i64 0,.int .i64 0,str [],.slice none 0 0,.int .i64 0] (some 154)).upd Z5.n [v1,v2,v3,v4,v5,.int .i64 (d:Nat)]) [v1,v2,v3,v4,v5] e:=hf5.more hEa (by rintro q (hq|rfl);exact .inl hq;exact .inr (Nat.le_refl _));have h5:=h.W7 Jn (k':=k2) (rest':=[.int .i64 (p2:Nat)]) (cL1 q5) hk5;refine (Od h5 I4 (w:=[44]) (by simp)).mono ?_;intro r;cases hR3:De toks [44] k2 with
          | error pe =>
            obtain ⟨at',e⟩:=pe;rintro ⟨Z',rfl,hE⟩;refine gS ?_;rw [H4];exact ⟨_,rfl,Jn.trans hE⟩
          | ok k3 =>
          have hs3:=CE hR3;rintro ⟨Z6,rfl,hE6,q6,hk6⟩;rw [C2]
          try dsimp only
          have h6:=h5.W7 hE6 q6 hk6;have jR:=Jn.trans hE6;have hn6:=hE6.n;simp at hn6;have hfb:=hfa.W7 hE6 (.inl (.inl hb));have r6:Z6.A5 Z5.n=some [v1,v2,v3,v4,v5,.int .i64 (d:Nat)]:=by rw [hE6.A5 (by simp) om];exact C8
          have z6:Z6.A5 Z.n=some [str [],.int .i64 0,.int .i64 0,str [],.slice none 0 0,.int .i64 0]:=by rw [hE6.A5 (by simp;omega) om,D1 om,F5 om];exact z5
          refine gS ?_;refine (hF (fun q=>(L q\/q=Z.n)\/q=Z5.n) Z6 k3 p2 (.inl (.inl hb)) (by rintro q (hq|rfl);have:=hM q hq;omega;omega) om om h6).mono ?_;intro r;cases hR4:F k3 p2 with
          | error pe =>
            obtain ⟨at',e⟩:=pe;rintro ⟨Z',rfl,hE⟩;refine gS ?_;rw [H4];exact ⟨_,rfl,jR.trans hE⟩
          | ok x =>
          obtain ⟨e',d',k4,p4⟩:=x;have AV0:=hB _ _ _ _ _ _ hR4;rintro ⟨Z7,kx,rfl,hE7,q7,hk7,hf7⟩;obtain ⟨w1,w2,w3,w4,w5,rfl⟩:=hf7.ER;rw [C2]
          try dsimp only
          have hn7:=hE7.n;have hfc:=hfb.W7 hE7 (.inl (.inl hb));have r7:Z7.A5 Z5.n=some [v1,v2,v3,v4,v5,.int .i64 (d:Nat)]:=by rw [hE7.A5 om om];exact r6
          have z7:Z7.A5 Z.n=some [str [],.int .i64 0,.int .i64 0,str [],.slice none 0 0,.int .i64 0]:=by rw [hE7.A5 om om];exact z6
          refine gS ?_;have XP:C5 b Z ((Z7.new [str [],.int .i64 0,.int .i64 0,str [],.slice none 0 0,.int .i64 0] (some 154)).upd Z7.n [w1,w2,w3,w4,w5,.int .i64 (d':Nat)]):=((jR.trans hE7).KZ _).BJ om _;have hEb:Ext Z7 ((Z7.new [str [],.int .i64 0,.int .i64 0,str [],.slice none 0 0,.int .i64 0] (some 154)).upd Z7.n [w1,w2,w3,w4,w5,.int .i64 (d':Nat)]):=(Ext.new _ _).upd (Nat.le_refl _) _;have h7:=h.W7 XP (k':=k4) (rest':=[.int .i64 (p4:Nat)]) (cL1 q7) hk7;refine (Od h7 I4 (w:=[41]) (by simp)).mono ?_;intro r;cases hR5:De toks [41] k4 with
          | error pe =>
            obtain ⟨at',e⟩:=pe;rintro ⟨Z',rfl,hE⟩;refine gS ?_;rw [H4];exact ⟨_,rfl,XP.trans hE⟩
          | ok k5 =>
          have hs5:=CE hR5;rintro ⟨Z8,rfl,hE8,q8,hk8⟩;rw [C2]
          try dsimp only
          have h8:=h7.W7 hE8 q8 hk8;have Rm:=XP.trans hE8;have hn8:=hE8.n;simp at hn8;have g1:=(hfc.more (L':=fun q=>((L q\/q=Z.n)\/q=Z5.n)\/q=Z7.n) hEb (by rintro q (hq|rfl);exact .inl hq;exact .inr (Nat.le_refl _))).W7 hE8 (.inl (.inl (.inl hb)));have g2:=(hf7.more (L':=fun q=>((L q\/q=Z.n)\/q=Z5.n)\/q=Z7.n) hEb (by rintro q (hq|rfl);exact .inl hq;exact .inr (Nat.le_refl _))).W7 hE8 (.inl (.inl (.inl hb)));have r8:Z8.row Z5.n=some [v1,v2,v3,v4,v5,.int .i64 (d:Nat)]:=by rw [hE8.row (by simp;omega) om];exact A8 (by rw [D1 om,F5 om];exact r7)
          have r8':Z8.row Z7.n=some [w1,w2,w3,w4,w5,.int .i64 (d':Nat)]:=by rw [hE8.row (by simp) om];exact A8 C8
          have z8:Z8.A5 Z.n=some [str [],.int .i64 0,.int .i64 0,str [],.slice none 0 0,.int .i64 0]:=by rw [hE8.A5 (by simp;omega) om,D1 om,F5 om];exact z7
          refine gS1 (aI @r8 @r8') ?_;refine (Qk h8 (op:=c::s) (d:=d) (d':=d') om om om g1 g2 (.inl (.inl (.inl hb))) (by rintro q (((hq|rfl)|rfl)|rfl);have:=hL q hq;omega;omega;omega;omega)).mono ?_;rintro r ⟨Z9,AV1,rfl,hE9,q9,hk9,hf9⟩;obtain ⟨y1,y2,y3,y4,y5,rfl⟩:=hf9.ER;have hn9:=hE9.n;have z9:Z9.A5 Z.n=some [str [],.int .i64 0,.int .i64 0,str [],.slice none 0 0,.int .i64 0]:=by rw [hE9.A5 om om];exact z8
          refine gS1 (aI @z9 @Tryz.results173) ?_;exact ⟨_,[y1,y2,y3,y4,y5],rfl,(Rm.trans hE9).BJ (Nat.le_refl _) _,by rw [D1 om];exact q9,hk9,(hf9.W7 (b:=Z.n) (C5.upd .refl _) (.inl (.inl (.inr rfl)))).Mm fun q hq=> .inl (.inl (.inl hq))⟩
theorem my {L:Nat->Prop}{b:Nat}{Z:St}{tv:Value}{toks:List Tok}{k p:Nat}{F:Nat->Nat->Except Er Fx}(h:Sc Z b tv toks k [.int .i64 (p:Nat)]) (I4:Ends toks) (hsh:Gu toks) (htl:toks.length<100000000) (hp:p<=k) (hb:L b) (hL:∀ q,L q->q<Z.n)
  (hF:∀ (M:Nat->Prop) (Z':St) (k' p':Nat),M b->(∀ q,M q->q<Z'.n)->k<k'->p'<=k'->Sc Z' b tv toks k' [.int .i64 (p':Nat)]->Ev (go Tryz.prog HS (.fn 84) [.pointer (some ⟨b,0,none⟩)] Z') (FmP M Z' b tv toks (F k' p')) ⟨⟩)
  (hB:∀ k' p',Bd k' p' (F k' p')) :
  Ev (go Tryz.prog HS (.fn 133) [.pointer (some ⟨b,0,none⟩)] Z) (FmP L Z b tv toks (Dw (Ge F toks) [42,47] toks k p)) ⟨⟩:=by
 have hbl:=h.lt;refine D7 Tryz.func133 rfl rfl ?_;refine gS ?_;have h1:=h.ext (Ext.new (t:=some 154) Z [str [],.int .i64 0,.int .i64 0,str [],.slice none 0 0,.int .i64 0])
 refine (UM (L:=fun q=>L q\/q=Z.n) (A:=Ge F toks) h1 I4 htl hp (.inl hb) (by rintro q (hq|rfl);have:=hL q hq;simp;omega;simp)
  (fun M Z' k' p' m1 m2 m3 m4 m5=>ag m5 I4 hsh htl m4 m1 m2 (fun N Z2 k2 p2 n1 n2 n3 n4 n5=>hF N Z2 k2 p2 n1 n2 om n4 n5) hB) (fun k' p' _=>MZ hB k' p')).mono ?_
 intro r;cases hR:Dw (Ge F toks) [42,47] toks k p with
 | error pe =>
   obtain ⟨at',e⟩:=pe;rintro ⟨Z',rfl,hE⟩;refine gS ?_;exact ⟨_,rfl,(C5.of (.new _ _)).trans hE⟩
 | ok x =>
   obtain ⟨e,d,k',p'⟩:=x;rintro ⟨Z',row,rfl,hE,q',hk',hf⟩;obtain ⟨v1,v2,v3,v4,v5,rfl⟩:=hf.ER;have hn':=hE.n;simp at hn';have z':Z'.A5 Z.n=some [str [],.int .i64 0,.int .i64 0,str [],.slice none 0 0,.int .i64 0]:=by rw [hE.A5 (by simp) om];exact cL
   refine gS1 (aI @z' @Tryz.results133) ?_;exact ⟨_,[v1,v2,v3,v4,v5],rfl,((C5.of (.new _ _)).trans hE).BJ (Nat.le_refl _) _,cL1 q',hk',(hf.W7 (b:=Z.n) (C5.upd .refl _) (.inr rfl)).Mm fun q hq=> .inl hq⟩
theorem Va {b:Nat}{tv:Value}{toks:List Tok}(I4:Ends toks) (hsh:Gu toks) (htl:toks.length<100000000):∀ (f:Nat) (L:Nat->Prop) (Z:St) (k p:Nat),toks.length-k<=f->L b->(∀ q,L q->q<Z.n)->p<=k->Sc Z b tv toks k [.int .i64 (p:Nat)] ->
  Ev (go Tryz.prog HS (.fn 84) [.pointer (some ⟨b,0,none⟩)] Z) (FmP L Z b tv toks (Om toks f k p)) ⟨⟩:=by
 intro f;induction f with
 | zero=>intro L Z k p hf hb hL hp h;have:=h.k;omega
 | succ f ih =>
   intro L Z k p hf hb hL hp h;have hbl:=h.lt;refine D7 Tryz.func84 rfl rfl ?_;refine gS ?_;have h1:=h.ext (Ext.new (t:=some 154) Z [str [],.int .i64 0,.int .i64 0,str [],.slice none 0 0,.int .i64 0]);have hB:=RA (toks:=toks) f
   refine (UM (L:=fun q=>L q\/q=Z.n) (A:=fun k p=>Dw (Ge (Om toks f) toks) [42,47] toks k p) h1 I4 htl hp (.inl hb) (by rintro q (hq|rfl);have:=hL q hq;simp;omega;simp)
    (fun M Z' k' p' m1 m2 m3 m4 m5=>my m5 I4 hsh htl m4 m1 m2 (fun N Z2 k2 p2 n1 n2 n3 n4 n5=>ih N Z2 k2 p2 om n1 n2 n4 n5) hB) (fun k' p' _=>HZ (fun k p=>MZ hB k p) k' p')).mono ?_
   intro r;show FmP _ _ b tv toks (Om toks (f+1) k p) r->_;cases hR:Om toks (f+1) k p with
   | error pe =>
     obtain ⟨at',e⟩:=pe;rintro ⟨Z',rfl,hE⟩;refine gS ?_;exact ⟨_,rfl,(C5.of (.new _ _)).trans hE⟩
   | ok x =>
     obtain ⟨e,d,k',p'⟩:=x;rintro ⟨Z',row,rfl,hE,q',hk',hf⟩;obtain ⟨v1,v2,v3,v4,v5,rfl⟩:=hf.ER;have hn':=hE.n;simp at hn';have z':Z'.A5 Z.n=some [str [],.int .i64 0,.int .i64 0,str [],.slice none 0 0,.int .i64 0]:=by rw [hE.A5 (by simp) om];exact cL
     refine gS1 (aI @z' @Tryz.results84) ?_;exact ⟨_,[v1,v2,v3,v4,v5],rfl,((C5.of (.new _ _)).trans hE).BJ (Nat.le_refl _) _,cL1 q',hk',(hf.W7 (b:=Z.n) (C5.upd .refl _) (.inr rfl)).Mm fun q hq=> .inl hq⟩
noncomputable def Pa (toks:List Tok):Except Er Ex:=Q9 (Om toks toks.length 0 0) fun (e,d,k,p) =>
 if (A9 toks k).1=[] then if (decide (60<p)||decide (12<d))=true then .error ((A9 toks 0).2,2) else .ok e else .error ((A9 toks k).2,12)
def RdP (Z:St) (R:Except Er Ex) (r:CR):Prop:=match R with
 | .ok e=>∃ Z' row,r=⟨false,.agg ⟨row⟩,Z'⟩/\Ext Z Z'/\Ag (fun q=>q<Z.n) Z' row e
 | .error (p,e)=>∃ Z',r=⟨true,fault p e,Z'⟩/\Ext Z Z'
theorem kK {Z:St}{tv:Value}{toks:List Tok}(hsl:SL Z 2 tv (toks.map Ch)) (h0:0<toks.length) (I4:Ends toks) (hsh:Gu toks) (htl:toks.length<100000000) :
  Ev (go Tryz.prog HS (.fn 51) [tv] Z) (RdP Z (Pa toks)) ⟨⟩:=by
 obtain ⟨a,c,bb0,off,cells,rfl,y1,y2⟩:=SL.use hsl;rw [List.length_map] at *;obtain ⟨sp,rfl,y3,y4⟩:=y1 h0;have ht0:=W1 h0;have hk0:sub cells (off+0*2) 2=some [str (A9 toks 0).1,.int .i64 ((A9 toks 0).2:Nat)]:=y2 0 (Ch (A9 toks 0)) (by rw [List.getElem?_map,ht0];rfl);have hk1:sub cells (off+1) 1=some [.int .i64 ((A9 toks 0).2:Nat)]:=by
  have:=Dr (i:=1) (m:=1) hk0 om;rw [Nat.zero_mul,Nat.add_zero] at this;exact this
 refine D7 Tryz.func51 rfl rfl ?_;refine gS ?_;have hE1:Ext Z ((Z.new [str [],.int .i64 0,.int .i64 0,str [],.slice none 0 0] (some 35)).new [.slice (some ⟨bb0,off,sp⟩) toks.length c,.int .i64 0,.int .i64 0]):=(Ext.new _ _).trans (.new _ _)
 have h1:Sc ((Z.new [str [],.int .i64 0,.int .i64 0,str [],.slice none 0 0] (some 35)).new [.slice (some ⟨bb0,off,sp⟩) toks.length c,.int .i64 0,.int .i64 0]) (Z.n+1) (.slice (some ⟨bb0,off,sp⟩) toks.length c) toks 0 [.int .i64 (0:Nat)] :=
  ⟨cL,by simp,hsl.mono hE1,by show some bb0≠some (Z.n+1);intro e;cases e;omega,h0,om⟩
 refine (Va I4 hsh htl toks.length (fun q=>q<Z.n+2) _ 0 0 om (by show Z.n+1<Z.n+2;omega) (fun q hq=>by simp;exact hq) (Nat.le_refl _) h1).mono ?_;intro r;unfold Pa;cases hR:Om toks toks.length 0 0 with
 | error pe =>
   obtain ⟨p,e⟩:=pe;rintro ⟨Z',rfl,hE⟩;refine gS ?_;rw [H4];exact ⟨_,rfl,hE.ext hE1 om⟩
 | ok x =>
   obtain ⟨e,d,k,p⟩:=x;have hbd:=RA _ _ _ _ _ _ _ hR;rintro ⟨Z2,row,rfl,hE2,q2,hk2,hf2⟩;obtain ⟨v1,v2,v3,v4,v5,rfl⟩:=hf2.ER;rw [C2]
   try dsimp only
   have hn2:=hE2.n;simp at hn2;have JY:Ext Z Z2:=hE2.ext hE1 om;have z2:Z2.A5 Z.n=some [str [],.int .i64 0,.int .i64 0,str [],.slice none 0 0]:=by rw [hE2.A5 (by simp;omega) om];exact cL
   refine gS ?_;have hE3:C5 (Z.n+1) ((Z.new [str [],.int .i64 0,.int .i64 0,str [],.slice none 0 0] (some 35)).new [.slice (some ⟨bb0,off,sp⟩) toks.length c,.int .i64 0,.int .i64 0]) ((Z2.new [str [],.int .i64 0,.int .i64 0,str [],.slice none 0 0,.int .i64 0] (some 154)).upd Z2.n [v1,v2,v3,v4,v5,.int .i64 (d:Nat)]):=(hE2.KZ _).BJ (by simp;omega) _;have h3:=h1.W7 hE3 (k':=k) (rest':=[.int .i64 (p:Nat)]) (cL1 q2) hk2;have ht3:=W1 hk2;refine (T7 h3 ht3).mono ?_;rintro r ⟨Z4,rfl,hE4⟩;have h4:=h3.ext hE4;have hn4:=hE4.n;simp at hn4;refine gS ?_;refine (K6 h4 ht3).mono ?_;have NF:Ext Z Z4:=(((JY.AF _).upd om _)).trans hE4;rintro r (⟨hok,rfl⟩|⟨hok,Z5,rfl,hE5⟩)
   case inr =>
    refine gS ?_;refine H3.intro (by kernel_rfl) ?_;refine gS ?_;rw [if_neg (of_decide_eq_false hok)];exact ⟨_,rfl,NF.trans hE5⟩
   rw [if_pos (of_decide_eq_true hok)];have r4:=A8 h4.row;have r4':Z4.row Z2.n=some [v1,v2,v3,v4,v5,.int .i64 (d:Nat)]:=by rw [hE4.row (by simp)];exact A8 C8
   have z4:Z4.A5 Z.n=some [str [],.int .i64 0,.int .i64 0,str [],.slice none 0 0]:=by rw [A6 (hE4.same _ (by simp;omega)),D1 om,F5 om];exact z2
   have y5:Z4.row bb0=some cells:=by rw [NF.row y3];exact y4
   have e60:decide ((60:Int)<((p:Nat):Int))=decide (60<p):=by rw [Bool.eq_iff_iff,decide_eq_true_iff,decide_eq_true_iff];omega
   have e12:decide ((12:Int)<((d:Nat):Int))=decide (12<d):=by rw [Bool.eq_iff_iff,decide_eq_true_iff,decide_eq_true_iff];omega
   have l0:decide (0<toks.length)=true:=decide_eq_true h0;cases rI:decide (60<p) with
   | true =>
     refine gS1 (a8N @r4 @e60 @rI @J1 @J2 @y5 @hk1 @l0) ?_;exact ⟨_,rfl,NF⟩
   | false =>
     cases xG:decide (12<d) with
     | true =>
       refine gS1 (a11N @r4 @r4' @e60 @rI @e12 @xG @J1 @J2 @y5 @hk1 @l0) ?_;exact ⟨_,rfl,NF⟩
     | false =>
       refine gS1 (a10N @r4 @r4' @e60 @rI @e12 @xG @J1 @J2 @z4 @Tryz.results51) ?_;rw [if_neg (by simp)];refine ⟨_,[v1,v2,v3,v4,v5],rfl,NF.upd om _,?_⟩;have AF3:Ext Z2 Z4:=((Ext.new _ _).upd (Nat.le_refl _) _).trans hE4;exact ((hf2.ext AF3).W7 (b:=Z.n) (C5.upd .refl _) (by show Z.n<Z.n+2;omega)).Mm fun q hq=>by show q<Z.n+2;omega
section
variable {Z ZL:St} {bt bx:Nat} {T:Tn} {tv:Value} {toks:List Tok} {k:Nat} {tx:By} {from':Nat} {v:Nat->Value} {fc vs:List Value}
noncomputable def EM (toks:List Tok) (tx:By) (from':Nat) (T:Tn) (_:Nat):Except Er (Tn×Nat):=Q9 (Pa (Cr tx from')) fun e=> .ok ({ T with f:=e },toks.length-1)
theorem dF (h:Ln ZL Z bt bx T tv toks k (M4 tx from' bt) v fc vs) (htx:tx.length<10000000) (hfr:from'<10000000) (I4:Ends (Cr tx from')) (hsh:Gu (Cr tx from')) :
  Ev (go Tryz.prog HS (.fn 122) [.pointer (some ⟨bx,0,none⟩)] Z) (LnP ZL bt bx tv toks (M4 tx from' bt) (EM toks tx from' T k)) ⟨⟩:=by
 refine D7 Tryz.func122 rfl rfl ?_;have hx:=A8 h.sc.row;unfold M4 at hx;have AW4:(Cr tx from').length<=tx.length+1:=by
  unfold Cr;rw [List.length_append];have:=dG (s:=tx) (from':=from') tx.length 0;simp;omega
 have Lw:0<(Cr tx from').length:=by unfold Cr;simp
 have m1:=h.btl;have m2:=h.bxg;have m3:=h.ext.n;have m4:=h.sc.lt;refine gS1 @hx ?_;refine (Vb htx hfr).mono ?_;rintro r ⟨fv,Z1,rfl,hol,hE1⟩;have h1:=h.J6 hE1;obtain ⟨fa,rfl⟩:=OL.shape hol;have AF4:=OL.sl hol;refine gS ?_;refine (kK AF4 Lw I4 hsh om).mono ?_;intro r;unfold EM;cases hR:Pa (Cr tx from') with
 | error pe =>
   obtain ⟨p,e⟩:=pe;rintro ⟨Z',rfl,hE⟩;refine gS ?_;refine H3.intro (by kernel_rfl) ?_;refine H3.intro (by (repeat first|simp (disch:=omega) only [B9,C9,C0,I9,L9,M0,I8,N8,W3 hE1,W3 hE]|rw [D0 (by kernel_rfl)]);first|done|rfl) ?_;refine gS ?_;rw [H4];exact ⟨_,rfl,(h1.J6 hE).ext⟩
 | ok e =>
   rintro ⟨Z2,row,rfl,hE2,hf2⟩;obtain ⟨u1,u2,u3,u4,u5,rfl⟩:=hf2.ER;rw [C2];have h2:=h1.J6 hE2;have hfx:Ah (H6 Z2 (held bt bx v)) [u1,u2,u3,u4,u5] e:=by
    refine hf2 _ fun q hq=>?_;have hn1:=hE1.n;rcases BW.1 hq with e|e|⟨i,hi,e⟩|e
    ·omega
    ·omega
    ·have:=((h.sl i hi).blk e).2;omega
    ·omega
   have h3:=h2.fml hfx;have ro:=h2.row;obtain ⟨c1,c2,c3,c4,c5,rfl⟩:=fc5 h.fx;unfold tnR T3 at ro;have rx:=A8 h2.sc.row;have rx':=h2.sc.row;have hlk:=h.sc.k;have hll:=h.sc.len;obtain ⟨sa,sc,sb,AZ1,AF5,rfl,-,-⟩:=SL.use h.sc.sl;rw [List.length_map] at *;unfold M4 at rx rx';refine gS1 @ro ?_;refine H3.intro (by (repeat first|simp (disch:=omega) only [B9,C9,C0,I9,L9,M0,I8,N8,W3 hE1,W3 hE2]|rw [D0 (by kernel_rfl)]);first|done|rfl) ?_;have e1:((toks.length:Nat):Int)-1=((toks.length-1:Nat):Int):=om;refine gS1 (a4N @rx @rx' @e1 @Tryz.results122) ?_;rw [List.length_map];exact ⟨_,v,[u1,u2,u3,u4,u5],vs,rfl,h3.step (C5.upd .refl _) C8 om⟩
end
end Go.Proofs.T
