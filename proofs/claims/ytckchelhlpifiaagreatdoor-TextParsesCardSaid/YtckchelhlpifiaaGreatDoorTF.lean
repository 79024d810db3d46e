/- The tokens of a Cc. -/
import Derived.Test.YtckchelhlpifiaaGreatDoorTD
set_option linter.unusedSimpArgs false
set_option linter.unusedVariables false
set_option linter.defProp false
set_option maxHeartbeats 32000000
set_option maxRecDepth 100000
namespace Go.Proofs.T
open Go Go.Ab
section
variable {s:By}{from' k:Nat}{c:UInt8}
def L7 (s:By) (k:Nat) (c:UInt8):Nat :=
 if on Di c then k+I0 Bw s k else if on F0 c then
  if (decide (k+I0 F0 s k<s.length)&&decide (s[k+I0 F0 s k]? =some 46)&&decide (k+I0 F0 s k+1<min (k+I0 F0 s k+1) s.length+I0 F0 s (min (k+I0 F0 s k+1) s.length)))=true
  then min (k+I0 F0 s k+1) s.length+I0 F0 s (min (k+I0 F0 s k+1) s.length)else k+I0 F0 s k
 else k+1
def fT (s:By) (from':Nat):Nat->Nat->List Tok
 |0,_=>[]
 | f+1,k=>match s[k]? with
   |none=>[]
   |some c=>if c=32 then fT s from' f (k+1)else((s.drop k).take (L7 s k c-k),from'+k)::fT s from' f (L7 s k c)
def CE (s:By) (from':Nat):List Tok:=fT s from' s.length 0++[([],from'+s.length)]
def Yh {p:Int->Bool}(h:s[k]? =some c) (hp:on p c=true):0<I0 p s k:=by
 obtain⟨h1,h2⟩:=List.getElem?_eq_some_iff.1 h;unfold I0;rw[LW h1,h2,WJ,hp];simp
def Mn (h:s[k]? =some c):k<L7 s k c/\L7 s k c<=s.length:=by
 obtain⟨h1,h2⟩:=List.getElem?_eq_some_iff.1 h;unfold L7;split
 ·rename_i hl;have hf:on Bw c=true:=by unfold on Bw;rw[show Di (c.toNat:Nat)=true from hl];rfl
  have:=Yh h hf;have:=EH Bw s k om;omega
 ·split
  ·rename_i hd;have:=Yh h hd;have:=EH F0 s k om;have:=EH F0 s (min (k+I0 F0 s k+1) s.length) om;split
   ·rename_i hx;rw[y6,y6,z3z,z3z,z3z]at hx;omega
   ·omega
  ·omega
def HW:∀ (f f' k:Nat),s.length-k<=f->s.length-k<=f'->fT s from' f k=fT s from' f' k:=by
 intro f;induction f with
 | zero=>
   intro f' k h1 _;cases f' with
   |zero=>rfl
   | succ f'=>
     unfold fT;rw[List.getElem?_eq_none om]
 | succ f ih=>
   intro f' k h1 h2;cases f' with
   | zero=>
     unfold fT;rw[List.getElem?_eq_none om]
   | succ f'=>
     unfold fT;cases hc:s[k]? with
     |none=>rfl
     | some c=>
       have:=(List.getElem?_eq_some_iff.1 hc).1;have h3:=Mn hc;dsimp only;rw[ih f' (k+1) om om,ih f' (L7 s k c) om om]
def UX:∀ (f k:Nat),(fT s from' f k).length<=s.length-k:=by
 intro f;induction f with
 |zero=>intro k;simp[fT]
 | succ f ih=>
   intro k;unfold fT;cases hc:s[k]? with
   |none=>simp
   | some c=>
     have:=(List.getElem?_eq_some_iff.1 hc).1;have h3:=Mn hc;have h4:=ih (k+1);have h5:=ih (L7 s k c);dsimp only;split
     ·omega
     ·rw[Ah];omega
def Zr {Z:St}(hs:s.length<10000000) (hk0:from'<10000000):
  Ev (gO 27 [str s,.int .i64 (from':Nat)] Z) (fun r=>∃ v Z',r=⟨false,v,Z'⟩/\OL Z.n Z' 2 v ((CE s from').map W6)/\Ext Z Z') ⟨⟩:=by
 refine D0 Tryz.func27 rfl rfl ?_;refine gS ?_
 refine V9 (fun j fr Z'=>∃ k done vo,j=s.length-k/\k<=s.length/\fr.get 0=some (str s)/\fr.get 1=some (.int .i64 (from':Nat))/\fr.get 6=some (.int .i64 (k:Nat))/\fr.get 5=some vo/\OL Z.n Z' 2 vo (done.map W6)/\Ext Z Z'/\done++fT s from' (s.length-k) k=fT s from' s.length 0/\done.length<=k)
  (fun r=>∃ fr Z' vo,r=⟨.exit 0,fr,Z'⟩/\fr.get 0=some (str s)/\fr.get 1=some (.int .i64 (from':Nat))/\fr.get 5=some vo/\OL Z.n Z' 2 vo ((fT s from' s.length 0).map W6)/\Ext Z Z') s.length ?_ ?_ ?_
 ·exact⟨0,[],_,rfl,y9 _,fR,fR,fR,fR,OL.nil,.refl _,rfl,y9 _⟩
 ·rintro j fr Z' ⟨k,done,vo,rfl,hk,g0,g1,g6,g5,hol,hE,hT,hd⟩;have e1:decide ((k:Int)<(s.length:Int))=decide (k<s.length):=by rw[z7z];simp
  have en:(k:Int)+1=((k+1:Nat):Int):=om;cases hlt:decide (k<s.length)with
  | false=>
    have hkl:k=s.length:=by have:=z9z hlt;omega
    refine gS1 (aI g0 (aI g1 (aI g6 (aI e1 (aI hlt @Q9))))) ?_;refine⟨_,_,vo,rfl,fR1 g0,fR1 g1,fR1 g5,?_,hE⟩;rw[<- hT,hkl,gJ];show OL _ _ _ _ (List.map W6 (done++[]));rw[IV];exact hol
  | true=>
    have hkl:=z6z hlt;obtain⟨c,hc⟩:=E8 hkl;have h1:=N3 hc;have OS:=Mn hc;obtain⟨f,hf⟩:∃ f,s.length-k=f+1:=⟨s.length-k-1,om⟩
    rw[hf]at hT;have hT':fT s from' (f+1) k=if c=32 then fT s from' f (k+1)else((s.drop k).take (L7 s k c-k),from'+k)::fT s from' f (L7 s k c):=by
     show(match s[k]? with|none=>_|some c=>_)=_;rw[hc]
    rw[hT']at hT;have rG:decide ((c.toNat:Int)=32)=decide (c=32):=by
     rw[z7z,z3z,z3z];constructor
     ·intro h;have:c.toNat=32:=om;exact WL this
     ·rintro rfl;rfl
    cases h32:decide (c=32)with
    | true=>
      rw[z1z (z6z h32)]at hT;refine gS1 (aI g0 (aI g1 (aI g6 (aI e1 (aI hlt (aI h1 (aI @I4 (aI en (aI rG (aI h32 @H6)))))))))) ?_;refine⟨f,om,k+1,done,vo,om,om,fR1 g0,fR1 g1,fR,fR1 g5,hol,hE,?_,om⟩;rw[<- hT,HW (s.length-(k+1)) f (k+1) om om]
    | false =>
      rw[z0z (z9z h32)]at hT;refine gS1 (aI g0 (aI g1 (aI g6 (aI e1 (aI hlt (aI h1 (aI @I4 (aI en (aI rG h32))))))))) ?_;refine NM.mono ?_;rintro r rfl;have hon:Di (c.toNat:Int)=on Di c:=rfl;cases hl:on Di c with
      | true=>
        refine gS1 (aI hon (aI hl (aI g0 g6))) ?_;refine(PW (k:=k) PX om om).mono ?_;rintro r rfl;have Bc:L7 s k c=k+I0 Bw s k:=by unfold L7;rw[z1z hl]
        have hsb:sub s k (k+I0 Bw s k-k)=some ((s.drop k).take (L7 s k c-k)):=by rw[Bc,V7 om]
        have e3:(from':Int)+(k:Int)=((from'+k:Nat):Int):=om;have hb1:k<=k+I0 Bw s k:=om;have hb2:k+I0 Bw s k<=s.length:=om;refine gU1 (aI @A4 (aI @P9 (aI @N5 (aI @N9 (aI @N6 (aI @K6 (aI @M4 (aI @M5 (aI @K7 (aI @H8 (aI g0 (aI g1 (aI g6 (aI g5 (aI hsb e3))))))))))))))) ?_;refine G4 (row:=W6 ((s.drop k).take (L7 s k c-k),from'+k)) (fun _ _ _ _=>K8) (OL.ext hol (.new _ _)) (D1 nL nL) (D8 (by simp[W6]) (by simp[W6])) (by rw[z2z];omega) (by have:=hE.n;simp;omega) ?_;intro vo' Z3 d1 d2 d3;have hE3:Ext Z Z3:=d2.ext (hE.trans (Ext.new (t:=none) Z' [str ((s.drop k).take (L7 s k c-k)),.int .i64 (from'+k:Nat)])) (OL.ext hol (.new _ _)) nL;refine gS1 (aI g0 (aI g1 (aI g6 (aI g5 @H6)))) ?_;refine⟨s.length-L7 s k c,om,L7 s k c,done++[((s.drop k).take (L7 s k c-k),from'+k)],vo',rfl,OS.2,fR1 g0,fR1 g1,fR1 Bc,fR,by rw[y7];exact d1,hE3,?_,by simp;omega⟩;rw[Ky,ZR,<- hT,HW (s.length-L7 s k c) f (L7 s k c) om om]
      | false =>
        refine gS1 (aI hon (aI hl (aI g0 (aI g6 (aI h1 @I4))))) ?_;refine MR.mono ?_;rintro r rfl;have hdn:F0 (c.toNat:Int)=on F0 c:=rfl;cases hdg:on F0 c with
        | false=>
          refine gS1 (aI hdn (aI hdg (aI g0 (aI g6 h1)))) ?_;have Bc:L7 s k c=k+1:=by unfold L7;rw[z0z (by rw[hl];simp),z0z (by rw[hdg];simp)]
          have hsb:sub s k (k+1-k)=some ((s.drop k).take (L7 s k c-k)):=by rw[Bc,V7 om]
          have e3:(from':Int)+(k:Int)=((from'+k:Nat):Int):=om;have hb1:k<=k+1:=om;have hb2:k+1<=s.length:=om;refine gU1 (aI @A4 (aI @P9 (aI @N5 (aI @N9 (aI @N6 (aI @K6 (aI @M4 (aI @M5 (aI @K7 (aI @H8 (aI g0 (aI g1 (aI g6 (aI g5 (aI hsb e3))))))))))))))) ?_;refine G4 (row:=W6 ((s.drop k).take (L7 s k c-k),from'+k)) (fun _ _ _ _=>K8) (OL.ext hol (.new _ _)) (D1 nL nL) (D8 (by simp[W6]) (by simp[W6])) (by rw[z2z];omega) (by have:=hE.n;simp;omega) ?_;intro vo' Z3 d1 d2 d3;have hE3:Ext Z Z3:=d2.ext (hE.trans (Ext.new (t:=none) Z' [str ((s.drop k).take (L7 s k c-k)),.int .i64 (from'+k:Nat)])) (OL.ext hol (.new _ _)) nL;refine gS1 (aI g0 (aI g1 (aI g6 (aI g5 @H6)))) ?_;refine⟨s.length-L7 s k c,om,L7 s k c,done++[((s.drop k).take (L7 s k c-k),from'+k)],vo',rfl,OS.2,fR1 g0,fR1 g1,fR1 Bc,fR,by rw[y7];exact d1,hE3,?_,by simp;omega⟩;rw[Ky,ZR,<- hT,HW (s.length-L7 s k c) f (L7 s k c) om om]
        | true =>
          refine gS1 (aI hdn (aI hdg (aI g0 g6))) ?_;refine(PW (k:=k) Ja om om).mono ?_;rintro r rfl;have hle:=EH F0 s k om
          have hq0:L7 s k c=if (decide (k+I0 F0 s k<s.length)&&decide (s[k+I0 F0 s k]? =some 46)&&decide (k+I0 F0 s k+1<min (k+I0 F0 s k+1) s.length+I0 F0 s (min (k+I0 F0 s k+1) s.length)))=true
            then min (k+I0 F0 s k+1) s.length+I0 F0 s (min (k+I0 F0 s k+1) s.length)else k+I0 F0 s k:=by
           unfold L7;rw[z0z (by rw[hl];simp),z1z hdg]
          generalize k+I0 F0 s k=e at *;have em1:(e:Int)+1=((e+1:Nat):Int):=om;have em2:min (((e+1:Nat):Int)) (s.length:Int)=((min (e+1) s.length:Nat):Int):=om;refine gS1 (aI g0 (aI g6 (aI em1 em2))) ?_;refine(PW (k:=min (e+1) s.length) Ja om om).mono ?_;rintro r rfl;generalize min (e+1) s.length+I0 F0 s (min (e+1) s.length)=fr2 at *;have ee1:decide ((e:Int)<(s.length:Int))=decide (e<s.length):=by rw[z7z];simp
          cases hel:decide (e<s.length)with
          | false=>
            rw[hel]at hq0;refine gS1 (aI g0 (aI g6 (aI ee1 hel))) ?_;have Bc:L7 s k c=e:=by rw[hq0];rfl
            have hsb:sub s k (e-k)=some ((s.drop k).take (L7 s k c-k)):=by rw[Bc,V7 om]
            have e3:(from':Int)+(k:Int)=((from'+k:Nat):Int):=om;have hb1:k<=e:=om;have hb2:e<=s.length:=om;refine gU1 (aI @A4 (aI @P9 (aI @N5 (aI @N9 (aI @N6 (aI @K6 (aI @M4 (aI @M5 (aI @K7 (aI @H8 (aI g0 (aI g1 (aI g6 (aI g5 (aI hsb e3))))))))))))))) ?_;refine G4 (row:=W6 ((s.drop k).take (L7 s k c-k),from'+k)) (fun _ _ _ _=>K8) (OL.ext hol (.new _ _)) (D1 nL nL) (D8 (by simp[W6]) (by simp[W6])) (by rw[z2z];omega) (by have:=hE.n;simp;omega) ?_;intro vo' Z3 d1 d2 d3;have hE3:Ext Z Z3:=d2.ext (hE.trans (Ext.new (t:=none) Z' [str ((s.drop k).take (L7 s k c-k)),.int .i64 (from'+k:Nat)])) (OL.ext hol (.new _ _)) nL;refine gS1 (aI g0 (aI g1 (aI g6 (aI g5 @H6)))) ?_;refine⟨s.length-L7 s k c,om,L7 s k c,done++[((s.drop k).take (L7 s k c-k),from'+k)],vo',rfl,OS.2,fR1 g0,fR1 g1,fR1 Bc,fR,by rw[y7];exact d1,hE3,?_,by simp;omega⟩;rw[Ky,ZR,<- hT,HW (s.length-L7 s k c) f (L7 s k c) om om]
          | true=>
            obtain⟨d,Ag4⟩:=E8 (z6z hel);have h2:=N3 Ag4;have hdd:decide ((d.toNat:Int)=46)=decide (d=46):=by
             rw[z7z,z3z,z3z];constructor
             ·intro h;have:d.toNat=46:=om;exact WL this
             ·rintro rfl;rfl
            have hde:decide (s[e]? =some 46)=decide (d=46):=by rw[Ag4];simp
            have hgt:decide (((e+1:Nat):Int)<(fr2:Int))=decide (e+1<fr2):=by rw[z7z,z3z,z3z];omega
            rw[hel,hde]at hq0;cases h46:decide (d=46)with
            | false=>
              rw[h46]at hq0;refine gS1 (aI g0 (aI g6 (aI ee1 (aI hel (aI h2 (aI @I4 (aI hdd h46))))))) ?_;have Bc:L7 s k c=e:=by rw[hq0];rfl
              have hsb:sub s k (e-k)=some ((s.drop k).take (L7 s k c-k)):=by rw[Bc,V7 om]
              have e3:(from':Int)+(k:Int)=((from'+k:Nat):Int):=om;have hb1:k<=e:=om;have hb2:e<=s.length:=om;refine gU1 (aI @A4 (aI @P9 (aI @N5 (aI @N9 (aI @N6 (aI @K6 (aI @M4 (aI @M5 (aI @K7 (aI @H8 (aI g0 (aI g1 (aI g6 (aI g5 (aI hsb e3))))))))))))))) ?_;refine G4 (row:=W6 ((s.drop k).take (L7 s k c-k),from'+k)) (fun _ _ _ _=>K8) (OL.ext hol (.new _ _)) (D1 nL nL) (D8 (by simp[W6]) (by simp[W6])) (by rw[z2z];omega) (by have:=hE.n;simp;omega) ?_;intro vo' Z3 d1 d2 d3;have hE3:Ext Z Z3:=d2.ext (hE.trans (Ext.new (t:=none) Z' [str ((s.drop k).take (L7 s k c-k)),.int .i64 (from'+k:Nat)])) (OL.ext hol (.new _ _)) nL;refine gS1 (aI g0 (aI g1 (aI g6 (aI g5 @H6)))) ?_;refine⟨s.length-L7 s k c,om,L7 s k c,done++[((s.drop k).take (L7 s k c-k),from'+k)],vo',rfl,OS.2,fR1 g0,fR1 g1,fR1 Bc,fR,by rw[y7];exact d1,hE3,?_,by simp;omega⟩;rw[Ky,ZR,<- hT,HW (s.length-L7 s k c) f (L7 s k c) om om]
            | true=>
              rw[h46]at hq0;cases hg:decide (e+1<fr2)
              case' false=>
               rw[hg]at hq0;refine gS1 (aI g0 (aI g6 (aI ee1 (aI hel (aI h2 (aI @I4 (aI hdd (aI h46 (aI em1 (aI hgt hg)))))))))) ?_;have Bc:L7 s k c=e:=by rw[hq0];rfl
               have hsb:sub s k (e-k)=some ((s.drop k).take (L7 s k c-k)):=by rw[Bc,V7 om]
               have e3:(from':Int)+(k:Int)=((from'+k:Nat):Int):=om;have hb1:k<=e:=om;have hb2:e<=s.length:=om
              case' true=>
               rw[hg]at hq0;refine gS1 (aI g0 (aI g6 (aI ee1 (aI hel (aI h2 (aI @I4 (aI hdd (aI h46 (aI em1 (aI hgt hg)))))))))) ?_;have Bc:L7 s k c=fr2:=by rw[hq0];rfl
               have hsb:sub s k (fr2-k)=some ((s.drop k).take (L7 s k c-k)):=by rw[Bc,V7 om]
               have e3:(from':Int)+(k:Int)=((from'+k:Nat):Int):=om;have hb1:k<=fr2:=om;have hb2:fr2<=s.length:=om
              all_goals
               refine gU1 (aI @A4 (aI @P9 (aI @N5 (aI @N9 (aI @N6 (aI @K6 (aI @M4 (aI @M5 (aI @K7 (aI @H8 (aI g0 (aI g1 (aI g6 (aI g5 (aI hsb e3))))))))))))))) ?_;refine G4 (row:=W6 ((s.drop k).take (L7 s k c-k),from'+k)) (fun _ _ _ _=>K8) (OL.ext hol (.new _ _)) (D1 nL nL) (D8 (by simp[W6]) (by simp[W6])) (by rw[z2z];omega) (by have:=hE.n;simp;omega) ?_;intro vo' Z3 d1 d2 d3;have hE3:Ext Z Z3:=d2.ext (hE.trans (Ext.new (t:=none) Z' [str ((s.drop k).take (L7 s k c-k)),.int .i64 (from'+k:Nat)])) (OL.ext hol (.new _ _)) nL;refine gS1 (aI g0 (aI g1 (aI g6 (aI g5 @H6)))) ?_;refine⟨s.length-L7 s k c,om,L7 s k c,done++[((s.drop k).take (L7 s k c-k),from'+k)],vo',rfl,OS.2,fR1 g0,fR1 g1,fR1 Bc,fR,by rw[y7];exact d1,hE3,?_,by simp;omega⟩;rw[Ky,ZR,<- hT,HW (s.length-L7 s k c) f (L7 s k c) om om]
 rintro r ⟨fr,Z',vo,rfl,g0,g1,g5,hol,hE⟩;have e4:(from':Int)+(s.length:Int)=((from'+s.length:Nat):Int):=om;refine gU1 (aI @A4 (aI @P9 (aI @N5 (aI @N9 (aI @N6 (aI @K6 (aI @M4 (aI @M5 (aI @K7 (aI @H8 (aI g0 (aI g1 (aI g5 e4))))))))))))) ?_;have hlen:=UX (s:=s) (from':=from') s.length 0;refine G4 (row:=W6 ([],from'+s.length)) (fun _ _ _ _=>K8) (OL.ext hol (.new _ _)) (D1 nL nL) (D8 (by simp[W6]) (by simp[W6])) (by rw[z2z];omega) (by have:=hE.n;simp;omega) ?_;intro vo' Z3 d1 d2 d3;have hE3:Ext Z Z3:=d2.ext (hE.trans (Ext.new (t:=none) Z' [str [],.int .i64 (from'+s.length:Nat)])) (OL.ext hol (.new _ _)) nL;refine gS1 @Tryz.results27 ?_;exact⟨vo',Z3,rfl,by unfold CE;rw[y7];exact d1,hE3⟩
end
section
variable {row:List Value}{e:Ex}{Z':St}
def L9 (L:Nat->Prop) (Z:St) (row:List Value) (e:Ex):Prop:=∀ H:List Nat,(∀ q∈H,L q)->Ag (J5 Z H) row e
def L9.KO {L L':Nat->Prop}{Z:St}(h:L9 L Z row e) (hL:∀ q,L' q->L q):L9 L' Z row e:=fun H hH=>h H fun q hq=>hL q (hH q hq)
def L9.more {L L':Nat->Prop}{Z:St}(h:L9 L Z row e) (hE:Ext Z Z') (hL:∀ q,L' q->L q\/Z.n<=q):L9 L' Z' row e:=by
 intro H hH;refine(h (H.filter fun q=>decide (q<Z.n)) fun q hq=>?_).J3 (K0 hE.n fun c hc hm=>⟨fun hm'=>hm ?_,hE.row hc⟩)
 ·obtain⟨h1,h2⟩:=List.mem_filter.1 hq;rcases hL q (hH q h1)with h3|h3
  ·exact h3
  ·have:=z6z h2;omega
 ·exact List.mem_filter.2 ⟨hm',Aq hc⟩
def L9.K4 {L:Nat->Prop}{b:Nat}{Z:St}(h:L9 L Z row e) (hE:B9 b Z Z') (hb:L b):L9 L Z' row e:=by
 intro H hH;refine(h (b::H) fun q hq=>?_).J3 (K0 hE.n fun c hc hm=>⟨fun hm'=>hm (GH _ hm'),hE.row hc fun e=>hm (by simp[e])⟩);rcases BJ.1 hq with rfl|hq
 ·exact hb
 ·exact hH q hq
def L9.ext {L:Nat->Prop}{Z:St}(h:L9 L Z row e) (hE:Ext Z Z'):L9 L Z' row e:=fun H hH=>(h H hH).J3 (GW hE)
def L9.at {L:Nat->Prop}{Z:St}(h:L9 L Z row e):Ag Z row e:=h [] (by simp)
def L9.Bj {L:Nat->Prop}{Z:St}(h:L9 L Z row e):∃ c1 c2 c3 c4 c5,row=[c1,c2,c3,c4,c5]:=fc5 h.at
abbrev Fx:=Ex×Nat×Nat×Nat
def FmP (L:Nat->Prop) (Z:St) (b:Nat) (tv:Value) (A1:List Tok) (R:Except Er Fx) (r:CR):Prop:=match R with
 | .ok (e,d,k,p)=>∃ Z' row,r=⟨false,.agg ⟨row++[.int .i64 (d:Nat)]⟩,Z'⟩/\B9 b Z Z'/\Z'.A7 b=some [tv,.int .i64 (k:Nat),.int .i64 (p:Nat)]/\k<A1.length/\L9 L Z' row e
 | .error (at',e)=>∃ Z',r=⟨true,fault at' e,Z'⟩/\B9 b Z Z'
section
variable {L:Nat->Prop}{b:Nat}{Z:St}{tv:Value}{A1:List Tok}{k p:Nat}
def dA (h:Sc Z b tv A1 k [.int .i64 (p:Nat)]) (hp:p<1000000000)(he:L9 L Z row e) (hb:L b):
  Ev (gO 185 [.pointer (some ⟨b,0,none⟩),.agg ⟨row⟩] Z) (FmP L Z b tv A1 (.ok (e,1,k,p+1))) ⟨⟩:=by
 have ro:=h.row;have hl:=h.lt;obtain⟨c1,c2,c3,c4,c5,rfl⟩:=he.Bj;have e1:(p:Int)+1=((p+1:Nat):Int):=om;refine D0 Tryz.func185 rfl rfl ?_;have hr:=A6 ro;refine gS1 (aI hr (aI ro (aI e1 @Tryz.results185))) ?_;have hE:B9 b Z ((((Z.new [c1,c2,c3,c4,c5]).new [str [],.int .i64 0,.int .i64 0,str [],.slice none 0 0,.int .i64 0] (some 118)).upd b [tv,.int .i64 (k:Nat),.int .i64 (p+1:Nat)]).upd (Z.n+1) [c1,c2,c3,c4,c5,.int .i64 1]):=eXX;exact⟨_,[c1,c2,c3,c4,c5],rfl,hE,cL,h.k,he.K4 hE hb⟩
def su {w:By}{C8:List Value}(h:Sc Z b tv A1 k C8) (C7:Ends A1) (hw:w≠[]):
  Ev (gO 184 [.pointer (some ⟨b,0,none⟩),str w] Z) (fun r=>if (A9 A1 k).1=w then ∃ Z',r=⟨false,.tuple ⟨[]⟩,Z'⟩/\B9 b Z Z'/\Z'.A7 b=some (tv:: .int .i64 (k+1:Nat)::C8)/\k+1<A1.length
   else ∃ Z',r=⟨true,fault (A9 A1 k).2 12,Z'⟩/\B9 b Z Z') ⟨⟩:=by
 have ht0:=I9 h.k;refine D0 Tryz.func184 rfl rfl ?_;refine gS ?_;refine(Y8 h ht0).mono ?_;rintro r ⟨Z1,rfl,hE1⟩;have h1:=h.ext hE1;refine gS ?_;refine(M6 h1 ht0).mono ?_;rintro r (⟨hok,rfl⟩|⟨hok,Z3,rfl,hE3⟩)
 case inr=>
  refine gS ?_;refine Ar.intro kR ?_;refine gS ?_;rw[z0z (z9z hok)];exact⟨_,rfl,.of (hE1.trans hE3)⟩
 have hw':=z6z hok;refine gS ?_;refine(Aw h1 ht0).mono ?_;rintro r ⟨Z4,rfl,hE4,hr4⟩;refine gS1 @Tryz.results184 ?_;rw[z1z hw'];exact⟨_,rfl,(B9.of hE1).trans hE4,hr4,C7 k _ ht0 (by rw[hw'];exact hw)⟩
def dB (h:Sc Z b tv A1 k [.int .i64 (p:Nat)]) (hp:p<1000000000){op:By}{lX:List Value}{e':Ex}{d d':Nat}(hd:d<1000000000) (hd':d'<1000000000) (he:L9 L Z row e) (he':L9 L Z lX e') (hb:L b) (hL:∀ q,L q->q<Z.n):
  Ev (gO 152 [.pointer (some ⟨b,0,none⟩),str op,.agg ⟨row++[.int .i64 (d:Nat)]⟩,.agg ⟨lX++[.int .i64 (d':Nat)]⟩] Z) (FmP L Z b tv A1 (.ok (.mk op 0 0 [] [e,e'],1+max d d',k,p+1))) ⟨⟩:=by
 have ro:=h.row;have hl:=h.lt;obtain⟨c1,c2,c3,c4,c5,rfl⟩:=he.Bj;obtain⟨f1,f2,f3,f4,f5,rfl⟩:=he'.Bj;have e1:(p:Int)+1=((p+1:Nat):Int):=om;have e2:max (d:Int) (d':Int)=((max d d':Nat):Int):=om;have e3:(1:Int)+((max d d':Nat):Int)=((1+max d d':Nat):Int):=om;refine D0 Tryz.func152 rfl rfl ?_;have hr:=A6 ro;refine gS1 (aI hr (aI ro (aI e1 (aI e2 (aI e3 @Tryz.results152))))) ?_
 have hE:B9 b Z ((((((Z.new [c1,c2,c3,c4,c5,.int .i64 (d:Nat)]).new [f1,f2,f3,f4,f5,.int .i64 (d':Nat)]).new [str [],.int .i64 0,.int .i64 0,str [],.slice none 0 0,.int .i64 0] (some 118)).upd b [tv,.int .i64 (k:Nat),.int .i64 (p+1:Nat)]).new [c1,c2,c3,c4,c5,f1,f2,f3,f4,f5]).upd (Z.n+1+1)
  [str op,.int .i64 0,.int .i64 0,str [],.slice (some ⟨Z.n+1+1+1,0,none⟩) 2 2,.int .i64 (1+max d d':Nat)]):=eXX
 have hol:OL Z.n ((((((Z.new [c1,c2,c3,c4,c5,.int .i64 (d:Nat)]).new [f1,f2,f3,f4,f5,.int .i64 (d':Nat)]).new [str [],.int .i64 0,.int .i64 0,str [],.slice none 0 0,.int .i64 0] (some 118)).upd b [tv,.int .i64 (k:Nat),.int .i64 (p+1:Nat)]).new [c1,c2,c3,c4,c5,f1,f2,f3,f4,f5]).upd (Z.n+1+1)
  [str op,.int .i64 0,.int .i64 0,str [],.slice (some ⟨Z.n+1+1+1,0,none⟩) 2 2,.int .i64 (1+max d d':Nat)]) 5 (.slice (some ⟨Z.n+1+1+1,0,none⟩) 2 2) [[c1,c2,c3,c4,c5],[f1,f2,f3,f4,f5]]:=OL.mk (cells:=[c1,c2,c3,c4,c5,f1,f2,f3,f4,f5]) rfl rfl (by simp) (.inl rfl) om (by simp) (cL)
 refine⟨_,[str op,.int .i64 0,.int .i64 0,str [],.slice (some ⟨Z.n+1+1+1,0,none⟩) 2 2],rfl,hE,cL,h.k,fun H hH=>?_⟩;have g1:=(he.K4 hE hb) H hH;have g2:=(he'.K4 hE hb) H hH;refine⟨_,[[c1,c2,c3,c4,c5],[f1,f2,f3,f4,f5]],rfl,(OL.J5 hol fun q hq=>hL q (hH q hq)).sl,by simp,_,_,rfl,g1,_,_,rfl,g2,rfl⟩
end
end
section
variable {ops:By}{A1:List Tok}{A:Nat->Nat->Except Er Fx}{k:Nat}
def VZ {Z:St}{s:By}{c:UInt8}:Ev (gO 151 [str s,str [c]] Z) (fun r=>r=⟨false,.bool (!decide (Bh c s<0)),Z⟩) ⟨⟩:=by
 refine D0 Tryz.func151 rfl rfl ?_;refine gS ?_;refine Va.mono ?_;rintro r rfl;refine gS1 @Tryz.results151 ?_;try exact⟨⟩
noncomputable def opB (ops t:By):Bool:=match t with
 | [c]=> !decide (Bh c ops<0)
 |_=>false
def AN8 {t:By}(h:opB ops t=true):t≠[]:=by rintro rfl;cases h
noncomputable def Cz (A:Nat->Nat->Except Er Fx) (ops:By) (A1:List Tok):Nat->Fx->Except Er Fx
 |0,x=> .ok x
 |f+1,(e,d,k,p)=>if opB ops (A9 A1 k).1=true then G2 (A (k+1) p) fun(e',d',k',p')=>Cz A ops A1 f (.mk (A9 A1 k).1 0 0 [] [e,e'],1+max d d',k',p'+1)else .ok (e,d,k,p)
def AM {f:Nat}{e:Ex}{d p:Nat}:Cz A ops A1 (f+1) (e,d,k,p)=if opB ops (A9 A1 k).1=true then G2 (A (k+1) p) fun(e',d',k',p')=>Cz A ops A1 f (.mk (A9 A1 k).1 0 0 [] [e,e'],1+max d d',k',p'+1)else .ok (e,d,k,p):=rfl
def JW {k0:Nat}(hA:∀ k p,k0<=k->∀ e d k' p',A k p= .ok (e,d,k',p')->k<k'):∀ (f f':Nat) (e:Ex) (d k p:Nat),k0<=k->A1.length-k<=f->A1.length-k<=f'->k<A1.length+1->(∀ k,A1.length<=k->opB ops (A9 A1 k).1=false) ->
  Cz A ops A1 f (e,d,k,p)=Cz A ops A1 f' (e,d,k,p):=by
 intro f;induction f with
 | zero=>
   intro f' e d k p h0 h1 h2 h3 hop;cases f' with
   |zero=>rfl
   |succ f'=>rw[AM,z0z (by rw[hop k om];simp)];rfl
 | succ f ih=>
   intro f' e d k p h0 h1 h2 h3 hop;cases f' with
   |zero=>rw[AM,z0z (by rw[hop k om];simp)];rfl
   | succ f'=>
     rw[AM,AM];by_cases ho:opB ops (A9 A1 k).1=true
     ·rw [z1z ho,z1z ho];cases hR:A (k+1) p with
      |error e=>rfl
      | ok x=>
        obtain⟨e',d',k',p'⟩:=x;have:=hA (k+1) p om _ _ _ _ hR;rw[C1,C1];dsimp only;by_cases hk:k'<A1.length+1
        ·exact ih f' _ _ _ _ om om om hk hop
        ·have hz:∀ g,Cz A ops A1 g (.mk (A9 A1 k).1 0 0 [] [e,e'],1+max d d',k',p'+1)= .ok (.mk (A9 A1 k).1 0 0 [] [e,e'],1+max d d',k',p'+1):=by
          intro g;cases g with
          |zero=>rfl
          |succ g=>rw[AM,z0z (by rw[hop k' om];simp)]
         rw[hz,hz]
     ·rw[z0z ho,z0z ho]
noncomputable def Bs (A:Nat->Nat->Except Er Fx) (ops:By) (A1:List Tok) (k p:Nat):Except Er Fx:=G2 (A k p) fun(e,d,k,p)=>Cz A ops A1 (A1.length-k) (e,d,k,p)
def Bd (k0 p0:Nat) (R:Except Er Fx):Prop:=∀ e d k p,R= .ok (e,d,k,p)->k0<k/\p<=p0+(k-k0)/\d<=k-k0
def UR (h:A1.length<=k):opB ops (A9 A1 k).1=false:=by
 have:A9 A1 k=([],0):=by unfold A9;rw[List.getD_eq_getElem?_getD,List.getElem?_eq_none h];rfl
 rw[this];rfl
def YG {L:Nat->Prop}{b:Nat}{Z:St}{tv:Value}{A1:List Tok}{k p:Nat}{ops:By}{A:Nat->Nat->Except Er Fx}{g:Nat}(h:Sc Z b tv A1 k [.int .i64 (p:Nat)]) (C7:Ends A1) (htl:A1.length<100000000) (hp:p<=k) (hb:L b) (hL:∀ q,L q->q<Z.n)
  (hA:∀ (M:Nat->Prop) (Z':St) (k' p':Nat),M b->(∀ q,M q->q<Z'.n)->k<=k'->p'<=k'->Sc Z' b tv A1 k' [.int .i64 (p':Nat)]->Ev (go Tryz.prog HS (.fn g) [.pointer (some ⟨b,0,none⟩)] Z') (FmP M Z' b tv A1 (A k' p')) ⟨⟩)
  (hB:∀ k' p',k<=k'->Bd k' p' (A k' p')) :
  Ev (gO 107 [.pointer (some ⟨b,0,none⟩),str ops,.func (.func g) ⟨[.pointer (some ⟨b,0,none⟩)]⟩ ⟨[]⟩] Z) (FmP L Z b tv A1 (Bs A ops A1 k p)) ⟨⟩:=by
 have hbl:=h.lt;refine D0 Tryz.func107 rfl rfl ?_;refine gS ?_;have h1:=h.ext (Ext.new (t:=some 118) Z [str [],.int .i64 0,.int .i64 0,str [],.slice none 0 0,.int .i64 0]);refine(hA (fun q=>L q\/q=Z.n) _ k p (.inl hb) (by rintro q (hq|rfl);have:=hL q hq;simp;omega;simp) nL hp h1).mono ?_;intro r;unfold Bs;cases hR:A k p with
 | error pe=>
   obtain⟨at',e⟩:=pe;rintro⟨Z',rfl,hE⟩;refine gS ?_;rw[D9];exact⟨_,rfl,(B9.of (.new _ _)).trans hE⟩
 | ok x=>
   obtain⟨e1,d1,k1,p1⟩:=x;obtain⟨b1,b2,b3⟩:=hB k p nL _ _ _ _ hR;rintro⟨Z1,BQ4,rfl,hE1,q1,hk1,hf1⟩;rw[C1]
   try dsimp only
   obtain⟨c1,c2,c3,c4,c5,rfl⟩:=hf1.Bj;have hn1:=hE1.n;simp at hn1;have z1:Z1.A7 Z.n=some [str [],.int .i64 0,.int .i64 0,str [],.slice none 0 0,.int .i64 0]:=eT (hE1.A7 (by simp) om) cL;refine gS ?_
   have hE2:B9 b Z ((Z1.new [str [],.int .i64 0,.int .i64 0,str [],.slice none 0 0,.int .i64 0] (some 118)).upd Z1.n [c1,c2,c3,c4,c5,.int .i64 (d1:Nat)]) :=
    (((((B9.of (.new _ _)).trans hE1)).LL _).As om _)
   have h2:=h.K4 hE2 (k':=k1) (rest':=[.int .i64 (p1:Nat)]) (cL1 q1) hk1;have ht0:=I9 hk1;refine(Y8 h2 ht0).mono ?_;rintro r ⟨Z3,rfl,hE3⟩;have h3:=h2.ext hE3;have hn3:=hE3.n;simp at hn3;have z3:Z3.A7 Z.n=some [str [],.int .i64 0,.int .i64 0,str [],.slice none 0 0,.int .i64 0]:=by rw[B8 (hE3.same _ (by simp;omega))];exact cL1 z1
   have c3':Z3.A7 Z1.n=some [c1,c2,c3,c4,c5,.int .i64 (d1:Nat)]:=by rw[B8 (hE3.same _ (by simp))];exact cL
   have hf3:L9 (fun q=>L q\/q=Z.n\/q=Z1.n) Z3 [c1,c2,c3,c4,c5] e1:=by
    refine hf1.more (L':=fun q=>L q\/q=Z.n\/q=Z1.n) ⟨om,fun c hc=>?_⟩ ?_
    ·rw[hE3.same c (by simp;omega),Bt,z0z om,EG,z0z om]
    ·rintro q (hq|rfl|rfl)
     ·exact .inl (.inl hq)
     ·exact .inl (.inr rfl)
     ·exact .inr nL
   refine gS ?_
   refine V9 (fun j fr Z'=>∃ e d k' p' row,j=A1.length-k'/\fr.get 0=some (.pointer (some ⟨b,0,none⟩))/\fr.get 1=some (str ops)/\fr.get 2=some (.func (.func g) ⟨[.pointer (some ⟨b,0,none⟩)]⟩ ⟨[]⟩)/\fr.get 6=some (.pointer (some ⟨Z.n,0,none⟩))/\fr.get 7=some (.pointer (some ⟨Z1.n,0,none⟩)) /\
     fr.get 8=some (str (A9 A1 k').1)/\B9 b Z Z'/\Z'.A7 b=some [tv,.int .i64 (k':Nat),.int .i64 (p':Nat)]/\k'<A1.length/\Z1.n<Z'.n/\Z'.A7 Z1.n=some (row++[.int .i64 (d:Nat)])/\Z'.A7 Z.n=some [str [],.int .i64 0,.int .i64 0,str [],.slice none 0 0,.int .i64 0] /\
     L9 (fun q=>L q\/q=Z.n\/q=Z1.n) Z' row e/\Cz A ops A1 j (e,d,k',p')=Cz A ops A1 (A1.length-k1) (e1,d1,k1,p1)/\k<k'/\p'<=p+(k'-k)/\d<=k'-k)
    (fun r=>match Cz A ops A1 (A1.length-k1) (e1,d1,k1,p1)with
      | .ok (e,d,k',p')=>∃ fr Z' row,r=⟨.exit 0,fr,Z'⟩/\fr.get 6=some (.pointer (some ⟨Z.n,0,none⟩))/\fr.get 7=some (.pointer (some ⟨Z1.n,0,none⟩))/\B9 b Z Z'/\Z'.A7 b=some [tv,.int .i64 (k':Nat),.int .i64 (p':Nat)]/\k'<A1.length/\Z1.n<Z'.n /\
         Z'.A7 Z1.n=some (row++[.int .i64 (d:Nat)])/\Z'.A7 Z.n=some [str [],.int .i64 0,.int .i64 0,str [],.slice none 0 0,.int .i64 0]/\L9 (fun q=>L q\/q=Z.n\/q=Z1.n) Z' row e
      | .error (at',e)=>∃ fr Z',r=⟨.pan (fault at' e),fr,Z'⟩/\B9 b Z Z') (A1.length-k1) ?_ ?_ ?_
   ·exact⟨e1,d1,k1,p1,[c1,c2,c3,c4,c5],rfl,fR,fR,fR,fR,fR,fR,hE2.trans (.of hE3),h3.row,hk1,om,c3',z3,hf3,rfl,b1,b2,b3⟩
   ·rintro j fr Z' ⟨e,d,k',p',row,rfl,g0,g1,g2,g6,g7,g8,hE,hq,hk,hc,ho,hz,hf,hT,i1,i2,i3⟩;rw[<- hT];clear hT;obtain⟨f,hff⟩:∃ f,A1.length-k'=f+1:=⟨A1.length-k'-1,om⟩
    rw[hff,AM];have hS:=h.K4 hE hq hk;have ht1:=I9 hk;have shp:∀ w1:By,(A9 A1 k').1=w1->(decide ((w1.length:Int)=1)=false/\opB ops w1=false)\/∃ c,w1=[c]:=by
     intro w1 _
     match w1 with
     | []=>exact .inl ⟨rfl,rfl⟩
     | [c]=>exact .inr ⟨c,rfl⟩
     |c::d::r=>exact .inl ⟨by rw[Gz];simp;omega,rfl⟩
    rcases shp _ rfl with⟨y1,y2⟩|⟨c,hw1⟩
    ·rw[z0z (by rw[y2];simp)];refine gS1 (aI g0 (aI g1 (aI g8 (aI y1 @Q9)))) ?_;exact⟨_,_,row,rfl,fR1 g6,fR1 g7,hE,hq,hk,hc,ho,hz,hf⟩
    ·have hop:opB ops (A9 A1 k').1= !decide (Bh c ops<0):=by rw[hw1];rfl
     rw[hop];rw[hw1]at g8;have y1:decide (((1:Nat):Int)=1)=true:=rfl;refine gS1 (aI g0 (aI g1 (aI g8 y1))) ?_;refine VZ.mono ?_;rintro r rfl;cases hx:(!decide (Bh c ops<0))with
     | false=>
       rw[z0z (by simp)];refine gS1 (aI hx @Q9) ?_;exact⟨_,_,row,rfl,fR1 g6,fR1 g7,hE,hq,hk,hc,ho,hz,hf⟩
     | true=>
       rw[z1z rfl];refine gS1 (aI hx g0) ?_;refine(Aw hS ht1).mono ?_;rintro r ⟨Z4,rfl,hE4,q4⟩;have hk4:=C7 k' _ ht1 (by rw[hw1];simp);have h4:=hS.K4 hE4 q4 hk4;have hn4:=hE4.n;have ho4:=eT (hE4.A7 hc om) ho;have hz4:=eT (hE4.A7 om om) hz;have hf4:=hf.K4 hE4 (.inl hb);obtain⟨r1,r2,r3,r4,r5,rfl⟩:=hf4.Bj;have Ao7:=A6 ho4;simp only[OO,Mz]at Ao7;refine gS1 (aI g0 (aI g2 (aI g7 (aI g8 Ao7)))) ?_;refine(hA (fun q=>L q\/q=Z.n\/q=Z1.n) Z4 (k'+1) p' (.inl hb) (by rintro q (hq|rfl|rfl);have:=hL q hq;omega;omega;omega) om om h4).mono ?_;intro r;cases hR2:A (k'+1) p' with
       | error pe=>
         obtain⟨at',e2⟩:=pe;rintro⟨Z5,rfl,hE5⟩;refine gS ?_;refine Ar.intro kR ?_;refine dW1 (aI @L8 (aI @T7 (aI @T8 (aI @K3 (aI @j9 (cH hE5)))))) ?_;refine gS ?_;rw[D9];exact⟨_,_,rfl,(hE.trans hE4).trans hE5⟩
       | ok x=>
         obtain⟨e2,d2,k2,p2⟩:=x;obtain⟨b4,b5,b6⟩:=hB (k'+1) p' om _ _ _ _ hR2;rintro⟨Z5,BQ5,rfl,hE5,q5,hk5,hf5⟩;rw[C1]
         try dsimp only
         obtain⟨s1,s2,s3,s4,s5,rfl⟩:=hf5.Bj;have h5:=h4.K4 hE5 q5 hk5;have hn5:=hE5.n;have BI9:=hf4.K4 hE5 (.inl hb);refine gS ?_;refine(dB h5 (p:=p2) (op:=[c]) (d:=d) (d':=d2) om om om BI9 hf5 (.inl hb) (by rintro q (hq|rfl|rfl);have:=hL q hq;omega;omega;omega)).mono ?_;rintro r ⟨Z6,BQ6,rfl,hE6,q6,hk6,hf6⟩;obtain⟨v1,v2,v3,v4,v5,rfl⟩:=hf6.Bj;have hn6:=hE6.n;have ho6:=eT (hE6.A7 om om) (eT (hE5.A7 om om) ho4);have hz6:=eT (hE6.A7 om om) (eT (hE5.A7 om om) hz4);refine gS1 (aI ho6 g7) ?_;refine dW1 (aI @L8 (aI @T7 (aI @T8 (aI @K3 (aI @j9 (aI (cH hE5) (cH hE6))))))) ?_;refine gS1 g0 ?_;have hE7:B9 b Z (Z6.upd Z1.n [v1,v2,v3,v4,v5,.int .i64 (1+max d d2:Nat)]):=(((hE.trans hE4).trans hE5).trans hE6).As om _;have h7:=h.K4 hE7 (k':=k2) (rest':=[.int .i64 (p2+1:Nat)]) (cL1 q6) hk6;have ht7:=I9 hk6;refine(Y8 h7 ht7).mono ?_;rintro r ⟨Z8,rfl,hE8⟩;have hn8:=hE8.n;simp at hn8;have hf7:=(hf6.K4 (b:=Z1.n) (Z':=Z6.upd Z1.n [v1,v2,v3,v4,v5,.int .i64 (1+max d d2:Nat)]) (B9.upd .refl _) (.inr (.inr rfl))).ext hE8;rw[hw1];refine gS1 (aI g0 @H6) ?_;refine⟨A1.length-k2,om,.mk [c] 0 0 [] [e,e2],1+max d d2,k2,p2+1,[v1,v2,v3,v4,v5],rfl,fR1 g0,fR1 g1,fR1 g2,fR1 g6,fR1 g7,fR,hE7.trans (.of hE8),(h7.ext hE8).row,hk6,om,?_,?_,hf7,?_,om,om,om⟩
         ·rw[B8 (hE8.same _ (by simp;omega))];exact cL
         ·rw[B8 (hE8.same _ (by simp;omega))];exact cL1 hz6
         ·rw[<- hw1];exact JW (k0:=k) (fun k3 p3 h3 e3 d3 k4 p4 h4=>(hB k3 p3 h3 _ _ _ _ h4).1) _ _ _ _ _ _ om nL om om (fun _ h3=>UR h3)
   ·intro r;cases hRR:Cz A ops A1 (A1.length-k1) (e1,d1,k1,p1)with
    | error pe=>
      obtain⟨at',e⟩:=pe;rintro⟨fr,Z',rfl,hE⟩;refine gS ?_;exact⟨_,rfl,hE⟩
    | ok x=>
      obtain⟨e,d,k',p'⟩:=x;rintro⟨fr,Z',row,rfl,g6,g7,hE,hq,hk,hc,ho,hz,hf⟩;obtain⟨r1,r2,r3,r4,r5,rfl⟩:=hf.Bj;have ho':=A6 ho;simp only[OO,Mz]at ho';refine gS1 (aI g6 (aI g7 (aI ho' (aI hz @Tryz.results107)))) ?_;exact⟨_,[r1,r2,r3,r4,r5],rfl,hE.As nL _,cL1 hq,hk,(hf.K4 (b:=Z.n) (B9.upd .refl _) (.inr (.inl rfl))).KO fun q hq=> .inl hq⟩
end
section
variable {Z:St}{n d:Nat}
def PB {n:Int}(h1:0<=n) (h2:n<18446744073709551616):IntKind.u64.wrap n=n:=by
 have hm:n % 18446744073709551616=n:=Int.emod_eq_of_lt h1 h2;simp[IntKind.wrap,IntKind.bits,IntKind.signed,hm]
def sq {a b:Nat}:
  Ev (gO 113 [.int .u64 (a:Nat),.int .u64 (b:Nat)] Z) (fun r=>r=⟨false,.int .u64 (Nat.gcd a b:Nat),Z⟩) ⟨⟩:=by
 refine D0 Tryz.func113 rfl rfl ?_;refine gS ?_
 refine V9 (fun m fr Z'=>∃ a':Nat,fr.get 0=some (.int .u64 (a':Nat))/\fr.get 1=some (.int .u64 (m:Nat))/\Z'=Z/\Nat.gcd a' m=Nat.gcd a b)
  (fun r=>∃ fr,r=⟨.exit 0,fr,Z⟩/\fr.get 0=some (.int .u64 (Nat.gcd a b:Nat))) b ?_ ?_ ?_
 ·exact⟨a,fR,fR,rfl,rfl⟩
 ·rintro m fr Z' ⟨a',g0,g1,rfl,hg⟩;have e1:decide ((0:Int)<(m:Int))=decide (0<m):=by rw[z7z];simp
  cases hm:decide (0<m)with
  | false=>
    have:m=0:=by have:=z9z hm;omega
    subst this;refine gS1 (aI g0 (aI g1 (aI e1 (aI hm @Q9)))) ?_;exact⟨_,rfl,by rw[<- hg,lV];exact fR1 g0⟩
  | true=>
    have hm':=z6z hm;have e2:Int.tmod (a':Int) (m:Int)=((a' % m:Nat):Int):=by
     rw[<- Int.ofNat_tmod]
    refine gS1 (aI g0 (aI g1 (aI e1 (aI hm (aI e2 @H6))))) ?_;exact⟨a' % m,Hg _ hm',m,fR,fR,by trivial,by rw[<- hg,SI m,<- lW,SI]⟩
 rintro r ⟨fr,rfl,g0⟩;refine gS1 (aI g0 @Tryz.results113) ?_;try exact⟨⟩
def ct (h:n<9223372036854775808):
  Ev (gO 114 [.int .i64 (n:Nat)] Z) (fun r=>r=⟨false,.int .u64 (n:Nat),Z⟩) ⟨⟩:=by
 have e1:decide ((n:Int)<0)=false:=by rw[Gz];omega
 have e2:IntKind.u64.wrap (n:Int)=(n:Nat):=PB om om;refine D0 Tryz.func114 rfl rfl ?_;refine gS1 (aI e1 (aI e2 @Tryz.results114)) ?_;try exact⟨⟩
def AB7 (hn:n<9223372036854775808) (hd:d<9223372036854775808):
  Ev (gO 231 [.bool false,.agg ⟨[.int .u64 0,.int .u64 (n:Nat)]⟩,.agg ⟨[.int .u64 0,.int .u64 (d:Nat)]⟩] Z) (fun r=>∃ Z',r=⟨false,.tuple ⟨[.agg ⟨[.int .i64 (n:Nat),.int .i64 (d:Nat)]⟩,.bool true]⟩,Z'⟩/\Ext Z Z') ⟨⟩:=by
 have e1:decide ((9223372036854775807:Int)<(d:Int))=false:=by rw[Gz];omega
 have e2:decide ((9223372036854775808:Int)<(n:Int))=false:=by rw[Gz];omega
 have e3:decide ((n:Int)=(9223372036854775808:Int))=false:=by rw[Gz];omega
 have e4:IntKind.i64.wrap (n:Int)=(n:Nat):=wrap64_in om om;have e5:IntKind.i64.wrap (d:Int)=(d:Nat):=wrap64_in om om;have e0:decide ((0:Int)<0)=false:=rfl;refine D0 Tryz.func231 rfl rfl ?_;refine gS1 (aI e0 (aI e1 (aI e2 (aI e3 (aI e4 (aI e5 (a3N @G9 @H2 @Tryz.results231))))))) ?_;exact⟨_,rfl,eX⟩
def gT (hn:n<9223372036854775808) (hd:d<9223372036854775808) (hd0:0<d):
  Ev (gO 220 [.agg ⟨[.bool false,.int .u64 (n:Nat),.int .u64 (d:Nat)]⟩] Z) (fun r=>∃ Z',r=⟨false,.tuple ⟨[.agg ⟨[.int .i64 (n / Nat.gcd n d:Nat),.int .i64 (d / Nat.gcd n d:Nat)]⟩,.bool true]⟩,Z'⟩/\Ext Z Z') ⟨⟩:=by
 have hg:0<Nat.gcd n d:=cu n hd0;have hq1:n / Nat.gcd n d<=n:=Vl _ _;have hq2:d / Nat.gcd n d<=d:=Vl _ _;refine D0 Tryz.func220 rfl rfl ?_;refine gS ?_;refine sq.mono ?_;rintro r rfl;generalize Nat.gcd n d=g at *;have e1:IntKind.u64.wrap (Int.tdiv (n:Int) (g:Int))=((n / g:Nat):Int):=by
  rw[<- Int.ofNat_tdiv];exact PB (cz _) om
 have e2:IntKind.u64.wrap (Int.tdiv (d:Int) (g:Int))=((d / g:Nat):Int):=by
  rw[<- Int.ofNat_tdiv];exact PB (cz _) om
 refine gS1 (aI e1 e2) ?_;refine(AB7 (n:=n / g) (d:=d / g) om om).mono ?_;rintro r ⟨Z',rfl,hE⟩;have hn:=hE.n;simp at hn;have z:Z'.A7 (Z.n+1)=some [.int .i64 0,.int .i64 0]:=by rw[B8 (hE.same _ (by simp))];exact cL
 refine gS1 z ?_;refine dW1 (aI @L8 (aI @T7 (aI @T8 (aI @K3 (aI @j9 (Be hE)))))) ?_;refine gS1 @Tryz.results220 ?_;exact⟨_,rfl,(((Ext.new _ _).trans (.new _ _)).trans hE).upd om _⟩
def AB8 {i j:Tmp}:Bi Tryz.prog .neq 4 (.tmp i) (.tmp j) (.bool false) (.bool false)=some (.bool false):=kR
def ss (hn:n<9223372036854775808) (hd:d<9223372036854775808) (hd0:0<d):
  Ev (gO 204 [.int .i64 (n:Nat),.int .i64 (d:Nat)] Z) (fun r=>∃ Z',r=⟨false,.tuple ⟨[.agg ⟨[.int .i64 (n / Nat.gcd n d:Nat),.int .i64 (d / Nat.gcd n d:Nat)]⟩,.bool true]⟩,Z'⟩/\Ext Z Z') ⟨⟩:=by
 have e0:decide ((d:Int)=0)=false:=by rw[Gz];omega
 have e1:decide ((n:Int)<0)=false:=by rw[Gz];omega
 have e2:decide ((d:Int)<0)=false:=by rw[Gz];omega
 refine D0 Tryz.func204 rfl rfl ?_;refine gS1 (aI e0 (aI e1 (aI e2 @AB8))) ?_;refine(ct hn).mono ?_;rintro r rfl;refine gS ?_;refine(ct hd).mono ?_;rintro r rfl;refine gS ?_;have hE0:=Ext.new (t:=some 32) Z [.int .i64 0,.int .i64 0];refine(gT hn hd hd0).mono ?_;rintro r ⟨Z',rfl,hE⟩;have hn:=hE.n;simp at hn;have z:Z'.A7 Z.n=some [.int .i64 0,.int .i64 0]:=by rw[B8 (hE.same _ (by simp))];exact cL
 refine gS1 (aI z @Tryz.results204) ?_;exact⟨_,rfl,(hE0.trans hE).upd om _⟩
end
def ud (c:UInt8):∀ s:By,Bh c s<s.length/\ -1<=Bh c s:=by
 intro s;induction s with
 |nil=>exact⟨by show(-1:Int)<0;omega,Int.le_refl _⟩
 | cons x s ih=>
   have hx:Bh c (x::s)=bi (x==c) 0 (bi (ilt (Bh c s) 0) (-1) (Bh c s+1)):=by rw[<- Kw];rfl
   rw[hx];cases x==c with
   |true=>exact⟨by show(0:Int)<_;simp,by show(-1:Int)<=0;omega⟩
   | false=>
     rw[BV];cases hlt:ilt (Bh c s) 0 with
     |true=>exact⟨by show(-1:Int)<_;simp;omega,Int.le_refl _⟩
     |false=>rw[BV];simp;omega
noncomputable def An (t:By):By×By:=if decide (Bh 46 t<0)=true then(t,[])else(t.take (Bh 46 t).toNat,t.drop ((Bh 46 t).toNat+1))
def AF7 {Z:St}{t:By}(ht:t.length<100000000) :
  Ev (gO 202 [str t,str [46]] Z) (fun r=>∃ ok,r=⟨false,.tuple ⟨[str (An t).1,str (An t).2,.bool ok]⟩,Z⟩) ⟨⟩:=by
 have hi:=ud 46 t;refine D0 Tryz.func202 rfl rfl ?_;refine gS ?_;have key:Ev (gO 217 [str t,str [46]] Z) (fun r=>∃ ok,r=⟨false,.tuple ⟨[str (An t).1,str (An t).2,.bool ok]⟩,Z⟩) ⟨⟩:=by
  refine D0 Tryz.func217 rfl rfl ?_;refine gS ?_;refine KU.mono ?_;rintro r rfl;unfold An;cases hx:decide (Bh 46 t<0)with
  | true=>
    rw[z1z rfl];refine gS1 (aI hx @Tryz.results217) ?_;exact⟨_,rfl⟩
  | false=>
    rw[z0z (by simp)];have hge:=z9z hx;obtain⟨i,hii⟩:∃ i:Nat,Bh 46 t=(i:Nat):=⟨(Bh 46 t).toNat,om⟩
    rw[hii]at hx hi ⊢;have e1:(i:Int)+((1:Nat):Int)=((i+1:Nat):Int):=om;have s1:sub t 0 i=some (t.take i):=by rw[V7 om];rfl
    have s2:sub t (i+1) (t.length-(i+1))=some (t.drop (i+1)):=by rw[V7 om,Kx (by simp)]
    have l1:i<=t.length:=om;have l2:i+1<=t.length:=om;refine gS1 (aI hx (aI e1 (aI s1 (aI s2 (aI @Oq @Tryz.results217))))) ?_;exact⟨_,rfl⟩
 refine key.mono ?_;rintro r ⟨ok,rfl⟩;refine gS1 @Tryz.results202 ?_;exact⟨_,rfl⟩
def Ou (s:By):Bool:=decide (s.drop (s.length-1)=[48])
def iZ {Z:St}{t:By}(ht:t.length<100000000) :
  Ev (gO 203 [str t,str [48]] Z) (fun r=>r=⟨false,.bool (Ou t),Z⟩) ⟨⟩:=by
 refine D0 Tryz.func203 rfl rfl ?_;refine gS ?_;have key:Ev (gO 218 [str t,str [48]] Z) (fun r=>r=⟨false,.bool (Ou t),Z⟩) ⟨⟩:=by
  refine D0 Tryz.func218 rfl rfl ?_;by_cases h0:t=[]
  ·subst h0;have d1:decide ((([]:By)).length<1)=true:=rfl;have d2:decide (0<1)=true:=rfl;refine gS1 (aI d1 (aI d2 (a3N @G9 @H2 @Tryz.results218))) ?_;rfl
  ·have hl:0<t.length:=eE.2 h0;have d1:decide (t.length<1)=false:=by rw[Gz];omega
   have e1:(t.length:Int)-((1:Nat):Int)=((t.length-1:Nat):Int):=om;have s1:sub t (t.length-1) (t.length-(t.length-1))=some (t.drop (t.length-1)):=by rw[V7 om,Kx (by simp)]
   have d3:decide ([48]=t.drop (t.length-1))=decide (t.drop (t.length-1)=[48]):=by rw[z7z,z3z,z3z];exact eq_comm
   unfold Ou;refine gS1 (aI d1 (aI e1 (aI s1 (aI d3 (a3N @G9 @H2 @Tryz.results218))))) ?_;try exact⟨⟩
 refine key.mono ?_;rintro r rfl;refine gS1 @Tryz.results203 ?_;try exact⟨⟩
def W7 (n:Nat) (l:By):Nat:=l.foldl (fun n c=>10*n+(c.toNat+208) % 256) n
def CJ:By:=[110,117,109]
noncomputable def Lx (A1:List Tok) (k p:Nat):Except Er Fx :=
 if (Fl (An (A9 A1 k).1).1&& !Ou (An (A9 A1 k).1).2)=true then
  if (decide (T6 (An (A9 A1 k).1).1<=1000000000)&&decide ((An (A9 A1 k).1).2.length<=6)&&(decide (T6 (An (A9 A1 k).1).1<1000000000)||decide ((An (A9 A1 k).1).2=[])))=true then
   .ok (.mk CJ (W7 (T6 (An (A9 A1 k).1).1) (An (A9 A1 k).1).2 / Nat.gcd (W7 (T6 (An (A9 A1 k).1).1) (An (A9 A1 k).1).2) (10 ^ (An (A9 A1 k).1).2.length):Nat)
    (10 ^ (An (A9 A1 k).1).2.length / Nat.gcd (W7 (T6 (An (A9 A1 k).1).1) (An (A9 A1 k).1).2) (10 ^ (An (A9 A1 k).1).2.length):Nat) [] [],1,k+1,p+1)
  else .error ((A9 A1 k).2,3)
 else .error ((A9 A1 k).2,12)
def Sl {n:Nat}{l:By}{i:Nat}{c:UInt8}(h:l[i]? =some c):W7 n (l.take (i+1))=10*W7 n (l.take i)+(c.toNat+208) % 256:=by
 unfold W7;rw[Dj,h,WC];rfl
def Ob {n:Nat}:∀ (l:By),W7 n l+29<=(n+29)*10 ^ l.length:=by
 intro l;unfold W7;induction l generalizing n with
 |nil=>simp
 | cons c l ih=>
   have:=ih (n:=10*n+(c.toNat+208) % 256);rw[SE,Ah,GO];refine X0 this ?_;have hc:(c.toNat+208) % 256<256:=Hg _ om;have h1:10*n+(c.toNat+208) % 256+29<=(n+29)*10:=om
   calc (10*n+(c.toNat+208) % 256+29)*10 ^ l.length<=((n+29)*10)*10 ^ l.length:=UJ _ h1
    _=(n+29)*(10 ^ l.length*10):=by rw[EV,CG 10]
def Gf (A1:List Tok):Prop:=∀ t∈A1,t.1.length<10000000
def nJ {t:By}:(An t).1.length<=t.length/\(An t).2.length<=t.length:=by
 unfold An;split
 ·exact⟨AR _,y9 _⟩
 ·simp;omega
def aE {L:Nat->Prop}{b:Nat}{Z:St}{tv:Value}{A1:List Tok}{k p:Nat}(h:Sc Z b tv A1 k [.int .i64 (p:Nat)]) (C7:Ends A1) (hsh:Gf A1) (hp:p<1000000000) (hb:L b) (hL:∀ q,L q->q<Z.n) (hne:(A9 A1 k).1≠[]) :
  Ev (gO 183 [.pointer (some ⟨b,0,none⟩),str (A9 A1 k).1] Z) (FmP L Z b tv A1 (Lx A1 k p)) ⟨⟩:=by
 have hbl:=h.lt;have ht0:=I9 h.k;have hs:=hsh _ (W8 ht0);have hcl:=nJ (t:=(A9 A1 k).1);refine D0 Tryz.func183 rfl rfl ?_;refine gS ?_;refine(AF7 om).mono ?_;rintro r ⟨ok,rfl⟩;unfold Lx;generalize hw:(An (A9 A1 k).1).1=w at *;generalize hrr:(An (A9 A1 k).1).2=rs at *;refine gS ?_;have hE1:Ext Z (Z.new [str [],.int .i64 0,.int .i64 0,str [],.slice none 0 0,.int .i64 0] (some 118)):= .new _ _;refine(Ns om).mono ?_;rintro r rfl;have h1:=h.ext hE1;cases hnb:Fl w with
 | false=>
   refine gS ?_;refine(M6 h1 ht0).mono ?_;rintro r (⟨hok,-⟩|⟨hok,Z3,rfl,hE3⟩)
   case inl=>cases hok
   refine gS ?_;refine Ar.intro kR ?_;refine gS ?_;rw[z0z (by simp)];exact⟨_,rfl,.of (hE1.trans hE3)⟩
 | true =>
   refine gS ?_;refine(iZ om).mono ?_;rintro r rfl;refine gS ?_;refine(M6 h1 ht0).mono ?_;rintro r (⟨hok,rfl⟩|⟨hok,Z3,rfl,hE3⟩)
   case inr=>
    refine gS ?_;refine Ar.intro kR ?_;refine gS ?_;rw[hok,z0z (by simp)];exact⟨_,rfl,.of (hE1.trans hE3)⟩
   rw[hok,z1z (by simp)];refine gS ?_;refine(Py (Hp hnb).1 (Hp hnb).2.1 om).mono ?_;rintro r ⟨Z2,n1,rfl,hE2,hn1⟩;have h2:=h1.ext hE2;have ie:=hE1.trans hE2;have hn2:=hE2.n;simp at hn2;have z2:Z2.A7 Z.n=some [str [],.int .i64 0,.int .i64 0,str [],.slice none 0 0,.int .i64 0]:=by rw[B8 (hE2.same _ (by simp))];exact cL
   generalize hnn:T6 w=n at *;have e9:decide ((n:Int)<1000000000)=decide (n<1000000000):=by rw[z7z,z3z,z3z];omega
   have e6:decide ((6:Int)<(rs.length:Int))=decide (6<rs.length):=by rw[z7z,z3z,z3z];omega
   have e6':decide (rs.length<=6)= !decide (6<rs.length):=by rw[z7z];simp
   rw[e6'];cases hv:decide (n<=1000000000)with
   | false=>
     refine gS1 (aI e6 e9) ?_;refine(M6 h2 ht0).mono ?_;rintro r (⟨BX,-⟩|⟨BX,Z3,rfl,hE3⟩)
     case inl=>cases BX
     refine gS ?_;rw[z0z (by simp)];exact⟨_,rfl,.of (ie.trans hE3)⟩
   | true =>
     have hq1:n=n1:=(hn1 (z6z hv)).symm;subst hq1;cases hl:decide (6<rs.length)with
     | true=>
       refine gS1 (aI e6 (aI hl e9)) ?_;refine(M6 h2 ht0).mono ?_;rintro r (⟨BX,-⟩|⟨BX,Z3,rfl,hE3⟩)
       case inl=>cases BX
       refine gS ?_;rw[z0z (by simp)];exact⟨_,rfl,.of (ie.trans hE3)⟩
     | false=>
       cases hn9:decide (n<1000000000)
       case' false=>
        cases hr0:decide (rs=[])
        case false=>
         refine gS1 (aI e6 (aI hl (aI e9 (aI hn9 hr0)))) ?_;refine(M6 h2 ht0).mono ?_;rintro r (⟨BX,-⟩|⟨BX,Z3,rfl,hE3⟩)
         case inl=>cases BX
         refine gS ?_;rw[z0z (by simp)];exact⟨_,rfl,.of (ie.trans hE3)⟩
        refine gS1 (aI e6 (aI hl (aI e9 (aI hn9 hr0)))) ?_
       case' true=>
        refine gS1 (aI e6 (aI hl (aI e9 hn9))) ?_
       all_goals
        refine(M6 h2 ht0).mono ?_;rintro r (⟨BX,rfl⟩|⟨BX,-⟩)
        case inr=>cases BX
        rw[z1z (by rfl)];have dc:n<=1000000000:=z6z hv;have AZ9:rs.length<=6:=by have:=z9z hl;omega
        have hE3:Ext Z (Z2.new (N4 rs)):=ie.AG _;have Aa0:(N4 rs).length=rs.length:=by unfold N4;simp
        refine gS1 (aI e6 (aI hl Aa0)) ?_
        refine F4 rs.length (fun i fr Z'=>fr.get 0=some (.pointer (some ⟨b,0,none⟩))/\fr.get 4=some (.pointer (some ⟨Z.n,0,none⟩))/\fr.get 56=some (.slice (some ⟨Z2.n,0,some 1⟩) rs.length rs.length)/\fr.get 57=some (.int .i64 (rs.length:Nat))/\fr.get 58=some (.int .i64 (i:Nat)) /\
          fr.get 8=some (.int .i64 (W7 n (rs.take i):Nat))/\fr.get 10=some (.int .i64 (10 ^ i:Nat))/\Z'=Z2.new (N4 rs))
         (fun r=>∃ fr,r=⟨.exit 0,fr,Z2.new (N4 rs)⟩/\fr.get 0=some (.pointer (some ⟨b,0,none⟩))/\fr.get 4=some (.pointer (some ⟨Z.n,0,none⟩))/\fr.get 8=some (.int .i64 (W7 n rs:Nat))/\fr.get 10=some (.int .i64 (10 ^ rs.length:Nat))) ?_ ?_ ?_ ?_
        ·exact⟨fR,fR,fR,fR,fR,fR,fR,rfl⟩
        ·rintro i fr Z' hi ⟨g0,g4,g56,g57,g58,g8,g10,rfl⟩;obtain⟨c,hc⟩:=E8 hi;have hcs:sub (N4 rs) i 1=some [.int .u8 (c.toNat:Nat)]:=by unfold N4;exact N3 (by rw[List.getElem?_map,hc];rfl)
         have ed:decide ((i:Int)<(rs.length:Int))=true:=by rw[z3z];omega
         have ed2:decide (i<rs.length)=true:=Aq hi;have ew:IntKind.u8.wrap ((c.toNat:Int)-48)=(((c.toNat+208) % 256:Nat):Int):=by rw[wrap_u8];omega
         have ewF:Gl .u8 ((c.toNat:Int)-48)=(((c.toNat+208) % 256:Nat):Int):=by rw[Gm];exact ew
         have hm:(c.toNat+208) % 256<256:=Hg _ om;have ew2:IntKind.i64.wrap (((c.toNat+208) % 256:Nat):Int)=(((c.toNat+208) % 256:Nat):Int):=wrap64_in om om;have hd1:=Ob (n:=n) (rs.take i);have hlt:(rs.take i).length=i:=by rw[Dh];omega
         rw[hlt]at hd1;have hp1:10 ^ i<=10 ^ 5:=Uh om om;have hp2:(n+29)*10 ^ i<=(1000000000+29)*10 ^ 5:=Wk om hp1;have hs2:=Sl (n:=n) hc;generalize W7 n (rs.take i)=q at *;generalize AF8:10 ^ i=t10 at *;have e10:(10:Int)*(q:Int)=((10*q:Nat):Int):=om;have e11:((10*q:Nat):Int)+(((c.toNat+208) % 256:Nat):Int)=((10*q+(c.toNat+208) % 256:Nat):Int):=om;have e12:(10:Int)*(t10:Int)=((10*t10:Nat):Int):=om;have e13:(i:Int)+1=((i+1:Nat):Int):=om;have e14:10 ^ (i+1)=10*t10:=by rw[GO,AF8,CG]
         refine gS1 (aI g0 (aI g4 (aI g56 (aI g57 (aI g58 (aI g8 (aI g10 (aI ed (aI ed2 (aI hcs (aI ew (aI ewF (aI ew2 (aI e10 (aI e11 (aI e12 (aI e13 @Df))))))))))))))))) ?_;exact⟨fR1 g0,fR1 g4,fR1 g56,fR1 g57,fR,by rw[hs2],by rw[e14],by trivial⟩
        ·rintro fr Z' ⟨g0,g4,g56,g57,g58,g8,g10,rfl⟩;have ed:decide ((rs.length:Int)<(rs.length:Int))=false:=sI;have ed2:decide (rs.length<rs.length)=false:=sI;rw[Bl]at g8;refine gS1 (aI g57 (aI g58 (aI ed ed2))) ?_;exact⟨_,rfl,by rw[Tr.J1 _ _ om];exact g0,by rw[Tr.J1 _ _ om];exact g4,by rw[Tr.J1 _ _ om];exact g8,by rw[Tr.J1 _ _ om];exact g10⟩
        rintro r ⟨fr,rfl,g0,g4,g8,g10⟩;have hd1:=Ob (n:=n) rs;have hp1:10 ^ rs.length<=10 ^ 6:=Uh om AZ9;have hp0:0<10 ^ rs.length:=Wl om;have hp2:(n+29)*10 ^ rs.length<=(1000000000+29)*10 ^ 6:=Wk om hp1;refine gS1 (aI g0 (aI g4 (aI g8 g10))) ?_;refine(ss om om hp0).mono ?_;rintro r ⟨Z5,rfl,hE5⟩;have hn5:=hE5.n;simp at hn5;have Wm:=hE3.trans hE5;have zT:Ext Z ((Z5.new [.int .i64 0,.int .i64 0] (some 32)).upd Z5.n [.int .i64 (W7 n rs / Nat.gcd (W7 n rs) (10 ^ rs.length):Nat),.int .i64 (10 ^ rs.length / Nat.gcd (W7 n rs) (10 ^ rs.length):Nat)]):=(Wm.AG _).upd om _;refine gS1 g0 ?_;have h5:=h.ext zT;refine(Aw h5 ht0).mono ?_;rintro r ⟨Z6,rfl,hE6,q6⟩;have h6:=h5.K4 hE6 q6 (C7 k _ ht0 hne);have hn6:=hE6.n;simp at hn6;have r6:Z6.row Z5.n=some [.int .i64 (W7 n rs / Nat.gcd (W7 n rs) (10 ^ rs.length):Nat),.int .i64 (10 ^ rs.length / Nat.gcd (W7 n rs) (10 ^ rs.length):Nat)]:=by rw[hE6.row (by simp) om];exact A6 D5
        refine gS1 (aI g0 (aI g4 r6)) ?_;have hz6:Z6.A7 Z.n=some [str [],.int .i64 0,.int .i64 0,str [],.slice none 0 0,.int .i64 0]:=by
         rw[hE6.A7 (by simp;omega) om,I1 om,E9 om,B8 (hE5.same _ (by simp;omega)),E9 om];exact z2
        refine(dA h6 hp (L:=fun q=>L q\/q=Z.n) (row:=[str CJ,.int .i64 (W7 n rs / Nat.gcd (W7 n rs) (10 ^ rs.length):Nat),.int .i64 (10 ^ rs.length / Nat.gcd (W7 n rs) (10 ^ rs.length):Nat),str [],.slice none 0 0])
         (e:= .mk CJ (W7 n rs / Nat.gcd (W7 n rs) (10 ^ rs.length):Nat) (10 ^ rs.length / Nat.gcd (W7 n rs) (10 ^ rs.length):Nat) [] []) (fun H hH=>⟨_,[],rfl,.inl ⟨rfl,rfl⟩,by simp,rfl⟩) (.inl hb)).mono ?_
        rintro r ⟨Z7,Aa1,rfl,hE7,q7,hk7,hf7⟩;obtain⟨v1,v2,v3,v4,v5,rfl⟩:=hf7.Bj;have hn7:=hE7.n;have hz7:=eT (hE7.A7 om om) hz6;refine gS1 (aI g4 (aI hz7 @Tryz.results183)) ?_;exact⟨_,[v1,v2,v3,v4,v5],rfl,(((B9.of zT).trans hE6).trans hE7).As nL _,by rw[I1 om];exact q7,hk7,(hf7.K4 (b:=Z.n) (B9.upd .refl _) (.inr rfl)).KO fun q hq=> .inl hq⟩
section
variable {A1:List Tok}{A:Nat->Nat->Except Er Fx}{ops:By}
def GJ:By:=[109,105,110]
def HC:By:=[109,97,120]
def nmB:By:=[110,97,109,101]
def X7 (A1:List Tok) (w:By) (k:Nat):Except Er Nat:=if (A9 A1 k).1=w then .ok (k+1)else .error ((A9 A1 k).2,12)
noncomputable def GI (F:Nat->Nat->Except Er Fx) (A1:List Tok) (k p:Nat):Except Er Fx :=
 if DY F0 (A9 A1 k).1=true then Lx A1 k p else
 if (A9 A1 k).1=[40]then G2 (F (k+1) p) fun(e,d,k,p)=>G2 (X7 A1 [41] k) fun k=> .ok (e,d,k,p)else
 if (decide ((A9 A1 k).1=GJ)||decide ((A9 A1 k).1=HC))=true then
  G2 (X7 A1 [40] (k+1)) fun k1=>G2 (F k1 p) fun(e,d,k2,p2)=>G2 (X7 A1 [44] k2) fun k3=>G2 (F k3 p2) fun(e',d',k4,p4)=>G2 (X7 A1 [41] k4) fun k5=>
   .ok (.mk (A9 A1 k).1 0 0 [] [e,e'],1+max d d',k5,p4+1)else
 if BB (A9 A1 k).1=true then .ok (.mk nmB 0 0 (A9 A1 k).1 [],1,k+1,p+1)else .error ((A9 A1 k).2,12)
noncomputable def LN (A1:List Tok):Nat->Nat->Nat->Except Er Fx
 |0,_,_=> .error (0,0)
 |f+1,k,p=>Bs (fun k p=>Bs (GI (LN A1 f) A1) [42,47] A1 k p) [43,45] A1 k p
def C9 {α β:Type}{x:Except Er α}{f:α->Except Er β}{b:β}(h:G2 x f= .ok b):∃ a,x= .ok a/\f a= .ok b:=by
 cases x with
 |error e=>cases h
 |ok a=>exact⟨a,rfl,h⟩
def ER {w:By}{k k':Nat}(h:X7 A1 w k= .ok k'):k'=k+1:=by
 unfold X7 at h;split at h<;>cases h;rfl
def IW {F:Nat->Nat->Except Er Fx}(hF:∀ k p,Bd k p (F k p)) (k p:Nat):Bd k p (GI F A1 k p):=by
 intro e d k' p' h;unfold GI at h;split at h
 ·unfold Lx at h;split at h
  ·split at h
   ·cases h;omega
   ·cases h
  ·cases h
 ·split at h
  ·obtain⟨⟨e1,d1,k1,p1⟩,h1,h2⟩:=C9 h;obtain⟨k2,h3,h4⟩:=C9 h2;have:=hF _ _ _ _ _ _ h1;have:=ER h3;cases h4;omega
  ·split at h
   ·obtain⟨k1,h1,h⟩:=C9 h;obtain⟨⟨e2,d2,k2,p2⟩,h2,h⟩:=C9 h;obtain⟨k3,h3,h⟩:=C9 h;obtain⟨⟨e4,d4,k4,p4⟩,h4,h⟩:=C9 h;obtain⟨k5,h5,h⟩:=C9 h;have:=ER h1;have:=hF _ _ _ _ _ _ h2;have:=ER h3;have:=hF _ _ _ _ _ _ h4;have:=ER h5;cases h;omega
   ·split at h
    ·cases h;omega
    ·cases h
def lA (hA:∀ k p,Bd k p (A k p)):∀ (f:Nat) (e0:Ex) (d0 k0 p0 k p:Nat),k<k0->p0<=p+(k0-k)->d0<=k0-k->Bd k p (Cz A ops A1 f (e0,d0,k0,p0)):=by
 intro f;induction f with
 |zero=>intro e0 d0 k0 p0 k p h1 h2 h3 e d k' p' h;cases h;omega
 | succ f ih=>
   intro e0 d0 k0 p0 k p h1 h2 h3 e d k' p' h;rw[AM]at h;split at h
   ·obtain⟨⟨e1,d1,k1,p1⟩,h4,h5⟩:=C9 h;have:=hA _ _ _ _ _ _ h4;exact ih _ _ _ _ k p om om om _ _ _ _ h5
   ·cases h;omega
def Hk (hA:∀ k p,Bd k p (A k p)) (k p:Nat):Bd k p (Bs A ops A1 k p):=by
 intro e d k' p' h;obtain⟨⟨e1,d1,k1,p1⟩,h1,h2⟩:=C9 h;have:=hA _ _ _ _ _ _ h1;exact lA hA _ _ _ _ _ k p om om om _ _ _ _ h2
def GN:∀ f k p,Bd k p (LN A1 f k p):=by
 intro f;induction f with
 |zero=>intro k p e d k' p' h;cases h
 |succ f ih=>intro k p;exact Hk (fun k p=>Hk (fun k p=>IW ih k p) k p) k p
def gF {b:Nat}{Z:St}{tv:Value}{A1:List Tok}{k:Nat}{C8:List Value}{w:By}(h:Sc Z b tv A1 k C8) (C7:Ends A1) (hw:w≠[]) :
  Ev (gO 184 [.pointer (some ⟨b,0,none⟩),str w] Z) (fun r=>match X7 A1 w k with
   | .ok k'=>∃ Z',r=⟨false,.tuple ⟨[]⟩,Z'⟩/\B9 b Z Z'/\Z'.A7 b=some (tv:: .int .i64 (k':Nat)::C8)/\k'<A1.length
   | .error (p,e)=>∃ Z',r=⟨true,fault p e,Z'⟩/\B9 b Z Z') ⟨⟩:=by
 refine(su h C7 hw).mono fun r hr=>?_;unfold X7;by_cases hq:(A9 A1 k).1=w
 ·rw[z1z hq]at hr ⊢;exact hr
 ·rw[z0z hq]at hr ⊢;exact hr
def zSx:List Value:=[str [],.int .i64 0,.int .i64 0,str [],.slice none 0 0,.int .i64 0]
def jh {L:Nat->Prop}{b:Nat}{Z:St}{tv:Value}{A1:List Tok}{k p:Nat}{F:Nat->Nat->Except Er Fx}(h:Sc Z b tv A1 k [.int .i64 (p:Nat)]) (C7:Ends A1) (hsh:Gf A1) (htl:A1.length<100000000) (hp:p<=k) (hb:L b) (hL:∀ q,L q->q<Z.n)
  (hF:∀ (M:Nat->Prop) (Z':St) (k' p':Nat),M b->(∀ q,M q->q<Z'.n)->k<k'->p'<=k'->Sc Z' b tv A1 k' [.int .i64 (p':Nat)]->Ev (gO 49 [.pointer (some ⟨b,0,none⟩)] Z') (FmP M Z' b tv A1 (F k' p')) ⟨⟩)
  (hB:∀ k' p',Bd k' p' (F k' p')) :
  Ev (gO 153 [.pointer (some ⟨b,0,none⟩)] Z) (FmP L Z b tv A1 (GI F A1 k p)) ⟨⟩:=by
 have hbl:=h.lt;have hkl:=h.k;have ht0:=I9 h.k;have hs:=hsh _ (W8 ht0);refine D0 Tryz.func153 rfl rfl ?_;refine gS ?_;have h1:=h.ext (Ext.new (t:=some 118) Z zSx);refine(Y8 h1 ht0).mono ?_;rintro r ⟨Z1,rfl,hE1⟩;have h2:=h1.ext hE1;have Nf:Ext Z Z1:=(Ext.new _ _).trans hE1;have hn1:=hE1.n;simp at hn1;have z1:Z1.A7 Z.n=some [str [],.int .i64 0,.int .i64 0,str [],.slice none 0 0,.int .i64 0]:=by rw[B8 (hE1.same _ (by simp))];exact cL
 have hM:∀ q,(L q\/q=Z.n)->q<Z1.n:=by rintro q (hq|rfl);have:=hL q hq;omega;omega
 unfold GI;cases hw:(A9 A1 k).1 with
 | nil=>
   have d0:decide (([]:By)=[])=true:=rfl;have d1:decide (([]:By)=[40])=false:=rfl;have d2:decide (([]:By)=[109,105,110])=false:=rfl;have d3:decide (([]:By)=[109,97,120])=false:=rfl;refine gS1 (aI d0 (aI d1 (aI d2 d3))) ?_;refine(KA (s:=[]) (by simp)).mono ?_;rintro r rfl;refine gS ?_;refine(M6 h2 ht0).mono ?_;rintro r (⟨hok,-⟩|⟨hok,Z3,rfl,hE3⟩)
   case inl=>cases hok
   refine gS ?_;refine Ar.intro kR ?_;refine gS ?_;rw[z0z (by simp[DY]),z0z (by simp),z0z (by decide),z0z (by decide)];exact⟨_,rfl,.of (Nf.trans hE3)⟩
 | cons c s =>
   have d0:decide (c::s=([]:By))=false:=rfl;have s1:sub (c::s) 0 1=some [c]:=N3 rfl;refine gS1 (aI d0 (aI s1 @I4)) ?_;refine MR.mono ?_;rintro r rfl;have hdn:F0 (c.toNat:Int)=DY F0 (c::s):=rfl;cases hdg:DY F0 (c::s)with
   | true=>
     refine gS1 (aI hdn hdg) ?_;rw[z1z rfl,<- hw];refine(aE h2 C7 hsh om (L:=fun q=>L q\/q=Z.n) (.inl hb) hM (by rw[hw];simp)).mono ?_;intro r;cases hR:Lx A1 k p with
     | error pe=>
       obtain⟨at',e⟩:=pe;rintro⟨Z',rfl,hE⟩;refine gS ?_;exact⟨_,rfl,(B9.of Nf).trans hE⟩
     | ok x=>
       obtain⟨e,d,k',p'⟩:=x;rintro⟨Z',row,rfl,hE,q',hk',hf⟩;obtain⟨v1,v2,v3,v4,v5,rfl⟩:=hf.Bj;have hn':=hE.n;have z':=eT (hE.A7 om om) z1;refine gS1 (aI z' @Tryz.results153) ?_;exact⟨_,[v1,v2,v3,v4,v5],rfl,((B9.of Nf).trans hE).As nL _,cL1 q',hk',(hf.K4 (b:=Z.n) (B9.upd .refl _) (.inr rfl)).KO fun q hq=> .inl hq⟩
   | false =>
     refine gS1 (aI hdn hdg) ?_;rw[z0z (by simp)];have hpe:decide (c::s=[40])=decide ((A9 A1 k).1=[40]):=by rw[hw]
     cases lB:decide (c::s=[40])with
     | true =>
       rw[z1z (z6z lB)];refine gS1 lB ?_;refine(Aw h2 ht0).mono ?_;rintro r ⟨Z3,rfl,hE3,q3⟩;have hk3:=C7 k _ ht0 (by rw[hw];simp);have h3:=h2.K4 hE3 q3 hk3;have hn3:=hE3.n;have z3:=eT (hE3.A7 om om) z1;refine gS ?_;refine(hF (fun q=>L q\/q=Z.n) Z3 (k+1) p (.inl hb) (fun q hq=>by have:=hM q hq;omega) om om h3).mono ?_;intro r;cases hR:F (k+1) p with
       | error pe=>
         obtain⟨at',e⟩:=pe;rintro⟨Z',rfl,hE⟩;refine gS ?_;rw[D9];exact⟨_,rfl,((B9.of Nf).trans hE3).trans hE⟩
       | ok x=>
         obtain⟨e,d,k4,p4⟩:=x;have hbd:=hB _ _ _ _ _ _ hR;rintro⟨Z4,row,rfl,hE4,q4,hk4,hf4⟩;obtain⟨v1,v2,v3,v4,v5,rfl⟩:=hf4.Bj;rw[C1]
         try dsimp only
         have hn4:=hE4.n;have z4:=eT (hE4.A7 om om) z3;refine gS ?_;have hE5:B9 b Z ((Z4.new [str [],.int .i64 0,.int .i64 0,str [],.slice none 0 0,.int .i64 0] (some 118)).upd Z4.n [v1,v2,v3,v4,v5,.int .i64 (d:Nat)]):=((((B9.of Nf).trans hE3).trans hE4).LL _).As om _;have h5:=h.K4 hE5 (k':=k4) (rest':=[.int .i64 (p4:Nat)]) (cL1 q4) hk4;refine(gF h5 C7 (w:=[41]) (by simp)).mono ?_;intro r;cases hR5:X7 A1 [41] k4 with
         | error pe=>
           obtain⟨at',e⟩:=pe;rintro⟨Z',rfl,hE⟩;refine gS ?_;rw[D9];exact⟨_,rfl,hE5.trans hE⟩
         | ok k6=>
           rintro⟨Z6,rfl,hE6,q6,hk6⟩;rw[C1];have hn6:=hE6.n;simp at hn6;have r6:Z6.row Z4.n=some [v1,v2,v3,v4,v5,.int .i64 (d:Nat)]:=by rw[hE6.row (by simp) om];exact A6 D5
           have z6:Z6.A7 Z.n=some [str [],.int .i64 0,.int .i64 0,str [],.slice none 0 0,.int .i64 0]:=by rw[hE6.A7 (by simp;omega) om,I1 om,E9 om];exact z4
           have hf6:L9 (fun q=>L q\/q=Z.n) Z6 [v1,v2,v3,v4,v5] e:=by
            refine L9.K4 (b:=b) (hf4.more (L':=fun q=>L q\/q=Z.n) ⟨by simp,fun c hc=>?_⟩ fun q hq=> .inl hq) hE6 (.inl hb);rw[Bt,z0z om,EG,z0z om]
           refine gS1 (aI r6 (aI z6 @Tryz.results153)) ?_;exact⟨_,[v1,v2,v3,v4,v5],rfl,(hE5.trans hE6).As nL _,cL1 q6,hk6,(hf6.K4 (b:=Z.n) (B9.upd .refl _) (.inr rfl)).KO fun q hq=> .inl hq⟩
     | false=>
       rw[z0z (z9z lB)];have hmi:decide (c::s=[109,105,110])=decide (c::s=GJ):=rfl;have hma:decide (c::s=[109,97,120])=decide (c::s=HC):=rfl;cases hmm:(decide (c::s=GJ)||decide (c::s=HC))with
       | false=>
         rw[SK]at hmm;obtain⟨m1,m2⟩:=hmm;rw[z0z (by simp)];refine gS1 (aI lB (aI hmi (aI hma (aI m1 m2)))) ?_;refine(KA (s:=c::s) (by rw[hw]at hs;omega)).mono ?_;rintro r rfl;refine gS ?_;refine(M6 h2 ht0).mono ?_;rintro r (⟨hok,rfl⟩|⟨hok,Z3,rfl,hE3⟩)
         case inr=>
          refine gS ?_;refine Ar.intro kR ?_;refine gS ?_;rw[z0z (by rw[hok];simp)];exact⟨_,rfl,.of (Nf.trans hE3)⟩
         rw[z1z hok];refine gS ?_;refine(Aw h2 ht0).mono ?_;rintro r ⟨Z3,rfl,hE3,q3⟩;have hk3:=C7 k _ ht0 (by rw[hw];simp);have h3:=h2.K4 hE3 q3 hk3;have hn3:=hE3.n;have z3:=eT (hE3.A7 om om) z1;refine gS ?_;refine(dA h3 om (L:=fun q=>L q\/q=Z.n) (row:=[str nmB,.int .i64 0,.int .i64 0,str (c::s),.slice none 0 0]) (e:= .mk nmB 0 0 (c::s) []) (fun H hH=>⟨_,[],rfl,.inl ⟨rfl,rfl⟩,by simp,rfl⟩) (.inl hb)).mono ?_;rintro r ⟨Z7,Aa1,rfl,hE7,q7,hk7,hf7⟩;obtain⟨v1,v2,v3,v4,v5,rfl⟩:=hf7.Bj;have hn7:=hE7.n;have hz7:=eT (hE7.A7 om om) z3;refine gS1 (aI hz7 @Tryz.results153) ?_;exact⟨_,[v1,v2,v3,v4,v5],rfl,(((B9.of Nf).trans hE3).trans hE7).As nL _,by rw[I1 om];exact q7,hk7,(hf7.K4 (b:=Z.n) (B9.upd .refl _) (.inr rfl)).KO fun q hq=> .inl hq⟩
       | true=>
         rw[z1z rfl];have yY:(decide (c::s=GJ)=true)\/(decide (c::s=GJ)=false/\decide (c::s=HC)=true):=by
          cases m1:decide (c::s=GJ)with
          |true=>exact .inl rfl
          |false=>rw[m1]at hmm;exact .inr ⟨rfl,hmm⟩
         rcases yY with m1|⟨m1,m2⟩
         rotate_left
         refine gS1 (aI lB (aI hmi (aI hma (aI m1 m2)))) ?_
         rotate_left
         refine gS1 (aI lB (aI hmi (aI hma m1))) ?_
         all_goals
          refine(Aw h2 ht0).mono ?_;rintro r ⟨Z3,rfl,hE3,q3⟩;have hk3:=C7 k _ ht0 (by rw[hw];simp);have h3:=h2.K4 hE3 q3 hk3;have hn3:=hE3.n;have z3:=eT (hE3.A7 om om) z1;have sL:B9 b Z Z3:=(B9.of Nf).trans hE3;refine gS ?_;refine(gF h3 C7 (w:=[40]) (by simp)).mono ?_;intro r;cases hR1:X7 A1 [40] (k+1)with
          | error pe=>
            obtain⟨at',e⟩:=pe;rintro⟨Z',rfl,hE⟩;refine gS ?_;rw[D9];exact⟨_,rfl,sL.trans hE⟩
          |ok k1=>
          have hs1:=ER hR1;rintro⟨Z4,rfl,hE4,q4,hk4⟩;rw[C1]
          try dsimp only
          have h4:=h3.K4 hE4 q4 hk4;have PZ:=sL.trans hE4;have hn4:=hE4.n;have z4:=eT (hE4.A7 om om) z3;refine gS ?_;refine(hF (fun q=>L q\/q=Z.n) Z4 k1 p (.inl hb) (fun q hq=>by have:=hM q hq;omega) om om h4).mono ?_;intro r;cases hR2:F k1 p with
          | error pe=>
            obtain⟨at',e⟩:=pe;rintro⟨Z',rfl,hE⟩;refine gS ?_;rw[D9];exact⟨_,rfl,PZ.trans hE⟩
          |ok x=>
          obtain⟨e,d,k2,p2⟩:=x;have hbd:=hB _ _ _ _ _ _ hR2;rintro⟨Z5,gw,rfl,hE5,q5,hk5,hf5⟩;obtain⟨v1,v2,v3,v4,v5,rfl⟩:=hf5.Bj;rw[C1]
          try dsimp only
          have hn5:=hE5.n;have z5:=eT (hE5.A7 om om) z4;refine gS ?_;have Wm:B9 b Z ((Z5.new [str [],.int .i64 0,.int .i64 0,str [],.slice none 0 0,.int .i64 0] (some 118)).upd Z5.n [v1,v2,v3,v4,v5,.int .i64 (d:Nat)]):=((PZ.trans hE5).LL _).As om _;have hEa:Ext Z5 ((Z5.new [str [],.int .i64 0,.int .i64 0,str [],.slice none 0 0,.int .i64 0] (some 118)).upd Z5.n [v1,v2,v3,v4,v5,.int .i64 (d:Nat)]):=(Ext.new _ _).upd nL _;have hfa:L9 (fun q=>(L q\/q=Z.n)\/q=Z5.n) ((Z5.new [str [],.int .i64 0,.int .i64 0,str [],.slice none 0 0,.int .i64 0] (some 118)).upd Z5.n [v1,v2,v3,v4,v5,.int .i64 (d:Nat)]) [v1,v2,v3,v4,v5] e:=hf5.more hEa (by rintro q (hq|rfl);exact .inl hq;exact .inr nL);have h5:=h.K4 Wm (k':=k2) (rest':=[.int .i64 (p2:Nat)]) (cL1 q5) hk5;refine(gF h5 C7 (w:=[44]) (by simp)).mono ?_;intro r;cases hR3:X7 A1 [44] k2 with
          | error pe=>
            obtain⟨at',e⟩:=pe;rintro⟨Z',rfl,hE⟩;refine gS ?_;rw[D9];exact⟨_,rfl,Wm.trans hE⟩
          |ok k3=>
          have hs3:=ER hR3;rintro⟨Z6,rfl,hE6,q6,hk6⟩;rw[C1]
          try dsimp only
          have h6:=h5.K4 hE6 q6 hk6;have Ao3:=Wm.trans hE6;have hn6:=hE6.n;simp at hn6;have hfb:=hfa.K4 hE6 (.inl (.inl hb));have r6:Z6.A7 Z5.n=some [v1,v2,v3,v4,v5,.int .i64 (d:Nat)]:=eT (hE6.A7 (by simp) om) D5;have z6:Z6.A7 Z.n=some [str [],.int .i64 0,.int .i64 0,str [],.slice none 0 0,.int .i64 0]:=by rw[hE6.A7 (by simp;omega) om,I1 om,E9 om];exact z5
          refine gS ?_;refine(hF (fun q=>(L q\/q=Z.n)\/q=Z5.n) Z6 k3 p2 (.inl (.inl hb)) (by rintro q (hq|rfl);have:=hM q hq;omega;omega) om om h6).mono ?_;intro r;cases hR4:F k3 p2 with
          | error pe=>
            obtain⟨at',e⟩:=pe;rintro⟨Z',rfl,hE⟩;refine gS ?_;rw[D9];exact⟨_,rfl,Ao3.trans hE⟩
          |ok x=>
          obtain⟨e',d',k4,p4⟩:=x;have BQ0:=hB _ _ _ _ _ _ hR4;rintro⟨Z7,Aa1,rfl,hE7,q7,hk7,hf7⟩;obtain⟨w1,w2,w3,w4,w5,rfl⟩:=hf7.Bj;rw[C1]
          try dsimp only
          have hn7:=hE7.n;have hfc:=hfb.K4 hE7 (.inl (.inl hb));have r7:=eT (hE7.A7 om om) r6;have z7:=eT (hE7.A7 om om) z6;refine gS ?_;have AU3:B9 b Z ((Z7.new [str [],.int .i64 0,.int .i64 0,str [],.slice none 0 0,.int .i64 0] (some 118)).upd Z7.n [w1,w2,w3,w4,w5,.int .i64 (d':Nat)]):=((Ao3.trans hE7).LL _).As om _;have hEb:Ext Z7 ((Z7.new [str [],.int .i64 0,.int .i64 0,str [],.slice none 0 0,.int .i64 0] (some 118)).upd Z7.n [w1,w2,w3,w4,w5,.int .i64 (d':Nat)]):=(Ext.new _ _).upd nL _;have h7:=h.K4 AU3 (k':=k4) (rest':=[.int .i64 (p4:Nat)]) (cL1 q7) hk7;refine(gF h7 C7 (w:=[41]) (by simp)).mono ?_;intro r;cases hR5:X7 A1 [41] k4 with
          | error pe=>
            obtain⟨at',e⟩:=pe;rintro⟨Z',rfl,hE⟩;refine gS ?_;rw[D9];exact⟨_,rfl,AU3.trans hE⟩
          |ok k5=>
          have hs5:=ER hR5;rintro⟨Z8,rfl,hE8,q8,hk8⟩;rw[C1]
          try dsimp only
          have h8:=h7.K4 hE8 q8 hk8;have bK:=AU3.trans hE8;have hn8:=hE8.n;simp at hn8;have g1:=(hfc.more (L':=fun q=>((L q\/q=Z.n)\/q=Z5.n)\/q=Z7.n) hEb (by rintro q (hq|rfl);exact .inl hq;exact .inr nL)).K4 hE8 (.inl (.inl (.inl hb)));have g2:=(hf7.more (L':=fun q=>((L q\/q=Z.n)\/q=Z5.n)\/q=Z7.n) hEb (by rintro q (hq|rfl);exact .inl hq;exact .inr nL)).K4 hE8 (.inl (.inl (.inl hb)));have r8:Z8.row Z5.n=some [v1,v2,v3,v4,v5,.int .i64 (d:Nat)]:=by rw[hE8.row (by simp;omega) om];exact A6 (by rw[I1 om,E9 om];exact r7)
          have r8':Z8.row Z7.n=some [w1,w2,w3,w4,w5,.int .i64 (d':Nat)]:=by rw[hE8.row (by simp) om];exact A6 D5
          have z8:Z8.A7 Z.n=some [str [],.int .i64 0,.int .i64 0,str [],.slice none 0 0,.int .i64 0]:=by rw[hE8.A7 (by simp;omega) om,I1 om,E9 om];exact z7
          refine gS1 (aI r8 r8') ?_;refine(dB h8 (op:=c::s) (d:=d) (d':=d') om om om g1 g2 (.inl (.inl (.inl hb))) (by rintro q (((hq|rfl)|rfl)|rfl);have:=hL q hq;omega;omega;omega;omega)).mono ?_;rintro r ⟨Z9,sy,rfl,hE9,q9,hk9,hf9⟩;obtain⟨y1,y2,y3,y4,y5,rfl⟩:=hf9.Bj;have hn9:=hE9.n;have z9:=eT (hE9.A7 om om) z8;refine gS1 (aI z9 @Tryz.results153) ?_;exact⟨_,[y1,y2,y3,y4,y5],rfl,(bK.trans hE9).As nL _,by rw[I1 om];exact q9,hk9,(hf9.K4 (b:=Z.n) (B9.upd .refl _) (.inl (.inl (.inr rfl)))).KO fun q hq=> .inl (.inl (.inl hq))⟩
end
def wJ {L:Nat->Prop}{b:Nat}{Z:St}{tv:Value}{A1:List Tok}{k p:Nat}{F:Nat->Nat->Except Er Fx}(h:Sc Z b tv A1 k [.int .i64 (p:Nat)]) (C7:Ends A1) (hsh:Gf A1) (htl:A1.length<100000000) (hp:p<=k) (hb:L b) (hL:∀ q,L q->q<Z.n)
  (hF:∀ (M:Nat->Prop) (Z':St) (k' p':Nat),M b->(∀ q,M q->q<Z'.n)->k<k'->p'<=k'->Sc Z' b tv A1 k' [.int .i64 (p':Nat)]->Ev (gO 49 [.pointer (some ⟨b,0,none⟩)] Z') (FmP M Z' b tv A1 (F k' p')) ⟨⟩)
  (hB:∀ k' p',Bd k' p' (F k' p')) :
  Ev (gO 108 [.pointer (some ⟨b,0,none⟩)] Z) (FmP L Z b tv A1 (Bs (GI F A1) [42,47] A1 k p)) ⟨⟩:=by
 have hbl:=h.lt;refine D0 Tryz.func108 rfl rfl ?_;refine gS ?_;have h1:=h.ext (Ext.new (t:=some 118) Z [str [],.int .i64 0,.int .i64 0,str [],.slice none 0 0,.int .i64 0])
 refine(YG (L:=fun q=>L q\/q=Z.n) (A:=GI F A1) h1 C7 htl hp (.inl hb) (by rintro q (hq|rfl);have:=hL q hq;simp;omega;simp)
  (fun M Z' k' p' m1 m2 m3 m4 m5=>jh m5 C7 hsh htl m4 m1 m2 (fun N Z2 k2 p2 n1 n2 n3 n4 n5=>hF N Z2 k2 p2 n1 n2 om n4 n5) hB) (fun k' p' _=>IW hB k' p')).mono ?_
 intro r;cases hR:Bs (GI F A1) [42,47] A1 k p with
 | error pe=>
   obtain⟨at',e⟩:=pe;rintro⟨Z',rfl,hE⟩;refine gS ?_;exact⟨_,rfl,(B9.of (.new _ _)).trans hE⟩
 | ok x=>
   obtain⟨e,d,k',p'⟩:=x;rintro⟨Z',row,rfl,hE,q',hk',hf⟩;obtain⟨v1,v2,v3,v4,v5,rfl⟩:=hf.Bj;have hn':=hE.n;simp at hn';have z':Z'.A7 Z.n=some [str [],.int .i64 0,.int .i64 0,str [],.slice none 0 0,.int .i64 0]:=eT (hE.A7 (by simp) om) cL;refine gS1 (aI z' @Tryz.results108) ?_;exact⟨_,[v1,v2,v3,v4,v5],rfl,((B9.of (.new _ _)).trans hE).As nL _,cL1 q',hk',(hf.K4 (b:=Z.n) (B9.upd .refl _) (.inr rfl)).KO fun q hq=> .inl hq⟩
def Zq {b:Nat}{tv:Value}{A1:List Tok}(C7:Ends A1) (hsh:Gf A1) (htl:A1.length<100000000):∀ (f:Nat) (L:Nat->Prop) (Z:St) (k p:Nat),A1.length-k<=f->L b->(∀ q,L q->q<Z.n)->p<=k->Sc Z b tv A1 k [.int .i64 (p:Nat)] ->
  Ev (gO 49 [.pointer (some ⟨b,0,none⟩)] Z) (FmP L Z b tv A1 (LN A1 f k p)) ⟨⟩:=by
 intro f;induction f with
 |zero=>intro L Z k p hf hb hL hp h;have:=h.k;omega
 | succ f ih=>
   intro L Z k p hf hb hL hp h;have hbl:=h.lt;refine D0 Tryz.func49 rfl rfl ?_;refine gS ?_;have h1:=h.ext (Ext.new (t:=some 118) Z [str [],.int .i64 0,.int .i64 0,str [],.slice none 0 0,.int .i64 0]);have hB:=GN (A1:=A1) f
   refine(YG (L:=fun q=>L q\/q=Z.n) (A:=fun k p=>Bs (GI (LN A1 f) A1) [42,47] A1 k p) h1 C7 htl hp (.inl hb) (by rintro q (hq|rfl);have:=hL q hq;simp;omega;simp)
    (fun M Z' k' p' m1 m2 m3 m4 m5=>wJ m5 C7 hsh htl m4 m1 m2 (fun N Z2 k2 p2 n1 n2 n3 n4 n5=>ih N Z2 k2 p2 om n1 n2 n4 n5) hB) (fun k' p' _=>Hk (fun k p=>IW hB k p) k' p')).mono ?_
   intro r;show FmP _ _ b tv A1 (LN A1 (f+1) k p) r->_;cases hR:LN A1 (f+1) k p with
   | error pe=>
     obtain⟨at',e⟩:=pe;rintro⟨Z',rfl,hE⟩;refine gS ?_;exact⟨_,rfl,(B9.of (.new _ _)).trans hE⟩
   | ok x=>
     obtain⟨e,d,k',p'⟩:=x;rintro⟨Z',row,rfl,hE,q',hk',hf⟩;obtain⟨v1,v2,v3,v4,v5,rfl⟩:=hf.Bj;have hn':=hE.n;simp at hn';have z':Z'.A7 Z.n=some [str [],.int .i64 0,.int .i64 0,str [],.slice none 0 0,.int .i64 0]:=eT (hE.A7 (by simp) om) cL;refine gS1 (aI z' @Tryz.results49) ?_;exact⟨_,[v1,v2,v3,v4,v5],rfl,((B9.of (.new _ _)).trans hE).As nL _,cL1 q',hk',(hf.K4 (b:=Z.n) (B9.upd .refl _) (.inr rfl)).KO fun q hq=> .inl hq⟩
noncomputable def Ke (A1:List Tok):Except Er Ex:=G2 (LN A1 A1.length 0 0) fun(e,d,k,p)=>
 if (A9 A1 k).1=[]then if (decide (60<p)||decide (12<d))=true then .error ((A9 A1 0).2,2)else .ok e else .error ((A9 A1 k).2,12)
def RdP (Z:St) (R:Except Er Ex) (r:CR):Prop:=match R with
 | .ok e=>∃ Z' row,r=⟨false,.agg ⟨row⟩,Z'⟩/\Ext Z Z'/\L9 (fun q=>q<Z.n) Z' row e
 | .error (p,e)=>∃ Z',r=⟨true,fault p e,Z'⟩/\Ext Z Z'
def tO {Z:St}{tv:Value}{A1:List Tok}(hsl:SL Z 2 tv (A1.map W6)) (h0:0<A1.length) (C7:Ends A1) (hsh:Gf A1) (htl:A1.length<100000000) :
  Ev (gO 26 [tv] Z) (RdP Z (Ke A1)) ⟨⟩:=by
 obtain⟨a,c,bb0,off,cells,rfl,y1,y2⟩:=SL.use hsl;rw[z2z]at *;obtain⟨sp,rfl,y3,y4⟩:=y1 h0;have ht0:=I9 h0;have hk0:sub cells (off+0*2) 2=some [str (A9 A1 0).1,.int .i64 ((A9 A1 0).2:Nat)]:=y2 0 (W6 (A9 A1 0)) (by rw[List.getElem?_map,ht0];rfl);have hk1:sub cells (off+1) 1=some [.int .i64 ((A9 A1 0).2:Nat)]:=by
  have:=CM (i:=1) (m:=1) hk0 om;rw[HY,Ej]at this;exact this
 refine D0 Tryz.func26 rfl rfl ?_;refine gS ?_;have hE1:Ext Z ((Z.new [str [],.int .i64 0,.int .i64 0,str [],.slice none 0 0] (some 35)).new [.slice (some ⟨bb0,off,sp⟩) A1.length c,.int .i64 0,.int .i64 0]):=(Ext.new _ _).trans (.new _ _)
 have h1:Sc ((Z.new [str [],.int .i64 0,.int .i64 0,str [],.slice none 0 0] (some 35)).new [.slice (some ⟨bb0,off,sp⟩) A1.length c,.int .i64 0,.int .i64 0]) (Z.n+1) (.slice (some ⟨bb0,off,sp⟩) A1.length c) A1 0 [.int .i64 (0:Nat)] :=
  ⟨cL,by simp,hsl.mono hE1,by show some bb0≠some (Z.n+1);intro e;cases e;omega,h0,om⟩
 refine(Zq C7 hsh htl A1.length (fun q=>q<Z.n+2) _ 0 0 om (by show Z.n+1<Z.n+2;omega) (fun q hq=>by simp;exact hq) nL h1).mono ?_;intro r;unfold Ke;cases hR:LN A1 A1.length 0 0 with
 | error pe=>
   obtain⟨p,e⟩:=pe;rintro⟨Z',rfl,hE⟩;refine gS ?_;rw[D9];exact⟨_,rfl,hE.ext hE1 om⟩
 | ok x=>
   obtain⟨e,d,k,p⟩:=x;have hbd:=GN _ _ _ _ _ _ _ hR;rintro⟨Z2,row,rfl,hE2,q2,hk2,hf2⟩;obtain⟨v1,v2,v3,v4,v5,rfl⟩:=hf2.Bj;rw[C1]
   try dsimp only
   have hn2:=hE2.n;simp at hn2;have PY:Ext Z Z2:=hE2.ext hE1 om;have z2:Z2.A7 Z.n=some [str [],.int .i64 0,.int .i64 0,str [],.slice none 0 0]:=eT (hE2.A7 (by simp;omega) om) cL;refine gS ?_;have hE3:B9 (Z.n+1) ((Z.new [str [],.int .i64 0,.int .i64 0,str [],.slice none 0 0] (some 35)).new [.slice (some ⟨bb0,off,sp⟩) A1.length c,.int .i64 0,.int .i64 0]) ((Z2.new [str [],.int .i64 0,.int .i64 0,str [],.slice none 0 0,.int .i64 0] (some 118)).upd Z2.n [v1,v2,v3,v4,v5,.int .i64 (d:Nat)]):=(hE2.LL _).As (by simp;omega) _;have h3:=h1.K4 hE3 (k':=k) (rest':=[.int .i64 (p:Nat)]) (cL1 q2) hk2;have ht3:=I9 hk2;refine(Y8 h3 ht3).mono ?_;rintro r ⟨Z4,rfl,hE4⟩;have h4:=h3.ext hE4;have hn4:=hE4.n;simp at hn4;refine gS ?_;refine(M6 h4 ht3).mono ?_;have PZ:Ext Z Z4:=(((PY.AG _).upd om _)).trans hE4;rintro r (⟨hok,rfl⟩|⟨hok,Z5,rfl,hE5⟩)
   case inr=>
    refine gS ?_;refine Ar.intro kR ?_;refine gS ?_;rw[z0z (z9z hok)];exact⟨_,rfl,PZ.trans hE5⟩
   rw[z1z (z6z hok)];have r4:=A6 h4.row;have r4':Z4.row Z2.n=some [v1,v2,v3,v4,v5,.int .i64 (d:Nat)]:=by rw[hE4.row (by simp)];exact A6 D5
   have z4:Z4.A7 Z.n=some [str [],.int .i64 0,.int .i64 0,str [],.slice none 0 0]:=by rw[B8 (hE4.same _ (by simp;omega)),I1 om,E9 om];exact z2
   have y5:=eT (PZ.row y3) y4;have e60:decide ((60:Int)<(p:Int))=decide (60<p):=by rw[z7z,z3z,z3z];omega
   have e12:decide ((12:Int)<(d:Int))=decide (12<d):=by rw[z7z,z3z,z3z];omega
   have l0:decide (0<A1.length)=true:=Aq h0;cases AD2:decide (60<p)with
   | true=>
     refine gS1 (aI r4 (aI e60 (aI AD2 (aI @G9 (aI @H2 (aI y5 (aI hk1 l0))))))) ?_;exact⟨_,rfl,PZ⟩
   | false=>
     cases AX6:decide (12<d)with
     | true=>
       refine gS1 (aI r4 (aI r4' (aI e60 (aI AD2 (aI e12 (aI AX6 (aI @G9 (aI @H2 (aI y5 (aI hk1 l0)))))))))) ?_;exact⟨_,rfl,PZ⟩
     | false=>
       refine gS1 (aI r4 (aI r4' (aI e60 (aI AD2 (aI e12 (aI AX6 (aI @G9 (aI @H2 (aI z4 @Tryz.results26))))))))) ?_;rw[z0z (by simp)];refine⟨_,[v1,v2,v3,v4,v5],rfl,PZ.upd om _,?_⟩;have As1:Ext Z2 Z4:=((Ext.new _ _).upd nL _).trans hE4;exact((hf2.ext As1).K4 (b:=Z.n) (B9.upd .refl _) (by show Z.n<Z.n+2;omega)).KO fun q hq=>by show q<Z.n+2;omega
section
variable {Z ZL:St}{bt bx:Nat}{T:Tn}{tv:Value}{A1:List Tok}{k:Nat}{tx:By}{from':Nat}{v:Nat->Value}{fc vs:List Value}
noncomputable def AZ (A1:List Tok) (tx:By) (from':Nat) (T:Tn) (_:Nat):Except Er (Tn×Nat):=G2 (Ke (CE tx from')) fun e=> .ok ({ T with f:=e },A1.length-1)
def mT (h:Ln ZL Z bt bx T tv A1 k (K2 tx from' bt) v fc vs) (htx:tx.length<10000000) (hfr:from'<10000000) (C7:Ends (CE tx from')) (hsh:Gf (CE tx from')) :
  Ev (gO 98 [.pointer (some ⟨bx,0,none⟩)] Z) (LnP ZL bt bx tv A1 (K2 tx from' bt) (AZ A1 tx from' T k)) ⟨⟩:=by
 refine D0 Tryz.func98 rfl rfl ?_;have hx:=A6 h.sc.row;unfold K2 at hx;have dN:(CE tx from').length<=tx.length+1:=by
  unfold CE;rw[BD];have:=UX (s:=tx) (from':=from') tx.length 0;simp;omega
 have MP:0<(CE tx from').length:=by unfold CE;simp
 have m1:=h.btl;have m2:=h.bxg;have m3:=h.ext.n;have m4:=h.sc.lt;refine gS1 hx ?_;refine(Zr htx hfr).mono ?_;rintro r ⟨fv,Z1,rfl,hol,hE1⟩;have h1:=h.J0 hE1;obtain⟨fa,rfl⟩:=OL.shape hol;have AD3:=OL.sl hol;refine gS ?_;refine(tO AD3 MP C7 hsh om).mono ?_;intro r;unfold AZ;cases hR:Ke (CE tx from')with
 | error pe=>
   obtain⟨p,e⟩:=pe;rintro⟨Z',rfl,hE⟩;refine gS ?_;refine Ar.intro kR ?_;refine dW1 (aI @L8 (aI @T7 (aI @T8 (aI @K3 (aI @j9 (aI (Be hE1) (Be hE))))))) ?_;refine gS ?_;rw[D9];exact⟨_,rfl,(h1.J0 hE).ext⟩
 | ok e=>
   rintro⟨Z2,row,rfl,hE2,hf2⟩;obtain⟨u1,u2,u3,u4,u5,rfl⟩:=hf2.Bj;rw[C1];have h2:=h1.J0 hE2;have hfx:Ag (J5 Z2 (held bt bx v)) [u1,u2,u3,u4,u5] e:=by
    refine hf2 _ fun q hq=>?_;have hn1:=hE1.n;rcases CN.1 hq with e|e|⟨i,hi,e⟩|e
    ·omega
    ·omega
    ·have:=((h.sl i hi).blk e).2;omega
    ·omega
   have h3:=h2.fml hfx;have ro:=h2.row;obtain⟨c1,c2,c3,c4,c5,rfl⟩:=fc5 h.fx;unfold tnR AI at ro;have rx:=A6 h2.sc.row;have rx':=h2.sc.row;have hlk:=h.sc.k;have hll:=h.sc.len;obtain⟨sa,sc,sb,BM5,As2,rfl,-,-⟩:=SL.use h.sc.sl;rw[z2z]at *;unfold K2 at rx rx';refine gS1 ro ?_;refine dW1 (aI @L8 (aI @T7 (aI @T8 (aI @K3 (aI @j9 (aI (Be hE1) (Be hE2))))))) ?_;have e1:(A1.length:Int)-1=((A1.length-1:Nat):Int):=om;refine gS1 (aI rx (aI rx' (aI e1 @Tryz.results98))) ?_;rw[z2z];exact⟨_,v,[u1,u2,u3,u4,u5],vs,rfl,h3.step (B9.upd .refl _) D5 om⟩
end
end Go.Proofs.T
