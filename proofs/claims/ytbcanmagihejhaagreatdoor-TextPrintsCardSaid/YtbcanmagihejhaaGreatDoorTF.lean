/- The tokens of a AL. -/
import Derived.Test.YtbcanmagihejhaaGreatDoorTD
set_option linter.unusedSimpArgs false
set_option linter.unusedVariables false
set_option linter.defProp false
set_option maxHeartbeats 32000000
set_option maxRecDepth 100000
namespace Go.Proofs.T
open Go Go.Ab
section
variable {s:By}{from' k:Nat}{c:UInt8}
def P7 (s:By) (k:Nat) (c:UInt8):Nat :=
 if on DC c then k+R3 DD s k else if on J3 c then
  if (decide (k+R3 J3 s k<s.length)&&decide (s[k+R3 J3 s k]? =some 46)&&decide (k+R3 J3 s k+1<min (k+R3 J3 s k+1) s.length+R3 J3 s (min (k+R3 J3 s k+1) s.length)))=true
  then min (k+R3 J3 s k+1) s.length+R3 J3 s (min (k+R3 J3 s k+1) s.length)else k+R3 J3 s k
 else k+1
def fT (s:By) (from':Nat):Nat->Nat->List Tok
 |0,_=>[]
 | f+1,k=>match s[k]? with
   |none=>[]
   |some c=>if c=32 then fT s from' f (k+1)else((s.drop k).take (P7 s k c-k),from'+k)::fT s from' f (P7 s k c)
def Ck (s:By) (from':Nat):List Tok:=fT s from' s.length 0++[([],from'+s.length)]
def Zc {p:Int->Bool}(h:s[k]? =some c) (d:on p c=true):0<R3 p s k:=by
 obtain⟨a,b⟩:=List.getElem?_eq_some_iff.1 h;unfold R3;rw[Mk a,b,jF,d];simp
def Mo (h:s[k]? =some c):k<P7 s k c/\P7 s k c<=s.length:=by
 obtain⟨f,g⟩:=List.getElem?_eq_some_iff.1 h;unfold P7;split
 ·rename_i d;have b:on DD c=true:=by unfold on DD;rw[show DC (c.toNat:Nat)=true from d];rfl
  have:=Zc h b;have:=Mj DD s k om;omega
 ·split
  ·rename_i a;have:=Zc h a;have:=Mj J3 s k om;have:=Mj J3 s (min (k+R3 J3 s k+1) s.length) om;split
   ·rename_i e;rw[T1,T1,z3z,z3z,z3z]at e;omega
   ·omega
  ·omega
def KK:∀ (f f' k:Nat),s.length-k<=f->s.length-k<=f'->fT s from' f k=fT s from' f' k:=by
 intro f;induction f with
 | zero=>
   intro f' k b _;cases f' with
   |zero=>rfl
   | succ f'=>
     unfold fT;rw[List.getElem?_eq_none om]
 | succ f ih=>
   intro f' k b d;cases f' with
   | zero=>
     unfold fT;rw[List.getElem?_eq_none om]
   | succ f'=>
     unfold fT;cases a:s[k]? with
     |none=>rfl
     | some c=>
       have:=(List.getElem?_eq_some_iff.1 a).1;have e:=Mo a;dsimp only;rw[ih f' (k+1) om om,ih f' (P7 s k c) om om]
def oA:∀ (f k:Nat),(fT s from' f k).length<=s.length-k:=by
 intro f;induction f with
 |zero=>intro k;simp[fT]
 | succ f ih=>
   intro k;unfold fT;cases a:s[k]? with
   |none=>simp
   | some c=>
     have:=(List.getElem?_eq_some_iff.1 a).1;have b:=Mo a;have d:=ih (k+1);have e:=ih (P7 s k c);dsimp only;split
     ·omega
     ·rw[AG];omega
def aq {Z:St}(hs:s.length<10000000) (a4:from'<10000000):
  Ev (gO 52 [str s,.int .i64 (from':Nat)] Z) (fun r=>∃ v Z',r=⟨false,v,Z'⟩/\OL Z.n Z' 2 v ((Ck s from').map FC)/\Ext Z Z') ⟨⟩:=by
 refine G1 Tryz.func52 rfl rfl ?_;refine gS ?_
 refine BE (fun j fr Z'=>∃ k done J,j=s.length-k/\k<=s.length/\fr.get 0=some (str s)/\fr.get 1=some (.int .i64 (from':Nat))/\fr.get 6=some (.int .i64 (k:Nat))/\fr.get 5=some J/\OL Z.n Z' 2 J (done.map FC)/\Ext Z Z'/\done++fT s from' (s.length-k) k=fT s from' s.length 0/\done.length<=k)
  (fun r=>∃ fr Z' J,r=⟨.exit 0,fr,Z'⟩/\fr.get 0=some (str s)/\fr.get 1=some (.int .i64 (from':Nat))/\fr.get 5=some J/\OL Z.n Z' 2 J ((fT s from' s.length 0).map FC)/\Ext Z Z') s.length ?_ ?_ ?_
 ·exact⟨0,[],_,rfl,Af _,fR,fR,fR,fR,OL.nil,.refl _,rfl,Af _⟩
 ·rintro j fr Z' ⟨k,done,J,rfl,hk,a,l,g6,g5,b,q,B,hd⟩;have e1:decide ((k:Int)<(s.length:Int))=decide (k<s.length):=by rw[z7z];simp
  have en:(k:Int)+1=((k+1:Nat):Int):=om;cases E:decide (k<s.length)with
  | false=>
    have M:k=s.length:=by have:=z9z E;omega
    refine gS1 (aI a (aI l (aI g6 (aI e1 (aI E @BS))))) ?_;refine⟨_,_,J,rfl,fR1 a,fR1 l,fR1 g5,?_,q⟩;rw[<- B,M,WY];show OL _ _ _ _ (List.map FC (done++[]));rw[Ca];exact b
  | true=>
    have M:=z6z E;obtain⟨c,hc⟩:=I3 M;have X:=FJ hc;have Q:=Mo hc;obtain⟨f,hf⟩:∃ f,s.length-k=f+1:=⟨s.length-k-1,om⟩
    rw[hf]at B;have a1:fT s from' (f+1) k=if c=32 then fT s from' f (k+1)else((s.drop k).take (P7 s k c-k),from'+k)::fT s from' f (P7 s k c):=by
     show(match s[k]? with|none=>_|some c=>_)=_;rw[hc]
    rw[a1]at B;have N:decide ((c.toNat:Int)=32)=decide (c=32):=by
     rw[z7z,z3z,z3z];constructor
     ·intro h;have:c.toNat=32:=om;exact ec this
     ·rintro rfl;rfl
    cases H:decide (c=32)with
    | true=>
      rw[z1z (z6z H)]at B;refine gS1 (aI a (aI l (aI g6 (aI e1 (aI E (aI X (aI @X7 (aI en (aI N (aI H @R8)))))))))) ?_;refine⟨f,om,k+1,done,J,om,om,fR1 a,fR1 l,fR,fR1 g5,b,q,?_,om⟩;rw[<- B,KK (s.length-(k+1)) f (k+1) om om]
    | false =>
      rw[z0z (z9z H)]at B;refine gS1 (aI a (aI l (aI g6 (aI e1 (aI E (aI X (aI @X7 (aI en (aI N H))))))))) ?_;refine Ng.mono ?_;rintro r rfl;have W:DC (c.toNat:Int)=on DC c:=rfl;cases V:on DC c with
      | true=>
        refine gS1 (aI W (aI V (aI a g6))) ?_;refine(QK (k:=k) QL om om).mono ?_;rintro r rfl;have p:P7 s k c=k+R3 DD s k:=by unfold P7;rw[z1z V]
        have o:sub s k (k+R3 DD s k-k)=some ((s.drop k).take (P7 s k c-k)):=by rw[p,AE om]
        have F:(from':Int)+(k:Int)=((from'+k:Nat):Int):=om;have C:k<=k+R3 DD s k:=om;have D:k+R3 DD s k<=s.length:=om;refine gU1 (aI @A6 (aI @P2 (aI @R5 (aI @R6 (aI @R1 (aI @K6 (aI @R2 (aI @P5 (aI @K4 (aI @H5 (aI a (aI l (aI g6 (aI g5 (aI o F))))))))))))))) ?_;refine J6 (row:=FC ((s.drop k).take (P7 s k c-k),from'+k)) (fun _ _ _ _=>K5) (OL.ext b (.new _ _)) (G6 nL nL) (G3 (by simp[FC]) (by simp)) (by rw[z2z];omega) (by have:=q.n;simp;omega) ?_;intro i Z3 y z R;have g:Ext Z Z3:=z.ext (q.trans (Ext.new (t:=none) Z' [str ((s.drop k).take (P7 s k c-k)),.int .i64 (from'+k:Nat)])) (OL.ext b (.new _ _)) nL;refine gS1 (aI a (aI l (aI g6 (aI g5 @R8)))) ?_;refine⟨s.length-P7 s k c,om,P7 s k c,done++[((s.drop k).take (P7 s k c-k),from'+k)],i,rfl,Q.2,fR1 a,fR1 l,fR1 p,fR,by rw[Ah];exact y,g,?_,by simp;omega⟩;rw[DT,iH,<- B,KK (s.length-P7 s k c) f (P7 s k c) om om]
      | false =>
        refine gS1 (aI W (aI V (aI a (aI g6 (aI X @X7))))) ?_;refine Mi.mono ?_;rintro r rfl;have S:J3 (c.toNat:Int)=on J3 c:=rfl;cases I:on J3 c with
        | false=>
          refine gS1 (aI S (aI I (aI a (aI g6 X)))) ?_;have p:P7 s k c=k+1:=by unfold P7;rw[z0z (by rw[V];simp),z0z (by rw[I];simp)]
          have o:sub s k (k+1-k)=some ((s.drop k).take (P7 s k c-k)):=by rw[p,AE om]
          have F:(from':Int)+(k:Int)=((from'+k:Nat):Int):=om;have C:k<=k+1:=om;have D:k+1<=s.length:=om;refine gU1 (aI @A6 (aI @P2 (aI @R5 (aI @R6 (aI @R1 (aI @K6 (aI @R2 (aI @P5 (aI @K4 (aI @H5 (aI a (aI l (aI g6 (aI g5 (aI o F))))))))))))))) ?_;refine J6 (row:=FC ((s.drop k).take (P7 s k c-k),from'+k)) (fun _ _ _ _=>K5) (OL.ext b (.new _ _)) (G6 nL nL) (G3 (by simp[FC]) (by simp)) (by rw[z2z];omega) (by have:=q.n;simp;omega) ?_;intro i Z3 y z R;have g:Ext Z Z3:=z.ext (q.trans (Ext.new (t:=none) Z' [str ((s.drop k).take (P7 s k c-k)),.int .i64 (from'+k:Nat)])) (OL.ext b (.new _ _)) nL;refine gS1 (aI a (aI l (aI g6 (aI g5 @R8)))) ?_;refine⟨s.length-P7 s k c,om,P7 s k c,done++[((s.drop k).take (P7 s k c-k),from'+k)],i,rfl,Q.2,fR1 a,fR1 l,fR1 p,fR,by rw[Ah];exact y,g,?_,by simp;omega⟩;rw[DT,iH,<- B,KK (s.length-P7 s k c) f (P7 s k c) om om]
        | true =>
          refine gS1 (aI S (aI I (aI a g6))) ?_;refine(QK (k:=k) JZ om om).mono ?_;rintro r rfl;have a5:=Mj J3 s k om
          have m:P7 s k c=if (decide (k+R3 J3 s k<s.length)&&decide (s[k+R3 J3 s k]? =some 46)&&decide (k+R3 J3 s k+1<min (k+R3 J3 s k+1) s.length+R3 J3 s (min (k+R3 J3 s k+1) s.length)))=true
            then min (k+R3 J3 s k+1) s.length+R3 J3 s (min (k+R3 J3 s k+1) s.length)else k+R3 J3 s k:=by
           unfold P7;rw[z0z (by rw[V];simp),z1z I]
          generalize k+R3 J3 s k=e at *;have K:(e:Int)+1=((e+1:Nat):Int):=om;have a0:min (((e+1:Nat):Int)) (s.length:Int)=((min (e+1) s.length:Nat):Int):=om;refine gS1 (aI a (aI g6 (aI K a0))) ?_;refine(QK (k:=min (e+1) s.length) JZ om om).mono ?_;rintro r rfl;generalize min (e+1) s.length+R3 J3 s (min (e+1) s.length)=fr2 at *;have G:decide ((e:Int)<(s.length:Int))=decide (e<s.length):=by rw[z7z];simp
          cases u:decide (e<s.length)with
          | false=>
            rw[u]at m;refine gS1 (aI a (aI g6 (aI G u))) ?_;have p:P7 s k c=e:=by rw[m];rfl
            have o:sub s k (e-k)=some ((s.drop k).take (P7 s k c-k)):=by rw[p,AE om]
            have F:(from':Int)+(k:Int)=((from'+k:Nat):Int):=om;have C:k<=e:=om;have D:e<=s.length:=om;refine gU1 (aI @A6 (aI @P2 (aI @R5 (aI @R6 (aI @R1 (aI @K6 (aI @R2 (aI @P5 (aI @K4 (aI @H5 (aI a (aI l (aI g6 (aI g5 (aI o F))))))))))))))) ?_;refine J6 (row:=FC ((s.drop k).take (P7 s k c-k),from'+k)) (fun _ _ _ _=>K5) (OL.ext b (.new _ _)) (G6 nL nL) (G3 (by simp[FC]) (by simp)) (by rw[z2z];omega) (by have:=q.n;simp;omega) ?_;intro i Z3 y z R;have g:Ext Z Z3:=z.ext (q.trans (Ext.new (t:=none) Z' [str ((s.drop k).take (P7 s k c-k)),.int .i64 (from'+k:Nat)])) (OL.ext b (.new _ _)) nL;refine gS1 (aI a (aI l (aI g6 (aI g5 @R8)))) ?_;refine⟨s.length-P7 s k c,om,P7 s k c,done++[((s.drop k).take (P7 s k c-k),from'+k)],i,rfl,Q.2,fR1 a,fR1 l,fR1 p,fR,by rw[Ah];exact y,g,?_,by simp;omega⟩;rw[DT,iH,<- B,KK (s.length-P7 s k c) f (P7 s k c) om om]
          | true=>
            obtain⟨d,O⟩:=I3 (z6z u);have h2:=FJ O;have L:decide ((d.toNat:Int)=46)=decide (d=46):=by
             rw[z7z,z3z,z3z];constructor
             ·intro h;have:d.toNat=46:=om;exact ec this
             ·rintro rfl;rfl
            have a2:decide (s[e]? =some 46)=decide (d=46):=by rw[O];simp
            have U:decide (((e+1:Nat):Int)<(fr2:Int))=decide (e+1<fr2):=by rw[z7z,z3z,z3z];omega
            rw[u,a2]at m;cases A:decide (d=46)with
            | false=>
              rw[A]at m;refine gS1 (aI a (aI g6 (aI G (aI u (aI h2 (aI @X7 (aI L A))))))) ?_;have p:P7 s k c=e:=by rw[m];rfl
              have o:sub s k (e-k)=some ((s.drop k).take (P7 s k c-k)):=by rw[p,AE om]
              have F:(from':Int)+(k:Int)=((from'+k:Nat):Int):=om;have C:k<=e:=om;have D:e<=s.length:=om;refine gU1 (aI @A6 (aI @P2 (aI @R5 (aI @R6 (aI @R1 (aI @K6 (aI @R2 (aI @P5 (aI @K4 (aI @H5 (aI a (aI l (aI g6 (aI g5 (aI o F))))))))))))))) ?_;refine J6 (row:=FC ((s.drop k).take (P7 s k c-k),from'+k)) (fun _ _ _ _=>K5) (OL.ext b (.new _ _)) (G6 nL nL) (G3 (by simp[FC]) (by simp)) (by rw[z2z];omega) (by have:=q.n;simp;omega) ?_;intro i Z3 y z R;have g:Ext Z Z3:=z.ext (q.trans (Ext.new (t:=none) Z' [str ((s.drop k).take (P7 s k c-k)),.int .i64 (from'+k:Nat)])) (OL.ext b (.new _ _)) nL;refine gS1 (aI a (aI l (aI g6 (aI g5 @R8)))) ?_;refine⟨s.length-P7 s k c,om,P7 s k c,done++[((s.drop k).take (P7 s k c-k),from'+k)],i,rfl,Q.2,fR1 a,fR1 l,fR1 p,fR,by rw[Ah];exact y,g,?_,by simp;omega⟩;rw[DT,iH,<- B,KK (s.length-P7 s k c) f (P7 s k c) om om]
            | true=>
              rw[A]at m;cases Y:decide (e+1<fr2)
              case' false=>
               rw[Y]at m;refine gS1 (aI a (aI g6 (aI G (aI u (aI h2 (aI @X7 (aI L (aI A (aI K (aI U Y)))))))))) ?_;have p:P7 s k c=e:=by rw[m];rfl
               have o:sub s k (e-k)=some ((s.drop k).take (P7 s k c-k)):=by rw[p,AE om]
               have F:(from':Int)+(k:Int)=((from'+k:Nat):Int):=om;have C:k<=e:=om;have D:e<=s.length:=om
              case' true=>
               rw[Y]at m;refine gS1 (aI a (aI g6 (aI G (aI u (aI h2 (aI @X7 (aI L (aI A (aI K (aI U Y)))))))))) ?_;have p:P7 s k c=fr2:=by rw[m];rfl
               have o:sub s k (fr2-k)=some ((s.drop k).take (P7 s k c-k)):=by rw[p,AE om]
               have F:(from':Int)+(k:Int)=((from'+k:Nat):Int):=om;have C:k<=fr2:=om;have D:fr2<=s.length:=om
              all_goals
               refine gU1 (aI @A6 (aI @P2 (aI @R5 (aI @R6 (aI @R1 (aI @K6 (aI @R2 (aI @P5 (aI @K4 (aI @H5 (aI a (aI l (aI g6 (aI g5 (aI o F))))))))))))))) ?_;refine J6 (row:=FC ((s.drop k).take (P7 s k c-k),from'+k)) (fun _ _ _ _=>K5) (OL.ext b (.new _ _)) (G6 nL nL) (G3 (by simp[FC]) (by simp)) (by rw[z2z];omega) (by have:=q.n;simp;omega) ?_;intro i Z3 y z R;have g:Ext Z Z3:=z.ext (q.trans (Ext.new (t:=none) Z' [str ((s.drop k).take (P7 s k c-k)),.int .i64 (from'+k:Nat)])) (OL.ext b (.new _ _)) nL;refine gS1 (aI a (aI l (aI g6 (aI g5 @R8)))) ?_;refine⟨s.length-P7 s k c,om,P7 s k c,done++[((s.drop k).take (P7 s k c-k),from'+k)],i,rfl,Q.2,fR1 a,fR1 l,fR1 p,fR,by rw[Ah];exact y,g,?_,by simp;omega⟩;rw[DT,iH,<- B,KK (s.length-P7 s k c) f (P7 s k c) om om]
 rintro r ⟨fr,Z',J,rfl,a,l,g5,b,q⟩;have e4:(from':Int)+(s.length:Int)=((from'+s.length:Nat):Int):=om;refine gU1 (aI @A6 (aI @P2 (aI @R5 (aI @R6 (aI @R1 (aI @K6 (aI @R2 (aI @P5 (aI @K4 (aI @H5 (aI a (aI l (aI g5 e4))))))))))))) ?_;have a3:=oA (s:=s) (from':=from') s.length 0;refine J6 (row:=FC ([],from'+s.length)) (fun _ _ _ _=>K5) (OL.ext b (.new _ _)) (G6 nL nL) (G3 (by simp[FC]) (by simp)) (by rw[z2z];omega) (by have:=q.n;simp;omega) ?_;intro i Z3 y z R;have g:Ext Z Z3:=z.ext (q.trans (Ext.new (t:=none) Z' [str [],.int .i64 (from'+s.length:Nat)])) (OL.ext b (.new _ _)) nL;refine gS1 @Tryz.results52 ?_;exact⟨i,Z3,rfl,by unfold Ck;rw[Ah];exact y,g⟩
end
section
variable {row:List Value}{e:Ex}{Z':St}
def Bp (L:Nat->Prop) (Z:St) (row:List Value) (e:Ex):Prop:=∀ H:List Nat,(∀ q∈H,L q)->Aq (J0 Z H) row e
def Bp.Uw {L L':Nat->Prop}{Z:St}(h:Bp L Z row e) (c:∀ q,L' q->L q):Bp L' Z row e:=fun H a=>h H fun q d=>c q (a q d)
def Bp.more {L L':Nat->Prop}{Z:St}(h:Bp L Z row e) (f:Ext Z Z') (m:∀ q,L' q->L q\/Z.n<=q):Bp L' Z' row e:=by
 intro H l;refine(h (H.filter fun q=>decide (q<Z.n)) fun q r=>?_).I4 (K8 f.n fun c g o=>⟨fun a=>o ?_,f.row g⟩)
 ·obtain⟨i,j⟩:=List.mem_filter.1 r;rcases m q (l q i)with d|d
  ·exact d
  ·have:=z6z j;omega
 ·exact List.mem_filter.2 ⟨a,AK g⟩
def Bp.CA {L:Nat->Prop}{b:Nat}{Z:St}(h:Bp L Z row e) (f:G5 b Z Z') (j:L b):Bp L Z' row e:=by
 intro H i;refine(h (b::H) fun q d=>?_).I4 (K8 f.n fun c l g=>⟨fun a=>g (Ci _ a),f.row l fun e=>g (by simp[e])⟩);rcases V9.1 d with rfl|d
 ·exact j
 ·exact i q d
def Bp.ext {L:Nat->Prop}{Z:St}(h:Bp L Z row e) (a:Ext Z Z'):Bp L Z' row e:=fun H c=>(h H c).I4 (HX a)
def Bp.at {L:Nat->Prop}{Z:St}(h:Bp L Z row e):Aq Z row e:=h [] (by simp)
def Bp.IM {L:Nat->Prop}{Z:St}(h:Bp L Z row e):∃ c1 c2 c3 c4 c5,row=[c1,c2,c3,c4,c5]:=fc5 h.at
abbrev Fx:=Ex×Nat×Nat×Nat
def FmP (L:Nat->Prop) (Z:St) (b:Nat) (tv:Value) (A7:List Tok) (R:Except Er Fx) (r:CR):Prop:=match R with
 | .ok (e,d,k,p)=>∃ Z' row,r=⟨false,.agg ⟨row++[.int .i64 (d:Nat)]⟩,Z'⟩/\G5 b Z Z'/\Z'.B8 b=some [tv,.int .i64 (k:Nat),.int .i64 (p:Nat)]/\k<A7.length/\Bp L Z' row e
 | .error (at',e)=>∃ Z',r=⟨true,fault at' e,Z'⟩/\G5 b Z Z'
section
variable {L:Nat->Prop}{b:Nat}{Z:St}{tv:Value}{A7:List Tok}{k p:Nat}
def eM (h:Sc Z b tv A7 k [.int .i64 (p:Nat)]) (m:p<1000000000)(d:Bp L Z row e) (i:L b):
  Ev (gO 205 [.pointer (some ⟨b,0,none⟩),.agg ⟨row⟩] Z) (FmP L Z b tv A7 (.ok (e,1,k,p+1))) ⟨⟩:=by
 have f:=h.row;have l:=h.lt;obtain⟨c1,c2,c3,c4,a,rfl⟩:=d.IM;have g:(p:Int)+1=((p+1:Nat):Int):=om;refine G1 Tryz.func205 rfl rfl ?_;have j:=C1 f;refine gS1 (aI j (aI f (aI g @Tryz.results205))) ?_;have c:G5 b Z ((((Z.new [c1,c2,c3,c4,a]).new [str [],.int .i64 0,.int .i64 0,str [],.slice none 0 0,.int .i64 0] (some 154)).upd b [tv,.int .i64 (k:Nat),.int .i64 (p+1:Nat)]).upd (Z.n+1) [c1,c2,c3,c4,a,.int .i64 1]):=eXX;exact⟨_,[c1,c2,c3,c4,a],rfl,c,cL,h.k,d.CA c i⟩
def ue {w:By}{H4:List Value}(h:Sc Z b tv A7 k H4) (m:Ends A7) (n:w≠[]):
  Ev (gO 204 [.pointer (some ⟨b,0,none⟩),str w] Z) (fun r=>if (E8 A7 k).1=w then ∃ Z',r=⟨false,.tuple ⟨[]⟩,Z'⟩/\G5 b Z Z'/\Z'.B8 b=some (tv:: .int .i64 (k+1:Nat)::H4)/\k+1<A7.length
   else ∃ Z',r=⟨true,fault (E8 A7 k).2 12,Z'⟩/\G5 b Z Z') ⟨⟩:=by
 have a:=R9 h.k;refine G1 Tryz.func204 rfl rfl ?_;refine gS ?_;refine(Y9 h a).mono ?_;rintro r ⟨o,rfl,c⟩;have l:=h.ext c;refine gS ?_;refine(P1 l a).mono ?_;rintro r (⟨d,rfl⟩|⟨d,q,rfl,g⟩)
 case inr=>
  refine gS ?_;refine T3.intro kR ?_;refine gS ?_;rw[z0z (z9z d)];exact⟨_,rfl,.of (c.trans g)⟩
 have f:=z6z d;refine gS ?_;refine(BV l a).mono ?_;rintro r ⟨s,rfl,i,j⟩;refine gS1 @Tryz.results204 ?_;rw[z1z f];exact⟨_,rfl,(G5.of c).trans i,j,m k _ a (by rw[f];exact n)⟩
def eN (h:Sc Z b tv A7 k [.int .i64 (p:Nat)]) (F:p<1000000000){op:By}{j:List Value}{l:Ex}{d d':Nat}(D:d<1000000000) (A:d'<1000000000) (o:Bp L Z row e) (c:Bp L Z j l) (m:L b) (z:∀ q,L q->q<Z.n):
  Ev (gO 172 [.pointer (some ⟨b,0,none⟩),str op,.agg ⟨row++[.int .i64 (d:Nat)]⟩,.agg ⟨j++[.int .i64 (d':Nat)]⟩] Z) (FmP L Z b tv A7 (.ok (.mk op 0 0 [] [e,l],1+max d d',k,p+1))) ⟨⟩:=by
 have r:=h.row;have E:=h.lt;obtain⟨c1,c2,c3,c4,a,rfl⟩:=o.IM;obtain⟨f1,f2,f3,f4,f5,rfl⟩:=c.IM;have s:(p:Int)+1=((p+1:Nat):Int):=om;have u:max (d:Int) (d':Int)=((max d d':Nat):Int):=om;have v:(1:Int)+((max d d':Nat):Int)=((1+max d d':Nat):Int):=om;refine G1 Tryz.func172 rfl rfl ?_;have C:=C1 r;refine gS1 (aI C (aI r (aI s (aI u (aI v @Tryz.results172))))) ?_
 have f:G5 b Z ((((((Z.new [c1,c2,c3,c4,a,.int .i64 (d:Nat)]).new [f1,f2,f3,f4,f5,.int .i64 (d':Nat)]).new [str [],.int .i64 0,.int .i64 0,str [],.slice none 0 0,.int .i64 0] (some 154)).upd b [tv,.int .i64 (k:Nat),.int .i64 (p+1:Nat)]).new [c1,c2,c3,c4,a,f1,f2,f3,f4,f5]).upd (Z.n+1+1)
  [str op,.int .i64 0,.int .i64 0,str [],.slice (some ⟨Z.n+1+1+1,0,none⟩) 2 2,.int .i64 (1+max d d':Nat)]):=eXX
 have i:OL Z.n ((((((Z.new [c1,c2,c3,c4,a,.int .i64 (d:Nat)]).new [f1,f2,f3,f4,f5,.int .i64 (d':Nat)]).new [str [],.int .i64 0,.int .i64 0,str [],.slice none 0 0,.int .i64 0] (some 154)).upd b [tv,.int .i64 (k:Nat),.int .i64 (p+1:Nat)]).new [c1,c2,c3,c4,a,f1,f2,f3,f4,f5]).upd (Z.n+1+1)
  [str op,.int .i64 0,.int .i64 0,str [],.slice (some ⟨Z.n+1+1+1,0,none⟩) 2 2,.int .i64 (1+max d d':Nat)]) 5 (.slice (some ⟨Z.n+1+1+1,0,none⟩) 2 2) [[c1,c2,c3,c4,a],[f1,f2,f3,f4,f5]]:=OL.mk (cells:=[c1,c2,c3,c4,a,f1,f2,f3,f4,f5]) rfl rfl (by simp) (.inl rfl) om (by simp) (cL)
 refine⟨_,[str op,.int .i64 0,.int .i64 0,str [],.slice (some ⟨Z.n+1+1+1,0,none⟩) 2 2],rfl,f,cL,h.k,fun H g=>?_⟩;have y:=(o.CA f m) H g;have g2:=(c.CA f m) H g;refine⟨_,[[c1,c2,c3,c4,a],[f1,f2,f3,f4,f5]],rfl,(OL.J0 i fun q B=>z q (g q B)).sl,by simp,_,_,rfl,y,_,_,rfl,g2,rfl⟩
end
end
section
variable {ops:By}{A7:List Tok}{A:Nat->Nat->Except Er Fx}{k:Nat}
def WV {Z:St}{s:By}{c:UInt8}:Ev (gO 171 [str s,str [c]] Z) (fun r=>r=⟨false,.bool (!decide (CD c s<0)),Z⟩) ⟨⟩:=by
 refine G1 Tryz.func171 rfl rfl ?_;refine gS ?_;refine WW.mono ?_;rintro r rfl;refine gS1 @Tryz.results171 ?_;try exact⟨⟩
noncomputable def opB (ops t:By):Bool:=match t with
 | [c]=> !decide (CD c ops<0)
 |_=>false
def AQ5 {t:By}(h:opB ops t=true):t≠[]:=by rintro rfl;cases h
noncomputable def Ce (A:Nat->Nat->Except Er Fx) (ops:By) (A7:List Tok):Nat->Fx->Except Er Fx
 |0,x=> .ok x
 |f+1,(e,d,k,p)=>if opB ops (E8 A7 k).1=true then V6 (A (k+1) p) fun(e',d',k',p')=>Ce A ops A7 f (.mk (E8 A7 k).1 0 0 [] [e,e'],1+max d d',k',p'+1)else .ok (e,d,k,p)
def Am {f:Nat}{e:Ex}{d p:Nat}:Ce A ops A7 (f+1) (e,d,k,p)=if opB ops (E8 A7 k).1=true then V6 (A (k+1) p) fun(e',d',k',p')=>Ce A ops A7 f (.mk (E8 A7 k).1 0 0 [] [e,e'],1+max d d',k',p'+1)else .ok (e,d,k,p):=rfl
def Oq {k0:Nat}(n:∀ k p,k0<=k->∀ e d k' p',A k p= .ok (e,d,k',p')->k<k'):∀ (f f':Nat) (e:Ex) (d k p:Nat),k0<=k->A7.length-k<=f->A7.length-k<=f'->k<A7.length+1->(∀ k,A7.length<=k->opB ops (E8 A7 k).1=false) ->
  Ce A ops A7 f (e,d,k,p)=Ce A ops A7 f' (e,d,k,p):=by
 intro f;induction f with
 | zero=>
   intro f' e d k p i j l m a;cases f' with
   |zero=>rfl
   |succ f'=>rw[Am,z0z (by rw[a k om];simp)];rfl
 | succ f ih=>
   intro f' e d k p i j l m a;cases f' with
   |zero=>rw[Am,z0z (by rw[a k om];simp)];rfl
   | succ f'=>
     rw[Am,Am];by_cases b:opB ops (E8 A7 k).1=true
     ·rw [z1z b,z1z b];cases o:A (k+1) p with
      |error e=>rfl
      | ok x=>
        obtain⟨c,d',k',p'⟩:=x;have:=n (k+1) p om _ _ _ _ o;rw[F0,F0];dsimp only;by_cases q:k'<A7.length+1
        ·exact ih f' _ _ _ _ om om om q a
        ·have h:∀ g,Ce A ops A7 g (.mk (E8 A7 k).1 0 0 [] [e,c],1+max d d',k',p'+1)= .ok (.mk (E8 A7 k).1 0 0 [] [e,c],1+max d d',k',p'+1):=by
          intro g;cases g with
          |zero=>rfl
          |succ g=>rw[Am,z0z (by rw[a k' om];simp)]
         rw[h,h]
     ·rw[z0z b,z0z b]
noncomputable def Eh (A:Nat->Nat->Except Er Fx) (ops:By) (A7:List Tok) (k p:Nat):Except Er Fx:=V6 (A k p) fun(e,d,k,p)=>Ce A ops A7 (A7.length-k) (e,d,k,p)
def Bd (k0 a:Nat) (R:Except Er Fx):Prop:=∀ e d k p,R= .ok (e,d,k,p)->k0<k/\p<=a+(k-k0)/\d<=k-k0
def gz (h:A7.length<=k):opB ops (E8 A7 k).1=false:=by
 have:E8 A7 k=([],0):=by unfold E8;rw[List.getD_eq_getElem?_getD,List.getElem?_eq_none h];rfl
 rw[this];rfl
def Yw {L:Nat->Prop}{b:Nat}{Z:St}{J:Value}{A7:List Tok}{k p:Nat}{ops:By}{A:Nat->Nat->Except Er Fx}{g:Nat}(h:Sc Z b J A7 k [.int .i64 (p:Nat)]) (I6:Ends A7) (e6:A7.length<100000000) (hp:p<=k) (S:L b) (hL:∀ q,L q->q<Z.n)
  (hA:∀ (M:Nat->Prop) (Z':St) (k' p':Nat),M b->(∀ q,M q->q<Z'.n)->k<=k'->p'<=k'->Sc Z' b J A7 k' [.int .i64 (p':Nat)]->Ev (go Tryz.prog HS (.fn g) [.pointer (some ⟨b,0,none⟩)] Z') (FmP M Z' b J A7 (A k' p')) ⟨⟩)
  (hB:∀ k' p',k<=k'->Bd k' p' (A k' p')) :
  Ev (gO 132 [.pointer (some ⟨b,0,none⟩),str ops,.func (.func g) ⟨[.pointer (some ⟨b,0,none⟩)]⟩ ⟨[]⟩] Z) (FmP L Z b J A7 (Eh A ops A7 k p)) ⟨⟩:=by
 have d9:=h.lt;refine G1 Tryz.func132 rfl rfl ?_;refine gS ?_;have h1:=h.ext (Ext.new (t:=some 154) Z [str [],.int .i64 0,.int .i64 0,str [],.slice none 0 0,.int .i64 0]);refine(hA (fun q=>L q\/q=Z.n) _ k p (.inl S) (by rintro q (m|rfl);have:=hL q m;simp;omega;simp) nL hp h1).mono ?_;intro r;unfold Eh;cases hR:A k p with
 | error pe=>
   obtain⟨at',e⟩:=pe;rintro⟨Z',rfl,u⟩;refine gS ?_;rw[I8];exact⟨_,rfl,(G5.of (.new _ _)).trans u⟩
 | ok x=>
   obtain⟨e1,G,z,p1⟩:=x;obtain⟨b1,b2,b3⟩:=hB k p nL _ _ _ _ hR;rintro⟨i,d5,rfl,D,q1,E,V⟩;rw[F0]
   try dsimp only
   obtain⟨c1,c2,c3,c4,c5,rfl⟩:=V.IM;have b7:=D.n;simp at b7;have z1:i.B8 Z.n=some [str [],.int .i64 0,.int .i64 0,str [],.slice none 0 0,.int .i64 0]:=eT (D.B8 (by simp) om) cL;refine gS ?_
   have Q:G5 b Z ((i.new [str [],.int .i64 0,.int .i64 0,str [],.slice none 0 0,.int .i64 0] (some 154)).upd i.n [c1,c2,c3,c4,c5,.int .i64 (G:Nat)]) :=
    (((((G5.of (.new _ _)).trans D)).Sk _).De om _)
   have h2:=h.CA Q (k':=z) (rest':=[.int .i64 (p1:Nat)]) (cL1 q1) E;have c7:=R9 E;refine(Y9 h2 c7).mono ?_;rintro r ⟨Z3,rfl,o⟩;have O:=h2.ext o;have b8:=o.n;simp at b8;have z3:Z3.B8 Z.n=some [str [],.int .i64 0,.int .i64 0,str [],.slice none 0 0,.int .i64 0]:=by rw[B9 (o.same _ (by simp;omega))];exact cL1 z1
   have a4:Z3.B8 i.n=some [c1,c2,c3,c4,c5,.int .i64 (G:Nat)]:=by rw[B9 (o.same _ (by simp))];exact cL
   have a6:Bp (fun q=>L q\/q=Z.n\/q=i.n) Z3 [c1,c2,c3,c4,c5] e1:=by
    refine V.more (L':=fun q=>L q\/q=Z.n\/q=i.n) ⟨om,fun c U=>?_⟩ ?_
    ·rw[o.same c (by simp;omega),M4,z0z om,N8,z0z om]
    ·rintro q (m|rfl|rfl)
     ·exact .inl (.inl m)
     ·exact .inl (.inr rfl)
     ·exact .inr nL
   refine gS ?_
   refine BE (fun j fr Z'=>∃ e d k' p' row,j=A7.length-k'/\fr.get 0=some (.pointer (some ⟨b,0,none⟩))/\fr.get 1=some (str ops)/\fr.get 2=some (.func (.func g) ⟨[.pointer (some ⟨b,0,none⟩)]⟩ ⟨[]⟩)/\fr.get 6=some (.pointer (some ⟨Z.n,0,none⟩))/\fr.get 7=some (.pointer (some ⟨i.n,0,none⟩)) /\
     fr.get 8=some (str (E8 A7 k').1)/\G5 b Z Z'/\Z'.B8 b=some [J,.int .i64 (k':Nat),.int .i64 (p':Nat)]/\k'<A7.length/\i.n<Z'.n/\Z'.B8 i.n=some (row++[.int .i64 (d:Nat)])/\Z'.B8 Z.n=some [str [],.int .i64 0,.int .i64 0,str [],.slice none 0 0,.int .i64 0] /\
     Bp (fun q=>L q\/q=Z.n\/q=i.n) Z' row e/\Ce A ops A7 j (e,d,k',p')=Ce A ops A7 (A7.length-z) (e1,G,z,p1)/\k<k'/\p'<=p+(k'-k)/\d<=k'-k)
    (fun r=>match Ce A ops A7 (A7.length-z) (e1,G,z,p1)with
      | .ok (e,d,k',p')=>∃ fr Z' row,r=⟨.exit 0,fr,Z'⟩/\fr.get 6=some (.pointer (some ⟨Z.n,0,none⟩))/\fr.get 7=some (.pointer (some ⟨i.n,0,none⟩))/\G5 b Z Z'/\Z'.B8 b=some [J,.int .i64 (k':Nat),.int .i64 (p':Nat)]/\k'<A7.length/\i.n<Z'.n /\
         Z'.B8 i.n=some (row++[.int .i64 (d:Nat)])/\Z'.B8 Z.n=some [str [],.int .i64 0,.int .i64 0,str [],.slice none 0 0,.int .i64 0]/\Bp (fun q=>L q\/q=Z.n\/q=i.n) Z' row e
      | .error (at',e)=>∃ fr Z',r=⟨.pan (fault at' e),fr,Z'⟩/\G5 b Z Z') (A7.length-z) ?_ ?_ ?_
   ·exact⟨e1,G,z,p1,[c1,c2,c3,c4,c5],rfl,fR,fR,fR,fR,fR,fR,Q.trans (.of o),O.row,E,om,a4,z3,a6,rfl,b1,b2,b3⟩
   ·rintro j fr Z' ⟨e,d,k',p',row,rfl,B,g1,g2,g6,C,g8,u,m,I,U,ho,hz,H,hT,i1,i2,i3⟩;rw[<- hT];clear hT;obtain⟨f,a8⟩:∃ f,A7.length-k'=f+1:=⟨A7.length-k'-1,om⟩
    rw[a8,Am];have hS:=h.CA u m I;have a2:=R9 I;have d4:∀ K:By,(E8 A7 k').1=K->(decide ((K.length:Int)=1)=false/\opB ops K=false)\/∃ c,K=[c]:=by
     intro K _
     match K with
     | []=>exact .inl ⟨rfl,rfl⟩
     | [c]=>exact .inr ⟨c,rfl⟩
     |c::d::r=>exact .inl ⟨by rw[GF];simp;omega,rfl⟩
    rcases d4 _ rfl with⟨y1,y2⟩|⟨c,y⟩
    ·rw[z0z (by rw[y2];simp)];refine gS1 (aI B (aI g1 (aI g8 (aI y1 @BS)))) ?_;exact⟨_,_,row,rfl,fR1 g6,fR1 C,u,m,I,U,ho,hz,H⟩
    ·have c6:opB ops (E8 A7 k').1= !decide (CD c ops<0):=by rw[y];rfl
     rw[c6];rw[y]at g8;have y1:decide (((1:Nat):Int)=1)=true:=rfl;refine gS1 (aI B (aI g1 (aI g8 y1))) ?_;refine WV.mono ?_;rintro r rfl;cases hx:(!decide (CD c ops<0))with
     | false=>
       rw[z0z (by simp)];refine gS1 (aI hx @BS) ?_;exact⟨_,_,row,rfl,fR1 g6,fR1 C,u,m,I,U,ho,hz,H⟩
     | true=>
       rw[z1z rfl];refine gS1 (aI hx B) ?_;refine(BV hS a2).mono ?_;rintro r ⟨Z4,rfl,l,q4⟩;have a9:=I6 k' _ a2 (by rw[y];simp);have h4:=hS.CA l q4 a9;have e0:=l.n;have a1:=eT (l.B8 U om) ho;have c9:=eT (l.B8 om om) hz;have W:=H.CA l (.inl S);obtain⟨r1,r2,r3,r4,r5,rfl⟩:=W.IM;have N:=C1 a1;simp only[JF,KP]at N;refine gS1 (aI B (aI g2 (aI C (aI g8 N)))) ?_;refine(hA (fun q=>L q\/q=Z.n\/q=i.n) Z4 (k'+1) p' (.inl S) (by rintro q (m|rfl|rfl);have:=hL q m;omega;omega;omega) om om h4).mono ?_;intro r;cases a5:A (k'+1) p' with
       | error pe=>
         obtain⟨at',e2⟩:=pe;rintro⟨Z5,rfl,a⟩;refine gS ?_;refine T3.intro kR ?_;refine dW1 (aI @P0 (aI @T5 (aI @T6 (aI @N5 (aI @o6 (dM a)))))) ?_;refine gS ?_;rw[I8];exact⟨_,_,rfl,(u.trans l).trans a⟩
       | ok x=>
         obtain⟨e2,d2,k2,p2⟩:=x;obtain⟨b4,b5,b6⟩:=hB (k'+1) p' om _ _ _ _ a5;rintro⟨Z5,d6,rfl,a,q5,b0,X⟩;rw[F0]
         try dsimp only
         obtain⟨s1,s2,s3,s4,s5,rfl⟩:=X.IM;have h5:=h4.CA a q5 b0;have e4:=a.n;have a3:=W.CA a (.inl S);refine gS ?_;refine(eN h5 (p:=p2) (op:=[c]) (d:=d) (d':=d2) om om om a3 X (.inl S) (by rintro q (m|rfl|rfl);have:=hL q m;omega;omega;omega)).mono ?_;rintro r ⟨Z6,d7,rfl,v,q6,F,Y⟩;obtain⟨v1,v2,v3,v4,v5,rfl⟩:=Y.IM;have e5:=v.n;have c0:=eT (v.B8 om om) (eT (a.B8 om om) a1);have d0:=eT (v.B8 om om) (eT (a.B8 om om) c9);refine gS1 (aI c0 C) ?_;refine dW1 (aI @P0 (aI @T5 (aI @T6 (aI @N5 (aI @o6 (aI (dM a) (dM v))))))) ?_;refine gS1 B ?_;have R:G5 b Z (Z6.upd i.n [v1,v2,v3,v4,v5,.int .i64 (1+max d d2:Nat)]):=(((u.trans l).trans a).trans v).De om _;have h7:=h.CA R (k':=k2) (rest':=[.int .i64 (p2+1:Nat)]) (cL1 q6) F;have c8:=R9 F;refine(Y9 h7 c8).mono ?_;rintro r ⟨Z8,rfl,s⟩;have b9:=s.n;simp at b9;have a7:=(Y.CA (b:=i.n) (Z':=Z6.upd i.n [v1,v2,v3,v4,v5,.int .i64 (1+max d d2:Nat)]) (G5.upd .refl _) (.inr (.inr rfl))).ext s;rw[y];refine gS1 (aI B @R8) ?_;refine⟨A7.length-k2,om,.mk [c] 0 0 [] [e,e2],1+max d d2,k2,p2+1,[v1,v2,v3,v4,v5],rfl,fR1 B,fR1 g1,fR1 g2,fR1 g6,fR1 C,fR,R.trans (.of s),(h7.ext s).row,F,om,?_,?_,a7,?_,om,om,om⟩
         ·rw[B9 (s.same _ (by simp;omega))];exact cL
         ·rw[B9 (s.same _ (by simp;omega))];exact cL1 d0
         ·rw[<- y];exact Oq (k0:=k) (fun k3 p3 O e3 d3 k4 p4 h4=>(hB k3 p3 O _ _ _ _ h4).1) _ _ _ _ _ _ om nL om om (fun _ O=>gz O)
   ·intro r;cases d8:Ce A ops A7 (A7.length-z) (e1,G,z,p1)with
    | error pe=>
      obtain⟨at',e⟩:=pe;rintro⟨fr,Z',rfl,u⟩;refine gS ?_;exact⟨_,rfl,u⟩
    | ok x=>
      obtain⟨e,d,k',p'⟩:=x;rintro⟨fr,Z',row,rfl,g6,C,u,m,I,U,ho,hz,H⟩;obtain⟨r1,r2,r3,r4,r5,rfl⟩:=H.IM;have a0:=C1 ho;simp only[JF,KP]at a0;refine gS1 (aI g6 (aI C (aI a0 (aI hz @Tryz.results132)))) ?_;exact⟨_,[r1,r2,r3,r4,r5],rfl,u.De nL _,cL1 m,I,(H.CA (b:=Z.n) (G5.upd .refl _) (.inr (.inl rfl))).Uw fun q m=> .inl m⟩
end
section
variable {Z:St}{n d:Nat}
def MK {n:Int}(a:0<=n) (b:n<18446744073709551616):IntKind.u64.wrap n=n:=by
 have c:n % 18446744073709551616=n:=Int.emod_eq_of_lt a b;simp[IntKind.wrap,IntKind.bits,IntKind.signed,c]
def eE {a b:Nat}:
  Ev (gO 136 [.int .u64 (a:Nat),.int .u64 (b:Nat)] Z) (fun r=>r=⟨false,.int .u64 (Nat.gcd a b:Nat),Z⟩) ⟨⟩:=by
 refine G1 Tryz.func136 rfl rfl ?_;refine gS ?_
 refine BE (fun m fr Z'=>∃ a':Nat,fr.get 0=some (.int .u64 (a':Nat))/\fr.get 1=some (.int .u64 (m:Nat))/\Z'=Z/\Nat.gcd a' m=Nat.gcd a b)
  (fun r=>∃ fr,r=⟨.exit 0,fr,Z⟩/\fr.get 0=some (.int .u64 (Nat.gcd a b:Nat))) b ?_ ?_ ?_
 ·exact⟨a,fR,fR,rfl,rfl⟩
 ·rintro m fr Z' ⟨a',c,h,rfl,i⟩;have g:decide ((0:Int)<(m:Int))=decide (0<m):=by rw[z7z];simp
  cases e:decide (0<m)with
  | false=>
    have:m=0:=by have:=z9z e;omega
    subst this;refine gS1 (aI c (aI h (aI g (aI e @BS)))) ?_;exact⟨_,rfl,by rw[<- i,nI];exact fR1 c⟩
  | true=>
    have f:=z6z e;have j:Int.tmod (a':Int) (m:Int)=((a' % m:Nat):Int):=by
     rw[<- Int.ofNat_tmod]
    refine gS1 (aI c (aI h (aI g (aI e (aI j @R8))))) ?_;exact⟨a' % m,KU _ f,m,fR,fR,by trivial,by rw[<- i,TM m,<- nJ,TM]⟩
 rintro r ⟨fr,rfl,c⟩;refine gS1 (aI c @Tryz.results136) ?_;try exact⟨⟩
def eJ (h:n<9223372036854775808):
  Ev (gO 137 [.int .i64 (n:Nat)] Z) (fun r=>r=⟨false,.int .u64 (n:Nat),Z⟩) ⟨⟩:=by
 have a:decide ((n:Int)<0)=false:=by rw[GF];omega
 have b:IntKind.u64.wrap (n:Int)=(n:Nat):=MK om om;refine G1 Tryz.func137 rfl rfl ?_;refine gS1 (aI a (aI b @Tryz.results137)) ?_;try exact⟨⟩
def AG5 (i:n<9223372036854775808) (h:d<9223372036854775808):
  Ev (gO 244 [.bool false,.agg ⟨[.int .u64 0,.int .u64 (n:Nat)]⟩,.agg ⟨[.int .u64 0,.int .u64 (d:Nat)]⟩] Z) (fun r=>∃ Z',r=⟨false,.tuple ⟨[.agg ⟨[.int .i64 (n:Nat),.int .i64 (d:Nat)]⟩,.bool true]⟩,Z'⟩/\Ext Z Z') ⟨⟩:=by
 have b:decide ((9223372036854775807:Int)<(d:Int))=false:=by rw[GF];omega
 have c:decide ((9223372036854775808:Int)<(n:Int))=false:=by rw[GF];omega
 have e:decide ((n:Int)=(9223372036854775808:Int))=false:=by rw[GF];omega
 have f:IntKind.i64.wrap (n:Int)=(n:Nat):=wrap64_in om om;have g:IntKind.i64.wrap (d:Int)=(d:Nat):=wrap64_in om om;have a:decide ((0:Int)<0)=false:=rfl;refine G1 Tryz.func244 rfl rfl ?_;refine gS1 (aI a (aI b (aI c (aI e (aI f (aI g (a3N @H7 @I0 @Tryz.results244))))))) ?_;exact⟨_,rfl,eX⟩
def iX (c:n<9223372036854775808) (j:d<9223372036854775808) (b:0<d):
  Ev (gO 236 [.agg ⟨[.bool false,.int .u64 (n:Nat),.int .u64 (d:Nat)]⟩] Z) (fun r=>∃ Z',r=⟨false,.tuple ⟨[.agg ⟨[.int .i64 (n / Nat.gcd n d:Nat),.int .i64 (d / Nat.gcd n d:Nat)]⟩,.bool true]⟩,Z'⟩/\Ext Z Z') ⟨⟩:=by
 have l:0<Nat.gcd n d:=eK n b;have h:n / Nat.gcd n d<=n:=Wp _ _;have i:d / Nat.gcd n d<=d:=Wp _ _;refine G1 Tryz.func236 rfl rfl ?_;refine gS ?_;refine eE.mono ?_;rintro r rfl;generalize Nat.gcd n d=g at *;have e:IntKind.u64.wrap (Int.tdiv (n:Int) (g:Int))=((n / g:Nat):Int):=by
  rw[<- Int.ofNat_tdiv];exact MK (eL _) om
 have f:IntKind.u64.wrap (Int.tdiv (d:Int) (g:Int))=((d / g:Nat):Int):=by
  rw[<- Int.ofNat_tdiv];exact MK (eL _) om
 refine gS1 (aI e f) ?_;refine(AG5 (n:=n / g) (d:=d / g) om om).mono ?_;rintro r ⟨Z',rfl,a⟩;have c:=a.n;simp at c;have z:Z'.B8 (Z.n+1)=some [.int .i64 0,.int .i64 0]:=by rw[B9 (a.same _ (by simp))];exact cL
 refine gS1 z ?_;refine dW1 (aI @P0 (aI @T5 (aI @T6 (aI @N5 (aI @o6 (Bz a)))))) ?_;refine gS1 @Tryz.results236 ?_;exact⟨_,rfl,(((Ext.new _ _).trans (.new _ _)).trans a).upd om _⟩
def AG6 {i j:Tmp}:CI Tryz.prog .neq 4 (.tmp i) (.tmp j) (.bool false) (.bool false)=some (.bool false):=kR
def uY (a:n<9223372036854775808) (f:d<9223372036854775808) (e:0<d):
  Ev (gO 224 [.int .i64 (n:Nat),.int .i64 (d:Nat)] Z) (fun r=>∃ Z',r=⟨false,.tuple ⟨[.agg ⟨[.int .i64 (n / Nat.gcd n d:Nat),.int .i64 (d / Nat.gcd n d:Nat)]⟩,.bool true]⟩,Z'⟩/\Ext Z Z') ⟨⟩:=by
 have g:decide ((d:Int)=0)=false:=by rw[GF];omega
 have h:decide ((n:Int)<0)=false:=by rw[GF];omega
 have i:decide ((d:Int)<0)=false:=by rw[GF];omega
 refine G1 Tryz.func224 rfl rfl ?_;refine gS1 (aI g (aI h (aI i @AG6))) ?_;refine(eJ a).mono ?_;rintro r rfl;refine gS ?_;refine(eJ f).mono ?_;rintro r rfl;refine gS ?_;have c:=Ext.new (t:=some 32) Z [.int .i64 0,.int .i64 0];refine(iX a f e).mono ?_;rintro r ⟨Z',rfl,b⟩;have a:=b.n;simp at a;have z:Z'.B8 Z.n=some [.int .i64 0,.int .i64 0]:=by rw[B9 (b.same _ (by simp))];exact cL
 refine gS1 (aI z @Tryz.results224) ?_;exact⟨_,rfl,(c.trans b).upd om _⟩
end
def vq (c:UInt8):∀ s:By,CD c s<s.length/\ -1<=CD c s:=by
 intro s;induction s with
 |nil=>exact⟨by show(-1:Int)<0;omega,Int.le_refl _⟩
 | cons x s ih=>
   have b:CD c (x::s)=bi (x==c) 0 (bi (ilt (CD c s) 0) (-1) (CD c s+1)):=by rw[<- LH];rfl
   rw[b];cases x==c with
   |true=>exact⟨by show(0:Int)<_;simp,by show(-1:Int)<=0;omega⟩
   | false=>
     rw[j7];cases a:ilt (CD c s) 0 with
     |true=>exact⟨by show(-1:Int)<_;simp;omega,Int.le_refl _⟩
     |false=>rw[j7];simp;omega
noncomputable def BJ (t:By):By×By:=if decide (CD 46 t<0)=true then(t,[])else(t.take (CD 46 t).toNat,t.drop ((CD 46 t).toNat+1))
def AJ0 {Z:St}{t:By}(ht:t.length<100000000) :
  Ev (gO 222 [str t,str [46]] Z) (fun r=>∃ ok,r=⟨false,.tuple ⟨[str (BJ t).1,str (BJ t).2,.bool ok]⟩,Z⟩) ⟨⟩:=by
 have hi:=vq 46 t;refine G1 Tryz.func222 rfl rfl ?_;refine gS ?_;have key:Ev (gO 233 [str t,str [46]] Z) (fun r=>∃ ok,r=⟨false,.tuple ⟨[str (BJ t).1,str (BJ t).2,.bool ok]⟩,Z⟩) ⟨⟩:=by
  refine G1 Tryz.func233 rfl rfl ?_;refine gS ?_;refine KZ.mono ?_;rintro r rfl;unfold BJ;cases a:decide (CD 46 t<0)with
  | true=>
    rw[z1z rfl];refine gS1 (aI a @Tryz.results233) ?_;exact⟨_,rfl⟩
  | false=>
    rw[z0z (by simp)];have d:=z9z a;obtain⟨i,b⟩:∃ i:Nat,CD 46 t=(i:Nat):=⟨(CD 46 t).toNat,om⟩
    rw[b]at a hi ⊢;have c:(i:Int)+((1:Nat):Int)=((i+1:Nat):Int):=om;have e:sub t 0 i=some (t.take i):=by rw[AE om];rfl
    have f:sub t (i+1) (t.length-(i+1))=some (t.drop (i+1)):=by rw[AE om,Pg (by simp)]
    have g:i<=t.length:=om;have h:i+1<=t.length:=om;refine gS1 (aI a (aI c (aI e (aI f (aI @Up @Tryz.results233))))) ?_;exact⟨_,rfl⟩
 refine key.mono ?_;rintro r ⟨ok,rfl⟩;refine gS1 @Tryz.results222 ?_;exact⟨_,rfl⟩
def Wc (s:By):Bool:=decide (s.drop (s.length-1)=[48])
def jb {Z:St}{t:By}(ht:t.length<100000000) :
  Ev (gO 223 [str t,str [48]] Z) (fun r=>r=⟨false,.bool (Wc t),Z⟩) ⟨⟩:=by
 refine G1 Tryz.func223 rfl rfl ?_;refine gS ?_;have key:Ev (gO 234 [str t,str [48]] Z) (fun r=>r=⟨false,.bool (Wc t),Z⟩) ⟨⟩:=by
  refine G1 Tryz.func234 rfl rfl ?_;by_cases b:t=[]
  ·subst b;have a:decide ((([]:By)).length<1)=true:=rfl;have c:decide (0<1)=true:=rfl;refine gS1 (aI a (aI c (a3N @H7 @I0 @Tryz.results234))) ?_;rfl
  ·have g:0<t.length:=Pp.2 b;have a:decide (t.length<1)=false:=by rw[GF];omega
   have e:(t.length:Int)-((1:Nat):Int)=((t.length-1:Nat):Int):=om;have f:sub t (t.length-1) (t.length-(t.length-1))=some (t.drop (t.length-1)):=by rw[AE om,Pg (by simp)]
   have d:decide ([48]=t.drop (t.length-1))=decide (t.drop (t.length-1)=[48]):=by rw[z7z,z3z,z3z];exact eq_comm
   unfold Wc;refine gS1 (aI a (aI e (aI f (aI d (a3N @H7 @I0 @Tryz.results234))))) ?_;try exact⟨⟩
 refine key.mono ?_;rintro r rfl;refine gS1 @Tryz.results223 ?_;try exact⟨⟩
def As (n:Nat) (l:By):Nat:=l.foldl (fun n c=>10*n+(c.toNat+208) % 256) n
def T4:By:=[110,117,109]
noncomputable def SV (A7:List Tok) (k p:Nat):Except Er Fx :=
 if (JD (BJ (E8 A7 k).1).1&& !Wc (BJ (E8 A7 k).1).2)=true then
  if (decide (AZ (BJ (E8 A7 k).1).1<=1000000000)&&decide ((BJ (E8 A7 k).1).2.length<=6)&&(decide (AZ (BJ (E8 A7 k).1).1<1000000000)||decide ((BJ (E8 A7 k).1).2=[])))=true then
   .ok (.mk T4 (As (AZ (BJ (E8 A7 k).1).1) (BJ (E8 A7 k).1).2 / Nat.gcd (As (AZ (BJ (E8 A7 k).1).1) (BJ (E8 A7 k).1).2) (10 ^ (BJ (E8 A7 k).1).2.length):Nat)
    (10 ^ (BJ (E8 A7 k).1).2.length / Nat.gcd (As (AZ (BJ (E8 A7 k).1).1) (BJ (E8 A7 k).1).2) (10 ^ (BJ (E8 A7 k).1).2.length):Nat) [] [],1,k+1,p+1)
  else .error ((E8 A7 k).2,3)
 else .error ((E8 A7 k).2,12)
def ja {n:Nat}{l:By}{i:Nat}{c:UInt8}(h:l[i]? =some c):As n (l.take (i+1))=10*As n (l.take i)+(c.toNat+208) % 256:=by
 unfold As;rw[Gf,h,fG];rfl
def fH {n:Nat}:∀ (l:By),As n l+29<=(n+29)*10 ^ l.length:=by
 intro l;unfold As;induction l generalizing n with
 |nil=>simp
 | cons c l ih=>
   have:=ih (n:=10*n+(c.toNat+208) % 256);rw[TJ,AG,Gd];refine W5 this ?_;have b:(c.toNat+208) % 256<256:=KU _ om;have a:10*n+(c.toNat+208) % 256+29<=(n+29)*10:=om
   calc (10*n+(c.toNat+208) % 256+29)*10 ^ l.length<=((n+29)*10)*10 ^ l.length:=SZ _ a
    _=(n+29)*(10 ^ l.length*10):=by rw[Ek,Cd 10]
def IZ (A7:List Tok):Prop:=∀ t∈A7,t.1.length<10000000
def oh {t:By}:(BJ t).1.length<=t.length/\(BJ t).2.length<=t.length:=by
 unfold BJ;split
 ·exact⟨AP _,Af _⟩
 ·simp;omega
def bJ {L:Nat->Prop}{b:Nat}{Z:St}{tv:Value}{A7:List Tok}{k p:Nat}(h:Sc Z b tv A7 k [.int .i64 (p:Nat)]) (I6:Ends A7) (c0:IZ A7) (hp:p<1000000000) (hb:L b) (hL:∀ q,L q->q<Z.n) (b5:(E8 A7 k).1≠[]) :
  Ev (gO 203 [.pointer (some ⟨b,0,none⟩),str (E8 A7 k).1] Z) (FmP L Z b tv A7 (SV A7 k p)) ⟨⟩:=by
 have c5:=h.lt;have d:=R9 h.k;have hs:=c0 _ (y6 d);have c6:=oh (t:=(E8 A7 k).1);refine G1 Tryz.func203 rfl rfl ?_;refine gS ?_;refine(AJ0 om).mono ?_;rintro r ⟨ok,rfl⟩;unfold SV;generalize hw:(BJ (E8 A7 k).1).1=w at *;generalize c9:(BJ (E8 A7 k).1).2=rs at *;refine gS ?_;have o:Ext Z (Z.new [str [],.int .i64 0,.int .i64 0,str [],.slice none 0 0,.int .i64 0] (some 154)):= .new _ _;refine(OQ om).mono ?_;rintro r rfl;have h1:=h.ext o;cases O:JD w with
 | false=>
   refine gS ?_;refine(P1 h1 d).mono ?_;rintro r (⟨f,-⟩|⟨f,R,rfl,a⟩)
   case inl=>cases f
   refine gS ?_;refine T3.intro kR ?_;refine gS ?_;rw[z0z (by simp)];exact⟨_,rfl,.of (o.trans a)⟩
 | true =>
   refine gS ?_;refine(jb om).mono ?_;rintro r rfl;refine gS ?_;refine(P1 h1 d).mono ?_;rintro r (⟨f,rfl⟩|⟨f,R,rfl,a⟩)
   case inr=>
    refine gS ?_;refine T3.intro kR ?_;refine gS ?_;rw[f,z0z (by simp)];exact⟨_,rfl,.of (o.trans a)⟩
   rw[f,z1z (by simp)];refine gS ?_;refine(Qi (Qj O).1 (Qj O).2.1 om).mono ?_;rintro r ⟨J,n1,rfl,s,b1⟩;have S:=h1.ext s;have U:=o.trans s;have b2:=s.n;simp at b2;have z2:J.B8 Z.n=some [str [],.int .i64 0,.int .i64 0,str [],.slice none 0 0,.int .i64 0]:=by rw[B9 (s.same _ (by simp))];exact cL
   generalize c8:AZ w=n at *;have K:decide ((n:Int)<1000000000)=decide (n<1000000000):=by rw[z7z,z3z,z3z];omega
   have E:decide ((6:Int)<(rs.length:Int))=decide (6<rs.length):=by rw[z7z,z3z,z3z];omega
   have a5:decide (rs.length<=6)= !decide (6<rs.length):=by rw[z7z];simp
   rw[a5];cases hv:decide (n<=1000000000)with
   | false=>
     refine gS1 (aI E K) ?_;refine(P1 S d).mono ?_;rintro r (⟨g,-⟩|⟨g,R,rfl,a⟩)
     case inl=>cases g
     refine gS ?_;rw[z0z (by simp)];exact⟨_,rfl,.of (U.trans a)⟩
   | true =>
     have b8:n=n1:=(b1 (z6z hv)).symm;subst b8;cases G:decide (6<rs.length)with
     | true=>
       refine gS1 (aI E (aI G K)) ?_;refine(P1 S d).mono ?_;rintro r (⟨g,-⟩|⟨g,R,rfl,a⟩)
       case inl=>cases g
       refine gS ?_;rw[z0z (by simp)];exact⟨_,rfl,.of (U.trans a)⟩
     | false=>
       cases C:decide (n<1000000000)
       case' false=>
        cases Q:decide (rs=[])
        case false=>
         refine gS1 (aI E (aI G (aI K (aI C Q)))) ?_;refine(P1 S d).mono ?_;rintro r (⟨g,-⟩|⟨g,R,rfl,a⟩)
         case inl=>cases g
         refine gS ?_;rw[z0z (by simp)];exact⟨_,rfl,.of (U.trans a)⟩
        refine gS1 (aI E (aI G (aI K (aI C Q)))) ?_
       case' true=>
        refine gS1 (aI E (aI G (aI K C))) ?_
       all_goals
        refine(P1 S d).mono ?_;rintro r (⟨g,rfl⟩|⟨g,-⟩)
        case inr=>cases g
        rw[z1z (by rfl)];have c4:n<=1000000000:=z6z hv;have V:rs.length<=6:=by have:=z9z G;omega
        have a:Ext Z (J.new (O9 rs)):=U.Aw _;have W:(O9 rs).length=rs.length:=by unfold O9;simp
        refine gS1 (aI E (aI G W)) ?_
        refine I9 rs.length (fun i fr Z'=>fr.get 0=some (.pointer (some ⟨b,0,none⟩))/\fr.get 4=some (.pointer (some ⟨Z.n,0,none⟩))/\fr.get 56=some (.slice (some ⟨J.n,0,some 1⟩) rs.length rs.length)/\fr.get 57=some (.int .i64 (rs.length:Nat))/\fr.get 58=some (.int .i64 (i:Nat)) /\
          fr.get 8=some (.int .i64 (As n (rs.take i):Nat))/\fr.get 10=some (.int .i64 (10 ^ i:Nat))/\Z'=J.new (O9 rs))
         (fun r=>∃ fr,r=⟨.exit 0,fr,J.new (O9 rs)⟩/\fr.get 0=some (.pointer (some ⟨b,0,none⟩))/\fr.get 4=some (.pointer (some ⟨Z.n,0,none⟩))/\fr.get 8=some (.int .i64 (As n rs:Nat))/\fr.get 10=some (.int .i64 (10 ^ rs.length:Nat))) ?_ ?_ ?_ ?_
        ·exact⟨fR,fR,fR,fR,fR,fR,fR,rfl⟩
        ·rintro i fr Z' hi ⟨u,g4,y,m,z,F,j,rfl⟩;obtain⟨c,hc⟩:=I3 hi;have a8:sub (O9 rs) i 1=some [.int .u8 (c.toNat:Nat)]:=by unfold O9;exact FJ (by rw[List.getElem?_map,hc];rfl)
         have ed:decide ((i:Int)<(rs.length:Int))=true:=by rw[z3z];omega
         have v:decide (i<rs.length)=true:=AK hi;have ew:IntKind.u8.wrap ((c.toNat:Int)-48)=(((c.toNat+208) % 256:Nat):Int):=by rw[wrap_u8];omega
         have a7:Hn .u8 ((c.toNat:Int)-48)=(((c.toNat+208) % 256:Nat):Int):=by rw[Jk];exact ew
         have hm:(c.toNat+208) % 256<256:=KU _ om;have a6:IntKind.i64.wrap (((c.toNat+208) % 256:Nat):Int)=(((c.toNat+208) % 256:Nat):Int):=wrap64_in om om;have M:=fH (n:=n) (rs.take i);have b0:(rs.take i).length=i:=by rw[KW];omega
         rw[b0]at M;have D:10 ^ i<=10 ^ 5:=bK om om;have b7:(n+29)*10 ^ i<=(1000000000+29)*10 ^ 5:=oo om D;have b9:=ja (n:=n) hc;generalize As n (rs.take i)=q at *;generalize X:10 ^ i=t10 at *;have a0:(10:Int)*(q:Int)=((10*q:Nat):Int):=om;have a1:((10*q:Nat):Int)+(((c.toNat+208) % 256:Nat):Int)=((10*q+(c.toNat+208) % 256:Nat):Int):=om;have a2:(10:Int)*(t10:Int)=((10*t10:Nat):Int):=om;have a3:(i:Int)+1=((i+1:Nat):Int):=om;have a4:10 ^ (i+1)=10*t10:=by rw[Gd,X,Cd]
         refine gS1 (aI u (aI g4 (aI y (aI m (aI z (aI F (aI j (aI ed (aI v (aI a8 (aI ew (aI a7 (aI a6 (aI a0 (aI a1 (aI a2 (aI a3 @Fh))))))))))))))))) ?_;exact⟨fR1 u,fR1 g4,fR1 y,fR1 m,fR,by rw[b9],by rw[a4],by trivial⟩
        ·rintro fr Z' ⟨u,g4,y,m,z,F,j,rfl⟩;have ed:decide ((rs.length:Int)<(rs.length:Int))=false:=sI;have v:decide (rs.length<rs.length)=false:=sI;rw[Dq]at F;refine gS1 (aI m (aI z (aI ed v))) ?_;exact⟨_,rfl,by rw[Tr.L8 _ _ om];exact u,by rw[Tr.L8 _ _ om];exact g4,by rw[Tr.L8 _ _ om];exact F,by rw[Tr.L8 _ _ om];exact j⟩
        rintro r ⟨fr,rfl,u,g4,F,j⟩;have M:=fH (n:=n) rs;have D:10 ^ rs.length<=10 ^ 6:=bK om V;have b6:0<10 ^ rs.length:=bL om;have b7:(n+29)*10 ^ rs.length<=(1000000000+29)*10 ^ 6:=oo om D;refine gS1 (aI u (aI g4 (aI F j))) ?_;refine(uY om om b6).mono ?_;rintro r ⟨Y,rfl,A⟩;have b3:=A.n;simp at b3;have Xp:=a.trans A;have I:Ext Z ((Y.new [.int .i64 0,.int .i64 0] (some 32)).upd Y.n [.int .i64 (As n rs / Nat.gcd (As n rs) (10 ^ rs.length):Nat),.int .i64 (10 ^ rs.length / Nat.gcd (As n rs) (10 ^ rs.length):Nat)]):=(Xp.Aw _).upd om _;refine gS1 u ?_;have h5:=h.ext I;refine(BV h5 d).mono ?_;rintro r ⟨Z6,rfl,l,q6⟩;have h6:=h5.CA l q6 (I6 k _ d b5);have b4:=l.n;simp at b4;have r6:Z6.row Y.n=some [.int .i64 (As n rs / Nat.gcd (As n rs) (10 ^ rs.length):Nat),.int .i64 (10 ^ rs.length / Nat.gcd (As n rs) (10 ^ rs.length):Nat)]:=by rw[l.row (by simp) om];exact C1 G8
        refine gS1 (aI u (aI g4 r6)) ?_;have c1:Z6.B8 Z.n=some [str [],.int .i64 0,.int .i64 0,str [],.slice none 0 0,.int .i64 0]:=by
         rw[l.B8 (by simp;omega) om,H6 om,J1 om,B9 (A.same _ (by simp;omega)),J1 om];exact z2
        refine(eM h6 hp (L:=fun q=>L q\/q=Z.n) (row:=[str T4,.int .i64 (As n rs / Nat.gcd (As n rs) (10 ^ rs.length):Nat),.int .i64 (10 ^ rs.length / Nat.gcd (As n rs) (10 ^ rs.length):Nat),str [],.slice none 0 0])
         (e:= .mk T4 (As n rs / Nat.gcd (As n rs) (10 ^ rs.length):Nat) (10 ^ rs.length / Nat.gcd (As n rs) (10 ^ rs.length):Nat) [] []) (fun H hH=>⟨_,[],rfl,.inl ⟨rfl,rfl⟩,by simp,rfl⟩) (.inl hb)).mono ?_
        rintro r ⟨Z7,c3,rfl,B,q7,a9,N⟩;obtain⟨v1,v2,v3,v4,v5,rfl⟩:=N.IM;have c7:=B.n;have c2:=eT (B.B8 om om) c1;refine gS1 (aI g4 (aI c2 @Tryz.results203)) ?_;exact⟨_,[v1,v2,v3,v4,v5],rfl,(((G5.of I).trans l).trans B).De nL _,by rw[H6 om];exact q7,a9,(N.CA (b:=Z.n) (G5.upd .refl _) (.inr rfl)).Uw fun q hq=> .inl hq⟩
section
variable {A7:List Tok}{A:Nat->Nat->Except Er Fx}{ops:By}
def W9:By:=[109,105,110]
def Y4:By:=[109,97,120]
def nmB:By:=[110,97,109,101]
def Dg (A7:List Tok) (w:By) (k:Nat):Except Er Nat:=if (E8 A7 k).1=w then .ok (k+1)else .error ((E8 A7 k).2,12)
noncomputable def Hy (F:Nat->Nat->Except Er Fx) (A7:List Tok) (k p:Nat):Except Er Fx :=
 if GB J3 (E8 A7 k).1=true then SV A7 k p else
 if (E8 A7 k).1=[40]then V6 (F (k+1) p) fun(e,d,k,p)=>V6 (Dg A7 [41] k) fun k=> .ok (e,d,k,p)else
 if (decide ((E8 A7 k).1=W9)||decide ((E8 A7 k).1=Y4))=true then
  V6 (Dg A7 [40] (k+1)) fun b=>V6 (F b p) fun(e,d,c,i)=>V6 (Dg A7 [44] c) fun f=>V6 (F f i) fun(a,d',g,j)=>V6 (Dg A7 [41] g) fun h=>
   .ok (.mk (E8 A7 k).1 0 0 [] [e,a],1+max d d',h,j+1)else
 if W0 (E8 A7 k).1=true then .ok (.mk nmB 0 0 (E8 A7 k).1 [],1,k+1,p+1)else .error ((E8 A7 k).2,12)
noncomputable def PA (A7:List Tok):Nat->Nat->Nat->Except Er Fx
 |0,_,_=> .error (0,0)
 |f+1,k,p=>Eh (fun k p=>Eh (Hy (PA A7 f) A7) [42,47] A7 k p) [43,45] A7 k p
def D9 {c d:Type}{x:Except Er c}{f:c->Except Er d}{b:d}(h:V6 x f= .ok b):∃ a,x= .ok a/\f a= .ok b:=by
 cases x with
 |error e=>cases h
 |ok a=>exact⟨a,rfl,h⟩
def Gt {w:By}{k k':Nat}(h:Dg A7 w k= .ok k'):k'=k+1:=by
 unfold Dg at h;split at h<;>cases h;rfl
def KI {F:Nat->Nat->Except Er Fx}(c:∀ k p,Bd k p (F k p)) (k p:Nat):Bd k p (Hy F A7 k p):=by
 intro e d k' j h;unfold Hy at h;split at h
 ·unfold SV at h;split at h
  ·split at h
   ·cases h;omega
   ·cases h
  ·cases h
 ·split at h
  ·obtain⟨⟨i,g,f,l⟩,a,b⟩:=D9 h;obtain⟨k2,h3,h4⟩:=D9 b;have:=c _ _ _ _ _ _ a;have:=Gt h3;cases h4;omega
  ·split at h
   ·obtain⟨f,a,h⟩:=D9 h;obtain⟨⟨e2,d2,k2,p2⟩,b,h⟩:=D9 h;obtain⟨k3,h3,h⟩:=D9 h;obtain⟨⟨e4,d4,k4,p4⟩,h4,h⟩:=D9 h;obtain⟨k5,h5,h⟩:=D9 h;have:=Gt a;have:=c _ _ _ _ _ _ b;have:=Gt h3;have:=c _ _ _ _ _ _ h4;have:=Gt h5;cases h;omega
   ·split at h
    ·cases h;omega
    ·cases h
def mO (j:∀ k p,Bd k p (A k p)):∀ (f:Nat) (e0:Ex) (d0 k0 p0 k p:Nat),k<k0->p0<=p+(k0-k)->d0<=k0-k->Bd k p (Ce A ops A7 f (e0,d0,k0,p0)):=by
 intro f;induction f with
 |zero=>intro e0 d0 k0 p0 k p a b c e d k' l h;cases h;omega
 | succ f ih=>
   intro e0 d0 k0 p0 k p a b c e d k' l h;rw[Am]at h;split at h
   ·obtain⟨⟨n,m,o,q⟩,g,i⟩:=D9 h;have:=j _ _ _ _ _ _ g;exact ih _ _ _ _ k p om om om _ _ _ _ i
   ·cases h;omega
def Hz (a:∀ k p,Bd k p (A k p)) (k p:Nat):Bd k p (Eh A ops A7 k p):=by
 intro e d k' j h;obtain⟨⟨g,f,i,l⟩,b,c⟩:=D9 h;have:=a _ _ _ _ _ _ b;exact mO a _ _ _ _ _ k p om om om _ _ _ _ c
def Jz:∀ f k p,Bd k p (PA A7 f k p):=by
 intro f;induction f with
 |zero=>intro k p e d k' b h;cases h
 |succ f a=>intro k p;exact Hz (fun k p=>Hz (fun k p=>KI a k p) k p) k p
def iD {b:Nat}{Z:St}{d:Value}{A7:List Tok}{k:Nat}{H4:List Value}{w:By}(h:Sc Z b d A7 k H4) (f:Ends A7) (g:w≠[]) :
  Ev (gO 204 [.pointer (some ⟨b,0,none⟩),str w] Z) (fun r=>match Dg A7 w k with
   | .ok k'=>∃ Z',r=⟨false,.tuple ⟨[]⟩,Z'⟩/\G5 b Z Z'/\Z'.B8 b=some (d:: .int .i64 (k':Nat)::H4)/\k'<A7.length
   | .error (p,e)=>∃ Z',r=⟨true,fault p e,Z'⟩/\G5 b Z Z') ⟨⟩:=by
 refine(ue h f g).mono fun r a=>?_;unfold Dg;by_cases c:(E8 A7 k).1=w
 ·rw[z1z c]at a ⊢;exact a
 ·rw[z0z c]at a ⊢;exact a
def zSx:List Value:=[str [],.int .i64 0,.int .i64 0,str [],.slice none 0 0,.int .i64 0]
def kh {L:Nat->Prop}{b:Nat}{Z:St}{tv:Value}{A7:List Tok}{k p:Nat}{F:Nat->Nat->Except Er Fx}(h:Sc Z b tv A7 k [.int .i64 (p:Nat)]) (R:Ends A7) (b3:IZ A7) (f2:A7.length<100000000) (hp:p<=k) (G:L b) (hL:∀ q,L q->q<Z.n)
  (hF:∀ (M:Nat->Prop) (Z':St) (k' p':Nat),M b->(∀ q,M q->q<Z'.n)->k<k'->p'<=k'->Sc Z' b tv A7 k' [.int .i64 (p':Nat)]->Ev (gO 84 [.pointer (some ⟨b,0,none⟩)] Z') (FmP M Z' b tv A7 (F k' p')) ⟨⟩)
  (hB:∀ k' p',Bd k' p' (F k' p')) :
  Ev (gO 173 [.pointer (some ⟨b,0,none⟩)] Z) (FmP L Z b tv A7 (Hy F A7 k p)) ⟨⟩:=by
 have e2:=h.lt;have e3:=h.k;have i:=R9 h.k;have hs:=b3 _ (y6 i);refine G1 Tryz.func173 rfl rfl ?_;refine gS ?_;have h1:=h.ext (Ext.new (t:=some 154) Z zSx);refine(Y9 h1 i).mono ?_;rintro r ⟨Z1,rfl,O⟩;have N:=h1.ext O;have S:Ext Z Z1:=(Ext.new _ _).trans O;have d4:=O.n;simp at d4;have z1:Z1.B8 Z.n=some [str [],.int .i64 0,.int .i64 0,str [],.slice none 0 0,.int .i64 0]:=by rw[B9 (O.same _ (by simp))];exact cL
 have hM:∀ q,(L q\/q=Z.n)->q<Z1.n:=by rintro q (g|rfl);have:=hL q g;omega;omega
 unfold Hy;cases hw:(E8 A7 k).1 with
 | nil=>
   have d0:decide (([]:By)=[])=true:=rfl;have d1:decide (([]:By)=[40])=false:=rfl;have d2:decide (([]:By)=[109,105,110])=false:=rfl;have d3:decide (([]:By)=[109,97,120])=false:=rfl;refine gS1 (aI d0 (aI d1 (aI d2 d3))) ?_;refine(HY (s:=[]) (by simp)).mono ?_;rintro r rfl;refine gS ?_;refine(P1 N i).mono ?_;rintro r (⟨E,-⟩|⟨E,Z3,rfl,a⟩)
   case inl=>cases E
   refine gS ?_;refine T3.intro kR ?_;refine gS ?_;rw[z0z (by simp[GB]),z0z (by simp),z0z (by decide),z0z (by decide)];exact⟨_,rfl,.of (S.trans a)⟩
 | cons c s =>
   have d0:decide (c::s=([]:By))=false:=rfl;have s1:sub (c::s) 0 1=some [c]:=FJ rfl;refine gS1 (aI d0 (aI s1 @X7)) ?_;refine Mi.mono ?_;rintro r rfl;have a8:J3 (c.toNat:Int)=GB J3 (c::s):=rfl;cases a7:GB J3 (c::s)with
   | true=>
     refine gS1 (aI a8 a7) ?_;rw[z1z rfl,<- hw];refine(bJ N R b3 om (L:=fun q=>L q\/q=Z.n) (.inl G) hM (by rw[hw];simp)).mono ?_;intro r;cases hR:SV A7 k p with
     | error pe=>
       obtain⟨at',e⟩:=pe;rintro⟨Z',rfl,j⟩;refine gS ?_;exact⟨_,rfl,(G5.of S).trans j⟩
     | ok x=>
       obtain⟨e,d,k',p'⟩:=x;rintro⟨Z',row,rfl,j,q',c6,hf⟩;obtain⟨v,y,z,B,C,rfl⟩:=hf.IM;have e4:=j.n;have z':=eT (j.B8 om om) z1;refine gS1 (aI z' @Tryz.results173) ?_;exact⟨_,[v,y,z,B,C],rfl,((G5.of S).trans j).De nL _,cL1 q',c6,(hf.CA (b:=Z.n) (G5.upd .refl _) (.inr rfl)).Uw fun q g=> .inl g⟩
   | false =>
     refine gS1 (aI a8 a7) ?_;rw[z0z (by simp)];have e7:decide (c::s=[40])=decide ((E8 A7 k).1=[40]):=by rw[hw]
     cases mP:decide (c::s=[40])with
     | true =>
       rw[z1z (z6z mP)];refine gS1 mP ?_;refine(BV N i).mono ?_;rintro r ⟨Z3,rfl,a,q3⟩;have J:=R k _ i (by rw[hw];simp);have h3:=N.CA a q3 J;have b2:=a.n;have z3:=eT (a.B8 om om) z1;refine gS ?_;refine(hF (fun q=>L q\/q=Z.n) Z3 (k+1) p (.inl G) (fun q g=>by have:=hM q g;omega) om om h3).mono ?_;intro r;cases hR:F (k+1) p with
       | error pe=>
         obtain⟨at',e⟩:=pe;rintro⟨Z',rfl,j⟩;refine gS ?_;rw[I8];exact⟨_,rfl,((G5.of S).trans a).trans j⟩
       | ok x=>
         obtain⟨e,d,k4,p4⟩:=x;have c1:=hB _ _ _ _ _ _ hR;rintro⟨Z4,row,rfl,m,q4,X,a9⟩;obtain⟨v,y,z,B,C,rfl⟩:=a9.IM;rw[F0]
         try dsimp only
         have d5:=m.n;have z4:=eT (m.B8 om om) z3;refine gS ?_;have u:G5 b Z ((Z4.new [str [],.int .i64 0,.int .i64 0,str [],.slice none 0 0,.int .i64 0] (some 154)).upd Z4.n [v,y,z,B,C,.int .i64 (d:Nat)]):=((((G5.of S).trans a).trans m).Sk _).De om _;have h5:=h.CA u (k':=k4) (rest':=[.int .i64 (p4:Nat)]) (cL1 q4) X;refine(iD h5 R (w:=[41]) (by simp)).mono ?_;intro r;cases a6:Dg A7 [41] k4 with
         | error pe=>
           obtain⟨at',e⟩:=pe;rintro⟨Z',rfl,j⟩;refine gS ?_;rw[I8];exact⟨_,rfl,u.trans j⟩
         | ok k6=>
           rintro⟨V,rfl,f,q6,Y⟩;rw[F0];have a3:=f.n;simp at a3;have r6:V.row Z4.n=some [v,y,z,B,C,.int .i64 (d:Nat)]:=by rw[f.row (by simp) om];exact C1 G8
           have z6:V.B8 Z.n=some [str [],.int .i64 0,.int .i64 0,str [],.slice none 0 0,.int .i64 0]:=by rw[f.B8 (by simp;omega) om,H6 om,J1 om];exact z4
           have c2:Bp (fun q=>L q\/q=Z.n) V [v,y,z,B,C] e:=by
            refine Bp.CA (b:=b) (a9.more (L':=fun q=>L q\/q=Z.n) ⟨by simp,fun c hc=>?_⟩ fun q g=> .inl g) f (.inl G);rw[M4,z0z om,N8,z0z om]
           refine gS1 (aI r6 (aI z6 @Tryz.results173)) ?_;exact⟨_,[v,y,z,B,C],rfl,(u.trans f).De nL _,cL1 q6,Y,(c2.CA (b:=Z.n) (G5.upd .refl _) (.inr rfl)).Uw fun q g=> .inl g⟩
     | false=>
       rw[z0z (z9z mP)];have a2:decide (c::s=[109,105,110])=decide (c::s=W9):=rfl;have a1:decide (c::s=[109,97,120])=decide (c::s=Y4):=rfl;cases Q:(decide (c::s=W9)||decide (c::s=Y4))with
       | false=>
         rw[AD9]at Q;obtain⟨m1,m2⟩:=Q;rw[z0z (by simp)];refine gS1 (aI mP (aI a2 (aI a1 (aI m1 m2)))) ?_;refine(HY (s:=c::s) (by rw[hw]at hs;omega)).mono ?_;rintro r rfl;refine gS ?_;refine(P1 N i).mono ?_;rintro r (⟨E,rfl⟩|⟨E,Z3,rfl,a⟩)
         case inr=>
          refine gS ?_;refine T3.intro kR ?_;refine gS ?_;rw[z0z (by rw[E];simp)];exact⟨_,rfl,.of (S.trans a)⟩
         rw[z1z E];refine gS ?_;refine(BV N i).mono ?_;rintro r ⟨Z3,rfl,a,q3⟩;have J:=R k _ i (by rw[hw];simp);have h3:=N.CA a q3 J;have b2:=a.n;have z3:=eT (a.B8 om om) z1;refine gS ?_;refine(eM h3 om (L:=fun q=>L q\/q=Z.n) (row:=[str nmB,.int .i64 0,.int .i64 0,str (c::s),.slice none 0 0]) (e:= .mk nmB 0 0 (c::s) []) (fun H hH=>⟨_,[],rfl,.inl ⟨rfl,rfl⟩,by simp,rfl⟩) (.inl G)).mono ?_;rintro r ⟨K,b4,rfl,l,q7,a0,I⟩;obtain⟨v,y,z,B,C,rfl⟩:=I.IM;have d6:=l.n;have d8:=eT (l.B8 om om) z3;refine gS1 (aI d8 @Tryz.results173) ?_;exact⟨_,[v,y,z,B,C],rfl,(((G5.of S).trans a).trans l).De nL _,by rw[H6 om];exact q7,a0,(I.CA (b:=Z.n) (G5.upd .refl _) (.inr rfl)).Uw fun q g=> .inl g⟩
       | true=>
         rw[z1z rfl];have b5:(decide (c::s=W9)=true)\/(decide (c::s=W9)=false/\decide (c::s=Y4)=true):=by
          cases m1:decide (c::s=W9)with
          |true=>exact .inl rfl
          |false=>rw[m1]at Q;exact .inr ⟨rfl,Q⟩
         rcases b5 with m1|⟨m1,m2⟩
         rotate_left
         refine gS1 (aI mP (aI a2 (aI a1 (aI m1 m2)))) ?_
         rotate_left
         refine gS1 (aI mP (aI a2 (aI a1 m1))) ?_
         all_goals
          refine(BV N i).mono ?_;rintro r ⟨Z3,rfl,a,q3⟩;have J:=R k _ i (by rw[hw];simp);have h3:=N.CA a q3 J;have b2:=a.n;have z3:=eT (a.B8 om om) z1;have tj:G5 b Z Z3:=(G5.of S).trans a;refine gS ?_;refine(iD h3 R (w:=[40]) (by simp)).mono ?_;intro r;cases b7:Dg A7 [40] (k+1)with
          | error pe=>
            obtain⟨at',e⟩:=pe;rintro⟨Z',rfl,j⟩;refine gS ?_;rw[I8];exact⟨_,rfl,tj.trans j⟩
          |ok k1=>
          have e8:=Gt b7;rintro⟨Z4,rfl,m,q4,X⟩;rw[F0]
          try dsimp only
          have h4:=h3.CA m q4 X;have QN:=tj.trans m;have d5:=m.n;have z4:=eT (m.B8 om om) z3;refine gS ?_;refine(hF (fun q=>L q\/q=Z.n) Z4 k1 p (.inl G) (fun q g=>by have:=hM q g;omega) om om h4).mono ?_;intro r;cases b8:F k1 p with
          | error pe=>
            obtain⟨at',e⟩:=pe;rintro⟨Z',rfl,j⟩;refine gS ?_;rw[I8];exact⟨_,rfl,QN.trans j⟩
          |ok x=>
          obtain⟨e,d,k2,p2⟩:=x;have c1:=hB _ _ _ _ _ _ b8;rintro⟨D,AK8,rfl,u,q5,c7,b0⟩;obtain⟨v,y,z,B,C,rfl⟩:=b0.IM;rw[F0]
          try dsimp only
          have e5:=u.n;have z5:=eT (u.B8 om om) z4;refine gS ?_;have Xp:G5 b Z ((D.new [str [],.int .i64 0,.int .i64 0,str [],.slice none 0 0,.int .i64 0] (some 154)).upd D.n [v,y,z,B,C,.int .i64 (d:Nat)]):=((QN.trans u).Sk _).De om _;have b6:Ext D ((D.new [str [],.int .i64 0,.int .i64 0,str [],.slice none 0 0,.int .i64 0] (some 154)).upd D.n [v,y,z,B,C,.int .i64 (d:Nat)]):=(Ext.new _ _).upd nL _;have c3:Bp (fun q=>(L q\/q=Z.n)\/q=D.n) ((D.new [str [],.int .i64 0,.int .i64 0,str [],.slice none 0 0,.int .i64 0] (some 154)).upd D.n [v,y,z,B,C,.int .i64 (d:Nat)]) [v,y,z,B,C] e:=b0.more b6 (by rintro q (g|rfl);exact .inl g;exact .inr nL);have h5:=h.CA Xp (k':=k2) (rest':=[.int .i64 (p2:Nat)]) (cL1 q5) c7;refine(iD h5 R (w:=[44]) (by simp)).mono ?_;intro r;cases b9:Dg A7 [44] k2 with
          | error pe=>
            obtain⟨at',e⟩:=pe;rintro⟨Z',rfl,j⟩;refine gS ?_;rw[I8];exact⟨_,rfl,Xp.trans j⟩
          |ok k3=>
          have e9:=Gt b9;rintro⟨V,rfl,f,q6,Y⟩;rw[F0]
          try dsimp only
          have h6:=h5.CA f q6 Y;have a4:=Xp.trans f;have a3:=f.n;simp at a3;have c4:=c3.CA f (.inl (.inl G));have r6:V.B8 D.n=some [v,y,z,B,C,.int .i64 (d:Nat)]:=eT (f.B8 (by simp) om) G8;have z6:V.B8 Z.n=some [str [],.int .i64 0,.int .i64 0,str [],.slice none 0 0,.int .i64 0]:=by rw[f.B8 (by simp;omega) om,H6 om,J1 om];exact z5
          refine gS ?_;refine(hF (fun q=>(L q\/q=Z.n)\/q=D.n) V k3 p2 (.inl (.inl G)) (by rintro q (g|rfl);have:=hM q g;omega;omega) om om h6).mono ?_;intro r;cases c0:F k3 p2 with
          | error pe=>
            obtain⟨at',e⟩:=pe;rintro⟨Z',rfl,j⟩;refine gS ?_;rw[I8];exact⟨_,rfl,a4.trans j⟩
          |ok x=>
          obtain⟨e',d',k4,p4⟩:=x;have e0:=hB _ _ _ _ _ _ c0;rintro⟨K,b4,rfl,l,q7,a0,I⟩;obtain⟨w1,w2,w3,w4,w5,rfl⟩:=I.IM;rw[F0]
          try dsimp only
          have d6:=l.n;have c5:=c4.CA l (.inl (.inl G));have r7:=eT (l.B8 om om) r6;have z7:=eT (l.B8 om om) z6;refine gS ?_;have U:G5 b Z ((K.new [str [],.int .i64 0,.int .i64 0,str [],.slice none 0 0,.int .i64 0] (some 154)).upd K.n [w1,w2,w3,w4,w5,.int .i64 (d':Nat)]):=((a4.trans l).Sk _).De om _;have a5:Ext K ((K.new [str [],.int .i64 0,.int .i64 0,str [],.slice none 0 0,.int .i64 0] (some 154)).upd K.n [w1,w2,w3,w4,w5,.int .i64 (d':Nat)]):=(Ext.new _ _).upd nL _;have h7:=h.CA U (k':=k4) (rest':=[.int .i64 (p4:Nat)]) (cL1 q7) a0;refine(iD h7 R (w:=[41]) (by simp)).mono ?_;intro r;cases a6:Dg A7 [41] k4 with
          | error pe=>
            obtain⟨at',e⟩:=pe;rintro⟨Z',rfl,j⟩;refine gS ?_;rw[I8];exact⟨_,rfl,U.trans j⟩
          |ok k5=>
          have f0:=Gt a6;rintro⟨Z8,rfl,o,q8,c8⟩;rw[F0]
          try dsimp only
          have h8:=h7.CA o q8 c8;have cO:=U.trans o;have d7:=o.n;simp at d7;have g1:=(c5.more (L':=fun q=>((L q\/q=Z.n)\/q=D.n)\/q=K.n) a5 (by rintro q (g|rfl);exact .inl g;exact .inr nL)).CA o (.inl (.inl (.inl G)));have g2:=(I.more (L':=fun q=>((L q\/q=Z.n)\/q=D.n)\/q=K.n) a5 (by rintro q (g|rfl);exact .inl g;exact .inr nL)).CA o (.inl (.inl (.inl G)));have r8:Z8.row D.n=some [v,y,z,B,C,.int .i64 (d:Nat)]:=by rw[o.row (by simp;omega) om];exact C1 (by rw[H6 om,J1 om];exact r7)
          have d9:Z8.row K.n=some [w1,w2,w3,w4,w5,.int .i64 (d':Nat)]:=by rw[o.row (by simp) om];exact C1 G8
          have z8:Z8.B8 Z.n=some [str [],.int .i64 0,.int .i64 0,str [],.slice none 0 0,.int .i64 0]:=by rw[o.B8 (by simp;omega) om,H6 om,J1 om];exact z7
          refine gS1 (aI r8 d9) ?_;refine(eN h8 (op:=c::s) (d:=d) (d':=d') om om om g1 g2 (.inl (.inl (.inl G))) (by rintro q (((g|rfl)|rfl)|rfl);have:=hL q g;omega;omega;omega;omega)).mono ?_;rintro r ⟨Z9,e1,rfl,W,q9,c9,b1⟩;obtain⟨y1,y2,y3,y4,y5,rfl⟩:=b1.IM;have e6:=W.n;have z9:=eT (W.B8 om om) z8;refine gS1 (aI z9 @Tryz.results173) ?_;exact⟨_,[y1,y2,y3,y4,y5],rfl,(cO.trans W).De nL _,by rw[H6 om];exact q9,c9,(b1.CA (b:=Z.n) (G5.upd .refl _) (.inl (.inl (.inr rfl)))).Uw fun q g=> .inl (.inl (.inl g))⟩
end
def xU {L:Nat->Prop}{b:Nat}{Z:St}{f:Value}{A7:List Tok}{k p:Nat}{F:Nat->Nat->Except Er Fx}(h:Sc Z b f A7 k [.int .i64 (p:Nat)]) (m:Ends A7) (l:IZ A7) (c:A7.length<100000000) (D:p<=k) (B:L b) (z:∀ q,L q->q<Z.n)
  (y:∀ (M:Nat->Prop) (Z':St) (k' p':Nat),M b->(∀ q,M q->q<Z'.n)->k<k'->p'<=k'->Sc Z' b f A7 k' [.int .i64 (p':Nat)]->Ev (gO 84 [.pointer (some ⟨b,0,none⟩)] Z') (FmP M Z' b f A7 (F k' p')) ⟨⟩)
  (o:∀ k' p',Bd k' p' (F k' p')) :
  Ev (gO 133 [.pointer (some ⟨b,0,none⟩)] Z) (FmP L Z b f A7 (Eh (Hy F A7) [42,47] A7 k p)) ⟨⟩:=by
 have C:=h.lt;refine G1 Tryz.func133 rfl rfl ?_;refine gS ?_;have v:=h.ext (Ext.new (t:=some 154) Z [str [],.int .i64 0,.int .i64 0,str [],.slice none 0 0,.int .i64 0])
 refine(Yw (L:=fun q=>L q\/q=Z.n) (A:=Hy F A7) v m c D (.inl B) (by rintro q (j|rfl);have:=z q j;simp;omega;simp)
  (fun M Z' k' p' G H X I J=>kh J m l c I G H (fun N u E S K O Y Q R=>y N u E S K O om Q R) o) (fun k' p' _=>KI o k' p')).mono ?_
 intro r;cases W:Eh (Hy F A7) [42,47] A7 k p with
 | error pe=>
   obtain⟨at',e⟩:=pe;rintro⟨Z',rfl,a⟩;refine gS ?_;exact⟨_,rfl,(G5.of (.new _ _)).trans a⟩
 | ok x=>
   obtain⟨e,d,k',p'⟩:=x;rintro⟨Z',row,rfl,a,U,g,s⟩;obtain⟨v1,v2,v3,v4,v5,rfl⟩:=s.IM;have i:=a.n;simp at i;have V:Z'.B8 Z.n=some [str [],.int .i64 0,.int .i64 0,str [],.slice none 0 0,.int .i64 0]:=eT (a.B8 (by simp) om) cL;refine gS1 (aI V @Tryz.results133) ?_;exact⟨_,[v1,v2,v3,v4,v5],rfl,((G5.of (.new _ _)).trans a).De nL _,cL1 U,g,(s.CA (b:=Z.n) (G5.upd .refl _) (.inr rfl)).Uw fun q j=> .inl j⟩
def aj {b:Nat}{s:Value}{A7:List Tok}(u:Ends A7) (m:IZ A7) (c:A7.length<100000000):∀ (f:Nat) (L:Nat->Prop) (Z:St) (k p:Nat),A7.length-k<=f->L b->(∀ q,L q->q<Z.n)->p<=k->Sc Z b s A7 k [.int .i64 (p:Nat)] ->
  Ev (gO 84 [.pointer (some ⟨b,0,none⟩)] Z) (FmP L Z b s A7 (PA A7 f k p)) ⟨⟩:=by
 intro f;induction f with
 |zero=>intro L Z k p g z y B h;have:=h.k;omega
 | succ f ih=>
   intro L Z k p g z y B h;have E:=h.lt;refine G1 Tryz.func84 rfl rfl ?_;refine gS ?_;have D:=h.ext (Ext.new (t:=some 154) Z [str [],.int .i64 0,.int .i64 0,str [],.slice none 0 0,.int .i64 0]);have v:=Jz (A7:=A7) f
   refine(Yw (L:=fun q=>L q\/q=Z.n) (A:=fun k p=>Eh (Hy (PA A7 f) A7) [42,47] A7 k p) D u c B (.inl z) (by rintro q (l|rfl);have:=y q l;simp;omega;simp)
    (fun M Z' k' o G H X I J=>xU J u m c I G H (fun N C F S K O Y Q R=>ih N C F S om K O Q R) v) (fun k' o _=>Hz (fun k p=>KI v k p) k' o)).mono ?_
   intro r;show FmP _ _ b s A7 (PA A7 (f+1) k p) r->_;cases W:PA A7 (f+1) k p with
   | error pe=>
     obtain⟨at',e⟩:=pe;rintro⟨Z',rfl,a⟩;refine gS ?_;exact⟨_,rfl,(G5.of (.new _ _)).trans a⟩
   | ok x=>
     obtain⟨e,d,k',o⟩:=x;rintro⟨Z',row,rfl,a,U,i,g⟩;obtain⟨v1,v2,v3,v4,v5,rfl⟩:=g.IM;have j:=a.n;simp at j;have V:Z'.B8 Z.n=some [str [],.int .i64 0,.int .i64 0,str [],.slice none 0 0,.int .i64 0]:=eT (a.B8 (by simp) om) cL;refine gS1 (aI V @Tryz.results84) ?_;exact⟨_,[v1,v2,v3,v4,v5],rfl,((G5.of (.new _ _)).trans a).De nL _,cL1 U,i,(g.CA (b:=Z.n) (G5.upd .refl _) (.inr rfl)).Uw fun q l=> .inl l⟩
noncomputable def JO (A7:List Tok):Except Er Ex:=V6 (PA A7 A7.length 0 0) fun(e,d,k,p)=>
 if (E8 A7 k).1=[]then if (decide (60<p)||decide (12<d))=true then .error ((E8 A7 0).2,2)else .ok e else .error ((E8 A7 k).2,12)
def RdP (Z:St) (R:Except Er Ex) (r:CR):Prop:=match R with
 | .ok e=>∃ Z' row,r=⟨false,.agg ⟨row⟩,Z'⟩/\Ext Z Z'/\Bp (fun q=>q<Z.n) Z' row e
 | .error (p,e)=>∃ Z',r=⟨true,fault p e,Z'⟩/\Ext Z Z'
def uw {Z:St}{tv:Value}{A7:List Tok}(D:SL Z 2 tv (A7.map FC)) (G:0<A7.length) (I6:Ends A7) (N:IZ A7) (Q:A7.length<100000000) :
  Ev (gO 51 [tv] Z) (RdP Z (JO A7)) ⟨⟩:=by
 obtain⟨a,c,g,off,cells,rfl,y1,y2⟩:=SL.use D;rw[z2z]at *;obtain⟨sp,rfl,y3,y4⟩:=y1 G;have O:=R9 G;have K:sub cells (off+0*2) 2=some [str (E8 A7 0).1,.int .i64 ((E8 A7 0).2:Nat)]:=y2 0 (FC (E8 A7 0)) (by rw[List.getElem?_map,O];rfl);have B:sub cells (off+1) 1=some [.int .i64 ((E8 A7 0).2:Nat)]:=by
  have:=Fu (i:=1) (m:=1) K om;rw[GV,Be]at this;exact this
 refine G1 Tryz.func51 rfl rfl ?_;refine gS ?_;have o:Ext Z ((Z.new [str [],.int .i64 0,.int .i64 0,str [],.slice none 0 0] (some 35)).new [.slice (some ⟨g,off,sp⟩) A7.length c,.int .i64 0,.int .i64 0]):=(Ext.new _ _).trans (.new _ _)
 have S:Sc ((Z.new [str [],.int .i64 0,.int .i64 0,str [],.slice none 0 0] (some 35)).new [.slice (some ⟨g,off,sp⟩) A7.length c,.int .i64 0,.int .i64 0]) (Z.n+1) (.slice (some ⟨g,off,sp⟩) A7.length c) A7 0 [.int .i64 (0:Nat)] :=
  ⟨cL,by simp,D.mono o,by show some g≠some (Z.n+1);intro e;cases e;omega,G,om⟩
 refine(aj I6 N Q A7.length (fun q=>q<Z.n+2) _ 0 0 om (by show Z.n+1<Z.n+2;omega) (fun q W=>by simp;exact W) nL S).mono ?_;intro r;unfold JO;cases hR:PA A7 A7.length 0 0 with
 | error pe=>
   obtain⟨p,e⟩:=pe;rintro⟨Z',rfl,hE⟩;refine gS ?_;rw[I8];exact⟨_,rfl,hE.ext o om⟩
 | ok x=>
   obtain⟨e,d,k,p⟩:=x;have a0:=Jz _ _ _ _ _ _ _ hR;rintro⟨Z2,row,rfl,h,q2,C,A⟩;obtain⟨v1,v2,v3,v4,v5,rfl⟩:=A.IM;rw[F0]
   try dsimp only
   have L:=h.n;simp at L;have QM:Ext Z Z2:=h.ext o om;have z2:Z2.B8 Z.n=some [str [],.int .i64 0,.int .i64 0,str [],.slice none 0 0]:=eT (h.B8 (by simp;omega) om) cL;refine gS ?_;have I:G5 (Z.n+1) ((Z.new [str [],.int .i64 0,.int .i64 0,str [],.slice none 0 0] (some 35)).new [.slice (some ⟨g,off,sp⟩) A7.length c,.int .i64 0,.int .i64 0]) ((Z2.new [str [],.int .i64 0,.int .i64 0,str [],.slice none 0 0,.int .i64 0] (some 154)).upd Z2.n [v1,v2,v3,v4,v5,.int .i64 (d:Nat)]):=(h.Sk _).De (by simp;omega) _;have U:=S.CA I (k':=k) (rest':=[.int .i64 (p:Nat)]) (cL1 q2) C;have E:=R9 C;refine(Y9 U E).mono ?_;rintro r ⟨Z4,rfl,f⟩;have V:=U.ext f;have M:=f.n;simp at M;refine gS ?_;refine(P1 V E).mono ?_;have y:Ext Z Z4:=(((QM.Aw _).upd om _)).trans f;rintro r (⟨s,rfl⟩|⟨s,Z5,rfl,J⟩)
   case inr=>
    refine gS ?_;refine T3.intro kR ?_;refine gS ?_;rw[z0z (z9z s)];exact⟨_,rfl,y.trans J⟩
   rw[z1z (z6z s)];have R:=C1 V.row;have F:Z4.row Z2.n=some [v1,v2,v3,v4,v5,.int .i64 (d:Nat)]:=by rw[f.row (by simp)];exact C1 G8
   have z4:Z4.B8 Z.n=some [str [],.int .i64 0,.int .i64 0,str [],.slice none 0 0]:=by rw[B9 (f.same _ (by simp;omega)),H6 om,J1 om];exact z2
   have Y:=eT (y.row y3) y4;have l:decide ((60:Int)<(p:Int))=decide (60<p):=by rw[z7z,z3z,z3z];omega
   have z:decide ((12:Int)<(d:Int))=decide (12<d):=by rw[z7z,z3z,z3z];omega
   have X:decide (0<A7.length)=true:=AK G;cases j:decide (60<p)with
   | true=>
     refine gS1 (aI R (aI l (aI j (aI @H7 (aI @I0 (aI Y (aI B X))))))) ?_;exact⟨_,rfl,y⟩
   | false=>
     cases u:decide (12<d)with
     | true=>
       refine gS1 (aI R (aI F (aI l (aI j (aI z (aI u (aI @H7 (aI @I0 (aI Y (aI B X)))))))))) ?_;exact⟨_,rfl,y⟩
     | false=>
       refine gS1 (aI R (aI F (aI l (aI j (aI z (aI u (aI @H7 (aI @I0 (aI z4 @Tryz.results51))))))))) ?_;rw[z0z (by simp)];refine⟨_,[v1,v2,v3,v4,v5],rfl,y.upd om _,?_⟩;have H:Ext Z2 Z4:=((Ext.new _ _).upd nL _).trans f;exact((A.ext H).CA (b:=Z.n) (G5.upd .refl _) (by show Z.n<Z.n+2;omega)).Uw fun q W=>by show q<Z.n+2;omega
section
variable {Z ZL:St}{bt bx:Nat}{T:Tn}{tv:Value}{A7:List Tok}{k:Nat}{tx:By}{from':Nat}{v:Nat->Value}{fc vs:List Value}
noncomputable def Bk (A7:List Tok) (tx:By) (from':Nat) (T:Tn) (_:Nat):Except Er (Tn×Nat):=V6 (JO (Ck tx from')) fun e=> .ok ({ T with f:=e },A7.length-1)
def nv (h:Ln ZL Z bt bx T tv A7 k (N9 tx from' bt) v fc vs) (u:tx.length<10000000) (l:from'<10000000) (J:Ends (Ck tx from')) (o:IZ (Ck tx from')) :
  Ev (gO 122 [.pointer (some ⟨bx,0,none⟩)] Z) (LnP ZL bt bx tv A7 (N9 tx from' bt) (Bk A7 tx from' T k)) ⟨⟩:=by
 refine G1 Tryz.func122 rfl rfl ?_;have A:=C1 h.sc.row;unfold N9 at A;have I:(Ck tx from').length<=tx.length+1:=by
  unfold Ck;rw[W4];have:=oA (s:=tx) (from':=from') tx.length 0;simp;omega
 have K:0<(Ck tx from').length:=by unfold Ck;simp
 have m1:=h.btl;have m2:=h.bxg;have m3:=h.ext.n;have m4:=h.sc.lt;refine gS1 A ?_;refine(aq u l).mono ?_;rintro r ⟨X,U,rfl,d,a⟩;have y:=h.N6 a;obtain⟨W,rfl⟩:=OL.shape d;have j:=OL.sl d;refine gS ?_;refine(uw j K J o om).mono ?_;intro r;unfold Bk;cases Y:JO (Ck tx from')with
 | error pe=>
   obtain⟨p,e⟩:=pe;rintro⟨Z',rfl,z⟩;refine gS ?_;refine T3.intro kR ?_;refine dW1 (aI @P0 (aI @T5 (aI @T6 (aI @N5 (aI @o6 (aI (Bz a) (Bz z))))))) ?_;refine gS ?_;rw[I8];exact⟨_,rfl,(y.N6 z).ext⟩
 | ok e=>
   rintro⟨L,row,rfl,b,c⟩;obtain⟨D,E,F,G,H,rfl⟩:=c.IM;rw[F0];have g:=y.N6 b;have m:Aq (J0 L (held bt bx v)) [D,E,F,G,H] e:=by
    refine c _ fun q S=>?_;have R:=a.n;rcases Cm.1 S with e|e|⟨i,hi,e⟩|e
    ·omega
    ·omega
    ·have:=((h.sl i hi).blk e).2;omega
    ·omega
   have N:=g.fml m;have B:=g.row;obtain⟨c1,c2,c3,c4,V,rfl⟩:=fc5 h.fx;unfold tnR Ae at B;have C:=C1 g.sc.row;have f:=g.sc.row;have O:=h.sc.k;have Q:=h.sc.len;obtain⟨sa,sc,sb,BV5,Az1,rfl,-,-⟩:=SL.use h.sc.sl;rw[z2z]at *;unfold N9 at C f;refine gS1 B ?_;refine dW1 (aI @P0 (aI @T5 (aI @T6 (aI @N5 (aI @o6 (aI (Bz a) (Bz b))))))) ?_;have M:(A7.length:Int)-1=((A7.length-1:Nat):Int):=om;refine gS1 (aI C (aI f (aI M @Tryz.results122))) ?_;rw[z2z];exact⟨_,v,[D,E,F,G,H],vs,rfl,N.step (G5.upd .refl _) G8 om⟩
end
end Go.Proofs.T
