/- The F9 tokens of a line. -/
import Derived.Test.YtckchelhlpifiaaGreatDoorVA
set_option linter.unusedSimpArgs false
set_option linter.unusedVariables false
set_option linter.defProp false
set_option maxHeartbeats 32000000
set_option maxRecDepth 100000
namespace Go.Proofs.T
open Go Go.Ab
section
variable {u s:By}{k from' to:Nat}
def EY (n:Int):Bool:= !decide (n=32)
def rM (c:UInt8):on EY c= !decide (c=32):=by
 show(!decide ((c.toNat:Int)=((32:Nat):Int)))=_;rw[Pb (n:=32) (m:=32) rfl]
def fk:By->List By
 | []=>[]
 |_::r=>I8 32 r
def RI:∀ l:By,I8 32 l=l.takeWhile (on EY)::fk (l.drop (l.takeWhile (on EY)).length)
 | []=>rfl
 | x::s=>by
   have e:I8 32 (x::s)=if x=32 then[]::I8 32 s else match I8 32 s with
    |h::t=>(x::h)::t
    | []=>[[x]]:=rfl
   rw[e];by_cases h:x=32
   ·rw[z1z h,WJ,rM,Aq h,Gi,z0z (by simp)];rfl
   ·rw[z0z h,WJ,rM,z4z h,RI s,El,z1z rfl];rfl
def spT (u:By) (k:Nat):List Tok:=CA (I8 32 (u.drop k)) k
def fl (h:u.length<=k):spT u k=[]:=by
 unfold spT;rw[Ti h];rfl
def rN:spT u k=(if I0 EY u k=0 then[]else[((u.drop k).take (I0 EY u k),k)])++spT u (k+I0 EY u k+1):=by
 have hw:(u.drop k).takeWhile (on EY)=(u.drop k).take (I0 EY u k):=List.prefix_iff_eq_take.1 (List.takeWhile_prefix _);have hwl:((u.drop k).takeWhile (on EY)).length=I0 EY u k:=rfl;have h0:((u.drop k).takeWhile (on EY)=[])↔I0 EY u k=0:=by rw[<- hwl];exact List.length_eq_zero_iff.symm
 have hr:CA (fk ((u.drop k).drop ((u.drop k).takeWhile (on EY)).length)) (k+((u.drop k).takeWhile (on EY)).length+1)=spT u (k+I0 EY u k+1):=by
  rw[hwl,Kz];cases hd:u.drop (k+I0 EY u k)with
  | nil=>
    rw[fl (by have:=List.drop_eq_nil_iff.1 hd;omega)];rfl
  | cons x r=>
    have:u.drop (k+I0 EY u k+1)=r:=by rw[<- Kz,hd];rfl
    unfold spT;rw[this];rfl
 unfold spT at hr ⊢;rw[RI (u.drop k)];show(if _ then _ else _)++CA _ _=_;rw[hr];congr 1;by_cases h:I0 EY u k=0
 ·rw[z1z h,z1z (h0.2 h)]
 ·rw[z0z h,z0z (fun e=>h (h0.1 e)),hw]
def rO (hft:from'<=to) (hto:to<=s.length):G3 ((s.take to).drop from') from'=spT (s.take to) from'++[([],to)]:=by
 unfold G3 spT;rw[Ei,Dh,Um hto,nZ hft]
def SpJ (Z:St) (s:By) (to from':Nat) (j:Nat) (fr:Fr) (Z':St):Prop:=∃ k done vo,j=to-k/\from'<=k/\k<=to+1/\fr.get 0=some (str s)/\fr.get 2=some (.int .i64 (to:Nat))/\fr.get 8=some (.int .i64 (k:Nat))/\fr.get 7=some vo/\OL Z.n Z' 2 vo (done.map W6)/\Ext Z Z'/\done++spT (s.take to) k=spT (s.take to) from'/\done.length<=k
def SpR (Z:St) (s:By) (to from':Nat) (r:Res):Prop:=∃ fr Z' vo,r=⟨.exit 0,fr,Z'⟩/\fr.get 2=some (.int .i64 (to:Nat))/\fr.get 7=some vo/\OL Z.n Z' 2 vo ((spT (s.take to) from').map W6)/\Ext Z Z'/\(spT (s.take to) from').length<=to+1
def kX {Z:St}(hft:from'<=to) (hto:to<=s.length) (hs:s.length<10000000):
  Ev (gO 83 [str s,.int .i64 (from':Nat),.int .i64 (to:Nat)] Z) (fun r=>∃ v Z',r=⟨false,v,Z'⟩/\OL Z.n Z' 2 v ((G3 ((s.take to).drop from') from').map W6)/\Ext Z Z') ⟨⟩:=by
 refine D0 Tryz.func83 rfl rfl ?_;refine gS ?_;refine V9 (SpJ Z s to from') (SpR Z s to from') (to-from') ?_ ?_ ?_
 ·exact⟨from',[],_,rfl,AR _,om,fR,fR,fR,fR,OL.nil,.refl _,rfl,y9 _⟩
 ·rintro j fr Z' ⟨k,done,vo,rfl,hfk,hk,g0,g2,g8,g7,hol,hE,hT,hd⟩;obtain⟨u,hu⟩:=nm (s.take to);have hul:u.length=to:=by rw[<- hu,Dh];omega
  rw[hu]at hT;have e1:decide ((k:Int)<(to:Int))=decide (k<to):=by rw[z7z];simp
  cases hlt:decide (k<to)with
  | false=>
    have hkl:=z9z hlt;refine gS1 (aI g0 (aI g2 (aI g8 (aI e1 (aI hlt @Q9))))) ?_;rw[fl om,IV]at hT;refine⟨_,_,vo,rfl,fR1 g2,fR1 g7,?_,hE,?_⟩
    ·rw[hu,<- hT];exact hol
    ·rw[hu,<- hT];omega
  | true=>
    have hkl:=z6z hlt;have hrl:=EH EY u k om;refine gS1 (aI g0 (aI g2 (aI g8 (aI e1 hlt)))) ?_
    refine F4 (I0 EY u k) (fun i fr Z2=>fr.get 9=some (.int .i64 (k+i:Nat))/\fr.get 0=some (str s)/\fr.get 2=some (.int .i64 (to:Nat))/\fr.get 7=some vo/\fr.get 8=some (.int .i64 (k:Nat))/\Z2=Z')
     (fun r=>∃ fr,r=⟨.exit 2,fr,Z'⟩/\fr.get 9=some (.int .i64 (k+I0 EY u k:Nat))/\fr.get 0=some (str s)/\fr.get 2=some (.int .i64 (to:Nat))/\fr.get 7=some vo/\fr.get 8=some (.int .i64 (k:Nat))) ?_ ?_ ?_ ?_
    ·exact⟨fR,fR1 g0,fR1 g2,fR1 g7,fR1 g8,rfl⟩
    ·rintro i fr Z2 hi ⟨g9,g0,g2,g7,g8,rfl⟩;obtain⟨d,hdu,hdp⟩:=HU hi;obtain⟨hds,hdt⟩:=EN (by rw[hu];exact hdu);have q1:=N3 hds;have q2:decide (((k+i:Nat):Int)<(to:Int))=true:=dT;have q3:((k+i:Nat):Int)+1=((k+(i+1):Nat):Int):=om;have q4:decide ((d.toNat:Int)=32)=false:=by
      have:on EY d= !decide ((d.toNat:Int)=32):=rfl;rw[this]at hdp
      simpa using hdp
     refine gS1 (aI g9 (aI g0 (aI g2 (aI g7 (aI g8 (aI q1 (aI q2 (aI q3 (aI q4 @I4))))))))) ?_;exact⟨fR,fR1 g0,fR1 g2,fR1 g7,fR1 g8,by trivial⟩
    ·rintro fr Z2 ⟨g9,g0,g2,g7,g8,rfl⟩;rcases Mo (p:=EY) (s:=u) (k:=k)with hn|⟨d,hdu,hdp⟩
     ·have q2:decide (((k+I0 EY u k:Nat):Int)<(to:Int))=false:=z4z (fun h=>by
       have h':k+I0 EY u k<u.length:=om;rw[List.getElem?_eq_getElem h']at hn;cases hn)
      refine gS1 (aI g9 (aI g0 (aI g2 (aI g7 (aI g8 q2))))) ?_;exact⟨_,rfl,fR1 g9,fR1 g0,fR1 g2,fR1 g7,fR1 g8⟩
     ·obtain⟨hds,hdt⟩:=EN (by rw[hu];exact hdu);have q1:=N3 hds;have q2:decide (((k+I0 EY u k:Nat):Int)<(to:Int))=true:=dT;have q4:decide ((d.toNat:Int)=32)=true:=by
       have:on EY d= !decide ((d.toNat:Int)=32):=rfl;rw[this]at hdp
       simpa using hdp
      refine gS1 (aI g9 (aI g0 (aI g2 (aI g7 (aI g8 (aI q1 (aI q2 (aI q4 @I4)))))))) ?_;exact⟨_,rfl,fR1 g9,fR1 g0,fR1 g2,fR1 g7,fR1 g8⟩
    rintro r ⟨fr,rfl,g9,g0,g2,g7,g8⟩;have Ag7:=rN (u:=u) (k:=k);rw[Ag7]at hT;obtain⟨m,hm⟩:=nm (I0 EY u k);rw[hm]at g9 hT hrl;have em1:((k+m:Nat):Int)+1=((k+m+1:Nat):Int):=om;have ec:decide ((k:Int)<((k+m:Nat):Int))=decide (0<m):=by rw[z7z,z3z,z3z];omega
    cases hm0:decide (0<m)with
    | false=>
      have:=z9z hm0;obtain rfl:m=0:=om;refine gS1 (aI g0 (aI g2 (aI g7 (aI g8 (aI g9 (aI em1 (aI ec (aI hm0 @H6)))))))) ?_;refine⟨to-(k+0+1),om,k+0+1,done,vo,rfl,om,om,fR1 g0,fR1 g2,fR,fR1 g7,hol,hE,?_,om⟩;rw[hu];exact hT
    | true=>
      have hm1:=z6z hm0;have hsb:sub s k (k+m-k)=some ((u.drop k).take m):=by
       rw[V7 om,<- hu,dj,Sw,zp,Um om]
      have hb2:k+m<=s.length:=om;rw[z0z om]at hT;refine gS1 (aI g0 (aI g2 (aI g7 (aI g8 (aI g9 (aI em1 (aI ec (aI hm0 (aI hsb (a4N @fm @fo @fp @Tryz.underlying86)))))))))) ?_;refine G4 (row:=W6 ((u.drop k).take m,k)) (fun _ _ _ _=>fq) (OL.ext hol (.new _ _)) (D1 nL nL) (D8 (by simp[W6]) (by simp[W6])) (by rw[z2z];omega) (by have:=hE.n;simp;omega) ?_;intro vo' Z3 d1 d2 d3;have hE3:Ext Z Z3:=d2.ext (hE.trans (Ext.new (t:=none) Z' [str ((u.drop k).take m),.int .i64 (k:Nat)])) (OL.ext hol (.new _ _)) nL;refine gS1 (aI g0 (aI g2 (aI g7 (aI g8 (aI g9 (aI em1 @H6)))))) ?_;refine⟨to-(k+m+1),om,k+m+1,done++[((u.drop k).take m,k)],vo',rfl,om,om,fR1 g0,fR1 g2,fR,fR,by rw[y7];exact d1,hE3,?_,by rw[BD];simp;omega⟩;rw[hu,Ky];exact hT
 ·rintro r ⟨fr,Z',vo,rfl,g2,g7,hol,hE,hl⟩;rw[rO hft hto];refine gS1 (aI g2 (aI g7 (a4N @fm @fo @fp @Tryz.underlying86))) ?_;refine G4 (row:=W6 ([],to)) (fun _ _ _ _=>fq) (OL.ext hol (.new _ _)) (D1 nL nL) (D8 (by simp[W6]) (by simp[W6])) (by rw[z2z];omega) (by have:=hE.n;simp;omega) ?_;intro vo' Z3 d1 d2 d3;have hE3:Ext Z Z3:=d2.ext (hE.trans (Ext.new (t:=none) Z' [str [],.int .i64 (to:Nat)])) (OL.ext hol (.new _ _)) nL;refine gS1 @Tryz.results83 ?_;exact⟨vo',_,rfl,by rw[y7];exact d1,hE3⟩
end
def Rw (Z:St) (b:Nat) (tv:Value) (A1:List Tok) (C8:List Value) (st:Except Er Nat):Prop:=match st with
 | .ok k=>∃ a:Int,a=0/\Sc Z b tv A1 k (.int .i64 a:: .int .i64 0::C8)
 | .error (p,e)=>e≠0/\∃ k,Sc Z b tv A1 k (.int .i64 (p:Nat):: .int .i64 e::C8)
def T3 (A1:List Tok) (I3:Int) (k:Nat):Except Er Nat:=G2 (rdNum A1 I3 (fun _=>true) k) fun(_,k')=> .ok k'
def BH (A1:List Tok) (k:Nat):Except Er Nat:=G2 (BZ A1 k) fun _=> .ok (k+1)
def Hr (A1:List Tok) (ws:List By) (k:Nat):Except Er Nat:=G2 (Ct A1 ws k) fun(_,k')=> .ok k'
def LZ (A1:List Tok) (e:Int) (k:Nat):Except Er Nat:= .error ((A9 A1 (k-1)).2,e)
def KH {s:By}:NP s=AL s:=by
 have e:JZ.contains s=(decide (s=[112,114,105,99,101])||(decide (s=[108,111,119])||(decide (s=[109,105,110])||decide (s=[109,97,120])))):=by
  rw[z7z];simp[JZ]
 unfold NP AL;rw[IB,e];simp only[Bool.not_or,Bool.and_assoc]
section
variable {b:Nat}{Z:St}{tv:Value}{A1:List Tok}{C8:List Value}{st:Except Er Nat}
def Rw.ext {Z':St}(h:Rw Z b tv A1 C8 st) (hE:Ext Z Z'):Rw Z' b tv A1 C8 st:=by
 cases st with
 |ok k=>obtain⟨a,h0,h⟩:=h;exact⟨a,h0,h.ext hE⟩
 |error pe=>obtain⟨he,k,h⟩:=h;exact⟨he,k,h.ext hE⟩
def T4 {I3:Nat}(h:Rw Z b tv A1 C8 st) (C7:Ends A1) (hsh:u9 A1) :
  Ev (gO 131 [.pointer (some ⟨b,0,none⟩),.int .i64 (I3:Nat)] Z) (fun r=>∃ Z' n,r=⟨false,.int .i64 n,Z'⟩/\B9 b Z Z'/\Rw Z' b tv A1 C8 (G2 st (T3 A1 I3))/\∀ k m k',st= .ok k->rdNum A1 I3 (fun _=>true) k= .ok (m,k')->n=m) ⟨⟩:=by
 refine D0 Tryz.func131 rfl rfl ?_;cases st with
 | error pe=>
   obtain⟨p,e⟩:=pe;obtain⟨he,k,hs⟩:=h;have rr:=A6 hs.row;have c0:decide (e=0)=false:=z4z he;refine gV ?_;refine(K5 hs).mono ?_;rintro r rfl;refine gV1 (aI rr (aI c0 (a3N @G9 @H2 @Tryz.results131))) ?_;exact⟨_,_,rfl,.refl,⟨he,k,hs⟩,fun _ _ _ h=>by cases h⟩
 | ok k =>
   obtain⟨a,ha0,hs⟩:=h;have ro:=hs.row;have rr:=A6 ro;have hl:=hs.len;have hk:=hs.k;have ht0:=I9 hk;have htl:=hsh _ (W8 ht0);have e1:(k:Int)+1=((k+1:Nat):Int):=om;have hlt:(A9 A1 k).1≠[]->k+1<A1.length:=fun h=>C7 k _ ht0 h;rw[C1];refine gV ?_;refine(K5 hs).mono ?_;rintro r rfl;generalize ht:(A9 A1 k).1=t at htl hlt;refine gV1 rr ?_;refine(MY om).mono ?_;rintro r rfl;refine gV ?_;refine(TB om).mono ?_;rintro r rfl;have hle:=eH _ (s:=t) rfl;cases cn:Fl t with
   | false=>
     have e3:rdNum A1 I3 (fun _=>true) k= .error ((A9 A1 k).2,12):=by unfold rdNum rd1;rw[ht,fF cn]
     refine gV1 cn ?_;refine(Y6 (e:=12) hs).mono ?_;rintro r ⟨Z2,rfl,X2,o2⟩;refine gV1 @Tryz.results131 ?_;refine⟨_,_,rfl,X2,?_,fun k0 m k' h=>by cases h;rw[e3];intro h;cases h⟩;unfold T3;rw[e3];exact⟨om,k,hs.K4 X2 o2 hk⟩
   | true=>
     have hsv:JI t=min (T6 t) 1000000001:=XD _ rfl (Hp cn).1;cases cr:(decide (1000000000<((JI t:Nat):Int))||decide (((JI t:Nat):Int)<(I3:Int)))with
     | true=>
       have e3:rdNum A1 I3 (fun _=>true) k= .error ((A9 A1 k).2,3):=by
        unfold rdNum rd1;rw[ht,bQ cn];simp only[IJ,IK]at cr;rw[Bool.and_eq_false_iff,Gz,Bool.not_eq_false',z3z];omega
       have:∀ X:Fr,True:=fun _=>trivial;cases cr1:decide (1000000000<((JI t:Nat):Int))
       case' true=>
        refine gV1 (aI cn cr1) ?_
       case' false=>
        rw[cr1,VD]at cr;refine gV1 (aI cn (aI cr1 cr)) ?_
       all_goals
        refine(Y6 (e:=3) hs).mono ?_;rintro r ⟨Z2,rfl,X2,o2⟩;refine gV1 @Tryz.results131 ?_;refine⟨_,_,rfl,X2,?_,fun k0 m k' h=>by cases h;rw[e3];intro h;cases h⟩;unfold T3;rw[e3];exact⟨om,k,hs.K4 X2 o2 hk⟩
     | false=>
       rw[SK]at cr;obtain⟨cr1,cr2⟩:=cr;have hv1:T6 t<=1000000000:=by have:=z9z cr1;omega
       have hv2:JI t=T6 t:=om;have e3:rdNum A1 I3 (fun _=>true) k= .ok (T6 t,k+1):=by
        unfold rdNum rd1;rw[ht,fG cn hv1 (by rw[Bool.not_eq_true',<- hv2];exact cr2)];rfl
       have LD:=hlt (Hp cn).2.2;refine gV1 (aI cn (aI cr1 (aI cr2 (aI rr (aI ro (aI e1 (a3N @G9 @H2 @Tryz.results131))))))) ?_;refine⟨_,_,rfl,eXX,?_,fun k0 m k' h=>by cases h;rw[e3];intro h;cases h;rw[hv2]⟩;unfold T3;rw[e3];exact⟨a,ha0,hs.K4 eXX (cL) LD⟩
def Wr (h:Rw Z b tv A1 C8 st) (C7:Ends A1) (hsh:u9 A1) :
  Ev (gO 129 [.pointer (some ⟨b,0,none⟩)] Z) (fun r=>∃ Z' w,r=⟨false,str w,Z'⟩/\B9 b Z Z'/\Rw Z' b tv A1 C8 (G2 st (BH A1))/\∀ k,st= .ok k->w=(A9 A1 k).1) ⟨⟩:=by
 refine D0 Tryz.func129 rfl rfl ?_;cases st with
 | error pe=>
   obtain⟨p,e⟩:=pe;obtain⟨he,k,hs⟩:=h;have rr:=A6 hs.row;have c0:decide (e=0)=false:=z4z he;refine gV ?_;refine(K5 hs).mono ?_;rintro r rfl;refine gV1 (aI rr c0) ?_;refine DT.mono ?_;rintro r rfl;rw[KH];refine gV1 (aI rr (aI c0 (a3N @G9 @H2 @Tryz.results129))) ?_;exact⟨_,_,rfl,.refl,⟨he,k,hs⟩,fun _ h=>by cases h⟩
 | ok k=>
   obtain⟨a,ha0,hs⟩:=h;have ro:=hs.row;have rr:=A6 ro;have hl:=hs.len;have hk:=hs.k;have ht0:=I9 hk;have htl:=hsh _ (W8 ht0);have e1:(k:Int)+1=((k+1:Nat):Int):=om;have hlt:(A9 A1 k).1≠[]->k+1<A1.length:=fun h=>C7 k _ ht0 h;rw[C1];refine gV ?_;refine(K5 hs).mono ?_;rintro r rfl;refine gV1 rr ?_;refine DT.mono ?_;rintro r rfl;rw[KH];cases cw:AL (A9 A1 k).1 with
   | false=>
     have e3:BZ A1 k= .error ((A9 A1 k).2,12):=by unfold BZ;rw[cw];rfl
     refine gV1 (aI rr cw) ?_;refine(Y6 (e:=12) hs).mono ?_;rintro r ⟨Z2,rfl,X2,o2⟩;have rr2:=A6 o2;have c12:decide ((12:Int)=0)=false:=rfl;refine gV1 (aI rr2 (aI c12 (a3N @G9 @H2 @Tryz.results129))) ?_;refine⟨_,_,rfl,X2,?_,fun k0 h=>by cases h;rfl⟩;unfold BH;rw[e3];exact⟨om,k,hs.K4 X2 o2 hk⟩
   | true=>
     have e3:BZ A1 k= .ok (A9 A1 k).1:=by unfold BZ;rw[cw];rfl
     have LD:=hlt (Mg cw);refine gV1 (aI rr (aI ro (aI cw (aI e1 (a3N @G9 @H2 @Tryz.results129))))) ?_;refine⟨_,_,rfl,eXX,?_,fun k0 h=>by cases h;rfl⟩;unfold BH;rw[e3];exact⟨a,ha0,hs.K4 eXX (cL) LD⟩
def eA {u w:By}(h:Rw Z b tv A1 C8 st) (C7:Ends A1) (hu:u≠[]) (hw:w≠[]) :
  Ev (gO 130 [.pointer (some ⟨b,0,none⟩),str u,str w] Z) (fun r=>∃ Z' x,r=⟨false,str x,Z'⟩/\B9 b Z Z'/\Rw Z' b tv A1 C8 (G2 st (Hr A1 [u,w]))/\∀ k,st= .ok k->x=(A9 A1 k).1) ⟨⟩:=by
 refine D0 Tryz.func130 rfl rfl ?_;cases st with
 | error pe=>
   obtain⟨p,e⟩:=pe;obtain⟨he,k,hs⟩:=h;have rr:=A6 hs.row;have c0:decide (e=0)=false:=z4z he;refine gV ?_;refine(K5 hs).mono ?_;rintro r rfl;refine gV1 (aI rr (aI c0 (a3N @G9 @H2 @Tryz.results130))) ?_;exact⟨_,_,rfl,.refl,⟨he,k,hs⟩,fun _ h=>by cases h⟩
 | ok k =>
   obtain⟨a,ha0,hs⟩:=h;have ro:=hs.row;have rr:=A6 ro;have hl:=hs.len;have hk:=hs.k;have ht0:=I9 hk;have e1:(k:Int)+1=((k+1:Nat):Int):=om;have hlt:(A9 A1 k).1≠[]->k+1<A1.length:=fun h=>C7 k _ ht0 h;have c12:decide ((12:Int)=0)=false:=rfl;rw[C1];refine gV ?_;refine(K5 hs).mono ?_;rintro r rfl;generalize ht:(A9 A1 k).1=t at hlt;have pY:decide (t=u)||decide (t=w)=true->Hr A1 [u,w] k= .ok (k+1)/\t≠[]:=by
    intro h;simp only[IJ,IK]at h;refine⟨?_,by rcases h with rfl|rfl<;>assumption⟩;unfold Hr Ct;rw[ht,z1z (by rcases h with rfl|rfl<;>simp)];rfl
   cases c1:decide (t=u)with
   | true=>
     obtain⟨g1,g2⟩:=pY (by rw[c1];rfl);have LD:=hlt g2;refine gV1 (aI rr (aI ro (aI c1 (aI e1 (a3N @G9 @H2 @Tryz.results130))))) ?_;exact⟨_,_,rfl,eXX,by rw[g1];exact⟨a,ha0,hs.K4 eXX (cL) LD⟩,fun k0 h=>by cases h;exact ht.symm⟩
   | false=>
     cases c2:decide (t=w)with
     | true=>
       obtain⟨g1,g2⟩:=pY (by simp[c2]);have LD:=hlt g2;refine gV1 (aI rr (aI ro (aI c1 (aI c2 (aI e1 (a3N @G9 @H2 @Tryz.results130)))))) ?_;exact⟨_,_,rfl,eXX,by rw[g1];exact⟨a,ha0,hs.K4 eXX (cL) LD⟩,fun k0 h=>by cases h;exact ht.symm⟩
     | false=>
       have e3:Hr A1 [u,w] k= .error ((A9 A1 k).2,12):=by
        unfold Hr Ct;rw[ht,z0z (by simp[z9z c1,z9z c2])];rfl
       refine gV1 (aI rr (aI ro (aI c1 (aI c2 e1)))) ?_;refine(Y6 (e:=12) hs).mono ?_;rintro r ⟨Z2,rfl,X2,o2⟩;have rr2:=A6 o2;refine gV1 (aI rr2 (aI c12 (a3N @G9 @H2 @Tryz.results130))) ?_;exact⟨_,_,rfl,X2,by rw[e3];exact⟨om,k,hs.K4 X2 o2 hk⟩,fun k0 h=>by cases h;exact ht.symm⟩
def KB {e:Int}(h:Rw Z b tv A1 C8 st) (he:e≠0) (h1:∀ k,st= .ok k->1<=k) :
  Ev (gO 166 [.pointer (some ⟨b,0,none⟩),.int .i64 e] Z) (fun r=>∃ Z',r=⟨false,.tuple ⟨[]⟩,Z'⟩/\B9 b Z Z'/\Rw Z' b tv A1 C8 (G2 st (LZ A1 e))) ⟨⟩:=by
 refine D0 Tryz.func166 rfl rfl ?_;cases st with
 | error pe=>
   obtain⟨p,e⟩:=pe;obtain⟨he,k,hs⟩:=h;have rr:=A6 hs.row;have c0:decide (e=0)=false:=z4z he;refine gV1 (aI rr (aI c0 (a3N @G9 @H2 @Tryz.results166))) ?_;exact⟨_,rfl,.refl,⟨he,k,hs⟩⟩
 | ok k=>
   obtain⟨a,ha0,hs⟩:=h;have ro:=hs.row;have rr:=A6 ro;have hl:=hs.len;have hk:=hs.k;have hk1:=h1 k rfl;have e1:(k:Int)-1=((k-1:Nat):Int):=om;rw[C1];obtain⟨S,hS⟩:=nm (Z.upd b (tv:: .int .i64 (k-1:Nat):: .int .i64 a:: .int .i64 0::C8));have X1:B9 b Z S:=by rw[<- hS];exact eXX
   have s1:Sc S b tv A1 (k-1) (.int .i64 a:: .int .i64 0::C8):=hs.K4 X1 (by rw[<- hS];exact cL) om;refine gV1 (aI rr (aI ro (aI e1 hS))) ?_
   try rw[hS]
   refine(Y6 (e:=e) s1).mono ?_;rintro r ⟨Z2,rfl,X2,o2⟩;refine gV1 @Tryz.results166 ?_;exact⟨_,rfl,X1.trans X2,he,k-1,s1.K4 X2 o2 om⟩
def pZ {k:Nat}{w:By}(h:Rw Z b tv A1 C8 (.ok k)) (C7:Ends A1) (hw:w≠[]) :
  Ev (gO 167 [.pointer (some ⟨b,0,none⟩),str w] Z) (fun r=>∃ Z',r=⟨false,.tuple ⟨[]⟩,Z'⟩/\B9 b Z Z'/\Rw Z' b tv A1 C8 (X7 A1 w k)) ⟨⟩:=by
 obtain⟨a,rfl,hs⟩:=h;refine(Hh hs C7 hw).mono ?_;rintro r ⟨Z',rfl,X,hm⟩;refine⟨Z',rfl,X,?_⟩;cases hR:X7 A1 w k with
 |ok k'=>rw[hR]at hm;exact⟨0,rfl,hs.K4 X hm.2 hm.1⟩
 |error pe=>obtain⟨p,e⟩:=pe;rw[hR]at hm;exact⟨hm.2,k,hs.K4 X hm.1 hs.k⟩
end
section
variable {k:Nat}{a e:Int}
def Hd3 (st:Except Er Nat) (k:Nat) (a e:Int):Prop:=match st with
 | .ok k'=>k'=k/\a=0/\e=0
 | .error (p,e')=>a=(p:Nat)/\e=e'/\e'≠0
def AL7 (st:Except Er Nat):Bool:=match st with
 | .ok _=>true
 | .error _=>false
def Hd3.dec {st:Except Er Nat}(h:Hd3 st k a e):decide (e=0)=AL7 st:=by
 cases st with
 |ok k'=>obtain⟨-,-,rfl⟩:=h;rfl
 |error pe=>obtain⟨-,rfl,h⟩:=h;exact z4z h
def Hn (T:Tn) (vs:List Value) (seen:List By) (i:Nat):List (List Value):=match i with
 |0=>T.G8.map Lot.row
 |1=>T.D2.map AB.row
 |2=>T.reqs.map Req.row
 |3=>T.F5.map fun s=>[str s]
 |4=>vs.map fun x=>[x]
 |_=>seen.map fun s=>[str s]
def CT (b:Nat) (v:Nat->Value):List Nat:=List.range b++b::(JG (v 0)++JG (v 1)++JG (v 2)++JG (v 3)++JG (v 4)++JG (v 5))
def l8 {b:Nat}{v:Nat->Value}{c:Nat}:c∈CT b v↔c=b\/(∃ i,i<6/\I2 (v i)=some c)\/c<b:=by
 unfold CT;simp only[BJ,DK,YE,ZU];constructor
 ·rintro(h|h|(((((h|h)|h)|h)|h)|h))
  ·exact .inr (.inr h)
  ·exact .inl h
  ·exact .inr (.inl ⟨0,om,h⟩)
  ·exact .inr (.inl ⟨1,om,h⟩)
  ·exact .inr (.inl ⟨2,om,h⟩)
  ·exact .inr (.inl ⟨3,om,h⟩)
  ·exact .inr (.inl ⟨4,om,h⟩)
  ·exact .inr (.inl ⟨5,om,h⟩)
 ·rintro(h|⟨i,hi,h⟩|h)
  ·exact .inr (.inl h)
  ·refine .inr (.inr ?_)
   match i,hi,h with
   |0,_,h=>exact .inl (.inl (.inl (.inl (.inl h))))
   |1,_,h=>exact .inl (.inl (.inl (.inl (.inr h))))
   |2,_,h=>exact .inl (.inl (.inl (.inr h)))
   |3,_,h=>exact .inl (.inl (.inr h))
   |4,_,h=>exact .inl (.inr h)
   |5,_,h=>exact .inr h
  ·exact .inl h
def o9 (s:By) (T:Tn) (v:Nat->Value) (fc:List Value):List Value:=str s::(tnR T v fc++[v 5])
structure Rn (Z0 Z:St) (b:Nat) (T:Tn) (seen:List By) (s:By) (tv:Value) (A1:List Tok) (st:Except Er Nat) (v:Nat->Value) (fc vs:List Value):Prop where
 ext:B9 b Z0 Z
 btl:b<Z0.n
 sc:∃ (k:Nat) (a e:Int),Hd3 st k a e/\Sc Z b tv A1 k (.int .i64 a:: .int .i64 e::o9 s T v fc)
 sl:∀ i,i<6->OL Z0.n Z (szT i) (v i) (Hn T vs seen i)
 dis:∀ i j c,i<6->j<6->i≠j->I2 (v i)=some c->I2 (v j)≠some c
 fx:Ag (J5 Z (CT b v)) fc T.f
 iv:FP (Fk (J5 Z (CT b v))) vs T.D6
 tk:∀ c,I2 tv=some c->∀ i,i<6->I2 (v i)≠some c
section
variable {Z0 Z Z':St}{b:Nat}{T T':Tn}{seen seen':List By}{s:By}{tv:Value}{A1:List Tok}{st st':Except Er Nat}{v:Nat->Value}{fc fc' vs vs':List Value}{C8:List Value}
def Rw.hd (h:Rw Z b tv A1 C8 st):∃ (k:Nat) (a e:Int),Hd3 st k a e/\Sc Z b tv A1 k (.int .i64 a:: .int .i64 e::C8):=by
 cases st with
 |ok k=>obtain⟨a,h0,h⟩:=h;exact⟨k,a,0,⟨rfl,h0,rfl⟩,h⟩
 |error pe=>obtain⟨he,k,h⟩:=h;exact⟨k,_,_,⟨rfl,rfl,he⟩,h⟩
def Hd3.rw (hh:Hd3 st k a e) (h:Sc Z b tv A1 k (.int .i64 a:: .int .i64 e::C8)):Rw Z b tv A1 C8 st:=by
 cases st with
 |ok k'=>obtain⟨rfl,h0,rfl⟩:=hh;exact⟨a,h0,h⟩
 |error pe=>obtain⟨p,e'⟩:=pe;obtain⟨rfl,rfl,he⟩:=hh;exact⟨he,k,h⟩
def Rn.rw (h:Rn Z0 Z b T seen s tv A1 st v fc vs):Rw Z b tv A1 (o9 s T v fc) st:=by
 obtain⟨k,a,e,h1,h2⟩:=h.sc;exact h1.rw h2
def Rn.step (h:Rn Z0 Z b T seen s tv A1 st v fc vs) (hE:B9 b Z Z') (hw:Rw Z' b tv A1 (o9 s T v fc) st'):Rn Z0 Z' b T seen s tv A1 st' v fc vs:=by
 have GF:ET (J5 Z (CT b v)) (J5 Z' (CT b v)):=K0 hE.n fun c hc hm=>⟨hm,hE.row hc fun e=>hm (l8.2 (.inl e))⟩
 refine⟨⟨X0 h.ext.n hE.n,fun c hc hne=>?_⟩,h.btl,hw.hd,fun i hi=>?_,h.dis,h.fx.J3 GF,h.iv.mono fun _ _ hx=>SL.J3 hx GF,h.tk⟩
 ·rw[hE.same c (z5z hc h.ext.n) hne,h.ext.same c hc hne]
 ·refine(h.sl i hi).J3 hE.n fun c hc=>hE.same c ((h.sl i hi).blk hc).2 fun e=>?_;have:=((h.sl i hi).blk hc).1;have:=h.btl;omega
def Rn.J0 (h:Rn Z0 Z b T seen s tv A1 st v fc vs) (hE:Ext Z Z'):Rn Z0 Z' b T seen s tv A1 st v fc vs:=h.step (.of hE) (h.rw.ext hE)
def TZ {cs:List Value}:ET (J5 Z (CT b v)) (J5 (Z.upd b cs) (CT b v)) :=
 K0 nL fun c _ hm=>⟨hm,M1 fun e=>hm (l8.2 (.inl e))⟩
def Sc.put {rest':List Value}(h:Sc Z b tv A1 k C8):Sc (Z.upd b (tv:: .int .i64 (k:Nat)::rest')) b tv A1 k rest' :=
 h.K4 (B9.refl.upd _) D5 h.k
def Rn.put (h:Rn Z0 Z b T seen s tv A1 st v fc vs) (hh:Hd3 st k a e) (hs:Sc Z b tv A1 k (.int .i64 a:: .int .i64 e::o9 s T v fc)) (T':Tn) (h1:∀ i,Hn T' vs seen i=Hn T vs seen i) (h2:T'.f=T.f) (h3:T'.D6=T.D6):
  Rn Z0 (Z.upd b (tv:: .int .i64 (k:Nat):: .int .i64 a:: .int .i64 e::o9 s T' v fc)) b T' seen s tv A1 st v fc vs :=
 ⟨h.ext.upd _,h.btl,⟨k,a,e,hh,hs.put⟩,fun i hi=>by rw[h1];exact OL.Fz (h.sl i hi) h.btl,h.dis,by rw[h2];exact h.fx.J3 TZ,by rw[h3];exact h.iv.mono fun _ _ hx=>SL.J3 hx TZ,h.tk⟩
def Rn.app {k:Nat}{a e:Int}(h:Rn Z0 Z b T seen s tv A1 st v fc vs) (hh:Hd3 st k a e) (hs:Sc Z b tv A1 k (.int .i64 a:: .int .i64 e::o9 s T v fc)){i:Nat}(hi:i<6){w:Value}(ha:App Z Z' (v i) w) (ho:OL Z0.n Z' (szT i) w (Hn T' vs' seen' i))
  (hr:∀ j,j<6->j≠i->Hn T' vs' seen' j=Hn T vs seen j) (hf:T'.f=T.f) (hv:FP (Fk (J5 Z (CT b v))) vs' T'.D6) :
  Rn Z0 (Z'.upd b (tv:: .int .i64 (k:Nat):: .int .i64 a:: .int .i64 e::o9 s T' (vup v i w) fc)) b T' seen' s tv A1 st (vup v i w) fc vs':=by
 have hbt:b<Z.n:=z5z h.btl h.ext.n;have hi':=h.sl i hi;have FT:∀ c,I2 w=some c->Z.n<=c:=fun c hc=>(ha.new c hc).1;have GF:ET (J5 Z (CT b v)) (J5 (Z'.upd b (tv:: .int .i64 (k:Nat):: .int .i64 a:: .int .i64 e::o9 s T' (vup v i w) fc)) (CT b (vup v i w))):=by
  refine K0 ha.n fun c hc hm=>⟨fun hm'=>?_,?_⟩
  ·rcases l8.1 hm' with e|⟨j,hj,e⟩|e
   ·exact hm (l8.2 (.inl e))
   ·by_cases hji:j=i
    ·subst hji;rw[CY]at e;have:=FT c e;omega
    ·rw[FC hji]at e;exact hm (l8.2 (.inr (.inl ⟨j,hj,e⟩)))
   ·exact hm (l8.2 (.inr (.inr e)))
  ·rw[M1 fun e=>hm (l8.2 (.inl e))];exact T5 (ha.same c hc fun e=>hm (l8.2 (.inr (.inl ⟨i,hi,e⟩))))
 have hbi:I2 (v i)≠some b:=fun e=>by have:=(hi'.blk e).1;have:=h.btl;omega
 have hsc:Sc Z' b tv A1 k (.int .i64 a:: .int .i64 e::o9 s T v fc):=by
  refine⟨by rw[B8 (ha.same b hs.lt hbi)];exact hs.row,z5z hs.lt ha.n,?_,hs.ne,hs.k,hs.len⟩;rcases hs.sl with hs'|⟨c,off,sp,cc,cells,rfl,h2,h3,h4⟩
  ·exact .inl hs'
  ·exact .inr ⟨c,off,sp,cc,cells,rfl,z5z h2 ha.n,by rw[T5 (ha.same c h2 (h.tk c rfl i hi))];exact h3,h4⟩
 refine⟨⟨X0 h.ext.n ha.n,fun c hc hne=>?_⟩,h.btl,⟨k,a,e,hh,hsc.put⟩,fun j hj=>?_,?_,by rw[hf];exact h.fx.J3 GF,hv.mono fun _ _ hx=>SL.J3 hx GF,fun c hc j hj=>?_⟩
 ·rw[Bt,z0z hne,ha.same c (z5z hc h.ext.n) (fun e=>by have:=(hi'.blk e).1;omega),h.ext.same c hc hne]
 ·refine OL.Fz ?_ h.btl;by_cases hji:j=i
  ·subst hji;rw[CY];exact ho
  ·rw[FC hji,hr j hj hji];exact(h.sl j hj).J3 ha.n fun c hc=>ha.same c ((h.sl j hj).blk hc).2 fun e=>h.dis i j c hi hj (fun e=>hji e.symm) e hc
 ·intro p q c ha' hb' hab e;by_cases hai:p=i
  ·subst hai;rw[CY]at e;rw[FC (fun e=>hab e.symm)];intro e';have:=FT c e;have:=((h.sl q hb').blk e').2;omega
  ·rw[FC hai]at e;by_cases hbi:q=i
   ·subst hbi;rw[CY];intro e';have:=FT c e';have:=((h.sl p ha').blk e).2;omega
   ·rw[FC hbi];exact h.dis p q c ha' hb' hab e
 ·by_cases hji:j=i
  ·subst hji;rw[CY];intro e;have:=FT c e;rcases hs.sl with hs'|⟨b',off,sp,cc,cells,rfl,h2,-⟩
   ·rw[hs'.1]at hc;cases hc
   ·cases hc;omega
  ·rw[FC hji];exact h.tk c hc j hj
def RnP (Z0:St) (b:Nat) (seen:List By) (s:By) (tv:Value) (A1:List Tok) (R:Except Er (Tn×Nat)) (r:CR):Prop:=∃ Z' T' st' v' fc' vs',r=⟨false,.tuple ⟨[]⟩,Z'⟩/\Rn Z0 Z' b T' seen s tv A1 st' v' fc' vs'/\match R with
 | .ok (T2,k')=>T'=T2/\st'= .ok k'
 | .error x=>st'= .error x
end
end
section
variable {n:Int}{p:Option Addr}{m:Nat}
section
variable {x0 x1 x2 x3 x4 x5 x6 x7 x8 x9 x10 x11 x12 x13 x14 x15 x16 x17 x18 x19 x20 x21 x22 x23 x24 x25:Value}
def IZ {n:Nat}:I7 [x0,x1,x2,x3,x4,x5,x6,x7,x8,x9,x10,x11,x12,x13,x14,x15,x16,x17,x18,x19,x20,x21,x22,x23,x24,x25] 0 (G6 (.slice p n m))=some [(.slice p n m),x1,x2,x3,x4,x5,x6,x7,x8,x9,x10,x11,x12,x13,x14,x15,x16,x17,x18,x19,x20,x21,x22,x23,x24,x25]:=rfl
def Ia {n:Nat}:I7 [x0,x1,x2,x3,x4,x5,x6,x7,x8,x9,x10,x11,x12,x13,x14,x15,x16,x17,x18,x19,x20,x21,x22,x23,x24,x25] 6 (G6 (.slice p n m))=some [x0,x1,x2,x3,x4,x5,(.slice p n m),x7,x8,x9,x10,x11,x12,x13,x14,x15,x16,x17,x18,x19,x20,x21,x22,x23,x24,x25]:=rfl
def Ib {n:Nat}:I7 [x0,x1,x2,x3,x4,x5,x6,x7,x8,x9,x10,x11,x12,x13,x14,x15,x16,x17,x18,x19,x20,x21,x22,x23,x24,x25] 7 (G6 (.slice p n m))=some [x0,x1,x2,x3,x4,x5,x6,(.slice p n m),x8,x9,x10,x11,x12,x13,x14,x15,x16,x17,x18,x19,x20,x21,x22,x23,x24,x25]:=rfl
def Ic {n:Nat}:I7 [x0,x1,x2,x3,x4,x5,x6,x7,x8,x9,x10,x11,x12,x13,x14,x15,x16,x17,x18,x19,x20,x21,x22,x23,x24,x25] 8 (G6 (.slice p n m))=some [x0,x1,x2,x3,x4,x5,x6,x7,(.slice p n m),x9,x10,x11,x12,x13,x14,x15,x16,x17,x18,x19,x20,x21,x22,x23,x24,x25]:=rfl
def Dt {n:Nat}:I7 [x0,x1,x2,x3,x4,x5,x6,x7,x8,x9,x10,x11,x12,x13,x14,x15,x16,x17,x18,x19,x20,x21,x22,x23,x24,x25] 16 (G6 (.slice p n m))=some [x0,x1,x2,x3,x4,x5,x6,x7,x8,x9,x10,x11,x12,x13,x14,x15,(.slice p n m),x17,x18,x19,x20,x21,x22,x23,x24,x25]:=rfl
def Du {n:Nat}:I7 [x0,x1,x2,x3,x4,x5,x6,x7,x8,x9,x10,x11,x12,x13,x14,x15,x16,x17,x18,x19,x20,x21,x22,x23,x24,x25] 18 (G6 (.slice p n m))=some [x0,x1,x2,x3,x4,x5,x6,x7,x8,x9,x10,x11,x12,x13,x14,x15,x16,x17,(.slice p n m),x19,x20,x21,x22,x23,x24,x25]:=rfl
def Dv {n:Nat}:I7 [x0,x1,x2,x3,x4,x5,x6,x7,x8,x9,x10,x11,x12,x13,x14,x15,x16,x17,x18,x19,x20,x21,x22,x23,x24,x25] 25 (G6 (.slice p n m))=some [x0,x1,x2,x3,x4,x5,x6,x7,x8,x9,x10,x11,x12,x13,x14,x15,x16,x17,x18,x19,x20,x21,x22,x23,x24,(.slice p n m)]:=rfl
def Ie:I7 [x0,x1,x2,x3,x4,x5,x6,x7,x8,x9,x10,x11,x12,x13,x14,x15,x16,x17,x18,x19,x20,x21,x22,x23,x24,x25] 1 (G6 (.int .i64 n))=some [x0,(.int .i64 n),x2,x3,x4,x5,x6,x7,x8,x9,x10,x11,x12,x13,x14,x15,x16,x17,x18,x19,x20,x21,x22,x23,x24,x25]:=rfl
def Ig:I7 [x0,x1,x2,x3,x4,x5,x6,x7,x8,x9,x10,x11,x12,x13,x14,x15,x16,x17,x18,x19,x20,x21,x22,x23,x24,x25] 2 (G6 (.int .i64 n))=some [x0,x1,(.int .i64 n),x3,x4,x5,x6,x7,x8,x9,x10,x11,x12,x13,x14,x15,x16,x17,x18,x19,x20,x21,x22,x23,x24,x25]:=rfl
def Ih:I7 [x0,x1,x2,x3,x4,x5,x6,x7,x8,x9,x10,x11,x12,x13,x14,x15,x16,x17,x18,x19,x20,x21,x22,x23,x24,x25] 3 (G6 (.int .i64 n))=some [x0,x1,x2,(.int .i64 n),x4,x5,x6,x7,x8,x9,x10,x11,x12,x13,x14,x15,x16,x17,x18,x19,x20,x21,x22,x23,x24,x25]:=rfl
def Ii:I7 [x0,x1,x2,x3,x4,x5,x6,x7,x8,x9,x10,x11,x12,x13,x14,x15,x16,x17,x18,x19,x20,x21,x22,x23,x24,x25] 9 (G6 (.int .i64 n))=some [x0,x1,x2,x3,x4,x5,x6,x7,x8,(.int .i64 n),x10,x11,x12,x13,x14,x15,x16,x17,x18,x19,x20,x21,x22,x23,x24,x25]:=rfl
def Dw:I7 [x0,x1,x2,x3,x4,x5,x6,x7,x8,x9,x10,x11,x12,x13,x14,x15,x16,x17,x18,x19,x20,x21,x22,x23,x24,x25] 10 (G6 (.int .i64 n))=some [x0,x1,x2,x3,x4,x5,x6,x7,x8,x9,(.int .i64 n),x11,x12,x13,x14,x15,x16,x17,x18,x19,x20,x21,x22,x23,x24,x25]:=rfl
def Dx:I7 [x0,x1,x2,x3,x4,x5,x6,x7,x8,x9,x10,x11,x12,x13,x14,x15,x16,x17,x18,x19,x20,x21,x22,x23,x24,x25] 17 (G6 (.int .i64 n))=some [x0,x1,x2,x3,x4,x5,x6,x7,x8,x9,x10,x11,x12,x13,x14,x15,x16,(.int .i64 n),x18,x19,x20,x21,x22,x23,x24,x25]:=rfl
def Dy:I7 [x0,x1,x2,x3,x4,x5,x6,x7,x8,x9,x10,x11,x12,x13,x14,x15,x16,x17,x18,x19,x20,x21,x22,x23,x24,x25] 19 (G6 (.int .i64 n))=some [x0,x1,x2,x3,x4,x5,x6,x7,x8,x9,x10,x11,x12,x13,x14,x15,x16,x17,x18,(.int .i64 n),x20,x21,x22,x23,x24,x25]:=rfl
def Dz:I7 [x0,x1,x2,x3,x4,x5,x6,x7,x8,x9,x10,x11,x12,x13,x14,x15,x16,x17,x18,x19,x20,x21,x22,x23,x24,x25] 20 (G6 (.int .i64 n))=some [x0,x1,x2,x3,x4,x5,x6,x7,x8,x9,x10,x11,x12,x13,x14,x15,x16,x17,x18,x19,(.int .i64 n),x21,x22,x23,x24,x25]:=rfl
def EA:I7 [x0,x1,x2,x3,x4,x5,x6,x7,x8,x9,x10,x11,x12,x13,x14,x15,x16,x17,x18,x19,x20,x21,x22,x23,x24,x25] 21 (G6 (.int .i64 n))=some [x0,x1,x2,x3,x4,x5,x6,x7,x8,x9,x10,x11,x12,x13,x14,x15,x16,x17,x18,x19,x20,(.int .i64 n),x22,x23,x24,x25]:=rfl
def EB:I7 [x0,x1,x2,x3,x4,x5,x6,x7,x8,x9,x10,x11,x12,x13,x14,x15,x16,x17,x18,x19,x20,x21,x22,x23,x24,x25] 22 (G6 (.int .i64 n))=some [x0,x1,x2,x3,x4,x5,x6,x7,x8,x9,x10,x11,x12,x13,x14,x15,x16,x17,x18,x19,x20,x21,(.int .i64 n),x23,x24,x25]:=rfl
def EC:I7 [x0,x1,x2,x3,x4,x5,x6,x7,x8,x9,x10,x11,x12,x13,x14,x15,x16,x17,x18,x19,x20,x21,x22,x23,x24,x25] 23 (G6 (.int .i64 n))=some [x0,x1,x2,x3,x4,x5,x6,x7,x8,x9,x10,x11,x12,x13,x14,x15,x16,x17,x18,x19,x20,x21,x22,(.int .i64 n),x24,x25]:=rfl
def ED:I7 [x0,x1,x2,x3,x4,x5,x6,x7,x8,x9,x10,x11,x12,x13,x14,x15,x16,x17,x18,x19,x20,x21,x22,x23,x24,x25] 24 (G6 (.int .i64 n))=some [x0,x1,x2,x3,x4,x5,x6,x7,x8,x9,x10,x11,x12,x13,x14,x15,x16,x17,x18,x19,x20,x21,x22,x23,(.int .i64 n),x25]:=rfl
def Ij {s:By}:I7 [x0,x1,x2,x3,x4,x5,x6,x7,x8,x9,x10,x11,x12,x13,x14,x15,x16,x17,x18,x19,x20,x21,x22,x23,x24,x25] 5 (G6 (str s))=some [x0,x1,x2,x3,x4,(str s),x6,x7,x8,x9,x10,x11,x12,x13,x14,x15,x16,x17,x18,x19,x20,x21,x22,x23,x24,x25]:=rfl
def EE {y1 y2 y3 y4 y5:Value}:I7 [x0,x1,x2,x3,x4,x5,x6,x7,x8,x9,x10,x11,x12,x13,x14,x15,x16,x17,x18,x19,x20,x21,x22,x23,x24,x25] 11 (G6 (.agg ⟨[y1,y2,y3,y4,y5]⟩))=some [x0,x1,x2,x3,x4,x5,x6,x7,x8,x9,x10,y1,y2,y3,y4,y5,x16,x17,x18,x19,x20,x21,x22,x23,x24,x25]:=rfl
end
end
set_option linter.defProp false
def bXd:=aI (aI (aI (aI @IZ @Ia) (a3N @Ib @Ic @Dt)) (aI (aI @Du @Dv) (a3N @Ie @Ig @Ih))) (aI (aI (aI @Ii @Dw) (a3N @Dx @Dy @Dz)) (aI (a3N @EA @EB @EC) (a3N @ED @Ij @EE)))
def bXn:=a3N @bVn @WQ @Tryz.underlying86
def gX {p q:Prop}(x:q) (h:p=q:=by simp(maxSteps:=8000000) (disch:=first|exact dS|fail) only[↓bD,bXn,↓bVd,↓bXd,Nat.reduceMul,Nat.reduceEqDiff,Nat.reduceAdd,Nat.reduceBEq,reduceIte,Option.isNone_none,G9,H2];exact rfl):p:=Eq.mpr h x
def gX1 {e p q:Prop}(z:e) (x:q) (h:e->p=q:=by intro zz;simp(maxSteps:=8000000) (disch:=first|exact dS|fail) only[↓bD,bXn,↓bVd,↓bXd,Nat.reduceMul,Nat.reduceEqDiff,Nat.reduceAdd,Nat.reduceBEq,reduceIte,Option.isNone_none,G9,H2,zz];exact rfl):p:=Eq.mpr (h z) x
end Go.Proofs.T
