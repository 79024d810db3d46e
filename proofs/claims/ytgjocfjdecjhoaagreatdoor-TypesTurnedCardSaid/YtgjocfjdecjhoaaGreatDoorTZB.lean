/- types: Range and Unit. -/
import Derived.Test.YtgjocfjdecjhoaaGreatDoorTVB
import Derived.Test.YtgjocfjdecjhoaaGreatDoorTVC
set_option linter.unusedSimpArgs false
set_option linter.unusedVariables false
set_option linter.defProp false
set_option maxHeartbeats 32000000
set_option maxRecDepth 100000
namespace Go.Proofs.T
open Go Go.Ab Go.V6
section
variable {Z:St}{e:Ex}{ca row:List Value}{T:Tn}{b:Option Nat}{w pt:Nat}
def AB4:Di (.map b)=false:=rfl
def mL:J6 (.map b)=[.map b]:=rfl
def UE (hw:WfE w e) (hw4:w<=4) (he:P6 Z row e) (hp:Z.read 0 0 20=some AE) (h1:0<Z.n):
  Ev (gO 33 [.agg ⟨row⟩] Z) (fun r=>∃ Z',r=⟨false,.bool (AD e),Z'⟩/\Ext Z Z') ⟨⟩:=by
 have hlen:=he.len;have hfr:sub row 0 5=some row:=C8 om om;refine C9 Tryz.func33 rfl rfl ?_;refine gS1 hfr ?_;have E1:Ext Z (Z.new row):=eX;refine(mB hw hw4 (he.mono E1) (Cd E1 h1 hp) (by simp)).mono ?_;rintro r ⟨Z2,rfl,hE2⟩;have key:decide ((if AD e=true then J8 12 0 e else[])=([]:By))= !AD e:=by
  cases hr:AD e with
  |false=>rfl
  | true=>
    rw[z1z rfl];exact z4z (lE (Hl hr).1 (Hl hr).2.1 (Hl hr).2.2).2.1
 refine gS1 (aI key @Tryz.results33) ?_;exact⟨_,by rw[Bool.not_not],E1.trans hE2⟩
def Yi (h:AD e=true):SG e/\AB e<=12:=by
 unfold AD at h;simp only[Q7,Dn]at h;exact⟨⟨h.1.1,h.1.2⟩,h.2⟩
def uh {pm b c:Nat}(hB:BdT T) (hT:HW Z ca T) (hc:T.G9.length<=1000) (h1:pt<Z.n) (h2:Z.A7 pt=some ca) (h3:pm<Z.n) (h4:Z.A7 pm=some [.map (some b)]) (hO:Um Z b c):
  FF4 Z (Y1 T) 38 40 [Bf pt] [Bf pm] where
 leaf:=fun{τ op nm n d a c} hE hs=>by
  rw[Ct];exact ss ⟨Jj,Nt⟩ (hT.mono hE) hc (z5z h1 hE.n) (by rw[hE.A7 h1];exact h2)
 node:=fun{τ op a b x y} hE ho hs ha hb=>by
  rw[Ba,ha,hb];exact uD ho (SM hB (hs.at (k:=0) rfl) ha) (SM hB (hs.at (k:=1) rfl) hb) (z5z h3 hE.n) (by rw[hE.A7 h3];exact h4) (hO.ext hE)
 err:=aA
 nz:=fun hs h=>Zz hs h
def xK (hT:HW Z ca T) (hc:T.G9.length<=1000) (h1:pt<Z.n) (h2:Z.A7 pt=some ca):
  FF2 Z (Am T) 76 77 [Bf pt] [] where
 leaf:=fun{τ op nm n d a c} hE hs=>by
  rw[De];exact uW ⟨Jj,Nt⟩ (hT.mono hE) hc (z5z h1 hE.n) (by rw[hE.A7 h1];exact h2)
 node:=fun{τ op a b x y} hE ho hs ha hb=>by
  rw[DB,ha,hb];have sa:=hs.at (k:=0) rfl;have sb:=hs.at (k:=1) rfl;have ba:=RR sa ha;have bb:=RR sb hb;have pa:=sa.2;have pb:=sb.2;exact ew ⟨om,om⟩ ⟨om,om⟩
 err:=eQ
 nz:=fun hs h=>Lp hs h
def Zl (p:QQ×Int):Value:= .tuple ⟨[qv p.1.1,qv p.1.2,.int .i64 p.2]⟩
def KX (hB:BdT T) (hT:HW Z ca T) (hc:T.G9.length<=1000) (hw:WfE w e) (hw4:w<=4) (he:P6 Z row e) (hp:Z.read 0 0 20=some AE) (h1:0<Z.n):
  Ev (gO 12 [.agg ⟨ca⟩,.agg ⟨row⟩] Z) (fun r=>∃ Z',r=⟨false,Zl (DP T e),Z'⟩/\Ext Z Z') ⟨⟩:=by
 have hlen:=he.len;have hfr:sub row 0 5=some row:=C8 om om;have Ai5:=hT.len;have hfa:sub ca 0 20=some ca:=C8 om om;refine C9 Tryz.func12 rfl rfl ?_;refine gS1 (aI hfr hfa) ?_;obtain⟨S1,hS1⟩:=nm (((((Z.new ca).new row).new [.int .i64 0,.int .i64 0] (some 29)).new [.int .i64 0,.int .i64 0] (some 29)));have E1:Ext Z S1:=by rw[<- hS1];exact eX
 have n1:S1.n=Z.n+4:=by rw[<- hS1];rfl
 have t1:S1.A7 Z.n=some ca:=by rw[<- hS1];exact cL
 have t2:S1.A7 (Z.n+1)=some row:=by rw[<- hS1];exact cL
 have t3:S1.A7 (Z.n+2)=some [.int .i64 0,.int .i64 0]:=by rw[<- hS1];exact cL
 have t4:S1.A7 (Z.n+3)=some [.int .i64 0,.int .i64 0]:=by rw[<- hS1];exact cL
 rw[hS1];refine(UE hw hw4 (he.mono E1) (Cd E1 h1 hp) om).mono ?_;rintro r ⟨Z2,rfl,hE2⟩;have k2:=hE2.n;have E2:=E1.trans hE2;have t1:=eT (hE2.A7 om) t1;have t2:=eT (hE2.A7 om) t2;have t3:=eT (hE2.A7 om) t3;have t4:=eT (hE2.A7 om) t4;have t1r:=A9 t1;have t2r:=A9 t2;have t3r:=A9 t3;have t4r:=A9 t4;unfold DP;cases hr:AD e with
 | false=>
   rw[z0z (by decide)];unfold Zl qv P7;refine gS1 (aI t3r (aI t4r (aI t3 t4))) ?_;refine Ca.intro (by(repeat first|simp(disch:=omega) only[M9,G3,G8]|rw[V8 (by kernel_rfl)]);rfl) ?_;refine gS1 (aI t3r (aI t4r (aI t3 (aI t4 @Tryz.results12)))) ?_;exact⟨_,rfl,(E2.upd om _).upd om _⟩
 | true=>
   rw[z1z rfl];refine gS1 (aI t1r (aI t2r (aI t3r t4r))) ?_;refine VQ.mono ?_;rintro r ⟨b,c,Z3,rfl,hE3,hb,hcn,hM,o1,o2,o3⟩;have k3:=hE3.n;have E3:=E2.trans hE3;have O3:Um Z3 b c:=⟨hb,hcn,hM,o1,o2,o3⟩
   have u1:=eT (hE3.A7 om) t1;have u2:=eT (hE3.A7 om) t2;have u3:=eT (hE3.A7 om) t3;have u4:=eT (hE3.A7 om) t4;have u2r:=A9 u2;refine gS1 (aI u2r (aI hfr (aI @AB4 @mL))) ?_;obtain⟨S4,hS4⟩:=nm (((Z3.new [.map none] (some 85)).upd Z3.n [.map (some b)]));have E34:Ext Z3 S4:=by rw[<- hS4];exact eX
   have n4:S4.n=Z3.n+1:=by rw[<- hS4];rfl
   have m4:S4.A7 Z3.n=some [.map (some b)]:=by rw[<- hS4];exact cL
   have E4:=E3.trans E34;rw[hS4];obtain⟨hsg,hdp⟩:=Yi hr;refine(uT (uh (pt:=Z.n) (pm:=Z3.n) (b:=b) (c:=c) hB (hT.mono E4) hc om (by rw[E34.A7 om];exact u1) om m4 (O3.ext E34)) hsg om (he.mono E4)).mono ?_;rintro r ⟨Z5,rfl,hE5⟩;have k5:=hE5.n;have E45:=E34.trans hE5;have E5:=E4.trans hE5;have v3:=eT (E45.A7 om) u3;have v4:=eT (E45.A7 om) u4;cases hv:Y1 T e
   case' error k=>
    unfold Ad j9 Zl qv P7
   case' ok x=>
    unfold Ad O8 Zl qv P7
   all_goals
    refine gS1 (aI v3 v4) ?_;refine Ca.intro (by(repeat first|simp(disch:=omega) only[M9,G3,G8]|rw[V8 (by kernel_rfl)]);rfl) ?_;refine gS1 (aI v3 (aI v4 @Tryz.results12)) ?_;exact⟨_,rfl,(((E5.W6 _).upd om _).upd om _).upd om _⟩
end
section
variable {Z:St}{n:Int}{e:Ex}{ca row:List Value}{T:Tn}
def xJ (h1: -9223372036854775808<=n) (h2:n<=9223372036854775807) (hp:Z.read 0 0 20=some AE):go Tryz.prog HS (.fn 35) [.int .i64 n] Z=some ⟨false,str (Lib.itoa n),Z⟩:=by
 have e:go Tryz.prog HS (.fn 35) [.int .i64 n] Z=bb (CJ (Z.read 0 0 20) (some AE)) (bb (decide (-9223372036854775808<=n/\n<=9223372036854775807)) (some ⟨false,.string ⟨(Lib.itoa n).toArray⟩,Z⟩)):=rfl;rw[e,hp,Nr,Ax,Be ⟨h1,h2⟩,Ax];rfl
def Yg {u:Nat}(h:u<100):Lib.nDigits u<=2:=by
 by_cases h1:u<10
 ·rw[Lib.nDigits_small h1];omega
 ·rw[Lib.nDigits,dif_neg h1,Lib.nDigits_small om];omega
def cZ (h1: -100<n) (h2:n<100):(Lib.itoa n).length<=3:=by
 unfold Lib.itoa;split
 ·rw[CE,Lib.decDigits_length];have:=Yg (u:=n.natAbs) om;omega
 ·rw[Lib.decDigits_length];have:=Yg (u:=n.toNat) om;omega
def GG (p:Int×Int):By×Int:=if p.2≠0 then([],p.2)else if p.1=0 then([],0)else if p.1=1 then(pL,0)else([109,111,110,101,121,94]++Lib.itoa p.1,0)
def AO3 (p:By×Int):Value:= .tuple ⟨[str p.1,.int .i64 p.2]⟩
def jx (hT:HW Z ca T) (hc:T.G9.length<=1000) (he:P6 Z row e) (hsg:SG e) (hd:AB e<=12):
  Ev (gO 34 [.agg ⟨ca⟩,.agg ⟨row⟩] Z) (fun r=>∃ Z',r=⟨false,Et (Am T e),Z'⟩/\Ext Z Z') ⟨⟩:=by
 have hlen:=he.len;have hfr:sub row 0 5=some row:=C8 om om;have Ai5:=hT.len;have hfa:sub ca 0 20=some ca:=C8 om om;refine C9 Tryz.func34 rfl rfl ?_;refine gS1 (aI hfr hfa) ?_;obtain⟨S1,hS1⟩:=nm ((((Z.new ca).new row).new [.int .i64 0,.bool false] (some 81)));have E1:Ext Z S1:=by rw[<- hS1];exact eX
 have n1:S1.n=Z.n+3:=by rw[<- hS1];rfl
 have t1:S1.A7 Z.n=some ca:=by rw[<- hS1];exact cL
 have t3:S1.A7 (Z.n+2)=some [.int .i64 0,.bool false]:=by rw[<- hS1];exact cL
 rw[hS1];refine(pM (xK (pt:=Z.n) (hT.mono E1) hc om t1) hsg om (he.mono E1)).mono ?_;rintro r ⟨Z2,rfl,hE2⟩;have k2:=hE2.n;have t3:=eT (hE2.A7 om) t3;have E2:=E1.trans hE2;cases hv:Am T e with
 | error k=>
   unfold Et EJ;refine gS1 (aI t3 @Tryz.results34) ?_;exact⟨_,rfl,E2.upd om _⟩
 | ok x=>
   unfold Et Aq;refine gS1 (aI t3 @Tryz.results34) ?_;exact⟨_,rfl,E2.upd om _⟩
def Yh {w:Nat}(hT:HW Z ca T) (hc:T.G9.length<=1000) (hw:WfE w e) (hw4:w<=4) (he:P6 Z row e) (hp:Z.read 0 0 20=some AE) (h1:0<Z.n):
  Ev (gO 11 [.agg ⟨ca⟩,.agg ⟨row⟩] Z) (fun r=>∃ Z',r=⟨false,AO3 (GG (Mk T e)),Z'⟩/\Ext Z Z') ⟨⟩:=by
 have hlen:=he.len;have hfr:sub row 0 5=some row:=C8 om om;have Ai5:=hT.len;have hfa:sub ca 0 20=some ca:=C8 om om;refine C9 Tryz.func11 rfl rfl ?_;refine gS1 (aI hfr hfa) ?_;obtain⟨S1,hS1⟩:=nm (((Z.new ca).new row));have E1:Ext Z S1:=by rw[<- hS1];exact eX
 have n1:S1.n=Z.n+2:=by rw[<- hS1];rfl
 have t1:S1.A7 Z.n=some ca:=by rw[<- hS1];exact cL
 have t2:S1.A7 (Z.n+1)=some row:=by rw[<- hS1];exact cL
 rw[hS1];refine(UE hw hw4 (he.mono E1) (Cd E1 h1 hp) om).mono ?_;rintro r ⟨Z2,rfl,hE2⟩;have k2:=hE2.n;have E2:=E1.trans hE2;have t1r:Z2.row Z.n=some ca:=by rw[hE2.row om];exact A9 t1
 have t2r:Z2.row (Z.n+1)=some row:=by rw[hE2.row om];exact A9 t2
 unfold Mk;cases hr:AD e with
 | false=>
   rw[z0z (by decide)];refine gS1 @Tryz.results11 ?_;exact⟨_,rfl,E2⟩
 | true=>
   rw[z1z rfl];obtain⟨hsg,hdp⟩:=Yi hr;refine gS1 (aI t1r (aI t2r (aI hfr hfa))) ?_;refine(jx (hT.mono E2) hc (he.mono E2) hsg hdp).mono ?_;rintro r ⟨Z3,rfl,hE3⟩;have k3:=hE3.n;have E3:=E2.trans hE3;cases hv:Am T e with
   | error k=>
     have ck:decide (k=0)=false:=z4z (Lp hsg hv);unfold Et EJ;refine gS1 (aI ck @Tryz.results11) ?_;have hs:GG (0,k)=([],k):=by unfold GG;rw[z1z (Lp hsg hv)]
     simp only[hs];exact⟨_,rfl,eX⟩
   | ok x=>
     have hbd:=RR hsg hv;have h60:=hsg.2;unfold Et Aq;have cz:decide ((0:Int)=0)=true:=rfl;cases c1:decide (x.1=0)with
     | true=>
       have hs:GG (x.1,0)=([],0):=by unfold GG;rw[z0z (by simp),z1z (z6z c1)]
       refine gS1 (aI cz (aI c1 @Tryz.results11)) ?_;simp only[hs];exact⟨_,rfl,eX⟩
     | false=>
       cases c2:decide (x.1=1)with
       | true=>
         have hs:GG (x.1,0)=(pL,0):=by unfold GG;rw[z0z (by simp),z0z (z9z c1),z1z (z6z c2)]
         refine gS1 (aI cz (aI c1 (aI c2 @Tryz.results11))) ?_;simp only[hs];exact⟨_,rfl,eX⟩
       | false=>
         have hs:GG (x.1,0)=([109,111,110,101,121,94]++Lib.itoa x.1,0):=by unfold GG;rw[z0z (by simp),z0z (z9z c1),z0z (z9z c2)]
         have hi:∀ S,Ext Z3 S->go Tryz.prog HS (.fn 35) [.int .i64 x.1] S=some ⟨false,str (Lib.itoa x.1),S⟩:=fun S hE=>xJ om om (Cd (E3.trans hE) h1 hp);have hi1:=hi ((Z3.new [.int .i64 0,.bool false] (some 81)).upd Z3.n [.int .i64 x.1,.bool x.2]) (eX);have hl3:(Lib.itoa x.1).length<=3:=cZ om om;refine gS1 (aI cz (aI c1 c2)) ?_;rw[hi1];refine gS1 @Tryz.results11 ?_;simp only[hs];exact⟨_,rfl,eX⟩
end
end Go.Proofs.T
