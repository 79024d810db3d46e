/- Pz on the types of the CV. -/
import Derived.Test.YtckchelhlpifiaaGreatDoorSA
set_option linter.unusedSimpArgs false
set_option linter.unusedVariables false
set_option linter.defProp false
set_option maxHeartbeats 32000000
set_option maxRecDepth 100000
namespace Go.Proofs.T
open Go Go.Ab
section
variable {z:List Value}{ps:List (Nat×Value)}
section
variable {fr:Fr}{Z:St}{x ix a v:Operand}{ve:Value}
def Aj:LDo 86:=by unfold LDo;intros;kernel_rfl
def WQ:STn 86 1:=by unfold STn;intros;kernel_rfl
def Am:IAs 86 2:=by unfold IAs;intros;kernel_rfl
def fq:APn 86 2 25 172:=by unfold APn;intros;kernel_rfl
def fp:SLn 86 2 [str [],.int .i64 0]:=by unfold SLn;intros;kernel_rfl
def EP:u7 Tryz.prog 88=some (.agg ⟨[.slice none 0 0,.int .i64 0,.int .i64 0,.int .i64 0]⟩):=kR
def EO:AU Tryz.prog 88 z ps=ob (Ai (fun i=>[(0,1),(1,1),(2,1),(3,1)][i]?) ps z) fun l=>some (.agg ⟨l⟩):=kR
def O5:FAo 88 0:=by unfold FAo;intros;kernel_rfl
def O6:FAn 88 1 1:=by unfold FAn;intros;kernel_rfl
def O7:FAn 88 2 2:=by unfold FAn;intros;kernel_rfl
def O8:FAn 88 3 3:=by unfold FAn;intros;kernel_rfl
def Ak:LDo 173:=by unfold LDo;intros;kernel_rfl
def Al:LDn 172 2:=by unfold LDn;intros;kernel_rfl
def fo:u7 Tryz.prog 172=some (.agg ⟨[str [],.int .i64 0]⟩):=kR
def fm:AU Tryz.prog 172 z ps=ob (Ai (fun i=>[(0,1),(1,1)][i]?) ps z) fun l=>some (.agg ⟨l⟩):=kR
def O9:FAo 172 0:=by unfold FAo;intros;kernel_rfl
def P6:FAn 172 1 1:=by unfold FAn;intros;kernel_rfl
end
end
section
variable {fr:Fr}{Z:St}{x ix a v:Operand}{ve:Value}
def Bx:LDo 85:=by unfold LDo;intros;kernel_rfl
def AY0:AV Tryz.prog 90=some ([.slice none 0 0,.int .i64 0,.int .i64 0,.int .i64 0,str [],str [],.slice none 0 0,.slice none 0 0,.slice none 0 0,.int .i64 0,.int .i64 0,str [],.int .i64 0,.int .i64 0,str [],.slice none 0 0,.slice none 0 0,.int .i64 0,.slice none 0 0,.int .i64 0,.int .i64 0,.int .i64 0,.int .i64 0,.int .i64 0,.int .i64 0,.slice none 0 0],ptrTo):=kR
def AX9:u7 Tryz.prog 90=some (.agg ⟨[.slice none 0 0,.int .i64 0,.int .i64 0,.int .i64 0,str [],str [],.slice none 0 0,.slice none 0 0,.slice none 0 0,.int .i64 0,.int .i64 0,str [],.int .i64 0,.int .i64 0,str [],.slice none 0 0,.slice none 0 0,.int .i64 0,.slice none 0 0,.int .i64 0,.int .i64 0,.int .i64 0,.int .i64 0,.int .i64 0,.int .i64 0,.slice none 0 0]⟩):=kR
def AX8 {z:List Value}{ps:List (Nat×Value)}:AU Tryz.prog 90 z ps=ob (Ai (fun i=>[(0,4),(4,1),(5,20),(25,1)][i]?) ps z) fun l=>some (.agg ⟨l⟩):=kR
def V3:FAo 90 0:=by unfold FAo;intros;kernel_rfl
def V4:FAn 90 1 4:=by unfold FAn;intros;kernel_rfl
def V5:FAn 90 2 5:=by unfold FAn;intros;kernel_rfl
def V6:FAn 90 3 25:=by unfold FAn;intros;kernel_rfl
end
set_option linter.defProp false
def bVd:=aI (aI (a3N @Bx @Aj @Ak) (aI (aI @Al @V3) (aI @V4 @V5))) (aI (a3N @V6 @O5 @O6) (aI (aI @O7 @O8) (aI @O9 @P6)))
def bVn:=aI @bW @Am
def gV {p q:Prop}(x:q) (h:p=q:=by simp(maxSteps:=8000000) (disch:=first|exact dS|fail) only[↓bD,bVn,↓bVd,Nat.reduceMul,Nat.reduceEqDiff,Nat.reduceAdd,Nat.reduceBEq,reduceIte,Option.isNone_none,G9,H2];exact rfl):p:=Eq.mpr h x
def gV1 {e p q:Prop}(z:e) (x:q) (h:e->p=q:=by intro zz;simp(maxSteps:=8000000) (disch:=first|exact dS|fail) only[↓bD,bVn,↓bVd,Nat.reduceMul,Nat.reduceEqDiff,Nat.reduceAdd,Nat.reduceBEq,reduceIte,Option.isNone_none,G9,H2,zz];exact rfl):p:=Eq.mpr (h z) x
section
variable {s:By}{c:UInt8}{p:Int->Bool}{k to j from':Nat}{Z:St}
noncomputable def ptC (l:List Nat):Code:=HF l ((Tryz.f170).body.getD .skip)
def Aj5:ptC [1,1,1,0,2,3]= .seq (ptC [1,1,1,0,2,3,0]) (ptC [1,1,1,0,2,3,1]):=kR
def Aj6:ptC [1,1,1,0,2,3,1]= .block 1 (ptC [1,1,1,0,2,3,1,2]):=kR
def Aj7:ptC [1,1,1,0,2,3,1,2]= .seq (ptC [1,1,1,0,2,3,1,2,0]) (ptC [1,1,1,0,2,3,1,2,1]):=kR
def Aj8:ptC [1,1,1,0,2,3,1,2,1]= .seq (ptC [1,1,1,0,2,3,1,2,1,0]) (ptC [1,1,1,0,2,3,1,2,1,1]):=kR
def Aj9:ptC [1,1,1,0,2,3,1,2,1,1]= .seq (ptC [1,1,1,0,2,3,1,2,1,1,0]) (ptC [1,1,1,0,2,3,1,2,1,1,1]):=kR
def Ak0:ptC [1,1,1,0,2,3,1,2,1,1,1]= .seq (ptC [1,1,1,0,2,3,1,2,1,1,1,0]) (ptC [1,1,1,0,2,3,1,2,1,1,1,1]):=kR
def Ak1:ptC [1,1,1,0,2,3,1,2,1,1,1,1]= .seq (ptC [1,1,1,0,2,3,1,2,1,1,1,1,0]) (ptC [1,1,1,0,2,3,1,2,1,1,1,1,1]):=kR
def Ak2:ptC [1,1,1,0,2,3,1,2,1,1,1,1,1]= .seq (ptC [1,1,1,0,2,3,1,2,1,1,1,1,1,0]) (ptC [1,1,1,0,2,3,1,2,1,1,1,1,1,1]):=kR
def Nh (h:s[k]? =some c) (hp:on p c=true):I0 p s k=1+I0 p s (k+1):=by
 obtain⟨h1,h2⟩:=List.getElem?_eq_some_iff.1 h;unfold I0;rw[LW h1,h2,WJ,hp];simp;omega
def xr (h:s[k]? =some c) (hp:on p c=false):I0 p s k=0:=by
 obtain⟨h1,h2⟩:=List.getElem?_eq_some_iff.1 h;unfold I0;rw[LW h1,h2,WJ,hp];rfl
def HU (h:j<I0 p s k):∃ c,s[k+j]? =some c/\on p c=true:=by
 obtain⟨c,hc,hpc⟩:=mo (show j<((s.drop k).takeWhile (on p)).length from h);rw[List.getElem?_drop]at hc;exact⟨c,hc,hpc⟩
def Mo:s[k+I0 p s k]? =none\/∃ c,s[k+I0 p s k]? =some c/\on p c=false:=by
 rcases(show(s.drop k)[I0 p s k]? =none\/∃ c,(s.drop k)[I0 p s k]? =some c/\on p c=false from mq)with hc|⟨c,hc,hpc⟩
 ·rw[List.getElem?_drop]at hc;exact .inl hc
 ·rw[List.getElem?_drop]at hc;exact .inr ⟨c,hc,hpc⟩
def fP (h:on Di c=true):on F0 c=false:=by
 cases hd:on F0 c
 ·rfl
 ·have h1:=NJ hd;unfold on Di at h;simp at h;omega
def EN {i:Nat}(h:(s.take to)[i]? =some c):s[i]? =some c/\i<to:=by
 rw[List.getElem?_take]at h;split at h
 ·exact⟨h,by assumption⟩
 ·cases h
def Pb {n:Nat}{m:UInt8}(hm:m.toNat=n):decide ((c.toNat:Int)=(n:Nat))=decide (c=m):=by
 rw[z7z,z3z,z3z];constructor
 ·intro h;exact WL om
 ·rintro rfl;omega
def xt {Z Z':St}{s:By}{to k e:Nat}{fr:Fr}{vo:Value}{done:List Tok}(g0:fr.get 0=some (str s)) (g2:fr.get 2=some (.int .i64 (to:Nat))) (g7:fr.get 7=some vo) (g8:fr.get 8=some (.int .i64 (k:Nat))) (g9:fr.get 9=some (.int .i64 (e:Nat)))
  (hke:k<=e) (het:e<=to) (hto:to<=s.length) (hs:s.length<10000000) (hol:OL Z.n Z' 2 vo (done.map W6)) (hE:Ext Z Z') (hd:done.length<=k) :
  Ev (lim Tryz.prog HS none (ptC [1,1,1,0,2,3,1,2,1,1,1,1,1,1]) fr Z') (fun r=>∃ fr' Z2 vo',r=⟨.normal,fr',Z2⟩/\fr'.get 0=some (str s)/\fr'.get 2=some (.int .i64 (to:Nat))/\fr'.get 8=some (.int .i64 (e:Nat))/\fr'.get 7=some vo'/\OL Z.n Z2 2 vo' ((done++[(((s.take to).drop k).take (e-k),k)]).map W6)/\Ext Z Z2) ⟨⟩:=by
 have hsb:sub s k (e-k)=some (((s.take to).drop k).take (e-k)):=by
  rw[V7 om,dj,Sw,Um om]
 have hb2:e<=s.length:=om;simp only[ptC,Tryz.f170,J4,M0,BP,BQ,BR,BS];refine gS1 (aI g0 (aI g2 (aI g7 (aI g8 (aI g9 (aI hsb (a4N @fm @fo @fp @Tryz.underlying86))))))) ?_;refine G4 (row:=W6 (((s.take to).drop k).take (e-k),k)) (fun _ _ _ _=>fq) (OL.ext hol (.new _ _)) (D1 nL nL) (D8 (by simp[W6]) (by simp[W6])) (by rw[z2z];omega) (by have:=hE.n;simp;omega) ?_;intro vo' Z3 d1 d2 d3;have hE3:Ext Z Z3:=d2.ext (hE.trans (Ext.new (t:=none) Z' [str (((s.take to).drop k).take (e-k)),.int .i64 (k:Nat)])) (OL.ext hol (.new _ _)) nL;refine gS1 (aI g0 (aI g2 (aI g7 (aI g8 g9)))) ?_;exact⟨_,_,vo',rfl,fR1 g0,fR1 g2,fR1 g9,fR,by rw[y7];exact d1,hE3⟩
def PtJ (Z:St) (s:By) (to from':Nat) (j:Nat) (fr:Fr) (Z':St):Prop:=∃ k done vo,j=to-k/\from'<=k/\k<=to/\fr.get 0=some (str s)/\fr.get 2=some (.int .i64 (to:Nat))/\fr.get 8=some (.int .i64 (k:Nat))/\fr.get 7=some vo/\OL Z.n Z' 2 vo (done.map W6)/\Ext Z Z'/\done++fT (s.take to) 0 (to-k) k=fT (s.take to) 0 (to-from') from'/\done.length<=k
def PtR (Z:St) (s:By) (to from':Nat) (r:Res):Prop:=∃ fr Z' vo,r=⟨.exit 0,fr,Z'⟩/\fr.get 2=some (.int .i64 (to:Nat))/\fr.get 7=some vo/\OL Z.n Z' 2 vo ((fT (s.take to) 0 (to-from') from').map W6)/\Ext Z Z'
def sO {Z':St}(hto:to<=s.length) (hs:s.length<10000000){fr:Fr}(hJ:PtJ Z s to from' j fr Z'):
  Ev (lim Tryz.prog HS none (ptC [1,1,1,0,2,3]) fr Z') (LP (PtJ Z s to from') (PtR Z s to from') j) ⟨⟩:=by
 obtain⟨k,done,vo,rfl,hfk,hk,g0,g2,g8,g7,hol,hE,hT,hd⟩:=hJ;obtain⟨u,hu⟩:=nm (s.take to);have hul:u.length=to:=by rw[<- hu,Dh];omega
 rw[hu]at hT;rw[Aj5,Aj6,Aj7,Aj8,Aj9,Ak0,Ak1,Ak2];obtain⟨X,hX⟩:=nm (ptC [1,1,1,0,2,3,1,2,1,1,1,1,1,1]);rw[hX];simp only[ptC,Tryz.f170,J4,M0,BP,BQ,BR,BS];have e1:decide ((k:Int)<(to:Int))=decide (k<to):=by rw[z7z];simp
 have en:(k:Int)+1=((k+1:Nat):Int):=om;cases hlt:decide (k<to)with
 | false=>
   have hkl:k=to:=by have:=z9z hlt;omega
   refine gS1 (aI g0 (aI g2 (aI g8 (aI e1 (aI hlt @Q9))))) ?_;refine⟨_,_,vo,rfl,fR1 g2,fR1 g7,?_,hE⟩;rw[hu,<- hT,hkl,gJ];show OL _ _ _ _ (List.map W6 (done++[]));rw[IV];exact hol
 | true =>
   have hkl:=z6z hlt;obtain⟨c,hc⟩:=E8 (l:=u) (k:=k) om;obtain⟨hcs,-⟩:=EN (by rw[hu];exact hc);have h1:=N3 hcs;have hks:decide (k<s.length)=true:=dT;have OS:=Mn hc;obtain⟨f,hf⟩:∃ f,to-k=f+1:=⟨to-k-1,om⟩
   rw[hf]at hT;have hT':fT u 0 (f+1) k=if c=32 then fT u 0 f (k+1)else((u.drop k).take (L7 u k c-k),0+k)::fT u 0 f (L7 u k c):=by
    show(match u[k]? with|none=>_|some c=>_)=_;rw[hc]
   rw[hT',Gy]at hT;have rG:decide ((c.toNat:Int)=32)=decide (c=32):=Pb (n:=32) rfl;cases h32:decide (c=32)with
   | true=>
     rw[z1z (z6z h32)]at hT;refine gS1 (aI g0 (aI g2 (aI g8 (aI e1 (aI hlt (aI h1 (aI @I4 (aI en (aI rG (aI h32 @H6)))))))))) ?_;refine⟨f,om,k+1,done,vo,om,om,om,fR1 g0,fR1 g2,fR,fR1 g7,hol,hE,?_,om⟩;rw[hu,<- hT,HW (to-(k+1)) f (k+1) om om]
   | false =>
     rw[z0z (z9z h32)]at hT
     have fin:∀ {fr2:Fr}{e:Nat},fr2.get 0=some (str s)->fr2.get 2=some (.int .i64 (to:Nat))->fr2.get 7=some vo->fr2.get 8=some (.int .i64 (k:Nat))->fr2.get 9=some (.int .i64 (e:Nat))->L7 u k c=e ->
       Ev (lim Tryz.prog HS none X fr2 Z') (fun r=>∃ fr' Z2,r=⟨.normal,fr',Z2⟩/\PtJ Z s to from' (to-e) fr' Z2) ⟨⟩:=fun f0 f2 f7 f8 f9 fe=>by
      rw[<- hX];refine(xt f0 f2 f7 f8 f9 om om hto hs hol hE hd).mono ?_;rintro r ⟨fr',Z2,vo',rfl,k0,k2,k8,k7,kl,kE⟩;refine⟨_,_,rfl,_,_,vo',rfl,om,om,k0,k2,k8,k7,kl,kE,?_,by simp;omega⟩;rw[hu,Ky,ZR,<- hT,fe,HW (to-_) f _ om om]
     clear hX;have hon:Di (c.toNat:Int)=on Di c:=rfl;have hdn:F0 (c.toNat:Int)=on F0 c:=rfl;refine gS1 (aI g0 (aI g2 (aI g8 (aI e1 (aI hlt (aI h1 (aI @I4 (aI en (aI rG h32))))))))) ?_;refine Ld.mono ?_;rintro r rfl;refine gS1 (aI g0 (aI g2 (aI g8 (aI hon (aI h1 @I4))))) ?_;refine Cd.mono ?_;rintro r rfl;cases hl:on Di c with
     | true=>
       have hld:=fP hl;have Bc:L7 u k c=k+I0 Bw u k:=by unfold L7;rw[z1z hl]
       have hfc:on Bw c=true:=by unfold on Bw;rw[show Di (c.toNat:Nat)=true from hl];rfl
       have hrn:=Nh hc hfc;have hle:=EH Bw u (k+1) om;refine gS1 (aI hdn (aI hld (aI hl (aI g0 (aI g2 (aI g7 g8)))))) ?_
       refine F4 (I0 Bw u (k+1)) (fun i fr Z2=>fr.get 9=some (.int .i64 (k+1+i:Nat))/\fr.get 0=some (str s)/\fr.get 2=some (.int .i64 (to:Nat))/\fr.get 7=some (vo)/\fr.get 8=some (.int .i64 (k:Nat))/\fr.get 11=some (.bool false)/\Z2=Z')
        (fun r=>∃ fr,r=⟨.exit 2,fr,Z'⟩/\fr.get 9=some (.int .i64 (k+1+I0 Bw u (k+1):Nat))/\fr.get 0=some (str s)/\fr.get 2=some (.int .i64 (to:Nat))/\fr.get 7=some (vo)/\fr.get 8=some (.int .i64 (k:Nat))/\fr.get 11=some (.bool false)) ?_ ?_ ?_ ?_
       ·exact⟨fR,fR1 g0,fR1 g2,fR1 g7,fR1 g8,fR,rfl⟩
       ·rintro i fr Z2 hi ⟨g9,g0,g2,g7,g8,g11,rfl⟩;obtain⟨d,hdu,hdp⟩:=HU hi;obtain⟨hds,hdt⟩:=EN (by rw[hu];exact hdu);have q1:=N3 hds;have q2:decide (((k+1+i:Nat):Int)<(to:Int))=true:=dT;have q3:((k+1+i:Nat):Int)+1=((k+1+(i+1):Nat):Int):=om;have q4:Bw (d.toNat:Int)=true:=hdp;refine gS1 (aI g9 (aI g0 (aI g2 (aI g7 (aI g8 (aI g11 (aI q1 (aI q2 @I4)))))))) ?_;refine Jh.mono ?_;rintro r rfl;refine gS1 (aI g9 (aI g0 (aI g2 (aI g7 (aI g8 (aI g11 (aI q2 (aI q3 q4)))))))) ?_;exact⟨fR,fR1 g0,fR1 g2,fR1 g7,fR1 g8,fR1 g11,by trivial⟩
       ·rintro fr Z2 ⟨g9,g0,g2,g7,g8,g11,rfl⟩;rcases Mo (p:=Bw) (s:=u) (k:=k+1)with hn|⟨d,hdu,hdp⟩
        ·have q2:decide (((k+1+I0 Bw u (k+1):Nat):Int)<(to:Int))=false:=z4z (fun h=>by
          have h':k+1+I0 Bw u (k+1)<u.length:=om;rw[List.getElem?_eq_getElem h']at hn;cases hn)
         refine gS1 (aI g9 (aI g0 (aI g2 (aI g7 (aI g8 (aI g11 q2)))))) ?_;exact⟨_,rfl,fR1 g9,fR1 g0,fR1 g2,fR1 g7,fR1 g8,fR1 g11⟩
        ·obtain⟨hds,hdt⟩:=EN (by rw[hu];exact hdu);have q1:=N3 hds;have q2:decide (((k+1+I0 Bw u (k+1):Nat):Int)<(to:Int))=true:=dT;have q4:Bw (d.toNat:Int)=false:=hdp;refine gS1 (aI g9 (aI g0 (aI g2 (aI g7 (aI g8 (aI g11 (aI q1 (aI q2 @I4)))))))) ?_;refine Jh.mono ?_;rintro r rfl;refine gS1 (aI g9 (aI g0 (aI g2 (aI g7 (aI g8 (aI g11 (aI q2 q4))))))) ?_;exact⟨_,rfl,fR1 g9,fR1 g0,fR1 g2,fR1 g7,fR1 g8,fR1 g11⟩
       rintro r ⟨fr,rfl,g9,g0,g2,g7,g8,g11⟩;refine gS1 g11 ?_;refine(fin (e:=k+1+I0 Bw u (k+1)) (fR1 g0) (fR1 g2) (fR1 g7) (fR1 g8) (fR1 g9) om).mono ?_;rintro r ⟨fr',Z3,rfl,hJ⟩;refine gS1 @H6 ?_;exact⟨_,om,hJ⟩
     | false =>
       cases hdg:on F0 c with
       | false=>
         have Bc:L7 u k c=k+1:=by unfold L7;rw[z0z (by rw[hl];simp),z0z (by rw[hdg];simp)]
         refine gS1 (aI hdn (aI hdg (aI hl (aI g0 (aI g2 (aI g7 g8)))))) ?_;refine(fin (e:=k+1) (fR1 g0) (fR1 g2) (fR1 g7) (fR1 g8) (fR) Bc).mono ?_;rintro r ⟨fr',Z3,rfl,hJ⟩;refine gS1 @H6 ?_;exact⟨_,om,hJ⟩
       | true=>
         have hrn:=Nh hc hdg;have hle:=EH F0 u (k+1) om
         have hq0:L7 u k c=if (decide (k+I0 F0 u k<u.length)&&decide (u[k+I0 F0 u k]? =some 46)&&decide (k+I0 F0 u k+1<min (k+I0 F0 u k+1) u.length+I0 F0 u (min (k+I0 F0 u k+1) u.length)))=true
           then min (k+I0 F0 u k+1) u.length+I0 F0 u (min (k+I0 F0 u k+1) u.length)else k+I0 F0 u k:=by
          unfold L7;rw[z0z (by rw[hl];simp),z1z hdg]
         refine gS1 (aI hdn (aI hdg (aI hl (aI g0 (aI g2 (aI g7 g8)))))) ?_
         refine F4 (I0 F0 u (k+1)) (fun i fr Z2=>fr.get 9=some (.int .i64 (k+1+i:Nat))/\fr.get 0=some (str s)/\fr.get 2=some (.int .i64 (to:Nat))/\fr.get 7=some (vo)/\fr.get 8=some (.int .i64 (k:Nat))/\Z2=Z')
          (fun r=>∃ fr,r=⟨.exit 4,fr,Z'⟩/\fr.get 9=some (.int .i64 (k+1+I0 F0 u (k+1):Nat))/\fr.get 0=some (str s)/\fr.get 2=some (.int .i64 (to:Nat))/\fr.get 7=some (vo)/\fr.get 8=some (.int .i64 (k:Nat))) ?_ ?_ ?_ ?_
         ·exact⟨fR,fR1 g0,fR1 g2,fR1 g7,fR1 g8,rfl⟩
         ·rintro i fr Z2 hi ⟨g9,g0,g2,g7,g8,rfl⟩;obtain⟨d,hdu,hdp⟩:=HU hi;obtain⟨hds,hdt⟩:=EN (by rw[hu];exact hdu);have q1:=N3 hds;have q2:decide (((k+1+i:Nat):Int)<(to:Int))=true:=dT;have q3:((k+1+i:Nat):Int)+1=((k+1+(i+1):Nat):Int):=om;have q4:F0 (d.toNat:Int)=true:=hdp;refine gS1 (aI g9 (aI g0 (aI g2 (aI g7 (aI g8 (aI q1 (aI q2 @I4))))))) ?_;refine Cd.mono ?_;rintro r rfl;refine gS1 (aI g9 (aI g0 (aI g2 (aI g7 (aI g8 (aI q2 (aI q3 q4))))))) ?_;exact⟨fR,fR1 g0,fR1 g2,fR1 g7,fR1 g8,by trivial⟩
         ·rintro fr Z2 ⟨g9,g0,g2,g7,g8,rfl⟩;rcases Mo (p:=F0) (s:=u) (k:=k+1)with hn|⟨d,hdu,hdp⟩
          ·have q2:decide (((k+1+I0 F0 u (k+1):Nat):Int)<(to:Int))=false:=z4z (fun h=>by
            have h':k+1+I0 F0 u (k+1)<u.length:=om;rw[List.getElem?_eq_getElem h']at hn;cases hn)
           refine gS1 (aI g9 (aI g0 (aI g2 (aI g7 (aI g8 q2))))) ?_;exact⟨_,rfl,fR1 g9,fR1 g0,fR1 g2,fR1 g7,fR1 g8⟩
          ·obtain⟨hds,hdt⟩:=EN (by rw[hu];exact hdu);have q1:=N3 hds;have q2:decide (((k+1+I0 F0 u (k+1):Nat):Int)<(to:Int))=true:=dT;have q4:F0 (d.toNat:Int)=false:=hdp;refine gS1 (aI g9 (aI g0 (aI g2 (aI g7 (aI g8 (aI q1 (aI q2 @I4))))))) ?_;refine Cd.mono ?_;rintro r rfl;refine gS1 (aI g9 (aI g0 (aI g2 (aI g7 (aI g8 (aI q2 q4)))))) ?_;exact⟨_,rfl,fR1 g9,fR1 g0,fR1 g2,fR1 g7,fR1 g8⟩
         rintro r ⟨fr,rfl,g9,g0,g2,g7,g8⟩;obtain⟨e,he⟩:=nm (k+1+I0 F0 u (k+1));have he2:k+I0 F0 u k=e:=om;rw[he]at g9;rw[he2]at hq0;have em1:(e:Int)+1=((e+1:Nat):Int):=om;have em2:(e:Int)+2=((e+2:Nat):Int):=om;have ee1:decide (((e+1:Nat):Int)<(to:Int))=decide (e+1<to):=by rw[z7z,z3z,z3z];omega
         have out:∀ {fr2:Fr},fr2.get 0=some (str s)->fr2.get 2=some (.int .i64 (to:Nat))->fr2.get 7=some vo->fr2.get 8=some (.int .i64 (k:Nat))->fr2.get 9=some (.int .i64 (e:Nat))->L7 u k c=e->Ev (lim Tryz.prog HS none X fr2 Z') (fun r=>∃ fr' Z2,r=⟨.normal,fr',Z2⟩/\PtJ Z s to from' (to-e) fr' Z2) ⟨⟩:=fun a b c d e f=>fin a b c d e f;cases hel:decide (e+1<to)with
         | false=>
           have BA2:=z9z hel;have Bc:L7 u k c=e:=by
            rw[hq0,z0z];intro h;simp only[y6,IK]at h;have h3:=h.2;rw[Nat.min_eq_right om]at h3;have:=EH F0 u u.length nL;omega
           refine gS1 (aI g0 (aI g2 (aI g8 (aI g9 (aI em1 (aI ee1 hel)))))) ?_;refine(out (fR1 g0) (fR1 g2) (fR1 g7) (fR1 g8) (fR1 g9) Bc).mono ?_;rintro r ⟨fr',Z3,rfl,hJ⟩;refine gS1 @H6 ?_;exact⟨_,om,hJ⟩
         | true =>
           have BA2:=z6z hel;obtain⟨d,hdu⟩:=E8 (l:=u) (k:=e) om;obtain⟨d2,AQ7⟩:=E8 (l:=u) (k:=e+1) om;obtain⟨hds,-⟩:=EN (by rw[hu];exact hdu);obtain⟨BA3,-⟩:=EN (by rw[hu];exact AQ7);have q1:=N3 hds;have q2:=N3 BA3;have q3:decide ((d.toNat:Int)=46)=decide (d=46):=Pb (n:=46) rfl;have q4:decide (u[e]? =some 46)=decide (d=46):=by rw[hdu];simp
           have q5:F0 (d2.toNat:Int)=on F0 d2:=rfl;rw[q4,Um om]at hq0;cases h46:decide (d=46)with
           | false=>
             have Bc:L7 u k c=e:=by rw[hq0,h46];simp
             refine gS1 (aI g0 (aI g2 (aI g8 (aI g9 (aI em1 (aI ee1 (aI hel (aI q1 (aI q3 (aI h46 @I4)))))))))) ?_;refine(out (fR1 g0) (fR1 g2) (fR1 g7) (fR1 g8) (fR1 g9) Bc).mono ?_;rintro r ⟨fr',Z3,rfl,hJ⟩;refine gS1 @H6 ?_;exact⟨_,om,hJ⟩
           | true =>
             refine gS1 (aI g0 (aI g2 (aI g8 (aI g9 (aI em1 (aI ee1 (aI hel (aI q1 (aI q2 (aI q3 (aI h46 @I4))))))))))) ?_;refine Cd.mono ?_;rintro r rfl;cases hd2:on F0 d2 with
             | false=>
               have hr0:=xr AQ7 hd2;have Bc:L7 u k c=e:=by rw[hq0,hr0];simp
               refine gS1 (aI q5 (aI hd2 (aI @G9 (aI @H2 (aI g0 (aI g2 (aI g8 g9))))))) ?_;refine(out (fR1 g0) (fR1 g2) (fR1 g7) (fR1 g8) (fR1 g9) Bc).mono ?_;rintro r ⟨fr',Z3,rfl,hJ⟩;refine gS1 @H6 ?_;exact⟨_,om,hJ⟩
             | true=>
               have hr1:I0 F0 u (e+1)=1+I0 F0 u (e+2):=Nh AQ7 hd2;have BP6:=EH F0 u (e+2) om;have Bc:L7 u k c=e+2+I0 F0 u (e+2):=by
                rw[hq0,h46,Aq (show e<u.length by omega),Aq (show e+1<e+1+I0 F0 u (e+1) by omega),hr1];show e+1+(1+I0 F0 u (e+2))=_;omega
               refine gS1 (aI q5 (aI hd2 (aI @G9 (aI @H2 (aI g0 (aI g2 (aI g8 (aI g9 em2)))))))) ?_
               refine F4 (I0 F0 u (e+2)) (fun i fr Z2=>fr.get 9=some (.int .i64 (e+2+i:Nat))/\fr.get 0=some (str s)/\fr.get 2=some (.int .i64 (to:Nat))/\fr.get 7=some (vo)/\fr.get 8=some (.int .i64 (k:Nat))/\Z2=Z')
                (fun r=>∃ fr,r=⟨.exit 6,fr,Z'⟩/\fr.get 9=some (.int .i64 (e+2+I0 F0 u (e+2):Nat))/\fr.get 0=some (str s)/\fr.get 2=some (.int .i64 (to:Nat))/\fr.get 7=some (vo)/\fr.get 8=some (.int .i64 (k:Nat))) ?_ ?_ ?_ ?_
               ·exact⟨fR,fR1 g0,fR1 g2,fR1 g7,fR1 g8,rfl⟩
               ·rintro i fr Z2 hi ⟨g9,g0,g2,g7,g8,rfl⟩;obtain⟨d,hdu,hdp⟩:=HU hi;obtain⟨hds,hdt⟩:=EN (by rw[hu];exact hdu);have q1:=N3 hds;have q2:decide (((e+2+i:Nat):Int)<(to:Int))=true:=dT;have q3:((e+2+i:Nat):Int)+1=((e+2+(i+1):Nat):Int):=om;have q4:F0 (d.toNat:Int)=true:=hdp;refine gS1 (aI g9 (aI g0 (aI g2 (aI g7 (aI g8 (aI q1 (aI q2 @I4))))))) ?_;refine Cd.mono ?_;rintro r rfl;refine gS1 (aI g9 (aI g0 (aI g2 (aI g7 (aI g8 (aI q2 (aI q3 q4))))))) ?_;exact⟨fR,fR1 g0,fR1 g2,fR1 g7,fR1 g8,by trivial⟩
               ·rintro fr Z2 ⟨g9,g0,g2,g7,g8,rfl⟩;rcases Mo (p:=F0) (s:=u) (k:=e+2)with hn|⟨d,hdu,hdp⟩
                ·have q2:decide (((e+2+I0 F0 u (e+2):Nat):Int)<(to:Int))=false:=z4z (fun h=>by
                  have h':e+2+I0 F0 u (e+2)<u.length:=om;rw[List.getElem?_eq_getElem h']at hn;cases hn)
                 refine gS1 (aI g9 (aI g0 (aI g2 (aI g7 (aI g8 q2))))) ?_;exact⟨_,rfl,fR1 g9,fR1 g0,fR1 g2,fR1 g7,fR1 g8⟩
                ·obtain⟨hds,hdt⟩:=EN (by rw[hu];exact hdu);have q1:=N3 hds;have q2:decide (((e+2+I0 F0 u (e+2):Nat):Int)<(to:Int))=true:=dT;have q4:F0 (d.toNat:Int)=false:=hdp;refine gS1 (aI g9 (aI g0 (aI g2 (aI g7 (aI g8 (aI q1 (aI q2 @I4))))))) ?_;refine Cd.mono ?_;rintro r rfl;refine gS1 (aI g9 (aI g0 (aI g2 (aI g7 (aI g8 (aI q2 q4)))))) ?_;exact⟨_,rfl,fR1 g9,fR1 g0,fR1 g2,fR1 g7,fR1 g8⟩
               rintro r ⟨fr,rfl,g9,g0,g2,g7,g8⟩;refine gS ?_;refine(fin (e:=e+2+I0 F0 u (e+2)) (fR1 g0) (fR1 g2) (fR1 g7) (fR1 g8) (fR1 g9) Bc).mono ?_;rintro r ⟨fr',Z3,rfl,hJ⟩;refine gS1 @H6 ?_;exact⟨_,om,hJ⟩
def cR (hft:from'<=to) (hto:to<=s.length) (hs:s.length<10000000):
  Ev (gO 170 [str s,.int .i64 (from':Nat),.int .i64 (to:Nat)] Z) (fun r=>∃ v Z',r=⟨false,v,Z'⟩/\OL Z.n Z' 2 v ((fT (s.take to) 0 (to-from') from'++[([],to)]).map W6)/\Ext Z Z') ⟨⟩:=by
 refine D0 Tryz.func170 rfl rfl ?_;refine gS ?_;refine V9 (PtJ Z s to from') (PtR Z s to from') (to-from') ?_ (fun j fr Z' h=>sO hto hs h) ?_
 ·exact⟨from',[],_,rfl,AR _,hft,fR,fR,fR,fR,OL.nil,.refl _,rfl,y9 _⟩
 ·rintro r ⟨fr,Z',vo,rfl,g2,g7,hol,hE⟩;have hfl:=UX (s:=s.take to) (from':=0) (to-from') from'
  rw[Dh]at hfl;refine gS1 (aI g2 (aI g7 (a4N @fm @fo @fp @Tryz.underlying86))) ?_;refine G4 (row:=W6 ([],to)) (fun _ _ _ _=>fq) (OL.ext hol (.new _ _)) (D1 nL nL) (D8 (by simp[W6]) (by simp[W6])) (by rw[z2z];omega) (by have:=hE.n;simp;omega) ?_;intro vo' Z3 d1 d2 d3;have hE3:Ext Z Z3:=d2.ext (hE.trans (Ext.new (t:=none) Z' [str [],.int .i64 (to:Nat)])) (OL.ext hol (.new _ _)) nL;refine gS1 @Tryz.results170 ?_;exact⟨vo',_,rfl,by rw[y7];exact d1,hE3⟩
end
section
variable {b:Nat}{Z:St}{tv:Value}{A1:List Tok}{k:Nat}{C8:List Value}
def K5 (h:Sc Z b tv A1 k C8):Ev (gO 84 [.pointer (some ⟨b,0,none⟩)] Z) (fun r=>r=⟨false,str (A9 A1 k).1,Z⟩) ⟨⟩:=by
 obtain⟨h1,h2,h3,h4,h5,h6⟩:=h;obtain⟨a,c,b2,off,cells,rfl,k1,k2⟩:=h3.use;rw[z2z]at *;obtain⟨sp,rfl,k3,k4⟩:=k1 om;have hr:=A6 h1;have hk:sub cells (off+k*2) 2=some [str (A9 A1 k).1,.int .i64 ((A9 A1 k).2:Nat)]:=k2 k (W6 (A9 A1 k)) (by rw[List.getElem?_map,I9 h5];rfl);have hk0:sub cells (off+k*2) 1=some [str (A9 A1 k).1]:=CM (i:=0) (m:=1) hk om;have hlt:Nat.blt k A1.length=true:=by rw[DC];exact h5
 have XC:decide (k<A1.length)=true:=J2 h5;refine D0 Tryz.func84 rfl rfl ?_;refine gV1 (aI hr (aI k4 (aI hk (aI hk0 (aI hlt XC))))) ?_
 try refine dW ?_
 try(refine gS1 @Tryz.results84 ?_;try exact⟨⟩)
def Y6 {a e:Int}(h:Sc Z b tv A1 k (.int .i64 a:: .int .i64 0::C8)):Ev (gO 87 [.pointer (some ⟨b,0,none⟩),.int .i64 e] Z) (fun r=>∃ Z',r=⟨false,.tuple ⟨[]⟩,Z'⟩/\B9 b Z Z'/\Z'.A7 b=some (tv:: .int .i64 (k:Nat):: .int .i64 ((A9 A1 k).2:Nat):: .int .i64 e::C8)) ⟨⟩:=by
 obtain⟨h1,h2,h3,h4,h5,h6⟩:=h;obtain⟨q,c,b2,off,cells,rfl,k1,k2⟩:=h3.use;rw[z2z]at *;obtain⟨sp,rfl,k3,k4⟩:=k1 om;have hr:=A6 h1;have hk:sub cells (off+k*2) 2=some [str (A9 A1 k).1,.int .i64 ((A9 A1 k).2:Nat)]:=k2 k (W6 (A9 A1 k)) (by rw[List.getElem?_map,I9 h5];rfl);have hk1:sub cells (off+k*2+1) 1=some [.int .i64 ((A9 A1 k).2:Nat)]:=CM (i:=1) (m:=1) hk om;have hlt:Nat.blt k A1.length=true:=by rw[DC];exact h5
 have XC:decide (k<A1.length)=true:=J2 h5;have hbb:b2≠b:=by intro e;exact h4 (by rw[e];rfl)
 refine D0 Tryz.func87 rfl rfl ?_;refine gV1 (aI hr (aI h1 (aI k4 (aI hk (aI hk1 (aI hlt XC)))))) ?_
 try refine dW ?_
 try(refine gSd (a9N @Aj @Ak @Al @O5 @O6 @O7 @O8 @O9 @P6) (a3N @Am @V1 @Tryz.results87) ?_;try exact⟨⟩)
 exact⟨_,rfl,eXX,cL⟩
def aP {a e0 e:Int}(he:e0≠0) (h:Sc Z b tv A1 k (.int .i64 a:: .int .i64 e0::C8)):Ev (gO 87 [.pointer (some ⟨b,0,none⟩),.int .i64 e] Z) (fun r=>r=⟨false,.tuple ⟨[]⟩,Z⟩) ⟨⟩:=by
 have hr:=A6 h.row;have h0:decide (e0=0)=false:=z4z he;refine D0 Tryz.func87 rfl rfl ?_;refine gV1 (aI hr (aI h0 @Tryz.results87)) ?_;try exact⟨⟩
def Hh {w:By}(h:Sc Z b tv A1 k (.int .i64 0:: .int .i64 0::C8)) (C7:Ends A1) (hw:w≠[]):Ev (gO 167 [.pointer (some ⟨b,0,none⟩),str w] Z) (fun r=>∃ Z',r=⟨false,.tuple ⟨[]⟩,Z'⟩/\B9 b Z Z'/\match X7 A1 w k with
   | .ok k'=>k'<A1.length/\Z'.A7 b=some (tv:: .int .i64 (k':Nat):: .int .i64 0:: .int .i64 0::C8)
   | .error (p,e)=>Z'.A7 b=some (tv:: .int .i64 (k:Nat):: .int .i64 (p:Nat):: .int .i64 e::C8)/\e≠0) ⟨⟩:=by
 have hw0:decide (w=[])=false:=z4z hw;have hk:=h.k;have hl:=h.len;have ro:=h.row;have rr:=A6 ro;refine D0 Tryz.func167 rfl rfl ?_;refine gS ?_;refine(K5 h).mono ?_;rintro r rfl;unfold X7;cases c1:decide ((A9 A1 k).1=w)with
 | false=>
   rw[z0z (z9z c1)];refine gS1 c1 ?_;refine(Y6 (e:=12) h).mono ?_;rintro r ⟨Z2,rfl,X2,o2⟩;refine gS1 @Tryz.results167 ?_;exact⟨_,rfl,X2,o2,om⟩
 | true=>
   have hlt:=C7 k _ (I9 hk) (by rw[z6z c1];exact hw);have e1:(k:Int)+1=((k+1:Nat):Int):=om;rw[z1z (z6z c1)];refine gV1 (aI c1 (aI hw0 (aI rr (aI ro (aI e1 (a3N @G9 @H2 @Tryz.results167)))))) ?_;exact⟨_,rfl,eXX,hlt,cL⟩
end
def MY {Z:St}{s:By}(hs:s.length<9223372036854775807):Ev (gO 168 [str s] Z) (fun r=>r=⟨false,.bool (Fl s),Z⟩) ⟨⟩:=by
 have hle:=EH F0 s 0 om;refine D0 Tryz.func168 rfl rfl ?_;refine gS ?_
 refine GM s.length (fun i fr Z2=>i<=s.length/\fr.get 3=some (.int .i64 (i:Nat))/\fr.get 0=some (str s)/\(s.take i).all (on F0)=true/\Z2=Z)
  (fun r=>(∃ fr,r=⟨.exit 0,fr,Z⟩/\fr.get 0=some (str s)/\s.all (on F0)=true)\/(∃ fr,r=⟨.ret,fr,Z⟩/\fr.get 2=some (.bool false)/\s.all (on F0)=false)) ?_ ?_ ?_
 ·exact⟨om,fR,fR,rfl,rfl⟩
 ·rintro i fr Z2 hi ⟨-,g3,g0,ha,rfl⟩;have e0:decide ((i:Int)<(s.length:Int))=decide (i<s.length):=by rw[z7z];simp
  have e3:(i:Int)+1=((i+1:Nat):Int):=om;cases hlt:decide (i<s.length)with
  | false=>
    have:i=s.length:=by have:=z9z hlt;omega
    refine gS1 (aI g3 (aI g0 (aI e0 hlt))) ?_;rw[this,Bl]at ha;exact .inl ⟨_,rfl,fR1 g0,ha⟩
  | true=>
    obtain⟨c,hc⟩:=E8 (z6z hlt);have h1:=N3 hc;have hd:F0 (c.toNat:Int)=on F0 c:=rfl;refine gS1 (aI g3 (aI g0 (aI e0 (aI hlt (aI h1 @I4))))) ?_;refine Cd.mono ?_;rintro r rfl;cases hdc:on F0 c with
    | false=>
      refine gS1 (aI @hd hdc) ?_;refine .inr ⟨_,rfl,fR,?_⟩;rw[<- dL,HA];intro h;rw[h c (W8 hc)]at hdc;cases hdc
    | true=>
      refine gS1 (aI @hd (aI hdc (aI g3 (aI g0 e3)))) ?_;have:=z6z hlt;refine⟨om,om,fR,fR1 g0,?_,by trivial⟩;rw[Dj,hc,SZ,ha];simp[hdc]
 ·rintro r (⟨fr,rfl,g0,ha⟩|⟨fr,rfl,g2,ha⟩)
  ·cases s with
   | nil=>
     have c0:decide ((0:Int)<((0:Nat):Int))=false:=rfl;refine gS1 (aI g0 (aI c0 (a3N @G9 @H2 @Tryz.results168))) ?_;rfl
   | cons c w=>
     have c1:decide ((0:Int)<((w.length+1:Nat):Int))=true:=dT;have h1:sub (c::w) 0 1=some [c]:=rfl;have h0:on F0 c=true:=HA.1 ha c (IU ..);have h48:decide ((c.toNat:Int)=48)=decide (c=48):=Pb (n:=48) rfl;have hl1:decide (((w.length+1:Nat):Int)=1)=decide (w=[]):=by
      rw[z7z,z3z,z3z];cases w with
      |nil=>simp
      |cons d v=>simp;omega
     have hn:Fl (c::w)=(!decide (c=48)||decide (w=[])):=by
      unfold Fl;rw[Ek,h0,ha];unfold mP;cases w with
      |nil=>simp
      |cons d v=>simp
     rw[hn];cases c48:decide (c=48)<;>cases cw:decide (w=[])<;>(refine gS1 (aI g0 (aI c1 (aI h1 (aI @I4 (aI h48 (aI c48 (aI hl1 (aI cw (a3N @G9 @H2 @Tryz.results168))))))))) ?_)<;>rfl
  ·refine gS1 (aI g2 @Tryz.results168) ?_;have:Fl s=false:=by unfold Fl;rw[ha];simp
   rw[this]
def JI (s:By):Nat:=s.foldl (fun n c=>min (10*n+(c.toNat+208) % 256) 1000000001) 0
def NT (s:By) (c:UInt8):JI (s++[c])=min (10*JI s+(c.toNat+208) % 256) 1000000001:=by simp[JI,WC]
def eH:∀ (n:Nat){s:By},s.length=n->JI s<=1000000001:=by
 intro n;induction n with
 |zero=>intro s h;obtain rfl:=WN h;simp[JI]
 | succ n ih=>
   intro s h;obtain⟨w,c,rfl⟩:∃ w c,s=w++[c]:=⟨s.dropLast,s.getLast (by intro e;rw[e]at h;simp at h),(oL _).symm⟩
   rw[NT];omega
def XD:∀ (n:Nat){s:By},s.length=n->s.all (on F0)=true->JI s=min (T6 s) 1000000001:=by
 intro n;induction n with
 |zero=>intro s h _;obtain rfl:=WN h;simp[JI,T6]
 | succ n ih=>
   intro s h ha;obtain⟨w,c,rfl⟩:∃ w c,s=w++[c]:=⟨s.dropLast,s.getLast (by intro e;rw[e]at h;simp at h),(oL _).symm⟩
   rw[SZ,y6]at ha;have hd:=NJ (HA.1 ha.2 c (GK.2 rfl));rw[NT,iA,ih (by simpa using h) ha.1];omega
def TB {Z:St}{s:By}(hs:s.length<9223372036854775807):Ev (gO 169 [str s] Z) (fun r=>r=⟨false,.int .i64 (JI s:Nat),Z⟩) ⟨⟩:=by
 refine D0 Tryz.func169 rfl rfl ?_;refine gS ?_
 refine F4 s.length (fun i fr Z2=>fr.get 4=some (.int .i64 (i:Nat))/\fr.get 0=some (str s)/\fr.get 3=some (.int .i64 (JI (s.take i):Nat))/\Z2=Z)
  (fun r=>∃ fr,r=⟨.exit 0,fr,Z⟩/\fr.get 3=some (.int .i64 (JI s:Nat))) ?_ ?_ ?_ ?_
 ·exact⟨fR,fR,fR,rfl⟩
 ·rintro i fr Z2 hi ⟨g4,g0,g3,rfl⟩;obtain⟨c,hc⟩:=E8 hi;have h1:=N3 hc;have e0:decide ((i:Int)<(s.length:Int))=true:=dT;have e3:(i:Int)+1=((i+1:Nat):Int):=om;have hle:=eH _ (s:=s.take i) rfl;have hst:JI (s.take (i+1))=min (10*JI (s.take i)+(c.toNat+208) % 256) 1000000001:=by rw[Dj,hc];exact NT _ _
  generalize JI (s.take i)=q at *;have hm:(c.toNat+208) % 256<256:=Hg _ om;have ew:IntKind.u8.wrap ((c.toNat:Int)-48)=(((c.toNat+208) % 256:Nat):Int):=by rw[wrap_u8];omega
  have ewF:Gl .u8 ((c.toNat:Int)-48)=(((c.toNat+208) % 256:Nat):Int):=by rw[Gm];exact ew
  have ew2:IntKind.i64.wrap (((c.toNat+208) % 256:Nat):Int)=(((c.toNat+208) % 256:Nat):Int):=wrap64_in om om;generalize (c.toNat+208) % 256=m at *;have e10:(10:Int)*(q:Int)=((10*q:Nat):Int):=om;have e11:((10*q:Nat):Int)+(m:Int)=((10*q+m:Nat):Int):=om;have e12:min ((10*q+m:Nat):Int) 1000000001=((min (10*q+m) 1000000001:Nat):Int):=om;refine gS1 (aI g4 (aI g0 (aI g3 (aI e0 (aI h1 (aI @I4 (aI ew (aI ewF (aI ew2 (aI e10 (aI e11 (aI e12 e3)))))))))))) ?_;exact⟨fR,fR1 g0,by rw[hst],by trivial⟩
 ·rintro fr Z2 ⟨g4,g0,g3,rfl⟩;have e0:decide ((s.length:Int)<(s.length:Int))=false:=sI;rw[Bl]at g3;refine gS1 (aI g4 (aI g0 e0)) ?_;exact⟨_,rfl,fR1 g3⟩
 rintro r ⟨fr,rfl,g3⟩;refine gS1 (aI g3 @Tryz.results169) ?_;try exact⟨⟩
def pP {n d:Nat}(hn:n<=9223372036854775807) (hd:d<=9223372036854775807):NK false n d=(((n / Nat.gcd n d:Nat):Int),((d / Nat.gcd n d:Nat):Int),true):=by
 have hF:∀ m,m<=9223372036854775807->Et false m=((m:Int),true):=fun m hm=>by unfold Et;rw[z0z (by simp),z0z om]
 have h1:n / Nat.gcd n d<=n:=Vl _ _;have h2:d / Nat.gcd n d<=d:=Vl _ _;unfold NK;rw[CC,hF _ om,hF _ om];rfl
def fA {n d:Nat}:qn (n:Nat) (d:Nat)=(n / Nat.gcd n d:Nat)/\qd (n:Nat) (d:Nat)=(d / Nat.gcd n d:Nat):=by
 have hg:Int.gcd (n:Nat) (d:Nat)=Nat.gcd n d:=rfl;unfold qn qd;rw[z0z om,z0z om,hg];exact⟨rfl,rfl⟩
def jS {Z:St}{n d:Nat}(hn:n<=9223372036854775807) (hd:d<=9223372036854775807) (h0:0<d) :
  Ev (gO 37 [.int .i64 (n:Nat),.int .i64 (d:Nat)] Z) (fun r=>∃ Z',r=⟨false,.tuple ⟨[.agg ⟨[.int .i64 (n / Nat.gcd n d:Nat),.int .i64 (d / Nat.gcd n d:Nat)]⟩,.bool true]⟩,Z'⟩/\Ext Z Z') ⟨⟩:=by
 cases hs:(IX (n:Nat)&&IX (d:Nat))with
 | true=>
   unfold IX at hs;simp only[y6,IK]at hs;refine(WT (n:=(n:Nat)) (d:=(d:Nat)) om om om om om).mono ?_;rintro r ⟨Z',rfl,hE⟩;rw[fA.1,fA.2];exact⟨_,rfl,hE⟩
 | false=>
   have c5:decide ((d:Int)=0)=false:=dF;have hin:EU (n:Nat):=⟨om,om⟩
   have hid:EU (d:Nat):=⟨om,om⟩
   have sn:decide ((n:Int)<0)=false:=dF;have sd:decide ((d:Int)<0)=false:=dF;refine D0 Tryz.func37 rfl rfl ?_;refine gU1 (aI @A4 (aI @D3 c5)) ?_;refine Jz.mono ?_;rintro r rfl;cases b1:IX (n:Nat)
   case' true=>
    rw[b1,DL]at hs;refine gU1 (aI @A4 @D3) ?_;refine Jz.mono ?_;rintro r rfl;rw[hs]
   all_goals
    refine gU1 (aI @A4 @D3) ?_;refine(SX hin).mono ?_;rintro r ⟨v1,l1,Z2,rfl,hE2,⟨w1,rfl,hw1⟩,dl1,tl1,hv1,ll1⟩;obtain⟨x1,y1,hs1⟩:=hw1.shape;subst hs1;have n2:=hE2.n;simp only[N8]at n2;refine gU1 (aI @A4 @D3) ?_;refine(SX hid).mono ?_;rintro r ⟨v3,l3,Z3,rfl,hE3,⟨w3,rfl,hw3⟩,dl3,tl3,hv3,ll3⟩;obtain⟨x3,y3,hs3⟩:=hw3.shape;subst hs3;have n3:=hE3.n;refine gU1 (aI @A4 @D3) ?_;refine(LO ⟨_,rfl,hw1.mono hE3⟩ ⟨_,rfl,hw3⟩ dl1 dl3 tl1 tl3 om om om).mono ?_;rintro r ⟨Z4,rfl,hE4⟩;have n4:=hE4.n;rw[hv1,hv3,sn,sd];have e2:(n:Int).natAbs=n:=rfl;have e3:(d:Int).natAbs=d:=rfl;have e4:(false != false)=false:=rfl;rw[e2,e3,e4,pP hn hd];have hE:Ext Z Z4:=((Ext.trans (eX) hE2).trans hE3).trans hE4;have o4:Z4.A7 Z.n=some [.int .i64 0,.int .i64 0]:=by rw[B8 (hE4.same _ om),B8 (hE3.same _ om),B8 (hE2.same _ (by simp))];exact M7 nL nL
    dsimp only;refine gU1 (aI @A4 (aI @D3 (aI o4 @Tryz.results37))) ?_;exact⟨_,rfl,eX⟩
def Vm (n:Nat) (s:By):Prop:=n<=s.length/\∀ (j:Nat) (c:UInt8),s[j]? =some c->(c=46↔j=n)
def fO {n:Nat}{s:By}(h:Vm n s):An s=(s.take n,s.drop (n+1)):=by
 obtain⟨h1,h2⟩:=h;have hno:∀ x∈s.take n,x≠46:=fun x hx e=>by
  obtain⟨j,hj⟩:=WI.1 hx;rw[List.getElem?_take]at hj;split at hj
  ·have:=(h2 j x hj).1 e;omega
  ·cases hj
 by_cases hn:n<s.length
 ·obtain⟨c,hc⟩:=E8 hn;have rk:=(h2 n c hc).2 rfl;have e:s=s.take n++46::s.drop (n+1):=by
   obtain⟨h3,h4⟩:=List.getElem?_eq_some_iff.1 hc
   conv=>lhs;rw[<- zb n s,LW h3,h4,rk]
  have:=fK (t:=s.drop (n+1)) hno;rw[<- e]at this;exact this
 ·have e:n=s.length:=om;rw[e,Bl]at hno ⊢;rw[Tf hno,Ti om]
def RfP (L:Nat->Prop) (Z:St) (b:Nat) (tv:Value) (A1:List Tok) (C8:List Value) (R:Except Er Fx) (r:CR):Prop:=∃ Z' row e',r=⟨false,.agg ⟨row⟩,Z'⟩/\B9 b Z Z'/\L9 L Z' row e'/\(match R with
 | .ok (e,_,k,_)=>e'=e/\k<A1.length/\Z'.A7 b=some (tv:: .int .i64 (k:Nat):: .int .i64 0:: .int .i64 0::C8)
 | .error (p,er)=>er≠0/\∃ k:Nat,k<A1.length/\Z'.A7 b=some (tv:: .int .i64 (k:Nat):: .int .i64 (p:Nat):: .int .i64 er::C8))
noncomputable def dcC (l:List Nat):Code:=HF l ((Tryz.f225).body.getD .skip)
def Ah0:dcC []= .seq (dcC [0]) (dcC [1]):=kR
def Ah1:dcC [1]= .seq (dcC [1,0]) (dcC [1,1]):=kR
def Ah2:dcC [1,1]= .seq (dcC [1,1,0]) (dcC [1,1,1]):=kR
def Ah3:dcC [1,1,1]= .seq (dcC [1,1,1,0]) (dcC [1,1,1,1]):=kR
def Ah4:dcC [1,1,1,1]= .seq (dcC [1,1,1,1,0]) (dcC [1,1,1,1,1]):=kR
def Ah5:dcC [1,1,1,1,1]= .seq (dcC [1,1,1,1,1,0]) (dcC [1,1,1,1,1,1]):=kR
def Ah6:dcC [1,1,1,1,1,1]= .seq (dcC [1,1,1,1,1,1,0]) (dcC [1,1,1,1,1,1,1]):=kR
def Ah7:dcC [1,1,1,1,1,1,1]= .seq (dcC [1,1,1,1,1,1,1,0]) (dcC [1,1,1,1,1,1,1,1]):=kR
def Ah8:dcC [1,1,1,1,1,1,1,1]= .seq (dcC [1,1,1,1,1,1,1,1,0]) (dcC [1,1,1,1,1,1,1,1,1]):=kR
def CX {L:Nat->Prop}{Z:St}{o nm:By}{n d:Int}:L9 L Z [str o,.int .i64 n,.int .i64 d,str nm,.slice none 0 0] (.mk o n d nm []):=fun H hH=>⟨_,[],rfl,.inl ⟨rfl,rfl⟩,by simp,rfl⟩
section
variable {L:Nat->Prop}{b:Nat}{Z τ:St}{tv:Value}{A1:List Tok}{k:Nat}{C8:List Value}
def xZ {fr:Fr}{n:Nat}{rs:By}(hE:Ext Z τ) (hlt:Z.n<τ.n) (hbl:b<Z.n) (h:Sc τ b tv A1 k (.int .i64 0:: .int .i64 0::C8)) (hz:τ.A7 Z.n=some [str [],.int .i64 0,.int .i64 0,str [],.slice none 0 0]) (hn:n<=1000000000) (hl:rs.length<=6)
  (g0:fr.get 0=some (.pointer (some ⟨b,0,none⟩))) (g2:fr.get 2=some (.pointer (some ⟨Z.n,0,none⟩))) (g5:fr.get 5=some (str rs)) (g8:fr.get 8=some (.int .i64 (n:Nat))) :
  Ev (lim Tryz.prog HS none (dcC [1,1,1,1,1,1,1,1,1]) fr τ) (fun r=>∃ fr' τ',r=⟨.ret,fr',τ'⟩/\fr'.get 2=some (.pointer (some ⟨Z.n,0,none⟩))/\B9 b Z τ'/\τ'.A7 Z.n=some [str CJ,.int .i64 (W7 n rs / Nat.gcd (W7 n rs) (10 ^ rs.length):Nat),.int .i64 (10 ^ rs.length / Nat.gcd (W7 n rs) (10 ^ rs.length):Nat),str [],.slice none 0 0]/\τ'.A7 b=some (tv:: .int .i64 (k+1:Nat):: .int .i64 0:: .int .i64 0::C8)) ⟨⟩:=by
 simp only[dcC,Tryz.f225,J4,M0,BP,BQ,BR,BS];refine gS1 (aI g0 (aI g2 (aI g5 g8))) ?_
 refine F4 rs.length (fun i fr Z'=>fr.get 0=some (.pointer (some ⟨b,0,none⟩))/\fr.get 2=some (.pointer (some ⟨Z.n,0,none⟩))/\fr.get 5=some (str rs)/\fr.get 10=some (.int .i64 (i:Nat)) /\
   fr.get 8=some (.int .i64 (W7 n (rs.take i):Nat))/\fr.get 9=some (.int .i64 (10 ^ i:Nat))/\Z'=τ)
  (fun r=>∃ fr,r=⟨.exit 2,fr,τ⟩/\fr.get 0=some (.pointer (some ⟨b,0,none⟩))/\fr.get 2=some (.pointer (some ⟨Z.n,0,none⟩))/\fr.get 8=some (.int .i64 (W7 n rs:Nat))/\fr.get 9=some (.int .i64 (10 ^ rs.length:Nat))) ?_ ?_ ?_ ?_
 ·exact⟨fR1 g0,fR1 g2,fR1 g5,fR,fR1 g8,fR,rfl⟩
 ·rintro i fr Z' hi ⟨g0,g2,g5,g10,g8,g9,rfl⟩;obtain⟨c,hc⟩:=E8 hi;have h1:=N3 hc;have ed:decide ((i:Int)<(rs.length:Int))=true:=by rw[z3z];omega
  have ew:IntKind.u8.wrap ((c.toNat:Int)-48)=(((c.toNat+208) % 256:Nat):Int):=by rw[wrap_u8];omega
  have ewF:Gl .u8 ((c.toNat:Int)-48)=(((c.toNat+208) % 256:Nat):Int):=by rw[Gm];exact ew
  have hm:(c.toNat+208) % 256<256:=Hg _ om;have ew2:IntKind.i64.wrap (((c.toNat+208) % 256:Nat):Int)=(((c.toNat+208) % 256:Nat):Int):=wrap64_in om om;have hd1:=Ob (n:=n) (rs.take i);have hlt:(rs.take i).length=i:=by rw[Dh];omega
  rw[hlt]at hd1;have hp1:10 ^ i<=10 ^ 5:=Uh om om;have hp2:(n+29)*10 ^ i<=(1000000000+29)*10 ^ 5:=Wk om hp1;have hs2:=Sl (n:=n) hc;generalize W7 n (rs.take i)=q at *;generalize AF8:10 ^ i=t10 at *;have e10:(10:Int)*(q:Int)=((10*q:Nat):Int):=om;have e11:((10*q:Nat):Int)+(((c.toNat+208) % 256:Nat):Int)=((10*q+(c.toNat+208) % 256:Nat):Int):=om;have e12:(10:Int)*(t10:Int)=((10*t10:Nat):Int):=om;have e13:(i:Int)+1=((i+1:Nat):Int):=om;have e14:10 ^ (i+1)=10*t10:=by rw[GO,AF8,CG]
  refine gS1 (aI g0 (aI g2 (aI g5 (aI g10 (aI g8 (aI g9 (aI ed (aI h1 (aI @I4 (aI ew (aI ewF (aI ew2 (aI e10 (aI e11 (aI e12 e13))))))))))))))) ?_;exact⟨fR1 g0,fR1 g2,fR1 g5,fR,by rw[hs2],by rw[e14],by trivial⟩
 ·rintro fr Z' ⟨g0,g2,g5,g10,g8,g9,rfl⟩;have ed:decide ((rs.length:Int)<(rs.length:Int))=false:=sI;rw[Bl]at g8;refine gS1 (aI g5 (aI g10 ed)) ?_;exact⟨_,rfl,fR1 g0,fR1 g2,fR1 g8,fR1 g9⟩
 rintro r ⟨fr,rfl,g0,g2,g8,g9⟩;have hd1:=Ob (n:=n) rs;have hp1:10 ^ rs.length<=10 ^ 6:=Uh om hl;have hp0:0<10 ^ rs.length:=Wl om;have hp2:(n+29)*10 ^ rs.length<=(1000000000+29)*10 ^ 6:=Wk om hp1;refine gS1 (aI g0 (aI g2 (aI g8 g9))) ?_;refine(jS om om hp0).mono ?_;rintro r ⟨Z5,rfl,hE5⟩;have hn5:=hE5.n;have hbn:b≠Z5.n:=om;have AA4:=eT (hE5.A7 h.lt) h.row;have rr5:=A6 AA4;have hz5:=eT (hE5.A7 hlt) hz;have e1:(k:Int)+1=((k+1:Nat):Int):=om;have hkl:=h.k;have hkn:=h.len;have hs0:Z.n≠b:=om;refine gV1 (aI g0 (aI g2 (aI AA4 (aI rr5 (aI hz5 e1))))) ?_;refine⟨_,_,rfl,fR1 g2,?_,?_,?_⟩
 ·exact(((B9.of ((hE.trans hE5).AG _)).As om _).upd _).As nL _
 ·unfold CJ;exact cL
 ·exact cL
def UI {p n0:Nat}(h:Sc Z b tv A1 k (.int .i64 0:: .int .i64 0::C8)) (C7:Ends A1) (hlen:(A9 A1 k).1.length<10000000) (Az1:Vm n0 (A9 A1 k).1) (hne:(A9 A1 k).1≠[]) :
  Ev (gO 225 [.pointer (some ⟨b,0,none⟩)] Z) (RfP L Z b tv A1 C8 (Lx A1 k p)) ⟨⟩:=by
 have hbl:=h.lt;have hkl:=h.k;have hk1:=C7 k _ (I9 h.k) hne;obtain⟨hn0,hdt⟩:=Az1;have gR:=fO ⟨hn0,hdt⟩;refine D0 (body:=dcC []) Tryz.func225 kR rfl ?_;obtain⟨X,hX⟩:=nm (dcC [1,1,1,1,1,1,1]);rw[Ah0,Ah1,Ah2,Ah3,Ah4,Ah5,Ah6,hX];simp only[dcC,Tryz.f225,J4,M0,BP,BQ,BR,BS];refine gS ?_;obtain⟨S,hS⟩:=nm (Z.new [str [],.int .i64 0,.int .i64 0,str [],.slice none 0 0] (some 35));have ES:Ext Z S:=by rw[<- hS];exact eX
 have nS:S.n=Z.n+1:=by rw[<- hS];rfl
 have zS:S.A7 Z.n=some [str [],.int .i64 0,.int .i64 0,str [],.slice none 0 0]:=by rw[<- hS];exact cL
 have h1:=h.ext ES;rw[hS];clear hS;refine(K5 h1).mono ?_;rintro r rfl;unfold Lx;rw[gR];dsimp only;generalize hsn:(A9 A1 k).1=s at *;refine gS ?_
 refine F4 s.length (fun i fr Z'=>fr.get 0=some (.pointer (some ⟨b,0,none⟩))/\fr.get 2=some (.pointer (some ⟨Z.n,0,none⟩))/\fr.get 3=some (str s)/\fr.get 6=some (.int .i64 (i:Nat))/\fr.get 4=some (str (if i<=n0 then s else s.take n0))/\fr.get 5=some (str (if i<=n0 then[]else s.drop (n0+1)))/\Z'=S)
  (fun r=>∃ fr,r=⟨.exit 0,fr,S⟩/\fr.get 0=some (.pointer (some ⟨b,0,none⟩))/\fr.get 2=some (.pointer (some ⟨Z.n,0,none⟩))/\fr.get 4=some (str (s.take n0))/\fr.get 5=some (str (s.drop (n0+1)))) ?_ ?_ ?_ ?_
 ·exact⟨fR,fR,fR,fR,by rw[z1z om];rfl,by rw[z1z om];rfl,rfl⟩
 ·rintro i fr Z' hi ⟨g0,g2,g3,g6,g4,g5,rfl⟩;obtain⟨c,hc⟩:=E8 hi;have q1:=N3 hc;have ed:decide ((i:Int)<(s.length:Int))=true:=by rw[z3z];omega
  have e13:(i:Int)+1=((i+1:Nat):Int):=om;have h46:decide ((c.toNat:Int)=46)=decide (c=46):=Pb (n:=46) rfl;by_cases hin:i=n0
  ·subst hin;have rk:decide (c=46)=true:=Aq ((hdt i c hc).2 rfl);have s1:sub s 0 i=some (s.take i):=by rw[V7 om];rfl
   have s2:sub s (i+1) (s.length-(i+1))=some (s.drop (i+1)):=by rw[V7 om,Kx (by rw[Ei];omega)]
   refine gS1 (aI g0 (aI g2 (aI g3 (aI g6 (aI g4 (aI g5 (aI ed (aI q1 (aI @I4 (aI h46 (aI rk (aI s1 (aI s2 (aI e13 @Oq)))))))))))))) ?_;exact⟨fR1 g0,fR1 g2,fR1 g3,fR,by rw[z0z om],by rw[z0z om],by trivial⟩
  ·have rk:decide (c=46)=false:=z4z fun e=>hin ((hdt i c hc).1 e);refine gS1 (aI g0 (aI g2 (aI g3 (aI g6 (aI g4 (aI g5 (aI ed (aI q1 (aI @I4 (aI h46 (aI rk e13))))))))))) ?_;refine⟨fR1 g0,fR1 g2,fR1 g3,fR,?_,?_,by trivial⟩
   ·by_cases hle:i<=n0
    ·rw[z1z hle];rw[z1z om]
    ·rw[z0z hle];rw[z0z om]
   ·by_cases hle:i<=n0
    ·rw[z1z hle];rw[z1z om]
    ·rw[z0z hle];rw[z0z om]
 ·rintro fr Z' ⟨g0,g2,g3,g6,g4,g5,rfl⟩;have ed:decide ((s.length:Int)<(s.length:Int))=false:=sI;have k4:fr.get 4=some (str (s.take n0)):=by
   by_cases hle:s.length<=n0
   ·rw[z1z hle]at g4;rw[g4,Kx hle]
   ·rw[z0z hle]at g4;exact g4
  have k5:fr.get 5=some (str (s.drop (n0+1))):=by
   by_cases hle:s.length<=n0
   ·rw[z1z hle]at g5;rw[g5,Ti om]
   ·rw[z0z hle]at g5;exact g5
  refine gS1 (aI g3 (aI g6 ed)) ?_;exact⟨_,rfl,fR1 g0,fR1 g2,fR1 k4,fR1 k5⟩
 rintro r ⟨fr,rfl,g0,g2,g4,g5⟩;have hwl:(s.take n0).length<=s.length:=by rw[Dh];omega
 have hrl:(s.drop (n0+1)).length<=s.length:=by rw[Ei];omega
 generalize s.take n0=w at *;generalize s.drop (n0+1)=rs at *;clear gR hdt;refine gS1 g4 ?_;refine(MY om).mono ?_;rintro r rfl
 -- an error at this token
 have bad:∀ {Z2:St}{e:Int},e≠0->B9 b S Z2->Z2.A7 b=some (tv:: .int .i64 (k:Nat):: .int .i64 ((A9 A1 k).2:Nat):: .int .i64 e::C8)->RfP L Z b tv A1 C8 (.error ((A9 A1 k).2,e)) ⟨false,.agg ⟨[str [],.int .i64 0,.int .i64 0,str [],.slice none 0 0]⟩,Z2.upd Z.n [str [],.int .i64 0,.int .i64 0,str [],.slice none 0 0]⟩:=fun{Z2 e} he hX ho=>
  ⟨_,_,_,rfl,((B9.of ES).trans hX).As nL _,CX,he,k,hkl,by rw[I1 om];exact ho⟩
 have hz2:∀ {Z2:St},B9 b S Z2->Z2.A7 Z.n=some [str [],.int .i64 0,.int .i64 0,str [],.slice none 0 0]:=fun{Z2} hX=>by rw[hX.A7 om om];exact zS
 have AA5:∀ {fr:Fr},Fl w=true->Ou rs=false->fr.get 0=some (.pointer (some ⟨b,0,none⟩))->fr.get 2=some (.pointer (some ⟨Z.n,0,none⟩))->fr.get 4=some (str w)->fr.get 5=some (str rs) ->
   Ev (lim Tryz.prog HS none X fr S) (fun r=>∃ fr' τ',r=⟨.ret,fr',τ'⟩/\fr'.get 2=some (.pointer (some ⟨Z.n,0,none⟩))/\∃ row,τ'.A7 Z.n=some row/\RfP L Z b tv A1 C8 (if (decide (T6 w<=1000000000)&&decide (rs.length<=6)&&(decide (T6 w<1000000000)||decide (rs=[])))=true then
   .ok (.mk CJ (W7 (T6 w) rs / Nat.gcd (W7 (T6 w) rs) (10 ^ rs.length):Nat)
    (10 ^ rs.length / Nat.gcd (W7 (T6 w) rs) (10 ^ rs.length):Nat) [] [],1,k+1,p+1)
  else .error ((A9 A1 k).2,3)) ⟨false,.agg ⟨row⟩,τ'⟩) ⟨⟩:=fun{fr} hnw hsf f0 f2 f4 f5=>by
  rw[<- hX];obtain⟨Y,hY⟩:=nm (dcC [1,1,1,1,1,1,1,1,1]);rw[Ah7,Ah8,hY];simp only[dcC,Tryz.f225,J4,M0,BP,BQ,BR,BS];have hv:=XD _ (s:=w) rfl (Hp hnw).1;refine gS1 f4 ?_;refine(TB om).mono ?_;rintro r rfl;rw[hv];have e6:decide ((6:Int)<(rs.length:Int))=decide (6<rs.length):=by rw[z7z,z3z,z3z];omega
  cases hv9:decide (T6 w<=1000000000)with
  | false=>
    have:=z9z hv9;have em:min (T6 w) 1000000001=1000000001:=om;have ec:decide ((1000000000:Int)<((1000000001:Nat):Int))=true:=rfl;rw[em,z0z (by simp)];refine gS1 (aI f0 (aI f2 (aI f5 ec))) ?_;refine(Y6 (e:=3) h1).mono ?_;rintro r ⟨Z2,rfl,X2,o2⟩;refine gS1 (aI f2 (hz2 X2)) ?_;exact⟨_,_,rfl,fR1 f2,_,cL,bad om X2 o2⟩
  | true=>
    have hvl:=z6z hv9;have em:min (T6 w) 1000000001=T6 w:=om;rw[em];generalize T6 w=n at *;have ec:decide ((1000000000:Int)<(n:Int))=false:=dF;have e9:decide ((n:Int)=1000000000)= !decide (n<1000000000):=by rw[z7z,z3z];simp;omega
    cases h6:decide (rs.length<=6)with
    | false=>
      have e6':decide (6<rs.length)=true:=Aq (by have:=z9z h6;omega);rw[z0z (by simp)];refine gS1 (aI f0 (aI f2 (aI f5 (aI ec (aI e6 e6'))))) ?_;refine(Y6 (e:=3) h1).mono ?_;rintro r ⟨Z2,rfl,X2,o2⟩;refine gS1 (aI f2 (hz2 X2)) ?_;exact⟨_,_,rfl,fR1 f2,_,cL,bad om X2 o2⟩
    | true=>
      have e6':decide (6<rs.length)=false:=z4z (by have:=z6z h6;omega)
      have pY:∀ {fr:Fr},fr.get 0=some (.pointer (some ⟨b,0,none⟩))->fr.get 2=some (.pointer (some ⟨Z.n,0,none⟩))->fr.get 5=some (str rs)->fr.get 8=some (.int .i64 (n:Nat)) ->
        Ev (lim Tryz.prog HS none Y fr S) (fun r=>∃ fr' τ',r=⟨.ret,fr',τ'⟩/\fr'.get 2=some (.pointer (some ⟨Z.n,0,none⟩))/\∃ row,τ'.A7 Z.n=some row/\RfP L Z b tv A1 C8 (.ok (.mk CJ (W7 n rs / Nat.gcd (W7 n rs) (10 ^ rs.length):Nat) (10 ^ rs.length / Nat.gcd (W7 n rs) (10 ^ rs.length):Nat) [] [],1,k+1,p+1)) ⟨false,.agg ⟨row⟩,τ'⟩) ⟨⟩:=fun{fr} a0 a2 a5 a8=>by
       rw[<- hY];refine(xZ ES om hbl h1 zS hvl (z6z h6) a0 a2 a5 a8).mono ?_;rintro r ⟨fr',τ',rfl,b2,bX,bz,bo⟩;exact⟨_,_,rfl,b2,_,bz,_,_,_,rfl,bX,CX,rfl,hk1,bo⟩
      clear hY;cases h9:decide (n<1000000000)with
      | true=>
        rw[z1z (by simp)];refine gS1 (aI f0 (aI f2 (aI f5 (aI ec (aI e6 (aI e6' (aI e9 (aI h9 @Gi)))))))) ?_;refine(pY (fR1 f0) (fR1 f2) (fR1 f5) (fR)).mono ?_;rintro r ⟨fr',τ',rfl,b2,row,bz,hR⟩
        try(refine gS ?_;try exact⟨⟩)
        exact⟨_,_,rfl,b2,row,bz,hR⟩
      | false=>
        cases hr0:decide (rs=[])with
        | true=>
          rw[z1z (by simp)];refine gS1 (aI f0 (aI f2 (aI f5 (aI ec (aI e6 (aI e6' (aI e9 (aI h9 (aI hr0 @El))))))))) ?_;refine(pY (fR1 f0) (fR1 f2) (fR1 f5) (fR)).mono ?_;rintro r ⟨fr',τ',rfl,b2,row,bz,hR⟩
          try(refine gS ?_;try exact⟨⟩)
          exact⟨_,_,rfl,b2,row,bz,hR⟩
        | false=>
          rw[z0z (by simp)];refine gS1 (aI f0 (aI f2 (aI f5 (aI ec (aI e6 (aI e6' (aI e9 (aI h9 (aI hr0 @El))))))))) ?_;refine(Y6 (e:=3) h1).mono ?_;rintro r ⟨Z2,rfl,X2,o2⟩;refine gS1 (aI f2 (hz2 X2)) ?_;exact⟨_,_,rfl,fR1 f2,_,cL,bad om X2 o2⟩
 clear hX;cases hnw:Fl w with
 | false=>
   rw[z0z (by simp)];refine gS1 (aI hnw (aI g0 (aI g2 g5))) ?_;refine(Y6 (e:=12) h1).mono ?_;rintro r ⟨Z2,rfl,X2,o2⟩;refine gS1 (aI g2 (aI (hz2 X2) @Tryz.results225)) ?_;exact bad (e:=12) om X2 o2
 | true=>
   cases hr0:decide (rs=[])with
   | true=>
     obtain rfl:=z6z hr0;rw[z1z (by rfl)];refine gS1 (aI hnw (aI g0 (aI g2 (aI g5 hr0)))) ?_;refine(AA5 hnw rfl (fR1 g0) (fR1 g2) (fR1 g4) (fR1 g5)).mono ?_;rintro r ⟨fr',τ',rfl,b2,row,bz,hR⟩;have hR':=hR;obtain⟨Z9,sy,e9,hq,-,hf9,-⟩:=hR';cases hq;obtain⟨y1,y2,y3,y4,y5,rfl⟩:=hf9.Bj;have bzr:=A6 bz;refine gS1 (aI b2 (aI bz (aI bzr @Tryz.results225))) ?_;exact hR
   | false=>
     have hrn:=z9z hr0;have MP:=eE.2 hrn;obtain⟨c,hc⟩:=E8 (l:=rs) (k:=rs.length-1) om;have q1:=N3 hc;have eL:(rs.length:Int)-1=((rs.length-1:Nat):Int):=om;have h48:decide ((c.toNat:Int)=48)=decide (c=48):=Pb (n:=48) rfl;have hsf:Ou rs=decide (c=48):=by
      obtain⟨h3,h4⟩:=List.getElem?_eq_some_iff.1 hc;unfold Ou;rw[LW h3,h4,Ti om];simp
     rw[hsf];cases c48:decide (c=48)with
     | true=>
       rw[z0z (by simp)];refine gS1 (aI hnw (aI g0 (aI g2 (aI g5 (aI hr0 (aI eL (aI q1 (aI @I4 (aI h48 c48))))))))) ?_;refine(Y6 (e:=12) h1).mono ?_;rintro r ⟨Z2,rfl,X2,o2⟩;refine gS1 (aI g2 (aI (hz2 X2) @Tryz.results225)) ?_;exact bad om X2 o2
     | false=>
       rw[z1z (by simp)];refine gS1 (aI hnw (aI g0 (aI g2 (aI g5 (aI hr0 (aI eL (aI q1 (aI @I4 (aI h48 c48))))))))) ?_;refine(AA5 hnw (by rw[hsf];exact c48) (fR1 g0) (fR1 g2) (fR1 g4) (fR1 g5)).mono ?_;rintro r ⟨fr',τ',rfl,b2,row,bz,hR⟩;have hR':=hR;obtain⟨Z9,sy,e9,hq,-,hf9,-⟩:=hR';cases hq;obtain⟨y1,y2,y3,y4,y5,rfl⟩:=hf9.Bj;have bzr:=A6 bz;refine gS1 (aI b2 (aI bz (aI bzr @Tryz.results225))) ?_;rw[hr0]at hR;exact hR
end
end Go.Proofs.T
