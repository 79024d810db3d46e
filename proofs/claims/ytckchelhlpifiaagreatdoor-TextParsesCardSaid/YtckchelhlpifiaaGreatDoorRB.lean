/- A Cc AS was printed is read as it was. -/
import Derived.Test.YtckchelhlpifiaaGreatDoorRA
set_option linter.unusedSimpArgs false
set_option linter.unusedVariables false
set_option linter.defProp false
set_option maxHeartbeats 32000000
set_option maxRecDepth 100000
namespace Go.Proofs.T
open Go Go.Ab
def At (A1:List Tok) (k:Nat) (ts post:List By):Prop:=(A1.map Prod.fst).drop k=ts++post
section
variable {A1:List Tok}
noncomputable def Fa (A1:List Tok) (fu:Nat):Nat->Nat->Except Er Fx:=GI (LN A1 fu) A1
noncomputable def Tm (A1:List Tok) (fu:Nat):Nat->Nat->Except Er Fx:=fun k p=>Bs (Fa A1 fu) [42,47] A1 k p
def Q2 (A1:List Tok) (fu g:Nat) (e:Ex) (d m:Nat):Prop:=∀ pos p post,At A1 pos (OU g 2 e) post->Fa A1 fu pos p= .ok (e,d,pos+(OU g 2 e).length,p+m)
def Q1 (A1:List Tok) (fu g:Nat) (e:Ex) (d m:Nat):Prop:=∀ pos p post,At A1 pos (OU g 1 e) post->Tm A1 fu pos p=Cz (Fa A1 fu) [42,47] A1 (A1.length-(pos+(OU g 1 e).length)) (e,d,pos+(OU g 1 e).length,p+m)
def Q0 (A1:List Tok) (fu g:Nat) (e:Ex) (d m:Nat):Prop:=∀ pos p post,At A1 pos (OU g 0 e) post->opB [42,47] (post.getD 0 [])=false->Bs (Tm A1 fu) [43,45] A1 pos p=Cz (Tm A1 fu) [43,45] A1 (A1.length-(pos+(OU g 0 e).length)) (e,d,pos+(OU g 0 e).length,p+m)
end
section
variable {n:Nat}
def wC:∀ (f g n:Nat),n<f->n<g->dcF f n=dcF g n:=by
 intro f;induction f with
 |zero=>intro g n h;omega
 | succ f ih=>
   intro g n h1 h2;cases g with
   |zero=>omega
   | succ g=>
     show(if n<10 then[dgt n]else dcF f (n / 10)++[dgt n])=(if n<10 then[dgt n]else dcF g (n / 10)++[dgt n])
     by_cases h:n<10
     ·rw[z1z h,z1z h]
     ·rw[z0z h,z0z h,ih g (n / 10) om om]
def Cn (h:n<10):dcN n=[dgt n]:=by
 show(if n<10 then[dgt n]else _)=_;rw[z1z h]
def Og (h:¬ n<10):dcN n=dcN (n / 10)++[dgt n]:=by
 show(if n<10 then[dgt n]else dcF n (n / 10)++[dgt n])=dcF (n / 10+1) (n / 10)++[dgt n]
 rw[z0z h,wC n (n / 10+1) (n / 10) om om]
def Od:∀ (k n:Nat),n<10 ^ (k+1)->(dcN n).length<=k+1:=by
 intro k;induction k with
 |zero=>intro n h;rw[Cn om];simp
 | succ k ih=>
   intro n h;by_cases h10:n<10
   ·rw[Cn h10];simp
   ·rw[Og h10];have:=ih (n / 10) (by rw[GO]at h;omega);simp;omega
def Mi:(dgt n).toNat=48+n % 10:=by
 unfold dgt;rw[UInt8.toNat_ofNat'];omega
def VC:on F0 (dgt n)=true:=by
 unfold on F0;rw[Mi];have e1:decide (((48+n % 10:Nat):Int)<48)=false:=by rw[Gz];omega
 have e2:decide ((57:Int)<((48+n % 10:Nat):Int))=false:=by rw[Gz];omega
 rw[e1,e2];rfl
def Qp:∀ (f n:Nat),n<f->(dcN n).all (on F0)=true/\T6 (dcN n)=n/\∃ c w,dcN n=c::w/\(c=48->n=0/\w=[]):=by
 intro f;induction f with
 |zero=>intro n h;omega
 | succ f ih=>
   intro n hf;by_cases h10:n<10
   ·rw[Cn h10];refine⟨by rw[UT,VC];rfl,?_,_,_,rfl,fun h=>⟨?_,rfl⟩⟩
    ·show 10*0+((dgt n).toNat-48)=n;rw[Mi];omega
    ·have:=congrArg UInt8.toNat h;rw[Mi]at this;change 48+n % 10=48 at this;omega
   ·obtain⟨h1,h2,c,w,h3,h4⟩:=ih (n / 10) om;rw[Og h10];refine⟨by rw[SZ,h1,UT,VC];rfl,?_,c,w++[dgt n],by rw[h3];rfl,fun h=>?_⟩
    ·have:T6 (dcN (n / 10)++[dgt n])=10*T6 (dcN (n / 10))+((dgt n).toNat-48):=by
      unfold T6;rw[WC];rfl
     rw[this,h2,Mi];omega
    ·have:=(h4 h).1;omega
def wD (n:Nat):Fl (dcN n)=true/\T6 (dcN n)=n:=by
 obtain⟨h1,h2,c,w,h3,h4⟩:=Qp (n+1) n (MF _);refine⟨?_,h2⟩;unfold Fl;rw[h1,h3];have hc:on F0 c=true:=by rw[h3,UT,y6]at h1;exact h1.1
 show(on F0 c&&true&&mP (c::w))=true;rw[hc];cases w with
 |nil=>rfl
 | cons x v=>
   show(true&&true&& !decide (c=48))=true;have:decide (c=48)=false:=z4z fun e=>by cases(h4 e).2
   rw[this];rfl
def AL6 (n:Nat):dcN n≠[]:=by
 obtain⟨-,-,c,w,h,-⟩:=Qp (n+1) n (MF _);rw[h];simp
section
variable {A1:List Tok}{k:Nat}{T:Tn}
def yp:By:=[109,111,115,116]
end
end
end Go.Proofs.T
namespace Go.Proofs.T
open Go Go.Ab
open Nat (reduceMul reduceEqDiff reduceAdd)
section
variable {n:Nat}{Z:St}
def jQ (h:n<18446744073709551616):(dcN n).length<=20:=Od 19 n om
def pC:∀ (f n:Nat){Z:St},n<f->n<=9223372036854775807 ->
  Ev (gO 162 [.int .i64 (n:Nat)] Z) (fun r=>∃ Z',r=⟨false,str (dcN n),Z'⟩/\Ext Z Z') ⟨⟩:=by
 intro f;induction f with
 |zero=>intro n Z h;omega
 | succ f ih=>
   intro n Z hf hn;refine D0 Tryz.func162 rfl rfl ?_;have hlt:decide ((n:Int)<0)=false:=by first|(simp;done)|(simp;omega)
   by_cases h10:n<10
   ·have hc:decide ((n:Int)<10)=true:=by first|(simp;done)|(simp;omega)
    have hd:UInt8.ofNat (48+(n:Int)).toNat=dgt n:=by unfold dgt;congr 1;omega
    simp(maxSteps:=8000000) (disch:=first|exact dS|fail) only[↓bD,bW,reduceMul,reduceEqDiff,reduceAdd,Nat.reduceBEq,reduceIte,Option.isNone_none,hlt,hc,G9,H2,Wt,Df,HY,Nat.reduceMul,hd,Tryz.results162];rw[Cn h10];exact⟨_,rfl,(Ext.refl _).AG _⟩
   ·have hc:decide ((n:Int)<10)=false:=by first|(simp;done)|(simp;omega)
    have hq:IntKind.i64.wrap ((n:Int).tdiv 10)=((n / 10:Nat):Int):=by
     rw[show(n:Int).tdiv 10=((n / 10:Nat):Int)from rfl];exact wrap64_in om om
    refine gS1 (aI hlt (aI hc hq)) ?_;refine(ih (n / 10) om om).mono ?_;rintro r ⟨Z',rfl,hE⟩;have hr:(n:Int).tmod 10=((n % 10:Nat):Int):=rfl;refine gS1 hr ?_;refine(ih (n % 10) om om).mono ?_;rintro r ⟨Z2,rfl,hE2⟩;have hlen:=jQ (n:=n / 10) om;have h1:dcN (n % 10)=[dgt n]:=by rw[Cn om];unfold dgt;congr 2;omega
    rw[h1];refine gS1 @Tryz.results162 ?_;rw[<- Og h10];exact⟨_,rfl,hE.trans hE2⟩
def AJ9 (h:n<=1000000000):RQ (n:Int) 1:=⟨om,om,om,om,by simp⟩
def pD (h:n<=1000000000):Ev (gO 118 [Zp (n:Nat) 1] Z) (fun r=>∃ Z',r=⟨false,str (dcN n),Z'⟩/\Ext Z Z') ⟨⟩:=by
 refine D0 Tryz.func118 rfl rfl ?_;unfold Zp;refine gS ?_;refine(WH (AJ9 h)).mono ?_;rintro r ⟨Z2,rfl,hE2⟩;have r1:Z2.row Z.n=some [.int .i64 (n:Nat),.int .i64 1]:=eT (hE2.row (cL)) cL;refine gS1 r1 ?_;refine(pC _ n (MF _) om).mono ?_;rintro r ⟨Z3,rfl,hE3⟩;refine gS1 @Tryz.results118 ?_;exact⟨_,rfl,Ext.trans (eX) (hE2.trans hE3)⟩
def Iu (h:n<=1000000000):Ev (gO 76 [.int .i64 (n:Nat)] Z) (fun r=>∃ Z',r=⟨false,str (dcN n),Z'⟩/\Ext Z Z') ⟨⟩:=by
 refine D0 Tryz.func76 rfl rfl ?_;refine gS ?_;refine(pD h).mono ?_;rintro r ⟨Z2,rfl,hE2⟩;refine gS1 @Tryz.results76 ?_;exact⟨_,rfl,hE2⟩
def pE (h:n<=1000000000):(dcN n).length<=10:=Od 9 n om
def Xq {n d:Int}(h:RQ n d) (h0:0<=n) (hd:(1000000:Int) % d=0):Ev (gO 119 [Zp n d] Z) (fun r=>∃ Z',r=⟨false,str (deT n d),Z'⟩/\Ext Z Z') ⟨⟩:=by
 obtain⟨N,rfl⟩:=aH h0;obtain⟨D,rfl⟩:=aH (by have:=h.d1;omega:0<=d);have d1:=h.d1;have d2:=h.d2;have n2:=h.n2;have hD:0<D:=om;obtain⟨m,hm⟩:=nm (N % D);have last:∀ x,x=10 ^ 6*m->x % D=0:=by
  intro x hx;have hdd:(10 ^ 6) % D=0:=Int.natCast_inj.1 (by rw[Int.natCast_emod];exact hd);rw[hx,pF,hdd,HY,pG]
 have f0:∀ j D,frT j 0 D=[]:=fun j D=>by cases j<;>rfl
 have fs:∀ j C8,C8≠0->frT (j+1) C8 D=dcN (10*C8 / D)++frT j (10*C8 % D) D:=fun j C8 h=>by show(if C8=0 then _ else _)=_;rw[z0z h]
 have hde:deT (N:Int) (D:Int)=dcN (N / D)++(if N % D=0 then[]else 46::frT 6 (N % D) D):=rfl;rw[hde];clear hd;refine D0 Tryz.func119 rfl rfl ?_;unfold Zp;have z0:decide ((D:Int)=0)=false:=dF;obtain⟨q,hq⟩:=nm (N / D);have b1:q<=1000000000:=by rw[<- hq];exact zV om
 have b2:m<D:=by rw[<- hm];exact Hg _ hD
 have e1:IntKind.i64.wrap ((N:Int).tdiv D)=(q:Int):=by
  rw[show(N:Int).tdiv D=((N / D:Nat):Int)from rfl,hq];exact wrap64_in om om
 have e2:(N:Int).tmod D=(m:Int):=by rw[<- hm];rfl
 refine gS1 (aI z0 (aI e1 e2)) ?_;refine(Iu b1).mono ?_;rintro r ⟨Z2,rfl,hE2⟩;have r1:Z2.row Z.n=some [.int .i64 (N:Nat),.int .i64 (D:Nat)]:=eT (hE2.row (cL)) cL;have hl:=pE b1;have step:∀ k,(10 ^ (k+1)*m) % D=(10*((10 ^ k*m) % D)) % D:=by
  intro k;rw[GO,CG (10 ^ k) 10,EV,pF 10,pF 10 ((10 ^ k*m) % D),Nat.mod_mod]
 by_cases m0:m=0
 ·have c0:decide (0<(m:Int))=false:=dF;refine gS1 (aI r1 (aI z0 (aI e2 c0))) ?_
  refine V9 (fun j fr Z3=>∃ k s C8,j+k=6/\C8=(10 ^ k*m) % D/\fr.get 4=some (.int .i64 (C8:Nat))/\fr.get 3=some (str s)/\s++frT j C8 D=dcN q/\s.length<=12+k/\fr.get 1=some (.pointer (some ⟨Z.n,0,none⟩))/\Ext (Z.new [.int .i64 (N:Nat),.int .i64 (D:Nat)]) Z3)
   (fun r=>∃ fr Z3,r=⟨.exit 0,fr,Z3⟩/\fr.get 3=some (str (dcN q))/\Ext Z Z3) 6 ⟨0,_,m,rfl,by rw[eh,Wt,SG b2],fR,fR,(by rw[m0,f0,IV]),om,fR,hE2⟩ ?_ ?_
  ·rintro j fr Z3 ⟨k,s,C8,hj,Qk,g4,g3,ht,hs,g1,hE⟩;by_cases r0:C8=0
   ·have c1:decide (0<(C8:Int))=false:=dF;refine gS1 (aI g4 (aI g3 c1)) ?_;rw[r0,f0,IV]at ht;exact⟨_,_,rfl,by rw[<- ht];exact fR1 g3,Ext.trans (eX) hE⟩
   have k6:k<6:=by
    rcases y8 k 6 with h|h
    ·exact h
    ·obtain rfl:k=6:=om;exact absurd (Qk.trans (last _ rfl)) r0
   have c1:decide (0<(C8:Int))=true:=dT;have rD:C8<D:=by rw[Qk];exact Hg _ hD
   have w1:Z3.row Z.n=some [.int .i64 (N:Nat),.int .i64 (D:Nat)]:=eT (hE.row (by simp)) cL;obtain⟨u,hu⟩:=nm (10*C8 / D);obtain⟨v,hv⟩:=nm (10*C8 % D);have u10:u<10:=by rw[<- hu];exact eC (by rw[CG];omega)
   have f1:IntKind.i64.wrap ((10*(C8:Int)).tdiv D)=(u:Int):=by
    rw[show(10*(C8:Int))=((10*C8:Nat):Int) by omega,show((10*C8:Nat):Int).tdiv D=((10*C8 / D:Nat):Int)from rfl,hu];exact wrap64_in om om
   have f2:(10*(C8:Int)).tmod D=(v:Int):=by
    rw[show(10*(C8:Int))=((10*C8:Nat):Int) by omega,show((10*C8:Nat):Int).tmod D=((10*C8 % D:Nat):Int)from rfl,hv]
   refine gS1 (aI g4 (aI g3 (aI g1 (aI c1 (aI w1 (aI z0 f1)))))) ?_;refine(Iu (n:=u) om).mono ?_;rintro r ⟨Z4,rfl,hE4⟩;have w2:=eT (hE4.row (by have:=hE.n;simp at this;omega)) w1;have l1:(dcN u).length=1:=by rw[Cn u10];rfl
   refine gS1 (aI g4 (aI g3 (aI g1 (aI w2 (aI z0 f2))))) ?_;refine⟨6-(k+1),om,k+1,s++dcN u,v,om,by rw[step,<- Qk,hv],fR,fR,?_,by simp;omega,fR1 g1,hE.trans hE4⟩;rw[<- ht,show j=6-(k+1)+1 by omega,fs _ _ r0,hu,hv,Ky]
  rintro r ⟨fr,Z3,rfl,g3,hE⟩;refine gS1 (aI g3 @Tryz.results119) ?_;rw[hq,hm,z1z m0,IV];exact⟨_,rfl,hE⟩
 ·have c0:decide (0<(m:Int))=true:=dT;refine gS1 (aI r1 (aI z0 (aI e2 c0))) ?_
  refine V9 (fun j fr Z3=>∃ k s C8,j+k=6/\C8=(10 ^ k*m) % D/\fr.get 4=some (.int .i64 (C8:Nat))/\fr.get 3=some (str s)/\s++frT j C8 D=dcN q++46::frT 6 m D/\s.length<=12+k/\fr.get 1=some (.pointer (some ⟨Z.n,0,none⟩))/\Ext (Z.new [.int .i64 (N:Nat),.int .i64 (D:Nat)]) Z3)
   (fun r=>∃ fr Z3,r=⟨.exit 0,fr,Z3⟩/\fr.get 3=some (str (dcN q++46::frT 6 m D))/\Ext Z Z3) 6 ⟨0,dcN q++[46],m,rfl,by rw[eh,Wt,SG b2],fR,fR,(by simp),by simp;omega,fR,hE2⟩ ?_ ?_
  ·rintro j fr Z3 ⟨k,s,C8,hj,Qk,g4,g3,ht,hs,g1,hE⟩;by_cases r0:C8=0
   ·have c1:decide (0<(C8:Int))=false:=dF;refine gS1 (aI g4 (aI g3 c1)) ?_;rw[r0,f0,IV]at ht;exact⟨_,_,rfl,by rw[<- ht];exact fR1 g3,Ext.trans (eX) hE⟩
   have k6:k<6:=by
    rcases y8 k 6 with h|h
    ·exact h
    ·obtain rfl:k=6:=om;exact absurd (Qk.trans (last _ rfl)) r0
   have c1:decide (0<(C8:Int))=true:=dT;have rD:C8<D:=by rw[Qk];exact Hg _ hD
   have w1:Z3.row Z.n=some [.int .i64 (N:Nat),.int .i64 (D:Nat)]:=eT (hE.row (by simp)) cL;obtain⟨u,hu⟩:=nm (10*C8 / D);obtain⟨v,hv⟩:=nm (10*C8 % D);have u10:u<10:=by rw[<- hu];exact eC (by rw[CG];omega)
   have f1:IntKind.i64.wrap ((10*(C8:Int)).tdiv D)=(u:Int):=by
    rw[show(10*(C8:Int))=((10*C8:Nat):Int) by omega,show((10*C8:Nat):Int).tdiv D=((10*C8 / D:Nat):Int)from rfl,hu];exact wrap64_in om om
   have f2:(10*(C8:Int)).tmod D=(v:Int):=by
    rw[show(10*(C8:Int))=((10*C8:Nat):Int) by omega,show((10*C8:Nat):Int).tmod D=((10*C8 % D:Nat):Int)from rfl,hv]
   refine gS1 (aI g4 (aI g3 (aI g1 (aI c1 (aI w1 (aI z0 f1)))))) ?_;refine(Iu (n:=u) om).mono ?_;rintro r ⟨Z4,rfl,hE4⟩;have w2:=eT (hE4.row (by have:=hE.n;simp at this;omega)) w1;have l1:(dcN u).length=1:=by rw[Cn u10];rfl
   refine gS1 (aI g4 (aI g3 (aI g1 (aI w2 (aI z0 f2))))) ?_;refine⟨6-(k+1),om,k+1,s++dcN u,v,om,by rw[step,<- Qk,hv],fR,fR,?_,by simp;omega,fR1 g1,hE.trans hE4⟩;rw[<- ht,show j=6-(k+1)+1 by omega,fs _ _ r0,hu,hv,Ky]
  rintro r ⟨fr,Z3,rfl,g3,hE⟩;refine gS1 (aI g3 @Tryz.results119) ?_;rw[hq,hm,z0z m0];exact⟨_,rfl,hE⟩
end
section
variable {Z:St}{e:Ex}{k m:Nat}{row:List Value}{v:Value}
def Ae0 {a d:Int}(h0:0<=a) (h:a % d=0):a.tmod d=0:=by rw[zh h0];exact h
def IB {s:By}:CD s=BB s:=by
 cases s with
 |nil=>rfl
 | cons c w=>
   have e1:decide (0<(c::w).length)=true:=sI;have e2:CD (c::w)=(decide (0<(c::w).length)&&decide ((c::w).length<=30)&&(c::w).all (on Bw)&&on Di c):=rfl;have e3:BB (c::w)=(on Di c&&decide ((c::w).length<=30)&&(c::w).all (on Bw)):=rfl;rw[e2,e3,e1];cases decide ((c::w).length<=30)<;>cases(c::w).all (on Bw)<;>cases on Di c<;>rfl
def FW.le (h:FW k m e):k<=m:=by
 induction h with
 |num=>omega
 |name=>omega
 |bin=>omega
 |mm=>omega
def Hs {D4:List (List Value)}{a b:Ex}(hs:SL Z 5 v D4) (hx:Cr Z D4 [a,b]):∃ B off sp c cells r1 r2,v= .slice (some ⟨B,off,sp⟩) 2 c/\B<Z.n/\Z.row B=some cells /\
  sub cells off 5=some r1/\sub cells (off+5) 5=some r2/\Ag Z r1 a/\Ag Z r2 b:=by
 obtain⟨r1,rs1,rfl,hx1,hx⟩:=hx;obtain⟨r2,rs2,rfl,hx2,hx⟩:=hx;obtain rfl:rs2=[]:=hx;obtain⟨A,C,B,off,cells,rfl,c1,c2⟩:=SL.use hs;obtain⟨sp,rfl,l3,l4⟩:=c1 (by simp);exact⟨B,off,sp,C,cells,r1,r2,rfl,l3,l4,by simpa using c2 0 r1 rfl,by simpa using c2 1 r2 rfl,hx1,hx2⟩
def FW.arg (hf:FW k m e)(he:Ag Z row e):∃ o n d nm a len c,row=[str o,.int .i64 n,.int .i64 d,str nm,.slice a len c]/\((len=0/\k=1/\m=1)\/∃ B off sp cells k1 k2 m1 m2 e1 e2 r1 r2,len=2/\a=some ⟨B,off,sp⟩/\B<Z.n/\Z.row B=some cells/\k=1+max k1 k2/\m=m1+m2+1/\FW k1 m1 e1/\FW k2 m2 e2 /\
  sub cells off 5=some r1/\sub cells (off+5) 5=some r2/\Ag Z r1 e1/\Ag Z r2 e2):=by
 cases hf with
 | num h=>
   obtain⟨v,D4,rfl,h1,-,h2⟩:=he;obtain rfl:D4=[]:=h2;obtain⟨a,c,b,off,cells,rfl,-⟩:=SL.use h1;exact⟨_,_,_,_,_,_,_,rfl,.inl ⟨rfl,rfl,rfl⟩⟩
 | name h=>
   obtain⟨v,D4,rfl,h1,-,h2⟩:=he;obtain rfl:D4=[]:=h2;obtain⟨a,c,b,off,cells,rfl,-⟩:=SL.use h1;exact⟨_,_,_,_,_,_,_,rfl,.inl ⟨rfl,rfl,rfl⟩⟩
 | bin h ha hb=>
   obtain⟨v,D4,rfl,hs,-,hx⟩:=he;obtain⟨B,off,sp,c,cells,r1,r2,rfl,l3,l4,s1,s2,x1,x2⟩:=Hs hs hx;exact⟨_,_,_,_,_,_,_,rfl,.inr ⟨B,off,sp,cells,_,_,_,_,_,_,r1,r2,rfl,rfl,l3,l4,rfl,rfl,ha,hb,s1,s2,x1,x2⟩⟩
 | mm h ha hb=>
   obtain⟨v,D4,rfl,hs,-,hx⟩:=he;obtain⟨B,off,sp,c,cells,r1,r2,rfl,l3,l4,s1,s2,x1,x2⟩:=Hs hs hx;exact⟨_,_,_,_,_,_,_,rfl,.inr ⟨B,off,sp,cells,_,_,_,_,_,_,r1,r2,rfl,rfl,l3,l4,rfl,rfl,ha,hb,s1,s2,x1,x2⟩⟩
def YD {o:By}(h:o=[43]\/o=[45]\/o=[42]\/o=[47]\/o=[109,105,110]\/o=[109,97,120]){B off c:Nat}{sp:Option Nat}(hv:v= .slice (some ⟨B,off,sp⟩) 2 c):
  Ev (gO 117 [.agg ⟨[str o,.int .i64 0,.int .i64 0,str [],v]⟩] Z) (fun r=>∃ Z',r=⟨false,.bool true,Z'⟩/\Ext Z Z') ⟨⟩:=by
 subst hv;have d1:decide (o=[110,117,109])=false:=z4z (by rcases h with rfl|rfl|rfl|rfl|rfl|rfl<;>decide);have d2:decide (o=[110,97,109,101])=false:=z4z (by rcases h with rfl|rfl|rfl|rfl|rfl|rfl<;>decide);refine D0 Tryz.func117 rfl rfl ?_;have fin:∃ Z',(⟨false,.bool true,Z.new [str o,.int .i64 0,.int .i64 0,str [],.slice (some ⟨B,off,sp⟩) 2 c]⟩:CR)=⟨false,.bool true,Z'⟩/\Ext Z Z':=⟨_,rfl,eX⟩
 have zz:(decide ((0:Int)=0)&&decide ((0:Int)=0))=true:=rfl;have zs:decide (([]:By)=[])=true:=rfl;cases a1:decide (o=[43])
 case true=>refine gS1 (aI d1 (aI d2 (aI a1 (aI @G9 (aI @H2 (aI @AK (aI zz (aI zs (aI @bO @Tryz.results117))))))))) ?_;exact fin
 cases a2:decide (o=[45])
 case true=>refine gS1 (aI d1 (aI d2 (aI a1 (aI a2 (aI @G9 (aI @H2 (aI @AK (aI zz (aI zs (aI @bO @Tryz.results117)))))))))) ?_;exact fin
 cases a3:decide (o=[42])
 case true=>refine gS1 (aI d1 (aI d2 (aI a1 (aI a2 (aI a3 (aI @G9 (aI @H2 (aI @AK (aI zz (aI zs (aI @bO @Tryz.results117))))))))))) ?_;exact fin
 cases a4:decide (o=[47])
 case true=>refine gS1 (aI d1 (aI d2 (aI a1 (aI a2 (aI a3 (aI a4 (aI @G9 (aI @H2 (aI @AK (aI zz (aI zs (aI @bO @Tryz.results117)))))))))))) ?_;exact fin
 cases a5:decide (o=[109,105,110])
 case true=>refine gS1 (aI d1 (aI d2 (aI a1 (aI a2 (aI a3 (aI a4 (aI a5 (aI @G9 (aI @H2 (aI @AK (aI zz (aI zs (aI @bO @Tryz.results117))))))))))))) ?_;exact fin
 cases a6:decide (o=[109,97,120])
 case true=>refine gS1 (aI d1 (aI d2 (aI a1 (aI a2 (aI a3 (aI a4 (aI a5 (aI a6 (aI @G9 (aI @H2 (aI @AK (aI zz (aI zs (aI @bO @Tryz.results117)))))))))))))) ?_;exact fin
 exfalso;have f1:=z9z a1;have f2:=z9z a2;have f3:=z9z a3;have f4:=z9z a4;have f5:=z9z a5;have f6:=z9z a6;rcases h with h|h|h|h|h|h<;>contradiction
def pW (hf:FW k m e) (he:Ag Z row e):Ev (gO 117 [.agg ⟨row⟩] Z) (fun r=>∃ Z',r=⟨false,.bool true,Z'⟩/\Ext Z Z') ⟨⟩:=by
 cases hf with
 | @num n d h0=>
   obtain⟨v,D4,rfl,h1,-,h2⟩:=he;obtain rfl:D4=[]:=h2;obtain⟨a,c,b,off,cells,rfl,-⟩:=SL.use h1;have h:=h0.rq;have n0:=h0.n0;refine D0 Tryz.func117 rfl rfl ?_;simp(maxSteps:=8000000) (disch:=first|exact dS|fail) only[↓bD,bW,reduceMul,reduceEqDiff,reduceAdd,Nat.reduceBEq,reduceIte,Option.isNone_none,CJ];refine(WH h).mono ?_;rintro r ⟨Z2,rfl,hE2⟩;have r1:Z2.row Z.n=some [str [110,117,109],.int .i64 n,.int .i64 d,str [],.slice a 0 c]:=eT (hE2.row (cL)) cL;have c1:decide (n<0)=false:=dF;have c2:decide (d=0)=false:=z4z (by have:=h.d1;omega);have c3:=Ae0 (a:=1000000) (d:=d) om h0.d6;have c4:decide (1000000000*d<n)=false:=z4z (by have:=h.d1;have:=h.n2;omega);have i1:=h.d1;have i2:=h.d2;have hE:Ext Z Z2:=(Ext.AG (.refl _) _).trans hE2;refine gS1 (aI r1 (aI c1 (aI c2 (aI c3 (aI c4 (a3N @G9 @H2 @Tryz.results117)))))) ?_;exact⟨_,rfl,hE⟩
 | @name nm h h5 h6=>
   obtain⟨v,D4,rfl,h1,-,h2⟩:=he;obtain rfl:D4=[]:=h2;obtain⟨a,c,b,off,cells,rfl,-⟩:=SL.use h1;have d1:decide (([110,97,109,101]:By)=[110,117,109])=false:=by decide
   refine D0 Tryz.func117 rfl rfl ?_;simp(maxSteps:=8000000) (disch:=first|exact dS|fail) only[↓bD,bW,reduceMul,reduceEqDiff,reduceAdd,Nat.reduceBEq,reduceIte,Option.isNone_none,nmB,d1];refine Gn.mono ?_;rintro r rfl;have a1:CD nm=true:=by rw[IB];exact h
   have a2:decide (nm=[109,105,110])=false:=z4z h5;have a3:decide (nm=[109,97,120])=false:=z4z h6;refine gS1 (aI a1 (aI a2 (aI a3 (a5N @G9 @H2 @AK @bO @Tryz.results117)))) ?_;exact⟨_,rfl,eX⟩
 | bin h ha hb=>
   obtain⟨v,D4,rfl,hs,-,hx⟩:=he;obtain⟨B,off,sp,c,cells,r1,r2,hv,-⟩:=Hs hs hx;exact YD (by rcases h with h|h|h|h<;>simp[h]) hv
 | mm h ha hb=>
   obtain⟨v,D4,rfl,hs,-,hx⟩:=he;obtain⟨B,off,sp,c,cells,r1,r2,hv,-⟩:=Hs hs hx;exact YD (by rcases h with h|h<;>simp[h,GJ,HC]) hv
def TX:∀ (s:Nat){Z:St}{kd j:Nat}{e:Ex}{row:List Value},j<s->j<=1000000000->FW kd j e->Ag Z row e->Ev (gO 73 [.agg ⟨row⟩] Z) (fun r=>∃ Z':St,r=⟨false,.int .i64 (j:Nat),Z'⟩/\Ext Z Z') ⟨⟩:=by
 intro s;induction s with
 |zero=>intro Z kd j e row hs;omega
 | succ s ih=>
   intro Z kd j e row hs hj hf he;obtain⟨o,n,d,nm,a,m,c,rfl,h⟩:=hf.arg he;refine D0 Tryz.func73 rfl rfl ?_;refine gS ?_;obtain⟨R,hR⟩:∃ R:List Value,[str o,.int .i64 n,.int .i64 d,str nm,.slice a m c]=R:=⟨_,rfl⟩
   have hs3:sub R 4 1=some [.slice a m c]:=by rw[<- hR];rfl
   rw[hR];rcases h with⟨rfl,rfl,rfl⟩|⟨B,off,sp,cells,k1,k2,j1,j2,e1,e2,r1,r2,rfl,rfl,l3,l4,rfl,rfl,f1,f2,s1,s2,x1,x2⟩
   ·refine F4 0 (fun k fr Z'=>fr.get 4=some (.int .i64 k)/\fr.get 1=some (.pointer (some ⟨Z.n,0,none⟩))/\Z'=Z.new R/\fr.get 3=some (.int .i64 1))
     (fun r=>∃ fr,r=⟨.exit 0,fr,Z.new R⟩/\fr.get 3=some (.int .i64 1)) ?_ ?_ ?_ ?_
    ·exact⟨fR,fR,rfl,fR⟩
    ·rintro k fr Z' hk;omega
    ·rintro fr Z' ⟨g4,g1,rfl,g3⟩;refine gS1 (aI g4 (aI g1 hs3)) ?_;exact⟨_,rfl,fR1 g3⟩
    rintro r ⟨fr,rfl,g3⟩;refine gS1 (aI g3 @Tryz.results73) ?_;exact⟨_,rfl,eX⟩
   refine F4 2 (fun k fr Z'=>fr.get 4=some (.int .i64 k)/\fr.get 1=some (.pointer (some ⟨Z.n,0,none⟩))/\Ext (Z.new R) Z'/\∃ p:Nat,fr.get 3=some (.int .i64 (p:Nat))/\((k=0/\p=1)\/(k=1/\p=1+j1)\/(k=2/\p=j1+j2+1)))
    (fun r=>∃ fr Z',r=⟨.exit 0,fr,Z'⟩/\Ext Z Z'/\∃ p:Nat,fr.get 3=some (.int .i64 (p:Nat))/\p=j1+j2+1) ?_ ?_ ?_ ?_
   ·exact⟨fR,fR,.refl _,_,fR,.inl ⟨rfl,rfl⟩⟩
   ·rintro k fr Z' hk ⟨g4,g1,hE,p,g3,hh⟩;have hc:=J2 hk;have w1:Z'.row Z.n=some R:=eT (hE.row (by simp)) cL;have hEn:=hE.n;simp only[N8]at hEn;have hE0:Ext Z Z':=Ext.trans (eX) hE;have w2:=eT (hE0.row l3) l4;have hk2:k=0\/k=1:=om;have both:∃ kk jj ee rr,sub cells (off+k*5) 5=some rr/\FW kk jj ee/\Ag Z rr ee/\jj<s/\jj<=1000000000/\((k=0/\jj=j1)\/(k=1/\jj=j2)):=by
     rcases hk2 with rfl|rfl
     ·exact⟨k1,j1,e1,r1,by simpa using s1,f1,x1,om,om,.inl ⟨rfl,rfl⟩⟩
     ·exact⟨k2,j2,e2,r2,by simpa using s2,f2,x2,om,om,.inr ⟨rfl,rfl⟩⟩
    obtain⟨kk,jj,ee,rr,s3,f3,x3,y1,y2,y3⟩:=both;refine gS1 (aI g4 (aI g1 (aI g3 (aI hc (aI w1 (aI hs3 (aI w2 s3))))))) ?_;refine(ih y1 y2 f3 (x3.mono hE0)).mono ?_;rintro r ⟨Z2,rfl,hE2⟩;refine gS1 (aI g4 (aI g1 g3)) ?_;refine⟨fR,fR1 g1,hE.trans hE2,p+jj,fR,?_⟩;omega
   ·rintro fr Z' ⟨g4,g1,hE,p,g3,hh⟩;have w1:Z'.row Z.n=some R:=eT (hE.row (by simp)) cL;refine gS1 (aI g4 (aI g1 (aI w1 hs3))) ?_;exact⟨_,_,rfl,Ext.trans (eX) hE,p,fR1 g3,om⟩
   rintro r ⟨fr,Z',rfl,hE,p,g3,hp⟩;refine gS1 (aI g3 @Tryz.results73) ?_;subst hp;exact⟨_,rfl,hE⟩
def TY:∀ (s:Nat){Z:St}{kd j:Nat}{e:Ex}{row:List Value},j<s->j<=1000000000->FW kd j e->Ag Z row e->Ev (gO 74 [.agg ⟨row⟩] Z) (fun r=>∃ Z':St,r=⟨false,.int .i64 (kd:Nat),Z'⟩/\Ext Z Z') ⟨⟩:=by
 intro s;induction s with
 |zero=>intro Z kd j e row hs;omega
 | succ s ih=>
   intro Z kd j e row hs hj hf he;obtain⟨o,n,d,nm,a,m,c,rfl,h⟩:=hf.arg he;refine D0 Tryz.func74 rfl rfl ?_;refine gS ?_;obtain⟨R,hR⟩:∃ R:List Value,[str o,.int .i64 n,.int .i64 d,str nm,.slice a m c]=R:=⟨_,rfl⟩
   have hs3:sub R 4 1=some [.slice a m c]:=by rw[<- hR];rfl
   rw[hR];rcases h with⟨rfl,rfl,rfl⟩|⟨B,off,sp,cells,k1,k2,j1,j2,e1,e2,r1,r2,rfl,rfl,l3,l4,rfl,rfl,f1,f2,s1,s2,x1,x2⟩
   ·refine F4 0 (fun k fr Z'=>fr.get 4=some (.int .i64 k)/\fr.get 1=some (.pointer (some ⟨Z.n,0,none⟩))/\Z'=Z.new R/\fr.get 3=some (.int .i64 0))
     (fun r=>∃ fr,r=⟨.exit 0,fr,Z.new R⟩/\fr.get 3=some (.int .i64 0)) ?_ ?_ ?_ ?_
    ·exact⟨fR,fR,rfl,fR⟩
    ·rintro k fr Z' hk;omega
    ·rintro fr Z' ⟨g4,g1,rfl,g3⟩;refine gS1 (aI g4 (aI g1 hs3)) ?_;exact⟨_,rfl,fR1 g3⟩
    rintro r ⟨fr,rfl,g3⟩;refine gS1 (aI g3 @Tryz.results74) ?_;exact⟨_,rfl,eX⟩
   refine F4 2 (fun k fr Z'=>fr.get 4=some (.int .i64 k)/\fr.get 1=some (.pointer (some ⟨Z.n,0,none⟩))/\Ext (Z.new R) Z'/\∃ p:Nat,fr.get 3=some (.int .i64 (p:Nat))/\((k=0/\p=0)\/(k=1/\p=k1)\/(k=2/\p=max k1 k2)))
    (fun r=>∃ fr Z',r=⟨.exit 0,fr,Z'⟩/\Ext Z Z'/\∃ p:Nat,fr.get 3=some (.int .i64 (p:Nat))/\p=max k1 k2) ?_ ?_ ?_ ?_
   ·exact⟨fR,fR,.refl _,_,fR,.inl ⟨rfl,rfl⟩⟩
   ·rintro k fr Z' hk ⟨g4,g1,hE,p,g3,hh⟩;have hc:=J2 hk;have w1:Z'.row Z.n=some R:=eT (hE.row (by simp)) cL;have hEn:=hE.n;simp only[N8]at hEn;have hE0:Ext Z Z':=Ext.trans (eX) hE;have w2:=eT (hE0.row l3) l4;have hk2:k=0\/k=1:=om;have both:∃ kk jj ee rr,sub cells (off+k*5) 5=some rr/\FW kk jj ee/\Ag Z rr ee/\jj<s/\jj<=1000000000/\((k=0/\kk=k1)\/(k=1/\kk=k2)):=by
     rcases hk2 with rfl|rfl
     ·exact⟨k1,j1,e1,r1,by simpa using s1,f1,x1,om,om,.inl ⟨rfl,rfl⟩⟩
     ·exact⟨k2,j2,e2,r2,by simpa using s2,f2,x2,om,om,.inr ⟨rfl,rfl⟩⟩
    obtain⟨kk,jj,ee,rr,s3,f3,x3,y1,y2,y3⟩:=both;refine gS1 (aI g4 (aI g1 (aI g3 (aI hc (aI w1 (aI hs3 (aI w2 s3))))))) ?_;refine(ih y1 y2 f3 (x3.mono hE0)).mono ?_;rintro r ⟨Z2,rfl,hE2⟩;refine gS1 (aI g4 (aI g1 g3)) ?_;refine⟨fR,fR1 g1,hE.trans hE2,max p kk,by rw[show((max p kk:Nat):Int)=max (p:Int) (kk:Int) by omega],?_⟩;omega
   ·rintro fr Z' ⟨g4,g1,hE,p,g3,hh⟩;have w1:Z'.row Z.n=some R:=eT (hE.row (by simp)) cL;refine gS1 (aI g4 (aI g1 (aI w1 hs3))) ?_;exact⟨_,_,rfl,Ext.trans (eX) hE,p,fR1 g3,om⟩
   rintro r ⟨fr,Z',rfl,hE,p,g3,hp⟩;have q1:=f1.le;have q2:=f2.le;refine gS1 (aI g3 @Tryz.results74) ?_;subst hp;exact⟨_,by rw[lM (max k1 k2) 1],hE⟩
def jc:∀ (s:Nat){Z:St}{kd j:Nat}{e:Ex}{row:List Value},j<s->j<=1000000000->FW kd j e->Ag Z row e->Ev (gO 72 [.agg ⟨row⟩] Z) (fun r=>∃ Z',r=⟨false,.bool true,Z'⟩/\Ext Z Z') ⟨⟩:=by
 intro s;induction s with
 |zero=>intro Z kd j e row hs;omega
 | succ s ih=>
   intro Z kd j e row hs hj hf he;have hlen:=he.len;have hfr:sub row 0 5=some row:=D8 om om;refine D0 Tryz.func72 rfl rfl ?_;refine gS1 hfr ?_;have E0:Ext Z (Z.new row):=eX;refine(pW hf (he.mono E0)).mono ?_;rintro r ⟨Z2,rfl,hE2⟩;have n2:=hE2.n;simp only[N8]at n2;obtain⟨o,n,d,nm,a,m,c,rfl,h⟩:=hf.arg he;obtain⟨R,hR⟩:∃ R:List Value,[str o,.int .i64 n,.int .i64 d,str nm,.slice a m c]=R:=⟨_,rfl⟩
   have hs3:sub R 4 1=some [.slice a m c]:=by rw[<- hR];rfl
   rw[hR]at hE2;have E0:Ext Z (Z.new R):=eX;refine gS ?_
   refine F4 m (fun k fr Z'=>fr.get 4=some (.int .i64 k)/\fr.get 1=some (.pointer (some ⟨Z.n,0,none⟩))/\Ext (Z.new R) Z'/\fr.get 3=some (.bool true))
    (fun r=>∃ fr Z',r=⟨.exit 0,fr,Z'⟩/\Ext Z Z'/\fr.get 3=some (.bool true)) ?_ ?_ ?_ ?_
   ·exact⟨fR,fR,hE2,fR⟩
   ·rintro k fr Z' hk ⟨g4,g1,hE,g3⟩;have hc:=J2 hk;have w1:Z'.row Z.n=some R:=eT (hE.row (by simp)) cL;have hEn:=hE.n;simp only[N8]at hEn;have hE0:Ext Z Z':=E0.trans hE;rcases h with⟨rfl,rfl,rfl⟩|⟨B,off,sp,cells,k1,k2,j1,j2,e1,e2,r1,r2,rfl,rfl,l3,l4,rfl,rfl,f1,f2,s1,s2,x1,x2⟩
    ·omega
    have w2:=eT (hE0.row l3) l4;have hk2:k=0\/k=1:=om;have both:∃ kk jj ee rr,sub cells (off+k*5) 5=some rr/\FW kk jj ee/\Ag Z rr ee/\jj<s/\jj<=1000000000:=by
     rcases hk2 with rfl|rfl
     ·exact⟨k1,j1,e1,r1,by simpa using s1,f1,x1,om,om⟩
     ·exact⟨k2,j2,e2,r2,by simpa using s2,f2,x2,om,om⟩
    obtain⟨kk,jj,ee,rr,s3,f3,x3,y1,y2⟩:=both;refine gS1 (aI g4 (aI g1 (aI g3 (aI hc (aI w1 (aI hs3 (aI w2 s3))))))) ?_;refine(ih y1 y2 f3 (x3.mono hE0)).mono ?_;rintro r ⟨Z3,rfl,hE3⟩;refine gS1 (aI g4 (aI g1 g3)) ?_;exact⟨fR,fR1 g1,hE.trans hE3,fR⟩
   ·rintro fr Z' ⟨g4,g1,hE,g3⟩;have w1:Z'.row Z.n=some R:=eT (hE.row (by simp)) cL;refine gS1 (aI g4 (aI g1 (aI w1 hs3))) ?_;exact⟨_,_,rfl,E0.trans hE,fR1 g3⟩
   rintro r ⟨fr,Z',rfl,hE,g3⟩;refine gS1 (aI g3 @Tryz.results72) ?_;exact⟨_,rfl,hE⟩
def bP {kd j:Nat}(hk:kd<=12) (hj:j<=60) (hf:FW kd j e) (he:Ag Z row e):Ev (gO 33 [.agg ⟨row⟩] Z) (fun r=>∃ Z',r=⟨false,.bool true,Z'⟩/\Ext Z Z') ⟨⟩:=by
 have hlen:=he.len;have hfr:sub row 0 5=some row:=D8 om om;refine D0 Tryz.func33 rfl rfl ?_;refine gS1 hfr ?_;have E0:Ext Z (Z.new row):=eX;refine(jc _ (MF _) om hf (he.mono E0)).mono ?_;rintro r ⟨Z2,rfl,hE2⟩;have w2:Z2.row Z.n=some row:=eT (hE2.row (by simp)) cL;have E2:=E0.trans hE2;refine gS1 (aI w2 hfr) ?_;refine(TX _ (MF _) om hf (he.mono E2)).mono ?_;rintro r ⟨Z3,rfl,hE3⟩;have w3:=eT (hE3.row (by have:=hE2.n;simp at this;omega)) w2;have E3:=E2.trans hE3;have q:decide (60<(j:Int))=false:=dF;refine gS1 (aI q (aI w3 hfr)) ?_;refine(TY _ (MF _) om hf (he.mono E3)).mono ?_;rintro r ⟨Z4,rfl,hE4⟩;have q2:decide (12<(kd:Int))=false:=dF;refine gS1 (aI q2 (a3N @G9 @H2 @Tryz.results33)) ?_;exact⟨_,rfl,E3.trans hE4⟩
end
end Go.Proofs.T
namespace Go.Proofs.T
open Go Go.Ab
section
variable {o:By}{Z:St}{e:Ex}{row r:List Value}{b:Bool}
def Cl (Z:St):List (Nat×List Value)->Prop
 | []=>True
 | (b,cs)::l=>(b<Z.n/\Z.A7 b=some cs)/\Cl Z l
def Cl.Ab0 {Z Z':St}(hE:Ext Z Z'):∀ {l:List (Nat×List Value)},Cl Z l->Cl Z' l
 | [],_=>trivial
 | (b,cs)::l,h=>⟨⟨z5z h.1.1 hE.n,by rw[hE.A7 h.1.1];exact h.1.2⟩,Cl.Ab0 hE h.2⟩
def Cl.ext {Z':St}{l:List (Nat×List Value)}(h:Cl Z l) (hE:Ext Z Z'):Cl Z' l:=Cl.Ab0 hE h
def Ag.gw {Z:St}{row:List Value}:∀ {e:Ex},Ag Z row e->∃ o n d nm v,row=[str o,.int .i64 n,.int .i64 d,str nm,v]/\∃ l,e= .mk o n d nm l
 | .mk o n d nm l,h=>by obtain⟨v,D4,h,-⟩:=h;exact⟨o,n,d,nm,v,h,l,rfl⟩
def opE:Ex->By
 | .mk o _ _ _ _=>o
def isP (o:By):Bool:=decide (o=[42])||decide (o=[47])
def isS (o:By):Bool:=decide (o=[43])||decide (o=[45])
def Ws {g I3:Nat}:Az (g+1) I3 e=par (decide (lvl (opE e)<I3)) (Az (g+1) 0 e):=by
 cases e with
 | mk o n d nm l=>
   show par _ _=par _ (par (decide (lvl o<0)) _);have:decide (lvl o<0)=false:=sI;rw[this];rfl
def Oc:decide (lvl o<1)=isS o:=by
 unfold lvl isS;by_cases h:o=[43]\/o=[45]
 ·rw[z1z h];rcases h with h|h<;>simp[h]
 ·rw[z0z h];have h1:o≠[43]:=fun e=>h (.inl e);have h2:o≠[45]:=fun e=>h (.inr e);split<;>simp[h1,h2]
def eB:decide (lvl o<2)=(isS o||isP o):=by
 unfold lvl isS isP;by_cases h:o=[43]\/o=[45]
 ·rw[z1z h];rcases h with h|h<;>simp[h]
 ·rw[z0z h];have h1:o≠[43]:=fun e=>h (.inl e);have h2:o≠[45]:=fun e=>h (.inr e);by_cases h3:o=[42]\/o=[47]
  ·rw[z1z h3];rcases h3 with h3|h3<;>simp[h3]
  ·rw[z0z h3];have h4:o≠[42]:=fun e=>h3 (.inl e);have h5:o≠[47]:=fun e=>h3 (.inr e);simp[h1,h2,h4,h5]
def uY:∀ (f r D:Nat),r<D->(frT f r D).length<=f:=by
 intro f;induction f with
 |zero=>intro r D _;simp[frT]
 | succ f ih=>
   intro r D h;unfold frT;split
   ·simp
   ·have h1:10*r / D<10:=eC (by rw[CG];omega);have:=ih (10*r % D) D (Hg _ om);rw[BD,Cn h1];simp;omega
def uZ {n d:Int}(h:Ni n d):(deT n d).length<=17:=by
 have h1:=h.rq;have h2:=h.n0;have hd:=h1.d1;have hn:=h1.n2;unfold deT;have a1:n.toNat / d.toNat<=1000000000:=zV om;have a2:=Od 9 (n.toNat / d.toNat) om;have a3:=uY 6 (n.toNat % d.toNat) d.toNat (Hg _ om);rw[BD];split
 ·simp;omega
 ·simp;omega
def HP {s:By}:(par b s).length<=s.length+2:=by
 unfold par;cases b<;>simp
def QC {nm:By}(h:BB nm=true):nm.length<=30:=by
 unfold BB at h;rw[y6,y6]at h;exact z6z h.1.2
def Jk {k m:Nat}(h:FW k m e):∀ g I3,k<=g->(Az g I3 e).length+8<=50*m:=by
 induction h with
 | @num n d h=>
   intro g I3 hg;obtain⟨g,rfl⟩:∃ x,g=x+1:=⟨g-1,om⟩
   refine X0 (eD (HP (b:=_) (s:=_)) 8) ?_;rw[z1z rfl];have:=uZ h;omega
 | @name nm h1 h2 h3=>
   intro g I3 hg;obtain⟨g,rfl⟩:∃ x,g=x+1:=⟨g-1,om⟩
   refine X0 (eD (HP (b:=_) (s:=_)) 8) ?_;rw[z0z (by decide),z1z rfl];have:=QC h1;omega
 | @bin k j m i o a b h ha hb iha ihb=>
   intro g I3 hg;obtain⟨g,rfl⟩:∃ x,g=x+1:=⟨g-1,om⟩
   refine X0 (eD (HP (b:=_) (s:=_)) 8) ?_;have hn:o≠CJ/\o≠nmB/\¬ (o=GJ\/o=HC):=by rcases h with rfl|rfl|rfl|rfl<;>decide
   have ho:o.length=1:=by rcases h with rfl|rfl|rfl|rfl<;>rfl
   rw[z0z hn.1,z0z hn.2.1];dsimp only;rw[z0z hn.2.2];have h1:=iha g (lvl o) om;have h2:=ihb g (lvl o+1) om;simp only[BD,Ah,ho];omega
 | @mm k j m i o a b h ha hb iha ihb=>
   intro g I3 hg;obtain⟨g,rfl⟩:∃ x,g=x+1:=⟨g-1,om⟩
   refine X0 (eD (HP (b:=_) (s:=_)) 8) ?_;have hn:o≠CJ/\o≠nmB:=by rcases h with rfl|rfl<;>decide
   have ho:o.length=3:=by rcases h with rfl|rfl<;>rfl
   rw[z0z hn.1,z0z hn.2];dsimp only;rw[z1z h];have h1:=iha g 0 om;have h2:=ihb g 0 om;simp only[BD,Ah,JH,ho];omega
def QD (hr:row=str o::r) (hl:row.length=5):Ev (gO 120 [.agg ⟨row⟩] Z) (fun r=>∃ Z',r=⟨false,.bool (isP o),Z'⟩/\Ext Z Z') ⟨⟩:=by
 have hfr:sub row 0 5=some row:=D8 om om;have h1:sub row 0 1=some [str o]:=by subst hr;rfl
 refine D0 Tryz.func120 rfl rfl ?_;unfold isP;cases a:decide (o=[42])<;>refine gS1 (aI hfr (aI h1 (aI a (a3N @G9 @H2 @Tryz.results120)))) ?_<;>exact⟨_,rfl,eX⟩
def Sv (hr:row=str o::r) (hl:row.length=5):Ev (gO 121 [.agg ⟨row⟩] Z) (fun r=>∃ Z',r=⟨false,.bool (isS o),Z'⟩/\Ext Z Z') ⟨⟩:=by
 have hfr:sub row 0 5=some row:=D8 om om;have h1:sub row 0 1=some [str o]:=by subst hr;rfl
 refine D0 Tryz.func121 rfl rfl ?_;unfold isS;cases a:decide (o=[43])<;>refine gS1 (aI hfr (aI h1 (aI a (a3N @G9 @H2 @Tryz.results121)))) ?_<;>exact⟨_,rfl,eX⟩
def FM (j:Nat) (e:Ex) (t:By):Prop:=∀ {Z:St}{row:List Value},j<=1000->Ag Z row e->Ev (gO 77 [.agg ⟨row⟩] Z) (fun r=>∃ Z',r=⟨false,str t,Z'⟩/\Ext Z Z') ⟨⟩
def MX {j:Nat}{t:By}(h:FM j e t) (ht:t.length<=1000000)(hj:j<=1000) (he:Ag Z row e):Ev (gO 122 [.agg ⟨row⟩,.bool b] Z) (fun r=>∃ Z',r=⟨false,str (par b t),Z'⟩/\Ext Z Z') ⟨⟩:=by
 have hlen:=he.len;have hfr:sub row 0 5=some row:=D8 om om;refine D0 Tryz.func122 rfl rfl ?_;have E0:Ext Z (Z.new row):=eX;cases b with
 | true=>
   refine gS1 hfr ?_;refine(h hj (he.mono E0)).mono ?_;rintro r ⟨Z2,rfl,hE⟩;refine gS1 @Tryz.results122 ?_;exact⟨_,rfl,E0.trans hE⟩
 | false=>
   refine gS1 hfr ?_;refine(h hj (he.mono E0)).mono ?_;rintro r ⟨Z2,rfl,hE⟩;refine gS1 @Tryz.results122 ?_;exact⟨_,rfl,E0.trans hE⟩
def ir {a b:Ex}{j1 j2:Nat}{ta tb:By}(h:o=GJ\/o=HC) (iha:FM j1 a ta) (ihb:FM j2 b tb) (l1:ta.length<=1000000) (l2:tb.length<=1000000):FM (j1+j2+1) (.mk o 0 0 [] [a,b]) (o++40::(ta++44::32::(tb++[41]))):=by
  intro Z row hj he;obtain⟨v,D4,rfl,hsl,-,hex⟩:=he;obtain⟨B,off,sp,c,cells,r1,r2,rfl,l3,l4,s1,s2,x1,x2⟩:=Hs hsl hex;have d1:decide (o=[110,117,109])=false:=z4z (by rcases h with rfl|rfl<;>decide);have d2:decide (o=[110,97,109,101])=false:=z4z (by rcases h with rfl|rfl<;>decide);have lo:o.length=3:=by rcases h with rfl|rfl<;>rfl
  refine D0 Tryz.func77 rfl rfl ?_;obtain⟨R,hR⟩:∃ R:List Value,[str o,.int .i64 0,.int .i64 0,str [],.slice (some ⟨B,off,sp⟩) 2 c]=R:=⟨_,rfl⟩
  have q0:sub R 0 1=some [str o]:=by rw[<- hR];rfl
  have q4:sub R 4 1=some [.slice (some ⟨B,off,sp⟩) 2 c]:=by rw[<- hR];rfl
  have qf:sub R 0 5=some R:=by rw[<- hR];rfl
  have ql:R.length=5:=by rw[<- hR];rfl
  rw[hR];have E0:Ext Z (Z.new R):=eX;have key:∀ x y:Bool,decide (o=[109,105,110])=x->decide (o=[109,97,120])=y->(x=true\/y=true):=by
   intro x y hx hy;rcases h with rfl|rfl
   ·left;rw[<- hx];rfl
   ·right;rw[<- hy];rfl
  cases m1:decide (o=[109,105,110])with
  | true=>
    refine gS1 (aI q0 (aI q4 (aI qf (aI d1 (aI d2 (aI m1 (aI l4 (aI s1 @Ej)))))))) ?_;refine(iha om (x1.mono E0)).mono ?_;rintro r ⟨Z2,rfl,hE2⟩;have n2:=hE2.n;simp only[N8]at n2;have w1:Z2.row Z.n=some R:=eT (hE2.row (by simp)) cL;have E2:=E0.trans hE2;have w2:=eT (E2.row l3) l4;refine gS1 (aI w1 (aI w2 (aI q4 s2))) ?_;refine(ihb om (x2.mono E2)).mono ?_;rintro r ⟨Z3,rfl,hE3⟩;refine gS1 (aI (asx hE2) (aI (asx hE3) @Tryz.results77)) ?_
    try refine dW1 (aI (asx hE2) (asx hE3)) ?_
    try(refine gS1 @Tryz.results77 ?_;try exact⟨⟩)
    exact⟨_,by simp,E2.trans hE3⟩
  |false=>
  cases m2:decide (o=[109,97,120])with
  |false=>rcases key _ _ m1 m2 with h|h<;>cases h
  | true=>
    refine gS1 (aI q0 (aI q4 (aI qf (aI d1 (aI d2 (aI m1 (aI m2 (aI l4 (aI s1 @Ej))))))))) ?_;refine(iha om (x1.mono E0)).mono ?_;rintro r ⟨Z2,rfl,hE2⟩;have n2:=hE2.n;simp only[N8]at n2;have w1:Z2.row Z.n=some R:=eT (hE2.row (by simp)) cL;have E2:=E0.trans hE2;have w2:=eT (E2.row l3) l4;refine gS1 (aI w1 (aI w2 (aI q4 s2))) ?_;refine(ihb om (x2.mono E2)).mono ?_;rintro r ⟨Z3,rfl,hE3⟩;refine gS1 (aI (asx hE2) (aI (asx hE3) @Tryz.results77)) ?_
    try refine dW1 (aI (asx hE2) (asx hE3)) ?_
    try(refine gS1 @Tryz.results77 ?_;try exact⟨⟩)
    exact⟨_,by simp,E2.trans hE3⟩
end
end Go.Proofs.T
namespace Go.Proofs.T
open Go Go.Ab
open Nat (reduceMul reduceEqDiff reduceAdd)
def bM {o:By}{a b:Ex}{j1 j2:Nat}{ta tb:By}(h:o=[43]\/o=[45]\/o=[42]\/o=[47]) (iha:FM j1 a ta) (ihb:FM j2 b tb) (l1:ta.length<=1000000) (l2:tb.length<=1000000) :
  FM (j1+j2+1) (.mk o 0 0 [] [a,b]) (par (isS (opE a)&&isP o) ta++32::(o++32::par (isS (opE b)||(isP (opE b)&&isP o)) tb)):=by
  intro Z row hj he;obtain⟨v,D4,rfl,hsl,-,hex⟩:=he;obtain⟨B,off,sp,c,cells,r1,r2,rfl,l3,l4,s1,s2,x1,x2⟩:=Hs hsl hex;have d1:decide (o=[110,117,109])=false:=z4z (by rcases h with rfl|rfl|rfl|rfl<;>decide);have d2:decide (o=[110,97,109,101])=false:=z4z (by rcases h with rfl|rfl|rfl|rfl<;>decide);have m1:decide (o=[109,105,110])=false:=z4z (by rcases h with rfl|rfl|rfl|rfl<;>decide);have m2:decide (o=[109,97,120])=false:=z4z (by rcases h with rfl|rfl|rfl|rfl<;>decide);have lo:o.length=1:=by rcases h with rfl|rfl|rfl|rfl<;>rfl
  have AI9:=x1.len;have Ad9:=x2.len;have hf1:sub r1 0 5=some r1:=D8 om om;have hf2:sub r2 0 5=some r2:=D8 om om;refine D0 Tryz.func77 rfl rfl ?_;obtain⟨R,hR⟩:∃ R:List Value,[str o,.int .i64 0,.int .i64 0,str [],.slice (some ⟨B,off,sp⟩) 2 c]=R:=⟨_,rfl⟩
  have q0:sub R 0 1=some [str o]:=by rw[<- hR];rfl
  have q4:sub R 4 1=some [.slice (some ⟨B,off,sp⟩) 2 c]:=by rw[<- hR];rfl
  have qf:sub R 0 5=some R:=by rw[<- hR];rfl
  have ql:R.length=5:=by rw[<- hR];rfl
  rw[hR];have E0:Ext Z (Z.new R):=eX;refine gS1 (aI q0 (aI q4 (aI qf (aI d1 (aI d2 (aI m1 (aI m2 (aI l4 (aI s1 (aI s2 @Ej)))))))))) ?_;obtain⟨S0,hS0⟩:=nm ((((((Z.new R).new [str [],.int .i64 0,.int .i64 0,str [],.slice none 0 0] (some 35)).upd (Z.n+1) r1).new [str [],.int .i64 0,.int .i64 0,str [],.slice none 0 0] (some 35)).upd (Z.n+1+1) r2));rw[hS0];have E0:Ext Z S0:=by rw[<- hS0];exact eX
  have n0:S0.n=Z.n+3:=by rw[<- hS0];rfl
  have C0:Cl S0 [(Z.n,R),(Z.n+1,r1),(Z.n+1+1,r2)]:=⟨⟨om,by rw[<- hS0];exact cL⟩,⟨om,by rw[<- hS0];exact cL⟩,⟨om,by rw[<- hS0];exact cL⟩,trivial⟩
  obtain⟨o1,m1',k1',nn1,v1,hr1,al,rfl⟩:=x1.gw;obtain⟨o2,m2',k2',nn2,v2,hr2,bl,rfl⟩:=x2.gw;have pl1:=HP (b:=true) (s:=ta);have pl2:=HP (b:=false) (s:=ta);have pl3:=HP (b:=true) (s:=tb);have pl4:=HP (b:=false) (s:=tb);refine(QD hR.symm ql).mono ?_;rintro r ⟨Z2,rfl,hE2⟩;have C2:=C0.ext hE2;have E2:=E0.trans hE2;obtain⟨⟨-,a0⟩,⟨-,a1⟩,⟨-,a2⟩,-⟩:=id C2;have a0:=A6 a0;have a1:=A6 a1;have a2:=A6 a2;refine gS1 (aI a1 hf1) ?_;refine(Sv hr1 AI9).mono ?_;rintro r ⟨Z3,rfl,hE3⟩;have C3:=C2.ext hE3;have E3:=E2.trans hE3;obtain⟨⟨-,a0⟩,⟨-,a1⟩,⟨-,a2⟩,-⟩:=id C3;have a0:=A6 a0;have a1:=A6 a1;have a2:=A6 a2;refine gS1 (aI a2 hf2) ?_;refine(Sv hr2 Ad9).mono ?_;rintro r ⟨Z4,rfl,hE4⟩;have C4:=C3.ext hE4;have E4:=E3.trans hE4;obtain⟨⟨-,a0⟩,⟨-,a1⟩,⟨-,a2⟩,-⟩:=id C4;have a0:=A6 a0;have a1:=A6 a1;have a2:=A6 a2;refine gS1 (aI a2 hf2) ?_;refine(QD hr2 Ad9).mono ?_;rintro r ⟨Z5,rfl,hE5⟩;have C5:=C4.ext hE5;have E5:=E4.trans hE5;obtain⟨⟨-,a0⟩,⟨-,a1⟩,⟨-,a2⟩,-⟩:=id C5;have a0:=A6 a0;have a1:=A6 a1;have a2:=A6 a2;obtain⟨b1,hb1⟩:=nm (isP o);obtain⟨b2,hb2⟩:=nm (isS o1);obtain⟨b3,hb3⟩:=nm (isS o2);obtain⟨b4,hb4⟩:=nm (isP o2)
  cases b1<;>cases b2<;>(
   refine gS1 (aI hb1 (aI hb2 (aI hb3 (aI hb4 (aI a1 hf1))))) ?_;refine(MX iha l1 om (x1.mono E5)).mono ?_;rintro r ⟨Z6,rfl,hE6⟩;have C6:=C5.ext hE6;have E6:=E5.trans hE6;obtain⟨⟨-,a0⟩,⟨-,a1⟩,⟨-,a2⟩,-⟩:=id C6;have a0:=A6 a0;have a1:=A6 a1;have a2:=A6 a2
   cases b3<;>cases b4<;>(
    refine gS1 (aI hb1 (aI hb3 (aI hb4 (aI a0 (aI a2 (aI q0 hf2)))))) ?_;refine(MX ihb l2 om (x2.mono E6)).mono ?_;rintro r ⟨Z7,rfl,hE7⟩;refine gS1 (aI (asx hE6) (aI (asx hE7) @Tryz.results77)) ?_
    try refine dW1 (aI (asx hE6) (asx hE7)) ?_
    try(refine gS1 @Tryz.results77 ?_;try exact⟨⟩)
    refine⟨_,?_,E6.trans hE7⟩;show _=(⟨false,str (par (isS o1&&isP o) ta++32::(o++32::par (isS o2||(isP o2&&isP o)) tb)),_⟩:CR)
    rw[hb1,hb2,hb3,hb4];simp))
def ja {k m:Nat}{e:Ex}(h:FW k m e):∀ g,k<=g->m<=1000->FM m e (Az g 0 e):=by
 induction h with
 | @num n d h=>
   intro g hg _ Z row hj he;obtain⟨g,rfl⟩:∃ x,g=x+1:=⟨g-1,om⟩
   obtain⟨v,D4,rfl,-,-,-⟩:=he;have hs:Az (g+1) 0 (.mk CJ n d [] [])=deT n d:=rfl;rw[hs];refine D0 Tryz.func77 rfl rfl ?_;simp(maxSteps:=8000000) (disch:=first|exact dS|fail) only[↓bD,bW,reduceMul,reduceEqDiff,reduceAdd,Nat.reduceBEq,reduceIte,Option.isNone_none,CJ];refine(Xq h.rq h.n0 h.d6).mono ?_;rintro r ⟨Z2,rfl,hE⟩;refine gS1 @Tryz.results77 ?_;exact⟨_,rfl,Ext.trans (eX) hE⟩
 | @name nm h h1 h2=>
   intro g hg _ Z row hj he;obtain⟨g,rfl⟩:∃ x,g=x+1:=⟨g-1,om⟩
   obtain⟨v,D4,rfl,-,-,-⟩:=he;have d1:decide (([110,97,109,101]:By)=[110,117,109])=false:=by decide
   have hs:Az (g+1) 0 (.mk nmB 0 0 nm [])=nm:=rfl;rw[hs];refine D0 Tryz.func77 rfl rfl ?_;simp(maxSteps:=8000000) (disch:=first|exact dS|fail) only[↓bD,bW,reduceMul,reduceEqDiff,reduceAdd,Nat.reduceBEq,reduceIte,Option.isNone_none,nmB,d1,Tryz.results77];exact⟨_,rfl,eX⟩
 | @bin k j m i o a b h ha hb iha ihb=>
   intro g hg hm;obtain⟨g,rfl⟩:∃ x,g=x+1:=⟨g-1,om⟩
   have hn:o≠CJ/\o≠nmB/\¬ (o=GJ\/o=HC):=by rcases h with rfl|rfl|rfl|rfl<;>decide
   have la:=Jk ha g 0 om;have lb:=Jk hb g 0 om;have key:FM (m+i+1) (.mk o 0 0 [] [a,b]) (par (isS (opE a)&&isP o) (Az g 0 a)++32::(o++32::par (isS (opE b)||(isP (opE b)&&isP o)) (Az g 0 b))):=fun{_ _} hj he=>bM h (iha g om om) (ihb g om om) om om hj he;have pa:=ha.pos;have pb:=hb.pos;obtain⟨g,rfl⟩:∃ x,g=x+1:=⟨g-1,om⟩
   have hs:Az (g+1+1) 0 (.mk o 0 0 [] [a,b])=Az (g+1) (lvl o) a++32::(o++32::Az (g+1) (lvl o+1) b):=by
    show par (decide (lvl o<0)) (if _ then _ else _)=_;rw[z0z hn.1,z0z hn.2.1];dsimp only;rw[z0z hn.2.2,show decide (lvl o<0)=false by simp];rfl
   rw[hs,Ws (I3:=lvl o),Ws (I3:=lvl o+1)];have e1:decide (lvl (opE a)<lvl o)=(isS (opE a)&&isP o):=by
    rcases h with rfl|rfl|rfl|rfl
    ·show decide (lvl (opE a)<0)=_;simp[isP]
    ·show decide (lvl (opE a)<0)=_;simp[isP]
    ·show decide (lvl (opE a)<1)=_;rw[Oc];simp[isP]
    ·show decide (lvl (opE a)<1)=_;rw[Oc];simp[isP]
   have e2:decide (lvl (opE b)<lvl o+1)=(isS (opE b)||(isP (opE b)&&isP o)):=by
    rcases h with rfl|rfl|rfl|rfl
    ·show decide (lvl (opE b)<1)=_;rw[Oc];simp[isP]
    ·show decide (lvl (opE b)<1)=_;rw[Oc];simp[isP]
    ·show decide (lvl (opE b)<2)=_;rw[eB];simp[isP]
    ·show decide (lvl (opE b)<2)=_;rw[eB];simp[isP]
   rw[e1,e2];exact @key
 | @mm k j m i o a b h ha hb iha ihb=>
   intro g hg hm;obtain⟨g,rfl⟩:∃ x,g=x+1:=⟨g-1,om⟩
   have hn:o≠CJ/\o≠nmB:=by rcases h with rfl|rfl<;>decide
   have la:=Jk ha g 0 om;have lb:=Jk hb g 0 om;have key:FM (m+i+1) (.mk o 0 0 [] [a,b]) (o++40::(Az g 0 a++44::32::(Az g 0 b++[41]))):=fun{_ _} hj he=>ir h (iha g om om) (ihb g om om) om om hj he;have hs:Az (g+1) 0 (.mk o 0 0 [] [a,b])=o++40::(Az g 0 a++44::32::(Az g 0 b++[41])):=by
    show par (decide (lvl o<0)) (if _ then _ else _)=_;rw[z0z hn.1,z0z hn.2];dsimp only;rw[z1z h,show decide (lvl o<0)=false by simp];rfl
   rw[hs];exact @key
end Go.Proofs.T
namespace Go.Proofs.T
open Go Go.Ab
inductive LM where
 |Fj (w:By)
 |lot (a b:Nat)
 |MB (w:By) (kd lo hi:Nat) (less:Bool)
 |req (w r:By) (n:Nat)
 |Vd (a b:Nat)
 |fml (e:Ex)
 |tie (ts:List By)
 |P8 (n:Nat)
 |combo (cs:List Nat)
 |J8 (n:Nat)
 |times (a b c d e:Nat)
def LM.word:LM->By
 | .Fj _=>[116,101,110,100,101,114]
 | .lot .. =>[108,111,116]
 | .MB .. =>[99,114,105,116,101,114,105,111,110]
 | .req .. =>[114,101,113,117,105,114,101]
 | .Vd .. =>[112,114,105,99,101]
 | .fml _=>[102,111,114,109,117,108,97]
 | .tie _=>[116,105,101]
 | .P8 _=>[109,111,115,116]
 | .combo _=>[99,111,109,98,111]
 | .J8 _=>[98,117,100,103,101,116]
 | .times .. =>[116,105,109,101,115]
def LM.txt:LM->List By
 | .Fj w=>[w]
 | .lot a b=>[dcN a,yp,dcN b]
 | .MB w kd lo hi less=>[w,if kd=2 then BO else Fm,dcN lo,dcN hi]++if less=true then[HH]else[]
 | .req w r n=>[w,r,dcN n]
 | .Vd a b=>[dcN a,dcN b]
 | .fml _=>[]
 | .tie ts=>ts
 | .P8 n=>[dcN n]
 | .combo cs=>cs.map dcN
 | .J8 n=>[dcN n]
 | .times a b c d e=>[dcN a,dcN b,dcN c,dcN d,dcN e]
def Le9 (n:Nat):Prop:=n<=1000000000
def LM.once:LM->Bool
 | .lot .. =>false
 | .MB .. =>false
 | .req .. =>false
 | .combo _=>false
 |_=>true
def LM.Ok0:LM->Prop
 | .Fj w=>BB w=true
 | .lot a b=>1<=a/\Le9 a/\Le9 b
 | .MB w kd lo hi _=>AL w=true/\(kd=1\/kd=2)/\Le9 lo/\Le9 hi
 | .req w r n=>AL w=true/\([[60,61],[62,61]]:List By).contains r=true/\Le9 n
 | .Vd a b=>Le9 a/\Le9 b
 | .fml e=>∃ k m,FW k m e/\k<=12/\m<=60
 | .tie ts=>ts≠[]/\(∀ w∈ts,(w=Ft\/AL w=true))/\ts.Nodup/\ts.length<=12
 | .P8 n=>Le9 n
 | .combo cs=>2<=cs.length/\(∀ n∈cs,1<=n/\n<=1000000000)/\cs.Nodup/\cs.length<=12
 | .J8 n=>Le9 n
 | .times a b c d e=>Le9 a/\Le9 b/\Le9 c/\Le9 d/\Le9 e
def AF4:LM->Option Nat
 | .lot a _=>some a
 |_=>none
def AF5:LM->Option By
 | .MB w .. =>some w
 |_=>none
def AZ5:LM->Option Unit
 | .req .. =>some ()
 |_=>none
def AZ6:LM->Option Unit
 | .combo _=>some ()
 |_=>none
structure BJ8 (ms:List LM):Prop where
 each:∀ m∈ms,m.Ok0
 ids:(ms.filterMap AF4).Nodup
 G8:(ms.filterMap AF4).length<=12
 crs:(ms.filterMap AF5).Nodup
 D2:(ms.filterMap AF5).length<=12
 reqs:(ms.filterMap AZ5).length<=24
 D6:(ms.filterMap AZ6).length<=12
 once:ms.Pairwise fun a b=>a.word=b.word->a.once=false
structure Made (ms:List LM) (T:Tn):Prop where
 G8:T.G8.map Lot.id=(ms.filterMap AF4).map fun n:Nat=>(n:Int)
 D2:T.D2.map AB.name=ms.filterMap AF5
 reqs:T.reqs.length=(ms.filterMap AZ5).length
 D6:T.D6.length=(ms.filterMap AZ6).length
 F5:(∀ ts,LM.tie ts∉ms)->T.F5=[]
def under (ls:List By):By:=(ls.map fun l=>l++[10]).flatten
def spJ:List By->By
 | []=>[]
 | [w]=>w
 |w::ws=>w++32::spJ ws
def BU:LM->By
 | .fml e=>(LM.fml e).word++32::Az 12 0 e
 |m=>spJ (m.word::m.txt)
def gv (T:Tn):List LM :=
 .Fj T.name::(T.G8.map (fun l=>LM.lot l.id.toNat l.P8.toNat)++(T.D2.map (fun c=>LM.MB c.name c.kind.toNat c.low.toNat c.high.toNat c.less)++(T.reqs.map (fun r=>LM.req r.name r.rel r.value.toNat) ++
  (.Vd T.low.toNat T.high.toNat:: .fml T.f::((if T.F5=[]then[]else[.tie T.F5])++((if T.P8=0 then[]else[.P8 T.P8.toNat])++(T.D6.map (fun c=>LM.combo (c.map Int.toNat)) ++
    [.J8 T.J8.toNat,.times T.t.q.toNat T.t.b.toNat T.t.g.toNat T.t.p.toNat T.t.s.toNat])))))))
def DQ (T:Tn):By:=under ((gv T).map BU)
def In9 (n:Int):Prop:=0<=n/\n<=1000000000
structure PQ (T:Tn):Prop where
 name:BB T.name=true
 G8:T.G8.length<=12
 Az9:T.G8≠[]
 lot:∀ l∈T.G8,1<=l.id/\l.id<=1000000000/\In9 l.P8
 ids:(T.G8.map Lot.id).Nodup
 D2:T.D2.length<=12
 MB:∀ c∈T.D2,AL c.name=true/\(c.kind=1\/c.kind=2)/\In9 c.low/\In9 c.high
 crs:(T.D2.map AB.name).Nodup
 reqs:T.reqs.length<=24
 req:∀ r∈T.reqs,AL r.name=true/\([[60,61],[62,61]]:List By).contains r.rel=true/\In9 r.value
 low:In9 T.low
 high:In9 T.high
 f:∃ k m,FW k m T.f/\k<=12/\m<=60
 F5:T.F5.length<=12
 tie:∀ w∈T.F5,(w=Ft\/AL w=true)
 tnd:T.F5.Nodup
 P8:In9 T.P8
 D6:T.D6.length<=12
 combo:∀ c∈T.D6,2<=c.length/\c.length<=12/\c.Nodup/\∀ n∈c,1<=n/\n<=1000000000
 J8:In9 T.J8
 t:In9 T.t.q/\In9 T.t.b/\In9 T.t.g/\In9 T.t.p/\In9 T.t.s


end Go.Proofs.T
