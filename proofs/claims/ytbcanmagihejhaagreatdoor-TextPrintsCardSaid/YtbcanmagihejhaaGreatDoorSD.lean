/- QR: the H2, the G4. -/
import Derived.Test.YtbcanmagihejhaaGreatDoorSC
set_option linter.unusedSimpArgs false
set_option linter.unusedVariables false
set_option linter.defProp false
set_option maxHeartbeats 32000000
set_option maxRecDepth 100000
namespace Go.Proofs.T
open Go Go.Ab
open Nat (reduceMul reduceEqDiff reduceAdd)
section
variable {Z Z1:St}{l:List By}{fr1:Fr}{ca:List Value}{T:Tn}
def Yu (l:List By):(l.map fun s=>[str s]).flatten=l.map str:=by
 induction l with
 |nil=>rfl
 |cons s l a=>simp[a]
def Qn {lo:Nat}{v:Value}(h:Kn lo Z v l) (a:l≠[]):∃ w sp,v= .slice (some ⟨w,0,sp⟩) l.length l.length/\Z.row w=some (l.map str)/\w<Z.n:=by
 obtain⟨g,⟨rfl,c⟩|⟨b,sp,rfl,i,f,d,e⟩⟩:=h
 ·exact absurd (List.map_eq_nil_iff.1 c) a
 ·exact⟨b,sp,by rw[z2z],by rw[C1 e,Yu],d⟩
def qq {cells:List Value}{o:Nat}(d:0<l.length) (h:∀ k x,l[k]? =some x->sub cells (o+k) 1=some [str x]):sub cells o l.length=some (l.map str):=by
 have key:∀ k (b:k<l.length),∃ h:o+k<cells.length,cells[o+k]=str l[k]:=by
  intro k b;obtain⟨c,a⟩:=sub_eq (h k _ (List.getElem?_eq_getElem b));refine⟨om,?_⟩;rw[Mk om]at a;injection a with h3;exact h3.symm
 obtain⟨e,-⟩:=key (l.length-1) om;rw[AE om];congr 1;refine List.ext_getElem (by rw[KW,HW,z2z];omega) fun i c a=>?_;rw[z2z]at a;obtain⟨h3,h4⟩:=key i a;rw[List.getElem_take,List.getElem_drop,List.getElem_map];exact h4
def fP {n:Nat}:∀ l:List By,(∀ w∈l,w.length<=n)->(blk l).length<=(n+1)*l.length:=by
 intro l;induction l with
 |nil=>intro _;simp[blk]
 | cons w l ih=>
   intro h;have b:=h w (Cw ..);have c:=ih fun v a=>h v (Ci _ a);show(32::(w++blk l)).length<=_;rw[AG,W4,AG,QU];omega
def xN (C:Bj Z ca T) (p:WkT 4 1000 100 T) (G:Z.read 1 0 20=some T7) (F:1<Z.n) (h:DV Z ca (D4 T) 33000 fr1 Z1):
  Ev (lim Tryz.prog HS none (drC [1,1,1,1,1,1,1,1,1,1,0]) fr1 Z1) (fun r=>∃ fr Z',r=⟨.normal,fr,Z'⟩/\DV Z ca (D5 T) 37000 fr Z') ⟨⟩:=by
 obtain⟨vl,Y,vr,Q,vt,vk,E,R,A,S,U,B,vs,V,W⟩:=C.parts;obtain⟨g1,g3,g4,g5,g53,g54,bd,len,ext⟩:=h;obtain⟨ta,tc,tb,to',tcs,rfl,t1,t2⟩:=B.use;have q:=E.p11;have L4:=p.H2;have v:Ext Z (Z.new ca):=eX;have u:Z1.row Z.n=some ca:=eT (ext.row (by simp)) cL;have i:=ext.n;simp only[K9]at i;have f:Ext Z Z1:=v.trans ext;simp only[drC,Tryz.f37,J2,M1,y7,y8,y9,AA];refine gU1 (aI @A6 (aI @C7 (aI g1 (aI u q)))) ?_;cases ht:decide (0<(T.H2.length:Int))with
 | false=>
   refine gU1 (aI @A6 @C7) ?_;have c:D5 T=D4 T:=by unfold D5;rw[z1z (NV (by have:=z9z ht;omega)),Ca]
   exact⟨_,_,rfl,fR1 g1,fR1 g3,fR1 g4,fR1 g5,fR1 g53,fR1 g54,by rw[c];exact bd,by rw[c];omega,ext⟩
 | true=>
   have a:0<T.H2.length:=by have:=z6z ht;omega
   obtain⟨sp,rfl,K,L⟩:=t1 a;have N:(Z1.new [str [116,105,101]]).row tb=some tcs:=by rw[CQ om,f.row K];exact L
   have c:D5 T=D4 T++(spJ (QS::T.H2)++[10]):=by unfold D5;rw[z0z (by intro z;rw[z]at a;simp at a)]
   have D:(spJ (QS::T.H2)).length<=3300:=by
    have:=fP (n:=31) T.H2 fun x J=>by
     exact p.tie x J
    rw[Jl,W4];have A:QS.length=3:=rfl;omega
   simp(maxSteps:=8000000) (disch:=first|exact dS|fail) only[↓bD,bU,reduceMul,reduceEqDiff,reduceAdd,Nat.reduceBEq,reduceIte,Option.isNone_none,A6,P2,R5,R6,R1,K6,P5,K4,K5,H5,g1,g4,u,q,PV];have o:OL Z1.n (Z1.new [str [116,105,101]]) 1 (.slice (some ⟨Z1.n,0,none⟩) 1 1) [[str QS]]:=OL.mk (cells:=[str [116,105,101]]) rfl rfl (by simp) (.inl rfl) nL (by simp) (cL);refine cS (rows2:=T.H2.map fun s=>[str s]) (fun _ _ _ _=>R2) o (by simp) a (by simp) N (by rw[Fh,Yu];exact qq a t2) (by simp;omega) (by simp) ?_;rintro v' Z3 j g -;have m:Kn Z1.n Z3 v' (QS::T.H2):=j;obtain⟨w,M,rfl,H,I⟩:=Qn m (by simp);have d:Ext Z1 Z3:=g.ext (.new _ _) o nL;simp(maxSteps:=8000000) (disch:=first|exact dS|fail) only[↓bD,bU,reduceMul,reduceEqDiff,reduceAdd,Nat.reduceBEq,reduceIte,Option.isNone_none,A6,P2,R5,R6,R1,K6,P5,K4,K5,H5,g1,g4,PV];refine(Ii (Z0:=Z.new ca) (b:=Z.n+1) (t:=D4 T) (l:=QS::T.H2) (bd.ext d) (ext.trans d) (by simp) rfl nL (by rw[W4,W4];show _+(_+1)<=_;omega) (by simp;omega) H).mono ?_;rintro r ⟨O,rfl,e,y,X⟩;refine gU1 (aI @A6 (aI @C7 g1)) ?_;exact⟨_,_,rfl,fR1 g1,fR1 g3,fR1 g4,fR1 g5,fR1 g53,fR1 g54,by rw[c];exact e,by rw[c,W4,W4];show _+(_+1)<=_;omega,y⟩
def xO (s:Bj Z ca T) (j:WkT 4 1000 100 T) (g:Z.read 1 0 20=some T7) (f:1<Z.n) (h:DV Z ca (D5 T) 37000 fr1 Z1):
  Ev (lim Tryz.prog HS none (drC [1,1,1,1,1,1,1,1,1,1,1,0]) fr1 Z1) (fun r=>∃ fr Z',r=⟨.normal,fr,Z'⟩/\DV Z ca (D6 T) 37100 fr Z') ⟨⟩:=by
 obtain⟨L,J,M,A,N,K,u,B,C,D,E,F,vs,G,H⟩:=s.parts;obtain⟨g1,g3,g4,g5,g53,g54,bd,len,ext⟩:=h;have m:=u.p12;have p:Ext Z (Z.new ca):=eX;have o:Z1.row Z.n=some ca:=eT (ext.row (by simp)) cL;have e:=ext.n;simp only[K9]at e;have d:Ext Z Z1:=p.trans ext;have y:=Lf j.G4 g f d;have v:=DX j.G4;simp only[drC,Tryz.f37,J2,M1,y7,y8,y9,AA];refine gU1 (aI @A6 (aI @C7 (aI g1 (aI o m)))) ?_;cases i:decide (T.G4=0)with
 | true=>
   refine gU1 (aI @A6 @C7) ?_;have a:D6 T=D5 T:=by unfold D6;rw[z1z (z6z i),Ca]
   exact⟨_,_,rfl,fR1 g1,fR1 g3,fR1 g4,fR1 g5,fR1 g53,fR1 g54,by rw[a];exact bd,by rw[a];omega,ext⟩
 | false=>
   have a:D6 T=D5 T++(spJ [[109,111,115,116],iZ T.G4]++[10]):=by unfold D6;rw[z0z (z9z i)]
   simp(maxSteps:=8000000) (disch:=first|exact dS|fail) only[↓bD,bU,reduceMul,reduceEqDiff,reduceAdd,Nat.reduceBEq,reduceIte,Option.isNone_none,A6,C7,g1,g4,g5,o,m,y,PV,IV];refine(Ii (Z0:=Z.new ca) (b:=Z.n+1) (t:=D5 T) (l:=[[109,111,115,116],iZ T.G4]) (bd.ext (.new _ _)) (ext.trans (.new _ _)) (by simp) rfl nL (by simp[spJ]at len ⊢;omega) (by simp) (cL)).mono ?_;rintro r ⟨z,rfl,c,q,I⟩;refine gU1 (aI @A6 (aI @C7 g1)) ?_;exact⟨_,_,rfl,fR1 g1,fR1 g3,fR1 g4,fR1 g5,fR1 g53,fR1 g54,by rw[a];exact c,by rw[a];simp[spJ]at len ⊢;omega,q⟩
end
def AQ0 {nm t:By}{kd lo hi:Int}{less:Bool}(h:t=ei kd):dc ⟨nm,kd,lo,hi,less⟩=spJ ([[99,114,105,116,101,114,105,111,110],nm,t,iZ lo,iZ hi]++if less=true then[Dy]else[]):=by subst h;rfl
def AQ1 {S:St}{fr:Fr}{X:Nat}{nm:By}{kd m l:Int}{z:Bool}(h:1<=kd/\kd<=3) (o:fr.get 9=some (.pointer (some ⟨X,0,none⟩))) (g5:fr.get 5=some IV) (c:fr.get 53=none) (d:fr.get 54=none) (A:S.row X=some [str nm,.int .i64 kd,.int .i64 m,.int .i64 l,.bool z])
  {a b:By} (v:go Tryz.prog HS (.fn 67) [.int .i64 m] S=some ⟨false,str a,S⟩) (y:go Tryz.prog HS (.fn 67) [.int .i64 l] S=some ⟨false,str b,S⟩) :
  Ev (lim Tryz.prog HS none (.region 13 drL.toArray true) fr S) (fun r=>∃ t fr',(t.length<=5/\t=ei kd)/\r=⟨.normal,fr',S.new [str [99,114,105,116,101,114,105,111,110],str nm,str t,str a,str b]⟩/\fr'.get 10=some (.slice (some ⟨S.n,0,none⟩) 5 5)/\∀ i,i<10\/i=45\/i=46\/i=47\/i=53\/i=54->fr'.get i=fr.get i) ⟨⟩:=by
 obtain⟨t,g,j,u,f,e⟩:=xP h;refine(Ak7 o g5 c d A v y u f e).mono ?_;rintro r ⟨fr',p,q,s⟩;exact⟨t,fr',⟨g,j⟩,p,q,s⟩
def Vy:drC [1,1,1,1,1,1,0]= .seq (drC [1,1,1,1,1,1,0,0]) (.block 2 (.loop (.seq (drC [1,1,1,1,1,1,0,1,2,3,0]) (.seq (drC [1,1,1,1,1,1,0,1,2,3,1,0]) (.seq (.block 3 (.seq (drC [1,1,1,1,1,1,0,1,2,3,1,1,0,2,0]) (.seq (.region 13 drL.toArray true) (drC [1,1,1,1,1,1,0,1,2,3,1,1,0,2,1,1])))) (drC [1,1,1,1,1,1,0,1,2,3,1,1,1])))))):=kR
def rR {Z J:St}{u:Fr}{ca:List Value}{T:Tn}(hT:Bj Z ca T) (hz:WkT 4 1000 100 T) (A:Z.read 1 0 20=some T7) (z:1<Z.n) (h:DV Z ca (D1 T) 10200 u J) :
  Ev (lim Tryz.prog HS none (drC [1,1,1,1,1,1,0]) u J) (fun r=>∃ fr Z',r=⟨.normal,fr,Z'⟩/\DV Z ca (D2 T) 20200 fr Z') ⟨⟩:=by
 obtain⟨vl,vc,vr,ex,vt,vk,hp,h2,h3,h4,h5,h6,vs,h7,h8⟩:=hT.parts;obtain⟨la,lc,lb,lo,lcs,rfl,l1,l2⟩:=h3.use;have L1:=hz.E9;have s1:=hp.p2;have E0:Ext Z (Z.new ca):=eX;have w1:J.row Z.n=some ca:=by rw[h.ext.row (by simp)];exact cL
 have m:=h.g1;rw[Vy];obtain⟨X,W⟩:=nW (Code.region 13 drL.toArray true);rw[W];simp only[drC,Tryz.f37,J2,M1,y7,y8,y9,AA];refine gU1 (aI @A6 (aI @C7 (aI m (aI w1 s1)))) ?_
 refine I9 T.E9.length (fun k fr Z'=>fr.get 47=some (.int .i64 k)/\fr.get 46=some (.int .i64 (T.E9.length:Nat))/\fr.get 45=some (.slice la T.E9.length lc)/\DV Z ca (D1 T++under ((T.E9.take k).map dc)) (10200+100*k) fr Z')
  (fun r=>∃ fr Z',r=⟨.exit 2,fr,Z'⟩/\DV Z ca (D2 T) 20200 fr Z') ?_ ?_ ?_ ?_
 ·obtain⟨m,g3,g4,g5,f,g,o,len,ext⟩:=h;exact⟨fR,fR,fR,fR1 m,fR1 g3,fR1 g4,fR1 g5,fR1 f,fR1 g,by rw[AU,Ca];exact o,by rw[AU,Ca];omega,ext⟩
 ·rintro k fr Z' Y ⟨gk,F,L,m,g3,g4,g5,f,g,o,len,ext⟩;have hc:=M3 Y;have p:Ext Z Z':=E0.trans ext;obtain⟨x,N⟩:=I3 Y;obtain⟨sp,rfl,l3,l4⟩:=l1 om;have w2:=eT (p.row l3) l4;obtain⟨m0,m1,m2⟩:=l2 k x N;have V:=y6 N;obtain⟨ln,kd,H,I⟩:=hz.Y7 x V;obtain⟨nm,knd,lw,hg,less⟩:=x;have H:SmW lw:=H;have I:SmW hg:=I;have kd:1<=knd/\knd<=3:=kd;have ln:nm.length<=31:=ln;have a3:=DX H;have a4:=DX I;unfold S8.row at m0;simp(maxSteps:=8000000) (disch:=first|exact dS|fail) only[↓bD,bU,reduceMul,reduceEqDiff,reduceAdd,Nat.reduceBEq,reduceIte,Option.isNone_none,A6,C7,gk,F,L,m,g3,g4,g5,hc,w2,m0,IV,PV];obtain⟨S,hS'⟩:=nW (((Z'.new [str [],.int .i64 0,.int .i64 0,.int .i64 0,.bool false] (some 80)).upd Z'.n [str nm,.int .i64 knd,.int .i64 lw,.int .i64 hg,.bool less]));rw[hS'];have q:Ext Z' S:=by rw[<- hS'];exact eX
  have nS:S.n=Z'.n+1:=by rw[<- hS'];rfl
  have D:S.row Z'.n=some [str nm,.int .i64 knd,.int .i64 lw,.int .i64 hg,.bool less]:=by rw[<- hS'];exact cL
  have i1:=Lf H A z (p.trans q);have i2:=Lf I A z (p.trans q);rw[<- W];refine(AQ1 kd (X:=Z'.n) ?a ?b ?c ?d D i1 i2).mono ?_
  ·simp only[↓N4,Nat.reduceEqDiff,reduceIte]
  ·simp only[↓N4,Nat.reduceEqDiff,reduceIte,g5]
  ·simp only[↓N4,Nat.reduceEqDiff,reduceIte,f]
  ·simp only[↓N4,Nat.reduceEqDiff,reduceIte,g]
  rintro r ⟨t,e,⟨a2,j⟩,rfl,B,I4⟩;have j9:e.get 9=some (.pointer (some ⟨Z'.n,0,none⟩)):=(I4 9 om).trans (by simp only[↓N4,Nat.reduceEqDiff,reduceIte]);have j1:e.get 1=some (.pointer (some ⟨Z.n,0,none⟩)):=(I4 1 om).trans (by simp only[↓N4,Nat.reduceEqDiff,reduceIte,m]);have j3:e.get 3=some (.pointer (some ⟨Z.n+1,0,none⟩)):=(I4 3 om).trans (by simp only[↓N4,Nat.reduceEqDiff,reduceIte,g3]);have G:e.get 4=some (PV (Z.n+1)):=(I4 4 om).trans (by simp only[↓N4,Nat.reduceEqDiff,reduceIte,g4]);have j5:e.get 5=some IV:=(I4 5 om).trans (by simp only[↓N4,Nat.reduceEqDiff,reduceIte,g5]);have O:e.get 45=some (.slice (some ⟨lb,lo,sp⟩) T.E9.length lc):=(I4 45 om).trans (by simp only[↓N4,Nat.reduceEqDiff,reduceIte,L]);have C:e.get 46=some (.int .i64 (T.E9.length:Nat)):=(I4 46 om).trans (by simp only[↓N4,Nat.reduceEqDiff,reduceIte,F]);have Q:e.get 47=some (.int .i64 k):=(I4 47 om).trans (by simp only[↓N4,Nat.reduceEqDiff,reduceIte,gk]);have R:e.get 53=none:=(I4 53 om).trans (by simp only[↓N4,Nat.reduceEqDiff,reduceIte,f]);have U:e.get 54=none:=(I4 54 om).trans (by simp only[↓N4,Nat.reduceEqDiff,reduceIte,g]);have y:=AQ0 (nm:=nm) (kd:=knd) (lo:=lw) (hi:=hg) (less:=less) j;have j:D1 T++under ((T.E9.take (k+1)).map dc)=D1 T++under ((T.E9.take k).map dc)++(dc ⟨nm,knd,lw,hg,less⟩++[10]):=by rw[Co N,DT]
  obtain⟨S2,i⟩:=nW (S.new [str [99,114,105,116,101,114,105,111,110],str nm,str t,str (iZ lw),str (iZ hg)]);have E:Ext S S2:=by rw[<- i];exact eX
  have n2:S2.n=S.n+1:=by rw[<- i];rfl
  have w5:S2.row S.n=some ([[99,114,105,116,101,114,105,111,110],nm,t,iZ lw,iZ hg].map str):=by rw[<- i];exact cL
  have o5:S2.B8 S.n=some ([[99,114,105,116,101,114,105,111,110],nm,t,iZ lw,iZ hg].map str):=by rw[<- i];exact cL
  have D:=eT (E.row om) D;rw[i];clear I4;have a0:Dy.length=4:=rfl;cases less
  case' false=>
   simp(maxSteps:=8000000) (disch:=first|exact dS|fail) only[↓bD,bU,reduceMul,reduceEqDiff,reduceAdd,Nat.reduceBEq,reduceIte,Option.isNone_none,A6,C7,j9,G,B,D,PV];refine(Ni (Z0:=Z.new ca) (b:=Z.n+1) (t:=D1 T++under ((T.E9.take k).map dc)) (l:=[[99,114,105,116,101,114,105,111,110],nm,t,iZ lw,iZ hg]) (o.ext (q.trans E)) (ext.trans (q.trans E)) (by simp) rfl nL (by simp[spJ]at len ⊢;omega) (by simp) w5).mono ?_
  case' true=>
   simp(maxSteps:=8000000) (disch:=first|exact dS|fail) only[↓bD,bU,reduceMul,reduceEqDiff,reduceAdd,Nat.reduceBEq,reduceIte,Option.isNone_none,A6,P2,R5,R6,R1,K6,P5,K4,K5,H5,j9,G,B,D,PV];have ho:Kn S.n S2 (.slice (some ⟨S.n,0,none⟩) 5 5) [[99,114,105,116,101,114,105,111,110],nm,t,iZ lw,iZ hg]:=OL.mk rfl rfl (by simp) (.inl rfl) nL om o5;refine fO (Z0:=S) (s:=Dy) (fun _ _ _ _=>R2) ho E (.refl _) nL om (by simp) ?_;rintro v' Z3 M v a1 -;obtain⟨w,a6,rfl,hw,a5⟩:=Qn M (by simp);simp(maxSteps:=8000000) (disch:=first|exact dS|fail) only[↓bD,bU,reduceMul,reduceEqDiff,reduceAdd,Nat.reduceBEq,reduceIte,Option.isNone_none,A6,P2,R5,R6,R1,K6,P5,K4,K5,H5,G,PV];refine(Ni (Z0:=Z.new ca) (b:=Z.n+1) (t:=D1 T++under ((T.E9.take k).map dc)) (l:=[[99,114,105,116,101,114,105,111,110],nm,t,iZ lw,iZ hg]++[Dy]) (o.ext (q.trans v)) (ext.trans (q.trans v)) (by simp) rfl nL (by simp[spJ]at len ⊢;omega) (by simp) hw).mono ?_
  all_goals
   rintro r ⟨Z2,rfl,K,Ib,s2⟩;refine gU1 (aI @A6 (aI @C7 (aI Q C))) ?_;exact⟨fR,fR1 C,fR1 O,fR1 j1,fR1 j3,fR1 G,fR1 j5,fR1 R,fR1 U,by rw[j,y];exact K,by rw[j,y];simp[spJ]at len ⊢;omega,Ib⟩
 ·rintro fr Z' ⟨gk,F,L,m,g3,g4,g5,f,g,o,len,ext⟩;simp(maxSteps:=8000000) (disch:=first|exact dS|fail) only[↓bD,bU,reduceMul,reduceEqDiff,reduceAdd,Nat.reduceBEq,reduceIte,Option.isNone_none,A6,C7,gk,F];exact⟨_,_,rfl,fR1 m,fR1 g3,fR1 g4,fR1 g5,fR1 f,fR1 g,by rw[AV]at o;exact o,by rw[AV]at len;show(D1 T++under (T.E9.map dc)).length<=_;omega,ext⟩
 rintro r ⟨fr,Z',rfl,h⟩;refine gU1 (aI @A6 @C7) ?_;exact⟨_,_,rfl,h⟩
def jm {Z H:St}{A:Fr}{ca:List Value}{T:Tn}(hT:Bj Z ca T) (G:WkT 4 1000 100 T) (Q:Z.read 1 0 20=some T7) (O:1<Z.n) (h:DV Z ca (D6 T) 37100 A H) :
  Ev (lim Tryz.prog HS none (drC [1,1,1,1,1,1,1,1,1,1,1,1,0]) A H) (fun r=>∃ fr Z',r=⟨.normal,fr,Z'⟩/\DV Z ca (D7 T) 77100 fr Z') ⟨⟩:=by
 obtain⟨vl,vc,vr,ex,vt,vk,hp,h2,h3,h4,U,h6,vs,h7,V⟩:=hT.parts;obtain⟨ka,kc,kb,ko,kcs,rfl,k1,k2⟩:=SL.SU h7;have L6:=V.len;have L5:=G.C8;have s9:=hp.p13;have E0:Ext Z (Z.new ca):=eX;have w1:H.row Z.n=some ca:=by rw[h.ext.row (by simp)];exact cL
 have d:=h.g1;simp only[drC,Tryz.f37,J2,M1,y7,y8,y9,AA];refine gU1 (aI @A6 (aI @C7 (aI d (aI w1 s9)))) ?_
 refine I9 vs.length (fun k fr Z'=>fr.get 135=some (.int .i64 k)/\fr.get 134=some (.int .i64 (vs.length:Nat))/\fr.get 133=some (.slice ka vs.length kc)/\DV Z ca (D6 T++under ((T.C8.take k).map dk)) (37100+400*k) fr Z')
  (fun r=>∃ fr Z',r=⟨.exit 6,fr,Z'⟩/\DV Z ca (D7 T) 77100 fr Z') ?_ ?_ ?_ ?_
 ·obtain⟨d,g3,g4,g5,a,c,q,len,ext⟩:=h;exact⟨fR,fR,fR,fR1 d,fR1 g3,fR1 g4,fR1 g5,fR1 a,fR1 c,by rw[AU,Ca];exact q,by rw[AU,Ca];omega,ext⟩
 ·rintro k fr Z' W ⟨f,e,g,d,g3,g4,g5,a,c,q,len,ext⟩;have K:=M3 W;have B:Ext Z Z':=E0.trans ext;have M:=ext.n;simp only[K9]at M;obtain⟨x,F⟩:=I3 W;obtain⟨C,hC⟩:=I3 (show k<T.C8.length by omega);obtain⟨ia,ic,ib,io,ics,rfl,i1,i2⟩:=(V.get F hC).use;have p:=y6 hC;have LC:=(G.combo C p).1;obtain⟨sp,rfl,l3,l4⟩:=k1 om;have w2:=eT (B.row l3) l4;have X:=k2 k _ F;rw[Fh]at X;refine gU1 (aI @A6 (aI @C7 (aI f (aI e (aI g (aI K (aI w2 X))))))) ?_
  refine I9 C.length (fun i fr τ=>fr.get 142=some (.int .i64 i)/\fr.get 141=some (.int .i64 (C.length:Nat))/\fr.get 140=some (.slice ia C.length ic)/\fr.get 135=some (.int .i64 k)/\fr.get 134=some (.int .i64 (vs.length:Nat))/\fr.get 133=some (.slice (some ⟨kb,ko,sp⟩) vs.length kc)/\fr.get 1=some (.pointer (some ⟨Z.n,0,none⟩))/\fr.get 3=some (.pointer (some ⟨Z.n+1,0,none⟩))/\fr.get 4=some (PV (Z.n+1))/\fr.get 5=some IV/\fr.get 53=none/\fr.get 54=none/\∃ v,fr.get 15=some v/\Kn Z'.n τ v ([[99,111,109,98,111]]++(C.take i).map fun n=>iZ n)/\Ext Z' τ)
   (fun r=>∃ fr τ,r=⟨.exit 8,fr,τ⟩/\fr.get 135=some (.int .i64 k)/\fr.get 134=some (.int .i64 (vs.length:Nat))/\fr.get 133=some (.slice (some ⟨kb,ko,sp⟩) vs.length kc)/\fr.get 1=some (.pointer (some ⟨Z.n,0,none⟩))/\fr.get 3=some (.pointer (some ⟨Z.n+1,0,none⟩))/\fr.get 4=some (PV (Z.n+1))/\fr.get 5=some IV/\fr.get 53=none/\fr.get 54=none/\∃ v,fr.get 15=some v/\Kn Z'.n τ v ([[99,111,109,98,111]]++C.map fun n=>iZ n)/\Ext Z' τ) ?_ ?_ ?_ ?_
  ·exact⟨fR,fR,fR,fR1 f,fR1 e,fR1 g,fR1 d,fR1 g3,fR1 g4,fR1 g5,fR1 a,fR1 c,_,fR,OL.mk (cells:=[str [99,111,109,98,111]]) rfl rfl (by simp) (.inl rfl) nL (by simp) (cL),.new _ _⟩
  ·clear f e g d g3 g4 g5 a c fr;rintro i fr τ hi ⟨E,m,u,f,e,g,d,g3,g4,g5,a,c,v,j,z,o⟩;have K:=M3 hi;obtain⟨y,R⟩:=I3 hi;obtain⟨S,rfl,l5,l6⟩:=i1 om;have Y:=(G.combo C p).2 y (y6 R);have zl:=DX Y;have D:Ext Z τ:=B.trans o;have v3:=eT (D.row l5) l6;have n1:=i2 i y R;have j1:=Lf Y Q O D;simp(maxSteps:=8000000) (disch:=first|exact dS|fail) only[↓bD,bU,reduceMul,reduceEqDiff,reduceAdd,Nat.reduceBEq,reduceIte,Option.isNone_none,A6,P2,R5,R6,R1,K6,P5,K4,K5,H5,E,m,u,j,g5,K,v3,n1,j1,IV];refine fO (s:=iZ y) (fun _ _ _ _=>R2) z o (.refl _) nL o.n (by simp;omega) ?_;rintro v' a3 N J a1 -;refine gU1 (aI @A6 (aI @P2 (aI @R5 (aI @R6 (aI @R1 (aI @K6 (aI @P5 (aI @K4 (aI @K5 (aI @H5 E)))))))))) ?_;exact⟨fR,fR1 m,fR1 u,fR1 f,fR1 e,fR1 g,fR1 d,fR1 g3,fR1 g4,fR1 g5,fR1 a,fR1 c,v',fR,by rw[Gf,R,Ah];exact N,J⟩
  ·clear f e g d g3 g4 g5 a c fr;rintro fr τ ⟨E,m,u,f,e,g,d,g3,g4,g5,a,c,v,j,z,o⟩;refine gU1 (aI @A6 (aI @C7 (aI E m))) ?_;exact⟨_,_,rfl,fR1 f,fR1 e,fR1 g,fR1 d,fR1 g3,fR1 g4,fR1 g5,fR1 a,fR1 c,v,fR1 j,by rw[Dq]at z;exact z,o⟩
  clear f e g d g3 g4 g5 a c fr;rintro r ⟨fr,τ,rfl,f,e,g,d,g3,g4,g5,a,c,v,j,z,o⟩;obtain⟨w,S,rfl,hw,a2⟩:=Qn z (by simp);have L:dk C=spJ ([[99,111,109,98,111]]++C.map fun n=>iZ n):=rfl;have a0:(spJ ([[99,111,109,98,111]]++C.map fun n=>iZ n)).length<=200:=by
   have:=fP (n:=11) (C.map fun n=>iZ n) fun x F=>by
    obtain⟨n,hn,rfl⟩:=GI.1 F;exact DX ((G.combo C p).2 n hn)
   rw[z2z]at this;have U:spJ ([[99,111,109,98,111]]++C.map fun n=>iZ n)=[99,111,109,98,111]++blk (C.map fun n=>iZ n):=Jl _ _;rw[U,W4];have h6:([99,111,109,98,111]:By).length=5:=rfl;omega
  have ht:D6 T++under ((T.C8.take (k+1)).map dk)=D6 T++under ((T.C8.take k).map dk)++(spJ ([[99,111,109,98,111]]++C.map fun n=>iZ n)++[10]):=by
   rw[Co hC,L,DT]
  simp(maxSteps:=8000000) (disch:=first|exact dS|fail) only[↓bD,bU,reduceMul,reduceEqDiff,reduceAdd,Nat.reduceBEq,reduceIte,Option.isNone_none,A6,C7,j,g4,PV];refine(Ii (Z0:=Z.new ca) (b:=Z.n+1) (t:=D6 T++under ((T.C8.take k).map dk)) (l:=[[99,111,109,98,111]]++C.map fun n=>iZ n) (q.ext o) (ext.trans o) (by simp) rfl nL (by rw[W4,W4 (bs:=[10])];show _+(_+1)<=_;omega) (by simp;omega) hw).mono ?_;rintro r ⟨Z2,rfl,I,Ib,s2⟩;refine gU1 (aI @A6 (aI @C7 f)) ?_;exact⟨fR,fR1 e,fR1 g,fR1 d,fR1 g3,fR1 g4,fR1 g5,fR1 a,fR1 c,by rw[ht];exact I,by rw[ht,W4,W4 (bs:=[10])];show _+(_+1)<=_;omega,Ib⟩
 ·rintro fr Z' ⟨f,e,g,d,g3,g4,g5,a,c,q,len,ext⟩;refine gU1 (aI @A6 (aI @C7 (aI f e))) ?_;rw[L6]at q len;exact⟨_,_,rfl,fR1 d,fR1 g3,fR1 g4,fR1 g5,fR1 a,fR1 c,by rw[AV]at q;exact q,by rw[AV]at len;show(D6 T++under (T.C8.map dk)).length<=_;omega,ext⟩
 rintro r ⟨fr,Z',rfl,h⟩;refine gU1 (aI @A6 @C7) ?_;exact⟨_,_,rfl,h⟩
section
variable {Z Z1:St}{fr1:Fr}{ca:List Value}{T:Tn}
def mN (p:Bj Z ca T) (j:WkT 4 1000 100 T) (f:Z.read 1 0 20=some T7) (e:1<Z.n) (h:DV Z ca (D7 T) 77100 fr1 Z1):
  Ev (lim Tryz.prog HS none (drC [1,1,1,1,1,1,1,1,1,1,1,1,1,0]) fr1 Z1) (fun r=>∃ fr Z',r=⟨.normal,fr,Z'⟩/\DV Z ca (D8 T) 77200 fr Z') ⟨⟩:=by
 obtain⟨K,I,L,z,M,J,q,A,B,C,D,E,vs,F,G⟩:=p.parts;obtain⟨g1,g3,g4,g5,g53,g54,bd,len,ext⟩:=h;have g:=q.p14;have m:Ext Z (Z.new ca):=eX;have v:Z1.row Z.n=some ca:=eT (ext.row (by simp)) cL;have d:=ext.n;simp only[K9]at d;have c:Ext Z Z1:=m.trans ext;have u:=Lf j.C9 f e c;have s:=DX j.C9;have i:D8 T=D7 T++(spJ [[98,117,100,103,101,116],iZ T.C9]++[10]):=rfl;simp only[drC,Tryz.f37,J2,M1,y7,y8,y9,AA];simp(maxSteps:=8000000) (disch:=first|exact dS|fail) only[↓bD,bU,reduceMul,reduceEqDiff,reduceAdd,Nat.reduceBEq,reduceIte,Option.isNone_none,A6,C7,g1,g4,g5,v,g,u,PV,IV];refine(Ii (Z0:=Z.new ca) (b:=Z.n+1) (t:=D7 T) (l:=[[98,117,100,103,101,116],iZ T.C9]) (bd.ext (.new _ _)) (ext.trans (.new _ _)) (by simp) rfl nL (by simp[spJ]at len ⊢;omega) (by simp) (cL)).mono ?_;rintro r ⟨y,rfl,a,o,H⟩;refine gU1 (aI @A6 (aI @C7 g1)) ?_;exact⟨_,_,rfl,fR1 g1,fR1 g3,fR1 g4,fR1 g5,fR1 g53,fR1 g54,by rw[i];exact a,by rw[i];simp[spJ]at len ⊢;omega,o⟩
structure DW (Z:St) (ca:List Value) (T:Tn) (fr:Fr) (Z':St) (x:Nat):Prop where
 g1:fr.get 1=some (.pointer (some ⟨Z.n,0,none⟩))
 g3:fr.get 3=some (.pointer (some ⟨Z.n+1,0,none⟩))
 g4:fr.get 4=some (PV (Z.n+1))
 g5:fr.get 5=some IV
 g18:fr.get 18=some (.pointer (some ⟨x,0,none⟩))
 lt:x<Z'.n
 row:Z'.row x=some [.int .i64 T.t.q,.int .i64 T.t.b,.int .i64 T.t.g,.int .i64 T.t.p,.int .i64 T.t.s]
 bd:BDN Z' (Z.n+1) (D8 T) x
 len:(D8 T).length<=77200
 ext:Ext (Z.new ca) Z'
def zi (e:Bj Z ca T) (y:WkT 4 1000 100 T) (i:Z.read 1 0 20=some T7) (g:1<Z.n) (h:DV Z ca (D8 T) 77200 fr1 Z1):
  Ev (lim Tryz.prog HS none (drC [1,1,1,1,1,1,1,1,1,1,1,1,1,1,0]) fr1 Z1) (fun r=>∃ fr Z',r=⟨.normal,fr,Z'⟩/\∃ x,DW Z ca T fr Z' x) ⟨⟩:=by
 obtain⟨B,z,C,l,D,A,f,m,o,p,q,s,vs,u,v⟩:=e.parts;obtain⟨g1,g3,g4,g5,g53,g54,bd,len,ext⟩:=h;have b:=f.p15;have c:Ext Z (Z.new ca):=eX;have j:Z1.row Z.n=some ca:=eT (ext.row (by simp)) cL;have a:=ext.n;simp only[K9]at a;have d:Ext Z Z1:=c.trans ext;simp only[drC,Tryz.f37,J2,M1,y7,y8,y9,AA];refine gU1 (aI @A6 (aI @C7 (aI g1 (aI j b)))) ?_;exact⟨_,_,rfl,Z1.n,fR1 g1,fR1 g3,fR1 g4,fR1 g5,fR,by simp,cL,bd.ext (eX),len,ext.trans (eX)⟩
def uA {x:Nat}(v:WkT 4 1000 100 T) (d:Z.read 1 0 20=some T7) (c:1<Z.n) (h:DW Z ca T fr1 Z1 x):
  Ev (lim Tryz.prog HS none (drC [1,1,1,1,1,1,1,1,1,1,1,1,1,1,1,0]) fr1 Z1) (fun r=>∃ fr Z',r=⟨.normal,fr,Z'⟩/\fr.get 3=some (.pointer (some ⟨Z.n+1,0,none⟩))/\BD Z' (Z.n+1) (Bt T)/\(Bt T).length<=77400/\Ext (Z.new ca) Z') ⟨⟩:=by
 obtain⟨F,g3,g4,g5,f,lt,D,u,len,ext⟩:=h;have m:Ext Z (Z.new ca):=eX;have a:Ext Z Z1:=m.trans ext;obtain⟨q1,q2,q3,q4,q5⟩:=v.tim;have y:=Lf q1 d c a;have z:=Lf q2 d c a;have A:=Lf q3 d c a;have B:=Lf q4 d c a;have C:=Lf q5 d c a;have G:=DX q1;have H:=DX q2;have I:=DX q3;have J:=DX q4;have K:=DX q5;have i:Bt T=D8 T++(spJ [[116,105,109,101,115],iZ T.t.q,iZ T.t.b,iZ T.t.g,iZ T.t.p,iZ T.t.s]++[10]):=rfl;simp only[drC,Tryz.f37,J2,M1,y7,y8,y9,AA];simp(maxSteps:=8000000) (disch:=first|exact dS|fail) only[↓bD,bU,reduceMul,reduceEqDiff,reduceAdd,Nat.reduceBEq,reduceIte,Option.isNone_none,A6,C7,g4,g5,f,D,y,z,A,B,C,PV,IV];refine(Ii (Z0:=Z.new ca) (b:=Z.n+1) (t:=D8 T) (l:=[[116,105,109,101,115],iZ T.t.q,iZ T.t.b,iZ T.t.g,iZ T.t.p,iZ T.t.s]) (u.ext (.new _ _)) (ext.trans (.new _ _)) (by simp) rfl nL (by simp[spJ]at len ⊢;omega) (by simp) (cL)).mono ?_;rintro r ⟨E,rfl,e,o,j⟩
 try simp(maxSteps:=8000000) (disch:=first|exact dS|fail) only[↓bD,bU,reduceMul,reduceEqDiff,reduceAdd,Nat.reduceBEq,reduceIte,Option.isNone_none,A6,C7,asx (Ext.refl _),HR (j x (.inr nL) (by simp;omega))]
 try refine T3.intro (by(repeat first|simp(disch:=omega) only[N7,Q9,N1,asx (Ext.refl _),HR (j x (.inr nL) (by simp;omega))]|rw[U0 (by kernel_rfl)]);first|done|rfl) ?_
 try(refine gP1 g3 ?_;try exact⟨⟩)
 exact⟨_,_,rfl,fR1 g3,by rw[i];exact e,by rw[i];simp[spJ]at len ⊢;omega,o⟩
end
end Go.Proofs.T
namespace Go.Proofs.T
open Go Go.Ab
def AZ3:drC []= .seq (drC [0]) (drC [1]):=kR
def AZ4:drC [1]= .seq (drC [1,0]) (drC [1,1]):=kR
def AZ5:drC [1,1]= .seq (drC [1,1,0]) (drC [1,1,1]):=kR
def AZ6:drC [1,1,1]= .seq (drC [1,1,1,0]) (drC [1,1,1,1]):=kR
def AZ7:drC [1,1,1,1]= .seq (drC [1,1,1,1,0]) (drC [1,1,1,1,1]):=kR
def AZ8:drC [1,1,1,1,1]= .seq (drC [1,1,1,1,1,0]) (drC [1,1,1,1,1,1]):=kR
def AZ9:drC [1,1,1,1,1,1]= .seq (drC [1,1,1,1,1,1,0]) (drC [1,1,1,1,1,1,1]):=kR
def Aa0:drC [1,1,1,1,1,1,1]= .seq (drC [1,1,1,1,1,1,1,0]) (drC [1,1,1,1,1,1,1,1]):=kR
def Aa1:drC [1,1,1,1,1,1,1,1]= .seq (drC [1,1,1,1,1,1,1,1,0]) (drC [1,1,1,1,1,1,1,1,1]):=kR
def Aa2:drC [1,1,1,1,1,1,1,1,1]= .seq (drC [1,1,1,1,1,1,1,1,1,0]) (drC [1,1,1,1,1,1,1,1,1,1]):=kR
def zc:drC [1,1,1,1,1,1,1,1,1,1]= .seq (drC [1,1,1,1,1,1,1,1,1,1,0]) (drC [1,1,1,1,1,1,1,1,1,1,1]):=kR
def zd:drC [1,1,1,1,1,1,1,1,1,1,1]= .seq (drC [1,1,1,1,1,1,1,1,1,1,1,0]) (drC [1,1,1,1,1,1,1,1,1,1,1,1]):=kR
def ze:drC [1,1,1,1,1,1,1,1,1,1,1,1]= .seq (drC [1,1,1,1,1,1,1,1,1,1,1,1,0]) (drC [1,1,1,1,1,1,1,1,1,1,1,1,1]):=kR
def zf:drC [1,1,1,1,1,1,1,1,1,1,1,1,1]= .seq (drC [1,1,1,1,1,1,1,1,1,1,1,1,1,0]) (drC [1,1,1,1,1,1,1,1,1,1,1,1,1,1]):=kR
def zg:drC [1,1,1,1,1,1,1,1,1,1,1,1,1,1]= .seq (drC [1,1,1,1,1,1,1,1,1,1,1,1,1,1,0]) (drC [1,1,1,1,1,1,1,1,1,1,1,1,1,1,1]):=kR
def zh:drC [1,1,1,1,1,1,1,1,1,1,1,1,1,1,1]= .seq (drC [1,1,1,1,1,1,1,1,1,1,1,1,1,1,1,0]) (drC [1,1,1,1,1,1,1,1,1,1,1,1,1,1,1,1]):=kR
def lp {Z:St}{e:List Value}{T:Tn}(g:Bj Z e T) (f:WkT 4 1000 100 T) (d:Z.read 1 0 20=some T7) (c:1<Z.n) :
  Ev (gO 37 [.agg ⟨e⟩] Z) (fun r=>∃ Z',r=⟨false,str (Bt T),Z'⟩/\Ext Z Z') ⟨⟩:=by
 obtain⟨Q,N,R,F,S,O,q,G,H,I,J,K,vs,L,M⟩:=g.parts;have m:=q.all;have A:=q.p0;have D:=f.name;have u:Ext Z (Z.new e):=eX;refine G1 (body:=drC []) Tryz.func37 kR rfl ?_;obtain⟨X,hX⟩:=nW (drC [1,1,1,1,1]);rw[AZ3,AZ4,AZ5,AZ6,AZ7,hX];simp only[drC,Tryz.f37,J2,M1,y7,y8,y9,AA];refine gU1 (aI @A6 (aI @C7 (aI m A))) ?_;have p:BD ((Z.new e).new [.pointer none,.slice none 0 0] (some 116)) (Z.n+1) []:=⟨by simp,AP _,It (Z:=Z.new e),.inl ⟨rfl,cL⟩⟩
 refine(Ni (Z0:=Z.new e) (b:=Z.n+1) (t:=[]) (l:=[[116,101,110,100,101,114],T.name]) (p.ext (.new _ _)) (eX) (by simp) rfl nL (by simp[spJ];omega) (by simp) (cL)).mono ?_;rintro r ⟨E,rfl,j,i,B⟩;refine gU1 (aI @A6 @C7) ?_;rw[<- hX];clear hX X p;rw[AZ8];refine Du (fun fr Z'=>DV Z e (D1 T) 10200 fr Z') (vA g f d c ?_) ?_
 ·exact⟨fR,fR,(by unfold PV;exact(fR)),(by unfold IV;exact(fR)),fR,fR,by exact j,by show([]++(spJ [[116,101,110,100,101,114],T.name]++[10])).length<=_;simp[spJ];omega,i⟩
 clear j i B;intro fr h a;rw[AZ9];refine Du (fun fr Z'=>DV Z e (D2 T) 20200 fr Z') (rR g f d c a) ?_;clear a;intro fr h a;rw[Aa0];refine Du (fun fr Z'=>DV Z e (D3 T) 30200 fr Z') (yC g f d c a) ?_;clear a;intro fr h a;rw[Aa1];refine Du (fun fr Z'=>DV Z e (D3p T) 30300 fr Z') (re g f d c a) ?_;clear a;intro fr h a;rw[Aa2];refine Du (fun fr Z'=>DV Z e (D4 T) 33000 fr Z') (AQ2 g f d c a) ?_;clear a;intro fr h a;rw[zc];refine Du (fun fr Z'=>DV Z e (D5 T) 37000 fr Z') (xN g f d c a) ?_;clear a;intro fr h a;rw[zd];refine Du (fun fr Z'=>DV Z e (D6 T) 37100 fr Z') (xO g f d c a) ?_;clear a;intro fr h a;rw[ze];refine Du (fun fr Z'=>DV Z e (D7 T) 77100 fr Z') (jm g f d c a) ?_;clear a;intro fr h a;rw[zf];refine Du (fun fr Z'=>DV Z e (D8 T) 77200 fr Z') (mN g f d c a) ?_;clear a;intro fr h a;rw[zg];refine Du (fun fr Z'=>∃ x,DW Z e T fr Z' x) (zi g f d c a) ?_;clear a;rintro fr h ⟨x,s⟩;rw[zh];refine Du (fun fr Z'=>fr.get 3=some (.pointer (some ⟨Z.n+1,0,none⟩))/\BD Z' (Z.n+1) (Bt T)/\(Bt T).length<=77400/\Ext (Z.new e) Z') (uA f d c s) ?_;clear s;rintro fr h ⟨g3,y,len,ext⟩;have o:Bt T≠[]:=by unfold Bt;simp
 obtain⟨C,z,v⟩:=jo y ext (by simp) o om;simp only[drC,Tryz.f37,J2,M1,y7,y8,y9,AA];refine gU1 (aI @A6 (aI @C7 (aI g3 (aI z @Tryz.results37)))) ?_;exact⟨_,rfl,u.trans v⟩
end Go.Proofs.T
