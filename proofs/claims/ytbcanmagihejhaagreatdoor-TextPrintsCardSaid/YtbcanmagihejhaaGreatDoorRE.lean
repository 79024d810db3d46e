/- The G2 Kf of Ag: its loops. -/
import Derived.Test.YtbcanmagihejhaaGreatDoorRD
set_option linter.unusedSimpArgs false
set_option linter.unusedVariables false
set_option linter.defProp false
set_option maxHeartbeats 32000000
set_option maxRecDepth 100000
namespace Go.Proofs.T
open Go Go.Ab
section
variable {a0 a1 a2 a3 a4 a5 a6 a7 a8 a9 a10 a11 a12 a13 a14 a15 a16 a17 a18 a19 z:Value}{k:Nat}{L:List Lot}
noncomputable def mdC (l:List Nat):Code:=JE l ((Tryz.f14).body.getD .skip)
def bm:List Value:=[str [],.slice none 0 0,.slice none 0 0,.slice none 0 0,.int .i64 0,.int .i64 0,str [],.int .i64 0,.int .i64 0,str [],.slice none 0 0,.slice none 0 0,.int .i64 0,.slice none 0 0,.int .i64 0,.int .i64 0,.int .i64 0,.int .i64 0,.int .i64 0,.int .i64 0]
structure MdS (Z:St) (q p:Nat) (v:Value) (l:List Int) (cs:List Value) (fr:Fr) (τ:St):Prop where
 g2:fr.get 2=some (.pointer (some ⟨Z.n,0,none⟩))
 g3:fr.get 3=some (.pointer (some ⟨q,0,none⟩))
 g4:fr.get 4=some (.pointer (some ⟨p,0,none⟩))
 E:Ext Z τ
 Q:GQ q v l τ
 r:τ.B8 p=some cs
 lt:p<τ.n
def AA7 (h:k<3):∃ s,sub ([str [112,114,105,99,101],str [108,111,119],str [115,112,101,101,100],str [99,111,109,102,111,114,116],str [119,101,105,103,104,116]]:List Value) (k+2) 1=some [str s]/\OI.take (k+1)=OI.take k++[s]/\R4 s=true/\s.length<=9:=by
 have:k=0\/k=1\/k=2:=om;rcases this with rfl|rfl|rfl
 ·exact⟨_,rfl,rfl,by decide,by decide⟩
 ·exact⟨_,rfl,rfl,by decide,by decide⟩
 ·exact⟨_,rfl,rfl,by decide,by decide⟩
def T9.De {q p b:Nat}{Z Z':St}{cs:List Value}(h:T9 q p Z Z') (f:Z.n<=b):T9 q p Z (Z'.upd b cs):=⟨h.n,fun c e a d=>by rw[M4,z0z om,h.same c e a d]⟩
def kZ {x:Lot}(a:0<L.length) (b:L.length<=2):∃ yl cells,L[L.length-1]? =some yl/\(L.map Lot.row++[x.row]).flatten=cells/\sub cells (L.length*2) 1=some [.int .i64 x.id]/\sub cells ((L.length-1)*2) 1=some [.int .i64 yl.id]/\∀ z,M5 cells (L.length*2) [.int .i64 z]=some ((L.map Lot.row++[Lot.row ⟨z,x.G4⟩]).flatten):=by
 match L,a,b with
 | [y],_,_=>exact⟨y,_,rfl,rfl,rfl,rfl,fun z=>rfl⟩
 | [y1,y2],_,_=>exact⟨y2,_,rfl,rfl,rfl,rfl,fun z=>rfl⟩
def ke {b:Lot}(h:Sg L) (f:L.length=k+1) (d:L[k]? =some b):∀ z∈L,z.id<=b.id:=by
 intro z e;obtain⟨i,hi⟩:=List.getElem?_of_mem e;obtain⟨hi1,hi2⟩:=List.getElem?_eq_some_iff.1 hi;obtain⟨hy1,hy2⟩:=List.getElem?_eq_some_iff.1 d;rcases AH i k with a|c
 ·have:=nC.1 h i k (by rw[z2z];omega) (by rw[z2z];omega) a;rw[List.getElem_map,List.getElem_map,hi2,hy2]at this;omega
 ·obtain rfl:i=k:=om;rw[hi2]at hy2;rw[hy2];omega
def vH {x:Nat}(h:(x:Int)<2):∃ s,sub ([str [60,61],str [62,61]]:List Value) x 1=some [str s]/\([[60,61],[62,61]]:List By).contains s=true:=by
 have:x=0\/x=1:=om;rcases this with rfl|rfl
 ·exact⟨_,rfl,by decide⟩
 ·exact⟨_,rfl,by decide⟩
def vd (h:k<3):∃ s,sub ([str [112,114,105,99,101],str [115,112,101,101,100],str [99,111,109,102,111,114,116]]:List Value) k 1=some [str s]/\MU.take (k+1)=MU.take k++[s]:=by
 have:k=0\/k=1\/k=2:=om;rcases this with rfl|rfl|rfl
 ·exact⟨_,rfl,rfl⟩
 ·exact⟨_,rfl,rfl⟩
 ·exact⟨_,rfl,rfl⟩
def gw1:M5 [a0,a1,a2,a3,a4,a5,a6,a7,a8,a9,a10,a11,a12,a13,a14,a15,a16,a17,a18,a19] 1 [z]=some [a0,z,a2,a3,a4,a5,a6,a7,a8,a9,a10,a11,a12,a13,a14,a15,a16,a17,a18,a19]:=rfl
def gw2:M5 [a0,a1,a2,a3,a4,a5,a6,a7,a8,a9,a10,a11,a12,a13,a14,a15,a16,a17,a18,a19] 2 [z]=some [a0,a1,z,a3,a4,a5,a6,a7,a8,a9,a10,a11,a12,a13,a14,a15,a16,a17,a18,a19]:=rfl
def gw3:M5 [a0,a1,a2,a3,a4,a5,a6,a7,a8,a9,a10,a11,a12,a13,a14,a15,a16,a17,a18,a19] 3 [z]=some [a0,a1,a2,z,a4,a5,a6,a7,a8,a9,a10,a11,a12,a13,a14,a15,a16,a17,a18,a19]:=rfl
def Ah5:M5 [a0,a1,a2,a3,a4,a5,a6,a7,a8,a9,a10,a11,a12,a13,a14,a15,a16,a17,a18,a19] 11 [z]=some [a0,a1,a2,a3,a4,a5,a6,a7,a8,a9,a10,z,a12,a13,a14,a15,a16,a17,a18,a19]:=rfl
def Ak6:M5 [a0,a1,a2,a3,a4,a5,a6,a7,a8,a9,a10,a11,a12,a13,a14,a15,a16,a17,a18,a19] 13 [z]=some [a0,a1,a2,a3,a4,a5,a6,a7,a8,a9,a10,a11,a12,z,a14,a15,a16,a17,a18,a19]:=rfl
def BB5:M5 [a0,a1,a2,a3,a4,a5,a6,a7,a8,a9,a10,a11,a12,a13,a14,a15,a16,a17,a18,a19] 15 [z]=some [a0,a1,a2,a3,a4,a5,a6,a7,a8,a9,a10,a11,a12,a13,a14,z,a16,a17,a18,a19]:=rfl
def BB6:M5 [a0,a1,a2,a3,a4,a5,a6,a7,a8,a9,a10,a11,a12,a13,a14,a15,a16,a17,a18,a19] 16 [z]=some [a0,a1,a2,a3,a4,a5,a6,a7,a8,a9,a10,a11,a12,a13,a14,a15,z,a17,a18,a19]:=rfl
def BB7:M5 [a0,a1,a2,a3,a4,a5,a6,a7,a8,a9,a10,a11,a12,a13,a14,a15,a16,a17,a18,a19] 17 [z]=some [a0,a1,a2,a3,a4,a5,a6,a7,a8,a9,a10,a11,a12,a13,a14,a15,a16,z,a18,a19]:=rfl
def BB8:M5 [a0,a1,a2,a3,a4,a5,a6,a7,a8,a9,a10,a11,a12,a13,a14,a15,a16,a17,a18,a19] 18 [z]=some [a0,a1,a2,a3,a4,a5,a6,a7,a8,a9,a10,a11,a12,a13,a14,a15,a16,a17,z,a19]:=rfl
def BB9:M5 [a0,a1,a2,a3,a4,a5,a6,a7,a8,a9,a10,a11,a12,a13,a14,a15,a16,a17,a18,a19] 19 [z]=some [a0,a1,a2,a3,a4,a5,a6,a7,a8,a9,a10,a11,a12,a13,a14,a15,a16,a17,a18,z]:=rfl
def gw6 {a b c d e:Value}:M5 [a0,a1,a2,a3,a4,a5,a6,a7,a8,a9,a10,a11,a12,a13,a14,a15,a16,a17,a18,a19] 6 [a,b,c,d,e]=some [a0,a1,a2,a3,a4,a5,a,b,c,d,e,a11,a12,a13,a14,a15,a16,a17,a18,a19]:=rfl
end
def wK {Z a:St}{G:Fr}{q p:Nat}{v:Value}{l:List Int}{H0:List Nat}{a0 a2 a3 a4 a5 a6 a7 a8 a9 e f g m o s A B C D:Value}(hl:BX (J0 Z H0) v l) (a1:l.length<=9223372036854775807) (hq:Z.n<=q) (c4:q<p) (h0:MdS Z q p v l [a0,.slice none 0 0,a2,a3,a4,a5,a6,a7,a8,a9,e,f,g,m,o,s,A,B,C,D] G a) (V:G.get 6=some (.int .i64 0)){nl:Nat}(n3:nl<=3) (gn:G.get 5=some (.int .i64 (nl:Nat))) :
  Ev (lim Tryz.prog HS none (.loop (mdC [1,1,1,1,0,1,2,3])) G a) (fun r=>∃ fr τ u,∃ L:List Lot,r=⟨.exit 0,fr,τ⟩/\MdS Z q p v l [a0,u,a2,a3,a4,a5,a6,a7,a8,a9,e,f,g,m,o,s,A,B,C,D] fr τ/\T9 q p a τ/\OL a.n τ 2 u (L.map Lot.row)/\L.length=nl/\(Sg L/\∀ y∈L,1<=y.id/\y.id<=1+2*(L.length:Int)/\0<=y.G4/\y.G4<=199)) ⟨⟩:=by
 have c3:=h0.lt
 refine I9 nl (fun k fr τ=>fr.get 6=some (.int .i64 (k:Nat))/\fr.get 5=some (.int .i64 (nl:Nat))/\T9 q p a τ/\∃ u,∃ L:List Lot,MdS Z q p v l [a0,u,a2,a3,a4,a5,a6,a7,a8,a9,e,f,g,m,o,s,A,B,C,D] fr τ/\OL a.n τ 2 u (L.map Lot.row)/\L.length=k/\(Sg L/\∀ y∈L,1<=y.id/\y.id<=1+2*(L.length:Int)/\0<=y.G4/\y.G4<=199))
  (fun r=>∃ fr τ u,∃ L:List Lot,r=⟨.exit 0,fr,τ⟩/\MdS Z q p v l [a0,u,a2,a3,a4,a5,a6,a7,a8,a9,e,f,g,m,o,s,A,B,C,D] fr τ/\T9 q p a τ/\OL a.n τ 2 u (L.map Lot.row)/\L.length=nl/\(Sg L/\∀ y∈L,1<=y.id/\y.id<=1+2*(L.length:Int)/\0<=y.G4/\y.G4<=199)) ?_ ?_ ?_ (fun r h=>h)
 ·exact⟨V,gn,.refl,_,[],h0,OL.nil,rfl,nQ,fun y hy=>by cases hy⟩
 ·rintro k fr τ hk ⟨gc,g5,hX,u,L,⟨g2,g3,g4,hE,hQ,I,hp⟩,ho,d,X,W⟩;have hc:=M3 hk;have nX:=hX.n;have rr:=C1 I;have bv:K3 u≠some p:=fun hb=>by have:=(ho.blk hb).1;omega
  simp only[mdC,Tryz.f14,J2,M1,y7,y8,y9,AA];refine gU1 (aI @A6 (aI @P2 (aI @R6 (aI @R1 (aI @K6 (aI @R2 (aI @P5 (aI @K4 (aI @K5 (aI @H5 (aI @gc (aI g2 (aI g3 (aI g4 (aI g5 (aI hc rr)))))))))))))))) ?_;refine(nxg (n:=2) hl a1 hE hq om hQ om om).mono ?_;rintro r ⟨x,Z5,rfl,hx,Ex,Qx,Q⟩;have nx:=Q.n;have I:Z5.B8 p=some _:=(Q.B8 om om).trans I;obtain⟨i,hi,i0,i1⟩:∃ i:Int,(k:Int)*(1+(x:Int))=i/\0<=i/\i<=2*(k:Int):=by
   refine⟨_,rfl,?_,?_⟩
   ·exact Int.mul_nonneg om om
   ·rcases(by omega:x=0\/x=1)with rfl|rfl
    ·show(k:Int)*1<=_;omega
    ·show(k:Int)*2<=_;omega
  refine gU1 (aI @A6 (aI @P2 (aI @R6 (aI @R1 (aI @K6 (aI @R2 (aI @P5 (aI @K4 (aI @K5 (aI @H5 (aI @gc (aI g2 (aI g3 (aI g4 (aI g5 hi))))))))))))))) ?_;refine(nxg (n:=200) hl a1 Ex hq om Qx om om).mono ?_;rintro r ⟨y,Z6,rfl,hy,Ey,Qy,R⟩;have ny:=R.n;have I:Z6.B8 p=some _:=(R.B8 om om).trans I;have c0:=I;refine gU1 (aI @A6 (aI @P2 (aI @R6 (aI @R1 (aI @K6 (aI @R2 (aI @P5 (aI @K4 (aI @K5 (aI @H5 (aI @gc (aI g2 (aI g3 (aI g4 (aI g5 hi))))))))))))))) ?_;have M:OL a.n (Z6.new [.int .i64 (1+i),.int .i64 (y:Int)]) 2 u (L.map Lot.row):=OL.ext (OL.W7 (OL.W7 ho Q om) R om) (.new _ _);have b4:T9 q p a (Z6.new [.int .i64 (1+i),.int .i64 (y:Int)]):=((hX.trans (.xq Q)).trans (.xq R)).trans (.of (Ext.Aw (.refl _) _));refine J6 (row:=Lot.row ⟨1+i,(y:Int)⟩) (fun _ _ _ _=>R5) M (G6 nL nL) (G3 (by simp[Lot.row]) (by simp)) (by rw[z2z];omega) (by simp;omega) ?_;rintro u' Z8 K hA -;have n8:=hA.n;simp only[K9]at n8;obtain⟨F,sp,rfl,b8,b1,b2,S⟩:∃ F sp,u'= .slice (some ⟨F,0,sp⟩) (k+1) (k+1)/\(sp=none\/sp=some 2)/\a.n<=F/\F<Z8.n/\Z8.B8 F=some ((L.map Lot.row++[Lot.row ⟨1+i,(y:Int)⟩]).flatten):=by
   obtain⟨c5,⟨b0,c⟩|⟨F,sp,b0,b7,b1,b2,S⟩⟩:=K
   ·simp at c
   ·exact⟨F,sp,by rw[b0];simp[d],b7,b1,b2,S⟩
  have c1:F≠p:=om;have r8:Z8.B8 p=some _:=(B9 (hA.same p (by simp;omega) bv)).trans ((J1 (by first|omega|(simp;omega))).trans c0);have qN:GQ q v l (Z6.new [.int .i64 (1+i),.int .i64 (y:Int)]):=Qy.ext (.new _ _) om;have H:T9 q p a Z8:=T9.app hA b4 M nL;have J:Ext Z Z8:=H.ext h0.E hq om;have qF:GQ q v l Z8:=qN.app hA M (by first|omega|(simp;omega)) om;refine gU1 (aI @P2 (aI @R6 (aI @R1 (aI @K6 (aI @R2 (aI @P5 (aI @K4 (aI @K5 (aI @H5 (aI @gw1 (aI g2 (aI g3 (aI g4 (aI g5 (aI @gc r8))))))))))))))) ?_;refine T3.intro (by(repeat first|simp(disch:=omega) only[N7,Q9,N1,asx (Ext.refl _),S7 (b:=p) Q om,S7 (b:=p) R om]|rw[U0 (by kernel_rfl)]);first|done|rfl) ?_;rcases XL k with b6|b6
  ·have hd:decide ((0:Int)<(k:Int))=false:=dF;refine gU1 (aI @P2 (aI @R6 (aI @R1 (aI @K6 (aI @R2 (aI @P5 (aI @K4 (aI @K5 (aI @H5 (aI @gw1 (aI g2 (aI g3 (aI g4 (aI g5 (aI @gc hd))))))))))))))) ?_;obtain rfl:L=[]:=NV om;refine⟨fR,fR1 g5,H.upd,_,[⟨1+i,(y:Int)⟩],⟨fR1 g2,fR1 g3,fR1 g4,J.upd om _,qF.x (G5.refl.upd _) om om,cL,by simp;omega⟩,OL.upd K om,by simp;omega,?_,?_⟩
   ·exact AA5 _ _
   ·intro z c;rw[Cb]at c;subst c;exact⟨by show 1<=1+i;omega,by show 1+i<=1+2*((1:Nat):Int);omega,by show(0:Int)<=(y:Int);omega,by show(y:Int)<=199;omega⟩
  ·obtain⟨j,rfl⟩:∃ j,k=j+1:=⟨k-1,om⟩
   have hd:decide ((0:Int)<((j+1:Nat):Int))=true:=dT;have e1:((j+1:Nat):Int)-1=(j:Int):=om;obtain⟨yl,cells,N,b5,s1,s2,s3⟩:=kZ (L:=L) (x:=⟨1+i,(y:Int)⟩) om om;rw[d,Nat.add_sub_cancel]at N s2;rw[d]at s1 s3;rw[b5]at S;have U:=C1 S;have b9:=W yl (y6 N);have Y:=ke X (k:=j) om N;cases yi:decide (yl.id<1+i)with
   | true=>
     refine gU1 (aI @P2 (aI @R6 (aI @R1 (aI @K6 (aI @R2 (aI @P5 (aI @K4 (aI @K5 (aI @H5 (aI @gw1 (aI g2 (aI g3 (aI g4 (aI g5 (aI @gc (aI hd (aI e1 (aI U (aI s1 (aI s2 yi)))))))))))))))))))) ?_;refine⟨fR,fR1 g5,H.upd,_,L++[⟨1+i,(y:Int)⟩],⟨fR1 g2,fR1 g3,fR1 g4,J.upd om _,qF.x (G5.refl.upd _) om om,cL,by simp;omega⟩,?_,by simp[d],?_,?_⟩
     ·rw[Ah];exact OL.upd K om
     ·exact TQ X fun z c=>Int.lt_of_le_of_lt (Y z c) (z6z yi)
     ·intro z c;rw[W4,d];simp only[AG,Hf];rcases An.1 c with c|c
      ·have:=W z c;rw[d]at this;omega
      ·rw[Cb]at c;subst c;dsimp only;omega
   | false=>
     have c2:=z9z yi;rw[d]at b9;refine gU1 (aI @P2 (aI @R6 (aI @R1 (aI @K6 (aI @R2 (aI @P5 (aI @K4 (aI @K5 (aI @H5 (aI @gw1 (aI g2 (aI g3 (aI g4 (aI g5 (aI @gc (aI hd (aI e1 (aI S (aI U (aI s1 (aI s2 (aI s3 yi)))))))))))))))))))))) ?_;refine T3.intro (by(repeat first|simp(disch:=omega) only[N7,Q9,N1,asx (Ext.refl _)]|rw[U0 (by kernel_rfl)]);first|done|rfl) ?_;refine gU1 (aI @P2 (aI @R6 (aI @R1 (aI @K6 (aI @R2 (aI @P5 (aI @K4 (aI @K5 (aI @H5 (aI @gw1 (aI g2 (aI g3 (aI g4 (aI g5 @gc)))))))))))))) ?_;refine⟨fR,fR1 g5,T9.De H.upd b1,_,L++[⟨yl.id+1,(y:Int)⟩],⟨fR1 g2,fR1 g3,fR1 g4,(J.upd om _).upd om _,(qF.x (G5.refl.upd _) om om).x (G5.refl.upd _) (by simp;omega) om,cL,by simp;omega⟩,?_,by simp[d],?_,?_⟩
     ·refine⟨fun r O=>?_,.inr ⟨F,sp,by simp[d],b8,b1,by simp;omega,by rw[Ah];exact G8⟩⟩;rw[Ah]at O;rcases An.1 O with O|O
      ·obtain⟨x,-,rfl⟩:=GI.1 O;rfl
      ·obtain⟨x,-,rfl⟩:=GI.1 O;rfl
     ·exact TQ X fun z c=>Int.lt_add_one_of_le (Y z c)
     ·intro z c;rw[W4,d];simp only[AG,Hf];rcases An.1 c with c|c
      ·have:=W z c;rw[d]at this;omega
      ·rw[Cb]at c;subst c;dsimp only;omega
 ·clear gn V;rintro fr τ ⟨gc,g5,hX,u,L,⟨g2,g3,g4,hE,hQ,I,hp⟩,ho,d,X,W⟩;simp only[mdC,Tryz.f14,J2,M1,y7,y8,y9,AA];refine gU1 (aI @A6 (aI @C7 (aI @gc (aI g5 @HD)))) ?_;exact⟨_,_,u,L,rfl,⟨fR1 g2,fR1 g3,fR1 g4,hE,hQ,I,hp⟩,hX,ho,d,X,W⟩
def nU {Z d:St}{N:Fr}{q p:Nat}{v:Value}{l:List Int}{H0:List Nat}{a0 a1 a3 a4 a5 a6 a7 a8 a9 s A B C D F G H I J:Value}(hl:BX (J0 Z H0) v l) (m:l.length<=9223372036854775807) (U:Z.n<=q) (c6:q<p) (h0:MdS Z q p v l [a0,a1,.slice none 0 0,a3,a4,a5,a6,a7,a8,a9,s,A,B,C,D,F,G,H,I,J] N d) (b3:N.get 7=some (.int .i64 0)) :
  Ev (lim Tryz.prog HS none (.loop (mdC [1,1,1,1,1,0,1,2,3])) N d) (fun r=>∃ fr τ u,∃ L:List S8,r=⟨.exit 2,fr,τ⟩/\MdS Z q p v l [a0,a1,u,a3,a4,a5,a6,a7,a8,a9,s,A,B,C,D,F,G,H,I,J] fr τ/\T9 q p d τ/\OL d.n τ 5 u (L.map S8.row)/\L.length<=3/\L.map S8.name=OI.take L.length/\∀ c∈L,(c.kind=1\/c.kind=2)/\0<=c.low/\c.low<=3/\0<=c.high/\c.high<=8) ⟨⟩:=by
 have c5:=h0.lt
 refine GL 3 (fun k fr τ=>fr.get 7=some (.int .i64 (k:Nat))/\T9 q p d τ/\∃ u,∃ L:List S8,MdS Z q p v l [a0,a1,u,a3,a4,a5,a6,a7,a8,a9,s,A,B,C,D,F,G,H,I,J] fr τ/\OL d.n τ 5 u (L.map S8.row)/\L.length=k/\L.map S8.name=OI.take L.length/\∀ c∈L,(c.kind=1\/c.kind=2)/\0<=c.low/\c.low<=3/\0<=c.high/\c.high<=8)
  (fun r=>∃ fr τ u,∃ L:List S8,r=⟨.exit 2,fr,τ⟩/\MdS Z q p v l [a0,a1,u,a3,a4,a5,a6,a7,a8,a9,s,A,B,C,D,F,G,H,I,J] fr τ/\T9 q p d τ/\OL d.n τ 5 u (L.map S8.row)/\L.length<=3/\L.map S8.name=OI.take L.length/\∀ c∈L,(c.kind=1\/c.kind=2)/\0<=c.low/\c.low<=3/\0<=c.high/\c.high<=8) ?_ ?_ (fun r h=>h)
 ·exact⟨b3,.refl,_,[],h0,OL.nil,rfl,rfl,fun c i=>by cases i⟩
 ·rintro k fr τ hk ⟨gc,hX,u,L,⟨g2,g3,g4,hE,hQ,e,hp⟩,ho,hL,hP⟩;have nX:=hX.n;have bv:K3 u≠some p:=fun hb=>by have:=(ho.blk hb).1;omega
  simp only[mdC,Tryz.f14,J2,M1,y7,y8,y9,AA];refine gU1 (aI @A6 (aI @P2 (aI @R5 (aI @R1 (aI @K6 (aI @R2 (aI @P5 (aI @K4 (aI @K5 (aI @H5 (aI @gc (aI g2 (aI g3 g4))))))))))))) ?_;refine(nxg (n:=4) hl m hE U (by first|omega|(simp;omega)) hQ om om).mono ?_;rintro r ⟨x0,Z1,rfl,c7,V,W,g⟩;have b8:=g.n
  try simp only[K9]at b8
  have e:Z1.B8 p=some _:=(g.B8 (by first|omega|(simp;omega)) om).trans e;have K:=C1 e;rcases AH x0 (k+1)with Y|Y
  ·have i:decide (k<x0)=false:=dF;refine gU1 (aI @A6 (aI @C7 (aI @gc (aI i @PO)))) ?_;exact⟨_,_,u,L,rfl,⟨fR1 g2,fR1 g3,fR1 g4,V,W,e,om⟩,hX.trans (.xq g),OL.W7 ho g om,om,hP⟩
  have i:=M3 Y;refine gU1 (aI @A6 (aI @P2 (aI @R5 (aI @R1 (aI @K6 (aI @R2 (aI @P5 (aI @K4 (aI @K5 (aI @H5 (aI @gc (aI g2 (aI g3 (aI g4 (aI i K))))))))))))))) ?_;refine(nxg (n:=4) hl m V U (by first|omega|(simp;omega)) W om om).mono ?_;rintro r ⟨f,Z2,rfl,c2,b1,b2,o⟩;have b7:=o.n
  try simp only[K9]at b7
  have e:Z2.B8 p=some _:=(o.B8 (by first|omega|(simp;omega)) om).trans e;have K:=C1 e;refine gU1 (aI @A6 (aI @P2 (aI @R5 (aI @R1 (aI @K6 (aI @R2 (aI @P5 (aI @K4 (aI @K5 (aI @H5 (aI @gc (aI g2 (aI g3 (aI g4 K)))))))))))))) ?_;refine QE.mono ?_;rintro r ⟨bn,Z3,rfl,M,c0,c1,rn⟩;have n3:=M.n;have e:Z3.B8 p=some _:=(M.B8 om).trans e;have K:=C1 e;have b9:=C1 rn;obtain⟨j,hj,b5⟩:∃ j:Nat,2+(k:Int)=(j:Int)/\j=k+2:=⟨k+2,om,rfl⟩
  obtain⟨nm,a2,b6,c4,c3⟩:=AA7 (show k<3 by omega);rw[<- b5]at a2;refine gU1 (aI @A6 (aI @P2 (aI @R5 (aI @R1 (aI @K6 (aI @R2 (aI @P5 (aI @K4 (aI @K5 (aI @H5 (aI @gc (aI g2 (aI g3 (aI g4 (aI hj (aI b9 a2)))))))))))))))) ?_;refine(nxg (n:=2) hl m (b1.trans M) U (by first|omega|(simp;omega)) (b2.ext M om) om om).mono ?_;rintro r ⟨y,Z4,rfl,hy,Ey,Qy,R⟩;have ny:=R.n
  try simp only[K9]at ny
  have e:Z4.B8 p=some _:=(R.B8 (by first|omega|(simp;omega)) om).trans e;have K:=C1 e;refine gU1 (aI @A6 (aI @P2 (aI @R5 (aI @R1 (aI @K6 (aI @R2 (aI @P5 (aI @K4 (aI @K5 (aI @H5 (aI @gc (aI g2 (aI g3 g4))))))))))))) ?_;refine(nxg (n:=6) hl m Ey U (by first|omega|(simp;omega)) Qy om om).mono ?_;rintro r ⟨z,Z5,rfl,hz,Ez,Qz,S⟩;have nz:=S.n
  try simp only[K9]at nz
  have e:Z5.B8 p=some _:=(S.B8 (by first|omega|(simp;omega)) om).trans e;have K:=C1 e;refine gU1 (aI @A6 (aI @P2 (aI @R5 (aI @R1 (aI @K6 (aI @R2 (aI @P5 (aI @K4 (aI @K5 (aI @H5 (aI @gc (aI g2 (aI g3 g4))))))))))))) ?_;refine(nxg (n:=3) hl m Ez U (by first|omega|(simp;omega)) Qz om om).mono ?_;rintro r ⟨w,Z6,rfl,hw,Ew,Qw,Q⟩;have nw:=Q.n
  try simp only[K9]at nw
  have e:Z6.B8 p=some _:=(Q.B8 (by first|omega|(simp;omega)) om).trans e;have K:=C1 e;refine gU1 (aI @A6 (aI @P2 (aI @R5 (aI @R1 (aI @K6 (aI @R2 (aI @P5 (aI @K4 (aI @K5 (aI @H5 (aI @gc (aI g2 (aI g3 (aI g4 K)))))))))))))) ?_;have O:OL d.n (Z6.new [str nm,.int .i64 (1+(y:Int)),.int .i64 (f:Int),.int .i64 ((f:Int)+(z:Int)),.bool (decide ((w:Int)=0))]) 5 u (L.map S8.row):=OL.ext (OL.W7 (OL.W7 (OL.W7 (OL.ext (OL.W7 (OL.W7 ho g om) o om) M) R om) S om) Q om) (.new _ _);have b4:T9 q p d (Z6.new [str nm,.int .i64 (1+(y:Int)),.int .i64 (f:Int),.int .i64 ((f:Int)+(z:Int)),.bool (decide ((w:Int)=0))]):=((((((hX.trans (.xq g)).trans (.xq o)).trans (.of M)).trans (.xq R)).trans (.xq S)).trans (.xq Q)).trans (.of (Ext.Aw (.refl _) _));refine J6 (row:=(S8.row) ⟨nm,1+(y:Int),(f:Int),(f:Int)+(z:Int),decide ((w:Int)=0)⟩) (fun _ _ _ _=>R6) O (G6 nL nL) (G3 (by simp[S8.row,Req.row]) (by simp)) (by rw[z2z];omega) (by simp;omega) ?_;rintro u' Z8 b0 hA -;obtain⟨ua,n1,rfl⟩:∃ ua n,u'= .slice ua n n:=by obtain⟨a,h⟩:=OL.shape b0;exact⟨a,_,h⟩
  have r8:Z8.B8 p=some _:=(B9 (hA.same p (by simp;omega) bv)).trans ((J1 (by first|omega|(simp;omega))).trans e);have qN:GQ q v l (Z6.new [str nm,.int .i64 (1+(y:Int)),.int .i64 (f:Int),.int .i64 ((f:Int)+(z:Int)),.bool (decide ((w:Int)=0))]):=Qw.ext (.new _ _) (by first|omega|(simp;omega));have n8:=hA.n;simp only[K9]at n8;refine gU1 (aI @P2 (aI @R5 (aI @R1 (aI @K6 (aI @R2 (aI @P5 (aI @K4 (aI @K5 (aI @H5 (aI @gw2 (aI g2 (aI g3 (aI g4 (aI @gc r8)))))))))))))) ?_;refine T3.intro (by(repeat first|simp(disch:=omega) only[N7,Q9,N1,asx (Ext.refl _),asx M,S7 (b:=p) R om,S7 (b:=p) S om,S7 (b:=p) Q om,S7 (b:=bn) R om,S7 (b:=bn) S om,S7 (b:=bn) Q om]|rw[U0 (by kernel_rfl)]);first|done|rfl) ?_;refine gU1 (aI @P2 (aI @R5 (aI @R1 (aI @K6 (aI @R2 (aI @P5 (aI @K4 (aI @K5 (aI @H5 (aI @gw2 (aI g2 (aI g3 (aI g4 (aI @gc @Jx)))))))))))))) ?_;have X:T9 q p d Z8:=T9.app hA b4 O nL;refine⟨om,fR,X.upd,_,L++[⟨nm,1+(y:Int),(f:Int),(f:Int)+(z:Int),decide ((w:Int)=0)⟩],⟨fR1 g2,fR1 g3,fR1 g4,(X.ext h0.E U om).upd om _,(qN.app hA O (by first|omega|(simp;omega)) om).x (G5.refl.upd _) om om,cL,by simp;omega⟩,?_,by simp[hL],by rw[Ah,hP.1,W4,hL];exact b6.symm,?_⟩
  rotate_left
  ·intro c i;rcases An.1 i with i|i
   ·exact hP.2 c i
   ·rw[Cb]at i;subst i;exact⟨by show 1+(y:Int)=1\/1+(y:Int)=2;omega,by show(0:Int)<=(f:Int);omega,by show(f:Int)<=3;omega,by show(0:Int)<=(f:Int)+(z:Int);omega,by show(f:Int)+(z:Int)<=8;omega⟩
  ·rw[Ah];exact OL.upd b0 om
def vG {Z d:St}{O:Fr}{q p:Nat}{v:Value}{l:List Int}{H0:List Nat}{a0 a1 a2 a4 a5 a6 a7 a8 a9 i m o s A B C D F G:Value}(hl:BX (J0 Z H0) v l) (H:l.length<=9223372036854775807) (hq:Z.n<=q) (c2:q<p) (h0:MdS Z q p v l [a0,a1,a2,.slice none 0 0,a4,a5,a6,a7,a8,a9,i,m,o,s,A,B,C,D,F,G] O d) (b1:O.get 9=some (.int .i64 0)) :
  Ev (lim Tryz.prog HS none (.loop (mdC [1,1,1,1,1,1,0,1,2,3])) O d) (fun r=>∃ fr τ u,∃ L:List Req,r=⟨.exit 4,fr,τ⟩/\MdS Z q p v l [a0,a1,a2,u,a4,a5,a6,a7,a8,a9,i,m,o,s,A,B,C,D,F,G] fr τ/\T9 q p d τ/\OL d.n τ 3 u (L.map Req.row)/\L.length<=2/\∀ x∈L,(R4 x.name=true/\x.name.length<=9)/\([[60,61],[62,61]]:List By).contains x.rel=true/\0<=x.value/\x.value<=7) ⟨⟩:=by
 have c1:=h0.lt
 refine GL 2 (fun k fr τ=>fr.get 9=some (.int .i64 (k:Nat))/\T9 q p d τ/\∃ u,∃ L:List Req,MdS Z q p v l [a0,a1,a2,u,a4,a5,a6,a7,a8,a9,i,m,o,s,A,B,C,D,F,G] fr τ/\OL d.n τ 3 u (L.map Req.row)/\L.length=k/\∀ x∈L,(R4 x.name=true/\x.name.length<=9)/\([[60,61],[62,61]]:List By).contains x.rel=true/\0<=x.value/\x.value<=7)
  (fun r=>∃ fr τ u,∃ L:List Req,r=⟨.exit 4,fr,τ⟩/\MdS Z q p v l [a0,a1,a2,u,a4,a5,a6,a7,a8,a9,i,m,o,s,A,B,C,D,F,G] fr τ/\T9 q p d τ/\OL d.n τ 3 u (L.map Req.row)/\L.length<=2/\∀ x∈L,(R4 x.name=true/\x.name.length<=9)/\([[60,61],[62,61]]:List By).contains x.rel=true/\0<=x.value/\x.value<=7) ?_ ?_ (fun r h=>h)
 ·exact⟨b1,.refl,_,[],h0,OL.nil,rfl,fun c g=>by cases g⟩
 ·rintro k fr τ hk ⟨gc,hX,u,L,⟨g2,g3,g4,hE,hQ,e,hp⟩,ho,hL,hP⟩;have nX:=hX.n;have bv:K3 u≠some p:=fun hb=>by have:=(ho.blk hb).1;omega
  simp only[mdC,Tryz.f14,J2,M1,y7,y8,y9,AA];refine gU1 (aI @A6 (aI @P2 (aI @R5 (aI @R6 (aI @K6 (aI @R2 (aI @P5 (aI @K4 (aI @K5 (aI @H5 (aI @gc (aI g2 (aI g3 g4))))))))))))) ?_;refine(nxg (n:=3) hl H hE hq (by first|omega|(simp;omega)) hQ om om).mono ?_;rintro r ⟨x0,Z1,rfl,c3,S,U,f⟩;have b7:=f.n
  try simp only[K9]at b7
  have e:Z1.B8 p=some _:=(f.B8 (by first|omega|(simp;omega)) om).trans e;have R:=C1 e;rcases AH x0 (k+1)with W|W
  ·have g:decide (k<x0)=false:=dF;refine gU1 (aI @A6 (aI @C7 (aI @gc (aI g @PO)))) ?_;exact⟨_,_,u,L,rfl,⟨fR1 g2,fR1 g3,fR1 g4,S,U,e,om⟩,hX.trans (.xq f),OL.W7 ho f om,om,hP⟩
  have g:=M3 W;refine gU1 (aI @A6 (aI @P2 (aI @R5 (aI @R6 (aI @K6 (aI @R2 (aI @P5 (aI @K4 (aI @K5 (aI @H5 (aI @gc (aI g2 (aI g3 (aI g4 (aI g R))))))))))))))) ?_;refine QE.mono ?_;rintro r ⟨bn,Z2,rfl,K,b9,c0,rn⟩;have n2:=K.n;have e:Z2.B8 p=some _:=(K.B8 om).trans e;have R:=C1 e;refine gU1 (aI @A6 (aI @P2 (aI @R5 (aI @R6 (aI @K6 (aI @R2 (aI @P5 (aI @K4 (aI @K5 (aI @H5 (aI @gc (aI g2 (aI g3 g4))))))))))))) ?_;refine(nxg (n:=3) hl H (S.trans K) hq (by first|omega|(simp;omega)) (U.ext K om) om om).mono ?_;rintro r ⟨x,J,rfl,hx,Ex,Qx,M⟩;have nx:=M.n
  try simp only[K9]at nx
  have e:J.B8 p=some _:=(M.B8 (by first|omega|(simp;omega)) om).trans e;have R:=C1 e;have b8:J.row bn=some _:=(M.row om om).trans (C1 rn);obtain⟨j,hj,b3⟩:∃ j:Nat,2+(x:Int)=(j:Int)/\j=x+2:=⟨x+2,om,rfl⟩
  obtain⟨nm,X,-,b5,b4⟩:=AA7 (show x<3 by omega);rw[<- b3]at X;refine gU1 (aI @A6 (aI @P2 (aI @R5 (aI @R6 (aI @K6 (aI @R2 (aI @P5 (aI @K4 (aI @K5 (aI @H5 (aI @gc (aI g2 (aI g3 (aI g4 (aI hj (aI b8 X)))))))))))))))) ?_;have e:(J.new [str [60,61],str [62,61]]).B8 p=some _:=(J1 om).trans e;refine(nxg (n:=2) hl H (Ex.trans (.new _ _)) hq (by first|omega|(simp;omega)) (Qx.ext (.new _ _) om) om om).mono ?_;rintro r ⟨y,Z4,rfl,hy,Ey,Qy,I⟩;have ny:=I.n
  try simp only[K9]at ny
  have e:Z4.B8 p=some _:=(I.B8 (by first|omega|(simp;omega)) om).trans e;have R:=C1 e;have b0:Z4.row J.n=some [str [60,61],str [62,61]]:=eT (I.row (by simp) om) cL;obtain⟨rl,b6,a3⟩:=vH hy;refine gU1 (aI @A6 (aI @P2 (aI @R5 (aI @R6 (aI @K6 (aI @R2 (aI @P5 (aI @K4 (aI @K5 (aI @H5 (aI @gc (aI g2 (aI g3 (aI g4 (aI b0 b6))))))))))))))) ?_;refine(nxg (n:=8) hl H Ey hq (by first|omega|(simp;omega)) Qy om om).mono ?_;rintro r ⟨z,Z5,rfl,hz,Ez,Qz,N⟩;have nz:=N.n
  try simp only[K9]at nz
  have e:Z5.B8 p=some _:=(N.B8 (by first|omega|(simp;omega)) om).trans e;have R:=C1 e;refine gU1 (aI @A6 (aI @P2 (aI @R5 (aI @R6 (aI @K6 (aI @R2 (aI @P5 (aI @K4 (aI @K5 (aI @H5 (aI @gc (aI g2 (aI g3 (aI g4 R)))))))))))))) ?_;have Xn:G5 q J (J.new [str [60,61],str [62,61]]):= .of (.new _ _);have Q:OL d.n (Z5.new [str nm,str rl,.int .i64 (z:Int)]) 3 u (L.map Req.row):=OL.ext (OL.W7 (OL.W7 (OL.W7 (OL.W7 (OL.ext (OL.W7 ho f om) K) M om) Xn om) I om) N om) (.new _ _);have b2:T9 q p d (Z5.new [str nm,str rl,.int .i64 (z:Int)]):=((((((hX.trans (.xq f)).trans (.of K)).trans (.xq M)).trans (.xq Xn)).trans (.xq I)).trans (.xq N)).trans (.of (Ext.Aw (.refl _) _));refine J6 (row:=(Req.row) ⟨nm,rl,(z:Int)⟩) (fun _ _ _ _=>R1) Q (G6 nL nL) (G3 (by simp[S8.row,Req.row]) (by simp)) (by rw[z2z];omega) (by simp;omega) ?_;rintro u' Z8 Y hA -;obtain⟨ua,n1,rfl⟩:∃ ua n,u'= .slice ua n n:=by obtain⟨a,h⟩:=OL.shape Y;exact⟨a,_,h⟩
  have r8:Z8.B8 p=some _:=(B9 (hA.same p (by simp;omega) bv)).trans ((J1 (by first|omega|(simp;omega))).trans e);have qN:GQ q v l (Z5.new [str nm,str rl,.int .i64 (z:Int)]):=Qz.ext (.new _ _) (by first|omega|(simp;omega));have n8:=hA.n;simp only[K9]at n8;refine gU1 (aI @P2 (aI @R5 (aI @R6 (aI @K6 (aI @R2 (aI @P5 (aI @K4 (aI @K5 (aI @H5 (aI @gw3 (aI g2 (aI g3 (aI g4 (aI @gc r8)))))))))))))) ?_;refine T3.intro (by(repeat first|simp(disch:=omega) only[N7,Q9,N1,asx (Ext.refl _),asx K,S7 (b:=p) M om,S7 (b:=p) I om,S7 (b:=p) N om,S7 (b:=bn) M om,S7 (b:=bn) I om,S7 (b:=bn) N om,S7 (b:=J.n) I om,S7 (b:=J.n) N om]|rw[U0 (by kernel_rfl)]);first|done|rfl) ?_;refine gU1 (aI @P2 (aI @R5 (aI @R6 (aI @K6 (aI @R2 (aI @P5 (aI @K4 (aI @K5 (aI @H5 (aI @gw3 (aI g2 (aI g3 (aI g4 (aI @gc @Jx)))))))))))))) ?_;have V:T9 q p d Z8:=T9.app hA b2 Q nL;refine⟨om,fR,V.upd,_,L++[⟨nm,rl,(z:Int)⟩],⟨fR1 g2,fR1 g3,fR1 g4,(V.ext h0.E hq om).upd om _,(qN.app hA Q (by first|omega|(simp;omega)) om).x (G5.refl.upd _) om om,cL,by simp;omega⟩,?_,by simp[hL],?_⟩
  rotate_left
  ·intro c g;rcases An.1 g with g|g
   ·exact hP c g
   ·rw[Cb]at g;subst g;exact⟨⟨b5,b4⟩,a3,by show(0:Int)<=(z:Int);omega,by show(z:Int)<=7;omega⟩
  ·rw[Ah];exact OL.upd Y om
def vZ {Z b:St}{z:Fr}{q p:Nat}{v:Value}{l:List Int}{H0:List Nat}{J K M N O Q R S U V d e f g i j m o y:Value}(hl:BX (J0 Z H0) v l) (b2:l.length<=9223372036854775807) (hq:Z.n<=q) (b9:q<p) (h0:MdS Z q p v l [J,K,M,N,O,Q,R,S,U,V,d,.slice none 0 0,e,f,g,i,j,m,o,y] z b) (b0:z.get 11=some (.int .i64 0)){nt:Nat}(B:z.get 10=some (.slice (some ⟨nt,0,none⟩) 3 3)) (b7:b.B8 nt=some [str [112,114,105,99,101],str [115,112,101,101,100],str [99,111,109,102,111,114,116]]) (c1:nt<b.n) (c3:nt≠q) (c2:nt≠p) :
  Ev (lim Tryz.prog HS none (.loop (mdC [1,1,1,1,1,1,1,1,0,1,2,3])) z b) (fun r=>∃ fr τ u,∃ L:List By,r=⟨.exit 6,fr,τ⟩/\MdS Z q p v l [J,K,M,N,O,Q,R,S,U,V,d,u,e,f,g,i,j,m,o,y] fr τ/\T9 q p b τ/\OL b.n τ 1 u (L.map (fun s:By=>[str s]))/\L.length<=3/\L=MU.take L.length) ⟨⟩:=by
 have b8:=h0.lt
 refine GL 3 (fun k fr τ=>fr.get 11=some (.int .i64 (k:Nat))/\fr.get 10=some (.slice (some ⟨nt,0,none⟩) 3 3)/\T9 q p b τ/\∃ u,∃ L:List By,MdS Z q p v l [J,K,M,N,O,Q,R,S,U,V,d,u,e,f,g,i,j,m,o,y] fr τ/\OL b.n τ 1 u (L.map (fun s:By=>[str s]))/\L.length=k/\L=MU.take L.length)
  (fun r=>∃ fr τ u,∃ L:List By,r=⟨.exit 6,fr,τ⟩/\MdS Z q p v l [J,K,M,N,O,Q,R,S,U,V,d,u,e,f,g,i,j,m,o,y] fr τ/\T9 q p b τ/\OL b.n τ 1 u (L.map (fun s:By=>[str s]))/\L.length<=3/\L=MU.take L.length) ?_ ?_ (fun r h=>h)
 ·exact⟨b0,B,.refl,_,[],h0,OL.nil,rfl,rfl⟩
 ·rintro k fr τ hk ⟨gc,B,X,u,L,⟨g2,g3,g4,hE,hQ,I,hp⟩,ho,hL,hP⟩;have nX:=X.n;have bv:K3 u≠some p:=fun hb=>by have:=(ho.blk hb).1;omega
  simp only[mdC,Tryz.f14,J2,M1,y7,y8,y9,AA];refine gU1 (aI @A6 (aI @P2 (aI @R5 (aI @R6 (aI @R1 (aI @K6 (aI @P5 (aI @K4 (aI @K5 (aI @H5 (aI @gc (aI g2 (aI g3 g4))))))))))))) ?_;refine(nxg (n:=4) hl b2 hE hq (by first|omega|(simp;omega)) hQ om om).mono ?_;rintro r ⟨x0,D,rfl,c0,Y,C,c⟩;have b5:=c.n
  try simp only[K9]at b5
  have I:D.B8 p=some _:=(c.B8 (by first|omega|(simp;omega)) om).trans I;have rr:=C1 I;rcases AH x0 (k+1)with G|G
  ·have hc:decide (k<x0)=false:=dF;refine gU1 (aI @A6 (aI @C7 (aI @gc (aI hc @PO)))) ?_;exact⟨_,_,u,L,rfl,⟨fR1 g2,fR1 g3,fR1 g4,Y,C,I,om⟩,X.trans (.xq c),OL.W7 ho c om,om,hP⟩
  have hc:=M3 G;have b6:D.row nt=some [str [112,114,105,99,101],str [115,112,101,101,100],str [99,111,109,102,111,114,116]]:=C1 (by rw[c.B8 om om,X.B8 om om om];exact b7);obtain⟨nm,b3,b4⟩:=vd (show k<3 by omega);refine gU1 (aI @A6 (aI @P2 (aI @R5 (aI @R6 (aI @R1 (aI @K6 (aI @P5 (aI @K4 (aI @K5 (aI @H5 (aI @gc (aI g2 (aI g3 (aI g4 (aI B (aI hc (aI rr (aI b6 b3)))))))))))))))))) ?_;have A:OL b.n (D.new [str nm]) 1 u (L.map (fun s:By=>[str s])):=OL.ext (OL.W7 ho c om) (.new _ _);have b1:T9 q p b (D.new [str nm]):=(X.trans (.xq c)).trans (.of (Ext.Aw (.refl _) _));refine J6 (row:=((fun s:By=>[str s])) nm) (fun _ _ _ _=>R2) A (G6 nL nL) (G3 (by simp[S8.row,Req.row]) (by simp)) (by rw[z2z];omega) (by simp;omega) ?_;rintro u' Z8 H W -;obtain⟨ua,n1,rfl⟩:∃ ua n,u'= .slice ua n n:=by obtain⟨a,h⟩:=OL.shape H;exact⟨a,_,h⟩
  have r8:Z8.B8 p=some _:=(B9 (W.same p (by simp;omega) bv)).trans ((J1 (by first|omega|(simp;omega))).trans I);have qN:GQ q v l (D.new [str nm]):=C.ext (.new _ _) (by first|omega|(simp;omega));have n8:=W.n;simp only[K9]at n8;refine gU1 (aI @P2 (aI @R5 (aI @R6 (aI @R1 (aI @K6 (aI @P5 (aI @K4 (aI @K5 (aI @H5 (aI @Ah5 (aI g2 (aI g3 (aI g4 (aI @gc (aI B r8))))))))))))))) ?_;refine T3.intro (by(repeat first|simp(disch:=omega) only[N7,Q9,N1,asx (Ext.refl _)]|rw[U0 (by kernel_rfl)]);first|done|rfl) ?_;refine gU1 (aI @P2 (aI @R5 (aI @R6 (aI @R1 (aI @K6 (aI @P5 (aI @K4 (aI @K5 (aI @H5 (aI @Ah5 (aI g2 (aI g3 (aI g4 (aI @gc (aI B @Jx))))))))))))))) ?_;have F:T9 q p b Z8:=T9.app W b1 A nL;refine⟨om,fR,fR1 B,F.upd,_,L++[nm],⟨fR1 g2,fR1 g3,fR1 g4,(F.ext h0.E hq om).upd om _,(qN.app W A (by first|omega|(simp;omega)) om).x (G5.refl.upd _) om om,cL,by simp;omega⟩,?_,by simp[hL],by rw[W4,hL];show L++[nm]=MU.take (k+1);rw[b4,hP,hL]⟩
  ·rw[Ah];exact OL.upd H om
def jx {Z d:St}{H:Fr}{q p:Nat}{v:Value}{l:List Int}{H0:List Nat}{U V W X Y a5 a6 a7 a8 a9 o s z A B C D F G:Value}(hl:BX (J0 Z H0) v l) (R:l.length<=9223372036854775807) (hq:Z.n<=q) (b4:q<p) (h0:MdS Z q p v l [U,V,W,X,Y,a5,a6,a7,a8,a9,o,s,z,.slice none 0 0,A,B,C,D,F,G] H d) (b0:H.get 12=some (.int .i64 0)) :
  Ev (lim Tryz.prog HS none (.loop (mdC [1,1,1,1,1,1,1,1,1,0,1,2,3])) H d) (fun r=>∃ fr τ u,∃ L:List (Value×List Int),r=⟨.exit 8,fr,τ⟩/\MdS Z q p v l [U,V,W,X,Y,a5,a6,a7,a8,a9,o,s,z,u,A,B,C,D,F,G] fr τ/\T9 q p d τ/\OL d.n τ 1 u (L.map (fun y:Value×List Int=>[y.1]))/\L.length<=2/\∀ y∈L,(∀ b,K3 y.1=some b->K3 u≠some b)/\OL d.n τ 1 y.1 (y.2.map fun n=>[.int .i64 n])/\∃ a b,y.2=[a,b]/\1<=a/\a<b/\b<=9) ⟨⟩:=by
 have b3:=h0.lt
 refine GL 2 (fun k fr τ=>fr.get 12=some (.int .i64 (k:Nat))/\T9 q p d τ/\∃ u,∃ L:List (Value×List Int),MdS Z q p v l [U,V,W,X,Y,a5,a6,a7,a8,a9,o,s,z,u,A,B,C,D,F,G] fr τ/\OL d.n τ 1 u (L.map (fun y:Value×List Int=>[y.1]))/\L.length=k/\∀ y∈L,(∀ b,K3 y.1=some b->K3 u≠some b)/\OL d.n τ 1 y.1 (y.2.map fun n=>[.int .i64 n])/\∃ a b,y.2=[a,b]/\1<=a/\a<b/\b<=9)
  (fun r=>∃ fr τ u,∃ L:List (Value×List Int),r=⟨.exit 8,fr,τ⟩/\MdS Z q p v l [U,V,W,X,Y,a5,a6,a7,a8,a9,o,s,z,u,A,B,C,D,F,G] fr τ/\T9 q p d τ/\OL d.n τ 1 u (L.map (fun y:Value×List Int=>[y.1]))/\L.length<=2/\∀ y∈L,(∀ b,K3 y.1=some b->K3 u≠some b)/\OL d.n τ 1 y.1 (y.2.map fun n=>[.int .i64 n])/\∃ a b,y.2=[a,b]/\1<=a/\a<b/\b<=9) ?_ ?_ (fun r h=>h)
 ·exact⟨b0,.refl,_,[],h0,OL.nil,rfl,fun c O=>by cases O⟩
 ·rintro k fr τ hk ⟨gc,hX,u,L,⟨g2,g3,g4,hE,hQ,m,hp⟩,ho,hL,hP⟩;have nX:=hX.n;have bv:K3 u≠some p:=fun g=>by have:=(ho.blk g).1;omega
  simp only[mdC,Tryz.f14,J2,M1,y7,y8,y9,AA];refine gU1 (aI @A6 (aI @P2 (aI @R5 (aI @R6 (aI @R1 (aI @K6 (aI @R2 (aI @K4 (aI @K5 (aI @H5 (aI @gc (aI g2 (aI g3 g4))))))))))))) ?_;refine(nxg (n:=3) hl R hE hq (by first|omega|(simp;omega)) hQ om om).mono ?_;rintro r ⟨x0,Z1,rfl,b5,K,M,e⟩;have b2:=e.n
  try simp only[K9]at b2
  have m:Z1.B8 p=some _:=(e.B8 (by first|omega|(simp;omega)) om).trans m;have rr:=C1 m;rcases AH x0 (k+1)with Q|Q
  ·have O:decide (k<x0)=false:=dF;refine gU1 (aI @A6 (aI @C7 (aI @gc (aI O @PO)))) ?_;exact⟨_,_,u,L,rfl,⟨fR1 g2,fR1 g3,fR1 g4,K,M,m,om⟩,hX.trans (.xq e),OL.W7 ho e om,om,fun y j=>⟨(hP y j).1,OL.W7 (hP y j).2.1 e om,(hP y j).2.2⟩⟩
  have O:=M3 Q;refine gU1 (aI @A6 (aI @P2 (aI @R5 (aI @R6 (aI @R1 (aI @K6 (aI @R2 (aI @K4 (aI @K5 (aI @H5 (aI @gc (aI g2 (aI g3 (aI g4 (aI O rr))))))))))))))) ?_;refine(nxg (n:=3) hl R K hq (by first|omega|(simp;omega)) M om om).mono ?_;rintro r ⟨x,f,rfl,hx,Ex,Qx,J⟩;have nx:=J.n
  try simp only[K9]at nx
  have m:f.B8 p=some _:=(J.B8 (by first|omega|(simp;omega)) om).trans m;have rr:=C1 m;refine gU1 (aI @A6 (aI @P2 (aI @R5 (aI @R6 (aI @R1 (aI @K6 (aI @R2 (aI @K4 (aI @K5 (aI @H5 (aI @gc (aI g2 (aI g3 (aI g4 rr)))))))))))))) ?_;have m:(f.new [.int .i64 (1+(k:Int)),.int .i64 (2+(k:Int)+(x:Int))]).B8 p=some _:=(J1 om).trans m;have I:OL d.n ((f.new [.int .i64 (1+(k:Int)),.int .i64 (2+(k:Int)+(x:Int))]).new [.slice (some ⟨f.n,0,none⟩) 2 2]) 1 u (L.map (fun y:Value×List Int=>[y.1])):=OL.ext (OL.ext (OL.W7 (OL.W7 ho e om) J om) (.new _ _)) (.new _ _);have b1:T9 q p d ((f.new [.int .i64 (1+(k:Int)),.int .i64 (2+(k:Int)+(x:Int))]).new [.slice (some ⟨f.n,0,none⟩) 2 2]):=(((hX.trans (.xq e)).trans (.xq J)).trans (.of (Ext.Aw (.refl _) _))).trans (.of (Ext.Aw (.refl _) _));refine J6 (row:=((fun y:Value×List Int=>[y.1])) (.slice (some ⟨f.n,0,none⟩) 2 2,[1+(k:Int),2+(k:Int)+(x:Int)])) (fun _ _ _ _=>P5) I (G6 nL nL) (G3 (by simp[S8.row,Req.row]) (by simp)) (by rw[z2z];omega) (by simp;omega) ?_;rintro u' Z8 S i -;obtain⟨ua,n1,rfl⟩:∃ ua n,u'= .slice ua n n:=by obtain⟨a,h⟩:=OL.shape S;exact⟨a,_,h⟩
  have r8:Z8.B8 p=some _:=(B9 (i.same p (by simp;omega) bv)).trans ((J1 (by first|omega|(simp;omega))).trans m);have qN:GQ q v l ((f.new [.int .i64 (1+(k:Int)),.int .i64 (2+(k:Int)+(x:Int))]).new [.slice (some ⟨f.n,0,none⟩) 2 2]):=(Qx.ext (.new _ _) om).ext (.new _ _) (by first|omega|(simp;omega));have n8:=i.n;simp only[K9]at n8;refine gU1 (aI @P2 (aI @R5 (aI @R6 (aI @R1 (aI @K6 (aI @R2 (aI @K4 (aI @K5 (aI @H5 (aI @Ak6 (aI g2 (aI g3 (aI g4 (aI @gc r8)))))))))))))) ?_;refine T3.intro (by(repeat first|simp(disch:=omega) only[N7,Q9,N1,asx (Ext.refl _),S7 (b:=p) J om]|rw[U0 (by kernel_rfl)]);first|done|rfl) ?_;refine gU1 (aI @P2 (aI @R5 (aI @R6 (aI @R1 (aI @K6 (aI @R2 (aI @K4 (aI @K5 (aI @H5 (aI @Ak6 (aI g2 (aI g3 (aI g4 (aI @gc @Jx)))))))))))))) ?_;have N:T9 q p d Z8:=T9.app i b1 I nL;refine⟨om,fR,N.upd,_,L++[(.slice (some ⟨f.n,0,none⟩) 2 2,[1+(k:Int),2+(k:Int)+(x:Int)])],⟨fR1 g2,fR1 g3,fR1 g4,(N.ext h0.E hq om).upd om _,(qN.app i I (by first|omega|(simp;omega)) om).x (G5.refl.upd _) om om,cL,by simp;omega⟩,?_,by simp[hL],fun y j=>?_⟩
  rotate_left
  ·rcases An.1 j with j|j
   ·obtain⟨c1,c2,c3⟩:=hP y j;have c4:OL d.n ((f.new [.int .i64 (1+(k:Int)),.int .i64 (2+(k:Int)+(x:Int))]).new [.slice (some ⟨f.n,0,none⟩) 2 2]) 1 y.1 (y.2.map fun n=>[.int .i64 n]):=OL.ext (OL.ext (OL.W7 (OL.W7 c2 e om) J om) (.new _ _)) (.new _ _);exact⟨fun b g=>i.far (c4.blk g).2,OL.upd (c4.I4 i.n fun b g=>i.same b (c4.blk g).2 (c1 b g)) om,c3⟩
   ·rw[Cb]at j;subst j;have c4:OL d.n ((f.new [.int .i64 (1+(k:Int)),.int .i64 (2+(k:Int)+(x:Int))]).new [.slice (some ⟨f.n,0,none⟩) 2 2]) 1 (.slice (some ⟨f.n,0,none⟩) 2 2) ([1+(k:Int),2+(k:Int)+(x:Int)].map fun n=>[.int .i64 n]):=OL.mk rfl rfl (by simp) (.inl rfl) om (by simp;omega) (cL);exact⟨fun b g=>i.far (c4.blk g).2,OL.upd (c4.I4 i.n fun b g=>i.same b (c4.blk g).2 (fun hu=>by have:=(ho.blk hu).2;cases g;omega)) om,_,_,rfl,om,om,om⟩
  ·rw[Ah];exact OL.upd S om
def wL {Z u:St}{a6:Fr}{q p:Nat}{v:Value}{l:List Int}{H0:List Nat}{G I J K L M g i j o:Value}(b1:∀ c∈H0,c<Z.n) (S:BX (J0 Z H0) v l) (D:l.length<=9223372036854775807) (hq:Z.n<q) (c7:q<p)
  (h0:MdS Z q p v l [G,I,J,K,L,M,str [],.int .i64 0,.int .i64 0,str [],.slice none 0 0,g,i,j,o,.int .i64 0,.int .i64 0,.int .i64 0,.int .i64 0,.int .i64 0] a6 u) (hz:u.B8 Z.n=some bm) :
  Ev (lim Tryz.prog HS none (mdC [1,1,1,1,1,1,1,1,1,1]) a6 u) (fun r=>∃ fr τ cs,∃ (x1 x2 x3 x4 x5:Value) (e:Ex) (k m:Nat) (a b c d s:Nat),r=⟨.ret,fr,τ.upd Z.n cs⟩/\fr.get 2=some (.pointer (some ⟨Z.n,0,none⟩)) /\
   cs=[G,I,J,K,L,M,x1,x2,x3,x4,x5,g,i,j,o,.int .i64 (a:Nat),.int .i64 (b:Nat),.int .i64 (c:Nat),.int .i64 (d:Nat),.int .i64 (s:Nat)]/\T9 q p u τ/\Ext Z τ/\Z.n<τ.n /\
   ExX (J0 (τ.upd Z.n cs) H0) [x1,x2,x3,x4,x5] e/\FSw k m e/\k<=4/\m<=16/\a<20/\b<40/\c<60/\d<80/\s<20) ⟨⟩:=by
 obtain⟨g2,g3,g4,hE,hQ,f,hp⟩:=h0;have rr:=C1 f;simp only[mdC,Tryz.f14,J2,M1,y7,y8,y9,AA]
 try(refine gU1 (aI @C7 (aI g2 (aI g3 g4))) ?_;try exact⟨⟩)
 refine(nxg (n:=20) S D hE om om hQ om om).mono ?_;rintro r ⟨a,U,rfl,ha,Ea,Qa,Xa⟩;have na:=Xa.n;have f:U.B8 p=some _:=(Xa.B8 om om).trans f;refine gU1 (aI @C7 (aI @BB5 (aI g2 (aI g3 (aI g4 f))))) ?_;obtain⟨S1,y⟩:=nW (U.upd p [G,I,J,K,L,M,str [],.int .i64 0,.int .i64 0,str [],.slice none 0 0,g,i,j,o,.int .i64 (a:Nat),.int .i64 0,.int .i64 0,.int .i64 0,.int .i64 0]);rw[y];have U1:T9 q p u S1:=by rw[<- y];exact(T9.xq Xa).upd
 have n1:S1.n=U.n:=by rw[<- y];rfl
 have f:S1.B8 p=some [G,I,J,K,L,M,str [],.int .i64 0,.int .i64 0,str [],.slice none 0 0,g,i,j,o,.int .i64 (a:Nat),.int .i64 0,.int .i64 0,.int .i64 0,.int .i64 0]:=by rw[<- y];exact cL
 have rr:=C1 f;have E1:Ext Z S1:=by rw[<- y];exact Ea.upd om _
 have Q1:GQ q v l S1:=by rw[<- y];exact Qa.x (G5.refl.upd _) om om
 clear y
 try(refine gU1 (aI @C7 (aI g2 (aI g3 (aI g4 rr)))) ?_;try exact⟨⟩)
 refine(nxg (n:=20) S D E1 om om Q1 om om).mono ?_;rintro r ⟨b,V,rfl,hb,Eb,Qb,Xb⟩;have nb:=Xb.n;have f:V.B8 p=some _:=(Xb.B8 om om).trans f;obtain⟨E,b4⟩:∃ E:Nat,(a:Int)+(b:Int)=(E:Int):=⟨a+b,om⟩
 refine gU1 (aI @C7 (aI @BB6 (aI g2 (aI g3 (aI g4 (aI f b4)))))) ?_;refine T3.intro (by(repeat first|simp(disch:=omega) only[N7,Q9,N1,asx (Ext.refl _),S7 (b:=p) Xb om]|rw[U0 (by kernel_rfl)]);first|done|rfl) ?_
 try(refine gU1 (aI @C7 (aI g2 (aI g3 g4))) ?_;try exact⟨⟩)
 obtain⟨S2,z⟩:=nW (V.upd p [G,I,J,K,L,M,str [],.int .i64 0,.int .i64 0,str [],.slice none 0 0,g,i,j,o,.int .i64 (a:Nat),.int .i64 (E:Nat),.int .i64 0,.int .i64 0,.int .i64 0]);rw[z];have U2:T9 q p u S2:=by rw[<- z];exact(U1.trans (.xq Xb)).upd
 have n2:S2.n=V.n:=by rw[<- z];rfl
 have f:S2.B8 p=some [G,I,J,K,L,M,str [],.int .i64 0,.int .i64 0,str [],.slice none 0 0,g,i,j,o,.int .i64 (a:Nat),.int .i64 (E:Nat),.int .i64 0,.int .i64 0,.int .i64 0]:=by rw[<- z];exact cL
 have rr:=C1 f;have E2:Ext Z S2:=by rw[<- z];exact Eb.upd om _
 have Q2:GQ q v l S2:=by rw[<- z];exact Qb.x (G5.refl.upd _) om om
 clear z
 try(refine gU1 (aI @C7 (aI g2 (aI g3 (aI g4 rr)))) ?_;try exact⟨⟩)
 refine(nxg (n:=20) S D E2 om om Q2 om om).mono ?_;rintro r ⟨c,W,rfl,O,Ec,Qc,Xc⟩;have nc:=Xc.n;have f:W.B8 p=some _:=(Xc.B8 om om).trans f;obtain⟨c2,b6⟩:∃ c2:Nat,(E:Int)+(c:Int)=(c2:Int):=⟨E+c,om⟩
 refine gU1 (aI @C7 (aI @BB7 (aI g2 (aI g3 (aI g4 (aI f b6)))))) ?_;refine T3.intro (by(repeat first|simp(disch:=omega) only[N7,Q9,N1,asx (Ext.refl _),S7 (b:=p) Xc om]|rw[U0 (by kernel_rfl)]);first|done|rfl) ?_
 try(refine gU1 (aI @C7 (aI g2 (aI g3 g4))) ?_;try exact⟨⟩)
 obtain⟨S3,A⟩:=nW (W.upd p [G,I,J,K,L,M,str [],.int .i64 0,.int .i64 0,str [],.slice none 0 0,g,i,j,o,.int .i64 (a:Nat),.int .i64 (E:Nat),.int .i64 (c2:Nat),.int .i64 0,.int .i64 0]);rw[A];have U3:T9 q p u S3:=by rw[<- A];exact(U2.trans (.xq Xc)).upd
 have n3:S3.n=W.n:=by rw[<- A];rfl
 have f:S3.B8 p=some [G,I,J,K,L,M,str [],.int .i64 0,.int .i64 0,str [],.slice none 0 0,g,i,j,o,.int .i64 (a:Nat),.int .i64 (E:Nat),.int .i64 (c2:Nat),.int .i64 0,.int .i64 0]:=by rw[<- A];exact cL
 have rr:=C1 f;have E3:Ext Z S3:=by rw[<- A];exact Ec.upd om _
 have Q3:GQ q v l S3:=by rw[<- A];exact Qc.x (G5.refl.upd _) om om
 clear A
 try(refine gU1 (aI @C7 (aI g2 (aI g3 (aI g4 rr)))) ?_;try exact⟨⟩)
 refine(nxg (n:=20) S D E3 om om Q3 om om).mono ?_;rintro r ⟨d,X,rfl,hd,Ed,Qd,Xd⟩;have nd:=Xd.n;have f:X.B8 p=some _:=(Xd.B8 om om).trans f;obtain⟨R,b7⟩:∃ R:Nat,(c2:Int)+(d:Int)=(R:Int):=⟨c2+d,om⟩
 refine gU1 (aI @C7 (aI @BB8 (aI g2 (aI g3 (aI g4 (aI f b7)))))) ?_;refine T3.intro (by(repeat first|simp(disch:=omega) only[N7,Q9,N1,asx (Ext.refl _),S7 (b:=p) Xd om]|rw[U0 (by kernel_rfl)]);first|done|rfl) ?_
 try(refine gU1 (aI @C7 (aI g2 (aI g3 g4))) ?_;try exact⟨⟩)
 obtain⟨S4,B⟩:=nW (X.upd p [G,I,J,K,L,M,str [],.int .i64 0,.int .i64 0,str [],.slice none 0 0,g,i,j,o,.int .i64 (a:Nat),.int .i64 (E:Nat),.int .i64 (c2:Nat),.int .i64 (R:Nat),.int .i64 0]);rw[B];have U4:T9 q p u S4:=by rw[<- B];exact(U3.trans (.xq Xd)).upd
 have n4:S4.n=X.n:=by rw[<- B];rfl
 have f:S4.B8 p=some [G,I,J,K,L,M,str [],.int .i64 0,.int .i64 0,str [],.slice none 0 0,g,i,j,o,.int .i64 (a:Nat),.int .i64 (E:Nat),.int .i64 (c2:Nat),.int .i64 (R:Nat),.int .i64 0]:=by rw[<- B];exact cL
 have E4:Ext Z S4:=by rw[<- B];exact Ed.upd om _
 have Q4:GQ q v l S4:=by rw[<- B];exact Qd.x (G5.refl.upd _) om om
 clear B
 try(refine gU1 (aI @C7 (aI g2 (aI g3 g4))) ?_;try exact⟨⟩)
 refine(nxg (n:=20) S D E4 om om Q4 om om).mono ?_;rintro r ⟨s,Y,rfl,hs,Es,Qs,Xs⟩;have ns:=Xs.n;have f:Y.B8 p=some _:=(Xs.B8 om om).trans f;refine gU1 (aI @C7 (aI @BB9 (aI g2 (aI g3 (aI g4 f))))) ?_;obtain⟨S5,C⟩:=nW (Y.upd p [G,I,J,K,L,M,str [],.int .i64 0,.int .i64 0,str [],.slice none 0 0,g,i,j,o,.int .i64 (a:Nat),.int .i64 (E:Nat),.int .i64 (c2:Nat),.int .i64 (R:Nat),.int .i64 (s:Nat)]);rw[C];have U5:T9 q p u S5:=by rw[<- C];exact(U4.trans (.xq Xs)).upd
 have n5:S5.n=Y.n:=by rw[<- C];rfl
 have f:S5.B8 p=some [G,I,J,K,L,M,str [],.int .i64 0,.int .i64 0,str [],.slice none 0 0,g,i,j,o,.int .i64 (a:Nat),.int .i64 (E:Nat),.int .i64 (c2:Nat),.int .i64 (R:Nat),.int .i64 (s:Nat)]:=by rw[<- C];exact cL
 have E5:Ext Z S5:=by rw[<- C];exact Es.upd om _
 have Q5:GQ q v l S5:=by rw[<- C];exact Qs.x (G5.refl.upd _) om om
 clear C
 try(refine gU1 (aI @C7 (aI g2 (aI g3 g4))) ?_;try exact⟨⟩)
 refine(nxg (n:=4) S D E5 om om Q5 om om).mono ?_;rintro r ⟨dp,c1,rfl,c5,a8,a9,Q⟩;have c8:=Q.n;have f:c1.B8 p=some _:=(Q.B8 om om).trans f
 try(refine gU1 (aI @C7 (aI g2 (aI g3 g4))) ?_;try exact⟨⟩)
 refine QE.mono ?_;rintro r ⟨bn,τ7,rfl,F7,c3,b0,rn⟩;have n7:=F7.n;have f:τ7.B8 p=some _:=(F7.B8 om).trans f;have E7:Ext Z τ7:=a8.trans F7;have Q7:=a9.ext F7 om;have U7:T9 q p u τ7:=(U5.trans (.xq Q)).trans (.of F7);obtain⟨H,F⟩:=nW ((Z.n::q::p::H0));have b3:∀ c∈H,Z.n<=c\/c∈H0:=by
  intro c O;rw[<- F]at O;simp only[V9]at O;rcases O with rfl|rfl|rfl|h<;>first|(left;omega)|exact .inr h
 have a7:∀ c∈H,c<u.n:=fun c O=>by
  rw[<- F]at O;simp only[V9]at O;rcases O with rfl|rfl|rfl|h<;>first|omega|(have:=b1 c h;omega)
 have b9:q∈H:=by rw[<- F];simp
 have c6:=U5.n;have b5:bn∉H:=fun h=>by have:=a7 bn h;omega
 have c0:SL (J0 τ7 H) 1 (.slice (some ⟨bn,0,none⟩) 5 5) (AE4.map fun s=>[str s]):=by
  refine .inr ⟨bn,0,none,5,_,rfl,by rw[FD];exact b0,by rw[CW b5];exact C1 rn,?_⟩;intro k r N
  match k,N with
  |0,N=>cases N;rfl
  |1,N=>cases N;rfl
  |2,N=>cases N;rfl
  |3,N=>cases N;rfl
  |4,N=>cases N;rfl
 try(refine gU1 (aI @C7 (aI g2 (aI g3 g4))) ?_;try exact⟨⟩)
 refine(uz sX dp om (H:=H) (fun c O=>by have:=a7 c O;omega) (AE5 S D E7 b3 om Q7 b9) c0).mono ?_;rintro r ⟨row,e,k,m,τ8,rfl,c4,X8,hx,hf,N,hm⟩;have n8:=X8.n;have f:τ8.B8 p=some _:=(X8.B8 om om).trans f;obtain⟨x1,x2,x3,x4,x5,rfl⟩:=fc5 hx.to;have U8:T9 q p u τ8:=U7.trans (.xq X8);have rz:τ8.B8 Z.n=some bm:=by rw[U8.B8 om om om];exact hz
 unfold bm at rz;refine gU1 (aI @C7 (aI @gw6 (aI g2 (aI g3 (aI g4 (aI f rz)))))) ?_;have b8:m<=16:=by
  have:2 ^ (dp+1)<=16:=W5 (bK om (show dp+1<=4 by omega)) (by decide);omega
 refine⟨_,_,_,x1,x2,x3,x4,x5,e,k,m,a,E,c2,R,s,rfl,fR1 g2,rfl,U8.upd,(X8.ext E7 om).upd om _,by simp;omega,?_,hf,om,b8,om,om,om,om,om⟩;refine hx.I4 (K8 (by simp) fun c O hm=>?_);have h1:c≠Z.n:=fun e=>hm (by rw[<- F,e];simp);have h2:c≠p:=fun e=>hm (by rw[<- F,e];simp);exact⟨fun h=>hm (by rw[<- F];simp[h]),by rw[I2 h1,I2 h2]⟩
def pk {a:Type}{R:Value->List Int->Prop}{f:a->Value}{g:a->List Int}:∀ {L:List a},(∀ y∈L,R (f y) (g y))->EK R (L.map f) (L.map g):=by
 intro L;induction L with
 |nil=>intro _;trivial
 |cons y L c=>intro h;exact⟨h y (Cw ..),c fun z b=>h z (Ci _ b)⟩
def wJ {nm:By}{L1:List Lot}{L2:List S8}{L3:List Req}{L4:List By}{L5:List (List Int)}{b c d bu q1 q2 q3 q4 q5 k m:Nat}{e:Ex}
  (U:W0 nm=true) (V:nm.length<=9) (C:1<=L1.length) (L:L1.length<=3) (M:Sg L1) (D:∀ y∈L1,1<=y.id/\y.id<=1+2*(L1.length:Int)/\0<=y.G4/\y.G4<=199)
  (E:L2.length<=3) (N:L2.map S8.name=OI.take L2.length) (F:∀ c∈L2,(c.kind=1\/c.kind=2)/\0<=c.low/\c.low<=3/\0<=c.high/\c.high<=8)
  (c1:L3.length<=2) (c2:∀ x∈L3,(R4 x.name=true/\x.name.length<=9)/\([[60,61],[62,61]]:List By).contains x.rel=true/\0<=x.value/\x.value<=7)
  (H:L4.length<=3) (O:L4=MU.take L4.length) (Q:L5.length<=2) (z:∀ y∈L5,∃ a b,y=[a,b]/\1<=a/\a<b/\b<=9)
  (f1:FSw k m e) (W:k<=4) (R:m<=16) (X:b<100) (g2:c<100) (g3:d<100) (g4:bu<2000) (v:q1<20) (I:q2<40) (Y:q3<60) (Z:q4<80) (h5:q5<20) :
  ng ⟨nm,L1,L2,L3,(b:Nat),10+(c:Nat),e,L4,(d:Nat),L5,(bu:Nat),⟨(q1:Nat),(q2:Nat),(q3:Nat),(q4:Nat),(q5:Nat)⟩⟩:=by
 obtain⟨J,K⟩:=jA L2.length E;obtain⟨v1,v2⟩:=iz L4.length H;rw[<- N]at J K;rw[<- O]at v1 v2;have G:∀ c∈L2,R4 c.name=true/\c.name.length<=9:=fun c i=>K _ (GI.2 ⟨c,i,rfl⟩);have f:∀ {n:Int},0<=n->n<5000->SmN n:=fun v I=>⟨v,om⟩
 have g:∀ {n:Int},0<=n->n<5000->In9 n:=fun v I=>⟨v,om⟩
 refine⟨⟨U,by show L1.length<=12;omega,fun h=>?_,fun l s=>?_,ag M,by show L2.length<=12;omega,fun c i=>?_,J,by show L3.length<=24;omega,fun r u=>?_,g (by(try dsimp only);omega) (by(try dsimp only);omega),g (by(try dsimp only);omega) (by(try dsimp only);omega),⟨k,m,f1.fw,om,om⟩,by show L4.length<=12;omega,fun w B=>(v2 w B).1,v1,g (by(try dsimp only);omega) (by(try dsimp only);omega),by show L5.length<=12;omega,fun c i=>?_,g (by(try dsimp only);omega) (by(try dsimp only);omega),g (by(try dsimp only);omega) (by(try dsimp only);omega),g (by(try dsimp only);omega) (by(try dsimp only);omega),g (by(try dsimp only);omega) (by(try dsimp only);omega),g (by(try dsimp only);omega) (by(try dsimp only);omega),g (by(try dsimp only);omega) (by(try dsimp only);omega)⟩,
  ⟨fun l s=>?_,fun c i=>?_,fun r u=>?_,fun l s n A=>?_,f (by(try dsimp only);omega) (by(try dsimp only);omega),f (by(try dsimp only);omega) (by(try dsimp only);omega),f (by(try dsimp only);omega) (by(try dsimp only);omega),f (by(try dsimp only);omega) (by(try dsimp only);omega),f (by(try dsimp only);omega) (by(try dsimp only);omega),f (by(try dsimp only);omega) (by(try dsimp only);omega),f (by(try dsimp only);omega) (by(try dsimp only);omega),f (by(try dsimp only);omega) (by(try dsimp only);omega),f (by(try dsimp only);omega) (by(try dsimp only);omega)⟩,
  V,L,E,fun c i=>(G c i).2,c1,fun r u=>(c2 r u).1.2,H,fun w B=>(v2 w B).2,Q,fun c i=>?_,⟨k,m,f1,om,R⟩⟩
 ·have S:L1=[]:=h;rw[S]at C;simp at C
 ·obtain⟨j,p,o,q⟩:=D l s;exact⟨j,om,g o om⟩
 ·obtain⟨j,p,o,q,z5⟩:=F c i;exact⟨(G c i).1,j,g p om,g q om⟩
 ·obtain⟨j,p,o,q⟩:=c2 r u;exact⟨j.1,p,g o om⟩
 ·obtain⟨a,b,rfl,j,p,o⟩:=z c i;refine⟨by simp,by simp,?_,fun n A=>?_⟩
  ·simp only[List.nodup_cons,Cb,LN,not_false_eq_true,List.nodup_nil,and_true];omega
  ·simp only[V9,LN,MJ]at A;omega
 ·obtain⟨j,p,o,q⟩:=D l s;exact⟨f om om,f o om⟩
 ·obtain⟨j,p,o,q,z5⟩:=F c i;exact⟨j,f p om,f q om⟩
 ·obtain⟨j,p,o,q⟩:=c2 r u;exact f o om
 ·obtain⟨a,b,rfl,j,p,o⟩:=z l s;simp only[V9,LN,MJ]at A;exact f om om
 ·obtain⟨a,b,rfl,-⟩:=z c i;simp
def po {x:Nat}(h:(x:Int)<3):∃ s,sub ([str [67,104,97,105,114,115],str [116],str [76,111,116,95,55]]:List Value) x 1=some [str s]/\W0 s=true/\s.length<=9:=by
 have:x=0\/x=1\/x=2:=om;rcases this with rfl|rfl|rfl
 ·exact⟨_,rfl,by decide,by decide⟩
 ·exact⟨_,rfl,by decide,by decide⟩
 ·exact⟨_,rfl,by decide,by decide⟩
def jw {Z:St}{v:Value}{l:List Int}(S:List Nat) (M:∀ c∈S,c<Z.n) (B:BX (J0 Z S) v l) (g:l.length<=9223372036854775807) :
  Ev (gO 14 [v] Z) (fun r=>∃ cells T Z',r=⟨false,.agg ⟨cells⟩,Z'⟩/\Ext Z Z'/\TnY (J0 Z' S) cells T/\ng T) ⟨⟩:=by
 have hv:∃ a n c,v= .slice a n c:=by
  obtain⟨a,c,b,off,cells,h,-⟩:=B.1.use;exact⟨a,_,c,h⟩
 have O:M6 v=[v]/\El v=false:=by obtain⟨a,n,c,rfl⟩:=hv;exact⟨rfl,rfl⟩
 refine G1 Tryz.func14 rfl rfl ?_;refine gU1 (a6N @A6 @C7 (O.1) (O.2) @BA5 @BA6) ?_;obtain⟨S0,z⟩:=nW ((((Z.new [str [],.slice none 0 0,.slice none 0 0,.slice none 0 0,.int .i64 0,.int .i64 0,str [],.int .i64 0,.int .i64 0,str [],.slice none 0 0,.slice none 0 0,.int .i64 0,.slice none 0 0,.int .i64 0,.int .i64 0,.int .i64 0,.int .i64 0,.int .i64 0,.int .i64 0] (some 41)).new [v,.int .i64 0]).new [str [67,104,97,105,114,115],str [116],str [76,111,116,95,55]]));rw[z];obtain⟨q,hq⟩:=nW (Z.n+1);rw[hq];have E0:Ext Z S0:=by rw[<- z];exact eX
 have n0:S0.n=Z.n+3:=by rw[<- z];rfl
 have Q0:GQ q v l S0:=⟨0,Af _,by rw[<- z,<- hq];exact cL⟩
 have z0:S0.B8 Z.n=some bm:=by rw[<- z];unfold bm;exact cL
 have k0:S0.row (Z.n+2)=some [str [67,104,97,105,114,115],str [116],str [76,111,116,95,55]]:=by rw[<- z];exact cL
 clear z;refine(nxg (n:=3) B g E0 om om Q0 om om).mono ?_;rintro r ⟨a,e1,rfl,ha,Ea,Qa,U⟩;have na:=U.n;have z1:=eT (U.B8 om om) z0;have k1:=eT (U.row om om) k0;obtain⟨nm,b1,b9,c0⟩:=po ha;have q2:Z.n+1+1=Z.n+2:=rfl;refine gU1 (aI @A6 (aI @C7 (aI q2 (aI k1 b1)))) ?_;refine(nxg (n:=5) B g Ea om om Qa om om).mono ?_;rintro r ⟨b,e2,rfl,hb,Eb,Qb,X⟩;have nb:=X.n;refine gU1 (aI @A6 @C7) ?_;refine(nxg (n:=90) B g Eb om om Qb om om).mono ?_;rintro r ⟨c,e3,rfl,hc,Ec,Qc,Y⟩;have nc:=Y.n;refine gU1 (aI @A6 @C7) ?_;refine(nxg (n:=4) B g Ec om om Qc om om).mono ?_;rintro r ⟨d,e4,rfl,hd,Ed,Qd,Xd⟩;have nd:=Xd.n;refine gU1 (aI @A6 @C7) ?_;refine(nxg (n:=2000) B g Ed om om Qd om om).mono ?_;rintro r ⟨e,F,rfl,he,Ee,Qe,Xe⟩;have ne:=Xe.n;have z5:=eT (Xe.B8 om om) (eT (Xd.B8 om om) (eT (Y.B8 om om) (eT (X.B8 om om) z1)));refine gP1 @asR ?_;refine T3.intro (by simp(disch:=omega) only[N7,Q9,N1,asx (Ext.refl _),S7 (b:=Z.n+2) U om,S7 (b:=Z.n+2) X om,S7 (b:=Z.n+2) Y om,S7 (b:=Z.n+2) Xd om,S7 (b:=Z.n+2) Xe om];first|done|rfl) ?_;obtain⟨p,hp⟩:=nW F.n;refine gU1 (aI @A6 @C7) ?_;obtain⟨S6,hS6⟩:=nW (((F.new [str [],.slice none 0 0,.slice none 0 0,.slice none 0 0,.int .i64 0,.int .i64 0,str [],.int .i64 0,.int .i64 0,str [],.slice none 0 0,.slice none 0 0,.int .i64 0,.slice none 0 0,.int .i64 0,.int .i64 0,.int .i64 0,.int .i64 0,.int .i64 0,.int .i64 0] (some 41)).upd F.n [str nm,.slice none 0 0,.slice none 0 0,.slice none 0 0,.int .i64 (b:Nat),.int .i64 (10+(c:Nat)),str [],.int .i64 0,.int .i64 0,str [],.slice none 0 0,.slice none 0 0,.int .i64 (d:Nat),.slice none 0 0,.int .i64 (e:Nat),.int .i64 0,.int .i64 0,.int .i64 0,.int .i64 0,.int .i64 0]));rw[hS6];have W:Ext F S6:=by rw[<- hS6];exact eX
 have E6:Ext Z S6:=Ee.trans W;have n6:S6.n=p+1:=by rw[<- hS6,<- hp];rfl
 have rp:S6.B8 p=some [str nm,.slice none 0 0,.slice none 0 0,.slice none 0 0,.int .i64 (b:Nat),.int .i64 (10+(c:Nat)),str [],.int .i64 0,.int .i64 0,str [],.slice none 0 0,.slice none 0 0,.int .i64 (d:Nat),.slice none 0 0,.int .i64 (e:Nat),.int .i64 0,.int .i64 0,.int .i64 0,.int .i64 0,.int .i64 0]:=by rw[<- hS6,<- hp];exact cL
 have z6:S6.B8 Z.n=some bm:=eT (W.B8 om) z5;have Q6:=Qe.ext W om;clear hS6;rw[hp];refine(nxg (n:=3) B g E6 om om Q6 om om).mono ?_;rintro r ⟨f,e5,rfl,hf,Ef,Qf,Xf⟩;have nf:=Xf.n;have z7:=eT (Xf.B8 om om) z6;have rp:=(Xf.B8 (b:=p) om om).trans rp;obtain⟨nl,b0,e0,b8⟩:∃ nl:Nat,1+(f:Int)=(nl:Int)/\1<=nl/\nl<=3:=⟨f+1,om,om,om⟩
 refine gU1 (aI @A6 (aI @C7 b0)) ?_;refine(wK (nl:=nl) B g (show Z.n<=q by omega) (show q<p by omega) ⟨fR,fR,fR,Ef,Qf,rp,om⟩ (fR) b8 (fR)).mono ?_;rintro r ⟨d3,c3,u1,L1,rfl,G,X8,b2,d5,a9,a0⟩;have n8:=X8.n;refine gU1 (aI @A6 @C7) ?_;refine(nU B g (show Z.n<=q by omega) (show q<p by omega) ⟨fR1 @G.g2,fR1 @G.g3,fR1 @G.g4,G.E,G.Q,G.r,G.lt⟩ (fR)).mono ?_;rintro r ⟨d4,e6,u2,L2,rfl,H,X9,b3,a4,a8,a1⟩;have n9:=X9.n;refine gU1 (aI @A6 @C7) ?_;refine(vG B g (show Z.n<=q by omega) (show q<p by omega) ⟨fR1 @H.g2,fR1 @H.g3,fR1 @H.g4,H.E,H.Q,H.r,H.lt⟩ (fR)).mono ?_;rintro r ⟨c6,j,u3,L3,rfl,i,I,b4,a5,a2⟩;have d6:=I.n;have c7:=i.lt;refine gU1 (aI @A6 @C7) ?_;obtain⟨S10,R⟩:=nW (j.new [str [112,114,105,99,101],str [115,112,101,101,100],str [99,111,109,102,111,114,116]]);rw[R];have A:Ext j S10:=by rw[<- R];exact eX
 have c8:S10.n=j.n+1:=by rw[<- R];rfl
 have c1:S10.B8 j.n=some [str [112,114,105,99,101],str [115,112,101,101,100],str [99,111,109,102,111,114,116]]:=by rw[<- R];exact cL
 clear R;refine(vZ (nt:=j.n) B g (show Z.n<=q by omega) (show q<p by omega) ⟨fR1 @i.g2,fR1 @i.g3,fR1 @i.g4,i.E.trans A,i.Q.ext A om,(A.B8 i.lt).trans i.r,om⟩ (fR) (fR) c1 om om om).mono ?_;rintro r ⟨c9,c4,u4,L4,rfl,o,D,b5,a6,a3⟩;have d7:=D.n;refine gU1 (aI @A6 @C7) ?_;refine(jx B g (show Z.n<=q by omega) (show q<p by omega) ⟨fR1 @o.g2,fR1 @o.g3,fR1 @o.g4,o.E,o.Q,o.r,o.lt⟩ (fR)).mono ?_;rintro r ⟨d0,τ12,u5,L5,rfl,s,C,b6,a7,L⟩;have d8:=C.n;have K:T9 q p c3 τ12:=(((X9.trans I).trans (.of A)).trans D).trans C;have c2:τ12.B8 Z.n=some bm:=by rw[K.B8 om om om,X8.B8 om om om];exact z7
 simp only[Bw,fe,pw,UA,ff,UB,G9,M0,Nat.reduceBEq,Nat.reduceEqDiff,reduceIte,YS,decide_true,fh,YT];refine(wL M B g (show Z.n<q by omega) (show q<p by omega) ⟨fR1 @s.g2,fR1 @s.g3,fR1 @s.g4,s.E,s.Q,s.r,s.lt⟩ c2).mono ?_;rintro r ⟨d1,c5,cs,x1,x2,x3,x4,x5,ex,k,m,q1,q2,q3,q4,q5,rfl,g2,N,u,V,d2,hx,hf,hk,hm,t1,t2,t3,t4,t5⟩;have UC:sub cs 0 20=some cs:=by rw[N];rfl
 refine gU1 (aI @A6 (aI @C7 (aI g2 (aI UC @Tryz.results14)))) ?_;have J:∀ {lo:Nat},Z.n<lo->∀ c∈S,c<lo:=fun h c hc=>by have:=M c hc;omega
 have d9:=u.n;have p1:=OL.J0 (OL.upd (p:=Z.n) (cs:=cs) (OL.UD b2 (K.trans u) om om) om) (J om);have p2:=OL.J0 (OL.upd (p:=Z.n) (cs:=cs) (OL.UD b3 ((((I.trans (.of A)).trans D).trans C).trans u) om om) om) (J om);have p3:=OL.J0 (OL.upd (p:=Z.n) (cs:=cs) (OL.UD b4 ((((T9.of A).trans D).trans C).trans u) om om) om) (J om);have p4:=OL.J0 (OL.upd (p:=Z.n) (cs:=cs) (OL.UD b5 (C.trans u) om om) om) (J om);have p5:=OL.J0 (OL.upd (p:=Z.n) (cs:=cs) (OL.UD b6 u om om) om) (J om)
 have hM:=wJ (nm:=nm) (L1:=L1) (L2:=L2) (L3:=L3) (L4:=L4) (L5:=L5.map Prod.snd) (b:=b) (c:=c) (d:=d) (bu:=e) (q1:=q1) (q2:=q2) (q3:=q3) (q4:=q4) (q5:=q5) b9 c0 om om a9 a0 a4 a8 a1 a5 a2 a6 a3 (by rw[z2z];exact a7)
  (fun y hy=>by obtain⟨x,b7,rfl⟩:=GI.1 hy;exact(L x b7).2.2) hf hk hm om om om om t1 t2 t3 t4 t5
 refine⟨cs,⟨nm,L1,L2,L3,(b:Nat),10+(c:Nat),ex,L4,(d:Nat),L5.map Prod.snd,(e:Nat),⟨(q1:Nat),(q2:Nat),(q3:Nat),(q4:Nat),(q5:Nat)⟩⟩,_,rfl,V.upd nL _,⟨u1,u2,u3,[x1,x2,x3,x4,x5],u4,u5,L5.map Prod.fst,N,p1,p2,p3,hx,p4,?_,pk fun y hy=>?_⟩,hM⟩
 ·rw[Td];exact p5
 ·exact(OL.J0 (OL.upd (p:=Z.n) (cs:=cs) (OL.UD (L y hy).2.1 u om om) om) (J om)).sl
end Go.Proofs.T
