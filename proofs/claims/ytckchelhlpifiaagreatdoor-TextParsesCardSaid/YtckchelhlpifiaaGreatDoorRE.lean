/- The F9 Ka of Bn: its loops. -/
import Derived.Test.YtckchelhlpifiaaGreatDoorRD
set_option linter.unusedSimpArgs false
set_option linter.unusedVariables false
set_option linter.defProp false
set_option maxHeartbeats 32000000
set_option maxRecDepth 100000
namespace Go.Proofs.T
open Go Go.Ab
section
variable {a0 a1 a2 a3 a4 a5 a6 a7 a8 a9 a10 a11 a12 a13 a14 a15 a16 a17 a18 a19 z:Value}{k:Nat}{L:List Lot}
noncomputable def mdC (l:List Nat):Code:=HF l ((Tryz.f6).body.getD .skip)
def ag:List Value:=[str [],.slice none 0 0,.slice none 0 0,.slice none 0 0,.int .i64 0,.int .i64 0,str [],.int .i64 0,.int .i64 0,str [],.slice none 0 0,.slice none 0 0,.int .i64 0,.slice none 0 0,.int .i64 0,.int .i64 0,.int .i64 0,.int .i64 0,.int .i64 0,.int .i64 0]
structure MdS (Z:St) (q p:Nat) (v:Value) (l:List Int) (cs:List Value) (fr:Fr) (τ:St):Prop where
 g2:fr.get 2=some (.pointer (some ⟨Z.n,0,none⟩))
 g3:fr.get 3=some (.pointer (some ⟨q,0,none⟩))
 g4:fr.get 4=some (.pointer (some ⟨p,0,none⟩))
 E:Ext Z τ
 Q:GQ q v l τ
 r:τ.A7 p=some cs
 lt:p<τ.n
def zC (h:k<3):∃ s,sub ([str [112,114,105,99,101],str [108,111,119],str [115,112,101,101,100],str [99,111,109,102,111,114,116],str [119,101,105,103,104,116]]:List Value) (k+2) 1=some [str s]/\Nl.take (k+1)=Nl.take k++[s]/\AL s=true/\s.length<=9:=by
 have:k=0\/k=1\/k=2:=om;rcases this with rfl|rfl|rfl
 ·exact⟨_,rfl,rfl,by decide,by decide⟩
 ·exact⟨_,rfl,rfl,by decide,by decide⟩
 ·exact⟨_,rfl,rfl,by decide,by decide⟩
def U6.As {q p b:Nat}{Z Z':St}{cs:List Value}(h:U6 q p Z Z') (hb:Z.n<=b):U6 q p Z (Z'.upd b cs):=⟨h.n,fun c hc h1 h2=>by rw[Bt,z0z om,h.same c hc h1 h2]⟩
def jd {x:Lot}(h1:0<L.length) (h2:L.length<=2):∃ yl cells,L[L.length-1]? =some yl/\(L.map Lot.row++[x.row]).flatten=cells/\sub cells (L.length*2) 1=some [.int .i64 x.id]/\sub cells ((L.length-1)*2) 1=some [.int .i64 yl.id]/\∀ z,I7 cells (L.length*2) [.int .i64 z]=some ((L.map Lot.row++[Lot.row ⟨z,x.P8⟩]).flatten):=by
 match L,h1,h2 with
 | [y],_,_=>exact⟨y,_,rfl,rfl,rfl,rfl,fun z=>rfl⟩
 | [y1,y2],_,_=>exact⟨y2,_,rfl,rfl,rfl,rfl,fun z=>rfl⟩
def je {yl:Lot}(h:Re L) (hk:L.length=k+1) (hy:L[k]? =some yl):∀ z∈L,z.id<=yl.id:=by
 intro z hz;obtain⟨i,hi⟩:=List.getElem?_of_mem hz;obtain⟨hi1,hi2⟩:=List.getElem?_eq_some_iff.1 hi;obtain⟨hy1,hy2⟩:=List.getElem?_eq_some_iff.1 hy;rcases y8 i k with hlt|hge
 ·have:=zi.1 h i k (by rw[z2z];omega) (by rw[z2z];omega) hlt;rw[List.getElem_map,List.getElem_map,hi2,hy2]at this;omega
 ·obtain rfl:i=k:=om;rw[hi2]at hy2;rw[hy2];omega
def ti {x:Nat}(h:(x:Int)<2):∃ s,sub ([str [60,61],str [62,61]]:List Value) x 1=some [str s]/\([[60,61],[62,61]]:List By).contains s=true:=by
 have:x=0\/x=1:=om;rcases this with rfl|rfl
 ·exact⟨_,rfl,by decide⟩
 ·exact⟨_,rfl,by decide⟩
def uL (h:k<3):∃ s,sub ([str [112,114,105,99,101],str [115,112,101,101,100],str [99,111,109,102,111,114,116]]:List Value) k 1=some [str s]/\MK.take (k+1)=MK.take k++[s]:=by
 have:k=0\/k=1\/k=2:=om;rcases this with rfl|rfl|rfl
 ·exact⟨_,rfl,rfl⟩
 ·exact⟨_,rfl,rfl⟩
 ·exact⟨_,rfl,rfl⟩
def gw1:I7 [a0,a1,a2,a3,a4,a5,a6,a7,a8,a9,a10,a11,a12,a13,a14,a15,a16,a17,a18,a19] 1 [z]=some [a0,z,a2,a3,a4,a5,a6,a7,a8,a9,a10,a11,a12,a13,a14,a15,a16,a17,a18,a19]:=rfl
def gw2:I7 [a0,a1,a2,a3,a4,a5,a6,a7,a8,a9,a10,a11,a12,a13,a14,a15,a16,a17,a18,a19] 2 [z]=some [a0,a1,z,a3,a4,a5,a6,a7,a8,a9,a10,a11,a12,a13,a14,a15,a16,a17,a18,a19]:=rfl
def gw3:I7 [a0,a1,a2,a3,a4,a5,a6,a7,a8,a9,a10,a11,a12,a13,a14,a15,a16,a17,a18,a19] 3 [z]=some [a0,a1,a2,z,a4,a5,a6,a7,a8,a9,a10,a11,a12,a13,a14,a15,a16,a17,a18,a19]:=rfl
def Aa3:I7 [a0,a1,a2,a3,a4,a5,a6,a7,a8,a9,a10,a11,a12,a13,a14,a15,a16,a17,a18,a19] 11 [z]=some [a0,a1,a2,a3,a4,a5,a6,a7,a8,a9,a10,z,a12,a13,a14,a15,a16,a17,a18,a19]:=rfl
def Ae3:I7 [a0,a1,a2,a3,a4,a5,a6,a7,a8,a9,a10,a11,a12,a13,a14,a15,a16,a17,a18,a19] 13 [z]=some [a0,a1,a2,a3,a4,a5,a6,a7,a8,a9,a10,a11,a12,z,a14,a15,a16,a17,a18,a19]:=rfl
def Av9:I7 [a0,a1,a2,a3,a4,a5,a6,a7,a8,a9,a10,a11,a12,a13,a14,a15,a16,a17,a18,a19] 15 [z]=some [a0,a1,a2,a3,a4,a5,a6,a7,a8,a9,a10,a11,a12,a13,a14,z,a16,a17,a18,a19]:=rfl
def Aw0:I7 [a0,a1,a2,a3,a4,a5,a6,a7,a8,a9,a10,a11,a12,a13,a14,a15,a16,a17,a18,a19] 16 [z]=some [a0,a1,a2,a3,a4,a5,a6,a7,a8,a9,a10,a11,a12,a13,a14,a15,z,a17,a18,a19]:=rfl
def Aw1:I7 [a0,a1,a2,a3,a4,a5,a6,a7,a8,a9,a10,a11,a12,a13,a14,a15,a16,a17,a18,a19] 17 [z]=some [a0,a1,a2,a3,a4,a5,a6,a7,a8,a9,a10,a11,a12,a13,a14,a15,a16,z,a18,a19]:=rfl
def Aw2:I7 [a0,a1,a2,a3,a4,a5,a6,a7,a8,a9,a10,a11,a12,a13,a14,a15,a16,a17,a18,a19] 18 [z]=some [a0,a1,a2,a3,a4,a5,a6,a7,a8,a9,a10,a11,a12,a13,a14,a15,a16,a17,z,a19]:=rfl
def Aw3:I7 [a0,a1,a2,a3,a4,a5,a6,a7,a8,a9,a10,a11,a12,a13,a14,a15,a16,a17,a18,a19] 19 [z]=some [a0,a1,a2,a3,a4,a5,a6,a7,a8,a9,a10,a11,a12,a13,a14,a15,a16,a17,a18,z]:=rfl
def gw6 {z0 z1 z2 z3 z4:Value}:I7 [a0,a1,a2,a3,a4,a5,a6,a7,a8,a9,a10,a11,a12,a13,a14,a15,a16,a17,a18,a19] 6 [z0,z1,z2,z3,z4]=some [a0,a1,a2,a3,a4,a5,z0,z1,z2,z3,z4,a11,a12,a13,a14,a15,a16,a17,a18,a19]:=rfl
end
def vF {Z τ0:St}{fr0:Fr}{q p:Nat}{v:Value}{l:List Int}{H0:List Nat}{a0 a2 a3 a4 a5 a6 a7 a8 a9 a10 a11 a12 a13 a14 a15 a16 a17 a18 a19:Value}(hl:Y9 (J5 Z H0) v l) (hll:l.length<=9223372036854775807) (hq:Z.n<=q) (hqp:q<p) (h0:MdS Z q p v l [a0,.slice none 0 0,a2,a3,a4,a5,a6,a7,a8,a9,a10,a11,a12,a13,a14,a15,a16,a17,a18,a19] fr0 τ0) (gc0:fr0.get 6=some (.int .i64 0)){nl:Nat}(n3:nl<=3) (gn:fr0.get 5=some (.int .i64 (nl:Nat))) :
  Ev (lim Tryz.prog HS none (.loop (mdC [1,1,1,1,0,1,2,3])) fr0 τ0) (fun r=>∃ fr τ u,∃ L:List Lot,r=⟨.exit 0,fr,τ⟩/\MdS Z q p v l [a0,u,a2,a3,a4,a5,a6,a7,a8,a9,a10,a11,a12,a13,a14,a15,a16,a17,a18,a19] fr τ/\U6 q p τ0 τ/\OL τ0.n τ 2 u (L.map Lot.row)/\L.length=nl/\(Re L/\∀ y∈L,1<=y.id/\y.id<=1+2*(L.length:Int)/\0<=y.P8/\y.P8<=199)) ⟨⟩:=by
 have hp0:=h0.lt
 refine F4 nl (fun k fr τ=>fr.get 6=some (.int .i64 (k:Nat))/\fr.get 5=some (.int .i64 (nl:Nat))/\U6 q p τ0 τ/\∃ u,∃ L:List Lot,MdS Z q p v l [a0,u,a2,a3,a4,a5,a6,a7,a8,a9,a10,a11,a12,a13,a14,a15,a16,a17,a18,a19] fr τ/\OL τ0.n τ 2 u (L.map Lot.row)/\L.length=k/\(Re L/\∀ y∈L,1<=y.id/\y.id<=1+2*(L.length:Int)/\0<=y.P8/\y.P8<=199))
  (fun r=>∃ fr τ u,∃ L:List Lot,r=⟨.exit 0,fr,τ⟩/\MdS Z q p v l [a0,u,a2,a3,a4,a5,a6,a7,a8,a9,a10,a11,a12,a13,a14,a15,a16,a17,a18,a19] fr τ/\U6 q p τ0 τ/\OL τ0.n τ 2 u (L.map Lot.row)/\L.length=nl/\(Re L/\∀ y∈L,1<=y.id/\y.id<=1+2*(L.length:Int)/\0<=y.P8/\y.P8<=199)) ?_ ?_ ?_ (fun r h=>h)
 ·exact⟨gc0,gn,.refl,_,[],h0,OL.nil,rfl,lj,fun y hy=>by cases hy⟩
 ·rintro k fr τ hk ⟨gc,g5,hX,u,L,⟨g2,g3,g4,hE,hQ,rp,hp⟩,ho,hL,hR,hB⟩;have hc:=J2 hk;have nX:=hX.n;have rr:=A6 rp;have bv:I2 u≠some p:=fun hb=>by have:=(ho.blk hb).1;omega
  simp only[mdC,Tryz.f6,J4,M0,BP,BQ,BR,BS];refine gU1 (aI @A4 (aI @P9 (aI @N9 (aI @N6 (aI @K6 (aI @M4 (aI @M5 (aI @K7 (aI @K8 (aI @H8 (aI @gc (aI g2 (aI g3 (aI g4 (aI g5 (aI hc rr)))))))))))))))) ?_;refine(nxg (n:=2) hl hll hE hq om hQ om om).mono ?_;rintro r ⟨x,Z5,rfl,hx,Ex,Qx,Xx⟩;have nx:=Xx.n;have rp:Z5.A7 p=some _:=(Xx.A7 om om).trans rp;obtain⟨i,hi,i0,i1⟩:∃ i:Int,(k:Int)*(1+(x:Int))=i/\0<=i/\i<=2*(k:Int):=by
   refine⟨_,rfl,?_,?_⟩
   ·exact Int.mul_nonneg om om
   ·rcases(by omega:x=0\/x=1)with rfl|rfl
    ·show(k:Int)*1<=_;omega
    ·show(k:Int)*2<=_;omega
  refine gU1 (aI @A4 (aI @P9 (aI @N9 (aI @N6 (aI @K6 (aI @M4 (aI @M5 (aI @K7 (aI @K8 (aI @H8 (aI @gc (aI g2 (aI g3 (aI g4 (aI g5 hi))))))))))))))) ?_;refine(nxg (n:=200) hl hll Ex hq om Qx om om).mono ?_;rintro r ⟨y,Z6,rfl,hy,Ey,Qy,Xy⟩;have ny:=Xy.n;have rp:Z6.A7 p=some _:=(Xy.A7 om om).trans rp;have rp':=rp;refine gU1 (aI @A4 (aI @P9 (aI @N9 (aI @N6 (aI @K6 (aI @M4 (aI @M5 (aI @K7 (aI @K8 (aI @H8 (aI @gc (aI g2 (aI g3 (aI g4 (aI g5 hi))))))))))))))) ?_;have hoN:OL τ0.n (Z6.new [.int .i64 (1+i),.int .i64 (y:Int)]) 2 u (L.map Lot.row):=OL.ext (OL.BI (OL.BI ho Xx om) Xy om) (.new _ _);have hXN:U6 q p τ0 (Z6.new [.int .i64 (1+i),.int .i64 (y:Int)]):=((hX.trans (.xq Xx)).trans (.xq Xy)).trans (.of (Ext.AG (.refl _) _));refine G4 (row:=Lot.row ⟨1+i,(y:Int)⟩) (fun _ _ _ _=>N5) hoN (D1 nL nL) (D8 (by simp[Lot.row]) (by simp)) (by rw[z2z];omega) (by simp;omega) ?_;rintro u' Z8 ho' hA -;have n8:=hA.n;simp only[N8]at n8;obtain⟨b',sp,rfl,hsp,b1,b2,b3⟩:∃ b' sp,u'= .slice (some ⟨b',0,sp⟩) (k+1) (k+1)/\(sp=none\/sp=some 2)/\τ0.n<=b'/\b'<Z8.n/\Z8.A7 b'=some ((L.map Lot.row++[Lot.row ⟨1+i,(y:Int)⟩]).flatten):=by
   obtain⟨hr',⟨hv',hz⟩|⟨b',sp,hv',hs',b1,b2,b3⟩⟩:=ho'
   ·simp at hz
   ·exact⟨b',sp,by rw[hv'];simp[hL],hs',b1,b2,b3⟩
  have bne:b'≠p:=om;have r8:Z8.A7 p=some _:=(B8 (hA.same p (by simp;omega) bv)).trans ((E9 (by first|omega|(simp;omega))).trans rp');have qN:GQ q v l (Z6.new [.int .i64 (1+i),.int .i64 (y:Int)]):=Qy.ext (.new _ _) om;have hMf:U6 q p τ0 Z8:=U6.app hA hXN hoN nL;have hE':Ext Z Z8:=hMf.ext h0.E hq om;have qF:GQ q v l Z8:=qN.app hA hoN (by first|omega|(simp;omega)) om;refine gU1 (aI @P9 (aI @N9 (aI @N6 (aI @K6 (aI @M4 (aI @M5 (aI @K7 (aI @K8 (aI @H8 (aI @gw1 (aI g2 (aI g3 (aI g4 (aI g5 (aI @gc r8))))))))))))))) ?_;refine Ar.intro (by(repeat first|simp(disch:=omega) only[DH,Gc,Bq,asx (Ext.refl _),S7 (b:=p) Xx om,S7 (b:=p) Xy om]|rw[IT (by kernel_rfl)]);first|done|rfl) ?_;rcases WM k with hk0|hk0
  ·have hd:decide ((0:Int)<(k:Int))=false:=dF;refine gU1 (aI @P9 (aI @N9 (aI @N6 (aI @K6 (aI @M4 (aI @M5 (aI @K7 (aI @K8 (aI @H8 (aI @gw1 (aI g2 (aI g3 (aI g4 (aI g5 (aI @gc @hd))))))))))))))) ?_;obtain rfl:L=[]:=WN om;refine⟨fR,fR1 g5,hMf.upd,_,[⟨1+i,(y:Int)⟩],⟨fR1 g2,fR1 g3,fR1 g4,hE'.upd om _,qF.x (B9.refl.upd _) om om,cL,by simp;omega⟩,OL.upd ho' om,by simp;omega,?_,?_⟩
   ·exact zA _ _
   ·intro z hz;rw[GK]at hz;subst hz;exact⟨by show 1<=1+i;omega,by show 1+i<=1+2*((1:Nat):Int);omega,by show(0:Int)<=(y:Int);omega,by show(y:Int)<=199;omega⟩
  ·obtain⟨j,rfl⟩:∃ j,k=j+1:=⟨k-1,om⟩
   have hd:decide ((0:Int)<((j+1:Nat):Int))=true:=dT;have e1:((j+1:Nat):Int)-1=(j:Int):=om;obtain⟨yl,cells,hyl,hce,s1,s2,s3⟩:=jd (L:=L) (x:=⟨1+i,(y:Int)⟩) om om;rw[hL,Nat.add_sub_cancel]at hyl s2;rw[hL]at s1 s3;rw[hce]at b3;have b3r:=A6 b3;have hyb:=hB yl (W8 hyl);have hRs:=je hR (k:=j) om hyl;cases xd:decide (yl.id<1+i)with
   | true=>
     refine gU1 (aI @P9 (aI @N9 (aI @N6 (aI @K6 (aI @M4 (aI @M5 (aI @K7 (aI @K8 (aI @H8 (aI @gw1 (aI g2 (aI g3 (aI g4 (aI g5 (aI @gc (aI @hd (aI e1 (aI b3r (aI s1 (aI s2 xd)))))))))))))))))))) ?_;refine⟨fR,fR1 g5,hMf.upd,_,L++[⟨1+i,(y:Int)⟩],⟨fR1 g2,fR1 g3,fR1 g4,hE'.upd om _,qF.x (B9.refl.upd _) om om,cL,by simp;omega⟩,?_,by simp[hL],?_,?_⟩
     ·rw[y7];exact OL.upd ho' om
     ·exact SN hR fun z hz=>Int.lt_of_le_of_lt (hRs z hz) (z6z xd)
     ·intro z hz;rw[BD,hL];simp only[Ah,JH];rcases DK.1 hz with hz|hz
      ·have:=hB z hz;rw[hL]at this;omega
      ·rw[GK]at hz;subst hz;dsimp only;omega
   | false=>
     have hle:=z9z xd;rw[hL]at hyb;refine gU1 (aI @P9 (aI @N9 (aI @N6 (aI @K6 (aI @M4 (aI @M5 (aI @K7 (aI @K8 (aI @H8 (aI @gw1 (aI g2 (aI g3 (aI g4 (aI g5 (aI @gc (aI @hd (aI e1 (aI b3 (aI b3r (aI s1 (aI s2 (aI s3 xd)))))))))))))))))))))) ?_;refine Ar.intro (by(repeat first|simp(disch:=omega) only[DH,Gc,Bq,asx (Ext.refl _)]|rw[IT (by kernel_rfl)]);first|done|rfl) ?_;refine gU1 (aI @P9 (aI @N9 (aI @N6 (aI @K6 (aI @M4 (aI @M5 (aI @K7 (aI @K8 (aI @H8 (aI @gw1 (aI g2 (aI g3 (aI g4 (aI g5 @gc)))))))))))))) ?_;refine⟨fR,fR1 g5,U6.As hMf.upd b1,_,L++[⟨yl.id+1,(y:Int)⟩],⟨fR1 g2,fR1 g3,fR1 g4,(hE'.upd om _).upd om _,(qF.x (B9.refl.upd _) om om).x (B9.refl.upd _) (by simp;omega) om,cL,by simp;omega⟩,?_,by simp[hL],?_,?_⟩
     ·refine⟨fun r hr=>?_,.inr ⟨b',sp,by simp[hL],hsp,b1,by simp;omega,by rw[y7];exact D5⟩⟩;rw[y7]at hr;rcases DK.1 hr with hr|hr
      ·obtain⟨x,-,rfl⟩:=MJ.1 hr;rfl
      ·obtain⟨x,-,rfl⟩:=MJ.1 hr;rfl
     ·exact SN hR fun z hz=>Int.lt_add_one_of_le (hRs z hz)
     ·intro z hz;rw[BD,hL];simp only[Ah,JH];rcases DK.1 hz with hz|hz
      ·have:=hB z hz;rw[hL]at this;omega
      ·rw[GK]at hz;subst hz;dsimp only;omega
 ·clear gn gc0;rintro fr τ ⟨gc,g5,hX,u,L,⟨g2,g3,g4,hE,hQ,rp,hp⟩,ho,hL,hR,hB⟩;simp only[mdC,Tryz.f6,J4,M0,BP,BQ,BR,BS];refine gU1 (aI @A4 (aI @D3 (aI @gc (aI g5 @EJ)))) ?_;exact⟨_,_,u,L,rfl,⟨fR1 g2,fR1 g3,fR1 g4,hE,hQ,rp,hp⟩,hX,ho,hL,hR,hB⟩
def lz {Z τ0:St}{fr0:Fr}{q p:Nat}{v:Value}{l:List Int}{H0:List Nat}{a0 a1 a3 a4 a5 a6 a7 a8 a9 a10 a11 a12 a13 a14 a15 a16 a17 a18 a19:Value}(hl:Y9 (J5 Z H0) v l) (hll:l.length<=9223372036854775807) (hq:Z.n<=q) (hqp:q<p) (h0:MdS Z q p v l [a0,a1,.slice none 0 0,a3,a4,a5,a6,a7,a8,a9,a10,a11,a12,a13,a14,a15,a16,a17,a18,a19] fr0 τ0) (gc0:fr0.get 7=some (.int .i64 0)) :
  Ev (lim Tryz.prog HS none (.loop (mdC [1,1,1,1,1,0,1,2,3])) fr0 τ0) (fun r=>∃ fr τ u,∃ L:List AB,r=⟨.exit 2,fr,τ⟩/\MdS Z q p v l [a0,a1,u,a3,a4,a5,a6,a7,a8,a9,a10,a11,a12,a13,a14,a15,a16,a17,a18,a19] fr τ/\U6 q p τ0 τ/\OL τ0.n τ 5 u (L.map AB.row)/\L.length<=3/\L.map AB.name=Nl.take L.length/\∀ c∈L,(c.kind=1\/c.kind=2)/\0<=c.low/\c.low<=3/\0<=c.high/\c.high<=8) ⟨⟩:=by
 have hp0:=h0.lt
 refine GM 3 (fun k fr τ=>fr.get 7=some (.int .i64 (k:Nat))/\U6 q p τ0 τ/\∃ u,∃ L:List AB,MdS Z q p v l [a0,a1,u,a3,a4,a5,a6,a7,a8,a9,a10,a11,a12,a13,a14,a15,a16,a17,a18,a19] fr τ/\OL τ0.n τ 5 u (L.map AB.row)/\L.length=k/\L.map AB.name=Nl.take L.length/\∀ c∈L,(c.kind=1\/c.kind=2)/\0<=c.low/\c.low<=3/\0<=c.high/\c.high<=8)
  (fun r=>∃ fr τ u,∃ L:List AB,r=⟨.exit 2,fr,τ⟩/\MdS Z q p v l [a0,a1,u,a3,a4,a5,a6,a7,a8,a9,a10,a11,a12,a13,a14,a15,a16,a17,a18,a19] fr τ/\U6 q p τ0 τ/\OL τ0.n τ 5 u (L.map AB.row)/\L.length<=3/\L.map AB.name=Nl.take L.length/\∀ c∈L,(c.kind=1\/c.kind=2)/\0<=c.low/\c.low<=3/\0<=c.high/\c.high<=8) ?_ ?_ (fun r h=>h)
 ·exact⟨gc0,.refl,_,[],h0,OL.nil,rfl,rfl,fun c hc=>by cases hc⟩
 ·rintro k fr τ hk ⟨gc,hX,u,L,⟨g2,g3,g4,hE,hQ,rp,hp⟩,ho,hL,hP⟩;have nX:=hX.n;have bv:I2 u≠some p:=fun hb=>by have:=(ho.blk hb).1;omega
  simp only[mdC,Tryz.f6,J4,M0,BP,BQ,BR,BS];refine gU1 (aI @A4 (aI @P9 (aI @N5 (aI @N6 (aI @K6 (aI @M4 (aI @M5 (aI @K7 (aI @K8 (aI @H8 (aI @gc (aI g2 (aI g3 g4))))))))))))) ?_;refine(nxg (n:=4) hl hll hE hq (by first|omega|(simp;omega)) hQ om om).mono ?_;rintro r ⟨x0,Z1,rfl,hx0,Ex0,Qx0,Xx0⟩;have nx0:=Xx0.n
  try simp only[N8]at nx0
  have rp:Z1.A7 p=some _:=(Xx0.A7 (by first|omega|(simp;omega)) om).trans rp;have rr:=A6 rp;rcases y8 x0 (k+1)with hkx|hkx
  ·have hc:decide (k<x0)=false:=dF;refine gU1 (aI @A4 (aI @D3 (aI @gc (aI hc @OY)))) ?_;exact⟨_,_,u,L,rfl,⟨fR1 g2,fR1 g3,fR1 g4,Ex0,Qx0,rp,om⟩,hX.trans (.xq Xx0),OL.BI ho Xx0 om,om,hP⟩
  have hc:=J2 hkx;refine gU1 (aI @A4 (aI @P9 (aI @N5 (aI @N6 (aI @K6 (aI @M4 (aI @M5 (aI @K7 (aI @K8 (aI @H8 (aI @gc (aI g2 (aI g3 (aI g4 (aI hc rr))))))))))))))) ?_;refine(nxg (n:=4) hl hll Ex0 hq (by first|omega|(simp;omega)) Qx0 om om).mono ?_;rintro r ⟨lw,Z2,rfl,hlw,Elw,Qlw,Xlw⟩;have nlw:=Xlw.n
  try simp only[N8]at nlw
  have rp:Z2.A7 p=some _:=(Xlw.A7 (by first|omega|(simp;omega)) om).trans rp;have rr:=A6 rp;refine gU1 (aI @A4 (aI @P9 (aI @N5 (aI @N6 (aI @K6 (aI @M4 (aI @M5 (aI @K7 (aI @K8 (aI @H8 (aI @gc (aI g2 (aI g3 (aI g4 rr)))))))))))))) ?_;refine PN.mono ?_;rintro r ⟨bn,Z3,rfl,F3,bn1,bn2,rn⟩;have n3:=F3.n;have rp:Z3.A7 p=some _:=(F3.A7 om).trans rp;have rr:=A6 rp;have rnr:=A6 rn;obtain⟨j,hj,hjk⟩:∃ j:Nat,2+(k:Int)=(j:Int)/\j=k+2:=⟨k+2,om,rfl⟩
  obtain⟨nm,hnm,htk,hnw,hn9⟩:=zC (show k<3 by omega);rw[<- hjk]at hnm;refine gU1 (aI @A4 (aI @P9 (aI @N5 (aI @N6 (aI @K6 (aI @M4 (aI @M5 (aI @K7 (aI @K8 (aI @H8 (aI @gc (aI g2 (aI g3 (aI g4 (aI hj (aI rnr hnm)))))))))))))))) ?_;refine(nxg (n:=2) hl hll (Elw.trans F3) hq (by first|omega|(simp;omega)) (Qlw.ext F3 om) om om).mono ?_;rintro r ⟨y,Z4,rfl,hy,Ey,Qy,Xy⟩;have ny:=Xy.n
  try simp only[N8]at ny
  have rp:Z4.A7 p=some _:=(Xy.A7 (by first|omega|(simp;omega)) om).trans rp;have rr:=A6 rp;refine gU1 (aI @A4 (aI @P9 (aI @N5 (aI @N6 (aI @K6 (aI @M4 (aI @M5 (aI @K7 (aI @K8 (aI @H8 (aI @gc (aI g2 (aI g3 g4))))))))))))) ?_;refine(nxg (n:=6) hl hll Ey hq (by first|omega|(simp;omega)) Qy om om).mono ?_;rintro r ⟨z,Z5,rfl,hz,Ez,Qz,Xz⟩;have nz:=Xz.n
  try simp only[N8]at nz
  have rp:Z5.A7 p=some _:=(Xz.A7 (by first|omega|(simp;omega)) om).trans rp;have rr:=A6 rp;refine gU1 (aI @A4 (aI @P9 (aI @N5 (aI @N6 (aI @K6 (aI @M4 (aI @M5 (aI @K7 (aI @K8 (aI @H8 (aI @gc (aI g2 (aI g3 g4))))))))))))) ?_;refine(nxg (n:=3) hl hll Ez hq (by first|omega|(simp;omega)) Qz om om).mono ?_;rintro r ⟨w,Z6,rfl,hw,Ew,Qw,Xw⟩;have nw:=Xw.n
  try simp only[N8]at nw
  have rp:Z6.A7 p=some _:=(Xw.A7 (by first|omega|(simp;omega)) om).trans rp;have rr:=A6 rp;refine gU1 (aI @A4 (aI @P9 (aI @N5 (aI @N6 (aI @K6 (aI @M4 (aI @M5 (aI @K7 (aI @K8 (aI @H8 (aI @gc (aI g2 (aI g3 (aI g4 rr)))))))))))))) ?_;have hoN:OL τ0.n (Z6.new [str nm,.int .i64 (1+(y:Int)),.int .i64 (lw:Int),.int .i64 ((lw:Int)+(z:Int)),.bool (decide ((w:Int)=0))]) 5 u (L.map AB.row):=OL.ext (OL.BI (OL.BI (OL.BI (OL.ext (OL.BI (OL.BI ho Xx0 om) Xlw om) F3) Xy om) Xz om) Xw om) (.new _ _);have hXN:U6 q p τ0 (Z6.new [str nm,.int .i64 (1+(y:Int)),.int .i64 (lw:Int),.int .i64 ((lw:Int)+(z:Int)),.bool (decide ((w:Int)=0))]):=((((((hX.trans (.xq Xx0)).trans (.xq Xlw)).trans (.of F3)).trans (.xq Xy)).trans (.xq Xz)).trans (.xq Xw)).trans (.of (Ext.AG (.refl _) _));refine G4 (row:=(AB.row) ⟨nm,1+(y:Int),(lw:Int),(lw:Int)+(z:Int),decide ((w:Int)=0)⟩) (fun _ _ _ _=>N9) hoN (D1 nL nL) (D8 (by simp[AB.row,Req.row]) (by simp)) (by rw[z2z];omega) (by simp;omega) ?_;rintro u' Z8 ho' hA -;obtain⟨ua,n1,rfl⟩:∃ ua n,u'= .slice ua n n:=by obtain⟨a,h⟩:=OL.shape ho';exact⟨a,_,h⟩
  have r8:Z8.A7 p=some _:=(B8 (hA.same p (by simp;omega) bv)).trans ((E9 (by first|omega|(simp;omega))).trans rp);have qN:GQ q v l (Z6.new [str nm,.int .i64 (1+(y:Int)),.int .i64 (lw:Int),.int .i64 ((lw:Int)+(z:Int)),.bool (decide ((w:Int)=0))]):=Qw.ext (.new _ _) (by first|omega|(simp;omega));have n8:=hA.n;simp only[N8]at n8;refine gU1 (aI @P9 (aI @N5 (aI @N6 (aI @K6 (aI @M4 (aI @M5 (aI @K7 (aI @K8 (aI @H8 (aI @gw2 (aI g2 (aI g3 (aI g4 (aI @gc r8)))))))))))))) ?_;refine Ar.intro (by(repeat first|simp(disch:=omega) only[DH,Gc,Bq,asx (Ext.refl _),asx F3,S7 (b:=p) Xy om,S7 (b:=p) Xz om,S7 (b:=p) Xw om,S7 (b:=bn) Xy om,S7 (b:=bn) Xz om,S7 (b:=bn) Xw om]|rw[IT (by kernel_rfl)]);first|done|rfl) ?_;refine gU1 (aI @P9 (aI @N5 (aI @N6 (aI @K6 (aI @M4 (aI @M5 (aI @K7 (aI @K8 (aI @H8 (aI @gw2 (aI g2 (aI g3 (aI g4 (aI @gc @Jx)))))))))))))) ?_;have hM8:U6 q p τ0 Z8:=U6.app hA hXN hoN nL;refine⟨om,fR,hM8.upd,_,L++[⟨nm,1+(y:Int),(lw:Int),(lw:Int)+(z:Int),decide ((w:Int)=0)⟩],⟨fR1 g2,fR1 g3,fR1 g4,(hM8.ext h0.E hq om).upd om _,(qN.app hA hoN (by first|omega|(simp;omega)) om).x (B9.refl.upd _) om om,cL,by simp;omega⟩,?_,by simp[hL],by rw[y7,hP.1,BD,hL];exact htk.symm,?_⟩
  rotate_left
  ·intro c hc;rcases DK.1 hc with hc|hc
   ·exact hP.2 c hc
   ·rw[GK]at hc;subst hc;exact⟨by show 1+(y:Int)=1\/1+(y:Int)=2;omega,by show(0:Int)<=(lw:Int);omega,by show(lw:Int)<=3;omega,by show(0:Int)<=(lw:Int)+(z:Int);omega,by show(lw:Int)+(z:Int)<=8;omega⟩
  ·rw[y7];exact OL.upd ho' om
def th {Z τ0:St}{fr0:Fr}{q p:Nat}{v:Value}{l:List Int}{H0:List Nat}{a0 a1 a2 a4 a5 a6 a7 a8 a9 a10 a11 a12 a13 a14 a15 a16 a17 a18 a19:Value}(hl:Y9 (J5 Z H0) v l) (hll:l.length<=9223372036854775807) (hq:Z.n<=q) (hqp:q<p) (h0:MdS Z q p v l [a0,a1,a2,.slice none 0 0,a4,a5,a6,a7,a8,a9,a10,a11,a12,a13,a14,a15,a16,a17,a18,a19] fr0 τ0) (gc0:fr0.get 9=some (.int .i64 0)) :
  Ev (lim Tryz.prog HS none (.loop (mdC [1,1,1,1,1,1,0,1,2,3])) fr0 τ0) (fun r=>∃ fr τ u,∃ L:List Req,r=⟨.exit 4,fr,τ⟩/\MdS Z q p v l [a0,a1,a2,u,a4,a5,a6,a7,a8,a9,a10,a11,a12,a13,a14,a15,a16,a17,a18,a19] fr τ/\U6 q p τ0 τ/\OL τ0.n τ 3 u (L.map Req.row)/\L.length<=2/\∀ x∈L,(AL x.name=true/\x.name.length<=9)/\([[60,61],[62,61]]:List By).contains x.rel=true/\0<=x.value/\x.value<=7) ⟨⟩:=by
 have hp0:=h0.lt
 refine GM 2 (fun k fr τ=>fr.get 9=some (.int .i64 (k:Nat))/\U6 q p τ0 τ/\∃ u,∃ L:List Req,MdS Z q p v l [a0,a1,a2,u,a4,a5,a6,a7,a8,a9,a10,a11,a12,a13,a14,a15,a16,a17,a18,a19] fr τ/\OL τ0.n τ 3 u (L.map Req.row)/\L.length=k/\∀ x∈L,(AL x.name=true/\x.name.length<=9)/\([[60,61],[62,61]]:List By).contains x.rel=true/\0<=x.value/\x.value<=7)
  (fun r=>∃ fr τ u,∃ L:List Req,r=⟨.exit 4,fr,τ⟩/\MdS Z q p v l [a0,a1,a2,u,a4,a5,a6,a7,a8,a9,a10,a11,a12,a13,a14,a15,a16,a17,a18,a19] fr τ/\U6 q p τ0 τ/\OL τ0.n τ 3 u (L.map Req.row)/\L.length<=2/\∀ x∈L,(AL x.name=true/\x.name.length<=9)/\([[60,61],[62,61]]:List By).contains x.rel=true/\0<=x.value/\x.value<=7) ?_ ?_ (fun r h=>h)
 ·exact⟨gc0,.refl,_,[],h0,OL.nil,rfl,fun c hc=>by cases hc⟩
 ·rintro k fr τ hk ⟨gc,hX,u,L,⟨g2,g3,g4,hE,hQ,rp,hp⟩,ho,hL,hP⟩;have nX:=hX.n;have bv:I2 u≠some p:=fun hb=>by have:=(ho.blk hb).1;omega
  simp only[mdC,Tryz.f6,J4,M0,BP,BQ,BR,BS];refine gU1 (aI @A4 (aI @P9 (aI @N5 (aI @N9 (aI @K6 (aI @M4 (aI @M5 (aI @K7 (aI @K8 (aI @H8 (aI @gc (aI g2 (aI g3 g4))))))))))))) ?_;refine(nxg (n:=3) hl hll hE hq (by first|omega|(simp;omega)) hQ om om).mono ?_;rintro r ⟨x0,Z1,rfl,hx0,Ex0,Qx0,Xx0⟩;have nx0:=Xx0.n
  try simp only[N8]at nx0
  have rp:Z1.A7 p=some _:=(Xx0.A7 (by first|omega|(simp;omega)) om).trans rp;have rr:=A6 rp;rcases y8 x0 (k+1)with hkx|hkx
  ·have hc:decide (k<x0)=false:=dF;refine gU1 (aI @A4 (aI @D3 (aI @gc (aI hc @OY)))) ?_;exact⟨_,_,u,L,rfl,⟨fR1 g2,fR1 g3,fR1 g4,Ex0,Qx0,rp,om⟩,hX.trans (.xq Xx0),OL.BI ho Xx0 om,om,hP⟩
  have hc:=J2 hkx;refine gU1 (aI @A4 (aI @P9 (aI @N5 (aI @N9 (aI @K6 (aI @M4 (aI @M5 (aI @K7 (aI @K8 (aI @H8 (aI @gc (aI g2 (aI g3 (aI g4 (aI hc rr))))))))))))))) ?_;refine PN.mono ?_;rintro r ⟨bn,Z2,rfl,F2,bn1,bn2,rn⟩;have n2:=F2.n;have rp:Z2.A7 p=some _:=(F2.A7 om).trans rp;have rr:=A6 rp;refine gU1 (aI @A4 (aI @P9 (aI @N5 (aI @N9 (aI @K6 (aI @M4 (aI @M5 (aI @K7 (aI @K8 (aI @H8 (aI @gc (aI g2 (aI g3 g4))))))))))))) ?_;refine(nxg (n:=3) hl hll (Ex0.trans F2) hq (by first|omega|(simp;omega)) (Qx0.ext F2 om) om om).mono ?_;rintro r ⟨x,Z3,rfl,hx,Ex,Qx,Xx⟩;have nx:=Xx.n
  try simp only[N8]at nx
  have rp:Z3.A7 p=some _:=(Xx.A7 (by first|omega|(simp;omega)) om).trans rp;have rr:=A6 rp;have rnr:Z3.row bn=some _:=(Xx.row om om).trans (A6 rn);obtain⟨j,hj,hjk⟩:∃ j:Nat,2+(x:Int)=(j:Int)/\j=x+2:=⟨x+2,om,rfl⟩
  obtain⟨nm,hnm,-,hnw,hn9⟩:=zC (show x<3 by omega);rw[<- hjk]at hnm;refine gU1 (aI @A4 (aI @P9 (aI @N5 (aI @N9 (aI @K6 (aI @M4 (aI @M5 (aI @K7 (aI @K8 (aI @H8 (aI @gc (aI g2 (aI g3 (aI g4 (aI hj (aI rnr hnm)))))))))))))))) ?_;have rp:(Z3.new [str [60,61],str [62,61]]).A7 p=some _:=(E9 om).trans rp;refine(nxg (n:=2) hl hll (Ex.trans (.new _ _)) hq (by first|omega|(simp;omega)) (Qx.ext (.new _ _) om) om om).mono ?_;rintro r ⟨y,Z4,rfl,hy,Ey,Qy,Xy⟩;have ny:=Xy.n
  try simp only[N8]at ny
  have rp:Z4.A7 p=some _:=(Xy.A7 (by first|omega|(simp;omega)) om).trans rp;have rr:=A6 rp;have At8:Z4.row Z3.n=some [str [60,61],str [62,61]]:=eT (Xy.row (by simp) om) cL;obtain⟨rl,hrl,At9⟩:=ti hy;refine gU1 (aI @A4 (aI @P9 (aI @N5 (aI @N9 (aI @K6 (aI @M4 (aI @M5 (aI @K7 (aI @K8 (aI @H8 (aI @gc (aI g2 (aI g3 (aI g4 (aI At8 hrl))))))))))))))) ?_;refine(nxg (n:=8) hl hll Ey hq (by first|omega|(simp;omega)) Qy om om).mono ?_;rintro r ⟨z,Z5,rfl,hz,Ez,Qz,Xz⟩;have nz:=Xz.n
  try simp only[N8]at nz
  have rp:Z5.A7 p=some _:=(Xz.A7 (by first|omega|(simp;omega)) om).trans rp;have rr:=A6 rp;refine gU1 (aI @A4 (aI @P9 (aI @N5 (aI @N9 (aI @K6 (aI @M4 (aI @M5 (aI @K7 (aI @K8 (aI @H8 (aI @gc (aI g2 (aI g3 (aI g4 rr)))))))))))))) ?_;have Xn:B9 q Z3 (Z3.new [str [60,61],str [62,61]]):= .of (.new _ _);have hoN:OL τ0.n (Z5.new [str nm,str rl,.int .i64 (z:Int)]) 3 u (L.map Req.row):=OL.ext (OL.BI (OL.BI (OL.BI (OL.BI (OL.ext (OL.BI ho Xx0 om) F2) Xx om) Xn om) Xy om) Xz om) (.new _ _);have hXN:U6 q p τ0 (Z5.new [str nm,str rl,.int .i64 (z:Int)]):=((((((hX.trans (.xq Xx0)).trans (.of F2)).trans (.xq Xx)).trans (.xq Xn)).trans (.xq Xy)).trans (.xq Xz)).trans (.of (Ext.AG (.refl _) _));refine G4 (row:=(Req.row) ⟨nm,rl,(z:Int)⟩) (fun _ _ _ _=>N6) hoN (D1 nL nL) (D8 (by simp[AB.row,Req.row]) (by simp)) (by rw[z2z];omega) (by simp;omega) ?_;rintro u' Z8 ho' hA -;obtain⟨ua,n1,rfl⟩:∃ ua n,u'= .slice ua n n:=by obtain⟨a,h⟩:=OL.shape ho';exact⟨a,_,h⟩
  have r8:Z8.A7 p=some _:=(B8 (hA.same p (by simp;omega) bv)).trans ((E9 (by first|omega|(simp;omega))).trans rp);have qN:GQ q v l (Z5.new [str nm,str rl,.int .i64 (z:Int)]):=Qz.ext (.new _ _) (by first|omega|(simp;omega));have n8:=hA.n;simp only[N8]at n8;refine gU1 (aI @P9 (aI @N5 (aI @N9 (aI @K6 (aI @M4 (aI @M5 (aI @K7 (aI @K8 (aI @H8 (aI @gw3 (aI g2 (aI g3 (aI g4 (aI @gc r8)))))))))))))) ?_;refine Ar.intro (by(repeat first|simp(disch:=omega) only[DH,Gc,Bq,asx (Ext.refl _),asx F2,S7 (b:=p) Xx om,S7 (b:=p) Xy om,S7 (b:=p) Xz om,S7 (b:=bn) Xx om,S7 (b:=bn) Xy om,S7 (b:=bn) Xz om,S7 (b:=Z3.n) Xy om,S7 (b:=Z3.n) Xz om]|rw[IT (by kernel_rfl)]);first|done|rfl) ?_;refine gU1 (aI @P9 (aI @N5 (aI @N9 (aI @K6 (aI @M4 (aI @M5 (aI @K7 (aI @K8 (aI @H8 (aI @gw3 (aI g2 (aI g3 (aI g4 (aI @gc @Jx)))))))))))))) ?_;have hM8:U6 q p τ0 Z8:=U6.app hA hXN hoN nL;refine⟨om,fR,hM8.upd,_,L++[⟨nm,rl,(z:Int)⟩],⟨fR1 g2,fR1 g3,fR1 g4,(hM8.ext h0.E hq om).upd om _,(qN.app hA hoN (by first|omega|(simp;omega)) om).x (B9.refl.upd _) om om,cL,by simp;omega⟩,?_,by simp[hL],?_⟩
  rotate_left
  ·intro c hc;rcases DK.1 hc with hc|hc
   ·exact hP c hc
   ·rw[GK]at hc;subst hc;exact⟨⟨hnw,hn9⟩,At9,by show(0:Int)<=(z:Int);omega,by show(z:Int)<=7;omega⟩
  ·rw[y7];exact OL.upd ho' om
def uK {Z τ0:St}{fr0:Fr}{q p:Nat}{v:Value}{l:List Int}{H0:List Nat}{a0 a1 a2 a3 a4 a5 a6 a7 a8 a9 a10 a12 a13 a14 a15 a16 a17 a18 a19:Value}(hl:Y9 (J5 Z H0) v l) (hll:l.length<=9223372036854775807) (hq:Z.n<=q) (hqp:q<p) (h0:MdS Z q p v l [a0,a1,a2,a3,a4,a5,a6,a7,a8,a9,a10,.slice none 0 0,a12,a13,a14,a15,a16,a17,a18,a19] fr0 τ0) (gc0:fr0.get 11=some (.int .i64 0)){nt:Nat}(ij:fr0.get 10=some (.slice (some ⟨nt,0,none⟩) 3 3)) (rt0:τ0.A7 nt=some [str [112,114,105,99,101],str [115,112,101,101,100],str [99,111,109,102,111,114,116]]) (nt0:nt<τ0.n) (ntq:nt≠q) (ntp:nt≠p) :
  Ev (lim Tryz.prog HS none (.loop (mdC [1,1,1,1,1,1,1,1,0,1,2,3])) fr0 τ0) (fun r=>∃ fr τ u,∃ L:List By,r=⟨.exit 6,fr,τ⟩/\MdS Z q p v l [a0,a1,a2,a3,a4,a5,a6,a7,a8,a9,a10,u,a12,a13,a14,a15,a16,a17,a18,a19] fr τ/\U6 q p τ0 τ/\OL τ0.n τ 1 u (L.map (fun s:By=>[str s]))/\L.length<=3/\L=MK.take L.length) ⟨⟩:=by
 have hp0:=h0.lt
 refine GM 3 (fun k fr τ=>fr.get 11=some (.int .i64 (k:Nat))/\fr.get 10=some (.slice (some ⟨nt,0,none⟩) 3 3)/\U6 q p τ0 τ/\∃ u,∃ L:List By,MdS Z q p v l [a0,a1,a2,a3,a4,a5,a6,a7,a8,a9,a10,u,a12,a13,a14,a15,a16,a17,a18,a19] fr τ/\OL τ0.n τ 1 u (L.map (fun s:By=>[str s]))/\L.length=k/\L=MK.take L.length)
  (fun r=>∃ fr τ u,∃ L:List By,r=⟨.exit 6,fr,τ⟩/\MdS Z q p v l [a0,a1,a2,a3,a4,a5,a6,a7,a8,a9,a10,u,a12,a13,a14,a15,a16,a17,a18,a19] fr τ/\U6 q p τ0 τ/\OL τ0.n τ 1 u (L.map (fun s:By=>[str s]))/\L.length<=3/\L=MK.take L.length) ?_ ?_ (fun r h=>h)
 ·exact⟨gc0,ij,.refl,_,[],h0,OL.nil,rfl,rfl⟩
 ·rintro k fr τ hk ⟨gc,ij,hX,u,L,⟨g2,g3,g4,hE,hQ,rp,hp⟩,ho,hL,hP⟩;have nX:=hX.n;have bv:I2 u≠some p:=fun hb=>by have:=(ho.blk hb).1;omega
  simp only[mdC,Tryz.f6,J4,M0,BP,BQ,BR,BS];refine gU1 (aI @A4 (aI @P9 (aI @N5 (aI @N9 (aI @N6 (aI @K6 (aI @M5 (aI @K7 (aI @K8 (aI @H8 (aI @gc (aI g2 (aI g3 g4))))))))))))) ?_;refine(nxg (n:=4) hl hll hE hq (by first|omega|(simp;omega)) hQ om om).mono ?_;rintro r ⟨x0,Z1,rfl,hx0,Ex0,Qx0,Xx0⟩;have nx0:=Xx0.n
  try simp only[N8]at nx0
  have rp:Z1.A7 p=some _:=(Xx0.A7 (by first|omega|(simp;omega)) om).trans rp;have rr:=A6 rp;rcases y8 x0 (k+1)with hkx|hkx
  ·have hc:decide (k<x0)=false:=dF;refine gU1 (aI @A4 (aI @D3 (aI @gc (aI hc @OY)))) ?_;exact⟨_,_,u,L,rfl,⟨fR1 g2,fR1 g3,fR1 g4,Ex0,Qx0,rp,om⟩,hX.trans (.xq Xx0),OL.BI ho Xx0 om,om,hP⟩
  have hc:=J2 hkx;have rnt:Z1.row nt=some [str [112,114,105,99,101],str [115,112,101,101,100],str [99,111,109,102,111,114,116]]:=A6 (by rw[Xx0.A7 om om,hX.A7 om om om];exact rt0);obtain⟨nm,hnm,htk⟩:=uL (show k<3 by omega);refine gU1 (aI @A4 (aI @P9 (aI @N5 (aI @N9 (aI @N6 (aI @K6 (aI @M5 (aI @K7 (aI @K8 (aI @H8 (aI @gc (aI g2 (aI g3 (aI g4 (aI ij (aI hc (aI rr (aI rnt hnm)))))))))))))))))) ?_;have hoN:OL τ0.n (Z1.new [str nm]) 1 u (L.map (fun s:By=>[str s])):=OL.ext (OL.BI ho Xx0 om) (.new _ _);have hXN:U6 q p τ0 (Z1.new [str nm]):=(hX.trans (.xq Xx0)).trans (.of (Ext.AG (.refl _) _));refine G4 (row:=((fun s:By=>[str s])) nm) (fun _ _ _ _=>M4) hoN (D1 nL nL) (D8 (by simp[AB.row,Req.row]) (by simp)) (by rw[z2z];omega) (by simp;omega) ?_;rintro u' Z8 ho' hA -;obtain⟨ua,n1,rfl⟩:∃ ua n,u'= .slice ua n n:=by obtain⟨a,h⟩:=OL.shape ho';exact⟨a,_,h⟩
  have r8:Z8.A7 p=some _:=(B8 (hA.same p (by simp;omega) bv)).trans ((E9 (by first|omega|(simp;omega))).trans rp);have qN:GQ q v l (Z1.new [str nm]):=Qx0.ext (.new _ _) (by first|omega|(simp;omega));have n8:=hA.n;simp only[N8]at n8;refine gU1 (aI @P9 (aI @N5 (aI @N9 (aI @N6 (aI @K6 (aI @M5 (aI @K7 (aI @K8 (aI @H8 (aI @Aa3 (aI g2 (aI g3 (aI g4 (aI @gc (aI ij r8))))))))))))))) ?_;refine Ar.intro (by(repeat first|simp(disch:=omega) only[DH,Gc,Bq,asx (Ext.refl _)]|rw[IT (by kernel_rfl)]);first|done|rfl) ?_;refine gU1 (aI @P9 (aI @N5 (aI @N9 (aI @N6 (aI @K6 (aI @M5 (aI @K7 (aI @K8 (aI @H8 (aI @Aa3 (aI g2 (aI g3 (aI g4 (aI @gc (aI ij @Jx))))))))))))))) ?_;have hM8:U6 q p τ0 Z8:=U6.app hA hXN hoN nL;refine⟨om,fR,fR1 ij,hM8.upd,_,L++[nm],⟨fR1 g2,fR1 g3,fR1 g4,(hM8.ext h0.E hq om).upd om _,(qN.app hA hoN (by first|omega|(simp;omega)) om).x (B9.refl.upd _) om om,cL,by simp;omega⟩,?_,by simp[hL],by rw[BD,hL];show L++[nm]=MK.take (k+1);rw[htk,hP,hL]⟩
  ·rw[y7];exact OL.upd ho' om
def jF {Z τ0:St}{fr0:Fr}{q p:Nat}{v:Value}{l:List Int}{H0:List Nat}{a0 a1 a2 a3 a4 a5 a6 a7 a8 a9 a10 a11 a12 a14 a15 a16 a17 a18 a19:Value}(hl:Y9 (J5 Z H0) v l) (hll:l.length<=9223372036854775807) (hq:Z.n<=q) (hqp:q<p) (h0:MdS Z q p v l [a0,a1,a2,a3,a4,a5,a6,a7,a8,a9,a10,a11,a12,.slice none 0 0,a14,a15,a16,a17,a18,a19] fr0 τ0) (gc0:fr0.get 12=some (.int .i64 0)) :
  Ev (lim Tryz.prog HS none (.loop (mdC [1,1,1,1,1,1,1,1,1,0,1,2,3])) fr0 τ0) (fun r=>∃ fr τ u,∃ L:List (Value×List Int),r=⟨.exit 8,fr,τ⟩/\MdS Z q p v l [a0,a1,a2,a3,a4,a5,a6,a7,a8,a9,a10,a11,a12,u,a14,a15,a16,a17,a18,a19] fr τ/\U6 q p τ0 τ/\OL τ0.n τ 1 u (L.map (fun y:Value×List Int=>[y.1]))/\L.length<=2/\∀ y∈L,(∀ b,I2 y.1=some b->I2 u≠some b)/\OL τ0.n τ 1 y.1 (y.2.map fun n=>[.int .i64 n])/\∃ a b,y.2=[a,b]/\1<=a/\a<b/\b<=9) ⟨⟩:=by
 have hp0:=h0.lt
 refine GM 2 (fun k fr τ=>fr.get 12=some (.int .i64 (k:Nat))/\U6 q p τ0 τ/\∃ u,∃ L:List (Value×List Int),MdS Z q p v l [a0,a1,a2,a3,a4,a5,a6,a7,a8,a9,a10,a11,a12,u,a14,a15,a16,a17,a18,a19] fr τ/\OL τ0.n τ 1 u (L.map (fun y:Value×List Int=>[y.1]))/\L.length=k/\∀ y∈L,(∀ b,I2 y.1=some b->I2 u≠some b)/\OL τ0.n τ 1 y.1 (y.2.map fun n=>[.int .i64 n])/\∃ a b,y.2=[a,b]/\1<=a/\a<b/\b<=9)
  (fun r=>∃ fr τ u,∃ L:List (Value×List Int),r=⟨.exit 8,fr,τ⟩/\MdS Z q p v l [a0,a1,a2,a3,a4,a5,a6,a7,a8,a9,a10,a11,a12,u,a14,a15,a16,a17,a18,a19] fr τ/\U6 q p τ0 τ/\OL τ0.n τ 1 u (L.map (fun y:Value×List Int=>[y.1]))/\L.length<=2/\∀ y∈L,(∀ b,I2 y.1=some b->I2 u≠some b)/\OL τ0.n τ 1 y.1 (y.2.map fun n=>[.int .i64 n])/\∃ a b,y.2=[a,b]/\1<=a/\a<b/\b<=9) ?_ ?_ (fun r h=>h)
 ·exact⟨gc0,.refl,_,[],h0,OL.nil,rfl,fun c hc=>by cases hc⟩
 ·rintro k fr τ hk ⟨gc,hX,u,L,⟨g2,g3,g4,hE,hQ,rp,hp⟩,ho,hL,hP⟩;have nX:=hX.n;have bv:I2 u≠some p:=fun hb=>by have:=(ho.blk hb).1;omega
  simp only[mdC,Tryz.f6,J4,M0,BP,BQ,BR,BS];refine gU1 (aI @A4 (aI @P9 (aI @N5 (aI @N9 (aI @N6 (aI @K6 (aI @M4 (aI @K7 (aI @K8 (aI @H8 (aI @gc (aI g2 (aI g3 g4))))))))))))) ?_;refine(nxg (n:=3) hl hll hE hq (by first|omega|(simp;omega)) hQ om om).mono ?_;rintro r ⟨x0,Z1,rfl,hx0,Ex0,Qx0,Xx0⟩;have nx0:=Xx0.n
  try simp only[N8]at nx0
  have rp:Z1.A7 p=some _:=(Xx0.A7 (by first|omega|(simp;omega)) om).trans rp;have rr:=A6 rp;rcases y8 x0 (k+1)with hkx|hkx
  ·have hc:decide (k<x0)=false:=dF;refine gU1 (aI @A4 (aI @D3 (aI @gc (aI hc @OY)))) ?_;exact⟨_,_,u,L,rfl,⟨fR1 g2,fR1 g3,fR1 g4,Ex0,Qx0,rp,om⟩,hX.trans (.xq Xx0),OL.BI ho Xx0 om,om,fun y hy=>⟨(hP y hy).1,OL.BI (hP y hy).2.1 Xx0 om,(hP y hy).2.2⟩⟩
  have hc:=J2 hkx;refine gU1 (aI @A4 (aI @P9 (aI @N5 (aI @N9 (aI @N6 (aI @K6 (aI @M4 (aI @K7 (aI @K8 (aI @H8 (aI @gc (aI g2 (aI g3 (aI g4 (aI hc rr))))))))))))))) ?_;refine(nxg (n:=3) hl hll Ex0 hq (by first|omega|(simp;omega)) Qx0 om om).mono ?_;rintro r ⟨x,Z2,rfl,hx,Ex,Qx,Xx⟩;have nx:=Xx.n
  try simp only[N8]at nx
  have rp:Z2.A7 p=some _:=(Xx.A7 (by first|omega|(simp;omega)) om).trans rp;have rr:=A6 rp;refine gU1 (aI @A4 (aI @P9 (aI @N5 (aI @N9 (aI @N6 (aI @K6 (aI @M4 (aI @K7 (aI @K8 (aI @H8 (aI @gc (aI g2 (aI g3 (aI g4 rr)))))))))))))) ?_;have rp:(Z2.new [.int .i64 (1+(k:Int)),.int .i64 (2+(k:Int)+(x:Int))]).A7 p=some _:=(E9 om).trans rp;have hoN:OL τ0.n ((Z2.new [.int .i64 (1+(k:Int)),.int .i64 (2+(k:Int)+(x:Int))]).new [.slice (some ⟨Z2.n,0,none⟩) 2 2]) 1 u (L.map (fun y:Value×List Int=>[y.1])):=OL.ext (OL.ext (OL.BI (OL.BI ho Xx0 om) Xx om) (.new _ _)) (.new _ _);have hXN:U6 q p τ0 ((Z2.new [.int .i64 (1+(k:Int)),.int .i64 (2+(k:Int)+(x:Int))]).new [.slice (some ⟨Z2.n,0,none⟩) 2 2]):=(((hX.trans (.xq Xx0)).trans (.xq Xx)).trans (.of (Ext.AG (.refl _) _))).trans (.of (Ext.AG (.refl _) _));refine G4 (row:=((fun y:Value×List Int=>[y.1])) (.slice (some ⟨Z2.n,0,none⟩) 2 2,[1+(k:Int),2+(k:Int)+(x:Int)])) (fun _ _ _ _=>M5) hoN (D1 nL nL) (D8 (by simp[AB.row,Req.row]) (by simp)) (by rw[z2z];omega) (by simp;omega) ?_;rintro u' Z8 ho' hA -;obtain⟨ua,n1,rfl⟩:∃ ua n,u'= .slice ua n n:=by obtain⟨a,h⟩:=OL.shape ho';exact⟨a,_,h⟩
  have r8:Z8.A7 p=some _:=(B8 (hA.same p (by simp;omega) bv)).trans ((E9 (by first|omega|(simp;omega))).trans rp);have qN:GQ q v l ((Z2.new [.int .i64 (1+(k:Int)),.int .i64 (2+(k:Int)+(x:Int))]).new [.slice (some ⟨Z2.n,0,none⟩) 2 2]):=(Qx.ext (.new _ _) om).ext (.new _ _) (by first|omega|(simp;omega));have n8:=hA.n;simp only[N8]at n8;refine gU1 (aI @P9 (aI @N5 (aI @N9 (aI @N6 (aI @K6 (aI @M4 (aI @K7 (aI @K8 (aI @H8 (aI @Ae3 (aI g2 (aI g3 (aI g4 (aI @gc r8)))))))))))))) ?_;refine Ar.intro (by(repeat first|simp(disch:=omega) only[DH,Gc,Bq,asx (Ext.refl _),S7 (b:=p) Xx om]|rw[IT (by kernel_rfl)]);first|done|rfl) ?_;refine gU1 (aI @P9 (aI @N5 (aI @N9 (aI @N6 (aI @K6 (aI @M4 (aI @K7 (aI @K8 (aI @H8 (aI @Ae3 (aI g2 (aI g3 (aI g4 (aI @gc @Jx)))))))))))))) ?_;have hM8:U6 q p τ0 Z8:=U6.app hA hXN hoN nL;refine⟨om,fR,hM8.upd,_,L++[(.slice (some ⟨Z2.n,0,none⟩) 2 2,[1+(k:Int),2+(k:Int)+(x:Int)])],⟨fR1 g2,fR1 g3,fR1 g4,(hM8.ext h0.E hq om).upd om _,(qN.app hA hoN (by first|omega|(simp;omega)) om).x (B9.refl.upd _) om om,cL,by simp;omega⟩,?_,by simp[hL],fun y hy=>?_⟩
  rotate_left
  ·rcases DK.1 hy with hy|hy
   ·obtain⟨c1,c2,c3⟩:=hP y hy;have c4:OL τ0.n ((Z2.new [.int .i64 (1+(k:Int)),.int .i64 (2+(k:Int)+(x:Int))]).new [.slice (some ⟨Z2.n,0,none⟩) 2 2]) 1 y.1 (y.2.map fun n=>[.int .i64 n]):=OL.ext (OL.ext (OL.BI (OL.BI c2 Xx0 om) Xx om) (.new _ _)) (.new _ _);exact⟨fun b hb=>hA.far (c4.blk hb).2,OL.upd (c4.J3 hA.n fun b hb=>hA.same b (c4.blk hb).2 (c1 b hb)) om,c3⟩
   ·rw[GK]at hy;subst hy;have c4:OL τ0.n ((Z2.new [.int .i64 (1+(k:Int)),.int .i64 (2+(k:Int)+(x:Int))]).new [.slice (some ⟨Z2.n,0,none⟩) 2 2]) 1 (.slice (some ⟨Z2.n,0,none⟩) 2 2) ([1+(k:Int),2+(k:Int)+(x:Int)].map fun n=>[.int .i64 n]):=OL.mk rfl rfl (by simp) (.inl rfl) om (by simp;omega) (cL);exact⟨fun b hb=>hA.far (c4.blk hb).2,OL.upd (c4.J3 hA.n fun b hb=>hA.same b (c4.blk hb).2 (fun hu=>by have:=(ho.blk hu).2;cases hb;omega)) om,_,_,rfl,om,om,om⟩
  ·rw[y7];exact OL.upd ho' om
def vG {Z τ0:St}{fr0:Fr}{q p:Nat}{v:Value}{l:List Int}{H0:List Nat}{a0 a1 a2 a3 a4 a5 a11 a12 a13 a14:Value}(hH0:∀ c∈H0,c<Z.n) (hl:Y9 (J5 Z H0) v l) (hll:l.length<=9223372036854775807) (hq:Z.n<q) (hqp:q<p)
  (h0:MdS Z q p v l [a0,a1,a2,a3,a4,a5,str [],.int .i64 0,.int .i64 0,str [],.slice none 0 0,a11,a12,a13,a14,.int .i64 0,.int .i64 0,.int .i64 0,.int .i64 0,.int .i64 0] fr0 τ0) (hz:τ0.A7 Z.n=some ag) :
  Ev (lim Tryz.prog HS none (mdC [1,1,1,1,1,1,1,1,1,1]) fr0 τ0) (fun r=>∃ fr τ cs,∃ (x1 x2 x3 x4 x5:Value) (e:Ex) (k m:Nat) (a b c d s:Nat),r=⟨.ret,fr,τ.upd Z.n cs⟩/\fr.get 2=some (.pointer (some ⟨Z.n,0,none⟩)) /\
   cs=[a0,a1,a2,a3,a4,a5,x1,x2,x3,x4,x5,a11,a12,a13,a14,.int .i64 (a:Nat),.int .i64 (b:Nat),.int .i64 (c:Nat),.int .i64 (d:Nat),.int .i64 (s:Nat)]/\U6 q p τ0 τ/\Ext Z τ/\Z.n<τ.n /\
   ExX (J5 (τ.upd Z.n cs) H0) [x1,x2,x3,x4,x5] e/\FSw k m e/\k<=4/\m<=16/\a<20/\b<40/\c<60/\d<80/\s<20) ⟨⟩:=by
 obtain⟨g2,g3,g4,hE,hQ,rp,hp⟩:=h0;have rr:=A6 rp;simp only[mdC,Tryz.f6,J4,M0,BP,BQ,BR,BS]
 try(refine gU1 (aI @D3 (aI g2 (aI g3 g4))) ?_;try exact⟨⟩)
 refine(nxg (n:=20) hl hll hE om om hQ om om).mono ?_;rintro r ⟨a,τ1,rfl,ha,Ea,Qa,Xa⟩;have na:=Xa.n;have rp:τ1.A7 p=some _:=(Xa.A7 om om).trans rp;refine gU1 (aI @D3 (aI @Av9 (aI g2 (aI g3 (aI g4 @rp))))) ?_;obtain⟨S1,hS1⟩:=nm (τ1.upd p [a0,a1,a2,a3,a4,a5,str [],.int .i64 0,.int .i64 0,str [],.slice none 0 0,a11,a12,a13,a14,.int .i64 (a:Nat),.int .i64 0,.int .i64 0,.int .i64 0,.int .i64 0]);rw[hS1];have U1:U6 q p τ0 S1:=by rw[<- hS1];exact(U6.xq Xa).upd
 have n1:S1.n=τ1.n:=by rw[<- hS1];rfl
 have rp:S1.A7 p=some [a0,a1,a2,a3,a4,a5,str [],.int .i64 0,.int .i64 0,str [],.slice none 0 0,a11,a12,a13,a14,.int .i64 (a:Nat),.int .i64 0,.int .i64 0,.int .i64 0,.int .i64 0]:=by rw[<- hS1];exact cL
 have rr:=A6 rp;have E1:Ext Z S1:=by rw[<- hS1];exact Ea.upd om _
 have Q1:GQ q v l S1:=by rw[<- hS1];exact Qa.x (B9.refl.upd _) om om
 clear hS1
 try(refine gU1 (aI @D3 (aI g2 (aI g3 (aI g4 rr)))) ?_;try exact⟨⟩)
 refine(nxg (n:=20) hl hll E1 om om Q1 om om).mono ?_;rintro r ⟨b,τ2,rfl,hb,Eb,Qb,Xb⟩;have nb:=Xb.n;have rp:τ2.A7 p=some _:=(Xb.A7 om om).trans rp;obtain⟨b2,hb2⟩:∃ b2:Nat,(a:Int)+(b:Int)=(b2:Int):=⟨a+b,om⟩
 refine gU1 (aI @D3 (aI @Aw0 (aI g2 (aI g3 (aI g4 (aI @rp hb2)))))) ?_;refine Ar.intro (by(repeat first|simp(disch:=omega) only[DH,Gc,Bq,asx (Ext.refl _),S7 (b:=p) Xb om]|rw[IT (by kernel_rfl)]);first|done|rfl) ?_
 try(refine gU1 (aI @D3 (aI g2 (aI g3 g4))) ?_;try exact⟨⟩)
 obtain⟨S2,hS2⟩:=nm (τ2.upd p [a0,a1,a2,a3,a4,a5,str [],.int .i64 0,.int .i64 0,str [],.slice none 0 0,a11,a12,a13,a14,.int .i64 (a:Nat),.int .i64 (b2:Nat),.int .i64 0,.int .i64 0,.int .i64 0]);rw[hS2];have U2:U6 q p τ0 S2:=by rw[<- hS2];exact(U1.trans (.xq Xb)).upd
 have n2:S2.n=τ2.n:=by rw[<- hS2];rfl
 have rp:S2.A7 p=some [a0,a1,a2,a3,a4,a5,str [],.int .i64 0,.int .i64 0,str [],.slice none 0 0,a11,a12,a13,a14,.int .i64 (a:Nat),.int .i64 (b2:Nat),.int .i64 0,.int .i64 0,.int .i64 0]:=by rw[<- hS2];exact cL
 have rr:=A6 rp;have E2:Ext Z S2:=by rw[<- hS2];exact Eb.upd om _
 have Q2:GQ q v l S2:=by rw[<- hS2];exact Qb.x (B9.refl.upd _) om om
 clear hS2
 try(refine gU1 (aI @D3 (aI g2 (aI g3 (aI g4 rr)))) ?_;try exact⟨⟩)
 refine(nxg (n:=20) hl hll E2 om om Q2 om om).mono ?_;rintro r ⟨c,τ3,rfl,hc,Ec,Qc,Xc⟩;have nc:=Xc.n;have rp:τ3.A7 p=some _:=(Xc.A7 om om).trans rp;obtain⟨c2,hc2⟩:∃ c2:Nat,(b2:Int)+(c:Int)=(c2:Int):=⟨b2+c,om⟩
 refine gU1 (aI @D3 (aI @Aw1 (aI g2 (aI g3 (aI g4 (aI @rp hc2)))))) ?_;refine Ar.intro (by(repeat first|simp(disch:=omega) only[DH,Gc,Bq,asx (Ext.refl _),S7 (b:=p) Xc om]|rw[IT (by kernel_rfl)]);first|done|rfl) ?_
 try(refine gU1 (aI @D3 (aI g2 (aI g3 g4))) ?_;try exact⟨⟩)
 obtain⟨S3,hS3⟩:=nm (τ3.upd p [a0,a1,a2,a3,a4,a5,str [],.int .i64 0,.int .i64 0,str [],.slice none 0 0,a11,a12,a13,a14,.int .i64 (a:Nat),.int .i64 (b2:Nat),.int .i64 (c2:Nat),.int .i64 0,.int .i64 0]);rw[hS3];have U3:U6 q p τ0 S3:=by rw[<- hS3];exact(U2.trans (.xq Xc)).upd
 have n3:S3.n=τ3.n:=by rw[<- hS3];rfl
 have rp:S3.A7 p=some [a0,a1,a2,a3,a4,a5,str [],.int .i64 0,.int .i64 0,str [],.slice none 0 0,a11,a12,a13,a14,.int .i64 (a:Nat),.int .i64 (b2:Nat),.int .i64 (c2:Nat),.int .i64 0,.int .i64 0]:=by rw[<- hS3];exact cL
 have rr:=A6 rp;have E3:Ext Z S3:=by rw[<- hS3];exact Ec.upd om _
 have Q3:GQ q v l S3:=by rw[<- hS3];exact Qc.x (B9.refl.upd _) om om
 clear hS3
 try(refine gU1 (aI @D3 (aI g2 (aI g3 (aI g4 rr)))) ?_;try exact⟨⟩)
 refine(nxg (n:=20) hl hll E3 om om Q3 om om).mono ?_;rintro r ⟨d,τ4,rfl,hd,Ed,Qd,Xd⟩;have nd:=Xd.n;have rp:τ4.A7 p=some _:=(Xd.A7 om om).trans rp;obtain⟨d2,hd2⟩:∃ d2:Nat,(c2:Int)+(d:Int)=(d2:Int):=⟨c2+d,om⟩
 refine gU1 (aI @D3 (aI @Aw2 (aI g2 (aI g3 (aI g4 (aI @rp hd2)))))) ?_;refine Ar.intro (by(repeat first|simp(disch:=omega) only[DH,Gc,Bq,asx (Ext.refl _),S7 (b:=p) Xd om]|rw[IT (by kernel_rfl)]);first|done|rfl) ?_
 try(refine gU1 (aI @D3 (aI g2 (aI g3 g4))) ?_;try exact⟨⟩)
 obtain⟨S4,hS4⟩:=nm (τ4.upd p [a0,a1,a2,a3,a4,a5,str [],.int .i64 0,.int .i64 0,str [],.slice none 0 0,a11,a12,a13,a14,.int .i64 (a:Nat),.int .i64 (b2:Nat),.int .i64 (c2:Nat),.int .i64 (d2:Nat),.int .i64 0]);rw[hS4];have U4:U6 q p τ0 S4:=by rw[<- hS4];exact(U3.trans (.xq Xd)).upd
 have n4:S4.n=τ4.n:=by rw[<- hS4];rfl
 have rp:S4.A7 p=some [a0,a1,a2,a3,a4,a5,str [],.int .i64 0,.int .i64 0,str [],.slice none 0 0,a11,a12,a13,a14,.int .i64 (a:Nat),.int .i64 (b2:Nat),.int .i64 (c2:Nat),.int .i64 (d2:Nat),.int .i64 0]:=by rw[<- hS4];exact cL
 have E4:Ext Z S4:=by rw[<- hS4];exact Ed.upd om _
 have Q4:GQ q v l S4:=by rw[<- hS4];exact Qd.x (B9.refl.upd _) om om
 clear hS4
 try(refine gU1 (aI @D3 (aI g2 (aI g3 g4))) ?_;try exact⟨⟩)
 refine(nxg (n:=20) hl hll E4 om om Q4 om om).mono ?_;rintro r ⟨s,τ5,rfl,hs,Es,Qs,Xs⟩;have ns:=Xs.n;have rp:τ5.A7 p=some _:=(Xs.A7 om om).trans rp;refine gU1 (aI @D3 (aI @Aw3 (aI g2 (aI g3 (aI g4 @rp))))) ?_;obtain⟨S5,hS5⟩:=nm (τ5.upd p [a0,a1,a2,a3,a4,a5,str [],.int .i64 0,.int .i64 0,str [],.slice none 0 0,a11,a12,a13,a14,.int .i64 (a:Nat),.int .i64 (b2:Nat),.int .i64 (c2:Nat),.int .i64 (d2:Nat),.int .i64 (s:Nat)]);rw[hS5];have U5:U6 q p τ0 S5:=by rw[<- hS5];exact(U4.trans (.xq Xs)).upd
 have n5:S5.n=τ5.n:=by rw[<- hS5];rfl
 have rp:S5.A7 p=some [a0,a1,a2,a3,a4,a5,str [],.int .i64 0,.int .i64 0,str [],.slice none 0 0,a11,a12,a13,a14,.int .i64 (a:Nat),.int .i64 (b2:Nat),.int .i64 (c2:Nat),.int .i64 (d2:Nat),.int .i64 (s:Nat)]:=by rw[<- hS5];exact cL
 have E5:Ext Z S5:=by rw[<- hS5];exact Es.upd om _
 have Q5:GQ q v l S5:=by rw[<- hS5];exact Qs.x (B9.refl.upd _) om om
 clear hS5
 try(refine gU1 (aI @D3 (aI g2 (aI g3 g4))) ?_;try exact⟨⟩)
 refine(nxg (n:=4) hl hll E5 om om Q5 om om).mono ?_;rintro r ⟨dp,τ6,rfl,hdp,Edp,Qdp,Xdp⟩;have ndp:=Xdp.n;have rp:τ6.A7 p=some _:=(Xdp.A7 om om).trans rp
 try(refine gU1 (aI @D3 (aI g2 (aI g3 g4))) ?_;try exact⟨⟩)
 refine PN.mono ?_;rintro r ⟨bn,τ7,rfl,F7,bn1,bn2,rn⟩;have n7:=F7.n;have rp:τ7.A7 p=some _:=(F7.A7 om).trans rp;have E7:Ext Z τ7:=Edp.trans F7;have Q7:=Qdp.ext F7 om;have U7:U6 q p τ0 τ7:=(U5.trans (.xq Xdp)).trans (.of F7);obtain⟨H,hHd⟩:=nm ((Z.n::q::p::H0));have hHm:∀ c∈H,Z.n<=c\/c∈H0:=by
  intro c hc;rw[<- hHd]at hc;simp only[BJ]at hc;rcases hc with rfl|rfl|rfl|h<;>first|(left;omega)|exact .inr h
 have hHl:∀ c∈H,c<τ0.n:=fun c hc=>by
  rw[<- hHd]at hc;simp only[BJ]at hc;rcases hc with rfl|rfl|rfl|h<;>first|omega|(have:=hH0 c h;omega)
 have hqH:q∈H:=by rw[<- hHd];simp
 have hn0:=U5.n;have hbn:bn∉H:=fun h=>by have:=hHl bn h;omega
 have hsl:SL (J5 τ7 H) 1 (.slice (some ⟨bn,0,none⟩) 5 5) (zv.map fun s=>[str s]):=by
  refine .inr ⟨bn,0,none,5,_,rfl,by rw[Ik];exact bn2,by rw[FZ hbn];exact A6 rn,?_⟩;intro k r hk
  match k,hk with
  |0,hk=>cases hk;rfl
  |1,hk=>cases hk;rfl
  |2,hk=>cases hk;rfl
  |3,hk=>cases hk;rfl
  |4,hk=>cases hk;rfl
 try(refine gU1 (aI @D3 (aI g2 (aI g3 g4))) ?_;try exact⟨⟩)
 refine(tX rF dp om (H:=H) (fun c hc=>by have:=hHl c hc;omega) (zw hl hll E7 hHm om Q7 hqH) hsl).mono ?_;rintro r ⟨row,e,k,m,τ8,rfl,hM8,X8,hx,hf,hk,hm⟩;have n8:=X8.n;have rp:τ8.A7 p=some _:=(X8.A7 om om).trans rp;obtain⟨x1,x2,x3,x4,x5,rfl⟩:=fc5 hx.to;have U8:U6 q p τ0 τ8:=U7.trans (.xq X8);have rz:τ8.A7 Z.n=some ag:=by rw[U8.A7 om om om];exact hz
 unfold ag at rz;refine gU1 (aI @D3 (aI @gw6 (aI g2 (aI g3 (aI g4 (aI @rp rz)))))) ?_;have hmx:m<=16:=by
  have:2 ^ (dp+1)<=16:=X0 (Uh om (show dp+1<=4 by omega)) (by decide);omega
 refine⟨_,_,_,x1,x2,x3,x4,x5,e,k,m,a,b2,c2,d2,s,rfl,fR1 g2,rfl,U8.upd,(X8.ext E7 om).upd om _,by simp;omega,?_,hf,om,hmx,om,om,om,om,om⟩;refine hx.J3 (K0 (by simp) fun c hc hm=>?_);have h1:c≠Z.n:=fun e=>hm (by rw[<- hHd,e];simp);have h2:c≠p:=fun e=>hm (by rw[<- hHd,e];simp);exact⟨fun h=>hm (by rw[<- hHd];simp[h]),by rw[M1 h1,M1 h2]⟩
end Go.Proofs.T
namespace Go.Proofs.T
open Go Go.Ab
open Nat (reduceMul reduceEqDiff reduceAdd)
theorem oa {α:Type}{R:Value->List Int->Prop}{f:α->Value}{g:α->List Int}:∀ {L:List α},(∀ y∈L,R (f y) (g y))->FP R (L.map f) (L.map g):=by
 intro L;induction L with
 |nil=>intro _;trivial
 |cons y L ih=>intro h;exact⟨h y (List.mem_cons_self ..),ih fun z hz=>h z (List.mem_cons_of_mem _ hz)⟩
theorem vE {nm:By}{L1:List Lot}{L2:List AB}{L3:List Req}{L4:List By}{L5:List (List Int)}{b c d bu q1 q2 q3 q4 q5 k m:Nat}{e:Ex}
  (n1:BB nm=true) (n2:nm.length<=9) (a1:1<=L1.length) (a2:L1.length<=3) (a3:Re L1) (a4:∀ y∈L1,1<=y.id/\y.id<=1+2*(L1.length:Int)/\0<=y.P8/\y.P8<=199)
  (b1:L2.length<=3) (b2:L2.map AB.name=Nl.take L2.length) (b3:∀ c∈L2,(c.kind=1\/c.kind=2)/\0<=c.low/\c.low<=3/\0<=c.high/\c.high<=8)
  (c1:L3.length<=2) (c2:∀ x∈L3,(AL x.name=true/\x.name.length<=9)/\([[60,61],[62,61]]:List By).contains x.rel=true/\0<=x.value/\x.value<=7)
  (d1:L4.length<=3) (d2:L4=MK.take L4.length) (e1:L5.length<=2) (e2:∀ y∈L5,∃ a b,y=[a,b]/\1<=a/\a<b/\b<=9)
  (f1:FSw k m e) (f2:k<=4) (f3:m<=16) (g1:b<100) (g2:c<100) (g3:d<100) (g4:bu<2000) (h1:q1<20) (h2:q2<40) (h3:q3<60) (h4:q4<80) (h5:q5<20) :
  SR ⟨nm,L1,L2,L3,(b:Nat),10+(c:Nat),e,L4,(d:Nat),L5,(bu:Nat),⟨(q1:Nat),(q2:Nat),(q3:Nat),(q4:Nat),(q5:Nat)⟩⟩:=by
 obtain⟨u1,u2⟩:=gm L2.length b1;obtain⟨v1,v2⟩:=gj L4.length d1;rw[<- b2]at u1 u2;rw[<- d2]at v1 v2;have cn:∀ c∈L2,AL c.name=true/\c.name.length<=9:=fun c hc=>u2 _ (List.mem_map.2 ⟨c,hc,rfl⟩);have sm:∀ {n:Int},0<=n->n<5000->SmN n:=fun h1 h2=>⟨h1,om⟩
 have i9:∀ {n:Int},0<=n->n<5000->In9 n:=fun h1 h2=>⟨h1,om⟩
 refine⟨⟨n1,by show L1.length<=12;omega,fun h=>?_,fun l hl=>?_,Zg a3,by show L2.length<=12;omega,fun c hc=>?_,u1,by show L3.length<=24;omega,fun r hr=>?_,i9 (by(try dsimp only);omega) (by(try dsimp only);omega),i9 (by(try dsimp only);omega) (by(try dsimp only);omega),⟨k,m,f1.fw,om,om⟩,by show L4.length<=12;omega,fun w hw=>(v2 w hw).1,v1,i9 (by(try dsimp only);omega) (by(try dsimp only);omega),by show L5.length<=12;omega,fun c hc=>?_,i9 (by(try dsimp only);omega) (by(try dsimp only);omega),i9 (by(try dsimp only);omega) (by(try dsimp only);omega),i9 (by(try dsimp only);omega) (by(try dsimp only);omega),i9 (by(try dsimp only);omega) (by(try dsimp only);omega),i9 (by(try dsimp only);omega) (by(try dsimp only);omega),i9 (by(try dsimp only);omega) (by(try dsimp only);omega)⟩,
  ⟨fun l hl=>?_,fun c hc=>?_,fun r hr=>?_,fun l hl n hn=>?_,sm (by(try dsimp only);omega) (by(try dsimp only);omega),sm (by(try dsimp only);omega) (by(try dsimp only);omega),sm (by(try dsimp only);omega) (by(try dsimp only);omega),sm (by(try dsimp only);omega) (by(try dsimp only);omega),sm (by(try dsimp only);omega) (by(try dsimp only);omega),sm (by(try dsimp only);omega) (by(try dsimp only);omega),sm (by(try dsimp only);omega) (by(try dsimp only);omega),sm (by(try dsimp only);omega) (by(try dsimp only);omega),sm (by(try dsimp only);omega) (by(try dsimp only);omega)⟩,
  n2,a2,b1,fun c hc=>(cn c hc).2,c1,fun r hr=>(c2 r hr).1.2,d1,fun w hw=>(v2 w hw).2,e1,fun c hc=>?_,⟨k,m,f1,om,f3⟩⟩
 ·have h':L1=[]:=h;rw[h']at a1;simp at a1
 ·obtain⟨z1,z2,z3,z4⟩:=a4 l hl;exact⟨z1,om,i9 z3 om⟩
 ·obtain⟨z1,z2,z3,z4,z5⟩:=b3 c hc;exact⟨(cn c hc).1,z1,i9 z2 om,i9 z4 om⟩
 ·obtain⟨z1,z2,z3,z4⟩:=c2 r hr;exact⟨z1.1,z2,i9 z3 om⟩
 ·obtain⟨a,b,rfl,z1,z2,z3⟩:=e2 c hc;refine⟨by simp,by simp,?_,fun n hn=>?_⟩
  ·simp only[List.nodup_cons,List.mem_singleton,List.not_mem_nil,not_false_eq_true,List.nodup_nil,and_true];omega
  ·simp only[List.mem_cons,List.not_mem_nil,or_false]at hn;omega
 ·obtain⟨z1,z2,z3,z4⟩:=a4 l hl;exact⟨sm om om,sm z3 om⟩
 ·obtain⟨z1,z2,z3,z4,z5⟩:=b3 c hc;exact⟨z1,sm z2 om,sm z4 om⟩
 ·obtain⟨z1,z2,z3,z4⟩:=c2 r hr;exact sm z3 om
 ·obtain⟨a,b,rfl,z1,z2,z3⟩:=e2 l hl;simp only[List.mem_cons,List.not_mem_nil,or_false]at hn;exact sm om om
 ·obtain⟨a,b,rfl,-⟩:=e2 c hc;simp
theorem oc {x:Nat}(h:(x:Int)<3):∃ s,sub ([str [67,104,97,105,114,115],str [116],str [76,111,116,95,55]]:List Value) x 1=some [str s]/\BB s=true/\s.length<=9:=by
 have:x=0\/x=1\/x=2:=om;rcases this with rfl|rfl|rfl
 ·exact⟨_,rfl,by decide,by decide⟩
 ·exact⟨_,rfl,by decide,by decide⟩
 ·exact⟨_,rfl,by decide,by decide⟩
theorem jE {Z:St}{v:Value}{l:List Int}(H0:List Nat) (hH0:∀ c∈H0,c<Z.n) (hl:Y9 (J5 Z H0) v l) (hll:l.length<=9223372036854775807) :
  Ev (go Tryz.prog HS (.fn 6) [v] Z) (fun r=>∃ cells T Z',r=⟨false,.agg ⟨cells⟩,Z'⟩/\Ext Z Z'/\TnY (J5 Z' H0) cells T/\SR T) ⟨⟩:=by
 have hv:∃ a n c,v= .slice a n c:=by
  obtain⟨a,c,b,off,cells,h,-⟩:=hl.1.use;exact⟨a,_,c,h⟩
 have hvc:G6 v=[v]/\EZ v=false:=by obtain⟨a,n,c,rfl⟩:=hv;exact⟨rfl,rfl⟩
 refine D0 Tryz.func6 rfl rfl ?_;refine gU1 (a6N @A4 @D3 (hvc.1) (hvc.2) @Au0 @Au1) ?_;obtain⟨S0,hS0⟩:∃ S,(((Z.new [str [],.slice none 0 0,.slice none 0 0,.slice none 0 0,.int .i64 0,.int .i64 0,str [],.int .i64 0,.int .i64 0,str [],.slice none 0 0,.slice none 0 0,.int .i64 0,.slice none 0 0,.int .i64 0,.int .i64 0,.int .i64 0,.int .i64 0,.int .i64 0,.int .i64 0] (some 41)).new [v,.int .i64 0]).new [str [67,104,97,105,114,115],str [116],str [76,111,116,95,55]])=S:=⟨_,rfl⟩
 rw[hS0];obtain⟨q,hq⟩:∃ q,Z.n+1=q:=⟨_,rfl⟩
 rw[hq];have E0:Ext Z S0:=by rw[<- hS0];exact eX
 have n0:S0.n=Z.n+3:=by rw[<- hS0];rfl
 have Q0:GQ q v l S0:=⟨0,Nat.zero_le _,by rw[<- hS0,<- hq];exact cL⟩
 have z0:S0.A7 Z.n=some ag:=by rw[<- hS0];unfold ag;exact cL
 have k0:S0.row (Z.n+2)=some [str [67,104,97,105,114,115],str [116],str [76,111,116,95,55]]:=by rw[<- hS0];exact cL
 clear hS0;refine(nxg (n:=3) hl hll E0 om om Q0 om om).mono ?_;rintro r ⟨a,τ1,rfl,ha,Ea,Qa,Xa⟩;have na:=Xa.n;have z1:τ1.A7 Z.n=some ag:=by rw[Xa.A7 om om];exact z0
 have k1:τ1.row (Z.n+2)=some [str [67,104,97,105,114,115],str [116],str [76,111,116,95,55]]:=by rw[Xa.row om om];exact k0
 obtain⟨nm,hnm,nm1,nm2⟩:=oc ha;have q2:Z.n+1+1=Z.n+2:=rfl;refine gU1 (a5N @A4 @D3 @q2 @k1 @hnm) ?_;refine(nxg (n:=5) hl hll Ea om om Qa om om).mono ?_;rintro r ⟨b,τ2,rfl,hb,Eb,Qb,Xb⟩;have nb:=Xb.n;refine gU1 (aI @A4 @D3) ?_;refine(nxg (n:=90) hl hll Eb om om Qb om om).mono ?_;rintro r ⟨c,τ3,rfl,hc,Ec,Qc,Xc⟩;have nc:=Xc.n;refine gU1 (aI @A4 @D3) ?_;refine(nxg (n:=4) hl hll Ec om om Qc om om).mono ?_;rintro r ⟨d,τ4,rfl,hd,Ed,Qd,Xd⟩;have nd:=Xd.n;refine gU1 (aI @A4 @D3) ?_;refine(nxg (n:=2000) hl hll Ed om om Qd om om).mono ?_;rintro r ⟨e,τ5,rfl,he,Ee,Qe,Xe⟩;have ne:=Xe.n;have z5:τ5.A7 Z.n=some ag:=by rw[Xe.A7 om om,Xd.A7 om om,Xc.A7 om om,Xb.A7 om om];exact z1
 simp(maxSteps:=8000000) (disch:=first|exact dS|fail) only[↓bD,bU,reduceMul,reduceEqDiff,reduceAdd,Nat.reduceBEq,reduceIte,Option.isNone_none,A4,D3,asx (Ext.refl _)];refine Ar.intro (by simp(disch:=omega) only[DH,Gc,Bq,asx (Ext.refl _),S7 (b:=Z.n+2) Xa om,S7 (b:=Z.n+2) Xb om,S7 (b:=Z.n+2) Xc om,S7 (b:=Z.n+2) Xd om,S7 (b:=Z.n+2) Xe om];first|done|rfl) ?_;obtain⟨p,hp⟩:∃ p,τ5.n=p:=⟨_,rfl⟩
 refine gU1 (aI @A4 @D3) ?_;obtain⟨S6,hS6⟩:∃ S,((τ5.new [str [],.slice none 0 0,.slice none 0 0,.slice none 0 0,.int .i64 0,.int .i64 0,str [],.int .i64 0,.int .i64 0,str [],.slice none 0 0,.slice none 0 0,.int .i64 0,.slice none 0 0,.int .i64 0,.int .i64 0,.int .i64 0,.int .i64 0,.int .i64 0,.int .i64 0] (some 41)).upd τ5.n [str nm,.slice none 0 0,.slice none 0 0,.slice none 0 0,.int .i64 (b:Nat),.int .i64 (10+(c:Nat)),str [],.int .i64 0,.int .i64 0,str [],.slice none 0 0,.slice none 0 0,.int .i64 (d:Nat),.slice none 0 0,.int .i64 (e:Nat),.int .i64 0,.int .i64 0,.int .i64 0,.int .i64 0,.int .i64 0])=S:=⟨_,rfl⟩
 rw[hS6];have F6:Ext τ5 S6:=by rw[<- hS6];exact eX
 have E6:Ext Z S6:=Ee.trans F6;have n6:S6.n=p+1:=by rw[<- hS6,<- hp];rfl
 have rp:S6.A7 p=some [str nm,.slice none 0 0,.slice none 0 0,.slice none 0 0,.int .i64 (b:Nat),.int .i64 (10+(c:Nat)),str [],.int .i64 0,.int .i64 0,str [],.slice none 0 0,.slice none 0 0,.int .i64 (d:Nat),.slice none 0 0,.int .i64 (e:Nat),.int .i64 0,.int .i64 0,.int .i64 0,.int .i64 0,.int .i64 0]:=by rw[<- hS6,<- hp];exact cL
 have z6:S6.A7 Z.n=some ag:=by rw[F6.A7 om];exact z5
 have Q6:=Qe.ext F6 om;clear hS6;rw[hp];refine(nxg (n:=3) hl hll E6 om om Q6 om om).mono ?_;rintro r ⟨f,τ7,rfl,hf,Ef,Qf,Xf⟩;have nf:=Xf.n;have z7:τ7.A7 Z.n=some ag:=by rw[Xf.A7 om om];exact z6
 have rp:=(Xf.A7 (b:=p) om om).trans rp;obtain⟨nl,hnl,nl1,nl3⟩:∃ nl:Nat,1+(f:Int)=(nl:Int)/\1<=nl/\nl<=3:=⟨f+1,om,om,om⟩
 refine gU1 (a3N @A4 @D3 @hnl) ?_;refine(vF (nl:=nl) hl hll (show Z.n<=q by omega) (show q<p by omega) ⟨fR,fR,fR,Ef,Qf,rp,om⟩ (fR) nl3 (fR)).mono ?_;rintro r ⟨fr8,τ8,u1,L1,rfl,M8,X8,ho1,hL1,hR1,hB1⟩;have n8:=X8.n;refine gU1 (aI @A4 @D3) ?_;refine(lz hl hll (show Z.n<=q by omega) (show q<p by omega) ⟨fR1 @M8.g2,fR1 @M8.g3,fR1 @M8.g4,M8.E,M8.Q,M8.r,M8.lt⟩ (fR)).mono ?_;rintro r ⟨fr9,τ9,u2,L2,rfl,M9,X9,ho2,hL2,hN2,hC2⟩;have n9:=X9.n;refine gU1 (aI @A4 @D3) ?_;refine(th hl hll (show Z.n<=q by omega) (show q<p by omega) ⟨fR1 @M9.g2,fR1 @M9.g3,fR1 @M9.g4,M9.E,M9.Q,M9.r,M9.lt⟩ (fR)).mono ?_;rintro r ⟨BO1,τ10,u3,L3,rfl,M10,X10,ho3,hL3,hC3⟩;have n10:=X10.n;have BO2:=M10.lt;refine gU1 (aI @A4 @D3) ?_;obtain⟨S10,od⟩:∃ S,τ10.new [str [112,114,105,99,101],str [115,112,101,101,100],str [99,111,109,102,111,114,116]]=S:=⟨_,rfl⟩
 rw[od];have F10:Ext τ10 S10:=by rw[<- od];exact eX
 have BO3:S10.n=τ10.n+1:=by rw[<- od];rfl
 have rt0:S10.A7 τ10.n=some [str [112,114,105,99,101],str [115,112,101,101,100],str [99,111,109,102,111,114,116]]:=by rw[<- od];exact cL
 clear od;refine(uK (nt:=τ10.n) hl hll (show Z.n<=q by omega) (show q<p by omega) ⟨fR1 @M10.g2,fR1 @M10.g3,fR1 @M10.g4,M10.E.trans F10,M10.Q.ext F10 om,(F10.A7 M10.lt).trans M10.r,om⟩ (fR) (fR) rt0 om om om).mono ?_;rintro r ⟨BO4,τ11,u4,L4,rfl,M11,X11,ho4,hL4,hC4⟩;have n11:=X11.n;refine gU1 (aI @A4 @D3) ?_;refine(jF hl hll (show Z.n<=q by omega) (show q<p by omega) ⟨fR1 @M11.g2,fR1 @M11.g3,fR1 @M11.g4,M11.E,M11.Q,M11.r,M11.lt⟩ (fR)).mono ?_;rintro r ⟨BO5,τ12,u5,L5,rfl,M12,X12,ho5,hL5,hC5⟩;have n12:=X12.n;have Y11:U6 q p τ8 τ12:=(((X9.trans X10).trans (.of F10)).trans X11).trans X12;have z12:τ12.A7 Z.n=some ag:=by rw[Y11.A7 om om om,X8.A7 om om om];exact z7
 simp only[Ck,eK,oe,TF,eM,TG,D7,J7,Nat.reduceBEq,Nat.reduceEqDiff,reduceIte,XN,decide_true,eN,XO];refine(vG hH0 hl hll (show Z.n<q by omega) (show q<p by omega) ⟨fR1 @M12.g2,fR1 @M12.g3,fR1 @M12.g4,M12.E,M12.Q,M12.r,M12.lt⟩ z12).mono ?_;rintro r ⟨BO6,τ13,cs,x1,x2,x3,x4,x5,ex,k,m,q1,q2,q3,q4,q5,rfl,g2,hcs,X13,E13,BO7,hx,hf,hk,hm,t1,t2,t3,t4,t5⟩;have eO:sub cs 0 20=some cs:=by rw[hcs];rfl
 refine gU1 (a5N @A4 @D3 @g2 @eO @Tryz.results6) ?_;have jG:∀ {lo:Nat},Z.n<lo->∀ c∈H0,c<lo:=fun h c hc=>by have:=hH0 c hc;omega
 have n13:=X13.n;have p1:=OL.J5 (OL.upd (p:=Z.n) (cs:=cs) (OL.TH ho1 (Y11.trans X13) om om) om) (jG om);have p2:=OL.J5 (OL.upd (p:=Z.n) (cs:=cs) (OL.TH ho2 ((((X10.trans (.of F10)).trans X11).trans X12).trans X13) om om) om) (jG om);have p3:=OL.J5 (OL.upd (p:=Z.n) (cs:=cs) (OL.TH ho3 ((((U6.of F10).trans X11).trans X12).trans X13) om om) om) (jG om);have p4:=OL.J5 (OL.upd (p:=Z.n) (cs:=cs) (OL.TH ho4 (X12.trans X13) om om) om) (jG om);have p5:=OL.J5 (OL.upd (p:=Z.n) (cs:=cs) (OL.TH ho5 X13 om om) om) (jG om)
 have hM:=vE (nm:=nm) (L1:=L1) (L2:=L2) (L3:=L3) (L4:=L4) (L5:=L5.map Prod.snd) (b:=b) (c:=c) (d:=d) (bu:=e) (q1:=q1) (q2:=q2) (q3:=q3) (q4:=q4) (q5:=q5) nm1 nm2 om om hR1 hB1 hL2 hN2 hC2 hL3 hC3 hL4 hC4 (by rw[List.length_map];exact hL5)
  (fun y hy=>by obtain⟨x,hx1,rfl⟩:=List.mem_map.1 hy;exact(hC5 x hx1).2.2) hf hk hm om om om om t1 t2 t3 t4 t5
 refine⟨cs,⟨nm,L1,L2,L3,(b:Nat),10+(c:Nat),ex,L4,(d:Nat),L5.map Prod.snd,(e:Nat),⟨(q1:Nat),(q2:Nat),(q3:Nat),(q4:Nat),(q5:Nat)⟩⟩,_,rfl,E13.upd (Nat.le_refl _) _,⟨u1,u2,u3,[x1,x2,x3,x4,x5],u4,u5,L5.map Prod.fst,hcs,p1,p2,p3,hx,p4,?_,oa fun y hy=>?_⟩,hM⟩
 ·rw[List.map_map];exact p5
 ·exact(OL.J5 (OL.upd (p:=Z.n) (cs:=cs) (OL.TH (hC5 y hy).2.1 X13 om om) om) (jG om)).sl
theorem oB {Z:St}{v:Value}{l:List Int}(H0:List Nat) (hH0:∀ c∈H0,c<Z.n) (hl:Y9 (J5 Z H0) v l) (hll:l.length<=9223372036854775807) :
  Ev (go Tryz.prog HS (.fn 6) [v] Z) (fun r=>∃ cells T Z',r=⟨false,.agg ⟨cells⟩,Z'⟩/\Ext Z Z'/\Dm (J5 Z' H0) cells T/\SR T) ⟨⟩:=by
 refine(jE H0 hH0 hl hll).mono ?_;rintro r ⟨cells,T,Z1,rfl,h1,h2,h3⟩;exact⟨cells,T,Z1,rfl,h1,h2.tn,h3⟩
end Go.Proofs.T
