/- The J4 Hs of AV: its loops. -/
import Derived.Test.YtbcanmagihejhaaGreatDoorRD
set_option linter.unusedSimpArgs false
set_option linter.unusedVariables false
set_option maxHeartbeats 32000000
set_option maxRecDepth 100000
namespace Go.Proofs.T
open Go Go.Ab
def UP (J:Nat->Fr->St->Prop) (R:Res->Prop) (n k:Nat) (r:Res):Prop:=match r.o with
 | .normal=>k+1<=n/\J (k+1) r.fr r.Z
 | _=>R r
section
variable {P:Program} {H:CZ} {rd:Option Nat} {fr:Fr} {Z:St}
theorem HR {J:Nat->Fr->St->Prop}{R:Res->Prop}{n k:Nat}:UP J R n k ⟨.normal,fr,Z⟩=(k+1<=n/\J (k+1) fr Z):=rfl
theorem ML {J:Nat->Fr->St->Prop}{R:Res->Prop}{n k i:Nat}:UP J R n k ⟨.exit i,fr,Z⟩=R ⟨.exit i,fr,Z⟩:=rfl
theorem MK {body:Code}{Q:Res->Prop}{u:Hd Q}(n:Nat) (J:Nat->Fr->St->Prop) (R:Res->Prop) (h0:J 0 fr Z)
  (hs:∀ k fr Z,k<=n->J k fr Z->Ev (lim P H rd body fr Z) (UP J R n k) ⟨⟩) (hR:∀ r,R r->Q r) :
  Ev (lim P H rd (.loop body) fr Z) Q u:=by
 refine Bj (fun j fr Z=>∃ k,j+k=n/\J k fr Z) R n ⟨0,om,h0⟩ ?_ hR;rintro j fr Z ⟨k,hk,hJ⟩;refine (hs k fr Z om hJ).mono ?_;rintro ⟨o,fr',Z'⟩ hq;cases o with
 | normal=>exact ⟨n-(k+1),by have:=hq.1;omega,k+1,by have:=hq.1;omega,hq.2⟩
 | exit i=>exact hq
 | ret=>exact hq
 | pan v=>exact hq
end
def Gd:List Nat->Code->Code
 | [],c=>c
 | 0::l,.seq a _=>Gd l a
 | 1::l,.seq _ b=>Gd l b
 | 2::l,.block _ b=>Gd l b
 | 3::l,.loop b=>Gd l b
 | _::_,c=>c
theorem I7 {c:Code}:Gd [] c=c:=rfl
theorem U9 {l:List Nat}{a b:Code}:Gd (0::l) (.seq a b)=Gd l a:=rfl
theorem V0 {l:List Nat}{a b:Code}:Gd (1::l) (.seq a b)=Gd l b:=rfl
theorem V6 {l:List Nat}{i:Nat}{a:Code}:Gd (2::l) (.block i a)=Gd l a:=rfl
theorem V7 {l:List Nat}{a:Code}:Gd (3::l) (.loop a)=Gd l a:=rfl
noncomputable def mdC (l:List Nat):Code:=Gd l ((Tryz.f14).body.getD .skip)
theorem F9 {c d:Code}:(some c).getD d=c:=rfl
def Ox:List Value:=[str [],.slice none 0 0,.slice none 0 0,.slice none 0 0,.int .i64 0,.int .i64 0,str [],.int .i64 0,.int .i64 0,str [],.slice none 0 0,.slice none 0 0,.int .i64 0,.slice none 0 0,.int .i64 0,.int .i64 0,.int .i64 0,.int .i64 0,.int .i64 0,.int .i64 0]
structure MdS (Z:St) (q p:Nat) (v:Value) (l:List Int) (cs:List Value) (fr:Fr) (τ:St):Prop where
 g2:fr.get 2=some (.pointer (some ⟨Z.n,0,none⟩))
 g3:fr.get 3=some (.pointer (some ⟨q,0,none⟩))
 g4:fr.get 4=some (.pointer (some ⟨p,0,none⟩))
 E:Ext Z τ
 Q:GQ q v l τ
 r:τ.A5 p=some cs
 lt:p<τ.n
theorem qE {k:Nat}(h:k<3):∃ s,sub ([str [112,114,105,99,101],str [108,111,119],str [115,112,101,101,100],str [99,111,109,102,111,114,116],str [119,101,105,103,104,116]]:List Value) (k+2) 1=some [str s]/\LH.take (k+1)=LH.take k++[s]/\Y0 s=true/\s.length<=9:=by
 have:k=0\/k=1\/k=2:=om;rcases this with rfl|rfl|rfl
 ·exact ⟨_,rfl,rfl,by decide,by decide⟩
 ·exact ⟨_,rfl,rfl,by decide,by decide⟩
 ·exact ⟨_,rfl,rfl,by decide,by decide⟩
theorem P4.BJ {q p b:Nat}{Z Z':St}{cs:List Value}(h:P4 q p Z Z') (hb:Z.n<=b):P4 q p Z (Z'.upd b cs):=⟨h.n,fun c hc h1 h2=>by rw [J8,if_neg om,h.same c hc h1 h2]⟩
theorem aZ {L:List Lot}{x:Lot}(h1:0<L.length) (h2:L.length<=2):∃ yl cells,L[L.length-1]? =some yl/\(L.map Lot.row++[x.row]).flatten=cells/\sub cells (L.length*2) 1=some [.int .i64 x.id]/\sub cells ((L.length-1)*2) 1=some [.int .i64 yl.id]/\∀ z,M3 cells (L.length*2) [.int .i64 z]=some ((L.map Lot.row++[Lot.row ⟨z,x.D5⟩]).flatten):=by
 match L,h1,h2 with
 | [y],_,_=>exact ⟨y,_,rfl,rfl,rfl,rfl,fun z=>rfl⟩
 | [y1,y2],_,_=>exact ⟨y2,_,rfl,rfl,rfl,rfl,fun z=>rfl⟩
theorem ab {L:List Lot}{k:Nat}{yl:Lot}(h:Oj L) (hk:L.length=k+1) (hy:L[k]? =some yl):∀ z∈L,z.id<=yl.id:=by
 intro z hz;obtain ⟨i,hi⟩:=List.getElem?_of_mem hz;obtain ⟨hi1,hi2⟩:=List.getElem?_eq_some_iff.1 hi;obtain ⟨hy1,hy2⟩:=List.getElem?_eq_some_iff.1 hy;rcases Nat.lt_or_ge i k with hlt|hge
 ·have:=List.pairwise_iff_getElem.1 h i k (by rw [List.length_map];omega) (by rw [List.length_map];omega) hlt;rw [List.getElem_map,List.getElem_map,hi2,hy2] at this;omega
 ·obtain rfl:i=k:=om;rw [hi2] at hy2;rw [hy2];omega
theorem kj {x:Nat}(h:(x:Int)<2):∃ s,sub ([str [60,61],str [62,61]]:List Value) x 1=some [str s]/\([[60,61],[62,61]]:List By).contains s=true:=by
 have:x=0\/x=1:=om;rcases this with rfl|rfl
 ·exact ⟨_,rfl,by decide⟩
 ·exact ⟨_,rfl,by decide⟩
theorem lL {k:Nat}(h:k<3):∃ s,sub ([str [112,114,105,99,101],str [115,112,101,101,100],str [99,111,109,102,111,114,116]]:List Value) k 1=some [str s]/\JT.take (k+1)=JT.take k++[s]:=by
 have:k=0\/k=1\/k=2:=om;rcases this with rfl|rfl|rfl
 ·exact ⟨_,rfl,rfl⟩
 ·exact ⟨_,rfl,rfl⟩
 ·exact ⟨_,rfl,rfl⟩
theorem gw1 {a0 a1 a2 a3 a4 a5 a6 a7 a8 a9 a10 a11 a12 a13 a14 a15 a16 a17 a18 a19 z:Value}:M3 [a0,a1,a2,a3,a4,a5,a6,a7,a8,a9,a10,a11,a12,a13,a14,a15,a16,a17,a18,a19] 1 [z]=some [a0,z,a2,a3,a4,a5,a6,a7,a8,a9,a10,a11,a12,a13,a14,a15,a16,a17,a18,a19]:=rfl
theorem gw2 {a0 a1 a2 a3 a4 a5 a6 a7 a8 a9 a10 a11 a12 a13 a14 a15 a16 a17 a18 a19 z:Value}:M3 [a0,a1,a2,a3,a4,a5,a6,a7,a8,a9,a10,a11,a12,a13,a14,a15,a16,a17,a18,a19] 2 [z]=some [a0,a1,z,a3,a4,a5,a6,a7,a8,a9,a10,a11,a12,a13,a14,a15,a16,a17,a18,a19]:=rfl
theorem gw3 {a0 a1 a2 a3 a4 a5 a6 a7 a8 a9 a10 a11 a12 a13 a14 a15 a16 a17 a18 a19 z:Value}:M3 [a0,a1,a2,a3,a4,a5,a6,a7,a8,a9,a10,a11,a12,a13,a14,a15,a16,a17,a18,a19] 3 [z]=some [a0,a1,a2,z,a4,a5,a6,a7,a8,a9,a10,a11,a12,a13,a14,a15,a16,a17,a18,a19]:=rfl
theorem xl {a0 a1 a2 a3 a4 a5 a6 a7 a8 a9 a10 a11 a12 a13 a14 a15 a16 a17 a18 a19 z:Value}:M3 [a0,a1,a2,a3,a4,a5,a6,a7,a8,a9,a10,a11,a12,a13,a14,a15,a16,a17,a18,a19] 11 [z]=some [a0,a1,a2,a3,a4,a5,a6,a7,a8,a9,a10,z,a12,a13,a14,a15,a16,a17,a18,a19]:=rfl
theorem yg {a0 a1 a2 a3 a4 a5 a6 a7 a8 a9 a10 a11 a12 a13 a14 a15 a16 a17 a18 a19 z:Value}:M3 [a0,a1,a2,a3,a4,a5,a6,a7,a8,a9,a10,a11,a12,a13,a14,a15,a16,a17,a18,a19] 13 [z]=some [a0,a1,a2,a3,a4,a5,a6,a7,a8,a9,a10,a11,a12,z,a14,a15,a16,a17,a18,a19]:=rfl
theorem AI2 {a0 a1 a2 a3 a4 a5 a6 a7 a8 a9 a10 a11 a12 a13 a14 a15 a16 a17 a18 a19 z:Value}:M3 [a0,a1,a2,a3,a4,a5,a6,a7,a8,a9,a10,a11,a12,a13,a14,a15,a16,a17,a18,a19] 15 [z]=some [a0,a1,a2,a3,a4,a5,a6,a7,a8,a9,a10,a11,a12,a13,a14,z,a16,a17,a18,a19]:=rfl
theorem AI3 {a0 a1 a2 a3 a4 a5 a6 a7 a8 a9 a10 a11 a12 a13 a14 a15 a16 a17 a18 a19 z:Value}:M3 [a0,a1,a2,a3,a4,a5,a6,a7,a8,a9,a10,a11,a12,a13,a14,a15,a16,a17,a18,a19] 16 [z]=some [a0,a1,a2,a3,a4,a5,a6,a7,a8,a9,a10,a11,a12,a13,a14,a15,z,a17,a18,a19]:=rfl
theorem AI4 {a0 a1 a2 a3 a4 a5 a6 a7 a8 a9 a10 a11 a12 a13 a14 a15 a16 a17 a18 a19 z:Value}:M3 [a0,a1,a2,a3,a4,a5,a6,a7,a8,a9,a10,a11,a12,a13,a14,a15,a16,a17,a18,a19] 17 [z]=some [a0,a1,a2,a3,a4,a5,a6,a7,a8,a9,a10,a11,a12,a13,a14,a15,a16,z,a18,a19]:=rfl
theorem AI5 {a0 a1 a2 a3 a4 a5 a6 a7 a8 a9 a10 a11 a12 a13 a14 a15 a16 a17 a18 a19 z:Value}:M3 [a0,a1,a2,a3,a4,a5,a6,a7,a8,a9,a10,a11,a12,a13,a14,a15,a16,a17,a18,a19] 18 [z]=some [a0,a1,a2,a3,a4,a5,a6,a7,a8,a9,a10,a11,a12,a13,a14,a15,a16,a17,z,a19]:=rfl
theorem AI6 {a0 a1 a2 a3 a4 a5 a6 a7 a8 a9 a10 a11 a12 a13 a14 a15 a16 a17 a18 a19 z:Value}:M3 [a0,a1,a2,a3,a4,a5,a6,a7,a8,a9,a10,a11,a12,a13,a14,a15,a16,a17,a18,a19] 19 [z]=some [a0,a1,a2,a3,a4,a5,a6,a7,a8,a9,a10,a11,a12,a13,a14,a15,a16,a17,a18,z]:=rfl
theorem gw6 {a0 a1 a2 a3 a4 a5 a6 a7 a8 a9 a10 a11 a12 a13 a14 a15 a16 a17 a18 a19 z0 z1 z2 z3 z4:Value}:M3 [a0,a1,a2,a3,a4,a5,a6,a7,a8,a9,a10,a11,a12,a13,a14,a15,a16,a17,a18,a19] 6 [z0,z1,z2,z3,z4]=some [a0,a1,a2,a3,a4,a5,z0,z1,z2,z3,z4,a11,a12,a13,a14,a15,a16,a17,a18,a19]:=rfl
end Go.Proofs.T
namespace Go.Proofs.T
open Go Go.Ab
open Nat (reduceMul reduceEqDiff reduceAdd)
theorem lp {Z τ0:St}{fr0:Fr}{q p:Nat}{v:Value}{l:List Int}{H0:List Nat}{a0 a2 a3 a4 a5 a6 a7 a8 a9 a10 a11 a12 a13 a14 a15 a16 a17 a18 a19:Value}(hl:Y8 (H6 Z H0) v l) (hll:l.length<=9223372036854775807) (hq:Z.n<=q) (hqp:q<p) (h0:MdS Z q p v l [a0,.slice none 0 0,a2,a3,a4,a5,a6,a7,a8,a9,a10,a11,a12,a13,a14,a15,a16,a17,a18,a19] fr0 τ0) (gc0:fr0.get 6=some (.int .i64 0)){nl:Nat}(n3:nl<=3) (gn:fr0.get 5=some (.int .i64 (nl:Nat))) :
  Ev (lim Tryz.prog HS none (.loop (mdC [1,1,1,1,0,1,2,3])) fr0 τ0) (fun r=>∃ fr τ u,∃ L:List Lot,r=⟨.exit 0,fr,τ⟩/\MdS Z q p v l [a0,u,a2,a3,a4,a5,a6,a7,a8,a9,a10,a11,a12,a13,a14,a15,a16,a17,a18,a19] fr τ/\P4 q p τ0 τ/\OL τ0.n τ 2 u (L.map Lot.row)/\L.length=nl/\(Oj L/\∀ y∈L,1<=y.id/\y.id<=1+2*(L.length:Int)/\0<=y.D5/\y.D5<=199)) ⟨⟩:=by
 have hp0:=h0.lt
 refine L8 nl (fun k fr τ=>fr.get 6=some (.int .i64 (k:Nat))/\fr.get 5=some (.int .i64 (nl:Nat))/\P4 q p τ0 τ/\∃ u,∃ L:List Lot,MdS Z q p v l [a0,u,a2,a3,a4,a5,a6,a7,a8,a9,a10,a11,a12,a13,a14,a15,a16,a17,a18,a19] fr τ/\OL τ0.n τ 2 u (L.map Lot.row)/\L.length=k/\(Oj L/\∀ y∈L,1<=y.id/\y.id<=1+2*(L.length:Int)/\0<=y.D5/\y.D5<=199))
  (fun r=>∃ fr τ u,∃ L:List Lot,r=⟨.exit 0,fr,τ⟩/\MdS Z q p v l [a0,u,a2,a3,a4,a5,a6,a7,a8,a9,a10,a11,a12,a13,a14,a15,a16,a17,a18,a19] fr τ/\P4 q p τ0 τ/\OL τ0.n τ 2 u (L.map Lot.row)/\L.length=nl/\(Oj L/\∀ y∈L,1<=y.id/\y.id<=1+2*(L.length:Int)/\0<=y.D5/\y.D5<=199)) ?_ ?_ ?_ (fun r h=>h)
 ·exact ⟨gc0,gn,.refl,_,[],h0,OL.nil,rfl,cl,fun y hy=>by cases hy⟩
 ·rintro k fr τ hk ⟨gc,g5,hX,u,L,⟨g2,g3,g4,hE,hQ,rp,hp⟩,ho,hL,hR,hB⟩;have hc:=O9 hk;have nX:=hX.n;have rr:=A8 rp;have bv:K8 u≠some p:=fun hb=>by have:=(ho.blk hb).1;omega
  simp only [mdC,Tryz.f14,F9,I7,U9,V0,V6,V7];refine gU1 (a17N @A1 @N7 @T5 @R6 @K2 @R7 @Q8 @J0 @J5 @F4 @gc @g2 @g3 @g4 @g5 @hc @rr) ?_;refine (nxg (n:=2) hl hll hE hq om hQ om om).mono ?_;rintro r ⟨x,Z5,rfl,hx,Ex,Qx,Xx⟩;have nx:=Xx.n;have rp:Z5.A5 p=some _:=(Xx.A5 om om).trans rp;obtain ⟨i,hi,i0,i1⟩:∃ i:Int,(k:Int)*(1+(x:Int))=i/\0<=i/\i<=2*(k:Int):=by
   refine ⟨_,rfl,?_,?_⟩
   ·exact Int.mul_nonneg om om
   ·rcases (by omega:x=0\/x=1) with rfl|rfl
    ·show (k:Int)*1<=_;omega
    ·show (k:Int)*2<=_;omega
  refine gU1 (a16N @A1 @N7 @T5 @R6 @K2 @R7 @Q8 @J0 @J5 @F4 @gc @g2 @g3 @g4 @g5 @hi) ?_;refine (nxg (n:=200) hl hll Ex hq om Qx om om).mono ?_;rintro r ⟨y,Z6,rfl,hy,Ey,Qy,Xy⟩;have ny:=Xy.n;have rp:Z6.A5 p=some _:=(Xy.A5 om om).trans rp;have rp':=rp;refine gU1 (a16N @A1 @N7 @T5 @R6 @K2 @R7 @Q8 @J0 @J5 @F4 @gc @g2 @g3 @g4 @g5 @hi) ?_;have hoN:OL τ0.n (Z6.new [.int .i64 (1+i),.int .i64 (y:Int)]) 2 u (L.map Lot.row):=OL.ext (OL.R8 (OL.R8 ho Xx om) Xy om) (.new _ _);have hXN:P4 q p τ0 (Z6.new [.int .i64 (1+i),.int .i64 (y:Int)]):=((hX.trans (.xq Xx)).trans (.xq Xy)).trans (.of (Ext.AF (.refl _) _));refine I0 (row:=Lot.row ⟨1+i,(y:Int)⟩) (fun _ _ _ _=>T1) hoN (D4 (Nat.le_refl _) (Nat.le_refl _)) (D6 (by simp [Lot.row]) (by simp)) (by rw [List.length_map];omega) (by simp;omega) ?_;rintro u' Z8 ho' hA -;have n8:=hA.n;simp only [N3] at n8;obtain ⟨b',sp,rfl,hsp,b1,b2,b3⟩:∃ b' sp,u'= .slice (some ⟨b',0,sp⟩) (k+1) (k+1)/\(sp=none\/sp=some 2)/\τ0.n<=b'/\b'<Z8.n/\Z8.A5 b'=some ((L.map Lot.row++[Lot.row ⟨1+i,(y:Int)⟩]).flatten):=by
   obtain ⟨hr',⟨hv',hz⟩|⟨b',sp,hv',hs',b1,b2,b3⟩⟩:=ho'
   ·simp at hz
   ·exact ⟨b',sp,by rw [hv'];simp [hL],hs',b1,b2,b3⟩
  have bne:b'≠p:=om;have r8:Z8.A5 p=some _:=(A6 (hA.same p (by simp;omega) bv)).trans ((F5 (by first|omega|(simp;omega))).trans rp');have qN:GQ q v l (Z6.new [.int .i64 (1+i),.int .i64 (y:Int)]):=Qy.ext (.new _ _) om;have hMf:P4 q p τ0 Z8:=P4.app hA hXN hoN (Nat.le_refl _);have hE':Ext Z Z8:=hMf.ext h0.E hq om;have qF:GQ q v l Z8:=qN.app hA hoN (by first|omega|(simp;omega)) om;refine gU1 (a16N @N7 @T5 @R6 @K2 @R7 @Q8 @J0 @J5 @F4 @gw1 @g2 @g3 @g4 @g5 @gc @r8) ?_;refine H3.intro (by (repeat first|simp (disch:=omega) only [B9,C9,C0,asx (Ext.refl _),P0 (b:=p) Xx om,P0 (b:=p) Xy om]|rw [D0 (by kernel_rfl)]);first|done|rfl) ?_;rcases Nat.eq_zero_or_pos k with hk0|hk0
  ·have hd:decide ((0:Int)<(k:Int))=false:=decide_eq_false om;refine gU1 (a18N @N7 @T5 @R6 @K2 @R7 @Q8 @J0 @J5 @F4 @gw1 @g2 @g3 @g4 @g5 @gc @hd @J1 @J2) ?_;obtain rfl:L=[]:=List.eq_nil_of_length_eq_zero om;refine ⟨fR,fR1 g5,hMf.upd,_,[⟨1+i,(y:Int)⟩],⟨fR1 g2,fR1 g3,fR1 g4,hE'.upd om _,qF.x (C5.refl.upd _) om om,cL,by simp;omega⟩,OL.upd ho' om,by simp;omega,?_,?_⟩
   ·exact List.pairwise_singleton _ _
   ·intro z hz;rw [List.mem_singleton] at hz;subst hz;exact ⟨by show 1<=1+i;omega,by show 1+i<=1+2*((1:Nat):Int);omega,by show (0:Int)<=(y:Int);omega,by show (y:Int)<=199;omega⟩
  ·obtain ⟨j,rfl⟩:∃ j,k=j+1:=⟨k-1,om⟩
   have hd:decide ((0:Int)<((j+1:Nat):Int))=true:=decide_eq_true om;have e1:((j+1:Nat):Int)-1=(j:Int):=om;obtain ⟨yl,cells,hyl,hce,s1,s2,s3⟩:=aZ (L:=L) (x:=⟨1+i,(y:Int)⟩) om om;rw [hL,Nat.add_sub_cancel] at hyl s2;rw [hL] at s1 s3;rw [hce] at b3;have b3r:=A8 b3;have hyb:=hB yl (List.mem_of_getElem? hyl);have hRs:=ab hR (k:=j) om hyl;cases oP:decide (yl.id<1+i) with
   | true =>
     refine gU1 (a23N @N7 @T5 @R6 @K2 @R7 @Q8 @J0 @J5 @F4 @gw1 @g2 @g3 @g4 @g5 @gc @hd @e1 @b3r @s1 @s2 @oP @J1 @J2) ?_;refine ⟨fR,fR1 g5,hMf.upd,_,L++[⟨1+i,(y:Int)⟩],⟨fR1 g2,fR1 g3,fR1 g4,hE'.upd om _,qF.x (C5.refl.upd _) om om,cL,by simp;omega⟩,?_,by simp [hL],?_,?_⟩
     ·rw [List.map_append];exact OL.upd ho' om
     ·exact PS hR fun z hz=>Int.lt_of_le_of_lt (hRs z hz) (of_decide_eq_true oP)
     ·intro z hz;rw [List.length_append,hL];simp only [List.length_cons,List.length_nil];rcases List.mem_append.1 hz with hz|hz
      ·have:=hB z hz;rw [hL] at this;omega
      ·rw [List.mem_singleton] at hz;subst hz;dsimp only;omega
   | false =>
     have hle:=of_decide_eq_false oP;rw [hL] at hyb;refine gU1 (a25N @N7 @T5 @R6 @K2 @R7 @Q8 @J0 @J5 @F4 @gw1 @g2 @g3 @g4 @g5 @gc @hd @e1 @b3 @b3r @s1 @s2 @s3 @oP @J1 @J2) ?_;refine H3.intro (by (repeat first|simp (disch:=omega) only [B9,C9,C0,asx (Ext.refl _)]|rw [D0 (by kernel_rfl)]);first|done|rfl) ?_;refine gU1 (a15N @N7 @T5 @R6 @K2 @R7 @Q8 @J0 @J5 @F4 @gw1 @g2 @g3 @g4 @g5 @gc) ?_;refine ⟨fR,fR1 g5,P4.BJ hMf.upd b1,_,L++[⟨yl.id+1,(y:Int)⟩],⟨fR1 g2,fR1 g3,fR1 g4,(hE'.upd om _).upd om _,(qF.x (C5.refl.upd _) om om).x (C5.refl.upd _) (by simp;omega) om,cL,by simp;omega⟩,?_,by simp [hL],?_,?_⟩
     ·refine ⟨fun r hr=>?_,.inr ⟨b',sp,by simp [hL],hsp,b1,by simp;omega,by rw [List.map_append];exact C8⟩⟩;rw [List.map_append] at hr;rcases List.mem_append.1 hr with hr|hr
      ·obtain ⟨x,-,rfl⟩:=List.mem_map.1 hr;rfl
      ·obtain ⟨x,-,rfl⟩:=List.mem_map.1 hr;rfl
     ·exact PS hR fun z hz=>Int.lt_add_one_of_le (hRs z hz)
     ·intro z hz;rw [List.length_append,hL];simp only [List.length_cons,List.length_nil];rcases List.mem_append.1 hz with hz|hz
      ·have:=hB z hz;rw [hL] at this;omega
      ·rw [List.mem_singleton] at hz;subst hz;dsimp only;omega
 ·clear gn gc0;rintro fr τ ⟨gc,g5,hX,u,L,⟨g2,g3,g4,hE,hQ,rp,hp⟩,ho,hL,hR,hB⟩;simp only [mdC,Tryz.f14,F9,I7,U9,V0,V6,V7];refine gU1 (a5N @A1 @A7 @gc @g5 @Bo) ?_;exact ⟨_,_,u,L,rfl,⟨fR1 g2,fR1 g3,fR1 g4,hE,hQ,rp,hp⟩,hX,ho,hL,hR,hB⟩
theorem ct {Z τ0:St}{fr0:Fr}{q p:Nat}{v:Value}{l:List Int}{H0:List Nat}{a0 a1 a3 a4 a5 a6 a7 a8 a9 a10 a11 a12 a13 a14 a15 a16 a17 a18 a19:Value}(hl:Y8 (H6 Z H0) v l) (hll:l.length<=9223372036854775807) (hq:Z.n<=q) (hqp:q<p) (h0:MdS Z q p v l [a0,a1,.slice none 0 0,a3,a4,a5,a6,a7,a8,a9,a10,a11,a12,a13,a14,a15,a16,a17,a18,a19] fr0 τ0) (gc0:fr0.get 7=some (.int .i64 0)) :
  Ev (lim Tryz.prog HS none (.loop (mdC [1,1,1,1,1,0,1,2,3])) fr0 τ0) (fun r=>∃ fr τ u,∃ L:List R0,r=⟨.exit 2,fr,τ⟩/\MdS Z q p v l [a0,a1,u,a3,a4,a5,a6,a7,a8,a9,a10,a11,a12,a13,a14,a15,a16,a17,a18,a19] fr τ/\P4 q p τ0 τ/\OL τ0.n τ 5 u (L.map R0.row)/\L.length<=3/\L.map R0.name=LH.take L.length/\∀ c∈L,(c.kind=1\/c.kind=2)/\0<=c.low/\c.low<=3/\0<=c.high/\c.high<=8) ⟨⟩:=by
 have hp0:=h0.lt
 refine MK 3 (fun k fr τ=>fr.get 7=some (.int .i64 (k:Nat))/\P4 q p τ0 τ/\∃ u,∃ L:List R0,MdS Z q p v l [a0,a1,u,a3,a4,a5,a6,a7,a8,a9,a10,a11,a12,a13,a14,a15,a16,a17,a18,a19] fr τ/\OL τ0.n τ 5 u (L.map R0.row)/\L.length=k/\L.map R0.name=LH.take L.length/\∀ c∈L,(c.kind=1\/c.kind=2)/\0<=c.low/\c.low<=3/\0<=c.high/\c.high<=8)
  (fun r=>∃ fr τ u,∃ L:List R0,r=⟨.exit 2,fr,τ⟩/\MdS Z q p v l [a0,a1,u,a3,a4,a5,a6,a7,a8,a9,a10,a11,a12,a13,a14,a15,a16,a17,a18,a19] fr τ/\P4 q p τ0 τ/\OL τ0.n τ 5 u (L.map R0.row)/\L.length<=3/\L.map R0.name=LH.take L.length/\∀ c∈L,(c.kind=1\/c.kind=2)/\0<=c.low/\c.low<=3/\0<=c.high/\c.high<=8) ?_ ?_ (fun r h=>h)
 ·exact ⟨gc0,.refl,_,[],h0,OL.nil,rfl,rfl,fun c hc=>by cases hc⟩
 ·rintro k fr τ hk ⟨gc,hX,u,L,⟨g2,g3,g4,hE,hQ,rp,hp⟩,ho,hL,hP⟩;have nX:=hX.n;have bv:K8 u≠some p:=fun hb=>by have:=(ho.blk hb).1;omega
  simp only [mdC,Tryz.f14,F9,I7,U9,V0,V6,V7];refine gU1 (a14N @A1 @N7 @T1 @R6 @K2 @R7 @Q8 @J0 @J5 @F4 @gc @g2 @g3 @g4) ?_;refine (nxg (n:=4) hl hll hE hq (by first|omega|(simp;omega)) hQ om om).mono ?_;rintro r ⟨x0,Z1,rfl,hx0,Ex0,Qx0,Xx0⟩;have nx0:=Xx0.n
  try simp only [N3] at nx0
  have rp:Z1.A5 p=some _:=(Xx0.A5 (by first|omega|(simp;omega)) om).trans rp;have rr:=A8 rp;rcases Nat.lt_or_ge x0 (k+1) with hkx|hkx
  ·have hc:decide (k<x0)=false:=decide_eq_false om;refine gU1 (a5N @A1 @A7 @gc @hc @ML) ?_;exact ⟨_,_,u,L,rfl,⟨fR1 g2,fR1 g3,fR1 g4,Ex0,Qx0,rp,om⟩,hX.trans (.xq Xx0),OL.R8 ho Xx0 om,om,hP⟩
  have hc:=O9 hkx;refine gU1 (a16N @A1 @N7 @T1 @R6 @K2 @R7 @Q8 @J0 @J5 @F4 @gc @g2 @g3 @g4 @hc @rr) ?_;refine (nxg (n:=4) hl hll Ex0 hq (by first|omega|(simp;omega)) Qx0 om om).mono ?_;rintro r ⟨lw,Z2,rfl,hlw,Elw,Qlw,Xlw⟩;have nlw:=Xlw.n
  try simp only [N3] at nlw
  have rp:Z2.A5 p=some _:=(Xlw.A5 (by first|omega|(simp;omega)) om).trans rp;have rr:=A8 rp;refine gU1 (a15N @A1 @N7 @T1 @R6 @K2 @R7 @Q8 @J0 @J5 @F4 @gc @g2 @g3 @g4 @rr) ?_;refine Mv.mono ?_;rintro r ⟨bn,Z3,rfl,F3,bn1,bn2,rn⟩;have n3:=F3.n;have rp:Z3.A5 p=some _:=(F3.A5 om).trans rp;have rr:=A8 rp;have rnr:=A8 rn;obtain ⟨j,hj,hjk⟩:∃ j:Nat,2+(k:Int)=(j:Int)/\j=k+2:=⟨k+2,om,rfl⟩
  obtain ⟨nm,hnm,htk,hnw,hn9⟩:=qE (show k<3 by omega);rw [<- hjk] at hnm;refine gU1 (a17N @A1 @N7 @T1 @R6 @K2 @R7 @Q8 @J0 @J5 @F4 @gc @g2 @g3 @g4 @hj @rnr @hnm) ?_;refine (nxg (n:=2) hl hll (Elw.trans F3) hq (by first|omega|(simp;omega)) (Qlw.ext F3 om) om om).mono ?_;rintro r ⟨y,Z4,rfl,hy,Ey,Qy,Xy⟩;have ny:=Xy.n
  try simp only [N3] at ny
  have rp:Z4.A5 p=some _:=(Xy.A5 (by first|omega|(simp;omega)) om).trans rp;have rr:=A8 rp;refine gU1 (a14N @A1 @N7 @T1 @R6 @K2 @R7 @Q8 @J0 @J5 @F4 @gc @g2 @g3 @g4) ?_;refine (nxg (n:=6) hl hll Ey hq (by first|omega|(simp;omega)) Qy om om).mono ?_;rintro r ⟨z,Z5,rfl,hz,Ez,Qz,Xz⟩;have nz:=Xz.n
  try simp only [N3] at nz
  have rp:Z5.A5 p=some _:=(Xz.A5 (by first|omega|(simp;omega)) om).trans rp;have rr:=A8 rp;refine gU1 (a14N @A1 @N7 @T1 @R6 @K2 @R7 @Q8 @J0 @J5 @F4 @gc @g2 @g3 @g4) ?_;refine (nxg (n:=3) hl hll Ez hq (by first|omega|(simp;omega)) Qz om om).mono ?_;rintro r ⟨w,Z6,rfl,hw,Ew,Qw,Xw⟩;have nw:=Xw.n
  try simp only [N3] at nw
  have rp:Z6.A5 p=some _:=(Xw.A5 (by first|omega|(simp;omega)) om).trans rp;have rr:=A8 rp;refine gU1 (a15N @A1 @N7 @T1 @R6 @K2 @R7 @Q8 @J0 @J5 @F4 @gc @g2 @g3 @g4 @rr) ?_;have hoN:OL τ0.n (Z6.new [str nm,.int .i64 (1+(y:Int)),.int .i64 (lw:Int),.int .i64 ((lw:Int)+(z:Int)),.bool (decide ((w:Int)=0))]) 5 u (L.map R0.row):=OL.ext (OL.R8 (OL.R8 (OL.R8 (OL.ext (OL.R8 (OL.R8 ho Xx0 om) Xlw om) F3) Xy om) Xz om) Xw om) (.new _ _);have hXN:P4 q p τ0 (Z6.new [str nm,.int .i64 (1+(y:Int)),.int .i64 (lw:Int),.int .i64 ((lw:Int)+(z:Int)),.bool (decide ((w:Int)=0))]):=((((((hX.trans (.xq Xx0)).trans (.xq Xlw)).trans (.of F3)).trans (.xq Xy)).trans (.xq Xz)).trans (.xq Xw)).trans (.of (Ext.AF (.refl _) _));refine I0 (row:=(R0.row) ⟨nm,1+(y:Int),(lw:Int),(lw:Int)+(z:Int),decide ((w:Int)=0)⟩) (fun _ _ _ _=>T5) hoN (D4 (Nat.le_refl _) (Nat.le_refl _)) (D6 (by simp [R0.row,Req.row]) (by simp)) (by rw [List.length_map];omega) (by simp;omega) ?_;rintro u' Z8 ho' hA -;obtain ⟨ua,n1,rfl⟩:∃ ua n,u'= .slice ua n n:=by obtain ⟨a,h⟩:=OL.shape ho';exact ⟨a,_,h⟩
  have r8:Z8.A5 p=some _:=(A6 (hA.same p (by simp;omega) bv)).trans ((F5 (by first|omega|(simp;omega))).trans rp);have qN:GQ q v l (Z6.new [str nm,.int .i64 (1+(y:Int)),.int .i64 (lw:Int),.int .i64 ((lw:Int)+(z:Int)),.bool (decide ((w:Int)=0))]):=Qw.ext (.new _ _) (by first|omega|(simp;omega));have n8:=hA.n;simp only [N3] at n8;refine gU1 (a15N @N7 @T1 @R6 @K2 @R7 @Q8 @J0 @J5 @F4 @gw2 @g2 @g3 @g4 @gc @r8) ?_;refine H3.intro (by (repeat first|simp (disch:=omega) only [B9,C9,C0,asx (Ext.refl _),asx F3,P0 (b:=p) Xy om,P0 (b:=p) Xz om,P0 (b:=p) Xw om,P0 (b:=bn) Xy om,P0 (b:=bn) Xz om,P0 (b:=bn) Xw om]|rw [D0 (by kernel_rfl)]);first|done|rfl) ?_;refine gU1 (a15N @N7 @T1 @R6 @K2 @R7 @Q8 @J0 @J5 @F4 @gw2 @g2 @g3 @g4 @gc @HR) ?_;have hM8:P4 q p τ0 Z8:=P4.app hA hXN hoN (Nat.le_refl _);refine ⟨om,fR,hM8.upd,_,L++[⟨nm,1+(y:Int),(lw:Int),(lw:Int)+(z:Int),decide ((w:Int)=0)⟩],⟨fR1 g2,fR1 g3,fR1 g4,(hM8.ext h0.E hq om).upd om _,(qN.app hA hoN (by first|omega|(simp;omega)) om).x (C5.refl.upd _) om om,cL,by simp;omega⟩,?_,by simp [hL],by rw [List.map_append,hP.1,List.length_append,hL];exact htk.symm,?_⟩
  rotate_left
  ·intro c hc;rcases List.mem_append.1 hc with hc|hc
   ·exact hP.2 c hc
   ·rw [List.mem_singleton] at hc;subst hc;exact ⟨by show 1+(y:Int)=1\/1+(y:Int)=2;omega,by show (0:Int)<=(lw:Int);omega,by show (lw:Int)<=3;omega,by show (0:Int)<=(lw:Int)+(z:Int);omega,by show (lw:Int)+(z:Int)<=8;omega⟩
  ·rw [List.map_append];exact OL.upd ho' om
theorem ki {Z τ0:St}{fr0:Fr}{q p:Nat}{v:Value}{l:List Int}{H0:List Nat}{a0 a1 a2 a4 a5 a6 a7 a8 a9 a10 a11 a12 a13 a14 a15 a16 a17 a18 a19:Value}(hl:Y8 (H6 Z H0) v l) (hll:l.length<=9223372036854775807) (hq:Z.n<=q) (hqp:q<p) (h0:MdS Z q p v l [a0,a1,a2,.slice none 0 0,a4,a5,a6,a7,a8,a9,a10,a11,a12,a13,a14,a15,a16,a17,a18,a19] fr0 τ0) (gc0:fr0.get 9=some (.int .i64 0)) :
  Ev (lim Tryz.prog HS none (.loop (mdC [1,1,1,1,1,1,0,1,2,3])) fr0 τ0) (fun r=>∃ fr τ u,∃ L:List Req,r=⟨.exit 4,fr,τ⟩/\MdS Z q p v l [a0,a1,a2,u,a4,a5,a6,a7,a8,a9,a10,a11,a12,a13,a14,a15,a16,a17,a18,a19] fr τ/\P4 q p τ0 τ/\OL τ0.n τ 3 u (L.map Req.row)/\L.length<=2/\∀ x∈L,(Y0 x.name=true/\x.name.length<=9)/\([[60,61],[62,61]]:List By).contains x.rel=true/\0<=x.value/\x.value<=7) ⟨⟩:=by
 have hp0:=h0.lt
 refine MK 2 (fun k fr τ=>fr.get 9=some (.int .i64 (k:Nat))/\P4 q p τ0 τ/\∃ u,∃ L:List Req,MdS Z q p v l [a0,a1,a2,u,a4,a5,a6,a7,a8,a9,a10,a11,a12,a13,a14,a15,a16,a17,a18,a19] fr τ/\OL τ0.n τ 3 u (L.map Req.row)/\L.length=k/\∀ x∈L,(Y0 x.name=true/\x.name.length<=9)/\([[60,61],[62,61]]:List By).contains x.rel=true/\0<=x.value/\x.value<=7)
  (fun r=>∃ fr τ u,∃ L:List Req,r=⟨.exit 4,fr,τ⟩/\MdS Z q p v l [a0,a1,a2,u,a4,a5,a6,a7,a8,a9,a10,a11,a12,a13,a14,a15,a16,a17,a18,a19] fr τ/\P4 q p τ0 τ/\OL τ0.n τ 3 u (L.map Req.row)/\L.length<=2/\∀ x∈L,(Y0 x.name=true/\x.name.length<=9)/\([[60,61],[62,61]]:List By).contains x.rel=true/\0<=x.value/\x.value<=7) ?_ ?_ (fun r h=>h)
 ·exact ⟨gc0,.refl,_,[],h0,OL.nil,rfl,fun c hc=>by cases hc⟩
 ·rintro k fr τ hk ⟨gc,hX,u,L,⟨g2,g3,g4,hE,hQ,rp,hp⟩,ho,hL,hP⟩;have nX:=hX.n;have bv:K8 u≠some p:=fun hb=>by have:=(ho.blk hb).1;omega
  simp only [mdC,Tryz.f14,F9,I7,U9,V0,V6,V7];refine gU1 (a14N @A1 @N7 @T1 @T5 @K2 @R7 @Q8 @J0 @J5 @F4 @gc @g2 @g3 @g4) ?_;refine (nxg (n:=3) hl hll hE hq (by first|omega|(simp;omega)) hQ om om).mono ?_;rintro r ⟨x0,Z1,rfl,hx0,Ex0,Qx0,Xx0⟩;have nx0:=Xx0.n
  try simp only [N3] at nx0
  have rp:Z1.A5 p=some _:=(Xx0.A5 (by first|omega|(simp;omega)) om).trans rp;have rr:=A8 rp;rcases Nat.lt_or_ge x0 (k+1) with hkx|hkx
  ·have hc:decide (k<x0)=false:=decide_eq_false om;refine gU1 (a5N @A1 @A7 @gc @hc @ML) ?_;exact ⟨_,_,u,L,rfl,⟨fR1 g2,fR1 g3,fR1 g4,Ex0,Qx0,rp,om⟩,hX.trans (.xq Xx0),OL.R8 ho Xx0 om,om,hP⟩
  have hc:=O9 hkx;refine gU1 (a16N @A1 @N7 @T1 @T5 @K2 @R7 @Q8 @J0 @J5 @F4 @gc @g2 @g3 @g4 @hc @rr) ?_;refine Mv.mono ?_;rintro r ⟨bn,Z2,rfl,F2,bn1,bn2,rn⟩;have n2:=F2.n;have rp:Z2.A5 p=some _:=(F2.A5 om).trans rp;have rr:=A8 rp;refine gU1 (a14N @A1 @N7 @T1 @T5 @K2 @R7 @Q8 @J0 @J5 @F4 @gc @g2 @g3 @g4) ?_;refine (nxg (n:=3) hl hll (Ex0.trans F2) hq (by first|omega|(simp;omega)) (Qx0.ext F2 om) om om).mono ?_;rintro r ⟨x,Z3,rfl,hx,Ex,Qx,Xx⟩;have nx:=Xx.n
  try simp only [N3] at nx
  have rp:Z3.A5 p=some _:=(Xx.A5 (by first|omega|(simp;omega)) om).trans rp;have rr:=A8 rp;have rnr:Z3.row bn=some _:=(Xx.row om om).trans (A8 rn);obtain ⟨j,hj,hjk⟩:∃ j:Nat,2+(x:Int)=(j:Int)/\j=x+2:=⟨x+2,om,rfl⟩
  obtain ⟨nm,hnm,-,hnw,hn9⟩:=qE (show x<3 by omega);rw [<- hjk] at hnm;refine gU1 (a17N @A1 @N7 @T1 @T5 @K2 @R7 @Q8 @J0 @J5 @F4 @gc @g2 @g3 @g4 @hj @rnr @hnm) ?_;have rp:(Z3.new [str [60,61],str [62,61]]).A5 p=some _:=(F5 om).trans rp;refine (nxg (n:=2) hl hll (Ex.trans (.new _ _)) hq (by first|omega|(simp;omega)) (Qx.ext (.new _ _) om) om om).mono ?_;rintro r ⟨y,Z4,rfl,hy,Ey,Qy,Xy⟩;have ny:=Xy.n
  try simp only [N3] at ny
  have rp:Z4.A5 p=some _:=(Xy.A5 (by first|omega|(simp;omega)) om).trans rp;have rr:=A8 rp;have AG7:Z4.row Z3.n=some [str [60,61],str [62,61]]:=by rw [Xy.row (by simp) om];exact cL
  obtain ⟨rl,hrl,rJ⟩:=kj hy;refine gU1 (a16N @A1 @N7 @T1 @T5 @K2 @R7 @Q8 @J0 @J5 @F4 @gc @g2 @g3 @g4 @AG7 @hrl) ?_;refine (nxg (n:=8) hl hll Ey hq (by first|omega|(simp;omega)) Qy om om).mono ?_;rintro r ⟨z,Z5,rfl,hz,Ez,Qz,Xz⟩;have nz:=Xz.n
  try simp only [N3] at nz
  have rp:Z5.A5 p=some _:=(Xz.A5 (by first|omega|(simp;omega)) om).trans rp;have rr:=A8 rp;refine gU1 (a15N @A1 @N7 @T1 @T5 @K2 @R7 @Q8 @J0 @J5 @F4 @gc @g2 @g3 @g4 @rr) ?_;have Xn:C5 q Z3 (Z3.new [str [60,61],str [62,61]]):= .of (.new _ _);have hoN:OL τ0.n (Z5.new [str nm,str rl,.int .i64 (z:Int)]) 3 u (L.map Req.row):=OL.ext (OL.R8 (OL.R8 (OL.R8 (OL.R8 (OL.ext (OL.R8 ho Xx0 om) F2) Xx om) Xn om) Xy om) Xz om) (.new _ _);have hXN:P4 q p τ0 (Z5.new [str nm,str rl,.int .i64 (z:Int)]):=((((((hX.trans (.xq Xx0)).trans (.of F2)).trans (.xq Xx)).trans (.xq Xn)).trans (.xq Xy)).trans (.xq Xz)).trans (.of (Ext.AF (.refl _) _));refine I0 (row:=(Req.row) ⟨nm,rl,(z:Int)⟩) (fun _ _ _ _=>R6) hoN (D4 (Nat.le_refl _) (Nat.le_refl _)) (D6 (by simp [R0.row,Req.row]) (by simp)) (by rw [List.length_map];omega) (by simp;omega) ?_;rintro u' Z8 ho' hA -;obtain ⟨ua,n1,rfl⟩:∃ ua n,u'= .slice ua n n:=by obtain ⟨a,h⟩:=OL.shape ho';exact ⟨a,_,h⟩
  have r8:Z8.A5 p=some _:=(A6 (hA.same p (by simp;omega) bv)).trans ((F5 (by first|omega|(simp;omega))).trans rp);have qN:GQ q v l (Z5.new [str nm,str rl,.int .i64 (z:Int)]):=Qz.ext (.new _ _) (by first|omega|(simp;omega));have n8:=hA.n;simp only [N3] at n8;refine gU1 (a15N @N7 @T1 @T5 @K2 @R7 @Q8 @J0 @J5 @F4 @gw3 @g2 @g3 @g4 @gc @r8) ?_;refine H3.intro (by (repeat first|simp (disch:=omega) only [B9,C9,C0,asx (Ext.refl _),asx F2,P0 (b:=p) Xx om,P0 (b:=p) Xy om,P0 (b:=p) Xz om,P0 (b:=bn) Xx om,P0 (b:=bn) Xy om,P0 (b:=bn) Xz om,P0 (b:=Z3.n) Xy om,P0 (b:=Z3.n) Xz om]|rw [D0 (by kernel_rfl)]);first|done|rfl) ?_;refine gU1 (a15N @N7 @T1 @T5 @K2 @R7 @Q8 @J0 @J5 @F4 @gw3 @g2 @g3 @g4 @gc @HR) ?_;have hM8:P4 q p τ0 Z8:=P4.app hA hXN hoN (Nat.le_refl _);refine ⟨om,fR,hM8.upd,_,L++[⟨nm,rl,(z:Int)⟩],⟨fR1 g2,fR1 g3,fR1 g4,(hM8.ext h0.E hq om).upd om _,(qN.app hA hoN (by first|omega|(simp;omega)) om).x (C5.refl.upd _) om om,cL,by simp;omega⟩,?_,by simp [hL],?_⟩
  rotate_left
  ·intro c hc;rcases List.mem_append.1 hc with hc|hc
   ·exact hP c hc
   ·rw [List.mem_singleton] at hc;subst hc;exact ⟨⟨hnw,hn9⟩,rJ,by show (0:Int)<=(z:Int);omega,by show (z:Int)<=7;omega⟩
  ·rw [List.map_append];exact OL.upd ho' om
theorem lK {Z τ0:St}{fr0:Fr}{q p:Nat}{v:Value}{l:List Int}{H0:List Nat}{a0 a1 a2 a3 a4 a5 a6 a7 a8 a9 a10 a12 a13 a14 a15 a16 a17 a18 a19:Value}(hl:Y8 (H6 Z H0) v l) (hll:l.length<=9223372036854775807) (hq:Z.n<=q) (hqp:q<p) (h0:MdS Z q p v l [a0,a1,a2,a3,a4,a5,a6,a7,a8,a9,a10,.slice none 0 0,a12,a13,a14,a15,a16,a17,a18,a19] fr0 τ0) (gc0:fr0.get 11=some (.int .i64 0)){nt:Nat}(Zs:fr0.get 10=some (.slice (some ⟨nt,0,none⟩) 3 3)) (rt0:τ0.A5 nt=some [str [112,114,105,99,101],str [115,112,101,101,100],str [99,111,109,102,111,114,116]]) (nt0:nt<τ0.n) (ntq:nt≠q) (ntp:nt≠p) :
  Ev (lim Tryz.prog HS none (.loop (mdC [1,1,1,1,1,1,1,1,0,1,2,3])) fr0 τ0) (fun r=>∃ fr τ u,∃ L:List By,r=⟨.exit 6,fr,τ⟩/\MdS Z q p v l [a0,a1,a2,a3,a4,a5,a6,a7,a8,a9,a10,u,a12,a13,a14,a15,a16,a17,a18,a19] fr τ/\P4 q p τ0 τ/\OL τ0.n τ 1 u (L.map (fun s:By=>[str s]))/\L.length<=3/\L=JT.take L.length) ⟨⟩:=by
 have hp0:=h0.lt
 refine MK 3 (fun k fr τ=>fr.get 11=some (.int .i64 (k:Nat))/\fr.get 10=some (.slice (some ⟨nt,0,none⟩) 3 3)/\P4 q p τ0 τ/\∃ u,∃ L:List By,MdS Z q p v l [a0,a1,a2,a3,a4,a5,a6,a7,a8,a9,a10,u,a12,a13,a14,a15,a16,a17,a18,a19] fr τ/\OL τ0.n τ 1 u (L.map (fun s:By=>[str s]))/\L.length=k/\L=JT.take L.length)
  (fun r=>∃ fr τ u,∃ L:List By,r=⟨.exit 6,fr,τ⟩/\MdS Z q p v l [a0,a1,a2,a3,a4,a5,a6,a7,a8,a9,a10,u,a12,a13,a14,a15,a16,a17,a18,a19] fr τ/\P4 q p τ0 τ/\OL τ0.n τ 1 u (L.map (fun s:By=>[str s]))/\L.length<=3/\L=JT.take L.length) ?_ ?_ (fun r h=>h)
 ·exact ⟨gc0,Zs,.refl,_,[],h0,OL.nil,rfl,rfl⟩
 ·rintro k fr τ hk ⟨gc,Zs,hX,u,L,⟨g2,g3,g4,hE,hQ,rp,hp⟩,ho,hL,hP⟩;have nX:=hX.n;have bv:K8 u≠some p:=fun hb=>by have:=(ho.blk hb).1;omega
  simp only [mdC,Tryz.f14,F9,I7,U9,V0,V6,V7];refine gU1 (a14N @A1 @N7 @T1 @T5 @R6 @K2 @Q8 @J0 @J5 @F4 @gc @g2 @g3 @g4) ?_;refine (nxg (n:=4) hl hll hE hq (by first|omega|(simp;omega)) hQ om om).mono ?_;rintro r ⟨x0,Z1,rfl,hx0,Ex0,Qx0,Xx0⟩;have nx0:=Xx0.n
  try simp only [N3] at nx0
  have rp:Z1.A5 p=some _:=(Xx0.A5 (by first|omega|(simp;omega)) om).trans rp;have rr:=A8 rp;rcases Nat.lt_or_ge x0 (k+1) with hkx|hkx
  ·have hc:decide (k<x0)=false:=decide_eq_false om;refine gU1 (a5N @A1 @A7 @gc @hc @ML) ?_;exact ⟨_,_,u,L,rfl,⟨fR1 g2,fR1 g3,fR1 g4,Ex0,Qx0,rp,om⟩,hX.trans (.xq Xx0),OL.R8 ho Xx0 om,om,hP⟩
  have hc:=O9 hkx;have rnt:Z1.row nt=some [str [112,114,105,99,101],str [115,112,101,101,100],str [99,111,109,102,111,114,116]]:=A8 (by rw [Xx0.A5 om om,hX.A5 om om om];exact rt0);obtain ⟨nm,hnm,htk⟩:=lL (show k<3 by omega);refine gU1 (a19N @A1 @N7 @T1 @T5 @R6 @K2 @Q8 @J0 @J5 @F4 @gc @g2 @g3 @g4 @Zs @hc @rr @rnt @hnm) ?_;have hoN:OL τ0.n (Z1.new [str nm]) 1 u (L.map (fun s:By=>[str s])):=OL.ext (OL.R8 ho Xx0 om) (.new _ _);have hXN:P4 q p τ0 (Z1.new [str nm]):=(hX.trans (.xq Xx0)).trans (.of (Ext.AF (.refl _) _));refine I0 (row:=((fun s:By=>[str s])) nm) (fun _ _ _ _=>R7) hoN (D4 (Nat.le_refl _) (Nat.le_refl _)) (D6 (by simp [R0.row,Req.row]) (by simp)) (by rw [List.length_map];omega) (by simp;omega) ?_;rintro u' Z8 ho' hA -;obtain ⟨ua,n1,rfl⟩:∃ ua n,u'= .slice ua n n:=by obtain ⟨a,h⟩:=OL.shape ho';exact ⟨a,_,h⟩
  have r8:Z8.A5 p=some _:=(A6 (hA.same p (by simp;omega) bv)).trans ((F5 (by first|omega|(simp;omega))).trans rp);have qN:GQ q v l (Z1.new [str nm]):=Qx0.ext (.new _ _) (by first|omega|(simp;omega));have n8:=hA.n;simp only [N3] at n8;refine gU1 (a16N @N7 @T1 @T5 @R6 @K2 @Q8 @J0 @J5 @F4 @xl @g2 @g3 @g4 @gc @Zs @r8) ?_;refine H3.intro (by (repeat first|simp (disch:=omega) only [B9,C9,C0,asx (Ext.refl _)]|rw [D0 (by kernel_rfl)]);first|done|rfl) ?_;refine gU1 (a16N @N7 @T1 @T5 @R6 @K2 @Q8 @J0 @J5 @F4 @xl @g2 @g3 @g4 @gc @Zs @HR) ?_;have hM8:P4 q p τ0 Z8:=P4.app hA hXN hoN (Nat.le_refl _);refine ⟨om,fR,fR1 Zs,hM8.upd,_,L++[nm],⟨fR1 g2,fR1 g3,fR1 g4,(hM8.ext h0.E hq om).upd om _,(qN.app hA hoN (by first|omega|(simp;omega)) om).x (C5.refl.upd _) om om,cL,by simp;omega⟩,?_,by simp [hL],by rw [List.length_append,hL];show L++[nm]=JT.take (k+1);rw [htk,hP,hL]⟩
  ·rw [List.map_append];exact OL.upd ho' om
theorem aD {Z τ0:St}{fr0:Fr}{q p:Nat}{v:Value}{l:List Int}{H0:List Nat}{a0 a1 a2 a3 a4 a5 a6 a7 a8 a9 a10 a11 a12 a14 a15 a16 a17 a18 a19:Value}(hl:Y8 (H6 Z H0) v l) (hll:l.length<=9223372036854775807) (hq:Z.n<=q) (hqp:q<p) (h0:MdS Z q p v l [a0,a1,a2,a3,a4,a5,a6,a7,a8,a9,a10,a11,a12,.slice none 0 0,a14,a15,a16,a17,a18,a19] fr0 τ0) (gc0:fr0.get 12=some (.int .i64 0)) :
  Ev (lim Tryz.prog HS none (.loop (mdC [1,1,1,1,1,1,1,1,1,0,1,2,3])) fr0 τ0) (fun r=>∃ fr τ u,∃ L:List (Value×List Int),r=⟨.exit 8,fr,τ⟩/\MdS Z q p v l [a0,a1,a2,a3,a4,a5,a6,a7,a8,a9,a10,a11,a12,u,a14,a15,a16,a17,a18,a19] fr τ/\P4 q p τ0 τ/\OL τ0.n τ 1 u (L.map (fun y:Value×List Int=>[y.1]))/\L.length<=2/\∀ y∈L,(∀ b,K8 y.1=some b->K8 u≠some b)/\OL τ0.n τ 1 y.1 (y.2.map fun n=>[.int .i64 n])/\∃ a b,y.2=[a,b]/\1<=a/\a<b/\b<=9) ⟨⟩:=by
 have hp0:=h0.lt
 refine MK 2 (fun k fr τ=>fr.get 12=some (.int .i64 (k:Nat))/\P4 q p τ0 τ/\∃ u,∃ L:List (Value×List Int),MdS Z q p v l [a0,a1,a2,a3,a4,a5,a6,a7,a8,a9,a10,a11,a12,u,a14,a15,a16,a17,a18,a19] fr τ/\OL τ0.n τ 1 u (L.map (fun y:Value×List Int=>[y.1]))/\L.length=k/\∀ y∈L,(∀ b,K8 y.1=some b->K8 u≠some b)/\OL τ0.n τ 1 y.1 (y.2.map fun n=>[.int .i64 n])/\∃ a b,y.2=[a,b]/\1<=a/\a<b/\b<=9)
  (fun r=>∃ fr τ u,∃ L:List (Value×List Int),r=⟨.exit 8,fr,τ⟩/\MdS Z q p v l [a0,a1,a2,a3,a4,a5,a6,a7,a8,a9,a10,a11,a12,u,a14,a15,a16,a17,a18,a19] fr τ/\P4 q p τ0 τ/\OL τ0.n τ 1 u (L.map (fun y:Value×List Int=>[y.1]))/\L.length<=2/\∀ y∈L,(∀ b,K8 y.1=some b->K8 u≠some b)/\OL τ0.n τ 1 y.1 (y.2.map fun n=>[.int .i64 n])/\∃ a b,y.2=[a,b]/\1<=a/\a<b/\b<=9) ?_ ?_ (fun r h=>h)
 ·exact ⟨gc0,.refl,_,[],h0,OL.nil,rfl,fun c hc=>by cases hc⟩
 ·rintro k fr τ hk ⟨gc,hX,u,L,⟨g2,g3,g4,hE,hQ,rp,hp⟩,ho,hL,hP⟩;have nX:=hX.n;have bv:K8 u≠some p:=fun hb=>by have:=(ho.blk hb).1;omega
  simp only [mdC,Tryz.f14,F9,I7,U9,V0,V6,V7];refine gU1 (a14N @A1 @N7 @T1 @T5 @R6 @K2 @R7 @J0 @J5 @F4 @gc @g2 @g3 @g4) ?_;refine (nxg (n:=3) hl hll hE hq (by first|omega|(simp;omega)) hQ om om).mono ?_;rintro r ⟨x0,Z1,rfl,hx0,Ex0,Qx0,Xx0⟩;have nx0:=Xx0.n
  try simp only [N3] at nx0
  have rp:Z1.A5 p=some _:=(Xx0.A5 (by first|omega|(simp;omega)) om).trans rp;have rr:=A8 rp;rcases Nat.lt_or_ge x0 (k+1) with hkx|hkx
  ·have hc:decide (k<x0)=false:=decide_eq_false om;refine gU1 (a5N @A1 @A7 @gc @hc @ML) ?_;exact ⟨_,_,u,L,rfl,⟨fR1 g2,fR1 g3,fR1 g4,Ex0,Qx0,rp,om⟩,hX.trans (.xq Xx0),OL.R8 ho Xx0 om,om,fun y hy=>⟨(hP y hy).1,OL.R8 (hP y hy).2.1 Xx0 om,(hP y hy).2.2⟩⟩
  have hc:=O9 hkx;refine gU1 (a16N @A1 @N7 @T1 @T5 @R6 @K2 @R7 @J0 @J5 @F4 @gc @g2 @g3 @g4 @hc @rr) ?_;refine (nxg (n:=3) hl hll Ex0 hq (by first|omega|(simp;omega)) Qx0 om om).mono ?_;rintro r ⟨x,Z2,rfl,hx,Ex,Qx,Xx⟩;have nx:=Xx.n
  try simp only [N3] at nx
  have rp:Z2.A5 p=some _:=(Xx.A5 (by first|omega|(simp;omega)) om).trans rp;have rr:=A8 rp;refine gU1 (a15N @A1 @N7 @T1 @T5 @R6 @K2 @R7 @J0 @J5 @F4 @gc @g2 @g3 @g4 @rr) ?_;have rp:(Z2.new [.int .i64 (1+(k:Int)),.int .i64 (2+(k:Int)+(x:Int))]).A5 p=some _:=(F5 om).trans rp;have hoN:OL τ0.n ((Z2.new [.int .i64 (1+(k:Int)),.int .i64 (2+(k:Int)+(x:Int))]).new [.slice (some ⟨Z2.n,0,none⟩) 2 2]) 1 u (L.map (fun y:Value×List Int=>[y.1])):=OL.ext (OL.ext (OL.R8 (OL.R8 ho Xx0 om) Xx om) (.new _ _)) (.new _ _);have hXN:P4 q p τ0 ((Z2.new [.int .i64 (1+(k:Int)),.int .i64 (2+(k:Int)+(x:Int))]).new [.slice (some ⟨Z2.n,0,none⟩) 2 2]):=(((hX.trans (.xq Xx0)).trans (.xq Xx)).trans (.of (Ext.AF (.refl _) _))).trans (.of (Ext.AF (.refl _) _));refine I0 (row:=((fun y:Value×List Int=>[y.1])) (.slice (some ⟨Z2.n,0,none⟩) 2 2,[1+(k:Int),2+(k:Int)+(x:Int)])) (fun _ _ _ _=>Q8) hoN (D4 (Nat.le_refl _) (Nat.le_refl _)) (D6 (by simp [R0.row,Req.row]) (by simp)) (by rw [List.length_map];omega) (by simp;omega) ?_;rintro u' Z8 ho' hA -;obtain ⟨ua,n1,rfl⟩:∃ ua n,u'= .slice ua n n:=by obtain ⟨a,h⟩:=OL.shape ho';exact ⟨a,_,h⟩
  have r8:Z8.A5 p=some _:=(A6 (hA.same p (by simp;omega) bv)).trans ((F5 (by first|omega|(simp;omega))).trans rp);have qN:GQ q v l ((Z2.new [.int .i64 (1+(k:Int)),.int .i64 (2+(k:Int)+(x:Int))]).new [.slice (some ⟨Z2.n,0,none⟩) 2 2]):=(Qx.ext (.new _ _) om).ext (.new _ _) (by first|omega|(simp;omega));have n8:=hA.n;simp only [N3] at n8;refine gU1 (a15N @N7 @T1 @T5 @R6 @K2 @R7 @J0 @J5 @F4 @yg @g2 @g3 @g4 @gc @r8) ?_;refine H3.intro (by (repeat first|simp (disch:=omega) only [B9,C9,C0,asx (Ext.refl _),P0 (b:=p) Xx om]|rw [D0 (by kernel_rfl)]);first|done|rfl) ?_;refine gU1 (a15N @N7 @T1 @T5 @R6 @K2 @R7 @J0 @J5 @F4 @yg @g2 @g3 @g4 @gc @HR) ?_;have hM8:P4 q p τ0 Z8:=P4.app hA hXN hoN (Nat.le_refl _);refine ⟨om,fR,hM8.upd,_,L++[(.slice (some ⟨Z2.n,0,none⟩) 2 2,[1+(k:Int),2+(k:Int)+(x:Int)])],⟨fR1 g2,fR1 g3,fR1 g4,(hM8.ext h0.E hq om).upd om _,(qN.app hA hoN (by first|omega|(simp;omega)) om).x (C5.refl.upd _) om om,cL,by simp;omega⟩,?_,by simp [hL],fun y hy=>?_⟩
  rotate_left
  ·rcases List.mem_append.1 hy with hy|hy
   ·obtain ⟨c1,c2,c3⟩:=hP y hy;have c4:OL τ0.n ((Z2.new [.int .i64 (1+(k:Int)),.int .i64 (2+(k:Int)+(x:Int))]).new [.slice (some ⟨Z2.n,0,none⟩) 2 2]) 1 y.1 (y.2.map fun n=>[.int .i64 n]):=OL.ext (OL.ext (OL.R8 (OL.R8 c2 Xx0 om) Xx om) (.new _ _)) (.new _ _);exact ⟨fun b hb=>hA.far (c4.blk hb).2,OL.upd (c4.E8 hA.n fun b hb=>hA.same b (c4.blk hb).2 (c1 b hb)) om,c3⟩
   ·rw [List.mem_singleton] at hy;subst hy;have c4:OL τ0.n ((Z2.new [.int .i64 (1+(k:Int)),.int .i64 (2+(k:Int)+(x:Int))]).new [.slice (some ⟨Z2.n,0,none⟩) 2 2]) 1 (.slice (some ⟨Z2.n,0,none⟩) 2 2) ([1+(k:Int),2+(k:Int)+(x:Int)].map fun n=>[.int .i64 n]):=OL.mk rfl rfl (by simp) (.inl rfl) om (by simp;omega) (cL);exact ⟨fun b hb=>hA.far (c4.blk hb).2,OL.upd (c4.E8 hA.n fun b hb=>hA.same b (c4.blk hb).2 (fun hu=>by have:=(ho.blk hu).2;cases hb;omega)) om,_,_,rfl,om,om,om⟩
  ·rw [List.map_append];exact OL.upd ho' om
end Go.Proofs.T
