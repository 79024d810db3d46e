/- The reference's maker of tenders: its loops. -/
import Derived.Test.YtbcanmagihejhaaGreatDoorRD
set_option linter.unusedSimpArgs false
set_option linter.unusedVariables false
namespace Go.Proofs.T
open Go Go.Ab
set_option maxRecDepth 100000
def UP (J:Nat->Fr->St->Prop) (R:Res->Prop) (n k:Nat) (r:Res):Prop:=match r.o with
 | .normal=>k+1<=n/\J (k+1) r.fr r.Z
 | _=>R r
section
variable {P:Program} {H:Sums} {rd:Option Nat} {fr:Fr} {Z:St}
theorem up_normal {J:Nat->Fr->St->Prop}{R:Res->Prop}{n k:Nat}:UP J R n k ⟨.normal,fr,Z⟩=(k+1<=n/\J (k+1) fr Z):=rfl
theorem up_exit {J:Nat->Fr->St->Prop}{R:Res->Prop}{n k i:Nat}:UP J R n k ⟨.exit i,fr,Z⟩=R ⟨.exit i,fr,Z⟩:=rfl
theorem ev_upto {body:Code}{Q:Res->Prop}{u:Hd Q}(n:Nat) (J:Nat->Fr->St->Prop) (R:Res->Prop) (h0:J 0 fr Z)
  (hs:∀ k fr Z,k<=n->J k fr Z->Ev (lim P H rd body fr Z) (UP J R n k) ⟨⟩) (hR:∀ r,R r->Q r) :
  Ev (lim P H rd (.loop body) fr Z) Q u:=by
 refine ev_loop (fun j fr Z=>∃ k,j+k=n/\J k fr Z) R n ⟨0,om,h0⟩ ?_ hR
 rintro j fr Z ⟨k,hk,hJ⟩
 refine (hs k fr Z om hJ).mono ?_
 rintro ⟨o,fr',Z'⟩ hq
 cases o with
 | normal=>exact ⟨n-(k+1),by have:=hq.1;omega,k+1,by have:=hq.1;omega,hq.2⟩
 | exit i=>exact hq
 | ret=>exact hq
 | pan v=>exact hq
end
def cdAt:List Nat->Code->Code
 | [],c=>c
 | 0::l,.seq a _=>cdAt l a
 | 1::l,.seq _ b=>cdAt l b
 | 2::l,.block _ b=>cdAt l b
 | 3::l,.loop b=>cdAt l b
 | _::_,c=>c
theorem cd_nil {c:Code}:cdAt [] c=c:=rfl
theorem cd_0 {l:List Nat}{a b:Code}:cdAt (0::l) (.seq a b)=cdAt l a:=rfl
theorem cd_1 {l:List Nat}{a b:Code}:cdAt (1::l) (.seq a b)=cdAt l b:=rfl
theorem cd_2 {l:List Nat}{i:Nat}{a:Code}:cdAt (2::l) (.block i a)=cdAt l a:=rfl
theorem cd_3 {l:List Nat}{a:Code}:cdAt (3::l) (.loop a)=cdAt l a:=rfl
noncomputable def mdC (l:List Nat):Code:=cdAt l ((Tryz.f14).body.getD .skip)
theorem gd_some {c d:Code}:(some c).getD d=c:=rfl
def row0:List Value:=[str [],.slice none 0 0,.slice none 0 0,.slice none 0 0,.int .i64 0,.int .i64 0,str [],.int .i64 0,.int .i64 0,str [],.slice none 0 0,.slice none 0 0,.int .i64 0,.slice none 0 0,.int .i64 0,.int .i64 0,.int .i64 0,.int .i64 0,.int .i64 0,.int .i64 0]
structure MdS (Z:St) (q p:Nat) (v:Value) (l:List Int) (cs:List Value) (fr:Fr) (τ:St):Prop where
 g2:fr.get 2=some (.pointer (some ⟨Z.n,0,none⟩))
 g3:fr.get 3=some (.pointer (some ⟨q,0,none⟩))
 g4:fr.get 4=some (.pointer (some ⟨p,0,none⟩))
 E:Ext Z τ
 Q:GQ q v l τ
 r:τ.orow p=some cs
 lt:p<τ.n
theorem mn_at {k:Nat}(h:k<3):∃ s,sub ([str [112,114,105,99,101],str [108,111,119],str [115,112,101,101,100],str [99,111,109,102,111,114,116],str [119,101,105,103,104,116]]:List Value) (k+2) 1=some [str s]/\critN.take (k+1)=critN.take k++[s]/\wordB s=true/\s.length<=9:=by
 have:k=0\/k=1\/k=2:=om
 rcases this with rfl|rfl|rfl
 ·exact ⟨_,rfl,rfl,by decide,by decide⟩
 ·exact ⟨_,rfl,rfl,by decide,by decide⟩
 ·exact ⟨_,rfl,rfl,by decide,by decide⟩
theorem ExtM.updF {q p b:Nat}{Z Z':St}{cs:List Value}(h:ExtM q p Z Z') (hb:Z.n<=b):ExtM q p Z (Z'.upd b cs):=⟨h.n,fun c hc h1 h2=>by rw [upd_get,if_neg om,h.same c hc h1 h2]⟩
theorem lot_cells {L:List Lot}{x:Lot}(h1:0<L.length) (h2:L.length<=2):∃ yl cells,L[L.length-1]? =some yl/\(L.map Lot.row++[x.row]).flatten=cells/\sub cells (L.length*2) 1=some [.int .i64 x.id]/\sub cells ((L.length-1)*2) 1=some [.int .i64 yl.id]/\∀ z,splice cells (L.length*2) [.int .i64 z]=some ((L.map Lot.row++[Lot.row ⟨z,x.most⟩]).flatten):=by
 match L,h1,h2 with
 | [y],_,_=>exact ⟨y,_,rfl,rfl,rfl,rfl,fun z=>rfl⟩
 | [y1,y2],_,_=>exact ⟨y2,_,rfl,rfl,rfl,rfl,fun z=>rfl⟩
theorem rise_last {L:List Lot}{k:Nat}{yl:Lot}(h:Rise L) (hk:L.length=k+1) (hy:L[k]? =some yl):∀ z∈L,z.id<=yl.id:=by
 intro z hz
 obtain ⟨i,hi⟩:=List.getElem?_of_mem hz
 obtain ⟨hi1,hi2⟩:=List.getElem?_eq_some_iff.1 hi
 obtain ⟨hy1,hy2⟩:=List.getElem?_eq_some_iff.1 hy
 rcases Nat.lt_or_ge i k with hlt|hge
 ·have:=List.pairwise_iff_getElem.1 h i k (by rw [List.length_map];omega) (by rw [List.length_map];omega) hlt
  rw [List.getElem_map,List.getElem_map,hi2,hy2] at this
  omega
 ·obtain rfl:i=k:=om
  rw [hi2] at hy2
  rw [hy2];omega
theorem mrel_at {x:Nat}(h:(x:Int)<2):∃ s,sub ([str [60,61],str [62,61]]:List Value) x 1=some [str s]/\([[60,61],[62,61]]:List By).contains s=true:=by
 have:x=0\/x=1:=om
 rcases this with rfl|rfl
 ·exact ⟨_,rfl,by decide⟩
 ·exact ⟨_,rfl,by decide⟩
theorem mtie_at {k:Nat}(h:k<3):∃ s,sub ([str [112,114,105,99,101],str [115,112,101,101,100],str [99,111,109,102,111,114,116]]:List Value) k 1=some [str s]/\tiesM.take (k+1)=tiesM.take k++[s]:=by
 have:k=0\/k=1\/k=2:=om
 rcases this with rfl|rfl|rfl
 ·exact ⟨_,rfl,rfl⟩
 ·exact ⟨_,rfl,rfl⟩
 ·exact ⟨_,rfl,rfl⟩
theorem gw1 {a0 a1 a2 a3 a4 a5 a6 a7 a8 a9 a10 a11 a12 a13 a14 a15 a16 a17 a18 a19 z:Value}:splice [a0,a1,a2,a3,a4,a5,a6,a7,a8,a9,a10,a11,a12,a13,a14,a15,a16,a17,a18,a19] 1 [z]=some [a0,z,a2,a3,a4,a5,a6,a7,a8,a9,a10,a11,a12,a13,a14,a15,a16,a17,a18,a19]:=rfl
theorem gw2 {a0 a1 a2 a3 a4 a5 a6 a7 a8 a9 a10 a11 a12 a13 a14 a15 a16 a17 a18 a19 z:Value}:splice [a0,a1,a2,a3,a4,a5,a6,a7,a8,a9,a10,a11,a12,a13,a14,a15,a16,a17,a18,a19] 2 [z]=some [a0,a1,z,a3,a4,a5,a6,a7,a8,a9,a10,a11,a12,a13,a14,a15,a16,a17,a18,a19]:=rfl
theorem gw3 {a0 a1 a2 a3 a4 a5 a6 a7 a8 a9 a10 a11 a12 a13 a14 a15 a16 a17 a18 a19 z:Value}:splice [a0,a1,a2,a3,a4,a5,a6,a7,a8,a9,a10,a11,a12,a13,a14,a15,a16,a17,a18,a19] 3 [z]=some [a0,a1,a2,z,a4,a5,a6,a7,a8,a9,a10,a11,a12,a13,a14,a15,a16,a17,a18,a19]:=rfl
theorem gw11 {a0 a1 a2 a3 a4 a5 a6 a7 a8 a9 a10 a11 a12 a13 a14 a15 a16 a17 a18 a19 z:Value}:splice [a0,a1,a2,a3,a4,a5,a6,a7,a8,a9,a10,a11,a12,a13,a14,a15,a16,a17,a18,a19] 11 [z]=some [a0,a1,a2,a3,a4,a5,a6,a7,a8,a9,a10,z,a12,a13,a14,a15,a16,a17,a18,a19]:=rfl
theorem gw13 {a0 a1 a2 a3 a4 a5 a6 a7 a8 a9 a10 a11 a12 a13 a14 a15 a16 a17 a18 a19 z:Value}:splice [a0,a1,a2,a3,a4,a5,a6,a7,a8,a9,a10,a11,a12,a13,a14,a15,a16,a17,a18,a19] 13 [z]=some [a0,a1,a2,a3,a4,a5,a6,a7,a8,a9,a10,a11,a12,z,a14,a15,a16,a17,a18,a19]:=rfl
theorem gw15 {a0 a1 a2 a3 a4 a5 a6 a7 a8 a9 a10 a11 a12 a13 a14 a15 a16 a17 a18 a19 z:Value}:splice [a0,a1,a2,a3,a4,a5,a6,a7,a8,a9,a10,a11,a12,a13,a14,a15,a16,a17,a18,a19] 15 [z]=some [a0,a1,a2,a3,a4,a5,a6,a7,a8,a9,a10,a11,a12,a13,a14,z,a16,a17,a18,a19]:=rfl
theorem gw16 {a0 a1 a2 a3 a4 a5 a6 a7 a8 a9 a10 a11 a12 a13 a14 a15 a16 a17 a18 a19 z:Value}:splice [a0,a1,a2,a3,a4,a5,a6,a7,a8,a9,a10,a11,a12,a13,a14,a15,a16,a17,a18,a19] 16 [z]=some [a0,a1,a2,a3,a4,a5,a6,a7,a8,a9,a10,a11,a12,a13,a14,a15,z,a17,a18,a19]:=rfl
theorem gw17 {a0 a1 a2 a3 a4 a5 a6 a7 a8 a9 a10 a11 a12 a13 a14 a15 a16 a17 a18 a19 z:Value}:splice [a0,a1,a2,a3,a4,a5,a6,a7,a8,a9,a10,a11,a12,a13,a14,a15,a16,a17,a18,a19] 17 [z]=some [a0,a1,a2,a3,a4,a5,a6,a7,a8,a9,a10,a11,a12,a13,a14,a15,a16,z,a18,a19]:=rfl
theorem gw18 {a0 a1 a2 a3 a4 a5 a6 a7 a8 a9 a10 a11 a12 a13 a14 a15 a16 a17 a18 a19 z:Value}:splice [a0,a1,a2,a3,a4,a5,a6,a7,a8,a9,a10,a11,a12,a13,a14,a15,a16,a17,a18,a19] 18 [z]=some [a0,a1,a2,a3,a4,a5,a6,a7,a8,a9,a10,a11,a12,a13,a14,a15,a16,a17,z,a19]:=rfl
theorem gw19 {a0 a1 a2 a3 a4 a5 a6 a7 a8 a9 a10 a11 a12 a13 a14 a15 a16 a17 a18 a19 z:Value}:splice [a0,a1,a2,a3,a4,a5,a6,a7,a8,a9,a10,a11,a12,a13,a14,a15,a16,a17,a18,a19] 19 [z]=some [a0,a1,a2,a3,a4,a5,a6,a7,a8,a9,a10,a11,a12,a13,a14,a15,a16,a17,a18,z]:=rfl
theorem gw6 {a0 a1 a2 a3 a4 a5 a6 a7 a8 a9 a10 a11 a12 a13 a14 a15 a16 a17 a18 a19 z0 z1 z2 z3 z4:Value}:splice [a0,a1,a2,a3,a4,a5,a6,a7,a8,a9,a10,a11,a12,a13,a14,a15,a16,a17,a18,a19] 6 [z0,z1,z2,z3,z4]=some [a0,a1,a2,a3,a4,a5,z0,z1,z2,z3,z4,a11,a12,a13,a14,a15,a16,a17,a18,a19]:=rfl
end Go.Proofs.T
namespace Go.Proofs.T
open Go Go.Ab
open Nat (reduceMul reduceEqDiff reduceAdd)
set_option maxRecDepth 100000
set_option maxHeartbeats 32000000 in
theorem md_lots {Z τ0:St}{fr0:Fr}{q p:Nat}{v:Value}{l:List Int}{H0:List Nat}{a0 a2 a3 a4 a5 a6 a7 a8 a9 a10 a11 a12 a13 a14 a15 a16 a17 a18 a19:Value}(hl:ArgInts (hide Z H0) v l) (hll:l.length<=9223372036854775807) (hq:Z.n<=q) (hqp:q<p) (h0:MdS Z q p v l [a0,.slice none 0 0,a2,a3,a4,a5,a6,a7,a8,a9,a10,a11,a12,a13,a14,a15,a16,a17,a18,a19] fr0 τ0) (gc0:fr0.get 6=some (.int .i64 0)){nl:Nat}(n3:nl<=3) (gn:fr0.get 5=some (.int .i64 (nl:Nat))) :
  Ev (lim Tryz.prog HS none (.loop (mdC [1,1,1,1,0,1,2,3])) fr0 τ0) (fun r=>∃ fr τ u,∃ L:List Lot,r=⟨.exit 0,fr,τ⟩/\MdS Z q p v l [a0,u,a2,a3,a4,a5,a6,a7,a8,a9,a10,a11,a12,a13,a14,a15,a16,a17,a18,a19] fr τ/\ExtM q p τ0 τ/\OL τ0.n τ 2 u (L.map Lot.row)/\L.length=nl/\(Rise L/\∀ y∈L,1<=y.id/\y.id<=1+2*(L.length:Int)/\0<=y.most/\y.most<=199)) ⟨⟩:=by
 have hp0:=h0.lt
 refine ev_count nl (fun k fr τ=>fr.get 6=some (.int .i64 (k:Nat))/\fr.get 5=some (.int .i64 (nl:Nat))/\ExtM q p τ0 τ/\∃ u,∃ L:List Lot,MdS Z q p v l [a0,u,a2,a3,a4,a5,a6,a7,a8,a9,a10,a11,a12,a13,a14,a15,a16,a17,a18,a19] fr τ/\OL τ0.n τ 2 u (L.map Lot.row)/\L.length=k/\(Rise L/\∀ y∈L,1<=y.id/\y.id<=1+2*(L.length:Int)/\0<=y.most/\y.most<=199))
  (fun r=>∃ fr τ u,∃ L:List Lot,r=⟨.exit 0,fr,τ⟩/\MdS Z q p v l [a0,u,a2,a3,a4,a5,a6,a7,a8,a9,a10,a11,a12,a13,a14,a15,a16,a17,a18,a19] fr τ/\ExtM q p τ0 τ/\OL τ0.n τ 2 u (L.map Lot.row)/\L.length=nl/\(Rise L/\∀ y∈L,1<=y.id/\y.id<=1+2*(L.length:Int)/\0<=y.most/\y.most<=199)) ?_ ?_ ?_ (fun r h=>h)
 ·exact ⟨gc0,gn,.refl,_,[],h0,OL.nil,rfl,rise_nil,fun y hy=>by cases hy⟩
 ·rintro k fr τ hk ⟨gc,g5,hX,u,L,⟨g2,g3,g4,hE,hQ,rp,hp⟩,ho,hL,hR,hB⟩
  have hc:=lt_true hk
  have nX:=hX.n
  have rr:=row_of rp
  have bv:blkOf u≠some p:=fun hb=>by have:=(ho.blk hb).1;omega
  simp only [mdC,Tryz.f14,gd_some,cd_nil,cd_0,cd_1,cd_2,cd_3]
  refine gU1 (aI @splice_succ (aI @ap22 (aI @ap29 (aI @ap30 (aI @ap33 (aI @ap36 (aI @ap37 (aI @ap43 (aI @ap97 (aI @ap202 (aI @gc (aI @g2 (aI @g3 (aI @g4 (aI @g5 (aI @hc @rr)))))))))))))))) ?_
  refine (nxg (n:=2) hl hll hE hq om hQ om om).mono ?_
  rintro r ⟨x,Z5,rfl,hx,Ex,Qx,Xx⟩
  have nx:=Xx.n
  have rp:Z5.orow p=some _:=(Xx.orow om om).trans rp
  obtain ⟨i,hi,i0,i1⟩:∃ i:Int,(k:Int)*(1+(x:Int))=i/\0<=i/\i<=2*(k:Int):=by
   refine ⟨_,rfl,?_,?_⟩
   ·exact Int.mul_nonneg om om
   ·rcases (by omega:x=0\/x=1) with rfl|rfl
    ·show (k:Int)*1<=_;omega
    ·show (k:Int)*2<=_;omega
  refine gU1 (aI @splice_succ (aI @ap22 (aI @ap29 (aI @ap30 (aI @ap33 (aI @ap36 (aI @ap37 (aI @ap43 (aI @ap97 (aI @ap202 (aI @gc (aI @g2 (aI @g3 (aI @g4 (aI @g5 @hi))))))))))))))) ?_
  refine (nxg (n:=200) hl hll Ex hq om Qx om om).mono ?_
  rintro r ⟨y,Z6,rfl,hy,Ey,Qy,Xy⟩
  have ny:=Xy.n
  have rp:Z6.orow p=some _:=(Xy.orow om om).trans rp
  have rp':=rp
  refine gU1 (aI @splice_succ (aI @ap22 (aI @ap29 (aI @ap30 (aI @ap33 (aI @ap36 (aI @ap37 (aI @ap43 (aI @ap97 (aI @ap202 (aI @gc (aI @g2 (aI @g3 (aI @g4 (aI @g5 @hi))))))))))))))) ?_
  have hoN:OL τ0.n (Z6.new [.int .i64 (1+i),.int .i64 (y:Int)]) 2 u (L.map Lot.row):=OL.ext (OL.keepX (OL.keepX ho Xx om) Xy om) (.new _ _)
  have hXN:ExtM q p τ0 (Z6.new [.int .i64 (1+i),.int .i64 (y:Int)]):=((hX.trans (.xq Xx)).trans (.xq Xy)).trans (.of (Ext.new' (.refl _) _))
  refine ev_append (row:=Lot.row ⟨1+i,(y:Int)⟩) (fun _ _ _ _=>ap28) hoN (row_new_same (Nat.le_refl _) (Nat.le_refl _)) (sub_full (by simp [Lot.row]) (by simp)) (by rw [List.length_map];omega) (by simp;omega) ?_
  rintro u' Z8 ho' hA -
  have n8:=hA.n
  simp only [new_n] at n8
  obtain ⟨b',sp,rfl,hsp,b1,b2,b3⟩:∃ b' sp,u'= .slice (some ⟨b',0,sp⟩) (k+1) (k+1)/\(sp=none\/sp=some 2)/\τ0.n<=b'/\b'<Z8.n/\Z8.orow b'=some ((L.map Lot.row++[Lot.row ⟨1+i,(y:Int)⟩]).flatten):=by
   obtain ⟨hr',⟨hv',hz⟩|⟨b',sp,hv',hs',b1,b2,b3⟩⟩:=ho'
   ·simp at hz
   ·exact ⟨b',sp,by rw [hv'];simp [hL],hs',b1,b2,b3⟩
  have bne:b'≠p:=om
  have r8:Z8.orow p=some _:=(orow_congr (hA.same p (by simp;omega) bv)).trans ((orow_new_ne (by first|omega|(simp;omega))).trans rp')
  have qN:GQ q v l (Z6.new [.int .i64 (1+i),.int .i64 (y:Int)]):=Qy.ext (.new _ _) om
  have hMf:ExtM q p τ0 Z8:=ExtM.app hA hXN hoN (Nat.le_refl _)
  have hE':Ext Z Z8:=hMf.ext h0.E hq om
  have qF:GQ q v l Z8:=qN.app hA hoN (by first|omega|(simp;omega)) om
  refine gU1 (aI @ap22 (aI @ap29 (aI @ap30 (aI @ap33 (aI @ap36 (aI @ap37 (aI @ap43 (aI @ap97 (aI @ap202 (aI @gw1 (aI @g2 (aI @g3 (aI @g4 (aI @g5 (aI @gc @r8))))))))))))))) ?_
  refine Must.intro (by (repeat first|simp (disch:=omega) only [as_read,as_upd,as_newb,asx (Ext.refl _),as_extx (b:=p) Xx om,as_extx (b:=p) Xy om]|rw [as_ord (by kernel_rfl)]);first|done|rfl) ?_
  rcases Nat.eq_zero_or_pos k with hk0|hk0
  ·have hd:decide ((0:Int)<(k:Int))=false:=decide_eq_false om
   refine gU1 (aI @ap22 (aI @ap29 (aI @ap30 (aI @ap33 (aI @ap36 (aI @ap37 (aI @ap43 (aI @ap97 (aI @ap202 (aI @gw1 (aI @g2 (aI @g3 (aI @g4 (aI @g5 (aI @gc (aI @hd (aI @yu_t @yu_f))))))))))))))))) ?_
   obtain rfl:L=[]:=List.eq_nil_of_length_eq_zero om
   refine ⟨fR,fR1 g5,hMf.upd,_,[⟨1+i,(y:Int)⟩],⟨fR1 g2,fR1 g3,fR1 g4,hE'.upd om _,qF.x (ExtX.refl.upd _) om om,cL,by simp;omega⟩,OL.upd ho' om,by simp;omega,?_,?_⟩
   ·exact List.pairwise_singleton _ _
   ·intro z hz
    rw [List.mem_singleton] at hz;subst hz
    exact ⟨by show 1<=1+i;omega,by show 1+i<=1+2*((1:Nat):Int);omega,by show (0:Int)<=(y:Int);omega,by show (y:Int)<=199;omega⟩
  ·obtain ⟨j,rfl⟩:∃ j,k=j+1:=⟨k-1,om⟩
   have hd:decide ((0:Int)<((j+1:Nat):Int))=true:=decide_eq_true om
   have e1:((j+1:Nat):Int)-1=(j:Int):=om
   obtain ⟨yl,cells,hyl,hce,s1,s2,s3⟩:=lot_cells (L:=L) (x:=⟨1+i,(y:Int)⟩) om om
   rw [hL,Nat.add_sub_cancel] at hyl s2
   rw [hL] at s1 s3
   rw [hce] at b3
   have b3r:=row_of b3
   have hyb:=hB yl (List.mem_of_getElem? hyl)
   have hRs:=rise_last hR (k:=j) om hyl
   cases hcmp:decide (yl.id<1+i) with
   | true =>
     refine gU1 (aI @ap22 (aI @ap29 (aI @ap30 (aI @ap33 (aI @ap36 (aI @ap37 (aI @ap43 (aI @ap97 (aI @ap202 (aI @gw1 (aI @g2 (aI @g3 (aI @g4 (aI @g5 (aI @gc (aI @hd (aI @e1 (aI @b3r (aI @s1 (aI @s2 (aI @hcmp (aI @yu_t @yu_f)))))))))))))))))))))) ?_
     refine ⟨fR,fR1 g5,hMf.upd,_,L++[⟨1+i,(y:Int)⟩],⟨fR1 g2,fR1 g3,fR1 g4,hE'.upd om _,qF.x (ExtX.refl.upd _) om om,cL,by simp;omega⟩,?_,by simp [hL],?_,?_⟩
     ·rw [List.map_append]
      exact OL.upd ho' om
     ·exact rise_snoc hR fun z hz=>Int.lt_of_le_of_lt (hRs z hz) (of_decide_eq_true hcmp)
     ·intro z hz
      rw [List.length_append,hL]
      simp only [List.length_cons,List.length_nil]
      rcases List.mem_append.1 hz with hz|hz
      ·have:=hB z hz
       rw [hL] at this
       omega
      ·rw [List.mem_singleton] at hz;subst hz
       dsimp only
       omega
   | false =>
     have hle:=of_decide_eq_false hcmp
     rw [hL] at hyb
     refine gU1 (aI @ap22 (aI @ap29 (aI @ap30 (aI @ap33 (aI @ap36 (aI @ap37 (aI @ap43 (aI @ap97 (aI @ap202 (aI @gw1 (aI @g2 (aI @g3 (aI @g4 (aI @g5 (aI @gc (aI @hd (aI @e1 (aI @b3 (aI @b3r (aI @s1 (aI @s2 (aI @s3 (aI @hcmp (aI @yu_t @yu_f)))))))))))))))))))))))) ?_
     refine Must.intro (by (repeat first|simp (disch:=omega) only [as_read,as_upd,as_newb,asx (Ext.refl _)]|rw [as_ord (by kernel_rfl)]);first|done|rfl) ?_
     refine gU1 (aI @ap22 (aI @ap29 (aI @ap30 (aI @ap33 (aI @ap36 (aI @ap37 (aI @ap43 (aI @ap97 (aI @ap202 (aI @gw1 (aI @g2 (aI @g3 (aI @g4 (aI @g5 @gc)))))))))))))) ?_
     refine ⟨fR,fR1 g5,ExtM.updF hMf.upd b1,_,L++[⟨yl.id+1,(y:Int)⟩],⟨fR1 g2,fR1 g3,fR1 g4,(hE'.upd om _).upd om _,(qF.x (ExtX.refl.upd _) om om).x (ExtX.refl.upd _) (by simp;omega) om,cL,by simp;omega⟩,?_,by simp [hL],?_,?_⟩
     ·refine ⟨fun r hr=>?_,.inr ⟨b',sp,by simp [hL],hsp,b1,by simp;omega,by rw [List.map_append];exact orow_upd_same⟩⟩
      rw [List.map_append] at hr
      rcases List.mem_append.1 hr with hr|hr
      ·obtain ⟨x,-,rfl⟩:=List.mem_map.1 hr;rfl
      ·obtain ⟨x,-,rfl⟩:=List.mem_map.1 hr;rfl
     ·exact rise_snoc hR fun z hz=>Int.lt_add_one_of_le (hRs z hz)
     ·intro z hz
      rw [List.length_append,hL]
      simp only [List.length_cons,List.length_nil]
      rcases List.mem_append.1 hz with hz|hz
      ·have:=hB z hz
       rw [hL] at this
       omega
      ·rw [List.mem_singleton] at hz;subst hz
       dsimp only
       omega
 ·clear gn gc0
  rintro fr τ ⟨gc,g5,hX,u,L,⟨g2,g3,g4,hE,hQ,rp,hp⟩,ho,hL,hR,hB⟩
  simp only [mdC,Tryz.f14,gd_some,cd_nil,cd_0,cd_1,cd_2,cd_3]
  refine gU1 (aI @splice_succ (aI @bunAP (aI @gc (aI @g5 @lt_self)))) ?_
  exact ⟨_,_,u,L,rfl,⟨fR1 g2,fR1 g3,fR1 g4,hE,hQ,rp,hp⟩,hX,ho,hL,hR,hB⟩
end Go.Proofs.T
namespace Go.Proofs.T
open Go Go.Ab
open Nat (reduceMul reduceEqDiff reduceAdd)
set_option maxRecDepth 100000
set_option maxHeartbeats 32000000 in
theorem md_crits {Z τ0:St}{fr0:Fr}{q p:Nat}{v:Value}{l:List Int}{H0:List Nat}{a0 a1 a3 a4 a5 a6 a7 a8 a9 a10 a11 a12 a13 a14 a15 a16 a17 a18 a19:Value}(hl:ArgInts (hide Z H0) v l) (hll:l.length<=9223372036854775807) (hq:Z.n<=q) (hqp:q<p) (h0:MdS Z q p v l [a0,a1,.slice none 0 0,a3,a4,a5,a6,a7,a8,a9,a10,a11,a12,a13,a14,a15,a16,a17,a18,a19] fr0 τ0) (gc0:fr0.get 7=some (.int .i64 0)) :
  Ev (lim Tryz.prog HS none (.loop (mdC [1,1,1,1,1,0,1,2,3])) fr0 τ0) (fun r=>∃ fr τ u,∃ L:List Crit,r=⟨.exit 2,fr,τ⟩/\MdS Z q p v l [a0,a1,u,a3,a4,a5,a6,a7,a8,a9,a10,a11,a12,a13,a14,a15,a16,a17,a18,a19] fr τ/\ExtM q p τ0 τ/\OL τ0.n τ 5 u (L.map Crit.row)/\L.length<=3/\L.map Crit.name=critN.take L.length/\∀ c∈L,(c.kind=1\/c.kind=2)/\0<=c.low/\c.low<=3/\0<=c.high/\c.high<=8) ⟨⟩:=by
 have hp0:=h0.lt
 refine ev_upto 3 (fun k fr τ=>fr.get 7=some (.int .i64 (k:Nat))/\ExtM q p τ0 τ/\∃ u,∃ L:List Crit,MdS Z q p v l [a0,a1,u,a3,a4,a5,a6,a7,a8,a9,a10,a11,a12,a13,a14,a15,a16,a17,a18,a19] fr τ/\OL τ0.n τ 5 u (L.map Crit.row)/\L.length=k/\L.map Crit.name=critN.take L.length/\∀ c∈L,(c.kind=1\/c.kind=2)/\0<=c.low/\c.low<=3/\0<=c.high/\c.high<=8)
  (fun r=>∃ fr τ u,∃ L:List Crit,r=⟨.exit 2,fr,τ⟩/\MdS Z q p v l [a0,a1,u,a3,a4,a5,a6,a7,a8,a9,a10,a11,a12,a13,a14,a15,a16,a17,a18,a19] fr τ/\ExtM q p τ0 τ/\OL τ0.n τ 5 u (L.map Crit.row)/\L.length<=3/\L.map Crit.name=critN.take L.length/\∀ c∈L,(c.kind=1\/c.kind=2)/\0<=c.low/\c.low<=3/\0<=c.high/\c.high<=8) ?_ ?_ (fun r h=>h)
 ·exact ⟨gc0,.refl,_,[],h0,OL.nil,rfl,rfl,fun c hc=>by cases hc⟩
 ·rintro k fr τ hk ⟨gc,hX,u,L,⟨g2,g3,g4,hE,hQ,rp,hp⟩,ho,hL,hP⟩
  have nX:=hX.n
  have bv:blkOf u≠some p:=fun hb=>by have:=(ho.blk hb).1;omega
  simp only [mdC,Tryz.f14,gd_some,cd_nil,cd_0,cd_1,cd_2,cd_3]
  refine gU1 (aI @splice_succ (aI @ap22 (aI @ap28 (aI @ap30 (aI @ap33 (aI @ap36 (aI @ap37 (aI @ap43 (aI @ap97 (aI @ap202 (aI @gc (aI @g2 (aI @g3 @g4))))))))))))) ?_
  refine (nxg (n:=4) hl hll hE hq (by first|omega|(simp;omega)) hQ om om).mono ?_
  rintro r ⟨x0,Z1,rfl,hx0,Ex0,Qx0,Xx0⟩
  have nx0:=Xx0.n
  try simp only [new_n] at nx0
  have rp:Z1.orow p=some _:=(Xx0.orow (by first|omega|(simp;omega)) om).trans rp
  have rr:=row_of rp
  rcases Nat.lt_or_ge x0 (k+1) with hkx|hkx
  ·have hc:decide (k<x0)=false:=decide_eq_false om
   refine gU1 (aI @splice_succ (aI @bunAP (aI @gc (aI @hc @up_exit)))) ?_
   exact ⟨_,_,u,L,rfl,⟨fR1 g2,fR1 g3,fR1 g4,Ex0,Qx0,rp,om⟩,hX.trans (.xq Xx0),OL.keepX ho Xx0 om,om,hP⟩
  have hc:=lt_true hkx
  refine gU1 (aI @splice_succ (aI @ap22 (aI @ap28 (aI @ap30 (aI @ap33 (aI @ap36 (aI @ap37 (aI @ap43 (aI @ap97 (aI @ap202 (aI @gc (aI @g2 (aI @g3 (aI @g4 (aI @hc @rr))))))))))))))) ?_
  refine (nxg (n:=4) hl hll Ex0 hq (by first|omega|(simp;omega)) Qx0 om om).mono ?_
  rintro r ⟨lw,Z2,rfl,hlw,Elw,Qlw,Xlw⟩
  have nlw:=Xlw.n
  try simp only [new_n] at nlw
  have rp:Z2.orow p=some _:=(Xlw.orow (by first|omega|(simp;omega)) om).trans rp
  have rr:=row_of rp
  refine gU1 (aI @splice_succ (aI @ap22 (aI @ap28 (aI @ap30 (aI @ap33 (aI @ap36 (aI @ap37 (aI @ap43 (aI @ap97 (aI @ap202 (aI @gc (aI @g2 (aI @g3 (aI @g4 @rr)))))))))))))) ?_
  refine names_ok.mono ?_
  rintro r ⟨bn,Z3,rfl,F3,bn1,bn2,rn⟩
  have n3:=F3.n
  have rp:Z3.orow p=some _:=(F3.orow om).trans rp
  have rr:=row_of rp
  have rnr:=row_of rn
  obtain ⟨j,hj,hjk⟩:∃ j:Nat,2+(k:Int)=(j:Int)/\j=k+2:=⟨k+2,om,rfl⟩
  obtain ⟨nm,hnm,htk,hnw,hn9⟩:=mn_at (show k<3 by omega)
  rw [<- hjk] at hnm
  refine gU1 (aI @splice_succ (aI @ap22 (aI @ap28 (aI @ap30 (aI @ap33 (aI @ap36 (aI @ap37 (aI @ap43 (aI @ap97 (aI @ap202 (aI @gc (aI @g2 (aI @g3 (aI @g4 (aI @hj (aI @rnr @hnm)))))))))))))))) ?_
  refine (nxg (n:=2) hl hll (Elw.trans F3) hq (by first|omega|(simp;omega)) (Qlw.ext F3 om) om om).mono ?_
  rintro r ⟨y,Z4,rfl,hy,Ey,Qy,Xy⟩
  have ny:=Xy.n
  try simp only [new_n] at ny
  have rp:Z4.orow p=some _:=(Xy.orow (by first|omega|(simp;omega)) om).trans rp
  have rr:=row_of rp
  refine gU1 (aI @splice_succ (aI @ap22 (aI @ap28 (aI @ap30 (aI @ap33 (aI @ap36 (aI @ap37 (aI @ap43 (aI @ap97 (aI @ap202 (aI @gc (aI @g2 (aI @g3 @g4))))))))))))) ?_
  refine (nxg (n:=6) hl hll Ey hq (by first|omega|(simp;omega)) Qy om om).mono ?_
  rintro r ⟨z,Z5,rfl,hz,Ez,Qz,Xz⟩
  have nz:=Xz.n
  try simp only [new_n] at nz
  have rp:Z5.orow p=some _:=(Xz.orow (by first|omega|(simp;omega)) om).trans rp
  have rr:=row_of rp
  refine gU1 (aI @splice_succ (aI @ap22 (aI @ap28 (aI @ap30 (aI @ap33 (aI @ap36 (aI @ap37 (aI @ap43 (aI @ap97 (aI @ap202 (aI @gc (aI @g2 (aI @g3 @g4))))))))))))) ?_
  refine (nxg (n:=3) hl hll Ez hq (by first|omega|(simp;omega)) Qz om om).mono ?_
  rintro r ⟨w,Z6,rfl,hw,Ew,Qw,Xw⟩
  have nw:=Xw.n
  try simp only [new_n] at nw
  have rp:Z6.orow p=some _:=(Xw.orow (by first|omega|(simp;omega)) om).trans rp
  have rr:=row_of rp
  refine gU1 (aI @splice_succ (aI @ap22 (aI @ap28 (aI @ap30 (aI @ap33 (aI @ap36 (aI @ap37 (aI @ap43 (aI @ap97 (aI @ap202 (aI @gc (aI @g2 (aI @g3 (aI @g4 @rr)))))))))))))) ?_
  have hoN:OL τ0.n (Z6.new [str nm,.int .i64 (1+(y:Int)),.int .i64 (lw:Int),.int .i64 ((lw:Int)+(z:Int)),.bool (decide ((w:Int)=0))]) 5 u (L.map Crit.row):=OL.ext (OL.keepX (OL.keepX (OL.keepX (OL.ext (OL.keepX (OL.keepX ho Xx0 om) Xlw om) F3) Xy om) Xz om) Xw om) (.new _ _)
  have hXN:ExtM q p τ0 (Z6.new [str nm,.int .i64 (1+(y:Int)),.int .i64 (lw:Int),.int .i64 ((lw:Int)+(z:Int)),.bool (decide ((w:Int)=0))]):=((((((hX.trans (.xq Xx0)).trans (.xq Xlw)).trans (.of F3)).trans (.xq Xy)).trans (.xq Xz)).trans (.xq Xw)).trans (.of (Ext.new' (.refl _) _))
  refine ev_append (row:=(Crit.row) ⟨nm,1+(y:Int),(lw:Int),(lw:Int)+(z:Int),decide ((w:Int)=0)⟩) (fun _ _ _ _=>ap29) hoN (row_new_same (Nat.le_refl _) (Nat.le_refl _)) (sub_full (by simp [Crit.row,Req.row]) (by simp)) (by rw [List.length_map];omega) (by simp;omega) ?_
  rintro u' Z8 ho' hA -
  obtain ⟨ua,n1,rfl⟩:∃ ua n,u'= .slice ua n n:=by obtain ⟨a,h⟩:=OL.shape ho';exact ⟨a,_,h⟩
  have r8:Z8.orow p=some _:=(orow_congr (hA.same p (by simp;omega) bv)).trans ((orow_new_ne (by first|omega|(simp;omega))).trans rp)
  have qN:GQ q v l (Z6.new [str nm,.int .i64 (1+(y:Int)),.int .i64 (lw:Int),.int .i64 ((lw:Int)+(z:Int)),.bool (decide ((w:Int)=0))]):=Qw.ext (.new _ _) (by first|omega|(simp;omega))
  have n8:=hA.n
  simp only [new_n] at n8
  refine gU1 (aI @ap22 (aI @ap28 (aI @ap30 (aI @ap33 (aI @ap36 (aI @ap37 (aI @ap43 (aI @ap97 (aI @ap202 (aI @gw2 (aI @g2 (aI @g3 (aI @g4 (aI @gc @r8)))))))))))))) ?_
  refine Must.intro (by (repeat first|simp (disch:=omega) only [as_read,as_upd,as_newb,asx (Ext.refl _),asx F3,as_extx (b:=p) Xy om,as_extx (b:=p) Xz om,as_extx (b:=p) Xw om,as_extx (b:=bn) Xy om,as_extx (b:=bn) Xz om,as_extx (b:=bn) Xw om]|rw [as_ord (by kernel_rfl)]);first|done|rfl) ?_
  refine gU1 (aI @ap22 (aI @ap28 (aI @ap30 (aI @ap33 (aI @ap36 (aI @ap37 (aI @ap43 (aI @ap97 (aI @ap202 (aI @gw2 (aI @g2 (aI @g3 (aI @g4 (aI @gc @up_normal)))))))))))))) ?_
  have hM8:ExtM q p τ0 Z8:=ExtM.app hA hXN hoN (Nat.le_refl _)
  refine ⟨om,fR,hM8.upd,_,L++[⟨nm,1+(y:Int),(lw:Int),(lw:Int)+(z:Int),decide ((w:Int)=0)⟩],⟨fR1 g2,fR1 g3,fR1 g4,(hM8.ext h0.E hq om).upd om _,(qN.app hA hoN (by first|omega|(simp;omega)) om).x (ExtX.refl.upd _) om om,cL,by simp;omega⟩,?_,by simp [hL],by rw [List.map_append,hP.1,List.length_append,hL];exact htk.symm,?_⟩
  rotate_left
  ·intro c hc
   rcases List.mem_append.1 hc with hc|hc
   ·exact hP.2 c hc
   ·rw [List.mem_singleton] at hc;subst hc
    exact ⟨by show 1+(y:Int)=1\/1+(y:Int)=2;omega,by show (0:Int)<=(lw:Int);omega,by show (lw:Int)<=3;omega,by show (0:Int)<=(lw:Int)+(z:Int);omega,by show (lw:Int)+(z:Int)<=8;omega⟩
  ·rw [List.map_append]
   exact OL.upd ho' om
end Go.Proofs.T
namespace Go.Proofs.T
open Go Go.Ab
open Nat (reduceMul reduceEqDiff reduceAdd)
set_option maxRecDepth 100000
set_option maxHeartbeats 32000000 in
theorem md_reqs {Z τ0:St}{fr0:Fr}{q p:Nat}{v:Value}{l:List Int}{H0:List Nat}{a0 a1 a2 a4 a5 a6 a7 a8 a9 a10 a11 a12 a13 a14 a15 a16 a17 a18 a19:Value}(hl:ArgInts (hide Z H0) v l) (hll:l.length<=9223372036854775807) (hq:Z.n<=q) (hqp:q<p) (h0:MdS Z q p v l [a0,a1,a2,.slice none 0 0,a4,a5,a6,a7,a8,a9,a10,a11,a12,a13,a14,a15,a16,a17,a18,a19] fr0 τ0) (gc0:fr0.get 9=some (.int .i64 0)) :
  Ev (lim Tryz.prog HS none (.loop (mdC [1,1,1,1,1,1,0,1,2,3])) fr0 τ0) (fun r=>∃ fr τ u,∃ L:List Req,r=⟨.exit 4,fr,τ⟩/\MdS Z q p v l [a0,a1,a2,u,a4,a5,a6,a7,a8,a9,a10,a11,a12,a13,a14,a15,a16,a17,a18,a19] fr τ/\ExtM q p τ0 τ/\OL τ0.n τ 3 u (L.map Req.row)/\L.length<=2/\∀ x∈L,(wordB x.name=true/\x.name.length<=9)/\([[60,61],[62,61]]:List By).contains x.rel=true/\0<=x.value/\x.value<=7) ⟨⟩:=by
 have hp0:=h0.lt
 refine ev_upto 2 (fun k fr τ=>fr.get 9=some (.int .i64 (k:Nat))/\ExtM q p τ0 τ/\∃ u,∃ L:List Req,MdS Z q p v l [a0,a1,a2,u,a4,a5,a6,a7,a8,a9,a10,a11,a12,a13,a14,a15,a16,a17,a18,a19] fr τ/\OL τ0.n τ 3 u (L.map Req.row)/\L.length=k/\∀ x∈L,(wordB x.name=true/\x.name.length<=9)/\([[60,61],[62,61]]:List By).contains x.rel=true/\0<=x.value/\x.value<=7)
  (fun r=>∃ fr τ u,∃ L:List Req,r=⟨.exit 4,fr,τ⟩/\MdS Z q p v l [a0,a1,a2,u,a4,a5,a6,a7,a8,a9,a10,a11,a12,a13,a14,a15,a16,a17,a18,a19] fr τ/\ExtM q p τ0 τ/\OL τ0.n τ 3 u (L.map Req.row)/\L.length<=2/\∀ x∈L,(wordB x.name=true/\x.name.length<=9)/\([[60,61],[62,61]]:List By).contains x.rel=true/\0<=x.value/\x.value<=7) ?_ ?_ (fun r h=>h)
 ·exact ⟨gc0,.refl,_,[],h0,OL.nil,rfl,fun c hc=>by cases hc⟩
 ·rintro k fr τ hk ⟨gc,hX,u,L,⟨g2,g3,g4,hE,hQ,rp,hp⟩,ho,hL,hP⟩
  have nX:=hX.n
  have bv:blkOf u≠some p:=fun hb=>by have:=(ho.blk hb).1;omega
  simp only [mdC,Tryz.f14,gd_some,cd_nil,cd_0,cd_1,cd_2,cd_3]
  refine gU1 (aI @splice_succ (aI @ap22 (aI @ap28 (aI @ap29 (aI @ap33 (aI @ap36 (aI @ap37 (aI @ap43 (aI @ap97 (aI @ap202 (aI @gc (aI @g2 (aI @g3 @g4))))))))))))) ?_
  refine (nxg (n:=3) hl hll hE hq (by first|omega|(simp;omega)) hQ om om).mono ?_
  rintro r ⟨x0,Z1,rfl,hx0,Ex0,Qx0,Xx0⟩
  have nx0:=Xx0.n
  try simp only [new_n] at nx0
  have rp:Z1.orow p=some _:=(Xx0.orow (by first|omega|(simp;omega)) om).trans rp
  have rr:=row_of rp
  rcases Nat.lt_or_ge x0 (k+1) with hkx|hkx
  ·have hc:decide (k<x0)=false:=decide_eq_false om
   refine gU1 (aI @splice_succ (aI @bunAP (aI @gc (aI @hc @up_exit)))) ?_
   exact ⟨_,_,u,L,rfl,⟨fR1 g2,fR1 g3,fR1 g4,Ex0,Qx0,rp,om⟩,hX.trans (.xq Xx0),OL.keepX ho Xx0 om,om,hP⟩
  have hc:=lt_true hkx
  refine gU1 (aI @splice_succ (aI @ap22 (aI @ap28 (aI @ap29 (aI @ap33 (aI @ap36 (aI @ap37 (aI @ap43 (aI @ap97 (aI @ap202 (aI @gc (aI @g2 (aI @g3 (aI @g4 (aI @hc @rr))))))))))))))) ?_
  refine names_ok.mono ?_
  rintro r ⟨bn,Z2,rfl,F2,bn1,bn2,rn⟩
  have n2:=F2.n
  have rp:Z2.orow p=some _:=(F2.orow om).trans rp
  have rr:=row_of rp
  refine gU1 (aI @splice_succ (aI @ap22 (aI @ap28 (aI @ap29 (aI @ap33 (aI @ap36 (aI @ap37 (aI @ap43 (aI @ap97 (aI @ap202 (aI @gc (aI @g2 (aI @g3 @g4))))))))))))) ?_
  refine (nxg (n:=3) hl hll (Ex0.trans F2) hq (by first|omega|(simp;omega)) (Qx0.ext F2 om) om om).mono ?_
  rintro r ⟨x,Z3,rfl,hx,Ex,Qx,Xx⟩
  have nx:=Xx.n
  try simp only [new_n] at nx
  have rp:Z3.orow p=some _:=(Xx.orow (by first|omega|(simp;omega)) om).trans rp
  have rr:=row_of rp
  have rnr:Z3.row bn=some _:=(Xx.row om om).trans (row_of rn)
  obtain ⟨j,hj,hjk⟩:∃ j:Nat,2+(x:Int)=(j:Int)/\j=x+2:=⟨x+2,om,rfl⟩
  obtain ⟨nm,hnm,-,hnw,hn9⟩:=mn_at (show x<3 by omega)
  rw [<- hjk] at hnm
  refine gU1 (aI @splice_succ (aI @ap22 (aI @ap28 (aI @ap29 (aI @ap33 (aI @ap36 (aI @ap37 (aI @ap43 (aI @ap97 (aI @ap202 (aI @gc (aI @g2 (aI @g3 (aI @g4 (aI @hj (aI @rnr @hnm)))))))))))))))) ?_
  have rp:(Z3.new [str [60,61],str [62,61]]).orow p=some _:=(orow_new_ne om).trans rp
  refine (nxg (n:=2) hl hll (Ex.trans (.new _ _)) hq (by first|omega|(simp;omega)) (Qx.ext (.new _ _) om) om om).mono ?_
  rintro r ⟨y,Z4,rfl,hy,Ey,Qy,Xy⟩
  have ny:=Xy.n
  try simp only [new_n] at ny
  have rp:Z4.orow p=some _:=(Xy.orow (by first|omega|(simp;omega)) om).trans rp
  have rr:=row_of rp
  have rrel:Z4.row Z3.n=some [str [60,61],str [62,61]]:=by rw [Xy.row (by simp) om];exact cL
  obtain ⟨rl,hrl,hrl2⟩:=mrel_at hy
  refine gU1 (aI @splice_succ (aI @ap22 (aI @ap28 (aI @ap29 (aI @ap33 (aI @ap36 (aI @ap37 (aI @ap43 (aI @ap97 (aI @ap202 (aI @gc (aI @g2 (aI @g3 (aI @g4 (aI @rrel @hrl))))))))))))))) ?_
  refine (nxg (n:=8) hl hll Ey hq (by first|omega|(simp;omega)) Qy om om).mono ?_
  rintro r ⟨z,Z5,rfl,hz,Ez,Qz,Xz⟩
  have nz:=Xz.n
  try simp only [new_n] at nz
  have rp:Z5.orow p=some _:=(Xz.orow (by first|omega|(simp;omega)) om).trans rp
  have rr:=row_of rp
  refine gU1 (aI @splice_succ (aI @ap22 (aI @ap28 (aI @ap29 (aI @ap33 (aI @ap36 (aI @ap37 (aI @ap43 (aI @ap97 (aI @ap202 (aI @gc (aI @g2 (aI @g3 (aI @g4 @rr)))))))))))))) ?_
  have Xn:ExtX q Z3 (Z3.new [str [60,61],str [62,61]]):= .of (.new _ _)
  have hoN:OL τ0.n (Z5.new [str nm,str rl,.int .i64 (z:Int)]) 3 u (L.map Req.row):=OL.ext (OL.keepX (OL.keepX (OL.keepX (OL.keepX (OL.ext (OL.keepX ho Xx0 om) F2) Xx om) Xn om) Xy om) Xz om) (.new _ _)
  have hXN:ExtM q p τ0 (Z5.new [str nm,str rl,.int .i64 (z:Int)]):=((((((hX.trans (.xq Xx0)).trans (.of F2)).trans (.xq Xx)).trans (.xq Xn)).trans (.xq Xy)).trans (.xq Xz)).trans (.of (Ext.new' (.refl _) _))
  refine ev_append (row:=(Req.row) ⟨nm,rl,(z:Int)⟩) (fun _ _ _ _=>ap30) hoN (row_new_same (Nat.le_refl _) (Nat.le_refl _)) (sub_full (by simp [Crit.row,Req.row]) (by simp)) (by rw [List.length_map];omega) (by simp;omega) ?_
  rintro u' Z8 ho' hA -
  obtain ⟨ua,n1,rfl⟩:∃ ua n,u'= .slice ua n n:=by obtain ⟨a,h⟩:=OL.shape ho';exact ⟨a,_,h⟩
  have r8:Z8.orow p=some _:=(orow_congr (hA.same p (by simp;omega) bv)).trans ((orow_new_ne (by first|omega|(simp;omega))).trans rp)
  have qN:GQ q v l (Z5.new [str nm,str rl,.int .i64 (z:Int)]):=Qz.ext (.new _ _) (by first|omega|(simp;omega))
  have n8:=hA.n
  simp only [new_n] at n8
  refine gU1 (aI @ap22 (aI @ap28 (aI @ap29 (aI @ap33 (aI @ap36 (aI @ap37 (aI @ap43 (aI @ap97 (aI @ap202 (aI @gw3 (aI @g2 (aI @g3 (aI @g4 (aI @gc @r8)))))))))))))) ?_
  refine Must.intro (by (repeat first|simp (disch:=omega) only [as_read,as_upd,as_newb,asx (Ext.refl _),asx F2,as_extx (b:=p) Xx om,as_extx (b:=p) Xy om,as_extx (b:=p) Xz om,as_extx (b:=bn) Xx om,as_extx (b:=bn) Xy om,as_extx (b:=bn) Xz om,as_extx (b:=Z3.n) Xy om,as_extx (b:=Z3.n) Xz om]|rw [as_ord (by kernel_rfl)]);first|done|rfl) ?_
  refine gU1 (aI @ap22 (aI @ap28 (aI @ap29 (aI @ap33 (aI @ap36 (aI @ap37 (aI @ap43 (aI @ap97 (aI @ap202 (aI @gw3 (aI @g2 (aI @g3 (aI @g4 (aI @gc @up_normal)))))))))))))) ?_
  have hM8:ExtM q p τ0 Z8:=ExtM.app hA hXN hoN (Nat.le_refl _)
  refine ⟨om,fR,hM8.upd,_,L++[⟨nm,rl,(z:Int)⟩],⟨fR1 g2,fR1 g3,fR1 g4,(hM8.ext h0.E hq om).upd om _,(qN.app hA hoN (by first|omega|(simp;omega)) om).x (ExtX.refl.upd _) om om,cL,by simp;omega⟩,?_,by simp [hL],?_⟩
  rotate_left
  ·intro c hc
   rcases List.mem_append.1 hc with hc|hc
   ·exact hP c hc
   ·rw [List.mem_singleton] at hc;subst hc
    exact ⟨⟨hnw,hn9⟩,hrl2,by show (0:Int)<=(z:Int);omega,by show (z:Int)<=7;omega⟩
  ·rw [List.map_append]
   exact OL.upd ho' om
end Go.Proofs.T
namespace Go.Proofs.T
open Go Go.Ab
open Nat (reduceMul reduceEqDiff reduceAdd)
set_option maxRecDepth 100000
set_option maxHeartbeats 32000000 in
theorem md_ties {Z τ0:St}{fr0:Fr}{q p:Nat}{v:Value}{l:List Int}{H0:List Nat}{a0 a1 a2 a3 a4 a5 a6 a7 a8 a9 a10 a12 a13 a14 a15 a16 a17 a18 a19:Value}(hl:ArgInts (hide Z H0) v l) (hll:l.length<=9223372036854775807) (hq:Z.n<=q) (hqp:q<p) (h0:MdS Z q p v l [a0,a1,a2,a3,a4,a5,a6,a7,a8,a9,a10,.slice none 0 0,a12,a13,a14,a15,a16,a17,a18,a19] fr0 τ0) (gc0:fr0.get 11=some (.int .i64 0)){nt:Nat}(gk10:fr0.get 10=some (.slice (some ⟨nt,0,none⟩) 3 3)) (rt0:τ0.orow nt=some [str [112,114,105,99,101],str [115,112,101,101,100],str [99,111,109,102,111,114,116]]) (nt0:nt<τ0.n) (ntq:nt≠q) (ntp:nt≠p) :
  Ev (lim Tryz.prog HS none (.loop (mdC [1,1,1,1,1,1,1,1,0,1,2,3])) fr0 τ0) (fun r=>∃ fr τ u,∃ L:List By,r=⟨.exit 6,fr,τ⟩/\MdS Z q p v l [a0,a1,a2,a3,a4,a5,a6,a7,a8,a9,a10,u,a12,a13,a14,a15,a16,a17,a18,a19] fr τ/\ExtM q p τ0 τ/\OL τ0.n τ 1 u (L.map (fun s:By=>[str s]))/\L.length<=3/\L=tiesM.take L.length) ⟨⟩:=by
 have hp0:=h0.lt
 refine ev_upto 3 (fun k fr τ=>fr.get 11=some (.int .i64 (k:Nat))/\fr.get 10=some (.slice (some ⟨nt,0,none⟩) 3 3)/\ExtM q p τ0 τ/\∃ u,∃ L:List By,MdS Z q p v l [a0,a1,a2,a3,a4,a5,a6,a7,a8,a9,a10,u,a12,a13,a14,a15,a16,a17,a18,a19] fr τ/\OL τ0.n τ 1 u (L.map (fun s:By=>[str s]))/\L.length=k/\L=tiesM.take L.length)
  (fun r=>∃ fr τ u,∃ L:List By,r=⟨.exit 6,fr,τ⟩/\MdS Z q p v l [a0,a1,a2,a3,a4,a5,a6,a7,a8,a9,a10,u,a12,a13,a14,a15,a16,a17,a18,a19] fr τ/\ExtM q p τ0 τ/\OL τ0.n τ 1 u (L.map (fun s:By=>[str s]))/\L.length<=3/\L=tiesM.take L.length) ?_ ?_ (fun r h=>h)
 ·exact ⟨gc0,gk10,.refl,_,[],h0,OL.nil,rfl,rfl⟩
 ·rintro k fr τ hk ⟨gc,gk10,hX,u,L,⟨g2,g3,g4,hE,hQ,rp,hp⟩,ho,hL,hP⟩
  have nX:=hX.n
  have bv:blkOf u≠some p:=fun hb=>by have:=(ho.blk hb).1;omega
  simp only [mdC,Tryz.f14,gd_some,cd_nil,cd_0,cd_1,cd_2,cd_3]
  refine gU1 (aI @splice_succ (aI @ap22 (aI @ap28 (aI @ap29 (aI @ap30 (aI @ap33 (aI @ap37 (aI @ap43 (aI @ap97 (aI @ap202 (aI @gc (aI @g2 (aI @g3 @g4))))))))))))) ?_
  refine (nxg (n:=4) hl hll hE hq (by first|omega|(simp;omega)) hQ om om).mono ?_
  rintro r ⟨x0,Z1,rfl,hx0,Ex0,Qx0,Xx0⟩
  have nx0:=Xx0.n
  try simp only [new_n] at nx0
  have rp:Z1.orow p=some _:=(Xx0.orow (by first|omega|(simp;omega)) om).trans rp
  have rr:=row_of rp
  rcases Nat.lt_or_ge x0 (k+1) with hkx|hkx
  ·have hc:decide (k<x0)=false:=decide_eq_false om
   refine gU1 (aI @splice_succ (aI @bunAP (aI @gc (aI @hc @up_exit)))) ?_
   exact ⟨_,_,u,L,rfl,⟨fR1 g2,fR1 g3,fR1 g4,Ex0,Qx0,rp,om⟩,hX.trans (.xq Xx0),OL.keepX ho Xx0 om,om,hP⟩
  have hc:=lt_true hkx
  have rnt:Z1.row nt=some [str [112,114,105,99,101],str [115,112,101,101,100],str [99,111,109,102,111,114,116]]:=row_of (by rw [Xx0.orow om om,hX.orow om om om];exact rt0)
  obtain ⟨nm,hnm,htk⟩:=mtie_at (show k<3 by omega)
  refine gU1 (aI @splice_succ (aI @ap22 (aI @ap28 (aI @ap29 (aI @ap30 (aI @ap33 (aI @ap37 (aI @ap43 (aI @ap97 (aI @ap202 (aI @gc (aI @g2 (aI @g3 (aI @g4 (aI @gk10 (aI @hc (aI @rr (aI @rnt @hnm)))))))))))))))))) ?_
  have hoN:OL τ0.n (Z1.new [str nm]) 1 u (L.map (fun s:By=>[str s])):=OL.ext (OL.keepX ho Xx0 om) (.new _ _)
  have hXN:ExtM q p τ0 (Z1.new [str nm]):=(hX.trans (.xq Xx0)).trans (.of (Ext.new' (.refl _) _))
  refine ev_append (row:=((fun s:By=>[str s])) nm) (fun _ _ _ _=>ap36) hoN (row_new_same (Nat.le_refl _) (Nat.le_refl _)) (sub_full (by simp [Crit.row,Req.row]) (by simp)) (by rw [List.length_map];omega) (by simp;omega) ?_
  rintro u' Z8 ho' hA -
  obtain ⟨ua,n1,rfl⟩:∃ ua n,u'= .slice ua n n:=by obtain ⟨a,h⟩:=OL.shape ho';exact ⟨a,_,h⟩
  have r8:Z8.orow p=some _:=(orow_congr (hA.same p (by simp;omega) bv)).trans ((orow_new_ne (by first|omega|(simp;omega))).trans rp)
  have qN:GQ q v l (Z1.new [str nm]):=Qx0.ext (.new _ _) (by first|omega|(simp;omega))
  have n8:=hA.n
  simp only [new_n] at n8
  refine gU1 (aI @ap22 (aI @ap28 (aI @ap29 (aI @ap30 (aI @ap33 (aI @ap37 (aI @ap43 (aI @ap97 (aI @ap202 (aI @gw11 (aI @g2 (aI @g3 (aI @g4 (aI @gc (aI @gk10 @r8))))))))))))))) ?_
  refine Must.intro (by (repeat first|simp (disch:=omega) only [as_read,as_upd,as_newb,asx (Ext.refl _)]|rw [as_ord (by kernel_rfl)]);first|done|rfl) ?_
  refine gU1 (aI @ap22 (aI @ap28 (aI @ap29 (aI @ap30 (aI @ap33 (aI @ap37 (aI @ap43 (aI @ap97 (aI @ap202 (aI @gw11 (aI @g2 (aI @g3 (aI @g4 (aI @gc (aI @gk10 @up_normal))))))))))))))) ?_
  have hM8:ExtM q p τ0 Z8:=ExtM.app hA hXN hoN (Nat.le_refl _)
  refine ⟨om,fR,fR1 gk10,hM8.upd,_,L++[nm],⟨fR1 g2,fR1 g3,fR1 g4,(hM8.ext h0.E hq om).upd om _,(qN.app hA hoN (by first|omega|(simp;omega)) om).x (ExtX.refl.upd _) om om,cL,by simp;omega⟩,?_,by simp [hL],by rw [List.length_append,hL];show L++[nm]=tiesM.take (k+1);rw [htk,hP,hL]⟩
  ·rw [List.map_append]
   exact OL.upd ho' om
end Go.Proofs.T
namespace Go.Proofs.T
open Go Go.Ab
open Nat (reduceMul reduceEqDiff reduceAdd)
set_option maxRecDepth 100000
set_option maxHeartbeats 32000000 in
theorem md_combos {Z τ0:St}{fr0:Fr}{q p:Nat}{v:Value}{l:List Int}{H0:List Nat}{a0 a1 a2 a3 a4 a5 a6 a7 a8 a9 a10 a11 a12 a14 a15 a16 a17 a18 a19:Value}(hl:ArgInts (hide Z H0) v l) (hll:l.length<=9223372036854775807) (hq:Z.n<=q) (hqp:q<p) (h0:MdS Z q p v l [a0,a1,a2,a3,a4,a5,a6,a7,a8,a9,a10,a11,a12,.slice none 0 0,a14,a15,a16,a17,a18,a19] fr0 τ0) (gc0:fr0.get 12=some (.int .i64 0)) :
  Ev (lim Tryz.prog HS none (.loop (mdC [1,1,1,1,1,1,1,1,1,0,1,2,3])) fr0 τ0) (fun r=>∃ fr τ u,∃ L:List (Value×List Int),r=⟨.exit 8,fr,τ⟩/\MdS Z q p v l [a0,a1,a2,a3,a4,a5,a6,a7,a8,a9,a10,a11,a12,u,a14,a15,a16,a17,a18,a19] fr τ/\ExtM q p τ0 τ/\OL τ0.n τ 1 u (L.map (fun y:Value×List Int=>[y.1]))/\L.length<=2/\∀ y∈L,(∀ b,blkOf y.1=some b->blkOf u≠some b)/\OL τ0.n τ 1 y.1 (y.2.map fun n=>[.int .i64 n])/\∃ a b,y.2=[a,b]/\1<=a/\a<b/\b<=9) ⟨⟩:=by
 have hp0:=h0.lt
 refine ev_upto 2 (fun k fr τ=>fr.get 12=some (.int .i64 (k:Nat))/\ExtM q p τ0 τ/\∃ u,∃ L:List (Value×List Int),MdS Z q p v l [a0,a1,a2,a3,a4,a5,a6,a7,a8,a9,a10,a11,a12,u,a14,a15,a16,a17,a18,a19] fr τ/\OL τ0.n τ 1 u (L.map (fun y:Value×List Int=>[y.1]))/\L.length=k/\∀ y∈L,(∀ b,blkOf y.1=some b->blkOf u≠some b)/\OL τ0.n τ 1 y.1 (y.2.map fun n=>[.int .i64 n])/\∃ a b,y.2=[a,b]/\1<=a/\a<b/\b<=9)
  (fun r=>∃ fr τ u,∃ L:List (Value×List Int),r=⟨.exit 8,fr,τ⟩/\MdS Z q p v l [a0,a1,a2,a3,a4,a5,a6,a7,a8,a9,a10,a11,a12,u,a14,a15,a16,a17,a18,a19] fr τ/\ExtM q p τ0 τ/\OL τ0.n τ 1 u (L.map (fun y:Value×List Int=>[y.1]))/\L.length<=2/\∀ y∈L,(∀ b,blkOf y.1=some b->blkOf u≠some b)/\OL τ0.n τ 1 y.1 (y.2.map fun n=>[.int .i64 n])/\∃ a b,y.2=[a,b]/\1<=a/\a<b/\b<=9) ?_ ?_ (fun r h=>h)
 ·exact ⟨gc0,.refl,_,[],h0,OL.nil,rfl,fun c hc=>by cases hc⟩
 ·rintro k fr τ hk ⟨gc,hX,u,L,⟨g2,g3,g4,hE,hQ,rp,hp⟩,ho,hL,hP⟩
  have nX:=hX.n
  have bv:blkOf u≠some p:=fun hb=>by have:=(ho.blk hb).1;omega
  simp only [mdC,Tryz.f14,gd_some,cd_nil,cd_0,cd_1,cd_2,cd_3]
  refine gU1 (aI @splice_succ (aI @ap22 (aI @ap28 (aI @ap29 (aI @ap30 (aI @ap33 (aI @ap36 (aI @ap43 (aI @ap97 (aI @ap202 (aI @gc (aI @g2 (aI @g3 @g4))))))))))))) ?_
  refine (nxg (n:=3) hl hll hE hq (by first|omega|(simp;omega)) hQ om om).mono ?_
  rintro r ⟨x0,Z1,rfl,hx0,Ex0,Qx0,Xx0⟩
  have nx0:=Xx0.n
  try simp only [new_n] at nx0
  have rp:Z1.orow p=some _:=(Xx0.orow (by first|omega|(simp;omega)) om).trans rp
  have rr:=row_of rp
  rcases Nat.lt_or_ge x0 (k+1) with hkx|hkx
  ·have hc:decide (k<x0)=false:=decide_eq_false om
   refine gU1 (aI @splice_succ (aI @bunAP (aI @gc (aI @hc @up_exit)))) ?_
   exact ⟨_,_,u,L,rfl,⟨fR1 g2,fR1 g3,fR1 g4,Ex0,Qx0,rp,om⟩,hX.trans (.xq Xx0),OL.keepX ho Xx0 om,om,fun y hy=>⟨(hP y hy).1,OL.keepX (hP y hy).2.1 Xx0 om,(hP y hy).2.2⟩⟩
  have hc:=lt_true hkx
  refine gU1 (aI @splice_succ (aI @ap22 (aI @ap28 (aI @ap29 (aI @ap30 (aI @ap33 (aI @ap36 (aI @ap43 (aI @ap97 (aI @ap202 (aI @gc (aI @g2 (aI @g3 (aI @g4 (aI @hc @rr))))))))))))))) ?_
  refine (nxg (n:=3) hl hll Ex0 hq (by first|omega|(simp;omega)) Qx0 om om).mono ?_
  rintro r ⟨x,Z2,rfl,hx,Ex,Qx,Xx⟩
  have nx:=Xx.n
  try simp only [new_n] at nx
  have rp:Z2.orow p=some _:=(Xx.orow (by first|omega|(simp;omega)) om).trans rp
  have rr:=row_of rp
  refine gU1 (aI @splice_succ (aI @ap22 (aI @ap28 (aI @ap29 (aI @ap30 (aI @ap33 (aI @ap36 (aI @ap43 (aI @ap97 (aI @ap202 (aI @gc (aI @g2 (aI @g3 (aI @g4 @rr)))))))))))))) ?_
  have rp:(Z2.new [.int .i64 (1+(k:Int)),.int .i64 (2+(k:Int)+(x:Int))]).orow p=some _:=(orow_new_ne om).trans rp
  have hoN:OL τ0.n ((Z2.new [.int .i64 (1+(k:Int)),.int .i64 (2+(k:Int)+(x:Int))]).new [.slice (some ⟨Z2.n,0,none⟩) 2 2]) 1 u (L.map (fun y:Value×List Int=>[y.1])):=OL.ext (OL.ext (OL.keepX (OL.keepX ho Xx0 om) Xx om) (.new _ _)) (.new _ _)
  have hXN:ExtM q p τ0 ((Z2.new [.int .i64 (1+(k:Int)),.int .i64 (2+(k:Int)+(x:Int))]).new [.slice (some ⟨Z2.n,0,none⟩) 2 2]):=(((hX.trans (.xq Xx0)).trans (.xq Xx)).trans (.of (Ext.new' (.refl _) _))).trans (.of (Ext.new' (.refl _) _))
  refine ev_append (row:=((fun y:Value×List Int=>[y.1])) (.slice (some ⟨Z2.n,0,none⟩) 2 2,[1+(k:Int),2+(k:Int)+(x:Int)])) (fun _ _ _ _=>ap37) hoN (row_new_same (Nat.le_refl _) (Nat.le_refl _)) (sub_full (by simp [Crit.row,Req.row]) (by simp)) (by rw [List.length_map];omega) (by simp;omega) ?_
  rintro u' Z8 ho' hA -
  obtain ⟨ua,n1,rfl⟩:∃ ua n,u'= .slice ua n n:=by obtain ⟨a,h⟩:=OL.shape ho';exact ⟨a,_,h⟩
  have r8:Z8.orow p=some _:=(orow_congr (hA.same p (by simp;omega) bv)).trans ((orow_new_ne (by first|omega|(simp;omega))).trans rp)
  have qN:GQ q v l ((Z2.new [.int .i64 (1+(k:Int)),.int .i64 (2+(k:Int)+(x:Int))]).new [.slice (some ⟨Z2.n,0,none⟩) 2 2]):=(Qx.ext (.new _ _) om).ext (.new _ _) (by first|omega|(simp;omega))
  have n8:=hA.n
  simp only [new_n] at n8
  refine gU1 (aI @ap22 (aI @ap28 (aI @ap29 (aI @ap30 (aI @ap33 (aI @ap36 (aI @ap43 (aI @ap97 (aI @ap202 (aI @gw13 (aI @g2 (aI @g3 (aI @g4 (aI @gc @r8)))))))))))))) ?_
  refine Must.intro (by (repeat first|simp (disch:=omega) only [as_read,as_upd,as_newb,asx (Ext.refl _),as_extx (b:=p) Xx om]|rw [as_ord (by kernel_rfl)]);first|done|rfl) ?_
  refine gU1 (aI @ap22 (aI @ap28 (aI @ap29 (aI @ap30 (aI @ap33 (aI @ap36 (aI @ap43 (aI @ap97 (aI @ap202 (aI @gw13 (aI @g2 (aI @g3 (aI @g4 (aI @gc @up_normal)))))))))))))) ?_
  have hM8:ExtM q p τ0 Z8:=ExtM.app hA hXN hoN (Nat.le_refl _)
  refine ⟨om,fR,hM8.upd,_,L++[(.slice (some ⟨Z2.n,0,none⟩) 2 2,[1+(k:Int),2+(k:Int)+(x:Int)])],⟨fR1 g2,fR1 g3,fR1 g4,(hM8.ext h0.E hq om).upd om _,(qN.app hA hoN (by first|omega|(simp;omega)) om).x (ExtX.refl.upd _) om om,cL,by simp;omega⟩,?_,by simp [hL],fun y hy=>?_⟩
  rotate_left
  ·rcases List.mem_append.1 hy with hy|hy
   ·obtain ⟨c1,c2,c3⟩:=hP y hy
    have c4:OL τ0.n ((Z2.new [.int .i64 (1+(k:Int)),.int .i64 (2+(k:Int)+(x:Int))]).new [.slice (some ⟨Z2.n,0,none⟩) 2 2]) 1 y.1 (y.2.map fun n=>[.int .i64 n]):=OL.ext (OL.ext (OL.keepX (OL.keepX c2 Xx0 om) Xx om) (.new _ _)) (.new _ _)
    exact ⟨fun b hb=>hA.far (c4.blk hb).2,OL.upd (c4.keep hA.n fun b hb=>hA.same b (c4.blk hb).2 (c1 b hb)) om,c3⟩
   ·rw [List.mem_singleton] at hy;subst hy
    have c4:OL τ0.n ((Z2.new [.int .i64 (1+(k:Int)),.int .i64 (2+(k:Int)+(x:Int))]).new [.slice (some ⟨Z2.n,0,none⟩) 2 2]) 1 (.slice (some ⟨Z2.n,0,none⟩) 2 2) ([1+(k:Int),2+(k:Int)+(x:Int)].map fun n=>[.int .i64 n]):=OL.mk rfl rfl (by simp) (.inl rfl) om (by simp;omega) (cL)
    exact ⟨fun b hb=>hA.far (c4.blk hb).2,OL.upd (c4.keep hA.n fun b hb=>hA.same b (c4.blk hb).2 (fun hu=>by have:=(ho.blk hu).2;cases hb;omega)) om,_,_,rfl,om,om,om⟩
  ·rw [List.map_append]
   exact OL.upd ho' om
end Go.Proofs.T
