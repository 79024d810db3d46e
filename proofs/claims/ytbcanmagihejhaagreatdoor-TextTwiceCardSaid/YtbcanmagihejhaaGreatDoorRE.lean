/- The reference's maker of tenders: its loops. -/
import Derived.Test.YtbcanmagihejhaaGreatDoorRD
set_option linter.unusedSimpArgs false
set_option linter.unusedVariables false
namespace Go.Proofs.T
open Go Go.Ab
set_option maxRecDepth 100000
def UP (J:Nat→Fr→St→Prop) (R:Res→Prop) (n k:Nat) (r:Res):Prop:=match r.o with
 | .normal=>k+1≤n∧J (k+1) r.fr r.σ
 | _=>R r
section
variable {P:Program} {H:Sums} {rd:Option Nat} {fr:Fr} {σ:St}
theorem up_normal {J:Nat→Fr→St→Prop}{R:Res→Prop}{n k:Nat}:UP J R n k ⟨.normal,fr,σ⟩=(k+1≤n∧J (k+1) fr σ):=rfl
theorem up_exit {J:Nat→Fr→St→Prop}{R:Res→Prop}{n k i:Nat}:UP J R n k ⟨.exit i,fr,σ⟩=R ⟨.exit i,fr,σ⟩:=rfl
theorem ev_upto {body:Code}{Q:Res→Prop}{u:Hd Q}(n:Nat) (J:Nat→Fr→St→Prop) (R:Res→Prop) (h0:J 0 fr σ)
  (hs:∀ k fr σ,k≤n→J k fr σ→Ev (lim P H rd body fr σ) (UP J R n k) ⟨⟩) (hR:∀ r,R r→Q r) :
  Ev (lim P H rd (.loop body) fr σ) Q u:=by
 refine ev_loop (fun j fr σ=>∃ k,j+k=n∧J k fr σ) R n ⟨0,by omega,h0⟩ ?_ hR
 rintro j fr σ ⟨k,hk,hJ⟩
 refine (hs k fr σ (by omega) hJ).mono ?_
 rintro ⟨o,fr',σ'⟩ hq
 cases o with
 | normal=>exact ⟨n-(k+1),by have:=hq.1;omega,k+1,by have:=hq.1;omega,hq.2⟩
 | exit i=>exact hq
 | ret=>exact hq
 | pan v=>exact hq
end
def cdAt:List Nat→Code→Code
 | [],c=>c
 | 0::l,.seq a _=>cdAt l a
 | 1::l,.seq _ b=>cdAt l b
 | 2::l,.block _ b=>cdAt l b
 | 3::l,.loop b=>cdAt l b
 | _::_,c=>c
theorem cd_nil {c:Code}:cdAt [] c=c:=rfl
theorem cd_0 {l:List Nat}{a b:Code}:cdAt (0::l) (.seq a b)=cdAt l a:=rfl
theorem cd_1 {l:List Nat}{a b:Code}:cdAt (1::l) (.seq a b)=cdAt l b:=rfl
theorem cd_2 {l:List Nat}{i:Nat}{a:Code}:cdAt (2::l) (.block i a)=cdAt l a:=rfl
theorem cd_3 {l:List Nat}{a:Code}:cdAt (3::l) (.loop a)=cdAt l a:=rfl
noncomputable def mdC (l:List Nat):Code:=cdAt l ((Tryz.f14).body.getD .skip)
theorem gd_some {c d:Code}:(some c).getD d=c:=rfl
def row0:List Value:=[str [],.slice none 0 0,.slice none 0 0,.slice none 0 0,.int .i64 0,.int .i64 0,str [],.int .i64 0,.int .i64 0,str [],.slice none 0 0,.slice none 0 0,.int .i64 0,.slice none 0 0,.int .i64 0,.int .i64 0,.int .i64 0,.int .i64 0,.int .i64 0,.int .i64 0]
structure MdS (σ:St) (q p:Nat) (v:Value) (l:List Int) (cs:List Value) (fr:Fr) (τ:St):Prop where
 g2:fr.get 2=some (.pointer (some ⟨σ.n,0,none⟩))
 g3:fr.get 3=some (.pointer (some ⟨q,0,none⟩))
 g4:fr.get 4=some (.pointer (some ⟨p,0,none⟩))
 E:Ext σ τ
 Q:GQ q v l τ
 r:τ.orow p=some cs
 lt:p<τ.n
theorem mn_at {k:Nat}(h:k<3):∃ s,sub ([str [112,114,105,99,101],str [108,111,119],str [115,112,101,101,100],str [99,111,109,102,111,114,116],str [119,101,105,103,104,116]]:List Value) (k+2) 1=some [str s]∧critN.take (k+1)=critN.take k++[s]∧wordB s=true∧s.length≤9:=by
 have:k=0∨k=1∨k=2:=by omega
 rcases this with rfl|rfl|rfl
 ·exact ⟨_,rfl,rfl,by decide,by decide⟩
 ·exact ⟨_,rfl,rfl,by decide,by decide⟩
 ·exact ⟨_,rfl,rfl,by decide,by decide⟩
theorem ExtM.updF {q p b:Nat}{σ σ':St}{cs:List Value}(h:ExtM q p σ σ') (hb:σ.n≤b):ExtM q p σ (σ'.upd b cs):=⟨h.n,fun c hc h1 h2=>by rw [upd_get,if_neg (by omega),h.same c hc h1 h2]⟩
theorem lot_cells {L:List Lot}{x:Lot}(h1:0<L.length) (h2:L.length≤2):∃ yl cells,L[L.length-1]? =some yl∧(L.map Lot.row++[x.row]).flatten=cells∧sub cells (L.length*2) 1=some [.int .i64 x.id]∧sub cells ((L.length-1)*2) 1=some [.int .i64 yl.id]∧∀ z,splice cells (L.length*2) [.int .i64 z]=some ((L.map Lot.row++[Lot.row ⟨z,x.most⟩]).flatten):=by
 match L,h1,h2 with
 | [y],_,_=>exact ⟨y,_,rfl,rfl,rfl,rfl,fun z=>rfl⟩
 | [y1,y2],_,_=>exact ⟨y2,_,rfl,rfl,rfl,rfl,fun z=>rfl⟩
theorem rise_last {L:List Lot}{k:Nat}{yl:Lot}(h:Rise L) (hk:L.length=k+1) (hy:L[k]? =some yl):∀ z∈L,z.id≤yl.id:=by
 intro z hz
 obtain ⟨i,hi⟩:=List.getElem?_of_mem hz
 obtain ⟨hi1,hi2⟩:=List.getElem?_eq_some_iff.1 hi
 obtain ⟨hy1,hy2⟩:=List.getElem?_eq_some_iff.1 hy
 rcases Nat.lt_or_ge i k with hlt|hge
 ·have:=List.pairwise_iff_getElem.1 h i k (by rw [List.length_map];omega) (by rw [List.length_map];omega) hlt
  rw [List.getElem_map,List.getElem_map,hi2,hy2] at this
  omega
 ·obtain rfl:i=k:=by omega
  rw [hi2] at hy2
  rw [hy2];omega
theorem mrel_at {x:Nat}(h:(x:Int)<2):∃ s,sub ([str [60,61],str [62,61]]:List Value) x 1=some [str s]∧([[60,61],[62,61]]:List By).contains s=true:=by
 have:x=0∨x=1:=by omega
 rcases this with rfl|rfl
 ·exact ⟨_,rfl,by decide⟩
 ·exact ⟨_,rfl,by decide⟩
theorem mtie_at {k:Nat}(h:k<3):∃ s,sub ([str [112,114,105,99,101],str [115,112,101,101,100],str [99,111,109,102,111,114,116]]:List Value) k 1=some [str s]∧tiesM.take (k+1)=tiesM.take k++[s]:=by
 have:k=0∨k=1∨k=2:=by omega
 rcases this with rfl|rfl|rfl
 ·exact ⟨_,rfl,rfl⟩
 ·exact ⟨_,rfl,rfl⟩
 ·exact ⟨_,rfl,rfl⟩
theorem gw1 {a0 a1 a2 a3 a4 a5 a6 a7 a8 a9 a10 a11 a12 a13 a14 a15 a16 a17 a18 a19 z:Value}:splice [a0,a1,a2,a3,a4,a5,a6,a7,a8,a9,a10,a11,a12,a13,a14,a15,a16,a17,a18,a19] 1 [z]=some [a0,z,a2,a3,a4,a5,a6,a7,a8,a9,a10,a11,a12,a13,a14,a15,a16,a17,a18,a19]:=rfl
theorem gw2 {a0 a1 a2 a3 a4 a5 a6 a7 a8 a9 a10 a11 a12 a13 a14 a15 a16 a17 a18 a19 z:Value}:splice [a0,a1,a2,a3,a4,a5,a6,a7,a8,a9,a10,a11,a12,a13,a14,a15,a16,a17,a18,a19] 2 [z]=some [a0,a1,z,a3,a4,a5,a6,a7,a8,a9,a10,a11,a12,a13,a14,a15,a16,a17,a18,a19]:=rfl
theorem gw3 {a0 a1 a2 a3 a4 a5 a6 a7 a8 a9 a10 a11 a12 a13 a14 a15 a16 a17 a18 a19 z:Value}:splice [a0,a1,a2,a3,a4,a5,a6,a7,a8,a9,a10,a11,a12,a13,a14,a15,a16,a17,a18,a19] 3 [z]=some [a0,a1,a2,z,a4,a5,a6,a7,a8,a9,a10,a11,a12,a13,a14,a15,a16,a17,a18,a19]:=rfl
theorem gw11 {a0 a1 a2 a3 a4 a5 a6 a7 a8 a9 a10 a11 a12 a13 a14 a15 a16 a17 a18 a19 z:Value}:splice [a0,a1,a2,a3,a4,a5,a6,a7,a8,a9,a10,a11,a12,a13,a14,a15,a16,a17,a18,a19] 11 [z]=some [a0,a1,a2,a3,a4,a5,a6,a7,a8,a9,a10,z,a12,a13,a14,a15,a16,a17,a18,a19]:=rfl
theorem gw13 {a0 a1 a2 a3 a4 a5 a6 a7 a8 a9 a10 a11 a12 a13 a14 a15 a16 a17 a18 a19 z:Value}:splice [a0,a1,a2,a3,a4,a5,a6,a7,a8,a9,a10,a11,a12,a13,a14,a15,a16,a17,a18,a19] 13 [z]=some [a0,a1,a2,a3,a4,a5,a6,a7,a8,a9,a10,a11,a12,z,a14,a15,a16,a17,a18,a19]:=rfl
theorem gw15 {a0 a1 a2 a3 a4 a5 a6 a7 a8 a9 a10 a11 a12 a13 a14 a15 a16 a17 a18 a19 z:Value}:splice [a0,a1,a2,a3,a4,a5,a6,a7,a8,a9,a10,a11,a12,a13,a14,a15,a16,a17,a18,a19] 15 [z]=some [a0,a1,a2,a3,a4,a5,a6,a7,a8,a9,a10,a11,a12,a13,a14,z,a16,a17,a18,a19]:=rfl
theorem gw16 {a0 a1 a2 a3 a4 a5 a6 a7 a8 a9 a10 a11 a12 a13 a14 a15 a16 a17 a18 a19 z:Value}:splice [a0,a1,a2,a3,a4,a5,a6,a7,a8,a9,a10,a11,a12,a13,a14,a15,a16,a17,a18,a19] 16 [z]=some [a0,a1,a2,a3,a4,a5,a6,a7,a8,a9,a10,a11,a12,a13,a14,a15,z,a17,a18,a19]:=rfl
theorem gw17 {a0 a1 a2 a3 a4 a5 a6 a7 a8 a9 a10 a11 a12 a13 a14 a15 a16 a17 a18 a19 z:Value}:splice [a0,a1,a2,a3,a4,a5,a6,a7,a8,a9,a10,a11,a12,a13,a14,a15,a16,a17,a18,a19] 17 [z]=some [a0,a1,a2,a3,a4,a5,a6,a7,a8,a9,a10,a11,a12,a13,a14,a15,a16,z,a18,a19]:=rfl
theorem gw18 {a0 a1 a2 a3 a4 a5 a6 a7 a8 a9 a10 a11 a12 a13 a14 a15 a16 a17 a18 a19 z:Value}:splice [a0,a1,a2,a3,a4,a5,a6,a7,a8,a9,a10,a11,a12,a13,a14,a15,a16,a17,a18,a19] 18 [z]=some [a0,a1,a2,a3,a4,a5,a6,a7,a8,a9,a10,a11,a12,a13,a14,a15,a16,a17,z,a19]:=rfl
theorem gw19 {a0 a1 a2 a3 a4 a5 a6 a7 a8 a9 a10 a11 a12 a13 a14 a15 a16 a17 a18 a19 z:Value}:splice [a0,a1,a2,a3,a4,a5,a6,a7,a8,a9,a10,a11,a12,a13,a14,a15,a16,a17,a18,a19] 19 [z]=some [a0,a1,a2,a3,a4,a5,a6,a7,a8,a9,a10,a11,a12,a13,a14,a15,a16,a17,a18,z]:=rfl
theorem gw6 {a0 a1 a2 a3 a4 a5 a6 a7 a8 a9 a10 a11 a12 a13 a14 a15 a16 a17 a18 a19 z0 z1 z2 z3 z4:Value}:splice [a0,a1,a2,a3,a4,a5,a6,a7,a8,a9,a10,a11,a12,a13,a14,a15,a16,a17,a18,a19] 6 [z0,z1,z2,z3,z4]=some [a0,a1,a2,a3,a4,a5,z0,z1,z2,z3,z4,a11,a12,a13,a14,a15,a16,a17,a18,a19]:=rfl
end Go.Proofs.T
namespace Go.Proofs.T
open Go Go.Ab
open Nat (reduceMul reduceEqDiff reduceAdd)
set_option maxRecDepth 100000
set_option maxHeartbeats 32000000 in
theorem md_lots {σ τ0:St}{fr0:Fr}{q p:Nat}{v:Value}{l:List Int}{H0:List Nat}{a0 a2 a3 a4 a5 a6 a7 a8 a9 a10 a11 a12 a13 a14 a15 a16 a17 a18 a19:Value}(hl:ArgInts (hide σ H0) v l) (hll:l.length≤9223372036854775807) (hq:σ.n≤q) (hqp:q<p) (h0:MdS σ q p v l [a0,.slice none 0 0,a2,a3,a4,a5,a6,a7,a8,a9,a10,a11,a12,a13,a14,a15,a16,a17,a18,a19] fr0 τ0) (gc0:fr0.get 6=some (.int .i64 0)){nl:Nat}(n3:nl≤3) (gn:fr0.get 5=some (.int .i64 (nl:Nat))) :
  Ev (lim Tryz.prog HS none (.loop (mdC [1,1,1,1,0,1,2,3])) fr0 τ0) (fun r=>∃ fr τ u,∃ L:List Lot,r=⟨.exit 0,fr,τ⟩∧MdS σ q p v l [a0,u,a2,a3,a4,a5,a6,a7,a8,a9,a10,a11,a12,a13,a14,a15,a16,a17,a18,a19] fr τ∧ExtM q p τ0 τ∧OL τ0.n τ 2 u (L.map Lot.row)∧L.length=nl∧(Rise L∧∀ y∈L,1≤y.id∧y.id≤1+2*(L.length:Int)∧0≤y.most∧y.most≤199)) ⟨⟩:=by
 have hp0:=h0.lt
 refine ev_count nl (fun k fr τ=>fr.get 6=some (.int .i64 (k:Nat))∧fr.get 5=some (.int .i64 (nl:Nat))∧ExtM q p τ0 τ∧∃ u,∃ L:List Lot,MdS σ q p v l [a0,u,a2,a3,a4,a5,a6,a7,a8,a9,a10,a11,a12,a13,a14,a15,a16,a17,a18,a19] fr τ∧OL τ0.n τ 2 u (L.map Lot.row)∧L.length=k∧(Rise L∧∀ y∈L,1≤y.id∧y.id≤1+2*(L.length:Int)∧0≤y.most∧y.most≤199))
  (fun r=>∃ fr τ u,∃ L:List Lot,r=⟨.exit 0,fr,τ⟩∧MdS σ q p v l [a0,u,a2,a3,a4,a5,a6,a7,a8,a9,a10,a11,a12,a13,a14,a15,a16,a17,a18,a19] fr τ∧ExtM q p τ0 τ∧OL τ0.n τ 2 u (L.map Lot.row)∧L.length=nl∧(Rise L∧∀ y∈L,1≤y.id∧y.id≤1+2*(L.length:Int)∧0≤y.most∧y.most≤199)) ?_ ?_ ?_ (fun r h=>h)
 ·exact ⟨gc0,gn,.refl,_,[],h0,OL.nil,rfl,rise_nil,fun y hy=>by cases hy⟩
 ·rintro k fr τ hk ⟨gc,g5,hX,u,L,⟨g2,g3,g4,hE,hQ,rp,hp⟩,ho,hL,hR,hB⟩
  have hc:=lt_true hk
  have nX:=hX.n
  have rr:=row_of rp
  have bv:blkOf u≠some p:=fun hb=>by have:=(ho.blk hb).1;omega
  simp only [mdC,Tryz.f14,gd_some,cd_nil,cd_0,cd_1,cd_2,cd_3]
  simp (maxSteps:=8000000) (disch:=first|exact dS|fail) only [↓bD,bU,reduceMul,reduceEqDiff,reduceAdd,Nat.reduceBEq,reduceIte,Option.isNone_none,splice_succ,ap22,ap29,ap30,ap33,ap36,ap37,ap43,ap97,ap202,gc,g2,g3,g4,g5,hc,rr]
  refine (nxg (n:=2) hl hll hE hq (by omega) hQ (by omega) (by omega)).mono ?_
  rintro r ⟨x,σ5,rfl,hx,Ex,Qx,Xx⟩
  have nx:=Xx.n
  have rp:σ5.orow p=some _:=(Xx.orow (by omega) (by omega)).trans rp
  obtain ⟨i,hi,i0,i1⟩:∃ i:Int,(k:Int)*(1+(x:Int))=i∧0≤i∧i≤2*(k:Int):=by
   refine ⟨_,rfl,?_,?_⟩
   ·exact Int.mul_nonneg (by omega) (by omega)
   ·rcases (by omega:x=0∨x=1) with rfl|rfl
    ·show (k:Int)*1≤_;omega
    ·show (k:Int)*2≤_;omega
  simp (maxSteps:=8000000) (disch:=first|exact dS|fail) only [↓bD,bU,reduceMul,reduceEqDiff,reduceAdd,Nat.reduceBEq,reduceIte,Option.isNone_none,splice_succ,ap22,ap29,ap30,ap33,ap36,ap37,ap43,ap97,ap202,gc,g2,g3,g4,g5,hi]
  refine (nxg (n:=200) hl hll Ex hq (by omega) Qx (by omega) (by omega)).mono ?_
  rintro r ⟨y,σ6,rfl,hy,Ey,Qy,Xy⟩
  have ny:=Xy.n
  have rp:σ6.orow p=some _:=(Xy.orow (by omega) (by omega)).trans rp
  have rp':=rp
  simp (maxSteps:=8000000) (disch:=first|exact dS|fail) only [↓bD,bU,reduceMul,reduceEqDiff,reduceAdd,Nat.reduceBEq,reduceIte,Option.isNone_none,splice_succ,ap22,ap29,ap30,ap33,ap36,ap37,ap43,ap97,ap202,gc,g2,g3,g4,g5,hi]
  have hoN:OL τ0.n (σ6.new [.int .i64 (1+i),.int .i64 (y:Int)]) 2 u (L.map Lot.row):=OL.ext (OL.keepX (OL.keepX ho Xx (by omega)) Xy (by omega)) (.new _ _)
  have hXN:ExtM q p τ0 (σ6.new [.int .i64 (1+i),.int .i64 (y:Int)]):=((hX.trans (.xq Xx)).trans (.xq Xy)).trans (.of (Ext.new' (.refl _) _))
  refine ev_append (row:=Lot.row ⟨1+i,(y:Int)⟩) (fun _ _ _ _=>ap28) hoN (row_new_same (Nat.le_refl _) (Nat.le_refl _)) (sub_full (by simp [Lot.row]) (by simp)) (by rw [List.length_map];omega) (by simp;omega) ?_
  rintro u' σ8 ho' hA -
  have n8:=hA.n
  simp only [new_n] at n8
  obtain ⟨b',sp,rfl,hsp,b1,b2,b3⟩:∃ b' sp,u'= .slice (some ⟨b',0,sp⟩) (k+1) (k+1)∧(sp=none∨sp=some 2)∧τ0.n≤b'∧b'<σ8.n∧σ8.orow b'=some ((L.map Lot.row++[Lot.row ⟨1+i,(y:Int)⟩]).flatten):=by
   obtain ⟨hr',⟨hv',hz⟩|⟨b',sp,hv',hs',b1,b2,b3⟩⟩:=ho'
   ·simp at hz
   ·exact ⟨b',sp,by rw [hv'];simp [hL],hs',b1,b2,b3⟩
  have bne:b'≠p:=by omega
  have r8:σ8.orow p=some _:=(orow_congr (hA.same p (by simp;omega) bv)).trans ((orow_new_ne (by first|omega|(simp;omega))).trans rp')
  have qN:GQ q v l (σ6.new [.int .i64 (1+i),.int .i64 (y:Int)]):=Qy.ext (.new _ _) (by omega)
  have hMf:ExtM q p τ0 σ8:=ExtM.app hA hXN hoN (Nat.le_refl _)
  have hE':Ext σ σ8:=hMf.ext h0.E hq (by omega)
  have qF:GQ q v l σ8:=qN.app hA hoN (by first|omega|(simp;omega)) (by omega)
  simp (maxSteps:=8000000) (disch:=first|exact dS|fail) only [↓bD,bU,reduceMul,reduceEqDiff,reduceAdd,Nat.reduceBEq,reduceIte,Option.isNone_none,ap22,ap29,ap30,ap33,ap36,ap37,ap43,ap97,ap202,gw1,g2,g3,g4,g5,gc,r8]
  refine Must.intro (by (repeat first|simp (disch:=omega) only [as_read,as_upd,as_newb,asx (Ext.refl _),as_extx (b:=p) Xx (by omega),as_extx (b:=p) Xy (by omega)]|rw [as_ord (by kernel_rfl)]);first|done|rfl) ?_
  rcases Nat.eq_zero_or_pos k with hk0|hk0
  ·have hd:decide ((0:Int)<(k:Int))=false:=decide_eq_false (by omega)
   simp (maxSteps:=8000000) (disch:=first|exact dS|fail) only [↓bD,bU,reduceMul,reduceEqDiff,reduceAdd,Nat.reduceBEq,reduceIte,Option.isNone_none,ap22,ap29,ap30,ap33,ap36,ap37,ap43,ap97,ap202,gw1,g2,g3,g4,g5,gc,hd,yu_t,yu_f]
   obtain rfl:L=[]:=List.eq_nil_of_length_eq_zero (by omega)
   refine ⟨fR,fR1 g5,hMf.upd,_,[⟨1+i,(y:Int)⟩],⟨fR1 g2,fR1 g3,fR1 g4,hE'.upd (by omega) _,qF.x (ExtX.refl.upd _) (by omega) (by omega),cL,by simp;omega⟩,OL.upd ho' (by omega),by simp;omega,?_,?_⟩
   ·exact List.pairwise_singleton _ _
   ·intro z hz
    rw [List.mem_singleton] at hz;subst hz
    exact ⟨by show 1≤1+i;omega,by show 1+i≤1+2*((1:Nat):Int);omega,by show (0:Int)≤(y:Int);omega,by show (y:Int)≤199;omega⟩
  ·obtain ⟨j,rfl⟩:∃ j,k=j+1:=⟨k-1,by omega⟩
   have hd:decide ((0:Int)<((j+1:Nat):Int))=true:=decide_eq_true (by omega)
   have e1:((j+1:Nat):Int)-1=(j:Int):=by omega
   obtain ⟨yl,cells,hyl,hce,s1,s2,s3⟩:=lot_cells (L:=L) (x:=⟨1+i,(y:Int)⟩) (by omega) (by omega)
   rw [hL,Nat.add_sub_cancel] at hyl s2
   rw [hL] at s1 s3
   rw [hce] at b3
   have b3r:=row_of b3
   have hyb:=hB yl (List.mem_of_getElem? hyl)
   have hRs:=rise_last hR (k:=j) (by omega) hyl
   cases hcmp:decide (yl.id<1+i) with
   | true =>
     simp (maxSteps:=8000000) (disch:=first|exact dS|fail) only [↓bD,bU,reduceMul,reduceEqDiff,reduceAdd,Nat.reduceBEq,reduceIte,Option.isNone_none,ap22,ap29,ap30,ap33,ap36,ap37,ap43,ap97,ap202,gw1,g2,g3,g4,g5,gc,hd,e1,b3r,s1,s2,hcmp,yu_t,yu_f]
     refine ⟨fR,fR1 g5,hMf.upd,_,L++[⟨1+i,(y:Int)⟩],⟨fR1 g2,fR1 g3,fR1 g4,hE'.upd (by omega) _,qF.x (ExtX.refl.upd _) (by omega) (by omega),cL,by simp;omega⟩,?_,by simp [hL],?_,?_⟩
     ·rw [List.map_append]
      exact OL.upd ho' (by omega)
     ·exact rise_snoc hR fun z hz=>Int.lt_of_le_of_lt (hRs z hz) (of_decide_eq_true hcmp)
     ·intro z hz
      rw [List.length_append,hL]
      simp only [List.length_cons,List.length_nil]
      rcases List.mem_append.1 hz with hz|hz
      ·have:=hB z hz
       rw [hL] at this
       omega
      ·rw [List.mem_singleton] at hz;subst hz
       dsimp only
       omega
   | false =>
     have hle:=of_decide_eq_false hcmp
     rw [hL] at hyb
     simp (maxSteps:=8000000) (disch:=first|exact dS|fail) only [↓bD,bU,reduceMul,reduceEqDiff,reduceAdd,Nat.reduceBEq,reduceIte,Option.isNone_none,ap22,ap29,ap30,ap33,ap36,ap37,ap43,ap97,ap202,gw1,g2,g3,g4,g5,gc,hd,e1,b3,b3r,s1,s2,s3,hcmp,yu_t,yu_f]
     refine Must.intro (by (repeat first|simp (disch:=omega) only [as_read,as_upd,as_newb,asx (Ext.refl _)]|rw [as_ord (by kernel_rfl)]);first|done|rfl) ?_
     simp (maxSteps:=8000000) (disch:=first|exact dS|fail) only [↓bD,bU,reduceMul,reduceEqDiff,reduceAdd,Nat.reduceBEq,reduceIte,Option.isNone_none,ap22,ap29,ap30,ap33,ap36,ap37,ap43,ap97,ap202,gw1,g2,g3,g4,g5,gc]
     refine ⟨fR,fR1 g5,ExtM.updF hMf.upd b1,_,L++[⟨yl.id+1,(y:Int)⟩],⟨fR1 g2,fR1 g3,fR1 g4,(hE'.upd (by omega) _).upd (by omega) _,(qF.x (ExtX.refl.upd _) (by omega) (by omega)).x (ExtX.refl.upd _) (by simp;omega) (by omega),cL,by simp;omega⟩,?_,by simp [hL],?_,?_⟩
     ·refine ⟨fun r hr=>?_,.inr ⟨b',sp,by simp [hL],hsp,b1,by simp;omega,by rw [List.map_append];exact orow_upd_same⟩⟩
      rw [List.map_append] at hr
      rcases List.mem_append.1 hr with hr|hr
      ·obtain ⟨x,-,rfl⟩:=List.mem_map.1 hr;rfl
      ·obtain ⟨x,-,rfl⟩:=List.mem_map.1 hr;rfl
     ·exact rise_snoc hR fun z hz=>Int.lt_add_one_of_le (hRs z hz)
     ·intro z hz
      rw [List.length_append,hL]
      simp only [List.length_cons,List.length_nil]
      rcases List.mem_append.1 hz with hz|hz
      ·have:=hB z hz
       rw [hL] at this
       omega
      ·rw [List.mem_singleton] at hz;subst hz
       dsimp only
       omega
 ·clear gn gc0
  rintro fr τ ⟨gc,g5,hX,u,L,⟨g2,g3,g4,hE,hQ,rp,hp⟩,ho,hL,hR,hB⟩
  simp only [mdC,Tryz.f14,gd_some,cd_nil,cd_0,cd_1,cd_2,cd_3]
  simp (maxSteps:=8000000) (disch:=first|exact dS|fail) only [↓bD,bU,reduceMul,reduceEqDiff,reduceAdd,Nat.reduceBEq,reduceIte,Option.isNone_none,splice_succ,bunAP,gc,g5,lt_self]
  exact ⟨_,_,u,L,rfl,⟨fR1 g2,fR1 g3,fR1 g4,hE,hQ,rp,hp⟩,hX,ho,hL,hR,hB⟩
end Go.Proofs.T
namespace Go.Proofs.T
open Go Go.Ab
open Nat (reduceMul reduceEqDiff reduceAdd)
set_option maxRecDepth 100000
set_option maxHeartbeats 32000000 in
theorem md_crits {σ τ0:St}{fr0:Fr}{q p:Nat}{v:Value}{l:List Int}{H0:List Nat}{a0 a1 a3 a4 a5 a6 a7 a8 a9 a10 a11 a12 a13 a14 a15 a16 a17 a18 a19:Value}(hl:ArgInts (hide σ H0) v l) (hll:l.length≤9223372036854775807) (hq:σ.n≤q) (hqp:q<p) (h0:MdS σ q p v l [a0,a1,.slice none 0 0,a3,a4,a5,a6,a7,a8,a9,a10,a11,a12,a13,a14,a15,a16,a17,a18,a19] fr0 τ0) (gc0:fr0.get 7=some (.int .i64 0)) :
  Ev (lim Tryz.prog HS none (.loop (mdC [1,1,1,1,1,0,1,2,3])) fr0 τ0) (fun r=>∃ fr τ u,∃ L:List Crit,r=⟨.exit 2,fr,τ⟩∧MdS σ q p v l [a0,a1,u,a3,a4,a5,a6,a7,a8,a9,a10,a11,a12,a13,a14,a15,a16,a17,a18,a19] fr τ∧ExtM q p τ0 τ∧OL τ0.n τ 5 u (L.map Crit.row)∧L.length≤3∧L.map Crit.name=critN.take L.length∧∀ c∈L,(c.kind=1∨c.kind=2)∧0≤c.low∧c.low≤3∧0≤c.high∧c.high≤8) ⟨⟩:=by
 have hp0:=h0.lt
 refine ev_upto 3 (fun k fr τ=>fr.get 7=some (.int .i64 (k:Nat))∧ExtM q p τ0 τ∧∃ u,∃ L:List Crit,MdS σ q p v l [a0,a1,u,a3,a4,a5,a6,a7,a8,a9,a10,a11,a12,a13,a14,a15,a16,a17,a18,a19] fr τ∧OL τ0.n τ 5 u (L.map Crit.row)∧L.length=k∧L.map Crit.name=critN.take L.length∧∀ c∈L,(c.kind=1∨c.kind=2)∧0≤c.low∧c.low≤3∧0≤c.high∧c.high≤8)
  (fun r=>∃ fr τ u,∃ L:List Crit,r=⟨.exit 2,fr,τ⟩∧MdS σ q p v l [a0,a1,u,a3,a4,a5,a6,a7,a8,a9,a10,a11,a12,a13,a14,a15,a16,a17,a18,a19] fr τ∧ExtM q p τ0 τ∧OL τ0.n τ 5 u (L.map Crit.row)∧L.length≤3∧L.map Crit.name=critN.take L.length∧∀ c∈L,(c.kind=1∨c.kind=2)∧0≤c.low∧c.low≤3∧0≤c.high∧c.high≤8) ?_ ?_ (fun r h=>h)
 ·exact ⟨gc0,.refl,_,[],h0,OL.nil,rfl,rfl,fun c hc=>by cases hc⟩
 ·rintro k fr τ hk ⟨gc,hX,u,L,⟨g2,g3,g4,hE,hQ,rp,hp⟩,ho,hL,hP⟩
  have nX:=hX.n
  have bv:blkOf u≠some p:=fun hb=>by have:=(ho.blk hb).1;omega
  simp only [mdC,Tryz.f14,gd_some,cd_nil,cd_0,cd_1,cd_2,cd_3]
  simp (maxSteps:=8000000) (disch:=first|exact dS|fail) only [↓bD,bU,reduceMul,reduceEqDiff,reduceAdd,Nat.reduceBEq,reduceIte,Option.isNone_none,splice_succ,ap22,ap28,ap30,ap33,ap36,ap37,ap43,ap97,ap202,gc,g2,g3,g4]
  refine (nxg (n:=4) hl hll hE hq (by first|omega|(simp;omega)) hQ (by omega) (by omega)).mono ?_
  rintro r ⟨x0,σ1,rfl,hx0,Ex0,Qx0,Xx0⟩
  have nx0:=Xx0.n
  try simp only [new_n] at nx0
  have rp:σ1.orow p=some _:=(Xx0.orow (by first|omega|(simp;omega)) (by omega)).trans rp
  have rr:=row_of rp
  rcases Nat.lt_or_ge x0 (k+1) with hkx|hkx
  ·have hc:decide (k<x0)=false:=decide_eq_false (by omega)
   simp (maxSteps:=8000000) (disch:=first|exact dS|fail) only [↓bD,bU,reduceMul,reduceEqDiff,reduceAdd,Nat.reduceBEq,reduceIte,Option.isNone_none,splice_succ,bunAP,gc,hc,up_exit]
   exact ⟨_,_,u,L,rfl,⟨fR1 g2,fR1 g3,fR1 g4,Ex0,Qx0,rp,by omega⟩,hX.trans (.xq Xx0),OL.keepX ho Xx0 (by omega),by omega,hP⟩
  have hc:=lt_true hkx
  simp (maxSteps:=8000000) (disch:=first|exact dS|fail) only [↓bD,bU,reduceMul,reduceEqDiff,reduceAdd,Nat.reduceBEq,reduceIte,Option.isNone_none,splice_succ,ap22,ap28,ap30,ap33,ap36,ap37,ap43,ap97,ap202,gc,g2,g3,g4,hc,rr]
  refine (nxg (n:=4) hl hll Ex0 hq (by first|omega|(simp;omega)) Qx0 (by omega) (by omega)).mono ?_
  rintro r ⟨lw,σ2,rfl,hlw,Elw,Qlw,Xlw⟩
  have nlw:=Xlw.n
  try simp only [new_n] at nlw
  have rp:σ2.orow p=some _:=(Xlw.orow (by first|omega|(simp;omega)) (by omega)).trans rp
  have rr:=row_of rp
  simp (maxSteps:=8000000) (disch:=first|exact dS|fail) only [↓bD,bU,reduceMul,reduceEqDiff,reduceAdd,Nat.reduceBEq,reduceIte,Option.isNone_none,splice_succ,ap22,ap28,ap30,ap33,ap36,ap37,ap43,ap97,ap202,gc,g2,g3,g4,rr]
  refine names_ok.mono ?_
  rintro r ⟨bn,σ3,rfl,F3,bn1,bn2,rn⟩
  have n3:=F3.n
  have rp:σ3.orow p=some _:=(F3.orow (by omega)).trans rp
  have rr:=row_of rp
  have rnr:=row_of rn
  obtain ⟨j,hj,hjk⟩:∃ j:Nat,2+(k:Int)=(j:Int)∧j=k+2:=⟨k+2,by omega,rfl⟩
  obtain ⟨nm,hnm,htk,hnw,hn9⟩:=mn_at (show k<3 by omega)
  rw [← hjk] at hnm
  simp (maxSteps:=8000000) (disch:=first|exact dS|fail) only [↓bD,bU,reduceMul,reduceEqDiff,reduceAdd,Nat.reduceBEq,reduceIte,Option.isNone_none,splice_succ,ap22,ap28,ap30,ap33,ap36,ap37,ap43,ap97,ap202,gc,g2,g3,g4,hj,rnr,hnm]
  refine (nxg (n:=2) hl hll (Elw.trans F3) hq (by first|omega|(simp;omega)) (Qlw.ext F3 (by omega)) (by omega) (by omega)).mono ?_
  rintro r ⟨y,σ4,rfl,hy,Ey,Qy,Xy⟩
  have ny:=Xy.n
  try simp only [new_n] at ny
  have rp:σ4.orow p=some _:=(Xy.orow (by first|omega|(simp;omega)) (by omega)).trans rp
  have rr:=row_of rp
  simp (maxSteps:=8000000) (disch:=first|exact dS|fail) only [↓bD,bU,reduceMul,reduceEqDiff,reduceAdd,Nat.reduceBEq,reduceIte,Option.isNone_none,splice_succ,ap22,ap28,ap30,ap33,ap36,ap37,ap43,ap97,ap202,gc,g2,g3,g4]
  refine (nxg (n:=6) hl hll Ey hq (by first|omega|(simp;omega)) Qy (by omega) (by omega)).mono ?_
  rintro r ⟨z,σ5,rfl,hz,Ez,Qz,Xz⟩
  have nz:=Xz.n
  try simp only [new_n] at nz
  have rp:σ5.orow p=some _:=(Xz.orow (by first|omega|(simp;omega)) (by omega)).trans rp
  have rr:=row_of rp
  simp (maxSteps:=8000000) (disch:=first|exact dS|fail) only [↓bD,bU,reduceMul,reduceEqDiff,reduceAdd,Nat.reduceBEq,reduceIte,Option.isNone_none,splice_succ,ap22,ap28,ap30,ap33,ap36,ap37,ap43,ap97,ap202,gc,g2,g3,g4]
  refine (nxg (n:=3) hl hll Ez hq (by first|omega|(simp;omega)) Qz (by omega) (by omega)).mono ?_
  rintro r ⟨w,σ6,rfl,hw,Ew,Qw,Xw⟩
  have nw:=Xw.n
  try simp only [new_n] at nw
  have rp:σ6.orow p=some _:=(Xw.orow (by first|omega|(simp;omega)) (by omega)).trans rp
  have rr:=row_of rp
  simp (maxSteps:=8000000) (disch:=first|exact dS|fail) only [↓bD,bU,reduceMul,reduceEqDiff,reduceAdd,Nat.reduceBEq,reduceIte,Option.isNone_none,splice_succ,ap22,ap28,ap30,ap33,ap36,ap37,ap43,ap97,ap202,gc,g2,g3,g4,rr]
  have hoN:OL τ0.n (σ6.new [str nm,.int .i64 (1+(y:Int)),.int .i64 (lw:Int),.int .i64 ((lw:Int)+(z:Int)),.bool (decide ((w:Int)=0))]) 5 u (L.map Crit.row):=OL.ext (OL.keepX (OL.keepX (OL.keepX (OL.ext (OL.keepX (OL.keepX ho Xx0 (by omega)) Xlw (by omega)) F3) Xy (by omega)) Xz (by omega)) Xw (by omega)) (.new _ _)
  have hXN:ExtM q p τ0 (σ6.new [str nm,.int .i64 (1+(y:Int)),.int .i64 (lw:Int),.int .i64 ((lw:Int)+(z:Int)),.bool (decide ((w:Int)=0))]):=((((((hX.trans (.xq Xx0)).trans (.xq Xlw)).trans (.of F3)).trans (.xq Xy)).trans (.xq Xz)).trans (.xq Xw)).trans (.of (Ext.new' (.refl _) _))
  refine ev_append (row:=(Crit.row) ⟨nm,1+(y:Int),(lw:Int),(lw:Int)+(z:Int),decide ((w:Int)=0)⟩) (fun _ _ _ _=>ap29) hoN (row_new_same (Nat.le_refl _) (Nat.le_refl _)) (sub_full (by simp [Crit.row,Req.row]) (by simp)) (by rw [List.length_map];omega) (by simp;omega) ?_
  rintro u' σ8 ho' hA -
  obtain ⟨ua,n1,rfl⟩:∃ ua n,u'= .slice ua n n:=by obtain ⟨a,h⟩:=OL.shape ho';exact ⟨a,_,h⟩
  have r8:σ8.orow p=some _:=(orow_congr (hA.same p (by simp;omega) bv)).trans ((orow_new_ne (by first|omega|(simp;omega))).trans rp)
  have qN:GQ q v l (σ6.new [str nm,.int .i64 (1+(y:Int)),.int .i64 (lw:Int),.int .i64 ((lw:Int)+(z:Int)),.bool (decide ((w:Int)=0))]):=Qw.ext (.new _ _) (by first|omega|(simp;omega))
  have n8:=hA.n
  simp only [new_n] at n8
  simp (maxSteps:=8000000) (disch:=first|exact dS|fail) only [↓bD,bU,reduceMul,reduceEqDiff,reduceAdd,Nat.reduceBEq,reduceIte,Option.isNone_none,ap22,ap28,ap30,ap33,ap36,ap37,ap43,ap97,ap202,gw2,g2,g3,g4,gc,r8]
  refine Must.intro (by (repeat first|simp (disch:=omega) only [as_read,as_upd,as_newb,asx (Ext.refl _),asx F3,as_extx (b:=p) Xy (by omega),as_extx (b:=p) Xz (by omega),as_extx (b:=p) Xw (by omega),as_extx (b:=bn) Xy (by omega),as_extx (b:=bn) Xz (by omega),as_extx (b:=bn) Xw (by omega)]|rw [as_ord (by kernel_rfl)]);first|done|rfl) ?_
  simp (maxSteps:=8000000) (disch:=first|exact dS|fail) only [↓bD,bU,reduceMul,reduceEqDiff,reduceAdd,Nat.reduceBEq,reduceIte,Option.isNone_none,ap22,ap28,ap30,ap33,ap36,ap37,ap43,ap97,ap202,gw2,g2,g3,g4,gc,up_normal]
  have hM8:ExtM q p τ0 σ8:=ExtM.app hA hXN hoN (Nat.le_refl _)
  refine ⟨by omega,fR,hM8.upd,_,L++[⟨nm,1+(y:Int),(lw:Int),(lw:Int)+(z:Int),decide ((w:Int)=0)⟩],⟨fR1 g2,fR1 g3,fR1 g4,(hM8.ext h0.E hq (by omega)).upd (by omega) _,(qN.app hA hoN (by first|omega|(simp;omega)) (by omega)).x (ExtX.refl.upd _) (by omega) (by omega),cL,by simp;omega⟩,?_,by simp [hL],by rw [List.map_append,hP.1,List.length_append,hL];exact htk.symm,?_⟩
  rotate_left
  ·intro c hc
   rcases List.mem_append.1 hc with hc|hc
   ·exact hP.2 c hc
   ·rw [List.mem_singleton] at hc;subst hc
    exact ⟨by show 1+(y:Int)=1∨1+(y:Int)=2;omega,by show (0:Int)≤(lw:Int);omega,by show (lw:Int)≤3;omega,by show (0:Int)≤(lw:Int)+(z:Int);omega,by show (lw:Int)+(z:Int)≤8;omega⟩
  ·rw [List.map_append]
   exact OL.upd ho' (by omega)
end Go.Proofs.T
namespace Go.Proofs.T
open Go Go.Ab
open Nat (reduceMul reduceEqDiff reduceAdd)
set_option maxRecDepth 100000
set_option maxHeartbeats 32000000 in
theorem md_reqs {σ τ0:St}{fr0:Fr}{q p:Nat}{v:Value}{l:List Int}{H0:List Nat}{a0 a1 a2 a4 a5 a6 a7 a8 a9 a10 a11 a12 a13 a14 a15 a16 a17 a18 a19:Value}(hl:ArgInts (hide σ H0) v l) (hll:l.length≤9223372036854775807) (hq:σ.n≤q) (hqp:q<p) (h0:MdS σ q p v l [a0,a1,a2,.slice none 0 0,a4,a5,a6,a7,a8,a9,a10,a11,a12,a13,a14,a15,a16,a17,a18,a19] fr0 τ0) (gc0:fr0.get 9=some (.int .i64 0)) :
  Ev (lim Tryz.prog HS none (.loop (mdC [1,1,1,1,1,1,0,1,2,3])) fr0 τ0) (fun r=>∃ fr τ u,∃ L:List Req,r=⟨.exit 4,fr,τ⟩∧MdS σ q p v l [a0,a1,a2,u,a4,a5,a6,a7,a8,a9,a10,a11,a12,a13,a14,a15,a16,a17,a18,a19] fr τ∧ExtM q p τ0 τ∧OL τ0.n τ 3 u (L.map Req.row)∧L.length≤2∧∀ x∈L,(wordB x.name=true∧x.name.length≤9)∧([[60,61],[62,61]]:List By).contains x.rel=true∧0≤x.value∧x.value≤7) ⟨⟩:=by
 have hp0:=h0.lt
 refine ev_upto 2 (fun k fr τ=>fr.get 9=some (.int .i64 (k:Nat))∧ExtM q p τ0 τ∧∃ u,∃ L:List Req,MdS σ q p v l [a0,a1,a2,u,a4,a5,a6,a7,a8,a9,a10,a11,a12,a13,a14,a15,a16,a17,a18,a19] fr τ∧OL τ0.n τ 3 u (L.map Req.row)∧L.length=k∧∀ x∈L,(wordB x.name=true∧x.name.length≤9)∧([[60,61],[62,61]]:List By).contains x.rel=true∧0≤x.value∧x.value≤7)
  (fun r=>∃ fr τ u,∃ L:List Req,r=⟨.exit 4,fr,τ⟩∧MdS σ q p v l [a0,a1,a2,u,a4,a5,a6,a7,a8,a9,a10,a11,a12,a13,a14,a15,a16,a17,a18,a19] fr τ∧ExtM q p τ0 τ∧OL τ0.n τ 3 u (L.map Req.row)∧L.length≤2∧∀ x∈L,(wordB x.name=true∧x.name.length≤9)∧([[60,61],[62,61]]:List By).contains x.rel=true∧0≤x.value∧x.value≤7) ?_ ?_ (fun r h=>h)
 ·exact ⟨gc0,.refl,_,[],h0,OL.nil,rfl,fun c hc=>by cases hc⟩
 ·rintro k fr τ hk ⟨gc,hX,u,L,⟨g2,g3,g4,hE,hQ,rp,hp⟩,ho,hL,hP⟩
  have nX:=hX.n
  have bv:blkOf u≠some p:=fun hb=>by have:=(ho.blk hb).1;omega
  simp only [mdC,Tryz.f14,gd_some,cd_nil,cd_0,cd_1,cd_2,cd_3]
  simp (maxSteps:=8000000) (disch:=first|exact dS|fail) only [↓bD,bU,reduceMul,reduceEqDiff,reduceAdd,Nat.reduceBEq,reduceIte,Option.isNone_none,splice_succ,ap22,ap28,ap29,ap33,ap36,ap37,ap43,ap97,ap202,gc,g2,g3,g4]
  refine (nxg (n:=3) hl hll hE hq (by first|omega|(simp;omega)) hQ (by omega) (by omega)).mono ?_
  rintro r ⟨x0,σ1,rfl,hx0,Ex0,Qx0,Xx0⟩
  have nx0:=Xx0.n
  try simp only [new_n] at nx0
  have rp:σ1.orow p=some _:=(Xx0.orow (by first|omega|(simp;omega)) (by omega)).trans rp
  have rr:=row_of rp
  rcases Nat.lt_or_ge x0 (k+1) with hkx|hkx
  ·have hc:decide (k<x0)=false:=decide_eq_false (by omega)
   simp (maxSteps:=8000000) (disch:=first|exact dS|fail) only [↓bD,bU,reduceMul,reduceEqDiff,reduceAdd,Nat.reduceBEq,reduceIte,Option.isNone_none,splice_succ,bunAP,gc,hc,up_exit]
   exact ⟨_,_,u,L,rfl,⟨fR1 g2,fR1 g3,fR1 g4,Ex0,Qx0,rp,by omega⟩,hX.trans (.xq Xx0),OL.keepX ho Xx0 (by omega),by omega,hP⟩
  have hc:=lt_true hkx
  simp (maxSteps:=8000000) (disch:=first|exact dS|fail) only [↓bD,bU,reduceMul,reduceEqDiff,reduceAdd,Nat.reduceBEq,reduceIte,Option.isNone_none,splice_succ,ap22,ap28,ap29,ap33,ap36,ap37,ap43,ap97,ap202,gc,g2,g3,g4,hc,rr]
  refine names_ok.mono ?_
  rintro r ⟨bn,σ2,rfl,F2,bn1,bn2,rn⟩
  have n2:=F2.n
  have rp:σ2.orow p=some _:=(F2.orow (by omega)).trans rp
  have rr:=row_of rp
  simp (maxSteps:=8000000) (disch:=first|exact dS|fail) only [↓bD,bU,reduceMul,reduceEqDiff,reduceAdd,Nat.reduceBEq,reduceIte,Option.isNone_none,splice_succ,ap22,ap28,ap29,ap33,ap36,ap37,ap43,ap97,ap202,gc,g2,g3,g4]
  refine (nxg (n:=3) hl hll (Ex0.trans F2) hq (by first|omega|(simp;omega)) (Qx0.ext F2 (by omega)) (by omega) (by omega)).mono ?_
  rintro r ⟨x,σ3,rfl,hx,Ex,Qx,Xx⟩
  have nx:=Xx.n
  try simp only [new_n] at nx
  have rp:σ3.orow p=some _:=(Xx.orow (by first|omega|(simp;omega)) (by omega)).trans rp
  have rr:=row_of rp
  have rnr:σ3.row bn=some _:=(Xx.row (by omega) (by omega)).trans (row_of rn)
  obtain ⟨j,hj,hjk⟩:∃ j:Nat,2+(x:Int)=(j:Int)∧j=x+2:=⟨x+2,by omega,rfl⟩
  obtain ⟨nm,hnm,-,hnw,hn9⟩:=mn_at (show x<3 by omega)
  rw [← hjk] at hnm
  simp (maxSteps:=8000000) (disch:=first|exact dS|fail) only [↓bD,bU,reduceMul,reduceEqDiff,reduceAdd,Nat.reduceBEq,reduceIte,Option.isNone_none,splice_succ,ap22,ap28,ap29,ap33,ap36,ap37,ap43,ap97,ap202,gc,g2,g3,g4,hj,rnr,hnm]
  have rp:(σ3.new [str [60,61],str [62,61]]).orow p=some _:=(orow_new_ne (by omega)).trans rp
  refine (nxg (n:=2) hl hll (Ex.trans (.new _ _)) hq (by first|omega|(simp;omega)) (Qx.ext (.new _ _) (by omega)) (by omega) (by omega)).mono ?_
  rintro r ⟨y,σ4,rfl,hy,Ey,Qy,Xy⟩
  have ny:=Xy.n
  try simp only [new_n] at ny
  have rp:σ4.orow p=some _:=(Xy.orow (by first|omega|(simp;omega)) (by omega)).trans rp
  have rr:=row_of rp
  have rrel:σ4.row σ3.n=some [str [60,61],str [62,61]]:=by rw [Xy.row (by simp) (by omega)];exact cL
  obtain ⟨rl,hrl,hrl2⟩:=mrel_at hy
  simp (maxSteps:=8000000) (disch:=first|exact dS|fail) only [↓bD,bU,reduceMul,reduceEqDiff,reduceAdd,Nat.reduceBEq,reduceIte,Option.isNone_none,splice_succ,ap22,ap28,ap29,ap33,ap36,ap37,ap43,ap97,ap202,gc,g2,g3,g4,rrel,hrl]
  refine (nxg (n:=8) hl hll Ey hq (by first|omega|(simp;omega)) Qy (by omega) (by omega)).mono ?_
  rintro r ⟨z,σ5,rfl,hz,Ez,Qz,Xz⟩
  have nz:=Xz.n
  try simp only [new_n] at nz
  have rp:σ5.orow p=some _:=(Xz.orow (by first|omega|(simp;omega)) (by omega)).trans rp
  have rr:=row_of rp
  simp (maxSteps:=8000000) (disch:=first|exact dS|fail) only [↓bD,bU,reduceMul,reduceEqDiff,reduceAdd,Nat.reduceBEq,reduceIte,Option.isNone_none,splice_succ,ap22,ap28,ap29,ap33,ap36,ap37,ap43,ap97,ap202,gc,g2,g3,g4,rr]
  have Xn:ExtX q σ3 (σ3.new [str [60,61],str [62,61]]):= .of (.new _ _)
  have hoN:OL τ0.n (σ5.new [str nm,str rl,.int .i64 (z:Int)]) 3 u (L.map Req.row):=OL.ext (OL.keepX (OL.keepX (OL.keepX (OL.keepX (OL.ext (OL.keepX ho Xx0 (by omega)) F2) Xx (by omega)) Xn (by omega)) Xy (by omega)) Xz (by omega)) (.new _ _)
  have hXN:ExtM q p τ0 (σ5.new [str nm,str rl,.int .i64 (z:Int)]):=((((((hX.trans (.xq Xx0)).trans (.of F2)).trans (.xq Xx)).trans (.xq Xn)).trans (.xq Xy)).trans (.xq Xz)).trans (.of (Ext.new' (.refl _) _))
  refine ev_append (row:=(Req.row) ⟨nm,rl,(z:Int)⟩) (fun _ _ _ _=>ap30) hoN (row_new_same (Nat.le_refl _) (Nat.le_refl _)) (sub_full (by simp [Crit.row,Req.row]) (by simp)) (by rw [List.length_map];omega) (by simp;omega) ?_
  rintro u' σ8 ho' hA -
  obtain ⟨ua,n1,rfl⟩:∃ ua n,u'= .slice ua n n:=by obtain ⟨a,h⟩:=OL.shape ho';exact ⟨a,_,h⟩
  have r8:σ8.orow p=some _:=(orow_congr (hA.same p (by simp;omega) bv)).trans ((orow_new_ne (by first|omega|(simp;omega))).trans rp)
  have qN:GQ q v l (σ5.new [str nm,str rl,.int .i64 (z:Int)]):=Qz.ext (.new _ _) (by first|omega|(simp;omega))
  have n8:=hA.n
  simp only [new_n] at n8
  simp (maxSteps:=8000000) (disch:=first|exact dS|fail) only [↓bD,bU,reduceMul,reduceEqDiff,reduceAdd,Nat.reduceBEq,reduceIte,Option.isNone_none,ap22,ap28,ap29,ap33,ap36,ap37,ap43,ap97,ap202,gw3,g2,g3,g4,gc,r8]
  refine Must.intro (by (repeat first|simp (disch:=omega) only [as_read,as_upd,as_newb,asx (Ext.refl _),asx F2,as_extx (b:=p) Xx (by omega),as_extx (b:=p) Xy (by omega),as_extx (b:=p) Xz (by omega),as_extx (b:=bn) Xx (by omega),as_extx (b:=bn) Xy (by omega),as_extx (b:=bn) Xz (by omega),as_extx (b:=σ3.n) Xy (by omega),as_extx (b:=σ3.n) Xz (by omega)]|rw [as_ord (by kernel_rfl)]);first|done|rfl) ?_
  simp (maxSteps:=8000000) (disch:=first|exact dS|fail) only [↓bD,bU,reduceMul,reduceEqDiff,reduceAdd,Nat.reduceBEq,reduceIte,Option.isNone_none,ap22,ap28,ap29,ap33,ap36,ap37,ap43,ap97,ap202,gw3,g2,g3,g4,gc,up_normal]
  have hM8:ExtM q p τ0 σ8:=ExtM.app hA hXN hoN (Nat.le_refl _)
  refine ⟨by omega,fR,hM8.upd,_,L++[⟨nm,rl,(z:Int)⟩],⟨fR1 g2,fR1 g3,fR1 g4,(hM8.ext h0.E hq (by omega)).upd (by omega) _,(qN.app hA hoN (by first|omega|(simp;omega)) (by omega)).x (ExtX.refl.upd _) (by omega) (by omega),cL,by simp;omega⟩,?_,by simp [hL],?_⟩
  rotate_left
  ·intro c hc
   rcases List.mem_append.1 hc with hc|hc
   ·exact hP c hc
   ·rw [List.mem_singleton] at hc;subst hc
    exact ⟨⟨hnw,hn9⟩,hrl2,by show (0:Int)≤(z:Int);omega,by show (z:Int)≤7;omega⟩
  ·rw [List.map_append]
   exact OL.upd ho' (by omega)
end Go.Proofs.T
namespace Go.Proofs.T
open Go Go.Ab
open Nat (reduceMul reduceEqDiff reduceAdd)
set_option maxRecDepth 100000
set_option maxHeartbeats 32000000 in
theorem md_ties {σ τ0:St}{fr0:Fr}{q p:Nat}{v:Value}{l:List Int}{H0:List Nat}{a0 a1 a2 a3 a4 a5 a6 a7 a8 a9 a10 a12 a13 a14 a15 a16 a17 a18 a19:Value}(hl:ArgInts (hide σ H0) v l) (hll:l.length≤9223372036854775807) (hq:σ.n≤q) (hqp:q<p) (h0:MdS σ q p v l [a0,a1,a2,a3,a4,a5,a6,a7,a8,a9,a10,.slice none 0 0,a12,a13,a14,a15,a16,a17,a18,a19] fr0 τ0) (gc0:fr0.get 11=some (.int .i64 0)){nt:Nat}(gk10:fr0.get 10=some (.slice (some ⟨nt,0,none⟩) 3 3)) (rt0:τ0.orow nt=some [str [112,114,105,99,101],str [115,112,101,101,100],str [99,111,109,102,111,114,116]]) (nt0:nt<τ0.n) (ntq:nt≠q) (ntp:nt≠p) :
  Ev (lim Tryz.prog HS none (.loop (mdC [1,1,1,1,1,1,1,1,0,1,2,3])) fr0 τ0) (fun r=>∃ fr τ u,∃ L:List By,r=⟨.exit 6,fr,τ⟩∧MdS σ q p v l [a0,a1,a2,a3,a4,a5,a6,a7,a8,a9,a10,u,a12,a13,a14,a15,a16,a17,a18,a19] fr τ∧ExtM q p τ0 τ∧OL τ0.n τ 1 u (L.map (fun s:By=>[str s]))∧L.length≤3∧L=tiesM.take L.length) ⟨⟩:=by
 have hp0:=h0.lt
 refine ev_upto 3 (fun k fr τ=>fr.get 11=some (.int .i64 (k:Nat))∧fr.get 10=some (.slice (some ⟨nt,0,none⟩) 3 3)∧ExtM q p τ0 τ∧∃ u,∃ L:List By,MdS σ q p v l [a0,a1,a2,a3,a4,a5,a6,a7,a8,a9,a10,u,a12,a13,a14,a15,a16,a17,a18,a19] fr τ∧OL τ0.n τ 1 u (L.map (fun s:By=>[str s]))∧L.length=k∧L=tiesM.take L.length)
  (fun r=>∃ fr τ u,∃ L:List By,r=⟨.exit 6,fr,τ⟩∧MdS σ q p v l [a0,a1,a2,a3,a4,a5,a6,a7,a8,a9,a10,u,a12,a13,a14,a15,a16,a17,a18,a19] fr τ∧ExtM q p τ0 τ∧OL τ0.n τ 1 u (L.map (fun s:By=>[str s]))∧L.length≤3∧L=tiesM.take L.length) ?_ ?_ (fun r h=>h)
 ·exact ⟨gc0,gk10,.refl,_,[],h0,OL.nil,rfl,rfl⟩
 ·rintro k fr τ hk ⟨gc,gk10,hX,u,L,⟨g2,g3,g4,hE,hQ,rp,hp⟩,ho,hL,hP⟩
  have nX:=hX.n
  have bv:blkOf u≠some p:=fun hb=>by have:=(ho.blk hb).1;omega
  simp only [mdC,Tryz.f14,gd_some,cd_nil,cd_0,cd_1,cd_2,cd_3]
  simp (maxSteps:=8000000) (disch:=first|exact dS|fail) only [↓bD,bU,reduceMul,reduceEqDiff,reduceAdd,Nat.reduceBEq,reduceIte,Option.isNone_none,splice_succ,ap22,ap28,ap29,ap30,ap33,ap37,ap43,ap97,ap202,gc,g2,g3,g4]
  refine (nxg (n:=4) hl hll hE hq (by first|omega|(simp;omega)) hQ (by omega) (by omega)).mono ?_
  rintro r ⟨x0,σ1,rfl,hx0,Ex0,Qx0,Xx0⟩
  have nx0:=Xx0.n
  try simp only [new_n] at nx0
  have rp:σ1.orow p=some _:=(Xx0.orow (by first|omega|(simp;omega)) (by omega)).trans rp
  have rr:=row_of rp
  rcases Nat.lt_or_ge x0 (k+1) with hkx|hkx
  ·have hc:decide (k<x0)=false:=decide_eq_false (by omega)
   simp (maxSteps:=8000000) (disch:=first|exact dS|fail) only [↓bD,bU,reduceMul,reduceEqDiff,reduceAdd,Nat.reduceBEq,reduceIte,Option.isNone_none,splice_succ,bunAP,gc,hc,up_exit]
   exact ⟨_,_,u,L,rfl,⟨fR1 g2,fR1 g3,fR1 g4,Ex0,Qx0,rp,by omega⟩,hX.trans (.xq Xx0),OL.keepX ho Xx0 (by omega),by omega,hP⟩
  have hc:=lt_true hkx
  have rnt:σ1.row nt=some [str [112,114,105,99,101],str [115,112,101,101,100],str [99,111,109,102,111,114,116]]:=row_of (by rw [Xx0.orow (by omega) (by omega),hX.orow (by omega) (by omega) (by omega)];exact rt0)
  obtain ⟨nm,hnm,htk⟩:=mtie_at (show k<3 by omega)
  simp (maxSteps:=8000000) (disch:=first|exact dS|fail) only [↓bD,bU,reduceMul,reduceEqDiff,reduceAdd,Nat.reduceBEq,reduceIte,Option.isNone_none,splice_succ,ap22,ap28,ap29,ap30,ap33,ap37,ap43,ap97,ap202,gc,g2,g3,g4,gk10,hc,rr,rnt,hnm]
  have hoN:OL τ0.n (σ1.new [str nm]) 1 u (L.map (fun s:By=>[str s])):=OL.ext (OL.keepX ho Xx0 (by omega)) (.new _ _)
  have hXN:ExtM q p τ0 (σ1.new [str nm]):=(hX.trans (.xq Xx0)).trans (.of (Ext.new' (.refl _) _))
  refine ev_append (row:=((fun s:By=>[str s])) nm) (fun _ _ _ _=>ap36) hoN (row_new_same (Nat.le_refl _) (Nat.le_refl _)) (sub_full (by simp [Crit.row,Req.row]) (by simp)) (by rw [List.length_map];omega) (by simp;omega) ?_
  rintro u' σ8 ho' hA -
  obtain ⟨ua,n1,rfl⟩:∃ ua n,u'= .slice ua n n:=by obtain ⟨a,h⟩:=OL.shape ho';exact ⟨a,_,h⟩
  have r8:σ8.orow p=some _:=(orow_congr (hA.same p (by simp;omega) bv)).trans ((orow_new_ne (by first|omega|(simp;omega))).trans rp)
  have qN:GQ q v l (σ1.new [str nm]):=Qx0.ext (.new _ _) (by first|omega|(simp;omega))
  have n8:=hA.n
  simp only [new_n] at n8
  simp (maxSteps:=8000000) (disch:=first|exact dS|fail) only [↓bD,bU,reduceMul,reduceEqDiff,reduceAdd,Nat.reduceBEq,reduceIte,Option.isNone_none,ap22,ap28,ap29,ap30,ap33,ap37,ap43,ap97,ap202,gw11,g2,g3,g4,gc,gk10,r8]
  refine Must.intro (by (repeat first|simp (disch:=omega) only [as_read,as_upd,as_newb,asx (Ext.refl _)]|rw [as_ord (by kernel_rfl)]);first|done|rfl) ?_
  simp (maxSteps:=8000000) (disch:=first|exact dS|fail) only [↓bD,bU,reduceMul,reduceEqDiff,reduceAdd,Nat.reduceBEq,reduceIte,Option.isNone_none,ap22,ap28,ap29,ap30,ap33,ap37,ap43,ap97,ap202,gw11,g2,g3,g4,gc,gk10,up_normal]
  have hM8:ExtM q p τ0 σ8:=ExtM.app hA hXN hoN (Nat.le_refl _)
  refine ⟨by omega,fR,fR1 gk10,hM8.upd,_,L++[nm],⟨fR1 g2,fR1 g3,fR1 g4,(hM8.ext h0.E hq (by omega)).upd (by omega) _,(qN.app hA hoN (by first|omega|(simp;omega)) (by omega)).x (ExtX.refl.upd _) (by omega) (by omega),cL,by simp;omega⟩,?_,by simp [hL],by rw [List.length_append,hL];show L++[nm]=tiesM.take (k+1);rw [htk,hP,hL]⟩
  ·rw [List.map_append]
   exact OL.upd ho' (by omega)
end Go.Proofs.T
namespace Go.Proofs.T
open Go Go.Ab
open Nat (reduceMul reduceEqDiff reduceAdd)
set_option maxRecDepth 100000
set_option maxHeartbeats 32000000 in
theorem md_combos {σ τ0:St}{fr0:Fr}{q p:Nat}{v:Value}{l:List Int}{H0:List Nat}{a0 a1 a2 a3 a4 a5 a6 a7 a8 a9 a10 a11 a12 a14 a15 a16 a17 a18 a19:Value}(hl:ArgInts (hide σ H0) v l) (hll:l.length≤9223372036854775807) (hq:σ.n≤q) (hqp:q<p) (h0:MdS σ q p v l [a0,a1,a2,a3,a4,a5,a6,a7,a8,a9,a10,a11,a12,.slice none 0 0,a14,a15,a16,a17,a18,a19] fr0 τ0) (gc0:fr0.get 12=some (.int .i64 0)) :
  Ev (lim Tryz.prog HS none (.loop (mdC [1,1,1,1,1,1,1,1,1,0,1,2,3])) fr0 τ0) (fun r=>∃ fr τ u,∃ L:List (Value×List Int),r=⟨.exit 8,fr,τ⟩∧MdS σ q p v l [a0,a1,a2,a3,a4,a5,a6,a7,a8,a9,a10,a11,a12,u,a14,a15,a16,a17,a18,a19] fr τ∧ExtM q p τ0 τ∧OL τ0.n τ 1 u (L.map (fun y:Value×List Int=>[y.1]))∧L.length≤2∧∀ y∈L,(∀ b,blkOf y.1=some b→blkOf u≠some b)∧OL τ0.n τ 1 y.1 (y.2.map fun n=>[.int .i64 n])∧∃ a b,y.2=[a,b]∧1≤a∧a<b∧b≤9) ⟨⟩:=by
 have hp0:=h0.lt
 refine ev_upto 2 (fun k fr τ=>fr.get 12=some (.int .i64 (k:Nat))∧ExtM q p τ0 τ∧∃ u,∃ L:List (Value×List Int),MdS σ q p v l [a0,a1,a2,a3,a4,a5,a6,a7,a8,a9,a10,a11,a12,u,a14,a15,a16,a17,a18,a19] fr τ∧OL τ0.n τ 1 u (L.map (fun y:Value×List Int=>[y.1]))∧L.length=k∧∀ y∈L,(∀ b,blkOf y.1=some b→blkOf u≠some b)∧OL τ0.n τ 1 y.1 (y.2.map fun n=>[.int .i64 n])∧∃ a b,y.2=[a,b]∧1≤a∧a<b∧b≤9)
  (fun r=>∃ fr τ u,∃ L:List (Value×List Int),r=⟨.exit 8,fr,τ⟩∧MdS σ q p v l [a0,a1,a2,a3,a4,a5,a6,a7,a8,a9,a10,a11,a12,u,a14,a15,a16,a17,a18,a19] fr τ∧ExtM q p τ0 τ∧OL τ0.n τ 1 u (L.map (fun y:Value×List Int=>[y.1]))∧L.length≤2∧∀ y∈L,(∀ b,blkOf y.1=some b→blkOf u≠some b)∧OL τ0.n τ 1 y.1 (y.2.map fun n=>[.int .i64 n])∧∃ a b,y.2=[a,b]∧1≤a∧a<b∧b≤9) ?_ ?_ (fun r h=>h)
 ·exact ⟨gc0,.refl,_,[],h0,OL.nil,rfl,fun c hc=>by cases hc⟩
 ·rintro k fr τ hk ⟨gc,hX,u,L,⟨g2,g3,g4,hE,hQ,rp,hp⟩,ho,hL,hP⟩
  have nX:=hX.n
  have bv:blkOf u≠some p:=fun hb=>by have:=(ho.blk hb).1;omega
  simp only [mdC,Tryz.f14,gd_some,cd_nil,cd_0,cd_1,cd_2,cd_3]
  simp (maxSteps:=8000000) (disch:=first|exact dS|fail) only [↓bD,bU,reduceMul,reduceEqDiff,reduceAdd,Nat.reduceBEq,reduceIte,Option.isNone_none,splice_succ,ap22,ap28,ap29,ap30,ap33,ap36,ap43,ap97,ap202,gc,g2,g3,g4]
  refine (nxg (n:=3) hl hll hE hq (by first|omega|(simp;omega)) hQ (by omega) (by omega)).mono ?_
  rintro r ⟨x0,σ1,rfl,hx0,Ex0,Qx0,Xx0⟩
  have nx0:=Xx0.n
  try simp only [new_n] at nx0
  have rp:σ1.orow p=some _:=(Xx0.orow (by first|omega|(simp;omega)) (by omega)).trans rp
  have rr:=row_of rp
  rcases Nat.lt_or_ge x0 (k+1) with hkx|hkx
  ·have hc:decide (k<x0)=false:=decide_eq_false (by omega)
   simp (maxSteps:=8000000) (disch:=first|exact dS|fail) only [↓bD,bU,reduceMul,reduceEqDiff,reduceAdd,Nat.reduceBEq,reduceIte,Option.isNone_none,splice_succ,bunAP,gc,hc,up_exit]
   exact ⟨_,_,u,L,rfl,⟨fR1 g2,fR1 g3,fR1 g4,Ex0,Qx0,rp,by omega⟩,hX.trans (.xq Xx0),OL.keepX ho Xx0 (by omega),by omega,fun y hy=>⟨(hP y hy).1,OL.keepX (hP y hy).2.1 Xx0 (by omega),(hP y hy).2.2⟩⟩
  have hc:=lt_true hkx
  simp (maxSteps:=8000000) (disch:=first|exact dS|fail) only [↓bD,bU,reduceMul,reduceEqDiff,reduceAdd,Nat.reduceBEq,reduceIte,Option.isNone_none,splice_succ,ap22,ap28,ap29,ap30,ap33,ap36,ap43,ap97,ap202,gc,g2,g3,g4,hc,rr]
  refine (nxg (n:=3) hl hll Ex0 hq (by first|omega|(simp;omega)) Qx0 (by omega) (by omega)).mono ?_
  rintro r ⟨x,σ2,rfl,hx,Ex,Qx,Xx⟩
  have nx:=Xx.n
  try simp only [new_n] at nx
  have rp:σ2.orow p=some _:=(Xx.orow (by first|omega|(simp;omega)) (by omega)).trans rp
  have rr:=row_of rp
  simp (maxSteps:=8000000) (disch:=first|exact dS|fail) only [↓bD,bU,reduceMul,reduceEqDiff,reduceAdd,Nat.reduceBEq,reduceIte,Option.isNone_none,splice_succ,ap22,ap28,ap29,ap30,ap33,ap36,ap43,ap97,ap202,gc,g2,g3,g4,rr]
  have rp:(σ2.new [.int .i64 (1+(k:Int)),.int .i64 (2+(k:Int)+(x:Int))]).orow p=some _:=(orow_new_ne (by omega)).trans rp
  have hoN:OL τ0.n ((σ2.new [.int .i64 (1+(k:Int)),.int .i64 (2+(k:Int)+(x:Int))]).new [.slice (some ⟨σ2.n,0,none⟩) 2 2]) 1 u (L.map (fun y:Value×List Int=>[y.1])):=OL.ext (OL.ext (OL.keepX (OL.keepX ho Xx0 (by omega)) Xx (by omega)) (.new _ _)) (.new _ _)
  have hXN:ExtM q p τ0 ((σ2.new [.int .i64 (1+(k:Int)),.int .i64 (2+(k:Int)+(x:Int))]).new [.slice (some ⟨σ2.n,0,none⟩) 2 2]):=(((hX.trans (.xq Xx0)).trans (.xq Xx)).trans (.of (Ext.new' (.refl _) _))).trans (.of (Ext.new' (.refl _) _))
  refine ev_append (row:=((fun y:Value×List Int=>[y.1])) (.slice (some ⟨σ2.n,0,none⟩) 2 2,[1+(k:Int),2+(k:Int)+(x:Int)])) (fun _ _ _ _=>ap37) hoN (row_new_same (Nat.le_refl _) (Nat.le_refl _)) (sub_full (by simp [Crit.row,Req.row]) (by simp)) (by rw [List.length_map];omega) (by simp;omega) ?_
  rintro u' σ8 ho' hA -
  obtain ⟨ua,n1,rfl⟩:∃ ua n,u'= .slice ua n n:=by obtain ⟨a,h⟩:=OL.shape ho';exact ⟨a,_,h⟩
  have r8:σ8.orow p=some _:=(orow_congr (hA.same p (by simp;omega) bv)).trans ((orow_new_ne (by first|omega|(simp;omega))).trans rp)
  have qN:GQ q v l ((σ2.new [.int .i64 (1+(k:Int)),.int .i64 (2+(k:Int)+(x:Int))]).new [.slice (some ⟨σ2.n,0,none⟩) 2 2]):=(Qx.ext (.new _ _) (by omega)).ext (.new _ _) (by first|omega|(simp;omega))
  have n8:=hA.n
  simp only [new_n] at n8
  simp (maxSteps:=8000000) (disch:=first|exact dS|fail) only [↓bD,bU,reduceMul,reduceEqDiff,reduceAdd,Nat.reduceBEq,reduceIte,Option.isNone_none,ap22,ap28,ap29,ap30,ap33,ap36,ap43,ap97,ap202,gw13,g2,g3,g4,gc,r8]
  refine Must.intro (by (repeat first|simp (disch:=omega) only [as_read,as_upd,as_newb,asx (Ext.refl _),as_extx (b:=p) Xx (by omega)]|rw [as_ord (by kernel_rfl)]);first|done|rfl) ?_
  simp (maxSteps:=8000000) (disch:=first|exact dS|fail) only [↓bD,bU,reduceMul,reduceEqDiff,reduceAdd,Nat.reduceBEq,reduceIte,Option.isNone_none,ap22,ap28,ap29,ap30,ap33,ap36,ap43,ap97,ap202,gw13,g2,g3,g4,gc,up_normal]
  have hM8:ExtM q p τ0 σ8:=ExtM.app hA hXN hoN (Nat.le_refl _)
  refine ⟨by omega,fR,hM8.upd,_,L++[(.slice (some ⟨σ2.n,0,none⟩) 2 2,[1+(k:Int),2+(k:Int)+(x:Int)])],⟨fR1 g2,fR1 g3,fR1 g4,(hM8.ext h0.E hq (by omega)).upd (by omega) _,(qN.app hA hoN (by first|omega|(simp;omega)) (by omega)).x (ExtX.refl.upd _) (by omega) (by omega),cL,by simp;omega⟩,?_,by simp [hL],fun y hy=>?_⟩
  rotate_left
  ·rcases List.mem_append.1 hy with hy|hy
   ·obtain ⟨c1,c2,c3⟩:=hP y hy
    have c4:OL τ0.n ((σ2.new [.int .i64 (1+(k:Int)),.int .i64 (2+(k:Int)+(x:Int))]).new [.slice (some ⟨σ2.n,0,none⟩) 2 2]) 1 y.1 (y.2.map fun n=>[.int .i64 n]):=OL.ext (OL.ext (OL.keepX (OL.keepX c2 Xx0 (by omega)) Xx (by omega)) (.new _ _)) (.new _ _)
    exact ⟨fun b hb=>hA.far (c4.blk hb).2,OL.upd (c4.keep hA.n fun b hb=>hA.same b (c4.blk hb).2 (c1 b hb)) (by omega),c3⟩
   ·rw [List.mem_singleton] at hy;subst hy
    have c4:OL τ0.n ((σ2.new [.int .i64 (1+(k:Int)),.int .i64 (2+(k:Int)+(x:Int))]).new [.slice (some ⟨σ2.n,0,none⟩) 2 2]) 1 (.slice (some ⟨σ2.n,0,none⟩) 2 2) ([1+(k:Int),2+(k:Int)+(x:Int)].map fun n=>[.int .i64 n]):=OL.mk rfl rfl (by simp) (.inl rfl) (by omega) (by simp;omega) (cL)
    exact ⟨fun b hb=>hA.far (c4.blk hb).2,OL.upd (c4.keep hA.n fun b hb=>hA.same b (c4.blk hb).2 (fun hu=>by have:=(ho.blk hu).2;cases hb;omega)) (by omega),_,_,rfl,by omega,by omega,by omega⟩
  ·rw [List.map_append]
   exact OL.upd ho' (by omega)
end Go.Proofs.T
