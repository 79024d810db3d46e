/- Facts on the types of the translation. -/
import Derived.Test.YtbcanmagihejhaaGreatDoorAbD
import Derived.Test.YtbcanmagihejhaaGreatDoorTA
import Derived.Test.YtbcanmagihejhaaGreatDoorProg
import Derived.KernelRfl
import Derived.Test.YtbcanmagihejhaaGreatDoorPC
set_option linter.unusedSimpArgs false
set_option linter.unusedVariables false
namespace Go.Proofs.T
open Go Go.Ab
section
variable {fr:Fr} {Z:St} {x ix a v:Operand} {ve:Value}
theorem ld52:LDn 52 3:=by unfold LDn;intros;kernel_rfl
theorem lv52:LVn 52 3:=by unfold LVn;intros;kernel_rfl
theorem ze52:zero? Tryz.prog 52=some (.agg ⟨[.int .i64 0,.int .i64 0,.int .i64 0]⟩):=by kernel_rfl
theorem bu52:pBuild Tryz.prog fr 52 #[]=some (.agg ⟨[.int .i64 0,.int .i64 0,.int .i64 0]⟩):=by kernel_rfl
theorem ia52 {b off i:Nat}:indexAddrV Tryz.prog 52 (.pointer (some ⟨b,off,none⟩)) i=bb (Nat.blt i 3) (some (.pointer (some ⟨b,off+i*1,none⟩))):=by kernel_rfl
theorem bv52:BVn 52 1 1:=by unfold BVn;intros;kernel_rfl
end
end Go.Proofs.T
namespace Go.Proofs.T
open Go Go.Ab
open Nat (reduceMul reduceEqDiff reduceAdd)
set_option maxRecDepth 100000
theorem bf_sq2:bfC [1,1]= .seq (bfC [1,1,0]) (bfC [1,1,1]):=by kernel_rfl
theorem keep_pt {τ:St}{p t:Nat}{H:List Nat}{cs:List Value}:Keep (hide τ (p::t::H)) (hide (τ.upd p cs) (p::t::H)):=keep_hide (by simp) fun c hc hm=>⟨hm,row_upd_ne fun e=>hm (by simp [e])⟩
theorem cmp9:decide ((1:Int)=0)=false/\decide ((2:Int)=0)=false/\decide ((2:Int)=1)=false/\decide ((3:Int)=0)=false/\decide ((3:Int)=1)=false/\decide ((3:Int)=2)=false/\decide ((4:Int)=0)=false/\decide ((4:Int)=1)=false/\decide ((4:Int)=2)=false/\decide ((4:Int)=3)=false/\decide ((5:Int)=0)=false/\decide ((5:Int)=1)=false/\decide ((5:Int)=2)=false/\decide ((5:Int)=3)=false/\decide ((5:Int)=4)=false/\decide ((6:Int)=0)=false/\decide ((6:Int)=1)=false/\decide ((6:Int)=2)=false/\decide ((6:Int)=3)=false/\decide ((6:Int)=4)=false/\decide ((6:Int)=5)=false/\decide ((7:Int)=0)=false/\decide ((7:Int)=1)=false/\decide ((7:Int)=2)=false/\decide ((7:Int)=3)=false/\decide ((7:Int)=4)=false/\decide ((7:Int)=5)=false/\decide ((7:Int)=6)=false/\decide ((8:Int)=0)=false/\decide ((8:Int)=1)=false/\decide ((8:Int)=2)=false/\decide ((8:Int)=3)=false/\decide ((8:Int)=4)=false/\decide ((8:Int)=5)=false/\decide ((8:Int)=6)=false/\decide ((8:Int)=7)=false/\decide ((0:Int)=0)=true/\decide ((1:Int)=1)=true/\decide ((2:Int)=2)=true/\decide ((3:Int)=3)=true/\decide ((4:Int)=4)=true/\decide ((5:Int)=5)=true/\decide ((6:Int)=6)=true/\decide ((7:Int)=7)=true/\decide ((8:Int)=8)=true:=⟨rfl,rfl,rfl,rfl,rfl,rfl,rfl,rfl,rfl,rfl,rfl,rfl,rfl,rfl,rfl,rfl,rfl,rfl,rfl,rfl,rfl,rfl,rfl,rfl,rfl,rfl,rfl,rfl,rfl,rfl,rfl,rfl,rfl,rfl,rfl,rfl,rfl,rfl,rfl,rfl,rfl,rfl,rfl,rfl,rfl⟩
theorem nine {z:Int}(h1:0<=z) (h2:z<9):z=0\/z=1\/z=2\/z=3\/z=4\/z=5\/z=6\/z=7\/z=8:=om
theorem nm4_at {k:Nat}(h:k<4):∃ s:By,sub ([str [109,105,110],str [120],str [],str [57]]:List Value) k 1=some [str s]/\s.length<=3:=by
 match k,h with
 | 0,_=>exact ⟨_,rfl,by decide⟩
 | 1,_=>exact ⟨_,rfl,by decide⟩
 | 2,_=>exact ⟨_,rfl,by decide⟩
 | 3,_=>exact ⟨_,rfl,by decide⟩
set_option maxHeartbeats 16000000 in
theorem bf_leaf {Z0 τ:St}{H:List Nat}{p q t w m:Nat}{q0 q1 q2:Int}{fr:Fr}{row:List Value}{o nm:By}{nu de:Int}{es:List Ex}(h:BfS Z0 H p q t q0 q1 q2 fr τ row (.mk o nu de nm es)) (hq0:In64 q0) (hq1:In64 q1) (hH:∀ c∈H,c<Z0.n) (hw:WfE w (.mk o nu de nm es)) (hw1:1<=w) (hw3:w<=3) (hm:partsE (.mk o nu de nm es)<=m) :
  Ev (lim Tryz.prog HS none (bfC [1,1]) fr τ) (BfQ Z0 H t (w+1) (m+26)) ⟨⟩:=by
 obtain ⟨g2,g3,g4,hE,p0,q0',t0,pq,pt,qt,pl,ql,tl,op,oq,ot,hx⟩:=h
 obtain ⟨v,rows,rfl,hs,hl4,hxs⟩:=hx
 obtain ⟨wf1,wf2,wf3,wf4,wf5,wf6⟩:=WfE_mk.1 hw
 rw [partsE_mk] at hm
 have rq:=row_of oq
 have rp:=row_of op
 have hEn:=hE.n
 have hlt:∀ c∈p::t::H,c<τ.n:=by
  intro c hc
  rcases List.mem_cons.1 hc with rfl|hc
  ·exact pl
  rcases List.mem_cons.1 hc with rfl|hc
  ·exact tl
  have:=hH c hc;omega
 rw [bf_sq2]
 obtain ⟨X,hX⟩:∃ X,bfC [1,1,1]=X:=⟨_,rfl⟩
 rw [hX]
 simp only [bfC,Tryz.f28,gd_some,cd_nil,cd_0,cd_1,cd_2,cd_3]
 refine gU1 (aI @splice_succ (aI @bunAP (aI @ia52 (aI @g2 (aI @g3 @rq))))) ?_
 refine (mod1_ok (m:=9) hq1 om om).mono ?_
 rintro r rfl
 have z1:0<=q1 % 9:=Int.emod_nonneg _ om
 have z2:q1 % 9<9:=Int.emod_lt_of_pos _ om
 generalize q1 % 9=z at z1 z2
 rcases nine z1 z2 with rfl|rfl|rfl|rfl|rfl|rfl|rfl|rfl|rfl
 ·refine gU1 (aI @splice_succ (aI @bunAP (aI @cmp9 (aI @g2 (aI @g3 (aI @op @rp)))))) ?_
  rw [<- hX]
  exact bf_end (p:=p) (row:=[str [37],.int .i64 nu,.int .i64 de,str nm,v]) (e:= .mk [37] nu de nm es) (fR1 g2) (fR1 g4) (ext_upd hE p0) t0 pt (by simpa using tl) (cL) ⟨_,cL1 ot,rfl⟩ (⟨_,rows,rfl,SLs.keep hs keep_pt,hl4,ExsX.keep keep_pt hxs⟩) hH (WfE_mk.2 ⟨by simp,wf2,wf3,wf4,om,WfL.mono om wf6⟩) (by rw [partsE_mk];omega)
 ·refine gU1 (aI @splice_succ (aI @bunAP (aI @cmp9 (aI @g2 (aI @g3 (aI @op @rp)))))) ?_
  rw [<- hX]
  exact bf_end (p:=p) (row:=[str o,.int .i64 nu,.int .i64 de,str [120],v]) (e:= .mk o nu de [120] es) (fR1 g2) (fR1 g4) (ext_upd hE p0) t0 pt (by simpa using tl) (cL) ⟨_,cL1 ot,rfl⟩ (⟨_,rows,rfl,SLs.keep hs keep_pt,hl4,ExsX.keep keep_pt hxs⟩) hH (WfE_mk.2 ⟨wf1,by simp,wf3,wf4,om,WfL.mono om wf6⟩) (by rw [partsE_mk];omega)
 ·refine gU1 (aI @splice_succ (aI @bunAP (aI @cmp9 (aI @g2 (aI @g3 (aI @op @rp)))))) ?_
  rw [<- hX]
  exact bf_end (p:=p) (row:=[str o,.int .i64 1,.int .i64 3,str nm,v]) (e:= .mk o 1 3 nm es) (fR1 g2) (fR1 g4) (ext_upd hE p0) t0 pt (by simpa using tl) (cL) ⟨_,cL1 ot,rfl⟩ (⟨_,rows,rfl,SLs.keep hs keep_pt,hl4,ExsX.keep keep_pt hxs⟩) hH (WfE_mk.2 ⟨wf1,wf2,om,om,om,WfL.mono om wf6⟩) (by rw [partsE_mk];omega)
 ·refine gU1 (aI @splice_succ (aI @bunAP (aI @cmp9 (aI @g2 (aI @g3 (aI @op @rp)))))) ?_
  rw [<- hX]
  exact bf_end (p:=p) (row:=[str o,.int .i64 2,.int .i64 4,str nm,v]) (e:= .mk o 2 4 nm es) (fR1 g2) (fR1 g4) (ext_upd hE p0) t0 pt (by simpa using tl) (cL) ⟨_,cL1 ot,rfl⟩ (⟨_,rows,rfl,SLs.keep hs keep_pt,hl4,ExsX.keep keep_pt hxs⟩) hH (WfE_mk.2 ⟨wf1,wf2,om,om,om,WfL.mono om wf6⟩) (by rw [partsE_mk];omega)
 ·refine gU1 (aI @splice_succ (aI @ap22 (aI @ap28 (aI @ap29 (aI @ap30 (aI @ap36 (aI @ap37 (aI @ap43 (aI @ap97 (aI @ap202 (aI @cmp9 (aI @g2 (aI @op @rp))))))))))))) ?_
  refine ev_clone (size:=5) (rows:=rows) (fun _ _ _ _=>ap33) (orow_new_same (Nat.le_refl _) (Nat.le_refl _)) (by simp) (hs.keep (keep_all.trans (Keep.of_ext (.new _ _)))) (by have:=hxs.to.len;omega) ?_
  rintro v1 Z1 ho1 hX1
  have n1:=hX1.n
  simp only [new_n] at n1
  refine gU1 (aI @splice_succ (aI @ap22 (aI @ap28 (aI @ap29 (aI @ap30 (aI @ap36 (aI @ap37 (aI @ap43 (aI @ap97 @ap202))))))))) ?_
  have ho1':OL τ.n (Z1.new [str [110,97,109,101],.int .i64 0,.int .i64 0,str [120],.slice none 0 0]) 5 v1 rows:=OL.ext ho1 (.new _ _)
  refine ev_append (row:=[str [110,97,109,101],.int .i64 0,.int .i64 0,str [120],.slice none 0 0]) (fun _ _ _ _=>ap33) ho1' (row_new_same (Nat.le_refl _) (Nat.le_refl _)) (sub_full (by simp) (by simp)) (by have:=hxs.to.len;omega) (by simp;omega) ?_
  rintro v2 Z2 ho2 hap -
  have n2:=hap.n
  simp only [new_n] at n2
  have hsame:∀ c,c<τ.n->Z2.h.get c=τ.h.get c:=fun c hc=>by
   rw [hap.same c (by simp;omega) (fun hb=>by have:=(ho1'.blk hb).1;omega),new_get,if_neg om,hX1.same c (by simp;omega) om,new_get,if_neg om]
  have op2:Z2.orow p=some [str o,.int .i64 nu,.int .i64 de,str nm,v]:=by rw [orow_congr (hsame p pl)];exact op
  have ot2:Z2.orow t=some znE:=by rw [orow_congr (hsame t tl)];exact ot
  have hE2:Ext Z0 Z2:=⟨om,fun c hc=>by rw [hsame c om,hE.same c hc]⟩
  obtain ⟨aa,rfl⟩:=OL.shape ho2
  refine gU1 (aI @splice_succ (aI @ap22 (aI @ap28 (aI @ap29 (aI @ap30 (aI @ap36 (aI @ap37 (aI @ap43 (aI @ap97 (aI @ap202 (aI @g2 @op2))))))))))) ?_
  rw [<- hX]
  have hk:Keep (hide τ (p::t::H)) (hide (Z2.upd p [str o,.int .i64 nu,.int .i64 de,str nm,.slice aa (rows++[[str [110,97,109,101],.int .i64 0,.int .i64 0,str [120],.slice none 0 0]]).length (rows++[[str [110,97,109,101],.int .i64 0,.int .i64 0,str [120],.slice none 0 0]]).length]) (p::t::H)):=keep_hide (by simp;omega) fun c hc hm=>⟨hm,by rw [row_upd_ne fun e=>hm (by simp [e]),row_congr (hsame c hc)]⟩
  refine bf_end (p:=p) (row:=[str o,.int .i64 nu,.int .i64 de,str nm,.slice aa (rows++[[str [110,97,109,101],.int .i64 0,.int .i64 0,str [120],.slice none 0 0]]).length (rows++[[str [110,97,109,101],.int .i64 0,.int .i64 0,str [120],.slice none 0 0]]).length]) (e:= .mk o nu de nm (es++[exV])) (fR1 g2) (fR1 g4) (ext_upd hE2 p0) t0 pt (by simp;omega) (cL) ⟨znE,cL1 ot2,rfl⟩ ?_ hH (WfE_mk.2 ⟨wf1,wf2,wf3,wf4,by simp;omega,WfL_app (WfL.mono om wf6) (WfL_cons.2 ⟨wf_x,WfL_nil⟩)⟩) (by rw [partsE_mk,partsL_app,partsL_cons,parts_x,partsL_nil];omega)
  exact ⟨_,_,rfl,OL.hide (OL.upd ho2 om) hlt,by simp;omega,ExsX.app ex0x (ExsX.keep hk hxs)⟩
 ·refine gU1 (aI @splice_succ (aI @bunAP (aI @cmp9 (aI @g2 (aI @g3 (aI @op @rp)))))) ?_
  rw [<- hX]
  exact bf_end (p:=p) (row:=[str [110,117,109],.int .i64 1000000000,.int .i64 1,str [],.slice none 0 0]) (e:= .mk [110,117,109] 1000000000 1 [] []) (fR1 g2) (fR1 g4) (ext_upd hE p0) t0 pt (by simpa using tl) (cL) ⟨_,cL1 ot,rfl⟩ (ex0x) hH (WfE_mk.2 ⟨by simp,by simp,om,om,by simp,WfL_nil⟩) (by rw [partsE_mk,partsL_nil];omega)
 ·refine gU1 (aI @splice_succ (aI @bunAP (aI @cmp9 (aI @g2 (aI @g3 (aI @op @rp)))))) ?_
  rw [<- hX]
  exact bf_end (p:=p) (row:=[str [110,117,109],.int .i64 1000000000000001,.int .i64 1000000,str [],.slice none 0 0]) (e:= .mk [110,117,109] 1000000000000001 1000000 [] []) (fR1 g2) (fR1 g4) (ext_upd hE p0) t0 pt (by simpa using tl) (cL) ⟨_,cL1 ot,rfl⟩ (ex0x) hH (WfE_mk.2 ⟨by simp,by simp,om,om,by simp,WfL_nil⟩) (by rw [partsE_mk,partsL_nil];omega)
 ·refine gU1 (aI @splice_succ (aI @bunAP (aI @cmp9 @g2))) ?_
  have y1:0<=q0 % 6:=Int.emod_nonneg _ om
  have y2:q0 % 6<6:=Int.emod_lt_of_pos _ om
  obtain ⟨n,hn⟩:=Int.eq_ofNat_of_zero_le (show 0<=8+q0 % 6 by omega)
  have hn13:n<=13:=om
  refine ev_count n (fun k fr τ'=>fr.get 7=some (.int .i64 k)/\fr.get 2=some (.pointer (some ⟨p,0,none⟩))/\fr.get 3=some (.pointer (some ⟨q,0,none⟩))/\fr.get 4=some (.pointer (some ⟨t,0,none⟩))/\Ext Z0 τ'/\τ.n<=τ'.n/\τ'.orow q=some [.int .i64 q0,.int .i64 q1,.int .i64 q2]/\τ'.orow t=some znE/\∃ row e,τ'.orow p=some row/\ExX (hide τ' (p::t::H)) row e/\WfE (w+1) e/\partsE e<=m+2*k)
   (fun r=>∃ fr τ',r=⟨.exit 1,fr,τ'⟩/\fr.get 2=some (.pointer (some ⟨p,0,none⟩))/\fr.get 4=some (.pointer (some ⟨t,0,none⟩))/\Ext Z0 τ'/\τ.n<=τ'.n/\τ'.orow t=some znE/\∃ row e,τ'.orow p=some row/\ExX (hide τ' (p::t::H)) row e/\WfE (w+1) e/\partsE e<=m+26) ?_ ?_ ?_ ?_
  ·exact ⟨fR,fR1 g2,fR1 g3,fR1 g4,hE,Nat.le_refl _,oq,ot,_,.mk o nu de nm es,op,⟨v,rows,rfl,hs,hl4,hxs⟩,WfE.mono om hw,by rw [partsE_mk];omega⟩
  ·clear g2 g3 g4 hs hxs op oq ot rp rq
   rintro k fr τ' hk ⟨g7,g2,g3,g4,hE',hnn,oq,ot,row,e,op,hx,hwe,hme⟩
   obtain ⟨c1,c2,c3,c4,c5,rfl⟩:=fc5 hx.to
   have rq:=row_of oq
   have rp:=row_of op
   have hc:=lt_true hk
   refine gU1 (aI @splice_succ (aI @bunAP (aI @ia52 (aI @g7 (aI @g3 @rq))))) ?_
   refine (mod1_ok (m:=6) hq0 om om).mono ?_
   rintro r rfl
   refine gU1 (aI @splice_succ (aI @bunAP (aI @hn (aI @hc (aI @g7 (aI @g2 (aI @op @rp))))))) ?_
   refine ⟨fR,fR1 g2,fR1 g3,fR1 g4,ext_upd (hE'.new' _) p0,by show τ.n<=τ'.n+1;omega,cL1 oq,cL1 ot,_,.mk [109,97,120] 0 0 [] [e,exV],cL,?_,WfE_mk.2 ⟨by simp,by simp,om,om,by show 2<=w+1;omega,WfL_cons.2 ⟨hwe,WfL_cons.2 ⟨wf_x,WfL_nil⟩⟩⟩,by rw [partsE_mk,partsL_cons,partsL_cons,parts_x,partsL_nil];omega⟩
   have hk2:Keep (hide τ' (p::t::H)) (hide ((τ'.new [c1,c2,c3,c4,c5,str [110,97,109,101],.int .i64 0,.int .i64 0,str [120],.slice none 0 0]).upd p [str [109,97,120],.int .i64 0,.int .i64 0,str [],.slice (some ⟨τ'.n,0,none⟩) 2 2]) (p::t::H)):=keep_hide (by simp) fun c hc hm=>⟨hm,by rw [row_upd_ne fun e=>hm (by simp [e]),row_new_ne om]⟩
   have hnm:τ'.n∉p::t::H:=fun hm=>by
    rcases List.mem_cons.1 hm with h|hm
    ·omega
    rcases List.mem_cons.1 hm with h|hm
    ·omega
    have:=hH _ hm;omega
   have hrw:(hide ((τ'.new [c1,c2,c3,c4,c5,str [110,97,109,101],.int .i64 0,.int .i64 0,str [120],.slice none 0 0]).upd p [str [109,97,120],.int .i64 0,.int .i64 0,str [],.slice (some ⟨τ'.n,0,none⟩) 2 2]) (p::t::H)).row τ'.n=some ([c1,c2,c3,c4,c5]++[str [110,97,109,101],.int .i64 0,.int .i64 0,str [120],.slice none 0 0]):=by rw [hide_row hnm,row_upd_ne om];exact cL
   exact ex2x (by rw [hide_n];simp) hrw rfl (hx.keep hk2) ex0x
  ·clear g2 g3 g4 hs hxs op oq ot rp rq
   rintro fr τ' ⟨g7,g2,g3,g4,hE',hnn,oq,ot,row,e,op,hx,hwe,hme⟩
   have rq:=row_of oq
   refine gU1 (aI @splice_succ (aI @bunAP (aI @ia52 (aI @g7 (aI @g3 @rq))))) ?_
   refine (mod1_ok (m:=6) hq0 om om).mono ?_
   rintro r rfl
   refine gU1 (aI @splice_succ (aI @bunAP (aI @hn (aI @g7 @lt_self)))) ?_
   exact ⟨_,_,rfl,fR1 g2,fR1 g4,hE',hnn,ot,row,e,op,hx,hwe,om⟩
  clear g2 g3 g4 hs hxs op oq ot rp rq
  rintro r ⟨fr,τ',rfl,g2,g4,hE',hnn,ot,row,e,op,hx,hwe,hme⟩
  refine gU1 (aI @splice_succ @bunAP) ?_
  rw [<- hX]
  exact bf_end g2 g4 hE' t0 pt om op ⟨_,ot,rfl⟩ hx hH hwe hme
 ·refine gU1 (aI @splice_succ (aI @bunAP (aI @cmp9 (aI @ia52 (aI @g2 (aI @g3 @rq)))))) ?_
  refine (mod1_ok (m:=4) hq0 om om).mono ?_
  rintro r rfl
  have y1:0<=q0 % 4:=Int.emod_nonneg _ om
  have y2:q0 % 4<4:=Int.emod_lt_of_pos _ om
  obtain ⟨y,hy⟩:=Int.eq_ofNat_of_zero_le y1
  rw [hy] at y2 ⊢
  obtain ⟨s,hs1,hs2⟩:=nm4_at (k:=y) om
  refine gU1 (aI @splice_succ (aI @bunAP (aI @cmp9 (aI @g2 (aI @g3 (aI @op (aI @rp @hs1))))))) ?_
  rw [<- hX]
  exact bf_end (p:=p) (row:=[str [110,97,109,101],.int .i64 0,.int .i64 0,str s,.slice none 0 0]) (e:= .mk [110,97,109,101] 0 0 s []) (fR1 g2) (fR1 g4) (ext_upd (hE.new' _) p0) t0 pt (by simp;omega) (cL) ⟨_,cL1 ot,rfl⟩ ex0x hH (WfE_mk.2 ⟨by simp,om,om,om,by simp,WfL_nil⟩) (by rw [partsE_mk,partsL_nil];omega)
end Go.Proofs.T
namespace Go.Proofs.T
open Go Go.Ab
open Nat (reduceMul reduceEqDiff reduceAdd)
set_option maxRecDepth 100000
theorem bf_sq0:bfC []= .seq (bfC [0]) (bfC [1]):=by kernel_rfl
theorem bf_sq1:bfC [1]= .seq (bfC [1,0]) (bfC [1,1]):=by kernel_rfl
def BentP (Z:St) (H:List Nat) (w m:Nat) (r:CR):Prop:=∃ row e Z',r=⟨false,.agg ⟨row⟩,Z'⟩/\Ext Z Z'/\ExX (hide Z' H) row e/\WfE w e/\partsE e<=m
set_option maxHeartbeats 16000000 in
theorem bentf_ok:∀ (n:Nat){Z:St}{H:List Nat}{row:List Value}{e:Ex}{q0 q1 q2:Int}{w m:Nat},SizeOf.sizeOf e<n->(∀ c∈H,c<Z.n)->ExX (hide Z H) row e->In64 q0->In64 q1->In64 q2->WfE w e->1<=w->w<=3->partsE e<=m ->
  Ev (go Tryz.prog HS (.fn 28) [.agg ⟨row⟩,.agg ⟨[.int .i64 q0,.int .i64 q1,.int .i64 q2]⟩] Z) (BentP Z H (w+1) (m+26)) ⟨⟩:=by
 intro n
 induction n with
 | zero=>intro Z H row e q0 q1 q2 w m h;omega
 | succ n ih =>
   intro Z H row e q0 q1 q2 w m hsz hH hx hq0 hq1 hq2 hw hw1 hw3 hm
   obtain ⟨o,nu,de,nm,es⟩:=e
   have hx0:=hx
   obtain ⟨v,rows,rfl,hs,hl4,hxs⟩:=hx
   have hlen:=hxs.to.len
   obtain ⟨va,vc,vb,vo,vcs,rfl,s1,s2⟩:=hs.sl.use
   refine ev_go (body:=bfC []) Tryz.func28 (by kernel_rfl) rfl ?_
   obtain ⟨X,hX⟩:∃ X,bfC [1,1]=X:=⟨_,rfl⟩
   rw [bf_sq0,bf_sq1,hX]
   simp only [bfC,Tryz.f28,gd_some,cd_nil,cd_0,cd_1,cd_2,cd_3]
   have E0:Ext Z (((Z.new [str o,.int .i64 nu,.int .i64 de,str nm,.slice va rows.length vc]).new [.int .i64 q0,.int .i64 q1,.int .i64 q2]).new znE (some 35)):=eX
   have K0:Keep (hide Z H) (hide (((Z.new [str o,.int .i64 nu,.int .i64 de,str nm,.slice va rows.length vc]).new [.int .i64 q0,.int .i64 q1,.int .i64 q2]).new znE (some 35)) (Z.n::(Z.n+2)::H)):=keep_hide (by show Z.n<=Z.n+3;omega) fun c hc hm=>⟨by simp only [List.mem_cons,not_or];exact ⟨om,om,hm⟩,by rw [E0.row hc]⟩
   have fin:∀ fr,fr.get 2=some (.pointer (some ⟨Z.n,0,none⟩))->fr.get 3=some (.pointer (some ⟨Z.n+1,0,none⟩))->fr.get 4=some (.pointer (some ⟨Z.n+2,0,none⟩)) ->
     Ev (lim Tryz.prog HS none X fr (((Z.new [str o,.int .i64 nu,.int .i64 de,str nm,.slice va rows.length vc]).new [.int .i64 q0,.int .i64 q1,.int .i64 q2]).new znE (some 35))) (BfQ Z H (Z.n+2) (w+1) (m+26)) ⟨⟩:=fun fr g2 g3 g4=>by
    rw [<- hX]
    exact bf_leaf (p:=Z.n) (q:=Z.n+1) (t:=Z.n+2) ⟨g2,g3,g4,E0,Nat.le_refl _,om,om,om,om,om,by show Z.n<Z.n+3;omega,by show Z.n+1<Z.n+3;omega,by show Z.n+2<Z.n+3;omega,by unfold znE;exact cL,by unfold znE;exact cL,by unfold znE;exact cL,hx0.keep K0⟩ hq0 hq1 hH hw hw1 hw3 hm
   unfold znE at fin
   cases d2:decide ((rows.length:Int)=2) with
   | false =>
     refine gU1 (aI @splice_succ (aI @bunAP (aI @ia52 (aI @d2 (aI @yu_t @yu_f))))) ?_
     refine (fin _ ?_ ?_ ?_).mono ?_
     ·exact fR
     ·exact fR
     ·exact fR
     rintro r ⟨fr,τ,row',e',rfl,g4,ot,hE,hx',hw',hm'⟩
     have hl5:=exX_len hx'
     have hf:sub row' 0 5=some row':=sub_full om om
     have rt:=row_of ot
     refine gU1 (aI @splice_succ (aI @bunAP (aI @g4 (aI @rt (aI @hf @Tryz.results28))))) ?_
     exact ⟨_,_,_,rfl,hE,hx',hw',hm'⟩
   | true =>
     refine gU1 (aI @splice_succ (aI @bunAP (aI @ia52 (aI @d2 (aI @yu_t @yu_f))))) ?_
     refine (mod1_ok (m:=3) hq2 om om).mono ?_
     rintro r rfl
     cases dz:decide (0<q2 % 3) with
     | false =>
       refine gU1 (aI @splice_succ (aI @bunAP (aI @dz (aI @yu_t @yu_f)))) ?_
       refine (fin _ ?_ ?_ ?_).mono ?_
       ·exact fR
       ·exact fR
       ·exact fR
       rintro r ⟨fr,τ,row',e',rfl,g4,ot,hE,hx',hw',hm'⟩
       have hl5:=exX_len hx'
       have hf:sub row' 0 5=some row':=sub_full om om
       have rt:=row_of ot
       refine gU1 (aI @splice_succ (aI @bunAP (aI @g4 (aI @rt (aI @hf @Tryz.results28))))) ?_
       exact ⟨_,_,_,rfl,hE,hx',hw',hm'⟩
     | true =>
       have l2:rows.length=2:=by have:=of_decide_eq_true d2;omega
       obtain ⟨rx,ry,rfl⟩:∃ a b,rows=[a,b]:=by
        match rows,l2 with
        | [a,b],_=>exact ⟨a,b,rfl⟩
       obtain ⟨x,y,rfl⟩:∃ a b,es=[a,b]:=by
        match es,hlen with
        | [a,b],_=>exact ⟨a,b,rfl⟩
       obtain ⟨r1,rs1,e1,hx1,r2,rs2,e2,hx2,-⟩:=hxs
       cases e1
       cases e2
       obtain ⟨sp,rfl,hb,hr⟩:=s1 (by simp)
       rw [hide_n] at hb
       have nH:vb∉H:=fun h=>by rw [hide_mem h] at hr;cases hr
       rw [hide_row nH] at hr
       have t1:=s2 0 rx rfl
       have t2:=s2 1 ry rfl
       obtain ⟨x1,x2,x3,x4,x5,rfl⟩:=fc5 hx1.to
       obtain ⟨y1,y2,y3,y4,y5,rfl⟩:=fc5 hx2.to
       rw [Nat.zero_mul] at t1
       rw [Nat.one_mul] at t2
       refine gU1 (aI @splice_succ (aI @bunAP (aI @dz (aI @yu_t (aI @yu_f (aI @hr (aI @t1 @t2))))))) ?_
       refine gU1 (aI @splice_succ (aI @bunAP @ia52)) ?_
       refine (mod1_ok (m:=2) hq2 om om).mono ?_
       rintro r rfl
       have hab:=Int.tmod_add_mul_tdiv q2 3
       have ha1:=Int.tmod_lt_of_pos q2 (show (0:Int)<3 by omega)
       have ha2:=Int.lt_tmod_of_pos q2 (show (0:Int)<3 by omega)
       have hdq:In64 (q2.tdiv 3):=⟨by have:=hq2.1;have:=hq2.2;omega,by have:=hq2.1;have:=hq2.2;omega⟩
       have hdv:IntKind.i64.wrap (q2.tdiv 3)=q2.tdiv 3:=wrap64_in hdq.1 hdq.2
       obtain ⟨wf1,wf2,wf3,wf4,wf5,wf6⟩:=WfE_mk.1 hw
       obtain ⟨wx,wf7⟩:=WfL_cons.1 wf6
       obtain ⟨wy,-⟩:=WfL_cons.1 wf7
       rw [partsE_mk,partsL_cons,partsL_cons,partsL_nil] at hm
       have z1:0<=q2 % 2:=Int.emod_nonneg _ om
       have z2:q2 % 2<2:=Int.emod_lt_of_pos _ om
       rcases (show q2 % 2=0\/q2 % 2=1 by omega) with hz|hz
       ·rw [hz]
        refine gU1 (aI @splice_succ (aI @bunAP (aI @ia52 (aI @bv52 (aI @ze52 (aI @bu52 @hdv)))))) ?_
        obtain ⟨τ,hτ⟩:∃ S,((((Z.new [str o,.int .i64 nu,.int .i64 de,str nm,.slice (some ⟨vb,vo,sp⟩) 2 vc]).new [.int .i64 q0,.int .i64 q1,.int .i64 q2]).new [str [],.int .i64 0,.int .i64 0,str [],.slice none 0 0] (some 35)).new [x1,x2,x3,x4,x5,y1,y2,y3,y4,y5])=S:=⟨_,rfl⟩
        rw [hτ]
        have E1:Ext Z τ:=by rw [<- hτ];exact eX
        have nτ:τ.n=Z.n+4:=by rw [<- hτ];rfl
        have oa:τ.orow (Z.n+3)=some [x1,x2,x3,x4,x5,y1,y2,y3,y4,y5]:=by rw [<- hτ];exact cL
        have op:τ.orow Z.n=some [str o,.int .i64 nu,.int .i64 de,str nm,.slice (some ⟨vb,vo,sp⟩) 2 vc]:=by rw [<- hτ];exact cL
        have ot:τ.orow (Z.n+2)=some [str [],.int .i64 0,.int .i64 0,str [],.slice none 0 0]:=by rw [<- hτ];exact cL
        have K1:Keep (hide Z H) (hide τ ((Z.n+3)::Z.n::(Z.n+2)::H)):=keep_hide E1.n fun c hc hm=>⟨by simp only [List.mem_cons,not_or];exact ⟨om,om,om,hm⟩,by rw [E1.row hc]⟩
        clear hτ
        refine (ih (e:=x) (H:=(Z.n+3)::Z.n::(Z.n+2)::H) (w:=w) (m:=partsE x) (by simp at hsz;omega) (fun c hc=>?_) (hx1.keep K1) hq0 hq1 hdq wx hw1 hw3 (Nat.le_refl _)).mono ?_
        ·simp only [List.mem_cons] at hc
         rcases hc with h|h|h|h
         ·omega
         ·omega
         ·omega
         ·have:=hH c h;omega
        rintro r ⟨rn,x',Z2,rfl,E2,hxn,wxn,mxn⟩
        have n2:=E2.n
        obtain ⟨c1,c2,c3,c4,c5,rfl⟩:=fc5 hxn.to
        have oa:Z2.orow (Z.n+3)=some [x1,x2,x3,x4,x5,y1,y2,y3,y4,y5]:=by rw [E2.orow om];exact oa
        have op:Z2.orow Z.n=some [str o,.int .i64 nu,.int .i64 de,str nm,.slice (some ⟨vb,vo,sp⟩) 2 vc]:=by rw [E2.orow om];exact op
        have ot:Z2.orow (Z.n+2)=some [str [],.int .i64 0,.int .i64 0,str [],.slice none 0 0]:=by rw [E2.orow om];exact ot
        have e3:Z.n+1+1+1=Z.n+3:=rfl
        have e2:Z.n+1+1=Z.n+2:=rfl
        simp (maxSteps:=8000000) (disch:=first|exact dS|fail) only [↓bD,bU,reduceMul,reduceEqDiff,reduceAdd,Nat.reduceBEq,reduceIte,Option.isNone_none,splice_succ,bunAP,e3,e2,oa,asx E2]
        try refine Must.intro (by (repeat first|simp (disch:=omega) only [as_read,as_upd,as_newb,asx E2]|rw [as_ord (by kernel_rfl)]);first|done|rfl) ?_
        try simp (maxSteps:=8000000) (disch:=first|exact dS|fail) only [↓bD,bU,reduceMul,reduceEqDiff,reduceAdd,Nat.reduceBEq,reduceIte,Option.isNone_none,splice_succ,bunAP,e3,e2,oa,op,ot]
        obtain ⟨SF,hSF⟩:∃ S,(((Z2.upd (Z.n+3) [c1,c2,c3,c4,c5,y1,y2,y3,y4,y5]).upd Z.n [str o,.int .i64 nu,.int .i64 de,str nm,.slice (some ⟨Z.n+3,0,none⟩) 2 2]).upd (Z.n+2) [str o,.int .i64 nu,.int .i64 de,str nm,.slice (some ⟨Z.n+3,0,none⟩) 2 2])=S:=⟨_,rfl⟩
        have nF:SF.n=Z2.n:=by rw [<- hSF];rfl
        have rF:SF.row (Z.n+3)=some ([c1,c2,c3,c4,c5]++[y1,y2,y3,y4,y5]):=by rw [<- hSF,row_upd_ne om,row_upd_ne om];exact cL
        have nm3:Z.n+3∉H:=fun h=>by have:=hH _ h;omega
        have KA:Keep (hide Z2 ((Z.n+3)::Z.n::(Z.n+2)::H)) (hide SF H):=keep_hide om fun c hc hm=>by
         simp only [List.mem_cons,not_or] at hm
         exact ⟨hm.2.2.2,by rw [<- hSF,row_upd_ne hm.2.2.1,row_upd_ne hm.2.1,row_upd_ne hm.1]⟩
        have KB:Keep (hide Z H) (hide SF H):=keep_hide om fun c hc hm=>⟨hm,by rw [<- hSF,row_upd_ne om,row_upd_ne om,row_upd_ne om,(E1.trans E2).row hc]⟩
        have EF:Ext Z SF:=by rw [<- hSF];exact (((E1.trans E2).upd om _).upd om _).upd om _
        refine ⟨_,.mk o nu de nm [x',y],SF,by rw [<- hSF],EF,ex2x (by rw [hide_n];omega) (by rw [hide_row nm3];exact rF) rfl (hxn.keep KA) (hx2.keep KB),WfE_mk.2 ⟨wf1,wf2,wf3,wf4,by show 2<=w+1;omega,WfL_cons.2 ⟨wxn,WfL_cons.2 ⟨WfE.mono om wy,WfL_nil⟩⟩⟩,?_⟩
        rw [partsE_mk,partsL_cons,partsL_cons,partsL_nil]
        omega
       ·rw [hz]
        refine gU1 (aI @splice_succ (aI @bunAP (aI @ia52 (aI @bv52 (aI @ze52 (aI @bu52 @hdv)))))) ?_
        obtain ⟨τ,hτ⟩:∃ S,((((Z.new [str o,.int .i64 nu,.int .i64 de,str nm,.slice (some ⟨vb,vo,sp⟩) 2 vc]).new [.int .i64 q0,.int .i64 q1,.int .i64 q2]).new [str [],.int .i64 0,.int .i64 0,str [],.slice none 0 0] (some 35)).new [x1,x2,x3,x4,x5,y1,y2,y3,y4,y5])=S:=⟨_,rfl⟩
        rw [hτ]
        have E1:Ext Z τ:=by rw [<- hτ];exact eX
        have nτ:τ.n=Z.n+4:=by rw [<- hτ];rfl
        have oa:τ.orow (Z.n+3)=some [x1,x2,x3,x4,x5,y1,y2,y3,y4,y5]:=by rw [<- hτ];exact cL
        have op:τ.orow Z.n=some [str o,.int .i64 nu,.int .i64 de,str nm,.slice (some ⟨vb,vo,sp⟩) 2 vc]:=by rw [<- hτ];exact cL
        have ot:τ.orow (Z.n+2)=some [str [],.int .i64 0,.int .i64 0,str [],.slice none 0 0]:=by rw [<- hτ];exact cL
        have K1:Keep (hide Z H) (hide τ ((Z.n+3)::Z.n::(Z.n+2)::H)):=keep_hide E1.n fun c hc hm=>⟨by simp only [List.mem_cons,not_or];exact ⟨om,om,om,hm⟩,by rw [E1.row hc]⟩
        clear hτ
        refine (ih (e:=y) (H:=(Z.n+3)::Z.n::(Z.n+2)::H) (w:=w) (m:=partsE y) (by simp at hsz;omega) (fun c hc=>?_) (hx2.keep K1) hq0 hq1 hdq wy hw1 hw3 (Nat.le_refl _)).mono ?_
        ·simp only [List.mem_cons] at hc
         rcases hc with h|h|h|h
         ·omega
         ·omega
         ·omega
         ·have:=hH c h;omega
        rintro r ⟨rn,x',Z2,rfl,E2,hxn,wxn,mxn⟩
        have n2:=E2.n
        obtain ⟨c1,c2,c3,c4,c5,rfl⟩:=fc5 hxn.to
        have oa:Z2.orow (Z.n+3)=some [x1,x2,x3,x4,x5,y1,y2,y3,y4,y5]:=by rw [E2.orow om];exact oa
        have op:Z2.orow Z.n=some [str o,.int .i64 nu,.int .i64 de,str nm,.slice (some ⟨vb,vo,sp⟩) 2 vc]:=by rw [E2.orow om];exact op
        have ot:Z2.orow (Z.n+2)=some [str [],.int .i64 0,.int .i64 0,str [],.slice none 0 0]:=by rw [E2.orow om];exact ot
        have e3:Z.n+1+1+1=Z.n+3:=rfl
        have e2:Z.n+1+1=Z.n+2:=rfl
        simp (maxSteps:=8000000) (disch:=first|exact dS|fail) only [↓bD,bU,reduceMul,reduceEqDiff,reduceAdd,Nat.reduceBEq,reduceIte,Option.isNone_none,splice_succ,bunAP,e3,e2,oa,asx E2]
        try refine Must.intro (by (repeat first|simp (disch:=omega) only [as_read,as_upd,as_newb,asx E2]|rw [as_ord (by kernel_rfl)]);first|done|rfl) ?_
        try simp (maxSteps:=8000000) (disch:=first|exact dS|fail) only [↓bD,bU,reduceMul,reduceEqDiff,reduceAdd,Nat.reduceBEq,reduceIte,Option.isNone_none,splice_succ,bunAP,e3,e2,oa,op,ot]
        obtain ⟨SF,hSF⟩:∃ S,(((Z2.upd (Z.n+3) [x1,x2,x3,x4,x5,c1,c2,c3,c4,c5]).upd Z.n [str o,.int .i64 nu,.int .i64 de,str nm,.slice (some ⟨Z.n+3,0,none⟩) 2 2]).upd (Z.n+2) [str o,.int .i64 nu,.int .i64 de,str nm,.slice (some ⟨Z.n+3,0,none⟩) 2 2])=S:=⟨_,rfl⟩
        have nF:SF.n=Z2.n:=by rw [<- hSF];rfl
        have rF:SF.row (Z.n+3)=some ([x1,x2,x3,x4,x5]++[c1,c2,c3,c4,c5]):=by rw [<- hSF,row_upd_ne om,row_upd_ne om];exact cL
        have nm3:Z.n+3∉H:=fun h=>by have:=hH _ h;omega
        have KA:Keep (hide Z2 ((Z.n+3)::Z.n::(Z.n+2)::H)) (hide SF H):=keep_hide om fun c hc hm=>by
         simp only [List.mem_cons,not_or] at hm
         exact ⟨hm.2.2.2,by rw [<- hSF,row_upd_ne hm.2.2.1,row_upd_ne hm.2.1,row_upd_ne hm.1]⟩
        have KB:Keep (hide Z H) (hide SF H):=keep_hide om fun c hc hm=>⟨hm,by rw [<- hSF,row_upd_ne om,row_upd_ne om,row_upd_ne om,(E1.trans E2).row hc]⟩
        have EF:Ext Z SF:=by rw [<- hSF];exact (((E1.trans E2).upd om _).upd om _).upd om _
        refine ⟨_,.mk o nu de nm [x,x'],SF,by rw [<- hSF],EF,ex2x (by rw [hide_n];omega) (by rw [hide_row nm3];exact rF) rfl (hx1.keep KB) (hxn.keep KA),WfE_mk.2 ⟨wf1,wf2,wf3,wf4,by show 2<=w+1;omega,WfL_cons.2 ⟨WfE.mono om wx,WfL_cons.2 ⟨wxn,WfL_nil⟩⟩⟩,?_⟩
        rw [partsE_mk,partsL_cons,partsL_cons,partsL_nil]
        omega
end Go.Proofs.T
