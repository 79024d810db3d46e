/- Facts on the types of the translation. -/
import Derived.Test.YtbcanmagihejhaaGreatDoorAbD
import Derived.Test.YtbcanmagihejhaaGreatDoorTA
import Derived.Test.YtbcanmagihejhaaGreatDoorProg
import Derived.KernelRfl
import Derived.Test.YtbcanmagihejhaaGreatDoorBA
import Derived.Test.YtbcanmagihejhaaGreatDoorTF
import Derived.Test.YtbcanmagihejhaaGreatDoorRA
set_option linter.unusedSimpArgs false
set_option linter.unusedVariables false
namespace Go.Proofs.T
open Go Go.Ab
section
variable {fr:Fr} {Z:St} {x ix a v:Operand} {ve:Value}
theorem ld169:LDn 169 2:=by unfold LDn;intros;kernel_rfl
theorem lv169:LVn 169 2:=by unfold LVn;intros;kernel_rfl
theorem st169:STn 169 2:=by unfold STn;intros;kernel_rfl
theorem al169:nAlloc Tryz.prog 169=some ([.bool false,.slice none 0 0],ptrTo):=by kernel_rfl
theorem ze169:zero? Tryz.prog 169=some (.agg ⟨[.bool false,.slice none 0 0]⟩):=by kernel_rfl
theorem bu169:pBuild Tryz.prog fr 169 #[]=some (.agg ⟨[.bool false,.slice none 0 0]⟩):=by kernel_rfl
theorem bv169 {z:List Value}{ps:List (Nat×Value)}:buildV Tryz.prog 169 z ps=ob (fillL (fun i=>[(0,1),(1,1)][i]?) ps z) fun l=>some (.agg ⟨l⟩):=by kernel_rfl
theorem fa169_0:FAo 169 0:=by unfold FAo;intros;kernel_rfl
theorem fi169_0:FIo 169 0 0:=by unfold FIo;intros;kernel_rfl
theorem fa169_1:FAn 169 1 1:=by unfold FAn;intros;kernel_rfl
theorem fi169_1:FIo 169 1 1:=by unfold FIo;intros;kernel_rfl
end
end Go.Proofs.T
namespace Go.Proofs.T
open Go Go.Ab
open Nat (reduceMul reduceEqDiff reduceAdd)
set_option maxRecDepth 100000
def BigAt (Z:St) (v:Value) (neg:Bool) (l:List Nat):Prop:=∃ w,v= .agg ⟨[.bool neg,w]⟩/\DN Z w l
theorem div_digit {m V P N:Nat}(h:V+P*m=N):V+P*(m % 65536)+P*65536*(m / 65536)=N:=by
 have e:=congrArg (P*·) (Nat.div_add_mod m 65536)
 simp only [Nat.mul_add] at e
 rw [<- Nat.mul_assoc] at e
 omega
theorem Trm.snoc_last {l:List Nat}{d:Nat}(h:d≠0):Trm (l++[d]):=fun x hx=>by
 rw [List.getLast?_concat] at hx
 cases hx;exact h
set_option maxHeartbeats 8000000 in
theorem of_ok {Z:St}{n:Int}(h:In64 n):Ev (go Tryz.prog HS (.fn 105) [.int .i64 n] Z) (fun r=>∃ v l Z',r=⟨false,v,Z'⟩/\Ext Z Z'/\BigAt Z' v (decide (n<0)) l/\Dig l/\Trm l/\valD l=n.natAbs/\l.length<=4) ⟨⟩:=by
 obtain ⟨h1,h2⟩:=h
 obtain ⟨N,hN⟩:∃ N,n.natAbs=N:=⟨_,rfl⟩
 have hNl:N<=9223372036854775808:=om
 have wu:∀ m:Int,IntKind.u64.wrap m=m % 18446744073709551616:=fun m=>rfl
 rw [hN]
 refine ev_go Tryz.func105 rfl rfl ?_
 have hcases:(decide (n<0)=true/\IntKind.u64.wrap (0-IntKind.u64.wrap n)=(N:Int))\/(decide (n<0)=false/\IntKind.u64.wrap n=(N:Int)):=by
  by_cases hn:n<0
  ·exact .inl ⟨by simpa using hn,by rw [wu,wu];omega⟩
  ·exact .inr ⟨by simpa using hn,by rw [wu];omega⟩
 rcases hcases with ⟨hc,e1⟩|⟨hc,e1⟩
 all_goals
  refine gU1 (aI @splice_succ (aI @ap28 (aI @ap29 (aI @ap30 (aI @ap33 (aI @ap36 (aI @ap37 (aI @ap43 (aI @ap97 (aI @ap202 (aI @hc (aI @e1 @al169)))))))))))) ?_
  refine ev_loop (fun m fr Z'=>∃ v l,fr.get 0=some (.int .i64 n)/\fr.get 2=some (.pointer (some ⟨Z.n,0,none⟩))/\fr.get 3=some v/\fr.get 4=some (.int .u64 (m:Int))/\Ext (Z.new [.bool false,.slice none 0 0] (some 169)) Z'/\OL (Z.n+1) Z' 1 v (l.map fun d=>[dgv d])/\valD l+65536 ^ l.length*m=N/\m<=N/\Dig l/\(m=0->Trm l)/\m<65536 ^ (4-l.length)/\l.length<=4)
   (fun r=>∃ fr Z' v l,r=⟨.exit 0,fr,Z'⟩/\fr.get 0=some (.int .i64 n)/\fr.get 2=some (.pointer (some ⟨Z.n,0,none⟩))/\fr.get 3=some v/\Ext (Z.new [.bool false,.slice none 0 0] (some 169)) Z'/\OL (Z.n+1) Z' 1 v (l.map fun d=>[dgv d])/\valD l=N/\Dig l/\Trm l/\l.length<=4) N ?_ ?_ ?_
  ·exact ⟨.slice none 0 0,[],fR,fR,fR,fR,.refl _,OL.nil,by simp [valD],Nat.le_refl _,.nil,fun _=> .nil,by simp;omega,by simp⟩
  ·rintro m fr Z' ⟨v,l,g0,g2,g3,g4,hE,ho,hl,hm,hd,ht,hm4,hl4⟩
   by_cases hm0:m=0
   ·subst hm0
    have hc':decide ((0:Int)<((0:Nat):Int))=false:=by decide
    refine gU1 (aI @splice_succ (aI @ap28 (aI @ap29 (aI @ap30 (aI @ap33 (aI @ap36 (aI @ap37 (aI @ap43 (aI @ap97 (aI @ap202 (aI @g0 (aI @g2 (aI @g3 (aI @g4 (aI @hc' @lp_exit))))))))))))))) ?_
    rw [Nat.mul_zero,Nat.add_zero] at hl
    exact ⟨_,_,v,l,rfl,fR1 g0,fR1 g2,fR1 g3,hE,ho,hl,hd,ht rfl,hl4⟩
   ·have hc':decide ((0:Int)<(m:Int))=true:=by rw [decide_eq_true_iff];omega
    have hl3:l.length<4:=by
     rcases Nat.lt_or_ge l.length 4 with h|h
     ·exact h
     ·rw [show 4-l.length=0 by omega] at hm4;simp at hm4;omega
    have f1:(m:Int).tmod 65536=((m % 65536:Nat):Int):=rfl
    have f2:IntKind.i64.wrap ((m % 65536:Nat):Int)=((m % 65536:Nat):Int):=wrap64_in om om
    have f3:IntKind.u64.wrap ((m:Int).tdiv 65536)=((m / 65536:Nat):Int):=by rw [wu,show (m:Int).tdiv 65536=((m / 65536:Nat):Int) from rfl];omega
    refine gU1 (aI @splice_succ (aI @ap28 (aI @ap29 (aI @ap30 (aI @ap33 (aI @ap36 (aI @ap37 (aI @ap43 (aI @ap97 (aI @ap202 (aI @g0 (aI @g2 (aI @g3 (aI @g4 (aI @hc' (aI @f1 (aI @f2 @f3))))))))))))))))) ?_
    have hoN:OL (Z.n+1) (Z'.new [.int .i64 ((m % 65536:Nat):Int)]) 1 v (l.map fun d=>[dgv d]):=OL.ext ho (.new _ _)
    have en:=hE.n
    refine ev_append (row:=[dgv (m % 65536)]) (fun _ _ _ _=>ap22) hoN (row_new_same (Nat.le_refl _) (Nat.le_refl _)) (sub_full (by simp) (by simp)) (by rw [List.length_map];omega) (by simp only [new_n] at en ⊢;omega) ?_
    rintro v' Z8 ho' hA -
    refine gU1 (aI @splice_succ (aI @ap28 (aI @ap29 (aI @ap30 (aI @ap33 (aI @ap36 (aI @ap37 (aI @ap43 (aI @ap97 (aI @ap202 (aI @g0 (aI @g2 (aI @g3 (aI @g4 (aI @f1 (aI @f2 (aI @f3 @lp_normal))))))))))))))))) ?_
    refine ⟨m / 65536,om,v',l++[m % 65536],fR1 g0,fR1 g2,fR,fR,hA.ext (hE.new' _) hoN (by simp),by rw [List.map_append];exact ho',?_,om,hd.snoc om,fun h=>Trm.snoc_last om,?_,by simp;omega⟩
    ·rw [valD_snoc,List.length_append,List.length_singleton,Nat.pow_succ]
     exact div_digit hl
    ·rw [List.length_append,List.length_singleton]
     rw [show 4-l.length=4-(l.length+1)+1 by omega,Nat.pow_succ] at hm4
     omega
  ·rintro r ⟨fr,Z',v,l,rfl,g0,g2,g3,hE,ho,hl,hd,ht,hl4⟩
   have en:=hE.n
   simp only [new_n] at en
   obtain ⟨hs,ht'⟩:cellsL v=[v]/\isTup v=false:=by obtain ⟨va,h⟩:=OL.shape ho;rw [h];exact ⟨rfl,rfl⟩
   have o3:Z'.orow Z.n=some [.bool false,.slice none 0 0]:=by rw [orow_congr (hE.same _ (by simp))];exact orow_new_same (Nat.le_refl _) (Nat.le_refl _)
   have hE0:Ext Z Z':=Ext.trans (.new _ _) hE
   simp (maxSteps:=8000000) (disch:=first|exact dS|fail) only [↓bD,bU,reduceMul,reduceEqDiff,reduceAdd,Nat.reduceBEq,reduceIte,Option.isNone_none,splice_succ,ap28,ap29,ap30,ap33,ap36,ap37,ap43,ap97,ap202,g0,g2,g3,hc,hs,ht',o3,bu169,bv169,ze169,↓st169,↓ld169,lv169,Tryz.results105]
   have hD:=DN.of_ol (ho.keep (Z':=Z'.upd Z.n [.bool (decide (n<0)),v]) (by simp) fun b hb=>by
    have:=(ho.blk hb).1
    rw [upd_get,if_neg om])
   rw [hc] at hD
   exact ⟨_,l,_,rfl,hE0.upd (Nat.le_refl _) _,⟨v,rfl,hD⟩,hd,ht,hl,hl4⟩
end Go.Proofs.T
namespace Go.Proofs.T
open Go Go.Ab
open Nat (reduceMul reduceEqDiff reduceAdd)
set_option maxRecDepth 100000
def fitF (neg:Bool) (m:Nat):Int×Bool:=if neg=true/\m<=9223372036854775808 then (-(m:Int),true) else if 9223372036854775808<=m then (0,false) else ((m:Int),true)
set_option maxHeartbeats 8000000 in
theorem common_ok {Z:St}{v w:Value}{a b:List Nat}(ha:DN Z v a) (hb:DN Z w b) (da:Dig a) (db:Dig b) (ta:Trm a) (tb:Trm b) (la:a.length<=30) (lb:b.length<=30) :
  Ev (go Tryz.prog HS (.fn 140) [v,w] Z) (fun r=>∃ v' l Z',r=⟨false,v',Z'⟩/\Ext Z Z'/\DN Z' v' l/\Dig l/\Trm l/\valD l=Nat.gcd (valD a) (valD b)/\l.length<=30) ⟨⟩:=by
 refine ev_go Tryz.func140 rfl rfl ?_
 obtain ⟨wa,ca,hsa⟩:=ha.shape
 obtain ⟨wb,cb,hsb⟩:=hb.shape
 subst hsa hsb
 refine gU1 (aI @splice_succ @bunAP) ?_
 refine ev_loop (fun n fr τ=>∃ v w x y,fr.get 0=some v/\fr.get 1=some w/\Ext Z τ/\DN τ v x/\DN τ w y/\Dig x/\Dig y/\Trm x/\Trm y/\x.length<=30/\y.length<=30/\valD y=n/\Nat.gcd (valD x) (valD y)=Nat.gcd (valD a) (valD b))
  (fun r=>∃ fr τ v x,r=⟨.exit 0,fr,τ⟩/\fr.get 0=some v/\Ext Z τ/\DN τ v x/\Dig x/\Trm x/\x.length<=30/\valD x=Nat.gcd (valD a) (valD b)) (valD b) ?_ ?_ ?_
 ·exact ⟨_,_,a,b,fR,fR,.refl _,ha,hb,da,db,ta,tb,la,lb,rfl,rfl⟩
 ·rintro n fr τ ⟨v,w,x,y,g0,g1,hE,hx,hy,dx,dy,tx,ty,lx,ly,rfl,hg⟩
  obtain ⟨wx,cx,hsx⟩:=hx.shape
  obtain ⟨wy,cy,hsy⟩:=hy.shape
  subst hsx hsy
  refine gU1 (aI @splice_succ (aI @bunAP (aI @g0 @g1))) ?_
  refine (trim_ok hy om).mono ?_
  rintro z ⟨v3,y',rfl,hy',⟨k,hk⟩,ty',hv,-⟩
  have dy':Dig y':=by rw [hk];exact dy.take k
  obtain rfl:y'=y:=valD_inj dy' dy ty' ty hv
  obtain ⟨w3,c3,hs3⟩:=hy'.shape
  subst hs3
  by_cases h0:valD y'=0
  ·have e0:=Trm.zero ty h0
   subst e0
   have d0:decide ((0:Int)<((0:Nat):Int))=false:=rfl
   simp (maxSteps:=8000000) (disch:=first|exact dS|fail) only [↓bD,bU,reduceMul,reduceEqDiff,reduceAdd,Nat.reduceBEq,reduceIte,Option.isNone_none,splice_succ,bunAP,g0,g1,d0,yu_t,yu_f,lp_exit,List.length_nil]
   rw [h0,Nat.gcd_zero_right] at hg
   exact ⟨_,_,_,x,rfl,fR1 g0,hE,hx,dx,tx,lx,hg⟩
  ·have hl0:0<y'.length:=by
    rcases Nat.eq_zero_or_pos y'.length with h|h
    ·rw [List.eq_nil_of_length_eq_zero h] at h0;exact absurd rfl h0
    ·exact h
   have d0:decide ((0:Int)<((y'.length:Nat):Int))=true:=decide_eq_true om
   refine gU1 (aI @splice_succ (aI @bunAP (aI @g0 (aI @g1 (aI @d0 (aI @yu_t @yu_f)))))) ?_
   refine (trim_ok hx om).mono ?_
   rintro z ⟨v4,x',rfl,hx',⟨k4,hk4⟩,tx',hvx,-⟩
   have dx':Dig x':=by rw [hk4];exact dx.take k4
   obtain rfl:x'=x:=valD_inj dx' dx tx' tx hvx
   obtain ⟨w4,c4,hs4⟩:=hx'.shape
   subst hs4
   refine gU1 (aI @splice_succ (aI @bunAP (aI @g0 @g1))) ?_
   refine (trim_ok hy om).mono ?_
   rintro z ⟨v5,y5,rfl,hy5,⟨k5,hk5⟩,ty5,hv5,-⟩
   have dy5:Dig y5:=by rw [hk5];exact dy.take k5
   obtain rfl:y5=y':=valD_inj dy5 dy ty5 ty hv5
   obtain ⟨w5,c5,hs5⟩:=hy5.shape
   subst hs5
   refine gU1 (aI @splice_succ (aI @bunAP (aI @g0 @g1))) ?_
   refine (over_ok hx' hy5 dx dy ty om om om).mono ?_
   rintro z ⟨v6,v7,q,l,τ',rfl,hE',hq,hl,dq,dl,tq,tl,hvq,hvl,lq,ll⟩
   obtain ⟨w6,c6,hs6⟩:=hq.shape
   obtain ⟨w7,c7,hs7⟩:=hl.shape
   subst hs6 hs7
   refine gU1 (aI @splice_succ (aI @bunAP (aI @g0 (aI @g1 @lp_normal)))) ?_
   have hlt:=Nat.mod_lt (valD x') (show 0<valD y5 by omega)
   exact ⟨valD l,om,_,_,y5,l,fR,fR,hE.trans hE',hy.mono hE',hl,dy,dl,ty,tl,ly,om,rfl,by rw [hvl,<- hg,Nat.gcd_comm (valD x'),Nat.gcd_rec (valD y5) (valD x'),Nat.gcd_comm (valD y5)]⟩
 ·rintro z ⟨fr,τ,v,x,rfl,g0,hE,hx,dx,tx,lx,hg⟩
  obtain ⟨wx,cx,hsx⟩:=hx.shape
  subst hsx
  refine gU1 (aI @splice_succ (aI @bunAP @g0)) ?_
  refine (trim_ok hx om).mono ?_
  rintro z ⟨v4,x',rfl,hx',⟨k4,hk4⟩,tx',hvx,-⟩
  obtain ⟨w4,c4,hs4⟩:=hx'.shape
  subst hs4
  refine gU1 (aI @splice_succ (aI @bunAP @Tryz.results140)) ?_
  exact ⟨_,x',_,rfl,hE,hx',by rw [hk4];exact dx.take k4,tx',by rw [hvx];exact hg,by rw [hk4,List.length_take];omega⟩
end Go.Proofs.T
namespace Go.Proofs.T
open Go Go.Ab
open Nat (reduceMul reduceEqDiff reduceAdd)
set_option maxRecDepth 100000
set_option maxHeartbeats 8000000 in
theorem fit_ok {Z:St}{v:Value}{neg:Bool}{l:List Nat}(hb:BigAt Z v neg l) (dl:Dig l) (tl:Trm l) (ll:l.length<=50) :
  Ev (go Tryz.prog HS (.fn 143) [v] Z) (fun r=>∃ Z',r=⟨false,.tuple ⟨[.int .i64 (fitF neg (valD l)).1,.bool (fitF neg (valD l)).2]⟩,Z'⟩/\Ext Z Z') ⟨⟩:=by
 obtain ⟨w,rfl,hw⟩:=hb
 obtain ⟨ww,wc,hs⟩:=hw.shape
 subst hs
 have hE:Ext Z (Z.new [.bool neg,.slice ww l.length wc]):= .new _ _
 have wu:∀ m:Int,IntKind.u64.wrap m=m % 18446744073709551616:=fun m=>rfl
 refine ev_go Tryz.func143 rfl rfl ?_
 simp (maxSteps:=8000000) (disch:=first|exact dS|fail) only [↓bD,bU,reduceMul,reduceEqDiff,reduceAdd,Nat.reduceBEq,reduceIte,Option.isNone_none,splice_succ,bunAP,bu169,bv169,ze169,al169,↓st169,↓ld169,lv169,↓fa169_0,↓fa169_1,↓fi169_0,↓fi169_1]
 refine (trim_ok (hw.mono hE) om).mono ?_
 rintro z ⟨v3,l',rfl,hl',⟨k,hk⟩,tl',hv,-⟩
 have dl':Dig l':=by rw [hk];exact dl.take k
 obtain rfl:l'=l:=valD_inj dl' dl tl' tl hv
 obtain ⟨la,lc,lb,lo,lcs,hs3,a1,a2⟩:=hl'.use
 subst hs3
 by_cases h4:4<l'.length
 ·have d0:decide ((4:Int)<((l'.length:Nat):Int))=true:=decide_eq_true om
  refine gU1 (aI @splice_succ (aI @bunAP (aI @d0 @Tryz.results143))) ?_
  have hV:18446744073709551616<=valD l':=by
   have h5:=tl'.le (fun e=>by rw [e] at h4;simp at h4)
   have h6:65536 ^ 4<=65536 ^ (l'.length-1):=Nat.pow_le_pow_right om om
   have h7:(65536:Nat) ^ 4=18446744073709551616:=by decide
   omega
  have e:fitF neg (valD l')=(0,false):=by unfold fitF;rw [if_neg om,if_pos om]
  rw [e]
  exact ⟨_,rfl,hE⟩
 ·have d0:decide ((4:Int)<((l'.length:Nat):Int))=false:=decide_eq_false om
  refine gU1 (aI @splice_succ (aI @bunAP @d0)) ?_
  refine ev_upto l'.length (fun k fr τ=>fr.get 1=some (.pointer (some ⟨Z.n,0,none⟩))/\fr.get 4=some (.slice la l'.length lc)/\fr.get 6=some (.int .i64 ((l'.length:Int)-1-(k:Nat)))/\τ=Z.new [.bool neg,.slice ww l'.length wc]/\fr.get 5=some (.int .u64 ((valD (l'.drop (l'.length-k)):Nat):Int)))
   (fun r=>∃ fr,r=⟨.exit 0,fr,Z.new [.bool neg,.slice ww l'.length wc]⟩/\fr.get 1=some (.pointer (some ⟨Z.n,0,none⟩))/\fr.get 5=some (.int .u64 ((valD l':Nat):Int))) ?_ ?_ ?_
  ·exact ⟨fR,fR,by rw [show ((l'.length:Int)-1-((0:Nat):Int))=(l'.length:Int)-1 by omega];exact (fR),rfl,by rw [Nat.sub_zero,List.drop_length];exact (fR)⟩
  ·rintro k fr τ hk ⟨g1,g4,g6,rfl,g5⟩
   by_cases hk2:k=l'.length
   ·subst hk2
    have e1:((l'.length:Int)-1-(l'.length:Nat))= -1:=om
    rw [e1] at g6
    rw [Nat.sub_self,List.drop_zero] at g5
    have d2:decide ((-1:Int)<0)=true:=rfl
    refine gU1 (aI @splice_succ (aI @bunAP (aI @g6 (aI @d2 (aI @Bool.not_true (aI @yu_t @yu_f)))))) ?_
    exact ⟨_,rfl,fR1 g1,fR1 g5⟩
   ·obtain ⟨m,hm⟩:∃ m,l'.length-1-k=m:=⟨_,rfl⟩
    have e1:((l'.length:Int)-1-(k:Nat))=((m:Nat):Int):=om
    rw [e1] at g6
    rw [show l'.length-k=m+1 by omega] at g5
    obtain ⟨x,hx⟩:=at_some (l:=l') (k:=m) om
    have xl:=dl'.get hx
    obtain ⟨sp,rfl,h3,h4⟩:=a1 om
    have s1:=a2 m x hx
    have c1:decide (((m:Nat):Int)<0)=false:=decide_eq_false om
    have l1:Nat.blt m l'.length=true:=by rw [Nat.blt_eq];omega
    have hx':=(List.getElem?_eq_some_iff.1 hx).2
    obtain ⟨V,hV⟩:∃ V,valD (l'.drop (m+1))=V:=⟨_,rfl⟩
    have hVl:V<281474976710656:=by
     have:=valD_lt (l:=l'.drop (m+1)) (fun y hy=>dl' y (List.mem_of_mem_drop hy))
     rw [hV,List.length_drop] at this
     have h5:65536 ^ (l'.length-(m+1))<=65536 ^ 3:=Nat.pow_le_pow_right om om
     have h6:(65536:Nat) ^ 3=281474976710656:=by decide
     omega
    rw [hV] at g5
    have f1:wrapF .u64 (((V:Nat):Int)*65536)=((V*65536:Nat):Int):=by rw [wrapF_eq,wu];omega
    have f2:IntKind.u64.wrap ((x:Nat):Int)=((x:Nat):Int):=by rw [wu];omega
    have f3:wrapF .u64 (((V*65536:Nat):Int)+((x:Nat):Int))=((x+65536*V:Nat):Int):=by rw [wrapF_eq,wu];omega
    have e2:((m:Nat):Int)-1=(l'.length:Int)-1-((k+1:Nat):Int):=om
    refine gU1 (aI @splice_succ (aI @bunAP (aI @g1 (aI @g4 (aI @g5 (aI @g6 (aI @c1 (aI @h4 (aI @s1 (aI @l1 (aI @f1 (aI @f2 (aI @f3 (aI @Bool.not_false (aI @yu_t @yu_f))))))))))))))) ?_
    refine ⟨om,fR1 g1,fR1 g4,by rw [<- e2];exact (fR),rfl,?_⟩
    rw [show l'.length-(k+1)=m by omega,List.drop_eq_getElem_cons (show m<l'.length by omega),hx',valD_cons,hV]
    exact (fR)
  ·rintro z ⟨fr,rfl,g1,g5⟩
   obtain ⟨M,hM⟩:∃ M,valD l'=M:=⟨_,rfl⟩
   rw [hM] at g5
   have hMl:M<18446744073709551616:=by
    have:=valD_lt dl'
    rw [hM] at this
    have h5:65536 ^ l'.length<=65536 ^ 4:=Nat.pow_le_pow_right om om
    have h6:(65536:Nat) ^ 4=18446744073709551616:=by decide
    omega
   rw [hM]
   cases d1:decide (9223372036854775808<(M:Int)) with
   | true =>
     have h1:=of_decide_eq_true d1
     have d2:decide ((M:Int)<9223372036854775808)=false:=decide_eq_false om
     have e:fitF neg M=(0,false):=by unfold fitF;rw [if_neg om,if_pos om]
     rw [e]
     cases neg
     ·simp (maxSteps:=8000000) (disch:=first|exact dS|fail) only [↓bD,bU,reduceMul,reduceEqDiff,reduceAdd,Nat.reduceBEq,reduceIte,Option.isNone_none,splice_succ,bunAP,g1,g5,↓st169,↓ld169,lv169,↓fa169_0,↓fa169_1,d1,d2,Tryz.results143]
      exact ⟨_,rfl,hE⟩
     ·simp (maxSteps:=8000000) (disch:=first|exact dS|fail) only [↓bD,bU,reduceMul,reduceEqDiff,reduceAdd,Nat.reduceBEq,reduceIte,Option.isNone_none,splice_succ,bunAP,g1,g5,↓st169,↓ld169,lv169,↓fa169_0,↓fa169_1,d1,d2,Tryz.results143]
      exact ⟨_,rfl,hE⟩
   | false =>
     have h1:=of_decide_eq_false d1
     cases neg
     ·cases d2:decide ((M:Int)<9223372036854775808) with
      | true =>
        have h2:=of_decide_eq_true d2
        have e:fitF false M=((M:Int),true):=by unfold fitF;rw [if_neg (by simp),if_neg om]
        have e1:IntKind.i64.wrap ((M:Nat):Int)=(M:Int):=wrap64_in om om
        rw [e]
        simp (maxSteps:=8000000) (disch:=first|exact dS|fail) only [↓bD,bU,reduceMul,reduceEqDiff,reduceAdd,Nat.reduceBEq,reduceIte,Option.isNone_none,splice_succ,bunAP,g1,g5,↓st169,↓ld169,lv169,↓fa169_0,↓fa169_1,d1,d2,e1,Tryz.results143]
        exact ⟨_,rfl,hE⟩
      | false =>
        have h2:=of_decide_eq_false d2
        have e:fitF false M=(0,false):=by unfold fitF;rw [if_neg (by simp),if_pos om]
        rw [e]
        simp (maxSteps:=8000000) (disch:=first|exact dS|fail) only [↓bD,bU,reduceMul,reduceEqDiff,reduceAdd,Nat.reduceBEq,reduceIte,Option.isNone_none,splice_succ,bunAP,g1,g5,↓st169,↓ld169,lv169,↓fa169_0,↓fa169_1,d1,d2,Tryz.results143]
        exact ⟨_,rfl,hE⟩
     ·have e:fitF true M=(-(M:Int),true):=by unfold fitF;rw [if_pos ⟨rfl,om⟩]
      have e1:IntKind.i64.wrap (IntKind.u64.wrap (0-(M:Int)))= -(M:Int):=by
       rw [wu,wrap_i64]
       split <;> omega
      rw [e]
      simp (maxSteps:=8000000) (disch:=first|exact dS|fail) only [↓bD,bU,reduceMul,reduceEqDiff,reduceAdd,Nat.reduceBEq,reduceIte,Option.isNone_none,splice_succ,bunAP,g1,g5,↓st169,↓ld169,lv169,↓fa169_0,↓fa169_1,d1,e1,Tryz.results143]
      exact ⟨_,rfl,hE⟩
end Go.Proofs.T
namespace Go.Proofs.T
open Go Go.Ab
open Nat (reduceMul reduceEqDiff reduceAdd)
set_option maxRecDepth 100000
def lowF (neg:Bool) (N D:Nat):Int×Int×Bool :=
 if (fitF (neg&&decide (0<N / Nat.gcd N D)) (N / Nat.gcd N D)).2&&(fitF false (D / Nat.gcd N D)).2 then ((fitF (neg&&decide (0<N / Nat.gcd N D)) (N / Nat.gcd N D)).1,(fitF false (D / Nat.gcd N D)).1,true) else (0,1,false)
theorem nb_bool {x y:Operand}{a b:Bool}:bin2 Tryz.prog .neq 4 x y (.bool a) (.bool b)=some (.bool (a != b)):=by cases a <;> cases b <;> kernel_rfl
theorem of1_ok {Z:St}{n:Int}:Ev (go Tryz.prog HS (.fn 101) [.int .i64 n] Z) (fun r=>∃ Z',r=⟨false,.agg ⟨[.int .i64 n,.int .i64 1]⟩,Z'⟩/\Ext Z Z') ⟨⟩:=by
 refine ev_go Tryz.func101 rfl rfl ?_
 refine gU1 (aI @splice_succ (aI @bunAP @Tryz.results101)) ?_
 exact ⟨_,rfl,eX⟩
set_option maxHeartbeats 16000000 in
theorem blowest_ok {Z:St}{v w:Value}{n1 n2:Bool}{a b:List Nat}(ha:BigAt Z v n1 a) (hb:BigAt Z w n2 b) (da:Dig a) (db:Dig b) (ta:Trm a) (tb:Trm b) (la:a.length<=20) (lb:b.length<=20) (h0:0<valD b) :
  Ev (go Tryz.prog HS (.fn 104) [v,w] Z) (fun r=>∃ Z',r=⟨false,.tuple ⟨[.agg ⟨[.int .i64 (lowF (n1 != n2) (valD a) (valD b)).1,.int .i64 (lowF (n1 != n2) (valD a) (valD b)).2.1]⟩,.bool (lowF (n1 != n2) (valD a) (valD b)).2.2]⟩,Z'⟩/\Ext Z Z') ⟨⟩:=by
 obtain ⟨va,rfl,hva⟩:=ha
 obtain ⟨vb,rfl,hvb⟩:=hb
 obtain ⟨wa,ca,hsa⟩:=hva.shape
 obtain ⟨wb,cb,hsb⟩:=hvb.shape
 subst hsa hsb
 obtain ⟨LF,hLF⟩:∃ LF,lowF (n1 != n2) (valD a) (valD b)=LF:=⟨_,rfl⟩
 rw [hLF]
 refine ev_go Tryz.func104 rfl rfl ?_
 simp (maxSteps:=8000000) (disch:=first|exact dS|fail) only [↓bD,bU,reduceMul,reduceEqDiff,reduceAdd,Nat.reduceBEq,reduceIte,Option.isNone_none,splice_succ,bunAP,bu169,bv169,ze169,al169,↓st169,↓ld169,lv169,↓fa169_0,↓fa169_1,↓fi169_0,↓fi169_1]
 obtain ⟨S,hS⟩:∃ S,S=(((Z.new [Value.bool n1,Value.slice wa a.length ca]).new [Value.bool n2,Value.slice wb b.length cb]).new [Value.int IntKind.i64 0,Value.int IntKind.i64 0] (some 32)):=⟨_,rfl⟩
 have hE0:Ext Z S:=by rw [hS];exact ((Ext.new _ _).trans (.new _ _)).trans (.new _ _)
 have hn:S.n=Z.n+3:=by rw [hS];simp
 have o1:S.orow Z.n=some [.bool n1,.slice wa a.length ca]:=by rw [hS];exact cL
 have o2:S.orow (Z.n+1)=some [.bool n2,.slice wb b.length cb]:=by rw [hS];exact cL
 have o3:S.orow (Z.n+2)=some [.int .i64 0,.int .i64 0]:=by rw [hS];exact cL
 rw [<- hS]
 have xlow:∀ {τ:St},Ext S τ->Ext Z τ/\Z.n+3<=τ.n/\τ.row Z.n=some [.bool n1,.slice wa a.length ca]/\τ.row (Z.n+1)=some [.bool n2,.slice wb b.length cb]/\τ.orow (Z.n+2)=some [.int .i64 0,.int .i64 0]:=fun {τ} h =>
  ⟨hE0.trans h,by have:=h.n;omega,by rw [h.row om];exact row_of o1,by rw [h.row om];exact row_of o2,by rw [orow_congr (h.same _ om)];exact o3⟩
 refine (common_ok (hva.mono hE0) (hvb.mono hE0) da db ta tb om om).mono ?_
 rintro z ⟨v1,g,τ1,rfl,hE1,hg,dg,tg,hgv,lg⟩
 obtain ⟨wg,cg,hsg⟩:=hg.shape
 subst hsg
 obtain ⟨hF1,n1',r1,r2,r3⟩:=xlow hE1
 clear hS
 simp (maxSteps:=8000000) (disch:=first|exact dS|fail) only [↓bD,bU,reduceMul,reduceEqDiff,reduceAdd,Nat.reduceBEq,reduceIte,Option.isNone_none,splice_succ,bunAP,↓ld169,lv169,↓fa169_0,↓fa169_1,↓fi169_0,↓fi169_1,r1,r2]
 refine (trim_ok (hva.mono hF1) om).mono ?_
 rintro z ⟨v2,a',rfl,ha',⟨k2,hk2⟩,ta',hva2,-⟩
 have da':Dig a':=by rw [hk2];exact da.take k2
 obtain rfl:a'=a:=valD_inj da' da ta' ta hva2
 obtain ⟨w2,c2,hs2⟩:=ha'.shape
 subst hs2
 simp (maxSteps:=8000000) (disch:=first|exact dS|fail) only [↓bD,bU,reduceMul,reduceEqDiff,reduceAdd,Nat.reduceBEq,reduceIte,Option.isNone_none,splice_succ,bunAP,↓ld169,lv169,↓fa169_0,↓fa169_1,↓fi169_0,↓fi169_1]
 have hg0:0<valD g:=by rw [hgv];exact Nat.gcd_pos_of_pos_right _ h0
 refine (over_ok ha' hg da dg tg om om hg0).mono ?_
 rintro z ⟨v3,v4,x,rx,τ2,rfl,hE2,hx,hrx,dx,drx,tx,trx,hxv,-,lx,-⟩
 obtain ⟨w3,c3,hs3⟩:=hx.shape
 obtain ⟨w4,c4,hs4⟩:=hrx.shape
 subst hs3 hs4
 obtain ⟨hF2,n2',r4,r5,r6⟩:=xlow (hE1.trans hE2)
 simp (maxSteps:=8000000) (disch:=first|exact dS|fail) only [↓bD,bU,reduceMul,reduceEqDiff,reduceAdd,Nat.reduceBEq,reduceIte,Option.isNone_none,splice_succ,bunAP,↓ld169,lv169,↓fa169_0,↓fa169_1,↓fi169_0,↓fi169_1,r4,r5]
 refine (trim_ok (hvb.mono hF2) om).mono ?_
 rintro z ⟨v5,b',rfl,hb',⟨k5,hk5⟩,tb',hvb2,-⟩
 have db':Dig b':=by rw [hk5];exact db.take k5
 obtain rfl:b'=b:=valD_inj db' db tb' tb hvb2
 obtain ⟨w5,c5,hs5⟩:=hb'.shape
 subst hs5
 simp (maxSteps:=8000000) (disch:=first|exact dS|fail) only [↓bD,bU,reduceMul,reduceEqDiff,reduceAdd,Nat.reduceBEq,reduceIte,Option.isNone_none,splice_succ,bunAP,↓ld169,lv169,↓fa169_0,↓fa169_1,↓fi169_0,↓fi169_1]
 refine (over_ok hb' (hg.mono hE2) db dg tg om om hg0).mono ?_
 rintro z ⟨v6,v7,y,ry,τ3,rfl,hE3,hy,hry,dy,dry,ty,try',hyv,-,ly,-⟩
 obtain ⟨w6,c6,hs6⟩:=hy.shape
 obtain ⟨w7,c7,hs7⟩:=hry.shape
 subst hs6 hs7
 obtain ⟨hF3,n3',r7,r8,r9⟩:=xlow ((hE1.trans hE2).trans hE3)
 obtain ⟨sg,hsg⟩:∃ sg,((n1 != n2)&&decide (0<valD x))=sg:=⟨_,rfl⟩
 have hlx:decide ((0:Int)<((x.length:Nat):Int))=decide (0<valD x):=by
  by_cases hz:valD x=0
  ·rw [Trm.zero tx hz];rfl
  ·have:0<x.length:=by
    rcases Nat.eq_zero_or_pos x.length with h|h
    ·rw [List.eq_nil_of_length_eq_zero h] at hz;exact absurd rfl hz
    ·exact h
   rw [decide_eq_true om,decide_eq_true om]
 have key:∀ {Q:CR->Prop},(∀ τ,Ext τ3 τ->Q ⟨false,.tuple ⟨[.int .i64 (fitF sg (valD x)).1,.bool (fitF sg (valD x)).2]⟩,τ⟩)->Ev (go Tryz.prog HS (.fn 143) [.agg ⟨[.bool sg,.slice w3 x.length c3]⟩] τ3) Q ⟨⟩:=fun {Q} h=>by
  refine (fit_ok ⟨_,rfl,hx.mono hE3⟩ dx tx om).mono ?_
  rintro z ⟨τ,rfl,hτ⟩
  exact h τ hτ
 cases hne:(n1 != n2)
 all_goals
  rw [hne] at hsg
  simp only [Bool.false_and,Bool.true_and] at hsg
  subst hsg
  simp (maxSteps:=8000000) (disch:=first|exact dS|fail) only [↓bD,bU,reduceMul,reduceEqDiff,reduceAdd,Nat.reduceBEq,reduceIte,Option.isNone_none,splice_succ,bunAP,↓ld169,lv169,↓fa169_0,↓fa169_1,↓fi169_0,↓fi169_1,r7,r8,nb_bool,hne,hlx,bu169,bv169,ze169]
  refine key ?_
  intro τ4 hE4
  simp (maxSteps:=8000000) (disch:=first|exact dS|fail) only [↓bD,bU,reduceMul,reduceEqDiff,reduceAdd,Nat.reduceBEq,reduceIte,Option.isNone_none,splice_succ,bunAP,↓ld169,lv169,↓fa169_0,↓fa169_1,↓fi169_0,↓fi169_1,bu169,bv169,ze169]
  refine (fit_ok (Z:=τ4) ⟨_,rfl,hy.mono hE4⟩ dy ty om).mono ?_
  rintro z ⟨τ5,rfl,hE5⟩
  obtain ⟨hF5,n5',r10,r11,r12⟩:=xlow ((((hE1.trans hE2).trans hE3).trans hE4).trans hE5)
  rw [hne] at hLF
  unfold lowF at hLF
  rw [<- hgv,<- hxv,<- hyv] at hLF
  simp only [Bool.false_and,Bool.true_and] at hLF
  generalize fitF false (valD y)=fy at hLF ⊢
  generalize fitF _ (valD x)=fx at hLF ⊢
  obtain ⟨xn,xo⟩:=fx
  obtain ⟨yn,yo⟩:=fy
  dsimp only at hLF
  have hF6:∀ cs:List Value,Ext Z (τ5.upd (Z.n+2) cs):=fun cs=>hF5.upd om _
  cases xo
  ·obtain rfl:(0,1,false)=LF:=by rw [<- hLF];rfl
   simp (maxSteps:=8000000) (disch:=first|exact dS|fail) only [↓bD,bU,reduceMul,reduceEqDiff,reduceAdd,Nat.reduceBEq,reduceIte,Option.isNone_none,splice_succ,bunAP,↓ld169,lv169,↓fa169_0,↓fa169_1,↓fi169_0,↓fi169_1,bu169,bv169,ze169]
   refine of1_ok.mono ?_
   rintro z ⟨τ6,rfl,hE6⟩
   obtain ⟨hF7,n7',r13,r14,r15⟩:=xlow (((((hE1.trans hE2).trans hE3).trans hE4).trans hE5).trans hE6)
   simp (maxSteps:=8000000) (disch:=first|exact dS|fail) only [↓bD,bU,reduceMul,reduceEqDiff,reduceAdd,Nat.reduceBEq,reduceIte,Option.isNone_none,splice_succ,bunAP,↓ld169,lv169,↓fa169_0,↓fa169_1,↓fi169_0,↓fi169_1,bu169,bv169,ze169,r15,Tryz.results104]
   exact ⟨_,rfl,hF7.upd om _⟩
  ·cases yo
   ·obtain rfl:(0,1,false)=LF:=by rw [<- hLF];rfl
    simp (maxSteps:=8000000) (disch:=first|exact dS|fail) only [↓bD,bU,reduceMul,reduceEqDiff,reduceAdd,Nat.reduceBEq,reduceIte,Option.isNone_none,splice_succ,bunAP,↓ld169,lv169,↓fa169_0,↓fa169_1,↓fi169_0,↓fi169_1,bu169,bv169,ze169]
    refine of1_ok.mono ?_
    rintro z ⟨τ6,rfl,hE6⟩
    obtain ⟨hF7,n7',r13,r14,r15⟩:=xlow (((((hE1.trans hE2).trans hE3).trans hE4).trans hE5).trans hE6)
    simp (maxSteps:=8000000) (disch:=first|exact dS|fail) only [↓bD,bU,reduceMul,reduceEqDiff,reduceAdd,Nat.reduceBEq,reduceIte,Option.isNone_none,splice_succ,bunAP,↓ld169,lv169,↓fa169_0,↓fa169_1,↓fi169_0,↓fi169_1,bu169,bv169,ze169,r15,Tryz.results104]
    exact ⟨_,rfl,hF7.upd om _⟩
   ·obtain rfl:(xn,yn,true)=LF:=by rw [<- hLF];rfl
    simp (maxSteps:=8000000) (disch:=first|exact dS|fail) only [↓bD,bU,reduceMul,reduceEqDiff,reduceAdd,Nat.reduceBEq,reduceIte,Option.isNone_none,splice_succ,bunAP,↓ld169,lv169,↓fa169_0,↓fa169_1,↓fi169_0,↓fi169_1,bu169,bv169,ze169,r12,Tryz.results104]
    exact ⟨_,rfl,hF6 _⟩
end Go.Proofs.T
namespace Go.Proofs.T
open Go Go.Ab
open Nat (reduceMul reduceEqDiff reduceAdd)
set_option maxRecDepth 100000
def smallB (n:Int):Bool:=decide (-1000000000<n)&&decide (n<1000000000)
theorem small2_ok {Z:St}{n:Int}:Ev (go Tryz.prog HS (.fn 102) [.int .i64 n] Z) (fun r=>r=⟨false,.bool (smallB n),Z⟩) ⟨⟩:=by
 unfold smallB
 refine ev_go Tryz.func102 rfl rfl ?_
 cases c1:decide (-1000000000<n)
 ·refine gU1 (aI @splice_succ (aI @bunAP (aI @c1 (aI @yu_t (aI @yu_f (aI @Tryz.results102 @Bool.false_and)))))) ?_;try exact ⟨⟩
 ·refine gU1 (aI @splice_succ (aI @bunAP (aI @c1 (aI @yu_t (aI @yu_f (aI @Tryz.results102 @Bool.true_and)))))) ?_;try exact ⟨⟩
def rightQ (n d:Int):Bool:=decide (1<=d)&&decide (Int.gcd n d=1)
theorem quick_right {n d:Int}(h:1<=d):(decide (qn n d=n)&&decide (qd n d=d))=decide (Int.gcd n d=1):=by
 by_cases hg:Int.gcd n d=1
 ·obtain ⟨e1,e2⟩:=q_self h hg
  rw [e1,e2,decide_eq_true hg];simp
 ·rw [decide_eq_false hg,<- Bool.not_eq_true,Bool.and_eq_true,decide_eq_true_eq,decide_eq_true_eq]
  rintro ⟨e1,e2⟩
  have:=(q_low (n:=n) (d:=d) om).1
  rw [e1,e2] at this
  exact hg this
theorem low_right {n d:Int}(hn:In64 n) (hd:In64 d) (h:1<=d):((lowF (decide (n<0) != decide (d<0)) n.natAbs d.natAbs).2.2&&(decide (n=(lowF (decide (n<0) != decide (d<0)) n.natAbs d.natAbs).1)&&decide (d=(lowF (decide (n<0) != decide (d<0)) n.natAbs d.natAbs).2.1)))=decide (Int.gcd n d=1):=by
 obtain ⟨h1,h2⟩:=hn
 obtain ⟨h3,h4⟩:=hd
 have hd0:decide (d<0)=false:=decide_eq_false om
 have e0:(decide (n<0) != false)=decide (n<0):=by cases decide (n<0) <;> rfl
 rw [hd0,e0]
 have hgg:Int.gcd n d=Nat.gcd n.natAbs d.natAbs:=rfl
 obtain ⟨N,hN⟩:∃ N,n.natAbs=N:=⟨_,rfl⟩
 obtain ⟨D,hD⟩:∃ D,d.natAbs=D:=⟨_,rfl⟩
 rw [hgg,hN,hD]
 have hDd:d=(D:Int):=om
 have hF:∀ m,m<=9223372036854775807->fitF false m=((m:Int),true):=fun m hm=>by unfold fitF;rw [if_neg (by simp),if_neg om]
 have hDg:D / Nat.gcd N D<=D:=Nat.div_le_self _ _
 unfold lowF
 rw [hF (D / Nat.gcd N D) om,Bool.and_true]
 by_cases hg:Nat.gcd N D=1
 ·rw [hg,Nat.div_one,Nat.div_one,decide_eq_true (rfl:(1:Nat)=1)]
  have hx:fitF (decide (n<0)&&decide (0<N)) N=(n,true):=by
   unfold fitF
   by_cases hn:n<0
   ·rw [if_pos ⟨by rw [decide_eq_true hn,decide_eq_true om];rfl,om⟩]
    congr 1
    omega
   ·rw [if_neg (by rw [decide_eq_false hn];simp),if_neg om]
    congr 1
    omega
  rw [hx]
  simp [hDd]
 ·rw [decide_eq_false hg]
  have hlt:D / Nat.gcd N D≠D:=by
   have hg0:0<Nat.gcd N D:=Nat.gcd_pos_of_pos_right _ om
   have:=Nat.div_lt_self (show 0<D by omega) (show 1<Nat.gcd N D by omega)
   omega
  cases hb:(fitF (decide (n<0)&&decide (0<N / Nat.gcd N D)) (N / Nat.gcd N D)).2
  ·simp
  ·simp only [reduceIte,Bool.true_and]
   rw [decide_eq_false (p:=d=_) om,Bool.and_false]
set_option maxHeartbeats 8000000 in
theorem bright_ok {Z:St}{n d:Int}(hn:In64 n) (hd:In64 d):Ev (go Tryz.prog HS (.fn 170) [ratQ n d] Z) (fun r=>∃ Z',r=⟨false,.bool (rightQ n d),Z'⟩/\Ext Z Z') ⟨⟩:=by
 refine ev_go Tryz.func170 rfl rfl ?_
 unfold ratQ rightQ
 cases c1:decide (d<1) with
 | true =>
   rw [decide_eq_false (p:=1<=d) (by have:=of_decide_eq_true c1;omega),Bool.false_and]
   refine gU1 (aI @splice_succ (aI @bunAP (aI @c1 @Tryz.results170))) ?_
   exact ⟨_,rfl,eX⟩
 | false =>
   have hd1:1<=d:=by have:=of_decide_eq_false c1;omega
   rw [decide_eq_true hd1,Bool.true_and]
   refine gU1 (aI @splice_succ (aI @bunAP @c1)) ?_
   refine small2_ok.mono ?_
   rintro r rfl
   have hbig:∀ {fr:Fr} {τ:St},True:=fun {fr τ}=>trivial
   cases b1:smallB n
   ·refine gU1 (aI @splice_succ (aI @bunAP (aI @yu_t @yu_f))) ?_
    refine (of_ok hn).mono ?_
    rintro r ⟨v1,l1,Z2,rfl,hE2,⟨w1,rfl,hw1⟩,dl1,tl1,hv1,ll1⟩
    obtain ⟨x1,y1,hs1⟩:=hw1.shape
    subst hs1
    have n2:=hE2.n
    simp only [new_n] at n2
    have q2:Z2.row Z.n=some [.int .i64 n,.int .i64 d]:=by rw [hE2.row (cL)];exact cL
    refine gU1 (aI @splice_succ (aI @bunAP @q2)) ?_
    refine (of_ok hd).mono ?_
    rintro r ⟨v3,l3,Z3,rfl,hE3,⟨w3,rfl,hw3⟩,dl3,tl3,hv3,ll3⟩
    obtain ⟨x3,y3,hs3⟩:=hw3.shape
    subst hs3
    have n3:=hE3.n
    refine gU1 (aI @splice_succ @bunAP) ?_
    refine (blowest_ok ⟨_,rfl,hw1.mono hE3⟩ ⟨_,rfl,hw3⟩ dl1 dl3 tl1 tl3 om om om).mono ?_
    rintro r ⟨Z4,rfl,hE4⟩
    have n4:=hE4.n
    have q4:Z4.row Z.n=some [.int .i64 n,.int .i64 d]:=by rw [hE4.row om,hE3.row om];exact q2
    rw [hv1,hv3]
    have hE:Ext Z Z4:=((Ext.trans (eX) hE2).trans hE3).trans hE4
    rw [<- low_right hn hd hd1]
    generalize lowF (decide (n<0) != decide (d<0)) n.natAbs d.natAbs=LF
    obtain ⟨la,lb,lo⟩:=LF
    simp (maxSteps:=8000000) (disch:=first|exact dS|fail) only [↓bD,bU,reduceMul,reduceEqDiff,reduceAdd,Nat.reduceBEq,reduceIte,Option.isNone_none,splice_succ,bunAP,q4,b2_rat.1,asx hE2,asx hE3,asx hE4,as_newb]
    refine Must.intro (by (repeat first|simp (disch:=omega) only [as_read,as_upd,as_newb,asx hE2,asx hE3,asx hE4]|rw [as_ord (by kernel_rfl)]);first|done|rfl) ?_
    cases lo
    ·simp (maxSteps:=8000000) (disch:=first|exact dS|fail) only [↓bD,bU,reduceMul,reduceEqDiff,reduceAdd,Nat.reduceBEq,reduceIte,Option.isNone_none,splice_succ,bunAP,q4,b2_rat.1,Bool.false_and,Tryz.results170]
     exact ⟨_,rfl,eX⟩
    ·simp (maxSteps:=8000000) (disch:=first|exact dS|fail) only [↓bD,bU,reduceMul,reduceEqDiff,reduceAdd,Nat.reduceBEq,reduceIte,Option.isNone_none,splice_succ,bunAP,q4,b2_rat.1,Bool.true_and,Tryz.results170]
     exact ⟨_,rfl,eX⟩
   ·refine gU1 (aI @splice_succ (aI @bunAP (aI @yu_t @yu_f))) ?_
    refine small2_ok.mono ?_
    rintro r rfl
    cases b2:smallB d
    ·refine gU1 (aI @splice_succ (aI @bunAP (aI @yu_t @yu_f))) ?_
     refine (of_ok hn).mono ?_
     rintro r ⟨v1,l1,Z2,rfl,hE2,⟨w1,rfl,hw1⟩,dl1,tl1,hv1,ll1⟩
     obtain ⟨x1,y1,hs1⟩:=hw1.shape
     subst hs1
     have n2:=hE2.n
     simp only [new_n] at n2
     have q2:Z2.row Z.n=some [.int .i64 n,.int .i64 d]:=by rw [hE2.row (cL)];exact cL
     refine gU1 (aI @splice_succ (aI @bunAP @q2)) ?_
     refine (of_ok hd).mono ?_
     rintro r ⟨v3,l3,Z3,rfl,hE3,⟨w3,rfl,hw3⟩,dl3,tl3,hv3,ll3⟩
     obtain ⟨x3,y3,hs3⟩:=hw3.shape
     subst hs3
     have n3:=hE3.n
     refine gU1 (aI @splice_succ @bunAP) ?_
     refine (blowest_ok ⟨_,rfl,hw1.mono hE3⟩ ⟨_,rfl,hw3⟩ dl1 dl3 tl1 tl3 om om om).mono ?_
     rintro r ⟨Z4,rfl,hE4⟩
     have n4:=hE4.n
     have q4:Z4.row Z.n=some [.int .i64 n,.int .i64 d]:=by rw [hE4.row om,hE3.row om];exact q2
     rw [hv1,hv3]
     have hE:Ext Z Z4:=((Ext.trans (eX) hE2).trans hE3).trans hE4
     rw [<- low_right hn hd hd1]
     generalize lowF (decide (n<0) != decide (d<0)) n.natAbs d.natAbs=LF
     obtain ⟨la,lb,lo⟩:=LF
     simp (maxSteps:=8000000) (disch:=first|exact dS|fail) only [↓bD,bU,reduceMul,reduceEqDiff,reduceAdd,Nat.reduceBEq,reduceIte,Option.isNone_none,splice_succ,bunAP,q4,b2_rat.1,asx hE2,asx hE3,asx hE4,as_newb]
     refine Must.intro (by (repeat first|simp (disch:=omega) only [as_read,as_upd,as_newb,asx hE2,asx hE3,asx hE4]|rw [as_ord (by kernel_rfl)]);first|done|rfl) ?_
     cases lo
     ·simp (maxSteps:=8000000) (disch:=first|exact dS|fail) only [↓bD,bU,reduceMul,reduceEqDiff,reduceAdd,Nat.reduceBEq,reduceIte,Option.isNone_none,splice_succ,bunAP,q4,b2_rat.1,Bool.false_and,Tryz.results170]
      exact ⟨_,rfl,eX⟩
     ·simp (maxSteps:=8000000) (disch:=first|exact dS|fail) only [↓bD,bU,reduceMul,reduceEqDiff,reduceAdd,Nat.reduceBEq,reduceIte,Option.isNone_none,splice_succ,bunAP,q4,b2_rat.1,Bool.true_and,Tryz.results170]
      exact ⟨_,rfl,eX⟩
    ·unfold smallB at b1 b2
     simp only [Bool.and_eq_true,decide_eq_true_eq] at b1 b2
     refine gU1 (aI @splice_succ (aI @bunAP (aI @yu_t @yu_f))) ?_
     refine (quick_ok (n:=n) (d:=d) ⟨om,om⟩ ⟨om,om⟩ om).mono ?_
     rintro r ⟨Z2,rfl,hE2⟩
     have n2:=hE2.n
     simp only [new_n] at n2
     have q2:Z2.row Z.n=some [.int .i64 n,.int .i64 d]:=by rw [hE2.row (cL)];exact cL
     have hE:Ext Z Z2:=Ext.trans (eX) hE2
     rw [<- quick_right hd1]
     simp (maxSteps:=8000000) (disch:=first|exact dS|fail) only [↓bD,bU,reduceMul,reduceEqDiff,reduceAdd,Nat.reduceBEq,reduceIte,Option.isNone_none,splice_succ,bunAP,q2,b2_rat.1,asx hE2,as_newb,Tryz.results170]
     exact ⟨_,rfl,eX⟩
theorem right_ok {Z:St}{n d:Int}(h:RQ n d):Ev (go Tryz.prog HS (.fn 170) [ratQ n d] Z) (fun r=>∃ Z',r=⟨false,.bool true,Z'⟩/\Ext Z Z') ⟨⟩:=by
 have e:rightQ n d=true:=by
  unfold rightQ
  rw [decide_eq_true h.d1,decide_eq_true h.low];rfl
 have:=h.n1
 have:=h.n2
 have:=h.d1
 have:=h.d2
 refine (bright_ok (n:=n) (d:=d) ⟨om,om⟩ ⟨om,om⟩).mono ?_
 rintro r ⟨Z',rfl,hE⟩
 rw [e]
 exact ⟨_,rfl,hE⟩
end Go.Proofs.T
