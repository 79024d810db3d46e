/- Loops that end by a draw; pieces of a function's code. -/
import Derived.Test.YtbcanmagihejhaaGreatDoorAbD
import Derived.Test.YtbcanmagihejhaaGreatDoorTC
import Derived.Test.YtbcanmagihejhaaGreatDoorRA
set_option linter.unusedSimpArgs false
set_option linter.unusedVariables false
namespace Go.Proofs.T
open Go Go.Ab
def UP (J:Nat->Fr->St->Prop) (R:Res->Prop) (n k:Nat) (r:Res):Prop:=match r.o with
 | .normal=>k+1<=n/\J (k+1) r.fr r.Z
 | _=>R r
section
variable {P:Program} {H:Sums} {rd:Option Nat} {fr:Fr} {Z:St}
theorem ev_upto {body:Code}{Q:Res->Prop}{u:Hd Q}(n:Nat) (J:Nat->Fr->St->Prop) (R:Res->Prop) (h0:J 0 fr Z)
  (hs:∀ k fr Z,k<=n->J k fr Z->Ev (lim P H rd body fr Z) (UP J R n k) ⟨⟩) (hR:∀ r,R r->Q r) :
  Ev (lim P H rd (.loop body) fr Z) Q u:=by
 refine ev_loop (fun j fr Z=>∃ k,j+k=n/\J k fr Z) R n ⟨0,om,h0⟩ ?_ hR
 rintro j fr Z ⟨k,hk,hJ⟩
 refine (hs k fr Z om hJ).mono ?_
 rintro ⟨o,fr',Z'⟩ hq
 cases o with
 | normal=>exact ⟨n-(k+1),by have:=hq.1;omega,k+1,by have:=hq.1;omega,hq.2⟩
 | exit i=>exact hq
 | ret=>exact hq
 | pan v=>exact hq
end
def cdAt:List Nat->Code->Code
 | [],c=>c
 | 0::l,.seq a _=>cdAt l a
 | 1::l,.seq _ b=>cdAt l b
 | 2::l,.block _ b=>cdAt l b
 | 3::l,.loop b=>cdAt l b
 | _::_,c=>c
theorem cd_nil {c:Code}:cdAt [] c=c:=rfl
theorem cd_0 {l:List Nat}{a b:Code}:cdAt (0::l) (.seq a b)=cdAt l a:=rfl
theorem cd_1 {l:List Nat}{a b:Code}:cdAt (1::l) (.seq a b)=cdAt l b:=rfl
theorem cd_2 {l:List Nat}{i:Nat}{a:Code}:cdAt (2::l) (.block i a)=cdAt l a:=rfl
theorem cd_3 {l:List Nat}{a:Code}:cdAt (3::l) (.loop a)=cdAt l a:=rfl
theorem gd_some {c d:Code}:(some c).getD d=c:=rfl
end Go.Proofs.T
namespace Go.Proofs.T
open Go Go.Ab
def valD:List Nat->Nat
 | []=>0
 | d::l=>d+65536*valD l
def Dig (l:List Nat):Prop:=∀ d∈l,d<65536
def Trm (l:List Nat):Prop:=∀ d,l.getLast? =some d->d≠0
theorem valD_nil:valD []=0:=rfl
theorem valD_cons {d:Nat}{l:List Nat}:valD (d::l)=d+65536*valD l:=rfl
theorem valD_app:∀ {a b:List Nat},valD (a++b)=valD a+65536 ^ a.length*valD b
 | [],b=>by simp [valD]
 | d::a,b=>by
   rw [List.cons_append,valD_cons,valD_cons,valD_app,List.length_cons,Nat.pow_succ,Nat.mul_add]
   rw [<- Nat.mul_assoc,Nat.mul_comm 65536 (65536 ^ a.length)]
   omega
theorem valD_snoc {a:List Nat}{d:Nat}:valD (a++[d])=valD a+65536 ^ a.length*d:=by
 rw [valD_app,valD_cons,valD_nil,Nat.mul_zero,Nat.add_zero]
theorem take_snoc {α:Type}{l:List α}{k:Nat}{d:α}(h:l[k]? =some d):l.take (k+1)=l.take k++[d]:=by
 rw [List.take_add_one,h];rfl
theorem take_len {α:Type}{l:List α}{k:Nat}(h:k<=l.length):(l.take k).length=k:=by rw [List.length_take];omega
theorem valD_take {l:List Nat}{k d:Nat}(h:l[k]? =some d):valD (l.take (k+1))=valD (l.take k)+65536 ^ k*d:=by
 have hk:=(List.getElem?_eq_some_iff.1 h).1
 rw [take_snoc h,valD_snoc,take_len om]
theorem Dig.nil:Dig []:=fun d h=>by cases h
theorem Dig.snoc {l:List Nat}{d:Nat}(h:Dig l) (hd:d<65536):Dig (l++[d]):=fun x hx=>by
 rcases List.mem_append.1 hx with hx|hx
 ·exact h x hx
 ·rw [List.mem_singleton] at hx;rw [hx];exact hd
theorem Dig.cons {l:List Nat}{d:Nat}(h:Dig l) (hd:d<65536):Dig (d::l):=fun x hx=>by
 rcases List.mem_cons.1 hx with rfl|hx
 ·exact hd
 ·exact h x hx
theorem Dig.take {l:List Nat}(h:Dig l) (k:Nat):Dig (l.take k):=fun x hx=>h x (List.mem_of_mem_take hx)
theorem Dig.get {l:List Nat}(h:Dig l){k d:Nat}(hk:l[k]? =some d):d<65536:=h d (List.mem_of_getElem? hk)
theorem valD_lt:∀ {l:List Nat},Dig l->valD l<65536 ^ l.length
 | [],_=>by simp [valD]
 | d::l,h=>by
   have h1:=h d (List.mem_cons_self ..)
   have h2:=valD_lt (l:=l) fun x hx=>h x (List.mem_cons_of_mem _ hx)
   rw [valD_cons,List.length_cons,Nat.pow_succ]
   have:valD l+1<=65536 ^ l.length:=h2
   have:=Nat.mul_le_mul_left 65536 this
   omega
theorem Trm.nil:Trm []:=fun d h=>by simp at h
theorem Trm.le {l:List Nat}(h:Trm l) (h0:l≠[]):65536 ^ (l.length-1)<=valD l:=by
 have e:=List.dropLast_concat_getLast h0
 have hl:l.getLast h0≠0:=h _ (List.getLast?_eq_some_getLast h0)
 rw [<- e,valD_snoc,List.length_append,List.length_dropLast]
 have:65536 ^ (l.length-1)*1<=65536 ^ (l.length-1)*l.getLast h0:=Nat.mul_le_mul_left _ om
 simp only [List.length_cons,List.length_nil]
 rw [show l.length-1+(0+1)-1=l.length-1 by omega]
 omega
theorem Trm.zero {l:List Nat}(h:Trm l) (h0:valD l=0):l=[]:=by
 by_cases hn:l=[]
 ·exact hn
 ·have:=h.le hn
  have:0<65536 ^ (l.length-1):=Nat.pow_pos om
  omega
theorem Trm.len {a b:List Nat}(ha:Dig a) (hb:Trm b) (h:a.length<b.length):valD a<valD b:=by
 have h1:=valD_lt ha
 have h2:=hb.le (fun e=>by rw [e] at h;simp at h)
 have:65536 ^ a.length<=65536 ^ (b.length-1):=Nat.pow_le_pow_right om om
 omega
theorem valD_drop {l:List Nat}{k:Nat}(hk:k<=l.length):valD l=valD (l.take k)+65536 ^ k*valD (l.drop k):=by
 have h:=valD_app (a:=l.take k) (b:=l.drop k)
 rw [List.take_append_drop,take_len hk] at h
 exact h
theorem cmp_digit {a b:List Nat}(ha:Dig a) (hl:a.length=b.length){k x y:Nat}(hx:a[k]? =some x) (hy:b[k]? =some y) (hd:a.drop (k+1)=b.drop (k+1)) (hxy:x<y):valD a<valD b:=by
 have k1:=(List.getElem?_eq_some_iff.1 hx).1
 have k2:=(List.getElem?_eq_some_iff.1 hy).1
 rw [valD_drop (l:=a) (k:=k+1) om,valD_drop (l:=b) (k:=k+1) om,hd,valD_take hx,valD_take hy]
 have h1:=valD_lt (ha.take k)
 rw [take_len om] at h1
 have h2:65536 ^ k*(x+1)<=65536 ^ k*y:=Nat.mul_le_mul_left _ hxy
 rw [Nat.mul_add,Nat.mul_one] at h2
 omega
theorem valD_inj {a b:List Nat}(ha:Dig a) (hb:Dig b) (ta:Trm a) (tb:Trm b) (h:valD a=valD b):a=b:=by
 have hl:a.length=b.length:=by
  rcases Nat.lt_trichotomy a.length b.length with h1|h1|h1
  ·have:=Trm.len ha tb h1;omega
  ·exact h1
  ·have:=Trm.len hb ta h1;omega
 clear ta tb
 induction a generalizing b with
 | nil=>cases b with
   | nil=>rfl
   | cons y b=>simp at hl
 | cons x a ih =>
   cases b with
   | nil=>simp at hl
   | cons y b =>
     have h1:=ha x (List.mem_cons_self ..)
     have h2:=hb y (List.mem_cons_self ..)
     rw [valD_cons,valD_cons] at h
     have e1:x=y:=om
     have e2:valD a=valD b:=om
     rw [e1,ih (fun d hd=>ha d (List.mem_cons_of_mem _ hd)) (fun d hd=>hb d (List.mem_cons_of_mem _ hd)) e2 (by simpa using hl)]
end Go.Proofs.T
namespace Go.Proofs.T
open Go Go.Ab
open Nat (reduceMul reduceEqDiff reduceAdd)
set_option maxRecDepth 100000
def dgv (d:Nat):Value:= .int .i64 ((d:Nat):Int)
def DN (Z:St) (v:Value) (l:List Nat):Prop:=(v= .slice none 0 0/\l=[])\/∃ b off sp c cells,v= .slice (some ⟨b,off,sp⟩) l.length c/\l.length<=c/\(sp=none\/sp=some 1)/\b<Z.n/\Z.row b=some cells/\sub cells off l.length=some (l.map dgv)
theorem DN.mono {Z Z':St}{v:Value}{l:List Nat}(h:DN Z v l) (hE:Ext Z Z'):DN Z' v l:=by
 rcases h with h|⟨b,off,sp,c,cells,h1,h2,h3,h4,h5,h6⟩
 ·exact .inl h
 ·exact .inr ⟨b,off,sp,c,cells,h1,h2,h3,Nat.lt_of_lt_of_le h4 hE.n,by rw [hE.row h4];exact h5,h6⟩
theorem DN.shape {Z:St}{v:Value}{l:List Nat}(h:DN Z v l):∃ a c,v= .slice a l.length c:=by
 rcases h with ⟨rfl,rfl⟩|⟨b,off,sp,c,cells,h1,-⟩
 ·exact ⟨_,_,rfl⟩
 ·exact ⟨_,_,h1⟩
theorem sub_map {cells:List Value}{off n:Nat}{l:List Nat}(h:sub cells off n=some (l.map dgv)){k d:Nat}(hk:l[k]? =some d):sub cells (off+k) 1=some [dgv d]:=by
 obtain ⟨h1,h2⟩:=sub_eq h
 obtain ⟨hl,hd⟩:=List.getElem?_eq_some_iff.1 hk
 have e:=congrArg List.length h2
 rw [List.length_map,List.length_take,List.length_drop] at e
 rw [sub_of om]
 congr 1
 have h3:=congrArg (fun z=>z[k]?) h2
 rw [List.getElem?_map,hk,List.getElem?_take,if_pos om,List.getElem?_drop] at h3
 rw [List.drop_eq_getElem_cons (show off+k<cells.length by omega)]
 rw [List.getElem?_eq_getElem (show off+k<cells.length by omega)] at h3
 simp only [Option.map_some,Option.some.injEq] at h3
 rw [<- h3];rfl
theorem sub_pre {cells:List Value}{off n:Nat}{l:List Nat}(h:sub cells off n=some (l.map dgv)){k:Nat}(hk:k<=l.length):sub cells off k=some ((l.take k).map dgv):=by
 obtain ⟨h1,h2⟩:=sub_eq h
 have e:=congrArg List.length h2
 rw [List.length_map,List.length_take,List.length_drop] at e
 rw [sub_of om,List.map_take,h2,List.take_take,Nat.min_eq_left om]
set_option maxHeartbeats 4000000 in
theorem trim_ok {Z:St}{v:Value}{l:List Nat}(h:DN Z v l) (hl:l.length<=1000) :
  Ev (go Tryz.prog HS (.fn 142) [v] Z) (fun r=>∃ v' l',r=⟨false,v',Z⟩/\DN Z v' l'/\(∃ k,l'=l.take k)/\Trm l'/\valD l'=valD l/\blkOf v'=blkOf v) ⟨⟩:=by
 obtain ⟨a,c,rfl⟩:=h.shape
 refine ev_go Tryz.func142 rfl rfl ?_
 refine gU1 (aI @splice_succ @bunAP) ?_
 refine ev_upto l.length (fun j fr τ=>τ=Z/\∃ v',fr.get 0=some v'/\DN Z v' (l.take (l.length-j))/\valD (l.take (l.length-j))=valD l/\blkOf v'=blkOf (.slice a l.length c))
  (fun r=>∃ fr v' l',r=⟨.exit 0,fr,Z⟩/\fr.get 0=some v'/\DN Z v' l'/\(∃ k,l'=l.take k)/\Trm l'/\valD l'=valD l/\blkOf v'=blkOf (.slice a l.length c)) ?_ ?_ ?_
 ·exact ⟨rfl,_,fR,by rw [Nat.sub_zero,List.take_length];exact h,by rw [Nat.sub_zero,List.take_length],rfl⟩
 ·rintro j fr τ hj ⟨rfl,v',g0,hd,hv,hbk⟩
  obtain ⟨m,hm⟩:∃ m,l.length-j=m:=⟨_,rfl⟩
  rw [hm] at hd hv
  have hlen:(l.take m).length=m:=take_len om
  rcases hd with ⟨rfl,hnil⟩|⟨b,off,sp,cc,cells,rfl,hc,hsp,hb,hr,hs⟩
  ·have d0:decide ((0:Int)<((0:Nat):Int))=false:=rfl
   refine gU1 (aI @splice_succ (aI @bunAP (aI @g0 (aI @d0 (aI @yu_t @yu_f))))) ?_
   rw [hnil] at hv
   exact ⟨_,_,_,rfl,fR1 g0,.inl ⟨rfl,rfl⟩,⟨0,rfl⟩,Trm.nil,hv,by exact hbk⟩
  ·rw [hlen] at hc hs
   rw [hlen] at g0
   cases m with
   | zero =>
     have d0:decide ((0:Int)<((0:Nat):Int))=false:=rfl
     refine gU1 (aI @splice_succ (aI @bunAP (aI @g0 (aI @d0 (aI @yu_t @yu_f))))) ?_
     exact ⟨_,_,[],rfl,fR1 g0,.inr ⟨b,off,sp,cc,cells,rfl,Nat.zero_le _,hsp,hb,hr,by rw [List.take_zero] at hs;exact hs⟩,⟨0,by rw [List.take_zero]⟩,Trm.nil,by rw [<- hv,List.take_zero],by exact hbk⟩
   | succ m =>
     obtain ⟨d,hd⟩:=at_some (l:=l) (k:=m) om
     have hd':(l.take (m+1))[m]? =some d:=by rw [List.getElem?_take,if_pos om];exact hd
     have e1:=sub_map hs hd'
     unfold dgv at e1
     have c0:decide ((0:Int)<((m+1:Nat):Int))=true:=decide_eq_true om
     have em:((m+1:Nat):Int)-1=(m:Nat):=om
     have hlt:Nat.blt m (m+1)=true:=by rw [Nat.blt_eq];omega
     have hsa:sliceAt 1 (some ⟨b,off,sp⟩) 0 m cc=some (.slice (some ⟨b,off,sp⟩) m cc):=by
      rcases hsp with rfl|rfl
      ·rfl
      ·rw [sa_some];rfl
     cases dz:decide (((d:Nat):Int)=0) with
     | true =>
       have hz:d=0:=by have:=of_decide_eq_true dz;omega
       refine gU1 (aI @splice_succ (aI @bunAP (aI @g0 (aI @c0 (aI @em (aI @hr (aI @e1 (aI @dz (aI @hlt (aI @hsa (aI @yu_t @yu_f))))))))))) ?_
       have e9:l.length-(j+1)=m:=om
       have hvm:valD (l.take m)=valD l:=by rw [<- hv,valD_take hd,hz,Nat.mul_zero,Nat.add_zero]
       refine ⟨om,rfl,_,fR,.inr ⟨b,off,sp,cc,cells,by rw [e9,take_len om],by rw [e9,take_len om];omega,hsp,hb,hr,?_⟩,by rw [e9];exact hvm,by exact hbk⟩
       rw [e9,take_len om]
       have:=sub_pre hs (k:=m) (by rw [take_len om];omega)
       rw [List.take_take,Nat.min_eq_left om] at this
       exact this
     | false =>
       have hz:d≠0:=by have:=of_decide_eq_false dz;omega
       refine gU1 (aI @splice_succ (aI @bunAP (aI @g0 (aI @c0 (aI @em (aI @hr (aI @e1 (aI @dz (aI @hlt (aI @yu_t @yu_f)))))))))) ?_
       refine ⟨_,_,l.take (m+1),rfl,fR1 g0,.inr ⟨b,off,sp,cc,cells,by rw [take_len om],by rw [take_len om];omega,hsp,hb,hr,by rw [take_len om];exact hs⟩,⟨_,rfl⟩,fun x hx=>?_,hv,by exact hbk⟩
       rw [take_snoc hd,List.getLast?_concat] at hx
       cases hx;exact hz
 ·rintro r ⟨fr,v',l',rfl,g0,hd,hk,ht,hv,hbk⟩
  obtain ⟨a',c',rfl⟩:=hd.shape
  refine gU1 (aI @splice_succ (aI @bunAP (aI @g0 @Tryz.results142))) ?_
  exact ⟨_,l',rfl,hd,hk,ht,hv,hbk⟩
end Go.Proofs.T
namespace Go.Proofs.T
open Go Go.Ab
open Nat (reduceMul reduceEqDiff reduceAdd)
set_option maxRecDepth 100000
def cmpN (x y:Nat):Int:=if x<y then -1 else if x=y then 0 else 1
theorem cmpN_lt {x y:Nat}(h:x<y):cmpN x y= -1:=if_pos h
theorem cmpN_eq {x:Nat}:cmpN x x=0:=by unfold cmpN;rw [if_neg om,if_pos rfl]
theorem cmpN_gt {x y:Nat}(h:y<x):cmpN x y=1:=by unfold cmpN;rw [if_neg om,if_neg om]
theorem DN.use {Z:St}{v:Value}{l:List Nat}(h:DN Z v l):∃ a c b off cells,v= .slice a l.length c/\(0<l.length->∃ sp,a=some ⟨b,off,sp⟩/\b<Z.n/\Z.row b=some cells)/\∀ k d,l[k]? =some d->sub cells (off+k) 1=some [.int .i64 ((d:Nat):Int)]:=by
 rcases h with ⟨rfl,rfl⟩|⟨b,off,sp,c,cells,h1,h2,h3,h4,h5,h6⟩
 ·exact ⟨none,0,0,0,[],rfl,fun h=>by simp at h,fun k d h=>by simp at h⟩
 ·exact ⟨_,c,b,off,cells,h1,fun _=>⟨sp,rfl,h4,h5⟩,fun k d hk=>sub_map h6 hk⟩
set_option maxHeartbeats 4000000 in
theorem compare_ok {Z:St}{v w:Value}{a b:List Nat}(ha:DN Z v a) (hb:DN Z w b) (da:Dig a) (db:Dig b) (ta:Trm a) (tb:Trm b) (la:a.length<=1000) (lb:b.length<=1000) :
  Ev (go Tryz.prog HS (.fn 180) [v,w] Z) (fun r=>r=⟨false,.int .i64 (cmpN (valD a) (valD b)),Z⟩) ⟨⟩:=by
 obtain ⟨aa,ac,ab,ao,acs,rfl,a1,a2⟩:=ha.use
 obtain ⟨ba,bc,bb,bo,bcs,rfl,b1,b2⟩:=hb.use
 refine ev_go Tryz.func180 rfl rfl ?_
 by_cases hl:a.length=b.length
 ·have d1:decide ((a.length:Int)=(b.length:Int))=true:=by simp [hl]
  refine gU1 (aI @splice_succ (aI @bunAP @d1)) ?_
  refine ev_upto a.length (fun k fr τ=>τ=Z/\fr.get 5=some (.int .i64 ((a.length:Int)-1-(k:Nat)))/\fr.get 0=some (.slice aa a.length ac)/\fr.get 1=some (.slice ba b.length bc)/\a.drop (a.length-k)=b.drop (a.length-k))
   (fun r=>(∃ fr,r=⟨.exit 0,fr,Z⟩/\a=b)\/∃ fr,r=⟨.ret,fr,Z⟩/\fr.get 4=some (.int .i64 (cmpN (valD a) (valD b)))) ?_ ?_ ?_
  ·exact ⟨rfl,by rw [show ((a.length:Int)-1-((0:Nat):Int))=(a.length:Int)-1 by omega];exact (fR),fR,fR,by rw [Nat.sub_zero,List.drop_length,hl,List.drop_length]⟩
  ·rintro k fr τ hk ⟨rfl,g5,g0,g1,hd⟩
   by_cases hk2:k=a.length
   ·subst hk2
    have e1:((a.length:Int)-1-(a.length:Nat))= -1:=om
    rw [e1] at g5
    have d2:decide ((-1:Int)<0)=true:=rfl
    refine gU1 (aI @splice_succ (aI @bunAP (aI @g5 (aI @d2 @Bool.not_true)))) ?_
    rw [Nat.sub_self,List.drop_zero,List.drop_zero] at hd
    exact .inl ⟨_,rfl,hd⟩
   ·obtain ⟨m,hm⟩:∃ m,a.length-1-k=m:=⟨_,rfl⟩
    have e1:((a.length:Int)-1-(k:Nat))=((m:Nat):Int):=om
    rw [e1] at g5
    obtain ⟨x,hx⟩:=at_some (l:=a) (k:=m) om
    obtain ⟨y,hy⟩:=at_some (l:=b) (k:=m) om
    obtain ⟨sp,rfl,h3,h4⟩:=a1 om
    obtain ⟨sp',rfl,h3',h4'⟩:=b1 om
    have s1:=a2 m x hx
    have s2:=b2 m y hy
    have c1:decide (((m:Nat):Int)<0)=false:=decide_eq_false om
    have l1:Nat.blt m a.length=true:=by rw [Nat.blt_eq];omega
    have l2:Nat.blt m b.length=true:=by rw [Nat.blt_eq];omega
    have hd1:a.drop (m+1)=b.drop (m+1):=by rw [show m+1=a.length-k by omega];exact hd
    have e2:((m:Nat):Int)-1=(a.length:Int)-1-((k+1:Nat):Int):=om
    cases dz:decide (((x:Nat):Int)=((y:Nat):Int)) with
    | true =>
      have hxy:x=y:=by have:=of_decide_eq_true dz;omega
      refine gU1 (aI @splice_succ (aI @bunAP (aI @g5 (aI @g0 (aI @g1 (aI @c1 (aI @l1 (aI @l2 (aI @h4 (aI @h4' (aI @s1 (aI @s2 @dz)))))))))))) ?_
      refine ⟨om,rfl,by rw [<- e2];exact (fR),fR1 g0,fR1 g1,?_⟩
      rw [show a.length-(k+1)=m by omega,List.drop_eq_getElem_cons (show m<a.length by omega),List.drop_eq_getElem_cons (show m<b.length by omega),hd1]
      have:=(List.getElem?_eq_some_iff.1 hx).2
      have:=(List.getElem?_eq_some_iff.1 hy).2
      congr 1
      omega
    | false =>
      have hxy:x≠y:=by have:=of_decide_eq_false dz;omega
      rcases Nat.lt_or_gt_of_ne hxy with h1|h1
      ·have dl:decide (((x:Nat):Int)<((y:Nat):Int))=true:=decide_eq_true om
       refine gU1 (aI @splice_succ (aI @bunAP (aI @g5 (aI @g0 (aI @g1 (aI @c1 (aI @l1 (aI @l2 (aI @h4 (aI @h4' (aI @s1 (aI @s2 (aI @dz @dl))))))))))))) ?_
       exact .inr ⟨_,rfl,by rw [cmpN_lt (cmp_digit da hl hx hy hd1 h1)];exact (fR)⟩
      ·have dl:decide (((x:Nat):Int)<((y:Nat):Int))=false:=decide_eq_false om
       refine gU1 (aI @splice_succ (aI @bunAP (aI @g5 (aI @g0 (aI @g1 (aI @c1 (aI @l1 (aI @l2 (aI @h4 (aI @h4' (aI @s1 (aI @s2 (aI @dz @dl))))))))))))) ?_
       exact .inr ⟨_,rfl,by rw [cmpN_gt (cmp_digit db hl.symm hy hx hd1.symm h1)];exact (fR)⟩
  ·rintro r (⟨fr,rfl,e⟩|⟨fr,rfl,g4⟩)
   ·refine gU1 (aI @splice_succ (aI @bunAP @Tryz.results180)) ?_
    rw [e,cmpN_eq]
   ·refine gU1 (aI @splice_succ (aI @bunAP (aI @g4 @Tryz.results180))) ?_;try exact ⟨⟩
 ·have d1:decide ((a.length:Int)=(b.length:Int))=false:=by simp;omega
  rcases Nat.lt_or_gt_of_ne hl with h1|h1
  ·have d2:decide ((a.length:Int)<(b.length:Int))=true:=decide_eq_true om
   rw [cmpN_lt (Trm.len da tb h1)]
   refine gU1 (aI @splice_succ (aI @bunAP (aI @d1 (aI @d2 @Tryz.results180)))) ?_;try exact ⟨⟩
  ·have d2:decide ((a.length:Int)<(b.length:Int))=false:=decide_eq_false om
   rw [cmpN_gt (Trm.len db ta h1)]
   refine gU1 (aI @splice_succ (aI @bunAP (aI @d1 (aI @d2 @Tryz.results180)))) ?_;try exact ⟨⟩
end Go.Proofs.T
namespace Go.Proofs.T
open Go Go.Ab
open Nat (reduceMul reduceEqDiff reduceAdd)
set_option maxRecDepth 100000
theorem DN.of_ol {lo:Nat}{Z:St}{v:Value}{l:List Nat}(h:OL lo Z 1 v (l.map fun d=>[dgv d])):DN Z v l:=by
 have hfl:(l.map fun d=>[dgv d]).flatten=l.map dgv:=by
  clear h
  induction l with
  | nil=>rfl
  | cons d l ih=>rw [List.map_cons,List.flatten_cons,ih];rfl
 obtain ⟨hr,⟨rfl,h0⟩|⟨b,sp,rfl,hs,h1,h2,h3⟩⟩:=h
 ·exact .inl ⟨rfl,List.map_eq_nil_iff.1 h0⟩
 ·rw [List.length_map]
  refine .inr ⟨b,0,sp,l.length,_,rfl,Nat.le_refl _,hs,h2,row_of h3,?_⟩
  rw [hfl]
  exact sub_full (by simp) (by simp)
theorem minus_step {x y be:Nat}(hx:x<65536) (hy:y<65536) (hb:be<=1):∃ d be',d<65536/\be'<=1/\d+be+y=x+65536*be'/\((be'=1/\decide (((x:Nat):Int)-(be:Nat)-(y:Nat)<0)=true/\((x:Nat):Int)-(be:Nat)-(y:Nat)+65536=(d:Nat))\/(be'=0/\decide (((x:Nat):Int)-(be:Nat)-(y:Nat)<0)=false/\((x:Nat):Int)-(be:Nat)-(y:Nat)=(d:Nat))):=by
 by_cases h:x<be+y
 ·exact ⟨x+65536-be-y,1,om,om,om,.inl ⟨rfl,decide_eq_true om,om⟩⟩
 ·exact ⟨x-be-y,0,om,om,om,.inr ⟨rfl,decide_eq_false om,om⟩⟩
theorem minus_val {O A B P d be be' x y:Nat}(h:O+B=A+be*P) (hd:d+be+y=x+65536*be'):O+P*d+(B+P*y)=A+P*x+be'*(P*65536):=by
 have e:=congrArg (P*·) hd
 simp only [Nat.mul_add] at e
 rw [Nat.mul_comm be P] at h
 rw [Nat.mul_comm be' (P*65536),Nat.mul_assoc]
 omega
set_option maxHeartbeats 8000000 in
theorem minus_ok {Z:St}{v w:Value}{a b:List Nat}(ha:DN Z v a) (hb:DN Z w b) (da:Dig a) (db:Dig b) (la:a.length<=100) (lb:b.length<=100) (hle:valD b<=valD a) (hbl:b.length<=a.length) :
  Ev (go Tryz.prog HS (.fn 182) [v,w] Z) (fun r=>∃ v' l Z',r=⟨false,v',Z'⟩/\Ext Z Z'/\DN Z' v' l/\Dig l/\Trm l/\valD l=valD a-valD b/\l.length<=a.length/\∀ k,blkOf v'=some k->Z.n<=k) ⟨⟩:=by
 obtain ⟨aa,ac,ab,ao,acs,rfl,a1,a2⟩:=ha.use
 obtain ⟨ba,bc,bb,bo,bcs,rfl,b1,b2⟩:=hb.use
 refine ev_go Tryz.func182 rfl rfl ?_
 refine gU1 (aI @splice_succ (aI @ap28 (aI @ap29 (aI @ap30 (aI @ap33 (aI @ap36 (aI @ap37 (aI @ap43 (aI @ap97 @ap202))))))))) ?_
 refine ev_count a.length (fun i fr τ=>fr.get 7=some (.int .i64 i)/\fr.get 0=some (.slice aa a.length ac)/\fr.get 1=some (.slice ba b.length bc)/\Ext Z τ/\∃ be v o,fr.get 6=some (.int .i64 ((be:Nat):Int))/\fr.get 5=some v/\OL Z.n τ 1 v (o.map fun d=>[dgv d])/\be<=1/\o.length=i/\Dig o/\valD o+valD (b.take i)=valD (a.take i)+be*65536 ^ i)
  (fun r=>∃ fr τ v o,r=⟨.exit 0,fr,τ⟩/\Ext Z τ/\fr.get 5=some v/\OL Z.n τ 1 v (o.map fun d=>[dgv d])/\o.length=a.length/\Dig o/\valD o=valD a-valD b) ?_ ?_ ?_ ?_
 ·exact ⟨fR,fR,fR,.refl _,0,_,[],fR,fR,OL.nil,om,rfl,Dig.nil,by simp [valD]⟩
 ·rintro i fr τ hi ⟨g7,g0,g1,hE,be,v,o,g6,g5,ho,hbe,hol,hod,hv⟩
  have hc:=lt_true hi
  have hn:=hE.n
  obtain ⟨x,hx⟩:=at_some hi
  have hx6:=da.get hx
  obtain ⟨sp,rfl,h3,h4⟩:=a1 om
  have s1:=a2 i x hx
  have r1:τ.row ab=some acs:=by rw [hE.row h3];exact h4
  have l1:Nat.blt i a.length=true:=by rw [Nat.blt_eq];omega
  have e1:((i:Nat):Int)+1=((i+1:Nat):Int):=om
  by_cases hib:i<b.length
  ·obtain ⟨y,hy⟩:=at_some hib
   have hy6:=db.get hy
   obtain ⟨sp',rfl,h3',h4'⟩:=b1 om
   have s2:=b2 i y hy
   have r2:τ.row bb=some bcs:=by rw [hE.row h3'];exact h4'
   have l2:Nat.blt i b.length=true:=by rw [Nat.blt_eq];omega
   have dib:decide (i<b.length)=true:=by simpa using hib
   obtain ⟨d,be',hd6,hbe',hde,hcs⟩:=minus_step hx6 hy6 hbe
   have hv':valD (o++[d])+valD (b.take (i+1))=valD (a.take (i+1))+be'*65536 ^ (i+1):=by
    rw [valD_snoc,hol,valD_take hx,valD_take hy,Nat.pow_succ];exact minus_val hv hde
   rcases hcs with ⟨rfl,dn,ed⟩|⟨rfl,dn,ed⟩
   ·refine gU1 (aI @splice_succ (aI @ap28 (aI @ap29 (aI @ap30 (aI @ap33 (aI @ap36 (aI @ap37 (aI @ap43 (aI @ap97 (aI @ap202 (aI @g7 (aI @g0 (aI @g1 (aI @g6 (aI @g5 (aI @hc (aI @r1 (aI @s1 (aI @l1 (aI @r2 (aI @s2 (aI @l2 (aI @dib (aI @dn @ed)))))))))))))))))))))))) ?_
    have ho':OL Z.n (τ.new [Value.int .i64 ((d:Nat):Int)]) 1 v (o.map fun d=>[dgv d]):=OL.ext ho (.new _ _)
    refine ev_append (row:=[dgv d]) (fun _ _ _ _=>ap22) ho' (row_new_same om om) (sub_full (by simp) (by simp)) (by rw [List.length_map];omega) (by simp;omega) ?_
    rintro v2 τ2 ho2 hap -
    refine gU1 (aI @splice_succ (aI @ap28 (aI @ap29 (aI @ap30 (aI @ap33 (aI @ap36 (aI @ap37 (aI @ap43 (aI @ap97 (aI @ap202 (aI @g7 @e1))))))))))) ?_
    exact ⟨fR,fR1 g0,fR1 g1,hap.ext (hE.trans (.new _ _)) ho' (Nat.le_refl _),1,v2,o++[d],fR,fR,by rw [List.map_append];exact ho2,om,by rw [List.length_append,hol];rfl,hod.snoc hd6,hv'⟩
   ·have dn':decide (((d:Nat):Int)<0)=false:=decide_eq_false om
    refine gU1 (aI @splice_succ (aI @ap28 (aI @ap29 (aI @ap30 (aI @ap33 (aI @ap36 (aI @ap37 (aI @ap43 (aI @ap97 (aI @ap202 (aI @g7 (aI @g0 (aI @g1 (aI @g6 (aI @g5 (aI @hc (aI @r1 (aI @s1 (aI @l1 (aI @r2 (aI @s2 (aI @l2 (aI @dib (aI @dn (aI @dn' @ed))))))))))))))))))))))))) ?_
    have ho':OL Z.n (τ.new [Value.int .i64 ((d:Nat):Int)]) 1 v (o.map fun d=>[dgv d]):=OL.ext ho (.new _ _)
    refine ev_append (row:=[dgv d]) (fun _ _ _ _=>ap22) ho' (row_new_same om om) (sub_full (by simp) (by simp)) (by rw [List.length_map];omega) (by simp;omega) ?_
    rintro v2 τ2 ho2 hap -
    refine gU1 (aI @splice_succ (aI @ap28 (aI @ap29 (aI @ap30 (aI @ap33 (aI @ap36 (aI @ap37 (aI @ap43 (aI @ap97 (aI @ap202 (aI @g7 @e1))))))))))) ?_
    exact ⟨fR,fR1 g0,fR1 g1,hap.ext (hE.trans (.new _ _)) ho' (Nat.le_refl _),0,v2,o++[d],fR,fR,by rw [List.map_append];exact ho2,om,by rw [List.length_append,hol];rfl,hod.snoc hd6,hv'⟩
  ·have dib:decide (i<b.length)=false:=by simpa using hib
   obtain ⟨d,be',hd6,hbe',hde,hcs⟩:=minus_step (y:=0) hx6 om hbe
   have z0:((x:Nat):Int)-(be:Nat)-((0:Nat):Int)=((x:Nat):Int)-(be:Nat):=om
   rw [z0] at hcs
   have hv':valD (o++[d])+valD (b.take (i+1))=valD (a.take (i+1))+be'*65536 ^ (i+1):=by
    have hh:=minus_val hv hde
    rw [Nat.mul_zero,Nat.add_zero,List.take_of_length_le (show b.length<=i by omega)] at hh
    rw [valD_snoc,hol,valD_take hx,List.take_of_length_le (show b.length<=i+1 by omega),Nat.pow_succ];exact hh
   rcases hcs with ⟨rfl,dn,ed⟩|⟨rfl,dn,ed⟩
   ·refine gU1 (aI @splice_succ (aI @ap28 (aI @ap29 (aI @ap30 (aI @ap33 (aI @ap36 (aI @ap37 (aI @ap43 (aI @ap97 (aI @ap202 (aI @g7 (aI @g0 (aI @g1 (aI @g6 (aI @g5 (aI @hc (aI @r1 (aI @s1 (aI @l1 (aI @dib (aI @dn @ed))))))))))))))))))))) ?_
    have ho':OL Z.n (τ.new [Value.int .i64 ((d:Nat):Int)]) 1 v (o.map fun d=>[dgv d]):=OL.ext ho (.new _ _)
    refine ev_append (row:=[dgv d]) (fun _ _ _ _=>ap22) ho' (row_new_same om om) (sub_full (by simp) (by simp)) (by rw [List.length_map];omega) (by simp;omega) ?_
    rintro v2 τ2 ho2 hap -
    refine gU1 (aI @splice_succ (aI @ap28 (aI @ap29 (aI @ap30 (aI @ap33 (aI @ap36 (aI @ap37 (aI @ap43 (aI @ap97 (aI @ap202 (aI @g7 @e1))))))))))) ?_
    exact ⟨fR,fR1 g0,fR1 g1,hap.ext (hE.trans (.new _ _)) ho' (Nat.le_refl _),1,v2,o++[d],fR,fR,by rw [List.map_append];exact ho2,om,by rw [List.length_append,hol];rfl,hod.snoc hd6,hv'⟩
   ·have dn':decide (((d:Nat):Int)<0)=false:=decide_eq_false om
    refine gU1 (aI @splice_succ (aI @ap28 (aI @ap29 (aI @ap30 (aI @ap33 (aI @ap36 (aI @ap37 (aI @ap43 (aI @ap97 (aI @ap202 (aI @g7 (aI @g0 (aI @g1 (aI @g6 (aI @g5 (aI @hc (aI @r1 (aI @s1 (aI @l1 (aI @dib (aI @dn (aI @dn' @ed)))))))))))))))))))))) ?_
    have ho':OL Z.n (τ.new [Value.int .i64 ((d:Nat):Int)]) 1 v (o.map fun d=>[dgv d]):=OL.ext ho (.new _ _)
    refine ev_append (row:=[dgv d]) (fun _ _ _ _=>ap22) ho' (row_new_same om om) (sub_full (by simp) (by simp)) (by rw [List.length_map];omega) (by simp;omega) ?_
    rintro v2 τ2 ho2 hap -
    refine gU1 (aI @splice_succ (aI @ap28 (aI @ap29 (aI @ap30 (aI @ap33 (aI @ap36 (aI @ap37 (aI @ap43 (aI @ap97 (aI @ap202 (aI @g7 @e1))))))))))) ?_
    exact ⟨fR,fR1 g0,fR1 g1,hap.ext (hE.trans (.new _ _)) ho' (Nat.le_refl _),0,v2,o++[d],fR,fR,by rw [List.map_append];exact ho2,om,by rw [List.length_append,hol];rfl,hod.snoc hd6,hv'⟩
 ·rintro fr τ ⟨g7,g0,g1,hE,be,v,o,g6,g5,ho,hbe,hol,hod,hv⟩
  refine gU1 (aI @splice_succ (aI @ap28 (aI @ap29 (aI @ap30 (aI @ap33 (aI @ap36 (aI @ap37 (aI @ap43 (aI @ap97 (aI @ap202 (aI @g7 (aI @g0 @lt_self)))))))))))) ?_
  refine ⟨_,_,v,o,rfl,hE,fR1 g5,ho,hol,hod,?_⟩
  rw [List.take_length,List.take_of_length_le hbl] at hv
  have h1:=valD_lt hod
  rw [hol] at h1
  rcases (show be=0\/be=1 by omega) with rfl|rfl
  ·omega
  ·rw [Nat.one_mul] at hv
   omega
 rintro r ⟨fr,τ,v,o,rfl,hE,g5,ho,hol,hod,hv⟩
 have hdn:=DN.of_ol ho
 obtain ⟨va,vc,rfl⟩:=hdn.shape
 refine gU1 (aI @splice_succ (aI @ap28 (aI @ap29 (aI @ap30 (aI @ap33 (aI @ap36 (aI @ap37 (aI @ap43 (aI @ap97 (aI @ap202 @g5)))))))))) ?_
 refine (trim_ok hdn om).mono ?_
 rintro r ⟨v',l',rfl,hd',⟨k,hk⟩,ht,hv',hbk⟩
 obtain ⟨va',vc',rfl⟩:=hd'.shape
 refine gU1 (aI @splice_succ (aI @bunAP @Tryz.results182)) ?_
 exact ⟨_,l',_,rfl,hE,hd',by rw [hk];exact hod.take k,ht,by rw [hv',hv],by rw [hk,List.length_take,hol];omega,fun k hk=>(ho.blk (by rw [<- hbk];exact hk)).1⟩
end Go.Proofs.T
namespace Go.Proofs.T
open Go Go.Ab
def trow (x:Nat) (b:List Nat) (i:Nat) (out:List Nat):Nat->List Nat×Nat
 | 0=>(out,0)
 | k+1=>((trow x b i out k).1.set (i+k) (((trow x b i out k).1.getD (i+k) 0+x*b.getD k 0+(trow x b i out k).2) % 65536),((trow x b i out k).1.getD (i+k) 0+x*b.getD k 0+(trow x b i out k).2) / 65536)
def tall (a b:List Nat):Nat->List Nat
 | 0=>List.replicate (a.length+b.length) 0
 | i+1=>(trow (a.getD i 0) b i (tall a b i) b.length).1.set (i+b.length) (trow (a.getD i 0) b i (tall a b i) b.length).2
theorem getD_at {l:List Nat}{k x:Nat}(h:l[k]? =some x):l.getD k 0=x:=by rw [List.getD,h];rfl
theorem dig_set {l:List Nat}{j y:Nat}(h:Dig l) (hy:y<65536):Dig (l.set j y):=fun x hx=>by
 rcases List.mem_or_eq_of_mem_set hx with hx|rfl
 ·exact h x hx
 ·exact hy
theorem dig_getD {l:List Nat}(h:Dig l) (k:Nat):l.getD k 0<65536:=by
 cases hk:l[k]? with
 | none=>simp [List.getD,hk]
 | some x=>rw [getD_at hk];exact h x (List.mem_of_getElem? hk)
theorem getD_set_ne {l:List Nat}{j k y:Nat}(h:j≠k):(l.set j y).getD k 0=l.getD k 0:=by
 rw [List.getD,List.getD,List.getElem?_set_ne h]
theorem trow_len (x:Nat) (b:List Nat) (i:Nat) (out:List Nat):∀ k,(trow x b i out k).1.length=out.length
 | 0=>rfl
 | k+1=>by rw [trow,List.length_set,trow_len x b i out k]
theorem mul_dig {x y:Nat}(hx:x<65536) (hy:y<65536):x*y<=4294836225:=by
 have:=Nat.mul_le_mul (Nat.le_of_lt_succ hx) (Nat.le_of_lt_succ hy)
 omega
theorem trow_lt {x:Nat}{b:List Nat}{i:Nat}{out:List Nat}(hx:x<65536) (hb:∀ k,b.getD k 0<65536) (ho:Dig out):∀ k,Dig (trow x b i out k).1/\(trow x b i out k).2<65536
 | 0=>⟨ho,by show 0<65536;omega⟩
 | k+1=>by
   obtain ⟨h1,h2⟩:=trow_lt (i:=i) hx hb ho k
   have h3:=dig_getD h1 (i+k)
   have h4:=mul_dig hx (hb k)
   rw [trow]
   exact ⟨dig_set h1 om,by show _ / 65536<65536;omega⟩
theorem tall_len (a b:List Nat):∀ i,(tall a b i).length=a.length+b.length
 | 0=>by simp [tall]
 | i+1=>by rw [tall,List.length_set,trow_len,tall_len a b i]
theorem tall_lt {a b:List Nat}(ha:∀ k,a.getD k 0<65536) (hb:∀ k,b.getD k 0<65536):∀ i,Dig (tall a b i)
 | 0=>fun x hx=>by
   rw [tall] at hx
   obtain ⟨_,rfl⟩:=List.mem_replicate.1 hx
   omega
 | i+1=>by
   obtain ⟨h1,h2⟩:=trow_lt (i:=i) (ha i) hb (tall_lt ha hb i) b.length
   rw [tall]
   exact dig_set h1 h2
theorem valD_set:∀ {l:List Nat}{j:Nat}(y:Nat),j<l.length->valD (l.set j y)+65536 ^ j*l.getD j 0=valD l+65536 ^ j*y
 | [],j,y,h=>by simp at h
 | d::l,0,y,_=>by
   rw [List.set_cons_zero,valD_cons,valD_cons,Nat.pow_zero,Nat.one_mul,Nat.one_mul]
   show y+65536*valD l+d=_
   omega
 | d::l,j+1,y,h=>by
   have ih:=valD_set (l:=l) (j:=j) y (by simpa using h)
   rw [List.set_cons_succ,valD_cons,valD_cons,Nat.pow_succ]
   show d+65536*valD (l.set j y)+65536 ^ j*65536*l.getD j 0=_
   have e:=congrArg (65536*·) ih
   simp only [Nat.mul_add] at e
   rw [<- Nat.mul_assoc,<- Nat.mul_assoc,Nat.mul_comm 65536 (65536 ^ j)] at e
   omega
theorem valD_zero:∀ n,valD (List.replicate n 0)=0
 | 0=>rfl
 | n+1=>by rw [List.replicate_succ,valD_cons,valD_zero n]
theorem getD_zero (n k:Nat):(List.replicate n 0).getD k 0=0:=by
 rw [List.getD,List.getElem?_replicate]
 by_cases h:k<n
 ·rw [if_pos h];rfl
 ·rw [if_neg h];rfl
theorem trow_far (x:Nat) (b:List Nat) (i:Nat) (out:List Nat):∀ k j,i+k<=j->(trow x b i out k).1.getD j 0=out.getD j 0
 | 0,j,h=>rfl
 | k+1,j,h=>by rw [trow,getD_set_ne om,trow_far x b i out k j om]
theorem row_val0 {V Q P M c o V' D R:Nat}(h:V+P*c=Q) (h2:V'+P*o=V+P*R) (hd:65536*D+R=o+M+c):V'+P*65536*D=Q+P*M:=by
 have e:=congrArg (P*·) hd
 simp only [Nat.mul_add] at e
 rw [<- Nat.mul_assoc] at e
 omega
theorem row_val {V Q P x y c o V':Nat}(h:V+P*c=Q) (h2:V'+P*o=V+P*((o+x*y+c) % 65536)):V'+P*65536*((o+x*y+c) / 65536)=Q+P*(x*y) :=
 row_val0 h h2 (Nat.div_add_mod ..)
theorem trow_val {x:Nat}{b:List Nat}{i:Nat}{out:List Nat}(hl:i+b.length<=out.length):∀ k,k<=b.length->valD (trow x b i out k).1+65536 ^ (i+k)*(trow x b i out k).2=valD out+65536 ^ i*(x*valD (b.take k))
 | 0,_=>by simp [trow,valD]
 | k+1,h=>by
   have ih:=trow_val (x:=x) hl k om
   obtain ⟨y,hy⟩:∃ y,b[k]? =some y:=⟨_,List.getElem?_eq_getElem om⟩
   have hs:=valD_set (l:=(trow x b i out k).1) (j:=i+k) (((trow x b i out k).1.getD (i+k) 0+x*b.getD k 0+(trow x b i out k).2) % 65536) (by rw [trow_len];omega)
   rw [trow,<- Nat.add_assoc,Nat.pow_succ,valD_take hy]
   have:=row_val ih hs
   rw [this,getD_at hy,Nat.mul_add,Nat.mul_add,Nat.pow_add]
   rw [show 65536 ^ i*(x*(65536 ^ k*y))=65536 ^ i*65536 ^ k*(x*y) from by rw [Nat.mul_left_comm x,Nat.mul_assoc]]
   omega
theorem tall_far (a b:List Nat):∀ i j,i+b.length<=j->(tall a b i).getD j 0=0
 | 0,j,_=>getD_zero _ _
 | i+1,j,h=>by rw [tall,getD_set_ne om,trow_far _ _ _ _ _ _ om,tall_far a b i j om]
theorem tall_val {a b:List Nat}:∀ i,i<=a.length->valD (tall a b i)=valD (a.take i)*valD b
 | 0,_=>by rw [tall,valD_zero,List.take_zero,valD_nil,Nat.zero_mul]
 | i+1,h=>by
   obtain ⟨x,hx⟩:∃ x,a[i]? =some x:=⟨_,List.getElem?_eq_getElem om⟩
   have h1:=trow_val (x:=a.getD i 0) (b:=b) (i:=i) (out:=tall a b i) (by rw [tall_len];omega) b.length (Nat.le_refl _)
   have h2:=valD_set (l:=(trow (a.getD i 0) b i (tall a b i) b.length).1) (j:=i+b.length) (trow (a.getD i 0) b i (tall a b i) b.length).2 (by rw [trow_len,tall_len];omega)
   rw [trow_far _ _ _ _ _ _ (Nat.le_refl _),tall_far _ _ _ _ (Nat.le_refl _),Nat.mul_zero,Nat.add_zero] at h2
   rw [tall,h2,h1,tall_val i om,List.take_length,valD_take hx,getD_at hx,Nat.add_mul,Nat.mul_assoc]
end Go.Proofs.T
namespace Go.Proofs.T
open Go Go.Ab
open Nat (reduceMul reduceEqDiff reduceAdd)
set_option maxRecDepth 100000
theorem splice_set {l:List Nat}{j y:Nat}(h:j<l.length):splice (l.map dgv) j [.int .i64 ((y:Nat):Int)]=some ((l.set j y).map dgv):=by
 rw [splice_at' (by simp;omega),List.map_set,List.set_eq_take_append_cons_drop,if_pos (by simpa using h)]
 simp [dgv]
theorem sub_at {l:List Nat}{j:Nat}(h:j<l.length):sub (l.map dgv) j 1=some [.int .i64 ((l.getD j 0:Nat):Int)]:=by
 rw [sub_of (by simp;omega),List.drop_eq_getElem_cons (by simpa using h)]
 simp [List.getD,List.getElem?_eq_getElem h,dgv]
theorem rep_dgv:∀ n,rep [.int .i64 0] n=(List.replicate n 0).map dgv
 | 0=>rfl
 | n+1=>by rw [rep_succ,rep_dgv n];rfl
theorem DN.of_row {Z:St}{b:Nat}{l:List Nat}(hb:b<Z.n) (hr:Z.row b=some (l.map dgv)):DN Z (.slice (some ⟨b,0,none⟩) l.length l.length) l :=
 .inr ⟨b,0,none,_,_,rfl,Nat.le_refl _,.inl rfl,hb,hr,sub_full (by simp) (by simp)⟩
set_option maxHeartbeats 8000000 in
theorem btimes_ok {Z:St}{v w:Value}{a b:List Nat}(ha:DN Z v a) (hb:DN Z w b) (da:Dig a) (db:Dig b) (la:a.length<=100) (lb:b.length<=100) :
  Ev (go Tryz.prog HS (.fn 210) [v,w] Z) (fun r=>∃ v' l Z',r=⟨false,v',Z'⟩/\Ext Z Z'/\DN Z' v' l/\Dig l/\Trm l/\valD l=valD a*valD b/\l.length<=a.length+b.length) ⟨⟩:=by
 have dla:∀ k,a.getD k 0<65536:=dig_getD da
 have dlb:∀ k,b.getD k 0<65536:=dig_getD db
 obtain ⟨va,vc,vb,vo,vcs,rfl,h1,h2⟩:=ha.use
 obtain ⟨wa,wc,wb,wo,wcs,rfl,k1,k2⟩:=hb.use
 have hsum:((a.length:Int)+(b.length:Int))=((a.length+b.length:Nat):Int):=om
 have hrep:rep [.int .i64 0] (a.length+b.length)=(tall a b 0).map dgv:=rep_dgv _
 refine ev_go Tryz.func210 rfl rfl ?_
 refine gU1 (aI @splice_succ (aI @bunAP (aI @hsum @hrep))) ?_
 refine ev_count a.length (fun i fr Z'=>fr.get 5=some (.slice (some ⟨Z.n,0,none⟩) (a.length+b.length) (a.length+b.length))/\fr.get 6=some (.int .i64 (i:Nat))/\fr.get 0=some (.slice va a.length vc)/\fr.get 1=some (.slice wa b.length wc)/\Ext Z Z'/\Z.n<Z'.n/\Z'.orow Z.n=some ((tall a b i).map dgv))
  (fun r=>∃ fr Z',r=⟨.exit 0,fr,Z'⟩/\fr.get 5=some (.slice (some ⟨Z.n,0,none⟩) (a.length+b.length) (a.length+b.length))/\Ext Z Z'/\Z.n<Z'.n/\Z'.orow Z.n=some ((tall a b a.length).map dgv)) ?_ ?_ ?_ ?_
 ·exact ⟨fR,fR,fR,fR,eX,by simp,cL⟩
 ·rintro i fr Z1 hi ⟨g5,g6,g0,g1,hE1,hn1,ho1⟩
  have ca:decide (i<a.length)=true:=by simpa using hi
  obtain ⟨x,hx'⟩:=at_some hi
  have hx:=getD_at hx'
  have xl:=dla i
  rw [hx] at xl
  obtain ⟨sp,rfl,l3,l4⟩:=h1 om
  have l7:=h2 i _ hx'
  obtain ⟨tr,htr⟩:∃ tr,trow x b i (tall a b i)=tr:=⟨_,rfl⟩
  have hlt:∀ k,Dig (tr k).1/\(tr k).2<65536:=fun k=>by rw [<- htr];exact trow_lt xl dlb (tall_lt dla dlb i) k
  have hln:∀ k,(tr k).1.length=a.length+b.length:=fun k=>by rw [<- htr,trow_len,tall_len]
  have ht0:(tr 0)=(tall a b i,0):=by rw [<- htr];rfl
  have hts:∀ k,tr (k+1)=((tr k).1.set (i+k) (((tr k).1.getD (i+k) 0+x*b.getD k 0+(tr k).2) % 65536),((tr k).1.getD (i+k) 0+x*b.getD k 0+(tr k).2) / 65536):=fun k=>by rw [<- htr];rfl
  refine gU1 (aI @splice_succ (aI @bunAP (aI @g5 (aI @g6 (aI @g0 (aI @g1 @ca)))))) ?_
  refine ev_count b.length (fun k fr Z'=>fr.get 5=some (.slice (some ⟨Z.n,0,none⟩) (a.length+b.length) (a.length+b.length))/\fr.get 6=some (.int .i64 (i:Nat))/\fr.get 7=some (.int .i64 ((tr k).2:Nat))/\fr.get 8=some (.int .i64 (k:Nat))/\fr.get 0=some (.slice (some ⟨vb,vo,sp⟩) a.length vc)/\fr.get 1=some (.slice wa b.length wc)/\Ext Z Z'/\Z.n<Z'.n/\Z'.orow Z.n=some ((tr k).1.map dgv))
   (fun r=>∃ fr Z',r=⟨.exit 2,fr,Z'⟩/\fr.get 5=some (.slice (some ⟨Z.n,0,none⟩) (a.length+b.length) (a.length+b.length))/\fr.get 6=some (.int .i64 (i:Nat))/\fr.get 7=some (.int .i64 ((tr b.length).2:Nat))/\fr.get 0=some (.slice (some ⟨vb,vo,sp⟩) a.length vc)/\fr.get 1=some (.slice wa b.length wc)/\Ext Z Z'/\Z.n<Z'.n/\Z'.orow Z.n=some ((tr b.length).1.map dgv)) ?_ ?_ ?_ ?_
  ·exact ⟨fR1 g5,fR1 g6,by rw [ht0];exact (fR),fR,fR1 g0,fR1 g1,hE1,hn1,by rw [ht0];exact ho1⟩
  ·rintro k fr Z' hk ⟨g5,g6,g7,g8,g0,g1,hE,hn,ho⟩
   have cb:decide (k<b.length)=true:=by simpa using hk
   obtain ⟨y,hy'⟩:=at_some hk
   have hy:=getD_at hy'
   have yl:=dlb k
   rw [hy] at yl
   obtain ⟨sp',rfl,l3',l4'⟩:=k1 om
   have l5:Z'.row vb=some vcs:=by rw [hE.row l3];exact l4
   have l5':Z'.row wb=some wcs:=by rw [hE.row l3'];exact l4'
   have l7':=k2 k _ hy'
   have hij:i+k<(tr k).1.length:=by rw [hln];omega
   obtain ⟨ts,hts'⟩:∃ ts,(tr k).1=ts:=⟨_,rfl⟩
   obtain ⟨c,hc⟩:∃ c,(tr k).2=c:=⟨_,rfl⟩
   have hcl:=(hlt k).2
   have htl:=(hlt k).1
   have hst:=hts k
   have hll:=hln k
   rw [hts'] at ho hij htl hst hll
   rw [hc] at g7 hcl hst
   obtain ⟨o,hod⟩:∃ o,ts.getD (i+k) 0=o:=⟨_,rfl⟩
   have ol:o<65536:=by rw [<- hod];exact dig_getD htl _
   obtain ⟨Pr,hP⟩:∃ Pr,x*y=Pr:=⟨_,rfl⟩
   have hPl:Pr<=4294836225:=by rw [<- hP];exact mul_dig xl yl
   have hPi:(x:Int)*(y:Int)=(Pr:Int):=by rw [<- hP];exact (Int.natCast_mul x y).symm
   obtain ⟨D,hD⟩:∃ D,o+Pr+c=D:=⟨_,rfl⟩
   rw [hy,hod,hP,hD] at hst
   have so:=sub_at hij
   rw [hod] at so
   have ho':=row_of ho
   have hix:((i:Int)+(k:Int))=((i+k:Nat):Int):=om
   have hbl:Nat.blt (i+k) (a.length+b.length)=true:=blt_of om
   have f2:((o:Int)+(Pr:Int)+(c:Int))=(D:Int):=om
   have f3:(D:Int).tmod 65536=((D % 65536:Nat):Int):=rfl
   have f4:(D:Int).tdiv 65536=((D / 65536:Nat):Int):=rfl
   have f6:splice (ts.map dgv) (i+k) [.int .i64 ((D % 65536:Nat):Int)]=some ((ts.set (i+k) (D % 65536)).map dgv):=splice_set hij
   refine gU1 (aI @splice_succ (aI @bunAP (aI @g5 (aI @g6 (aI @g7 (aI @g8 (aI @g0 (aI @g1 (aI @cb (aI @hix (aI @hbl (aI @ho' (aI @so (aI @l5 (aI @l7 (aI @l5' (aI @l7' (aI @hPi (aI @f2 (aI @f3 (aI @f4 (aI @ho @f6)))))))))))))))))))))) ?_
   refine ⟨trivial,trivial,by rw [hst],trivial,trivial,trivial,hE.upd (Nat.le_refl _) _,by simpa using hn,by rw [hst]⟩
  ·rintro fr Z' ⟨g5,g6,g7,g8,g0,g1,hE,hn,ho⟩
   refine gU1 (aI @splice_succ (aI @bunAP (aI @g5 (aI @g6 (aI @g7 (aI @g8 (aI @g0 @g1))))))) ?_
   exact ⟨_,_,rfl,fR1 g5,fR1 g6,fR1 g7,fR1 g0,fR1 g1,hE,hn,ho⟩
  rintro r ⟨fr,Z',rfl,g5,g6,g7,g0,g1,hE,hn,ho⟩
  have hix:((i:Int)+(b.length:Int))=((i+b.length:Nat):Int):=om
  have hbl:Nat.blt (i+b.length) (a.length+b.length)=true:=blt_of om
  have f6:splice ((tr b.length).1.map dgv) (i+b.length) [.int .i64 ((tr b.length).2:Nat)]=some (((tr b.length).1.set (i+b.length) (tr b.length).2).map dgv):=splice_set (by rw [hln];omega)
  refine gU1 (aI @splice_succ (aI @bunAP (aI @g5 (aI @g6 (aI @g7 (aI @g0 (aI @g1 (aI @hix (aI @hbl (aI @ho @f6)))))))))) ?_
  refine ⟨trivial,trivial,trivial,trivial,hE.upd (Nat.le_refl _) _,by simpa using hn,?_⟩
  rw [show tall a b (i+1)=(tr b.length).1.set (i+b.length) (tr b.length).2 from by rw [tall,hx,htr]]
 ·rintro i Z' ⟨g5,g6,g0,g1,hE,hn,ho⟩
  refine gU1 (aI @splice_succ (aI @bunAP (aI @g5 (aI @g6 (aI @g0 @g1))))) ?_
  exact ⟨_,_,rfl,fR1 g5,hE,hn,ho⟩
 rintro r ⟨fr,Z',rfl,g5,hE,hn,ho⟩
 have hD:=DN.of_row hn (row_of ho)
 rw [tall_len] at hD
 refine gU1 (aI @splice_succ (aI @bunAP @g5)) ?_
 refine (trim_ok hD (by rw [tall_len];omega)).mono ?_
 rintro r ⟨v',l',rfl,hd',⟨k,hk⟩,ht,hv',-⟩
 obtain ⟨va',vc',rfl⟩:=hd'.shape
 refine gU1 (aI @splice_succ (aI @bunAP @Tryz.results210)) ?_
 exact ⟨_,l',_,rfl,hE,hd',by rw [hk];exact (tall_lt dla dlb _).take k,ht,by rw [hv',tall_val _ (Nat.le_refl _),List.take_length],by rw [hk,List.length_take,tall_len];omega⟩
end Go.Proofs.T
namespace Go.Proofs.T
open Go Go.Ab
open Nat (reduceMul reduceEqDiff reduceAdd)
set_option maxRecDepth 100000
theorem Dig.one {d:Nat}(h:d<65536):Dig [d]:=fun x hx=>by rw [List.mem_singleton] at hx;rw [hx];exact h
theorem by_ok {Z:St}{v:Value}{a:List Nat}{d:Nat}(ha:DN Z v a) (da:Dig a) (hd:d<65536) (la:a.length<=100) :
  Ev (go Tryz.prog HS (.fn 181) [v,.int .i64 ((d:Nat):Int)] Z) (fun r=>∃ v' l Z',r=⟨false,v',Z'⟩/\Ext Z Z'/\DN Z' v' l/\Dig l/\Trm l/\valD l=valD a*d/\l.length<=a.length+1) ⟨⟩:=by
 obtain ⟨aa,ac,hsh⟩:=ha.shape
 subst hsh
 have hE:Ext Z (Z.new [Value.int .i64 ((d:Nat):Int)]):= .new _ _
 have hd1:DN (Z.new [Value.int .i64 ((d:Nat):Int)]) (.slice (some ⟨Z.n,0,none⟩) 1 1) [d]:=DN.of_row (l:=[d]) (by simp) (row_new_same (Nat.le_refl _) (Nat.le_refl _))
 refine ev_go Tryz.func181 rfl rfl ?_
 refine gU1 (aI @splice_succ @bunAP) ?_
 refine (btimes_ok (ha.mono hE) hd1 da (Dig.one hd) la (by simp)).mono ?_
 rintro r ⟨v',l,Z',rfl,hE',hd',h1,h2,h3,h4⟩
 obtain ⟨va',vc',rfl⟩:=hd'.shape
 refine gU1 (aI @splice_succ (aI @bunAP @Tryz.results181)) ?_
 exact ⟨_,l,_,rfl,hE.trans hE',hd',h1,h2,by rw [h3,valD_cons,valD_nil,Nat.mul_zero,Nat.add_zero],by simpa using h4⟩
theorem DN.src {Z:St}{v:Value}{l:List Nat}(h:DN Z v l):srcCells Z 1 v=some (l.length,l.map dgv):=by
 rcases h with ⟨rfl,rfl⟩|⟨b,off,sp,c,cells,rfl,h2,h3,h4,h5,h6⟩
 ·rfl
 ·rw [src_slice,read_eq,h5,ob_some,Nat.mul_one,h6,ob_some]
theorem cat_ok {Z:St}{v:Value}{l:List Nat}{x:Nat}{Q:Value×St->Prop}{uq:Hd Q}(hl:DN Z v l) (hlen:l.length<=1000)
  (h:∀ v' Z',DN Z' v' (x::l)->Ext Z Z'->(∀ k,blkOf v'=some k->Z.n<=k)->Q (v',Z')):Ev (appendV Tryz.prog (Z.new [Value.int .i64 ((x:Nat):Int)]) 22 (.slice (some ⟨Z.n,0,none⟩) 1 1) v) Q uq:=by
 have hE:Ext Z (Z.new [Value.int .i64 ((x:Nat):Int)]):= .new _ _
 have hl':=hl.mono hE
 have horow:(Z.new [Value.int .i64 ((x:Nat):Int)]).orow Z.n=some [dgv x]:=orow_new_same (Nat.le_refl _) (Nat.le_refl _)
 rw [ap22,hl'.src,ob_some,pr_mk]
 by_cases h0:l.length=0
 ·obtain rfl:l=[]:=List.eq_nil_of_length_eq_zero h0
  rw [show Nat.ble (1+([]:List Nat).length) 1=true from rfl,bi_true,ai_some,write_eq,horow,ob_some]
  rw [show splice [dgv x] (0+1*1) (([]:List Nat).map dgv)=some [dgv x] from rfl,ob_some,ob_some,ev_some]
  refine h _ _ ?_ (hE.upd (Nat.le_refl _) _) fun k hk=>by cases hk;exact Nat.le_refl _
  exact DN.of_row (l:=[x]) (by simp) (row_of orow_upd_same)
 ·have hroom:Nat.ble ((1+l.length)*9) room=true:=ble_of (by show _<=4294967296;omega)
  rw [ble_no om,bi_false,hroom,bb_true,an_plain,read_eq,row_of horow,ob_some]
  rw [show sub [dgv x] 0 (1*1)=some [dgv x] from rfl,ob_some,ev_some]
  refine h _ _ ?_ (hE.trans (.new _ _)) fun k hk=>by cases hk;simp
  refine .inr ⟨_,0,some 1,1+l.length,_,by rw [List.length_cons,Nat.add_comm],by rw [List.length_cons];omega,.inr rfl,by simp,row_of (orow_new_same (Nat.le_refl _) (Nat.le_refl _)),?_⟩
  exact sub_full (by simp) (by simp)
theorem cmp_neg {x y:Nat}:decide (cmpN x y<0)=decide (x<y):=by
 unfold cmpN
 by_cases h:x<y
 ·rw [if_pos h];simp [h]
 ·rw [if_neg h]
  by_cases h2:x=y
  ·rw [if_pos h2];simp [h]
  ·rw [if_neg h2];simp [h]
theorem cmp_pos {x y:Nat}:decide ((0:Int)<cmpN x y)=decide (y<x):=by
 unfold cmpN
 by_cases h:x<y
 ·rw [if_pos h];simp;omega
 ·rw [if_neg h]
  by_cases h2:x=y
  ·rw [if_pos h2];simp;omega
  ·rw [if_neg h2];simp;omega
theorem over_unique {A B q r:Nat}(hB:r<B) (h:A=q*B+r):q=A / B/\r=A % B:=by
 subst h
 rw [Nat.mul_comm]
 constructor
 ·rw [Nat.mul_add_div om,Nat.div_eq_of_lt hB,Nat.add_zero]
 ·rw [Nat.mul_add_mod,Nat.mod_eq_of_lt hB]
theorem over_step {Qd B r x R low r':Nat}(hR:R=x+65536*r) (h1:low*B<=R) (hr:r'=R-B*low):x+65536*(Qd*B+r)=(low+65536*Qd)*B+r':=by
 rw [Nat.mul_comm B low] at hr
 rw [Nat.add_mul,Nat.mul_add,Nat.mul_assoc]
 omega
theorem Trm.length_le {a b:List Nat}(da:Dig a) (tb:Trm b) (h:valD b<=valD a):b.length<=a.length:=by
 rcases Nat.lt_or_ge a.length b.length with h1|h1
 ·have:=Trm.len da tb h1;omega
 ·exact h1
end Go.Proofs.T
namespace Go.Proofs.T
open Go Go.Ab
open Nat (reduceMul reduceEqDiff reduceAdd)
set_option maxRecDepth 100000
theorem set_drop {α:Type}{l:List α}{m:Nat}{y:α}(h:m<l.length):(l.set m y).drop m=y::l.drop (m+1):=by
 rw [List.drop_eq_getElem_cons (by simpa using h),List.getElem_set_self,List.drop_set_of_lt om]
theorem DN.upd {Z:St}{v:Value}{l:List Nat}{c:Nat}{cs:List Value}(h:DN Z v l) (hc:blkOf v≠some c):DN (Z.upd c cs) v l:=by
 rcases h with h|⟨b,off,sp,c',cells,h1,h2,h3,h4,h5,h6⟩
 ·exact .inl h
 ·subst h1
  have hne:b≠c:=fun e=>hc (by rw [e];rfl)
  exact .inr ⟨b,off,sp,c',cells,rfl,h2,h3,h4,by rw [row_congr (show (Z.upd c cs).h.get b=Z.h.get b by rw [upd_get,if_neg hne])];exact h5,h6⟩
set_option maxHeartbeats 16000000 in
theorem over_ok {Z:St}{v w:Value}{a b:List Nat}(ha:DN Z v a) (hb:DN Z w b) (da:Dig a) (db:Dig b) (tb:Trm b) (la:a.length<=50) (lb:b.length<=50) (h0:0<valD b) :
  Ev (go Tryz.prog HS (.fn 141) [v,w] Z) (fun r=>∃ v1 v2 q l Z',r=⟨false,.tuple ⟨[v1,v2]⟩,Z'⟩/\Ext Z Z'/\DN Z' v1 q/\DN Z' v2 l/\Dig q/\Dig l/\Trm q/\Trm l/\valD q=valD a / valD b/\valD l=valD a % valD b/\q.length<=a.length/\l.length<=b.length) ⟨⟩:=by
 obtain ⟨aa,ac,ab,ao,acs,hsa,a1,a2⟩:=ha.use
 obtain ⟨wa,wc,hsb⟩:=hb.shape
 subst hsa hsb
 obtain ⟨B,hB⟩:∃ B,valD b=B:=⟨_,rfl⟩
 rw [hB] at h0
 have hrep:rep [.int .i64 0] a.length=(List.replicate a.length 0).map dgv:=rep_dgv _
 refine ev_go Tryz.func141 rfl rfl ?_
 refine gU1 (aI @splice_succ (aI @bunAP @hrep)) ?_
 refine ev_upto a.length (fun k fr τ=>fr.get 8=some (.int .i64 ((a.length:Int)-1-(k:Nat)))/\fr.get 0=some (.slice aa a.length ac)/\fr.get 1=some (.slice wa b.length wc)/\fr.get 6=some (.slice (some ⟨Z.n,0,none⟩) a.length a.length)/\Ext Z τ/\Z.n<τ.n /\
   ∃ vr r Q,fr.get 7=some vr/\DN τ vr r/\(∀ k,blkOf vr=some k->Z.n<k)/\Dig r/\Trm r/\valD r<B/\τ.orow Z.n=some (Q.map dgv)/\Q.length=a.length/\Dig Q/\valD (a.drop (a.length-k))=valD (Q.drop (a.length-k))*B+valD r)
  (fun r=>∃ fr τ vr l Q,r=⟨.exit 0,fr,τ⟩/\Ext Z τ/\Z.n<τ.n/\fr.get 6=some (.slice (some ⟨Z.n,0,none⟩) a.length a.length)/\fr.get 7=some vr/\DN τ vr l/\Dig l/\Trm l/\valD l<B/\τ.orow Z.n=some (Q.map dgv)/\Q.length=a.length/\Dig Q/\valD a=valD Q*B+valD l) ?_ ?_ ?_
 ·refine ⟨by rw [show ((a.length:Int)-1-((0:Nat):Int))=(a.length:Int)-1 by omega];exact (fR),fR,fR,fR,.new _ _,by simp,.slice none 0 0,[],List.replicate a.length 0,fR,.inl ⟨rfl,rfl⟩,fun k hk=>(by cases hk),.nil,.nil,h0,orow_new_same (Nat.le_refl _) (Nat.le_refl _),by simp,?_,?_⟩
  ·intro x hx
   obtain ⟨_,rfl⟩:=List.mem_replicate.1 hx
   omega
  ·rw [Nat.sub_zero,List.drop_length,List.drop_of_length_le (by simp)]
   simp [valD]
 ·rintro k fr τ hk ⟨g8,g0,g1,g6,hE,hn,vr,r,Q,g7,hr,hrb,dr,tr,hrB,hQ,hQl,dQ,hinv⟩
  by_cases hk2:k=a.length
  ·subst hk2
   have e1:((a.length:Int)-1-(a.length:Nat))= -1:=om
   rw [e1] at g8
   have d2:decide ((-1:Int)<0)=true:=rfl
   refine gU1 (aI @splice_succ (aI @bunAP (aI @g8 (aI @d2 (aI @Bool.not_true (aI @yu_t @yu_f)))))) ?_
   rw [Nat.sub_self,List.drop_zero,List.drop_zero] at hinv
   exact ⟨_,_,vr,r,Q,rfl,hE,hn,fR1 g6,fR1 g7,hr,dr,tr,hrB,hQ,hQl,dQ,hinv⟩
  ·obtain ⟨m,hm⟩:∃ m,a.length-1-k=m:=⟨_,rfl⟩
   have e1:((a.length:Int)-1-(k:Nat))=((m:Nat):Int):=om
   rw [e1] at g8
   rw [show a.length-k=m+1 by omega] at hinv
   obtain ⟨x,hx⟩:=at_some (l:=a) (k:=m) om
   have xl:=da.get hx
   obtain ⟨sp,rfl,h3,h4⟩:=a1 om
   have s1:=a2 m x hx
   have r1:τ.row ab=some acs:=by rw [hE.row h3];exact h4
   have c1:decide (((m:Nat):Int)<0)=false:=decide_eq_false om
   have l1:Nat.blt m a.length=true:=by rw [Nat.blt_eq];omega
   have lr:r.length<=b.length:=Trm.length_le db tr om
   obtain ⟨ra,rc,hrs⟩:=hr.shape
   refine gU1 (aI @splice_succ (aI @ap28 (aI @ap29 (aI @ap30 (aI @ap33 (aI @ap36 (aI @ap37 (aI @ap43 (aI @ap97 (aI @ap202 (aI @g8 (aI @g0 (aI @g1 (aI @g6 (aI @g7 (aI @c1 (aI @r1 (aI @s1 (aI @l1 @Bool.not_false))))))))))))))))))) ?_
   refine cat_ok hr om ?_
   rintro v2 τ2 hd2 hE2 hb2
   obtain ⟨w2,c2,hs2⟩:=hd2.shape
   subst hs2
   refine gU1 (aI @splice_succ (aI @bunAP (aI @g8 (aI @g0 (aI @g1 @g6))))) ?_
   refine (trim_ok hd2 (by rw [List.length_cons];omega)).mono ?_
   rintro z ⟨v3,l3,rfl,hd3,⟨kk,hkk⟩,ht3,hv3,hbk3⟩
   obtain ⟨w3,c3,hs3⟩:=hd3.shape
   subst hs3
   have dl3:Dig l3:=by rw [hkk];exact (dr.cons xl).take kk
   have ll3:l3.length<=r.length+1:=by rw [hkk,List.length_take,List.length_cons];omega
   obtain ⟨R,hR⟩:∃ R,valD l3=R:=⟨_,rfl⟩
   have hRv:R=x+65536*valD r:=by rw [<- hR,hv3,valD_cons]
   have hRB:R<65536*B:=om
   have hEZ2:=hE.trans hE2
   refine gU1 (aI @splice_succ (aI @bunAP (aI @g8 (aI @g0 (aI @g1 @g6))))) ?_
   refine (compare_ok hd3 (hb.mono hEZ2) dl3 db ht3 tb om om).mono ?_
   rintro z rfl
   rw [hR,hB]
   have hn2:Z.n<τ2.n:=Nat.lt_of_lt_of_le hn hE2.n
   have hQ2:τ2.orow Z.n=some (Q.map dgv):=by rw [orow_congr (hE2.same _ hn)];exact hQ
   have hb3:blkOf (.slice w3 l3.length c3)≠some Z.n:=fun e=>by
    have:=hb2 Z.n (by rw [<- hbk3];exact e)
    omega
   have hmQ:m<Q.length:=om
   cases hc:decide (R<B)
   all_goals
    refine gU1 (aI @splice_succ (aI @bunAP (aI @g8 (aI @g0 (aI @g1 (aI @g6 (aI @cmp_neg @hc))))))) ?_
    refine ev_loop (fun n fr τ'=>∃ lo hi,hi-lo<=n/\fr.get 9=some (.int .i64 ((lo:Nat):Int))/\fr.get 10=some (.int .i64 ((hi:Nat):Int))/\fr.get 8=some (.int .i64 ((m:Nat):Int))/\fr.get 0=some (.slice (some ⟨ab,ao,sp⟩) a.length ac)/\fr.get 1=some (.slice wa b.length wc)/\fr.get 6=some (.slice (some ⟨Z.n,0,none⟩) a.length a.length)/\fr.get 7=some (.slice w3 l3.length c3)/\Ext τ2 τ'/\lo<hi/\hi<=65536/\B*lo<=R/\R<B*hi)
     (fun r=>∃ fr τ' lo,r=⟨.exit 2,fr,τ'⟩/\fr.get 9=some (.int .i64 ((lo:Nat):Int))/\fr.get 8=some (.int .i64 ((m:Nat):Int))/\fr.get 0=some (.slice (some ⟨ab,ao,sp⟩) a.length ac)/\fr.get 1=some (.slice wa b.length wc)/\fr.get 6=some (.slice (some ⟨Z.n,0,none⟩) a.length a.length)/\fr.get 7=some (.slice w3 l3.length c3)/\Ext τ2 τ'/\lo<65536/\B*lo<=R/\R<B*(lo+1)) 65536 ?_ ?_ ?_
    ·have hc0:=hc
     simp only [decide_eq_true_eq,decide_eq_false_iff_not] at hc0
     first
     | exact ⟨0,65536,om,fR,fR,fR1 g8,fR1 g0,fR1 g1,fR1 g6,fR,.refl _,om,om,om,om⟩
     | exact ⟨0,1,om,fR,fR,fR1 g8,fR1 g0,fR1 g1,fR1 g6,fR,.refl _,om,om,om,om⟩
    ·rintro n fr τ' ⟨lo,hi,hnn,g9,g10,g8,g0,g1,g6,g7,hE3,h1,h2,h3,h4⟩
     by_cases hd:lo+1<hi
     ·have d1:decide ((1:Int)<((hi:Nat):Int)-((lo:Nat):Int))=true:=decide_eq_true om
      have f1:((lo:Nat):Int)+((hi:Nat):Int)=((lo+hi:Nat):Int):=om
      have f2:(((lo+hi:Nat):Nat):Int).tdiv 2=(((lo+hi) / 2:Nat):Int):=rfl
      obtain ⟨mid,hmid⟩:∃ mid,(lo+hi) / 2=mid:=⟨_,rfl⟩
      rw [hmid] at f2
      refine gU1 (aI @splice_succ (aI @bunAP (aI @g8 (aI @g0 (aI @g1 (aI @g6 (aI @g7 (aI @g9 (aI @g10 (aI @d1 (aI @f1 (aI @f2 (aI @yu_t @yu_f))))))))))))) ?_
      refine (by_ok (hb.mono (hEZ2.trans hE3)) db om om).mono ?_
      rintro z ⟨v4,l4,τ4,rfl,hE4,hd4,dl4,tl4,hv4,ll4⟩
      obtain ⟨w4,c4,hs4⟩:=hd4.shape
      subst hs4
      refine gU1 (aI @splice_succ (aI @bunAP (aI @g8 (aI @g0 (aI @g1 (aI @g6 (aI @g7 (aI @g9 @g10)))))))) ?_
      refine (compare_ok hd4 (hd3.mono (hE3.trans hE4)) dl4 dl3 tl4 ht3 om om).mono ?_
      rintro z rfl
      rw [hR,hv4,hB]
      cases hc2:decide (R<B*mid)
      ·refine gU1 (aI @splice_succ (aI @bunAP (aI @g8 (aI @g0 (aI @g1 (aI @g6 (aI @g7 (aI @g9 (aI @g10 (aI @cmp_pos (aI @hc2 @lp_normal))))))))))) ?_
       have:=of_decide_eq_false hc2
       exact ⟨hi-mid,om,mid,hi,om,fR,fR1 g10,fR1 g8,fR1 g0,fR1 g1,fR1 g6,fR1 g7,hE3.trans hE4,om,h2,om,h4⟩
      ·refine gU1 (aI @splice_succ (aI @bunAP (aI @g8 (aI @g0 (aI @g1 (aI @g6 (aI @g7 (aI @g9 (aI @g10 (aI @cmp_pos (aI @hc2 @lp_normal))))))))))) ?_
       have:=of_decide_eq_true hc2
       exact ⟨mid-lo,om,lo,mid,om,fR1 g9,fR,fR1 g8,fR1 g0,fR1 g1,fR1 g6,fR1 g7,hE3.trans hE4,om,om,h3,om⟩
     ·have d1:decide ((1:Int)<((hi:Nat):Int)-((lo:Nat):Int))=false:=decide_eq_false om
      obtain rfl:hi=lo+1:=om
      refine gU1 (aI @splice_succ (aI @bunAP (aI @g8 (aI @g0 (aI @g1 (aI @g6 (aI @g7 (aI @g9 (aI @g10 (aI @d1 @lp_exit)))))))))) ?_
      exact ⟨_,_,lo,rfl,fR1 g9,fR1 g8,fR1 g0,fR1 g1,fR1 g6,fR1 g7,hE3,om,h3,h4⟩
    rintro z ⟨fr',τ3,lo,rfl,g9,g8,g0,g1,g6,g7,hE3,hlo,h3,h4⟩
    have hEZ3:=hEZ2.trans hE3
    have hQ3:τ3.orow Z.n=some (Q.map dgv):=by rw [orow_congr (hE3.same _ hn2)];exact hQ2
    have l5:Nat.blt m a.length=true:=by rw [Nat.blt_eq];omega
    have f6:splice (Q.map dgv) m [.int .i64 ((lo:Nat):Int)]=some ((Q.set m lo).map dgv):=splice_set hmQ
    refine gU1 (aI @splice_succ (aI @bunAP (aI @g8 (aI @g0 (aI @g1 (aI @g6 (aI @g7 (aI @g9 (aI @l5 (aI @hQ3 @f6)))))))))) ?_
    have hE4':Ext Z (τ3.upd Z.n ((Q.set m lo).map dgv)):=hEZ3.upd (Nat.le_refl _) _
    refine (by_ok (hb.mono hE4') db hlo om).mono ?_
    rintro z ⟨v5,l5',τ5,rfl,hE5,hd5,dl5,tl5,hv5,ll5⟩
    obtain ⟨w5,c5,hs5⟩:=hd5.shape
    subst hs5
    rw [hB] at hv5
    have hd3':DN τ5 (.slice w3 l3.length c3) l3:=((hd3.mono hE3).upd hb3).mono hE5
    refine gU1 (aI @splice_succ (aI @bunAP (aI @g8 (aI @g0 (aI @g1 (aI @g6 (aI @g7 @g9))))))) ?_
    refine (minus_ok hd3' hd5 dl3 dl5 om om om (Trm.length_le dl3 tl5 om)).mono ?_
    rintro z ⟨v6,l6,τ6,rfl,hE6,hd6,dl6,tl6,hv6,ll6,hb6⟩
    obtain ⟨w6,c6,hs6⟩:=hd6.shape
    subst hs6
    refine gU1 (aI @splice_succ (aI @bunAP (aI @g8 (aI @g0 (aI @g1 (aI @g6 (aI @g7 @g9))))))) ?_
    have hn4:Z.n<(τ3.upd Z.n ((Q.set m lo).map dgv)).n:=by rw [upd_n];exact Nat.lt_of_lt_of_le hn2 hE3.n
    have hn5:Z.n<τ5.n:=Nat.lt_of_lt_of_le hn4 hE5.n
    have e2:((m:Nat):Int)-1=(a.length:Int)-1-((k+1:Nat):Int):=om
    have ek:a.length-(k+1)=m:=om
    have hx':=(List.getElem?_eq_some_iff.1 hx).2
    have hv6':valD l6=R-B*lo:=by rw [hv6,hR,hv5]
    have hlt6:valD l6<B:=by
     rw [Nat.mul_add,Nat.mul_one] at h4
     omega
    refine ⟨om,by rw [<- e2];exact (fR),fR1 g0,fR1 g1,fR1 g6,(hE4'.trans hE5).trans hE6,Nat.lt_of_lt_of_le hn5 hE6.n,.slice w6 l6.length c6,l6,Q.set m lo,fR,hd6,fun q hq=>(by have:=hb6 q hq;omega),dl6,tl6,hlt6,?_,by rw [List.length_set];exact hQl,?_,?_⟩
    ·rw [orow_congr (hE6.same _ hn5),orow_congr (hE5.same _ hn4)]
     exact orow_upd_same
    ·intro y hy
     rcases List.mem_or_eq_of_mem_set hy with hy|rfl
     ·exact dQ y hy
     ·exact hlo
    ·rw [ek,List.drop_eq_getElem_cons (show m<a.length by omega),hx',set_drop hmQ,valD_cons,valD_cons,hinv]
     exact over_step hRv (by rw [Nat.mul_comm];exact h3) hv6'
 ·rintro z ⟨fr,τ,vr,l,Q,rfl,hE,hn,g6,g7,hl,dl,tl,hlB,hQ,hQl,dQ,hval⟩
  have hD:=DN.of_row (l:=Q) hn (row_of hQ)
  rw [hQl] at hD
  obtain ⟨wl,cl,hsl⟩:=hl.shape
  subst hsl
  refine gU1 (aI @splice_succ (aI @bunAP (aI @g6 @g7))) ?_
  refine (trim_ok hD om).mono ?_
  rintro z ⟨v7,l7,rfl,hd7,⟨kk,hkk⟩,ht7,hv7,-⟩
  obtain ⟨w7,c7,hs7⟩:=hd7.shape
  subst hs7
  refine gU1 (aI @splice_succ (aI @bunAP (aI @g6 (aI @g7 @Tryz.results141)))) ?_
  obtain ⟨u1,u2⟩:=over_unique hlB hval
  exact ⟨_,_,l7,l,_,rfl,hE,hd7,hl,by rw [hkk];exact dQ.take kk,dl,ht7,tl,by rw [hv7,hB];exact u1,by rw [hB];exact u2,by rw [hkk,List.length_take];omega,Trm.length_le db tl om⟩
end Go.Proofs.T
