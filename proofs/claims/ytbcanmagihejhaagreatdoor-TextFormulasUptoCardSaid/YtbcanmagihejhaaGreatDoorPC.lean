/- Every right number is read as it is printed. -/
import Derived.Test.YtbcanmagihejhaaGreatDoorPB
import Derived.Test.YtbcanmagihejhaaGreatDoorSA
import Derived.Test.YtbcanmagihejhaaGreatDoorRD
import Derived.Test.YtbcanmagihejhaaGreatDoorBA
import Derived.Test.YtbcanmagihejhaaGreatDoorRB
set_option linter.unusedSimpArgs false
set_option linter.unusedVariables false
namespace Go.Proofs.T
open Go Go.Ab
set_option maxRecDepth 100000
theorem idxL_cons (c x:UInt8) (s:By):idxL c (x::s)=bi (x==c) 0 (bi (ilt (idxL c s) 0) (-1) (idxL c s+1)):=by rw [<- beq_u8];rfl
theorem idxL_none {c:UInt8}:∀ {s:By},(∀ x∈s,x≠c)->idxL c s= -1
 | [],_=>rfl
 | x::s,h=>by
   have hx:(x==c)=false:=by rw [beq_eq_false_iff_ne];exact h x (List.mem_cons_self ..)
   rw [idxL_cons,hx,idxL_none fun y hy=>h y (List.mem_cons_of_mem _ hy)]
   rfl
theorem idxL_at {c:UInt8}:∀ {s t:By},(∀ x∈s,x≠c)->idxL c (s++c::t)=(s.length:Nat)
 | [],t,_=>by
   rw [List.nil_append,idxL_cons,beq_self_eq_true];rfl
 | x::s,t,h=>by
   have hx:(x==c)=false:=by rw [beq_eq_false_iff_ne];exact h x (List.mem_cons_self ..)
   rw [List.cons_append,idxL_cons,hx,idxL_at fun y hy=>h y (List.mem_cons_of_mem _ hy)]
   have e:ilt ((s.length:Nat):Int) 0=false:=rfl
   rw [e,List.length_cons]
   rfl
theorem cutS_none {s:By}(h:∀ x∈s,x≠46):cutS s=(s,[]):=by
 unfold cutS
 rw [idxL_none h];rfl
theorem cutS_at {s t:By}(h:∀ x∈s,x≠46):cutS (s++46::t)=(s,t):=by
 unfold cutS
 rw [idxL_at h,if_neg (by rw [decide_eq_true_eq];omega)]
 rw [show ((s.length:Nat):Int).toNat=s.length from rfl]
 simp
theorem digs_ne {s:By}(h:s.all (on digB)=true):∀ x∈s,x≠46:=fun x hx e=>by
 have:=List.all_eq_true.1 h x hx
 rw [e] at this
 exact absurd this (by decide)
theorem decN_app {n:Nat}{a b:By}:decN n (a++b)=decN (decN n a) b:=by unfold decN;rw [List.foldl_append]
theorem decN_one {n c:Nat}:decN n [dgt c]=10*n+c % 10:=by
 show 10*n+((dgt c).toNat+208) % 256=_
 rw [dgt_nat]
 omega
theorem decN_pad:∀ (k n f:Nat),f<10 ^ k->decN n (padT k f)=n*10 ^ k+f
 | 0,n,f,h=>by
   have h1:(10:Nat) ^ 0=1:=rfl
   show n=n*10 ^ 0+f
   omega
 | k+1,n,f,h=>by
   have h1:10 ^ (k+1)=10 ^ k*10:=Nat.pow_succ ..
   show decN n (padT k (f / 10)++[dgt f])=_
   rw [decN_app,decN_pad k n (f / 10) om,decN_one,h1,<- Nat.mul_assoc]
   omega
theorem decN_zeros {n:Nat}:∀ z,decN n (List.replicate z 48)=n*10 ^ z
 | 0=>by simp [decN]
 | z+1=>by
   rw [List.replicate_succ']
   rw [decN_app,decN_zeros z,Nat.pow_succ,<- Nat.mul_assoc]
   show 10*(n*10 ^ z)+(48+208) % 256=_
   omega
theorem trimR_app:∀ s:By,∃ z,s=trimR s++List.replicate z 48/\(trimR s).getLast? ≠some 48
 | []=>⟨0,rfl,by simp [trimR]⟩
 | c::s=>by
   obtain ⟨z,h1,h2⟩:=trimR_app s
   have e:trimR (c::s)=if c=48/\trimR s=[] then [] else c::trimR s:=rfl
   rw [e]
   by_cases h:c=48/\trimR s=[]
   ·rw [if_pos h]
    refine ⟨z+1,?_,by simp⟩
    rw [h.2,List.nil_append] at h1
    rw [h.1,List.nil_append,List.replicate_succ,<- h1]
   ·rw [if_neg h]
    refine ⟨z,by rw [List.cons_append,<- h1],?_⟩
    cases ht:trimR s with
    | nil =>
      intro e
      rw [List.getLast?_singleton] at e
      exact h ⟨by cases e;rfl,ht⟩
    | cons x w =>
      rw [List.getLast?_cons_cons,<- ht];exact h2
theorem suf_last {s:By}(h:s.getLast? ≠some 48):sufB s=false:=by
 unfold sufB
 refine decide_eq_false fun e=>h ?_
 cases s with
 | nil=>simp at e
 | cons c w =>
   rw [List.getLast?_eq_getElem?]
   have e2:=congrArg (fun z=>z[0]?) e
   rw [List.getElem?_drop] at e2
   simpa using e2
theorem pad_len:∀ (k f:Nat),(padT k f).length=k
 | 0,_=>rfl
 | k+1,f=>by show (padT k (f / 10)++[dgt f]).length=_;rw [List.length_append,pad_len k];rfl
theorem pad_dig:∀ (k f:Nat),(padT k f).all (on digB)=true
 | 0,_=>rfl
 | k+1,f=>by show (padT k (f / 10)++[dgt f]).all _=_;rw [List.all_append,pad_dig k,List.all_cons,dgt_dig];rfl
theorem low_again {M P n d:Nat}(h:M*d=n*P) (hg:Nat.gcd n d=1) (hn:0<n) (hP:0<P):M / Nat.gcd M P=n/\P / Nat.gcd M P=d:=by
 have h1:n∣M:=by
  refine Nat.Coprime.dvd_of_dvd_mul_right (k:=n) (n:=d) hg ⟨P,h⟩
 obtain ⟨c,rfl⟩:=h1
 have h2:P=c*d:=by
  rw [Nat.mul_assoc] at h
  exact (Nat.eq_of_mul_eq_mul_left hn h).symm
 have hc:0<c:=by
  rcases Nat.eq_zero_or_pos c with e|e
  ·rw [e,Nat.zero_mul] at h2;omega
  ·exact e
 have hgc:Nat.gcd (n*c) P=c:=by
  rw [h2,Nat.mul_comm n c,Nat.gcd_mul_left,hg,Nat.mul_one]
 rw [hgc]
 exact ⟨Nat.mul_div_cancel _ hc,by rw [h2,Nat.mul_comm];exact Nat.mul_div_cancel _ hc⟩
theorem numOk_nat {n d:Nat}(hg:Nat.gcd n d=1) (hd:0<d) (h6:1000000 % d=0) (hn:n<=1000000000*d):NumOk (n:Nat) (d:Nat):=by
 have hdl:d<=1000000:=Nat.le_of_dvd om (Nat.dvd_of_mod_eq_zero h6)
 have hrq:RQ (n:Nat) (d:Nat):=⟨om,om,om,om,hg⟩
 have hm:1000000 / d*d=1000000:=by
  have:=Nat.div_add_mod 1000000 d
  rw [h6,Nat.add_zero,Nat.mul_comm] at this
  exact this
 have h6i:(1000000:Int) % (d:Nat)=0:=by
  have:((1000000 % d:Nat):Int)=0:=by rw [h6];rfl
  exact this
 obtain ⟨Q,hQ⟩:∃ Q,1000000 / d=Q:=⟨_,rfl⟩
 rw [hQ] at hm
 have hQ0:0<Q:=by
  rcases Nat.eq_zero_or_pos Q with h|h
  ·rw [h,Nat.zero_mul] at hm;omega
  ·exact h
 obtain ⟨k,hk⟩:∃ k,n / d=k:=⟨_,rfl⟩
 obtain ⟨r,hr⟩:∃ r,n % d=r:=⟨_,rfl⟩
 have hdm:n=d*k+r:=by rw [<- hk,<- hr];exact (Nat.div_add_mod ..).symm
 have hrd:r<d:=by rw [<- hr];exact Nat.mod_lt _ hd
 obtain ⟨F,hF⟩:∃ F,r*Q=F:=⟨_,rfl⟩
 have hnQ:n*Q=k*1000000+F:=by
  rw [hdm,Nat.add_mul,hF,<- hm,Nat.mul_comm d k,Nat.mul_assoc,Nat.mul_comm d Q]
 have hFl:F<1000000:=by
  rw [<- hF,<- hm,Nat.mul_comm r Q]
  exact (Nat.mul_lt_mul_left hQ0).2 hrd
 have hde:=de_trim (n:=n) hd h6
 rw [hQ,hk,hr,hF] at hde
 obtain ⟨a1,a2⟩:=dcN_num k
 obtain ⟨b1,-,c,w,b3,-⟩:=dcN_spec (k+1) k (Nat.lt_succ_self _)
 have bne:=digs_ne b1
 by_cases h0:F=0
 ·have hr0:r=0:=by
   rw [h0] at hF
   rcases Nat.mul_eq_zero.1 hF with h|h <;> omega
  have hd1:d=1:=by
   have:Nat.gcd n d=d:=by rw [hdm,hr0,Nat.add_zero];exact Nat.gcd_eq_right ⟨k,rfl⟩
   omega
  rw [if_pos h0,List.append_nil] at hde
  have hkn:k=n:=by rw [hr0,hd1] at hdm;omega
  refine ⟨hrq,om,h6i,.inl ⟨c,w,by rw [hde];exact b3,by rw [<- b3];exact b1⟩,fun toks i p hs=>decS_of ?_ toks i p hs⟩
  rw [hde]
  unfold decV
  rw [cutS_none bne,a1,a2]
  have e1:sufB []=false:=rfl
  rw [if_pos (by rw [e1];rfl),if_pos (by rw [decide_eq_true om];simp)]
  have e2:decN k []=k:=rfl
  rw [List.length_nil,Nat.pow_zero,e2,Nat.gcd_one_right,Nat.div_one,hkn,hd1]
 ·rw [if_neg h0] at hde
  have hpd:(dcN (1000000+F)).drop 1=padT 6 F:=by
   rw [show (1000000:Nat)=10 ^ 6 from rfl,dcN_pad 6 F hFl];rfl
  rw [hpd] at hde
  obtain ⟨z,t1,t2⟩:=trimR_app (padT 6 F)
  obtain ⟨t,ht⟩:∃ t,trimR (padT 6 F)=t:=⟨_,rfl⟩
  rw [ht] at t1 t2 hde
  have tl:t.length+z=6:=by
   have:=congrArg List.length t1
   rw [pad_len,List.length_append,List.length_replicate] at this
   omega
  have td:t.all (on digB)=true:=by
   have:=pad_dig 6 F
   rw [t1,List.all_append,Bool.and_eq_true] at this
   exact this.1
  have tv:decN k t*10 ^ z=n*Q:=by
   have:=decN_pad 6 k F hFl
   rw [t1,decN_app,decN_zeros] at this
   rw [this,hnQ]
  have tne:t≠[]:=by
   intro e
   have:=decN_pad 6 0 F hFl
   rw [t1,e,List.nil_append,decN_zeros] at this
   omega
  have hk9:k<1000000000:=by
   have hr0:0<r:=by
    rcases Nat.eq_zero_or_pos r with h|h
    ·rw [h,Nat.zero_mul] at hF;omega
    ·exact h
   have h9:d*k<d*1000000000:=om
   exact Nat.lt_of_mul_lt_mul_left h9
  have hn0:0<n:=by
   rcases Nat.eq_zero_or_pos n with h|h
   ·rw [h,Nat.zero_mul] at hnQ;omega
   ·exact h
  have hMP:decN k t*d=n*10 ^ t.length:=by
   have hz:0<10 ^ z:=Nat.pow_pos om
   refine Nat.eq_of_mul_eq_mul_right hz ?_
   rw [Nat.mul_assoc n,<- Nat.pow_add,tl,Nat.mul_assoc,Nat.mul_comm d,<- Nat.mul_assoc,tv,Nat.mul_assoc,hm]
  obtain ⟨l1,l2⟩:=low_again hMP hg hn0 (Nat.pow_pos om)
  obtain ⟨x,v,hxv⟩:∃ x v,t=x::v:=by
   cases t with
   | nil=>exact absurd rfl tne
   | cons x v=>exact ⟨x,v,rfl⟩
  refine ⟨hrq,om,h6i,.inr ⟨c,w,x,v,by rw [hde,b3,hxv],by rw [<- b3];exact b1,by rw [<- hxv];exact td⟩,fun toks i p hs=>decS_of ?_ toks i p hs⟩
  rw [hde]
  unfold decV
  rw [cutS_at bne]
  dsimp only
  rw [a1,a2,suf_last t2,if_pos (show (true&& !false)=true from rfl),if_pos (by rw [decide_eq_true om,decide_eq_true om,decide_eq_true hk9];rfl),l1,l2]
theorem numOk_of {n d:Int}(hg:Int.gcd n d=1) (hd:1<=d) (h0:0<=n) (h6:(1000000:Int) % d=0) (hn:n<=1000000000*d):NumOk n d:=by
 obtain ⟨N,rfl⟩:=Int.eq_ofNat_of_zero_le h0
 obtain ⟨D,rfl⟩:=Int.eq_ofNat_of_zero_le (show 0<=d by omega)
 refine numOk_nat hg om ?_ om
 have h6n:((1000000 % D:Nat):Int)=0:=h6
 exact Int.ofNat.inj h6n
end Go.Proofs.T
namespace Go.Proofs.T
open Go Go.Ab
set_option maxRecDepth 100000
end Go.Proofs.T
namespace Go.Proofs.T
open Go Go.Ab
set_option maxRecDepth 100000
structure MdS (Z:St) (q p:Nat) (v:Value) (l:List Int) (cs:List Value) (fr:Fr) (τ:St):Prop where
 g2:fr.get 2=some (.pointer (some ⟨Z.n,0,none⟩))
 g3:fr.get 3=some (.pointer (some ⟨q,0,none⟩))
 g4:fr.get 4=some (.pointer (some ⟨p,0,none⟩))
 E:Ext Z τ
 Q:GQ q v l τ
 r:τ.orow p=some cs
 lt:p<τ.n
theorem ExtM.updF {q p b:Nat}{Z Z':St}{cs:List Value}(h:ExtM q p Z Z') (hb:Z.n<=b):ExtM q p Z (Z'.upd b cs):=⟨h.n,fun c hc h1 h2=>by rw [upd_get,if_neg om,h.same c hc h1 h2]⟩
end Go.Proofs.T
namespace Go.Proofs.T
open Go Go.Ab
set_option maxRecDepth 100000
mutual
/-- The number of parts. -/
def partsE:Ex->Nat
 | .mk _ _ _ _ args=>1+partsL args
def partsL:List Ex->Nat
 | []=>0
 | e::es=>partsE e+partsL es
end
mutual
/-- Formulas of any kind, in bounds; a part has at most w arguments. -/
def WfE (w:Nat):Ex->Prop
 | .mk op n d nm args=>op.length<=4/\nm.length<=31/\(-1<=n/\n<=1000000000000001)/\(0<=d/\d<=1000000)/\args.length<=w/\WfL w args
def WfL (w:Nat):List Ex->Prop
 | []=>True
 | e::es=>WfE w e/\WfL w es
end
theorem partsE_mk {op nm:By}{n d:Int}{args:List Ex}:partsE (.mk op n d nm args)=1+partsL args:=by unfold partsE;rfl
theorem partsL_cons {e:Ex}{es:List Ex}:partsL (e::es)=partsE e+partsL es:=by rw [partsL]
theorem partsL_nil:partsL []=0:=by unfold partsL;rfl
theorem WfE_mk {w:Nat}{op nm:By}{n d:Int}{args:List Ex}:WfE w (.mk op n d nm args)↔(op.length<=4/\nm.length<=31/\(-1<=n/\n<=1000000000000001)/\(0<=d/\d<=1000000)/\args.length<=w/\WfL w args):=by unfold WfE;exact Iff.rfl
theorem WfL_nil {w:Nat}:WfL w []:=by unfold WfL;trivial
theorem WfL_cons {w:Nat}{e:Ex}{es:List Ex}:WfL w (e::es)↔(WfE w e/\WfL w es):=by rw [WfL]
mutual
theorem WfE.mono {w v:Nat}(h:w<=v):∀ {e:Ex},WfE w e->WfE v e
 | .mk op n d nm args,k=>by
   obtain ⟨k1,k2,k3,k4,k5,k6⟩:=WfE_mk.1 k
   exact WfE_mk.2 ⟨k1,k2,k3,k4,om,WfL.mono h k6⟩
theorem WfL.mono {w v:Nat}(h:w<=v):∀ {es:List Ex},WfL w es->WfL v es
 | [],_=>WfL_nil
 | e::es,k=>WfL_cons.2 ⟨WfE.mono h (WfL_cons.1 k).1,WfL.mono h (WfL_cons.1 k).2⟩
end
def znE:List Value:=[str [],.int .i64 0,.int .i64 0,str [],.slice none 0 0]
structure BfS (Z0:St) (H:List Nat) (p q t:Nat) (q0 q1 q2:Int) (fr:Fr) (τ:St) (row:List Value) (e:Ex):Prop where
 g2:fr.get 2=some (.pointer (some ⟨p,0,none⟩))
 g3:fr.get 3=some (.pointer (some ⟨q,0,none⟩))
 g4:fr.get 4=some (.pointer (some ⟨t,0,none⟩))
 E:Ext Z0 τ
 p0:Z0.n<=p
 q0':Z0.n<=q
 t0:Z0.n<=t
 pq:p≠q
 pt:p≠t
 qt:q≠t
 pl:p<τ.n
 ql:q<τ.n
 tl:t<τ.n
 op:τ.orow p=some row
 oq:τ.orow q=some [.int .i64 q0,.int .i64 q1,.int .i64 q2]
 ot:τ.orow t=some znE
 x:ExX (hide τ (p::t::H)) row e
theorem ExsX.app {Z:St}{r:List Value}{e:Ex}(hx:ExX Z r e):∀ {rows:List (List Value)}{es:List Ex},ExsX Z rows es->ExsX Z (rows++[r]) (es++[e])
 | _,[],h=>by rw [show _=_ from h];exact ⟨r,[],rfl,hx,rfl⟩
 | _,e'::es,h=>by
   obtain ⟨r',rs,rfl,h2,h3⟩:=h
   exact ⟨r',rs++[r],rfl,h2,ExsX.app hx h3⟩
end Go.Proofs.T
namespace Go.Proofs.T
open Go Go.Ab
set_option maxRecDepth 100000
def fitsP (op:By) (n d:Int) (nm:By) (len:Nat):Bool :=
 if op=numB3 then rightQ n d&&decide (0<=n)&&decide ((1000000:Int) % d=0)&&decide (n<=1000000000*d)&&decide (nm=[])&&decide (len=0)
 else if op=nmB then nameB nm&& !decide (nm=minB)&& !decide (nm=maxB)&&(decide (n=0)&&decide (d=0))&&decide (len=0)
 else if op=[43]\/op=[45]\/op=[42]\/op=[47]\/op=minB\/op=maxB then (decide (n=0)&&decide (d=0))&&decide (nm=[])&&decide (len=2)
 else false
mutual
def soundE:Ex->Bool
 | .mk op n d nm args=>fitsP op n d nm args.length&&soundL args
def soundL:List Ex->Bool
 | []=>true
 | e::es=>soundE e&&soundL es
end
mutual
def depthE:Ex->Nat
 | .mk _ _ _ _ args=>1+depthL args
def depthL:List Ex->Nat
 | []=>0
 | e::es=>max (depthE e) (depthL es)
end
theorem soundE_mk {op nm:By}{n d:Int}{args:List Ex}:soundE (.mk op n d nm args)=(fitsP op n d nm args.length&&soundL args):=by unfold soundE;rfl
theorem soundL_nil:soundL []=true:=by unfold soundL;rfl
theorem soundL_cons {e:Ex}{es:List Ex}:soundL (e::es)=(soundE e&&soundL es):=by rw [soundL]
theorem depthE_mk {op nm:By}{n d:Int}{args:List Ex}:depthE (.mk op n d nm args)=1+depthL args:=by unfold depthE;rfl
theorem depthL_nil:depthL []=0:=by unfold depthL;rfl
theorem depthL_cons {e:Ex}{es:List Ex}:depthL (e::es)=max (depthE e) (depthL es):=by rw [depthL]
theorem sound_fw:∀ (s:Nat) (e:Ex),SizeOf.sizeOf e<s->soundE e=true->FW (depthE e) (partsE e) e:=by
 intro s
 induction s with
 | zero=>intro e h;omega
 | succ s ih =>
   intro e hs h
   obtain ⟨op,n,d,nm,args⟩:=e
   rw [soundE_mk,Bool.and_eq_true] at h
   obtain ⟨h1,h2⟩:=h
   rw [depthE_mk,partsE_mk]
   unfold fitsP at h1
   by_cases c1:op=numB3
   ·rw [if_pos c1] at h1
    unfold rightQ at h1
    simp only [Bool.and_eq_true,decide_eq_true_eq] at h1
    obtain ⟨⟨⟨⟨⟨⟨k1,k2⟩,k3⟩,k4⟩,k5⟩,k6⟩,k7⟩:=h1
    obtain rfl:args=[]:=List.eq_nil_of_length_eq_zero k7
    rw [c1,k6,depthL_nil,partsL_nil]
    exact .num (numOk_of k2 k1 k3 k4 k5)
   ·rw [if_neg c1] at h1
    by_cases c2:op=nmB
    ·rw [if_pos c2] at h1
     simp only [Bool.and_eq_true,decide_eq_true_eq,Bool.not_eq_true',decide_eq_false_iff_not] at h1
     obtain ⟨⟨⟨⟨k1,k2⟩,k3⟩,k4,k5⟩,k6⟩:=h1
     obtain rfl:args=[]:=List.eq_nil_of_length_eq_zero k6
     rw [c2,k4,k5,depthL_nil,partsL_nil]
     exact .name k1 k2 k3
    ·rw [if_neg c2] at h1
     split at h1
     ·rename_i c3
      simp only [Bool.and_eq_true,decide_eq_true_eq] at h1
      obtain ⟨⟨⟨k1,k2⟩,k3⟩,k4⟩:=h1
      obtain ⟨a,b,rfl⟩:∃ a b,args=[a,b]:=by
       match args,k4 with
       | [a,b],_=>exact ⟨a,b,rfl⟩
      rw [soundL_cons,soundL_cons,soundL_nil,Bool.and_true,Bool.and_eq_true] at h2
      have sa:SizeOf.sizeOf a<s:=by simp at hs;omega
      have sb:SizeOf.sizeOf b<s:=by simp at hs;omega
      have fa:=ih a sa h2.1
      have fb:=ih b sb h2.2
      rw [k1,k2,k3,depthL_cons,depthL_cons,depthL_nil,partsL_cons,partsL_cons,partsL_nil]
      have e1:1+max (depthE a) (max (depthE b) 0)=1+max (depthE a) (depthE b):=om
      have e2:1+(partsE a+(partsE b+0))=partsE a+partsE b+1:=om
      rw [e1,e2]
      rcases c3 with c|c|c|c|c|c
      ·exact .bin (.inl c) fa fb
      ·exact .bin (.inr (.inl c)) fa fb
      ·exact .bin (.inr (.inr (.inl c))) fa fb
      ·exact .bin (.inr (.inr (.inr c))) fa fb
      ·exact .mm (.inl c) fa fb
      ·exact .mm (.inr c) fa fb
     ·cases h1
def rightE (e:Ex):Bool:=soundE e&&decide (partsE e<=60)&&decide (depthE e<=12)
theorem fw_sound {k m:Nat}{e:Ex}(h:FW k m e):soundE e=true/\depthE e=k/\partsE e=m:=by
 induction h with
 | @num n d h =>
   rw [soundE_mk,depthE_mk,partsE_mk,soundL_nil,depthL_nil,partsL_nil]
   refine ⟨?_,rfl,rfl⟩
   unfold fitsP rightQ
   rw [if_pos rfl,decide_eq_true h.rq.d1,decide_eq_true h.rq.low,decide_eq_true h.n0,decide_eq_true h.d6,decide_eq_true h.rq.n2]
   rfl
 | @name nm h1 h2 h3 =>
   rw [soundE_mk,depthE_mk,partsE_mk,soundL_nil,depthL_nil,partsL_nil]
   refine ⟨?_,rfl,rfl⟩
   unfold fitsP
   rw [if_neg (by decide),if_pos rfl,h1,decide_eq_false h2,decide_eq_false h3]
   rfl
 | @bin k j m i o a b h ha hb iha ihb =>
   rw [soundE_mk,depthE_mk,partsE_mk,soundL_cons,soundL_cons,soundL_nil,depthL_cons,depthL_cons,depthL_nil,partsL_cons,partsL_cons,partsL_nil,iha.1,ihb.1,iha.2.1,iha.2.2,ihb.2.1,ihb.2.2]
   refine ⟨?_,om,om⟩
   unfold fitsP
   rw [if_neg (by rcases h with rfl|rfl|rfl|rfl <;> decide),if_neg (by rcases h with rfl|rfl|rfl|rfl <;> decide),if_pos (by rcases h with h|h|h|h <;> simp [h])]
   rfl
 | @mm k j m i o a b h ha hb iha ihb =>
   rw [soundE_mk,depthE_mk,partsE_mk,soundL_cons,soundL_cons,soundL_nil,depthL_cons,depthL_cons,depthL_nil,partsL_cons,partsL_cons,partsL_nil,iha.1,ihb.1,iha.2.1,iha.2.2,ihb.2.1,ihb.2.2]
   refine ⟨?_,om,om⟩
   unfold fitsP
   rw [if_neg (by rcases h with rfl|rfl <;> decide),if_neg (by rcases h with rfl|rfl <;> decide),if_pos (by rcases h with h|h <;> simp [h])]
   rfl
end Go.Proofs.T
