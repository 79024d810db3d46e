/- The G6 numbers: plus. -/
import Derived.Test.YtgjocfjdecjhoaaGreatDoorRA
set_option linter.unusedSimpArgs false
set_option linter.unusedVariables false
set_option linter.defProp false
set_option maxHeartbeats 32000000
set_option maxRecDepth 100000
namespace Go.Proofs.T
open Go Go.Ab
theorem HA {l:List Nat}{k:Nat}(h:¬ k<l.length):l.getD k 0=0:=by simp[List.getD,List.getElem?_eq_none (Nat.not_lt.1 h)]
theorem Sg {l:List Nat}{k:Nat}:D8 (l.take (k+1))=D8 (l.take k)+65536 ^ k*l.getD k 0:=by
 by_cases h:k<l.length
 ·obtain⟨d,hd⟩:=H5 h;rw[DE hd,getD_at hd]
 ·rw[List.take_of_length_le om,List.take_of_length_le om,HA h];omega
theorem uE {O A B P c D x y:Nat}(h:O+c*P=A+B) (hD:c+x+y=D):O+P*(D % 65536)+D / 65536*(P*65536)=A+P*x+(B+P*y):=by
 have e:D=D % 65536+65536*(D / 65536):=om;have e2:P*D=P*(D % 65536)+P*(65536*(D / 65536)):=by rw[<- Nat.mul_add,<- e]
 have e3:P*D=P*c+P*x+P*y:=by rw[<- hD,Nat.mul_add,Nat.mul_add]
 have e4:D / 65536*(P*65536)=P*(65536*(D / 65536)):=by rw[Nat.mul_comm,Nat.mul_assoc]
 rw[e4,<- Nat.add_assoc (A+P*x)];rw[Nat.mul_comm c P]at h;omega
theorem sw {Z:St}{v w:Value}{a b:List Nat}(ha:DN Z v a) (hb:DN Z w b) (da:Dig a) (db:Dig b) (la:a.length<=100) (lb:b.length<=100) :
  Ev (go Tryz.prog HS (.fn 209) [v,w] Z) (fun r=>∃ v' l Z',r=⟨false,v',Z'⟩/\Ext Z Z'/\DN Z' v' l/\Dig l/\D8 l=D8 a+D8 b/\l.length<=a.length+b.length+1) ⟨⟩:=by
 have dla:∀ k,a.getD k 0<65536:=IB da;have dlb:∀ k,b.getD k 0<65536:=IB db;obtain⟨va,vc,vb,vo,vcs,rfl,h1,h2⟩:=ha.use;obtain⟨wa,wc,wb,wo,wcs,rfl,k1,k2⟩:=hb.use;obtain⟨N,hN⟩:∃ N,max a.length b.length=N:=⟨_,rfl⟩
 refine C9 Tryz.func209 rfl rfl ?_;refine gU1 (a15N @A6 @W4 @Y0 @W8 @U5 @W5 @U6 @U7 @U8 @K3 @H9 @J3 @I5 @I6 @I0) ?_
 refine KK (N+1) (fun k fr τ=>fr.get 0=some (.slice va a.length vc)/\fr.get 1=some (.slice wa b.length wc)/\fr.get 7=some (.int .i64 (k:Nat))/\Ext Z τ/\∃ c v o,fr.get 6=some (.int .i64 ((c:Nat):Int))/\fr.get 5=some v/\OL Z.n τ 1 v (o.map fun d=>[dgv d])/\c<=1/\(k=N+1->c=0)/\o.length=k/\Dig o/\D8 o+c*65536 ^ k=D8 (a.take k)+D8 (b.take k))
  (fun r=>∃ fr τ v o,r=⟨.exit 0,fr,τ⟩/\Ext Z τ/\fr.get 5=some v/\OL Z.n τ 1 v (o.map fun d=>[dgv d])/\o.length<=N+1/\Dig o/\D8 o=D8 a+D8 b) ?_ ?_ ?_
 ·exact⟨fR,fR,fR,.refl _,0,_,[],fR,fR,OL.nil,om,fun _=>rfl,rfl,Dig.nil,by simp[D8]⟩
 ·rintro k fr τ hk ⟨g0,g1,g7,hE,c,v,o,g6,g5,ho,hc1,hcN,hol,hod,hv⟩;have hn:=hE.n;obtain⟨x,hx⟩:∃ x,a.getD k 0=x:=⟨_,rfl⟩
  obtain⟨y,hy⟩:∃ y,b.getD k 0=y:=⟨_,rfl⟩
  have xl:=dla k;have yl:=dlb k;rw[hx]at xl;rw[hy]at yl;have hwk:((k:Nat):Int)+1=((k+1:Nat):Int):=om;by_cases hgo:k<a.length\/k<b.length\/0<c
  ·have hkN:k<=N:=by
    rcases Nat.lt_or_ge N k with h|h
    ·have:=hcN om;omega
    ·exact h
   obtain⟨D,hD⟩:∃ D,c+x+y=D:=⟨_,rfl⟩
   have f1:(D:Int).tmod 65536=((D % 65536:Nat):Int):=rfl;have f2:IntKind.i64.wrap ((D:Int).tdiv 65536)=((D / 65536:Nat):Int):=by rw[show(D:Int).tdiv 65536=((D / 65536:Nat):Int)from rfl];exact wrap64_in om om
   have hv':D8 (o++[D % 65536])+D / 65536*65536 ^ (k+1)=D8 (a.take (k+1))+D8 (b.take (k+1)):=by
    rw[GZ,hol,Sg,Sg,hx,hy,Nat.pow_succ];exact uE hv hD
   have Lo:k+1=N+1->D / 65536=0:=fun h=>by
    have:x=0:=by rw[<- hx];exact HA om
    have:y=0:=by rw[<- hy];exact HA om
    omega
   have ho':OL Z.n (τ.new [Value.int .i64 ((D % 65536:Nat):Int)]) 1 v (o.map fun d=>[dgv d]):=OL.ext ho (.new _ _);have q2:0<c->decide ((0:Int)<((c:Nat):Int))=true:=fun h=>by rw[decide_eq_true_iff];omega
   by_cases hka:k<a.length
   ·by_cases hkb:k<b.length
    ·have ca:decide (k<a.length)=true:=by simpa using hka
     obtain⟨x',hx'⟩:=H5 hka;obtain rfl:x'=x:=by rw[<- hx,getD_at hx']
     obtain⟨sp,rfl,l3,l4⟩:=h1 om;have l5:τ.row vb=some vcs:=by rw[hE.row l3];exact l4
     have l7:=h2 k _ hx';have l1:Nat.blt k a.length=true:=by rw[Nat.blt_eq];omega
     have cb:decide (k<b.length)=true:=by simpa using hkb
     obtain⟨y',hy'⟩:=H5 hkb;obtain rfl:y'=y:=by rw[<- hy,getD_at hy']
     obtain⟨sp',rfl,l3',l4'⟩:=k1 om;have l5':τ.row wb=some wcs:=by rw[hE.row l3'];exact l4'
     have l7':=k2 k _ hy';have l2:Nat.blt k b.length=true:=by rw[Nat.blt_eq];omega
     have hs1:((c:Nat):Int)+((x':Nat):Int)=((c+x':Nat):Int):=om;have hs2:((c+x':Nat):Int)+((y':Nat):Int)=(D:Int):=om;refine gU1 (a34N @A6 @W4 @Y0 @W8 @U5 @W5 @U6 @U7 @U8 @K3 @H9 @J3 @I5 @I6 @I0 @g5 @g6 @g7 @g0 @g1 @ca @cb @D9 @F4 @l5 @l7 @l1 @l5' @l7' @l2 @hs1 @hs2 @f1 @f2) ?_;refine AF (row:=[dgv (D % 65536)]) (fun _ _ _ _=>Ag) ho' (K5 om om) (C8 (by simp) (by simp)) (by rw[List.length_map];omega) (by simp;omega) ?_;rintro v2 τ2 ho2 hap -;refine gU1 (a23N @A6 @W4 @Y0 @W8 @U5 @W5 @U6 @U7 @U8 @K3 @H9 @J3 @I5 @I6 @I0 @g5 @g6 @g7 @g0 @g1 @f1 @f2 @hwk) ?_;exact⟨om,fR1 g0,fR1 g1,fR,hap.ext (hE.trans (.new _ _)) ho' (Nat.le_refl _),_,v2,_,fR,fR,by rw[List.map_append];exact ho2,om,Lo,by rw[List.length_append,hol];rfl,hod.snoc (Nat.mod_lt _ om),hv'⟩
    ·have ca:decide (k<a.length)=true:=by simpa using hka
     obtain⟨x',hx'⟩:=H5 hka;obtain rfl:x'=x:=by rw[<- hx,getD_at hx']
     obtain⟨sp,rfl,l3,l4⟩:=h1 om;have l5:τ.row vb=some vcs:=by rw[hE.row l3];exact l4
     have l7:=h2 k _ hx';have l1:Nat.blt k a.length=true:=by rw[Nat.blt_eq];omega
     have cb:decide (k<b.length)=false:=by simpa using hkb
     obtain rfl:0=y:=by rw[<- hy,HA hkb]
     have hs1:((c:Nat):Int)+((x':Nat):Int)=(D:Int):=om;refine gU1 (a30N @A6 @W4 @Y0 @W8 @U5 @W5 @U6 @U7 @U8 @K3 @H9 @J3 @I5 @I6 @I0 @g5 @g6 @g7 @g0 @g1 @ca @cb @D9 @F4 @l5 @l7 @l1 @hs1 @f1 @f2) ?_;refine AF (row:=[dgv (D % 65536)]) (fun _ _ _ _=>Ag) ho' (K5 om om) (C8 (by simp) (by simp)) (by rw[List.length_map];omega) (by simp;omega) ?_;rintro v2 τ2 ho2 hap -;refine gU1 (a23N @A6 @W4 @Y0 @W8 @U5 @W5 @U6 @U7 @U8 @K3 @H9 @J3 @I5 @I6 @I0 @g5 @g6 @g7 @g0 @g1 @f1 @f2 @hwk) ?_;exact⟨om,fR1 g0,fR1 g1,fR,hap.ext (hE.trans (.new _ _)) ho' (Nat.le_refl _),_,v2,_,fR,fR,by rw[List.map_append];exact ho2,om,Lo,by rw[List.length_append,hol];rfl,hod.snoc (Nat.mod_lt _ om),hv'⟩
   ·by_cases hkb:k<b.length
    ·have ca:decide (k<a.length)=false:=by simpa using hka
     obtain rfl:0=x:=by rw[<- hx,HA hka]
     have cb:decide (k<b.length)=true:=by simpa using hkb
     obtain⟨y',hy'⟩:=H5 hkb;obtain rfl:y'=y:=by rw[<- hy,getD_at hy']
     obtain⟨sp',rfl,l3',l4'⟩:=k1 om;have l5':τ.row wb=some wcs:=by rw[hE.row l3'];exact l4'
     have l7':=k2 k _ hy';have l2:Nat.blt k b.length=true:=by rw[Nat.blt_eq];omega
     have hs1:((c:Nat):Int)+((y':Nat):Int)=(D:Int):=om;refine gU1 (a30N @A6 @W4 @Y0 @W8 @U5 @W5 @U6 @U7 @U8 @K3 @H9 @J3 @I5 @I6 @I0 @g5 @g6 @g7 @g0 @g1 @ca @cb @D9 @F4 @l5' @l7' @l2 @hs1 @f1 @f2) ?_;refine AF (row:=[dgv (D % 65536)]) (fun _ _ _ _=>Ag) ho' (K5 om om) (C8 (by simp) (by simp)) (by rw[List.length_map];omega) (by simp;omega) ?_;rintro v2 τ2 ho2 hap -;refine gU1 (a23N @A6 @W4 @Y0 @W8 @U5 @W5 @U6 @U7 @U8 @K3 @H9 @J3 @I5 @I6 @I0 @g5 @g6 @g7 @g0 @g1 @f1 @f2 @hwk) ?_;exact⟨om,fR1 g0,fR1 g1,fR,hap.ext (hE.trans (.new _ _)) ho' (Nat.le_refl _),_,v2,_,fR,fR,by rw[List.map_append];exact ho2,om,Lo,by rw[List.length_append,hol];rfl,hod.snoc (Nat.mod_lt _ om),hv'⟩
    ·have ca:decide (k<a.length)=false:=by simpa using hka
     obtain rfl:0=x:=by rw[<- hx,HA hka]
     have cb:decide (k<b.length)=false:=by simpa using hkb
     obtain rfl:0=y:=by rw[<- hy,HA hkb]
     obtain rfl:c=D:=om;have hq2:=q2 om;refine gU1 (a27N @A6 @W4 @Y0 @W8 @U5 @W5 @U6 @U7 @U8 @K3 @H9 @J3 @I5 @I6 @I0 @g5 @g6 @g7 @g0 @g1 @ca @cb @D9 @F4 @hq2 @f1 @f2) ?_;refine AF (row:=[dgv (c % 65536)]) (fun _ _ _ _=>Ag) ho' (K5 om om) (C8 (by simp) (by simp)) (by rw[List.length_map];omega) (by simp;omega) ?_;rintro v2 τ2 ho2 hap -;refine gU1 (a23N @A6 @W4 @Y0 @W8 @U5 @W5 @U6 @U7 @U8 @K3 @H9 @J3 @I5 @I6 @I0 @g5 @g6 @g7 @g0 @g1 @f1 @f2 @hwk) ?_;exact⟨om,fR1 g0,fR1 g1,fR,hap.ext (hE.trans (.new _ _)) ho' (Nat.le_refl _),_,v2,_,fR,fR,by rw[List.map_append];exact ho2,om,Lo,by rw[List.length_append,hol];rfl,hod.snoc (Nat.mod_lt _ om),hv'⟩
  ·have ca:decide (k<a.length)=false:=by rw[decide_eq_false_iff_not];omega
   have cb:decide (k<b.length)=false:=by rw[decide_eq_false_iff_not];omega
   obtain rfl:c=0:=om;have cc:decide ((0:Int)<((0:Nat):Int))=false:=by decide
   refine gU1 (a23N @A6 @W4 @Y0 @W8 @U5 @W5 @U6 @U7 @U8 @K3 @H9 @J3 @I5 @I6 @I0 @g5 @g6 @g7 @g0 @g1 @ca @cb @cc) ?_;rw[List.take_of_length_le (show a.length<=k by omega),List.take_of_length_le (show b.length<=k by omega)]at hv;exact⟨_,_,v,o,rfl,hE,fR1 g5,ho,om,hod,om⟩
 rintro r ⟨fr,τ,v,o,rfl,hE,g5,ho,hol,hod,hv⟩;have hdn:=DN.ot ho;obtain⟨va',vc',rfl⟩:=hdn.shape;refine gU1 (a17N @A6 @W4 @Y0 @W8 @U5 @W5 @U6 @U7 @U8 @K3 @H9 @J3 @I5 @I6 @I0 @g5 @Tryz.results209) ?_;exact⟨_,o,_,rfl,hE,hdn,hod,hv,om⟩
end Go.Proofs.T
namespace Go.Proofs.T
open Go Go.Ab
open Nat (reduceMul reduceEqDiff reduceAdd)
theorem DN.zR {Z:St}{v w:Value}{l:List Nat}{q:Nat}{n:Bool}{a:Option Addr}{ln c:Nat}{new:List Value}(h:DN Z v l) (hq:Z.row q=some [.bool n,w]) (hw:w= .slice a ln c) (hl:new.length=2):DN (Z.upd q new) v l:=by
 rcases h with h|⟨b,off,sp,c,cells,h1,h2,h3,h4,h5,h6⟩
 ·exact .inl h
 ·by_cases e:b=q
  ·subst e;rw[hq]at h5;cases h5;cases l with
   | nil=>
     obtain⟨k1,-⟩:=sub_eq h6;exact .inr ⟨b,off,sp,c,new,h1,h2,h3,h4,EU,by rw[o9 (by simpa[hl]using k1)];simp⟩
   | cons d l=>
     exfalso;obtain⟨-,k2⟩:=sub_eq h6;have:([Value.bool n,w]:List Value)[off]? =some (dgv d):=by
      have:=congrArg (·[0]?) k2;simp only[List.map_cons,List.getElem?_cons_zero,List.getElem?_take,List.getElem?_drop,List.length_cons,Nat.add_zero]at this;rw[if_pos om]at this;exact this.symm
     rcases off with _|_|off
     ·cases this
     ·rw[hw]at this;cases this
     ·simp at this
  ·exact .inr ⟨b,off,sp,c,cells,h1,h2,h3,h4,by rw[AX e];exact h5,h6⟩
theorem iW {Z:St}{v w:Value}{a b:List Nat}{n m:Bool}(ha:Kk Z v n a) (hb:Kk Z w m b) (da:Dig a) (db:Dig b) (la:a.length<=100) (lb:b.length<=100) :
  Ev (go Tryz.prog HS (.fn 178) [v,w] Z) (fun r=>∃ v' l Z',r=⟨false,v',Z'⟩/\Ext Z Z'/\Kk Z' v' (n != m) l/\Dig l/\Trm l/\D8 l=D8 a*D8 b/\l.length<=a.length+b.length) ⟨⟩:=by
 obtain⟨va,rfl,hva⟩:=ha;obtain⟨vb,rfl,hvb⟩:=hb;obtain⟨wa,ca,hsa⟩:=hva.shape;obtain⟨wb,cb,hsb⟩:=hvb.shape;subst hsa hsb;refine C9 Tryz.func178 rfl rfl ?_;simp(maxSteps:=8000000) (disch:=first|exact dS|fail) only[↓bD,bU,reduceMul,reduceEqDiff,reduceAdd,Nat.reduceBEq,reduceIte,Option.isNone_none,A6,D5,Az,BC,BD,Cr,↓Bc,↓Y7,Y8,↓K7,↓K8,↓N5,↓N6,VT];refine(Uc (hva.mono (eX)) (hvb.mono (eX)) da db la lb).mono ?_;rintro r ⟨v',l,Z2,rfl,hE2,hv',dl,tl,hvl,hll⟩;have n2:=hE2.n;simp only[F6]at n2;obtain⟨w2,c2,hs2⟩:=hv'.shape;subst hs2;have o2:Z2.A7 (Z.n+1+1)=some [.bool false,.slice none 0 0]:=by rw[hE2.A7 (cL)];exact cL
 have hE:Ext Z Z2:=Ext.trans (eX) hE2;simp(maxSteps:=8000000) (disch:=first|exact dS|fail) only[↓bD,bU,reduceMul,reduceEqDiff,reduceAdd,Nat.reduceBEq,reduceIte,Option.isNone_none,A6,D5,Az,BC,BD,Cr,↓Bc,↓Y7,Y8,↓K7,↓K8,↓N5,↓N6,VT,o2,asx hE2,G8,G3,Tryz.results178];exact⟨_,l,_,rfl,eX,⟨_,rfl,hv'.zR (A9 o2) rfl rfl⟩,dl,tl,hvl,hll⟩
def Wi (n m:Bool) (A B:Nat):Bool×Nat:=if n=m then(n,A+B)else if A<B then(m,B-A)else(n,A-B)
theorem sv {A B:Nat}:decide (PQ A B<0)=decide (A<B):=by
 rcases Nat.lt_trichotomy A B with h|h|h
 ·have e:decide (A<B)=true:=decide_eq_true h;rw[Vr h,e];rfl
 ·subst h;have e:decide (A<A)=false:=decide_eq_false (Nat.lt_irrefl _);rw[gD,e];rfl
 ·have e:decide (A<B)=false:=decide_eq_false om;rw[Vs h,e];rfl
theorem zS {Z:St}{v w:Value}{a b:List Nat}{n m:Bool}(ha:Kk Z v n a) (hb:Kk Z w m b) (da:Dig a) (db:Dig b) (ta:Trm a) (tb:Trm b) (la:a.length<=100) (lb:b.length<=100) :
  Ev (go Tryz.prog HS (.fn 177) [v,w] Z) (fun r=>∃ v' l Z',r=⟨false,v',Z'⟩/\Ext Z Z'/\Kk Z' v' (Wi n m (D8 a) (D8 b)).1 l/\Dig l/\D8 l=(Wi n m (D8 a) (D8 b)).2/\l.length<=a.length+b.length+1) ⟨⟩:=by
 obtain⟨va,rfl,hva⟩:=ha;obtain⟨vb,rfl,hvb⟩:=hb;obtain⟨wa,ca,hsa⟩:=hva.shape;obtain⟨wb,cb,hsb⟩:=hvb.shape;subst hsa hsb;have E0:Ext Z (((Z.new [.bool n,.slice wa a.length ca]).new [.bool m,.slice wb b.length cb]).new [.bool false,.slice none 0 0] (some 168)):=eX;refine C9 Tryz.func177 rfl rfl ?_;by_cases hnm:n=m
 ·have hb1:bi n m (!m)=true:=by subst hnm;cases n<;>rfl
  have eM:Wi n m (D8 a) (D8 b)=(n,D8 a+D8 b):=by unfold Wi;rw[if_pos hnm]
  rw[eM];simp(maxSteps:=8000000) (disch:=first|exact dS|fail) only[↓bD,bU,reduceMul,reduceEqDiff,reduceAdd,Nat.reduceBEq,reduceIte,Option.isNone_none,A6,D5,Az,BC,BD,Cr,↓Bc,↓Y7,Y8,↓K7,↓K8,↓N5,↓N6,hb1];refine(sw (hva.mono E0) (hvb.mono E0) da db la lb).mono ?_;rintro r ⟨v',l,Z2,rfl,hE2,hv',dl,hvl,hll⟩;have n2:=hE2.n;simp only[F6]at n2;obtain⟨w2,c2,hs2⟩:=hv'.shape;subst hs2;have o2:Z2.A7 (Z.n+1+1)=some [.bool false,.slice none 0 0]:=by rw[hE2.A7 (cL)];exact cL
  have hE:Ext Z Z2:=E0.trans hE2;simp(maxSteps:=8000000) (disch:=first|exact dS|fail) only[↓bD,bU,reduceMul,reduceEqDiff,reduceAdd,Nat.reduceBEq,reduceIte,Option.isNone_none,A6,D5,Az,BC,BD,Cr,↓Bc,↓Y7,Y8,↓K7,↓K8,↓N5,↓N6,o2,asx hE2,G8,G3,Tryz.results177];exact⟨_,l,_,rfl,eX,⟨_,rfl,hv'.zR (A9 o2) rfl rfl⟩,dl,hvl,hll⟩
 ·have hb1:bi n m (!m)=false:=by cases n<;>cases m<;>first|rfl|exact absurd rfl hnm
  simp(maxSteps:=8000000) (disch:=first|exact dS|fail) only[↓bD,bU,reduceMul,reduceEqDiff,reduceAdd,Nat.reduceBEq,reduceIte,Option.isNone_none,A6,D5,Az,BC,BD,Cr,↓Bc,↓Y7,Y8,↓K7,↓K8,↓N5,↓N6,hb1];refine(Ck (hva.mono E0) om).mono ?_;rintro r ⟨xa,a',rfl,hta,⟨ka,hka⟩,ta',BA8,-⟩;have da':Dig a':=by rw[hka];exact da.take ka
  obtain rfl:a'=a:=FZ da' da ta' ta BA8;obtain⟨w3,c3,hs3⟩:=hta.shape;subst hs3;simp(maxSteps:=8000000) (disch:=first|exact dS|fail) only[↓bD,bU,reduceMul,reduceEqDiff,reduceAdd,Nat.reduceBEq,reduceIte,Option.isNone_none,A6,D5,Az,BC,BD,Cr,↓Bc,↓Y7,Y8,↓K7,↓K8,↓N5,↓N6];refine(Ck (hvb.mono E0) om).mono ?_;rintro r ⟨xb,b',rfl,htb,⟨kb,hkb⟩,tb',BA9,-⟩;have db':Dig b':=by rw[hkb];exact db.take kb
  obtain rfl:b'=b:=FZ db' db tb' tb BA9;obtain⟨w4,c4,hs4⟩:=htb.shape;subst hs4;simp(maxSteps:=8000000) (disch:=first|exact dS|fail) only[↓bD,bU,reduceMul,reduceEqDiff,reduceAdd,Nat.reduceBEq,reduceIte,Option.isNone_none,A6,D5,Az,BC,BD,Cr,↓Bc,↓Y7,Y8,↓K7,↓K8,↓N5,↓N6];refine(LV hta htb da db ta tb om om).mono ?_;rintro r rfl;have hc:=sv (A:=D8 a') (B:=D8 b');by_cases hcm:D8 a'<D8 b'
  ·have eM:Wi n m (D8 a') (D8 b')=(m,D8 b'-D8 a'):=by unfold Wi;rw[if_neg hnm,if_pos hcm]
   rw[eM];rw[decide_eq_true hcm]at hc;simp(maxSteps:=8000000) (disch:=first|exact dS|fail) only[↓bD,bU,reduceMul,reduceEqDiff,reduceAdd,Nat.reduceBEq,reduceIte,Option.isNone_none,A6,D5,Az,BC,BD,Cr,↓Bc,↓Y7,Y8,↓K7,↓K8,↓N5,↓N6,hc,asx (Ext.refl _),G8,G3];refine(Qo (hvb.mono E0) (hva.mono E0) db da lb la om (Trm.length_le db ta om)).mono ?_;rintro r ⟨v',l,Z2,rfl,hE2,hv',dl,tl,hvl,hll,-⟩;have n2:=hE2.n;simp only[F6]at n2;obtain⟨w2,c2,hs2⟩:=hv'.shape;subst hs2;have o2:Z2.A7 (Z.n+1+1)=some [.bool false,.slice none 0 0]:=by rw[hE2.A7 (cL)];exact cL
   have hE:Ext Z Z2:=E0.trans hE2;simp(maxSteps:=8000000) (disch:=first|exact dS|fail) only[↓bD,bU,reduceMul,reduceEqDiff,reduceAdd,Nat.reduceBEq,reduceIte,Option.isNone_none,A6,D5,Az,BC,BD,Cr,↓Bc,↓Y7,Y8,↓K7,↓K8,↓N5,↓N6,o2,asx hE2,G8,G3,Tryz.results177];exact⟨_,l,_,rfl,eX,⟨_,rfl,hv'.zR (A9 o2) rfl rfl⟩,dl,hvl,om⟩
  ·have eM:Wi n m (D8 a') (D8 b')=(n,D8 a'-D8 b'):=by unfold Wi;rw[if_neg hnm,if_neg hcm]
   rw[eM];rw[decide_eq_false hcm]at hc;simp(maxSteps:=8000000) (disch:=first|exact dS|fail) only[↓bD,bU,reduceMul,reduceEqDiff,reduceAdd,Nat.reduceBEq,reduceIte,Option.isNone_none,A6,D5,Az,BC,BD,Cr,↓Bc,↓Y7,Y8,↓K7,↓K8,↓N5,↓N6,hc,asx (Ext.refl _),G8,G3];refine(Qo (hva.mono E0) (hvb.mono E0) da db la lb om (Trm.length_le da tb om)).mono ?_;rintro r ⟨v',l,Z2,rfl,hE2,hv',dl,tl,hvl,hll,-⟩;have n2:=hE2.n;simp only[F6]at n2;obtain⟨w2,c2,hs2⟩:=hv'.shape;subst hs2;have o2:Z2.A7 (Z.n+1+1)=some [.bool false,.slice none 0 0]:=by rw[hE2.A7 (cL)];exact cL
   have hE:Ext Z Z2:=E0.trans hE2;simp(maxSteps:=8000000) (disch:=first|exact dS|fail) only[↓bD,bU,reduceMul,reduceEqDiff,reduceAdd,Nat.reduceBEq,reduceIte,Option.isNone_none,A6,D5,Az,BC,BD,Cr,↓Bc,↓Y7,Y8,↓K7,↓K8,↓N5,↓N6,o2,asx hE2,G8,G3,Tryz.results177];exact⟨_,l,_,rfl,eX,⟨_,rfl,hv'.zR (A9 o2) rfl rfl⟩,dl,hvl,om⟩
