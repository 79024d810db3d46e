/- The J4 Wf of AS. -/
import Derived.Test.YtbcanmagihejhaaGreatDoorRA
set_option linter.unusedSimpArgs false
set_option linter.unusedVariables false
set_option maxHeartbeats 32000000
set_option maxRecDepth 100000
namespace Go.Proofs.T
open Go Go.Ab
theorem fW {n:Nat}(h:n<1000000000):(dcN n).length<=9:=MQ 8 n om
theorem xX {a d:Int}(h0:0<=a) (h:a % d=0):a.tmod d=0:=by rw [Int.tmod_eq_emod_of_nonneg h0];exact h
theorem FW.le {k m:Nat}{e:Ex}(h:FW k m e):k<=m:=by
 induction h with
 | num=>omega
 | name=>omega
 | bin=>omega
 | mm=>omega
theorem Gy {Z:St}{v:Value}{rows:List (List Value)}{a b:Ex}(hs:SL Z 5 v rows) (hx:AM Z rows [a,b]):∃ B off sp c cells r1 r2,v= .slice (some ⟨B,off,sp⟩) 2 c/\B<Z.n/\Z.row B=some cells /\
  sub cells off 5=some r1/\sub cells (off+5) 5=some r2/\Ah Z r1 a/\Ah Z r2 b:=by
 obtain ⟨r1,rs1,rfl,hx1,hx⟩:=hx;obtain ⟨r2,rs2,rfl,hx2,hx⟩:=hx;obtain rfl:rs2=[]:=hx;obtain ⟨A,C,B,off,cells,rfl,c1,c2⟩:=SL.use hs;obtain ⟨sp,rfl,l3,l4⟩:=c1 (by simp);exact ⟨B,off,sp,C,cells,r1,r2,rfl,l3,l4,by simpa using c2 0 r1 rfl,by simpa using c2 1 r2 rfl,hx1,hx2⟩
theorem FW.arg {k m:Nat}{e:Ex}(hf:FW k m e){Z:St}{row:List Value}(he:Ah Z row e):∃ o n d nm a len c,row=[str o,.int .i64 n,.int .i64 d,str nm,.slice a len c]/\((len=0/\k=1/\m=1)\/∃ B off sp cells k1 k2 m1 m2 e1 e2 r1 r2,len=2/\a=some ⟨B,off,sp⟩/\B<Z.n/\Z.row B=some cells/\k=1+max k1 k2/\m=m1+m2+1/\FW k1 m1 e1/\FW k2 m2 e2 /\
  sub cells off 5=some r1/\sub cells (off+5) 5=some r2/\Ah Z r1 e1/\Ah Z r2 e2):=by
 cases hf with
 | num h =>
   obtain ⟨v,rows,rfl,h1,-,h2⟩:=he;obtain rfl:rows=[]:=h2;obtain ⟨a,c,b,off,cells,rfl,-⟩:=SL.use h1;exact ⟨_,_,_,_,_,_,_,rfl,.inl ⟨rfl,rfl,rfl⟩⟩
 | name h =>
   obtain ⟨v,rows,rfl,h1,-,h2⟩:=he;obtain rfl:rows=[]:=h2;obtain ⟨a,c,b,off,cells,rfl,-⟩:=SL.use h1;exact ⟨_,_,_,_,_,_,_,rfl,.inl ⟨rfl,rfl,rfl⟩⟩
 | bin h ha hb =>
   obtain ⟨v,rows,rfl,hs,-,hx⟩:=he;obtain ⟨B,off,sp,c,cells,r1,r2,rfl,l3,l4,s1,s2,x1,x2⟩:=Gy hs hx;exact ⟨_,_,_,_,_,_,_,rfl,.inr ⟨B,off,sp,cells,_,_,_,_,_,_,r1,r2,rfl,rfl,l3,l4,rfl,rfl,ha,hb,s1,s2,x1,x2⟩⟩
 | mm h ha hb =>
   obtain ⟨v,rows,rfl,hs,-,hx⟩:=he;obtain ⟨B,off,sp,c,cells,r1,r2,rfl,l3,l4,s1,s2,x1,x2⟩:=Gy hs hx;exact ⟨_,_,_,_,_,_,_,rfl,.inr ⟨B,off,sp,cells,_,_,_,_,_,_,r1,r2,rfl,rfl,l3,l4,rfl,rfl,ha,hb,s1,s2,x1,x2⟩⟩
def Cl (Z:St):List (Nat×List Value)->Prop
 | []=>True
 | (b,cs)::l=>(b<Z.n/\Z.A5 b=some cs)/\Cl Z l
theorem Cl.xt {Z Z':St}(hE:Ext Z Z'):∀ {l:List (Nat×List Value)},Cl Z l->Cl Z' l
 | [],_=>trivial
 | (b,cs)::l,h=>⟨⟨Nat.lt_of_lt_of_le h.1.1 hE.n,by rw [hE.A5 h.1.1];exact h.1.2⟩,Cl.xt hE h.2⟩
theorem Cl.ext {Z Z':St}{l:List (Nat×List Value)}(h:Cl Z l) (hE:Ext Z Z'):Cl Z' l:=Cl.xt hE h
theorem Ah.xu {Z:St}{row:List Value}:∀ {e:Ex},Ah Z row e->∃ o n d nm v,row=[str o,.int .i64 n,.int .i64 d,str nm,v]/\∃ l,e= .mk o n d nm l
 | .mk o n d nm l,h=>by obtain ⟨v,rows,h,-⟩:=h;exact ⟨o,n,d,nm,v,h,l,rfl⟩
theorem lP:∀ (f r D:Nat),r<D->(frT f r D).length<=f:=by
 intro f;induction f with
 | zero=>intro r D _;simp [frT]
 | succ f ih =>
   intro r D h;unfold frT;split
   ·simp
   ·have h1:10*r / D<10:=Nat.div_lt_of_lt_mul (by rw [Nat.mul_comm];omega);have:=ih (10*r % D) D (Nat.mod_lt _ om);rw [List.length_append,EJ h1];simp;omega
theorem lQ {n d:Int}(h:Mh n d):(deT n d).length<=17:=by
 have h1:=h.rq;have h2:=h.n0;have hd:=h1.d1;have hn:=h1.n2;unfold deT;have a1:n.toNat / d.toNat<1000000000:=Nat.lt_of_le_of_lt (Nat.div_le_self _ _) om;have a2:=MQ 8 (n.toNat / d.toNat) om;have a3:=lP 6 (n.toNat % d.toNat) d.toNat (Nat.mod_lt _ om);rw [List.length_append];split
 ·simp;omega
 ·simp;omega
theorem MR {b:Bool}{s:By}:(par b s).length<=s.length+2:=by
 unfold par;cases b <;> simp
theorem Fk {nm:By}(h:AL nm=true):nm.length<=30:=by
 unfold AL at h;rw [Bool.and_eq_true,Bool.and_eq_true] at h;exact of_decide_eq_true h.1.2
theorem Fj {k m:Nat}{e:Ex}(h:FW k m e):∀ g least,k<=g->(N4 g least e).length+8<=50*m:=by
 induction h with
 | @num n d h =>
   intro g least hg;obtain ⟨g,rfl⟩:∃ x,g=x+1:=⟨g-1,om⟩
   refine Nat.le_trans (Nat.add_le_add_right (MR (b:=_) (s:=_)) 8) ?_;rw [if_pos rfl];have:=lQ h;omega
 | @name nm h1 h2 h3 =>
   intro g least hg;obtain ⟨g,rfl⟩:∃ x,g=x+1:=⟨g-1,om⟩
   refine Nat.le_trans (Nat.add_le_add_right (MR (b:=_) (s:=_)) 8) ?_;rw [if_neg (by decide),if_pos rfl];have:=Fk h1;omega
 | @bin k j m i o a b h ha hb iha ihb =>
   intro g least hg;obtain ⟨g,rfl⟩:∃ x,g=x+1:=⟨g-1,om⟩
   refine Nat.le_trans (Nat.add_le_add_right (MR (b:=_) (s:=_)) 8) ?_;have hn:o≠R5/\o≠nmB/\¬ (o=Dt\/o=EZ):=by rcases h with rfl|rfl|rfl|rfl <;> decide
   have ho:o.length=1:=by rcases h with rfl|rfl|rfl|rfl <;> rfl
   rw [if_neg hn.1,if_neg hn.2.1];dsimp only;rw [if_neg hn.2.2];have h1:=iha g (lvl o) om;have h2:=ihb g (lvl o+1) om;simp only [List.length_append,List.length_cons,ho];omega
 | @mm k j m i o a b h ha hb iha ihb =>
   intro g least hg;obtain ⟨g,rfl⟩:∃ x,g=x+1:=⟨g-1,om⟩
   refine Nat.le_trans (Nat.add_le_add_right (MR (b:=_) (s:=_)) 8) ?_;have hn:o≠R5/\o≠nmB:=by rcases h with rfl|rfl <;> decide
   have ho:o.length=3:=by rcases h with rfl|rfl <;> rfl
   rw [if_neg hn.1,if_neg hn.2];dsimp only;rw [if_pos h];have h1:=iha g 0 om;have h2:=ihb g 0 om;simp only [List.length_append,List.length_cons,List.length_nil,ho];omega

end Go.Proofs.T
