/- A GG, as plain data, and how it UB in memory. -/
import Derived.Test.YtgjocfjdecjhoaaGreatDoorITB
set_option linter.unusedSimpArgs false
set_option linter.unusedVariables false
set_option linter.defProp false
set_option maxHeartbeats 32000000
set_option maxRecDepth 100000
namespace Go.Proofs.T
open Go Go.Ab
section
variable {Z Z':St}{v:Value}{cells:List Value}
abbrev By:=List UInt8
def BN (n:Int):Prop:= -9223372036854775808<=n/\n<=9223372036854775807
structure Lot where
 id:Int
 AE:Int
 deriving DecidableEq
structure CL where
 name:By
 kind:Int
 low:Int
 high:Int
 less:Bool
 deriving DecidableEq
structure Req where
 name:By
 rel:By
 value:Int
 deriving DecidableEq
inductive Ex where
 |mk (op:By) (num den:Int) (name:By) (args:List Ex)
structure Tim where
 q:Int
 b:Int
 g:Int
 p:Int
 s:Int
 deriving DecidableEq
structure Tn where
 name:By
 AG:List Lot
 G7:List CL
 reqs:List Req
 low:Int
 high:Int
 f:Ex
 AQ:List By
 AE:Int
 K7:List (List Int)
 U6:Int
 t:Tim
def Lot.row (l:Lot):List Value:=[.int .i64 l.id,.int .i64 l.AE]
def CL.row (c:CL):List Value:=[str c.name,.int .i64 c.kind,.int .i64 c.low,.int .i64 c.high,.bool c.less]
def Req.row (r:Req):List Value:=[str r.name,str r.rel,.int .i64 r.value]
def LJ (Z:St) (v:Value) (l:List Int):Prop:=SL Z 1 v (l.map fun n=>[.int .i64 n])
def xg (Z:St) (v:Value) (l:List Lot):Prop:=SL Z 2 v (l.map Lot.row)
def PQ (Z:St) (v:Value) (l:List CL):Prop:=SL Z 5 v (l.map CL.row)
def xh (Z:St) (v:Value) (l:List Req):Prop:=SL Z 3 v (l.map Req.row)
def Mk {α β:Type}(R:α->β->Prop):List α->List β->Prop
 | [],[]=>True
 |a::l,b::k=>R a b/\Mk R l k
 |_,_=>False
def Mk.len {α β:Type}{R:α->β->Prop}:∀ {l:List α}{k:List β},Mk R l k->l.length=k.length
 | [],[],_=>rfl
 |_::_,_::_,h=>by rw[Ap,Ap,h.2.len]
 | [],_::_,h=>h.elim
 |_::_,[],h=>h.elim
def Mk.get {α β:Type}{R:α->β->Prop}:∀ {l:List α}{k:List β}{i:Nat}{a:α}{b:β},Mk R l k->l[i]? =some a->k[i]? =some b->R a b
 |a::l,b::k,0,_,_,h,h1,h2=>by cases h1;cases h2;exact h.1
 |a::l,b::k,i+1,_,_,h,h1,h2=>h.2.get (i:=i) (by simpa using h1) (by simpa using h2)
 | [],_,_,_,_,_,h1,_=>by simp at h1
 |_::_,[],_,_,_,h,_,_=>h.elim
def Mk.mono {α β:Type}{R S:α->β->Prop}(hRS:∀ a b,R a b->S a b):∀ {l:List α}{k:List β},Mk R l k->Mk S l k
 | [],[],_=>trivial
 |_::_,_::_,h=>⟨hRS _ _ h.1,h.2.mono hRS⟩
 | [],_::_,h=>h.elim
 |_::_,[],h=>h.elim
def RX (Z:St) (v:Value) (l:List (List Int)):Prop:=∃ vs:List Value,SL Z 1 v (vs.map fun x=>[x])/\Mk (LJ Z) vs l
mutual
def P8 (Z:St) (row:List Value):Ex->Prop
 | .mk op n d nm args=>∃ v B9,row=[str op,.int .i64 n,.int .i64 d,str nm,v]/\SL Z 5 v B9/\args.length<=4/\Cn Z B9 args
def Cn (Z:St) (B9:List (List Value)):List Ex->Prop
 | []=>B9=[]
 |e::es=>∃ r rs,B9=r::rs/\P8 Z r e/\Cn Z rs es
end
mutual
theorem P8.mono {Z Z':St}(a:Ext Z Z'){row:List Value}:∀ {e:Ex},P8 Z row e->P8 Z' row e
 | .mk op n d nm args,h=>by
   obtain⟨v,B9,h1,h2,h4,h3⟩:=h;exact⟨v,B9,h1,h2.mono a,h4,Cn.mono a h3⟩
theorem Cn.mono {Z Z':St}(b:Ext Z Z'){a:List (List Value)}:∀ {es:List Ex},Cn Z a es->Cn Z' a es
 | [],h=>h
 | e::es,h=>by
   obtain⟨r,rs,h1,h2,h3⟩:=h;exact⟨r,rs,h1,P8.mono b h2,Cn.mono b h3⟩
end
def Cn.len {Z:St}:∀ {B9:List (List Value)}{es:List Ex},Cn Z B9 es->B9.length=es.length
 |_,[],h=>by rw[show _=_ from h];rfl
 | _,e::es,h=>by
   obtain⟨r,rs,rfl,-,h3⟩:=h;rw[Ap,Ap,h3.len]
def Cn.get {Z:St}:∀ {B9:List (List Value)}{es:List Ex}{i:Nat}{r:List Value}{e:Ex},Cn Z B9 es->B9[i]? =some r->es[i]? =some e->P8 Z r e
 |_,[],_,_,_,_,_,h2=>by simp at h2
 | _,e::es,i,_,_,h,h1,h2=>by
   obtain⟨r,rs,rfl,h3,h4⟩:=h;cases i with
   |zero=>cases h1;cases h2;exact h3
   |succ i=>exact h4.get (i:=i) (by simpa using h1) (by simpa using h2)
def Ui (nm:By) (h vc i:Value) (low a:Int) (e:List Value) (j:Value) (c:Int) (f:Value) (d:Int) (t:Tim):List Value :=
 [str nm,h,vc,i,.int .i64 low,.int .i64 a]++e++[j,.int .i64 c,f,.int .i64 d,.int .i64 t.q,.int .i64 t.b,.int .i64 t.g,.int .i64 t.p,.int .i64 t.s]
def Jb (Z:St) (cells:List Value) (T:Tn):Prop :=
 ∃ vl vc vr ex vt vk,cells=Ui T.name vl vc vr T.low T.high ex vt T.AE vk T.U6 T.t/\xg Z vl T.AG/\PQ Z vc T.G7/\xh Z vr T.reqs/\P8 Z ex T.f/\Hy Z vt T.AQ/\RX Z vk T.K7
def LJ.mono {l:List Int}(h:LJ Z v l) (a:Ext Z Z'):LJ Z' v l:=SL.mono h a
def RX.mono {l:List (List Int)}(h:RX Z v l) (a:Ext Z Z'):RX Z' v l:=by
 obtain⟨d,b,c⟩:=h;exact⟨d,b.mono a,c.mono fun _ _ h=>h.mono a⟩
def Jb.mono {T:Tn}(h:Jb Z cells T) (a:Ext Z Z'):Jb Z' cells T:=by
 obtain⟨l,vc,m,b,n,k,c,d,e,f,g,i,j⟩:=h;exact⟨l,vc,m,b,n,k,c,SL.mono d a,SL.mono e a,SL.mono f a,g.mono a,i.mono a,j.mono a⟩
def P8.len {Z:St}{row:List Value}:∀ {e:Ex},P8 Z row e->row.length=5
 | .mk _ _ _ _ _,h=>by obtain⟨v,B9,rfl,-,-⟩:=h;rfl
def Jb.len {T:Tn}(h:Jb Z cells T):cells.length=20:=by
 obtain⟨d,vc,e,b,f,c,rfl,-,-,-,a,-⟩:=h;simp[Ui,a.len]
def names:List By:=[[113,117,97,108,105,116,121],[100,97,121,115],[115,116,97,102,102],[112,114,105,99,101],[108,111,119],[115,112,101,101,100],[99,111,109,102,111,114,116],[119,101,105,103,104,116]]
structure Tn.Ok (T:Tn):Prop where
 AG:T.AG.length<=16
 lot:∀ l∈T.AG,0<=l.id/\l.id<10/\BN l.AE
 G7:T.G7.length<=16
 Dn:∀ c∈T.G7,c.name∈names/\BN c.kind/\BN c.low/\BN c.high
 reqs:T.reqs.length<=8
 req:∀ r∈T.reqs,r.name∈names/\r.rel.length<=2/\BN r.value
 low:BN T.low
 high:BN T.high
 AQ:T.AQ.length<=16
 tie:∀ s∈T.AQ,s∈names
 AE:BN T.AE
 K7:T.K7.length<=16
 combo:∀ l∈T.K7,l.length<=4/\∀ n∈l,BN n
 U6:BN T.U6
 tim:BN T.t.q/\BN T.t.b/\BN T.t.g/\BN T.t.p/\BN T.t.s
def OP {s:By}(h:s∈names):s.length<=7:=by
 have:∀ s∈names,s.length<=7:=by decide
 exact this s h
end
section
variable {Z:St}{n:Int}{k:Nat}
def FE (n:Int):Bool:=(!decide (n<97)&& !decide (122<n))||(!decide (n<65)&& !decide (90<n))
def P9 (n:Int):Bool:= !decide (n<48)&& !decide (57<n)
def EW (n:Int):Bool:=FE n||P9 n||decide (n=95)
def D6:yieldOf true R6=false:=rfl
def D8:yieldOf false R6=false:=rfl
def Ur:Ev (gO 153 [.int .u8 n] Z) (fun r=>r=⟨false,.bool (FE n),Z⟩) ⟨⟩:=by
 refine C8 Tryz.func153 rfl rfl ?_;unfold FE;cases a:decide (n<97)<;>cases b:decide (122<n)<;>cases c:decide (n<65)<;>cases d:decide (90<n)<;>refine gS1 (aI a (aI b (aI c (aI d (a3N @D6 @D8 @Tryz.results153))))) ?_<;>rfl
def qV:Ev (gO 156 [.int .u8 n] Z) (fun r=>r=⟨false,.bool (P9 n),Z⟩) ⟨⟩:=by
 refine C8 Tryz.func156 rfl rfl ?_;unfold P9;cases a:decide (n<48)<;>cases b:decide (57<n)<;>refine gS1 (aI a (aI b (a3N @D6 @D8 @Tryz.results156))) ?_<;>rfl
def lI:Ev (gO 155 [.int .u8 n] Z) (fun r=>r=⟨false,.bool (EW n),Z⟩) ⟨⟩:=by
 refine C8 Tryz.func155 rfl rfl ?_;refine gS ?_;refine Ur.mono ?_;rintro r rfl;unfold EW;cases a:FE n
 ·refine gS1 a ?_;refine qV.mono ?_;rintro r rfl;cases b:P9 n<;>cases c:decide (n=95)<;>refine gS1 (aI a (aI b (aI c (a3N @D6 @D8 @Tryz.results155)))) ?_<;>rfl
 ·cases c:decide (n=95)<;>refine gS1 (aI a (aI c (a3N @D6 @D8 @Tryz.results155))) ?_<;>rfl
def AN7 (g:Nat) (p:Int->Bool):Prop:=∀ (Z:St) (n:Int),Ev (go Tryz.prog HS (.fn g) [.int .u8 n] Z) (fun r=>r=⟨false,.bool (p n),Z⟩) ⟨⟩
def dU:AN7 155 EW:=fun _ _=>lI
def on (p:Int->Bool) (c:UInt8):Bool:=p (c.toNat:Nat)
def BQ (p:Int->Bool) (s:By) (k:Nat):Nat:=((s.drop k).takeWhile (on p)).length
def Qj (p:Int->Bool) (s:By) (k:Nat):k<=s.length->k+BQ p s k<=s.length:=by
 intro h;have:=(List.takeWhile_sublist (on p) (l:=s.drop k)).length_le;rw[MD]at this;unfold BQ;omega
def AV0 {b:Type}{p:b->Bool}:∀ {l:List b}{j:Nat},j<(l.takeWhile p).length->∃ c,l[j]? =some c/\p c=true:=by
 intro l;induction l with
 |nil=>intro j h;simp at h
 | cons x l ih=>
   intro j h;rw[lC]at h;cases a:p x with
   |false=>rw[a]at h;simp at h
   | true=>
     rw[a]at h;cases j with
     |zero=>exact⟨x,rfl,a⟩
     |succ j=>simpa using ih (by simpa using h)
def AV1 {a:Type}{p:a->Bool}:∀ {l:List a},l[(l.takeWhile p).length]? =none\/∃ c,l[(l.takeWhile p).length]? =some c/\p c=false:=by
 intro l;induction l with
 |nil=>exact .inl rfl
 | cons x l ih=>
   rw[lC];cases b:p x with
   |false=>exact .inr ⟨x,by simp,b⟩
   |true=>simpa using ih
def Fp {c:UInt8}:lJ [c]=some (.int .u8 (c.toNat:Nat)):=rfl
def QW {b:Type}{l:List b}{a:b}(h:l[k]? =some a):sub l k 1=some [a]:=by
 obtain⟨c,d⟩:=List.getElem?_eq_some_iff.1 h;rw[BR om,Oe c,d];rfl
def AU1 {g:Nat}{p:Int->Bool}(u:AN7 g p){s:By}(A:k<=s.length) (C:s.length<9223372036854775807):
  Ev (gO 154 [str s,.int .i64 k,.func (.func g) #[] #[]] Z) (fun r=>r=⟨false,.int .i64 (k+BQ p s k:Nat),Z⟩) ⟨⟩:=by
 refine C8 Tryz.func154 rfl rfl ?_;have B:=Qj p s k A;refine gS ?_
 refine G8 (BQ p s k) (fun j d Z'=>d.get 1=some (.int .i64 (k+j:Nat))/\d.get 0=some (str s)/\d.get 2=some (.func (.func g) #[] #[])/\Z'=Z)
  (fun r=>∃ d,r=⟨.exit 0,d,Z⟩/\d.get 1=some (.int .i64 (k+BQ p s k:Nat))) ?_ ?_ ?_ ?_
 ·exact⟨fR,fR,fR,rfl⟩
 ·rintro j d Z' z ⟨b,i,l,rfl⟩;obtain⟨c,a,m⟩:=AV0 (show j<((s.drop k).takeWhile (on p)).length from z);rw[List.getElem?_drop]at a;have q:k+j<s.length:=(List.getElem?_eq_some_iff.1 a).1;have f:decide (((k+j:Nat):Int)<(s.length:Int))=true:=by rw[z3z];omega
  have o:=QW a;refine gS1 (aI b (aI i (aI l (aI f (aI o @Fp))))) ?_;refine(u _ _).mono ?_;rintro r rfl;have e:p (c.toNat:Nat)=true:=m;refine gS1 (aI b (aI i (aI l (aI f e)))) ?_;have v:((k+j:Nat):Int)+1=((k+(j+1):Nat):Int):=om;exact⟨fR1 v,fR1 i,fR1 l,by trivial⟩
 ·rintro d Z' ⟨b,i,l,rfl⟩;rcases(show(s.drop k)[BQ p s k]? =none\/∃ c,(s.drop k)[BQ p s k]? =some c/\on p c=false from AV1)with a|⟨c,a,m⟩
  ·rw[List.getElem?_drop]at a;have y:¬ (k+BQ p s k<s.length):=fun h=>by rw[List.getElem?_eq_getElem h]at a;cases a
   have f:decide (((k+BQ p s k:Nat):Int)<(s.length:Int))=false:=by rw[Ob];omega
   refine gS1 (aI b (aI i (aI l f))) ?_;exact⟨_,rfl,fR1 b⟩
  ·rw[List.getElem?_drop]at a;have q:k+BQ p s k<s.length:=(List.getElem?_eq_some_iff.1 a).1;have f:decide (((k+BQ p s k:Nat):Int)<(s.length:Int))=true:=by rw[z3z];omega
   have o:=QW a;refine gS1 (aI b (aI i (aI l (aI f (aI o @Fp))))) ?_;refine(u _ _).mono ?_;rintro r rfl;have e:p (c.toNat:Nat)=false:=m;refine gS1 (aI b (aI i (aI l (aI f e)))) ?_;exact⟨_,rfl,fR1 b⟩
 rintro r ⟨d,rfl,b⟩;refine gS1 (aI b @Tryz.results154) ?_;try exact⟨⟩
end
section
variable {s:By}{v:Value}{l:List (List UInt8)}{p:Int->Bool}
section
variable {Z:St}
def NF (l:List (List UInt8)) (s:List UInt8):Nat->Bool
 |0=>false
 |k+1=>NF l s k||decide (l[k]? =some s)
def lA (l:List (List UInt8)) (s:List UInt8) (k:Nat):NF l s k=true↔∃ i,i<k/\l[i]? =some s:=by
 induction k with
 |zero=>simp[NF]
 | succ k ih=>
   simp only[NF,RI,ih,z3z];constructor
   ·rintro(⟨i,b,a⟩|h)
    ·exact⟨i,om,a⟩
    ·exact⟨k,om,h⟩
   ·rintro⟨i,b,a⟩;by_cases e:i=k
    ·subst e;exact .inr a
    ·exact .inl ⟨i,om,a⟩
def Rq (l:List (List UInt8)) (s:List UInt8):NF l s l.length=l.contains s:=by
 rw[z7z,lA,Ap4,AN4];constructor
 ·rintro⟨i,-,h⟩;exact⟨i,h⟩
 ·rintro⟨i,h⟩;obtain⟨a,_⟩:=List.getElem?_eq_some_iff.1 h;exact⟨i,a,h⟩
def UI {s:List UInt8}(C:Hy Z v l) (F:l.length<=4294967296):
  Ev (gO 102 [v,str s] Z) (fun r=>∃ n:Int,r=⟨false,.int .i64 n,Z⟩/\(0<=n↔l.contains s=true)/\ -1<=n/\n<4294967297) ⟨⟩:=by
 obtain⟨a,c,b,off,cells,rfl,A,y⟩:=C.use;refine C8 Tryz.func102 rfl rfl ?_;refine gS ?_
 refine Bt (fun j d Z'=>∃ k,j=l.length-k/\k<=l.length/\d.get 0=some (.slice a l.length c)/\d.get 1=some (str s)/\d.get 7=some (.int .i64 l.length)/\d.get 8=some (.int .i64 k)/\Z'=Z/\NF l s k=false)
  (fun r=>(∃ d,r=⟨.exit 0,d,Z⟩/\NF l s l.length=false)\/(∃ d k,r=⟨.ret,d,Z⟩/\d.get 4=some (.int .i64 (k:Nat))/\k<l.length/\l.contains s=true)) l.length ?_ ?_ ?_
 ·refine⟨0,rfl,om,?_,?_,?_,?_,rfl,rfl⟩
  all_goals exact fR
 ·rintro j d Z' ⟨k,rfl,B,g,i,m,q,rfl,f⟩;by_cases u:k<l.length
  ·obtain⟨sp,rfl,E,D⟩:=A om;obtain⟨x,hx⟩:∃ x,l[k]? =some x:=⟨_,List.getElem?_eq_getElem u⟩
   have y:=y k x hx;have e:decide (k<l.length)=true:=by simpa using u
   refine gS1 (aI g (aI i (aI m (aI q (aI @Rr (aI e (aI D (aI @Ip y)))))))) ?_;refine Br.intro (fun o=>?_) (fun o=>?_)
   ·obtain rfl:s=x:=by simpa using o
    refine gS1 (aI g (aI i (aI m (aI q @qH)))) ?_;refine .inr ⟨_,k,rfl,fR,u,?_⟩;rw[Ap4];exact Ag hx
   ·have o:s≠x:=by simpa using o
    refine gS1 (aI g (aI i (aI m (aI q (aI @Rt @X8))))) ?_;refine⟨l.length-(k+1),om,k+1,rfl,om,fR1 g,fR1 i,fR1 m,fR,by trivial,?_⟩;show(NF l s k||decide (l[k]? =some s))=false;rw[f,hx]
    simpa using fun h=>o h.symm
  ·have e:decide (k<l.length)=false:=by simpa using u
   obtain rfl:k=l.length:=om;refine gS1 (aI g (aI i (aI m (aI q (aI @Rr (aI e @BT)))))) ?_;exact .inl ⟨_,rfl,f⟩
 ·rintro r (⟨d,rfl,f⟩|⟨d,k,rfl,z,B,f⟩)
  ·refine gS1 @Tryz.results102 ?_;refine⟨-1,rfl,?_,om,om⟩;rw[<- Rq,f];simp
  ·refine gS1 (aI @Tryz.results102 z) ?_;exact⟨k,rfl,by rw[f];simp,om,om⟩
def Oc {s:List UInt8}(e:Hy Z v l) (h:l.length<=4294967296):
  Ev (gO 50 [v,str s] Z) (fun r=>r=⟨false,.bool (l.contains s),Z⟩) ⟨⟩:=by
 have d:=e;obtain⟨a,c,b,off,cells,rfl,i,j⟩:=e.use;refine C8 Tryz.func50 rfl rfl ?_;refine gS ?_;refine(UI d h).mono ?_;rintro r ⟨n,rfl,f,k,m⟩;have g:(!decide (n<0))=l.contains s:=by
  rw[z7z,<- f];simp
 refine gS1 (aI @Tryz.results50 g) ?_;try exact⟨⟩
end
def AU0 {a:Type}{p:a->Bool}:∀ {l:List a},(l.takeWhile p).length=l.length↔l.all p=true:=by
 intro l;induction l with
 |nil=>simp
 | cons x l ih=>
   rw[lC,Od];cases b:p x with
   |false=>simp
   |true=>simpa using ih
def qI:BQ p s 0=s.length↔s.all (on p)=true:=by
 unfold BQ;rw[NG];exact AU0
def PY (p:Int->Bool) (s:By):Bool:=match s with
 |c::_=>on p c
 | []=>false
def Ru {c:UInt8}:PY p (c::s)=on p c:=rfl
def AP (s:By):Bool:=PY FE s&&decide (s.length<=30)&&s.all (on EW)
def AN5 (s:By):Bool:=match s with
 | [_]=>true
 |c::_=> !decide (c=48)
 | []=>false
def WG (s:By):Bool:=PY P9 s&&s.all (on P9)&&AN5 s
def ct:List By:=[[112,114,105,99,101],[108,111,119],[109,105,110],[109,97,120]]
def FH (s:By):Bool:=AP s&& !(ct.contains s)
def kV {Z:St}(m:s.length<9223372036854775807):Ev (gO 183 [str s] Z) (fun r=>r=⟨false,.bool (AP s),Z⟩) ⟨⟩:=by
 refine C8 Tryz.func183 rfl rfl ?_;cases s with
 | nil=>
   have b:decide (([]:By)=[])=true:=rfl;refine gS1 (aI b (a3N @D6 @D8 @Tryz.results183)) ?_;rfl
 | cons c s=>
   have b:decide (c::s=([]:By))=false:=rfl;have i:sub (c::s) 0 1=some [c]:=QW rfl;by_cases n:30<(c::s).length
   ·have e:decide (30<((c::s).length:Int))=true:=by rw[z3z];omega
    have g:AP (c::s)=false:=by unfold AP;rw[z4z (show ¬ (c::s).length<=30 by omega)];simp
    simp only[Ap]at e;refine gS1 (aI b (aI e (aI g (a3N @D6 @D8 @Tryz.results183)))) ?_;try exact⟨⟩
   have e:decide (30<((c::s).length:Int))=false:=by rw[Ob];omega
   have h:decide ((c::s).length<=30)=true:=dT;have d:=e;simp only[Ap]at d;refine gS1 (aI b (aI d (aI i @Fp))) ?_;refine Ur.mono ?_;rintro r rfl;cases a:FE (c.toNat:Nat)with
   | false=>
     have g:AP (c::s)=false:=by
      unfold AP;rw[Ru,show on FE c=false from a];rfl
     refine gS1 (aI b (aI d (aI g (aI a (a3N @D6 @D8 @Tryz.results183))))) ?_;try exact⟨⟩
   | true=>
     refine gS1 (aI b (aI d a)) ?_;refine(AU1 (k:=0) dU (BH _) m).mono ?_;rintro r rfl;rw[GK];have f:=qI (p:=EW) (s:=c::s);have j:decide ((BQ EW (c::s) 0:Int)=((s.length+1:Nat):Int))=AP (c::s):=by
      unfold AP;rw[Ru,show on FE c=true from a,h,Io,Io,z7z,z3z,<- f];simp only[Ap];omega
     refine gS1 (aI b (aI d (aI a (aI @D6 (aI @D8 (aI @Tryz.results183 j)))))) ?_;try exact⟨⟩
end
section
variable {Z:St}{v:Value}{k:Nat}
def GP {cells r:List Value}{o n i m:Nat}(h:sub cells o n=some r) (hi:i+m<=n):sub cells (o+i) m=sub r i m:=by
 obtain⟨b,a⟩:=sub_eq h;subst a;rw[BR om,BR (by simp;omega)];congr 1;rw[List.drop_take,Zf,UM];congr 1;omega
def I1 {b:Type}{l:List b}(h:k<l.length):∃ a,l[k]? =some a:=⟨_,List.getElem?_eq_getElem h⟩
def Aa7 {b c:Type}{l:List b}{a:b}(f:b->c) (h:l[k]? =some a):(l.map f)[k]? =some (f a):=by rw[List.getElem?_map,h];rfl
def SL.Lo {g:Type}{size:Nat}{l:List g}{f:g->List Value}(h:SL Z size v (l.map f)):∃ a c b off cells,v= .slice a l.length c/\(0<l.length->∃ sp,a=some ⟨b,off,sp⟩/\b<Z.n/\Z.row b=some cells)/\∀ k x,l[k]? =some x->sub cells (off+k*size) size=some (f x):=by
 obtain⟨a,c,b,off,cells,d,e,i⟩:=SL.use h;rw[z2z]at d e;exact⟨a,c,b,off,cells,d,e,fun k x j=>i k _ (Aa7 f j)⟩
def xg.use {l:List Lot}(h:xg Z v l):∃ a c b off cells,v= .slice a l.length c/\(0<l.length->∃ sp,a=some ⟨b,off,sp⟩/\b<Z.n/\Z.row b=some cells) /\
  ∀ k x,l[k]? =some x->sub cells (off+k*2) 2=some x.row/\sub cells (off+k*2) 1=some [.int .i64 x.id]/\sub cells (off+k*2+1) 1=some [.int .i64 x.AE]:=by
 obtain⟨a,c,b,off,cells,d,e,f⟩:=SL.Lo h;refine⟨a,c,b,off,cells,d,e,fun k x g=>?_⟩;have h:=f k x g;exact⟨h,by rw[<- j7 (off+k*2),GP h om];rfl,by rw[GP h om];rfl⟩
def PQ.use {l:List CL}(h:PQ Z v l):∃ a c b off cells,v= .slice a l.length c/\(0<l.length->∃ sp,a=some ⟨b,off,sp⟩/\b<Z.n/\Z.row b=some cells) /\
  ∀ k x,l[k]? =some x->sub cells (off+k*5) 5=some x.row/\sub cells (off+k*5) 1=some [str x.name]/\sub cells (off+k*5+1) 1=some [.int .i64 x.kind]/\sub cells (off+k*5+2) 1=some [.int .i64 x.low]/\sub cells (off+k*5+3) 1=some [.int .i64 x.high]/\sub cells (off+k*5+4) 1=some [.bool x.less]:=by
 obtain⟨a,c,b,off,cells,d,e,f⟩:=SL.Lo h;refine⟨a,c,b,off,cells,d,e,fun k x g=>?_⟩;have h:=f k x g;exact⟨h,by rw[<- j7 (off+k*5),GP h om];rfl,by rw[GP h om];rfl,by rw[GP h om];rfl,by rw[GP h om];rfl,by rw[GP h om];rfl⟩
def xh.use {l:List Req}(h:xh Z v l):∃ a c b off cells,v= .slice a l.length c/\(0<l.length->∃ sp,a=some ⟨b,off,sp⟩/\b<Z.n/\Z.row b=some cells) /\
  ∀ k x,l[k]? =some x->sub cells (off+k*3) 3=some x.row/\sub cells (off+k*3) 1=some [str x.name]/\sub cells (off+k*3+1) 1=some [str x.rel]/\sub cells (off+k*3+2) 1=some [.int .i64 x.value]:=by
 obtain⟨a,c,b,off,cells,d,e,f⟩:=SL.Lo h;refine⟨a,c,b,off,cells,d,e,fun k x g=>?_⟩;have h:=f k x g;exact⟨h,by rw[<- j7 (off+k*3),GP h om];rfl,by rw[GP h om];rfl,by rw[GP h om];rfl⟩
def LJ.use {l:List Int}(h:LJ Z v l):∃ a c b off cells,v= .slice a l.length c/\(0<l.length->∃ sp,a=some ⟨b,off,sp⟩/\b<Z.n/\Z.row b=some cells) /\
  ∀ k x,l[k]? =some x->sub cells (off+k) 1=some [.int .i64 x]:=by
 obtain⟨a,c,b,off,cells,d,e,f⟩:=SL.Lo h;exact⟨a,c,b,off,cells,d,e,fun k x g=>by have:=f k x g;rwa [Ip]at this⟩
end
section
variable {l:List Nat}{c b:Nat}{op nm:By}{d:Int}
structure FG (Z Z':St):Prop where
 n:Z.n<=Z'.n
 row:∀ b cells,b<Z.n->Z.row b=some cells->Z'.row b=some cells
def FG.trans {Z Z' a:St}(h:FG Z Z') (k:FG Z' a):FG Z a:=⟨j9 h.n k.n,fun b cells e f=>k.row b cells (z5z e h.n) (h.row b cells e f)⟩
def FG.qO {Z Z':St}(h:Ext Z Z'):FG Z Z':=⟨h.n,fun b cells a e=>by rw[h.row a];exact e⟩
def SL.I2 {Z Z':St}{size:Nat}{v:Value}{a:List (List Value)}(h:SL Z size v a) (f:FG Z Z'):SL Z' size v a:=by
 rcases h with h|⟨b,off,sp,c,cells,g,e,i,j⟩
 ·exact .inl h
 ·exact .inr ⟨b,off,sp,c,cells,g,z5z e f.n,f.row _ _ e i,j⟩
mutual
theorem P8.I2 {Z Z':St}(a:FG Z Z'){row:List Value}:∀ {e:Ex},P8 Z row e->P8 Z' row e
 | .mk op n d nm args,h=>by
   obtain⟨v,B9,h1,h2,h4,h3⟩:=h;exact⟨v,B9,h1,SL.I2 h2 a,h4,Cn.I2 a h3⟩
theorem Cn.I2 {Z Z':St}(f:FG Z Z'){a:List (List Value)}:∀ {es:List Ex},Cn Z a es->Cn Z' a es
 | [],h=>h
 | e::es,h=>by
   obtain⟨r,rs,h1,h2,h3⟩:=h;exact⟨r,rs,h1,P8.I2 f h2,Cn.I2 f h3⟩
end
noncomputable def N5 (Z:St) (l:List Nat):St:=l.foldl St.dead Z
def LV {Z:St}:(Z.dead b).row b=none:=by
 show ob (ob (ob ((Z.dead b).h.get b) _) _) _=none;rw[IZ,z1z rfl];rfl
def EY:∀ {Z:St},(N5 Z l).n=Z.n:=by
 induction l with
 |nil=>intro Z;rfl
 |cons b l a=>intro Z;show(N5 (Z.dead b) l).n=Z.n;rw[a];rfl
def Bx:∀ {Z:St},c∉l->(N5 Z l).row c=Z.row c:=by
 induction l with
 |nil=>intro Z _;rfl
 | cons b l ih=>
   intro Z h;show(N5 (Z.dead b) l).row c=_;rw[ih (fun a=>h (by simp[a])),KE (fun e=>h (by simp[e]))]
def lH:∀ {Z:St},Z.row c=none->(N5 Z l).row c=none:=by
 induction l with
 |nil=>intro Z h;exact h
 | cons b l ih=>
   intro Z h;show(N5 (Z.dead b) l).row c=_;refine ih ?_;by_cases e:c=b
   ·subst e;exact LV
   ·rw[KE e];exact h
def KF:∀ {Z:St},c∈l->(N5 Z l).row c=none:=by
 induction l with
 |nil=>intro Z h;cases h
 | cons b l ih=>
   intro Z h;show(N5 (Z.dead b) l).row c=_;rcases W1.1 h with rfl|h
   ·exact lH LV
   ·exact ih h
def AZ {Z Z':St}{l':List Nat}(j:Z.n<=Z'.n) (h:∀ c,c<Z.n->c∉l->c∉l'/\Z'.row c=Z.row c):FG (N5 Z l) (N5 Z' l'):=by
 refine⟨by rw[EY,EY];exact j,fun c cells f a=>?_⟩;rw[EY]at f;by_cases e:c∈l
 ·rw[KF e]at a;cases a
 ·obtain⟨g,i⟩:=h c f e;rw[Bx e]at a;rw[Bx g,i];exact a
def I9 {Z Z':St}(a:Ext Z Z'):FG (N5 Z l) (N5 Z' l):=AZ a.n fun c e h=>⟨h,a.row e⟩
def KG {Z:St}:FG (N5 Z l) Z:=by
 have:=AZ (Z:=Z) (Z':=Z) (l:=l) (l':=[]) nL fun c _ _=>⟨by simp,rfl⟩
 exact this
def Ty (v:Value):List Nat:=(P4 v).toList
section
variable {H:List Nat}{lo:Nat}{Z Z':St}{v:Value}{n k:Nat}
end
structure Psh (Z Z':St) (v v':Value):Prop where
 n:Z.n<=Z'.n
 same:∀ c,c<Z.n->P4 v≠some c->Z'.h.get c=Z.h.get c
 blk:∀ b,P4 v'=some b->P4 v=some b\/Z.n<=b
def Rw {a:Type}{l new:List a}:∀ {o:Nat},o+new.length<=l.length->N8 l o new=some (l.take o++new++l.drop (o+new.length)):=by
 intro o;induction o generalizing l with
 | zero =>
   intro h;rw[GK]at h ⊢;have:∀ (new l:List a),new.length<=l.length->over new l=some (new++l.drop new.length):=by
    intro new;induction new with
    |nil=>intro l _;rfl
    | cons x new ih=>
      intro l h;cases l with
      |nil=>simp at h
      | cons y l=>
        rw[Ut,ih l (by simpa using h)];rfl
   rw[PZ,MC,<- this new l h];cases l with
   | nil=>cases new with
     |nil=>rfl
     |cons x new=>simp at h
   |cons y l=>rfl
 | succ o ih=>
   intro h;cases l with
   |nil=>simp at h
   | cons y l=>
     rw[A6,ih (by simp at h;omega),D5];rw[show o+1+new.length=(o+new.length)+1 by omega];rfl
def qP {Z:St}{n:Int}:P8 Z [str op,.int .i64 n,.int .i64 d,str nm,.slice none 0 0] (.mk op n d nm []):=⟨_,[],rfl,SL.nil,by simp,rfl⟩
def AU3 {Z:St}{n:Int}{g:Nat}{sp:Option Nat}{a e cells:List Value}{x y:Ex}(j:b<Z.n) (o:Z.row b=some cells) (m:cells=a++e) (h:P8 Z a x) (i:P8 Z e y):
  P8 Z [str op,.int .i64 n,.int .i64 d,str nm,.slice (some ⟨b,0,sp⟩) 2 g] (.mk op n d nm [x,y]):=by
 have p:=h.len;have q:=i.len;subst m;refine⟨_,[a,e],rfl,.inr ⟨b,0,sp,g,_,rfl,j,o,fun k r f=>?_⟩,by simp,a,[e],rfl,h,e,[],rfl,i,rfl⟩;rcases k with _|_|k
 ·cases f;rw[BR (by simp;omega)];simp[List.take_append_of_le_length,p]
 ·cases f;rw[BR (by simp;omega)];rw[show 0+(0+1)*5=a.length by omega,List.drop_left,Og om]
 ·simp at f
end
section
variable {size lo b:Nat}{v:Value}{B9:List (List Value)}{cells:List Value}
structure J9 (p:Nat) (Z Z':St):Prop where
 n:Z.n<=Z'.n
 same:∀ b,b<Z.n->b≠p->Z'.h.get b=Z.h.get b
section
variable {p:Nat}{Z Z' Z'':St}
def J9.refl:J9 p Z Z:=⟨Bh _,fun _ _ _=>rfl⟩
def J9.of (h:Ext Z Z'):J9 p Z Z':=⟨h.n,fun b a _=>h.same b a⟩
def J9.trans (h:J9 p Z Z') (k:J9 p Z' Z''):J9 p Z Z'':=⟨j9 h.n k.n,fun b c a=>by rw[k.same b (z5z c h.n) a,h.same b c a]⟩
def J9.upd (h:J9 p Z Z') (cs:List Value):J9 p Z (Z'.upd p cs):=⟨h.n,fun b c a=>by rw[Aa,z0z a,h.same b c a]⟩
def J9.ext {Z0:St}(h:J9 p Z Z') (a:Ext Z0 Z) (d:Z0.n<=p):Ext Z0 Z':=⟨j9 a.n h.n,fun b c=>by rw[h.same b (z5z c a.n) om,a.same b c]⟩
def J9.row (h:J9 p Z Z') (c:b<Z.n) (a:b≠p):Z'.row b=Z.row b:=BS (h.same b c a)
def J9.A7 (h:J9 p Z Z') (c:b<Z.n) (a:b≠p):Z'.A7 b=Z.A7 b:=F7 (h.same b c a)
end
def SLs (Z:St) (size:Nat) (v:Value) (B9:List (List Value)):Prop:=(∀ r∈B9,r.length=size) /\
 ((v= .slice none 0 0/\B9=[])\/∃ b off sp c cells,v= .slice (some ⟨b,off,sp⟩) B9.length c/\b<Z.n/\Z.row b=some cells/\sub cells off (B9.length*size)=some B9.flatten)
def SLs.nil {Z:St}:SLs Z size (.slice none 0 0) []:=⟨fun r h=>by simp at h,.inl ⟨rfl,rfl⟩⟩
def SLs.sl {Z:St}(h:SLs Z size v B9):SL Z size v B9:=by
 obtain⟨f,h|⟨b,off,sp,c,cells,g,i,j,l⟩⟩:=h
 ·exact .inl h
 ·refine .inr ⟨b,off,sp,c,cells,g,i,j,fun k r d=>?_⟩;have e:=(List.getElem?_eq_some_iff.1 d).1;have a:k*size+size<=B9.length*size:=by
   have:(k+1)*size<=B9.length*size:=kh size e;rw[UA]at this;exact this
  rw[GP l a,<- j7 (k*size),KH f d om];have:=f r (Ag d);exact C9 om om
def SLs.I2 {Z Z':St}(h:SLs Z size v B9) (d:FG Z Z'):SLs Z' size v B9:=by
 obtain⟨e,h|⟨b,off,sp,c,cells,f,a,g,i⟩⟩:=h
 ·exact⟨e,.inl h⟩
 ·exact⟨e,.inr ⟨b,off,sp,c,cells,f,z5z a d.n,d.row _ _ a g,i⟩⟩
def OL.N5 {Z:St}{H:List Nat}(h:OL lo Z size v B9) (e:∀ q∈H,q<lo):SLs (N5 Z H) size v B9:=by
 obtain⟨a,⟨rfl,rfl⟩|⟨b,sp,rfl,i,g,c,d⟩⟩:=h
 ·exact .nil
 ·have:=Hl B9 a;exact⟨a,.inr ⟨b,0,sp,_,_,rfl,by rw[EY];exact c,by rw[Bx fun f=>by have:=e b f;omega];exact A9 d,C9 om om⟩⟩
def OL.shape {Z:St}(h:OL lo Z size v B9):∃ a,v= .slice a B9.length B9.length:=by
 obtain⟨c,⟨rfl,rfl⟩|⟨b,sp,rfl,-⟩⟩:=h
 ·exact⟨_,rfl⟩
 ·exact⟨_,rfl⟩
def OL.BX {p:Nat}{Z Z':St}(h:OL lo Z size v B9) (a:J9 p Z Z') (d:p<lo):OL lo Z' size v B9:=by
 refine h.I2 a.n fun b c=>?_;have:=h.blk c;exact a.same b this.2 om
def TnX (Z:St) (cells:List Value) (T:Tn):Prop :=
 ∃ vl vc vr ex vt vk vs,cells=Ui T.name vl vc vr T.low T.high ex vt T.AE vk T.U6 T.t/\SLs Z 2 vl (T.AG.map Lot.row)/\SLs Z 5 vc (T.G7.map CL.row)/\SLs Z 3 vr (T.reqs.map Req.row)/\P8 Z ex T.f /\
  SLs Z 1 vt (T.AQ.map fun s=>[str s])/\SLs Z 1 vk (vs.map fun x=>[x])/\Mk (LJ Z) vs T.K7
def TnX.tn {Z:St}{T:Tn}(h:TnX Z cells T):Jb Z cells T:=by
 obtain⟨m,vc,n,a,q,l,o,c,d,e,f,g,i,j,k⟩:=h;exact⟨m,vc,n,a,q,l,c,d.sl,e.sl,f.sl,g,i.sl,o,j.sl,k⟩
def TnX.I2 {Z Z':St}{T:Tn}(h:TnX Z cells T) (a:FG Z Z'):TnX Z' cells T:=by
 obtain⟨n,vc,o,c,r,m,q,d,e,f,g,i,j,k,l⟩:=h;exact⟨n,vc,o,c,r,m,q,d,e.I2 a,f.I2 a,g.I2 a,i.I2 a,j.I2 a,k.I2 a,l.mono fun _ _ h=>SL.I2 h a⟩
def Tn.Le (n:Nat) (T:Tn):Prop:=T.AG.length<=n/\T.G7.length<=n/\T.reqs.length<=n/\T.AQ.length<=n/\T.K7.length<=n
end
abbrev Tok:=By×Nat
def BJ2 (t:Tok):List Value:=[str t.1,.int .i64 (t.2:Nat)]
structure Sc (Z:St) (b:Nat) (v:Value) (D4:List Tok) (k:Nat) (N7:List Value):Prop where
 row:Z.A7 b=some (v:: .int .i64 (k:Nat)::N7)
 lt:b<Z.n
 sl:SL Z 2 v (D4.map BJ2)
 ne:P4 v≠some b
 k:k<D4.length
 len:D4.length<4611686018427387904
def ptr (b:Nat):Value:= .pointer (some ⟨b,0,none⟩)
def J9.yC {p:Nat}{Z Z':St}{c:Nat}(h:J9 p Z Z') (e:Z.n<=c) (cs:List Value):J9 p Z (Z'.upd c cs):=⟨h.n,fun b d a=>by rw[Aa,z0z om,h.same b d a]⟩
def d10:decide (((1:Nat):Int)=0)=false:=rfl
def cut (l:List By) (n i:Nat):List Value:=(l.take i).map str++List.replicate (n-i) (str [])

def ku {c:UInt8}(h:on P9 c=true):48<=c.toNat/\c.toNat<=57:=by
 unfold on P9 at h;simp at h;omega
def uP {s:By}(h:WG s=true):s.all (on P9)=true/\0<s.length/\s≠[]:=by
 unfold WG at h;rw[R2,R2]at h;refine⟨h.1.2,?_,?_⟩
 ·cases s with
  |nil=>simp[PY]at h
  |cons=>simp
 ·rintro rfl;simp[PY]at h
section
variable {Z:St}{b:Nat}{v:Value}{D4:List Tok}{k:Nat}{N7:List Value}{t:Tok}
end

section
variable {Z:St}{op nm:By}{n d:Int}
mutual
def ExX (Z:St) (row:List Value):Ex->Prop
 | .mk op n d nm args=>∃ v B9,row=[str op,.int .i64 n,.int .i64 d,str nm,v]/\SLs Z 5 v B9/\args.length<=4/\SA Z B9 args
def SA (Z:St) (B9:List (List Value)):List Ex->Prop
 | []=>B9=[]
 |e::es=>∃ r rs,B9=r::rs/\ExX Z r e/\SA Z rs es
end
mutual
theorem ExX.to {Z:St}{row:List Value}:∀ {e:Ex},ExX Z row e->P8 Z row e
 | .mk op n d nm args,h=>by
   obtain⟨v,B9,h1,h2,h4,h3⟩:=h;exact⟨v,B9,h1,h2.sl,h4,SA.to h3⟩
theorem SA.to {Z:St}{a:List (List Value)}:∀ {es:List Ex},SA Z a es->Cn Z a es
 | [],h=>h
 | e::es,h=>by
   obtain⟨r,rs,h1,h2,h3⟩:=h;exact⟨r,rs,h1,ExX.to h2,SA.to h3⟩
end
mutual
theorem ExX.I2 {Z Z':St}(a:FG Z Z'){row:List Value}:∀ {e:Ex},ExX Z row e->ExX Z' row e
 | .mk op n d nm args,h=>by
   obtain⟨v,B9,h1,h2,h4,h3⟩:=h;exact⟨v,B9,h1,SLs.I2 h2 a,h4,SA.I2 a h3⟩
theorem SA.I2 {Z Z':St}(b:FG Z Z'){a:List (List Value)}:∀ {es:List Ex},SA Z a es->SA Z' a es
 | [],h=>h
 | e::es,h=>by
   obtain⟨r,rs,h1,h2,h3⟩:=h;exact⟨r,rs,h1,ExX.I2 b h2,SA.I2 b h3⟩
end
def Ap6:ExX Z [str op,.int .i64 n,.int .i64 d,str nm,.slice none 0 0] (.mk op n d nm []):=⟨_,[],rfl,SLs.nil,by simp,rfl⟩
def iG {row:List Value}{e:Ex}(h:ExX Z row e):row.length=5:=h.to.len
def BE2 {b f:Nat}{sp:Option Nat}{c a cells:List Value}{x y:Ex}(i:b<Z.n) (e:Z.row b=some cells) (j:cells=c++a) (g:ExX Z c x) (h:ExX Z a y):
  ExX Z [str op,.int .i64 n,.int .i64 d,str nm,.slice (some ⟨b,0,sp⟩) 2 f] (.mk op n d nm [x,y]):=by
 have k:=iG g;have l:=iG h;subst j;refine⟨_,[c,a],rfl,⟨fun r e=>?_,.inr ⟨b,0,sp,f,_,rfl,i,e,?_⟩⟩,by simp,c,[a],rfl,g,a,[],rfl,h,rfl⟩
 ·simp only[W1,EP,EK]at e;rcases e with rfl|rfl
  ·exact k
  ·exact l
 ·show sub (c++a) 0 (2*5)=some (c++(a++[]));rw[Du];exact C9 (by simp;omega) (by simp;omega)
end
def szT (i:Nat):Nat:=match i with
 |0=>2
 |1=>5
 |2=>3
 |_=>1
def AK5 (T:Tn) (vs:List Value) (i:Nat):List (List Value):=match i with
 |0=>T.AG.map Lot.row
 |1=>T.G7.map CL.row
 |2=>T.reqs.map Req.row
 |3=>T.AQ.map fun s=>[str s]
 |_=>vs.map fun x=>[x]
def held (bt bx:Nat) (v:Nat->Value):List Nat:=List.range bt++bt::bx::(Ty (v 0)++Ty (v 1)++Ty (v 2)++Ty (v 3)++Ty (v 4))
def tnR (T:Tn) (v:Nat->Value) (fc:List Value):List Value:=Ui T.name (v 0) (v 1) (v 2) T.low T.high fc (v 3) T.AE (v 4) T.U6 T.t
structure Ln (ZL Z:St) (bt bx:Nat) (T:Tn) (tv:Value) (D4:List Tok) (k:Nat) (N7:List Value) (v:Nat->Value) (fc vs:List Value):Prop where
 ext:J9 bt ZL Z
 btl:bt<ZL.n
 bxg:ZL.n<=bx
 row:Z.A7 bt=some (tnR T v fc)
 sl:∀ i,i<5->OL ZL.n Z (szT i) (v i) (AK5 T vs i)
 dis:∀ i j c,i<5->j<5->i≠j->P4 (v i)=some c->P4 (v j)≠some c
 dx:∀ i,i<5->P4 (v i)≠some bx
 fx:P8 (N5 Z (held bt bx v)) fc T.f
 iv:Mk (LJ (N5 Z (held bt bx v))) vs T.K7
 sc:Sc Z bx tv D4 k N7
 tk:∀ c,P4 tv=some c->c≠bt/\∀ i,i<5->P4 (v i)≠some c
section
variable {ZL Z Z':St}{bt bx:Nat}{T T':Tn}{tv:Value}{D4:List Tok}{k k':Nat}{N7 BV7:List Value}{v:Nat->Value}{fc fc' vs vs':List Value}
end
section
variable {bs:List Nat}{i j o n:Nat}{a:St}{l:List Value}
abbrev Er:=Nat×Int
def Hj {c d:Type}(x:Except Er c) (f:c->Except Er d):Except Er d:=match x with
 | .ok a=>f a
 | .error e=> .error e
def CF {c d:Type}{a:c}{f:c->Except Er d}:Hj (.ok a) f=f a:=rfl
def Ah (D4:List Tok) (k:Nat):Tok:=D4.getD k ([],0)
section
variable {Z:St}{b:Nat}{v:Value}{D4:List Tok}{k:Nat}{N7:List Value}
end
section
variable {Z ZL:St}{bt bx:Nat}{T:Tn}{tv:Value}{D4:List Tok}{k:Nat}{tx:By}{Hk:Nat}{v:Nat->Value}{fc vs:List Value}
def G9 {b:Nat}{c:List Ab.Trace}:W5 bs i ⟨b,o,n⟩ (.eff j a (a.new l)::c)=W5 bs i ⟨b,o,n⟩ c:=Wi fun h=>(Ext.new a l).same b h
def G6 {b c:Nat}{d:List Ab.Trace}(h:b≠c):W5 bs i ⟨b,o,n⟩ (.eff j a (a.upd c l)::d)=W5 bs i ⟨b,o,n⟩ d:=Wi fun _=>by show(a.upd c l).h.get b=_;rw[Aa,z0z h]
def W6 {r:Ay}{b:St}{c:List Ab.Trace}(h:ordered bs i j=true):W5 bs i r (.eff j a b::c)=W5 bs i r c:=by
 show bi (bi (ordered bs i j) true (bi (Nat.blt r.b a.n) (bi (Nat.beq (a.ver r.b) (b.ver r.b)) true (Cy (a.read r.b r.off r.n) (b.read r.b r.off r.n))) true)) (W5 bs i r c) false=_;rw[h];rfl
def fc5 {Z:St}{fc:List Value}{e:Ex}(h:P8 Z fc e):∃ c1 c2 c3 c4 c5,fc=[c1,c2,c3,c4,c5]:=by
 cases e with
 | mk op n d nm args=>
   obtain⟨v,f,c,-⟩:=h;exact⟨_,_,_,_,_,c⟩
end
end
section
variable {Z ZL:St}{bt bx:Nat}{T:Tn}{tv:Value}{D4:List Tok}{k:Nat}{tx:By}{Hk:Nat}{v:Nat->Value}{fc vs:List Value}
end
section
variable {Z ZL:St}{bt bx:Nat}{T:Tn}{tv:Value}{D4:List Tok}{k:Nat}{tx:By}{Hk:Nat}{v:Nat->Value}{fc vs:List Value}
end
section
variable {Z ZL:St}{bt bx:Nat}{T:Tn}{tv:Value}{D4:List Tok}{k:Nat}{tx:By}{Hk:Nat}{v:Nat->Value}{fc vs:List Value}
def pB:By:=[103,114,97,100,101]
def pA:By:=[111,102,102,101,114]
def AL0:By:=[108,101,115,115]
end
section
variable {Z ZL:St}{bt bx:Nat}{T:Tn}{tv:Value}{D4:List Tok}{k:Nat}{tx:By}{Hk:Nat}{v:Nat->Value}{fc vs:List Value}
def J8:By:=[112,114,105,99,101]
end
section
variable {Z:St}
end
section
variable {Z ZL:St}{bt bx:Nat}{T:Tn}{tv:Value}{D4:List Tok}{k:Nat}{tx:By}{Hk:Nat}{v:Nat->Value}{fc vs:List Value}
end
section
variable {Z ZL:St}{bt bx:Nat}{T:Tn}{tv:Value}{D4:List Tok}{k:Nat}{tx:By}{Hk:Nat}{v:Nat->Value}{fc vs:List Value}
end
end Go.Proofs.T
