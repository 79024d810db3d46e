/- A AQ, as plain data, and how it BV0 in memory. -/
import Derived.Test.YtbcanmagihejhaaGreatDoorTB
set_option linter.unusedSimpArgs false
set_option linter.unusedVariables false
set_option linter.defProp false
set_option maxHeartbeats 32000000
set_option maxRecDepth 100000
namespace Go.Proofs.T
open Go Go.Ab
section
variable {Z Z':St}{v:Value}{cells:List Value}
abbrev By:=List UInt8
def X6 (n:Int):Prop:= -9223372036854775808<=n/\n<=9223372036854775807
structure Lot where
 id:Int
 G4:Int
 deriving DecidableEq
structure S8 where
 name:By
 kind:Int
 low:Int
 high:Int
 less:Bool
 deriving DecidableEq
structure Req where
 name:By
 rel:By
 value:Int
 deriving DecidableEq
inductive Ex where
 |mk (op:By) (num den:Int) (name:By) (args:List Ex)
structure Tim where
 q:Int
 b:Int
 g:Int
 p:Int
 s:Int
 deriving DecidableEq
structure Tn where
 name:By
 F9:List Lot
 E9:List S8
 reqs:List Req
 low:Int
 high:Int
 f:Ex
 H2:List By
 G4:Int
 C8:List (List Int)
 C9:Int
 t:Tim
def Lot.row (l:Lot):List Value:=[.int .i64 l.id,.int .i64 l.G4]
def S8.row (c:S8):List Value:=[str c.name,.int .i64 c.kind,.int .i64 c.low,.int .i64 c.high,.bool c.less]
def Req.row (r:Req):List Value:=[str r.name,str r.rel,.int .i64 r.value]
def GG (Z:St) (v:Value) (l:List Int):Prop:=SL Z 1 v (l.map fun n=>[.int .i64 n])
def iq (Z:St) (v:Value) (l:List Lot):Prop:=SL Z 2 v (l.map Lot.row)
def TO (Z:St) (v:Value) (l:List S8):Prop:=SL Z 5 v (l.map S8.row)
def ir (Z:St) (v:Value) (l:List Req):Prop:=SL Z 3 v (l.map Req.row)
def EK {α β:Type}(R:α->β->Prop):List α->List β->Prop
 | [],[]=>True
 |a::l,b::k=>R a b/\EK R l k
 |_,_=>False
def EK.len {α β:Type}{R:α->β->Prop}:∀ {l:List α}{k:List β},EK R l k->l.length=k.length
 | [],[],_=>rfl
 |_::_,_::_,h=>by rw[AG,AG,h.2.len]
 | [],_::_,h=>h.elim
 |_::_,[],h=>h.elim
def EK.get {α β:Type}{R:α->β->Prop}:∀ {l:List α}{k:List β}{i:Nat}{a:α}{b:β},EK R l k->l[i]? =some a->k[i]? =some b->R a b
 |a::l,b::k,0,_,_,h,h1,h2=>by cases h1;cases h2;exact h.1
 |a::l,b::k,i+1,_,_,h,h1,h2=>h.2.get (i:=i) (by simpa using h1) (by simpa using h2)
 | [],_,_,_,_,_,h1,_=>by simp at h1
 |_::_,[],_,_,_,h,_,_=>h.elim
def EK.mono {α β:Type}{R S:α->β->Prop}(hRS:∀ a b,R a b->S a b):∀ {l:List α}{k:List β},EK R l k->EK S l k
 | [],[],_=>trivial
 |_::_,_::_,h=>⟨hRS _ _ h.1,h.2.mono hRS⟩
 | [],_::_,h=>h.elim
 |_::_,[],h=>h.elim
def EK.app {α β:Type}{R:α->β->Prop}{a:α}{b:β}(hab:R a b):∀ {l:List α}{k:List β},EK R l k->EK R (l++[a]) (k++[b])
 | [],[],_=>⟨hab,trivial⟩
 |_::_,_::_,h=>⟨h.1,h.2.app hab⟩
 | [],_::_,h=>h.elim
 |_::_,[],h=>h.elim
def LU (Z:St) (v:Value) (l:List (List Int)):Prop:=∃ vs:List Value,SL Z 1 v (vs.map fun x=>[x])/\EK (GG Z) vs l
mutual
def Aq (Z:St) (row:List Value):Ex->Prop
 | .mk op n d nm args=>∃ v D0,row=[str op,.int .i64 n,.int .i64 d,str nm,v]/\SL Z 5 v D0/\args.length<=4/\BH Z D0 args
def BH (Z:St) (D0:List (List Value)):List Ex->Prop
 | []=>D0=[]
 |e::es=>∃ r rs,D0=r::rs/\Aq Z r e/\BH Z rs es
end
mutual
theorem Aq.mono {Z Z':St}(a:Ext Z Z'){row:List Value}:∀ {e:Ex},Aq Z row e->Aq Z' row e
 | .mk op n d nm args,h=>by
   obtain⟨v,D0,h1,h2,h4,h3⟩:=h;exact⟨v,D0,h1,h2.mono a,h4,BH.mono a h3⟩
theorem BH.mono {Z Z':St}(a:Ext Z Z'){D0:List (List Value)}:∀ {es:List Ex},BH Z D0 es->BH Z' D0 es
 | [],h=>h
 | e::es,h=>by
   obtain⟨r,rs,h1,h2,h3⟩:=h;exact⟨r,rs,h1,Aq.mono a h2,BH.mono a h3⟩
end
def BH.len {Z:St}:∀ {D0:List (List Value)}{es:List Ex},BH Z D0 es->D0.length=es.length
 |_,[],h=>by rw[show _=_ from h];rfl
 | _,e::es,h=>by
   obtain⟨r,rs,rfl,-,h3⟩:=h;rw[AG,AG,h3.len]
def BH.get {Z:St}:∀ {D0:List (List Value)}{es:List Ex}{i:Nat}{r:List Value}{e:Ex},BH Z D0 es->D0[i]? =some r->es[i]? =some e->Aq Z r e
 |_,[],_,_,_,_,_,h2=>by simp at h2
 | _,e::es,i,_,_,h,h1,h2=>by
   obtain⟨r,rs,rfl,h3,h4⟩:=h;cases i with
   |zero=>cases h1;cases h2;exact h3
   |succ i=>exact h4.get (i:=i) (by simpa using h1) (by simpa using h2)
def Ae (nm:By) (e c f:Value) (low high:Int) (a:List Value) (h:Value) (G4:Int) (d:Value) (C9:Int) (t:Tim):List Value :=
 [str nm,e,c,f,.int .i64 low,.int .i64 high]++a++[h,.int .i64 G4,d,.int .i64 C9,.int .i64 t.q,.int .i64 t.b,.int .i64 t.g,.int .i64 t.p,.int .i64 t.s]
def Bj (Z:St) (cells:List Value) (T:Tn):Prop :=
 ∃ vl vc vr ex vt vk,cells=Ae T.name vl vc vr T.low T.high ex vt T.G4 vk T.C9 T.t/\iq Z vl T.F9/\TO Z vc T.E9/\ir Z vr T.reqs/\Aq Z ex T.f/\HL Z vt T.H2/\LU Z vk T.C8
def GG.mono {l:List Int}(h:GG Z v l) (a:Ext Z Z'):GG Z' v l:=SL.mono h a
def LU.mono {l:List (List Int)}(h:LU Z v l) (a:Ext Z Z'):LU Z' v l:=by
 obtain⟨vs,b,c⟩:=h;exact⟨vs,b.mono a,c.mono fun _ _ h=>h.mono a⟩
def Bj.mono {T:Tn}(h:Bj Z cells T) (a:Ext Z Z'):Bj Z' cells T:=by
 obtain⟨n,l,o,b,p,m,c,d,e,f,g,i,j⟩:=h;exact⟨n,l,o,b,p,m,c,SL.mono d a,SL.mono e a,SL.mono f a,g.mono a,i.mono a,j.mono a⟩
def Aq.len {Z:St}{row:List Value}:∀ {e:Ex},Aq Z row e->row.length=5
 | .mk _ _ _ _ _,h=>by obtain⟨v,D0,rfl,-,-⟩:=h;rfl
def Bj.len {T:Tn}(h:Bj Z cells T):cells.length=20:=by
 obtain⟨e,c,f,b,g,d,rfl,-,-,-,a,-⟩:=h;simp[Ae,a.len]
def names:List By:=[[113,117,97,108,105,116,121],[100,97,121,115],[115,116,97,102,102],[112,114,105,99,101],[108,111,119],[115,112,101,101,100],[99,111,109,102,111,114,116],[119,101,105,103,104,116]]
structure Tn.Ok (T:Tn):Prop where
 F9:T.F9.length<=16
 lot:∀ l∈T.F9,0<=l.id/\l.id<10/\X6 l.G4
 E9:T.E9.length<=16
 Y7:∀ c∈T.E9,c.name∈names/\X6 c.kind/\X6 c.low/\X6 c.high
 reqs:T.reqs.length<=8
 req:∀ r∈T.reqs,r.name∈names/\r.rel.length<=2/\X6 r.value
 low:X6 T.low
 high:X6 T.high
 H2:T.H2.length<=16
 tie:∀ s∈T.H2,s∈names
 G4:X6 T.G4
 C8:T.C8.length<=16
 combo:∀ l∈T.C8,l.length<=4/\∀ n∈l,X6 n
 C9:X6 T.C9
 tim:X6 T.t.q/\X6 T.t.b/\X6 T.t.g/\X6 T.t.p/\X6 T.t.s
end
section
variable {Z:St}{n:Int}{k:Nat}
def DC (n:Int):Bool:=(!decide (n<97)&& !decide (122<n))||(!decide (n<65)&& !decide (90<n))
def J3 (n:Int):Bool:= !decide (n<48)&& !decide (57<n)
def DD (n:Int):Bool:=DC n||J3 n||decide (n=95)
def H7:yieldOf true R7=false:=rfl
def I0:yieldOf false R7=false:=rfl
def Ng:Ev (gO 85 [.int .u8 n] Z) (fun r=>r=⟨false,.bool (DC n),Z⟩) ⟨⟩:=by
 refine G1 Tryz.func85 rfl rfl ?_;unfold DC;cases a:decide (n<97)<;>cases b:decide (122<n)<;>cases c:decide (n<65)<;>cases d:decide (90<n)<;>refine gS1 (aI a (aI b (aI c (aI d (a3N @H7 @I0 @Tryz.results85))))) ?_<;>rfl
def Mi:Ev (gO 88 [.int .u8 n] Z) (fun r=>r=⟨false,.bool (J3 n),Z⟩) ⟨⟩:=by
 refine G1 Tryz.func88 rfl rfl ?_;unfold J3;cases a:decide (n<48)<;>cases b:decide (57<n)<;>refine gS1 (aI a (aI b (a3N @H7 @I0 @Tryz.results88))) ?_<;>rfl
def jP:Ev (gO 87 [.int .u8 n] Z) (fun r=>r=⟨false,.bool (DD n),Z⟩) ⟨⟩:=by
 refine G1 Tryz.func87 rfl rfl ?_;refine gS ?_;refine Ng.mono ?_;rintro r rfl;unfold DD;cases a:DC n
 ·refine gS1 a ?_;refine Mi.mono ?_;rintro r rfl;cases b:J3 n<;>cases c:decide (n=95)<;>refine gS1 (aI a (aI b (aI c (a3N @H7 @I0 @Tryz.results87)))) ?_<;>rfl
 ·cases c:decide (n=95)<;>refine gS1 (aI a (aI c (a3N @H7 @I0 @Tryz.results87))) ?_<;>rfl
def oM (g:Nat) (p:Int->Bool):Prop:=∀ (Z:St) (n:Int),Ev (go Tryz.prog HS (.fn g) [.int .u8 n] Z) (fun r=>r=⟨false,.bool (p n),Z⟩) ⟨⟩
def JZ:oM 88 J3:=fun _ _=>Mi
def QL:oM 87 DD:=fun _ _=>jP
def on (p:Int->Bool) (c:UInt8):Bool:=p (c.toNat:Nat)
def R3 (p:Int->Bool) (s:By) (k:Nat):Nat:=((s.drop k).takeWhile (on p)).length
def Mj (p:Int->Bool) (s:By) (k:Nat):k<=s.length->k+R3 p s k<=s.length:=by
 intro h;have:=(List.takeWhile_sublist (on p) (l:=s.drop k)).length_le;rw[HW]at this;unfold R3;omega
def oO {b:Type}{p:b->Bool}:∀ {l:List b}{j:Nat},j<(l.takeWhile p).length->∃ c,l[j]? =some c/\p c=true:=by
 intro l;induction l with
 |nil=>intro j h;simp at h
 | cons x l ih=>
   intro j h;rw[jF]at h;cases a:p x with
   |false=>rw[a]at h;simp at h
   | true=>
     rw[a]at h;cases j with
     |zero=>exact⟨x,rfl,a⟩
     |succ j=>simpa using ih (by simpa using h)
def AI4 {a:Type}{p:a->Bool}:∀ {l:List a},l[(l.takeWhile p).length]? =none\/∃ c,l[(l.takeWhile p).length]? =some c/\p c=false:=by
 intro l;induction l with
 |nil=>exact .inl rfl
 | cons x l ih=>
   rw[jF];cases b:p x with
   |false=>exact .inr ⟨x,by simp,b⟩
   |true=>simpa using ih
def X7 {c:UInt8}:oP [c]=some (.int .u8 (c.toNat:Nat)):=rfl
def FJ {b:Type}{l:List b}{a:b}(h:l[k]? =some a):sub l k 1=some [a]:=by
 obtain⟨c,d⟩:=List.getElem?_eq_some_iff.1 h;rw[AE om,Mk c,d];rfl
def QK {g:Nat}{p:Int->Bool}(o:oM g p){s:By}(y:k<=s.length) (A:s.length<9223372036854775807):
  Ev (gO 86 [str s,.int .i64 k,.func (.func g) #[] #[]] Z) (fun r=>r=⟨false,.int .i64 (k+R3 p s k:Nat),Z⟩) ⟨⟩:=by
 refine G1 Tryz.func86 rfl rfl ?_;have z:=Mj p s k y;refine gS ?_
 refine I9 (R3 p s k) (fun j fr Z'=>fr.get 1=some (.int .i64 (k+j:Nat))/\fr.get 0=some (str s)/\fr.get 2=some (.func (.func g) #[] #[])/\Z'=Z)
  (fun r=>∃ fr,r=⟨.exit 0,fr,Z⟩/\fr.get 1=some (.int .i64 (k+R3 p s k:Nat))) ?_ ?_ ?_ ?_
 ·exact⟨fR,fR,fR,rfl⟩
 ·rintro j fr Z' v ⟨b,f,g2,rfl⟩;obtain⟨c,a,i⟩:=oO (show j<((s.drop k).takeWhile (on p)).length from v);rw[List.getElem?_drop]at a;have m:k+j<s.length:=(List.getElem?_eq_some_iff.1 a).1;have e:decide (((k+j:Nat):Int)<(s.length:Int))=true:=by rw[z3z];omega
  have l:=FJ a;refine gS1 (aI b (aI f (aI g2 (aI e (aI l @X7))))) ?_;refine(o _ _).mono ?_;rintro r rfl;have d:p (c.toNat:Nat)=true:=i;refine gS1 (aI b (aI f (aI g2 (aI e d)))) ?_;have q:((k+j:Nat):Int)+1=((k+(j+1):Nat):Int):=om;exact⟨fR1 q,fR1 f,fR1 g2,by trivial⟩
 ·rintro fr Z' ⟨b,f,g2,rfl⟩;rcases(show(s.drop k)[R3 p s k]? =none\/∃ c,(s.drop k)[R3 p s k]? =some c/\on p c=false from AI4)with a|⟨c,a,i⟩
  ·rw[List.getElem?_drop]at a;have u:¬ (k+R3 p s k<s.length):=fun h=>by rw[List.getElem?_eq_getElem h]at a;cases a
   have e:decide (((k+R3 p s k:Nat):Int)<(s.length:Int))=false:=by rw[GF];omega
   refine gS1 (aI b (aI f (aI g2 e))) ?_;exact⟨_,rfl,fR1 b⟩
  ·rw[List.getElem?_drop]at a;have m:k+R3 p s k<s.length:=(List.getElem?_eq_some_iff.1 a).1;have e:decide (((k+R3 p s k:Nat):Int)<(s.length:Int))=true:=by rw[z3z];omega
   have l:=FJ a;refine gS1 (aI b (aI f (aI g2 (aI e (aI l @X7))))) ?_;refine(o _ _).mono ?_;rintro r rfl;have d:p (c.toNat:Nat)=false:=i;refine gS1 (aI b (aI f (aI g2 (aI e d)))) ?_;exact⟨_,rfl,fR1 b⟩
 rintro r ⟨fr,rfl,b⟩;refine gS1 (aI b @Tryz.results86) ?_;try exact⟨⟩
end
section
variable {s:By}{v:Value}{l:List (List UInt8)}{p:Int->Bool}
section
variable {Z:St}
def OP (l:List (List UInt8)) (s:List UInt8):Nat->Bool
 |0=>false
 |k+1=>OP l s k||decide (l[k]? =some s)
def jE (l:List (List UInt8)) (s:List UInt8) (k:Nat):OP l s k=true↔∃ i,i<k/\l[i]? =some s:=by
 induction k with
 |zero=>simp[OP]
 | succ k ih=>
   simp only[OP,II,ih,z3z];constructor
   ·rintro(⟨i,b,a⟩|h)
    ·exact⟨i,om,a⟩
    ·exact⟨k,om,h⟩
   ·rintro⟨i,b,a⟩;by_cases e:i=k
    ·subst e;exact .inr a
    ·exact .inl ⟨i,om,a⟩
def QJ (l:List (List UInt8)) (s:List UInt8):OP l s l.length=l.contains s:=by
 rw[z7z,jE,nM,eZ];constructor
 ·rintro⟨i,-,h⟩;exact⟨i,h⟩
 ·rintro⟨i,h⟩;obtain⟨a,_⟩:=List.getElem?_eq_some_iff.1 h;exact⟨i,a,h⟩
def Sj {s:List UInt8}(A:HL Z v l) (D:l.length<=4294967296):
  Ev (gO 197 [v,str s] Z) (fun r=>∃ n:Int,r=⟨false,.int .i64 n,Z⟩/\(0<=n↔l.contains s=true)/\ -1<=n/\n<4294967297) ⟨⟩:=by
 obtain⟨a,c,b,off,cells,rfl,y,u⟩:=A.use;refine G1 Tryz.func197 rfl rfl ?_;refine gS ?_
 refine BE (fun j fr Z'=>∃ k,j=l.length-k/\k<=l.length/\fr.get 0=some (.slice a l.length c)/\fr.get 1=some (str s)/\fr.get 7=some (.int .i64 l.length)/\fr.get 8=some (.int .i64 k)/\Z'=Z/\OP l s k=false)
  (fun r=>(∃ fr,r=⟨.exit 0,fr,Z⟩/\OP l s l.length=false)\/(∃ fr k,r=⟨.ret,fr,Z⟩/\fr.get 4=some (.int .i64 (k:Nat))/\k<l.length/\l.contains s=true)) l.length ?_ ?_ ?_
 ·refine⟨0,rfl,om,?_,?_,?_,?_,rfl,rfl⟩
  all_goals exact fR
 ·rintro j fr Z' ⟨k,rfl,z,f,g,i,o,rfl,e⟩;by_cases q:k<l.length
  ·obtain⟨sp,rfl,C,B⟩:=y om;obtain⟨x,hx⟩:∃ x,l[k]? =some x:=⟨_,List.getElem?_eq_getElem q⟩
   have u:=u k x hx;have d:decide (k<l.length)=true:=by simpa using q
   refine gS1 (aI f (aI g (aI i (aI o (aI @IY (aI d (aI B (aI @Fh u)))))))) ?_;refine Br.intro (fun m=>?_) (fun m=>?_)
   ·obtain rfl:s=x:=by simpa using m
    refine gS1 (aI f (aI g (aI i (aI o @VF)))) ?_;refine .inr ⟨_,k,rfl,fR,q,?_⟩;rw[nM];exact y6 hx
   ·have m:s≠x:=by simpa using m
    refine gS1 (aI f (aI g (aI i (aI o (aI @JY @R8))))) ?_;refine⟨l.length-(k+1),om,k+1,rfl,om,fR1 f,fR1 g,fR1 i,fR,by trivial,?_⟩;show(OP l s k||decide (l[k]? =some s))=false;rw[e,hx]
    simpa using fun h=>m h.symm
  ·have d:decide (k<l.length)=false:=by simpa using q
   obtain rfl:k=l.length:=om;refine gS1 (aI f (aI g (aI i (aI o (aI @IY (aI d @BS)))))) ?_;exact .inl ⟨_,rfl,e⟩
 ·rintro r (⟨fr,rfl,e⟩|⟨fr,k,rfl,g4,z,e⟩)
  ·refine gS1 @Tryz.results197 ?_;refine⟨-1,rfl,?_,om,om⟩;rw[<- QJ,e];simp
  ·refine gS1 (aI @Tryz.results197 g4) ?_;exact⟨k,rfl,by rw[e];simp,om,om⟩
def DB {s:List UInt8}(e:HL Z v l) (h:l.length<=4294967296):
  Ev (gO 164 [v,str s] Z) (fun r=>r=⟨false,.bool (l.contains s),Z⟩) ⟨⟩:=by
 have d:=e;obtain⟨a,c,b,off,cells,rfl,i,j⟩:=e.use;refine G1 Tryz.func164 rfl rfl ?_;refine gS ?_;refine(Sj d h).mono ?_;rintro r ⟨n,rfl,f,m,o⟩;have g:(!decide (n<0))=l.contains s:=by
  rw[z7z,<- f];simp
 refine gS1 (aI @Tryz.results164 g) ?_;try exact⟨⟩
end
def AH4 {a:Type}{p:a->Bool}:∀ {l:List a},(l.takeWhile p).length=l.length↔l.all p=true:=by
 intro l;induction l with
 |nil=>simp
 | cons x l ih=>
   rw[jF,MZ];cases b:p x with
   |false=>simp
   |true=>simpa using ih
def XK:R3 p s 0=s.length↔s.all (on p)=true:=by
 unfold R3;rw[Ma];exact AH4
def GB (p:Int->Bool) (s:By):Bool:=match s with
 |c::_=>on p c
 | []=>false
def Lb {c:UInt8}:GB p (c::s)=on p c:=rfl
def W0 (s:By):Bool:=GB DC s&&decide (s.length<=30)&&s.all (on DD)
def AB7 (s:By):Bool:=match s with
 | [_]=>true
 |c::_=> !decide (c=48)
 | []=>false
def JD (s:By):Bool:=GB J3 s&&s.all (on J3)&&AB7 s
def LK:List By:=[[112,114,105,99,101],[108,111,119],[109,105,110],[109,97,120]]
def R4 (s:By):Bool:=W0 s&& !(LK.contains s)
def HY {Z:St}(j:s.length<9223372036854775807):Ev (gO 94 [str s] Z) (fun r=>r=⟨false,.bool (W0 s),Z⟩) ⟨⟩:=by
 refine G1 Tryz.func94 rfl rfl ?_;cases s with
 | nil=>
   have b:decide (([]:By)=[])=true:=rfl;refine gS1 (aI b (a3N @H7 @I0 @Tryz.results94)) ?_;rfl
 | cons c s=>
   have b:decide (c::s=([]:By))=false:=rfl;have h:sub (c::s) 0 1=some [c]:=FJ rfl;by_cases n:30<(c::s).length
   ·have e:decide (30<((c::s).length:Int))=true:=by rw[z3z];omega
    have f:W0 (c::s)=false:=by unfold W0;rw[z4z (show ¬ (c::s).length<=30 by omega)];simp
    simp only[AG]at e;refine gS1 (aI b (aI e (aI f (a3N @H7 @I0 @Tryz.results94)))) ?_;try exact⟨⟩
   have e:decide (30<((c::s).length:Int))=false:=by rw[GF];omega
   have g:decide ((c::s).length<=30)=true:=dT;have d:=e;simp only[AG]at d;refine gS1 (aI b (aI d (aI h @X7))) ?_;refine Ng.mono ?_;rintro r rfl;cases a:DC (c.toNat:Nat)with
   | false=>
     have f:W0 (c::s)=false:=by
      unfold W0;rw[Lb,show on DC c=false from a];rfl
     refine gS1 (aI b (aI d (aI f (aI a (a3N @H7 @I0 @Tryz.results94))))) ?_;try exact⟨⟩
   | true=>
     refine gS1 (aI b (aI d a)) ?_;refine(QK (k:=0) QL (Af _) j).mono ?_;rintro r rfl;rw[Eo];have m:=XK (p:=DD) (s:=c::s);have i:decide ((R3 DD (c::s) 0:Int)=((s.length+1:Nat):Int))=W0 (c::s):=by
      unfold W0;rw[Lb,show on DC c=true from a,g,Bx,Bx,z7z,z3z,<- m];simp only[AG];omega
     refine gS1 (aI b (aI d (aI a (aI @H7 (aI @I0 (aI @Tryz.results94 i)))))) ?_;try exact⟨⟩
def OQ {Z:St}(q:s.length<9223372036854775807):Ev (gO 192 [str s] Z) (fun r=>r=⟨false,.bool (JD s),Z⟩) ⟨⟩:=by
 refine G1 Tryz.func192 rfl rfl ?_;cases s with
 | nil=>
   have a:decide (([]:By)=[])=true:=rfl;refine gS1 (aI a (a3N @H7 @I0 @Tryz.results192)) ?_;rfl
 | cons c s=>
   have a:decide (c::s=([]:By))=false:=rfl;have n:sub (c::s) 0 1=some [c]:=FJ rfl;refine gS1 a ?_;refine(QK (k:=0) JZ (Af _) q).mono ?_;rintro r rfl;rw[Eo];have m:=XK (p:=J3) (s:=c::s);by_cases b:(c::s).all (on J3)=true
   ·have f:decide ((R3 J3 (c::s) 0:Int)=((s.length+1:Nat):Int))=true:=by
     rw[z3z];have:=m.2 b;simp only[AG]at this;omega
    have o:on J3 c=true:=(GH.1 b) c (by simp);cases g:decide (c::s=([48]:By))with
    | true=>
      have e:JD (c::s)=true:=by
       have:=z6z g;rw[this];rfl
      refine gS1 (aI a (aI f (aI g (aI e (a3N @H7 @I0 @Tryz.results192))))) ?_;try exact⟨⟩
    | false=>
      have j:decide ((c.toNat:Int)=48)=decide (c=48):=by
       rw[z7z,z3z,z3z];constructor
       ·intro h;have:c.toNat=48:=om;exact ec this
       ·rintro rfl;rfl
      have e:JD (c::s)= !decide (c=48):=by
       unfold JD;rw[Lb,o,b,Bx,Bx];cases s with
       | nil=>
         have:c≠48:=fun h=>by subst h;simp at g
         rw[z4z this];rfl
       |cons d s=>rfl
      refine gS1 (aI a (aI f (aI g (aI n (aI @X7 (aI j (aI e (a3N @H7 @I0 @Tryz.results192)))))))) ?_;try exact⟨⟩
   ·have i:(c::s).all (on J3)=false:=by simpa using b
    have f:decide ((R3 J3 (c::s) 0:Int)=((s.length+1:Nat):Int))=false:=by
     rw[GF];intro h;exact b (m.1 (by simp only[AG];omega))
    have e:JD (c::s)=false:=by unfold JD;rw[i];simp
    refine gS1 (aI a (aI f (aI e (a3N @H7 @I0 @Tryz.results192)))) ?_;try exact⟨⟩
end
section
variable {Z:St}{v:Value}{k:Nat}
def Fu {cells r:List Value}{o n i m:Nat}(h:sub cells o n=some r) (hi:i+m<=n):sub cells (o+i) m=sub r i m:=by
 obtain⟨b,a⟩:=sub_eq h;subst a;rw[AE om,AE (by simp;omega)];congr 1;rw[List.drop_take,fW,Ph];congr 1;omega
def I3 {b:Type}{l:List b}(h:k<l.length):∃ a,l[k]? =some a:=⟨_,List.getElem?_eq_getElem h⟩
def cW {b c:Type}{l:List b}{a:b}(f:b->c) (h:l[k]? =some a):(l.map f)[k]? =some (f a):=by rw[List.getElem?_map,h];rfl
def SL.SU {g:Type}{size:Nat}{l:List g}{f:g->List Value}(h:SL Z size v (l.map f)):∃ a c b off cells,v= .slice a l.length c/\(0<l.length->∃ sp,a=some ⟨b,off,sp⟩/\b<Z.n/\Z.row b=some cells)/\∀ k x,l[k]? =some x->sub cells (off+k*size) size=some (f x):=by
 obtain⟨a,c,b,off,cells,d,e,i⟩:=SL.use h;rw[z2z]at d e;exact⟨a,c,b,off,cells,d,e,fun k x j=>i k _ (cW f j)⟩
def iq.use {l:List Lot}(h:iq Z v l):∃ a c b off cells,v= .slice a l.length c/\(0<l.length->∃ sp,a=some ⟨b,off,sp⟩/\b<Z.n/\Z.row b=some cells) /\
  ∀ k x,l[k]? =some x->sub cells (off+k*2) 2=some x.row/\sub cells (off+k*2) 1=some [.int .i64 x.id]/\sub cells (off+k*2+1) 1=some [.int .i64 x.G4]:=by
 obtain⟨a,c,b,off,cells,d,e,f⟩:=SL.SU h;refine⟨a,c,b,off,cells,d,e,fun k x g=>?_⟩;have h:=f k x g;exact⟨h,by rw[<- Be (off+k*2),Fu h om];rfl,by rw[Fu h om];rfl⟩
def TO.use {l:List S8}(h:TO Z v l):∃ a c b off cells,v= .slice a l.length c/\(0<l.length->∃ sp,a=some ⟨b,off,sp⟩/\b<Z.n/\Z.row b=some cells) /\
  ∀ k x,l[k]? =some x->sub cells (off+k*5) 5=some x.row/\sub cells (off+k*5) 1=some [str x.name]/\sub cells (off+k*5+1) 1=some [.int .i64 x.kind]/\sub cells (off+k*5+2) 1=some [.int .i64 x.low]/\sub cells (off+k*5+3) 1=some [.int .i64 x.high]/\sub cells (off+k*5+4) 1=some [.bool x.less]:=by
 obtain⟨a,c,b,off,cells,d,e,f⟩:=SL.SU h;refine⟨a,c,b,off,cells,d,e,fun k x g=>?_⟩;have h:=f k x g;exact⟨h,by rw[<- Be (off+k*5),Fu h om];rfl,by rw[Fu h om];rfl,by rw[Fu h om];rfl,by rw[Fu h om];rfl,by rw[Fu h om];rfl⟩
def ir.use {l:List Req}(h:ir Z v l):∃ a c b off cells,v= .slice a l.length c/\(0<l.length->∃ sp,a=some ⟨b,off,sp⟩/\b<Z.n/\Z.row b=some cells) /\
  ∀ k x,l[k]? =some x->sub cells (off+k*3) 3=some x.row/\sub cells (off+k*3) 1=some [str x.name]/\sub cells (off+k*3+1) 1=some [str x.rel]/\sub cells (off+k*3+2) 1=some [.int .i64 x.value]:=by
 obtain⟨a,c,b,off,cells,d,e,f⟩:=SL.SU h;refine⟨a,c,b,off,cells,d,e,fun k x g=>?_⟩;have h:=f k x g;exact⟨h,by rw[<- Be (off+k*3),Fu h om];rfl,by rw[Fu h om];rfl,by rw[Fu h om];rfl⟩
def GG.use {l:List Int}(h:GG Z v l):∃ a c b off cells,v= .slice a l.length c/\(0<l.length->∃ sp,a=some ⟨b,off,sp⟩/\b<Z.n/\Z.row b=some cells) /\
  ∀ k x,l[k]? =some x->sub cells (off+k) 1=some [.int .i64 x]:=by
 obtain⟨a,c,b,off,cells,d,e,f⟩:=SL.SU h;exact⟨a,c,b,off,cells,d,e,fun k x g=>by have:=f k x g;rwa [Fh]at this⟩
def mf {b c:Type}(f:b->c){l:List b}{a:b}(h:l[k]? =some a):(l.take (k+1)).map f=(l.take k).map f++[f a]:=by
 rw[Gf,h];simp
end
section
variable {l:List Nat}{c:Nat}
structure Ao (Z Z':St):Prop where
 n:Z.n<=Z'.n
 row:∀ b cells,b<Z.n->Z.row b=some cells->Z'.row b=some cells
def Ao.trans {Z Z' a:St}(h:Ao Z Z') (k:Ao Z' a):Ao Z a:=⟨W5 h.n k.n,fun b cells d e=>k.row b cells (z5z d h.n) (h.row b cells d e)⟩
def Ao.Lc {Z Z':St}(h:Ext Z Z'):Ao Z Z':=⟨h.n,fun b cells a d=>by rw[h.row a];exact d⟩
def SL.I4 {Z Z':St}{size:Nat}{v:Value}{D0:List (List Value)}(h:SL Z size v D0) (d:Ao Z Z'):SL Z' size v D0:=by
 rcases h with h|⟨b,off,sp,c,cells,e,a,f,g⟩
 ·exact .inl h
 ·exact .inr ⟨b,off,sp,c,cells,e,z5z a d.n,d.row _ _ a f,g⟩
mutual
theorem Aq.I4 {Z Z':St}(a:Ao Z Z'){row:List Value}:∀ {e:Ex},Aq Z row e->Aq Z' row e
 | .mk op n d nm args,h=>by
   obtain⟨v,D0,h1,h2,h4,h3⟩:=h;exact⟨v,D0,h1,SL.I4 h2 a,h4,BH.I4 a h3⟩
theorem BH.I4 {Z Z':St}(a:Ao Z Z'){D0:List (List Value)}:∀ {es:List Ex},BH Z D0 es->BH Z' D0 es
 | [],h=>h
 | e::es,h=>by
   obtain⟨r,rs,h1,h2,h3⟩:=h;exact⟨r,rs,h1,Aq.I4 a h2,BH.I4 a h3⟩
end
noncomputable def J0 (Z:St) (l:List Nat):St:=l.foldl St.dead Z
def Kk {Z:St}{b:Nat}:(Z.dead b).row b=none:=by
 show ob (ob (ob ((Z.dead b).h.get b) _) _) _=none;rw[FX,z1z rfl];rfl
def FD:∀ {Z:St},(J0 Z l).n=Z.n:=by
 induction l with
 |nil=>intro Z;rfl
 |cons b l a=>intro Z;show(J0 (Z.dead b) l).n=Z.n;rw[a];rfl
def CW:∀ {Z:St},c∉l->(J0 Z l).row c=Z.row c:=by
 induction l with
 |nil=>intro Z _;rfl
 | cons b l ih=>
   intro Z h;show(J0 (Z.dead b) l).row c=_;rw[ih (fun a=>h (by simp[a])),Ja (fun e=>h (by simp[e]))]
def jJ:∀ {Z:St},Z.row c=none->(J0 Z l).row c=none:=by
 induction l with
 |nil=>intro Z h;exact h
 | cons b l ih=>
   intro Z h;show(J0 (Z.dead b) l).row c=_;refine ih ?_;by_cases e:c=b
   ·subst e;exact Kk
   ·rw[Ja e];exact h
def Mc:∀ {Z:St},c∈l->(J0 Z l).row c=none:=by
 induction l with
 |nil=>intro Z h;cases h
 | cons b l ih=>
   intro Z h;show(J0 (Z.dead b) l).row c=_;rcases V9.1 h with rfl|h
   ·exact jJ Kk
   ·exact ih h
def K8 {Z Z':St}{l':List Nat}(g:Z.n<=Z'.n) (h:∀ c,c<Z.n->c∉l->c∉l'/\Z'.row c=Z.row c):Ao (J0 Z l) (J0 Z' l'):=by
 refine⟨by rw[FD,FD];exact g,fun c cells b a=>?_⟩;rw[FD]at b;by_cases e:c∈l
 ·rw[Mc e]at a;cases a
 ·obtain⟨d,f⟩:=h c b e;rw[CW e]at a;rw[CW d,f];exact a
def HX {Z Z':St}(a:Ext Z Z'):Ao (J0 Z l) (J0 Z' l):=K8 a.n fun c b h=>⟨h,a.row b⟩
def Md {Z:St}:Ao (J0 Z l) Z:=by
 have:=K8 (Z:=Z) (Z':=Z) (l:=l) (l':=[]) nL fun c _ _=>⟨by simp,rfl⟩
 exact this
def JC (v:Value):List Nat:=(K3 v).toList
section
variable {H:List Nat}{lo:Nat}{Z Z':St}{v:Value}{n k:Nat}
end
structure Psh (Z Z':St) (v v':Value):Prop where
 n:Z.n<=Z'.n
 same:∀ c,c<Z.n->K3 v≠some c->Z'.h.get c=Z.h.get c
 blk:∀ b,K3 v'=some b->K3 v=some b\/Z.n<=b
def LI {a:Type}{l new:List a}:∀ {o:Nat},o+new.length<=l.length->M5 l o new=some (l.take o++new++l.drop (o+new.length)):=by
 intro o;induction o generalizing l with
 | zero =>
   intro h;rw[Eo]at h ⊢;have:∀ (new l:List a),new.length<=l.length->over new l=some (new++l.drop new.length):=by
    intro new;induction new with
    |nil=>intro l _;rfl
    | cons x new ih=>
      intro l h;cases l with
      |nil=>simp at h
      | cons y l=>
        rw[TX,ih l (by simpa using h)];rfl
   rw[TY,KP,<- this new l h];cases l with
   | nil=>cases new with
     |nil=>rfl
     |cons x new=>simp at h
   |cons y l=>rfl
 | succ o ih=>
   intro h;cases l with
   |nil=>simp at h
   | cons y l=>
     rw[A6,ih (by simp at h;omega),F8];rw[show o+1+new.length=(o+new.length)+1 by omega];rfl
end
section
variable {size lo b:Nat}{v:Value}{D0:List (List Value)}
structure G5 (p:Nat) (Z Z':St):Prop where
 n:Z.n<=Z'.n
 same:∀ b,b<Z.n->b≠p->Z'.h.get b=Z.h.get b
section
variable {p:Nat}{Z Z' Z'':St}
def G5.refl:G5 p Z Z:=⟨AP _,fun _ _ _=>rfl⟩
def G5.of (h:Ext Z Z'):G5 p Z Z':=⟨h.n,fun b a _=>h.same b a⟩
def G5.trans (h:G5 p Z Z') (k:G5 p Z' Z''):G5 p Z Z'':=⟨W5 h.n k.n,fun b c a=>by rw[k.same b (z5z c h.n) a,h.same b c a]⟩
def G5.upd (h:G5 p Z Z') (cs:List Value):G5 p Z (Z'.upd p cs):=⟨h.n,fun b c a=>by rw[M4,z0z a,h.same b c a]⟩
def G5.ext {Z0:St}(h:G5 p Z Z') (a:Ext Z0 Z) (d:Z0.n<=p):Ext Z0 Z':=⟨W5 a.n h.n,fun b c=>by rw[h.same b (z5z c a.n) om,a.same b c]⟩
def G5.row (h:G5 p Z Z') (c:b<Z.n) (a:b≠p):Z'.row b=Z.row b:=V7 (h.same b c a)
def G5.B8 (h:G5 p Z Z') (c:b<Z.n) (a:b≠p):Z'.B8 b=Z.B8 b:=B9 (h.same b c a)
def G5.app {v':Value}(h:App Z' Z'' v v') (a:G5 p Z Z') (g:OL lo Z' size v D0) (i:Z.n<=lo):G5 p Z Z'' :=
 ⟨W5 a.n h.n,fun c e d=>by
  rw[h.same c (z5z e a.n) (fun f=>by have:=(g.blk f).1;omega),a.same c e d]⟩
end
def SLs (Z:St) (size:Nat) (v:Value) (D0:List (List Value)):Prop:=(∀ r∈D0,r.length=size) /\
 ((v= .slice none 0 0/\D0=[])\/∃ b off sp c cells,v= .slice (some ⟨b,off,sp⟩) D0.length c/\b<Z.n/\Z.row b=some cells/\sub cells off (D0.length*size)=some D0.flatten)
def SLs.nil {Z:St}:SLs Z size (.slice none 0 0) []:=⟨fun r h=>by simp at h,.inl ⟨rfl,rfl⟩⟩
def SLs.sl {Z:St}(h:SLs Z size v D0):SL Z size v D0:=by
 obtain⟨f,h|⟨b,off,sp,c,cells,g,i,j,l⟩⟩:=h
 ·exact .inl h
 ·refine .inr ⟨b,off,sp,c,cells,g,i,j,fun k r d=>?_⟩;have e:=(List.getElem?_eq_some_iff.1 d).1;have a:k*size+size<=D0.length*size:=by
   have:(k+1)*size<=D0.length*size:=SZ size e;rw[Oy]at this;exact this
  rw[Fu l a,<- Be (k*size),QO f d om];have:=f r (y6 d);exact G3 om om
def SLs.I4 {Z Z':St}(h:SLs Z size v D0) (d:Ao Z Z'):SLs Z' size v D0:=by
 obtain⟨e,h|⟨b,off,sp,c,cells,f,a,g,i⟩⟩:=h
 ·exact⟨e,.inl h⟩
 ·exact⟨e,.inr ⟨b,off,sp,c,cells,f,z5z a d.n,d.row _ _ a g,i⟩⟩
def SLs.src {Z:St}(h:SLs Z size v D0):AJ Z size v=some (D0.length,D0.flatten):=by
 obtain⟨f,⟨rfl,rfl⟩|⟨b,off,sp,c,cells,rfl,e,a,d⟩⟩:=h
 ·rfl
 ·rw[KC,AB,a,F8,d,F8]
def OL.J0 {Z:St}{H:List Nat}(h:OL lo Z size v D0) (e:∀ q∈H,q<lo):SLs (J0 Z H) size v D0:=by
 obtain⟨a,⟨rfl,rfl⟩|⟨b,sp,rfl,i,g,c,d⟩⟩:=h
 ·exact .nil
 ·have:=Cn D0 a;exact⟨a,.inr ⟨b,0,sp,_,_,rfl,by rw[FD];exact c,by rw[CW fun f=>by have:=e b f;omega];exact C1 d,G3 om om⟩⟩
def OL.shape {Z:St}(h:OL lo Z size v D0):∃ a,v= .slice a D0.length D0.length:=by
 obtain⟨c,⟨rfl,rfl⟩|⟨b,sp,rfl,-⟩⟩:=h
 ·exact⟨_,rfl⟩
 ·exact⟨_,rfl⟩
def OL.lower {a:Nat}{Z:St}(h:OL lo Z size v D0) (j:a<=lo):OL a Z size v D0:=by
 obtain⟨c,h|⟨b,sp,d,e,f,g,i⟩⟩:=h
 ·exact⟨c,.inl h⟩
 ·exact⟨c,.inr ⟨b,sp,d,e,W5 j f,g,i⟩⟩
def OL.W7 {p:Nat}{Z Z':St}(h:OL lo Z size v D0) (a:G5 p Z Z') (d:p<lo):OL lo Z' size v D0:=by
 refine h.I4 a.n fun b c=>?_;have:=h.blk c;exact a.same b this.2 om
def Hk {P:Program}{s:TypeId}{Z:St}{t size a b:Nat}{v:Value}{D0:List (List Value)}{Q:Value×St->Prop}{u:Hd Q}
  (f:∀ (b:Option Addr) (len cap:Nat) (w:Value),CO P Z t (.slice b len cap) w=ob (AJ Z size w) fun p=>pr p fun n new=>bi (Nat.ble (len+n) cap) (CU Z size b len cap n new) (bb (Nat.ble ((len+n)*a) room) (BP s Z size b len n new)))
  (j:Z.B8 b=some []) (d:b<Z.n) (g:SLs Z size v D0) (e:D0.length*a<=4294967296)
  (h:∀ v' Z',OL b Z' size v' D0->G5 b Z Z'->Q (v',Z')):Ev (CO P Z t (.slice (some ⟨b,0,none⟩) 0 0) v) Q u:=by
 have q:=Cn D0 g.1;rw[f,g.src,F8,Jb,Eo];by_cases m:D0.length=0
 ·obtain rfl:D0=[]:=NV m;rw[show Nat.ble ([]:List (List Value)).length 0=true from rfl,N5,eh,Jc,j,F8];rw[show M5 ([]:List Value) (0+0*size) ([]:List (List Value)).flatten=some []from by rw[GV];rfl,F8,F8,M0];exact h _ _ ⟨fun r h=>by simp at h,.inr ⟨b,none,rfl,.inl rfl,AP _,d,G8⟩⟩ ⟨AP _,fun c o i=>by rw[M4,z0z i]⟩
 ·have l:Nat.ble (D0.length*a) room=true:=Fi e;rw[Jd om,j7,l,V0,Me,AB,C1 j,F8,GV];rw[show sub ([]:List Value) 0 0=some []from rfl,F8,M0,Eo,KP];refine h _ _ ⟨g.1,.inr ⟨Z.n,some size,rfl,.inr rfl,Nat.le_of_lt d,by simp,K2 nL nL⟩⟩ ⟨by simp,fun c o _=>by rw[N8,z0z om]⟩
end
section
variable {Z Z':St}{v:Value}{b k p:Nat}{H4:List Value}{e:Int}
abbrev Tok:=By×Nat
def FC (t:Tok):List Value:=[str t.1,.int .i64 (t.2:Nat)]
structure Sc (Z:St) (b:Nat) (v:Value) (A7:List Tok) (k:Nat) (H4:List Value):Prop where
 row:Z.B8 b=some (v:: .int .i64 (k:Nat)::H4)
 lt:b<Z.n
 sl:SL Z 2 v (A7.map FC)
 ne:K3 v≠some b
 k:k<A7.length
 len:A7.length<4611686018427387904
def ptr (b:Nat):Value:= .pointer (some ⟨b,0,none⟩)
def Sc.ext {A7:List Tok}(h:Sc Z b v A7 k H4) (a:Ext Z Z'):Sc Z' b v A7 k H4 :=
 ⟨by rw[B9 (a.same b h.lt)];exact h.row,z5z h.lt a.n,h.sl.mono a,h.ne,h.k,h.len⟩
def SL.sf {size:Nat}{D0:List (List Value)}(h:SL Z size v D0) (d:G5 p Z Z') (j:K3 v≠some p):SL Z' size v D0:=by
 rcases h with h|⟨b,off,sp,c,cells,rfl,a,f,g⟩
 ·exact .inl h
 ·exact .inr ⟨b,off,sp,c,cells,rfl,z5z a d.n,by rw[d.row a (fun i=>j (by rw[<- i];rfl))];exact f,g⟩
def Sc.CA {A7:List Tok}{k':Nat}{rest':List Value}(h:Sc Z b v A7 k H4) (a:G5 b Z Z') (d:Z'.B8 b=some (v:: .int .i64 (k':Nat)::rest')) (c:k'<A7.length):Sc Z' b v A7 k' rest' :=
 ⟨d,z5z h.lt a.n,SL.sf h.sl a h.ne,h.ne,c,h.len⟩
def G5.De {c:Nat}(h:G5 p Z Z') (f:Z.n<=c) (cs:List Value):G5 p Z (Z'.upd c cs):=⟨h.n,fun b d a=>by rw[M4,z0z om,h.same b d a]⟩
def G5.Sk {t:Option TypeId}(h:G5 p Z Z') (cs:List Value):G5 p Z (Z'.new cs t):=h.trans (.of (.new _ _))
def eXX {q:Prop}(h:q:=by(repeat' (first|assumption|exact G5.refl|exact G5.of (by assumption)|refine G5.Sk ?_ _|refine G5.upd ?_ _|refine G5.De ?_ (by(try simp only[cw])<;>omega) _))):q:=h
def Y9 {A7:List Tok}(h:Sc Z b v A7 k H4){t:Tok}(ht:A7[k]? =some t):
  Ev (gO 73 [ptr b] Z) (fun r=>∃ Z',r=⟨false,.agg ⟨[str t.1,.int .i64 (t.2:Nat)]⟩,Z'⟩/\Ext Z Z') ⟨⟩:=by
 obtain⟨f,m,g,n,i,o⟩:=h;obtain⟨a,c,b2,off,cells,rfl,k1,k2⟩:=g.use;rw[z2z]at *;obtain⟨sp,rfl,k3,k4⟩:=k1 om;have l:=C1 f;have j:sub cells (off+k*2) 2=some [str t.1,.int .i64 (t.2:Nat)]:=k2 k (FC t) (by rw[List.getElem?_map,ht];rfl);have d:decide (k<A7.length)=true:=M3 i;refine G1 Tryz.func73 rfl rfl ?_;unfold ptr;refine gS1 (aI l (aI k4 (aI j d))) ?_;refine dW ?_;refine gS1 @Tryz.results73 ?_;exact⟨_,rfl,eX⟩
def BV {A7:List Tok}(h:Sc Z b v A7 k H4){t:Tok}(ht:A7[k]? =some t):
  Ev (gO 75 [ptr b] Z) (fun r=>∃ Z',r=⟨false,.agg ⟨[str t.1,.int .i64 (t.2:Nat)]⟩,Z'⟩/\G5 b Z Z'/\Z'.B8 b=some (v:: .int .i64 (k+1:Nat)::H4)) ⟨⟩:=by
 have s:=h.k;have u:=h.len;have j:=h.lt;refine G1 Tryz.func75 rfl rfl ?_;refine gS ?_;have m:Sc (Z.new [str [],.int .i64 0] (some 138)) b v A7 k H4:=h.ext (.new _ _);refine(Y9 m ht).mono ?_;rintro r ⟨Z2,rfl,a⟩;have g:Ext Z Z2:=(Ext.new _ _).trans a;have f:=h.ext g;have c:=f.row;have q:=C1 c;have o:Z2.B8 Z.n=some [str [],.int .i64 0]:=by rw[B9 (a.same Z.n (by simp))];exact cL
 have l:Z.n<Z2.n:=by have:=a.n;simp at this;omega
 have d:(k:Int)+1=((k+1:Nat):Int):=om;have i:b≠Z.n:=om;unfold ptr;refine gS1 (aI q (aI c (aI o (aI d @Tryz.results75)))) ?_;exact⟨_,rfl,eXX,cL⟩
def fault (at':Nat) (e:Int):Value:= .iface 86 (.agg ⟨[.int .i64 (at':Nat),.int .i64 e]⟩)
def yW {A7:List Tok}(h:Sc Z b v A7 k H4){t:Tok}(ht:A7[k]? =some t):
  Ev (gO 130 [ptr b,.int .i64 e] Z) (fun r=>∃ Z',r=⟨true,fault t.2 e,Z'⟩/\Ext Z Z') ⟨⟩:=by
 refine G1 Tryz.func130 rfl rfl ?_;refine gS ?_;refine(Y9 h ht).mono ?_;rintro r ⟨c,rfl,a⟩;refine gS1 @oz ?_;exact⟨_,rfl,a⟩
def P1 {A7:List Tok}(h:Sc Z b v A7 k H4){t:Tok}(ht:A7[k]? =some t){ok:Bool}:
  Ev (gO 74 [ptr b,.bool ok,.int .i64 e] Z) (fun r=>(ok=true/\r=⟨false,.tuple ⟨[]⟩,Z⟩)\/(ok=false/\∃ Z',r=⟨true,fault t.2 e,Z'⟩/\Ext Z Z')) ⟨⟩:=by
 refine G1 Tryz.func74 rfl rfl ?_;cases ok with
 | true=>
   refine gS1 @Tryz.results74 ?_;exact .inl ⟨True.intro,True.intro⟩
 | false=>
   refine gS ?_;refine(yW h ht).mono ?_;rintro r ⟨c,rfl,a⟩;refine gS ?_;exact .inr ⟨True.intro,_,rfl,a⟩
end
end Go.Proofs.T
namespace Go.Proofs.T
open Go Go.Ab
open Nat (reduceMul reduceEqDiff reduceAdd)
section
variable {c:UInt8}{Z:St}{s:By}{l:List By}{n:Nat}
def L7 (c:UInt8):By->List By
 | []=>[[]]
 | x::s=>if x=c then[]::L7 c s else match L7 c s with
   |h::t=>(x::h)::t
   | []=>[[x]]
def NR (c:UInt8):∀ s:By,L7 c s≠[]
 | []=>by simp[L7]
 | x::s=>by
   unfold L7;split
   ·simp
   ·split<;>simp
def NS (c:UInt8):∀ s:By,(CD c s= -1/\L7 c s=[s])\/∃ m:Nat,CD c s=m/\m<s.length/\L7 c s=s.take m::L7 c (s.drop (m+1))
 | []=> .inl ⟨rfl,rfl⟩
 | x::s=>by
   have hx:CD c (x::s)=bi (x==c) 0 (bi (ilt (CD c s) 0) (-1) (CD c s+1)):=by rw[<- LH];rfl
   by_cases h:x=c
   ·right;subst h;refine⟨0,by rw[hx];simp,by simp,?_⟩;show(if x=x then[]::L7 x s else _)=_;rw[z1z rfl];rfl
   ·have d:(x==c)=false:=by simpa using h
    have e:L7 c (x::s)=match L7 c s with|h::t=>(x::h)::t|[]=>[[x]]:=by
     show(if x=c then[]::L7 c s else _)=_;rw[z0z h]
    rcases NS c s with⟨a,b⟩|⟨m,a,b,f⟩
    ·left;exact⟨by rw[hx,d,a];rfl,by rw[e,b]⟩
    ·right;refine⟨m+1,?_,by simpa using b,by rw[e,f];rfl⟩;rw[hx,d,a,JG,dF];rfl
def GS (c:UInt8):∀ s:By,(L7 c s).length=Fg c s+1
 | []=>rfl
 | x::s=>by
   have hx:Fg c (x::s)=bi (x==c) (Fg c s+1) (Fg c s):=by rw[<- LH];rfl
   have b:=GS c s;unfold L7;by_cases h:x=c
   ·rw[z1z h,hx,show(x==c)=true by simpa using h];simp[b]
   ·rw[z0z h,hx,show(x==c)=false by simpa using h];cases d:L7 c s with
    |nil=>exact absurd d (NR c s)
    |cons a t=>rw[d]at b;simpa using b
def MF (c:UInt8):∀ s:By,Fg c s<=s.length
 | []=>AP _
 | x::s=>by
   have hx:Fg c (x::s)=bi (x==c) (Fg c s+1) (Fg c s):=by rw[<- LH];rfl
   have:=MF c s;rw[hx];cases x==c
   ·show Fg c s<=_;simp;omega
   ·show Fg c s+1<=_;simp;omega
def eB:aJ (c.toNat:Int)=c:=by
 show UInt8.ofNat c.toNat=c;simp
def d10:decide (((1:Nat):Int)=0)=false:=rfl
def d11:decide (((1:Nat):Int)=1)=true:=rfl
def Ax5 {Q:CR->Prop}{a:Hd Q}:Ev (gO 231 [str s,.int .u8 (c.toNat:Nat)] Z) Q a=Q ⟨false,.int .i64 (CD c s),Z⟩:=by
 show Ev (some ⟨false,.int .i64 (CD (aJ (c.toNat:Int)) s),Z⟩) Q _=_;rw[M0,eB]
def Ax6 {Q:CR->Prop}{a:Hd Q}:Ev (gO 201 [str s,.int .u8 (c.toNat:Nat)] Z) Q a=Q ⟨false,.int .i64 (Fg c s:Nat),Z⟩:=by
 show Ev (some ⟨false,.int .i64 (Fg (aJ (c.toNat:Int)) s:Nat),Z⟩) Q _=_;rw[M0,eB]
def MG:Ev (gO 218 [str s,.int .u8 (c.toNat:Nat)] Z) (fun r=>r=⟨false,.int .i64 (CD c s),Z⟩) ⟨⟩:=by
 refine G1 Tryz.func218 rfl rfl ?_;refine gS1 (aI @Ax5 @Tryz.results218) ?_;try exact⟨⟩
def KZ:Ev (gO 202 [str s,str [c]] Z) (fun r=>r=⟨false,.int .i64 (CD c s),Z⟩) ⟨⟩:=by
 refine G1 Tryz.func202 rfl rfl ?_;have b:sub [c] 0 1=some [c]:=rfl;cases a:decide ([c]=s)with
 | true=>
   obtain rfl:=z6z a;have d:CD c [c]=0:=by show bi (Nat.beq c.toNat c.toNat) 0 _=0;rw[Nat.beq_refl];rfl
   refine gS1 (aI b (aI @X7 (aI @H7 (aI @I0 (aI @d10 (aI @d11 (aI a (aI d @Tryz.results202)))))))) ?_;try exact⟨⟩
 | false=>
   refine gS1 (aI b (aI @X7 (aI @H7 (aI @I0 (aI @d10 (aI @d11 a)))))) ?_;refine MG.mono ?_;rintro r rfl;refine gS1 @Tryz.results202 ?_;try exact⟨⟩
def WW:Ev (gO 169 [str s,str [c]] Z) (fun r=>r=⟨false,.int .i64 (CD c s),Z⟩) ⟨⟩:=by
 refine G1 Tryz.func169 rfl rfl ?_;refine gS ?_;refine KZ.mono ?_;rintro r rfl;refine gS1 @Tryz.results169 ?_;try exact⟨⟩
def mZ:Ev (gO 168 [str s,str [c]] Z) (fun r=>r=⟨false,.int .i64 (Fg c s:Nat),Z⟩) ⟨⟩:=by
 refine G1 Tryz.func168 rfl rfl ?_;have a:sub [c] 0 1=some [c]:=rfl;refine gS1 (aI a (a5N @X7 @Ax6 @d10 @d11 @Tryz.results168)) ?_;try exact⟨⟩
def eC:∀ n:Nat,Ab.rep [str []] n=List.replicate n (str [])
 |0=>rfl
 |n+1=>by show[str []]++Ab.rep [str []] n=_;rw[eC n];rfl
def cut (l:List By) (n i:Nat):List Value:=(l.take i).map str++List.replicate (n-i) (str [])
def eD {i:Nat}{x:By}(d:l.length=n) (a:l[i]? =some x):M5 (cut l n i) i [str x]=some (cut l n (i+1)):=by
 have hi:i<l.length:=(List.getElem?_eq_some_iff.1 a).1;rw[LI (by simp[cut];omega)];have b:((l.take i).map str).length=i:=by simp;omega
 congr 1;unfold cut;rw[List.take_append_of_le_length om,Pg om,mc,me (by simp;omega),KP,b,mf str a];simp only[DT,WX,iH,List.drop_replicate];congr 3;omega
def uP (a:l.length=n):cut l n n=l.map str:=by
 unfold cut;rw[Pg om,WY];simp
def uQ {b c:Nat}{sp:Option Nat}(e:b<Z.n) (f:Z.row b=some (l.map str)):HL Z (.slice (some ⟨b,0,sp⟩) l.length c) l:=by
 refine .inr ⟨b,0,sp,c,l.map str,by simp,e,f,fun k r a=>?_⟩;rw[List.getElem?_map]at a;cases d:l[k]? with
 |none=>rw[d]at a;cases a
 | some x=>
   rw[d]at a;cases a;rw[Eo,Fh];exact FJ (by rw[List.getElem?_map,d];rfl)
def WZ (hs:s.length<100000000):
  Ev (gO 129 [str s,str [c],.int .i64 0,.int .i64 (-1)] Z) (fun r=>∃ v Z',r=⟨false,v,Z'⟩/\HL Z' v (L7 c s)/\Ext Z Z'/\K3 v=some Z.n) ⟨⟩:=by
 refine G1 Tryz.func129 rfl rfl ?_;have S:=MF c s;have a:=GS c s;have G:decide ((-1:Int)=0)=false:=rfl;have H:decide (([c]:By)=[])=false:=rfl;have dl:decide ((-1:Int)<0)=true:=rfl;simp(maxSteps:=8000000) (disch:=first|exact dS|fail) only[↓bD,bW,reduceMul,reduceEqDiff,reduceAdd,Nat.reduceBEq,reduceIte,Option.isNone_none,G,H,dl];refine mZ.mono ?_;rintro r rfl;have I:((Fg c s:Nat):Int)+1=((Fg c s+1:Nat):Int):=om;have J:(s.length:Int)+1=((s.length+1:Nat):Int):=om;have K:min ((Fg c s+1:Nat):Int) ((s.length+1:Nat):Int)=((Fg c s+1:Nat):Int):=om;have L:((Fg c s+1:Nat):Int)-1=((Fg c s:Nat):Int):=om;refine gS1 (aI I (aI J (aI K L))) ?_;generalize R:L7 c s=l at *;generalize Y:Fg c s=n at *;have C:str []::Ab.rep [str []] n=cut l (n+1) 0:=by
  show _=[]++List.replicate (n+1) (str []);rw[eC];rfl
 rw[C]
 refine I9 n (fun i fr Z'=>fr.get 3=some (.int .i64 (n:Nat))/\fr.get 10=some (.int .i64 (i:Nat))/\fr.get 1=some (str [c])/\fr.get 2=some (.int .i64 0)/\fr.get 9=some (.slice (some ⟨Z.n,0,none⟩) (n+1) (n+1)) /\
   Z'.B8 Z.n=some (cut l (n+1) i)/\Ext Z Z'/\Z.n<Z'.n/\∃ rem:By,fr.get 0=some (str rem)/\L7 c rem=l.drop i/\rem.length<=s.length)
  (fun r=>∃ fr Z' rem,r=⟨.exit 0,fr,Z'⟩/\fr.get 10=some (.int .i64 (n:Nat))/\fr.get 9=some (.slice (some ⟨Z.n,0,none⟩) (n+1) (n+1))/\Z'.B8 Z.n=some (cut l (n+1) n)/\Ext Z Z'/\Z.n<Z'.n/\fr.get 0=some (str rem)/\[rem]=l.drop n) ?_ ?_ ?_ ?_
 ·exact⟨fR,fR,fR,fR,fR,cL,eX,by simp,s,fR,R,AP _⟩
 ·rintro i fr Z' hi ⟨g3,b,p,g2,e,o,B,d,rem,f,h,D⟩;have A:decide ((i:Int)<(n:Int))=true:=by rw[z3z];omega
  refine gS1 (aI g3 (aI b (aI p (aI g2 (aI e (aI f A)))))) ?_;refine WW.mono ?_;rintro r rfl;rcases NS c rem with⟨_,q⟩|⟨m,g,q,j⟩
  ·exfalso;have:=congrArg List.length q;rw[h,HW,a]at this;simp at this;omega
  rw[h]at j;have E:l[i]? =some (rem.take m):=by
   have:=congrArg (fun l:List By=>l[0]?) j
   simpa using this
  have Q:L7 c (rem.drop (m+1))=l.drop (i+1):=by
   have:=congrArg (List.drop 1) j
   simpa[Ph,mg]using this.symm
  rw[g];have O:decide ((m:Int)<0)=false:=by rw[GF];omega
  have M:(m:Int)+0=(m:Int):=om;have N:(m:Int)+((1:Nat):Int)=((m+1:Nat):Int):=om;have y:decide (i<n+1)=true:=dT;have W:sub rem 0 (m-0)=some (rem.take m):=by rw[AE om];simp
  have X:sub rem (m+1) (rem.length-(m+1))=some (rem.drop (m+1)):=by rw[AE om,Pg (by simp)]
  have z:(i:Int)+1=((i+1:Nat):Int):=om;have u:=eD (n:=n+1) a E;have U:Nat.ble m rem.length=true:=Fi om;have F:Nat.ble 0 m=true:=Fi om;have V:Nat.ble (m+1) rem.length=true:=Fi om;refine gS1 (aI g3 (aI b (aI p (aI g2 (aI e (aI f (aI O (aI M (aI N (aI y (aI W (aI X (aI z (aI o (aI u (aI U (aI F V))))))))))))))))) ?_;exact⟨fR1 g3,fR,fR1 p,fR1 g2,fR1 e,cL,eX,cL,rem.drop (m+1),fR,Q,by rw[HW];omega⟩
 ·rintro fr Z' ⟨g3,b,p,g2,e,o,B,d,rem,f,h,D⟩;have A:decide ((n:Int)<(n:Int))=false:=sI;refine gS1 (aI g3 (aI b A)) ?_;refine⟨_,_,rem,rfl,fR1 b,fR1 e,o,B,d,fR1 f,?_⟩;have g:(l.drop n).length=1:=by rw[HW,a];omega
  rw[<- h]at g ⊢;rcases NS c rem with⟨_,q⟩|⟨m,_,_,j⟩
  ·exact q.symm
  ·rw[j]at g;simp at g;exact absurd (aK.1 (by simpa using g)) (NR c _)
 rintro r ⟨fr,Z',rem,rfl,b,e,o,B,d,f,h⟩;have E:l[n]? =some rem:=by
  have:=congrArg (fun l:List By=>l[0]?) h
  simpa using this.symm
 have u:=eD (n:=n+1) a E;have y:decide (n<n+1)=true:=dT;have z:(n:Int)+1=((n+1:Nat):Int):=om;have F:Nat.ble (n+1) (n+1)=true:=Fi om;refine gS1 (aI b (aI e (aI f (aI y (aI o (aI u (aI z (aI F @Tryz.results129)))))))) ?_;rw[uP a,Up,<- a];exact⟨_,_,rfl,uQ d (cL),eX,rfl⟩
def Wa (e:s.length<100000000):
  Ev (gO 71 [str s,str [c]] Z) (fun r=>∃ v Z',r=⟨false,v,Z'⟩/\HL Z' v (L7 c s)/\Ext Z Z'/\K3 v=some Z.n) ⟨⟩:=by
 refine G1 Tryz.func71 rfl rfl ?_;refine gS ?_;refine(WZ e).mono ?_;rintro r ⟨v,Z',rfl,a,b,d⟩;refine gS1 @Tryz.results71 ?_;exact⟨v,_,rfl,a,b,d⟩
end
end Go.Proofs.T
namespace Go.Proofs.T
open Go Go.Ab
section
variable {l:List By}{i k:Nat}{w:By}
def Av:List By->Nat->List Tok
 | [],_=>[]
 |w::ws,k=>(if w=[]then[]else[(w,k)])++Av ws (k+w.length+1)
def lens:List By->Nat
 | []=>0
 |w::ws=>w.length+1+lens ws
def H3 (s:By) (k:Nat):List Tok:=Av (L7 32 s) k++[([],k+s.length)]
def Ug (h:l[i]? =some w):lens (l.take (i+1))=lens (l.take i)+w.length+1:=by
 induction l generalizing i with
 |nil=>simp at h
 | cons a l ih=>
   cases i with
   |zero=>simp at h;subst h;simp[lens]
   | succ i=>
     have:=ih (i:=i) (by simpa using h);simp only[AF3,lens,this];omega
def dw (h:l[i]? =some w):Av (l.take (i+1)) k=Av (l.take i) k++(if w=[]then[]else[(w,k+lens (l.take i))]):=by
 induction l generalizing i k with
 |nil=>simp at h
 | cons a l ih=>
   cases i with
   |zero=>simp at h;subst h;simp[Av,lens]
   | succ i=>
     have:=ih (i:=i) (k:=k+a.length+1) (by simpa using h);simp only[AF3,Av,this,lens,DT];congr 4;rw[show k+a.length+1+lens (List.take i l)=k+(a.length+1+lens (List.take i l)) by omega]
def Dt (c:UInt8):∀ s:By,lens (L7 c s)=s.length+1
 | []=>rfl
 | x::s=>by
   have ih:=Dt c s;unfold L7;by_cases h:x=c
   ·rw[z1z h];simp[lens,ih];omega
   ·rw[z0z h];cases b:L7 c s with
    |nil=>exact absurd b (NR c s)
    |cons a t=>rw[b]at ih;simp[lens]at ih ⊢;omega
def gu (l:List By) (i:Nat):lens (l.take i)<=lens l:=by
 induction l generalizing i with
 |nil=>simp[lens]
 | cons a l ih=>
   cases i with
   |zero=>simp[lens]
   |succ i=>have:=ih i;simp[lens];omega
def OA (l:List By) (k:Nat):(Av l k).length<=l.length:=by
 induction l generalizing k with
 |nil=>simp[Av]
 | cons a l ih=>
   have:=ih (k+a.length+1);simp only[Av,W4,AG];split
   ·simp;omega
   ·simp;omega
def ld {Z:St}{s:By}(hs:s.length<10000000) (hk:k<10000000):
  Ev (gO 72 [str s,.int .i64 (k:Nat)] Z) (fun r=>∃ v Z',r=⟨false,v,Z'⟩/\OL Z.n Z' 2 v ((H3 s k).map FC)/\Ext Z Z') ⟨⟩:=by
 refine G1 Tryz.func72 rfl rfl ?_;refine gS ?_;refine(Wa om).mono ?_;rintro r ⟨v,y,rfl,Y,C,S⟩;have O:=Dt 32 s;have M:=GS 32 s;have U:=MF 32 s;unfold H3;generalize hl:L7 32 s=l at *;obtain⟨a,c,b,off,cells,rfl,k1,k2⟩:=Y.use;refine gS ?_;have V:lens l<=s.length+1:=om
 refine I9 l.length (fun i fr Z'=>fr.get 13=some (.int .i64 (i:Nat))/\fr.get 12=some (.int .i64 (l.length:Nat))/\fr.get 11=some (.slice a l.length c)/\fr.get 6=some (.int .i64 (k+lens (l.take i):Nat)) /\
   fr.get 0=some (str s)/\fr.get 1=some (.int .i64 (k:Nat))/\Ext y Z'/\∃ h,fr.get 5=some h/\OL y.n Z' 2 h ((Av (l.take i) k).map FC))
  (fun r=>∃ fr Z' h,r=⟨.exit 0,fr,Z'⟩/\fr.get 0=some (str s)/\fr.get 1=some (.int .i64 (k:Nat))/\Ext y Z'/\fr.get 5=some h/\OL y.n Z' 2 h ((Av l k).map FC)) ?_ ?_ ?_ ?_
 ·exact⟨fR,fR,fR,fR,fR,fR,.refl _,_,fR,OL.nil⟩
 ·rintro i fr Z' hi ⟨g,e,f,g6,z,A,j,h,g5,d⟩;obtain⟨w,I⟩:=I3 hi;obtain⟨sp,rfl,k3,k4⟩:=k1 om;have N:=eT (j.row k3) k4;have E:=k2 i w I;have F:decide ((i:Int)<(l.length:Int))=true:=by rw[z3z];omega
  have B:decide (i<l.length)=true:=AK hi;have X:=Ug I;have W:=gu l (i+1);have J:(w.length:Int)+1=((w.length+1:Nat):Int):=om;have K:((k+lens (l.take i):Nat):Int)+((w.length+1:Nat):Int)=((k+lens (l.take (i+1)):Nat):Int):=om;have L:(i:Int)+1=((i+1:Nat):Int):=om;have m:=dw (k:=k) I;cases o:decide (w=[])with
  | true=>
    rw[z1z (z6z o),Ca]at m;refine gS1 (aI g (aI e (aI f (aI g6 (aI F (aI B (aI N (aI E (aI J (aI K (aI L (aI o @Fh)))))))))))) ?_;exact⟨fR,fR1 e,fR1 f,fR,fR1 z,fR1 A,j,h,fR1 g5,by rw[m];exact d⟩
  | false=>
    rw[z0z (z9z o)]at m;refine gU1 (aI @A6 (aI @P2 (aI @R5 (aI @R6 (aI @R1 (aI @K6 (aI @R2 (aI @P5 (aI @K4 (aI @H5 (aI g (aI e (aI f (aI g6 (aI g5 (aI F (aI B (aI N (aI E (aI o @Fh)))))))))))))))))))) ?_;have q:=j.trans (Ext.new (t:=none) Z' [str w,.int .i64 (k+lens (l.take i):Nat)]);have D:=OA (l.take i) k;rw[KW]at D;refine J6 (row:=FC (w,k+lens (l.take i))) (fun _ _ _ _=>K5) (d.ext (.new _ _)) (G6 nL nL) (G3 (by simp[FC]) (by simp)) (by rw[z2z];omega) (by have:=j.n;simp;omega) ?_;intro u Z3 G H R;have p:Ext y Z3:=H.ext q (d.ext (.new _ _)) nL;refine gS1 (aI g (aI e (aI f (aI g6 (aI J (aI K L)))))) ?_;exact⟨fR,fR1 e,fR1 f,fR,fR1 z,fR1 A,p,u,fR,by rw[m,Ah];exact G⟩
 ·rintro fr Z' ⟨g,e,f,g6,z,A,j,h,g5,d⟩;have F:decide ((l.length:Int)<(l.length:Int))=false:=sI;refine gS1 (aI g (aI e F)) ?_;exact⟨_,_,h,rfl,fR1 z,fR1 A,j,fR1 g5,by rw[Dq]at d;exact d⟩
 rintro r ⟨fr,Z',h,rfl,z,A,j,g5,d⟩;have Q:(k:Int)+(s.length:Int)=((k+s.length:Nat):Int):=om;refine gU1 (aI @A6 (aI @P2 (aI @R5 (aI @R6 (aI @R1 (aI @K6 (aI @R2 (aI @P5 (aI @K4 (aI @H5 (aI z (aI A (aI g5 Q))))))))))))) ?_;have q:=j.trans (Ext.new (t:=none) Z' [str [],.int .i64 (k+s.length:Nat)]);have D:=OA l k;refine J6 (row:=FC ([],k+s.length)) (fun _ _ _ _=>K5) (d.ext (.new _ _)) (G6 nL nL) (G3 (by simp[FC]) (by simp)) (by rw[z2z];omega) (by have:=j.n;simp;omega) ?_;intro u Z3 G H R;have p:Ext y Z3:=H.ext q (d.ext (.new _ _)) nL;refine gS1 @Tryz.results72 ?_;exact⟨u,Z3,rfl,by rw[Ah];exact OL.lower G C.n,C.trans p⟩
end
def TT {c:UInt8}(h:on J3 c=true):48<=c.toNat/\c.toNat<=57:=by
 unfold on J3 at h;simp at h;omega
def Ae7 {c:UInt8}:dg c=on J3 c:=by
 unfold dg on J3;rw[z7z];simp
 try omega
def AH1 {s:By}(h:s.all (on J3)=true):s.all dg=true:=by
 rw[GH]at h ⊢;exact fun c a=>by rw[Ae7];exact h c a
def uo {Z:St}{s:By}(h:s.all (on J3)=true) (b:0<s.length) (c:s.length<=1000000000) :
  (AZ s<9223372036854775808/\go Tryz.prog HS (.fn 216) [str s] Z=some ⟨false,.tuple ⟨[.int .i64 (AZ s:Nat),.nilIface]⟩,Z⟩) \/
  (9223372036854775808<=AZ s/\go Tryz.prog HS (.fn 216) [str s] Z=some ⟨false,.tuple ⟨[.int .i64 9223372036854775807,.iface 261 (.pointer (some ⟨Z.n,0,none⟩))]⟩,Z.new []⟩):=by
 have d:(s.all dg&&decide (s≠[])&&decide (s.length<=1000000000))=true:=by
  rw[AH1 h,AK (by intro e;rw[e]at b;simp at b),AK c];rfl
 have e:go Tryz.prog HS (.fn 216) [str s] Z=bb (s.all dg&&decide (s≠[])&&decide (s.length<=1000000000)) (bi (decide (AZ s<9223372036854775808)) (some ⟨false,.tuple ⟨[.int .i64 (AZ s:Nat),.nilIface]⟩,Z⟩)
   (some ⟨false,.tuple ⟨[.int .i64 9223372036854775807,.iface 261 (.pointer (some ⟨Z.n,0,none⟩))]⟩,Z.new []⟩)):=rfl
 rw[e,d,V0];by_cases a:AZ s<9223372036854775808
 ·exact .inl ⟨a,by rw[AK a,N5]⟩
 ·exact .inr ⟨om,by rw[z4z a,j7]⟩
def AH2 {i:Tmp}{b:Nat}:CI Tryz.prog .eql 118 (.tmp i) (.const .nilIface) (.iface 261 (.pointer (some ⟨b,0,none⟩))) .nilIface=some (.bool false):=kR
section
variable {G7:Int}{nw:Int->Bool}{t s:By}
def Qi {Z:St}(h:s.all (on J3)=true) (c:0<s.length) (d:s.length<=1000000000):
  Ev (gO 193 [str s] Z) (fun r=>∃ (Z':St) (n:Nat),r=⟨false,.tuple ⟨[.int .i64 (n:Nat),.bool (decide (AZ s<=1000000000))]⟩,Z'⟩/\Ext Z Z'/\(AZ s<=1000000000->n=AZ s)) ⟨⟩:=by
 refine G1 Tryz.func193 rfl rfl ?_;rcases uo (Z:=Z) h c d with⟨e,b⟩|⟨e,b⟩
 ·have a:(!decide (1000000000<((AZ s:Nat):Int)))=decide (AZ s<=1000000000):=by
   rw[z7z];simp;omega
  refine gS1 (aI b (aI @H7 (aI @I0 (aI a @Tryz.results193)))) ?_;exact⟨_,_,rfl,.refl _,fun _=>rfl⟩
 ·have a:decide (AZ s<=1000000000)=false:=dF;rw[a];refine gS1 (aI b (a4N @AH2 @H7 @I0 @Tryz.results193)) ?_;exact⟨_,9223372036854775807,rfl,.new _ _,fun h=>om⟩
def Ends (A7:List Tok):Prop:=∀ (k:Nat) (t:Tok),A7[k]? =some t->t.1≠[]->k+1<A7.length
def En (A7:List Tok):Prop:=∀ t∈A7,t.1.length<10000000
def Qj (h:JD s=true):s.all (on J3)=true/\0<s.length/\s≠[]:=by
 unfold JD at h;rw[T1,T1]at h;refine⟨h.1.2,?_,?_⟩
 ·cases s with
  |nil=>simp[GB]at h
  |cons=>simp
 ·rintro rfl;simp[GB]at h
def MP (G7:Int) (nw:Int->Bool) (t:By):Except Int Nat :=
 if JD t=false then .error 12 else if AZ t<=1000000000/\G7<=AZ t then(if nw (AZ t)then .ok (AZ t)else .error 13)else .error 3
def xy (h:JD t=false):MP G7 nw t= .error 12:=by unfold MP;rw[z1z h]
def rQ (h:JD t=true) (c:(decide (AZ t<=1000000000)&& !decide ((AZ t:Int)<G7))=false):MP G7 nw t= .error 3:=by
 unfold MP;rw[z0z (by rw[h];simp),z0z];rintro⟨a,b⟩;rw[AK a,dF]at c;cases c
def xz (h:JD t=true) (b:AZ t<=1000000000) (a:(!decide ((AZ t:Int)<G7))=true):MP G7 nw t=if nw (AZ t)then .ok (AZ t)else .error 13:=by
 have:¬ (AZ t:Int)<G7:=by intro c;rw[AK c]at a;cases a
 unfold MP;rw[z0z (by rw[h];simp),z1z ⟨b,om⟩]
def UY {Z:St}{b:Nat}{v:Value}{A7:List Tok}{k:Nat}{H4:List Value}(h:Sc Z b v A7 k H4) (C:Ends A7) (y:En A7){t:Tok}(ht:A7[k]? =some t)
  {g:Nat}{fs cs:List Value}{nw:Int->Bool}{G7:Int} (q:∀ (Z':St) (n:Nat),Ext Z Z'->n<=1000000000->Ev (go Tryz.prog HS (.fn g) (fs++[.int .i64 n]++cs) Z') (fun r=>∃ Z2,r=⟨false,.bool (nw n),Z2⟩/\Ext Z' Z2) ⟨⟩) :
  Ev (gO 154 [ptr b,.int .i64 G7,.func (.func g) ⟨fs⟩ ⟨cs⟩] Z) (fun r=>match MP G7 nw t.1 with
   | .ok n=>∃ Z',r=⟨false,.int .i64 n,Z'⟩/\G5 b Z Z'/\Z'.B8 b=some (v:: .int .i64 (k+1:Nat)::H4)/\k+1<A7.length
   | .error e=>∃ Z',r=⟨true,fault t.2 e,Z'⟩/\Ext Z Z') ⟨⟩:=by
 have J:=y t (y6 ht);refine G1 Tryz.func154 rfl rfl ?_;unfold ptr;refine gS ?_;refine(Y9 h ht).mono ?_;rintro r ⟨I,rfl,c⟩;refine gS ?_;refine(OQ om).mono ?_;rintro r rfl;refine gS ?_;have A:=h.ext c;refine(P1 A ht).mono ?_;rintro r (⟨f,rfl⟩|⟨f,Z2,rfl,a⟩)
 case inr=>
  refine gS ?_;refine T3.intro kR ?_;refine gS ?_;rw[xy f];exact⟨_,rfl,c.trans a⟩
 obtain⟨F,G,H⟩:=Qj f;refine gS ?_;refine(Qi F G om).mono ?_;rintro r ⟨Z2,K,rfl,a,p⟩;refine gS ?_;have l:=A.ext a;cases j:decide (AZ t.1<=1000000000)with
 | false=>
   refine gS ?_;refine(P1 l ht).mono ?_;rintro r (⟨E,-⟩|⟨-,z,rfl,d⟩)
   case inl=>cases E
   refine gS ?_;rw[rQ f (by rw[j];rfl)];exact⟨_,rfl,(c.trans a).trans d⟩
 | true=>
   obtain rfl:=p (z6z j);refine gS ?_;refine(P1 l ht).mono ?_;rintro r (⟨m,rfl⟩|⟨m,z,rfl,d⟩)
   case inr=>
    refine gS ?_;rw[rQ f (by rw[j,m];rfl)];exact⟨_,rfl,(c.trans a).trans d⟩
   refine gS ?_;refine(q Z2 (AZ t.1) (c.trans a) (z6z j)).mono ?_;rintro r ⟨z,rfl,d⟩;have B:=l.ext d;refine gS ?_;refine(P1 B ht).mono ?_;rw[xz f (z6z j) m];rintro r (⟨o,rfl⟩|⟨o,D,rfl,i⟩)
   case inr=>
    refine gS ?_;refine T3.intro kR ?_;refine gS ?_;rw[z0z (by rw[o];simp)];exact⟨_,rfl,((c.trans a).trans d).trans i⟩
   refine gS ?_;rw[z1z o];refine(BV B ht).mono ?_;rintro r ⟨D,rfl,i,u⟩;refine gS1 @Tryz.results154 ?_;exact⟨_,rfl,(G5.of ((c.trans a).trans d)).trans i,u,C k t ht H⟩
end
def Stp {c:Type}(Z:St) (b:Nat) (v:Value) (A7:List Tok) (k:Nat) (H4:List Value) (t:Tok) (R:Except Int c) (f:c->Value) (r:CR):Prop:=match R with
 | .ok a=>∃ Z',r=⟨false,f a,Z'⟩/\G5 b Z Z'/\Z'.B8 b=some (v:: .int .i64 (k+1:Nat)::H4)/\k+1<A7.length
 | .error e=>∃ Z',r=⟨true,fault t.2 e,Z'⟩/\Ext Z Z'
def Nt (n:Nat):Value:= .int .i64 (n:Nat)
def Mz {Z:St}{t:Option TypeId}{l:List By}:HL (Z.new (l.map str) t) (.slice (some ⟨Z.n,0,none⟩) l.length l.length) l :=
 OL.sl (OL.mk (lo:=0) (by simp) (by induction l with|nil=>rfl|cons a l c=>simp[c]at c ⊢) (by simp) (.inl rfl) (Af _) (by simp) (K2 nL nL))
section
variable {Z:St}{b:Nat}{v:Value}{A7:List Tok}{k:Nat}{H4:List Value}{t:Tok}
def AO5 {Z:St}{n:Nat}:Ev (gO 195 [.int .i64 (n:Nat)] Z) (fun r=>∃ Z2,r=⟨false,.bool true,Z2⟩/\Ext Z Z2) ⟨⟩:=by
 refine G1 Tryz.func195 rfl rfl ?_;refine gS1 @Tryz.results195 ?_;exact⟨_,rfl,.refl _⟩
def qv (h:Sc Z b v A7 k H4) (d:Ends A7) (c:En A7) (ht:A7[k]? =some t) :
  Ev (gO 159 [ptr b] Z) (Stp Z b v A7 k H4 t (MP 0 (fun _=>true) t.1) Nt) ⟨⟩:=by
 refine G1 Tryz.func159 rfl rfl ?_;refine gS ?_;refine(UY h d c ht (fs:=[]) (cs:=[]) (nw:=fun _=>true) fun Z' n _ _=>AO5).mono ?_;intro r;unfold Stp;cases MP 0 (fun _=>true) t.1 with
 | ok n=>
   rintro⟨Z',rfl,a,f,g⟩;refine gS1 @Tryz.results159 ?_;exact⟨_,rfl,a,f,g⟩
 | error e=>
   rintro⟨Z',rfl,a⟩;refine gS ?_;exact⟨_,rfl,a⟩
def AO6 {p:Value}{l:List By}(h:Sc Z b v A7 k H4) (q:Ends A7) (ht:A7[k]? =some t) (o:HL Z p l) (z:l.length<=10) (j:[]∉l) :
  Ev (gO 158 [ptr b,p] Z) (Stp Z b v A7 k H4 t (if l.contains t.1 then .ok t.1 else .error 12) str) ⟨⟩:=by
 obtain⟨a,c,rfl⟩:=o.shape;refine G1 Tryz.func158 rfl rfl ?_;unfold ptr;refine gS ?_;refine(Y9 h ht).mono ?_;rintro r ⟨s,rfl,f⟩;refine gS ?_;refine(DB (o.mono f) om).mono ?_;rintro r rfl;refine gS ?_;have n:=h.ext f;refine(P1 n ht).mono ?_;rintro r (⟨d,rfl⟩|⟨d,u,rfl,g⟩)
 case inr=>
  refine gS ?_;refine T3.intro kR ?_;refine gS ?_;rw[z0z (by rw[d];simp)];exact⟨_,rfl,f.trans g⟩
 refine gS ?_;rw[z1z d];refine(BV n ht).mono ?_;rintro r ⟨y,rfl,i,m⟩;refine gS1 @Tryz.results158 ?_;exact⟨_,rfl,(G5.of f).trans i,m,q k t ht (by intro e;rw[e]at d;exact j (by simpa using d))⟩
def UZ {Z:St}{s:By}(c:s.length<9223372036854775807):Ev (gO 163 [str s] Z) (fun r=>∃ Z',r=⟨false,.bool (R4 s),Z'⟩/\Ext Z Z') ⟨⟩:=by
 refine G1 Tryz.func163 rfl rfl ?_;refine gS ?_;refine(HY c).mono ?_;rintro r rfl;unfold R4;cases W0 s with
 | false=>
   refine gS1 @Tryz.results163 ?_;exact⟨_,rfl,.refl _⟩
 | true=>
   refine gS ?_;refine(DB (l:=LK) (Mz (l:=LK)) (by decide)).mono ?_;rintro r rfl;have a:(true&& !LK.contains s)= !LK.contains s:=rfl;refine gS1 (aI a @Tryz.results163) ?_;exact⟨_,rfl,eX⟩
def gH (h:Sc Z b v A7 k H4) (g:En A7) (ht:A7[k]? =some t) :
  Ev (gO 160 [ptr b] Z) (fun r=>(R4 t.1=true/\∃ Z',r=⟨false,str t.1,Z'⟩/\Ext Z Z')\/(R4 t.1=false/\∃ Z',r=⟨true,fault t.2 12,Z'⟩/\Ext Z Z')) ⟨⟩:=by
 have p:=g t (y6 ht);refine G1 Tryz.func160 rfl rfl ?_;unfold ptr;refine gS ?_;refine(Y9 h ht).mono ?_;rintro r ⟨l,rfl,a⟩;refine gS ?_;have j:=h.ext a;refine(UZ om).mono ?_;rintro r ⟨m,rfl,c⟩;refine gS ?_;have i:=j.ext c;refine(P1 i ht).mono ?_;rintro r (⟨d,rfl⟩|⟨d,n,rfl,e⟩)
 case inr=>
  refine gS ?_;refine T3.intro kR ?_;refine gS ?_;exact .inr ⟨d,_,rfl,(a.trans c).trans e⟩
 refine gS ?_;refine(Y9 i ht).mono ?_;rintro r ⟨o,rfl,f⟩;refine gS1 @Tryz.results160 ?_;exact .inl ⟨d,_,rfl,(a.trans c).trans f⟩
end
def du {Z:St}{v:Value}{l:List Lot}{g:Nat}{fs cs:List Value}{p:Lot->Bool}(G:SL Z 2 v (l.map Lot.row)) (J:l.length<=4294967296)
  (F:∀ (Z':St) (x:Lot),Ext Z Z'->x∈l->Ev (go Tryz.prog HS (.fn g) (fs++[.agg ⟨x.row⟩]++cs) Z') (fun r=>∃ Z2,r=⟨false,.bool (p x),Z2⟩/\Ext Z' Z2) ⟨⟩) :
  Ev (gO 194 [v,.func (.func g) ⟨fs⟩ ⟨cs⟩] Z) (fun r=>∃ (n:Int) (Z':St),r=⟨false,.int .i64 n,Z'⟩/\Ext Z Z'/\(!decide (n<0))=l.any p) ⟨⟩:=by
 obtain⟨a,c,b,off,cells,rfl,D,y⟩:=G.use;rw[z2z]at *;refine G1 Tryz.func194 rfl rfl ?_;refine gS ?_
 refine BE (fun j fr Z'=>∃ k,j=l.length-k/\k<=l.length/\fr.get 0=some (.slice a l.length c)/\fr.get 1=some (.func (.func g) ⟨fs⟩ ⟨cs⟩)/\fr.get 7=some (.int .i64 l.length)/\fr.get 8=some (.int .i64 k)/\Ext Z Z'/\(l.take k).any p=false)
  (fun r=>(∃ fr Z',r=⟨.exit 0,fr,Z'⟩/\Ext Z Z'/\l.any p=false)\/(∃ fr Z' k,r=⟨.ret,fr,Z'⟩/\Ext Z Z'/\fr.get 4=some (.int .i64 (k:Nat))/\l.any p=true)) l.length ?_ ?_ ?_
 ·exact⟨0,rfl,om,fR,fR,fR,fR,.refl _,rfl⟩
 ·rintro j fr Z' ⟨k,rfl,I,h,i,m,u,d,f⟩;by_cases A:k<l.length
  ·obtain⟨sp,rfl,E,H⟩:=D om;obtain⟨x,hx⟩:∃ x,l[k]? =some x:=⟨_,List.getElem?_eq_getElem A⟩
   have B:=eT (d.row E) H;have y:=y k x.row (by rw[List.getElem?_map,hx];rfl);have e:decide (k<l.length)=true:=by simpa using A
   have s:Lot.row x=[.int .i64 x.id,.int .i64 x.G4]:=rfl;rw[s]at y;refine gS1 (aI h (aI i (aI m (aI u (aI @IY (aI e (aI B y))))))) ?_;have q:=F Z' x d (y6 hx);rw[s]at q;refine q.mono ?_;rintro r ⟨Z2,rfl,z⟩;have o:=d.trans z;cases C:p x with
   | true=>
     refine gS1 (aI h (aI i (aI m (aI u @VF)))) ?_;refine .inr ⟨_,_,k,rfl,o,fR,?_⟩;rw[oW];exact⟨x,y6 hx,C⟩
   | false=>
     refine gS1 (aI h (aI i (aI m (aI u (aI @JY @R8))))) ?_;refine⟨l.length-(k+1),om,k+1,rfl,om,fR1 h,fR1 i,fR1 m,fR,o,?_⟩;rw[Gf,hx,List.any_append,f];simp[C]
  ·have e:decide (k<l.length)=false:=by simpa using A
   obtain rfl:k=l.length:=om;rw[Dq]at f;refine gS1 (aI h (aI i (aI m (aI u (aI @IY (aI e @BS)))))) ?_;exact .inl ⟨_,_,rfl,d,f⟩
 ·rintro r (⟨fr,Z',rfl,d,f⟩|⟨fr,Z',k,rfl,d,g4,f⟩)
  ·refine gS1 @Tryz.results194 ?_;exact⟨-1,_,rfl,d,by rw[f];rfl⟩
  ·refine gS1 (aI @Tryz.results194 g4) ?_;exact⟨k,_,rfl,d,by rw[f];simp⟩
def tM {Z:St}{v:Value}{l:List Lot}{g:Nat}{fs cs:List Value}{p:Lot->Bool}(e:SL Z 2 v (l.map Lot.row)) (j:l.length<=4294967296)
  (i:∀ (Z':St) (x:Lot),Ext Z Z'->x∈l->Ev (go Tryz.prog HS (.fn g) (fs++[.agg ⟨x.row⟩]++cs) Z') (fun r=>∃ Z2,r=⟨false,.bool (p x),Z2⟩/\Ext Z' Z2) ⟨⟩) :
  Ev (gO 156 [v,.func (.func g) ⟨fs⟩ ⟨cs⟩] Z) (fun r=>∃ (Z':St),r=⟨false,.bool (l.any p),Z'⟩/\Ext Z Z') ⟨⟩:=by
 have d:=e;obtain⟨a,c,b,off,cells,rfl,m,o⟩:=e.use;refine G1 Tryz.func156 rfl rfl ?_;refine gS ?_;refine(du d j i).mono ?_;rintro r ⟨n,Z',rfl,f,h⟩;refine gS1 (aI @Tryz.results156 h) ?_;exact⟨_,rfl,f⟩
def Zy {Z:St}{v:Value}{l:List S8}{g:Nat}{fs cs:List Value}{p:S8->Bool}(G:SL Z 5 v (l.map S8.row)) (J:l.length<=4294967296)
  (F:∀ (Z':St) (x:S8),Ext Z Z'->x∈l->Ev (go Tryz.prog HS (.fn g) (fs++[.agg ⟨x.row⟩]++cs) Z') (fun r=>∃ Z2,r=⟨false,.bool (p x),Z2⟩/\Ext Z' Z2) ⟨⟩) :
  Ev (gO 196 [v,.func (.func g) ⟨fs⟩ ⟨cs⟩] Z) (fun r=>∃ (n:Int) (Z':St),r=⟨false,.int .i64 n,Z'⟩/\Ext Z Z'/\(!decide (n<0))=l.any p) ⟨⟩:=by
 obtain⟨a,c,b,off,cells,rfl,D,y⟩:=G.use;rw[z2z]at *;refine G1 Tryz.func196 rfl rfl ?_;refine gS ?_
 refine BE (fun j fr Z'=>∃ k,j=l.length-k/\k<=l.length/\fr.get 0=some (.slice a l.length c)/\fr.get 1=some (.func (.func g) ⟨fs⟩ ⟨cs⟩)/\fr.get 7=some (.int .i64 l.length)/\fr.get 8=some (.int .i64 k)/\Ext Z Z'/\(l.take k).any p=false)
  (fun r=>(∃ fr Z',r=⟨.exit 0,fr,Z'⟩/\Ext Z Z'/\l.any p=false)\/(∃ fr Z' k,r=⟨.ret,fr,Z'⟩/\Ext Z Z'/\fr.get 4=some (.int .i64 (k:Nat))/\l.any p=true)) l.length ?_ ?_ ?_
 ·exact⟨0,rfl,om,fR,fR,fR,fR,.refl _,rfl⟩
 ·rintro j fr Z' ⟨k,rfl,I,h,i,m,u,d,f⟩;by_cases A:k<l.length
  ·obtain⟨sp,rfl,E,H⟩:=D om;obtain⟨x,hx⟩:∃ x,l[k]? =some x:=⟨_,List.getElem?_eq_getElem A⟩
   have B:=eT (d.row E) H;have y:=y k x.row (by rw[List.getElem?_map,hx];rfl);have e:decide (k<l.length)=true:=by simpa using A
   have s:S8.row x=[str x.name,.int .i64 x.kind,.int .i64 x.low,.int .i64 x.high,.bool x.less]:=rfl;rw[s]at y;refine gS1 (aI h (aI i (aI m (aI u (aI @IY (aI e (aI B y))))))) ?_;have q:=F Z' x d (y6 hx);rw[s]at q;refine q.mono ?_;rintro r ⟨Z2,rfl,z⟩;have o:=d.trans z;cases C:p x with
   | true=>
     refine gS1 (aI h (aI i (aI m (aI u @VF)))) ?_;refine .inr ⟨_,_,k,rfl,o,fR,?_⟩;rw[oW];exact⟨x,y6 hx,C⟩
   | false=>
     refine gS1 (aI h (aI i (aI m (aI u (aI @JY @R8))))) ?_;refine⟨l.length-(k+1),om,k+1,rfl,om,fR1 h,fR1 i,fR1 m,fR,o,?_⟩;rw[Gf,hx,List.any_append,f];simp[C]
  ·have e:decide (k<l.length)=false:=by simpa using A
   obtain rfl:k=l.length:=om;rw[Dq]at f;refine gS1 (aI h (aI i (aI m (aI u (aI @IY (aI e @BS)))))) ?_;exact .inl ⟨_,_,rfl,d,f⟩
 ·rintro r (⟨fr,Z',rfl,d,f⟩|⟨fr,Z',k,rfl,d,g4,f⟩)
  ·refine gS1 @Tryz.results196 ?_;exact⟨-1,_,rfl,d,by rw[f];rfl⟩
  ·refine gS1 (aI @Tryz.results196 g4) ?_;exact⟨k,_,rfl,d,by rw[f];simp⟩
def kP {Z:St}{v:Value}{l:List S8}{g:Nat}{fs cs:List Value}{p:S8->Bool}(e:SL Z 5 v (l.map S8.row)) (j:l.length<=4294967296)
  (i:∀ (Z':St) (x:S8),Ext Z Z'->x∈l->Ev (go Tryz.prog HS (.fn g) (fs++[.agg ⟨x.row⟩]++cs) Z') (fun r=>∃ Z2,r=⟨false,.bool (p x),Z2⟩/\Ext Z' Z2) ⟨⟩) :
  Ev (gO 161 [v,.func (.func g) ⟨fs⟩ ⟨cs⟩] Z) (fun r=>∃ (Z':St),r=⟨false,.bool (l.any p),Z'⟩/\Ext Z Z') ⟨⟩:=by
 have d:=e;obtain⟨a,c,b,off,cells,rfl,m,o⟩:=e.use;refine G1 Tryz.func161 rfl rfl ?_;refine gS ?_;refine(Zy d j i).mono ?_;rintro r ⟨n,Z',rfl,f,h⟩;refine gS1 (aI @Tryz.results161 h) ?_;exact⟨_,rfl,f⟩
section
variable {Z:St}{cells:List Value}{op nm:By}{n d:Int}{T:Tn}
mutual
def ExX (Z:St) (row:List Value):Ex->Prop
 | .mk op n d nm args=>∃ v D0,row=[str op,.int .i64 n,.int .i64 d,str nm,v]/\SLs Z 5 v D0/\args.length<=4/\HQ Z D0 args
def HQ (Z:St) (D0:List (List Value)):List Ex->Prop
 | []=>D0=[]
 |e::es=>∃ r rs,D0=r::rs/\ExX Z r e/\HQ Z rs es
end
mutual
theorem ExX.to {Z:St}{row:List Value}:∀ {e:Ex},ExX Z row e->Aq Z row e
 | .mk op n d nm args,h=>by
   obtain⟨v,D0,h1,h2,h4,h3⟩:=h;exact⟨v,D0,h1,h2.sl,h4,HQ.to h3⟩
theorem HQ.to {Z:St}{D0:List (List Value)}:∀ {es:List Ex},HQ Z D0 es->BH Z D0 es
 | [],h=>h
 | e::es,h=>by
   obtain⟨r,rs,h1,h2,h3⟩:=h;exact⟨r,rs,h1,ExX.to h2,HQ.to h3⟩
end
mutual
theorem ExX.I4 {Z Z':St}(a:Ao Z Z'){row:List Value}:∀ {e:Ex},ExX Z row e->ExX Z' row e
 | .mk op n d nm args,h=>by
   obtain⟨v,D0,h1,h2,h4,h3⟩:=h;exact⟨v,D0,h1,SLs.I4 h2 a,h4,HQ.I4 a h3⟩
theorem HQ.I4 {Z Z':St}(a:Ao Z Z'){D0:List (List Value)}:∀ {es:List Ex},HQ Z D0 es->HQ Z' D0 es
 | [],h=>h
 | e::es,h=>by
   obtain⟨r,rs,h1,h2,h3⟩:=h;exact⟨r,rs,h1,ExX.I4 a h2,HQ.I4 a h3⟩
end
def ar:ExX Z [str op,.int .i64 n,.int .i64 d,str nm,.slice none 0 0] (.mk op n d nm []):=⟨_,[],rfl,SLs.nil,by simp,rfl⟩
def Mf {row:List Value}{e:Ex}(h:ExX Z row e):row.length=5:=h.to.len
def uy {b f:Nat}{sp:Option Nat}{c a:List Value}{x y:Ex}(i:b<Z.n) (e:Z.row b=some cells) (j:cells=c++a) (g:ExX Z c x) (h:ExX Z a y):
  ExX Z [str op,.int .i64 n,.int .i64 d,str nm,.slice (some ⟨b,0,sp⟩) 2 f] (.mk op n d nm [x,y]):=by
 have l:=Mf g;have m:=Mf h;subst j;refine⟨_,[c,a],rfl,⟨fun r e=>?_,.inr ⟨b,0,sp,f,_,rfl,i,e,?_⟩⟩,by simp,c,[a],rfl,g,a,[],rfl,h,rfl⟩
 ·simp only[V9,LN,MJ]at e;rcases e with rfl|rfl
  ·exact l
  ·exact m
 ·show sub (c++a) 0 (2*5)=some (c++(a++[]));rw[Ca];exact G3 (by simp;omega) (by simp;omega)
def TnY (Z:St) (cells:List Value) (T:Tn):Prop :=
 ∃ vl vc vr ex vt vk vs,cells=Ae T.name vl vc vr T.low T.high ex vt T.G4 vk T.C9 T.t/\SLs Z 2 vl (T.F9.map Lot.row)/\SLs Z 5 vc (T.E9.map S8.row)/\SLs Z 3 vr (T.reqs.map Req.row)/\ExX Z ex T.f /\
  SLs Z 1 vt (T.H2.map fun s=>[str s])/\SLs Z 1 vk (vs.map fun x=>[x])/\EK (GG Z) vs T.C8
def TnY.tn (h:TnY Z cells T):Bj Z cells T:=by
 obtain⟨p,m,q,a,r,o,vs,b,c,e,f,g,i,j,l⟩:=h;exact⟨p,m,q,a,r,o,b,c.sl,e.sl,f.sl,g.to,i.sl,vs,j.sl,l⟩
def TnY.I4 {Z':St}(h:TnY Z cells T) (a:Ao Z Z'):TnY Z' cells T:=by
 obtain⟨q,o,r,b,s,p,vs,c,e,f,g,i,j,l,m⟩:=h;exact⟨q,o,r,b,s,p,vs,c,e.I4 a,f.I4 a,g.I4 a,i.I4 a,j.I4 a,l.I4 a,m.mono fun _ _ h=>SL.I4 h a⟩
end
section
variable {w:Value}{cs:List Value}{c b i:Nat}
def szT (i:Nat):Nat:=match i with
 |0=>2
 |1=>5
 |2=>3
 |_=>1
def Cg (T:Tn) (vs:List Value) (i:Nat):List (List Value):=match i with
 |0=>T.F9.map Lot.row
 |1=>T.E9.map S8.row
 |2=>T.reqs.map Req.row
 |3=>T.H2.map fun s=>[str s]
 |_=>vs.map fun x=>[x]
def held (bt bx:Nat) (v:Nat->Value):List Nat:=List.range bt++bt::bx::(JC (v 0)++JC (v 1)++JC (v 2)++JC (v 3)++JC (v 4))
def tt {v:Value}:c∈JC v↔K3 v=some c:=by
 unfold JC K3;split<;>simp[eq_comm]
def Cm {bt bx:Nat}{v:Nat->Value}:c∈held bt bx v↔c=bt\/c=bx\/(∃ i,i<5/\K3 (v i)=some c)\/c<bt:=by
 unfold held;simp only[V9,An,tt,We];constructor
 ·rintro(h|h|h|((((h|h)|h)|h)|h))
  ·exact .inr (.inr (.inr h))
  ·exact .inl h
  ·exact .inr (.inl h)
  ·exact .inr (.inr (.inl ⟨0,om,h⟩))
  ·exact .inr (.inr (.inl ⟨1,om,h⟩))
  ·exact .inr (.inr (.inl ⟨2,om,h⟩))
  ·exact .inr (.inr (.inl ⟨3,om,h⟩))
  ·exact .inr (.inr (.inl ⟨4,om,h⟩))
 ·rintro(h|h|⟨i,hi,h⟩|h)
  ·exact .inr (.inl h)
  ·exact .inr (.inr (.inl h))
  ·match i,hi,h with
   |0,_,h=>exact .inr (.inr (.inr (.inl (.inl (.inl (.inl h))))))
   |1,_,h=>exact .inr (.inr (.inr (.inl (.inl (.inl (.inr h))))))
   |2,_,h=>exact .inr (.inr (.inr (.inl (.inl (.inr h)))))
   |3,_,h=>exact .inr (.inr (.inr (.inl (.inr h))))
   |4,_,h=>exact .inr (.inr (.inr (.inr h)))
  ·exact .inl h
def tnR (T:Tn) (v:Nat->Value) (fc:List Value):List Value:=Ae T.name (v 0) (v 1) (v 2) T.low T.high fc (v 3) T.G4 (v 4) T.C9 T.t
structure Ln (ZL Z:St) (bt bx:Nat) (T:Tn) (tv:Value) (A7:List Tok) (k:Nat) (H4:List Value) (v:Nat->Value) (fc vs:List Value):Prop where
 ext:G5 bt ZL Z
 btl:bt<ZL.n
 bxg:ZL.n<=bx
 row:Z.B8 bt=some (tnR T v fc)
 sl:∀ i,i<5->OL ZL.n Z (szT i) (v i) (Cg T vs i)
 dis:∀ i j c,i<5->j<5->i≠j->K3 (v i)=some c->K3 (v j)≠some c
 dx:∀ i,i<5->K3 (v i)≠some bx
 fx:Aq (J0 Z (held bt bx v)) fc T.f
 iv:EK (GG (J0 Z (held bt bx v))) vs T.C8
 sc:Sc Z bx tv A7 k H4
 tk:∀ c,K3 tv=some c->c≠bt/\∀ i,i<5->K3 (v i)≠some c
section
variable {ZL Z Z':St}{bt bx:Nat}{T T':Tn}{tv:Value}{A7:List Tok}{k k':Nat}{H4 rest':List Value}{v:Nat->Value}{fc fc' vs vs':List Value}
def Ln.ne (h:Ln ZL Z bt bx T tv A7 k H4 v fc vs):bt≠bx:=by have:=h.btl;have:=h.bxg;omega
def Ln.step (h:Ln ZL Z bt bx T tv A7 k H4 v fc vs) (a:G5 bx Z Z') (o:Z'.B8 bx=some (tv:: .int .i64 (k':Nat)::rest')) (m:k'<A7.length):Ln ZL Z' bt bx T tv A7 k' rest' v fc vs:=by
 have j:Ao (J0 Z (held bt bx v)) (J0 Z' (held bt bx v)):=K8 a.n fun c d l=>⟨l,a.row d fun e=>l (Cm.2 (.inr (.inl e)))⟩
 have f:bt<Z.n:=z5z h.btl h.ext.n;refine⟨⟨W5 h.ext.n a.n,fun c d g=>?_⟩,h.btl,h.bxg,by rw[a.B8 f h.ne];exact h.row,fun i hi=>?_,h.dis,h.dx,h.fx.I4 j,h.iv.mono fun _ _ p=>SL.I4 p j,h.sc.CA a o m,h.tk⟩
 ·rw[a.same c (z5z d h.ext.n) (by have:=h.bxg;omega),h.ext.same c d g]
 ·refine(h.sl i hi).I4 a.n fun c d=>a.same c ((h.sl i hi).blk d).2 fun e=>h.dx i hi (by rw[d,e])
def Ln.N6 (h:Ln ZL Z bt bx T tv A7 k H4 v fc vs) (a:Ext Z Z'):Ln ZL Z' bt bx T tv A7 k H4 v fc vs :=
 h.step (.of a) (by rw[B9 (a.same bx h.sc.lt)];exact h.sc.row) h.sc.k
def OL.Ip {lo size:Nat}{D0:List (List Value)}(h:OL lo Z size w D0) (d:b<lo):OL lo (Z.upd b cs) size w D0 :=
 h.I4 nL fun c a=>by rw[M4,z0z (by have:=(h.blk a).1;omega)]
def Sc.Ip (h:Sc Z bx tv A7 k H4) (a:b≠bx) (ht:K3 tv≠some b):Sc (Z.upd b cs) bx tv A7 k H4 :=
 ⟨by rw[H6 (fun e=>a e.symm)];exact h.row,h.lt,SL.sf h.sl (p:=b) (G5.upd .refl _) ht,h.ne,h.k,h.len⟩
def NO {bt bx:Nat}{v:Nat->Value}:Ao (J0 Z (held bt bx v)) (J0 (Z.upd bt cs) (held bt bx v)) :=
 K8 nL fun c _ a=>⟨a,I2 fun e=>a (Cm.2 (.inl e))⟩
def Ln.put (h:Ln ZL Z bt bx T tv A7 k H4 v fc vs) (T':Tn) (a:Cg T' vs=Cg T vs) (d:T'.f=T.f) (g:T'.C8=T.C8):Ln ZL (Z.upd bt (tnR T' v fc)) bt bx T' tv A7 k H4 v fc vs :=
 ⟨h.ext.upd _,h.btl,h.bxg,G8,fun i hi=>by rw[a];exact OL.Ip (h.sl i hi) h.btl,h.dis,h.dx,by rw[d];exact h.fx.I4 NO,by rw[g];exact h.iv.mono fun _ _ j=>SL.I4 j NO,
  h.sc.Ip h.ne fun e=>(h.tk bt e).1 rfl,h.tk⟩
def Ln.fml (h:Ln ZL Z bt bx T tv A7 k H4 v fc vs) {e:Ex} (a:Aq (J0 Z (held bt bx v)) fc' e):Ln ZL (Z.upd bt (tnR { T with f:=e } v fc')) bt bx { T with f:=e } tv A7 k H4 v fc' vs :=
 ⟨h.ext.upd _,h.btl,h.bxg,G8,fun i hi=>OL.Ip (h.sl i hi) h.btl,h.dis,h.dx,a.I4 NO,h.iv.mono fun _ _ d=>SL.I4 d NO,
  h.sc.Ip h.ne fun e=>(h.tk bt e).1 rfl,h.tk⟩
def vup (v:Nat->Value) (i:Nat) (w:Value):Nat->Value:=fun j=>if j=i then w else v j
def IG:vup v i w i=w:=z1z rfl
def MC {j:Nat}(h:j≠i):vup v i w j=v j:=z0z h
def Ln.app (h:Ln ZL Z bt bx T tv A7 k H4 v fc vs){i:Nat}(hi:i<5){w:Value}(l:App Z Z' (v i) w) (M:OL ZL.n Z' (szT i) w (Cg T' vs' i))
  (N:∀ j,j<5->j≠i->Cg T' vs' j=Cg T vs j) (L:T'.f=T.f) (O:EK (GG (J0 Z (held bt bx v))) vs' T'.C8) :
  Ln ZL (Z'.upd bt (tnR T' (vup v i w) fc)) bt bx T' tv A7 k H4 (vup v i w) fc vs':=by
 have K:bt<Z.n:=z5z h.btl h.ext.n;have D:=h.sl i hi;have p:∀ c,K3 w=some c->Z.n<=c:=fun c g=>(l.new c g).1;have H:Ao (J0 Z (held bt bx v)) (J0 (Z'.upd bt (tnR T' (vup v i w) fc)) (held bt bx (vup v i w))):=by
  refine K8 l.n fun c g o=>⟨fun E=>?_,?_⟩
  ·rcases Cm.1 E with e|e|⟨j,m,e⟩|e
   ·exact o (Cm.2 (.inl e))
   ·exact o (Cm.2 (.inr (.inl e)))
   ·by_cases d:j=i
    ·subst d;rw[IG]at e;have:=p c e;omega
    ·rw[MC d]at e;exact o (Cm.2 (.inr (.inr (.inl ⟨j,m,e⟩))))
   ·exact o (Cm.2 (.inr (.inr (.inr e))))
  ·rw[I2 fun e=>o (Cm.2 (.inl e))];exact V7 (l.same c g fun e=>o (Cm.2 (.inr (.inr (.inl ⟨i,hi,e⟩)))))
 have C:K3 (v i)≠some bx:=h.dx i hi;have G:Sc Z' bx tv A7 k H4:=by
  refine⟨by rw[B9 (l.same bx h.sc.lt C)];exact h.sc.row,z5z h.sc.lt l.n,?_,h.sc.ne,h.sc.k,h.sc.len⟩;rcases h.sc.sl with F|⟨b,off,sp,c,cells,rfl,B,I,J⟩
  ·exact .inl F
  ·exact .inr ⟨b,off,sp,c,cells,rfl,z5z B l.n,by rw[V7 (l.same b B ((h.tk b rfl).2 i hi))];exact I,J⟩
 refine⟨⟨W5 h.ext.n l.n,fun c g z=>?_⟩,h.btl,h.bxg,G8,fun j m=>?_,?_,?_,by rw[L];exact h.fx.I4 H,O.mono fun _ _ Q=>SL.I4 Q H,G.Ip h.ne fun e=>(h.tk bt e).1 rfl,fun c g=>⟨(h.tk c g).1,fun j m=>?_⟩⟩
 ·rw[M4,z0z z,l.same c (z5z g h.ext.n) (fun e=>by have:=(D.blk e).1;omega),h.ext.same c g z]
 ·refine OL.Ip ?_ h.btl;by_cases d:j=i
  ·subst d;rw[IG];exact M
  ·rw[MC d,N j m d];exact(h.sl j m).I4 l.n fun c g=>l.same c ((h.sl j m).blk g).2 fun e=>h.dis i j c hi m (fun e=>d e.symm) e g
 ·intro a b c q u r e;by_cases s:a=i
  ·subst s;rw[IG]at e;rw[MC (fun e=>r e.symm)];intro A;have:=p c e;have:=((h.sl b u).blk A).2;omega
  ·rw[MC s]at e;by_cases y:b=i
   ·subst y;rw[IG];intro A;have:=p c A;have:=((h.sl a q).blk e).2;omega
   ·rw[MC y];exact h.dis a b c q u r e
 ·intro j m;by_cases d:j=i
  ·subst d;rw[IG];intro e;have:=p bx e;have:=h.sc.lt;omega
  ·rw[MC d];exact h.dx j m
 ·by_cases d:j=i
  ·subst d;rw[IG];intro e;have:=p c e;have:=h.sc.sl;rcases this with F|⟨b,off,sp,R,cells,rfl,B,-⟩
   ·rw[F.1]at g;cases g
   ·cases g;omega
  ·rw[MC d];exact(h.tk c g).2 j m
end
end
section
variable {a Z':St}{bs:List Nat}{i j n o c q k':Nat}{l fc' vs':List Value}{T':Tn}{v':Nat->Value}
abbrev Er:=Nat×Int
def V6 {d g:Type}(x:Except Er d) (f:d->Except Er g):Except Er g:=match x with
 | .ok a=>f a
 | .error e=> .error e
def F0 {d e:Type}{a:d}{f:d->Except Er e}:V6 (.ok a) f=f a:=rfl
def I8 {d g:Type}{e:Er}{f:d->Except Er g}:V6 (.error e) f= .error e:=rfl
def E8 (A7:List Tok) (k:Nat):Tok:=A7.getD k ([],0)
def R9 {A7:List Tok}{k:Nat}(h:k<A7.length):A7[k]? =some (E8 A7 k):=by
 unfold E8;rw[List.getD_eq_getElem?_getD,List.getElem?_eq_getElem h];rfl
def rd1 {d:Type}(A7:List Tok) (k:Nat) (R:Except Int d):Except Er (d×Nat):=match R with
 | .ok a=> .ok (a,k+1)
 | .error e=> .error ((E8 A7 k).2,e)
def rdNum (A7:List Tok) (G7:Int) (nw:Int->Bool) (k:Nat):Except Er (Nat×Nat):=rd1 A7 k (MP G7 nw (E8 A7 k).1)
def W3 (A7:List Tok) (k:Nat):Except Er (Nat×Nat):=rdNum A7 0 (fun _=>true) k
def Ha (A7:List Tok) (d:List By) (k:Nat):Except Er (By×Nat):=rd1 A7 k (if d.contains (E8 A7 k).1 then .ok (E8 A7 k).1 else .error 12)
def HN (A7:List Tok) (k:Nat):Except Er By:=if R4 (E8 A7 k).1 then .ok (E8 A7 k).1 else .error ((E8 A7 k).2,12)
def yk {d:Type}(Z:St) (b:Nat) (v:Value) (A7:List Tok) (H4:List Value) (R:Except Er (d×Nat)) (f:d->Value) (r:CR):Prop:=match R with
 | .ok (a,k')=>∃ Z',r=⟨false,f a,Z'⟩/\G5 b Z Z'/\Z'.B8 b=some (v:: .int .i64 (k':Nat)::H4)/\k'<A7.length
 | .error (p,e)=>∃ Z',r=⟨true,fault p e,Z'⟩/\Ext Z Z'
def Stp.k {d:Type}{Z:St}{b:Nat}{v:Value}{A7:List Tok}{k:Nat}{H4:List Value}{R:Except Int d}{f:d->Value}{r:CR}(h:Stp Z b v A7 k H4 (E8 A7 k) R f r):yk Z b v A7 H4 (rd1 A7 k R) f r:=by
 cases R with
 |ok a=>exact h
 |error e=>exact h
section
variable {Z:St}{b:Nat}{v:Value}{A7:List Tok}{k:Nat}{H4:List Value}
def Gk (h:Sc Z b v A7 k H4) (e:Ends A7) (d:En A7):
  Ev (gO 159 [.pointer (some ⟨b,0,none⟩)] Z) (yk Z b v A7 H4 (W3 A7 k) Nt) ⟨⟩:=(qv h e d (R9 h.k)).mono fun _ h=>h.k
def AN5 {e:Value}{l:List By}(h:Sc Z b v A7 k H4) (f:Ends A7) (m:HL Z e l) (g:l.length<=10) (d:[]∉l):
  Ev (gO 158 [.pointer (some ⟨b,0,none⟩),e] Z) (yk Z b v A7 H4 (Ha A7 l k) str) ⟨⟩:=(AO6 h f (R9 h.k) m g d).mono fun _ h=>h.k
def iA (h:Sc Z b v A7 k H4) (f:Ends A7) (e:En A7)
  {g:Nat}{fs cs:List Value}{nw:Int->Bool}{G7:Int} (d:∀ (Z':St) (n:Nat),Ext Z Z'->n<=1000000000->Ev (go Tryz.prog HS (.fn g) (fs++[.int .i64 n]++cs) Z') (fun r=>∃ Z2,r=⟨false,.bool (nw n),Z2⟩/\Ext Z' Z2) ⟨⟩) :
  Ev (gO 154 [.pointer (some ⟨b,0,none⟩),.int .i64 G7,.func (.func g) ⟨fs⟩ ⟨cs⟩] Z) (yk Z b v A7 H4 (rdNum A7 G7 nw k) Nt) ⟨⟩ :=
 (UY h f e (R9 h.k) d).mono fun r h=>Stp.k (by unfold Stp;revert h;cases MP G7 nw (E8 A7 k).1<;>exact id)
end
def LnP (ZL:St) (bt bx:Nat) (tv:Value) (A7:List Tok) (H4:List Value) (R:Except Er (Tn×Nat)) (r:CR):Prop:=match R with
 | .ok (T,k)=>∃ Z' v fc vs,r=⟨false,.tuple ⟨[]⟩,Z'⟩/\Ln ZL Z' bt bx T tv A7 k H4 v fc vs
 | .error (p,e)=>∃ Z',r=⟨true,fault p e,Z'⟩/\G5 bt ZL Z'
def Nb (A7:List Tok) (T:Tn) (k:Nat):Except Er (Tn×Nat) :=
 V6 (rdNum A7 1 (fun n=> !(T.F9.any fun l=>decide (l.id=n))) k) fun(id,k)=>V6 (Ha A7 [[109,111,115,116]] k) fun(_,k)=>V6 (W3 A7 k) fun(m,k)=> .ok ({ T with F9:=T.F9++[⟨id,m⟩] },k)
section
variable {Z ZL:St}{bt bx:Nat}{T:Tn}{tv:Value}{A7:List Tok}{k:Nat}{tx:By}{from':Nat}{v:Nat->Value}{fc vs:List Value}
def N1 {b:Nat}{d:List Ab.Trace}:M7 bs i ⟨b,o,n⟩ (.eff j a (a.new l)::d)=M7 bs i ⟨b,o,n⟩ d:=Je fun h=>(Ext.new a l).same b h
def Q9 {b:Nat}{d:List Ab.Trace}(h:b≠c):M7 bs i ⟨b,o,n⟩ (.eff j a (a.upd c l)::d)=M7 bs i ⟨b,o,n⟩ d:=Je fun _=>by show(a.upd c l).h.get b=_;rw[M4,z0z h]
def U0 {r:BA}{b:St}{d:List Ab.Trace}(h:ordered bs i j=true):M7 bs i r (.eff j a b::d)=M7 bs i r d:=by
 show bi (bi (ordered bs i j) true (bi (Nat.blt r.b a.n) (bi (Nat.beq (a.ver r.b) (b.ver r.b)) true (Aj (a.read r.b r.off r.n) (b.read r.b r.off r.n))) true)) (M7 bs i r d) false=_;rw[h];rfl
def Bz {b:St}(d:Ext a b):∀ (bs:List Nat) (i j q o n:Nat) (ds:List Ab.Trace),M7 bs i ⟨q,o,n⟩ (.eff j a b::ds)=M7 bs i ⟨q,o,n⟩ ds:=fun bs i j q o n ds=>Je fun h=>d.same q h
def dM {p:Nat}{b:St}(d:G5 p a b):∀ (bs:List Nat) (i j q o n:Nat) (ds:List Ab.Trace),q≠p->M7 bs i ⟨q,o,n⟩ (.eff j a b::ds)=M7 bs i ⟨q,o,n⟩ ds:=fun bs i j q o n ds h=>Je fun e=>d.same q e h
def Fy {b:St}{v w:Value}(d:App a b v w)(h:K3 v≠some q):∀ (bs:List Nat) (i j o n:Nat) (ds:List Ab.Trace),M7 bs i ⟨q,o,n⟩ (.eff j a b::ds)=M7 bs i ⟨q,o,n⟩ ds:=fun bs i j o n ds=>Je fun e=>d.same q e h
def tK {b:St}{d:List Ab.Trace}(h:Aj (a.read q o n) (b.read q o n)=true):M7 bs i ⟨q,o,n⟩ (.eff j a b::d)=M7 bs i ⟨q,o,n⟩ d:=by
 show bi (bi (ordered bs i j) true (bi (Nat.blt q a.n) (bi (Nat.beq (a.ver q) (b.ver q)) true (Aj (a.read q o n) (b.read q o n))) true)) (M7 bs i ⟨q,o,n⟩ d) false=_;rw[h];cases ordered bs i j<;>cases Nat.blt q a.n<;>cases Nat.beq (a.ver q) (b.ver q)<;>rfl
def tL:Aj (some [.pointer (some ⟨c,0,none⟩)]) (some [.pointer (some ⟨c,0,none⟩)])=true:=by
 show bi (veq _ _) true false=true;unfold veq;simp
def N9 (tx:By) (from' bt:Nat):List Value:=[str tx,.int .i64 (from':Nat),.pointer (some ⟨bt,0,none⟩)]
def Ln.rt (h:Ln ZL Z bt bx T tv A7 k (N9 tx from' bt) v fc vs):Z.read bx 4 1=some [.pointer (some ⟨bt,0,none⟩)]:=by
 rw[AB,C1 h.sc.row];rfl
def Ao4 {d:List Ab.Trace}(h:Ln ZL Z bt bx T tv A7 k (N9 tx from' bt) v fc vs) (e:Ln ZL Z' bt bx T' tv A7 k' (N9 tx from' bt) v' fc' vs'):
  M7 bs i ⟨bx,4,1⟩ (.eff j Z Z'::d)=M7 bs i ⟨bx,4,1⟩ d:=tK (by rw[h.rt,e.rt];exact tL)
def Ir (h:Ln ZL Z bt bx T tv A7 k (N9 tx from' bt) v fc vs) (d:Ln ZL Z' bt bx T' tv A7 k' (N9 tx from' bt) v' fc' vs'):∀ (bs:List Nat) (i j:Nat) (ds:List Ab.Trace),M7 bs i ⟨bx,4,1⟩ (.eff j Z Z'::ds)=M7 bs i ⟨bx,4,1⟩ ds:=fun _ _ _ _=>Ao4 h d
def fc5 {Z:St}{fc:List Value}{e:Ex}(h:Aq Z fc e):∃ c1 c2 c3 c4 c5,fc=[c1,c2,c3,c4,c5]:=by
 cases e with
 | mk op n d nm args=>
   obtain⟨v,D0,f,-⟩:=h;exact⟨_,_,_,_,_,f⟩
def dV {Z:St}{x:Lot}{n:Int}{bn:Nat}(d:Z.row bn=some [.int .i64 n]) (e:bn<Z.n):
  Ev (gO 157 [.agg ⟨x.row⟩,.pointer (some ⟨bn,0,none⟩)] Z) (fun r=>∃ Z2,r=⟨false,.bool (decide (x.id=n)),Z2⟩/\Ext Z Z2) ⟨⟩:=by
 refine G1 Tryz.func157 rfl rfl ?_;rw[show x.row=[.int .i64 x.id,.int .i64 x.G4]from rfl];refine gS1 (aI d @Tryz.results157) ?_;exact⟨_,rfl,eX⟩
def mF {e:Nat}(h:Ln ZL Z bt bx T tv A7 k (N9 tx from' bt) v fc vs) (A:Z.row e=some [.pointer (some ⟨bx,0,none⟩)]) (C:e<Z.n) (d:T.F9.length<=4294967296):
  Ev (gO 155 [.int .i64 (n:Nat),.pointer (some ⟨e,0,none⟩)] Z) (fun r=>∃ Z2,r=⟨false,.bool (!(T.F9.any fun l=>decide (l.id=(n:Int)))),Z2⟩/\Ext Z Z2) ⟨⟩:=by
 refine G1 Tryz.func155 rfl rfl ?_;have u:=C1 h.sc.row;have ht:=C1 h.row;obtain⟨c1,c2,c3,c4,B,rfl⟩:=fc5 h.fx;have z:=h.sc.lt;have y:=z5z h.btl h.ext.n;unfold N9 at u;unfold tnR Ae at ht;have f:=h.sl 0 om;obtain⟨a,ha⟩:=OL.shape f;rw[ha]at ht f;refine gS1 (aI A (aI u ht)) ?_;have g:SL _ 2 _ (T.F9.map Lot.row):=OL.sl (OL.ext f (Ext.new (t:=none) Z [.int .i64 (n:Nat)]));refine(tM (p:=fun l=>decide (l.id=(n:Int))) (by rw[show(Cg T vs 0).length=T.F9.length from by show(T.F9.map _).length=_;rw[z2z]]at *;exact g) d fun Z' x s _=>?_).mono ?_
 ·refine dV (bn:=Z.n) ?_ ?_
  ·rw[s.row (by simp)];exact cL
  ·have:=s.n;simp at this;omega
 rintro r ⟨Z2,rfl,m⟩;refine gS1 @Tryz.results155 ?_;exact⟨_,rfl,(Ext.new _ _).trans m⟩
def AU6 (h:Ln ZL Z bt bx T tv A7 k (N9 tx from' bt) v fc vs) (E:Ends A7) (A:En A7) (a0:T.F9.length<=100000):
  Ev (gO 115 [.pointer (some ⟨bx,0,none⟩)] Z) (LnP ZL bt bx tv A7 (N9 tx from' bt) (Nb A7 T k)) ⟨⟩:=by
 refine G1 Tryz.func115 rfl rfl ?_;refine gS ?_;have C:=h.N6 (Ext.new (t:=none) Z [.pointer (some ⟨bx,0,none⟩)]);have a5:=h.sc.lt;refine(iA (fs:=[]) (cs:=[.pointer (some ⟨Z.n,0,none⟩)]) (nw:=fun n=> !(T.F9.any fun l=>decide (l.id=n))) C.sc E A fun Z' n d _=>?_).mono ?_
 ·refine mF (C.N6 d) ?_ ?_ om
  ·rw[d.row (by simp)];exact cL
  ·have:=d.n;simp at this;omega
 intro r;unfold Nb;cases hR:rdNum A7 1 (fun n=> !(T.F9.any fun l=>decide (l.id=n))) k with
 | error pe=>
   obtain⟨p,e⟩:=pe;rintro⟨Z',rfl,d⟩;refine gS ?_;rw[I8];exact⟨_,rfl,(C.N6 d).ext⟩
 | ok ak=>
   obtain⟨id,k1⟩:=ak;rintro⟨S,rfl,g,N,H⟩;rw[F0];have h2:=C.step g N H;have rp:S.row Z.n=some [.pointer (some ⟨bx,0,none⟩)]:=eT (g.row (by simp) om) cL;have K:=g.n;simp at K;unfold Nt;refine gS1 rp ?_;have G:=h2.N6 (Ext.new (t:=none) S [str [109,111,115,116]]);refine(AN5 G.sc E (Mz (l:=[[109,111,115,116]])) (by decide) (by decide)).mono ?_;intro r
   try dsimp only
   cases a2:Ha A7 [[109,111,115,116]] k1 with
   | error pe=>
     obtain⟨p,e⟩:=pe;rintro⟨Z',rfl,d⟩;refine gS ?_;rw[I8];exact⟨_,rfl,(G.N6 d).ext⟩
   | ok ak=>
     obtain⟨w,k2⟩:=ak;rintro⟨Z2,rfl,s,O,I⟩;rw[F0];have f:=G.step s O I;have L:=s.n;simp at L;have R:Z2.row Z.n=some [.pointer (some ⟨bx,0,none⟩)]:=by rw[s.row (by simp;omega) om];exact cL1 rp
     have hx:=C1 f.sc.row;have ht:=C1 f.row;unfold N9 at hx;obtain⟨c1,c2,c3,c4,F,rfl⟩:∃ c1 c2 c3 c4 F,fc=[c1,c2,c3,c4,F]:=fc5 f.fx;unfold tnR Ae at ht;obtain⟨a,ha⟩:=OL.shape (f.sl 0 om);rw[ha]at ht;refine gS1 (aI R (aI hx ht)) ?_;refine(Gk f.sc E A).mono ?_;intro r
     try dsimp only
     cases a3:W3 A7 k2 with
     | error pe=>
       obtain⟨p,e⟩:=pe;rintro⟨Z',rfl,d⟩;refine gS ?_;refine T3.intro kR ?_;refine dW1 (Bz d) ?_;refine gS ?_;rw[I8];exact⟨_,rfl,(f.N6 d).ext⟩
     | ok ak=>
       obtain⟨m,k3⟩:=ak;rintro⟨U,rfl,z,Q,J⟩;rw[F0];have D:=f.step z Q J;unfold Nt;refine gU1 (a10N @A6 @P2 @R6 @R1 @K6 @R2 @P5 @K4 @K5 @H5) ?_;have y:=D.N6 (Ext.new (t:=none) U [.int .i64 id,.int .i64 m]);have u:=y.sl 0 om;have V:=y.dx 0 om;have W:K3 (v 0)≠some Z.n:=fun e=>by have:=((h.sl 0 om).blk e).2;omega
       rw[ha]at u V W;rw[show(Cg T vs 0).length=T.F9.length from z2z ..]at *;refine J6 (lo:=ZL.n) (D0:=T.F9.map Lot.row) (row:=[.int .i64 id,.int .i64 m]) (fun _ _ _ _=>R5) u (G6 nL nL) (G3 (by simp) (by simp)) (by rw[z2z];omega) (by have:=y.ext.n;simp at this ⊢;omega) ?_;intro v' Z5 X g2 g3;have a4:bt<U.n:=z5z D.btl D.ext.n;have B:Z5.B8 bt=some (tnR T v [c1,c2,c3,c4,F]):=by
        rw[B9 (g2.same bt (by simp;omega) fun e=>by have:=(u.blk e).1;have:=h.btl;omega)];exact y.row
       obtain⟨a',rfl⟩:=OL.shape X;have Y:=y.app (T':={ T with F9:=T.F9++[⟨id,m⟩] }) (vs':=vs) (i:=0) om (by rw[ha];exact g2) (by show OL _ _ 2 _ (List.map _ _);rw[Ah];exact X) (by intro j hj M;match j,hj,M with|1,_,_=>rfl|2,_,_=>rfl|3,_,_=>rfl|4,_,_=>rfl) rfl y.iv;have a6:=Y.sc.row;unfold tnR Ae at B;refine gS1 B ?_;have hL:=h.btl;have hg:=h.bxg;have a1:=h.ext.n;refine dW1 (aI (dM z) (aI (Fy g2 V) (aI (Fy g2 W) (Ir f D)))) ?_;refine gS1 @Tryz.results115 ?_;exact⟨_,_,_,_,rfl,Y⟩
end
end
end Go.Proofs.T
