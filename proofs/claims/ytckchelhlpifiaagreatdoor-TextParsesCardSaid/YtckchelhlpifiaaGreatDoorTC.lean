/- A Fj, as plain data, and how it BM0 in memory. -/
import Derived.Test.YtckchelhlpifiaaGreatDoorTB
set_option linter.unusedSimpArgs false
set_option linter.unusedVariables false
set_option linter.defProp false
set_option maxHeartbeats 32000000
set_option maxRecDepth 100000
namespace Go.Proofs.T
open Go Go.Ab
section
variable {Z Z':St}{v:Value}{cells:List Value}
abbrev By:=List UInt8
def EU (n:Int):Prop:= -9223372036854775808<=n/\n<=9223372036854775807
structure Lot where
 id:Int
 P8:Int
 deriving DecidableEq
structure AB where
 name:By
 kind:Int
 low:Int
 high:Int
 less:Bool
 deriving DecidableEq
structure Req where
 name:By
 rel:By
 value:Int
 deriving DecidableEq
inductive Ex where
 |mk (op:By) (num den:Int) (name:By) (args:List Ex)
structure Tim where
 q:Int
 b:Int
 g:Int
 p:Int
 s:Int
 deriving DecidableEq
structure Tn where
 name:By
 G8:List Lot
 D2:List AB
 reqs:List Req
 low:Int
 high:Int
 f:Ex
 F5:List By
 P8:Int
 D6:List (List Int)
 J8:Int
 t:Tim
def Lot.row (l:Lot):List Value:=[.int .i64 l.id,.int .i64 l.P8]
def AB.row (c:AB):List Value:=[str c.name,.int .i64 c.kind,.int .i64 c.low,.int .i64 c.high,.bool c.less]
def Req.row (r:Req):List Value:=[str r.name,str r.rel,.int .i64 r.value]
def Fk (Z:St) (v:Value) (l:List Int):Prop:=SL Z 1 v (l.map fun n=>[.int .i64 n])
def gW (Z:St) (v:Value) (l:List Lot):Prop:=SL Z 2 v (l.map Lot.row)
def SJ (Z:St) (v:Value) (l:List AB):Prop:=SL Z 5 v (l.map AB.row)
def gY (Z:St) (v:Value) (l:List Req):Prop:=SL Z 3 v (l.map Req.row)
def FP {α β:Type}(R:α->β->Prop):List α->List β->Prop
 | [],[]=>True
 |a::l,b::k=>R a b/\FP R l k
 |_,_=>False
def FP.len {α β:Type}{R:α->β->Prop}:∀ {l:List α}{k:List β},FP R l k->l.length=k.length
 | [],[],_=>rfl
 |_::_,_::_,h=>by rw[Ah,Ah,h.2.len]
 | [],_::_,h=>h.elim
 |_::_,[],h=>h.elim
def FP.get {α β:Type}{R:α->β->Prop}:∀ {l:List α}{k:List β}{i:Nat}{a:α}{b:β},FP R l k->l[i]? =some a->k[i]? =some b->R a b
 |a::l,b::k,0,_,_,h,h1,h2=>by cases h1;cases h2;exact h.1
 |a::l,b::k,i+1,_,_,h,h1,h2=>h.2.get (i:=i) (by simpa using h1) (by simpa using h2)
 | [],_,_,_,_,_,h1,_=>by simp at h1
 |_::_,[],_,_,_,h,_,_=>h.elim
def FP.mono {α β:Type}{R S:α->β->Prop}(hRS:∀ a b,R a b->S a b):∀ {l:List α}{k:List β},FP R l k->FP S l k
 | [],[],_=>trivial
 |_::_,_::_,h=>⟨hRS _ _ h.1,h.2.mono hRS⟩
 | [],_::_,h=>h.elim
 |_::_,[],h=>h.elim
def FP.app {α β:Type}{R:α->β->Prop}{a:α}{b:β}(hab:R a b):∀ {l:List α}{k:List β},FP R l k->FP R (l++[a]) (k++[b])
 | [],[],_=>⟨hab,trivial⟩
 |_::_,_::_,h=>⟨h.1,h.2.app hab⟩
 | [],_::_,h=>h.elim
 |_::_,[],h=>h.elim
def PC (Z:St) (v:Value) (l:List (List Int)):Prop:=∃ vs:List Value,SL Z 1 v (vs.map fun x=>[x])/\FP (Fk Z) vs l
mutual
def Ag (Z:St) (row:List Value):Ex->Prop
 | .mk op n d nm args=>∃ v D4,row=[str op,.int .i64 n,.int .i64 d,str nm,v]/\SL Z 5 v D4/\args.length<=4/\Cr Z D4 args
def Cr (Z:St) (D4:List (List Value)):List Ex->Prop
 | []=>D4=[]
 |e::es=>∃ r rs,D4=r::rs/\Ag Z r e/\Cr Z rs es
end
mutual
theorem Ag.mono {Z Z':St}(hE:Ext Z Z'){row:List Value}:∀ {e:Ex},Ag Z row e->Ag Z' row e
 | .mk op n d nm args,h=>by
   obtain⟨v,D4,h1,h2,h4,h3⟩:=h;exact⟨v,D4,h1,h2.mono hE,h4,Cr.mono hE h3⟩
theorem Cr.mono {Z Z':St}(hE:Ext Z Z'){D4:List (List Value)}:∀ {es:List Ex},Cr Z D4 es->Cr Z' D4 es
 | [],h=>h
 | e::es,h=>by
   obtain⟨r,rs,h1,h2,h3⟩:=h;exact⟨r,rs,h1,Ag.mono hE h2,Cr.mono hE h3⟩
end
def Cr.len {Z:St}:∀ {D4:List (List Value)}{es:List Ex},Cr Z D4 es->D4.length=es.length
 |_,[],h=>by rw[show _=_ from h];rfl
 | _,e::es,h=>by
   obtain⟨r,rs,rfl,-,h3⟩:=h;rw[Ah,Ah,h3.len]
def Cr.get {Z:St}:∀ {D4:List (List Value)}{es:List Ex}{i:Nat}{r:List Value}{e:Ex},Cr Z D4 es->D4[i]? =some r->es[i]? =some e->Ag Z r e
 |_,[],_,_,_,_,_,h2=>by simp at h2
 | _,e::es,i,_,_,h,h1,h2=>by
   obtain⟨r,rs,rfl,h3,h4⟩:=h;cases i with
   |zero=>cases h1;cases h2;exact h3
   |succ i=>exact h4.get (i:=i) (by simpa using h1) (by simpa using h2)
def AI (nm:By) (vl vc vr:Value) (low high:Int) (ex:List Value) (vt:Value) (P8:Int) (vk:Value) (J8:Int) (t:Tim):List Value :=
 [str nm,vl,vc,vr,.int .i64 low,.int .i64 high]++ex++[vt,.int .i64 P8,vk,.int .i64 J8,.int .i64 t.q,.int .i64 t.b,.int .i64 t.g,.int .i64 t.p,.int .i64 t.s]
def Dm (Z:St) (cells:List Value) (T:Tn):Prop :=
 ∃ vl vc vr ex vt vk,cells=AI T.name vl vc vr T.low T.high ex vt T.P8 vk T.J8 T.t/\gW Z vl T.G8/\SJ Z vc T.D2/\gY Z vr T.reqs/\Ag Z ex T.f/\HX Z vt T.F5/\PC Z vk T.D6
def Fk.mono {l:List Int}(h:Fk Z v l) (hE:Ext Z Z'):Fk Z' v l:=SL.mono h hE
def PC.mono {l:List (List Int)}(h:PC Z v l) (hE:Ext Z Z'):PC Z' v l:=by
 obtain⟨vs,h1,h2⟩:=h;exact⟨vs,h1.mono hE,h2.mono fun _ _ h=>h.mono hE⟩
def Dm.mono {T:Tn}(h:Dm Z cells T) (hE:Ext Z Z'):Dm Z' cells T:=by
 obtain⟨vl,vc,vr,ex,vt,vk,h1,h2,h3,h4,h5,h6,h7⟩:=h;exact⟨vl,vc,vr,ex,vt,vk,h1,SL.mono h2 hE,SL.mono h3 hE,SL.mono h4 hE,h5.mono hE,h6.mono hE,h7.mono hE⟩
def Ag.len {Z:St}{row:List Value}:∀ {e:Ex},Ag Z row e->row.length=5
 | .mk _ _ _ _ _,h=>by obtain⟨v,D4,rfl,-,-⟩:=h;rfl
def Dm.len {T:Tn}(h:Dm Z cells T):cells.length=20:=by
 obtain⟨vl,vc,vr,ex,vt,vk,rfl,-,-,-,h5,-⟩:=h;simp[AI,h5.len]
def names:List By:=[[113,117,97,108,105,116,121],[100,97,121,115],[115,116,97,102,102],[112,114,105,99,101],[108,111,119],[115,112,101,101,100],[99,111,109,102,111,114,116],[119,101,105,103,104,116]]
structure Tn.Ok (T:Tn):Prop where
 G8:T.G8.length<=16
 lot:∀ l∈T.G8,0<=l.id/\l.id<10/\EU l.P8
 D2:T.D2.length<=16
 MB:∀ c∈T.D2,c.name∈names/\EU c.kind/\EU c.low/\EU c.high
 reqs:T.reqs.length<=8
 req:∀ r∈T.reqs,r.name∈names/\r.rel.length<=2/\EU r.value
 low:EU T.low
 high:EU T.high
 F5:T.F5.length<=16
 tie:∀ s∈T.F5,s∈names
 P8:EU T.P8
 D6:T.D6.length<=16
 combo:∀ l∈T.D6,l.length<=4/\∀ n∈l,EU n
 J8:EU T.J8
 tim:EU T.t.q/\EU T.t.b/\EU T.t.g/\EU T.t.p/\EU T.t.s
end
section
variable {Z:St}{n:Int}{k:Nat}
def Di (n:Int):Bool:=(!decide (n<97)&& !decide (122<n))||(!decide (n<65)&& !decide (90<n))
def F0 (n:Int):Bool:= !decide (n<48)&& !decide (57<n)
def Bw (n:Int):Bool:=Di n||F0 n||decide (n=95)
def G9:yieldOf true Q8=false:=rfl
def H2:yieldOf false Q8=false:=rfl
def NM:Ev (gO 50 [.int .u8 n] Z) (fun r=>r=⟨false,.bool (Di n),Z⟩) ⟨⟩:=by
 refine D0 Tryz.func50 rfl rfl ?_;unfold Di;cases a:decide (n<97)<;>cases b:decide (122<n)<;>cases c:decide (n<65)<;>cases d:decide (90<n)<;>refine gS1 (aI a (aI b (aI c (aI d (a3N @G9 @H2 @Tryz.results50))))) ?_<;>rfl
def MR:Ev (gO 53 [.int .u8 n] Z) (fun r=>r=⟨false,.bool (F0 n),Z⟩) ⟨⟩:=by
 refine D0 Tryz.func53 rfl rfl ?_;unfold F0;cases a:decide (n<48)<;>cases b:decide (57<n)<;>refine gS1 (aI a (aI b (a3N @G9 @H2 @Tryz.results53))) ?_<;>rfl
def iQ:Ev (gO 52 [.int .u8 n] Z) (fun r=>r=⟨false,.bool (Bw n),Z⟩) ⟨⟩:=by
 refine D0 Tryz.func52 rfl rfl ?_;refine gS ?_;refine NM.mono ?_;rintro r rfl;unfold Bw;cases a:Di n
 ·refine gS1 a ?_;refine MR.mono ?_;rintro r rfl;cases b:F0 n<;>cases c:decide (n=95)<;>refine gS1 (aI a (aI b (aI c (a3N @G9 @H2 @Tryz.results52)))) ?_<;>rfl
 ·cases c:decide (n=95)<;>refine gS1 (aI a (aI c (a3N @G9 @H2 @Tryz.results52))) ?_<;>rfl
def mn (g:Nat) (p:Int->Bool):Prop:=∀ (Z:St) (n:Int),Ev (go Tryz.prog HS (.fn g) [.int .u8 n] Z) (fun r=>r=⟨false,.bool (p n),Z⟩) ⟨⟩
def Ja:mn 53 F0:=fun _ _=>MR
def PX:mn 52 Bw:=fun _ _=>iQ
def on (p:Int->Bool) (c:UInt8):Bool:=p (c.toNat:Nat)
def I0 (p:Int->Bool) (s:By) (k:Nat):Nat:=((s.drop k).takeWhile (on p)).length
def EH (p:Int->Bool) (s:By) (k:Nat):k<=s.length->k+I0 p s k<=s.length:=by
 intro h;have:=(List.takeWhile_sublist (on p) (l:=s.drop k)).length_le;rw[Ei]at this;unfold I0;omega
def mo {α:Type}{p:α->Bool}:∀ {l:List α}{j:Nat},j<(l.takeWhile p).length->∃ c,l[j]? =some c/\p c=true:=by
 intro l;induction l with
 |nil=>intro j h;simp at h
 | cons x l ih=>
   intro j h;rw[WJ]at h;cases hp:p x with
   |false=>rw[hp]at h;simp at h
   | true=>
     rw[hp]at h;cases j with
     |zero=>exact⟨x,rfl,hp⟩
     |succ j=>simpa using ih (by simpa using h)
def mq {α:Type}{p:α->Bool}:∀ {l:List α},l[(l.takeWhile p).length]? =none\/∃ c,l[(l.takeWhile p).length]? =some c/\p c=false:=by
 intro l;induction l with
 |nil=>exact .inl rfl
 | cons x l ih=>
   rw[WJ];cases hp:p x with
   |false=>exact .inr ⟨x,by simp,hp⟩
   |true=>simpa using ih
def I4 {c:UInt8}:mu [c]=some (.int .u8 (c.toNat:Nat)):=rfl
def N3 {α:Type}{l:List α}{a:α}(h:l[k]? =some a):sub l k 1=some [a]:=by
 obtain⟨h1,h2⟩:=List.getElem?_eq_some_iff.1 h;rw[V7 om,LW h1,h2];rfl
def PW {g:Nat}{p:Int->Bool}(hp:mn g p){s:By}(hk:k<=s.length) (hs:s.length<9223372036854775807):
  Ev (gO 51 [str s,.int .i64 k,.func (.func g) #[] #[]] Z) (fun r=>r=⟨false,.int .i64 (k+I0 p s k:Nat),Z⟩) ⟨⟩:=by
 refine D0 Tryz.func51 rfl rfl ?_;have hle:=EH p s k hk;refine gS ?_
 refine F4 (I0 p s k) (fun j fr Z'=>fr.get 1=some (.int .i64 (k+j:Nat))/\fr.get 0=some (str s)/\fr.get 2=some (.func (.func g) #[] #[])/\Z'=Z)
  (fun r=>∃ fr,r=⟨.exit 0,fr,Z⟩/\fr.get 1=some (.int .i64 (k+I0 p s k:Nat))) ?_ ?_ ?_ ?_
 ·exact⟨fR,fR,fR,rfl⟩
 ·rintro j fr Z' hj ⟨g1,g0,g2,rfl⟩;obtain⟨c,hc,hpc⟩:=mo (show j<((s.drop k).takeWhile (on p)).length from hj);rw[List.getElem?_drop]at hc;have hlt:k+j<s.length:=(List.getElem?_eq_some_iff.1 hc).1;have e1:decide (((k+j:Nat):Int)<(s.length:Int))=true:=by rw[z3z];omega
  have h1:=N3 hc;refine gS1 (aI g1 (aI g0 (aI g2 (aI e1 (aI h1 @I4))))) ?_;refine(hp _ _).mono ?_;rintro r rfl;have AE8:p (c.toNat:Nat)=true:=hpc;refine gS1 (aI g1 (aI g0 (aI g2 (aI e1 AE8)))) ?_;have ee:((k+j:Nat):Int)+1=((k+(j+1):Nat):Int):=om;exact⟨fR1 ee,fR1 g0,fR1 g2,by trivial⟩
 ·rintro fr Z' ⟨g1,g0,g2,rfl⟩;rcases(show(s.drop k)[I0 p s k]? =none\/∃ c,(s.drop k)[I0 p s k]? =some c/\on p c=false from mq)with hc|⟨c,hc,hpc⟩
  ·rw[List.getElem?_drop]at hc;have hge:¬ (k+I0 p s k<s.length):=fun h=>by rw[List.getElem?_eq_getElem h]at hc;cases hc
   have e1:decide (((k+I0 p s k:Nat):Int)<(s.length:Int))=false:=by rw[Gz];omega
   refine gS1 (aI g1 (aI g0 (aI g2 e1))) ?_;exact⟨_,rfl,fR1 g1⟩
  ·rw[List.getElem?_drop]at hc;have hlt:k+I0 p s k<s.length:=(List.getElem?_eq_some_iff.1 hc).1;have e1:decide (((k+I0 p s k:Nat):Int)<(s.length:Int))=true:=by rw[z3z];omega
   have h1:=N3 hc;refine gS1 (aI g1 (aI g0 (aI g2 (aI e1 (aI h1 @I4))))) ?_;refine(hp _ _).mono ?_;rintro r rfl;have AE8:p (c.toNat:Nat)=false:=hpc;refine gS1 (aI g1 (aI g0 (aI g2 (aI e1 AE8)))) ?_;exact⟨_,rfl,fR1 g1⟩
 rintro r ⟨fr,rfl,g1⟩;refine gS1 (aI g1 @Tryz.results51) ?_;try exact⟨⟩
end
section
variable {s:By}{v:Value}{l:List (List UInt8)}{p:Int->Bool}
section
variable {Z:St}
def Nr (l:List (List UInt8)) (s:List UInt8):Nat->Bool
 |0=>false
 |k+1=>Nr l s k||decide (l[k]? =some s)
def iC (l:List (List UInt8)) (s:List UInt8) (k:Nat):Nr l s k=true↔∃ i,i<k/\l[i]? =some s:=by
 induction k with
 |zero=>simp[Nr]
 | succ k ih=>
   simp only[Nr,IJ,ih,z3z];constructor
   ·rintro(⟨i,h1,h2⟩|h)
    ·exact⟨i,om,h2⟩
    ·exact⟨k,om,h⟩
   ·rintro⟨i,h1,h2⟩;by_cases e:i=k
    ·subst e;exact .inr h2
    ·exact .inl ⟨i,om,h2⟩
def PU (l:List (List UInt8)) (s:List UInt8):Nr l s l.length=l.contains s:=by
 rw[z7z,iC,PV,WI];constructor
 ·rintro⟨i,-,h⟩;exact⟨i,h⟩
 ·rintro⟨i,h⟩;obtain⟨hlt,_⟩:=List.getElem?_eq_some_iff.1 h;exact⟨i,hlt,h⟩
def Rg {s:List UInt8}(hl:HX Z v l) (hn:l.length<=4294967296):
  Ev (gO 177 [v,str s] Z) (fun r=>∃ n:Int,r=⟨false,.int .i64 n,Z⟩/\(0<=n↔l.contains s=true)/\ -1<=n/\n<4294967297) ⟨⟩:=by
 obtain⟨a,c,b,off,cells,rfl,h1,h2⟩:=hl.use;refine D0 Tryz.func177 rfl rfl ?_;refine gS ?_
 refine V9 (fun j fr Z'=>∃ k,j=l.length-k/\k<=l.length/\fr.get 0=some (.slice a l.length c)/\fr.get 1=some (str s)/\fr.get 7=some (.int .i64 l.length)/\fr.get 8=some (.int .i64 k)/\Z'=Z/\Nr l s k=false)
  (fun r=>(∃ fr,r=⟨.exit 0,fr,Z⟩/\Nr l s l.length=false)\/(∃ fr k,r=⟨.ret,fr,Z⟩/\fr.get 4=some (.int .i64 (k:Nat))/\k<l.length/\l.contains s=true)) l.length ?_ ?_ ?_
 ·refine⟨0,rfl,om,?_,?_,?_,?_,rfl,rfl⟩
  all_goals exact fR
 ·rintro j fr Z' ⟨k,rfl,hk,g0,g1,g7,g8,rfl,hm⟩;by_cases hc:k<l.length
  ·obtain⟨sp,rfl,hb,hr⟩:=h1 om;obtain⟨x,hx⟩:∃ x,l[k]? =some x:=⟨_,List.getElem?_eq_getElem hc⟩
   have h2:=h2 k x hx;have hc':decide (k<l.length)=true:=by simpa using hc
   refine gS1 (aI g0 (aI g1 (aI g7 (aI g8 (aI @IY (aI hc' (aI hr (aI @Df h2)))))))) ?_;refine Br.intro (fun hd=>?_) (fun hd=>?_)
   ·obtain rfl:s=x:=by simpa using hd
    refine gS1 (aI g0 (aI g1 (aI g7 (aI g8 @NL)))) ?_;refine .inr ⟨_,k,rfl,fR,hc,?_⟩;rw[PV];exact W8 hx
   ·have hd:s≠x:=by simpa using hd
    refine gS1 (aI g0 (aI g1 (aI g7 (aI g8 (aI @JY @H6))))) ?_;refine⟨l.length-(k+1),om,k+1,rfl,om,fR1 g0,fR1 g1,fR1 g7,fR,by trivial,?_⟩;show(Nr l s k||decide (l[k]? =some s))=false;rw[hm,hx]
    simpa using fun h=>hd h.symm
  ·have hc':decide (k<l.length)=false:=by simpa using hc
   obtain rfl:k=l.length:=om;refine gS1 (aI g0 (aI g1 (aI g7 (aI g8 (aI @IY (aI hc' @Q9)))))) ?_;exact .inl ⟨_,rfl,hm⟩
 ·rintro r (⟨fr,rfl,hm⟩|⟨fr,k,rfl,g4,hk,hm⟩)
  ·refine gS1 @Tryz.results177 ?_;refine⟨-1,rfl,?_,om,om⟩;rw[<- PU,hm];simp
  ·refine gS1 (aI @Tryz.results177 g4) ?_;exact⟨k,rfl,by rw[hm];simp,om,om⟩
def Ch {s:List UInt8}(hl:HX Z v l) (hn:l.length<=4294967296):
  Ev (gO 145 [v,str s] Z) (fun r=>r=⟨false,.bool (l.contains s),Z⟩) ⟨⟩:=by
 have hl':=hl;obtain⟨a,c,b,off,cells,rfl,h1,h2⟩:=hl.use;refine D0 Tryz.func145 rfl rfl ?_;refine gS ?_;refine(Rg hl' hn).mono ?_;rintro r ⟨n,rfl,h3,h4,h5⟩;have hb:(!decide (n<0))=l.contains s:=by
  rw[z7z,<- h3];simp
 refine gS1 (aI @Tryz.results145 hb) ?_;try exact⟨⟩
end
def AD1 {α:Type}{p:α->Bool}:∀ {l:List α},(l.takeWhile p).length=l.length↔l.all p=true:=by
 intro l;induction l with
 |nil=>simp
 | cons x l ih=>
   rw[WJ,UT];cases hp:p x with
   |false=>simp
   |true=>simpa using ih
def WK:I0 p s 0=s.length↔s.all (on p)=true:=by
 unfold I0;rw[UU];exact AD1
def DY (p:Int->Bool) (s:By):Bool:=match s with
 |c::_=>on p c
 | []=>false
def Ek {c:UInt8}:DY p (c::s)=on p c:=rfl
def BB (s:By):Bool:=DY Di s&&decide (s.length<=30)&&s.all (on Bw)
def mP (s:By):Bool:=match s with
 | [_]=>true
 |c::_=> !decide (c=48)
 | []=>false
def Fl (s:By):Bool:=DY F0 s&&s.all (on F0)&&mP s
def JZ:List By:=[[112,114,105,99,101],[108,111,119],[109,105,110],[109,97,120]]
def AL (s:By):Bool:=BB s&& !(JZ.contains s)
def KA {Z:St}(hs:s.length<9223372036854775807):Ev (gO 67 [str s] Z) (fun r=>r=⟨false,.bool (BB s),Z⟩) ⟨⟩:=by
 refine D0 Tryz.func67 rfl rfl ?_;cases s with
 | nil=>
   have d0:decide (([]:By)=[])=true:=rfl;refine gS1 (aI d0 (a3N @G9 @H2 @Tryz.results67)) ?_;rfl
 | cons c s=>
   have d0:decide (c::s=([]:By))=false:=rfl;have h1:sub (c::s) 0 1=some [c]:=N3 rfl;by_cases hl:30<(c::s).length
   ·have e1:decide (30<((c::s).length:Int))=true:=by rw[z3z];omega
    have hb:BB (c::s)=false:=by unfold BB;rw[z4z (show ¬ (c::s).length<=30 by omega)];simp
    simp only[Ah]at e1;refine gS1 (aI d0 (aI e1 (aI hb (a3N @G9 @H2 @Tryz.results67)))) ?_;try exact⟨⟩
   have e1:decide (30<((c::s).length:Int))=false:=by rw[Gz];omega
   have hl':decide ((c::s).length<=30)=true:=dT;have e2:=e1;simp only[Ah]at e2;refine gS1 (aI d0 (aI e2 (aI h1 @I4))) ?_;refine NM.mono ?_;rintro r rfl;cases a:Di (c.toNat:Nat)with
   | false=>
     have hb:BB (c::s)=false:=by
      unfold BB;rw[Ek,show on Di c=false from a];rfl
     refine gS1 (aI d0 (aI e2 (aI hb (aI a (a3N @G9 @H2 @Tryz.results67))))) ?_;try exact⟨⟩
   | true=>
     refine gS1 (aI d0 (aI e2 a)) ?_;refine(PW (k:=0) PX (y9 _) hs).mono ?_;rintro r rfl;rw[Gy];have tM:=WK (p:=Bw) (s:=c::s);have hq:decide ((I0 Bw (c::s) 0:Int)=((s.length+1:Nat):Int))=BB (c::s):=by
      unfold BB;rw[Ek,show on Di c=true from a,hl',DL,DL,z7z,z3z,<- tM];simp only[Ah];omega
     refine gS1 (aI d0 (aI e2 (aI a (aI @G9 (aI @H2 (aI @Tryz.results67 hq)))))) ?_;try exact⟨⟩
def Ns {Z:St}(hs:s.length<9223372036854775807):Ev (gO 172 [str s] Z) (fun r=>r=⟨false,.bool (Fl s),Z⟩) ⟨⟩:=by
 refine D0 Tryz.func172 rfl rfl ?_;cases s with
 | nil=>
   have d0:decide (([]:By)=[])=true:=rfl;refine gS1 (aI d0 (a3N @G9 @H2 @Tryz.results172)) ?_;rfl
 | cons c s=>
   have d0:decide (c::s=([]:By))=false:=rfl;have h1:sub (c::s) 0 1=some [c]:=N3 rfl;refine gS1 d0 ?_;refine(PW (k:=0) Ja (y9 _) hs).mono ?_;rintro r rfl;rw[Gy];have tM:=WK (p:=F0) (s:=c::s);by_cases Fv:(c::s).all (on F0)=true
   ·have hq:decide ((I0 F0 (c::s) 0:Int)=((s.length+1:Nat):Int))=true:=by
     rw[z3z];have:=tM.2 Fv;simp only[Ah]at this;omega
    have hh:on F0 c=true:=(HA.1 Fv) c (by simp);cases hz:decide (c::s=([48]:By))with
    | true=>
      have hb:Fl (c::s)=true:=by
       have:=z6z hz;rw[this];rfl
      refine gS1 (aI d0 (aI hq (aI hz (aI hb (a3N @G9 @H2 @Tryz.results172))))) ?_;try exact⟨⟩
    | false=>
      have Ar8:decide ((c.toNat:Int)=48)=decide (c=48):=by
       rw[z7z,z3z,z3z];constructor
       ·intro h;have:c.toNat=48:=om;exact WL this
       ·rintro rfl;rfl
      have hb:Fl (c::s)= !decide (c=48):=by
       unfold Fl;rw[Ek,hh,Fv,DL,DL];cases s with
       | nil=>
         have:c≠48:=fun h=>by subst h;simp at hz
         rw[z4z this];rfl
       |cons d s=>rfl
      refine gS1 (aI d0 (aI hq (aI hz (aI h1 (aI @I4 (aI Ar8 (aI hb (a3N @G9 @H2 @Tryz.results172)))))))) ?_;try exact⟨⟩
   ·have AX5:(c::s).all (on F0)=false:=by simpa using Fv
    have hq:decide ((I0 F0 (c::s) 0:Int)=((s.length+1:Nat):Int))=false:=by
     rw[Gz];intro h;exact Fv (tM.1 (by simp only[Ah];omega))
    have hb:Fl (c::s)=false:=by unfold Fl;rw[AX5];simp
    refine gS1 (aI d0 (aI hq (aI hb (a3N @G9 @H2 @Tryz.results172)))) ?_;try exact⟨⟩
end
section
variable {Z:St}{v:Value}{k:Nat}
def CM {cells r:List Value}{o n i m:Nat}(h:sub cells o n=some r) (hi:i+m<=n):sub cells (o+i) m=sub r i m:=by
 obtain⟨h1,h2⟩:=sub_eq h;subst h2;rw[V7 om,V7 (by simp;omega)];congr 1;rw[dj,Sw,Kz];congr 1;omega
def E8 {α:Type}{l:List α}(h:k<l.length):∃ a,l[k]? =some a:=⟨_,List.getElem?_eq_getElem h⟩
def AL9 {α β:Type}{l:List α}{a:α}(f:α->β) (h:l[k]? =some a):(l.map f)[k]? =some (f a):=by rw[List.getElem?_map,h];rfl
def SL.Pe {α:Type}{size:Nat}{l:List α}{f:α->List Value}(h:SL Z size v (l.map f)):∃ a c b off cells,v= .slice a l.length c/\(0<l.length->∃ sp,a=some ⟨b,off,sp⟩/\b<Z.n/\Z.row b=some cells)/\∀ k x,l[k]? =some x->sub cells (off+k*size) size=some (f x):=by
 obtain⟨a,c,b,off,cells,h1,h2,h3⟩:=SL.use h;rw[z2z]at h1 h2;exact⟨a,c,b,off,cells,h1,h2,fun k x hx=>h3 k _ (AL9 f hx)⟩
def gW.use {l:List Lot}(h:gW Z v l):∃ a c b off cells,v= .slice a l.length c/\(0<l.length->∃ sp,a=some ⟨b,off,sp⟩/\b<Z.n/\Z.row b=some cells) /\
  ∀ k x,l[k]? =some x->sub cells (off+k*2) 2=some x.row/\sub cells (off+k*2) 1=some [.int .i64 x.id]/\sub cells (off+k*2+1) 1=some [.int .i64 x.P8]:=by
 obtain⟨a,c,b,off,cells,h1,h2,h3⟩:=SL.Pe h;refine⟨a,c,b,off,cells,h1,h2,fun k x hx=>?_⟩;have h:=h3 k x hx;exact⟨h,by rw[<- Ej (off+k*2),CM h om];rfl,by rw[CM h om];rfl⟩
def SJ.use {l:List AB}(h:SJ Z v l):∃ a c b off cells,v= .slice a l.length c/\(0<l.length->∃ sp,a=some ⟨b,off,sp⟩/\b<Z.n/\Z.row b=some cells) /\
  ∀ k x,l[k]? =some x->sub cells (off+k*5) 5=some x.row/\sub cells (off+k*5) 1=some [str x.name]/\sub cells (off+k*5+1) 1=some [.int .i64 x.kind]/\sub cells (off+k*5+2) 1=some [.int .i64 x.low]/\sub cells (off+k*5+3) 1=some [.int .i64 x.high]/\sub cells (off+k*5+4) 1=some [.bool x.less]:=by
 obtain⟨a,c,b,off,cells,h1,h2,h3⟩:=SL.Pe h;refine⟨a,c,b,off,cells,h1,h2,fun k x hx=>?_⟩;have h:=h3 k x hx;exact⟨h,by rw[<- Ej (off+k*5),CM h om];rfl,by rw[CM h om];rfl,by rw[CM h om];rfl,by rw[CM h om];rfl,by rw[CM h om];rfl⟩
def gY.use {l:List Req}(h:gY Z v l):∃ a c b off cells,v= .slice a l.length c/\(0<l.length->∃ sp,a=some ⟨b,off,sp⟩/\b<Z.n/\Z.row b=some cells) /\
  ∀ k x,l[k]? =some x->sub cells (off+k*3) 3=some x.row/\sub cells (off+k*3) 1=some [str x.name]/\sub cells (off+k*3+1) 1=some [str x.rel]/\sub cells (off+k*3+2) 1=some [.int .i64 x.value]:=by
 obtain⟨a,c,b,off,cells,h1,h2,h3⟩:=SL.Pe h;refine⟨a,c,b,off,cells,h1,h2,fun k x hx=>?_⟩;have h:=h3 k x hx;exact⟨h,by rw[<- Ej (off+k*3),CM h om];rfl,by rw[CM h om];rfl,by rw[CM h om];rfl⟩
def Fk.use {l:List Int}(h:Fk Z v l):∃ a c b off cells,v= .slice a l.length c/\(0<l.length->∃ sp,a=some ⟨b,off,sp⟩/\b<Z.n/\Z.row b=some cells) /\
  ∀ k x,l[k]? =some x->sub cells (off+k) 1=some [.int .i64 x]:=by
 obtain⟨a,c,b,off,cells,h1,h2,h3⟩:=SL.Pe h;exact⟨a,c,b,off,cells,h1,h2,fun k x hx=>by have:=h3 k x hx;rwa [Df]at this⟩
def lL {α β:Type}(f:α->β){l:List α}{a:α}(h:l[k]? =some a):(l.take (k+1)).map f=(l.take k).map f++[f a]:=by
 rw[Dj,h];simp
end
section
variable {l:List Nat}{c:Nat}
structure ET (Z Z':St):Prop where
 n:Z.n<=Z'.n
 row:∀ b cells,b<Z.n->Z.row b=some cells->Z'.row b=some cells
def SL.J3 {Z Z':St}{size:Nat}{v:Value}{D4:List (List Value)}(h:SL Z size v D4) (hE:ET Z Z'):SL Z' size v D4:=by
 rcases h with h|⟨b,off,sp,c,cells,h1,h2,h3,h4⟩
 ·exact .inl h
 ·exact .inr ⟨b,off,sp,c,cells,h1,z5z h2 hE.n,hE.row _ _ h2 h3,h4⟩
mutual
theorem Ag.J3 {Z Z':St}(hE:ET Z Z'){row:List Value}:∀ {e:Ex},Ag Z row e->Ag Z' row e
 | .mk op n d nm args,h=>by
   obtain⟨v,D4,h1,h2,h4,h3⟩:=h;exact⟨v,D4,h1,SL.J3 h2 hE,h4,Cr.J3 hE h3⟩
theorem Cr.J3 {Z Z':St}(hE:ET Z Z'){D4:List (List Value)}:∀ {es:List Ex},Cr Z D4 es->Cr Z' D4 es
 | [],h=>h
 | e::es,h=>by
   obtain⟨r,rs,h1,h2,h3⟩:=h;exact⟨r,rs,h1,Ag.J3 hE h2,Cr.J3 hE h3⟩
end
noncomputable def J5 (Z:St) (l:List Nat):St:=l.foldl St.dead Z
def Kf {Z:St}{b:Nat}:(Z.dead b).row b=none:=by
 show ob (ob (ob ((Z.dead b).h.get b) _) _) _=none;rw[Jb,z1z rfl];rfl
def Ik:∀ {Z:St},(J5 Z l).n=Z.n:=by
 induction l with
 |nil=>intro Z;rfl
 |cons b l ih=>intro Z;show(J5 (Z.dead b) l).n=Z.n;rw[ih];rfl
def FZ:∀ {Z:St},c∉l->(J5 Z l).row c=Z.row c:=by
 induction l with
 |nil=>intro Z _;rfl
 | cons b l ih=>
   intro Z h;show(J5 (Z.dead b) l).row c=_;rw[ih (fun hm=>h (by simp[hm])),Jc (fun e=>h (by simp[e]))]
def iI:∀ {Z:St},Z.row c=none->(J5 Z l).row c=none:=by
 induction l with
 |nil=>intro Z h;exact h
 | cons b l ih=>
   intro Z h;show(J5 (Z.dead b) l).row c=_;refine ih ?_;by_cases e:c=b
   ·subst e;exact Kf
   ·rw[Jc e];exact h
def Pc:∀ {Z:St},c∈l->(J5 Z l).row c=none:=by
 induction l with
 |nil=>intro Z h;cases h
 | cons b l ih=>
   intro Z h;show(J5 (Z.dead b) l).row c=_;rcases BJ.1 h with rfl|h
   ·exact iI Kf
   ·exact ih h
def K0 {Z Z':St}{l':List Nat}(hn:Z.n<=Z'.n) (h:∀ c,c<Z.n->c∉l->c∉l'/\Z'.row c=Z.row c):ET (J5 Z l) (J5 Z' l'):=by
 refine⟨by rw[Ik,Ik];exact hn,fun c cells hc hr=>?_⟩;rw[Ik]at hc;by_cases e:c∈l
 ·rw[Pc e]at hr;cases hr
 ·obtain⟨h1,h2⟩:=h c hc e;rw[FZ e]at hr;rw[FZ h1,h2];exact hr
def GW {Z Z':St}(hE:Ext Z Z'):ET (J5 Z l) (J5 Z' l):=K0 hE.n fun c hc h=>⟨h,hE.row hc⟩
def Pd {Z:St}:ET (J5 Z l) Z:=by
 have:=K0 (Z:=Z) (Z':=Z) (l:=l) (l':=[]) nL fun c _ _=>⟨by simp,rfl⟩
 exact this
def JG (v:Value):List Nat:=(I2 v).toList
section
variable {H:List Nat}{lo:Nat}{Z Z':St}{v:Value}{n k:Nat}
end
structure Psh (Z Z':St) (v v':Value):Prop where
 n:Z.n<=Z'.n
 same:∀ c,c<Z.n->I2 v≠some c->Z'.h.get c=Z.h.get c
 blk:∀ b,I2 v'=some b->I2 v=some b\/Z.n<=b
def Oo {α:Type}{l new:List α}:∀ {o:Nat},o+new.length<=l.length->I7 l o new=some (l.take o++new++l.drop (o+new.length)):=by
 intro o;induction o generalizing l with
 | zero =>
   intro h;rw[Gy]at h ⊢;have:∀ (new l:List α),new.length<=l.length->over new l=some (new++l.drop new.length):=by
    intro new;induction new with
    |nil=>intro l _;rfl
    | cons x new ih=>
      intro l h;cases l with
      |nil=>simp at h
      | cons y l=>
        rw[Sa,ih l (by simpa using h)];rfl
   rw[WR,Mz,<- this new l h];cases l with
   | nil=>cases new with
     |nil=>rfl
     |cons x new=>simp at h
   |cons y l=>rfl
 | succ o ih=>
   intro h;cases l with
   |nil=>simp at h
   | cons y l=>
     rw[A4,ih (by simp at h;omega),F8];rw[show o+1+new.length=(o+new.length)+1 by omega];rfl
end
section
variable {size lo b:Nat}{v:Value}{D4:List (List Value)}
structure B9 (p:Nat) (Z Z':St):Prop where
 n:Z.n<=Z'.n
 same:∀ b,b<Z.n->b≠p->Z'.h.get b=Z.h.get b
section
variable {p:Nat}{Z Z' Z'':St}
def B9.refl:B9 p Z Z:=⟨AR _,fun _ _ _=>rfl⟩
def B9.of (h:Ext Z Z'):B9 p Z Z':=⟨h.n,fun b hb _=>h.same b hb⟩
def B9.trans (h:B9 p Z Z') (k:B9 p Z' Z''):B9 p Z Z'':=⟨X0 h.n k.n,fun b hb hne=>by rw[k.same b (z5z hb h.n) hne,h.same b hb hne]⟩
def B9.upd (h:B9 p Z Z') (cs:List Value):B9 p Z (Z'.upd p cs):=⟨h.n,fun b hb hne=>by rw[Bt,z0z hne,h.same b hb hne]⟩
def B9.ext {Z0:St}(h:B9 p Z Z') (h0:Ext Z0 Z) (hp:Z0.n<=p):Ext Z0 Z':=⟨X0 h0.n h.n,fun b hb=>by rw[h.same b (z5z hb h0.n) om,h0.same b hb]⟩
def B9.row (h:B9 p Z Z') (hb:b<Z.n) (hne:b≠p):Z'.row b=Z.row b:=T5 (h.same b hb hne)
def B9.A7 (h:B9 p Z Z') (hb:b<Z.n) (hne:b≠p):Z'.A7 b=Z.A7 b:=B8 (h.same b hb hne)
def B9.app {v':Value}(h:App Z' Z'' v v') (hE:B9 p Z Z') (hl:OL lo Z' size v D4) (hlo:Z.n<=lo):B9 p Z Z'' :=
 ⟨X0 hE.n h.n,fun c hc hne=>by
  rw[h.same c (z5z hc hE.n) (fun hb=>by have:=(hl.blk hb).1;omega),hE.same c hc hne]⟩
end
def SLs (Z:St) (size:Nat) (v:Value) (D4:List (List Value)):Prop:=(∀ r∈D4,r.length=size) /\
 ((v= .slice none 0 0/\D4=[])\/∃ b off sp c cells,v= .slice (some ⟨b,off,sp⟩) D4.length c/\b<Z.n/\Z.row b=some cells/\sub cells off (D4.length*size)=some D4.flatten)
def SLs.nil {Z:St}:SLs Z size (.slice none 0 0) []:=⟨fun r h=>by simp at h,.inl ⟨rfl,rfl⟩⟩
def SLs.sl {Z:St}(h:SLs Z size v D4):SL Z size v D4:=by
 obtain⟨hr,h|⟨b,off,sp,c,cells,h1,h2,h3,h4⟩⟩:=h
 ·exact .inl h
 ·refine .inr ⟨b,off,sp,c,cells,h1,h2,h3,fun k r hk=>?_⟩;have hlt:=(List.getElem?_eq_some_iff.1 hk).1;have hmul:k*size+size<=D4.length*size:=by
   have:(k+1)*size<=D4.length*size:=UJ size hlt;rw[RX]at this;exact this
  rw[CM h4 hmul,<- Ej (k*size),Pf hr hk om];have:=hr r (W8 hk);exact D8 om om
def SLs.J3 {Z Z':St}(h:SLs Z size v D4) (hE:ET Z Z'):SLs Z' size v D4:=by
 obtain⟨hr,h|⟨b,off,sp,c,cells,h1,h2,h3,h4⟩⟩:=h
 ·exact⟨hr,.inl h⟩
 ·exact⟨hr,.inr ⟨b,off,sp,c,cells,h1,z5z h2 hE.n,hE.row _ _ h2 h3,h4⟩⟩
def OL.J5 {Z:St}{H:List Nat}(h:OL lo Z size v D4) (hH:∀ q∈H,q<lo):SLs (J5 Z H) size v D4:=by
 obtain⟨hr,⟨rfl,rfl⟩|⟨b,sp,rfl,hs,h1,h2,h3⟩⟩:=h
 ·exact .nil
 ·have:=HN D4 hr;exact⟨hr,.inr ⟨b,0,sp,_,_,rfl,by rw[Ik];exact h2,by rw[FZ fun hm=>by have:=hH b hm;omega];exact A6 h3,D8 om om⟩⟩
def OL.shape {Z:St}(h:OL lo Z size v D4):∃ a,v= .slice a D4.length D4.length:=by
 obtain⟨hr,⟨rfl,rfl⟩|⟨b,sp,rfl,-⟩⟩:=h
 ·exact⟨_,rfl⟩
 ·exact⟨_,rfl⟩
def OL.lower {lo':Nat}{Z:St}(h:OL lo Z size v D4) (hl:lo'<=lo):OL lo' Z size v D4:=by
 obtain⟨hr,h|⟨b,sp,h1,h2,h3,h4,h5⟩⟩:=h
 ·exact⟨hr,.inl h⟩
 ·exact⟨hr,.inr ⟨b,sp,h1,h2,X0 hl h3,h4,h5⟩⟩
def OL.BI {p:Nat}{Z Z':St}(h:OL lo Z size v D4) (hE:B9 p Z Z') (hp:p<lo):OL lo Z' size v D4:=by
 refine h.J3 hE.n fun b hb=>?_;have:=h.blk hb;exact hE.same b this.2 om
end
section
variable {Z Z':St}{v:Value}{b k p:Nat}{C8:List Value}{e:Int}
abbrev Tok:=By×Nat
def W6 (t:Tok):List Value:=[str t.1,.int .i64 (t.2:Nat)]
structure Sc (Z:St) (b:Nat) (v:Value) (A1:List Tok) (k:Nat) (C8:List Value):Prop where
 row:Z.A7 b=some (v:: .int .i64 (k:Nat)::C8)
 lt:b<Z.n
 sl:SL Z 2 v (A1.map W6)
 ne:I2 v≠some b
 k:k<A1.length
 len:A1.length<4611686018427387904
def ptr (b:Nat):Value:= .pointer (some ⟨b,0,none⟩)
def Sc.ext {A1:List Tok}(h:Sc Z b v A1 k C8) (hE:Ext Z Z'):Sc Z' b v A1 k C8 :=
 ⟨by rw[B8 (hE.same b h.lt)];exact h.row,z5z h.lt hE.n,h.sl.mono hE,h.ne,h.k,h.len⟩
def SL.rP {size:Nat}{D4:List (List Value)}(h:SL Z size v D4) (hE:B9 p Z Z') (hp:I2 v≠some p):SL Z' size v D4:=by
 rcases h with h|⟨b,off,sp,c,cells,rfl,h2,h3,h4⟩
 ·exact .inl h
 ·exact .inr ⟨b,off,sp,c,cells,rfl,z5z h2 hE.n,by rw[hE.row h2 (fun he=>hp (by rw[<- he];rfl))];exact h3,h4⟩
def Sc.K4 {A1:List Tok}{k':Nat}{rest':List Value}(h:Sc Z b v A1 k C8) (hE:B9 b Z Z') (hr:Z'.A7 b=some (v:: .int .i64 (k':Nat)::rest')) (hk:k'<A1.length):Sc Z' b v A1 k' rest' :=
 ⟨hr,z5z h.lt hE.n,SL.rP h.sl hE h.ne,h.ne,hk,h.len⟩
def B9.As {c:Nat}(h:B9 p Z Z') (hc:Z.n<=c) (cs:List Value):B9 p Z (Z'.upd c cs):=⟨h.n,fun b hb hne=>by rw[Bt,z0z om,h.same b hb hne]⟩
def B9.LL {t:Option TypeId}(h:B9 p Z Z') (cs:List Value):B9 p Z (Z'.new cs t):=h.trans (.of (.new _ _))
def eXX {q:Prop}(h:q:=by(repeat' (first|assumption|exact B9.refl|exact B9.of (by assumption)|refine B9.LL ?_ _|refine B9.upd ?_ _|refine B9.As ?_ (by(try simp only[bw])<;>omega) _))):q:=h
def Y8 {A1:List Tok}(h:Sc Z b v A1 k C8){t:Tok}(ht:A1[k]? =some t):
  Ev (gO 46 [ptr b] Z) (fun r=>∃ Z',r=⟨false,.agg ⟨[str t.1,.int .i64 (t.2:Nat)]⟩,Z'⟩/\Ext Z Z') ⟨⟩:=by
 obtain⟨h1,h2,h3,h4,h5,h6⟩:=h;obtain⟨a,c,b2,off,cells,rfl,k1,k2⟩:=h3.use;rw[z2z]at *;obtain⟨sp,rfl,k3,k4⟩:=k1 om;have hr:=A6 h1;have hk:sub cells (off+k*2) 2=some [str t.1,.int .i64 (t.2:Nat)]:=k2 k (W6 t) (by rw[List.getElem?_map,ht];rfl);have hlt:decide (k<A1.length)=true:=J2 h5;refine D0 Tryz.func46 rfl rfl ?_;unfold ptr;refine gS1 (aI hr (aI k4 (aI hk hlt))) ?_;refine dW ?_;refine gS1 @Tryz.results46 ?_;exact⟨_,rfl,eX⟩
def Aw {A1:List Tok}(h:Sc Z b v A1 k C8){t:Tok}(ht:A1[k]? =some t):
  Ev (gO 48 [ptr b] Z) (fun r=>∃ Z',r=⟨false,.agg ⟨[str t.1,.int .i64 (t.2:Nat)]⟩,Z'⟩/\B9 b Z Z'/\Z'.A7 b=some (v:: .int .i64 (k+1:Nat)::C8)) ⟨⟩:=by
 have hk:=h.k;have hl:=h.len;have hlt:=h.lt;refine D0 Tryz.func48 rfl rfl ?_;refine gS ?_;have hx:Sc (Z.new [str [],.int .i64 0] (some 106)) b v A1 k C8:=h.ext (.new _ _);refine(Y8 hx ht).mono ?_;rintro r ⟨Z2,rfl,hE2⟩;have hE:Ext Z Z2:=(Ext.new _ _).trans hE2;have h2:=h.ext hE;have ro:=h2.row;have rr:=A6 ro;have r1:Z2.A7 Z.n=some [str [],.int .i64 0]:=by rw[B8 (hE2.same Z.n (by simp))];exact cL
 have hn2:Z.n<Z2.n:=by have:=hE2.n;simp at this;omega
 have e1:(k:Int)+1=((k+1:Nat):Int):=om;have hbn:b≠Z.n:=om;unfold ptr;refine gS1 (aI rr (aI ro (aI r1 (aI e1 @Tryz.results48)))) ?_;exact⟨_,rfl,eXX,cL⟩
def fault (at':Nat) (e:Int):Value:= .iface 71 (.agg ⟨[.int .i64 (at':Nat),.int .i64 e]⟩)
def xT {A1:List Tok}(h:Sc Z b v A1 k C8){t:Tok}(ht:A1[k]? =some t):
  Ev (gO 106 [ptr b,.int .i64 e] Z) (fun r=>∃ Z',r=⟨true,fault t.2 e,Z'⟩/\Ext Z Z') ⟨⟩:=by
 refine D0 Tryz.func106 rfl rfl ?_;refine gS ?_;refine(Y8 h ht).mono ?_;rintro r ⟨Z2,rfl,hE2⟩;refine gS1 @nP ?_;exact⟨_,rfl,hE2⟩
def M6 {A1:List Tok}(h:Sc Z b v A1 k C8){t:Tok}(ht:A1[k]? =some t){ok:Bool}:
  Ev (gO 47 [ptr b,.bool ok,.int .i64 e] Z) (fun r=>(ok=true/\r=⟨false,.tuple ⟨[]⟩,Z⟩)\/(ok=false/\∃ Z',r=⟨true,fault t.2 e,Z'⟩/\Ext Z Z')) ⟨⟩:=by
 refine D0 Tryz.func47 rfl rfl ?_;cases ok with
 | true=>
   refine gS1 @Tryz.results47 ?_;exact .inl ⟨True.intro,True.intro⟩
 | false=>
   refine gS ?_;refine(xT h ht).mono ?_;rintro r ⟨Z2,rfl,hE2⟩;refine gS ?_;exact .inr ⟨True.intro,_,rfl,hE2⟩
end
section
variable {c:UInt8}{Z:St}{s:By}{l:List By}{n:Nat}
def I8 (c:UInt8):By->List By
 | []=>[[]]
 | x::s=>if x=c then[]::I8 c s else match I8 c s with
   |h::t=>(x::h)::t
   | []=>[[x]]
def Mx (c:UInt8):∀ s:By,I8 c s≠[]
 | []=>by simp[I8]
 | x::s=>by
   unfold I8;split
   ·simp
   ·split<;>simp
def My (c:UInt8):∀ s:By,(Bh c s= -1/\I8 c s=[s])\/∃ m:Nat,Bh c s=m/\m<s.length/\I8 c s=s.take m::I8 c (s.drop (m+1))
 | []=> .inl ⟨rfl,rfl⟩
 | x::s=>by
   have hx:Bh c (x::s)=bi (x==c) 0 (bi (ilt (Bh c s) 0) (-1) (Bh c s+1)):=by rw[<- Kw];rfl
   by_cases h:x=c
   ·right;subst h;refine⟨0,by rw[hx];simp,by simp,?_⟩;show(if x=x then[]::I8 x s else _)=_;rw[z1z rfl];rfl
   ·have hb:(x==c)=false:=by simpa using h
    have hs:I8 c (x::s)=match I8 c s with|h::t=>(x::h)::t|[]=>[[x]]:=by
     show(if x=c then[]::I8 c s else _)=_;rw[z0z h]
    rcases My c s with⟨h1,h2⟩|⟨m,h1,h2,h3⟩
    ·left;exact⟨by rw[hx,hb,h1];rfl,by rw[hs,h2]⟩
    ·right;refine⟨m+1,?_,by simpa using h2,by rw[hs,h3];rfl⟩;rw[hx,hb,h1,JJ,dF];rfl
def Eh (c:UInt8):∀ s:By,(I8 c s).length=Fi c s+1
 | []=>rfl
 | x::s=>by
   have hx:Fi c (x::s)=bi (x==c) (Fi c s+1) (Fi c s):=by rw[<- Kw];rfl
   have ih:=Eh c s;unfold I8;by_cases h:x=c
   ·rw[z1z h,hx,show(x==c)=true by simpa using h];simp[ih]
   ·rw[z0z h,hx,show(x==c)=false by simpa using h];cases hs:I8 c s with
    |nil=>exact absurd hs (Mx c s)
    |cons a t=>rw[hs]at ih;simpa using ih
def Ju (c:UInt8):∀ s:By,Fi c s<=s.length
 | []=>AR _
 | x::s=>by
   have hx:Fi c (x::s)=bi (x==c) (Fi c s+1) (Fi c s):=by rw[<- Kw];rfl
   have:=Ju c s;rw[hx];cases x==c
   ·show Fi c s<=_;simp;omega
   ·show Fi c s+1<=_;simp;omega
def cZ:ZQ (c.toNat:Int)=c:=by
 show UInt8.ofNat c.toNat=c;simp
def d10:decide (((1:Nat):Int)=0)=false:=rfl
def d11:decide (((1:Nat):Int)=1)=true:=rfl
def Aq9 {Q:CR->Prop}{uq:Hd Q}:Ev (gO 215 [str s,.int .u8 (c.toNat:Nat)] Z) Q uq=Q ⟨false,.int .i64 (Bh c s),Z⟩:=by
 show Ev (some ⟨false,.int .i64 (Bh (ZQ (c.toNat:Int)) s),Z⟩) Q _=_;rw[J7,cZ]
def Ar0 {Q:CR->Prop}{uq:Hd Q}:Ev (gO 181 [str s,.int .u8 (c.toNat:Nat)] Z) Q uq=Q ⟨false,.int .i64 (Fi c s:Nat),Z⟩:=by
 show Ev (some ⟨false,.int .i64 (Fi (ZQ (c.toNat:Int)) s:Nat),Z⟩) Q _=_;rw[J7,cZ]
def Lw:Ev (gO 198 [str s,.int .u8 (c.toNat:Nat)] Z) (fun r=>r=⟨false,.int .i64 (Bh c s),Z⟩) ⟨⟩:=by
 refine D0 Tryz.func198 rfl rfl ?_;refine gS1 (aI @Aq9 @Tryz.results198) ?_;try exact⟨⟩
def KU:Ev (gO 182 [str s,str [c]] Z) (fun r=>r=⟨false,.int .i64 (Bh c s),Z⟩) ⟨⟩:=by
 refine D0 Tryz.func182 rfl rfl ?_;have h1:sub [c] 0 1=some [c]:=rfl;cases hd:decide ([c]=s)with
 | true=>
   obtain rfl:=z6z hd;have h0:Bh c [c]=0:=by show bi (Nat.beq c.toNat c.toNat) 0 _=0;rw[Nat.beq_refl];rfl
   refine gS1 (aI h1 (aI @I4 (aI @G9 (aI @H2 (aI @d10 (aI @d11 (aI @hd (aI h0 @Tryz.results182)))))))) ?_;try exact⟨⟩
 | false=>
   refine gS1 (aI h1 (a6N @I4 @G9 @H2 @d10 @d11 @hd)) ?_;refine Lw.mono ?_;rintro r rfl;refine gS1 @Tryz.results182 ?_;try exact⟨⟩
def Va:Ev (gO 150 [str s,str [c]] Z) (fun r=>r=⟨false,.int .i64 (Bh c s),Z⟩) ⟨⟩:=by
 refine D0 Tryz.func150 rfl rfl ?_;refine gS ?_;refine KU.mono ?_;rintro r rfl;refine gS1 @Tryz.results150 ?_;try exact⟨⟩
def lJ:Ev (gO 149 [str s,str [c]] Z) (fun r=>r=⟨false,.int .i64 (Fi c s:Nat),Z⟩) ⟨⟩:=by
 refine D0 Tryz.func149 rfl rfl ?_;have h1:sub [c] 0 1=some [c]:=rfl;refine gS1 (aI h1 (a5N @I4 @Ar0 @d10 @d11 @Tryz.results149)) ?_;try exact⟨⟩
def cd:∀ n:Nat,Ab.rep [str []] n=List.replicate n (str [])
 |0=>rfl
 |n+1=>by show[str []]++Ab.rep [str []] n=_;rw[cd n];rfl
def cut (l:List By) (n i:Nat):List Value:=(l.take i).map str++List.replicate (n-i) (str [])
def cf {i:Nat}{x:By}(hn:l.length=n) (hx:l[i]? =some x):I7 (cut l n i) i [str x]=some (cut l n (i+1)):=by
 have hi:i<l.length:=(List.getElem?_eq_some_iff.1 hx).1;rw[Oo (by simp[cut];omega)];have h1:((l.take i).map str).length=i:=by simp;omega
 congr 1;unfold cut;rw[List.take_append_of_le_length om,Kx om,lK,ym (by simp;omega),Mz,h1,lL str hx];simp only[Ky,cj,ZR,List.drop_replicate];congr 3;omega
def sY (hn:l.length=n):cut l n n=l.map str:=by
 unfold cut;rw[Kx om,gJ];simp
def sZ {b c:Nat}{sp:Option Nat}(hb:b<Z.n) (hr:Z.row b=some (l.map str)):HX Z (.slice (some ⟨b,0,sp⟩) l.length c) l:=by
 refine .inr ⟨b,0,sp,c,l.map str,by simp,hb,hr,fun k r hk=>?_⟩;rw[List.getElem?_map]at hk;cases hx:l[k]? with
 |none=>rw[hx]at hk;cases hk
 | some x=>
   rw[hx]at hk;cases hk;rw[Gy,Df];exact N3 (by rw[List.getElem?_map,hx];rfl)
def Vb (hs:s.length<100000000):
  Ev (gO 105 [str s,str [c],.int .i64 0,.int .i64 (-1)] Z) (fun r=>∃ v Z',r=⟨false,v,Z'⟩/\HX Z' v (I8 c s)/\Ext Z Z'/\I2 v=some Z.n) ⟨⟩:=by
 refine D0 Tryz.func105 rfl rfl ?_;have hle:=Ju c s;have hlen:=Eh c s;have dm:decide ((-1:Int)=0)=false:=rfl;have dn:decide (([c]:By)=[])=false:=rfl;have dl:decide ((-1:Int)<0)=true:=rfl;refine gS1 (aI dm (aI dn dl)) ?_;refine lJ.mono ?_;rintro r rfl;have e1:((Fi c s:Nat):Int)+1=((Fi c s+1:Nat):Int):=om;have e2:(s.length:Int)+1=((s.length+1:Nat):Int):=om;have e3:min ((Fi c s+1:Nat):Int) ((s.length+1:Nat):Int)=((Fi c s+1:Nat):Int):=om;have e4:((Fi c s+1:Nat):Int)-1=((Fi c s:Nat):Int):=om;refine gS1 (aI e1 (aI e2 (aI e3 e4))) ?_;generalize hl:I8 c s=l at *;generalize hn:Fi c s=n at *;have hc0:str []::Ab.rep [str []] n=cut l (n+1) 0:=by
  show _=[]++List.replicate (n+1) (str []);rw[cd];rfl
 rw[hc0]
 refine F4 n (fun i fr Z'=>fr.get 3=some (.int .i64 (n:Nat))/\fr.get 10=some (.int .i64 (i:Nat))/\fr.get 1=some (str [c])/\fr.get 2=some (.int .i64 0)/\fr.get 9=some (.slice (some ⟨Z.n,0,none⟩) (n+1) (n+1)) /\
   Z'.A7 Z.n=some (cut l (n+1) i)/\Ext Z Z'/\Z.n<Z'.n/\∃ rem:By,fr.get 0=some (str rem)/\I8 c rem=l.drop i/\rem.length<=s.length)
  (fun r=>∃ fr Z' rem,r=⟨.exit 0,fr,Z'⟩/\fr.get 10=some (.int .i64 (n:Nat))/\fr.get 9=some (.slice (some ⟨Z.n,0,none⟩) (n+1) (n+1))/\Z'.A7 Z.n=some (cut l (n+1) n)/\Ext Z Z'/\Z.n<Z'.n/\fr.get 0=some (str rem)/\[rem]=l.drop n) ?_ ?_ ?_ ?_
 ·exact⟨fR,fR,fR,fR,fR,cL,eX,by simp,s,fR,hl,AR _⟩
 ·rintro i fr Z' hi ⟨g3,g10,g1,g2,g9,ho,hE,hlt,rem,g0,gK,hrl⟩;have ed:decide ((i:Int)<(n:Int))=true:=by rw[z3z];omega
  refine gS1 (aI g3 (aI g10 (aI g1 (aI g2 (aI g9 (aI g0 ed)))))) ?_;refine Va.mono ?_;rintro r rfl;rcases My c rem with⟨_,h2⟩|⟨m,h1,h2,h3⟩
  ·exfalso;have:=congrArg List.length h2;rw[gK,Ei,hlen]at this;simp at this;omega
  rw[gK]at h3;have hx:l[i]? =some (rem.take m):=by
   have:=congrArg (fun l:List By=>l[0]?) h3
   simpa using this
  have hd:I8 c (rem.drop (m+1))=l.drop (i+1):=by
   have:=congrArg (List.drop 1) h3
   simpa[Kz,lM]using this.symm
  rw[h1];have em:decide ((m:Int)<0)=false:=by rw[Gz];omega
  have e5:(m:Int)+0=(m:Int):=om;have e6:(m:Int)+((1:Nat):Int)=((m+1:Nat):Int):=om;have b1:decide (i<n+1)=true:=dT;have s1:sub rem 0 (m-0)=some (rem.take m):=by rw[V7 om];simp
  have s2:sub rem (m+1) (rem.length-(m+1))=some (rem.drop (m+1)):=by rw[V7 om,Kx (by simp)]
  have e7:(i:Int)+1=((i+1:Nat):Int):=om;have KM:=cf (n:=n+1) hlen hx;have k1:Nat.ble m rem.length=true:=JK om;have k2:Nat.ble 0 m=true:=JK om;have k3:Nat.ble (m+1) rem.length=true:=JK om;refine gS1 (aI g3 (aI g10 (aI g1 (aI g2 (aI g9 (aI g0 (aI em (aI e5 (aI e6 (aI b1 (aI s1 (aI s2 (aI e7 (aI ho (aI KM (aI k1 (aI k2 k3))))))))))))))))) ?_;exact⟨fR1 g3,fR,fR1 g1,fR1 g2,fR1 g9,cL,eX,cL,rem.drop (m+1),fR,hd,by rw[Ei];omega⟩
 ·rintro fr Z' ⟨g3,g10,g1,g2,g9,ho,hE,hlt,rem,g0,gK,hrl⟩;have ed:decide ((n:Int)<(n:Int))=false:=sI;refine gS1 (aI g3 (aI g10 ed)) ?_;refine⟨_,_,rem,rfl,fR1 g10,fR1 g9,ho,hE,hlt,fR1 g0,?_⟩;have h1:(l.drop n).length=1:=by rw[Ei,hlen];omega
  rw[<- gK]at h1 ⊢;rcases My c rem with⟨_,h2⟩|⟨m,_,_,h3⟩
  ·exact h2.symm
  ·rw[h3]at h1;simp at h1;exact absurd (ZT.1 (by simpa using h1)) (Mx c _)
 rintro r ⟨fr,Z',rem,rfl,g10,g9,ho,hE,hlt,g0,gK⟩;have hx:l[n]? =some rem:=by
  have:=congrArg (fun l:List By=>l[0]?) gK
  simpa using this.symm
 have KM:=cf (n:=n+1) hlen hx;have b1:decide (n<n+1)=true:=dT;have e7:(n:Int)+1=((n+1:Nat):Int):=om;have k2:Nat.ble (n+1) (n+1)=true:=JK om;refine gS1 (aI g10 (aI g9 (aI g0 (aI b1 (aI ho (aI KM (aI e7 (aI k2 @Tryz.results105)))))))) ?_;rw[sY hlen,Oq,<- hlen];exact⟨_,_,rfl,sZ hlt (cL),eX,rfl⟩
def Vc (hs:s.length<100000000):
  Ev (gO 44 [str s,str [c]] Z) (fun r=>∃ v Z',r=⟨false,v,Z'⟩/\HX Z' v (I8 c s)/\Ext Z Z'/\I2 v=some Z.n) ⟨⟩:=by
 refine D0 Tryz.func44 rfl rfl ?_;refine gS ?_;refine(Vb hs).mono ?_;rintro r ⟨v,Z',rfl,h1,h2,h3⟩;refine gS1 @Tryz.results44 ?_;exact⟨v,_,rfl,h1,h2,h3⟩
end
section
variable {l:List By}{i k:Nat}{w:By}
def CA:List By->Nat->List Tok
 | [],_=>[]
 |w::ws,k=>(if w=[]then[]else[(w,k)])++CA ws (k+w.length+1)
def lens:List By->Nat
 | []=>0
 |w::ws=>w.length+1+lens ws
def G3 (s:By) (k:Nat):List Tok:=CA (I8 32 s) k++[([],k+s.length)]
def To (h:l[i]? =some w):lens (l.take (i+1))=lens (l.take i)+w.length+1:=by
 induction l generalizing i with
 |nil=>simp at h
 | cons a l ih=>
   cases i with
   |zero=>simp at h;subst h;simp[lens]
   | succ i=>
     have:=ih (i:=i) (by simpa using h);simp only[AA7,lens,this];omega
def cX (h:l[i]? =some w):CA (l.take (i+1)) k=CA (l.take i) k++(if w=[]then[]else[(w,k+lens (l.take i))]):=by
 induction l generalizing i k with
 |nil=>simp at h
 | cons a l ih=>
   cases i with
   |zero=>simp at h;subst h;simp[CA,lens]
   | succ i=>
     have:=ih (i:=i) (k:=k+a.length+1) (by simpa using h);simp only[AA7,CA,this,lens,Ky];congr 4;rw[show k+a.length+1+lens (List.take i l)=k+(a.length+1+lens (List.take i l)) by omega]
def FE (c:UInt8):∀ s:By,lens (I8 c s)=s.length+1
 | []=>rfl
 | x::s=>by
   have ih:=FE c s;unfold I8;by_cases h:x=c
   ·rw[z1z h];simp[lens,ih];omega
   ·rw[z0z h];cases hs:I8 c s with
    |nil=>exact absurd hs (Mx c s)
    |cons a t=>rw[hs]at ih;simp[lens]at ih ⊢;omega
def ff (l:List By) (i:Nat):lens (l.take i)<=lens l:=by
 induction l generalizing i with
 |nil=>simp[lens]
 | cons a l ih=>
   cases i with
   |zero=>simp[lens]
   |succ i=>have:=ih i;simp[lens];omega
def KJ (l:List By) (k:Nat):(CA l k).length<=l.length:=by
 induction l generalizing k with
 |nil=>simp[CA]
 | cons a l ih=>
   have:=ih (k+a.length+1);simp only[CA,BD,Ah];split
   ·simp;omega
   ·simp;omega
def kU {Z:St}{s:By}(hs:s.length<10000000) (hk:k<10000000):
  Ev (gO 45 [str s,.int .i64 (k:Nat)] Z) (fun r=>∃ v Z',r=⟨false,v,Z'⟩/\OL Z.n Z' 2 v ((G3 s k).map W6)/\Ext Z Z') ⟨⟩:=by
 refine D0 Tryz.func45 rfl rfl ?_;refine gS ?_;refine(Vc om).mono ?_;rintro r ⟨v,Z1,rfl,hv,hE1,hb1⟩;have Ay4:=FE 32 s;have hlen:=Eh 32 s;have hcl:=Ju 32 s;unfold G3;generalize hl:I8 32 s=l at *;obtain⟨a,c,b,off,cells,rfl,k1,k2⟩:=hv.use;refine gS ?_;have he0:lens l<=s.length+1:=om
 refine F4 l.length (fun i fr Z'=>fr.get 13=some (.int .i64 (i:Nat))/\fr.get 12=some (.int .i64 (l.length:Nat))/\fr.get 11=some (.slice a l.length c)/\fr.get 6=some (.int .i64 (k+lens (l.take i):Nat)) /\
   fr.get 0=some (str s)/\fr.get 1=some (.int .i64 (k:Nat))/\Ext Z1 Z'/\∃ vo,fr.get 5=some vo/\OL Z1.n Z' 2 vo ((CA (l.take i) k).map W6))
  (fun r=>∃ fr Z' vo,r=⟨.exit 0,fr,Z'⟩/\fr.get 0=some (str s)/\fr.get 1=some (.int .i64 (k:Nat))/\Ext Z1 Z'/\fr.get 5=some vo/\OL Z1.n Z' 2 vo ((CA l k).map W6)) ?_ ?_ ?_ ?_
 ·exact⟨fR,fR,fR,fR,fR,fR,.refl _,_,fR,OL.nil⟩
 ·rintro i fr Z' hi ⟨g13,g12,g11,g6,g0,g1,hE,vo,g5,hol⟩;obtain⟨w,hw⟩:=E8 hi;obtain⟨sp,rfl,k3,k4⟩:=k1 om;have hr:=eT (hE.row k3) k4;have hs1:=k2 i w hw;have ed:decide ((i:Int)<(l.length:Int))=true:=by rw[z3z];omega
  have ed2:decide (i<l.length)=true:=Aq hi;have hlt:=To hw;have hle:=ff l (i+1);have e1:(w.length:Int)+1=((w.length+1:Nat):Int):=om;have e2:((k+lens (l.take i):Nat):Int)+((w.length+1:Nat):Int)=((k+lens (l.take (i+1)):Nat):Int):=om;have e3:(i:Int)+1=((i+1:Nat):Int):=om;have htk:=cX (k:=k) hw;cases hw0:decide (w=[])with
  | true=>
    rw[z1z (z6z hw0),IV]at htk;refine gS1 (aI g13 (aI g12 (aI g11 (aI g6 (aI ed (aI ed2 (aI hr (aI hs1 (aI e1 (aI e2 (aI e3 (aI hw0 @Df)))))))))))) ?_;exact⟨fR,fR1 g12,fR1 g11,fR,fR1 g0,fR1 g1,hE,vo,fR1 g5,by rw[htk];exact hol⟩
  | false=>
    rw[z0z (z9z hw0)]at htk;refine gU1 (aI @A4 (aI @P9 (aI @N5 (aI @N9 (aI @N6 (aI @K6 (aI @M4 (aI @M5 (aI @K7 (aI @H8 (aI g13 (aI g12 (aI g11 (aI g6 (aI g5 (aI ed (aI ed2 (aI hr (aI hs1 (aI hw0 @Df)))))))))))))))))))) ?_;have hEn:=hE.trans (Ext.new (t:=none) Z' [str w,.int .i64 (k+lens (l.take i):Nat)]);have hpl:=KJ (l.take i) k;rw[Dh]at hpl;refine G4 (row:=W6 (w,k+lens (l.take i))) (fun _ _ _ _=>K8) (hol.ext (.new _ _)) (D1 nL nL) (D8 (by simp[W6]) (by simp[W6])) (by rw[z2z];omega) (by have:=hE.n;simp;omega) ?_;intro vo' Z3 h1 h2 h3;have hE3:Ext Z1 Z3:=h2.ext hEn (hol.ext (.new _ _)) nL;refine gS1 (aI g13 (aI g12 (aI g11 (aI g6 (aI e1 (aI e2 e3)))))) ?_;exact⟨fR,fR1 g12,fR1 g11,fR,fR1 g0,fR1 g1,hE3,vo',fR,by rw[htk,y7];exact h1⟩
 ·rintro fr Z' ⟨g13,g12,g11,g6,g0,g1,hE,vo,g5,hol⟩;have ed:decide ((l.length:Int)<(l.length:Int))=false:=sI;refine gS1 (aI g13 (aI g12 ed)) ?_;exact⟨_,_,vo,rfl,fR1 g0,fR1 g1,hE,fR1 g5,by rw[Bl]at hol;exact hol⟩
 rintro r ⟨fr,Z',vo,rfl,g0,g1,hE,g5,hol⟩;have e4:(k:Int)+(s.length:Int)=((k+s.length:Nat):Int):=om;refine gU1 (aI @A4 (aI @P9 (aI @N5 (aI @N9 (aI @N6 (aI @K6 (aI @M4 (aI @M5 (aI @K7 (aI @H8 (aI g0 (aI g1 (aI g5 e4))))))))))))) ?_;have hEn:=hE.trans (Ext.new (t:=none) Z' [str [],.int .i64 (k+s.length:Nat)]);have hpl:=KJ l k;refine G4 (row:=W6 ([],k+s.length)) (fun _ _ _ _=>K8) (hol.ext (.new _ _)) (D1 nL nL) (D8 (by simp[W6]) (by simp[W6])) (by rw[z2z];omega) (by have:=hE.n;simp;omega) ?_;intro vo' Z3 h1 h2 h3;have hE3:Ext Z1 Z3:=h2.ext hEn (hol.ext (.new _ _)) nL;refine gS1 @Tryz.results45 ?_;exact⟨vo',Z3,rfl,by rw[y7];exact OL.lower h1 hE1.n,hE1.trans hE3⟩
end
def iA (s:By) (c:UInt8):T6 (s++[c])=10*T6 s+(c.toNat-48):=by simp[T6,WC]
def NJ {c:UInt8}(h:on F0 c=true):48<=c.toNat/\c.toNat<=57:=by
 unfold on F0 at h;simp at h;omega
def AX1 {c:UInt8}:dg c=on F0 c:=by
 unfold dg on F0;rw[z7z];simp
 try omega
def AC6 {s:By}(h:s.all (on F0)=true):s.all dg=true:=by
 rw[HA]at h ⊢;exact fun c hc=>by rw[AX1];exact h c hc
def tL {Z:St}{s:By}(h:s.all (on F0)=true) (h1:0<s.length) (h2:s.length<=1000000000) :
  (T6 s<9223372036854775808/\go Tryz.prog HS (.fn 196) [str s] Z=some ⟨false,.tuple ⟨[.int .i64 (T6 s:Nat),.nilIface]⟩,Z⟩) \/
  (9223372036854775808<=T6 s/\go Tryz.prog HS (.fn 196) [str s] Z=some ⟨false,.tuple ⟨[.int .i64 9223372036854775807,.iface 245 (.pointer (some ⟨Z.n,0,none⟩))]⟩,Z.new []⟩):=by
 have hg:(s.all dg&&decide (s≠[])&&decide (s.length<=1000000000))=true:=by
  rw[AC6 h,Aq (by intro e;rw[e]at h1;simp at h1),Aq h2];rfl
 have e:go Tryz.prog HS (.fn 196) [str s] Z=bb (s.all dg&&decide (s≠[])&&decide (s.length<=1000000000)) (bi (decide (T6 s<9223372036854775808)) (some ⟨false,.tuple ⟨[.int .i64 (T6 s:Nat),.nilIface]⟩,Z⟩)
   (some ⟨false,.tuple ⟨[.int .i64 9223372036854775807,.iface 245 (.pointer (some ⟨Z.n,0,none⟩))]⟩,Z.new []⟩)):=rfl
 rw[e,hg,FK];by_cases hv:T6 s<9223372036854775808
 ·exact .inl ⟨hv,by rw[Aq hv,K3]⟩
 ·exact .inr ⟨om,by rw[z4z hv,BV]⟩
def AC7 {i:Tmp}{b:Nat}:Bi Tryz.prog .eql 126 (.tmp i) (.const .nilIface) (.iface 245 (.pointer (some ⟨b,0,none⟩))) .nilIface=some (.bool false):=kR
section
variable {I3:Int}{nw:Int->Bool}{t s:By}
def Py {Z:St}(h:s.all (on F0)=true) (h1:0<s.length) (h2:s.length<=1000000000):
  Ev (gO 173 [str s] Z) (fun r=>∃ (Z':St) (n:Nat),r=⟨false,.tuple ⟨[.int .i64 (n:Nat),.bool (decide (T6 s<=1000000000))]⟩,Z'⟩/\Ext Z Z'/\(T6 s<=1000000000->n=T6 s)) ⟨⟩:=by
 refine D0 Tryz.func173 rfl rfl ?_;rcases tL (Z:=Z) h h1 h2 with⟨hv,hq⟩|⟨hv,hq⟩
 ·have e1:(!decide (1000000000<((T6 s:Nat):Int)))=decide (T6 s<=1000000000):=by
   rw[z7z];simp;omega
  refine gS1 (aI hq (aI @G9 (aI @H2 (aI e1 @Tryz.results173)))) ?_;exact⟨_,_,rfl,.refl _,fun _=>rfl⟩
 ·have e1:decide (T6 s<=1000000000)=false:=dF;rw[e1];refine gS1 (aI hq (a4N @AC7 @G9 @H2 @Tryz.results173)) ?_;exact⟨_,9223372036854775807,rfl,.new _ _,fun h=>om⟩
def Ends (A1:List Tok):Prop:=∀ (k:Nat) (t:Tok),A1[k]? =some t->t.1≠[]->k+1<A1.length
def u9 (A1:List Tok):Prop:=∀ t∈A1,t.1.length<10000000
def Hp (h:Fl s=true):s.all (on F0)=true/\0<s.length/\s≠[]:=by
 unfold Fl at h;rw[y6,y6]at h;refine⟨h.1.2,?_,?_⟩
 ·cases s with
  |nil=>simp[DY]at h
  |cons=>simp
 ·rintro rfl;simp[DY]at h
def Mk (I3:Int) (nw:Int->Bool) (t:By):Except Int Nat :=
 if Fl t=false then .error 12 else if T6 t<=1000000000/\I3<=T6 t then(if nw (T6 t)then .ok (T6 t)else .error 13)else .error 3
def fF (h:Fl t=false):Mk I3 nw t= .error 12:=by unfold Mk;rw[z1z h]
def bQ (h:Fl t=true) (h2:(decide (T6 t<=1000000000)&& !decide ((T6 t:Int)<I3))=false):Mk I3 nw t= .error 3:=by
 unfold Mk;rw[z0z (by rw[h];simp),z0z];rintro⟨a,b⟩;rw[Aq a,dF]at h2;cases h2
def fG (h:Fl t=true) (h1:T6 t<=1000000000) (h2:(!decide ((T6 t:Int)<I3))=true):Mk I3 nw t=if nw (T6 t)then .ok (T6 t)else .error 13:=by
 have:¬ (T6 t:Int)<I3:=by intro hx;rw[Aq hx]at h2;cases h2
 unfold Mk;rw[z0z (by rw[h];simp),z1z ⟨h1,om⟩]
def Tc {Z:St}{b:Nat}{v:Value}{A1:List Tok}{k:Nat}{C8:List Value}(h:Sc Z b v A1 k C8) (C7:Ends A1) (hsh:u9 A1){t:Tok}(ht:A1[k]? =some t)
  {g:Nat}{fs cs:List Value}{nw:Int->Bool}{I3:Int} (hnw:∀ (Z':St) (n:Nat),Ext Z Z'->n<=1000000000->Ev (go Tryz.prog HS (.fn g) (fs++[.int .i64 n]++cs) Z') (fun r=>∃ Z2,r=⟨false,.bool (nw n),Z2⟩/\Ext Z' Z2) ⟨⟩) :
  Ev (gO 135 [ptr b,.int .i64 I3,.func (.func g) ⟨fs⟩ ⟨cs⟩] Z) (fun r=>match Mk I3 nw t.1 with
   | .ok n=>∃ Z',r=⟨false,.int .i64 n,Z'⟩/\B9 b Z Z'/\Z'.A7 b=some (v:: .int .i64 (k+1:Nat)::C8)/\k+1<A1.length
   | .error e=>∃ Z',r=⟨true,fault t.2 e,Z'⟩/\Ext Z Z') ⟨⟩:=by
 have hs:=hsh t (W8 ht);refine D0 Tryz.func135 rfl rfl ?_;unfold ptr;refine gS ?_;refine(Y8 h ht).mono ?_;rintro r ⟨Z1,rfl,hE1⟩;refine gS ?_;refine(Ns om).mono ?_;rintro r rfl;refine gS ?_;have h1:=h.ext hE1;refine(M6 h1 ht).mono ?_;rintro r (⟨hok,rfl⟩|⟨hok,Z2,rfl,hE2⟩)
 case inr=>
  refine gS ?_;refine Ar.intro kR ?_;refine gS ?_;rw[fF hok];exact⟨_,rfl,hE1.trans hE2⟩
 obtain⟨n1,n2,n3⟩:=Hp hok;refine gS ?_;refine(Py n1 n2 om).mono ?_;rintro r ⟨Z2,n0,rfl,hE2,hn0⟩;refine gS ?_;have h2:=h1.ext hE2;cases hv:decide (T6 t.1<=1000000000)with
 | false=>
   refine gS ?_;refine(M6 h2 ht).mono ?_;rintro r (⟨hx,-⟩|⟨-,Z3,rfl,hE3⟩)
   case inl=>cases hx
   refine gS ?_;rw[bQ hok (by rw[hv];rfl)];exact⟨_,rfl,(hE1.trans hE2).trans hE3⟩
 | true=>
   obtain rfl:=hn0 (z6z hv);refine gS ?_;refine(M6 h2 ht).mono ?_;rintro r (⟨hl,rfl⟩|⟨hl,Z3,rfl,hE3⟩)
   case inr=>
    refine gS ?_;rw[bQ hok (by rw[hv,hl];rfl)];exact⟨_,rfl,(hE1.trans hE2).trans hE3⟩
   refine gS ?_;refine(hnw Z2 (T6 t.1) (hE1.trans hE2) (z6z hv)).mono ?_;rintro r ⟨Z3,rfl,hE3⟩;have h3:=h2.ext hE3;refine gS ?_;refine(M6 h3 ht).mono ?_;rw[fG hok (z6z hv) hl];rintro r (⟨hn,rfl⟩|⟨hn,Z4,rfl,hE4⟩)
   case inr=>
    refine gS ?_;refine Ar.intro kR ?_;refine gS ?_;rw[z0z (by rw[hn];simp)];exact⟨_,rfl,((hE1.trans hE2).trans hE3).trans hE4⟩
   refine gS ?_;rw[z1z hn];refine(Aw h3 ht).mono ?_;rintro r ⟨Z4,rfl,hE4,hr4⟩;refine gS1 @Tryz.results135 ?_;exact⟨_,rfl,(B9.of ((hE1.trans hE2).trans hE3)).trans hE4,hr4,C7 k t ht n3⟩
end
def Stp {α:Type}(Z:St) (b:Nat) (v:Value) (A1:List Tok) (k:Nat) (C8:List Value) (t:Tok) (R:Except Int α) (f:α->Value) (r:CR):Prop:=match R with
 | .ok a=>∃ Z',r=⟨false,f a,Z'⟩/\B9 b Z Z'/\Z'.A7 b=some (v:: .int .i64 (k+1:Nat)::C8)/\k+1<A1.length
 | .error e=>∃ Z',r=⟨true,fault t.2 e,Z'⟩/\Ext Z Z'
def NY (n:Nat):Value:= .int .i64 (n:Nat)
def Mh {Z:St}{t:Option TypeId}{l:List By}:HX (Z.new (l.map str) t) (.slice (some ⟨Z.n,0,none⟩) l.length l.length) l :=
 OL.sl (OL.mk (lo:=0) (by simp) (by induction l with|nil=>rfl|cons a l ih=>simp[ih]at ih ⊢) (by simp) (.inl rfl) (y9 _) (by simp) (M7 nL nL))
section
variable {Z:St}{b:Nat}{v:Value}{A1:List Tok}{k:Nat}{C8:List Value}{t:Tok}
def AM1 {Z:St}{n:Nat}:Ev (gO 175 [.int .i64 (n:Nat)] Z) (fun r=>∃ Z2,r=⟨false,.bool true,Z2⟩/\Ext Z Z2) ⟨⟩:=by
 refine D0 Tryz.func175 rfl rfl ?_;refine gS1 @Tryz.results175 ?_;exact⟨_,rfl,.refl _⟩
def pk (h:Sc Z b v A1 k C8) (C7:Ends A1) (hsh:u9 A1) (ht:A1[k]? =some t) :
  Ev (gO 140 [ptr b] Z) (Stp Z b v A1 k C8 t (Mk 0 (fun _=>true) t.1) NY) ⟨⟩:=by
 refine D0 Tryz.func140 rfl rfl ?_;refine gS ?_;refine(Tc h C7 hsh ht (fs:=[]) (cs:=[]) (nw:=fun _=>true) fun Z' n _ _=>AM1).mono ?_;intro r;unfold Stp;cases Mk 0 (fun _=>true) t.1 with
 | ok n=>
   rintro⟨Z',rfl,h1,h2,h3⟩;refine gS1 @Tryz.results140 ?_;exact⟨_,rfl,h1,h2,h3⟩
 | error e=>
   rintro⟨Z',rfl,h1⟩;refine gS ?_;exact⟨_,rfl,h1⟩
def AM2 {ws:Value}{l:List By}(h:Sc Z b v A1 k C8) (C7:Ends A1) (ht:A1[k]? =some t) (hw:HX Z ws l) (hl:l.length<=10) (hne:[]∉l) :
  Ev (gO 139 [ptr b,ws] Z) (Stp Z b v A1 k C8 t (if l.contains t.1 then .ok t.1 else .error 12) str) ⟨⟩:=by
 obtain⟨a,c,rfl⟩:=hw.shape;refine D0 Tryz.func139 rfl rfl ?_;unfold ptr;refine gS ?_;refine(Y8 h ht).mono ?_;rintro r ⟨Z1,rfl,hE1⟩;refine gS ?_;refine(Ch (hw.mono hE1) om).mono ?_;rintro r rfl;refine gS ?_;have h1:=h.ext hE1;refine(M6 h1 ht).mono ?_;rintro r (⟨hok,rfl⟩|⟨hok,Z2,rfl,hE2⟩)
 case inr=>
  refine gS ?_;refine Ar.intro kR ?_;refine gS ?_;rw[z0z (by rw[hok];simp)];exact⟨_,rfl,hE1.trans hE2⟩
 refine gS ?_;rw[z1z hok];refine(Aw h1 ht).mono ?_;rintro r ⟨Z4,rfl,hE4,hr4⟩;refine gS1 @Tryz.results139 ?_;exact⟨_,rfl,(B9.of hE1).trans hE4,hr4,C7 k t ht (by intro e;rw[e]at hok;exact hne (by simpa using hok))⟩
def Td {Z:St}{s:By}(hs:s.length<9223372036854775807):Ev (gO 144 [str s] Z) (fun r=>∃ Z',r=⟨false,.bool (AL s),Z'⟩/\Ext Z Z') ⟨⟩:=by
 refine D0 Tryz.func144 rfl rfl ?_;refine gS ?_;refine(KA hs).mono ?_;rintro r rfl;unfold AL;cases BB s with
 | false=>
   refine gS1 @Tryz.results144 ?_;exact⟨_,rfl,.refl _⟩
 | true=>
   refine gS ?_;refine(Ch (l:=JZ) (Mh (l:=JZ)) (by decide)).mono ?_;rintro r rfl;have e1:(true&& !JZ.contains s)= !JZ.contains s:=rfl;refine gS1 (aI e1 @Tryz.results144) ?_;exact⟨_,rfl,eX⟩
def fD (h:Sc Z b v A1 k C8) (hsh:u9 A1) (ht:A1[k]? =some t) :
  Ev (gO 141 [ptr b] Z) (fun r=>(AL t.1=true/\∃ Z',r=⟨false,str t.1,Z'⟩/\Ext Z Z')\/(AL t.1=false/\∃ Z',r=⟨true,fault t.2 12,Z'⟩/\Ext Z Z')) ⟨⟩:=by
 have hs:=hsh t (W8 ht);refine D0 Tryz.func141 rfl rfl ?_;unfold ptr;refine gS ?_;refine(Y8 h ht).mono ?_;rintro r ⟨Z1,rfl,hE1⟩;refine gS ?_;have h1:=h.ext hE1;refine(Td om).mono ?_;rintro r ⟨Z2,rfl,hE2⟩;refine gS ?_;have h2:=h1.ext hE2;refine(M6 h2 ht).mono ?_;rintro r (⟨hok,rfl⟩|⟨hok,Z3,rfl,hE3⟩)
 case inr=>
  refine gS ?_;refine Ar.intro kR ?_;refine gS ?_;exact .inr ⟨hok,_,rfl,(hE1.trans hE2).trans hE3⟩
 refine gS ?_;refine(Y8 h2 ht).mono ?_;rintro r ⟨Z4,rfl,hE4⟩;refine gS1 @Tryz.results141 ?_;exact .inl ⟨hok,_,rfl,(hE1.trans hE2).trans hE4⟩
end
def cW {Z:St}{v:Value}{l:List Lot}{g:Nat}{fs cs:List Value}{p:Lot->Bool}(hl:SL Z 2 v (l.map Lot.row)) (hn:l.length<=4294967296)
  (hf:∀ (Z':St) (x:Lot),Ext Z Z'->x∈l->Ev (go Tryz.prog HS (.fn g) (fs++[.agg ⟨x.row⟩]++cs) Z') (fun r=>∃ Z2,r=⟨false,.bool (p x),Z2⟩/\Ext Z' Z2) ⟨⟩) :
  Ev (gO 174 [v,.func (.func g) ⟨fs⟩ ⟨cs⟩] Z) (fun r=>∃ (n:Int) (Z':St),r=⟨false,.int .i64 n,Z'⟩/\Ext Z Z'/\(!decide (n<0))=l.any p) ⟨⟩:=by
 obtain⟨a,c,b,off,cells,rfl,h1,h2⟩:=hl.use;rw[z2z]at *;refine D0 Tryz.func174 rfl rfl ?_;refine gS ?_
 refine V9 (fun j fr Z'=>∃ k,j=l.length-k/\k<=l.length/\fr.get 0=some (.slice a l.length c)/\fr.get 1=some (.func (.func g) ⟨fs⟩ ⟨cs⟩)/\fr.get 7=some (.int .i64 l.length)/\fr.get 8=some (.int .i64 k)/\Ext Z Z'/\(l.take k).any p=false)
  (fun r=>(∃ fr Z',r=⟨.exit 0,fr,Z'⟩/\Ext Z Z'/\l.any p=false)\/(∃ fr Z' k,r=⟨.ret,fr,Z'⟩/\Ext Z Z'/\fr.get 4=some (.int .i64 (k:Nat))/\l.any p=true)) l.length ?_ ?_ ?_
 ·exact⟨0,rfl,om,fR,fR,fR,fR,.refl _,rfl⟩
 ·rintro j fr Z' ⟨k,rfl,hk,g0,g1,g7,g8,hE,hm⟩;by_cases hc:k<l.length
  ·obtain⟨sp,rfl,hb,hr⟩:=h1 om;obtain⟨x,hx⟩:∃ x,l[k]? =some x:=⟨_,List.getElem?_eq_getElem hc⟩
   have hr':=eT (hE.row hb) hr;have h2:=h2 k x.row (by rw[List.getElem?_map,hx];rfl);have hc':decide (k<l.length)=true:=by simpa using hc
   have hxx:Lot.row x=[.int .i64 x.id,.int .i64 x.P8]:=rfl;rw[hxx]at h2;refine gS1 (aI g0 (aI g1 (aI g7 (aI g8 (aI @IY (aI hc' (aI hr' h2))))))) ?_;have hf':=hf Z' x hE (W8 hx);rw[hxx]at hf';refine hf'.mono ?_;rintro r ⟨Z2,rfl,hE2⟩;have hE3:=hE.trans hE2;cases hp:p x with
   | true=>
     refine gS1 (aI g0 (aI g1 (aI g7 (aI g8 @NL)))) ?_;refine .inr ⟨_,_,k,rfl,hE3,fR,?_⟩;rw[Wb];exact⟨x,W8 hx,hp⟩
   | false=>
     refine gS1 (aI g0 (aI g1 (aI g7 (aI g8 (aI @JY @H6))))) ?_;refine⟨l.length-(k+1),om,k+1,rfl,om,fR1 g0,fR1 g1,fR1 g7,fR,hE3,?_⟩;rw[Dj,hx,Wa,hm];simp[hp]
  ·have hc':decide (k<l.length)=false:=by simpa using hc
   obtain rfl:k=l.length:=om;rw[Bl]at hm;refine gS1 (aI g0 (aI g1 (aI g7 (aI g8 (aI @IY (aI hc' @Q9)))))) ?_;exact .inl ⟨_,_,rfl,hE,hm⟩
 ·rintro r (⟨fr,Z',rfl,hE,hm⟩|⟨fr,Z',k,rfl,hE,g4,hm⟩)
  ·refine gS1 @Tryz.results174 ?_;exact⟨-1,_,rfl,hE,by rw[hm];rfl⟩
  ·refine gS1 (aI @Tryz.results174 g4) ?_;exact⟨k,_,rfl,hE,by rw[hm];simp⟩
def sC {Z:St}{v:Value}{l:List Lot}{g:Nat}{fs cs:List Value}{p:Lot->Bool}(hl:SL Z 2 v (l.map Lot.row)) (hn:l.length<=4294967296)
  (hf:∀ (Z':St) (x:Lot),Ext Z Z'->x∈l->Ev (go Tryz.prog HS (.fn g) (fs++[.agg ⟨x.row⟩]++cs) Z') (fun r=>∃ Z2,r=⟨false,.bool (p x),Z2⟩/\Ext Z' Z2) ⟨⟩) :
  Ev (gO 137 [v,.func (.func g) ⟨fs⟩ ⟨cs⟩] Z) (fun r=>∃ (Z':St),r=⟨false,.bool (l.any p),Z'⟩/\Ext Z Z') ⟨⟩:=by
 have hl':=hl;obtain⟨a,c,b,off,cells,rfl,h1,h2⟩:=hl.use;refine D0 Tryz.func137 rfl rfl ?_;refine gS ?_;refine(cW hl' hn hf).mono ?_;rintro r ⟨n,Z',rfl,hE,hb⟩;refine gS1 (aI @Tryz.results137 hb) ?_;exact⟨_,rfl,hE⟩
def ZF {Z:St}{v:Value}{l:List AB}{g:Nat}{fs cs:List Value}{p:AB->Bool}(hl:SL Z 5 v (l.map AB.row)) (hn:l.length<=4294967296)
  (hf:∀ (Z':St) (x:AB),Ext Z Z'->x∈l->Ev (go Tryz.prog HS (.fn g) (fs++[.agg ⟨x.row⟩]++cs) Z') (fun r=>∃ Z2,r=⟨false,.bool (p x),Z2⟩/\Ext Z' Z2) ⟨⟩) :
  Ev (gO 176 [v,.func (.func g) ⟨fs⟩ ⟨cs⟩] Z) (fun r=>∃ (n:Int) (Z':St),r=⟨false,.int .i64 n,Z'⟩/\Ext Z Z'/\(!decide (n<0))=l.any p) ⟨⟩:=by
 obtain⟨a,c,b,off,cells,rfl,h1,h2⟩:=hl.use;rw[z2z]at *;refine D0 Tryz.func176 rfl rfl ?_;refine gS ?_
 refine V9 (fun j fr Z'=>∃ k,j=l.length-k/\k<=l.length/\fr.get 0=some (.slice a l.length c)/\fr.get 1=some (.func (.func g) ⟨fs⟩ ⟨cs⟩)/\fr.get 7=some (.int .i64 l.length)/\fr.get 8=some (.int .i64 k)/\Ext Z Z'/\(l.take k).any p=false)
  (fun r=>(∃ fr Z',r=⟨.exit 0,fr,Z'⟩/\Ext Z Z'/\l.any p=false)\/(∃ fr Z' k,r=⟨.ret,fr,Z'⟩/\Ext Z Z'/\fr.get 4=some (.int .i64 (k:Nat))/\l.any p=true)) l.length ?_ ?_ ?_
 ·exact⟨0,rfl,om,fR,fR,fR,fR,.refl _,rfl⟩
 ·rintro j fr Z' ⟨k,rfl,hk,g0,g1,g7,g8,hE,hm⟩;by_cases hc:k<l.length
  ·obtain⟨sp,rfl,hb,hr⟩:=h1 om;obtain⟨x,hx⟩:∃ x,l[k]? =some x:=⟨_,List.getElem?_eq_getElem hc⟩
   have hr':=eT (hE.row hb) hr;have h2:=h2 k x.row (by rw[List.getElem?_map,hx];rfl);have hc':decide (k<l.length)=true:=by simpa using hc
   have hxx:AB.row x=[str x.name,.int .i64 x.kind,.int .i64 x.low,.int .i64 x.high,.bool x.less]:=rfl;rw[hxx]at h2;refine gS1 (aI g0 (aI g1 (aI g7 (aI g8 (aI @IY (aI hc' (aI hr' h2))))))) ?_;have hf':=hf Z' x hE (W8 hx);rw[hxx]at hf';refine hf'.mono ?_;rintro r ⟨Z2,rfl,hE2⟩;have hE3:=hE.trans hE2;cases hp:p x with
   | true=>
     refine gS1 (aI g0 (aI g1 (aI g7 (aI g8 @NL)))) ?_;refine .inr ⟨_,_,k,rfl,hE3,fR,?_⟩;rw[Wb];exact⟨x,W8 hx,hp⟩
   | false=>
     refine gS1 (aI g0 (aI g1 (aI g7 (aI g8 (aI @JY @H6))))) ?_;refine⟨l.length-(k+1),om,k+1,rfl,om,fR1 g0,fR1 g1,fR1 g7,fR,hE3,?_⟩;rw[Dj,hx,Wa,hm];simp[hp]
  ·have hc':decide (k<l.length)=false:=by simpa using hc
   obtain rfl:k=l.length:=om;rw[Bl]at hm;refine gS1 (aI g0 (aI g1 (aI g7 (aI g8 (aI @IY (aI hc' @Q9)))))) ?_;exact .inl ⟨_,_,rfl,hE,hm⟩
 ·rintro r (⟨fr,Z',rfl,hE,hm⟩|⟨fr,Z',k,rfl,hE,g4,hm⟩)
  ·refine gS1 @Tryz.results176 ?_;exact⟨-1,_,rfl,hE,by rw[hm];rfl⟩
  ·refine gS1 (aI @Tryz.results176 g4) ?_;exact⟨k,_,rfl,hE,by rw[hm];simp⟩
def jZ {Z:St}{v:Value}{l:List AB}{g:Nat}{fs cs:List Value}{p:AB->Bool}(hl:SL Z 5 v (l.map AB.row)) (hn:l.length<=4294967296)
  (hf:∀ (Z':St) (x:AB),Ext Z Z'->x∈l->Ev (go Tryz.prog HS (.fn g) (fs++[.agg ⟨x.row⟩]++cs) Z') (fun r=>∃ Z2,r=⟨false,.bool (p x),Z2⟩/\Ext Z' Z2) ⟨⟩) :
  Ev (gO 142 [v,.func (.func g) ⟨fs⟩ ⟨cs⟩] Z) (fun r=>∃ (Z':St),r=⟨false,.bool (l.any p),Z'⟩/\Ext Z Z') ⟨⟩:=by
 have hl':=hl;obtain⟨a,c,b,off,cells,rfl,h1,h2⟩:=hl.use;refine D0 Tryz.func142 rfl rfl ?_;refine gS ?_;refine(ZF hl' hn hf).mono ?_;rintro r ⟨n,Z',rfl,hE,hb⟩;refine gS1 (aI @Tryz.results142 hb) ?_;exact⟨_,rfl,hE⟩
section
variable {Z:St}{op nm:By}{n d:Int}{cells:List Value}
mutual
def ExX (Z:St) (row:List Value):Ex->Prop
 | .mk op n d nm args=>∃ v D4,row=[str op,.int .i64 n,.int .i64 d,str nm,v]/\SLs Z 5 v D4/\args.length<=4/\Pj Z D4 args
def Pj (Z:St) (D4:List (List Value)):List Ex->Prop
 | []=>D4=[]
 |e::es=>∃ r rs,D4=r::rs/\ExX Z r e/\Pj Z rs es
end
mutual
theorem ExX.to {Z:St}{row:List Value}:∀ {e:Ex},ExX Z row e->Ag Z row e
 | .mk op n d nm args,h=>by
   obtain⟨v,D4,h1,h2,h4,h3⟩:=h;exact⟨v,D4,h1,h2.sl,h4,Pj.to h3⟩
theorem Pj.to {Z:St}{D4:List (List Value)}:∀ {es:List Ex},Pj Z D4 es->Cr Z D4 es
 | [],h=>h
 | e::es,h=>by
   obtain⟨r,rs,h1,h2,h3⟩:=h;exact⟨r,rs,h1,ExX.to h2,Pj.to h3⟩
end
mutual
theorem ExX.J3 {Z Z':St}(hE:ET Z Z'){row:List Value}:∀ {e:Ex},ExX Z row e->ExX Z' row e
 | .mk op n d nm args,h=>by
   obtain⟨v,D4,h1,h2,h4,h3⟩:=h;exact⟨v,D4,h1,SLs.J3 h2 hE,h4,Pj.J3 hE h3⟩
theorem Pj.J3 {Z Z':St}(hE:ET Z Z'){D4:List (List Value)}:∀ {es:List Ex},Pj Z D4 es->Pj Z' D4 es
 | [],h=>h
 | e::es,h=>by
   obtain⟨r,rs,h1,h2,h3⟩:=h;exact⟨r,rs,h1,ExX.J3 hE h2,Pj.J3 hE h3⟩
end
def AY3:ExX Z [str op,.int .i64 n,.int .i64 d,str nm,.slice none 0 0] (.mk op n d nm []):=⟨_,[],rfl,SLs.nil,by simp,rfl⟩
def dR {row:List Value}{e:Ex}(h:ExX Z row e):row.length=5:=h.to.len
def As9 {b cc:Nat}{sp:Option Nat}{ra rb:List Value}{x y:Ex}(hb:b<Z.n) (hr:Z.row b=some cells) (hc:cells=ra++rb) (hx:ExX Z ra x) (hy:ExX Z rb y):
  ExX Z [str op,.int .i64 n,.int .i64 d,str nm,.slice (some ⟨b,0,sp⟩) 2 cc] (.mk op n d nm [x,y]):=by
 have la:=dR hx;have lb:=dR hy;subst hc;refine⟨_,[ra,rb],rfl,⟨fun r hr=>?_,.inr ⟨b,0,sp,cc,_,rfl,hb,hr,?_⟩⟩,by simp,ra,[rb],rfl,hx,rb,[],rfl,hy,rfl⟩
 ·simp only[BJ,LA,Ly]at hr;rcases hr with rfl|rfl
  ·exact la
  ·exact lb
 ·show sub (ra++rb) 0 (2*5)=some (ra++(rb++[]));rw[IV];exact D8 (by simp;omega) (by simp;omega)
def TnY (Z:St) (cells:List Value) (T:Tn):Prop :=
 ∃ vl vc vr ex vt vk vs,cells=AI T.name vl vc vr T.low T.high ex vt T.P8 vk T.J8 T.t/\SLs Z 2 vl (T.G8.map Lot.row)/\SLs Z 5 vc (T.D2.map AB.row)/\SLs Z 3 vr (T.reqs.map Req.row)/\ExX Z ex T.f /\
  SLs Z 1 vt (T.F5.map fun s=>[str s])/\SLs Z 1 vk (vs.map fun x=>[x])/\FP (Fk Z) vs T.D6
def TnY.tn {T:Tn}(h:TnY Z cells T):Dm Z cells T:=by
 obtain⟨vl,vc,vr,ex,vt,vk,vs,h1,h2,h3,h4,h5,h6,h7,h8⟩:=h;exact⟨vl,vc,vr,ex,vt,vk,h1,h2.sl,h3.sl,h4.sl,h5.to,h6.sl,vs,h7.sl,h8⟩
end
section
variable {w:Value}{cs:List Value}{c b i:Nat}
def szT (i:Nat):Nat:=match i with
 |0=>2
 |1=>5
 |2=>3
 |_=>1
def CH (T:Tn) (vs:List Value) (i:Nat):List (List Value):=match i with
 |0=>T.G8.map Lot.row
 |1=>T.D2.map AB.row
 |2=>T.reqs.map Req.row
 |3=>T.F5.map fun s=>[str s]
 |_=>vs.map fun x=>[x]
def held (bt bx:Nat) (v:Nat->Value):List Nat:=List.range bt++bt::bx::(JG (v 0)++JG (v 1)++JG (v 2)++JG (v 3)++JG (v 4))
def YE {v:Value}:c∈JG v↔I2 v=some c:=by
 unfold JG I2;split<;>simp[eq_comm]
def CN {bt bx:Nat}{v:Nat->Value}:c∈held bt bx v↔c=bt\/c=bx\/(∃ i,i<5/\I2 (v i)=some c)\/c<bt:=by
 unfold held;simp only[BJ,DK,YE,ZU];constructor
 ·rintro(h|h|h|((((h|h)|h)|h)|h))
  ·exact .inr (.inr (.inr h))
  ·exact .inl h
  ·exact .inr (.inl h)
  ·exact .inr (.inr (.inl ⟨0,om,h⟩))
  ·exact .inr (.inr (.inl ⟨1,om,h⟩))
  ·exact .inr (.inr (.inl ⟨2,om,h⟩))
  ·exact .inr (.inr (.inl ⟨3,om,h⟩))
  ·exact .inr (.inr (.inl ⟨4,om,h⟩))
 ·rintro(h|h|⟨i,hi,h⟩|h)
  ·exact .inr (.inl h)
  ·exact .inr (.inr (.inl h))
  ·match i,hi,h with
   |0,_,h=>exact .inr (.inr (.inr (.inl (.inl (.inl (.inl h))))))
   |1,_,h=>exact .inr (.inr (.inr (.inl (.inl (.inl (.inr h))))))
   |2,_,h=>exact .inr (.inr (.inr (.inl (.inl (.inr h)))))
   |3,_,h=>exact .inr (.inr (.inr (.inl (.inr h))))
   |4,_,h=>exact .inr (.inr (.inr (.inr h)))
  ·exact .inl h
def tnR (T:Tn) (v:Nat->Value) (fc:List Value):List Value:=AI T.name (v 0) (v 1) (v 2) T.low T.high fc (v 3) T.P8 (v 4) T.J8 T.t
structure Ln (ZL Z:St) (bt bx:Nat) (T:Tn) (tv:Value) (A1:List Tok) (k:Nat) (C8:List Value) (v:Nat->Value) (fc vs:List Value):Prop where
 ext:B9 bt ZL Z
 btl:bt<ZL.n
 bxg:ZL.n<=bx
 row:Z.A7 bt=some (tnR T v fc)
 sl:∀ i,i<5->OL ZL.n Z (szT i) (v i) (CH T vs i)
 dis:∀ i j c,i<5->j<5->i≠j->I2 (v i)=some c->I2 (v j)≠some c
 dx:∀ i,i<5->I2 (v i)≠some bx
 fx:Ag (J5 Z (held bt bx v)) fc T.f
 iv:FP (Fk (J5 Z (held bt bx v))) vs T.D6
 sc:Sc Z bx tv A1 k C8
 tk:∀ c,I2 tv=some c->c≠bt/\∀ i,i<5->I2 (v i)≠some c
section
variable {ZL Z Z':St}{bt bx:Nat}{T T':Tn}{tv:Value}{A1:List Tok}{k k':Nat}{C8 rest':List Value}{v:Nat->Value}{fc fc' vs vs':List Value}
def Ln.ne (h:Ln ZL Z bt bx T tv A1 k C8 v fc vs):bt≠bx:=by have:=h.btl;have:=h.bxg;omega
def Ln.step (h:Ln ZL Z bt bx T tv A1 k C8 v fc vs) (hE:B9 bx Z Z') (hr:Z'.A7 bx=some (tv:: .int .i64 (k':Nat)::rest')) (hk:k'<A1.length):Ln ZL Z' bt bx T tv A1 k' rest' v fc vs:=by
 have GF:ET (J5 Z (held bt bx v)) (J5 Z' (held bt bx v)):=K0 hE.n fun c hc hm=>⟨hm,hE.row hc fun e=>hm (CN.2 (.inr (.inl e)))⟩
 have hbt:bt<Z.n:=z5z h.btl h.ext.n;refine⟨⟨X0 h.ext.n hE.n,fun c hc hne=>?_⟩,h.btl,h.bxg,by rw[hE.A7 hbt h.ne];exact h.row,fun i hi=>?_,h.dis,h.dx,h.fx.J3 GF,h.iv.mono fun _ _ hx=>SL.J3 hx GF,h.sc.K4 hE hr hk,h.tk⟩
 ·rw[hE.same c (z5z hc h.ext.n) (by have:=h.bxg;omega),h.ext.same c hc hne]
 ·refine(h.sl i hi).J3 hE.n fun c hc=>hE.same c ((h.sl i hi).blk hc).2 fun e=>h.dx i hi (by rw[hc,e])
def Ln.J0 (h:Ln ZL Z bt bx T tv A1 k C8 v fc vs) (hE:Ext Z Z'):Ln ZL Z' bt bx T tv A1 k C8 v fc vs :=
 h.step (.of hE) (by rw[B8 (hE.same bx h.sc.lt)];exact h.sc.row) h.sc.k
def OL.Fz {lo size:Nat}{D4:List (List Value)}(h:OL lo Z size w D4) (hb:b<lo):OL lo (Z.upd b cs) size w D4 :=
 h.J3 nL fun c hc=>by rw[Bt,z0z (by have:=(h.blk hc).1;omega)]
def Sc.Fz (h:Sc Z bx tv A1 k C8) (hb:b≠bx) (ht:I2 tv≠some b):Sc (Z.upd b cs) bx tv A1 k C8 :=
 ⟨by rw[I1 (fun e=>hb e.symm)];exact h.row,h.lt,SL.rP h.sl (p:=b) (B9.upd .refl _) ht,h.ne,h.k,h.len⟩
def Ms {bt bx:Nat}{v:Nat->Value}:ET (J5 Z (held bt bx v)) (J5 (Z.upd bt cs) (held bt bx v)) :=
 K0 nL fun c _ hm=>⟨hm,M1 fun e=>hm (CN.2 (.inl e))⟩
def Ln.put (h:Ln ZL Z bt bx T tv A1 k C8 v fc vs) (T':Tn) (h1:CH T' vs=CH T vs) (h2:T'.f=T.f) (h3:T'.D6=T.D6):Ln ZL (Z.upd bt (tnR T' v fc)) bt bx T' tv A1 k C8 v fc vs :=
 ⟨h.ext.upd _,h.btl,h.bxg,D5,fun i hi=>by rw[h1];exact OL.Fz (h.sl i hi) h.btl,h.dis,h.dx,by rw[h2];exact h.fx.J3 Ms,by rw[h3];exact h.iv.mono fun _ _ hx=>SL.J3 hx Ms,
  h.sc.Fz h.ne fun e=>(h.tk bt e).1 rfl,h.tk⟩
def Ln.fml (h:Ln ZL Z bt bx T tv A1 k C8 v fc vs) {e:Ex} (hf:Ag (J5 Z (held bt bx v)) fc' e):Ln ZL (Z.upd bt (tnR { T with f:=e } v fc')) bt bx { T with f:=e } tv A1 k C8 v fc' vs :=
 ⟨h.ext.upd _,h.btl,h.bxg,D5,fun i hi=>OL.Fz (h.sl i hi) h.btl,h.dis,h.dx,hf.J3 Ms,h.iv.mono fun _ _ hx=>SL.J3 hx Ms,
  h.sc.Fz h.ne fun e=>(h.tk bt e).1 rfl,h.tk⟩
def vup (v:Nat->Value) (i:Nat) (w:Value):Nat->Value:=fun j=>if j=i then w else v j
def CY:vup v i w i=w:=z1z rfl
def FC {j:Nat}(h:j≠i):vup v i w j=v j:=z0z h
def Ln.app (h:Ln ZL Z bt bx T tv A1 k C8 v fc vs){i:Nat}(hi:i<5){w:Value}(ha:App Z Z' (v i) w) (ho:OL ZL.n Z' (szT i) w (CH T' vs' i))
  (hr:∀ j,j<5->j≠i->CH T' vs' j=CH T vs j) (hf:T'.f=T.f) (hv:FP (Fk (J5 Z (held bt bx v))) vs' T'.D6) :
  Ln ZL (Z'.upd bt (tnR T' (vup v i w) fc)) bt bx T' tv A1 k C8 (vup v i w) fc vs':=by
 have hbt:bt<Z.n:=z5z h.btl h.ext.n;have hi':=h.sl i hi;have FT:∀ c,I2 w=some c->Z.n<=c:=fun c hc=>(ha.new c hc).1;have GF:ET (J5 Z (held bt bx v)) (J5 (Z'.upd bt (tnR T' (vup v i w) fc)) (held bt bx (vup v i w))):=by
  refine K0 ha.n fun c hc hm=>⟨fun hm'=>?_,?_⟩
  ·rcases CN.1 hm' with e|e|⟨j,hj,e⟩|e
   ·exact hm (CN.2 (.inl e))
   ·exact hm (CN.2 (.inr (.inl e)))
   ·by_cases hji:j=i
    ·subst hji;rw[CY]at e;have:=FT c e;omega
    ·rw[FC hji]at e;exact hm (CN.2 (.inr (.inr (.inl ⟨j,hj,e⟩))))
   ·exact hm (CN.2 (.inr (.inr (.inr e))))
  ·rw[M1 fun e=>hm (CN.2 (.inl e))];exact T5 (ha.same c hc fun e=>hm (CN.2 (.inr (.inr (.inl ⟨i,hi,e⟩)))))
 have hbx:I2 (v i)≠some bx:=h.dx i hi;have hsc:Sc Z' bx tv A1 k C8:=by
  refine⟨by rw[B8 (ha.same bx h.sc.lt hbx)];exact h.sc.row,z5z h.sc.lt ha.n,?_,h.sc.ne,h.sc.k,h.sc.len⟩;rcases h.sc.sl with hs|⟨b,off,sp,c,cells,rfl,h2,h3,h4⟩
  ·exact .inl hs
  ·exact .inr ⟨b,off,sp,c,cells,rfl,z5z h2 ha.n,by rw[T5 (ha.same b h2 ((h.tk b rfl).2 i hi))];exact h3,h4⟩
 refine⟨⟨X0 h.ext.n ha.n,fun c hc hne=>?_⟩,h.btl,h.bxg,D5,fun j hj=>?_,?_,?_,by rw[hf];exact h.fx.J3 GF,hv.mono fun _ _ hx=>SL.J3 hx GF,hsc.Fz h.ne fun e=>(h.tk bt e).1 rfl,fun c hc=>⟨(h.tk c hc).1,fun j hj=>?_⟩⟩
 ·rw[Bt,z0z hne,ha.same c (z5z hc h.ext.n) (fun e=>by have:=(hi'.blk e).1;omega),h.ext.same c hc hne]
 ·refine OL.Fz ?_ h.btl;by_cases hji:j=i
  ·subst hji;rw[CY];exact ho
  ·rw[FC hji,hr j hj hji];exact(h.sl j hj).J3 ha.n fun c hc=>ha.same c ((h.sl j hj).blk hc).2 fun e=>h.dis i j c hi hj (fun e=>hji e.symm) e hc
 ·intro a b c ha' hb' hab e;by_cases hai:a=i
  ·subst hai;rw[CY]at e;rw[FC (fun e=>hab e.symm)];intro e';have:=FT c e;have:=((h.sl b hb').blk e').2;omega
  ·rw[FC hai]at e;by_cases hbi:b=i
   ·subst hbi;rw[CY];intro e';have:=FT c e';have:=((h.sl a ha').blk e).2;omega
   ·rw[FC hbi];exact h.dis a b c ha' hb' hab e
 ·intro j hj;by_cases hji:j=i
  ·subst hji;rw[CY];intro e;have:=FT bx e;have:=h.sc.lt;omega
  ·rw[FC hji];exact h.dx j hj
 ·by_cases hji:j=i
  ·subst hji;rw[CY];intro e;have:=FT c e;have:=h.sc.sl;rcases this with hs|⟨b,off,sp,cc,cells,rfl,h2,-⟩
   ·rw[hs.1]at hc;cases hc
   ·cases hc;omega
  ·rw[FC hji];exact(h.tk c hc).2 j hj
end
end
section
variable {a Z':St}{bs:List Nat}{i j n o c q k':Nat}{l fc' vs':List Value}{T':Tn}{v':Nat->Value}
abbrev Er:=Nat×Int
def G2 {α β:Type}(x:Except Er α) (f:α->Except Er β):Except Er β:=match x with
 | .ok a=>f a
 | .error e=> .error e
def C1 {α β:Type}{a:α}{f:α->Except Er β}:G2 (.ok a) f=f a:=rfl
def D9 {α β:Type}{e:Er}{f:α->Except Er β}:G2 (.error e) f= .error e:=rfl
def A9 (A1:List Tok) (k:Nat):Tok:=A1.getD k ([],0)
def I9 {A1:List Tok}{k:Nat}(h:k<A1.length):A1[k]? =some (A9 A1 k):=by
 unfold A9;rw[List.getD_eq_getElem?_getD,List.getElem?_eq_getElem h];rfl
def rd1 {α:Type}(A1:List Tok) (k:Nat) (R:Except Int α):Except Er (α×Nat):=match R with
 | .ok a=> .ok (a,k+1)
 | .error e=> .error ((A9 A1 k).2,e)
def rdNum (A1:List Tok) (I3:Int) (nw:Int->Bool) (k:Nat):Except Er (Nat×Nat):=rd1 A1 k (Mk I3 nw (A9 A1 k).1)
def N7 (A1:List Tok) (k:Nat):Except Er (Nat×Nat):=rdNum A1 0 (fun _=>true) k
def Ct (A1:List Tok) (ws:List By) (k:Nat):Except Er (By×Nat):=rd1 A1 k (if ws.contains (A9 A1 k).1 then .ok (A9 A1 k).1 else .error 12)
def BZ (A1:List Tok) (k:Nat):Except Er By:=if AL (A9 A1 k).1 then .ok (A9 A1 k).1 else .error ((A9 A1 k).2,12)
def xf {α:Type}(Z:St) (b:Nat) (v:Value) (A1:List Tok) (C8:List Value) (R:Except Er (α×Nat)) (f:α->Value) (r:CR):Prop:=match R with
 | .ok (a,k')=>∃ Z',r=⟨false,f a,Z'⟩/\B9 b Z Z'/\Z'.A7 b=some (v:: .int .i64 (k':Nat)::C8)/\k'<A1.length
 | .error (p,e)=>∃ Z',r=⟨true,fault p e,Z'⟩/\Ext Z Z'
def Stp.k {α:Type}{Z:St}{b:Nat}{v:Value}{A1:List Tok}{k:Nat}{C8:List Value}{R:Except Int α}{f:α->Value}{r:CR}(h:Stp Z b v A1 k C8 (A9 A1 k) R f r):xf Z b v A1 C8 (rd1 A1 k R) f r:=by
 cases R with
 |ok a=>exact h
 |error e=>exact h
section
variable {Z:St}{b:Nat}{v:Value}{A1:List Tok}{k:Nat}{C8:List Value}
def Gs (h:Sc Z b v A1 k C8) (C7:Ends A1) (hsh:u9 A1):
  Ev (gO 140 [.pointer (some ⟨b,0,none⟩)] Z) (xf Z b v A1 C8 (N7 A1 k) NY) ⟨⟩:=(pk h C7 hsh (I9 h.k)).mono fun _ h=>h.k
def AK9 {ws:Value}{l:List By}(h:Sc Z b v A1 k C8) (C7:Ends A1) (hw:HX Z ws l) (hl:l.length<=10) (hne:[]∉l):
  Ev (gO 139 [.pointer (some ⟨b,0,none⟩),ws] Z) (xf Z b v A1 C8 (Ct A1 l k) str) ⟨⟩:=(AM2 h C7 (I9 h.k) hw hl hne).mono fun _ h=>h.k
def gC (h:Sc Z b v A1 k C8) (C7:Ends A1) (hsh:u9 A1)
  {g:Nat}{fs cs:List Value}{nw:Int->Bool}{I3:Int} (hnw:∀ (Z':St) (n:Nat),Ext Z Z'->n<=1000000000->Ev (go Tryz.prog HS (.fn g) (fs++[.int .i64 n]++cs) Z') (fun r=>∃ Z2,r=⟨false,.bool (nw n),Z2⟩/\Ext Z' Z2) ⟨⟩) :
  Ev (gO 135 [.pointer (some ⟨b,0,none⟩),.int .i64 I3,.func (.func g) ⟨fs⟩ ⟨cs⟩] Z) (xf Z b v A1 C8 (rdNum A1 I3 nw k) NY) ⟨⟩ :=
 (Tc h C7 hsh (I9 h.k) hnw).mono fun r h=>Stp.k (by unfold Stp;revert h;cases Mk I3 nw (A9 A1 k).1<;>exact id)
end
def LnP (ZL:St) (bt bx:Nat) (tv:Value) (A1:List Tok) (C8:List Value) (R:Except Er (Tn×Nat)) (r:CR):Prop:=match R with
 | .ok (T,k)=>∃ Z' v fc vs,r=⟨false,.tuple ⟨[]⟩,Z'⟩/\Ln ZL Z' bt bx T tv A1 k C8 v fc vs
 | .error (p,e)=>∃ Z',r=⟨true,fault p e,Z'⟩/\B9 bt ZL Z'
def JX (A1:List Tok) (T:Tn) (k:Nat):Except Er (Tn×Nat) :=
 G2 (rdNum A1 1 (fun n=> !(T.G8.any fun l=>decide (l.id=n))) k) fun(id,k)=>G2 (Ct A1 [[109,111,115,116]] k) fun(_,k)=>G2 (N7 A1 k) fun(m,k)=> .ok ({ T with G8:=T.G8++[⟨id,m⟩] },k)
section
variable {Z ZL:St}{bt bx:Nat}{T:Tn}{tv:Value}{A1:List Tok}{k:Nat}{tx:By}{from':Nat}{v:Nat->Value}{fc vs:List Value}
def Bq {b:Nat}{ds:List Ab.Trace}:K1 bs i ⟨b,o,n⟩ (.eff j a (a.new l)::ds)=K1 bs i ⟨b,o,n⟩ ds:=LU fun h=>(Ext.new a l).same b h
def Gc {b:Nat}{ds:List Ab.Trace}(h:b≠c):K1 bs i ⟨b,o,n⟩ (.eff j a (a.upd c l)::ds)=K1 bs i ⟨b,o,n⟩ ds:=LU fun _=>by show(a.upd c l).h.get b=_;rw[Bt,z0z h]
def IT {r:AO}{b:St}{ds:List Ab.Trace}(h:ordered bs i j=true):K1 bs i r (.eff j a b::ds)=K1 bs i r ds:=by
 show bi (bi (ordered bs i j) true (bi (Nat.blt r.b a.n) (bi (Nat.beq (a.ver r.b) (b.ver r.b)) true (BM (a.read r.b r.off r.n) (b.read r.b r.off r.n))) true)) (K1 bs i r ds) false=_;rw[h];rfl
def Be {b:St}(hE:Ext a b):∀ (bs:List Nat) (i j q o n:Nat) (ds:List Ab.Trace),K1 bs i ⟨q,o,n⟩ (.eff j a b::ds)=K1 bs i ⟨q,o,n⟩ ds:=fun bs i j q o n ds=>LU fun h=>hE.same q h
def cH {p:Nat}{b:St}(hE:B9 p a b):∀ (bs:List Nat) (i j q o n:Nat) (ds:List Ab.Trace),q≠p->K1 bs i ⟨q,o,n⟩ (.eff j a b::ds)=K1 bs i ⟨q,o,n⟩ ds:=fun bs i j q o n ds h=>LU fun hl=>hE.same q hl h
def Ba {b:St}{v w:Value}(hE:App a b v w)(h:I2 v≠some q):∀ (bs:List Nat) (i j o n:Nat) (ds:List Ab.Trace),K1 bs i ⟨q,o,n⟩ (.eff j a b::ds)=K1 bs i ⟨q,o,n⟩ ds:=fun bs i j o n ds=>LU fun hl=>hE.same q hl h
def ru {b:St}{ds:List Ab.Trace}(h:BM (a.read q o n) (b.read q o n)=true):K1 bs i ⟨q,o,n⟩ (.eff j a b::ds)=K1 bs i ⟨q,o,n⟩ ds:=by
 show bi (bi (ordered bs i j) true (bi (Nat.blt q a.n) (bi (Nat.beq (a.ver q) (b.ver q)) true (BM (a.read q o n) (b.read q o n))) true)) (K1 bs i ⟨q,o,n⟩ ds) false=_;rw[h];cases ordered bs i j<;>cases Nat.blt q a.n<;>cases Nat.beq (a.ver q) (b.ver q)<;>rfl
def sB:BM (some [.pointer (some ⟨c,0,none⟩)]) (some [.pointer (some ⟨c,0,none⟩)])=true:=by
 show bi (veq _ _) true false=true;unfold veq;simp
def K2 (tx:By) (from' bt:Nat):List Value:=[str tx,.int .i64 (from':Nat),.pointer (some ⟨bt,0,none⟩)]
def Ln.rt (h:Ln ZL Z bt bx T tv A1 k (K2 tx from' bt) v fc vs):Z.read bx 4 1=some [.pointer (some ⟨bt,0,none⟩)]:=by
 rw[FL,A6 h.sc.row];rfl
def Ah9 {ds:List Ab.Trace}(h:Ln ZL Z bt bx T tv A1 k (K2 tx from' bt) v fc vs) (h':Ln ZL Z' bt bx T' tv A1 k' (K2 tx from' bt) v' fc' vs'):
  K1 bs i ⟨bx,4,1⟩ (.eff j Z Z'::ds)=K1 bs i ⟨bx,4,1⟩ ds:=ru (by rw[h.rt,h'.rt];exact sB)
def Iz (h:Ln ZL Z bt bx T tv A1 k (K2 tx from' bt) v fc vs) (h':Ln ZL Z' bt bx T' tv A1 k' (K2 tx from' bt) v' fc' vs'):∀ (bs:List Nat) (i j:Nat) (ds:List Ab.Trace),K1 bs i ⟨bx,4,1⟩ (.eff j Z Z'::ds)=K1 bs i ⟨bx,4,1⟩ ds:=fun _ _ _ _=>Ah9 h h'
def fc5 {Z:St}{fc:List Value}{e:Ex}(h:Ag Z fc e):∃ c1 c2 c3 c4 c5,fc=[c1,c2,c3,c4,c5]:=by
 cases e with
 | mk op n d nm args=>
   obtain⟨v,D4,h1,-⟩:=h;exact⟨_,_,_,_,_,h1⟩
def cJ {Z:St}{x:Lot}{n:Int}{bn:Nat}(hn:Z.row bn=some [.int .i64 n]) (hb:bn<Z.n):
  Ev (gO 138 [.agg ⟨x.row⟩,.pointer (some ⟨bn,0,none⟩)] Z) (fun r=>∃ Z2,r=⟨false,.bool (decide (x.id=n)),Z2⟩/\Ext Z Z2) ⟨⟩:=by
 refine D0 Tryz.func138 rfl rfl ?_;rw[show x.row=[.int .i64 x.id,.int .i64 x.P8]from rfl];refine gS1 (aI hn @Tryz.results138) ?_;exact⟨_,rfl,eX⟩
def km {bp:Nat}(h:Ln ZL Z bt bx T tv A1 k (K2 tx from' bt) v fc vs) (hp:Z.row bp=some [.pointer (some ⟨bx,0,none⟩)]) (hb:bp<Z.n) (hlen:T.G8.length<=4294967296):
  Ev (gO 136 [.int .i64 (n:Nat),.pointer (some ⟨bp,0,none⟩)] Z) (fun r=>∃ Z2,r=⟨false,.bool (!(T.G8.any fun l=>decide (l.id=(n:Int)))),Z2⟩/\Ext Z Z2) ⟨⟩:=by
 refine D0 Tryz.func136 rfl rfl ?_;have hx:=A6 h.sc.row;have ht:=A6 h.row;obtain⟨c1,c2,c3,c4,c5,rfl⟩:=fc5 h.fx;have hbx:=h.sc.lt;have hbt:=z5z h.btl h.ext.n;unfold K2 at hx;unfold tnR AI at ht;have h0:=h.sl 0 om;obtain⟨a,ha⟩:=OL.shape h0;rw[ha]at ht h0;refine gS1 (aI hp (aI hx ht)) ?_;have h0':SL _ 2 _ (T.G8.map Lot.row):=OL.sl (OL.ext h0 (Ext.new (t:=none) Z [.int .i64 (n:Nat)]));refine(sC (p:=fun l=>decide (l.id=(n:Int))) (by rw[show(CH T vs 0).length=T.G8.length from by show(T.G8.map _).length=_;rw[z2z]]at *;exact h0') hlen fun Z' x hE _=>?_).mono ?_
 ·refine cJ (bn:=Z.n) ?_ ?_
  ·rw[hE.row (by simp)];exact cL
  ·have:=hE.n;simp at this;omega
 rintro r ⟨Z2,rfl,hE2⟩;refine gS1 @Tryz.results136 ?_;exact⟨_,rfl,(Ext.new _ _).trans hE2⟩
def AP5 (h:Ln ZL Z bt bx T tv A1 k (K2 tx from' bt) v fc vs) (C7:Ends A1) (hsh:u9 A1) (hlen:T.G8.length<=100000):
  Ev (gO 91 [.pointer (some ⟨bx,0,none⟩)] Z) (LnP ZL bt bx tv A1 (K2 tx from' bt) (JX A1 T k)) ⟨⟩:=by
 refine D0 Tryz.func91 rfl rfl ?_;refine gS ?_;have h1:=h.J0 (Ext.new (t:=none) Z [.pointer (some ⟨bx,0,none⟩)]);have hn0:=h.sc.lt;refine(gC (fs:=[]) (cs:=[.pointer (some ⟨Z.n,0,none⟩)]) (nw:=fun n=> !(T.G8.any fun l=>decide (l.id=n))) h1.sc C7 hsh fun Z' n hE _=>?_).mono ?_
 ·refine km (h1.J0 hE) ?_ ?_ om
  ·rw[hE.row (by simp)];exact cL
  ·have:=hE.n;simp at this;omega
 intro r;unfold JX;cases hR:rdNum A1 1 (fun n=> !(T.G8.any fun l=>decide (l.id=n))) k with
 | error pe=>
   obtain⟨p,e⟩:=pe;rintro⟨Z',rfl,hE⟩;refine gS ?_;rw[D9];exact⟨_,rfl,(h1.J0 hE).ext⟩
 | ok ak=>
   obtain⟨id,k1⟩:=ak;rintro⟨Z1,rfl,hE1,hr1,hk1⟩;rw[C1];have h2:=h1.step hE1 hr1 hk1;have rp:Z1.row Z.n=some [.pointer (some ⟨bx,0,none⟩)]:=eT (hE1.row (by simp) om) cL;have hn1:=hE1.n;simp at hn1;unfold NY;refine gS1 @rp ?_;have h3:=h2.J0 (Ext.new (t:=none) Z1 [str [109,111,115,116]]);refine(AK9 h3.sc C7 (Mh (l:=[[109,111,115,116]])) (by decide) (by decide)).mono ?_;intro r
   try dsimp only
   cases hR2:Ct A1 [[109,111,115,116]] k1 with
   | error pe=>
     obtain⟨p,e⟩:=pe;rintro⟨Z',rfl,hE⟩;refine gS ?_;rw[D9];exact⟨_,rfl,(h3.J0 hE).ext⟩
   | ok ak=>
     obtain⟨w,k2⟩:=ak;rintro⟨Z2,rfl,hE2,hr2,hk2⟩;rw[C1];have h4:=h3.step hE2 hr2 hk2;have hn2:=hE2.n;simp at hn2;have rp2:Z2.row Z.n=some [.pointer (some ⟨bx,0,none⟩)]:=by rw[hE2.row (by simp;omega) om];exact cL1 rp
     have hx:=A6 h4.sc.row;have ht:=A6 h4.row;unfold K2 at hx;obtain⟨c1,c2,c3,c4,c5,rfl⟩:∃ c1 c2 c3 c4 c5,fc=[c1,c2,c3,c4,c5]:=fc5 h4.fx;unfold tnR AI at ht;obtain⟨a,ha⟩:=OL.shape (h4.sl 0 om);rw[ha]at ht;refine gS1 (aI rp2 (aI hx ht)) ?_;refine(Gs h4.sc C7 hsh).mono ?_;intro r
     try dsimp only
     cases hR3:N7 A1 k2 with
     | error pe=>
       obtain⟨p,e⟩:=pe;rintro⟨Z',rfl,hE⟩;refine gS ?_;refine Ar.intro kR ?_;refine dW1 (Be hE) ?_;refine gS ?_;rw[D9];exact⟨_,rfl,(h4.J0 hE).ext⟩
     | ok ak=>
       obtain⟨m,k3⟩:=ak;rintro⟨Z3,rfl,hE3,hr3,hk3⟩;rw[C1];have h5:=h4.step hE3 hr3 hk3;unfold NY;refine gU1 (a10N @A4 @P9 @N9 @N6 @K6 @M4 @M5 @K7 @K8 @H8) ?_;have h6:=h5.J0 (Ext.new (t:=none) Z3 [.int .i64 id,.int .i64 m]);have hl0:=h6.sl 0 om;have d1:=h6.dx 0 om;have d2:I2 (v 0)≠some Z.n:=fun e=>by have:=((h.sl 0 om).blk e).2;omega
       rw[ha]at hl0 d1 d2;rw[show(CH T vs 0).length=T.G8.length from z2z ..]at *;refine G4 (lo:=ZL.n) (D4:=T.G8.map Lot.row) (row:=[.int .i64 id,.int .i64 m]) (fun _ _ _ _=>N5) hl0 (D1 nL nL) (D8 (by simp) (by simp)) (by rw[z2z];omega) (by have:=h6.ext.n;simp at this ⊢;omega) ?_;intro v' Z5 g1 g2 g3;have hbt:bt<Z3.n:=z5z h5.btl h5.ext.n;have ro5:Z5.A7 bt=some (tnR T v [c1,c2,c3,c4,c5]):=by
        rw[B8 (g2.same bt (by simp;omega) fun e=>by have:=(hl0.blk e).1;have:=h.btl;omega)];exact h6.row
       obtain⟨a',rfl⟩:=OL.shape g1;have h7:=h6.app (T':={ T with G8:=T.G8++[⟨id,m⟩] }) (vs':=vs) (i:=0) om (by rw[ha];exact g2) (by show OL _ _ 2 _ (List.map _ _);rw[y7];exact g1) (by intro j hj hne;match j,hj,hne with|1,_,_=>rfl|2,_,_=>rfl|3,_,_=>rfl|4,_,_=>rfl) rfl h6.iv;have hx5:=h7.sc.row;unfold tnR AI at ro5;refine gS1 ro5 ?_;have hL:=h.btl;have hg:=h.bxg;have hLn:=h.ext.n;refine dW1 (aI (cH hE3) (aI (Ba g2 d1) (aI (Ba g2 d2) (Iz h4 h5)))) ?_;refine gS1 @Tryz.results91 ?_;exact⟨_,_,_,_,rfl,h7⟩
end
end
end Go.Proofs.T
