/- A AY, as plain data, and how it Qi in memory. -/
import Derived.Test.YtbcanmagihejhaaGreatDoorAbD
import Derived.Test.YtbcanmagihejhaaGreatDoorTB
set_option linter.unusedSimpArgs false
set_option linter.unusedVariables false
set_option maxHeartbeats 32000000
set_option maxRecDepth 100000
namespace Go.Proofs.T
open Go Go.Ab
abbrev By:=List UInt8
def u7 (n:Int):Prop:= -9223372036854775808<=n/\n<=9223372036854775807
structure Lot where
 id:Int
 D5:Int
 deriving DecidableEq
structure R0 where
 name:By
 kind:Int
 low:Int
 high:Int
 less:Bool
 deriving DecidableEq
structure Req where
 name:By
 rel:By
 value:Int
 deriving DecidableEq
inductive Ex where
 | mk (op:By) (num den:Int) (name:By) (args:List Ex)
structure Tim where
 q:Int
 b:Int
 g:Int
 p:Int
 s:Int
 deriving DecidableEq
structure Tn where
 name:By
 D2:List Lot
 C7:List R0
 reqs:List Req
 low:Int
 high:Int
 f:Ex
 E9:List By
 D5:Int
 C3:List (List Int)
 C1:Int
 t:Tim
def Lot.row (l:Lot):List Value:=[.int .i64 l.id,.int .i64 l.D5]
def R0.row (c:R0):List Value:=[str c.name,.int .i64 c.kind,.int .i64 c.low,.int .i64 c.high,.bool c.less]
def Req.row (r:Req):List Value:=[str r.name,str r.rel,.int .i64 r.value]
def Ca (Z:St) (v:Value) (l:List Int):Prop:=SL Z 1 v (l.map fun n=>[.int .i64 n])
def Sf (Z:St) (v:Value) (l:List Lot):Prop:=SL Z 2 v (l.map Lot.row)
def LG (Z:St) (v:Value) (l:List R0):Prop:=SL Z 5 v (l.map R0.row)
def Sg (Z:St) (v:Value) (l:List Req):Prop:=SL Z 3 v (l.map Req.row)
def CB {α β:Type}(R:α->β->Prop):List α->List β->Prop
 | [],[]=>True
 | a::l,b::k=>R a b/\CB R l k
 | _,_=>False
theorem CB.len {α β:Type}{R:α->β->Prop}:∀ {l:List α}{k:List β},CB R l k->l.length=k.length
 | [],[],_=>rfl
 | _::_,_::_,h=>by rw [List.length_cons,List.length_cons,h.2.len]
 | [],_::_,h=>h.elim
 | _::_,[],h=>h.elim
theorem CB.get {α β:Type}{R:α->β->Prop}:∀ {l:List α}{k:List β}{i:Nat}{a:α}{b:β},CB R l k->l[i]? =some a->k[i]? =some b->R a b
 | a::l,b::k,0,_,_,h,h1,h2=>by cases h1;cases h2;exact h.1
 | a::l,b::k,i+1,_,_,h,h1,h2=>h.2.get (i:=i) (by simpa using h1) (by simpa using h2)
 | [],_,_,_,_,_,h1,_=>by simp at h1
 | _::_,[],_,_,_,h,_,_=>h.elim
theorem CB.mono {α β:Type}{R S:α->β->Prop}(hRS:∀ a b,R a b->S a b):∀ {l:List α}{k:List β},CB R l k->CB S l k
 | [],[],_=>trivial
 | _::_,_::_,h=>⟨hRS _ _ h.1,h.2.mono hRS⟩
 | [],_::_,h=>h.elim
 | _::_,[],h=>h.elim
theorem CB.app {α β:Type}{R:α->β->Prop}{a:α}{b:β}(hab:R a b):∀ {l:List α}{k:List β},CB R l k->CB R (l++[a]) (k++[b])
 | [],[],_=>⟨hab,trivial⟩
 | _::_,_::_,h=>⟨h.1,h.2.app hab⟩
 | [],_::_,h=>h.elim
 | _::_,[],h=>h.elim
def IT (Z:St) (v:Value) (l:List (List Int)):Prop:=∃ vs:List Value,SL Z 1 v (vs.map fun x=>[x])/\CB (Ca Z) vs l
mutual
def Ah (Z:St) (row:List Value):Ex->Prop
 | .mk op n d nm args=>∃ v rows,row=[str op,.int .i64 n,.int .i64 d,str nm,v]/\SL Z 5 v rows/\args.length<=4/\AM Z rows args
def AM (Z:St) (rows:List (List Value)):List Ex->Prop
 | []=>rows=[]
 | e::es=>∃ r rs,rows=r::rs/\Ah Z r e/\AM Z rs es
end
mutual
theorem Ah.mono {Z Z':St}(hE:Ext Z Z'){row:List Value}:∀ {e:Ex},Ah Z row e->Ah Z' row e
 | .mk op n d nm args,h=>by
   obtain ⟨v,rows,h1,h2,h4,h3⟩:=h;exact ⟨v,rows,h1,h2.mono hE,h4,AM.mono hE h3⟩
theorem AM.mono {Z Z':St}(hE:Ext Z Z'){rows:List (List Value)}:∀ {es:List Ex},AM Z rows es->AM Z' rows es
 | [],h=>h
 | e::es,h=>by
   obtain ⟨r,rs,h1,h2,h3⟩:=h;exact ⟨r,rs,h1,Ah.mono hE h2,AM.mono hE h3⟩
end
theorem AM.len {Z:St}:∀ {rows:List (List Value)}{es:List Ex},AM Z rows es->rows.length=es.length
 | _,[],h=>by rw [show _=_ from h];rfl
 | _,e::es,h=>by
   obtain ⟨r,rs,rfl,-,h3⟩:=h;rw [List.length_cons,List.length_cons,h3.len]
theorem AM.get {Z:St}:∀ {rows:List (List Value)}{es:List Ex}{i:Nat}{r:List Value}{e:Ex},AM Z rows es->rows[i]? =some r->es[i]? =some e->Ah Z r e
 | _,[],_,_,_,_,_,h2=>by simp at h2
 | _,e::es,i,_,_,h,h1,h2=>by
   obtain ⟨r,rs,rfl,h3,h4⟩:=h;cases i with
   | zero=>cases h1;cases h2;exact h3
   | succ i=>exact h4.get (i:=i) (by simpa using h1) (by simpa using h2)
def T3 (nm:By) (vl vc vr:Value) (low high:Int) (ex:List Value) (vt:Value) (D5:Int) (vk:Value) (C1:Int) (t:Tim):List Value :=
 [str nm,vl,vc,vr,.int .i64 low,.int .i64 high]++ex++[vt,.int .i64 D5,vk,.int .i64 C1,.int .i64 t.q,.int .i64 t.b,.int .i64 t.g,.int .i64 t.p,.int .i64 t.s]
def Ar (Z:St) (cells:List Value) (T:Tn):Prop :=
 ∃ vl vc vr ex vt vk,cells=T3 T.name vl vc vr T.low T.high ex vt T.D5 vk T.C1 T.t/\Sf Z vl T.D2/\LG Z vc T.C7/\Sg Z vr T.reqs/\Ah Z ex T.f/\Dh Z vt T.E9/\IT Z vk T.C3
theorem Ca.mono {Z Z':St}{v:Value}{l:List Int}(h:Ca Z v l) (hE:Ext Z Z'):Ca Z' v l:=SL.mono h hE
theorem IT.mono {Z Z':St}{v:Value}{l:List (List Int)}(h:IT Z v l) (hE:Ext Z Z'):IT Z' v l:=by
 obtain ⟨vs,h1,h2⟩:=h;exact ⟨vs,h1.mono hE,h2.mono fun _ _ h=>h.mono hE⟩
theorem Ar.mono {Z Z':St}{cells:List Value}{T:Tn}(h:Ar Z cells T) (hE:Ext Z Z'):Ar Z' cells T:=by
 obtain ⟨vl,vc,vr,ex,vt,vk,h1,h2,h3,h4,h5,h6,h7⟩:=h;exact ⟨vl,vc,vr,ex,vt,vk,h1,SL.mono h2 hE,SL.mono h3 hE,SL.mono h4 hE,h5.mono hE,h6.mono hE,h7.mono hE⟩
theorem Ah.len {Z:St}{row:List Value}:∀ {e:Ex},Ah Z row e->row.length=5
 | .mk _ _ _ _ _,h=>by obtain ⟨v,rows,rfl,-,-⟩:=h;rfl
theorem Ar.len {Z:St}{cells:List Value}{T:Tn}(h:Ar Z cells T):cells.length=20:=by
 obtain ⟨vl,vc,vr,ex,vt,vk,rfl,-,-,-,h5,-⟩:=h;simp [T3,h5.len]
def names:List By:=[[113,117,97,108,105,116,121],[100,97,121,115],[115,116,97,102,102],[112,114,105,99,101],[108,111,119],[115,112,101,101,100],[99,111,109,102,111,114,116],[119,101,105,103,104,116]]
structure Tn.Ok (T:Tn):Prop where
 D2:T.D2.length<=16
 lot:∀ l∈T.D2,0<=l.id/\l.id<10/\u7 l.D5
 C7:T.C7.length<=16
 Bi:∀ c∈T.C7,c.name∈names/\u7 c.kind/\u7 c.low/\u7 c.high
 reqs:T.reqs.length<=8
 req:∀ r∈T.reqs,r.name∈names/\r.rel.length<=2/\u7 r.value
 low:u7 T.low
 high:u7 T.high
 E9:T.E9.length<=16
 tie:∀ s∈T.E9,s∈names
 D5:u7 T.D5
 C3:T.C3.length<=16
 combo:∀ l∈T.C3,l.length<=4/\∀ n∈l,u7 n
 C1:u7 T.C1
 tim:u7 T.t.q/\u7 T.t.b/\u7 T.t.g/\u7 T.t.p/\u7 T.t.s
end Go.Proofs.T
namespace Go.Proofs.T
open Go Go.Ab
open Nat (reduceMul reduceEqDiff reduceAdd)
def FR (n:Int):Bool:=(!decide (n<97)&& !decide (122<n))||(!decide (n<65)&& !decide (90<n))
def J9 (n:Int):Bool:= !decide (n<48)&& !decide (57<n)
def EY (n:Int):Bool:=FR n||J9 n||decide (n=95)
theorem J1:yieldOf true O8=false:=rfl
theorem J2:yieldOf false O8=false:=rfl
theorem KY {Z:St}{n:Int}:Ev (go Tryz.prog HS (.fn 85) [.int .u8 n] Z) (fun r=>r=⟨false,.bool (FR n),Z⟩) ⟨⟩:=by
 refine D7 Tryz.func85 rfl rfl ?_;unfold FR;cases a:decide (n<97) <;> cases b:decide (122<n) <;> cases c:decide (n<65) <;> cases d:decide (90<n) <;> simp (maxSteps:=8000000) (disch:=first|exact dS|fail) only [↓bD,bW,reduceMul,reduceEqDiff,reduceAdd,Nat.reduceBEq,reduceIte,Option.isNone_none,a,b,c,d,J1,J2,Tryz.results85] <;> rfl
theorem Jf {Z:St}{n:Int}:Ev (go Tryz.prog HS (.fn 88) [.int .u8 n] Z) (fun r=>r=⟨false,.bool (J9 n),Z⟩) ⟨⟩:=by
 refine D7 Tryz.func88 rfl rfl ?_;unfold J9;cases a:decide (n<48) <;> cases b:decide (57<n) <;> simp (maxSteps:=8000000) (disch:=first|exact dS|fail) only [↓bD,bW,reduceMul,reduceEqDiff,reduceAdd,Nat.reduceBEq,reduceIte,Option.isNone_none,a,b,J1,J2,Tryz.results88] <;> rfl
theorem Za {Z:St}{n:Int}:Ev (go Tryz.prog HS (.fn 87) [.int .u8 n] Z) (fun r=>r=⟨false,.bool (EY n),Z⟩) ⟨⟩:=by
 refine D7 Tryz.func87 rfl rfl ?_;refine gS ?_;refine KY.mono ?_;rintro r rfl;unfold EY;cases a:FR n
 ·refine gS1 (a3N @a @J1 @J2) ?_;refine Jf.mono ?_;rintro r rfl;cases b:J9 n <;> cases c:decide (n=95) <;> simp (maxSteps:=8000000) (disch:=first|exact dS|fail) only [↓bD,bW,reduceMul,reduceEqDiff,reduceAdd,Nat.reduceBEq,reduceIte,Option.isNone_none,a,b,c,J1,J2,Tryz.results87] <;> rfl
 ·cases c:decide (n=95) <;> simp (maxSteps:=8000000) (disch:=first|exact dS|fail) only [↓bD,bW,reduceMul,reduceEqDiff,reduceAdd,Nat.reduceBEq,reduceIte,Option.isNone_none,a,c,J1,J2,Tryz.results87] <;> rfl
def dV (g:Nat) (p:Int->Bool):Prop:=∀ (Z:St) (n:Int),Ev (go Tryz.prog HS (.fn g) [.int .u8 n] Z) (fun r=>r=⟨false,.bool (p n),Z⟩) ⟨⟩
theorem Gt:dV 88 J9:=fun _ _=>Jf
theorem ND:dV 87 EY:=fun _ _=>Za
def on (p:Int->Bool) (c:UInt8):Bool:=p (c.toNat:Nat)
def runs (p:Int->Bool) (s:By) (k:Nat):Nat:=((s.drop k).takeWhile (on p)).length
theorem Jg (p:Int->Bool) (s:By) (k:Nat):k<=s.length->k+runs p s k<=s.length:=by
 intro h;have:=(List.takeWhile_sublist (on p) (l:=s.drop k)).length_le;rw [List.length_drop] at this;unfold runs;omega
theorem rh {α:Type}{p:α->Bool}:∀ {l:List α}{j:Nat},j<(l.takeWhile p).length->∃ c,l[j]? =some c/\p c=true:=by
 intro l;induction l with
 | nil=>intro j h;simp at h
 | cons x l ih =>
   intro j h;rw [List.takeWhile_cons] at h;cases hp:p x with
   | false=>rw [hp] at h;simp at h
   | true =>
     rw [hp] at h;cases j with
     | zero=>exact ⟨x,rfl,hp⟩
     | succ j=>simpa using ih (by simpa using h)
theorem ri {α:Type}{p:α->Bool}:∀ {l:List α},l[(l.takeWhile p).length]? =none\/∃ c,l[(l.takeWhile p).length]? =some c/\p c=false:=by
 intro l;induction l with
 | nil=>exact .inl rfl
 | cons x l ih =>
   rw [List.takeWhile_cons];cases hp:p x with
   | false=>exact .inr ⟨x,by simp,hp⟩
   | true=>simpa using ih
theorem T6 {c:UInt8}:dW [c]=some (.int .u8 (c.toNat:Nat)):=rfl
theorem CF {α:Type}{l:List α}{k:Nat}{a:α}(h:l[k]? =some a):sub l k 1=some [a]:=by
 obtain ⟨h1,h2⟩:=List.getElem?_eq_some_iff.1 h;rw [r9 om,List.drop_eq_getElem_cons h1,h2];rfl
theorem NC {g:Nat}{p:Int->Bool}(hp:dV g p){Z:St}{s:By}{k:Nat}(hk:k<=s.length) (hs:s.length<9223372036854775807) :
  Ev (go Tryz.prog HS (.fn 86) [str s,.int .i64 k,.func (.func g) #[] #[]] Z) (fun r=>r=⟨false,.int .i64 (k+runs p s k:Nat),Z⟩) ⟨⟩:=by
 refine D7 Tryz.func86 rfl rfl ?_;have hle:=Jg p s k hk;refine gS ?_
 refine L8 (runs p s k) (fun j fr Z'=>fr.get 1=some (.int .i64 (k+j:Nat))/\fr.get 0=some (str s)/\fr.get 2=some (.func (.func g) #[] #[])/\Z'=Z)
  (fun r=>∃ fr,r=⟨.exit 0,fr,Z⟩/\fr.get 1=some (.int .i64 (k+runs p s k:Nat))) ?_ ?_ ?_ ?_
 ·exact ⟨fR,fR,fR,rfl⟩
 ·rintro j fr Z' hj ⟨g1,g0,g2,rfl⟩;obtain ⟨c,hc,hpc⟩:=rh (show j<((s.drop k).takeWhile (on p)).length from hj);rw [List.getElem?_drop] at hc;have hlt:k+j<s.length:=(List.getElem?_eq_some_iff.1 hc).1;have e1:decide (((k+j:Nat):Int)<(s.length:Int))=true:=by rw [decide_eq_true_iff];omega
  have h1:=CF hc;refine gS1 (a8N @g1 @g0 @g2 @e1 @h1 @T6 @J1 @J2) ?_;refine (hp _ _).mono ?_;rintro r rfl;have rj:p (c.toNat:Nat)=true:=hpc;refine gS1 (a7N @g1 @g0 @g2 @e1 @rj @J1 @J2) ?_;have ee:((k+j:Nat):Int)+1=((k+(j+1):Nat):Int):=om;exact ⟨fR1 ee,fR1 g0,fR1 g2,by trivial⟩
 ·rintro fr Z' ⟨g1,g0,g2,rfl⟩;rcases (show (s.drop k)[runs p s k]? =none\/∃ c,(s.drop k)[runs p s k]? =some c/\on p c=false from ri) with hc|⟨c,hc,hpc⟩
  ·rw [List.getElem?_drop] at hc;have hge:¬ (k+runs p s k<s.length):=fun h=>by rw [List.getElem?_eq_getElem h] at hc;cases hc
   have e1:decide (((k+runs p s k:Nat):Int)<(s.length:Int))=false:=by rw [decide_eq_false_iff_not];omega
   refine gS1 (a6N @g1 @g0 @g2 @e1 @J1 @J2) ?_;exact ⟨_,rfl,fR1 g1⟩
  ·rw [List.getElem?_drop] at hc;have hlt:k+runs p s k<s.length:=(List.getElem?_eq_some_iff.1 hc).1;have e1:decide (((k+runs p s k:Nat):Int)<(s.length:Int))=true:=by rw [decide_eq_true_iff];omega
   have h1:=CF hc;refine gS1 (a8N @g1 @g0 @g2 @e1 @h1 @T6 @J1 @J2) ?_;refine (hp _ _).mono ?_;rintro r rfl;have rj:p (c.toNat:Nat)=false:=hpc;refine gS1 (a7N @g1 @g0 @g2 @e1 @rj @J1 @J2) ?_;exact ⟨_,rfl,fR1 g1⟩
 rintro r ⟨fr,rfl,g1⟩;refine gS1 (aI @g1 @Tryz.results86) ?_;try exact ⟨⟩
section
variable {Z:St}
def JX (l:List (List UInt8)) (s:List UInt8):Nat->Bool
 | 0=>false
 | k+1=>JX l s k||decide (l[k]? =some s)
theorem ZQ (l:List (List UInt8)) (s:List UInt8) (k:Nat):JX l s k=true↔∃ i,i<k/\l[i]? =some s:=by
 induction k with
 | zero=>simp [JX]
 | succ k ih =>
   simp only [JX,Bool.or_eq_true,ih,decide_eq_true_iff];constructor
   ·rintro (⟨i,h1,h2⟩|h)
    ·exact ⟨i,om,h2⟩
    ·exact ⟨k,om,h⟩
   ·rintro ⟨i,h1,h2⟩;by_cases e:i=k
    ·subst e;exact .inr h2
    ·exact .inl ⟨i,om,h2⟩
theorem NA (l:List (List UInt8)) (s:List UInt8):JX l s l.length=l.contains s:=by
 rw [Bool.eq_iff_iff,ZQ,List.contains_iff_mem,List.mem_iff_getElem?];constructor
 ·rintro ⟨i,-,h⟩;exact ⟨i,h⟩
 ·rintro ⟨i,h⟩;obtain ⟨hlt,_⟩:=List.getElem?_eq_some_iff.1 h;exact ⟨i,hlt,h⟩
theorem Ol {v:Value}{l:List (List UInt8)}{s:List UInt8}(hl:Dh Z v l) (hn:l.length<=4294967296) :
  Ev (go Tryz.prog HS (.fn 197) [v,str s] Z) (fun r=>∃ n:Int,r=⟨false,.int .i64 n,Z⟩/\(0<=n↔l.contains s=true)/\ -1<=n/\n<4294967297) ⟨⟩:=by
 obtain ⟨a,c,b,off,cells,rfl,h1,h2⟩:=hl.use;refine D7 Tryz.func197 rfl rfl ?_;refine gS ?_
 refine Bj (fun j fr Z'=>∃ k,j=l.length-k/\k<=l.length/\fr.get 0=some (.slice a l.length c)/\fr.get 1=some (str s)/\fr.get 7=some (.int .i64 l.length)/\fr.get 8=some (.int .i64 k)/\Z'=Z/\JX l s k=false)
  (fun r=>(∃ fr,r=⟨.exit 0,fr,Z⟩/\JX l s l.length=false)\/(∃ fr k,r=⟨.ret,fr,Z⟩/\fr.get 4=some (.int .i64 (k:Nat))/\k<l.length/\l.contains s=true)) l.length ?_ ?_ ?_
 ·refine ⟨0,rfl,om,?_,?_,?_,?_,rfl,rfl⟩
  all_goals exact fR
 ·rintro j fr Z' ⟨k,rfl,hk,g0,g1,g7,g8,rfl,hm⟩;by_cases hc:k<l.length
  ·obtain ⟨sp,rfl,hb,hr⟩:=h1 om;obtain ⟨x,hx⟩:∃ x,l[k]? =some x:=⟨_,List.getElem?_eq_getElem hc⟩
   have h2:=h2 k x hx;have hc':decide (k<l.length)=true:=by simpa using hc
   refine gS1 (a9N @g0 @g1 @g7 @g8 @GF @hc' @hr @Nat.mul_one @h2) ?_;refine Br.intro (fun hd=>?_) (fun hd=>?_)
   ·obtain rfl:s=x:=by simpa using hd
    refine gS1 (a5N @g0 @g1 @g7 @g8 @Qv) ?_;refine .inr ⟨_,k,rfl,fR,hc,?_⟩;rw [List.contains_iff_mem];exact List.mem_of_getElem? hx
   ·have hd:s≠x:=by simpa using hd
    refine gS1 (a6N @g0 @g1 @g7 @g8 @Gs @O5) ?_;refine ⟨l.length-(k+1),om,k+1,rfl,om,fR1 g0,fR1 g1,fR1 g7,fR,by trivial,?_⟩;show (JX l s k||decide (l[k]? =some s))=false;rw [hm,hx]
    simpa using fun h=>hd h.symm
  ·have hc':decide (k<l.length)=false:=by simpa using hc
   obtain rfl:k=l.length:=om;refine gS1 (a7N @g0 @g1 @g7 @g8 @GF @hc' @BM) ?_;exact .inl ⟨_,rfl,hm⟩
 ·rintro r (⟨fr,rfl,hm⟩|⟨fr,k,rfl,g4,hk,hm⟩)
  ·refine gS1 @Tryz.results197 ?_;refine ⟨-1,rfl,?_,om,om⟩;rw [<- NA,hm];simp
  ·refine gS1 (aI @Tryz.results197 @g4) ?_;exact ⟨k,rfl,by rw [hm];simp,om,om⟩
theorem AA {v:Value}{l:List (List UInt8)}{s:List UInt8}(hl:Dh Z v l) (hn:l.length<=4294967296) :
  Ev (go Tryz.prog HS (.fn 164) [v,str s] Z) (fun r=>r=⟨false,.bool (l.contains s),Z⟩) ⟨⟩:=by
 have hl':=hl;obtain ⟨a,c,b,off,cells,rfl,h1,h2⟩:=hl.use;refine D7 Tryz.func164 rfl rfl ?_;refine gS ?_;refine (Ol hl' hn).mono ?_;rintro r ⟨n,rfl,h3,h4,h5⟩;have hb:(!decide (n<0))=l.contains s:=by
  rw [Bool.eq_iff_iff,<- h3];simp
 refine gS1 (aI @Tryz.results164 @hb) ?_;try exact ⟨⟩
end
theorem rH {α:Type}{p:α->Bool}:∀ {l:List α},(l.takeWhile p).length=l.length↔l.all p=true:=by
 intro l;induction l with
 | nil=>simp
 | cons x l ih =>
   rw [List.takeWhile_cons,List.all_cons];cases hp:p x with
   | false=>simp
   | true=>simpa using ih
theorem Su {p:Int->Bool}{s:By}:runs p s 0=s.length↔s.all (on p)=true:=by
 unfold runs;rw [List.drop_zero];exact rH
def Fg (p:Int->Bool) (s:By):Bool:=match s with
 | c::_=>on p c
 | []=>false
theorem Ib {p:Int->Bool}{c:UInt8}{s:By}:Fg p (c::s)=on p c:=rfl
def AL (s:By):Bool:=Fg FR s&&decide (s.length<=30)&&s.all (on EY)
def qH (s:By):Bool:=match s with
 | [_]=>true
 | c::_=> !decide (c=48)
 | []=>false
def FZ (s:By):Bool:=Fg J9 s&&s.all (on J9)&&qH s
def NB:List By:=[[112,114,105,99,101],[108,111,119],[109,105,110],[109,97,120]]
def Y0 (s:By):Bool:=AL s&& !(NB.contains s)
theorem Fh {Z:St}{s:By}(hs:s.length<9223372036854775807):Ev (go Tryz.prog HS (.fn 94) [str s] Z) (fun r=>r=⟨false,.bool (AL s),Z⟩) ⟨⟩:=by
 refine D7 Tryz.func94 rfl rfl ?_;cases s with
 | nil =>
   have d0:decide (([]:By)=[])=true:=rfl;refine gS1 (a4N @d0 @J1 @J2 @Tryz.results94) ?_;rfl
 | cons c s =>
   have d0:decide (c::s=([]:By))=false:=rfl;have h1:sub (c::s) 0 1=some [c]:=CF rfl;by_cases hl:30<(c::s).length
   ·have e1:decide (30<((c::s).length:Int))=true:=by rw [decide_eq_true_iff];omega
    have hb:AL (c::s)=false:=by unfold AL;rw [decide_eq_false (show ¬ (c::s).length<=30 by omega)];simp
    simp only [List.length_cons] at e1;refine gS1 (a6N @d0 @e1 @hb @J1 @J2 @Tryz.results94) ?_;try exact ⟨⟩
   have e1:decide (30<((c::s).length:Int))=false:=by rw [decide_eq_false_iff_not];omega
   have hl':decide ((c::s).length<=30)=true:=decide_eq_true om;have e2:=e1;simp only [List.length_cons] at e2;refine gS1 (a6N @d0 @e2 @h1 @T6 @J1 @J2) ?_;refine KY.mono ?_;rintro r rfl;cases a:FR (c.toNat:Nat) with
   | false =>
     have hb:AL (c::s)=false:=by
      unfold AL;rw [Ib,show on FR c=false from a];rfl
     refine gS1 (a7N @d0 @e2 @hb @a @J1 @J2 @Tryz.results94) ?_;try exact ⟨⟩
   | true =>
     refine gS1 (a5N @d0 @e2 @a @J1 @J2) ?_;refine (NC (k:=0) ND (Nat.zero_le _) hs).mono ?_;rintro r rfl;rw [Nat.zero_add];have kJ:=Su (p:=EY) (s:=c::s);have hq:decide ((runs EY (c::s) 0:Int)=((s.length+1:Nat):Int))=AL (c::s):=by
      unfold AL;rw [Ib,show on FR c=true from a,hl',Bool.true_and,Bool.true_and,Bool.eq_iff_iff,decide_eq_true_iff,<- kJ];simp only [List.length_cons];omega
     refine gS1 (a7N @d0 @e2 @a @J1 @J2 @Tryz.results94 @hq) ?_;try exact ⟨⟩
theorem LQ {Z:St}{s:By}(hs:s.length<9223372036854775807):Ev (go Tryz.prog HS (.fn 192) [str s] Z) (fun r=>r=⟨false,.bool (FZ s),Z⟩) ⟨⟩:=by
 refine D7 Tryz.func192 rfl rfl ?_;cases s with
 | nil =>
   have d0:decide (([]:By)=[])=true:=rfl;refine gS1 (a4N @d0 @J1 @J2 @Tryz.results192) ?_;rfl
 | cons c s =>
   have d0:decide (c::s=([]:By))=false:=rfl;have h1:sub (c::s) 0 1=some [c]:=CF rfl;refine gS1 (a3N @d0 @J1 @J2) ?_;refine (NC (k:=0) Gt (Nat.zero_le _) hs).mono ?_;rintro r rfl;rw [Nat.zero_add];have kJ:=Su (p:=J9) (s:=c::s);by_cases Dq:(c::s).all (on J9)=true
   ·have hq:decide ((runs J9 (c::s) 0:Int)=((s.length+1:Nat):Int))=true:=by
     rw [decide_eq_true_iff];have:=kJ.2 Dq;simp only [List.length_cons] at this;omega
    have hh:on J9 c=true:=(List.all_eq_true.1 Dq) c (by simp);cases hz:decide (c::s=([48]:By)) with
    | true =>
      have hb:FZ (c::s)=true:=by
       have:=of_decide_eq_true hz;rw [this];rfl
      refine gS1 (a7N @d0 @hq @hz @hb @J1 @J2 @Tryz.results192) ?_;try exact ⟨⟩
    | false =>
      have AF2:decide (((c.toNat:Nat):Int)=48)=decide (c=48):=by
       rw [Bool.eq_iff_iff,decide_eq_true_iff,decide_eq_true_iff];constructor
       ·intro h;have:c.toNat=48:=om;exact UInt8.toNat.inj this
       ·rintro rfl;rfl
      have hb:FZ (c::s)= !decide (c=48):=by
       unfold FZ;rw [Ib,hh,Dq,Bool.true_and,Bool.true_and];cases s with
       | nil =>
         have:c≠48:=fun h=>by subst h;simp at hz
         rw [decide_eq_false this];rfl
       | cons d s=>rfl
      refine gS1 (a10N @d0 @hq @hz @h1 @T6 @AF2 @hb @J1 @J2 @Tryz.results192) ?_;try exact ⟨⟩
   ·have xF:(c::s).all (on J9)=false:=by simpa using Dq
    have hq:decide ((runs J9 (c::s) 0:Int)=((s.length+1:Nat):Int))=false:=by
     rw [decide_eq_false_iff_not];intro h;exact Dq (kJ.1 (by simp only [List.length_cons];omega))
    have hb:FZ (c::s)=false:=by unfold FZ;rw [xF];simp
    refine gS1 (a6N @d0 @hq @hb @J1 @J2 @Tryz.results192) ?_;try exact ⟨⟩
end Go.Proofs.T
namespace Go.Proofs.T
open Go Go.Ab
theorem Dr {cells r:List Value}{o n i m:Nat}(h:sub cells o n=some r) (hi:i+m<=n):sub cells (o+i) m=sub r i m:=by
 obtain ⟨h1,h2⟩:=sub_eq h;subst h2;rw [r9 om,r9 (by simp;omega)];congr 1;rw [List.drop_take,List.take_take,List.drop_drop];congr 1;omega
theorem H8 {α:Type}{l:List α}{k:Nat}(h:k<l.length):∃ a,l[k]? =some a:=⟨_,List.getElem?_eq_getElem h⟩
theorem Wh {α β:Type}{l:List α}{k:Nat}{a:α}(f:α->β) (h:l[k]? =some a):(l.map f)[k]? =some (f a):=by rw [List.getElem?_map,h];rfl
theorem SL.Lx {α:Type}{Z:St}{size:Nat}{v:Value}{l:List α}{f:α->List Value}(h:SL Z size v (l.map f)):∃ a c b off cells,v= .slice a l.length c/\(0<l.length->∃ sp,a=some ⟨b,off,sp⟩/\b<Z.n/\Z.row b=some cells)/\∀ k x,l[k]? =some x->sub cells (off+k*size) size=some (f x):=by
 obtain ⟨a,c,b,off,cells,h1,h2,h3⟩:=SL.use h;rw [List.length_map] at h1 h2;exact ⟨a,c,b,off,cells,h1,h2,fun k x hx=>h3 k _ (Wh f hx)⟩
theorem Sf.use {Z:St}{v:Value}{l:List Lot}(h:Sf Z v l):∃ a c b off cells,v= .slice a l.length c/\(0<l.length->∃ sp,a=some ⟨b,off,sp⟩/\b<Z.n/\Z.row b=some cells) /\
  ∀ k x,l[k]? =some x->sub cells (off+k*2) 2=some x.row/\sub cells (off+k*2) 1=some [.int .i64 x.id]/\sub cells (off+k*2+1) 1=some [.int .i64 x.D5]:=by
 obtain ⟨a,c,b,off,cells,h1,h2,h3⟩:=SL.Lx h;refine ⟨a,c,b,off,cells,h1,h2,fun k x hx=>?_⟩;have h:=h3 k x hx;exact ⟨h,by rw [<- Nat.add_zero (off+k*2),Dr h om];rfl,by rw [Dr h om];rfl⟩
theorem LG.use {Z:St}{v:Value}{l:List R0}(h:LG Z v l):∃ a c b off cells,v= .slice a l.length c/\(0<l.length->∃ sp,a=some ⟨b,off,sp⟩/\b<Z.n/\Z.row b=some cells) /\
  ∀ k x,l[k]? =some x->sub cells (off+k*5) 5=some x.row/\sub cells (off+k*5) 1=some [str x.name]/\sub cells (off+k*5+1) 1=some [.int .i64 x.kind]/\sub cells (off+k*5+2) 1=some [.int .i64 x.low]/\sub cells (off+k*5+3) 1=some [.int .i64 x.high]/\sub cells (off+k*5+4) 1=some [.bool x.less]:=by
 obtain ⟨a,c,b,off,cells,h1,h2,h3⟩:=SL.Lx h;refine ⟨a,c,b,off,cells,h1,h2,fun k x hx=>?_⟩;have h:=h3 k x hx;exact ⟨h,by rw [<- Nat.add_zero (off+k*5),Dr h om];rfl,by rw [Dr h om];rfl,by rw [Dr h om];rfl,by rw [Dr h om];rfl,by rw [Dr h om];rfl⟩
theorem Sg.use {Z:St}{v:Value}{l:List Req}(h:Sg Z v l):∃ a c b off cells,v= .slice a l.length c/\(0<l.length->∃ sp,a=some ⟨b,off,sp⟩/\b<Z.n/\Z.row b=some cells) /\
  ∀ k x,l[k]? =some x->sub cells (off+k*3) 3=some x.row/\sub cells (off+k*3) 1=some [str x.name]/\sub cells (off+k*3+1) 1=some [str x.rel]/\sub cells (off+k*3+2) 1=some [.int .i64 x.value]:=by
 obtain ⟨a,c,b,off,cells,h1,h2,h3⟩:=SL.Lx h;refine ⟨a,c,b,off,cells,h1,h2,fun k x hx=>?_⟩;have h:=h3 k x hx;exact ⟨h,by rw [<- Nat.add_zero (off+k*3),Dr h om];rfl,by rw [Dr h om];rfl,by rw [Dr h om];rfl⟩
theorem Ca.use {Z:St}{v:Value}{l:List Int}(h:Ca Z v l):∃ a c b off cells,v= .slice a l.length c/\(0<l.length->∃ sp,a=some ⟨b,off,sp⟩/\b<Z.n/\Z.row b=some cells) /\
  ∀ k x,l[k]? =some x->sub cells (off+k) 1=some [.int .i64 x]:=by
 obtain ⟨a,c,b,off,cells,h1,h2,h3⟩:=SL.Lx h;exact ⟨a,c,b,off,cells,h1,h2,fun k x hx=>by have:=h3 k x hx;rwa [Nat.mul_one] at this⟩
theorem cP {α β:Type}(f:α->β){l:List α}{k:Nat}{a:α}(h:l[k]? =some a):(l.take (k+1)).map f=(l.take k).map f++[f a]:=by
 rw [List.take_add_one,h];simp
structure o0 (Z Z':St):Prop where
 n:Z.n<=Z'.n
 row:∀ b cells,b<Z.n->Z.row b=some cells->Z'.row b=some cells
theorem o0.trans {Z Z' Z'':St}(h:o0 Z Z') (k:o0 Z' Z''):o0 Z Z'':=⟨Nat.le_trans h.n k.n,fun b cells hb hr=>k.row b cells (Nat.lt_of_lt_of_le hb h.n) (h.row b cells hb hr)⟩
theorem o0.Ic {Z Z':St}(h:Ext Z Z'):o0 Z Z':=⟨h.n,fun b cells hb hr=>by rw [h.row hb];exact hr⟩
theorem SL.E8 {Z Z':St}{size:Nat}{v:Value}{rows:List (List Value)}(h:SL Z size v rows) (hE:o0 Z Z'):SL Z' size v rows:=by
 rcases h with h|⟨b,off,sp,c,cells,h1,h2,h3,h4⟩
 ·exact .inl h
 ·exact .inr ⟨b,off,sp,c,cells,h1,Nat.lt_of_lt_of_le h2 hE.n,hE.row _ _ h2 h3,h4⟩
mutual
theorem Ah.E8 {Z Z':St}(hE:o0 Z Z'){row:List Value}:∀ {e:Ex},Ah Z row e->Ah Z' row e
 | .mk op n d nm args,h=>by
   obtain ⟨v,rows,h1,h2,h4,h3⟩:=h;exact ⟨v,rows,h1,SL.E8 h2 hE,h4,AM.E8 hE h3⟩
theorem AM.E8 {Z Z':St}(hE:o0 Z Z'){rows:List (List Value)}:∀ {es:List Ex},AM Z rows es->AM Z' rows es
 | [],h=>h
 | e::es,h=>by
   obtain ⟨r,rs,h1,h2,h3⟩:=h;exact ⟨r,rs,h1,Ah.E8 hE h2,AM.E8 hE h3⟩
end
noncomputable def H6 (Z:St) (l:List Nat):St:=l.foldl St.dead Z
theorem Ht {Z:St}{b:Nat}:(Z.dead b).row b=none:=by
 show ob (ob (ob ((Z.dead b).h.get b) _) _) _=none;rw [DT,if_pos rfl];rfl
theorem Cz {l:List Nat}:∀ {Z:St},(H6 Z l).n=Z.n:=by
 induction l with
 | nil=>intro Z;rfl
 | cons b l ih=>intro Z;show (H6 (Z.dead b) l).n=Z.n;rw [ih];rfl
theorem BG {l:List Nat}{c:Nat}:∀ {Z:St},c∉l->(H6 Z l).row c=Z.row c:=by
 induction l with
 | nil=>intro Z _;rfl
 | cons b l ih =>
   intro Z h;show (H6 (Z.dead b) l).row c=_;rw [ih (fun hm=>h (by simp [hm])),Gv (fun e=>h (by simp [e]))]
theorem ZT {l:List Nat}{c:Nat}:∀ {Z:St},Z.row c=none->(H6 Z l).row c=none:=by
 induction l with
 | nil=>intro Z h;exact h
 | cons b l ih =>
   intro Z h;show (H6 (Z.dead b) l).row c=_;refine ih ?_;by_cases e:c=b
   ·subst e;exact Ht
   ·rw [Gv e];exact h
theorem JZ {l:List Nat}{c:Nat}:∀ {Z:St},c∈l->(H6 Z l).row c=none:=by
 induction l with
 | nil=>intro Z h;cases h
 | cons b l ih =>
   intro Z h;show (H6 (Z.dead b) l).row c=_;rcases List.mem_cons.1 h with rfl|h
   ·exact ZT Ht
   ·exact ih h
theorem I5 {Z Z':St}{l l':List Nat}(hn:Z.n<=Z'.n) (h:∀ c,c<Z.n->c∉l->c∉l'/\Z'.row c=Z.row c):o0 (H6 Z l) (H6 Z' l'):=by
 refine ⟨by rw [Cz,Cz];exact hn,fun c cells hc hr=>?_⟩;rw [Cz] at hc;by_cases e:c∈l
 ·rw [JZ e] at hr;cases hr
 ·obtain ⟨h1,h2⟩:=h c hc e;rw [BG e] at hr;rw [BG h1,h2];exact hr
theorem DP {Z Z':St}{l:List Nat}(hE:Ext Z Z'):o0 (H6 Z l) (H6 Z' l):=I5 hE.n fun c hc h=>⟨h,hE.row hc⟩
theorem Ja {Z:St}{l:List Nat}:o0 (H6 Z l) Z:=by
 have:=I5 (Z:=Z) (Z':=Z) (l:=l) (l':=[]) (Nat.le_refl _) fun c _ _=>⟨by simp,rfl⟩
 exact this
def Lu (v:Value):List Nat:=(K8 v).toList
def Stk (H:List Nat) (lo:Nat) (Z:St) (v:Value) (n:Nat):Prop:=(v= .slice none 0 0/\n=0) \/
 ∃ b c cells,v= .slice (some ⟨b,0,some 5⟩) n c/\n<=c/\lo<=b/\b<Z.n/\Z.A5 b=some cells/\cells.length=c*5/\∀ k,k<n->∃ row e,sub cells (k*5) 5=some row/\Ah (H6 Z (b::H)) row e
section
variable {H:List Nat} {lo:Nat} {Z Z':St} {v:Value} {n k:Nat}
theorem Stk.E8 (h:Stk H lo Z v n) (hE:Ext Z Z'):Stk H lo Z' v n:=by
 rcases h with h|⟨b,c,cells,h1,h2,h3,h4,h5,h6,h7⟩
 ·exact .inl h
 ·refine .inr ⟨b,c,cells,h1,h2,h3,Nat.lt_of_lt_of_le h4 hE.n,by rw [hE.A5 h4];exact h5,h6,fun k hk=>?_⟩;obtain ⟨row,e,r1,r2⟩:=h7 k hk;exact ⟨row,e,r1,r2.E8 (DP hE)⟩
theorem Stk.shape (h:Stk H lo Z v n):∃ a c,v= .slice a n c:=by
 rcases h with ⟨rfl,rfl⟩|⟨b,c,cells,h1,-⟩
 ·exact ⟨_,_,rfl⟩
 ·exact ⟨_,_,h1⟩
theorem Stk.get (h:Stk H lo Z v n) (hk:k<n):∃ b c cells row e,v= .slice (some ⟨b,0,some 5⟩) n c/\n<=c/\lo<=b/\b<Z.n/\Z.A5 b=some cells/\sub cells (k*5) 5=some row/\Ah (H6 Z (b::H)) row e:=by
 rcases h with ⟨rfl,rfl⟩|⟨b,c,cells,h1,h2,h3,h4,h5,h6,h7⟩
 ·omega
 ·obtain ⟨row,e,r1,r2⟩:=h7 k hk;exact ⟨b,c,cells,row,e,h1,h2,h3,h4,h5,r1,r2⟩
theorem Stk.cut {b c m:Nat}(h:Stk H lo Z (.slice (some ⟨b,0,some 5⟩) n c) n) (hm:m<=n):Stk H lo Z (.slice (some ⟨b,0,some 5⟩) m c) m:=by
 rcases h with ⟨h,-⟩|⟨b',c',cells,h1,h2,h3,h4,h5,h6,h7⟩
 ·cases h
 ·cases h1;exact .inr ⟨b,c,cells,rfl,om,h3,h4,h5,h6,fun k hk=>h7 k om⟩
theorem Stk.blk {b:Nat}(h:Stk H lo Z v n) (hb:K8 v=some b):lo<=b/\b<Z.n:=by
 rcases h with ⟨rfl,rfl⟩|⟨b',c,cells,rfl,h2,h3,h4,-⟩
 ·cases hb
 ·cases hb;exact ⟨h3,h4⟩
end
structure Psh (Z Z':St) (v v':Value):Prop where
 n:Z.n<=Z'.n
 same:∀ c,c<Z.n->K8 v≠some c->Z'.h.get c=Z.h.get c
 blk:∀ b,K8 v'=some b->K8 v=some b\/Z.n<=b
theorem Psh.ext {Z0 Z Z':St}{v v':Value}{lo n:Nat}{H:List Nat}(h:Psh Z Z' v v') (hE:Ext Z0 Z) (hl:Stk H lo Z v n) (hlo:Z0.n<=lo):Ext Z0 Z' :=
 ⟨Nat.le_trans hE.n h.n,fun c hc=>by
  rw [h.same c (Nat.lt_of_lt_of_le hc hE.n) (fun hb=>by have:=(hl.blk hb).1;omega),hE.same c hc]⟩
theorem Mf {α:Type}{l new:List α}:∀ {o:Nat},o+new.length<=l.length->M3 l o new=some (l.take o++new++l.drop (o+new.length)):=by
 intro o;induction o generalizing l with
 | zero =>
   intro h;rw [Nat.zero_add] at h ⊢;have:∀ (new l:List α),new.length<=l.length->over new l=some (new++l.drop new.length):=by
    intro new;induction new with
    | nil=>intro l _;rfl
    | cons x new ih =>
      intro l h;cases l with
      | nil=>simp at h
      | cons y l =>
        rw [Pb,ih l (by simpa using h)];rfl
   rw [List.take_zero,List.nil_append,<- this new l h];cases l with
   | nil=>cases new with
     | nil=>rfl
     | cons x new=>simp at h
   | cons y l=>rfl
 | succ o ih =>
   intro h;cases l with
   | nil=>simp at h
   | cons y l =>
     rw [A1,ih (by simp at h;omega),C6];rw [show o+1+new.length=(o+new.length)+1 by omega];rfl
end Go.Proofs.T
namespace Go.Proofs.T
open Go Go.Ab
structure C5 (p:Nat) (Z Z':St):Prop where
 n:Z.n<=Z'.n
 same:∀ b,b<Z.n->b≠p->Z'.h.get b=Z.h.get b
section
variable {p:Nat} {Z Z' Z'':St}
theorem C5.refl:C5 p Z Z:=⟨Nat.le_refl _,fun _ _ _=>rfl⟩
theorem C5.of (h:Ext Z Z'):C5 p Z Z':=⟨h.n,fun b hb _=>h.same b hb⟩
theorem C5.trans (h:C5 p Z Z') (k:C5 p Z' Z''):C5 p Z Z'':=⟨Nat.le_trans h.n k.n,fun b hb hne=>by rw [k.same b (Nat.lt_of_lt_of_le hb h.n) hne,h.same b hb hne]⟩
theorem C5.upd (h:C5 p Z Z') (cs:List Value):C5 p Z (Z'.upd p cs):=⟨h.n,fun b hb hne=>by rw [J8,if_neg hne,h.same b hb hne]⟩
theorem C5.ext {Z0:St}(h:C5 p Z Z') (h0:Ext Z0 Z) (hp:Z0.n<=p):Ext Z0 Z':=⟨Nat.le_trans h0.n h.n,fun b hb=>by rw [h.same b (Nat.lt_of_lt_of_le hb h0.n) om,h0.same b hb]⟩
theorem C5.E8 (h:C5 p Z Z'):o0 (H6 Z [p]) (H6 Z' [p]):=I5 h.n fun c hc hm=>⟨hm,O4 (h.same c hc (by simpa using hm))⟩
theorem C5.row {b:Nat}(h:C5 p Z Z') (hb:b<Z.n) (hne:b≠p):Z'.row b=Z.row b:=O4 (h.same b hb hne)
theorem C5.A5 {b:Nat}(h:C5 p Z Z') (hb:b<Z.n) (hne:b≠p):Z'.A5 b=Z.A5 b:=A6 (h.same b hb hne)
theorem C5.app {v v':Value}{lo size:Nat}{rows:List (List Value)}(h:App Z' Z'' v v') (hE:C5 p Z Z') (hl:OL lo Z' size v rows) (hlo:Z.n<=lo):C5 p Z Z'' :=
 ⟨Nat.le_trans hE.n h.n,fun c hc hne=>by
  rw [h.same c (Nat.lt_of_lt_of_le hc hE.n) (fun hb=>by have:=(hl.blk hb).1;omega),hE.same c hc hne]⟩
end
def SLs (Z:St) (size:Nat) (v:Value) (rows:List (List Value)):Prop:=(∀ r∈rows,r.length=size) /\
 ((v= .slice none 0 0/\rows=[])\/∃ b off sp c cells,v= .slice (some ⟨b,off,sp⟩) rows.length c/\b<Z.n/\Z.row b=some cells/\sub cells off (rows.length*size)=some rows.flatten)
theorem SLs.nil {Z:St}{size:Nat}:SLs Z size (.slice none 0 0) []:=⟨fun r h=>by simp at h,.inl ⟨rfl,rfl⟩⟩
theorem SLs.sl {Z:St}{size:Nat}{v:Value}{rows:List (List Value)}(h:SLs Z size v rows):SL Z size v rows:=by
 obtain ⟨hr,h|⟨b,off,sp,c,cells,h1,h2,h3,h4⟩⟩:=h
 ·exact .inl h
 ·refine .inr ⟨b,off,sp,c,cells,h1,h2,h3,fun k r hk=>?_⟩;have hlt:=(List.getElem?_eq_some_iff.1 hk).1;have hmul:k*size+size<=rows.length*size:=by
   have:(k+1)*size<=rows.length*size:=Nat.mul_le_mul_right size hlt;rw [Nat.succ_mul] at this;exact this
  rw [Dr h4 hmul,<- Nat.add_zero (k*size),NG hr hk om];have:=hr r (List.mem_of_getElem? hk);exact D6 om om
theorem SLs.E8 {Z Z':St}{size:Nat}{v:Value}{rows:List (List Value)}(h:SLs Z size v rows) (hE:o0 Z Z'):SLs Z' size v rows:=by
 obtain ⟨hr,h|⟨b,off,sp,c,cells,h1,h2,h3,h4⟩⟩:=h
 ·exact ⟨hr,.inl h⟩
 ·exact ⟨hr,.inr ⟨b,off,sp,c,cells,h1,Nat.lt_of_lt_of_le h2 hE.n,hE.row _ _ h2 h3,h4⟩⟩
theorem SLs.src {Z:St}{size:Nat}{v:Value}{rows:List (List Value)}(h:SLs Z size v rows):Y7 Z size v=some (rows.length,rows.flatten):=by
 obtain ⟨hr,⟨rfl,rfl⟩|⟨b,off,sp,c,cells,rfl,h2,h3,h4⟩⟩:=h
 ·rfl
 ·rw [Ka,y0,h3,C6,h4,C6]
theorem SLs.shape {Z:St}{size:Nat}{v:Value}{rows:List (List Value)}(h:SLs Z size v rows):∃ a c,v= .slice a rows.length c:=by
 obtain ⟨hr,⟨rfl,rfl⟩|⟨b,off,sp,c,cells,rfl,-⟩⟩:=h
 ·exact ⟨_,_,rfl⟩
 ·exact ⟨_,_,rfl⟩
theorem OL.H6 {lo:Nat}{Z:St}{size:Nat}{v:Value}{rows:List (List Value)}{H:List Nat}(h:OL lo Z size v rows) (hH:∀ q∈H,q<lo):SLs (H6 Z H) size v rows:=by
 obtain ⟨hr,⟨rfl,rfl⟩|⟨b,sp,rfl,hs,h1,h2,h3⟩⟩:=h
 ·exact .nil
 ·have:=BX rows hr;exact ⟨hr,.inr ⟨b,0,sp,_,_,rfl,by rw [Cz];exact h2,by rw [BG fun hm=>by have:=hH b hm;omega];exact A8 h3,D6 om om⟩⟩
theorem OL.shape {lo:Nat}{Z:St}{size:Nat}{v:Value}{rows:List (List Value)}(h:OL lo Z size v rows):∃ a,v= .slice a rows.length rows.length:=by
 obtain ⟨hr,⟨rfl,rfl⟩|⟨b,sp,rfl,-⟩⟩:=h
 ·exact ⟨_,rfl⟩
 ·exact ⟨_,rfl⟩
theorem OL.lower {lo lo':Nat}{Z:St}{size:Nat}{v:Value}{rows:List (List Value)}(h:OL lo Z size v rows) (hl:lo'<=lo):OL lo' Z size v rows:=by
 obtain ⟨hr,h|⟨b,sp,h1,h2,h3,h4,h5⟩⟩:=h
 ·exact ⟨hr,.inl h⟩
 ·exact ⟨hr,.inr ⟨b,sp,h1,h2,Nat.le_trans hl h3,h4,h5⟩⟩
theorem OL.R8 {p lo:Nat}{Z Z':St}{size:Nat}{v:Value}{rows:List (List Value)}(h:OL lo Z size v rows) (hE:C5 p Z Z') (hp:p<lo):OL lo Z' size v rows:=by
 refine h.E8 hE.n fun b hb=>?_;have:=h.blk hb;exact hE.same b this.2 om
def TnX (Z:St) (cells:List Value) (T:Tn):Prop :=
 ∃ vl vc vr ex vt vk vs,cells=T3 T.name vl vc vr T.low T.high ex vt T.D5 vk T.C1 T.t/\SLs Z 2 vl (T.D2.map Lot.row)/\SLs Z 5 vc (T.C7.map R0.row)/\SLs Z 3 vr (T.reqs.map Req.row)/\Ah Z ex T.f /\
  SLs Z 1 vt (T.E9.map fun s=>[str s])/\SLs Z 1 vk (vs.map fun x=>[x])/\CB (Ca Z) vs T.C3
theorem TnX.tn {Z:St}{cells:List Value}{T:Tn}(h:TnX Z cells T):Ar Z cells T:=by
 obtain ⟨vl,vc,vr,ex,vt,vk,vs,h1,h2,h3,h4,h5,h6,h7,h8⟩:=h;exact ⟨vl,vc,vr,ex,vt,vk,h1,h2.sl,h3.sl,h4.sl,h5,h6.sl,vs,h7.sl,h8⟩
theorem TnX.E8 {Z Z':St}{cells:List Value}{T:Tn}(h:TnX Z cells T) (hE:o0 Z Z'):TnX Z' cells T:=by
 obtain ⟨vl,vc,vr,ex,vt,vk,vs,h1,h2,h3,h4,h5,h6,h7,h8⟩:=h;exact ⟨vl,vc,vr,ex,vt,vk,vs,h1,h2.E8 hE,h3.E8 hE,h4.E8 hE,h5.E8 hE,h6.E8 hE,h7.E8 hE,h8.mono fun _ _ h=>SL.E8 h hE⟩
def Tn.Le (n:Nat) (T:Tn):Prop:=T.D2.length<=n/\T.C7.length<=n/\T.reqs.length<=n/\T.E9.length<=n/\T.C3.length<=n
theorem Fi {P:Program}{te:TypeId}{Z:St}{t size by' b:Nat}{v:Value}{rows:List (List Value)}{Q:Value×St->Prop}{uq:Hd Q}
  (hap:∀ (b:Option Addr) (len cap:Nat) (w:Value),BN P Z t (.slice b len cap) w=ob (Y7 Z size w) fun p=>pr p fun n new=>bi (Nat.ble (len+n) cap) (BF Z size b len cap n new) (bb (Nat.ble ((len+n)*by') room) (AR te Z size b len n new)))
  (hb:Z.A5 b=some []) (hbn:b<Z.n) (hl:SLs Z size v rows) (hlen:rows.length*by'<=4294967296)
  (h:∀ v' Z',OL b Z' size v' rows->C5 b Z Z'->Q (v',Z')):Ev (BN P Z t (.slice (some ⟨b,0,none⟩) 0 0) v) Q uq:=by
 have hfl:=BX rows hl.1;rw [hap,hl.src,C6,Hu,Nat.zero_add];by_cases h0:rows.length=0
 ·obtain rfl:rows=[]:=List.eq_nil_of_length_eq_zero h0;rw [show Nat.ble ([]:List (List Value)).length 0=true from rfl,I8,kO,Jb,hb,C6];rw [show M3 ([]:List Value) (0+0*size) ([]:List (List Value)).flatten=some [] from by rw [Nat.zero_mul];rfl,C6,C6,K4];exact h _ _ ⟨fun r h=>by simp at h,.inr ⟨b,none,rfl,.inl rfl,Nat.le_refl _,hbn,C8⟩⟩ ⟨Nat.le_refl _,fun c hc hne=>by rw [J8,if_neg hne]⟩
 ·have Cc:Nat.ble (rows.length*by') room=true:=EL hlen;rw [Ie om,o9,Cc,j0,NH,y0,A8 hb,C6,Nat.zero_mul];rw [show sub ([]:List Value) 0 0=some [] from rfl,C6,K4,Nat.zero_add,List.nil_append];refine h _ _ ⟨hl.1,.inr ⟨Z.n,some size,rfl,.inr rfl,Nat.le_of_lt hbn,by simp,K5 (Nat.le_refl _) (Nat.le_refl _)⟩⟩ ⟨by simp,fun c hc _=>by rw [M7,if_neg om]⟩
end Go.Proofs.T
namespace Go.Proofs.T
open Go Go.Ab
open Nat (reduceMul reduceEqDiff reduceAdd)
abbrev Tok:=By×Nat
def Ch (t:Tok):List Value:=[str t.1,.int .i64 (t.2:Nat)]
structure Sc (Z:St) (b:Nat) (v:Value) (toks:List Tok) (k:Nat) (rest:List Value):Prop where
 row:Z.A5 b=some (v:: .int .i64 (k:Nat)::rest)
 lt:b<Z.n
 sl:SL Z 2 v (toks.map Ch)
 ne:K8 v≠some b
 k:k<toks.length
 len:toks.length<4611686018427387904
def ptr (b:Nat):Value:= .pointer (some ⟨b,0,none⟩)
theorem Sc.ext {Z Z':St}{b:Nat}{v:Value}{toks:List Tok}{k:Nat}{rest:List Value}(h:Sc Z b v toks k rest) (hE:Ext Z Z'):Sc Z' b v toks k rest :=
 ⟨by rw [A6 (hE.same b h.lt)];exact h.row,Nat.lt_of_lt_of_le h.lt hE.n,h.sl.mono hE,h.ne,h.k,h.len⟩
theorem SL.iO {p:Nat}{Z Z':St}{size:Nat}{v:Value}{rows:List (List Value)}(h:SL Z size v rows) (hE:C5 p Z Z') (hp:K8 v≠some p):SL Z' size v rows:=by
 rcases h with h|⟨b,off,sp,c,cells,rfl,h2,h3,h4⟩
 ·exact .inl h
 ·exact .inr ⟨b,off,sp,c,cells,rfl,Nat.lt_of_lt_of_le h2 hE.n,by rw [hE.row h2 (fun he=>hp (by rw [<- he];rfl))];exact h3,h4⟩
theorem Sc.W7 {Z Z':St}{b:Nat}{v:Value}{toks:List Tok}{k k':Nat}{rest rest':List Value}(h:Sc Z b v toks k rest) (hE:C5 b Z Z') (hr:Z'.A5 b=some (v:: .int .i64 (k':Nat)::rest')) (hk:k'<toks.length):Sc Z' b v toks k' rest' :=
 ⟨hr,Nat.lt_of_lt_of_le h.lt hE.n,SL.iO h.sl hE h.ne,h.ne,hk,h.len⟩
theorem C5.BJ {p:Nat}{Z Z':St}{c:Nat}(h:C5 p Z Z') (hc:Z.n<=c) (cs:List Value):C5 p Z (Z'.upd c cs):=⟨h.n,fun b hb hne=>by rw [J8,if_neg om,h.same b hb hne]⟩
theorem C5.KZ {p:Nat}{Z Z':St}{t:Option TypeId}(h:C5 p Z Z') (cs:List Value):C5 p Z (Z'.new cs t):=h.trans (.of (.new _ _))
theorem eXX {q:Prop}(h:q:=by (repeat' (first|assumption|exact C5.refl|exact C5.of (by assumption)|refine C5.KZ ?_ _|refine C5.upd ?_ _|refine C5.BJ ?_ (by (try simp only [Wu]) <;> omega) _))):q:=h
theorem T7 {Z:St}{b:Nat}{v:Value}{toks:List Tok}{k:Nat}{rest:List Value}(h:Sc Z b v toks k rest){t:Tok}(ht:toks[k]? =some t) :
  Ev (go Tryz.prog HS (.fn 73) [ptr b] Z) (fun r=>∃ Z',r=⟨false,.agg ⟨[str t.1,.int .i64 (t.2:Nat)]⟩,Z'⟩/\Ext Z Z') ⟨⟩:=by
 obtain ⟨h1,h2,h3,h4,h5,h6⟩:=h;obtain ⟨a,c,b2,off,cells,rfl,k1,k2⟩:=h3.use;rw [List.length_map] at *;obtain ⟨sp,rfl,k3,k4⟩:=k1 om;have hr:=A8 h1;have hk:sub cells (off+k*2) 2=some [str t.1,.int .i64 (t.2:Nat)]:=k2 k (Ch t) (by rw [List.getElem?_map,ht];rfl);have hlt:decide (k<toks.length)=true:=O9 h5;refine D7 Tryz.func73 rfl rfl ?_;unfold ptr;refine gS1 (a4N @hr @k4 @hk @hlt) ?_;refine H3.intro (by (repeat first|simp (disch:=omega) only [B9,C9,C0]|rw [D0 (by kernel_rfl)]);first|done|rfl) ?_;refine gS1 @Tryz.results73 ?_;exact ⟨_,rfl,eX⟩
theorem W8 {Z:St}{b:Nat}{v:Value}{toks:List Tok}{k:Nat}{rest:List Value}(h:Sc Z b v toks k rest){t:Tok}(ht:toks[k]? =some t) :
  Ev (go Tryz.prog HS (.fn 75) [ptr b] Z) (fun r=>∃ Z',r=⟨false,.agg ⟨[str t.1,.int .i64 (t.2:Nat)]⟩,Z'⟩/\C5 b Z Z'/\Z'.A5 b=some (v:: .int .i64 (k+1:Nat)::rest)) ⟨⟩:=by
 have hk:=h.k;have hl:=h.len;have hlt:=h.lt;refine D7 Tryz.func75 rfl rfl ?_;refine gS ?_;have hx:Sc (Z.new [str [],.int .i64 0] (some 138)) b v toks k rest:=h.ext (.new _ _);refine (T7 hx ht).mono ?_;rintro r ⟨Z2,rfl,hE2⟩;have hE:Ext Z Z2:=(Ext.new _ _).trans hE2;have h2:=h.ext hE;have ro:=h2.row;have rr:=A8 ro;have r1:Z2.A5 Z.n=some [str [],.int .i64 0]:=by rw [A6 (hE2.same Z.n (by simp))];exact cL
 have hn2:Z.n<Z2.n:=by have:=hE2.n;simp at this;omega
 have e1:((k:Nat):Int)+1=((k+1:Nat):Int):=om;have hbn:b≠Z.n:=om;unfold ptr;refine gS1 (a5N @rr @ro @r1 @e1 @Tryz.results75) ?_;exact ⟨_,rfl,eXX,cL⟩
def fault (at':Nat) (e:Int):Value:= .iface 86 (.agg ⟨[.int .i64 (at':Nat),.int .i64 e]⟩)
theorem oH {Z:St}{b:Nat}{v:Value}{toks:List Tok}{k:Nat}{rest:List Value}(h:Sc Z b v toks k rest){t:Tok}(ht:toks[k]? =some t){e:Int} :
  Ev (go Tryz.prog HS (.fn 130) [ptr b,.int .i64 e] Z) (fun r=>∃ Z',r=⟨true,fault t.2 e,Z'⟩/\Ext Z Z') ⟨⟩:=by
 refine D7 Tryz.func130 rfl rfl ?_;refine gS ?_;refine (T7 h ht).mono ?_;rintro r ⟨Z2,rfl,hE2⟩;refine gS1 @eF ?_;exact ⟨_,rfl,hE2⟩
theorem K6 {Z:St}{b:Nat}{v:Value}{toks:List Tok}{k:Nat}{rest:List Value}(h:Sc Z b v toks k rest){t:Tok}(ht:toks[k]? =some t){e:Int}{ok:Bool} :
  Ev (go Tryz.prog HS (.fn 74) [ptr b,.bool ok,.int .i64 e] Z) (fun r=>(ok=true/\r=⟨false,.tuple ⟨[]⟩,Z⟩)\/(ok=false/\∃ Z',r=⟨true,fault t.2 e,Z'⟩/\Ext Z Z')) ⟨⟩:=by
 refine D7 Tryz.func74 rfl rfl ?_;cases ok with
 | true =>
   refine gS1 @Tryz.results74 ?_;exact .inl ⟨True.intro,True.intro⟩
 | false =>
   refine gS ?_;refine (oH h ht).mono ?_;rintro r ⟨Z2,rfl,hE2⟩;refine gS ?_;exact .inr ⟨True.intro,_,rfl,hE2⟩
def I3 (c:UInt8):By->List By
 | []=>[[]]
 | x::s=>if x=c then []::I3 c s else match I3 c s with
   | h::t=>(x::h)::t
   | []=>[[x]]
theorem KO (c:UInt8):∀ s:By,I3 c s≠[]
 | []=>by simp [I3]
 | x::s=>by
   unfold I3;split
   ·simp
   ·split <;> simp
theorem HO (c:UInt8):∀ s:By,(CA c s= -1/\I3 c s=[s])\/∃ m:Nat,CA c s=m/\m<s.length/\I3 c s=s.take m::I3 c (s.drop (m+1))
 | []=> .inl ⟨rfl,rfl⟩
 | x::s=>by
   have hx:CA c (x::s)=bi (x==c) 0 (bi (ilt (CA c s) 0) (-1) (CA c s+1)):=by rw [<- KP];rfl
   by_cases h:x=c
   ·right;subst h;refine ⟨0,by rw [hx];simp,by simp,?_⟩;show (if x=x then []::I3 x s else _)=_;rw [if_pos rfl];rfl
   ·have hb:(x==c)=false:=by simpa using h
    have hs:I3 c (x::s)=match I3 c s with|h::t=>(x::h)::t|[]=>[[x]]:=by
     show (if x=c then []::I3 c s else _)=_;rw [if_neg h]
    rcases HO c s with ⟨h1,h2⟩|⟨m,h1,h2,h3⟩
    ·left;exact ⟨by rw [hx,hb,h1];rfl,by rw [hs,h2]⟩
    ·right;refine ⟨m+1,?_,by simpa using h2,by rw [hs,h3];rfl⟩;rw [hx,hb,h1,Gf,decide_eq_false om];rfl
theorem EK (c:UInt8):∀ s:By,(I3 c s).length=Dg c s+1
 | []=>rfl
 | x::s=>by
   have hx:Dg c (x::s)=bi (x==c) (Dg c s+1) (Dg c s):=by rw [<- KP];rfl
   have ih:=EK c s;unfold I3;by_cases h:x=c
   ·rw [if_pos h,hx,show (x==c)=true by simpa using h];simp [ih]
   ·rw [if_neg h,hx,show (x==c)=false by simpa using h];cases hs:I3 c s with
    | nil=>exact absurd hs (KO c s)
    | cons a t=>rw [hs] at ih;simpa using ih
theorem JJ (c:UInt8):∀ s:By,Dg c s<=s.length
 | []=>Nat.le_refl _
 | x::s=>by
   have hx:Dg c (x::s)=bi (x==c) (Dg c s+1) (Dg c s):=by rw [<- KP];rfl
   have:=JJ c s;rw [hx];cases x==c
   ·show Dg c s<=_;simp;omega
   ·show Dg c s+1<=_;simp;omega
theorem XV {c:UInt8}:VG ((c.toNat:Nat):Int)=c:=by
 show UInt8.ofNat c.toNat=c;simp
theorem d10:decide (((1:Nat):Int)=0)=false:=rfl
theorem d11:decide (((1:Nat):Int)=1)=true:=rfl
theorem AD8 {Z:St}{s:By}{c:UInt8}{Q:CR->Prop}{uq:Hd Q}:Ev (go Tryz.prog HS (.fn 231) [str s,.int .u8 (c.toNat:Nat)] Z) Q uq=Q ⟨false,.int .i64 (CA c s),Z⟩:=by
 show Ev (some ⟨false,.int .i64 (CA (VG ((c.toNat:Nat):Int)) s),Z⟩) Q _=_;rw [K4,XV]
theorem AD9 {Z:St}{s:By}{c:UInt8}{Q:CR->Prop}{uq:Hd Q}:Ev (go Tryz.prog HS (.fn 201) [str s,.int .u8 (c.toNat:Nat)] Z) Q uq=Q ⟨false,.int .i64 (Dg c s:Nat),Z⟩:=by
 show Ev (some ⟨false,.int .i64 (Dg (VG ((c.toNat:Nat):Int)) s:Nat),Z⟩) Q _=_;rw [K4,XV]
theorem JK {Z:St}{s:By}{c:UInt8}:Ev (go Tryz.prog HS (.fn 218) [str s,.int .u8 (c.toNat:Nat)] Z) (fun r=>r=⟨false,.int .i64 (CA c s),Z⟩) ⟨⟩:=by
 refine D7 Tryz.func218 rfl rfl ?_;refine gS1 (aI @AD8 @Tryz.results218) ?_;try exact ⟨⟩
theorem Hn {Z:St}{s:By}{c:UInt8}:Ev (go Tryz.prog HS (.fn 202) [str s,str [c]] Z) (fun r=>r=⟨false,.int .i64 (CA c s),Z⟩) ⟨⟩:=by
 refine D7 Tryz.func202 rfl rfl ?_;have h1:sub [c] 0 1=some [c]:=rfl;cases hd:decide ([c]=s) with
 | true =>
   obtain rfl:=of_decide_eq_true hd;have h0:CA c [c]=0:=by show bi (Nat.beq c.toNat c.toNat) 0 _=0;rw [Nat.beq_refl];rfl
   refine gS1 (a9N @h1 @T6 @J1 @J2 @d10 @d11 @hd @h0 @Tryz.results202) ?_;try exact ⟨⟩
 | false =>
   refine gS1 (a7N @h1 @T6 @J1 @J2 @d10 @d11 @hd) ?_;refine JK.mono ?_;rintro r rfl;refine gS1 @Tryz.results202 ?_;try exact ⟨⟩
theorem SV {Z:St}{s:By}{c:UInt8}:Ev (go Tryz.prog HS (.fn 169) [str s,str [c]] Z) (fun r=>r=⟨false,.int .i64 (CA c s),Z⟩) ⟨⟩:=by
 refine D7 Tryz.func169 rfl rfl ?_;refine gS ?_;refine Hn.mono ?_;rintro r rfl;refine gS1 @Tryz.results169 ?_;try exact ⟨⟩
theorem cO {Z:St}{s:By}{c:UInt8}:Ev (go Tryz.prog HS (.fn 168) [str s,str [c]] Z) (fun r=>r=⟨false,.int .i64 (Dg c s:Nat),Z⟩) ⟨⟩:=by
 refine D7 Tryz.func168 rfl rfl ?_;have h1:sub [c] 0 1=some [c]:=rfl;refine gS1 (a6N @h1 @T6 @AD9 @d10 @d11 @Tryz.results168) ?_;try exact ⟨⟩
theorem XW:∀ n:Nat,Ab.rep [str []] n=List.replicate n (str [])
 | 0=>rfl
 | n+1=>by show [str []]++Ab.rep [str []] n=_;rw [XW n];rfl
def cut (l:List By) (n i:Nat):List Value:=(l.take i).map str++List.replicate (n-i) (str [])
theorem XX {l:List By}{n i:Nat}{x:By}(hn:l.length=n) (hx:l[i]? =some x):M3 (cut l n i) i [str x]=some (cut l n (i+1)):=by
 have hi:i<l.length:=(List.getElem?_eq_some_iff.1 hx).1;rw [Mf (by simp [cut];omega)];have h1:((l.take i).map str).length=i:=by simp;omega
 congr 1;unfold cut;rw [List.take_append_of_le_length om,List.take_of_length_le om,List.drop_append,List.drop_of_length_le (by simp;omega),List.nil_append,h1,cP str hx];simp only [List.append_assoc,List.length_singleton,List.singleton_append,List.drop_replicate];congr 3;omega
theorem jl {l:List By}{n:Nat}(hn:l.length=n):cut l n n=l.map str:=by
 unfold cut;rw [List.take_of_length_le om,Nat.sub_self];simp
theorem jm {Z:St}{b c:Nat}{sp:Option Nat}{l:List By}(hb:b<Z.n) (hr:Z.row b=some (l.map str)):Dh Z (.slice (some ⟨b,0,sp⟩) l.length c) l:=by
 refine .inr ⟨b,0,sp,c,l.map str,by simp,hb,hr,fun k r hk=>?_⟩;rw [List.getElem?_map] at hk;cases hx:l[k]? with
 | none=>rw [hx] at hk;cases hk
 | some x =>
   rw [hx] at hk;cases hk;rw [Nat.zero_add,Nat.mul_one];exact CF (by rw [List.getElem?_map,hx];rfl)
theorem SW {Z:St}{s:By}{c:UInt8}(hs:s.length<100000000) :
  Ev (go Tryz.prog HS (.fn 129) [str s,str [c],.int .i64 0,.int .i64 (-1)] Z) (fun r=>∃ v Z',r=⟨false,v,Z'⟩/\Dh Z' v (I3 c s)/\Ext Z Z'/\K8 v=some Z.n) ⟨⟩:=by
 refine D7 Tryz.func129 rfl rfl ?_;have hle:=JJ c s;have hlen:=EK c s;have dm:decide ((-1:Int)=0)=false:=rfl;have dn:decide (([c]:By)=[])=false:=rfl;have dl:decide ((-1:Int)<0)=true:=rfl;refine gS1 (a3N @dm @dn @dl) ?_;refine cO.mono ?_;rintro r rfl;have e1:((Dg c s:Nat):Int)+1=((Dg c s+1:Nat):Int):=om;have e2:((s.length:Nat):Int)+1=((s.length+1:Nat):Int):=om;have e3:min ((Dg c s+1:Nat):Int) ((s.length+1:Nat):Int)=((Dg c s+1:Nat):Int):=om;have e4:((Dg c s+1:Nat):Int)-1=((Dg c s:Nat):Int):=om;refine gS1 (a4N @e1 @e2 @e3 @e4) ?_;generalize hl:I3 c s=l at *;generalize hn:Dg c s=n at *;have hc0:str []::Ab.rep [str []] n=cut l (n+1) 0:=by
  show _=[]++List.replicate (n+1) (str []);rw [XW];rfl
 rw [hc0]
 refine L8 n (fun i fr Z'=>fr.get 3=some (.int .i64 (n:Nat))/\fr.get 10=some (.int .i64 (i:Nat))/\fr.get 1=some (str [c])/\fr.get 2=some (.int .i64 0)/\fr.get 9=some (.slice (some ⟨Z.n,0,none⟩) (n+1) (n+1)) /\
   Z'.A5 Z.n=some (cut l (n+1) i)/\Ext Z Z'/\Z.n<Z'.n/\∃ rem:By,fr.get 0=some (str rem)/\I3 c rem=l.drop i/\rem.length<=s.length)
  (fun r=>∃ fr Z' rem,r=⟨.exit 0,fr,Z'⟩/\fr.get 10=some (.int .i64 (n:Nat))/\fr.get 9=some (.slice (some ⟨Z.n,0,none⟩) (n+1) (n+1))/\Z'.A5 Z.n=some (cut l (n+1) n)/\Ext Z Z'/\Z.n<Z'.n/\fr.get 0=some (str rem)/\[rem]=l.drop n) ?_ ?_ ?_ ?_
 ·exact ⟨fR,fR,fR,fR,fR,cL,eX,by simp,s,fR,hl,Nat.le_refl _⟩
 ·rintro i fr Z' hi ⟨g3,g10,g1,g2,g9,ho,hE,hlt,rem,g0,Yv,hrl⟩;have ed:decide (((i:Nat):Int)<((n:Nat):Int))=true:=by rw [decide_eq_true_iff];omega
  refine gS1 (a7N @g3 @g10 @g1 @g2 @g9 @g0 @ed) ?_;refine SV.mono ?_;rintro r rfl;rcases HO c rem with ⟨_,h2⟩|⟨m,h1,h2,h3⟩
  ·exfalso;have:=congrArg List.length h2;rw [Yv,List.length_drop,hlen] at this;simp at this;omega
  rw [Yv] at h3;have hx:l[i]? =some (rem.take m):=by
   have:=congrArg (fun l:List By=>l[0]?) h3
   simpa using this
  have hd:I3 c (rem.drop (m+1))=l.drop (i+1):=by
   have:=congrArg (List.drop 1) h3
   simpa [List.drop_drop,Nat.add_comm] using this.symm
  rw [h1];have em:decide ((m:Int)<0)=false:=by rw [decide_eq_false_iff_not];omega
  have e5:(m:Int)+0=(m:Int):=om;have e6:(m:Int)+((1:Nat):Int)=((m+1:Nat):Int):=om;have b1:decide (i<n+1)=true:=decide_eq_true om;have s1:sub rem 0 (m-0)=some (rem.take m):=by rw [r9 om];simp
  have s2:sub rem (m+1) (rem.length-(m+1))=some (rem.drop (m+1)):=by rw [r9 om,List.take_of_length_le (by simp)]
  have e7:((i:Nat):Int)+1=((i+1:Nat):Int):=om;have Hi:=XX (n:=n+1) hlen hx;have k1:Nat.ble m rem.length=true:=EL om;have k2:Nat.ble 0 m=true:=EL om;have k3:Nat.ble (m+1) rem.length=true:=EL om;refine gS1 (a18N @g3 @g10 @g1 @g2 @g9 @g0 @em @e5 @e6 @b1 @s1 @s2 @e7 @ho @Hi @k1 @k2 @k3) ?_;exact ⟨fR1 g3,fR,fR1 g1,fR1 g2,fR1 g9,cL,eX,cL,rem.drop (m+1),fR,hd,by rw [List.length_drop];omega⟩
 ·rintro fr Z' ⟨g3,g10,g1,g2,g9,ho,hE,hlt,rem,g0,Yv,hrl⟩;have ed:decide (((n:Nat):Int)<((n:Nat):Int))=false:=by simp
  refine gS1 (a3N @g3 @g10 @ed) ?_;refine ⟨_,_,rem,rfl,fR1 g10,fR1 g9,ho,hE,hlt,fR1 g0,?_⟩;have h1:(l.drop n).length=1:=by rw [List.length_drop,hlen];omega
  rw [<- Yv] at h1 ⊢;rcases HO c rem with ⟨_,h2⟩|⟨m,_,_,h3⟩
  ·exact h2.symm
  ·rw [h3] at h1;simp at h1;exact absurd (List.length_eq_zero_iff.1 (by simpa using h1)) (KO c _)
 rintro r ⟨fr,Z',rem,rfl,g10,g9,ho,hE,hlt,g0,Yv⟩;have hx:l[n]? =some rem:=by
  have:=congrArg (fun l:List By=>l[0]?) Yv
  simpa using this.symm
 have Hi:=XX (n:=n+1) hlen hx;have b1:decide (n<n+1)=true:=decide_eq_true om;have e7:((n:Nat):Int)+1=((n+1:Nat):Int):=om;have k2:Nat.ble (n+1) (n+1)=true:=EL om;refine gS1 (a9N @g10 @g9 @g0 @b1 @ho @Hi @e7 @k2 @Tryz.results129) ?_;rw [jl hlen,Nat.sub_zero,<- hlen];exact ⟨_,_,rfl,jm hlt (cL),eX,rfl⟩
theorem SX {Z:St}{s:By}{c:UInt8}(hs:s.length<100000000) :
  Ev (go Tryz.prog HS (.fn 71) [str s,str [c]] Z) (fun r=>∃ v Z',r=⟨false,v,Z'⟩/\Dh Z' v (I3 c s)/\Ext Z Z'/\K8 v=some Z.n) ⟨⟩:=by
 refine D7 Tryz.func71 rfl rfl ?_;refine gS ?_;refine (SW hs).mono ?_;rintro r ⟨v,Z',rfl,h1,h2,h3⟩;refine gS1 @Tryz.results71 ?_;exact ⟨v,_,rfl,h1,h2,h3⟩
def AE:List By->Nat->List Tok
 | [],_=>[]
 | w::ws,k=>(if w=[] then [] else [(w,k)])++AE ws (k+w.length+1)
def lens:List By->Nat
 | []=>0
 | w::ws=>w.length+1+lens ws
def C4 (s:By) (k:Nat):List Tok:=AE (I3 32 s) k++[([],k+s.length)]
theorem QT {l:List By}{i:Nat}{w:By}(h:l[i]? =some w):lens (l.take (i+1))=lens (l.take i)+w.length+1:=by
 induction l generalizing i with
 | nil=>simp at h
 | cons a l ih =>
   cases i with
   | zero=>simp at h;subst h;simp [lens]
   | succ i =>
     have:=ih (i:=i) (by simpa using h);simp only [List.take_succ_cons,lens,this];omega
theorem XT {l:List By}{i k:Nat}{w:By}(h:l[i]? =some w):AE (l.take (i+1)) k=AE (l.take i) k++(if w=[] then [] else [(w,k+lens (l.take i))]):=by
 induction l generalizing i k with
 | nil=>simp at h
 | cons a l ih =>
   cases i with
   | zero=>simp at h;subst h;simp [AE,lens]
   | succ i =>
     have:=ih (i:=i) (k:=k+a.length+1) (by simpa using h);simp only [List.take_succ_cons,AE,this,lens,List.append_assoc];congr 4;rw [show k+a.length+1+lens (List.take i l)=k+(a.length+1+lens (List.take i l)) by omega]
theorem GP (c:UInt8):∀ s:By,lens (I3 c s)=s.length+1
 | []=>rfl
 | x::s=>by
   have ih:=GP c s;unfold I3;by_cases h:x=c
   ·rw [if_pos h];simp [lens,ih];omega
   ·rw [if_neg h];cases hs:I3 c s with
    | nil=>exact absurd hs (KO c s)
    | cons a t=>rw [hs] at ih;simp [lens] at ih ⊢;omega
theorem Yj (l:List By) (i:Nat):lens (l.take i)<=lens l:=by
 induction l generalizing i with
 | nil=>simp [lens]
 | cons a l ih =>
   cases i with
   | zero=>simp [lens]
   | succ i=>have:=ih i;simp [lens];omega
theorem Ky (l:List By) (k:Nat):(AE l k).length<=l.length:=by
 induction l generalizing k with
 | nil=>simp [AE]
 | cons a l ih =>
   have:=ih (k+a.length+1);simp only [AE,List.length_append,List.length_cons];split
   ·simp;omega
   ·simp;omega
theorem bV {Z:St}{s:By}{k:Nat}(hs:s.length<10000000) (hk:k<10000000) :
  Ev (go Tryz.prog HS (.fn 72) [str s,.int .i64 (k:Nat)] Z) (fun r=>∃ v Z',r=⟨false,v,Z'⟩/\OL Z.n Z' 2 v ((C4 s k).map Ch)/\Ext Z Z') ⟨⟩:=by
 refine D7 Tryz.func72 rfl rfl ?_;refine gS ?_;refine (SX om).mono ?_;rintro r ⟨v,Z1,rfl,hv,hE1,hb1⟩;have AK4:=GP 32 s;have hlen:=EK 32 s;have hcl:=JJ 32 s;unfold C4;generalize hl:I3 32 s=l at *;obtain ⟨a,c,b,off,cells,rfl,k1,k2⟩:=hv.use;refine gS ?_;have he0:lens l<=s.length+1:=om
 refine L8 l.length (fun i fr Z'=>fr.get 13=some (.int .i64 (i:Nat))/\fr.get 12=some (.int .i64 (l.length:Nat))/\fr.get 11=some (.slice a l.length c)/\fr.get 6=some (.int .i64 (k+lens (l.take i):Nat)) /\
   fr.get 0=some (str s)/\fr.get 1=some (.int .i64 (k:Nat))/\Ext Z1 Z'/\∃ vo,fr.get 5=some vo/\OL Z1.n Z' 2 vo ((AE (l.take i) k).map Ch))
  (fun r=>∃ fr Z' vo,r=⟨.exit 0,fr,Z'⟩/\fr.get 0=some (str s)/\fr.get 1=some (.int .i64 (k:Nat))/\Ext Z1 Z'/\fr.get 5=some vo/\OL Z1.n Z' 2 vo ((AE l k).map Ch)) ?_ ?_ ?_ ?_
 ·exact ⟨fR,fR,fR,fR,fR,fR,.refl _,_,fR,OL.nil⟩
 ·rintro i fr Z' hi ⟨g13,g12,g11,g6,g0,g1,hE,vo,g5,hol⟩;obtain ⟨w,hw⟩:=H8 hi;obtain ⟨sp,rfl,k3,k4⟩:=k1 om;have hr:Z'.row b=some cells:=by rw [hE.row k3];exact k4
  have hs1:=k2 i w hw;have ed:decide (((i:Nat):Int)<((l.length:Nat):Int))=true:=by rw [decide_eq_true_iff];omega
  have ed2:decide (i<l.length)=true:=decide_eq_true hi;have hlt:=QT hw;have hle:=Yj l (i+1);have e1:((w.length:Nat):Int)+1=((w.length+1:Nat):Int):=om;have e2:((k+lens (l.take i):Nat):Int)+((w.length+1:Nat):Int)=((k+lens (l.take (i+1)):Nat):Int):=om;have e3:((i:Nat):Int)+1=((i+1:Nat):Int):=om;have htk:=XT (k:=k) hw;cases hw0:decide (w=[]) with
  | true =>
    rw [if_pos (of_decide_eq_true hw0),List.append_nil] at htk;refine gS1 (a13N @g13 @g12 @g11 @g6 @ed @ed2 @hr @hs1 @e1 @e2 @e3 @hw0 @Nat.mul_one) ?_;exact ⟨fR,fR1 g12,fR1 g11,fR,fR1 g0,fR1 g1,hE,vo,fR1 g5,by rw [htk];exact hol⟩
  | false =>
    rw [if_neg (of_decide_eq_false hw0)] at htk;refine gU1 (a21N @A1 @N7 @T1 @T5 @R6 @K2 @R7 @Q8 @J0 @F4 @g13 @g12 @g11 @g6 @g5 @ed @ed2 @hr @hs1 @hw0 @Nat.mul_one) ?_;have hEn:=hE.trans (Ext.new (t:=none) Z' [str w,.int .i64 (k+lens (l.take i):Nat)]);have hpl:=Ky (l.take i) k;rw [List.length_take] at hpl;refine I0 (row:=Ch (w,k+lens (l.take i))) (fun _ _ _ _=>J5) (hol.ext (.new _ _)) (D4 (Nat.le_refl _) (Nat.le_refl _)) (D6 (by simp [Ch]) (by simp)) (by rw [List.length_map];omega) (by have:=hE.n;simp;omega) ?_;intro vo' Z3 h1 h2 h3;have hE3:Ext Z1 Z3:=h2.ext hEn (hol.ext (.new _ _)) (Nat.le_refl _);refine gS1 (a7N @g13 @g12 @g11 @g6 @e1 @e2 @e3) ?_;exact ⟨fR,fR1 g12,fR1 g11,fR,fR1 g0,fR1 g1,hE3,vo',fR,by rw [htk,List.map_append];exact h1⟩
 ·rintro fr Z' ⟨g13,g12,g11,g6,g0,g1,hE,vo,g5,hol⟩;have ed:decide (((l.length:Nat):Int)<((l.length:Nat):Int))=false:=by simp
  refine gS1 (a3N @g13 @g12 @ed) ?_;exact ⟨_,_,vo,rfl,fR1 g0,fR1 g1,hE,fR1 g5,by rw [List.take_length] at hol;exact hol⟩
 rintro r ⟨fr,Z',vo,rfl,g0,g1,hE,g5,hol⟩;have e4:((k:Nat):Int)+((s.length:Nat):Int)=((k+s.length:Nat):Int):=om;refine gU1 (a14N @A1 @N7 @T1 @T5 @R6 @K2 @R7 @Q8 @J0 @F4 @g0 @g1 @g5 @e4) ?_;have hEn:=hE.trans (Ext.new (t:=none) Z' [str [],.int .i64 (k+s.length:Nat)]);have hpl:=Ky l k;refine I0 (row:=Ch ([],k+s.length)) (fun _ _ _ _=>J5) (hol.ext (.new _ _)) (D4 (Nat.le_refl _) (Nat.le_refl _)) (D6 (by simp [Ch]) (by simp)) (by rw [List.length_map];omega) (by have:=hE.n;simp;omega) ?_;intro vo' Z3 h1 h2 h3;have hE3:Ext Z1 Z3:=h2.ext hEn (hol.ext (.new _ _)) (Nat.le_refl _);refine gS1 @Tryz.results72 ?_;exact ⟨vo',Z3,rfl,by rw [List.map_append];exact OL.lower h1 hE1.n,hE1.trans hE3⟩
def y9 (s:By):Nat:=s.foldl (fun n c=>10*n+(c.toNat-48)) 0
theorem ZP (s:By) (c:UInt8):y9 (s++[c])=10*y9 s+(c.toNat-48):=by simp [y9,List.foldl_append]
theorem PZ {s:By}{i:Nat}{c:UInt8}(h:s[i]? =some c):y9 (s.take (i+1))=10*y9 (s.take i)+(c.toNat-48):=by
 rw [List.take_add_one,h];exact ZP _ _
theorem KX {c:UInt8}(h:on J9 c=true):48<=c.toNat/\c.toNat<=57:=by
 unfold on J9 at h;simp at h;omega
theorem kH {s:By}(h:s.all (on J9)=true):∀ i,i<=s.length->y9 (s.take i)<10 ^ i:=by
 intro i;induction i with
 | zero=>intro _;simp [y9]
 | succ i ih =>
   intro hi;obtain ⟨c,hc⟩:=H8 (show i<s.length by omega);have h1:=KX ((List.all_eq_true.1 h) c (List.mem_of_getElem? hc));rw [PZ hc,Nat.pow_succ];have:=ih om;omega
theorem dB {Z:St}{s:By}(h:s.all (on J9)=true) (h1:0<s.length) (h2:s.length<19) :
  Ev (go Tryz.prog HS (.fn 229) [str s] Z) (fun r=>∃ Z',r=⟨false,.tuple ⟨[.int .i64 (y9 s:Nat),.nilIface]⟩,Z'⟩/\Ext Z Z') ⟨⟩:=by
 refine D7 Tryz.func229 rfl rfl ?_;have c1:decide (0<((s.length:Nat):Int))=true:=by rw [decide_eq_true_iff];omega
 have c2:decide (((s.length:Nat):Int)<19)=true:=by rw [decide_eq_true_iff];omega
 obtain ⟨c0,hc0⟩:=H8 h1;have hd0:=KX ((List.all_eq_true.1 h) c0 (List.mem_of_getElem? hc0));have s0:=CF hc0;have m1:decide (((c0.toNat:Nat):Int)=45)=false:=by rw [decide_eq_false_iff_not];omega
 have m2:decide (((c0.toNat:Nat):Int)=43)=false:=by rw [decide_eq_false_iff_not];omega
 have hb:(J3 s).length=s.length:=by simp [J3]
 have hvl:=kH h;cases c3:decide (((s.length:Nat):Int)<10)
 all_goals
  refine gS1 (a10N @c1 @c2 @c3 @J1 @J2 @s0 @T6 @m1 @m2 @dC) ?_
  refine L8 s.length (fun i fr Z'=>fr.get 49=some (.int .i64 (i:Nat))/\fr.get 48=some (.int .i64 (s.length:Nat))/\fr.get 47=some (.slice (some ⟨Z.n,0,some 1⟩) s.length s.length)/\fr.get 6=some (.int .i64 (y9 (s.take i):Nat)) /\
    fr.get 5=some (str s)/\Z'=Z.new (J3 s))
   (fun r=>∃ fr,r=⟨.exit 0,fr,Z.new (J3 s)⟩/\fr.get 6=some (.int .i64 (y9 s:Nat))/\fr.get 5=some (str s)) ?_ ?_ ?_ ?_
  ·exact ⟨fR,fR,fR,fR,fR,rfl⟩
  ·rintro i fr Z' hi ⟨g49,g48,g47,g6,g5,rfl⟩;obtain ⟨c,hc⟩:=H8 hi;have hd:=KX ((List.all_eq_true.1 h) c (List.mem_of_getElem? hc));have ed:decide (((i:Nat):Int)<((s.length:Nat):Int))=true:=by rw [decide_eq_true_iff];omega
   have ed2:decide (i<s.length)=true:=decide_eq_true hi;have sb:sub (J3 s) i 1=some [.int .u8 (c.toNat:Nat)]:=CF (by unfold J3;rw [List.getElem?_map,hc];rfl);have hv:=PZ hc;have hl1:=hvl i om;have hl2:=hvl (i+1) om;have hp:10 ^ (i+1)<=10 ^ 18:=Nat.pow_le_pow_right om om;have e8:((c.toNat:Nat):Int)-48=((c.toNat-48:Nat):Int):=om;have e9:decide (9<((c.toNat-48:Nat):Int))=false:=by rw [decide_eq_false_iff_not];omega
   have e10:((y9 (s.take i):Nat):Int)*10=((y9 (s.take i)*10:Nat):Int):=om;have e11:((y9 (s.take i)*10:Nat):Int)+((c.toNat-48:Nat):Int)=((y9 (s.take (i+1)):Nat):Int):=om;have e3:((i:Nat):Int)+1=((i+1:Nat):Int):=om;refine gS1 (a14N @g49 @g48 @g47 @g6 @g5 @ed @ed2 @sb @e8 @e9 @e10 @e11 @e3 @Nat.mul_one) ?_;exact ⟨fR,fR1 g48,fR1 g47,fR,fR1 g5,by trivial⟩
  ·rintro fr Z' ⟨g49,g48,g47,g6,g5,rfl⟩;have ed:decide (((s.length:Nat):Int)<((s.length:Nat):Int))=false:=by simp
   refine gS1 (a3N @g49 @g48 @ed) ?_;exact ⟨_,rfl,by rw [List.take_length] at g6;exact fR1 g6,fR1 g5⟩
  rintro r ⟨fr,rfl,g6,g5⟩;refine gS1 (a6N @g6 @g5 @s0 @T6 @m1 @Tryz.results229) ?_;exact ⟨_,rfl,eX⟩
theorem nY {Z:St}{s:By}(h:s.all (on J9)=true) (h1:0<s.length) (h2:s.length<19) :
  Ev (go Tryz.prog HS (.fn 216) [str s] Z) (fun r=>∃ Z',r=⟨false,.tuple ⟨[.int .i64 (y9 s:Nat),.nilIface]⟩,Z'⟩/\Ext Z Z') ⟨⟩:=by
 refine D7 Tryz.func216 rfl rfl ?_;refine gS ?_;refine (dB h h1 h2).mono ?_;rintro r ⟨Z',rfl,hE⟩;refine gS1 @Tryz.results216 ?_;exact ⟨_,rfl,hE⟩
theorem NV {Z:St}{s:By}(h:s.all (on J9)=true) (h1:0<s.length) (h2:s.length<19) :
  Ev (go Tryz.prog HS (.fn 193) [str s] Z) (fun r=>∃ Z',r=⟨false,.tuple ⟨[.int .i64 (y9 s:Nat),.bool (decide (y9 s<=1000000000))]⟩,Z'⟩/\Ext Z Z') ⟨⟩:=by
 refine D7 Tryz.func193 rfl rfl ?_;refine gS ?_;refine (nY h h1 h2).mono ?_;rintro r ⟨Z',rfl,hE⟩;have e1:(!decide (1000000000<((y9 s:Nat):Int)))=decide (y9 s<=1000000000):=by
  rw [Bool.eq_iff_iff];simp;omega
 refine gS1 (a4N @J1 @J2 @e1 @Tryz.results193) ?_;exact ⟨_,rfl,hE⟩
def Ends (toks:List Tok):Prop:=∀ (k:Nat) (t:Tok),toks[k]? =some t->t.1≠[]->k+1<toks.length
def Db (toks:List Tok):Prop:=∀ t∈toks,t.1.length<10000000/\(FZ t.1=true->t.1.length<19)
theorem Jl {s:By}(h:FZ s=true):s.all (on J9)=true/\0<s.length/\s≠[]:=by
 unfold FZ at h;rw [Bool.and_eq_true,Bool.and_eq_true] at h;refine ⟨h.1.2,?_,?_⟩
 ·cases s with
  | nil=>simp [Fg] at h
  | cons=>simp
 ·rintro rfl;simp [Fg] at h
def MC (least:Int) (nw:Int->Bool) (t:By):Except Int Nat :=
 if FZ t=false then .error 12 else if y9 t<=1000000000/\least<=y9 t then (if nw (y9 t) then .ok (y9 t) else .error 13) else .error 3
theorem nZ {least:Int}{nw:Int->Bool}{t:By}(h:FZ t=false):MC least nw t= .error 12:=by unfold MC;rw [if_pos h]
theorem gg {least:Int}{nw:Int->Bool}{t:By}(h:FZ t=true) (h2:(decide (y9 t<=1000000000)&& !decide ((y9 t:Int)<least))=false):MC least nw t= .error 3:=by
 unfold MC;rw [if_neg (by rw [h];simp),if_neg];rintro ⟨a,b⟩;rw [decide_eq_true a,decide_eq_false om] at h2;cases h2
theorem ng {least:Int}{nw:Int->Bool}{t:By}(h:FZ t=true) (h1:y9 t<=1000000000) (h2:(!decide ((y9 t:Int)<least))=true):MC least nw t=if nw (y9 t) then .ok (y9 t) else .error 13:=by
 have:¬ (y9 t:Int)<least:=by intro hx;rw [decide_eq_true hx] at h2;cases h2
 unfold MC;rw [if_neg (by rw [h];simp),if_pos ⟨h1,om⟩]
theorem QN {Z:St}{b:Nat}{v:Value}{toks:List Tok}{k:Nat}{rest:List Value}(h:Sc Z b v toks k rest) (I4:Ends toks) (hsh:Db toks){t:Tok}(ht:toks[k]? =some t)
  {g:Nat} {fs cs:List Value} {nw:Int->Bool} {least:Int} (hnw:∀ (Z':St) (n:Nat),Ext Z Z'->n<=1000000000->Ev (go Tryz.prog HS (.fn g) (fs++[.int .i64 n]++cs) Z') (fun r=>∃ Z2,r=⟨false,.bool (nw n),Z2⟩/\Ext Z' Z2) ⟨⟩) :
  Ev (go Tryz.prog HS (.fn 154) [ptr b,.int .i64 least,.func (.func g) ⟨fs⟩ ⟨cs⟩] Z) (fun r=>match MC least nw t.1 with
   | .ok n=>∃ Z',r=⟨false,.int .i64 n,Z'⟩/\C5 b Z Z'/\Z'.A5 b=some (v:: .int .i64 (k+1:Nat)::rest)/\k+1<toks.length
   | .error e=>∃ Z',r=⟨true,fault t.2 e,Z'⟩/\Ext Z Z') ⟨⟩:=by
 have hs:=hsh t (List.mem_of_getElem? ht);refine D7 Tryz.func154 rfl rfl ?_;unfold ptr;refine gS ?_;refine (T7 h ht).mono ?_;rintro r ⟨Z1,rfl,hE1⟩;refine gS ?_;refine (LQ om).mono ?_;rintro r rfl;refine gS ?_;have h1:=h.ext hE1;refine (K6 h1 ht).mono ?_;rintro r (⟨hok,rfl⟩|⟨hok,Z2,rfl,hE2⟩)
 case inr =>
  refine gS ?_;refine H3.intro (by kernel_rfl) ?_;refine gS ?_;rw [nZ hok];exact ⟨_,rfl,hE1.trans hE2⟩
 obtain ⟨n1,n2,n3⟩:=Jl hok;refine gS ?_;refine (NV n1 n2 (hs.2 hok)).mono ?_;rintro r ⟨Z2,rfl,hE2⟩;refine gS ?_;have h2:=h1.ext hE2;cases hv:decide (y9 t.1<=1000000000) with
 | false =>
   refine gS ?_;refine (K6 h2 ht).mono ?_;rintro r (⟨hx,-⟩|⟨-,Z3,rfl,hE3⟩)
   case inl=>cases hx
   refine gS ?_;rw [gg hok (by rw [hv];rfl)];exact ⟨_,rfl,(hE1.trans hE2).trans hE3⟩
 | true =>
   refine gS ?_;refine (K6 h2 ht).mono ?_;rintro r (⟨hl,rfl⟩|⟨hl,Z3,rfl,hE3⟩)
   case inr =>
    refine gS ?_;rw [gg hok (by rw [hv,hl];rfl)];exact ⟨_,rfl,(hE1.trans hE2).trans hE3⟩
   refine gS ?_;refine (hnw Z2 (y9 t.1) (hE1.trans hE2) (of_decide_eq_true hv)).mono ?_;rintro r ⟨Z3,rfl,hE3⟩;have h3:=h2.ext hE3;refine gS ?_;refine (K6 h3 ht).mono ?_;rw [ng hok (of_decide_eq_true hv) hl];rintro r (⟨hn,rfl⟩|⟨hn,Z4,rfl,hE4⟩)
   case inr =>
    refine gS ?_;refine H3.intro (by kernel_rfl) ?_;refine gS ?_;rw [if_neg (by rw [hn];simp)];exact ⟨_,rfl,((hE1.trans hE2).trans hE3).trans hE4⟩
   refine gS ?_;rw [if_pos hn];refine (W8 h3 ht).mono ?_;rintro r ⟨Z4,rfl,hE4,hr4⟩;refine gS1 @Tryz.results154 ?_;exact ⟨_,rfl,(C5.of ((hE1.trans hE2).trans hE3)).trans hE4,hr4,I4 k t ht n3⟩
def Stp {α:Type}(Z:St) (b:Nat) (v:Value) (toks:List Tok) (k:Nat) (rest:List Value) (t:Tok) (R:Except Int α) (f:α->Value) (r:CR):Prop:=match R with
 | .ok a=>∃ Z',r=⟨false,f a,Z'⟩/\C5 b Z Z'/\Z'.A5 b=some (v:: .int .i64 (k+1:Nat)::rest)/\k+1<toks.length
 | .error e=>∃ Z',r=⟨true,fault t.2 e,Z'⟩/\Ext Z Z'
def Jx (n:Nat):Value:= .int .i64 (n:Nat)
theorem Jw {Z:St}{t:Option TypeId}{l:List By}:Dh (Z.new (l.map str) t) (.slice (some ⟨Z.n,0,none⟩) l.length l.length) l :=
 OL.sl (OL.mk (lo:=0) (by simp) (by induction l with|nil=>rfl|cons a l ih=>simp [ih] at ih ⊢) (by simp) (.inl rfl) (Nat.zero_le _) (by simp) (K5 (Nat.le_refl _) (Nat.le_refl _)))
section
variable {Z:St} {b:Nat} {v:Value} {toks:List Tok} {k:Nat} {rest:List Value} {t:Tok}
theorem tQ {Z:St}{n:Nat}:Ev (go Tryz.prog HS (.fn 195) [.int .i64 (n:Nat)] Z) (fun r=>∃ Z2,r=⟨false,.bool true,Z2⟩/\Ext Z Z2) ⟨⟩:=by
 refine D7 Tryz.func195 rfl rfl ?_;refine gS1 @Tryz.results195 ?_;exact ⟨_,rfl,.refl _⟩
theorem gI (h:Sc Z b v toks k rest) (I4:Ends toks) (hsh:Db toks) (ht:toks[k]? =some t) :
  Ev (go Tryz.prog HS (.fn 159) [ptr b] Z) (Stp Z b v toks k rest t (MC 0 (fun _=>true) t.1) Jx) ⟨⟩:=by
 refine D7 Tryz.func159 rfl rfl ?_;refine gS ?_;refine (QN h I4 hsh ht (fs:=[]) (cs:=[]) (nw:=fun _=>true) fun Z' n _ _=>tQ).mono ?_;intro r;unfold Stp;cases MC 0 (fun _=>true) t.1 with
 | ok n =>
   rintro ⟨Z',rfl,h1,h2,h3⟩;refine gS1 @Tryz.results159 ?_;exact ⟨_,rfl,h1,h2,h3⟩
 | error e =>
   rintro ⟨Z',rfl,h1⟩;refine gS ?_;exact ⟨_,rfl,h1⟩
theorem tR {ws:Value}{l:List By}(h:Sc Z b v toks k rest) (I4:Ends toks) (ht:toks[k]? =some t) (hw:Dh Z ws l) (hl:l.length<=10) (hne:[]∉l) :
  Ev (go Tryz.prog HS (.fn 158) [ptr b,ws] Z) (Stp Z b v toks k rest t (if l.contains t.1 then .ok t.1 else .error 12) str) ⟨⟩:=by
 obtain ⟨a,c,rfl⟩:=hw.shape;refine D7 Tryz.func158 rfl rfl ?_;unfold ptr;refine gS ?_;refine (T7 h ht).mono ?_;rintro r ⟨Z1,rfl,hE1⟩;refine gS ?_;refine (AA (hw.mono hE1) om).mono ?_;rintro r rfl;refine gS ?_;have h1:=h.ext hE1;refine (K6 h1 ht).mono ?_;rintro r (⟨hok,rfl⟩|⟨hok,Z2,rfl,hE2⟩)
 case inr =>
  refine gS ?_;refine H3.intro (by kernel_rfl) ?_;refine gS ?_;rw [if_neg (by rw [hok];simp)];exact ⟨_,rfl,hE1.trans hE2⟩
 refine gS ?_;rw [if_pos hok];refine (W8 h1 ht).mono ?_;rintro r ⟨Z4,rfl,hE4,hr4⟩;refine gS1 @Tryz.results158 ?_;exact ⟨_,rfl,(C5.of hE1).trans hE4,hr4,I4 k t ht (by intro e;rw [e] at hok;exact hne (by simpa using hok))⟩
theorem Kt {Z:St}{s:By}(hs:s.length<9223372036854775807):Ev (go Tryz.prog HS (.fn 163) [str s] Z) (fun r=>∃ Z',r=⟨false,.bool (Y0 s),Z'⟩/\Ext Z Z') ⟨⟩:=by
 refine D7 Tryz.func163 rfl rfl ?_;refine gS ?_;refine (Fh hs).mono ?_;rintro r rfl;unfold Y0;cases AL s with
 | false =>
   refine gS1 @Tryz.results163 ?_;exact ⟨_,rfl,.refl _⟩
 | true =>
   refine gS ?_;refine (AA (l:=NB) (Jw (l:=NB)) (by decide)).mono ?_;rintro r rfl;have e1:(true&& !NB.contains s)= !NB.contains s:=rfl;refine gS1 (aI @e1 @Tryz.results163) ?_;exact ⟨_,rfl,eX⟩
theorem YV (h:Sc Z b v toks k rest) (hsh:Db toks) (ht:toks[k]? =some t) :
  Ev (go Tryz.prog HS (.fn 160) [ptr b] Z) (fun r=>(Y0 t.1=true/\∃ Z',r=⟨false,str t.1,Z'⟩/\Ext Z Z')\/(Y0 t.1=false/\∃ Z',r=⟨true,fault t.2 12,Z'⟩/\Ext Z Z')) ⟨⟩:=by
 have hs:=hsh t (List.mem_of_getElem? ht);refine D7 Tryz.func160 rfl rfl ?_;unfold ptr;refine gS ?_;refine (T7 h ht).mono ?_;rintro r ⟨Z1,rfl,hE1⟩;refine gS ?_;have h1:=h.ext hE1;refine (Kt om).mono ?_;rintro r ⟨Z2,rfl,hE2⟩;refine gS ?_;have h2:=h1.ext hE2;refine (K6 h2 ht).mono ?_;rintro r (⟨hok,rfl⟩|⟨hok,Z3,rfl,hE3⟩)
 case inr =>
  refine gS ?_;refine H3.intro (by kernel_rfl) ?_;refine gS ?_;exact .inr ⟨hok,_,rfl,(hE1.trans hE2).trans hE3⟩
 refine gS ?_;refine (T7 h2 ht).mono ?_;rintro r ⟨Z4,rfl,hE4⟩;refine gS1 @Tryz.results160 ?_;exact .inl ⟨hok,_,rfl,(hE1.trans hE2).trans hE4⟩
end
theorem XR {Z:St}{v:Value}{l:List Lot}{g:Nat}{fs cs:List Value}{p:Lot->Bool}(hl:SL Z 2 v (l.map Lot.row)) (hn:l.length<=4294967296)
  (hf:∀ (Z':St) (x:Lot),Ext Z Z'->x∈l->Ev (go Tryz.prog HS (.fn g) (fs++[.agg ⟨x.row⟩]++cs) Z') (fun r=>∃ Z2,r=⟨false,.bool (p x),Z2⟩/\Ext Z' Z2) ⟨⟩) :
  Ev (go Tryz.prog HS (.fn 194) [v,.func (.func g) ⟨fs⟩ ⟨cs⟩] Z) (fun r=>∃ (n:Int) (Z':St),r=⟨false,.int .i64 n,Z'⟩/\Ext Z Z'/\(!decide (n<0))=l.any p) ⟨⟩:=by
 obtain ⟨a,c,b,off,cells,rfl,h1,h2⟩:=hl.use;rw [List.length_map] at *;refine D7 Tryz.func194 rfl rfl ?_;refine gS ?_
 refine Bj (fun j fr Z'=>∃ k,j=l.length-k/\k<=l.length/\fr.get 0=some (.slice a l.length c)/\fr.get 1=some (.func (.func g) ⟨fs⟩ ⟨cs⟩)/\fr.get 7=some (.int .i64 l.length)/\fr.get 8=some (.int .i64 k)/\Ext Z Z'/\(l.take k).any p=false)
  (fun r=>(∃ fr Z',r=⟨.exit 0,fr,Z'⟩/\Ext Z Z'/\l.any p=false)\/(∃ fr Z' k,r=⟨.ret,fr,Z'⟩/\Ext Z Z'/\fr.get 4=some (.int .i64 (k:Nat))/\l.any p=true)) l.length ?_ ?_ ?_
 ·exact ⟨0,rfl,om,fR,fR,fR,fR,.refl _,rfl⟩
 ·rintro j fr Z' ⟨k,rfl,hk,g0,g1,g7,g8,hE,hm⟩;by_cases hc:k<l.length
  ·obtain ⟨sp,rfl,hb,hr⟩:=h1 om;obtain ⟨x,hx⟩:∃ x,l[k]? =some x:=⟨_,List.getElem?_eq_getElem hc⟩
   have hr':Z'.row b=some cells:=by rw [hE.row hb];exact hr
   have h2:=h2 k x.row (by rw [List.getElem?_map,hx];rfl);have hc':decide (k<l.length)=true:=by simpa using hc
   have hxx:Lot.row x=[.int .i64 x.id,.int .i64 x.D5]:=rfl;rw [hxx] at h2;refine gS1 (a8N @g0 @g1 @g7 @g8 @GF @hc' @hr' @h2) ?_;have hf':=hf Z' x hE (List.mem_of_getElem? hx);rw [hxx] at hf';refine hf'.mono ?_;rintro r ⟨Z2,rfl,hE2⟩;have hE3:=hE.trans hE2;cases hp:p x with
   | true =>
     refine gS1 (a5N @g0 @g1 @g7 @g8 @Qv) ?_;refine .inr ⟨_,_,k,rfl,hE3,fR,?_⟩;rw [List.any_eq_true];exact ⟨x,List.mem_of_getElem? hx,hp⟩
   | false =>
     refine gS1 (a6N @g0 @g1 @g7 @g8 @Gs @O5) ?_;refine ⟨l.length-(k+1),om,k+1,rfl,om,fR1 g0,fR1 g1,fR1 g7,fR,hE3,?_⟩;rw [List.take_add_one,hx,List.any_append,hm];simp [hp]
  ·have hc':decide (k<l.length)=false:=by simpa using hc
   obtain rfl:k=l.length:=om;rw [List.take_length] at hm;refine gS1 (a7N @g0 @g1 @g7 @g8 @GF @hc' @BM) ?_;exact .inl ⟨_,_,rfl,hE,hm⟩
 ·rintro r (⟨fr,Z',rfl,hE,hm⟩|⟨fr,Z',k,rfl,hE,g4,hm⟩)
  ·refine gS1 @Tryz.results194 ?_;exact ⟨-1,_,rfl,hE,by rw [hm];rfl⟩
  ·refine gS1 (aI @Tryz.results194 @g4) ?_;exact ⟨k,_,rfl,hE,by rw [hm];simp⟩
theorem jA {Z:St}{v:Value}{l:List Lot}{g:Nat}{fs cs:List Value}{p:Lot->Bool}(hl:SL Z 2 v (l.map Lot.row)) (hn:l.length<=4294967296)
  (hf:∀ (Z':St) (x:Lot),Ext Z Z'->x∈l->Ev (go Tryz.prog HS (.fn g) (fs++[.agg ⟨x.row⟩]++cs) Z') (fun r=>∃ Z2,r=⟨false,.bool (p x),Z2⟩/\Ext Z' Z2) ⟨⟩) :
  Ev (go Tryz.prog HS (.fn 156) [v,.func (.func g) ⟨fs⟩ ⟨cs⟩] Z) (fun r=>∃ (Z':St),r=⟨false,.bool (l.any p),Z'⟩/\Ext Z Z') ⟨⟩:=by
 have hl':=hl;obtain ⟨a,c,b,off,cells,rfl,h1,h2⟩:=hl.use;refine D7 Tryz.func156 rfl rfl ?_;refine gS ?_;refine (XR hl' hn hf).mono ?_;rintro r ⟨n,Z',rfl,hE,hb⟩;refine gS1 (aI @Tryz.results156 @hb) ?_;exact ⟨_,rfl,hE⟩
theorem Uw {Z:St}{v:Value}{l:List R0}{g:Nat}{fs cs:List Value}{p:R0->Bool}(hl:SL Z 5 v (l.map R0.row)) (hn:l.length<=4294967296)
  (hf:∀ (Z':St) (x:R0),Ext Z Z'->x∈l->Ev (go Tryz.prog HS (.fn g) (fs++[.agg ⟨x.row⟩]++cs) Z') (fun r=>∃ Z2,r=⟨false,.bool (p x),Z2⟩/\Ext Z' Z2) ⟨⟩) :
  Ev (go Tryz.prog HS (.fn 196) [v,.func (.func g) ⟨fs⟩ ⟨cs⟩] Z) (fun r=>∃ (n:Int) (Z':St),r=⟨false,.int .i64 n,Z'⟩/\Ext Z Z'/\(!decide (n<0))=l.any p) ⟨⟩:=by
 obtain ⟨a,c,b,off,cells,rfl,h1,h2⟩:=hl.use;rw [List.length_map] at *;refine D7 Tryz.func196 rfl rfl ?_;refine gS ?_
 refine Bj (fun j fr Z'=>∃ k,j=l.length-k/\k<=l.length/\fr.get 0=some (.slice a l.length c)/\fr.get 1=some (.func (.func g) ⟨fs⟩ ⟨cs⟩)/\fr.get 7=some (.int .i64 l.length)/\fr.get 8=some (.int .i64 k)/\Ext Z Z'/\(l.take k).any p=false)
  (fun r=>(∃ fr Z',r=⟨.exit 0,fr,Z'⟩/\Ext Z Z'/\l.any p=false)\/(∃ fr Z' k,r=⟨.ret,fr,Z'⟩/\Ext Z Z'/\fr.get 4=some (.int .i64 (k:Nat))/\l.any p=true)) l.length ?_ ?_ ?_
 ·exact ⟨0,rfl,om,fR,fR,fR,fR,.refl _,rfl⟩
 ·rintro j fr Z' ⟨k,rfl,hk,g0,g1,g7,g8,hE,hm⟩;by_cases hc:k<l.length
  ·obtain ⟨sp,rfl,hb,hr⟩:=h1 om;obtain ⟨x,hx⟩:∃ x,l[k]? =some x:=⟨_,List.getElem?_eq_getElem hc⟩
   have hr':Z'.row b=some cells:=by rw [hE.row hb];exact hr
   have h2:=h2 k x.row (by rw [List.getElem?_map,hx];rfl);have hc':decide (k<l.length)=true:=by simpa using hc
   have hxx:R0.row x=[str x.name,.int .i64 x.kind,.int .i64 x.low,.int .i64 x.high,.bool x.less]:=rfl;rw [hxx] at h2;refine gS1 (a8N @g0 @g1 @g7 @g8 @GF @hc' @hr' @h2) ?_;have hf':=hf Z' x hE (List.mem_of_getElem? hx);rw [hxx] at hf';refine hf'.mono ?_;rintro r ⟨Z2,rfl,hE2⟩;have hE3:=hE.trans hE2;cases hp:p x with
   | true =>
     refine gS1 (a5N @g0 @g1 @g7 @g8 @Qv) ?_;refine .inr ⟨_,_,k,rfl,hE3,fR,?_⟩;rw [List.any_eq_true];exact ⟨x,List.mem_of_getElem? hx,hp⟩
   | false =>
     refine gS1 (a6N @g0 @g1 @g7 @g8 @Gs @O5) ?_;refine ⟨l.length-(k+1),om,k+1,rfl,om,fR1 g0,fR1 g1,fR1 g7,fR,hE3,?_⟩;rw [List.take_add_one,hx,List.any_append,hm];simp [hp]
  ·have hc':decide (k<l.length)=false:=by simpa using hc
   obtain rfl:k=l.length:=om;rw [List.take_length] at hm;refine gS1 (a7N @g0 @g1 @g7 @g8 @GF @hc' @BM) ?_;exact .inl ⟨_,_,rfl,hE,hm⟩
 ·rintro r (⟨fr,Z',rfl,hE,hm⟩|⟨fr,Z',k,rfl,hE,g4,hm⟩)
  ·refine gS1 @Tryz.results196 ?_;exact ⟨-1,_,rfl,hE,by rw [hm];rfl⟩
  ·refine gS1 (aI @Tryz.results196 @g4) ?_;exact ⟨k,_,rfl,hE,by rw [hm];simp⟩
theorem aV {Z:St}{v:Value}{l:List R0}{g:Nat}{fs cs:List Value}{p:R0->Bool}(hl:SL Z 5 v (l.map R0.row)) (hn:l.length<=4294967296)
  (hf:∀ (Z':St) (x:R0),Ext Z Z'->x∈l->Ev (go Tryz.prog HS (.fn g) (fs++[.agg ⟨x.row⟩]++cs) Z') (fun r=>∃ Z2,r=⟨false,.bool (p x),Z2⟩/\Ext Z' Z2) ⟨⟩) :
  Ev (go Tryz.prog HS (.fn 161) [v,.func (.func g) ⟨fs⟩ ⟨cs⟩] Z) (fun r=>∃ (Z':St),r=⟨false,.bool (l.any p),Z'⟩/\Ext Z Z') ⟨⟩:=by
 have hl':=hl;obtain ⟨a,c,b,off,cells,rfl,h1,h2⟩:=hl.use;refine D7 Tryz.func161 rfl rfl ?_;refine gS ?_;refine (Uw hl' hn hf).mono ?_;rintro r ⟨n,Z',rfl,hE,hb⟩;refine gS1 (aI @Tryz.results161 @hb) ?_;exact ⟨_,rfl,hE⟩
end Go.Proofs.T
namespace Go.Proofs.T
open Go Go.Ab
mutual
def ExX (Z:St) (row:List Value):Ex->Prop
 | .mk op n d nm args=>∃ v rows,row=[str op,.int .i64 n,.int .i64 d,str nm,v]/\SLs Z 5 v rows/\args.length<=4/\FT Z rows args
def FT (Z:St) (rows:List (List Value)):List Ex->Prop
 | []=>rows=[]
 | e::es=>∃ r rs,rows=r::rs/\ExX Z r e/\FT Z rs es
end
mutual
theorem ExX.to {Z:St}{row:List Value}:∀ {e:Ex},ExX Z row e->Ah Z row e
 | .mk op n d nm args,h=>by
   obtain ⟨v,rows,h1,h2,h4,h3⟩:=h;exact ⟨v,rows,h1,h2.sl,h4,FT.to h3⟩
theorem FT.to {Z:St}{rows:List (List Value)}:∀ {es:List Ex},FT Z rows es->AM Z rows es
 | [],h=>h
 | e::es,h=>by
   obtain ⟨r,rs,h1,h2,h3⟩:=h;exact ⟨r,rs,h1,ExX.to h2,FT.to h3⟩
end
mutual
theorem ExX.E8 {Z Z':St}(hE:o0 Z Z'){row:List Value}:∀ {e:Ex},ExX Z row e->ExX Z' row e
 | .mk op n d nm args,h=>by
   obtain ⟨v,rows,h1,h2,h4,h3⟩:=h;exact ⟨v,rows,h1,SLs.E8 h2 hE,h4,FT.E8 hE h3⟩
theorem FT.E8 {Z Z':St}(hE:o0 Z Z'){rows:List (List Value)}:∀ {es:List Ex},FT Z rows es->FT Z' rows es
 | [],h=>h
 | e::es,h=>by
   obtain ⟨r,rs,h1,h2,h3⟩:=h;exact ⟨r,rs,h1,ExX.E8 hE h2,FT.E8 hE h3⟩
end
theorem Vc {Z:St}{op nm:By}{n d:Int}:ExX Z [str op,.int .i64 n,.int .i64 d,str nm,.slice none 0 0] (.mk op n d nm []):=⟨_,[],rfl,SLs.nil,by simp,rfl⟩
theorem Jc {Z:St}{row:List Value}{e:Ex}(h:ExX Z row e):row.length=5:=h.to.len
theorem kQ {Z:St}{op nm:By}{n d:Int}{b cc:Nat}{sp:Option Nat}{ra rb cells:List Value}{x y:Ex}(hb:b<Z.n) (hr:Z.row b=some cells) (hc:cells=ra++rb) (hx:ExX Z ra x) (hy:ExX Z rb y) :
  ExX Z [str op,.int .i64 n,.int .i64 d,str nm,.slice (some ⟨b,0,sp⟩) 2 cc] (.mk op n d nm [x,y]):=by
 have la:=Jc hx;have lb:=Jc hy;subst hc;refine ⟨_,[ra,rb],rfl,⟨fun r hr=>?_,.inr ⟨b,0,sp,cc,_,rfl,hb,hr,?_⟩⟩,by simp,ra,[rb],rfl,hx,rb,[],rfl,hy,rfl⟩
 ·simp only [List.mem_cons,List.not_mem_nil,or_false] at hr;rcases hr with rfl|rfl
  ·exact la
  ·exact lb
 ·show sub (ra++rb) 0 (2*5)=some (ra++(rb++[]));rw [List.append_nil];exact D6 (by simp;omega) (by simp;omega)
def TnY (Z:St) (cells:List Value) (T:Tn):Prop :=
 ∃ vl vc vr ex vt vk vs,cells=T3 T.name vl vc vr T.low T.high ex vt T.D5 vk T.C1 T.t/\SLs Z 2 vl (T.D2.map Lot.row)/\SLs Z 5 vc (T.C7.map R0.row)/\SLs Z 3 vr (T.reqs.map Req.row)/\ExX Z ex T.f /\
  SLs Z 1 vt (T.E9.map fun s=>[str s])/\SLs Z 1 vk (vs.map fun x=>[x])/\CB (Ca Z) vs T.C3
theorem TnY.tn {Z:St}{cells:List Value}{T:Tn}(h:TnY Z cells T):Ar Z cells T:=by
 obtain ⟨vl,vc,vr,ex,vt,vk,vs,h1,h2,h3,h4,h5,h6,h7,h8⟩:=h;exact ⟨vl,vc,vr,ex,vt,vk,h1,h2.sl,h3.sl,h4.sl,h5.to,h6.sl,vs,h7.sl,h8⟩
theorem TnY.E8 {Z Z':St}{cells:List Value}{T:Tn}(h:TnY Z cells T) (hE:o0 Z Z'):TnY Z' cells T:=by
 obtain ⟨vl,vc,vr,ex,vt,vk,vs,h1,h2,h3,h4,h5,h6,h7,h8⟩:=h;exact ⟨vl,vc,vr,ex,vt,vk,vs,h1,h2.E8 hE,h3.E8 hE,h4.E8 hE,h5.E8 hE,h6.E8 hE,h7.E8 hE,h8.mono fun _ _ h=>SL.E8 h hE⟩
end Go.Proofs.T
