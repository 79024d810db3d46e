/- A tender, as plain data, and how it lies in memory. -/
import Derived.Test.YtbcanmagihejhaaGreatDoorAbD
import Derived.Test.YtbcanmagihejhaaGreatDoorTB
set_option linter.unusedSimpArgs false
set_option linter.unusedVariables false
namespace Go.Proofs.T
open Go Go.Ab
abbrev By:=List UInt8
def In64 (n:Int):Prop:= -9223372036854775808<=n/\n<=9223372036854775807
structure Lot where
 id:Int
 most:Int
 deriving DecidableEq
structure Crit where
 name:By
 kind:Int
 low:Int
 high:Int
 less:Bool
 deriving DecidableEq
structure Req where
 name:By
 rel:By
 value:Int
 deriving DecidableEq
inductive Ex where
 | mk (op:By) (num den:Int) (name:By) (args:List Ex)
structure Tim where
 q:Int
 b:Int
 g:Int
 p:Int
 s:Int
 deriving DecidableEq
structure Tn where
 name:By
 lots:List Lot
 crits:List Crit
 reqs:List Req
 low:Int
 high:Int
 f:Ex
 ties:List By
 most:Int
 combos:List (List Int)
 budget:Int
 t:Tim
def Lot.row (l:Lot):List Value:=[.int .i64 l.id,.int .i64 l.most]
def Crit.row (c:Crit):List Value:=[str c.name,.int .i64 c.kind,.int .i64 c.low,.int .i64 c.high,.bool c.less]
def Req.row (r:Req):List Value:=[str r.name,str r.rel,.int .i64 r.value]
def Ints (Z:St) (v:Value) (l:List Int):Prop:=SL Z 1 v (l.map fun n=>[.int .i64 n])
def Lots (Z:St) (v:Value) (l:List Lot):Prop:=SL Z 2 v (l.map Lot.row)
def Crits (Z:St) (v:Value) (l:List Crit):Prop:=SL Z 5 v (l.map Crit.row)
def Reqs (Z:St) (v:Value) (l:List Req):Prop:=SL Z 3 v (l.map Req.row)
def All2 {α β:Type}(R:α->β->Prop):List α->List β->Prop
 | [],[]=>True
 | a::l,b::k=>R a b/\All2 R l k
 | _,_=>False
theorem All2.len {α β:Type}{R:α->β->Prop}:∀ {l:List α}{k:List β},All2 R l k->l.length=k.length
 | [],[],_=>rfl
 | _::_,_::_,h=>by rw [List.length_cons,List.length_cons,h.2.len]
 | [],_::_,h=>h.elim
 | _::_,[],h=>h.elim
theorem All2.get {α β:Type}{R:α->β->Prop}:∀ {l:List α}{k:List β}{i:Nat}{a:α}{b:β},All2 R l k->l[i]? =some a->k[i]? =some b->R a b
 | a::l,b::k,0,_,_,h,h1,h2=>by cases h1;cases h2;exact h.1
 | a::l,b::k,i+1,_,_,h,h1,h2=>h.2.get (i:=i) (by simpa using h1) (by simpa using h2)
 | [],_,_,_,_,_,h1,_=>by simp at h1
 | _::_,[],_,_,_,h,_,_=>h.elim
theorem All2.mono {α β:Type}{R S:α->β->Prop}(hRS:∀ a b,R a b->S a b):∀ {l:List α}{k:List β},All2 R l k->All2 S l k
 | [],[],_=>trivial
 | _::_,_::_,h=>⟨hRS _ _ h.1,h.2.mono hRS⟩
 | [],_::_,h=>h.elim
 | _::_,[],h=>h.elim
theorem All2.app {α β:Type}{R:α->β->Prop}{a:α}{b:β}(hab:R a b):∀ {l:List α}{k:List β},All2 R l k->All2 R (l++[a]) (k++[b])
 | [],[],_=>⟨hab,trivial⟩
 | _::_,_::_,h=>⟨h.1,h.2.app hab⟩
 | [],_::_,h=>h.elim
 | _::_,[],h=>h.elim
def Combos (Z:St) (v:Value) (l:List (List Int)):Prop:=∃ vs:List Value,SL Z 1 v (vs.map fun x=>[x])/\All2 (Ints Z) vs l
mutual
/-- Five cells that stand for a formula. -/
def ExAt (Z:St) (row:List Value):Ex->Prop
 | .mk op n d nm args=>∃ v rows,row=[str op,.int .i64 n,.int .i64 d,str nm,v]/\SL Z 5 v rows/\args.length<=4/\ExsAt Z rows args
def ExsAt (Z:St) (rows:List (List Value)):List Ex->Prop
 | []=>rows=[]
 | e::es=>∃ r rs,rows=r::rs/\ExAt Z r e/\ExsAt Z rs es
end
mutual
theorem ExAt.mono {Z Z':St}(hE:Ext Z Z'){row:List Value}:∀ {e:Ex},ExAt Z row e->ExAt Z' row e
 | .mk op n d nm args,h=>by
   obtain ⟨v,rows,h1,h2,h4,h3⟩:=h
   exact ⟨v,rows,h1,h2.mono hE,h4,ExsAt.mono hE h3⟩
theorem ExsAt.mono {Z Z':St}(hE:Ext Z Z'){rows:List (List Value)}:∀ {es:List Ex},ExsAt Z rows es->ExsAt Z' rows es
 | [],h=>h
 | e::es,h=>by
   obtain ⟨r,rs,h1,h2,h3⟩:=h
   exact ⟨r,rs,h1,ExAt.mono hE h2,ExsAt.mono hE h3⟩
end
theorem ExsAt.len {Z:St}:∀ {rows:List (List Value)}{es:List Ex},ExsAt Z rows es->rows.length=es.length
 | _,[],h=>by rw [show _=_ from h];rfl
 | _,e::es,h=>by
   obtain ⟨r,rs,rfl,-,h3⟩:=h
   rw [List.length_cons,List.length_cons,h3.len]
theorem ExsAt.get {Z:St}:∀ {rows:List (List Value)}{es:List Ex}{i:Nat}{r:List Value}{e:Ex},ExsAt Z rows es->rows[i]? =some r->es[i]? =some e->ExAt Z r e
 | _,[],_,_,_,_,_,h2=>by simp at h2
 | _,e::es,i,_,_,h,h1,h2=>by
   obtain ⟨r,rs,rfl,h3,h4⟩:=h
   cases i with
   | zero=>cases h1;cases h2;exact h3
   | succ i=>exact h4.get (i:=i) (by simpa using h1) (by simpa using h2)
def tnRow (nm:By) (vl vc vr:Value) (low high:Int) (ex:List Value) (vt:Value) (most:Int) (vk:Value) (budget:Int) (t:Tim):List Value :=
 [str nm,vl,vc,vr,.int .i64 low,.int .i64 high]++ex++[vt,.int .i64 most,vk,.int .i64 budget,.int .i64 t.q,.int .i64 t.b,.int .i64 t.g,.int .i64 t.p,.int .i64 t.s]
def TnAt (Z:St) (cells:List Value) (T:Tn):Prop :=
 ∃ vl vc vr ex vt vk,cells=tnRow T.name vl vc vr T.low T.high ex vt T.most vk T.budget T.t/\Lots Z vl T.lots/\Crits Z vc T.crits/\Reqs Z vr T.reqs/\ExAt Z ex T.f/\Strs Z vt T.ties/\Combos Z vk T.combos
theorem Ints.mono {Z Z':St}{v:Value}{l:List Int}(h:Ints Z v l) (hE:Ext Z Z'):Ints Z' v l:=SL.mono h hE
theorem Combos.mono {Z Z':St}{v:Value}{l:List (List Int)}(h:Combos Z v l) (hE:Ext Z Z'):Combos Z' v l:=by
 obtain ⟨vs,h1,h2⟩:=h
 exact ⟨vs,h1.mono hE,h2.mono fun _ _ h=>h.mono hE⟩
theorem TnAt.mono {Z Z':St}{cells:List Value}{T:Tn}(h:TnAt Z cells T) (hE:Ext Z Z'):TnAt Z' cells T:=by
 obtain ⟨vl,vc,vr,ex,vt,vk,h1,h2,h3,h4,h5,h6,h7⟩:=h
 exact ⟨vl,vc,vr,ex,vt,vk,h1,SL.mono h2 hE,SL.mono h3 hE,SL.mono h4 hE,h5.mono hE,h6.mono hE,h7.mono hE⟩
theorem ExAt.len {Z:St}{row:List Value}:∀ {e:Ex},ExAt Z row e->row.length=5
 | .mk _ _ _ _ _,h=>by obtain ⟨v,rows,rfl,-,-⟩:=h;rfl
theorem TnAt.len {Z:St}{cells:List Value}{T:Tn}(h:TnAt Z cells T):cells.length=20:=by
 obtain ⟨vl,vc,vr,ex,vt,vk,rfl,-,-,-,h5,-⟩:=h
 simp [tnRow,h5.len]
def names:List By:=[[113,117,97,108,105,116,121],[100,97,121,115],[115,116,97,102,102],[112,114,105,99,101],[108,111,119],[115,112,101,101,100],[99,111,109,102,111,114,116],[119,101,105,103,104,116]]
structure Tn.Ok (T:Tn):Prop where
 lots:T.lots.length<=16
 lot:∀ l∈T.lots,0<=l.id/\l.id<10/\In64 l.most
 crits:T.crits.length<=16
 crit:∀ c∈T.crits,c.name∈names/\In64 c.kind/\In64 c.low/\In64 c.high
 reqs:T.reqs.length<=8
 req:∀ r∈T.reqs,r.name∈names/\r.rel.length<=2/\In64 r.value
 low:In64 T.low
 high:In64 T.high
 ties:T.ties.length<=16
 tie:∀ s∈T.ties,s∈names
 most:In64 T.most
 combos:T.combos.length<=16
 combo:∀ l∈T.combos,l.length<=4/\∀ n∈l,In64 n
 budget:In64 T.budget
 tim:In64 T.t.q/\In64 T.t.b/\In64 T.t.g/\In64 T.t.p/\In64 T.t.s
end Go.Proofs.T
namespace Go.Proofs.T
open Go Go.Ab
open Nat (reduceMul reduceEqDiff reduceAdd)
set_option maxRecDepth 100000
def letB (n:Int):Bool:=(!decide (n<97)&& !decide (122<n))||(!decide (n<65)&& !decide (90<n))
def digB (n:Int):Bool:= !decide (n<48)&& !decide (57<n)
def folB (n:Int):Bool:=letB n||digB n||decide (n=95)
theorem yu_t:yieldOf true undefV=false:=rfl
theorem yu_f:yieldOf false undefV=false:=rfl
theorem letter_ok {Z:St}{n:Int}:Ev (go Tryz.prog HS (.fn 85) [.int .u8 n] Z) (fun r=>r=⟨false,.bool (letB n),Z⟩) ⟨⟩:=by
 refine ev_go Tryz.func85 rfl rfl ?_
 unfold letB
 cases a:decide (n<97) <;> cases b:decide (122<n) <;> cases c:decide (n<65) <;> cases d:decide (90<n) <;> simp (maxSteps:=8000000) (disch:=first|exact dS|fail) only [↓bD,bW,reduceMul,reduceEqDiff,reduceAdd,Nat.reduceBEq,reduceIte,Option.isNone_none,a,b,c,d,yu_t,yu_f,Tryz.results85] <;> rfl
theorem digit_ok {Z:St}{n:Int}:Ev (go Tryz.prog HS (.fn 88) [.int .u8 n] Z) (fun r=>r=⟨false,.bool (digB n),Z⟩) ⟨⟩:=by
 refine ev_go Tryz.func88 rfl rfl ?_
 unfold digB
 cases a:decide (n<48) <;> cases b:decide (57<n) <;> simp (maxSteps:=8000000) (disch:=first|exact dS|fail) only [↓bD,bW,reduceMul,reduceEqDiff,reduceAdd,Nat.reduceBEq,reduceIte,Option.isNone_none,a,b,yu_t,yu_f,Tryz.results88] <;> rfl
theorem inname_ok {Z:St}{n:Int}:Ev (go Tryz.prog HS (.fn 87) [.int .u8 n] Z) (fun r=>r=⟨false,.bool (folB n),Z⟩) ⟨⟩:=by
 refine ev_go Tryz.func87 rfl rfl ?_
 refine gS ?_
 refine letter_ok.mono ?_
 rintro r rfl
 unfold folB
 cases a:letB n
 ·refine gS1 (aI @a (aI @yu_t @yu_f)) ?_
  refine digit_ok.mono ?_
  rintro r rfl
  cases b:digB n <;> cases c:decide (n=95) <;> simp (maxSteps:=8000000) (disch:=first|exact dS|fail) only [↓bD,bW,reduceMul,reduceEqDiff,reduceAdd,Nat.reduceBEq,reduceIte,Option.isNone_none,a,b,c,yu_t,yu_f,Tryz.results87] <;> rfl
 ·cases c:decide (n=95) <;> simp (maxSteps:=8000000) (disch:=first|exact dS|fail) only [↓bD,bW,reduceMul,reduceEqDiff,reduceAdd,Nat.reduceBEq,reduceIte,Option.isNone_none,a,c,yu_t,yu_f,Tryz.results87] <;> rfl
def Tests (g:Nat) (p:Int->Bool):Prop:=∀ (Z:St) (n:Int),Ev (go Tryz.prog HS (.fn g) [.int .u8 n] Z) (fun r=>r=⟨false,.bool (p n),Z⟩) ⟨⟩
theorem tests_digit:Tests 88 digB:=fun _ _=>digit_ok
theorem tests_name:Tests 87 folB:=fun _ _=>inname_ok
def on (p:Int->Bool) (c:UInt8):Bool:=p (c.toNat:Nat)
def runs (p:Int->Bool) (s:By) (k:Nat):Nat:=((s.drop k).takeWhile (on p)).length
theorem runs_le (p:Int->Bool) (s:By) (k:Nat):k<=s.length->k+runs p s k<=s.length:=by
 intro h
 have:=(List.takeWhile_sublist (on p) (l:=s.drop k)).length_le
 rw [List.length_drop] at this
 unfold runs;omega
theorem tw_get {α:Type}{p:α->Bool}:∀ {l:List α}{j:Nat},j<(l.takeWhile p).length->∃ c,l[j]? =some c/\p c=true:=by
 intro l
 induction l with
 | nil=>intro j h;simp at h
 | cons x l ih =>
   intro j h
   rw [List.takeWhile_cons] at h
   cases hp:p x with
   | false=>rw [hp] at h;simp at h
   | true =>
     rw [hp] at h
     cases j with
     | zero=>exact ⟨x,rfl,hp⟩
     | succ j=>simpa using ih (by simpa using h)
theorem tw_end {α:Type}{p:α->Bool}:∀ {l:List α},l[(l.takeWhile p).length]? =none\/∃ c,l[(l.takeWhile p).length]? =some c/\p c=false:=by
 intro l
 induction l with
 | nil=>exact .inl rfl
 | cons x l ih =>
   rw [List.takeWhile_cons]
   cases hp:p x with
   | false=>exact .inr ⟨x,by simp,hp⟩
   | true=>simpa using ih
theorem oneB_one {c:UInt8}:oneB [c]=some (.int .u8 (c.toNat:Nat)):=rfl
theorem sub_at1 {α:Type}{l:List α}{k:Nat}{a:α}(h:l[k]? =some a):sub l k 1=some [a]:=by
 obtain ⟨h1,h2⟩:=List.getElem?_eq_some_iff.1 h
 rw [sub_of om,List.drop_eq_getElem_cons h1,h2];rfl
set_option maxHeartbeats 1000000 in
theorem run_ok {g:Nat}{p:Int->Bool}(hp:Tests g p){Z:St}{s:By}{k:Nat}(hk:k<=s.length) (hs:s.length<9223372036854775807) :
  Ev (go Tryz.prog HS (.fn 86) [str s,.int .i64 k,.func (.func g) #[] #[]] Z) (fun r=>r=⟨false,.int .i64 (k+runs p s k:Nat),Z⟩) ⟨⟩:=by
 refine ev_go Tryz.func86 rfl rfl ?_
 have hle:=runs_le p s k hk
 refine gS ?_
 refine ev_count (runs p s k) (fun j fr Z'=>fr.get 1=some (.int .i64 (k+j:Nat))/\fr.get 0=some (str s)/\fr.get 2=some (.func (.func g) #[] #[])/\Z'=Z)
  (fun r=>∃ fr,r=⟨.exit 0,fr,Z⟩/\fr.get 1=some (.int .i64 (k+runs p s k:Nat))) ?_ ?_ ?_ ?_
 ·exact ⟨fR,fR,fR,rfl⟩
 ·rintro j fr Z' hj ⟨g1,g0,g2,rfl⟩
  obtain ⟨c,hc,hpc⟩:=tw_get (show j<((s.drop k).takeWhile (on p)).length from hj)
  rw [List.getElem?_drop] at hc
  have hlt:k+j<s.length:=(List.getElem?_eq_some_iff.1 hc).1
  have e1:decide (((k+j:Nat):Int)<(s.length:Int))=true:=by rw [decide_eq_true_iff];omega
  have h1:=sub_at1 hc
  refine gS1 (aI @g1 (aI @g0 (aI @g2 (aI @e1 (aI @h1 (aI @oneB_one (aI @yu_t @yu_f))))))) ?_
  refine (hp _ _).mono ?_
  rintro r rfl
  have hpc':p (c.toNat:Nat)=true:=hpc
  refine gS1 (aI @g1 (aI @g0 (aI @g2 (aI @e1 (aI @hpc' (aI @yu_t @yu_f)))))) ?_
  have ee:((k+j:Nat):Int)+1=((k+(j+1):Nat):Int):=om
  exact ⟨fR1 ee,fR1 g0,fR1 g2,by trivial⟩
 ·rintro fr Z' ⟨g1,g0,g2,rfl⟩
  rcases (show (s.drop k)[runs p s k]? =none\/∃ c,(s.drop k)[runs p s k]? =some c/\on p c=false from tw_end) with hc|⟨c,hc,hpc⟩
  ·rw [List.getElem?_drop] at hc
   have hge:¬ (k+runs p s k<s.length):=fun h=>by rw [List.getElem?_eq_getElem h] at hc;cases hc
   have e1:decide (((k+runs p s k:Nat):Int)<(s.length:Int))=false:=by rw [decide_eq_false_iff_not];omega
   refine gS1 (aI @g1 (aI @g0 (aI @g2 (aI @e1 (aI @yu_t @yu_f))))) ?_
   exact ⟨_,rfl,fR1 g1⟩
  ·rw [List.getElem?_drop] at hc
   have hlt:k+runs p s k<s.length:=(List.getElem?_eq_some_iff.1 hc).1
   have e1:decide (((k+runs p s k:Nat):Int)<(s.length:Int))=true:=by rw [decide_eq_true_iff];omega
   have h1:=sub_at1 hc
   refine gS1 (aI @g1 (aI @g0 (aI @g2 (aI @e1 (aI @h1 (aI @oneB_one (aI @yu_t @yu_f))))))) ?_
   refine (hp _ _).mono ?_
   rintro r rfl
   have hpc':p (c.toNat:Nat)=false:=hpc
   refine gS1 (aI @g1 (aI @g0 (aI @g2 (aI @e1 (aI @hpc' (aI @yu_t @yu_f)))))) ?_
   exact ⟨_,rfl,fR1 g1⟩
 rintro r ⟨fr,rfl,g1⟩
 refine gS1 (aI @g1 @Tryz.results86) ?_;try exact ⟨⟩
end Go.Proofs.T
namespace Go.Proofs.T
open Go Go.Ab
open Nat (reduceMul reduceEqDiff reduceAdd)
set_option maxRecDepth 100000
section
variable {Z:St}
def among (l:List (List UInt8)) (s:List UInt8):Nat->Bool
 | 0=>false
 | k+1=>among l s k||decide (l[k]? =some s)
end
theorem tw_all {α:Type}{p:α->Bool}:∀ {l:List α},(l.takeWhile p).length=l.length↔l.all p=true:=by
 intro l
 induction l with
 | nil=>simp
 | cons x l ih =>
   rw [List.takeWhile_cons,List.all_cons]
   cases hp:p x with
   | false=>simp
   | true=>simpa using ih
theorem runs_all {p:Int->Bool}{s:By}:runs p s 0=s.length↔s.all (on p)=true:=by
 unfold runs
 rw [List.drop_zero];exact tw_all
def headB (p:Int->Bool) (s:By):Bool:=match s with
 | c::_=>on p c
 | []=>false
theorem headB_cons {p:Int->Bool}{c:UInt8}{s:By}:headB p (c::s)=on p c:=rfl
def nameB (s:By):Bool:=headB letB s&&decide (s.length<=30)&&s.all (on folB)
def zero1 (s:By):Bool:=match s with
 | [_]=>true
 | c::_=> !decide (c=48)
 | []=>false
def numB (s:By):Bool:=headB digB s&&s.all (on digB)&&zero1 s
def words4:List By:=[[112,114,105,99,101],[108,111,119],[109,105,110],[109,97,120]]
def wordB (s:By):Bool:=nameB s&& !(words4.contains s)
set_option maxHeartbeats 1000000 in
theorem isname_ok {Z:St}{s:By}(hs:s.length<9223372036854775807):Ev (go Tryz.prog HS (.fn 94) [str s] Z) (fun r=>r=⟨false,.bool (nameB s),Z⟩) ⟨⟩:=by
 refine ev_go Tryz.func94 rfl rfl ?_
 cases s with
 | nil =>
   have d0:decide (([]:By)=[])=true:=rfl
   refine gS1 (aI @d0 (aI @yu_t (aI @yu_f @Tryz.results94))) ?_
   rfl
 | cons c s =>
   have d0:decide (c::s=([]:By))=false:=rfl
   have h1:sub (c::s) 0 1=some [c]:=sub_at1 rfl
   by_cases hl:30<(c::s).length
   ·have e1:decide (30<((c::s).length:Int))=true:=by rw [decide_eq_true_iff];omega
    have hb:nameB (c::s)=false:=by unfold nameB;rw [decide_eq_false (show ¬ (c::s).length<=30 by omega)];simp
    simp only [List.length_cons] at e1
    refine gS1 (aI @d0 (aI @e1 (aI @hb (aI @yu_t (aI @yu_f @Tryz.results94))))) ?_;try exact ⟨⟩
   have e1:decide (30<((c::s).length:Int))=false:=by rw [decide_eq_false_iff_not];omega
   have hl':decide ((c::s).length<=30)=true:=decide_eq_true om
   have e2:=e1
   simp only [List.length_cons] at e2
   refine gS1 (aI @d0 (aI @e2 (aI @h1 (aI @oneB_one (aI @yu_t @yu_f))))) ?_
   refine letter_ok.mono ?_
   rintro r rfl
   cases a:letB (c.toNat:Nat) with
   | false =>
     have hb:nameB (c::s)=false:=by
      unfold nameB
      rw [headB_cons,show on letB c=false from a];rfl
     refine gS1 (aI @d0 (aI @e2 (aI @hb (aI @a (aI @yu_t (aI @yu_f @Tryz.results94)))))) ?_;try exact ⟨⟩
   | true =>
     refine gS1 (aI @d0 (aI @e2 (aI @a (aI @yu_t @yu_f)))) ?_
     refine (run_ok (k:=0) tests_name (Nat.zero_le _) hs).mono ?_
     rintro r rfl
     rw [Nat.zero_add]
     have hiff:=runs_all (p:=folB) (s:=c::s)
     have hq:decide ((runs folB (c::s) 0:Int)=((s.length+1:Nat):Int))=nameB (c::s):=by
      unfold nameB
      rw [headB_cons,show on letB c=true from a,hl',Bool.true_and,Bool.true_and,Bool.eq_iff_iff,decide_eq_true_iff,<- hiff]
      simp only [List.length_cons]
      omega
     refine gS1 (aI @d0 (aI @e2 (aI @a (aI @yu_t (aI @yu_f (aI @Tryz.results94 @hq)))))) ?_;try exact ⟨⟩
theorem isnumber_ok {Z:St}{s:By}(hs:s.length<9223372036854775807):Ev (go Tryz.prog HS (.fn 192) [str s] Z) (fun r=>r=⟨false,.bool (numB s),Z⟩) ⟨⟩:=by
 refine ev_go Tryz.func192 rfl rfl ?_
 cases s with
 | nil =>
   have d0:decide (([]:By)=[])=true:=rfl
   refine gS1 (aI @d0 (aI @yu_t (aI @yu_f @Tryz.results192))) ?_
   rfl
 | cons c s =>
   have d0:decide (c::s=([]:By))=false:=rfl
   have h1:sub (c::s) 0 1=some [c]:=sub_at1 rfl
   refine gS1 (aI @d0 (aI @yu_t @yu_f)) ?_
   refine (run_ok (k:=0) tests_digit (Nat.zero_le _) hs).mono ?_
   rintro r rfl
   rw [Nat.zero_add]
   have hiff:=runs_all (p:=digB) (s:=c::s)
   by_cases hall:(c::s).all (on digB)=true
   ·have hq:decide ((runs digB (c::s) 0:Int)=((s.length+1:Nat):Int))=true:=by
     rw [decide_eq_true_iff]
     have:=hiff.2 hall
     simp only [List.length_cons] at this
     omega
    have hh:on digB c=true:=(List.all_eq_true.1 hall) c (by simp)
    cases hz:decide (c::s=([48]:By)) with
    | true =>
      have hb:numB (c::s)=true:=by
       have:=of_decide_eq_true hz
       rw [this];rfl
      refine gS1 (aI @d0 (aI @hq (aI @hz (aI @hb (aI @yu_t (aI @yu_f @Tryz.results192)))))) ?_;try exact ⟨⟩
    | false =>
      have hc48:decide (((c.toNat:Nat):Int)=48)=decide (c=48):=by
       rw [Bool.eq_iff_iff,decide_eq_true_iff,decide_eq_true_iff]
       constructor
       ·intro h
        have:c.toNat=48:=om
        exact UInt8.toNat.inj this
       ·rintro rfl;rfl
      have hb:numB (c::s)= !decide (c=48):=by
       unfold numB
       rw [headB_cons,hh,hall,Bool.true_and,Bool.true_and]
       cases s with
       | nil =>
         have:c≠48:=fun h=>by subst h;simp at hz
         rw [decide_eq_false this];rfl
       | cons d s=>rfl
      refine gS1 (aI @d0 (aI @hq (aI @hz (aI @h1 (aI @oneB_one (aI @hc48 (aI @hb (aI @yu_t (aI @yu_f @Tryz.results192))))))))) ?_;try exact ⟨⟩
   ·have hall':(c::s).all (on digB)=false:=by simpa using hall
    have hq:decide ((runs digB (c::s) 0:Int)=((s.length+1:Nat):Int))=false:=by
     rw [decide_eq_false_iff_not]
     intro h
     exact hall (hiff.1 (by simp only [List.length_cons];omega))
    have hb:numB (c::s)=false:=by unfold numB;rw [hall'];simp
    refine gS1 (aI @d0 (aI @hq (aI @hb (aI @yu_t (aI @yu_f @Tryz.results192))))) ?_;try exact ⟨⟩
end Go.Proofs.T
namespace Go.Proofs.T
open Go Go.Ab
theorem sub_in {cells r:List Value}{o n i m:Nat}(h:sub cells o n=some r) (hi:i+m<=n):sub cells (o+i) m=sub r i m:=by
 obtain ⟨h1,h2⟩:=sub_eq h
 subst h2
 rw [sub_of om,sub_of (by simp;omega)]
 congr 1
 rw [List.drop_take,List.take_take,List.drop_drop]
 congr 1
 omega
theorem at_some {α:Type}{l:List α}{k:Nat}(h:k<l.length):∃ a,l[k]? =some a:=⟨_,List.getElem?_eq_getElem h⟩
theorem getmap {α β:Type}{l:List α}{k:Nat}{a:α}(f:α->β) (h:l[k]? =some a):(l.map f)[k]? =some (f a):=by rw [List.getElem?_map,h];rfl
theorem SL.use' {α:Type}{Z:St}{size:Nat}{v:Value}{l:List α}{f:α->List Value}(h:SL Z size v (l.map f)):∃ a c b off cells,v= .slice a l.length c/\(0<l.length->∃ sp,a=some ⟨b,off,sp⟩/\b<Z.n/\Z.row b=some cells)/\∀ k x,l[k]? =some x->sub cells (off+k*size) size=some (f x):=by
 obtain ⟨a,c,b,off,cells,h1,h2,h3⟩:=SL.use h
 rw [List.length_map] at h1 h2
 exact ⟨a,c,b,off,cells,h1,h2,fun k x hx=>h3 k _ (getmap f hx)⟩
theorem Lots.use {Z:St}{v:Value}{l:List Lot}(h:Lots Z v l):∃ a c b off cells,v= .slice a l.length c/\(0<l.length->∃ sp,a=some ⟨b,off,sp⟩/\b<Z.n/\Z.row b=some cells) /\
  ∀ k x,l[k]? =some x->sub cells (off+k*2) 2=some x.row/\sub cells (off+k*2) 1=some [.int .i64 x.id]/\sub cells (off+k*2+1) 1=some [.int .i64 x.most]:=by
 obtain ⟨a,c,b,off,cells,h1,h2,h3⟩:=SL.use' h
 refine ⟨a,c,b,off,cells,h1,h2,fun k x hx=>?_⟩
 have h:=h3 k x hx
 exact ⟨h,by rw [<- Nat.add_zero (off+k*2),sub_in h om];rfl,by rw [sub_in h om];rfl⟩
theorem Crits.use {Z:St}{v:Value}{l:List Crit}(h:Crits Z v l):∃ a c b off cells,v= .slice a l.length c/\(0<l.length->∃ sp,a=some ⟨b,off,sp⟩/\b<Z.n/\Z.row b=some cells) /\
  ∀ k x,l[k]? =some x->sub cells (off+k*5) 5=some x.row/\sub cells (off+k*5) 1=some [str x.name]/\sub cells (off+k*5+1) 1=some [.int .i64 x.kind]/\sub cells (off+k*5+2) 1=some [.int .i64 x.low]/\sub cells (off+k*5+3) 1=some [.int .i64 x.high]/\sub cells (off+k*5+4) 1=some [.bool x.less]:=by
 obtain ⟨a,c,b,off,cells,h1,h2,h3⟩:=SL.use' h
 refine ⟨a,c,b,off,cells,h1,h2,fun k x hx=>?_⟩
 have h:=h3 k x hx
 exact ⟨h,by rw [<- Nat.add_zero (off+k*5),sub_in h om];rfl,by rw [sub_in h om];rfl,by rw [sub_in h om];rfl,by rw [sub_in h om];rfl,by rw [sub_in h om];rfl⟩
theorem Reqs.use {Z:St}{v:Value}{l:List Req}(h:Reqs Z v l):∃ a c b off cells,v= .slice a l.length c/\(0<l.length->∃ sp,a=some ⟨b,off,sp⟩/\b<Z.n/\Z.row b=some cells) /\
  ∀ k x,l[k]? =some x->sub cells (off+k*3) 3=some x.row/\sub cells (off+k*3) 1=some [str x.name]/\sub cells (off+k*3+1) 1=some [str x.rel]/\sub cells (off+k*3+2) 1=some [.int .i64 x.value]:=by
 obtain ⟨a,c,b,off,cells,h1,h2,h3⟩:=SL.use' h
 refine ⟨a,c,b,off,cells,h1,h2,fun k x hx=>?_⟩
 have h:=h3 k x hx
 exact ⟨h,by rw [<- Nat.add_zero (off+k*3),sub_in h om];rfl,by rw [sub_in h om];rfl,by rw [sub_in h om];rfl⟩
theorem Ints.use {Z:St}{v:Value}{l:List Int}(h:Ints Z v l):∃ a c b off cells,v= .slice a l.length c/\(0<l.length->∃ sp,a=some ⟨b,off,sp⟩/\b<Z.n/\Z.row b=some cells) /\
  ∀ k x,l[k]? =some x->sub cells (off+k) 1=some [.int .i64 x]:=by
 obtain ⟨a,c,b,off,cells,h1,h2,h3⟩:=SL.use' h
 exact ⟨a,c,b,off,cells,h1,h2,fun k x hx=>by have:=h3 k x hx;rwa [Nat.mul_one] at this⟩
end Go.Proofs.T
namespace Go.Proofs.T
open Go Go.Ab
structure Keep (Z Z':St):Prop where
 n:Z.n<=Z'.n
 row:∀ b cells,b<Z.n->Z.row b=some cells->Z'.row b=some cells
theorem Keep.trans {Z Z' Z'':St}(h:Keep Z Z') (k:Keep Z' Z''):Keep Z Z'':=⟨Nat.le_trans h.n k.n,fun b cells hb hr=>k.row b cells (Nat.lt_of_lt_of_le hb h.n) (h.row b cells hb hr)⟩
theorem SL.keep {Z Z':St}{size:Nat}{v:Value}{rows:List (List Value)}(h:SL Z size v rows) (hE:Keep Z Z'):SL Z' size v rows:=by
 rcases h with h|⟨b,off,sp,c,cells,h1,h2,h3,h4⟩
 ·exact .inl h
 ·exact .inr ⟨b,off,sp,c,cells,h1,Nat.lt_of_lt_of_le h2 hE.n,hE.row _ _ h2 h3,h4⟩
mutual
theorem ExAt.keep {Z Z':St}(hE:Keep Z Z'){row:List Value}:∀ {e:Ex},ExAt Z row e->ExAt Z' row e
 | .mk op n d nm args,h=>by
   obtain ⟨v,rows,h1,h2,h4,h3⟩:=h
   exact ⟨v,rows,h1,SL.keep h2 hE,h4,ExsAt.keep hE h3⟩
theorem ExsAt.keep {Z Z':St}(hE:Keep Z Z'){rows:List (List Value)}:∀ {es:List Ex},ExsAt Z rows es->ExsAt Z' rows es
 | [],h=>h
 | e::es,h=>by
   obtain ⟨r,rs,h1,h2,h3⟩:=h
   exact ⟨r,rs,h1,ExAt.keep hE h2,ExsAt.keep hE h3⟩
end
noncomputable def hide (Z:St) (l:List Nat):St:=l.foldl St.dead Z
theorem dead_row_same {Z:St}{b:Nat}:(Z.dead b).row b=none:=by
 show ob (ob (ob ((Z.dead b).h.get b) _) _) _=none
 rw [dead_get,if_pos rfl];rfl
theorem hide_n {l:List Nat}:∀ {Z:St},(hide Z l).n=Z.n:=by
 induction l with
 | nil=>intro Z;rfl
 | cons b l ih=>intro Z;show (hide (Z.dead b) l).n=Z.n;rw [ih];rfl
theorem hide_row {l:List Nat}{c:Nat}:∀ {Z:St},c∉l->(hide Z l).row c=Z.row c:=by
 induction l with
 | nil=>intro Z _;rfl
 | cons b l ih =>
   intro Z h
   show (hide (Z.dead b) l).row c=_
   rw [ih (fun hm=>h (by simp [hm])),row_dead_ne (fun e=>h (by simp [e]))]
theorem hide_none {l:List Nat}{c:Nat}:∀ {Z:St},Z.row c=none->(hide Z l).row c=none:=by
 induction l with
 | nil=>intro Z h;exact h
 | cons b l ih =>
   intro Z h
   show (hide (Z.dead b) l).row c=_
   refine ih ?_
   by_cases e:c=b
   ·subst e;exact dead_row_same
   ·rw [row_dead_ne e];exact h
theorem hide_mem {l:List Nat}{c:Nat}:∀ {Z:St},c∈l->(hide Z l).row c=none:=by
 induction l with
 | nil=>intro Z h;cases h
 | cons b l ih =>
   intro Z h
   show (hide (Z.dead b) l).row c=_
   rcases List.mem_cons.1 h with rfl|h
   ·exact hide_none dead_row_same
   ·exact ih h
theorem keep_hide {Z Z':St}{l l':List Nat}(hn:Z.n<=Z'.n) (h:∀ c,c<Z.n->c∉l->c∉l'/\Z'.row c=Z.row c):Keep (hide Z l) (hide Z' l'):=by
 refine ⟨by rw [hide_n,hide_n];exact hn,fun c cells hc hr=>?_⟩
 rw [hide_n] at hc
 by_cases e:c∈l
 ·rw [hide_mem e] at hr;cases hr
 ·obtain ⟨h1,h2⟩:=h c hc e
  rw [hide_row e] at hr
  rw [hide_row h1,h2];exact hr
theorem keep_ext {Z Z':St}{l:List Nat}(hE:Ext Z Z'):Keep (hide Z l) (hide Z' l):=keep_hide hE.n fun c hc h=>⟨h,hE.row hc⟩
theorem keep_all {Z:St}{l:List Nat}:Keep (hide Z l) Z:=by
 have:=keep_hide (Z:=Z) (Z':=Z) (l:=l) (l':=[]) (Nat.le_refl _) fun c _ _=>⟨by simp,rfl⟩
 exact this
def blks (v:Value):List Nat:=(blkOf v).toList
def Stk (H:List Nat) (lo:Nat) (Z:St) (v:Value) (n:Nat):Prop:=(v= .slice none 0 0/\n=0) \/
 ∃ b c cells,v= .slice (some ⟨b,0,some 5⟩) n c/\n<=c/\lo<=b/\b<Z.n/\Z.orow b=some cells/\cells.length=c*5/\∀ k,k<n->∃ row e,sub cells (k*5) 5=some row/\ExAt (hide Z (b::H)) row e
section
variable {H:List Nat} {lo:Nat} {Z Z':St} {v:Value} {n k:Nat}
theorem Stk.keep (h:Stk H lo Z v n) (hE:Ext Z Z'):Stk H lo Z' v n:=by
 rcases h with h|⟨b,c,cells,h1,h2,h3,h4,h5,h6,h7⟩
 ·exact .inl h
 ·refine .inr ⟨b,c,cells,h1,h2,h3,Nat.lt_of_lt_of_le h4 hE.n,by rw [hE.orow h4];exact h5,h6,fun k hk=>?_⟩
  obtain ⟨row,e,r1,r2⟩:=h7 k hk
  exact ⟨row,e,r1,r2.keep (keep_ext hE)⟩
theorem Stk.shape (h:Stk H lo Z v n):∃ a c,v= .slice a n c:=by
 rcases h with ⟨rfl,rfl⟩|⟨b,c,cells,h1,-⟩
 ·exact ⟨_,_,rfl⟩
 ·exact ⟨_,_,h1⟩
theorem Stk.get (h:Stk H lo Z v n) (hk:k<n):∃ b c cells row e,v= .slice (some ⟨b,0,some 5⟩) n c/\n<=c/\lo<=b/\b<Z.n/\Z.orow b=some cells/\sub cells (k*5) 5=some row/\ExAt (hide Z (b::H)) row e:=by
 rcases h with ⟨rfl,rfl⟩|⟨b,c,cells,h1,h2,h3,h4,h5,h6,h7⟩
 ·omega
 ·obtain ⟨row,e,r1,r2⟩:=h7 k hk
  exact ⟨b,c,cells,row,e,h1,h2,h3,h4,h5,r1,r2⟩
theorem Stk.cut {b c m:Nat}(h:Stk H lo Z (.slice (some ⟨b,0,some 5⟩) n c) n) (hm:m<=n):Stk H lo Z (.slice (some ⟨b,0,some 5⟩) m c) m:=by
 rcases h with ⟨h,-⟩|⟨b',c',cells,h1,h2,h3,h4,h5,h6,h7⟩
 ·cases h
 ·cases h1
  exact .inr ⟨b,c,cells,rfl,om,h3,h4,h5,h6,fun k hk=>h7 k om⟩
theorem Stk.blk {b:Nat}(h:Stk H lo Z v n) (hb:blkOf v=some b):lo<=b/\b<Z.n:=by
 rcases h with ⟨rfl,rfl⟩|⟨b',c,cells,rfl,h2,h3,h4,-⟩
 ·cases hb
 ·cases hb;exact ⟨h3,h4⟩
end
structure Psh (Z Z':St) (v v':Value):Prop where
 n:Z.n<=Z'.n
 same:∀ c,c<Z.n->blkOf v≠some c->Z'.h.get c=Z.h.get c
 blk:∀ b,blkOf v'=some b->blkOf v=some b\/Z.n<=b
theorem Psh.ext {Z0 Z Z':St}{v v':Value}{lo n:Nat}{H:List Nat}(h:Psh Z Z' v v') (hE:Ext Z0 Z) (hl:Stk H lo Z v n) (hlo:Z0.n<=lo):Ext Z0 Z' :=
 ⟨Nat.le_trans hE.n h.n,fun c hc=>by
  rw [h.same c (Nat.lt_of_lt_of_le hc hE.n) (fun hb=>by have:=(hl.blk hb).1;omega),hE.same c hc]⟩
theorem splice_at' {α:Type}{l new:List α}:∀ {o:Nat},o+new.length<=l.length->splice l o new=some (l.take o++new++l.drop (o+new.length)):=by
 intro o
 induction o generalizing l with
 | zero =>
   intro h
   rw [Nat.zero_add] at h ⊢
   have:∀ (new l:List α),new.length<=l.length->over new l=some (new++l.drop new.length):=by
    intro new
    induction new with
    | nil=>intro l _;rfl
    | cons x new ih =>
      intro l h
      cases l with
      | nil=>simp at h
      | cons y l =>
        rw [over_cons,ih l (by simpa using h)];rfl
   rw [List.take_zero,List.nil_append,<- this new l h]
   cases l with
   | nil=>cases new with
     | nil=>rfl
     | cons x new=>simp at h
   | cons y l=>rfl
 | succ o ih =>
   intro h
   cases l with
   | nil=>simp at h
   | cons y l =>
     rw [splice_succ,ih (by simp at h;omega),ob_some]
     rw [show o+1+new.length=(o+new.length)+1 by omega]
     rfl
end Go.Proofs.T
namespace Go.Proofs.T
open Go Go.Ab
structure ExtX (p:Nat) (Z Z':St):Prop where
 n:Z.n<=Z'.n
 same:∀ b,b<Z.n->b≠p->Z'.h.get b=Z.h.get b
section
variable {p:Nat} {Z Z' Z'':St}
theorem ExtX.refl:ExtX p Z Z:=⟨Nat.le_refl _,fun _ _ _=>rfl⟩
theorem ExtX.of (h:Ext Z Z'):ExtX p Z Z':=⟨h.n,fun b hb _=>h.same b hb⟩
theorem ExtX.trans (h:ExtX p Z Z') (k:ExtX p Z' Z''):ExtX p Z Z'':=⟨Nat.le_trans h.n k.n,fun b hb hne=>by rw [k.same b (Nat.lt_of_lt_of_le hb h.n) hne,h.same b hb hne]⟩
theorem ExtX.upd (h:ExtX p Z Z') (cs:List Value):ExtX p Z (Z'.upd p cs):=⟨h.n,fun b hb hne=>by rw [upd_get,if_neg hne,h.same b hb hne]⟩
theorem ExtX.ext {Z0:St}(h:ExtX p Z Z') (h0:Ext Z0 Z) (hp:Z0.n<=p):Ext Z0 Z':=⟨Nat.le_trans h0.n h.n,fun b hb=>by rw [h.same b (Nat.lt_of_lt_of_le hb h0.n) om,h0.same b hb]⟩
theorem ExtX.keep (h:ExtX p Z Z'):Keep (hide Z [p]) (hide Z' [p]):=keep_hide h.n fun c hc hm=>⟨hm,row_congr (h.same c hc (by simpa using hm))⟩
theorem ExtX.row {b:Nat}(h:ExtX p Z Z') (hb:b<Z.n) (hne:b≠p):Z'.row b=Z.row b:=row_congr (h.same b hb hne)
theorem ExtX.orow {b:Nat}(h:ExtX p Z Z') (hb:b<Z.n) (hne:b≠p):Z'.orow b=Z.orow b:=orow_congr (h.same b hb hne)
theorem ExtX.app {v v':Value}{lo size:Nat}{rows:List (List Value)}(h:App Z' Z'' v v') (hE:ExtX p Z Z') (hl:OL lo Z' size v rows) (hlo:Z.n<=lo):ExtX p Z Z'' :=
 ⟨Nat.le_trans hE.n h.n,fun c hc hne=>by
  rw [h.same c (Nat.lt_of_lt_of_le hc hE.n) (fun hb=>by have:=(hl.blk hb).1;omega),hE.same c hc hne]⟩
end
def SLs (Z:St) (size:Nat) (v:Value) (rows:List (List Value)):Prop:=(∀ r∈rows,r.length=size) /\
 ((v= .slice none 0 0/\rows=[])\/∃ b off sp c cells,v= .slice (some ⟨b,off,sp⟩) rows.length c/\b<Z.n/\Z.row b=some cells/\sub cells off (rows.length*size)=some rows.flatten)
theorem SLs.nil {Z:St}{size:Nat}:SLs Z size (.slice none 0 0) []:=⟨fun r h=>by simp at h,.inl ⟨rfl,rfl⟩⟩
theorem SLs.sl {Z:St}{size:Nat}{v:Value}{rows:List (List Value)}(h:SLs Z size v rows):SL Z size v rows:=by
 obtain ⟨hr,h|⟨b,off,sp,c,cells,h1,h2,h3,h4⟩⟩:=h
 ·exact .inl h
 ·refine .inr ⟨b,off,sp,c,cells,h1,h2,h3,fun k r hk=>?_⟩
  have hlt:=(List.getElem?_eq_some_iff.1 hk).1
  have hmul:k*size+size<=rows.length*size:=by
   have:(k+1)*size<=rows.length*size:=Nat.mul_le_mul_right size hlt
   rw [Nat.succ_mul] at this;exact this
  rw [sub_in h4 hmul,<- Nat.add_zero (k*size),sub_rows hr hk om]
  have:=hr r (List.mem_of_getElem? hk)
  exact sub_full om om
theorem SLs.keep {Z Z':St}{size:Nat}{v:Value}{rows:List (List Value)}(h:SLs Z size v rows) (hE:Keep Z Z'):SLs Z' size v rows:=by
 obtain ⟨hr,h|⟨b,off,sp,c,cells,h1,h2,h3,h4⟩⟩:=h
 ·exact ⟨hr,.inl h⟩
 ·exact ⟨hr,.inr ⟨b,off,sp,c,cells,h1,Nat.lt_of_lt_of_le h2 hE.n,hE.row _ _ h2 h3,h4⟩⟩
theorem SLs.src {Z:St}{size:Nat}{v:Value}{rows:List (List Value)}(h:SLs Z size v rows):srcCells Z size v=some (rows.length,rows.flatten):=by
 obtain ⟨hr,⟨rfl,rfl⟩|⟨b,off,sp,c,cells,rfl,h2,h3,h4⟩⟩:=h
 ·rfl
 ·rw [src_slice,read_eq,h3,ob_some,h4,ob_some]
theorem SLs.shape {Z:St}{size:Nat}{v:Value}{rows:List (List Value)}(h:SLs Z size v rows):∃ a c,v= .slice a rows.length c:=by
 obtain ⟨hr,⟨rfl,rfl⟩|⟨b,off,sp,c,cells,rfl,-⟩⟩:=h
 ·exact ⟨_,_,rfl⟩
 ·exact ⟨_,_,rfl⟩
theorem OL.hide {lo:Nat}{Z:St}{size:Nat}{v:Value}{rows:List (List Value)}{H:List Nat}(h:OL lo Z size v rows) (hH:∀ q∈H,q<lo):SLs (hide Z H) size v rows:=by
 obtain ⟨hr,⟨rfl,rfl⟩|⟨b,sp,rfl,hs,h1,h2,h3⟩⟩:=h
 ·exact .nil
 ·have:=flatten_len rows hr
  exact ⟨hr,.inr ⟨b,0,sp,_,_,rfl,by rw [hide_n];exact h2,by rw [hide_row fun hm=>by have:=hH b hm;omega];exact row_of h3,sub_full om om⟩⟩
theorem OL.shape {lo:Nat}{Z:St}{size:Nat}{v:Value}{rows:List (List Value)}(h:OL lo Z size v rows):∃ a,v= .slice a rows.length rows.length:=by
 obtain ⟨hr,⟨rfl,rfl⟩|⟨b,sp,rfl,-⟩⟩:=h
 ·exact ⟨_,rfl⟩
 ·exact ⟨_,rfl⟩
theorem OL.keepX {p lo:Nat}{Z Z':St}{size:Nat}{v:Value}{rows:List (List Value)}(h:OL lo Z size v rows) (hE:ExtX p Z Z') (hp:p<lo):OL lo Z' size v rows:=by
 refine h.keep hE.n fun b hb=>?_
 have:=h.blk hb
 exact hE.same b this.2 om
def TnX (Z:St) (cells:List Value) (T:Tn):Prop :=
 ∃ vl vc vr ex vt vk vs,cells=tnRow T.name vl vc vr T.low T.high ex vt T.most vk T.budget T.t/\SLs Z 2 vl (T.lots.map Lot.row)/\SLs Z 5 vc (T.crits.map Crit.row)/\SLs Z 3 vr (T.reqs.map Req.row)/\ExAt Z ex T.f /\
  SLs Z 1 vt (T.ties.map fun s=>[str s])/\SLs Z 1 vk (vs.map fun x=>[x])/\All2 (Ints Z) vs T.combos
theorem TnX.keep {Z Z':St}{cells:List Value}{T:Tn}(h:TnX Z cells T) (hE:Keep Z Z'):TnX Z' cells T:=by
 obtain ⟨vl,vc,vr,ex,vt,vk,vs,h1,h2,h3,h4,h5,h6,h7,h8⟩:=h
 exact ⟨vl,vc,vr,ex,vt,vk,vs,h1,h2.keep hE,h3.keep hE,h4.keep hE,h5.keep hE,h6.keep hE,h7.keep hE,h8.mono fun _ _ h=>SL.keep h hE⟩
def Tn.Le (n:Nat) (T:Tn):Prop:=T.lots.length<=n/\T.crits.length<=n/\T.reqs.length<=n/\T.ties.length<=n/\T.combos.length<=n
end Go.Proofs.T
namespace Go.Proofs.T
open Go Go.Ab
open Nat (reduceMul reduceEqDiff reduceAdd)
set_option maxRecDepth 100000
abbrev Tok:=By×Nat
def tokC (t:Tok):List Value:=[str t.1,.int .i64 (t.2:Nat)]
structure Sc (Z:St) (b:Nat) (v:Value) (toks:List Tok) (k:Nat) (rest:List Value):Prop where
 row:Z.orow b=some (v:: .int .i64 (k:Nat)::rest)
 lt:b<Z.n
 sl:SL Z 2 v (toks.map tokC)
 ne:blkOf v≠some b
 k:k<toks.length
 len:toks.length<4611686018427387904
def ptr (b:Nat):Value:= .pointer (some ⟨b,0,none⟩)
theorem Sc.ext {Z Z':St}{b:Nat}{v:Value}{toks:List Tok}{k:Nat}{rest:List Value}(h:Sc Z b v toks k rest) (hE:Ext Z Z'):Sc Z' b v toks k rest :=
 ⟨by rw [orow_congr (hE.same b h.lt)];exact h.row,Nat.lt_of_lt_of_le h.lt hE.n,h.sl.mono hE,h.ne,h.k,h.len⟩
theorem SL.keepX0 {p:Nat}{Z Z':St}{size:Nat}{v:Value}{rows:List (List Value)}(h:SL Z size v rows) (hE:ExtX p Z Z') (hp:blkOf v≠some p):SL Z' size v rows:=by
 rcases h with h|⟨b,off,sp,c,cells,rfl,h2,h3,h4⟩
 ·exact .inl h
 ·exact .inr ⟨b,off,sp,c,cells,rfl,Nat.lt_of_lt_of_le h2 hE.n,by rw [hE.row h2 (fun he=>hp (by rw [<- he];rfl))];exact h3,h4⟩
theorem Sc.extX {Z Z':St}{b:Nat}{v:Value}{toks:List Tok}{k k':Nat}{rest rest':List Value}(h:Sc Z b v toks k rest) (hE:ExtX b Z Z') (hr:Z'.orow b=some (v:: .int .i64 (k':Nat)::rest')) (hk:k'<toks.length):Sc Z' b v toks k' rest' :=
 ⟨hr,Nat.lt_of_lt_of_le h.lt hE.n,SL.keepX0 h.sl hE h.ne,h.ne,hk,h.len⟩
theorem ExtX.updF {p:Nat}{Z Z':St}{c:Nat}(h:ExtX p Z Z') (hc:Z.n<=c) (cs:List Value):ExtX p Z (Z'.upd c cs):=⟨h.n,fun b hb hne=>by rw [upd_get,if_neg om,h.same b hb hne]⟩
theorem ExtX.newF {p:Nat}{Z Z':St}{t:Option TypeId}(h:ExtX p Z Z') (cs:List Value):ExtX p Z (Z'.new cs t):=h.trans (.of (.new _ _))
theorem eXX {q:Prop}(h:q:=by (repeat' (first|assumption|exact ExtX.refl|exact ExtX.of (by assumption)|refine ExtX.newF ?_ _|refine ExtX.upd ?_ _|refine ExtX.updF ?_ (by (try simp only [bunM]) <;> omega) _))):q:=h
theorem peek_ok {Z:St}{b:Nat}{v:Value}{toks:List Tok}{k:Nat}{rest:List Value}(h:Sc Z b v toks k rest){t:Tok}(ht:toks[k]? =some t) :
  Ev (go Tryz.prog HS (.fn 73) [ptr b] Z) (fun r=>∃ Z',r=⟨false,.agg ⟨[str t.1,.int .i64 (t.2:Nat)]⟩,Z'⟩/\Ext Z Z') ⟨⟩:=by
 obtain ⟨h1,h2,h3,h4,h5,h6⟩:=h
 obtain ⟨a,c,b2,off,cells,rfl,k1,k2⟩:=h3.use
 rw [List.length_map] at *
 obtain ⟨sp,rfl,k3,k4⟩:=k1 om
 have hr:=row_of h1
 have hk:sub cells (off+k*2) 2=some [str t.1,.int .i64 (t.2:Nat)]:=k2 k (tokC t) (by rw [List.getElem?_map,ht];rfl)
 have hlt:decide (k<toks.length)=true:=lt_true h5
 refine ev_go Tryz.func73 rfl rfl ?_
 unfold ptr
 refine gS1 (aI @hr (aI @k4 (aI @hk @hlt))) ?_
 refine Must.intro (by (repeat first|simp (disch:=omega) only [as_read,as_upd,as_newb]|rw [as_ord (by kernel_rfl)]);first|done|rfl) ?_
 refine gS1 @Tryz.results73 ?_
 exact ⟨_,rfl,eX⟩
theorem take_ok {Z:St}{b:Nat}{v:Value}{toks:List Tok}{k:Nat}{rest:List Value}(h:Sc Z b v toks k rest){t:Tok}(ht:toks[k]? =some t) :
  Ev (go Tryz.prog HS (.fn 75) [ptr b] Z) (fun r=>∃ Z',r=⟨false,.agg ⟨[str t.1,.int .i64 (t.2:Nat)]⟩,Z'⟩/\ExtX b Z Z'/\Z'.orow b=some (v:: .int .i64 (k+1:Nat)::rest)) ⟨⟩:=by
 have hk:=h.k
 have hl:=h.len
 have hlt:=h.lt
 refine ev_go Tryz.func75 rfl rfl ?_
 refine gS ?_
 have hx:Sc (Z.new [str [],.int .i64 0] (some 138)) b v toks k rest:=h.ext (.new _ _)
 refine (peek_ok hx ht).mono ?_
 rintro r ⟨Z2,rfl,hE2⟩
 have hE:Ext Z Z2:=(Ext.new _ _).trans hE2
 have h2:=h.ext hE
 have ro:=h2.row
 have rr:=row_of ro
 have r1:Z2.orow Z.n=some [str [],.int .i64 0]:=by rw [orow_congr (hE2.same Z.n (by simp))];exact cL
 have hn2:Z.n<Z2.n:=by have:=hE2.n;simp at this;omega
 have e1:((k:Nat):Int)+1=((k+1:Nat):Int):=om
 have hbn:b≠Z.n:=om
 unfold ptr
 refine gS1 (aI @rr (aI @ro (aI @r1 (aI @e1 @Tryz.results75)))) ?_
 exact ⟨_,rfl,eXX,cL⟩
def fault (at':Nat) (e:Int):Value:= .iface 86 (.agg ⟨[.int .i64 (at':Nat),.int .i64 e]⟩)
theorem fail_ok {Z:St}{b:Nat}{v:Value}{toks:List Tok}{k:Nat}{rest:List Value}(h:Sc Z b v toks k rest){t:Tok}(ht:toks[k]? =some t){e:Int} :
  Ev (go Tryz.prog HS (.fn 130) [ptr b,.int .i64 e] Z) (fun r=>∃ Z',r=⟨true,fault t.2 e,Z'⟩/\Ext Z Z') ⟨⟩:=by
 refine ev_go Tryz.func130 rfl rfl ?_
 refine gS ?_
 refine (peek_ok h ht).mono ?_
 rintro r ⟨Z2,rfl,hE2⟩
 refine gS1 @nv_pan ?_
 exact ⟨_,rfl,hE2⟩
theorem need_ok {Z:St}{b:Nat}{v:Value}{toks:List Tok}{k:Nat}{rest:List Value}(h:Sc Z b v toks k rest){t:Tok}(ht:toks[k]? =some t){e:Int}{ok:Bool} :
  Ev (go Tryz.prog HS (.fn 74) [ptr b,.bool ok,.int .i64 e] Z) (fun r=>(ok=true/\r=⟨false,.tuple ⟨[]⟩,Z⟩)\/(ok=false/\∃ Z',r=⟨true,fault t.2 e,Z'⟩/\Ext Z Z')) ⟨⟩:=by
 refine ev_go Tryz.func74 rfl rfl ?_
 cases ok with
 | true =>
   refine gS1 @Tryz.results74 ?_
   exact .inl ⟨True.intro,True.intro⟩
 | false =>
   refine gS ?_
   refine (fail_ok h ht).mono ?_
   rintro r ⟨Z2,rfl,hE2⟩
   refine gS ?_
   exact .inr ⟨True.intro,_,rfl,hE2⟩
end Go.Proofs.T
namespace Go.Proofs.T
open Go Go.Ab
open Nat (reduceMul reduceEqDiff reduceAdd)
set_option maxRecDepth 100000
theorem ofU8_id {c:UInt8}:ofU8 ((c.toNat:Nat):Int)=c:=by
 show UInt8.ofNat c.toNat=c
 simp
theorem d10:decide (((1:Nat):Int)=0)=false:=rfl
theorem d11:decide (((1:Nat):Int)=1)=true:=rfl
theorem idxE {Z:St}{s:By}{c:UInt8}{Q:CR->Prop}{uq:Hd Q}:Ev (go Tryz.prog HS (.fn 231) [str s,.int .u8 (c.toNat:Nat)] Z) Q uq=Q ⟨false,.int .i64 (idxL c s),Z⟩:=by
 show Ev (some ⟨false,.int .i64 (idxL (ofU8 ((c.toNat:Nat):Int)) s),Z⟩) Q _=_
 rw [ev_some,ofU8_id]
theorem sliteindexbyte_ok {Z:St}{s:By}{c:UInt8}:Ev (go Tryz.prog HS (.fn 218) [str s,.int .u8 (c.toNat:Nat)] Z) (fun r=>r=⟨false,.int .i64 (idxL c s),Z⟩) ⟨⟩:=by
 refine ev_go Tryz.func218 rfl rfl ?_
 refine gS1 (aI @idxE @Tryz.results218) ?_;try exact ⟨⟩
theorem sliteindex_ok {Z:St}{s:By}{c:UInt8}:Ev (go Tryz.prog HS (.fn 202) [str s,str [c]] Z) (fun r=>r=⟨false,.int .i64 (idxL c s),Z⟩) ⟨⟩:=by
 refine ev_go Tryz.func202 rfl rfl ?_
 have h1:sub [c] 0 1=some [c]:=rfl
 cases hd:decide ([c]=s) with
 | true =>
   obtain rfl:=of_decide_eq_true hd
   have h0:idxL c [c]=0:=by show bi (Nat.beq c.toNat c.toNat) 0 _=0;rw [Nat.beq_refl];rfl
   refine gS1 (aI @h1 (aI @oneB_one (aI @yu_t (aI @yu_f (aI @d10 (aI @d11 (aI @hd (aI @h0 @Tryz.results202)))))))) ?_;try exact ⟨⟩
 | false =>
   refine gS1 (aI @h1 (aI @oneB_one (aI @yu_t (aI @yu_f (aI @d10 (aI @d11 @hd)))))) ?_
   refine sliteindexbyte_ok.mono ?_
   rintro r rfl
   refine gS1 @Tryz.results202 ?_;try exact ⟨⟩
theorem index_ok {Z:St}{s:By}{c:UInt8}:Ev (go Tryz.prog HS (.fn 169) [str s,str [c]] Z) (fun r=>r=⟨false,.int .i64 (idxL c s),Z⟩) ⟨⟩:=by
 refine ev_go Tryz.func169 rfl rfl ?_
 refine gS ?_
 refine sliteindex_ok.mono ?_
 rintro r rfl
 refine gS1 @Tryz.results169 ?_;try exact ⟨⟩
def cut (l:List By) (n i:Nat):List Value:=(l.take i).map str++List.replicate (n-i) (str [])
end Go.Proofs.T
namespace Go.Proofs.T
open Go Go.Ab
set_option maxRecDepth 100000
end Go.Proofs.T
namespace Go.Proofs.T
open Go Go.Ab
set_option maxRecDepth 100000
theorem valN_snoc (s:By) (c:UInt8):valN (s++[c])=10*valN s+(c.toNat-48):=by simp [valN,List.foldl_append]
theorem dig_range {c:UInt8}(h:on digB c=true):48<=c.toNat/\c.toNat<=57:=by
 unfold on digB at h
 simp at h
 omega
theorem dg_on {c:UInt8}:dg c=on digB c:=by
 unfold dg on digB
 rw [Bool.eq_iff_iff]
 simp
 try omega
theorem all_dg {s:By}(h:s.all (on digB)=true):s.all dg=true:=by
 rw [List.all_eq_true] at h ⊢
 exact fun c hc=>by rw [dg_on];exact h c hc
theorem atoi_eq {Z:St}{s:By}(h:s.all (on digB)=true) (h1:0<s.length) (h2:s.length<=1000000000) :
  (valN s<9223372036854775808/\go Tryz.prog HS (.fn 216) [str s] Z=some ⟨false,.tuple ⟨[.int .i64 (valN s:Nat),.nilIface]⟩,Z⟩) \/
  (9223372036854775808<=valN s/\go Tryz.prog HS (.fn 216) [str s] Z=some ⟨false,.tuple ⟨[.int .i64 9223372036854775807,.iface 261 (.pointer (some ⟨Z.n,0,none⟩))]⟩,Z.new []⟩):=by
 have hg:(s.all dg&&decide (s≠[])&&decide (s.length<=1000000000))=true:=by
  rw [all_dg h,decide_eq_true (by intro e;rw [e] at h1;simp at h1),decide_eq_true h2];rfl
 have e:go Tryz.prog HS (.fn 216) [str s] Z=bb (s.all dg&&decide (s≠[])&&decide (s.length<=1000000000)) (bi (decide (valN s<9223372036854775808)) (some ⟨false,.tuple ⟨[.int .i64 (valN s:Nat),.nilIface]⟩,Z⟩)
   (some ⟨false,.tuple ⟨[.int .i64 9223372036854775807,.iface 261 (.pointer (some ⟨Z.n,0,none⟩))]⟩,Z.new []⟩)):=rfl
 rw [e,hg,bb_true]
 by_cases hv:valN s<9223372036854775808
 ·exact .inl ⟨hv,by rw [decide_eq_true hv,bi_true]⟩
 ·exact .inr ⟨om,by rw [decide_eq_false hv,bi_false]⟩
theorem eq_ifc {i:Tmp}{b:Nat}:bin2 Tryz.prog .eql 118 (.tmp i) (.const .nilIface) (.iface 261 (.pointer (some ⟨b,0,none⟩))) .nilIface=some (.bool false):=by kernel_rfl
end Go.Proofs.T
namespace Go.Proofs.T
open Go Go.Ab
open Nat (reduceMul reduceEqDiff reduceAdd)
set_option maxRecDepth 100000
theorem tnumber_ok {Z:St}{s:By}(h:s.all (on digB)=true) (h1:0<s.length) (h2:s.length<=1000000000) :
  Ev (go Tryz.prog HS (.fn 193) [str s] Z) (fun r=>∃ (Z':St) (n:Nat),r=⟨false,.tuple ⟨[.int .i64 (n:Nat),.bool (decide (valN s<=1000000000))]⟩,Z'⟩/\Ext Z Z'/\(valN s<=1000000000->n=valN s)) ⟨⟩:=by
 refine ev_go Tryz.func193 rfl rfl ?_
 rcases atoi_eq (Z:=Z) h h1 h2 with ⟨hv,hq⟩|⟨hv,hq⟩
 ·have e1:(!decide (1000000000<((valN s:Nat):Int)))=decide (valN s<=1000000000):=by
   rw [Bool.eq_iff_iff];simp;omega
  refine gS1 (aI @hq (aI @yu_t (aI @yu_f (aI @e1 @Tryz.results193)))) ?_
  exact ⟨_,_,rfl,.refl _,fun _=>rfl⟩
 ·have e1:decide (valN s<=1000000000)=false:=decide_eq_false om
  rw [e1]
  refine gS1 (aI @hq (aI @eq_ifc (aI @yu_t (aI @yu_f @Tryz.results193)))) ?_
  exact ⟨_,9223372036854775807,rfl,.new _ _,fun h=>om⟩
def Ends (toks:List Tok):Prop:=∀ (k:Nat) (t:Tok),toks[k]? =some t->t.1≠[]->k+1<toks.length
theorem numB_all {s:By}(h:numB s=true):s.all (on digB)=true/\0<s.length/\s≠[]:=by
 unfold numB at h
 rw [Bool.and_eq_true,Bool.and_eq_true] at h
 refine ⟨h.1.2,?_,?_⟩
 ·cases s with
  | nil=>simp [headB] at h
  | cons=>simp
 ·rintro rfl;simp [headB] at h
end Go.Proofs.T
namespace Go.Proofs.T
open Go Go.Ab
set_option maxRecDepth 100000
def Stp {α:Type}(Z:St) (b:Nat) (v:Value) (toks:List Tok) (k:Nat) (rest:List Value) (t:Tok) (R:Except Int α) (f:α->Value) (r:CR):Prop:=match R with
 | .ok a=>∃ Z',r=⟨false,f a,Z'⟩/\ExtX b Z Z'/\Z'.orow b=some (v:: .int .i64 (k+1:Nat)::rest)/\k+1<toks.length
 | .error e=>∃ Z',r=⟨true,fault t.2 e,Z'⟩/\Ext Z Z'
section
variable {Z:St} {b:Nat} {v:Value} {toks:List Tok} {k:Nat} {rest:List Value} {t:Tok}
end
end Go.Proofs.T
namespace Go.Proofs.T
open Go Go.Ab
set_option maxRecDepth 100000
end Go.Proofs.T
namespace Go.Proofs.T
open Go Go.Ab
mutual
/-- Five cells that stand for a formula; its lists can be copied. -/
def ExX (Z:St) (row:List Value):Ex->Prop
 | .mk op n d nm args=>∃ v rows,row=[str op,.int .i64 n,.int .i64 d,str nm,v]/\SLs Z 5 v rows/\args.length<=4/\ExsX Z rows args
def ExsX (Z:St) (rows:List (List Value)):List Ex->Prop
 | []=>rows=[]
 | e::es=>∃ r rs,rows=r::rs/\ExX Z r e/\ExsX Z rs es
end
mutual
theorem ExX.to {Z:St}{row:List Value}:∀ {e:Ex},ExX Z row e->ExAt Z row e
 | .mk op n d nm args,h=>by
   obtain ⟨v,rows,h1,h2,h4,h3⟩:=h
   exact ⟨v,rows,h1,h2.sl,h4,ExsX.to h3⟩
theorem ExsX.to {Z:St}{rows:List (List Value)}:∀ {es:List Ex},ExsX Z rows es->ExsAt Z rows es
 | [],h=>h
 | e::es,h=>by
   obtain ⟨r,rs,h1,h2,h3⟩:=h
   exact ⟨r,rs,h1,ExX.to h2,ExsX.to h3⟩
end
mutual
theorem ExX.keep {Z Z':St}(hE:Keep Z Z'){row:List Value}:∀ {e:Ex},ExX Z row e->ExX Z' row e
 | .mk op n d nm args,h=>by
   obtain ⟨v,rows,h1,h2,h4,h3⟩:=h
   exact ⟨v,rows,h1,SLs.keep h2 hE,h4,ExsX.keep hE h3⟩
theorem ExsX.keep {Z Z':St}(hE:Keep Z Z'){rows:List (List Value)}:∀ {es:List Ex},ExsX Z rows es->ExsX Z' rows es
 | [],h=>h
 | e::es,h=>by
   obtain ⟨r,rs,h1,h2,h3⟩:=h
   exact ⟨r,rs,h1,ExX.keep hE h2,ExsX.keep hE h3⟩
end
theorem ex0x {Z:St}{op nm:By}{n d:Int}:ExX Z [str op,.int .i64 n,.int .i64 d,str nm,.slice none 0 0] (.mk op n d nm []):=⟨_,[],rfl,SLs.nil,by simp,rfl⟩
theorem exX_len {Z:St}{row:List Value}{e:Ex}(h:ExX Z row e):row.length=5:=h.to.len
theorem ex2x {Z:St}{op nm:By}{n d:Int}{b cc:Nat}{sp:Option Nat}{ra rb cells:List Value}{x y:Ex}(hb:b<Z.n) (hr:Z.row b=some cells) (hc:cells=ra++rb) (hx:ExX Z ra x) (hy:ExX Z rb y) :
  ExX Z [str op,.int .i64 n,.int .i64 d,str nm,.slice (some ⟨b,0,sp⟩) 2 cc] (.mk op n d nm [x,y]):=by
 have la:=exX_len hx
 have lb:=exX_len hy
 subst hc
 refine ⟨_,[ra,rb],rfl,⟨fun r hr=>?_,.inr ⟨b,0,sp,cc,_,rfl,hb,hr,?_⟩⟩,by simp,ra,[rb],rfl,hx,rb,[],rfl,hy,rfl⟩
 ·simp only [List.mem_cons,List.not_mem_nil,or_false] at hr
  rcases hr with rfl|rfl
  ·exact la
  ·exact lb
 ·show sub (ra++rb) 0 (2*5)=some (ra++(rb++[]))
  rw [List.append_nil]
  exact sub_full (by simp;omega) (by simp;omega)
def TnY (Z:St) (cells:List Value) (T:Tn):Prop :=
 ∃ vl vc vr ex vt vk vs,cells=tnRow T.name vl vc vr T.low T.high ex vt T.most vk T.budget T.t/\SLs Z 2 vl (T.lots.map Lot.row)/\SLs Z 5 vc (T.crits.map Crit.row)/\SLs Z 3 vr (T.reqs.map Req.row)/\ExX Z ex T.f /\
  SLs Z 1 vt (T.ties.map fun s=>[str s])/\SLs Z 1 vk (vs.map fun x=>[x])/\All2 (Ints Z) vs T.combos
theorem TnY.keep {Z Z':St}{cells:List Value}{T:Tn}(h:TnY Z cells T) (hE:Keep Z Z'):TnY Z' cells T:=by
 obtain ⟨vl,vc,vr,ex,vt,vk,vs,h1,h2,h3,h4,h5,h6,h7,h8⟩:=h
 exact ⟨vl,vc,vr,ex,vt,vk,vs,h1,h2.keep hE,h3.keep hE,h4.keep hE,h5.keep hE,h6.keep hE,h7.keep hE,h8.mono fun _ _ h=>SL.keep h hE⟩
end Go.Proofs.T
