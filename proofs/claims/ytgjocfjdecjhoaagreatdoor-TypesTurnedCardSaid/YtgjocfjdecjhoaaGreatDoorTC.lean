/- A Fm, as plain data, and how it Ux in memory. -/
import Derived.Test.YtgjocfjdecjhoaaGreatDoorTB
set_option linter.unusedSimpArgs false
set_option linter.unusedVariables false
set_option linter.defProp false
set_option maxHeartbeats 32000000
set_option maxRecDepth 100000
namespace Go.Proofs.T
open Go Go.Ab
section
variable {Z Z':St}{v:Value}{cells:List Value}
abbrev By:=List UInt8
def Bk (n:Int):Prop:= -9223372036854775808<=n/\n<=9223372036854775807
structure Lot where
 id:Int
 y8:Int
 deriving DecidableEq
structure Bz where
 name:By
 kind:Int
 low:Int
 high:Int
 less:Bool
 deriving DecidableEq
structure Req where
 name:By
 rel:By
 value:Int
 deriving DecidableEq
inductive Ex where
 |mk (op:By) (num den:Int) (name:By) (args:List Ex)
structure Tim where
 q:Int
 b:Int
 g:Int
 p:Int
 s:Int
 deriving DecidableEq
structure Tn where
 name:By
 u9:List Lot
 G9:List Bz
 reqs:List Req
 low:Int
 high:Int
 f:Ex
 AJ:List By
 y8:Int
 J9:List (List Int)
 V9:Int
 t:Tim
def Lot.row (l:Lot):List Value:=[.int .i64 l.id,.int .i64 l.y8]
def Bz.row (c:Bz):List Value:=[str c.name,.int .i64 c.kind,.int .i64 c.low,.int .i64 c.high,.bool c.less]
def Req.row (r:Req):List Value:=[str r.name,str r.rel,.int .i64 r.value]
def PC (Z:St) (v:Value) (l:List Int):Prop:=SL Z 1 v (l.map fun n=>[.int .i64 n])
def vC (Z:St) (v:Value) (l:List Lot):Prop:=SL Z 2 v (l.map Lot.row)
def OP (Z:St) (v:Value) (l:List Bz):Prop:=SL Z 5 v (l.map Bz.row)
def vD (Z:St) (v:Value) (l:List Req):Prop:=SL Z 3 v (l.map Req.row)
def MF {α β:Type}(R:α->β->Prop):List α->List β->Prop
 | [],[]=>True
 |a::l,b::k=>R a b/\MF R l k
 |_,_=>False
def MF.len {α β:Type}{R:α->β->Prop}:∀ {l:List α}{k:List β},MF R l k->l.length=k.length
 | [],[],_=>rfl
 |_::_,_::_,h=>by rw[CE,CE,h.2.len]
 | [],_::_,h=>h.elim
 |_::_,[],h=>h.elim
def MF.get {α β:Type}{R:α->β->Prop}:∀ {l:List α}{k:List β}{i:Nat}{a:α}{b:β},MF R l k->l[i]? =some a->k[i]? =some b->R a b
 |a::l,b::k,0,_,_,h,h1,h2=>by cases h1;cases h2;exact h.1
 |a::l,b::k,i+1,_,_,h,h1,h2=>h.2.get (i:=i) (by simpa using h1) (by simpa using h2)
 | [],_,_,_,_,_,h1,_=>by simp at h1
 |_::_,[],_,_,_,h,_,_=>h.elim
def MF.mono {α β:Type}{R S:α->β->Prop}(hRS:∀ a b,R a b->S a b):∀ {l:List α}{k:List β},MF R l k->MF S l k
 | [],[],_=>trivial
 |_::_,_::_,h=>⟨hRS _ _ h.1,h.2.mono hRS⟩
 | [],_::_,h=>h.elim
 |_::_,[],h=>h.elim
def QI (Z:St) (v:Value) (l:List (List Int)):Prop:=∃ vs:List Value,SL Z 1 v (vs.map fun x=>[x])/\MF (PC Z) vs l
mutual
def P6 (Z:St) (row:List Value):Ex->Prop
 | .mk op n d nm args=>∃ v B9,row=[str op,.int .i64 n,.int .i64 d,str nm,v]/\SL Z 5 v B9/\args.length<=4/\Cb Z B9 args
def Cb (Z:St) (B9:List (List Value)):List Ex->Prop
 | []=>B9=[]
 |e::es=>∃ r rs,B9=r::rs/\P6 Z r e/\Cb Z rs es
end
mutual
theorem P6.mono {Z Z':St}(hE:Ext Z Z'){row:List Value}:∀ {e:Ex},P6 Z row e->P6 Z' row e
 | .mk op n d nm args,h=>by
   obtain⟨v,B9,h1,h2,h4,h3⟩:=h;exact⟨v,B9,h1,h2.mono hE,h4,Cb.mono hE h3⟩
theorem Cb.mono {Z Z':St}(hE:Ext Z Z'){B9:List (List Value)}:∀ {es:List Ex},Cb Z B9 es->Cb Z' B9 es
 | [],h=>h
 | e::es,h=>by
   obtain⟨r,rs,h1,h2,h3⟩:=h;exact⟨r,rs,h1,P6.mono hE h2,Cb.mono hE h3⟩
end
def Cb.len {Z:St}:∀ {B9:List (List Value)}{es:List Ex},Cb Z B9 es->B9.length=es.length
 |_,[],h=>by rw[show _=_ from h];rfl
 | _,e::es,h=>by
   obtain⟨r,rs,rfl,-,h3⟩:=h;rw[CE,CE,h3.len]
def Cb.get {Z:St}:∀ {B9:List (List Value)}{es:List Ex}{i:Nat}{r:List Value}{e:Ex},Cb Z B9 es->B9[i]? =some r->es[i]? =some e->P6 Z r e
 |_,[],_,_,_,_,_,h2=>by simp at h2
 | _,e::es,i,_,_,h,h1,h2=>by
   obtain⟨r,rs,rfl,h3,h4⟩:=h;cases i with
   |zero=>cases h1;cases h2;exact h3
   |succ i=>exact h4.get (i:=i) (by simpa using h1) (by simpa using h2)
def XJ (nm:By) (vl vc vr:Value) (low high:Int) (ex:List Value) (vt:Value) (y8:Int) (vk:Value) (V9:Int) (t:Tim):List Value :=
 [str nm,vl,vc,vr,.int .i64 low,.int .i64 high]++ex++[vt,.int .i64 y8,vk,.int .i64 V9,.int .i64 t.q,.int .i64 t.b,.int .i64 t.g,.int .i64 t.p,.int .i64 t.s]
def HW (Z:St) (cells:List Value) (T:Tn):Prop :=
 ∃ vl vc vr ex vt vk,cells=XJ T.name vl vc vr T.low T.high ex vt T.y8 vk T.V9 T.t/\vC Z vl T.u9/\OP Z vc T.G9/\vD Z vr T.reqs/\P6 Z ex T.f/\bN Z vt T.AJ/\QI Z vk T.J9
def PC.mono {l:List Int}(h:PC Z v l) (hE:Ext Z Z'):PC Z' v l:=SL.mono h hE
def QI.mono {l:List (List Int)}(h:QI Z v l) (hE:Ext Z Z'):QI Z' v l:=by
 obtain⟨vs,h1,h2⟩:=h;exact⟨vs,h1.mono hE,h2.mono fun _ _ h=>h.mono hE⟩
def HW.mono {T:Tn}(h:HW Z cells T) (hE:Ext Z Z'):HW Z' cells T:=by
 obtain⟨vl,vc,vr,ex,vt,vk,h1,h2,h3,h4,h5,h6,h7⟩:=h;exact⟨vl,vc,vr,ex,vt,vk,h1,SL.mono h2 hE,SL.mono h3 hE,SL.mono h4 hE,h5.mono hE,h6.mono hE,h7.mono hE⟩
def P6.len {Z:St}{row:List Value}:∀ {e:Ex},P6 Z row e->row.length=5
 | .mk _ _ _ _ _,h=>by obtain⟨v,B9,rfl,-,-⟩:=h;rfl
def HW.len {T:Tn}(h:HW Z cells T):cells.length=20:=by
 obtain⟨vl,vc,vr,ex,vt,vk,rfl,-,-,-,h5,-⟩:=h;simp[XJ,h5.len]
def names:List By:=[[113,117,97,108,105,116,121],[100,97,121,115],[115,116,97,102,102],[112,114,105,99,101],[108,111,119],[115,112,101,101,100],[99,111,109,102,111,114,116],[119,101,105,103,104,116]]
structure Tn.Ok (T:Tn):Prop where
 u9:T.u9.length<=16
 lot:∀ l∈T.u9,0<=l.id/\l.id<10/\Bk l.y8
 G9:T.G9.length<=16
 Du:∀ c∈T.G9,c.name∈names/\Bk c.kind/\Bk c.low/\Bk c.high
 reqs:T.reqs.length<=8
 req:∀ r∈T.reqs,r.name∈names/\r.rel.length<=2/\Bk r.value
 low:Bk T.low
 high:Bk T.high
 AJ:T.AJ.length<=16
 tie:∀ s∈T.AJ,s∈names
 y8:Bk T.y8
 J9:T.J9.length<=16
 combo:∀ l∈T.J9,l.length<=4/\∀ n∈l,Bk n
 V9:Bk T.V9
 tim:Bk T.t.q/\Bk T.t.b/\Bk T.t.g/\Bk T.t.p/\Bk T.t.s
def NT {s:By}(h:s∈names):s.length<=7:=by
 have:∀ s∈names,s.length<=7:=by decide
 exact this s h
end
section
variable {Z:St}{n:Int}{k:Nat}
def Eh (n:Int):Bool:=(!decide (n<97)&& !decide (122<n))||(!decide (n<65)&& !decide (90<n))
def O6 (n:Int):Bool:= !decide (n<48)&& !decide (57<n)
def ED (n:Int):Bool:=Eh n||O6 n||decide (n=95)
def D9:yieldOf true P9=false:=rfl
def F4:yieldOf false P9=false:=rfl
def Tb:Ev (gO 153 [.int .u8 n] Z) (fun r=>r=⟨false,.bool (Eh n),Z⟩) ⟨⟩:=by
 refine C9 Tryz.func153 rfl rfl ?_;unfold Eh;cases a:decide (n<97)<;>cases b:decide (122<n)<;>cases c:decide (n<65)<;>cases d:decide (90<n)<;>refine gS1 (aI a (aI b (aI c (aI d (a3N @D9 @F4 @Tryz.results153))))) ?_<;>rfl
def oA:Ev (gO 156 [.int .u8 n] Z) (fun r=>r=⟨false,.bool (O6 n),Z⟩) ⟨⟩:=by
 refine C9 Tryz.func156 rfl rfl ?_;unfold O6;cases a:decide (n<48)<;>cases b:decide (57<n)<;>refine gS1 (aI a (aI b (a3N @D9 @F4 @Tryz.results156))) ?_<;>rfl
def jV:Ev (gO 155 [.int .u8 n] Z) (fun r=>r=⟨false,.bool (ED n),Z⟩) ⟨⟩:=by
 refine C9 Tryz.func155 rfl rfl ?_;refine gS ?_;refine Tb.mono ?_;rintro r rfl;unfold ED;cases a:Eh n
 ·refine gS1 a ?_;refine oA.mono ?_;rintro r rfl;cases b:O6 n<;>cases c:decide (n=95)<;>refine gS1 (aI a (aI b (aI c (a3N @D9 @F4 @Tryz.results155)))) ?_<;>rfl
 ·cases c:decide (n=95)<;>refine gS1 (aI a (aI c (a3N @D9 @F4 @Tryz.results155))) ?_<;>rfl
def AE6 (g:Nat) (p:Int->Bool):Prop:=∀ (Z:St) (n:Int),Ev (go Tryz.prog HS (.fn g) [.int .u8 n] Z) (fun r=>r=⟨false,.bool (p n),Z⟩) ⟨⟩
def bj:AE6 155 ED:=fun _ _=>jV
def on (p:Int->Bool) (c:UInt8):Bool:=p (c.toNat:Nat)
def BI (p:Int->Bool) (s:By) (k:Nat):Nat:=((s.drop k).takeWhile (on p)).length
def Pb (p:Int->Bool) (s:By) (k:Nat):k<=s.length->k+BI p s k<=s.length:=by
 intro h;have:=(List.takeWhile_sublist (on p) (l:=s.drop k)).length_le;rw[Ng]at this;unfold BI;omega
def AL2 {α:Type}{p:α->Bool}:∀ {l:List α}{j:Nat},j<(l.takeWhile p).length->∃ c,l[j]? =some c/\p c=true:=by
 intro l;induction l with
 |nil=>intro j h;simp at h
 | cons x l ih=>
   intro j h;rw[vU]at h;cases hp:p x with
   |false=>rw[hp]at h;simp at h
   | true=>
     rw[hp]at h;cases j with
     |zero=>exact⟨x,rfl,hp⟩
     |succ j=>simpa using ih (by simpa using h)
def AL3 {α:Type}{p:α->Bool}:∀ {l:List α},l[(l.takeWhile p).length]? =none\/∃ c,l[(l.takeWhile p).length]? =some c/\p c=false:=by
 intro l;induction l with
 |nil=>exact .inl rfl
 | cons x l ih=>
   rw[vU];cases hp:p x with
   |false=>exact .inr ⟨x,by simp,hp⟩
   |true=>simpa using ih
def FY {c:UInt8}:jW [c]=some (.int .u8 (c.toNat:Nat)):=rfl
def Pa {α:Type}{l:List α}{a:α}(h:l[k]? =some a):sub l k 1=some [a]:=by
 obtain⟨h1,h2⟩:=List.getElem?_eq_some_iff.1 h;rw[o9 om,PL h1,h2];rfl
def AK3 {g:Nat}{p:Int->Bool}(hp:AE6 g p){s:By}(hk:k<=s.length) (hs:s.length<9223372036854775807):
  Ev (gO 154 [str s,.int .i64 k,.func (.func g) #[] #[]] Z) (fun r=>r=⟨false,.int .i64 (k+BI p s k:Nat),Z⟩) ⟨⟩:=by
 refine C9 Tryz.func154 rfl rfl ?_;have hle:=Pb p s k hk;refine gS ?_
 refine I4 (BI p s k) (fun j fr Z'=>fr.get 1=some (.int .i64 (k+j:Nat))/\fr.get 0=some (str s)/\fr.get 2=some (.func (.func g) #[] #[])/\Z'=Z)
  (fun r=>∃ fr,r=⟨.exit 0,fr,Z⟩/\fr.get 1=some (.int .i64 (k+BI p s k:Nat))) ?_ ?_ ?_ ?_
 ·exact⟨fR,fR,fR,rfl⟩
 ·rintro j fr Z' hj ⟨g1,g0,g2,rfl⟩;obtain⟨c,hc,hpc⟩:=AL2 (show j<((s.drop k).takeWhile (on p)).length from hj);rw[List.getElem?_drop]at hc;have hlt:k+j<s.length:=(List.getElem?_eq_some_iff.1 hc).1;have e1:decide (((k+j:Nat):Int)<(s.length:Int))=true:=by rw[z3z];omega
  have h1:=Pa hc;refine gS1 (aI g1 (aI g0 (aI g2 (aI e1 (aI h1 @FY))))) ?_;refine(hp _ _).mono ?_;rintro r rfl;have AL4:p (c.toNat:Nat)=true:=hpc;refine gS1 (aI g1 (aI g0 (aI g2 (aI e1 AL4)))) ?_;have ee:((k+j:Nat):Int)+1=((k+(j+1):Nat):Int):=om;exact⟨fR1 ee,fR1 g0,fR1 g2,by trivial⟩
 ·rintro fr Z' ⟨g1,g0,g2,rfl⟩;rcases(show(s.drop k)[BI p s k]? =none\/∃ c,(s.drop k)[BI p s k]? =some c/\on p c=false from AL3)with hc|⟨c,hc,hpc⟩
  ·rw[List.getElem?_drop]at hc;have hge:¬ (k+BI p s k<s.length):=fun h=>by rw[List.getElem?_eq_getElem h]at hc;cases hc
   have e1:decide (((k+BI p s k:Nat):Int)<(s.length:Int))=false:=by rw[VR];omega
   refine gS1 (aI g1 (aI g0 (aI g2 e1))) ?_;exact⟨_,rfl,fR1 g1⟩
  ·rw[List.getElem?_drop]at hc;have hlt:k+BI p s k<s.length:=(List.getElem?_eq_some_iff.1 hc).1;have e1:decide (((k+BI p s k:Nat):Int)<(s.length:Int))=true:=by rw[z3z];omega
   have h1:=Pa hc;refine gS1 (aI g1 (aI g0 (aI g2 (aI e1 (aI h1 @FY))))) ?_;refine(hp _ _).mono ?_;rintro r rfl;have AL4:p (c.toNat:Nat)=false:=hpc;refine gS1 (aI g1 (aI g0 (aI g2 (aI e1 AL4)))) ?_;exact⟨_,rfl,fR1 g1⟩
 rintro r ⟨fr,rfl,g1⟩;refine gS1 (aI g1 @Tryz.results154) ?_;try exact⟨⟩
end
section
variable {s:By}{p:Int->Bool}
section
variable {Z:St}
def AE3 (l:List (List UInt8)) (s:List UInt8):Nat->Bool
 |0=>false
 |k+1=>AE3 l s k||decide (l[k]? =some s)
end
def AK2 {α:Type}{p:α->Bool}:∀ {l:List α},(l.takeWhile p).length=l.length↔l.all p=true:=by
 intro l;induction l with
 |nil=>simp
 | cons x l ih=>
   rw[vU,Xp];cases hp:p x with
   |false=>simp
   |true=>simpa using ih
def nV:BI p s 0=s.length↔s.all (on p)=true:=by
 unfold BI;rw[Sv];exact AK2
def OZ (p:Int->Bool) (s:By):Bool:=match s with
 |c::_=>on p c
 | []=>false
def Qj {c:UInt8}:OZ p (c::s)=on p c:=rfl
def AM (s:By):Bool:=OZ Eh s&&decide (s.length<=30)&&s.all (on ED)
def AE4 (s:By):Bool:=match s with
 | [_]=>true
 |c::_=> !decide (c=48)
 | []=>false
def Us (s:By):Bool:=OZ O6 s&&s.all (on O6)&&AE4 s
def bG:List By:=[[112,114,105,99,101],[108,111,119],[109,105,110],[109,97,120]]
def Ei (s:By):Bool:=AM s&& !(bG.contains s)
def jB {Z:St}(hs:s.length<9223372036854775807):Ev (gO 183 [str s] Z) (fun r=>r=⟨false,.bool (AM s),Z⟩) ⟨⟩:=by
 refine C9 Tryz.func183 rfl rfl ?_;cases s with
 | nil=>
   have d0:decide (([]:By)=[])=true:=rfl;refine gS1 (aI d0 (a3N @D9 @F4 @Tryz.results183)) ?_;rfl
 | cons c s=>
   have d0:decide (c::s=([]:By))=false:=rfl;have h1:sub (c::s) 0 1=some [c]:=Pa rfl;by_cases hl:30<(c::s).length
   ·have e1:decide (30<((c::s).length:Int))=true:=by rw[z3z];omega
    have hb:AM (c::s)=false:=by unfold AM;rw[z4z (show ¬ (c::s).length<=30 by omega)];simp
    simp only[CE]at e1;refine gS1 (aI d0 (aI e1 (aI hb (a3N @D9 @F4 @Tryz.results183)))) ?_;try exact⟨⟩
   have e1:decide (30<((c::s).length:Int))=false:=by rw[VR];omega
   have hl':decide ((c::s).length<=30)=true:=dT;have e2:=e1;simp only[CE]at e2;refine gS1 (aI d0 (aI e2 (aI h1 @FY))) ?_;refine Tb.mono ?_;rintro r rfl;cases a:Eh (c.toNat:Nat)with
   | false=>
     have hb:AM (c::s)=false:=by
      unfold AM;rw[Qj,show on Eh c=false from a];rfl
     refine gS1 (aI d0 (aI e2 (aI hb (aI a (a3N @D9 @F4 @Tryz.results183))))) ?_;try exact⟨⟩
   | true=>
     refine gS1 (aI d0 (aI e2 a)) ?_;refine(AK3 (k:=0) bj (BM _) hs).mono ?_;rintro r rfl;rw[HC];have Au8:=nV (p:=ED) (s:=c::s);have hq:decide ((BI ED (c::s) 0:Int)=((s.length+1:Nat):Int))=AM (c::s):=by
      unfold AM;rw[Qj,show on Eh c=true from a,hl',IE,IE,z7z,z3z,<- Au8];simp only[CE];omega
     refine gS1 (aI d0 (aI e2 (aI a (aI @D9 (aI @F4 (aI @Tryz.results183 hq)))))) ?_;try exact⟨⟩
end
section
variable {Z:St}{v:Value}{k:Nat}
def Fz {cells r:List Value}{o n i m:Nat}(h:sub cells o n=some r) (hi:i+m<=n):sub cells (o+i) m=sub r i m:=by
 obtain⟨h1,h2⟩:=sub_eq h;subst h2;rw[o9 om,o9 (by simp;omega)];congr 1;rw[rN,Tz,dk];congr 1;omega
def H5 {α:Type}{l:List α}(h:k<l.length):∃ a,l[k]? =some a:=⟨_,List.getElem?_eq_getElem h⟩
def AR1 {α β:Type}{l:List α}{a:α}(f:α->β) (h:l[k]? =some a):(l.map f)[k]? =some (f a):=by rw[List.getElem?_map,h];rfl
def SL.LD {α:Type}{size:Nat}{l:List α}{f:α->List Value}(h:SL Z size v (l.map f)):∃ a c b off cells,v= .slice a l.length c/\(0<l.length->∃ sp,a=some ⟨b,off,sp⟩/\b<Z.n/\Z.row b=some cells)/\∀ k x,l[k]? =some x->sub cells (off+k*size) size=some (f x):=by
 obtain⟨a,c,b,off,cells,h1,h2,h3⟩:=SL.use h;rw[z2z]at h1 h2;exact⟨a,c,b,off,cells,h1,h2,fun k x hx=>h3 k _ (AR1 f hx)⟩
def vC.use {l:List Lot}(h:vC Z v l):∃ a c b off cells,v= .slice a l.length c/\(0<l.length->∃ sp,a=some ⟨b,off,sp⟩/\b<Z.n/\Z.row b=some cells) /\
  ∀ k x,l[k]? =some x->sub cells (off+k*2) 2=some x.row/\sub cells (off+k*2) 1=some [.int .i64 x.id]/\sub cells (off+k*2+1) 1=some [.int .i64 x.y8]:=by
 obtain⟨a,c,b,off,cells,h1,h2,h3⟩:=SL.LD h;refine⟨a,c,b,off,cells,h1,h2,fun k x hx=>?_⟩;have h:=h3 k x hx;exact⟨h,by rw[<- AG (off+k*2),Fz h om];rfl,by rw[Fz h om];rfl⟩
def OP.use {l:List Bz}(h:OP Z v l):∃ a c b off cells,v= .slice a l.length c/\(0<l.length->∃ sp,a=some ⟨b,off,sp⟩/\b<Z.n/\Z.row b=some cells) /\
  ∀ k x,l[k]? =some x->sub cells (off+k*5) 5=some x.row/\sub cells (off+k*5) 1=some [str x.name]/\sub cells (off+k*5+1) 1=some [.int .i64 x.kind]/\sub cells (off+k*5+2) 1=some [.int .i64 x.low]/\sub cells (off+k*5+3) 1=some [.int .i64 x.high]/\sub cells (off+k*5+4) 1=some [.bool x.less]:=by
 obtain⟨a,c,b,off,cells,h1,h2,h3⟩:=SL.LD h;refine⟨a,c,b,off,cells,h1,h2,fun k x hx=>?_⟩;have h:=h3 k x hx;exact⟨h,by rw[<- AG (off+k*5),Fz h om];rfl,by rw[Fz h om];rfl,by rw[Fz h om];rfl,by rw[Fz h om];rfl,by rw[Fz h om];rfl⟩
def vD.use {l:List Req}(h:vD Z v l):∃ a c b off cells,v= .slice a l.length c/\(0<l.length->∃ sp,a=some ⟨b,off,sp⟩/\b<Z.n/\Z.row b=some cells) /\
  ∀ k x,l[k]? =some x->sub cells (off+k*3) 3=some x.row/\sub cells (off+k*3) 1=some [str x.name]/\sub cells (off+k*3+1) 1=some [str x.rel]/\sub cells (off+k*3+2) 1=some [.int .i64 x.value]:=by
 obtain⟨a,c,b,off,cells,h1,h2,h3⟩:=SL.LD h;refine⟨a,c,b,off,cells,h1,h2,fun k x hx=>?_⟩;have h:=h3 k x hx;exact⟨h,by rw[<- AG (off+k*3),Fz h om];rfl,by rw[Fz h om];rfl,by rw[Fz h om];rfl⟩
def PC.use {l:List Int}(h:PC Z v l):∃ a c b off cells,v= .slice a l.length c/\(0<l.length->∃ sp,a=some ⟨b,off,sp⟩/\b<Z.n/\Z.row b=some cells) /\
  ∀ k x,l[k]? =some x->sub cells (off+k) 1=some [.int .i64 x]:=by
 obtain⟨a,c,b,off,cells,h1,h2,h3⟩:=SL.LD h;exact⟨a,c,b,off,cells,h1,h2,fun k x hx=>by have:=h3 k x hx;rwa [MH]at this⟩
end
section
variable {l:List Nat}{c b:Nat}{op nm:By}{d:Int}
structure Dr (Z Z':St):Prop where
 n:Z.n<=Z'.n
 row:∀ b cells,b<Z.n->Z.row b=some cells->Z'.row b=some cells
def Dr.trans {Z Z' Z'':St}(h:Dr Z Z') (k:Dr Z' Z''):Dr Z Z'':=⟨AV h.n k.n,fun b cells hb hr=>k.row b cells (z5z hb h.n) (h.row b cells hb hr)⟩
def Dr.nj {Z Z':St}(h:Ext Z Z'):Dr Z Z':=⟨h.n,fun b cells hb hr=>by rw[h.row hb];exact hr⟩
def SL.H4 {Z Z':St}{size:Nat}{v:Value}{B9:List (List Value)}(h:SL Z size v B9) (hE:Dr Z Z'):SL Z' size v B9:=by
 rcases h with h|⟨b,off,sp,c,cells,h1,h2,h3,h4⟩
 ·exact .inl h
 ·exact .inr ⟨b,off,sp,c,cells,h1,z5z h2 hE.n,hE.row _ _ h2 h3,h4⟩
mutual
theorem P6.H4 {Z Z':St}(hE:Dr Z Z'){row:List Value}:∀ {e:Ex},P6 Z row e->P6 Z' row e
 | .mk op n d nm args,h=>by
   obtain⟨v,B9,h1,h2,h4,h3⟩:=h;exact⟨v,B9,h1,SL.H4 h2 hE,h4,Cb.H4 hE h3⟩
theorem Cb.H4 {Z Z':St}(hE:Dr Z Z'){B9:List (List Value)}:∀ {es:List Ex},Cb Z B9 es->Cb Z' B9 es
 | [],h=>h
 | e::es,h=>by
   obtain⟨r,rs,h1,h2,h3⟩:=h;exact⟨r,rs,h1,P6.H4 hE h2,Cb.H4 hE h3⟩
end
noncomputable def M8 (Z:St) (l:List Nat):St:=l.foldl St.dead Z
def Kl {Z:St}:(Z.dead b).row b=none:=by
 show ob (ob (ob ((Z.dead b).h.get b) _) _) _=none;rw[Gm,z1z rfl];rfl
def EG:∀ {Z:St},(M8 Z l).n=Z.n:=by
 induction l with
 |nil=>intro Z;rfl
 |cons b l ih=>intro Z;show(M8 (Z.dead b) l).n=Z.n;rw[ih];rfl
def Bn:∀ {Z:St},c∉l->(M8 Z l).row c=Z.row c:=by
 induction l with
 |nil=>intro Z _;rfl
 | cons b l ih=>
   intro Z h;show(M8 (Z.dead b) l).row c=_;rw[ih (fun hm=>h (by simp[hm])),JZ (fun e=>h (by simp[e]))]
def jU:∀ {Z:St},Z.row c=none->(M8 Z l).row c=none:=by
 induction l with
 |nil=>intro Z h;exact h
 | cons b l ih=>
   intro Z h;show(M8 (Z.dead b) l).row c=_;refine ih ?_;by_cases e:c=b
   ·subst e;exact Kl
   ·rw[JZ e];exact h
def Ja:∀ {Z:St},c∈l->(M8 Z l).row c=none:=by
 induction l with
 |nil=>intro Z h;cases h
 | cons b l ih=>
   intro Z h;show(M8 (Z.dead b) l).row c=_;rcases Y5.1 h with rfl|h
   ·exact jU Kl
   ·exact ih h
def AQ {Z Z':St}{l':List Nat}(hn:Z.n<=Z'.n) (h:∀ c,c<Z.n->c∉l->c∉l'/\Z'.row c=Z.row c):Dr (M8 Z l) (M8 Z' l'):=by
 refine⟨by rw[EG,EG];exact hn,fun c cells hc hr=>?_⟩;rw[EG]at hc;by_cases e:c∈l
 ·rw[Ja e]at hr;cases hr
 ·obtain⟨h1,h2⟩:=h c hc e;rw[Bn e]at hr;rw[Bn h1,h2];exact hr
def H2 {Z Z':St}(hE:Ext Z Z'):Dr (M8 Z l) (M8 Z' l):=AQ hE.n fun c hc h=>⟨h,hE.row hc⟩
def Mc {Z:St}:Dr (M8 Z l) Z:=by
 have:=AQ (Z:=Z) (Z':=Z) (l:=l) (l':=[]) nL fun c _ _=>⟨by simp,rfl⟩
 exact this
def Sk (v:Value):List Nat:=(N0 v).toList
section
variable {H:List Nat}{lo:Nat}{Z Z':St}{v:Value}{n k:Nat}
end
structure Psh (Z Z':St) (v v':Value):Prop where
 n:Z.n<=Z'.n
 same:∀ c,c<Z.n->N0 v≠some c->Z'.h.get c=Z.h.get c
 blk:∀ b,N0 v'=some b->N0 v=some b\/Z.n<=b
def LU {α:Type}{l new:List α}:∀ {o:Nat},o+new.length<=l.length->M7 l o new=some (l.take o++new++l.drop (o+new.length)):=by
 intro o;induction o generalizing l with
 | zero =>
   intro h;rw[HC]at h ⊢;have:∀ (new l:List α),new.length<=l.length->over new l=some (new++l.drop new.length):=by
    intro new;induction new with
    |nil=>intro l _;rfl
    | cons x new ih=>
      intro l h;cases l with
      |nil=>simp at h
      | cons y l=>
        rw[Td,ih l (by simpa using h)];rfl
   rw[Oa,Jb,<- this new l h];cases l with
   | nil=>cases new with
     |nil=>rfl
     |cons x new=>simp at h
   |cons y l=>rfl
 | succ o ih=>
   intro h;cases l with
   |nil=>simp at h
   | cons y l=>
     rw[A6,ih (by simp at h;omega),D4];rw[show o+1+new.length=(o+new.length)+1 by omega];rfl
def nr {Z:St}{n:Int}:P6 Z [str op,.int .i64 n,.int .i64 d,str nm,.slice none 0 0] (.mk op n d nm []):=⟨_,[],rfl,SL.nil,by simp,rfl⟩
def VW {Z:St}{n:Int}{cc:Nat}{sp:Option Nat}{ra rb cells:List Value}{x y:Ex}(hb:b<Z.n) (hr:Z.row b=some cells) (hc:cells=ra++rb) (hx:P6 Z ra x) (hy:P6 Z rb y):
  P6 Z [str op,.int .i64 n,.int .i64 d,str nm,.slice (some ⟨b,0,sp⟩) 2 cc] (.mk op n d nm [x,y]):=by
 have la:=hx.len;have lb:=hy.len;subst hc;refine⟨_,[ra,rb],rfl,.inr ⟨b,0,sp,cc,_,rfl,hb,hr,fun k r hk=>?_⟩,by simp,ra,[rb],rfl,hx,rb,[],rfl,hy,rfl⟩;rcases k with _|_|k
 ·cases hk;rw[o9 (by simp;omega)];simp[List.take_append_of_le_length,la]
 ·cases hk;rw[o9 (by simp;omega)];rw[show 0+(0+1)*5=ra.length by omega,List.drop_left,Ql om]
 ·simp at hk
end
section
variable {size lo b:Nat}{v:Value}{B9:List (List Value)}{cells:List Value}
structure J7 (p:Nat) (Z Z':St):Prop where
 n:Z.n<=Z'.n
 same:∀ b,b<Z.n->b≠p->Z'.h.get b=Z.h.get b
section
variable {p:Nat}{Z Z' Z'':St}
def J7.refl:J7 p Z Z:=⟨BF _,fun _ _ _=>rfl⟩
def J7.of (h:Ext Z Z'):J7 p Z Z':=⟨h.n,fun b hb _=>h.same b hb⟩
def J7.trans (h:J7 p Z Z') (k:J7 p Z' Z''):J7 p Z Z'':=⟨AV h.n k.n,fun b hb hne=>by rw[k.same b (z5z hb h.n) hne,h.same b hb hne]⟩
def J7.upd (h:J7 p Z Z') (cs:List Value):J7 p Z (Z'.upd p cs):=⟨h.n,fun b hb hne=>by rw[W1,z0z hne,h.same b hb hne]⟩
def J7.ext {Z0:St}(h:J7 p Z Z') (h0:Ext Z0 Z) (hp:Z0.n<=p):Ext Z0 Z':=⟨AV h0.n h.n,fun b hb=>by rw[h.same b (z5z hb h0.n) om,h0.same b hb]⟩
def J7.row (h:J7 p Z Z') (hb:b<Z.n) (hne:b≠p):Z'.row b=Z.row b:=AR (h.same b hb hne)
def J7.A7 (h:J7 p Z Z') (hb:b<Z.n) (hne:b≠p):Z'.A7 b=Z.A7 b:=D6 (h.same b hb hne)
end
def SLs (Z:St) (size:Nat) (v:Value) (B9:List (List Value)):Prop:=(∀ r∈B9,r.length=size) /\
 ((v= .slice none 0 0/\B9=[])\/∃ b off sp c cells,v= .slice (some ⟨b,off,sp⟩) B9.length c/\b<Z.n/\Z.row b=some cells/\sub cells off (B9.length*size)=some B9.flatten)
def SLs.nil {Z:St}:SLs Z size (.slice none 0 0) []:=⟨fun r h=>by simp at h,.inl ⟨rfl,rfl⟩⟩
def SLs.sl {Z:St}(h:SLs Z size v B9):SL Z size v B9:=by
 obtain⟨hr,h|⟨b,off,sp,c,cells,h1,h2,h3,h4⟩⟩:=h
 ·exact .inl h
 ·refine .inr ⟨b,off,sp,c,cells,h1,h2,h3,fun k r hk=>?_⟩;have hlt:=(List.getElem?_eq_some_iff.1 hk).1;have hmul:k*size+size<=B9.length*size:=by
   have:(k+1)*size<=B9.length*size:=jJ size hlt;rw[Sp]at this;exact this
  rw[Fz h4 hmul,<- AG (k*size),Jc hr hk om];have:=hr r (Bs hk);exact C8 om om
def SLs.H4 {Z Z':St}(h:SLs Z size v B9) (hE:Dr Z Z'):SLs Z' size v B9:=by
 obtain⟨hr,h|⟨b,off,sp,c,cells,h1,h2,h3,h4⟩⟩:=h
 ·exact⟨hr,.inl h⟩
 ·exact⟨hr,.inr ⟨b,off,sp,c,cells,h1,z5z h2 hE.n,hE.row _ _ h2 h3,h4⟩⟩
def OL.M8 {Z:St}{H:List Nat}(h:OL lo Z size v B9) (hH:∀ q∈H,q<lo):SLs (M8 Z H) size v B9:=by
 obtain⟨hr,⟨rfl,rfl⟩|⟨b,sp,rfl,hs,h1,h2,h3⟩⟩:=h
 ·exact .nil
 ·have:=HP B9 hr;exact⟨hr,.inr ⟨b,0,sp,_,_,rfl,by rw[EG];exact h2,by rw[Bn fun hm=>by have:=hH b hm;omega];exact A9 h3,C8 om om⟩⟩
def OL.shape {Z:St}(h:OL lo Z size v B9):∃ a,v= .slice a B9.length B9.length:=by
 obtain⟨hr,⟨rfl,rfl⟩|⟨b,sp,rfl,-⟩⟩:=h
 ·exact⟨_,rfl⟩
 ·exact⟨_,rfl⟩
def OL.BN {p:Nat}{Z Z':St}(h:OL lo Z size v B9) (hE:J7 p Z Z') (hp:p<lo):OL lo Z' size v B9:=by
 refine h.H4 hE.n fun b hb=>?_;have:=h.blk hb;exact hE.same b this.2 om
def TnX (Z:St) (cells:List Value) (T:Tn):Prop :=
 ∃ vl vc vr ex vt vk vs,cells=XJ T.name vl vc vr T.low T.high ex vt T.y8 vk T.V9 T.t/\SLs Z 2 vl (T.u9.map Lot.row)/\SLs Z 5 vc (T.G9.map Bz.row)/\SLs Z 3 vr (T.reqs.map Req.row)/\P6 Z ex T.f /\
  SLs Z 1 vt (T.AJ.map fun s=>[str s])/\SLs Z 1 vk (vs.map fun x=>[x])/\MF (PC Z) vs T.J9
def TnX.tn {Z:St}{T:Tn}(h:TnX Z cells T):HW Z cells T:=by
 obtain⟨vl,vc,vr,ex,vt,vk,vs,h1,h2,h3,h4,h5,h6,h7,h8⟩:=h;exact⟨vl,vc,vr,ex,vt,vk,h1,h2.sl,h3.sl,h4.sl,h5,h6.sl,vs,h7.sl,h8⟩
def TnX.H4 {Z Z':St}{T:Tn}(h:TnX Z cells T) (hE:Dr Z Z'):TnX Z' cells T:=by
 obtain⟨vl,vc,vr,ex,vt,vk,vs,h1,h2,h3,h4,h5,h6,h7,h8⟩:=h;exact⟨vl,vc,vr,ex,vt,vk,vs,h1,h2.H4 hE,h3.H4 hE,h4.H4 hE,h5.H4 hE,h6.H4 hE,h7.H4 hE,h8.mono fun _ _ h=>SL.H4 h hE⟩
def Tn.Le (n:Nat) (T:Tn):Prop:=T.u9.length<=n/\T.G9.length<=n/\T.reqs.length<=n/\T.AJ.length<=n/\T.J9.length<=n
end
abbrev Tok:=By×Nat
def BB1 (t:Tok):List Value:=[str t.1,.int .i64 (t.2:Nat)]
structure Sc (Z:St) (b:Nat) (v:Value) (D7:List Tok) (k:Nat) (N3:List Value):Prop where
 row:Z.A7 b=some (v:: .int .i64 (k:Nat)::N3)
 lt:b<Z.n
 sl:SL Z 2 v (D7.map BB1)
 ne:N0 v≠some b
 k:k<D7.length
 len:D7.length<4611686018427387904
def ptr (b:Nat):Value:= .pointer (some ⟨b,0,none⟩)
def J7.vW {p:Nat}{Z Z':St}{c:Nat}(h:J7 p Z Z') (hc:Z.n<=c) (cs:List Value):J7 p Z (Z'.upd c cs):=⟨h.n,fun b hb hne=>by rw[W1,z0z om,h.same b hb hne]⟩
def d10:decide (((1:Nat):Int)=0)=false:=rfl
def cut (l:List By) (n i:Nat):List Value:=(l.take i).map str++List.replicate (n-i) (str [])

def jP {c:UInt8}(h:on O6 c=true):48<=c.toNat/\c.toNat<=57:=by
 unfold on O6 at h;simp at h;omega
def sG {s:By}(h:Us s=true):s.all (on O6)=true/\0<s.length/\s≠[]:=by
 unfold Us at h;rw[Q7,Q7]at h;refine⟨h.1.2,?_,?_⟩
 ·cases s with
  |nil=>simp[OZ]at h
  |cons=>simp
 ·rintro rfl;simp[OZ]at h
section
variable {Z:St}{b:Nat}{v:Value}{D7:List Tok}{k:Nat}{N3:List Value}{t:Tok}
end

section
variable {Z:St}{op nm:By}{n d:Int}
mutual
def ExX (Z:St) (row:List Value):Ex->Prop
 | .mk op n d nm args=>∃ v B9,row=[str op,.int .i64 n,.int .i64 d,str nm,v]/\SLs Z 5 v B9/\args.length<=4/\Qn Z B9 args
def Qn (Z:St) (B9:List (List Value)):List Ex->Prop
 | []=>B9=[]
 |e::es=>∃ r rs,B9=r::rs/\ExX Z r e/\Qn Z rs es
end
mutual
theorem ExX.to {Z:St}{row:List Value}:∀ {e:Ex},ExX Z row e->P6 Z row e
 | .mk op n d nm args,h=>by
   obtain⟨v,B9,h1,h2,h4,h3⟩:=h;exact⟨v,B9,h1,h2.sl,h4,Qn.to h3⟩
theorem Qn.to {Z:St}{B9:List (List Value)}:∀ {es:List Ex},Qn Z B9 es->Cb Z B9 es
 | [],h=>h
 | e::es,h=>by
   obtain⟨r,rs,h1,h2,h3⟩:=h;exact⟨r,rs,h1,ExX.to h2,Qn.to h3⟩
end
mutual
theorem ExX.H4 {Z Z':St}(hE:Dr Z Z'){row:List Value}:∀ {e:Ex},ExX Z row e->ExX Z' row e
 | .mk op n d nm args,h=>by
   obtain⟨v,B9,h1,h2,h4,h3⟩:=h;exact⟨v,B9,h1,SLs.H4 h2 hE,h4,Qn.H4 hE h3⟩
theorem Qn.H4 {Z Z':St}(hE:Dr Z Z'){B9:List (List Value)}:∀ {es:List Ex},Qn Z B9 es->Qn Z' B9 es
 | [],h=>h
 | e::es,h=>by
   obtain⟨r,rs,h1,h2,h3⟩:=h;exact⟨r,rs,h1,ExX.H4 hE h2,Qn.H4 hE h3⟩
end
def Ah0:ExX Z [str op,.int .i64 n,.int .i64 d,str nm,.slice none 0 0] (.mk op n d nm []):=⟨_,[],rfl,SLs.nil,by simp,rfl⟩
def fZ {row:List Value}{e:Ex}(h:ExX Z row e):row.length=5:=h.to.len
def Av2 {b cc:Nat}{sp:Option Nat}{ra rb cells:List Value}{x y:Ex}(hb:b<Z.n) (hr:Z.row b=some cells) (hc:cells=ra++rb) (hx:ExX Z ra x) (hy:ExX Z rb y):
  ExX Z [str op,.int .i64 n,.int .i64 d,str nm,.slice (some ⟨b,0,sp⟩) 2 cc] (.mk op n d nm [x,y]):=by
 have la:=fZ hx;have lb:=fZ hy;subst hc;refine⟨_,[ra,rb],rfl,⟨fun r hr=>?_,.inr ⟨b,0,sp,cc,_,rfl,hb,hr,?_⟩⟩,by simp,ra,[rb],rfl,hx,rb,[],rfl,hy,rfl⟩
 ·simp only[Y5,FN,Em]at hr;rcases hr with rfl|rfl
  ·exact la
  ·exact lb
 ·show sub (ra++rb) 0 (2*5)=some (ra++(rb++[]));rw[FV];exact C8 (by simp;omega) (by simp;omega)
end
def szT (i:Nat):Nat:=match i with
 |0=>2
 |1=>5
 |2=>3
 |_=>1
def AB7 (T:Tn) (vs:List Value) (i:Nat):List (List Value):=match i with
 |0=>T.u9.map Lot.row
 |1=>T.G9.map Bz.row
 |2=>T.reqs.map Req.row
 |3=>T.AJ.map fun s=>[str s]
 |_=>vs.map fun x=>[x]
def held (bt bx:Nat) (v:Nat->Value):List Nat:=List.range bt++bt::bx::(Sk (v 0)++Sk (v 1)++Sk (v 2)++Sk (v 3)++Sk (v 4))
def tnR (T:Tn) (v:Nat->Value) (fc:List Value):List Value:=XJ T.name (v 0) (v 1) (v 2) T.low T.high fc (v 3) T.y8 (v 4) T.V9 T.t
structure Ln (ZL Z:St) (bt bx:Nat) (T:Tn) (tv:Value) (D7:List Tok) (k:Nat) (N3:List Value) (v:Nat->Value) (fc vs:List Value):Prop where
 ext:J7 bt ZL Z
 btl:bt<ZL.n
 bxg:ZL.n<=bx
 row:Z.A7 bt=some (tnR T v fc)
 sl:∀ i,i<5->OL ZL.n Z (szT i) (v i) (AB7 T vs i)
 dis:∀ i j c,i<5->j<5->i≠j->N0 (v i)=some c->N0 (v j)≠some c
 dx:∀ i,i<5->N0 (v i)≠some bx
 fx:P6 (M8 Z (held bt bx v)) fc T.f
 iv:MF (PC (M8 Z (held bt bx v))) vs T.J9
 sc:Sc Z bx tv D7 k N3
 tk:∀ c,N0 tv=some c->c≠bt/\∀ i,i<5->N0 (v i)≠some c
section
variable {ZL Z Z':St}{bt bx:Nat}{T T':Tn}{tv:Value}{D7:List Tok}{k k':Nat}{N3 BN2:List Value}{v:Nat->Value}{fc fc' vs vs':List Value}
end
section
variable {bs:List Nat}{i j o n:Nat}{a:St}{l:List Value}
abbrev Er:=Nat×Int
def HN {α β:Type}(x:Except Er α) (f:α->Except Er β):Except Er β:=match x with
 | .ok a=>f a
 | .error e=> .error e
def Bq {α β:Type}{a:α}{f:α->Except Er β}:HN (.ok a) f=f a:=rfl
def AZ (D7:List Tok) (k:Nat):Tok:=D7.getD k ([],0)
section
variable {Z:St}{b:Nat}{v:Value}{D7:List Tok}{k:Nat}{N3:List Value}
end
section
variable {Z ZL:St}{bt bx:Nat}{T:Tn}{tv:Value}{D7:List Tok}{k:Nat}{tx:By}{HO:Nat}{v:Nat->Value}{fc vs:List Value}
def G8 {b:Nat}{ds:List Ab.Trace}:W3 bs i ⟨b,o,n⟩ (.eff j a (a.new l)::ds)=W3 bs i ⟨b,o,n⟩ ds:=VY fun h=>(Ext.new a l).same b h
def G3 {b c:Nat}{ds:List Ab.Trace}(h:b≠c):W3 bs i ⟨b,o,n⟩ (.eff j a (a.upd c l)::ds)=W3 bs i ⟨b,o,n⟩ ds:=VY fun _=>by show(a.upd c l).h.get b=_;rw[W1,z0z h]
def V8 {r:An}{b:St}{ds:List Ab.Trace}(h:ordered bs i j=true):W3 bs i r (.eff j a b::ds)=W3 bs i r ds:=by
 show bi (bi (ordered bs i j) true (bi (Nat.blt r.b a.n) (bi (Nat.beq (a.ver r.b) (b.ver r.b)) true (CJ (a.read r.b r.off r.n) (b.read r.b r.off r.n))) true)) (W3 bs i r ds) false=_;rw[h];rfl
def fc5 {Z:St}{fc:List Value}{e:Ex}(h:P6 Z fc e):∃ c1 c2 c3 c4 c5,fc=[c1,c2,c3,c4,c5]:=by
 cases e with
 | mk op n d nm args=>
   obtain⟨v,B9,h1,-⟩:=h;exact⟨_,_,_,_,_,h1⟩
end
end
end Go.Proofs.T
