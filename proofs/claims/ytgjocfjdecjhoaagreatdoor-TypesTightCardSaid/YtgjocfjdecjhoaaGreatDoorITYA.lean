/- Av3 and DP of R7, as the program vE zK: plain functions, and what tU not change if arguments are An2. -/
import Derived.Test.YtgjocfjdecjhoaaGreatDoorIQA
import Derived.Test.YtgjocfjdecjhoaaGreatDoorISA
set_option linter.unusedSimpArgs false
set_option linter.unusedVariables false
set_option linter.defProp false
set_option maxHeartbeats 32000000
set_option maxRecDepth 100000
namespace Go.Proofs.T
open Go Go.Ab Go.N9
section
variable {T:Tn}{op nm:By}{n d:Int}
abbrev QQ:=Q×Q
def Bp:By:=[108,111,119]
def O5 (T:Tn) (nm:By):Option (Int×Int) :=
 if nm=J8\/nm=Bp then some (T.low,T.high)else(T.G7.find? fun c=>decide (c.name=nm)).map fun c=>(c.low,c.high)
def Y7 (f:Q->Q->Option Q):List (Q×Q)->Option (List Q)
 | []=>some []
 |p::l=>(f p.1 p.2).bind fun x=>(Y7 f l).bind fun xs=>some (x::xs)
def TY:List Q->QQ
 | []=>(⟨0,0⟩,⟨0,0⟩)
 |q::l=>(CG q l,CH q l)
def BI (f:Q->Q->Option Q) (l:List (Q×Q)):Except Int QQ:=match Y7 f l with
 |none=> .error 3
 |some xs=> .ok (TY xs)
def N6 (x y:QQ):List (Q×Q):=[(x.1,y.1),(x.1,y.2),(x.2,y.1),(x.2,y.2)]
def opI (op:By) (x y:QQ):Except Int QQ :=
 if op=[43]then BI QI [(x.1,y.1),(x.2,y.2)]
 else if op=[45]then BI Ry [(x.1,y.2),(x.2,y.1)]
 else if op=[42]then BI UC (N6 x y)
 else if op=[47]then(if y.1.n<=0/\0<=y.2.n then .error 15 else BI Ir (N6 x y))
 else if op=Q7 then .ok (CG x.1 [y.1],CG x.2 [y.2])
 else .ok (CH x.1 [y.1],CH x.2 [y.2])
def HK (T:Tn) (op:By) (n d:Int) (nm:By):Except Int QQ :=
 if op=K8 then .ok (⟨n,d⟩,⟨n,d⟩)else match O5 T nm with
  |none=> .error 13
  |some (a,b)=>if b<a then .error 16 else .ok (ofQ a,ofQ b)
mutual
def U7 (T:Tn):Ex->Except Int QQ
 | .mk op n d nm args=>match args with
   | []=>HK T op n d nm
   | e::es=>match U7 T e with
     | .error k=> .error k
     | .ok x=>match Md T es with
       | .error k=> .error k
       | .ok ys=>match ys with
         | [y]=>opI op x y
         |_=> .error 0
def Md (T:Tn):List Ex->Except Int (List QQ)
 | []=> .ok []
 | e::es=>match U7 T e with
   | .error k=> .error k
   | .ok x=>match Md T es with
     | .error k=> .error k
     | .ok xs=> .ok (x::xs)
end
abbrev Un:=Int×Bool
def vF (op:By) (a b:Un):Except Int Un :=
 if op=[42]then .ok (a.1+b.1,false)
 else if op=[47]then(if b.2=true/\a.1=1 then .ok (0,false)else .ok (a.1-b.1,false))
 else if a.2=true then .ok (b.1,false)
 else if b.2=true\/a.1=b.1 then .ok (a.1,false)
 else .error 14
def Av5 (T:Tn) (op:By) (nm:By):Except Int Un :=
 if op=K8 then .ok (0,true)else match O5 T nm with
  |none=> .error 13
  |some _=>if nm=J8\/nm=Bp then .ok (1,false)else .ok (0,false)
mutual
def AQ3 (T:Tn):Ex->Except Int Un
 | .mk op _ _ nm args=>match args with
   | []=>Av5 T op nm
   | e::es=>match AQ3 T e with
     | .error k=> .error k
     | .ok x=>match AQ4 T es with
       | .error k=> .error k
       | .ok ys=>match ys with
         | [y]=>vF op x y
         |_=> .error 0
def AQ4 (T:Tn):List Ex->Except Int (List Un)
 | []=> .ok []
 | e::es=>match AQ3 T e with
   | .error k=> .error k
   | .ok x=>match AQ4 T es with
     | .error k=> .error k
     | .ok xs=> .ok (x::xs)
end
def two {α:Type}(f:α->α->Except Int α):Except Int α->Except Int α->Except Int α
 | .ok x,.ok y=>f x y
 | .ok _,.error k=> .error k
 | .error k,_=> .error k
def AD:U7 T (.mk op n d nm [])=HK T op n d nm:=by unfold U7;rfl
def Ax {a b:Ex}:U7 T (.mk op n d nm [a,b])=two (opI op) (U7 T a) (U7 T b):=by
 rw[U7.eq_2];cases U7 T a with
 |error k=>rfl
 | ok x=>
   rw[Md.eq_2];cases U7 T b with
   |error k=>rfl
   |ok y=>rw[Md.eq_1];rfl
def Me (T:Tn) (e:Ex):QQ×Int:=if AF e=true then(match U7 T e with
 | .ok x=>(x,0)
 | .error k=>((⟨0,0⟩,⟨0,0⟩),k))else((⟨0,0⟩,⟨0,0⟩),1)
def Dr (x:QQ):Prop:=x.1.Ok/\x.2.Ok
def nj {f:Q->Q->Option Q}{p q:Q×Q}:Y7 f [p,q]=(f p.1 p.2).bind fun x=>(f q.1 q.2).bind fun y=>some [x,y]:=by
 unfold Y7;rcases f p.1 p.2 with _|a
 ·rfl
 unfold Y7;rcases f q.1 q.2 with _|b
 ·rfl
 unfold Y7;rfl
def PJ {f:Q->Q->Option Q}{P:Q->Prop}:∀ {l:List (Q×Q)}{xs:List Q},(∀ p∈l,∀ x,f p.1 p.2=some x->P x)->Y7 f l=some xs->∀ x∈xs,P x
 | [],xs,_,h=>by unfold Y7 at h;cases h;intro x hx;nomatch hx
 | p::l,xs,hp,h=>by
   unfold Y7 at h;cases h1:f p.1 p.2 with
   |none=>rw[h1]at h;cases h
   | some x=>
     rw[h1]at h;cases h2:Y7 f l with
     |none=>rw[h2]at h;cases h
     | some ys=>
       rw[h2]at h;cases h;intro z hz;rcases W1.1 hz with rfl|hz
       ·exact hp p (HV ..) z h1
       ·exact PJ (fun q hq=>hp q (De _ hq)) h2 z hz
def NM {q:Q}{l:List Q}(a:q.Ok) (h:∀ x∈l,x.Ok):(CG q l).Ok:=by
 rcases(Wl a h).1 with e|e
 ·rw[e];exact a
 ·exact h _ e
def NO {q:Q}{l:List Q}(a:q.Ok) (h:∀ x∈l,x.Ok):(CH q l).Ok:=by
 rcases(Wm a h).1 with e|e
 ·rw[e];exact a
 ·exact h _ e
def vG {l:List Q}(b:l≠[]) (h:∀ x∈l,x.Ok):Dr (TY l):=by
 cases l with
 |nil=>exact absurd rfl b
 |cons q l=>exact⟨NM (h q (HV ..)) fun x a=>h x (De _ a),NO (h q (HV ..)) fun x a=>h x (De _ a)⟩
def Vq {f:Q->Q->Option Q}:∀ {l:List (Q×Q)}{xs:List Q},Y7 f l=some xs->xs.length=l.length
 | [],xs,h=>by unfold Y7 at h;cases h;rfl
 | p::l,xs,h=>by
   unfold Y7 at h;cases h1:f p.1 p.2 with
   |none=>rw[h1]at h;cases h
   | some x=>
     rw[h1]at h;cases h2:Y7 f l with
     |none=>rw[h2]at h;cases h
     |some ys=>rw[h2]at h;cases h;rw[Ap,Ap,Vq h2]
def NV {f:Q->Q->Option Q}{l:List (Q×Q)}{x:QQ}(c:l≠[]) (h:∀ p∈l,∀ x,f p.1 p.2=some x->x.Ok) (a:BI f l= .ok x):Dr x:=by
 unfold BI at a;cases b:Y7 f l with
 |none=>rw[b]at a;cases a
 | some xs=>
   rw[b]at a;cases a;refine vG ?_ (PJ h b);intro e;have:=Vq b;rw[e]at this;cases l with
   |nil=>exact c rfl
   |cons=>cases this
end
section
variable {T:Tn}{k m:Nat}{e:Ex}{op:By}
structure BdT (T:Tn):Prop where
 low:BN T.low
 high:BN T.high
 Dn:∀ c∈T.G7,BN c.low/\BN c.high
def SO (d:BdT T){nm:By}{a b:Int}(h:O5 T nm=some (a,b)):BN a/\BN b:=by
 unfold O5 at h;split at h
 ·cases h;exact⟨d.low,d.high⟩
 ·cases f:T.G7.find? fun c=>decide (c.name=nm)with
  |none=>rw[f]at h;cases h
  | some c=>
    rw[f]at h;cases h;exact d.Dn c (List.mem_of_find?_eq_some f)
def Kq {n d:Int}(h:Jk n d):Q.Ok ⟨n,d⟩:=by
 have b:=h.rq.n1;have c:=h.rq.n2;have a:=h.rq.d1;have f:=h.rq.d2;refine⟨by show _<=n;omega,?_,a,by show d<=_;omega,?_⟩
 ·show n<=_;have:1000000000*d<=1000000000*1000000000:=om;omega
 ·have:=h.rq.low;rw[Int.gcd_eq_natAbs_gcd_natAbs]at this;exact this
def QY {a b q:Q}(c:a.Ok) (f:b.Ok) (h:Ry a b=some q):q.Ok/\Is q (a.n*b.d+ -b.n*a.d) (a.d*b.d):=by
 have j:0<a.d.natAbs*b.d.natAbs:=Nat.mul_pos (by have:=c.d1;omega) (by have:=f.d1;omega);obtain⟨g,i⟩:=NU (N:=a.n*b.d+ -b.n*a.d) j;obtain⟨h3,h4⟩:=Go.N9.MB g h;subst h4;refine⟨h3,?_⟩;show(low _ _).1*(a.d*b.d)=_*(((low _ _).2:Nat):Int);rw[<- i,Int.natCast_mul,BZ c.d1,BZ f.d1]
def Ga {a b q:Q}(c:a.Ok) (h:Ir a b=some q):q.Ok/\b.n≠0/\Is q (a.n*(b.n.sign*b.d)) (a.d*b.n.natAbs):=by
 unfold Ir at h;split at h
 ·cases h
 ·rename_i j;have i:0<a.d.natAbs*b.n.natAbs:=Nat.mul_pos (by have:=c.d1;omega) om;obtain⟨f,g⟩:=NU (N:=a.n*(b.n.sign*b.d)) i;obtain⟨h3,h4⟩:=Go.N9.MB f h;subst h4;refine⟨h3,j,?_⟩;show(low _ _).1*(a.d*b.n.natAbs)=_*(((low _ _).2:Nat):Int);rw[<- g,Int.natCast_mul,BZ c.d1]
def SP {x y z:QQ}(b:Dr x) (d:Dr y) (h:opI op x y= .ok z):Dr z:=by
 have f:∀ p∈N6 x y,p.1.Ok/\p.2.Ok:=by
  intro p c;simp only[N6,W1,EP,EK]at c;rcases c with rfl|rfl|rfl|rfl
  ·exact⟨b.1,d.1⟩
  ·exact⟨b.1,d.2⟩
  ·exact⟨b.2,d.1⟩
  ·exact⟨b.2,d.2⟩
 have one:∀ {a:Q},a.Ok->∀ x∈[a],x.Ok:=fun g x b=>by rw[JB]at b;exact b ▸ g
 unfold opI at h;split at h
 ·refine NV (by simp) (fun p c x h=>?_) h;simp only[W1,EP,EK]at c;rcases c with rfl|rfl
  ·exact(QX b.1 d.1 h).1
  ·exact(QX b.2 d.2 h).1
 split at h
 ·refine NV (by simp) (fun p c x h=>?_) h;simp only[W1,EP,EK]at c;rcases c with rfl|rfl
  ·exact(QY b.1 d.2 h).1
  ·exact(QY b.2 d.1 h).1
 split at h
 ·exact NV (by simp[N6]) (fun p c x h=>(WM (f p c).1 (f p c).2 h).1) h
 split at h
 ·split at h
  ·cases h
  ·exact NV (by simp[N6]) (fun p c x h=>(Ga (f p c).1 h).1) h
 split at h
 ·cases h;exact⟨NM b.1 (one d.1),NM b.2 (one d.2)⟩
 ·cases h;exact⟨NO b.1 (one d.1),NO b.2 (one d.2)⟩
def Oo {a:Type}{f:a->a->Except Int a}{r s:Except Int a}{z:a}(h:two f r s= .ok z):∃ x y,r= .ok x/\s= .ok y/\f x y= .ok z:=by
 cases r with
 |error k=>cases h
 | ok x=>cases s with
   |error k=>cases h
   |ok y=>exact⟨x,y,rfl,rfl,h⟩
def VA (l:BdT T)(o:FW k m e):∀ {x:QQ},U7 T e= .ok x->Dr x:=by
 induction o with
 | @num n d h=>
   intro x c;rw[AD]at c;unfold HK at c;rw[z1z rfl]at c;cases c;exact⟨Kq h,Kq h⟩
 | @name nm g i j=>
   intro x c;rw[AD]at c;unfold HK at c;rw[z0z (by decide)]at c;cases f:O5 T nm with
   |none=>rw[f]at c;cases c
   | some p=>
     obtain⟨a,b⟩:=p;rw[f]at c;obtain⟨ha,f⟩:=SO l f;dsimp only at c;split at c
     ·cases c
     ·cases c;exact⟨Wv ha.1 ha.2,Wv f.1 f.2⟩
 | bin h ha f iha ihb=>
   intro x c;rw[Ax]at c;obtain⟨u,v,g,i,j⟩:=Oo c;exact SP (iha g) (ihb i) j
 | mm h ha f iha ihb=>
   intro x c;rw[Ax]at c;obtain⟨u,v,g,i,j⟩:=Oo c;exact SP (iha g) (ihb i) j
def eB {f:Q->Q->Option Q}{p q r s:Q×Q}:Y7 f [p,q,r,s]=(f p.1 p.2).bind fun x=>(f q.1 q.2).bind fun y=>(f r.1 r.2).bind fun z=>(f s.1 s.2).bind fun w=>some [x,y,z,w]:=by
 unfold Y7;rcases f p.1 p.2 with _|a
 ·rfl
 unfold Y7;rcases f q.1 q.2 with _|b
 ·rfl
 unfold Y7;rcases f r.1 r.2 with _|c
 ·rfl
 unfold Y7;rcases f s.1 s.2 with _|d
 ·rfl
 unfold Y7;rfl
def Ww (h:FW k m e) (d:k<=12):AF e=decide (m<=60):=by
 obtain⟨a,b,c⟩:=Yv h;unfold AF;rw[a,b,c,AW d,dR,Io]
def Kr {f:Q->Q->Option Q}{l:List (Q×Q)}{k:Int}(h:BI f l= .error k):k≠0:=by
 unfold BI at h;split at h
 ·cases h;decide
 ·cases h
def Wx {x y:QQ}{k:Int}(h:opI op x y= .error k):k≠0:=by
 unfold opI at h;split at h
 ·exact Kr h
 split at h
 ·exact Kr h
 split at h
 ·exact Kr h
 split at h
 ·split at h
  ·cases h;decide
  ·exact Kr h
 split at h<;>cases h
def Wy {a:Type}{f:a->a->Except Int a}{r s:Except Int a}{k:Int}(c:∀ k,r= .error k->k≠0) (d:∀ k,s= .error k->k≠0) (b:∀ x y k,f x y= .error k->k≠0) (h:two f r s= .error k):k≠0:=by
 cases r with
 |error j=>cases h;exact c _ rfl
 | ok x=>cases s with
   |error j=>cases h;exact d _ rfl
   |ok y=>exact b _ _ _ h
def eC (i:FW k m e):∀ j,U7 T e= .error j->j≠0:=by
 induction i with
 | @num n d h=>
   intro j a;rw[AD]at a;unfold HK at a;rw[z1z rfl]at a;cases a
 | @name nm h1 h2 h3=>
   intro j a;rw[AD]at a;unfold HK at a;rw[z0z (by decide)]at a;cases f:O5 T nm with
   |none=>rw[f]at a;cases a;decide
   | some p=>
     rw[f]at a;dsimp only at a;split at a<;>cases a;decide
 |bin h g f b c=>intro j a;rw[Ax]at a;exact Wy b c (fun _ _ _ h=>Wx h) a
 |mm h g f b c=>intro j a;rw[Ax]at a;exact Wy b c (fun _ _ _ h=>Wx h) a
end
end Go.Proofs.T
