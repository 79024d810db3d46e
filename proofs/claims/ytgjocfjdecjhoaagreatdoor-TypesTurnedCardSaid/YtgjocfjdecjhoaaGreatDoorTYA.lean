/- Am9 and GV of Y6, as the program tA xM: plain functions, and what rO not change if arguments are lG. -/
import Derived.Test.YtgjocfjdecjhoaaGreatDoorQA
import Derived.Test.YtgjocfjdecjhoaaGreatDoorSA
set_option linter.unusedSimpArgs false
set_option linter.unusedVariables false
set_option linter.defProp false
set_option maxHeartbeats 32000000
set_option maxRecDepth 100000
namespace Go.Proofs.T
open Go Go.Ab Go.V6
section
variable {T:Tn}{op nm:By}{n d:Int}{a b:Ex}
abbrev QQ:=Q×Q
def Dp:By:=[108,111,119]
def pL:By:=[109,111,110,101,121]
def Av (T:Tn) (nm:By):Option (Int×Int) :=
 if nm=N9\/nm=Dp then some (T.low,T.high)else(T.G9.find? fun c=>decide (c.name=nm)).map fun c=>(c.low,c.high)
def Y4 (f:Q->Q->Option Q):List (Q×Q)->Option (List Q)
 | []=>some []
 |p::l=>(f p.1 p.2).bind fun x=>(Y4 f l).bind fun xs=>some (x::xs)
def RD:List Q->QQ
 | []=>(⟨0,0⟩,⟨0,0⟩)
 |q::l=>(Co q l,Cp q l)
def Bu (f:Q->Q->Option Q) (l:List (Q×Q)):Except Int QQ:=match Y4 f l with
 |none=> .error 3
 |some xs=> .ok (RD xs)
def R7 (x y:QQ):List (Q×Q):=[(x.1,y.1),(x.1,y.2),(x.2,y.1),(x.2,y.2)]
def opI (op:By) (x y:QQ):Except Int QQ :=
 if op=[43]then Bu PT [(x.1,y.1),(x.2,y.2)]
 else if op=[45]then Bu YJ [(x.1,y.2),(x.2,y.1)]
 else if op=[42]then Bu Kd (R7 x y)
 else if op=[47]then(if y.1.n<=0/\0<=y.2.n then .error 15 else Bu MP (R7 x y))
 else if op=R3 then .ok (Co x.1 [y.1],Co x.2 [y.2])
 else .ok (Cp x.1 [y.1],Cp x.2 [y.2])
def Ko (T:Tn) (op:By) (n d:Int) (nm:By):Except Int QQ :=
 if op=K9 then .ok (⟨n,d⟩,⟨n,d⟩)else match Av T nm with
  |none=> .error 13
  |some (a,b)=>if b<a then .error 16 else .ok (ofQ a,ofQ b)
mutual
def Y1 (T:Tn):Ex->Except Int QQ
 | .mk op n d nm args=>match args with
   | []=>Ko T op n d nm
   | e::es=>match Y1 T e with
     | .error k=> .error k
     | .ok x=>match MB T es with
       | .error k=> .error k
       | .ok ys=>match ys with
         | [y]=>opI op x y
         |_=> .error 0
def MB (T:Tn):List Ex->Except Int (List QQ)
 | []=> .ok []
 | e::es=>match Y1 T e with
   | .error k=> .error k
   | .ok x=>match MB T es with
     | .error k=> .error k
     | .ok xs=> .ok (x::xs)
end
abbrev Un:=Int×Bool
def BP (op:By) (a b:Un):Except Int Un :=
 if op=[42]then .ok (a.1+b.1,false)
 else if op=[47]then(if b.2=true/\a.1=1 then .ok (0,false)else .ok (a.1-b.1,false))
 else if a.2=true then .ok (b.1,false)
 else if b.2=true\/a.1=b.1 then .ok (a.1,false)
 else .error 14
def Kq (T:Tn) (op:By) (nm:By):Except Int Un :=
 if op=K9 then .ok (0,true)else match Av T nm with
  |none=> .error 13
  |some _=>if nm=N9\/nm=Dp then .ok (1,false)else .ok (0,false)
mutual
def Am (T:Tn):Ex->Except Int Un
 | .mk op _ _ nm args=>match args with
   | []=>Kq T op nm
   | e::es=>match Am T e with
     | .error k=> .error k
     | .ok x=>match SP T es with
       | .error k=> .error k
       | .ok ys=>match ys with
         | [y]=>BP op x y
         |_=> .error 0
def SP (T:Tn):List Ex->Except Int (List Un)
 | []=> .ok []
 | e::es=>match Am T e with
   | .error k=> .error k
   | .ok x=>match SP T es with
     | .error k=> .error k
     | .ok xs=> .ok (x::xs)
end
def two {α:Type}(f:α->α->Except Int α):Except Int α->Except Int α->Except Int α
 | .ok x,.ok y=>f x y
 | .ok _,.error k=> .error k
 | .error k,_=> .error k
def Ct:Y1 T (.mk op n d nm [])=Ko T op n d nm:=by unfold Y1;rfl
def Ba:Y1 T (.mk op n d nm [a,b])=two (opI op) (Y1 T a) (Y1 T b):=by
 rw[Y1.eq_2];cases Y1 T a with
 |error k=>rfl
 | ok x=>
   rw[MB.eq_2];cases Y1 T b with
   |error k=>rfl
   |ok y=>rw[MB.eq_1];rfl
def De:Am T (.mk op n d nm [])=Kq T op nm:=by unfold Am;rfl
def DB:Am T (.mk op n d nm [a,b])=two (BP op) (Am T a) (Am T b):=by
 rw[Am.eq_2];cases Am T a with
 |error k=>rfl
 | ok x=>
   rw[SP.eq_2];cases Am T b with
   |error k=>rfl
   |ok y=>rw[SP.eq_1];rfl
def DP (T:Tn) (e:Ex):QQ×Int:=if AD e=true then(match Y1 T e with
 | .ok x=>(x,0)
 | .error k=>((⟨0,0⟩,⟨0,0⟩),k))else((⟨0,0⟩,⟨0,0⟩),1)
def Mk (T:Tn) (e:Ex):Int×Int:=if AD e=true then(match Am T e with
 | .ok x=>(x.1,0)
 | .error k=>(0,k))else(0,1)
def EY (x:QQ):Prop:=x.1.Ok/\x.2.Ok
def Tl {f:Q->Q->Option Q}{p q:Q×Q}:Y4 f [p,q]=(f p.1 p.2).bind fun x=>(f q.1 q.2).bind fun y=>some [x,y]:=by
 unfold Y4;rcases f p.1 p.2 with _|x1
 ·rfl
 unfold Y4;rcases f q.1 q.2 with _|x2
 ·rfl
 unfold Y4;rfl
def OG {f:Q->Q->Option Q}{P:Q->Prop}:∀ {l:List (Q×Q)}{xs:List Q},(∀ p∈l,∀ x,f p.1 p.2=some x->P x)->Y4 f l=some xs->∀ x∈xs,P x
 | [],xs,_,h=>by unfold Y4 at h;cases h;intro x hx;nomatch hx
 | p::l,xs,hp,h=>by
   unfold Y4 at h;cases h1:f p.1 p.2 with
   |none=>rw[h1]at h;cases h
   | some x=>
     rw[h1]at h;cases h2:Y4 f l with
     |none=>rw[h2]at h;cases h
     | some ys=>
       rw[h2]at h;cases h;intro z hz;rcases Y5.1 hz with rfl|hz
       ·exact hp p (Kf ..) z h1
       ·exact OG (fun q hq=>hp q (GA _ hq)) h2 z hz
def Pf {q:Q}{l:List Q}(hq:q.Ok) (h:∀ x∈l,x.Ok):(Co q l).Ok:=by
 rcases(Wj hq h).1 with e|e
 ·rw[e];exact hq
 ·exact h _ e
def Pg {q:Q}{l:List Q}(hq:q.Ok) (h:∀ x∈l,x.Ok):(Cp q l).Ok:=by
 rcases(Wk hq h).1 with e|e
 ·rw[e];exact hq
 ·exact h _ e
def tB {l:List Q}(hn:l≠[]) (h:∀ x∈l,x.Ok):EY (RD l):=by
 cases l with
 |nil=>exact absurd rfl hn
 |cons q l=>exact⟨Pf (h q (Kf ..)) fun x hx=>h x (GA _ hx),Pg (h q (Kf ..)) fun x hx=>h x (GA _ hx)⟩
def Ud {f:Q->Q->Option Q}:∀ {l:List (Q×Q)}{xs:List Q},Y4 f l=some xs->xs.length=l.length
 | [],xs,h=>by unfold Y4 at h;cases h;rfl
 | p::l,xs,h=>by
   unfold Y4 at h;cases h1:f p.1 p.2 with
   |none=>rw[h1]at h;cases h
   | some x=>
     rw[h1]at h;cases h2:Y4 f l with
     |none=>rw[h2]at h;cases h
     |some ys=>rw[h2]at h;cases h;rw[CE,CE,Ud h2]
def Mh {f:Q->Q->Option Q}{l:List (Q×Q)}{x:QQ}(hl:l≠[]) (h:∀ p∈l,∀ x,f p.1 p.2=some x->x.Ok) (he:Bu f l= .ok x):EY x:=by
 unfold Bu at he;cases h1:Y4 f l with
 |none=>rw[h1]at he;cases he
 | some xs=>
   rw[h1]at he;cases he;refine tB ?_ (OG h h1);intro e;have:=Ud h1;rw[e]at this;cases l with
   |nil=>exact hl rfl
   |cons=>cases this
end
section
variable {op:By}{k m j i:Nat}{T:Tn}{e a b:Ex}
structure BdT (T:Tn):Prop where
 low:Bk T.low
 high:Bk T.high
 Du:∀ c∈T.G9,Bk c.low/\Bk c.high
def RC (hT:BdT T){nm:By}{a b:Int}(h:Av T nm=some (a,b)):Bk a/\Bk b:=by
 unfold Av at h;split at h
 ·cases h;exact⟨hT.low,hT.high⟩
 ·cases hc:T.G9.find? fun c=>decide (c.name=nm)with
  |none=>rw[hc]at h;cases h
  | some c=>
    rw[hc]at h;cases h;exact hT.Du c (List.mem_of_find?_eq_some hc)
def ft {n d:Int}(h:MI n d):Q.Ok ⟨n,d⟩:=by
 have h1:=h.rq.n1;have h2:=h.rq.n2;have h3:=h.rq.d1;have h4:=h.rq.d2;refine⟨by show _<=n;omega,?_,h3,by show d<=_;omega,?_⟩
 ·show n<=_;have:1000000000*d<=1000000000*1000000000:=om;omega
 ·have:=h.rq.low;rw[Int.gcd_eq_natAbs_gcd_natAbs]at this;exact this
def Vi {a b q:Q}(ha:a.Ok) (hb:b.Ok) (h:YJ a b=some q):q.Ok/\Is q (a.n*b.d+ -b.n*a.d) (a.d*b.d):=by
 have hD:0<a.d.natAbs*b.d.natAbs:=Nat.mul_pos (by have:=ha.d1;omega) (by have:=hb.d1;omega);obtain⟨h1,h2⟩:=Pc (N:=a.n*b.d+ -b.n*a.d) hD;obtain⟨h3,h4⟩:=Go.V6.LS h1 h;subst h4;refine⟨h3,?_⟩;show(low _ _).1*(a.d*b.d)=_*(((low _ _).2:Nat):Int);rw[<- h2,Int.natCast_mul,BO ha.d1,BO hb.d1]
def Uy {a b q:Q}(ha:a.Ok) (h:MP a b=some q):q.Ok/\b.n≠0/\Is q (a.n*(b.n.sign*b.d)) (a.d*b.n.natAbs):=by
 unfold MP at h;split at h
 ·cases h
 ·rename_i hb;have hD:0<a.d.natAbs*b.n.natAbs:=Nat.mul_pos (by have:=ha.d1;omega) om;obtain⟨h1,h2⟩:=Pc (N:=a.n*(b.n.sign*b.d)) hD;obtain⟨h3,h4⟩:=Go.V6.LS h1 h;subst h4;refine⟨h3,hb,?_⟩;show(low _ _).1*(a.d*b.n.natAbs)=_*(((low _ _).2:Nat):Int);rw[<- h2,Int.natCast_mul,BO ha.d1]
def cM {x y z:QQ}(hx:EY x) (hy:EY y) (h:opI op x y= .ok z):EY z:=by
 have hc:∀ p∈R7 x y,p.1.Ok/\p.2.Ok:=by
  intro p hp;simp only[R7,Y5,FN,Em]at hp;rcases hp with rfl|rfl|rfl|rfl
  ·exact⟨hx.1,hy.1⟩
  ·exact⟨hx.1,hy.2⟩
  ·exact⟨hx.2,hy.1⟩
  ·exact⟨hx.2,hy.2⟩
 have one:∀ {a:Q},a.Ok->∀ x∈[a],x.Ok:=fun ha x hx=>by rw[Lf]at hx;exact hx ▸ ha
 unfold opI at h;split at h
 ·refine Mh (by simp) (fun p hp x h=>?_) h;simp only[Y5,FN,Em]at hp;rcases hp with rfl|rfl
  ·exact(Vj hx.1 hy.1 h).1
  ·exact(Vj hx.2 hy.2 h).1
 split at h
 ·refine Mh (by simp) (fun p hp x h=>?_) h;simp only[Y5,FN,Em]at hp;rcases hp with rfl|rfl
  ·exact(Vi hx.1 hy.2 h).1
  ·exact(Vi hx.2 hy.1 h).1
 split at h
 ·exact Mh (by simp[R7]) (fun p hp x h=>(KG (hc p hp).1 (hc p hp).2 h).1) h
 split at h
 ·split at h
  ·cases h
  ·exact Mh (by simp[R7]) (fun p hp x h=>(Uy (hc p hp).1 h).1) h
 split at h
 ·cases h;exact⟨Pf hx.1 (one hy.1),Pf hx.2 (one hy.2)⟩
 ·cases h;exact⟨Pg hx.1 (one hy.1),Pg hx.2 (one hy.2)⟩
def Ni {α:Type}{f:α->α->Except Int α}{r s:Except Int α}{z:α}(h:two f r s= .ok z):∃ x y,r= .ok x/\s= .ok y/\f x y= .ok z:=by
 cases r with
 |error k=>cases h
 | ok x=>cases s with
   |error k=>cases h
   |ok y=>exact⟨x,y,rfl,rfl,h⟩
def Tk (hT:BdT T)(he:FW k m e):∀ {x:QQ},Y1 T e= .ok x->EY x:=by
 induction he with
 | @num n d h=>
   intro x hx;rw[Ct]at hx;unfold Ko at hx;rw[z1z rfl]at hx;cases hx;exact⟨ft h,ft h⟩
 | @name nm h1 h2 h3=>
   intro x hx;rw[Ct]at hx;unfold Ko at hx;rw[z0z (by decide)]at hx;cases hb:Av T nm with
   |none=>rw[hb]at hx;cases hx
   | some p=>
     obtain⟨a,b⟩:=p;rw[hb]at hx;obtain⟨ha,hb⟩:=RC hT hb;dsimp only at hx;split at hx
     ·cases hx
     ·cases hx;exact⟨oU ha.1 ha.2,oU hb.1 hb.2⟩
 | bin h ha hb iha ihb=>
   intro x hx;rw[Ba]at hx;obtain⟨u,v,h1,h2,h3⟩:=Ni hx;exact cM (iha h1) (ihb h2) h3
 | mm h ha hb iha ihb=>
   intro x hx;rw[Ba]at hx;obtain⟨u,v,h1,h2,h3⟩:=Ni hx;exact cM (iha h1) (ihb h2) h3
def Sy (op:By):Prop:=op=[43]\/op=[42]\/op=R3\/op=R6
def cN {m m':Q}{l l':List Q}(hl:∀ x∈m::l,x.Ok) (h:∀ x,x∈m::l↔x∈m'::l'):RD (m::l)=RD (m'::l'):=by
 show(Co m l,Cp m l)=(Co m' l',Cp m' l')
 rw[Nj hl h,Nk hl h]
def RE {f:Q->Q->Option Q}{p q r s:Q×Q}:Y4 f [p,q,r,s]=(f p.1 p.2).bind fun x=>(f q.1 q.2).bind fun y=>(f r.1 r.2).bind fun z=>(f s.1 s.2).bind fun w=>some [x,y,z,w]:=by
 unfold Y4;rcases f p.1 p.2 with _|x1
 ·rfl
 unfold Y4;rcases f q.1 q.2 with _|x2
 ·rfl
 unfold Y4;rcases f r.1 r.2 with _|x3
 ·rfl
 unfold Y4;rcases f s.1 s.2 with _|x4
 ·rfl
 unfold Y4;rfl
def oV {x y:QQ}(hx:EY x) (hy:EY y):Bu Kd (R7 x y)=Bu Kd (R7 y x):=by
 unfold Bu R7;rw[RE,RE];dsimp only;rw[KL y.1 x.1,KL y.1 x.2,KL y.2 x.1,KL y.2 x.2];rcases h1:Kd x.1 y.1 with _|a
 ·rfl
 rcases h2:Kd x.1 y.2 with _|b<;>rcases h3:Kd x.2 y.1 with _|c<;>try rfl
 rcases h4:Kd x.2 y.2 with _|d
 ·rfl
 have ka:=(KG hx.1 hy.1 h1).1;have kb:=(KG hx.1 hy.2 h2).1;have kc:=(KG hx.2 hy.1 h3).1;have kd:=(KG hx.2 hy.2 h4).1;refine congrArg Except.ok (cN ?_ ?_)
 ·intro z hz;simp only[Y5,FN,Em]at hz;rcases hz with rfl|rfl|rfl|rfl<;>assumption
 ·intro z;simp only[Y5,FN,Em];constructor
  ·rintro(h|h|h|h)
   ·exact .inl h
   ·exact .inr (.inr (.inl h))
   ·exact .inr (.inl h)
   ·exact .inr (.inr (.inr h))
  ·rintro(h|h|h|h)
   ·exact .inl h
   ·exact .inr (.inr (.inl h))
   ·exact .inr (.inl h)
   ·exact .inr (.inr (.inr h))
def Mi {a b:Q}(z:Q):z∈[a,b]↔z∈[b,a]:=by
 simp only[Y5,FN,Em];exact Or.comm
def Ph {a b:Q}(ha:a.Ok) (hb:b.Ok):∀ x∈[a,b],x.Ok:=fun x hx=>by
 simp only[Y5,FN,Em]at hx;rcases hx with rfl|rfl<;>assumption
def oW (h:Sy op){x y:QQ}(hx:EY x) (hy:EY y):opI op x y=opI op y x:=by
 rcases h with rfl|rfl|rfl|rfl
 ·unfold opI;rw[z1z rfl,z1z rfl];unfold Bu;rw[Tl,Tl];dsimp only;rw[To y.1,To y.2]
 ·unfold opI;rw[z0z (by decide),z0z (by decide),z1z rfl,z0z (by decide),z0z (by decide),z1z rfl];exact oV hx hy
 ·unfold opI;rw[z0z (by decide),z0z (by decide),z0z (by decide),z0z (by decide),z1z rfl,z0z (by decide),z0z (by decide),z0z (by decide),z0z (by decide),z1z rfl];rw[Nj (Ph hx.1 hy.1) Mi,Nj (Ph hx.2 hy.2) Mi]
 ·unfold opI;rw[z0z (by decide),z0z (by decide),z0z (by decide),z0z (by decide),z0z (by decide),z0z (by decide),z0z (by decide),z0z (by decide),z0z (by decide),z0z (by decide)];rw[Nk (Ph hx.1 hy.1) Mi,Nk (Ph hx.2 hy.2) Mi]
def Tq {a:Q}:Co a [a]=a:=by
 unfold Co;rw[QB,List.foldl_nil];split<;>rfl
def Ts {a:Q}:Cp a [a]=a:=by
 unfold Cp;rw[QB,List.foldl_nil];split<;>rfl
def oX (h:op=R3\/op=R6){x:QQ}:opI op x x= .ok x:=by
 rcases h with rfl|rfl
 ·unfold opI;rw[z0z (by decide),z0z (by decide),z0z (by decide),z0z (by decide),z1z rfl,Tq,Tq]
 ·unfold opI;rw[z0z (by decide),z0z (by decide),z0z (by decide),z0z (by decide),z0z (by decide),Ts,Ts]
def Tt (he:FW k m e):∀ {u:Un},Am T e= .ok u->u.2=true->u.1=0:=by
 have key:∀ {op:By}{a b u:Un},BP op a b= .ok u->u.2=true->u.1=0:=by
  intro op a b u h hu;unfold BP at h
  repeat' split at h
  all_goals cases h
  all_goals cases hu
 cases he with
 | num h=>
   intro u hu _;rw[De]at hu;unfold Kq at hu;rw[z1z rfl]at hu;cases hu;rfl
 | @name nm h1 h2 h3=>
   intro u hu h;rw[De]at hu;unfold Kq at hu;rw[z0z (by decide)]at hu;cases hb:Av T nm with
   |none=>rw[hb]at hu;cases hu
   | some p=>
     rw[hb]at hu;dsimp only at hu;split at hu<;>cases hu<;>cases h
 | bin h ha hb=>
   intro u hu h;rw[DB]at hu;obtain⟨x,y,h1,h2,h3⟩:=Ni hu;exact key h3 h
 | mm h ha hb=>
   intro u hu h;rw[DB]at hu;obtain⟨x,y,h1,h2,h3⟩:=Ni hu;exact key h3 h
def Mj (h1:op≠[42]) (h2:op≠[47]){a b:Un}:BP op a b=if a.2=true then .ok (b.1,false)else if b.2=true\/a.1=b.1 then .ok (a.1,false)else .error 14:=by
 unfold BP;rw[z0z h1,z0z h2]
def TB (h:Sy op){a b:Un}(ha:a.2=true->a.1=0) (hb:b.2=true->b.1=0):BP op a b=BP op b a:=by
 obtain⟨ap,an⟩:=a;obtain⟨bp,bn⟩:=b;dsimp only at ha hb;by_cases hm:op=[42]
 ·subst hm;unfold BP;rw[z1z rfl,z1z rfl];dsimp only;rw[Int.add_comm]
 ·have hq:op≠[47]:=by rcases h with rfl|rfl|rfl|rfl<;>decide
  rw[Mj hm hq,Mj hm hq];dsimp only;cases an<;>cases bn
  ·simp only[IH,Gc,false_or];by_cases c:ap=bp
   ·subst c;rfl
   ·rw[z0z c,z0z (fun e=>c e.symm)]
  ·simp
  ·simp
  ·simp[ha rfl,hb rfl]
def Alike {α:Type}(r s:Except Int α):Prop:=match r,s with
 | .ok x,.ok y=>x=y
 | .error _,.error _=>True
 |_,_=>False
def YK {α:Type}{f:α->α->Except Int α}{r s:Except Int α}(h:∀ x y,r= .ok x->s= .ok y->f x y=f y x):Alike (two f r s) (two f s r):=by
 cases r with
 | error k=>cases s with
   |error j=>exact trivial
   |ok y=>exact trivial
 | ok x=>cases s with
   |error j=>exact trivial
   | ok y=>
     show Alike (f x y) (f y x);rw[h x y rfl rfl];cases f y x with
     |error k=>exact trivial
     |ok z=>exact rfl
def gA (h:Sy op)(ha:FW k m a) (hb:FW j i b):FW (1+max k j) (m+i+1) (.mk op 0 0 [] [a,b]):=by
 rcases h with h|h|h|h
 ·exact .bin (.inl h) ha hb
 ·exact .bin (.inr (.inr (.inl h))) ha hb
 ·exact .mm (.inl h) ha hb
 ·exact .mm (.inr h) ha hb
def DC (h:FW k m e) (hk:k<=12):AD e=decide (m<=60):=by
 obtain⟨h1,h2,h3⟩:=QX h;unfold AD;rw[h1,h2,h3,Be hk,bh,IE]
def KM {f:Q->Q->Option Q}{l:List (Q×Q)}{k:Int}(h:Bu f l= .error k):k≠0:=by
 unfold Bu at h;split at h
 ·cases h;decide
 ·cases h
def Vk {x y:QQ}{k:Int}(h:opI op x y= .error k):k≠0:=by
 unfold opI at h;split at h
 ·exact KM h
 split at h
 ·exact KM h
 split at h
 ·exact KM h
 split at h
 ·split at h
  ·cases h;decide
  ·exact KM h
 split at h<;>cases h
def IX {x y:Un}{k:Int}(h:BP op x y= .error k):k≠0:=by
 unfold BP at h
 repeat' split at h
 all_goals cases h
 all_goals decide
def KN {α:Type}{f:α->α->Except Int α}{r s:Except Int α}{k:Int}(hr:∀ k,r= .error k->k≠0) (hs:∀ k,s= .error k->k≠0) (hf:∀ x y k,f x y= .error k->k≠0) (h:two f r s= .error k):k≠0:=by
 cases r with
 |error j=>cases h;exact hr _ rfl
 | ok x=>cases s with
   |error j=>cases h;exact hs _ rfl
   |ok y=>exact hf _ _ _ h
def RF (he:FW k m e):∀ j,Y1 T e= .error j->j≠0:=by
 induction he with
 | @num n d h=>
   intro j hj;rw[Ct]at hj;unfold Ko at hj;rw[z1z rfl]at hj;cases hj
 | @name nm h1 h2 h3=>
   intro j hj;rw[Ct]at hj;unfold Ko at hj;rw[z0z (by decide)]at hj;cases hb:Av T nm with
   |none=>rw[hb]at hj;cases hj;decide
   | some p=>
     rw[hb]at hj;dsimp only at hj;split at hj<;>cases hj;decide
 |bin h ha hb iha ihb=>intro j hj;rw[Ba]at hj;exact KN iha ihb (fun _ _ _ h=>Vk h) hj
 |mm h ha hb iha ihb=>intro j hj;rw[Ba]at hj;exact KN iha ihb (fun _ _ _ h=>Vk h) hj
def Tu (he:FW k m e):∀ j,Am T e= .error j->j≠0:=by
 induction he with
 | @num n d h=>
   intro j hj;rw[De]at hj;unfold Kq at hj;rw[z1z rfl]at hj;cases hj
 | @name nm h1 h2 h3=>
   intro j hj;rw[De]at hj;unfold Kq at hj;rw[z0z (by decide)]at hj;cases hb:Av T nm with
   |none=>rw[hb]at hj;cases hj;decide
   | some p=>
     rw[hb]at hj;dsimp only at hj;split at hj<;>cases hj
 |bin h ha hb iha ihb=>intro j hj;rw[DB]at hj;exact KN iha ihb (fun _ _ _ h=>IX h) hj
 |mm h ha hb iha ihb=>intro j hj;rw[DB]at hj;exact KN iha ihb (fun _ _ _ h=>IX h) hj
def Vl (hT:BdT T)(h:Sy op)(ha:FW k m a) (hb:FW j i b) (hk:k<=11) (hj:j<=11):
  (DP T (.mk op 0 0 [] [a,b])).1=(DP T (.mk op 0 0 [] [b,a])).1/\((DP T (.mk op 0 0 [] [a,b])).2=0↔(DP T (.mk op 0 0 [] [b,a])).2=0):=by
 have fx:=gA h ha hb;have fy:=gA h hb ha;have ex:=RF (T:=T) fx;have ey:=RF (T:=T) fy;unfold DP;rw[DC fx om,DC fy om,gB i m];by_cases hm:m+i+1<=60
 ·rw[Be hm,z1z rfl,z1z rfl];have hA:Alike (Y1 T (.mk op 0 0 [] [a,b])) (Y1 T (.mk op 0 0 [] [b,a])):=by
   rw[Ba,Ba];exact YK fun x y hx hy=>oW h (Tk hT ha hx) (Tk hT hb hy)
  cases h1:Y1 T (.mk op 0 0 [] [a,b])with
  | ok x=>cases h2:Y1 T (.mk op 0 0 [] [b,a])with
    |ok y=>rw[h1,h2]at hA;cases(show x=y from hA);exact⟨rfl,Iff.rfl⟩
    |error k=>rw[h1,h2]at hA;exact hA.elim
  | error k=>cases h2:Y1 T (.mk op 0 0 [] [b,a])with
    |ok y=>rw[h1,h2]at hA;exact hA.elim
    |error k'=>exact⟨rfl,⟨fun e=>absurd e (ex _ h1),fun e=>absurd e (ey _ h2)⟩⟩
 ·rw[z4z hm,z0z (by simp),z0z (by simp)];exact⟨rfl,Iff.rfl⟩
def YL (h:Sy op)(ha:FW k m a) (hb:FW j i b) (hk:k<=11) (hj:j<=11):
  (Mk T (.mk op 0 0 [] [a,b])).1=(Mk T (.mk op 0 0 [] [b,a])).1/\((Mk T (.mk op 0 0 [] [a,b])).2=0↔(Mk T (.mk op 0 0 [] [b,a])).2=0):=by
 have fx:=gA h ha hb;have fy:=gA h hb ha;have ex:=Tu (T:=T) fx;have ey:=Tu (T:=T) fy;unfold Mk;rw[DC fx om,DC fy om,gB i m];by_cases hm:m+i+1<=60
 ·rw[Be hm,z1z rfl,z1z rfl];have hA:Alike (Am T (.mk op 0 0 [] [a,b])) (Am T (.mk op 0 0 [] [b,a])):=by
   rw[DB,DB];exact YK fun x y hx hy=>TB h (fun e=>Tt ha hx e) (fun e=>Tt hb hy e)
  cases h1:Am T (.mk op 0 0 [] [a,b])with
  | ok x=>cases h2:Am T (.mk op 0 0 [] [b,a])with
    |ok y=>rw[h1,h2]at hA;cases(show x=y from hA);exact⟨rfl,Iff.rfl⟩
    |error k=>rw[h1,h2]at hA;exact hA.elim
  | error k=>cases h2:Am T (.mk op 0 0 [] [b,a])with
    |ok y=>rw[h1,h2]at hA;exact hA.elim
    |error k'=>exact⟨rfl,⟨fun e=>absurd e (ex _ h1),fun e=>absurd e (ey _ h2)⟩⟩
 ·rw[z4z hm,z0z (by simp),z0z (by simp)];exact⟨rfl,Iff.rfl⟩
def YM (h:op=R3\/op=R6)(ha:FW k m a) (hk:k<=11):
  (AD (.mk op 0 0 [] [a,a])=false->DP T (.mk op 0 0 [] [a,a])=((⟨0,0⟩,⟨0,0⟩),1))/\(AD (.mk op 0 0 [] [a,a])=true->DP T (.mk op 0 0 [] [a,a])=DP T a):=by
 have fx:FW (1+max k k) (m+m+1) (.mk op 0 0 [] [a,a]):= .mm h ha ha;constructor
 ·intro hr;unfold DP;rw[hr,z0z (by simp)]
 ·intro hr;have hm:m+m+1<=60:=by
   rw[DC fx om]at hr;exact z6z hr
  unfold DP;rw[hr,z1z rfl,DC ha om,Be (show m<=60 by omega),z1z rfl,Ba];cases Y1 T a with
  |error k=>rfl
  | ok x=>
    show(match opI op x x with| .ok x=>(x,(0:Int))| .error k=>((⟨0,0⟩,⟨0,0⟩),k))=(x,0)
    rw[oX h]
end
end Go.Proofs.T
