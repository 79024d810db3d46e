/- One operation of the abstract machine, of Hm kind. -/
import Derived.Test.YtbcanmagihejhaaGreatDoorAbA
import Derived.OrdersIn
import Derived.LoopNIn
import Derived.TacticsIn
import Derived.Below
set_option linter.unusedSimpArgs false
set_option linter.unusedVariables false
set_option linter.defProp false
set_option maxHeartbeats 32000000
set_option maxRecDepth 100000
namespace Go.Ab
open Go
section
variable {Z Z':St}{v:Value}{fr:Fr}{b:Nat}{x:Operand}{o:Oper}{O:Place}
structure Adv (Z Z':St):Prop where
 n:Z.n<=Z'.n
 ver:∀ b,b<Z.n->Z'.h.get b=Z.h.get b\/Z.ver b<Z'.ver b
 fresh:(∀ b,Z.n<=b->Z.h.get b=none)->∀ b,Z'.n<=b->Z'.h.get b=none
def Adv.refl (Z:St):Adv Z Z:=⟨AP _,fun _ _=> .inl rfl,fun h=>h⟩
def pU (h:Z'.h.get b=Z.h.get b):Z'.ver b=Z.ver b:=by unfold St.ver;rw[h]
def Adv.le (h:Adv Z Z')(c:b<Z.n):Z.ver b<=Z'.ver b:=by
 rcases h.ver b c with a|a
 ·rw[pU a];exact AP _
 ·omega
def Adv.trans {a:St}(h:Adv Z Z') (k:Adv Z' a):Adv Z a:=by
 refine⟨W5 h.n k.n,fun b e=>?_,fun g=>k.fresh (h.fresh g)⟩;have f:=z5z e h.n;rcases k.ver b f with c|c
 ·rcases h.ver b e with d|d
  ·exact .inl (c.trans d)
  ·exact .inr (by rw[pU c];exact d)
 ·exact .inr (Nat.lt_of_le_of_lt (h.le e) c)
def Adv.new (Z:St) (cs:List Value) (k:Kind:= .row none):Adv Z (Z.Hg cs k) :=
 ⟨YJ _,fun b a=> .inl (Tr.L8 _ _ om),fun c b a=>by
  change Z.n+1<=b at a;show(Z.h.set Z.n _).get b=none;rw[Tr.L8 _ _ om];exact c b om⟩
def Adv.set {B d:Blk}(f:Z.blk b=some B) (p:d.ver=B.ver+1):Adv Z ⟨Z.h.set b d,Z.n⟩:=by
 refine⟨AP _,fun a e=>?_,fun g a e=>?_⟩
 ·by_cases c:a=b
  ·subst c;right;have l:=(AM f).1;have i:Z.ver a=B.ver:=by unfold St.ver;rw[l]
   have j:(⟨Z.h.set a d,Z.n⟩:St).ver a=d.ver:=by
    show(match (Z.h.set a d).get a with|some B=>B.ver|none=>0)=_;rw[Tr.get_set_same]
   rw[i,j,p];omega
  ·exact .inl (Tr.L8 _ _ c)
 ·change Z.n<=a at e;show(Z.h.set b d).get a=none;have c:a≠b:=by
   intro m;subst m;have:=g a e;rw[(AM f).1]at this;cases this
  rw[Tr.L8 _ _ c];exact g a e
def Adv.write {off:Nat}{vs:List Value}(h:Z.write b off vs=some Z'):Adv Z Z':=by
 obtain⟨B,cs,a,c,d,e,rfl⟩:=JT h;exact .set (j0 a).1 rfl
def Adv.kill (h:Z.kill b=some Z'):Adv Z Z':=by
 obtain⟨B,a,c,rfl⟩:=Gc h;exact .set (j0 a).1 rfl
section
variable {P:Program}{A9:Env}{G:Nat}
def CL (O:Place) (G:Nat):Prop:=∀ g,g<G->∃ m,O g=some ⟨g,0,m⟩/\(g=1->G=8->m=20)
def CL.mono {a:Place}{G:Nat}(d:O.le a) (h:CL O G):CL a G:=fun g c=>let ⟨m,h1,h2⟩:=h g c;⟨m,d _ _ h1,h2⟩
def ended (a:Bool) (v':Value):Ending:=match a with
 |true=> .panicked [{ v:=v',recovered:=false }]
 |false=> .returned v'
def bS (v':Value):Exit:= .panic [{ v:=v',recovered:=false }]
def FW (r:Option Nat):Fence:={ Fence.wide with round:=r }
def CM (P:Program) (A9:Env) (O:Place) (g:Nat) (vs':List Value) (Z:St) (w:World) (r:CR):Prop :=
 ∃ fn,P.funcs[g]? =some fn/\(fn.name== "runtime.NumGoroutine")=false /\
  ((fn.body.isSome=true/\Calls P g ⟨vs'⟩ w fun e w'=>∃ v' O',e=ended r.pan v'/\Rel A9 O' r.Z w'/\AS O Z w O' r.Z w'/\J5 O' r.v v') \/
   (∃ v',(callFunc g ⟨vs'⟩).run P w= .ok (.value v') w/\r.Z=Z/\r.pan=false/\J5 O r.v v'))
def Ah8 (P:Program) (A9:Env) (O:Place) (t:Tgt) (vs':List Value) (Z:St) (w:World) (r:CR):Prop:=match t with
 | .fn g=>CM P A9 O g vs' Z w r
def BW (P:Program) (A9:Env) (G:Nat) (call:W8):Prop :=
 ∀ t vs Z r,call t vs Z=some r->Adv Z r.Z/\∀ O w vs' N,Rel A9 O Z w->Cz O Z.n N->r.Z.n<=N->CL O G->H8 O vs vs'->Ah8 P A9 O t vs' Z w r
def pV (P:Program) (fr:Fr) (o:Oper) (v:Value):Prop:=∀ O e w,P9 O fr e o.op.operands.toList->BM P O e o w v
def NewFact (P:Program) (fr:Fr) (o:Oper) (cs:List Value) (a:Nat->Value) (t:Option TypeId:=none):Prop:=∀ O e w,P9 O fr e o.op.operands.toList->Iu P O e o w cs a t
def Qv (P:Program) (fr:Fr) (Z:St) (o:Oper) (v:Value) (r:BA):Prop :=
 (∃ cs,Z.read r.b r.off r.n=some cs)/\∀ O e w,P9 O fr e o.op.operands.toList->(∃ q,O r.b=some q)/\((∀ q cs,O r.b=some q->Z.read r.b r.off r.n=some cs->Seg O w q r.off cs)->BM P O e o w v)
def VX (P:Program) (A9:Env) (G:Nat) (fr:Fr) (Z:St) (o:Oper) (v:Value) (Z':St):Prop :=
 Adv Z Z'/\DQ o.op=true/\∀ O (a:Act) w N,P9 O fr a.eval o.op.operands.toList->Rel A9 O Z w->Cz O Z.n N->Z'.n<=N->CL O G ->
  ∀ (rd:Option Nat) (next:Act->World->Prop) (Q:Exit->Act->World->Prop),(∀ v' w' O',Rel A9 O' Z' w'->AS O Z w O' Z' w'->J5 O' v v'->next (a.put o.dst v') w')->o.wpIn (FW rd) 0 P a w next Q
def VY (P:Program) (A9:Env) (G:Nat) (fr:Fr) (Z:St) (o:Oper) (v:Value) (Z':St):Prop :=
 Adv Z Z'/\∀ O (a:Act) w N,P9 O fr a.eval o.op.operands.toList->Rel A9 O Z w->Cz O Z.n N->Z'.n<=N->CL O G ->
  ∀ (rd:Option Nat) (next:Act->World->Prop) (Q:Exit->Act->World->Prop),(∀ v' w' O',Rel A9 O' Z' w'->AS O Z w O' Z' w'->J5 O' v v'->Q (bS v') a w')->o.wpIn (FW rd) 0 P a w next Q
def Ba {d:Option Nat}{a:Act}{w:World}{o:Oper}{next:Act->World->Prop}{Q:Exit->Act->World->Prop}(e:∀ c,o.op≠ .defer c)
  (h:o.uponIn (FW d) 0 P a next Q ((execOp a.eval o).run P w)):o.wpIn (FW d) 0 P a w next Q:=by
 refine⟨fun _ _=>trivial,?_⟩;rw[Oper.semAt_eq _ _ _ e];exact h
def Hq {fr:Fr}{Z Z':St}{o:Oper}{v:Value}(s:∀ c,o.op≠ .defer c) (j:Adv Z Z') (l:DQ o.op=true)
  (m:∀ O e w N,P9 O fr e o.op.operands.toList->Rel A9 O Z w->Cz O Z.n N->Z'.n<=N->Kb P A9 O e o Z w Z' v):VX P A9 G fr Z o v Z':=by
 refine⟨j,l,fun O a w N y r p q C D next Q f=>Ba s ?_⟩;obtain⟨w',A,v',B,z,d,g,h,i⟩:=m O a.eval w N y r p q;rw[z];cases A with
 |value u=>rw[Oper.uponIn_value];cases d;exact f _ _ _ g h i
 |skip=>rw[Oper.uponIn_skip];cases d;exact f _ _ _ g h i
 |_=>cases d
def Gg {t:TypeId}{a:Value}(h:Ld P Z t a v=some Z'):Adv Z Z':=by
 obtain⟨⟨b,off⟩,d,c⟩:=A8 h;obtain⟨n,h5,k5⟩:=A8 (show ob (size? P t) _=some Z' from c);obtain⟨ht,k6⟩:=MM k5;obtain⟨h6,h7⟩:=J4 k6;exact .write h7
def bT {t:TypeId}{s x:Value}(h:CO P Z t s x=some (v,Z')):Adv Z Z':=by
 obtain⟨el,m,g⟩:=A8 h;obtain⟨i,h7,k7⟩:=A8 g;clear h g;split at k7
 ·rename_i bs len cap;obtain⟨⟨n,new⟩,p,j⟩:=A8 k7;obtain⟨h9,k9⟩:=J4 (show bb (Nat.ble 1 i.size) _=some (v,Z')from j);cases f:Nat.ble (len+n) cap with
  | true=>
    rw[f]at k9;change CU Z i.size bs len cap n new=some (v,Z')at k9;unfold CU at k9;split at k9
    ·obtain⟨l,d,a⟩:=A8 k9;cases a;exact .write d
    ·obtain⟨d,a⟩:=J4 k9;cases a;exact .refl _
  | false=>
    rw[f]at k9;obtain⟨d,a⟩:=J4 (show bb _ _=some (v,Z')from k9);obtain⟨z,h11,k11⟩:=A8 a;obtain⟨h12,k12⟩:=J4 k11;unfold BP at k12;split at k12
    ·obtain⟨e,c⟩:=J4 k12;cases c;exact .new _ _ _
    ·obtain⟨old,e,c⟩:=A8 k12;cases c;exact .new _ _ _
    ·obtain⟨e,c⟩:=J4 k12;obtain⟨old,h14,k14⟩:=A8 c;obtain⟨Z1,h15,k15⟩:=A8 k14;cases k15;exact(Adv.kill h15).trans (.new _ _ _)
 ·cases k7
def pW {cs:List Value}(h:Z.AL0 b cs=some Z'):Adv Z Z':=by
 obtain⟨B,a,c,rfl⟩:=RA h;exact .set (QC a).1 rfl
def Kr {t:TypeId}{m k:Operand}(h:Y0 P fr Z t m k x=some (v,Z')):Adv Z Z':=by
 obtain⟨⟨e,el⟩,d,c⟩:=A8 h;obtain⟨mv,h2,k2⟩:=A8 (show ob (ev fr m) _=some (v,Z')from c);obtain⟨a,h3,k3⟩:=A8 k2;obtain⟨mb,h4,k4⟩:=A8 k3;obtain⟨kv,h5,k5⟩:=A8 k4;obtain⟨h6,k6⟩:=J4 k5;obtain⟨u,h7,k7⟩:=A8 k6;obtain⟨B,h8,k8⟩:=A8 k7;obtain⟨cs,h9,k9⟩:=A8 k8;obtain⟨Z1,h10,k10⟩:=A8 k9;cases k10;exact pW h10
def bV {t:TypeId}{c:Operand}{ok:Bool}(h:DI P fr Z t x c ok=some (v,Z')):Adv Z Z':=by
 obtain⟨⟨f,el⟩,e,d⟩:=A8 h;obtain⟨m,h2,k2⟩:=A8 (show ob (ev fr x) _=some (v,Z')from d);obtain⟨a,h3,k3⟩:=A8 k2;obtain⟨k,h4,k4⟩:=A8 k3;obtain⟨h5,k5⟩:=J4 k4;obtain⟨cs,h6,k6⟩:=A8 k5;obtain⟨r,h7,k7⟩:=A8 k6;obtain⟨⟨u,b⟩,h8,k8⟩:=A8 k7;cases k8;exact .refl _
def YK {r:Option Operand}(h:Fc fr Z r=some (v,Z')):Adv Z Z':=by
 obtain⟨c,a⟩:=J4 h;cases a;exact .new _ _ _
def AL1 (O:Place) (d:Value) (t:Tgt) (c a:List Value):Prop:=match t with
 | .fn g=>d= .func (.func g) ⟨c⟩ ⟨a⟩
def pX {u c:Value}{f:Fun}(h:J5 O u c) (a:RB u=some f):∃ Fw BQ,AL1 O c f.g Fw BQ/\H8 O f.first Fw/\H8 O f.captured BQ:=by
 unfold RB at a;split at a
 ·cases a;cases h with
  |func i d e=>exact⟨_,_,rfl,d,e⟩
  |J8 hs=>simp[J8]at hs
 ·cases a
def Tx {call:W8}(U:BW P A9 G call){fr:Fr}{Z:St}{o:Oper}{c:Call}{f:Operand}{r:CR}(l:o.op= .call c) (z:c.callee= .value f)
  (h:HE call fr Z c f=some r):Adv Z r.Z/\∀ O (a:Act) w N,P9 O fr a.eval o.op.operands.toList->Rel A9 O Z w->Cz O Z.n N->r.Z.n<=N->CL O G ->
    ∀ (rd:Option Nat) (next:Act->World->Prop) (Q:Exit->Act->World->Prop),
     (∀ v' w' O',Rel A9 O' r.Z w'->AS O Z w O' r.Z w'->J5 O' r.v v'->match r.pan with|true=>Q (bS v') a w'|false=>next (a.put o.dst v') w')->o.wpIn (FW rd) 0 P a w next Q:=by
 obtain⟨vs,S,D⟩:=A8 h;obtain⟨u,h2,k2⟩:=A8 D;obtain⟨fn,h3,k3⟩:=A8 k2;change call fn.g (fn.first++vs++fn.captured) Z=some r at k3;clear h D k2;obtain⟨pY,Ah9⟩:=U _ _ _ _ k3;refine⟨pY,fun O a w N B s V X W rd next Q C=>Ba (by intro c' A;rw[l]at A;cases A) ?_⟩;have hr:=(FA l B).evs S;have hu:=B f u (by simp[l,Op.operands,Call.operands,z]) h2;obtain⟨Fw,BQ,j,r1,r2⟩:=pX hu h3;have y:=Ah9 O w (Fw++c.args.toList.map a.eval++BQ) N s V X W (H8.append r2 (H8.append hr r1));have E:(⟨Fw⟩:Array Value)++c.args.map a.eval++⟨BQ⟩=⟨Fw++c.args.toList.map a.eval++BQ⟩:=by
  rw[<- Ti];simp
 have I:∀ (m:Ending) w',(∃ v' O',m=ended r.pan v'/\Rel A9 O' r.Z w'/\AS O Z w O' r.Z w'/\J5 O' r.v v')->(match m,w' with
   | .returned v,w''=>next (a.put o.dst v) w''
   | .panicked chain,w''=>Q (.panic chain) a w''
   | .outgrown,_=>LetsOut Q:Prop):=by
  rintro m w' ⟨v',O',rfl,q1,q2,q3⟩;have:=C v' w' O' q1 q2 q3;cases d:r.pan with
  |true=>rw[d]at this;exact this
  |false=>rw[d]at this;exact this
 cases hg:fn.g with
 | fn g=>
   rw[hg]at y j;obtain⟨q,L,M,R⟩:=y;have j:a.eval f= .func (.func g) ⟨Fw⟩ ⟨BQ⟩:=j;have H:execOp a.eval o=callFunc g ⟨Fw++c.args.toList.map a.eval++BQ⟩:=by
    simp only[execOp,l,resolve,z,j,Deferred.ofValue];rw[<- E];rfl
   rw[H];rcases R with⟨e,i⟩|⟨v',e,i,J,K⟩
   ·have F:(callFunc g ⟨Fw++c.args.toList.map a.eval++BQ⟩).run P w= .ok (.enter g ⟨Fw++c.args.toList.map a.eval++BQ⟩) w:=by
     have p:q.body.isNone=false:=by cases Y:q.body with|none=>rw[Y]at e;cases e|some c=>rfl
     simp only[callFunc,Sem.run_bind,run_program,Result.andThen_ok,L,M,p,JM,HZ,Sem.run_pure]
    rw[F,Oper.uponIn_enter];refine⟨fun h=>(nomatch h),?_⟩;exact(callsIn_wide (n:=0)).2 (i.mono I)
   ·rw[e,Oper.uponIn_value];have d:=C v' w O (by rw[i];exact s) (by rw[i];exact .refl _ _ _) K;rw[J]at d;exact d
def ju {call:W8}(g:BW P A9 G call){fr:Fr}{Z:St}{o:Oper}{c:Call}{f:Operand}{v:Value}{Z':St}(e:o.op= .call c) (d:c.callee= .value f)
  (h:HE call fr Z c f=some ⟨false,v,Z'⟩):VX P A9 G fr Z o v Z' :=
 let ⟨h1,h2⟩:=Tx g e d h
 ⟨h1,by simp[e,DQ,d],fun O a w N n m i l j q next Q p=>h2 O a w N n m i l j q next Q p⟩
def pZ {call:W8}(d:BW P A9 G call){fr:Fr}{Z:St}{o:Oper}{c:Call}{f:Operand}{v:Value}{Z':St}(p:o.op= .call c) (l:c.callee= .value f)
  (h:HE call fr Z c f=some ⟨true,v,Z'⟩):VY P A9 G fr Z o v Z' :=
 let ⟨h1,h2⟩:=Tx d p l h
 ⟨h1,fun O a w N m j e i g q next Q n=>h2 O a w N m j e i g q next Q n⟩
def bX {s:Stepped}(g:o.op= .panic x) (h:RD fr Z x=some s):s.d= .pan/\s.Z=Z/\VY P A9 G fr Z o s.v Z:=by
 obtain⟨u,l,f⟩:=A8 h;split at f
 ·rename_i t v;cases f;refine⟨rfl,rfl,.refl _,fun O a w N n m y A z B next Q p=>Ba (by intro r i;rw[g]at i;cases i) ?_⟩;have e:=n x _ (by simp[g,Op.operands]) l;cases c:a.eval x with
  | iface t' v'=>
    rw[c]at e;have j:(execOp a.eval o).run P w= .halt (.panic (.iface t' v')) w:=by
     simp only[execOp,g,c,Instr.panic];rfl
    rw[j,Oper.uponIn_panic];exact p _ _ _ m (.refl _ _ _) e
  |_=>rw[c]at e;cases e<;>(rename_i q;simp[J8]at q)
 ·cases f
inductive Class (P:Program) (A9:Env) (G:Nat) (fr:Fr) (Z:St) (o:Oper):Stepped->Prop
 |pure {v:Value} (h:pV P fr o v):Class P A9 G fr Z o ⟨v,Z,.none⟩
 |new {cs:List Value}{vf:Nat->Value}{t:Option TypeId} (h:NewFact P fr o cs vf t):Class P A9 G fr Z o ⟨vf Z.n,Z.new cs t,.none⟩
 |read {v:Value}{r:BA} (h:Qv P fr Z o v r):Class P A9 G fr Z o ⟨v,Z,.read r⟩
 |eff {v:Value}{Z':St} (h:VX P A9 G fr Z o v Z'):Class P A9 G fr Z o ⟨v,Z',.eff⟩
 |pan {v:Value}{Z':St} (h:VY P A9 G fr Z o v Z'):Class P A9 G fr Z o ⟨v,Z',.pan⟩
def T8 {x:Option Value}{s:Stepped}(h:J9 Z x=some s):∃ v,x=some v/\s=⟨v,Z,.none⟩:=by
 obtain⟨v,a,c⟩:=A8 h;cases c;exact⟨v,a,rfl⟩
def Jm {x:Option (List Value×(Nat->Value))}{t:Option TypeId}{s:Stepped}(h:asNew Z x t=some s):∃ cs vf,x=some (cs,vf)/\s=⟨vf Z.n,Z.new cs t,.none⟩:=by
 obtain⟨⟨cs,vf⟩,a,c⟩:=A8 h;cases c;exact⟨cs,vf,a,rfl⟩
def Ty {x:Option (Value×BA)}{s:Stepped}(h:Dr Z x=some s):∃ v b,x=some (v,b)/\s=⟨v,Z,.read b⟩:=by
 obtain⟨⟨v,b⟩,a,c⟩:=A8 h;cases c;exact⟨v,b,a,rfl⟩
def Hr {x:Option (Value×St)}{s:Stepped}(h:GC x=some s):∃ v Z',x=some (v,Z')/\s=⟨v,Z',.eff⟩:=by
 obtain⟨⟨v,Z'⟩,a,c⟩:=A8 h;cases c;exact⟨v,Z',a,rfl⟩
def jv {t:TypeId}{r:BA}(i:o.op= .load t x) (h:Hs P fr Z t x=some (v,r)):Qv P fr Z o v r:=by
 have z:=h;obtain⟨u,l,B⟩:=A8 h;obtain⟨⟨b',off⟩,h2,k2⟩:=A8 B;obtain⟨m,hm,k2⟩:=A8 (show ob (span? P t) _=some (v,r)from k2);obtain⟨v0,h3,k3⟩:=A8 (show ob (fX P Z t b' off) _=some (v,r)from k2);cases k3;refine⟨?_,fun O e w f=>⟨?_,fun j=>bZ i f z j⟩⟩
 ·obtain⟨g,p,c⟩:=A8 h3;obtain⟨g',hg',hm⟩:=A8 hm;rw[p]at hg';cases hg';cases g with
  | true=>
    obtain⟨n,d,s⟩:=A8 (show ob (size? P t) _=some v from c);obtain⟨cs,a,y⟩:=A8 s;rw[show size? P t=some m from hm]at d;cases d;exact⟨cs,a⟩
  | false=>
    cases hm;obtain⟨cs,a,y⟩:=A8 (show ob (Z.read b' off 1) _=some v from c);exact⟨cs,a⟩
 ·obtain⟨q,A,_⟩:=Lk (f x u (by simp[i,Op.operands]) l) h2;exact⟨q,A⟩
def YL {s d:TypeId}{r:BA}(f:o.op= .convert s d x) (h:DH P fr Z s d x=some (v,r)):Qv P fr Z o v r:=by
 have j:=h;obtain⟨u,i,p⟩:=A8 h;obtain⟨⟨b',off,n⟩,h2,k2⟩:=A8 p;obtain⟨el,h3,k3⟩:=A8 (show ob (elem? P s) _=some (v,r)from k2);obtain⟨h4,k4⟩:=J4 k3;obtain⟨h5,k5⟩:=J4 k4;obtain⟨l,h6,k6⟩:=A8 k5;obtain⟨r',h7,k7⟩:=A8 k6;cases k7;refine⟨?_,fun O e w c=>⟨?_,fun g=>VZ f c j g⟩⟩
 ·exact⟨l,h6⟩
 ·obtain⟨q,a,k',m,_,_⟩:=Ht (c x u (by simp[f,Op.operands]) i) h2;exact⟨q,m⟩
def Ij {call:W8}{s:Stepped}(h:step P call fr Z o=some s):∀ c,o.op≠ .defer c:=by
 intro c a;unfold step at h;rw[a]at h;cases h
def Ik {call:W8}(I:BW P A9 G call){fr:Fr}{Z:St}{o:Oper}{s:Stepped}
  (h:step P call fr Z o=some s):Class P A9 G fr Z o s:=by
 have B:=Ij h;unfold step at h;cases i:o.op with
 |move x=>rw[i]at h;obtain⟨v,g,rfl⟩:=T8 h;exact .pure fun O e w j=>QZ (.inl i) j g
 |assign x=>rw[i]at h;obtain⟨v,g,rfl⟩:=T8 h;exact .pure fun O e w j=>QZ (.inr i) j g
 |pick c a b=>rw[i]at h;obtain⟨v,g,rfl⟩:=T8 h;exact .pure fun O e w j=>bE i j g
 |alloc t=>rw[i]at h;obtain⟨cs,C,g,rfl⟩:=Jm h;exact .new fun O e w j=>Wk i g
 |box t x=>rw[i]at h;obtain⟨cs,C,g,rfl⟩:=Jm h;exact .new fun O e w j=>iW i j g
 |build t parts=>rw[i]at h;obtain⟨v,g,rfl⟩:=T8 h;exact .pure fun O e w j=>Wj i j g
 |buildSlice t len parts=>rw[i]at h;obtain⟨cs,C,g,rfl⟩:=Jm h;exact .new fun O e w j=>NZ i j g
 |load t x=>rw[i]at h;obtain⟨v,b,g,rfl⟩:=Ty h;exact .read (jv i g)
 | store t x y=>
   rw[i]at h;obtain⟨v,Z',g,rfl⟩:=Hr h;refine .eff (Hq B ?_ (by rw[i];rfl) fun O e w N j n z A=>YM i j n g);obtain⟨a,g1,k1⟩:=A8 g;obtain⟨u,g2,k2⟩:=A8 k1;obtain⟨Z1,g3,k3⟩:=A8 k2;cases k3;exact Gg g3
 | lookup t x H ok=>
   rw[i]at h;obtain⟨v,Z',g,rfl⟩:=Hr h;exact .eff (Hq B (bV g) (by rw[i];rfl) fun O e w N j n z A=>Va i j n g)
 | mapUpdate t m k x=>
   rw[i]at h;obtain⟨v,Z',g,rfl⟩:=Hr h;exact .eff (Hq B (Kr g) (by rw[i];rfl) fun O e w N j n z A=>Ix (.inl i) j n g)
 | insert t m k x=>
   rw[i]at h;obtain⟨v,Z',g,rfl⟩:=Hr h;exact .eff (Hq B (Kr g) (by rw[i];rfl) fun O e w N j n z A=>Ix (.inr i) j n g)
 | makeMap t r=>
   rw[i]at h;obtain⟨v,Z',g,rfl⟩:=Hr h;exact .eff (Hq B (YK g) (by rw[i];rfl) fun O e w N j n z A=>So i n z A g)
 | panic x=>
   rw[i]at h;obtain⟨g,D,J⟩:=bX (P:=P) (A9:=A9) (G:=G) i h;obtain⟨v,Z',d⟩:=s;cases g;cases D;exact .pan J
 |nilCheck x=>rw[i]at h;obtain⟨v,g,rfl⟩:=T8 h;exact .pure fun O e w j=>Qg i j g
 |binOp b t x y M=>rw[i]at h;obtain⟨v,g,rfl⟩:=T8 h;exact .pure fun O e w j=>jY i j g
 |unOp u t x=>rw[i]at h;obtain⟨v,g,rfl⟩:=T8 h;exact .pure fun O e w j=>OV (by rw[i];rfl) (by simp[i]) j g
 | convert s0 d x=>
   rw[i]at h;change orS (asNew Z (GX P fr s0 d x)) (orS (Dr Z (DH P fr Z s0 d x)) (J9 Z (DP P fr o x)))=some s at h;cases E:asNew Z (GX P fr s0 d x)with
   | some s1=>
     rw[E]at h;cases h;obtain⟨cs,C,g,rfl⟩:=Jm E;exact .new fun O e w j=>Wl i j g
   | none=>
     rw[E]at h;change orS (Dr Z (DH P fr Z s0 d x)) (J9 Z (DP P fr o x))=some s at h;cases F:Dr Z (DH P fr Z s0 d x)with
     | some s1=>
       rw[F]at h;cases h;obtain⟨v,b,g,rfl⟩:=Ty F;exact .read (YL i g)
     | none=>
       rw[F]at h;change J9 Z (DP P fr o x)=some s at h;obtain⟨v,g,rfl⟩:=T8 h;exact .pure fun O e w j=>OV (by rw[i];rfl) (by simp[i]) j g
 |makeInterface t x=>rw[i]at h;obtain⟨v,g,rfl⟩:=T8 h;exact .pure fun O e w j=>Xk i j g
 |makeFunc K fs cs=>rw[i]at h;obtain⟨v,g,rfl⟩:=T8 h;exact .pure fun O e w j=>bG i j g
 |makeSlice t l c=>rw[i]at h;obtain⟨cs,C,g,rfl⟩:=Jm h;exact .new fun O e w j=>aV i j g
 |slice t x lo hi L=>rw[i]at h;obtain⟨v,g,rfl⟩:=T8 h;exact .pure fun O e w j=>XR i j g
 |fieldAddr s x f=>rw[i]at h;obtain⟨v,g,rfl⟩:=T8 h;exact .pure fun O e w j=>PC i j g
 |field s x f=>rw[i]at h;obtain⟨v,g,rfl⟩:=T8 h;exact .pure fun O e w j=>Xl i j g
 |indexAddr t x H=>rw[i]at h;obtain⟨v,g,rfl⟩:=T8 h;exact .pure fun O e w j=>PD i j g
 |index t x H=>rw[i]at h;obtain⟨v,g,rfl⟩:=T8 h;exact .pure fun O e w j=>Xo i j g
 |extract t H=>rw[i]at h;obtain⟨v,g,rfl⟩:=T8 h;exact .pure fun O e w j=>Sn i j g
 | call c=>
   rw[i]at h;change YG P call fr Z c=some s at h;unfold YG at h;cases q:c.callee with
   | value f=>
     rw[q]at h;obtain⟨⟨p,v,Z'⟩,g,D⟩:=A8 (show ob (HE call fr Z c f) _=some s from h);cases D;cases p with
     |true=>exact .pan (pZ I i q g)
     |false=>exact .eff (ju I i q g)
   |invoke r m=>rw[q]at h;cases h
   | builtin b=>
     rw[q]at h;change AC8 b P fr Z c=some s at h;cases b with
     |len=>obtain⟨v,g,rfl⟩:=T8 h;exact .pure fun O e w j=>jR i q j g
     |max=>obtain⟨v,g,rfl⟩:=T8 h;exact .pure fun O e w j=>XS true i q j g
     |min=>obtain⟨v,g,rfl⟩:=T8 h;exact .pure fun O e w j=>XS false i q j g
     | append=>
       obtain⟨v,Z',g,rfl⟩:=Hr h;refine .eff (Hq B ?_ (by rw[i];simp[DQ,q]) fun O e w N j n z A=>Ux i q j n z A g);obtain⟨vs,g1,k1⟩:=A8 g;obtain⟨⟨s,x⟩,g2,k2⟩:=A8 k1;obtain⟨t,g3,k3⟩:=A8 (show ob (Sb c) _=some (v,Z')from k2);obtain⟨t2,g4,k4⟩:=A8 k3;obtain⟨g5,k5⟩:=J4 k4;exact bT k5
     |_=>cases h
 |_=>rw[i]at h;cases h
end
end
section
variable {O:Place}{fr:Fr}{a:Act}{o:Oper}
def HP (O:Place) (fr:Fr) (a:Act):Prop:=∀ t v,fr.get t=some v->∃ v',a.tmps[t]? =some v'/\J5 O v v'
def HP.mono {b:Place}(c:O.le b) (h:HP O fr a):HP b fr a:=fun t v ht=>let ⟨v',h1,h2⟩:=h t v ht;⟨v',h1,h2.mono c⟩
def Nq (fr:Fr) (d:Tmp) (v:Value):I5 fr (some d) v=fr.set d v:=rfl
def EZ (a:Act) (d:Option Tmp) (v:Value):(a.put d v).tmps.size=a.tmps.size:=by cases d<;>simp[Act.put]
def put_defers (a:Act) (d:Option Tmp) (v:Value):(a.put d v).defers=a.defers:=by cases d<;>rfl
def HP.put (h:HP O fr a){d:Option Tmp}{v v':Value}(i:J5 O v v') (g:∀ t,d=some t->t<a.tmps.size):HP O (I5 fr d v) (a.put d v'):=by
 intro t u ht;cases d with
 |none=>exact h t u ht
 | some d=>
   rw[Nq,Tr.N4]at ht;show ∃ c,(a.tmps.setIfInBounds d v')[t]? =some c/\_;by_cases b:t=d
   ·subst b;rw[z1z rfl]at ht;cases ht;exact⟨v',by rw[Array.getElem?_setIfInBounds_self_of_lt (g _ rfl)],i⟩
   ·rw[z0z b]at ht;obtain⟨c,e,f⟩:=h t u ht;exact⟨c,by rw[Array.getElem?_setIfInBounds_ne (fun h=>b h.symm)];exact e,f⟩
def LZ (G:Nat) (x:Operand):Bool:=match x with
 | .global g=>Nat.blt g G
 |_=>true
def Am1 (n:Nat) (d:Option Tmp):Bool:=match d with
 |some d=>Nat.blt d n
 |none=>true
def Ay (_P:Program) (n G:Nat) (o:Oper):Bool:=Am1 n o.dst&&o.op.operands.toList.all (LZ G)
def nT {O:Place}{fr:Fr}{a:Act}{G:Nat}(d:CL O G){x:Operand}{v:Value}(i:LZ G x=true) (ht:∀ t,x= .tmp t->∀ v,fr.get t=some v->∃ v',a.tmps[t]? =some v'/\J5 O v v')
  (h:ev fr x=some v):J5 O v (a.eval x):=by
 cases x with
 | tmp t=>
   obtain⟨v',b,c⟩:=ht t rfl v h;show J5 O v (a.tmps.getD t undef);rw[HU,b];exact c
 | const u=>
   obtain⟨b,c⟩:=J5.cst (O:=O) (show cst u=some v from h);subst b;exact c
 | global g=>
   cases h;obtain⟨m,e,-⟩:=d g (by have:Nat.blt g G=true:=i;rwa [EJ]at this);exact .ptr (off:=0) e
 |func f=>cases h;exact .func rfl .nil .nil
def RF {O:Place}{fr:Fr}{a:Act}{G:Nat}{P:Program}{n:Nat}{o:Oper}(d:CL O G) (b:Ay P n G o=true)
  (ht:∀ t,.tmp t∈o.op.operands.toList->∀ v,fr.get t=some v->∃ v',a.tmps[t]? =some v'/\J5 O v v'):P9 O fr a.eval o.op.operands.toList:=by
 intro x v c h;unfold Ay at b;rw[T1,GH]at b;exact nT d (b.2 x c) (fun t e=>by subst e;exact ht t c) h
def RH {P:Program}{n G:Nat}(b:Ay P n G o=true):∀ t,o.dst=some t->t<n:=by
 intro t ht;unfold Ay at b;rw[T1,ht]at b;have:Nat.blt t n=true:=b.1
 rwa [EJ]at this
def KG {O:Place}{fr:Fr}{a:Act}{e:Array Oper}{o:Oper}{c:Bool}(h:U9 e fr o=some c)
  (ht:∀ j want t,o.guard=some (j,want)->FZ e j=some t->∀ v,fr.get t=some v->∃ v',a.tmps[t]? =some v'/\J5 O v v'):Region.wanted o (yielded e a.tmps)=c:=by
 unfold Region.wanted;cases i:o.guard with
 | none=>
   unfold U9 at h;rw[i]at h;cases h;rfl
 | some g=>
   obtain⟨j,want⟩:=g;unfold U9 at h;rw[i]at h;change(Option.rec (motive:=fun _=>Option Bool) (some false) (fun d=>ob (fr.get d) fun v=>some (yieldOf want v)) (FZ e j):Option Bool)=some c at h;have n:(e[j]?).bind (·.dst)=FZ e j:=by
    unfold FZ;cases e[j]?<;>rfl
   show(yielded e a.tmps j==some want)=c;unfold yielded;rw[n];cases f:FZ e j with
   | none=>
     rw[f]at h;cases h;rfl
   | some d=>
     rw[f]at h;obtain⟨v,l,m⟩:=A8 (show ob (fr.get d) (fun v=>some (yieldOf want v))=some c from h);obtain⟨v',h3,h4⟩:=ht j want d i f v l;cases m;show((match ((some d).bind fun x=>a.tmps[x]?)with|some (.bool b)=>some b|_=>none)==some want)=_;rw[show((some d).bind fun x=>a.tmps[x]?)=some v' from h3];cases h4 with
     |J8 hs=>cases v<;>first|rfl|(rename_i b;cases b<;>cases want<;>rfl)
     |_=>rfl
/- SX is known before: the paths of a Am2 order. -/
def dD (c:Array Nat) (i:Nat):∀ (l:List Edge) (s:Nat),Nat.testBit (l.foldl (fun s e=>if Region.binds .any e then s ||| 2 ^ e.on ||| c.getD e.on 0 else s) s) i=true ->
  Nat.testBit s i=true\/∃ e∈l,Region.binds .any e=true/\(e.on=i\/Nat.testBit (c.getD e.on 0) i=true):=by
 intro l;induction l with
 |nil=>intro s h;exact .inl h
 | cons e l ih=>
   intro s h;rw[TJ]at h;rcases ih _ h with b|⟨f,b,g,j⟩
   ·by_cases d:Region.binds .any e=true
    ·rw[z1z d,ZP,ZP,II,II]at b;rcases b with(b|b)|b
     ·exact .inl b
     ·refine .inr ⟨e,by simp,d,.inl ?_⟩;rw[Nat.testBit_two_pow]at b;exact z6z b
     ·exact .inr ⟨e,by simp,d,.inr b⟩
    ·rw[z0z d]at b;exact .inl b
   ·exact .inr ⟨f,by simp[b],g,j⟩
def Di (b:Array Nat) (o:Oper):Array Nat:=b.push (o.after.foldl (fun s e=>if Region.binds .any e then s ||| 2 ^ e.on ||| b.getD e.on 0 else s) 0)
def ZQ:∀ (l:List Oper) (acc:Array Nat),
  (∀ k,k<acc.size->(l.foldl Di acc).getD k 0=acc.getD k 0) /\
  ∀ t o i,l[t]? =some o->Nat.testBit ((l.foldl Di acc).getD (acc.size+t) 0) i=true ->
   ∃ e∈o.after,Region.binds .any e=true/\(e.on=i\/(e.on<acc.size+t/\Nat.testBit ((l.foldl Di acc).getD e.on 0) i=true)):=by
 intro l;induction l with
 |nil=>intro acc;exact⟨fun _ _=>rfl,fun t o i h=>by simp at h⟩
 | cons o l ih=>
   intro acc;obtain⟨g,r⟩:=ih (Di acc o);have d:(Di acc o).size=acc.size+1:=by simp[Di]
   have c:∀ k,k<acc.size->(Di acc o).getD k 0=acc.getD k 0:=by
    intro k p;unfold Di;rw[HU,HU,Array.getElem?_push,z0z om]
   have q:(Di acc o).getD acc.size 0=o.after.foldl (fun s e=>if Region.binds .any e then s ||| 2 ^ e.on ||| acc.getD e.on 0 else s) 0:=by
    unfold Di;rw[HU,Array.getElem?_push,z1z rfl];rfl
   refine⟨fun k p=>?_,fun t v i ht f=>?_⟩
   ·rw[TJ,g k om,c k p]
   ·rw [TJ]at f ⊢;cases t with
    | zero=>
      simp at ht;subst ht;rw[Be,g acc.size om,q,<- nD]at f;rcases dD acc i _ _ f with j|⟨e,j,u,b⟩
      ·simp at j
      ·refine⟨e,by simpa using j,u,?_⟩;rcases b with b|b
       ·exact .inl b
       ·have n:e.on<acc.size:=by
         rcases AH e.on acc.size with m|m
         ·exact m
         ·rw[HU,Array.getElem?_eq_none m]at b;simp at b
        exact .inr ⟨om,by rw[g e.on om,c e.on n];exact b⟩
    | succ t=>
      have:=r t v i (by simpa using ht) (by rw[d,show acc.size+1+t=acc.size+(t+1)from by omega];exact f);rw[d,show acc.size+1+t=acc.size+(t+1)from by omega]at this;exact this
def Bef (os:Array Oper) (i j:Nat):Prop:=Nat.testBit ((Region.before os).toList.getD j 0) i=true
def OX {os:Array Oper}{i j:Nat}(l:os[j]? =some o) (h:Bef os i j):∃ e∈o.after,Region.binds .any e=true/\(e.on=i\/(e.on<j/\Bef os i e.on)):=by
 have g:Region.before os=os.toList.foldl Di #[]:=by
  unfold Region.before;rw[<- nD];rfl
 have c:∀ k,(Region.before os).toList.getD k 0=(os.toList.foldl Di #[]).getD k 0:=by
  intro k;rw[g,HU,List.getD_eq_getElem?_getD,Array.getElem?_toList]
 unfold Bef at h ⊢;rw[c]at h;obtain⟨_,d⟩:=ZQ os.toList #[];obtain⟨e,h3,h4,b⟩:=d j o i (by simpa using l) (by simpa using h);refine⟨e,h3,h4,?_⟩;rcases b with b|⟨b,f⟩
 ·exact .inl b
 ·exact .inr ⟨by simpa using b,by rw[c];exact f⟩
end
section
variable {i k:Nat}{o:Oper}{bs:List Nat}{Z:St}
def Rd (os:Array Oper) (o:Oper) (t:Tmp):Prop:= .tmp t∈o.op.operands.toList\/∃ j want,o.guard=some (j,want)/\FZ os j=some t
def AE9 (os:Array Oper) (x y:Oper):Prop:=∃ t,(x.dst=some t/\(y.dst=some t\/Rd os y t))\/(y.dst=some t/\Rd os x t)
structure bf (os:Array Oper):Prop where
 Sp:∀ i o e,os[i]? =some o->e∈o.after->Region.binds .any e=true->e.on<i
 eff:∀ i j oi oj,i<j->os[i]? =some oi->os[j]? =some oj->DQ oi.op=true->DQ oj.op=true->Bef os i j
 names:∀ i j oi oj,i<j->os[i]? =some oi->os[j]? =some oj->AE9 os oi oj->Bef os i j
def Live (os:Array Oper) (z k:Nat):Prop:=k<z\/(z<k/\k<os.size/\¬ Bef os z k)
structure Iy (P:Program) (call:W8) (os:Array Oper) (F:Nat->Fr) (S:Nat->St) (r:Nat->Option Stepped) (z i:Nat):Prop where
 step:∀ k o,i<=k->Live os z k->os[k]? =some o->(U9 os (F k) o=some true/\∃ s,Ab.step P call (F k) (S k) o=some s/\r k=some s/\F (k+1)=I5 (F k) o.dst s.v/\S (k+1)=s.Z) \/
  (U9 os (F k) o=some false/\r k=none/\F (k+1)=I5 (F k) o.dst R7/\S (k+1)=S k)
 np:∀ k s,i<=k->r k=some s->s.d≠ .pan
 bg:∀ k,z<=k->¬ Live os z k->r k=none/\F (k+1)=F k/\S (k+1)=S k
 late:∀ k s,z<=k->r k=some s->s.d= .none/\s.Z=S k
 zle:z<=os.size
structure sY (P:Program) (call:W8) (os:Array Oper) (F:Nat->Fr) (S:Nat->St) (z:Nat) (o:Oper) (s:Stepped):Prop where
 ho:os[z]? =some o
 RG:U9 os (F z) o=some true
 step:Ab.step P call (F z) (S z) o=some s
 pan:s.d= .pan
 eff:DQ o.op=true
def aA {a:Type}{d:Did}{x y:Option a}{b:a}(h:OZ d x y=some b):(x=some b/\d≠ .pan)\/(y=some b/\d= .pan):=by
 cases d with
 |pan=>exact .inr ⟨h,rfl⟩
 |_=>exact .inl ⟨h,fun h=>nomatch h⟩
def mS {P:Program}{call:W8}{fr:Fr}{s:Stepped}(c:SO o.op=true) (h:Ab.step P call fr Z o=some s):s.d= .none/\s.Z=Z:=by
 have key:∀ x:Op,SO x=true->pI x P call fr Z o=some s->s.d= .none/\s.Z=Z:=by
  have j:∀ v:Option Value,J9 Z v=some s->s.d= .none/\s.Z=Z:=by
   intro v f;obtain⟨a,_,b⟩:=A8 (show ob v _=some s from f);cases b;exact⟨rfl,rfl⟩
  intro x g e;cases x<;>first|exact j _ e|cases g
 exact key o.op c h
def zr {P:Program}{call:W8}{os:Array Oper}{z:Nat}:∀ (l:List Oper) (j:Nat) (fr:Fr) (Z:St),os.toList.drop j=l->z<j->j<=os.size->Kq P call os (Region.before os).toList z l j fr Z=some () ->
  ∃ (F:Nat->Fr) (S:Nat->St) (r:Nat->Option Stepped),F j=fr/\S j=Z/\(∀ k,j<=k->¬ Live os z k->r k=none/\F (k+1)=F k/\S (k+1)=S k) /\
   (∀ k s,j<=k->r k=some s->s.d= .none/\s.Z=S k) /\
   (∀ k o,j<=k->Live os z k->os[k]? =some o->(U9 os (F k) o=some true/\∃ s,Ab.step P call (F k) (S k) o=some s/\r k=some s/\F (k+1)=I5 (F k) o.dst s.v/\S (k+1)=s.Z) \/
     (U9 os (F k) o=some false/\r k=none/\F (k+1)=I5 (F k) o.dst R7/\S (k+1)=S k)):=by
 intro l;induction l with
 | nil=>
   intro j fr Z u M U _;have:j=os.size:=by
    have:=congrArg List.length u;simp at this;omega
   subst this;exact⟨fun _=>fr,fun _=>Z,fun _=>none,rfl,rfl,fun _ _ _=>⟨rfl,rfl,rfl⟩,fun _ _ _ h=>(nomatch h),fun k o C _ I=>by have:=(Array.getElem?_eq_some_iff.1 I).1;omega⟩
 | cons o l ih=>
   intro j fr Z u M U h;have E:j<os.size:=by
    have:=congrArg List.length u;simp at this;omega
   have I:os[j]? =some o:=by
    have:=congrArg (fun l:List Oper=>l[0]?) u
    simpa using this
   have D:os.toList.drop (j+1)=l:=by
    rw[<- Ph,u];rfl
   have e:∀ (b:Fr) (Z':St) (x:Option Stepped),Kq P call os (Region.before os).toList z l (j+1) b Z'=some () ->
     (¬ Live os z j->x=none/\b=fr/\Z'=Z)->(∀ s,x=some s->s.d= .none/\s.Z=Z) ->
     (Live os z j->(U9 os fr o=some true/\∃ s,Ab.step P call fr Z o=some s/\x=some s/\b=I5 fr o.dst s.v/\Z'=s.Z)\/(U9 os fr o=some false/\x=none/\b=I5 fr o.dst R7/\Z'=Z)) ->
     ∃ (F:Nat->Fr) (S:Nat->St) (r:Nat->Option Stepped),F j=fr/\S j=Z/\(∀ k,j<=k->¬ Live os z k->r k=none/\F (k+1)=F k/\S (k+1)=S k) /\
    (∀ k s,j<=k->r k=some s->s.d= .none/\s.Z=S k) /\
    (∀ k o,j<=k->Live os z k->os[k]? =some o->(U9 os (F k) o=some true/\∃ s,Ab.step P call (F k) (S k) o=some s/\r k=some s/\F (k+1)=I5 (F k) o.dst s.v/\S (k+1)=s.Z) \/
      (U9 os (F k) o=some false/\r k=none/\F (k+1)=I5 (F k) o.dst R7/\S (k+1)=S k)):=by
    intro b Z' x R f A B;obtain⟨F,S,r,f1,K,N,O,Q⟩:=ih (j+1) b Z' D om om R;refine⟨fun k=>if k=j then fr else F k,fun k=>if k=j then Z else S k,fun k=>if k=j then x else r k,by simp,by simp,?_,?_,?_⟩
    ·intro k C g;by_cases a:k=j
     ·subst a;simp only[FU,z0z (show ¬ k+1=k by omega),f1,K];exact f g
     ·simp only[z0z a,z0z (show ¬ k+1=j by omega)];exact N k om g
    ·intro k s C p;by_cases a:k=j
     ·subst a;simp only[FU]at p ⊢;exact A s p
     ·simp only[z0z a]at p ⊢;exact O k s om p
    ·intro k V C L m;by_cases a:k=j
     ·subst a;rw[I]at m;cases m;simp only[FU,z0z (show ¬ k+1=k by omega),f1,K];exact B L
     ·simp only[z0z a,z0z (show ¬ k+1=j by omega)];exact Q k V om L m
   change bi (Nat.testBit ((Region.before os).toList.getD j 0) z) (Kq P call os (Region.before os).toList z l (j+1) fr Z)
    (bb (SO o.op) (ob (U9 os fr o) fun c=>bi c (ob (Ab.step P call fr Z o) fun r=>Kq P call os (Region.before os).toList z l (j+1) (I5 fr o.dst r.v) r.Z) (Kq P call os (Region.before os).toList z l (j+1) (I5 fr o.dst R7) Z)))=some ()at h
   cases q:Nat.testBit ((Region.before os).toList.getD j 0) z with
   | true=>
     rw[q]at h;have g:¬ Live os z j:=by rintro(f|⟨_,_,f⟩);omega;exact f q
     exact e fr Z none h (fun _=>⟨rfl,rfl,rfl⟩) (fun _ h=>nomatch h) (fun h=>absurd h g)
   | false=>
     rw[q]at h;have y:Live os z j:= .inr ⟨M,E,fun f=>by rw[show Nat.testBit ((Region.before os).toList.getD j 0) z=true from f]at q;cases q⟩;obtain⟨J,h⟩:=J4 (show bb (SO o.op) _=some ()from h);obtain⟨c,hw,h⟩:=A8 h;cases c with
     |false=>exact e _ _ none (show Kq P call os (Region.before os).toList z l (j+1) (I5 fr o.dst R7) Z=some ()from h) (fun H=>absurd y H) (fun _ h=>nomatch h) (fun _=> .inr ⟨hw,rfl,rfl,rfl⟩)
     | true=>
       obtain⟨s,f,h⟩:=A8 (show ob (Ab.step P call fr Z o) _=some ()from h);obtain⟨A,B⟩:=mS J f;exact e _ _ (some s) h (fun H=>absurd y H) (fun W p=>by cases p;exact⟨A,B⟩) (fun _=> .inl ⟨hw,s,f,rfl,rfl,rfl⟩)
def Yn {P:Program}{call:W8}{os:Array Oper}:∀ (l:List Oper) (i:Nat) (fr:Fr) (Z:St) (ds:List Trace) (res:FST),os.toList.drop i=l->i<=os.size ->
  K7 P call os l i fr Z ds=some res->∃ F S r z,i<=z/\F i=fr/\S i=Z/\((z=os.size/\res.p=none/\F os.size=res.fr/\S os.size=res.Z)\/(z<os.size/\res.fr= .nil/\∃ o s,sY P call os F S z o s/\res.p=some s.v/\res.Z=s.Z)) /\
   Iy P call os F S r z i/\(∀ d,d∈ds->d∈res.ds) /\
   ∀ k s,i<=k->k<os.size->r k=some s->(∀ b,s.d= .read b-> .read k b∈res.ds)/\(s.d= .eff-> .eff k (S k) (S (k+1))∈res.ds):=by
 intro l;induction l with
 | nil=>
   intro i fr Z ds res H hi h;cases h;have:i=os.size:=by
    have:=congrArg List.length H;simp at this;omega
   subst this;exact⟨fun _=>fr,fun _=>Z,fun _=>none,os.size,AP _,rfl,rfl,.inl ⟨rfl,rfl,rfl,rfl⟩,⟨fun k o g hz Q=>by have:=(Array.getElem?_eq_some_iff.1 Q).1;omega,fun k s _ h=>(nomatch h),fun _ _ _=>⟨rfl,rfl,rfl⟩,fun _ _ _ h=>(nomatch h),AP _⟩,fun _ h=>h,fun k s E V _=>om⟩
 | cons o l ih=>
   intro i fr Z ds res H hi h;have X:i<os.size:=by
    have:=congrArg List.length H;simp at this;omega
   have a1:os.size=i+1+l.length:=by
    have:=congrArg List.length H;simp at this;omega
   have Q:os[i]? =some o:=by
    have:=congrArg (fun l:List Oper=>l[0]?) H
    simpa using this
   have C:os.toList.drop (i+1)=l:=by
    rw[<- Ph,H];rfl
   obtain⟨c,hw,E⟩:=A8 (show ob (U9 os fr o) (fun c=>bi c (ob (Ab.step P call fr Z o) fun r=>Stepped.rec (motive:=fun _=>Option FST) (fun v Z' d=>OZ d (K7 P call os l (i+1) (I5 fr o.dst v) Z' (Jn i Z Z' d ds)) (YV P call os o.op l i fr Z v Z' ds)) r)
    (K7 P call os l (i+1) (I5 fr o.dst R7) Z ds))=some res from h)
   cases c with
   | true=>
     obtain⟨⟨v,Z',d⟩,V,K⟩:=A8 (show ob (Ab.step P call fr Z o) _=some res from E);rcases aA (show OZ d (K7 P call os l (i+1) (I5 fr o.dst v) Z' (Jn i Z Z' d ds)) (YV P call os o.op l i fr Z v Z' ds)=some res from K)with⟨K,a0⟩|⟨K,R⟩
     ·obtain⟨F,S,r,z,fz,f1,D,I,m,J,U⟩:=ih (i+1) (I5 fr o.dst v) Z' (Jn i Z Z' d ds) res C om K;refine⟨fun k=>if k=i then fr else F k,fun k=>if k=i then Z else S k,fun k=>if k=i then some ⟨v,Z',d⟩else r k,z,om,by simp,by simp,?_,⟨?_,?_,?_,?_,m.zle⟩,?_,?_⟩
      ·rcases I with⟨y,g2,g3,g4⟩|⟨y,g2,q,s',g3,g4,g5⟩
       ·left;refine⟨y,g2,?_,?_⟩
        ·show(if os.size=i then fr else F os.size)=_;rw[z0z om];exact g3
        ·show(if os.size=i then Z else S os.size)=_;rw[z0z om];exact g4
       ·right;refine⟨y,g2,q,s',⟨g3.ho,?_,?_,g3.pan,g3.eff⟩,g4,g5⟩
        ·show U9 os (if z=i then fr else F z) q=_;rw[z0z om];exact g3.RG
        ·show Ab.step P call (if z=i then fr else F z) (if z=i then Z else S z) q=_;rw[z0z om,z0z om];exact g3.step
      ·intro k q g B j;by_cases a:k=i
       ·subst a;rw[Q]at j;cases j;simp only[FU,z0z (show ¬ k+1=k by omega)];exact .inl ⟨hw,_,V,rfl,f1,D⟩
       ·simp only[z0z a,z0z (show ¬ k+1=i by omega)];exact m.step k q om B j
      ·intro k s g f;by_cases a:k=i
       ·subst a;simp only[FU]at f;cases f;exact a0
       ·simp only[z0z a]at f;exact m.np k s om f
      ·intro k g O;simp only[z0z (show ¬ k=i by omega),z0z (show ¬ k+1=i by omega)];exact m.bg k g O
      ·intro k s g f;simp only[z0z (show ¬ k=i by omega)]at f ⊢;exact m.late k s g f
      ·intro d' W;refine J d' ?_;unfold Jn;cases d<;>simp[W]
      ·intro k s g A u;by_cases a:k=i
       ·subst a;simp only[FU]at u;cases u;refine⟨fun b L=>J _ ?_,fun M=>?_⟩
        ·change d= .read b at L;subst L;unfold Jn;simp
        ·change d= .eff at M;subst M;simp only[FU,z0z (show ¬ k+1=k by omega),D];exact J _ (by unfold Jn;simp)
       ·simp only[z0z a]at u;simp only[z0z a,z0z (show ¬ k+1=i by omega)];exact U k s om A u
     ·obtain⟨h4,h5⟩:=J4 K;obtain⟨_,h6,h7⟩:=A8 h5;cases h7;obtain⟨F,S,r,f1,D,I,f4,m⟩:=zr l (i+1) fr Z C om om h6;have Y:¬ Live os i i:=by rintro(E|⟨E,_⟩)<;>omega
      refine⟨fun k=>if k=i then fr else F k,fun k=>if k=i then Z else S k,fun k=>if k=i then none else r k,i,AP _,by simp,by simp,
       .inr ⟨X,rfl,o,_,⟨Q,by simpa using hw,by simpa using V,R,h4⟩,rfl,rfl⟩,⟨?_,?_,?_,?_,hi⟩,fun _ h=>h,?_⟩
      ·intro k q g N j;have a:k≠i:=fun e=>Y (e ▸ N);simp only[z0z a,z0z (show ¬ k+1=i by omega)];exact m k q om N j
      ·intro k s g f;by_cases a:k=i
       ·subst a;simp at f
       ·simp only[z0z a]at f;rw[(f4 k s om f).1];exact fun h=>nomatch h
      ·intro k g O;by_cases a:k=i
       ·subst a;simp only[FU,z0z (show ¬ k+1=k by omega),f1,D];exact⟨trivial,trivial,trivial⟩
       ·simp only[z0z a,z0z (show ¬ k+1=i by omega)];exact I k om O
      ·intro k s g f;by_cases a:k=i
       ·subst a;simp at f
       ·simp only[z0z a]at f ⊢;exact f4 k s om f
      ·intro k s g _ f;by_cases a:k=i
       ·subst a;simp at f
       ·simp only[z0z a]at f;have:=(f4 k s om f).1;exact⟨fun b L=>(by rw[this]at L;cases L),fun M=>(by rw[this]at M;cases M)⟩
   | false=>
     change K7 P call os l (i+1) (I5 fr o.dst R7) Z ds=some res at E;obtain⟨F,S,r,z,fz,f1,D,I,m,J,U⟩:=ih (i+1) (I5 fr o.dst R7) Z ds res C om E;refine⟨fun k=>if k=i then fr else F k,fun k=>if k=i then Z else S k,fun k=>if k=i then none else r k,z,om,by simp,by simp,?_,⟨?_,?_,?_,?_,m.zle⟩,J,?_⟩
     ·rcases I with⟨y,g2,g3,g4⟩|⟨y,g2,q,s',g3,g4,g5⟩
      ·left;refine⟨y,g2,?_,?_⟩
       ·show(if os.size=i then fr else F os.size)=_;rw[z0z om];exact g3
       ·show(if os.size=i then Z else S os.size)=_;rw[z0z om];exact g4
      ·right;refine⟨y,g2,q,s',⟨g3.ho,?_,?_,g3.pan,g3.eff⟩,g4,g5⟩
       ·show U9 os (if z=i then fr else F z) q=_;rw[z0z om];exact g3.RG
       ·show Ab.step P call (if z=i then fr else F z) (if z=i then Z else S z) q=_;rw[z0z om,z0z om];exact g3.step
     ·intro k q g B j;by_cases a:k=i
      ·subst a;rw[Q]at j;cases j;simp only[FU,z0z (show ¬ k+1=k by omega)];exact .inr ⟨hw,trivial,f1,D⟩
      ·simp only[z0z a,z0z (show ¬ k+1=i by omega)];exact m.step k q om B j
     ·intro k s g f;by_cases a:k=i
      ·subst a;simp at f
      ·simp only[z0z a]at f;exact m.np k s om f
     ·intro k g O;simp only[z0z (show ¬ k=i by omega),z0z (show ¬ k+1=i by omega)];exact m.bg k g O
     ·intro k s g f;simp only[z0z (show ¬ k=i by omega)]at f ⊢;exact m.late k s g f
     ·intro k s g A u;by_cases a:k=i
      ·subst a;simp at u
      ·simp only[z0z a]at u;simp only[z0z a,z0z (show ¬ k+1=i by omega)];exact U k s om A u
def aB {b:BA}:∀ {l:List Trace},M7 bs i b l=true->∀ d∈l,Pe bs i b d=true:=by
 intro l;induction l with
 |nil=>intro _ d a;simp at a
 | cons x l ih=>
   intro h d a;change bi (Pe bs i b x) (M7 bs i b l) false=true at h;cases c:Pe bs i b x with
   |false=>rw[c]at h;cases h
   | true=>
     rw[c]at h;rcases V9.1 a with rfl|a
     ·exact c
     ·exact ih h d a
def aC {a:List Trace}:∀ {l:List Trace},Ai bs a l=true->∀ i b,.read i b∈l->M7 bs i b a=true:=by
 intro l;induction l with
 |nil=>intro _ i b c;simp at c
 | cons x l ih=>
   intro h i b c;cases x with
   | read i' b'=>
     change bi (M7 bs i' b' a) (Ai bs a l) false=true at h;cases e:M7 bs i' b' a with
     |false=>rw[e]at h;cases h
     | true=>
       rw[e]at h;rcases V9.1 c with d|c
       ·cases d;exact e
       ·exact ih h i b c
   | eff i' p q=>
     change Ai bs a l=true at h;rcases V9.1 c with d|c
     ·cases d
     ·exact ih h i b c
def cY {v w:Value}(h:veq v w=true):v=w:=by
 have a:∀ {c x:Bool},bi c x false=true->c=true/\x=true:=by
  intro c x h;cases c with
  |false=>cases h
  |true=>exact⟨rfl,h⟩
 unfold veq at h;split at h
 ·split at h
  ·rename_i b _ c;cases b<;>cases c<;>first|rfl|cases h
  ·cases h
 ·split at h
  ·obtain⟨e,d⟩:=a h;rw[Vm e];rw[Mx]at d;rw[eq_of_beq d]
  ·cases h
 ·split at h
  ·rw[Vl]at h;rw[(MapKept.bytes_beq _ _).1 h]
  ·cases h
 ·split at h
  ·rfl
  ·cases h
 ·split at h
  ·obtain⟨e,d⟩:=a h;rw[Ac e,Ac d]
  ·cases h
 ·split at h
  ·obtain⟨e,d⟩:=a h;rw[Ac e,Ac d]
  ·cases h
 ·split at h
  ·obtain⟨e,d⟩:=a h;obtain⟨d,h3⟩:=a d;obtain⟨h3,h4⟩:=a h3;rw[Ac e,Ac d,Ac h3,Ac h4]
  ·cases h
 ·split at h
  ·obtain⟨e,d⟩:=a h;obtain⟨d,h3⟩:=a d;obtain⟨h3,h4⟩:=a h3;obtain⟨h4,h5⟩:=a h4;rw[Ac e,Ac d,Ac h3,Ac h4,Ac h5]
  ·cases h
 ·split at h
  ·rfl
  ·cases h
 ·split at h
  ·rw[Ac h]
  ·cases h
 ·cases h
def zs:∀ {l k:List Value},AV2 l k=true->l=k:=by
 intro l;induction l with
 |nil=>intro k h;cases k with|nil=>rfl|cons=>cases h
 | cons x l ih=>
   intro k h;cases k with
   |nil=>cases h
   | cons y k=>
     change bi (veq x y) (AV2 l k) false=true at h;cases a:veq x y with
     |false=>rw[a]at h;cases h
     |true=>rw[a]at h;rw[cY a,ih h]
def MD {x y:Option (List Value)}(h:Aj x y=true):x=y:=by
 cases x with
 |none=>cases h
 | some l=>
   cases y with
   |none=>cases h
   |some k=>rw[zs h]
noncomputable def seen (Z:St) (r:BA):Option (List Value):=Z.read r.b r.off r.n
def US {c:List Trace}(h:Ai bs c c=true){j:Nat}{r:BA}{pre post:St}(l: .read i r∈c) (f: .eff j pre post∈c):
  ordered bs i j=true\/(r.b<pre.n->pre.ver r.b=post.ver r.b\/seen pre r=seen post r):=by
 have a:=aB (aC h i r l) _ f;change bi (ordered bs i j) true (bi (Nat.blt r.b pre.n) (bi (Nat.beq (pre.ver r.b) (post.ver r.b)) true (Aj (seen pre r) (seen post r))) true)=true at a;cases g:ordered bs i j with
 |true=>exact .inl rfl
 | false=>
   right;intro e;rw[g]at a;change bi (Nat.blt r.b pre.n) _ true=true at a;rw[show Nat.blt r.b pre.n=true from by rw[EJ];exact e]at a;change bi (Nat.beq (pre.ver r.b) (post.ver r.b)) true (Aj (seen pre r) (seen post r))=true at a;cases d:Nat.beq (pre.ver r.b) (post.ver r.b)with
   |true=>exact .inl (Ac d)
   |false=>rw[d]at a;exact .inr (MD a)
section
variable {P:Program}{A9:Env}{G n:Nat}{call:W8}{os:Array Oper}{F:Nat->Fr}{S:Nat->St}{r:Nat->Option Stepped}{z:Nat}
def CX (r:Nat->Option Stepped) (i:Nat):Prop:=∃ s,r i=some s/\s.d= .eff
def CC (m:BW P A9 G call) (a:Iy P call os F S r z 0)(p:os[k]? =some o){s:Stepped}(c:r k=some s):
  U9 os (F k) o=some true/\Class P A9 G (F k) (S k) o s/\F (k+1)=I5 (F k) o.dst s.v/\S (k+1)=s.Z:=by
 have f:Live os z k:=by
  apply Uh;intro j;rcases AH k z with e|e
  ·exact j (.inl e)
  ·rw[(a.bg k e j).1]at c;cases c
 rcases a.step k o (Af _) f p with⟨g,q,b,d,h,l⟩|⟨g,b,d,h⟩
 ·rw[c]at d;cases d;exact⟨g,Ik m b,h,l⟩
 ·rw[c]at b;cases b
def Iq (b:Iy P call os F S r z 0)(c:Live os z k)(g:os[k]? =some o) (h:r k=none):
  U9 os (F k) o=some false/\F (k+1)=I5 (F k) o.dst R7/\S (k+1)=S k:=by
 rcases b.step k o (Af _) c g with⟨d,l,f,a,e,j⟩|⟨d,f,a,e⟩
 ·rw[h]at a;cases a
 ·exact⟨d,a,e⟩
def Gj (m:BW P A9 G call) (a:Iy P call os F S r z 0)(p:k<os.size):
  Adv (S k) (S (k+1))/\(¬ CX r k->∀ b,b<(S k).n->(S (k+1)).h.get b=(S k).h.get b):=by
 have g:os[k]? =some os[k]:=Array.getElem?_eq_getElem p;cases c:r k with
 | none=>
   have j:S (k+1)=S k:=by
    by_cases e:Live os z k
    ·exact(Iq a e g c).2.2
    ·exact(a.bg k (by rcases AH k z with h|h;exact absurd (.inl h) e;exact h) e).2.2
   rw[j];exact⟨.refl _,fun _ _ _=>rfl⟩
 | some s=>
   obtain⟨_,d,_,l⟩:=CC m a g c;rw[l];cases d with
   |pure h=>exact⟨.refl _,fun _ _ _=>rfl⟩
   |new h=>exact⟨.new _ _ _,fun _ b q=>Tr.L8 _ _ om⟩
   |read h=>exact⟨.refl _,fun _ _ _=>rfl⟩
   |eff h=>exact⟨h.1,fun f=>absurd ⟨_,c,rfl⟩ f⟩
   |pan h=>exact absurd rfl (a.np k _ (Af _) c)
def J7 (d:BW P A9 G call) (a:Iy P call os F S r z 0):∀ {j:Nat},i<=j->j<=os.size->Adv (S i) (S j):=by
 intro j;induction j with
 | zero=>intro c _;obtain rfl:i=0:=om
         exact .refl _
 | succ j ih=>
   intro c e;by_cases b:i=j+1
   ·subst b;exact .refl _
   ·exact(ih om om).trans (Gj d a om).1
def RY (f:BW P A9 G call) (a:Iy P call os F S r z 0):∀ {k:Nat},z<=k->k<=os.size->S k=S z:=by
 intro k;induction k with
 | zero=>intro j _;obtain rfl:z=0:=om
         rfl
 | succ k ih=>
   intro j l;by_cases h:z=k+1
   ·rw[h]
   ·rw [<- ih om om];by_cases c:Live os z k
    ·have d:os[k]? =some os[k]:=Array.getElem?_eq_getElem om;cases b:r k with
     |none=>exact(Iq a c d b).2.2
     | some s=>
       obtain⟨_,g,_,e⟩:=CC f a d b;rw[e];exact(a.late k s om b).2
    ·exact(a.bg k om c).2.2
def FE (m:BW P A9 G call) (c:Iy P call os F S r z 0){b:Nat}(v:b<(S i).n):∀ {j:Nat},i<=j->j<=os.size ->
  (∀ k,i<=k->k<j->CX r k->(S k).ver b=(S (k+1)).ver b)->(S j).h.get b=(S i).h.get b:=by
 intro j;induction j with
 | zero=>intro u _ _;obtain rfl:i=0:=om
         rfl
 | succ j ih=>
   intro u A p;by_cases e:i=j+1
   ·subst e;rfl
   ·have g:=ih om om (fun k f y d=>p k f om d);have a:b<(S j).n:=z5z v (J7 m c om om).n;obtain⟨q,s⟩:=Gj m c (k:=j) om;by_cases d:CX r j
    ·rcases q.ver b a with l|l
     ·exact l.trans g
     ·have:=p j om om d;omega
    ·exact(s d b a).trans g
def RZ {Z':St}{r:BA}(h:Z'.h.get r.b=Z.h.get r.b):seen Z' r=seen Z r:=by
 unfold seen St.read St.EI St.blk;rw[h]
def Lr (h:BW P A9 G call) (a:Iy P call os F S r z 0){x:BA}(q:x.b<(S i).n):∀ {j:Nat},i<=j->j<=os.size ->
  (∀ k,i<=k->k<j->CX r k->seen (S k) x=seen (S (k+1)) x)->seen (S j) x=seen (S i) x:=by
 intro j;induction j with
 | zero=>intro p _ _;obtain rfl:i=0:=om
         rfl
 | succ j ih=>
   intro p v l;by_cases e:i=j+1
   ·subst e;rfl
   ·have g:=ih om om (fun k f s c=>l k f om c);have d:x.b<(S j).n:=z5z q (J7 h a om om).n;obtain⟨u,m⟩:=Gj h a (k:=j) om;by_cases c:CX r j
    ·rw[<- l j om om c];exact g
    ·rw[RZ (m c x.b d)];exact g
def Cf (os:Array Oper) (S:Nat->St) (k b:Nat) (B:Blk):Prop :=
 (b<(S k).n/\(S k).blk b=some B)\/∃ j,k<=j/\j<os.size/\(S j).n<=b/\b<(S (j+1)).n/\(S (j+1)).blk b=some B
structure Inv (A9:Env) (os:Array Oper) (F:Nat->Fr) (S:Nat->St) (r:Nat->Option Stepped) (z:Nat) (O₀:Place) (a₀:Act) (w₀:World) (L:Nat->Prop) (O:Place) (a:Act) (w:World) (k:Nat):Prop where
 kle:k<=os.size
 bh:∀ j,j<k->CX r j->L j
 Hu:k<os.size->CX r k/\¬ L k
 RI:∀ j,k<=j->j<os.size->CX r j->¬ L j
 down:∀ j,L j->∀ i,Bef os i j->L i
 ext:∀ b,b<(S 0).n\/(S os.size).n<=b->O b=O₀ b
 unb:∀ i,i<os.size->¬ L i->∀ b,(S i).n<=b->b<(S (i+1)).n->O b=none
 le:O₀.le O
 tmp:∀ t i,i<=os.size->(∀ j o,j<i->os[j]? =some o->o.dst=some t->L j)->(∀ j o,i<=j->os[j]? =some o->o.dst=some t->¬ L j) ->
  ∀ v,(F i).get t=some v->∃ v',a.tmps[t]? =some v'/\J5 O v v'
 Iz:a.tmps.size=a₀.tmps.size
 Vb:a.defers=a₀.defers
 row:∀ b q B,O b=some q->Cf os S k b B->IU A9 O w q B
 dom:∀ b q,O b=some q->q.c<w.heap.size
 own:∀ b q B,O b=some q->Cf os S k b B->B.own=true->A9.lo<=q.c
 sep:∀ b q B b' q',O b=some q->Cf os S k b B->B.own=true->b'≠b->O b'=some q'->((S os.size).n<=b'\/∃ B',Cf os S k b' B')->q'.c≠q.c
 low:A9.Low w
 size:w₀.heap.size<=w.heap.size
 I4:∀ c,c<w₀.heap.size->(∀ b q B,O₀ b=some q->q.c=c->(S 0).blk b=some B->B.own=false)->w.heap[c]? =w₀.heap[c]?
 owned:∀ b q B,O b=some q->Cf os S k b B->q.c<w₀.heap.size->∃ b₀ q₀ B₀,O₀ b₀=some q₀/\q₀.c=q.c/\(S 0).blk b₀=some B₀/\(B.own=true->B₀.own=true)
 out:Outside w₀ w
 same:∀ b,b<(S 0).n->O₀ b=none->(S k).h.get b=(S 0).h.get b
 beyond:∀ j,z<=j->¬ Live os z j->¬ L j
 YN:∀ i,i<k->¬ L i->∀ b,(S i).n<=b->b<(S (i+1)).n->(S k).h.get b=(S (i+1)).h.get b
end
end
section
variable {v v':Value}{j:Nat}{t:Tmp}
section
variable {P:Program}{A9:Env}{G n:Nat}{call:W8}{os:Array Oper}{F:Nat->Fr}{S:Nat->St}{r:Nat->Option Stepped}{z:Nat}
structure Ctx (P:Program) (A9:Env) (G n:Nat) (call:W8) (os:Array Oper) (F:Nat->Fr) (S:Nat->St) (r:Nat->Option Stepped) (z:Nat):Prop where
 hC:BW P A9 G call
 hO:∀ (i:Nat) (o:Oper),os[i]? =some o->Ay P n G o=true
 hD:bf os
 hch:Iy P call os F S r z 0
 hR:∀ i x j s s',r i=some s->s.d= .read x->r j=some s'->s'.d= .eff->i<os.size->j<os.size->(Bef os i j\/Bef os j i)\/(x.b<(S j).n->seen (S j) x=seen (S (j+1)) x)
 fresh:∀ b,(S 0).n<=b->(S 0).h.get b=none
def pd (m:bf os):∀ (j i:Nat) (o:Oper),os[j]? =some o->Bef os i j->i<j:=by
 intro j;induction j using Nat.strongRecOn with
 | _ j ih=>
   intro i o d p;obtain⟨e,g,h,b⟩:=OX d p;have c:=m.Sp j o e d g h;rcases b with b|⟨b,l⟩
   ·omega
   ·have f:e.on<os.size:=by have:=(Array.getElem?_eq_some_iff.1 d).1;omega
    have:=ih e.on c i os[e.on] (Array.getElem?_eq_getElem f) l;omega
structure Rdy (os:Array Oper) (L:Nat->Prop) (i:Nat) (o:Oper):Prop where
 ho:os[i]? =some o
 no:¬ L i
 all:∀ e∈o.after,Region.binds .any e=true->L e.on
def Rdy.bef {L:Nat->Prop}{i:Nat}{o:Oper}(h:Rdy os L i o) (l:∀ j,L j->∀ i,Bef os i j->L i)(g:Bef os j i):L j:=by
 obtain⟨e,c,d,b⟩:=OX h.ho g;have:=h.all e c d;rcases b with b|⟨_,f⟩
 ·rw[<- b];exact this
 ·exact l _ this _ f
def RE (f:Iy P call os F S r z 0){p:Nat}:∀ {m:Nat},p<=m->m<=os.size->(∀ j o,p<=j->j<m->os[j]? =some o->o.dst≠some t)->(F m).get t=(F p).get t:=by
 intro m;induction m with
 | zero=>intro h _ _;obtain rfl:p=0:=om
         rfl
 | succ m ih=>
   intro H I A;by_cases y:p=m+1
   ·subst y;rfl
   ·rw [<- ih om om fun j o a b c=>A j o a om c];have E:m<os.size:=om;have u:os[m]? =some os[m]:=Array.getElem?_eq_getElem E;have q:=A m os[m] om om u;have l:∀ v,(I5 (F m) os[m].dst v).get t=(F m).get t:=by
     intro v;cases C:os[m].dst with
     |none=>rfl
     | some d=>
       rw[Nq,Tr.L8];intro D;subst D;exact q C
    rcases AH m z with g|g
    ·rcases f.step m os[m] (Af _) (.inl g) u with⟨_,s,_,_,e,_⟩|⟨_,_,e,_⟩
     ·rw[e];exact l _
     ·rw[e];exact l _
    ·by_cases B:Live os z m
     ·rcases f.step m os[m] (Af _) B u with⟨_,s,_,_,e,_⟩|⟨_,_,e,_⟩
      ·rw[e];exact l _
      ·rw[e];exact l _
     ·rw[(f.bg m g B).2.1]
section
variable {O₀ O:Place}{a₀ a:Act}{w₀ w:World}{L:Nat->Prop}{k i:Nat}{o:Oper}
def Inv.Ai0 (h:Ctx P A9 G n call os F S r z) (b:Inv A9 os F S r z O₀ a₀ w₀ L O a w k) (hi:Rdy os L i o)(ht:Rd os o t)(p:(F i).get t=some v):
  ∃ v',a.tmps[t]? =some v'/\J5 O v v':=by
 have m:=(Array.getElem?_eq_some_iff.1 hi.ho).1;refine b.tmp t i om (fun j f l e c=>?_) (fun j f l e c g=>?_) v p
 ·exact hi.bef b.down (h.hD.names j i f o l e hi.ho ⟨t,.inl ⟨c,.inr ht⟩⟩)
 ·by_cases d:j=i
  ·subst d;exact hi.no g
  ·exact hi.no (b.down j g i (h.hD.names i j o f om hi.ho e ⟨t,.inr ⟨c,ht⟩⟩))
def Inv.known (c:Ctx P A9 G n call os F S r z) (b:Inv A9 os F S r z O₀ a₀ w₀ L O a w k) (hi:Rdy os L i o) (d:CL O₀ G):P9 O (F i) a.eval o.op.operands.toList :=
 RF (d.mono b.le) (c.hO i o hi.ho) fun _ ht v e=>b.Ai0 c hi (.inl ht) e
def Inv.RG (g:Ctx P A9 G n call os F S r z) (f:Inv A9 os F S r z O₀ a₀ w₀ L O a w k) (hi:Rdy os L i o){c:Bool}(l:U9 os (F i) o=some c):Region.wanted o (yielded os a.tmps)=c :=
 KG l fun j b t d e v h=>f.Ai0 g hi (.inr ⟨j,b,d,e⟩) h
def Inv.AL2 (s:Ctx P A9 G n call os F S r z) (q:Inv A9 os F S r z O₀ a₀ w₀ L O a w k) (hi:Rdy os L i o) (U:n<=a₀.tmps.size){l:Place}(C:O.le l)(N:F (i+1)=I5 (F i) o.dst v) (V:J5 l v v'):
  ∀ t m,m<=os.size->(∀ j oj,j<m->os[j]? =some oj->oj.dst=some t->L j\/j=i)->(∀ j oj,m<=j->os[j]? =some oj->oj.dst=some t->¬ (L j\/j=i)) ->
   ∀ u,(F m).get t=some u->∃ u',(a.put o.dst v').tmps[t]? =some u'/\J5 l u u':=by
 intro t m J H I u E;by_cases c:o.dst=some t
 ·have Q:i<m:=by
   rcases AH i m with y|y
   ·exact y
   ·exact absurd (.inr rfl) (I i o y hi.ho c)
  have M:=RE s.hch (t:=t) (p:=i+1) (m:=m) om J (fun j oj R B g b=>by
   rcases H j oj B g b with e|h
   ·exact hi.no (q.down j e i (s.hD.names i j o oj om hi.ho g ⟨t,.inl ⟨c,.inl b⟩⟩))
   ·omega)
  rw[M,N,c,Nq,Tr.get_set_same]at E;cases E;refine⟨v',?_,V⟩;rw[c];show(a.tmps.setIfInBounds t v')[t]? =_;rw[Array.getElem?_setIfInBounds_self_of_lt];exact z5z (RH (s.hO i o hi.ho) t c) (by rw[q.Iz];exact U)
 ·have key:=q.tmp t m J (fun j oj A f b=>by
    rcases H j oj A f b with e|h
    ·exact e
    ·subst h;rw[hi.ho]at f;cases f;exact absurd b c)
   (fun j oj A f b e=>I j oj A f b (.inl e)) u E
  obtain⟨u',K,W⟩:=key;refine⟨u',?_,W.mono C⟩;cases D:o.dst with
  |none=>exact K
  | some d=>
    show(a.tmps.setIfInBounds d v')[t]? =_;rw[Array.getElem?_setIfInBounds_ne (by intro h;subst h;exact c D)];exact K
def Inv.pf (c:Inv A9 os F S r z O₀ a₀ w₀ L O a w k) (hi:Rdy os L i o):∀ j,(L j\/j=i)->∀ i',Bef os i' j->(L i'\/i'=i):=by
 intro j b i' d;rcases b with b|rfl
 ·exact .inl (c.down j b i' d)
 ·exact .inl (hi.bef c.down d)
def Inv.quiet (s:Ctx P A9 G n call os F S r z) (b:Inv A9 os F S r z O₀ a₀ w₀ L O a w k) (hi:Rdy os L i o) (y:Live os z i) (l:n<=a₀.tmps.size)(q:F (i+1)=I5 (F i) o.dst v) (u:J5 O v v') (g:¬ CX r i):
  Inv A9 os F S r z O₀ a₀ w₀ (fun j=>L j\/j=i) O (a.put o.dst v') w k where
 kle:=b.kle
 bh:=fun j c d=> .inl (b.bh j c d)
 Hu:=fun h=>⟨(b.Hu h).1,fun e=>e.elim (b.Hu h).2 fun f=>g (f ▸ (b.Hu h).1)⟩
 RI:=fun j c d p e=>e.elim (b.RI j c d p) fun f=>g (f ▸ p)
 down:=b.pf hi
 ext:=b.ext
 unb:=fun m c d=>b.unb m c fun h=>d (.inl h)
 le:=b.le
 tmp:=b.AL2 s hi l (Place.le_refl _) q u
 Iz:=by rw[EZ];exact b.Iz
 Vb:=by rw[put_defers];exact b.Vb
 row:=b.row
 dom:=b.dom
 own:=b.own
 sep:=b.sep
 low:=b.low
 size:=b.size
 I4:=b.I4
 owned:=b.owned
 out:=b.out
 same:=b.same
 beyond:=fun j c l e=>e.elim (b.beyond j c l) fun f=>l (f ▸ y)
 YN:=fun m c d=>b.YN m c fun h=>d (.inl h)
def OY (c:Ctx P A9 G n call os F S r z){i b:Nat}(hi:i<os.size) (l:j<os.size) (d:(S i).n<=b) (e:b<(S (i+1)).n) (f:(S j).n<=b) (g:b<(S (j+1)).n):i=j:=by
 rcases bj i j with h|h|h
 ·have:=(J7 c.hC c.hch (i:=i+1) (j:=j) om om).n;omega
 ·exact h
 ·have:=(J7 c.hC c.hch (i:=j+1) (j:=i) om om).n;omega
def Inv.new (A:Ctx P A9 G n call os F S r z) (d:Inv A9 os F S r z O₀ a₀ w₀ L O a w k) (hi:Rdy os L i o) (hz:Live os z i) (U:n<=a₀.tmps.size){cs:List Value}{t:Option TypeId}{v v':Value}(hF:F (i+1)=I5 (F i) o.dst v) (hS:S (i+1)=(S i).new cs t) (Q:¬ CX r i)
  {w':World}{arr:Array Value}{el:TypeId}{lo H:Nat}{vs more:List Value} (hs:w'.heap.size=w.heap.size+1) (GJ:w'.heap[w.heap.size]? =some (.cells arr el (lo,H))) (s:∀ c,c<w.heap.size->w'.heap[c]? =w.heap[c]?)
  (ho:Outside w w') (Z:arr.size<=lo\/H<=lo) (Y:∀ v∈cs,N2 v=true) (KT:arr.toList=vs++more) (R:H8 O cs vs) (ht:∀ x,t=some x->x=el)
  (hv:∀ O':Place,O' (S i).n=some ⟨w.heap.size,0,arr.size⟩->J5 O' v v') :
  Inv A9 os F S r z O₀ a₀ w₀ (fun j=>L j\/j=i) (O.put (S i).n ⟨w.heap.size,0,arr.size⟩) (a.put o.dst v') w' k:=by
 have E:=(Array.getElem?_eq_some_iff.1 hi.ho).1;have a3:(S (i+1)).n=(S i).n+1:=by rw[hS];rfl
 have Kc:O (S i).n=none:=d.unb i E hi.no _ nL om;have D:=Place.JS (O:=O) ⟨w.heap.size,0,arr.size⟩ Kc;have pg:(S (i+1)).h.get (S i).n=some ⟨cs,true,true,0,.row t⟩:=by rw[hS];exact Tr.get_set_same _ _ _
 have a1:k≠i:=fun C=>by
  subst C;exact Q (d.Hu E).1
 have W:∀ B,Cf os S k (S i).n B->B=⟨cs,true,true,0,.row t⟩:=by
  intro B W;rcases W with⟨l,m⟩|⟨j,l,m,y,I,h5⟩
  ·have a0:i<k:=by
    rcases AH i k with hh|hh
    ·exact hh
    ·have:=(J7 A.hC A.hch hh om).n;omega
   have h6:=d.YN i a0 hi.no (S i).n nL om;rw[pg]at h6;have J:=(AM m).1;rw[h6]at J;cases J;rfl
  ·have:=OY A E m nL om y I;subst this;have J:=(AM h5).1;rw[pg]at J;cases J;rfl
 have a2:=(J7 A.hC A.hch (i:=0) (j:=i) om om).n;have a4:=(J7 A.hC A.hch (i:=i+1) (j:=os.size) om om).n
 refine⟨d.kle,fun j l m=> .inl (d.bh j l m),fun h=>⟨(d.Hu h).1,fun K=>K.elim (d.Hu h).2 fun C=>a1 C⟩,fun j l m y K=>K.elim (d.RI j l m y) fun C=>Q (C ▸ y),
  d.pf hi,?_,?_,Place.le_trans d.le D,d.AL2 A hi U D hF (hv _ (Place.S9 _ _ _)),by rw[EZ];exact d.Iz,by rw[put_defers];exact d.Vb,?_,?_,?_,?_,?_,?_,?_,?_,d.out.trans ho,d.same,fun j l U K=>K.elim (d.beyond j l U) (fun C=>U (C ▸ hz)),fun i' l m=>d.YN i' l fun h=>m (.inl h)⟩
 ·intro b f;rw[Place.Ax _ _ om];exact d.ext b f
 ·intro i' l m b y I;rw[Place.Ax _ _ ?_]
  ·exact d.unb i' l (fun h=>m (.inl h)) b y I
  ·intro C;subst C;exact m (.inr (OY A l E y I nL om))
 ·intro b q B f g;by_cases e:b=(S i).n
  ·subst e;rw[Place.S9]at f;cases f;rw[W B g];have hl:=R.length;refine .row rfl ⟨arr,el,lo,H,GJ,rfl,?_,fun _=>Z,Y,fun j u hj=>?_⟩ (fun x hx=>by cases ht x hx;exact⟨rfl,_,_,GJ⟩)
   ·show 0+cs.length<=arr.size;rw[<- Pq,KT];simp;omega
   ·obtain⟨u',y,I⟩:=R.get hj;refine⟨u',?_,I.mono D⟩;show arr[0+j]? =_;rw[<- Array.getElem?_toList,KT,Eo,List.getElem?_append_left (List.getElem?_eq_some_iff.1 y).1];exact y
  ·rw[Place.Ax _ _ e]at f;exact(d.row b q B f g).mono D (s q.c (d.dom b q f))
 ·intro b q f;by_cases e:b=(S i).n
  ·subst e;rw[Place.S9]at f;cases f;show w.heap.size<_;omega
  ·rw[Place.Ax _ _ e]at f;have:=d.dom b q f;omega
 ·intro b q B f g X;by_cases e:b=(S i).n
  ·subst e;rw[Place.S9]at f;cases f;exact d.low.1
  ·rw[Place.Ax _ _ e]at f;exact d.own b q B f g X
 ·intro b q B V q' f g X M p hl;by_cases e:b=(S i).n
  ·subst e;rw[Place.S9]at f;cases f;rw[Place.Ax _ _ M]at p;have:=d.dom V q' p;show q'.c≠w.heap.size;omega
  ·rw[Place.Ax _ _ e]at f;by_cases iy:V=(S i).n
   ·subst iy;rw[Place.S9]at p;cases p;have:=d.dom b q f;show w.heap.size≠q.c;omega
   ·rw[Place.Ax _ _ iy]at p;exact d.sep b q B V q' f g X M p hl
 ·exact d.low.next om fun c Y=>s c (z5z Y d.low.1)
 ·have:=d.size;omega
 ·intro c l m;rw[s c (by have:=d.size;omega)];exact d.I4 c l m
 ·intro b q B f g N;by_cases e:b=(S i).n
  ·subst e;rw[Place.S9]at f;cases f;change w.heap.size<_ at N;have:=d.size;omega
  ·rw[Place.Ax _ _ e]at f;exact d.owned b q B f g N
def Inv.YO (c:Ctx P A9 G n call os F S r z) (u:Inv A9 os F S r z O₀ a₀ w₀ L O a w k) (hi:Rdy os L i o){s:Stepped}{x:BA}(hr:r i=some s) (Y:s.d= .read x){cs:List Value}(U:seen (S i) x=some cs){q:CJ}(hq:O x.b=some q):
  Seg O w q x.off cs:=by
 have I:=(Array.getElem?_eq_some_iff.1 hi.ho).1;obtain⟨x1,C,E⟩:=x;generalize a2:x1=b at *;have a0:∀ j,j<=os.size->∀ b,(S j).n<=b->(S j).h.get b=none:=fun j M=>(J7 c.hC c.hch (i:=0) (j:=j) om M).fresh c.fresh;have y:b<(S i).n:=by
  rcases AH b (S i).n with A|A
  ·exact A
  ·obtain⟨B,p,_⟩:=W2 (show(S i).read b C E=some cs from U);have:=(AM (j0 p).1).1;rw[a0 i om b A]at this;cases this
 have V:¬ CX r i:=by rintro⟨J,g,l⟩;rw[hr]at g;cases g;rw[Y]at l;cases l
 have a4:k≠i:=fun Z=>by subst Z;exact V (u.Hu I).1
 have done:∀ j,seen (S j) ⟨b,C,E⟩=seen (S i) ⟨b,C,E⟩->(∀ B,(S j).blk b=some B->Cf os S k b B)->Seg O w q C cs:=by
  intro j M hH;rw[U]at M;obtain⟨B,p,Gb⟩:=W2 (show(S j).read b C E=some cs from M);obtain⟨hB1,_,hB2⟩:=j0 p;have hs:=u.row b q B hq (hH B hB1);unfold IU at hs;rw[hB2]at hs;exact(Row.seg hs.1 Gb).1
 rcases AH i k with a1|a1
 ·have e:b<(S k).n:=z5z y (J7 c.hC c.hch om u.kle).n;refine done k (Lr c.hC c.hch y om u.kle fun j g l f=>?_) (fun B p=> .inl ⟨e,p⟩);obtain⟨J,Q,K⟩:=f;have M:j<os.size:=by have:=u.kle;omega
  have a3:j≠i:=fun Z=>by subst Z;exact V ⟨J,Q,K⟩
  rcases c.hR i _ j s J hr Y Q K I M with(D|D)|D
  ·exact absurd (u.down j (u.bh j l ⟨J,Q,K⟩) i D) hi.no
  ·have:=pd c.hD i j o hi.ho D;omega
  ·exact D (z5z y (J7 c.hC c.hch om om).n)
 ·have N:∀ j,k<=j->j<i->CX r j->b<(S j).n->seen (S j) ⟨b,C,E⟩=seen (S (j+1)) ⟨b,C,E⟩:=by
   intro j g l f Q;obtain⟨J,K,D⟩:=f;rcases c.hR i _ j s J hr Y K D I om with(R|R)|R
   ·have:=pd c.hD j i os[j] (Array.getElem?_eq_getElem om) R;omega
   ·exact absurd (hi.bef u.down R) (u.RI j g om ⟨J,K,D⟩)
   ·exact R Q
  by_cases e:b<(S k).n
  ·refine done k ?_ (fun B p=> .inl ⟨e,p⟩);exact(Lr (x:=⟨b,C,E⟩) c.hC c.hch e om om fun j g l f=>N j g l f (z5z e (J7 c.hC c.hch g om).n)).symm
  ·have W:∃ j,k<=j/\j<i/\(S j).n<=b/\b<(S (j+1)).n:=by
    have:∀ m,k<=m->m<=i->b<(S m).n->∃ j,k<=j/\j<m/\(S j).n<=b/\b<(S (j+1)).n:=by
     intro m;induction m with
     | zero=>intro g l f;obtain rfl:k=0:=om
             exact absurd f e
     | succ m ih=>
       intro g l f;by_cases hm:b<(S m).n
       ·have H:k<=m:=by
         rcases AH m k with A|A
         ·obtain rfl:k=m+1:=om;exact absurd f e
         ·exact A
        obtain⟨j,X,g2,g3,g4⟩:=ih H om hm;exact⟨j,X,om,g3,g4⟩
       ·have H:k<=m:=by
         rcases AH m k with A|A
         ·obtain rfl:k=m+1:=om;exact absurd f e
         ·exact A
        exact⟨m,H,om,om,f⟩
    exact this i om nL y
   obtain⟨j,X,g2,g3,g4⟩:=W;refine done (j+1) ?_ (fun B p=> .inr ⟨j,X,om,g3,g4,p⟩);exact(Lr (x:=⟨b,C,E⟩) c.hC c.hch g4 om om fun m g l f=>N m om l f (z5z g4 (J7 c.hC c.hch g om).n)).symm
def Inv.effect (I:Ctx P A9 G n call os F S r z) (e:Inv A9 os F S r z O₀ a₀ w₀ L O a w i) (hi:Rdy os L i o) (hz:Live os z i) (hn:n<=a₀.tmps.size){O':Place}{w':World}{v v':Value}(hF:F (i+1)=I5 (F i) o.dst v)
  (hR:Rel A9 O' (S (i+1)) w') (J:AS O (S i) w O' (S (i+1)) w') (a3:O.le O') (hv:J5 O' v v') {k':Nat} (R:i<k') (a2:k'<=os.size) (a6:∀ j,i<j->j<k'->¬ CX r j) (a7:k'<os.size->CX r k') :
  Inv A9 os F S r z O₀ a₀ w₀ (fun j=>L j\/j=i) O' (a.put o.dst v') w' k':=by
 have b5:=(Array.getElem?_eq_some_iff.1 hi.ho).1;have W:∀ x y,x<=y->y<=os.size->(S x).n<=(S y).n:=fun x y f d=>(J7 I.hC I.hch f d).n;have b6:=W 0 i om om;have c2:=W (i+1) os.size om om;have c1:=W (i+1) k' om a2;have c0:=W i (i+1) om om;have p:∀ b x,i+1<=x->x<=k'->b<(S x).n->(S k').h.get b=(S x).h.get b:=fun b x f d s=>
  FE I.hC I.hch s d a2 fun j H g2 g3=>absurd g3 (a6 j om om)
 have RJ:∀ {b x y},(S x).h.get b=(S y).h.get b->(S x).blk b=(S y).blk b:=by
  intro b x y h;show ob ((S x).h.get b) _=ob ((S y).h.get b) _;rw[h]
 have YP:∀ {b q},O b=some q->b<(S i).n\/(S (i+1)).n<=b:=by
  intro b q C;rcases AH b (S i).n with K|K
  ·exact .inl K
  ·rcases AH b (S (i+1)).n with a1|a1
   ·rw[e.unb i b5 hi.no b K a1]at C;cases C
   ·exact .inr a1
 -- a block is either one Aa the operation BV8 or made,or one Aa was made out of the oL order
 have split:∀ b q B,O' b=some q->Cf os S k' b B->(b<(S (i+1)).n/\(S (i+1)).blk b=some B)\/((S (i+1)).n<=b/\O b=some q/\Cf os S i b B):=by
  intro b q B C A;rcases A with⟨f,d⟩|⟨j,f,d,s,h4,h5⟩
  ·rcases AH b (S (i+1)).n with K|K
   ·exact .inl ⟨K,by rw[<- RJ (p b (i+1) nL R K)];exact d⟩
   ·right;refine⟨K,by rw[<- J.ext b (.inr K)];exact C,.inr ?_⟩;have:∀ m,i+1<=m->m<=k'->b<(S m).n->∃ j,i+1<=j/\j<m/\(S j).n<=b/\b<(S (j+1)).n:=by
     intro m;induction m with
     |zero=>intro H _ _;omega
     | succ m ih=>
       intro H g2 g3;have a5:i+1<=m:=by
        rcases AH i m with g|g
        ·exact g
        ·obtain rfl:m=i:=om;omega
       by_cases hm:b<(S m).n
       ·obtain⟨j,g4,g5,g6,g7⟩:=ih a5 om hm;exact⟨j,g4,om,g6,g7⟩
       ·exact⟨m,a5,om,om,g3⟩
    obtain⟨j,H,g2,g3,g4⟩:=this k' R nL f;exact⟨j,om,om,g3,g4,by rw[<- RJ (p b (j+1) om om g4)];exact d⟩
  ·have a4:(S (i+1)).n<=b:=W5 (W (i+1) j om om) s;exact .inr ⟨a4,by rw[<- J.ext b (.inr a4)];exact C,.inr ⟨j,om,d,s,h4,h5⟩⟩
 have D:∀ b B,(S i).blk b=some B->Cf os S i b B:=by
  intro b B hB;refine .inl ⟨?_,hB⟩;rcases AH b (S i).n with K|K
  ·exact K
  ·have f:=(AM hB).1;rw[(J7 I.hC I.hch (i:=0) (j:=i) om om).fresh I.fresh b K]at f;cases f
 have c4:=e.size;have b9:=J.size;refine⟨a2,?_,?_,?_,e.pf hi,?_,?_,Place.le_trans e.le a3,e.AL2 I hi hn a3 hF hv,by rw[EZ];exact e.Iz,by rw[put_defers];exact e.Vb,?_,hR.dom,?_,?_,hR.low,om,?_,?_,e.out.trans J.out,?_,fun j f hn hL=>hL.elim (e.beyond j f hn) (fun he=>hn (he ▸ hz)),?_⟩
 ·intro j f d;rcases bj j i with h|h|h
  ·exact .inl (e.bh j h d)
  ·exact .inr h
  ·exact absurd d (a6 j h f)
 ·intro h;refine⟨a7 h,fun hL=>hL.elim (e.RI k' om h (a7 h)) fun he=>om⟩
 ·intro j f d s hL;rcases hL with hL|hL
  ·exact e.RI j om d s hL
  ·omega
 ·intro b C;rw[J.ext b om];exact e.ext b C
 ·intro M f d b s h4;have a9:M≠i:=fun he=>d (.inr he);have:b<(S i).n\/(S (i+1)).n<=b:=by
   rcases AH M i with h|h
   ·have:=W (M+1) i om om;omega
   ·have:=W (i+1) M om om;omega
  rw[J.ext b this];exact e.unb M f (fun h=>d (.inl h)) b s h4
 ·intro b q B C A;rcases split b q B C A with⟨_,d⟩|⟨f,d,s⟩
  ·exact hR.KV b q B C d
  ·refine(e.row b q B d s).mono a3 (J.I4 q.c (e.dom b q d) fun Y q1 B1 H g2 g3=>?_);cases N:B1.own with
   |false=>rfl
   | true=>
     have b7:Y<(S i).n:=by rcases D Y B1 g3 with⟨g,_⟩|⟨j,g4,g5,g6,g7,g8⟩
                           ·exact g
                           ·rcases YP H with g|g
                            ·exact g
                            ·have:=(AM g3).1;rw[(J7 I.hC I.hch (i:=0) (j:=i) om om).fresh I.fresh Y om]at this;cases this
     exact absurd g2.symm (e.sep Y q1 B1 b q H (D Y B1 g3) N om d (.inr ⟨B,s⟩))
 ·intro b q B C A N;rcases split b q B C A with⟨_,d⟩|⟨f,d,s⟩
  ·exact hR.own b q B C d N
  ·exact e.own b q B d s N
 ·intro b q B X q' C A N a0 Q U;rcases split b q B C A with⟨f,d⟩|⟨f,d,s⟩
  ·refine hR.sep b q B X q' C d N a0 Q ?_;rcases U with U|⟨B',U⟩
   ·exact .inl om
   ·rcases split X q' B' Q U with⟨_,g2⟩|⟨H,_,_⟩
    ·exact .inr ⟨B',g2⟩
    ·exact .inl H
  ·rcases U with U|⟨B',U⟩
   ·have b0:O X=some q':=by rw[<- J.ext X (.inr om)];exact Q
    exact e.sep b q B X q' d s N a0 b0 (.inl U)
   ·rcases split X q' B' Q U with⟨H,g2⟩|⟨H,g2,g3⟩
    ·intro he;have c3:=e.dom b q d;obtain⟨l,E,u,j1,j2,j3,_⟩:=J.owned X q' B' Q g2 om;have b3:=D l u j3;have b2:l≠b:=by
      rcases YP j1 with g|g
      ·omega
      ·have:=(AM j3).1;rw[(J7 I.hC I.hch (i:=0) (j:=i) om om).fresh I.fresh l om]at this;cases this
     exact e.sep b q B l E d s N b2 j1 (.inr ⟨u,b3⟩) om
    ·exact e.sep b q B X q' d s N a0 g2 (.inr ⟨B',g3⟩)
 ·intro c f d;rw[J.I4 c om ?_]
  ·exact e.I4 c f d
  ·intro Y q1 B1 H g2 g3;cases N:B1.own with
   |false=>rfl
   | true=>
     obtain⟨l,E,u,j1,j2,j3,j4⟩:=e.owned Y q1 B1 H (D Y B1 g3) om;have:=d l E u j1 om j3;rw[j4 N]at this;cases this
 ·intro b q B C A b4;rcases split b q B C A with⟨f,d⟩|⟨f,d,s⟩
  ·obtain⟨Z,a8,V,H,g2,g3,g4⟩:=J.owned b q B C d om;obtain⟨l,E,u,j1,j2,j3,j4⟩:=e.owned Z a8 V H (D Z V g3) om;exact⟨l,E,u,j1,om,j3,fun h=>j4 (g4 h)⟩
  ·exact e.owned b q B d s b4
 ·intro b f d;rw[p b (i+1) nL R om,J.same b om (by rw[e.ext b (.inl f)];exact d)];exact e.same b f d
 ·intro M f d b s h4;have a9:M≠i:=fun he=>d (.inr he);rcases AH M i with h|h
  ·have b8:=W (M+1) i om om;rw[p b (i+1) nL R om,J.same b om (e.unb M om (fun h=>d (.inl h)) b s h4)];exact e.YN M h (fun h=>d (.inl h)) b s h4
  ·exact p b (M+1) om om h4
end
end
end
section
variable {O:Place}{a:Act}{w:World}{k:Nat}{o:Oper}{t:Tmp}
def count_set:∀ (l:List Bool) (i:Nat),l[i]? =some false->(l.set i true).count false+1=l.count false:=by
 intro l;induction l with
 |nil=>intro i h;simp at h
 | cons x l ih=>
   intro i h;cases i with
   |zero=>simp at h;subst h;simp
   | succ i=>
     have:=ih i (by simpa using h);rw[List.set_cons_succ,gI,gI];omega
def Rz:∀ (l:List Bool),l.count false=0->∀ i,i<l.length->l[i]? =some true:=by
 intro l;induction l with
 |nil=>intro _ i h;simp at h
 | cons x l ih=>
   intro h i hi;rw[gI]at h;cases x with
   |false=>simp at h
   | true=>
     cases i with
     |zero=>rfl
     |succ i=>simpa using ih (by simpa using h) i (by simpa using hi)
section
variable {P:Program}{A9:Env}{G n:Nat}{call:W8}{os:Array Oper}{F:Nat->Fr}{S:Nat->St}{r:Nat->Option Stepped}{z:Nat}
def Mv (r:Nat->Option Stepped) (m:Nat):∀ (d i:Nat),m=i+d->∃ k,i<=k/\k<=m/\(∀ j,i<=j->j<k->¬ CX r j)/\(k<m->CX r k):=by
 intro d;induction d with
 |zero=>intro i h;exact⟨i,AP _,om,fun j c b=>om,fun h=>om⟩
 | succ d ih=>
   intro i h;by_cases e:CX r i
   ·exact⟨i,AP _,om,fun j c b=>om,fun _=>e⟩
   ·obtain⟨k,c,b,f,g⟩:=ih (i+1) om;refine⟨k,om,b,fun j p g2=>?_,g⟩;by_cases l:j=i
    ·subst l;exact e
    ·exact f j om g2
variable {O₀:Place}{a₀:Act}{w₀:World}
def gv {L:Nat->Prop}{i:Nat}(l:Ctx P A9 G n call os F S r z) (f:Inv A9 os F S r z O₀ a₀ w₀ L O a w i) (hi:i<os.size):Rel A9 O (S i) w/\Cz O (S i).n (S (i+1)).n:=by
 have fr:=(J7 l.hC l.hch (i:=0) (j:=i) om om).fresh l.fresh;have c:∀ b B,(S i).blk b=some B->Cf os S i b B:=by
  intro b B M;refine .inl ⟨?_,M⟩;rcases AH b (S i).n with d|d
  ·exact d
  ·have g:=(AM M).1;rw[fr b d]at g;cases g
 refine⟨⟨fr,fun b q B g u=>f.row b q B g (c b B u),f.dom,fun b q B g u D=>f.own b q B g (c b B u) D,?_,f.low⟩,f.unb i hi (f.Hu hi).2⟩;intro b q B e q' g u D U E A;refine f.sep b q B e q' g (c b B u) D U E ?_;rcases A with A|⟨K,A⟩
 ·rcases AH e (S os.size).n with d|d
  ·right;have:∀ m,i<=m->m<=os.size->e<(S m).n->∃ j,i<=j/\j<m/\(S j).n<=e/\e<(S (j+1)).n:=by
    intro m;induction m with
    | zero=>intro y g2 g3;obtain rfl:i=0:=om
            omega
    | succ m ih=>
      intro y g2 g3;by_cases I:i=m+1
      ·subst I;omega
      ·by_cases Y:e<(S m).n
       ·obtain⟨j,g4,g5,g6,R⟩:=ih om om Y;exact⟨j,g4,om,g6,R⟩
       ·exact⟨m,om,om,om,g3⟩
   obtain⟨j,y,g2,g3,g4⟩:=this os.size om nL d;have v:L j:=by
    apply Uh;intro V;rw[f.unb j g2 V e g3 g4]at E;cases E
   have J:¬ CX r j:=fun X=>f.RI j y g2 X v;have Q:os[j]? =some os[j]:=Array.getElem?_eq_getElem g2;cases C:r j with
   | none=>
     obtain⟨_,_,Z⟩:=Iq l.hch (by apply Uh;intro N;rcases AH j z with d|d;exact N (.inl d);exact absurd v (f.beyond j d N)) Q C;rw[Z]at g4;omega
   | some s=>
     obtain⟨_,H,_,p⟩:=CC l.hC l.hch Q C;cases H with
     |pure h=>change S (j+1)=S j at p;rw[p]at g4;omega
     |read h=>change S (j+1)=S j at p;rw[p]at g4;omega
     |eff h=>exact absurd ⟨_,C,rfl⟩ J
     |pan h=>exact absurd rfl (l.hch.np j _ (Af _) C)
     | @new cs vf t h=>
       change S (j+1)=(S j).new cs t at p;have W:e=(S j).n:=by rw[p]at g4;change e<(S j).n+1 at g4;omega
       subst W;exact⟨_,.inr ⟨j,y,g2,g3,g4,by rw[p];exact VA _ _ _⟩⟩
  ·exact .inl d
 ·exact .inr ⟨K,c e K A⟩
def Ol {L:Nat->Prop}(m:Ctx P A9 G n call os F S r z) (d:Inv A9 os F S r z O₀ a₀ w₀ L O a w k) (D:k=os.size):
  Rel A9 O (S os.size) w/\AS O₀ (S 0) w₀ O (S os.size) w:=by
 subst D;have g:=J7 m.hC m.hch (i:=0) (j:=os.size) om nL;have fr:=g.fresh m.fresh;have c:∀ b B,(S os.size).blk b=some B->Cf os S os.size b B:=by
  intro b B v;refine .inl ⟨?_,v⟩;rcases AH b (S os.size).n with p|p
  ·exact p
  ·have e:=(AM v).1;rw[fr b p]at e;cases e
 refine⟨⟨fr,fun b q B e f=>d.row b q B e (c b B f),d.dom,fun b q B e f l=>d.own b q B e (c b B f) l,?_,d.low⟩,⟨d.ext,g.n,d.size,d.I4,fun b q B e f l=>d.owned b q B e (c b B f) l,d.out,d.same⟩⟩;intro b q B u E e f l y A C;refine d.sep b q B u E e (c b B f) l y A (C.imp id fun⟨s,h⟩=>⟨s,c u s h⟩)
def gw {L:Nat->Prop}(f:Ctx P A9 G n call os F S r z) (c:Inv A9 os F S r z O₀ a₀ w₀ L O a w k) (e:∀ i,i<os.size->L i):
  Rel A9 O (S os.size) w/\AS O₀ (S 0) w₀ O (S os.size) w/\HP O (F os.size) a:=by
 have g:k=os.size:=by
  rcases AH k os.size with h|h
  ·exact absurd (e k h) (c.Hu h).2
  ·have:=c.kle;omega
 obtain⟨b,d⟩:=Ol f c g;refine⟨b,d,?_⟩;intro t v l;exact c.tmp t os.size nL (fun j o b _ _=>e j b) (fun j o b d _=>by have:=(Array.getElem?_eq_some_iff.1 d).1;omega) v l
def LA (b:Iy P call os F S r z 0)(m:os[k]? =some o){s:Stepped}(g:r k=some s):∀ c,o.op≠ .defer c:=by
 have f:Live os z k:=by
  apply Uh;intro h;rcases AH k z with e|e
  ·exact h (.inl e)
  ·rw[(b.bg k e h).1]at g;cases g
 rcases b.step k o (Af _) f m with⟨i,q,d,j,l,p⟩|⟨i,d,j,l⟩
 ·exact Ij d
 ·rw[g]at d;cases d
def qU {rd:Option Nat}(g:Ctx P A9 G n call os F S r z) (V:n<=a₀.tmps.size) (hG:CL O₀ G){Q:Exit->Act->World->Prop}{N:Nat}(Y:Cz O₀ (S 0).n N)
  (hp:z=os.size\/(z<os.size/\∃ o s,sY P call os F S z o s/\s.Z.n<=N/\∀ O' a' w' v',Rel A9 O' s.Z w'->AS O₀ (S 0) w₀ O' s.Z w'->J5 O' s.v v'->a'.tmps.size=a₀.tmps.size->a'.defers=a₀.defers->Q (bS v') a' w'))
  (hQ:z=os.size->∀ O' a' w',Rel A9 O' (S os.size) w'->AS O₀ (S 0) w₀ O' (S os.size) w'->HP O' (F os.size) a'->a'.tmps.size=a₀.tmps.size->a'.defers=a₀.defers->Q .normal a' w') :
  ∀ (fuel:Nat) (listed:Array Bool) (O:Place) (a:Act) (w:World) (k:Nat),listed.size=os.size->listed.toList.count false<=fuel ->
   Inv A9 os F S r z O₀ a₀ w₀ (fun j=>listed.getD j false=true) O a w k->wpAnyIn (FW rd) 0 P .any os Q fuel listed a w:=by
 have fin:∀ (listed:Array Bool) (O:Place) (a:Act) (w:World) (k:Nat),listed.size=os.size->Inv A9 os F S r z O₀ a₀ w₀ (fun j=>listed.getD j false=true) O a w k->Region.ready .any os listed=[]->Q .normal a w:=by
  intro listed O a w k C f p;have Fp:∀ i,i<os.size->listed.getD i false=true:=by
   intro i;induction i using Nat.strongRecOn with
   | _ i ih=>
     intro hi;apply Uh;intro hL;have dI:i∈Region.ready .any os listed:=by
      rw[Ui];refine⟨?_,os[i],Array.getElem?_eq_getElem hi,fun e he hb=>?_⟩
      ·rw[HU]at hL ⊢;rw[Array.getElem?_eq_getElem om]at hL ⊢
       simpa using hL
      ·have:=g.hD.Sp i os[i] e (Array.getElem?_eq_getElem hi) he hb;exact ih e.on this om
     rw[p]at dI;cases dI
  have H:z=os.size:=by
   rcases hp with H|⟨H,_⟩
   ·exact H
   ·exact absurd (Fp z H) (f.beyond z nL (by rintro(h|⟨h,_⟩)<;>omega))
  obtain⟨l,A,X⟩:=gw g f Fp;exact hQ H O a w l A X f.Iz f.Vb
 intro fuel;induction fuel with
 | zero=>
   intro listed O a w k C hc f;have p:Region.ready .any os listed=[]:=by
    apply AE6.2;intro i hi;rw[Ui]at hi;obtain⟨l,o,y,_⟩:=hi;have L:=(Array.getElem?_eq_some_iff.1 y).1;have:=Rz listed.toList om i (by rw[Pq];omega);rw[Array.getElem?_toList]at this;rw[HU,this]at l;cases l
   exact⟨p,fin listed O a w k C f p⟩
 | succ fuel ih=>
   intro listed O a w k C hc f;refine⟨fin listed O a w k C f,fun i hi=>?_⟩;rw[Ui]at hi;obtain⟨l,o,y,A⟩:=hi;have L:=(Array.getElem?_eq_some_iff.1 y).1;have SA:listed[i]? =some false:=by
    rw[HU,Array.getElem?_eq_getElem om]at l;rw[Array.getElem?_eq_getElem om]
    simpa using l
   have W:¬ listed.getD i false=true:=by rw[HU,SA];simp
   have hi:Rdy os (fun j=>listed.getD j false=true) i o:=⟨y,W,A⟩
   have KQ:(fun j=>(listed.setIfInBounds i true).getD j false=true)=fun j=>listed.getD j false=true\/j=i:=by
    funext j
    apply propext;by_cases hj:j=i
    ·subst hj;simp[HU,Array.getElem?_setIfInBounds_self_of_lt (show j<listed.size by omega)]
    ·rw[getD_set_ne false (fun h=>hj h.symm)];simp[hj]
   have go:∀ O' a' w' k',Inv A9 os F S r z O₀ a₀ w₀ (fun j=>listed.getD j false=true\/j=i) O' a' w' k'->wpAnyIn (FW rd) 0 P .any os Q fuel (listed.setIfInBounds i true) a' w':=by
    intro O' a' w' k' a4;refine ih _ O' a' w' k' (by simpa using C) ?_ (by rw[KQ];exact a4);have:=count_set listed.toList i (by rw[Array.getElem?_toList];exact SA);rw[AE7];omega
   have a7:Live os z i\/(i=z/\z<os.size/\∃ s,sY P call os F S z o s/\s.Z.n<=N/\∀ O' a' w' v',Rel A9 O' s.Z w'->AS O₀ (S 0) w₀ O' s.Z w'->J5 O' s.v v'->a'.tmps.size=a₀.tmps.size->a'.defers=a₀.defers->Q (bS v') a' w'):=by
    rcases hp with H|⟨H,o',s',X,h4⟩
    ·left;left;omega
    ·rcases bj i z with m|m|m
     ·exact .inl (.inl m)
     ·subst m;have:=X.ho;rw[y]at this;cases this;exact .inr ⟨rfl,H,s',X,h4⟩
     ·left;right;exact⟨m,L,fun hb=>f.beyond z nL (by rintro(h|⟨h,_⟩)<;>omega) (hi.bef f.down hb)⟩
   rcases a7 with u|⟨rfl,H,s,E,a8,a5⟩
   rotate_left
   ·unfold wpOpIn;rw[y];simp only;rw[z1z (f.RG g hi E.RG)];have R:=f.known g hi hG;have a2:k=os.size:=by
     rcases AH k os.size with m|m
     ·obtain⟨⟨s',j1,D⟩,j3⟩:=f.Hu m;have K:k<i:=by
       rcases AH k i with h|h
       ·exact h
       ·rw[(g.hch.late k s' h j1).1]at D;cases D
      have B:os[k]? =some os[k]:=Array.getElem?_eq_getElem m;obtain⟨_,j5,_,_⟩:=CC g.hC g.hch B j1;have j6:DQ os[k].op=true:=by
       cases j5 with
       |eff h'=>exact h'.2.1
       |pure _=>cases D
       |new _=>cases D
       |read _=>cases D
       |pan _=>cases D
      exact absurd (hi.bef f.down (g.hD.eff k i os[k] o K B y j6 E.eff)) j3
     ·have:=f.kle;omega
    obtain⟨I,J⟩:=Ol g f a2;have U:S os.size=S i:=RY g.hC g.hch om nL;have Kc:Cz O (S i).n N:=by
     intro b l A;rw[f.ext b (.inr (by rw[U];exact l))];have:=(J7 g.hC g.hch (i:=0) (j:=i) (Af _) om).n;exact Y b om A
    rw[U]at I J;have a6:=Ik g.hC E.step;obtain⟨v,Z',d⟩:=s;have M:=E.pan;change d= .pan at M;subst M;cases a6 with
    | pan h=>
      refine h.2 O a w N R I Kc a8 (hG.mono f.le) _ _ _ fun v' w' O' q1 q2 q3=>?_;exact a5 O' a w' v' q1 (J.trans q2) q3 f.Iz f.Vb
   unfold wpOpIn;rw[y];simp only;cases p:r i with
   | none=>
     obtain⟨g1,g2,_⟩:=Iq g.hch u y p;rw[z0z (by rw[f.RG g hi g1];simp)];exact⟨fun _ _=>trivial,go _ _ _ _ (f.quiet g hi u V g2 (.tuple .nil) fun⟨s,h,_⟩=>by rw[p]at h;cases h)⟩
   | some s=>
     obtain⟨g1,g2,g3,g4⟩:=CC g.hC g.hch y p;rw[z1z (f.RG g hi g1)];have M:∀ c,o.op≠ .defer c:=LA g.hch y p;have R:=f.known g hi hG;cases g2 with
     | @pure v h=>
       obtain⟨v',I,J⟩:=h O a.eval w R;refine Ba M ?_;rw[I,Oper.uponIn_value];exact go _ _ _ _ (f.quiet g hi u V g3 J fun⟨s,l,A⟩=>by rw[p]at l;cases l;cases A)
     | @read v b h=>
       obtain⟨⟨cs,b0⟩,h⟩:=h;obtain⟨_,h⟩:=h O a.eval w R;obtain⟨v',I,J⟩:=h fun q a9 hq a0=>f.YO g hi p rfl a0 hq;refine Ba M ?_;rw[I,Oper.uponIn_value];exact go _ _ _ _ (f.quiet g hi u V g3 J fun⟨s,l,A⟩=>by rw[p]at l;cases l;cases A)
     | @new cs vf t h=>
       obtain⟨w',v',arr,el,lo,b1,vs,more,I,J,e3,e4,e5,e6,e7,e8,e9,et,a3⟩:=h O a.eval w R;refine Ba M ?_;rw[I,Oper.uponIn_value];exact go _ _ _ _ (f.new g hi u V g3 g4 (fun⟨s,l,A⟩=>by rw[p]at l;cases l;cases A) J e3 e4 e5 e6 e7 e8 e9 et fun O' hq=>a3 O' _ hq)
     | @eff v Z' h=>
       have a1:CX r i:=⟨_,p,rfl⟩
       have K:k=i:=by
        rcases bj k i with m|m|m
        ·obtain⟨⟨s',j1,D⟩,j3⟩:=f.Hu om;have B:os[k]? =some os[k]:=Array.getElem?_eq_getElem om;obtain⟨_,j5,_,_⟩:=CC g.hC g.hch B j1;have j6:DQ os[k].op=true:=by
          cases j5 with
          |eff h'=>exact h'.2.1
          |pure _=>cases D
          |new _=>cases D
          |read _=>cases D
          |pan _=>cases D
         exact absurd (hi.bef f.down (g.hD.eff k i os[k] o m B y j6 h.2.1)) j3
        ·exact m
        ·exact absurd (f.bh i m a1) W
       subst K;obtain⟨hR,Y⟩:=gv g f L;change S (k+1)=Z' at g4;subst g4;obtain⟨k',m1,m2,m3,m4⟩:=Mv r os.size (os.size-(k+1)) (k+1) om;refine h.2.2 O a w _ R hR Y nL (hG.mono f.le) _ _ _ fun v' w' O' q1 q2 q3=>?_;exact go _ _ _ k' (f.effect g hi u V g3 q1 q2 (q2.le Y nL) q3 om m2 (fun j x1 x2=>m3 j om x2) m4)
     |pan h=>exact absurd rfl (g.hch.np i _ (Af _) p)
end
/- The check, once, on the text. -/
def lj:∀ {l:List Operand},Operand.tmp t∈l->Nat.testBit (IC l) t=true:=by
 intro l;induction l with
 |nil=>intro h;simp at h
 | cons x l ih=>
   intro h;show Nat.testBit (AE8 x ||| IC l) t=true;rw[ZP,II];rcases V9.1 h with rfl|h
   ·left;show Nat.testBit (2 ^ t) t=true;simp
   ·exact .inr (ih h)
def sZ {os:Array Oper}(h:Rd os o t):Nat.testBit (Nat.lor (IC o.op.operands.toList) (JB os o)) t=true:=by
 show Nat.testBit (IC o.op.operands.toList ||| JB os o) t=true;rw[ZP,II];rcases h with h|⟨j,b,c,d⟩
 ·exact .inl (lj h)
 ·right;unfold JB;rw[c];simp[d]
def WE (h:o.dst=some t):Nat.testBit (ID o) t=true:=by unfold ID;rw[h];simp
def gx {a b t:Nat}(e:Nat.testBit a t=true) (f:Nat.testBit b t=true):Nat.beq (Nat.land a b) 0=false:=by
 rw[Tj];intro h;have c:=Ac h;have d:Nat.testBit (a &&& b) t=true:=by rw[Nat.testBit_and,e,f];rfl
 change a &&& b=0 at c;rw[c]at d;simp at d
def Zd {os:Array Oper}:∀ (l:List Oper) (bs:List Nat) (j:Nat) (prev:List sd),WG os l bs j prev=true->os.toList.drop j=l->(Region.before os).toList.drop j=bs ->
  (∀ i o,i<j->os[i]? =some o->⟨i,ID o,Nat.lor (IC o.op.operands.toList) (JB os o),DQ o.op⟩∈prev) ->
  ∀ k o,j<=k->os[k]? =some o->(∀ e∈o.after,Region.binds .any e=true->e.on<k)/\∀ i oi,i<k->os[i]? =some oi->((DQ oi.op=true/\DQ o.op=true)\/AE9 os oi o)->Bef os i k:=by
 intro l;induction l with
 | nil=>
   intro bs j prev _ m _ _ k o Q g;have:=congrArg List.length m;simp at this;have:=(Array.getElem?_eq_some_iff.1 g).1;omega
 | cons x l ih=>
   intro bs j prev h m H I k o Q g;cases bs with
   |nil=>cases h
   | cons b bs=>
     have J:os[j]? =some x:=by
      have:=congrArg (fun l:List Oper=>l[0]?) m
      simpa using this
     have u:(Region.before os).toList.getD j 0=b:=by
      have:=congrArg (fun l:List Nat=>l[0]?) H;rw[List.getD_eq_getElem?_getD];simp only[List.getElem?_drop,Be,List.getElem?_cons_zero]at this;rw[this];rfl
     unfold WG at h;rw[T1,T1]at h;obtain⟨D,E,M⟩:=h;by_cases B:k=j
     ·subst B;rw[J]at g;cases g;rw[GH]at D E;refine⟨fun e N s=>?_,fun i oi A C v=>?_⟩
      ·have:=D e (by simpa using N);unfold se at this;rw[s]at this;simp[EJ]at this;exact this
      ·have f:=E _ (I i oi A C);change bi (Nat.beq (Nat.land (ID oi) (Nat.lor (ID x) (Nat.lor (IC x.op.operands.toList) (JB os x)))) 0&&(Nat.beq (Nat.land (ID x) (Nat.lor (IC oi.op.operands.toList) (JB os oi))) 0&& !(DQ x.op&&DQ oi.op))) true (Nat.testBit b i)=true at f;have p:(Nat.beq (Nat.land (ID oi) (Nat.lor (ID x) (Nat.lor (IC x.op.operands.toList) (JB os x)))) 0&&(Nat.beq (Nat.land (ID x) (Nat.lor (IC oi.op.operands.toList) (JB os oi))) 0&& !(DQ x.op&&DQ oi.op)))=false:=by
        rcases v with⟨K,L⟩|⟨t,⟨q,c⟩|⟨q,c⟩⟩
        ·rw[K,L];simp
        ·have:Nat.testBit (Nat.lor (ID x) (Nat.lor (IC x.op.operands.toList) (JB os x))) t=true:=by
          show Nat.testBit (ID x ||| Nat.lor (IC x.op.operands.toList) (JB os x)) t=true;rw[ZP,II];rcases c with c|c
          ·exact .inl (WE c)
          ·exact .inr (sZ c)
         rw[gx (WE q) this];rfl
        ·rw[gx (WE q) (sZ c)];simp
       rw[p]at f;show Nat.testBit ((Region.before os).toList.getD k 0) i=true;rw[u];exact f
     ·refine ih bs (j+1) _ M (by rw[<- Ph,m];rfl) (by rw[<- Ph,H];rfl) (fun i R hi d=>?_) k o om g;by_cases y:i=j
      ·subst y;rw[J]at d;cases d;simp
      ·exact Ci _ (I i R om d)
def Oe {os:Array Oper}(h:JV os=true):bf os:=by
 have key:=Zd os.toList (Region.before os).toList 0 [] h rfl rfl (fun i o hi _=>om)
 exact⟨fun i o e s q m=>(key i o (Af _) s).1 e q m,fun i j d f b hi c g l=>(key j f (Af _) c).2 i d b hi (.inl ⟨g,l⟩),
  fun i j d f b hi c p=>(key j f (Af _) c).2 i d b hi (.inr p)⟩
end
section
variable {O:Place}{Z:St}{w:World}{fr:Fr}{a:Act}
def ExR (O:Place) (o:Out) (e:Exit):Prop:=match o with
 | .normal=>e= .normal
 | .exit i=>e= .exit i
 | .ret=>e= .ret
 | .pan v=>∃ v',e=bS v'/\J5 O v v'
noncomputable def codeOk (P:Program) (n G:Nat) (c:Code):Bool :=
 Code.rec (motive:=fun _=>Bool) true
  (fun _ os d=>bi (os.toList.all (Ay P n G)) (bi d (bi (Dd os.toList) true (JV os)) true) false)
  (fun _ _ a b=>bi a b false)
  (fun c _ _ a b=>bi (LZ G c) (bi a b false) false)
  (fun _ _ a=>a) (fun _ a=>a) (fun f e _ _ a b=>bi (LZ G f) (bi (e.toList.all fun p=>Nat.blt p n) (bi a b false) false) false) (fun _=>true) (fun _ a=>a) (fun _=>true) (fun _=>true) true (fun _=>true) c
noncomputable def VC (P:Program) (G:Nat) (b:Func):Bool :=
 bi (b.name== "runtime.NumGoroutine") false (Option.rec (motive:=fun _=>Bool) true (fun c=>codeOk P b.ntmps G c) b.body)
noncomputable def GK (P:Program) (H:EP) (G:Nat) (l:List Func):Nat->Bool :=
 List.rec (motive:=fun _=>Nat->Bool) (fun _=>true) (fun b _ c k=>bi (bi (H k).isSome true (VC P G b)) (c (k+1)) false) l
def Y5 {c x:Bool}(h:bi c x false=true):c=true/\x=true:=by
 cases c with
 |false=>cases h
 |true=>exact⟨rfl,h⟩
def Ww {P:Program}{H:EP}{G:Nat}:∀ {l:List Func}{k:Nat},GK P H G l k=true->∀ (i:Nat) (fn:Func),l[i]? =some fn->H (k+i)=none->VC P G fn=true:=by
 intro l;induction l with
 |nil=>intro k _ i fn h;simp at h
 | cons x l ih=>
   intro k h i fn b d;obtain⟨c,e⟩:=Y5 (show bi (bi (H k).isSome true (VC P G x)) (GK P H G l (k+1)) false=true from h);cases i with
   | zero=>
     simp at b;subst b;rw[show H k=none from d]at c;exact c
   |succ i=>exact ih e i fn (by simpa using b) (by rw[show k+1+i=k+(i+1)from by omega];exact d)
def Marks (_lo:Nat) (_w:World) (c b:List Deferred):Prop:=b=c
def Marks.nil (lo:Nat) (w:World) (b:List Deferred):Marks lo w b b:=rfl
def Marks.qR {A9:Env}{lo:Nat}{d:Place}{Z':St}{w':World}{c b:List Deferred}(e:Marks lo w c b) (_:Rel A9 O Z w) (_:AS O Z w d Z' w'):Marks lo w' c b:=e
section
variable {P:Program}{A9:Env}{G:Nat}
/- Ax3. -/
def Zx {t:TypeId}{p j v:Value}(f:Rel A9 O Z w) (r:J5 O p j) (h:Od P Z t p=some v):∃ ad v',j= .pointer (some ad)/\(loadVar t ad).run P w= .ok v' w/\J5 O v v':=by
 obtain⟨⟨b,off⟩,l,c⟩:=A8 h;obtain⟨q,hq,hx⟩:=Lk r l;obtain⟨g,h4,h5⟩:=A8 (show ob (Lu P t) _=some v from c);have i:=Vv h4 w;cases g with
 | true=>
   obtain⟨n,m,o⟩:=A8 (show ob (size? P t) _=some v from h5);obtain⟨cs,d,e⟩:=A8 o;cases e;obtain⟨B,h10,h11⟩:=W2 d;obtain⟨vs,k1,c,k3⟩:=(f.row b q B hq h10).read (P:=P) h11;refine⟨_,.agg vs.toArray,hx,?_,.agg k3 c⟩;simp only[Sem.run_bind,Sem.run_pure,Result.andThen_ok,loadVar,i,FU,Bh m,k1]
 | false=>
   obtain⟨cs,d,e⟩:=A8 (show ob (Z.read b off 1) _=some v from h5);obtain⟨B,h10,h11⟩:=W2 d;obtain⟨v',k1,c⟩:=(f.row b q B hq h10).one (P:=P) h11 e;refine⟨_,v',hx,?_,c⟩;simp only[Sem.run_bind,Result.andThen_ok,loadVar,i,JM,HZ,k1]
def dt (j:Rel A9 O Z w) (e:HP O fr a):∀ (l:List ResultVar) (vs:List Value),IX P fr Z l=some vs ->
  ∃ vs',(l.mapM (fun r=>match r with| .tmp t=>pure (a.tmps.getD t undef)| .cell x t=>do loadVar t (<- asAddr (a.tmps.getD x undef)):ResultVar->Sem Value)).run P w= .ok vs' w/\H8 O vs vs':=by
 intro l;induction l with
 |nil=>intro vs h;cases h;exact⟨[],rfl,.nil⟩
 | cons x l ih=>
   intro vs h;obtain⟨v,d,f⟩:=A8 (show ob (Ap1 P fr Z x) (fun v=>ob (IX P fr Z l) fun vs=>some (v::vs))=some vs from h);obtain⟨us,h3,h4⟩:=A8 f;cases h4;obtain⟨us',g1,g2⟩:=ih us h3;cases x with
   | tmp t=>
     obtain⟨v',b,c⟩:=e t v d;refine⟨v'::us',?_,.cons c g2⟩;have:a.tmps.getD t undef=v':=by rw[HU,b];rfl
     rw[nG];simp only[Sem.run_bind,Sem.run_pure,Result.andThen_ok,this];rw[g1];rfl
   | cell x t=>
     obtain⟨p,g,i⟩:=A8 (show ob (fr.get x) (fun p=>Od P Z t p)=some v from d);obtain⟨p',b,c⟩:=e x p g;obtain⟨ad,v',rfl,k4,k5⟩:=Zx (P:=P) j c i;refine⟨v'::us',?_,.cons k5 g2⟩;have:a.tmps.getD x undef= .pointer (some ad):=by rw[HU,b];rfl
     rw[nG];have m:(do loadVar t (<- asAddr (a.tmps.getD x undef)):Sem Value).run P w= .ok v' w:=by
      rw[Sem.run_bind,this];exact k4
     rw[Sem.run_bind]
     refine(congrArg (fun r:Result Value=>r.andThen fun v w'=>Sem.run P (do
      let vs <- l.mapM (fun r=>match r with| .tmp t=>pure (a.tmps.getD t undef)| .cell x t=>do loadVar t (<- asAddr (a.tmps.getD x undef)):ResultVar->Sem Value)
      pure (v::vs)) w') m).trans ?_
     simp only[Result.andThen_ok,Sem.run_bind];rw[g1];rfl
def HO {d:Func}(g:Rel A9 O Z w) (i:HP O fr a){vs:List Value}(h:IX P fr Z d.results.toList=some vs):
  ∃ v',(results d a.tmps).run P w= .ok v' w/\J5 O (tup vs) v':=by
 obtain⟨vs',e,b⟩:=dt (P:=P) g i _ _ h;refine⟨if h:vs'.toArray.size=1 then vs'.toArray[0]else .tuple vs'.toArray,?_,?_⟩
 ·unfold results;rw[Sem.run_bind,AA1,Sem.run_map];exact(congrArg (fun r:Result (List Value)=>(r.andThen fun a w'=>Result.ok a.toArray w').andThen fun vs w'=>Sem.run P (pure (if h:vs.size=1 then vs[0]else .tuple vs)) w') e)
 ·cases b with
  |nil=>exact .tuple .nil
  | cons b c=>
    cases c with
    |nil=>exact b
    |cons c f=>exact .tuple (.cons b (.cons c f))
def Wx:∀ (vs:List Value) (k:Nat) (fr:Fr) (t:Nat),(Fq vs k fr).get t=if k<=t/\t<k+vs.length then vs[t-k]? else fr.get t:=by
 intro vs;induction vs with
 |nil=>intro k fr t;rw[z0z (by simp only[Hf];omega)];rfl
 | cons v vs ih=>
   intro k fr t;show(Fq vs (k+1) (fr.set k v)).get t=_;rw[ih,Tr.N4];simp only[AG];by_cases b:k+1<=t/\t<k+1+vs.length
   ·rw[z1z b,z1z om,show t-k=(t-(k+1))+1 from by omega];simp
   ·rw[z0z b];by_cases c:t=k
    ·subst c;rw[z1z rfl,z1z om];simp
    ·rw[z0z c,z0z om]
end
end
section
variable {P:Program}{A9:Env}{G:Nat}
def jC (A9:Env) (lo:Nat) (c:List Deferred) (O:Place) (Z:St) (w:World) (a:Act) (b:Res) (Q:Exit->Act->World->Prop):Prop :=
 ∀ e a' w' O',ExR O' b.o e->Rel A9 O' b.Z w'->AS O Z w O' b.Z w'->HP O' b.fr a'->a'.tmps.size=a.tmps.size->Marks lo w' c a'.defers->Q e a' w'
def jB (O:Place) (d a:Option Nat):Prop:=match d with
 |none=>a=none
 |some b=>∃ q,O b=some q/\a=some q.c
def jB.mono {O c:Place}{a d:Option Nat}(g:O.le c) (h:jB O a d):jB c a d:=by
 cases a with
 |none=>exact h
 |some b=>obtain⟨q,e,f⟩:=h;exact⟨q,g _ _ e,f⟩
def QD (P:Program) (A9:Env) (G:Nat) (run:RunT):Prop :=
 ∀ rd c fr Z res,run rd c fr Z=some res->Adv Z res.Z/\∀ n,codeOk P n G c=true->∀ lo tl O a w N rl,lo<=w.heap.size->Rel A9 O Z w->Cz O Z.n N->res.Z.n<=N->HP O fr a->n<=a.tmps.size->Marks lo w tl a.defers->CL O G->jB O rd rl ->
  ∀ Q:Exit->Act->World->Prop,jC A9 lo tl O Z w a res Q->c.wpIn (FW rl) 0 P Q a w
def jD {call:W8}(hC:BW P A9 G call){os:Array Oper}{n:Nat}:∀ (l:List Oper) (fr:Fr) (Z:St) (res:Res),opsV P call os l fr Z=some res ->
  Adv Z res.Z/\((∀ o∈l,Ay P n G o=true)->∀ lo tl O a w N rl,Rel A9 O Z w->Cz O Z.n N->res.Z.n<=N->HP O fr a->n<=a.tmps.size->Marks lo w tl a.defers->CL O G ->
   ∀ Q:Exit->Act->World->Prop,jC A9 lo tl O Z w a res Q->wpListIn (FW rl) 0 P os Q l a w):=by
 intro l;induction l with
 | nil=>
   intro fr Z res h;cases h;exact⟨.refl _,fun _ lo tl O a w N rl f p A i I H u Q E=>E .normal a w O rfl f (.refl _ _ _) i rfl H⟩
 | cons o l ih=>
   intro fr Z res h;obtain⟨c,hw,Y⟩:=A8 (show ob (U9 os fr o) (fun c=>bi c (ob (step P call fr Z o) fun r=>Stepped.rec (motive:=fun _=>Option Res) (fun v Z d=>OZ d (opsV P call os l (I5 fr o.dst v) Z) (some ⟨.pan v,fr,Z⟩)) r) (opsV P call os l (I5 fr o.dst R7) Z))=some res from h);have C:(∀ o'∈o::l,Ay P n G o'=true)->Ay P n G o=true:=fun m=>m o (by simp);have qQ:(∀ o'∈o::l,Ay P n G o'=true)->∀ o∈l,Ay P n G o=true:=fun m o ho=>m o (by simp[ho]);cases c with
   | false=>
     change opsV P call os l (I5 fr o.dst R7) Z=some res at Y;obtain⟨U,g2⟩:=ih _ _ _ Y;refine⟨U,fun m lo tl O a w N rl f p A i I H u Q E=>?_⟩;have g:=C m;have g2:=g2 (qQ m);have L:=KG (a:=a) (O:=O) hw fun j B t _ _ v z=>i t v z;unfold wpListIn;rw[z0z (by rw[L];simp)];refine⟨fun _ _=>trivial,g2 lo tl O _ w N rl f p A (i.put (.tuple .nil) fun t ht=>z5z (RH g t ht) I) (by rw[EZ];exact I) (by rw[put_defers];exact H) u Q fun e a' w' s q0 q1 q2 q3 q4 q5=>E e a' w' s q0 q1 q2 q3 (by rw[q4,EZ]) q5⟩
   | true=>
     obtain⟨⟨v,Z1,d⟩,h2,V⟩:=A8 (show ob (step P call fr Z o) _=some res from Y);have F:=Ik hC h2;have J:=Ij h2;by_cases y:d= .pan
     ·subst y;cases V;cases F with
      | pan h=>
        refine⟨h.1,fun m lo tl O a w N rl f p A i I H u Q E=>?_⟩;have g:=C m;have L:=KG (a:=a) (O:=O) hw fun j B t _ _ v z=>i t v z;have K:P9 O fr a.eval o.op.operands.toList:=RF u g fun t _ v z=>i t v z;unfold wpListIn;rw[z1z L];refine h.2 O a w N K f p A u _ _ _ fun v' w' s q1 q2 q3=>?_;exact E _ a w' s ⟨v',rfl,q3⟩ q1 q2 (i.mono (q2.le p A)) rfl (H.qR f q2)
     ·have V:opsV P call os l (I5 fr o.dst v) Z1=some res:=by
       cases d with
       |pan=>exact absurd rfl y
       |_=>exact V
      obtain⟨U,g2⟩:=ih _ _ _ V;have pY:Adv Z Z1:=by
       cases F with
       |pure h=>exact .refl _
       |new h=>exact .new _ _ _
       |read h=>exact .refl _
       |eff h=>exact h.1
       |pan h=>exact absurd rfl y
      refine⟨pY.trans U,fun m lo tl O a w N rl f p A i I H u Q E=>?_⟩;have g:=C m;have g2:=g2 (qQ m);have L:=KG (a:=a) (O:=O) hw fun j B t _ _ v z=>i t v z;have K:P9 O fr a.eval o.op.operands.toList:=RF u g fun t _ v z=>i t v z;have D:Z1.n<=N:=W5 U.n A;unfold wpListIn;rw[z1z L];have go:∀ v' w' s,Rel A9 s Z1 w'->AS O Z w s Z1 w'->J5 s v v'->wpListIn (FW rl) 0 P os Q l (a.put o.dst v') w':=by
       intro v' w' s q1 q2 q3;have S:=q2.le p D;refine g2 lo tl s _ w' N rl q1 (q2.free p) A ((i.mono S).put q3 fun t ht=>z5z (RH g t ht) I) (by rw[EZ];exact I) (by rw[put_defers];exact H.qR f q2) (u.mono S) Q fun e a' a1 W p0 p1 p2 p3 p4 p5=>E e a' a1 W p0 p1 (q2.trans p2) p3 (by rw[p4,EZ]) p5
      cases F with
      | pure h=>
        obtain⟨v',M,R⟩:=h O a.eval w K;refine Ba J ?_;rw[M,Oper.uponIn_value];exact go _ _ _ f (.refl _ _ _) R
      | @read _ b h=>
        obtain⟨v',M,R⟩:=(h.2 O a.eval w K).2 fun q cs hq a0=>f.seg hq a0;refine Ba J ?_;rw[M,Oper.uponIn_value];exact go _ _ _ f (.refl _ _ _) R
      | @new cs vf t h=>
        obtain⟨w',v',arr,el,a3,a2,vs,more,M,R,e3,e4,e5,e6,e7,e8,e9,et,X⟩:=h O a.eval w K;refine Ba J ?_;rw[M,Oper.uponIn_value];obtain⟨k1,k2⟩:=f.new (p Z.n nL (z5z (JQ _) D)) R e3 e4 e5 e6 e7 ⟨vs,more,e8,e9⟩ et;exact go _ _ _ k1 k2 (X _ _ (Place.S9 _ _ _))
      |eff h=>exact h.2.2 O a w N K f p D u _ _ _ go
      |pan h=>exact absurd rfl y
def AS.drew {O a:Place}{Z Z':St}{w w':World}(h:AS O Z w.drew a Z' w'):AS O Z w a Z' w' :=
 ⟨h.ext,h.n,h.size,h.I4,h.owned,⟨h.out.os,h.out.tape,h.out.output⟩,h.same⟩
def Wy (hm:P.follows .mixedOrders=true){call:W8}(m:BW P A9 G call){os:Array Oper}{n id:Nat}{fr:Fr}{Z:St}{c:FST}(h:K7 P call os os.toList 0 fr Z []=some c)
  (hr:Ai (Region.before os).toList c.ds c.ds=true) :
  Adv Z c.Z/\((∀ o∈os.toList,Ay P n G o=true)->JV os=true->∀ lo tl O a w N rl,Rel A9 O Z w->Cz O Z.n N->c.Z.n<=N->HP O fr a->n<=a.tmps.size->Marks lo w tl a.defers->CL O G ->
   ∀ Q:Exit->Act->World->Prop,jC A9 lo tl O Z w a ⟨qS c.p,c.fr,c.Z⟩ Q->(Code.region id os true).wpIn (FW rl) 0 P Q a w):=by
 obtain⟨F,S,r,z,_,f1,y,I,l,f6,f7⟩:=Yn os.toList 0 fr Z [] c rfl (Af _) h;have RC:Adv (S os.size) c.Z:=by
  rcases I with⟨_,_,_,g4⟩|⟨E,_,o,s,g3,_,g5⟩
  ·rw[g4];exact .refl _
  ·rw[RY (A9:=A9) (G:=G) m l (Nat.le_of_lt E) nL,g5];have a0:=Ik (A9:=A9) (G:=G) m g3.step;obtain⟨v,Z',d⟩:=s;have U:=g3.pan;change d= .pan at U;subst U;cases a0 with
   |pan h=>exact h.1
 refine⟨by rw[<- y];exact(J7 m l (Af _) nL).trans RC,fun Ji hD lo tl O a w N rl R hF hN qT hn U hG Q Y=>?_⟩;have hO:∀ (i:Nat) (o:Oper),os[i]? =some o->Ay P n G o=true:=fun i o ho=>Ji o (by rw[<- Array.getElem?_toList]at ho;exact y6 ho);have hX:Ctx P A9 G n call os F S r z:=by
  refine⟨m,hO,Oe hD,l,?_,by rw[y];exact R.fresh⟩;intro i b j s s' e f H L hi hj;rcases US hr ((f7 i s (Af _) hi e).1 b f) ((f7 j s' (Af _) hj H).2 L)with A|A
  ·left;change bi (Nat.testBit ((Region.before os).toList.getD j 0) i) true (Nat.testBit ((Region.before os).toList.getD i 0) j)=true at A;cases D:Nat.testBit ((Region.before os).toList.getD j 0) i with
   |true=>exact .inl D
   |false=>rw[D]at A;exact .inr A
  ·right;intro W;rcases A W with C|C
   ·rcases(Gj m l hj).1.ver b.b W with h7|h7
    ·exact(RZ h7).symm
    ·omega
   ·exact C
 refine wpIn_region_any hm ?_;obtain⟨k,m1,X,m3,m4⟩:=Mv r os.size os.size 0 om;have u:Rel A9 O Z w.drew:=R.heap rfl;have K:∀ j,¬ (Array.replicate os.size false).getD j false=true:=by
  intro j;rw[HU,Array.getElem?_replicate];split<;>simp
 have a3:(S os.size).n<=c.Z.n:=RC.n;refine qU (O₀:=O) (a₀:=a) (w₀:=w.drew) hX hn hG (Q:=Q) (N:=N) (by rw[y];exact hF) ?_ (fun a4 O' a' w' q1 q2 q3 q4 q5=>?_) os.size _ O a w.drew k (by simp) (by simp) ?_
 ·rcases I with⟨E,_⟩|⟨E,g2,o,s,g3,g4,g5⟩
  ·exact .inl E
  ·refine .inr ⟨E,o,s,g3,by rw[<- g5];exact hN,fun O' a' w' v' q1 q2 q3 q4 q5=>?_⟩;rw[<- g5]at q1 q2;rw[y]at q2;rw[g4]at Y;refine Y (bS v') a' w' O' ⟨v',rfl,q3⟩ q1 q2.drew ?_ q4 (by rw[q5];exact U.qR R q2.drew);rw[g2];intro t v ht;rw[Tr.get_nil]at ht;cases ht
 ·rcases I with⟨_,a1,f3,f4⟩|⟨E,_⟩
  rotate_left
  ·omega
  rw[a1]at Y;rw[f4]at q1 q2;rw[y]at q2;rw[f3]at q3;exact Y .normal a' w' O' rfl q1 q2.drew q3 q4 (by rw[q5];exact U.qR R q2.drew)
 ·have a2:=R.fresh;have nk:=(J7 m l (i:=0) (j:=k) (Af _) X).n;have sm:∀ b,b<(S 0).n->(S k).h.get b=(S 0).h.get b:=fun b D=>FE m l D (Af _) X fun j _ f H=>absurd H (m3 j (Af _) f);have J:∀ b q,O b=some q->b<(S 0).n\/c.Z.n<=b:=by
   intro b q D;rcases AH b (S 0).n with hh|hh
   ·exact .inl hh
   ·rcases AH b c.Z.n with V|V
    ·rw[hF b (by rw[<- y];exact hh) om]at D;cases D
    ·exact .inr V
  have g:∀ b q B,O b=some q->Cf os S k b B->Z.blk b=some B:=by
   intro b q B D M;have h0:b<(S 0).n:=by
    rcases J b q D with h|h
    ·exact h
    ·rcases M with⟨e,_⟩|⟨j,_,f,_,H,_⟩
     ·have:=(J7 m l (i:=k) (j:=os.size) X nL).n;omega
     ·have:=(J7 m l (i:=j+1) (j:=os.size) om nL).n;omega
   rcases M with⟨e,f⟩|⟨j,E,g2,g3,g4,g5⟩
   ·rw[<- y];show ob ((S 0).h.get b) _=_;rw[<- sm b h0];exact f
   ·have:=(J7 m l (i:=0) (j:=j) (Af _) om).n;omega
  refine⟨X,fun j e f=>absurd f (m3 j (Af _) e),fun h=>⟨m4 h,K k⟩,fun j _ _ _=>K j,fun j h=>absurd h (K j),fun _ _=>rfl,?_,Place.le_refl _,?_,rfl,rfl,
   fun b q B e f=>u.KV b q B e (g b q B e f),u.dom,fun b q B e f H=>u.own b q B e (g b q B e f) H,?_,u.low,AP _,fun _ _ _=>rfl,?_,.refl _,fun b e _=>sm b e,fun j _ _=>K j,?_⟩
  ·intro i hi _ b e f;have E:=(J7 m l (i:=0) (j:=i) (Af _) om).n;have g2:=(J7 m l (i:=i+1) (j:=os.size) om nL).n;exact hF b (by rw[<- y];omega) om
  ·intro t i hi e f v hv;have hz:(F i).get t=(F 0).get t:=RE l (Af _) hi fun j o _ L A C=>K j (e j o L A C);rw[hz,f1]at hv;exact qT t v hv
  ·intro b q B b' q' e f H L A C;refine u.sep b q B b' q' e (g b q B e f) H L A ?_;rcases C with C|⟨B',C⟩
   ·have:=(J7 m l (i:=0) (j:=os.size) (Af _) nL).n;rw[y]at this;exact .inl om
   ·exact .inr ⟨B',g b' q' B' A C⟩
  ·intro b q B e f _;exact⟨b,q,B,e,rfl,by rw[y];exact g b q B e f,fun h=>h⟩
  ·intro i hi _ b e f;exact FE m l f om X fun j _ g2 g3=>absurd g3 (m3 j (Af _) g2)
end
end Go.Ab
namespace Go.Ab
open Go Go.MapKept
section
variable {cs:List Value}{t m:Nat}{v u:Value}{x:Operand}
def yJ {o:Oper}{ty:TypeId}(h:AR9 o=some (t,ty)):o.dst=some t/\o.op= .makeMap ty none:=by
 unfold AR9 at h;split at h
 ·rename_i b;split at h
  ·rename_i c;cases h;exact⟨b,c⟩
  ·cases h
 ·cases h
def ZR {o:Oper}{ty:TypeId}{k:Value}(h:gf o=some (m,ty,k,v)):o.dst=none/\o.op= .insert ty (.tmp m) (.const k) (.const v):=by
 unfold gf at h;split at h
 ·rename_i b;split at h
  ·rename_i c;cases h;exact⟨b,c⟩
  ·cases h
 ·cases h
def sE {o:Oper}{d:Nat}(h:sF o=some (d,m)):o.dst=some d/\o.op= .move (.tmp m):=by
 unfold sF at h;split at h
 ·rename_i b;split at h
  ·rename_i c;cases h;exact⟨b,c⟩
  ·cases h
 ·cases h
def yK {o:Oper}{k:Nat}{ty:TypeId}(h:AS0 o=some (m,ty,k)):o.op= .lookup ty (.tmp m) (.tmp k) false:=by
 unfold AS0 at h;split at h
 ·rename_i b;cases h;exact b
 ·cases h
def sG {o:Oper}{i:Nat}(h:DS o i=true):∃ e∈o.after,Region.binds .any e=true/\e.on=i:=by
 unfold DS at h;rw[oW]at h;obtain⟨e,c,b⟩:=h;rw[T1]at b;exact⟨e,by simpa using c,b.1,Ac b.2⟩
structure Head (l:List Oper) (g:Gh) (a0 a1 a2 a3 a4 a5 a6 a7 a8:Oper) (H4:List Oper):Prop where
 eq:l=a0::a1::a2::a3::a4::a5::a6::a7::a8::H4
 d2:a2.dst=some g.tm
 o2:a2.op= .makeMap g.ty none
 d3:a3.dst=none
 o3:a3.op= .insert g.ty (.tmp g.tm) (.const g.k1) (.const g.v1)
 d4:a4.dst=none
 o4:a4.op= .insert g.ty (.tmp g.tm) (.const g.k2) (.const g.v2)
 d5:a5.dst=some g.tv
 o5:a5.op= .move (.tmp g.tm)
 o8:a8.op= .lookup g.ty (.tmp g.tv) (.tmp g.key) false
 e32:DS a3 2=true
 e42:DS a4 2=true
 e53:DS a5 3=true
 e54:DS a5 4=true
 e85:DS a8 5=true
def xT {l:List Oper}{g:Gh}(h:pG l=some g):∃ a0 a1 a2 a3 a4 a5 a6 a7 a8 H4,Head l g a0 a1 a2 a3 a4 a5 a6 a7 a8 H4:=by
 unfold pG at h;split at h
 ·rename_i a0 a1 a2 a3 a4 a5 a6 a7 a8 H4;obtain⟨⟨c,ty⟩,b,h⟩:=A8 h;obtain⟨⟨m3,t3,k1,v1⟩,h3,h⟩:=A8 h;obtain⟨⟨m4,t4,k2,v2⟩,h4,h⟩:=A8 h;obtain⟨⟨tv,m5⟩,h5,h⟩:=A8 h;obtain⟨⟨m8,t8,key⟩,h8,h⟩:=A8 h;obtain⟨hb,h⟩:=J4 h;cases h;simp only[T1]at hb;obtain⟨b1,b2,b3,b4,b5,b6,b7,b8,b9,b10,b11,b12⟩:=hb;obtain rfl:=Ac b1;obtain rfl:=Ac b2;obtain rfl:=Ac b3;obtain rfl:=Ac b4;obtain rfl:=Ac b5;obtain rfl:=Ac b6;obtain rfl:=Ac b7;obtain⟨q1,q2⟩:=yJ b;obtain⟨q3,q4⟩:=ZR h3;obtain⟨q5,q6⟩:=ZR h4;obtain⟨q7,q8⟩:=sE h5;exact⟨_,_,_,_,_,_,_,_,_,_,rfl,q1,q2,q3,q4,q5,q6,q7,q8,yK h8,b8,b9,b10,b11,b12⟩
 ·cases h
section
variable {P:Program}{e:Operand->Value}{w:World}{o:Oper}{O:Place}
def AS1 {t:TypeId} (b:o.op= .makeMap t none):(execOp e o).run P w= .ok (.value (.map (some w.heap.size))) { w with heap:=w.heap.push (.map #[] 0) }:=by
 simp only[execOp,b,Th,Instr.makeMap,Sem.run_bind,Sem.run_pure,run_newObj,Result.andThen_ok]
def yL (b:o.op= .move x):(execOp e o).run P w= .ok (.value (e x)) w:=by
 simp only[execOp,b];rfl
def gg {t E el:TypeId}{m k:Operand}{p:Nat}{kv:Value}{cells:List Value}(Q:o.op= .insert t m k x) (H:Hw P t=some (E,el)) (D:e m= .map (some p)) (l:e k=kv) (A:DR (P.underlying E) kv=true) (U:J5 O u (e x)) (K:Fo O w p cells) (I:My kv u cells=some cs):
  ∃ w',(execOp e o).run P w= .ok .skip w'/\Fo O w' p cs/\w'.heap.size=w.heap.size/\(∀ c,c≠p->w'.heap[c]? =w.heap[c]?)/\Outside w w':=by
 obtain⟨X,Y,d,h,f⟩:=Ds A;rw[h]at A;have B:=PX H;obtain⟨es,clock,h14,h15⟩:=K;have R:p<w.heap.size:=(Array.getElem?_eq_some_iff.1 h14).1;have y:∃ b q,Entries O cs b.toList/\(Instr.mapUpdate t (e m) (e k) (e x)).run P w= .ok () { w with heap:=w.heap.setIfInBounds p (.map b q) }:=by
  rcases Yq A U h15 I 0 with⟨s,g2⟩|⟨j,v',C,s,g2,g3,g4⟩
  ·refine⟨es.push ⟨kv,e x,clock⟩,clock+1,by simpa using g2 clock,?_⟩;simp only[D,l,Instr.mapUpdate,Sem.run_bind,H9 B,Result.andThen_ok,MapKept.run_getObj_map h14,FP h f,Al h s,MapKept.run_setObj_map _ h14]
  ·refine⟨es.modify j fun C=>{ C with key:=kv,val:=e x },clock,by simpa using g4,?_⟩;have V:((es[j]?).map (·.key)).getD kv=kv:=by
    rw[<- Array.getElem?_toList,g2];exact g3
   have W:(Instr.keyThatStays kv kv).run P w= .ok kv w:=by
    unfold Instr.keyThatStays;have:Instr.sameBits 10000 kv kv=true:=by
     cases d with
     |string=>cases kv<;>simp_all[IsKey];simp[Instr.sameBits,(bytes_beq _ _).2 rfl]
     |int=>cases kv<;>simp_all[IsKey];simp[Instr.sameBits]
     |bool=>cases kv<;>simp_all[IsKey];simp[Instr.sameBits]
     |_=>cases kv<;>simp[IsKey]at f
    rw[this];rfl
   simp only[Eo]at s;simp only[D,l,Instr.mapUpdate,Sem.run_bind,H9 B,Result.andThen_ok,MapKept.run_getObj_map h14,FP h f,Al h s,V,W,MapKept.run_setObj_map _ h14]
 obtain⟨b,q,J,y⟩:=y;refine⟨{ w with heap:=w.heap.setIfInBounds p (.map b q) },?_,⟨b,q,?_,J⟩,?_,fun c M=>Array.getElem?_setIfInBounds_ne fun N=>M N.symm,⟨rfl,rfl,rfl⟩⟩
 ·simp only[execOp,Q,Sem.run_bind,y,Result.andThen_ok];rfl
 ·simp[R]
 ·simp
def ZT {t E el:TypeId}{D:Operand}{p:Nat}{k:Value}{b:Bool}{r:Option Value}(C:o.op= .lookup t x D false) (H:Hw P t=some (E,el)) (h:e x= .map (some p)) (y:e D=k) (q:DR (P.underlying E) k=true) (J:Fo O w p cs) (I:PF k cs=some r) (A:found P el r=some (u,b)):
  ∃ u',(execOp e o).run P w= .ok (.value u') w/\J5 O u u':=by
 obtain⟨K,M,d,c,f⟩:=Ds q;rw[c]at q;have s:=PX H;obtain⟨es,clock,h11,h12⟩:=J;obtain⟨g1,g2⟩:=Yp q h12 I 0;cases r with
 | none=>
   obtain⟨z,B,l⟩:=A8 (show ob (Ad P el) _=some (u,b)from A);cases l;refine⟨u,?_,(EN B w).2.1⟩;simp only[execOp,C,h,y,Instr.lookup,Sem.run_bind,H9 s,Result.andThen_ok,Sem.run_pure,MapKept.run_getObj_map h11,FP c f,Al c (g1 rfl),(EN (O:=O) B w).1];rfl
 | some v0=>
   cases A;obtain⟨j,v',g3,g4⟩:=g2 _ rfl;refine⟨v',?_,g4⟩;simp only[execOp,C,h,y,Instr.lookup,Sem.run_bind,H9 s,Result.andThen_ok,Sem.run_pure,MapKept.run_getObj_map h11,FP c f,Al c g3];rfl
end
def Rt:Place:=fun _=>none
def sH {O:Place}:Rt.le O:=fun _ _ h=>nomatch h
def Fo.I4 {O:Place}{w w':World}{p:Nat}(h:Fo O w p cs) (b:w'.heap[p]? =w.heap[p]?):Fo O w' p cs :=
 let ⟨es,clock,h1,h2⟩:=h;⟨es,clock,by rw[b];exact h1,h2⟩
def Fo.lt {O:Place}{w:World}{p:Nat}(h:Fo O w p cs):p<w.heap.size :=
 let ⟨_,_,h1,_⟩:=h;(Array.getElem?_eq_some_iff.1 h1).1
def FH {a:Act}{d:Option Tmp}(h:d≠some t):(a.put d v).tmps[t]? =a.tmps[t]? :=by
 cases d with
 |none=>rfl
 | some d=>
   show(a.tmps.setIfInBounds d v)[t]? =_;exact Array.getElem?_setIfInBounds_ne fun b=>h (by rw[b])
def sJ {a:Act}(h:t<a.tmps.size):(a.put (some t) v).tmps[t]? =some v:=by
 show(a.tmps.setIfInBounds t v)[t]? =_;rw[Array.getElem?_setIfInBounds_self_of_lt h]
section
variable {P:Program}{A9:Env}{G n z:Nat}{call:W8}{os os':Array Oper}{F:Nat->Fr}{S:Nat->St}{r:Nat->Option Stepped}{g:Gh}{L L':Nat->Prop}{O O' O₀:Place}{a a' a₀:Act}{w w' w₀:World}{k k' i p:Nat}{cells c12 c21:List Value}{o:Oper}
def Inv.world (d:Inv A9 os' F S r z O₀ a₀ w₀ L O a w k) (y:w.heap.size<=w'.heap.size) (f:∀ c,c<w.heap.size->c≠p->w'.heap[c]? =w.heap[c]?) (J:A9.lo<=w₀.heap.size) (N:w₀.heap.size<=p) (M:∀ b q B,O b=some q->Cf os' S k b B->q.c≠p) (K:Outside w w')
  (I:∀ t v i,i<=os'.size->(F i).get t=some v->a'.tmps[t]? =a.tmps[t]?) (A:a'.tmps.size=a.tmps.size) (s:a'.defers=a.defers):Inv A9 os' F S r z O₀ a₀ w₀ L O a' w' k :=
 { d with
  tmp:=fun t i hi E H v D=>by rw[I t v i hi D];exact d.tmp t i hi E H v D
  Iz:=by rw[A];exact d.Iz
  Vb:=by rw[s];exact d.Vb
  row:=fun b q B j C=>(d.row b q B j C).mono (Place.le_refl _) (f q.c (d.dom b q j) (M b q B j C))
  dom:=fun b q j=>z5z (d.dom b q j) y
  low:=d.low.next y fun c l=>f c (z5z l d.low.1) om
  size:=W5 d.size y
  I4:=fun c l h=>by rw[f c (z5z l d.size) om];exact d.I4 c l h
  out:=d.out.trans K }
structure yM (g:Gh) (c12 c21:List Value) (os':Array Oper) (S:Nat->St) (w₀:World) (L:Nat->Prop) (O:Place) (a:Act) (w:World) (k p:Nat) (cells:List Value):Prop where
 tm:a.tmps[g.tm]? =some (.map (some p))
 row:Fo Rt w p cells
 new:w₀.heap.size<=p
 apart:∀ b q B,O b=some q->Cf os' S k b B->q.c≠p
 cells:(¬ L 3/\¬ L 4/\cells=[])\/(L 3/\¬ L 4/\cells=[g.k1,g.v1])\/(¬ L 3/\L 4/\cells=[g.k2,g.v2])\/(L 3/\L 4/\(cells=c12\/cells=c21))
 tv:L 5->a.tmps[g.tv]? =some (.map (some p))
def BD7 (g:Gh) (c12 c21:List Value) (os':Array Oper) (S:Nat->St) (w₀:World) (L:Nat->Prop) (O:Place) (a:Act) (w:World) (k:Nat):Prop:=L 2->∃ p cells,yM g c12 c21 os' S w₀ L O a w k p cells
def yM.step (h:yM g c12 c21 os' S w₀ L O a w k p cells) (l:L' 3↔L 3) (s:L' 4↔L 4) (y:L' 5->L 5) (f:a'.tmps[g.tm]? =a.tmps[g.tm]?) (j:a'.tmps[g.tv]? =a.tmps[g.tv]?) (C:w'.heap[p]? =w.heap[p]?)
  (d:∀ b q B,O' b=some q->Cf os' S k' b B->q.c≠p):yM g c12 c21 os' S w₀ L' O' a' w' k' p cells :=
 ⟨by rw[f];exact h.tm,h.row.I4 C,h.new,d,by rw[l,s];exact h.cells,fun A=>by rw[j];exact h.tv (y A)⟩
def lT (E:Ctx P A9 G n call os' F S r z) (hi:i<os'.size) (Q:AS O (S i) w O' (S (i+1)) w') (C:i<k') (J:k'<=os'.size) (K:∀ j,i<j->j<k'->¬ CX r j):
  ∀ b q B,O' b=some q->Cf os' S k' b B->(b<(S (i+1)).n/\(S (i+1)).blk b=some B)\/((S (i+1)).n<=b/\O b=some q/\Cf os' S i b B):=by
 have R:∀ x y,x<=y->y<=os'.size->(S x).n<=(S y).n:=fun x y f d=>(J7 E.hC E.hch f d).n;have c:∀ b x,i+1<=x->x<=k'->b<(S x).n->(S k').h.get b=(S x).h.get b:=fun b x f d D=>
  FE E.hC E.hch D d J fun j H g2 g3=>absurd g3 (K j om om)
 have M:∀ {b x y},(S x).h.get b=(S y).h.get b->(S x).blk b=(S y).blk b:=by
  intro b x y h;show ob ((S x).h.get b) _=ob ((S y).h.get b) _;rw[h]
 intro b q B N I;rcases I with⟨f,d⟩|⟨j,f,d,D,V,W⟩
 ·rcases AH b (S (i+1)).n with s|s
  ·exact .inl ⟨s,by rw[<- M (c b (i+1) nL C s)];exact d⟩
  ·right;refine⟨s,by rw[<- Q.ext b (.inr s)];exact N,.inr ?_⟩;have:∀ m,i+1<=m->m<=k'->b<(S m).n->∃ j,i+1<=j/\j<m/\(S j).n<=b/\b<(S (j+1)).n:=by
    intro m;induction m with
    |zero=>intro H _ _;omega
    | succ m ih=>
      intro H g2 g3;have A:i+1<=m:=by
       rcases AH i m with g|g
       ·exact g
       ·obtain rfl:m=i:=om;omega
      by_cases X:b<(S m).n
      ·obtain⟨j,g4,g5,g6,U⟩:=ih A om X;exact⟨j,g4,om,g6,U⟩
      ·exact⟨m,A,om,om,g3⟩
   obtain⟨j,H,g2,g3,g4⟩:=this k' C nL f;exact⟨j,om,om,g3,g4,by rw[<- M (c b (j+1) om om g4)];exact d⟩
 ·have l:(S (i+1)).n<=b:=W5 (R (i+1) j om om) D;exact .inr ⟨l,by rw[<- Q.ext b (.inr l)];exact N,.inr ⟨j,om,d,D,V,W⟩⟩
def sK (c:Ctx P A9 G n call os' F S r z) (hi:i<=os'.size):∀ b B,(S i).blk b=some B->Cf os' S i b B:=by
 intro b B h;refine .inl ⟨?_,h⟩;rcases AH b (S i).n with d|d
 ·exact d
 ·have f:=(AM h).1;rw[(J7 c.hC c.hch (i:=0) (j:=i) om om).fresh c.fresh b d]at f;cases f
def lU (E:Ctx P A9 G n call os' F S r z) (hi:i<os'.size) (s:AS O (S i) w O' (S (i+1)) w') (y:i<k') (A:k'<=os'.size) (C:∀ j,i<j->j<k'->¬ CX r j) (M:p<w.heap.size)
  (f:∀ b q B,O b=some q->Cf os' S i b B->q.c≠p):w'.heap[p]? =w.heap[p]? /\∀ b q B,O' b=some q->Cf os' S k' b B->q.c≠p:=by
 have d:=sK E (Nat.le_of_lt hi);refine⟨s.I4 p M fun b q B h N J=>absurd N (f b q B h (d b B J)),fun b q B h K=>?_⟩;rcases lT E hi s y A C b q B h K with⟨R,l⟩|⟨_,l,I⟩
 ·intro U;obtain⟨D,Q,B0,H,g2,g3,-⟩:=s.owned b q B h l om;exact f D Q B0 H (d D B0 g3) om
 ·exact f b q B l I
end
end
section
variable {o:Oper}{fr:Fr}{i t:Nat}{Z:St}
section
variable {P:Program}{A9:Env}{G n:Nat}{call:W8}{os os':Array Oper}{F:Nat->Fr}{S:Nat->St}{r:Nat->Option Stepped}{g:Gh}{O₀:Place}{a₀:Act}{w₀:World}{V kv:Value}{c12 c21:List Value}{a8:Oper}
structure GhX (P:Program) (A9:Env) (G n:Nat) (call:W8) (os os':Array Oper) (F:Nat->Fr) (S:Nat->St) (r:Nat->Option Stepped) (g:Gh) (V kv:Value) (c12 c21:List Value) (a8:Oper):Prop where
 hX:Ctx P A9 G n call os' F S r os'.size
 sz:os'.size=os.size
 same:∀ (i:Nat) (o:Oper),i≠2->i≠3->i≠4->i≠5->i≠8->os[i]? =some o->os'[i]? =some o
 aft:∀ (i:Nat) (o o':Oper),os[i]? =some o->os'[i]? =some o'->o'.after=o.after/\o'.guard=none
 gd:∀ (i:Nat) (o:Oper),os[i]? =some o->o.guard=none
 nm:∀ (j:Nat) (o:Oper),os'[j]? =some o->o.dst≠some g.tm/\o.dst≠some g.tv
 f0:(F 0).get g.tm=none/\(F 0).get g.tv=none
 x2:∃ a2,os[2]? =some a2/\os'[2]? =some (EH a2)/\a2.dst=some g.tm/\a2.op= .makeMap g.ty none
 x3:∃ a3,os[3]? =some a3/\os'[3]? =some (EH a3)/\a3.dst=none/\a3.op= .insert g.ty (.tmp g.tm) (.const g.k1) (.const g.v1)/\DS a3 2=true
 x4:∃ a4,os[4]? =some a4/\os'[4]? =some (EH a4)/\a4.dst=none/\a4.op= .insert g.ty (.tmp g.tm) (.const g.k2) (.const g.v2)/\DS a4 2=true
 x5:∃ a5,os[5]? =some a5/\os'[5]? =some (EH a5)/\a5.dst=some g.tv/\a5.op= .move (.tmp g.tm)/\DS a5 3=true/\DS a5 4=true
 x8:os[8]? =some a8/\os'[8]? =some (Oh a8 V)/\a8.op= .lookup g.ty (.tmp g.tv) (.tmp g.key) false/\DS a8 5=true
 kw:∀ (j:Nat) (o:Oper),os'[j]? =some o->o.dst=some g.key->j<8/\DS a8 j=true
 k8:(F 8).get g.key=some kv
 btm:g.tm<n
 btv:g.tv<n
 ne:g.tm≠g.tv
 val:∃ kt el b1 b2 r1 r2,Hw P g.ty=some (kt,el)/\DR (P.underlying kt) g.k1=true/\DR (P.underlying kt) g.k2=true/\DR (P.underlying kt) kv=true/\cst g.v1=some g.v1/\cst g.v2=some g.v2 /\
  My g.k2 g.v2 [g.k1,g.v1]=some c12/\My g.k1 g.v1 [g.k2,g.v2]=some c21/\PF kv c12=some r1/\PF kv c21=some r2/\found P el r1=some (V,b1)/\found P el r2=some (V,b2)
 cv:cst V=some V
def NP {P:Program}{call:W8}:Ab.step P call fr Z (EH o)=some ⟨.bool false,Z,.none⟩:=rfl
def uM {P:Program}{call:W8}{V:Value}(h:cst V=some V):Ab.step P call fr Z (Oh o V)=some ⟨V,Z,.none⟩:=by
 show J9 Z (cst V)=_;rw[h];rfl
def TF {os:Array Oper}(h:o.guard=none):U9 os fr o=some true:=by
 unfold U9;rw[h]
def aH (h:o.guard=none):∀ y,Region.wanted o y=true:=fun y=>by
 unfold Region.wanted;rw[h]
def GhX.zv (h:GhX P A9 G n call os os' F S r g V kv c12 c21 a8){a:Oper}(d:os'[i]? =some a) (f:a.guard=none):∃ s,Ab.step P call (F i) (S i) a=some s/\r i=some s/\F (i+1)=I5 (F i) a.dst s.v/\S (i+1)=s.Z:=by
 have b:=(Array.getElem?_eq_some_iff.1 d).1;rcases h.hX.hch.step i a (Af _) (.inl b) d with⟨_,s,e⟩|⟨c,_⟩
 ·exact⟨s,e⟩
 ·rw[TF f]at c;cases c
def GhX.Au4 (h:GhX P A9 G n call os os' F S r g V kv c12 c21 a8)(ht:t=g.tm\/t=g.tv)(hi:i<=os'.size):(F i).get t=none:=by
 rw[RE h.hX.hch (Af _) hi fun j o _ _ a=>by rcases ht with rfl|rfl;exact(h.nm j o a).1;exact(h.nm j o a).2];rcases ht with rfl|rfl
 ·exact h.f0.1
 ·exact h.f0.2
def GSt (g:Gh) (c12 c21:List Value) (os':Array Oper) (S:Nat->St) (w₀:World) (L:Nat->Prop) (O:Place) (a:Act) (w:World) (k:Nat):Prop :=
 (L 3->L 2)/\(L 4->L 2)/\(L 5->L 3/\L 4)/\BD7 g c12 c21 os' S w₀ L O a w k
def GA {A:Nat->Prop}{x:Nat}(h:i≠x):(A x\/x=i)↔A x:=⟨fun a=>a.elim id fun e=>absurd e.symm h,.inl⟩
def eval_at {a:Act}{v:Value}(h:a.tmps[t]? =some v):a.eval (.tmp t)=v:=by
 show a.tmps.getD t undef=v;rw[HU,h];rfl
def uN {rd:Option Nat}(h:GhX P A9 G n call os os' F S r g V kv c12 c21 a8) (R:n<=a₀.tmps.size) (hG:CL O₀ G) (a0:A9.lo<=w₀.heap.size){Q:Exit->Act->World->Prop}{K:Act->World->Prop}{L:Nat->Prop}{O:Place}{a:Act}{w:World}{k i:Nat}{o o':Oper}
  (m:Inv A9 os' F S r os'.size O₀ a₀ w₀ L O a w k) (hS:GSt g c12 c21 os' S w₀ L O a w k) (hi:Rdy os' L i o') (ho:os[i]? =some o)
  (go:∀ O' a' w' k',Inv A9 os' F S r os'.size O₀ a₀ w₀ (fun j=>L j\/j=i) O' a' w' k'->GSt g c12 c21 os' S w₀ (fun j=>L j\/j=i) O' a' w' k'->K a' w'):wpOpIn (FW rd) 0 P os Q i K a w:=by
 have z:=h.hX;obtain⟨s3,s4,s5,sA⟩:=hS;have aZ:=(Array.getElem?_eq_some_iff.1 hi.ho).1;have W:Live os' os'.size i:= .inl aZ;have b7:o'.guard=none:=(h.aft i o o' ho hi.ho).2;have a1:=h.nm i o' hi.ho;have Sp:∀ {b:Oper}{j:Nat},os'[i]? =some b->DS b j=true->L j:=by
  intro b j N he;rw[hi.ho]at N;cases N;obtain⟨e,u,A,e3⟩:=sG he;rw[<- e3];exact hi.all e u A
 obtain⟨s,U,t2,t3,t4⟩:=h.zv hi.ho b7;unfold wpOpIn;rw[ho];simp only;rw[z1z (aH (h.gd i o ho) _)];obtain⟨kt,el,b1,b2,r1,r2,v1,v2,v3,v4,v5,v6,v7,v8,v9,v10,v11,v12⟩:=h.val;by_cases i2:i=2
 ·subst i2;obtain⟨a2,H,y,x3,I⟩:=h.x2;rw[ho]at H;cases H;rw[hi.ho]at y;cases y;rw[NP]at U;cases U;have M:=m.quiet z hi W R (v:= .bool false) (v':= .bool false) t3 (.J8 rfl) fun⟨s,u,A⟩=>by rw[t2]at u;cases u;cases A
  refine Ba (by rw[I];intro c J;cases J) ?_;rw[AS1 I,Oper.uponIn_value,x3];have c1:g.tm<a.tmps.size:=by rw[m.Iz];exact z5z h.btm R
  have hw:=M.world (p:=w.heap.size) (a':=a.put (some g.tm) (.map (some w.heap.size))) (w':={ w with heap:=w.heap.push (.map #[] 0) }) (by simp) (fun c J _=>by
   show(w.heap.push _)[c]? =_
   rw[Array.getElem?_push,z0z om]) a0 m.size (fun b q B N _=>by have:=m.dom b q N;omega) ⟨rfl,rfl,rfl⟩ (fun t v j hj hv=>by
    rw[FH (fun e=>by cases e;rw[h.Au4 (.inl rfl) hj]at hv;cases hv)];rfl) (by rw[EZ];rfl) (by rw[put_defers];rfl)
  refine go O _ _ k hw ⟨fun h3=> .inr rfl,fun C=> .inr rfl,fun f=>?_,fun _=>⟨w.heap.size,[],sJ c1,⟨#[],0,by simp,.nil⟩,m.size,fun b q B N _=>by have:=m.dom b q N;omega,?_,fun f=>?_⟩⟩
  ·rcases f with f|f
   ·exact⟨.inl (s5 f).1,.inl (s5 f).2⟩
   ·cases f
  ·refine .inl ⟨fun h3=>?_,fun C=>?_,rfl⟩
   ·rcases h3 with h3|h3
    ·exact hi.no (s3 h3)
    ·cases h3
   ·rcases C with C|C
    ·exact hi.no (s4 C)
    ·cases C
  ·rcases f with f|f
   ·exact absurd (s3 (s5 f).1) hi.no
   ·cases f
 by_cases i3:i=3
 ·subst i3;obtain⟨a3,H,y,x3,I,x5⟩:=h.x3;rw[ho]at H;cases H;have l:=Sp y x5;rw[hi.ho]at y;cases y;rw[NP]at U;cases U;have M:=m.quiet z hi W R (v:= .bool false) (v':= .bool false) t3 (.J8 rfl) fun⟨s,u,A⟩=>by rw[t2]at u;cases u;cases A
  obtain⟨p,cells,d⟩:=sA l;have KQ:∃ cs,My g.k1 g.v1 cells=some cs/\((¬ L 4/\cs=[g.k1,g.v1])\/(L 4/\cs=c21)):=by
   rcases d.cells with⟨_,q2,rfl⟩|⟨q1,_⟩|⟨_,q2,rfl⟩|⟨q1,_⟩
   ·exact⟨_,rfl,.inl ⟨q2,rfl⟩⟩
   ·exact absurd q1 hi.no
   ·exact⟨_,v8,.inr ⟨q2,rfl⟩⟩
   ·exact absurd q1 hi.no
  obtain⟨cs,q1,q2⟩:=KQ;obtain⟨w',r1',r2',r3',r4',r5'⟩:=gg (P:=P) (e:=a.eval) (O:=Rt) I v1 (eval_at d.tm) (show a.eval (.const g.k1)=g.k1 from rfl) v2 (show J5 Rt g.v1 (a.eval (.const g.v1))from (J5.cst v5).2) d.row q1;refine Ba (by rw[I];intro c J;cases J) ?_;rw[r1',Oper.uponIn_skip,x3];have hw:=M.world (p:=p) (a':=a) (w':=w') om (fun c _ J=>r4' c J) a0 d.new d.apart r5' (fun t v j hj hv=>rfl) rfl rfl;refine go O _ _ k hw ⟨fun _=> .inl l,fun C=> .inl l,fun f=>?_,fun _=>⟨p,cs,d.tm,r2',d.new,d.apart,?_,fun f=>?_⟩⟩
  ·rcases f with f|f
   ·exact absurd (s5 f).1 hi.no
   ·cases f
  ·rcases q2 with⟨q2,rfl⟩|⟨q2,rfl⟩
   ·exact .inr (.inl ⟨.inr rfl,(fun C=>C.elim q2 fun e=>by cases e),rfl⟩)
   ·exact .inr (.inr (.inr ⟨.inr rfl,.inl q2,.inr rfl⟩))
  ·rcases f with f|f
   ·exact d.tv f
   ·cases f
 by_cases i4:i=4
 ·subst i4;obtain⟨a4,H,y,x3,I,x5⟩:=h.x4;rw[ho]at H;cases H;have l:=Sp y x5;rw[hi.ho]at y;cases y;rw[NP]at U;cases U;have M:=m.quiet z hi W R (v:= .bool false) (v':= .bool false) t3 (.J8 rfl) fun⟨s,u,A⟩=>by rw[t2]at u;cases u;cases A
  obtain⟨p,cells,d⟩:=sA l;have KQ:∃ cs,My g.k2 g.v2 cells=some cs/\((¬ L 3/\cs=[g.k2,g.v2])\/(L 3/\cs=c12)):=by
   rcases d.cells with⟨q1,_,rfl⟩|⟨q1,_,rfl⟩|⟨_,q2,_⟩|⟨_,q2,_⟩
   ·exact⟨_,rfl,.inl ⟨q1,rfl⟩⟩
   ·exact⟨_,v7,.inr ⟨q1,rfl⟩⟩
   ·exact absurd q2 hi.no
   ·exact absurd q2 hi.no
  obtain⟨cs,q1,q2⟩:=KQ;obtain⟨w',r1',r2',r3',r4',r5'⟩:=gg (P:=P) (e:=a.eval) (O:=Rt) I v1 (eval_at d.tm) (show a.eval (.const g.k2)=g.k2 from rfl) v3 (show J5 Rt g.v2 (a.eval (.const g.v2))from (J5.cst v6).2) d.row q1;refine Ba (by rw[I];intro c J;cases J) ?_;rw[r1',Oper.uponIn_skip,x3];have hw:=M.world (p:=p) (a':=a) (w':=w') om (fun c _ J=>r4' c J) a0 d.new d.apart r5' (fun t v j hj hv=>rfl) rfl rfl;refine go O _ _ k hw ⟨fun _=> .inl l,fun C=> .inl l,fun f=>?_,fun _=>⟨p,cs,d.tm,r2',d.new,d.apart,?_,fun f=>?_⟩⟩
  ·rcases f with f|f
   ·exact absurd (s5 f).2 hi.no
   ·cases f
  ·rcases q2 with⟨q2,rfl⟩|⟨q2,rfl⟩
   ·exact .inr (.inr (.inl ⟨(fun C=>C.elim q2 fun e=>by cases e),.inr rfl,rfl⟩))
   ·exact .inr (.inr (.inr ⟨.inl q2,.inr rfl,.inl rfl⟩))
  ·rcases f with f|f
   ·exact d.tv f
   ·cases f
 by_cases i5:i=5
 ·subst i5;obtain⟨a5,H,y,x3,I,x5,x6⟩:=h.x5;rw[ho]at H;cases H;have E:=Sp y x5;have Y:=Sp y x6;have l:=s3 E;rw[hi.ho]at y;cases y;rw[NP]at U;cases U;have M:=m.quiet z hi W R (v:= .bool false) (v':= .bool false) t3 (.J8 rfl) fun⟨s,u,A⟩=>by rw[t2]at u;cases u;cases A
  obtain⟨p,cells,d⟩:=sA l;refine Ba (by rw[I];intro c J;cases J) ?_;rw[yL I,Oper.uponIn_value,x3,eval_at d.tm];have c2:g.tv<a.tmps.size:=by rw[m.Iz];exact z5z h.btv R
  have hw:=M.world (p:=p) (a':=a.put (some g.tv) (.map (some p))) (w':=w) nL (fun c _ _=>rfl) a0 d.new d.apart (.refl _) (fun t v j hj hv=>by
    rw[FH (fun e=>by cases e;rw[h.Au4 (.inr rfl) hj]at hv;cases hv)];rfl) (by rw[EZ];rfl) (by rw[put_defers];rfl)
  refine go O _ _ k hw ⟨fun _=> .inl l,fun C=> .inl l,fun _=>⟨.inl E,.inl Y⟩,fun _=>⟨p,cells,?_,d.row,d.new,d.apart,?_,fun _=>sJ c2⟩⟩
  ·rw[FH (fun e=>h.ne (z8z e).symm)];exact d.tm
  ·rw[GA om,GA om];exact d.cells
 by_cases i8:i=8
 ·subst i8;obtain⟨H,y,I,x5⟩:=h.x8;rw[ho]at H;cases H;have a6:=Sp y x5;obtain⟨E,Y⟩:=s5 a6;have l:=s3 E;have kO:a.eval (.tmp g.key)=kv:=by
   obtain⟨v',q1,q2⟩:=m.tmp g.key 8 om (fun j oj hj a7 hd=>Sp y (h.kw j oj a7 hd).2) (fun j oj hj a7 hd=>by have:=(h.kw j oj a7 hd).1;omega) kv h.k8;rw[eval_at q1];exact q2.flat (Ds v4).1
  rw[hi.ho]at y;cases y;rw[uM h.cv]at U;cases U;obtain⟨p,cells,d⟩:=sA l;have b8:∃ u',(execOp a.eval a8).run P w= .ok (.value u') w/\J5 Rt V u':=by
   rcases d.cells with⟨q,_⟩|⟨_,q,_⟩|⟨q,_⟩|⟨_,_,rfl|rfl⟩
   ·exact absurd E q
   ·exact absurd Y q
   ·exact absurd E q
   ·exact ZT I v1 (eval_at (d.tv a6)) kO v4 d.row v9 v11
   ·exact ZT I v1 (eval_at (d.tv a6)) kO v4 d.row v10 v12
  obtain⟨u',q1,q2⟩:=b8;refine Ba (by rw[I];intro c J;cases J) ?_;rw[q1,Oper.uponIn_value];have M:=m.quiet z hi W R (v:=V) (v':=u') t3 (q2.mono sH) fun⟨s,u,A⟩=>by rw[t2]at u;cases u;cases A
  refine go O _ _ k M ⟨fun _=> .inl l,fun C=> .inl l,fun _=>⟨.inl E,.inl Y⟩,fun _=>⟨p,cells,d.step (GA om) (GA om) (fun h=>h.elim id fun e=>by cases e) (FH a1.1) (FH a1.2) rfl d.apart⟩⟩
 have CV:=h.same i o i2 i3 i4 i5 i8 ho;rw[hi.ho]at CV;cases CV;have X:∀ O' v' w' k',(∀ p,p<w.heap.size->(∀ b q B,O b=some q->Cf os' S k b B->q.c≠p)->w'.heap[p]? =w.heap[p]? /\∀ b q B,O' b=some q->Cf os' S k' b B->q.c≠p)->GSt g c12 c21 os' S w₀ (fun j=>L j\/j=i) O' (a.put o.dst v') w' k':=by
  intro O' v' w' k' hp;refine⟨fun h3=> .inl (s3 ((GA i3).1 h3)),fun C=> .inl (s4 ((GA i4).1 C)),fun f=>⟨.inl (s5 ((GA i5).1 f)).1,.inl (s5 ((GA i5).1 f)).2⟩,fun h2=>?_⟩;obtain⟨p,cells,d⟩:=sA ((GA i2).1 h2);obtain⟨p1,p2⟩:=hp p d.row.lt d.apart;exact⟨p,cells,d.step (GA i3) (GA i4) (GA i5).1 (FH a1.1) (FH a1.2) p1 p2⟩
 have hr:=t2;obtain⟨g1,g2,g3,g4⟩:=CC z.hC z.hch hi.ho hr;have hd:∀ c,o.op≠ .defer c:=LA z.hch hi.ho hr;have hk:=m.known z hi hG;cases g2 with
 | @pure v D=>
   obtain⟨v',u,A⟩:=D O a.eval w hk;refine Ba hd ?_;rw[u,Oper.uponIn_value];exact go _ _ _ _ (m.quiet z hi W R g3 A fun⟨s,h1,h2⟩=>by rw[hr]at h1;cases h1;cases h2) (X _ _ _ _ fun p _ hp=>⟨rfl,hp⟩)
 | @read v b D=>
   obtain⟨⟨cs,c5⟩,D⟩:=D;obtain⟨_,D⟩:=D O a.eval w hk;obtain⟨v',u,A⟩:=D fun q c3 M b5=>m.YO z hi hr rfl b5 M;refine Ba hd ?_;rw[u,Oper.uponIn_value];exact go _ _ _ _ (m.quiet z hi W R g3 A fun⟨s,h1,h2⟩=>by rw[hr]at h1;cases h1;cases h2) (X _ _ _ _ fun p _ hp=>⟨rfl,hp⟩)
 | @new cs vf t D=>
   obtain⟨w',v',arr,c4,lo,c6,vs,more,u,A,e3,e4,e5,e6,e7,e8,e9,et,b9⟩:=D O a.eval w hk;refine Ba hd ?_;rw[u,Oper.uponIn_value];refine go _ _ _ _ (m.new z hi W R g3 g4 (fun⟨s,h1,h2⟩=>by rw[hr]at h1;cases h1;cases h2) A e3 e4 e5 e6 e7 e8 e9 et fun O' M=>b9 O' _ M) (X _ _ _ _ fun p a9 hp=>⟨e4 p a9,fun b q B N hH=>?_⟩);by_cases b0:b=(S i).n
   ·subst b0;rw[Place.S9]at N;cases N;show w.heap.size≠p;omega
   ·rw[Place.Ax _ _ b0]at N;exact hp b q B N hH
 | @eff v Z' D=>
   have b6:CX r i:=⟨_,hr,rfl⟩
   have c0:k=i:=by
    rcases bj k i with hh|hh|hh
    ·obtain⟨⟨s',j1,j2⟩,j3⟩:=m.Hu om;have b3:os'[k]? =some os'[k]:=Array.getElem?_eq_getElem om;obtain⟨_,j5,_,_⟩:=CC z.hC z.hch b3 j1;have j6:DQ os'[k].op=true:=by
      cases j5 with
      |eff D=>exact D.2.1
      |pure _=>cases j2
      |new _=>cases j2
      |read _=>cases j2
      |pan _=>cases j2
     exact absurd (hi.bef m.down (z.hD.eff k i os'[k] o hh b3 hi.ho j6 D.2.1)) j3
    ·exact hh
    ·exact absurd (m.bh i hh b6) hi.no
   subst c0;obtain⟨hR,hF⟩:=gv z m aZ;change S (k+1)=Z' at g4;subst g4;obtain⟨k',m1,m2,m3,m4⟩:=Mv r os'.size (os'.size-(k+1)) (k+1) om;refine D.2.2 O a w _ hk hR hF nL (hG.mono m.le) _ _ _ fun v' w' O' q1 q2 q3=>?_;have b4:∀ j,k<j->j<k'->¬ CX r j:=fun j H y=>m3 j om y;exact go _ _ _ k' (m.effect z hi W R g3 q1 q2 (q2.le hF nL) q3 om m2 b4 m4) (X _ _ _ _ fun p a9 hp=>lU z aZ q2 om m2 b4 a9 hp)
 |pan D=>exact absurd rfl (z.hch.np i _ (Af _) hr)
def cZ {J:Option Nat}(h:GhX P A9 G n call os os' F S r g V kv c12 c21 a8) (hn:n<=a₀.tmps.size) (R:CL O₀ G) (B:A9.lo<=w₀.heap.size){Q:Exit->Act->World->Prop}
  (U:∀ O' a' w',Rel A9 O' (S os'.size) w'->AS O₀ (S 0) w₀ O' (S os'.size) w'->HP O' (F os'.size) a'->a'.tmps.size=a₀.tmps.size->a'.defers=a₀.defers->Q .normal a' w') :
  ∀ (fuel:Nat) (listed:Array Bool) (O:Place) (a:Act) (w:World) (k:Nat),listed.size=os.size->listed.toList.count false<=fuel ->
   Inv A9 os' F S r os'.size O₀ a₀ w₀ (fun j=>listed.getD j false=true) O a w k->GSt g c12 c21 os' S w₀ (fun j=>listed.getD j false=true) O a w k->wpAnyIn (FW J) 0 P .any os Q fuel listed a w:=by
 have I:=h.hX;have at':∀ {i:Nat}{o:Oper},os[i]? =some o->∃ o',os'[i]? =some o'/\o'.after=o.after/\o'.guard=none:=by
  intro i o f;have m:=(Array.getElem?_eq_some_iff.1 f).1;have q:i<os'.size:=by rw[h.sz];exact m
  have c:os'[i]? =some os'[i]:=Array.getElem?_eq_getElem q;exact⟨_,c,h.aft i o _ f c⟩
 have fin:∀ (listed:Array Bool) (O:Place) (a:Act) (w:World) (k:Nat),listed.size=os.size->Inv A9 os' F S r os'.size O₀ a₀ w₀ (fun j=>listed.getD j false=true) O a w k->Region.ready .any os listed=[]->Q .normal a w:=by
  intro listed O a w k b d p;have L:∀ i,i<os.size->listed.getD i false=true:=by
   intro i;induction i using Nat.strongRecOn with
   | _ i ih=>
     intro hi;apply Uh;intro v;have H:i∈Region.ready .any os listed:=by
      rw[Ui];refine⟨?_,os[i],Array.getElem?_eq_getElem hi,fun e he X=>?_⟩
      ·rw[HU]at v ⊢;rw[Array.getElem?_eq_getElem om]at v ⊢
       simpa using v
      ·obtain⟨o',M,g2,_⟩:=at' (Array.getElem?_eq_getElem hi);have:=I.hD.Sp i o' e M (by rw[g2];exact he) X;exact ih e.on this om
     rw[p]at H;cases H
  obtain⟨l,s,N⟩:=gw I d (by rw[h.sz];exact L);exact U O a w l s N d.Iz d.Vb
 intro fuel;induction fuel with
 | zero=>
   intro listed O a w k b Y d _;have p:Region.ready .any os listed=[]:=by
    apply AE6.2;intro i hi;rw[Ui]at hi;obtain⟨l,o,f,_⟩:=hi;have m:=(Array.getElem?_eq_some_iff.1 f).1;have:=Rz listed.toList om i (by rw[Pq];omega);rw[Array.getElem?_toList]at this;rw[HU,this]at l;cases l
   exact⟨p,fin listed O a w k b d p⟩
 | succ fuel ih=>
   intro listed O a w k b Y d W;refine⟨fin listed O a w k b d,fun i hi=>?_⟩;rw[Ui]at hi;obtain⟨l,o,f,s⟩:=hi;have m:=(Array.getElem?_eq_some_iff.1 f).1;have E:listed[i]? =some false:=by
    rw[HU,Array.getElem?_eq_getElem om]at l;rw[Array.getElem?_eq_getElem om]
    simpa using l
   have C:¬ listed.getD i false=true:=by rw[HU,E];simp
   obtain⟨o',c,z,K⟩:=at' f;have hi:Rdy os' (fun j=>listed.getD j false=true) i o':=⟨c,C,by rw[z];exact s⟩
   have D:(fun j=>(listed.setIfInBounds i true).getD j false=true)=fun j=>listed.getD j false=true\/j=i:=by
    funext j
    apply propext;by_cases A:j=i
    ·subst A;simp[HU,Array.getElem?_setIfInBounds_self_of_lt (show j<listed.size by omega)]
    ·rw[getD_set_ne false (fun h=>A h.symm)];simp[A]
   have go:∀ O' a' w' k',Inv A9 os' F S r os'.size O₀ a₀ w₀ (fun j=>listed.getD j false=true\/j=i) O' a' w' k'->GSt g c12 c21 os' S w₀ (fun j=>listed.getD j false=true\/j=i) O' a' w' k'->wpAnyIn (FW J) 0 P .any os Q fuel (listed.setIfInBounds i true) a' w':=by
    intro O' a' w' k' u y;refine ih _ O' a' w' k' (by simpa using b) ?_ (by rw[D];exact u) (by rw[D];exact y);have:=count_set listed.toList i (by rw[Array.getElem?_toList];exact E);rw[AE7];omega
   exact uN h hn R B d W hi f go
end
end
section
variable {P:Program}{A9:Env}{G:Nat}
def Nv {t:Nat}{o:Oper}(h:Rj t o=true):o.dst≠some t:=by
 intro a;unfold Rj at h;rw[a]at h;simp at h
def xR {b:Oper}{key:Nat}:∀ {l:List Oper}{k:Nat},qs b key l k=true->∀ (j:Nat) (o:Oper),l[j]? =some o->o.dst=some key->k+j<8/\DS b (k+j)=true:=by
 intro l;induction l with
 |nil=>intro k _ j o h;simp at h
 | cons x l ih=>
   intro k h j o d c;unfold qs at h;rw[T1,II]at h;cases j with
   | zero=>
     cases d;rcases h.1 with a|a
     ·exact absurd c (Nv a)
     ·rw[T1]at a;exact⟨by have:=a.1;rw[EJ]at this;omega,a.2⟩
   | succ j=>
     have:=ih h.2 j o (by simpa using d) c;rw[show k+1+j=k+(j+1) by omega]at this;exact this
def cX {v:Value}(h:NC v=true):cst v=some v:=by
 unfold cst;rw[h];rfl
def qu {g:Gh}{kv V:Value}(h:YF P g kv=some V):∃ c12 c21 kt el b1 b2 r1 r2,Hw P g.ty=some (kt,el)/\DR (P.underlying kt) g.k1=true/\DR (P.underlying kt) g.k2=true/\DR (P.underlying kt) kv=true/\cst g.v1=some g.v1/\cst g.v2=some g.v2 /\
  My g.k2 g.v2 [g.k1,g.v1]=some c12/\My g.k1 g.v1 [g.k2,g.v2]=some c21/\PF kv c12=some r1/\PF kv c21=some r2/\found P el r1=some (V,b1)/\found P el r2=some (V,b2)/\cst V=some V:=by
 obtain⟨⟨kt,el⟩,a,h⟩:=A8 h;obtain⟨hb,h⟩:=J4 h;obtain⟨c12,h2,h⟩:=A8 h;obtain⟨c21,h3,h⟩:=A8 h;obtain⟨r1,h4,h⟩:=A8 h;obtain⟨r2,h5,h⟩:=A8 h;obtain⟨⟨x1,b1⟩,h6,h⟩:=A8 h;obtain⟨⟨x2,b2⟩,h7,h⟩:=A8 h;obtain⟨hv,h⟩:=J4 h;cases h;simp only[T1]at hb hv;obtain⟨d1,d2,d3,d4,d5,d6,d7⟩:=hb;obtain⟨d8,d9⟩:=hv;obtain rfl:x1=x2:=cY d8;exact⟨c12,c21,kt,el,b1,b2,r1,r2,a,d1,d2,d3,cX d6,cX d7,h2,h3,h4,h5,h6,h7,cX d9⟩
def kg {call:W8}(l:BW P A9 G call){os:Array Oper}{F:Nat->Fr}{S:Nat->St}{r:Nat->Option Stepped}{fr:Fr}{Z Z':St}{O:Place}{a:Act}{w:World}{N k:Nat}(f1:F 0=fr) (z:S 0=Z) (g:Iy P call os F S r os.size 0) (a0:(S os.size).n<=Z'.n)
  (f:Rel A9 O Z w) (Q:Cz O Z.n N) (hN:Z'.n<=N) (qT:HP O fr a) (D:k<=os.size) (J:∀ j,0<=j->j<k->¬ CX r j) (m4:k<os.size->CX r k) (L:Nat->Prop) (y:∀ j,¬ L j):Inv A9 os F S r os.size O a w L O a w k:=by
 have W:=f.fresh;have nk:=(J7 l g (i:=0) (j:=k) (Af _) D).n;have V:∀ b,b<(S 0).n->(S k).h.get b=(S 0).h.get b:=fun b u=>FE l g u (Af _) D fun j _ d p=>absurd p (J j (Af _) d);have m:∀ b q,O b=some q->b<(S 0).n\/Z'.n<=b:=by
  intro b q u;rcases AH b (S 0).n with I|I
  ·exact .inl I
  ·rcases AH b Z'.n with C|C
   ·rw[Q b (by rw[<- z];exact I) om]at u;cases u
   ·exact .inr C
 have e:∀ b q B,O b=some q->Cf os S k b B->Z.blk b=some B:=by
  intro b q B u A;have Y:b<(S 0).n:=by
   rcases m b q u with h|h
   ·exact h
   ·rcases A with⟨c,_⟩|⟨j,_,d,_,p,_⟩
    ·have:=(J7 l g (i:=k) (j:=os.size) D nL).n;omega
    ·have:=(J7 l g (i:=j+1) (j:=os.size) om nL).n;omega
  rcases A with⟨c,d⟩|⟨j,X,g2,g3,g4,g5⟩
  ·rw[<- z];show ob ((S 0).h.get b) _=_;rw[<- V b Y];exact d
  ·have:=(J7 l g (i:=0) (j:=j) (Af _) om).n;omega
 refine⟨D,fun j c d=>absurd d (J j (Af _) c),fun h=>⟨m4 h,y k⟩,fun j _ _ _=>y j,fun j h=>absurd h (y j),fun _ _=>rfl,?_,Place.le_refl _,?_,rfl,rfl,
  fun b q B c d=>f.KV b q B c (e b q B c d),f.dom,fun b q B c d p=>f.own b q B c (e b q B c d) p,?_,f.low,AP _,fun _ _ _=>rfl,?_,.refl _,fun b c _=>V b c,fun j _ _=>y j,?_⟩
 ·intro i hi _ b c d;have X:=(J7 l g (i:=0) (j:=i) (Af _) om).n;have g2:=(J7 l g (i:=i+1) (j:=os.size) om nL).n;exact Q b (by rw[<- z];omega) om
 ·intro t i hi c d v R;have hz:(F i).get t=(F 0).get t:=RE g (Af _) hi fun j o _ H E s=>y j (c j o H E s);rw[hz,f1]at R;exact qT t v R
 ·intro b q B M U c d p H E s;refine f.sep b q B M U c (e b q B c d) p H E ?_;rcases s with s|⟨K,s⟩
  ·have:=(J7 l g (i:=0) (j:=os.size) (Af _) nL).n;rw[z]at this;exact .inl om
  ·exact .inr ⟨K,e M U K E s⟩
 ·intro b q B c d _;exact⟨b,q,B,c,rfl,by rw[z];exact e b q B c d,fun h=>h⟩
 ·intro i hi _ b c d;exact FE l g d om D fun j _ g2 g3=>absurd g3 (J j (Af _) g2)
def xS {l:List Oper}{i:Nat}:l.toArray[i]? =l[i]? :=sI
def VD (hm:P.follows .mixedOrders=true){call:W8}(X:BW P A9 G call){os:Array Oper}{n id:Nat}{fr:Fr}{Z:St}{v:Res}(h:MW P call os.toList fr Z=some v) :
  Adv Z v.Z/\((∀ o∈os.toList,Ay P n G o=true)->∀ lo tl O a w N rl,Rel A9 O Z w->Cz O Z.n N->v.Z.n<=N->HP O fr a->n<=a.tmps.size->Marks lo w tl a.defers->CL O G ->
   ∀ Q:Exit->Act->World->Prop,jC A9 lo tl O Z w a v Q->(Code.region id os true).wpIn (FW rl) 0 P Q a w):=by
 obtain⟨g,hg,h⟩:=A8 h;obtain⟨hn0,h⟩:=J4 h;obtain⟨r0,-,h⟩:=A8 h;obtain⟨kv,-,h⟩:=A8 h;obtain⟨V,hV,h⟩:=A8 h;obtain⟨hok,h⟩:=J4 h;obtain⟨⟨frE,ZE,ds,p⟩,Gu,h⟩:=A8 h;obtain⟨hrd,h⟩:=J4 (show bb (Ai _ ds ds&&p.isNone) (ob (frE.get g.key) fun kv'=>bb (veq kv' kv) (some ⟨.normal,frE,ZE⟩))=some v from h);obtain⟨kv',BC2,h⟩:=A8 h;obtain⟨BC3,h⟩:=J4 h;cases h;obtain rfl:=cY BC3;rw[T1]at hrd hok hn0;obtain⟨hrd,hpn⟩:=hrd;obtain rfl:p=none:=by simpa using hpn
 obtain⟨C,hD⟩:=hok;obtain⟨a0,a1,a2,a3,a4,a5,a6,a7,a8,H4,hH⟩:=xT hg;generalize hl:os.toList=l at *;have u:W6 l V=a0::a1::EH a2::EH a3::EH a4::EH a5::a6::a7::Oh a8 V::H4:=by rw[hH.eq];rfl
 have Pz:K7 P call (W6 l V).toArray (W6 l V).toArray.toList 0 fr Z []=some ⟨frE,ZE,ds,none⟩:=Gu;generalize B:(W6 l V).toArray=os' at *;obtain⟨F,S,r,z,_,f1,U,b3,H,f6,f7⟩:=Yn os'.toList 0 fr Z [] _ rfl (Af _) Pz;obtain⟨rfl,f3,f4⟩:z=os'.size/\F os'.size=frE/\S os'.size=ZE:=by
  rcases b3 with⟨g1,_,g3,g4⟩|⟨g1,g2,o,s,g3,g4,g5⟩
  ·exact⟨g1,g3,g4⟩
  ·cases g4
 have pY:Adv Z ZE:=by rw[<- U,<- f4];exact J7 X H (Af _) nL
 refine⟨pY,fun Ji lo tl O a w N rl hR hF hN qT hn K hG Q hQ=>?_⟩;have D:∀ i,os[i]? =l[i]? :=fun i=>by rw[<- hl,Array.getElem?_toList]
 have y:∀ i,os'[i]? =(a0::a1::EH a2::EH a3::EH a4::EH a5::a6::a7::Oh a8 V::H4)[i]? :=fun i=>by rw[<- B,xS,u]
 have q:∀ i,os[i]? =(a0::a1::a2::a3::a4::a5::a6::a7::a8::H4)[i]? :=fun i=>by rw[D,hH.eq]
 have A:∀ (i:Nat) (o:Oper),os[i]? =some o->Ay P n G o=true:=fun i o c=>Ji o (by rw[D]at c;exact y6 c);have W:∀ o:Oper,Ay P n G (EH o)=true:=fun _=>rfl;have Y:∀ o:Oper,Ay P n G o=true->Ay P n G (Oh o V)=true:=by
  intro o c;unfold Ay at c ⊢;rw[T1]at c ⊢;exact⟨c.1,rfl⟩
 have hO:∀ (i:Nat) (o:Oper),os'[i]? =some o->Ay P n G o=true:=by
  intro i o c;rw[y]at c
  match i,c with
  |0,c=>cases c;exact A 0 _ (by rw[q];rfl)
  |1,c=>cases c;exact A 1 _ (by rw[q];rfl)
  |2,c=>cases c;exact W _
  |3,c=>cases c;exact W _
  |4,c=>cases c;exact W _
  |5,c=>cases c;exact W _
  |6,c=>cases c;exact A 6 _ (by rw[q];rfl)
  |7,c=>cases c;exact A 7 _ (by rw[q];rfl)
  |8,c=>cases c;exact Y _ (A 8 _ (by rw[q];rfl))
  |i+9,c=>exact A (i+9) _ (by rw[q];exact c)
 have hX:Ctx P A9 G n call os' F S r os'.size:=by
  refine⟨X,hO,Oe hD,H,?_,by rw[U];exact hR.fresh⟩;intro i b j s s' h1 h2 h3 h4 hi hj;rcases US hrd ((f7 i s (Af _) hi h1).1 b h2) ((f7 j s' (Af _) hj h3).2 h4)with I|I
  ·left;change bi (Nat.testBit ((Region.before os').toList.getD j 0) i) true (Nat.testBit ((Region.before os').toList.getD i 0) j)=true at I;cases hb:Nat.testBit ((Region.before os').toList.getD j 0) i with
   |true=>exact .inl hb
   |false=>rw[hb]at I;exact .inr I
  ·right;intro R;rcases I R with h6|h6
   ·rcases(Gj X H hj).1.ver b.b R with h7|h7
    ·exact(RZ h7).symm
    ·omega
   ·exact h6
 unfold pH at C;simp only[T1,GH]at C;obtain⟨q1,q2,q3,q4⟩:=C;rw[hH.eq]at q4;change qs a8 g.key (W6 (a0::a1::a2::a3::a4::a5::a6::a7::a8::H4) V) 0=true at q4;rw[<- hH.eq,u]at q4;rw[u]at q2 q3;have L:∀ (i:Nat) (o:Oper),os[i]? =some o->o.guard=none:=fun i o c=>by
  have:=(q1 o (by rw[D]at c;exact y6 c)).1
  simpa using this
 have M:∀ (j:Nat) (o:Oper),os'[j]? =some o->o.dst=some g.key->j<8/\DS a8 j=true:=fun j o c K=>by
  have:=xR q4 j o (by rw[<- y];exact c) K;rw[Eo]at this;exact this
 have b5:os'.size=os.size:=by
  have e1:os'.size=(W6 l V).length:=by rw[<- B];simp
  have e2:os.size=l.length:=by rw[<- hl];simp
  rw[e1,e2,u,hH.eq];rfl
 obtain⟨a9,b0,kt,el,b1,b2,r1,r2,v1,v2,v3,v4,v5,v6,v7,v8,v9,b6,b7,b8,b9⟩:=qu hV;have d2:=A 2 a2 (by rw[q];rfl);have d5:=A 5 a5 (by rw[q];rfl);have b4:GhX P A9 G n call os os' F S r g V kv' a9 b0 a8:=by
  refine⟨hX,b5,?_,?_,L,fun j o c=>?_,?_,⟨a2,by rw[q];rfl,by rw[y];rfl,hH.d2,hH.o2⟩,⟨a3,by rw[q];rfl,by rw[y];rfl,hH.d3,hH.o3,hH.e32⟩,⟨a4,by rw[q];rfl,by rw[y];rfl,hH.d4,hH.o4,hH.e42⟩,⟨a5,by rw[q];rfl,by rw[y];rfl,hH.d5,hH.o5,hH.e53,hH.e54⟩,
   ⟨by rw[q];rfl,by rw[y];rfl,hH.o8,hH.e85⟩,M,?_,RH d2 _ hH.d2,RH d5 _ hH.d5,?_,⟨kt,el,b1,b2,r1,r2,v1,v2,v3,v4,v5,v6,v7,v8,v9,b6,b7,b8⟩,b9⟩
  ·intro i o i2 i3 i4 i5 i8 c;rw[q]at c;rw[y]
   match i,c with
   |0,c=>exact c
   |1,c=>exact c
   |2,c=>exact absurd rfl i2
   |3,c=>exact absurd rfl i3
   |4,c=>exact absurd rfl i4
   |5,c=>exact absurd rfl i5
   |6,c=>exact c
   |7,c=>exact c
   |8,c=>exact absurd rfl i8
   |i+9,c=>exact c
  ·intro i o o' c d;have f:=L i o c;rw[q]at c;rw[y]at d
   match i,c,d with
   |0,c,d=>cases c;cases d;exact⟨rfl,f⟩
   |1,c,d=>cases c;cases d;exact⟨rfl,f⟩
   |2,c,d=>cases c;cases d;exact⟨rfl,f⟩
   |3,c,d=>cases c;cases d;exact⟨rfl,f⟩
   |4,c,d=>cases c;cases d;exact⟨rfl,f⟩
   |5,c,d=>cases c;cases d;exact⟨rfl,f⟩
   |6,c,d=>cases c;cases d;exact⟨rfl,f⟩
   |7,c,d=>cases c;cases d;exact⟨rfl,f⟩
   |8,c,d=>cases c;cases d;exact⟨rfl,f⟩
   | i+9,c,d=>
     have e:o=o':=z8z (c.symm.trans d);subst e;exact⟨rfl,f⟩
  ·rw[y]at c;exact⟨Nv (q2 o (y6 c)),Nv (q3 o (y6 c))⟩
  ·rw[f1];exact⟨by simpa using hn0.1,by simpa using hn0.2⟩
  ·rw[<- RE H (t:=g.key) (p:=8) (m:=os'.size) (by
    have e1:os'.size=(W6 l V).length:=by rw[<- B];simp
    rw[e1,u];simp) nL (fun j o h1 _ c K=>by have:=(M j o c K).1;omega),f3]
   exact BC2
  ·have:=(q1 a2 (by rw[hH.eq];simp)).2;intro he;rw[he]at this;simp at this
 refine wpIn_region_any hm ?_;obtain⟨k,m1,m2,m3,m4⟩:=Mv r os'.size os'.size 0 om;have J:Rel A9 O Z w.drew:=hR.heap rfl;have E:∀ j,¬ (Array.replicate os.size false).getD j false=true:=by
  intro j;rw[HU,Array.getElem?_replicate];split<;>simp
 refine cZ (O₀:=O) (a₀:=a) (w₀:=w.drew) b4 hn hG J.low.1 (Q:=Q) (fun O' a' w' q1 q2 q3 q4 q5=>?_) os.size _ O a w.drew k (by simp) (by simp) ?_ ?_
 ·rw[f4]at q1 q2;rw[U]at q2;rw[f3]at q3;exact hQ .normal a' w' O' rfl q1 q2.drew q3 q4 (by rw[q5];exact K.qR hR q2.drew)
 ·exact kg X f1 U H (by rw[f4];exact AP _) J hF hN qT m2 m3 m4 _ E
 ·exact⟨fun h=>absurd h (E 3),fun h=>absurd h (E 4),fun h=>absurd h (E 5),fun h=>absurd h (E 2)⟩
end
end Go.Ab
namespace Go.Ab
open Go
section
variable {P:Program}{A9:Env}{G:Nat}
def Wv {F:Fence}{n:Nat}{Q:Exit->Act->World->Prop}{a:Act}{w:World}{c:Code}(h:c.wpIn F n P (fun e a w=>(∀ l,e≠ .goto l)/\Q e a w) a w):(Code.scope c).wpIn F n P Q a w:=by
 intro b k cs s o q;have i:(lone (b.atR a (.code (.scope c)::k)) cs w).fenced P F:=fenced_calm o q rfl;have j:_root_.Go.step P (lone (b.atR a (.code (.scope c)::k)) cs w)= .next (lone (b.atR a (.code c:: .inScope c::k)) cs w):=step_lone_go (by simp[stepG,stepG.exec,Frame.atR]);obtain⟨e,d,f,⟨v,m⟩,g⟩:=h b (.inScope c::k) cs s o q;cases e with
 |normal=>exact⟨.normal,d,f,m,.head i j (StepsIn.trans g (.one (fenced_calm o q rfl) (step_lone_go (by simp[stepG,stepG.exec,Frame.atR]))))⟩
 | exit id=>
   have u:exitTo id (.inScope c::k)=exitTo id k:=by simp[exitTo]
   exact⟨_,d,f,m,fun k' p=> .head i j (g.1 k' (by rw[u];exact p)),
    fun r p=>let ⟨k₁,g1,g2⟩:=g.2 r (by rw[u];exact p);⟨k₁,g1,.head i j g2⟩⟩
 |goto l=>exact absurd rfl (v l)
 |ret=>exact⟨_,d,f,m,.of_steps (.one i j) g⟩
 |panic y=>exact⟨_,d,f,m,.of_steps (.one i j) g⟩
 |outgrown=>exact⟨_,d,f,m,.of_steps (.one i j) g⟩
def JU (P:Program) (A9:Env) (G:Nat) (H:EP):Prop :=
 ∀ g s,H g=some s->∀ run,QD P A9 G run->∀ vs Z r,s.f run vs Z=some r->Adv Z r.Z/\∀ O w vs' N,Rel A9 O Z w->Cz O Z.n N->r.Z.n<=N->CL O G->H8 O vs vs'->CM P A9 O g vs' Z w r
def Kd {H:EP}{run:RunT}(Q:QD P A9 G run) (MV:∀ n c,A9.chk n c=codeOk P n G c) (hP:GK P H G P.funcs.toList 0=true) (Y:JU P A9 G H):BW P A9 G (Dc P H run):=by
 intro t vs Z r h;cases t with
 | fn g=>
   have h:OJ P H run g vs Z=some r:=h;unfold OJ at h;cases z:H g with
   |some s=>rw[z]at h;exact Y g s z run Q vs Z r h
   | none =>
     rw[z]at h;obtain⟨fn,p,m⟩:=A8 (show ob (P.funcs[g]?) _=some r from h);clear h;have a:=Ww hP g fn (by rw[<- Array.getElem?_toList]at p;exact p) (by rw[Eo];exact z);unfold VC at a;cases A:(fn.name== "runtime.NumGoroutine")with
     |true=>rw[A]at a;cases a
     | false=>
       rw[A]at a;cases y:fn.body with
       | none=>
         rw[y]at m;obtain⟨C,l⟩:=J4 (show bb (TR vs) _=some r from m);obtain⟨u,h4,h5⟩:=A8 l;obtain⟨d,f⟩:=J4 h5;cases f;refine⟨.refl _,fun O w vs' N V R U S B=>⟨fn,p,A,.inr ⟨u,?_,rfl,rfl,J5.out d⟩⟩⟩;have:=B.flat C;subst this;unfold Ke at h4;split at h4
         ·rename_i x hx;cases h4;exact FM _ hx w
         ·cases h4
       | some body=>
         rw[y]at m a;change codeOk P fn.ntmps G body=true at a;obtain⟨⟨o,fr,b⟩,C,l⟩:=A8 (show ob (run none body (Fq vs 0 .nil) Z) (ER P fn)=some r from m);clear m;obtain⟨g1,g2⟩:=Q none body _ Z _ C;have F:r.Z=b/\((∃ us,IX P fr b fn.results.toList=some us/\r.v=tup us/\r.pan=false/\(o= .normal\/o= .ret))\/(r.pan=true/\o= .pan r.v)):=by
          cases o with
          |normal=>obtain⟨us,d,f⟩:=A8 (show ob (IX P fr b fn.results.toList) _=some r from l);cases f;exact⟨rfl,.inl ⟨us,d,rfl,rfl,.inl rfl⟩⟩
          |ret=>obtain⟨us,d,f⟩:=A8 (show ob (IX P fr b fn.results.toList) _=some r from l);cases f;exact⟨rfl,.inl ⟨us,d,rfl,rfl,.inr rfl⟩⟩
          |exit i=>cases l
          |pan v=>cases l;exact⟨rfl,.inr ⟨rfl,rfl⟩⟩
         obtain⟨I,F⟩:=F;obtain⟨rp,rv,rZ⟩:=r;cases(show rZ=b from I);refine⟨g1,fun O w vs' N V R U S B=>⟨fn,p,A,.inl ⟨by rw[y];rfl,(callsIn_wide (n:=0)).1 (callsIn_of_wp_marks p y trivial ?_)⟩⟩⟩;have hl:=B.length;refine g2 fn.ntmps a w.heap.size [] O _ w N none nL V R U ?_ ?_ (.nil _ _ _) S rfl _ fun e a' w' j M q1 q2 q3 q4 q5=>?_
         ·intro t u q;rw[Wx]at q;by_cases ht:0<=t/\t<0+vs.length
          ·rw[z1z ht]at q;obtain⟨X,K,L⟩:=B.get q;refine⟨X,?_,L⟩;show((⟨vs'⟩:Array Value)++Array.replicate _ undef)[t]? =some X;rw[Array.getElem?_append_left (by simp;omega)]
           simpa using K
          ·rw[z0z ht]at q;cases q
         ·show fn.ntmps<=((⟨vs'⟩:Array Value)++Array.replicate (fn.ntmps-(⟨vs'⟩:Array Value).size) undef).size;rw[Wm,eH];omega
         ·have W:a'.defers=[]:=q5;rcases F with⟨us,d,f,D,E⟩|⟨D,E⟩
          ·cases(show rv=tup us from f);cases(show rp=false from D);have key:LeavesInM Fence.wide 0 P fn a'.tmps (fun e w'=>∃ v' j,e=ended false v'/\Rel A9 j b w'/\AS O Z w j b w'/\J5 j (tup us) v') a'.defers .returning w':=by
            rw[W];obtain⟨v',K,L⟩:=HO (P:=P) q1 q3 d;exact⟨v',K,v',j,rfl,q1,q2,L⟩
           rcases E with rfl|rfl
           ·cases(show e= .normal from M);exact key
           ·cases(show e= .ret from M);exact key
          ·cases(show rp=true from D);cases(show o= .pan rv from E);obtain⟨v',rfl,J⟩:=M;show LeavesInM Fence.wide 0 P fn a'.tmps _ a'.defers (.panicking _) w';rw[W];exact⟨v',j,rfl,q1,q2,J⟩
def nR (P:Program) (A9:Env) (G:Nat) (run:RunT):Prop :=
 ∀ rd c fr Z res,run rd (.loop c) fr Z=some res->Adv Z res.Z/\∀ n,codeOk P n G c=true->∃ m,∀ lo tl O a w N rl,lo<=w.heap.size->Rel A9 O Z w->Cz O Z.n N->res.Z.n<=N->HP O fr a->n<=a.tmps.size->Marks lo w tl a.defers->CL O G->jB O rd rl ->
  ∀ Q:Exit->Act->World->Prop,jC A9 lo tl O Z w a res Q->Code.roundsIn (FW rl) 0 P c Q m a w
def ui (hm:P.follows .mixedOrders=true){H:EP}(MV:∀ n c,A9.chk n c=codeOk P n G c) (hP:GK P H G P.funcs.toList 0=true) (hH:JU P A9 G H):∀ f,QD P A9 G (exec P H f)/\nR P A9 G (exec P H f):=by
 intro f;induction f with
 | zero=>
   constructor
   ·intro M c fr Z res h;cases h
   ·intro M c fr Z res h;cases h
 | succ f ih=>
   obtain⟨V,a7⟩:=ih;have hC:=Kd (H:=H) V MV hP hH;have a5:nR P A9 G (exec P H (f+1)):=by
    intro M c fr Z res h;obtain⟨⟨o,R,Y⟩,h1,L⟩:=A8 (show ob (exec P H f M c fr Z) (fun r=>AI r (exec P H f M (.loop c)))=some res from h);obtain⟨U,g2⟩:=V M c fr Z _ h1;cases o with
    | normal=>
      change exec P H f M (.loop c) R Y=some res at L;obtain⟨k1,k2⟩:=a7 M c R Y res L;refine⟨U.trans k1,fun n I=>?_⟩;obtain⟨m,k2⟩:=k2 n I;refine⟨m+1,fun lo s O a w N q b B j E g F D p d Q A=>?_⟩;have W:Y.n<=N:=W5 k1.n E;refine g2 n I lo s O a w N q b B j W g F D p d _ fun e a' w' S J q1 q2 q3 q4 q5=>?_;cases(show e= .normal from J);exact k2 lo s S a' w' N q (W5 b q2.size) q1 (q2.free j) E q3 (by rw[q4];exact F) q5 (p.mono (q2.le j W)) (d.mono (q2.le j W)) Q fun e a2 a4 a1 p0 p1 p2 p3 p4 p5=>A e a2 a4 a1 p0 p1 (q2.trans p2) p3 (by rw[p4,q4]) p5
    | exit i=>
      cases L;refine⟨U,fun n I=>⟨1,fun lo s O a w N q b B j E g F D p d Q A=>g2 n I lo s O a w N q b B j E g F D p d _ fun e a' w' S J q1 q2 q3 q4 q5=>?_⟩⟩;cases(show e= .exit i from J);exact A _ a' w' S rfl q1 q2 q3 q4 q5
    | ret=>
      cases L;refine⟨U,fun n I=>⟨1,fun lo s O a w N q b B j E g F D p d Q A=>g2 n I lo s O a w N q b B j E g F D p d _ fun e a' w' S J q1 q2 q3 q4 q5=>?_⟩⟩;cases(show e= .ret from J);exact A _ a' w' S rfl q1 q2 q3 q4 q5
    | pan v=>
      cases L;refine⟨U,fun n I=>⟨1,fun lo s O a w N q b B j E g F D p d Q A=>g2 n I lo s O a w N q b B j E g F D p d _ fun e a' w' S J q1 q2 q3 q4 q5=>?_⟩⟩;obtain⟨v',rfl,hv⟩:=J;exact A _ a' w' S ⟨v',rfl,hv⟩ q1 q2 q3 q4 q5
   refine⟨?_,a5⟩;intro M c fr Z res h;cases c with
   |skip=>cases h;exact⟨.refl _,fun n I lo s O a w N q b B j E g F D p d Q A=>wpIn_skip (A .normal a w O rfl B (.refl _ _ _) g rfl D)⟩
   |label l=>cases h;exact⟨.refl _,fun n I lo s O a w N q b B j E g F D p d Q A=>wpIn_label (A .normal a w O rfl B (.refl _ _ _) g rfl D)⟩
   |exit id=>cases h;exact⟨.refl _,fun n I lo s O a w N q b B j E g F D p d Q A=>wpIn_exit (A (.exit id) a w O rfl B (.refl _ _ _) g rfl D)⟩
   |ret=>cases h;exact⟨.refl _,fun n I lo s O a w N q b B j E g F D p d Q A=>wpIn_ret (A .ret a w O rfl B (.refl _ _ _) g rfl D)⟩
   | region id os draw=>
     cases draw with
     | false=>
       have h:opsV P (Dc P H (exec P H f)) os os.toList fr Z=some res:=h;have pl:=fun n=>jD (n:=n) hC os.toList fr Z _ h;refine⟨(pl 0).1,fun n I lo s O a w N q b B j E g F D p d Q A=>?_⟩;obtain⟨C,K⟩:=Y5 (show bi (os.toList.all (Ay P n G)) _ false=true from I);rw[GH]at C;exact wpIn_region_list ((pl n).2 C lo s O a w N q B j E g F D p Q A)
     | true=>
       have h:bi (Dd os.toList) (MW P (Dc P H (exec P H f)) os.toList fr Z) (drawn os (K7 P (Dc P H (exec P H f)) os os.toList 0 fr Z []))=some res:=h;cases a3:Dd os.toList with
       | true=>
         rw[a3]at h;have pl:=fun n=>VD (P:=P) (A9:=A9) (G:=G) (n:=n) hm hC (id:=id) h;refine⟨(pl 0).1,fun n I lo s O a w N q b B j E g F D p d Q A=>?_⟩;obtain⟨C,K⟩:=Y5 (show bi (os.toList.all (Ay P n G)) _ false=true from I);rw[GH]at C;exact(pl n).2 (fun o ho=>C o ho) lo s O a w N q B j E g F D p Q A
       | false=>
         rw[a3]at h;have h:drawn os (K7 P (Dc P H (exec P H f)) os os.toList 0 fr Z [])=some res:=h;obtain⟨⟨R,Y,ds⟩,h1,L⟩:=A8 h;obtain⟨h3,h4⟩:=J4 (show bb (Ai (Region.before os).toList ds ds) _=some res from L);cases h4;have pl:=fun n=>Wy (P:=P) (A9:=A9) (G:=G) (n:=n) hm hC (id:=id) h1 h3;refine⟨(pl 0).1,fun n I lo s O a w N q b B j E g F D p d Q A=>?_⟩;obtain⟨C,K⟩:=Y5 (show bi (os.toList.all (Ay P n G)) (bi true (bi (Dd os.toList) true (JV os)) true) false=true from I);rw[a3]at K;rw[GH]at C;exact(pl n).2 (fun o ho=>C o ho) K lo s O a w N q B j E g F D p Q A
   | seq x y=>
     obtain⟨⟨o,R,Y⟩,h1,L⟩:=A8 (show ob (exec P H f M x fr Z) (fun r=>AI r (exec P H f M y))=some res from h);obtain⟨U,g2⟩:=V M x fr Z _ h1;cases o with
     | normal=>
       change exec P H f M y R Y=some res at L;obtain⟨k1,k2⟩:=V M y R Y res L;refine⟨U.trans k1,fun n I lo s O a w N q b B j E g F D p d Q A=>wpIn_seq ?_⟩;obtain⟨C,K⟩:=Y5 (show bi (codeOk P n G x) (codeOk P n G y) false=true from I);have W:Y.n<=N:=W5 k1.n E;refine g2 n C lo s O a w N q b B j W g F D p d _ fun e a' w' S J q1 q2 q3 q4 q5=>?_;cases(show e= .normal from J);exact k2 n K lo s S a' w' N q (W5 b q2.size) q1 (q2.free j) E q3 (by rw[q4];exact F) q5 (p.mono (q2.le j W)) (d.mono (q2.le j W)) Q fun e a2 a4 a1 p0 p1 p2 p3 p4 p5=>A e a2 a4 a1 p0 p1 (q2.trans p2) p3 (by rw[p4,q4]) p5
     | exit i=>
       cases L;refine⟨U,fun n I lo s O a w N q b B j E g F D p d Q A=>wpIn_seq ?_⟩;obtain⟨C,K⟩:=Y5 (show bi (codeOk P n G x) (codeOk P n G y) false=true from I);refine g2 n C lo s O a w N q b B j E g F D p d _ fun e a' w' S J q1 q2 q3 q4 q5=>?_;cases(show e= .exit i from J);exact A _ a' w' S rfl q1 q2 q3 q4 q5
     | ret=>
       cases L;refine⟨U,fun n I lo s O a w N q b B j E g F D p d Q A=>wpIn_seq ?_⟩;obtain⟨C,K⟩:=Y5 (show bi (codeOk P n G x) (codeOk P n G y) false=true from I);refine g2 n C lo s O a w N q b B j E g F D p d _ fun e a' w' S J q1 q2 q3 q4 q5=>?_;cases(show e= .ret from J);exact A _ a' w' S rfl q1 q2 q3 q4 q5
     | pan v=>
       cases L;refine⟨U,fun n I lo s O a w N q b B j E g F D p d Q A=>wpIn_seq ?_⟩;obtain⟨C,K⟩:=Y5 (show bi (codeOk P n G x) (codeOk P n G y) false=true from I);refine g2 n C lo s O a w N q b B j E g F D p d _ fun e a' w' S J q1 q2 q3 q4 q5=>?_;obtain⟨v',rfl,hv⟩:=J;exact A _ a' w' S ⟨v',rfl,hv⟩ q1 q2 q3 q4 q5
   | cond x y z=>
     obtain⟨v,h1,L⟩:=A8 (show ob (ev fr x) (fun v=>ob (bool? v) fun t=>bi t (exec P H f M y fr Z) (exec P H f M z fr Z))=some res from h);obtain⟨t,h3,h4⟩:=A8 L;have a6:∀ O (a:Act),LZ G x=true->HP O fr a->CL O G->a.eval x= .bool t:=by
      intro O a a0 g p;have hv:=nT (a:=a) p a0 (fun u _ v hv=>g u v hv) h1;unfold bool? at h3;split at h3
      ·cases h3;generalize a.eval x=y at hv;cases hv;rfl
      ·cases h3
     cases t with
     | true=>
       obtain⟨U,g2⟩:=V M y fr Z res h4;refine⟨U,fun n I lo s O a w N q b B j E g F D p d Q A=>?_⟩;obtain⟨a0,hc'⟩:=Y5 (show bi (LZ G x) (bi (codeOk P n G y) (codeOk P n G z) false) false=true from I);obtain⟨C,K⟩:=Y5 hc';exact wpIn_cond_true (a6 O a a0 g p) (g2 n C lo s O a w N q b B j E g F D p d Q A)
     | false=>
       obtain⟨U,g2⟩:=V M z fr Z res h4;refine⟨U,fun n I lo s O a w N q b B j E g F D p d Q A=>?_⟩;obtain⟨a0,hc'⟩:=Y5 (show bi (LZ G x) (bi (codeOk P n G y) (codeOk P n G z) false) false=true from I);obtain⟨C,K⟩:=Y5 hc';exact wpIn_cond_false (a6 O a a0 g p) (g2 n K lo s O a w N q b B j E g F D p d Q A)
   | block id x=>
     obtain⟨⟨o,R,Y⟩,h1,L⟩:=A8 (show ob (exec P H f M x fr Z) (Fs id)=some res from h);obtain⟨U,g2⟩:=V M x fr Z _ h1
     have key:∀ o',res=⟨o',R,Y⟩->(∀ (O:Place) (e:Exit),ExR O o e->∀ (Q:Exit->Act->World->Prop) (a':Act) (w':World),(∀ e',ExR O o' e'->Q e' a' w')->Exit.inBlock id Q e a' w')->Adv Z res.Z/\∀ n,codeOk P n G (.block id x)=true->∀ lo s O a w N q,lo<=w.heap.size->Rel A9 O Z w->Cz O Z.n N->res.Z.n<=N->HP O fr a->n<=a.tmps.size->Marks lo w s a.defers->CL O G->jB O M q ->
       ∀ Q:Exit->Act->World->Prop,jC A9 lo s O Z w a res Q->(Code.block id x).wpIn (FW q) 0 P Q a w:=by
      rintro o' rfl hk;refine⟨U,fun n I lo s O a w N q b B j E g F D p d Q A=>wpIn_block ?_⟩;exact g2 n I lo s O a w N q b B j E g F D p d _ fun e a' w' S J q1 q2 q3 q4 q5=>hk S e J Q a' w' fun e' X=>A e' a' w' S X q1 q2 q3 q4 q5
     cases o with
     | normal=>
       cases L;refine key .normal rfl fun O e X Q a' w' k=>?_;cases(show e= .normal from X);exact k .normal rfl
     | ret=>
       cases L;refine key .ret rfl fun O e X Q a' w' k=>?_;cases(show e= .ret from X);exact k .ret rfl
     | pan v=>
       cases L;refine key (.pan v) rfl fun O e X Q a' w' k=>?_;obtain⟨v',rfl,hv⟩:=X;exact k _ ⟨v',rfl,hv⟩
     | exit i=>
       change bi (Nat.beq i id) (some ⟨.normal,R,Y⟩) (some ⟨.exit i,R,Y⟩)=some res at L;cases hb:Nat.beq i id with
       | true=>
         rw[hb]at L;cases L;have:=Ac hb;subst this;refine key .normal rfl fun O e X Q a' w' k=>?_;cases(show e= .exit i from X);show(if i=i then Q .normal a' w' else Q (.exit i) a' w');rw[z1z rfl];exact k .normal rfl
       | false=>
         rw[hb]at L;cases L;refine key (.exit i) rfl fun O e X Q a' w' k=>?_;cases(show e= .exit i from X);show(if i=id then Q .normal a' w' else Q (.exit i) a' w');rw[z0z (fun X=>by subst X;simp at hb)];exact k (.exit i) rfl
   | loop x=>
     obtain⟨U,g2⟩:=a5 M x fr Z res h;refine⟨U,fun n I lo s O a w N q b B j E g F D p d Q A=>?_⟩;obtain⟨m,g2⟩:=g2 n I;exact wpIn_loop_rounds m (g2 lo s O a w N q b B j E g F D p d Q A)
   | scope x=>
     obtain⟨U,g2⟩:=V M x fr Z res (show exec P H f M x fr Z=some res from h);refine⟨U,fun n I lo s O a w N q b B j E g F D p d Q A=>Wv ?_⟩;refine g2 n I lo s O a w N q b B j E g F D p d _ fun e a' w' S J q1 q2 q3 q4 q5=>⟨fun l X=>?_,A e a' w' S J q1 q2 q3 q4 q5⟩
     subst X;cases ho:res.o with
     |normal=>rw[ho]at J;cases J
     |exit i=>rw[ho]at J;cases J
     |ret=>rw[ho]at J;cases J
     |pan v=>rw[ho]at J;obtain⟨v',h,_⟩:=J;cases h
   |_=>cases h
def Wz (e:P.follows .mixedOrders=true){H:EP}(a:∀ n c,A9.chk n c=codeOk P n G c) (d:GK P H G P.funcs.toList 0=true) (b:JU P A9 G H) (f:Nat):BW P A9 G (Dc P H (exec P H f)) :=
 Kd (ui e a d b f).1 a d b
end
end Go.Ab
