/- One operation of the abstract machine, of Ia kind. -/
import Derived.Test.YtgjocfjdecjhoaaGreatDoorIAbA
import Derived.OrdersIn
import Derived.LoopNIn
import Derived.TacticsIn
import Derived.Below
set_option linter.unusedSimpArgs false
set_option linter.unusedVariables false
set_option linter.defProp false
set_option maxHeartbeats 32000000
set_option maxRecDepth 100000
namespace Go.Ab
open Go
section
variable {Z Z':St}{v:Value}{fr:Fr}{b:Nat}{x:Operand}{o:Oper}{O:Place}
structure Adv (Z Z':St):Prop where
 n:Z.n<=Z'.n
 ver:∀ b,b<Z.n->Z'.h.get b=Z.h.get b\/Z.ver b<Z'.ver b
 fresh:(∀ b,Z.n<=b->Z.h.get b=none)->∀ b,Z'.n<=b->Z'.h.get b=none
def Adv.refl (Z:St):Adv Z Z:=⟨Bh _,fun _ _=> .inl rfl,fun h=>h⟩
def rX (h:Z'.h.get b=Z.h.get b):Z'.ver b=Z.ver b:=by unfold St.ver;rw[h]
def Adv.le (h:Adv Z Z')(c:b<Z.n):Z.ver b<=Z'.ver b:=by
 rcases h.ver b c with a|a
 ·rw[rX a];exact Bh _
 ·omega
def Adv.trans {a:St}(h:Adv Z Z') (k:Adv Z' a):Adv Z a:=by
 refine⟨j9 h.n k.n,fun b e=>?_,fun g=>k.fresh (h.fresh g)⟩;have f:=z5z e h.n;rcases k.ver b f with c|c
 ·rcases h.ver b e with d|d
  ·exact .inl (c.trans d)
  ·exact .inr (by rw[rX c];exact d)
 ·exact .inr (Nat.lt_of_le_of_lt (h.le e) c)
def Adv.new (Z:St) (cs:List Value) (k:Kind:= .row none):Adv Z (Z.Dt cs k) :=
 ⟨Nat.le_succ _,fun b a=> .inl (Tr.M7 _ _ om),fun c b a=>by
  change Z.n+1<=b at a;show(Z.h.set Z.n _).get b=none;rw[Tr.M7 _ _ om];exact c b om⟩
def Adv.set {B d:Blk}(f:Z.blk b=some B) (m:d.ver=B.ver+1):Adv Z ⟨Z.h.set b d,Z.n⟩:=by
 refine⟨Bh _,fun a e=>?_,fun g a e=>?_⟩
 ·by_cases c:a=b
  ·subst c;right;have k:=(AM f).1;have i:Z.ver a=B.ver:=by unfold St.ver;rw[k]
   have j:(⟨Z.h.set a d,Z.n⟩:St).ver a=d.ver:=by
    show(match (Z.h.set a d).get a with|some B=>B.ver|none=>0)=_;rw[Tr.get_set_same]
   rw[i,j,m];omega
  ·exact .inl (Tr.M7 _ _ c)
 ·change Z.n<=a at e;show(Z.h.set b d).get a=none;have c:a≠b:=by
   intro l;subst l;have:=g a e;rw[(AM f).1]at this;cases this
  rw[Tr.M7 _ _ c];exact g a e
def Adv.write {off:Nat}{c:List Value}(h:Z.write b off c=some Z'):Adv Z Z':=by
 obtain⟨B,cs,a,d,e,f,rfl⟩:=Jv h;exact .set (AH a).1 rfl
def Adv.kill (h:Z.kill b=some Z'):Adv Z Z':=by
 obtain⟨B,a,c,rfl⟩:=Gz h;exact .set (AH a).1 rfl
section
variable {P:Program}{B8:Env}{G:Nat}
def Bw (O:Place) (G:Nat):Prop:=∀ g,g<G->∃ m,O g=some ⟨g,0,m⟩/\(g=0->G=10->m=20)
def Bw.mono {a:Place}{G:Nat}(d:O.le a) (h:Bw O G):Bw a G:=fun g c=>let ⟨m,h1,h2⟩:=h g c;⟨m,d _ _ h1,h2⟩
def ended (a:Bool) (v':Value):Ending:=match a with
 |true=> .panicked [{ v:=v',recovered:=false }]
 |false=> .returned v'
def eJ (v':Value):Exit:= .panic [{ v:=v',recovered:=false }]
def FW (r:Option Nat):Fence:={ Fence.wide with round:=r }
def CW (P:Program) (B8:Env) (O:Place) (g:Nat) (vs':List Value) (Z:St) (w:World) (r:CR):Prop :=
 ∃ fn,P.funcs[g]? =some fn/\(fn.name== "runtime.NumGoroutine")=false /\
  ((fn.body.isSome=true/\Calls P g ⟨vs'⟩ w fun e w'=>∃ v' O',e=ended r.pan v'/\Rel B8 O' r.Z w'/\Y6 O Z w O' r.Z w'/\I0 O' r.v v') \/
   (∃ v',(callFunc g ⟨vs'⟩).run P w= .ok (.value v') w/\r.Z=Z/\r.pan=false/\I0 O r.v v'))
def iz (P:Program) (B8:Env) (O:Place) (l:Nat) (vs':List Value) (Z:St) (w:World) (r:CR):Prop :=
 ∃ f tmps assign body,(Instr.yield l ⟨vs'⟩).run P w= .ok (.round l f tmps assign body) w /\
  RoundIn Fence.wide 0 P l f tmps assign body w fun e w'=>∃ v' O',e=ended r.pan v'/\Rel B8 O' r.Z w'/\Y6 O Z w O' r.Z w'/\I0 O' r.v v'
def Ar3 (P:Program) (B8:Env) (O:Place) (t:Tgt) (vs':List Value) (Z:St) (w:World) (r:CR):Prop:=match t with
 | .fn g=>CW P B8 O g vs' Z w r
 | .yld b=>∀ q,O b=some q->iz P B8 O q.c vs' Z w r
def BE (P:Program) (B8:Env) (G:Nat) (call:Y4):Prop :=
 ∀ t vs Z r,call t vs Z=some r->Adv Z r.Z/\∀ O w vs' N,Rel B8 O Z w->Co O Z.n N->r.Z.n<=N->Bw O G->F8 O vs vs'->Ar3 P B8 O t vs' Z w r
def rY (P:Program) (fr:Fr) (o:Oper) (v:Value):Prop:=∀ O e w,K5 O fr e o.op.operands.toList->BM P O e o w v
def NewFact (P:Program) (fr:Fr) (o:Oper) (cs:List Value) (a:Nat->Value) (t:Option TypeId:=none):Prop:=∀ O e w,K5 O fr e o.op.operands.toList->JU P O e o w cs a t
def Sa (P:Program) (fr:Fr) (Z:St) (o:Oper) (v:Value) (r:Ay):Prop :=
 (∃ cs,Z.read r.b r.off r.n=some cs)/\∀ O e w,K5 O fr e o.op.operands.toList->(∃ q,O r.b=some q)/\((∀ q cs,O r.b=some q->Z.read r.b r.off r.n=some cs->Seg O w q r.off cs)->BM P O e o w v)
def XK (P:Program) (B8:Env) (G:Nat) (fr:Fr) (Z:St) (o:Oper) (v:Value) (Z':St):Prop :=
 Adv Z Z'/\DZ o.op=true/\∀ O (a:Act) w N,K5 O fr a.eval o.op.operands.toList->Rel B8 O Z w->Co O Z.n N->Z'.n<=N->Bw O G ->
  ∀ (rd:Option Nat) (next:Act->World->Prop) (Q:Exit->Act->World->Prop),(∀ v' w' O',Rel B8 O' Z' w'->Y6 O Z w O' Z' w'->I0 O' v v'->next (a.put o.dst v') w')->o.wpIn (FW rd) 0 P a w next Q
def XL (P:Program) (B8:Env) (G:Nat) (fr:Fr) (Z:St) (o:Oper) (v:Value) (Z':St):Prop :=
 Adv Z Z'/\∀ O (a:Act) w N,K5 O fr a.eval o.op.operands.toList->Rel B8 O Z w->Co O Z.n N->Z'.n<=N->Bw O G ->
  ∀ (rd:Option Nat) (next:Act->World->Prop) (Q:Exit->Act->World->Prop),(∀ v' w' O',Rel B8 O' Z' w'->Y6 O Z w O' Z' w'->I0 O' v v'->Q (eJ v') a w')->o.wpIn (FW rd) 0 P a w next Q
def Bb {d:Option Nat}{a:Act}{w:World}{o:Oper}{next:Act->World->Prop}{Q:Exit->Act->World->Prop}(e:∀ c,o.op≠ .defer c)
  (h:o.uponIn (FW d) 0 P a next Q ((execOp a.eval o).run P w)):o.wpIn (FW d) 0 P a w next Q:=by
 refine⟨fun _ _=>trivial,?_⟩;rw[Oper.semAt_eq _ _ _ e];exact h
def Fu {fr:Fr}{Z Z':St}{o:Oper}{v:Value}(r:∀ c,o.op≠ .defer c) (j:Adv Z Z') (k:DZ o.op=true)
  (l:∀ O e w N,K5 O fr e o.op.operands.toList->Rel B8 O Z w->Co O Z.n N->Z'.n<=N->LQ P B8 O e o Z w Z' v):XK P B8 G fr Z o v Z':=by
 refine⟨j,k,fun O a w N s q m p B C next Q f=>Bb r ?_⟩;obtain⟨w',z,v',A,y,d,g,h,i⟩:=l O a.eval w N s q m p;rw[y];cases z with
 |value u=>rw[Oper.uponIn_value];cases d;exact f _ _ _ g h i
 |skip=>rw[Oper.uponIn_skip];cases d;exact f _ _ _ g h i
 |_=>cases d
def HL {t:TypeId}{a:Value}(h:Sd P Z t a v=some Z'):Adv Z Z':=by
 obtain⟨⟨b,off⟩,d,c⟩:=A8 h;obtain⟨n,h5,k5⟩:=A8 (show ob (size? P t) _=some Z' from c);obtain⟨ht,k6⟩:=Kh k5;obtain⟨h6,h7⟩:=H9 k6;exact .write h7
def eK {t:TypeId}{s x:Value}(h:Dj P Z t s x=some (v,Z')):Adv Z Z':=by
 obtain⟨el,m,j⟩:=A8 h;obtain⟨i,h7,k7⟩:=A8 j;clear h j;split at k7
 ·rename_i bs len e;obtain⟨⟨n,new⟩,p,k⟩:=A8 k7;obtain⟨h9,k9⟩:=H9 (show bb (Nat.ble 1 i.size) _=some (v,Z')from k);cases g:Nat.ble (len+n) e with
  | true=>
    rw[g]at k9;change DD Z i.size bs len e n new=some (v,Z')at k9;unfold DD at k9;split at k9
    ·obtain⟨l,d,a⟩:=A8 k9;cases a;exact .write d
    ·obtain⟨d,a⟩:=H9 k9;cases a;exact .refl _
  | false=>
    rw[g]at k9;obtain⟨d,a⟩:=H9 (show bb _ _=some (v,Z')from k9);obtain⟨z,h11,k11⟩:=A8 a;obtain⟨h12,k12⟩:=H9 k11;unfold Bv at k12;split at k12
    ·obtain⟨f,c⟩:=H9 k12;cases c;exact .new _ _ _
    ·obtain⟨old,f,c⟩:=A8 k12;cases c;exact .new _ _ _
    ·obtain⟨f,c⟩:=H9 k12;obtain⟨old,h14,k14⟩:=A8 c;obtain⟨Z1,h15,k15⟩:=A8 k14;cases k15;exact(Adv.kill h15).trans (.new _ _ _)
 ·cases k7
def re {cs:List Value}(h:Z.AY1 b cs=some Z'):Adv Z Z':=by
 obtain⟨B,a,c,rfl⟩:=Se h;exact .set (Rg a).1 rfl
def Lb {t:TypeId}{m k:Operand}(h:Bm P fr Z t m k x=some (v,Z')):Adv Z Z':=by
 obtain⟨⟨e,el⟩,d,c⟩:=A8 h;obtain⟨mv,h2,k2⟩:=A8 (show ob (ev fr m) _=some (v,Z')from c);obtain⟨a,h3,k3⟩:=A8 k2;obtain⟨mb,h4,k4⟩:=A8 k3;obtain⟨kv,h5,k5⟩:=A8 k4;obtain⟨h6,k6⟩:=H9 k5;obtain⟨u,h7,k7⟩:=A8 k6;obtain⟨B,h8,k8⟩:=A8 k7;obtain⟨cs,h9,k9⟩:=A8 k8;obtain⟨Z1,h10,k10⟩:=A8 k9;cases k10;exact re h10
def eL {t:TypeId}{c:Operand}{ok:Bool}(h:Gj P fr Z t x c ok=some (v,Z')):Adv Z Z':=by
 obtain⟨⟨f,el⟩,e,d⟩:=A8 h;obtain⟨m,h2,k2⟩:=A8 (show ob (ev fr x) _=some (v,Z')from d);obtain⟨a,h3,k3⟩:=A8 k2;obtain⟨k,h4,k4⟩:=A8 k3;obtain⟨h5,k5⟩:=H9 k4;obtain⟨cs,h6,k6⟩:=A8 k5;obtain⟨r,h7,k7⟩:=A8 k6;obtain⟨⟨u,b⟩,h8,k8⟩:=A8 k7;cases k8;exact .refl _
def Zk {r:Option Operand}(h:Fv fr Z r=some (v,Z')):Adv Z Z':=by
 obtain⟨c,a⟩:=H9 h;cases a;exact .new _ _ _
def AY2 (O:Place) (e:Value) (t:Tgt) (a d:List Value):Prop:=match t with
 | .fn g=>e= .func (.func g) ⟨a⟩ ⟨d⟩
 | .yld b=>∃ q,O b=some q/\e= .func (.yield q.c) ⟨[]⟩ ⟨[]⟩/\a=[]/\d=[]
def Zl {u i:Value}{f:Fun}(h:I0 O u i) (a:Na u=some f):∃ BC O9,AY2 O i f.g BC O9/\F8 O f.first BC/\F8 O f.captured O9:=by
 unfold Na at a;split at a
 ·cases a;cases h with
  |func e c d=>exact⟨_,_,rfl,c,d⟩
  |I3 hs=>simp[I3]at hs
 ·cases a;cases h with
  |func e c d=>cases e
  |yld j=>exact⟨[],[],⟨_,j,rfl,rfl,rfl⟩,.nil,.nil⟩
  |I3 hs=>simp[I3]at hs
 ·cases a
def VH {call:Y4}(X:BE P B8 G call){fr:Fr}{Z:St}{o:Oper}{c:Call}{f:Operand}{r:CR}(e:o.op= .call c) (z:c.callee= .value f)
  (h:Hp call fr Z c f=some r):Adv Z r.Z/\∀ O (a:Act) w N,K5 O fr a.eval o.op.operands.toList->Rel B8 O Z w->Co O Z.n N->r.Z.n<=N->Bw O G ->
    ∀ (rd:Option Nat) (next:Act->World->Prop) (Q:Exit->Act->World->Prop),
     (∀ v' w' O',Rel B8 O' r.Z w'->Y6 O Z w O' r.Z w'->I0 O' r.v v'->match r.pan with|true=>Q (eJ v') a w'|false=>next (a.put o.dst v') w')->o.wpIn (FW rd) 0 P a w next Q:=by
 obtain⟨vs,W,M⟩:=A8 h;obtain⟨u,h2,k2⟩:=A8 M;obtain⟨fn,h3,k3⟩:=A8 k2;change call fn.g (fn.first++vs++fn.captured) Z=some r at k3;clear h M k2;obtain⟨rf,Ar4⟩:=X _ _ _ _ k3;refine⟨rf,fun O a w N K H Y hN hG rd next Q L=>Bb (by intro c' I;rw[e]at I;cases I) ?_⟩;have hr:=(FO e K).evs W;have hu:=K f u (by simp[e,Op.operands,Call.operands,z]) h2;obtain⟨BC,O9,d,r1,r2⟩:=Zl hu h3;have l:=Ar4 O w (BC++c.args.toList.map a.eval++O9) N H Y hN hG (F8.append r2 (F8.append hr r1));have D:(⟨BC⟩:Array Value)++c.args.map a.eval++⟨O9⟩=⟨BC++c.args.toList.map a.eval++O9⟩:=by
  rw[<- SC];simp
 have E:∀ (y:Ending) w',(∃ v' O',y=ended r.pan v'/\Rel B8 O' r.Z w'/\Y6 O Z w O' r.Z w'/\I0 O' r.v v')->(match y,w' with
   | .returned v,w''=>next (a.put o.dst v) w''
   | .panicked chain,w''=>Q (.panic chain) a w''
   | .outgrown,_=>LetsOut Q:Prop):=by
  rintro y w' ⟨v',O',rfl,q1,q2,q3⟩;have:=L v' w' O' q1 q2 q3;cases i:r.pan with
  |true=>rw[i]at this;exact this
  |false=>rw[i]at this;exact this
 cases J:fn.g with
 | fn g=>
   rw[J]at l d;obtain⟨F,p,s,V⟩:=l;have d:a.eval f= .func (.func g) ⟨BC⟩ ⟨O9⟩:=d;have m:execOp a.eval o=callFunc g ⟨BC++c.args.toList.map a.eval++O9⟩:=by
    simp only[execOp,e,resolve,z,d,Deferred.ofValue];rw[<- D];rfl
   rw[m];rcases V with⟨j,k⟩|⟨v',j,k,S,U⟩
   ·have R:(callFunc g ⟨BC++c.args.toList.map a.eval++O9⟩).run P w= .ok (.enter g ⟨BC++c.args.toList.map a.eval++O9⟩) w:=by
     have C:F.body.isNone=false:=by cases hb:F.body with|none=>rw[hb]at j;cases j|some c=>rfl
     simp only[callFunc,Sem.run_bind,run_program,Result.andThen_ok,p,s,C,Je,GZ,Sem.run_pure]
    rw[R,Oper.uponIn_enter];refine⟨fun h=>(nomatch h),?_⟩;exact(callsIn_wide (n:=0)).2 (k.mono E)
   ·rw[j,Oper.uponIn_value];have i:=L v' w O (by rw[k];exact H) (by rw[k];exact .refl _ _ _) U;rw[S]at i;exact i
 | yld b=>
   rw[J]at l d;obtain⟨q,hq,d,A,B⟩:=d;subst A;subst B;obtain⟨f0,tmps,assign,body,p,s⟩:=l q hq;have m:execOp a.eval o=Instr.yield q.c ⟨[]++c.args.toList.map a.eval++[]⟩:=by
    simp only[execOp,e,resolve,z,d,Deferred.ofValue];rw[<- D];rfl
   rw[m,p,Oper.uponIn_round];refine⟨fun h=>(nomatch h),?_⟩;exact s.mono E
def mB {call:Y4}(g:BE P B8 G call){fr:Fr}{Z:St}{o:Oper}{c:Call}{f:Operand}{v:Value}{Z':St}(e:o.op= .call c) (d:c.callee= .value f)
  (h:Hp call fr Z c f=some ⟨false,v,Z'⟩):XK P B8 G fr Z o v Z' :=
 let ⟨h1,h2⟩:=VH g e d h
 ⟨h1,by simp[e,DZ,d],fun O a w N m l i k j p next Q n=>h2 O a w N m l i k j p next Q n⟩
def rh {call:Y4}(d:BE P B8 G call){fr:Fr}{Z:St}{o:Oper}{c:Call}{f:Operand}{v:Value}{Z':St}(n:o.op= .call c) (k:c.callee= .value f)
  (h:Hp call fr Z c f=some ⟨true,v,Z'⟩):XL P B8 G fr Z o v Z' :=
 let ⟨h1,h2⟩:=VH d n k h
 ⟨h1,fun O a w N l j e i g p next Q m=>h2 O a w N l j e i g p next Q m⟩
def eM {s:Stepped}(g:o.op= .panic x) (h:ri fr Z x=some s):s.d= .pan/\s.Z=Z/\XL P B8 G fr Z o s.v Z:=by
 obtain⟨u,k,f⟩:=A8 h;split at f
 ·rename_i t v;cases f;refine⟨rfl,rfl,.refl _,fun O a w N m l r z y A next Q n=>Bb (by intro q i;rw[g]at i;cases i) ?_⟩;have e:=m x _ (by simp[g,Op.operands]) k;cases c:a.eval x with
  | iface t' v'=>
    rw[c]at e;have j:(execOp a.eval o).run P w= .halt (.panic (.iface t' v')) w:=by
     simp only[execOp,g,c,Instr.panic];rfl
    rw[j,Oper.uponIn_panic];exact n _ _ _ l (.refl _ _ _) e
  |_=>rw[c]at e;cases e<;>(rename_i p;simp[I3]at p)
 ·cases f
inductive Class (P:Program) (B8:Env) (G:Nat) (fr:Fr) (Z:St) (o:Oper):Stepped->Prop
 |pure {v:Value} (h:rY P fr o v):Class P B8 G fr Z o ⟨v,Z,.none⟩
 |new {cs:List Value}{vf:Nat->Value}{t:Option TypeId} (h:NewFact P fr o cs vf t):Class P B8 G fr Z o ⟨vf Z.n,Z.new cs t,.none⟩
 |read {v:Value}{r:Ay} (h:Sa P fr Z o v r):Class P B8 G fr Z o ⟨v,Z,.read r⟩
 |eff {v:Value}{Z':St} (h:XK P B8 G fr Z o v Z'):Class P B8 G fr Z o ⟨v,Z',.eff⟩
 |pan {v:Value}{Z':St} (h:XL P B8 G fr Z o v Z'):Class P B8 G fr Z o ⟨v,Z',.pan⟩
def S7 {x:Option Value}{s:Stepped}(h:J7 Z x=some s):∃ v,x=some v/\s=⟨v,Z,.none⟩:=by
 obtain⟨v,a,c⟩:=A8 h;cases c;exact⟨v,a,rfl⟩
def KM {x:Option (List Value×(Nat->Value))}{t:Option TypeId}{s:Stepped}(h:asNew Z x t=some s):∃ cs vf,x=some (cs,vf)/\s=⟨vf Z.n,Z.new cs t,.none⟩:=by
 obtain⟨⟨cs,vf⟩,a,c⟩:=A8 h;cases c;exact⟨cs,vf,a,rfl⟩
def VJ {x:Option (Value×Ay)}{s:Stepped}(h:Dv Z x=some s):∃ v b,x=some (v,b)/\s=⟨v,Z,.read b⟩:=by
 obtain⟨⟨v,b⟩,a,c⟩:=A8 h;cases c;exact⟨v,b,a,rfl⟩
def Fw {x:Option (Value×St)}{s:Stepped}(h:GV x=some s):∃ v Z',x=some (v,Z')/\s=⟨v,Z',.eff⟩:=by
 obtain⟨⟨v,Z'⟩,a,c⟩:=A8 h;cases c;exact⟨v,Z',a,rfl⟩
def mC {t:TypeId}{r:Ay}(i:o.op= .load t x) (h:Ib P fr Z t x=some (v,r)):Sa P fr Z o v r:=by
 have y:=h;obtain⟨u,k,A⟩:=A8 h;obtain⟨⟨b',off⟩,h2,k2⟩:=A8 A;obtain⟨m,hm,k2⟩:=A8 (show ob (span? P t) _=some (v,r)from k2);obtain⟨v0,h3,k3⟩:=A8 (show ob (jA P Z t b' off) _=some (v,r)from k2);cases k3;refine⟨?_,fun O e w f=>⟨?_,fun j=>eN i f y j⟩⟩
 ·obtain⟨g,l,c⟩:=A8 h3;obtain⟨g',hg',hm⟩:=A8 hm;rw[l]at hg';cases hg';cases g with
  | true=>
    obtain⟨n,d,p⟩:=A8 (show ob (size? P t) _=some v from c);obtain⟨cs,a,s⟩:=A8 p;rw[show size? P t=some m from hm]at d;cases d;exact⟨cs,a⟩
  | false=>
    cases hm;obtain⟨cs,a,s⟩:=A8 (show ob (Z.read b' off 1) _=some v from c);exact⟨cs,a⟩
 ·obtain⟨q,z,_⟩:=MJ (f x u (by simp[i,Op.operands]) k) h2;exact⟨q,z⟩
def Zn {s d:TypeId}{r:Ay}(f:o.op= .convert s d x) (h:DU P fr Z s d x=some (v,r)):Sa P fr Z o v r:=by
 have j:=h;obtain⟨u,i,m⟩:=A8 h;obtain⟨⟨b',off,n⟩,h2,k2⟩:=A8 m;obtain⟨el,h3,k3⟩:=A8 (show ob (elem? P s) _=some (v,r)from k2);obtain⟨h4,k4⟩:=H9 k3;obtain⟨h5,k5⟩:=H9 k4;obtain⟨l,h6,k6⟩:=A8 k5;obtain⟨r',h7,k7⟩:=A8 k6;cases k7;refine⟨?_,fun O e w c=>⟨?_,fun g=>XM f c j g⟩⟩
 ·exact⟨l,h6⟩
 ·obtain⟨q,a,p,k,_,_⟩:=Ic (c x u (by simp[f,Op.operands]) i) h2;exact⟨q,k⟩
def JE {call:Y4}{s:Stepped}(h:step P call fr Z o=some s):∀ c,o.op≠ .defer c:=by
 intro c a;unfold step at h;rw[a]at h;cases h
def JF {call:Y4}(K:BE P B8 G call){fr:Fr}{Z:St}{o:Oper}{s:Stepped}
  (h:step P call fr Z o=some s):Class P B8 G fr Z o s:=by
 have D:=JE h;unfold step at h;cases i:o.op with
 |move x=>rw[i]at h;obtain⟨v,g,rfl⟩:=S7 h;exact .pure fun O e w j=>SJ (.inl i) j g
 |assign x=>rw[i]at h;obtain⟨v,g,rfl⟩:=S7 h;exact .pure fun O e w j=>SJ (.inr i) j g
 |pick c a b=>rw[i]at h;obtain⟨v,g,rfl⟩:=S7 h;exact .pure fun O e w j=>dm i j g
 |alloc t=>rw[i]at h;obtain⟨cs,E,g,rfl⟩:=KM h;exact .new fun O e w j=>YY i g
 |box t x=>rw[i]at h;obtain⟨cs,E,g,rfl⟩:=KM h;exact .new fun O e w j=>ke i j g
 |build t parts=>rw[i]at h;obtain⟨v,g,rfl⟩:=S7 h;exact .pure fun O e w j=>YX i j g
 |buildSlice t len parts=>rw[i]at h;obtain⟨cs,E,g,rfl⟩:=KM h;exact .new fun O e w j=>OO i j g
 |load t x=>rw[i]at h;obtain⟨v,b,g,rfl⟩:=VJ h;exact .read (mC i g)
 | store t x y=>
   rw[i]at h;obtain⟨v,Z',g,rfl⟩:=Fw h;refine .eff (Fu D ?_ (by rw[i];rfl) fun O e w N j q B C=>Zo i j q g);obtain⟨a,g1,k1⟩:=A8 g;obtain⟨u,g2,k2⟩:=A8 k1;obtain⟨Z1,g3,k3⟩:=A8 k2;cases k3;exact HL g3
 | lookup t x J ok=>
   rw[i]at h;obtain⟨v,Z',g,rfl⟩:=Fw h;exact .eff (Fu D (eL g) (by rw[i];rfl) fun O e w N j q B C=>XN i j q g)
 | mapUpdate t m k x=>
   rw[i]at h;obtain⟨v,Z',g,rfl⟩:=Fw h;exact .eff (Fu D (Lb g) (by rw[i];rfl) fun O e w N j q B C=>JX (.inl i) j q g)
 | insert t m k x=>
   rw[i]at h;obtain⟨v,Z',g,rfl⟩:=Fw h;exact .eff (Fu D (Lb g) (by rw[i];rfl) fun O e w N j q B C=>JX (.inr i) j q g)
 | makeMap t r=>
   rw[i]at h;obtain⟨v,Z',g,rfl⟩:=Fw h;exact .eff (Fu D (Zk g) (by rw[i];rfl) fun O e w N j q B C=>UO i q B C g)
 | panic x=>
   rw[i]at h;obtain⟨g,F,L⟩:=eM (P:=P) (B8:=B8) (G:=G) i h;obtain⟨v,Z',d⟩:=s;cases g;cases F;exact .pan L
 |nilCheck x=>rw[i]at h;obtain⟨v,g,rfl⟩:=S7 h;exact .pure fun O e w j=>SK i j g
 |binOp b t x y R=>rw[i]at h;obtain⟨v,g,rfl⟩:=S7 h;exact .pure fun O e w j=>lR i j g
 |unOp u t x=>rw[i]at h;obtain⟨v,g,rfl⟩:=S7 h;exact .pure fun O e w j=>Pb (by rw[i];rfl) (by simp[i]) j g
 | convert s0 d x=>
   rw[i]at h;change orS (asNew Z (Gx P fr s0 d x)) (orS (Dv Z (DU P fr Z s0 d x)) (J7 Z (FI P fr o x)))=some s at h;cases H:asNew Z (Gx P fr s0 d x)with
   | some s1=>
     rw[H]at h;cases h;obtain⟨cs,E,g,rfl⟩:=KM H;exact .new fun O e w j=>YZ i j g
   | none=>
     rw[H]at h;change orS (Dv Z (DU P fr Z s0 d x)) (J7 Z (FI P fr o x))=some s at h;cases I:Dv Z (DU P fr Z s0 d x)with
     | some s1=>
       rw[I]at h;cases h;obtain⟨v,b,g,rfl⟩:=VJ I;exact .read (Zn i g)
     | none=>
       rw[I]at h;change J7 Z (FI P fr o x)=some s at h;obtain⟨v,g,rfl⟩:=S7 h;exact .pure fun O e w j=>Pb (by rw[i];rfl) (by simp[i]) j g
 |makeInterface t x=>rw[i]at h;obtain⟨v,g,rfl⟩:=S7 h;exact .pure fun O e w j=>ZN i j g
 |makeFunc fn fs cs=>rw[i]at h;obtain⟨v,g,rfl⟩:=S7 h;exact .pure fun O e w j=>dv i j g
 |makeSlice t l c=>rw[i]at h;obtain⟨cs,E,g,rfl⟩:=KM h;exact .new fun O e w j=>dG i j g
 |slice t x lo hi M=>rw[i]at h;obtain⟨v,g,rfl⟩:=S7 h;exact .pure fun O e w j=>ZB i j g
 |fieldAddr s x f=>rw[i]at h;obtain⟨v,g,rfl⟩:=S7 h;exact .pure fun O e w j=>QK i j g
 |field s x f=>rw[i]at h;obtain⟨v,g,rfl⟩:=S7 h;exact .pure fun O e w j=>ZO i j g
 |indexAddr t x J=>rw[i]at h;obtain⟨v,g,rfl⟩:=S7 h;exact .pure fun O e w j=>QL i j g
 |index t x J=>rw[i]at h;obtain⟨v,g,rfl⟩:=S7 h;exact .pure fun O e w j=>ZQ i j g
 |extract t J=>rw[i]at h;obtain⟨v,g,rfl⟩:=S7 h;exact .pure fun O e w j=>UL i j g
 | call c=>
   rw[i]at h;change Zg P call fr Z c=some s at h;unfold Zg at h;cases A:c.callee with
   | value f=>
     rw[A]at h;obtain⟨⟨p,v,Z'⟩,g,F⟩:=A8 (show ob (Hp call fr Z c f) _=some s from h);cases F;cases p with
     |true=>exact .pan (rh K i A g)
     |false=>exact .eff (mB K i A g)
   |invoke r m=>rw[A]at h;cases h
   | builtin b=>
     rw[A]at h;change AO6 b P fr Z c=some s at h;cases b with
     |len=>obtain⟨v,g,rfl⟩:=S7 h;exact .pure fun O e w j=>lM i A j g
     |max=>obtain⟨v,g,rfl⟩:=S7 h;exact .pure fun O e w j=>ZC true i A j g
     |min=>obtain⟨v,g,rfl⟩:=S7 h;exact .pure fun O e w j=>ZC false i A j g
     | append=>
       obtain⟨v,Z',g,rfl⟩:=Fw h;refine .eff (Fu D ?_ (by rw[i];simp[DZ,A]) fun O e w N j q B C=>WQ i A j q B C g);obtain⟨vs,g1,k1⟩:=A8 g;obtain⟨⟨s,x⟩,g2,k2⟩:=A8 k1;obtain⟨t,g3,k3⟩:=A8 (show ob (Ra c) _=some (v,Z')from k2);obtain⟨t2,g4,k4⟩:=A8 k3;obtain⟨g5,k5⟩:=H9 k4;exact eK k5
     | copy=>
       obtain⟨v,Z',g,rfl⟩:=Fw h;refine .eff (Fu D ?_ (by rw[i];simp[DZ,A]) fun O e w N j q B C=>eO i A j q g);obtain⟨vs,g1,k1⟩:=A8 g;obtain⟨⟨d,s⟩,g2,k2⟩:=A8 k1;obtain⟨t,g3,k3⟩:=A8 (show ob (Ra c) _=some (v,Z')from k2);obtain⟨el,g4,k4⟩:=A8 (show ob (elem? P t) _=some (v,Z')from k3);obtain⟨size,g5,k5⟩:=A8 k4;obtain⟨⟨b,off,dl⟩,g6,k6⟩:=A8 k5;obtain⟨⟨n,cs⟩,g7,k7⟩:=A8 (show ob (Az Z size s) _=some (v,Z')from k6);obtain⟨cs2,g8,k8⟩:=A8 (show ob (takeN (Nat.min n dl*size) cs) _=some (v,Z')from k7);obtain⟨Z2,g9,k9⟩:=A8 k8;cases k9;exact .write g9
     | clear=>
       obtain⟨v,Z',g,rfl⟩:=Fw h;refine .eff (Fu D ?_ (by rw[i];simp[DZ,A]) fun O e w N j q B C=>Zp i A j q g);obtain⟨vs,g1,k1⟩:=A8 g;obtain⟨x,g2,k2⟩:=A8 k1;obtain⟨t,g3,k3⟩:=A8 k2;obtain⟨el,g4,k4⟩:=A8 (show ob (elem? P t) _=some (v,Z')from k3);obtain⟨z,g5,k5⟩:=A8 k4;obtain⟨⟨b,off,n⟩,g6,k6⟩:=A8 k5;obtain⟨Z2,g9,k9⟩:=A8 (show ob (Z.write b off (rep (J6 z) n)) _=some (v,Z')from k6);cases k9;exact .write g9
     |_=>cases h
 |_=>rw[i]at h;cases h
end
end
section
variable {O:Place}{fr:Fr}{a:Act}{o:Oper}
def FD (O:Place) (fr:Fr) (a:Act):Prop:=∀ t v,fr.get t=some v->∃ v',a.tmps[t]? =some v'/\I0 O v v'
def FD.mono {b:Place}(c:O.le b) (h:FD O fr a):FD b fr a:=fun t v ht=>let ⟨v',h1,h2⟩:=h t v ht;⟨v',h1,h2.mono c⟩
def Oy (fr:Fr) (d:Tmp) (v:Value):I7 fr (some d) v=fr.set d v:=rfl
def En (a:Act) (d:Option Tmp) (v:Value):(a.put d v).tmps.size=a.tmps.size:=by cases d<;>simp[Act.put]
def put_defers (a:Act) (d:Option Tmp) (v:Value):(a.put d v).defers=a.defers:=by cases d<;>rfl
def FD.put (h:FD O fr a){d:Option Tmp}{v v':Value}(i:I0 O v v') (g:∀ t,d=some t->t<a.tmps.size):FD O (I7 fr d v) (a.put d v'):=by
 intro t u ht;cases d with
 |none=>exact h t u ht
 | some d=>
   rw[Oy,Tr.BF]at ht;show ∃ c,(a.tmps.setIfInBounds d v')[t]? =some c/\_;by_cases b:t=d
   ·subst b;rw[z1z rfl]at ht;cases ht;exact⟨v',by rw[Array.getElem?_setIfInBounds_self_of_lt (g _ rfl)],i⟩
   ·rw[z0z b]at ht;obtain⟨c,e,f⟩:=h t u ht;exact⟨c,by rw[Array.getElem?_setIfInBounds_ne (fun h=>b h.symm)];exact e,f⟩
def KA (G:Nat) (x:Operand):Bool:=match x with
 | .global g=>Nat.blt g G
 |_=>true
def Av1 (n:Nat) (d:Option Tmp):Bool:=match d with
 |some d=>Nat.blt d n
 |none=>true
def As (_P:Program) (n G:Nat) (o:Oper):Bool:=Av1 n o.dst&&o.op.operands.toList.all (KA G)
def dP {O:Place}{fr:Fr}{a:Act}{G:Nat}(d:Bw O G){x:Operand}{v:Value}(i:KA G x=true) (ht:∀ t,x= .tmp t->∀ v,fr.get t=some v->∃ v',a.tmps[t]? =some v'/\I0 O v v')
  (h:ev fr x=some v):I0 O v (a.eval x):=by
 cases x with
 | tmp t=>
   obtain⟨v',b,c⟩:=ht t rfl v h;show I0 O v (a.tmps.getD t undef);rw[IH,b];exact c
 | const u=>
   obtain⟨b,c⟩:=I0.cst (O:=O) (show cst u=some v from h);subst b;exact c
 | global g=>
   cases h;obtain⟨m,e,-⟩:=d g (by have:Nat.blt g G=true:=i;rwa [BW]at this);exact .ptr (off:=0) e
 |func f=>cases h;exact .func rfl .nil .nil
def Sg {O:Place}{fr:Fr}{a:Act}{G:Nat}{P:Program}{n:Nat}{o:Oper}(d:Bw O G) (b:As P n G o=true)
  (ht:∀ t,.tmp t∈o.op.operands.toList->∀ v,fr.get t=some v->∃ v',a.tmps[t]? =some v'/\I0 O v v'):K5 O fr a.eval o.op.operands.toList:=by
 intro x v c h;unfold As at b;rw[R2,GY]at b;exact dP d (b.2 x c) (fun t e=>by subst e;exact ht t c) h
def Sj {P:Program}{n G:Nat}(b:As P n G o=true):∀ t,o.dst=some t->t<n:=by
 intro t ht;unfold As at b;rw[R2,ht]at b;have:Nat.blt t n=true:=b.1
 rwa [BW]at this
def Kw {O:Place}{fr:Fr}{a:Act}{e:Array Oper}{o:Oper}{c:Bool}(h:U8 e fr o=some c)
  (ht:∀ j want t,o.guard=some (j,want)->Ft e j=some t->∀ v,fr.get t=some v->∃ v',a.tmps[t]? =some v'/\I0 O v v'):Region.wanted o (yielded e a.tmps)=c:=by
 unfold Region.wanted;cases i:o.guard with
 | none=>
   unfold U8 at h;rw[i]at h;cases h;rfl
 | some g=>
   obtain⟨j,want⟩:=g;unfold U8 at h;rw[i]at h;change(Option.rec (motive:=fun _=>Option Bool) (some false) (fun d=>ob (fr.get d) fun v=>some (yieldOf want v)) (Ft e j):Option Bool)=some c at h;have m:(e[j]?).bind (·.dst)=Ft e j:=by
    unfold Ft;cases e[j]?<;>rfl
   show(yielded e a.tmps j==some want)=c;unfold yielded;rw[m];cases f:Ft e j with
   | none=>
     rw[f]at h;cases h;rfl
   | some d=>
     rw[f]at h;obtain⟨v,k,l⟩:=A8 (show ob (fr.get d) (fun v=>some (yieldOf want v))=some c from h);obtain⟨v',h3,h4⟩:=ht j want d i f v k;cases l;show((match ((some d).bind fun x=>a.tmps[x]?)with|some (.bool b)=>some b|_=>none)==some want)=_;rw[show((some d).bind fun x=>a.tmps[x]?)=some v' from h3];cases h4 with
     |I3 hs=>cases v<;>first|rfl|(rename_i b;cases b<;>cases want<;>rfl)
     |_=>rfl
/- RO is known before: the paths of a region's order. -/
def fo (c:Array Nat) (i:Nat):∀ (l:List Edge) (s:Nat),Nat.testBit (l.foldl (fun s e=>if Region.binds .any e then s ||| 2 ^ e.on ||| c.getD e.on 0 else s) s) i=true ->
  Nat.testBit s i=true\/∃ e∈l,Region.binds .any e=true/\(e.on=i\/Nat.testBit (c.getD e.on 0) i=true):=by
 intro l;induction l with
 |nil=>intro s h;exact .inl h
 | cons e l ih=>
   intro s h;rw[YW]at h;rcases ih _ h with b|⟨f,b,g,j⟩
   ·by_cases d:Region.binds .any e=true
    ·rw[z1z d,bQ,bQ,RI,RI]at b;rcases b with(b|b)|b
     ·exact .inl b
     ·refine .inr ⟨e,by simp,d,.inl ?_⟩;rw[Nat.testBit_two_pow]at b;exact z6z b
     ·exact .inr ⟨e,by simp,d,.inr b⟩
    ·rw[z0z d]at b;exact .inl b
   ·exact .inr ⟨f,by simp[b],g,j⟩
def Dl (b:Array Nat) (o:Oper):Array Nat:=b.push (o.after.foldl (fun s e=>if Region.binds .any e then s ||| 2 ^ e.on ||| b.getD e.on 0 else s) 0)
def bR:∀ (l:List Oper) (acc:Array Nat),
  (∀ k,k<acc.size->(l.foldl Dl acc).getD k 0=acc.getD k 0) /\
  ∀ t o i,l[t]? =some o->Nat.testBit ((l.foldl Dl acc).getD (acc.size+t) 0) i=true ->
   ∃ e∈o.after,Region.binds .any e=true/\(e.on=i\/(e.on<acc.size+t/\Nat.testBit ((l.foldl Dl acc).getD e.on 0) i=true)):=by
 intro l;induction l with
 |nil=>intro acc;exact⟨fun _ _=>rfl,fun t o i h=>by simp at h⟩
 | cons o l ih=>
   intro acc;obtain⟨g,r⟩:=ih (Dl acc o);have d:(Dl acc o).size=acc.size+1:=by simp[Dl]
   have c:∀ k,k<acc.size->(Dl acc o).getD k 0=acc.getD k 0:=by
    intro k p;unfold Dl;rw[IH,IH,Array.getElem?_push,z0z om]
   have q:(Dl acc o).getD acc.size 0=o.after.foldl (fun s e=>if Region.binds .any e then s ||| 2 ^ e.on ||| acc.getD e.on 0 else s) 0:=by
    unfold Dl;rw[IH,Array.getElem?_push,z1z rfl];rfl
   refine⟨fun k p=>?_,fun t v i ht f=>?_⟩
   ·rw[YW,g k om,c k p]
   ·rw [YW]at f ⊢;cases t with
    | zero=>
      simp at ht;subst ht;rw[j7,g acc.size om,q,<- gY]at f;rcases fo acc i _ _ f with j|⟨e,j,u,b⟩
      ·simp at j
      ·refine⟨e,by simpa using j,u,?_⟩;rcases b with b|b
       ·exact .inl b
       ·have n:e.on<acc.size:=by
         rcases AU e.on acc.size with m|m
         ·exact m
         ·rw[IH,Array.getElem?_eq_none m]at b;simp at b
        exact .inr ⟨om,by rw[g e.on om,c e.on n];exact b⟩
    | succ t=>
      have:=r t v i (by simpa using ht) (by rw[d,show acc.size+1+t=acc.size+(t+1)from by omega];exact f);rw[d,show acc.size+1+t=acc.size+(t+1)from by omega]at this;exact this
def Bef (os:Array Oper) (i j:Nat):Prop:=Nat.testBit ((Region.before os).toList.getD j 0) i=true
def Pg {os:Array Oper}{i j:Nat}(l:os[j]? =some o) (h:Bef os i j):∃ e∈o.after,Region.binds .any e=true/\(e.on=i\/(e.on<j/\Bef os i e.on)):=by
 have g:Region.before os=os.toList.foldl Dl #[]:=by
  unfold Region.before;rw[<- gY];rfl
 have c:∀ k,(Region.before os).toList.getD k 0=(os.toList.foldl Dl #[]).getD k 0:=by
  intro k;rw[g,IH,List.getD_eq_getElem?_getD,Array.getElem?_toList]
 unfold Bef at h ⊢;rw[c]at h;obtain⟨_,d⟩:=bR os.toList #[];obtain⟨e,h3,h4,b⟩:=d j o i (by simpa using l) (by simpa using h);refine⟨e,h3,h4,?_⟩;rcases b with b|⟨b,f⟩
 ·exact .inl b
 ·exact .inr ⟨by simpa using b,by rw[c];exact f⟩
end
section
variable {i k:Nat}{o:Oper}{bs:List Nat}{Z:St}
def Rd (os:Array Oper) (o:Oper) (t:Tmp):Prop:= .tmp t∈o.op.operands.toList\/∃ j want,o.guard=some (j,want)/\Ft os j=some t
def AQ9 (os:Array Oper) (x y:Oper):Prop:=∃ t,(x.dst=some t/\(y.dst=some t\/Rd os y t))\/(y.dst=some t/\Rd os x t)
structure eP (os:Array Oper):Prop where
 UQ:∀ i o e,os[i]? =some o->e∈o.after->Region.binds .any e=true->e.on<i
 eff:∀ i j oi oj,i<j->os[i]? =some oi->os[j]? =some oj->DZ oi.op=true->DZ oj.op=true->Bef os i j
 names:∀ i j oi oj,i<j->os[i]? =some oi->os[j]? =some oj->AQ9 os oi oj->Bef os i j
def Live (os:Array Oper) (z k:Nat):Prop:=k<z\/(z<k/\k<os.size/\¬ Bef os z k)
structure JY (P:Program) (call:Y4) (os:Array Oper) (F:Nat->Fr) (S:Nat->St) (r:Nat->Option Stepped) (z i:Nat):Prop where
 step:∀ k o,i<=k->Live os z k->os[k]? =some o->(U8 os (F k) o=some true/\∃ s,Ab.step P call (F k) (S k) o=some s/\r k=some s/\F (k+1)=I7 (F k) o.dst s.v/\S (k+1)=s.Z) \/
  (U8 os (F k) o=some false/\r k=none/\F (k+1)=I7 (F k) o.dst R6/\S (k+1)=S k)
 np:∀ k s,i<=k->r k=some s->s.d≠ .pan
 eQ:∀ k,z<=k->¬ Live os z k->r k=none/\F (k+1)=F k/\S (k+1)=S k
 late:∀ k s,z<=k->r k=some s->s.d= .none/\s.Z=S k
 zle:z<=os.size
structure vI (P:Program) (call:Y4) (os:Array Oper) (F:Nat->Fr) (S:Nat->St) (z:Nat) (o:Oper) (s:Stepped):Prop where
 ho:os[z]? =some o
 Sh:U8 os (F z) o=some true
 step:Ab.step P call (F z) (S z) o=some s
 pan:s.d= .pan
 eff:DZ o.op=true
def cW {a:Type}{d:Did}{x y:Option a}{b:a}(h:Pk d x y=some b):(x=some b/\d≠ .pan)\/(y=some b/\d= .pan):=by
 cases d with
 |pan=>exact .inr ⟨h,rfl⟩
 |_=>exact .inl ⟨h,fun h=>nomatch h⟩
def oZ {P:Program}{call:Y4}{b:Fr}{s:Stepped}(e:Tu o.op=true) (h:Ab.step P call b Z o=some s):s.d= .none/\s.Z=Z:=by
 have key:∀ x:Op,Tu x=true->rN x P call b Z o=some s->s.d= .none/\s.Z=Z:=by
  have l:∀ v:Option Value,J7 Z v=some s->s.d= .none/\s.Z=Z:=by
   intro v g;obtain⟨a,_,c⟩:=A8 (show ob v _=some s from g);cases c;exact⟨rfl,rfl⟩
  intro x j f;cases x<;>first|exact l _ f|cases j
 exact key o.op e h
def AJ9 {P:Program}{call:Y4}{os:Array Oper}{z:Nat}:∀ (l:List Oper) (j:Nat) (fr:Fr) (Z:St),os.toList.drop j=l->z<j->j<=os.size->Pf P call os (Region.before os).toList z l j fr Z=some () ->
  ∃ (F:Nat->Fr) (S:Nat->St) (r:Nat->Option Stepped),F j=fr/\S j=Z/\(∀ k,j<=k->¬ Live os z k->r k=none/\F (k+1)=F k/\S (k+1)=S k) /\
   (∀ k s,j<=k->r k=some s->s.d= .none/\s.Z=S k) /\
   (∀ k o,j<=k->Live os z k->os[k]? =some o->(U8 os (F k) o=some true/\∃ s,Ab.step P call (F k) (S k) o=some s/\r k=some s/\F (k+1)=I7 (F k) o.dst s.v/\S (k+1)=s.Z) \/
     (U8 os (F k) o=some false/\r k=none/\F (k+1)=I7 (F k) o.dst R6/\S (k+1)=S k)):=by
 intro l;induction l with
 | nil=>
   intro j fr Z u M V _;have:j=os.size:=by
    have:=congrArg List.length u;simp at this;omega
   subst this;exact⟨fun _=>fr,fun _=>Z,fun _=>none,rfl,rfl,fun _ _ _=>⟨rfl,rfl,rfl⟩,fun _ _ _ h=>(nomatch h),fun k o C _ I=>by have:=(Array.getElem?_eq_some_iff.1 I).1;omega⟩
 | cons o l ih=>
   intro j fr Z u M V h;have E:j<os.size:=by
    have:=congrArg List.length u;simp at this;omega
   have I:os[j]? =some o:=by
    have:=congrArg (fun l:List Oper=>l[0]?) u
    simpa using this
   have D:os.toList.drop (j+1)=l:=by
    rw[<- UM,u];rfl
   have e:∀ (b:Fr) (Z':St) (x:Option Stepped),Pf P call os (Region.before os).toList z l (j+1) b Z'=some () ->
     (¬ Live os z j->x=none/\b=fr/\Z'=Z)->(∀ s,x=some s->s.d= .none/\s.Z=Z) ->
     (Live os z j->(U8 os fr o=some true/\∃ s,Ab.step P call fr Z o=some s/\x=some s/\b=I7 fr o.dst s.v/\Z'=s.Z)\/(U8 os fr o=some false/\x=none/\b=I7 fr o.dst R6/\Z'=Z)) ->
     ∃ (F:Nat->Fr) (S:Nat->St) (r:Nat->Option Stepped),F j=fr/\S j=Z/\(∀ k,j<=k->¬ Live os z k->r k=none/\F (k+1)=F k/\S (k+1)=S k) /\
    (∀ k s,j<=k->r k=some s->s.d= .none/\s.Z=S k) /\
    (∀ k o,j<=k->Live os z k->os[k]? =some o->(U8 os (F k) o=some true/\∃ s,Ab.step P call (F k) (S k) o=some s/\r k=some s/\F (k+1)=I7 (F k) o.dst s.v/\S (k+1)=s.Z) \/
      (U8 os (F k) o=some false/\r k=none/\F (k+1)=I7 (F k) o.dst R6/\S (k+1)=S k)):=by
    intro b Z' x U f A B;obtain⟨F,S,r,f1,K,N,O,R⟩:=ih (j+1) b Z' D om om U;refine⟨fun k=>if k=j then fr else F k,fun k=>if k=j then Z else S k,fun k=>if k=j then x else r k,by simp,by simp,?_,?_,?_⟩
    ·intro k C g;by_cases a:k=j
     ·subst a;simp only[FB,z0z (show ¬ k+1=k by omega),f1,K];exact f g
     ·simp only[z0z a,z0z (show ¬ k+1=j by omega)];exact N k om g
    ·intro k s C p;by_cases a:k=j
     ·subst a;simp only[FB]at p ⊢;exact A s p
     ·simp only[z0z a]at p ⊢;exact O k s om p
    ·intro k W C L m;by_cases a:k=j
     ·subst a;rw[I]at m;cases m;simp only[FB,z0z (show ¬ k+1=k by omega),f1,K];exact B L
     ·simp only[z0z a,z0z (show ¬ k+1=j by omega)];exact R k W om L m
   change bi (Nat.testBit ((Region.before os).toList.getD j 0) z) (Pf P call os (Region.before os).toList z l (j+1) fr Z)
    (bb (Tu o.op) (ob (U8 os fr o) fun c=>bi c (ob (Ab.step P call fr Z o) fun r=>Pf P call os (Region.before os).toList z l (j+1) (I7 fr o.dst r.v) r.Z) (Pf P call os (Region.before os).toList z l (j+1) (I7 fr o.dst R6) Z)))=some ()at h
   cases q:Nat.testBit ((Region.before os).toList.getD j 0) z with
   | true=>
     rw[q]at h;have g:¬ Live os z j:=by rintro(f|⟨_,_,f⟩);omega;exact f q
     exact e fr Z none h (fun _=>⟨rfl,rfl,rfl⟩) (fun _ h=>nomatch h) (fun h=>absurd h g)
   | false=>
     rw[q]at h;have y:Live os z j:= .inr ⟨M,E,fun f=>by rw[show Nat.testBit ((Region.before os).toList.getD j 0) z=true from f]at q;cases q⟩;obtain⟨J,h⟩:=H9 (show bb (Tu o.op) _=some ()from h);obtain⟨c,hw,h⟩:=A8 h;cases c with
     |false=>exact e _ _ none (show Pf P call os (Region.before os).toList z l (j+1) (I7 fr o.dst R6) Z=some ()from h) (fun H=>absurd y H) (fun _ h=>nomatch h) (fun _=> .inr ⟨hw,rfl,rfl,rfl⟩)
     | true=>
       obtain⟨s,f,h⟩:=A8 (show ob (Ab.step P call fr Z o) _=some ()from h);obtain⟨A,B⟩:=oZ J f;exact e _ _ (some s) h (fun H=>absurd y H) (fun X p=>by cases p;exact⟨A,B⟩) (fun _=> .inl ⟨hw,s,f,rfl,rfl,rfl⟩)
def aL {P:Program}{call:Y4}{os:Array Oper}:∀ (l:List Oper) (i:Nat) (fr:Fr) (Z:St) (ds:List Trace) (res:FST),os.toList.drop i=l->i<=os.size ->
  N0 P call os l i fr Z ds=some res->∃ F S r z,i<=z/\F i=fr/\S i=Z/\((z=os.size/\res.p=none/\F os.size=res.fr/\S os.size=res.Z)\/(z<os.size/\res.fr= .nil/\∃ o s,vI P call os F S z o s/\res.p=some s.v/\res.Z=s.Z)) /\
   JY P call os F S r z i/\(∀ d,d∈ds->d∈res.ds) /\
   ∀ k s,i<=k->k<os.size->r k=some s->(∀ b,s.d= .read b-> .read k b∈res.ds)/\(s.d= .eff-> .eff k (S k) (S (k+1))∈res.ds):=by
 intro l;induction l with
 | nil=>
   intro i fr Z ds res K hi h;cases h;have:i=os.size:=by
    have:=congrArg List.length K;simp at this;omega
   subst this;exact⟨fun _=>fr,fun _=>Z,fun _=>none,os.size,Bh _,rfl,rfl,.inl ⟨rfl,rfl,rfl,rfl⟩,⟨fun k o g hz W=>by have:=(Array.getElem?_eq_some_iff.1 W).1;omega,fun k s _ h=>(nomatch h),fun _ _ _=>⟨rfl,rfl,rfl⟩,fun _ _ _ h=>(nomatch h),Bh _⟩,fun _ h=>h,fun k s J h2 _=>om⟩
 | cons o l ih=>
   intro i fr Z ds res K hi h;have a1:i<os.size:=by
    have:=congrArg List.length K;simp at this;omega
   have a4:os.size=i+1+l.length:=by
    have:=congrArg List.length K;simp at this;omega
   have W:os[i]? =some o:=by
    have:=congrArg (fun l:List Oper=>l[0]?) K
    simpa using this
   have H:os.toList.drop (i+1)=l:=by
    rw[<- UM,K];rfl
   obtain⟨c,hw,J⟩:=A8 (show ob (U8 os fr o) (fun c=>bi c (ob (Ab.step P call fr Z o) fun r=>Stepped.rec (motive:=fun _=>Option FST) (fun v Z' d=>Pk d (N0 P call os l (i+1) (I7 fr o.dst v) Z' (KP i Z Z' d ds)) (mL P call os o.op l i fr Z v Z' ds)) r)
    (N0 P call os l (i+1) (I7 fr o.dst R6) Z ds))=some res from h)
   cases c with
   | true=>
     obtain⟨⟨v,Z',d⟩,h2,N⟩:=A8 (show ob (Ab.step P call fr Z o) _=some res from J);rcases cW (show Pk d (N0 P call os l (i+1) (I7 fr o.dst v) Z' (KP i Z Z' d ds)) (mL P call os o.op l i fr Z v Z' ds)=some res from N)with⟨N,a3⟩|⟨N,X⟩
     ·obtain⟨F,S,r,z,fz,f1,I,L,q,M,Y⟩:=ih (i+1) (I7 fr o.dst v) Z' (KP i Z Z' d ds) res H om N;refine⟨fun k=>if k=i then fr else F k,fun k=>if k=i then Z else S k,fun k=>if k=i then some ⟨v,Z',d⟩else r k,z,om,by simp,by simp,?_,⟨?_,?_,?_,?_,q.zle⟩,?_,?_⟩
      ·rcases L with⟨A,B,m,C⟩|⟨A,B,u,s',m,C,g5⟩
       ·left;refine⟨A,B,?_,?_⟩
        ·show(if os.size=i then fr else F os.size)=_;rw[z0z om];exact m
        ·show(if os.size=i then Z else S os.size)=_;rw[z0z om];exact C
       ·right;refine⟨A,B,u,s',⟨m.ho,?_,?_,m.pan,m.eff⟩,C,g5⟩
        ·show U8 os (if z=i then fr else F z) u=_;rw[z0z om];exact m.Sh
        ·show Ab.step P call (if z=i then fr else F z) (if z=i then Z else S z) u=_;rw[z0z om,z0z om];exact m.step
      ·intro k u g E j;by_cases a:k=i
       ·subst a;rw[W]at j;cases j;simp only[FB,z0z (show ¬ k+1=k by omega)];exact .inl ⟨hw,_,h2,rfl,f1,I⟩
       ·simp only[z0z a,z0z (show ¬ k+1=i by omega)];exact q.step k u om E j
      ·intro k s g f;by_cases a:k=i
       ·subst a;simp only[FB]at f;cases f;exact a3
       ·simp only[z0z a]at f;exact q.np k s om f
      ·intro k g V;simp only[z0z (show ¬ k=i by omega),z0z (show ¬ k+1=i by omega)];exact q.eQ k g V
      ·intro k s g f;simp only[z0z (show ¬ k=i by omega)]at f ⊢;exact q.late k s g f
      ·intro d' a0;refine M d' ?_;unfold KP;cases d<;>simp[a0]
      ·intro k s g D y;by_cases a:k=i
       ·subst a;simp only[FB]at y;cases y;refine⟨fun b O=>M _ ?_,fun R=>?_⟩
        ·change d= .read b at O;subst O;unfold KP;simp
        ·change d= .eff at R;subst R;simp only[FB,z0z (show ¬ k+1=k by omega),I];exact M _ (by unfold KP;simp)
       ·simp only[z0z a]at y;simp only[z0z a,z0z (show ¬ k+1=i by omega)];exact Y k s om D y
     ·obtain⟨h4,h5⟩:=H9 N;obtain⟨_,h6,h7⟩:=A8 h5;cases h7;obtain⟨F,S,r,f1,I,L,f4,q⟩:=AJ9 l (i+1) fr Z H om om h6;have a2:¬ Live os i i:=by rintro(J|⟨J,_⟩)<;>omega
      refine⟨fun k=>if k=i then fr else F k,fun k=>if k=i then Z else S k,fun k=>if k=i then none else r k,i,Bh _,by simp,by simp,
       .inr ⟨a1,rfl,o,_,⟨W,by simpa using hw,by simpa using h2,X,h4⟩,rfl,rfl⟩,⟨?_,?_,?_,?_,hi⟩,fun _ h=>h,?_⟩
      ·intro k u g U j;have a:k≠i:=fun e=>a2 (e ▸ U);simp only[z0z a,z0z (show ¬ k+1=i by omega)];exact q k u om U j
      ·intro k s g f;by_cases a:k=i
       ·subst a;simp at f
       ·simp only[z0z a]at f;rw[(f4 k s om f).1];exact fun h=>nomatch h
      ·intro k g V;by_cases a:k=i
       ·subst a;simp only[FB,z0z (show ¬ k+1=k by omega),f1,I];exact⟨trivial,trivial,trivial⟩
       ·simp only[z0z a,z0z (show ¬ k+1=i by omega)];exact L k om V
      ·intro k s g f;by_cases a:k=i
       ·subst a;simp at f
       ·simp only[z0z a]at f ⊢;exact f4 k s om f
      ·intro k s g _ f;by_cases a:k=i
       ·subst a;simp at f
       ·simp only[z0z a]at f;have:=(f4 k s om f).1;exact⟨fun b O=>(by rw[this]at O;cases O),fun R=>(by rw[this]at R;cases R)⟩
   | false=>
     change N0 P call os l (i+1) (I7 fr o.dst R6) Z ds=some res at J;obtain⟨F,S,r,z,fz,f1,I,L,q,M,Y⟩:=ih (i+1) (I7 fr o.dst R6) Z ds res H om J;refine⟨fun k=>if k=i then fr else F k,fun k=>if k=i then Z else S k,fun k=>if k=i then none else r k,z,om,by simp,by simp,?_,⟨?_,?_,?_,?_,q.zle⟩,M,?_⟩
     ·rcases L with⟨A,B,m,C⟩|⟨A,B,u,s',m,C,g5⟩
      ·left;refine⟨A,B,?_,?_⟩
       ·show(if os.size=i then fr else F os.size)=_;rw[z0z om];exact m
       ·show(if os.size=i then Z else S os.size)=_;rw[z0z om];exact C
      ·right;refine⟨A,B,u,s',⟨m.ho,?_,?_,m.pan,m.eff⟩,C,g5⟩
       ·show U8 os (if z=i then fr else F z) u=_;rw[z0z om];exact m.Sh
       ·show Ab.step P call (if z=i then fr else F z) (if z=i then Z else S z) u=_;rw[z0z om,z0z om];exact m.step
     ·intro k u g E j;by_cases a:k=i
      ·subst a;rw[W]at j;cases j;simp only[FB,z0z (show ¬ k+1=k by omega)];exact .inr ⟨hw,trivial,f1,I⟩
      ·simp only[z0z a,z0z (show ¬ k+1=i by omega)];exact q.step k u om E j
     ·intro k s g f;by_cases a:k=i
      ·subst a;simp at f
      ·simp only[z0z a]at f;exact q.np k s om f
     ·intro k g V;simp only[z0z (show ¬ k=i by omega),z0z (show ¬ k+1=i by omega)];exact q.eQ k g V
     ·intro k s g f;simp only[z0z (show ¬ k=i by omega)]at f ⊢;exact q.late k s g f
     ·intro k s g D y;by_cases a:k=i
      ·subst a;simp at y
      ·simp only[z0z a]at y;simp only[z0z a,z0z (show ¬ k+1=i by omega)];exact Y k s om D y
def cX {b:Ay}:∀ {l:List Trace},W5 bs i b l=true->∀ d∈l,RF bs i b d=true:=by
 intro l;induction l with
 |nil=>intro _ d a;simp at a
 | cons x l ih=>
   intro h d a;change bi (RF bs i b x) (W5 bs i b l) false=true at h;cases c:RF bs i b x with
   |false=>rw[c]at h;cases h
   | true=>
     rw[c]at h;rcases W1.1 a with rfl|a
     ·exact c
     ·exact ih h d a
def cY {a:List Trace}:∀ {l:List Trace},BV bs a l=true->∀ i b,.read i b∈l->W5 bs i b a=true:=by
 intro l;induction l with
 |nil=>intro _ i b c;simp at c
 | cons x l ih=>
   intro h i b c;cases x with
   | read i' b'=>
     change bi (W5 bs i' b' a) (BV bs a l) false=true at h;cases e:W5 bs i' b' a with
     |false=>rw[e]at h;cases h
     | true=>
       rw[e]at h;rcases W1.1 c with d|c
       ·cases d;exact e
       ·exact ih h i b c
   | eff i' p q=>
     change BV bs a l=true at h;rcases W1.1 c with d|c
     ·cases d
     ·exact ih h i b c
def fL {v w:Value}(h:veq v w=true):v=w:=by
 have a:∀ {c x:Bool},bi c x false=true->c=true/\x=true:=by
  intro c x h;cases c with
  |false=>cases h
  |true=>exact⟨rfl,h⟩
 unfold veq at h;split at h
 ·split at h
  ·rename_i b _ c;cases b<;>cases c<;>first|rfl|cases h
  ·cases h
 ·split at h
  ·obtain⟨e,d⟩:=a h;rw[XY e];rw[Ni]at d;rw[eq_of_beq d]
  ·cases h
 ·split at h
  ·rw[XX]at h;rw[(MapKept.bytes_beq _ _).1 h]
  ·cases h
 ·split at h
  ·rfl
  ·cases h
 ·split at h
  ·obtain⟨e,d⟩:=a h;rw[Ai e,Ai d]
  ·cases h
 ·split at h
  ·obtain⟨e,d⟩:=a h;rw[Ai e,Ai d]
  ·cases h
 ·split at h
  ·obtain⟨e,d⟩:=a h;obtain⟨d,h3⟩:=a d;obtain⟨h3,h4⟩:=a h3;rw[Ai e,Ai d,Ai h3,Ai h4]
  ·cases h
 ·split at h
  ·obtain⟨e,d⟩:=a h;obtain⟨d,h3⟩:=a d;obtain⟨h3,h4⟩:=a h3;obtain⟨h4,h5⟩:=a h4;rw[Ai e,Ai d,Ai h3,Ai h4,Ai h5]
  ·cases h
 ·split at h
  ·rfl
  ·cases h
 ·split at h
  ·rw[Ai h]
  ·cases h
 ·cases h
def AK0:∀ {l k:List Value},Ae8 l k=true->l=k:=by
 intro l;induction l with
 |nil=>intro k h;cases k with|nil=>rfl|cons=>cases h
 | cons x l ih=>
   intro k h;cases k with
   |nil=>cases h
   | cons y k=>
     change bi (veq x y) (Ae8 l k) false=true at h;cases a:veq x y with
     |false=>rw[a]at h;cases h
     |true=>rw[a]at h;rw[fL a,ih h]
def Mj {x y:Option (List Value)}(h:Cy x y=true):x=y:=by
 cases x with
 |none=>cases h
 | some l=>
   cases y with
   |none=>cases h
   |some k=>rw[AK0 h]
noncomputable def seen (Z:St) (r:Ay):Option (List Value):=Z.read r.b r.off r.n
def VX {c:List Trace}(h:BV bs c c=true){j:Nat}{r:Ay}{pre post:St}(l: .read i r∈c) (f: .eff j pre post∈c):
  ordered bs i j=true\/(r.b<pre.n->pre.ver r.b=post.ver r.b\/seen pre r=seen post r):=by
 have a:=cX (cY h i r l) _ f;change bi (ordered bs i j) true (bi (Nat.blt r.b pre.n) (bi (Nat.beq (pre.ver r.b) (post.ver r.b)) true (Cy (seen pre r) (seen post r))) true)=true at a;cases g:ordered bs i j with
 |true=>exact .inl rfl
 | false=>
   right;intro e;rw[g]at a;change bi (Nat.blt r.b pre.n) _ true=true at a;rw[show Nat.blt r.b pre.n=true from by rw[BW];exact e]at a;change bi (Nat.beq (pre.ver r.b) (post.ver r.b)) true (Cy (seen pre r) (seen post r))=true at a;cases d:Nat.beq (pre.ver r.b) (post.ver r.b)with
   |true=>exact .inl (Ai d)
   |false=>rw[d]at a;exact .inr (Mj a)
section
variable {P:Program}{B8:Env}{G n:Nat}{call:Y4}{os:Array Oper}{F:Nat->Fr}{S:Nat->St}{r:Nat->Option Stepped}{z:Nat}
def Cq (r:Nat->Option Stepped) (i:Nat):Prop:=∃ s,r i=some s/\s.d= .eff
def CI (m:BE P B8 G call) (a:JY P call os F S r z 0)(p:os[k]? =some o){s:Stepped}(c:r k=some s):
  U8 os (F k) o=some true/\Class P B8 G (F k) (S k) o s/\F (k+1)=I7 (F k) o.dst s.v/\S (k+1)=s.Z:=by
 have f:Live os z k:=by
  apply TU;intro j;rcases AU k z with e|e
  ·exact j (.inl e)
  ·rw[(a.eQ k e j).1]at c;cases c
 rcases a.step k o (BH _) f p with⟨g,q,b,d,h,l⟩|⟨g,b,d,h⟩
 ·rw[c]at d;cases d;exact⟨g,JF m b,h,l⟩
 ·rw[c]at b;cases b
def JO (b:JY P call os F S r z 0)(c:Live os z k)(g:os[k]? =some o) (h:r k=none):
  U8 os (F k) o=some false/\F (k+1)=I7 (F k) o.dst R6/\S (k+1)=S k:=by
 rcases b.step k o (BH _) c g with⟨d,l,f,a,e,j⟩|⟨d,f,a,e⟩
 ·rw[h]at a;cases a
 ·exact⟨d,a,e⟩
def HN (m:BE P B8 G call) (a:JY P call os F S r z 0)(p:k<os.size):
  Adv (S k) (S (k+1))/\(¬ Cq r k->∀ b,b<(S k).n->(S (k+1)).h.get b=(S k).h.get b):=by
 have g:os[k]? =some os[k]:=Array.getElem?_eq_getElem p;cases c:r k with
 | none=>
   have j:S (k+1)=S k:=by
    by_cases e:Live os z k
    ·exact(JO a e g c).2.2
    ·exact(a.eQ k (by rcases AU k z with h|h;exact absurd (.inl h) e;exact h) e).2.2
   rw[j];exact⟨.refl _,fun _ _ _=>rfl⟩
 | some s=>
   obtain⟨_,d,_,l⟩:=CI m a g c;rw[l];cases d with
   |pure h=>exact⟨.refl _,fun _ _ _=>rfl⟩
   |new h=>exact⟨.new _ _ _,fun _ b q=>Tr.M7 _ _ om⟩
   |read h=>exact⟨.refl _,fun _ _ _=>rfl⟩
   |eff h=>exact⟨h.1,fun f=>absurd ⟨_,c,rfl⟩ f⟩
   |pan h=>exact absurd rfl (a.np k _ (BH _) c)
def I8 (d:BE P B8 G call) (a:JY P call os F S r z 0):∀ {j:Nat},i<=j->j<=os.size->Adv (S i) (S j):=by
 intro j;induction j with
 | zero=>intro c _;obtain rfl:i=0:=om
         exact .refl _
 | succ j ih=>
   intro c e;by_cases b:i=j+1
   ·subst b;exact .refl _
   ·exact(ih om om).trans (HN d a om).1
def TC (f:BE P B8 G call) (a:JY P call os F S r z 0):∀ {k:Nat},z<=k->k<=os.size->S k=S z:=by
 intro k;induction k with
 | zero=>intro j _;obtain rfl:z=0:=om
         rfl
 | succ k ih=>
   intro j l;by_cases h:z=k+1
   ·rw[h]
   ·rw [<- ih om om];by_cases c:Live os z k
    ·have d:os[k]? =some os[k]:=Array.getElem?_eq_getElem om;cases b:r k with
     |none=>exact(JO a c d b).2.2
     | some s=>
       obtain⟨_,g,_,e⟩:=CI f a d b;rw[e];exact(a.late k s om b).2
    ·exact(a.eQ k om c).2.2
def FQ (m:BE P B8 G call) (c:JY P call os F S r z 0){b:Nat}(v:b<(S i).n):∀ {j:Nat},i<=j->j<=os.size ->
  (∀ k,i<=k->k<j->Cq r k->(S k).ver b=(S (k+1)).ver b)->(S j).h.get b=(S i).h.get b:=by
 intro j;induction j with
 | zero=>intro u _ _;obtain rfl:i=0:=om
         rfl
 | succ j ih=>
   intro u A p;by_cases e:i=j+1
   ·subst e;rfl
   ·have g:=ih om om (fun k f y d=>p k f om d);have a:b<(S j).n:=z5z v (I8 m c om om).n;obtain⟨q,s⟩:=HN m c (k:=j) om;by_cases d:Cq r j
    ·rcases q.ver b a with l|l
     ·exact l.trans g
     ·have:=p j om om d;omega
    ·exact(s d b a).trans g
def TD {Z':St}{r:Ay}(h:Z'.h.get r.b=Z.h.get r.b):seen Z' r=seen Z r:=by
 unfold seen St.read St.Gc St.blk;rw[h]
def MR (h:BE P B8 G call) (a:JY P call os F S r z 0){x:Ay}(q:x.b<(S i).n):∀ {j:Nat},i<=j->j<=os.size ->
  (∀ k,i<=k->k<j->Cq r k->seen (S k) x=seen (S (k+1)) x)->seen (S j) x=seen (S i) x:=by
 intro j;induction j with
 | zero=>intro p _ _;obtain rfl:i=0:=om
         rfl
 | succ j ih=>
   intro p v l;by_cases e:i=j+1
   ·subst e;rfl
   ·have g:=ih om om (fun k f s c=>l k f om c);have d:x.b<(S j).n:=z5z q (I8 h a om om).n;obtain⟨u,m⟩:=HN h a (k:=j) om;by_cases c:Cq r j
    ·rw[<- l j om om c];exact g
    ·rw[TD (m c x.b d)];exact g
def Cz (os:Array Oper) (S:Nat->St) (k b:Nat) (B:Blk):Prop :=
 (b<(S k).n/\(S k).blk b=some B)\/∃ j,k<=j/\j<os.size/\(S j).n<=b/\b<(S (j+1)).n/\(S (j+1)).blk b=some B
structure Inv (B8:Env) (os:Array Oper) (F:Nat->Fr) (S:Nat->St) (r:Nat->Option Stepped) (z:Nat) (O₀:Place) (a₀:Act) (w₀:World) (L:Nat->Prop) (O:Place) (a:Act) (w:World) (k:Nat):Prop where
 kle:k<=os.size
 eR:∀ j,j<k->Cq r j->L j
 Ie:k<os.size->Cq r k/\¬ L k
 Sk:∀ j,k<=j->j<os.size->Cq r j->¬ L j
 down:∀ j,L j->∀ i,Bef os i j->L i
 ext:∀ b,b<(S 0).n\/(S os.size).n<=b->O b=O₀ b
 unb:∀ i,i<os.size->¬ L i->∀ b,(S i).n<=b->b<(S (i+1)).n->O b=none
 le:O₀.le O
 tmp:∀ t i,i<=os.size->(∀ j o,j<i->os[j]? =some o->o.dst=some t->L j)->(∀ j o,i<=j->os[j]? =some o->o.dst=some t->¬ L j) ->
  ∀ v,(F i).get t=some v->∃ v',a.tmps[t]? =some v'/\I0 O v v'
 JZ:a.tmps.size=a₀.tmps.size
 XO:a.defers=a₀.defers
 row:∀ b q B,O b=some q->Cz os S k b B->Fk B8 O w q B
 dom:∀ b q,O b=some q->q.c<w.heap.size
 own:∀ b q B,O b=some q->Cz os S k b B->B.own=true->B8.lo<=q.c
 sep:∀ b q B b' q',O b=some q->Cz os S k b B->B.own=true->b'≠b->O b'=some q'->((S os.size).n<=b'\/∃ B',Cz os S k b' B')->q'.c≠q.c
 low:B8.Low w
 size:w₀.heap.size<=w.heap.size
 I2:∀ c,c<w₀.heap.size->(∀ b q B,O₀ b=some q->q.c=c->(S 0).blk b=some B->B.own=false)->w.heap[c]? =w₀.heap[c]?
 owned:∀ b q B,O b=some q->Cz os S k b B->q.c<w₀.heap.size->∃ b₀ q₀ B₀,O₀ b₀=some q₀/\q₀.c=q.c/\(S 0).blk b₀=some B₀/\(B.own=true->B₀.own=true)
 out:Outside w₀ w
 same:∀ b,b<(S 0).n->O₀ b=none->(S k).h.get b=(S 0).h.get b
 beyond:∀ j,z<=j->¬ Live os z j->¬ L j
 Zq:∀ i,i<k->¬ L i->∀ b,(S i).n<=b->b<(S (i+1)).n->(S k).h.get b=(S (i+1)).h.get b
end
end
section
variable {v v':Value}{j:Nat}{t:Tmp}
section
variable {P:Program}{B8:Env}{G n:Nat}{call:Y4}{os:Array Oper}{F:Nat->Fr}{S:Nat->St}{r:Nat->Option Stepped}{z:Nat}
structure Ctx (P:Program) (B8:Env) (G n:Nat) (call:Y4) (os:Array Oper) (F:Nat->Fr) (S:Nat->St) (r:Nat->Option Stepped) (z:Nat):Prop where
 hC:BE P B8 G call
 hO:∀ (i:Nat) (o:Oper),os[i]? =some o->As P n G o=true
 hD:eP os
 hch:JY P call os F S r z 0
 hR:∀ i x j s s',r i=some s->s.d= .read x->r j=some s'->s'.d= .eff->i<os.size->j<os.size->(Bef os i j\/Bef os j i)\/(x.b<(S j).n->seen (S j) x=seen (S (j+1)) x)
 fresh:∀ b,(S 0).n<=b->(S 0).h.get b=none
def rk (m:eP os):∀ (j i:Nat) (o:Oper),os[j]? =some o->Bef os i j->i<j:=by
 intro j;induction j using Nat.strongRecOn with
 | _ j ih=>
   intro i o d p;obtain⟨e,g,h,b⟩:=Pg d p;have c:=m.UQ j o e d g h;rcases b with b|⟨b,l⟩
   ·omega
   ·have f:e.on<os.size:=by have:=(Array.getElem?_eq_some_iff.1 d).1;omega
    have:=ih e.on c i os[e.on] (Array.getElem?_eq_getElem f) l;omega
structure Rdy (os:Array Oper) (L:Nat->Prop) (i:Nat) (o:Oper):Prop where
 ho:os[i]? =some o
 no:¬ L i
 all:∀ e∈o.after,Region.binds .any e=true->L e.on
def Rdy.bef {L:Nat->Prop}{i:Nat}{o:Oper}(h:Rdy os L i o) (l:∀ j,L j->∀ i,Bef os i j->L i)(g:Bef os j i):L j:=by
 obtain⟨e,c,d,b⟩:=Pg h.ho g;have:=h.all e c d;rcases b with b|⟨_,f⟩
 ·rw[<- b];exact this
 ·exact l _ this _ f
def Sf (f:JY P call os F S r z 0){p:Nat}:∀ {m:Nat},p<=m->m<=os.size->(∀ j o,p<=j->j<m->os[j]? =some o->o.dst≠some t)->(F m).get t=(F p).get t:=by
 intro m;induction m with
 | zero=>intro h _ _;obtain rfl:p=0:=om
         rfl
 | succ m ih=>
   intro H I A;by_cases y:p=m+1
   ·subst y;rfl
   ·rw [<- ih om om fun j o a b c=>A j o a om c];have E:m<os.size:=om;have u:os[m]? =some os[m]:=Array.getElem?_eq_getElem E;have q:=A m os[m] om om u;have l:∀ v,(I7 (F m) os[m].dst v).get t=(F m).get t:=by
     intro v;cases C:os[m].dst with
     |none=>rfl
     | some d=>
       rw[Oy,Tr.M7];intro D;subst D;exact q C
    rcases AU m z with g|g
    ·rcases f.step m os[m] (BH _) (.inl g) u with⟨_,s,_,_,e,_⟩|⟨_,_,e,_⟩
     ·rw[e];exact l _
     ·rw[e];exact l _
    ·by_cases B:Live os z m
     ·rcases f.step m os[m] (BH _) B u with⟨_,s,_,_,e,_⟩|⟨_,_,e,_⟩
      ·rw[e];exact l _
      ·rw[e];exact l _
     ·rw[(f.eQ m g B).2.1]
section
variable {O₀ O:Place}{a₀ a:Act}{w₀ w:World}{L:Nat->Prop}{k i:Nat}{o:Oper}
def Inv.Ar5 (h:Ctx P B8 G n call os F S r z) (b:Inv B8 os F S r z O₀ a₀ w₀ L O a w k) (hi:Rdy os L i o)(ht:Rd os o t)(p:(F i).get t=some v):
  ∃ v',a.tmps[t]? =some v'/\I0 O v v':=by
 have m:=(Array.getElem?_eq_some_iff.1 hi.ho).1;refine b.tmp t i om (fun j f l e c=>?_) (fun j f l e c g=>?_) v p
 ·exact hi.bef b.down (h.hD.names j i f o l e hi.ho ⟨t,.inl ⟨c,.inr ht⟩⟩)
 ·by_cases d:j=i
  ·subst d;exact hi.no g
  ·exact hi.no (b.down j g i (h.hD.names i j o f om hi.ho e ⟨t,.inr ⟨c,ht⟩⟩))
def Inv.known (c:Ctx P B8 G n call os F S r z) (b:Inv B8 os F S r z O₀ a₀ w₀ L O a w k) (hi:Rdy os L i o) (d:Bw O₀ G):K5 O (F i) a.eval o.op.operands.toList :=
 Sg (d.mono b.le) (c.hO i o hi.ho) fun _ ht v e=>b.Ar5 c hi (.inl ht) e
def Inv.Sh (g:Ctx P B8 G n call os F S r z) (f:Inv B8 os F S r z O₀ a₀ w₀ L O a w k) (hi:Rdy os L i o){c:Bool}(l:U8 os (F i) o=some c):Region.wanted o (yielded os a.tmps)=c :=
 Kw l fun j b t d e v h=>f.Ar5 g hi (.inr ⟨j,b,d,e⟩) h
def Inv.AY3 (s:Ctx P B8 G n call os F S r z) (q:Inv B8 os F S r z O₀ a₀ w₀ L O a w k) (hi:Rdy os L i o) (V:n<=a₀.tmps.size){l:Place}(C:O.le l)(N:F (i+1)=I7 (F i) o.dst v) (W:I0 l v v'):
  ∀ t m,m<=os.size->(∀ j oj,j<m->os[j]? =some oj->oj.dst=some t->L j\/j=i)->(∀ j oj,m<=j->os[j]? =some oj->oj.dst=some t->¬ (L j\/j=i)) ->
   ∀ u,(F m).get t=some u->∃ u',(a.put o.dst v').tmps[t]? =some u'/\I0 l u u':=by
 intro t m J H I u E;by_cases c:o.dst=some t
 ·have R:i<m:=by
   rcases AU i m with y|y
   ·exact y
   ·exact absurd (.inr rfl) (I i o y hi.ho c)
  have M:=Sf s.hch (t:=t) (p:=i+1) (m:=m) om J (fun j oj U B g b=>by
   rcases H j oj B g b with e|h
   ·exact hi.no (q.down j e i (s.hD.names i j o oj om hi.ho g ⟨t,.inl ⟨c,.inl b⟩⟩))
   ·omega)
  rw[M,N,c,Oy,Tr.get_set_same]at E;cases E;refine⟨v',?_,W⟩;rw[c];show(a.tmps.setIfInBounds t v')[t]? =_;rw[Array.getElem?_setIfInBounds_self_of_lt];exact z5z (Sj (s.hO i o hi.ho) t c) (by rw[q.JZ];exact V)
 ·have key:=q.tmp t m J (fun j oj A f b=>by
    rcases H j oj A f b with e|h
    ·exact e
    ·subst h;rw[hi.ho]at f;cases f;exact absurd b c)
   (fun j oj A f b e=>I j oj A f b (.inl e)) u E
  obtain⟨u',K,X⟩:=key;refine⟨u',?_,X.mono C⟩;cases D:o.dst with
  |none=>exact K
  | some d=>
    show(a.tmps.setIfInBounds d v')[t]? =_;rw[Array.getElem?_setIfInBounds_ne (by intro h;subst h;exact c D)];exact K
def Inv.rm (c:Inv B8 os F S r z O₀ a₀ w₀ L O a w k) (hi:Rdy os L i o):∀ j,(L j\/j=i)->∀ i',Bef os i' j->(L i'\/i'=i):=by
 intro j b i' d;rcases b with b|rfl
 ·exact .inl (c.down j b i' d)
 ·exact .inl (hi.bef c.down d)
def Inv.quiet (s:Ctx P B8 G n call os F S r z) (b:Inv B8 os F S r z O₀ a₀ w₀ L O a w k) (hi:Rdy os L i o) (y:Live os z i) (l:n<=a₀.tmps.size)(q:F (i+1)=I7 (F i) o.dst v) (u:I0 O v v') (g:¬ Cq r i):
  Inv B8 os F S r z O₀ a₀ w₀ (fun j=>L j\/j=i) O (a.put o.dst v') w k where
 kle:=b.kle
 eR:=fun j c d=> .inl (b.eR j c d)
 Ie:=fun h=>⟨(b.Ie h).1,fun e=>e.elim (b.Ie h).2 fun f=>g (f ▸ (b.Ie h).1)⟩
 Sk:=fun j c d p e=>e.elim (b.Sk j c d p) fun f=>g (f ▸ p)
 down:=b.rm hi
 ext:=b.ext
 unb:=fun m c d=>b.unb m c fun h=>d (.inl h)
 le:=b.le
 tmp:=b.AY3 s hi l (Place.le_refl _) q u
 JZ:=by rw[En];exact b.JZ
 XO:=by rw[put_defers];exact b.XO
 row:=b.row
 dom:=b.dom
 own:=b.own
 sep:=b.sep
 low:=b.low
 size:=b.size
 I2:=b.I2
 owned:=b.owned
 out:=b.out
 same:=b.same
 beyond:=fun j c l e=>e.elim (b.beyond j c l) fun f=>l (f ▸ y)
 Zq:=fun m c d=>b.Zq m c fun h=>d (.inl h)
def Ph (c:Ctx P B8 G n call os F S r z){i b:Nat}(hi:i<os.size) (l:j<os.size) (d:(S i).n<=b) (e:b<(S (i+1)).n) (f:(S j).n<=b) (g:b<(S (j+1)).n):i=j:=by
 rcases eS i j with h|h|h
 ·have:=(I8 c.hC c.hch (i:=i+1) (j:=j) om om).n;omega
 ·exact h
 ·have:=(I8 c.hC c.hch (i:=j+1) (j:=i) om om).n;omega
def Inv.new (A:Ctx P B8 G n call os F S r z) (d:Inv B8 os F S r z O₀ a₀ w₀ L O a w k) (hi:Rdy os L i o) (hz:Live os z i) (V:n<=a₀.tmps.size){cs:List Value}{t:Option TypeId}{v v':Value}(hF:F (i+1)=I7 (F i) o.dst v) (hS:S (i+1)=(S i).new cs t) (R:¬ Cq r i)
  {w':World}{arr:Array Value}{el:TypeId}{lo H:Nat}{vs more:List Value} (hs:w'.heap.size=w.heap.size+1) (Lw:w'.heap[w.heap.size]? =some (.cells arr el (lo,H))) (s:∀ c,c<w.heap.size->w'.heap[c]? =w.heap[c]?)
  (ho:Outside w w') (a0:arr.size<=lo\/H<=lo) (Z:∀ v∈cs,L8 v=true) (LK:arr.toList=vs++more) (U:F8 O cs vs) (ht:∀ x,t=some x->x=el)
  (hv:∀ O':Place,O' (S i).n=some ⟨w.heap.size,0,arr.size⟩->I0 O' v v') :
  Inv B8 os F S r z O₀ a₀ w₀ (fun j=>L j\/j=i) (O.put (S i).n ⟨w.heap.size,0,arr.size⟩) (a.put o.dst v') w' k:=by
 have E:=(Array.getElem?_eq_some_iff.1 hi.ho).1;have a4:(S (i+1)).n=(S i).n+1:=by rw[hS];rfl
 have Hc:O (S i).n=none:=d.unb i E hi.no _ nL om;have D:=Place.Hz (O:=O) ⟨w.heap.size,0,arr.size⟩ Hc;have ru:(S (i+1)).h.get (S i).n=some ⟨cs,true,true,0,.row t⟩:=by rw[hS];exact Tr.get_set_same _ _ _
 have a2:k≠i:=fun C=>by
  subst C;exact R (d.Ie E).1
 have X:∀ B,Cz os S k (S i).n B->B=⟨cs,true,true,0,.row t⟩:=by
  intro B X;rcases X with⟨l,m⟩|⟨j,l,m,y,I,h5⟩
  ·have a1:i<k:=by
    rcases AU i k with hh|hh
    ·exact hh
    ·have:=(I8 A.hC A.hch hh om).n;omega
   have h6:=d.Zq i a1 hi.no (S i).n nL om;rw[ru]at h6;have J:=(AM m).1;rw[h6]at J;cases J;rfl
  ·have:=Ph A E m nL om y I;subst this;have J:=(AM h5).1;rw[ru]at J;cases J;rfl
 have a3:=(I8 A.hC A.hch (i:=0) (j:=i) om om).n;have a5:=(I8 A.hC A.hch (i:=i+1) (j:=os.size) om om).n
 refine⟨d.kle,fun j l m=> .inl (d.eR j l m),fun h=>⟨(d.Ie h).1,fun K=>K.elim (d.Ie h).2 fun C=>a2 C⟩,fun j l m y K=>K.elim (d.Sk j l m y) fun C=>R (C ▸ y),
  d.rm hi,?_,?_,Place.le_trans d.le D,d.AY3 A hi V D hF (hv _ (Place.R0 _ _ _)),by rw[En];exact d.JZ,by rw[put_defers];exact d.XO,?_,?_,?_,?_,?_,?_,?_,?_,d.out.trans ho,d.same,fun j l V K=>K.elim (d.beyond j l V) (fun C=>V (C ▸ hz)),fun i' l m=>d.Zq i' l fun h=>m (.inl h)⟩
 ·intro b f;rw[Place.Ak _ _ om];exact d.ext b f
 ·intro i' l m b y I;rw[Place.Ak _ _ ?_]
  ·exact d.unb i' l (fun h=>m (.inl h)) b y I
  ·intro C;subst C;exact m (.inr (Ph A l E y I nL om))
 ·intro b q B f g;by_cases e:b=(S i).n
  ·subst e;rw[Place.R0]at f;cases f;rw[X B g];have hl:=U.length;refine .row rfl ⟨arr,el,lo,H,Lw,rfl,?_,fun _=>a0,Z,fun j u hj=>?_⟩ (fun x hx=>by cases ht x hx;exact⟨rfl,_,_,Lw⟩)
   ·show 0+cs.length<=arr.size;rw[<- QD,LK];simp;omega
   ·obtain⟨u',y,I⟩:=U.get hj;refine⟨u',?_,I.mono D⟩;show arr[0+j]? =_;rw[<- Array.getElem?_toList,LK,GK,List.getElem?_append_left (List.getElem?_eq_some_iff.1 y).1];exact y
  ·rw[Place.Ak _ _ e]at f;exact(d.row b q B f g).mono D (s q.c (d.dom b q f))
 ·intro b q f;by_cases e:b=(S i).n
  ·subst e;rw[Place.R0]at f;cases f;show w.heap.size<_;omega
  ·rw[Place.Ak _ _ e]at f;have:=d.dom b q f;omega
 ·intro b q B f g Y;by_cases e:b=(S i).n
  ·subst e;rw[Place.R0]at f;cases f;exact d.low.1
  ·rw[Place.Ak _ _ e]at f;exact d.own b q B f g Y
 ·intro b q B W q' f g Y M p hl;by_cases e:b=(S i).n
  ·subst e;rw[Place.R0]at f;cases f;rw[Place.Ak _ _ M]at p;have:=d.dom W q' p;show q'.c≠w.heap.size;omega
  ·rw[Place.Ak _ _ e]at f;by_cases ki:W=(S i).n
   ·subst ki;rw[Place.R0]at p;cases p;have:=d.dom b q f;show w.heap.size≠q.c;omega
   ·rw[Place.Ak _ _ ki]at p;exact d.sep b q B W q' f g Y M p hl
 ·exact d.low.next om fun c Z=>s c (z5z Z d.low.1)
 ·have:=d.size;omega
 ·intro c l m;rw[s c (by have:=d.size;omega)];exact d.I2 c l m
 ·intro b q B f g N;by_cases e:b=(S i).n
  ·subst e;rw[Place.R0]at f;cases f;change w.heap.size<_ at N;have:=d.size;omega
  ·rw[Place.Ak _ _ e]at f;exact d.owned b q B f g N
def Inv.Zr (c:Ctx P B8 G n call os F S r z) (u:Inv B8 os F S r z O₀ a₀ w₀ L O a w k) (hi:Rdy os L i o){s:Stepped}{x:Ay}(hr:r i=some s) (hd:s.d= .read x){cs:List Value}(W:seen (S i) x=some cs){q:BU}(hq:O x.b=some q):
  Seg O w q x.off cs:=by
 have I:=(Array.getElem?_eq_some_iff.1 hi.ho).1;obtain⟨x1,C,E⟩:=x;generalize a2:x1=b at *;have a0:∀ j,j<=os.size->∀ b,(S j).n<=b->(S j).h.get b=none:=fun j M=>(I8 c.hC c.hch (i:=0) (j:=j) om M).fresh c.fresh;have y:b<(S i).n:=by
  rcases AU b (S i).n with A|A
  ·exact A
  ·obtain⟨B,p,_⟩:=W7 (show(S i).read b C E=some cs from W);have:=(AM (AH p).1).1;rw[a0 i om b A]at this;cases this
 have X:¬ Cq r i:=by rintro⟨J,g,l⟩;rw[hr]at g;cases g;rw[hd]at l;cases l
 have a4:k≠i:=fun he=>by subst he;exact X (u.Ie I).1
 have done:∀ j,seen (S j) ⟨b,C,E⟩=seen (S i) ⟨b,C,E⟩->(∀ B,(S j).blk b=some B->Cz os S k b B)->Seg O w q C cs:=by
  intro j M hH;rw[W]at M;obtain⟨B,p,GL⟩:=W7 (show(S j).read b C E=some cs from M);obtain⟨hB1,_,hB2⟩:=AH p;have hs:=u.row b q B hq (hH B hB1);unfold Fk at hs;rw[hB2]at hs;exact(Row.seg hs.1 GL).1
 rcases AU i k with a1|a1
 ·have e:b<(S k).n:=z5z y (I8 c.hC c.hch om u.kle).n;refine done k (MR c.hC c.hch y om u.kle fun j g l f=>?_) (fun B p=> .inl ⟨e,p⟩);obtain⟨J,U,K⟩:=f;have M:j<os.size:=by have:=u.kle;omega
  have a3:j≠i:=fun he=>by subst he;exact X ⟨J,U,K⟩
  rcases c.hR i _ j s J hr hd U K I M with(D|D)|D
  ·exact absurd (u.down j (u.eR j l ⟨J,U,K⟩) i D) hi.no
  ·have:=rk c.hD i j o hi.ho D;omega
  ·exact D (z5z y (I8 c.hC c.hch om om).n)
 ·have N:∀ j,k<=j->j<i->Cq r j->b<(S j).n->seen (S j) ⟨b,C,E⟩=seen (S (j+1)) ⟨b,C,E⟩:=by
   intro j g l f U;obtain⟨J,K,D⟩:=f;rcases c.hR i _ j s J hr hd K D I om with(V|V)|V
   ·have:=rk c.hD j i os[j] (Array.getElem?_eq_getElem om) V;omega
   ·exact absurd (hi.bef u.down V) (u.Sk j g om ⟨J,K,D⟩)
   ·exact V U
  by_cases e:b<(S k).n
  ·refine done k ?_ (fun B p=> .inl ⟨e,p⟩);exact(MR (x:=⟨b,C,E⟩) c.hC c.hch e om om fun j g l f=>N j g l f (z5z e (I8 c.hC c.hch g om).n)).symm
  ·have Y:∃ j,k<=j/\j<i/\(S j).n<=b/\b<(S (j+1)).n:=by
    have:∀ m,k<=m->m<=i->b<(S m).n->∃ j,k<=j/\j<m/\(S j).n<=b/\b<(S (j+1)).n:=by
     intro m;induction m with
     | zero=>intro g l f;obtain rfl:k=0:=om
             exact absurd f e
     | succ m ih=>
       intro g l f;by_cases hm:b<(S m).n
       ·have H:k<=m:=by
         rcases AU m k with A|A
         ·obtain rfl:k=m+1:=om;exact absurd f e
         ·exact A
        obtain⟨j,Z,g2,g3,R⟩:=ih H om hm;exact⟨j,Z,om,g3,R⟩
       ·have H:k<=m:=by
         rcases AU m k with A|A
         ·obtain rfl:k=m+1:=om;exact absurd f e
         ·exact A
        exact⟨m,H,om,om,f⟩
    exact this i om nL y
   obtain⟨j,Z,g2,g3,R⟩:=Y;refine done (j+1) ?_ (fun B p=> .inr ⟨j,Z,om,g3,R,p⟩);exact(MR (x:=⟨b,C,E⟩) c.hC c.hch R om om fun m g l f=>N m om l f (z5z R (I8 c.hC c.hch g om).n)).symm
def Inv.effect (J:Ctx P B8 G n call os F S r z) (e:Inv B8 os F S r z O₀ a₀ w₀ L O a w i) (hi:Rdy os L i o) (hz:Live os z i) (hn:n<=a₀.tmps.size){O':Place}{w':World}{v v':Value}(hF:F (i+1)=I7 (F i) o.dst v)
  (hR:Rel B8 O' (S (i+1)) w') (K:Y6 O (S i) w O' (S (i+1)) w') (a4:O.le O') (hv:I0 O' v v') {N:Nat} (X:i<N) (a3:N<=os.size) (a7:∀ j,i<j->j<N->¬ Cq r j) (a8:N<os.size->Cq r N) :
  Inv B8 os F S r z O₀ a₀ w₀ (fun j=>L j\/j=i) O' (a.put o.dst v') w' N:=by
 have b6:=(Array.getElem?_eq_some_iff.1 hi.ho).1;have Lc:∀ x y,x<=y->y<=os.size->(S x).n<=(S y).n:=fun x y f d=>(I8 J.hC J.hch f d).n;have b7:=Lc 0 i om om;have c3:=Lc (i+1) os.size om om;have c2:=Lc (i+1) N om a3;have c1:=Lc i (i+1) om om;have p:∀ b x,i+1<=x->x<=N->b<(S x).n->(S N).h.get b=(S x).h.get b:=fun b x f d s=>
  FQ J.hC J.hch s d a3 fun j I R H=>absurd H (a7 j om om)
 have Sl:∀ {b x y},(S x).h.get b=(S y).h.get b->(S x).blk b=(S y).blk b:=by
  intro b x y h;show ob ((S x).h.get b) _=ob ((S y).h.get b) _;rw[h]
 have YS:∀ {b q},O b=some q->b<(S i).n\/(S (i+1)).n<=b:=by
  intro b q C;rcases AU b (S i).n with M|M
  ·exact .inl M
  ·rcases AU b (S (i+1)).n with a2|a2
   ·rw[e.unb i b6 hi.no b M a2]at C;cases C
   ·exact .inr a2
 -- a block is either one that the operation BX3 or made,or one that was made out of the AU9 order
 have split:∀ b q B,O' b=some q->Cz os S N b B->(b<(S (i+1)).n/\(S (i+1)).blk b=some B)\/((S (i+1)).n<=b/\O b=some q/\Cz os S i b B):=by
  intro b q B C A;rcases A with⟨f,d⟩|⟨j,f,d,s,h4,h5⟩
  ·rcases AU b (S (i+1)).n with M|M
   ·exact .inl ⟨M,by rw[<- Sl (p b (i+1) nL X M)];exact d⟩
   ·right;refine⟨M,by rw[<- K.ext b (.inr M)];exact C,.inr ?_⟩;have:∀ m,i+1<=m->m<=N->b<(S m).n->∃ j,i+1<=j/\j<m/\(S j).n<=b/\b<(S (j+1)).n:=by
     intro m;induction m with
     |zero=>intro I _ _;omega
     | succ m ih=>
       intro I R H;have a6:i+1<=m:=by
        rcases AU i m with g|g
        ·exact g
        ·obtain rfl:m=i:=om;omega
       by_cases hm:b<(S m).n
       ·obtain⟨j,g4,g5,g6,g7⟩:=ih a6 om hm;exact⟨j,g4,om,g6,g7⟩
       ·exact⟨m,a6,om,om,H⟩
    obtain⟨j,I,R,H,g4⟩:=this N X nL f;exact⟨j,om,om,H,g4,by rw[<- Sl (p b (j+1) om om g4)];exact d⟩
  ·have a5:(S (i+1)).n<=b:=j9 (Lc (i+1) j om om) s;exact .inr ⟨a5,by rw[<- K.ext b (.inr a5)];exact C,.inr ⟨j,om,d,s,h4,h5⟩⟩
 have D:∀ b B,(S i).blk b=some B->Cz os S i b B:=by
  intro b B hB;refine .inl ⟨?_,hB⟩;rcases AU b (S i).n with M|M
  ·exact M
  ·have f:=(AM hB).1;rw[(I8 J.hC J.hch (i:=0) (j:=i) om om).fresh J.fresh b M]at f;cases f
 have c5:=e.size;have c0:=K.size;refine⟨a3,?_,?_,?_,e.rm hi,?_,?_,Place.le_trans e.le a4,e.AY3 J hi hn a4 hF hv,by rw[En];exact e.JZ,by rw[put_defers];exact e.XO,?_,hR.dom,?_,?_,hR.low,om,?_,?_,e.out.trans K.out,?_,fun j f hn hL=>hL.elim (e.beyond j f hn) (fun he=>hn (he ▸ hz)),?_⟩
 ·intro j f d;rcases eS j i with h|h|h
  ·exact .inl (e.eR j h d)
  ·exact .inr h
  ·exact absurd d (a7 j h f)
 ·intro h;refine⟨a8 h,fun hL=>hL.elim (e.Sk N om h (a8 h)) fun he=>om⟩
 ·intro j f d s hL;rcases hL with hL|hL
  ·exact e.Sk j om d s hL
  ·omega
 ·intro b C;rw[K.ext b om];exact e.ext b C
 ·intro U f d b s h4;have b0:U≠i:=fun he=>d (.inr he);have:b<(S i).n\/(S (i+1)).n<=b:=by
   rcases AU U i with h|h
   ·have:=Lc (U+1) i om om;omega
   ·have:=Lc (i+1) U om om;omega
  rw[K.ext b this];exact e.unb U f (fun h=>d (.inl h)) b s h4
 ·intro b q B C A;rcases split b q B C A with⟨_,d⟩|⟨f,d,s⟩
  ·exact hR.IQ b q B C d
  ·refine(e.row b q B d s).mono a4 (K.I2 q.c (e.dom b q d) fun b1 q1 B1 I R H=>?_);cases V:B1.own with
   |false=>rfl
   | true=>
     have b8:b1<(S i).n:=by rcases D b1 B1 H with⟨g,_⟩|⟨j,g4,g5,g6,g7,g8⟩
                            ·exact g
                            ·rcases YS I with g|g
                             ·exact g
                             ·have:=(AM H).1;rw[(I8 J.hC J.hch (i:=0) (j:=i) om om).fresh J.fresh b1 om]at this;cases this
     exact absurd R.symm (e.sep b1 q1 B1 b q I (D b1 B1 H) V om d (.inr ⟨B,s⟩))
 ·intro b q B C A V;rcases split b q B C A with⟨_,d⟩|⟨f,d,s⟩
  ·exact hR.own b q B C d V
  ·exact e.own b q B d s V
 ·intro b q B b' q' C A V a1 W Y;rcases split b q B C A with⟨f,d⟩|⟨f,d,s⟩
  ·refine hR.sep b q B b' q' C d V a1 W ?_;rcases Y with Y|⟨B',Y⟩
   ·exact .inl om
   ·rcases split b' q' B' W Y with⟨_,R⟩|⟨I,_,_⟩
    ·exact .inr ⟨B',R⟩
    ·exact .inl I
  ·rcases Y with Y|⟨B',Y⟩
   ·have b2:O b'=some q':=by rw[<- K.ext b' (.inr om)];exact W
    exact e.sep b q B b' q' d s V a1 b2 (.inl Y)
   ·rcases split b' q' B' W Y with⟨I,R⟩|⟨I,R,H⟩
    ·intro he;have c4:=e.dom b q d;obtain⟨l,E,u,j1,j2,j3,_⟩:=K.owned b' q' B' W R om;have b4:=D l u j3;have b3:l≠b:=by
      rcases YS j1 with g|g
      ·omega
      ·have:=(AM j3).1;rw[(I8 J.hC J.hch (i:=0) (j:=i) om om).fresh J.fresh l om]at this;cases this
     exact e.sep b q B l E d s V b3 j1 (.inr ⟨u,b4⟩) om
    ·exact e.sep b q B b' q' d s V a1 R (.inr ⟨B',H⟩)
 ·intro c f d;rw[K.I2 c om ?_]
  ·exact e.I2 c f d
  ·intro b1 q1 B1 I R H;cases V:B1.own with
   |false=>rfl
   | true=>
     obtain⟨l,E,u,j1,j2,j3,j4⟩:=e.owned b1 q1 B1 I (D b1 B1 H) om;have:=d l E u j1 om j3;rw[j4 V]at this;cases this
 ·intro b q B C A b5;rcases split b q B C A with⟨f,d⟩|⟨f,d,s⟩
  ·obtain⟨a0,a9,Z,I,R,H,g4⟩:=K.owned b q B C d om;obtain⟨l,E,u,j1,j2,j3,j4⟩:=e.owned a0 a9 Z I (D a0 Z H) om;exact⟨l,E,u,j1,om,j3,fun h=>j4 (g4 h)⟩
  ·exact e.owned b q B d s b5
 ·intro b f d;rw[p b (i+1) nL X om,K.same b om (by rw[e.ext b (.inl f)];exact d)];exact e.same b f d
 ·intro U f d b s h4;have b0:U≠i:=fun he=>d (.inr he);rcases AU U i with h|h
  ·have b9:=Lc (U+1) i om om;rw[p b (i+1) nL X om,K.same b om (e.unb U om (fun h=>d (.inl h)) b s h4)];exact e.Zq U h (fun h=>d (.inl h)) b s h4
  ·exact p b (U+1) om om h4
end
end
end
section
variable {O:Place}{a:Act}{w:World}{k:Nat}{o:Oper}{t:Tmp}
def count_set:∀ (l:List Bool) (i:Nat),l[i]? =some false->(l.set i true).count false+1=l.count false:=by
 intro l;induction l with
 |nil=>intro i h;simp at h
 | cons x l ih=>
   intro i h;cases i with
   |zero=>simp at h;subst h;simp
   | succ i=>
     have:=ih i (by simpa using h);rw[List.set_cons_succ,jR,jR];omega
def Tg:∀ (l:List Bool),l.count false=0->∀ i,i<l.length->l[i]? =some true:=by
 intro l;induction l with
 |nil=>intro _ i h;simp at h
 | cons x l ih=>
   intro h i hi;rw[jR]at h;cases x with
   |false=>simp at h
   | true=>
     cases i with
     |zero=>rfl
     |succ i=>simpa using ih (by simpa using h) i (by simpa using hi)
section
variable {P:Program}{B8:Env}{G n:Nat}{call:Y4}{os:Array Oper}{F:Nat->Fr}{S:Nat->St}{r:Nat->Option Stepped}{z:Nat}
def Ng (r:Nat->Option Stepped) (m:Nat):∀ (d i:Nat),m=i+d->∃ k,i<=k/\k<=m/\(∀ j,i<=j->j<k->¬ Cq r j)/\(k<m->Cq r k):=by
 intro d;induction d with
 |zero=>intro i h;exact⟨i,Bh _,om,fun j c b=>om,fun h=>om⟩
 | succ d ih=>
   intro i h;by_cases e:Cq r i
   ·exact⟨i,Bh _,om,fun j c b=>om,fun _=>e⟩
   ·obtain⟨k,c,b,g,l⟩:=ih (i+1) om;refine⟨k,om,b,fun j q f=>?_,l⟩;by_cases p:j=i
    ·subst p;exact e
    ·exact g j om f
variable {O₀:Place}{a₀:Act}{w₀:World}
def jy {L:Nat->Prop}{i:Nat}(p:Ctx P B8 G n call os F S r z) (f:Inv B8 os F S r z O₀ a₀ w₀ L O a w i) (hi:i<os.size):Rel B8 O (S i) w/\Co O (S i).n (S (i+1)).n:=by
 have U:=(I8 p.hC p.hch (i:=0) (j:=i) om om).fresh p.fresh;have c:∀ b B,(S i).blk b=some B->Cz os S i b B:=by
  intro b B V;refine .inl ⟨?_,V⟩;rcases AU b (S i).n with d|d
  ·exact d
  ·have l:=(AM V).1;rw[U b d]at l;cases l
 refine⟨⟨U,fun b q B l A=>f.row b q B l (c b B A),f.dom,fun b q B l A I=>f.own b q B l (c b B A) I,?_,f.low⟩,f.unb i hi (f.Ie hi).2⟩;intro b q B e q' l A I h4 J E;refine f.sep b q B e q' l (c b B A) I h4 J ?_;rcases E with E|⟨R,E⟩
 ·rcases AU e (S os.size).n with d|d
  ·right;have:∀ m,i<=m->m<=os.size->e<(S m).n->∃ j,i<=j/\j<m/\(S j).n<=e/\e<(S (j+1)).n:=by
    intro m;induction m with
    | zero=>intro D v y;obtain rfl:i=0:=om
            omega
    | succ m ih=>
      intro D v y;by_cases M:i=m+1
      ·subst M;omega
      ·by_cases hm:e<(S m).n
       ·obtain⟨j,g,g5,Y,Z⟩:=ih om om hm;exact⟨j,g,om,Y,Z⟩
       ·exact⟨m,om,om,om,y⟩
   obtain⟨j,D,v,y,g⟩:=this os.size om nL d;have C:L j:=by
    apply TU;intro hL;rw[f.unb j v hL e y g]at J;cases J
   have N:¬ Cq r j:=fun he=>f.Sk j D v he C;have X:os[j]? =some os[j]:=Array.getElem?_eq_getElem v;cases H:r j with
   | none=>
     obtain⟨_,_,k3⟩:=JO p.hch (by apply TU;intro W;rcases AU j z with d|d;exact W (.inl d);exact absurd C (f.beyond j d W)) X H;rw[k3]at g;omega
   | some s=>
     obtain⟨_,K,_,u⟩:=CI p.hC p.hch X H;cases K with
     |pure h=>change S (j+1)=S j at u;rw[u]at g;omega
     |read h=>change S (j+1)=S j at u;rw[u]at g;omega
     |eff h=>exact absurd ⟨_,H,rfl⟩ N
     |pan h=>exact absurd rfl (p.hch.np j _ (BH _) H)
     | @new cs vf t h=>
       change S (j+1)=(S j).new cs t at u;have hb:e=(S j).n:=by rw[u]at g;change e<(S j).n+1 at g;omega
       subst hb;exact⟨_,.inr ⟨j,D,v,y,g,by rw[u];exact WS _ _ _⟩⟩
  ·exact .inl d
 ·exact .inr ⟨R,c e R E⟩
def Py {L:Nat->Prop}(m:Ctx P B8 G n call os F S r z) (d:Inv B8 os F S r z O₀ a₀ w₀ L O a w k) (E:k=os.size):
  Rel B8 O (S os.size) w/\Y6 O₀ (S 0) w₀ O (S os.size) w:=by
 subst E;have g:=I8 m.hC m.hch (i:=0) (j:=os.size) om nL;have v:=g.fresh m.fresh;have c:∀ b B,(S os.size).blk b=some B->Cz os S os.size b B:=by
  intro b B y;refine .inl ⟨?_,y⟩;rcases AU b (S os.size).n with p|p
  ·exact p
  ·have e:=(AM y).1;rw[v b p]at e;cases e
 refine⟨⟨v,fun b q B e f=>d.row b q B e (c b B f),d.dom,fun b q B e f l=>d.own b q B e (c b B f) l,?_,d.low⟩,⟨d.ext,g.n,d.size,d.I2,fun b q B e f l=>d.owned b q B e (c b B f) l,d.out,d.same⟩⟩;intro b q B u H e f l A C D;refine d.sep b q B u H e (c b B f) l A C (D.imp id fun⟨s,h⟩=>⟨s,c u s h⟩)
def jz {L:Nat->Prop}(f:Ctx P B8 G n call os F S r z) (c:Inv B8 os F S r z O₀ a₀ w₀ L O a w k) (e:∀ i,i<os.size->L i):
  Rel B8 O (S os.size) w/\Y6 O₀ (S 0) w₀ O (S os.size) w/\FD O (F os.size) a:=by
 have g:k=os.size:=by
  rcases AU k os.size with h|h
  ·exact absurd (e k h) (c.Ie h).2
  ·have:=c.kle;omega
 obtain⟨b,d⟩:=Py f c g;refine⟨b,d,?_⟩;intro t v l;exact c.tmp t os.size nL (fun j o b _ _=>e j b) (fun j o b d _=>by have:=(Array.getElem?_eq_some_iff.1 d).1;omega) v l
def Ll (b:JY P call os F S r z 0)(m:os[k]? =some o){s:Stepped}(g:r k=some s):∀ c,o.op≠ .defer c:=by
 have f:Live os z k:=by
  apply TU;intro h;rcases AU k z with e|e
  ·exact h (.inl e)
  ·rw[(b.eQ k e h).1]at g;cases g
 rcases b.step k o (BH _) f m with⟨i,q,d,j,l,p⟩|⟨i,d,j,l⟩
 ·exact JE d
 ·rw[g]at d;cases d
def sk {rd:Option Nat}(g:Ctx P B8 G n call os F S r z) (V:n<=a₀.tmps.size) (hG:Bw O₀ G){Q:Exit->Act->World->Prop}{N:Nat}(hF:Co O₀ (S 0).n N)
  (hp:z=os.size\/(z<os.size/\∃ o s,vI P call os F S z o s/\s.Z.n<=N/\∀ O' a' w' v',Rel B8 O' s.Z w'->Y6 O₀ (S 0) w₀ O' s.Z w'->I0 O' s.v v'->a'.tmps.size=a₀.tmps.size->a'.defers=a₀.defers->Q (eJ v') a' w'))
  (hQ:z=os.size->∀ O' a' w',Rel B8 O' (S os.size) w'->Y6 O₀ (S 0) w₀ O' (S os.size) w'->FD O' (F os.size) a'->a'.tmps.size=a₀.tmps.size->a'.defers=a₀.defers->Q .normal a' w') :
  ∀ (fuel:Nat) (listed:Array Bool) (O:Place) (a:Act) (w:World) (k:Nat),listed.size=os.size->listed.toList.count false<=fuel ->
   Inv B8 os F S r z O₀ a₀ w₀ (fun j=>listed.getD j false=true) O a w k->wpAnyIn (FW rd) 0 P .any os Q fuel listed a w:=by
 have fin:∀ (listed:Array Bool) (O:Place) (a:Act) (w:World) (k:Nat),listed.size=os.size->Inv B8 os F S r z O₀ a₀ w₀ (fun j=>listed.getD j false=true) O a w k->Region.ready .any os listed=[]->Q .normal a w:=by
  intro listed O a w k C f p;have Xv:∀ i,i<os.size->listed.getD i false=true:=by
   intro i;induction i using Nat.strongRecOn with
   | _ i ih=>
     intro hi;apply TU;intro hL;have vJ:i∈Region.ready .any os listed:=by
      rw[Vr];refine⟨?_,os[i],Array.getElem?_eq_getElem hi,fun e he hb=>?_⟩
      ·rw[IH]at hL ⊢;rw[Array.getElem?_eq_getElem om]at hL ⊢
       simpa using hL
      ·have:=g.hD.UQ i os[i] e (Array.getElem?_eq_getElem hi) he hb;exact ih e.on this om
     rw[p]at vJ;cases vJ
  have H:z=os.size:=by
   rcases hp with H|⟨H,_⟩
   ·exact H
   ·exact absurd (Xv z H) (f.beyond z nL (by rintro(h|⟨h,_⟩)<;>omega))
  obtain⟨l,A,h3⟩:=jz g f Xv;exact hQ H O a w l A h3 f.JZ f.XO
 intro fuel;induction fuel with
 | zero=>
   intro listed O a w k C hc f;have p:Region.ready .any os listed=[]:=by
    apply AQ6.2;intro i hi;rw[Vr]at hi;obtain⟨l,o,y,_⟩:=hi;have L:=(Array.getElem?_eq_some_iff.1 y).1;have:=Tg listed.toList om i (by rw[QD];omega);rw[Array.getElem?_toList]at this;rw[IH,this]at l;cases l
   exact⟨p,fin listed O a w k C f p⟩
 | succ fuel ih=>
   intro listed O a w k C hc f;refine⟨fin listed O a w k C f,fun i hi=>?_⟩;rw[Vr]at hi;obtain⟨l,o,y,A⟩:=hi;have L:=(Array.getElem?_eq_some_iff.1 y).1;have Th:listed[i]? =some false:=by
    rw[IH,Array.getElem?_eq_getElem om]at l;rw[Array.getElem?_eq_getElem om]
    simpa using l
   have W:¬ listed.getD i false=true:=by rw[IH,Th];simp
   have hi:Rdy os (fun j=>listed.getD j false=true) i o:=⟨y,W,A⟩
   have Nk:(fun j=>(listed.setIfInBounds i true).getD j false=true)=fun j=>listed.getD j false=true\/j=i:=by
    funext j
    apply propext;by_cases hj:j=i
    ·subst hj;simp[IH,Array.getElem?_setIfInBounds_self_of_lt (show j<listed.size by omega)]
    ·rw[getD_set_ne false (fun h=>hj h.symm)];simp[hj]
   have go:∀ O' a' w' X,Inv B8 os F S r z O₀ a₀ w₀ (fun j=>listed.getD j false=true\/j=i) O' a' w' X->wpAnyIn (FW rd) 0 P .any os Q fuel (listed.setIfInBounds i true) a' w':=by
    intro O' a' w' X a4;refine ih _ O' a' w' X (by simpa using C) ?_ (by rw[Nk];exact a4);have:=count_set listed.toList i (by rw[Array.getElem?_toList];exact Th);rw[AQ7];omega
   have a7:Live os z i\/(i=z/\z<os.size/\∃ s,vI P call os F S z o s/\s.Z.n<=N/\∀ O' a' w' v',Rel B8 O' s.Z w'->Y6 O₀ (S 0) w₀ O' s.Z w'->I0 O' s.v v'->a'.tmps.size=a₀.tmps.size->a'.defers=a₀.defers->Q (eJ v') a' w'):=by
    rcases hp with H|⟨H,o',s',h3,h4⟩
    ·left;left;omega
    ·rcases eS i z with m|m|m
     ·exact .inl (.inl m)
     ·subst m;have:=h3.ho;rw[y]at this;cases this;exact .inr ⟨rfl,H,s',h3,h4⟩
     ·left;right;exact⟨m,L,fun hb=>f.beyond z nL (by rintro(h|⟨h,_⟩)<;>omega) (hi.bef f.down hb)⟩
   rcases a7 with u|⟨rfl,H,s,E,a8,a5⟩
   rotate_left
   ·unfold wpOpIn;rw[y];simp only;rw[z1z (f.Sh g hi E.Sh)];have R:=f.known g hi hG;have a2:k=os.size:=by
     rcases AU k os.size with m|m
     ·obtain⟨⟨s',j1,D⟩,j3⟩:=f.Ie m;have K:k<i:=by
       rcases AU k i with h|h
       ·exact h
       ·rw[(g.hch.late k s' h j1).1]at D;cases D
      have B:os[k]? =some os[k]:=Array.getElem?_eq_getElem m;obtain⟨_,j5,_,_⟩:=CI g.hC g.hch B j1;have j6:DZ os[k].op=true:=by
       cases j5 with
       |eff h'=>exact h'.2.1
       |pure _=>cases D
       |new _=>cases D
       |read _=>cases D
       |pan _=>cases D
      exact absurd (hi.bef f.down (g.hD.eff k i os[k] o K B y j6 E.eff)) j3
     ·have:=f.kle;omega
    obtain⟨I,J⟩:=Py g f a2;have U:S os.size=S i:=TC g.hC g.hch om nL;have Hc:Co O (S i).n N:=by
     intro b l A;rw[f.ext b (.inr (by rw[U];exact l))];have:=(I8 g.hC g.hch (i:=0) (j:=i) (BH _) om).n;exact hF b om A
    rw[U]at I J;have a6:=JF g.hC E.step;obtain⟨v,Z',d⟩:=s;have M:=E.pan;change d= .pan at M;subst M;cases a6 with
    | pan h=>
      refine h.2 O a w N R I Hc a8 (hG.mono f.le) _ _ _ fun v' w' O' q1 q2 q3=>?_;exact a5 O' a w' v' q1 (J.trans q2) q3 f.JZ f.XO
   unfold wpOpIn;rw[y];simp only;cases p:r i with
   | none=>
     obtain⟨g1,g2,_⟩:=JO g.hch u y p;rw[z0z (by rw[f.Sh g hi g1];simp)];exact⟨fun _ _=>trivial,go _ _ _ _ (f.quiet g hi u V g2 (.tuple .nil) fun⟨s,h,_⟩=>by rw[p]at h;cases h)⟩
   | some s=>
     obtain⟨g1,g2,Y,g4⟩:=CI g.hC g.hch y p;rw[z1z (f.Sh g hi g1)];have M:∀ c,o.op≠ .defer c:=Ll g.hch y p;have R:=f.known g hi hG;cases g2 with
     | @pure v h=>
       obtain⟨v',I,J⟩:=h O a.eval w R;refine Bb M ?_;rw[I,Oper.uponIn_value];exact go _ _ _ _ (f.quiet g hi u V Y J fun⟨s,l,A⟩=>by rw[p]at l;cases l;cases A)
     | @read v b h=>
       obtain⟨⟨cs,b0⟩,h⟩:=h;obtain⟨_,h⟩:=h O a.eval w R;obtain⟨v',I,J⟩:=h fun q a9 hq a0=>f.Zr g hi p rfl a0 hq;refine Bb M ?_;rw[I,Oper.uponIn_value];exact go _ _ _ _ (f.quiet g hi u V Y J fun⟨s,l,A⟩=>by rw[p]at l;cases l;cases A)
     | @new cs vf t h=>
       obtain⟨w',v',arr,el,lo,b1,vs,more,I,J,e3,e4,e5,e6,e7,e8,e9,et,a3⟩:=h O a.eval w R;refine Bb M ?_;rw[I,Oper.uponIn_value];exact go _ _ _ _ (f.new g hi u V Y g4 (fun⟨s,l,A⟩=>by rw[p]at l;cases l;cases A) J e3 e4 e5 e6 e7 e8 e9 et fun O' hq=>a3 O' _ hq)
     | @eff v Z' h=>
       have a1:Cq r i:=⟨_,p,rfl⟩
       have K:k=i:=by
        rcases eS k i with m|m|m
        ·obtain⟨⟨s',j1,D⟩,j3⟩:=f.Ie om;have B:os[k]? =some os[k]:=Array.getElem?_eq_getElem om;obtain⟨_,j5,_,_⟩:=CI g.hC g.hch B j1;have j6:DZ os[k].op=true:=by
          cases j5 with
          |eff h'=>exact h'.2.1
          |pure _=>cases D
          |new _=>cases D
          |read _=>cases D
          |pan _=>cases D
         exact absurd (hi.bef f.down (g.hD.eff k i os[k] o m B y j6 h.2.1)) j3
        ·exact m
        ·exact absurd (f.eR i m a1) W
       subst K;obtain⟨hR,hF⟩:=jy g f L;change S (k+1)=Z' at g4;subst g4;obtain⟨X,m1,m2,m3,m4⟩:=Ng r os.size (os.size-(k+1)) (k+1) om;refine h.2.2 O a w _ R hR hF nL (hG.mono f.le) _ _ _ fun v' w' O' q1 q2 q3=>?_;exact go _ _ _ X (f.effect g hi u V Y q1 q2 (q2.le hF nL) q3 om m2 (fun j x1 x2=>m3 j om x2) m4)
     |pan h=>exact absurd rfl (g.hch.np i _ (BH _) p)
end
/- The check, once, on the text. -/
def ns:∀ {l:List Operand},Operand.tmp t∈l->Nat.testBit (Ij l) t=true:=by
 intro l;induction l with
 |nil=>intro h;simp at h
 | cons x l ih=>
   intro h;show Nat.testBit (AQ8 x ||| Ij l) t=true;rw[bQ,RI];rcases W1.1 h with rfl|h
   ·left;show Nat.testBit (2 ^ t) t=true;simp
   ·exact .inr (ih h)
def vK {os:Array Oper}(h:Rd os o t):Nat.testBit (Nat.lor (Ij o.op.operands.toList) (Ja os o)) t=true:=by
 show Nat.testBit (Ij o.op.operands.toList ||| Ja os o) t=true;rw[bQ,RI];rcases h with h|⟨j,b,c,d⟩
 ·exact .inl (ns h)
 ·right;unfold Ja;rw[c];simp[d]
def YE (h:o.dst=some t):Nat.testBit (Ik o) t=true:=by unfold Ik;rw[h];simp
def kB {a b t:Nat}(e:Nat.testBit a t=true) (f:Nat.testBit b t=true):Nat.beq (Nat.land a b) 0=false:=by
 rw[rG];intro h;have c:=Ai h;have d:Nat.testBit (a &&& b) t=true:=by rw[Nat.testBit_and,e,f];rfl
 change a &&& b=0 at c;rw[c]at d;simp at d
def bm {os:Array Oper}:∀ (l:List Oper) (bs:List Nat) (j:Nat) (prev:List vL),YF os l bs j prev=true->os.toList.drop j=l->(Region.before os).toList.drop j=bs ->
  (∀ i o,i<j->os[i]? =some o->⟨i,Ik o,Nat.lor (Ij o.op.operands.toList) (Ja os o),DZ o.op⟩∈prev) ->
  ∀ k o,j<=k->os[k]? =some o->(∀ e∈o.after,Region.binds .any e=true->e.on<k)/\∀ i oi,i<k->os[i]? =some oi->((DZ oi.op=true/\DZ o.op=true)\/AQ9 os oi o)->Bef os i k:=by
 intro l;induction l with
 | nil=>
   intro bs j prev _ m _ _ k o R g;have:=congrArg List.length m;simp at this;have:=(Array.getElem?_eq_some_iff.1 g).1;omega
 | cons x l ih=>
   intro bs j prev h m H I k o R g;cases bs with
   |nil=>cases h
   | cons b bs=>
     have J:os[j]? =some x:=by
      have:=congrArg (fun l:List Oper=>l[0]?) m
      simpa using this
     have u:(Region.before os).toList.getD j 0=b:=by
      have:=congrArg (fun l:List Nat=>l[0]?) H;rw[List.getD_eq_getElem?_getD];simp only[List.getElem?_drop,j7,List.getElem?_cons_zero]at this;rw[this];rfl
     unfold YF at h;rw[R2,R2]at h;obtain⟨D,E,M⟩:=h;by_cases B:k=j
     ·subst B;rw[J]at g;cases g;rw[GY]at D E;refine⟨fun e N s=>?_,fun i oi A C v=>?_⟩
      ·have:=D e (by simpa using N);unfold vM at this;rw[s]at this;simp[BW]at this;exact this
      ·have f:=E _ (I i oi A C);change bi (Nat.beq (Nat.land (Ik oi) (Nat.lor (Ik x) (Nat.lor (Ij x.op.operands.toList) (Ja os x)))) 0&&(Nat.beq (Nat.land (Ik x) (Nat.lor (Ij oi.op.operands.toList) (Ja os oi))) 0&& !(DZ x.op&&DZ oi.op))) true (Nat.testBit b i)=true at f;have p:(Nat.beq (Nat.land (Ik oi) (Nat.lor (Ik x) (Nat.lor (Ij x.op.operands.toList) (Ja os x)))) 0&&(Nat.beq (Nat.land (Ik x) (Nat.lor (Ij oi.op.operands.toList) (Ja os oi))) 0&& !(DZ x.op&&DZ oi.op)))=false:=by
        rcases v with⟨K,L⟩|⟨t,⟨q,c⟩|⟨q,c⟩⟩
        ·rw[K,L];simp
        ·have:Nat.testBit (Nat.lor (Ik x) (Nat.lor (Ij x.op.operands.toList) (Ja os x))) t=true:=by
          show Nat.testBit (Ik x ||| Nat.lor (Ij x.op.operands.toList) (Ja os x)) t=true;rw[bQ,RI];rcases c with c|c
          ·exact .inl (YE c)
          ·exact .inr (vK c)
         rw[kB (YE q) this];rfl
        ·rw[kB (YE q) (vK c)];simp
       rw[p]at f;show Nat.testBit ((Region.before os).toList.getD k 0) i=true;rw[u];exact f
     ·refine ih bs (j+1) _ M (by rw[<- UM,m];rfl) (by rw[<- UM,H];rfl) (fun i U hi d=>?_) k o om g;by_cases y:i=j
      ·subst y;rw[J]at d;cases d;simp
      ·exact De _ (I i U om d)
def Pp {os:Array Oper}(h:Rk os=true):eP os:=by
 have key:=bm os.toList (Region.before os).toList 0 [] h rfl rfl (fun i o hi _=>om)
 exact⟨fun i o e s q m=>(key i o (BH _) s).1 e q m,fun i j d f b hi c g l=>(key j f (BH _) c).2 i d b hi (.inl ⟨g,l⟩),
  fun i j d f b hi c p=>(key j f (BH _) c).2 i d b hi (.inr p)⟩
end
section
variable {O:Place}{w:World}{Z:St}{fr:Fr}{a:Act}
def ExR (O:Place) (o:Out) (e:Exit):Prop:=match o with
 | .normal=>e= .normal
 | .exit i=>e= .exit i
 | .ret=>e= .ret
 | .pan v=>∃ v',e=eJ v'/\I0 O v v'
noncomputable def codeOk (P:Program) (n G:Nat) (c:Code):Bool :=
 Code.rec (motive:=fun _=>Bool) true
  (fun _ os d=>bi (os.toList.all (As P n G)) (bi d (bi (Fo os.toList) true (Rk os)) true) false)
  (fun _ _ a b=>bi a b false)
  (fun c _ _ a b=>bi (KA G c) (bi a b false) false)
  (fun _ _ a=>a) (fun _ a=>a) (fun f ps _ _ a b=>bi (KA G f) (bi (ps.toList.all fun p=>Nat.blt p n) (bi a b false) false) false) (fun _=>true) (fun _ a=>a) (fun _=>true) (fun _=>true) true (fun _=>true) c
noncomputable def WZ (P:Program) (G:Nat) (fn:Func):Bool :=
 bi (fn.name== "runtime.NumGoroutine") false (Option.rec (motive:=fun _=>Bool) true (fun c=>codeOk P fn.ntmps G c) fn.body)
noncomputable def Gd (P:Program) (H:EV) (G:Nat) (l:List Func):Nat->Bool :=
 List.rec (motive:=fun _=>Nat->Bool) (fun _=>true) (fun fn _ b k=>bi (bi (H k).isSome true (WZ P G fn)) (b (k+1)) false) l
def R8 {c x:Bool}(h:bi c x false=true):c=true/\x=true:=by
 cases c with
 |false=>cases h
 |true=>exact⟨rfl,h⟩
def Yn {P:Program}{H:EV}{G:Nat}:∀ {l:List Func}{k:Nat},Gd P H G l k=true->∀ (i:Nat) (fn:Func),l[i]? =some fn->H (k+i)=none->WZ P G fn=true:=by
 intro l;induction l with
 |nil=>intro k _ i fn h;simp at h
 | cons x l ih=>
   intro k h i fn b d;obtain⟨c,e⟩:=R8 (show bi (bi (H k).isSome true (WZ P G x)) (Gd P H G l (k+1)) false=true from h);cases i with
   | zero=>
     simp at b;subst b;rw[show H k=none from d]at c;exact c
   |succ i=>exact ih e i fn (by simpa using b) (by rw[show k+1+i=k+(i+1)from by omega];exact d)
/- The marks that ranges over functions leave NF an AJ7 deferred calls. -/
def OW (D:Nat):Deferred:={ target:= .collected D,args:=#[] }
structure Marks (lo:Nat) (w:World) (tl ds:List Deferred):Prop where
 ex:∃ Ds:List Nat,ds=Ds.map OW++tl/\Ds.Nodup/\∀ D∈Ds,lo<=D/\w.heap[D]? =some (.deferred (some []))
def Marks.nil (lo:Nat) (w:World) (b:List Deferred):Marks lo w b b:=⟨[],rfl,List.nodup_nil,fun _ h=>by simp at h⟩
def Fk.NB {B8:Env}{q:BU}{B:Blk}(h:Fk B8 O w q B){x:Option (List Deferred)}:w.heap[q.c]? ≠some (.deferred x):=by
 intro f;unfold Fk at h;split at h
 ·obtain⟨⟨arr,e,lo,hi,b,_⟩,_⟩:=h;rw[f]at b;cases b
 ·obtain⟨es,d,b,_⟩:=h;rw[f]at b;cases b
 ·obtain⟨r,h⟩:=h;have b:=h.UB;rw[f]at b;cases b
def Marks.QO {B8:Env}{lo:Nat}{k:Place}{Z':St}{w':World}{i f:List Deferred}(s:Marks lo w i f) (p:Rel B8 O Z w) (o:Y6 O Z w k Z' w'):Marks lo w' i f:=by
 obtain⟨j,l,m,g⟩:=s;refine⟨j,l,m,fun D h=>⟨(g D h).1,?_⟩⟩;have c:=(g D h).2;have e:D<w.heap.size:=by
  rcases AU D w.heap.size with d|d
  ·exact d
  ·rw[Array.getElem?_eq_none d]at c;cases c
 rw[o.I2 D e ?_]
 ·exact c
 ·intro b q B r u n;subst u;exact absurd c (p.IQ b q B r n).NB
section
variable {P:Program}{B8:Env}{G:Nat}
/- BC3. -/
def cU {t:TypeId}{p j v:Value}(f:Rel B8 O Z w) (o:I0 O p j) (h:Po P Z t p=some v):∃ ad v',j= .pointer (some ad)/\(loadVar t ad).run P w= .ok v' w/\I0 O v v':=by
 obtain⟨⟨b,off⟩,k,c⟩:=A8 h;obtain⟨q,hq,hx⟩:=MJ o k;obtain⟨g,h4,h5⟩:=A8 (show ob (MY P t) _=some v from c);have i:=Xs h4 w;cases g with
 | true=>
   obtain⟨n,l,m⟩:=A8 (show ob (size? P t) _=some v from h5);obtain⟨cs,d,e⟩:=A8 m;cases e;obtain⟨B,h10,h11⟩:=W7 d;obtain⟨vs,k1,c,k3⟩:=(f.row b q B hq h10).read (P:=P) h11;refine⟨_,.agg vs.toArray,hx,?_,.agg k3 c⟩;simp only[Sem.run_bind,Sem.run_pure,Result.andThen_ok,loadVar,i,FB,Bs l,k1]
 | false=>
   obtain⟨cs,d,e⟩:=A8 (show ob (Z.read b off 1) _=some v from h5);obtain⟨B,h10,h11⟩:=W7 d;obtain⟨v',k1,c⟩:=(f.row b q B hq h10).one (P:=P) h11 e;refine⟨_,v',hx,?_,c⟩;simp only[Sem.run_bind,Result.andThen_ok,loadVar,i,Je,GZ,k1]
def gV (j:Rel B8 O Z w) (e:FD O fr a):∀ (l:List ResultVar) (vs:List Value),Iw P fr Z l=some vs ->
  ∃ vs',(l.mapM (fun r=>match r with| .tmp t=>pure (a.tmps.getD t undef)| .cell x t=>do loadVar t (<- asAddr (a.tmps.getD x undef)):ResultVar->Sem Value)).run P w= .ok vs' w/\F8 O vs vs':=by
 intro l;induction l with
 |nil=>intro vs h;cases h;exact⟨[],rfl,.nil⟩
 | cons x l ih=>
   intro vs h;obtain⟨v,d,f⟩:=A8 (show ob (Ax6 P fr Z x) (fun v=>ob (Iw P fr Z l) fun vs=>some (v::vs))=some vs from h);obtain⟨us,h3,h4⟩:=A8 f;cases h4;obtain⟨us',g1,g2⟩:=ih us h3;cases x with
   | tmp t=>
     obtain⟨v',b,c⟩:=e t v d;refine⟨v'::us',?_,.cons c g2⟩;have:a.tmps.getD t undef=v':=by rw[IH,b];rfl
     rw[pE];simp only[Sem.run_bind,Sem.run_pure,Result.andThen_ok,this];rw[g1];rfl
   | cell x t=>
     obtain⟨p,g,i⟩:=A8 (show ob (fr.get x) (fun p=>Po P Z t p)=some v from d);obtain⟨p',b,c⟩:=e x p g;obtain⟨ad,v',rfl,k4,k5⟩:=cU (P:=P) j c i;refine⟨v'::us',?_,.cons k5 g2⟩;have:a.tmps.getD x undef= .pointer (some ad):=by rw[IH,b];rfl
     rw[pE];have k:(do loadVar t (<- asAddr (a.tmps.getD x undef)):Sem Value).run P w= .ok v' w:=by
      rw[Sem.run_bind,this];exact k4
     rw[Sem.run_bind]
     refine(congrArg (fun r:Result Value=>r.andThen fun v w'=>Sem.run P (do
      let vs <- l.mapM (fun r=>match r with| .tmp t=>pure (a.tmps.getD t undef)| .cell x t=>do loadVar t (<- asAddr (a.tmps.getD x undef)):ResultVar->Sem Value)
      pure (v::vs)) w') k).trans ?_
     simp only[Result.andThen_ok,Sem.run_bind];rw[g1];rfl
def IB {fn:Func}(g:Rel B8 O Z w) (i:FD O fr a){b:List Value}(h:Iw P fr Z fn.results.toList=some b):
  ∃ v',(results fn a.tmps).run P w= .ok v' w/\I0 O (tup b) v':=by
 obtain⟨vs',e,c⟩:=gV (P:=P) g i _ _ h;refine⟨if h:vs'.toArray.size=1 then vs'.toArray[0]else .tuple vs'.toArray,?_,?_⟩
 ·unfold results;rw[Sem.run_bind,AL5,Sem.run_map];exact(congrArg (fun r:Result (List Value)=>(r.andThen fun a w'=>Result.ok a.toArray w').andThen fun b w'=>Sem.run P (pure (if h:b.size=1 then b[0]else .tuple b)) w') e)
 ·cases c with
  |nil=>exact .tuple .nil
  | cons c d=>
    cases d with
    |nil=>exact c
    |cons d f=>exact .tuple (.cons c (.cons d f))
def Yo:∀ (vs:List Value) (k:Nat) (fr:Fr) (t:Nat),(IA vs k fr).get t=if k<=t/\t<k+vs.length then vs[t-k]? else fr.get t:=by
 intro vs;induction vs with
 |nil=>intro k fr t;rw[z0z (by simp only[Jg];omega)];rfl
 | cons v vs ih=>
   intro k fr t;show(IA vs (k+1) (fr.set k v)).get t=_;rw[ih,Tr.BF];simp only[Ap];by_cases b:k+1<=t/\t<k+1+vs.length
   ·rw[z1z b,z1z om,show t-k=(t-(k+1))+1 from by omega];simp
   ·rw[z0z b];by_cases c:t=k
    ·subst c;rw[z1z rfl,z1z om];simp
    ·rw[z0z c,z0z om]
end
end
section
variable {P:Program}{B8:Env}{G:Nat}
def dN (B8:Env) (lo:Nat) (c:List Deferred) (O:Place) (Z:St) (w:World) (a:Act) (b:Res) (Q:Exit->Act->World->Prop):Prop :=
 ∀ e a' w' O',ExR O' b.o e->Rel B8 O' b.Z w'->Y6 O Z w O' b.Z w'->FD O' b.fr a'->a'.tmps.size=a.tmps.size->Marks lo w' c a'.defers->Q e a' w'
def dM (O:Place) (d a:Option Nat):Prop:=match d with
 |none=>a=none
 |some b=>∃ q,O b=some q/\a=some q.c
def dM.mono {O c:Place}{a d:Option Nat}(g:O.le c) (h:dM O a d):dM c a d:=by
 cases a with
 |none=>exact h
 |some b=>obtain⟨q,e,f⟩:=h;exact⟨q,g _ _ e,f⟩
def OX (P:Program) (B8:Env) (G:Nat) (run:RunT):Prop :=
 ∀ rd c fr Z res,run rd c fr Z=some res->Adv Z res.Z/\∀ n,codeOk P n G c=true->∀ lo tl O a w N rl,lo<=w.heap.size->Rel B8 O Z w->Co O Z.n N->res.Z.n<=N->FD O fr a->n<=a.tmps.size->Marks lo w tl a.defers->Bw O G->dM O rd rl ->
  ∀ Q:Exit->Act->World->Prop,dN B8 lo tl O Z w a res Q->c.wpIn (FW rl) 0 P Q a w
def kr {call:Y4}(hC:BE P B8 G call){os:Array Oper}{n:Nat}:∀ (l:List Oper) (fr:Fr) (Z:St) (res:Res),opsV P call os l fr Z=some res ->
  Adv Z res.Z/\((∀ o∈l,As P n G o=true)->∀ lo tl O a w N rl,Rel B8 O Z w->Co O Z.n N->res.Z.n<=N->FD O fr a->n<=a.tmps.size->Marks lo w tl a.defers->Bw O G ->
   ∀ Q:Exit->Act->World->Prop,dN B8 lo tl O Z w a res Q->wpListIn (FW rl) 0 P os Q l a w):=by
 intro l;induction l with
 | nil=>
   intro fr Z res h;cases h;exact⟨.refl _,fun _ lo tl O a w N rl f m A i J I u Q F=>F .normal a w O rfl f (.refl _ _ _) i rfl I⟩
 | cons o l ih=>
   intro fr Z res h;obtain⟨c,hw,h1⟩:=A8 (show ob (U8 os fr o) (fun c=>bi c (ob (step P call fr Z o) fun r=>Stepped.rec (motive:=fun _=>Option Res) (fun v Z d=>Pk d (opsV P call os l (I7 fr o.dst v) Z) (some ⟨.pan v,fr,Z⟩)) r) (opsV P call os l (I7 fr o.dst R6) Z))=some res from h);have C:(∀ o'∈o::l,As P n G o'=true)->As P n G o=true:=fun k=>k o (by simp);have sf:(∀ o'∈o::l,As P n G o'=true)->∀ o∈l,As P n G o=true:=fun k o ho=>k o (by simp[ho]);cases c with
   | false=>
     change opsV P call os l (I7 fr o.dst R6) Z=some res at h1;obtain⟨W,D⟩:=ih _ _ _ h1;refine⟨W,fun k lo tl O a w N rl f m A i J I u Q F=>?_⟩;have g:=C k;have D:=D (sf k);have M:=Kw (a:=a) (O:=O) hw fun j B t _ _ v z=>i t v z;unfold wpListIn;rw[z0z (by rw[M];simp)];refine⟨fun _ _=>trivial,D lo tl O _ w N rl f m A (i.put (.tuple .nil) fun t ht=>z5z (Sj g t ht) J) (by rw[En];exact J) (by rw[put_defers];exact I) u Q fun e a' w' s q0 q1 p V q4 q5=>F e a' w' s q0 q1 p V (by rw[q4,En]) q5⟩
   | true=>
     obtain⟨⟨v,Z1,d⟩,h2,X⟩:=A8 (show ob (step P call fr Z o) _=some res from h1);have H:=JF hC h2;have K:=JE h2;by_cases y:d= .pan
     ·subst y;cases X;cases H with
      | pan h=>
        refine⟨h.1,fun k lo tl O a w N rl f m A i J I u Q F=>?_⟩;have g:=C k;have M:=Kw (a:=a) (O:=O) hw fun j B t _ _ v z=>i t v z;have L:K5 O fr a.eval o.op.operands.toList:=Sg u g fun t _ v z=>i t v z;unfold wpListIn;rw[z1z M];refine h.2 O a w N L f m A u _ _ _ fun v' w' s q1 p V=>?_;exact F _ a w' s ⟨v',rfl,V⟩ q1 p (i.mono (p.le m A)) rfl (I.QO f p)
     ·have X:opsV P call os l (I7 fr o.dst v) Z1=some res:=by
       cases d with
       |pan=>exact absurd rfl y
       |_=>exact X
      obtain⟨W,D⟩:=ih _ _ _ X;have rf:Adv Z Z1:=by
       cases H with
       |pure h=>exact .refl _
       |new h=>exact .new _ _ _
       |read h=>exact .refl _
       |eff h=>exact h.1
       |pan h=>exact absurd rfl y
      refine⟨rf.trans W,fun k lo tl O a w N rl f m A i J I u Q F=>?_⟩;have g:=C k;have D:=D (sf k);have M:=Kw (a:=a) (O:=O) hw fun j B t _ _ v z=>i t v z;have L:K5 O fr a.eval o.op.operands.toList:=Sg u g fun t _ v z=>i t v z;have E:Z1.n<=N:=j9 W.n A;unfold wpListIn;rw[z1z M];have go:∀ v' w' s,Rel B8 s Z1 w'->Y6 O Z w s Z1 w'->I0 s v v'->wpListIn (FW rl) 0 P os Q l (a.put o.dst v') w':=by
       intro v' w' s q1 p V;have U:=p.le m E;refine D lo tl s _ w' N rl q1 (p.free m) A ((i.mono U).put V fun t ht=>z5z (Sj g t ht) J) (by rw[En];exact J) (by rw[put_defers];exact I.QO f p) (u.mono U) Q fun e a' a2 Y p0 p1 p2 p3 p4 p5=>F e a' a2 Y p0 p1 (p.trans p2) p3 (by rw[p4,En]) p5
      cases H with
      | pure h=>
        obtain⟨v',R,S⟩:=h O a.eval w L;refine Bb K ?_;rw[R,Oper.uponIn_value];exact go _ _ _ f (.refl _ _ _) S
      | @read _ b h=>
        obtain⟨v',R,S⟩:=(h.2 O a.eval w L).2 fun q cs hq a1=>f.seg hq a1;refine Bb K ?_;rw[R,Oper.uponIn_value];exact go _ _ _ f (.refl _ _ _) S
      | @new cs vf t h=>
        obtain⟨w',v',arr,el,a4,a3,vs,more,R,S,e3,e4,e5,e6,e7,e8,e9,et,a0⟩:=h O a.eval w L;refine Bb K ?_;rw[R,Oper.uponIn_value];obtain⟨k1,k2⟩:=f.new (m Z.n nL (z5z (Jt _) E)) S e3 e4 e5 e6 e7 ⟨vs,more,e8,e9⟩ et;exact go _ _ _ k1 k2 (a0 _ _ (Place.R0 _ _ _))
      |eff h=>exact h.2.2 O a w N L f m E u _ _ _ go
      |pan h=>exact absurd rfl y
def Y6.drew {O a:Place}{Z Z':St}{w w':World}(h:Y6 O Z w.drew a Z' w'):Y6 O Z w a Z' w' :=
 ⟨h.ext,h.n,h.size,h.I2,h.owned,⟨h.out.os,h.out.tape,h.out.output⟩,h.same⟩
def Yp (hm:P.follows .mixedOrders=true){call:Y4}(m:BE P B8 G call){os:Array Oper}{n id:Nat}{fr:Fr}{Z:St}{c:FST}(h:N0 P call os os.toList 0 fr Z []=some c)
  (hr:BV (Region.before os).toList c.ds c.ds=true) :
  Adv Z c.Z/\((∀ o∈os.toList,As P n G o=true)->Rk os=true->∀ lo tl O a w N rl,Rel B8 O Z w->Co O Z.n N->c.Z.n<=N->FD O fr a->n<=a.tmps.size->Marks lo w tl a.defers->Bw O G ->
   ∀ Q:Exit->Act->World->Prop,dN B8 lo tl O Z w a ⟨zl c.p,c.fr,c.Z⟩ Q->(Code.region id os true).wpIn (FW rl) 0 P Q a w):=by
 obtain⟨F,S,r,z,_,f1,y,J,l,f6,f7⟩:=aL os.toList 0 fr Z [] c rfl (BH _) h;have MQ:Adv (S os.size) c.Z:=by
  rcases J with⟨_,_,_,g4⟩|⟨H,_,o,s,K,_,U⟩
  ·rw[g4];exact .refl _
  ·rw[TC (B8:=B8) (G:=G) m l (Nat.le_of_lt H) nL,U];have a2:=JF (B8:=B8) (G:=G) m K.step;obtain⟨v,Z',d⟩:=s;have Y:=K.pan;change d= .pan at Y;subst Y;cases a2 with
   |pan h=>exact h.1
 refine⟨by rw[<- y];exact(I8 m l (BH _) nL).trans MQ,fun KK hD lo tl O a w N rl X hF hN sj hn Y hG Q hQ=>?_⟩;have hO:∀ (i:Nat) (o:Oper),os[i]? =some o->As P n G o=true:=fun i o ho=>KK o (by rw[<- Array.getElem?_toList]at ho;exact Ag ho);have hX:Ctx P B8 G n call os F S r z:=by
  refine⟨m,hO,Pp hD,l,?_,by rw[y];exact X.fresh⟩;intro i b j s s' e f I V hi hj;rcases VX hr ((f7 i s (BH _) hi e).1 b f) ((f7 j s' (BH _) hj I).2 V)with A|A
  ·left;change bi (Nat.testBit ((Region.before os).toList.getD j 0) i) true (Nat.testBit ((Region.before os).toList.getD i 0) j)=true at A;cases D:Nat.testBit ((Region.before os).toList.getD j 0) i with
   |true=>exact .inl D
   |false=>rw[D]at A;exact .inr A
  ·right;intro a1;rcases A a1 with C|C
   ·rcases(HN m l hj).1.ver b.b a1 with h7|h7
    ·exact(TD h7).symm
    ·omega
   ·exact C
 refine wpIn_region_any hm ?_;obtain⟨k,m1,m2,m3,m4⟩:=Ng r os.size os.size 0 om;have u:Rel B8 O Z w.drew:=X.heap rfl;have M:∀ j,¬ (Array.replicate os.size false).getD j false=true:=by
  intro j;rw[IH,Array.getElem?_replicate];split<;>simp
 have a5:(S os.size).n<=c.Z.n:=MQ.n;refine sk (O₀:=O) (a₀:=a) (w₀:=w.drew) hX hn hG (Q:=Q) (N:=N) (by rw[y];exact hF) ?_ (fun a6 O' a' w' q1 E q3 q4 q5=>?_) os.size _ O a w.drew k (by simp) (by simp) ?_
 ·rcases J with⟨H,_⟩|⟨H,R,o,s,K,g4,U⟩
  ·exact .inl H
  ·refine .inr ⟨H,o,s,K,by rw[<- U];exact hN,fun O' a' w' v' q1 E q3 q4 q5=>?_⟩;rw[<- U]at q1 E;rw[y]at E;rw[g4]at hQ;refine hQ (eJ v') a' w' O' ⟨v',rfl,q3⟩ q1 E.drew ?_ q4 (by rw[q5];exact Y.QO X E.drew);rw[R];intro t v ht;rw[Tr.get_nil]at ht;cases ht
 ·rcases J with⟨_,a3,f3,f4⟩|⟨H,_⟩
  rotate_left
  ·omega
  rw[a3]at hQ;rw[f4]at q1 E;rw[y]at E;rw[f3]at q3;exact hQ .normal a' w' O' rfl q1 E.drew q3 q4 (by rw[q5];exact Y.QO X E.drew)
 ·have a4:=X.fresh;have nk:=(I8 m l (i:=0) (j:=k) (BH _) m2).n;have sm:∀ b,b<(S 0).n->(S k).h.get b=(S 0).h.get b:=fun b D=>FQ m l D (BH _) m2 fun j _ f I=>absurd I (m3 j (BH _) f);have L:∀ b q,O b=some q->b<(S 0).n\/c.Z.n<=b:=by
   intro b q D;rcases AU b (S 0).n with hh|hh
   ·exact .inl hh
   ·rcases AU b c.Z.n with a0|a0
    ·rw[hF b (by rw[<- y];exact hh) om]at D;cases D
    ·exact .inr a0
  have g:∀ b q B,O b=some q->Cz os S k b B->Z.blk b=some B:=by
   intro b q B D W;have h0:b<(S 0).n:=by
    rcases L b q D with h|h
    ·exact h
    ·rcases W with⟨e,_⟩|⟨j,_,f,_,I,_⟩
     ·have:=(I8 m l (i:=k) (j:=os.size) m2 nL).n;omega
     ·have:=(I8 m l (i:=j+1) (j:=os.size) om nL).n;omega
   rcases W with⟨e,f⟩|⟨j,H,R,K,g4,U⟩
   ·rw[<- y];show ob ((S 0).h.get b) _=_;rw[<- sm b h0];exact f
   ·have:=(I8 m l (i:=0) (j:=j) (BH _) om).n;omega
  refine⟨m2,fun j e f=>absurd f (m3 j (BH _) e),fun h=>⟨m4 h,M k⟩,fun j _ _ _=>M j,fun j h=>absurd h (M j),fun _ _=>rfl,?_,Place.le_refl _,?_,rfl,rfl,
   fun b q B e f=>u.IQ b q B e (g b q B e f),u.dom,fun b q B e f I=>u.own b q B e (g b q B e f) I,?_,u.low,Bh _,fun _ _ _=>rfl,?_,.refl _,fun b e _=>sm b e,fun j _ _=>M j,?_⟩
  ·intro i hi _ b e f;have H:=(I8 m l (i:=0) (j:=i) (BH _) om).n;have R:=(I8 m l (i:=i+1) (j:=os.size) om nL).n;exact hF b (by rw[<- y];omega) om
  ·intro t i hi e f v hv;have hz:(F i).get t=(F 0).get t:=Sf l (BH _) hi fun j o _ V A C=>M j (e j o V A C);rw[hz,f1]at hv;exact sj t v hv
  ·intro b q B b' q' e f I V A C;refine u.sep b q B b' q' e (g b q B e f) I V A ?_;rcases C with C|⟨B',C⟩
   ·have:=(I8 m l (i:=0) (j:=os.size) (BH _) nL).n;rw[y]at this;exact .inl om
   ·exact .inr ⟨B',g b' q' B' A C⟩
  ·intro b q B e f _;exact⟨b,q,B,e,rfl,by rw[y];exact g b q B e f,fun h=>h⟩
  ·intro i hi _ b e f;exact FQ m l f om m2 fun j _ R K=>absurd K (m3 j (BH _) R)
end
section
variable {Z Z':St}{b:Nat}{R9:Option Code}{O:Place}{w:World}
section
variable {P:Program}{B8:Env}{G:Nat}
def TH {L:Pq}(h:Z.JH b=some L):∃ B,Z.blk b=some B/\B.own=true/\B.kind= .loop L.fr L.ps L.assign L.body L.st L.R9:=by
 obtain⟨B,h1,h2⟩:=A8 h;obtain⟨h3,h4⟩:=H9 h2;obtain⟨cells,live,own,ver,kind⟩:=B;cases kind with
 |row=>cases h4
 |map=>cases h4
 |loop fr ps as bd st R9=>cases h4;exact⟨_,h1,h3,rfl⟩
def KT {st:LoopState}(h:Z.Bc b st R9=some Z'):∃ B fr ps as bd st0 aU,Z.blk b=some B/\B.own=true/\B.kind= .loop fr ps as bd st0 aU /\
  Z'=⟨Z.h.set b ⟨[],true,true,B.ver+1,.loop fr ps as bd st R9⟩,Z.n⟩:=by
 obtain⟨B,h1,h2⟩:=A8 h;obtain⟨h3,h4⟩:=H9 h2;obtain⟨cells,live,own,ver,kind⟩:=B;cases kind with
 |row=>cases h4
 |map=>cases h4
 |loop fr ps as bd st0 aU=>cases h4;exact⟨_,fr,ps,as,bd,st0,aU,h1,h3,rfl,rfl⟩
def PC {st:LoopState}(h:Z.Bc b st R9=some Z'):Adv Z Z':=by
 obtain⟨B,fr,ps,as,bd,st0,aU,h1,h2,h3,rfl⟩:=KT h;exact .set h1 rfl
def Rel.loop (hR:Rel B8 O Z w){q:BU}{L:Pq}(hq:O b=some q) (h:Z.JH b=some L):∃ r,Hf B8 O w q.c L.fr L.ps L.assign L.body L.st L.R9 r:=by
 obtain⟨B,h1,h2,h3⟩:=TH h;have:=hR.IQ b q B hq h1;unfold Fk at this;rw[h3]at this;exact this
def aV {c:Nat}{o o':Obj}(h:w.heap[c]? =some o):(w.putObj c o').heap[c]? =some o':=by
 refine World.putObj_heap_same ?_;rcases AU c w.heap.size with hh|hh
 ·exact hh
 ·rw[Array.getElem?_eq_none hh]at h;cases h
def Rel.Bc {O:Place}{Z Z':St}{w:World}(hR:Rel B8 O Z w){b:Nat}{q:BU}{st:LoopState}{R9:Option Code}(hq:O b=some q) (h:Z.Bc b st R9=some Z'){L:Pq}(hL:Z.JH b=some L){r:Loop}
  (hr:Hf B8 O w q.c L.fr L.ps L.assign L.body L.st L.R9 r):Rel B8 O Z' (w.putObj q.c (.loop { r with state:=st,pending:=R9 }))/\Y6 O Z w O Z' (w.putObj q.c (.loop { r with state:=st,pending:=R9 })):=by
 obtain⟨B,fr,ps,as,bd,st0,aU,h1,h2,h3,rfl⟩:=KT h;obtain⟨B',g1,g2,g3⟩:=TH hL;rw[h1]at g1;cases g1;rw[h3]at g3;cases g3;refine hR.set hq h1 h2 rfl rfl (fun c hc=>World.putObj_heap_other hc) World.putObj_size ⟨rfl,rfl,rfl⟩ (.loop rfl (r:={ r with state:=st,pending:=R9 }) ?_);exact⟨aV hr.UB,rfl,rfl,hr.hps,hr.has,hr.hbd,hr.hfr,hr.hlt,hr.FC⟩
def fF:∀ (ps:List Nat) (vs vs':List Value) (fr fr1:Fr) (tmps:Array Value),TI ps vs fr=some fr1->F8 O vs vs'->(∀ p∈ps,p<tmps.size)->FD O fr { tmps:=tmps,defers:=[] } ->
  FD O fr1 { tmps:=(ps.zip vs').foldl (fun tmps (x:Tmp×Value)=>tmps.setIfInBounds x.1 x.2) tmps,defers:=[] }/\((ps.zip vs').foldl (fun tmps (x:Tmp×Value)=>tmps.setIfInBounds x.1 x.2) tmps).size=tmps.size/\vs'.length=ps.length:=by
 intro ps;induction ps with
 | nil=>
   intro vs vs' fr fr1 tmps h hv _ hr;cases hv with
   |nil=>cases h;exact⟨hr,rfl,rfl⟩
   |cons _ _=>cases h
 | cons p ps ih=>
   intro vs vs' fr fr1 tmps h hv hp hr;cases hv with
   |nil=>cases h
   | @cons v v' l l' h1 h2=>
     change TI ps l (fr.set p v)=some fr1 at h;have hr':FD O (fr.set p v) { tmps:=tmps.setIfInBounds p v',defers:=[] }:=by
      have:=FD.put (d:=some p) hr h1 (fun t ht=>by cases ht;exact hp p (by simp));exact this
     obtain⟨g1,g2,g3⟩:=ih l l' (fr.set p v) fr1 (tmps.setIfInBounds p v') h h2 (fun p' hp'=>by simpa using hp p' (by simp[hp'])) hr';exact⟨g1,by simpa using g2,by simp[g3]⟩
def tG (ps:Array Tmp) (vs':List Value) (tmps:Array Value):(ps.zip (⟨vs'⟩:Array Value)).foldl (fun tmps (x:Tmp×Value)=>tmps.setIfInBounds x.1 x.2) tmps=(ps.toList.zip vs').foldl (fun tmps (x:Tmp×Value)=>tmps.setIfInBounds x.1 x.2) tmps:=by
 rw[<- gY,Array.toList_zip]
def fG {s:LoopState}(h:isReady s=true):s= .ready:=by
 cases s<;>first|rfl|cases h
def pg {run:RunT}(hE:OX P B8 G run) (FC:∀ n c,B8.chk n c=codeOk P n G c){vs:List Value}{r:CR}(h:Ym run b vs Z=some r):
  Adv Z r.Z/\∀ O w vs' N,Rel B8 O Z w->Co O Z.n N->r.Z.n<=N->Bw O G->F8 O vs vs'->∀ q,O b=some q->iz P B8 O q.c vs' Z w r:=by
 obtain⟨L,h1,k1⟩:=A8 h;obtain⟨lfr,lps,las,lbd,lst,Ps⟩:=L;obtain⟨h2,k2⟩:=H9 (show bb (isReady lst) _=some r from k1);obtain⟨fr1,h3,k3⟩:=A8 k2;obtain⟨⟨o1,fr2,Z1⟩,h4,k4⟩:=A8 k3;clear h k1 k2 k3;cases o1 with
 | normal=>
   obtain⟨L',h5,k5⟩:=A8 (show ob (Z1.JH b) _=some r from k4);obtain⟨BX8,BX9,BY0,BY1,BG6,tH⟩:=L';obtain⟨h6,k6⟩:=H9 (show bb (isReady BG6) _=some r from k5);obtain⟨Z2,h7,k7⟩:=A8 k6;obtain⟨⟨o2,fr3,Z3⟩,h8,k8⟩:=A8 k7;clear k4 k5 k6 k7;have MQ:∃ st jump Z4,Z3.Bc b st jump=some Z4/\r=⟨false,.bool jump.isNone,Z4⟩/\st=(if jump.isNone then .ready else .done)/\(jump=none/\o2= .normal\/jump=some .ret/\o2= .ret\/∃ i,jump=some (.exit i)/\o2= .exit i):=by
    cases o2 with
    | normal=>
      obtain⟨Z4,g1,g2⟩:=A8 (show ob (Z3.Bc b .ready none) _=some r from k8);cases g2;exact⟨_,_,_,g1,rfl,rfl,.inl ⟨rfl,rfl⟩⟩
    | exit i=>
      obtain⟨Z4,g1,g2⟩:=A8 (show ob (Z3.Bc b .done (some (.exit i))) _=some r from k8);cases g2;exact⟨_,_,_,g1,rfl,rfl,.inr (.inr ⟨i,rfl,rfl⟩)⟩
    | ret=>
      obtain⟨Z4,g1,g2⟩:=A8 (show ob (Z3.Bc b .done (some .ret)) _=some r from k8);cases g2;exact⟨_,_,_,g1,rfl,rfl,.inr (.inl ⟨rfl,rfl⟩)⟩
    |pan v=>cases k8
   obtain⟨st,jump,Z4,h9,rfl,hst,hj⟩:=MQ;obtain⟨e1,e2⟩:=hE (some b) las fr1 Z _ h4;obtain⟨e3,e4⟩:=hE (some b) lbd fr2 Z2 _ h8;have a2:=PC h7;have a4:=PC h9;refine⟨((e1.trans a2).trans e3).trans a4,fun O w vs' N hR hF hN hG hv q hq=>?_⟩;obtain⟨r0,hL⟩:=hR.loop hq h1;have hN3:Z3.n<=N:=j9 a4.n hN;have hN2:Z2.n<=N:=j9 e3.n hN3;have hN1:Z1.n<=N:=j9 a2.n hN2;obtain⟨f1,f2,f3⟩:=fF lps vs vs' lfr fr1 r0.tmps h3 hv hL.hlt hL.hfr;obtain⟨n,hn,hca,hcb⟩:=hL.FC;rw[FC]at hca hcb;have hps:r0.params.toList=lps:=hL.hps;refine⟨r0.fn,_,r0.assign,r0.body,run_yield hL.UB (by show vs'.length=_;rw[f3,<- hps,QD]),roundIn_of_wpIn trivial ?_⟩;rw[hL.has,hL.hbd];have hz:=tG r0.params vs' r0.tmps;rw[hps]at hz;have hz':(r0.params.zip (⟨vs'⟩:Array Value)).foldl (fun tmps (t,a)=>tmps.setIfInBounds t a) r0.tmps=(lps.zip vs').foldl (fun tmps (x:Tmp×Value)=>tmps.setIfInBounds x.1 x.2) r0.tmps:=hz;rw[hz'];refine e2 n hca w.heap.size [] O _ w N (some q.c) nL hR hF hN1 f1 (by show n<=_;rw[f2];exact hn) (.nil _ _ _) hG ⟨q,hq,rfl⟩ _ ?_;intro e a' w' O' q0 q1 q2 q3 q4 q5;have q0:e= .normal:=q0;subst q0;have hle:=q2.le hF hN1;have hq':O' b=some q:=hle _ _ hq;obtain⟨r1,hL1⟩:=q1.loop hq' h5;obtain⟨p1,p2⟩:=q1.Bc hq' h7 h5 hL1;have hb1:=run_beginRound (P:=P) hL1.UB (hL1.hst.trans (fG h6));have Ye:({ r1 with state:= .busy,pending:=tH }:Loop)={ r1 with state:= .busy }:=by rw[<- (show r1.pending=tH from hL1.Ye)]
   rw[Ye]at p1 p2;refine⟨_,hb1,?_⟩;refine e4 n hcb w.heap.size [] O' a' _ N (some q.c) (by rw[World.putObj_size];exact q2.size) p1 (by have:=q2.free hF;intro c hc1 hc2;exact this c (j9 a2.n hc1) hc2) hN3 q3 (by rw[q4];show n<=_;rw[f2];exact hn) (q5.QO q1 p2) (hG.mono hle) ⟨q,hq',rfl⟩ _ ?_;intro e a'' w'' O'' u0 u1 u2 u3 u4 u5;have Aa3:Co O' Z2.n N:=by have:=q2.free hF;intro c hc1 hc2;exact this c (j9 a2.n hc1) hc2
   have zw:=u2.le Aa3 hN3;have At2:O'' b=some q:=zw _ _ hq';obtain⟨B3,BG7,ps3,as3,bd3,st3,At3,w1,w2,w3,w4⟩:=KT h9;have hL3:Z3.JH b=some ⟨BG7,ps3,as3,bd3,st3,At3⟩:=by
    show ob (Z3.blk b) _=_;rw[w1];show bb B3.own _=_;rw[w2];obtain⟨cells,live,own,ver,kind⟩:=B3;cases w3;rfl
   obtain⟨r3,At4⟩:=u1.loop At2 hL3;obtain⟨t1,t2⟩:=u1.Bc At2 h9 hL3 At4;have he:=run_endRound (P:=P) jump At4.UB;rw[hst]at t1 t2
   have fin:∃ v w',(Instr.endRound q.c jump).run P w''= .ok v w'/\∃ v' O3,Ending.returned v=ended false v'/\Rel B8 O3 Z4 w'/\Y6 O Z w O3 Z4 w'/\I0 O3 (.bool jump.isNone) v' :=
    ⟨_,_,he,_,O'',rfl,t1,((q2.trans p2).trans u2).trans t2,.I3 rfl⟩
   rcases hj with⟨rfl,rfl⟩|⟨rfl,rfl⟩|⟨i,rfl,rfl⟩
   ·have u0:e= .normal:=u0;subst u0;exact fin
   ·have u0:e= .ret:=u0;subst u0;exact fin
   ·have u0:e= .exit i:=u0;subst u0;exact fin
 |exit i=>cases k4
 |ret=>cases k4
 |pan v=>cases k4
end
end
end Go.Ab
namespace Go.Ab
open Go Go.MapKept
section
variable {cs:List Value}{t m:Nat}{v u:Value}{x:Operand}
def AE9 {o:Oper}{ty:TypeId}(h:Ac9 o=some (t,ty)):o.dst=some t/\o.op= .makeMap ty none:=by
 unfold Ac9 at h;split at h
 ·rename_i b;split at h
  ·rename_i c;cases h;exact⟨b,c⟩
  ·cases h
 ·cases h
def bV {o:Oper}{ty:TypeId}{k:Value}(h:js o=some (m,ty,k,v)):o.dst=none/\o.op= .insert ty (.tmp m) (.const k) (.const v):=by
 unfold js at h;split at h
 ·rename_i b;split at h
  ·rename_i c;cases h;exact⟨b,c⟩
  ·cases h
 ·cases h
def um {o:Oper}{d:Nat}(h:uo o=some (d,m)):o.dst=some d/\o.op= .move (.tmp m):=by
 unfold uo at h;split at h
 ·rename_i b;split at h
  ·rename_i c;cases h;exact⟨b,c⟩
  ·cases h
 ·cases h
def AF0 {o:Oper}{k:Nat}{ty:TypeId}(h:Ad0 o=some (m,ty,k)):o.op= .lookup ty (.tmp m) (.tmp k) false:=by
 unfold Ad0 at h;split at h
 ·rename_i b;cases h;exact b
 ·cases h
def ur {o:Oper}{i:Nat}(h:Db o i=true):∃ e∈o.after,Region.binds .any e=true/\e.on=i:=by
 unfold Db at h;rw[List.any_eq_true]at h;obtain⟨e,c,b⟩:=h;rw[R2]at b;exact⟨e,by simpa using c,b.1,Ai b.2⟩
structure Head (l:List Oper) (g:Gh) (a0 a1 a2 a3 a4 a5 a6 a7 a8:Oper) (N7:List Oper):Prop where
 eq:l=a0::a1::a2::a3::a4::a5::a6::a7::a8::N7
 d2:a2.dst=some g.tm
 o2:a2.op= .makeMap g.ty none
 d3:a3.dst=none
 o3:a3.op= .insert g.ty (.tmp g.tm) (.const g.k1) (.const g.v1)
 d4:a4.dst=none
 o4:a4.op= .insert g.ty (.tmp g.tm) (.const g.k2) (.const g.v2)
 d5:a5.dst=some g.tv
 o5:a5.op= .move (.tmp g.tm)
 o8:a8.op= .lookup g.ty (.tmp g.tv) (.tmp g.key) false
 e32:Db a3 2=true
 e42:Db a4 2=true
 e53:Db a5 3=true
 e54:Db a5 4=true
 e85:Db a8 5=true
def AB4 {l:List Oper}{g:Gh}(h:Ad1 l=some g):∃ a0 a1 a2 a3 a4 a5 a6 a7 a8 N7,Head l g a0 a1 a2 a3 a4 a5 a6 a7 a8 N7:=by
 unfold Ad1 at h;split at h
 ·rename_i a0 a1 a2 a3 a4 a5 a6 a7 a8 N7;obtain⟨⟨c,ty⟩,b,h⟩:=A8 h;obtain⟨⟨m3,t3,k1,v1⟩,h3,h⟩:=A8 h;obtain⟨⟨m4,t4,k2,v2⟩,h4,h⟩:=A8 h;obtain⟨⟨tv,m5⟩,h5,h⟩:=A8 h;obtain⟨⟨m8,t8,key⟩,h8,h⟩:=A8 h;obtain⟨hb,h⟩:=H9 h;cases h;simp only[R2]at hb;obtain⟨b1,b2,b3,b4,b5,b6,b7,b8,b9,b10,b11,b12⟩:=hb;obtain rfl:=Ai b1;obtain rfl:=Ai b2;obtain rfl:=Ai b3;obtain rfl:=Ai b4;obtain rfl:=Ai b5;obtain rfl:=Ai b6;obtain rfl:=Ai b7;obtain⟨q1,q2⟩:=AE9 b;obtain⟨q3,q4⟩:=bV h3;obtain⟨q5,q6⟩:=bV h4;obtain⟨q7,q8⟩:=um h5;exact⟨_,_,_,_,_,_,_,_,_,_,rfl,q1,q2,q3,q4,q5,q6,q7,q8,AF0 h8,b8,b9,b10,b11,b12⟩
 ·cases h
section
variable {P:Program}{e:Operand->Value}{w:World}{o:Oper}{O:Place}
def Ad2 {t:TypeId} (b:o.op= .makeMap t none):(execOp e o).run P w= .ok (.value (.map (some w.heap.size))) { w with heap:=w.heap.push (.map #[] 0) }:=by
 simp only[execOp,b,Uy,Instr.makeMap,Sem.run_bind,Sem.run_pure,run_newObj,Result.andThen_ok]
def AF1 (b:o.op= .move x):(execOp e o).run P w= .ok (.value (e x)) w:=by
 simp only[execOp,b];rfl
def jt {t H el:TypeId}{m k:Operand}{p:Nat}{kv:Value}{cells:List Value}(W:o.op= .insert t m k x) (K:JV P t=some (H,el)) (E:e m= .map (some p)) (l:e k=kv) (B:Da (P.underlying H) kv=true) (Y:I0 O u (e x)) (R:GM O w p cells) (M:Nj kv u cells=some cs):
  ∃ w',(execOp e o).run P w= .ok .skip w'/\GM O w' p cs/\w'.heap.size=w.heap.size/\(∀ c,c≠p->w'.heap[c]? =w.heap[c]?)/\Outside w w':=by
 obtain⟨hf,hs,d,h,f⟩:=Dw B;rw[h]at B;have C:=Qn K;obtain⟨es,clock,h14,h15⟩:=R;have X:p<w.heap.size:=(Array.getElem?_eq_some_iff.1 h14).1;have y:∃ b q,Entries O cs b.toList/\(Instr.mapUpdate t (e m) (e k) (e x)).run P w= .ok () { w with heap:=w.heap.setIfInBounds p (.map b q) }:=by
  rcases aS B Y h15 M 0 with⟨s,A⟩|⟨j,v',D,s,A,I,J⟩
  ·refine⟨es.push ⟨kv,e x,clock⟩,clock+1,by simpa using A clock,?_⟩;simp only[E,l,Instr.mapUpdate,Sem.run_bind,G5 C,Result.andThen_ok,MapKept.run_getObj_map h14,Fh h f,Ao h s,MapKept.run_setObj_map _ h14]
  ·refine⟨es.modify j fun D=>{ D with key:=kv,val:=e x },clock,by simpa using J,?_⟩;have Z:((es[j]?).map (·.key)).getD kv=kv:=by
    rw[<- Array.getElem?_toList,A];exact I
   have tE:(Instr.keyThatStays kv kv).run P w= .ok kv w:=by
    unfold Instr.keyThatStays;have:Instr.sameBits 10000 kv kv=true:=by
     cases d with
     |string=>cases kv<;>simp_all[IsKey];simp[Instr.sameBits,(bytes_beq _ _).2 rfl]
     |int=>cases kv<;>simp_all[IsKey];simp[Instr.sameBits]
     |bool=>cases kv<;>simp_all[IsKey];simp[Instr.sameBits]
     |_=>cases kv<;>simp[IsKey]at f
    rw[this];rfl
   simp only[GK]at s;simp only[E,l,Instr.mapUpdate,Sem.run_bind,G5 C,Result.andThen_ok,MapKept.run_getObj_map h14,Fh h f,Ao h s,Z,tE,MapKept.run_setObj_map _ h14]
 obtain⟨b,q,N,y⟩:=y;refine⟨{ w with heap:=w.heap.setIfInBounds p (.map b q) },?_,⟨b,q,?_,N⟩,?_,fun c U=>Array.getElem?_setIfInBounds_ne fun V=>U V.symm,⟨rfl,rfl,rfl⟩⟩
 ·simp only[execOp,W,Sem.run_bind,y,Result.andThen_ok];rfl
 ·simp[X]
 ·simp
def bX {t E el:TypeId}{D:Operand}{p:Nat}{k:Value}{b:Bool}{r:Option Value}(C:o.op= .lookup t x D false) (J:JV P t=some (E,el)) (h:e x= .map (some p)) (y:e D=k) (q:Da (P.underlying E) k=true) (M:GM O w p cs) (K:QP k cs=some r) (A:found P el r=some (u,b)):
  ∃ u',(execOp e o).run P w= .ok (.value u') w/\I0 O u u':=by
 obtain⟨N,R,d,c,f⟩:=Dw q;rw[c]at q;have s:=Qn J;obtain⟨es,clock,h11,h12⟩:=M;obtain⟨g1,g2⟩:=aR q h12 K 0;cases r with
 | none=>
   obtain⟨z,B,l⟩:=A8 (show ob (Bn P el) _=some (u,b)from A);cases l;refine⟨u,?_,(ER B w).2.1⟩;simp only[execOp,C,h,y,Instr.lookup,Sem.run_bind,G5 s,Result.andThen_ok,Sem.run_pure,MapKept.run_getObj_map h11,Fh c f,Ao c (g1 rfl),(ER (O:=O) B w).1];rfl
 | some v0=>
   cases A;obtain⟨j,v',H,I⟩:=g2 _ rfl;refine⟨v',?_,I⟩;simp only[execOp,C,h,y,Instr.lookup,Sem.run_bind,G5 s,Result.andThen_ok,Sem.run_pure,MapKept.run_getObj_map h11,Fh c f,Ao c H];rfl
end
def Td:Place:=fun _=>none
def uu {O:Place}:Td.le O:=fun _ _ h=>nomatch h
def GM.I2 {O:Place}{w w':World}{p:Nat}(h:GM O w p cs) (b:w'.heap[p]? =w.heap[p]?):GM O w' p cs :=
 let ⟨es,clock,h1,h2⟩:=h;⟨es,clock,by rw[b];exact h1,h2⟩
def GM.lt {O:Place}{w:World}{p:Nat}(h:GM O w p cs):p<w.heap.size :=
 let ⟨_,_,h1,_⟩:=h;(Array.getElem?_eq_some_iff.1 h1).1
def FU {a:Act}{d:Option Tmp}(h:d≠some t):(a.put d v).tmps[t]? =a.tmps[t]? :=by
 cases d with
 |none=>rfl
 | some d=>
   show(a.tmps.setIfInBounds d v)[t]? =_;exact Array.getElem?_setIfInBounds_ne fun b=>h (by rw[b])
def uv {a:Act}(h:t<a.tmps.size):(a.put (some t) v).tmps[t]? =some v:=by
 show(a.tmps.setIfInBounds t v)[t]? =_;rw[Array.getElem?_setIfInBounds_self_of_lt h]
section
variable {P:Program}{B8:Env}{G n z:Nat}{call:Y4}{os os':Array Oper}{F:Nat->Fr}{S:Nat->St}{r:Nat->Option Stepped}{g:Gh}{L L':Nat->Prop}{O O' O₀:Place}{a a' a₀:Act}{w w' w₀:World}{k k' i p:Nat}{cells c12 c21:List Value}{o:Oper}
def Inv.world (d:Inv B8 os' F S r z O₀ a₀ w₀ L O a w k) (y:w.heap.size<=w'.heap.size) (f:∀ c,c<w.heap.size->c≠p->w'.heap[c]? =w.heap[c]?) (J:B8.lo<=w₀.heap.size) (N:w₀.heap.size<=p) (M:∀ b q B,O b=some q->Cz os' S k b B->q.c≠p) (K:Outside w w')
  (I:∀ t v i,i<=os'.size->(F i).get t=some v->a'.tmps[t]? =a.tmps[t]?) (A:a'.tmps.size=a.tmps.size) (s:a'.defers=a.defers):Inv B8 os' F S r z O₀ a₀ w₀ L O a' w' k :=
 { d with
  tmp:=fun t i hi E H v D=>by rw[I t v i hi D];exact d.tmp t i hi E H v D
  JZ:=by rw[A];exact d.JZ
  XO:=by rw[s];exact d.XO
  row:=fun b q B j C=>(d.row b q B j C).mono (Place.le_refl _) (f q.c (d.dom b q j) (M b q B j C))
  dom:=fun b q j=>z5z (d.dom b q j) y
  low:=d.low.next y fun c l=>f c (z5z l d.low.1) om
  size:=j9 d.size y
  I2:=fun c l h=>by rw[f c (z5z l d.size) om];exact d.I2 c l h
  out:=d.out.trans K }
structure AF2 (g:Gh) (c12 c21:List Value) (os':Array Oper) (S:Nat->St) (w₀:World) (L:Nat->Prop) (O:Place) (a:Act) (w:World) (k p:Nat) (cells:List Value):Prop where
 tm:a.tmps[g.tm]? =some (.map (some p))
 row:GM Td w p cells
 new:w₀.heap.size<=p
 apart:∀ b q B,O b=some q->Cz os' S k b B->q.c≠p
 cells:(¬ L 3/\¬ L 4/\cells=[])\/(L 3/\¬ L 4/\cells=[g.k1,g.v1])\/(¬ L 3/\L 4/\cells=[g.k2,g.v2])\/(L 3/\L 4/\(cells=c12\/cells=c21))
 tv:L 5->a.tmps[g.tv]? =some (.map (some p))
def BI5 (g:Gh) (c12 c21:List Value) (os':Array Oper) (S:Nat->St) (w₀:World) (L:Nat->Prop) (O:Place) (a:Act) (w:World) (k:Nat):Prop:=L 2->∃ p cells,AF2 g c12 c21 os' S w₀ L O a w k p cells
def AF2.step (h:AF2 g c12 c21 os' S w₀ L O a w k p cells) (l:L' 3↔L 3) (s:L' 4↔L 4) (y:L' 5->L 5) (f:a'.tmps[g.tm]? =a.tmps[g.tm]?) (j:a'.tmps[g.tv]? =a.tmps[g.tv]?) (C:w'.heap[p]? =w.heap[p]?)
  (d:∀ b q B,O' b=some q->Cz os' S k' b B->q.c≠p):AF2 g c12 c21 os' S w₀ L' O' a' w' k' p cells :=
 ⟨by rw[f];exact h.tm,h.row.I2 C,h.new,d,by rw[l,s];exact h.cells,fun A=>by rw[j];exact h.tv (y A)⟩
def nV (I:Ctx P B8 G n call os' F S r z) (hi:i<os'.size) (W:Y6 O (S i) w O' (S (i+1)) w') (D:i<k') (M:k'<=os'.size) (N:∀ j,i<j->j<k'->¬ Cq r j):
  ∀ b q B,O' b=some q->Cz os' S k' b B->(b<(S (i+1)).n/\(S (i+1)).blk b=some B)\/((S (i+1)).n<=b/\O b=some q/\Cz os' S i b B):=by
 have X:∀ x y,x<=y->y<=os'.size->(S x).n<=(S y).n:=fun x y l d=>(I8 I.hC I.hch l d).n;have c:∀ b x,i+1<=x->x<=k'->b<(S x).n->(S k').h.get b=(S x).h.get b:=fun b x l d H=>
  FQ I.hC I.hch H d M fun j J U f=>absurd f (N j om om)
 have R:∀ {b x y},(S x).h.get b=(S y).h.get b->(S x).blk b=(S y).blk b:=by
  intro b x y h;show ob ((S x).h.get b) _=ob ((S y).h.get b) _;rw[h]
 intro b q B V K;rcases K with⟨l,d⟩|⟨j,l,d,H,h4,h5⟩
 ·rcases AU b (S (i+1)).n with A|A
  ·exact .inl ⟨A,by rw[<- R (c b (i+1) nL D A)];exact d⟩
  ·right;refine⟨A,by rw[<- W.ext b (.inr A)];exact V,.inr ?_⟩;have:∀ m,i+1<=m->m<=k'->b<(S m).n->∃ j,i+1<=j/\j<m/\(S j).n<=b/\b<(S (j+1)).n:=by
    intro m;induction m with
    |zero=>intro J _ _;omega
    | succ m ih=>
      intro J U f;have C:i+1<=m:=by
       rcases AU i m with g|g
       ·exact g
       ·obtain rfl:m=i:=om;omega
      by_cases hm:b<(S m).n
      ·obtain⟨j,E,g5,Y,Z⟩:=ih C om hm;exact⟨j,E,om,Y,Z⟩
      ·exact⟨m,C,om,om,f⟩
   obtain⟨j,J,U,f,E⟩:=this k' D nL l;exact⟨j,om,om,f,E,by rw[<- R (c b (j+1) om om E)];exact d⟩
 ·have s:(S (i+1)).n<=b:=j9 (X (i+1) j om om) H;exact .inr ⟨s,by rw[<- W.ext b (.inr s)];exact V,.inr ⟨j,om,d,H,h4,h5⟩⟩
def uw (c:Ctx P B8 G n call os' F S r z) (hi:i<=os'.size):∀ b B,(S i).blk b=some B->Cz os' S i b B:=by
 intro b B h;refine .inl ⟨?_,h⟩;rcases AU b (S i).n with d|d
 ·exact d
 ·have f:=(AM h).1;rw[(I8 c.hC c.hch (i:=0) (j:=i) om om).fresh c.fresh b d]at f;cases f
def nY (E:Ctx P B8 G n call os' F S r z) (hi:i<os'.size) (s:Y6 O (S i) w O' (S (i+1)) w') (y:i<k') (A:k'<=os'.size) (C:∀ j,i<j->j<k'->¬ Cq r j) (N:p<w.heap.size)
  (f:∀ b q B,O b=some q->Cz os' S i b B->q.c≠p):w'.heap[p]? =w.heap[p]? /\∀ b q B,O' b=some q->Cz os' S k' b B->q.c≠p:=by
 have d:=uw E (Nat.le_of_lt hi);refine⟨s.I2 p N fun b q B h R K=>absurd R (f b q B h (d b B K)),fun b q B h M=>?_⟩;rcases nV E hi s y A C b q B h M with⟨V,l⟩|⟨_,l,J⟩
 ·intro W;obtain⟨D,q0,B0,H,U,I,-⟩:=s.owned b q B h l om;exact f D q0 B0 H (d D B0 I) om
 ·exact f b q B l J
end
end
section
variable {o:Oper}{fr:Fr}{i t:Nat}{Z:St}
section
variable {P:Program}{B8:Env}{G n:Nat}{call:Y4}{os os':Array Oper}{F:Nat->Fr}{S:Nat->St}{r:Nat->Option Stepped}{g:Gh}{O₀:Place}{a₀:Act}{w₀:World}{V kv:Value}{c12 c21:List Value}{a8:Oper}
structure GhX (P:Program) (B8:Env) (G n:Nat) (call:Y4) (os os':Array Oper) (F:Nat->Fr) (S:Nat->St) (r:Nat->Option Stepped) (g:Gh) (V kv:Value) (c12 c21:List Value) (a8:Oper):Prop where
 hX:Ctx P B8 G n call os' F S r os'.size
 sz:os'.size=os.size
 same:∀ (i:Nat) (o:Oper),i≠2->i≠3->i≠4->i≠5->i≠8->os[i]? =some o->os'[i]? =some o
 aft:∀ (i:Nat) (o o':Oper),os[i]? =some o->os'[i]? =some o'->o'.after=o.after/\o'.guard=none
 gd:∀ (i:Nat) (o:Oper),os[i]? =some o->o.guard=none
 nm:∀ (j:Nat) (o:Oper),os'[j]? =some o->o.dst≠some g.tm/\o.dst≠some g.tv
 f0:(F 0).get g.tm=none/\(F 0).get g.tv=none
 x2:∃ a2,os[2]? =some a2/\os'[2]? =some (FK a2)/\a2.dst=some g.tm/\a2.op= .makeMap g.ty none
 x3:∃ a3,os[3]? =some a3/\os'[3]? =some (FK a3)/\a3.dst=none/\a3.op= .insert g.ty (.tmp g.tm) (.const g.k1) (.const g.v1)/\Db a3 2=true
 x4:∃ a4,os[4]? =some a4/\os'[4]? =some (FK a4)/\a4.dst=none/\a4.op= .insert g.ty (.tmp g.tm) (.const g.k2) (.const g.v2)/\Db a4 2=true
 x5:∃ a5,os[5]? =some a5/\os'[5]? =some (FK a5)/\a5.dst=some g.tv/\a5.op= .move (.tmp g.tm)/\Db a5 3=true/\Db a5 4=true
 x8:os[8]? =some a8/\os'[8]? =some (Va a8 V)/\a8.op= .lookup g.ty (.tmp g.tv) (.tmp g.key) false/\Db a8 5=true
 kw:∀ (j:Nat) (o:Oper),os'[j]? =some o->o.dst=some g.key->j<8/\Db a8 j=true
 k8:(F 8).get g.key=some kv
 btm:g.tm<n
 btv:g.tv<n
 ne:g.tm≠g.tv
 val:∃ kt el b1 b2 r1 r2,JV P g.ty=some (kt,el)/\Da (P.underlying kt) g.k1=true/\Da (P.underlying kt) g.k2=true/\Da (P.underlying kt) kv=true/\cst g.v1=some g.v1/\cst g.v2=some g.v2 /\
  Nj g.k2 g.v2 [g.k1,g.v1]=some c12/\Nj g.k1 g.v1 [g.k2,g.v2]=some c21/\QP kv c12=some r1/\QP kv c21=some r2/\found P el r1=some (V,b1)/\found P el r2=some (V,b2)
 cv:cst V=some V
def OD {P:Program}{call:Y4}:Ab.step P call fr Z (FK o)=some ⟨.bool false,Z,.none⟩:=rfl
def xR {P:Program}{call:Y4}{V:Value}(h:cst V=some V):Ab.step P call fr Z (Va o V)=some ⟨V,Z,.none⟩:=by
 show J7 Z (cst V)=_;rw[h];rfl
def Ud {os:Array Oper}(h:o.guard=none):U8 os fr o=some true:=by
 unfold U8;rw[h]
def cp (h:o.guard=none):∀ y,Region.wanted o y=true:=fun y=>by
 unfold Region.wanted;rw[h]
def GhX.AK3 (h:GhX P B8 G n call os os' F S r g V kv c12 c21 a8){a:Oper}(d:os'[i]? =some a) (f:a.guard=none):∃ s,Ab.step P call (F i) (S i) a=some s/\r i=some s/\F (i+1)=I7 (F i) a.dst s.v/\S (i+1)=s.Z:=by
 have b:=(Array.getElem?_eq_some_iff.1 d).1;rcases h.hX.hch.step i a (BH _) (.inl b) d with⟨_,s,e⟩|⟨c,_⟩
 ·exact⟨s,e⟩
 ·rw[Ud f]at c;cases c
def GhX.BA5 (h:GhX P B8 G n call os os' F S r g V kv c12 c21 a8)(ht:t=g.tm\/t=g.tv)(hi:i<=os'.size):(F i).get t=none:=by
 rw[Sf h.hX.hch (BH _) hi fun j o _ _ a=>by rcases ht with rfl|rfl;exact(h.nm j o a).1;exact(h.nm j o a).2];rcases ht with rfl|rfl
 ·exact h.f0.1
 ·exact h.f0.2
def GSt (g:Gh) (c12 c21:List Value) (os':Array Oper) (S:Nat->St) (w₀:World) (L:Nat->Prop) (O:Place) (a:Act) (w:World) (k:Nat):Prop :=
 (L 3->L 2)/\(L 4->L 2)/\(L 5->L 3/\L 4)/\BI5 g c12 c21 os' S w₀ L O a w k
def GS {A:Nat->Prop}{x:Nat}(h:i≠x):(A x\/x=i)↔A x:=⟨fun a=>a.elim id fun e=>absurd e.symm h,.inl⟩
def eval_at {a:Act}{v:Value}(h:a.tmps[t]? =some v):a.eval (.tmp t)=v:=by
 show a.tmps.getD t undef=v;rw[IH,h];rfl
def xS {rd:Option Nat}(h:GhX P B8 G n call os os' F S r g V kv c12 c21 a8) (U:n<=a₀.tmps.size) (hG:Bw O₀ G) (a1:B8.lo<=w₀.heap.size){Q:Exit->Act->World->Prop}{K:Act->World->Prop}{L:Nat->Prop}{O:Place}{a:Act}{w:World}{k i:Nat}{o o':Oper}
  (u:Inv B8 os' F S r os'.size O₀ a₀ w₀ L O a w k) (hS:GSt g c12 c21 os' S w₀ L O a w k) (hi:Rdy os' L i o') (ho:os[i]? =some o)
  (go:∀ O' a' w' k',Inv B8 os' F S r os'.size O₀ a₀ w₀ (fun j=>L j\/j=i) O' a' w' k'->GSt g c12 c21 os' S w₀ (fun j=>L j\/j=i) O' a' w' k'->K a' w'):wpOpIn (FW rd) 0 P os Q i K a w:=by
 have A:=h.hX;obtain⟨s3,s4,s5,sA⟩:=hS;have dJ:=(Array.getElem?_eq_some_iff.1 hi.ho).1;have X:Live os' os'.size i:= .inl dJ;have b8:o'.guard=none:=(h.aft i o o' ho hi.ho).2;have a6:=h.nm i o' hi.ho;have UQ:∀ {b:Oper}{j:Nat},os'[i]? =some b->Db b j=true->L j:=by
  intro b j R he;rw[hi.ho]at R;cases R;obtain⟨e,y,C,e3⟩:=ur he;rw[<- e3];exact hi.all e y C
 obtain⟨s,W,t2,t3,t4⟩:=h.AK3 hi.ho b8;unfold wpOpIn;rw[ho];simp only;rw[z1z (cp (h.gd i o ho) _)];obtain⟨kt,el,b1,b2,r1,r2,v1,v2,v3,v4,v5,v6,v7,v8,v9,v10,v11,v12⟩:=h.val;by_cases i2:i=2
 ·subst i2;obtain⟨a2,I,z,x3,J⟩:=h.x2;rw[ho]at I;cases I;rw[hi.ho]at z;cases z;rw[OD]at W;cases W;have N:=u.quiet A hi X U (v:= .bool false) (v':= .bool false) t3 (.I3 rfl) fun⟨s,y,C⟩=>by rw[t2]at y;cases y;cases C
  refine Bb (by rw[J];intro c M;cases M) ?_;rw[Ad2 J,Oper.uponIn_value,x3];have c2:g.tm<a.tmps.size:=by rw[u.JZ];exact z5z h.btm U
  have hw:=N.world (p:=w.heap.size) (a':=a.put (some g.tm) (.map (some w.heap.size))) (w':={ w with heap:=w.heap.push (.map #[] 0) }) (by simp) (fun c M _=>by
   show(w.heap.push _)[c]? =_
   rw[Array.getElem?_push,z0z om]) a1 u.size (fun b q B R _=>by have:=u.dom b q R;omega) ⟨rfl,rfl,rfl⟩ (fun t v j hj hv=>by
    rw[FU (fun e=>by cases e;rw[h.BA5 (.inl rfl) hj]at hv;cases hv)];rfl) (by rw[En];rfl) (by rw[put_defers];rfl)
  refine go O _ _ k hw ⟨fun h3=> .inr rfl,fun D=> .inr rfl,fun f=>?_,fun _=>⟨w.heap.size,[],uv c2,⟨#[],0,by simp,.nil⟩,u.size,fun b q B R _=>by have:=u.dom b q R;omega,?_,fun f=>?_⟩⟩
  ·rcases f with f|f
   ·exact⟨.inl (s5 f).1,.inl (s5 f).2⟩
   ·cases f
  ·refine .inl ⟨fun h3=>?_,fun D=>?_,rfl⟩
   ·rcases h3 with h3|h3
    ·exact hi.no (s3 h3)
    ·cases h3
   ·rcases D with D|D
    ·exact hi.no (s4 D)
    ·cases D
  ·rcases f with f|f
   ·exact absurd (s3 (s5 f).1) hi.no
   ·cases f
 by_cases i3:i=3
 ·subst i3;obtain⟨a3,I,z,x3,J,x5⟩:=h.x3;rw[ho]at I;cases I;have l:=UQ z x5;rw[hi.ho]at z;cases z;rw[OD]at W;cases W;have N:=u.quiet A hi X U (v:= .bool false) (v':= .bool false) t3 (.I3 rfl) fun⟨s,y,C⟩=>by rw[t2]at y;cases y;cases C
  obtain⟨p,cells,d⟩:=sA l;have Nk:∃ cs,Nj g.k1 g.v1 cells=some cs/\((¬ L 4/\cs=[g.k1,g.v1])\/(L 4/\cs=c21)):=by
   rcases d.cells with⟨_,m,rfl⟩|⟨q1,_⟩|⟨_,m,rfl⟩|⟨q1,_⟩
   ·exact⟨_,rfl,.inl ⟨m,rfl⟩⟩
   ·exact absurd q1 hi.no
   ·exact⟨_,v8,.inr ⟨m,rfl⟩⟩
   ·exact absurd q1 hi.no
  obtain⟨cs,q1,m⟩:=Nk;obtain⟨w',r1',r2',r3',r4',r5'⟩:=jt (P:=P) (e:=a.eval) (O:=Td) J v1 (eval_at d.tm) (show a.eval (.const g.k1)=g.k1 from rfl) v2 (show I0 Td g.v1 (a.eval (.const g.v1))from (I0.cst v5).2) d.row q1;refine Bb (by rw[J];intro c M;cases M) ?_;rw[r1',Oper.uponIn_skip,x3];have hw:=N.world (p:=p) (a':=a) (w':=w') om (fun c _ M=>r4' c M) a1 d.new d.apart r5' (fun t v j hj hv=>rfl) rfl rfl;refine go O _ _ k hw ⟨fun _=> .inl l,fun D=> .inl l,fun f=>?_,fun _=>⟨p,cs,d.tm,r2',d.new,d.apart,?_,fun f=>?_⟩⟩
  ·rcases f with f|f
   ·exact absurd (s5 f).1 hi.no
   ·cases f
  ·rcases m with⟨m,rfl⟩|⟨m,rfl⟩
   ·exact .inr (.inl ⟨.inr rfl,(fun D=>D.elim m fun e=>by cases e),rfl⟩)
   ·exact .inr (.inr (.inr ⟨.inr rfl,.inl m,.inr rfl⟩))
  ·rcases f with f|f
   ·exact d.tv f
   ·cases f
 by_cases i4:i=4
 ·subst i4;obtain⟨a4,I,z,x3,J,x5⟩:=h.x4;rw[ho]at I;cases I;have l:=UQ z x5;rw[hi.ho]at z;cases z;rw[OD]at W;cases W;have N:=u.quiet A hi X U (v:= .bool false) (v':= .bool false) t3 (.I3 rfl) fun⟨s,y,C⟩=>by rw[t2]at y;cases y;cases C
  obtain⟨p,cells,d⟩:=sA l;have Nk:∃ cs,Nj g.k2 g.v2 cells=some cs/\((¬ L 3/\cs=[g.k2,g.v2])\/(L 3/\cs=c12)):=by
   rcases d.cells with⟨q1,_,rfl⟩|⟨q1,_,rfl⟩|⟨_,m,_⟩|⟨_,m,_⟩
   ·exact⟨_,rfl,.inl ⟨q1,rfl⟩⟩
   ·exact⟨_,v7,.inr ⟨q1,rfl⟩⟩
   ·exact absurd m hi.no
   ·exact absurd m hi.no
  obtain⟨cs,q1,m⟩:=Nk;obtain⟨w',r1',r2',r3',r4',r5'⟩:=jt (P:=P) (e:=a.eval) (O:=Td) J v1 (eval_at d.tm) (show a.eval (.const g.k2)=g.k2 from rfl) v3 (show I0 Td g.v2 (a.eval (.const g.v2))from (I0.cst v6).2) d.row q1;refine Bb (by rw[J];intro c M;cases M) ?_;rw[r1',Oper.uponIn_skip,x3];have hw:=N.world (p:=p) (a':=a) (w':=w') om (fun c _ M=>r4' c M) a1 d.new d.apart r5' (fun t v j hj hv=>rfl) rfl rfl;refine go O _ _ k hw ⟨fun _=> .inl l,fun D=> .inl l,fun f=>?_,fun _=>⟨p,cs,d.tm,r2',d.new,d.apart,?_,fun f=>?_⟩⟩
  ·rcases f with f|f
   ·exact absurd (s5 f).2 hi.no
   ·cases f
  ·rcases m with⟨m,rfl⟩|⟨m,rfl⟩
   ·exact .inr (.inr (.inl ⟨(fun D=>D.elim m fun e=>by cases e),.inr rfl,rfl⟩))
   ·exact .inr (.inr (.inr ⟨.inl m,.inr rfl,.inl rfl⟩))
  ·rcases f with f|f
   ·exact d.tv f
   ·cases f
 by_cases i5:i=5
 ·subst i5;obtain⟨a5,I,z,x3,J,x5,x6⟩:=h.x5;rw[ho]at I;cases I;have H:=UQ z x5;have a0:=UQ z x6;have l:=s3 H;rw[hi.ho]at z;cases z;rw[OD]at W;cases W;have N:=u.quiet A hi X U (v:= .bool false) (v':= .bool false) t3 (.I3 rfl) fun⟨s,y,C⟩=>by rw[t2]at y;cases y;cases C
  obtain⟨p,cells,d⟩:=sA l;refine Bb (by rw[J];intro c M;cases M) ?_;rw[AF1 J,Oper.uponIn_value,x3,eval_at d.tm];have c3:g.tv<a.tmps.size:=by rw[u.JZ];exact z5z h.btv U
  have hw:=N.world (p:=p) (a':=a.put (some g.tv) (.map (some p))) (w':=w) nL (fun c _ _=>rfl) a1 d.new d.apart (.refl _) (fun t v j hj hv=>by
    rw[FU (fun e=>by cases e;rw[h.BA5 (.inr rfl) hj]at hv;cases hv)];rfl) (by rw[En];rfl) (by rw[put_defers];rfl)
  refine go O _ _ k hw ⟨fun _=> .inl l,fun D=> .inl l,fun _=>⟨.inl H,.inl a0⟩,fun _=>⟨p,cells,?_,d.row,d.new,d.apart,?_,fun _=>uv c3⟩⟩
  ·rw[FU (fun e=>h.ne (z8z e).symm)];exact d.tm
  ·rw[GS om,GS om];exact d.cells
 by_cases i8:i=8
 ·subst i8;obtain⟨I,z,J,x5⟩:=h.x8;rw[ho]at I;cases I;have a7:=UQ z x5;obtain⟨H,a0⟩:=s5 a7;have l:=s3 H;have mT:a.eval (.tmp g.key)=kv:=by
   obtain⟨v',q1,m⟩:=u.tmp g.key 8 om (fun j oj hj a9 hd=>UQ z (h.kw j oj a9 hd).2) (fun j oj hj a9 hd=>by have:=(h.kw j oj a9 hd).1;omega) kv h.k8;rw[eval_at q1];exact m.flat (Dw v4).1
  rw[hi.ho]at z;cases z;rw[xR h.cv]at W;cases W;obtain⟨p,cells,d⟩:=sA l;have b9:∃ u',(execOp a.eval a8).run P w= .ok (.value u') w/\I0 Td V u':=by
   rcases d.cells with⟨q,_⟩|⟨_,q,_⟩|⟨q,_⟩|⟨_,_,rfl|rfl⟩
   ·exact absurd H q
   ·exact absurd a0 q
   ·exact absurd H q
   ·exact bX J v1 (eval_at (d.tv a7)) mT v4 d.row v9 v11
   ·exact bX J v1 (eval_at (d.tv a7)) mT v4 d.row v10 v12
  obtain⟨u',q1,m⟩:=b9;refine Bb (by rw[J];intro c M;cases M) ?_;rw[q1,Oper.uponIn_value];have N:=u.quiet A hi X U (v:=V) (v':=u') t3 (m.mono uu) fun⟨s,y,C⟩=>by rw[t2]at y;cases y;cases C
  refine go O _ _ k N ⟨fun _=> .inl l,fun D=> .inl l,fun _=>⟨.inl H,.inl a0⟩,fun _=>⟨p,cells,d.step (GS om) (GS om) (fun h=>h.elim id fun e=>by cases e) (FU a6.1) (FU a6.2) rfl d.apart⟩⟩
 have EG:=h.same i o i2 i3 i4 i5 i8 ho;rw[hi.ho]at EG;cases EG;have Y:∀ O' v' w' k',(∀ p,p<w.heap.size->(∀ b q B,O b=some q->Cz os' S k b B->q.c≠p)->w'.heap[p]? =w.heap[p]? /\∀ b q B,O' b=some q->Cz os' S k' b B->q.c≠p)->GSt g c12 c21 os' S w₀ (fun j=>L j\/j=i) O' (a.put o.dst v') w' k':=by
  intro O' v' w' k' hp;refine⟨fun h3=> .inl (s3 ((GS i3).1 h3)),fun D=> .inl (s4 ((GS i4).1 D)),fun f=>⟨.inl (s5 ((GS i5).1 f)).1,.inl (s5 ((GS i5).1 f)).2⟩,fun h2=>?_⟩;obtain⟨p,cells,d⟩:=sA ((GS i2).1 h2);obtain⟨p1,p2⟩:=hp p d.row.lt d.apart;exact⟨p,cells,d.step (GS i3) (GS i4) (GS i5).1 (FU a6.1) (FU a6.2) p1 p2⟩
 have hr:=t2;obtain⟨g1,g2,g3,g4⟩:=CI A.hC A.hch hi.ho hr;have hd:∀ c,o.op≠ .defer c:=Ll A.hch hi.ho hr;have hk:=u.known A hi hG;cases g2 with
 | @pure v E=>
   obtain⟨v',y,C⟩:=E O a.eval w hk;refine Bb hd ?_;rw[y,Oper.uponIn_value];exact go _ _ _ _ (u.quiet A hi X U g3 C fun⟨s,h1,h2⟩=>by rw[hr]at h1;cases h1;cases h2) (Y _ _ _ _ fun p _ hp=>⟨rfl,hp⟩)
 | @read v b E=>
   obtain⟨⟨cs,c6⟩,E⟩:=E;obtain⟨_,E⟩:=E O a.eval w hk;obtain⟨v',y,C⟩:=E fun q c4 N b6=>u.Zr A hi hr rfl b6 N;refine Bb hd ?_;rw[y,Oper.uponIn_value];exact go _ _ _ _ (u.quiet A hi X U g3 C fun⟨s,h1,h2⟩=>by rw[hr]at h1;cases h1;cases h2) (Y _ _ _ _ fun p _ hp=>⟨rfl,hp⟩)
 | @new cs vf t E=>
   obtain⟨w',v',arr,c5,lo,c7,vs,more,y,C,e3,e4,e5,e6,e7,e8,e9,et,c0⟩:=E O a.eval w hk;refine Bb hd ?_;rw[y,Oper.uponIn_value];refine go _ _ _ _ (u.new A hi X U g3 g4 (fun⟨s,h1,h2⟩=>by rw[hr]at h1;cases h1;cases h2) C e3 e4 e5 e6 e7 e8 e9 et fun O' N=>c0 O' _ N) (Y _ _ _ _ fun p b0 hp=>⟨e4 p b0,fun b q B R hH=>?_⟩);by_cases b3:b=(S i).n
   ·subst b3;rw[Place.R0]at R;cases R;show w.heap.size≠p;omega
   ·rw[Place.Ak _ _ b3]at R;exact hp b q B R hH
 | @eff v Z' E=>
   have b7:Cq r i:=⟨_,hr,rfl⟩
   have c1:k=i:=by
    rcases eS k i with hh|hh|hh
    ·obtain⟨⟨s',j1,j2⟩,j3⟩:=u.Ie om;have b4:os'[k]? =some os'[k]:=Array.getElem?_eq_getElem om;obtain⟨_,j5,_,_⟩:=CI A.hC A.hch b4 j1;have j6:DZ os'[k].op=true:=by
      cases j5 with
      |eff E=>exact E.2.1
      |pure _=>cases j2
      |new _=>cases j2
      |read _=>cases j2
      |pan _=>cases j2
     exact absurd (hi.bef u.down (A.hD.eff k i os'[k] o hh b4 hi.ho j6 E.2.1)) j3
    ·exact hh
    ·exact absurd (u.eR i hh b7) hi.no
   subst c1;obtain⟨hR,hF⟩:=jy A u dJ;change S (k+1)=Z' at g4;subst g4;obtain⟨k',m1,m2,m3,m4⟩:=Ng r os'.size (os'.size-(k+1)) (k+1) om;refine E.2.2 O a w _ hk hR hF nL (hG.mono u.le) _ _ _ fun v' w' O' q1 m q3=>?_;have b5:∀ j,k<j->j<k'->¬ Cq r j:=fun j I z=>m3 j om z;exact go _ _ _ k' (u.effect A hi X U g3 q1 m (m.le hF nL) q3 om m2 b5 m4) (Y _ _ _ _ fun p b0 hp=>nY A dJ m om m2 b5 b0 hp)
 |pan E=>exact absurd rfl (A.hch.np i _ (BH _) hr)
def fM {K:Option Nat}(h:GhX P B8 G n call os os' F S r g V kv c12 c21 a8) (hn:n<=a₀.tmps.size) (X:Bw O₀ G) (D:B8.lo<=w₀.heap.size){Q:Exit->Act->World->Prop}
  (Y:∀ O' a' w',Rel B8 O' (S os'.size) w'->Y6 O₀ (S 0) w₀ O' (S os'.size) w'->FD O' (F os'.size) a'->a'.tmps.size=a₀.tmps.size->a'.defers=a₀.defers->Q .normal a' w') :
  ∀ (fuel:Nat) (listed:Array Bool) (O:Place) (a:Act) (w:World) (k:Nat),listed.size=os.size->listed.toList.count false<=fuel ->
   Inv B8 os' F S r os'.size O₀ a₀ w₀ (fun j=>listed.getD j false=true) O a w k->GSt g c12 c21 os' S w₀ (fun j=>listed.getD j false=true) O a w k->wpAnyIn (FW K) 0 P .any os Q fuel listed a w:=by
 have J:=h.hX;have p:∀ {i:Nat}{o:Oper},os[i]? =some o->∃ o',os'[i]? =some o'/\o'.after=o.after/\o'.guard=none:=by
  intro i o f;have m:=(Array.getElem?_eq_some_iff.1 f).1;have u:i<os'.size:=by rw[h.sz];exact m
  have c:os'[i]? =some os'[i]:=Array.getElem?_eq_getElem u;exact⟨_,c,h.aft i o _ f c⟩
 have fin:∀ (listed:Array Bool) (O:Place) (a:Act) (w:World) (k:Nat),listed.size=os.size->Inv B8 os' F S r os'.size O₀ a₀ w₀ (fun j=>listed.getD j false=true) O a w k->Region.ready .any os listed=[]->Q .normal a w:=by
  intro listed O a w k b d q;have N:∀ i,i<os.size->listed.getD i false=true:=by
   intro i;induction i using Nat.strongRecOn with
   | _ i ih=>
     intro hi;apply TU;intro z;have L:i∈Region.ready .any os listed:=by
      rw[Vr];refine⟨?_,os[i],Array.getElem?_eq_getElem hi,fun e he hb=>?_⟩
      ·rw[IH]at z ⊢;rw[Array.getElem?_eq_getElem om]at z ⊢
       simpa using z
      ·obtain⟨o',R,U,_⟩:=p (Array.getElem?_eq_getElem hi);have:=J.hD.UQ i o' e R (by rw[U];exact he) hb;exact ih e.on this om
     rw[q]at L;cases L
  obtain⟨l,v,W⟩:=jz J d (by rw[h.sz];exact N);exact Y O a w l v W d.JZ d.XO
 intro fuel;induction fuel with
 | zero=>
   intro listed O a w k b hc d _;have q:Region.ready .any os listed=[]:=by
    apply AQ6.2;intro i hi;rw[Vr]at hi;obtain⟨l,o,f,_⟩:=hi;have m:=(Array.getElem?_eq_some_iff.1 f).1;have:=Tg listed.toList om i (by rw[QD];omega);rw[Array.getElem?_toList]at this;rw[IH,this]at l;cases l
   exact⟨q,fin listed O a w k b d q⟩
 | succ fuel ih=>
   intro listed O a w k b hc d hS;refine⟨fin listed O a w k b d,fun i hi=>?_⟩;rw[Vr]at hi;obtain⟨l,o,f,v⟩:=hi;have m:=(Array.getElem?_eq_some_iff.1 f).1;have I:listed[i]? =some false:=by
    rw[IH,Array.getElem?_eq_getElem om]at l;rw[Array.getElem?_eq_getElem om]
    simpa using l
   have E:¬ listed.getD i false=true:=by rw[IH,I];simp
   obtain⟨o',c,B,M⟩:=p f;have hi:Rdy os' (fun j=>listed.getD j false=true) i o':=⟨c,E,by rw[B];exact v⟩
   have H:(fun j=>(listed.setIfInBounds i true).getD j false=true)=fun j=>listed.getD j false=true\/j=i:=by
    funext j
    apply propext;by_cases C:j=i
    ·subst C;simp[IH,Array.getElem?_setIfInBounds_self_of_lt (show j<listed.size by omega)]
    ·rw[getD_set_ne false (fun h=>C h.symm)];simp[C]
   have go:∀ O' a' w' s,Inv B8 os' F S r os'.size O₀ a₀ w₀ (fun j=>listed.getD j false=true\/j=i) O' a' w' s->GSt g c12 c21 os' S w₀ (fun j=>listed.getD j false=true\/j=i) O' a' w' s->wpAnyIn (FW K) 0 P .any os Q fuel (listed.setIfInBounds i true) a' w':=by
    intro O' a' w' s y A;refine ih _ O' a' w' s (by simpa using b) ?_ (by rw[H];exact y) (by rw[H];exact A);have:=count_set listed.toList i (by rw[Array.getElem?_toList];exact I);rw[AQ7];omega
   exact xS h hn X D d hS hi f go
end
end
section
variable {P:Program}{B8:Env}{G:Nat}
def PE {t:Nat}{o:Oper}(h:TK t o=true):o.dst≠some t:=by
 intro a;unfold TK at h;rw[a]at h;simp at h
def AB2 {b:Oper}{key:Nat}:∀ {l:List Oper}{k:Nat},tV b key l k=true->∀ (j:Nat) (o:Oper),l[j]? =some o->o.dst=some key->k+j<8/\Db b (k+j)=true:=by
 intro l;induction l with
 |nil=>intro k _ j o h;simp at h
 | cons x l ih=>
   intro k h j o d c;unfold tV at h;rw[R2,RI]at h;cases j with
   | zero=>
     cases d;rcases h.1 with a|a
     ·exact absurd c (PE a)
     ·rw[R2]at a;exact⟨by have:=a.1;rw[BW]at this;omega,a.2⟩
   | succ j=>
     have:=ih h.2 j o (by simpa using d) c;rw[show k+1+j=k+(j+1) by omega]at this;exact this
def fK {v:Value}(h:KO v=true):cst v=some v:=by
 unfold cst;rw[h];rfl
def tW {g:Gh}{kv V:Value}(h:AP4 P g kv=some V):∃ c12 c21 kt el b1 b2 r1 r2,JV P g.ty=some (kt,el)/\Da (P.underlying kt) g.k1=true/\Da (P.underlying kt) g.k2=true/\Da (P.underlying kt) kv=true/\cst g.v1=some g.v1/\cst g.v2=some g.v2 /\
  Nj g.k2 g.v2 [g.k1,g.v1]=some c12/\Nj g.k1 g.v1 [g.k2,g.v2]=some c21/\QP kv c12=some r1/\QP kv c21=some r2/\found P el r1=some (V,b1)/\found P el r2=some (V,b2)/\cst V=some V:=by
 obtain⟨⟨kt,el⟩,a,h⟩:=A8 h;obtain⟨hb,h⟩:=H9 h;obtain⟨c12,h2,h⟩:=A8 h;obtain⟨c21,h3,h⟩:=A8 h;obtain⟨r1,h4,h⟩:=A8 h;obtain⟨r2,h5,h⟩:=A8 h;obtain⟨⟨x1,b1⟩,h6,h⟩:=A8 h;obtain⟨⟨x2,b2⟩,h7,h⟩:=A8 h;obtain⟨hv,h⟩:=H9 h;cases h;simp only[R2]at hb hv;obtain⟨d1,d2,d3,d4,d5,d6,d7⟩:=hb;obtain⟨d8,d9⟩:=hv;obtain rfl:x1=x2:=fL d8;exact⟨c12,c21,kt,el,b1,b2,r1,r2,a,d1,d2,d3,fK d6,fK d7,h2,h3,h4,h5,h6,h7,fK d9⟩
def me {call:Y4}(l:BE P B8 G call){os:Array Oper}{F:Nat->Fr}{S:Nat->St}{r:Nat->Option Stepped}{U:Fr}{Z Z':St}{O:Place}{a:Act}{w:World}{N k:Nat}(f1:F 0=U) (z:S 0=Z) (g:JY P call os F S r os.size 0) (a1:(S os.size).n<=Z'.n)
  (f:Rel B8 O Z w) (W:Co O Z.n N) (hN:Z'.n<=N) (sj:FD O U a) (D:k<=os.size) (K:∀ j,0<=j->j<k->¬ Cq r j) (m4:k<os.size->Cq r k) (L:Nat->Prop) (y:∀ j,¬ L j):Inv B8 os F S r os.size O a w L O a w k:=by
 have a0:=f.fresh;have nk:=(I8 l g (i:=0) (j:=k) (BH _) D).n;have sm:∀ b,b<(S 0).n->(S k).h.get b=(S 0).h.get b:=fun b u=>FQ l g u (BH _) D fun j _ d p=>absurd p (K j (BH _) d);have m:∀ b q,O b=some q->b<(S 0).n\/Z'.n<=b:=by
  intro b q u;rcases AU b (S 0).n with J|J
  ·exact .inl J
  ·rcases AU b Z'.n with C|C
   ·rw[W b (by rw[<- z];exact J) om]at u;cases u
   ·exact .inr C
 have e:∀ b q B,O b=some q->Cz os S k b B->Z.blk b=some B:=by
  intro b q B u A;have h0:b<(S 0).n:=by
   rcases m b q u with h|h
   ·exact h
   ·rcases A with⟨c,_⟩|⟨j,_,d,_,p,_⟩
    ·have:=(I8 l g (i:=k) (j:=os.size) D nL).n;omega
    ·have:=(I8 l g (i:=j+1) (j:=os.size) om nL).n;omega
  rcases A with⟨c,d⟩|⟨j,g1,H,V,g4,g5⟩
  ·rw[<- z];show ob ((S 0).h.get b) _=_;rw[<- sm b h0];exact d
  ·have:=(I8 l g (i:=0) (j:=j) (BH _) om).n;omega
 refine⟨D,fun j c d=>absurd d (K j (BH _) c),fun h=>⟨m4 h,y k⟩,fun j _ _ _=>y j,fun j h=>absurd h (y j),fun _ _=>rfl,?_,Place.le_refl _,?_,rfl,rfl,
  fun b q B c d=>f.IQ b q B c (e b q B c d),f.dom,fun b q B c d p=>f.own b q B c (e b q B c d) p,?_,f.low,Bh _,fun _ _ _=>rfl,?_,.refl _,fun b c _=>sm b c,fun j _ _=>y j,?_⟩
 ·intro i hi _ b c d;have g1:=(I8 l g (i:=0) (j:=i) (BH _) om).n;have H:=(I8 l g (i:=i+1) (j:=os.size) om nL).n;exact W b (by rw[<- z];omega) om
 ·intro t i hi c d v X;have hz:(F i).get t=(F 0).get t:=Sf g (BH _) hi fun j o _ I E s=>y j (c j o I E s);rw[hz,f1]at X;exact sj t v X
 ·intro b q B R Y c d p I E s;refine f.sep b q B R Y c (e b q B c d) p I E ?_;rcases s with s|⟨M,s⟩
  ·have:=(I8 l g (i:=0) (j:=os.size) (BH _) nL).n;rw[z]at this;exact .inl om
  ·exact .inr ⟨M,e R Y M E s⟩
 ·intro b q B c d _;exact⟨b,q,B,c,rfl,by rw[z];exact e b q B c d,fun h=>h⟩
 ·intro i hi _ b c d;exact FQ l g d om D fun j _ H V=>absurd V (K j (BH _) H)
def AB3 {l:List Oper}{i:Nat}:l.toArray[i]? =l[i]? :=sI
def Wa (hm:P.follows .mixedOrders=true){call:Y4}(hC:BE P B8 G call){os:Array Oper}{n id:Nat}{fr:Fr}{Z:St}{v:Res}(h:Rj P call os.toList fr Z=some v) :
  Adv Z v.Z/\((∀ o∈os.toList,As P n G o=true)->∀ lo tl O a w N rl,Rel B8 O Z w->Co O Z.n N->v.Z.n<=N->FD O fr a->n<=a.tmps.size->Marks lo w tl a.defers->Bw O G ->
   ∀ Q:Exit->Act->World->Prop,dN B8 lo tl O Z w a v Q->(Code.region id os true).wpIn (FW rl) 0 P Q a w):=by
 obtain⟨g,hg,h⟩:=A8 h;obtain⟨hn0,h⟩:=H9 h;obtain⟨r0,-,h⟩:=A8 h;obtain⟨kv,-,h⟩:=A8 h;obtain⟨V,hV,h⟩:=A8 h;obtain⟨hok,h⟩:=H9 h;obtain⟨⟨frE,ZE,ds,p⟩,FN,h⟩:=A8 h;obtain⟨hrd,h⟩:=H9 (show bb (BV _ ds ds&&p.isNone) (ob (frE.get g.key) fun D=>bb (veq D kv) (some ⟨.normal,frE,ZE⟩))=some v from h);obtain⟨D,BH5,h⟩:=A8 h;obtain⟨BH6,h⟩:=H9 h;cases h;obtain rfl:=fL BH6;rw[R2]at hrd hok hn0;obtain⟨hrd,hpn⟩:=hrd;obtain rfl:p=none:=by simpa using hpn
 obtain⟨C,hD⟩:=hok;obtain⟨a0,a1,a2,a3,a4,a5,a6,a7,a8,N7,hH⟩:=AB4 hg;generalize hl:os.toList=l at *;have u:Et l V=a0::a1::FK a2::FK a3::FK a4::FK a5::a6::a7::Va a8 V::N7:=by rw[hH.eq];rfl
 have Rc:N0 P call (Et l V).toArray (Et l V).toArray.toList 0 fr Z []=some ⟨frE,ZE,ds,none⟩:=FN;generalize B:(Et l V).toArray=os' at *;obtain⟨F,S,r,z,_,f1,f2,b4,K,f6,f7⟩:=aL os'.toList 0 fr Z [] _ rfl (BH _) Rc;obtain⟨rfl,f3,f4⟩:z=os'.size/\F os'.size=frE/\S os'.size=ZE:=by
  rcases b4 with⟨g1,_,g3,g4⟩|⟨g1,g2,o,s,g3,g4,g5⟩
  ·exact⟨g1,g3,g4⟩
  ·cases g4
 have rf:Adv Z ZE:=by rw[<- f2,<- f4];exact I8 hC K (BH _) nL
 refine⟨rf,fun KK lo tl O a w N rl hR hF hN sj hn R hG Q hQ=>?_⟩;have E:∀ i,os[i]? =l[i]? :=fun i=>by rw[<- hl,Array.getElem?_toList]
 have y:∀ i,os'[i]? =(a0::a1::FK a2::FK a3::FK a4::FK a5::a6::a7::Va a8 V::N7)[i]? :=fun i=>by rw[<- B,AB3,u]
 have q:∀ i,os[i]? =(a0::a1::a2::a3::a4::a5::a6::a7::a8::N7)[i]? :=fun i=>by rw[E,hH.eq]
 have A:∀ (i:Nat) (o:Oper),os[i]? =some o->As P n G o=true:=fun i o c=>KK o (by rw[E]at c;exact Ag c);have jU:∀ o:Oper,As P n G (FK o)=true:=fun _=>rfl;have a9:∀ o:Oper,As P n G o=true->As P n G (Va o V)=true:=by
  intro o c;unfold As at c ⊢;rw[R2]at c ⊢;exact⟨c.1,rfl⟩
 have hO:∀ (i:Nat) (o:Oper),os'[i]? =some o->As P n G o=true:=by
  intro i o c;rw[y]at c
  match i,c with
  |0,c=>cases c;exact A 0 _ (by rw[q];rfl)
  |1,c=>cases c;exact A 1 _ (by rw[q];rfl)
  |2,c=>cases c;exact jU _
  |3,c=>cases c;exact jU _
  |4,c=>cases c;exact jU _
  |5,c=>cases c;exact jU _
  |6,c=>cases c;exact A 6 _ (by rw[q];rfl)
  |7,c=>cases c;exact A 7 _ (by rw[q];rfl)
  |8,c=>cases c;exact a9 _ (A 8 _ (by rw[q];rfl))
  |i+9,c=>exact A (i+9) _ (by rw[q];exact c)
 have hX:Ctx P B8 G n call os' F S r os'.size:=by
  refine⟨hC,hO,Pp hD,K,?_,by rw[f2];exact hR.fresh⟩;intro i b j s s' h1 h2 h3 h4 hi hj;rcases VX hrd ((f7 i s (BH _) hi h1).1 b h2) ((f7 j s' (BH _) hj h3).2 h4)with L|L
  ·left;change bi (Nat.testBit ((Region.before os').toList.getD j 0) i) true (Nat.testBit ((Region.before os').toList.getD i 0) j)=true at L;cases hb:Nat.testBit ((Region.before os').toList.getD j 0) i with
   |true=>exact .inl hb
   |false=>rw[hb]at L;exact .inr L
  ·right;intro X;rcases L X with h6|h6
   ·rcases(HN hC K hj).1.ver b.b X with h7|h7
    ·exact(TD h7).symm
    ·omega
   ·exact h6
 unfold Au5 at C;simp only[R2,GY]at C;obtain⟨q1,H,Y,I⟩:=C;rw[hH.eq]at I;change tV a8 g.key (Et (a0::a1::a2::a3::a4::a5::a6::a7::a8::N7) V) 0=true at I;rw[<- hH.eq,u]at I;rw[u]at H Y;have U:∀ (i:Nat) (o:Oper),os[i]? =some o->o.guard=none:=fun i o c=>by
  have:=(q1 o (by rw[E]at c;exact Ag c)).1
  simpa using this
 have W:∀ (j:Nat) (o:Oper),os'[j]? =some o->o.dst=some g.key->j<8/\Db a8 j=true:=fun j o c R=>by
  have:=AB2 I j o (by rw[<- y];exact c) R;rw[GK]at this;exact this
 have b6:os'.size=os.size:=by
  have e1:os'.size=(Et l V).length:=by rw[<- B];simp
  have e2:os.size=l.length:=by rw[<- hl];simp
  rw[e1,e2,u,hH.eq];rfl
 obtain⟨b0,b3,kt,el,b1,b2,r1,r2,v1,v2,v3,v4,v5,v6,v7,v8,v9,b7,b8,b9,c0⟩:=tW hV;have d2:=A 2 a2 (by rw[q];rfl);have d5:=A 5 a5 (by rw[q];rfl);have b5:GhX P B8 G n call os os' F S r g V D b0 b3 a8:=by
  refine⟨hX,b6,?_,?_,U,fun j o c=>?_,?_,⟨a2,by rw[q];rfl,by rw[y];rfl,hH.d2,hH.o2⟩,⟨a3,by rw[q];rfl,by rw[y];rfl,hH.d3,hH.o3,hH.e32⟩,⟨a4,by rw[q];rfl,by rw[y];rfl,hH.d4,hH.o4,hH.e42⟩,⟨a5,by rw[q];rfl,by rw[y];rfl,hH.d5,hH.o5,hH.e53,hH.e54⟩,
   ⟨by rw[q];rfl,by rw[y];rfl,hH.o8,hH.e85⟩,W,?_,Sj d2 _ hH.d2,Sj d5 _ hH.d5,?_,⟨kt,el,b1,b2,r1,r2,v1,v2,v3,v4,v5,v6,v7,v8,v9,b7,b8,b9⟩,c0⟩
  ·intro i o i2 i3 i4 i5 i8 c;rw[q]at c;rw[y]
   match i,c with
   |0,c=>exact c
   |1,c=>exact c
   |2,c=>exact absurd rfl i2
   |3,c=>exact absurd rfl i3
   |4,c=>exact absurd rfl i4
   |5,c=>exact absurd rfl i5
   |6,c=>exact c
   |7,c=>exact c
   |8,c=>exact absurd rfl i8
   |i+9,c=>exact c
  ·intro i o o' c d;have f:=U i o c;rw[q]at c;rw[y]at d
   match i,c,d with
   |0,c,d=>cases c;cases d;exact⟨rfl,f⟩
   |1,c,d=>cases c;cases d;exact⟨rfl,f⟩
   |2,c,d=>cases c;cases d;exact⟨rfl,f⟩
   |3,c,d=>cases c;cases d;exact⟨rfl,f⟩
   |4,c,d=>cases c;cases d;exact⟨rfl,f⟩
   |5,c,d=>cases c;cases d;exact⟨rfl,f⟩
   |6,c,d=>cases c;cases d;exact⟨rfl,f⟩
   |7,c,d=>cases c;cases d;exact⟨rfl,f⟩
   |8,c,d=>cases c;cases d;exact⟨rfl,f⟩
   | i+9,c,d=>
     have e:o=o':=z8z (c.symm.trans d);subst e;exact⟨rfl,f⟩
  ·rw[y]at c;exact⟨PE (H o (Ag c)),PE (Y o (Ag c))⟩
  ·rw[f1];exact⟨by simpa using hn0.1,by simpa using hn0.2⟩
  ·rw[<- Sf K (t:=g.key) (p:=8) (m:=os'.size) (by
    have e1:os'.size=(Et l V).length:=by rw[<- B];simp
    rw[e1,u];simp) nL (fun j o h1 _ c R=>by have:=(W j o c R).1;omega),f3]
   exact BH5
  ·have:=(q1 a2 (by rw[hH.eq];simp)).2;intro he;rw[he]at this;simp at this
 refine wpIn_region_any hm ?_;obtain⟨k,m1,m2,m3,m4⟩:=Ng r os'.size os'.size 0 om;have M:Rel B8 O Z w.drew:=hR.heap rfl;have J:∀ j,¬ (Array.replicate os.size false).getD j false=true:=by
  intro j;rw[IH,Array.getElem?_replicate];split<;>simp
 refine fM (O₀:=O) (a₀:=a) (w₀:=w.drew) b5 hn hG M.low.1 (Q:=Q) (fun O' a' w' q1 H Y I q5=>?_) os.size _ O a w.drew k (by simp) (by simp) ?_ ?_
 ·rw[f4]at q1 H;rw[f2]at H;rw[f3]at Y;exact hQ .normal a' w' O' rfl q1 H.drew Y I (by rw[q5];exact R.QO hR H.drew)
 ·exact me hC f1 f2 K (by rw[f4];exact Bh _) M hF hN sj m2 m3 m4 _ J
 ·exact⟨fun h=>absurd h (J 3),fun h=>absurd h (J 4),fun h=>absurd h (J 5),fun h=>absurd h (J 2)⟩
end
end Go.Ab
namespace Go.Ab
open Go
section
variable {P:Program}{B8:Env}{G:Nat}
def LO {w:World}{l:Nat}{r:Loop}(h:w.heap[l]? =some (.loop r)) (fn:FuncId) (tmps:Array Value) (ps:Array Tmp) (assign body:Code) :
  (Instr.enterLoop fn tmps ps assign body (some l)).run P w =
    .ok (w.heap.size,[]) (w.alloc (.loop { state:= .ready,pending:=none,fn,tmps,params:=ps,assign,body,defers:=r.defers })):=by
 unfold Instr.enterLoop;simp only[Sem.run_bind,run_newObj_alloc,Result.andThen,Sem.run_pure,run_getLoop h]
def alloc_old {w:World}{o:Obj}{c:Nat}(h:c<w.heap.size):(w.alloc o).heap[c]? =w.heap[c]? :=RowKit.Below.heap_alloc w o c h
def nt {s:LoopState}(h:Tl s=false):s≠ .busy:=by
 intro he;subst he;cases h
def pj {call:Y4}(hC:BE P B8 G call) (FC:∀ n c,B8.chk n c=codeOk P n G c){rd:Option Nat}{f:Operand}{ps:Array Tmp}{assign body:Code}{fr:Fr}{Z:St}{res:Res}(h:eW P call rd f ps.toList assign body fr Z=some res) :
  Adv Z res.Z/\∀ n,codeOk P n G (.rangeFunc f ps assign body)=true->∀ lo tl O a w N rl,lo<=w.heap.size->Rel B8 O Z w->Co O Z.n N->res.Z.n<=N->FD O fr a->n<=a.tmps.size->Marks lo w tl a.defers->Bw O G->dM O rd rl ->
   ∀ Q:Exit->Act->World->Prop,dN B8 lo tl O Z w a res Q->(Code.rangeFunc f ps assign body).wpIn (FW rl) 0 P Q a w:=by
 obtain⟨h1,k1⟩:=H9 h;obtain⟨u,h2,k2⟩:=A8 k1;obtain⟨⟨t,first,captured⟩,h3,k3⟩:=A8 k2;obtain⟨g,h4,k4⟩:=A8 (show ob (AR4 t) _=some res from k3);obtain⟨h5,k5⟩:=H9 k4;obtain⟨⟨p,cv,Z2⟩,h6,k6⟩:=A8 k5;clear h k1 k2 k3 k4 k5;have ht:t= .fn g:=by
  cases t with
  |fn g'=>cases h4;rfl
  |yld b=>cases h4
 subst ht;cases p with
 |true=>cases k6
 | false =>
   obtain⟨L,h7,k7⟩:=A8 (show ob (Z2.JH Z.n) _=some res from k6);obtain⟨lfr,lps,las,lbd,lst,Ps⟩:=L;have k7:bi (Tl lst) none (ob (Z2.Bc Z.n .exhausted Ps) fun Z=>ob (bw Ps) fun o=>some ⟨o,fr,Z⟩)=some res:=k7;obtain⟨h8,k8⟩:=Kh k7;obtain⟨Z3,h9,k9⟩:=A8 k8;obtain⟨o,h10,k10⟩:=A8 k9;clear k6 k7 k8 k9;cases k10;obtain⟨c1,c2⟩:=hC _ _ _ _ h6;have a3:=PC h9;refine⟨((Adv.new _ _ _).trans c1).trans a3,fun n hc lo tl O a w N rl hlo hR hF hN hr hn hd hG hrd Q hQ=>?_⟩;obtain⟨hc1,hc'⟩:=R8 (show bi (KA G f) (bi (ps.toList.all fun p=>Nat.blt p n) (bi (codeOk P n G assign) (codeOk P n G body) false) false) false=true from hc);obtain⟨hc2,hc'⟩:=R8 hc';obtain⟨hc3,hc4⟩:=R8 hc';rw[GY]at hc2;have hN2:Z2.n<=N:=j9 a3.n hN;have hN1:Z.n+1<=N:=j9 c1.n hN2;have Hc:O Z.n=none:=hF Z.n nL om;have hu:=dP (a:=a) hG hc1 (fun t _ v hv=>hr t v hv) h2;obtain⟨BC,O9,hfv,r1,r2⟩:=Zl hu h3;have hfv:a.eval f= .func (.func g) ⟨BC⟩ ⟨O9⟩:=hfv;refine wpIn_rangeFunc fun nu _=>?_
   have BJ4:∃ l mark w1 rec,(Instr.enterLoop nu a.tmps ps assign body (FW rl).round).run P w= .ok (l,mark) w1/\w1.heap[l]? =some (.loop rec)/\w.heap.size<=l/\l<w1.heap.size/\w.heap.size<=w1.heap.size /\
     (∀ c,c<w.heap.size->w1.heap[c]? =w.heap[c]?)/\Outside w w1/\Marks lo w1 tl (mark++a.defers) /\
     rec.state= .ready/\rec.pending=none/\rec.params=ps/\rec.assign=assign/\rec.body=body/\rec.tmps=a.tmps:=by
    cases rl with
    | none=>
      refine⟨_,_,_,{ state:= .ready,pending:=none,fn:=nu,tmps:=a.tmps,params:=ps,assign,body,defers:=w.heap.size },run_enterLoop_outer (P:=P) (w:=w) nu a.tmps ps assign body,?_,?_,?_,?_,?_,⟨rfl,rfl,rfl⟩,?_,rfl,rfl,rfl,rfl,rfl,rfl⟩
      ·have:=World.alloc_heap_new (w.alloc (.deferred (some []))) (.loop { state:= .ready,pending:=none,fn:=nu,tmps:=a.tmps,params:=ps,assign,body,defers:=w.heap.size });rw[World.size_alloc]at this;exact this
      ·omega
      ·rw[World.size_alloc,World.size_alloc];omega
      ·rw[World.size_alloc,World.size_alloc];omega
      ·intro c hcc;rw[alloc_old (by rw[World.size_alloc];omega),alloc_old hcc]
      ·obtain⟨Ds,m1,m2,m3⟩:=hd;have hlt:∀ D∈Ds,D<w.heap.size:=by
        intro D hD;have:=(m3 D hD).2;rcases AU D w.heap.size with hh|hh
        ·exact hh
        ·rw[Array.getElem?_eq_none hh]at this;cases this
       refine⟨w.heap.size::Ds,by rw[m1];rfl,List.nodup_cons.2 ⟨fun hm=>by have:=hlt _ hm;omega,m2⟩,fun D hD=>?_⟩;rcases W1.1 hD with rfl|hD
       ·refine⟨hlo,?_⟩;rw[alloc_old (by rw[World.size_alloc];omega)];exact World.alloc_heap_new _ _
       ·refine⟨(m3 D hD).1,?_⟩;have:=hlt D hD;rw[alloc_old (by rw[World.size_alloc];omega),alloc_old this];exact(m3 D hD).2
    | some l0=>
      cases rd with
      |none=>cases hrd
      | some b0=>
        obtain⟨q0,g1,g2⟩:=hrd;cases g2;obtain⟨L0,hL0⟩:=Option.isSome_iff_exists.1 (show(Z.JH b0).isSome=true from h1);obtain⟨r0,hr0⟩:=hR.loop g1 hL0;refine⟨_,_,_,{ state:= .ready,pending:=none,fn:=nu,tmps:=a.tmps,params:=ps,assign,body,defers:=r0.defers },LO (P:=P) hr0.UB nu a.tmps ps assign body,World.alloc_heap_new _ _,Bh _,?_,?_,?_,⟨rfl,rfl,rfl⟩,?_,rfl,rfl,rfl,rfl,rfl,rfl⟩
        ·rw[World.size_alloc];omega
        ·rw[World.size_alloc];omega
        ·intro c hcc;exact alloc_old hcc
        ·obtain⟨Ds,m1,m2,m3⟩:=hd;refine⟨Ds,m1,m2,fun D hD=>⟨(m3 D hD).1,?_⟩⟩;have h:=(m3 D hD).2;have hlt:D<w.heap.size:=by
          rcases AU D w.heap.size with hh|hh
          ·exact hh
          ·rw[Array.getElem?_eq_none hh]at h;cases h
         rw[alloc_old hlt];exact h
   obtain⟨l,mark,w1,rec,hen,BJ5,hl1,hl2,hsz,hold,BJ6,hmarks,e1,e2,e3,e4,e5,e6⟩:=BJ4;have tI:Hf B8 (O.put Z.n ⟨l,0,0⟩) w1 l fr ps.toList assign body .ready none rec:=by
    refine⟨BJ5,e1,e2,by rw[e3],e4,e5,fun t v hv=>?_,fun p hp=>?_,n,by rw[e6];exact hn,by rw[FC];exact hc3,by rw[FC];exact hc4⟩
    ·obtain⟨v',g1,g2⟩:=hr t v hv;exact⟨v',by rw[e6];exact g1,g2.mono (Place.Hz _ Hc)⟩
    ·have:=hc2 p hp;rw[BW]at this;rw[e6];omega
   obtain⟨R1,F1⟩:=hR.Dt (cs:=[]) (k:= .loop fr ps.toList assign body .ready none) Hc hl1 hl2 hsz hold BJ6 (.loop rfl tI);have AG7:O.le (O.put Z.n ⟨l,0,0⟩):=Place.Hz _ Hc;have hy:I0 (O.put Z.n ⟨l,0,0⟩) (.func (.yield Z.n) #[] #[]) (.func (.yield l) #[] #[]):= .yld (q:=⟨l,0,0⟩) (Place.R0 _ _ _);have vU:Co (O.put Z.n ⟨l,0,0⟩) (Z.n+1) N:=by
    intro b g1 g2;rw[Place.Ak _ _ om];exact hF b om g2
   obtain⟨fd,d1,d2,d3⟩:=c2 _ w1 (BC++[.func (.yield l) #[] #[]]++O9) N R1 vU hN2 (hG.mono AG7) (F8.append (r2.mono AG7) (F8.append (.cons hy .nil) (r1.mono AG7)));have AR5:fd.body.isSome=true:=by
    unfold RB at h5;rw[d1]at h5;exact h5
   have Dy:((⟨BC⟩:Array Value)++#[.func (.yield l) #[] #[]])++⟨O9⟩=⟨BC++[.func (.yield l) #[] #[]]++O9⟩:=by
    rw[<- SC];simp
   have FN:(callFunc g ⟨BC++[.func (.yield l) #[] #[]]++O9⟩).run P w1= .ok (.enter g ⟨BC++[.func (.yield l) #[] #[]]++O9⟩) w1:=by
    have hn0:fd.body.isNone=false:=by cases hb:fd.body with|none=>rw[hb]at AR5;cases AR5|some c=>rfl
    simp only[callFunc,Sem.run_bind,run_program,Result.andThen_ok,d1,d2,hn0,Je,GZ,Sem.run_pure]
   rcases d3 with⟨_,d3⟩|⟨v',d3,_⟩
   ·refine⟨l,mark,w1,{ target:= .fn (.func g) ⟨O9⟩,args:=(⟨BC⟩:Array Value)++#[.func (.yield l) #[] #[]] },w1,g,(((⟨BC⟩:Array Value)++#[.func (.yield l) #[] #[]])++⟨O9⟩),w1,hen,?_,fun _ _=>trivial,?_,fun h=>(nomatch h),?_⟩
    ·have MT:Array.map a.eval #[Operand.const (Value.func (Fn.yield l) #[] #[])]=#[Value.func (Fn.yield l) #[] #[]]:=by simp[Act.eval]
     simp only[resolve,hfv,Deferred.ofValue,MT];rfl
    ·show(callFunc g (((⟨BC⟩:Array Value)++#[.func (.yield l) #[] #[]])++⟨O9⟩)).run P w1=_;rw[Dy];exact FN
    ·rw[Dy];refine(callsIn_wide (n:=0)).2 (d3.mono ?_);rintro en w' ⟨v',O',rfl,q1,q2,q3⟩;have zw:=q2.le (Z:=Z.Dt [] _) vU hN2;have hq:O' Z.n=some ⟨l,0,0⟩:=zw _ _ (Place.R0 _ _ _);obtain⟨r3,hL3⟩:=q1.loop hq h7;obtain⟨t1,t2⟩:=q1.Bc hq h9 h7 hL3;have BJ7:r3.state≠ .busy:=by
      have:r3.state=lst:=hL3.hst;rw[this];exact nt h8
     have vV:r3.pending=Ps:=hL3.Ye;have hfr:Y6 O Z w O' Z3 (w'.putObj l (.loop { r3 with state:= .exhausted,pending:=Ps })):=(F1.trans q2).trans t2;have MQ:=run_endLoop (P:=P) hL3.UB BJ7;have BJ8:({ r3 with state:= .exhausted }:Loop)={ r3 with state:= .exhausted,pending:=Ps }:=by rw[<- vV]
     rw[BJ8]at MQ;refine⟨_,_,MQ,?_⟩;rw[vV];have hm3:Marks lo (w'.putObj l (.loop { r3 with state:= .exhausted,pending:=Ps })) tl (mark++a.defers):=(hmarks.QO R1 q2).QO q1 t2;have Aw3:FD O' fr { a with defers:=mark++a.defers }:=(hr.mono (Place.le_trans AG7 zw):FD O' fr a)
     have vW:∀ e,ExR O' o e->Q e { a with defers:=mark++a.defers } (w'.putObj l (.loop { r3 with state:= .exhausted,pending:=Ps })) :=
      fun e he=>hQ e _ _ O' he t1 hfr Aw3 rfl hm3
     unfold bw at h10;split at h10
     ·cases h10;exact vW _ rfl
     ·cases h10;exact wpIn_ret (vW _ rfl)
     ·cases h10;exact wpIn_exit (vW _ rfl)
     ·cases h10
   ·rw[FN]at d3;cases d3
end
section
variable {O:Place}{Z:St}{w:World}{H:EV}
section
variable {P:Program}{B8:Env}{G:Nat}
def Rel.shut (a:Rel B8 O Z w){D:Nat}{x:Option (List Deferred)}(g:w.heap[D]? =some (.deferred x)) (j:B8.lo<=D) (o:Obj):Rel B8 O Z (w.putObj D o):=by
 have f:∀ b q B,O b=some q->Z.blk b=some B->q.c≠D:=by
  intro b q B d e i;subst i;exact(a.IQ b q B d e).NB g
 refine⟨a.fresh,fun b q B d e=>(a.IQ b q B d e).mono (Place.le_refl _) (World.putObj_heap_other (f b q B d e)),fun b q h=>by rw[World.putObj_size];exact a.dom b q h,a.own,a.sep,a.low.next (by rw[World.putObj_size];exact Bh _) fun c k=>World.putObj_heap_other om⟩
def Y6.close {b:Place}{Z':St}{w' a:World}(h:Y6 O Z w b Z' w') (f:∀ c,c<w.heap.size->a.heap[c]? =w'.heap[c]?) (i:a.heap.size=w'.heap.size) (g:Outside w' a):Y6 O Z w b Z' a :=
 ⟨h.ext,h.n,by rw[i];exact h.size,fun c d e=>by rw[f c d];exact h.I2 c d e,h.owned,h.out.trans g,h.same⟩
def Hh {fn:Func}{tmps:Array Value}{R:Ending->World->Prop}{lo:Nat}(d:B8.lo<=lo){u:FrameMode}(q:u≠ .run):∀ (Ds:List Nat) (w:World),Ds.Nodup->(∀ D∈Ds,lo<=D/\w.heap[D]? =some (.deferred (some [])))->Rel B8 O Z w ->
  (∀ w',Rel B8 O Z w'->(∀ c,c<lo->w'.heap[c]? =w.heap[c]?)->w'.heap.size=w.heap.size->Outside w w'->LeavesIn Fence.wide 0 P fn tmps R [] u w')->LeavesInM Fence.wide 0 P fn tmps R (Ds.map OW) u w:=by
 intro Ds;induction Ds with
 |nil=>intro w _ _ a k;exact k w a (fun _ _=>rfl) rfl (.refl _)
 | cons D Ds ih=>
   intro w p e a k;obtain⟨r,s⟩:=List.nodup_cons.1 p;obtain⟨d1,d2⟩:=e D (by simp);refine⟨q,.inl ⟨D,_,rfl,run_takeDeferred d2,ih _ s (fun E f=>?_) (a.shut d2 (j9 d d1) _) fun w' i j l m=>k w' i (fun c n=>?_) ?_ ?_⟩⟩
   ·obtain⟨g,h⟩:=e E (by simp[f]);refine⟨g,?_⟩;rw[World.putObj_heap_other (fun o=>r (by rw[<- o];exact f))];exact h
   ·rw[j c n,World.putObj_heap_other om]
   ·rw[l,World.putObj_size]
   ·exact Outside.trans (b:=w.putObj D (.deferred none)) ⟨rfl,rfl,rfl⟩ m
def Yl {F:Fence}{n:Nat}{Q:Exit->Act->World->Prop}{a:Act}{c:Code}(h:c.wpIn F n P (fun e a w=>(∀ l,e≠ .goto l)/\Q e a w) a w):(Code.scope c).wpIn F n P Q a w:=by
 intro b k cs s o q;have i:(lone (b.atR a (.code (.scope c)::k)) cs w).fenced P F:=fenced_calm o q rfl;have j:_root_.Go.step P (lone (b.atR a (.code (.scope c)::k)) cs w)= .next (lone (b.atR a (.code c:: .inScope c::k)) cs w):=step_lone_go (by simp[stepG,stepG.exec,Frame.atR]);obtain⟨e,d,f,⟨v,m⟩,g⟩:=h b (.inScope c::k) cs s o q;cases e with
 |normal=>exact⟨.normal,d,f,m,.head i j (StepsIn.trans g (.one (fenced_calm o q rfl) (step_lone_go (by simp[stepG,stepG.exec,Frame.atR]))))⟩
 | exit id=>
   have u:exitTo id (.inScope c::k)=exitTo id k:=by simp[exitTo]
   exact⟨_,d,f,m,fun y p=> .head i j (g.1 y (by rw[u];exact p)),
    fun r p=>let ⟨k₁,g1,g2⟩:=g.2 r (by rw[u];exact p);⟨k₁,g1,.head i j g2⟩⟩
 |goto l=>exact absurd rfl (v l)
 |ret=>exact⟨_,d,f,m,.of_steps (.one i j) g⟩
 |panic z=>exact⟨_,d,f,m,.of_steps (.one i j) g⟩
 |outgrown=>exact⟨_,d,f,m,.of_steps (.one i j) g⟩
def Jz (P:Program) (B8:Env) (G:Nat) (H:EV):Prop :=
 ∀ g s,H g=some s->∀ run,OX P B8 G run->∀ vs Z r,s.f run vs Z=some r->Adv Z r.Z/\∀ O w vs' N,Rel B8 O Z w->Co O Z.n N->r.Z.n<=N->Bw O G->F8 O vs vs'->CW P B8 O g vs' Z w r
def LR {run:RunT}(L:OX P B8 G run) (FC:∀ n c,B8.chk n c=codeOk P n G c) (hP:Gd P H G P.funcs.toList 0=true) (hH:Jz P B8 G H):BE P B8 G (DY P H run):=by
 intro t m Z r h;cases t with
 |yld b=>exact pg L FC (show Ym run b m Z=some r from h)
 | fn g=>
   have h:PT P H run g m Z=some r:=h;unfold PT at h;cases B:H g with
   |some s=>rw[B]at h;exact hH g s B run L m Z r h
   | none =>
     rw[B]at h;obtain⟨fn,q,p⟩:=A8 (show ob (P.funcs[g]?) _=some r from h);clear h;have a:=Yn hP g fn (by rw[<- Array.getElem?_toList]at q;exact q) (by rw[GK];exact B);unfold WZ at a;cases C:(fn.name== "runtime.NumGoroutine")with
     |true=>rw[C]at a;cases a
     | false=>
       rw[C]at a;cases A:fn.body with
       | none=>
         rw[A]at p;obtain⟨I,l⟩:=H9 (show bb (Ul m) _=some r from p);obtain⟨u,h4,h5⟩:=A8 l;obtain⟨f,j⟩:=H9 h5;cases j;refine⟨.refl _,fun O w vs' N z hF hN hG D=>⟨fn,q,C,.inr ⟨u,?_,rfl,rfl,I0.out f⟩⟩⟩;have:=D.flat I;subst this;unfold LS at h4;split at h4
         ·rename_i x hx;cases h4;exact Fc _ hx w
         ·cases h4
       | some body=>
         rw[A]at p a;change codeOk P fn.ntmps G body=true at a;obtain⟨⟨o,F,d⟩,I,l⟩:=A8 (show ob (run none body (IA m 0 .nil) Z) (Hi P fn)=some r from p);clear p;obtain⟨g1,g2⟩:=L none body _ Z _ I;have M:r.Z=d/\((∃ us,Iw P F d fn.results.toList=some us/\r.v=tup us/\r.pan=false/\(o= .normal\/o= .ret))\/(r.pan=true/\o= .pan r.v)):=by
          cases o with
          |normal=>obtain⟨us,f,j⟩:=A8 (show ob (Iw P F d fn.results.toList) _=some r from l);cases j;exact⟨rfl,.inl ⟨us,f,rfl,rfl,.inl rfl⟩⟩
          |ret=>obtain⟨us,f,j⟩:=A8 (show ob (Iw P F d fn.results.toList) _=some r from l);cases j;exact⟨rfl,.inl ⟨us,f,rfl,rfl,.inr rfl⟩⟩
          |exit i=>cases l
          |pan v=>cases l;exact⟨rfl,.inr ⟨rfl,rfl⟩⟩
         obtain⟨R,M⟩:=M;obtain⟨rp,rv,rZ⟩:=r;cases(show rZ=d from R);refine⟨g1,fun O w vs' N z hF hN hG D=>⟨fn,q,C,.inl ⟨by rw[A];rfl,(callsIn_wide (n:=0)).1 (callsIn_of_wp_marks q A trivial ?_)⟩⟩⟩;have hl:=D.length;refine g2 fn.ntmps a w.heap.size [] O _ w N none nL z hF hN ?_ ?_ (.nil _ _ _) hG rfl _ fun e a' w' k q0 q1 q2 q3 q4 q5=>?_
         ·intro t u y;rw[Yo]at y;by_cases ht:0<=t/\t<0+m.length
          ·rw[z1z ht]at y;obtain⟨u',U,V⟩:=D.get y;refine⟨u',?_,V⟩;show((⟨vs'⟩:Array Value)++Array.replicate _ undef)[t]? =some u';rw[Array.getElem?_append_left (by simp;omega)]
           simpa using U
          ·rw[z0z ht]at y;cases y
         ·show fn.ntmps<=((⟨vs'⟩:Array Value)++Array.replicate (fn.ntmps-(⟨vs'⟩:Array Value).size) undef).size;rw[Ya,ga];omega
         ·obtain⟨Ds,m1,m2,m3⟩:=q5;rcases M with⟨us,f,j,J,K⟩|⟨J,K⟩
          ·cases(show rv=tup us from j);cases(show rp=false from J);have key:LeavesInM Fence.wide 0 P fn a'.tmps (fun e w'=>∃ v' k,e=ended false v'/\Rel B8 k d w'/\Y6 O Z w k d w'/\I0 k (tup us) v') a'.defers .returning w':=by
            rw[m1,Du];refine Hh z.low.1 (by simp) Ds w' m2 m3 q1 fun a0 E W X Y=>?_;obtain⟨v',U,V⟩:=IB (P:=P) E q3 f;exact⟨v',U,v',k,rfl,E,q2.close W X Y,V⟩
           rcases K with rfl|rfl
           ·cases(show e= .normal from q0);exact key
           ·cases(show e= .ret from q0);exact key
          ·cases(show rp=true from J);cases(show o= .pan rv from K);obtain⟨v',rfl,S⟩:=q0;show LeavesInM Fence.wide 0 P fn a'.tmps _ a'.defers (.panicking _) w';rw[m1,Du];refine Hh z.low.1 (by simp) Ds w' m2 m3 q1 fun a0 E W X Y=>?_;exact⟨v',k,rfl,E,q2.close W X Y,S⟩
def ph (P:Program) (B8:Env) (G:Nat) (run:RunT):Prop :=
 ∀ rd c fr Z res,run rd (.loop c) fr Z=some res->Adv Z res.Z/\∀ n,codeOk P n G c=true->∃ m,∀ lo tl O a w N rl,lo<=w.heap.size->Rel B8 O Z w->Co O Z.n N->res.Z.n<=N->FD O fr a->n<=a.tmps.size->Marks lo w tl a.defers->Bw O G->dM O rd rl ->
  ∀ Q:Exit->Act->World->Prop,dN B8 lo tl O Z w a res Q->Code.roundsIn (FW rl) 0 P c Q m a w
def xu (hm:P.follows .mixedOrders=true)(FC:∀ n c,B8.chk n c=codeOk P n G c) (hP:Gd P H G P.funcs.toList 0=true) (hH:Jz P B8 G H):∀ f,OX P B8 G (exec P H f)/\ph P B8 G (exec P H f):=by
 intro f;induction f with
 | zero=>
   constructor
   ·intro R c L Z res h;cases h
   ·intro R c L Z res h;cases h
 | succ f ih=>
   obtain⟨a0,b0⟩:=ih;have hC:=LR (H:=H) a0 FC hP hH;have a7:ph P B8 G (exec P H (f+1)):=by
    intro R c L Z res h;obtain⟨⟨o,S,Z1⟩,h1,M⟩:=A8 (show ob (exec P H f R c L Z) (fun r=>Ar r (exec P H f R (.loop c)))=some res from h);obtain⟨X,U⟩:=a0 R c L Z _ h1;cases o with
    | normal=>
      change exec P H f R (.loop c) S Z1=some res at M;obtain⟨k1,k2⟩:=b0 R c S Z1 res M;refine⟨X.trans k1,fun n I=>?_⟩;obtain⟨m,k2⟩:=k2 n I;refine⟨m+1,fun lo s O a w N q b B j E g F D p d Q A=>?_⟩;have a1:Z1.n<=N:=j9 k1.n E;refine U n I lo s O a w N q b B j a1 g F D p d _ fun e a' w' W q0 q1 J Y V q5=>?_;cases(show e= .normal from q0);exact k2 lo s W a' w' N q (j9 b J.size) q1 (J.free j) E Y (by rw[V];exact F) q5 (p.mono (J.le j a1)) (d.mono (J.le j a1)) Q fun e a4 a6 a3 p0 p1 p2 p3 p4 p5=>A e a4 a6 a3 p0 p1 (J.trans p2) p3 (by rw[p4,V]) p5
    | exit i=>
      cases M;refine⟨X,fun n I=>⟨1,fun lo s O a w N q b B j E g F D p d Q A=>U n I lo s O a w N q b B j E g F D p d _ fun e a' w' W q0 q1 J Y V q5=>?_⟩⟩;cases(show e= .exit i from q0);exact A _ a' w' W rfl q1 J Y V q5
    | ret=>
      cases M;refine⟨X,fun n I=>⟨1,fun lo s O a w N q b B j E g F D p d Q A=>U n I lo s O a w N q b B j E g F D p d _ fun e a' w' W q0 q1 J Y V q5=>?_⟩⟩;cases(show e= .ret from q0);exact A _ a' w' W rfl q1 J Y V q5
    | pan v=>
      cases M;refine⟨X,fun n I=>⟨1,fun lo s O a w N q b B j E g F D p d Q A=>U n I lo s O a w N q b B j E g F D p d _ fun e a' w' W q0 q1 J Y V q5=>?_⟩⟩;obtain⟨v',rfl,hv⟩:=q0;exact A _ a' w' W ⟨v',rfl,hv⟩ q1 J Y V q5
   refine⟨?_,a7⟩;intro R c L Z res h;cases c with
   |skip=>cases h;exact⟨.refl _,fun n I lo s O a w N q b B j E g F D p d Q A=>wpIn_skip (A .normal a w O rfl B (.refl _ _ _) g rfl D)⟩
   |label l=>cases h;exact⟨.refl _,fun n I lo s O a w N q b B j E g F D p d Q A=>wpIn_label (A .normal a w O rfl B (.refl _ _ _) g rfl D)⟩
   |exit id=>cases h;exact⟨.refl _,fun n I lo s O a w N q b B j E g F D p d Q A=>wpIn_exit (A (.exit id) a w O rfl B (.refl _ _ _) g rfl D)⟩
   |ret=>cases h;exact⟨.refl _,fun n I lo s O a w N q b B j E g F D p d Q A=>wpIn_ret (A .ret a w O rfl B (.refl _ _ _) g rfl D)⟩
   | region id os draw=>
     cases draw with
     | false=>
       have h:opsV P (DY P H (exec P H f)) os os.toList L Z=some res:=h;have pl:=fun n=>kr (n:=n) hC os.toList L Z _ h;refine⟨(pl 0).1,fun n I lo s O a w N q b B j E g F D p d Q A=>?_⟩;obtain⟨C,K⟩:=R8 (show bi (os.toList.all (As P n G)) _ false=true from I);rw[GY]at C;exact wpIn_region_list ((pl n).2 C lo s O a w N q B j E g F D p Q A)
     | true=>
       have h:bi (Fo os.toList) (Rj P (DY P H (exec P H f)) os.toList L Z) (drawn os (N0 P (DY P H (exec P H f)) os os.toList 0 L Z []))=some res:=h;cases a5:Fo os.toList with
       | true=>
         rw[a5]at h;have pl:=fun n=>Wa (P:=P) (B8:=B8) (G:=G) (n:=n) hm hC (id:=id) h;refine⟨(pl 0).1,fun n I lo s O a w N q b B j E g F D p d Q A=>?_⟩;obtain⟨C,K⟩:=R8 (show bi (os.toList.all (As P n G)) _ false=true from I);rw[GY]at C;exact(pl n).2 (fun o ho=>C o ho) lo s O a w N q B j E g F D p Q A
       | false=>
         rw[a5]at h;have h:drawn os (N0 P (DY P H (exec P H f)) os os.toList 0 L Z [])=some res:=h;obtain⟨⟨S,Z1,ds⟩,h1,M⟩:=A8 h;obtain⟨h3,h4⟩:=H9 (show bb (BV (Region.before os).toList ds ds) _=some res from M);cases h4;have pl:=fun n=>Yp (P:=P) (B8:=B8) (G:=G) (n:=n) hm hC (id:=id) h1 h3;refine⟨(pl 0).1,fun n I lo s O a w N q b B j E g F D p d Q A=>?_⟩;obtain⟨C,K⟩:=R8 (show bi (os.toList.all (As P n G)) (bi true (bi (Fo os.toList) true (Rk os)) true) false=true from I);rw[a5]at K;rw[GY]at C;exact(pl n).2 (fun o ho=>C o ho) K lo s O a w N q B j E g F D p Q A
   | seq x y=>
     obtain⟨⟨o,S,Z1⟩,h1,M⟩:=A8 (show ob (exec P H f R x L Z) (fun r=>Ar r (exec P H f R y))=some res from h);obtain⟨X,U⟩:=a0 R x L Z _ h1;cases o with
     | normal=>
       change exec P H f R y S Z1=some res at M;obtain⟨k1,k2⟩:=a0 R y S Z1 res M;refine⟨X.trans k1,fun n I lo s O a w N q b B j E g F D p d Q A=>wpIn_seq ?_⟩;obtain⟨C,K⟩:=R8 (show bi (codeOk P n G x) (codeOk P n G y) false=true from I);have a1:Z1.n<=N:=j9 k1.n E;refine U n C lo s O a w N q b B j a1 g F D p d _ fun e a' w' W q0 q1 J Y V q5=>?_;cases(show e= .normal from q0);exact k2 n K lo s W a' w' N q (j9 b J.size) q1 (J.free j) E Y (by rw[V];exact F) q5 (p.mono (J.le j a1)) (d.mono (J.le j a1)) Q fun e a4 a6 a3 p0 p1 p2 p3 p4 p5=>A e a4 a6 a3 p0 p1 (J.trans p2) p3 (by rw[p4,V]) p5
     | exit i=>
       cases M;refine⟨X,fun n I lo s O a w N q b B j E g F D p d Q A=>wpIn_seq ?_⟩;obtain⟨C,K⟩:=R8 (show bi (codeOk P n G x) (codeOk P n G y) false=true from I);refine U n C lo s O a w N q b B j E g F D p d _ fun e a' w' W q0 q1 J Y V q5=>?_;cases(show e= .exit i from q0);exact A _ a' w' W rfl q1 J Y V q5
     | ret=>
       cases M;refine⟨X,fun n I lo s O a w N q b B j E g F D p d Q A=>wpIn_seq ?_⟩;obtain⟨C,K⟩:=R8 (show bi (codeOk P n G x) (codeOk P n G y) false=true from I);refine U n C lo s O a w N q b B j E g F D p d _ fun e a' w' W q0 q1 J Y V q5=>?_;cases(show e= .ret from q0);exact A _ a' w' W rfl q1 J Y V q5
     | pan v=>
       cases M;refine⟨X,fun n I lo s O a w N q b B j E g F D p d Q A=>wpIn_seq ?_⟩;obtain⟨C,K⟩:=R8 (show bi (codeOk P n G x) (codeOk P n G y) false=true from I);refine U n C lo s O a w N q b B j E g F D p d _ fun e a' w' W q0 q1 J Y V q5=>?_;obtain⟨v',rfl,hv⟩:=q0;exact A _ a' w' W ⟨v',rfl,hv⟩ q1 J Y V q5
   | cond x y z=>
     obtain⟨v,h1,M⟩:=A8 (show ob (ev L x) (fun v=>ob (bool? v) fun t=>bi t (exec P H f R y L Z) (exec P H f R z L Z))=some res from h);obtain⟨t,h3,h4⟩:=A8 M;have a8:∀ O (a:Act),KA G x=true->FD O L a->Bw O G->a.eval x= .bool t:=by
      intro O a a2 g p;have hv:=dP (a:=a) p a2 (fun u _ v hv=>g u v hv) h1;unfold bool? at h3;split at h3
      ·cases h3;generalize a.eval x=y at hv;cases hv;rfl
      ·cases h3
     cases t with
     | true=>
       obtain⟨X,U⟩:=a0 R y L Z res h4;refine⟨X,fun n I lo s O a w N q b B j E g F D p d Q A=>?_⟩;obtain⟨a2,hc'⟩:=R8 (show bi (KA G x) (bi (codeOk P n G y) (codeOk P n G z) false) false=true from I);obtain⟨C,K⟩:=R8 hc';exact wpIn_cond_true (a8 O a a2 g p) (U n C lo s O a w N q b B j E g F D p d Q A)
     | false=>
       obtain⟨X,U⟩:=a0 R z L Z res h4;refine⟨X,fun n I lo s O a w N q b B j E g F D p d Q A=>?_⟩;obtain⟨a2,hc'⟩:=R8 (show bi (KA G x) (bi (codeOk P n G y) (codeOk P n G z) false) false=true from I);obtain⟨C,K⟩:=R8 hc';exact wpIn_cond_false (a8 O a a2 g p) (U n K lo s O a w N q b B j E g F D p d Q A)
   | block id x=>
     obtain⟨⟨o,S,Z1⟩,h1,M⟩:=A8 (show ob (exec P H f R x L Z) (IC id)=some res from h);obtain⟨X,U⟩:=a0 R x L Z _ h1
     have key:∀ o',res=⟨o',S,Z1⟩->(∀ (O:Place) (e:Exit),ExR O o e->∀ (Q:Exit->Act->World->Prop) (a':Act) (w':World),(∀ e',ExR O o' e'->Q e' a' w')->Exit.inBlock id Q e a' w')->Adv Z res.Z/\∀ n,codeOk P n G (.block id x)=true->∀ lo s O a w N q,lo<=w.heap.size->Rel B8 O Z w->Co O Z.n N->res.Z.n<=N->FD O L a->n<=a.tmps.size->Marks lo w s a.defers->Bw O G->dM O R q ->
       ∀ Q:Exit->Act->World->Prop,dN B8 lo s O Z w a res Q->(Code.block id x).wpIn (FW q) 0 P Q a w:=by
      rintro o' rfl hk;refine⟨X,fun n I lo s O a w N q b B j E g F D p d Q A=>wpIn_block ?_⟩;exact U n I lo s O a w N q b B j E g F D p d _ fun e a' w' W q0 q1 J Y V q5=>hk W e q0 Q a' w' fun e' he=>A e' a' w' W he q1 J Y V q5
     cases o with
     | normal=>
       cases M;refine key .normal rfl fun O e he Q a' w' k=>?_;cases(show e= .normal from he);exact k .normal rfl
     | ret=>
       cases M;refine key .ret rfl fun O e he Q a' w' k=>?_;cases(show e= .ret from he);exact k .ret rfl
     | pan v=>
       cases M;refine key (.pan v) rfl fun O e he Q a' w' k=>?_;obtain⟨v',rfl,hv⟩:=he;exact k _ ⟨v',rfl,hv⟩
     | exit i=>
       change bi (Nat.beq i id) (some ⟨.normal,S,Z1⟩) (some ⟨.exit i,S,Z1⟩)=some res at M;cases hb:Nat.beq i id with
       | true=>
         rw[hb]at M;cases M;have:=Ai hb;subst this;refine key .normal rfl fun O e he Q a' w' k=>?_;cases(show e= .exit i from he);show(if i=i then Q .normal a' w' else Q (.exit i) a' w');rw[z1z rfl];exact k .normal rfl
       | false=>
         rw[hb]at M;cases M;refine key (.exit i) rfl fun O e he Q a' w' k=>?_;cases(show e= .exit i from he);show(if i=id then Q .normal a' w' else Q (.exit i) a' w');rw[z0z (fun he=>by subst he;simp at hb)];exact k (.exit i) rfl
   | loop x=>
     obtain⟨X,U⟩:=a7 R x L Z res h;refine⟨X,fun n I lo s O a w N q b B j E g F D p d Q A=>?_⟩;obtain⟨m,U⟩:=U n I;exact wpIn_loop_rounds m (U lo s O a w N q b B j E g F D p d Q A)
   |rangeFunc fn ps a9 b1=>exact pj hC FC h
   | scope x=>
     obtain⟨X,U⟩:=a0 R x L Z res (show exec P H f R x L Z=some res from h);refine⟨X,fun n I lo s O a w N q b B j E g F D p d Q A=>Yl ?_⟩;refine U n I lo s O a w N q b B j E g F D p d _ fun e a' w' W q0 q1 J Y V q5=>⟨fun l he=>?_,A e a' w' W q0 q1 J Y V q5⟩
     subst he;cases ho:res.o with
     |normal=>rw[ho]at q0;cases q0
     |exit i=>rw[ho]at q0;cases q0
     |ret=>rw[ho]at q0;cases q0
     |pan v=>rw[ho]at q0;obtain⟨v',h,_⟩:=q0;cases h
   |_=>cases h
def Yq (e:P.follows .mixedOrders=true)(a:∀ n c,B8.chk n c=codeOk P n G c) (d:Gd P H G P.funcs.toList 0=true) (b:Jz P B8 G H) (f:Nat):BE P B8 G (DY P H (exec P H f)) :=
 LR (xu e a d b f).1 a d b
end
end
end Go.Ab
