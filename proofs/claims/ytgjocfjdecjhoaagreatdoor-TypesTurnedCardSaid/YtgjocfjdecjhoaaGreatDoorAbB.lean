/- One operation of the abstract machine, of Hs kind. -/
import Derived.Test.YtgjocfjdecjhoaaGreatDoorAbA
import Derived.OrdersIn
import Derived.LoopNIn
import Derived.TacticsIn
import Derived.Below
set_option linter.unusedSimpArgs false
set_option linter.unusedVariables false
set_option linter.defProp false
set_option maxHeartbeats 32000000
set_option maxRecDepth 100000
namespace Go.Ab
open Go
section
variable {Z Z':St}{v:Value}{fr:Fr}{b:Nat}{x:Operand}{o:Oper}{O:Place}
structure Adv (Z Z':St):Prop where
 n:Z.n<=Z'.n
 ver:∀ b,b<Z.n->Z'.h.get b=Z.h.get b\/Z.ver b<Z'.ver b
 fresh:(∀ b,Z.n<=b->Z.h.get b=none)->∀ b,Z'.n<=b->Z'.h.get b=none
def Adv.refl (Z:St):Adv Z Z:=⟨BF _,fun _ _=> .inl rfl,fun h=>h⟩
def pF (h:Z'.h.get b=Z.h.get b):Z'.ver b=Z.ver b:=by unfold St.ver;rw[h]
def Adv.le (h:Adv Z Z')(hb:b<Z.n):Z.ver b<=Z'.ver b:=by
 rcases h.ver b hb with h1|h1
 ·rw[pF h1];exact BF _
 ·omega
def Adv.trans {Z'':St}(h:Adv Z Z') (k:Adv Z' Z''):Adv Z Z'':=by
 refine⟨AV h.n k.n,fun b hb=>?_,fun hf=>k.fresh (h.fresh hf)⟩;have hb':=z5z hb h.n;rcases k.ver b hb' with h2|h2
 ·rcases h.ver b hb with h1|h1
  ·exact .inl (h2.trans h1)
  ·exact .inr (by rw[pF h2];exact h1)
 ·exact .inr (Nat.lt_of_le_of_lt (h.le hb) h2)
def Adv.new (Z:St) (cs:List Value) (k:Kind:= .row none):Adv Z (Z.Dd cs k) :=
 ⟨Nat.le_succ _,fun b hb=> .inl (Tr.L7 _ _ om),fun hf b hb=>by
  change Z.n+1<=b at hb;show(Z.h.set Z.n _).get b=none;rw[Tr.L7 _ _ om];exact hf b om⟩
def Adv.set {B B':Blk}(hB:Z.blk b=some B) (hv:B'.ver=B.ver+1):Adv Z ⟨Z.h.set b B',Z.n⟩:=by
 refine⟨BF _,fun b' hb=>?_,fun hf b' hb=>?_⟩
 ·by_cases hbb:b'=b
  ·subst hbb;right;have h1:=(AH hB).1;have e1:Z.ver b'=B.ver:=by unfold St.ver;rw[h1]
   have e2:(⟨Z.h.set b' B',Z.n⟩:St).ver b'=B'.ver:=by
    show(match (Z.h.set b' B').get b' with|some B=>B.ver|none=>0)=_;rw[Tr.get_set_same]
   rw[e1,e2,hv];omega
  ·exact .inl (Tr.L7 _ _ hbb)
 ·change Z.n<=b' at hb;show(Z.h.set b B').get b'=none;have hbb:b'≠b:=by
   intro he;subst he;have:=hf b' hb;rw[(AH hB).1]at this;cases this
  rw[Tr.L7 _ _ hbb];exact hf b' hb
def Adv.write {off:Nat}{vs:List Value}(h:Z.write b off vs=some Z'):Adv Z Z':=by
 obtain⟨B,cs,h1,h2,h3,h4,rfl⟩:=JS h;exact .set (y9 h1).1 rfl
def Adv.kill (h:Z.kill b=some Z'):Adv Z Z':=by
 obtain⟨B,h1,h2,rfl⟩:=Gi h;exact .set (y9 h1).1 rfl
section
variable {P:Program}{B8:Env}{G:Nat}
def Bm (O:Place) (G:Nat):Prop:=∀ g,g<G->∃ m,O g=some ⟨g,0,m⟩/\(g=0->G=10->m=20)
def Bm.mono {O':Place}{G:Nat}(hm:O.le O') (h:Bm O G):Bm O' G:=fun g hg=>let ⟨m,h1,h2⟩:=h g hg;⟨m,hm _ _ h1,h2⟩
def ended (pan:Bool) (v':Value):Ending:=match pan with
 |true=> .panicked [{ v:=v',recovered:=false }]
 |false=> .returned v'
def cT (v':Value):Exit:= .panic [{ v:=v',recovered:=false }]
def FW (r:Option Nat):Fence:={ Fence.wide with round:=r }
def CG (P:Program) (B8:Env) (O:Place) (g:Nat) (vs':List Value) (Z:St) (w:World) (r:CR):Prop :=
 ∃ fn,P.funcs[g]? =some fn/\(fn.name== "runtime.NumGoroutine")=false /\
  ((fn.body.isSome=true/\Calls P g ⟨vs'⟩ w fun e w'=>∃ v' O',e=ended r.pan v'/\Rel B8 O' r.Z w'/\X9 O Z w O' r.Z w'/\H3 O' r.v v') \/
   (∃ v',(callFunc g ⟨vs'⟩).run P w= .ok (.value v') w/\r.Z=Z/\r.pan=false/\H3 O r.v v'))
def gJ (P:Program) (B8:Env) (O:Place) (l:Nat) (vs':List Value) (Z:St) (w:World) (r:CR):Prop :=
 ∃ f tmps assign body,(Instr.yield l ⟨vs'⟩).run P w= .ok (.round l f tmps assign body) w /\
  RoundIn Fence.wide 0 P l f tmps assign body w fun e w'=>∃ v' O',e=ended r.pan v'/\Rel B8 O' r.Z w'/\X9 O Z w O' r.Z w'/\H3 O' r.v v'
def Ai3 (P:Program) (B8:Env) (O:Place) (t:Tgt) (vs':List Value) (Z:St) (w:World) (r:CR):Prop:=match t with
 | .fn g=>CG P B8 O g vs' Z w r
 | .yld b=>∀ q,O b=some q->gJ P B8 O q.c vs' Z w r
def As (P:Program) (B8:Env) (G:Nat) (call:X6):Prop :=
 ∀ t vs Z r,call t vs Z=some r->Adv Z r.Z/\∀ O w vs' N,Rel B8 O Z w->Cc O Z.n N->r.Z.n<=N->Bm O G->E7 O vs vs'->Ai3 P B8 O t vs' Z w r
def pG (P:Program) (fr:Fr) (o:Oper) (v:Value):Prop:=∀ O e w,P4 O fr e o.op.operands.toList->BE P O e o w v
def NewFact (P:Program) (fr:Fr) (o:Oper) (cs:List Value) (vf:Nat->Value) (t:Option TypeId:=none):Prop:=∀ O e w,P4 O fr e o.op.operands.toList->It P O e o w cs vf t
def RN (P:Program) (fr:Fr) (Z:St) (o:Oper) (v:Value) (r:An):Prop :=
 (∃ cs,Z.read r.b r.off r.n=some cs)/\∀ O e w,P4 O fr e o.op.operands.toList->(∃ q,O r.b=some q)/\((∀ q cs,O r.b=some q->Z.read r.b r.off r.n=some cs->Seg O w q r.off cs)->BE P O e o w v)
def Vy (P:Program) (B8:Env) (G:Nat) (fr:Fr) (Z:St) (o:Oper) (v:Value) (Z':St):Prop :=
 Adv Z Z'/\DH o.op=true/\∀ O (a:Act) w N,P4 O fr a.eval o.op.operands.toList->Rel B8 O Z w->Cc O Z.n N->Z'.n<=N->Bm O G ->
  ∀ (rd:Option Nat) (next:Act->World->Prop) (Q:Exit->Act->World->Prop),(∀ v' w' O',Rel B8 O' Z' w'->X9 O Z w O' Z' w'->H3 O' v v'->next (a.put o.dst v') w')->o.wpIn (FW rd) 0 P a w next Q
def Vz (P:Program) (B8:Env) (G:Nat) (fr:Fr) (Z:St) (o:Oper) (v:Value) (Z':St):Prop :=
 Adv Z Z'/\∀ O (a:Act) w N,P4 O fr a.eval o.op.operands.toList->Rel B8 O Z w->Cc O Z.n N->Z'.n<=N->Bm O G ->
  ∀ (rd:Option Nat) (next:Act->World->Prop) (Q:Exit->Act->World->Prop),(∀ v' w' O',Rel B8 O' Z' w'->X9 O Z w O' Z' w'->H3 O' v v'->Q (cT v') a w')->o.wpIn (FW rd) 0 P a w next Q
def BS {rd:Option Nat}{a:Act}{w:World}{o:Oper}{next:Act->World->Prop}{Q:Exit->Act->World->Prop}(hd:∀ c,o.op≠ .defer c)
  (h:o.uponIn (FW rd) 0 P a next Q ((execOp a.eval o).run P w)):o.wpIn (FW rd) 0 P a w next Q:=by
 refine⟨fun _ _=>trivial,?_⟩;rw[Oper.semAt_eq _ _ _ hd];exact h
def Fe {fr:Fr}{Z Z':St}{o:Oper}{v:Value}(hd:∀ c,o.op≠ .defer c) (h1:Adv Z Z') (h2:DH o.op=true)
  (h3:∀ O e w N,P4 O fr e o.op.operands.toList->Rel B8 O Z w->Cc O Z.n N->Z'.n<=N->Kh P B8 O e o Z w Z' v):Vy P B8 G fr Z o v Z':=by
 refine⟨h1,h2,fun O a w N hk hR hF hN hG rd next Q hn=>BS hd ?_⟩;obtain⟨w',nx,v',O',k1,k2,k3,k4,k5⟩:=h3 O a.eval w N hk hR hF hN;rw[k1];cases nx with
 |value u=>rw[Oper.uponIn_value];cases k2;exact hn _ _ _ k3 k4 k5
 |skip=>rw[Oper.uponIn_skip];cases k2;exact hn _ _ _ k3 k4 k5
 |_=>cases k2
def Gr {t:TypeId}{a:Value}(h:RO P Z t a v=some Z'):Adv Z Z':=by
 obtain⟨⟨b,off⟩,h4,k4⟩:=A8 h;obtain⟨n,h5,k5⟩:=A8 (show ob (size? P t) _=some Z' from k4);obtain⟨ht,k6⟩:=KD k5;obtain⟨h6,h7⟩:=G7 k6;exact .write h7
def cU {t:TypeId}{s x:Value}(h:FL P Z t s x=some (v,Z')):Adv Z Z':=by
 obtain⟨el,h6,k6⟩:=A8 h;obtain⟨i,h7,k7⟩:=A8 k6;clear h k6;split at k7
 ·rename_i bs len cap;obtain⟨⟨n,new⟩,h8,k8⟩:=A8 k7;obtain⟨h9,k9⟩:=G7 (show bb (Nat.ble 1 i.size) _=some (v,Z')from k8);cases hle:Nat.ble (len+n) cap with
  | true=>
    rw[hle]at k9;change DT Z i.size bs len cap n new=some (v,Z')at k9;unfold DT at k9;split at k9
    ·obtain⟨Z2,h10,k10⟩:=A8 k9;cases k10;exact .write h10
    ·obtain⟨h10,k10⟩:=G7 k9;cases k10;exact .refl _
  | false=>
    rw[hle]at k9;obtain⟨h10,k10⟩:=G7 (show bb _ _=some (v,Z')from k9);obtain⟨z,h11,k11⟩:=A8 k10;obtain⟨h12,k12⟩:=G7 k11;unfold Ch at k12;split at k12
    ·obtain⟨h13,k13⟩:=G7 k12;cases k13;exact .new _ _ _
    ·obtain⟨old,h13,k13⟩:=A8 k12;cases k13;exact .new _ _ _
    ·obtain⟨h13,k13⟩:=G7 k12;obtain⟨old,h14,k14⟩:=A8 k13;obtain⟨Z1,h15,k15⟩:=A8 k14;cases k15;exact(Adv.kill h15).trans (.new _ _ _)
 ·cases k7
def pH {cs:List Value}(h:Z.AO1 b cs=some Z'):Adv Z Z':=by
 obtain⟨B,h1,h2,rfl⟩:=RP h;exact .set (QP h1).1 rfl
def Ks {t:TypeId}{m k:Operand}(h:Bb P fr Z t m k x=some (v,Z')):Adv Z Z':=by
 obtain⟨⟨kt,el⟩,h1,k1⟩:=A8 h;obtain⟨mv,h2,k2⟩:=A8 (show ob (ev fr m) _=some (v,Z')from k1);obtain⟨a,h3,k3⟩:=A8 k2;obtain⟨mb,h4,k4⟩:=A8 k3;obtain⟨kv,h5,k5⟩:=A8 k4;obtain⟨h6,k6⟩:=G7 k5;obtain⟨u,h7,k7⟩:=A8 k6;obtain⟨B,h8,k8⟩:=A8 k7;obtain⟨cs,h9,k9⟩:=A8 k8;obtain⟨Z1,h10,k10⟩:=A8 k9;cases k10;exact pH h10
def cV {t:TypeId}{ix:Operand}{ok:Bool}(h:GO P fr Z t x ix ok=some (v,Z')):Adv Z Z':=by
 obtain⟨⟨kt,el⟩,h1,k1⟩:=A8 h;obtain⟨m,h2,k2⟩:=A8 (show ob (ev fr x) _=some (v,Z')from k1);obtain⟨a,h3,k3⟩:=A8 k2;obtain⟨k,h4,k4⟩:=A8 k3;obtain⟨h5,k5⟩:=G7 k4;obtain⟨cs,h6,k6⟩:=A8 k5;obtain⟨r,h7,k7⟩:=A8 k6;obtain⟨⟨u,b⟩,h8,k8⟩:=A8 k7;cases k8;exact .refl _
def Yb {r:Option Operand}(h:Fg fr Z r=some (v,Z')):Adv Z Z':=by
 obtain⟨h1,h2⟩:=G7 h;cases h2;exact .new _ _ _
def AO2 (O:Place) (u':Value) (t:Tgt) (Ap N8:List Value):Prop:=match t with
 | .fn g=>u'= .func (.func g) ⟨Ap⟩ ⟨N8⟩
 | .yld b=>∃ q,O b=some q/\u'= .func (.yield q.c) ⟨[]⟩ ⟨[]⟩/\Ap=[]/\N8=[]
def Yc {u u':Value}{f:Fun}(h:H3 O u u') (hf:Mo u=some f):∃ Ap N8,AO2 O u' f.g Ap N8/\E7 O f.first Ap/\E7 O f.captured N8:=by
 unfold Mo at hf;split at hf
 ·cases hf;cases h with
  |func hy h1 h2=>exact⟨_,_,rfl,h1,h2⟩
  |I1 hs=>simp[I1]at hs
 ·cases hf;cases h with
  |func hy h1 h2=>cases hy
  |yld hq=>exact⟨[],[],⟨_,hq,rfl,rfl,rfl⟩,.nil,.nil⟩
  |I1 hs=>simp[I1]at hs
 ·cases hf
def UC {call:X6}(hC:As P B8 G call){fr:Fr}{Z:St}{o:Oper}{c:Call}{f:Operand}{r:CR}(ho:o.op= .call c) (hc:c.callee= .value f)
  (h:HQ call fr Z c f=some r):Adv Z r.Z/\∀ O (a:Act) w N,P4 O fr a.eval o.op.operands.toList->Rel B8 O Z w->Cc O Z.n N->r.Z.n<=N->Bm O G ->
    ∀ (rd:Option Nat) (next:Act->World->Prop) (Q:Exit->Act->World->Prop),
     (∀ v' w' O',Rel B8 O' r.Z w'->X9 O Z w O' r.Z w'->H3 O' r.v v'->match r.pan with|true=>Q (cT v') a w'|false=>next (a.put o.dst v') w')->o.wpIn (FW rd) 0 P a w next Q:=by
 obtain⟨vs,h1,k1⟩:=A8 h;obtain⟨u,h2,k2⟩:=A8 k1;obtain⟨fn,h3,k3⟩:=A8 k2;change call fn.g (fn.first++vs++fn.captured) Z=some r at k3;clear h k1 k2;obtain⟨pI,Ai4⟩:=hC _ _ _ _ k3;refine⟨pI,fun O a w N hk hR hF hN hG rd next Q hn=>BS (by intro c' he;rw[ho]at he;cases he) ?_⟩;have hr:=(Ep ho hk).evs h1;have hu:=hk f u (by simp[ho,Op.operands,Call.operands,hc]) h2;obtain⟨Ap,N8,hf,r1,r2⟩:=Yc hu h3;have hT:=Ai4 O w (Ap++c.args.toList.map a.eval++N8) N hR hF hN hG (E7.append r2 (E7.append hr r1));have Dy:(⟨Ap⟩:Array Value)++c.args.map a.eval++⟨N8⟩=⟨Ap++c.args.toList.map a.eval++N8⟩:=by
  rw[<- Qp];simp
 have Lo:∀ (en:Ending) w',(∃ v' O',en=ended r.pan v'/\Rel B8 O' r.Z w'/\X9 O Z w O' r.Z w'/\H3 O' r.v v')->(match en,w' with
   | .returned v,w''=>next (a.put o.dst v) w''
   | .panicked chain,w''=>Q (.panic chain) a w''
   | .outgrown,_=>LetsOut Q:Prop):=by
  rintro en w' ⟨v',O',rfl,q1,q2,q3⟩;have:=hn v' w' O' q1 q2 q3;cases hp:r.pan with
  |true=>rw[hp]at this;exact this
  |false=>rw[hp]at this;exact this
 cases hg:fn.g with
 | fn g=>
   rw[hg]at hT hf;obtain⟨fd,e1,e2,e3⟩:=hT;have hf:a.eval f= .func (.func g) ⟨Ap⟩ ⟨N8⟩:=hf;have HG:execOp a.eval o=callFunc g ⟨Ap++c.args.toList.map a.eval++N8⟩:=by
    simp only[execOp,ho,resolve,hc,hf,Deferred.ofValue];rw[<- Dy];rfl
   rw[HG];rcases e3 with⟨b1,b2⟩|⟨v',b1,b2,b3,b4⟩
   ·have En:(callFunc g ⟨Ap++c.args.toList.map a.eval++N8⟩).run P w= .ok (.enter g ⟨Ap++c.args.toList.map a.eval++N8⟩) w:=by
     have hn0:fd.body.isNone=false:=by cases hb:fd.body with|none=>rw[hb]at b1;cases b1|some c=>rfl
     simp only[callFunc,Sem.run_bind,run_program,Result.andThen_ok,e1,e2,hn0,IH,Gc,Sem.run_pure]
    rw[En,Oper.uponIn_enter];refine⟨fun h=>(nomatch h),?_⟩;exact(callsIn_wide (n:=0)).2 (b2.mono Lo)
   ·rw[b1,Oper.uponIn_value];have hp:=hn v' w O (by rw[b2];exact hR) (by rw[b2];exact .refl _ _ _) b4;rw[b3]at hp;exact hp
 | yld b=>
   rw[hg]at hT hf;obtain⟨q,hq,hf,hf1,hf2⟩:=hf;subst hf1;subst hf2;obtain⟨f0,tmps,assign,body,e1,e2⟩:=hT q hq;have HG:execOp a.eval o=Instr.yield q.c ⟨[]++c.args.toList.map a.eval++[]⟩:=by
    simp only[execOp,ho,resolve,hc,hf,Deferred.ofValue];rw[<- Dy];rfl
   rw[HG,e1,Oper.uponIn_round];refine⟨fun h=>(nomatch h),?_⟩;exact e2.mono Lo
def jv {call:X6}(hC:As P B8 G call){fr:Fr}{Z:St}{o:Oper}{c:Call}{f:Operand}{v:Value}{Z':St}(ho:o.op= .call c) (hc:c.callee= .value f)
  (h:HQ call fr Z c f=some ⟨false,v,Z'⟩):Vy P B8 G fr Z o v Z' :=
 let ⟨h1,h2⟩:=UC hC ho hc h
 ⟨h1,by simp[ho,DH,hc],fun O a w N hk hR hF hN hG rd next Q hn=>h2 O a w N hk hR hF hN hG rd next Q hn⟩
def pJ {call:X6}(hC:As P B8 G call){fr:Fr}{Z:St}{o:Oper}{c:Call}{f:Operand}{v:Value}{Z':St}(ho:o.op= .call c) (hc:c.callee= .value f)
  (h:HQ call fr Z c f=some ⟨true,v,Z'⟩):Vz P B8 G fr Z o v Z' :=
 let ⟨h1,h2⟩:=UC hC ho hc h
 ⟨h1,fun O a w N hk hR hF hN hG rd next Q hn=>h2 O a w N hk hR hF hN hG rd next Q hn⟩
def cW {s:Stepped}(ho:o.op= .panic x) (h:pK fr Z x=some s):s.d= .pan/\s.Z=Z/\Vz P B8 G fr Z o s.v Z:=by
 obtain⟨u,h1,h2⟩:=A8 h;split at h2
 ·rename_i t v;cases h2;refine⟨rfl,rfl,.refl _,fun O a w N hk hR hF hN hG rd next Q hn=>BS (by intro c' he;rw[ho]at he;cases he) ?_⟩;have hx:=hk x _ (by simp[ho,Op.operands]) h1;cases hx':a.eval x with
  | iface t' v'=>
    rw[hx']at hx;have HG:(execOp a.eval o).run P w= .halt (.panic (.iface t' v')) w:=by
     simp only[execOp,ho,hx',Instr.panic];rfl
    rw[HG,Oper.uponIn_panic];exact hn _ _ _ hR (.refl _ _ _) hx
  |_=>rw[hx']at hx;cases hx<;>(rename_i hs;simp[I1]at hs)
 ·cases h2
inductive Class (P:Program) (B8:Env) (G:Nat) (fr:Fr) (Z:St) (o:Oper):Stepped->Prop
 |pure {v:Value} (h:pG P fr o v):Class P B8 G fr Z o ⟨v,Z,.none⟩
 |new {cs:List Value}{vf:Nat->Value}{t:Option TypeId} (h:NewFact P fr o cs vf t):Class P B8 G fr Z o ⟨vf Z.n,Z.new cs t,.none⟩
 |read {v:Value}{r:An} (h:RN P fr Z o v r):Class P B8 G fr Z o ⟨v,Z,.read r⟩
 |eff {v:Value}{Z':St} (h:Vy P B8 G fr Z o v Z'):Class P B8 G fr Z o ⟨v,Z',.eff⟩
 |pan {v:Value}{Z':St} (h:Vz P B8 G fr Z o v Z'):Class P B8 G fr Z o ⟨v,Z',.pan⟩
def R9 {x:Option Value}{s:Stepped}(h:J5 Z x=some s):∃ v,x=some v/\s=⟨v,Z,.none⟩:=by
 obtain⟨v,h1,h2⟩:=A8 h;cases h2;exact⟨v,h1,rfl⟩
def Jh {x:Option (List Value×(Nat->Value))}{t:Option TypeId}{s:Stepped}(h:asNew Z x t=some s):∃ cs vf,x=some (cs,vf)/\s=⟨vf Z.n,Z.new cs t,.none⟩:=by
 obtain⟨⟨cs,vf⟩,h1,h2⟩:=A8 h;cases h2;exact⟨cs,vf,h1,rfl⟩
def UD {x:Option (Value×An)}{s:Stepped}(h:Df Z x=some s):∃ v b,x=some (v,b)/\s=⟨v,Z,.read b⟩:=by
 obtain⟨⟨v,b⟩,h1,h2⟩:=A8 h;cases h2;exact⟨v,b,h1,rfl⟩
def Fh {x:Option (Value×St)}{s:Stepped}(h:GF x=some s):∃ v Z',x=some (v,Z')/\s=⟨v,Z',.eff⟩:=by
 obtain⟨⟨v,Z'⟩,h1,h2⟩:=A8 h;cases h2;exact⟨v,Z',h1,rfl⟩
def jw {t:TypeId}{r:An}(ho:o.op= .load t x) (h:Ht P fr Z t x=some (v,r)):RN P fr Z o v r:=by
 have hc:=h;obtain⟨u,h1,k1⟩:=A8 h;obtain⟨⟨b',off⟩,h2,k2⟩:=A8 k1;obtain⟨m,hm,k2⟩:=A8 (show ob (span? P t) _=some (v,r)from k2);obtain⟨v0,h3,k3⟩:=A8 (show ob (gK P Z t b' off) _=some (v,r)from k2);cases k3;refine⟨?_,fun O e w hk=>⟨?_,fun FT=>cX ho hk hc FT⟩⟩
 ·obtain⟨g,h4,h5⟩:=A8 h3;obtain⟨g',hg',hm⟩:=A8 hm;rw[h4]at hg';cases hg';cases g with
  | true=>
    obtain⟨n,h6,h7⟩:=A8 (show ob (size? P t) _=some v from h5);obtain⟨cs,h8,h9⟩:=A8 h7;rw[show size? P t=some m from hm]at h6;cases h6;exact⟨cs,h8⟩
  | false=>
    cases hm;obtain⟨cs,h8,h9⟩:=A8 (show ob (Z.read b' off 1) _=some v from h5);exact⟨cs,h8⟩
 ·obtain⟨q,hq,_⟩:=Lc (hk x u (by simp[ho,Op.operands]) h1) h2;exact⟨q,hq⟩
def Yd {s d:TypeId}{r:An}(ho:o.op= .convert s d x) (h:DD P fr Z s d x=some (v,r)):RN P fr Z o v r:=by
 have hc:=h;obtain⟨u,h1,k1⟩:=A8 h;obtain⟨⟨b',off,n⟩,h2,k2⟩:=A8 k1;obtain⟨el,h3,k3⟩:=A8 (show ob (elem? P s) _=some (v,r)from k2);obtain⟨h4,k4⟩:=G7 k3;obtain⟨h5,k5⟩:=G7 k4;obtain⟨l,h6,k6⟩:=A8 k5;obtain⟨r',h7,k7⟩:=A8 k6;cases k7;refine⟨?_,fun O e w hk=>⟨?_,fun FT=>WA ho hk hc FT⟩⟩
 ·exact⟨l,h6⟩
 ·obtain⟨q,a,k',hq,_,_⟩:=Hu (hk x u (by simp[ho,Op.operands]) h1) h2;exact⟨q,hq⟩
def IZ {call:X6}{s:Stepped}(h:step P call fr Z o=some s):∀ c,o.op≠ .defer c:=by
 intro c ho;unfold step at h;rw[ho]at h;cases h
def Ia {call:X6}(hC:As P B8 G call){fr:Fr}{Z:St}{o:Oper}{s:Stepped}
  (h:step P call fr Z o=some s):Class P B8 G fr Z o s:=by
 have hd:=IZ h;unfold step at h;cases ho:o.op with
 |move x=>rw[ho]at h;obtain⟨v,h1,rfl⟩:=R9 h;exact .pure fun O e w hk=>Qu (.inl ho) hk h1
 |assign x=>rw[ho]at h;obtain⟨v,h1,rfl⟩:=R9 h;exact .pure fun O e w hk=>Qu (.inr ho) hk h1
 |pick c a b=>rw[ho]at h;obtain⟨v,h1,rfl⟩:=R9 h;exact .pure fun O e w hk=>cG ho hk h1
 |alloc t=>rw[ho]at h;obtain⟨cs,vf,h1,rfl⟩:=Jh h;exact .new fun O e w hk=>XE ho h1
 |box t x=>rw[ho]at h;obtain⟨cs,vf,h1,rfl⟩:=Jh h;exact .new fun O e w hk=>jG ho hk h1
 |build t parts=>rw[ho]at h;obtain⟨v,h1,rfl⟩:=R9 h;exact .pure fun O e w hk=>XD ho hk h1
 |buildSlice t len parts=>rw[ho]at h;obtain⟨cs,vf,h1,rfl⟩:=Jh h;exact .new fun O e w hk=>NS ho hk h1
 |load t x=>rw[ho]at h;obtain⟨v,b,h1,rfl⟩:=UD h;exact .read (jw ho h1)
 | store t x y=>
   rw[ho]at h;obtain⟨v,Z',h1,rfl⟩:=Fh h;refine .eff (Fe hd ?_ (by rw[ho];rfl) fun O e w N hk hR hF hN=>Ye ho hk hR h1);obtain⟨a,g1,k1⟩:=A8 h1;obtain⟨u,g2,k2⟩:=A8 k1;obtain⟨Z1,g3,k3⟩:=A8 k2;cases k3;exact Gr g3
 | lookup t x ix ok=>
   rw[ho]at h;obtain⟨v,Z',h1,rfl⟩:=Fh h;exact .eff (Fe hd (cV h1) (by rw[ho];rfl) fun O e w N hk hR hF hN=>WB ho hk hR h1)
 | mapUpdate t m k x=>
   rw[ho]at h;obtain⟨v,Z',h1,rfl⟩:=Fh h;exact .eff (Fe hd (Ks h1) (by rw[ho];rfl) fun O e w N hk hR hF hN=>Iy (.inl ho) hk hR h1)
 | insert t m k x=>
   rw[ho]at h;obtain⟨v,Z',h1,rfl⟩:=Fh h;exact .eff (Fe hd (Ks h1) (by rw[ho];rfl) fun O e w N hk hR hF hN=>Iy (.inr ho) hk hR h1)
 | makeMap t r=>
   rw[ho]at h;obtain⟨v,Z',h1,rfl⟩:=Fh h;exact .eff (Fe hd (Yb h1) (by rw[ho];rfl) fun O e w N hk hR hF hN=>TC ho hR hF hN h1)
 | panic x=>
   rw[ho]at h;obtain⟨h1,h2,h3⟩:=cW (P:=P) (B8:=B8) (G:=G) ho h;obtain⟨v,Z',d⟩:=s;cases h1;cases h2;exact .pan h3
 |nilCheck x=>rw[ho]at h;obtain⟨v,h1,rfl⟩:=R9 h;exact .pure fun O e w hk=>Qv ho hk h1
 |binOp b t x y yt=>rw[ho]at h;obtain⟨v,h1,rfl⟩:=R9 h;exact .pure fun O e w hk=>jg ho hk h1
 |unOp u t x=>rw[ho]at h;obtain⟨v,h1,rfl⟩:=R9 h;exact .pure fun O e w hk=>Oc (by rw[ho];rfl) (by simp[ho]) hk h1
 | convert s0 d x=>
   rw[ho]at h;change orS (asNew Z (Gd P fr s0 d x)) (orS (Df Z (DD P fr Z s0 d x)) (J5 Z (Ej P fr o x)))=some s at h;cases hn:asNew Z (Gd P fr s0 d x)with
   | some s1=>
     rw[hn]at h;cases h;obtain⟨cs,vf,h1,rfl⟩:=Jh hn;exact .new fun O e w hk=>XG ho hk h1
   | none=>
     rw[hn]at h;change orS (Df Z (DD P fr Z s0 d x)) (J5 Z (Ej P fr o x))=some s at h;cases hr:Df Z (DD P fr Z s0 d x)with
     | some s1=>
       rw[hr]at h;cases h;obtain⟨v,b,h1,rfl⟩:=UD hr;exact .read (Yd ho h1)
     | none=>
       rw[hr]at h;change J5 Z (Ej P fr o x)=some s at h;obtain⟨v,h1,rfl⟩:=R9 h;exact .pure fun O e w hk=>Oc (by rw[ho];rfl) (by simp[ho]) hk h1
 |makeInterface t x=>rw[ho]at h;obtain⟨v,h1,rfl⟩:=R9 h;exact .pure fun O e w hk=>YE ho hk h1
 |makeFunc fn fs cs=>rw[ho]at h;obtain⟨v,h1,rfl⟩:=R9 h;exact .pure fun O e w hk=>cI ho hk h1
 |makeSlice t l c=>rw[ho]at h;obtain⟨cs,vf,h1,rfl⟩:=Jh h;exact .new fun O e w hk=>bM ho hk h1
 |slice t x lo hi mx=>rw[ho]at h;obtain⟨v,h1,rfl⟩:=R9 h;exact .pure fun O e w hk=>Xt ho hk h1
 |fieldAddr s x f=>rw[ho]at h;obtain⟨v,h1,rfl⟩:=R9 h;exact .pure fun O e w hk=>PM ho hk h1
 |field s x f=>rw[ho]at h;obtain⟨v,h1,rfl⟩:=R9 h;exact .pure fun O e w hk=>YF ho hk h1
 |indexAddr t x ix=>rw[ho]at h;obtain⟨v,h1,rfl⟩:=R9 h;exact .pure fun O e w hk=>PN ho hk h1
 |index t x ix=>rw[ho]at h;obtain⟨v,h1,rfl⟩:=R9 h;exact .pure fun O e w hk=>YH ho hk h1
 |extract t ix=>rw[ho]at h;obtain⟨v,h1,rfl⟩:=R9 h;exact .pure fun O e w hk=>TA ho hk h1
 | call c=>
   rw[ho]at h;change YX P call fr Z c=some s at h;unfold YX at h;cases hc:c.callee with
   | value f=>
     rw[hc]at h;obtain⟨⟨p,v,Z'⟩,h1,h2⟩:=A8 (show ob (HQ call fr Z c f) _=some s from h);cases h2;cases p with
     |true=>exact .pan (pJ hC ho hc h1)
     |false=>exact .eff (jv hC ho hc h1)
   |invoke r m=>rw[hc]at h;cases h
   | builtin b=>
     rw[hc]at h;change AF4 b P fr Z c=some s at h;cases b with
     |len=>obtain⟨v,h1,rfl⟩:=R9 h;exact .pure fun O e w hk=>jY ho hc hk h1
     |max=>obtain⟨v,h1,rfl⟩:=R9 h;exact .pure fun O e w hk=>Xu true ho hc hk h1
     |min=>obtain⟨v,h1,rfl⟩:=R9 h;exact .pure fun O e w hk=>Xu false ho hc hk h1
     | append=>
       obtain⟨v,Z',h1,rfl⟩:=Fh h;refine .eff (Fe hd ?_ (by rw[ho];simp[DH,hc]) fun O e w N hk hR hF hN=>VB ho hc hk hR hF hN h1);obtain⟨vs,g1,k1⟩:=A8 h1;obtain⟨⟨s,x⟩,g2,k2⟩:=A8 k1;obtain⟨t,g3,k3⟩:=A8 (show ob (QL c) _=some (v,Z')from k2);obtain⟨t2,g4,k4⟩:=A8 k3;obtain⟨g5,k5⟩:=G7 k4;exact cU k5
     | copy=>
       obtain⟨v,Z',h1,rfl⟩:=Fh h;refine .eff (Fe hd ?_ (by rw[ho];simp[DH,hc]) fun O e w N hk hR hF hN=>cY ho hc hk hR h1);obtain⟨vs,g1,k1⟩:=A8 h1;obtain⟨⟨d,s⟩,g2,k2⟩:=A8 k1;obtain⟨t,g3,k3⟩:=A8 (show ob (QL c) _=some (v,Z')from k2);obtain⟨el,g4,k4⟩:=A8 (show ob (elem? P t) _=some (v,Z')from k3);obtain⟨size,g5,k5⟩:=A8 k4;obtain⟨⟨b,off,dl⟩,g6,k6⟩:=A8 k5;obtain⟨⟨n,cs⟩,g7,k7⟩:=A8 (show ob (Ao Z size s) _=some (v,Z')from k6);obtain⟨cs2,g8,k8⟩:=A8 (show ob (takeN (Nat.min n dl*size) cs) _=some (v,Z')from k7);obtain⟨Z2,g9,k9⟩:=A8 k8;cases k9;exact .write g9
     | clear=>
       obtain⟨v,Z',h1,rfl⟩:=Fh h;refine .eff (Fe hd ?_ (by rw[ho];simp[DH,hc]) fun O e w N hk hR hF hN=>Yf ho hc hk hR h1);obtain⟨vs,g1,k1⟩:=A8 h1;obtain⟨x,g2,k2⟩:=A8 k1;obtain⟨t,g3,k3⟩:=A8 k2;obtain⟨el,g4,k4⟩:=A8 (show ob (elem? P t) _=some (v,Z')from k3);obtain⟨z,g5,k5⟩:=A8 k4;obtain⟨⟨b,off,n⟩,g6,k6⟩:=A8 k5;obtain⟨Z2,g9,k9⟩:=A8 (show ob (Z.write b off (rep (J6 z) n)) _=some (v,Z')from k6);cases k9;exact .write g9
     |_=>cases h
 |_=>rw[ho]at h;cases h
end
end
section
variable {O:Place}{fr:Fr}{a:Act}{o:Oper}
def EZ (O:Place) (fr:Fr) (a:Act):Prop:=∀ t v,fr.get t=some v->∃ v',a.tmps[t]? =some v'/\H3 O v v'
def EZ.mono {O':Place}(hm:O.le O') (h:EZ O fr a):EZ O' fr a:=fun t v ht=>let ⟨v',h1,h2⟩:=h t v ht;⟨v',h1,h2.mono hm⟩
def Ns (fr:Fr) (d:Tmp) (v:Value):I2 fr (some d) v=fr.set d v:=rfl
def EK (a:Act) (d:Option Tmp) (v:Value):(a.put d v).tmps.size=a.tmps.size:=by cases d<;>simp[Act.put]
def put_defers (a:Act) (d:Option Tmp) (v:Value):(a.put d v).defers=a.defers:=by cases d<;>rfl
def EZ.put (h:EZ O fr a){d:Option Tmp}{v v':Value}(hv:H3 O v v') (hd:∀ t,d=some t->t<a.tmps.size):EZ O (I2 fr d v) (a.put d v'):=by
 intro t u ht;cases d with
 |none=>exact h t u ht
 | some d=>
   rw[Ns,Tr.Au]at ht;show ∃ v'',(a.tmps.setIfInBounds d v')[t]? =some v''/\_;by_cases htd:t=d
   ·subst htd;rw[z1z rfl]at ht;cases ht;exact⟨v',by rw[Array.getElem?_setIfInBounds_self_of_lt (hd _ rfl)],hv⟩
   ·rw[z0z htd]at ht;obtain⟨v'',h1,h2⟩:=h t u ht;exact⟨v'',by rw[Array.getElem?_setIfInBounds_ne (fun h=>htd h.symm)];exact h1,h2⟩
def JW (G:Nat) (x:Operand):Bool:=match x with
 | .global g=>Nat.blt g G
 |_=>true
def Am7 (n:Nat) (d:Option Tmp):Bool:=match d with
 |some d=>Nat.blt d n
 |none=>true
def Ak (_P:Program) (n G:Nat) (o:Oper):Bool:=Am7 n o.dst&&o.op.operands.toList.all (JW G)
def bg {O:Place}{fr:Fr}{a:Act}{G:Nat}(hG:Bm O G){x:Operand}{v:Value}(hx:JW G x=true) (ht:∀ t,x= .tmp t->∀ v,fr.get t=some v->∃ v',a.tmps[t]? =some v'/\H3 O v v')
  (h:ev fr x=some v):H3 O v (a.eval x):=by
 cases x with
 | tmp t=>
   obtain⟨v',h1,h2⟩:=ht t rfl v h;show H3 O v (a.tmps.getD t undef);rw[Hh,h1];exact h2
 | const u=>
   obtain⟨h1,h2⟩:=H3.cst (O:=O) (show cst u=some v from h);subst h1;exact h2
 | global g=>
   cases h;obtain⟨m,hm,-⟩:=hG g (by have:Nat.blt g G=true:=hx;rwa [Bt]at this);exact .ptr (off:=0) hm
 |func f=>cases h;exact .func rfl .nil .nil
def RU {O:Place}{fr:Fr}{a:Act}{G:Nat}{P:Program}{n:Nat}{o:Oper}(hG:Bm O G) (ho:Ak P n G o=true)
  (ht:∀ t,.tmp t∈o.op.operands.toList->∀ v,fr.get t=some v->∃ v',a.tmps[t]? =some v'/\H3 O v v'):P4 O fr a.eval o.op.operands.toList:=by
 intro x v hx h;unfold Ak at ho;rw[Q7,GJ]at ho;exact bg hG (ho.2 x hx) (fun t he=>by subst he;exact ht t hx) h
def RW {P:Program}{n G:Nat}(ho:Ak P n G o=true):∀ t,o.dst=some t->t<n:=by
 intro t ht;unfold Ak at ho;rw[Q7,ht]at ho;have:Nat.blt t n=true:=ho.1
 rwa [Bt]at this
def KT {O:Place}{fr:Fr}{a:Act}{all:Array Oper}{o:Oper}{c:Bool}(h:U9 all fr o=some c)
  (ht:∀ j want t,o.guard=some (j,want)->Fc all j=some t->∀ v,fr.get t=some v->∃ v',a.tmps[t]? =some v'/\H3 O v v'):Region.wanted o (yielded all a.tmps)=c:=by
 unfold Region.wanted;cases hg:o.guard with
 | none=>
   unfold U9 at h;rw[hg]at h;cases h;rfl
 | some g=>
   obtain⟨j,want⟩:=g;unfold U9 at h;rw[hg]at h;change(Option.rec (motive:=fun _=>Option Bool) (some false) (fun d=>ob (fr.get d) fun v=>some (yieldOf want v)) (Fc all j):Option Bool)=some c at h;have hd:(all[j]?).bind (·.dst)=Fc all j:=by
    unfold Fc;cases all[j]?<;>rfl
   show(yielded all a.tmps j==some want)=c;unfold yielded;rw[hd];cases hdj:Fc all j with
   | none=>
     rw[hdj]at h;cases h;rfl
   | some d=>
     rw[hdj]at h;obtain⟨v,h1,h2⟩:=A8 (show ob (fr.get d) (fun v=>some (yieldOf want v))=some c from h);obtain⟨v',h3,h4⟩:=ht j want d hg hdj v h1;cases h2;show((match ((some d).bind fun x=>a.tmps[x]?)with|some (.bool b)=>some b|_=>none)==some want)=_;rw[show((some d).bind fun x=>a.tmps[x]?)=some v' from h3];cases h4 with
     |I1 hs=>cases v<;>first|rfl|(rename_i b;cases b<;>cases want<;>rfl)
     |_=>rfl
/- So is known before: the paths of a region's order. -/
def eP (acc:Array Nat) (i:Nat):∀ (l:List Edge) (s:Nat),Nat.testBit (l.foldl (fun s e=>if Region.binds .any e then s ||| 2 ^ e.on ||| acc.getD e.on 0 else s) s) i=true ->
  Nat.testBit s i=true\/∃ e∈l,Region.binds .any e=true/\(e.on=i\/Nat.testBit (acc.getD e.on 0) i=true):=by
 intro l;induction l with
 |nil=>intro s h;exact .inl h
 | cons e l ih=>
   intro s h;rw[QB]at h;rcases ih _ h with h1|⟨e',h1,h2,h3⟩
   ·by_cases hb:Region.binds .any e=true
    ·rw[z1z hb,Zx,Zx,Sn,Sn]at h1;rcases h1 with(h1|h1)|h1
     ·exact .inl h1
     ·refine .inr ⟨e,by simp,hb,.inl ?_⟩;rw[Nat.testBit_two_pow]at h1;exact z6z h1
     ·exact .inr ⟨e,by simp,hb,.inr h1⟩
    ·rw[z0z hb]at h1;exact .inl h1
   ·exact .inr ⟨e',by simp[h1],h2,h3⟩
def DZ (acc:Array Nat) (o:Oper):Array Nat:=acc.push (o.after.foldl (fun s e=>if Region.binds .any e then s ||| 2 ^ e.on ||| acc.getD e.on 0 else s) 0)
def Zy:∀ (l:List Oper) (acc:Array Nat),
  (∀ k,k<acc.size->(l.foldl DZ acc).getD k 0=acc.getD k 0) /\
  ∀ t o i,l[t]? =some o->Nat.testBit ((l.foldl DZ acc).getD (acc.size+t) 0) i=true ->
   ∃ e∈o.after,Region.binds .any e=true/\(e.on=i\/(e.on<acc.size+t/\Nat.testBit ((l.foldl DZ acc).getD e.on 0) i=true)):=by
 intro l;induction l with
 |nil=>intro acc;exact⟨fun _ _=>rfl,fun t o i h=>by simp at h⟩
 | cons o l ih=>
   intro acc;obtain⟨h1,h2⟩:=ih (DZ acc o);have hsz:(DZ acc o).size=acc.size+1:=by simp[DZ]
   have Am8:∀ k,k<acc.size->(DZ acc o).getD k 0=acc.getD k 0:=by
    intro k hk;unfold DZ;rw[Hh,Hh,Array.getElem?_push,z0z om]
   have LL:(DZ acc o).getD acc.size 0=o.after.foldl (fun s e=>if Region.binds .any e then s ||| 2 ^ e.on ||| acc.getD e.on 0 else s) 0:=by
    unfold DZ;rw[Hh,Array.getElem?_push,z1z rfl];rfl
   refine⟨fun k hk=>?_,fun t o' i ht hb=>?_⟩
   ·rw[QB,h1 k om,Am8 k hk]
   ·rw [QB]at hb ⊢;cases t with
    | zero=>
      simp at ht;subst ht;rw[AG,h1 acc.size om,LL,<- fD]at hb;rcases eP acc i _ _ hb with h3|⟨e,h3,h4,h5⟩
      ·simp at h3
      ·refine⟨e,by simpa using h3,h4,?_⟩;rcases h5 with h5|h5
       ·exact .inl h5
       ·have hlt:e.on<acc.size:=by
         rcases AW e.on acc.size with hh|hh
         ·exact hh
         ·rw[Hh,Array.getElem?_eq_none hh]at h5;simp at h5
        exact .inr ⟨om,by rw[h1 e.on om,Am8 e.on hlt];exact h5⟩
    | succ t=>
      have:=h2 t o' i (by simpa using ht) (by rw[hsz,show acc.size+1+t=acc.size+(t+1)from by omega];exact hb);rw[hsz,show acc.size+1+t=acc.size+(t+1)from by omega]at this;exact this
def Bef (os:Array Oper) (i j:Nat):Prop:=Nat.testBit ((Region.before os).toList.getD j 0) i=true
def Oe {os:Array Oper}{i j:Nat}(ho:os[j]? =some o) (h:Bef os i j):∃ e∈o.after,Region.binds .any e=true/\(e.on=i\/(e.on<j/\Bef os i e.on)):=by
 have hb:Region.before os=os.toList.foldl DZ #[]:=by
  unfold Region.before;rw[<- fD];rfl
 have hd:∀ k,(Region.before os).toList.getD k 0=(os.toList.foldl DZ #[]).getD k 0:=by
  intro k;rw[hb,Hh,List.getD_eq_getElem?_getD,Array.getElem?_toList]
 unfold Bef at h ⊢;rw[hd]at h;obtain⟨_,h2⟩:=Zy os.toList #[];obtain⟨e,h3,h4,h5⟩:=h2 j o i (by simpa using ho) (by simpa using h);refine⟨e,h3,h4,?_⟩;rcases h5 with h5|⟨h5,h6⟩
 ·exact .inl h5
 ·exact .inr ⟨by simpa using h5,by rw[hd];exact h6⟩
end
section
variable {i k:Nat}{o:Oper}{bs:List Nat}{Z:St}
def Rd (os:Array Oper) (o:Oper) (t:Tmp):Prop:= .tmp t∈o.op.operands.toList\/∃ j want,o.guard=some (j,want)/\Fc os j=some t
def AH3 (os:Array Oper) (x y:Oper):Prop:=∃ t,(x.dst=some t/\(y.dst=some t\/Rd os y t))\/(y.dst=some t/\Rd os x t)
structure cf (os:Array Oper):Prop where
 TD:∀ i o e,os[i]? =some o->e∈o.after->Region.binds .any e=true->e.on<i
 eff:∀ i j oi oj,i<j->os[i]? =some oi->os[j]? =some oj->DH oi.op=true->DH oj.op=true->Bef os i j
 names:∀ i j oi oj,i<j->os[i]? =some oi->os[j]? =some oj->AH3 os oi oj->Bef os i j
def Live (os:Array Oper) (z k:Nat):Prop:=k<z\/(z<k/\k<os.size/\¬ Bef os z k)
structure Iz (P:Program) (call:X6) (os:Array Oper) (F:Nat->Fr) (S:Nat->St) (r:Nat->Option Stepped) (z i:Nat):Prop where
 step:∀ k o,i<=k->Live os z k->os[k]? =some o->(U9 os (F k) o=some true/\∃ s,Ab.step P call (F k) (S k) o=some s/\r k=some s/\F (k+1)=I2 (F k) o.dst s.v/\S (k+1)=s.Z) \/
  (U9 os (F k) o=some false/\r k=none/\F (k+1)=I2 (F k) o.dst P9/\S (k+1)=S k)
 np:∀ k s,i<=k->r k=some s->s.d≠ .pan
 cj:∀ k,z<=k->¬ Live os z k->r k=none/\F (k+1)=F k/\S (k+1)=S k
 late:∀ k s,z<=k->r k=some s->s.d= .none/\s.Z=S k
 zle:z<=os.size
structure tC (P:Program) (call:X6) (os:Array Oper) (F:Nat->Fr) (S:Nat->St) (z:Nat) (o:Oper) (s:Stepped):Prop where
 ho:os[z]? =some o
 RV:U9 os (F z) o=some true
 step:Ab.step P call (F z) (S z) o=some s
 pan:s.d= .pan
 eff:DH o.op=true
def ay {β:Type}{d:Did}{x y:Option β}{b:β}(h:Oh d x y=some b):(x=some b/\d≠ .pan)\/(y=some b/\d= .pan):=by
 cases d with
 |pan=>exact .inr ⟨h,rfl⟩
 |_=>exact .inl ⟨h,fun h=>nomatch h⟩
def mI {P:Program}{call:X6}{fr:Fr}{s:Stepped}(hp:Se o.op=true) (h:Ab.step P call fr Z o=some s):s.d= .none/\s.Z=Z:=by
 have key:∀ x:Op,Se x=true->ou x P call fr Z o=some s->s.d= .none/\s.Z=Z:=by
  have pu:∀ v:Option Value,J5 Z v=some s->s.d= .none/\s.Z=Z:=by
   intro v hv;obtain⟨a,_,h2⟩:=A8 (show ob v _=some s from hv);cases h2;exact⟨rfl,rfl⟩
  intro x hx hs;cases x<;>first|exact pu _ hs|cases hx
 exact key o.op hp h
def AB1 {P:Program}{call:X6}{os:Array Oper}{z:Nat}:∀ (l:List Oper) (j:Nat) (fr:Fr) (Z:St),os.toList.drop j=l->z<j->j<=os.size->Od P call os (Region.before os).toList z l j fr Z=some () ->
  ∃ (F:Nat->Fr) (S:Nat->St) (r:Nat->Option Stepped),F j=fr/\S j=Z/\(∀ k,j<=k->¬ Live os z k->r k=none/\F (k+1)=F k/\S (k+1)=S k) /\
   (∀ k s,j<=k->r k=some s->s.d= .none/\s.Z=S k) /\
   (∀ k o,j<=k->Live os z k->os[k]? =some o->(U9 os (F k) o=some true/\∃ s,Ab.step P call (F k) (S k) o=some s/\r k=some s/\F (k+1)=I2 (F k) o.dst s.v/\S (k+1)=s.Z) \/
     (U9 os (F k) o=some false/\r k=none/\F (k+1)=I2 (F k) o.dst P9/\S (k+1)=S k)):=by
 intro l;induction l with
 | nil=>
   intro j fr Z hl hz hj _;have:j=os.size:=by
    have:=congrArg List.length hl;simp at this;omega
   subst this;exact⟨fun _=>fr,fun _=>Z,fun _=>none,rfl,rfl,fun _ _ _=>⟨rfl,rfl,rfl⟩,fun _ _ _ h=>(nomatch h),fun k o hk _ ho=>by have:=(Array.getElem?_eq_some_iff.1 ho).1;omega⟩
 | cons o l ih=>
   intro j fr Z hl hz hj h;have hlt:j<os.size:=by
    have:=congrArg List.length hl;simp at this;omega
   have ho:os[j]? =some o:=by
    have:=congrArg (fun l:List Oper=>l[0]?) hl
    simpa using this
   have hl':os.toList.drop (j+1)=l:=by
    rw[<- dk,hl];rfl
   have glue:∀ (fr':Fr) (Z':St) (x:Option Stepped),Od P call os (Region.before os).toList z l (j+1) fr' Z'=some () ->
     (¬ Live os z j->x=none/\fr'=fr/\Z'=Z)->(∀ s,x=some s->s.d= .none/\s.Z=Z) ->
     (Live os z j->(U9 os fr o=some true/\∃ s,Ab.step P call fr Z o=some s/\x=some s/\fr'=I2 fr o.dst s.v/\Z'=s.Z)\/(U9 os fr o=some false/\x=none/\fr'=I2 fr o.dst P9/\Z'=Z)) ->
     ∃ (F:Nat->Fr) (S:Nat->St) (r:Nat->Option Stepped),F j=fr/\S j=Z/\(∀ k,j<=k->¬ Live os z k->r k=none/\F (k+1)=F k/\S (k+1)=S k) /\
    (∀ k s,j<=k->r k=some s->s.d= .none/\s.Z=S k) /\
    (∀ k o,j<=k->Live os z k->os[k]? =some o->(U9 os (F k) o=some true/\∃ s,Ab.step P call (F k) (S k) o=some s/\r k=some s/\F (k+1)=I2 (F k) o.dst s.v/\S (k+1)=s.Z) \/
      (U9 os (F k) o=some false/\r k=none/\F (k+1)=I2 (F k) o.dst P9/\S (k+1)=S k)):=by
    intro fr' Z' x h0 h1 h2 h3;obtain⟨F,S,r,f1,f2,f3,f4,f5⟩:=ih (j+1) fr' Z' hl' om om h0;refine⟨fun k=>if k=j then fr else F k,fun k=>if k=j then Z else S k,fun k=>if k=j then x else r k,by simp,by simp,?_,?_,?_⟩
    ·intro k hk hnl;by_cases hkj:k=j
     ·subst hkj;simp only[FP,z0z (show ¬ k+1=k by omega),f1,f2];exact h1 hnl
     ·simp only[z0z hkj,z0z (show ¬ k+1=j by omega)];exact f3 k om hnl
    ·intro k s hk hs;by_cases hkj:k=j
     ·subst hkj;simp only[FP]at hs ⊢;exact h2 s hs
     ·simp only[z0z hkj]at hs ⊢;exact f4 k s om hs
    ·intro k o' hk hv ho';by_cases hkj:k=j
     ·subst hkj;rw[ho]at ho';cases ho';simp only[FP,z0z (show ¬ k+1=k by omega),f1,f2];exact h3 hv
     ·simp only[z0z hkj,z0z (show ¬ k+1=j by omega)];exact f5 k o' om hv ho'
   change bi (Nat.testBit ((Region.before os).toList.getD j 0) z) (Od P call os (Region.before os).toList z l (j+1) fr Z)
    (bb (Se o.op) (ob (U9 os fr o) fun c=>bi c (ob (Ab.step P call fr Z o) fun r=>Od P call os (Region.before os).toList z l (j+1) (I2 fr o.dst r.v) r.Z) (Od P call os (Region.before os).toList z l (j+1) (I2 fr o.dst P9) Z)))=some ()at h
   cases hb:Nat.testBit ((Region.before os).toList.getD j 0) z with
   | true=>
     rw[hb]at h;have hnl:¬ Live os z j:=by rintro(h1|⟨_,_,h1⟩);omega;exact h1 hb
     exact glue fr Z none h (fun _=>⟨rfl,rfl,rfl⟩) (fun _ h=>nomatch h) (fun h=>absurd h hnl)
   | false=>
     rw[hb]at h;have hlv:Live os z j:= .inr ⟨hz,hlt,fun h1=>by rw[show Nat.testBit ((Region.before os).toList.getD j 0) z=true from h1]at hb;cases hb⟩;obtain⟨hpu,h⟩:=G7 (show bb (Se o.op) _=some ()from h);obtain⟨c,hw,h⟩:=A8 h;cases c with
     |false=>exact glue _ _ none (show Od P call os (Region.before os).toList z l (j+1) (I2 fr o.dst P9) Z=some ()from h) (fun hn=>absurd hlv hn) (fun _ h=>nomatch h) (fun _=> .inr ⟨hw,rfl,rfl,rfl⟩)
     | true=>
       obtain⟨s,h1,h⟩:=A8 (show ob (Ab.step P call fr Z o) _=some ()from h);obtain⟨h2,h3⟩:=mI hpu h1;exact glue _ _ (some s) h (fun hn=>absurd hlv hn) (fun s' hs=>by cases hs;exact⟨h2,h3⟩) (fun _=> .inl ⟨hw,s,h1,rfl,rfl,rfl⟩)
def ZC {P:Program}{call:X6}{os:Array Oper}:∀ (l:List Oper) (i:Nat) (fr:Fr) (Z:St) (ds:List Trace) (res:FST),os.toList.drop i=l->i<=os.size ->
  M5 P call os l i fr Z ds=some res->∃ F S r z,i<=z/\F i=fr/\S i=Z/\((z=os.size/\res.p=none/\F os.size=res.fr/\S os.size=res.Z)\/(z<os.size/\res.fr= .nil/\∃ o s,tC P call os F S z o s/\res.p=some s.v/\res.Z=s.Z)) /\
   Iz P call os F S r z i/\(∀ d,d∈ds->d∈res.ds) /\
   ∀ k s,i<=k->k<os.size->r k=some s->(∀ b,s.d= .read b-> .read k b∈res.ds)/\(s.d= .eff-> .eff k (S k) (S (k+1))∈res.ds):=by
 intro l;induction l with
 | nil=>
   intro i fr Z ds res hl hi h;cases h;have:i=os.size:=by
    have:=congrArg List.length hl;simp at this;omega
   subst this;exact⟨fun _=>fr,fun _=>Z,fun _=>none,os.size,BF _,rfl,rfl,.inl ⟨rfl,rfl,rfl,rfl⟩,⟨fun k o hk hz ho=>by have:=(Array.getElem?_eq_some_iff.1 ho).1;omega,fun k s _ h=>(nomatch h),fun _ _ _=>⟨rfl,rfl,rfl⟩,fun _ _ _ h=>(nomatch h),BF _⟩,fun _ h=>h,fun k s h1 h2 _=>om⟩
 | cons o l ih=>
   intro i fr Z ds res hl hi h;have hlt:i<os.size:=by
    have:=congrArg List.length hl;simp at this;omega
   have hll:os.size=i+1+l.length:=by
    have:=congrArg List.length hl;simp at this;omega
   have ho:os[i]? =some o:=by
    have:=congrArg (fun l:List Oper=>l[0]?) hl
    simpa using this
   have hl':os.toList.drop (i+1)=l:=by
    rw[<- dk,hl];rfl
   obtain⟨c,hw,h1⟩:=A8 (show ob (U9 os fr o) (fun c=>bi c (ob (Ab.step P call fr Z o) fun r=>Stepped.rec (motive:=fun _=>Option FST) (fun v Z' d=>Oh d (M5 P call os l (i+1) (I2 fr o.dst v) Z' (Jl i Z Z' d ds)) (kF P call os o.op l i fr Z v Z' ds)) r)
    (M5 P call os l (i+1) (I2 fr o.dst P9) Z ds))=some res from h)
   cases c with
   | true=>
     obtain⟨⟨v,Z',d⟩,h2,h3⟩:=A8 (show ob (Ab.step P call fr Z o) _=some res from h1);rcases ay (show Oh d (M5 P call os l (i+1) (I2 fr o.dst v) Z' (Jl i Z Z' d ds)) (kF P call os o.op l i fr Z v Z' ds)=some res from h3)with⟨h3,hnp⟩|⟨h3,BJ8⟩
     ·obtain⟨F,S,r,z,fz,f1,f2,f3,f5,f6,f7⟩:=ih (i+1) (I2 fr o.dst v) Z' (Jl i Z Z' d ds) res hl' om h3;refine⟨fun k=>if k=i then fr else F k,fun k=>if k=i then Z else S k,fun k=>if k=i then some ⟨v,Z',d⟩else r k,z,om,by simp,by simp,?_,⟨?_,?_,?_,?_,f5.zle⟩,?_,?_⟩
      ·rcases f3 with⟨g1,g2,g3,g4⟩|⟨g1,g2,o',s',g3,g4,g5⟩
       ·left;refine⟨g1,g2,?_,?_⟩
        ·show(if os.size=i then fr else F os.size)=_;rw[z0z om];exact g3
        ·show(if os.size=i then Z else S os.size)=_;rw[z0z om];exact g4
       ·right;refine⟨g1,g2,o',s',⟨g3.ho,?_,?_,g3.pan,g3.eff⟩,g4,g5⟩
        ·show U9 os (if z=i then fr else F z) o'=_;rw[z0z om];exact g3.RV
        ·show Ab.step P call (if z=i then fr else F z) (if z=i then Z else S z) o'=_;rw[z0z om,z0z om];exact g3.step
      ·intro k o' hk hkz ho';by_cases hki:k=i
       ·subst hki;rw[ho]at ho';cases ho';simp only[FP,z0z (show ¬ k+1=k by omega)];exact .inl ⟨hw,_,h2,rfl,f1,f2⟩
       ·simp only[z0z hki,z0z (show ¬ k+1=i by omega)];exact f5.step k o' om hkz ho'
      ·intro k s hk hs;by_cases hki:k=i
       ·subst hki;simp only[FP]at hs;cases hs;exact hnp
       ·simp only[z0z hki]at hs;exact f5.np k s om hs
      ·intro k hk hn;simp only[z0z (show ¬ k=i by omega),z0z (show ¬ k+1=i by omega)];exact f5.cj k hk hn
      ·intro k s hk hs;simp only[z0z (show ¬ k=i by omega)]at hs ⊢;exact f5.late k s hk hs
      ·intro d' hd';refine f6 d' ?_;unfold Jl;cases d<;>simp[hd']
      ·intro k s hk hk2 hr;by_cases hki:k=i
       ·subst hki;simp only[FP]at hr;cases hr;refine⟨fun b hb=>f6 _ ?_,fun he=>?_⟩
        ·change d= .read b at hb;subst hb;unfold Jl;simp
        ·change d= .eff at he;subst he;simp only[FP,z0z (show ¬ k+1=k by omega),f2];exact f6 _ (by unfold Jl;simp)
       ·simp only[z0z hki]at hr;simp only[z0z hki,z0z (show ¬ k+1=i by omega)];exact f7 k s om hk2 hr
     ·obtain⟨h4,h5⟩:=G7 h3;obtain⟨_,h6,h7⟩:=A8 h5;cases h7;obtain⟨F,S,r,f1,f2,f3,f4,f5⟩:=AB1 l (i+1) fr Z hl' om om h6;have hnl:¬ Live os i i:=by rintro(h1|⟨h1,_⟩)<;>omega
      refine⟨fun k=>if k=i then fr else F k,fun k=>if k=i then Z else S k,fun k=>if k=i then none else r k,i,BF _,by simp,by simp,
       .inr ⟨hlt,rfl,o,_,⟨ho,by simpa using hw,by simpa using h2,BJ8,h4⟩,rfl,rfl⟩,⟨?_,?_,?_,?_,hi⟩,fun _ h=>h,?_⟩
      ·intro k o' hk hlv ho';have hki:k≠i:=fun e=>hnl (e ▸ hlv);simp only[z0z hki,z0z (show ¬ k+1=i by omega)];exact f5 k o' om hlv ho'
      ·intro k s hk hs;by_cases hki:k=i
       ·subst hki;simp at hs
       ·simp only[z0z hki]at hs;rw[(f4 k s om hs).1];exact fun h=>nomatch h
      ·intro k hk hn;by_cases hki:k=i
       ·subst hki;simp only[FP,z0z (show ¬ k+1=k by omega),f1,f2];exact⟨trivial,trivial,trivial⟩
       ·simp only[z0z hki,z0z (show ¬ k+1=i by omega)];exact f3 k om hn
      ·intro k s hk hs;by_cases hki:k=i
       ·subst hki;simp at hs
       ·simp only[z0z hki]at hs ⊢;exact f4 k s om hs
      ·intro k s hk _ hs;by_cases hki:k=i
       ·subst hki;simp at hs
       ·simp only[z0z hki]at hs;have:=(f4 k s om hs).1;exact⟨fun b hb=>(by rw[this]at hb;cases hb),fun he=>(by rw[this]at he;cases he)⟩
   | false=>
     change M5 P call os l (i+1) (I2 fr o.dst P9) Z ds=some res at h1;obtain⟨F,S,r,z,fz,f1,f2,f3,f5,f6,f7⟩:=ih (i+1) (I2 fr o.dst P9) Z ds res hl' om h1;refine⟨fun k=>if k=i then fr else F k,fun k=>if k=i then Z else S k,fun k=>if k=i then none else r k,z,om,by simp,by simp,?_,⟨?_,?_,?_,?_,f5.zle⟩,f6,?_⟩
     ·rcases f3 with⟨g1,g2,g3,g4⟩|⟨g1,g2,o',s',g3,g4,g5⟩
      ·left;refine⟨g1,g2,?_,?_⟩
       ·show(if os.size=i then fr else F os.size)=_;rw[z0z om];exact g3
       ·show(if os.size=i then Z else S os.size)=_;rw[z0z om];exact g4
      ·right;refine⟨g1,g2,o',s',⟨g3.ho,?_,?_,g3.pan,g3.eff⟩,g4,g5⟩
       ·show U9 os (if z=i then fr else F z) o'=_;rw[z0z om];exact g3.RV
       ·show Ab.step P call (if z=i then fr else F z) (if z=i then Z else S z) o'=_;rw[z0z om,z0z om];exact g3.step
     ·intro k o' hk hkz ho';by_cases hki:k=i
      ·subst hki;rw[ho]at ho';cases ho';simp only[FP,z0z (show ¬ k+1=k by omega)];exact .inr ⟨hw,trivial,f1,f2⟩
      ·simp only[z0z hki,z0z (show ¬ k+1=i by omega)];exact f5.step k o' om hkz ho'
     ·intro k s hk hs;by_cases hki:k=i
      ·subst hki;simp at hs
      ·simp only[z0z hki]at hs;exact f5.np k s om hs
     ·intro k hk hn;simp only[z0z (show ¬ k=i by omega),z0z (show ¬ k+1=i by omega)];exact f5.cj k hk hn
     ·intro k s hk hs;simp only[z0z (show ¬ k=i by omega)]at hs ⊢;exact f5.late k s hk hs
     ·intro k s hk hk2 hr;by_cases hki:k=i
      ·subst hki;simp at hr
      ·simp only[z0z hki]at hr;simp only[z0z hki,z0z (show ¬ k+1=i by omega)];exact f7 k s om hk2 hr
def az {b:An}:∀ {l:List Trace},W3 bs i b l=true->∀ d∈l,Pu bs i b d=true:=by
 intro l;induction l with
 |nil=>intro _ d hd;simp at hd
 | cons x l ih=>
   intro h d hd;change bi (Pu bs i b x) (W3 bs i b l) false=true at h;cases hx:Pu bs i b x with
   |false=>rw[hx]at h;cases h
   | true=>
     rw[hx]at h;rcases Y5.1 hd with rfl|hd
     ·exact hx
     ·exact ih h d hd
def bA {all:List Trace}:∀ {l:List Trace},BL bs all l=true->∀ i b,.read i b∈l->W3 bs i b all=true:=by
 intro l;induction l with
 |nil=>intro _ i b hd;simp at hd
 | cons x l ih=>
   intro h i b hd;cases x with
   | read i' b'=>
     change bi (W3 bs i' b' all) (BL bs all l) false=true at h;cases hx:W3 bs i' b' all with
     |false=>rw[hx]at h;cases h
     | true=>
       rw[hx]at h;rcases Y5.1 hd with he|hd
       ·cases he;exact hx
       ·exact ih h i b hd
   | eff i' p q=>
     change BL bs all l=true at h;rcases Y5.1 hd with he|hd
     ·cases he
     ·exact ih h i b hd
def du {v w:Value}(h:veq v w=true):v=w:=by
 have bii:∀ {c x:Bool},bi c x false=true->c=true/\x=true:=by
  intro c x h;cases c with
  |false=>cases h
  |true=>exact⟨rfl,h⟩
 unfold veq at h;split at h
 ·split at h
  ·rename_i b _ c;cases b<;>cases c<;>first|rfl|cases h
  ·cases h
 ·split at h
  ·obtain⟨h1,h2⟩:=bii h;rw[WO h1];rw[Mv]at h2;rw[eq_of_beq h2]
  ·cases h
 ·split at h
  ·rw[WM]at h;rw[(MapKept.bytes_beq _ _).1 h]
  ·cases h
 ·split at h
  ·rfl
  ·cases h
 ·split at h
  ·obtain⟨h1,h2⟩:=bii h;rw[Aa h1,Aa h2]
  ·cases h
 ·split at h
  ·obtain⟨h1,h2⟩:=bii h;rw[Aa h1,Aa h2]
  ·cases h
 ·split at h
  ·obtain⟨h1,h2⟩:=bii h;obtain⟨h2,h3⟩:=bii h2;obtain⟨h3,h4⟩:=bii h3;rw[Aa h1,Aa h2,Aa h3,Aa h4]
  ·cases h
 ·split at h
  ·obtain⟨h1,h2⟩:=bii h;obtain⟨h2,h3⟩:=bii h2;obtain⟨h3,h4⟩:=bii h3;obtain⟨h4,h5⟩:=bii h4;rw[Aa h1,Aa h2,Aa h3,Aa h4,Aa h5]
  ·cases h
 ·split at h
  ·rfl
  ·cases h
 ·split at h
  ·rw[Aa h]
  ·cases h
 ·cases h
def AB2:∀ {l k:List Value},AU5 l k=true->l=k:=by
 intro l;induction l with
 |nil=>intro k h;cases k with|nil=>rfl|cons=>cases h
 | cons x l ih=>
   intro k h;cases k with
   |nil=>cases h
   | cons y k=>
     change bi (veq x y) (AU5 l k) false=true at h;cases hx:veq x y with
     |false=>rw[hx]at h;cases h
     |true=>rw[hx]at h;rw[du hx,ih h]
def ME {x y:Option (List Value)}(h:CJ x y=true):x=y:=by
 cases x with
 |none=>cases h
 | some l=>
   cases y with
   |none=>cases h
   |some k=>rw[AB2 h]
noncomputable def seen (Z:St) (r:An):Option (List Value):=Z.read r.b r.off r.n
def UO {ds:List Trace}(h:BL bs ds ds=true){j:Nat}{r:An}{pre post:St}(hr: .read i r∈ds) (he: .eff j pre post∈ds):
  ordered bs i j=true\/(r.b<pre.n->pre.ver r.b=post.ver r.b\/seen pre r=seen post r):=by
 have h1:=az (bA h i r hr) _ he;change bi (ordered bs i j) true (bi (Nat.blt r.b pre.n) (bi (Nat.beq (pre.ver r.b) (post.ver r.b)) true (CJ (seen pre r) (seen post r))) true)=true at h1;cases ho:ordered bs i j with
 |true=>exact .inl rfl
 | false=>
   right;intro hb;rw[ho]at h1;change bi (Nat.blt r.b pre.n) _ true=true at h1;rw[show Nat.blt r.b pre.n=true from by rw[Bt];exact hb]at h1;change bi (Nat.beq (pre.ver r.b) (post.ver r.b)) true (CJ (seen pre r) (seen post r))=true at h1;cases hv:Nat.beq (pre.ver r.b) (post.ver r.b)with
   |true=>exact .inl (Aa hv)
   |false=>rw[hv]at h1;exact .inr (ME h1)
section
variable {P:Program}{B8:Env}{G n:Nat}{call:X6}{os:Array Oper}{F:Nat->Fr}{S:Nat->St}{r:Nat->Option Stepped}{z:Nat}
def Ce (r:Nat->Option Stepped) (i:Nat):Prop:=∃ s,r i=some s/\s.d= .eff
def Bv (hC:As P B8 G call) (hch:Iz P call os F S r z 0)(ho:os[k]? =some o){s:Stepped}(hs:r k=some s):
  U9 os (F k) o=some true/\Class P B8 G (F k) (S k) o s/\F (k+1)=I2 (F k) o.dst s.v/\S (k+1)=s.Z:=by
 have hkz:Live os z k:=by
  apply SB;intro hn;rcases AW k z with hh|hh
  ·exact hn (.inl hh)
  ·rw[(hch.cj k hh hn).1]at hs;cases hs
 rcases hch.step k o (BM _) hkz ho with⟨h1,s',h2,h3,h4,h5⟩|⟨h1,h2,h3,h4⟩
 ·rw[hs]at h3;cases h3;exact⟨h1,Ia hC h2,h4,h5⟩
 ·rw[hs]at h2;cases h2
def Im (hch:Iz P call os F S r z 0)(hkz:Live os z k)(ho:os[k]? =some o) (hs:r k=none):
  U9 os (F k) o=some false/\F (k+1)=I2 (F k) o.dst P9/\S (k+1)=S k:=by
 rcases hch.step k o (BM _) hkz ho with⟨h1,s',h2,h3,h4,h5⟩|⟨h1,h2,h3,h4⟩
 ·rw[hs]at h3;cases h3
 ·exact⟨h1,h3,h4⟩
def Gt (hC:As P B8 G call) (hch:Iz P call os F S r z 0)(hk:k<os.size):
  Adv (S k) (S (k+1))/\(¬ Ce r k->∀ b,b<(S k).n->(S (k+1)).h.get b=(S k).h.get b):=by
 have ho:os[k]? =some os[k]:=Array.getElem?_eq_getElem hk;cases hr:r k with
 | none=>
   have h3:S (k+1)=S k:=by
    by_cases hh:Live os z k
    ·exact(Im hch hh ho hr).2.2
    ·exact(hch.cj k (by rcases AW k z with h|h;exact absurd (.inl h) hh;exact h) hh).2.2
   rw[h3];exact⟨.refl _,fun _ _ _=>rfl⟩
 | some s=>
   obtain⟨_,hcl,_,h5⟩:=Bv hC hch ho hr;rw[h5];cases hcl with
   |pure h=>exact⟨.refl _,fun _ _ _=>rfl⟩
   |new h=>exact⟨.new _ _ _,fun _ b hb=>Tr.L7 _ _ om⟩
   |read h=>exact⟨.refl _,fun _ _ _=>rfl⟩
   |eff h=>exact⟨h.1,fun hne=>absurd ⟨_,hr,rfl⟩ hne⟩
   |pan h=>exact absurd rfl (hch.np k _ (BM _) hr)
def I3 (hC:As P B8 G call) (hch:Iz P call os F S r z 0):∀ {j:Nat},i<=j->j<=os.size->Adv (S i) (S j):=by
 intro j;induction j with
 | zero=>intro h1 _;obtain rfl:i=0:=om
         exact .refl _
 | succ j ih=>
   intro h1 h2;by_cases hij:i=j+1
   ·subst hij;exact .refl _
   ·exact(ih om om).trans (Gt hC hch om).1
def Rn (hC:As P B8 G call) (hch:Iz P call os F S r z 0):∀ {k:Nat},z<=k->k<=os.size->S k=S z:=by
 intro k;induction k with
 | zero=>intro hk _;obtain rfl:z=0:=om
         rfl
 | succ k ih=>
   intro hk hk2;by_cases he:z=k+1
   ·rw[he]
   ·rw [<- ih om om];by_cases hh:Live os z k
    ·have ho:os[k]? =some os[k]:=Array.getElem?_eq_getElem om;cases hr:r k with
     |none=>exact(Im hch hh ho hr).2.2
     | some s=>
       obtain⟨_,hcl,_,h5⟩:=Bv hC hch ho hr;rw[h5];exact(hch.late k s om hr).2
    ·exact(hch.cj k om hh).2.2
def Eu (hC:As P B8 G call) (hch:Iz P call os F S r z 0){b:Nat}(hb:b<(S i).n):∀ {j:Nat},i<=j->j<=os.size ->
  (∀ k,i<=k->k<j->Ce r k->(S k).ver b=(S (k+1)).ver b)->(S j).h.get b=(S i).h.get b:=by
 intro j;induction j with
 | zero=>intro h1 _ _;obtain rfl:i=0:=om
         rfl
 | succ j ih=>
   intro h1 h2 hv;by_cases hij:i=j+1
   ·subst hij;rfl
   ·have h3:=ih om om (fun k hk1 hk2 he=>hv k hk1 om he);have hbj:b<(S j).n:=z5z hb (I3 hC hch om om).n;obtain⟨a1,a2⟩:=Gt hC hch (k:=j) om;by_cases he:Ce r j
    ·rcases a1.ver b hbj with h4|h4
     ·exact h4.trans h3
     ·have:=hv j om om he;omega
    ·exact(a2 he b hbj).trans h3
def Ro {Z':St}{r:An}(h:Z'.h.get r.b=Z.h.get r.b):seen Z' r=seen Z r:=by
 unfold seen St.read St.GK St.blk;rw[h]
def Lq (hC:As P B8 G call) (hch:Iz P call os F S r z 0){x:An}(hb:x.b<(S i).n):∀ {j:Nat},i<=j->j<=os.size ->
  (∀ k,i<=k->k<j->Ce r k->seen (S k) x=seen (S (k+1)) x)->seen (S j) x=seen (S i) x:=by
 intro j;induction j with
 | zero=>intro h1 _ _;obtain rfl:i=0:=om
         rfl
 | succ j ih=>
   intro h1 h2 hv;by_cases hij:i=j+1
   ·subst hij;rfl
   ·have h3:=ih om om (fun k hk1 hk2 he=>hv k hk1 om he);have hbj:x.b<(S j).n:=z5z hb (I3 hC hch om om).n;obtain⟨a1,a2⟩:=Gt hC hch (k:=j) om;by_cases he:Ce r j
    ·rw[<- hv j om om he];exact h3
    ·rw[Ro (a2 he x.b hbj)];exact h3
def Cn (os:Array Oper) (S:Nat->St) (k b:Nat) (B:Blk):Prop :=
 (b<(S k).n/\(S k).blk b=some B)\/∃ j,k<=j/\j<os.size/\(S j).n<=b/\b<(S (j+1)).n/\(S (j+1)).blk b=some B
structure Inv (B8:Env) (os:Array Oper) (F:Nat->Fr) (S:Nat->St) (r:Nat->Option Stepped) (z:Nat) (O₀:Place) (a₀:Act) (w₀:World) (L:Nat->Prop) (O:Place) (a:Act) (w:World) (k:Nat):Prop where
 kle:k<=os.size
 cp:∀ j,j<k->Ce r j->L j
 Hv:k<os.size->Ce r k/\¬ L k
 RX:∀ j,k<=j->j<os.size->Ce r j->¬ L j
 down:∀ j,L j->∀ i,Bef os i j->L i
 ext:∀ b,b<(S 0).n\/(S os.size).n<=b->O b=O₀ b
 unb:∀ i,i<os.size->¬ L i->∀ b,(S i).n<=b->b<(S (i+1)).n->O b=none
 le:O₀.le O
 tmp:∀ t i,i<=os.size->(∀ j o,j<i->os[j]? =some o->o.dst=some t->L j)->(∀ j o,i<=j->os[j]? =some o->o.dst=some t->¬ L j) ->
  ∀ v,(F i).get t=some v->∃ v',a.tmps[t]? =some v'/\H3 O v v'
 JA:a.tmps.size=a₀.tmps.size
 WC:a.defers=a₀.defers
 row:∀ b q B,O b=some q->Cn os S k b B->FR B8 O w q B
 dom:∀ b q,O b=some q->q.c<w.heap.size
 own:∀ b q B,O b=some q->Cn os S k b B->B.own=true->B8.lo<=q.c
 sep:∀ b q B b' q',O b=some q->Cn os S k b B->B.own=true->b'≠b->O b'=some q'->((S os.size).n<=b'\/∃ B',Cn os S k b' B')->q'.c≠q.c
 low:B8.Low w
 size:w₀.heap.size<=w.heap.size
 H4:∀ c,c<w₀.heap.size->(∀ b q B,O₀ b=some q->q.c=c->(S 0).blk b=some B->B.own=false)->w.heap[c]? =w₀.heap[c]?
 owned:∀ b q B,O b=some q->Cn os S k b B->q.c<w₀.heap.size->∃ b₀ q₀ B₀,O₀ b₀=some q₀/\q₀.c=q.c/\(S 0).blk b₀=some B₀/\(B.own=true->B₀.own=true)
 out:Outside w₀ w
 same:∀ b,b<(S 0).n->O₀ b=none->(S k).h.get b=(S 0).h.get b
 beyond:∀ j,z<=j->¬ Live os z j->¬ L j
 Yj:∀ i,i<k->¬ L i->∀ b,(S i).n<=b->b<(S (i+1)).n->(S k).h.get b=(S (i+1)).h.get b
end
end
section
variable {v v':Value}{j:Nat}{t:Tmp}
section
variable {P:Program}{B8:Env}{G n:Nat}{call:X6}{os:Array Oper}{F:Nat->Fr}{S:Nat->St}{r:Nat->Option Stepped}{z:Nat}
structure Ctx (P:Program) (B8:Env) (G n:Nat) (call:X6) (os:Array Oper) (F:Nat->Fr) (S:Nat->St) (r:Nat->Option Stepped) (z:Nat):Prop where
 hC:As P B8 G call
 hO:∀ (i:Nat) (o:Oper),os[i]? =some o->Ak P n G o=true
 hD:cf os
 hch:Iz P call os F S r z 0
 hR:∀ i x j s s',r i=some s->s.d= .read x->r j=some s'->s'.d= .eff->i<os.size->j<os.size->(Bef os i j\/Bef os j i)\/(x.b<(S j).n->seen (S j) x=seen (S (j+1)) x)
 fresh:∀ b,(S 0).n<=b->(S 0).h.get b=none
def pO (hD:cf os):∀ (j i:Nat) (o:Oper),os[j]? =some o->Bef os i j->i<j:=by
 intro j;induction j using Nat.strongRecOn with
 | _ j ih=>
   intro i o ho hb;obtain⟨e,h1,h2,h3⟩:=Oe ho hb;have hlt:=hD.TD j o e ho h1 h2;rcases h3 with h3|⟨h3,h4⟩
   ·omega
   ·have hsz:e.on<os.size:=by have:=(Array.getElem?_eq_some_iff.1 ho).1;omega
    have:=ih e.on hlt i os[e.on] (Array.getElem?_eq_getElem hsz) h4;omega
structure Rdy (os:Array Oper) (L:Nat->Prop) (i:Nat) (o:Oper):Prop where
 ho:os[i]? =some o
 no:¬ L i
 all:∀ e∈o.after,Region.binds .any e=true->L e.on
def Rdy.bef {L:Nat->Prop}{i:Nat}{o:Oper}(h:Rdy os L i o) (hd:∀ j,L j->∀ i,Bef os i j->L i)(hb:Bef os j i):L j:=by
 obtain⟨e,h1,h2,h3⟩:=Oe h.ho hb;have:=h.all e h1 h2;rcases h3 with h3|⟨_,h4⟩
 ·rw[<- h3];exact this
 ·exact hd _ this _ h4
def RT (hch:Iz P call os F S r z 0){p:Nat}:∀ {m:Nat},p<=m->m<=os.size->(∀ j o,p<=j->j<m->os[j]? =some o->o.dst≠some t)->(F m).get t=(F p).get t:=by
 intro m;induction m with
 | zero=>intro h _ _;obtain rfl:p=0:=om
         rfl
 | succ m ih=>
   intro h1 h2 h3;by_cases hpm:p=m+1
   ·subst hpm;rfl
   ·rw [<- ih om om fun j o a b c=>h3 j o a om c];have hm:m<os.size:=om;have ho:os[m]? =some os[m]:=Array.getElem?_eq_getElem hm;have hne:=h3 m os[m] om om ho;have xL:∀ v,(I2 (F m) os[m].dst v).get t=(F m).get t:=by
     intro v;cases hd:os[m].dst with
     |none=>rfl
     | some d=>
       rw[Ns,Tr.L7];intro he;subst he;exact hne hd
    rcases AW m z with hmz|hmz
    ·rcases hch.step m os[m] (BM _) (.inl hmz) ho with⟨_,s,_,_,h4,_⟩|⟨_,_,h4,_⟩
     ·rw[h4];exact xL _
     ·rw[h4];exact xL _
    ·by_cases hl:Live os z m
     ·rcases hch.step m os[m] (BM _) hl ho with⟨_,s,_,_,h4,_⟩|⟨_,_,h4,_⟩
      ·rw[h4];exact xL _
      ·rw[h4];exact xL _
     ·rw[(hch.cj m hmz hl).2.1]
section
variable {O₀ O:Place}{a₀ a:Act}{w₀ w:World}{L:Nat->Prop}{k i:Nat}{o:Oper}
def Inv.Ai6 (hX:Ctx P B8 G n call os F S r z) (hI:Inv B8 os F S r z O₀ a₀ w₀ L O a w k) (hi:Rdy os L i o)(ht:Rd os o t)(hv:(F i).get t=some v):
  ∃ v',a.tmps[t]? =some v'/\H3 O v v':=by
 have hlt:=(Array.getElem?_eq_some_iff.1 hi.ho).1;refine hI.tmp t i om (fun j oj hj ho hd=>?_) (fun j oj hj ho hd hL=>?_) v hv
 ·exact hi.bef hI.down (hX.hD.names j i oj o hj ho hi.ho ⟨t,.inl ⟨hd,.inr ht⟩⟩)
 ·by_cases hji:j=i
  ·subst hji;exact hi.no hL
  ·exact hi.no (hI.down j hL i (hX.hD.names i j o oj om hi.ho ho ⟨t,.inr ⟨hd,ht⟩⟩))
def Inv.known (hX:Ctx P B8 G n call os F S r z) (hI:Inv B8 os F S r z O₀ a₀ w₀ L O a w k) (hi:Rdy os L i o) (hG:Bm O₀ G):P4 O (F i) a.eval o.op.operands.toList :=
 RU (hG.mono hI.le) (hX.hO i o hi.ho) fun _ ht v hv=>hI.Ai6 hX hi (.inl ht) hv
def Inv.RV (hX:Ctx P B8 G n call os F S r z) (hI:Inv B8 os F S r z O₀ a₀ w₀ L O a w k) (hi:Rdy os L i o){c:Bool}(hw:U9 os (F i) o=some c):Region.wanted o (yielded os a.tmps)=c :=
 KT hw fun j want t h1 h2 v hv=>hI.Ai6 hX hi (.inr ⟨j,want,h1,h2⟩) hv
def Inv.AO4 (hX:Ctx P B8 G n call os F S r z) (hI:Inv B8 os F S r z O₀ a₀ w₀ L O a w k) (hi:Rdy os L i o) (hn:n<=a₀.tmps.size){O':Place}(hle:O.le O')(hF:F (i+1)=I2 (F i) o.dst v) (hv:H3 O' v v'):
  ∀ t m,m<=os.size->(∀ j oj,j<m->os[j]? =some oj->oj.dst=some t->L j\/j=i)->(∀ j oj,m<=j->os[j]? =some oj->oj.dst=some t->¬ (L j\/j=i)) ->
   ∀ u,(F m).get t=some u->∃ u',(a.put o.dst v').tmps[t]? =some u'/\H3 O' u u':=by
 intro t m hm h1 h2 u hu;by_cases hd:o.dst=some t
 ·have him:i<m:=by
   rcases AW i m with hh|hh
   ·exact hh
   ·exact absurd (.inr rfl) (h2 i o hh hi.ho hd)
  have Dk:=RT hX.hch (t:=t) (p:=i+1) (m:=m) om hm (fun j oj hj1 hj2 hoj hdj=>by
   rcases h1 j oj hj2 hoj hdj with hL|he
   ·exact hi.no (hI.down j hL i (hX.hD.names i j o oj om hi.ho hoj ⟨t,.inl ⟨hd,.inl hdj⟩⟩))
   ·omega)
  rw[Dk,hF,hd,Ns,Tr.get_set_same]at hu;cases hu;refine⟨v',?_,hv⟩;rw[hd];show(a.tmps.setIfInBounds t v')[t]? =_;rw[Array.getElem?_setIfInBounds_self_of_lt];exact z5z (RW (hX.hO i o hi.ho) t hd) (by rw[hI.JA];exact hn)
 ·have key:=hI.tmp t m hm (fun j oj hj ho hdj=>by
    rcases h1 j oj hj ho hdj with hL|he
    ·exact hL
    ·subst he;rw[hi.ho]at ho;cases ho;exact absurd hdj hd)
   (fun j oj hj ho hdj hL=>h2 j oj hj ho hdj (.inl hL)) u hu
  obtain⟨u',k1,k2⟩:=key;refine⟨u',?_,k2.mono hle⟩;cases hod:o.dst with
  |none=>exact k1
  | some d=>
    show(a.tmps.setIfInBounds d v')[t]? =_;rw[Array.getElem?_setIfInBounds_ne (by intro he;subst he;exact hd hod)];exact k1
def Inv.pP (hI:Inv B8 os F S r z O₀ a₀ w₀ L O a w k) (hi:Rdy os L i o):∀ j,(L j\/j=i)->∀ i',Bef os i' j->(L i'\/i'=i):=by
 intro j hj i' hb;rcases hj with hj|rfl
 ·exact .inl (hI.down j hj i' hb)
 ·exact .inl (hi.bef hI.down hb)
def Inv.quiet (hX:Ctx P B8 G n call os F S r z) (hI:Inv B8 os F S r z O₀ a₀ w₀ L O a w k) (hi:Rdy os L i o) (hz:Live os z i) (hn:n<=a₀.tmps.size)(hF:F (i+1)=I2 (F i) o.dst v) (hv:H3 O v v') (hne:¬ Ce r i):
  Inv B8 os F S r z O₀ a₀ w₀ (fun j=>L j\/j=i) O (a.put o.dst v') w k where
 kle:=hI.kle
 cp:=fun j h1 h2=> .inl (hI.cp j h1 h2)
 Hv:=fun h=>⟨(hI.Hv h).1,fun hL=>hL.elim (hI.Hv h).2 fun he=>hne (he ▸ (hI.Hv h).1)⟩
 RX:=fun j h1 h2 h3 hL=>hL.elim (hI.RX j h1 h2 h3) fun he=>hne (he ▸ h3)
 down:=hI.pP hi
 ext:=hI.ext
 unb:=fun i' h1 h2=>hI.unb i' h1 fun h=>h2 (.inl h)
 le:=hI.le
 tmp:=hI.AO4 hX hi hn (Place.le_refl _) hF hv
 JA:=by rw[EK];exact hI.JA
 WC:=by rw[put_defers];exact hI.WC
 row:=hI.row
 dom:=hI.dom
 own:=hI.own
 sep:=hI.sep
 low:=hI.low
 size:=hI.size
 H4:=hI.H4
 owned:=hI.owned
 out:=hI.out
 same:=hI.same
 beyond:=fun j h1 hn hL=>hL.elim (hI.beyond j h1 hn) fun he=>hn (he ▸ hz)
 Yj:=fun i' h1 h2=>hI.Yj i' h1 fun h=>h2 (.inl h)
def Og (hX:Ctx P B8 G n call os F S r z){i b:Nat}(hi:i<os.size) (hj:j<os.size) (h1:(S i).n<=b) (h2:b<(S (i+1)).n) (h3:(S j).n<=b) (h4:b<(S (j+1)).n):i=j:=by
 rcases jy i j with h|h|h
 ·have:=(I3 hX.hC hX.hch (i:=i+1) (j:=j) om om).n;omega
 ·exact h
 ·have:=(I3 hX.hC hX.hch (i:=j+1) (j:=i) om om).n;omega
def Inv.new (hX:Ctx P B8 G n call os F S r z) (hI:Inv B8 os F S r z O₀ a₀ w₀ L O a w k) (hi:Rdy os L i o) (hz:Live os z i) (hn:n<=a₀.tmps.size){cs:List Value}{t:Option TypeId}{v v':Value}(hF:F (i+1)=I2 (F i) o.dst v) (hS:S (i+1)=(S i).new cs t) (hne:¬ Ce r i)
  {w':World}{arr:Array Value}{el:TypeId}{lo hi':Nat}{vs more:List Value} (hs:w'.heap.size=w.heap.size+1) (LL:w'.heap[w.heap.size]? =some (.cells arr el (lo,hi'))) (hold:∀ c,c<w.heap.size->w'.heap[c]? =w.heap[c]?)
  (ho:Outside w w') (hfz:arr.size<=lo\/hi'<=lo) (hc:∀ v∈cs,K4 v=true) (Kc:arr.toList=vs++more) (hvs:E7 O cs vs) (ht:∀ x,t=some x->x=el)
  (hv:∀ O':Place,O' (S i).n=some ⟨w.heap.size,0,arr.size⟩->H3 O' v v') :
  Inv B8 os F S r z O₀ a₀ w₀ (fun j=>L j\/j=i) (O.put (S i).n ⟨w.heap.size,0,arr.size⟩) (a.put o.dst v') w' k:=by
 have hlt:=(Array.getElem?_eq_some_iff.1 hi.ho).1;have hSn:(S (i+1)).n=(S i).n+1:=by rw[hS];rfl
 have HH:O (S i).n=none:=hI.unb i hlt hi.no _ nL om;have hle:=Place.HY (O:=O) ⟨w.heap.size,0,arr.size⟩ HH;have pQ:(S (i+1)).h.get (S i).n=some ⟨cs,true,true,0,.row t⟩:=by rw[hS];exact Tr.get_set_same _ _ _
 have hki:k≠i:=fun he=>by
  subst he;exact hne (hI.Hv hlt).1
 have hB:∀ B,Cn os S k (S i).n B->B=⟨cs,true,true,0,.row t⟩:=by
  intro B hB;rcases hB with⟨h1,h2⟩|⟨j,h1,h2,h3,h4,h5⟩
  ·have hik:i<k:=by
    rcases AW i k with hh|hh
    ·exact hh
    ·have:=(I3 hX.hC hX.hch hh om).n;omega
   have h6:=hI.Yj i hik hi.no (S i).n nL om;rw[pQ]at h6;have h7:=(AH h2).1;rw[h6]at h7;cases h7;rfl
  ·have:=Og hX hlt h2 nL om h3 h4;subst this;have h7:=(AH h5).1;rw[pQ]at h7;cases h7;rfl
 have h0i:=(I3 hX.hC hX.hch (i:=0) (j:=i) om om).n;have hin:=(I3 hX.hC hX.hch (i:=i+1) (j:=os.size) om om).n
 refine⟨hI.kle,fun j h1 h2=> .inl (hI.cp j h1 h2),fun h=>⟨(hI.Hv h).1,fun hL=>hL.elim (hI.Hv h).2 fun he=>hki he⟩,fun j h1 h2 h3 hL=>hL.elim (hI.RX j h1 h2 h3) fun he=>hne (he ▸ h3),
  hI.pP hi,?_,?_,Place.le_trans hI.le hle,hI.AO4 hX hi hn hle hF (hv _ (Place.O7 _ _ _)),by rw[EK];exact hI.JA,by rw[put_defers];exact hI.WC,?_,?_,?_,?_,?_,?_,?_,?_,hI.out.trans ho,hI.same,fun j h1 hn hL=>hL.elim (hI.beyond j h1 hn) (fun he=>hn (he ▸ hz)),fun i' h1 h2=>hI.Yj i' h1 fun h=>h2 (.inl h)⟩
 ·intro b hb;rw[Place.Ae _ _ om];exact hI.ext b hb
 ·intro i' h1 h2 b h3 h4;rw[Place.Ae _ _ ?_]
  ·exact hI.unb i' h1 (fun h=>h2 (.inl h)) b h3 h4
  ·intro he;subst he;exact h2 (.inr (Og hX h1 hlt h3 h4 nL om))
 ·intro b q B hb hHy;by_cases hbn:b=(S i).n
  ·subst hbn;rw[Place.O7]at hb;cases hb;rw[hB B hHy];have hl:=hvs.length;refine .row rfl ⟨arr,el,lo,hi',LL,rfl,?_,fun _=>hfz,hc,fun j u hj=>?_⟩ (fun x hx=>by cases ht x hx;exact⟨rfl,_,_,LL⟩)
   ·show 0+cs.length<=arr.size;rw[<- PE,Kc];simp;omega
   ·obtain⟨u',h3,h4⟩:=hvs.get hj;refine⟨u',?_,h4.mono hle⟩;show arr[0+j]? =_;rw[<- Array.getElem?_toList,Kc,HC,List.getElem?_append_left (List.getElem?_eq_some_iff.1 h3).1];exact h3
  ·rw[Place.Ae _ _ hbn]at hb;exact(hI.row b q B hb hHy).mono hle (hold q.c (hI.dom b q hb))
 ·intro b q hb;by_cases hbn:b=(S i).n
  ·subst hbn;rw[Place.O7]at hb;cases hb;show w.heap.size<_;omega
  ·rw[Place.Ae _ _ hbn]at hb;have:=hI.dom b q hb;omega
 ·intro b q B hb hHy hO;by_cases hbn:b=(S i).n
  ·subst hbn;rw[Place.O7]at hb;cases hb;exact hI.low.1
  ·rw[Place.Ae _ _ hbn]at hb;exact hI.own b q B hb hHy hO
 ·intro b q B b' q' hb hHy hO hbb hb' hl;by_cases hbn:b=(S i).n
  ·subst hbn;rw[Place.O7]at hb;cases hb;rw[Place.Ae _ _ hbb]at hb';have:=hI.dom b' q' hb';show q'.c≠w.heap.size;omega
  ·rw[Place.Ae _ _ hbn]at hb;by_cases jK:b'=(S i).n
   ·subst jK;rw[Place.O7]at hb';cases hb';have:=hI.dom b q hb;show w.heap.size≠q.c;omega
   ·rw[Place.Ae _ _ jK]at hb';exact hI.sep b q B b' q' hb hHy hO hbb hb' hl
 ·exact hI.low.next om fun c hc=>hold c (z5z hc hI.low.1)
 ·have:=hI.size;omega
 ·intro c h1 h2;rw[hold c (by have:=hI.size;omega)];exact hI.H4 c h1 h2
 ·intro b q B hb hHy hcs;by_cases hbn:b=(S i).n
  ·subst hbn;rw[Place.O7]at hb;cases hb;change w.heap.size<_ at hcs;have:=hI.size;omega
  ·rw[Place.Ae _ _ hbn]at hb;exact hI.owned b q B hb hHy hcs
def Inv.Yk (hX:Ctx P B8 G n call os F S r z) (hI:Inv B8 os F S r z O₀ a₀ w₀ L O a w k) (hi:Rdy os L i o){s:Stepped}{x:An}(hr:r i=some s) (hd:s.d= .read x){cs:List Value}(hcs:seen (S i) x=some cs){q:BK}(hq:O x.b=some q):
  Seg O w q x.off cs:=by
 have hlt:=(Array.getElem?_eq_some_iff.1 hi.ho).1;obtain⟨x1,xo,xn⟩:=x;generalize hb':x1=b at *;have hfr:∀ j,j<=os.size->∀ b,(S j).n<=b->(S j).h.get b=none:=fun j hj=>(I3 hX.hC hX.hch (i:=0) (j:=j) om hj).fresh hX.fresh;have hbi:b<(S i).n:=by
  rcases AW b (S i).n with hh|hh
  ·exact hh
  ·obtain⟨B,hB,_⟩:=W7 (show(S i).read b xo xn=some cs from hcs);have:=(AH (y9 hB).1).1;rw[hfr i om b hh]at this;cases this
 have hne:¬ Ce r i:=by rintro⟨s',h1,h2⟩;rw[hr]at h1;cases h1;rw[hd]at h2;cases h2
 have hki:k≠i:=fun he=>by subst he;exact hne (hI.Hv hlt).1
 have done:∀ j,seen (S j) ⟨b,xo,xn⟩=seen (S i) ⟨b,xo,xn⟩->(∀ B,(S j).blk b=some B->Cn os S k b B)->Seg O w q xo cs:=by
  intro j hj hH;rw[hcs]at hj;obtain⟨B,hB,Gg⟩:=W7 (show(S j).read b xo xn=some cs from hj);obtain⟨hB1,_,hB2⟩:=y9 hB;have hs:=hI.row b q B hq (hH B hB1);unfold FR at hs;rw[hB2]at hs;exact(Row.seg hs.1 Gg).1
 rcases AW i k with hik|hik
 ·have hbk:b<(S k).n:=z5z hbi (I3 hX.hC hX.hch om hI.kle).n;refine done k (Lq hX.hC hX.hch hbi om hI.kle fun j h1 h2 h3=>?_) (fun B hB=> .inl ⟨hbk,hB⟩);obtain⟨s',h4,h5⟩:=h3;have hj:j<os.size:=by have:=hI.kle;omega
  have hji:j≠i:=fun he=>by subst he;exact hne ⟨s',h4,h5⟩
  rcases hX.hR i _ j s s' hr hd h4 h5 hlt hj with(h6|h6)|h6
  ·exact absurd (hI.down j (hI.cp j h2 ⟨s',h4,h5⟩) i h6) hi.no
  ·have:=pO hX.hD i j o hi.ho h6;omega
  ·exact h6 (z5z hbi (I3 hX.hC hX.hch om om).n)
 ·have AF5:∀ j,k<=j->j<i->Ce r j->b<(S j).n->seen (S j) ⟨b,xo,xn⟩=seen (S (j+1)) ⟨b,xo,xn⟩:=by
   intro j h1 h2 h3 h4;obtain⟨s',h5,h6⟩:=h3;rcases hX.hR i _ j s s' hr hd h5 h6 hlt om with(h7|h7)|h7
   ·have:=pO hX.hD j i os[j] (Array.getElem?_eq_getElem om) h7;omega
   ·exact absurd (hi.bef hI.down h7) (hI.RX j h1 om ⟨s',h5,h6⟩)
   ·exact h7 h4
  by_cases hbk:b<(S k).n
  ·refine done k ?_ (fun B hB=> .inl ⟨hbk,hB⟩);exact(Lq (x:=⟨b,xo,xn⟩) hX.hC hX.hch hbk om om fun j h1 h2 h3=>AF5 j h1 h2 h3 (z5z hbk (I3 hX.hC hX.hch h1 om).n)).symm
  ·have Ai7:∃ j,k<=j/\j<i/\(S j).n<=b/\b<(S (j+1)).n:=by
    have:∀ m,k<=m->m<=i->b<(S m).n->∃ j,k<=j/\j<m/\(S j).n<=b/\b<(S (j+1)).n:=by
     intro m;induction m with
     | zero=>intro h1 h2 h3;obtain rfl:k=0:=om
             exact absurd h3 hbk
     | succ m ih=>
       intro h1 h2 h3;by_cases hm:b<(S m).n
       ·have hkm:k<=m:=by
         rcases AW m k with hh|hh
         ·obtain rfl:k=m+1:=om;exact absurd h3 hbk
         ·exact hh
        obtain⟨j,g1,g2,g3,g4⟩:=ih hkm om hm;exact⟨j,g1,om,g3,g4⟩
       ·have hkm:k<=m:=by
         rcases AW m k with hh|hh
         ·obtain rfl:k=m+1:=om;exact absurd h3 hbk
         ·exact hh
        exact⟨m,hkm,om,om,h3⟩
    exact this i om nL hbi
   obtain⟨j,g1,g2,g3,g4⟩:=Ai7;refine done (j+1) ?_ (fun B hB=> .inr ⟨j,g1,om,g3,g4,hB⟩);exact(Lq (x:=⟨b,xo,xn⟩) hX.hC hX.hch g4 om om fun m h1 h2 h3=>AF5 m om h2 h3 (z5z g4 (I3 hX.hC hX.hch h1 om).n)).symm
def Inv.effect (hX:Ctx P B8 G n call os F S r z) (hI:Inv B8 os F S r z O₀ a₀ w₀ L O a w i) (hi:Rdy os L i o) (hz:Live os z i) (hn:n<=a₀.tmps.size){O':Place}{w':World}{v v':Value}(hF:F (i+1)=I2 (F i) o.dst v)
  (hR:Rel B8 O' (S (i+1)) w') (hf:X9 O (S i) w O' (S (i+1)) w') (hle:O.le O') (hv:H3 O' v v') {k':Nat} (hk1:i<k') (hk2:k'<=os.size) (hk3:∀ j,i<j->j<k'->¬ Ce r j) (hk4:k'<os.size->Ce r k') :
  Inv B8 os F S r z O₀ a₀ w₀ (fun j=>L j\/j=i) O' (a.put o.dst v') w' k':=by
 have hlt:=(Array.getElem?_eq_some_iff.1 hi.ho).1;have Kt:∀ x y,x<=y->y<=os.size->(S x).n<=(S y).n:=fun x y h1 h2=>(I3 hX.hC hX.hch h1 h2).n;have h0i:=Kt 0 i om om;have hin:=Kt (i+1) os.size om om;have hik:=Kt (i+1) k' om hk2;have hii:=Kt i (i+1) om om;have later:∀ b x,i+1<=x->x<=k'->b<(S x).n->(S k').h.get b=(S x).h.get b:=fun b x h1 h2 h3=>
  Eu hX.hC hX.hch h3 h2 hk2 fun j g1 g2 g3=>absurd g3 (hk3 j om om)
 have RY:∀ {b x y},(S x).h.get b=(S y).h.get b->(S x).blk b=(S y).blk b:=by
  intro b x y h;show ob ((S x).h.get b) _=ob ((S y).h.get b) _;rw[h]
 have Wy:∀ {b q},O b=some q->b<(S i).n\/(S (i+1)).n<=b:=by
  intro b q hb;rcases AW b (S i).n with hh|hh
  ·exact .inl hh
  ·rcases AW b (S (i+1)).n with hh'|hh'
   ·rw[hI.unb i hlt hi.no b hh hh']at hb;cases hb
   ·exact .inr hh'
 -- a block is either one that the operation BO4 or made,or one that was made out of the AL1 order
 have split:∀ b q B,O' b=some q->Cn os S k' b B->(b<(S (i+1)).n/\(S (i+1)).blk b=some B)\/((S (i+1)).n<=b/\O b=some q/\Cn os S i b B):=by
  intro b q B hb hHy;rcases hHy with⟨h1,h2⟩|⟨j,h1,h2,h3,h4,h5⟩
  ·rcases AW b (S (i+1)).n with hh|hh
   ·exact .inl ⟨hh,by rw[<- RY (later b (i+1) nL hk1 hh)];exact h2⟩
   ·right;refine⟨hh,by rw[<- hf.ext b (.inr hh)];exact hb,.inr ?_⟩;have:∀ m,i+1<=m->m<=k'->b<(S m).n->∃ j,i+1<=j/\j<m/\(S j).n<=b/\b<(S (j+1)).n:=by
     intro m;induction m with
     |zero=>intro g1 _ _;omega
     | succ m ih=>
       intro g1 g2 g3;have him:i+1<=m:=by
        rcases AW i m with g|g
        ·exact g
        ·obtain rfl:m=i:=om;omega
       by_cases hm:b<(S m).n
       ·obtain⟨j,g4,g5,g6,g7⟩:=ih him om hm;exact⟨j,g4,om,g6,g7⟩
       ·exact⟨m,him,om,om,g3⟩
    obtain⟨j,g1,g2,g3,g4⟩:=this k' hk1 nL h1;exact⟨j,om,om,g3,g4,by rw[<- RY (later b (j+1) om om g4)];exact h2⟩
  ·have hge:(S (i+1)).n<=b:=AV (Kt (i+1) j om om) h3;exact .inr ⟨hge,by rw[<- hf.ext b (.inr hge)];exact hb,.inr ⟨j,om,h2,h3,h4,h5⟩⟩
 have core:∀ b B,(S i).blk b=some B->Cn os S i b B:=by
  intro b B hB;refine .inl ⟨?_,hB⟩;rcases AW b (S i).n with hh|hh
  ·exact hh
  ·have h1:=(AH hB).1;rw[(I3 hX.hC hX.hch (i:=0) (j:=i) om om).fresh hX.fresh b hh]at h1;cases h1
 have hsz:=hI.size;have hfs:=hf.size;refine⟨hk2,?_,?_,?_,hI.pP hi,?_,?_,Place.le_trans hI.le hle,hI.AO4 hX hi hn hle hF hv,by rw[EK];exact hI.JA,by rw[put_defers];exact hI.WC,?_,hR.dom,?_,?_,hR.low,om,?_,?_,hI.out.trans hf.out,?_,fun j h1 hn hL=>hL.elim (hI.beyond j h1 hn) (fun he=>hn (he ▸ hz)),?_⟩
 ·intro j h1 h2;rcases jy j i with h|h|h
  ·exact .inl (hI.cp j h h2)
  ·exact .inr h
  ·exact absurd h2 (hk3 j h h1)
 ·intro h;refine⟨hk4 h,fun hL=>hL.elim (hI.RX k' om h (hk4 h)) fun he=>om⟩
 ·intro j h1 h2 h3 hL;rcases hL with hL|hL
  ·exact hI.RX j om h2 h3 hL
  ·omega
 ·intro b hb;rw[hf.ext b om];exact hI.ext b hb
 ·intro i' h1 h2 b h3 h4;have Aw5:i'≠i:=fun he=>h2 (.inr he);have:b<(S i).n\/(S (i+1)).n<=b:=by
   rcases AW i' i with h|h
   ·have:=Kt (i'+1) i om om;omega
   ·have:=Kt (i+1) i' om om;omega
  rw[hf.ext b this];exact hI.unb i' h1 (fun h=>h2 (.inl h)) b h3 h4
 ·intro b q B hb hHy;rcases split b q B hb hHy with⟨_,h2⟩|⟨h1,h2,h3⟩
  ·exact hR.Hm b q B hb h2
  ·refine(hI.row b q B h2 h3).mono hle (hf.H4 q.c (hI.dom b q h2) fun b1 q1 B1 g1 g2 g3=>?_);cases hO:B1.own with
   |false=>rfl
   | true=>
     have hb1:b1<(S i).n:=by rcases core b1 B1 g3 with⟨g,_⟩|⟨j,g4,g5,g6,g7,g8⟩
                             ·exact g
                             ·rcases Wy g1 with g|g
                              ·exact g
                              ·have:=(AH g3).1;rw[(I3 hX.hC hX.hch (i:=0) (j:=i) om om).fresh hX.fresh b1 om]at this;cases this
     exact absurd g2.symm (hI.sep b1 q1 B1 b q g1 (core b1 B1 g3) hO om h2 (.inr ⟨B,h3⟩))
 ·intro b q B hb hHy hO;rcases split b q B hb hHy with⟨_,h2⟩|⟨h1,h2,h3⟩
  ·exact hR.own b q B hb h2 hO
  ·exact hI.own b q B h2 h3 hO
 ·intro b q B b' q' hb hHy hO hbb hb' hl;rcases split b q B hb hHy with⟨h1,h2⟩|⟨h1,h2,h3⟩
  ·refine hR.sep b q B b' q' hb h2 hO hbb hb' ?_;rcases hl with hl|⟨B',hl⟩
   ·exact .inl om
   ·rcases split b' q' B' hb' hl with⟨_,g2⟩|⟨g1,_,_⟩
    ·exact .inr ⟨B',g2⟩
    ·exact .inl g1
  ·rcases hl with hl|⟨B',hl⟩
   ·have Aw6:O b'=some q':=by rw[<- hf.ext b' (.inr om)];exact hb'
    exact hI.sep b q B b' q' h2 h3 hO hbb Aw6 (.inl hl)
   ·rcases split b' q' B' hb' hl with⟨g1,g2⟩|⟨g1,g2,g3⟩
    ·intro he;have hqc:=hI.dom b q h2;obtain⟨b₀,q₀,B₀,j1,j2,j3,_⟩:=hf.owned b' q' B' hb' g2 om;have hb0:=core b₀ B₀ j3;have Aw7:b₀≠b:=by
      rcases Wy j1 with g|g
      ·omega
      ·have:=(AH j3).1;rw[(I3 hX.hC hX.hch (i:=0) (j:=i) om om).fresh hX.fresh b₀ om]at this;cases this
     exact hI.sep b q B b₀ q₀ h2 h3 hO Aw7 j1 (.inr ⟨B₀,hb0⟩) om
    ·exact hI.sep b q B b' q' h2 h3 hO hbb g2 (.inr ⟨B',g3⟩)
 ·intro c h1 h2;rw[hf.H4 c om ?_]
  ·exact hI.H4 c h1 h2
  ·intro b1 q1 B1 g1 g2 g3;cases hO:B1.own with
   |false=>rfl
   | true=>
     obtain⟨b₀,q₀,B₀,j1,j2,j3,j4⟩:=hI.owned b1 q1 B1 g1 (core b1 B1 g3) om;have:=h2 b₀ q₀ B₀ j1 om j3;rw[j4 hO]at this;cases this
 ·intro b q B hb hHy hcs;rcases split b q B hb hHy with⟨h1,h2⟩|⟨h1,h2,h3⟩
  ·obtain⟨b₁,q₁,B₁,g1,g2,g3,g4⟩:=hf.owned b q B hb h2 om;obtain⟨b₀,q₀,B₀,j1,j2,j3,j4⟩:=hI.owned b₁ q₁ B₁ g1 (core b₁ B₁ g3) om;exact⟨b₀,q₀,B₀,j1,om,j3,fun h=>j4 (g4 h)⟩
  ·exact hI.owned b q B h2 h3 hcs
 ·intro b h1 h2;rw[later b (i+1) nL hk1 om,hf.same b om (by rw[hI.ext b (.inl h1)];exact h2)];exact hI.same b h1 h2
 ·intro i' h1 h2 b h3 h4;have Aw5:i'≠i:=fun he=>h2 (.inr he);rcases AW i' i with h|h
  ·have hbi:=Kt (i'+1) i om om;rw[later b (i+1) nL hk1 om,hf.same b om (hI.unb i' om (fun h=>h2 (.inl h)) b h3 h4)];exact hI.Yj i' h (fun h=>h2 (.inl h)) b h3 h4
  ·exact later b (i'+1) om om h4
end
end
end
section
variable {O:Place}{a:Act}{w:World}{k:Nat}{o:Oper}{t:Tmp}
def count_set:∀ (l:List Bool) (i:Nat),l[i]? =some false->(l.set i true).count false+1=l.count false:=by
 intro l;induction l with
 |nil=>intro i h;simp at h
 | cons x l ih=>
   intro i h;cases i with
   |zero=>simp at h;subst h;simp
   | succ i=>
     have:=ih i (by simpa using h);rw[List.set_cons_succ,gp,gp];omega
def SS:∀ (l:List Bool),l.count false=0->∀ i,i<l.length->l[i]? =some true:=by
 intro l;induction l with
 |nil=>intro _ i h;simp at h
 | cons x l ih=>
   intro h i hi;rw[gp]at h;cases x with
   |false=>simp at h
   | true=>
     cases i with
     |zero=>rfl
     |succ i=>simpa using ih (by simpa using h) i (by simpa using hi)
section
variable {P:Program}{B8:Env}{G n:Nat}{call:X6}{os:Array Oper}{F:Nat->Fr}{S:Nat->St}{r:Nat->Option Stepped}{z:Nat}
def Mt (r:Nat->Option Stepped) (m:Nat):∀ (d i:Nat),m=i+d->∃ k,i<=k/\k<=m/\(∀ j,i<=j->j<k->¬ Ce r j)/\(k<m->Ce r k):=by
 intro d;induction d with
 |zero=>intro i h;exact⟨i,BF _,om,fun j h1 h2=>om,fun h=>om⟩
 | succ d ih=>
   intro i h;by_cases he:Ce r i
   ·exact⟨i,BF _,om,fun j h1 h2=>om,fun _=>he⟩
   ·obtain⟨k,h1,h2,h3,h4⟩:=ih (i+1) om;refine⟨k,om,h2,fun j g1 g2=>?_,h4⟩;by_cases hj:j=i
    ·subst hj;exact he
    ·exact h3 j om g2
variable {O₀:Place}{a₀:Act}{w₀:World}
def iX {L:Nat->Prop}{i:Nat}(hX:Ctx P B8 G n call os F S r z) (hI:Inv B8 os F S r z O₀ a₀ w₀ L O a w i) (hi:i<os.size):Rel B8 O (S i) w/\Cc O (S i).n (S (i+1)).n:=by
 have fr:=(I3 hX.hC hX.hch (i:=0) (j:=i) om om).fresh hX.fresh;have core:∀ b B,(S i).blk b=some B->Cn os S i b B:=by
  intro b B hB;refine .inl ⟨?_,hB⟩;rcases AW b (S i).n with hh|hh
  ·exact hh
  ·have h1:=(AH hB).1;rw[fr b hh]at h1;cases h1
 refine⟨⟨fr,fun b q B h1 h2=>hI.row b q B h1 (core b B h2),hI.dom,fun b q B h1 h2 h3=>hI.own b q B h1 (core b B h2) h3,?_,hI.low⟩,hI.unb i hi (hI.Hv hi).2⟩;intro b q B b' q' h1 h2 h3 h4 h5 h6;refine hI.sep b q B b' q' h1 (core b B h2) h3 h4 h5 ?_;rcases h6 with h6|⟨B',h6⟩
 ·rcases AW b' (S os.size).n with hh|hh
  ·right;have:∀ m,i<=m->m<=os.size->b'<(S m).n->∃ j,i<=j/\j<m/\(S j).n<=b'/\b'<(S (j+1)).n:=by
    intro m;induction m with
    | zero=>intro g1 g2 g3;obtain rfl:i=0:=om
            omega
    | succ m ih=>
      intro g1 g2 g3;by_cases him:i=m+1
      ·subst him;omega
      ·by_cases hm:b'<(S m).n
       ·obtain⟨j,g4,g5,g6,g7⟩:=ih om om hm;exact⟨j,g4,om,g6,g7⟩
       ·exact⟨m,om,om,om,g3⟩
   obtain⟨j,g1,g2,g3,g4⟩:=this os.size om nL hh;have hLj:L j:=by
    apply SB;intro hL;rw[hI.unb j g2 hL b' g3 g4]at h5;cases h5
   have hne:¬ Ce r j:=fun he=>hI.RX j g1 g2 he hLj;have ho:os[j]? =some os[j]:=Array.getElem?_eq_getElem g2;cases hr:r j with
   | none=>
     obtain⟨_,_,k3⟩:=Im hX.hch (by apply SB;intro hn;rcases AW j z with hh|hh;exact hn (.inl hh);exact absurd hLj (hI.beyond j hh hn)) ho hr;rw[k3]at g4;omega
   | some s=>
     obtain⟨_,hcl,_,k5⟩:=Bv hX.hC hX.hch ho hr;cases hcl with
     |pure h=>change S (j+1)=S j at k5;rw[k5]at g4;omega
     |read h=>change S (j+1)=S j at k5;rw[k5]at g4;omega
     |eff h=>exact absurd ⟨_,hr,rfl⟩ hne
     |pan h=>exact absurd rfl (hX.hch.np j _ (BM _) hr)
     | @new cs vf t h=>
       change S (j+1)=(S j).new cs t at k5;have hb:b'=(S j).n:=by rw[k5]at g4;change b'<(S j).n+1 at g4;omega
       subst hb;exact⟨_,.inr ⟨j,g1,g2,g3,g4,by rw[k5];exact VE _ _ _⟩⟩
  ·exact .inl hh
 ·exact .inr ⟨B',core b' B' h6⟩
def Oy {L:Nat->Prop}(hX:Ctx P B8 G n call os F S r z) (hI:Inv B8 os F S r z O₀ a₀ w₀ L O a w k) (hk:k=os.size):
  Rel B8 O (S os.size) w/\X9 O₀ (S 0) w₀ O (S os.size) w:=by
 subst hk;have adv:=I3 hX.hC hX.hch (i:=0) (j:=os.size) om nL;have fr:=adv.fresh hX.fresh;have core:∀ b B,(S os.size).blk b=some B->Cn os S os.size b B:=by
  intro b B hB;refine .inl ⟨?_,hB⟩;rcases AW b (S os.size).n with hh|hh
  ·exact hh
  ·have h1:=(AH hB).1;rw[fr b hh]at h1;cases h1
 refine⟨⟨fr,fun b q B h1 h2=>hI.row b q B h1 (core b B h2),hI.dom,fun b q B h1 h2 h3=>hI.own b q B h1 (core b B h2) h3,?_,hI.low⟩,⟨hI.ext,adv.n,hI.size,hI.H4,fun b q B h1 h2 h3=>hI.owned b q B h1 (core b B h2) h3,hI.out,hI.same⟩⟩;intro b q B b' q' h1 h2 h3 h4 h5 h6;refine hI.sep b q B b' q' h1 (core b B h2) h3 h4 h5 (h6.imp id fun⟨B',h⟩=>⟨B',core b' B' h⟩)
def iY {L:Nat->Prop}(hX:Ctx P B8 G n call os F S r z) (hI:Inv B8 os F S r z O₀ a₀ w₀ L O a w k) (RM:∀ i,i<os.size->L i):
  Rel B8 O (S os.size) w/\X9 O₀ (S 0) w₀ O (S os.size) w/\EZ O (F os.size) a:=by
 have hk:k=os.size:=by
  rcases AW k os.size with h|h
  ·exact absurd (RM k h) (hI.Hv h).2
  ·have:=hI.kle;omega
 obtain⟨h1,h2⟩:=Oy hX hI hk;refine⟨h1,h2,?_⟩;intro t v hv;exact hI.tmp t os.size nL (fun j o h1 _ _=>RM j h1) (fun j o h1 h2 _=>by have:=(Array.getElem?_eq_some_iff.1 h2).1;omega) v hv
def LA (hch:Iz P call os F S r z 0)(ho:os[k]? =some o){s:Stepped}(hs:r k=some s):∀ c,o.op≠ .defer c:=by
 have hkz:Live os z k:=by
  apply SB;intro hn;rcases AW k z with hh|hh
  ·exact hn (.inl hh)
  ·rw[(hch.cj k hh hn).1]at hs;cases hs
 rcases hch.step k o (BM _) hkz ho with⟨h1,s',h2,h3,h4,h5⟩|⟨h1,h2,h3,h4⟩
 ·exact IZ h2
 ·rw[hs]at h2;cases h2
def qR {rd:Option Nat}(hX:Ctx P B8 G n call os F S r z) (hn:n<=a₀.tmps.size) (hG:Bm O₀ G){Q:Exit->Act->World->Prop}{N:Nat}(hF:Cc O₀ (S 0).n N)
  (hp:z=os.size\/(z<os.size/\∃ o s,tC P call os F S z o s/\s.Z.n<=N/\∀ O' a' w' v',Rel B8 O' s.Z w'->X9 O₀ (S 0) w₀ O' s.Z w'->H3 O' s.v v'->a'.tmps.size=a₀.tmps.size->a'.defers=a₀.defers->Q (cT v') a' w'))
  (hQ:z=os.size->∀ O' a' w',Rel B8 O' (S os.size) w'->X9 O₀ (S 0) w₀ O' (S os.size) w'->EZ O' (F os.size) a'->a'.tmps.size=a₀.tmps.size->a'.defers=a₀.defers->Q .normal a' w') :
  ∀ (fuel:Nat) (listed:Array Bool) (O:Place) (a:Act) (w:World) (k:Nat),listed.size=os.size->listed.toList.count false<=fuel ->
   Inv B8 os F S r z O₀ a₀ w₀ (fun j=>listed.getD j false=true) O a w k->wpAnyIn (FW rd) 0 P .any os Q fuel listed a w:=by
 have fin:∀ (listed:Array Bool) (O:Place) (a:Act) (w:World) (k:Nat),listed.size=os.size->Inv B8 os F S r z O₀ a₀ w₀ (fun j=>listed.getD j false=true) O a w k->Region.ready .any os listed=[]->Q .normal a w:=by
  intro listed O a w k hsz hI hr;have RM:∀ i,i<os.size->listed.getD i false=true:=by
   intro i;induction i using Nat.strongRecOn with
   | _ i ih=>
     intro hi;apply SB;intro hL;have tD:i∈Region.ready .any os listed:=by
      rw[Ue];refine⟨?_,os[i],Array.getElem?_eq_getElem hi,fun e he hb=>?_⟩
      ·rw[Hh]at hL ⊢;rw[Array.getElem?_eq_getElem om]at hL ⊢
       simpa using hL
      ·have:=hX.hD.TD i os[i] e (Array.getElem?_eq_getElem hi) he hb;exact ih e.on this om
     rw[hr]at tD;cases tD
  have hz:z=os.size:=by
   rcases hp with hz|⟨hz,_⟩
   ·exact hz
   ·exact absurd (RM z hz) (hI.beyond z nL (by rintro(h|⟨h,_⟩)<;>omega))
  obtain⟨h1,h2,h3⟩:=iY hX hI RM;exact hQ hz O a w h1 h2 h3 hI.JA hI.WC
 intro fuel;induction fuel with
 | zero=>
   intro listed O a w k hsz hc hI;have hr:Region.ready .any os listed=[]:=by
    apply AH0.2;intro i hi;rw[Ue]at hi;obtain⟨h1,o,ho,_⟩:=hi;have hlt:=(Array.getElem?_eq_some_iff.1 ho).1;have:=SS listed.toList om i (by rw[PE];omega);rw[Array.getElem?_toList]at this;rw[Hh,this]at h1;cases h1
   exact⟨hr,fin listed O a w k hsz hI hr⟩
 | succ fuel ih=>
   intro listed O a w k hsz hc hI;refine⟨fin listed O a w k hsz hI,fun i hi=>?_⟩;rw[Ue]at hi;obtain⟨h1,o,ho,h2⟩:=hi;have hlt:=(Array.getElem?_eq_some_iff.1 ho).1;have SU:listed[i]? =some false:=by
    rw[Hh,Array.getElem?_eq_getElem om]at h1;rw[Array.getElem?_eq_getElem om]
    simpa using h1
   have hno:¬ listed.getD i false=true:=by rw[Hh,SU];simp
   have hi:Rdy os (fun j=>listed.getD j false=true) i o:=⟨ho,hno,h2⟩
   have Mx:(fun j=>(listed.setIfInBounds i true).getD j false=true)=fun j=>listed.getD j false=true\/j=i:=by
    funext j
    apply propext;by_cases hj:j=i
    ·subst hj;simp[Hh,Array.getElem?_setIfInBounds_self_of_lt (show j<listed.size by omega)]
    ·rw[getD_set_ne false (fun h=>hj h.symm)];simp[hj]
   have go:∀ O' a' w' k',Inv B8 os F S r z O₀ a₀ w₀ (fun j=>listed.getD j false=true\/j=i) O' a' w' k'->wpAnyIn (FW rd) 0 P .any os Q fuel (listed.setIfInBounds i true) a' w':=by
    intro O' a' w' k' hI';refine ih _ O' a' w' k' (by simpa using hsz) ?_ (by rw[Mx];exact hI');have:=count_set listed.toList i (by rw[Array.getElem?_toList];exact SU);rw[AH1];omega
   have hpz:Live os z i\/(i=z/\z<os.size/\∃ s,tC P call os F S z o s/\s.Z.n<=N/\∀ O' a' w' v',Rel B8 O' s.Z w'->X9 O₀ (S 0) w₀ O' s.Z w'->H3 O' s.v v'->a'.tmps.size=a₀.tmps.size->a'.defers=a₀.defers->Q (cT v') a' w'):=by
    rcases hp with hz|⟨hz,o',s',h3,h4⟩
    ·left;left;omega
    ·rcases jy i z with hh|hh|hh
     ·exact .inl (.inl hh)
     ·subst hh;have:=h3.ho;rw[ho]at this;cases this;exact .inr ⟨rfl,hz,s',h3,h4⟩
     ·left;right;exact⟨hh,hlt,fun hb=>hI.beyond z nL (by rintro(h|⟨h,_⟩)<;>omega) (hi.bef hI.down hb)⟩
   rcases hpz with hiz|⟨rfl,hz,s,hpa,hsN,hQp⟩
   rotate_left
   ·unfold wpOpIn;rw[ho];simp only;rw[z1z (hI.RV hX hi hpa.RV)];have hk:=hI.known hX hi hG;have An1:k=os.size:=by
     rcases AW k os.size with hh|hh
     ·obtain⟨⟨s',j1,j2⟩,j3⟩:=hI.Hv hh;have hki:k<i:=by
       rcases AW k i with h|h
       ·exact h
       ·rw[(hX.hch.late k s' h j1).1]at j2;cases j2
      have hok:os[k]? =some os[k]:=Array.getElem?_eq_getElem hh;obtain⟨_,j5,_,_⟩:=Bv hX.hC hX.hch hok j1;have j6:DH os[k].op=true:=by
       cases j5 with
       |eff h'=>exact h'.2.1
       |pure _=>cases j2
       |new _=>cases j2
       |read _=>cases j2
       |pan _=>cases j2
      exact absurd (hi.bef hI.down (hX.hD.eff k i os[k] o hki hok ho j6 hpa.eff)) j3
     ·have:=hI.kle;omega
    obtain⟨e1,e2⟩:=Oy hX hI An1;have hSz:S os.size=S i:=Rn hX.hC hX.hch om nL;have HH:Cc O (S i).n N:=by
     intro b h1 h2;rw[hI.ext b (.inr (by rw[hSz];exact h1))];have:=(I3 hX.hC hX.hch (i:=0) (j:=i) (BM _) om).n;exact hF b om h2
    rw[hSz]at e1 e2;have hcl:=Ia hX.hC hpa.step;obtain⟨v,Z',d⟩:=s;have hd:=hpa.pan;change d= .pan at hd;subst hd;cases hcl with
    | pan h=>
      refine h.2 O a w N hk e1 HH hsN (hG.mono hI.le) _ _ _ fun v' w' O' q1 q2 q3=>?_;exact hQp O' a w' v' q1 (e2.trans q2) q3 hI.JA hI.WC
   unfold wpOpIn;rw[ho];simp only;cases hr:r i with
   | none=>
     obtain⟨g1,g2,_⟩:=Im hX.hch hiz ho hr;rw[z0z (by rw[hI.RV hX hi g1];simp)];exact⟨fun _ _=>trivial,go _ _ _ _ (hI.quiet hX hi hiz hn g2 (.tuple .nil) fun⟨s,h,_⟩=>by rw[hr]at h;cases h)⟩
   | some s=>
     obtain⟨g1,g2,g3,g4⟩:=Bv hX.hC hX.hch ho hr;rw[z1z (hI.RV hX hi g1)];have hd:∀ c,o.op≠ .defer c:=LA hX.hch ho hr;have hk:=hI.known hX hi hG;cases g2 with
     | @pure v h=>
       obtain⟨v',e1,e2⟩:=h O a.eval w hk;refine BS hd ?_;rw[e1,Oper.uponIn_value];exact go _ _ _ _ (hI.quiet hX hi hiz hn g3 e2 fun⟨s,h1,h2⟩=>by rw[hr]at h1;cases h1;cases h2)
     | @read v b h=>
       obtain⟨⟨cs,hcs⟩,h⟩:=h;obtain⟨_,h⟩:=h O a.eval w hk;obtain⟨v',e1,e2⟩:=h fun q cs' hq AT5=>hI.Yk hX hi hr rfl AT5 hq;refine BS hd ?_;rw[e1,Oper.uponIn_value];exact go _ _ _ _ (hI.quiet hX hi hiz hn g3 e2 fun⟨s,h1,h2⟩=>by rw[hr]at h1;cases h1;cases h2)
     | @new cs vf t h=>
       obtain⟨w',v',arr,el,lo,hi',vs,more,e1,e2,e3,e4,e5,e6,e7,e8,e9,et,e10⟩:=h O a.eval w hk;refine BS hd ?_;rw[e1,Oper.uponIn_value];exact go _ _ _ _ (hI.new hX hi hiz hn g3 g4 (fun⟨s,h1,h2⟩=>by rw[hr]at h1;cases h1;cases h2) e2 e3 e4 e5 e6 e7 e8 e9 et fun O' hq=>e10 O' _ hq)
     | @eff v Z' h=>
       have AT6:Ce r i:=⟨_,hr,rfl⟩
       have hki:k=i:=by
        rcases jy k i with hh|hh|hh
        ·obtain⟨⟨s',j1,j2⟩,j3⟩:=hI.Hv om;have hok:os[k]? =some os[k]:=Array.getElem?_eq_getElem om;obtain⟨_,j5,_,_⟩:=Bv hX.hC hX.hch hok j1;have j6:DH os[k].op=true:=by
          cases j5 with
          |eff h'=>exact h'.2.1
          |pure _=>cases j2
          |new _=>cases j2
          |read _=>cases j2
          |pan _=>cases j2
         exact absurd (hi.bef hI.down (hX.hD.eff k i os[k] o hh hok ho j6 h.2.1)) j3
        ·exact hh
        ·exact absurd (hI.cp i hh AT6) hno
       subst hki;obtain⟨hR,hF⟩:=iX hX hI hlt;change S (k+1)=Z' at g4;subst g4;obtain⟨k',m1,m2,m3,m4⟩:=Mt r os.size (os.size-(k+1)) (k+1) om;refine h.2.2 O a w _ hk hR hF nL (hG.mono hI.le) _ _ _ fun v' w' O' q1 q2 q3=>?_;exact go _ _ _ k' (hI.effect hX hi hiz hn g3 q1 q2 (q2.le hF nL) q3 om m2 (fun j x1 x2=>m3 j om x2) m4)
     |pan h=>exact absurd rfl (hX.hch.np i _ (BM _) hr)
end
/- The check, once, on the text. -/
def lS:∀ {l:List Operand},Operand.tmp t∈l->Nat.testBit (Hz l) t=true:=by
 intro l;induction l with
 |nil=>intro h;simp at h
 | cons x l ih=>
   intro h;show Nat.testBit (AH2 x ||| Hz l) t=true;rw[Zx,Sn];rcases Y5.1 h with rfl|h
   ·left;show Nat.testBit (2 ^ t) t=true;simp
   ·exact .inr (ih h)
def tE {os:Array Oper}(h:Rd os o t):Nat.testBit (Nat.lor (Hz o.op.operands.toList) (JB os o)) t=true:=by
 show Nat.testBit (Hz o.op.operands.toList ||| JB os o) t=true;rw[Zx,Sn];rcases h with h|⟨j,want,h1,h2⟩
 ·exact .inl (lS h)
 ·right;unfold JB;rw[h1];simp[h2]
def Wl (h:o.dst=some t):Nat.testBit (IA o) t=true:=by unfold IA;rw[h];simp
def iZ {a b t:Nat}(h1:Nat.testBit a t=true) (h2:Nat.testBit b t=true):Nat.beq (Nat.land a b) 0=false:=by
 rw[oZ];intro h;have h3:=Aa h;have h4:Nat.testBit (a &&& b) t=true:=by rw[Nat.testBit_and,h1,h2];rfl
 change a &&& b=0 at h3;rw[h3]at h4;simp at h4
def aH {os:Array Oper}:∀ (l:List Oper) (bs:List Nat) (j:Nat) (prev:List tF),Wm os l bs j prev=true->os.toList.drop j=l->(Region.before os).toList.drop j=bs ->
  (∀ i o,i<j->os[i]? =some o->⟨i,IA o,Nat.lor (Hz o.op.operands.toList) (JB os o),DH o.op⟩∈prev) ->
  ∀ k o,j<=k->os[k]? =some o->(∀ e∈o.after,Region.binds .any e=true->e.on<k)/\∀ i oi,i<k->os[i]? =some oi->((DH oi.op=true/\DH o.op=true)\/AH3 os oi o)->Bef os i k:=by
 intro l;induction l with
 | nil=>
   intro bs j prev _ hl _ _ k o hk ho;have:=congrArg List.length hl;simp at this;have:=(Array.getElem?_eq_some_iff.1 ho).1;omega
 | cons x l ih=>
   intro bs j prev h hl hb hp k o hk ho;cases bs with
   |nil=>cases h
   | cons b bs=>
     have hx:os[j]? =some x:=by
      have:=congrArg (fun l:List Oper=>l[0]?) hl
      simpa using this
     have hbj:(Region.before os).toList.getD j 0=b:=by
      have:=congrArg (fun l:List Nat=>l[0]?) hb;rw[List.getD_eq_getElem?_getD];simp only[List.getElem?_drop,AG,List.getElem?_cons_zero]at this;rw[this];rfl
     unfold Wm at h;rw[Q7,Q7]at h;obtain⟨h1,h2,h3⟩:=h;by_cases hkj:k=j
     ·subst hkj;rw[hx]at ho;cases ho;rw[GJ]at h1 h2;refine⟨fun e he hbd=>?_,fun i oi hik hoi hcl=>?_⟩
      ·have:=h1 e (by simpa using he);unfold tG at this;rw[hbd]at this;simp[Bt]at this;exact this
      ·have hpk:=h2 _ (hp i oi hik hoi);change bi (Nat.beq (Nat.land (IA oi) (Nat.lor (IA x) (Nat.lor (Hz x.op.operands.toList) (JB os x)))) 0&&(Nat.beq (Nat.land (IA x) (Nat.lor (Hz oi.op.operands.toList) (JB os oi))) 0&& !(DH x.op&&DH oi.op))) true (Nat.testBit b i)=true at hpk;have An2:(Nat.beq (Nat.land (IA oi) (Nat.lor (IA x) (Nat.lor (Hz x.op.operands.toList) (JB os x)))) 0&&(Nat.beq (Nat.land (IA x) (Nat.lor (Hz oi.op.operands.toList) (JB os oi))) 0&& !(DH x.op&&DH oi.op)))=false:=by
        rcases hcl with⟨e1,e2⟩|⟨t,⟨d1,d2⟩|⟨d1,d2⟩⟩
        ·rw[e1,e2];simp
        ·have:Nat.testBit (Nat.lor (IA x) (Nat.lor (Hz x.op.operands.toList) (JB os x))) t=true:=by
          show Nat.testBit (IA x ||| Nat.lor (Hz x.op.operands.toList) (JB os x)) t=true;rw[Zx,Sn];rcases d2 with d2|d2
          ·exact .inl (Wl d2)
          ·exact .inr (tE d2)
         rw[iZ (Wl d1) this];rfl
        ·rw[iZ (Wl d1) (tE d2)];simp
       rw[An2]at hpk;show Nat.testBit ((Region.before os).toList.getD k 0) i=true;rw[hbj];exact hpk
     ·refine ih bs (j+1) _ h3 (by rw[<- dk,hl];rfl) (by rw[<- dk,hb];rfl) (fun i o' hi ho'=>?_) k o om ho;by_cases hij:i=j
      ·subst hij;rw[hx]at ho';cases ho';simp
      ·exact GA _ (hp i o' om ho')
def Oo {os:Array Oper}(h:QV os=true):cf os:=by
 have key:=aH os.toList (Region.before os).toList 0 [] h rfl rfl (fun i o hi _=>om)
 exact⟨fun i o e ho he hb=>(key i o (BM _) ho).1 e he hb,fun i j oi oj hij hi hj e1 e2=>(key j oj (BM _) hj).2 i oi hij hi (.inl ⟨e1,e2⟩),
  fun i j oi oj hij hi hj hc=>(key j oj (BM _) hj).2 i oi hij hi (.inr hc)⟩
end
section
variable {O:Place}{w:World}{Z:St}{fr:Fr}{a:Act}
def ExR (O:Place) (o:Out) (e:Exit):Prop:=match o with
 | .normal=>e= .normal
 | .exit i=>e= .exit i
 | .ret=>e= .ret
 | .pan v=>∃ v',e=cT v'/\H3 O v v'
noncomputable def codeOk (P:Program) (n G:Nat) (c:Code):Bool :=
 Code.rec (motive:=fun _=>Bool) true
  (fun _ os draw=>bi (os.toList.all (Ak P n G)) (bi draw (bi (FX os.toList) true (QV os)) true) false)
  (fun _ _ a b=>bi a b false)
  (fun c _ _ a b=>bi (JW G c) (bi a b false) false)
  (fun _ _ a=>a) (fun _ a=>a) (fun f ps _ _ a b=>bi (JW G f) (bi (ps.toList.all fun p=>Nat.blt p n) (bi a b false) false) false) (fun _=>true) (fun _ a=>a) (fun _=>true) (fun _=>true) true (fun _=>true) c
noncomputable def VN (P:Program) (G:Nat) (fn:Func):Bool :=
 bi (fn.name== "runtime.NumGoroutine") false (Option.rec (motive:=fun _=>Bool) true (fun c=>codeOk P fn.ntmps G c) fn.body)
noncomputable def GL (P:Program) (H:Dq) (G:Nat) (l:List Func):Nat->Bool :=
 List.rec (motive:=fun _=>Nat->Bool) (fun _=>true) (fun fn _ ih k=>bi (bi (H k).isSome true (VN P G fn)) (ih (k+1)) false) l
def R4 {c x:Bool}(h:bi c x false=true):c=true/\x=true:=by
 cases c with
 |false=>cases h
 |true=>exact⟨rfl,h⟩
def XY {P:Program}{H:Dq}{G:Nat}:∀ {l:List Func}{k:Nat},GL P H G l k=true->∀ (i:Nat) (fn:Func),l[i]? =some fn->H (k+i)=none->VN P G fn=true:=by
 intro l;induction l with
 |nil=>intro k _ i fn h;simp at h
 | cons x l ih=>
   intro k h i fn hf hH;obtain⟨h1,h2⟩:=R4 (show bi (bi (H k).isSome true (VN P G x)) (GL P H G l (k+1)) false=true from h);cases i with
   | zero=>
     simp at hf;subst hf;rw[show H k=none from hH]at h1;exact h1
   |succ i=>exact ih h2 i fn (by simpa using hf) (by rw[show k+1+i=k+(i+1)from by omega];exact hH)
/- The marks that ranges over functions leave AE3 an AA9 deferred calls. -/
def Na (D:Nat):Deferred:={ target:= .collected D,args:=#[] }
structure Marks (lo:Nat) (w:World) (tl ds:List Deferred):Prop where
 ex:∃ Ds:List Nat,ds=Ds.map Na++tl/\Ds.Nodup/\∀ D∈Ds,lo<=D/\w.heap[D]? =some (.deferred (some []))
def Marks.nil (lo:Nat) (w:World) (tl:List Deferred):Marks lo w tl tl:=⟨[],rfl,List.nodup_nil,fun _ h=>by simp at h⟩
def FR.MZ {B8:Env}{q:BK}{B:Blk}(h:FR B8 O w q B){x:Option (List Deferred)}:w.heap[q.c]? ≠some (.deferred x):=by
 intro hd;unfold FR at h;split at h
 ·obtain⟨⟨arr,e,lo,hi,h1,_⟩,_⟩:=h;rw[hd]at h1;cases h1
 ·obtain⟨es,clock,h1,_⟩:=h;rw[hd]at h1;cases h1
 ·obtain⟨r,h⟩:=h;have h1:=h.Ux;rw[hd]at h1;cases h1
def Marks.PR {B8:Env}{lo:Nat}{O':Place}{Z':St}{w':World}{tl ds:List Deferred}(hm:Marks lo w tl ds) (hR:Rel B8 O Z w) (hF:X9 O Z w O' Z' w'):Marks lo w' tl ds:=by
 obtain⟨Ds,h1,h2,h3⟩:=hm;refine⟨Ds,h1,h2,fun D hD=>⟨(h3 D hD).1,?_⟩⟩;have h4:=(h3 D hD).2;have hlt:D<w.heap.size:=by
  rcases AW D w.heap.size with hh|hh
  ·exact hh
  ·rw[Array.getElem?_eq_none hh]at h4;cases h4
 rw[hF.H4 D hlt ?_]
 ·exact h4
 ·intro b q B hb hq hB;subst hq;exact absurd h4 (hR.Hm b q B hb hB).MZ
section
variable {P:Program}{B8:Env}{G:Nat}
/- At3. -/
def aw {t:TypeId}{p p' v:Value}(hR:Rel B8 O Z w) (hp:H3 O p p') (h:Om P Z t p=some v):∃ ad v',p'= .pointer (some ad)/\(loadVar t ad).run P w= .ok v' w/\H3 O v v':=by
 obtain⟨⟨b,off⟩,h2,k2⟩:=A8 h;obtain⟨q,hq,hx⟩:=Lc hp h2;obtain⟨g,h4,h5⟩:=A8 (show ob (Lw P t) _=some v from k2);have hg:=Wb h4 w;cases g with
 | true=>
   obtain⟨n,h6,h7⟩:=A8 (show ob (size? P t) _=some v from h5);obtain⟨cs,h8,h9⟩:=A8 h7;cases h9;obtain⟨B,h10,h11⟩:=W7 h8;obtain⟨vs,k1,k2,k3⟩:=(hR.row b q B hq h10).read (P:=P) h11;refine⟨_,.agg vs.toArray,hx,?_,.agg k3 k2⟩;simp only[Sem.run_bind,Sem.run_pure,Result.andThen_ok,loadVar,hg,FP,Bh h6,k1]
 | false=>
   obtain⟨cs,h8,h9⟩:=A8 (show ob (Z.read b off 1) _=some v from h5);obtain⟨B,h10,h11⟩:=W7 h8;obtain⟨v',k1,k2⟩:=(hR.row b q B hq h10).one (P:=P) h11 h9;refine⟨_,v',hx,?_,k2⟩;simp only[Sem.run_bind,Result.andThen_ok,loadVar,hg,IH,Gc,k1]
def ep (hR:Rel B8 O Z w) (hr:EZ O fr a):∀ (l:List ResultVar) (vs:List Value),IP P fr Z l=some vs ->
  ∃ vs',(l.mapM (fun r=>match r with| .tmp t=>pure (a.tmps.getD t undef)| .cell x t=>do loadVar t (<- asAddr (a.tmps.getD x undef)):ResultVar->Sem Value)).run P w= .ok vs' w/\E7 O vs vs':=by
 intro l;induction l with
 |nil=>intro vs h;cases h;exact⟨[],rfl,.nil⟩
 | cons x l ih=>
   intro vs h;obtain⟨v,h1,h2⟩:=A8 (show ob (Ao5 P fr Z x) (fun v=>ob (IP P fr Z l) fun vs=>some (v::vs))=some vs from h);obtain⟨us,h3,h4⟩:=A8 h2;cases h4;obtain⟨us',g1,g2⟩:=ih us h3;cases x with
   | tmp t=>
     obtain⟨v',k1,k2⟩:=hr t v h1;refine⟨v'::us',?_,.cons k2 g2⟩;have:a.tmps.getD t undef=v':=by rw[Hh,k1];rfl
     rw[me];simp only[Sem.run_bind,Sem.run_pure,Result.andThen_ok,this];rw[g1];rfl
   | cell x t=>
     obtain⟨p,h5,h6⟩:=A8 (show ob (fr.get x) (fun p=>Om P Z t p)=some v from h1);obtain⟨p',k1,k2⟩:=hr x p h5;obtain⟨ad,v',rfl,k4,k5⟩:=aw (P:=P) hR k2 h6;refine⟨v'::us',?_,.cons k5 g2⟩;have:a.tmps.getD x undef= .pointer (some ad):=by rw[Hh,k1];rfl
     rw[me];have hd:(do loadVar t (<- asAddr (a.tmps.getD x undef)):Sem Value).run P w= .ok v' w:=by
      rw[Sem.run_bind,this];exact k4
     rw[Sem.run_bind]
     refine(congrArg (fun r:Result Value=>r.andThen fun v w'=>Sem.run P (do
      let vs <- l.mapM (fun r=>match r with| .tmp t=>pure (a.tmps.getD t undef)| .cell x t=>do loadVar t (<- asAddr (a.tmps.getD x undef)):ResultVar->Sem Value)
      pure (v::vs)) w') hd).trans ?_
     simp only[Result.andThen_ok,Sem.run_bind];rw[g1];rfl
def Ha {fn:Func}(hR:Rel B8 O Z w) (hr:EZ O fr a){vs:List Value}(h:IP P fr Z fn.results.toList=some vs):
  ∃ v',(results fn a.tmps).run P w= .ok v' w/\H3 O (tup vs) v':=by
 obtain⟨vs',h1,h2⟩:=ep (P:=P) hR hr _ _ h;refine⟨if h:vs'.toArray.size=1 then vs'.toArray[0]else .tuple vs'.toArray,?_,?_⟩
 ·unfold results;rw[Sem.run_bind,AC4,Sem.run_map];exact(congrArg (fun r:Result (List Value)=>(r.andThen fun a w'=>Result.ok a.toArray w').andThen fun vs w'=>Sem.run P (pure (if h:vs.size=1 then vs[0]else .tuple vs)) w') h1)
 ·cases h2 with
  |nil=>exact .tuple .nil
  | cons h2 h3=>
    cases h3 with
    |nil=>exact h2
    |cons h3 h4=>exact .tuple (.cons h2 (.cons h3 h4))
def XZ:∀ (vs:List Value) (k:Nat) (fr:Fr) (t:Nat),(HZ vs k fr).get t=if k<=t/\t<k+vs.length then vs[t-k]? else fr.get t:=by
 intro vs;induction vs with
 |nil=>intro k fr t;rw[z0z (by simp only[JQ];omega)];rfl
 | cons v vs ih=>
   intro k fr t;show(HZ vs (k+1) (fr.set k v)).get t=_;rw[ih,Tr.Au];simp only[CE];by_cases h1:k+1<=t/\t<k+1+vs.length
   ·rw[z1z h1,z1z om,show t-k=(t-(k+1))+1 from by omega];simp
   ·rw[z0z h1];by_cases h2:t=k
    ·subst h2;rw[z1z rfl,z1z om];simp
    ·rw[z0z h2,z0z om]
end
end
section
variable {P:Program}{B8:Env}{G:Nat}
def bf (B8:Env) (lo:Nat) (tl:List Deferred) (O:Place) (Z:St) (w:World) (a:Act) (res:Res) (Q:Exit->Act->World->Prop):Prop :=
 ∀ e a' w' O',ExR O' res.o e->Rel B8 O' res.Z w'->X9 O Z w O' res.Z w'->EZ O' res.fr a'->a'.tmps.size=a.tmps.size->Marks lo w' tl a'.defers->Q e a' w'
def bZ (O:Place) (rd rl:Option Nat):Prop:=match rd with
 |none=>rl=none
 |some b=>∃ q,O b=some q/\rl=some q.c
def bZ.mono {O O':Place}{rd rl:Option Nat}(hm:O.le O') (h:bZ O rd rl):bZ O' rd rl:=by
 cases rd with
 |none=>exact h
 |some b=>obtain⟨q,h1,h2⟩:=h;exact⟨q,hm _ _ h1,h2⟩
def Nb (P:Program) (B8:Env) (G:Nat) (run:RunT):Prop :=
 ∀ rd c fr Z res,run rd c fr Z=some res->Adv Z res.Z/\∀ n,codeOk P n G c=true->∀ lo tl O a w N rl,lo<=w.heap.size->Rel B8 O Z w->Cc O Z.n N->res.Z.n<=N->EZ O fr a->n<=a.tmps.size->Marks lo w tl a.defers->Bm O G->bZ O rd rl ->
  ∀ Q:Exit->Act->World->Prop,bf B8 lo tl O Z w a res Q->c.wpIn (FW rl) 0 P Q a w
def jN {call:X6}(hC:As P B8 G call){os:Array Oper}{n:Nat}:∀ (l:List Oper) (fr:Fr) (Z:St) (res:Res),opsV P call os l fr Z=some res ->
  Adv Z res.Z/\((∀ o∈l,Ak P n G o=true)->∀ lo tl O a w N rl,Rel B8 O Z w->Cc O Z.n N->res.Z.n<=N->EZ O fr a->n<=a.tmps.size->Marks lo w tl a.defers->Bm O G ->
   ∀ Q:Exit->Act->World->Prop,bf B8 lo tl O Z w a res Q->wpListIn (FW rl) 0 P os Q l a w):=by
 intro l;induction l with
 | nil=>
   intro fr Z res h;cases h;exact⟨.refl _,fun _ lo tl O a w N rl hR hF hN hr hn hd hG Q hQ=>hQ .normal a w O rfl hR (.refl _ _ _) hr rfl hd⟩
 | cons o l ih=>
   intro fr Z res h;obtain⟨c,hw,h1⟩:=A8 (show ob (U9 os fr o) (fun c=>bi c (ob (step P call fr Z o) fun r=>Stepped.rec (motive:=fun _=>Option Res) (fun v Z d=>Oh d (opsV P call os l (I2 fr o.dst v) Z) (some ⟨.pan v,fr,Z⟩)) r) (opsV P call os l (I2 fr o.dst P9) Z))=some res from h);have AP8:(∀ o'∈o::l,Ak P n G o'=true)->Ak P n G o=true:=fun Jf=>Jf o (by simp);have qP:(∀ o'∈o::l,Ak P n G o'=true)->∀ o∈l,Ak P n G o=true:=fun Jf o ho=>Jf o (by simp[ho]);cases c with
   | false=>
     change opsV P call os l (I2 fr o.dst P9) Z=some res at h1;obtain⟨g1,g2⟩:=ih _ _ _ h1;refine⟨g1,fun Jf lo tl O a w N rl hR hF hN hr hn hd hG Q hQ=>?_⟩;have hoo:=AP8 Jf;have g2:=g2 (qP Jf);have ZB:=KT (a:=a) (O:=O) hw fun j want t _ _ v hv=>hr t v hv;unfold wpListIn;rw[z0z (by rw[ZB];simp)];refine⟨fun _ _=>trivial,g2 lo tl O _ w N rl hR hF hN (hr.put (.tuple .nil) fun t ht=>z5z (RW hoo t ht) hn) (by rw[EK];exact hn) (by rw[put_defers];exact hd) hG Q fun e a' w' O' q0 q1 q2 q3 q4 q5=>hQ e a' w' O' q0 q1 q2 q3 (by rw[q4,EK]) q5⟩
   | true=>
     obtain⟨⟨v,Z1,d⟩,h2,h3⟩:=A8 (show ob (step P call fr Z o) _=some res from h1);have hcl:=Ia hC h2;have hnd:=IZ h2;by_cases hdp:d= .pan
     ·subst hdp;cases h3;cases hcl with
      | pan h=>
        refine⟨h.1,fun Jf lo tl O a w N rl hR hF hN hr hn hd hG Q hQ=>?_⟩;have hoo:=AP8 Jf;have ZB:=KT (a:=a) (O:=O) hw fun j want t _ _ v hv=>hr t v hv;have hk:P4 O fr a.eval o.op.operands.toList:=RU hG hoo fun t _ v hv=>hr t v hv;unfold wpListIn;rw[z1z ZB];refine h.2 O a w N hk hR hF hN hG _ _ _ fun v' w' O' q1 q2 q3=>?_;exact hQ _ a w' O' ⟨v',rfl,q3⟩ q1 q2 (hr.mono (q2.le hF hN)) rfl (hd.PR hR q2)
     ·have h3:opsV P call os l (I2 fr o.dst v) Z1=some res:=by
       cases d with
       |pan=>exact absurd rfl hdp
       |_=>exact h3
      obtain⟨g1,g2⟩:=ih _ _ _ h3;have pI:Adv Z Z1:=by
       cases hcl with
       |pure h=>exact .refl _
       |new h=>exact .new _ _ _
       |read h=>exact .refl _
       |eff h=>exact h.1
       |pan h=>exact absurd rfl hdp
      refine⟨pI.trans g1,fun Jf lo tl O a w N rl hR hF hN hr hn hd hG Q hQ=>?_⟩;have hoo:=AP8 Jf;have g2:=g2 (qP Jf);have ZB:=KT (a:=a) (O:=O) hw fun j want t _ _ v hv=>hr t v hv;have hk:P4 O fr a.eval o.op.operands.toList:=RU hG hoo fun t _ v hv=>hr t v hv;have hN1:Z1.n<=N:=AV g1.n hN;unfold wpListIn;rw[z1z ZB];have go:∀ v' w' O',Rel B8 O' Z1 w'->X9 O Z w O' Z1 w'->H3 O' v v'->wpListIn (FW rl) 0 P os Q l (a.put o.dst v') w':=by
       intro v' w' O' q1 q2 q3;have hle:=q2.le hF hN1;refine g2 lo tl O' _ w' N rl q1 (q2.free hF) hN ((hr.mono hle).put q3 fun t ht=>z5z (RW hoo t ht) hn) (by rw[EK];exact hn) (by rw[put_defers];exact hd.PR hR q2) (hG.mono hle) Q fun e a' w'' O'' p0 p1 p2 p3 p4 p5=>hQ e a' w'' O'' p0 p1 (q2.trans p2) p3 (by rw[p4,EK]) p5
      cases hcl with
      | pure h=>
        obtain⟨v',e1,e2⟩:=h O a.eval w hk;refine BS hnd ?_;rw[e1,Oper.uponIn_value];exact go _ _ _ hR (.refl _ _ _) e2
      | @read _ b h=>
        obtain⟨v',e1,e2⟩:=(h.2 O a.eval w hk).2 fun q cs hq hcs=>hR.seg hq hcs;refine BS hnd ?_;rw[e1,Oper.uponIn_value];exact go _ _ _ hR (.refl _ _ _) e2
      | @new cs vf t h=>
        obtain⟨w',v',arr,el,lo',hi',vs,more,e1,e2,e3,e4,e5,e6,e7,e8,e9,et,e10⟩:=h O a.eval w hk;refine BS hnd ?_;rw[e1,Oper.uponIn_value];obtain⟨k1,k2⟩:=hR.new (hF Z.n nL (z5z (II _) hN1)) e2 e3 e4 e5 e6 e7 ⟨vs,more,e8,e9⟩ et;exact go _ _ _ k1 k2 (e10 _ _ (Place.O7 _ _ _))
      |eff h=>exact h.2.2 O a w N hk hR hF hN1 hG _ _ _ go
      |pan h=>exact absurd rfl hdp
def X9.drew {O O':Place}{Z Z':St}{w w':World}(h:X9 O Z w.drew O' Z' w'):X9 O Z w O' Z' w' :=
 ⟨h.ext,h.n,h.size,h.H4,h.owned,⟨h.out.os,h.out.tape,h.out.output⟩,h.same⟩
def Xh (hm:P.follows .mixedOrders=true){call:X6}(hC:As P B8 G call){os:Array Oper}{n id:Nat}{fr:Fr}{Z:St}{res:FST}(h:M5 P call os os.toList 0 fr Z []=some res)
  (hr:BL (Region.before os).toList res.ds res.ds=true) :
  Adv Z res.Z/\((∀ o∈os.toList,Ak P n G o=true)->QV os=true->∀ lo tl O a w N rl,Rel B8 O Z w->Cc O Z.n N->res.Z.n<=N->EZ O fr a->n<=a.tmps.size->Marks lo w tl a.defers->Bm O G ->
   ∀ Q:Exit->Act->World->Prop,bf B8 lo tl O Z w a ⟨xr res.p,res.fr,res.Z⟩ Q->(Code.region id os true).wpIn (FW rl) 0 P Q a w):=by
 obtain⟨F,S,r,z,_,f1,f2,f34,f5,f6,f7⟩:=ZC os.toList 0 fr Z [] res rfl (BM _) h;have Lo:Adv (S os.size) res.Z:=by
  rcases f34 with⟨_,_,_,g4⟩|⟨g1,_,o,s,g3,_,g5⟩
  ·rw[g4];exact .refl _
  ·rw[Rn (B8:=B8) (G:=G) hC f5 (Nat.le_of_lt g1) nL,g5];have hcl:=Ia (B8:=B8) (G:=G) hC g3.step;obtain⟨v,Z',d⟩:=s;have hd:=g3.pan;change d= .pan at hd;subst hd;cases hcl with
   |pan h=>exact h.1
 refine⟨by rw[<- f2];exact(I3 hC f5 (BM _) nL).trans Lo,fun Jf hD lo tl O a w N rl hR hF hN qQ hn hd hG Q hQ=>?_⟩;have hO:∀ (i:Nat) (o:Oper),os[i]? =some o->Ak P n G o=true:=fun i o ho=>Jf o (by rw[<- Array.getElem?_toList]at ho;exact Bs ho);have hX:Ctx P B8 G n call os F S r z:=by
  refine⟨hC,hO,Oo hD,f5,?_,by rw[f2];exact hR.fresh⟩;intro i b j s s' h1 h2 h3 h4 hi hj;rcases UO hr ((f7 i s (BM _) hi h1).1 b h2) ((f7 j s' (BM _) hj h3).2 h4)with h5|h5
  ·left;change bi (Nat.testBit ((Region.before os).toList.getD j 0) i) true (Nat.testBit ((Region.before os).toList.getD i 0) j)=true at h5;cases hb:Nat.testBit ((Region.before os).toList.getD j 0) i with
   |true=>exact .inl hb
   |false=>rw[hb]at h5;exact .inr h5
  ·right;intro hlt;rcases h5 hlt with h6|h6
   ·rcases(Gt hC f5 hj).1.ver b.b hlt with h7|h7
    ·exact(Ro h7).symm
    ·omega
   ·exact h6
 refine wpIn_region_any hm ?_;obtain⟨k,m1,m2,m3,m4⟩:=Mt r os.size os.size 0 om;have hRd:Rel B8 O Z w.drew:=hR.heap rfl;have O5:∀ j,¬ (Array.replicate os.size false).getD j false=true:=by
  intro j;rw[Hh,Array.getElem?_replicate];split<;>simp
 have hSn:(S os.size).n<=res.Z.n:=Lo.n;refine qR (O₀:=O) (a₀:=a) (w₀:=w.drew) hX hn hG (Q:=Q) (N:=N) (by rw[f2];exact hF) ?_ (fun hzz O' a' w' q1 q2 q3 q4 q5=>?_) os.size _ O a w.drew k (by simp) (by simp) ?_
 ·rcases f34 with⟨g1,_⟩|⟨g1,g2,o,s,g3,g4,g5⟩
  ·exact .inl g1
  ·refine .inr ⟨g1,o,s,g3,by rw[<- g5];exact hN,fun O' a' w' v' q1 q2 q3 q4 q5=>?_⟩;rw[<- g5]at q1 q2;rw[f2]at q2;rw[g4]at hQ;refine hQ (cT v') a' w' O' ⟨v',rfl,q3⟩ q1 q2.drew ?_ q4 (by rw[q5];exact hd.PR hR q2.drew);rw[g2];intro t v ht;rw[Tr.get_nil]at ht;cases ht
 ·rcases f34 with⟨_,hpn,f3,f4⟩|⟨g1,_⟩
  rotate_left
  ·omega
  rw[hpn]at hQ;rw[f4]at q1 q2;rw[f2]at q2;rw[f3]at q3;exact hQ .normal a' w' O' rfl q1 q2.drew q3 q4 (by rw[q5];exact hd.PR hR q2.drew)
 ·have fr0:=hR.fresh;have nk:=(I3 hC f5 (i:=0) (j:=k) (BM _) m2).n;have sm:∀ b,b<(S 0).n->(S k).h.get b=(S 0).h.get b:=fun b hb=>Eu hC f5 hb (BM _) m2 fun j _ h2 h3=>absurd h3 (m3 j (BM _) h2);have nfree:∀ b q,O b=some q->b<(S 0).n\/res.Z.n<=b:=by
   intro b q hb;rcases AW b (S 0).n with hh|hh
   ·exact .inl hh
   ·rcases AW b res.Z.n with hh'|hh'
    ·rw[hF b (by rw[<- f2];exact hh) om]at hb;cases hb
    ·exact .inr hh'
  have core:∀ b q B,O b=some q->Cn os S k b B->Z.blk b=some B:=by
   intro b q B hb hHy;have h0:b<(S 0).n:=by
    rcases nfree b q hb with h|h
    ·exact h
    ·rcases hHy with⟨h1,_⟩|⟨j,_,h2,_,h3,_⟩
     ·have:=(I3 hC f5 (i:=k) (j:=os.size) m2 nL).n;omega
     ·have:=(I3 hC f5 (i:=j+1) (j:=os.size) om nL).n;omega
   rcases hHy with⟨h1,h2⟩|⟨j,g1,g2,g3,g4,g5⟩
   ·rw[<- f2];show ob ((S 0).h.get b) _=_;rw[<- sm b h0];exact h2
   ·have:=(I3 hC f5 (i:=0) (j:=j) (BM _) om).n;omega
  refine⟨m2,fun j h1 h2=>absurd h2 (m3 j (BM _) h1),fun h=>⟨m4 h,O5 k⟩,fun j _ _ _=>O5 j,fun j h=>absurd h (O5 j),fun _ _=>rfl,?_,Place.le_refl _,?_,rfl,rfl,
   fun b q B h1 h2=>hRd.Hm b q B h1 (core b q B h1 h2),hRd.dom,fun b q B h1 h2 h3=>hRd.own b q B h1 (core b q B h1 h2) h3,?_,hRd.low,BF _,fun _ _ _=>rfl,?_,.refl _,fun b h1 _=>sm b h1,fun j _ _=>O5 j,?_⟩
  ·intro i hi _ b h1 h2;have g1:=(I3 hC f5 (i:=0) (j:=i) (BM _) om).n;have g2:=(I3 hC f5 (i:=i+1) (j:=os.size) om nL).n;exact hF b (by rw[<- f2];omega) om
  ·intro t i hi h1 h2 v hv;have hz:(F i).get t=(F 0).get t:=RT f5 (BM _) hi fun j o _ h4 h5 h6=>O5 j (h1 j o h4 h5 h6);rw[hz,f1]at hv;exact qQ t v hv
  ·intro b q B b' q' h1 h2 h3 h4 h5 h6;refine hRd.sep b q B b' q' h1 (core b q B h1 h2) h3 h4 h5 ?_;rcases h6 with h6|⟨B',h6⟩
   ·have:=(I3 hC f5 (i:=0) (j:=os.size) (BM _) nL).n;rw[f2]at this;exact .inl om
   ·exact .inr ⟨B',core b' q' B' h5 h6⟩
  ·intro b q B h1 h2 _;exact⟨b,q,B,h1,rfl,by rw[f2];exact core b q B h1 h2,fun h=>h⟩
  ·intro i hi _ b h1 h2;exact Eu hC f5 h2 om m2 fun j _ g2 g3=>absurd g3 (m3 j (BM _) g2)
end
section
variable {Z Z':St}{b:Nat}{R8:Option Code}{O:Place}{w:World}
section
variable {P:Program}{B8:Env}{G:Nat}
def Rt {L:Oq}(h:Z.Ih b=some L):∃ B,Z.blk b=some B/\B.own=true/\B.kind= .loop L.fr L.ps L.assign L.body L.st L.R8:=by
 obtain⟨B,h1,h2⟩:=A8 h;obtain⟨h3,h4⟩:=G7 h2;obtain⟨cells,live,own,ver,kind⟩:=B;cases kind with
 |row=>cases h4
 |map=>cases h4
 |loop fr ps as bd st R8=>cases h4;exact⟨_,h1,h3,rfl⟩
def Jo {st:LoopState}(h:Z.BT b st R8=some Z'):∃ B fr ps as bd st0 ZM,Z.blk b=some B/\B.own=true/\B.kind= .loop fr ps as bd st0 ZM /\
  Z'=⟨Z.h.set b ⟨[],true,true,B.ver+1,.loop fr ps as bd st R8⟩,Z.n⟩:=by
 obtain⟨B,h1,h2⟩:=A8 h;obtain⟨h3,h4⟩:=G7 h2;obtain⟨cells,live,own,ver,kind⟩:=B;cases kind with
 |row=>cases h4
 |map=>cases h4
 |loop fr ps as bd st0 ZM=>cases h4;exact⟨_,fr,ps,as,bd,st0,ZM,h1,h3,rfl,rfl⟩
def Nw {st:LoopState}(h:Z.BT b st R8=some Z'):Adv Z Z':=by
 obtain⟨B,fr,ps,as,bd,st0,ZM,h1,h2,h3,rfl⟩:=Jo h;exact .set h1 rfl
def Rel.loop (hR:Rel B8 O Z w){q:BK}{L:Oq}(hq:O b=some q) (h:Z.Ih b=some L):∃ r,HJ B8 O w q.c L.fr L.ps L.assign L.body L.st L.R8 r:=by
 obtain⟨B,h1,h2,h3⟩:=Rt h;have:=hR.Hm b q B hq h1;unfold FR at this;rw[h3]at this;exact this
def ZN {c:Nat}{o o':Obj}(h:w.heap[c]? =some o):(w.putObj c o').heap[c]? =some o':=by
 refine World.putObj_heap_same ?_;rcases AW c w.heap.size with hh|hh
 ·exact hh
 ·rw[Array.getElem?_eq_none hh]at h;cases h
def Rel.BT {O:Place}{Z Z':St}{w:World}(hR:Rel B8 O Z w){b:Nat}{q:BK}{st:LoopState}{R8:Option Code}(hq:O b=some q) (h:Z.BT b st R8=some Z'){L:Oq}(hL:Z.Ih b=some L){r:Loop}
  (hr:HJ B8 O w q.c L.fr L.ps L.assign L.body L.st L.R8 r):Rel B8 O Z' (w.putObj q.c (.loop { r with state:=st,pending:=R8 }))/\X9 O Z w O Z' (w.putObj q.c (.loop { r with state:=st,pending:=R8 })):=by
 obtain⟨B,fr,ps,as,bd,st0,ZM,h1,h2,h3,rfl⟩:=Jo h;obtain⟨B',g1,g2,g3⟩:=Rt hL;rw[h1]at g1;cases g1;rw[h3]at g3;cases g3;refine hR.set hq h1 h2 rfl rfl (fun c hc=>World.putObj_heap_other hc) World.putObj_size ⟨rfl,rfl,rfl⟩ (.loop rfl (r:={ r with state:=st,pending:=R8 }) ?_);exact⟨ZN hr.Ux,rfl,rfl,hr.hps,hr.has,hr.hbd,hr.hfr,hr.hlt,hr.Fu⟩
def dX:∀ (ps:List Nat) (vs vs':List Value) (fr fr1:Fr) (tmps:Array Value),Ru ps vs fr=some fr1->E7 O vs vs'->(∀ p∈ps,p<tmps.size)->EZ O fr { tmps:=tmps,defers:=[] } ->
  EZ O fr1 { tmps:=(ps.zip vs').foldl (fun tmps (x:Tmp×Value)=>tmps.setIfInBounds x.1 x.2) tmps,defers:=[] }/\((ps.zip vs').foldl (fun tmps (x:Tmp×Value)=>tmps.setIfInBounds x.1 x.2) tmps).size=tmps.size/\vs'.length=ps.length:=by
 intro ps;induction ps with
 | nil=>
   intro vs vs' fr fr1 tmps h hv _ hr;cases hv with
   |nil=>cases h;exact⟨hr,rfl,rfl⟩
   |cons _ _=>cases h
 | cons p ps ih=>
   intro vs vs' fr fr1 tmps h hv hp hr;cases hv with
   |nil=>cases h
   | @cons v v' l l' h1 h2=>
     change Ru ps l (fr.set p v)=some fr1 at h;have hr':EZ O (fr.set p v) { tmps:=tmps.setIfInBounds p v',defers:=[] }:=by
      have:=EZ.put (d:=some p) hr h1 (fun t ht=>by cases ht;exact hp p (by simp));exact this
     obtain⟨g1,g2,g3⟩:=ih l l' (fr.set p v) fr1 (tmps.setIfInBounds p v') h h2 (fun p' hp'=>by simpa using hp p' (by simp[hp'])) hr';exact⟨g1,by simpa using g2,by simp[g3]⟩
def qj (ps:Array Tmp) (vs':List Value) (tmps:Array Value):(ps.zip (⟨vs'⟩:Array Value)).foldl (fun tmps (x:Tmp×Value)=>tmps.setIfInBounds x.1 x.2) tmps=(ps.toList.zip vs').foldl (fun tmps (x:Tmp×Value)=>tmps.setIfInBounds x.1 x.2) tmps:=by
 rw[<- fD,Array.toList_zip]
def dY {s:LoopState}(h:isReady s=true):s= .ready:=by
 cases s<;>first|rfl|cases h
def nI {run:RunT}(hE:Nb P B8 G run) (Fu:∀ n c,B8.chk n c=codeOk P n G c){vs:List Value}{r:CR}(h:XX run b vs Z=some r):
  Adv Z r.Z/\∀ O w vs' N,Rel B8 O Z w->Cc O Z.n N->r.Z.n<=N->Bm O G->E7 O vs vs'->∀ q,O b=some q->gJ P B8 O q.c vs' Z w r:=by
 obtain⟨L,h1,k1⟩:=A8 h;obtain⟨lfr,lps,las,lbd,lst,Ot⟩:=L;obtain⟨h2,k2⟩:=G7 (show bb (isReady lst) _=some r from k1);obtain⟨fr1,h3,k3⟩:=A8 k2;obtain⟨⟨o1,fr2,Z1⟩,h4,k4⟩:=A8 k3;clear h k1 k2 k3;cases o1 with
 | normal=>
   obtain⟨L',h5,k5⟩:=A8 (show ob (Z1.Ih b) _=some r from k4);obtain⟨BO9,BP0,BP1,BP2,Ax2,qm⟩:=L';obtain⟨h6,k6⟩:=G7 (show bb (isReady Ax2) _=some r from k5);obtain⟨Z2,h7,k7⟩:=A8 k6;obtain⟨⟨o2,fr3,Z3⟩,h8,k8⟩:=A8 k7;clear k4 k5 k6 k7;have Lo:∃ st jump Z4,Z3.BT b st jump=some Z4/\r=⟨false,.bool jump.isNone,Z4⟩/\st=(if jump.isNone then .ready else .done)/\(jump=none/\o2= .normal\/jump=some .ret/\o2= .ret\/∃ i,jump=some (.exit i)/\o2= .exit i):=by
    cases o2 with
    | normal=>
      obtain⟨Z4,g1,g2⟩:=A8 (show ob (Z3.BT b .ready none) _=some r from k8);cases g2;exact⟨_,_,_,g1,rfl,rfl,.inl ⟨rfl,rfl⟩⟩
    | exit i=>
      obtain⟨Z4,g1,g2⟩:=A8 (show ob (Z3.BT b .done (some (.exit i))) _=some r from k8);cases g2;exact⟨_,_,_,g1,rfl,rfl,.inr (.inr ⟨i,rfl,rfl⟩)⟩
    | ret=>
      obtain⟨Z4,g1,g2⟩:=A8 (show ob (Z3.BT b .done (some .ret)) _=some r from k8);cases g2;exact⟨_,_,_,g1,rfl,rfl,.inr (.inl ⟨rfl,rfl⟩)⟩
    |pan v=>cases k8
   obtain⟨st,jump,Z4,h9,rfl,hst,hj⟩:=Lo;obtain⟨e1,e2⟩:=hE (some b) las fr1 Z _ h4;obtain⟨e3,e4⟩:=hE (some b) lbd fr2 Z2 _ h8;have a2:=Nw h7;have a4:=Nw h9;refine⟨((e1.trans a2).trans e3).trans a4,fun O w vs' N hR hF hN hG hv q hq=>?_⟩;obtain⟨r0,hL⟩:=hR.loop hq h1;have hN3:Z3.n<=N:=AV a4.n hN;have hN2:Z2.n<=N:=AV e3.n hN3;have hN1:Z1.n<=N:=AV a2.n hN2;obtain⟨f1,f2,f3⟩:=dX lps vs vs' lfr fr1 r0.tmps h3 hv hL.hlt hL.hfr;obtain⟨n,hn,hca,hcb⟩:=hL.Fu;rw[Fu]at hca hcb;have hps:r0.params.toList=lps:=hL.hps;refine⟨r0.fn,_,r0.assign,r0.body,run_yield hL.Ux (by show vs'.length=_;rw[f3,<- hps,PE]),roundIn_of_wpIn trivial ?_⟩;rw[hL.has,hL.hbd];have hz:=qj r0.params vs' r0.tmps;rw[hps]at hz;have hz':(r0.params.zip (⟨vs'⟩:Array Value)).foldl (fun tmps (t,a)=>tmps.setIfInBounds t a) r0.tmps=(lps.zip vs').foldl (fun tmps (x:Tmp×Value)=>tmps.setIfInBounds x.1 x.2) r0.tmps:=hz;rw[hz'];refine e2 n hca w.heap.size [] O _ w N (some q.c) nL hR hF hN1 f1 (by show n<=_;rw[f2];exact hn) (.nil _ _ _) hG ⟨q,hq,rfl⟩ _ ?_;intro e a' w' O' q0 q1 q2 q3 q4 q5;have q0:e= .normal:=q0;subst q0;have hle:=q2.le hF hN1;have hq':O' b=some q:=hle _ _ hq;obtain⟨r1,hL1⟩:=q1.loop hq' h5;obtain⟨p1,p2⟩:=q1.BT hq' h7 h5 hL1;have hb1:=run_beginRound (P:=P) hL1.Ux (hL1.hst.trans (dY h6));have XO:({ r1 with state:= .busy,pending:=qm }:Loop)={ r1 with state:= .busy }:=by rw[<- (show r1.pending=qm from hL1.XO)]
   rw[XO]at p1 p2;refine⟨_,hb1,?_⟩;refine e4 n hcb w.heap.size [] O' a' _ N (some q.c) (by rw[World.putObj_size];exact q2.size) p1 (by have:=q2.free hF;intro c hc1 hc2;exact this c (AV a2.n hc1) hc2) hN3 q3 (by rw[q4];show n<=_;rw[f2];exact hn) (q5.PR q1 p2) (hG.mono hle) ⟨q,hq',rfl⟩ _ ?_;intro e a'' w'' O'' u0 u1 u2 u3 u4 u5;have AQ5:Cc O' Z2.n N:=by have:=q2.free hF;intro c hc1 hc2;exact this c (AV a2.n hc1) hc2
   have yB:=u2.le AQ5 hN3;have Ak2:O'' b=some q:=yB _ _ hq';obtain⟨B3,Ax3,ps3,as3,bd3,st3,Ak3,w1,w2,w3,w4⟩:=Jo h9;have hL3:Z3.Ih b=some ⟨Ax3,ps3,as3,bd3,st3,Ak3⟩:=by
    show ob (Z3.blk b) _=_;rw[w1];show bb B3.own _=_;rw[w2];obtain⟨cells,live,own,ver,kind⟩:=B3;cases w3;rfl
   obtain⟨r3,Ak4⟩:=u1.loop Ak2 hL3;obtain⟨t1,t2⟩:=u1.BT Ak2 h9 hL3 Ak4;have he:=run_endRound (P:=P) jump Ak4.Ux;rw[hst]at t1 t2
   have fin:∃ v w',(Instr.endRound q.c jump).run P w''= .ok v w'/\∃ v' O3,Ending.returned v=ended false v'/\Rel B8 O3 Z4 w'/\X9 O Z w O3 Z4 w'/\H3 O3 (.bool jump.isNone) v' :=
    ⟨_,_,he,_,O'',rfl,t1,((q2.trans p2).trans u2).trans t2,.I1 rfl⟩
   rcases hj with⟨rfl,rfl⟩|⟨rfl,rfl⟩|⟨i,rfl,rfl⟩
   ·have u0:e= .normal:=u0;subst u0;exact fin
   ·have u0:e= .ret:=u0;subst u0;exact fin
   ·have u0:e= .exit i:=u0;subst u0;exact fin
 |exit i=>cases k4
 |ret=>cases k4
 |pan v=>cases k4
end
end
end Go.Ab
namespace Go.Ab
open Go Go.MapKept
section
variable {cs:List Value}{t m:Nat}{v u:Value}{x:Operand}
def zK {o:Oper}{ty:TypeId}(h:AT0 o=some (t,ty)):o.dst=some t/\o.op= .makeMap ty none:=by
 unfold AT0 at h;split at h
 ·rename_i hd;split at h
  ·rename_i ho;cases h;exact⟨hd,ho⟩
  ·cases h
 ·cases h
def aB {o:Oper}{ty:TypeId}{k:Value}(h:iR o=some (m,ty,k,v)):o.dst=none/\o.op= .insert ty (.tmp m) (.const k) (.const v):=by
 unfold iR at h;split at h
 ·rename_i hd;split at h
  ·rename_i ho;cases h;exact⟨hd,ho⟩
  ·cases h
 ·cases h
def sZ {o:Oper}{d:Nat}(h:sd o=some (d,m)):o.dst=some d/\o.op= .move (.tmp m):=by
 unfold sd at h;split at h
 ·rename_i hd;split at h
  ·rename_i ho;cases h;exact⟨hd,ho⟩
  ·cases h
 ·cases h
def zL {o:Oper}{k:Nat}{ty:TypeId}(h:AT1 o=some (m,ty,k)):o.op= .lookup ty (.tmp m) (.tmp k) false:=by
 unfold AT1 at h;split at h
 ·rename_i ho;cases h;exact ho
 ·cases h
def se {o:Oper}{i:Nat}(h:DJ o i=true):∃ e∈o.after,Region.binds .any e=true/\e.on=i:=by
 unfold DJ at h;rw[List.any_eq_true]at h;obtain⟨e,h1,h2⟩:=h;rw[Q7]at h2;exact⟨e,by simpa using h1,h2.1,Aa h2.2⟩
structure Head (l:List Oper) (g:Gh) (a0 a1 a2 a3 a4 a5 a6 a7 a8:Oper) (N3:List Oper):Prop where
 eq:l=a0::a1::a2::a3::a4::a5::a6::a7::a8::N3
 d2:a2.dst=some g.tm
 o2:a2.op= .makeMap g.ty none
 d3:a3.dst=none
 o3:a3.op= .insert g.ty (.tmp g.tm) (.const g.k1) (.const g.v1)
 d4:a4.dst=none
 o4:a4.op= .insert g.ty (.tmp g.tm) (.const g.k2) (.const g.v2)
 d5:a5.dst=some g.tv
 o5:a5.op= .move (.tmp g.tm)
 o8:a8.op= .lookup g.ty (.tmp g.tv) (.tmp g.key) false
 e32:DJ a3 2=true
 e42:DJ a4 2=true
 e53:DJ a5 3=true
 e54:DJ a5 4=true
 e85:DJ a8 5=true
def yU {l:List Oper}{g:Gh}(h:AT2 l=some g):∃ a0 a1 a2 a3 a4 a5 a6 a7 a8 N3,Head l g a0 a1 a2 a3 a4 a5 a6 a7 a8 N3:=by
 unfold AT2 at h;split at h
 ·rename_i a0 a1 a2 a3 a4 a5 a6 a7 a8 N3;obtain⟨⟨tm,ty⟩,h2,h⟩:=A8 h;obtain⟨⟨m3,t3,k1,v1⟩,h3,h⟩:=A8 h;obtain⟨⟨m4,t4,k2,v2⟩,h4,h⟩:=A8 h;obtain⟨⟨tv,m5⟩,h5,h⟩:=A8 h;obtain⟨⟨m8,t8,key⟩,h8,h⟩:=A8 h;obtain⟨hb,h⟩:=G7 h;cases h;simp only[Q7]at hb;obtain⟨b1,b2,b3,b4,b5,b6,b7,b8,b9,b10,b11,b12⟩:=hb;obtain rfl:=Aa b1;obtain rfl:=Aa b2;obtain rfl:=Aa b3;obtain rfl:=Aa b4;obtain rfl:=Aa b5;obtain rfl:=Aa b6;obtain rfl:=Aa b7;obtain⟨q1,q2⟩:=zK h2;obtain⟨q3,q4⟩:=aB h3;obtain⟨q5,q6⟩:=aB h4;obtain⟨q7,q8⟩:=sZ h5;exact⟨_,_,_,_,_,_,_,_,_,_,rfl,q1,q2,q3,q4,q5,q6,q7,q8,zL h8,b8,b9,b10,b11,b12⟩
 ·cases h
section
variable {P:Program}{e:Operand->Value}{w:World}{o:Oper}{O:Place}
def AT3 {t:TypeId} (ho:o.op= .makeMap t none):(execOp e o).run P w= .ok (.value (.map (some w.heap.size))) { w with heap:=w.heap.push (.map #[] 0) }:=by
 simp only[execOp,ho,Ti,Instr.makeMap,Sem.run_bind,Sem.run_pure,run_newObj,Result.andThen_ok]
def zM (ho:o.op= .move x):(execOp e o).run P w= .ok (.value (e x)) w:=by
 simp only[execOp,ho];rfl
def iT {t kt el:TypeId}{m k:Operand}{p:Nat}{kv:Value}{cells:List Value}(ho:o.op= .insert t m k x) (h1:Iw P t=some (kt,el)) (hm:e m= .map (some p)) (hkv:e k=kv) (h6:DI (P.underlying kt) kv=true) (hu:H3 O u (e x)) (hM:Fv O w p cells) (h9:Mw kv u cells=some cs):
  ∃ w',(execOp e o).run P w= .ok .skip w'/\Fv O w' p cs/\w'.heap.size=w.heap.size/\(∀ c,c≠p->w'.heap[c]? =w.heap[c]?)/\Outside w w':=by
 obtain⟨hf,hs,d,hd,hik⟩:=Dg h6;rw[hd]at h6;have Lr:=Pn h1;obtain⟨es,clock,h14,h15⟩:=hM;have hp:p<w.heap.size:=(Array.getElem?_eq_some_iff.1 h14).1;have En:∃ es' FA,Entries O cs es'.toList/\(Instr.mapUpdate t (e m) (e k) (e x)).run P w= .ok () { w with heap:=w.heap.setIfInBounds p (.map es' FA) }:=by
  rcases ZK h6 hu h15 h9 0 with⟨g1,g2⟩|⟨j,v',en,g1,g2,g3,g4⟩
  ·refine⟨es.push ⟨kv,e x,clock⟩,clock+1,by simpa using g2 clock,?_⟩;simp only[hm,hkv,Instr.mapUpdate,Sem.run_bind,G1 Lr,Result.andThen_ok,MapKept.run_getObj_map h14,FM hd hik,Ai hd g1,MapKept.run_setObj_map _ h14]
  ·refine⟨es.modify j fun en=>{ en with key:=kv,val:=e x },clock,by simpa using g4,?_⟩;have kN:((es[j]?).map (·.key)).getD kv=kv:=by
    rw[<- Array.getElem?_toList,g2];exact g3
   have qe:(Instr.keyThatStays kv kv).run P w= .ok kv w:=by
    unfold Instr.keyThatStays;have:Instr.sameBits 10000 kv kv=true:=by
     cases d with
     |string=>cases kv<;>simp_all[IsKey];simp[Instr.sameBits,(bytes_beq _ _).2 rfl]
     |int=>cases kv<;>simp_all[IsKey];simp[Instr.sameBits]
     |bool=>cases kv<;>simp_all[IsKey];simp[Instr.sameBits]
     |_=>cases kv<;>simp[IsKey]at hik
    rw[this];rfl
   simp only[HC]at g1;simp only[hm,hkv,Instr.mapUpdate,Sem.run_bind,G1 Lr,Result.andThen_ok,MapKept.run_getObj_map h14,FM hd hik,Ai hd g1,kN,qe,MapKept.run_setObj_map _ h14]
 obtain⟨es',FA,hE,En⟩:=En;refine⟨{ w with heap:=w.heap.setIfInBounds p (.map es' FA) },?_,⟨es',FA,?_,hE⟩,?_,fun c hc=>Array.getElem?_setIfInBounds_ne fun he=>hc he.symm,⟨rfl,rfl,rfl⟩⟩
 ·simp only[execOp,ho,Sem.run_bind,En,Result.andThen_ok];rfl
 ·simp[hp]
 ·simp
def aC {t kt el:TypeId}{ix:Operand}{p:Nat}{k:Value}{b:Bool}{r:Option Value}(ho:o.op= .lookup t x ix false) (h1:Iw P t=some (kt,el)) (hxe:e x= .map (some p)) (TE:e ix=k) (h5:DI (P.underlying kt) k=true) (hM:Fv O w p cs) (h7:PS k cs=some r) (h8:found P el r=some (u,b)):
  ∃ u',(execOp e o).run P w= .ok (.value u') w/\H3 O u u':=by
 obtain⟨hf,hs,d,hd,hik⟩:=Dg h5;rw[hd]at h5;have Lr:=Pn h1;obtain⟨es,clock,h11,h12⟩:=hM;obtain⟨g1,g2⟩:=ZJ h5 h12 h7 0;cases r with
 | none=>
   obtain⟨z,h9,h10⟩:=A8 (show ob (BJ P el) _=some (u,b)from h8);cases h10;refine⟨u,?_,(Dv h9 w).2.1⟩;simp only[execOp,ho,hxe,TE,Instr.lookup,Sem.run_bind,G1 Lr,Result.andThen_ok,Sem.run_pure,MapKept.run_getObj_map h11,FM hd hik,Ai hd (g1 rfl),(Dv (O:=O) h9 w).1];rfl
 | some v0=>
   cases h8;obtain⟨j,v',g3,g4⟩:=g2 _ rfl;refine⟨v',?_,g4⟩;simp only[execOp,ho,hxe,TE,Instr.lookup,Sem.run_bind,G1 Lr,Result.andThen_ok,Sem.run_pure,MapKept.run_getObj_map h11,FM hd hik,Ai hd g3];rfl
end
def SQ:Place:=fun _=>none
def sf {O:Place}:SQ.le O:=fun _ _ h=>nomatch h
def Fv.H4 {O:Place}{w w':World}{p:Nat}(h:Fv O w p cs) (hw:w'.heap[p]? =w.heap[p]?):Fv O w' p cs :=
 let ⟨es,clock,h1,h2⟩:=h;⟨es,clock,by rw[hw];exact h1,h2⟩
def Fv.lt {O:Place}{w:World}{p:Nat}(h:Fv O w p cs):p<w.heap.size :=
 let ⟨_,_,h1,_⟩:=h;(Array.getElem?_eq_some_iff.1 h1).1
def FC {a:Act}{d:Option Tmp}(h:d≠some t):(a.put d v).tmps[t]? =a.tmps[t]? :=by
 cases d with
 |none=>rfl
 | some d=>
   show(a.tmps.setIfInBounds d v)[t]? =_;exact Array.getElem?_setIfInBounds_ne fun he=>h (by rw[he])
def sj {a:Act}(h:t<a.tmps.size):(a.put (some t) v).tmps[t]? =some v:=by
 show(a.tmps.setIfInBounds t v)[t]? =_;rw[Array.getElem?_setIfInBounds_self_of_lt h]
section
variable {P:Program}{B8:Env}{G n z:Nat}{call:X6}{os os':Array Oper}{F:Nat->Fr}{S:Nat->St}{r:Nat->Option Stepped}{g:Gh}{L L':Nat->Prop}{O O' O₀:Place}{a a' a₀:Act}{w w' w₀:World}{k k' i p:Nat}{cells c12 c21:List Value}{o:Oper}
def Inv.world (hI:Inv B8 os' F S r z O₀ a₀ w₀ L O a w k) (hs:w.heap.size<=w'.heap.size) (hold:∀ c,c<w.heap.size->c≠p->w'.heap[c]? =w.heap[c]?) (hlo:B8.lo<=w₀.heap.size) (hp0:w₀.heap.size<=p) (hp:∀ b q B,O b=some q->Cn os' S k b B->q.c≠p) (ho:Outside w w')
  (ha:∀ t v i,i<=os'.size->(F i).get t=some v->a'.tmps[t]? =a.tmps[t]?) (hsz:a'.tmps.size=a.tmps.size) (hdf:a'.defers=a.defers):Inv B8 os' F S r z O₀ a₀ w₀ L O a' w' k :=
 { hI with
  tmp:=fun t i hi h1 h2 v hv=>by rw[ha t v i hi hv];exact hI.tmp t i hi h1 h2 v hv
  JA:=by rw[hsz];exact hI.JA
  WC:=by rw[hdf];exact hI.WC
  row:=fun b q B hb hH=>(hI.row b q B hb hH).mono (Place.le_refl _) (hold q.c (hI.dom b q hb) (hp b q B hb hH))
  dom:=fun b q hb=>z5z (hI.dom b q hb) hs
  low:=hI.low.next hs fun c hc=>hold c (z5z hc hI.low.1) om
  size:=AV hI.size hs
  H4:=fun c hc h=>by rw[hold c (z5z hc hI.size) om];exact hI.H4 c hc h
  out:=hI.out.trans ho }
structure zN (g:Gh) (c12 c21:List Value) (os':Array Oper) (S:Nat->St) (w₀:World) (L:Nat->Prop) (O:Place) (a:Act) (w:World) (k p:Nat) (cells:List Value):Prop where
 tm:a.tmps[g.tm]? =some (.map (some p))
 row:Fv SQ w p cells
 new:w₀.heap.size<=p
 apart:∀ b q B,O b=some q->Cn os' S k b B->q.c≠p
 cells:(¬ L 3/\¬ L 4/\cells=[])\/(L 3/\¬ L 4/\cells=[g.k1,g.v1])\/(¬ L 3/\L 4/\cells=[g.k2,g.v2])\/(L 3/\L 4/\(cells=c12\/cells=c21))
 tv:L 5->a.tmps[g.tv]? =some (.map (some p))
def BA5 (g:Gh) (c12 c21:List Value) (os':Array Oper) (S:Nat->St) (w₀:World) (L:Nat->Prop) (O:Place) (a:Act) (w:World) (k:Nat):Prop:=L 2->∃ p cells,zN g c12 c21 os' S w₀ L O a w k p cells
def zN.step (h:zN g c12 c21 os' S w₀ L O a w k p cells) (h3:L' 3↔L 3) (h4:L' 4↔L 4) (h5:L' 5->L 5) (htm:a'.tmps[g.tm]? =a.tmps[g.tm]?) (htv:a'.tmps[g.tv]? =a.tmps[g.tv]?) (hw:w'.heap[p]? =w.heap[p]?)
  (hap:∀ b q B,O' b=some q->Cn os' S k' b B->q.c≠p):zN g c12 c21 os' S w₀ L' O' a' w' k' p cells :=
 ⟨by rw[htm];exact h.tm,h.row.H4 hw,h.new,hap,by rw[h3,h4];exact h.cells,fun hL=>by rw[htv];exact h.tv (h5 hL)⟩
def lO (hX:Ctx P B8 G n call os' F S r z) (hi:i<os'.size) (hf:X9 O (S i) w O' (S (i+1)) w') (hk1:i<k') (hk2:k'<=os'.size) (hk3:∀ j,i<j->j<k'->¬ Ce r j):
  ∀ b q B,O' b=some q->Cn os' S k' b B->(b<(S (i+1)).n/\(S (i+1)).blk b=some B)\/((S (i+1)).n<=b/\O b=some q/\Cn os' S i b B):=by
 have Kt:∀ x y,x<=y->y<=os'.size->(S x).n<=(S y).n:=fun x y h1 h2=>(I3 hX.hC hX.hch h1 h2).n;have later:∀ b x,i+1<=x->x<=k'->b<(S x).n->(S k').h.get b=(S x).h.get b:=fun b x h1 h2 h3=>
  Eu hX.hC hX.hch h3 h2 hk2 fun j g1 g2 g3=>absurd g3 (hk3 j om om)
 have RY:∀ {b x y},(S x).h.get b=(S y).h.get b->(S x).blk b=(S y).blk b:=by
  intro b x y h;show ob ((S x).h.get b) _=ob ((S y).h.get b) _;rw[h]
 intro b q B hb hHy;rcases hHy with⟨h1,h2⟩|⟨j,h1,h2,h3,h4,h5⟩
 ·rcases AW b (S (i+1)).n with hh|hh
  ·exact .inl ⟨hh,by rw[<- RY (later b (i+1) nL hk1 hh)];exact h2⟩
  ·right;refine⟨hh,by rw[<- hf.ext b (.inr hh)];exact hb,.inr ?_⟩;have:∀ m,i+1<=m->m<=k'->b<(S m).n->∃ j,i+1<=j/\j<m/\(S j).n<=b/\b<(S (j+1)).n:=by
    intro m;induction m with
    |zero=>intro g1 _ _;omega
    | succ m ih=>
      intro g1 g2 g3;have him:i+1<=m:=by
       rcases AW i m with g|g
       ·exact g
       ·obtain rfl:m=i:=om;omega
      by_cases hm:b<(S m).n
      ·obtain⟨j,g4,g5,g6,g7⟩:=ih him om hm;exact⟨j,g4,om,g6,g7⟩
      ·exact⟨m,him,om,om,g3⟩
   obtain⟨j,g1,g2,g3,g4⟩:=this k' hk1 nL h1;exact⟨j,om,om,g3,g4,by rw[<- RY (later b (j+1) om om g4)];exact h2⟩
 ·have hge:(S (i+1)).n<=b:=AV (Kt (i+1) j om om) h3;exact .inr ⟨hge,by rw[<- hf.ext b (.inr hge)];exact hb,.inr ⟨j,om,h2,h3,h4,h5⟩⟩
def sk (hX:Ctx P B8 G n call os' F S r z) (hi:i<=os'.size):∀ b B,(S i).blk b=some B->Cn os' S i b B:=by
 intro b B hB;refine .inl ⟨?_,hB⟩;rcases AW b (S i).n with hh|hh
 ·exact hh
 ·have h1:=(AH hB).1;rw[(I3 hX.hC hX.hch (i:=0) (j:=i) om om).fresh hX.fresh b hh]at h1;cases h1
def lP (hX:Ctx P B8 G n call os' F S r z) (hi:i<os'.size) (hf:X9 O (S i) w O' (S (i+1)) w') (hk1:i<k') (hk2:k'<=os'.size) (hk3:∀ j,i<j->j<k'->¬ Ce r j) (hp:p<w.heap.size)
  (hap:∀ b q B,O b=some q->Cn os' S i b B->q.c≠p):w'.heap[p]? =w.heap[p]? /\∀ b q B,O' b=some q->Cn os' S k' b B->q.c≠p:=by
 have core:=sk hX (Nat.le_of_lt hi);refine⟨hf.H4 p hp fun b q B hb hq hB=>absurd hq (hap b q B hb (core b B hB)),fun b q B hb hH=>?_⟩;rcases lO hX hi hf hk1 hk2 hk3 b q B hb hH with⟨h1,h2⟩|⟨_,h2,h3⟩
 ·intro he;obtain⟨b0,q0,B0,g1,g2,g3,-⟩:=hf.owned b q B hb h2 om;exact hap b0 q0 B0 g1 (core b0 B0 g3) om
 ·exact hap b q B h2 h3
end
end
section
variable {o:Oper}{fr:Fr}{i t:Nat}{Z:St}
section
variable {P:Program}{B8:Env}{G n:Nat}{call:X6}{os os':Array Oper}{F:Nat->Fr}{S:Nat->St}{r:Nat->Option Stepped}{g:Gh}{O₀:Place}{a₀:Act}{w₀:World}{V kv:Value}{c12 c21:List Value}{a8:Oper}
structure GhX (P:Program) (B8:Env) (G n:Nat) (call:X6) (os os':Array Oper) (F:Nat->Fr) (S:Nat->St) (r:Nat->Option Stepped) (g:Gh) (V kv:Value) (c12 c21:List Value) (a8:Oper):Prop where
 hX:Ctx P B8 G n call os' F S r os'.size
 sz:os'.size=os.size
 same:∀ (i:Nat) (o:Oper),i≠2->i≠3->i≠4->i≠5->i≠8->os[i]? =some o->os'[i]? =some o
 aft:∀ (i:Nat) (o o':Oper),os[i]? =some o->os'[i]? =some o'->o'.after=o.after/\o'.guard=none
 gd:∀ (i:Nat) (o:Oper),os[i]? =some o->o.guard=none
 nm:∀ (j:Nat) (o:Oper),os'[j]? =some o->o.dst≠some g.tm/\o.dst≠some g.tv
 f0:(F 0).get g.tm=none/\(F 0).get g.tv=none
 x2:∃ a2,os[2]? =some a2/\os'[2]? =some (El a2)/\a2.dst=some g.tm/\a2.op= .makeMap g.ty none
 x3:∃ a3,os[3]? =some a3/\os'[3]? =some (El a3)/\a3.dst=none/\a3.op= .insert g.ty (.tmp g.tm) (.const g.k1) (.const g.v1)/\DJ a3 2=true
 x4:∃ a4,os[4]? =some a4/\os'[4]? =some (El a4)/\a4.dst=none/\a4.op= .insert g.ty (.tmp g.tm) (.const g.k2) (.const g.v2)/\DJ a4 2=true
 x5:∃ a5,os[5]? =some a5/\os'[5]? =some (El a5)/\a5.dst=some g.tv/\a5.op= .move (.tmp g.tm)/\DJ a5 3=true/\DJ a5 4=true
 x8:os[8]? =some a8/\os'[8]? =some (UT a8 V)/\a8.op= .lookup g.ty (.tmp g.tv) (.tmp g.key) false/\DJ a8 5=true
 kw:∀ (j:Nat) (o:Oper),os'[j]? =some o->o.dst=some g.key->j<8/\DJ a8 j=true
 k8:(F 8).get g.key=some kv
 btm:g.tm<n
 btv:g.tv<n
 ne:g.tm≠g.tv
 val:∃ kt el b1 b2 r1 r2,Iw P g.ty=some (kt,el)/\DI (P.underlying kt) g.k1=true/\DI (P.underlying kt) g.k2=true/\DI (P.underlying kt) kv=true/\cst g.v1=some g.v1/\cst g.v2=some g.v2 /\
  Mw g.k2 g.v2 [g.k1,g.v1]=some c12/\Mw g.k1 g.v1 [g.k2,g.v2]=some c21/\PS kv c12=some r1/\PS kv c21=some r2/\found P el r1=some (V,b1)/\found P el r2=some (V,b2)
 cv:cst V=some V
def NK {P:Program}{call:X6}:Ab.step P call fr Z (El o)=some ⟨.bool false,Z,.none⟩:=rfl
def um {P:Program}{call:X6}{V:Value}(h:cst V=some V):Ab.step P call fr Z (UT o V)=some ⟨V,Z,.none⟩:=by
 show J5 Z (cst V)=_;rw[h];rfl
def TP {os:Array Oper}(h:o.guard=none):U9 os fr o=some true:=by
 unfold U9;rw[h]
def bF (h:o.guard=none):∀ y,Region.wanted o y=true:=fun y=>by
 unfold Region.wanted;rw[h]
def GhX.AB5 (h:GhX P B8 G n call os os' F S r g V kv c12 c21 a8){o':Oper}(ho:os'[i]? =some o') (hg:o'.guard=none):∃ s,Ab.step P call (F i) (S i) o'=some s/\r i=some s/\F (i+1)=I2 (F i) o'.dst s.v/\S (i+1)=s.Z:=by
 have hlt:=(Array.getElem?_eq_some_iff.1 ho).1;rcases h.hX.hch.step i o' (BM _) (.inl hlt) ho with⟨_,s,h2⟩|⟨h1,_⟩
 ·exact⟨s,h2⟩
 ·rw[TP hg]at h1;cases h1
def GhX.Ar5 (h:GhX P B8 G n call os os' F S r g V kv c12 c21 a8)(ht:t=g.tm\/t=g.tv)(hi:i<=os'.size):(F i).get t=none:=by
 rw[RT h.hX.hch (BM _) hi fun j o _ _ ho=>by rcases ht with rfl|rfl;exact(h.nm j o ho).1;exact(h.nm j o ho).2];rcases ht with rfl|rfl
 ·exact h.f0.1
 ·exact h.f0.2
def GSt (g:Gh) (c12 c21:List Value) (os':Array Oper) (S:Nat->St) (w₀:World) (L:Nat->Prop) (O:Place) (a:Act) (w:World) (k:Nat):Prop :=
 (L 3->L 2)/\(L 4->L 2)/\(L 5->L 3/\L 4)/\BA5 g c12 c21 os' S w₀ L O a w k
def GD {A:Nat->Prop}{x:Nat}(h:i≠x):(A x\/x=i)↔A x:=⟨fun h'=>h'.elim id fun e=>absurd e.symm h,.inl⟩
def eval_at {a:Act}{v:Value}(h:a.tmps[t]? =some v):a.eval (.tmp t)=v:=by
 show a.tmps.getD t undef=v;rw[Hh,h];rfl
def uo {rd:Option Nat}(h:GhX P B8 G n call os os' F S r g V kv c12 c21 a8) (hn:n<=a₀.tmps.size) (hG:Bm O₀ G) (hlo:B8.lo<=w₀.heap.size){Q:Exit->Act->World->Prop}{K:Act->World->Prop}{L:Nat->Prop}{O:Place}{a:Act}{w:World}{k i:Nat}{o o':Oper}
  (hI:Inv B8 os' F S r os'.size O₀ a₀ w₀ L O a w k) (hS:GSt g c12 c21 os' S w₀ L O a w k) (hi:Rdy os' L i o') (ho:os[i]? =some o)
  (go:∀ O' a' w' k',Inv B8 os' F S r os'.size O₀ a₀ w₀ (fun j=>L j\/j=i) O' a' w' k'->GSt g c12 c21 os' S w₀ (fun j=>L j\/j=i) O' a' w' k'->K a' w'):wpOpIn (FW rd) 0 P os Q i K a w:=by
 have hX:=h.hX;obtain⟨s3,s4,s5,sA⟩:=hS;have bT:=(Array.getElem?_eq_some_iff.1 hi.ho).1;have NL:Live os' os'.size i:= .inl bT;have Ar6:o'.guard=none:=(h.aft i o o' ho hi.ho).2;have hnd:=h.nm i o' hi.ho;have TD:∀ {b:Oper}{j:Nat},os'[i]? =some b->DJ b j=true->L j:=by
  intro b j hb he;rw[hi.ho]at hb;cases hb;obtain⟨e,e1,e2,e3⟩:=se he;rw[<- e3];exact hi.all e e1 e2
 obtain⟨s,t1,t2,t3,t4⟩:=h.AB5 hi.ho Ar6;unfold wpOpIn;rw[ho];simp only;rw[z1z (bF (h.gd i o ho) _)];obtain⟨kt,el,b1,b2,r1,r2,v1,v2,v3,v4,v5,v6,v7,v8,v9,v10,v11,v12⟩:=h.val;by_cases i2:i=2
 ·subst i2;obtain⟨a2,x1,x2,x3,x4⟩:=h.x2;rw[ho]at x1;cases x1;rw[hi.ho]at x2;cases x2;rw[NK]at t1;cases t1;have hq:=hI.quiet hX hi NL hn (v:= .bool false) (v':= .bool false) t3 (.I1 rfl) fun⟨s,e1,e2⟩=>by rw[t2]at e1;cases e1;cases e2
  refine BS (by rw[x4];intro c hc;cases hc) ?_;rw[AT3 x4,Oper.uponIn_value,x3];have htm:g.tm<a.tmps.size:=by rw[hI.JA];exact z5z h.btm hn
  have hw:=hq.world (p:=w.heap.size) (a':=a.put (some g.tm) (.map (some w.heap.size))) (w':={ w with heap:=w.heap.push (.map #[] 0) }) (by simp) (fun c hc _=>by
   show(w.heap.push _)[c]? =_
   rw[Array.getElem?_push,z0z om]) hlo hI.size (fun b q B hb _=>by have:=hI.dom b q hb;omega) ⟨rfl,rfl,rfl⟩ (fun t v j hj hv=>by
    rw[FC (fun e=>by cases e;rw[h.Ar5 (.inl rfl) hj]at hv;cases hv)];rfl) (by rw[EK];rfl) (by rw[put_defers];rfl)
  refine go O _ _ k hw ⟨fun h3=> .inr rfl,fun h4=> .inr rfl,fun h5=>?_,fun _=>⟨w.heap.size,[],sj htm,⟨#[],0,by simp,.nil⟩,hI.size,fun b q B hb _=>by have:=hI.dom b q hb;omega,?_,fun h5=>?_⟩⟩
  ·rcases h5 with h5|h5
   ·exact⟨.inl (s5 h5).1,.inl (s5 h5).2⟩
   ·cases h5
  ·refine .inl ⟨fun h3=>?_,fun h4=>?_,rfl⟩
   ·rcases h3 with h3|h3
    ·exact hi.no (s3 h3)
    ·cases h3
   ·rcases h4 with h4|h4
    ·exact hi.no (s4 h4)
    ·cases h4
  ·rcases h5 with h5|h5
   ·exact absurd (s3 (s5 h5).1) hi.no
   ·cases h5
 by_cases i3:i=3
 ·subst i3;obtain⟨a3,x1,x2,x3,x4,x5⟩:=h.x3;rw[ho]at x1;cases x1;have hL2:=TD x2 x5;rw[hi.ho]at x2;cases x2;rw[NK]at t1;cases t1;have hq:=hI.quiet hX hi NL hn (v:= .bool false) (v':= .bool false) t3 (.I1 rfl) fun⟨s,e1,e2⟩=>by rw[t2]at e1;cases e1;cases e2
  obtain⟨p,cells,hg⟩:=sA hL2;have Mx:∃ cs,Mw g.k1 g.v1 cells=some cs/\((¬ L 4/\cs=[g.k1,g.v1])\/(L 4/\cs=c21)):=by
   rcases hg.cells with⟨_,q2,rfl⟩|⟨q1,_⟩|⟨_,q2,rfl⟩|⟨q1,_⟩
   ·exact⟨_,rfl,.inl ⟨q2,rfl⟩⟩
   ·exact absurd q1 hi.no
   ·exact⟨_,v8,.inr ⟨q2,rfl⟩⟩
   ·exact absurd q1 hi.no
  obtain⟨cs,q1,q2⟩:=Mx;obtain⟨w',r1',r2',r3',r4',r5'⟩:=iT (P:=P) (e:=a.eval) (O:=SQ) x4 v1 (eval_at hg.tm) (show a.eval (.const g.k1)=g.k1 from rfl) v2 (show H3 SQ g.v1 (a.eval (.const g.v1))from (H3.cst v5).2) hg.row q1;refine BS (by rw[x4];intro c hc;cases hc) ?_;rw[r1',Oper.uponIn_skip,x3];have hw:=hq.world (p:=p) (a':=a) (w':=w') om (fun c _ hc=>r4' c hc) hlo hg.new hg.apart r5' (fun t v j hj hv=>rfl) rfl rfl;refine go O _ _ k hw ⟨fun _=> .inl hL2,fun h4=> .inl hL2,fun h5=>?_,fun _=>⟨p,cs,hg.tm,r2',hg.new,hg.apart,?_,fun h5=>?_⟩⟩
  ·rcases h5 with h5|h5
   ·exact absurd (s5 h5).1 hi.no
   ·cases h5
  ·rcases q2 with⟨q2,rfl⟩|⟨q2,rfl⟩
   ·exact .inr (.inl ⟨.inr rfl,(fun h4=>h4.elim q2 fun e=>by cases e),rfl⟩)
   ·exact .inr (.inr (.inr ⟨.inr rfl,.inl q2,.inr rfl⟩))
  ·rcases h5 with h5|h5
   ·exact hg.tv h5
   ·cases h5
 by_cases i4:i=4
 ·subst i4;obtain⟨a4,x1,x2,x3,x4,x5⟩:=h.x4;rw[ho]at x1;cases x1;have hL2:=TD x2 x5;rw[hi.ho]at x2;cases x2;rw[NK]at t1;cases t1;have hq:=hI.quiet hX hi NL hn (v:= .bool false) (v':= .bool false) t3 (.I1 rfl) fun⟨s,e1,e2⟩=>by rw[t2]at e1;cases e1;cases e2
  obtain⟨p,cells,hg⟩:=sA hL2;have Mx:∃ cs,Mw g.k2 g.v2 cells=some cs/\((¬ L 3/\cs=[g.k2,g.v2])\/(L 3/\cs=c12)):=by
   rcases hg.cells with⟨q1,_,rfl⟩|⟨q1,_,rfl⟩|⟨_,q2,_⟩|⟨_,q2,_⟩
   ·exact⟨_,rfl,.inl ⟨q1,rfl⟩⟩
   ·exact⟨_,v7,.inr ⟨q1,rfl⟩⟩
   ·exact absurd q2 hi.no
   ·exact absurd q2 hi.no
  obtain⟨cs,q1,q2⟩:=Mx;obtain⟨w',r1',r2',r3',r4',r5'⟩:=iT (P:=P) (e:=a.eval) (O:=SQ) x4 v1 (eval_at hg.tm) (show a.eval (.const g.k2)=g.k2 from rfl) v3 (show H3 SQ g.v2 (a.eval (.const g.v2))from (H3.cst v6).2) hg.row q1;refine BS (by rw[x4];intro c hc;cases hc) ?_;rw[r1',Oper.uponIn_skip,x3];have hw:=hq.world (p:=p) (a':=a) (w':=w') om (fun c _ hc=>r4' c hc) hlo hg.new hg.apart r5' (fun t v j hj hv=>rfl) rfl rfl;refine go O _ _ k hw ⟨fun _=> .inl hL2,fun h4=> .inl hL2,fun h5=>?_,fun _=>⟨p,cs,hg.tm,r2',hg.new,hg.apart,?_,fun h5=>?_⟩⟩
  ·rcases h5 with h5|h5
   ·exact absurd (s5 h5).2 hi.no
   ·cases h5
  ·rcases q2 with⟨q2,rfl⟩|⟨q2,rfl⟩
   ·exact .inr (.inr (.inl ⟨(fun h4=>h4.elim q2 fun e=>by cases e),.inr rfl,rfl⟩))
   ·exact .inr (.inr (.inr ⟨.inl q2,.inr rfl,.inl rfl⟩))
  ·rcases h5 with h5|h5
   ·exact hg.tv h5
   ·cases h5
 by_cases i5:i=5
 ·subst i5;obtain⟨a5,x1,x2,x3,x4,x5,x6⟩:=h.x5;rw[ho]at x1;cases x1;have hL3:=TD x2 x5;have hL4:=TD x2 x6;have hL2:=s3 hL3;rw[hi.ho]at x2;cases x2;rw[NK]at t1;cases t1;have hq:=hI.quiet hX hi NL hn (v:= .bool false) (v':= .bool false) t3 (.I1 rfl) fun⟨s,e1,e2⟩=>by rw[t2]at e1;cases e1;cases e2
  obtain⟨p,cells,hg⟩:=sA hL2;refine BS (by rw[x4];intro c hc;cases hc) ?_;rw[zM x4,Oper.uponIn_value,x3,eval_at hg.tm];have htv:g.tv<a.tmps.size:=by rw[hI.JA];exact z5z h.btv hn
  have hw:=hq.world (p:=p) (a':=a.put (some g.tv) (.map (some p))) (w':=w) nL (fun c _ _=>rfl) hlo hg.new hg.apart (.refl _) (fun t v j hj hv=>by
    rw[FC (fun e=>by cases e;rw[h.Ar5 (.inr rfl) hj]at hv;cases hv)];rfl) (by rw[EK];rfl) (by rw[put_defers];rfl)
  refine go O _ _ k hw ⟨fun _=> .inl hL2,fun h4=> .inl hL2,fun _=>⟨.inl hL3,.inl hL4⟩,fun _=>⟨p,cells,?_,hg.row,hg.new,hg.apart,?_,fun _=>sj htv⟩⟩
  ·rw[FC (fun e=>h.ne (z8z e).symm)];exact hg.tm
  ·rw[GD om,GD om];exact hg.cells
 by_cases i8:i=8
 ·subst i8;obtain⟨x1,x2,x4,x5⟩:=h.x8;rw[ho]at x1;cases x1;have hL5:=TD x2 x5;obtain⟨hL3,hL4⟩:=s5 hL5;have hL2:=s3 hL3;have kN:a.eval (.tmp g.key)=kv:=by
   obtain⟨v',q1,q2⟩:=hI.tmp g.key 8 om (fun j oj hj hoj hd=>TD x2 (h.kw j oj hoj hd).2) (fun j oj hj hoj hd=>by have:=(h.kw j oj hoj hd).1;omega) kv h.k8;rw[eval_at q1];exact q2.flat (Dg v4).1
  rw[hi.ho]at x2;cases x2;rw[um h.cv]at t1;cases t1;obtain⟨p,cells,hg⟩:=sA hL2;have Ar7:∃ u',(execOp a.eval a8).run P w= .ok (.value u') w/\H3 SQ V u':=by
   rcases hg.cells with⟨q,_⟩|⟨_,q,_⟩|⟨q,_⟩|⟨_,_,rfl|rfl⟩
   ·exact absurd hL3 q
   ·exact absurd hL4 q
   ·exact absurd hL3 q
   ·exact aC x4 v1 (eval_at (hg.tv hL5)) kN v4 hg.row v9 v11
   ·exact aC x4 v1 (eval_at (hg.tv hL5)) kN v4 hg.row v10 v12
  obtain⟨u',q1,q2⟩:=Ar7;refine BS (by rw[x4];intro c hc;cases hc) ?_;rw[q1,Oper.uponIn_value];have hq:=hI.quiet hX hi NL hn (v:=V) (v':=u') t3 (q2.mono sf) fun⟨s,e1,e2⟩=>by rw[t2]at e1;cases e1;cases e2
  refine go O _ _ k hq ⟨fun _=> .inl hL2,fun h4=> .inl hL2,fun _=>⟨.inl hL3,.inl hL4⟩,fun _=>⟨p,cells,hg.step (GD om) (GD om) (fun h=>h.elim id fun e=>by cases e) (FC hnd.1) (FC hnd.2) rfl hg.apart⟩⟩
 have Dk:=h.same i o i2 i3 i4 i5 i8 ho;rw[hi.ho]at Dk;cases Dk;have gst:∀ O' v' w' k',(∀ p,p<w.heap.size->(∀ b q B,O b=some q->Cn os' S k b B->q.c≠p)->w'.heap[p]? =w.heap[p]? /\∀ b q B,O' b=some q->Cn os' S k' b B->q.c≠p)->GSt g c12 c21 os' S w₀ (fun j=>L j\/j=i) O' (a.put o.dst v') w' k':=by
  intro O' v' w' k' hp;refine⟨fun h3=> .inl (s3 ((GD i3).1 h3)),fun h4=> .inl (s4 ((GD i4).1 h4)),fun h5=>⟨.inl (s5 ((GD i5).1 h5)).1,.inl (s5 ((GD i5).1 h5)).2⟩,fun h2=>?_⟩;obtain⟨p,cells,hg⟩:=sA ((GD i2).1 h2);obtain⟨p1,p2⟩:=hp p hg.row.lt hg.apart;exact⟨p,cells,hg.step (GD i3) (GD i4) (GD i5).1 (FC hnd.1) (FC hnd.2) p1 p2⟩
 have hr:=t2;obtain⟨g1,g2,g3,g4⟩:=Bv hX.hC hX.hch hi.ho hr;have hd:∀ c,o.op≠ .defer c:=LA hX.hch hi.ho hr;have hk:=hI.known hX hi hG;cases g2 with
 | @pure v h'=>
   obtain⟨v',e1,e2⟩:=h' O a.eval w hk;refine BS hd ?_;rw[e1,Oper.uponIn_value];exact go _ _ _ _ (hI.quiet hX hi NL hn g3 e2 fun⟨s,h1,h2⟩=>by rw[hr]at h1;cases h1;cases h2) (gst _ _ _ _ fun p _ hp=>⟨rfl,hp⟩)
 | @read v b h'=>
   obtain⟨⟨cs,hcs⟩,h'⟩:=h';obtain⟨_,h'⟩:=h' O a.eval w hk;obtain⟨v',e1,e2⟩:=h' fun q cs' hq AT5=>hI.Yk hX hi hr rfl AT5 hq;refine BS hd ?_;rw[e1,Oper.uponIn_value];exact go _ _ _ _ (hI.quiet hX hi NL hn g3 e2 fun⟨s,h1,h2⟩=>by rw[hr]at h1;cases h1;cases h2) (gst _ _ _ _ fun p _ hp=>⟨rfl,hp⟩)
 | @new cs vf t h'=>
   obtain⟨w',v',arr,el',lo,hi',vs,more,e1,e2,e3,e4,e5,e6,e7,e8,e9,et,e10⟩:=h' O a.eval w hk;refine BS hd ?_;rw[e1,Oper.uponIn_value];refine go _ _ _ _ (hI.new hX hi NL hn g3 g4 (fun⟨s,h1,h2⟩=>by rw[hr]at h1;cases h1;cases h2) e2 e3 e4 e5 e6 e7 e8 e9 et fun O' hq=>e10 O' _ hq) (gst _ _ _ _ fun p hpl hp=>⟨e4 p hpl,fun b q B hb hH=>?_⟩);by_cases hbn:b=(S i).n
   ·subst hbn;rw[Place.O7]at hb;cases hb;show w.heap.size≠p;omega
   ·rw[Place.Ae _ _ hbn]at hb;exact hp b q B hb hH
 | @eff v Z' h'=>
   have AT6:Ce r i:=⟨_,hr,rfl⟩
   have hki:k=i:=by
    rcases jy k i with hh|hh|hh
    ·obtain⟨⟨s',j1,j2⟩,j3⟩:=hI.Hv om;have hok:os'[k]? =some os'[k]:=Array.getElem?_eq_getElem om;obtain⟨_,j5,_,_⟩:=Bv hX.hC hX.hch hok j1;have j6:DH os'[k].op=true:=by
      cases j5 with
      |eff h'=>exact h'.2.1
      |pure _=>cases j2
      |new _=>cases j2
      |read _=>cases j2
      |pan _=>cases j2
     exact absurd (hi.bef hI.down (hX.hD.eff k i os'[k] o hh hok hi.ho j6 h'.2.1)) j3
    ·exact hh
    ·exact absurd (hI.cp i hh AT6) hi.no
   subst hki;obtain⟨hR,hF⟩:=iX hX hI bT;change S (k+1)=Z' at g4;subst g4;obtain⟨k',m1,m2,m3,m4⟩:=Mt r os'.size (os'.size-(k+1)) (k+1) om;refine h'.2.2 O a w _ hk hR hF nL (hG.mono hI.le) _ _ _ fun v' w' O' q1 q2 q3=>?_;have m3':∀ j,k<j->j<k'->¬ Ce r j:=fun j x1 x2=>m3 j om x2;exact go _ _ _ k' (hI.effect hX hi NL hn g3 q1 q2 (q2.le hF nL) q3 om m2 m3' m4) (gst _ _ _ _ fun p hpl hp=>lP hX bT q2 om m2 m3' hpl hp)
 |pan h'=>exact absurd rfl (hX.hch.np i _ (BM _) hr)
def dv {rd:Option Nat}(h:GhX P B8 G n call os os' F S r g V kv c12 c21 a8) (hn:n<=a₀.tmps.size) (hG:Bm O₀ G) (hlo:B8.lo<=w₀.heap.size){Q:Exit->Act->World->Prop}
  (hQ:∀ O' a' w',Rel B8 O' (S os'.size) w'->X9 O₀ (S 0) w₀ O' (S os'.size) w'->EZ O' (F os'.size) a'->a'.tmps.size=a₀.tmps.size->a'.defers=a₀.defers->Q .normal a' w') :
  ∀ (fuel:Nat) (listed:Array Bool) (O:Place) (a:Act) (w:World) (k:Nat),listed.size=os.size->listed.toList.count false<=fuel ->
   Inv B8 os' F S r os'.size O₀ a₀ w₀ (fun j=>listed.getD j false=true) O a w k->GSt g c12 c21 os' S w₀ (fun j=>listed.getD j false=true) O a w k->wpAnyIn (FW rd) 0 P .any os Q fuel listed a w:=by
 have hX:=h.hX;have at':∀ {i:Nat}{o:Oper},os[i]? =some o->∃ o',os'[i]? =some o'/\o'.after=o.after/\o'.guard=none:=by
  intro i o ho;have hlt:=(Array.getElem?_eq_some_iff.1 ho).1;have BK6:i<os'.size:=by rw[h.sz];exact hlt
  have ho':os'[i]? =some os'[i]:=Array.getElem?_eq_getElem BK6;exact⟨_,ho',h.aft i o _ ho ho'⟩
 have fin:∀ (listed:Array Bool) (O:Place) (a:Act) (w:World) (k:Nat),listed.size=os.size->Inv B8 os' F S r os'.size O₀ a₀ w₀ (fun j=>listed.getD j false=true) O a w k->Region.ready .any os listed=[]->Q .normal a w:=by
  intro listed O a w k hsz hI hr;have RM:∀ i,i<os.size->listed.getD i false=true:=by
   intro i;induction i using Nat.strongRecOn with
   | _ i ih=>
     intro hi;apply SB;intro hL;have tD:i∈Region.ready .any os listed:=by
      rw[Ue];refine⟨?_,os[i],Array.getElem?_eq_getElem hi,fun e he hb=>?_⟩
      ·rw[Hh]at hL ⊢;rw[Array.getElem?_eq_getElem om]at hL ⊢
       simpa using hL
      ·obtain⟨o',g1,g2,_⟩:=at' (Array.getElem?_eq_getElem hi);have:=hX.hD.TD i o' e g1 (by rw[g2];exact he) hb;exact ih e.on this om
     rw[hr]at tD;cases tD
  obtain⟨h1,h2,h3⟩:=iY hX hI (by rw[h.sz];exact RM);exact hQ O a w h1 h2 h3 hI.JA hI.WC
 intro fuel;induction fuel with
 | zero=>
   intro listed O a w k hsz hc hI _;have hr:Region.ready .any os listed=[]:=by
    apply AH0.2;intro i hi;rw[Ue]at hi;obtain⟨h1,o,ho,_⟩:=hi;have hlt:=(Array.getElem?_eq_some_iff.1 ho).1;have:=SS listed.toList om i (by rw[PE];omega);rw[Array.getElem?_toList]at this;rw[Hh,this]at h1;cases h1
   exact⟨hr,fin listed O a w k hsz hI hr⟩
 | succ fuel ih=>
   intro listed O a w k hsz hc hI hS;refine⟨fin listed O a w k hsz hI,fun i hi=>?_⟩;rw[Ue]at hi;obtain⟨h1,o,ho,h2⟩:=hi;have hlt:=(Array.getElem?_eq_some_iff.1 ho).1;have SU:listed[i]? =some false:=by
    rw[Hh,Array.getElem?_eq_getElem om]at h1;rw[Array.getElem?_eq_getElem om]
    simpa using h1
   have hno:¬ listed.getD i false=true:=by rw[Hh,SU];simp
   obtain⟨o',ho',haf,Ar6⟩:=at' ho;have hi:Rdy os' (fun j=>listed.getD j false=true) i o':=⟨ho',hno,by rw[haf];exact h2⟩
   have Mx:(fun j=>(listed.setIfInBounds i true).getD j false=true)=fun j=>listed.getD j false=true\/j=i:=by
    funext j
    apply propext;by_cases hj:j=i
    ·subst hj;simp[Hh,Array.getElem?_setIfInBounds_self_of_lt (show j<listed.size by omega)]
    ·rw[getD_set_ne false (fun h=>hj h.symm)];simp[hj]
   have go:∀ O' a' w' k',Inv B8 os' F S r os'.size O₀ a₀ w₀ (fun j=>listed.getD j false=true\/j=i) O' a' w' k'->GSt g c12 c21 os' S w₀ (fun j=>listed.getD j false=true\/j=i) O' a' w' k'->wpAnyIn (FW rd) 0 P .any os Q fuel (listed.setIfInBounds i true) a' w':=by
    intro O' a' w' k' hI' hS';refine ih _ O' a' w' k' (by simpa using hsz) ?_ (by rw[Mx];exact hI') (by rw[Mx];exact hS');have:=count_set listed.toList i (by rw[Array.getElem?_toList];exact SU);rw[AH1];omega
   exact uo h hn hG hlo hI hS hi ho go
end
end
section
variable {P:Program}{B8:Env}{G:Nat}
def OA {t:Nat}{o:Oper}(h:Rw t o=true):o.dst≠some t:=by
 intro hd;unfold Rw at h;rw[hd]at h;simp at h
def yS {a8:Oper}{key:Nat}:∀ {l:List Oper}{k:Nat},rP a8 key l k=true->∀ (j:Nat) (o:Oper),l[j]? =some o->o.dst=some key->k+j<8/\DJ a8 (k+j)=true:=by
 intro l;induction l with
 |nil=>intro k _ j o h;simp at h
 | cons x l ih=>
   intro k h j o ho hd;unfold rP at h;rw[Q7,Sn]at h;cases j with
   | zero=>
     cases ho;rcases h.1 with h1|h1
     ·exact absurd hd (OA h1)
     ·rw[Q7]at h1;exact⟨by have:=h1.1;rw[Bt]at this;omega,h1.2⟩
   | succ j=>
     have:=ih h.2 j o (by simpa using ho) hd;rw[show k+1+j=k+(j+1) by omega]at this;exact this
def dm {v:Value}(h:Ji v=true):cst v=some v:=by
 unfold cst;rw[h];rfl
def rQ {g:Gh}{kv V:Value}(h:AG1 P g kv=some V):∃ c12 c21 kt el b1 b2 r1 r2,Iw P g.ty=some (kt,el)/\DI (P.underlying kt) g.k1=true/\DI (P.underlying kt) g.k2=true/\DI (P.underlying kt) kv=true/\cst g.v1=some g.v1/\cst g.v2=some g.v2 /\
  Mw g.k2 g.v2 [g.k1,g.v1]=some c12/\Mw g.k1 g.v1 [g.k2,g.v2]=some c21/\PS kv c12=some r1/\PS kv c21=some r2/\found P el r1=some (V,b1)/\found P el r2=some (V,b2)/\cst V=some V:=by
 obtain⟨⟨kt,el⟩,h1,h⟩:=A8 h;obtain⟨hb,h⟩:=G7 h;obtain⟨c12,h2,h⟩:=A8 h;obtain⟨c21,h3,h⟩:=A8 h;obtain⟨r1,h4,h⟩:=A8 h;obtain⟨r2,h5,h⟩:=A8 h;obtain⟨⟨x1,b1⟩,h6,h⟩:=A8 h;obtain⟨⟨x2,b2⟩,h7,h⟩:=A8 h;obtain⟨hv,h⟩:=G7 h;cases h;simp only[Q7]at hb hv;obtain⟨d1,d2,d3,d4,d5,d6,d7⟩:=hb;obtain⟨d8,d9⟩:=hv;obtain rfl:x1=x2:=du d8;exact⟨c12,c21,kt,el,b1,b2,r1,r2,h1,d1,d2,d3,dm d6,dm d7,h2,h3,h4,h5,h6,h7,dm d9⟩
def kX {call:X6}(hC:As P B8 G call){os:Array Oper}{F:Nat->Fr}{S:Nat->St}{r:Nat->Option Stepped}{fr:Fr}{Z Z':St}{O:Place}{a:Act}{w:World}{N k:Nat}(f1:F 0=fr) (f2:S 0=Z) (f5:Iz P call os F S r os.size 0) (hSn:(S os.size).n<=Z'.n)
  (hRd:Rel B8 O Z w) (hF:Cc O Z.n N) (hN:Z'.n<=N) (qQ:EZ O fr a) (m2:k<=os.size) (m3:∀ j,0<=j->j<k->¬ Ce r j) (m4:k<os.size->Ce r k) (L:Nat->Prop) (O5:∀ j,¬ L j):Inv B8 os F S r os.size O a w L O a w k:=by
 have fr0:=hRd.fresh;have nk:=(I3 hC f5 (i:=0) (j:=k) (BM _) m2).n;have sm:∀ b,b<(S 0).n->(S k).h.get b=(S 0).h.get b:=fun b hb=>Eu hC f5 hb (BM _) m2 fun j _ h2 h3=>absurd h3 (m3 j (BM _) h2);have nfree:∀ b q,O b=some q->b<(S 0).n\/Z'.n<=b:=by
  intro b q hb;rcases AW b (S 0).n with hh|hh
  ·exact .inl hh
  ·rcases AW b Z'.n with hh'|hh'
   ·rw[hF b (by rw[<- f2];exact hh) om]at hb;cases hb
   ·exact .inr hh'
 have core:∀ b q B,O b=some q->Cn os S k b B->Z.blk b=some B:=by
  intro b q B hb hHy;have h0:b<(S 0).n:=by
   rcases nfree b q hb with h|h
   ·exact h
   ·rcases hHy with⟨h1,_⟩|⟨j,_,h2,_,h3,_⟩
    ·have:=(I3 hC f5 (i:=k) (j:=os.size) m2 nL).n;omega
    ·have:=(I3 hC f5 (i:=j+1) (j:=os.size) om nL).n;omega
  rcases hHy with⟨h1,h2⟩|⟨j,g1,g2,g3,g4,g5⟩
  ·rw[<- f2];show ob ((S 0).h.get b) _=_;rw[<- sm b h0];exact h2
  ·have:=(I3 hC f5 (i:=0) (j:=j) (BM _) om).n;omega
 refine⟨m2,fun j h1 h2=>absurd h2 (m3 j (BM _) h1),fun h=>⟨m4 h,O5 k⟩,fun j _ _ _=>O5 j,fun j h=>absurd h (O5 j),fun _ _=>rfl,?_,Place.le_refl _,?_,rfl,rfl,
  fun b q B h1 h2=>hRd.Hm b q B h1 (core b q B h1 h2),hRd.dom,fun b q B h1 h2 h3=>hRd.own b q B h1 (core b q B h1 h2) h3,?_,hRd.low,BF _,fun _ _ _=>rfl,?_,.refl _,fun b h1 _=>sm b h1,fun j _ _=>O5 j,?_⟩
 ·intro i hi _ b h1 h2;have g1:=(I3 hC f5 (i:=0) (j:=i) (BM _) om).n;have g2:=(I3 hC f5 (i:=i+1) (j:=os.size) om nL).n;exact hF b (by rw[<- f2];omega) om
 ·intro t i hi h1 h2 v hv;have hz:(F i).get t=(F 0).get t:=RT f5 (BM _) hi fun j o _ h4 h5 h6=>O5 j (h1 j o h4 h5 h6);rw[hz,f1]at hv;exact qQ t v hv
 ·intro b q B b' q' h1 h2 h3 h4 h5 h6;refine hRd.sep b q B b' q' h1 (core b q B h1 h2) h3 h4 h5 ?_;rcases h6 with h6|⟨B',h6⟩
  ·have:=(I3 hC f5 (i:=0) (j:=os.size) (BM _) nL).n;rw[f2]at this;exact .inl om
  ·exact .inr ⟨B',core b' q' B' h5 h6⟩
 ·intro b q B h1 h2 _;exact⟨b,q,B,h1,rfl,by rw[f2];exact core b q B h1 h2,fun h=>h⟩
 ·intro i hi _ b h1 h2;exact Eu hC f5 h2 om m2 fun j _ g2 g3=>absurd g3 (m3 j (BM _) g2)
def yT {l:List Oper}{i:Nat}:l.toArray[i]? =l[i]? :=sI
def VO (hm:P.follows .mixedOrders=true){call:X6}(hC:As P B8 G call){os:Array Oper}{n id:Nat}{fr:Fr}{Z:St}{res:Res}(h:QU P call os.toList fr Z=some res) :
  Adv Z res.Z/\((∀ o∈os.toList,Ak P n G o=true)->∀ lo tl O a w N rl,Rel B8 O Z w->Cc O Z.n N->res.Z.n<=N->EZ O fr a->n<=a.tmps.size->Marks lo w tl a.defers->Bm O G ->
   ∀ Q:Exit->Act->World->Prop,bf B8 lo tl O Z w a res Q->(Code.region id os true).wpIn (FW rl) 0 P Q a w):=by
 obtain⟨g,hg,h⟩:=A8 h;obtain⟨hn0,h⟩:=G7 h;obtain⟨r0,-,h⟩:=A8 h;obtain⟨kv,-,h⟩:=A8 h;obtain⟨V,hV,h⟩:=A8 h;obtain⟨hok,h⟩:=G7 h;obtain⟨⟨frE,ZE,ds,p⟩,En,h⟩:=A8 h;obtain⟨hrd,h⟩:=G7 (show bb (BL _ ds ds&&p.isNone) (ob (frE.get g.key) fun kv'=>bb (veq kv' kv) (some ⟨.normal,frE,ZE⟩))=some res from h);obtain⟨kv',Ay9,h⟩:=A8 h;obtain⟨Az0,h⟩:=G7 h;cases h;obtain rfl:=du Az0;rw[Q7]at hrd hok hn0;obtain⟨hrd,hpn⟩:=hrd;obtain rfl:p=none:=by simpa using hpn
 obtain⟨hgh,hD⟩:=hok;obtain⟨a0,a1,a2,a3,a4,a5,a6,a7,a8,N3,hH⟩:=yU hg;generalize hl:os.toList=l at *;have hfl:ET l V=a0::a1::El a2::El a3::El a4::El a5::a6::a7::UT a8 V::N3:=by rw[hH.eq];rfl
 have QM:M5 P call (ET l V).toArray (ET l V).toArray.toList 0 fr Z []=some ⟨frE,ZE,ds,none⟩:=En;generalize AR2:(ET l V).toArray=os' at *;obtain⟨F,S,r,z,_,f1,f2,f34,f5,f6,f7⟩:=ZC os'.toList 0 fr Z [] _ rfl (BM _) QM;obtain⟨rfl,f3,f4⟩:z=os'.size/\F os'.size=frE/\S os'.size=ZE:=by
  rcases f34 with⟨g1,_,g3,g4⟩|⟨g1,g2,o,s,g3,g4,g5⟩
  ·exact⟨g1,g3,g4⟩
  ·cases g4
 have pI:Adv Z ZE:=by rw[<- f2,<- f4];exact I3 hC f5 (BM _) nL
 refine⟨pI,fun Jf lo tl O a w N rl hR hF hN qQ hn hd hG Q hQ=>?_⟩;have osl:∀ i,os[i]? =l[i]? :=fun i=>by rw[<- hl,Array.getElem?_toList]
 have TG:∀ i,os'[i]? =(a0::a1::El a2::El a3::El a4::El a5::a6::a7::UT a8 V::N3)[i]? :=fun i=>by rw[<- AR2,yT,hfl]
 have Lu:∀ i,os[i]? =(a0::a1::a2::a3::a4::a5::a6::a7::a8::N3)[i]? :=fun i=>by rw[osl,hH.eq]
 have ZW:∀ (i:Nat) (o:Oper),os[i]? =some o->Ak P n G o=true:=fun i o ho=>Jf o (by rw[osl]at ho;exact Bs ho);have iB:∀ o:Oper,Ak P n G (El o)=true:=fun _=>rfl;have Al6:∀ o:Oper,Ak P n G o=true->Ak P n G (UT o V)=true:=by
  intro o ho;unfold Ak at ho ⊢;rw[Q7]at ho ⊢;exact⟨ho.1,rfl⟩
 have hO:∀ (i:Nat) (o:Oper),os'[i]? =some o->Ak P n G o=true:=by
  intro i o ho;rw[TG]at ho
  match i,ho with
  |0,ho=>cases ho;exact ZW 0 _ (by rw[Lu];rfl)
  |1,ho=>cases ho;exact ZW 1 _ (by rw[Lu];rfl)
  |2,ho=>cases ho;exact iB _
  |3,ho=>cases ho;exact iB _
  |4,ho=>cases ho;exact iB _
  |5,ho=>cases ho;exact iB _
  |6,ho=>cases ho;exact ZW 6 _ (by rw[Lu];rfl)
  |7,ho=>cases ho;exact ZW 7 _ (by rw[Lu];rfl)
  |8,ho=>cases ho;exact Al6 _ (ZW 8 _ (by rw[Lu];rfl))
  |i+9,ho=>exact ZW (i+9) _ (by rw[Lu];exact ho)
 have hX:Ctx P B8 G n call os' F S r os'.size:=by
  refine⟨hC,hO,Oo hD,f5,?_,by rw[f2];exact hR.fresh⟩;intro i b j s s' h1 h2 h3 h4 hi hj;rcases UO hrd ((f7 i s (BM _) hi h1).1 b h2) ((f7 j s' (BM _) hj h3).2 h4)with h5|h5
  ·left;change bi (Nat.testBit ((Region.before os').toList.getD j 0) i) true (Nat.testBit ((Region.before os').toList.getD i 0) j)=true at h5;cases hb:Nat.testBit ((Region.before os').toList.getD j 0) i with
   |true=>exact .inl hb
   |false=>rw[hb]at h5;exact .inr h5
  ·right;intro hlt;rcases h5 hlt with h6|h6
   ·rcases(Gt hC f5 hj).1.ver b.b hlt with h7|h7
    ·exact(Ro h7).symm
    ·omega
   ·exact h6
 unfold Al7 at hgh;simp only[Q7,GJ]at hgh;obtain⟨q1,q2,q3,q4⟩:=hgh;rw[hH.eq]at q4;change rP a8 g.key (ET (a0::a1::a2::a3::a4::a5::a6::a7::a8::N3) V) 0=true at q4;rw[<- hH.eq,hfl]at q4;rw[hfl]at q2 q3;have hgd:∀ (i:Nat) (o:Oper),os[i]? =some o->o.guard=none:=fun i o ho=>by
  have:=(q1 o (by rw[osl]at ho;exact Bs ho)).1
  simpa using this
 have hkw:∀ (j:Nat) (o:Oper),os'[j]? =some o->o.dst=some g.key->j<8/\DJ a8 j=true:=fun j o ho hd=>by
  have:=yS q4 j o (by rw[<- TG];exact ho) hd;rw[HC]at this;exact this
 have hsz:os'.size=os.size:=by
  have e1:os'.size=(ET l V).length:=by rw[<- AR2];simp
  have e2:os.size=l.length:=by rw[<- hl];simp
  rw[e1,e2,hfl,hH.eq];rfl
 obtain⟨c12,c21,kt,el,b1,b2,r1,r2,v1,v2,v3,v4,v5,v6,v7,v8,v9,v10,v11,v12,v13⟩:=rQ hV;have d2:=ZW 2 a2 (by rw[Lu];rfl);have d5:=ZW 5 a5 (by rw[Lu];rfl);have hGX:GhX P B8 G n call os os' F S r g V kv' c12 c21 a8:=by
  refine⟨hX,hsz,?_,?_,hgd,fun j o ho=>?_,?_,⟨a2,by rw[Lu];rfl,by rw[TG];rfl,hH.d2,hH.o2⟩,⟨a3,by rw[Lu];rfl,by rw[TG];rfl,hH.d3,hH.o3,hH.e32⟩,⟨a4,by rw[Lu];rfl,by rw[TG];rfl,hH.d4,hH.o4,hH.e42⟩,⟨a5,by rw[Lu];rfl,by rw[TG];rfl,hH.d5,hH.o5,hH.e53,hH.e54⟩,
   ⟨by rw[Lu];rfl,by rw[TG];rfl,hH.o8,hH.e85⟩,hkw,?_,RW d2 _ hH.d2,RW d5 _ hH.d5,?_,⟨kt,el,b1,b2,r1,r2,v1,v2,v3,v4,v5,v6,v7,v8,v9,v10,v11,v12⟩,v13⟩
  ·intro i o i2 i3 i4 i5 i8 ho;rw[Lu]at ho;rw[TG]
   match i,ho with
   |0,ho=>exact ho
   |1,ho=>exact ho
   |2,ho=>exact absurd rfl i2
   |3,ho=>exact absurd rfl i3
   |4,ho=>exact absurd rfl i4
   |5,ho=>exact absurd rfl i5
   |6,ho=>exact ho
   |7,ho=>exact ho
   |8,ho=>exact absurd rfl i8
   |i+9,ho=>exact ho
  ·intro i o o' ho ho';have hgo:=hgd i o ho;rw[Lu]at ho;rw[TG]at ho'
   match i,ho,ho' with
   |0,ho,ho'=>cases ho;cases ho';exact⟨rfl,hgo⟩
   |1,ho,ho'=>cases ho;cases ho';exact⟨rfl,hgo⟩
   |2,ho,ho'=>cases ho;cases ho';exact⟨rfl,hgo⟩
   |3,ho,ho'=>cases ho;cases ho';exact⟨rfl,hgo⟩
   |4,ho,ho'=>cases ho;cases ho';exact⟨rfl,hgo⟩
   |5,ho,ho'=>cases ho;cases ho';exact⟨rfl,hgo⟩
   |6,ho,ho'=>cases ho;cases ho';exact⟨rfl,hgo⟩
   |7,ho,ho'=>cases ho;cases ho';exact⟨rfl,hgo⟩
   |8,ho,ho'=>cases ho;cases ho';exact⟨rfl,hgo⟩
   | i+9,ho,ho'=>
     have e:o=o':=z8z (ho.symm.trans ho');subst e;exact⟨rfl,hgo⟩
  ·rw[TG]at ho;exact⟨OA (q2 o (Bs ho)),OA (q3 o (Bs ho))⟩
  ·rw[f1];exact⟨by simpa using hn0.1,by simpa using hn0.2⟩
  ·rw[<- RT f5 (t:=g.key) (p:=8) (m:=os'.size) (by
    have e1:os'.size=(ET l V).length:=by rw[<- AR2];simp
    rw[e1,hfl];simp) nL (fun j o h1 _ ho hd=>by have:=(hkw j o ho hd).1;omega),f3]
   exact Ay9
  ·have:=(q1 a2 (by rw[hH.eq];simp)).2;intro he;rw[he]at this;simp at this
 refine wpIn_region_any hm ?_;obtain⟨k,m1,m2,m3,m4⟩:=Mt r os'.size os'.size 0 om;have hRd:Rel B8 O Z w.drew:=hR.heap rfl;have O5:∀ j,¬ (Array.replicate os.size false).getD j false=true:=by
  intro j;rw[Hh,Array.getElem?_replicate];split<;>simp
 refine dv (O₀:=O) (a₀:=a) (w₀:=w.drew) hGX hn hG hRd.low.1 (Q:=Q) (fun O' a' w' q1 q2 q3 q4 q5=>?_) os.size _ O a w.drew k (by simp) (by simp) ?_ ?_
 ·rw[f4]at q1 q2;rw[f2]at q2;rw[f3]at q3;exact hQ .normal a' w' O' rfl q1 q2.drew q3 q4 (by rw[q5];exact hd.PR hR q2.drew)
 ·exact kX hC f1 f2 f5 (by rw[f4];exact BF _) hRd hF hN qQ m2 m3 m4 _ O5
 ·exact⟨fun h=>absurd h (O5 3),fun h=>absurd h (O5 4),fun h=>absurd h (O5 5),fun h=>absurd h (O5 2)⟩
end
end Go.Ab
namespace Go.Ab
open Go
section
variable {P:Program}{B8:Env}{G:Nat}
def Kg {w:World}{l:Nat}{r:Loop}(h:w.heap[l]? =some (.loop r)) (fn:FuncId) (tmps:Array Value) (ps:Array Tmp) (assign body:Code) :
  (Instr.enterLoop fn tmps ps assign body (some l)).run P w =
    .ok (w.heap.size,[]) (w.alloc (.loop { state:= .ready,pending:=none,fn,tmps,params:=ps,assign,body,defers:=r.defers })):=by
 unfold Instr.enterLoop;simp only[Sem.run_bind,run_newObj_alloc,Result.andThen,Sem.run_pure,run_getLoop h]
def alloc_old {w:World}{o:Obj}{c:Nat}(h:c<w.heap.size):(w.alloc o).heap[c]? =w.heap[c]? :=RowKit.Below.heap_alloc w o c h
def lT {s:LoopState}(h:SX s=false):s≠ .busy:=by
 intro he;subst he;cases h
def nK {call:X6}(hC:As P B8 G call) (Fu:∀ n c,B8.chk n c=codeOk P n G c){rd:Option Nat}{f:Operand}{ps:Array Tmp}{assign body:Code}{fr:Fr}{Z:St}{res:Res}(h:cw P call rd f ps.toList assign body fr Z=some res) :
  Adv Z res.Z/\∀ n,codeOk P n G (.rangeFunc f ps assign body)=true->∀ lo tl O a w N rl,lo<=w.heap.size->Rel B8 O Z w->Cc O Z.n N->res.Z.n<=N->EZ O fr a->n<=a.tmps.size->Marks lo w tl a.defers->Bm O G->bZ O rd rl ->
   ∀ Q:Exit->Act->World->Prop,bf B8 lo tl O Z w a res Q->(Code.rangeFunc f ps assign body).wpIn (FW rl) 0 P Q a w:=by
 obtain⟨h1,k1⟩:=G7 h;obtain⟨u,h2,k2⟩:=A8 k1;obtain⟨⟨t,first,captured⟩,h3,k3⟩:=A8 k2;obtain⟨g,h4,k4⟩:=A8 (show ob (AH5 t) _=some res from k3);obtain⟨h5,k5⟩:=G7 k4;obtain⟨⟨p,cv,Z2⟩,h6,k6⟩:=A8 k5;clear h k1 k2 k3 k4 k5;have ht:t= .fn g:=by
  cases t with
  |fn g'=>cases h4;rfl
  |yld b=>cases h4
 subst ht;cases p with
 |true=>cases k6
 | false =>
   obtain⟨L,h7,k7⟩:=A8 (show ob (Z2.Ih Z.n) _=some res from k6);obtain⟨lfr,lps,las,lbd,lst,Ot⟩:=L;have k7:bi (SX lst) none (ob (Z2.BT Z.n .exhausted Ot) fun Z=>ob (aL Ot) fun o=>some ⟨o,fr,Z⟩)=some res:=k7;obtain⟨h8,k8⟩:=KD k7;obtain⟨Z3,h9,k9⟩:=A8 k8;obtain⟨o,h10,k10⟩:=A8 k9;clear k6 k7 k8 k9;cases k10;obtain⟨c1,c2⟩:=hC _ _ _ _ h6;have a3:=Nw h9;refine⟨((Adv.new _ _ _).trans c1).trans a3,fun n hc lo tl O a w N rl hlo hR hF hN hr hn hd hG hrd Q hQ=>?_⟩;obtain⟨hc1,hc'⟩:=R4 (show bi (JW G f) (bi (ps.toList.all fun p=>Nat.blt p n) (bi (codeOk P n G assign) (codeOk P n G body) false) false) false=true from hc);obtain⟨hc2,hc'⟩:=R4 hc';obtain⟨hc3,hc4⟩:=R4 hc';rw[GJ]at hc2;have hN2:Z2.n<=N:=AV a3.n hN;have hN1:Z.n+1<=N:=AV c1.n hN2;have HH:O Z.n=none:=hF Z.n nL om;have hu:=bg (a:=a) hG hc1 (fun t _ v hv=>hr t v hv) h2;obtain⟨Ap,N8,hfv,r1,r2⟩:=Yc hu h3;have hfv:a.eval f= .func (.func g) ⟨Ap⟩ ⟨N8⟩:=hfv;refine wpIn_rangeFunc fun lU _=>?_
   have BB3:∃ l mark w1 rec,(Instr.enterLoop lU a.tmps ps assign body (FW rl).round).run P w= .ok (l,mark) w1/\w1.heap[l]? =some (.loop rec)/\w.heap.size<=l/\l<w1.heap.size/\w.heap.size<=w1.heap.size /\
     (∀ c,c<w.heap.size->w1.heap[c]? =w.heap[c]?)/\Outside w w1/\Marks lo w1 tl (mark++a.defers) /\
     rec.state= .ready/\rec.pending=none/\rec.params=ps/\rec.assign=assign/\rec.body=body/\rec.tmps=a.tmps:=by
    cases rl with
    | none=>
      refine⟨_,_,_,{ state:= .ready,pending:=none,fn:=lU,tmps:=a.tmps,params:=ps,assign,body,defers:=w.heap.size },run_enterLoop_outer (P:=P) (w:=w) lU a.tmps ps assign body,?_,?_,?_,?_,?_,⟨rfl,rfl,rfl⟩,?_,rfl,rfl,rfl,rfl,rfl,rfl⟩
      ·have:=World.alloc_heap_new (w.alloc (.deferred (some []))) (.loop { state:= .ready,pending:=none,fn:=lU,tmps:=a.tmps,params:=ps,assign,body,defers:=w.heap.size });rw[World.size_alloc]at this;exact this
      ·omega
      ·rw[World.size_alloc,World.size_alloc];omega
      ·rw[World.size_alloc,World.size_alloc];omega
      ·intro c hcc;rw[alloc_old (by rw[World.size_alloc];omega),alloc_old hcc]
      ·obtain⟨Ds,m1,m2,m3⟩:=hd;have hlt:∀ D∈Ds,D<w.heap.size:=by
        intro D hD;have:=(m3 D hD).2;rcases AW D w.heap.size with hh|hh
        ·exact hh
        ·rw[Array.getElem?_eq_none hh]at this;cases this
       refine⟨w.heap.size::Ds,by rw[m1];rfl,List.nodup_cons.2 ⟨fun hm=>by have:=hlt _ hm;omega,m2⟩,fun D hD=>?_⟩;rcases Y5.1 hD with rfl|hD
       ·refine⟨hlo,?_⟩;rw[alloc_old (by rw[World.size_alloc];omega)];exact World.alloc_heap_new _ _
       ·refine⟨(m3 D hD).1,?_⟩;have:=hlt D hD;rw[alloc_old (by rw[World.size_alloc];omega),alloc_old this];exact(m3 D hD).2
    | some l0=>
      cases rd with
      |none=>cases hrd
      | some b0=>
        obtain⟨q0,g1,g2⟩:=hrd;cases g2;obtain⟨L0,hL0⟩:=Option.isSome_iff_exists.1 (show(Z.Ih b0).isSome=true from h1);obtain⟨r0,hr0⟩:=hR.loop g1 hL0;refine⟨_,_,_,{ state:= .ready,pending:=none,fn:=lU,tmps:=a.tmps,params:=ps,assign,body,defers:=r0.defers },Kg (P:=P) hr0.Ux lU a.tmps ps assign body,World.alloc_heap_new _ _,BF _,?_,?_,?_,⟨rfl,rfl,rfl⟩,?_,rfl,rfl,rfl,rfl,rfl,rfl⟩
        ·rw[World.size_alloc];omega
        ·rw[World.size_alloc];omega
        ·intro c hcc;exact alloc_old hcc
        ·obtain⟨Ds,m1,m2,m3⟩:=hd;refine⟨Ds,m1,m2,fun D hD=>⟨(m3 D hD).1,?_⟩⟩;have h:=(m3 D hD).2;have hlt:D<w.heap.size:=by
          rcases AW D w.heap.size with hh|hh
          ·exact hh
          ·rw[Array.getElem?_eq_none hh]at h;cases h
         rw[alloc_old hlt];exact h
   obtain⟨l,mark,w1,rec,hen,BB4,hl1,hl2,hsz,hold,BB5,hmarks,e1,e2,e3,e4,e5,e6⟩:=BB3;have qo:HJ B8 (O.put Z.n ⟨l,0,0⟩) w1 l fr ps.toList assign body .ready none rec:=by
    refine⟨BB4,e1,e2,by rw[e3],e4,e5,fun t v hv=>?_,fun p hp=>?_,n,by rw[e6];exact hn,by rw[Fu];exact hc3,by rw[Fu];exact hc4⟩
    ·obtain⟨v',g1,g2⟩:=hr t v hv;exact⟨v',by rw[e6];exact g1,g2.mono (Place.HY _ HH)⟩
    ·have:=hc2 p hp;rw[Bt]at this;rw[e6];omega
   obtain⟨R1,F1⟩:=hR.Dd (cs:=[]) (k:= .loop fr ps.toList assign body .ready none) HH hl1 hl2 hsz hold BB5 (.loop rfl qo);have zY:O.le (O.put Z.n ⟨l,0,0⟩):=Place.HY _ HH;have hy:H3 (O.put Z.n ⟨l,0,0⟩) (.func (.yield Z.n) #[] #[]) (.func (.yield l) #[] #[]):= .yld (q:=⟨l,0,0⟩) (Place.O7 _ _ _);have tJ:Cc (O.put Z.n ⟨l,0,0⟩) (Z.n+1) N:=by
    intro b g1 g2;rw[Place.Ae _ _ om];exact hF b om g2
   obtain⟨fd,d1,d2,d3⟩:=c2 _ w1 (Ap++[.func (.yield l) #[] #[]]++N8) N R1 tJ hN2 (hG.mono zY) (E7.append (r2.mono zY) (E7.append (.cons hy .nil) (r1.mono zY)));have AH6:fd.body.isSome=true:=by
    unfold Ps at h5;rw[d1]at h5;exact h5
   have Dy:((⟨Ap⟩:Array Value)++#[.func (.yield l) #[] #[]])++⟨N8⟩=⟨Ap++[.func (.yield l) #[] #[]]++N8⟩:=by
    rw[<- Qp];simp
   have En:(callFunc g ⟨Ap++[.func (.yield l) #[] #[]]++N8⟩).run P w1= .ok (.enter g ⟨Ap++[.func (.yield l) #[] #[]]++N8⟩) w1:=by
    have hn0:fd.body.isNone=false:=by cases hb:fd.body with|none=>rw[hb]at AH6;cases AH6|some c=>rfl
    simp only[callFunc,Sem.run_bind,run_program,Result.andThen_ok,d1,d2,hn0,IH,Gc,Sem.run_pure]
   rcases d3 with⟨_,d3⟩|⟨v',d3,_⟩
   ·refine⟨l,mark,w1,{ target:= .fn (.func g) ⟨N8⟩,args:=(⟨Ap⟩:Array Value)++#[.func (.yield l) #[] #[]] },w1,g,(((⟨Ap⟩:Array Value)++#[.func (.yield l) #[] #[]])++⟨N8⟩),w1,hen,?_,fun _ _=>trivial,?_,fun h=>(nomatch h),?_⟩
    ·have Lr:Array.map a.eval #[Operand.const (Value.func (Fn.yield l) #[] #[])]=#[Value.func (Fn.yield l) #[] #[]]:=by simp[Act.eval]
     simp only[resolve,hfv,Deferred.ofValue,Lr];rfl
    ·show(callFunc g (((⟨Ap⟩:Array Value)++#[.func (.yield l) #[] #[]])++⟨N8⟩)).run P w1=_;rw[Dy];exact En
    ·rw[Dy];refine(callsIn_wide (n:=0)).2 (d3.mono ?_);rintro en w' ⟨v',O',rfl,q1,q2,q3⟩;have yB:=q2.le (Z:=Z.Dd [] _) tJ hN2;have hq:O' Z.n=some ⟨l,0,0⟩:=yB _ _ (Place.O7 _ _ _);obtain⟨r3,hL3⟩:=q1.loop hq h7;obtain⟨t1,t2⟩:=q1.BT hq h9 h7 hL3;have BB6:r3.state≠ .busy:=by
      have:r3.state=lst:=hL3.hst;rw[this];exact lT h8
     have tK:r3.pending=Ot:=hL3.XO;have hfr:X9 O Z w O' Z3 (w'.putObj l (.loop { r3 with state:= .exhausted,pending:=Ot })):=(F1.trans q2).trans t2;have Lo:=run_endLoop (P:=P) hL3.Ux BB6;have BB7:({ r3 with state:= .exhausted }:Loop)={ r3 with state:= .exhausted,pending:=Ot }:=by rw[<- tK]
     rw[BB7]at Lo;refine⟨_,_,Lo,?_⟩;rw[tK];have hm3:Marks lo (w'.putObj l (.loop { r3 with state:= .exhausted,pending:=Ot })) tl (mark++a.defers):=(hmarks.PR R1 q2).PR q1 t2;have An5:EZ O' fr { a with defers:=mark++a.defers }:=(hr.mono (Place.le_trans zY yB):EZ O' fr a)
     have tL:∀ e,ExR O' o e->Q e { a with defers:=mark++a.defers } (w'.putObj l (.loop { r3 with state:= .exhausted,pending:=Ot })) :=
      fun e he=>hQ e _ _ O' he t1 hfr An5 rfl hm3
     unfold aL at h10;split at h10
     ·cases h10;exact tL _ rfl
     ·cases h10;exact wpIn_ret (tL _ rfl)
     ·cases h10;exact wpIn_exit (tL _ rfl)
     ·cases h10
   ·rw[En]at d3;cases d3
end
section
variable {O:Place}{Z:St}{w:World}{H:Dq}
section
variable {P:Program}{B8:Env}{G:Nat}
def Rel.shut (hR:Rel B8 O Z w){D:Nat}{x:Option (List Deferred)}(hD:w.heap[D]? =some (.deferred x)) (hlo:B8.lo<=D) (o:Obj):Rel B8 O Z (w.putObj D o):=by
 have hne:∀ b q B,O b=some q->Z.blk b=some B->q.c≠D:=by
  intro b q B h1 h2 he;subst he;exact(hR.Hm b q B h1 h2).MZ hD
 refine⟨hR.fresh,fun b q B h1 h2=>(hR.Hm b q B h1 h2).mono (Place.le_refl _) (World.putObj_heap_other (hne b q B h1 h2)),fun b q h=>by rw[World.putObj_size];exact hR.dom b q h,hR.own,hR.sep,hR.low.next (by rw[World.putObj_size];exact BF _) fun c hc=>World.putObj_heap_other om⟩
def X9.close {O':Place}{Z':St}{w' w'':World}(h:X9 O Z w O' Z' w') (hk:∀ c,c<w.heap.size->w''.heap[c]? =w'.heap[c]?) (hs:w''.heap.size=w'.heap.size) (ho:Outside w' w''):X9 O Z w O' Z' w'' :=
 ⟨h.ext,h.n,by rw[hs];exact h.size,fun c hc hb=>by rw[hk c hc];exact h.H4 c hc hb,h.owned,h.out.trans ho,h.same⟩
def HL {fn:Func}{tmps:Array Value}{R:Ending->World->Prop}{lo:Nat}(hlo:B8.lo<=lo){u:FrameMode}(hu:u≠ .run):∀ (Ds:List Nat) (w:World),Ds.Nodup->(∀ D∈Ds,lo<=D/\w.heap[D]? =some (.deferred (some [])))->Rel B8 O Z w ->
  (∀ w',Rel B8 O Z w'->(∀ c,c<lo->w'.heap[c]? =w.heap[c]?)->w'.heap.size=w.heap.size->Outside w w'->LeavesIn Fence.wide 0 P fn tmps R [] u w')->LeavesInM Fence.wide 0 P fn tmps R (Ds.map Na) u w:=by
 intro Ds;induction Ds with
 |nil=>intro w _ _ hR k;exact k w hR (fun _ _=>rfl) rfl (.refl _)
 | cons D Ds ih=>
   intro w hn hD hR k;obtain⟨n1,n2⟩:=List.nodup_cons.1 hn;obtain⟨d1,d2⟩:=hD D (by simp);refine⟨hu,.inl ⟨D,_,rfl,run_takeDeferred d2,ih _ n2 (fun E hE=>?_) (hR.shut d2 (AV hlo d1) _) fun w' h1 h2 h3 h4=>k w' h1 (fun c hc=>?_) ?_ ?_⟩⟩
   ·obtain⟨e1,e2⟩:=hD E (by simp[hE]);refine⟨e1,?_⟩;rw[World.putObj_heap_other (fun he=>n1 (by rw[<- he];exact hE))];exact e2
   ·rw[h2 c hc,World.putObj_heap_other om]
   ·rw[h3,World.putObj_size]
   ·exact Outside.trans (b:=w.putObj D (.deferred none)) ⟨rfl,rfl,rfl⟩ h4
def XW {F:Fence}{n:Nat}{Q:Exit->Act->World->Prop}{a:Act}{c:Code}(h:c.wpIn F n P (fun e a w=>(∀ l,e≠ .goto l)/\Q e a w) a w):(Code.scope c).wpIn F n P Q a w:=by
 intro b k cs hro hb hr;have h0:(lone (b.atR a (.code (.scope c)::k)) cs w).fenced P F:=fenced_calm hb hr rfl;have h1:_root_.Go.step P (lone (b.atR a (.code (.scope c)::k)) cs w)= .next (lone (b.atR a (.code c:: .inScope c::k)) cs w):=step_lone_go (by simp[stepG,stepG.exec,Frame.atR]);obtain⟨e,a₁,w₁,⟨hg,hq⟩,Kc⟩:=h b (.inScope c::k) cs hro hb hr;cases e with
 |normal=>exact⟨.normal,a₁,w₁,hq,.head h0 h1 (StepsIn.trans Kc (.one (fenced_calm hb hr rfl) (step_lone_go (by simp[stepG,stepG.exec,Frame.atR]))))⟩
 | exit id=>
   have hx:exitTo id (.inScope c::k)=exitTo id k:=by simp[exitTo]
   exact⟨_,a₁,w₁,hq,fun k' hk=> .head h0 h1 (Kc.1 k' (by rw[hx];exact hk)),
    fun hr' hk=>let ⟨k₁,g1,g2⟩:=Kc.2 hr' (by rw[hx];exact hk);⟨k₁,g1,.head h0 h1 g2⟩⟩
 |goto l=>exact absurd rfl (hg l)
 |ret=>exact⟨_,a₁,w₁,hq,.of_steps (.one h0 h1) Kc⟩
 |panic ch=>exact⟨_,a₁,w₁,hq,.of_steps (.one h0 h1) Kc⟩
 |outgrown=>exact⟨_,a₁,w₁,hq,.of_steps (.one h0 h1) Kc⟩
def JV (P:Program) (B8:Env) (G:Nat) (H:Dq):Prop :=
 ∀ g s,H g=some s->∀ run,Nb P B8 G run->∀ vs Z r,s.f run vs Z=some r->Adv Z r.Z/\∀ O w vs' N,Rel B8 O Z w->Cc O Z.n N->r.Z.n<=N->Bm O G->E7 O vs vs'->CG P B8 O g vs' Z w r
def Ki {run:RunT}(hE:Nb P B8 G run) (Fu:∀ n c,B8.chk n c=codeOk P n G c) (hP:GL P H G P.funcs.toList 0=true) (hH:JV P B8 G H):As P B8 G (DG P H run):=by
 intro t vs Z r h;cases t with
 |yld b=>exact nI hE Fu (show XX run b vs Z=some r from h)
 | fn g=>
   have h:OT P H run g vs Z=some r:=h;unfold OT at h;cases hg:H g with
   |some s=>rw[hg]at h;exact hH g s hg run hE vs Z r h
   | none =>
     rw[hg]at h;obtain⟨fn,hf,h1⟩:=A8 (show ob (P.funcs[g]?) _=some r from h);clear h;have hfo:=XY hP g fn (by rw[<- Array.getElem?_toList]at hf;exact hf) (by rw[HC];exact hg);unfold VN at hfo;cases hn:(fn.name== "runtime.NumGoroutine")with
     |true=>rw[hn]at hfo;cases hfo
     | false=>
       rw[hn]at hfo;cases hb:fn.body with
       | none=>
         rw[hb]at h1;obtain⟨h2,h3⟩:=G7 (show bb (TV vs) _=some r from h1);obtain⟨u,h4,h5⟩:=A8 h3;obtain⟨h6,h7⟩:=G7 h5;cases h7;refine⟨.refl _,fun O w vs' N hR hF hN hG hv=>⟨fn,hf,hn,.inr ⟨u,?_,rfl,rfl,H3.out h6⟩⟩⟩;have:=hv.flat h2;subst this;unfold Kj at h4;split at h4
         ·rename_i x hx;cases h4;exact FI _ hx w
         ·cases h4
       | some body=>
         rw[hb]at h1 hfo;change codeOk P fn.ntmps G body=true at hfo;obtain⟨⟨o,fr,Z1⟩,h2,h3⟩:=A8 (show ob (run none body (HZ vs 0 .nil) Z) (HM P fn)=some r from h1);clear h1;obtain⟨g1,g2⟩:=hE none body _ Z _ h2;have hr:r.Z=Z1/\((∃ us,IP P fr Z1 fn.results.toList=some us/\r.v=tup us/\r.pan=false/\(o= .normal\/o= .ret))\/(r.pan=true/\o= .pan r.v)):=by
          cases o with
          |normal=>obtain⟨us,h6,h7⟩:=A8 (show ob (IP P fr Z1 fn.results.toList) _=some r from h3);cases h7;exact⟨rfl,.inl ⟨us,h6,rfl,rfl,.inl rfl⟩⟩
          |ret=>obtain⟨us,h6,h7⟩:=A8 (show ob (IP P fr Z1 fn.results.toList) _=some r from h3);cases h7;exact⟨rfl,.inl ⟨us,h6,rfl,rfl,.inr rfl⟩⟩
          |exit i=>cases h3
          |pan v=>cases h3;exact⟨rfl,.inr ⟨rfl,rfl⟩⟩
         obtain⟨hrZ,hr⟩:=hr;obtain⟨rp,rv,rZ⟩:=r;cases(show rZ=Z1 from hrZ);refine⟨g1,fun O w vs' N hR hF hN hG hv=>⟨fn,hf,hn,.inl ⟨by rw[hb];rfl,(callsIn_wide (n:=0)).1 (callsIn_of_wp_marks hf hb trivial ?_)⟩⟩⟩;have hl:=hv.length;refine g2 fn.ntmps hfo w.heap.size [] O _ w N none nL hR hF hN ?_ ?_ (.nil _ _ _) hG rfl _ fun e a' w' O' q0 q1 q2 q3 q4 q5=>?_
         ·intro t u hu;rw[XZ]at hu;by_cases ht:0<=t/\t<0+vs.length
          ·rw[z1z ht]at hu;obtain⟨u',k1,k2⟩:=hv.get hu;refine⟨u',?_,k2⟩;show((⟨vs'⟩:Array Value)++Array.replicate _ undef)[t]? =some u';rw[Array.getElem?_append_left (by simp;omega)]
           simpa using k1
          ·rw[z0z ht]at hu;cases hu
         ·show fn.ntmps<=((⟨vs'⟩:Array Value)++Array.replicate (fn.ntmps-(⟨vs'⟩:Array Value).size) undef).size;rw[XH,fE];omega
         ·obtain⟨Ds,m1,m2,m3⟩:=q5;rcases hr with⟨us,h6,h7,h8,h9⟩|⟨h8,h9⟩
          ·cases(show rv=tup us from h7);cases(show rp=false from h8);have key:LeavesInM Fence.wide 0 P fn a'.tmps (fun e w'=>∃ v' O',e=ended false v'/\Rel B8 O' Z1 w'/\X9 O Z w O' Z1 w'/\H3 O' (tup us) v') a'.defers .returning w':=by
            rw[m1,FV];refine HL hR.low.1 (by simp) Ds w' m2 m3 q1 fun w'' p1 p2 p3 p4=>?_;obtain⟨v',k1,k2⟩:=Ha (P:=P) p1 q3 h6;exact⟨v',k1,v',O',rfl,p1,q2.close p2 p3 p4,k2⟩
           rcases h9 with rfl|rfl
           ·cases(show e= .normal from q0);exact key
           ·cases(show e= .ret from q0);exact key
          ·cases(show rp=true from h8);cases(show o= .pan rv from h9);obtain⟨v',rfl,hv'⟩:=q0;show LeavesInM Fence.wide 0 P fn a'.tmps _ a'.defers (.panicking _) w';rw[m1,FV];refine HL hR.low.1 (by simp) Ds w' m2 m3 q1 fun w'' p1 p2 p3 p4=>?_;exact⟨v',O',rfl,p1,q2.close p2 p3 p4,hv'⟩
def nJ (P:Program) (B8:Env) (G:Nat) (run:RunT):Prop :=
 ∀ rd c fr Z res,run rd (.loop c) fr Z=some res->Adv Z res.Z/\∀ n,codeOk P n G c=true->∃ m,∀ lo tl O a w N rl,lo<=w.heap.size->Rel B8 O Z w->Cc O Z.n N->res.Z.n<=N->EZ O fr a->n<=a.tmps.size->Marks lo w tl a.defers->Bm O G->bZ O rd rl ->
  ∀ Q:Exit->Act->World->Prop,bf B8 lo tl O Z w a res Q->Code.roundsIn (FW rl) 0 P c Q m a w
def vP (hm:P.follows .mixedOrders=true)(Fu:∀ n c,B8.chk n c=codeOk P n G c) (hP:GL P H G P.funcs.toList 0=true) (hH:JV P B8 G H):∀ f,Nb P B8 G (exec P H f)/\nJ P B8 G (exec P H f):=by
 intro f;induction f with
 | zero=>
   constructor
   ·intro rd c fr Z res h;cases h
   ·intro rd c fr Z res h;cases h
 | succ f ih=>
   obtain⟨ihE,ihL⟩:=ih;have hC:=Ki (H:=H) ihE Fu hP hH;have AD3:nJ P B8 G (exec P H (f+1)):=by
    intro rd c fr Z res h;obtain⟨⟨o,fr1,Z1⟩,h1,h2⟩:=A8 (show ob (exec P H f rd c fr Z) (fun r=>Aj r (exec P H f rd (.loop c)))=some res from h);obtain⟨g1,g2⟩:=ihE rd c fr Z _ h1;cases o with
    | normal=>
      change exec P H f rd (.loop c) fr1 Z1=some res at h2;obtain⟨k1,k2⟩:=ihL rd c fr1 Z1 res h2;refine⟨g1.trans k1,fun n hc=>?_⟩;obtain⟨m,k2⟩:=k2 n hc;refine⟨m+1,fun lo tl O a w N rl hlo hR hF hN hr hn hd hG hrd Q hQ=>?_⟩;have hN1:Z1.n<=N:=AV k1.n hN;refine g2 n hc lo tl O a w N rl hlo hR hF hN1 hr hn hd hG hrd _ fun e a' w' O' q0 q1 q2 q3 q4 q5=>?_;cases(show e= .normal from q0);exact k2 lo tl O' a' w' N rl (AV hlo q2.size) q1 (q2.free hF) hN q3 (by rw[q4];exact hn) q5 (hG.mono (q2.le hF hN1)) (hrd.mono (q2.le hF hN1)) Q fun e a'' w'' O'' p0 p1 p2 p3 p4 p5=>hQ e a'' w'' O'' p0 p1 (q2.trans p2) p3 (by rw[p4,q4]) p5
    | exit i=>
      cases h2;refine⟨g1,fun n hc=>⟨1,fun lo tl O a w N rl hlo hR hF hN hr hn hd hG hrd Q hQ=>g2 n hc lo tl O a w N rl hlo hR hF hN hr hn hd hG hrd _ fun e a' w' O' q0 q1 q2 q3 q4 q5=>?_⟩⟩;cases(show e= .exit i from q0);exact hQ _ a' w' O' rfl q1 q2 q3 q4 q5
    | ret=>
      cases h2;refine⟨g1,fun n hc=>⟨1,fun lo tl O a w N rl hlo hR hF hN hr hn hd hG hrd Q hQ=>g2 n hc lo tl O a w N rl hlo hR hF hN hr hn hd hG hrd _ fun e a' w' O' q0 q1 q2 q3 q4 q5=>?_⟩⟩;cases(show e= .ret from q0);exact hQ _ a' w' O' rfl q1 q2 q3 q4 q5
    | pan v=>
      cases h2;refine⟨g1,fun n hc=>⟨1,fun lo tl O a w N rl hlo hR hF hN hr hn hd hG hrd Q hQ=>g2 n hc lo tl O a w N rl hlo hR hF hN hr hn hd hG hrd _ fun e a' w' O' q0 q1 q2 q3 q4 q5=>?_⟩⟩;obtain⟨v',rfl,hv⟩:=q0;exact hQ _ a' w' O' ⟨v',rfl,hv⟩ q1 q2 q3 q4 q5
   refine⟨?_,AD3⟩;intro rd c fr Z res h;cases c with
   |skip=>cases h;exact⟨.refl _,fun n hc lo tl O a w N rl hlo hR hF hN hr hn hd hG hrd Q hQ=>wpIn_skip (hQ .normal a w O rfl hR (.refl _ _ _) hr rfl hd)⟩
   |label l=>cases h;exact⟨.refl _,fun n hc lo tl O a w N rl hlo hR hF hN hr hn hd hG hrd Q hQ=>wpIn_label (hQ .normal a w O rfl hR (.refl _ _ _) hr rfl hd)⟩
   |exit id=>cases h;exact⟨.refl _,fun n hc lo tl O a w N rl hlo hR hF hN hr hn hd hG hrd Q hQ=>wpIn_exit (hQ (.exit id) a w O rfl hR (.refl _ _ _) hr rfl hd)⟩
   |ret=>cases h;exact⟨.refl _,fun n hc lo tl O a w N rl hlo hR hF hN hr hn hd hG hrd Q hQ=>wpIn_ret (hQ .ret a w O rfl hR (.refl _ _ _) hr rfl hd)⟩
   | region id os draw=>
     cases draw with
     | false=>
       have h:opsV P (DG P H (exec P H f)) os os.toList fr Z=some res:=h;have pl:=fun n=>jN (n:=n) hC os.toList fr Z _ h;refine⟨(pl 0).1,fun n hc lo tl O a w N rl hlo hR hF hN hr hn hd hG hrd Q hQ=>?_⟩;obtain⟨hc1,hc2⟩:=R4 (show bi (os.toList.all (Ak P n G)) _ false=true from hc);rw[GJ]at hc1;exact wpIn_region_list ((pl n).2 hc1 lo tl O a w N rl hR hF hN hr hn hd hG Q hQ)
     | true=>
       have h:bi (FX os.toList) (QU P (DG P H (exec P H f)) os.toList fr Z) (drawn os (M5 P (DG P H (exec P H f)) os os.toList 0 fr Z []))=some res:=h;cases hgs:FX os.toList with
       | true=>
         rw[hgs]at h;have pl:=fun n=>VO (P:=P) (B8:=B8) (G:=G) (n:=n) hm hC (id:=id) h;refine⟨(pl 0).1,fun n hc lo tl O a w N rl hlo hR hF hN hr hn hd hG hrd Q hQ=>?_⟩;obtain⟨hc1,hc2⟩:=R4 (show bi (os.toList.all (Ak P n G)) _ false=true from hc);rw[GJ]at hc1;exact(pl n).2 (fun o ho=>hc1 o ho) lo tl O a w N rl hR hF hN hr hn hd hG Q hQ
       | false=>
         rw[hgs]at h;have h:drawn os (M5 P (DG P H (exec P H f)) os os.toList 0 fr Z [])=some res:=h;obtain⟨⟨fr1,Z1,ds⟩,h1,h2⟩:=A8 h;obtain⟨h3,h4⟩:=G7 (show bb (BL (Region.before os).toList ds ds) _=some res from h2);cases h4;have pl:=fun n=>Xh (P:=P) (B8:=B8) (G:=G) (n:=n) hm hC (id:=id) h1 h3;refine⟨(pl 0).1,fun n hc lo tl O a w N rl hlo hR hF hN hr hn hd hG hrd Q hQ=>?_⟩;obtain⟨hc1,hc2⟩:=R4 (show bi (os.toList.all (Ak P n G)) (bi true (bi (FX os.toList) true (QV os)) true) false=true from hc);rw[hgs]at hc2;rw[GJ]at hc1;exact(pl n).2 (fun o ho=>hc1 o ho) hc2 lo tl O a w N rl hR hF hN hr hn hd hG Q hQ
   | seq x y=>
     obtain⟨⟨o,fr1,Z1⟩,h1,h2⟩:=A8 (show ob (exec P H f rd x fr Z) (fun r=>Aj r (exec P H f rd y))=some res from h);obtain⟨g1,g2⟩:=ihE rd x fr Z _ h1;cases o with
     | normal=>
       change exec P H f rd y fr1 Z1=some res at h2;obtain⟨k1,k2⟩:=ihE rd y fr1 Z1 res h2;refine⟨g1.trans k1,fun n hc lo tl O a w N rl hlo hR hF hN hr hn hd hG hrd Q hQ=>wpIn_seq ?_⟩;obtain⟨hc1,hc2⟩:=R4 (show bi (codeOk P n G x) (codeOk P n G y) false=true from hc);have hN1:Z1.n<=N:=AV k1.n hN;refine g2 n hc1 lo tl O a w N rl hlo hR hF hN1 hr hn hd hG hrd _ fun e a' w' O' q0 q1 q2 q3 q4 q5=>?_;cases(show e= .normal from q0);exact k2 n hc2 lo tl O' a' w' N rl (AV hlo q2.size) q1 (q2.free hF) hN q3 (by rw[q4];exact hn) q5 (hG.mono (q2.le hF hN1)) (hrd.mono (q2.le hF hN1)) Q fun e a'' w'' O'' p0 p1 p2 p3 p4 p5=>hQ e a'' w'' O'' p0 p1 (q2.trans p2) p3 (by rw[p4,q4]) p5
     | exit i=>
       cases h2;refine⟨g1,fun n hc lo tl O a w N rl hlo hR hF hN hr hn hd hG hrd Q hQ=>wpIn_seq ?_⟩;obtain⟨hc1,hc2⟩:=R4 (show bi (codeOk P n G x) (codeOk P n G y) false=true from hc);refine g2 n hc1 lo tl O a w N rl hlo hR hF hN hr hn hd hG hrd _ fun e a' w' O' q0 q1 q2 q3 q4 q5=>?_;cases(show e= .exit i from q0);exact hQ _ a' w' O' rfl q1 q2 q3 q4 q5
     | ret=>
       cases h2;refine⟨g1,fun n hc lo tl O a w N rl hlo hR hF hN hr hn hd hG hrd Q hQ=>wpIn_seq ?_⟩;obtain⟨hc1,hc2⟩:=R4 (show bi (codeOk P n G x) (codeOk P n G y) false=true from hc);refine g2 n hc1 lo tl O a w N rl hlo hR hF hN hr hn hd hG hrd _ fun e a' w' O' q0 q1 q2 q3 q4 q5=>?_;cases(show e= .ret from q0);exact hQ _ a' w' O' rfl q1 q2 q3 q4 q5
     | pan v=>
       cases h2;refine⟨g1,fun n hc lo tl O a w N rl hlo hR hF hN hr hn hd hG hrd Q hQ=>wpIn_seq ?_⟩;obtain⟨hc1,hc2⟩:=R4 (show bi (codeOk P n G x) (codeOk P n G y) false=true from hc);refine g2 n hc1 lo tl O a w N rl hlo hR hF hN hr hn hd hG hrd _ fun e a' w' O' q0 q1 q2 q3 q4 q5=>?_;obtain⟨v',rfl,hv⟩:=q0;exact hQ _ a' w' O' ⟨v',rfl,hv⟩ q1 q2 q3 q4 q5
   | cond x y z=>
     obtain⟨v,h1,h2⟩:=A8 (show ob (ev fr x) (fun v=>ob (bool? v) fun t=>bi t (exec P H f rd y fr Z) (exec P H f rd z fr Z))=some res from h);obtain⟨t,h3,h4⟩:=A8 h2;have hev:∀ O (a:Act),JW G x=true->EZ O fr a->Bm O G->a.eval x= .bool t:=by
      intro O a hc0 hr hG;have hv:=bg (a:=a) hG hc0 (fun u _ v hv=>hr u v hv) h1;unfold bool? at h3;split at h3
      ·cases h3;generalize a.eval x=y at hv;cases hv;rfl
      ·cases h3
     cases t with
     | true=>
       obtain⟨g1,g2⟩:=ihE rd y fr Z res h4;refine⟨g1,fun n hc lo tl O a w N rl hlo hR hF hN hr hn hd hG hrd Q hQ=>?_⟩;obtain⟨hc0,hc'⟩:=R4 (show bi (JW G x) (bi (codeOk P n G y) (codeOk P n G z) false) false=true from hc);obtain⟨hc1,hc2⟩:=R4 hc';exact wpIn_cond_true (hev O a hc0 hr hG) (g2 n hc1 lo tl O a w N rl hlo hR hF hN hr hn hd hG hrd Q hQ)
     | false=>
       obtain⟨g1,g2⟩:=ihE rd z fr Z res h4;refine⟨g1,fun n hc lo tl O a w N rl hlo hR hF hN hr hn hd hG hrd Q hQ=>?_⟩;obtain⟨hc0,hc'⟩:=R4 (show bi (JW G x) (bi (codeOk P n G y) (codeOk P n G z) false) false=true from hc);obtain⟨hc1,hc2⟩:=R4 hc';exact wpIn_cond_false (hev O a hc0 hr hG) (g2 n hc2 lo tl O a w N rl hlo hR hF hN hr hn hd hG hrd Q hQ)
   | block id x=>
     obtain⟨⟨o,fr1,Z1⟩,h1,h2⟩:=A8 (show ob (exec P H f rd x fr Z) (Hb id)=some res from h);obtain⟨g1,g2⟩:=ihE rd x fr Z _ h1
     have key:∀ o',res=⟨o',fr1,Z1⟩->(∀ (O:Place) (e:Exit),ExR O o e->∀ (Q:Exit->Act->World->Prop) (a':Act) (w':World),(∀ e',ExR O o' e'->Q e' a' w')->Exit.inBlock id Q e a' w')->Adv Z res.Z/\∀ n,codeOk P n G (.block id x)=true->∀ lo tl O a w N rl,lo<=w.heap.size->Rel B8 O Z w->Cc O Z.n N->res.Z.n<=N->EZ O fr a->n<=a.tmps.size->Marks lo w tl a.defers->Bm O G->bZ O rd rl ->
       ∀ Q:Exit->Act->World->Prop,bf B8 lo tl O Z w a res Q->(Code.block id x).wpIn (FW rl) 0 P Q a w:=by
      rintro o' rfl hk;refine⟨g1,fun n hc lo tl O a w N rl hlo hR hF hN hr hn hd hG hrd Q hQ=>wpIn_block ?_⟩;exact g2 n hc lo tl O a w N rl hlo hR hF hN hr hn hd hG hrd _ fun e a' w' O' q0 q1 q2 q3 q4 q5=>hk O' e q0 Q a' w' fun e' he=>hQ e' a' w' O' he q1 q2 q3 q4 q5
     cases o with
     | normal=>
       cases h2;refine key .normal rfl fun O e he Q a' w' k=>?_;cases(show e= .normal from he);exact k .normal rfl
     | ret=>
       cases h2;refine key .ret rfl fun O e he Q a' w' k=>?_;cases(show e= .ret from he);exact k .ret rfl
     | pan v=>
       cases h2;refine key (.pan v) rfl fun O e he Q a' w' k=>?_;obtain⟨v',rfl,hv⟩:=he;exact k _ ⟨v',rfl,hv⟩
     | exit i=>
       change bi (Nat.beq i id) (some ⟨.normal,fr1,Z1⟩) (some ⟨.exit i,fr1,Z1⟩)=some res at h2;cases hb:Nat.beq i id with
       | true=>
         rw[hb]at h2;cases h2;have:=Aa hb;subst this;refine key .normal rfl fun O e he Q a' w' k=>?_;cases(show e= .exit i from he);show(if i=i then Q .normal a' w' else Q (.exit i) a' w');rw[z1z rfl];exact k .normal rfl
       | false=>
         rw[hb]at h2;cases h2;refine key (.exit i) rfl fun O e he Q a' w' k=>?_;cases(show e= .exit i from he);show(if i=id then Q .normal a' w' else Q (.exit i) a' w');rw[z0z (fun he=>by subst he;simp at hb)];exact k (.exit i) rfl
   | loop x=>
     obtain⟨g1,g2⟩:=AD3 rd x fr Z res h;refine⟨g1,fun n hc lo tl O a w N rl hlo hR hF hN hr hn hd hG hrd Q hQ=>?_⟩;obtain⟨m,g2⟩:=g2 n hc;exact wpIn_loop_rounds m (g2 lo tl O a w N rl hlo hR hF hN hr hn hd hG hrd Q hQ)
   |rangeFunc fn ps assign body=>exact nK hC Fu h
   | scope x=>
     obtain⟨g1,g2⟩:=ihE rd x fr Z res (show exec P H f rd x fr Z=some res from h);refine⟨g1,fun n hc lo tl O a w N rl hlo hR hF hN hr hn hd hG hrd Q hQ=>XW ?_⟩;refine g2 n hc lo tl O a w N rl hlo hR hF hN hr hn hd hG hrd _ fun e a' w' O' q0 q1 q2 q3 q4 q5=>⟨fun l he=>?_,hQ e a' w' O' q0 q1 q2 q3 q4 q5⟩
     subst he;cases ho:res.o with
     |normal=>rw[ho]at q0;cases q0
     |exit i=>rw[ho]at q0;cases q0
     |ret=>rw[ho]at q0;cases q0
     |pan v=>rw[ho]at q0;obtain⟨v',h,_⟩:=q0;cases h
   |_=>cases h
def Xi (hm:P.follows .mixedOrders=true)(Fu:∀ n c,B8.chk n c=codeOk P n G c) (hP:GL P H G P.funcs.toList 0=true) (hH:JV P B8 G H) (f:Nat):As P B8 G (DG P H (exec P H f)) :=
 Ki (vP hm Fu hP hH f).1 Fu hP hH
end
end
end Go.Ab
