/- The abstract machine fI a bound on its steps: its R3 satisfy its own Ah7. -/
import Derived.Test.YtbcanmagihejhaaGreatDoorAbB
import Derived.RecoverIn
import Derived.Lib.Join
import Derived.Lib.UnsafeStr
import Derived.Laws.StructEq
set_option linter.unusedSimpArgs false
set_option linter.unusedVariables false
set_option linter.defProp false
set_option maxHeartbeats 32000000
set_option maxRecDepth 100000
namespace Go.Ab
open Go
section
variable {Z:St}{rd:Option Nat}{c:Code}{fr:Fr}{r:Res}
def P3.run (rd:Option Nat) (c:Code) (fr:Fr) (Z:St):P3 fun run=>run rd c fr Z:=⟨fun _ _ h r a=>h rd c fr Z r a,fun _ _ _ h r a=>h rd c fr Z r a⟩
def P3.ob {q s:Type}{i:RunT->Option q}{p:q->RunT->Option s}(h:P3 i) (k:∀ a,P3 (p a)):P3 fun run=>Ab.ob (i run) fun a=>p a run:=by
 constructor
 ·intro run d b r o;obtain⟨a,m,n⟩:=A8 o;show Ab.ob (i d) _=_;rw[h.mono _ _ b _ m];exact(k a).mono _ _ b _ n
 ·intro j l e b r o;obtain⟨a,m,n⟩:=A8 o;obtain⟨f,hf⟩:=h.fin j l e b _ m;obtain⟨g,hg⟩:=(k a).fin j l e b _ n;refine⟨max f g,?_⟩;show Ab.ob (i (j (max f g))) _=_;rw[h.mono _ _ (e f _ (Nat.le_max_left _ _)) _ hf];exact(k a).mono _ _ (e g _ (Nat.le_max_right _ _)) _ hg
def P3.bb {b:Type}(c:Bool){a:RunT->Option b}(h:P3 a):P3 fun run=>Ab.bb c (a run):=by
 cases c with
 |true=>exact h
 |false=>exact .const none
def P3.bi {d:Type}(c:Bool){a b:RunT->Option d}(h:P3 a) (k:P3 b):P3 fun run=>Ab.bi c (a run) (b run):=by
 cases c with
 |true=>exact h
 |false=>exact k
section
variable {P:Program}{H:EP}
def Ko (r:Res){next:RunT->Fr->St->Option Res}(h:∀ fr Z,P3 fun run=>next run fr Z):P3 fun run=>AI r (next run):=by
 obtain⟨o,fr,Z⟩:=r;cases o with
 |normal=>exact h fr Z
 |exit i=>exact .const _
 |ret=>exact .const _
 |pan v=>exact .const _
def bP (g:Nat) (vs:List Value) (Z:St):P3 fun run=>OJ P H run g vs Z:=by
 unfold OJ;cases H g with
 |some s=>exact s.cont _ _
 | none=>
   refine P3.ob (.const _) fun a=>?_;cases a.body with
   |none=>exact .const _
   |some body=>exact P3.ob (.run _ _ _ _) fun _=> .const _
def Qr (t:Tgt) (vs:List Value) (Z:St):P3 fun run=>Dc P H run t vs Z:=by
 cases t with
 |fn g=>exact bP g vs Z
def No (fr:Fr) (Z:St) (o:Oper):P3 fun run=>step P (Dc P H run) fr Z o:=by
 have key:∀ x:Op,P3 fun run=>pI x P (Dc P H run) fr Z o:=by
  intro x;cases x with
  | call c=>
    show P3 fun run=>YG P (Dc P H run) fr Z c;unfold YG;cases c.callee with
    | value f=>
      show P3 fun run=>Qt (HE (Dc P H run) fr Z c f);unfold Qt HE;refine P3.ob (P3.ob (.const _) fun vs=>P3.ob (.const _) fun v=>P3.ob (.const _) fun f=>?_) fun _=> .const _;obtain⟨g,first,a⟩:=f;exact Qr _ _ _
    |builtin b=>exact .const _
    |_=>exact .const _
  |_=>exact .const _
 exact key o.op
def jq (a:Array Oper):∀ (l:List Oper) (fr:Fr) (Z:St),P3 fun run=>opsV P (Dc P H run) a l fr Z:=by
 intro l;induction l with
 |nil=>intro fr Z;exact .const _
 | cons o l ih=>
   intro fr Z;refine P3.ob (.const _) fun c=>P3.bi c (P3.ob (No fr Z o) fun r=>?_) (ih _ _);obtain⟨v,b,d⟩:=r;cases d with
   |pan=>exact .const _
   |none=>exact ih _ _
   |read r=>exact ih _ _
   |eff=>exact ih _ _
def bQ (a:Array Oper) (bs:List Nat) (i:Nat):∀ (l:List Oper) (j:Nat) (fr:Fr) (Z:St),P3 fun run=>Kq P (Dc P H run) a bs i l j fr Z:=by
 intro l;induction l with
 |nil=>intro j fr Z;exact .const _
 | cons o l ih=>
   intro j fr Z;exact P3.bi _ (ih _ _ _) (P3.bb _ (P3.ob (.const _) fun c=>P3.bi c (P3.ob (No fr Z o) fun r=>ih _ _ _) (ih _ _ _)))
def Np (a:Array Oper):∀ (l:List Oper) (i:Nat) (fr:Fr) (Z:St) (ds:List Trace),P3 fun run=>K7 P (Dc P H run) a l i fr Z ds:=by
 intro l;induction l with
 |nil=>intro i fr Z ds;exact .const _
 | cons o l ih=>
   intro i fr Z ds;refine P3.ob (.const _) fun c=>P3.bi c (P3.ob (No fr Z o) fun r=>?_) (ih _ _ _ _);obtain⟨v,b,d⟩:=r;cases d with
   |pan=>exact P3.bb _ (P3.ob (bQ _ _ _ _ _ _ _) fun _=> .const _)
   |none=>exact ih _ _ _ _
   |read r=>exact ih _ _ _ _
   |eff=>exact ih _ _ _ _
def Lq (rd:Option Nat) (c:Code) (fr:Fr) (Z:St):P3 fun run=>AC7 P H run rd c fr Z:=by
 show P3 fun run=>pJ c P H run rd fr Z;cases c with
 | region id os draw=>
   refine P3.bi draw (P3.bi _ ?_ (P3.ob (Np _ _ _ _ _ _) fun r=> .const _)) (jq _ _ _ _);exact P3.ob (.const _) fun g=>P3.bb _ (P3.ob (Np _ _ _ _ _ _) fun d=>P3.ob (.const _) fun kv=>P3.ob (.const _) fun V=>P3.bb _ (P3.ob (Np _ _ _ _ _ _) fun r=> .const _))
 |seq a b=>exact P3.ob (.run _ _ _ _) fun r=>Ko r fun fr Z=> .run _ _ _ _
 |cond c a b=>exact P3.ob (.const _) fun v=>P3.ob (.const _) fun t=>P3.bi t (.run _ _ _ _) (.run _ _ _ _)
 |block id c=>exact P3.ob (.run _ _ _ _) fun r=> .const _
 |scope c=>exact .run _ _ _ _
 |loop c=>exact P3.ob (.run _ _ _ _) fun r=>Ko r fun fr Z=> .run _ _ _ _
 |_=>exact .const _
def vz:∀ f,Le (exec P H f) (exec P H (f+1)):=by
 intro f;induction f with
 |zero=>intro rd c fr Z r h;cases h
 |succ f a=>intro rd c fr Z r h;exact(Lq rd c fr Z).mono _ _ a r h
def KF (f g:Nat) (h:f<=g):Le (exec P H f) (exec P H g):=by
 induction h with
 |refl=>intro _ _ _ _ _ h;exact h
 |step _ a=>intro rd c fr Z r h;exact vz _ _ _ _ _ _ (a _ _ _ _ _ h)
open Classical in
noncomputable def lim (P:Program) (H:EP):RunT:=fun rd c fr Z=>if h:∃ f r,exec P H f rd c fr Z=some r then exec P H h.choose rd c fr Z else none
def pK {f:Nat}(h:exec P H f rd c fr Z=some r):lim P H rd c fr Z=some r:=by
 have a:∃ f r,exec P H f rd c fr Z=some r:=⟨f,r,h⟩
 obtain⟨g,b⟩:=a.choose_spec;unfold lim;rw[dif_pos a,b];have e:=KF _ _ (Nat.le_max_left f a.choose) _ _ _ _ _ h;have d:=KF _ _ (Nat.le_max_right f a.choose) _ _ _ _ _ b;rw[e]at d;exact d.symm
def Qu (h:lim P H rd c fr Z=some r):∃ f,exec P H f rd c fr Z=some r:=by
 unfold lim at h;split at h
 ·exact⟨_,h⟩
 ·cases h
def HT (rd:Option Nat) (c:Code) (fr:Fr) (Z:St):lim P H rd c fr Z=pJ c P H (lim P H) rd fr Z:=by
 apply Option.ext;intro r;constructor
 ·intro h;obtain⟨f,h⟩:=Qu h;cases f with
  |zero=>cases h
  |succ f=>exact(Lq rd c fr Z).mono (exec P H f) _ (fun _ _ _ _ _ h=>pK h) r h
 ·intro h;obtain⟨f,h⟩:=(Lq rd c fr Z).fin (exec P H) (lim P H) KF (fun _ _ _ _ _ h=>Qu h) r h;exact pK (f:=f+1) h
noncomputable def go (P:Program) (H:EP) (t:Tgt) (vs:List Value) (Z:St):Option CR:=Dc P H (lim P H) t vs Z
def wA {t:Tgt}{vs:List Value}{r:CR}(h:go P H t vs Z=some r):∃ f,Dc P H (exec P H f) t vs Z=some r :=
 (Qr t vs Z).fin (exec P H) (lim P H) KF (fun _ _ _ _ _ h=>Qu h) r h
end
end
section
variable {x a ix c b m y:Operand}{v u:Value}{k n f g:Nat}{as fs cs:Array Operand}{next:Fr->St->Option Res}{fn:Func}{t:Tmp}{vs:List Value}{lo hi mx:Option Operand}{ok:Bool}
@[congr] theorem Ai2 {e j:Type}{x y:Option e}{f:e->Option j} (h:x=y):ob x f=ob y f:=by rw[h]
@[congr] theorem Ai3 {e:Type}{c d:Bool}{x:Option e} (h:c=d):bb c x=bb d x:=by rw[h]
@[congr] theorem Ai4 {e:Type}{c d:Bool}{x y:e} (h:c=d):bi c x y=bi d x y:=by rw[h]
@[congr] theorem Ai5 {e j o:Type}{p q:e×j}{f:e->j->o} (h:p=q):pr p f=pr q f:=by rw[h]
section
variable {P:Program}{H:EP}{call:W8}{all:Array Oper}{l:List Oper}{fr:Fr}{Z:St}{d:Option Tmp}{ty:TypeId}{ps:String}{af:Array Edge}{i:Nat}{ds:List Trace}
noncomputable def P8 (P:Program) (call:W8) (all:Array Oper) (l:List Oper) (fr:Fr) (r:Stepped) (d:Option Tmp):Option Res :=
 Stepped.rec (motive:=fun _=>Option Res) (fun v Z e=>OZ e (opsV P call all l (I5 fr d v) Z) (some ⟨.pan v,fr,Z⟩)) r
noncomputable def AX (P:Program) (call:W8) (all:Array Oper) (op:Op) (l:List Oper) (i:Nat) (fr:Fr) (Z:St) (ds:List Trace) (r:Stepped) (d:Option Tmp):Option FST :=
 Stepped.rec (motive:=fun _=>Option FST) (fun v Z' e=>OZ e (K7 P call all l (i+1) (I5 fr d v) Z' (Jn i Z Z' e ds)) (YV P call all op l i fr Z v Z' ds)) r
def wT {op:Op}{g:Nat×Bool}:opsV P call all (⟨d,op,ty,ps,af,some g⟩::l) fr Z=ob (U9 all fr ⟨d,op,ty,ps,af,some g⟩) fun c=>bi c (opsV P call all (⟨d,op,ty,ps,af,none⟩::l) fr Z) (opsV P call all l (I5 fr d R7) Z):=by
 show ob _ _=_;cases e:U9 all fr ⟨d,op,ty,ps,af,some g⟩with
 |none=>rfl
 |some c=>cases op<;>(cases c<;>rfl)
def YW:opsV P call all (⟨d,.move x,ty,ps,af,none⟩::l) fr Z=ob (ev fr x) fun v=>opsV P call all l (I5 fr d v) Z:=by
 show ob (J9 Z (ev fr x)) (fun r=>P8 P call all l fr r d)=_;cases ev fr x<;>rfl
def YX:K7 P call all (⟨d,.move x,ty,ps,af,none⟩::l) i fr Z ds=ob (ev fr x) fun v=>K7 P call all l (i+1) (I5 fr d v) Z ds:=by
 show ob (J9 Z (ev fr x)) (fun r=>AX P call all _ l i fr Z ds r d)=_;cases ev fr x<;>rfl
def RO:opsV P call all (⟨d,.assign x,ty,ps,af,none⟩::l) fr Z=ob (ev fr x) fun v=>opsV P call all l (I5 fr d v) Z:=by
 show ob (J9 Z (ev fr x)) (fun r=>P8 P call all l fr r d)=_;cases ev fr x<;>rfl
def RP:K7 P call all (⟨d,.assign x,ty,ps,af,none⟩::l) i fr Z ds=ob (ev fr x) fun v=>K7 P call all l (i+1) (I5 fr d v) Z ds:=by
 show ob (J9 Z (ev fr x)) (fun r=>AX P call all _ l i fr Z ds r d)=_;cases ev fr x<;>rfl
def YY:opsV P call all (⟨d,.pick c a b,ty,ps,af,none⟩::l) fr Z=ob (Jh fr c a b) fun v=>opsV P call all l (I5 fr d v) Z:=by
 show ob (J9 Z (Jh fr c a b)) (fun r=>P8 P call all l fr r d)=_;cases Jh fr c a b<;>rfl
def YZ:K7 P call all (⟨d,.pick c a b,ty,ps,af,none⟩::l) i fr Z ds=ob (Jh fr c a b) fun v=>K7 P call all l (i+1) (I5 fr d v) Z ds:=by
 show ob (J9 Z (Jh fr c a b)) (fun r=>AX P call all _ l i fr Z ds r d)=_;cases Jh fr c a b<;>rfl
def UF {t:TypeId}:opsV P call all (⟨d,.alloc t,ty,ps,af,none⟩::l) fr Z=ob (AR P t) fun r=>pr r fun cs v=>opsV P call all l (I5 fr d (v Z.n)) (Z.new cs (some t)):=by
 show ob (asNew Z (AR P t) (some t)) (fun r=>P8 P call all l fr r d)=_;cases AR P t with
 |none=>rfl
 |some r=>cases r;rfl
def UG {t:TypeId}:K7 P call all (⟨d,.alloc t,ty,ps,af,none⟩::l) i fr Z ds=ob (AR P t) fun r=>pr r fun cs v=>K7 P call all l (i+1) (I5 fr d (v Z.n)) (Z.new cs (some t)) ds:=by
 show ob (asNew Z (AR P t) (some t)) (fun r=>AX P call all _ l i fr Z ds r d)=_;cases AR P t with
 |none=>rfl
 |some r=>cases r;rfl
def fk {t:TypeId}:opsV P call all (⟨d,.box t x,ty,ps,af,none⟩::l) fr Z=ob (aU fr x) fun r=>pr r fun cs v=>opsV P call all l (I5 fr d (v Z.n)) (Z.new cs):=by
 show ob (asNew Z (aU fr x)) (fun r=>P8 P call all l fr r d)=_;cases aU fr x with
 |none=>rfl
 |some r=>cases r;rfl
def UH {t:TypeId}{parts:Array (Nat×Operand)}:opsV P call all (⟨d,.build t parts,ty,ps,af,none⟩::l) fr Z=ob (Ep P fr t parts) fun v=>opsV P call all l (I5 fr d v) Z:=by
 show ob (J9 Z (Ep P fr t parts)) (fun r=>P8 P call all l fr r d)=_;cases Ep P fr t parts<;>rfl
def UI {t:TypeId}{parts:Array (Nat×Operand)}:K7 P call all (⟨d,.build t parts,ty,ps,af,none⟩::l) i fr Z ds=ob (Ep P fr t parts) fun v=>K7 P call all l (i+1) (I5 fr d v) Z ds:=by
 show ob (J9 Z (Ep P fr t parts)) (fun r=>AX P call all _ l i fr Z ds r d)=_;cases Ep P fr t parts<;>rfl
def Jo {t:TypeId}{parts:Array (Nat×Operand)}:opsV P call all (⟨d,.buildSlice t n parts,ty,ps,af,none⟩::l) fr Z=ob (GW P fr t n parts) fun r=>pr r fun cs v=>opsV P call all l (I5 fr d (v Z.n)) (Z.new cs):=by
 show ob (asNew Z (GW P fr t n parts)) (fun r=>P8 P call all l fr r d)=_;cases GW P fr t n parts with
 |none=>rfl
 |some r=>cases r;rfl
def Jp {t:TypeId}{parts:Array (Nat×Operand)}:K7 P call all (⟨d,.buildSlice t n parts,ty,ps,af,none⟩::l) i fr Z ds=ob (GW P fr t n parts) fun r=>pr r fun cs v=>K7 P call all l (i+1) (I5 fr d (v Z.n)) (Z.new cs) ds:=by
 show ob (asNew Z (GW P fr t n parts)) (fun r=>AX P call all _ l i fr Z ds r d)=_;cases GW P fr t n parts with
 |none=>rfl
 |some r=>cases r;rfl
def RR {t:TypeId}{k:Operand}:opsV P call all (⟨d,.insert t m k x,ty,ps,af,none⟩::l) fr Z=ob (Y0 P fr Z t m k x) fun r=>pr r fun v Z'=>opsV P call all l (I5 fr d v) Z':=by
 show ob (GC (Y0 P fr Z t m k x)) (fun r=>P8 P call all l fr r d)=_;cases Y0 P fr Z t m k x with
 |none=>rfl
 |some r=>cases r;rfl
def Ya {t:TypeId}:opsV P call all (⟨d,.load t a,ty,ps,af,none⟩::l) fr Z=ob (Hs P fr Z t a) fun r=>pr r fun v b=>opsV P call all l (I5 fr d v) Z:=by
 show ob (Dr Z (Hs P fr Z t a)) (fun r=>P8 P call all l fr r d)=_;cases Hs P fr Z t a with
 |none=>rfl
 |some r=>cases r;rfl
def Yb {t:TypeId}:K7 P call all (⟨d,.load t a,ty,ps,af,none⟩::l) i fr Z ds=ob (Hs P fr Z t a) fun r=>pr r fun v b=>K7 P call all l (i+1) (I5 fr d v) Z (.read i b::ds):=by
 show ob (Dr Z (Hs P fr Z t a)) (fun r=>AX P call all _ l i fr Z ds r d)=_;cases Hs P fr Z t a with
 |none=>rfl
 |some r=>cases r;rfl
def UJ {t:TypeId}{v:Operand}:opsV P call all (⟨d,.store t a v,ty,ps,af,none⟩::l) fr Z=ob (Gi P fr Z t a v) fun r=>pr r fun v Z'=>opsV P call all l (I5 fr d v) Z':=by
 show ob (GC (Gi P fr Z t a v)) (fun r=>P8 P call all l fr r d)=_;cases Gi P fr Z t a v with
 |none=>rfl
 |some r=>cases r;rfl
def UK {t:TypeId}{v:Operand}:K7 P call all (⟨d,.store t a v,ty,ps,af,none⟩::l) i fr Z ds=ob (Gi P fr Z t a v) fun r=>pr r fun v Z'=>K7 P call all l (i+1) (I5 fr d v) Z' (.eff i Z Z'::ds):=by
 show ob (GC (Gi P fr Z t a v)) (fun r=>AX P call all _ l i fr Z ds r d)=_;cases Gi P fr Z t a v with
 |none=>rfl
 |some r=>cases r;rfl
def Ms:opsV P call all (⟨d,.nilCheck x,ty,ps,af,none⟩::l) fr Z=ob (Bu fr x) fun v=>opsV P call all l (I5 fr d v) Z:=by
 show ob (J9 Z (Bu fr x)) (fun r=>P8 P call all l fr r d)=_;cases Bu fr x<;>rfl
def Mt:K7 P call all (⟨d,.nilCheck x,ty,ps,af,none⟩::l) i fr Z ds=ob (Bu fr x) fun v=>K7 P call all l (i+1) (I5 fr d v) Z ds:=by
 show ob (J9 Z (Bu fr x)) (fun r=>AX P call all _ l i fr Z ds r d)=_;cases Bu fr x<;>rfl
def fl {b:BinOp}{t u:TypeId}:opsV P call all (⟨d,.binOp b t x y u,ty,ps,af,none⟩::l) fr Z=ob (QY P fr ⟨d,.binOp b t x y u,ty,ps,af,none⟩ b t x y) fun v=>opsV P call all l (I5 fr d v) Z:=by
 show ob (J9 Z (QY P fr ⟨d,.binOp b t x y u,ty,ps,af,none⟩ b t x y)) (fun r=>P8 P call all l fr r d)=_;cases QY P fr ⟨d,.binOp b t x y u,ty,ps,af,none⟩ b t x y<;>rfl
def fm {b:BinOp}{t u:TypeId}:K7 P call all (⟨d,.binOp b t x y u,ty,ps,af,none⟩::l) i fr Z ds=ob (QY P fr ⟨d,.binOp b t x y u,ty,ps,af,none⟩ b t x y) fun v=>K7 P call all l (i+1) (I5 fr d v) Z ds:=by
 show ob (J9 Z (QY P fr ⟨d,.binOp b t x y u,ty,ps,af,none⟩ b t x y)) (fun r=>AX P call all _ l i fr Z ds r d)=_;cases QY P fr ⟨d,.binOp b t x y u,ty,ps,af,none⟩ b t x y<;>rfl
def qB {b:UnOp}{t:TypeId}:opsV P call all (⟨d,.unOp b t x,ty,ps,af,none⟩::l) fr Z=ob (DP P fr ⟨d,.unOp b t x,ty,ps,af,none⟩ x) fun v=>opsV P call all l (I5 fr d v) Z:=by
 show ob (J9 Z (DP P fr ⟨d,.unOp b t x,ty,ps,af,none⟩ x)) (fun r=>P8 P call all l fr r d)=_;cases DP P fr ⟨d,.unOp b t x,ty,ps,af,none⟩ x<;>rfl
def qC {b:UnOp}{t:TypeId}:K7 P call all (⟨d,.unOp b t x,ty,ps,af,none⟩::l) i fr Z ds=ob (DP P fr ⟨d,.unOp b t x,ty,ps,af,none⟩ x) fun v=>K7 P call all l (i+1) (I5 fr d v) Z ds:=by
 show ob (J9 Z (DP P fr ⟨d,.unOp b t x,ty,ps,af,none⟩ x)) (fun r=>AX P call all _ l i fr Z ds r d)=_;cases DP P fr ⟨d,.unOp b t x,ty,ps,af,none⟩ x<;>rfl
def UL {t:TypeId}:opsV P call all (⟨d,.makeInterface t x,ty,ps,af,none⟩::l) fr Z=ob (Lj P fr t x) fun v=>opsV P call all l (I5 fr d v) Z:=by
 show ob (J9 Z (Lj P fr t x)) (fun r=>P8 P call all l fr r d)=_;cases Lj P fr t x<;>rfl
def Yc {fn:Fn}:opsV P call all (⟨d,.makeFunc fn fs cs,ty,ps,af,none⟩::l) fr Z=ob (Jj fr fn fs cs) fun v=>opsV P call all l (I5 fr d v) Z:=by
 show ob (J9 Z (Jj fr fn fs cs)) (fun r=>P8 P call all l fr r d)=_;cases Jj fr fn fs cs<;>rfl
def Yd {fn:Fn}:K7 P call all (⟨d,.makeFunc fn fs cs,ty,ps,af,none⟩::l) i fr Z ds=ob (Jj fr fn fs cs) fun v=>K7 P call all l (i+1) (I5 fr d v) Z ds:=by
 show ob (J9 Z (Jj fr fn fs cs)) (fun r=>AX P call all _ l i fr Z ds r d)=_;cases Jj fr fn fs cs<;>rfl
def Oa {t:TypeId}{r:Option Operand}:opsV P call all (⟨d,.makeMap t r,ty,ps,af,none⟩::l) fr Z=ob (Fc fr Z r) fun r=>pr r fun v Z'=>opsV P call all l (I5 fr d v) Z':=by
 show ob (GC (Fc fr Z r)) (fun r=>P8 P call all l fr r d)=_;cases Fc fr Z r with
 |none=>rfl
 |some r=>cases r;rfl
def Kt {t:TypeId}{n:Operand}:opsV P call all (⟨d,.makeSlice t n c,ty,ps,af,none⟩::l) fr Z=ob (Pv P fr t n c) fun r=>pr r fun cs v=>opsV P call all l (I5 fr d (v Z.n)) (Z.new cs):=by
 show ob (asNew Z (Pv P fr t n c)) (fun r=>P8 P call all l fr r d)=_;cases Pv P fr t n c with
 |none=>rfl
 |some r=>cases r;rfl
def UM {t:TypeId}:opsV P call all (⟨d,.slice t x lo hi mx,ty,ps,af,none⟩::l) fr Z=ob (Ge P fr t x lo hi mx) fun v=>opsV P call all l (I5 fr d v) Z:=by
 show ob (J9 Z (Ge P fr t x lo hi mx)) (fun r=>P8 P call all l fr r d)=_;cases Ge P fr t x lo hi mx<;>rfl
def UN {t:TypeId}:K7 P call all (⟨d,.slice t x lo hi mx,ty,ps,af,none⟩::l) i fr Z ds=ob (Ge P fr t x lo hi mx) fun v=>K7 P call all l (i+1) (I5 fr d v) Z ds:=by
 show ob (J9 Z (Ge P fr t x lo hi mx)) (fun r=>AX P call all _ l i fr Z ds r d)=_;cases Ge P fr t x lo hi mx<;>rfl
def Ku {s:TypeId}:opsV P call all (⟨d,.fieldAddr s x f,ty,ps,af,none⟩::l) fr Z=ob (AW P fr s x f) fun v=>opsV P call all l (I5 fr d v) Z:=by
 show ob (J9 Z (AW P fr s x f)) (fun r=>P8 P call all l fr r d)=_;cases AW P fr s x f<;>rfl
def Kv {s:TypeId}:K7 P call all (⟨d,.fieldAddr s x f,ty,ps,af,none⟩::l) i fr Z ds=ob (AW P fr s x f) fun v=>K7 P call all l (i+1) (I5 fr d v) Z ds:=by
 show ob (J9 Z (AW P fr s x f)) (fun r=>AX P call all _ l i fr Z ds r d)=_;cases AW P fr s x f<;>rfl
def UO {s:TypeId}:opsV P call all (⟨d,.field s x f,ty,ps,af,none⟩::l) fr Z=ob (Fv P fr s x f) fun v=>opsV P call all l (I5 fr d v) Z:=by
 show ob (J9 Z (Fv P fr s x f)) (fun r=>P8 P call all l fr r d)=_;cases Fv P fr s x f<;>rfl
def UQ {s:TypeId}:K7 P call all (⟨d,.field s x f,ty,ps,af,none⟩::l) i fr Z ds=ob (Fv P fr s x f) fun v=>K7 P call all l (i+1) (I5 fr d v) Z ds:=by
 show ob (J9 Z (Fv P fr s x f)) (fun r=>AX P call all _ l i fr Z ds r d)=_;cases Fv P fr s x f<;>rfl
def Kw {t:TypeId}:opsV P call all (⟨d,.indexAddr t x ix,ty,ps,af,none⟩::l) fr Z=ob (Az P fr t x ix) fun v=>opsV P call all l (I5 fr d v) Z:=by
 show ob (J9 Z (Az P fr t x ix)) (fun r=>P8 P call all l fr r d)=_;cases Az P fr t x ix<;>rfl
def Kx {t:TypeId}:K7 P call all (⟨d,.indexAddr t x ix,ty,ps,af,none⟩::l) i fr Z ds=ob (Az P fr t x ix) fun v=>K7 P call all l (i+1) (I5 fr d v) Z ds:=by
 show ob (J9 Z (Az P fr t x ix)) (fun r=>AX P call all _ l i fr Z ds r d)=_;cases Az P fr t x ix<;>rfl
def UR {t:TypeId}:opsV P call all (⟨d,.index t x ix,ty,ps,af,none⟩::l) fr Z=ob (Ll P fr t x ix) fun v=>opsV P call all l (I5 fr d v) Z:=by
 show ob (J9 Z (Ll P fr t x ix)) (fun r=>P8 P call all l fr r d)=_;cases Ll P fr t x ix<;>rfl
def RS {t:TypeId}:opsV P call all (⟨d,.lookup t x ix ok,ty,ps,af,none⟩::l) fr Z=ob (DI P fr Z t x ix ok) fun r=>pr r fun v Z'=>opsV P call all l (I5 fr d v) Z':=by
 show ob (GC (DI P fr Z t x ix ok)) (fun r=>P8 P call all l fr r d)=_;cases DI P fr Z t x ix ok with
 |none=>rfl
 |some r=>cases r;rfl
def RT {t:TypeId}:K7 P call all (⟨d,.lookup t x ix ok,ty,ps,af,none⟩::l) i fr Z ds=ob (DI P fr Z t x ix ok) fun r=>pr r fun v Z'=>K7 P call all l (i+1) (I5 fr d v) Z' (.eff i Z Z'::ds):=by
 show ob (GC (DI P fr Z t x ix ok)) (fun r=>AX P call all _ l i fr Z ds r d)=_;cases DI P fr Z t x ix ok with
 |none=>rfl
 |some r=>cases r;rfl
def Ky {t:TypeId}{k:Operand}:opsV P call all (⟨d,.mapUpdate t m k x,ty,ps,af,none⟩::l) fr Z=ob (Y0 P fr Z t m k x) fun r=>pr r fun v Z'=>opsV P call all l (I5 fr d v) Z':=by
 show ob (GC (Y0 P fr Z t m k x)) (fun r=>P8 P call all l fr r d)=_;cases Y0 P fr Z t m k x with
 |none=>rfl
 |some r=>cases r;rfl
def Ob {t:Operand}{ix:Nat}:opsV P call all (⟨d,.extract t ix,ty,ps,af,none⟩::l) fr Z=ob (Cq fr t ix) fun v=>opsV P call all l (I5 fr d v) Z:=by
 show ob (J9 Z (Cq fr t ix)) (fun r=>P8 P call all l fr r d)=_;cases Cq fr t ix<;>rfl
def Oc {t:Operand}{ix:Nat}:K7 P call all (⟨d,.extract t ix,ty,ps,af,none⟩::l) i fr Z ds=ob (Cq fr t ix) fun v=>K7 P call all l (i+1) (I5 fr d v) Z ds:=by
 show ob (J9 Z (Cq fr t ix)) (fun r=>AX P call all _ l i fr Z ds r d)=_;cases Cq fr t ix<;>rfl
def fo {ts:Array TypeId}:opsV P call all (⟨d,.call ⟨.builtin .len,as,ts⟩,ty,ps,af,none⟩::l) fr Z=ob (QW P fr ⟨.builtin .len,as,ts⟩) fun v=>opsV P call all l (I5 fr d v) Z:=by
 show ob (J9 Z (QW P fr ⟨.builtin .len,as,ts⟩)) (fun r=>P8 P call all l fr r d)=_;cases QW P fr ⟨.builtin .len,as,ts⟩<;>rfl
def ft {ts:Array TypeId}:K7 P call all (⟨d,.call ⟨.builtin .len,as,ts⟩,ty,ps,af,none⟩::l) i fr Z ds=ob (QW P fr ⟨.builtin .len,as,ts⟩) fun v=>K7 P call all l (i+1) (I5 fr d v) Z ds:=by
 show ob (J9 Z (QW P fr ⟨.builtin .len,as,ts⟩)) (fun r=>AX P call all _ l i fr Z ds r d)=_;cases QW P fr ⟨.builtin .len,as,ts⟩<;>rfl
def gA {ts:Array TypeId}:opsV P call all (⟨d,.call ⟨.builtin .max,as,ts⟩,ty,ps,af,none⟩::l) fr Z=ob (pMM fr true ⟨.builtin .max,as,ts⟩) fun v=>opsV P call all l (I5 fr d v) Z:=by
 show ob (J9 Z (pMM fr true ⟨.builtin .max,as,ts⟩)) (fun r=>P8 P call all l fr r d)=_;cases pMM fr true ⟨.builtin .max,as,ts⟩<;>rfl
def gB {ts:Array TypeId}:opsV P call all (⟨d,.call ⟨.builtin .min,as,ts⟩,ty,ps,af,none⟩::l) fr Z=ob (pMM fr false ⟨.builtin .min,as,ts⟩) fun v=>opsV P call all l (I5 fr d v) Z:=by
 show ob (J9 Z (pMM fr false ⟨.builtin .min,as,ts⟩)) (fun r=>P8 P call all l fr r d)=_;cases pMM fr false ⟨.builtin .min,as,ts⟩<;>rfl
def RU {ts:Array TypeId}:opsV P call all (⟨d,.call ⟨.builtin .append,as,ts⟩,ty,ps,af,none⟩::l) fr Z=ob (EO P fr Z ⟨.builtin .append,as,ts⟩) fun r=>pr r fun v Z'=>opsV P call all l (I5 fr d v) Z':=by
 show ob (GC (EO P fr Z ⟨.builtin .append,as,ts⟩)) (fun r=>P8 P call all l fr r d)=_;cases EO P fr Z ⟨.builtin .append,as,ts⟩with
 |none=>rfl
 |some r=>cases r;rfl
def RV {ts:Array TypeId}:K7 P call all (⟨d,.call ⟨.builtin .append,as,ts⟩,ty,ps,af,none⟩::l) i fr Z ds=ob (EO P fr Z ⟨.builtin .append,as,ts⟩) fun r=>pr r fun v Z'=>K7 P call all l (i+1) (I5 fr d v) Z' (.eff i Z Z'::ds):=by
 show ob (GC (EO P fr Z ⟨.builtin .append,as,ts⟩)) (fun r=>AX P call all _ l i fr Z ds r d)=_;cases EO P fr Z ⟨.builtin .append,as,ts⟩with
 |none=>rfl
 |some r=>cases r;rfl
def Ye {s u:TypeId}:opsV P call all (⟨d,.convert s u x,ty,ps,af,none⟩::l) fr Z=ob (orS (asNew Z (GX P fr s u x)) (orS (Dr Z (DH P fr Z s u x)) (J9 Z (DP P fr ⟨d,.convert s u x,ty,ps,af,none⟩ x)))) fun r=>P8 P call all l fr r d:=rfl
def qD {f:Operand}{ts:Array TypeId}:opsV P call all (⟨d,.call ⟨.value f,as,ts⟩,ty,ps,af,none⟩::l) fr Z=ob (HE call fr Z ⟨.value f,as,ts⟩ f) fun r=>bi r.pan (some ⟨.pan r.v,fr,r.Z⟩) (opsV P call all l (I5 fr d r.v) r.Z):=by
 show ob (Qt (HE call fr Z ⟨.value f,as,ts⟩ f)) (fun r=>P8 P call all l fr r d)=_;cases HE call fr Z ⟨.value f,as,ts⟩ f with
 |none=>rfl
 |some r=>obtain⟨p,v,e⟩:=r;cases p<;>rfl
def kF:opsV P call all (⟨d,.panic x,ty,ps,af,none⟩::l) fr Z=ob (RD fr Z x) fun r=>P8 P call all l fr r d:=rfl
def Yf {s u:TypeId}:K7 P call all (⟨d,.convert s u x,ty,ps,af,none⟩::l) i fr Z ds=ob (orS (asNew Z (GX P fr s u x)) (orS (Dr Z (DH P fr Z s u x)) (J9 Z (DP P fr ⟨d,.convert s u x,ty,ps,af,none⟩ x)))) fun r=>AX P call all (.convert s u x) l i fr Z ds r d:=rfl
def qE {f:Operand}{ts:Array TypeId}:K7 P call all (⟨d,.call ⟨.value f,as,ts⟩,ty,ps,af,none⟩::l) i fr Z ds=ob (HE call fr Z ⟨.value f,as,ts⟩ f) fun r=>bi r.pan (YV P call all (.call ⟨.value f,as,ts⟩) l i fr Z r.v r.Z ds) (K7 P call all l (i+1) (I5 fr d r.v) r.Z (.eff i Z r.Z::ds)):=by
 show ob (Qt (HE call fr Z ⟨.value f,as,ts⟩ f)) (fun r=>AX P call all _ l i fr Z ds r d)=_;cases HE call fr Z ⟨.value f,as,ts⟩ f with
 |none=>rfl
 |some r=>obtain⟨p,v,e⟩:=r;cases p<;>rfl
def wU:opsV P call all [] fr Z=some ⟨.normal,fr,Z⟩:=rfl
def wV:K7 P call all [] i fr Z ds=some ⟨fr,Z,ds,none⟩:=rfl
def Yg:I5 fr (some t) v=fr.set t v:=rfl
def Yh:I5 fr none v=fr:=rfl
end
section
variable {P:Program}{H:EP}{rd:Option Nat}{fr:Fr}{Z:St}
def wW:lim P H rd .skip fr Z=some ⟨.normal,fr,Z⟩:=HT ..
def wX:lim P H rd (.exit k) fr Z=some ⟨.exit k,fr,Z⟩:=HT ..
def AL6:lim P H rd .ret fr Z=some ⟨.ret,fr,Z⟩:=HT ..
def AL7 {a b:Code}:lim P H rd (.seq a b) fr Z=ob (lim P H rd a fr Z) fun r=>AI r (lim P H rd b):=HT ..
def fj {a:Code}:lim P H rd (.loop a) fr Z=ob (lim P H rd a fr Z) fun r=>AI r (lim P H rd (.loop a)):=HT ..
def qG {a:Code}:lim P H rd (.block k a) fr Z=ob (lim P H rd a fr Z) (Fs k):=HT ..
def wY {a b:Code}:lim P H rd (.cond c a b) fr Z=ob (ev fr c) fun v=>ob (bool? v) fun t=>bi t (lim P H rd a fr Z) (lim P H rd b fr Z):=HT ..
def wM {os:Array Oper}(h:Dd os.toList=false):lim P H rd (.region k os true) fr Z=drawn os (K7 P (go P H) os os.toList 0 fr Z []):=by
 refine(HT ..).trans ?_;show bi (Dd os.toList) _ _=_;rw[h];rfl
def jz:AI ⟨.normal,fr,Z⟩ next=next fr Z:=rfl
def Vg:AI ⟨.exit k,fr,Z⟩ next=some ⟨.exit k,fr,Z⟩:=rfl
def bq:AI ⟨.ret,fr,Z⟩ next=some ⟨.ret,fr,Z⟩:=rfl
def br:AI ⟨.pan v,fr,Z⟩ next=some ⟨.pan v,fr,Z⟩:=rfl
def kG:Fs k ⟨.normal,fr,Z⟩=some ⟨.normal,fr,Z⟩:=rfl
def wZ {m:Nat}:Fs k ⟨.exit m,fr,Z⟩=if m=k then some ⟨.normal,fr,Z⟩else some ⟨.exit m,fr,Z⟩:=by
 show bi (Nat.beq m k) _ _=_;by_cases h:m=k
 ·subst h;rw[z1z rfl];simp
 ·rw[z0z h];cases e:Nat.beq m k with
  |true=>exact absurd (Ac e) h
  |false=>rfl
def AL8:Fs k ⟨.ret,fr,Z⟩=some ⟨.ret,fr,Z⟩:=rfl
def AL9:Fs k ⟨.pan v,fr,Z⟩=some ⟨.pan v,fr,Z⟩:=rfl
def N4 {t:Fr}{m:Nat}:(t.set n v).get m=if m=n then some v else t.get m:=Tr.N4 v t n m
def RW:Fq [] k fr=fr:=rfl
def Nr:Fq (v::vs) k fr=Fq vs (k+1) (fr.set k v):=rfl
def kH:(Tr.nil:Fr).get n=none:=rfl
def Ai6 {body:Code}(e:H g=none) (j:P.funcs[g]? =some fn) (h:fn.body=some body):
  go P H (.fn g) vs Z=ob (lim P H none body (Fq vs 0 .nil) Z) fun r=>ER P fn r:=by
 show OJ P H (lim P H) g vs Z=_;unfold OJ;rw[e];show ob (P.funcs[g]?) _=_;rw[j,F8];simp only[h];rfl
def cE:ER P fn ⟨.normal,fr,Z⟩=ob (IX P fr Z fn.results.toList) fun vs=>some ⟨false,tup vs,Z⟩:=rfl
def we:ER P fn ⟨.ret,fr,Z⟩=ob (IX P fr Z fn.results.toList) fun vs=>some ⟨false,tup vs,Z⟩:=rfl
def wh:ER P fn ⟨.pan v,fr,Z⟩=some ⟨true,v,Z⟩:=rfl
def wi:IX P fr Z []=some []:=rfl
def wj {l:List ResultVar}:IX P fr Z (.tmp t::l)=ob (fr.get t) fun v=>ob (IX P fr Z l) fun vs=>some (v::vs):=rfl
def qH {a:Tmp}{t:TypeId}{l:List ResultVar}:IX P fr Z (.cell a t::l)=ob (ob (fr.get a) fun p=>Od P Z t p) fun v=>ob (IX P fr Z l) fun vs=>some (v::vs):=rfl
def AM0:ev fr (.tmp t)=fr.get t:=rfl
def wk {f:FuncId}:ev fr (.func f)=some (.func (.func f) #[] #[]):=rfl
def AM1 {k:IntKind}{n:Int}:ev fr (.const (.int k n))=some (.int k n):=rfl
def wm {b:Bool}:ev fr (.const (.bool b))=some (.bool b):=rfl
def Yi:ev fr (.const .nilIface)=some .nilIface:=rfl
def Yj:ev fr (.const (.slice none 0 0))=some (.slice none 0 0):=rfl
def wv:evs fr []=some []:=rfl
def qI {o:Operand}{l:List Operand}:evs fr (o::l)=ob (ev fr o) fun v=>ob (evs fr l) fun vs=>some (v::vs):=rfl
def wz:tup [v]=v:=rfl
def xA:tup []= .tuple ⟨[]⟩:=rfl
def xB:tup (v::u::vs)= .tuple ⟨v::u::vs⟩:=rfl
def AM2 {b:Bool}:bool? (.bool b)=some b:=rfl
def Ai7:KX [v]=some v:=rfl
def Ai8:qJ [v,u]=some (v,u):=rfl
def BB2 {b o:Nat}:at? (.pointer (some ⟨b,o,none⟩))=some (b,o):=rfl
def Ai9 {k:IntKind}:nat? (.int k (n:Int))=some n:=rfl
def AM3 {k:IntKind}:nat? (.int k 0)=some 0:=rfl
def Aj0 {c:Array Value}:jZ (.agg c)=some c.toList:=rfl
def xC {c:Array Value}:bI (.tuple c)=some c.toList:=rfl
def AM4 {a b:Array Value}:RB (.func (.func g) a b)=some ⟨.fn g,a.toList,b.toList⟩:=rfl
def Yk {call:W8}{c:Call}{f:Operand}:HE call fr Z c f=ob (evs fr c.args.toList) fun vs=>ob (ev fr f) fun v=>ob (RB v) fun f=>call f.g (f.first++vs++f.captured) Z:=rfl
end
/- Uq. -/
def py (a b:Nat):Nat.blt a b=decide (a<b):=by
 rw[z7z,EJ,z3z]
def Aj1 (a b:Nat):Nat.beq a b=decide (a=b):=by
 rw[z7z,z3z];exact⟨Ac,fun h=>by subst h;simp⟩
def JG (a b:Int):ilt a b=decide (a<b):=by
 rw[z7z,z3z];cases a with
 | ofNat a=>cases b with
   |ofNat b=>simp only[ilt,py,z3z];exact Int.ofNat_lt.symm
   | negSucc b=>simp only[ilt];constructor
                ·intro h;cases h
                ·intro h;have:=AD0 b;have:=eL a;simp only[JN]at h;omega
 | negSucc a=>cases b with
   |ofNat b=>simp only[ilt,true_iff];have:=AD0 a;have:=eL b;simp only[JN];omega
   |negSucc b=>simp only[ilt,py,z3z];rw[bz,bz];omega
def ow (a b:Int):ieq a b=decide (a=b):=by
 rw[z7z,z3z];cases a with
 | ofNat a=>cases b with
   |ofNat b=>simp only[ieq,Aj1,z3z];exact Int.ofNat_inj.symm
   | negSucc b=>simp only[ieq];constructor
                ·intro h;cases h
                ·intro h;cases h
 | negSucc a=>cases b with
   | ofNat b=>simp only[ieq];constructor
              ·intro h;cases h
              ·intro h;cases h
   |negSucc b=>simp only[ieq,Aj1,z3z];rw[bz,bz];omega
def wN:∀ (a b:List UInt8),Lp a b=decide (a=b):=by
 intro a;induction a with
 |nil=>intro b;cases b<;>simp[Lp]
 | cons x xs ih=>
   intro b;cases b with
   |nil=>simp[Lp]
   | cons y ys=>
     show bi (Nat.beq x.toNat y.toNat) (Lp xs ys) false=_;by_cases h:x=y
     ·subst h;simp[ih]
     ·have:Nat.beq x.toNat y.toNat=false:=by
       cases e:Nat.beq x.toNat y.toNat with
       |true=>exact absurd (UInt8.toNat_inj.1 (Ac e)) h
       |false=>rfl
      rw[this];simp[h]
end
section
variable {b k:Nat}
def Own (Z:St) (b:Nat) (cs:List Value):Prop:=∃ ver t,Z.h.get b=some ⟨cs,true,true,ver,.row t⟩
structure Ext (Z Z':St):Prop where
 n:Z.n<=Z'.n
 same:∀ b,b<Z.n->Z'.h.get b=Z.h.get b
noncomputable def St.upd (Z:St) (b:Nat) (cs:List Value):St:=⟨Z.h.set b ⟨cs,true,true,Z.ver b+1,.row (Z.typ b)⟩,Z.n⟩
noncomputable def St.dead (Z:St) (b:Nat):St:=⟨Z.h.set b ⟨[],false,true,Z.ver b+1,.row none⟩,Z.n⟩
variable {t:Option TypeId}
@[simp] theorem K9 (Z:St) (cs:List Value):(Z.new cs t).n=Z.n+1:=rfl
@[simp] theorem Te (Z:St) (b:Nat) (cs:List Value):(Z.upd b cs).n=Z.n:=rfl
@[simp] theorem Nw (Z:St) (b:Nat):(Z.dead b).n=Z.n:=rfl
theorem N8 (Z:St) (cs:List Value) (b:Nat):(Z.new cs t).h.get b=if b=Z.n then some ⟨cs,true,true,0,.row t⟩else Z.h.get b:=Tr.N4 _ _ _ _
def M4 (Z:St) (c:Nat) (cs:List Value) (b:Nat):(Z.upd c cs).h.get b=if b=c then some ⟨cs,true,true,Z.ver c+1,.row (Z.typ c)⟩else Z.h.get b:=Tr.N4 _ _ _ _
def FX (Z:St) (c:Nat) (b:Nat):(Z.dead c).h.get b=if b=c then some ⟨[],false,true,Z.ver c+1,.row none⟩else Z.h.get b:=Tr.N4 _ _ _ _
def Ext.refl (Z:St):Ext Z Z:=⟨AP _,fun _ _=>rfl⟩
def Ext.trans {Z Z' a:St}(h:Ext Z Z') (k:Ext Z' a):Ext Z a:=⟨W5 h.n k.n,fun b c=>by rw[k.same b (z5z c h.n),h.same b c]⟩
def Ext.new (Z:St) (cs:List Value):Ext Z (Z.new cs t):=⟨YJ _,fun b a=>by rw[N8,z0z om]⟩
def Ext.upd {Z Z':St}(h:Ext Z Z')(d:Z.n<=b) (cs:List Value):Ext Z (Z'.upd b cs):=⟨h.n,fun c a=>by rw[M4,z0z om,h.same c a]⟩
def Ext.dead {Z Z':St}(h:Ext Z Z')(d:Z.n<=b):Ext Z (Z'.dead b):=⟨h.n,fun c a=>by rw[FX,z0z om,h.same c a]⟩
def Ext.Aw {Z Z':St}(h:Ext Z Z') (cs:List Value):Ext Z (Z'.new cs t):=h.trans (.new _ _)
def Own.new (Z:St) (cs:List Value):Own (Z.new cs t) Z.n cs:=⟨0,t,by rw[N8,z1z rfl]⟩
def Own.upd (Z:St) (b:Nat) (cs:List Value):Own (Z.upd b cs) b cs:=⟨_,_,by rw[M4,z1z rfl]⟩
/- Reads and writes, through new blocks and writes. -/
def dE {Z Z':St}(h:Z'.h.get b=Z.h.get b) (off n:Nat):Z'.read b off n=Z.read b off n:=by
 show ob (ob (ob (Z'.h.get b) _) _) _=ob (ob (ob (Z.h.get b) _) _) _;rw[h]
def YR (Z:St) (cs:List Value)(off n:Nat) (h:b≠Z.n):(Z.new cs t).read b off n=Z.read b off n:=dE (by rw[N8,z0z h]) _ _
/- rP. -/
def yP {a:Type}(l:List a):sub l 0 l.length=some l:=by rw[AE om];simp
def yQ {a:Type}(l:List a) (n:Nat) (h:n=l.length):sub l 0 n=some l:=by subst h;exact yP l
def ct {a:Type}(l:List a):takeN 0 l=some []:=rfl
def cu {a:Type}(n:Nat) (x:a) (l:List a):takeN (n+1) (x::l)=ob (takeN n l) fun r=>some (x::r):=rfl
def Cn {d:Type}:∀ (D0:List (List d)),(∀ r∈D0,r.length=k)->D0.flatten.length=D0.length*k:=by
 intro D0;induction D0 with
 |nil=>intro _;simp
 |cons r D0 c=>intro h;simp[c (fun r a=>h r (by simp[a])),h r (by simp),Oy];omega
def WA {c:Type}:∀ (D0:List (List c)) (i:Nat),(∀ r∈D0,r.length=k)->D0.flatten.drop (i*k)=(D0.drop i).flatten:=by
 intro D0;induction D0 with
 |nil=>intro i _;simp
 | cons r D0 ih=>
   intro i h;cases i with
   |zero=>simp
   | succ i=>
     have a:=h r (by simp);rw[Qp,mc];rw[rh (by rw[a,Oy];omega),KP,a,show(i+1)*k-k=i*k from by rw[Oy];omega,ih i (fun r a=>h r (by simp[a]))];rfl
def QO {e:Type}{D0:List (List e)}(h:∀ r∈D0,r.length=k){i:Nat}{r:List e}(hi:D0[i]? =some r){o n:Nat}(g:o+n<=k):sub D0.flatten (i*k+o) n=sub r o n:=by
 obtain⟨a,c⟩:=List.getElem?_eq_some_iff.1 hi;have j:r.length=k:=h r (by rw[<- c];exact List.getElem_mem a);have d:(D0.length-i)*k<=D0.length*k-i*k:=by rw[Nat.sub_mul];exact AP _
 have f:i*k+k<=D0.length*k:=by
  have:(i+1)*k<=D0.length*k:=SZ k a;rw[Oy]at this;exact this
 rw[AE (by rw[Cn D0 h];omega),AE om];rw[<- Ph,WA D0 i h,Mk a,c,Qp,mc,List.take_append];rw[show n-(r.drop o).length=0 from by rw[HW];omega];simp
end
section
variable {n m:Nat}{a:Option Addr}{c b:Bool}{l:List Oper}
universe q
structure Hd {α:Sort q}(a:α):Type where
def Ev {d:Type}(x:Option d) (Q:d->Prop) (_u:Hd Q):Prop:=∃ a,x=some a/\Q a
def T3 (c:Bool) (A:Prop) (_u:Hd A):Prop:=c=true/\A
def Br (c:Bool) (A B:Prop) (_u:Hd fun x:Bool=>cond x A B):Prop:=(c=true->A)/\(c=false->B)
def Ev.mono {d:Type}{x:Option d}{Q R:d->Prop}{u:Hd Q}{v:Hd R}(h:Ev x R v) (k:∀ a,R a->Q a):Ev x Q u:=let ⟨a,h1,h2⟩:=h;⟨a,h1,k a h2⟩
def Ev.intro {d:Type}{x:Option d}{a:d}{Q:d->Prop}{u:Hd Q}(h:x=some a) (k:Q a):Ev x Q u:=⟨a,h,k⟩
def M0 {d:Type}{a:d}{Q:d->Prop}{u:Hd Q}:Ev (some a) Q u=Q a:=propext ⟨fun⟨b,e,f⟩=>by cases e;exact f,fun h=>⟨a,rfl,h⟩⟩
def G9 {h i:Type}{x:Option h}{f:h->Option i}{Q:i->Prop}{u:Hd Q}:Ev (ob x f) Q u=Ev x (fun a=>Ev (f a) Q ⟨⟩) ⟨⟩:=propext ⟨fun⟨b,d,e⟩=>by
 obtain⟨a,g,j⟩:=A8 d;exact⟨a,g,b,j,e⟩,fun⟨a,d,b,e,g⟩=>⟨b,by rw[d];exact e,g⟩⟩
def fi {g:Type}{x:Option g}{Q:g->Prop}{u:Hd Q}:Ev (bb c x) Q u=T3 c (Ev x Q ⟨⟩) ⟨⟩:=propext ⟨fun⟨b,d,e⟩=>by
 obtain⟨f,h⟩:=J4 d;exact⟨f,b,h,e⟩,fun⟨d,b,e,f⟩=>⟨b,by rw[d];exact e,f⟩⟩
def RN {d:Type}{x y:Option d}{Q:d->Prop}{u:Hd Q}:Ev (bi c x y) Q u=Br c (Ev x Q ⟨⟩) (Ev y Q ⟨⟩) ⟨⟩:=by
 cases c with
 |true=>exact propext ⟨fun h=>⟨fun _=>h,fun h=>by cases h⟩,fun h=>h.1 rfl⟩
 |false=>exact propext ⟨fun h=>⟨fun h=>(by cases h),fun _=>h⟩,fun h=>h.2 rfl⟩
def AL5 {d:Type}{c:Prop} [Decidable c] {x y:Option d}{Q:d->Prop}{u:Hd Q}:Ev (if c then x else y) Q u=Br (decide c) (Ev x Q ⟨⟩) (Ev y Q ⟨⟩) ⟨⟩:=by
 by_cases h:c
 ·rw[z1z h];exact propext ⟨fun k=>⟨fun _=>k,fun g=>by simp[h]at g⟩,fun k=>k.1 (by simp[h])⟩
 ·rw[z0z h];exact propext ⟨fun k=>⟨fun g=>by simp[h]at g,fun _=>k⟩,fun k=>k.2 (by simp[h])⟩
def UE {A:Prop}{u:Hd A}:T3 true A u=A:=propext ⟨fun h=>h.2,fun h=>⟨rfl,h⟩⟩
def fh {A B:Prop}{u:Hd fun x:Bool=>cond x A B}:Br true A B u=A:=propext ⟨fun h=>h.1 rfl,fun h=>⟨fun _=>h,fun h=>by cases h⟩⟩
def YT {A B:Prop}{u:Hd fun x:Bool=>cond x A B}:Br false A B u=B:=propext ⟨fun h=>h.2 rfl,fun h=>⟨fun h=>(by cases h),fun _=>h⟩⟩
def Br.intro {A B:Prop}{u:Hd fun x:Bool=>cond x A B}(h:c=true->A) (k:c=false->B):Br c A B u:=⟨h,k⟩
def T3.intro {A:Prop}{u:Hd A}(h:c=true) (k:A):T3 c A u:=⟨h,k⟩
section
variable {P:Program}{H:EP}{rd:Option Nat}{fr:Fr}{Z:St}
def LP (I:Nat->Fr->St->Prop) (R:Res->Prop) (n:Nat) (r:Res):Prop:=match r.o with
 | .normal=>∃ m,m<n/\I m r.fr r.Z
 |_=>R r
def R8 {I:Nat->Fr->St->Prop}{R:Res->Prop}:LP I R n ⟨.normal,fr,Z⟩=∃ m,m<n/\I m fr Z:=rfl
def BS {I:Nat->Fr->St->Prop}{R:Res->Prop}{k:Nat}:LP I R n ⟨.exit k,fr,Z⟩=R ⟨.exit k,fr,Z⟩:=rfl
def VF {I:Nat->Fr->St->Prop}{R:Res->Prop}:LP I R n ⟨.ret,fr,Z⟩=R ⟨.ret,fr,Z⟩:=rfl
def BE {body:Code}{Q:Res->Prop}{u:Hd Q}(I:Nat->Fr->St->Prop) (R:Res->Prop) (n:Nat) (g:I n fr Z) (f:∀ n fr Z,I n fr Z->Ev (lim P H rd body fr Z) (LP I R n) ⟨⟩) (j:∀ r,R r->Q r):
  Ev (lim P H rd (.loop body) fr Z) Q u:=by
 have key:∀ n,∀ m,m<=n->∀ fr Z,I m fr Z->Ev (lim P H rd (.loop body) fr Z) R ⟨⟩:=by
  intro n;induction n with
  | zero=>
    intro m q fr Z h;rw[fj,G9];refine(f m fr Z h).mono ?_;rintro⟨o,e,Z'⟩ d;cases o with
    |normal=>obtain⟨k,p,_⟩:=d;omega
    |exit i=>rw[Vg,M0];exact d
    |ret=>rw[bq,M0];exact d
    |pan v=>rw[br,M0];exact d
  | succ n ih=>
    intro m q fr Z h;rw[fj,G9];refine(f m fr Z h).mono ?_;rintro⟨o,e,Z'⟩ d;cases o with
    |normal=>obtain⟨k,p,hi⟩:=d;rw[jz];exact ih k om e Z' hi
    |exit i=>rw[Vg,M0];exact d
    |ret=>rw[bq,M0];exact d
    |pan v=>rw[br,M0];exact d
 exact(key n n nL fr Z g).mono j
def bw {k:Nat}:lim P H rd (.region k l.toArray false) fr Z=opsV P (go P H) l.toArray l fr Z:=HT ..
structure Vh (l:List Oper):Prop where
 no:Dd l=false
def px {k:Nat}(h:Vh l):lim P H rd (.region k l.toArray true) fr Z=drawn l.toArray (K7 P (go P H) l.toArray l 0 fr Z []):=wM h.no
def toArray_toList {d:Type}{l:List d}:l.toArray.toList=l:=rfl
/- Operations on values. -/
section
variable {x y:Operand}{o:Oper}{t u:TypeId}{k:IntKind}
def iJ {c:Callee}:QW P fr ⟨c,#[x],#[t]⟩=ob (ev fr x) fun v=>ob (oT (P.underlying t) v) fun n=>some (.int .i64 n):=by
 show ob (ob (ev fr x) fun v=>ob (some []) fun vs=>some (v::vs)) _=_;cases ev fr x<;>rfl
def kA {e:TypeId}{c:Nat}:oT (some (.slice e)) (.slice a n c)=some n:=rfl
def To (a b:ByteArray):Lp a.data.toList b.data.toList=decide (a=b):=by
 rw[wN];by_cases h:a=b
 ·subst h;simp
 ·rw[z4z h,z4z];intro e;apply h;obtain⟨⟨a⟩⟩:=a;obtain⟨⟨b⟩⟩:=b;exact congrArg (fun l=>(⟨⟨l⟩⟩:ByteArray)) e
def wO {n:Int}(d: -9223372036854775808<=n) (e:n<=9223372036854775807):Hn .i64 n=n:=by
 unfold Hn;have:inR .i64 n=true:=by
  cases n with
  |ofNat m=>simp only[inR,py,z3z];simp only[JN]at e;omega
  |negSucc m=>simp only[inR,py,z3z];rw[bz]at d;omega
 rw[this];rfl
def JY (n:Nat):((n:Int)+1)=((n+1:Nat):Int):=rfl
def IY (a b:Nat):decide ((a:Int)<(b:Int))=decide (a<b):=sI
def kB {l:List Value}:M6 (.agg ⟨l⟩)=l:=rfl
def kC {n:Int}:M6 (.int k n)=[.int k n]:=rfl
def cA:M6 (.bool b)=[.bool b]:=rfl
def YU {c:Nat}:M6 (.slice a n c)=[.slice a n c]:=rfl
def kD:M6 (.pointer a)=[.pointer a]:=rfl
def cB {f:Fn}{a b:Array Value}:M6 (.func f a b)=[.func f a b]:=rfl
def wP {l:Array Value}:El (.agg l)=false:=rfl
def wQ {n:Int}:El (.int k n)=false:=rfl
def pz:El (.bool b)=false:=rfl
def kE {c:Nat}:El (.slice a n c)=false:=rfl
def wR:El (.pointer a)=false:=rfl
def qA {f:Fn}{a b:Array Value}:El (.func f a b)=false:=rfl
def Mr (h:n=m):n.beq m=true:=by subst h;simp
def cC (h:n<m):Nat.blt n m=true:=by rw[py];simpa using h
def Fi (h:n<=m):Nat.ble n m=true:=Py h
end
end
def cD {d:Type}{l new:List d}(h:new.length=l.length):M5 l 0 new=some new:=by
 have key:∀ (new l:List d),new.length=l.length->over new l=some new:=by
  intro new;induction new with
  | nil=>intro l h;cases l with
    |nil=>rfl
    |cons=>simp at h
  | cons x xs ih=>
    intro l h;cases l with
    |nil=>simp at h
    | cons y ys=>
      show ob (over xs ys) _=_;rw[ih ys (by simpa using h)];rfl
 exact key new l h
end
section
variable {x a ix c b m y t:Operand}{k f n:Nat}{as fs cs:Array Operand}{next:Fr->St->Option Res}{g:Nat×Bool}{v:Value}{fn:Func}{lo hi mx:Option Operand}{ok:Bool}
section
variable {P:Program}{H:EP}{call:W8}{all:Array Oper}{l:List Oper}{fr:Fr}{Z:St}{d:Option Tmp}{ty:TypeId}{ps:String}{af:Array Edge}{i:Nat}{ds:List Trace}{rd:Option Nat}
def yd {op:Op}:K7 P call all (⟨d,op,ty,ps,af,some g⟩::l) i fr Z ds=ob (U9 all fr ⟨d,op,ty,ps,af,some g⟩) fun c=>bi c (K7 P call all (⟨d,op,ty,ps,af,none⟩::l) i fr Z ds) (K7 P call all l (i+1) (I5 fr d R7) Z ds):=by
 show ob _ _=_;cases e:U9 all fr ⟨d,op,ty,ps,af,some g⟩with
 |none=>rfl
 |some c=>cases op<;>(cases c<;>rfl)
def Al0 {e h j:Type}{a:e}{b:h}{f:e->h->Option j}{Q:j->Prop}{uq:Hd Q}:Ev (pr (a,b) f) Q uq=Ev (f a b) Q ⟨⟩:=rfl
def qx {Q:Res->Prop}{uq:Hd Q}:Ev (opsV P call all (⟨d,.move x,ty,ps,af,none⟩::l) fr Z) Q uq=Ev (ev fr x) (fun v=>Ev (opsV P call all l (I5 fr d v) Z) Q ⟨⟩) ⟨⟩:=by first|(rw[YW,G9];done)|(rw[YW,G9];rfl)
def cd {Q:Res->Prop}{uq:Hd Q}:Ev (opsV P call all (⟨d,.assign x,ty,ps,af,none⟩::l) fr Z) Q uq=Ev (ev fr x) (fun v=>Ev (opsV P call all l (I5 fr d v) Z) Q ⟨⟩) ⟨⟩:=by first|(rw[RO,G9];done)|(rw[RO,G9];rfl)
def qy {Q:Res->Prop}{uq:Hd Q}:Ev (opsV P call all (⟨d,.pick c a b,ty,ps,af,none⟩::l) fr Z) Q uq=Ev (Jh fr c a b) (fun v=>Ev (opsV P call all l (I5 fr d v) Z) Q ⟨⟩) ⟨⟩:=by first|(rw[YY,G9];done)|(rw[YY,G9];rfl)
def kj {t:TypeId}{Q:Res->Prop}{uq:Hd Q}:Ev (opsV P call all (⟨d,.alloc t,ty,ps,af,none⟩::l) fr Z) Q uq=Ev (AR P t) (fun r=>Ev (opsV P call all l (I5 fr d (r.2 Z.n)) (Z.new r.1 (some t))) Q ⟨⟩) ⟨⟩:=by first|(rw[UF,G9];done)|(rw[UF,G9];rfl)
def xb {t:TypeId}{Q:Res->Prop}{uq:Hd Q}:Ev (opsV P call all (⟨d,.box t x,ty,ps,af,none⟩::l) fr Z) Q uq=Ev (aU fr x) (fun r=>Ev (opsV P call all l (I5 fr d (r.2 Z.n)) (Z.new r.1)) Q ⟨⟩) ⟨⟩:=by first|(rw[fk,G9];done)|(rw[fk,G9];rfl)
def km {t:TypeId}{parts:Array (Nat×Operand)}{Q:Res->Prop}{uq:Hd Q}:Ev (opsV P call all (⟨d,.build t parts,ty,ps,af,none⟩::l) fr Z) Q uq=Ev (Ep P fr t parts) (fun v=>Ev (opsV P call all l (I5 fr d v) Z) Q ⟨⟩) ⟨⟩:=by first|(rw[UH,G9];done)|(rw[UH,G9];rfl)
def Rk {t:TypeId}{parts:Array (Nat×Operand)}{Q:Res->Prop}{uq:Hd Q}:Ev (opsV P call all (⟨d,.buildSlice t n parts,ty,ps,af,none⟩::l) fr Z) Q uq=Ev (GW P fr t n parts) (fun r=>Ev (opsV P call all l (I5 fr d (r.2 Z.n)) (Z.new r.1)) Q ⟨⟩) ⟨⟩:=by first|(rw[Jo,G9];done)|(rw[Jo,G9];rfl)
def cf {t:TypeId}{k:Operand}{Q:Res->Prop}{uq:Hd Q}:Ev (opsV P call all (⟨d,.insert t m k x,ty,ps,af,none⟩::l) fr Z) Q uq=Ev (Y0 P fr Z t m k x) (fun r=>Ev (opsV P call all l (I5 fr d r.1) r.2) Q ⟨⟩) ⟨⟩:=by first|(rw[RR,G9];done)|(rw[RR,G9];rfl)
def qz {t:TypeId}{Q:Res->Prop}{uq:Hd Q}:Ev (opsV P call all (⟨d,.load t a,ty,ps,af,none⟩::l) fr Z) Q uq=Ev (Hs P fr Z t a) (fun r=>Ev (opsV P call all l (I5 fr d r.1) Z) Q ⟨⟩) ⟨⟩:=by first|(rw[Ya,G9];done)|(rw[Ya,G9];rfl)
def kq {t:TypeId}{v:Operand}{Q:Res->Prop}{uq:Hd Q}:Ev (opsV P call all (⟨d,.store t a v,ty,ps,af,none⟩::l) fr Z) Q uq=Ev (Gi P fr Z t a v) (fun r=>Ev (opsV P call all l (I5 fr d r.1) r.2) Q ⟨⟩) ⟨⟩:=by first|(rw[UJ,G9];done)|(rw[UJ,G9];rfl)
def Vq {Q:Res->Prop}{uq:Hd Q}:Ev (opsV P call all (⟨d,.nilCheck x,ty,ps,af,none⟩::l) fr Z) Q uq=Ev (Bu fr x) (fun v=>Ev (opsV P call all l (I5 fr d v) Z) Q ⟨⟩) ⟨⟩:=by first|(rw[Ms,G9];done)|(rw[Ms,G9];rfl)
def xc {b:BinOp}{t u:TypeId}{Q:Res->Prop}{uq:Hd Q}:Ev (opsV P call all (⟨d,.binOp b t x y u,ty,ps,af,none⟩::l) fr Z) Q uq=Ev (QY P fr ⟨d,.binOp b t x y u,ty,ps,af,none⟩ b t x y) (fun v=>Ev (opsV P call all l (I5 fr d v) Z) Q ⟨⟩) ⟨⟩:=by first|(rw[fl,G9];done)|(rw[fl,G9];rfl)
def AP3 {b:UnOp}{t:TypeId}{Q:Res->Prop}{uq:Hd Q}:Ev (opsV P call all (⟨d,.unOp b t x,ty,ps,af,none⟩::l) fr Z) Q uq=Ev (DP P fr ⟨d,.unOp b t x,ty,ps,af,none⟩ x) (fun v=>Ev (opsV P call all l (I5 fr d v) Z) Q ⟨⟩) ⟨⟩:=by first|(rw[qB,G9];done)|(rw[qB,G9];rfl)
def kr {t:TypeId}{Q:Res->Prop}{uq:Hd Q}:Ev (opsV P call all (⟨d,.makeInterface t x,ty,ps,af,none⟩::l) fr Z) Q uq=Ev (Lj P fr t x) (fun v=>Ev (opsV P call all l (I5 fr d v) Z) Q ⟨⟩) ⟨⟩:=by first|(rw[UL,G9];done)|(rw[UL,G9];rfl)
def rA {fn:Fn}{Q:Res->Prop}{uq:Hd Q}:Ev (opsV P call all (⟨d,.makeFunc fn fs cs,ty,ps,af,none⟩::l) fr Z) Q uq=Ev (Jj fr fn fs cs) (fun v=>Ev (opsV P call all l (I5 fr d v) Z) Q ⟨⟩) ⟨⟩:=by first|(rw[Yc,G9];done)|(rw[Yc,G9];rfl)
def Yx {t:TypeId}{r:Option Operand}{Q:Res->Prop}{uq:Hd Q}:Ev (opsV P call all (⟨d,.makeMap t r,ty,ps,af,none⟩::l) fr Z) Q uq=Ev (Fc fr Z r) (fun r=>Ev (opsV P call all l (I5 fr d r.1) r.2) Q ⟨⟩) ⟨⟩:=by first|(rw[Oa,G9];done)|(rw[Oa,G9];rfl)
def Su {t:TypeId}{n:Operand}{Q:Res->Prop}{uq:Hd Q}:Ev (opsV P call all (⟨d,.makeSlice t n c,ty,ps,af,none⟩::l) fr Z) Q uq=Ev (Pv P fr t n c) (fun r=>Ev (opsV P call all l (I5 fr d (r.2 Z.n)) (Z.new r.1)) Q ⟨⟩) ⟨⟩:=by first|(rw[Kt,G9];done)|(rw[Kt,G9];rfl)
def ku {t:TypeId}{Q:Res->Prop}{uq:Hd Q}:Ev (opsV P call all (⟨d,.slice t x lo hi mx,ty,ps,af,none⟩::l) fr Z) Q uq=Ev (Ge P fr t x lo hi mx) (fun v=>Ev (opsV P call all l (I5 fr d v) Z) Q ⟨⟩) ⟨⟩:=by first|(rw[UM,G9];done)|(rw[UM,G9];rfl)
def Sv {s:TypeId}{Q:Res->Prop}{uq:Hd Q}:Ev (opsV P call all (⟨d,.fieldAddr s x f,ty,ps,af,none⟩::l) fr Z) Q uq=Ev (AW P fr s x f) (fun v=>Ev (opsV P call all l (I5 fr d v) Z) Q ⟨⟩) ⟨⟩:=by first|(rw[Ku,G9];done)|(rw[Ku,G9];rfl)
def kx {s:TypeId}{Q:Res->Prop}{uq:Hd Q}:Ev (opsV P call all (⟨d,.field s x f,ty,ps,af,none⟩::l) fr Z) Q uq=Ev (Fv P fr s x f) (fun v=>Ev (opsV P call all l (I5 fr d v) Z) Q ⟨⟩) ⟨⟩:=by first|(rw[UO,G9];done)|(rw[UO,G9];rfl)
def Sw {t:TypeId}{Q:Res->Prop}{uq:Hd Q}:Ev (opsV P call all (⟨d,.indexAddr t x ix,ty,ps,af,none⟩::l) fr Z) Q uq=Ev (Az P fr t x ix) (fun v=>Ev (opsV P call all l (I5 fr d v) Z) Q ⟨⟩) ⟨⟩:=by first|(rw[Kw,G9];done)|(rw[Kw,G9];rfl)
def ky {t:TypeId}{Q:Res->Prop}{uq:Hd Q}:Ev (opsV P call all (⟨d,.index t x ix,ty,ps,af,none⟩::l) fr Z) Q uq=Ev (Ll P fr t x ix) (fun v=>Ev (opsV P call all l (I5 fr d v) Z) Q ⟨⟩) ⟨⟩:=by first|(rw[UR,G9];done)|(rw[UR,G9];rfl)
def cj {t:TypeId}{Q:Res->Prop}{uq:Hd Q}:Ev (opsV P call all (⟨d,.lookup t x ix ok,ty,ps,af,none⟩::l) fr Z) Q uq=Ev (DI P fr Z t x ix ok) (fun r=>Ev (opsV P call all l (I5 fr d r.1) r.2) Q ⟨⟩) ⟨⟩:=by first|(rw[RS,G9];done)|(rw[RS,G9];rfl)
def Sx {t:TypeId}{k:Operand}{Q:Res->Prop}{uq:Hd Q}:Ev (opsV P call all (⟨d,.mapUpdate t m k x,ty,ps,af,none⟩::l) fr Z) Q uq=Ev (Y0 P fr Z t m k x) (fun r=>Ev (opsV P call all l (I5 fr d r.1) r.2) Q ⟨⟩) ⟨⟩:=by first|(rw[Ky,G9];done)|(rw[Ky,G9];rfl)
def Yy {ix:Nat}{Q:Res->Prop}{uq:Hd Q}:Ev (opsV P call all (⟨d,.extract t ix,ty,ps,af,none⟩::l) fr Z) Q uq=Ev (Cq fr t ix) (fun v=>Ev (opsV P call all l (I5 fr d v) Z) Q ⟨⟩) ⟨⟩:=by first|(rw[Ob,G9];done)|(rw[Ob,G9];rfl)
def xd {ts:Array TypeId}{Q:Res->Prop}{uq:Hd Q}:Ev (opsV P call all (⟨d,.call ⟨.builtin .len,as,ts⟩,ty,ps,af,none⟩::l) fr Z) Q uq=Ev (QW P fr ⟨.builtin .len,as,ts⟩) (fun v=>Ev (opsV P call all l (I5 fr d v) Z) Q ⟨⟩) ⟨⟩:=by first|(rw[fo,G9];done)|(rw[fo,G9];rfl)
def xe {ts:Array TypeId}{Q:Res->Prop}{uq:Hd Q}:Ev (opsV P call all (⟨d,.call ⟨.builtin .max,as,ts⟩,ty,ps,af,none⟩::l) fr Z) Q uq=Ev (pMM fr true ⟨.builtin .max,as,ts⟩) (fun v=>Ev (opsV P call all l (I5 fr d v) Z) Q ⟨⟩) ⟨⟩:=by first|(rw[gA,G9];done)|(rw[gA,G9];rfl)
def xf {ts:Array TypeId}{Q:Res->Prop}{uq:Hd Q}:Ev (opsV P call all (⟨d,.call ⟨.builtin .min,as,ts⟩,ty,ps,af,none⟩::l) fr Z) Q uq=Ev (pMM fr false ⟨.builtin .min,as,ts⟩) (fun v=>Ev (opsV P call all l (I5 fr d v) Z) Q ⟨⟩) ⟨⟩:=by first|(rw[gB,G9];done)|(rw[gB,G9];rfl)
def ck {ts:Array TypeId}{Q:Res->Prop}{uq:Hd Q}:Ev (opsV P call all (⟨d,.call ⟨.builtin .append,as,ts⟩,ty,ps,af,none⟩::l) fr Z) Q uq=Ev (EO P fr Z ⟨.builtin .append,as,ts⟩) (fun r=>Ev (opsV P call all l (I5 fr d r.1) r.2) Q ⟨⟩) ⟨⟩:=by first|(rw[RU,G9];done)|(rw[RU,G9];rfl)
def rB {f:Operand}{ts:Array TypeId}{Q:Res->Prop}{uq:Hd Q}:Ev (opsV P call all (⟨d,.call ⟨.value f,as,ts⟩,ty,ps,af,none⟩::l) fr Z) Q uq =
  Ev (evs fr as.toList) (fun vs=>Ev (ev fr f) (fun v=>Ev (RB v) (fun F=>Ev (call F.g (F.first++vs++F.captured) Z) (fun r=>Br r.pan (Q ⟨.pan r.v,fr,r.Z⟩) (Ev (opsV P call all l (I5 fr d r.v) r.Z) Q ⟨⟩) ⟨⟩) ⟨⟩) ⟨⟩) ⟨⟩) ⟨⟩:=by
 rw[qD,Yk,G9,G9];refine congrArg (fun z=>Ev _ z ⟨⟩) (funext fun vs=>?_);rw[G9];refine congrArg (fun z=>Ev _ z ⟨⟩) (funext fun v=>?_);rw[G9];refine congrArg (fun z=>Ev _ z ⟨⟩) (funext fun F=>?_);refine congrArg (fun z=>Ev _ z ⟨⟩) (funext fun r=>?_);rw[RN,M0]
def Xv {s t:TypeId}{Q:Res->Prop}{uq:Hd Q}:Ev (opsV P call all (⟨d,.convert s t x,ty,ps,af,none⟩::l) fr Z) Q uq =
  Ev (orS (asNew Z (GX P fr s t x)) (orS (Dr Z (DH P fr Z s t x)) (J9 Z (DP P fr ⟨d,.convert s t x,ty,ps,af,none⟩ x)))) (fun r=>Ev (P8 P call all l fr r d) Q ⟨⟩) ⟨⟩:=by rw[Ye,G9]
def kz {Q:Res->Prop}{uq:Hd Q}:Ev (opsV P call all (⟨d,.panic x,ty,ps,af,none⟩::l) fr Z) Q uq=Ev (RD fr Z x) (fun r=>Ev (P8 P call all l fr r d) Q ⟨⟩) ⟨⟩:=by rw[kF,G9]
def AP4 {op:Op}{Q:Res->Prop}{uq:Hd Q}:Ev (opsV P call all (⟨d,op,ty,ps,af,some g⟩::l) fr Z) Q uq=Ev (U9 all fr ⟨d,op,ty,ps,af,some g⟩) (fun c=>Br c (Ev (opsV P call all (⟨d,op,ty,ps,af,none⟩::l) fr Z) Q ⟨⟩) (Ev (opsV P call all l (I5 fr d R7) Z) Q ⟨⟩) ⟨⟩) ⟨⟩:=by
 rw[wT,G9];refine congrArg (fun z=>Ev _ z ⟨⟩) (funext fun c=>?_);rw[RN]
def rC {Q:FST->Prop}{uq:Hd Q}:Ev (K7 P call all (⟨d,.move x,ty,ps,af,none⟩::l) i fr Z ds) Q uq=Ev (ev fr x) (fun v=>Ev (K7 P call all l (i+1) (I5 fr d v) Z ds) Q ⟨⟩) ⟨⟩:=by first|(rw[YX,G9];done)|(rw[YX,G9];rfl)
def cm {Q:FST->Prop}{uq:Hd Q}:Ev (K7 P call all (⟨d,.assign x,ty,ps,af,none⟩::l) i fr Z ds) Q uq=Ev (ev fr x) (fun v=>Ev (K7 P call all l (i+1) (I5 fr d v) Z ds) Q ⟨⟩) ⟨⟩:=by first|(rw[RP,G9];done)|(rw[RP,G9];rfl)
def rE {Q:FST->Prop}{uq:Hd Q}:Ev (K7 P call all (⟨d,.pick c a b,ty,ps,af,none⟩::l) i fr Z ds) Q uq=Ev (Jh fr c a b) (fun v=>Ev (K7 P call all l (i+1) (I5 fr d v) Z ds) Q ⟨⟩) ⟨⟩:=by first|(rw[YZ,G9];done)|(rw[YZ,G9];rfl)
def lA {t:TypeId}{Q:FST->Prop}{uq:Hd Q}:Ev (K7 P call all (⟨d,.alloc t,ty,ps,af,none⟩::l) i fr Z ds) Q uq=Ev (AR P t) (fun r=>Ev (K7 P call all l (i+1) (I5 fr d (r.2 Z.n)) (Z.new r.1 (some t)) ds) Q ⟨⟩) ⟨⟩:=by first|(rw[UG,G9];done)|(rw[UG,G9];rfl)
def lC {t:TypeId}{parts:Array (Nat×Operand)}{Q:FST->Prop}{uq:Hd Q}:Ev (K7 P call all (⟨d,.build t parts,ty,ps,af,none⟩::l) i fr Z ds) Q uq=Ev (Ep P fr t parts) (fun v=>Ev (K7 P call all l (i+1) (I5 fr d v) Z ds) Q ⟨⟩) ⟨⟩:=by first|(rw[UI,G9];done)|(rw[UI,G9];rfl)
def Rl {t:TypeId}{parts:Array (Nat×Operand)}{Q:FST->Prop}{uq:Hd Q}:Ev (K7 P call all (⟨d,.buildSlice t n parts,ty,ps,af,none⟩::l) i fr Z ds) Q uq=Ev (GW P fr t n parts) (fun r=>Ev (K7 P call all l (i+1) (I5 fr d (r.2 Z.n)) (Z.new r.1) ds) Q ⟨⟩) ⟨⟩:=by first|(rw[Jp,G9];done)|(rw[Jp,G9];rfl)
def rG {t:TypeId}{Q:FST->Prop}{uq:Hd Q}:Ev (K7 P call all (⟨d,.load t a,ty,ps,af,none⟩::l) i fr Z ds) Q uq=Ev (Hs P fr Z t a) (fun r=>Ev (K7 P call all l (i+1) (I5 fr d r.1) Z (.read i r.2::ds)) Q ⟨⟩) ⟨⟩:=by first|(rw[Yb,G9];done)|(rw[Yb,G9];rfl)
def lD {t:TypeId}{v:Operand}{Q:FST->Prop}{uq:Hd Q}:Ev (K7 P call all (⟨d,.store t a v,ty,ps,af,none⟩::l) i fr Z ds) Q uq=Ev (Gi P fr Z t a v) (fun r=>Ev (K7 P call all l (i+1) (I5 fr d r.1) r.2 (.eff i Z r.2::ds)) Q ⟨⟩) ⟨⟩:=by first|(rw[UK,G9];done)|(rw[UK,G9];rfl)
def Vr {Q:FST->Prop}{uq:Hd Q}:Ev (K7 P call all (⟨d,.nilCheck x,ty,ps,af,none⟩::l) i fr Z ds) Q uq=Ev (Bu fr x) (fun v=>Ev (K7 P call all l (i+1) (I5 fr d v) Z ds) Q ⟨⟩) ⟨⟩:=by first|(rw[Mt,G9];done)|(rw[Mt,G9];rfl)
def xg {b:BinOp}{t u:TypeId}{Q:FST->Prop}{uq:Hd Q}:Ev (K7 P call all (⟨d,.binOp b t x y u,ty,ps,af,none⟩::l) i fr Z ds) Q uq=Ev (QY P fr ⟨d,.binOp b t x y u,ty,ps,af,none⟩ b t x y) (fun v=>Ev (K7 P call all l (i+1) (I5 fr d v) Z ds) Q ⟨⟩) ⟨⟩:=by first|(rw[fm,G9];done)|(rw[fm,G9];rfl)
def AP5 {b:UnOp}{t:TypeId}{Q:FST->Prop}{uq:Hd Q}:Ev (K7 P call all (⟨d,.unOp b t x,ty,ps,af,none⟩::l) i fr Z ds) Q uq=Ev (DP P fr ⟨d,.unOp b t x,ty,ps,af,none⟩ x) (fun v=>Ev (K7 P call all l (i+1) (I5 fr d v) Z ds) Q ⟨⟩) ⟨⟩:=by first|(rw[qC,G9];done)|(rw[qC,G9];rfl)
def rH {fn:Fn}{Q:FST->Prop}{uq:Hd Q}:Ev (K7 P call all (⟨d,.makeFunc fn fs cs,ty,ps,af,none⟩::l) i fr Z ds) Q uq=Ev (Jj fr fn fs cs) (fun v=>Ev (K7 P call all l (i+1) (I5 fr d v) Z ds) Q ⟨⟩) ⟨⟩:=by first|(rw[Yd,G9];done)|(rw[Yd,G9];rfl)
def lE {t:TypeId}{Q:FST->Prop}{uq:Hd Q}:Ev (K7 P call all (⟨d,.slice t x lo hi mx,ty,ps,af,none⟩::l) i fr Z ds) Q uq=Ev (Ge P fr t x lo hi mx) (fun v=>Ev (K7 P call all l (i+1) (I5 fr d v) Z ds) Q ⟨⟩) ⟨⟩:=by first|(rw[UN,G9];done)|(rw[UN,G9];rfl)
def Sy {s:TypeId}{Q:FST->Prop}{uq:Hd Q}:Ev (K7 P call all (⟨d,.fieldAddr s x f,ty,ps,af,none⟩::l) i fr Z ds) Q uq=Ev (AW P fr s x f) (fun v=>Ev (K7 P call all l (i+1) (I5 fr d v) Z ds) Q ⟨⟩) ⟨⟩:=by first|(rw[Kv,G9];done)|(rw[Kv,G9];rfl)
def lF {s:TypeId}{Q:FST->Prop}{uq:Hd Q}:Ev (K7 P call all (⟨d,.field s x f,ty,ps,af,none⟩::l) i fr Z ds) Q uq=Ev (Fv P fr s x f) (fun v=>Ev (K7 P call all l (i+1) (I5 fr d v) Z ds) Q ⟨⟩) ⟨⟩:=by first|(rw[UQ,G9];done)|(rw[UQ,G9];rfl)
def Sz {t:TypeId}{Q:FST->Prop}{uq:Hd Q}:Ev (K7 P call all (⟨d,.indexAddr t x ix,ty,ps,af,none⟩::l) i fr Z ds) Q uq=Ev (Az P fr t x ix) (fun v=>Ev (K7 P call all l (i+1) (I5 fr d v) Z ds) Q ⟨⟩) ⟨⟩:=by first|(rw[Kx,G9];done)|(rw[Kx,G9];rfl)
def cp {t:TypeId}{Q:FST->Prop}{uq:Hd Q}:Ev (K7 P call all (⟨d,.lookup t x ix ok,ty,ps,af,none⟩::l) i fr Z ds) Q uq=Ev (DI P fr Z t x ix ok) (fun r=>Ev (K7 P call all l (i+1) (I5 fr d r.1) r.2 (.eff i Z r.2::ds)) Q ⟨⟩) ⟨⟩:=by first|(rw[RT,G9];done)|(rw[RT,G9];rfl)
def Yz {ix:Nat}{Q:FST->Prop}{uq:Hd Q}:Ev (K7 P call all (⟨d,.extract t ix,ty,ps,af,none⟩::l) i fr Z ds) Q uq=Ev (Cq fr t ix) (fun v=>Ev (K7 P call all l (i+1) (I5 fr d v) Z ds) Q ⟨⟩) ⟨⟩:=by first|(rw[Oc,G9];done)|(rw[Oc,G9];rfl)
def xh {ts:Array TypeId}{Q:FST->Prop}{uq:Hd Q}:Ev (K7 P call all (⟨d,.call ⟨.builtin .len,as,ts⟩,ty,ps,af,none⟩::l) i fr Z ds) Q uq=Ev (QW P fr ⟨.builtin .len,as,ts⟩) (fun v=>Ev (K7 P call all l (i+1) (I5 fr d v) Z ds) Q ⟨⟩) ⟨⟩:=by first|(rw[ft,G9];done)|(rw[ft,G9];rfl)
def cq {ts:Array TypeId}{Q:FST->Prop}{uq:Hd Q}:Ev (K7 P call all (⟨d,.call ⟨.builtin .append,as,ts⟩,ty,ps,af,none⟩::l) i fr Z ds) Q uq=Ev (EO P fr Z ⟨.builtin .append,as,ts⟩) (fun r=>Ev (K7 P call all l (i+1) (I5 fr d r.1) r.2 (.eff i Z r.2::ds)) Q ⟨⟩) ⟨⟩:=by first|(rw[RV,G9];done)|(rw[RV,G9];rfl)
def rI {f:Operand}{ts:Array TypeId}{Q:FST->Prop}{uq:Hd Q}:Ev (K7 P call all (⟨d,.call ⟨.value f,as,ts⟩,ty,ps,af,none⟩::l) i fr Z ds) Q uq =
  Ev (evs fr as.toList) (fun vs=>Ev (ev fr f) (fun v=>Ev (RB v) (fun F=>Ev (call F.g (F.first++vs++F.captured) Z) (fun r=>Br r.pan (Ev (YV P call all (.call ⟨.value f,as,ts⟩) l i fr Z r.v r.Z ds) Q ⟨⟩) (Ev (K7 P call all l (i+1) (I5 fr d r.v) r.Z (.eff i Z r.Z::ds)) Q ⟨⟩) ⟨⟩) ⟨⟩) ⟨⟩) ⟨⟩) ⟨⟩:=by
 rw[qE,Yk,G9,G9];refine congrArg (fun z=>Ev _ z ⟨⟩) (funext fun vs=>?_);rw[G9];refine congrArg (fun z=>Ev _ z ⟨⟩) (funext fun v=>?_);rw[G9];refine congrArg (fun z=>Ev _ z ⟨⟩) (funext fun F=>?_);refine congrArg (fun z=>Ev _ z ⟨⟩) (funext fun r=>?_);rw[RN]
def YA {s t:TypeId}{Q:FST->Prop}{uq:Hd Q}:Ev (K7 P call all (⟨d,.convert s t x,ty,ps,af,none⟩::l) i fr Z ds) Q uq =
  Ev (orS (asNew Z (GX P fr s t x)) (orS (Dr Z (DH P fr Z s t x)) (J9 Z (DP P fr ⟨d,.convert s t x,ty,ps,af,none⟩ x)))) (fun r=>Ev (AX P call all (.convert s t x) l i fr Z ds r d) Q ⟨⟩) ⟨⟩:=by rw[Yf,G9]
def AP6 {op:Op}{Q:FST->Prop}{uq:Hd Q}:Ev (K7 P call all (⟨d,op,ty,ps,af,some g⟩::l) i fr Z ds) Q uq=Ev (U9 all fr ⟨d,op,ty,ps,af,some g⟩) (fun c=>Br c (Ev (K7 P call all (⟨d,op,ty,ps,af,none⟩::l) i fr Z ds) Q ⟨⟩) (Ev (K7 P call all l (i+1) (I5 fr d R7) Z ds) Q ⟨⟩) ⟨⟩) ⟨⟩:=by
 rw[yd,G9];refine congrArg (fun z=>Ev _ z ⟨⟩) (funext fun c=>?_);rw[RN]
def xZ {Q:Res->Prop}{uq:Hd Q}:Ev (opsV P call all [] fr Z) Q uq=Q ⟨.normal,fr,Z⟩:=by rw[wU,M0]
def xa {Q:FST->Prop}{uq:Hd Q}:Ev (K7 P call all [] i fr Z ds) Q uq=Q ⟨fr,Z,ds,none⟩:=by rw[wV,M0]
section
variable {Q:Res->Prop}{uq:Hd Q}
def xV:Ev (lim P H rd .skip fr Z) Q uq=Q ⟨.normal,fr,Z⟩:=by rw[wW,M0]
def xW:Ev (lim P H rd (.exit k) fr Z) Q uq=Q ⟨.exit k,fr,Z⟩:=by rw[wX,M0]
def AO7:Ev (lim P H rd .ret fr Z) Q uq=Q ⟨.ret,fr,Z⟩:=by rw[AL6,M0]
def Io {a b:Code}:Ev (lim P H rd (.seq a b) fr Z) Q uq=Ev (lim P H rd a fr Z) (fun r=>Ev (AI r (lim P H rd b)) Q ⟨⟩) ⟨⟩:=by rw[AL7,G9]
def qw {a:Code}:Ev (lim P H rd (.block k a) fr Z) Q uq=Ev (lim P H rd a fr Z) (fun r=>Ev (Fs k r) Q ⟨⟩) ⟨⟩:=by rw[qG,G9]
def xX {a b:Code}:Ev (lim P H rd (.cond c a b) fr Z) Q uq=Ev (ev fr c) (fun v=>Ev (bool? v) (fun t=>Br t (Ev (lim P H rd a fr Z) Q ⟨⟩) (Ev (lim P H rd b fr Z) Q ⟨⟩) ⟨⟩) ⟨⟩) ⟨⟩:=by
 rw[wY,G9];refine congrArg (fun z=>Ev _ z ⟨⟩) (funext fun v=>?_);rw[G9];refine congrArg (fun z=>Ev _ z ⟨⟩) (funext fun t=>?_);rw[RN]
def ki {l:List Oper}:Ev (lim P H rd (.region k l.toArray false) fr Z) Q uq=Ev (opsV P (go P H) l.toArray l fr Z) Q ⟨⟩:=by rw[bw]
def xY {l:List Oper}(h:Vh l):Ev (lim P H rd (.region k l.toArray true) fr Z) Q uq=Ev (K7 P (go P H) l.toArray l 0 fr Z []) (fun r=>T3 (Ai (Region.before l.toArray).toList r.ds r.ds) (Q ⟨qS r.p,r.fr,r.Z⟩) ⟨⟩) ⟨⟩:=by
 rw[px h];show Ev (ob _ _) Q uq=_;rw[G9];refine congrArg (fun z=>Ev _ z ⟨⟩) (funext fun r=>?_);obtain⟨fr,Z,ds⟩:=r;show Ev (bb _ _) Q _=_;rw[fi,M0]
def Bw:Ev (AI ⟨.normal,fr,Z⟩ next) Q uq=Ev (next fr Z) Q ⟨⟩:=rfl
def fe:Ev (AI ⟨.exit k,fr,Z⟩ next) Q uq=Q ⟨.exit k,fr,Z⟩:=by rw[Vg,M0]
def pw:Ev (AI ⟨.ret,fr,Z⟩ next) Q uq=Q ⟨.ret,fr,Z⟩:=by rw[bq,M0]
def AO8:Ev (AI ⟨.pan v,fr,Z⟩ next) Q uq=Q ⟨.pan v,fr,Z⟩:=by rw[br,M0]
def UA:Ev (Fs k ⟨.normal,fr,Z⟩) Q uq=Q ⟨.normal,fr,Z⟩:=by rw[kG,M0]
def AO9:Ev (Fs k ⟨.ret,fr,Z⟩) Q uq=Q ⟨.ret,fr,Z⟩:=by rw[AL8,M0]
def AP0:Ev (Fs k ⟨.pan v,fr,Z⟩) Q uq=Q ⟨.pan v,fr,Z⟩:=by rw[AL9,M0]
def ff {m:Nat}:Ev (Fs k ⟨.exit m,fr,Z⟩) Q uq=Br (decide (m=k)) (Q ⟨.normal,fr,Z⟩) (Q ⟨.exit m,fr,Z⟩) ⟨⟩:=by
 rw[wZ,AL5,M0,M0]
end
def UB {Q:CR->Prop}{uq:Hd Q}:Ev (ER P fn ⟨.normal,fr,Z⟩) Q uq=Ev (IX P fr Z fn.results.toList) (fun vs=>Q ⟨false,tup vs,Z⟩) ⟨⟩:=by
 rw[cE,G9];refine congrArg (fun z=>Ev _ z ⟨⟩) (funext fun vs=>?_);rw[M0]
def AP1 {Q:CR->Prop}{uq:Hd Q}:Ev (ER P fn ⟨.ret,fr,Z⟩) Q uq=Ev (IX P fr Z fn.results.toList) (fun vs=>Q ⟨false,tup vs,Z⟩) ⟨⟩:=by
 rw[we,G9];refine congrArg (fun z=>Ev _ z ⟨⟩) (funext fun vs=>?_);rw[M0]
def AP2 {Q:CR->Prop}{uq:Hd Q}:Ev (ER P fn ⟨.pan v,fr,Z⟩) Q uq=Q ⟨true,v,Z⟩:=by rw[wh,M0]
def G1 {g:Nat}{vs:List Value}{fn:Func}{body:Code}{Q:CR->Prop}{uq:Hd Q}(o:P.funcs[g]? =some fn) (j:fn.body=some body) (e:H g=none:=by rfl)
  (h:Ev (lim P H none body (Fq vs 0 .nil) Z) (fun r=>Ev (ER P fn r) Q ⟨⟩) ⟨⟩):Ev (go P H (.fn g) vs Z) Q uq:=by
 rw[Ai6 e o j,G9];exact h
end
end
section
variable {Z:St}{b:Nat}
@[simp] theorem Vt (cs:List Value) (k:Kind):(Z.Hg cs k).n=Z.n+1:=rfl
theorem SP (cs:List Value) (k:Kind) (c:Nat):(Z.Hg cs k).h.get c=if c=Z.n then some ⟨cs,true,true,0,k⟩else Z.h.get c:=Tr.N4 _ _ _ _
def Ext.Hg {Z0:St}(h:Ext Z0 Z) (cs:List Value) (k:Kind):Ext Z0 (Z.Hg cs k):=⟨Nat.le_succ_of_le h.n,fun c a=>by rw[SP,z0z (by have:=h.n;omega),h.same c a]⟩
end
section
variable {a b:Int}{v:Value}{Z':St}{i:Nat}{ds:List Trace}{o:Oper}
section
variable {P:Program}{H:EP}{call:W8}{all:Array Oper}{l:List Oper}{fr:Fr}{Z:St}{d:Option Tmp}{ty t u:TypeId}{ps:String}{af:Array Edge}{x y:Operand}
noncomputable def Ho (P:Program) (b:BinOp) (t:TypeId) (x y:Operand) (a c:Value):Option Value :=
 ob (Ke (O8 P (do pure (.value (<- (do eqGuard b t x y a c;binOp b t a c)))))) cst
noncomputable def CI (P:Program) (b:BinOp) (t:TypeId) (x y:Operand) (a c:Value):Option Value:=orV (Ml b a c) (bi (flat a&&flat c) (Ho P b t x y a c) (od P t b a c))
def vP {b:BinOp}:QY P fr ⟨d,.binOp b t x y u,ty,ps,af,none⟩ b t x y=ob (ev fr x) fun a=>ob (ev fr y) fun c=>CI P b t x y a c:=by
 show ob (ev fr x) _=_;cases g:ev fr x with
 |none=>rfl
 | some a=>
   show ob (ev fr y) _=ob (ev fr y) _;cases j:ev fr y with
   |none=>rfl
   | some c=>
     show vM P fr _ b t a c=_;have e:(fun y=>(ev fr y).getD R7) x=a:=by show(ev fr x).getD R7=a;rw[g];rfl
     have f:(fun y=>(ev fr y).getD R7) y=c:=by show(ev fr y).getD R7=c;rw[j];rfl
     have h:Km P fr ⟨d,.binOp b t x y u,ty,ps,af,none⟩=Ho P b t x y a c:=by
      unfold Km Ho;simp only[execOp,e,f]
     unfold vM CI;rw[h];rfl
def AJ3 {k:IntKind}:CI P .add t x y (.int k a) (.int k b)=some (.int k (Hn k (a+b))):=by cases k<;>rfl
def AJ4 {k:IntKind}:CI P .sub t x y (.int k a) (.int k b)=some (.int k (Hn k (a-b))):=by cases k<;>rfl
def AJ5 {k:IntKind}:CI P .mul t x y (.int k a) (.int k b)=some (.int k (Hn k (a*b))):=by cases k<;>rfl
def AJ6 {k:IntKind}:CI P .eql t x y (.int k a) (.int k b)=some (.bool (decide (a=b))):=by rw[<- ow];cases k<;>rfl
def AJ7 {k:IntKind}:CI P .neq t x y (.int k a) (.int k b)=some (.bool (!decide (a=b))):=by
 rw[<- ow];have h:CI P .neq t x y (.int k a) (.int k b)=some (.bool (bi (ieq a b) false true)):=by cases k<;>rfl
 rw[h];cases ieq a b<;>rfl
def AJ8 {k:IntKind}:CI P .lss t x y (.int k a) (.int k b)=some (.bool (decide (a<b))):=by rw[<- JG];cases k<;>rfl
def AJ9 {k:IntKind}:CI P .leq t x y (.int k a) (.int k b)=some (.bool (!decide (b<a))):=by
 rw[<- JG];have h:CI P .leq t x y (.int k a) (.int k b)=some (.bool (bi (ilt b a) false true)):=by cases k<;>rfl
 rw[h];cases ilt b a<;>rfl
def AK0 {k:IntKind}:CI P .gtr t x y (.int k a) (.int k b)=some (.bool (decide (b<a))):=by rw[<- JG];cases k<;>rfl
def AK1 {k:IntKind}:CI P .geq t x y (.int k a) (.int k b)=some (.bool (!decide (a<b))):=by
 rw[<- JG];have h:CI P .geq t x y (.int k a) (.int k b)=some (.bool (bi (ilt a b) false true)):=by cases k<;>rfl
 rw[h];cases ilt a b<;>rfl
def vQ {a b:ByteArray}:CI P .eql t x y (.string a) (.string b)=some (.bool (decide (a=b))):=by rw[<- To];rfl
def vR {a b:ByteArray}:CI P .neq t x y (.string a) (.string b)=some (.bool (!decide (a=b))):=by
 rw[<- To];show some (Value.bool (bi (Lp a.data.toList b.data.toList) false true))=_;cases Lp a.data.toList b.data.toList<;>rfl
def AK2 {k:IntKind}(h:b≠0):CI P .rem t x y (.int k a) (.int k b)=some (.int k (a.tmod b)):=by
 have key:Ho P .rem t x y (.int k a) (.int k b)=some (.int k (a.tmod b)):=by
  unfold Ho;simp only[eqGuard,binOp,Op.intDiv,z0z h];cases k<;>rfl
 show orV (Ml .rem (.int k a) (.int k b)) (Ho P .rem t x y (.int k a) (.int k b))=_;rw[key];cases k<;>rfl
def AK3 {k:IntKind}(h:b≠0):CI P .quo t x y (.int k a) (.int k b)=some (.int k (k.wrap (a.tdiv b))):=by
 have key:Ho P .quo t x y (.int k a) (.int k b)=some (.int k (k.wrap (a.tdiv b))):=by
  unfold Ho;simp only[eqGuard,binOp,Op.intDiv,z0z h];cases k<;>rfl
 show orV (Ml .quo (.int k a) (.int k b)) (Ho P .quo t x y (.int k a) (.int k b))=_;rw[key];cases k<;>rfl
noncomputable def Iw (P:Program) (Z:St) (s t:TypeId) (a:Value):Option Stepped :=
 orS (asNew Z (bb (P.underlying s).isSome (ob (Jw a) fun l=>ob (elem? P t) fun e=>bb (isByte (P.underlying e)) (some (O9 l,fun n=> .slice (some ⟨n,0,some 1⟩) l.length l.length)))))
  (orS (Dr Z (ob (Nl a) fun p=>pra p fun b off n=>ob (elem? P s) fun e=>bb (isByte (P.underlying e)) (bb (isStr (P.underlying t)) (ob (Z.read b off n) fun l=>ob (BZ l) fun l=>some (.string ⟨l.toArray⟩,⟨b,off,n⟩)))))
    (J9 Z (bb (flat a) (ob (Ke (O8 P (do pure (.value (<- convert s t a))))) cst))))
def fK {s:TypeId}:orS (asNew Z (GX P fr s t x)) (orS (Dr Z (DH P fr Z s t x)) (J9 Z (DP P fr ⟨d,.convert s t x,ty,ps,af,none⟩ x)))=ob (ev fr x) fun a=>Iw P Z s t a:=by
 cases h:ev fr x with
 | none=>
   unfold GX DH DP;simp only[h,vS];cases(P.underlying s).isSome<;>rfl
 | some a=>
   have e:(fun y=>(ev fr y).getD R7) x=a:=by show(ev fr x).getD R7=a;rw[h];rfl
   have c:Km P fr ⟨d,.convert s t x,ty,ps,af,none⟩=ob (Ke (O8 P (do pure (.value (<- convert s t a))))) cst:=by
    unfold Km;simp only[execOp,e]
   unfold GX DH DP Iw;simp only[h,F8,c]
def ox {s t:TypeId}{x:Operand}{Q:Res->Prop}{c:Hd Q}:Ev (opsV P call all (⟨d,.convert s t x,ty,ps,af,none⟩::l) fr Z) Q c =
  Ev (ev fr x) (fun a=>Ev (Iw P Z s t a) (fun r=>Ev (P8 P call all l fr r d) Q ⟨⟩) ⟨⟩) ⟨⟩:=by rw[Xv,fK,G9]
def oy {s t:TypeId}{x:Operand}{Q:FST->Prop}{c:Hd Q}:Ev (K7 P call all (⟨d,.convert s t x,ty,ps,af,none⟩::l) i fr Z ds) Q c =
  Ev (ev fr x) (fun a=>Ev (Iw P Z s t a) (fun r=>Ev (AX P call all (.convert s t x) l i fr Z ds r d) Q ⟨⟩) ⟨⟩) ⟨⟩:=by rw[YA,fK,G9]
def vT {Q:Res->Prop}{c:Hd Q}:Ev (P8 P call all l fr ⟨v,Z',.none⟩ d) Q c=Ev (opsV P call all l (I5 fr d v) Z') Q ⟨⟩:=rfl
def vU {r:BA}{Q:Res->Prop}{c:Hd Q}:Ev (P8 P call all l fr ⟨v,Z',.read r⟩ d) Q c=Ev (opsV P call all l (I5 fr d v) Z') Q ⟨⟩:=rfl
def oz {Q:Res->Prop}{c:Hd Q}:Ev (P8 P call all l fr ⟨v,Z',.pan⟩ d) Q c=Q ⟨.pan v,fr,Z'⟩:=by
 show Ev (some _) Q _=_;rw[M0]
def vV {op:Op}{Q:FST->Prop}{c:Hd Q}:Ev (AX P call all op l i fr Z ds ⟨v,Z',.none⟩ d) Q c=Ev (K7 P call all l (i+1) (I5 fr d v) Z' ds) Q ⟨⟩:=rfl
def vW {op:Op}{j:Nat}{c:Bool}:U9 all fr ⟨d,op,ty,ps,af,some (j,c)⟩=ob (some (FZ all j)) fun s=>match s with
  |none=>some false
  |some d=>ob (fr.get d) fun v=>some (yieldOf c v):=by
 show Option.rec _ _ (FZ all j)=ob (some (FZ all j)) _;rw[F8];cases FZ all j<;>rfl
def pA {l:List Oper}:FZ (o::l).toArray 0=o.dst:=rfl
def pB {l:List Oper}{j:Nat}:FZ (o::l).toArray (j+1)=FZ l.toArray j:=by
 unfold FZ;simp only[List.getElem?_toArray,List.getElem?_cons_succ]
def vX {b:Bool}:yieldOf true (.bool b)=b:=rfl
def vY {b:Bool}:yieldOf false (.bool b)= !b:=rfl
def wrap64_in {n:Int}(c: -9223372036854775808<=n) (e:n<=9223372036854775807):IntKind.i64.wrap n=n:=by
 rw[wrap_i64];split<;>omega
end
end
noncomputable def St.row (Z:St) (b:Nat):Option (List Value):=ob (Z.EI b) fun B=>some B.cells
noncomputable def St.B8 (Z:St) (b:Nat):Option (List Value):=ob (Z.EI b) fun B=>bb B.own (some B.cells)
section
variable {Z Z':St}{b c off n:Nat}{cs vs:List Value}{fr:Fr}{ps:List Nat}{assign body:Code}{st:LoopState}{BX6:Option Code}{k:Kind}{ty:Option TypeId}
def AB:Z.read b off n=ob (Z.row b) fun cs=>sub cs off n:=by
 show ob (Z.EI b) _=ob (ob (Z.EI b) _) _;cases Z.EI b<;>rfl
def Jc:Z.write b off vs=ob (Z.B8 b) fun cs=>ob (M5 cs off vs) fun cs'=>some (Z.upd b cs'):=by
 show ob (Z.EI b) _=ob (ob (Z.EI b) _) _;cases h:Z.EI b with
 |none=>rfl
 | some B=>
   have g:Z.ver b=B.ver:=by
    have:=(AM (j0 h).1).1;unfold St.ver;rw[this]
   have f:B.kind= .row (Z.typ b):=by
    obtain⟨a,t,d⟩:=j0 h;have e:=(AM a).1;obtain⟨cells,live,own,ver,kind⟩:=B;cases d;unfold St.typ;rw[e];rfl
   show bb B.own _=ob (bb B.own (some B.cells)) _;cases B.own with
   |false=>rfl
   |true=>simp only[V0,F8,St.upd,g,f]
def PU:Z.kill b=ob (Z.B8 b) fun _=>some (Z.dead b):=by
 show ob (Z.EI b) _=ob (ob (Z.EI b) _) _;cases h:Z.EI b with
 |none=>rfl
 | some B=>
   have a:Z.ver b=B.ver:=by
    have:=(AM (j0 h).1).1;unfold St.ver;rw[this]
   show bb B.own _=ob (bb B.own (some B.cells)) _;cases B.own with
   |false=>rfl
   |true=>simp only[V0,F8,St.dead,a]
def V7 (h:Z'.h.get b=Z.h.get b):Z'.row b=Z.row b:=by
 show ob (ob (ob (Z'.h.get b) _) _) _=ob (ob (ob (Z.h.get b) _) _) _;rw[h]
def B9 (h:Z'.h.get b=Z.h.get b):Z'.B8 b=Z.B8 b:=by
 show ob (ob (ob (Z'.h.get b) _) _) _=ob (ob (ob (Z.h.get b) _) _) _;rw[h]
def Own.B8 (h:Own Z b cs):Z.B8 b=some cs:=by
 obtain⟨v,t,h⟩:=h;show ob (ob (ob (Z.h.get b) _) _) _=_;rw[h];rfl
def C1 (h:Z.B8 b=some cs):Z.row b=some cs:=by
 obtain⟨B,a,d⟩:=A8 (show ob (Z.EI b) _=some cs from h);obtain⟨h3,h4⟩:=J4 d;show ob (Z.EI b) _=_;rw[a];exact h4
def G6 (a:b<=Z.n) (d:Z.n<=b):(Z.new cs ty).row b=some cs:=by
 obtain rfl:=Zo a d;exact C1 (Own.new Z cs).B8
def K2 (a:b<=Z.n) (d:Z.n<=b):(Z.new cs ty).B8 b=some cs:=by
 obtain rfl:=Zo a d;exact(Own.new Z cs).B8
def CQ (h:b≠Z.n):(Z.new cs ty).row b=Z.row b:=V7 (by rw[N8,z0z h])
def J1 (h:b≠Z.n):(Z.new cs ty).B8 b=Z.B8 b:=B9 (by rw[N8,z0z h])
def NF:(Z.upd b cs).row b=some cs:=C1 (Own.upd Z b cs).B8
def G8:(Z.upd b cs).B8 b=some cs:=(Own.upd Z b cs).B8
def I2 (h:b≠c):(Z.upd c cs).row b=Z.row b:=V7 (by rw[M4,z0z h])
def H6 (h:b≠c):(Z.upd c cs).B8 b=Z.B8 b:=B9 (by rw[M4,z0z h])
def Ja (h:b≠c):(Z.dead c).row b=Z.row b:=V7 (by rw[FX,z0z h])
def Vu (h:b≠c):(Z.dead c).B8 b=Z.B8 b:=B9 (by rw[FX,z0z h])
def ZB (h:b≠Z.n):(Z.Hg cs k).row b=Z.row b:=V7 (by rw[SP,z0z h])
def NG (h:b≠Z.n):(Z.Hg cs k).B8 b=Z.B8 b:=B9 (by rw[SP,z0z h])
def Ext.row (h:Ext Z Z') (a:b<Z.n):Z'.row b=Z.row b:=V7 (h.same b a)
def Ext.B8 (h:Ext Z Z') (a:b<Z.n):Z'.B8 b=Z.B8 b:=B9 (h.same b a)
def rM {a:Type}{x:a}{l:List a}{o m:Nat}:sub (x::l) (o+1) m=sub l o m:=rfl
def rN {a:Type}{x:a}{l:List a}{m:Nat}:sub (x::l) 0 (m+1)=ob (takeN m l) fun r=>some (x::r):=rfl
def G3 {e:Type}{l:List e}{m:Nat}(a:m<=l.length) (d:l.length<=m):sub l 0 m=some l:=yQ l m (Zo a d)
def YS {m q:Nat}(a:m<=q) (d:q<=m):m.beq q=true:=Mr (Zo a d)
def HG {e:Type}{l new:List e}(a:new.length<=l.length) (d:l.length<=new.length):M5 l 0 new=some new:=cD (Zo a d)
end
section
variable {P:Program}{A9:Env}{G:Nat}
def Zh (C:P.follows .mixedOrders=true){H:EP}(p:∀ n c,A9.chk n c=codeOk P n G c) (A:GK P H G P.funcs.toList 0=true) (z:JU P A9 G H){g:Nat}{a:Func}(l:P.funcs[g]? =some a) (d:a.body.isSome=true){vs vs':List Value}{Z:St}{Q:CR->Prop}{F:Hd Q}
  (h:Ev (go P H (.fn g) vs Z) Q F) {O:Place}{w:World} (B:Rel A9 O Z w) (u:∀ b,Z.n<=b->O b=none) (y:CL O G) (D:H8 O vs vs') :
  Calls P g ⟨vs'⟩ w fun e w'=>∃ r v' O',Q r/\e=ended r.pan v'/\Rel A9 O' r.Z w'/\AS O Z w O' r.Z w'/\J5 O' r.v v':=by
 obtain⟨r,q,s⟩:=h;obtain⟨f,h3⟩:=wA q;obtain⟨_,h4⟩:=Wz (A9:=A9) C p A z f _ _ _ _ h3;obtain⟨fn',k1,k2,k3⟩:=h4 O w vs' r.Z.n B (fun b d _=>u b d) nL y D;rw[l]at k1;cases k1;rcases k3 with⟨_,o⟩|⟨v',m,o,I,J⟩
 ·exact o.mono fun e w' ⟨v',O',E,q1,q2,q3⟩=>⟨r,v',O',s,E,q1,q2,q3⟩
 ·exfalso;have j:a.body.isNone=false:=by cases i:a.body with|none=>rw[i]at d;cases d|some c=>rfl
  simp only[callFunc,Sem.run_bind,run_program,Result.andThen_ok,l,k2,j,JM,HZ,Sem.run_pure]at m;cases m
noncomputable def St.arg (Z:St) (cells:List Value):St:=⟨Z.h.set Z.n ⟨cells,true,false,0,.row none⟩,Z.n+1⟩
def KO (Z:St) (cells:List Value) (b:Nat):(Z.arg cells).h.get b=if b=Z.n then some ⟨cells,true,false,0,.row none⟩else Z.h.get b:=Tr.N4 _ _ _ _
def Ue (Z:St) (cells:List Value):(Z.arg cells).n=Z.n+1:=rfl
def ga (Z:St) (cells:List Value):(Z.arg cells).row Z.n=some cells:=by
 show ob (ob (ob ((Z.arg cells).h.get Z.n) _) _) _=_;rw[KO,z1z rfl];rfl
def Rr (Z:St) (cells:List Value){b:Nat}(h:b≠Z.n):(Z.arg cells).row b=Z.row b:=V7 (by rw[KO,z0z h])
def QF (Z:St):Prop:=∀ b B,Z.blk b=some B->B.own=false
def QF.arg {Z:St}(h:QF Z) (cells:List Value):QF (Z.arg cells):=by
 intro b B d;obtain⟨a,c⟩:=AM d;rw[KO]at a;split at a
 ·cases a;rfl
 ·exact h b B (Nf a c)
def gZ {O:Place}{Z:St}{w:World}(r:Rel A9 O Z w) (A:QF Z) (C:∀ b,Z.n<=b->O b=none){c o m:Nat}{cells:List Value}{arr:Array Value}{e:TypeId}{f:Nat×Nat}(y:w.heap[c]? =some (.cells arr e f)) (F:m=arr.size) (j:o+cells.length<=arr.size)
  (E:c<A9.lo) (D:∀ v∈cells,N2 v=true) (H:∀ (i:Nat) (v:Value),cells[i]? =some v->∃ v',arr[o+i]? =some v'/\J5 O v v'):Rel A9 (O.put Z.n ⟨c,o,m⟩) (Z.arg cells) w:=by
 have p:O.le (O.put Z.n ⟨c,o,m⟩):=Place.JS _ (C _ nL);subst F;have u:c<w.heap.size:=by
  rcases AH c w.heap.size with h|h
  ·exact h
  ·rw[Array.getElem?_eq_none h]at y;cases y
 refine⟨fun b d=>?_,fun b q B d l=>?_,fun b q d=>?_,fun b q B _ l j=>?_,fun b q B I J _ l j=>?_,r.low⟩
 ·rw[KO,z0z (by rw[Ue]at d;omega)];exact r.fresh b (by rw[Ue]at d;omega)
 ·by_cases a:b=Z.n
  ·subst a;rw[Place.S9]at d;cases d;obtain⟨g,_⟩:=AM l;rw[KO,z1z rfl]at g;cases g;obtain⟨lo,hi⟩:=f;refine .row rfl ⟨arr,e,lo,hi,y,rfl,j,fun h=>absurd h (by show ¬ A9.lo<=c;omega),D,fun i v z=>?_⟩;obtain⟨v',g,s⟩:=H i v z;exact⟨v',g,s.mono p⟩
  ·rw[Place.Ax _ _ a]at d;obtain⟨g,s⟩:=AM l;rw[KO,z0z a]at g;exact(r.KV b q B d (Nf g s)).mono p rfl
 ·by_cases a:b=Z.n
  ·subst a;rw[Place.S9]at d;cases d;exact u
  ·rw[Place.Ax _ _ a]at d;exact r.dom b q d
 ·rw[A.arg cells b B l]at j;cases j
 ·rw[A.arg cells b B l]at j;cases j
def ZJ {O:Place}{Z:St}{cells:List Value}{q:CJ}(a:∀ b,Z.n<=b->O b=none):∀ b,(Z.arg cells).n<=b->(O.put Z.n q) b=none:=by
 intro b c;rw[Ue]at c;rw[Place.Ax _ _ om];exact a b om
def ZM {w:World}{x:Addr}{v:Value}(h:w.cell? x=some v):∃ arr e f,w.heap[x.block]? =some (.cells arr e f)/\x.spot=none/\arr[x.off]? =some v:=by
 unfold World.cell? at h;split at h
 ·rename_i c e f b;split at h
  ·cases h
  ·rename_i a;refine⟨c,e,f,b,?_,h⟩;cases d:x.spot with
   |none=>rfl
   |some s=>rw[d]at a;exact absurd rfl a
 ·cases h
end
section
variable {dl i lo hi:Nat}{as:Array Operand}{cells:List Value}{want:Bool}{bs:List Nat}{all:List Trace}{y:Int}
section
variable {P:Program}{e:TypeId}{Z:St}{fr:Fr}{b off n c len cap size s k:Nat}{sp:Option Nat}{new vs l:List Value}{v x:Value}
def KC:AJ Z size (.slice (some ⟨b,off,sp⟩) n c)=ob (Z.read b off (n*size)) fun cs=>some (n,cs):=rfl
def VV:BP e Z size none 0 n new=some (.slice (some ⟨Z.n,0,some size⟩) n n,Z.new new (some e)):=rfl
def Me:BP e Z size (some ⟨b,off,none⟩) len n new=ob (Z.read b off (len*size)) fun old=>some (.slice (some ⟨Z.n,0,some size⟩) (len+n) (len+n),Z.new (old++new) (some e)):=rfl
def VW:BP e Z size (some ⟨b,off,some size⟩) len n new=ob (Z.read b off (len*size)) fun old=>ob (Z.kill b) fun Z'=>some (.slice (some ⟨Z'.n,0,some size⟩) (len+n) (len+n),Z'.new (old++new) (MQ e off (Z.typ b))):=by
 show bb (Nat.beq size size) _=_;rw[Mr rfl];rfl
def eh:CU Z size (some ⟨b,off,sp⟩) len cap n new=ob (Z.write b (off+len*size) new) fun Z=>some (.slice (some ⟨b,off,sp⟩) (len+n) cap,Z):=rfl
def Jd {a b:Nat}(h:b<a):Nat.ble a b=false:=by
 cases d:Nat.ble a b with
 |false=>rfl
 |true=>have:=Cj d;omega
def AK9 {c:Callee}{t:TypeId}{ts:List TypeId}:Sb ⟨c,as,(t::ts).toArray⟩=some t:=rfl
def wB {c:Callee}{t u:TypeId}{ts:List TypeId}:eO ⟨c,as,(t::u::ts).toArray⟩=some u:=rfl
def jr {e:TypeId}:LW (some (.slice e))=true:=rfl
def bR:LW (some .string)=true:=rfl
def pL {place:Nat->Option (Nat×Nat)}:Bl place [] cells=some cells:=rfl
def js {place:Nat->Option (Nat×Nat)}{v:Value}{a:List (Nat×Value)}:Bl place ((i,v)::a) cells=ob (place i) fun q=>pr q fun off n=>bi (El v) none (bb ((M6 v).length.beq n) (ob (M5 cells off (M6 v)) (Bl place a))):=rfl
def A6 {a:Type}{x:a}{l new:List a}{o:Nat}:M5 (x::l) (o+1) new=ob (M5 l o new) fun r=>some (x::r):=rfl
def YH {a:Type}{x y:a}{l new:List a}:M5 (x::l) 0 (y::new)=ob (over new l) fun r=>some (y::r):=rfl
def pM {a:Type}{l:List a}:over [] l=some l:=rfl
def TX {a:Type}{x y:a}{l new:List a}:over (y::new) (x::l)=ob (over new l) fun r=>some (y::r):=rfl
def pN {a:Type}{l:List a}:rep l 0=[]:=rfl
def YI {a:Type}{l:List a}{n:Nat}:rep l (n+1)=l++rep l n:=rfl
noncomputable def pO (fr:Fr) (want:Bool) (s:Option Tmp):Option Bool:=match s with
 |none=>some false
 |some d=>ob (fr.get d) fun v=>some (yieldOf want v)
def pP {all:Array Oper}{d:Option Tmp}{op:Op}{ty:TypeId}{f:String}{a:Array Edge}{j:Nat}{Q:Bool->Prop}{g:Hd Q}:
  Ev (U9 all fr ⟨d,op,ty,f,a,some (j,want)⟩) Q g=Ev (some (FZ all j)) (fun s=>Ev (pO fr want s) Q ⟨⟩) ⟨⟩:=by
 rw[vW,G9];refine congrArg (fun z=>Ev _ z ⟨⟩) (funext fun s=>?_);cases s<;>rfl
def wC {d:Tmp}{Q:Bool->Prop}{a:Hd Q}:Ev (pO fr want (some d)) Q a=Ev (fr.get d) (fun v=>Q (yieldOf want v)) ⟨⟩:=by
 show Ev (ob _ _) Q _=_;rw[G9];refine congrArg (fun z=>Ev _ z ⟨⟩) (funext fun v=>?_);rw[M0]
def pQ {o:Operand}:evO fr (some o)=ob (ev fr o) fun v=>some (some v):=rfl
def pR:evO fr none=some none:=rfl
def wD {cap:Nat}{lo hi:Option Value}:au dl cap lo hi=ob (jt dl hi) fun h=>bb (h.ble cap) (ob (jt 0 lo) fun l=>bb (l.ble h) (some (l,h))):=rfl
def wE {v:Value}:jt dl (some v)=nat? v:=rfl
def wF:jt dl none=some dl:=rfl
def pT {n b off cap:Nat}:sliceAt n (some ⟨b,off,none⟩) lo hi cap=some (.slice (some ⟨b,off+lo*n,none⟩) (hi-lo) (cap-lo)):=rfl
def vx {n b off cap:Nat}:sliceAt n (some ⟨b,off,some n⟩) lo hi cap=some (.slice (some ⟨b,off+lo*n,some n⟩) (hi-lo) (cap-lo)):=by
 show bb (Nat.beq n n) _=_;rw[Mr rfl];rfl
def T6:Ai bs all []=true:=rfl
def T5 {d:List Trace}{a b:St}:Ai bs all (.eff i a b::d)=Ai bs all d:=rfl
def mm2 {x y:Operand}{c:Callee}{ts:Array TypeId}{d:Bool}:pMM fr d ⟨c,[x,y].toArray,ts⟩=ob (ev fr x) fun a=>ob (ev fr y) fun b=>Ig d a b:=by
 show ob (ob (ev fr x) fun v=>ob (ob (ev fr y) fun v=>ob (some []) fun vs=>some (v::vs)) fun vs=>some (v::vs)) _=_;cases ev fr x with
 |none=>rfl
 | some a=>
   cases ev fr y with
   |none=>rfl
   | some b=>
     show ob (Ig d a b) (fun v=>some v)=Ig d a b;cases Ig d a b<;>rfl
def wG {k k':IntKind}{x:Int}:Ig false (.int k x) (.int k' y)=some (.int k (min x y)):=by
 show some (Value.int k (bi (ilt y x) y x))=_;rw[JG];by_cases h:y<x
 ·rw[AK h,N5,Int.min_eq_right om]
 ·rw[z4z h,j7,Int.min_eq_left om]
def wH {k k':IntKind}{x:Int}:Ig true (.int k x) (.int k' y)=some (.int k (max x y)):=by
 show some (Value.int k (bi (ilt x y) y x))=_;rw[JG];by_cases h:x<y
 ·rw[AK h,N5,Int.max_eq_right om]
 ·rw[z4z h,j7,Int.max_eq_left om]
end
end
section
variable {Z Z':St}{v:Value}{l a b:List UInt8}{bs:List Nat}{i size j:Nat}{ds:List Trace}{n:Int}{D0:List (List Value)}
def str (l:List UInt8):Value:= .string ⟨⟨l⟩⟩
def lH:M6 (str l)=[str l]:=rfl
def xr:El (str l)=false:=rfl
def xm:oT (some .string) (str l)=some l.length:=rfl
def uE:(⟨⟨a⟩⟩:ByteArray)=⟨⟨b⟩⟩↔a=b:=⟨fun h=>by cases h;rfl,fun h=>by rw[h]⟩
def Vp {fr:Fr}:ev fr (.const (.string ⟨l.toArray⟩))=some (str l):=rfl
def P0 {c:List Trace}{r:BA}:Ai bs c (.read i r::ds)=bi (M7 bs i r c) (Ai bs c ds) false:=rfl
def o6 {r:BA}:M7 bs i r []=true:=rfl
def N7 {r q:BA}:M7 bs i r (.read j q::ds)=M7 bs i r ds:=rfl
def Je {r:BA}{a b:St}(h:r.b<a.n->b.h.get r.b=a.h.get r.b):M7 bs i r (.eff j a b::ds)=M7 bs i r ds:=by
 show bi (bi (ordered bs i j) true (bi (Nat.blt r.b a.n) (bi (Nat.beq (a.ver r.b) (b.ver r.b)) true (Aj (a.read r.b r.off r.n) (b.read r.b r.off r.n))) true)) (M7 bs i r ds) false=_;have:bi (ordered bs i j) true (bi (Nat.blt r.b a.n) (bi (Nat.beq (a.ver r.b) (b.ver r.b)) true (Aj (a.read r.b r.off r.n) (b.read r.b r.off r.n))) true)=true:=by
  cases ordered bs i j with
  |true=>rfl
  | false=>
    cases d:Nat.blt r.b a.n with
    |false=>rfl
    | true=>
      have c:r.b<a.n:=by rw[EJ]at d;exact d
      have e:b.ver r.b=a.ver r.b:=by unfold St.ver;rw[h c]
      rw[e,Mr rfl];rfl
 rw[this];rfl
def cK {P:Program}{s t:TypeId}{e:TypeId}{b off n c:Nat}{sp:Option Nat}(d:elem? P s=some e) (f:isByte (P.underlying e)=true) (g:isStr (P.underlying t)=true):
  Iw P Z s t (.slice (some ⟨b,off,sp⟩) n c)=ob (Z.read b off n) fun vs=>ob (BZ vs) fun l=>some ⟨str l,Z,.read ⟨b,off,n⟩⟩:=by
 have h:asNew Z (bb (P.underlying s).isSome (ob (Jw (.slice (some ⟨b,off,sp⟩) n c)) fun l=>ob (elem? P t) fun e=>bb (isByte (P.underlying e)) (some (O9 l,fun n=> .slice (some ⟨n,0,some 1⟩) l.length l.length))))=none:=by
  cases(P.underlying s).isSome<;>rfl
 unfold Iw;rw[h];show orS (Dr Z (ob (elem? P s) fun e=>bb (isByte (P.underlying e)) (bb (isStr (P.underlying t)) (ob (Z.read b off n) fun l=>ob (BZ l) fun l=>some (.string ⟨l.toArray⟩,⟨b,off,n⟩))))) none=_;rw[d,F8,f,V0,g,V0];cases Z.read b off n with
 |none=>rfl
 | some vs=>
   rw[F8,F8];cases BZ vs<;>rfl
def ZA:BZ []=some []:=rfl
def Vs {vs:List Value}:BZ (v::vs)=ob (Ow v) fun b=>ob (BZ vs) fun bs=>some (b::bs):=rfl
def xt:Ow (.int .u8 n)=some (UInt8.ofNat n.toNat):=rfl
def rL (c:0<=n) (d:n<256):IntKind.u8.wrap n=n:=by
 rw[wrap_u8];omega
noncomputable def unA (P:Program) (op:UnOp) (a:Value):Option Value:=bb (flat a) (ob (Ke (O8 P (do pure (.value (<- Op.unary op a))))) cst)
def xi {P:Program}{fr:Fr}{d:Option Tmp}{op:UnOp}{t ty:TypeId}{f:String}{c:Array Edge}{x:Operand}:DP P fr ⟨d,.unOp op t x,ty,f,c,none⟩ x=ob (ev fr x) fun a=>unA P op a:=by
 show ob (ev fr x) _=_;cases h:ev fr x with
 |none=>rfl
 | some a=>
   have e:(fun y=>(ev fr y).getD R7) x=a:=by show(ev fr x).getD R7=a;rw[h];rfl
   show bb (flat a) (Km P fr _)=unA P op a;unfold Km unA;simp only[execOp,e]
def xu {P:Program}{b:Bool}:unA P .not (.bool b)=some (.bool !b):=rfl
def xw {P:Program}{k:IntKind}:unA P .neg (.int k n)=some (.int k (k.wrap (0-n))):=rfl
section
variable {P:Program}{fr:Fr}{x y:Operand}{t:TypeId}
def rJ:CI P .eql t x y (str a) (str b)=some (.bool (decide (a=b))):=by
 show CI P .eql t x y (.string _) (.string _)=_;rw[vQ];congr 2;exact decide_eq_decide.2 uE
def rK:CI P .neq t x y (str a) (str b)=some (.bool (!decide (a=b))):=by
 show CI P .neq t x y (.string _) (.string _)=_;rw[vR];congr 3;exact decide_eq_decide.2 uE
def lI (h:a.length+b.length<=4294967296):CI P .add t x y (str a) (str b)=some (str (a++b)):=by
 show orV (bb (Nat.ble (a.length+b.length) 4294967296) (some (str (a++b)))) _=_;rw[Fi h];rfl
end
def SL (Z:St) (size:Nat) (v:Value) (D0:List (List Value)):Prop :=
 (v= .slice none 0 0/\D0=[])\/∃ b off sp c cells,v= .slice (some ⟨b,off,sp⟩) D0.length c/\b<Z.n/\Z.row b=some cells/\∀ k r,D0[k]? =some r->sub cells (off+k*size) size=some r
def SL.mono (h:SL Z size v D0) (e:Ext Z Z'):SL Z' size v D0:=by
 rcases h with h|⟨b,off,sp,c,cells,f,d,g,m⟩
 ·exact .inl h
 ·exact .inr ⟨b,off,sp,c,cells,f,z5z d e.n,by rw[e.row d];exact g,m⟩
def SL.use (h:SL Z size v D0):∃ a c b off cells,v= .slice a D0.length c/\(0<D0.length->∃ sp,a=some ⟨b,off,sp⟩/\b<Z.n/\Z.row b=some cells)/\∀ k r,D0[k]? =some r->sub cells (off+k*size) size=some r:=by
 rcases h with⟨rfl,rfl⟩|⟨b,off,sp,c,cells,d,e,f,g⟩
 ·exact⟨none,0,0,0,[],rfl,fun h=>by simp at h,fun k r h=>by simp at h⟩
 ·exact⟨_,c,b,off,cells,d,fun _=>⟨sp,rfl,e,f⟩,g⟩
def SL.nil:SL Z size (.slice none 0 0) []:= .inl ⟨rfl,rfl⟩
def HL (Z:St) (v:Value) (l:List (List UInt8)):Prop:=SL Z 1 v (l.map fun s=>[str s])
def HL.mono {l:List (List UInt8)}(h:HL Z v l) (c:Ext Z Z'):HL Z' v l:=SL.mono h c
def HL.use {l:List (List UInt8)}(h:HL Z v l):∃ a c b off cells,v= .slice a l.length c/\(0<l.length->∃ sp,a=some ⟨b,off,sp⟩/\b<Z.n/\Z.row b=some cells)/\∀ k s,l[k]? =some s->sub cells (off+k) 1=some [str s]:=by
 obtain⟨a,c,b,off,cells,d,e,f⟩:=SL.use h;rw[z2z]at d e;refine⟨a,c,b,off,cells,d,e,fun k s g=>?_⟩;have:=f k [str s] (by rw[List.getElem?_map,g];rfl);rw[Fh]at this;exact this
end
section
variable {Z Z':St}{lo size b:Nat}{D0:List (List Value)}{v:Value}
def K3 (v:Value):Option Nat:=match v with
 | .slice (some ⟨b,_,_⟩) _ _=>some b
 |_=>none
def OL (lo:Nat) (Z:St) (size:Nat) (v:Value) (D0:List (List Value)):Prop :=
 (∀ r∈D0,r.length=size)/\((v= .slice none 0 0/\D0=[])\/∃ b sp,v= .slice (some ⟨b,0,sp⟩) D0.length D0.length/\(sp=none\/sp=some size)/\lo<=b/\b<Z.n/\Z.B8 b=some D0.flatten)
def OL.nil:OL lo Z size (.slice none 0 0) []:=⟨fun r h=>by simp at h,.inl ⟨rfl,rfl⟩⟩
def OL.mk {sp:Option Nat}{n:Nat}{cells:List Value}(f:n=D0.length) (e:cells=D0.flatten) (g:∀ r∈D0,r.length=size) (h:sp=none\/sp=some size) (a:lo<=b) (c:b<Z.n) (d:Z.B8 b=some cells):OL lo Z size (.slice (some ⟨b,0,sp⟩) n n) D0:=by
 subst f;subst e;exact⟨g,.inr ⟨b,sp,rfl,h,a,c,d⟩⟩
def OL.sl (h:OL lo Z size v D0):SL Z size v D0:=by
 obtain⟨c,⟨rfl,rfl⟩|⟨b,sp,rfl,i,f,d,e⟩⟩:=h
 ·exact SL.nil
 ·refine .inr ⟨b,0,sp,D0.length,_,rfl,d,C1 e,fun k r a=>?_⟩;have:=QO c a (o:=0) (n:=size) om;have g:r.length=size:=c r (y6 a);rw[Be]at this;rw[Eo,this];exact G3 om om
def OL.I4 (h:OL lo Z size v D0) (i:Z.n<=Z'.n) (d:∀ b,K3 v=some b->Z'.h.get b=Z.h.get b):OL lo Z' size v D0:=by
 obtain⟨e,⟨rfl,rfl⟩|⟨b,sp,rfl,f,a,g,c⟩⟩:=h
 ·exact .nil
 ·exact⟨e,.inr ⟨b,sp,rfl,f,a,om,by rw[B9 (d b rfl)];exact c⟩⟩
def OL.ext (h:OL lo Z size v D0) (a:Ext Z Z'):OL lo Z' size v D0:=by
 refine h.I4 a.n fun b c=>?_;obtain⟨i,⟨rfl,rfl⟩|⟨e,sp,rfl,j,f,d,g⟩⟩:=h
 ·cases c
 ·cases c;exact a.same b d
def OL.blk (h:OL lo Z size v D0)(a:K3 v=some b):lo<=b/\b<Z.n:=by
 obtain⟨g,⟨rfl,rfl⟩|⟨e,sp,rfl,i,c,d,f⟩⟩:=h
 ·cases a
 ·cases a;exact⟨c,d⟩
structure App (Z Z':St) (v v':Value):Prop where
 n:Z.n<=Z'.n
 same:∀ c,c<Z.n->K3 v≠some c->Z'.h.get c=Z.h.get c
 new:∀ b,K3 v'=some b->Z.n<=b/\b<Z'.n
def App.ext {Z0:St}{v':Value}(h:App Z Z' v v') (a:Ext Z0 Z) (f:OL lo Z size v D0) (g:Z0.n<=lo):Ext Z0 Z' :=
 ⟨W5 a.n h.n,fun c d=>by
  rw[h.same c (z5z d a.n) (fun e=>by have:=(f.blk e).1;omega),a.same c d]⟩
def J6 {P:Program}{L:TypeId}{Z:St}{t size a lo:Nat}{v:Value}{D0:List (List Value)}{row cells:List Value}{c o z:Nat}{sp:Option Nat}{Q:Value×St->Prop}{M:Hd Q}
  (l:∀ (b:Option Addr) (len cap:Nat) (w:Value),CO P Z t (.slice b len cap) w=ob (AJ Z size w) fun p=>pr p fun n new=>bi (Nat.ble (len+n) cap) (CU Z size b len cap n new) (bb (Nat.ble ((len+n)*a) room) (BP L Z size b len n new)))
  (I:OL lo Z size v D0) (m:Z.row c=some cells) (F:sub cells o size=some row) (e:(D0.length+1)*a<=4294967296) (g:lo<=Z.n)
  (h:∀ v' Z',OL lo Z' size v' (D0++[row])->App Z Z' v v'->v'≠ .slice none 0 0->Q (v',Z')):Ev (CO P Z t v (.slice (some ⟨c,o,sp⟩) 1 z)) Q M:=by
 have G:row.length=size:=by
  obtain⟨H,A⟩:=sub_eq F;subst A;rw[KW,HW];omega
 have f:(D0++[row]).flatten=D0.flatten++row:=sI;obtain⟨E,J⟩:=I;have i:∀ r∈D0++[row],r.length=size:=by
  intro r j;rcases An.1 j with j|j
  ·exact E r j
  ·rw[Cb]at j;subst j;exact G
 have y:AJ Z size (.slice (some ⟨c,o,sp⟩) 1 z)=some (1,row):=by
  rw[KC,AB,m,F8,SW,F,F8]
 have u:Nat.ble ((D0.length+1)*a) room=true:=Fi e;rcases J with⟨rfl,rfl⟩|⟨b,K,rfl,s,H,A,B⟩
 ·rw[l,y,F8,Jb,Jd om,j7];rw[show Nat.ble ((0+1)*a) room=true from u,V0,VV,M0];refine h _ _ ⟨i,.inr ⟨Z.n,some size,rfl,.inr rfl,g,by simp,?_⟩⟩ ⟨by simp,fun c m _=>by rw[N8,z0z om],fun b e=>by cases e;simp⟩ (by simp);rw[f,K2 nL nL];rfl
 ·have C:=C1 B;have D:=Cn D0 E;have d:sub D0.flatten 0 (D0.length*size)=some D0.flatten:=G3 om om;rw[l,y,F8,Jb,Jd om,j7,u,V0];rcases s with rfl|rfl
  ·rw[Me,AB,C,F8,d,F8,M0];refine h _ _ ⟨i,.inr ⟨Z.n,some size,by simp,.inr rfl,g,by simp,?_⟩⟩ ⟨by simp,fun c m _=>by rw[N8,z0z om],fun b e=>by cases e;simp⟩ (by simp);rw[f,K2 nL nL]
  ·rw[VW,AB,C,F8,d,F8,PU,B,F8,F8,M0];refine h _ _ ⟨i,.inr ⟨Z.n,some size,by simp,.inr rfl,g,by simp,?_⟩⟩ ⟨by simp,fun c m q=>?_,fun b e=>by cases e;simp⟩ (by simp)
   ·rw[f,K2 (by simp) (by simp)]
   ·rw[N8,z0z (by rw[Nw];omega),FX,z0z (fun h=>q (by rw[h];rfl))]
def Kn (lo:Nat) (Z:St) (v:Value) (l:List (List UInt8)):Prop:=OL lo Z 1 v (l.map fun s=>[str s])
def TB {P:Program}{y:TypeId}{Z:St}{t a lo:Nat}{v:Value}{l:List (List UInt8)}{s:List UInt8}{cells:List Value}{c o f:Nat}{sp:Option Nat}{Q:Value×St->Prop}{z:Hd Q}
  (d:∀ (b:Option Addr) (len cap:Nat) (w:Value),CO P Z t (.slice b len cap) w=ob (AJ Z 1 w) fun p=>pr p fun n new=>bi (Nat.ble (len+n) cap) (CU Z 1 b len cap n new) (bb (Nat.ble ((len+n)*a) room) (BP y Z 1 b len n new)))
  (r:Kn lo Z v l) (q:Z.row c=some cells) (u:sub cells o 1=some [str s]) (m:(l.length+1)*a<=4294967296) (e:lo<=Z.n)
  (h:∀ v' Z',Kn lo Z' v' (l++[s])->App Z Z' v v'->v'≠ .slice none 0 0->Q (v',Z')):Ev (CO P Z t v (.slice (some ⟨c,o,sp⟩) 1 f)) Q z:=by
 refine J6 d r q u (by rw[z2z];exact m) e fun v' Z' g i j=>h v' Z' ?_ i j;show OL lo Z' 1 v' ((l++[s]).map fun s=>[str s]);rw[Ah];exact g
def HL.shape {l:List (List UInt8)}(h:HL Z v l):∃ a c,v= .slice a l.length c:=by
 obtain⟨a,c,b,off,cells,d,-,-⟩:=h.use;exact⟨a,c,d⟩
end
end Go.Ab
namespace Go.Ab
open Go
def CP (J:Nat->Fr->St->Prop) (R:Res->Prop) (k:Nat) (r:Res):Prop:=match r.o with
 | .normal=>J (k+1) r.fr r.Z
 |_=>R r
section
variable {P:Program}{H:EP}{rd:Option Nat}{fr:Fr}{Z:St}
def lG {J:Nat->Fr->St->Prop}{R:Res->Prop}{k:Nat}:CP J R k ⟨.normal,fr,Z⟩=J (k+1) fr Z:=rfl
def xk {J:Nat->Fr->St->Prop}{R:Res->Prop}{k i:Nat}:CP J R k ⟨.exit i,fr,Z⟩=R ⟨.exit i,fr,Z⟩:=rfl
def AP7 {J:Nat->Fr->St->Prop}{R:Res->Prop}{k:Nat}:CP J R k ⟨.ret,fr,Z⟩=R ⟨.ret,fr,Z⟩:=rfl
def I9 {body:Code}{Q:Res->Prop}{u:Hd Q}(n:Nat) (J:Nat->Fr->St->Prop) (R:Res->Prop) (d:J 0 fr Z)
  (f:∀ k fr Z,k<n->J k fr Z->Ev (lim P H rd body fr Z) (CP J R k) ⟨⟩) (g:∀ fr Z,J n fr Z->Ev (lim P H rd body fr Z) (CP (fun _ _ _=>False) R n) ⟨⟩) (e:∀ r,R r->Q r) :
  Ev (lim P H rd (.loop body) fr Z) Q u:=by
 refine BE (fun j fr Z=>∃ k,j+k=n/\J k fr Z) R n ⟨0,om,d⟩ ?_ e;rintro j fr Z ⟨k,l,c⟩;by_cases h:k<n
 ·refine(f k fr Z h c).mono ?_;rintro⟨o,b,Z'⟩ a;cases o with
  |normal=>exact⟨n-(k+1),om,k+1,om,a⟩
  |exit i=>exact a
  |ret=>exact a
  |pan v=>exact a
 ·obtain rfl:k=n:=om;refine(g fr Z c).mono ?_;rintro⟨o,b,Z'⟩ a;cases o with
  |normal=>exact a.elim
  |exit i=>exact a
  |ret=>exact a
  |pan v=>exact a
end
def M3 {a b:Nat}(h:a<b):decide (a<b)=true:=by simpa using h
def HD {a:Nat}:decide (a<a)=false:=sI
end Go.Ab
namespace Go.Ab
open Go
def fO {P:Program}{A:TypeId}{Z0 Z' a:St}{t c lo m:Nat}{v:Value}{l:List (List UInt8)}{s:List UInt8}{sp:Option Nat}{Q:Value×St->Prop}{B:Hd Q}
  (g:∀ (b:Option Addr) (len cap:Nat) (w:Value),CO P (a.new [str s]) t (.slice b len cap) w=ob (AJ (a.new [str s]) 1 w) fun p=>pr p fun n new=>bi (Nat.ble (len+n) cap) (CU (a.new [str s]) 1 b len cap n new) (bb (Nat.ble ((len+n)*c) room) (BP A (a.new [str s]) 1 b len n new)))
  (y:Kn lo Z' v l) (f:Ext Z0 Z') (j:Ext Z' a) (o:Z0.n<=lo) (z:lo<=Z'.n) (u:(l.length+1)*c<=4294967296)
  (h:∀ v' Z3,Kn lo Z3 v' (l++[s])->Ext Z0 Z3->lo<=Z3.n->v'≠ .slice none 0 0->Q (v',Z3)):Ev (CO P (a.new [str s]) t v (.slice (some ⟨a.n,0,sp⟩) 1 m)) Q B:=by
 have d:Ext Z' (a.new [str s]):=j.trans (.new _ _);have e:Kn lo (a.new [str s]) v l:=OL.ext y d;have C:=j.n;refine TB g e (G6 nL nL) rfl u (by simp;omega) fun v' Z3 q i r=>h v' Z3 q (i.ext (f.trans d) e o) (by have:=i.n;simp at this;omega) r
end Go.Ab
namespace Go.Ab
open Go
def cS {P:Program}{N:TypeId}{Z:St}{t size a lo:Nat}{v:Value}{D0 rows2:List (List Value)}{cells:List Value}{c o C m:Nat}{sp:Option Nat}{Q:Value×St->Prop}{O:Hd Q}
  (q:∀ (b:Option Addr) (len cap:Nat) (w:Value),CO P Z t (.slice b len cap) w=ob (AJ Z size w) fun p=>pr p fun n new=>bi (Nat.ble (len+n) cap) (CU Z size b len cap n new) (bb (Nat.ble ((len+n)*a) room) (BP N Z size b len n new)))
  (I:OL lo Z size v D0) (j:rows2.length=m) (J:0<m) (y:∀ r∈rows2,r.length=size) (s:Z.row c=some cells) (K:sub cells o (m*size)=some rows2.flatten) (e:(D0.length+m)*a<=4294967296) (i:lo<=Z.n)
  (h:∀ v' Z',OL lo Z' size v' (D0++rows2)->App Z Z' v v'->v'≠ .slice none 0 0->Q (v',Z')):Ev (CO P Z t v (.slice (some ⟨c,o,sp⟩) m C)) Q O:=by
 have f:(D0++rows2).flatten=D0.flatten++rows2.flatten:=sI;have g:(D0++rows2).length=D0.length+m:=by simp[j]
 obtain⟨G,L⟩:=I;have l:∀ r∈D0++rows2,r.length=size:=by
  intro r j;rcases An.1 j with j|j
  ·exact G r j
  ·exact y r j
 have B:AJ Z size (.slice (some ⟨c,o,sp⟩) m C)=some (m,rows2.flatten):=by
  rw[KC,AB,s,F8,K,F8]
 have A:Nat.ble ((D0.length+m)*a) room=true:=Fi e;rcases L with⟨rfl,rfl⟩|⟨b,M,rfl,z,R,S,D⟩
 ·rw[q,B,F8,Jb,Jd om,j7];rw[show Nat.ble ((0+m)*a) room=true from A,V0,VV,M0];refine h _ _ ⟨l,.inr ⟨Z.n,some size,by rw[g];simp,.inr rfl,i,by simp,?_⟩⟩ ⟨by simp,fun c s _=>by rw[N8,z0z om],fun b e=>by cases e;simp⟩ (by simp);rw[f,K2 nL nL];rfl
 ·have E:=C1 D;have F:=Cn D0 G;have d:sub D0.flatten 0 (D0.length*size)=some D0.flatten:=G3 om om;rw[q,B,F8,Jb,Jd om,j7,A,V0];rcases z with rfl|rfl
  ·rw[Me,AB,E,F8,d,F8,M0];refine h _ _ ⟨l,.inr ⟨Z.n,some size,by rw[g],.inr rfl,i,by simp,?_⟩⟩ ⟨by simp,fun c s _=>by rw[N8,z0z om],fun b e=>by cases e;simp⟩ (by simp);rw[f,K2 nL nL]
  ·rw[VW,AB,E,F8,d,F8,PU,D,F8,F8,M0];refine h _ _ ⟨l,.inr ⟨Z.n,some size,by rw[g];rfl,.inr rfl,i,by simp,?_⟩⟩ ⟨by simp,fun c s u=>?_,fun b e=>by cases e;simp⟩ (by simp)
   ·rw[f,K2 (by simp) (by simp)]
   ·rw[N8,z0z (by rw[Nw];omega),FX,z0z (fun h=>u (by rw[h];rfl))]
end Go.Ab
namespace Go.Ab
open Go
end Go.Ab
namespace Go.Ab
open Go
def asx {a b:St}(c:Ext a b):∀ (bs:List Nat) (i j:Nat) (r:BA) (ds:List Trace),M7 bs i r (.eff j a b::ds)=M7 bs i r ds:=fun bs i j r ds=>Je (c.same r.b)
def asR {b:St}:=@asx b b (Ext.refl b)
end Go.Ab
namespace Go.Ab
open Go
def App.far {Z Z':St}{v v':Value}{b:Nat}(h:App Z Z' v v') (c:b<Z.n):K3 v'≠some b:=fun a=>by have:=(h.new b a).1;omega
end Go.Ab
namespace Go.Ab
open Go
def xj {n:Nat}:WK (.func n)=true:=rfl
end Go.Ab
namespace Go.Ab
open Go
section
variable {P:Program}{A9:Env}{G:Nat}
noncomputable def nrm {a:Type}(r:Res) (f:Fr->St->Option a):Option a:=Res.rec (motive:=fun _=>Option a) (fun o fr Z=>yA o (f fr Z)) r
def Vw {a:Type}{r:Res}{f:Fr->St->Option a}{x:a}(h:nrm r f=some x):∃ fr Z,r=⟨.normal,fr,Z⟩/\f fr Z=some x:=by
 obtain⟨o,fr,Z⟩:=r;cases o with
 |normal=>exact⟨fr,Z,rfl,h⟩
 |exit i=>cases h
 |ret=>cases h
 |pan v=>cases h
def P3.nrm {a:Type}(r:Res){f:RunT->Fr->St->Option a}(h:∀ fr Z,P3 fun run=>f run fr Z):P3 fun run=>Ab.nrm r (f run):=by
 obtain⟨o,fr,Z⟩:=r;cases o with
 |normal=>exact h fr Z
 |exit i=>exact .const none
 |ret=>exact .const none
 |pan v=>exact .const none
def deferred (a:Act) (d k:Nat) (x:Value):Act:={ tmps:=a.tmps.setIfInBounds d (.func (.func k) #[] #[x]),defers:={ target:= .fn (.func k) #[x],args:=#[] }::a.defers }
end
section
variable {Z Z':St}{O:Place}{w:World}{v a a' v' x:Value}
section
variable {P:Program}{A9:Env}{G:Nat}
noncomputable def nrp {b:Type}(r:Res) (f:Fr->St->Option b) (g:Value->Fr->St->Option b):Option b :=
 Res.rec (motive:=fun _=>Option b) (fun o fr Z=>Out.rec (motive:=fun _=>Option b) (f fr Z) (fun _=>none) none (fun v=>g v fr Z) o) r
def P3.nrp {b:Type}(r:Res){f:RunT->Fr->St->Option b}{g:RunT->Value->Fr->St->Option b}(h:∀ fr Z,P3 fun run=>f run fr Z) (k:∀ v fr Z,P3 fun run=>g run v fr Z):P3 fun run=>Ab.nrp r (f run) (g run):=by
 obtain⟨o,fr,Z⟩:=r;cases o with
 |normal=>exact h fr Z
 |exit i=>exact .const none
 |ret=>exact .const none
 |pan v=>exact k v fr Z
noncomputable def VH (T:TypeId) (v:Value):Option Value:=match v with
 | .iface t v=>bb (Nat.beq t T) (some v)
 |_=>none
noncomputable def Mg (P:Program) (ty:TypeId) (x v:Value) (Z:St):Option St :=
 ob (Ad P ty) fun z=>ob (Ld P (Z.new (M6 z) (some ty)) ty (ptrTo Z.n) v) fun b=>ob (Od P b ty (ptrTo Z.n)) fun u=>Ld P b ty x u
noncomputable def Jf (P:Program) (e c2 c3:Code) (d cap:Nat) (T ty:TypeId) (c:List ResultVar) (run:RunT) (vs:List Value) (Z:St):Option CR :=
 ob (run none e (Fq vs 0 .nil) Z) fun r=>nrm r fun b Z=>bb (b.get d).isNone (ob (b.get cap) fun x=>ob (run none c2 b Z) fun r=>
  nrp r (fun fr Z=>ob (run none c3 fr Z) fun r=>nrm r fun fr Z=>ob (IX P fr Z c) fun us=>some ⟨false,tup us,Z⟩)
   (fun v fr Z=>ob (VH T v) fun v=>ob (Mg P ty x v Z) fun Z=>ob (IX P fr Z c) fun us=>some ⟨false,tup us,Z⟩))
def TA (b c2 c3:Code) (d cap:Nat) (T ty:TypeId) (c:List ResultVar) (vs:List Value) (Z:St):P3 fun run=>Jf P b c2 c3 d cap T ty c run vs Z :=
 P3.ob (.run _ _ _ _) fun r=>P3.nrm r fun fr Z=>P3.bb _ (P3.ob (.const _) fun x=>P3.ob (.run _ _ _ _) fun r=>P3.nrp r (fun fr Z=>P3.ob (.run _ _ _ _) fun r=>P3.nrm r fun fr Z=> .const _) (fun v fr Z=> .const _))
noncomputable def oc (P:Program) (b c2 c3:Code) (d cap:Nat) (T ty:TypeId) (c:List ResultVar):oZ:=⟨Jf P b c2 c3 d cap T ty c,TA b c2 c3 d cap T ty c⟩
def Rm {t:TypeId}(e:Rel A9 O Z w) (f:J5 O a a') (j:J5 O v v') (h:Ld P Z t a v=some Z'):
  ∃ w',(Instr.storeAt t a' v').run P w= .ok () w'/\Rel A9 O Z' w'/\AS O Z w O Z' w':=by
 obtain⟨⟨b,off⟩,d,l⟩:=A8 h;obtain⟨n,h5,k5⟩:=A8 (show ob (size? P t) _=some Z' from l);obtain⟨ht,k6⟩:=MM k5;obtain⟨h6,h7⟩:=J4 k6;have i:=Ac h6;obtain⟨q,hq,hx⟩:=Lk f d;obtain⟨c1,c2⟩:=j.cells ht;obtain⟨w1,w2,w3⟩:=e.write hq h7 c1 c2;refine⟨_,?_,w2,w3⟩;have g:=c1.length;have c:v'.cells.size=n:=by rw[<- Pq,<- g,i]
 simp only[hx,Instr.storeAt,Instr.sureAddr,Sem.run_bind,Sem.run_pure,Result.andThen_ok,storeVar,Bh h5,ne_eq];rw[z0z (by simp[c])];rw[w1 P]
def lK {t:TypeId}{u:Value}(e:Rel A9 O Z w) (m:J5 O a a') (h:Od P Z t a=some u):
  ∃ u',(Instr.loadAt t a').run P w= .ok u' w/\J5 O u u':=by
 obtain⟨⟨b,off⟩,i,o⟩:=A8 h;obtain⟨q,hq,hx⟩:=Lk m i;obtain⟨g,h5,h6⟩:=A8 (show ob (Lu P t) _=some u from o);have f:=Vv h5 w;cases g with
 | true=>
   obtain⟨n,j,l⟩:=A8 (show ob (size? P t) _=some u from h6);obtain⟨cs,d,c⟩:=A8 l;cases c;obtain⟨B,hB,Gb⟩:=W2 d;obtain⟨vs,k1,k2,k3⟩:=(e.row b q B hq hB).read (P:=P) Gb;refine⟨.agg vs.toArray,?_,.agg k3 k2⟩;simp only[hx,Instr.loadAt,Instr.sureAddr,Sem.run_bind,Sem.run_pure,Result.andThen_ok,loadVar,f,FU,Bh j,k1]
 | false=>
   obtain⟨cs,d,c⟩:=A8 (show ob (Z.read b off 1) KX=some u from h6);obtain⟨B,hB,Gb⟩:=W2 d;obtain⟨v',k1,k2⟩:=((e.row b q B hq hB).seg Gb).1.one (P:=P) c;refine⟨v',?_,k2⟩;simp only[hx,Instr.loadAt,Instr.sureAddr,Sem.run_bind,Sem.run_pure,Result.andThen_ok,loadVar,f,JM,HZ,k1]
structure Nk (P:Program) (ty:TypeId) (x v:Value) (w w':World):Prop where
 run:∃ w1 w2 u,(Instr.alloc ty true (.tuple #[])).run P w= .ok (.pointer (some ⟨w.heap.size,0,none⟩)) w1/\(Instr.storeAt ty (.pointer (some ⟨w.heap.size,0,none⟩)) v).run P w1= .ok () w2 /\
  (Instr.loadAt ty (.pointer (some ⟨w.heap.size,0,none⟩))).run P w2= .ok u w2/\(Instr.storeAt ty x u).run P w2= .ok () w'
def Oi {ty:TypeId}(h:Mg P ty x v Z=some Z'):Adv Z Z':=by
 obtain⟨z,b,h⟩:=A8 h;obtain⟨Z2,h2,h⟩:=A8 h;obtain⟨u,h3,h⟩:=A8 h;exact((Adv.new _ _ _).trans (Gg h2)).trans (Gg h)
def ZC {ty:TypeId}{m:Value}(r:Rel A9 O Z w) (j:O Z.n=none) (f:J5 O x m) (s:J5 O v v') (h:Mg P ty x v Z=some Z'):
  ∃ w' O',Nk P ty m v' w w'/\Rel A9 O' Z' w'/\AS O Z w O' Z' w'/\O.le O':=by
 obtain⟨z,i,h⟩:=A8 h;obtain⟨Z2,h2,h⟩:=A8 h;obtain⟨u,h3,h⟩:=A8 h;obtain⟨hz,_,_⟩:=EN (O:=O) i w;obtain⟨zc1,zc2,zc3⟩:=Dm (O:=O) i;have d:(Instr.alloc ty true (.tuple #[])).run P w= .ok (.pointer (some ⟨w.heap.size,0,none⟩)) { w with heap:=w.heap.push (.cells z.cells ty) }:=by
  simp only[Instr.alloc,Sem.run_bind,hz,Result.andThen_ok,newVar,newRow,run_newObj,Sem.run_pure]
 have b:=Place.JS ⟨w.heap.size,0,z.cells.size⟩ j
 obtain⟨q,g2⟩:=r.new (t:=some ty) (w':={ w with heap:=w.heap.push (.cells z.cells ty) }) j (cs:=M6 z) (arr:=z.cells) (e:=ty) (lo:=0) (hi:=0)
  (by simp) (by simp) (fun c A=>by simp[Array.getElem?_push];intro h;omega) ⟨rfl,rfl,rfl⟩ (.inr nL) zc3 ⟨z.cells.toList,[],by simp,zc2⟩ (fun x f=>by cases f;rfl)
 have l:J5 (O.put Z.n ⟨w.heap.size,0,z.cells.size⟩) (ptrTo Z.n) (.pointer (some ⟨w.heap.size,0,none⟩)):=NX _ _ (Place.S9 _ _ _);obtain⟨y,o,g,p⟩:=Rm q l (s.mono b) h2;obtain⟨u',e4,e5⟩:=lK g l h3;obtain⟨w3,e6,e7,e8⟩:=Rm g (f.mono b) e5 h;exact⟨w3,_,⟨_,y,u',d,o,e4,e6⟩,e7,(g2.trans p).trans e8,b⟩
def bB {g d k cap:Nat}{T ty:TypeId}{b:Func}{I c1 c2 c3:Code}(hf:P.funcs[g]? =some b) (hn:(b.name== "runtime.NumGoroutine")=false) (hb:b.body=some (.seq I (.seq c1 (.seq c2 (.seq c3 .ret)))))
  (h1:∀ (Q:Exit->Act->World->Prop) (a:Act) (w:World) (x:Value),b.ntmps<=a.tmps.size->a.tmps[cap]? =some x->Q .normal (deferred a d k x) w->c1.wpIn Fence.wide 0 P Q a w)
  (p:∀ (x:Value) (w:World),(invoke (.fn (.func k) #[x]) #[]).run P w= .ok (.enter k #[x]) w)
  (hk:∀ (x:Value) (w:World),CallsDIn Fence.wide 0 P k #[x] .returning w fun e u' w'=>(∃ v,e= .returned v)/\u'= .returning/\w'=w)
  (hp:∀ (x v:Value) (w w':World),Nk P ty x v w w'->CallsDIn Fence.wide 0 P k #[x] (.panicking [{ v:= .iface T v,recovered:=false }]) w fun e u' w''=>(∃ v,e= .returned v)/\settle u'= .returning/\w''=w')
  (Y:codeOk P b.ntmps G I=true) (a0:codeOk P b.ntmps G c2=true) (a1:codeOk P b.ntmps G c3=true)
  {run:RunT} (C:QD P A9 G run) {vs:List Value}{Z:St}{r:CR} (h:Jf P I c2 c3 d cap T ty b.results.toList run vs Z=some r) :
  Adv Z r.Z/\∀ O w vs' N,Rel A9 O Z w->Cz O Z.n N->r.Z.n<=N->CL O G->H8 O vs vs'->CM P A9 O g vs' Z w r:=by
 obtain⟨r0,e0,h⟩:=A8 h;obtain⟨fr0,Z0,rfl,h⟩:=Vw h;obtain⟨hd0,h⟩:=J4 h;obtain⟨xv,hxv,h⟩:=A8 h;obtain⟨r2,e2,h⟩:=A8 h;obtain⟨A0,B0⟩:=C none I _ Z _ e0;obtain⟨A2,B2⟩:=C none c2 _ Z0 _ e2;have K:Adv Z r.Z:=by
  obtain⟨o,B,j⟩:=r2;cases o with
  | normal=>
    obtain⟨r3,f,h⟩:=A8 h;obtain⟨fr3,Z3,rfl,h⟩:=Vw h;obtain⟨us,eu,h⟩:=A8 h;cases h;exact(A0.trans A2).trans (C none c3 _ j _ f).1
  | pan v=>
    obtain⟨v1,c,h⟩:=A8 h;obtain⟨Z3,f,h⟩:=A8 h;obtain⟨us,eu,h⟩:=A8 h;cases h;exact(A0.trans A2).trans (Oi f)
  |exit i=>cases h
  |ret=>cases h
 refine⟨K,fun O w vs' N hR m U S hv=>⟨b,hf,hn,.inl ⟨by rw[hb];rfl,(callsIn_wide (n:=0)).1 (callsIn_of_wp_marks hf hb trivial ?_)⟩⟩⟩;have hl:=hv.length;have l:r2.Z.n<=N:=by
  refine W5 ?_ U;obtain⟨o,B,j⟩:=r2;cases o with
  | normal=>
    obtain⟨r3,f,h⟩:=A8 h;obtain⟨fr3,Z3,rfl,h⟩:=Vw h;obtain⟨us,eu,h⟩:=A8 h;cases h;exact(C none c3 _ j _ f).1.n
  | pan v=>
    obtain⟨v1,c,h⟩:=A8 h;obtain⟨Z3,f,h⟩:=A8 h;obtain⟨us,eu,h⟩:=A8 h;cases h;exact(Oi f).n
  |exit i=>cases h
  |ret=>cases h
 have q:Z0.n<=N:=W5 A2.n l;refine wpIn_seq ?_;refine B0 b.ntmps Y w.heap.size [] O _ w N none nL hR m q ?_ ?_ (.nil _ _ _) S rfl _ fun e a' w' O' q0 q1 q2 q3 q4 q5=>?_
 ·intro t u D;rw[Wx]at D;by_cases ht:0<=t/\t<0+vs.length
  ·rw[z1z ht]at D;obtain⟨u',k1,k2⟩:=hv.get D;refine⟨u',?_,k2⟩;show((⟨vs'⟩:Array Value)++Array.replicate _ undef)[t]? =some u';rw[Array.getElem?_append_left (by simp;omega)]
   simpa using k1
  ·rw[z0z ht]at D;cases D
 ·show b.ntmps<=((⟨vs'⟩:Array Value)++Array.replicate (b.ntmps-(⟨vs'⟩:Array Value).size) undef).size;rw[Wm,eH];omega
 cases(show e= .normal from q0);have s:b.ntmps<=a'.tmps.size:=by
  rw[q4];show b.ntmps<=((⟨vs'⟩:Array Value)++Array.replicate (b.ntmps-(⟨vs'⟩:Array Value).size) undef).size;rw[Wm,eH];omega
 obtain⟨x,hx,a6⟩:=q3 cap xv hxv;show(Code.seq c1 _).wpIn _ _ _ _ _ _;refine wpIn_seq (h1 _ a' w' x s hx ?_);show(Code.seq c2 _).wpIn _ _ _ _ _ _;refine wpIn_seq ?_;have a4:HP O' fr0 (deferred a' d k x):=by
  intro t v ht;obtain⟨v',k1,k2⟩:=q3 t v ht;refine⟨v',?_,k2⟩;show(a'.tmps.setIfInBounds d _)[t]? =some v';rw[Array.getElem?_setIfInBounds,z0z (fun he=>by subst he;rw[ht]at hd0;cases hd0)];exact k1
 refine B2 b.ntmps a0 w'.heap.size (deferred a' d k x).defers O' _ w' N none nL q1 (q2.free m) l a4 (by show b.ntmps<=(a'.tmps.setIfInBounds d _).size;rw[AD6];exact s) (.nil _ _ _) (S.mono (q2.le m q)) rfl _ fun e F J A p0 p1 y p3 p4 p5=>?_;obtain⟨o,B,j⟩:=r2;cases o with
 |exit i=>cases h
 |ret=>cases h
 | normal=>
   obtain⟨r3,f,h⟩:=A8 h;obtain⟨fr3,Z3,rfl,h⟩:=Vw h;obtain⟨us,eu,h⟩:=A8 h;cases h;obtain⟨A3,B3⟩:=C none c3 _ j _ f;have V:Z3.n<=N:=U;cases(show e= .normal from p0);show(Code.seq c3 _).wpIn _ _ _ _ _ _;refine wpIn_seq ?_;have R:Cz A j.n N:=y.free (q2.free m);refine B3 b.ntmps a1 w'.heap.size (deferred a' d k x).defers A _ J N none y.size p1 R V p3 (by rw[p4];show b.ntmps<=(a'.tmps.setIfInBounds d _).size;rw[AD6];exact s) p5 ((S.mono (q2.le m q)).mono (y.le (q2.free m) l)) rfl _ fun e H w3 E s0 s1 s2 s3 s4 s5=>?_;cases(show e= .normal from s0);refine wpIn_ret ?_;have FF:AS O Z w E Z3 w3:=(q2.trans y).trans s2;show LeavesInM Fence.wide 0 P b H.tmps _ H.defers .returning w3;rw[show H.defers=_ from s5];refine⟨by simp,.inr ⟨(fun hh=>absurd hh (by decide)),_,_,k,#[x],rfl,p x w3,fun _ _=>trivial,?_⟩⟩;refine(hk x w3).mono ?_;rintro e u' w5 ⟨⟨v,rfl⟩,rfl,rfl⟩;show LeavesInM Fence.wide 0 P b H.tmps _ a'.defers .returning _;rw[show a'.defers=[]from q5];obtain⟨v',z1,z2⟩:=HO (P:=P) s1 s3 eu;exact⟨v',z1,v',E,rfl,s1,FF,z2⟩
 | pan v=>
   obtain⟨v1,c,h⟩:=A8 h;obtain⟨Z3,f,h⟩:=A8 h;obtain⟨us,eu,h⟩:=A8 h;cases h;obtain⟨v',hev,hvr⟩:∃ v',e=bS v'/\J5 A v v':=p0;subst hev;obtain⟨rfl⟩:v= .iface T v1:=by
    unfold VH at c;split at c
    ·obtain⟨W,X⟩:=J4 c;cases X;rw[Ac W]
    ·cases c
   obtain⟨v2,rfl,a5⟩:∃ v2,v'= .iface T v2/\J5 A v1 v2:=by
    cases hvr with
    |J8 hs=>simp[J8]at hs
    |iface h=>exact⟨_,rfl,h⟩
   show LeavesInM Fence.wide 0 P b F.tmps _ F.defers (.panicking [{ v:= .iface T v2,recovered:=false }]) J;rw[show F.defers=_ from p5];have L:J5 A xv x:=a6.mono (y.le (q2.free m) l);have M:A j.n=none:=y.free (q2.free m) j.n nL (by
    have:j.n+1<=Z3.n:=by
     obtain⟨z,h1,h⟩:=A8 f;obtain⟨Z4,h2,h⟩:=A8 h;obtain⟨u,h3,h⟩:=A8 h;exact W5 (Gg h2).n (Gg h).n
    have a7:Z3.n<=N:=U;omega)
   obtain⟨w5,E,y1,y2,y3,y4⟩:=ZC p1 M L a5 f;refine⟨by simp,.inr ⟨(fun hh=>absurd hh (by decide)),_,_,k,#[x],rfl,p x J,fun _ _=>trivial,?_⟩⟩;refine(hp x v2 J w5 y1).mono ?_;rintro e u' w6 ⟨⟨v,rfl⟩,KQ,rfl⟩;show LeavesInM Fence.wide 0 P b F.tmps _ a'.defers (settle u') w6;rw[KQ,show a'.defers=[]from q5];obtain⟨v',z1,z2⟩:=HO (P:=P) y2 (p3.mono y4) eu;exact⟨v',z1,v',E,rfl,y2,(q2.trans y).trans y3,z2⟩
end
end
section
variable {P:Program}{A9:Env}{G:Nat}{O:Place}{Z:St}{w w':World}
def Rel.below (a:Rel A9 O Z w) (d:Go.RowKit.Below w.heap.size w w'):Rel A9 O Z w'/\AS O Z w O Z w':=by
 have e:=d.size
 refine⟨⟨a.fresh,fun b q B f g=>(a.KV b q B f g).mono (Place.le_refl _) (d.block q.c (a.dom b q f)),fun b q f=>z5z (a.dom b q f) e,a.own,a.sep,a.low.next e fun c i=>d.block c (z5z i a.low.1)⟩,
  ⟨fun _ _=>rfl,AP _,e,fun c i _=>d.block c i,fun b q B f g _=>⟨b,q,B,f,rfl,g,fun h=>h⟩,⟨d.os,d.tape,d.output⟩,fun _ _ _=>rfl⟩⟩
def Mw {g:Nat}{a:Func}(j:P.funcs[g]? =some a) (l:(a.name== "runtime.NumGoroutine")=false) (b:a.body.isSome=true){vs':List Value}{v v':Value}(f:Rel A9 O Z w)
  (i:Calls P g ⟨vs'⟩ w fun e w'=>e= .returned v'/\Go.RowKit.Below w.heap.size w w') (m:J5 O v v'):CM P A9 O g vs' Z w ⟨false,v,Z⟩:=by
 refine⟨a,j,l,.inl ⟨b,i.mono ?_⟩⟩;rintro e w' ⟨rfl,h⟩;obtain⟨c,d⟩:=f.below h;exact⟨v',O,rfl,c,d,m⟩
def KH {g:Nat}{a:Func}(i:P.funcs[g]? =some a) (j:(a.name== "runtime.NumGoroutine")=false) (b:a.body.isSome=true){vs':List Value}{v v':Value}{Z':St}{c:World}
  (h:Calls P g ⟨vs'⟩ w fun e w'=>e= .returned v'/\w'=c) (f:Rel A9 O Z' c) (d:AS O Z w O Z' c) (l:J5 O v v'):CM P A9 O g vs' Z w ⟨false,v,Z'⟩:=by
 refine⟨a,i,j,.inl ⟨b,h.mono ?_⟩⟩;rintro e w' ⟨rfl,rfl⟩;exact⟨v',O,rfl,f,d,l⟩
def Rel.AM7 (p:Rel A9 O Z w){b:Nat}{q:CJ}(m:O b=some q){Z':St}(y:Z.kill b=some Z') (u:w'.heap.size=w.heap.size) (d:∀ c,c≠q.c->w'.heap[c]? =w.heap[c]?) (A:Outside w w') :
  Rel A9 O Z' w'/\AS O Z w O Z' w':=by
 obtain⟨f,g⟩:=p.kill ⟨q,m⟩ y;obtain⟨B,hr1,hO,v⟩:=Gc y;have o:=(j0 hr1).1;have i:∀ a B',Z'.blk a=some B'->a≠b/\Z.blk a=some B':=by
  intro a B' h;subst v;by_cases e:a=b
  ·subst e;rw[FL]at h;cases h
  ·exact⟨e,by rw[CK _ _ e]at h;exact h⟩
 refine⟨⟨f.fresh,fun a j B' l g2=>?_,fun a j l=>by rw[u];exact f.dom a j l,f.own,f.sep,f.low.next (by rw[u];exact AP _) fun c z=>d c fun v=>by have:=p.own b q B m o hO;omega⟩,⟨g.ext,g.n,by rw[u];exact g.size,fun c z s=>?_,g.owned,A,g.same⟩⟩
 ·obtain⟨C,D⟩:=i a B' g2;exact(f.KV a j B' l g2).mono (Place.le_refl _) (d j.c (p.sep b q B a j m o hO C l (.inr ⟨B',D⟩)))
 ·refine d c fun r=>?_;have:=s b q B m r.symm o;rw[hO]at this;cases this
noncomputable def Rc (l:List Value):Option (List (List UInt8)) :=
 List.rec (motive:=fun _=>Option (List (List UInt8))) (some []) (fun v _ a=>ob (Jw v) fun s=>ob a fun r=>some (s::r)) l
noncomputable def UT (a:List UInt8) (l:List (List UInt8)):List UInt8:=List.rec (motive:=fun _=>List UInt8) [] (fun x _ b=>a++(x++b)) l
noncomputable def UU (l:List (List UInt8)) (a:List UInt8):List UInt8:=List.rec (motive:=fun _=>List UInt8) [] (fun x xs _=>x++UT a xs) l
def qV (a:List UInt8) (l:List (List UInt8)):UT a l=Lib.joinTail a l:=by
 induction l with
 |nil=>rfl
 | cons x l ih=>
   show a++(x++UT a l)=_;rw[ih];simp[Lib.joinTail]
def qW (l:List (List UInt8)) (a:List UInt8):UU l a=Lib.join l a:=by
 cases l with
 |nil=>rfl
 | cons x l=>
   show x++UT a l=_;rw[qV,Lib.join_cons]
def kJ:∀ {l:List Value}{r:List (List UInt8)},Rc l=some r->∃ xs:List ByteArray,l=xs.map Value.string/\r=xs.map (·.data.toList):=by
 intro l;induction l with
 |nil=>intro r h;cases h;exact⟨[],rfl,rfl⟩
 | cons v l ih=>
   intro r h;obtain⟨s,a,h⟩:=A8 (show ob (Jw v) (fun s=>ob (Rc l) fun r=>some (s::r))=some r from h);obtain⟨r',h2,h⟩:=A8 h;cases h;obtain⟨xs,rfl,rfl⟩:=ih h2;cases v with
   |string x=>cases a;exact⟨x::xs,rfl,rfl⟩
   |_=>cases a
noncomputable def gF (vs:List Value) (Z:St):Option CR:=match vs with
 | [.slice (some ⟨b,off,_⟩) n c,.string sep]=>bb (Nat.ble n c) (bb (Nat.ble n room) (ob (Z.read b off n) fun cs=>ob (Rc cs) fun l=>bb (Nat.ble (UU l sep.data.toList).length room) (some ⟨false,.string ⟨(UU l sep.data.toList).toArray⟩,Z⟩)))
 |_=>none
def cH:∀ {xs:List ByteArray}{vs:List Value},H8 O (xs.map Value.string) vs->vs=xs.map Value.string:=by
 intro xs;induction xs with
 |nil=>intro vs h;cases h;rfl
 | cons x xs ih=>
   intro vs h;cases h with
   |cons h a=>cases h;rw[ih a];rfl
def qX {g:Nat}{v:Func}(D:P.funcs[g]? =some v) (F:(v.name== "runtime.NumGoroutine")=false) (m:v.body.isSome=true)
  (S:∀ (bk o c:Nat) (xs:List ByteArray) (sep:ByteArray) (w:World),(∀ (j:Nat) x,xs[j]? =some x->w.cell? ⟨bk,o+j,none⟩=some (.string x))->bk<w.heap.size->xs.length<=140737488355328->xs.length<=c->(Lib.join (xs.map (·.data.toList)) sep.data.toList).length<=140737488355328 ->
    Calls P g #[.slice (some ⟨bk,o,none⟩) xs.length c,.string sep] w fun e w'=>e= .returned (.string ⟨(Lib.join (xs.map (·.data.toList)) sep.data.toList).toArray⟩)/\Go.RowKit.Below w.heap.size w w')
  (R:∀ (a:Option Addr) (c:Nat) (sep:ByteArray) (w:World),Calls P g #[.slice a 0 c,.string sep] w fun e w'=>e= .returned (.string ⟨#[]⟩)/\w'=w)
  {vs:List Value}{Z:St}{r:CR} (h:gF vs Z=some r):Adv Z r.Z/\∀ O w vs' N,Rel A9 O Z w->Cz O Z.n N->r.Z.n<=N->CL O G->H8 O vs vs'->CM P A9 O g vs' Z w r:=by
 unfold gF at h;split at h
 ·rename_i b off sp n c sep;obtain⟨Q,h⟩:=J4 h;obtain⟨g2,h⟩:=J4 h;obtain⟨cs,g3,h⟩:=A8 h;obtain⟨l,g4,h⟩:=A8 h;obtain⟨g5,h⟩:=J4 h;cases h;have A:=Cj Q;have M:=Cj g2;have C:=Cj g5;unfold room at M C;refine⟨.refl _,fun O w vs' N i hF hN hG s=>?_⟩;cases s with
  |cons W s=>
  cases s with
  |cons V s=>
  cases s;obtain⟨xs,rfl,rfl⟩:=kJ g4;obtain⟨B,hB,Gb⟩:=W2 g3;have d:=(sub_eq Gb).2 ▸ (by simp;have:=(sub_eq Gb).1;omega:((B.cells.drop off).take n).length=n);rw[z2z]at d;cases V;rename_i s' _;rw[qW]at C ⊢;have fin:∀ (q:CJ) (u:Nat),O b=some q->n<=u->CM P A9 O g [.slice (some ⟨q.c,q.o+off,none⟩) n u,.string sep] Z w ⟨false,.string ⟨(Lib.join (xs.map (·.data.toList)) sep.data.toList).toArray⟩,Z⟩:=by
   intro q u f y;obtain⟨vs,X,Y,k3⟩:=(i.row b q B f hB).read (P:=P) Gb;rw[cH Y]at X;have H:∀ (j:Nat) x,xs[j]? =some x->w.cell? ⟨q.c,q.o+off+j,none⟩=some (.string x):=by
    intro j x E;obtain⟨arr,e,lo,hi,I,a0,a2,a3,a4,J⟩:=i.row b q B f hB;obtain⟨s1,s2⟩:=sub_eq Gb;have p:(xs.map Value.string)[j]? =some (.string x):=by rw[List.getElem?_map,E];rfl
    have z:j<n:=by have:=(List.getElem?_eq_some_iff.1 E).1;omega
    rw[s2,List.getElem?_take_of_lt z,List.getElem?_drop]at p;obtain⟨v',K,L⟩:=J _ _ p;cases L;rw[IT I,show q.o+off+j=q.o+(off+j)from by omega];exact K
   subst d;exact Mw D F m i (S q.c (q.o+off) u xs sep w H (i.dom b q f) om y om) (.J8 rfl)
  cases W with
  |slice f=>exact fin _ _ f A
  |grow f U hm=>exact fin _ _ f (W5 A U)
  | Bq f=>
    obtain rfl:xs=[]:=aK.1 d;exact KH D F m (R _ _ _ w) i (.refl _ _ _) (.J8 rfl)
  |J8 hsc=>simp[J8]at hsc
 ·cases h
end
section
variable {P:Program}{A9:Env}{G:Nat}
def Zl (R:P.follows .mixedOrders=true) (J:∀ n c,A9.chk n c=codeOk P n G c) {H:EP} (Q:GK P H G P.funcs.toList 0=true) (M:∀ (lo:Nat) (w0:World),A9.lo<=lo->(∀ c,c<A9.lo->w0.heap[c]? =A9.w0.heap[c]?)->JU P { A9 with lo:=lo,w0:=w0 } G H) {Z0:St} (S:Z0.n=G) (U:∀ b B,Z0.blk b=some B->B.own=false)
  {g f:Nat}{v:Value}{r:St} (C:J8 v=true) (h:Dc P H (exec P H f) (.fn g) [] Z0=some ⟨false,v,r⟩) (Z:St) {O:Place}{w:World}{N:Nat} (d:Rel A9 O Z w) (L:CL O G)
  (z:Rel { A9 with lo:=w.heap.size,w0:=w } (fun b=>if b<G then O b else none) Z0 w):CM P A9 O g [] Z w ⟨false,v,Z⟩:=by
 obtain⟨_,i⟩:=Wz (A9:={ A9 with lo:=w.heap.size,w0:=w }) R J Q (M _ _ d.low.1 d.low.2) f _ _ _ _ h
 let O0:Place:=fun b=>if b<G then O b else none
 have y:CL O0 G:=by
  intro g F;obtain⟨m,h,i⟩:=L g F;exact⟨m,by show(if g<G then O g else none)=_;rw[z1z F];exact h,i⟩
 have u:Cz O0 Z0.n r.n:=fun b A _=>by show(if b<G then O b else none)=none;rw[z0z om]
 obtain⟨fn,V,W,X⟩:=i O0 w [] r.n z u nL y .nil;refine⟨fn,V,W,?_⟩;have E:∀ {p:Place}{v':Value},J5 p v v'->v'=v:=by
  intro p v' a;cases v with
  |bool b=>cases a;rfl
  |int k n=>cases a;rfl
  |string s=>cases a;rfl
  |_=>cases a<;>first|rfl|cases C
 rcases X with⟨D,I⟩|⟨v',D,I,k6,Y⟩
 ·refine .inl ⟨D,I.mono ?_⟩;rintro e w' ⟨v',p,rfl,q1,q2,q3⟩;have o:∀ c,c<w.heap.size->w'.heap[c]? =w.heap[c]? :=fun c j=>q2.I4 c j fun b q B A _ K=>U b B K;have a:=E q3;subst a
  refine⟨v',O,rfl,⟨d.fresh,fun b q B l i=>(d.KV b q B l i).mono (Place.le_refl _) (o _ (d.dom b q l)),fun b q A=>z5z (d.dom b q A) q2.size,d.own,d.sep,d.low.next q2.size fun c j=>o c (z5z j d.low.1)⟩,
   ⟨fun _ _=>rfl,AP _,q2.size,fun c j _=>o c j,fun b q B l i _=>⟨b,q,B,l,rfl,i,fun h=>h⟩,q2.out,fun _ _ _=>rfl⟩,.J8 C⟩
 ·have:=E Y;subst this;exact .inr ⟨v',D,rfl,rfl,.J8 C⟩
end
end Go.Ab
namespace Go.Ab.PG
open Go Go.Ab
section
variable {a:Addr}{Z Z':St}{w:World}{b n:Nat}{cs:List Value}
section
variable {P:Program}{W:World}{A9:Env}{G:Nat}{H:Type}{enc:TypeId×Value->H}
def Gm {α:Type}(R:α->List Value->Prop):List α->List (List Value)->Prop
 | [],[]=>True
 |a::l,b::k=>R a b/\Gm R l k
 |_,_=>False
def Ei (P:Program) (Z:St):Nat->TypeId->List Value->Prop
 |0,_,_=>False
 | f+1,t,cs=>match P.underlying t with
   |some .bool=>∃ b,cs=[.bool b]
   |some (.int k)=>∃ n,cs=[.int k n]/\(Lit.int k n).wf=true
   |some .string=>∃ s,cs=[.string s]/\s.size<=maxLen
   |some (.slice e)=>cs=[.slice none 0 0]\/∃ (b:Nat) (D0:List (List Value)) (cap:Nat),cs=[.slice (some ⟨b,0,none⟩) D0.length cap]/\D0.length<=cap/\cap<=maxLen/\b<Z.n/\Z.row b=some D0.flatten/\∀ r∈D0,r.length=P.cellsOf e/\Ei P Z f e r
   |some (.struct fs)=>∃ ps:List (List Value),cs=ps.flatten/\Gm (fun(fd:Field) p=>Ei P Z f fd.type p) fs.toList ps
   |some (.array n e)=>∃ ps:List (List Value),cs=ps.flatten/\ps.length=n/\∀ p∈ps,p.length=P.cellsOf e/\Ei P Z f e p
   |_=>False
def Vz (P:Program):List Field->Nat->Option Nat
 | [],o=>some o
 |f::fs,o=>if f.offset=o then Vz P fs (o+P.cellsOf f.type)else none
def Fz (P:Program):Nat->TypeId->Bool
 |0,_=>false
 | f+1,t=>match P.underlying t with
   |some .bool=>true
   |some (.int _)=>true
   |some .string=>true
   |some (.slice e)=>Nat.blt 0 (P.cellsOf e)&&Fz P f e
   |some (.struct fs)=>(Vz P fs.toList 0==some (P.cellsOf t))&&fs.toList.all fun fd=>Fz P f fd.type
   |some (.array n e)=>P.cellsOf t==n*P.cellsOf e&&Fz P f e
   |_=>false
structure Kp (Z Z':St):Prop where
 n:Z.n<=Z'.n
 row:∀ b cells,b<Z.n->Z.row b=some cells->Z'.row b=some cells
def Kp.refl (Z:St):Kp Z Z:=⟨AP _,fun _ _ _ h=>h⟩
def Kp.trans {c:St}(h:Kp Z Z') (k:Kp Z' c):Kp Z c:=⟨W5 h.n k.n,fun b cells d e=>k.row b cells (z5z d h.n) (h.row b cells d e)⟩
def Gm.mono {α:Type}{R S:α->List Value->Prop}(h:∀ a b,R a b->S a b):∀ {l:List α}{k:List (List Value)},Gm R l k->Gm S l k
 | [],[],_=>trivial
 |_::_,_::_,p=>⟨h _ _ p.1,p.2.mono h⟩
 | [],_::_,p=>p.elim
 |_::_,[],p=>p.elim
def Ei.mono (l:Kp Z Z'):∀ {f:Nat}{t:TypeId}{cs:List Value},Ei P Z f t cs->Ei P Z' f t cs:=by
 intro f;induction f with
 |zero=>intro t cs h;exact h
 | succ f ih=>
   intro t cs h;unfold Ei at h ⊢;split at h
   ·exact h
   ·exact h
   ·exact h
   ·rcases h with h|⟨b,D0,cap,c,d,e,i,q,j⟩
    ·exact .inl h
    ·exact .inr ⟨b,D0,cap,c,d,e,z5z i l.n,l.row _ _ i q,fun r o=>⟨(j r o).1,ih (j r o).2⟩⟩
   ·obtain⟨g,c,d⟩:=h;exact⟨g,c,d.mono fun _ _ h=>ih h⟩
   ·obtain⟨g,c,d,e⟩:=h;exact⟨g,c,d,fun p m=>⟨(e p m).1,ih (e p m).2⟩⟩
   ·exact h
structure Inv (A9:Env) (G:Nat) (W:World) (Z:St) (O:Place):Prop where
 rel:Rel A9 O Z W
 own:QF Z
 free:∀ b,Z.n<=b->O b=none
 Al3:CL O G
 nil:∃ b,b<Z.n/\Z.row b=some []/\∃ q,O b=some q
def H8.len {O:Place}{l l':List Value}(h:H8 O l l'):l.length=l'.length:=by
 induction l generalizing l' with
 |nil=>cases h;rfl
 |cons a l d=>cases h with|cons h c=>simp[d c]
def Inv.arg {Z:St}{O:Place}(h:Inv A9 G W Z O){c o:Nat}{cells:List Value}{arr:Array Value}{e:TypeId}{f:Nat×Nat}(g:W.heap[c]? =some (.cells arr e f)) (y:o+cells.length<=arr.size) (u:W.heap.size<=A9.lo)
  (r:∀ v∈cells,N2 v=true) (A:∀ (i:Nat) (v:Value),cells[i]? =some v->∃ v',arr[o+i]? =some v'/\J5 O v v') :
  Inv A9 G W (Z.arg cells) (O.put Z.n ⟨c,o,arr.size⟩)/\Kp Z (Z.arg cells)/\O.le (O.put Z.n ⟨c,o,arr.size⟩):=by
 have d:O.le (O.put Z.n ⟨c,o,arr.size⟩):=Place.JS _ (h.free _ nL);have s:c<W.heap.size:=by
  rcases AH c W.heap.size with h|h
  ·exact h
  ·rw[Array.getElem?_eq_none h]at g;cases g
 have j:Kp Z (Z.arg cells):=⟨by rw[Ue];omega,fun b cs B z=>by rw[Rr _ _ om];exact z⟩
 refine⟨⟨gZ h.rel h.own h.free g rfl y om r A,h.own.arg _,ZJ h.free,h.Al3.mono d,?_⟩,j,d⟩;obtain⟨b,l,m,q,p⟩:=h.nil;exact⟨b,z5z l j.n,j.row _ _ l m,q,d _ _ p⟩
def rj {f:Type}{sz:Nat}(o:0<sz):∀ {D0:List (List f)}{i:Nat}{v:f},(∀ r∈D0,r.length=sz)->D0.flatten[i]? =some v->∃ r,D0[i / sz]? =some r/\r[i % sz]? =some v:=by
 intro D0;induction D0 with
 |nil=>intro i v _ h;simp at h
 | cons r D0 ih=>
   intro i v e h;have l:=e r (by simp);by_cases hi:i<sz
   ·rw[Qp,List.getElem?_append_left om]at h;exact⟨r,by rw[rm hi];rfl,by rw[Pu hi];exact h⟩
   ·rw[Qp,List.getElem?_append_right om]at h;obtain⟨p,c,d⟩:=ih (fun r m=>e r (by simp[m])) h;rw[l]at c d;have g:i / sz=(i-sz) / sz+1:=by rw[Nat.div_eq_sub_div o om]
    have j:i % sz=(i-sz) % sz:=Nat.mod_eq_sub_mod om;exact⟨p,by rw[g,List.getElem?_cons_succ];exact c,by rw[j];exact d⟩
def KJ (h:w.cells? b a n=some cs):cs.length=n:=by
 unfold World.cells? at h;split at h
 ·simpa using mapM_some_length h
 ·cases h
def ZK {i:Nat}(h:w.cells? b a n=some cs) (hi:i<n):w.cell? (a.add i)=cs[i]? :=by
 unfold World.cells? at h;split at h
 ·exact mapM_some_get h i i (by simp[hi])
 ·cases h
def addr_add (c:a.spot=none) (i:Nat):a.add i=⟨a.block,a.off+i,none⟩:=by
 obtain⟨b,o,s⟩:=a;cases(show s=none from c);unfold Addr.add;split<;>simp_all
def Nx {f:Nat}{A9:Env}
  (j:∀ t cs x,DataW.trod enc P W 0 (fun _=>true) true f t cs=some x->Fz P f t=true->∀ Z O,Inv A9 G W Z O->∃ Z' O' cs',Inv A9 G W Z' O'/\Kp Z Z'/\O.le O'/\H8 O' cs' cs/\Ei P Z' f t cs'/\∀ v∈cs',N2 v=true) :
  ∀ (L:List (TypeId×List Value)),(∀ p∈L,Fz P f p.1=true/\∃ x,DataW.trod enc P W 0 (fun _=>true) true f p.1 p.2=some x)->∀ Z O,Inv A9 G W Z O ->
   ∃ Z' O' ps,Inv A9 G W Z' O'/\Kp Z Z'/\O.le O'/\Gm (fun(p:TypeId×List Value) c=>H8 O' c p.2/\Ei P Z' f p.1 c/\∀ v∈c,N2 v=true) L ps:=by
 intro L;induction L with
 |nil=>intro _ Z O h;exact⟨Z,O,[],h,.refl _,Place.le_refl _,trivial⟩
 | cons p L ihL=>
   intro d Z O h;obtain⟨e,x,i⟩:=d p (by simp);obtain⟨Z1,O1,c,i1,k1,l1,v1,a1,c1⟩:=j _ _ _ i e Z O h;obtain⟨Z2,O2,ps,i2,k2,l2,q⟩:=ihL (fun p g=>d p (by simp[g])) Z1 O1 i1;exact⟨Z2,O2,c::ps,i2,k1.trans k2,Place.le_trans l1 l2,⟨v1.mono l2,a1.mono k2,c1⟩,q⟩
def Gm.len {α:Type}{R:α->List Value->Prop}:∀ {l:List α}{k:List (List Value)},Gm R l k->l.length=k.length
 | [],[],_=>rfl
 |_::_,_::_,p=>by rw[AG,AG,p.2.len]
 | [],_::_,p=>p.elim
 |_::_,[],p=>p.elim
def Gm.get {α:Type}{R:α->List Value->Prop}:∀ {l:List α}{k:List (List Value)}{i:Nat}{b:List Value},Gm R l k->k[i]? =some b->∃ a,l[i]? =some a/\R a b
 |a::l,b::k,0,_,p,h=>by cases h;exact⟨a,rfl,p.1⟩
 |a::l,b::k,i+1,_,p,h=>p.2.get (i:=i) (by simpa using h)
 | [],[],_,_,_,h=>by simp at h
 | [],_::_,_,_,p,_=>p.elim
 |_::_,[],_,_,p,_=>p.elim
def Lx {α:Type}{R:α->List Value->Prop}{O:Place}{g:α->List Value}(hR:∀ a c,R a c->H8 O c (g a)):∀ {l:List α}{k:List (List Value)},Gm R l k->H8 O k.flatten (l.map g).flatten
 | [],[],_=> .nil
 | a::l,b::k,p=>by
   rw[Qp,OW,Qp];exact Ab.H8.append (Lx hR p.2) (hR _ _ p.1)
 | [],_::_,p=>p.elim
 |_::_,[],p=>p.elim
def Oj {cs:List Value}:∀ {fs:List Field}{o n:Nat},Vz P fs o=some n->n<=cs.length->(fs.map fun fd=>(cs.drop fd.offset).take (P.cellsOf fd.type)).flatten=(cs.drop o).take (n-o)/\o<=n
 | [],o,n,h,hl=>by
   cases h;simp
 | fd::fs,o,n,h,hl=>by
   unfold Vz at h;split at h
   ·rename_i ho;subst ho;obtain⟨h1,h2⟩:=Oj h hl;refine⟨?_,om⟩;rw[OW,Qp,h1];have e:n-fd.offset=P.cellsOf fd.type+(n-(fd.offset+P.cellsOf fd.type)):=om;rw[e,List.take_add,Ph]
   ·cases h
def Ny {α β:Type}{R:β->List Value->Prop}(g:α->β):∀ {l:List α}{k:List (List Value)},Gm R (l.map g) k->Gm (fun a c=>R (g a) c) l k
 | [],[],_=>trivial
 |_::_,_::_,p=>⟨p.1,Ny g p.2⟩
 | [],_::_,p=>p.elim
 |_::_,[],p=>p.elim
def imp (b7:W.heap.size<=A9.lo):∀ f t cs x,DataW.trod enc P W 0 (fun _=>true) true f t cs=some x->Fz P f t=true->∀ Z O,Inv A9 G W Z O ->
  ∃ Z' O' cs',Inv A9 G W Z' O'/\Kp Z Z'/\O.le O'/\H8 O' cs' cs/\Ei P Z' f t cs'/\∀ v∈cs',N2 v=true:=by
 intro f;induction f with
 |zero=>intro t cs x _ C;cases C
 | succ f ih=>
   intro t cs x h C Z O M;unfold Fz at C;have S:∀ v,N2 v=true->∀ w∈[v],N2 w=true:=fun v Q w hw=>by rw[Cb]at hw;subst hw;exact Q
   split at C
   ·rename_i ht;obtain⟨b,rfl⟩:∃ b,cs=[.bool b]:=by
     unfold DataW.trod at h;rw[ht]at h;split at h<;>simp_all
    exact⟨Z,O,[.bool b],M,.refl _,Place.le_refl _,.cons (.J8 rfl) .nil,by unfold Ei;rw[ht];exact⟨b,rfl⟩,S _ rfl⟩
   ·rename_i k ht;obtain⟨n,rfl,c1⟩:∃ n,cs=[.int k n]/\(Lit.int k n).wf=true:=by
     unfold DataW.trod at h;rw[ht]at h;split at h<;>simp_all
    exact⟨Z,O,[.int k n],M,.refl _,Place.le_refl _,.cons (.J8 rfl) .nil,by unfold Ei;rw[ht];exact⟨n,rfl,c1⟩,S _ rfl⟩
   ·rename_i ht;obtain⟨s,rfl,b8⟩:∃ s,cs=[.string s]/\s.size<=maxLen:=by
     unfold DataW.trod at h;rw[ht]at h;split at h<;>simp_all
    exact⟨Z,O,[.string s],M,.refl _,Place.le_refl _,.cons (.J8 rfl) .nil,by unfold Ei;rw[ht];exact⟨s,rfl,b8⟩,S _ rfl⟩
   ·rename_i e ht;rw[T1,EJ]at C;obtain⟨N,E⟩:=C;rcases DataW.trod_slice ht h with⟨rfl,_⟩|⟨a,len,cap,a9,H4,n,hn,rfl,_,_,hl,hm,c2,b5,b9,_⟩
    ·exact⟨Z,O,[.slice none 0 0],M,.refl _,Place.le_refl _,.cons (.J8 rfl) .nil,by unfold Ei;rw[ht];exact .inl rfl,S _ rfl⟩
    ·obtain rfl:n=f:=om
     -- the elements
     have Y:∀ i,i<len->∃ c x,W.cells? 0 (a.add (i*P.cellsOf e)) (P.cellsOf e)=some c/\DataW.trod enc P W 0 (fun _=>true) true n e c=some x:=by
      intro i hi;have d:=b5 i hi;rw[List.getElem?_eq_getElem om]at d;cases hc:W.cells? 0 (a.add (i*P.cellsOf e)) (P.cellsOf e)with
      |none=>rw[hc]at d;cases d
      |some c=>rw[hc]at d;exact⟨c,_,rfl,d⟩
     let g:Nat->List Value:=fun i=>(W.cells? 0 (a.add (i*P.cellsOf e)) (P.cellsOf e)).getD []
     have U:∀ i,i<len->W.cells? 0 (a.add (i*P.cellsOf e)) (P.cellsOf e)=some (g i):=fun i hi=>by
      obtain⟨c,x,d,l⟩:=Y i hi;show _=some (Option.getD _ _);rw[d];rfl
     obtain⟨L,K,y,R,V,X,q1⟩:=Nx ih ((List.range len).map fun i=>(e,g i)) (fun p A=>by
      obtain⟨i,hi,rfl⟩:=GI.1 A;rw[We]at hi;obtain⟨c,x,d,l⟩:=Y i hi;rw[U i hi]at d;cases d;exact⟨E,x,l⟩) Z O M
     have u:y.length=len:=by rw[<- q1.len];simp
     have Hh:∀ (i:Nat) (r:List Value),y[i]? =some r->i<len/\H8 K r (g i)/\Ei P L n e r/\(∀ v∈r,N2 v=true)/\r.length=P.cellsOf e:=by
      intro i r B;obtain⟨p,d,l,z,h4⟩:=q1.get B;have hi:i<len:=by rw[<- u];exact(List.getElem?_eq_some_iff.1 B).1
      rw[List.getElem?_map,List.getElem?_range hi]at d;cases d;exact⟨hi,l,z,h4,by rw[H8.len l];exact KJ (U i hi)⟩
     have a5:∀ r∈y,r.length=P.cellsOf e:=fun r B=>by
      obtain⟨i,hi⟩:=List.getElem?_of_mem B;exact(Hh i r hi).2.2.2.2
     have b6:=Cn y a5;by_cases b4:cap=0
     ·subst b4;obtain rfl:len=0:=om;obtain⟨b,b1,b2,q,b3⟩:=R.nil;obtain rfl:y=[]:=NV u;refine⟨L,K,[.slice (some ⟨b,0,none⟩) 0 0],R,V,X,.cons (.Bq b3) .nil,?_,S _ rfl⟩;unfold Ei;rw[ht];exact .inr ⟨b,[],0,rfl,AP _,hm,b1,b2,fun r B=>by cases B⟩
     ·
      have a7:∃ c,W.cells? 0 (a.add (0*P.cellsOf e)) (P.cellsOf e)=some c:=by
       by_cases a4:0<len
       ·exact⟨_,U 0 a4⟩
       ·obtain⟨d,l⟩:=b9 rfl;have z:=l 0 om;rw[List.getElem?_eq_getElem om,show len+0=0 by omega]at z;cases hc:W.cells? 0 (a.add (0*P.cellsOf e)) (P.cellsOf e)with
        |none=>rw[hc]at z;cases z
        |some c=>exact⟨c,rfl⟩
      obtain⟨c0,a0⟩:=a7;have D:=KJ a0;have a1:=ZK a0 (i:=0) N;rw[List.getElem?_eq_getElem om]at a1;obtain⟨arr,el,fr,hh,hs,h0⟩:=ZM a1;have b0:(a.add (0*P.cellsOf e)).add 0=a:=by rw[GV];obtain⟨b,o,s⟩:=a;unfold Addr.add;simp
      rw[b0]at hh hs h0;have a8:∀ i j,(a.add i).add j=⟨a.block,a.off+i+j,none⟩:=fun i j=>by
       have e1:a.add i=⟨a.block,a.off+i,none⟩:=by
        obtain⟨b,o,s⟩:=a;cases(show s=none from hs);exact Ab.addr_add _ _ _
       rw[e1,Ab.addr_add]
      have a2:∀ i j,i<len->j<P.cellsOf e->arr[a.off+i*P.cellsOf e+j]? =(g i)[j]? :=by
       intro i j hi hj;have d:=ZK (U i hi) hj;rw[a8]at d;have l:=KJ (U i hi);rw[List.getElem?_eq_getElem om]at d ⊢;obtain⟨c3,c4,c5,z,_,h4⟩:=ZM d;rw[hh]at z;cases z;exact h4
      have a6:a.off+y.flatten.length<=arr.size:=by
       rw[b6,u];by_cases a4:0<len
       ·have d:=a2 (len-1) (P.cellsOf e-1) om om;have l:=KJ (U (len-1) om);rw[List.getElem?_eq_getElem om]at d;obtain⟨z,_⟩:=Array.getElem?_eq_some_iff.1 d;have e1:len*P.cellsOf e=(len-1)*P.cellsOf e+P.cellsOf e:=by rw[<- Oy];congr 1;omega
        omega
       ·obtain rfl:len=0:=om;obtain⟨z,_⟩:=Array.getElem?_eq_some_iff.1 h0;omega
      obtain⟨i2,k2,l2⟩:=R.arg (cells:=y.flatten) hh a6 b7 (fun v Q=>by
       obtain⟨r,B,F⟩:=ru.1 Q;obtain⟨i,hi⟩:=List.getElem?_of_mem B;exact(Hh i r hi).2.2.2.1 v F) (fun i v hi=>by
       obtain⟨r,d,l⟩:=rj N a5 hi;obtain⟨z,h4,-⟩:=Hh _ r d;obtain⟨v',h5,h6⟩:=h4.get l;refine⟨v',?_,h6⟩;have h7:=a2 _ _ z (KU i N);rw[h5,Px,Nat.div_add_mod']at h7;exact h7)
      refine⟨_,_,[.slice (some ⟨L.n,0,none⟩) len cap],i2,V.trans k2,Place.le_trans X l2,.cons ?_ .nil,?_,S _ rfl⟩
      ·have:some a=some ⟨(⟨a.block,a.off,arr.size⟩:CJ).c,(⟨a.block,a.off,arr.size⟩:CJ).o+0,none⟩:=by
        obtain⟨b,o,s⟩:=a;cases(show s=none from hs);rfl
       rw[this];exact .slice (Place.S9 _ _ _)
      ·unfold Ei;rw[ht];refine .inr ⟨L.n,y,cap,by rw[u],om,hm,by rw[Ue];omega,ga _ _,fun r B=>?_⟩;obtain⟨i,hi⟩:=List.getElem?_of_mem B;obtain⟨-,-,z,-,h5⟩:=Hh i r hi;exact⟨h5,z.mono k2⟩
   ·rename_i fs ht;rw[T1,beq_iff_eq,GH]at C;obtain⟨J,E⟩:=C;obtain⟨xs,n,hn,_,D,hxl,hx⟩:=DataW.trod_struct ht h;obtain rfl:n=f:=om;obtain⟨L,K,y,R,V,X,q1⟩:=Nx ih (fs.toList.map fun I=>(I.type,(cs.drop I.offset).take (P.cellsOf I.type))) (fun p A=>by
     obtain⟨I,a3,rfl⟩:=GI.1 A;obtain⟨i,hi⟩:=List.getElem?_of_mem a3;refine⟨E I a3,?_⟩;have c6:i<fs.size:=by
      have:=(List.getElem?_eq_some_iff.1 hi).1
      simpa using this
     have d:=hx i I (by rw[<- Array.getElem?_toList];exact hi);rw[List.getElem?_eq_getElem om]at d;exact⟨_,d⟩) Z O M
    have q2:=Ny _ q1;refine⟨L,K,y.flatten,R,V,X,?_,?_,?_⟩
    ·have d:=Lx (g:=fun I:Field=>(cs.drop I.offset).take (P.cellsOf I.type)) (O:=K) (fun a c h=>h.1) q2;obtain⟨l,-⟩:=Oj (cs:=cs) J om;rw[l,Ma,Up,<- D,Dq]at d;exact d
    ·unfold Ei;rw[ht];exact⟨y,rfl,q2.mono fun a c h=>h.2.1⟩
    ·intro v Q;obtain⟨r,B,F⟩:=ru.1 Q;obtain⟨i,hi⟩:=List.getElem?_of_mem B;obtain⟨p,-,A⟩:=q1.get hi;exact A.2.2 v F
   ·rename_i m e ht;rw[T1,beq_iff_eq]at C;obtain⟨J,E⟩:=C;have KT:cs.length=P.cellsOf t/\∀ i,i<m->∃ x,DataW.trod enc P W 0 (fun _=>true) true f e ((cs.drop (i*P.cellsOf e)).take (P.cellsOf e))=some x:=by
     unfold DataW.trod at h;rw[ht]at h;split at h<;>simp_all;obtain⟨xs,A,C⟩:=h.2;refine fun i hi=>?_;have d:=mapM_some_get A i i (by simp[hi]);have l:=mapM_some_length A;rw[List.length_range]at l;rw[List.getElem?_eq_getElem om]at d;exact⟨_,_,d⟩
    obtain⟨D,hx⟩:=KT;obtain⟨L,K,y,R,V,X,q1⟩:=Nx ih ((List.range m).map fun i=>(e,(cs.drop (i*P.cellsOf e)).take (P.cellsOf e))) (fun p A=>by
     obtain⟨i,hi,rfl⟩:=GI.1 A;rw[We]at hi;exact⟨E,hx i hi⟩) Z O M
    have q2:=Ny _ q1;have u:y.length=m:=by rw[<- q1.len];simp
    have Fp:∀ m,((List.range m).map fun i=>(cs.drop (i*P.cellsOf e)).take (P.cellsOf e)).flatten=cs.take (m*P.cellsOf e):=by
     intro m;induction m with
     |zero=>simp
     | succ m ihm=>
       rw[List.range_succ,Ah,List.flatten_append,ihm,Oy,List.take_add];simp
    refine⟨L,K,y.flatten,R,V,X,?_,?_,?_⟩
    ·have d:=Lx (g:=fun i:Nat=>(cs.drop (i*P.cellsOf e)).take (P.cellsOf e)) (O:=K) (fun a c h=>h.1) q2;rw[Fp,<- J,<- D,Dq]at d;exact d
    ·unfold Ei;rw[ht];refine⟨y,rfl,u,fun p A=>?_⟩;obtain⟨i,hi⟩:=List.getElem?_of_mem A;obtain⟨j,d,l⟩:=q2.get hi;have hj:i<m:=by rw[<- u];exact(List.getElem?_eq_some_iff.1 hi).1
     rw[List.getElem?_range hj]at d;cases d;refine⟨?_,l.2.1⟩;rw[H8.len l.1,KW,HW,D,J];have:(i+1)*P.cellsOf e<=m*P.cellsOf e:=SZ _ hj;rw[Oy]at this;omega
    ·intro v Q;obtain⟨r,B,F⟩:=ru.1 Q;obtain⟨i,hi⟩:=List.getElem?_of_mem B;obtain⟨p,-,A⟩:=q1.get hi;exact A.2.2 v F
   ·cases C
end
end
end Go.Ab.PG
namespace Go.Ab
open Go
section
variable {P:Program}
def Pd {b:Type}{a:b}:O8 P (pure a:Sem b)=some a:=rfl
def CT {c d:Type}{f:c->Sem d}(s:Sem c):O8 P (s >>= f)=ob (O8 P s) fun a=>O8 P (f a):=by
 show O8 P (s.bind f)=_;induction s with
 |pure a=>rfl
 |program k b=>exact b P
 |mark m k b=>exact b
 |_=>rfl
def MA:O8 P program=some P:=rfl
noncomputable def eqF (P:Program) (d:Nat) (xs ys:Array Value):List Field->Option Bool
 | []=>some true
 |f::fs=>bi (f.name != "_") (ob (O8 P (part f.type xs f.offset)) fun a=>ob (O8 P (part f.type ys f.offset)) fun b=>ob (O8 P (Op.equalIn d f.type a b)) fun r=>bi r (eqF P d xs ys fs) (some false)) (eqF P d xs ys fs)
def SJ {a:Type}{c:Prop} [Decidable c] {x y:Sem a}:O8 P (if c then x else y)=if c then O8 P x else O8 P y:=by split<;>rfl
def Ul {P:Program}{d:Nat}{xs ys:Array Value}:∀ fs:List Field,O8 P (Op.eqFields d xs ys fs)=eqF P d xs ys fs
 | []=>rfl
 | f::fs=>by
   have ih:=Ul (P:=P) (d:=d) (xs:=xs) (ys:=ys) fs;unfold Op.eqFields eqF;rw[SJ];by_cases h:f.name= "_"
   ·rw[z0z (by simpa using h),show(f.name != "_")=false from by simpa using h,j7,ih]
   ·rw[z1z h,show(f.name != "_")=true from by simpa using h,N5,CT]
    congr 1;funext a;rw[CT];congr 1;funext b;rw[CT];congr 1;funext r;rw[SJ];cases r with
    |true=>rw[z0z (by simp),N5,ih]
    |false=>rw[z1z (by simp),j7];rfl
def tJ {t:TypeId}{u:TypeDesc}(h:P.underlying t=some u):O8 P (underlying t)=some u:=by
 unfold underlying;rw[CT,MA,F8];simp only[h];rfl
def mE {d:Nat}{t:TypeId}{xs ys:Array Value}(ht:P.underlying t=some (.struct (P.fieldsOf t))) (e:P.stoodInHeld t=false):
  O8 P (Op.equalIn (d+1) t (.agg xs) (.agg ys))=eqF P d xs ys (P.fieldsOf t).toList:=by
 rw[<- Ul];simp only[Op.equalIn];rw[CT,tJ ht,F8];simp only[CT,MA,F8,e,JM,HZ];rw[<- Array.forIn_toList];generalize (P.fieldsOf t).toList=fs;clear ht;induction fs with
 |nil=>rfl
 | cons f fs ih=>
   simp only[List.forIn_cons,Op.eqFields,CT,SJ];by_cases c:f.name= "_"
   ·simp only[ne_eq,c,not_true,HZ,Pd,F8];exact ih
   ·simp only[ne_eq,c,not_false_iff,FU,CT];cases O8 P (part f.type xs f.offset)with
    |none=>rfl
    | some a=>
      simp only[F8];cases O8 P (part f.type ys f.offset)with
      |none=>rfl
      | some b=>
        simp only[F8];cases O8 P (Op.equalIn d f.type a b)with
        |none=>rfl
        | some r=>
          cases r
          ·simp only[F8,SY,FU,Pd]
          ·simp only[F8,XP,JM,HZ,Pd];exact ih
def IE {P:Program}{t:TypeId}{x y:Operand}{xs ys:Array Value}{o:Option Bool}(c:(LG xs&&LG ys)=true) (g:P.eqGuardType P.depth t=false) (ht:P.underlying t=some (.struct (P.fieldsOf t))) (h:P.stoodInHeld t=false)
  (f:eqF P 9999 xs ys (P.fieldsOf t).toList=o):CI P .eql t x y (.agg xs) (.agg ys)=(ob o fun b=>some (.bool b))/\CI P .neq t x y (.agg xs) (.agg ys)=ob o fun b=>some (.bool !b):=by
 have e:∀ op,O8 P (eqGuard op t x y (.agg xs) (.agg ys))=some ():=by
  intro op;unfold eqGuard;rw[SJ];cases op<;>first|rfl|(simp only[XP,JM,HZ,CT,MA,F8,g,SY,FU,SJ,Pd])
 have a:O8 P (Op.equal t (.agg xs) (.agg ys))=o:=by
  unfold Op.equal;exact(mE (d:=9999) ht h).trans f
 constructor
 ·show bi (LG xs&&LG ys) (Ho P .eql t x y (.agg xs) (.agg ys)) _=_;rw[c,N5];unfold Ho;rw[CT,CT,e,F8];show ob (Ke (ob (O8 P (binOp .eql t (.agg xs) (.agg ys))) _)) cst=_;simp only[binOp];rw[CT,a];cases o<;>rfl
 ·show bi (LG xs&&LG ys) (Ho P .neq t x y (.agg xs) (.agg ys)) _=_;rw[c,N5];unfold Ho;rw[CT,CT,e,F8];show ob (Ke (ob (O8 P (binOp .neq t (.agg xs) (.agg ys))) _)) cst=_;simp only[binOp];rw[CT,a];cases o<;>rfl
end
end Go.Ab
