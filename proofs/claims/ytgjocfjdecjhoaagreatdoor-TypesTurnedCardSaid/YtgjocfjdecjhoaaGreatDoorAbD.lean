/- The abstract machine without a bound on its steps: its BI satisfy its own Ai2. -/
import Derived.Test.YtgjocfjdecjhoaaGreatDoorAbB
import Derived.RecoverIn
import Derived.Lib.Join
import Derived.Lib.UnsafeStr
import Derived.Laws.StructEq
set_option linter.unusedSimpArgs false
set_option linter.unusedVariables false
set_option linter.defProp false
set_option maxHeartbeats 32000000
set_option maxRecDepth 100000
namespace Go.Ab
open Go
section
variable {Z:St}{rd:Option Nat}{c:Code}{fr:Fr}{r:Res}
def L8.run (rd:Option Nat) (c:Code) (fr:Fr) (Z:St):L8 fun run=>run rd c fr Z:=⟨fun _ _ h r hr=>h rd c fr Z r hr,fun _ _ _ h r hr=>h rd c fr Z r hr⟩
def L8.ob {α β:Type}{Φ:RunT->Option α}{Ψ:α->RunT->Option β}(h:L8 Φ) (k:∀ a,L8 (Ψ a)):L8 fun run=>Ab.ob (Φ run) fun a=>Ψ a run:=by
 constructor
 ·intro run run' hl r hr;obtain⟨a,h1,h2⟩:=A8 hr;show Ab.ob (Φ run') _=_;rw[h.mono _ _ hl _ h1];exact(k a).mono _ _ hl _ h2
 ·intro ch l hc hl r hr;obtain⟨a,h1,h2⟩:=A8 hr;obtain⟨f,hf⟩:=h.fin ch l hc hl _ h1;obtain⟨g,hg⟩:=(k a).fin ch l hc hl _ h2;refine⟨max f g,?_⟩;show Ab.ob (Φ (ch (max f g))) _=_;rw[h.mono _ _ (hc f _ (Nat.le_max_left _ _)) _ hf];exact(k a).mono _ _ (hc g _ (Nat.le_max_right _ _)) _ hg
def L8.bb {β:Type}(c:Bool){Φ:RunT->Option β}(h:L8 Φ):L8 fun run=>Ab.bb c (Φ run):=by
 cases c with
 |true=>exact h
 |false=>exact .const none
def L8.bi {β:Type}(c:Bool){Φ Ψ:RunT->Option β}(h:L8 Φ) (k:L8 Ψ):L8 fun run=>Ab.bi c (Φ run) (Ψ run):=by
 cases c with
 |true=>exact h
 |false=>exact k
section
variable {P:Program}{H:Dq}
def Kr (r:Res){next:RunT->Fr->St->Option Res}(h:∀ fr Z,L8 fun run=>next run fr Z):L8 fun run=>Aj r (next run):=by
 obtain⟨o,fr,Z⟩:=r;cases o with
 |normal=>exact h fr Z
 |exit i=>exact .const _
 |ret=>exact .const _
 |pan v=>exact .const _
def cQ (g:Nat) (vs:List Value) (Z:St):L8 fun run=>OT P H run g vs Z:=by
 unfold OT;cases H g with
 |some s=>exact s.cont _ _
 | none=>
   refine L8.ob (.const _) fun fn=>?_;cases fn.body with
   |none=>exact .const _
   |some body=>exact L8.ob (.run _ _ _ _) fun _=> .const _
def cR (b:Nat) (vs:List Value) (Z:St):L8 fun run=>XX run b vs Z:=by
 unfold XX;refine L8.ob (.const _) fun L=>?_;obtain⟨fr,ps,assign,body,st,R8⟩:=L;refine L8.bb _ (L8.ob (.const _) fun fr=>L8.ob (.run _ _ _ _) fun r=>?_);obtain⟨o,fr,Z⟩:=r;cases o with
 |exit i=>exact .const _
 |ret=>exact .const _
 |pan v=>exact .const _
 | normal=>
   refine L8.ob (.const _) fun L=>?_;obtain⟨fr,ps,assign,body,st,R8⟩:=L;exact L8.bb _ (L8.ob (.const _) fun Z=>L8.ob (.run _ _ _ _) fun r=> .const _)
def Lj (t:Tgt) (vs:List Value) (Z:St):L8 fun run=>DG P H run t vs Z:=by
 cases t with
 |fn g=>exact cQ g vs Z
 |yld b=>exact cR b vs Z
def Np (fr:Fr) (Z:St) (o:Oper):L8 fun run=>step P (DG P H run) fr Z o:=by
 have key:∀ x:Op,L8 fun run=>ou x P (DG P H run) fr Z o:=by
  intro x;cases x with
  | call c=>
    show L8 fun run=>YX P (DG P H run) fr Z c;unfold YX;cases c.callee with
    | value f=>
      show L8 fun run=>RK (HQ (DG P H run) fr Z c f);unfold RK HQ;refine L8.ob (L8.ob (.const _) fun vs=>L8.ob (.const _) fun v=>L8.ob (.const _) fun f=>?_) fun _=> .const _;obtain⟨g,first,captured⟩:=f;exact Lj _ _ _
    |builtin b=>exact .const _
    |_=>exact .const _
  |_=>exact .const _
 exact key o.op
def jr (all:Array Oper):∀ (l:List Oper) (fr:Fr) (Z:St),L8 fun run=>opsV P (DG P H run) all l fr Z:=by
 intro l;induction l with
 |nil=>intro fr Z;exact .const _
 | cons o l ih=>
   intro fr Z;refine L8.ob (.const _) fun c=>L8.bi c (L8.ob (Np fr Z o) fun r=>?_) (ih _ _);obtain⟨v,Z1,d⟩:=r;cases d with
   |pan=>exact .const _
   |none=>exact ih _ _
   |read r=>exact ih _ _
   |eff=>exact ih _ _
def cS (all:Array Oper) (bs:List Nat) (i:Nat):∀ (l:List Oper) (j:Nat) (fr:Fr) (Z:St),L8 fun run=>Od P (DG P H run) all bs i l j fr Z:=by
 intro l;induction l with
 |nil=>intro j fr Z;exact .const _
 | cons o l ih=>
   intro j fr Z;exact L8.bi _ (ih _ _ _) (L8.bb _ (L8.ob (.const _) fun c=>L8.bi c (L8.ob (Np fr Z o) fun r=>ih _ _ _) (ih _ _ _)))
def Nq (all:Array Oper):∀ (l:List Oper) (i:Nat) (fr:Fr) (Z:St) (ds:List Trace),L8 fun run=>M5 P (DG P H run) all l i fr Z ds:=by
 intro l;induction l with
 |nil=>intro i fr Z ds;exact .const _
 | cons o l ih=>
   intro i fr Z ds;refine L8.ob (.const _) fun c=>L8.bi c (L8.ob (Np fr Z o) fun r=>?_) (ih _ _ _ _);obtain⟨v,Z1,d⟩:=r;cases d with
   |pan=>exact L8.bb _ (L8.ob (cS _ _ _ _ _ _ _) fun _=> .const _)
   |none=>exact ih _ _ _ _
   |read r=>exact ih _ _ _ _
   |eff=>exact ih _ _ _ _
def Lk (rd:Option Nat) (c:Code) (fr:Fr) (Z:St):L8 fun run=>AF3 P H run rd c fr Z:=by
 show L8 fun run=>ov c P H run rd fr Z;cases c with
 | region id os draw=>
   refine L8.bi draw (L8.bi _ ?_ (L8.ob (Nq _ _ _ _ _ _) fun r=> .const _)) (jr _ _ _ _);exact L8.ob (.const _) fun g=>L8.bb _ (L8.ob (Nq _ _ _ _ _ _) fun r0=>L8.ob (.const _) fun kv=>L8.ob (.const _) fun V=>L8.bb _ (L8.ob (Nq _ _ _ _ _ _) fun r=> .const _))
 |seq a b=>exact L8.ob (.run _ _ _ _) fun r=>Kr r fun fr Z=> .run _ _ _ _
 |cond c a b=>exact L8.ob (.const _) fun v=>L8.ob (.const _) fun t=>L8.bi t (.run _ _ _ _) (.run _ _ _ _)
 |block id c=>exact L8.ob (.run _ _ _ _) fun r=> .const _
 |scope c=>exact .run _ _ _ _
 |loop c=>exact L8.ob (.run _ _ _ _) fun r=>Kr r fun fr Z=> .run _ _ _ _
 | rangeFunc f ps assign body=>
   refine L8.bb _ (L8.ob (.const _) fun v=>L8.ob (.const _) fun f=>?_);obtain⟨t,first,captured⟩:=f;exact L8.ob (.const _) fun g=>L8.bb _ (L8.ob (Lj _ _ _) fun r=> .const _)
 |_=>exact .const _
def wi:∀ f,Le (exec P H f) (exec P H (f+1)):=by
 intro f;induction f with
 |zero=>intro rd c fr Z r h;cases h
 |succ f ih=>intro rd c fr Z r h;exact(Lk rd c fr Z).mono _ _ ih r h
def KQ (f g:Nat) (h:f<=g):Le (exec P H f) (exec P H g):=by
 induction h with
 |refl=>intro _ _ _ _ _ h;exact h
 |step _ ih=>intro rd c fr Z r h;exact wi _ _ _ _ _ _ (ih _ _ _ _ _ h)
open Classical in
noncomputable def lim (P:Program) (H:Dq):RunT:=fun rd c fr Z=>if h:∃ f r,exec P H f rd c fr Z=some r then exec P H h.choose rd c fr Z else none
def ow {f:Nat}(h:exec P H f rd c fr Z=some r):lim P H rd c fr Z=some r:=by
 have hx:∃ f r,exec P H f rd c fr Z=some r:=⟨f,r,h⟩
 obtain⟨r',h'⟩:=hx.choose_spec;unfold lim;rw[dif_pos hx,h'];have h1:=KQ _ _ (Nat.le_max_left f hx.choose) _ _ _ _ _ h;have h2:=KQ _ _ (Nat.le_max_right f hx.choose) _ _ _ _ _ h';rw[h1]at h2;exact h2.symm
def RL (h:lim P H rd c fr Z=some r):∃ f,exec P H f rd c fr Z=some r:=by
 unfold lim at h;split at h
 ·exact⟨_,h⟩
 ·cases h
def Hf (rd:Option Nat) (c:Code) (fr:Fr) (Z:St):lim P H rd c fr Z=ov c P H (lim P H) rd fr Z:=by
 apply Option.ext;intro r;constructor
 ·intro h;obtain⟨f,h⟩:=RL h;cases f with
  |zero=>cases h
  |succ f=>exact(Lk rd c fr Z).mono (exec P H f) _ (fun _ _ _ _ _ h=>ow h) r h
 ·intro h;obtain⟨f,h⟩:=(Lk rd c fr Z).fin (exec P H) (lim P H) KQ (fun _ _ _ _ _ h=>RL h) r h;exact ow (f:=f+1) h
noncomputable def go (P:Program) (H:Dq) (t:Tgt) (vs:List Value) (Z:St):Option CR:=DG P H (lim P H) t vs Z
def wj {t:Tgt}{vs:List Value}{r:CR}(h:go P H t vs Z=some r):∃ f,DG P H (exec P H f) t vs Z=some r :=
 (Lj t vs Z).fin (exec P H) (lim P H) KQ (fun _ _ _ _ _ h=>RL h) r h
end
end
section
variable {x a c ix f b y:Operand}{v u:Value}{k n m g:Nat}{as:Array Operand}{next:Fr->St->Option Res}{t:Tmp}{vs:List Value}{fn:Func}
@[congr] theorem Aj0 {α β:Type}{x y:Option α}{f:α->Option β} (h:x=y):ob x f=ob y f:=by rw[h]
@[congr] theorem Aj1 {β:Type}{c d:Bool}{x:Option β} (h:c=d):bb c x=bb d x:=by rw[h]
@[congr] theorem Aj2 {β:Type}{c d:Bool}{x y:β} (h:c=d):bi c x y=bi d x y:=by rw[h]
@[congr] theorem Aj3 {α β γ:Type}{p q:α×β}{f:α->β->γ} (h:p=q):pr p f=pr q f:=by rw[h]
section
variable {P:Program}{H:Dq}{call:X6}{all:Array Oper}{l:List Oper}{fr:Fr}{Z:St}{d:Option Tmp}{ty:TypeId}{ps:String}{af:Array Edge}{i:Nat}{ds:List Trace}
noncomputable def W9 (P:Program) (call:X6) (all:Array Oper) (l:List Oper) (fr:Fr) (r:Stepped) (d:Option Tmp):Option Res :=
 Stepped.rec (motive:=fun _=>Option Res) (fun v Z e=>Oh e (opsV P call all l (I2 fr d v) Z) (some ⟨.pan v,fr,Z⟩)) r
noncomputable def Bp (P:Program) (call:X6) (all:Array Oper) (op:Op) (l:List Oper) (i:Nat) (fr:Fr) (Z:St) (ds:List Trace) (r:Stepped) (d:Option Tmp):Option FST :=
 Stepped.rec (motive:=fun _=>Option FST) (fun v Z' e=>Oh e (M5 P call all l (i+1) (I2 fr d v) Z' (Jl i Z Z' e ds)) (kF P call all op l i fr Z v Z' ds)) r
def xS {op:Op}{g:Nat×Bool}:opsV P call all (⟨d,op,ty,ps,af,some g⟩::l) fr Z=ob (U9 all fr ⟨d,op,ty,ps,af,some g⟩) fun c=>bi c (opsV P call all (⟨d,op,ty,ps,af,none⟩::l) fr Z) (opsV P call all l (I2 fr d P9) Z):=by
 show ob _ _=_;cases hx:U9 all fr ⟨d,op,ty,ps,af,some g⟩with
 |none=>rfl
 |some c=>cases op<;>(cases c<;>rfl)
def Yn:opsV P call all (⟨d,.move x,ty,ps,af,none⟩::l) fr Z=ob (ev fr x) fun v=>opsV P call all l (I2 fr d v) Z:=by
 show ob (J5 Z (ev fr x)) (fun r=>W9 P call all l fr r d)=_;cases ev fr x<;>rfl
def Yo:M5 P call all (⟨d,.move x,ty,ps,af,none⟩::l) i fr Z ds=ob (ev fr x) fun v=>M5 P call all l (i+1) (I2 fr d v) Z ds:=by
 show ob (J5 Z (ev fr x)) (fun r=>Bp P call all _ l i fr Z ds r d)=_;cases ev fr x<;>rfl
def Rf:opsV P call all (⟨d,.assign x,ty,ps,af,none⟩::l) fr Z=ob (ev fr x) fun v=>opsV P call all l (I2 fr d v) Z:=by
 show ob (J5 Z (ev fr x)) (fun r=>W9 P call all l fr r d)=_;cases ev fr x<;>rfl
def Rg:M5 P call all (⟨d,.assign x,ty,ps,af,none⟩::l) i fr Z ds=ob (ev fr x) fun v=>M5 P call all l (i+1) (I2 fr d v) Z ds:=by
 show ob (J5 Z (ev fr x)) (fun r=>Bp P call all _ l i fr Z ds r d)=_;cases ev fr x<;>rfl
def Yp:opsV P call all (⟨d,.pick c a b,ty,ps,af,none⟩::l) fr Z=ob (Je fr c a b) fun v=>opsV P call all l (I2 fr d v) Z:=by
 show ob (J5 Z (Je fr c a b)) (fun r=>W9 P call all l fr r d)=_;cases Je fr c a b<;>rfl
def Yq:M5 P call all (⟨d,.pick c a b,ty,ps,af,none⟩::l) i fr Z ds=ob (Je fr c a b) fun v=>M5 P call all l (i+1) (I2 fr d v) Z ds:=by
 show ob (J5 Z (Je fr c a b)) (fun r=>Bp P call all _ l i fr Z ds r d)=_;cases Je fr c a b<;>rfl
def UG {t:TypeId}:opsV P call all (⟨d,.alloc t,ty,ps,af,none⟩::l) fr Z=ob (X8 P t) fun r=>pr r fun cs v=>opsV P call all l (I2 fr d (v Z.n)) (Z.new cs (some t)):=by
 show ob (asNew Z (X8 P t) (some t)) (fun r=>W9 P call all l fr r d)=_;cases X8 P t with
 |none=>rfl
 |some r=>cases r;rfl
def UH {t:TypeId}:M5 P call all (⟨d,.alloc t,ty,ps,af,none⟩::l) i fr Z ds=ob (X8 P t) fun r=>pr r fun cs v=>M5 P call all l (i+1) (I2 fr d (v Z.n)) (Z.new cs (some t)) ds:=by
 show ob (asNew Z (X8 P t) (some t)) (fun r=>Bp P call all _ l i fr Z ds r d)=_;cases X8 P t with
 |none=>rfl
 |some r=>cases r;rfl
def gQ {t:TypeId}:opsV P call all (⟨d,.box t x,ty,ps,af,none⟩::l) fr Z=ob (bL fr x) fun r=>pr r fun cs v=>opsV P call all l (I2 fr d (v Z.n)) (Z.new cs):=by
 show ob (asNew Z (bL fr x)) (fun r=>W9 P call all l fr r d)=_;cases bL fr x with
 |none=>rfl
 |some r=>cases r;rfl
def UI {t:TypeId}{parts:Array (Nat×Operand)}:opsV P call all (⟨d,.build t parts,ty,ps,af,none⟩::l) fr Z=ob (Ft P fr t parts) fun v=>opsV P call all l (I2 fr d v) Z:=by
 show ob (J5 Z (Ft P fr t parts)) (fun r=>W9 P call all l fr r d)=_;cases Ft P fr t parts<;>rfl
def UJ {t:TypeId}{parts:Array (Nat×Operand)}:M5 P call all (⟨d,.build t parts,ty,ps,af,none⟩::l) i fr Z ds=ob (Ft P fr t parts) fun v=>M5 P call all l (i+1) (I2 fr d v) Z ds:=by
 show ob (J5 Z (Ft P fr t parts)) (fun r=>Bp P call all _ l i fr Z ds r d)=_;cases Ft P fr t parts<;>rfl
def Jm {t:TypeId}{parts:Array (Nat×Operand)}:opsV P call all (⟨d,.buildSlice t n parts,ty,ps,af,none⟩::l) fr Z=ob (Gb P fr t n parts) fun r=>pr r fun cs v=>opsV P call all l (I2 fr d (v Z.n)) (Z.new cs):=by
 show ob (asNew Z (Gb P fr t n parts)) (fun r=>W9 P call all l fr r d)=_;cases Gb P fr t n parts with
 |none=>rfl
 |some r=>cases r;rfl
def Jn {t:TypeId}{parts:Array (Nat×Operand)}:M5 P call all (⟨d,.buildSlice t n parts,ty,ps,af,none⟩::l) i fr Z ds=ob (Gb P fr t n parts) fun r=>pr r fun cs v=>M5 P call all l (i+1) (I2 fr d (v Z.n)) (Z.new cs) ds:=by
 show ob (asNew Z (Gb P fr t n parts)) (fun r=>Bp P call all _ l i fr Z ds r d)=_;cases Gb P fr t n parts with
 |none=>rfl
 |some r=>cases r;rfl
def Rh {t:TypeId}{m k:Operand}:opsV P call all (⟨d,.insert t m k x,ty,ps,af,none⟩::l) fr Z=ob (Bb P fr Z t m k x) fun r=>pr r fun v Z'=>opsV P call all l (I2 fr d v) Z':=by
 show ob (GF (Bb P fr Z t m k x)) (fun r=>W9 P call all l fr r d)=_;cases Bb P fr Z t m k x with
 |none=>rfl
 |some r=>cases r;rfl
def Yr {t:TypeId}:opsV P call all (⟨d,.load t a,ty,ps,af,none⟩::l) fr Z=ob (Ht P fr Z t a) fun r=>pr r fun v b=>opsV P call all l (I2 fr d v) Z:=by
 show ob (Df Z (Ht P fr Z t a)) (fun r=>W9 P call all l fr r d)=_;cases Ht P fr Z t a with
 |none=>rfl
 |some r=>cases r;rfl
def Ys {t:TypeId}:M5 P call all (⟨d,.load t a,ty,ps,af,none⟩::l) i fr Z ds=ob (Ht P fr Z t a) fun r=>pr r fun v b=>M5 P call all l (i+1) (I2 fr d v) Z (.read i b::ds):=by
 show ob (Df Z (Ht P fr Z t a)) (fun r=>Bp P call all _ l i fr Z ds r d)=_;cases Ht P fr Z t a with
 |none=>rfl
 |some r=>cases r;rfl
def UK {t:TypeId}{v:Operand}:opsV P call all (⟨d,.store t a v,ty,ps,af,none⟩::l) fr Z=ob (Gs P fr Z t a v) fun r=>pr r fun v Z'=>opsV P call all l (I2 fr d v) Z':=by
 show ob (GF (Gs P fr Z t a v)) (fun r=>W9 P call all l fr r d)=_;cases Gs P fr Z t a v with
 |none=>rfl
 |some r=>cases r;rfl
def UL {t:TypeId}{v:Operand}:M5 P call all (⟨d,.store t a v,ty,ps,af,none⟩::l) i fr Z ds=ob (Gs P fr Z t a v) fun r=>pr r fun v Z'=>M5 P call all l (i+1) (I2 fr d v) Z' (.eff i Z Z'::ds):=by
 show ob (GF (Gs P fr Z t a v)) (fun r=>Bp P call all _ l i fr Z ds r d)=_;cases Gs P fr Z t a v with
 |none=>rfl
 |some r=>cases r;rfl
def Mq:opsV P call all (⟨d,.nilCheck x,ty,ps,af,none⟩::l) fr Z=ob (Bo fr x) fun v=>opsV P call all l (I2 fr d v) Z:=by
 show ob (J5 Z (Bo fr x)) (fun r=>W9 P call all l fr r d)=_;cases Bo fr x<;>rfl
def Mr:M5 P call all (⟨d,.nilCheck x,ty,ps,af,none⟩::l) i fr Z ds=ob (Bo fr x) fun v=>M5 P call all l (i+1) (I2 fr d v) Z ds:=by
 show ob (J5 Z (Bo fr x)) (fun r=>Bp P call all _ l i fr Z ds r d)=_;cases Bo fr x<;>rfl
def gR {b:BinOp}{t u:TypeId}:opsV P call all (⟨d,.binOp b t x y u,ty,ps,af,none⟩::l) fr Z=ob (Qt P fr ⟨d,.binOp b t x y u,ty,ps,af,none⟩ b t x y) fun v=>opsV P call all l (I2 fr d v) Z:=by
 show ob (J5 Z (Qt P fr ⟨d,.binOp b t x y u,ty,ps,af,none⟩ b t x y)) (fun r=>W9 P call all l fr r d)=_;cases Qt P fr ⟨d,.binOp b t x y u,ty,ps,af,none⟩ b t x y<;>rfl
def gT {b:BinOp}{t u:TypeId}:M5 P call all (⟨d,.binOp b t x y u,ty,ps,af,none⟩::l) i fr Z ds=ob (Qt P fr ⟨d,.binOp b t x y u,ty,ps,af,none⟩ b t x y) fun v=>M5 P call all l (i+1) (I2 fr d v) Z ds:=by
 show ob (J5 Z (Qt P fr ⟨d,.binOp b t x y u,ty,ps,af,none⟩ b t x y)) (fun r=>Bp P call all _ l i fr Z ds r d)=_;cases Qt P fr ⟨d,.binOp b t x y u,ty,ps,af,none⟩ b t x y<;>rfl
def qB {b:UnOp}{t:TypeId}:opsV P call all (⟨d,.unOp b t x,ty,ps,af,none⟩::l) fr Z=ob (Ej P fr ⟨d,.unOp b t x,ty,ps,af,none⟩ x) fun v=>opsV P call all l (I2 fr d v) Z:=by
 show ob (J5 Z (Ej P fr ⟨d,.unOp b t x,ty,ps,af,none⟩ x)) (fun r=>W9 P call all l fr r d)=_;cases Ej P fr ⟨d,.unOp b t x,ty,ps,af,none⟩ x<;>rfl
def Yt {fn:Fn}{fs cs:Array Operand}:opsV P call all (⟨d,.makeFunc fn fs cs,ty,ps,af,none⟩::l) fr Z=ob (RA fr fn fs cs) fun v=>opsV P call all l (I2 fr d v) Z:=by
 show ob (J5 Z (RA fr fn fs cs)) (fun r=>W9 P call all l fr r d)=_;cases RA fr fn fs cs<;>rfl
def Oi {t:TypeId}{r:Option Operand}:opsV P call all (⟨d,.makeMap t r,ty,ps,af,none⟩::l) fr Z=ob (Fg fr Z r) fun r=>pr r fun v Z'=>opsV P call all l (I2 fr d v) Z':=by
 show ob (GF (Fg fr Z r)) (fun r=>W9 P call all l fr r d)=_;cases Fg fr Z r with
 |none=>rfl
 |some r=>cases r;rfl
def Ku {t:TypeId}{n:Operand}:opsV P call all (⟨d,.makeSlice t n c,ty,ps,af,none⟩::l) fr Z=ob (QG P fr t n c) fun r=>pr r fun cs v=>opsV P call all l (I2 fr d (v Z.n)) (Z.new cs):=by
 show ob (asNew Z (QG P fr t n c)) (fun r=>W9 P call all l fr r d)=_;cases QG P fr t n c with
 |none=>rfl
 |some r=>cases r;rfl
def UM {t:TypeId}{lo hi mx:Option Operand}:opsV P call all (⟨d,.slice t x lo hi mx,ty,ps,af,none⟩::l) fr Z=ob (LY P fr t x lo hi mx) fun v=>opsV P call all l (I2 fr d v) Z:=by
 show ob (J5 Z (LY P fr t x lo hi mx)) (fun r=>W9 P call all l fr r d)=_;cases LY P fr t x lo hi mx<;>rfl
def Kv {s:TypeId}{f:Nat}:opsV P call all (⟨d,.fieldAddr s x f,ty,ps,af,none⟩::l) fr Z=ob (AY P fr s x f) fun v=>opsV P call all l (I2 fr d v) Z:=by
 show ob (J5 Z (AY P fr s x f)) (fun r=>W9 P call all l fr r d)=_;cases AY P fr s x f<;>rfl
def Kw {s:TypeId}{f:Nat}:M5 P call all (⟨d,.fieldAddr s x f,ty,ps,af,none⟩::l) i fr Z ds=ob (AY P fr s x f) fun v=>M5 P call all l (i+1) (I2 fr d v) Z ds:=by
 show ob (J5 Z (AY P fr s x f)) (fun r=>Bp P call all _ l i fr Z ds r d)=_;cases AY P fr s x f<;>rfl
def Kx {t:TypeId}:opsV P call all (⟨d,.indexAddr t x ix,ty,ps,af,none⟩::l) fr Z=ob (Al P fr t x ix) fun v=>opsV P call all l (I2 fr d v) Z:=by
 show ob (J5 Z (Al P fr t x ix)) (fun r=>W9 P call all l fr r d)=_;cases Al P fr t x ix<;>rfl
def Ky {t:TypeId}:M5 P call all (⟨d,.indexAddr t x ix,ty,ps,af,none⟩::l) i fr Z ds=ob (Al P fr t x ix) fun v=>M5 P call all l (i+1) (I2 fr d v) Z ds:=by
 show ob (J5 Z (Al P fr t x ix)) (fun r=>Bp P call all _ l i fr Z ds r d)=_;cases Al P fr t x ix<;>rfl
def UN {t:TypeId}:opsV P call all (⟨d,.index t x ix,ty,ps,af,none⟩::l) fr Z=ob (Ld P fr t x ix) fun v=>opsV P call all l (I2 fr d v) Z:=by
 show ob (J5 Z (Ld P fr t x ix)) (fun r=>W9 P call all l fr r d)=_;cases Ld P fr t x ix<;>rfl
def Ri {t:TypeId}{ok:Bool}:opsV P call all (⟨d,.lookup t x ix ok,ty,ps,af,none⟩::l) fr Z=ob (GO P fr Z t x ix ok) fun r=>pr r fun v Z'=>opsV P call all l (I2 fr d v) Z':=by
 show ob (GF (GO P fr Z t x ix ok)) (fun r=>W9 P call all l fr r d)=_;cases GO P fr Z t x ix ok with
 |none=>rfl
 |some r=>cases r;rfl
def Oj {t:Operand}{ix:Nat}:opsV P call all (⟨d,.extract t ix,ty,ps,af,none⟩::l) fr Z=ob (Cs fr t ix) fun v=>opsV P call all l (I2 fr d v) Z:=by
 show ob (J5 Z (Cs fr t ix)) (fun r=>W9 P call all l fr r d)=_;cases Cs fr t ix<;>rfl
def Ol {t:Operand}{ix:Nat}:M5 P call all (⟨d,.extract t ix,ty,ps,af,none⟩::l) i fr Z ds=ob (Cs fr t ix) fun v=>M5 P call all l (i+1) (I2 fr d v) Z ds:=by
 show ob (J5 Z (Cs fr t ix)) (fun r=>Bp P call all _ l i fr Z ds r d)=_;cases Cs fr t ix<;>rfl
def gV {ts:Array TypeId}:opsV P call all (⟨d,.call ⟨.builtin .len,as,ts⟩,ty,ps,af,none⟩::l) fr Z=ob (Qq P fr ⟨.builtin .len,as,ts⟩) fun v=>opsV P call all l (I2 fr d v) Z:=by
 show ob (J5 Z (Qq P fr ⟨.builtin .len,as,ts⟩)) (fun r=>W9 P call all l fr r d)=_;cases Qq P fr ⟨.builtin .len,as,ts⟩<;>rfl
def gW {ts:Array TypeId}:M5 P call all (⟨d,.call ⟨.builtin .len,as,ts⟩,ty,ps,af,none⟩::l) i fr Z ds=ob (Qq P fr ⟨.builtin .len,as,ts⟩) fun v=>M5 P call all l (i+1) (I2 fr d v) Z ds:=by
 show ob (J5 Z (Qq P fr ⟨.builtin .len,as,ts⟩)) (fun r=>Bp P call all _ l i fr Z ds r d)=_;cases Qq P fr ⟨.builtin .len,as,ts⟩<;>rfl
def gX {ts:Array TypeId}:opsV P call all (⟨d,.call ⟨.builtin .max,as,ts⟩,ty,ps,af,none⟩::l) fr Z=ob (pMM fr true ⟨.builtin .max,as,ts⟩) fun v=>opsV P call all l (I2 fr d v) Z:=by
 show ob (J5 Z (pMM fr true ⟨.builtin .max,as,ts⟩)) (fun r=>W9 P call all l fr r d)=_;cases pMM fr true ⟨.builtin .max,as,ts⟩<;>rfl
def Rj {ts:Array TypeId}:opsV P call all (⟨d,.call ⟨.builtin .append,as,ts⟩,ty,ps,af,none⟩::l) fr Z=ob (Dx P fr Z ⟨.builtin .append,as,ts⟩) fun r=>pr r fun v Z'=>opsV P call all l (I2 fr d v) Z':=by
 show ob (GF (Dx P fr Z ⟨.builtin .append,as,ts⟩)) (fun r=>W9 P call all l fr r d)=_;cases Dx P fr Z ⟨.builtin .append,as,ts⟩with
 |none=>rfl
 |some r=>cases r;rfl
def Rk {ts:Array TypeId}:M5 P call all (⟨d,.call ⟨.builtin .append,as,ts⟩,ty,ps,af,none⟩::l) i fr Z ds=ob (Dx P fr Z ⟨.builtin .append,as,ts⟩) fun r=>pr r fun v Z'=>M5 P call all l (i+1) (I2 fr d v) Z' (.eff i Z Z'::ds):=by
 show ob (GF (Dx P fr Z ⟨.builtin .append,as,ts⟩)) (fun r=>Bp P call all _ l i fr Z ds r d)=_;cases Dx P fr Z ⟨.builtin .append,as,ts⟩with
 |none=>rfl
 |some r=>cases r;rfl
def Yu {s u:TypeId}:opsV P call all (⟨d,.convert s u x,ty,ps,af,none⟩::l) fr Z=ob (orS (asNew Z (Gd P fr s u x)) (orS (Df Z (DD P fr Z s u x)) (J5 Z (Ej P fr ⟨d,.convert s u x,ty,ps,af,none⟩ x)))) fun r=>W9 P call all l fr r d:=rfl
def qC {ts:Array TypeId}:opsV P call all (⟨d,.call ⟨.value f,as,ts⟩,ty,ps,af,none⟩::l) fr Z=ob (HQ call fr Z ⟨.value f,as,ts⟩ f) fun r=>bi r.pan (some ⟨.pan r.v,fr,r.Z⟩) (opsV P call all l (I2 fr d r.v) r.Z):=by
 show ob (RK (HQ call fr Z ⟨.value f,as,ts⟩ f)) (fun r=>W9 P call all l fr r d)=_;cases HQ call fr Z ⟨.value f,as,ts⟩ f with
 |none=>rfl
 |some r=>obtain⟨p,v,Z1⟩:=r;cases p<;>rfl
def Yv {s u:TypeId}:M5 P call all (⟨d,.convert s u x,ty,ps,af,none⟩::l) i fr Z ds=ob (orS (asNew Z (Gd P fr s u x)) (orS (Df Z (DD P fr Z s u x)) (J5 Z (Ej P fr ⟨d,.convert s u x,ty,ps,af,none⟩ x)))) fun r=>Bp P call all (.convert s u x) l i fr Z ds r d:=rfl
def qD {ts:Array TypeId}:M5 P call all (⟨d,.call ⟨.value f,as,ts⟩,ty,ps,af,none⟩::l) i fr Z ds=ob (HQ call fr Z ⟨.value f,as,ts⟩ f) fun r=>bi r.pan (kF P call all (.call ⟨.value f,as,ts⟩) l i fr Z r.v r.Z ds) (M5 P call all l (i+1) (I2 fr d r.v) r.Z (.eff i Z r.Z::ds)):=by
 show ob (RK (HQ call fr Z ⟨.value f,as,ts⟩ f)) (fun r=>Bp P call all _ l i fr Z ds r d)=_;cases HQ call fr Z ⟨.value f,as,ts⟩ f with
 |none=>rfl
 |some r=>obtain⟨p,v,Z1⟩:=r;cases p<;>rfl
def xT:opsV P call all [] fr Z=some ⟨.normal,fr,Z⟩:=rfl
def xU:M5 P call all [] i fr Z ds=some ⟨fr,Z,ds,none⟩:=rfl
def Yw:I2 fr (some t) v=fr.set t v:=rfl
def Yx:I2 fr none v=fr:=rfl
end
section
variable {P:Program}{H:Dq}{rd:Option Nat}{fr:Fr}{Z:St}
def xV:lim P H rd .skip fr Z=some ⟨.normal,fr,Z⟩:=Hf ..
def xW:lim P H rd (.exit k) fr Z=some ⟨.exit k,fr,Z⟩:=Hf ..
def AO9:lim P H rd .ret fr Z=some ⟨.ret,fr,Z⟩:=Hf ..
def AP0 {a b:Code}:lim P H rd (.seq a b) fr Z=ob (lim P H rd a fr Z) fun r=>Aj r (lim P H rd b):=Hf ..
def gN {a:Code}:lim P H rd (.loop a) fr Z=ob (lim P H rd a fr Z) fun r=>Aj r (lim P H rd (.loop a)):=Hf ..
def qE {a:Code}:lim P H rd (.block k a) fr Z=ob (lim P H rd a fr Z) (Hb k):=Hf ..
def xX {a b:Code}:lim P H rd (.cond c a b) fr Z=ob (ev fr c) fun v=>ob (bool? v) fun t=>bi t (lim P H rd a fr Z) (lim P H rd b fr Z):=Hf ..
def xO {os:Array Oper}(h:FX os.toList=false):lim P H rd (.region k os true) fr Z=drawn os (M5 P (go P H) os os.toList 0 fr Z []):=by
 refine(Hf ..).trans ?_;show bi (FX os.toList) _ _=_;rw[h];rfl
def kA:Aj ⟨.normal,fr,Z⟩ next=next fr Z:=rfl
def WG:Aj ⟨.exit k,fr,Z⟩ next=some ⟨.exit k,fr,Z⟩:=rfl
def ct:Aj ⟨.ret,fr,Z⟩ next=some ⟨.ret,fr,Z⟩:=rfl
def pj:Aj ⟨.pan v,fr,Z⟩ next=some ⟨.pan v,fr,Z⟩:=rfl
def kG:Hb k ⟨.normal,fr,Z⟩=some ⟨.normal,fr,Z⟩:=rfl
def xY:Hb k ⟨.exit m,fr,Z⟩=if m=k then some ⟨.normal,fr,Z⟩else some ⟨.exit m,fr,Z⟩:=by
 show bi (Nat.beq m k) _ _=_;by_cases h:m=k
 ·subst h;rw[z1z rfl];simp
 ·rw[z0z h];cases hb:Nat.beq m k with
  |true=>exact absurd (Aa hb) h
  |false=>rfl
def AP1:Hb k ⟨.ret,fr,Z⟩=some ⟨.ret,fr,Z⟩:=rfl
def Au {t:Fr}:(t.set n v).get m=if m=n then some v else t.get m:=Tr.Au v t n m
def Rl:HZ [] k fr=fr:=rfl
def Nu:HZ (v::vs) k fr=HZ vs (k+1) (fr.set k v):=rfl
def kH:(Tr.nil:Fr).get n=none:=rfl
def Aj4 {body:Code}(hH:H g=none) (hf:P.funcs[g]? =some fn) (hb:fn.body=some body):
  go P H (.fn g) vs Z=ob (lim P H none body (HZ vs 0 .nil) Z) fun r=>HM P fn r:=by
 show OT P H (lim P H) g vs Z=_;unfold OT;rw[hH];show ob (P.funcs[g]?) _=_;rw[hf,D4];simp only[hb];rfl
def dH:HM P fn ⟨.normal,fr,Z⟩=ob (IP P fr Z fn.results.toList) fun vs=>some ⟨false,tup vs,Z⟩:=rfl
def xZ:HM P fn ⟨.ret,fr,Z⟩=ob (IP P fr Z fn.results.toList) fun vs=>some ⟨false,tup vs,Z⟩:=rfl
def xc:IP P fr Z []=some []:=rfl
def xe {l:List ResultVar}:IP P fr Z (.tmp t::l)=ob (fr.get t) fun v=>ob (IP P fr Z l) fun vs=>some (v::vs):=rfl
def qF {a:Tmp}{t:TypeId}{l:List ResultVar}:IP P fr Z (.cell a t::l)=ob (ob (fr.get a) fun p=>Om P Z t p) fun v=>ob (IP P fr Z l) fun vs=>some (v::vs):=rfl
def AP2:ev fr (.tmp t)=fr.get t:=rfl
def xf {f:FuncId}:ev fr (.func f)=some (.func (.func f) #[] #[]):=rfl
def AP3 {k:IntKind}{n:Int}:ev fr (.const (.int k n))=some (.int k n):=rfl
def xg {b:Bool}:ev fr (.const (.bool b))=some (.bool b):=rfl
def dI:ev fr (.const .nilFunc)=some .nilFunc:=rfl
def Yy:ev fr (.const (.slice none 0 0))=some (.slice none 0 0):=rfl
def xh:evs fr []=some []:=rfl
def qG {o:Operand}{l:List Operand}:evs fr (o::l)=ob (ev fr o) fun v=>ob (evs fr l) fun vs=>some (v::vs):=rfl
def xi:tup [v]=v:=rfl
def xj:tup []= .tuple ⟨[]⟩:=rfl
def xk:tup (v::u::vs)= .tuple ⟨v::u::vs⟩:=rfl
def AP4 {b:Bool}:bool? (.bool b)=some b:=rfl
def Aj5:Ke [v]=some v:=rfl
def Aj6:qH [v,u]=some (v,u):=rfl
def Aw9 {b o:Nat}:at? (.pointer (some ⟨b,o,none⟩))=some (b,o):=rfl
def qI {k:IntKind}:nat? (.int k (n:Int))=some n:=rfl
def AP5 {k:IntKind}:nat? (.int k 0)=some 0:=rfl
def xm {c:Array Value}:cK (.tuple c)=some c.toList:=rfl
def AP6 {a b:Array Value}:Mo (.func (.func g) a b)=some ⟨.fn g,a.toList,b.toList⟩:=rfl
def Yz {call:X6}{c:Call}:HQ call fr Z c f=ob (evs fr c.args.toList) fun vs=>ob (ev fr f) fun v=>ob (Mo v) fun f=>call f.g (f.first++vs++f.captured) Z:=rfl
end
/- Ur. -/
def po (a b:Nat):Nat.blt a b=decide (a<b):=by
 rw[z7z,Bt,z3z]
def Aj7 (a b:Nat):Nat.beq a b=decide (a=b):=by
 rw[z7z,z3z];exact⟨Aa,fun h=>by subst h;simp⟩
def Nn (a b:Int):ilt a b=decide (a<b):=by
 rw[z7z,z3z];cases a with
 | ofNat a=>cases b with
   |ofNat b=>simp only[ilt,po,z3z];exact Int.ofNat_lt.symm
   | negSucc b=>simp only[ilt];constructor
                ·intro h;cases h
                ·intro h;have:=AF6 b;have:=Int.natCast_nonneg a;simp only[JN]at h;omega
 | negSucc a=>cases b with
   |ofNat b=>simp only[ilt,true_iff];have:=AF6 a;have:=Int.natCast_nonneg b;simp only[JN];omega
   |negSucc b=>simp only[ilt,po,z3z];rw[dA,dA];omega
def oa (a b:Int):ieq a b=decide (a=b):=by
 rw[z7z,z3z];cases a with
 | ofNat a=>cases b with
   |ofNat b=>simp only[ieq,Aj7,z3z];exact Int.ofNat_inj.symm
   | negSucc b=>simp only[ieq];constructor
                ·intro h;cases h
                ·intro h;cases h
 | negSucc a=>cases b with
   | ofNat b=>simp only[ieq];constructor
              ·intro h;cases h
              ·intro h;cases h
   |negSucc b=>simp only[ieq,Aj7,z3z];rw[dA,dA];omega
def xP:∀ (a b:List UInt8),Li a b=decide (a=b):=by
 intro a;induction a with
 |nil=>intro b;cases b<;>simp[Li]
 | cons x xs ih=>
   intro b;cases b with
   |nil=>simp[Li]
   | cons y ys=>
     show bi (Nat.beq x.toNat y.toNat) (Li xs ys) false=_;by_cases h:x=y
     ·subst h;simp[ih]
     ·have:Nat.beq x.toNat y.toNat=false:=by
       cases hb:Nat.beq x.toNat y.toNat with
       |true=>exact absurd (UInt8.toNat_inj.1 (Aa hb)) h
       |false=>rfl
      rw[this];simp[h]
end
section
variable {b k:Nat}
def Own (Z:St) (b:Nat) (cs:List Value):Prop:=∃ ver t,Z.h.get b=some ⟨cs,true,true,ver,.row t⟩
structure Ext (Z Z':St):Prop where
 n:Z.n<=Z'.n
 same:∀ b,b<Z.n->Z'.h.get b=Z.h.get b
noncomputable def St.upd (Z:St) (b:Nat) (cs:List Value):St:=⟨Z.h.set b ⟨cs,true,true,Z.ver b+1,.row (Z.typ b)⟩,Z.n⟩
noncomputable def St.dead (Z:St) (b:Nat):St:=⟨Z.h.set b ⟨[],false,true,Z.ver b+1,.row none⟩,Z.n⟩
variable {t:Option TypeId}
@[simp] theorem F6 (Z:St) (cs:List Value):(Z.new cs t).n=Z.n+1:=rfl
@[simp] theorem Gn (Z:St) (b:Nat) (cs:List Value):(Z.upd b cs).n=Z.n:=rfl
@[simp] theorem OB (Z:St) (b:Nat):(Z.dead b).n=Z.n:=rfl
theorem CX (Z:St) (cs:List Value) (b:Nat):(Z.new cs t).h.get b=if b=Z.n then some ⟨cs,true,true,0,.row t⟩else Z.h.get b:=Tr.Au _ _ _ _
def W1 (Z:St) (c:Nat) (cs:List Value) (b:Nat):(Z.upd c cs).h.get b=if b=c then some ⟨cs,true,true,Z.ver c+1,.row (Z.typ c)⟩else Z.h.get b:=Tr.Au _ _ _ _
def Gm (Z:St) (c:Nat) (b:Nat):(Z.dead c).h.get b=if b=c then some ⟨[],false,true,Z.ver c+1,.row none⟩else Z.h.get b:=Tr.Au _ _ _ _
def Ext.refl (Z:St):Ext Z Z:=⟨BF _,fun _ _=>rfl⟩
def Ext.trans {Z Z' Z'':St}(h:Ext Z Z') (k:Ext Z' Z''):Ext Z Z'':=⟨AV h.n k.n,fun b hb=>by rw[k.same b (z5z hb h.n),h.same b hb]⟩
def Ext.new (Z:St) (cs:List Value):Ext Z (Z.new cs t):=⟨Nat.le_succ _,fun b hb=>by rw[CX,z0z om]⟩
def Ext.upd {Z Z':St}(h:Ext Z Z')(hb:Z.n<=b) (cs:List Value):Ext Z (Z'.upd b cs):=⟨h.n,fun c hc=>by rw[W1,z0z om,h.same c hc]⟩
def Ext.dead {Z Z':St}(h:Ext Z Z')(hb:Z.n<=b):Ext Z (Z'.dead b):=⟨h.n,fun c hc=>by rw[Gm,z0z om,h.same c hc]⟩
def Ext.W6 {Z Z':St}(h:Ext Z Z') (cs:List Value):Ext Z (Z'.new cs t):=h.trans (.new _ _)
def Own.new (Z:St) (cs:List Value):Own (Z.new cs t) Z.n cs:=⟨0,t,by rw[CX,z1z rfl]⟩
def Own.upd (Z:St) (b:Nat) (cs:List Value):Own (Z.upd b cs) b cs:=⟨_,_,by rw[W1,z1z rfl]⟩
/- Reads and writes, through new blocks and writes. -/
def eR {Z Z':St}(h:Z'.h.get b=Z.h.get b) (off n:Nat):Z'.read b off n=Z.read b off n:=by
 show ob (ob (ob (Z'.h.get b) _) _) _=ob (ob (ob (Z.h.get b) _) _) _;rw[h]
def Ym (Z:St) (cs:List Value)(off n:Nat) (h:b≠Z.n):(Z.new cs t).read b off n=Z.read b off n:=eR (by rw[CX,z0z h]) _ _
/- sP. -/
def zP {α:Type}(l:List α):sub l 0 l.length=some l:=by rw[o9 om];simp
def zQ {α:Type}(l:List α) (n:Nat) (h:n=l.length):sub l 0 n=some l:=by subst h;exact zP l
def eF {α:Type}(l:List α):takeN 0 l=some []:=rfl
def eG {α:Type}(n:Nat) (x:α) (l:List α):takeN (n+1) (x::l)=ob (takeN n l) fun r=>some (x::r):=rfl
def HP {α:Type}:∀ (B9:List (List α)),(∀ r∈B9,r.length=k)->B9.flatten.length=B9.length*k:=by
 intro B9;induction B9 with
 |nil=>intro _;simp
 |cons r B9 ih=>intro h;simp[ih (fun r hr=>h r (by simp[hr])),h r (by simp),Sp];omega
def Wg {α:Type}:∀ (B9:List (List α)) (i:Nat),(∀ r∈B9,r.length=k)->B9.flatten.drop (i*k)=(B9.drop i).flatten:=by
 intro B9;induction B9 with
 |nil=>intro i _;simp
 | cons r B9 ih=>
   intro i h;cases i with
   |zero=>simp
   | succ i=>
     have hr:=h r (by simp);rw[Vu,List.drop_append];rw[List.drop_eq_nil_of_le (by rw[hr,Sp];omega),Jb,hr,show(i+1)*k-k=i*k from by rw[Sp];omega,ih i (fun r hr=>h r (by simp[hr]))];rfl
def Jc {α:Type}{B9:List (List α)}(h:∀ r∈B9,r.length=k){i:Nat}{r:List α}(hi:B9[i]? =some r){o n:Nat}(ho:o+n<=k):sub B9.flatten (i*k+o) n=sub r o n:=by
 obtain⟨hlt,he⟩:=List.getElem?_eq_some_iff.1 hi;have hr:r.length=k:=h r (by rw[<- he];exact List.getElem_mem hlt);have hlen:(B9.length-i)*k<=B9.length*k-i*k:=by rw[Nat.sub_mul];exact BF _
 have h1:i*k+k<=B9.length*k:=by
  have:(i+1)*k<=B9.length*k:=jJ k hlt;rw[Sp]at this;exact this
 rw[o9 (by rw[HP B9 h];omega),o9 om];rw[<- dk,Wg B9 i h,PL hlt,he,Vu,List.drop_append,List.take_append];rw[show n-(r.drop o).length=0 from by rw[Ng];omega];simp
end
section
variable {n m:Nat}{c b:Bool}{a:Option Addr}{body:Code}{l:List Oper}
universe q
structure Hd {α:Sort q}(a:α):Type where
def Ev {α:Type}(x:Option α) (Q:α->Prop) (_u:Hd Q):Prop:=∃ a,x=some a/\Q a
def Ca (c:Bool) (A:Prop) (_u:Hd A):Prop:=c=true/\A
def Br (c:Bool) (A B:Prop) (_u:Hd fun x:Bool=>cond x A B):Prop:=(c=true->A)/\(c=false->B)
def Ev.mono {α:Type}{x:Option α}{Q R:α->Prop}{u:Hd Q}{v:Hd R}(h:Ev x R v) (k:∀ a,R a->Q a):Ev x Q u:=let ⟨a,h1,h2⟩:=h;⟨a,h1,k a h2⟩
def K6 {α:Type}{a:α}{Q:α->Prop}{u:Hd Q}:Ev (some a) Q u=Q a:=propext ⟨fun⟨b,h1,h2⟩=>by cases h1;exact h2,fun h=>⟨a,rfl,h⟩⟩
def F7 {α β:Type}{x:Option α}{f:α->Option β}{Q:β->Prop}{u:Hd Q}:Ev (ob x f) Q u=Ev x (fun a=>Ev (f a) Q ⟨⟩) ⟨⟩:=propext ⟨fun⟨b,h1,h2⟩=>by
 obtain⟨a,h3,h4⟩:=A8 h1;exact⟨a,h3,b,h4,h2⟩,fun⟨a,h1,b,h2,h3⟩=>⟨b,by rw[h1];exact h2,h3⟩⟩
def pg {β:Type}{x:Option β}{Q:β->Prop}{u:Hd Q}:Ev (bb c x) Q u=Ca c (Ev x Q ⟨⟩) ⟨⟩:=propext ⟨fun⟨b,h1,h2⟩=>by
 obtain⟨h3,h4⟩:=G7 h1;exact⟨h3,b,h4,h2⟩,fun⟨h1,b,h2,h3⟩=>⟨b,by rw[h1];exact h2,h3⟩⟩
def Re {β:Type}{x y:Option β}{Q:β->Prop}{u:Hd Q}:Ev (bi c x y) Q u=Br c (Ev x Q ⟨⟩) (Ev y Q ⟨⟩) ⟨⟩:=by
 cases c with
 |true=>exact propext ⟨fun h=>⟨fun _=>h,fun h=>by cases h⟩,fun h=>h.1 rfl⟩
 |false=>exact propext ⟨fun h=>⟨fun h=>(by cases h),fun _=>h⟩,fun h=>h.2 rfl⟩
def AO8 {β:Type}{c:Prop} [Decidable c] {x y:Option β}{Q:β->Prop}{u:Hd Q}:Ev (if c then x else y) Q u=Br (decide c) (Ev x Q ⟨⟩) (Ev y Q ⟨⟩) ⟨⟩:=by
 by_cases h:c
 ·rw[z1z h];exact propext ⟨fun k=>⟨fun _=>k,fun g=>by simp[h]at g⟩,fun k=>k.1 (by simp[h])⟩
 ·rw[z0z h];exact propext ⟨fun k=>⟨fun g=>by simp[h]at g,fun _=>k⟩,fun k=>k.2 (by simp[h])⟩
def jz {A:Prop}{u:Hd A}:Ca true A u=A:=propext ⟨fun h=>h.2,fun h=>⟨rfl,h⟩⟩
def xN {A B:Prop}{u:Hd fun x:Bool=>cond x A B}:Br true A B u=A:=propext ⟨fun h=>h.1 rfl,fun h=>⟨fun _=>h,fun h=>by cases h⟩⟩
def ph {A B:Prop}{u:Hd fun x:Bool=>cond x A B}:Br false A B u=B:=propext ⟨fun h=>h.2 rfl,fun h=>⟨fun h=>(by cases h),fun _=>h⟩⟩
def Br.intro {A B:Prop}{u:Hd fun x:Bool=>cond x A B}(h:c=true->A) (k:c=false->B):Br c A B u:=⟨h,k⟩
def Ca.intro {A:Prop}{u:Hd A}(h:c=true) (k:A):Ca c A u:=⟨h,k⟩
section
variable {P:Program}{H:Dq}{rd:Option Nat}{fr:Fr}{Z:St}
def LP (I:Nat->Fr->St->Prop) (R:Res->Prop) (n:Nat) (r:Res):Prop:=match r.o with
 | .normal=>∃ m,m<n/\I m r.fr r.Z
 |_=>R r
def j7 {I:Nat->Fr->St->Prop}{R:Res->Prop}:LP I R n ⟨.normal,fr,Z⟩=∃ m,m<n/\I m fr Z:=rfl
def Bj {I:Nat->Fr->St->Prop}{R:Res->Prop}{k:Nat}:LP I R n ⟨.exit k,fr,Z⟩=R ⟨.exit k,fr,Z⟩:=rfl
def AK4 {I:Nat->Fr->St->Prop}{R:Res->Prop}:LP I R n ⟨.ret,fr,Z⟩=R ⟨.ret,fr,Z⟩:=rfl
def CD {Q:Res->Prop}{u:Hd Q}(I:Nat->Fr->St->Prop) (R:Res->Prop) (n:Nat) (h0:I n fr Z) (hs:∀ n fr Z,I n fr Z->Ev (lim P H rd body fr Z) (LP I R n) ⟨⟩) (hR:∀ r,R r->Q r):
  Ev (lim P H rd (.loop body) fr Z) Q u:=by
 have key:∀ n,∀ m,m<=n->∀ fr Z,I m fr Z->Ev (lim P H rd (.loop body) fr Z) R ⟨⟩:=by
  intro n;induction n with
  | zero=>
    intro m hm fr Z h;rw[gN,F7];refine(hs m fr Z h).mono ?_;rintro⟨o,fr',Z'⟩ hq;cases o with
    |normal=>obtain⟨k,hk,_⟩:=hq;omega
    |exit i=>rw[WG,K6];exact hq
    |ret=>rw[ct,K6];exact hq
    |pan v=>rw[pj,K6];exact hq
  | succ n ih=>
    intro m hm fr Z h;rw[gN,F7];refine(hs m fr Z h).mono ?_;rintro⟨o,fr',Z'⟩ hq;cases o with
    |normal=>obtain⟨k,hk,hi⟩:=hq;rw[kA];exact ih k om fr' Z' hi
    |exit i=>rw[WG,K6];exact hq
    |ret=>rw[ct,K6];exact hq
    |pan v=>rw[pj,K6];exact hq
 exact(key n n nL fr Z h0).mono hR
def cu {k:Nat}:lim P H rd (.region k l.toArray false) fr Z=opsV P (go P H) l.toArray l fr Z:=Hf ..
structure WH (l:List Oper):Prop where
 no:FX l=false
def pk {k:Nat}(h:WH l):lim P H rd (.region k l.toArray true) fr Z=drawn l.toArray (M5 P (go P H) l.toArray l 0 fr Z []):=xO h.no
def kB {f:Operand}{ps:List Tmp}{assign:Code}:lim P H rd (.rangeFunc f ps.toArray assign body) fr Z=cw P (go P H) rd f ps assign body fr Z:=Hf ..
def toArray_toList {α:Type}{l:List α}:l.toArray.toList=l:=rfl
/- Operations on values. -/
section
variable {x y:Operand}{o:Oper}{t u:TypeId}{k:IntKind}
def jC {c:Callee}:Qq P fr ⟨c,#[x],#[t]⟩=ob (ev fr x) fun v=>ob (oD (P.underlying t) v) fun n=>some (.int .i64 n):=by
 show ob (ob (ev fr x) fun v=>ob (some []) fun vs=>some (v::vs)) _=_;cases ev fr x<;>rfl
def kC {e:TypeId}{c:Nat}:oD (some (.slice e)) (.slice a n c)=some n:=rfl
def Tw (a b:ByteArray):Li a.data.toList b.data.toList=decide (a=b):=by
 rw[xP];by_cases h:a=b
 ·subst h;simp
 ·rw[z4z h,z4z];intro e;apply h;obtain⟨⟨a⟩⟩:=a;obtain⟨⟨b⟩⟩:=b;exact congrArg (fun l=>(⟨⟨l⟩⟩:ByteArray)) e
def WI {n:Int}(h1: -9223372036854775808<=n) (h2:n<=9223372036854775807):M6 .i64 n=n:=by
 unfold M6;have:inR .i64 n=true:=by
  cases n with
  |ofNat m=>simp only[inR,po,z3z];simp only[JN]at h2;omega
  |negSucc m=>simp only[inR,po,z3z];rw[dA]at h1;omega
 rw[this];rfl
def Xq (n:Nat):((n:Int)+1)=((n+1:Nat):Int):=rfl
def bq (a b:Nat):decide ((a:Int)<(b:Int))=decide (a<b):=sI
def kD {l:List Value}:J6 (.agg ⟨l⟩)=l:=rfl
def kE {n:Int}:J6 (.int k n)=[.int k n]:=rfl
def dB:J6 (.bool b)=[.bool b]:=rfl
def Jj {c:Nat}:J6 (.slice a n c)=[.slice a n c]:=rfl
def dD {f:Fn}{a b:Array Value}:J6 (.func f a b)=[.func f a b]:=rfl
def xQ {l:Array Value}:Di (.agg l)=false:=rfl
def xR {n:Int}:Di (.int k n)=false:=rfl
def pv:Di (.bool b)=false:=rfl
def Nt {c:Nat}:Di (.slice a n c)=false:=rfl
def qA {f:Fn}{a b:Array Value}:Di (.func f a b)=false:=rfl
def Pm (h:n=m):n.beq m=true:=by subst h;simp
def dE (h:n<m):Nat.blt n m=true:=by rw[po];simpa using h
def Jk (h:n<=m):Nat.ble n m=true:=AC9 h
end
end
def dG {α:Type}{l new:List α}(h:new.length=l.length):M7 l 0 new=some new:=by
 have key:∀ (new l:List α),new.length=l.length->over new l=some new:=by
  intro new;induction new with
  | nil=>intro l h;cases l with
    |nil=>rfl
    |cons=>simp at h
  | cons x xs ih=>
    intro l h;cases l with
    |nil=>simp at h
    | cons y ys=>
      show ob (over xs ys) _=_;rw[ih ys (by simpa using h)];rfl
 exact key new l h
end
section
variable {x a c ix b v y t:Operand}{k n f:Nat}{as:Array Operand}{g:Nat×Bool}{next:Fr->St->Option Res}{fn:Func}
section
variable {P:Program}{H:Dq}{call:X6}{all:Array Oper}{l:List Oper}{fr:Fr}{Z:St}{d:Option Tmp}{ty:TypeId}{ps:String}{af:Array Edge}{i:Nat}{ds:List Trace}{rd:Option Nat}
def zb {op:Op}:M5 P call all (⟨d,op,ty,ps,af,some g⟩::l) i fr Z ds=ob (U9 all fr ⟨d,op,ty,ps,af,some g⟩) fun c=>bi c (M5 P call all (⟨d,op,ty,ps,af,none⟩::l) i fr Z ds) (M5 P call all l (i+1) (I2 fr d P9) Z ds):=by
 show ob _ _=_;cases hx:U9 all fr ⟨d,op,ty,ps,af,some g⟩with
 |none=>rfl
 |some c=>cases op<;>(cases c<;>rfl)
def Al8 {α β γ:Type}{a:α}{b:β}{f:α->β->Option γ}{Q:γ->Prop}{uq:Hd Q}:Ev (pr (a,b) f) Q uq=Ev (f a b) Q ⟨⟩:=rfl
def rT {Q:Res->Prop}{uq:Hd Q}:Ev (opsV P call all (⟨d,.move x,ty,ps,af,none⟩::l) fr Z) Q uq=Ev (ev fr x) (fun v=>Ev (opsV P call all l (I2 fr d v) Z) Q ⟨⟩) ⟨⟩:=by first|(rw[Yn,F7];done)|(rw[Yn,F7];rfl)
def dw {Q:Res->Prop}{uq:Hd Q}:Ev (opsV P call all (⟨d,.assign x,ty,ps,af,none⟩::l) fr Z) Q uq=Ev (ev fr x) (fun v=>Ev (opsV P call all l (I2 fr d v) Z) Q ⟨⟩) ⟨⟩:=by first|(rw[Rf,F7];done)|(rw[Rf,F7];rfl)
def rU {Q:Res->Prop}{uq:Hd Q}:Ev (opsV P call all (⟨d,.pick c a b,ty,ps,af,none⟩::l) fr Z) Q uq=Ev (Je fr c a b) (fun v=>Ev (opsV P call all l (I2 fr d v) Z) Q ⟨⟩) ⟨⟩:=by first|(rw[Yp,F7];done)|(rw[Yp,F7];rfl)
def kh {t:TypeId}{Q:Res->Prop}{uq:Hd Q}:Ev (opsV P call all (⟨d,.alloc t,ty,ps,af,none⟩::l) fr Z) Q uq=Ev (X8 P t) (fun r=>Ev (opsV P call all l (I2 fr d (r.2 Z.n)) (Z.new r.1 (some t))) Q ⟨⟩) ⟨⟩:=by first|(rw[UG,F7];done)|(rw[UG,F7];rfl)
def yd {t:TypeId}{Q:Res->Prop}{uq:Hd Q}:Ev (opsV P call all (⟨d,.box t x,ty,ps,af,none⟩::l) fr Z) Q uq=Ev (bL fr x) (fun r=>Ev (opsV P call all l (I2 fr d (r.2 Z.n)) (Z.new r.1)) Q ⟨⟩) ⟨⟩:=by first|(rw[gQ,F7];done)|(rw[gQ,F7];rfl)
def ki {t:TypeId}{parts:Array (Nat×Operand)}{Q:Res->Prop}{uq:Hd Q}:Ev (opsV P call all (⟨d,.build t parts,ty,ps,af,none⟩::l) fr Z) Q uq=Ev (Ft P fr t parts) (fun v=>Ev (opsV P call all l (I2 fr d v) Z) Q ⟨⟩) ⟨⟩:=by first|(rw[UI,F7];done)|(rw[UI,F7];rfl)
def Rx {t:TypeId}{parts:Array (Nat×Operand)}{Q:Res->Prop}{uq:Hd Q}:Ev (opsV P call all (⟨d,.buildSlice t n parts,ty,ps,af,none⟩::l) fr Z) Q uq=Ev (Gb P fr t n parts) (fun r=>Ev (opsV P call all l (I2 fr d (r.2 Z.n)) (Z.new r.1)) Q ⟨⟩) ⟨⟩:=by first|(rw[Jm,F7];done)|(rw[Jm,F7];rfl)
def eA {t:TypeId}{m k:Operand}{Q:Res->Prop}{uq:Hd Q}:Ev (opsV P call all (⟨d,.insert t m k x,ty,ps,af,none⟩::l) fr Z) Q uq=Ev (Bb P fr Z t m k x) (fun r=>Ev (opsV P call all l (I2 fr d r.1) r.2) Q ⟨⟩) ⟨⟩:=by first|(rw[Rh,F7];done)|(rw[Rh,F7];rfl)
def rV {t:TypeId}{Q:Res->Prop}{uq:Hd Q}:Ev (opsV P call all (⟨d,.load t a,ty,ps,af,none⟩::l) fr Z) Q uq=Ev (Ht P fr Z t a) (fun r=>Ev (opsV P call all l (I2 fr d r.1) Z) Q ⟨⟩) ⟨⟩:=by first|(rw[Yr,F7];done)|(rw[Yr,F7];rfl)
def kj {t:TypeId}{Q:Res->Prop}{uq:Hd Q}:Ev (opsV P call all (⟨d,.store t a v,ty,ps,af,none⟩::l) fr Z) Q uq=Ev (Gs P fr Z t a v) (fun r=>Ev (opsV P call all l (I2 fr d r.1) r.2) Q ⟨⟩) ⟨⟩:=by first|(rw[UK,F7];done)|(rw[UK,F7];rfl)
def WV {Q:Res->Prop}{uq:Hd Q}:Ev (opsV P call all (⟨d,.nilCheck x,ty,ps,af,none⟩::l) fr Z) Q uq=Ev (Bo fr x) (fun v=>Ev (opsV P call all l (I2 fr d v) Z) Q ⟨⟩) ⟨⟩:=by first|(rw[Mq,F7];done)|(rw[Mq,F7];rfl)
def yf {b:BinOp}{t u:TypeId}{Q:Res->Prop}{uq:Hd Q}:Ev (opsV P call all (⟨d,.binOp b t x y u,ty,ps,af,none⟩::l) fr Z) Q uq=Ev (Qt P fr ⟨d,.binOp b t x y u,ty,ps,af,none⟩ b t x y) (fun v=>Ev (opsV P call all l (I2 fr d v) Z) Q ⟨⟩) ⟨⟩:=by first|(rw[gR,F7];done)|(rw[gR,F7];rfl)
def AR7 {b:UnOp}{t:TypeId}{Q:Res->Prop}{uq:Hd Q}:Ev (opsV P call all (⟨d,.unOp b t x,ty,ps,af,none⟩::l) fr Z) Q uq=Ev (Ej P fr ⟨d,.unOp b t x,ty,ps,af,none⟩ x) (fun v=>Ev (opsV P call all l (I2 fr d v) Z) Q ⟨⟩) ⟨⟩:=by first|(rw[qB,F7];done)|(rw[qB,F7];rfl)
def rW {fn:Fn}{fs cs:Array Operand}{Q:Res->Prop}{uq:Hd Q}:Ev (opsV P call all (⟨d,.makeFunc fn fs cs,ty,ps,af,none⟩::l) fr Z) Q uq=Ev (RA fr fn fs cs) (fun v=>Ev (opsV P call all l (I2 fr d v) Z) Q ⟨⟩) ⟨⟩:=by first|(rw[Yt,F7];done)|(rw[Yt,F7];rfl)
def ZX {t:TypeId}{r:Option Operand}{Q:Res->Prop}{uq:Hd Q}:Ev (opsV P call all (⟨d,.makeMap t r,ty,ps,af,none⟩::l) fr Z) Q uq=Ev (Fg fr Z r) (fun r=>Ev (opsV P call all l (I2 fr d r.1) r.2) Q ⟨⟩) ⟨⟩:=by first|(rw[Oi,F7];done)|(rw[Oi,F7];rfl)
def TH {t:TypeId}{n:Operand}{Q:Res->Prop}{uq:Hd Q}:Ev (opsV P call all (⟨d,.makeSlice t n c,ty,ps,af,none⟩::l) fr Z) Q uq=Ev (QG P fr t n c) (fun r=>Ev (opsV P call all l (I2 fr d (r.2 Z.n)) (Z.new r.1)) Q ⟨⟩) ⟨⟩:=by first|(rw[Ku,F7];done)|(rw[Ku,F7];rfl)
def km {t:TypeId}{lo hi mx:Option Operand}{Q:Res->Prop}{uq:Hd Q}:Ev (opsV P call all (⟨d,.slice t x lo hi mx,ty,ps,af,none⟩::l) fr Z) Q uq=Ev (LY P fr t x lo hi mx) (fun v=>Ev (opsV P call all l (I2 fr d v) Z) Q ⟨⟩) ⟨⟩:=by first|(rw[UM,F7];done)|(rw[UM,F7];rfl)
def TI {s:TypeId}{Q:Res->Prop}{uq:Hd Q}:Ev (opsV P call all (⟨d,.fieldAddr s x f,ty,ps,af,none⟩::l) fr Z) Q uq=Ev (AY P fr s x f) (fun v=>Ev (opsV P call all l (I2 fr d v) Z) Q ⟨⟩) ⟨⟩:=by first|(rw[Kv,F7];done)|(rw[Kv,F7];rfl)
def TJ {t:TypeId}{Q:Res->Prop}{uq:Hd Q}:Ev (opsV P call all (⟨d,.indexAddr t x ix,ty,ps,af,none⟩::l) fr Z) Q uq=Ev (Al P fr t x ix) (fun v=>Ev (opsV P call all l (I2 fr d v) Z) Q ⟨⟩) ⟨⟩:=by first|(rw[Kx,F7];done)|(rw[Kx,F7];rfl)
def kq {t:TypeId}{Q:Res->Prop}{uq:Hd Q}:Ev (opsV P call all (⟨d,.index t x ix,ty,ps,af,none⟩::l) fr Z) Q uq=Ev (Ld P fr t x ix) (fun v=>Ev (opsV P call all l (I2 fr d v) Z) Q ⟨⟩) ⟨⟩:=by first|(rw[UN,F7];done)|(rw[UN,F7];rfl)
def eB {t:TypeId}{ok:Bool}{Q:Res->Prop}{uq:Hd Q}:Ev (opsV P call all (⟨d,.lookup t x ix ok,ty,ps,af,none⟩::l) fr Z) Q uq=Ev (GO P fr Z t x ix ok) (fun r=>Ev (opsV P call all l (I2 fr d r.1) r.2) Q ⟨⟩) ⟨⟩:=by first|(rw[Ri,F7];done)|(rw[Ri,F7];rfl)
def ZY {ix:Nat}{Q:Res->Prop}{uq:Hd Q}:Ev (opsV P call all (⟨d,.extract t ix,ty,ps,af,none⟩::l) fr Z) Q uq=Ev (Cs fr t ix) (fun v=>Ev (opsV P call all l (I2 fr d v) Z) Q ⟨⟩) ⟨⟩:=by first|(rw[Oj,F7];done)|(rw[Oj,F7];rfl)
def yg {ts:Array TypeId}{Q:Res->Prop}{uq:Hd Q}:Ev (opsV P call all (⟨d,.call ⟨.builtin .len,as,ts⟩,ty,ps,af,none⟩::l) fr Z) Q uq=Ev (Qq P fr ⟨.builtin .len,as,ts⟩) (fun v=>Ev (opsV P call all l (I2 fr d v) Z) Q ⟨⟩) ⟨⟩:=by first|(rw[gV,F7];done)|(rw[gV,F7];rfl)
def yh {ts:Array TypeId}{Q:Res->Prop}{uq:Hd Q}:Ev (opsV P call all (⟨d,.call ⟨.builtin .max,as,ts⟩,ty,ps,af,none⟩::l) fr Z) Q uq=Ev (pMM fr true ⟨.builtin .max,as,ts⟩) (fun v=>Ev (opsV P call all l (I2 fr d v) Z) Q ⟨⟩) ⟨⟩:=by first|(rw[gX,F7];done)|(rw[gX,F7];rfl)
def eC {ts:Array TypeId}{Q:Res->Prop}{uq:Hd Q}:Ev (opsV P call all (⟨d,.call ⟨.builtin .append,as,ts⟩,ty,ps,af,none⟩::l) fr Z) Q uq=Ev (Dx P fr Z ⟨.builtin .append,as,ts⟩) (fun r=>Ev (opsV P call all l (I2 fr d r.1) r.2) Q ⟨⟩) ⟨⟩:=by first|(rw[Rj,F7];done)|(rw[Rj,F7];rfl)
def rX {f:Operand}{ts:Array TypeId}{Q:Res->Prop}{uq:Hd Q}:Ev (opsV P call all (⟨d,.call ⟨.value f,as,ts⟩,ty,ps,af,none⟩::l) fr Z) Q uq =
  Ev (evs fr as.toList) (fun vs=>Ev (ev fr f) (fun v=>Ev (Mo v) (fun F=>Ev (call F.g (F.first++vs++F.captured) Z) (fun r=>Br r.pan (Q ⟨.pan r.v,fr,r.Z⟩) (Ev (opsV P call all l (I2 fr d r.v) r.Z) Q ⟨⟩) ⟨⟩) ⟨⟩) ⟨⟩) ⟨⟩) ⟨⟩:=by
 rw[qC,Yz,F7,F7];refine congrArg (fun z=>Ev _ z ⟨⟩) (funext fun vs=>?_);rw[F7];refine congrArg (fun z=>Ev _ z ⟨⟩) (funext fun v=>?_);rw[F7];refine congrArg (fun z=>Ev _ z ⟨⟩) (funext fun F=>?_);refine congrArg (fun z=>Ev _ z ⟨⟩) (funext fun r=>?_);rw[Re,K6]
def YS {s t:TypeId}{Q:Res->Prop}{uq:Hd Q}:Ev (opsV P call all (⟨d,.convert s t x,ty,ps,af,none⟩::l) fr Z) Q uq =
  Ev (orS (asNew Z (Gd P fr s t x)) (orS (Df Z (DD P fr Z s t x)) (J5 Z (Ej P fr ⟨d,.convert s t x,ty,ps,af,none⟩ x)))) (fun r=>Ev (W9 P call all l fr r d) Q ⟨⟩) ⟨⟩:=by rw[Yu,F7]
def AR8 {op:Op}{Q:Res->Prop}{uq:Hd Q}:Ev (opsV P call all (⟨d,op,ty,ps,af,some g⟩::l) fr Z) Q uq=Ev (U9 all fr ⟨d,op,ty,ps,af,some g⟩) (fun c=>Br c (Ev (opsV P call all (⟨d,op,ty,ps,af,none⟩::l) fr Z) Q ⟨⟩) (Ev (opsV P call all l (I2 fr d P9) Z) Q ⟨⟩) ⟨⟩) ⟨⟩:=by
 rw[xS,F7];refine congrArg (fun z=>Ev _ z ⟨⟩) (funext fun c=>?_);rw[Re]
def rY {Q:FST->Prop}{uq:Hd Q}:Ev (M5 P call all (⟨d,.move x,ty,ps,af,none⟩::l) i fr Z ds) Q uq=Ev (ev fr x) (fun v=>Ev (M5 P call all l (i+1) (I2 fr d v) Z ds) Q ⟨⟩) ⟨⟩:=by first|(rw[Yo,F7];done)|(rw[Yo,F7];rfl)
def eD {Q:FST->Prop}{uq:Hd Q}:Ev (M5 P call all (⟨d,.assign x,ty,ps,af,none⟩::l) i fr Z ds) Q uq=Ev (ev fr x) (fun v=>Ev (M5 P call all l (i+1) (I2 fr d v) Z ds) Q ⟨⟩) ⟨⟩:=by first|(rw[Rg,F7];done)|(rw[Rg,F7];rfl)
def re {Q:FST->Prop}{uq:Hd Q}:Ev (M5 P call all (⟨d,.pick c a b,ty,ps,af,none⟩::l) i fr Z ds) Q uq=Ev (Je fr c a b) (fun v=>Ev (M5 P call all l (i+1) (I2 fr d v) Z ds) Q ⟨⟩) ⟨⟩:=by first|(rw[Yq,F7];done)|(rw[Yq,F7];rfl)
def kr {t:TypeId}{Q:FST->Prop}{uq:Hd Q}:Ev (M5 P call all (⟨d,.alloc t,ty,ps,af,none⟩::l) i fr Z ds) Q uq=Ev (X8 P t) (fun r=>Ev (M5 P call all l (i+1) (I2 fr d (r.2 Z.n)) (Z.new r.1 (some t)) ds) Q ⟨⟩) ⟨⟩:=by first|(rw[UH,F7];done)|(rw[UH,F7];rfl)
def ks {t:TypeId}{parts:Array (Nat×Operand)}{Q:FST->Prop}{uq:Hd Q}:Ev (M5 P call all (⟨d,.build t parts,ty,ps,af,none⟩::l) i fr Z ds) Q uq=Ev (Ft P fr t parts) (fun v=>Ev (M5 P call all l (i+1) (I2 fr d v) Z ds) Q ⟨⟩) ⟨⟩:=by first|(rw[UJ,F7];done)|(rw[UJ,F7];rfl)
def Ry {t:TypeId}{parts:Array (Nat×Operand)}{Q:FST->Prop}{uq:Hd Q}:Ev (M5 P call all (⟨d,.buildSlice t n parts,ty,ps,af,none⟩::l) i fr Z ds) Q uq=Ev (Gb P fr t n parts) (fun r=>Ev (M5 P call all l (i+1) (I2 fr d (r.2 Z.n)) (Z.new r.1) ds) Q ⟨⟩) ⟨⟩:=by first|(rw[Jn,F7];done)|(rw[Jn,F7];rfl)
def rf {t:TypeId}{Q:FST->Prop}{uq:Hd Q}:Ev (M5 P call all (⟨d,.load t a,ty,ps,af,none⟩::l) i fr Z ds) Q uq=Ev (Ht P fr Z t a) (fun r=>Ev (M5 P call all l (i+1) (I2 fr d r.1) Z (.read i r.2::ds)) Q ⟨⟩) ⟨⟩:=by first|(rw[Ys,F7];done)|(rw[Ys,F7];rfl)
def ku {t:TypeId}{Q:FST->Prop}{uq:Hd Q}:Ev (M5 P call all (⟨d,.store t a v,ty,ps,af,none⟩::l) i fr Z ds) Q uq=Ev (Gs P fr Z t a v) (fun r=>Ev (M5 P call all l (i+1) (I2 fr d r.1) r.2 (.eff i Z r.2::ds)) Q ⟨⟩) ⟨⟩:=by first|(rw[UL,F7];done)|(rw[UL,F7];rfl)
def WW {Q:FST->Prop}{uq:Hd Q}:Ev (M5 P call all (⟨d,.nilCheck x,ty,ps,af,none⟩::l) i fr Z ds) Q uq=Ev (Bo fr x) (fun v=>Ev (M5 P call all l (i+1) (I2 fr d v) Z ds) Q ⟨⟩) ⟨⟩:=by first|(rw[Mr,F7];done)|(rw[Mr,F7];rfl)
def yi {b:BinOp}{t u:TypeId}{Q:FST->Prop}{uq:Hd Q}:Ev (M5 P call all (⟨d,.binOp b t x y u,ty,ps,af,none⟩::l) i fr Z ds) Q uq=Ev (Qt P fr ⟨d,.binOp b t x y u,ty,ps,af,none⟩ b t x y) (fun v=>Ev (M5 P call all l (i+1) (I2 fr d v) Z ds) Q ⟨⟩) ⟨⟩:=by first|(rw[gT,F7];done)|(rw[gT,F7];rfl)
def TK {s:TypeId}{Q:FST->Prop}{uq:Hd Q}:Ev (M5 P call all (⟨d,.fieldAddr s x f,ty,ps,af,none⟩::l) i fr Z ds) Q uq=Ev (AY P fr s x f) (fun v=>Ev (M5 P call all l (i+1) (I2 fr d v) Z ds) Q ⟨⟩) ⟨⟩:=by first|(rw[Kw,F7];done)|(rw[Kw,F7];rfl)
def TL {t:TypeId}{Q:FST->Prop}{uq:Hd Q}:Ev (M5 P call all (⟨d,.indexAddr t x ix,ty,ps,af,none⟩::l) i fr Z ds) Q uq=Ev (Al P fr t x ix) (fun v=>Ev (M5 P call all l (i+1) (I2 fr d v) Z ds) Q ⟨⟩) ⟨⟩:=by first|(rw[Ky,F7];done)|(rw[Ky,F7];rfl)
def ZZ {ix:Nat}{Q:FST->Prop}{uq:Hd Q}:Ev (M5 P call all (⟨d,.extract t ix,ty,ps,af,none⟩::l) i fr Z ds) Q uq=Ev (Cs fr t ix) (fun v=>Ev (M5 P call all l (i+1) (I2 fr d v) Z ds) Q ⟨⟩) ⟨⟩:=by first|(rw[Ol,F7];done)|(rw[Ol,F7];rfl)
def yj {ts:Array TypeId}{Q:FST->Prop}{uq:Hd Q}:Ev (M5 P call all (⟨d,.call ⟨.builtin .len,as,ts⟩,ty,ps,af,none⟩::l) i fr Z ds) Q uq=Ev (Qq P fr ⟨.builtin .len,as,ts⟩) (fun v=>Ev (M5 P call all l (i+1) (I2 fr d v) Z ds) Q ⟨⟩) ⟨⟩:=by first|(rw[gW,F7];done)|(rw[gW,F7];rfl)
def eE {ts:Array TypeId}{Q:FST->Prop}{uq:Hd Q}:Ev (M5 P call all (⟨d,.call ⟨.builtin .append,as,ts⟩,ty,ps,af,none⟩::l) i fr Z ds) Q uq=Ev (Dx P fr Z ⟨.builtin .append,as,ts⟩) (fun r=>Ev (M5 P call all l (i+1) (I2 fr d r.1) r.2 (.eff i Z r.2::ds)) Q ⟨⟩) ⟨⟩:=by first|(rw[Rk,F7];done)|(rw[Rk,F7];rfl)
def rh {f:Operand}{ts:Array TypeId}{Q:FST->Prop}{uq:Hd Q}:Ev (M5 P call all (⟨d,.call ⟨.value f,as,ts⟩,ty,ps,af,none⟩::l) i fr Z ds) Q uq =
  Ev (evs fr as.toList) (fun vs=>Ev (ev fr f) (fun v=>Ev (Mo v) (fun F=>Ev (call F.g (F.first++vs++F.captured) Z) (fun r=>Br r.pan (Ev (kF P call all (.call ⟨.value f,as,ts⟩) l i fr Z r.v r.Z ds) Q ⟨⟩) (Ev (M5 P call all l (i+1) (I2 fr d r.v) r.Z (.eff i Z r.Z::ds)) Q ⟨⟩) ⟨⟩) ⟨⟩) ⟨⟩) ⟨⟩) ⟨⟩:=by
 rw[qD,Yz,F7,F7];refine congrArg (fun z=>Ev _ z ⟨⟩) (funext fun vs=>?_);rw[F7];refine congrArg (fun z=>Ev _ z ⟨⟩) (funext fun v=>?_);rw[F7];refine congrArg (fun z=>Ev _ z ⟨⟩) (funext fun F=>?_);refine congrArg (fun z=>Ev _ z ⟨⟩) (funext fun r=>?_);rw[Re]
def YT {s t:TypeId}{Q:FST->Prop}{uq:Hd Q}:Ev (M5 P call all (⟨d,.convert s t x,ty,ps,af,none⟩::l) i fr Z ds) Q uq =
  Ev (orS (asNew Z (Gd P fr s t x)) (orS (Df Z (DD P fr Z s t x)) (J5 Z (Ej P fr ⟨d,.convert s t x,ty,ps,af,none⟩ x)))) (fun r=>Ev (Bp P call all (.convert s t x) l i fr Z ds r d) Q ⟨⟩) ⟨⟩:=by rw[Yv,F7]
def AR9 {op:Op}{Q:FST->Prop}{uq:Hd Q}:Ev (M5 P call all (⟨d,op,ty,ps,af,some g⟩::l) i fr Z ds) Q uq=Ev (U9 all fr ⟨d,op,ty,ps,af,some g⟩) (fun c=>Br c (Ev (M5 P call all (⟨d,op,ty,ps,af,none⟩::l) i fr Z ds) Q ⟨⟩) (Ev (M5 P call all l (i+1) (I2 fr d P9) Z ds) Q ⟨⟩) ⟨⟩) ⟨⟩:=by
 rw[zb,F7];refine congrArg (fun z=>Ev _ z ⟨⟩) (funext fun c=>?_);rw[Re]
def yb {Q:Res->Prop}{uq:Hd Q}:Ev (opsV P call all [] fr Z) Q uq=Q ⟨.normal,fr,Z⟩:=by rw[xT,K6]
def yc {Q:FST->Prop}{uq:Hd Q}:Ev (M5 P call all [] i fr Z ds) Q uq=Q ⟨fr,Z,ds,none⟩:=by rw[xU,K6]
section
variable {Q:Res->Prop}{uq:Hd Q}
def yV:Ev (lim P H rd .skip fr Z) Q uq=Q ⟨.normal,fr,Z⟩:=by rw[xV,K6]
def yW:Ev (lim P H rd (.exit k) fr Z) Q uq=Q ⟨.exit k,fr,Z⟩:=by rw[xW,K6]
def AR3:Ev (lim P H rd .ret fr Z) Q uq=Q ⟨.ret,fr,Z⟩:=by rw[AO9,K6]
def rR {a b:Code}:Ev (lim P H rd (.seq a b) fr Z) Q uq=Ev (lim P H rd a fr Z) (fun r=>Ev (Aj r (lim P H rd b)) Q ⟨⟩) ⟨⟩:=by rw[AP0,F7]
def rS {a:Code}:Ev (lim P H rd (.block k a) fr Z) Q uq=Ev (lim P H rd a fr Z) (fun r=>Ev (Hb k r) Q ⟨⟩) ⟨⟩:=by rw[qE,F7]
def yX {a b:Code}:Ev (lim P H rd (.cond c a b) fr Z) Q uq=Ev (ev fr c) (fun v=>Ev (bool? v) (fun t=>Br t (Ev (lim P H rd a fr Z) Q ⟨⟩) (Ev (lim P H rd b fr Z) Q ⟨⟩) ⟨⟩) ⟨⟩) ⟨⟩:=by
 rw[xX,F7];refine congrArg (fun z=>Ev _ z ⟨⟩) (funext fun v=>?_);rw[F7];refine congrArg (fun z=>Ev _ z ⟨⟩) (funext fun t=>?_);rw[Re]
def kY {l:List Oper}:Ev (lim P H rd (.region k l.toArray false) fr Z) Q uq=Ev (opsV P (go P H) l.toArray l fr Z) Q ⟨⟩:=by rw[cu]
def yY {l:List Oper}(h:WH l):Ev (lim P H rd (.region k l.toArray true) fr Z) Q uq=Ev (M5 P (go P H) l.toArray l 0 fr Z []) (fun r=>Ca (BL (Region.before l.toArray).toList r.ds r.ds) (Q ⟨xr r.p,r.fr,r.Z⟩) ⟨⟩) ⟨⟩:=by
 rw[pk h];show Ev (ob _ _) Q uq=_;rw[F7];refine congrArg (fun z=>Ev _ z ⟨⟩) (funext fun r=>?_);obtain⟨fr,Z,ds⟩:=r;show Ev (bb _ _) Q _=_;rw[pg,K6]
def Ga:Ev (Aj ⟨.normal,fr,Z⟩ next) Q uq=Ev (next fr Z) Q ⟨⟩:=rfl
def yZ:Ev (Aj ⟨.exit k,fr,Z⟩ next) Q uq=Q ⟨.exit k,fr,Z⟩:=by rw[WG,K6]
def AR4:Ev (Aj ⟨.ret,fr,Z⟩ next) Q uq=Q ⟨.ret,fr,Z⟩:=by rw[ct,K6]
def kZ:Ev (Hb k ⟨.normal,fr,Z⟩) Q uq=Q ⟨.normal,fr,Z⟩:=by rw[kG,K6]
def AR5:Ev (Hb k ⟨.ret,fr,Z⟩) Q uq=Q ⟨.ret,fr,Z⟩:=by rw[AP1,K6]
def ya {m:Nat}:Ev (Hb k ⟨.exit m,fr,Z⟩) Q uq=Br (decide (m=k)) (Q ⟨.normal,fr,Z⟩) (Q ⟨.exit m,fr,Z⟩) ⟨⟩:=by
 rw[xY,AO8,K6,K6]
end
def kg {Q:CR->Prop}{uq:Hd Q}:Ev (HM P fn ⟨.normal,fr,Z⟩) Q uq=Ev (IP P fr Z fn.results.toList) (fun vs=>Q ⟨false,tup vs,Z⟩) ⟨⟩:=by
 rw[dH,F7];refine congrArg (fun z=>Ev _ z ⟨⟩) (funext fun vs=>?_);rw[K6]
def AR6 {Q:CR->Prop}{uq:Hd Q}:Ev (HM P fn ⟨.ret,fr,Z⟩) Q uq=Ev (IP P fr Z fn.results.toList) (fun vs=>Q ⟨false,tup vs,Z⟩) ⟨⟩:=by
 rw[xZ,F7];refine congrArg (fun z=>Ev _ z ⟨⟩) (funext fun vs=>?_);rw[K6]
def C9 {g:Nat}{vs:List Value}{fn:Func}{body:Code}{Q:CR->Prop}{uq:Hd Q}(hf:P.funcs[g]? =some fn) (hb:fn.body=some body) (hH:H g=none:=by rfl)
  (h:Ev (lim P H none body (HZ vs 0 .nil) Z) (fun r=>Ev (HM P fn r) Q ⟨⟩) ⟨⟩):Ev (go P H (.fn g) vs Z) Q uq:=by
 rw[Aj4 hH hf hb,F7];exact h
end
end
def J4 (Z:St) (b:Nat) (fr:Fr) (ps:List Nat) (assign body:Code) (st:LoopState) (R8:Option Code):Prop:=∃ cells ver,Z.h.get b=some ⟨cells,true,true,ver,.loop fr ps assign body st R8⟩
noncomputable def St.GS (Z:St) (b:Nat) (fr:Fr) (ps:List Nat) (assign body:Code) (st:LoopState) (R8:Option Code):St:=⟨Z.h.set b ⟨[],true,true,Z.ver b+1,.loop fr ps assign body st R8⟩,Z.n⟩
section
variable {Z:St}{b:Nat}{fr:Fr}{ps:List Nat}{assign body:Code}{st:LoopState}{R8:Option Code}
def J4.blk (h:J4 Z b fr ps assign body st R8):∃ cells ver,Z.blk b=some ⟨cells,true,true,ver,.loop fr ps assign body st R8⟩:=by
 obtain⟨c,v,h⟩:=h;refine⟨c,v,?_⟩;show ob (Z.h.get b) _=_;rw[h];rfl
def J4.Ih (h:J4 Z b fr ps assign body st R8):Z.Ih b=some ⟨fr,ps,assign,body,st,R8⟩:=by
 obtain⟨c,v,h⟩:=h.blk;show ob (Z.blk b) _=_;rw[h];rfl
def J4.BT (h:J4 Z b fr ps assign body st R8) (st':LoopState) (HV:Option Code):Z.BT b st' HV=some (Z.GS b fr ps assign body st' HV):=by
 obtain⟨c,v,hg⟩:=h;have hv:Z.ver b=v:=by unfold St.ver;rw[hg]
 obtain⟨c',v',h'⟩:=J4.blk ⟨c,v,hg⟩;have hv':v'=v:=by
  have:=(AH h').1;rw[hg]at this;cases this;rfl
 subst hv';show ob (Z.blk b) _=_;unfold St.GS;rw[h',hv];rfl
@[simp] theorem eH:(Z.GS b fr ps assign body st R8).n=Z.n:=rfl
@[simp] theorem eI (cs:List Value) (k:Kind):(Z.Dd cs k).n=Z.n+1:=rfl
theorem AA (c:Nat):(Z.GS b fr ps assign body st R8).h.get c=if c=b then some ⟨[],true,true,Z.ver b+1,.loop fr ps assign body st R8⟩else Z.h.get c:=Tr.Au _ _ _ _
def NI (cs:List Value) (k:Kind) (c:Nat):(Z.Dd cs k).h.get c=if c=Z.n then some ⟨cs,true,true,0,k⟩else Z.h.get c:=Tr.Au _ _ _ _
def J4.new:J4 (Z.Dd [] (.loop fr ps assign body st R8)) Z.n fr ps assign body st R8:=⟨[],0,by rw[NI,z1z rfl]⟩
def J4.upd:J4 (Z.GS b fr ps assign body st R8) b fr ps assign body st R8:=⟨[],_,by rw[AA,z1z rfl]⟩
def J4.Fs {Z':St}(h:J4 Z b fr ps assign body st R8) (he:Z'.h.get b=Z.h.get b):J4 Z' b fr ps assign body st R8:=let ⟨c,v,h⟩:=h;⟨c,v,by rw[he];exact h⟩
def Ext.Dd {Z0:St}(h:Ext Z0 Z) (cs:List Value) (k:Kind):Ext Z0 (Z.Dd cs k):=⟨Nat.le_succ_of_le h.n,fun c hc=>by rw[NI,z0z (by have:=h.n;omega),h.same c hc]⟩
def Ext.GS {Z0:St}(h:Ext Z0 Z) (hb:Z0.n<=b):Ext Z0 (Z.GS b fr ps assign body st R8):=⟨h.n,fun c hc=>by rw[AA,z0z om,h.same c hc]⟩
end
section
variable {P:Program}{H:Dq}{Z:St}{b:Nat}{fr:Fr}{ps:List Nat}{assign body:Code}{R8:Option Code}
def aN (b:Nat) (Q:CR->Prop) (r:Res):Prop:=∃ fr ps assign body st R8,J4 r.Z b fr ps assign body st R8/\(match r.o with
 | .normal=>Q ⟨false,.bool true,r.Z.GS b fr ps assign body .ready none⟩
 | .exit i=>Q ⟨false,.bool false,r.Z.GS b fr ps assign body .done (some (.exit i))⟩
 | .ret=>Q ⟨false,.bool false,r.Z.GS b fr ps assign body .done (some .ret)⟩
 | .pan _=>False)
def ax {r:Res}{Q:CR->Prop}{uq:Hd Q}(h:aN b Q r):Ev (aX b r) Q uq:=by
 obtain⟨fr,ps,as,bd,st,R8,h1,h2⟩:=h;obtain⟨o,fr',Z'⟩:=r;cases o with
 | normal=>
   show Ev (ob (Z'.BT b .ready none) _) Q _;rw[J4.BT h1,D4,K6];exact h2
 | exit i=>
   show Ev (ob (Z'.BT b .done (some (.exit i))) _) Q _;rw[J4.BT h1,D4,K6];exact h2
 | ret=>
   show Ev (ob (Z'.BT b .done (some .ret)) _) Q _;rw[J4.BT h1,D4,K6];exact h2
 |pan v=>exact h2.elim
def tX {vs:List Value}{fr1:Fr}{Q:CR->Prop}{uq:Hd Q}(hL:J4 Z b fr ps assign body .ready R8) (Mx:Ru ps vs fr=some fr1)
  (h:Ev (lim P H (some b) assign fr1 Z) (fun r=>∃ fr2 Z1 fr' ps' as' bd' HV,r=⟨.normal,fr2,Z1⟩/\J4 Z1 b fr' ps' as' bd' .ready HV/\Ev (lim P H (some b) body fr2 (Z1.GS b fr' ps' as' bd' .busy HV)) (aN b Q) ⟨⟩) ⟨⟩) :
  Ev (go P H (.yld b) vs Z) Q uq:=by
 show Ev (ob (Z.Ih b) _) Q _;rw[hL.Ih,D4];show Ev (ob (Ru ps vs fr) _) Q _;rw[Mx,D4,F7];refine h.mono ?_;rintro r ⟨fr2,Z1,fr',ps',as',bd',HV,rfl,h1,h2⟩;show Ev (ob (Z1.Ih b) _) Q _;rw[h1.Ih,D4];show Ev (ob (Z1.BT b .busy HV) _) Q _;rw[h1.BT,D4,F7];exact h2.mono fun r hr=>ax hr
def aO {f:Operand}{l:List Tmp}{g:Nat}{fs cs:Array Value}{Q:Res->Prop}{uq:Hd Q}(hf:ev fr f=some (.func (.func g) fs cs)) (hb:Ps P g=true)
  (h:Ev (go P H (.fn g) (fs.toList++[.func (.yield Z.n) #[] #[]]++cs.toList) (Z.Dd [] (.loop fr l assign body .ready none))) (fun r=>∃ v Z1 fr' ps' as' bd' st HV o,r=⟨false,v,Z1⟩/\J4 Z1 Z.n fr' ps' as' bd' st HV/\SX st=false /\
    aL HV=some o/\Q ⟨o,fr,Z1.GS Z.n fr' ps' as' bd' .exhausted HV⟩) ⟨⟩):Ev (lim P H none (.rangeFunc f l.toArray assign body) fr Z) Q uq:=by
 rw[kB];show Ev (ob (ev fr f) _) Q _;rw[hf,D4];show Ev (bb (Ps P g) _) Q _;rw[hb,Ax,F7];refine h.mono ?_;rintro r ⟨v,Z1,fr',ps',as',bd',st,HV,o,rfl,h1,h2,h3,h4⟩;show Ev (ob (Z1.Ih Z.n) _) Q _;rw[h1.Ih,D4];show Ev (bi (SX st) none (ob (Z1.BT Z.n .exhausted HV) fun Z=>ob (aL HV) fun o=>some ⟨o,fr,Z⟩)) Q _;rw[h2,BR,h1.BT,D4,h3,D4,K6];exact h4
end
section
variable {a b:Int}{v:Value}{Z':St}{i:Nat}{ds:List Trace}{o:Oper}
section
variable {P:Program}{H:Dq}{call:X6}{all:Array Oper}{l:List Oper}{fr:Fr}{Z:St}{d:Option Tmp}{ty t u:TypeId}{ps:String}{af:Array Edge}{x y:Operand}
noncomputable def EI (P:Program) (b:BinOp) (t:TypeId) (x y:Operand) (a c:Value):Option Value :=
 ob (Kj (N7 P (do pure (.value (<- (do eqGuard b t x y a c;binOp b t a c)))))) cst
noncomputable def Ay (P:Program) (b:BinOp) (t:TypeId) (x y:Operand) (a c:Value):Option Value:=orV (Ix b a c) (bi (flat a&&flat c) (EI P b t x y a c) (oM P t b a c))
def wH {b:BinOp}:Qt P fr ⟨d,.binOp b t x y u,ty,ps,af,none⟩ b t x y=ob (ev fr x) fun a=>ob (ev fr y) fun c=>Ay P b t x y a c:=by
 show ob (ev fr x) _=_;cases hx:ev fr x with
 |none=>rfl
 | some a=>
   show ob (ev fr y) _=ob (ev fr y) _;cases hy:ev fr y with
   |none=>rfl
   | some c=>
     show wC P fr _ b t a c=_;have e1:(fun y=>(ev fr y).getD P9) x=a:=by show(ev fr x).getD P9=a;rw[hx];rfl
     have e2:(fun y=>(ev fr y).getD P9) y=c:=by show(ev fr y).getD P9=c;rw[hy];rfl
     have h:Kn P fr ⟨d,.binOp b t x y u,ty,ps,af,none⟩=EI P b t x y a c:=by
      unfold Kn EI;simp only[execOp,e1,e2]
     unfold wC Ay;rw[h];rfl
def AM7 {k:IntKind}:Ay P .add t x y (.int k a) (.int k b)=some (.int k (M6 k (a+b))):=by cases k<;>rfl
def AM8 {k:IntKind}:Ay P .sub t x y (.int k a) (.int k b)=some (.int k (M6 k (a-b))):=by cases k<;>rfl
def AM9 {k:IntKind}:Ay P .mul t x y (.int k a) (.int k b)=some (.int k (M6 k (a*b))):=by cases k<;>rfl
def AN0 {k:IntKind}:Ay P .eql t x y (.int k a) (.int k b)=some (.bool (decide (a=b))):=by rw[<- oa];cases k<;>rfl
def AN1 {k:IntKind}:Ay P .neq t x y (.int k a) (.int k b)=some (.bool (!decide (a=b))):=by
 rw[<- oa];have h:Ay P .neq t x y (.int k a) (.int k b)=some (.bool (bi (ieq a b) false true)):=by cases k<;>rfl
 rw[h];cases ieq a b<;>rfl
def AN2 {k:IntKind}:Ay P .lss t x y (.int k a) (.int k b)=some (.bool (decide (a<b))):=by rw[<- Nn];cases k<;>rfl
def AN3 {k:IntKind}:Ay P .leq t x y (.int k a) (.int k b)=some (.bool (!decide (b<a))):=by
 rw[<- Nn];have h:Ay P .leq t x y (.int k a) (.int k b)=some (.bool (bi (ilt b a) false true)):=by cases k<;>rfl
 rw[h];cases ilt b a<;>rfl
def AN4 {k:IntKind}:Ay P .gtr t x y (.int k a) (.int k b)=some (.bool (decide (b<a))):=by rw[<- Nn];cases k<;>rfl
def AN5 {k:IntKind}:Ay P .geq t x y (.int k a) (.int k b)=some (.bool (!decide (a<b))):=by
 rw[<- Nn];have h:Ay P .geq t x y (.int k a) (.int k b)=some (.bool (bi (ilt a b) false true)):=by cases k<;>rfl
 rw[h];cases ilt a b<;>rfl
def wI {a b:ByteArray}:Ay P .eql t x y (.string a) (.string b)=some (.bool (decide (a=b))):=by rw[<- Tw];rfl
def wJ {a b:ByteArray}:Ay P .neq t x y (.string a) (.string b)=some (.bool (!decide (a=b))):=by
 rw[<- Tw];show some (Value.bool (bi (Li a.data.toList b.data.toList) false true))=_;cases Li a.data.toList b.data.toList<;>rfl
def AN6 {k:IntKind}(h:b≠0):Ay P .rem t x y (.int k a) (.int k b)=some (.int k (a.tmod b)):=by
 have key:EI P .rem t x y (.int k a) (.int k b)=some (.int k (a.tmod b)):=by
  unfold EI;simp only[eqGuard,binOp,Op.intDiv,z0z h];cases k<;>rfl
 show orV (Ix .rem (.int k a) (.int k b)) (EI P .rem t x y (.int k a) (.int k b))=_;rw[key];cases k<;>rfl
def AN7 {k:IntKind}(h:b≠0):Ay P .quo t x y (.int k a) (.int k b)=some (.int k (k.wrap (a.tdiv b))):=by
 have key:EI P .quo t x y (.int k a) (.int k b)=some (.int k (k.wrap (a.tdiv b))):=by
  unfold EI;simp only[eqGuard,binOp,Op.intDiv,z0z h];cases k<;>rfl
 show orV (Ix .quo (.int k a) (.int k b)) (EI P .quo t x y (.int k a) (.int k b))=_;rw[key];cases k<;>rfl
noncomputable def Hp (P:Program) (Z:St) (s t:TypeId) (a:Value):Option Stepped :=
 orS (asNew Z (bb (P.underlying s).isSome (ob (KF a) fun l=>ob (elem? P t) fun e=>bb (isByte (P.underlying e)) (some (Dw l,fun n=> .slice (some ⟨n,0,some 1⟩) l.length l.length)))))
  (orS (Df Z (ob (No a) fun p=>pra p fun b off n=>ob (elem? P s) fun e=>bb (isByte (P.underlying e)) (bb (isStr (P.underlying t)) (ob (Z.read b off n) fun l=>ob (BQ l) fun l=>some (.string ⟨l.toArray⟩,⟨b,off,n⟩)))))
    (J5 Z (bb (flat a) (ob (Kj (N7 P (do pure (.value (<- convert s t a))))) cst))))
def gC {s:TypeId}:orS (asNew Z (Gd P fr s t x)) (orS (Df Z (DD P fr Z s t x)) (J5 Z (Ej P fr ⟨d,.convert s t x,ty,ps,af,none⟩ x)))=ob (ev fr x) fun a=>Hp P Z s t a:=by
 cases h:ev fr x with
 | none=>
   unfold Gd DD Ej;simp only[h,wK];cases(P.underlying s).isSome<;>rfl
 | some a=>
   have hx:(fun y=>(ev fr y).getD P9) x=a:=by show(ev fr x).getD P9=a;rw[h];rfl
   have hf:Kn P fr ⟨d,.convert s t x,ty,ps,af,none⟩=ob (Kj (N7 P (do pure (.value (<- convert s t a))))) cst:=by
    unfold Kn;simp only[execOp,hx]
   unfold Gd DD Ej Hp;simp only[h,D4,hf]
def oc {s t:TypeId}{x:Operand}{Q:Res->Prop}{uq:Hd Q}:Ev (opsV P call all (⟨d,.convert s t x,ty,ps,af,none⟩::l) fr Z) Q uq =
  Ev (ev fr x) (fun a=>Ev (Hp P Z s t a) (fun r=>Ev (W9 P call all l fr r d) Q ⟨⟩) ⟨⟩) ⟨⟩:=by rw[YS,gC,F7]
def od {s t:TypeId}{x:Operand}{Q:FST->Prop}{uq:Hd Q}:Ev (M5 P call all (⟨d,.convert s t x,ty,ps,af,none⟩::l) i fr Z ds) Q uq =
  Ev (ev fr x) (fun a=>Ev (Hp P Z s t a) (fun r=>Ev (Bp P call all (.convert s t x) l i fr Z ds r d) Q ⟨⟩) ⟨⟩) ⟨⟩:=by rw[YT,gC,F7]
def wL {Q:Res->Prop}{uq:Hd Q}:Ev (W9 P call all l fr ⟨v,Z',.none⟩ d) Q uq=Ev (opsV P call all l (I2 fr d v) Z') Q ⟨⟩:=rfl
def wN {r:An}{Q:Res->Prop}{uq:Hd Q}:Ev (W9 P call all l fr ⟨v,Z',.read r⟩ d) Q uq=Ev (opsV P call all l (I2 fr d v) Z') Q ⟨⟩:=rfl
def wO {op:Op}{Q:FST->Prop}{uq:Hd Q}:Ev (Bp P call all op l i fr Z ds ⟨v,Z',.none⟩ d) Q uq=Ev (M5 P call all l (i+1) (I2 fr d v) Z' ds) Q ⟨⟩:=rfl
def wP {op:Op}{j:Nat}{want:Bool}:U9 all fr ⟨d,op,ty,ps,af,some (j,want)⟩=ob (some (Fc all j)) fun s=>match s with
  |none=>some false
  |some d=>ob (fr.get d) fun v=>some (yieldOf want v):=by
 show Option.rec _ _ (Fc all j)=ob (some (Fc all j)) _;rw[D4];cases Fc all j<;>rfl
def oe {l:List Oper}:Fc (o::l).toArray 0=o.dst:=rfl
def og {l:List Oper}{j:Nat}:Fc (o::l).toArray (j+1)=Fc l.toArray j:=by
 unfold Fc;simp only[List.getElem?_toArray,List.getElem?_cons_succ]
def wQ {b:Bool}:yieldOf true (.bool b)=b:=rfl
def wT {b:Bool}:yieldOf false (.bool b)= !b:=rfl
def wrap64_in {n:Int}(h1: -9223372036854775808<=n) (h2:n<=9223372036854775807):IntKind.i64.wrap n=n:=by
 rw[wrap_i64];split<;>omega
end
end
noncomputable def St.row (Z:St) (b:Nat):Option (List Value):=ob (Z.GK b) fun B=>some B.cells
noncomputable def St.A7 (Z:St) (b:Nat):Option (List Value):=ob (Z.GK b) fun B=>bb B.own (some B.cells)
section
variable {Z Z':St}{b c off n:Nat}{cs vs:List Value}{fr:Fr}{ps:List Nat}{assign body:Code}{st:LoopState}{R8:Option Code}{k:Kind}{ty:Option TypeId}
def Cz:Z.read b off n=ob (Z.row b) fun cs=>sub cs off n:=by
 show ob (Z.GK b) _=ob (ob (Z.GK b) _) _;cases Z.GK b<;>rfl
def Mz:Z.write b off vs=ob (Z.A7 b) fun cs=>ob (M7 cs off vs) fun cs'=>some (Z.upd b cs'):=by
 show ob (Z.GK b) _=ob (ob (Z.GK b) _) _;cases h:Z.GK b with
 |none=>rfl
 | some B=>
   have hv:Z.ver b=B.ver:=by
    have:=(AH (y9 h).1).1;unfold St.ver;rw[this]
   have hk:B.kind= .row (Z.typ b):=by
    obtain⟨h1,t,h2⟩:=y9 h;have h3:=(AH h1).1;obtain⟨cells,live,own,ver,kind⟩:=B;cases h2;unfold St.typ;rw[h3];rfl
   show bb B.own _=ob (bb B.own (some B.cells)) _;cases B.own with
   |false=>rfl
   |true=>simp only[Ax,D4,St.upd,hv,hk]
def Wd:Z.kill b=ob (Z.A7 b) fun _=>some (Z.dead b):=by
 show ob (Z.GK b) _=ob (ob (Z.GK b) _) _;cases h:Z.GK b with
 |none=>rfl
 | some B=>
   have hv:Z.ver b=B.ver:=by
    have:=(AH (y9 h).1).1;unfold St.ver;rw[this]
   show bb B.own _=ob (bb B.own (some B.cells)) _;cases B.own with
   |false=>rfl
   |true=>simp only[Ax,D4,St.dead,hv]
def AR (h:Z'.h.get b=Z.h.get b):Z'.row b=Z.row b:=by
 show ob (ob (ob (Z'.h.get b) _) _) _=ob (ob (ob (Z.h.get b) _) _) _;rw[h]
def D6 (h:Z'.h.get b=Z.h.get b):Z'.A7 b=Z.A7 b:=by
 show ob (ob (ob (Z'.h.get b) _) _) _=ob (ob (ob (Z.h.get b) _) _) _;rw[h]
def Own.A7 (h:Own Z b cs):Z.A7 b=some cs:=by
 obtain⟨v,t,h⟩:=h;show ob (ob (ob (Z.h.get b) _) _) _=_;rw[h];rfl
def A9 (h:Z.A7 b=some cs):Z.row b=some cs:=by
 obtain⟨B,h1,h2⟩:=A8 (show ob (Z.GK b) _=some cs from h);obtain⟨h3,h4⟩:=G7 h2;show ob (Z.GK b) _=_;rw[h1];exact h4
def K5 (h1:b<=Z.n) (h2:Z.n<=b):(Z.new cs ty).row b=some cs:=by
 obtain rfl:=aW h1 h2;exact A9 (Own.new Z cs).A7
def O9 (h1:b<=Z.n) (h2:Z.n<=b):(Z.new cs ty).A7 b=some cs:=by
 obtain rfl:=aW h1 h2;exact(Own.new Z cs).A7
def CI (h:b≠Z.n):(Z.new cs ty).row b=Z.row b:=AR (by rw[CX,z0z h])
def M4 (h:b≠Z.n):(Z.new cs ty).A7 b=Z.A7 b:=D6 (by rw[CX,z0z h])
def EU:(Z.upd b cs).row b=some cs:=A9 (Own.upd Z b cs).A7
def R5:(Z.upd b cs).A7 b=some cs:=(Own.upd Z b cs).A7
def AX (h:b≠c):(Z.upd c cs).row b=Z.row b:=AR (by rw[W1,z0z h])
def K0 (h:b≠c):(Z.upd c cs).A7 b=Z.A7 b:=D6 (by rw[W1,z0z h])
def JZ (h:b≠c):(Z.dead c).row b=Z.row b:=AR (by rw[Gm,z0z h])
def WY (h:b≠c):(Z.dead c).A7 b=Z.A7 b:=D6 (by rw[Gm,z0z h])
def Js (h:b≠c):(Z.GS c fr ps assign body st R8).row b=Z.row b:=AR (by rw[AA,z0z h])
def S7 (h:b≠c):(Z.GS c fr ps assign body st R8).A7 b=Z.A7 b:=D6 (by rw[AA,z0z h])
def Zf (h:b≠Z.n):(Z.Dd cs k).row b=Z.row b:=AR (by rw[NI,z0z h])
def WZ (h:b≠Z.n):(Z.Dd cs k).A7 b=Z.A7 b:=D6 (by rw[NI,z0z h])
def Ext.row (h:Ext Z Z') (hb:b<Z.n):Z'.row b=Z.row b:=AR (h.same b hb)
def Ext.A7 (h:Ext Z Z') (hb:b<Z.n):Z'.A7 b=Z.A7 b:=D6 (h.same b hb)
def rm {α:Type}{x:α}{l:List α}{o m:Nat}:sub (x::l) (o+1) m=sub l o m:=rfl
def ru {α:Type}{x:α}{l:List α}{m:Nat}:sub (x::l) 0 (m+1)=ob (takeN m l) fun r=>some (x::r):=rfl
def C8 {α:Type}{l:List α}{m:Nat}(h1:m<=l.length) (h2:l.length<=m):sub l 0 m=some l:=zQ l m (aW h1 h2)
def sB {m q:Nat}(h1:m<=q) (h2:q<=m):m.beq q=true:=Pm (aW h1 h2)
def Zd {α:Type}{l new:List α}(h1:new.length<=l.length) (h2:l.length<=new.length):M7 l 0 new=some new:=dG (aW h1 h2)
def J4.Wr (h:J4 Z b fr ps assign body st R8) (hb:b≠Z.n):J4 (Z.new cs ty) b fr ps assign body st R8:=h.Fs (by rw[CX,z0z hb])
def J4.EW (h:J4 Z b fr ps assign body st R8) (hb:b≠c):J4 (Z.upd c cs) b fr ps assign body st R8:=h.Fs (by rw[W1,z0z hb])
def J4.ext (h:J4 Z b fr ps assign body st R8) (hb:b<Z.n) (he:Ext Z Z'):J4 Z' b fr ps assign body st R8:=h.Fs (he.same b hb)
end
section
variable {P:Program}{B8:Env}{G:Nat}
def XM (hm:P.follows .mixedOrders=true){H:Dq}(Fu:∀ n c,B8.chk n c=codeOk P n G c) (hP:GL P H G P.funcs.toList 0=true) (hH:JV P B8 G H){g:Nat}{fn:Func}(hf:P.funcs[g]? =some fn) (hb:fn.body.isSome=true){vs vs':List Value}{Z:St}{Q:CR->Prop}{uq:Hd Q}
  (h:Ev (go P H (.fn g) vs Z) Q uq) {O:Place}{w:World} (hR:Rel B8 O Z w) (hF:∀ b,Z.n<=b->O b=none) (hG:Bm O G) (hv:E7 O vs vs') :
  Calls P g ⟨vs'⟩ w fun e w'=>∃ r v' O',Q r/\e=ended r.pan v'/\Rel B8 O' r.Z w'/\X9 O Z w O' r.Z w'/\H3 O' r.v v':=by
 obtain⟨r,h1,h2⟩:=h;obtain⟨f,h3⟩:=wj h1;obtain⟨_,h4⟩:=Xi (B8:=B8) hm Fu hP hH f _ _ _ _ h3;obtain⟨fn',k1,k2,k3⟩:=h4 O w vs' r.Z.n hR (fun b hb _=>hF b hb) nL hG hv;rw[hf]at k1;cases k1;rcases k3 with⟨_,k5⟩|⟨v',k4,k5,k6,k7⟩
 ·exact k5.mono fun e w' ⟨v',O',q0,q1,q2,q3⟩=>⟨r,v',O',h2,q0,q1,q2,q3⟩
 ·exfalso;have hn0:fn.body.isNone=false:=by cases hb':fn.body with|none=>rw[hb']at hb;cases hb|some c=>rfl
  simp only[callFunc,Sem.run_bind,run_program,Result.andThen_ok,hf,k2,hn0,IH,Gc,Sem.run_pure]at k4;cases k4
noncomputable def St.arg (Z:St) (cells:List Value):St:=⟨Z.h.set Z.n ⟨cells,true,false,0,.row none⟩,Z.n+1⟩
def Ka (Z:St) (cells:List Value) (b:Nat):(Z.arg cells).h.get b=if b=Z.n then some ⟨cells,true,false,0,.row none⟩else Z.h.get b:=Tr.Au _ _ _ _
def Ua (Z:St) (cells:List Value):(Z.arg cells).n=Z.n+1:=rfl
def iP (Z:St) (cells:List Value):(Z.arg cells).row Z.n=some cells:=by
 show ob (ob (ob ((Z.arg cells).h.get Z.n) _) _) _=_;rw[Ka,z1z rfl];rfl
def SK (Z:St) (cells:List Value){b:Nat}(h:b≠Z.n):(Z.arg cells).row b=Z.row b:=AR (by rw[Ka,z0z h])
def QW (Z:St):Prop:=∀ b B,Z.blk b=some B->B.own=false
def QW.arg {Z:St}(h:QW Z) (cells:List Value):QW (Z.arg cells):=by
 intro b B hb;obtain⟨h1,h2⟩:=AH hb;rw[Ka]at h1;split at h1
 ·cases h1;rfl
 ·exact h b B (NX h1 h2)
def iO {O:Place}{Z:St}{w:World}(hR:Rel B8 O Z w) (hN:QW Z) (hF:∀ b,Z.n<=b->O b=none){c o m:Nat}{cells:List Value}{arr:Array Value}{e:TypeId}{f:Nat×Nat}(hh:w.heap[c]? =some (.cells arr e f)) (hm:m=arr.size) (ho:o+cells.length<=arr.size)
  (hlo:c<B8.lo) (hc:∀ v∈cells,K4 v=true) (hv:∀ (i:Nat) (v:Value),cells[i]? =some v->∃ v',arr[o+i]? =some v'/\H3 O v v'):Rel B8 (O.put Z.n ⟨c,o,m⟩) (Z.arg cells) w:=by
 have hle:O.le (O.put Z.n ⟨c,o,m⟩):=Place.HY _ (hF _ nL);subst hm;have hcw:c<w.heap.size:=by
  rcases AW c w.heap.size with h|h
  ·exact h
  ·rw[Array.getElem?_eq_none h]at hh;cases hh
 refine⟨fun b hb=>?_,fun b q B hb hB=>?_,fun b q hb=>?_,fun b q B _ hB ho=>?_,fun b q B b' q' _ hB ho=>?_,hR.low⟩
 ·rw[Ka,z0z (by rw[Ua]at hb;omega)];exact hR.fresh b (by rw[Ua]at hb;omega)
 ·by_cases hbn:b=Z.n
  ·subst hbn;rw[Place.O7]at hb;cases hb;obtain⟨h1,_⟩:=AH hB;rw[Ka,z1z rfl]at h1;cases h1;obtain⟨lo,hi⟩:=f;refine .row rfl ⟨arr,e,lo,hi,hh,rfl,ho,fun h=>absurd h (by show ¬ B8.lo<=c;omega),hc,fun i v hi'=>?_⟩;obtain⟨v',h1,h2⟩:=hv i v hi';exact⟨v',h1,h2.mono hle⟩
  ·rw[Place.Ae _ _ hbn]at hb;obtain⟨h1,h2⟩:=AH hB;rw[Ka,z0z hbn]at h1;exact(hR.Hm b q B hb (NX h1 h2)).mono hle rfl
 ·by_cases hbn:b=Z.n
  ·subst hbn;rw[Place.O7]at hb;cases hb;exact hcw
  ·rw[Place.Ae _ _ hbn]at hb;exact hR.dom b q hb
 ·rw[hN.arg cells b B hB]at ho;cases ho
 ·rw[hN.arg cells b B hB]at ho;cases ho
def Zs {O:Place}{Z:St}{cells:List Value}{q:BK}(hF:∀ b,Z.n<=b->O b=none):∀ b,(Z.arg cells).n<=b->(O.put Z.n q) b=none:=by
 intro b hb;rw[Ua]at hb;rw[Place.Ae _ _ om];exact hF b om
def Zu {w:World}{x:Addr}{v:Value}(h:w.cell? x=some v):∃ arr e f,w.heap[x.block]? =some (.cells arr e f)/\x.spot=none/\arr[x.off]? =some v:=by
 unfold World.cell? at h;split at h
 ·rename_i c e f hh;split at h
  ·cases h
  ·rename_i hs;refine⟨c,e,f,hh,?_,h⟩;cases hx:x.spot with
   |none=>rfl
   |some s=>rw[hx]at hs;exact absurd rfl hs
 ·cases h
end
section
variable {dl i:Nat}{as:Array Operand}{cells:List Value}{want:Bool}{bs:List Nat}{all:List Trace}
section
variable {P:Program}{e:TypeId}{Z:St}{fr:Fr}{b off n c len cap size s k:Nat}{sp:Option Nat}{new vs l:List Value}{v x:Value}
def KR:Ao Z size (.slice (some ⟨b,off,sp⟩) n c)=ob (Z.read b off (n*size)) fun cs=>some (n,cs):=rfl
def Vv:Ch e Z size none 0 n new=some (.slice (some ⟨Z.n,0,some size⟩) n n,Z.new new (some e)):=rfl
def YY:Ch e Z size (some ⟨b,off,none⟩) len n new=ob (Z.read b off (len*size)) fun old=>some (.slice (some ⟨Z.n,0,some size⟩) (len+n) (len+n),Z.new (old++new) (some e)):=rfl
def Vw:Ch e Z size (some ⟨b,off,some size⟩) len n new=ob (Z.read b off (len*size)) fun old=>ob (Z.kill b) fun Z'=>some (.slice (some ⟨Z'.n,0,some size⟩) (len+n) (len+n),Z'.new (old++new) (OQ e off (Z.typ b))):=by
 show bb (Nat.beq size size) _=_;rw[Pm rfl];rfl
def Vx:DT Z size (some ⟨b,off,sp⟩) len cap n new=ob (Z.write b (off+len*size) new) fun Z=>some (.slice (some ⟨b,off,sp⟩) (len+n) cap,Z):=rfl
def Lm {a b:Nat}(h:b<a):Nat.ble a b=false:=by
 cases hb:Nat.ble a b with
 |false=>rfl
 |true=>have:=JM hb;omega
def AO0 {c:Callee}{t:TypeId}{ts:List TypeId}:QL ⟨c,as,(t::ts).toArray⟩=some t:=rfl
def xB {c:Callee}{t u:TypeId}{ts:List TypeId}:fI ⟨c,as,(t::u::ts).toArray⟩=some u:=rfl
def js {e:TypeId}:NV (some (.slice e))=true:=rfl
def ox {place:Nat->Option (Nat×Nat)}:Cq place [] cells=some cells:=rfl
def jt {place:Nat->Option (Nat×Nat)}{v:Value}{ps:List (Nat×Value)}:Cq place ((i,v)::ps) cells=ob (place i) fun q=>pr q fun off n=>bi (Di v) none (bb ((J6 v).length.beq n) (ob (M7 cells off (J6 v)) (Cq place ps))):=rfl
def A6 {α:Type}{x:α}{l new:List α}{o:Nat}:M7 (x::l) (o+1) new=ob (M7 l o new) fun r=>some (x::r):=rfl
def YZ {α:Type}{x y:α}{l new:List α}:M7 (x::l) 0 (y::new)=ob (over new l) fun r=>some (y::r):=rfl
def oy {α:Type}{l:List α}:over [] l=some l:=rfl
def Td {α:Type}{x y:α}{l new:List α}:over (y::new) (x::l)=ob (over new l) fun r=>some (y::r):=rfl
def pA {α:Type}{l:List α}:rep l 0=[]:=rfl
def Ya {α:Type}{l:List α}{n:Nat}:rep l (n+1)=l++rep l n:=rfl
noncomputable def pB (fr:Fr) (want:Bool) (s:Option Tmp):Option Bool:=match s with
 |none=>some false
 |some d=>ob (fr.get d) fun v=>some (yieldOf want v)
def pC {all:Array Oper}{d:Option Tmp}{op:Op}{ty:TypeId}{ps:String}{af:Array Edge}{j:Nat}{Q:Bool->Prop}{uq:Hd Q}:
  Ev (U9 all fr ⟨d,op,ty,ps,af,some (j,want)⟩) Q uq=Ev (some (Fc all j)) (fun s=>Ev (pB fr want s) Q ⟨⟩) ⟨⟩:=by
 rw[wP,F7];refine congrArg (fun z=>Ev _ z ⟨⟩) (funext fun s=>?_);cases s<;>rfl
def xC {d:Tmp}{Q:Bool->Prop}{uq:Hd Q}:Ev (pB fr want (some d)) Q uq=Ev (fr.get d) (fun v=>Q (yieldOf want v)) ⟨⟩:=by
 show Ev (ob _ _) Q _=_;rw[F7];refine congrArg (fun z=>Ev _ z ⟨⟩) (funext fun v=>?_);rw[K6]
def pD {o:Operand}:evO fr (some o)=ob (ev fr o) fun v=>some (some v):=rfl
def pE:evO fr none=some none:=rfl
def xD {cap:Nat}{lo hi:Option Value}:bw dl cap lo hi=ob (ju dl hi) fun h=>bb (h.ble cap) (ob (ju 0 lo) fun l=>bb (l.ble h) (some (l,h))):=rfl
def xE {v:Value}:ju dl (some v)=nat? v:=rfl
def xF:ju dl none=some dl:=rfl
def gI {n b off lo hi cap:Nat}:sliceAt n (some ⟨b,off,some n⟩) lo hi cap=some (.slice (some ⟨b,off+lo*n,some n⟩) (hi-lo) (cap-lo)):=by
 show bb (Nat.beq n n) _=_;rw[Pm rfl];rfl
def xG:BL bs all []=true:=rfl
def xH {ds:List Trace}{a b:St}:BL bs all (.eff i a b::ds)=BL bs all ds:=rfl
def mm2 {x y:Operand}{c:Callee}{ts:Array TypeId}{im:Bool}:pMM fr im ⟨c,[x,y].toArray,ts⟩=ob (ev fr x) fun a=>ob (ev fr y) fun b=>Jd im a b:=by
 show ob (ob (ev fr x) fun v=>ob (ob (ev fr y) fun v=>ob (some []) fun vs=>some (v::vs)) fun vs=>some (v::vs)) _=_;cases ev fr x with
 |none=>rfl
 | some a=>
   cases ev fr y with
   |none=>rfl
   | some b=>
     show ob (Jd im a b) (fun v=>some v)=Jd im a b;cases Jd im a b<;>rfl
def xI {k k':IntKind}{x y:Int}:Jd true (.int k x) (.int k' y)=some (.int k (max x y)):=by
 show some (Value.int k (bi (ilt x y) y x))=_;rw[Nn];by_cases h:x<y
 ·rw[Be h,GN,Int.max_eq_right om]
 ·rw[z4z h,BR,Int.max_eq_left om]
end
end
section
variable {Z Z':St}{v:Value}{l a b:List UInt8}{bs:List Nat}{i size j:Nat}{ds:List Trace}{n:Int}{B9:List (List Value)}
def str (l:List UInt8):Value:= .string ⟨⟨l⟩⟩
def lA:J6 (str l)=[str l]:=rfl
def yv:Di (str l)=false:=rfl
def yu:oD (some .string) (str l)=some l.length:=rfl
def uX:(⟨⟨a⟩⟩:ByteArray)=⟨⟨b⟩⟩↔a=b:=⟨fun h=>by cases h;rfl,fun h=>by rw[h]⟩
def AS2 {fr:Fr}:ev fr (.const (.string ⟨l.toArray⟩))=some (str l):=rfl
def ri {all:List Trace}{r:An}:BL bs all (.read i r::ds)=bi (W3 bs i r all) (BL bs all ds) false:=rfl
def AS0 {r:An}:W3 bs i r []=true:=rfl
def M9 {r q:An}:W3 bs i r (.read j q::ds)=W3 bs i r ds:=rfl
def VY {r:An}{a b:St}(h:r.b<a.n->b.h.get r.b=a.h.get r.b):W3 bs i r (.eff j a b::ds)=W3 bs i r ds:=by
 show bi (bi (ordered bs i j) true (bi (Nat.blt r.b a.n) (bi (Nat.beq (a.ver r.b) (b.ver r.b)) true (CJ (a.read r.b r.off r.n) (b.read r.b r.off r.n))) true)) (W3 bs i r ds) false=_;have:bi (ordered bs i j) true (bi (Nat.blt r.b a.n) (bi (Nat.beq (a.ver r.b) (b.ver r.b)) true (CJ (a.read r.b r.off r.n) (b.read r.b r.off r.n))) true)=true:=by
  cases ordered bs i j with
  |true=>rfl
  | false=>
    cases hb:Nat.blt r.b a.n with
    |false=>rfl
    | true=>
      have hlt:r.b<a.n:=by rw[Bt]at hb;exact hb
      have hv:b.ver r.b=a.ver r.b:=by unfold St.ver;rw[h hlt]
      rw[hv,Pm rfl];rfl
 rw[this];rfl
def dU {P:Program}{s t:TypeId}{e:TypeId}{b off n c:Nat}{sp:Option Nat}(h1:elem? P s=some e) (h2:isByte (P.underlying e)=true) (h3:isStr (P.underlying t)=true):
  Hp P Z s t (.slice (some ⟨b,off,sp⟩) n c)=ob (Z.read b off n) fun vs=>ob (BQ vs) fun l=>some ⟨str l,Z,.read ⟨b,off,n⟩⟩:=by
 have hA:asNew Z (bb (P.underlying s).isSome (ob (KF (.slice (some ⟨b,off,sp⟩) n c)) fun l=>ob (elem? P t) fun e=>bb (isByte (P.underlying e)) (some (Dw l,fun n=> .slice (some ⟨n,0,some 1⟩) l.length l.length))))=none:=by
  cases(P.underlying s).isSome<;>rfl
 unfold Hp;rw[hA];show orS (Df Z (ob (elem? P s) fun e=>bb (isByte (P.underlying e)) (bb (isStr (P.underlying t)) (ob (Z.read b off n) fun l=>ob (BQ l) fun l=>some (.string ⟨l.toArray⟩,⟨b,off,n⟩))))) none=_;rw[h1,D4,h2,Ax,h3,Ax];cases Z.read b off n with
 |none=>rfl
 | some vs=>
   rw[D4,D4];cases BQ vs<;>rfl
def Zb:BQ []=some []:=rfl
def WX {vs:List Value}:BQ (v::vs)=ob (PB v) fun b=>ob (BQ vs) fun bs=>some (b::bs):=rfl
def yw:PB (.int .u8 n)=some (UInt8.ofNat n.toNat):=rfl
def ER (h1:0<=n) (h2:n<256):IntKind.u8.wrap n=n:=by
 rw[wrap_u8];omega
noncomputable def unA (P:Program) (op:UnOp) (a:Value):Option Value:=bb (flat a) (ob (Kj (N7 P (do pure (.value (<- Op.unary op a))))) cst)
def yp {P:Program}{fr:Fr}{d:Option Tmp}{op:UnOp}{t ty:TypeId}{ps:String}{af:Array Edge}{x:Operand}:Ej P fr ⟨d,.unOp op t x,ty,ps,af,none⟩ x=ob (ev fr x) fun a=>unA P op a:=by
 show ob (ev fr x) _=_;cases h:ev fr x with
 |none=>rfl
 | some a=>
   have hx:(fun y=>(ev fr y).getD P9) x=a:=by show(ev fr x).getD P9=a;rw[h];rfl
   show bb (flat a) (Kn P fr _)=unA P op a;unfold Kn unA;simp only[execOp,hx]
def yx {P:Program}{b:Bool}:unA P .not (.bool b)=some (.bool !b):=rfl
def yz {P:Program}{k:IntKind}:unA P .neg (.int k n)=some (.int k (k.wrap (0-n))):=rfl
section
variable {P:Program}{fr:Fr}{x y:Operand}{t:TypeId}
def rj:Ay P .eql t x y (str a) (str b)=some (.bool (decide (a=b))):=by
 show Ay P .eql t x y (.string _) (.string _)=_;rw[wI];congr 2;exact decide_eq_decide.2 uX
def rk:Ay P .neq t x y (str a) (str b)=some (.bool (!decide (a=b))):=by
 show Ay P .neq t x y (.string _) (.string _)=_;rw[wJ];congr 3;exact decide_eq_decide.2 uX
def lC (h:a.length+b.length<=4294967296):Ay P .add t x y (str a) (str b)=some (str (a++b)):=by
 show orV (bb (Nat.ble (a.length+b.length) 4294967296) (some (str (a++b)))) _=_;rw[Jk h];rfl
end
def SL (Z:St) (size:Nat) (v:Value) (B9:List (List Value)):Prop :=
 (v= .slice none 0 0/\B9=[])\/∃ b off sp c cells,v= .slice (some ⟨b,off,sp⟩) B9.length c/\b<Z.n/\Z.row b=some cells/\∀ k r,B9[k]? =some r->sub cells (off+k*size) size=some r
def SL.mono (h:SL Z size v B9) (hE:Ext Z Z'):SL Z' size v B9:=by
 rcases h with h|⟨b,off,sp,c,cells,h1,h2,h3,h4⟩
 ·exact .inl h
 ·exact .inr ⟨b,off,sp,c,cells,h1,z5z h2 hE.n,by rw[hE.row h2];exact h3,h4⟩
def SL.use (h:SL Z size v B9):∃ a c b off cells,v= .slice a B9.length c/\(0<B9.length->∃ sp,a=some ⟨b,off,sp⟩/\b<Z.n/\Z.row b=some cells)/\∀ k r,B9[k]? =some r->sub cells (off+k*size) size=some r:=by
 rcases h with⟨rfl,rfl⟩|⟨b,off,sp,c,cells,h1,h2,h3,h4⟩
 ·exact⟨none,0,0,0,[],rfl,fun h=>by simp at h,fun k r h=>by simp at h⟩
 ·exact⟨_,c,b,off,cells,h1,fun _=>⟨sp,rfl,h2,h3⟩,h4⟩
def SL.nil:SL Z size (.slice none 0 0) []:= .inl ⟨rfl,rfl⟩
def bN (Z:St) (v:Value) (l:List (List UInt8)):Prop:=SL Z 1 v (l.map fun s=>[str s])
def bN.mono {l:List (List UInt8)}(h:bN Z v l) (hE:Ext Z Z'):bN Z' v l:=SL.mono h hE
def bN.use {l:List (List UInt8)}(h:bN Z v l):∃ a c b off cells,v= .slice a l.length c/\(0<l.length->∃ sp,a=some ⟨b,off,sp⟩/\b<Z.n/\Z.row b=some cells)/\∀ k s,l[k]? =some s->sub cells (off+k) 1=some [str s]:=by
 obtain⟨a,c,b,off,cells,h1,h2,h3⟩:=SL.use h;rw[z2z]at h1 h2;refine⟨a,c,b,off,cells,h1,h2,fun k s hs=>?_⟩;have:=h3 k [str s] (by rw[List.getElem?_map,hs];rfl);rw[MH]at this;exact this
end
section
variable {lo size:Nat}{Z Z':St}{v:Value}{B9:List (List Value)}
def N0 (v:Value):Option Nat:=match v with
 | .slice (some ⟨b,_,_⟩) _ _=>some b
 |_=>none
def OL (lo:Nat) (Z:St) (size:Nat) (v:Value) (B9:List (List Value)):Prop :=
 (∀ r∈B9,r.length=size)/\((v= .slice none 0 0/\B9=[])\/∃ b sp,v= .slice (some ⟨b,0,sp⟩) B9.length B9.length/\(sp=none\/sp=some size)/\lo<=b/\b<Z.n/\Z.A7 b=some B9.flatten)
def OL.nil:OL lo Z size (.slice none 0 0) []:=⟨fun r h=>by simp at h,.inl ⟨rfl,rfl⟩⟩
def OL.sl (h:OL lo Z size v B9):SL Z size v B9:=by
 obtain⟨hr,⟨rfl,rfl⟩|⟨b,sp,rfl,hs,h1,h2,h3⟩⟩:=h
 ·exact SL.nil
 ·refine .inr ⟨b,0,sp,B9.length,_,rfl,h2,A9 h3,fun k r hk=>?_⟩;have:=Jc hr hk (o:=0) (n:=size) om;have hl:r.length=size:=hr r (Bs hk);rw[AG]at this;rw[HC,this];exact C8 om om
def OL.H4 (h:OL lo Z size v B9) (hn:Z.n<=Z'.n) (hk:∀ b,N0 v=some b->Z'.h.get b=Z.h.get b):OL lo Z' size v B9:=by
 obtain⟨hr,⟨rfl,rfl⟩|⟨b,sp,rfl,hs,h1,h2,h3⟩⟩:=h
 ·exact .nil
 ·exact⟨hr,.inr ⟨b,sp,rfl,hs,h1,om,by rw[D6 (hk b rfl)];exact h3⟩⟩
def OL.ext (h:OL lo Z size v B9) (hE:Ext Z Z'):OL lo Z' size v B9:=by
 refine h.H4 hE.n fun b hb=>?_;obtain⟨hr,⟨rfl,rfl⟩|⟨b',sp,rfl,hs,h1,h2,h3⟩⟩:=h
 ·cases hb
 ·cases hb;exact hE.same b h2
def OL.blk (h:OL lo Z size v B9){b:Nat}(hb:N0 v=some b):lo<=b/\b<Z.n:=by
 obtain⟨hr,⟨rfl,rfl⟩|⟨b',sp,rfl,hs,h1,h2,h3⟩⟩:=h
 ·cases hb
 ·cases hb;exact⟨h1,h2⟩
structure App (Z Z':St) (v v':Value):Prop where
 n:Z.n<=Z'.n
 same:∀ c,c<Z.n->N0 v≠some c->Z'.h.get c=Z.h.get c
 new:∀ b,N0 v'=some b->Z.n<=b/\b<Z'.n
def App.ext {Z0:St}{v':Value}(h:App Z Z' v v') (hE:Ext Z0 Z) (hl:OL lo Z size v B9) (hlo:Z0.n<=lo):Ext Z0 Z' :=
 ⟨AV hE.n h.n,fun c hc=>by
  rw[h.same c (z5z hc hE.n) (fun hb=>by have:=(hl.blk hb).1;omega),hE.same c hc]⟩
def AF {P:Program}{te:TypeId}{Z:St}{t size by' lo:Nat}{v:Value}{B9:List (List Value)}{row cells:List Value}{c o cc:Nat}{sp:Option Nat}{Q:Value×St->Prop}{uq:Hd Q}
  (hap:∀ (b:Option Addr) (len cap:Nat) (w:Value),FL P Z t (.slice b len cap) w=ob (Ao Z size w) fun p=>pr p fun n new=>bi (Nat.ble (len+n) cap) (DT Z size b len cap n new) (bb (Nat.ble ((len+n)*by') room) (Ch te Z size b len n new)))
  (hl:OL lo Z size v B9) (hc:Z.row c=some cells) (hs:sub cells o size=some row) (hb:(B9.length+1)*by'<=4294967296) (hlo:lo<=Z.n)
  (h:∀ v' Z',OL lo Z' size v' (B9++[row])->App Z Z' v v'->v'≠ .slice none 0 0->Q (v',Z')):Ev (FL P Z t v (.slice (some ⟨c,o,sp⟩) 1 cc)) Q uq:=by
 have FT:row.length=size:=by
  obtain⟨h1,h2⟩:=sub_eq hs;subst h2;rw[IK,Ng];omega
 have hfl:(B9++[row]).flatten=B9.flatten++row:=sI;obtain⟨hr,hv⟩:=hl;have hr':∀ r∈B9++[row],r.length=size:=by
  intro r hm;rcases HX.1 hm with hm|hm
  ·exact hr r hm
  ·rw[Lf]at hm;subst hm;exact FT
 have TN:Ao Z size (.slice (some ⟨c,o,sp⟩) 1 cc)=some (1,row):=by
  rw[KR,Cz,hc,D4,QA,hs,D4]
 have Cj:Nat.ble ((B9.length+1)*by') room=true:=Jk hb;rcases hv with⟨rfl,rfl⟩|⟨b,sp',rfl,hsp,h1,h2,h3⟩
 ·rw[hap,TN,D4,Jv,Lm om,BR];rw[show Nat.ble ((0+1)*by') room=true from Cj,Ax,Vv,K6];refine h _ _ ⟨hr',.inr ⟨Z.n,some size,rfl,.inr rfl,hlo,by simp,?_⟩⟩ ⟨by simp,fun c hc _=>by rw[CX,z0z om],fun b hb=>by cases hb;simp⟩ (by simp);rw[hfl,O9 nL nL];rfl
 ·have h4:=A9 h3;have hlen:=HP B9 hr;have hold:sub B9.flatten 0 (B9.length*size)=some B9.flatten:=C8 om om;rw[hap,TN,D4,Jv,Lm om,BR,Cj,Ax];rcases hsp with rfl|rfl
  ·rw[YY,Cz,h4,D4,hold,D4,K6];refine h _ _ ⟨hr',.inr ⟨Z.n,some size,by simp,.inr rfl,hlo,by simp,?_⟩⟩ ⟨by simp,fun c hc _=>by rw[CX,z0z om],fun b hb=>by cases hb;simp⟩ (by simp);rw[hfl,O9 nL nL]
  ·rw[Vw,Cz,h4,D4,hold,D4,Wd,h3,D4,D4,K6];refine h _ _ ⟨hr',.inr ⟨Z.n,some size,by simp,.inr rfl,hlo,by simp,?_⟩⟩ ⟨by simp,fun c hc hne=>?_,fun b hb=>by cases hb;simp⟩ (by simp)
   ·rw[hfl,O9 (by simp) (by simp)]
   ·rw[CX,z0z (by rw[OB];omega),Gm,z0z (fun h=>hne (by rw[h];rfl))]
end
end Go.Ab
namespace Go.Ab
open Go
def CP (J:Nat->Fr->St->Prop) (R:Res->Prop) (k:Nat) (r:Res):Prop:=match r.o with
 | .normal=>J (k+1) r.fr r.Z
 |_=>R r
section
variable {P:Program}{H:Dq}{rd:Option Nat}{fr:Fr}{Z:St}
def kz {J:Nat->Fr->St->Prop}{R:Res->Prop}{k:Nat}:CP J R k ⟨.normal,fr,Z⟩=J (k+1) fr Z:=rfl
def yr {J:Nat->Fr->St->Prop}{R:Res->Prop}{k i:Nat}:CP J R k ⟨.exit i,fr,Z⟩=R ⟨.exit i,fr,Z⟩:=rfl
def AS1 {J:Nat->Fr->St->Prop}{R:Res->Prop}{k:Nat}:CP J R k ⟨.ret,fr,Z⟩=R ⟨.ret,fr,Z⟩:=rfl
def I4 {body:Code}{Q:Res->Prop}{u:Hd Q}(n:Nat) (J:Nat->Fr->St->Prop) (R:Res->Prop) (h0:J 0 fr Z)
  (hs:∀ k fr Z,k<n->J k fr Z->Ev (lim P H rd body fr Z) (CP J R k) ⟨⟩) (hx:∀ fr Z,J n fr Z->Ev (lim P H rd body fr Z) (CP (fun _ _ _=>False) R n) ⟨⟩) (hR:∀ r,R r->Q r) :
  Ev (lim P H rd (.loop body) fr Z) Q u:=by
 refine CD (fun j fr Z=>∃ k,j+k=n/\J k fr Z) R n ⟨0,om,h0⟩ ?_ hR;rintro j fr Z ⟨k,hk,hJ⟩;by_cases h:k<n
 ·refine(hs k fr Z h hJ).mono ?_;rintro⟨o,fr',Z'⟩ hq;cases o with
  |normal=>exact⟨n-(k+1),om,k+1,om,hq⟩
  |exit i=>exact hq
  |ret=>exact hq
  |pan v=>exact hq
 ·obtain rfl:k=n:=om;refine(hx fr Z hJ).mono ?_;rintro⟨o,fr',Z'⟩ hq;cases o with
  |normal=>exact hq.elim
  |exit i=>exact hq
  |ret=>exact hq
  |pan v=>exact hq
end
def L9 {a b:Nat}(h:a<b):decide (a<b)=true:=by simpa using h
def Pl {a:Nat}:decide (a<a)=false:=sI
end Go.Ab
namespace Go.Ab
open Go
end Go.Ab
namespace Go.Ab
open Go
end Go.Ab
namespace Go.Ab
open Go
end Go.Ab
namespace Go.Ab
open Go
def asx {a b:St}(hE:Ext a b):∀ (bs:List Nat) (i j:Nat) (r:An) (ds:List Trace),W3 bs i r (.eff j a b::ds)=W3 bs i r ds:=fun bs i j r ds=>VY (hE.same r.b)
end Go.Ab
namespace Go.Ab
open Go
end Go.Ab
namespace Go.Ab
open Go
def yq {n:Nat}:Wq (.func n)=true:=rfl
end Go.Ab
namespace Go.Ab
open Go
section
variable {P:Program}{B8:Env}{G:Nat}
noncomputable def nrm {β:Type}(r:Res) (f:Fr->St->Option β):Option β:=Res.rec (motive:=fun _=>Option β) (fun o fr Z=>iI o (f fr Z)) r
def Wc {β:Type}{r:Res}{f:Fr->St->Option β}{x:β}(h:nrm r f=some x):∃ fr Z,r=⟨.normal,fr,Z⟩/\f fr Z=some x:=by
 obtain⟨o,fr,Z⟩:=r;cases o with
 |normal=>exact⟨fr,Z,rfl,h⟩
 |exit i=>cases h
 |ret=>cases h
 |pan v=>cases h
def L8.nrm {β:Type}(r:Res){f:RunT->Fr->St->Option β}(h:∀ fr Z,L8 fun run=>f run fr Z):L8 fun run=>Ab.nrm r (f run):=by
 obtain⟨o,fr,Z⟩:=r;cases o with
 |normal=>exact h fr Z
 |exit i=>exact .const none
 |ret=>exact .const none
 |pan v=>exact .const none
def Ju {fn:Func}{tmps:Array Value}{R:Ending->World->Prop}{lo:Nat}(hlo:B8.lo<=lo){u:FrameMode}(hu:u≠ .run){O:Place}{Z:St}{tl:List Deferred}:∀ (Ds:List Nat) (w:World),Ds.Nodup->(∀ D∈Ds,lo<=D/\w.heap[D]? =some (.deferred (some [])))->Rel B8 O Z w ->
  (∀ w',Rel B8 O Z w'->(∀ c,c<lo->w'.heap[c]? =w.heap[c]?)->w'.heap.size=w.heap.size->Outside w w'->LeavesInM Fence.wide 0 P fn tmps R tl u w')->LeavesInM Fence.wide 0 P fn tmps R (Ds.map Na++tl) u w:=by
 intro Ds;induction Ds with
 |nil=>intro w _ _ hR k;exact k w hR (fun _ _=>rfl) rfl (.refl _)
 | cons D Ds ih=>
   intro w hn hD hR k;obtain⟨n1,n2⟩:=List.nodup_cons.1 hn;obtain⟨d1,d2⟩:=hD D (by simp);refine⟨hu,.inl ⟨D,_,rfl,run_takeDeferred d2,ih _ n2 (fun E hE=>?_) (hR.shut d2 (AV hlo d1) _) fun w' h1 h2 h3 h4=>k w' h1 (fun c hc=>?_) ?_ ?_⟩⟩
   ·obtain⟨e1,e2⟩:=hD E (by simp[hE]);refine⟨e1,?_⟩;rw[World.putObj_heap_other (fun he=>n1 (by rw[<- he];exact hE))];exact e2
   ·rw[h2 c hc,World.putObj_heap_other om]
   ·rw[h3,World.putObj_size]
   ·exact Outside.trans (b:=w.putObj D (.deferred none)) ⟨rfl,rfl,rfl⟩ h4
def deferred (a:Act) (d k:Nat) (x:Value):Act:={ tmps:=a.tmps.setIfInBounds d (.func (.func k) #[] #[x]),defers:={ target:= .fn (.func k) #[x],args:=#[] }::a.defers }
end
section
variable {Z Z':St}{O:Place}{w:World}{v a a' v' x:Value}
section
variable {P:Program}{B8:Env}{G:Nat}
noncomputable def nrp {β:Type}(r:Res) (f:Fr->St->Option β) (g:Value->Fr->St->Option β):Option β :=
 Res.rec (motive:=fun _=>Option β) (fun o fr Z=>Out.rec (motive:=fun _=>Option β) (f fr Z) (fun _=>none) none (fun v=>g v fr Z) o) r
def L8.nrp {β:Type}(r:Res){f:RunT->Fr->St->Option β}{g:RunT->Value->Fr->St->Option β}(h:∀ fr Z,L8 fun run=>f run fr Z) (k:∀ v fr Z,L8 fun run=>g run v fr Z):L8 fun run=>Ab.nrp r (f run) (g run):=by
 obtain⟨o,fr,Z⟩:=r;cases o with
 |normal=>exact h fr Z
 |exit i=>exact .const none
 |ret=>exact .const none
 |pan v=>exact k v fr Z
noncomputable def iE (T:TypeId) (v:Value):Option Value:=match v with
 | .iface t v=>bb (Nat.beq t T) (some v)
 |_=>none
noncomputable def Wa (P:Program) (ty:TypeId) (x v:Value) (Z:St):Option St :=
 ob (BJ P ty) fun z=>ob (RO P (Z.new (J6 z) (some ty)) ty (ptrTo Z.n) v) fun Z2=>ob (Om P Z2 ty (ptrTo Z.n)) fun u=>RO P Z2 ty x u
noncomputable def SE (P:Program) (c0 c2 c3:Code) (d cap:Nat) (T ty:TypeId) (rs:List ResultVar) (run:RunT) (vs:List Value) (Z:St):Option CR :=
 ob (run none c0 (HZ vs 0 .nil) Z) fun r=>nrm r fun fr0 Z=>bb (fr0.get d).isNone (ob (fr0.get cap) fun x=>ob (run none c2 fr0 Z) fun r=>
  nrp r (fun fr Z=>ob (run none c3 fr Z) fun r=>nrm r fun fr Z=>ob (IP P fr Z rs) fun us=>some ⟨false,tup us,Z⟩)
   (fun v fr Z=>ob (iE T v) fun v=>ob (Wa P ty x v Z) fun Z=>ob (IP P fr Z rs) fun us=>some ⟨false,tup us,Z⟩))
def TM (c0 c2 c3:Code) (d cap:Nat) (T ty:TypeId) (rs:List ResultVar) (vs:List Value) (Z:St):L8 fun run=>SE P c0 c2 c3 d cap T ty rs run vs Z :=
 L8.ob (.run _ _ _ _) fun r=>L8.nrm r fun fr Z=>L8.bb _ (L8.ob (.const _) fun x=>L8.ob (.run _ _ _ _) fun r=>L8.nrp r (fun fr Z=>L8.ob (.run _ _ _ _) fun r=>L8.nrm r fun fr Z=> .const _) (fun v fr Z=> .const _))
noncomputable def oL (P:Program) (c0 c2 c3:Code) (d cap:Nat) (T ty:TypeId) (rs:List ResultVar):oK:=⟨SE P c0 c2 c3 d cap T ty rs,TM c0 c2 c3 d cap T ty rs⟩
def SF {t:TypeId}(hR:Rel B8 O Z w) (ha:H3 O a a') (hv:H3 O v v') (h:RO P Z t a v=some Z'):
  ∃ w',(Instr.storeAt t a' v').run P w= .ok () w'/\Rel B8 O Z' w'/\X9 O Z w O Z' w':=by
 obtain⟨⟨b,off⟩,h4,k4⟩:=A8 h;obtain⟨n,h5,k5⟩:=A8 (show ob (size? P t) _=some Z' from k4);obtain⟨ht,k6⟩:=KD k5;obtain⟨h6,h7⟩:=G7 k6;have hn:=Aa h6;obtain⟨q,hq,hx⟩:=Lc ha h4;obtain⟨c1,c2⟩:=hv.cells ht;obtain⟨w1,w2,w3⟩:=hR.write hq h7 c1 c2;refine⟨_,?_,w2,w3⟩;have hl:=c1.length;have hsz:v'.cells.size=n:=by rw[<- PE,<- hl,hn]
 simp only[hx,Instr.storeAt,Instr.sureAddr,Sem.run_bind,Sem.run_pure,Result.andThen_ok,storeVar,Bh h5,ne_eq];rw[z0z (by simp[hsz])];rw[w1 P]
def lI {t:TypeId}{u:Value}(hR:Rel B8 O Z w) (ha:H3 O a a') (h:Om P Z t a=some u):
  ∃ u',(Instr.loadAt t a').run P w= .ok u' w/\H3 O u u':=by
 obtain⟨⟨b,off⟩,h4,k4⟩:=A8 h;obtain⟨q,hq,hx⟩:=Lc ha h4;obtain⟨g,h5,h6⟩:=A8 (show ob (Lw P t) _=some u from k4);have hg:=Wb h5 w;cases g with
 | true=>
   obtain⟨n,h7,h8⟩:=A8 (show ob (size? P t) _=some u from h6);obtain⟨cs,h9,h10⟩:=A8 h8;cases h10;obtain⟨B,hB,Gg⟩:=W7 h9;obtain⟨vs,k1,k2,k3⟩:=(hR.row b q B hq hB).read (P:=P) Gg;refine⟨.agg vs.toArray,?_,.agg k3 k2⟩;simp only[hx,Instr.loadAt,Instr.sureAddr,Sem.run_bind,Sem.run_pure,Result.andThen_ok,loadVar,hg,FP,Bh h7,k1]
 | false=>
   obtain⟨cs,h9,h10⟩:=A8 (show ob (Z.read b off 1) Ke=some u from h6);obtain⟨B,hB,Gg⟩:=W7 h9;obtain⟨v',k1,k2⟩:=((hR.row b q B hq hB).seg Gg).1.one (P:=P) h10;refine⟨v',?_,k2⟩;simp only[hx,Instr.loadAt,Instr.sureAddr,Sem.run_bind,Sem.run_pure,Result.andThen_ok,loadVar,hg,IH,Gc,k1]
structure Nh (P:Program) (ty:TypeId) (x v:Value) (w w':World):Prop where
 run:∃ w1 w2 u,(Instr.alloc ty true (.tuple #[])).run P w= .ok (.pointer (some ⟨w.heap.size,0,none⟩)) w1/\(Instr.storeAt ty (.pointer (some ⟨w.heap.size,0,none⟩)) v).run P w1= .ok () w2 /\
  (Instr.loadAt ty (.pointer (some ⟨w.heap.size,0,none⟩))).run P w2= .ok u w2/\(Instr.storeAt ty x u).run P w2= .ok () w'
def Ou {ty:TypeId}(h:Wa P ty x v Z=some Z'):Adv Z Z':=by
 obtain⟨z,h1,h⟩:=A8 h;obtain⟨Z2,h2,h⟩:=A8 h;obtain⟨u,h3,h⟩:=A8 h;exact((Adv.new _ _ _).trans (Gr h2)).trans (Gr h)
def Zn {ty:TypeId}{x':Value}(hR:Rel B8 O Z w) (hf:O Z.n=none) (hx:H3 O x x') (hv:H3 O v v') (h:Wa P ty x v Z=some Z'):
  ∃ w' O',Nh P ty x' v' w w'/\Rel B8 O' Z' w'/\X9 O Z w O' Z' w'/\O.le O':=by
 obtain⟨z,h1,h⟩:=A8 h;obtain⟨Z2,h2,h⟩:=A8 h;obtain⟨u,h3,h⟩:=A8 h;obtain⟨hz,_,_⟩:=Dv (O:=O) h1 w;obtain⟨zc1,zc2,zc3⟩:=Db (O:=O) h1;have hal:(Instr.alloc ty true (.tuple #[])).run P w= .ok (.pointer (some ⟨w.heap.size,0,none⟩)) { w with heap:=w.heap.push (.cells z.cells ty) }:=by
  simp only[Instr.alloc,Sem.run_bind,hz,Result.andThen_ok,newVar,newRow,run_newObj,Sem.run_pure]
 have hle:=Place.HY ⟨w.heap.size,0,z.cells.size⟩ hf
 obtain⟨g1,g2⟩:=hR.new (t:=some ty) (w':={ w with heap:=w.heap.push (.cells z.cells ty) }) hf (cs:=J6 z) (arr:=z.cells) (e:=ty) (lo:=0) (hi:=0)
  (by simp) (by simp) (fun c hc=>by simp[Array.getElem?_push];intro h;omega) ⟨rfl,rfl,rfl⟩ (.inr nL) zc3 ⟨z.cells.toList,[],by simp,zc2⟩ (fun x hx=>by cases hx;rfl)
 have hp:H3 (O.put Z.n ⟨w.heap.size,0,z.cells.size⟩) (ptrTo Z.n) (.pointer (some ⟨w.heap.size,0,none⟩)):=NQ _ _ (Place.O7 _ _ _);obtain⟨w2,e1,e2,e3⟩:=SF g1 hp (hv.mono hle) h2;obtain⟨u',e4,e5⟩:=lI e2 hp h3;obtain⟨w3,e6,e7,e8⟩:=SF e2 (hx.mono hle) e5 h;exact⟨w3,_,⟨_,w2,u',hal,e1,e4,e6⟩,e7,(g2.trans e3).trans e8,hle⟩
def cE {g d k cap:Nat}{T ty:TypeId}{fn:Func}{c0 c1 c2 c3:Code}(hf:P.funcs[g]? =some fn) (hn:(fn.name== "runtime.NumGoroutine")=false) (hb:fn.body=some (.seq c0 (.seq c1 (.seq c2 (.seq c3 .ret)))))
  (h1:∀ (Q:Exit->Act->World->Prop) (a:Act) (w:World) (x:Value),fn.ntmps<=a.tmps.size->a.tmps[cap]? =some x->Q .normal (deferred a d k x) w->c1.wpIn Fence.wide 0 P Q a w)
  (hinv:∀ (x:Value) (w:World),(invoke (.fn (.func k) #[x]) #[]).run P w= .ok (.enter k #[x]) w)
  (hk:∀ (x:Value) (w:World),CallsDIn Fence.wide 0 P k #[x] .returning w fun e u' w'=>(∃ v,e= .returned v)/\u'= .returning/\w'=w)
  (hp:∀ (x v:Value) (w w':World),Nh P ty x v w w'->CallsDIn Fence.wide 0 P k #[x] (.panicking [{ v:= .iface T v,recovered:=false }]) w fun e u' w''=>(∃ v,e= .returned v)/\settle u'= .returning/\w''=w')
  (hc0:codeOk P fn.ntmps G c0=true) (hc2:codeOk P fn.ntmps G c2=true) (hc3:codeOk P fn.ntmps G c3=true)
  {run:RunT} (hE:Nb P B8 G run) {vs:List Value}{Z:St}{r:CR} (h:SE P c0 c2 c3 d cap T ty fn.results.toList run vs Z=some r) :
  Adv Z r.Z/\∀ O w vs' N,Rel B8 O Z w->Cc O Z.n N->r.Z.n<=N->Bm O G->E7 O vs vs'->CG P B8 O g vs' Z w r:=by
 obtain⟨r0,e0,h⟩:=A8 h;obtain⟨fr0,Z0,rfl,h⟩:=Wc h;obtain⟨hd0,h⟩:=G7 h;obtain⟨xv,hxv,h⟩:=A8 h;obtain⟨r2,e2,h⟩:=A8 h;obtain⟨A0,B0⟩:=hE none c0 _ Z _ e0;obtain⟨A2,B2⟩:=hE none c2 _ Z0 _ e2;have Am4:Adv Z r.Z:=by
  obtain⟨o,fr2,Z2⟩:=r2;cases o with
  | normal=>
    obtain⟨r3,e3,h⟩:=A8 h;obtain⟨fr3,Z3,rfl,h⟩:=Wc h;obtain⟨us,eu,h⟩:=A8 h;cases h;exact(A0.trans A2).trans (hE none c3 _ Z2 _ e3).1
  | pan v=>
    obtain⟨v1,ev1,h⟩:=A8 h;obtain⟨Z3,e3,h⟩:=A8 h;obtain⟨us,eu,h⟩:=A8 h;cases h;exact(A0.trans A2).trans (Ou e3)
  |exit i=>cases h
  |ret=>cases h
 refine⟨Am4,fun O w vs' N hR hF hN hG hv=>⟨fn,hf,hn,.inl ⟨by rw[hb];rfl,(callsIn_wide (n:=0)).1 (callsIn_of_wp_marks hf hb trivial ?_)⟩⟩⟩;have hl:=hv.length;have hN2:r2.Z.n<=N:=by
  refine AV ?_ hN;obtain⟨o,fr2,Z2⟩:=r2;cases o with
  | normal=>
    obtain⟨r3,e3,h⟩:=A8 h;obtain⟨fr3,Z3,rfl,h⟩:=Wc h;obtain⟨us,eu,h⟩:=A8 h;cases h;exact(hE none c3 _ Z2 _ e3).1.n
  | pan v=>
    obtain⟨v1,ev1,h⟩:=A8 h;obtain⟨Z3,e3,h⟩:=A8 h;obtain⟨us,eu,h⟩:=A8 h;cases h;exact(Ou e3).n
  |exit i=>cases h
  |ret=>cases h
 have hN0:Z0.n<=N:=AV A2.n hN2;refine wpIn_seq ?_;refine B0 fn.ntmps hc0 w.heap.size [] O _ w N none nL hR hF hN0 ?_ ?_ (.nil _ _ _) hG rfl _ fun e a' w' O' q0 q1 q2 q3 q4 q5=>?_
 ·intro t u hu;rw[XZ]at hu;by_cases ht:0<=t/\t<0+vs.length
  ·rw[z1z ht]at hu;obtain⟨u',k1,k2⟩:=hv.get hu;refine⟨u',?_,k2⟩;show((⟨vs'⟩:Array Value)++Array.replicate _ undef)[t]? =some u';rw[Array.getElem?_append_left (by simp;omega)]
   simpa using k1
  ·rw[z0z ht]at hu;cases hu
 ·show fn.ntmps<=((⟨vs'⟩:Array Value)++Array.replicate (fn.ntmps-(⟨vs'⟩:Array Value).size) undef).size;rw[XH,fE];omega
 cases(show e= .normal from q0);have hsz:fn.ntmps<=a'.tmps.size:=by
  rw[q4];show fn.ntmps<=((⟨vs'⟩:Array Value)++Array.replicate (fn.ntmps-(⟨vs'⟩:Array Value).size) undef).size;rw[XH,fE];omega
 obtain⟨x,hx,hxr⟩:=q3 cap xv hxv;show(Code.seq c1 _).wpIn _ _ _ _ _ _;refine wpIn_seq (h1 _ a' w' x hsz hx ?_);show(Code.seq c2 _).wpIn _ _ _ _ _ _;refine wpIn_seq ?_;have hfr:EZ O' fr0 (deferred a' d k x):=by
  intro t v ht;obtain⟨v',k1,k2⟩:=q3 t v ht;refine⟨v',?_,k2⟩;show(a'.tmps.setIfInBounds d _)[t]? =some v';rw[Array.getElem?_setIfInBounds,z0z (fun he=>by subst he;rw[ht]at hd0;cases hd0)];exact k1
 refine B2 fn.ntmps hc2 w'.heap.size (deferred a' d k x).defers O' _ w' N none nL q1 (q2.free hF) hN2 hfr (by show fn.ntmps<=(a'.tmps.setIfInBounds d _).size;rw[AG2];exact hsz) (.nil _ _ _) (hG.mono (q2.le hF hN0)) rfl _ fun e a2 w2 O2 p0 p1 p2 p3 p4 p5=>?_;have hmk:∀ (Es:List Nat),a'.defers=Es.map Na++[]->∀ D∈Es,D<w'.heap.size:=by
  intro Es n1;obtain⟨Es',k1,_,k3⟩:=q5;have he:Es=Es':=by
   have:=n1.symm.trans k1;rw[FV,FV]at this;exact(List.map_inj_right fun x y hxy=>by unfold Na at hxy;injection hxy with h _;injection h).1 this
  intro D hD;have h4:=(k3 D (by rw[<- he];exact hD)).2;rcases AW D w'.heap.size with hh|hh
  ·exact hh
  ·rw[Array.getElem?_eq_none hh]at h4;cases h4
 obtain⟨o,fr2,Z2⟩:=r2;cases o with
 |exit i=>cases h
 |ret=>cases h
 | normal=>
   obtain⟨r3,e3,h⟩:=A8 h;obtain⟨fr3,Z3,rfl,h⟩:=Wc h;obtain⟨us,eu,h⟩:=A8 h;cases h;obtain⟨A3,B3⟩:=hE none c3 _ Z2 _ e3;have hN3:Z3.n<=N:=hN;cases(show e= .normal from p0);show(Code.seq c3 _).wpIn _ _ _ _ _ _;refine wpIn_seq ?_;have hF2:Cc O2 Z2.n N:=p2.free (q2.free hF);refine B3 fn.ntmps hc3 w'.heap.size (deferred a' d k x).defers O2 _ w2 N none p2.size p1 hF2 hN3 p3 (by rw[p4];show fn.ntmps<=(a'.tmps.setIfInBounds d _).size;rw[AG2];exact hsz) p5 ((hG.mono (q2.le hF hN0)).mono (p2.le (q2.free hF) hN2)) rfl _ fun e a3 w3 O3 s0 s1 s2 s3 s4 s5=>?_;cases(show e= .normal from s0);refine wpIn_ret ?_;have q5':Marks w.heap.size w3 [] a'.defers:=(q5.PR q1 p2).PR p1 s2;obtain⟨Ds,m1,m2,m3⟩:=s5;obtain⟨Es,n1,n2,n3⟩:=q5';have FF:X9 O Z w O3 Z3 w3:=(q2.trans p2).trans s2;show LeavesInM Fence.wide 0 P fn a3.tmps _ a3.defers .returning w3;rw[m1];refine Ju q1.low.1 (by simp) Ds w3 m2 m3 s1 fun w4 t1 t2 t3 t4=>?_;refine⟨by simp,.inr ⟨(fun hh=>absurd hh (by decide)),_,_,k,#[x],rfl,hinv x w4,fun _ _=>trivial,?_⟩⟩;refine(hk x w4).mono ?_;rintro e u' w5 ⟨⟨v,rfl⟩,rfl,rfl⟩;show LeavesInM Fence.wide 0 P fn a3.tmps _ a'.defers .returning w5;have hlt:=hmk Es n1;rw[n1,FV];refine HL hR.low.1 (by simp) Es w5 n2 (fun D hD=>⟨(n3 D hD).1,by rw[t2 D (hlt D hD)];exact(n3 D hD).2⟩) t1 fun w6 x1 x2 x3 x4=>?_;obtain⟨v',z1,z2⟩:=Ha (P:=P) x1 s3 eu;exact⟨v',z1,v',O3,rfl,x1,FF.close (fun c hc=>by rw[x2 c hc,t2 c (z5z hc q2.size)]) (by rw[x3,t3]) (t4.trans x4),z2⟩
 | pan v=>
   obtain⟨v1,ev1,h⟩:=A8 h;obtain⟨Z3,e3,h⟩:=A8 h;obtain⟨us,eu,h⟩:=A8 h;cases h;obtain⟨v',hev,hvr⟩:∃ v',e=cT v'/\H3 O2 v v':=p0;subst hev;obtain⟨rfl⟩:v= .iface T v1:=by
    unfold iE at ev1;split at ev1
    ·obtain⟨hb1,hb2⟩:=G7 ev1;cases hb2;rw[Aa hb1]
    ·cases ev1
   obtain⟨v2,rfl,hv2⟩:∃ v2,v'= .iface T v2/\H3 O2 v1 v2:=by
    cases hvr with
    |I1 hs=>simp[I1]at hs
    |iface h=>exact⟨_,rfl,h⟩
   show LeavesInM Fence.wide 0 P fn a2.tmps _ a2.defers (.panicking [{ v:= .iface T v2,recovered:=false }]) w2;have q5':Marks w.heap.size w2 [] a'.defers:=q5.PR q1 p2;obtain⟨Ds,m1,m2,m3⟩:=p5;obtain⟨Es,n1,n2,n3⟩:=q5';rw[m1];refine Ju q1.low.1 (by simp) Ds w2 m2 m3 p1 fun w4 t1 t2 t3 t4=>?_;have BA0:H3 O2 xv x:=hxr.mono (p2.le (q2.free hF) hN2);have AQ5:O2 Z2.n=none:=p2.free (q2.free hF) Z2.n nL (by
    have:Z2.n+1<=Z3.n:=by
     obtain⟨z,h1,h⟩:=A8 e3;obtain⟨Z4,h2,h⟩:=A8 h;obtain⟨u,h3,h⟩:=A8 h;exact AV (Gr h2).n (Gr h).n
    have hN':Z3.n<=N:=hN;omega)
   obtain⟨w5,O3,y1,y2,y3,y4⟩:=Zn t1 AQ5 BA0 hv2 e3;refine⟨by simp,.inr ⟨(fun hh=>absurd hh (by decide)),_,_,k,#[x],rfl,hinv x w4,fun _ _=>trivial,?_⟩⟩;refine(hp x v2 w4 w5 y1).mono ?_;rintro e u' w6 ⟨⟨v,rfl⟩,Mx,rfl⟩;show LeavesInM Fence.wide 0 P fn a2.tmps _ a'.defers (settle u') w6;rw[Mx,n1,FV];have hlt:=hmk Es n1;have q7:Marks w.heap.size w4 [] a'.defers:=by
    refine⟨Es,n1,n2,fun D hD=>⟨(n3 D hD).1,?_⟩⟩;rw[t2 D (hlt D hD)];exact(n3 D hD).2
   obtain⟨Es',n1',n2',n3'⟩:=q7.PR t1 y3;have he:Es=Es':=by
    have:=n1.symm.trans n1';rw[FV,FV]at this;exact(List.map_inj_right fun x y hxy=>by unfold Na at hxy;injection hxy with h _;injection h).1 this
   subst he;refine HL hR.low.1 (by simp) Es w6 n2 n3' y2 fun w7 x1 x2 x3 x4=>?_;obtain⟨v',z1,z2⟩:=Ha (P:=P) x1 (p3.mono y4) eu;have F1:X9 O Z w O2 Z2 w2:=q2.trans p2;have F2:X9 O Z w O2 Z2 w4:=F1.close (fun c hc=>t2 c (z5z hc q2.size)) t3 t4;have F3:X9 O Z w O3 Z3 w6:=F2.trans y3;exact⟨v',z1,v',O3,rfl,x1,F3.close (fun c hc=>x2 c hc) x3 x4,z2⟩
end
end
section
variable {P:Program}{B8:Env}{G:Nat}{O:Place}{Z:St}{w w':World}
def Rel.below (hR:Rel B8 O Z w) (hb:Go.RowKit.Below w.heap.size w w'):Rel B8 O Z w'/\X9 O Z w O Z w':=by
 have hsz:=hb.size
 refine⟨⟨hR.fresh,fun b q B h1 h2=>(hR.Hm b q B h1 h2).mono (Place.le_refl _) (hb.block q.c (hR.dom b q h1)),fun b q h1=>z5z (hR.dom b q h1) hsz,hR.own,hR.sep,hR.low.next hsz fun c hc=>hb.block c (z5z hc hR.low.1)⟩,
  ⟨fun _ _=>rfl,BF _,hsz,fun c hc _=>hb.block c hc,fun b q B h1 h2 _=>⟨b,q,B,h1,rfl,h2,fun h=>h⟩,⟨hb.os,hb.tape,hb.output⟩,fun _ _ _=>rfl⟩⟩
def Mu {g:Nat}{fn:Func}(hf:P.funcs[g]? =some fn) (hn:(fn.name== "runtime.NumGoroutine")=false) (hbd:fn.body.isSome=true){vs':List Value}{v v':Value}(hR:Rel B8 O Z w)
  (hc:Calls P g ⟨vs'⟩ w fun e w'=>e= .returned v'/\Go.RowKit.Below w.heap.size w w') (hv:H3 O v v'):CG P B8 O g vs' Z w ⟨false,v,Z⟩:=by
 refine⟨fn,hf,hn,.inl ⟨hbd,hc.mono ?_⟩⟩;rintro e w' ⟨rfl,hb⟩;obtain⟨h1,h2⟩:=hR.below hb;exact⟨v',O,rfl,h1,h2,hv⟩
def KU {g:Nat}{fn:Func}(hf:P.funcs[g]? =some fn) (hn:(fn.name== "runtime.NumGoroutine")=false) (hbd:fn.body.isSome=true){vs':List Value}{v v':Value}{Z':St}{w1:World}
  (hc:Calls P g ⟨vs'⟩ w fun e w'=>e= .returned v'/\w'=w1) (hR:Rel B8 O Z' w1) (hF:X9 O Z w O Z' w1) (hv:H3 O v v'):CG P B8 O g vs' Z w ⟨false,v,Z'⟩:=by
 refine⟨fn,hf,hn,.inl ⟨hbd,hc.mono ?_⟩⟩;rintro e w' ⟨rfl,rfl⟩;exact⟨v',O,rfl,hR,hF,hv⟩
def Rel.AP9 (hR:Rel B8 O Z w){b:Nat}{q:BK}(hb:O b=some q){Z':St}(hk:Z.kill b=some Z') (hs:w'.heap.size=w.heap.size) (hold:∀ c,c≠q.c->w'.heap[c]? =w.heap[c]?) (ho:Outside w w') :
  Rel B8 O Z' w'/\X9 O Z w O Z' w':=by
 obtain⟨h1,h2⟩:=hR.kill ⟨q,hb⟩ hk;obtain⟨B,hr1,hO,he⟩:=Gi hk;have hB:=(y9 hr1).1;have live:∀ b' B',Z'.blk b'=some B'->b'≠b/\Z.blk b'=some B':=by
  intro b' B' h;subst he;by_cases hbb:b'=b
  ·subst hbb;rw[FH]at h;cases h
  ·exact⟨hbb,by rw[CF _ _ hbb]at h;exact h⟩
 refine⟨⟨h1.fresh,fun b' q' B' g1 g2=>?_,fun b' q' g1=>by rw[hs];exact h1.dom b' q' g1,h1.own,h1.sep,h1.low.next (by rw[hs];exact BF _) fun c hc=>hold c fun he=>by have:=hR.own b q B hb hB hO;omega⟩,⟨h2.ext,h2.n,by rw[hs];exact h2.size,fun c hc hno=>?_,h2.owned,ho,h2.same⟩⟩
 ·obtain⟨k1,k2⟩:=live b' B' g2;exact(h1.Hm b' q' B' g1 g2).mono (Place.le_refl _) (hold q'.c (hR.sep b q B b' q' hb hB hO k1 g1 (.inr ⟨B',k2⟩)))
 ·refine hold c fun hcc=>?_;have:=hno b q B hb hcc.symm hB;rw[hO]at this;cases this
noncomputable def dL (l:List Value):Option (List (List UInt8)) :=
 List.rec (motive:=fun _=>Option (List (List UInt8))) (some []) (fun v _ ih=>ob (KF v) fun s=>ob ih fun r=>some (s::r)) l
noncomputable def gh (sep:List UInt8) (l:List (List UInt8)):List UInt8:=List.rec (motive:=fun _=>List UInt8) [] (fun x _ ih=>sep++(x++ih)) l
noncomputable def qS (l:List (List UInt8)) (sep:List UInt8):List UInt8:=List.rec (motive:=fun _=>List UInt8) [] (fun x xs _=>x++gh sep xs) l
def qT (sep:List UInt8) (l:List (List UInt8)):gh sep l=Lib.joinTail sep l:=by
 induction l with
 |nil=>rfl
 | cons x l ih=>
   show sep++(x++gh sep l)=_;rw[ih];simp[Lib.joinTail]
def qU (l:List (List UInt8)) (sep:List UInt8):qS l sep=Lib.join l sep:=by
 cases l with
 |nil=>rfl
 | cons x l=>
   show x++gh sep l=_;rw[qT,Lib.join_cons]
def kJ:∀ {l:List Value}{r:List (List UInt8)},dL l=some r->∃ xs:List ByteArray,l=xs.map Value.string/\r=xs.map (·.data.toList):=by
 intro l;induction l with
 |nil=>intro r h;cases h;exact⟨[],rfl,rfl⟩
 | cons v l ih=>
   intro r h;obtain⟨s,h1,h⟩:=A8 (show ob (KF v) (fun s=>ob (dL l) fun r=>some (s::r))=some r from h);obtain⟨r',h2,h⟩:=A8 h;cases h;obtain⟨xs,rfl,rfl⟩:=ih h2;cases v with
   |string x=>cases h1;exact⟨x::xs,rfl,rfl⟩
   |_=>cases h1
noncomputable def gi (vs:List Value) (Z:St):Option CR:=match vs with
 | [.slice (some ⟨b,off,_⟩) n c,.string sep]=>bb (Nat.ble n c) (bb (Nat.ble n room) (ob (Z.read b off n) fun cs=>ob (dL cs) fun l=>bb (Nat.ble (qS l sep.data.toList).length room) (some ⟨false,.string ⟨(qS l sep.data.toList).toArray⟩,Z⟩)))
 |_=>none
def dM:∀ {xs:List ByteArray}{vs:List Value},E7 O (xs.map Value.string) vs->vs=xs.map Value.string:=by
 intro xs;induction xs with
 |nil=>intro vs h;cases h;rfl
 | cons x xs ih=>
   intro vs h;cases h with
   |cons h hs=>cases h;rw[ih hs];rfl
def qV {g:Nat}{fn:Func}(hf:P.funcs[g]? =some fn) (hn:(fn.name== "runtime.NumGoroutine")=false) (hbd:fn.body.isSome=true)
  (hc:∀ (bk o c:Nat) (xs:List ByteArray) (sep:ByteArray) (w:World),(∀ (j:Nat) x,xs[j]? =some x->w.cell? ⟨bk,o+j,none⟩=some (.string x))->bk<w.heap.size->xs.length<=140737488355328->xs.length<=c->(Lib.join (xs.map (·.data.toList)) sep.data.toList).length<=140737488355328 ->
    Calls P g #[.slice (some ⟨bk,o,none⟩) xs.length c,.string sep] w fun e w'=>e= .returned (.string ⟨(Lib.join (xs.map (·.data.toList)) sep.data.toList).toArray⟩)/\Go.RowKit.Below w.heap.size w w')
  (h0:∀ (a:Option Addr) (c:Nat) (sep:ByteArray) (w:World),Calls P g #[.slice a 0 c,.string sep] w fun e w'=>e= .returned (.string ⟨#[]⟩)/\w'=w)
  {vs:List Value}{Z:St}{r:CR} (h:gi vs Z=some r):Adv Z r.Z/\∀ O w vs' N,Rel B8 O Z w->Cc O Z.n N->r.Z.n<=N->Bm O G->E7 O vs vs'->CG P B8 O g vs' Z w r:=by
 unfold gi at h;split at h
 ·rename_i b off sp n c sep;obtain⟨g1,h⟩:=G7 h;obtain⟨g2,h⟩:=G7 h;obtain⟨cs,g3,h⟩:=A8 h;obtain⟨l,g4,h⟩:=A8 h;obtain⟨g5,h⟩:=G7 h;cases h;have e1:=JM g1;have e2:=JM g2;have e5:=JM g5;unfold room at e2 e5;refine⟨.refl _,fun O w vs' N hR hF hN hG hv=>?_⟩;cases hv with
  |cons hs hv=>
  cases hv with
  |cons hp hv=>
  cases hv;obtain⟨xs,rfl,rfl⟩:=kJ g4;obtain⟨B,hB,Gg⟩:=W7 g3;have hlen:=(sub_eq Gg).2 ▸ (by simp;have:=(sub_eq Gg).1;omega:((B.cells.drop off).take n).length=n);rw[z2z]at hlen;cases hp;rename_i s' _;rw[qU]at e5 ⊢;have fin:∀ (q:BK) (c':Nat),O b=some q->n<=c'->CG P B8 O g [.slice (some ⟨q.c,q.o+off,none⟩) n c',.string sep] Z w ⟨false,.string ⟨(Lib.join (xs.map (·.data.toList)) sep.data.toList).toArray⟩,Z⟩:=by
   intro q c' hq hcc;obtain⟨vs,k1,k2,k3⟩:=(hR.row b q B hq hB).read (P:=P) Gg;rw[dM k2]at k1;have ZD:∀ (j:Nat) x,xs[j]? =some x->w.cell? ⟨q.c,q.o+off+j,none⟩=some (.string x):=by
    intro j x hj;obtain⟨arr,e,lo,hi,a1,a0,a2,a3,a4,a5⟩:=hR.row b q B hq hB;obtain⟨s1,s2⟩:=sub_eq Gg;have hj':(xs.map Value.string)[j]? =some (.string x):=by rw[List.getElem?_map,hj];rfl
    have hjn:j<n:=by have:=(List.getElem?_eq_some_iff.1 hj).1;omega
    rw[s2,List.getElem?_take_of_lt hjn,List.getElem?_drop]at hj';obtain⟨v',b1,b2⟩:=a5 _ _ hj';cases b2;rw[IJ a1,show q.o+off+j=q.o+(off+j)from by omega];exact b1
   subst hlen;exact Mu hf hn hbd hR (hc q.c (q.o+off) c' xs sep w ZD (hR.dom b q hq) om hcc om) (.I1 rfl)
  cases hs with
  |slice hq=>exact fin _ _ hq e1
  |grow hq hk hm=>exact fin _ _ hq (AV e1 hk)
  | Bl hq=>
    obtain rfl:xs=[]:=PG.1 hlen;exact KU hf hn hbd (h0 _ _ _ w) hR (.refl _ _ _) (.I1 rfl)
  |I1 hsc=>simp[I1]at hsc
 ·cases h
end
section
variable {P:Program}{B8:Env}{G:Nat}
def aR (hm:P.follows .mixedOrders=true) (Fu:∀ n c,B8.chk n c=codeOk P n G c) {H:Dq} (hP:GL P H G P.funcs.toList 0=true) (hH:∀ (lo:Nat) (w0:World),B8.lo<=lo->(∀ c,c<B8.lo->w0.heap[c]? =B8.w0.heap[c]?)->JV P { B8 with lo:=lo,w0:=w0 } G H) {Z0:St} (hn0:Z0.n=G) (ho:∀ b B,Z0.blk b=some B->B.own=false)
  {g f:Nat}{v:Value}{Z1:St} (hv:I1 v=true) (h:DG P H (exec P H f) (.fn g) [] Z0=some ⟨false,v,Z1⟩) (Z:St) {O:Place}{w:World}{N:Nat} (hR:Rel B8 O Z w) (hG:Bm O G)
  (hR0:Rel { B8 with lo:=w.heap.size,w0:=w } (fun b=>if b<G then O b else none) Z0 w):CG P B8 O g [] Z w ⟨false,v,Z⟩:=by
 obtain⟨_,h2⟩:=Xi (B8:={ B8 with lo:=w.heap.size,w0:=w }) hm Fu hP (hH _ _ hR.low.1 hR.low.2) f _ _ _ _ h
 let O0:Place:=fun b=>if b<G then O b else none
 have hG0:Bm O0 G:=by
  intro g hg;obtain⟨m,h,h2⟩:=hG g hg;exact⟨m,by show(if g<G then O g else none)=_;rw[z1z hg];exact h,h2⟩
 have hF0:Cc O0 Z0.n Z1.n:=fun b hb _=>by show(if b<G then O b else none)=none;rw[z0z om]
 obtain⟨fn,k1,k2,k3⟩:=h2 O0 w [] Z1.n hR0 hF0 nL hG0 .nil;refine⟨fn,k1,k2,?_⟩;have Vc:∀ {O':Place}{v':Value},H3 O' v v'->v'=v:=by
  intro O' v' hv';cases v with
  |bool b=>cases hv';rfl
  |int k n=>cases hv';rfl
  |string s=>cases hv';rfl
  |_=>cases hv'<;>first|rfl|cases hv
 rcases k3 with⟨k4,k5⟩|⟨v',k4,k5,k6,k7⟩
 ·refine .inl ⟨k4,k5.mono ?_⟩;rintro e w' ⟨v',O',rfl,q1,q2,q3⟩;have Dk:∀ c,c<w.heap.size->w'.heap[c]? =w.heap[c]? :=fun c hc=>q2.H4 c hc fun b q B hb _ hB=>ho b B hB;have hv':=Vc q3;subst hv'
  refine⟨v',O,rfl,⟨hR.fresh,fun b q B h1 h2=>(hR.Hm b q B h1 h2).mono (Place.le_refl _) (Dk _ (hR.dom b q h1)),fun b q hb=>z5z (hR.dom b q hb) q2.size,hR.own,hR.sep,hR.low.next q2.size fun c hc=>Dk c (z5z hc hR.low.1)⟩,
   ⟨fun _ _=>rfl,BF _,q2.size,fun c hc _=>Dk c hc,fun b q B h1 h2 _=>⟨b,q,B,h1,rfl,h2,fun h=>h⟩,q2.out,fun _ _ _=>rfl⟩,.I1 hv⟩
 ·have:=Vc k7;subst this;exact .inr ⟨v',k4,rfl,rfl,.I1 hv⟩
end
end Go.Ab
namespace Go.Ab.NU
open Go Go.Ab
section
variable {a:Addr}{Z Z':St}{w:World}{b n:Nat}{cs:List Value}
section
variable {P:Program}{W:World}{B8:Env}{G:Nat}{H:Type}{enc:TypeId×Value->H}
def Gv {α:Type}(R:α->List Value->Prop):List α->List (List Value)->Prop
 | [],[]=>True
 |a::l,b::k=>R a b/\Gv R l k
 |_,_=>False
def DX (P:Program) (Z:St):Nat->TypeId->List Value->Prop
 |0,_,_=>False
 | f+1,t,cs=>match P.underlying t with
   |some .bool=>∃ b,cs=[.bool b]
   |some (.int k)=>∃ n,cs=[.int k n]/\(Lit.int k n).wf=true
   |some .string=>∃ s,cs=[.string s]/\s.size<=maxLen
   |some (.slice e)=>cs=[.slice none 0 0]\/∃ (b:Nat) (B9:List (List Value)) (cap:Nat),cs=[.slice (some ⟨b,0,none⟩) B9.length cap]/\B9.length<=cap/\cap<=maxLen/\b<Z.n/\Z.row b=some B9.flatten/\∀ r∈B9,r.length=P.cellsOf e/\DX P Z f e r
   |some (.struct fs)=>∃ ps:List (List Value),cs=ps.flatten/\Gv (fun(fd:Field) p=>DX P Z f fd.type p) fs.toList ps
   |some (.array n e)=>∃ ps:List (List Value),cs=ps.flatten/\ps.length=n/\∀ p∈ps,p.length=P.cellsOf e/\DX P Z f e p
   |_=>False
def We (P:Program):List Field->Nat->Option Nat
 | [],o=>some o
 |f::fs,o=>if f.offset=o then We P fs (o+P.cellsOf f.type)else none
def Eo (P:Program):Nat->TypeId->Bool
 |0,_=>false
 | f+1,t=>match P.underlying t with
   |some .bool=>true
   |some (.int _)=>true
   |some .string=>true
   |some (.slice e)=>Nat.blt 0 (P.cellsOf e)&&Eo P f e
   |some (.struct fs)=>(We P fs.toList 0==some (P.cellsOf t))&&fs.toList.all fun fd=>Eo P f fd.type
   |some (.array n e)=>P.cellsOf t==n*P.cellsOf e&&Eo P f e
   |_=>false
structure Kp (Z Z':St):Prop where
 n:Z.n<=Z'.n
 row:∀ b cells,b<Z.n->Z.row b=some cells->Z'.row b=some cells
def Kp.refl (Z:St):Kp Z Z:=⟨BF _,fun _ _ _ h=>h⟩
def Kp.trans {Z'':St}(h:Kp Z Z') (k:Kp Z' Z''):Kp Z Z'':=⟨AV h.n k.n,fun b cells hb hr=>k.row b cells (z5z hb h.n) (h.row b cells hb hr)⟩
def Gv.mono {α:Type}{R S:α->List Value->Prop}(h:∀ a b,R a b->S a b):∀ {l:List α}{k:List (List Value)},Gv R l k->Gv S l k
 | [],[],_=>trivial
 |_::_,_::_,p=>⟨h _ _ p.1,p.2.mono h⟩
 | [],_::_,p=>p.elim
 |_::_,[],p=>p.elim
def DX.mono (hK:Kp Z Z'):∀ {f:Nat}{t:TypeId}{cs:List Value},DX P Z f t cs->DX P Z' f t cs:=by
 intro f;induction f with
 |zero=>intro t cs h;exact h
 | succ f ih=>
   intro t cs h;unfold DX at h ⊢;split at h
   ·exact h
   ·exact h
   ·exact h
   ·rcases h with h|⟨b,B9,cap,h1,h2,h3,h4,h5,h6⟩
    ·exact .inl h
    ·exact .inr ⟨b,B9,cap,h1,h2,h3,z5z h4 hK.n,hK.row _ _ h4 h5,fun r hr=>⟨(h6 r hr).1,ih (h6 r hr).2⟩⟩
   ·obtain⟨ps,h1,h2⟩:=h;exact⟨ps,h1,h2.mono fun _ _ h=>ih h⟩
   ·obtain⟨ps,h1,h2,h3⟩:=h;exact⟨ps,h1,h2,fun p hp=>⟨(h3 p hp).1,ih (h3 p hp).2⟩⟩
   ·exact h
structure Inv (B8:Env) (G:Nat) (W:World) (Z:St) (O:Place):Prop where
 rel:Rel B8 O Z W
 own:QW Z
 free:∀ b,Z.n<=b->O b=none
 Af3:Bm O G
 nil:∃ b,b<Z.n/\Z.row b=some []/\∃ q,O b=some q
def E7.len {O:Place}{l l':List Value}(h:E7 O l l'):l.length=l'.length:=by
 induction l generalizing l' with
 |nil=>cases h;rfl
 |cons a l ih=>cases h with|cons h hs=>simp[ih hs]
def Inv.arg {Z:St}{O:Place}(h:Inv B8 G W Z O){c o:Nat}{cells:List Value}{arr:Array Value}{e:TypeId}{f:Nat×Nat}(hh:W.heap[c]? =some (.cells arr e f)) (ho:o+cells.length<=arr.size) (hlo:W.heap.size<=B8.lo)
  (hc:∀ v∈cells,K4 v=true) (hv:∀ (i:Nat) (v:Value),cells[i]? =some v->∃ v',arr[o+i]? =some v'/\H3 O v v') :
  Inv B8 G W (Z.arg cells) (O.put Z.n ⟨c,o,arr.size⟩)/\Kp Z (Z.arg cells)/\O.le (O.put Z.n ⟨c,o,arr.size⟩):=by
 have hle:O.le (O.put Z.n ⟨c,o,arr.size⟩):=Place.HY _ (h.free _ nL);have hcw:c<W.heap.size:=by
  rcases AW c W.heap.size with h|h
  ·exact h
  ·rw[Array.getElem?_eq_none h]at hh;cases hh
 have hk:Kp Z (Z.arg cells):=⟨by rw[Ua];omega,fun b cs hb hr=>by rw[SK _ _ om];exact hr⟩
 refine⟨⟨iO h.rel h.own h.free hh rfl ho om hc hv,h.own.arg _,Zs h.free,h.Af3.mono hle,?_⟩,hk,hle⟩;obtain⟨b,h1,h2,q,h3⟩:=h.nil;exact⟨b,z5z h1 hk.n,hk.row _ _ h1 h2,q,hle _ _ h3⟩
def sV {α:Type}{sz:Nat}(hs:0<sz):∀ {B9:List (List α)}{i:Nat}{v:α},(∀ r∈B9,r.length=sz)->B9.flatten[i]? =some v->∃ r,B9[i / sz]? =some r/\r[i % sz]? =some v:=by
 intro B9;induction B9 with
 |nil=>intro i v _ h;simp at h
 | cons r B9 ih=>
   intro i v hr h;have hl:=hr r (by simp);by_cases hi:i<sz
   ·rw[Vu,List.getElem?_append_left om]at h;exact⟨r,by rw[sW hi];rfl,by rw[QE hi];exact h⟩
   ·rw[Vu,List.getElem?_append_right om]at h;obtain⟨r',h1,h2⟩:=ih (fun r hm=>hr r (by simp[hm])) h;rw[hl]at h1 h2;have e1:i / sz=(i-sz) / sz+1:=by rw[Nat.div_eq_sub_div hs om]
    have e2:i % sz=(i-sz) % sz:=Nat.mod_eq_sub_mod om;exact⟨r',by rw[e1,List.getElem?_cons_succ];exact h1,by rw[e2];exact h2⟩
def KY (h:w.cells? b a n=some cs):cs.length=n:=by
 unfold World.cells? at h;split at h
 ·simpa using mapM_some_length h
 ·cases h
def Zt {i:Nat}(h:w.cells? b a n=some cs) (hi:i<n):w.cell? (a.add i)=cs[i]? :=by
 unfold World.cells? at h;split at h
 ·exact mapM_some_get h i i (by simp[hi])
 ·cases h
def addr_add (hs:a.spot=none) (i:Nat):a.add i=⟨a.block,a.off+i,none⟩:=by
 obtain⟨b,o,s⟩:=a;cases(show s=none from hs);unfold Addr.add;split<;>simp_all
def OD {f:Nat}{B8:Env}
  (ih:∀ t cs x,DataW.trod enc P W 0 (fun _=>true) true f t cs=some x->Eo P f t=true->∀ Z O,Inv B8 G W Z O->∃ Z' O' cs',Inv B8 G W Z' O'/\Kp Z Z'/\O.le O'/\E7 O' cs' cs/\DX P Z' f t cs'/\∀ v∈cs',K4 v=true) :
  ∀ (L:List (TypeId×List Value)),(∀ p∈L,Eo P f p.1=true/\∃ x,DataW.trod enc P W 0 (fun _=>true) true f p.1 p.2=some x)->∀ Z O,Inv B8 G W Z O ->
   ∃ Z' O' ps,Inv B8 G W Z' O'/\Kp Z Z'/\O.le O'/\Gv (fun(p:TypeId×List Value) c=>E7 O' c p.2/\DX P Z' f p.1 c/\∀ v∈c,K4 v=true) L ps:=by
 intro L;induction L with
 |nil=>intro _ Z O h;exact⟨Z,O,[],h,.refl _,Place.le_refl _,trivial⟩
 | cons p L ihL=>
   intro hL Z O h;obtain⟨hd,x,hx⟩:=hL p (by simp);obtain⟨Z1,O1,c,i1,k1,l1,v1,a1,c1⟩:=ih _ _ _ hx hd Z O h;obtain⟨Z2,O2,ps,i2,k2,l2,q⟩:=ihL (fun p hp=>hL p (by simp[hp])) Z1 O1 i1;exact⟨Z2,O2,c::ps,i2,k1.trans k2,Place.le_trans l1 l2,⟨v1.mono l2,a1.mono k2,c1⟩,q⟩
def Gv.len {α:Type}{R:α->List Value->Prop}:∀ {l:List α}{k:List (List Value)},Gv R l k->l.length=k.length
 | [],[],_=>rfl
 |_::_,_::_,p=>by rw[CE,CE,p.2.len]
 | [],_::_,p=>p.elim
 |_::_,[],p=>p.elim
def Gv.get {α:Type}{R:α->List Value->Prop}:∀ {l:List α}{k:List (List Value)}{i:Nat}{b:List Value},Gv R l k->k[i]? =some b->∃ a,l[i]? =some a/\R a b
 |a::l,b::k,0,_,p,h=>by cases h;exact⟨a,rfl,p.1⟩
 |a::l,b::k,i+1,_,p,h=>p.2.get (i:=i) (by simpa using h)
 | [],[],_,_,_,h=>by simp at h
 | [],_::_,_,_,p,_=>p.elim
 |_::_,[],_,_,p,_=>p.elim
def Lz {α:Type}{R:α->List Value->Prop}{O:Place}{g:α->List Value}(hR:∀ a c,R a c->E7 O c (g a)):∀ {l:List α}{k:List (List Value)},Gv R l k->E7 O k.flatten (l.map g).flatten
 | [],[],_=> .nil
 | a::l,b::k,p=>by
   rw[Vu,YW,Vu];exact Ab.E7.append (Lz hR p.2) (hR _ _ p.1)
 | [],_::_,p=>p.elim
 |_::_,[],p=>p.elim
def Ow {cs:List Value}:∀ {fs:List Field}{o n:Nat},We P fs o=some n->n<=cs.length->(fs.map fun fd=>(cs.drop fd.offset).take (P.cellsOf fd.type)).flatten=(cs.drop o).take (n-o)/\o<=n
 | [],o,n,h,hl=>by
   cases h;simp
 | fd::fs,o,n,h,hl=>by
   unfold We at h;split at h
   ·rename_i ho;subst ho;obtain⟨h1,h2⟩:=Ow h hl;refine⟨?_,om⟩;rw[YW,Vu,h1];have e:n-fd.offset=P.cellsOf fd.type+(n-(fd.offset+P.cellsOf fd.type)):=om;rw[e,List.take_add,dk]
   ·cases h
def OE {α β:Type}{R:β->List Value->Prop}(g:α->β):∀ {l:List α}{k:List (List Value)},Gv R (l.map g) k->Gv (fun a c=>R (g a) c) l k
 | [],[],_=>trivial
 |_::_,_::_,p=>⟨p.1,OE g p.2⟩
 | [],_::_,p=>p.elim
 |_::_,[],p=>p.elim
def imp (hlo:W.heap.size<=B8.lo):∀ f t cs x,DataW.trod enc P W 0 (fun _=>true) true f t cs=some x->Eo P f t=true->∀ Z O,Inv B8 G W Z O ->
  ∃ Z' O' cs',Inv B8 G W Z' O'/\Kp Z Z'/\O.le O'/\E7 O' cs' cs/\DX P Z' f t cs'/\∀ v∈cs',K4 v=true:=by
 intro f;induction f with
 |zero=>intro t cs x _ hd;cases hd
 | succ f ih=>
   intro t cs x h hd Z O hI;unfold Eo at hd;have lL:∀ v,K4 v=true->∀ w∈[v],K4 w=true:=fun v hv w hw=>by rw[Lf]at hw;subst hw;exact hv
   split at hd
   ·rename_i ht;obtain⟨b,rfl⟩:∃ b,cs=[.bool b]:=by
     unfold DataW.trod at h;rw[ht]at h;split at h<;>simp_all
    exact⟨Z,O,[.bool b],hI,.refl _,Place.le_refl _,.cons (.I1 rfl) .nil,by unfold DX;rw[ht];exact⟨b,rfl⟩,lL _ rfl⟩
   ·rename_i k ht;obtain⟨n,rfl,hwf⟩:∃ n,cs=[.int k n]/\(Lit.int k n).wf=true:=by
     unfold DataW.trod at h;rw[ht]at h;split at h<;>simp_all
    exact⟨Z,O,[.int k n],hI,.refl _,Place.le_refl _,.cons (.I1 rfl) .nil,by unfold DX;rw[ht];exact⟨n,rfl,hwf⟩,lL _ rfl⟩
   ·rename_i ht;obtain⟨s,rfl,hsl⟩:∃ s,cs=[.string s]/\s.size<=maxLen:=by
     unfold DataW.trod at h;rw[ht]at h;split at h<;>simp_all
    exact⟨Z,O,[.string s],hI,.refl _,Place.le_refl _,.cons (.I1 rfl) .nil,by unfold DX;rw[ht];exact⟨s,rfl,hsl⟩,lL _ rfl⟩
   ·rename_i e ht;rw[Q7,Bt]at hd;obtain⟨hsz,hde⟩:=hd;rcases DataW.trod_slice ht h with⟨rfl,_⟩|⟨a,len,cap,elems,N3,n,hn,rfl,_,_,hl,hm,hlen,hel,hsp,_⟩
    ·exact⟨Z,O,[.slice none 0 0],hI,.refl _,Place.le_refl _,.cons (.I1 rfl) .nil,by unfold DX;rw[ht];exact .inl rfl,lL _ rfl⟩
    ·obtain rfl:n=f:=om
     -- the elements
     have AG7:∀ i,i<len->∃ c x,W.cells? 0 (a.add (i*P.cellsOf e)) (P.cellsOf e)=some c/\DataW.trod enc P W 0 (fun _=>true) true n e c=some x:=by
      intro i hi;have h1:=hel i hi;rw[List.getElem?_eq_getElem om]at h1;cases hc:W.cells? 0 (a.add (i*P.cellsOf e)) (P.cellsOf e)with
      |none=>rw[hc]at h1;cases h1
      |some c=>rw[hc]at h1;exact⟨c,_,rfl,h1⟩
     let g:Nat->List Value:=fun i=>(W.cells? 0 (a.add (i*P.cellsOf e)) (P.cellsOf e)).getD []
     have hg:∀ i,i<len->W.cells? 0 (a.add (i*P.cellsOf e)) (P.cellsOf e)=some (g i):=fun i hi=>by
      obtain⟨c,x,h1,h2⟩:=AG7 i hi;show _=some (Option.getD _ _);rw[h1];rfl
     obtain⟨Z1,O1,ps,i1,k1,l1,q1⟩:=OD ih ((List.range len).map fun i=>(e,g i)) (fun p hp=>by
      obtain⟨i,hi,rfl⟩:=cO.1 hp;rw[uy]at hi;obtain⟨c,x,h1,h2⟩:=AG7 i hi;rw[hg i hi]at h1;cases h1;exact⟨hde,x,h2⟩) Z O hI
     have hpl:ps.length=len:=by rw[<- q1.len];simp
     have FT:∀ (i:Nat) (r:List Value),ps[i]? =some r->i<len/\E7 O1 r (g i)/\DX P Z1 n e r/\(∀ v∈r,K4 v=true)/\r.length=P.cellsOf e:=by
      intro i r hr;obtain⟨p,h1,h2,h3,h4⟩:=q1.get hr;have hi:i<len:=by rw[<- hpl];exact(List.getElem?_eq_some_iff.1 hr).1
      rw[List.getElem?_map,List.getElem?_range hi]at h1;cases h1;exact⟨hi,h2,h3,h4,by rw[E7.len h2];exact KY (hg i hi)⟩
     have hrl:∀ r∈ps,r.length=P.cellsOf e:=fun r hr=>by
      obtain⟨i,hi⟩:=List.getElem?_of_mem hr;exact(FT i r hi).2.2.2.2
     have hfl:=HP ps hrl;by_cases hc0:cap=0
     ·subst hc0;obtain rfl:len=0:=om;obtain⟨b,b1,b2,q,b3⟩:=i1.nil;obtain rfl:ps=[]:=XB hpl;refine⟨Z1,O1,[.slice (some ⟨b,0,none⟩) 0 0],i1,k1,l1,.cons (.Bl b3) .nil,?_,lL _ rfl⟩;unfold DX;rw[ht];exact .inr ⟨b,[],0,rfl,BF _,hm,b1,b2,fun r hr=>by cases hr⟩
     ·
      have AS9:∃ c,W.cells? 0 (a.add (0*P.cellsOf e)) (P.cellsOf e)=some c:=by
       by_cases hl0:0<len
       ·exact⟨_,hg 0 hl0⟩
       ·obtain⟨h1,h2⟩:=hsp rfl;have h3:=h2 0 om;rw[List.getElem?_eq_getElem om,show len+0=0 by omega]at h3;cases hc:W.cells? 0 (a.add (0*P.cellsOf e)) (P.cellsOf e)with
        |none=>rw[hc]at h3;cases h3
        |some c=>exact⟨c,rfl⟩
      obtain⟨c0,Am5⟩:=AS9;have hcl:=KY Am5;have h00:=Zt Am5 (i:=0) hsz;rw[List.getElem?_eq_getElem om]at h00;obtain⟨arr,el,fr,hh,hs,h0⟩:=Zu h00;have haz:(a.add (0*P.cellsOf e)).add 0=a:=by rw[Fp];obtain⟨b,o,s⟩:=a;unfold Addr.add;simp
      rw[haz]at hh hs h0;have eM:∀ i j,(a.add i).add j=⟨a.block,a.off+i+j,none⟩:=fun i j=>by
       have e1:a.add i=⟨a.block,a.off+i,none⟩:=by
        obtain⟨b,o,s⟩:=a;cases(show s=none from hs);exact Ab.addr_add _ _ _
       rw[e1,Ab.addr_add]
      have hat:∀ i j,i<len->j<P.cellsOf e->arr[a.off+i*P.cellsOf e+j]? =(g i)[j]? :=by
       intro i j hi hj;have h1:=Zt (hg i hi) hj;rw[eM]at h1;have h2:=KY (hg i hi);rw[List.getElem?_eq_getElem om]at h1 ⊢;obtain⟨Am6,el',fr',h3,_,h4⟩:=Zu h1;rw[hh]at h3;cases h3;exact h4
      have AC8:a.off+ps.flatten.length<=arr.size:=by
       rw[hfl,hpl];by_cases hl0:0<len
       ·have h1:=hat (len-1) (P.cellsOf e-1) om om;have h2:=KY (hg (len-1) om);rw[List.getElem?_eq_getElem om]at h1;obtain⟨h3,_⟩:=Array.getElem?_eq_some_iff.1 h1;have e1:len*P.cellsOf e=(len-1)*P.cellsOf e+P.cellsOf e:=by rw[<- Sp];congr 1;omega
        omega
       ·obtain rfl:len=0:=om;obtain⟨h3,_⟩:=Array.getElem?_eq_some_iff.1 h0;omega
      obtain⟨i2,k2,l2⟩:=i1.arg (cells:=ps.flatten) hh AC8 hlo (fun v hv=>by
       obtain⟨r,hr,hvr⟩:=sX.1 hv;obtain⟨i,hi⟩:=List.getElem?_of_mem hr;exact(FT i r hi).2.2.2.1 v hvr) (fun i v hi=>by
       obtain⟨r,h1,h2⟩:=sV hsz hrl hi;obtain⟨h3,h4,-⟩:=FT _ r h1;obtain⟨v',h5,h6⟩:=h4.get h2;refine⟨v',?_,h6⟩;have h7:=hat _ _ h3 (MN i hsz);rw[h5,VD,Nat.div_add_mod']at h7;exact h7)
      refine⟨_,_,[.slice (some ⟨Z1.n,0,none⟩) len cap],i2,k1.trans k2,Place.le_trans l1 l2,.cons ?_ .nil,?_,lL _ rfl⟩
      ·have:some a=some ⟨(⟨a.block,a.off,arr.size⟩:BK).c,(⟨a.block,a.off,arr.size⟩:BK).o+0,none⟩:=by
        obtain⟨b,o,s⟩:=a;cases(show s=none from hs);rfl
       rw[this];exact .slice (Place.O7 _ _ _)
      ·unfold DX;rw[ht];refine .inr ⟨Z1.n,ps,cap,by rw[hpl],om,hm,by rw[Ua];omega,iP _ _,fun r hr=>?_⟩;obtain⟨i,hi⟩:=List.getElem?_of_mem hr;obtain⟨-,-,h3,-,h5⟩:=FT i r hi;exact⟨h5,h3.mono k2⟩
   ·rename_i fs ht;rw[Q7,beq_iff_eq,GJ]at hd;obtain⟨hct,hde⟩:=hd;obtain⟨xs,n,hn,_,hcl,hxl,hx⟩:=DataW.trod_struct ht h;obtain rfl:n=f:=om;obtain⟨Z1,O1,ps,i1,k1,l1,q1⟩:=OD ih (fs.toList.map fun fd=>(fd.type,(cs.drop fd.offset).take (P.cellsOf fd.type))) (fun p hp=>by
     obtain⟨fd,hfd,rfl⟩:=cO.1 hp;obtain⟨i,hi⟩:=List.getElem?_of_mem hfd;refine⟨hde fd hfd,?_⟩;have hlt:i<fs.size:=by
      have:=(List.getElem?_eq_some_iff.1 hi).1
      simpa using this
     have h1:=hx i fd (by rw[<- Array.getElem?_toList];exact hi);rw[List.getElem?_eq_getElem om]at h1;exact⟨_,h1⟩) Z O hI
    have q2:=OE _ q1;refine⟨Z1,O1,ps.flatten,i1,k1,l1,?_,?_,?_⟩
    ·have h1:=Lz (g:=fun fd:Field=>(cs.drop fd.offset).take (P.cellsOf fd.type)) (O:=O1) (fun a c h=>h.1) q2;obtain⟨h2,-⟩:=Ow (cs:=cs) hct om;rw[h2,Sv,Va,<- hcl,JF]at h1;exact h1
    ·unfold DX;rw[ht];exact⟨ps,rfl,q2.mono fun a c h=>h.2.1⟩
    ·intro v hv;obtain⟨r,hr,hvr⟩:=sX.1 hv;obtain⟨i,hi⟩:=List.getElem?_of_mem hr;obtain⟨p,-,hp⟩:=q1.get hi;exact hp.2.2 v hvr
   ·rename_i m e ht;rw[Q7,beq_iff_eq]at hd;obtain⟨hct,hde⟩:=hd;have Kc:cs.length=P.cellsOf t/\∀ i,i<m->∃ x,DataW.trod enc P W 0 (fun _=>true) true f e ((cs.drop (i*P.cellsOf e)).take (P.cellsOf e))=some x:=by
     unfold DataW.trod at h;rw[ht]at h;split at h<;>simp_all;obtain⟨xs,hp,hd⟩:=h.2;refine fun i hi=>?_;have h1:=mapM_some_get hp i i (by simp[hi]);have h2:=mapM_some_length hp;rw[List.length_range]at h2;rw[List.getElem?_eq_getElem om]at h1;exact⟨_,_,h1⟩
    obtain⟨hcl,hx⟩:=Kc;obtain⟨Z1,O1,ps,i1,k1,l1,q1⟩:=OD ih ((List.range m).map fun i=>(e,(cs.drop (i*P.cellsOf e)).take (P.cellsOf e))) (fun p hp=>by
     obtain⟨i,hi,rfl⟩:=cO.1 hp;rw[uy]at hi;exact⟨hde,hx i hi⟩) Z O hI
    have q2:=OE _ q1;have hpl:ps.length=m:=by rw[<- q1.len];simp
    have RM:∀ m,((List.range m).map fun i=>(cs.drop (i*P.cellsOf e)).take (P.cellsOf e)).flatten=cs.take (m*P.cellsOf e):=by
     intro m;induction m with
     |zero=>simp
     | succ m ihm=>
       rw[List.range_succ,IY,List.flatten_append,ihm,Sp,List.take_add];simp
    refine⟨Z1,O1,ps.flatten,i1,k1,l1,?_,?_,?_⟩
    ·have h1:=Lz (g:=fun i:Nat=>(cs.drop (i*P.cellsOf e)).take (P.cellsOf e)) (O:=O1) (fun a c h=>h.1) q2;rw[RM,<- hct,<- hcl,JF]at h1;exact h1
    ·unfold DX;rw[ht];refine⟨ps,rfl,hpl,fun p hp=>?_⟩;obtain⟨i,hi⟩:=List.getElem?_of_mem hp;obtain⟨j,h1,h2⟩:=q2.get hi;have hj:i<m:=by rw[<- hpl];exact(List.getElem?_eq_some_iff.1 hi).1
     rw[List.getElem?_range hj]at h1;cases h1;refine⟨?_,h2.2.1⟩;rw[E7.len h2.1,IK,Ng,hcl,hct];have:(i+1)*P.cellsOf e<=m*P.cellsOf e:=jJ _ hj;rw[Sp]at this;omega
    ·intro v hv;obtain⟨r,hr,hvr⟩:=sX.1 hv;obtain⟨i,hi⟩:=List.getElem?_of_mem hr;obtain⟨p,-,hp⟩:=q1.get hi;exact hp.2.2 v hvr
   ·cases hd
end
end
end Go.Ab.NU
namespace Go.Ab
open Go
section
variable {P:Program}
def Pt {α:Type}{a:α}:N7 P (pure a:Sem α)=some a:=rfl
def CY {α β:Type}{f:α->Sem β}(s:Sem α):N7 P (s >>= f)=ob (N7 P s) fun a=>N7 P (f a):=by
 show N7 P (s.bind f)=_;induction s with
 |pure a=>rfl
 |program k ih=>exact ih P
 |mark m k ih=>exact ih
 |_=>rfl
def MD:N7 P program=some P:=rfl
noncomputable def eqF (P:Program) (d:Nat) (xs ys:Array Value):List Field->Option Bool
 | []=>some true
 |f::fs=>bi (f.name != "_") (ob (N7 P (part f.type xs f.offset)) fun a=>ob (N7 P (part f.type ys f.offset)) fun b=>ob (N7 P (Op.equalIn d f.type a b)) fun r=>bi r (eqF P d xs ys fs) (some false)) (eqF P d xs ys fs)
def SZ {α:Type}{c:Prop} [Decidable c] {x y:Sem α}:N7 P (if c then x else y)=if c then N7 P x else N7 P y:=by split<;>rfl
def Uj {P:Program}{d:Nat}{xs ys:Array Value}:∀ fs:List Field,N7 P (Op.eqFields d xs ys fs)=eqF P d xs ys fs
 | []=>rfl
 | f::fs=>by
   have ih:=Uj (P:=P) (d:=d) (xs:=xs) (ys:=ys) fs;unfold Op.eqFields eqF;rw[SZ];by_cases h:f.name= "_"
   ·rw[z0z (by simpa using h),show(f.name != "_")=false from by simpa using h,BR,ih]
   ·rw[z1z h,show(f.name != "_")=true from by simpa using h,GN,CY]
    congr 1;funext a;rw[CY];congr 1;funext b;rw[CY];congr 1;funext r;rw[SZ];cases r with
    |true=>rw[z0z (by simp),GN,ih]
    |false=>rw[z1z (by simp),BR];rfl
def tf {t:TypeId}{u:TypeDesc}(h:P.underlying t=some u):N7 P (underlying t)=some u:=by
 unfold underlying;rw[CY,MD,D4];simp only[h];rfl
def lY {d:Nat}{t:TypeId}{xs ys:Array Value}(ht:P.underlying t=some (.struct (P.fieldsOf t))) (hp:P.stoodInHeld t=false):
  N7 P (Op.equalIn (d+1) t (.agg xs) (.agg ys))=eqF P d xs ys (P.fieldsOf t).toList:=by
 rw[<- Uj];simp only[Op.equalIn];rw[CY,tf ht,D4];simp only[CY,MD,D4,hp,IH,Gc];rw[<- Array.forIn_toList];generalize (P.fieldsOf t).toList=fs;clear ht;induction fs with
 |nil=>rfl
 | cons f fs ih=>
   simp only[List.forIn_cons,Op.eqFields,CY,SZ];by_cases hn:f.name= "_"
   ·simp only[ne_eq,hn,not_true,Gc,Pt,D4];exact ih
   ·simp only[ne_eq,hn,not_false_iff,FP,CY];cases N7 P (part f.type xs f.offset)with
    |none=>rfl
    | some a=>
      simp only[D4];cases N7 P (part f.type ys f.offset)with
      |none=>rfl
      | some b=>
        simp only[D4];cases N7 P (Op.equalIn d f.type a b)with
        |none=>rfl
        | some r=>
          cases r
          ·simp only[D4,XN,FP,Pt]
          ·simp only[D4,br,IH,Gc,Pt];exact ih
def Uk {P:Program}{t:TypeId}{x y:Operand}{xs ys:Array Value}{o:Option Bool}(hf:(LB xs&&LB ys)=true) (hm:P.eqGuardType P.depth t=false) (ht:P.underlying t=some (.struct (P.fieldsOf t))) (hp:P.stoodInHeld t=false)
  (he:eqF P 9999 xs ys (P.fieldsOf t).toList=o):Ay P .eql t x y (.agg xs) (.agg ys)=(ob o fun b=>some (.bool b))/\Ay P .neq t x y (.agg xs) (.agg ys)=ob o fun b=>some (.bool !b):=by
 have hg:∀ op,N7 P (eqGuard op t x y (.agg xs) (.agg ys))=some ():=by
  intro op;unfold eqGuard;rw[SZ];cases op<;>first|rfl|(simp only[br,IH,Gc,CY,MD,D4,hm,XN,FP,SZ,Pt])
 have h1:N7 P (Op.equal t (.agg xs) (.agg ys))=o:=by
  unfold Op.equal;exact(lY (d:=9999) ht hp).trans he
 constructor
 ·show bi (LB xs&&LB ys) (EI P .eql t x y (.agg xs) (.agg ys)) _=_;rw[hf,GN];unfold EI;rw[CY,CY,hg,D4];show ob (Kj (ob (N7 P (binOp .eql t (.agg xs) (.agg ys))) _)) cst=_;simp only[binOp];rw[CY,h1];cases o<;>rfl
 ·show bi (LB xs&&LB ys) (EI P .neq t x y (.agg xs) (.agg ys)) _=_;rw[hf,GN];unfold EI;rw[CY,CY,hg,D4];show ob (Kj (ob (N7 P (binOp .neq t (.agg xs) (.agg ys))) _)) cst=_;simp only[binOp];rw[CY,h1];cases o<;>rfl
end
end Go.Ab
