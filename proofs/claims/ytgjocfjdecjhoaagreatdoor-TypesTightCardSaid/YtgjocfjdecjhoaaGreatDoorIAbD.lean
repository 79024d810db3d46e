/- The abstract machine without a bound on its steps: its BQ satisfy its own Ar2. -/
import Derived.Test.YtgjocfjdecjhoaaGreatDoorIAbB
import Derived.RecoverIn
import Derived.Lib.Join
import Derived.Lib.UnsafeStr
import Derived.Laws.StructEq
set_option linter.unusedSimpArgs false
set_option linter.unusedVariables false
set_option linter.defProp false
set_option maxHeartbeats 32000000
set_option maxRecDepth 100000
namespace Go.Ab
open Go
section
variable {Z:St}{rd:Option Nat}{c:Code}{fr:Fr}{r:Res}
def M8.run (rd:Option Nat) (c:Code) (fr:Fr) (Z:St):M8 fun run=>run rd c fr Z:=⟨fun _ _ h r a=>h rd c fr Z r a,fun _ _ _ h r a=>h rd c fr Z r a⟩
def M8.ob {q s:Type}{i:RunT->Option q}{p:q->RunT->Option s}(h:M8 i) (k:∀ a,M8 (p a)):M8 fun run=>Ab.ob (i run) fun a=>p a run:=by
 constructor
 ·intro run d b r o;obtain⟨a,m,n⟩:=A8 o;show Ab.ob (i d) _=_;rw[h.mono _ _ b _ m];exact(k a).mono _ _ b _ n
 ·intro j l e b r o;obtain⟨a,m,n⟩:=A8 o;obtain⟨f,hf⟩:=h.fin j l e b _ m;obtain⟨g,hg⟩:=(k a).fin j l e b _ n;refine⟨max f g,?_⟩;show Ab.ob (i (j (max f g))) _=_;rw[h.mono _ _ (e f _ (Nat.le_max_left _ _)) _ hf];exact(k a).mono _ _ (e g _ (Nat.le_max_right _ _)) _ hg
def M8.bb {b:Type}(c:Bool){a:RunT->Option b}(h:M8 a):M8 fun run=>Ab.bb c (a run):=by
 cases c with
 |true=>exact h
 |false=>exact .const none
def M8.bi {d:Type}(c:Bool){a b:RunT->Option d}(h:M8 a) (k:M8 b):M8 fun run=>Ab.bi c (a run) (b run):=by
 cases c with
 |true=>exact h
 |false=>exact k
section
variable {P:Program}{H:EV}
def LY (r:Res){next:RunT->Fr->St->Option Res}(h:∀ fr Z,M8 fun run=>next run fr Z):M8 fun run=>Ar r (next run):=by
 obtain⟨o,fr,Z⟩:=r;cases o with
 |normal=>exact h fr Z
 |exit i=>exact .const _
 |ret=>exact .const _
 |pan v=>exact .const _
def eG (g:Nat) (b:List Value) (Z:St):M8 fun run=>PT P H run g b Z:=by
 unfold PT;cases H g with
 |some s=>exact s.cont _ _
 | none=>
   refine M8.ob (.const _) fun fn=>?_;cases fn.body with
   |none=>exact .const _
   |some a=>exact M8.ob (.run _ _ _ _) fun _=> .const _
def eH (b:Nat) (g:List Value) (Z:St):M8 fun run=>Ym run b g Z:=by
 unfold Ym;refine M8.ob (.const _) fun L=>?_;obtain⟨fr,ps,a,d,f,e⟩:=L;refine M8.bb _ (M8.ob (.const _) fun fr=>M8.ob (.run _ _ _ _) fun r=>?_);obtain⟨o,fr,Z⟩:=r;cases o with
 |exit i=>exact .const _
 |ret=>exact .const _
 |pan v=>exact .const _
 | normal=>
   refine M8.ob (.const _) fun L=>?_;obtain⟨fr,ps,a,d,f,e⟩:=L;exact M8.bb _ (M8.ob (.const _) fun Z=>M8.ob (.run _ _ _ _) fun r=> .const _)
def MO (t:Tgt) (a:List Value) (Z:St):M8 fun run=>DY P H run t a Z:=by
 cases t with
 |fn g=>exact eG g a Z
 |yld b=>exact eH b a Z
def Ov (fr:Fr) (Z:St) (o:Oper):M8 fun run=>step P (DY P H run) fr Z o:=by
 have key:∀ x:Op,M8 fun run=>rN x P (DY P H run) fr Z o:=by
  intro x;cases x with
  | call c=>
    show M8 fun run=>Zg P (DY P H run) fr Z c;unfold Zg;cases c.callee with
    | value f=>
      show M8 fun run=>SX (Hp (DY P H run) fr Z c f);unfold SX Hp;refine M8.ob (M8.ob (.const _) fun d=>M8.ob (.const _) fun v=>M8.ob (.const _) fun f=>?_) fun _=> .const _;obtain⟨g,first,a⟩:=f;exact MO _ _ _
    |builtin b=>exact .const _
    |_=>exact .const _
  |_=>exact .const _
 exact key o.op
def lj (a:Array Oper):∀ (l:List Oper) (fr:Fr) (Z:St),M8 fun run=>opsV P (DY P H run) a l fr Z:=by
 intro l;induction l with
 |nil=>intro fr Z;exact .const _
 | cons o l ih=>
   intro fr Z;refine M8.ob (.const _) fun c=>M8.bi c (M8.ob (Ov fr Z o) fun r=>?_) (ih _ _);obtain⟨v,b,d⟩:=r;cases d with
   |pan=>exact .const _
   |none=>exact ih _ _
   |read r=>exact ih _ _
   |eff=>exact ih _ _
def eI (a:Array Oper) (bs:List Nat) (i:Nat):∀ (l:List Oper) (j:Nat) (fr:Fr) (Z:St),M8 fun run=>Pf P (DY P H run) a bs i l j fr Z:=by
 intro l;induction l with
 |nil=>intro j fr Z;exact .const _
 | cons o l ih=>
   intro j fr Z;exact M8.bi _ (ih _ _ _) (M8.bb _ (M8.ob (.const _) fun c=>M8.bi c (M8.ob (Ov fr Z o) fun r=>ih _ _ _) (ih _ _ _)))
def Ow (a:Array Oper):∀ (l:List Oper) (i:Nat) (fr:Fr) (Z:St) (ds:List Trace),M8 fun run=>N0 P (DY P H run) a l i fr Z ds:=by
 intro l;induction l with
 |nil=>intro i fr Z ds;exact .const _
 | cons o l ih=>
   intro i fr Z ds;refine M8.ob (.const _) fun c=>M8.bi c (M8.ob (Ov fr Z o) fun r=>?_) (ih _ _ _ _);obtain⟨v,b,d⟩:=r;cases d with
   |pan=>exact M8.bb _ (M8.ob (eI _ _ _ _ _ _ _) fun _=> .const _)
   |none=>exact ih _ _ _ _
   |read r=>exact ih _ _ _ _
   |eff=>exact ih _ _ _ _
def MP (rd:Option Nat) (c:Code) (fr:Fr) (Z:St):M8 fun run=>AO5 P H run rd c fr Z:=by
 show M8 fun run=>rO c P H run rd fr Z;cases c with
 | region id os draw=>
   refine M8.bi draw (M8.bi _ ?_ (M8.ob (Ow _ _ _ _ _ _) fun r=> .const _)) (lj _ _ _ _);exact M8.ob (.const _) fun g=>M8.bb _ (M8.ob (Ow _ _ _ _ _ _) fun r0=>M8.ob (.const _) fun kv=>M8.ob (.const _) fun V=>M8.bb _ (M8.ob (Ow _ _ _ _ _ _) fun r=> .const _))
 |seq a b=>exact M8.ob (.run _ _ _ _) fun r=>LY r fun fr Z=> .run _ _ _ _
 |cond c a b=>exact M8.ob (.const _) fun v=>M8.ob (.const _) fun t=>M8.bi t (.run _ _ _ _) (.run _ _ _ _)
 |block id c=>exact M8.ob (.run _ _ _ _) fun r=> .const _
 |scope c=>exact .run _ _ _ _
 |loop c=>exact M8.ob (.run _ _ _ _) fun r=>LY r fun fr Z=> .run _ _ _ _
 | rangeFunc f ps assign body=>
   refine M8.bb _ (M8.ob (.const _) fun v=>M8.ob (.const _) fun f=>?_);obtain⟨t,first,d⟩:=f;exact M8.ob (.const _) fun g=>M8.bb _ (M8.ob (MO _ _ _) fun r=> .const _)
 |_=>exact .const _
def yz:∀ f,Le (exec P H f) (exec P H (f+1)):=by
 intro f;induction f with
 |zero=>intro rd c fr Z r h;cases h
 |succ f a=>intro rd c fr Z r h;exact(MP rd c fr Z).mono _ _ a r h
def Kv (f g:Nat) (h:f<=g):Le (exec P H f) (exec P H g):=by
 induction h with
 |refl=>intro _ _ _ _ _ h;exact h
 |step _ a=>intro rd c fr Z r h;exact yz _ _ _ _ _ _ (a _ _ _ _ _ h)
open Classical in
noncomputable def lim (P:Program) (H:EV):RunT:=fun rd c fr Z=>if h:∃ f r,exec P H f rd c fr Z=some r then exec P H h.choose rd c fr Z else none
def rP {f:Nat}(h:exec P H f rd c fr Z=some r):lim P H rd c fr Z=some r:=by
 have a:∃ f r,exec P H f rd c fr Z=some r:=⟨f,r,h⟩
 obtain⟨g,b⟩:=a.choose_spec;unfold lim;rw[dif_pos a,b];have e:=Kv _ _ (Nat.le_max_left f a.choose) _ _ _ _ _ h;have d:=Kv _ _ (Nat.le_max_right f a.choose) _ _ _ _ _ b;rw[e]at d;exact d.symm
def SY (h:lim P H rd c fr Z=some r):∃ f,exec P H f rd c fr Z=some r:=by
 unfold lim at h;split at h
 ·exact⟨_,h⟩
 ·cases h
def IG (rd:Option Nat) (c:Code) (fr:Fr) (Z:St):lim P H rd c fr Z=rO c P H (lim P H) rd fr Z:=by
 apply Option.ext;intro r;constructor
 ·intro h;obtain⟨f,h⟩:=SY h;cases f with
  |zero=>cases h
  |succ f=>exact(MP rd c fr Z).mono (exec P H f) _ (fun _ _ _ _ _ h=>rP h) r h
 ·intro h;obtain⟨f,h⟩:=(MP rd c fr Z).fin (exec P H) (lim P H) Kv (fun _ _ _ _ _ h=>SY h) r h;exact rP (f:=f+1) h
noncomputable def go (P:Program) (H:EV) (t:Tgt) (a:List Value) (Z:St):Option CR:=DY P H (lim P H) t a Z
def zA {t:Tgt}{a:List Value}{r:CR}(h:go P H t a Z=some r):∃ f,DY P H (exec P H f) t a Z=some r :=
 (MO t a Z).fin (exec P H) (lim P H) Kv (fun _ _ _ _ _ h=>SY h) r h
end
end
section
variable {x a c ix f b y:Operand}{v u:Value}{k n m g:Nat}{as:Array Operand}{next:Fr->St->Option Res}{t:Tmp}{vs:List Value}{fn:Func}
@[congr] theorem Ar9 {e j:Type}{x y:Option e}{f:e->Option j} (h:x=y):ob x f=ob y f:=by rw[h]
@[congr] theorem As0 {e:Type}{c d:Bool}{x:Option e} (h:c=d):bb c x=bb d x:=by rw[h]
@[congr] theorem As1 {e:Type}{c d:Bool}{x y:e} (h:c=d):bi c x y=bi d x y:=by rw[h]
@[congr] theorem As2 {e j o:Type}{p q:e×j}{f:e->j->o} (h:p=q):pr p f=pr q f:=by rw[h]
section
variable {P:Program}{H:EV}{call:Y4}{all:Array Oper}{l:List Oper}{fr:Fr}{Z:St}{d:Option Tmp}{ty:TypeId}{ps:String}{af:Array Edge}{i:Nat}{ds:List Trace}
noncomputable def W9 (P:Program) (call:Y4) (all:Array Oper) (l:List Oper) (fr:Fr) (r:Stepped) (d:Option Tmp):Option Res :=
 Stepped.rec (motive:=fun _=>Option Res) (fun v Z e=>Pk e (opsV P call all l (I7 fr d v) Z) (some ⟨.pan v,fr,Z⟩)) r
noncomputable def CE (P:Program) (call:Y4) (all:Array Oper) (op:Op) (l:List Oper) (i:Nat) (fr:Fr) (Z:St) (ds:List Trace) (r:Stepped) (d:Option Tmp):Option FST :=
 Stepped.rec (motive:=fun _=>Option FST) (fun v Z' e=>Pk e (N0 P call all l (i+1) (I7 fr d v) Z' (KP i Z Z' e ds)) (mL P call all op l i fr Z v Z' ds)) r
def zQ {op:Op}{g:Nat×Bool}:opsV P call all (⟨d,op,ty,ps,af,some g⟩::l) fr Z=ob (U8 all fr ⟨d,op,ty,ps,af,some g⟩) fun c=>bi c (opsV P call all (⟨d,op,ty,ps,af,none⟩::l) fr Z) (opsV P call all l (I7 fr d R6) Z):=by
 show ob _ _=_;cases e:U8 all fr ⟨d,op,ty,ps,af,some g⟩with
 |none=>rfl
 |some c=>cases op<;>(cases c<;>rfl)
def Zu:opsV P call all (⟨d,.move x,ty,ps,af,none⟩::l) fr Z=ob (ev fr x) fun v=>opsV P call all l (I7 fr d v) Z:=by
 show ob (J7 Z (ev fr x)) (fun r=>W9 P call all l fr r d)=_;cases ev fr x<;>rfl
def Zw:N0 P call all (⟨d,.move x,ty,ps,af,none⟩::l) i fr Z ds=ob (ev fr x) fun v=>N0 P call all l (i+1) (I7 fr d v) Z ds:=by
 show ob (J7 Z (ev fr x)) (fun r=>CE P call all _ l i fr Z ds r d)=_;cases ev fr x<;>rfl
def Ss:opsV P call all (⟨d,.assign x,ty,ps,af,none⟩::l) fr Z=ob (ev fr x) fun v=>opsV P call all l (I7 fr d v) Z:=by
 show ob (J7 Z (ev fr x)) (fun r=>W9 P call all l fr r d)=_;cases ev fr x<;>rfl
def Sv:N0 P call all (⟨d,.assign x,ty,ps,af,none⟩::l) i fr Z ds=ob (ev fr x) fun v=>N0 P call all l (i+1) (I7 fr d v) Z ds:=by
 show ob (J7 Z (ev fr x)) (fun r=>CE P call all _ l i fr Z ds r d)=_;cases ev fr x<;>rfl
def Zx:opsV P call all (⟨d,.pick c a b,ty,ps,af,none⟩::l) fr Z=ob (KJ fr c a b) fun v=>opsV P call all l (I7 fr d v) Z:=by
 show ob (J7 Z (KJ fr c a b)) (fun r=>W9 P call all l fr r d)=_;cases KJ fr c a b<;>rfl
def Zy:N0 P call all (⟨d,.pick c a b,ty,ps,af,none⟩::l) i fr Z ds=ob (KJ fr c a b) fun v=>N0 P call all l (i+1) (I7 fr d v) Z ds:=by
 show ob (J7 Z (KJ fr c a b)) (fun r=>CE P call all _ l i fr Z ds r d)=_;cases KJ fr c a b<;>rfl
def VO {t:TypeId}:opsV P call all (⟨d,.alloc t,ty,ps,af,none⟩::l) fr Z=ob (j8 P t) fun r=>pr r fun cs v=>opsV P call all l (I7 fr d (v Z.n)) (Z.new cs (some t)):=by
 show ob (asNew Z (j8 P t) (some t)) (fun r=>W9 P call all l fr r d)=_;cases j8 P t with
 |none=>rfl
 |some r=>cases r;rfl
def VQ {t:TypeId}:N0 P call all (⟨d,.alloc t,ty,ps,af,none⟩::l) i fr Z ds=ob (j8 P t) fun r=>pr r fun cs v=>N0 P call all l (i+1) (I7 fr d (v Z.n)) (Z.new cs (some t)) ds:=by
 show ob (asNew Z (j8 P t) (some t)) (fun r=>CE P call all _ l i fr Z ds r d)=_;cases j8 P t with
 |none=>rfl
 |some r=>cases r;rfl
def jE {t:TypeId}:opsV P call all (⟨d,.box t x,ty,ps,af,none⟩::l) fr Z=ob (dE fr x) fun r=>pr r fun cs v=>opsV P call all l (I7 fr d (v Z.n)) (Z.new cs):=by
 show ob (asNew Z (dE fr x)) (fun r=>W9 P call all l fr r d)=_;cases dE fr x with
 |none=>rfl
 |some r=>cases r;rfl
def VR {t:TypeId}{parts:Array (Nat×Operand)}:opsV P call all (⟨d,.build t parts,ty,ps,af,none⟩::l) fr Z=ob (GJ P fr t parts) fun v=>opsV P call all l (I7 fr d v) Z:=by
 show ob (J7 Z (GJ P fr t parts)) (fun r=>W9 P call all l fr r d)=_;cases GJ P fr t parts<;>rfl
def VS {t:TypeId}{parts:Array (Nat×Operand)}:N0 P call all (⟨d,.build t parts,ty,ps,af,none⟩::l) i fr Z ds=ob (GJ P fr t parts) fun v=>N0 P call all l (i+1) (I7 fr d v) Z ds:=by
 show ob (J7 Z (GJ P fr t parts)) (fun r=>CE P call all _ l i fr Z ds r d)=_;cases GJ P fr t parts<;>rfl
def KQ {t:TypeId}{parts:Array (Nat×Operand)}:opsV P call all (⟨d,.buildSlice t n parts,ty,ps,af,none⟩::l) fr Z=ob (Gw P fr t n parts) fun r=>pr r fun cs v=>opsV P call all l (I7 fr d (v Z.n)) (Z.new cs):=by
 show ob (asNew Z (Gw P fr t n parts)) (fun r=>W9 P call all l fr r d)=_;cases Gw P fr t n parts with
 |none=>rfl
 |some r=>cases r;rfl
def KR {t:TypeId}{parts:Array (Nat×Operand)}:N0 P call all (⟨d,.buildSlice t n parts,ty,ps,af,none⟩::l) i fr Z ds=ob (Gw P fr t n parts) fun r=>pr r fun cs v=>N0 P call all l (i+1) (I7 fr d (v Z.n)) (Z.new cs) ds:=by
 show ob (asNew Z (Gw P fr t n parts)) (fun r=>CE P call all _ l i fr Z ds r d)=_;cases Gw P fr t n parts with
 |none=>rfl
 |some r=>cases r;rfl
def Sw {t:TypeId}{m k:Operand}:opsV P call all (⟨d,.insert t m k x,ty,ps,af,none⟩::l) fr Z=ob (Bm P fr Z t m k x) fun r=>pr r fun v Z'=>opsV P call all l (I7 fr d v) Z':=by
 show ob (GV (Bm P fr Z t m k x)) (fun r=>W9 P call all l fr r d)=_;cases Bm P fr Z t m k x with
 |none=>rfl
 |some r=>cases r;rfl
def Zz {t:TypeId}:opsV P call all (⟨d,.load t a,ty,ps,af,none⟩::l) fr Z=ob (Ib P fr Z t a) fun r=>pr r fun v b=>opsV P call all l (I7 fr d v) Z:=by
 show ob (Dv Z (Ib P fr Z t a)) (fun r=>W9 P call all l fr r d)=_;cases Ib P fr Z t a with
 |none=>rfl
 |some r=>cases r;rfl
def aA {t:TypeId}:N0 P call all (⟨d,.load t a,ty,ps,af,none⟩::l) i fr Z ds=ob (Ib P fr Z t a) fun r=>pr r fun v b=>N0 P call all l (i+1) (I7 fr d v) Z (.read i b::ds):=by
 show ob (Dv Z (Ib P fr Z t a)) (fun r=>CE P call all _ l i fr Z ds r d)=_;cases Ib P fr Z t a with
 |none=>rfl
 |some r=>cases r;rfl
def VT {t:TypeId}{v:Operand}:opsV P call all (⟨d,.store t a v,ty,ps,af,none⟩::l) fr Z=ob (HM P fr Z t a v) fun r=>pr r fun v Z'=>opsV P call all l (I7 fr d v) Z':=by
 show ob (GV (HM P fr Z t a v)) (fun r=>W9 P call all l fr r d)=_;cases HM P fr Z t a v with
 |none=>rfl
 |some r=>cases r;rfl
def VU {t:TypeId}{v:Operand}:N0 P call all (⟨d,.store t a v,ty,ps,af,none⟩::l) i fr Z ds=ob (HM P fr Z t a v) fun r=>pr r fun v Z'=>N0 P call all l (i+1) (I7 fr d v) Z' (.eff i Z Z'::ds):=by
 show ob (GV (HM P fr Z t a v)) (fun r=>CE P call all _ l i fr Z ds r d)=_;cases HM P fr Z t a v with
 |none=>rfl
 |some r=>cases r;rfl
def Nb:opsV P call all (⟨d,.nilCheck x,ty,ps,af,none⟩::l) fr Z=ob (CD fr x) fun v=>opsV P call all l (I7 fr d v) Z:=by
 show ob (J7 Z (CD fr x)) (fun r=>W9 P call all l fr r d)=_;cases CD fr x<;>rfl
def Nc:N0 P call all (⟨d,.nilCheck x,ty,ps,af,none⟩::l) i fr Z ds=ob (CD fr x) fun v=>N0 P call all l (i+1) (I7 fr d v) Z ds:=by
 show ob (J7 Z (CD fr x)) (fun r=>CE P call all _ l i fr Z ds r d)=_;cases CD fr x<;>rfl
def jF {b:BinOp}{t u:TypeId}:opsV P call all (⟨d,.binOp b t x y u,ty,ps,af,none⟩::l) fr Z=ob (SI P fr ⟨d,.binOp b t x y u,ty,ps,af,none⟩ b t x y) fun v=>opsV P call all l (I7 fr d v) Z:=by
 show ob (J7 Z (SI P fr ⟨d,.binOp b t x y u,ty,ps,af,none⟩ b t x y)) (fun r=>W9 P call all l fr r d)=_;cases SI P fr ⟨d,.binOp b t x y u,ty,ps,af,none⟩ b t x y<;>rfl
def jG {b:BinOp}{t u:TypeId}:N0 P call all (⟨d,.binOp b t x y u,ty,ps,af,none⟩::l) i fr Z ds=ob (SI P fr ⟨d,.binOp b t x y u,ty,ps,af,none⟩ b t x y) fun v=>N0 P call all l (i+1) (I7 fr d v) Z ds:=by
 show ob (J7 Z (SI P fr ⟨d,.binOp b t x y u,ty,ps,af,none⟩ b t x y)) (fun r=>CE P call all _ l i fr Z ds r d)=_;cases SI P fr ⟨d,.binOp b t x y u,ty,ps,af,none⟩ b t x y<;>rfl
def sQ {b:UnOp}{t:TypeId}:opsV P call all (⟨d,.unOp b t x,ty,ps,af,none⟩::l) fr Z=ob (FI P fr ⟨d,.unOp b t x,ty,ps,af,none⟩ x) fun v=>opsV P call all l (I7 fr d v) Z:=by
 show ob (J7 Z (FI P fr ⟨d,.unOp b t x,ty,ps,af,none⟩ x)) (fun r=>W9 P call all l fr r d)=_;cases FI P fr ⟨d,.unOp b t x,ty,ps,af,none⟩ x<;>rfl
def aB {fn:Fn}{fs cs:Array Operand}:opsV P call all (⟨d,.makeFunc fn fs cs,ty,ps,af,none⟩::l) fr Z=ob (SM fr fn fs cs) fun v=>opsV P call all l (I7 fr d v) Z:=by
 show ob (J7 Z (SM fr fn fs cs)) (fun r=>W9 P call all l fr r d)=_;cases SM fr fn fs cs<;>rfl
def Pl {t:TypeId}{r:Option Operand}:opsV P call all (⟨d,.makeMap t r,ty,ps,af,none⟩::l) fr Z=ob (Fv fr Z r) fun r=>pr r fun v Z'=>opsV P call all l (I7 fr d v) Z':=by
 show ob (GV (Fv fr Z r)) (fun r=>W9 P call all l fr r d)=_;cases Fv fr Z r with
 |none=>rfl
 |some r=>cases r;rfl
def Ld {t:TypeId}{n:Operand}:opsV P call all (⟨d,.makeSlice t n c,ty,ps,af,none⟩::l) fr Z=ob (RV P fr t n c) fun r=>pr r fun cs v=>opsV P call all l (I7 fr d (v Z.n)) (Z.new cs):=by
 show ob (asNew Z (RV P fr t n c)) (fun r=>W9 P call all l fr r d)=_;cases RV P fr t n c with
 |none=>rfl
 |some r=>cases r;rfl
def VV {t:TypeId}{lo hi e:Option Operand}:opsV P call all (⟨d,.slice t x lo hi e,ty,ps,af,none⟩::l) fr Z=ob (MH P fr t x lo hi e) fun v=>opsV P call all l (I7 fr d v) Z:=by
 show ob (J7 Z (MH P fr t x lo hi e)) (fun r=>W9 P call all l fr r d)=_;cases MH P fr t x lo hi e<;>rfl
def Lf {s:TypeId}{f:Nat}:opsV P call all (⟨d,.fieldAddr s x f,ty,ps,af,none⟩::l) fr Z=ob (Af P fr s x f) fun v=>opsV P call all l (I7 fr d v) Z:=by
 show ob (J7 Z (Af P fr s x f)) (fun r=>W9 P call all l fr r d)=_;cases Af P fr s x f<;>rfl
def Lg {s:TypeId}{f:Nat}:N0 P call all (⟨d,.fieldAddr s x f,ty,ps,af,none⟩::l) i fr Z ds=ob (Af P fr s x f) fun v=>N0 P call all l (i+1) (I7 fr d v) Z ds:=by
 show ob (J7 Z (Af P fr s x f)) (fun r=>CE P call all _ l i fr Z ds r d)=_;cases Af P fr s x f<;>rfl
def Lh {t:TypeId}:opsV P call all (⟨d,.indexAddr t x ix,ty,ps,af,none⟩::l) fr Z=ob (Aw P fr t x ix) fun v=>opsV P call all l (I7 fr d v) Z:=by
 show ob (J7 Z (Aw P fr t x ix)) (fun r=>W9 P call all l fr r d)=_;cases Aw P fr t x ix<;>rfl
def Li {t:TypeId}:N0 P call all (⟨d,.indexAddr t x ix,ty,ps,af,none⟩::l) i fr Z ds=ob (Aw P fr t x ix) fun v=>N0 P call all l (i+1) (I7 fr d v) Z ds:=by
 show ob (J7 Z (Aw P fr t x ix)) (fun r=>CE P call all _ l i fr Z ds r d)=_;cases Aw P fr t x ix<;>rfl
def VW {t:TypeId}:opsV P call all (⟨d,.index t x ix,ty,ps,af,none⟩::l) fr Z=ob (MK P fr t x ix) fun v=>opsV P call all l (I7 fr d v) Z:=by
 show ob (J7 Z (MK P fr t x ix)) (fun r=>W9 P call all l fr r d)=_;cases MK P fr t x ix<;>rfl
def Sx {t:TypeId}{ok:Bool}:opsV P call all (⟨d,.lookup t x ix ok,ty,ps,af,none⟩::l) fr Z=ob (Gj P fr Z t x ix ok) fun r=>pr r fun v Z'=>opsV P call all l (I7 fr d v) Z':=by
 show ob (GV (Gj P fr Z t x ix ok)) (fun r=>W9 P call all l fr r d)=_;cases Gj P fr Z t x ix ok with
 |none=>rfl
 |some r=>cases r;rfl
def Pm {t:Operand}{ix:Nat}:opsV P call all (⟨d,.extract t ix,ty,ps,af,none⟩::l) fr Z=ob (DI fr t ix) fun v=>opsV P call all l (I7 fr d v) Z:=by
 show ob (J7 Z (DI fr t ix)) (fun r=>W9 P call all l fr r d)=_;cases DI fr t ix<;>rfl
def Pn {t:Operand}{ix:Nat}:N0 P call all (⟨d,.extract t ix,ty,ps,af,none⟩::l) i fr Z ds=ob (DI fr t ix) fun v=>N0 P call all l (i+1) (I7 fr d v) Z ds:=by
 show ob (J7 Z (DI fr t ix)) (fun r=>CE P call all _ l i fr Z ds r d)=_;cases DI fr t ix<;>rfl
def jH {ts:Array TypeId}:opsV P call all (⟨d,.call ⟨.builtin .len,as,ts⟩,ty,ps,af,none⟩::l) fr Z=ob (SD P fr ⟨.builtin .len,as,ts⟩) fun v=>opsV P call all l (I7 fr d v) Z:=by
 show ob (J7 Z (SD P fr ⟨.builtin .len,as,ts⟩)) (fun r=>W9 P call all l fr r d)=_;cases SD P fr ⟨.builtin .len,as,ts⟩<;>rfl
def jI {ts:Array TypeId}:N0 P call all (⟨d,.call ⟨.builtin .len,as,ts⟩,ty,ps,af,none⟩::l) i fr Z ds=ob (SD P fr ⟨.builtin .len,as,ts⟩) fun v=>N0 P call all l (i+1) (I7 fr d v) Z ds:=by
 show ob (J7 Z (SD P fr ⟨.builtin .len,as,ts⟩)) (fun r=>CE P call all _ l i fr Z ds r d)=_;cases SD P fr ⟨.builtin .len,as,ts⟩<;>rfl
def jJ {ts:Array TypeId}:opsV P call all (⟨d,.call ⟨.builtin .max,as,ts⟩,ty,ps,af,none⟩::l) fr Z=ob (pMM fr true ⟨.builtin .max,as,ts⟩) fun v=>opsV P call all l (I7 fr d v) Z:=by
 show ob (J7 Z (pMM fr true ⟨.builtin .max,as,ts⟩)) (fun r=>W9 P call all l fr r d)=_;cases pMM fr true ⟨.builtin .max,as,ts⟩<;>rfl
def Sy {ts:Array TypeId}:opsV P call all (⟨d,.call ⟨.builtin .append,as,ts⟩,ty,ps,af,none⟩::l) fr Z=ob (EU P fr Z ⟨.builtin .append,as,ts⟩) fun r=>pr r fun v Z'=>opsV P call all l (I7 fr d v) Z':=by
 show ob (GV (EU P fr Z ⟨.builtin .append,as,ts⟩)) (fun r=>W9 P call all l fr r d)=_;cases EU P fr Z ⟨.builtin .append,as,ts⟩with
 |none=>rfl
 |some r=>cases r;rfl
def Sz {ts:Array TypeId}:N0 P call all (⟨d,.call ⟨.builtin .append,as,ts⟩,ty,ps,af,none⟩::l) i fr Z ds=ob (EU P fr Z ⟨.builtin .append,as,ts⟩) fun r=>pr r fun v Z'=>N0 P call all l (i+1) (I7 fr d v) Z' (.eff i Z Z'::ds):=by
 show ob (GV (EU P fr Z ⟨.builtin .append,as,ts⟩)) (fun r=>CE P call all _ l i fr Z ds r d)=_;cases EU P fr Z ⟨.builtin .append,as,ts⟩with
 |none=>rfl
 |some r=>cases r;rfl
def aC {s u:TypeId}:opsV P call all (⟨d,.convert s u x,ty,ps,af,none⟩::l) fr Z=ob (orS (asNew Z (Gx P fr s u x)) (orS (Dv Z (DU P fr Z s u x)) (J7 Z (FI P fr ⟨d,.convert s u x,ty,ps,af,none⟩ x)))) fun r=>W9 P call all l fr r d:=rfl
def sR {ts:Array TypeId}:opsV P call all (⟨d,.call ⟨.value f,as,ts⟩,ty,ps,af,none⟩::l) fr Z=ob (Hp call fr Z ⟨.value f,as,ts⟩ f) fun r=>bi r.pan (some ⟨.pan r.v,fr,r.Z⟩) (opsV P call all l (I7 fr d r.v) r.Z):=by
 show ob (SX (Hp call fr Z ⟨.value f,as,ts⟩ f)) (fun r=>W9 P call all l fr r d)=_;cases Hp call fr Z ⟨.value f,as,ts⟩ f with
 |none=>rfl
 |some r=>obtain⟨p,v,e⟩:=r;cases p<;>rfl
def aD {s u:TypeId}:N0 P call all (⟨d,.convert s u x,ty,ps,af,none⟩::l) i fr Z ds=ob (orS (asNew Z (Gx P fr s u x)) (orS (Dv Z (DU P fr Z s u x)) (J7 Z (FI P fr ⟨d,.convert s u x,ty,ps,af,none⟩ x)))) fun r=>CE P call all (.convert s u x) l i fr Z ds r d:=rfl
def sS {ts:Array TypeId}:N0 P call all (⟨d,.call ⟨.value f,as,ts⟩,ty,ps,af,none⟩::l) i fr Z ds=ob (Hp call fr Z ⟨.value f,as,ts⟩ f) fun r=>bi r.pan (mL P call all (.call ⟨.value f,as,ts⟩) l i fr Z r.v r.Z ds) (N0 P call all l (i+1) (I7 fr d r.v) r.Z (.eff i Z r.Z::ds)):=by
 show ob (SX (Hp call fr Z ⟨.value f,as,ts⟩ f)) (fun r=>CE P call all _ l i fr Z ds r d)=_;cases Hp call fr Z ⟨.value f,as,ts⟩ f with
 |none=>rfl
 |some r=>obtain⟨p,v,e⟩:=r;cases p<;>rfl
def zR:opsV P call all [] fr Z=some ⟨.normal,fr,Z⟩:=rfl
def zS:N0 P call all [] i fr Z ds=some ⟨fr,Z,ds,none⟩:=rfl
def aE:I7 fr (some t) v=fr.set t v:=rfl
def aF:I7 fr none v=fr:=rfl
end
section
variable {P:Program}{H:EV}{rd:Option Nat}{fr:Fr}{Z:St}
def zT:lim P H rd .skip fr Z=some ⟨.normal,fr,Z⟩:=IG ..
def zU:lim P H rd (.exit k) fr Z=some ⟨.exit k,fr,Z⟩:=IG ..
def AY7:lim P H rd .ret fr Z=some ⟨.ret,fr,Z⟩:=IG ..
def AY8 {a b:Code}:lim P H rd (.seq a b) fr Z=ob (lim P H rd a fr Z) fun r=>Ar r (lim P H rd b):=IG ..
def jD {a:Code}:lim P H rd (.loop a) fr Z=ob (lim P H rd a fr Z) fun r=>Ar r (lim P H rd (.loop a)):=IG ..
def sT {a:Code}:lim P H rd (.block k a) fr Z=ob (lim P H rd a fr Z) (IC k):=IG ..
def zV {a b:Code}:lim P H rd (.cond c a b) fr Z=ob (ev fr c) fun v=>ob (bool? v) fun t=>bi t (lim P H rd a fr Z) (lim P H rd b fr Z):=IG ..
def zM {os:Array Oper}(h:Fo os.toList=false):lim P H rd (.region k os true) fr Z=drawn os (N0 P (go P H) os os.toList 0 fr Z []):=by
 refine(IG ..).trans ?_;show bi (Fo os.toList) _ _=_;rw[h];rfl
def mG:Ar ⟨.normal,fr,Z⟩ next=next fr Z:=rfl
def XR:Ar ⟨.exit k,fr,Z⟩ next=some ⟨.exit k,fr,Z⟩:=rfl
def eU:Ar ⟨.ret,fr,Z⟩ next=some ⟨.ret,fr,Z⟩:=rfl
def sL:Ar ⟨.pan v,fr,Z⟩ next=some ⟨.pan v,fr,Z⟩:=rfl
def mM:IC k ⟨.normal,fr,Z⟩=some ⟨.normal,fr,Z⟩:=rfl
def zW:IC k ⟨.exit m,fr,Z⟩=if m=k then some ⟨.normal,fr,Z⟩else some ⟨.exit m,fr,Z⟩:=by
 show bi (Nat.beq m k) _ _=_;by_cases h:m=k
 ·subst h;rw[z1z rfl];simp
 ·rw[z0z h];cases e:Nat.beq m k with
  |true=>exact absurd (Ai e) h
  |false=>rfl
def AY9:IC k ⟨.ret,fr,Z⟩=some ⟨.ret,fr,Z⟩:=rfl
def BF {t:Fr}:(t.set n v).get m=if m=n then some v else t.get m:=Tr.BF v t n m
def TA:IA [] k fr=fr:=rfl
def PA:IA (v::vs) k fr=IA vs (k+1) (fr.set k v):=rfl
def mN:(Tr.nil:Fr).get n=none:=rfl
def As3 {e:Code}(h:H g=none) (o:P.funcs[g]? =some fn) (j:fn.body=some e):
  go P H (.fn g) vs Z=ob (lim P H none e (IA vs 0 .nil) Z) fun r=>Hi P fn r:=by
 show PT P H (lim P H) g vs Z=_;unfold PT;rw[h];show ob (P.funcs[g]?) _=_;rw[o,D5];simp only[j];rfl
def ei:Hi P fn ⟨.normal,fr,Z⟩=ob (Iw P fr Z fn.results.toList) fun vs=>some ⟨false,tup vs,Z⟩:=rfl
def zX:Hi P fn ⟨.ret,fr,Z⟩=ob (Iw P fr Z fn.results.toList) fun vs=>some ⟨false,tup vs,Z⟩:=rfl
def zY:Iw P fr Z []=some []:=rfl
def zZ {l:List ResultVar}:Iw P fr Z (.tmp t::l)=ob (fr.get t) fun v=>ob (Iw P fr Z l) fun vs=>some (v::vs):=rfl
def sU {a:Tmp}{t:TypeId}{l:List ResultVar}:Iw P fr Z (.cell a t::l)=ob (ob (fr.get a) fun p=>Po P Z t p) fun v=>ob (Iw P fr Z l) fun vs=>some (v::vs):=rfl
def AZ0:ev fr (.tmp t)=fr.get t:=rfl
def za {f:FuncId}:ev fr (.func f)=some (.func (.func f) #[] #[]):=rfl
def AZ1 {k:IntKind}{n:Int}:ev fr (.const (.int k n))=some (.int k n):=rfl
def zb {b:Bool}:ev fr (.const (.bool b))=some (.bool b):=rfl
def ej:ev fr (.const .nilFunc)=some .nilFunc:=rfl
def aG:ev fr (.const (.slice none 0 0))=some (.slice none 0 0):=rfl
def zc:evs fr []=some []:=rfl
def sV {o:Operand}{l:List Operand}:evs fr (o::l)=ob (ev fr o) fun v=>ob (evs fr l) fun vs=>some (v::vs):=rfl
def zf:tup [v]=v:=rfl
def zi:tup []= .tuple ⟨[]⟩:=rfl
def zj:tup (v::u::vs)= .tuple ⟨v::u::vs⟩:=rfl
def AZ2 {b:Bool}:bool? (.bool b)=some b:=rfl
def As4:LL [v]=some v:=rfl
def As5:sW [v,u]=some (v,u):=rfl
def BG3 {b o:Nat}:at? (.pointer (some ⟨b,o,none⟩))=some (b,o):=rfl
def As6 {k:IntKind}:nat? (.int k (n:Int))=some n:=rfl
def AZ3 {k:IntKind}:nat? (.int k 0)=some 0:=rfl
def zk {c:Array Value}:eA (.tuple c)=some c.toList:=rfl
def AZ4 {a b:Array Value}:Na (.func (.func g) a b)=some ⟨.fn g,a.toList,b.toList⟩:=rfl
def aH {call:Y4}{c:Call}:Hp call fr Z c f=ob (evs fr c.args.toList) fun vs=>ob (ev fr f) fun v=>ob (Na v) fun f=>call f.g (f.first++vs++f.captured) Z:=rfl
end
/- WE. -/
def sN (a b:Nat):Nat.blt a b=decide (a<b):=by
 rw[z7z,BW,z3z]
def As7 (a b:Nat):Nat.beq a b=decide (a=b):=by
 rw[z7z,z3z];exact⟨Ai,fun h=>by subst h;simp⟩
def Ot (a b:Int):ilt a b=decide (a<b):=by
 rw[z7z,z3z];cases a with
 | ofNat a=>cases b with
   |ofNat b=>simp only[ilt,sN,z3z];exact Int.ofNat_lt.symm
   | negSucc b=>simp only[ilt];constructor
                ·intro h;cases h
                ·intro h;have:=AO9 b;have:=Int.natCast_nonneg a;simp only[Jp]at h;omega
 | negSucc a=>cases b with
   |ofNat b=>simp only[ilt,true_iff];have:=AO9 a;have:=Int.natCast_nonneg b;simp only[Jp];omega
   |negSucc b=>simp only[ilt,sN,z3z];rw[eZ,eZ];omega
def rH (a b:Int):ieq a b=decide (a=b):=by
 rw[z7z,z3z];cases a with
 | ofNat a=>cases b with
   |ofNat b=>simp only[ieq,As7,z3z];exact Int.ofNat_inj.symm
   | negSucc b=>simp only[ieq];constructor
                ·intro h;cases h
                ·intro h;cases h
 | negSucc a=>cases b with
   | ofNat b=>simp only[ieq];constructor
              ·intro h;cases h
              ·intro h;cases h
   |negSucc b=>simp only[ieq,As7,z3z];rw[eZ,eZ];omega
def zN:∀ (a b:List UInt8),MN a b=decide (a=b):=by
 intro a;induction a with
 |nil=>intro b;cases b<;>simp[MN]
 | cons x xs ih=>
   intro b;cases b with
   |nil=>simp[MN]
   | cons y ys=>
     show bi (Nat.beq x.toNat y.toNat) (MN xs ys) false=_;by_cases h:x=y
     ·subst h;simp[ih]
     ·have:Nat.beq x.toNat y.toNat=false:=by
       cases e:Nat.beq x.toNat y.toNat with
       |true=>exact absurd (UInt8.toNat_inj.1 (Ai e)) h
       |false=>rfl
      rw[this];simp[h]
end
section
variable {b k:Nat}
def Own (Z:St) (b:Nat) (cs:List Value):Prop:=∃ ver t,Z.h.get b=some ⟨cs,true,true,ver,.row t⟩
structure Ext (Z Z':St):Prop where
 n:Z.n<=Z'.n
 same:∀ b,b<Z.n->Z'.h.get b=Z.h.get b
noncomputable def St.upd (Z:St) (b:Nat) (cs:List Value):St:=⟨Z.h.set b ⟨cs,true,true,Z.ver b+1,.row (Z.typ b)⟩,Z.n⟩
noncomputable def St.dead (Z:St) (b:Nat):St:=⟨Z.h.set b ⟨[],false,true,Z.ver b+1,.row none⟩,Z.n⟩
variable {t:Option TypeId}
@[simp] theorem G3 (Z:St) (cs:List Value):(Z.new cs t).n=Z.n+1:=rfl
@[simp] theorem HH (Z:St) (b:Nat) (cs:List Value):(Z.upd b cs).n=Z.n:=rfl
@[simp] theorem TR (Z:St) (b:Nat):(Z.dead b).n=Z.n:=rfl
theorem Dk (Z:St) (cs:List Value) (b:Nat):(Z.new cs t).h.get b=if b=Z.n then some ⟨cs,true,true,0,.row t⟩else Z.h.get b:=Tr.BF _ _ _ _
def Aa (Z:St) (c:Nat) (cs:List Value) (b:Nat):(Z.upd c cs).h.get b=if b=c then some ⟨cs,true,true,Z.ver c+1,.row (Z.typ c)⟩else Z.h.get b:=Tr.BF _ _ _ _
def IZ (Z:St) (c:Nat) (b:Nat):(Z.dead c).h.get b=if b=c then some ⟨[],false,true,Z.ver c+1,.row none⟩else Z.h.get b:=Tr.BF _ _ _ _
def Ext.refl (Z:St):Ext Z Z:=⟨Bh _,fun _ _=>rfl⟩
def Ext.trans {Z Z' a:St}(h:Ext Z Z') (k:Ext Z' a):Ext Z a:=⟨j9 h.n k.n,fun b c=>by rw[k.same b (z5z c h.n),h.same b c]⟩
def Ext.new (Z:St) (cs:List Value):Ext Z (Z.new cs t):=⟨Nat.le_succ _,fun b a=>by rw[Dk,z0z om]⟩
def Ext.upd {Z Z':St}(h:Ext Z Z')(d:Z.n<=b) (cs:List Value):Ext Z (Z'.upd b cs):=⟨h.n,fun c a=>by rw[Aa,z0z om,h.same c a]⟩
def Ext.dead {Z Z':St}(h:Ext Z Z')(d:Z.n<=b):Ext Z (Z'.dead b):=⟨h.n,fun c a=>by rw[IZ,z0z om,h.same c a]⟩
def Ext.Q3 {Z Z':St}(h:Ext Z Z') (cs:List Value):Ext Z (Z'.new cs t):=h.trans (.new _ _)
def Own.new (Z:St) (cs:List Value):Own (Z.new cs t) Z.n cs:=⟨0,t,by rw[Dk,z1z rfl]⟩
def Own.upd (Z:St) (b:Nat) (cs:List Value):Own (Z.upd b cs) b cs:=⟨_,_,by rw[Aa,z1z rfl]⟩
/- Reads and writes, through new blocks and writes. -/
def ft {Z Z':St}(h:Z'.h.get b=Z.h.get b) (off n:Nat):Z'.read b off n=Z.read b off n:=by
 show ob (ob (ob (Z'.h.get b) _) _) _=ob (ob (ob (Z.h.get b) _) _) _;rw[h]
def Zt (Z:St) (cs:List Value)(off n:Nat) (h:b≠Z.n):(Z.new cs t).read b off n=Z.read b off n:=ft (by rw[Dk,z0z h]) _ _
/- uU. -/
def AF4 {a:Type}(l:List a):sub l 0 l.length=some l:=by rw[BR om];simp
def AF5 {a:Type}(l:List a) (n:Nat) (h:n=l.length):sub l 0 n=some l:=by subst h;exact AF4 l
def fW {a:Type}(l:List a):takeN 0 l=some []:=rfl
def fX {a:Type}(n:Nat) (x:a) (l:List a):takeN (n+1) (x::l)=ob (takeN n l) fun r=>some (x::r):=rfl
def Hl {d:Type}:∀ (B9:List (List d)),(∀ r∈B9,r.length=k)->B9.flatten.length=B9.length*k:=by
 intro B9;induction B9 with
 |nil=>intro _;simp
 |cons r B9 c=>intro h;simp[c (fun r a=>h r (by simp[a])),h r (by simp),UA];omega
def YA {c:Type}:∀ (B9:List (List c)) (i:Nat),(∀ r∈B9,r.length=k)->B9.flatten.drop (i*k)=(B9.drop i).flatten:=by
 intro B9;induction B9 with
 |nil=>intro i _;simp
 | cons r B9 ih=>
   intro i h;cases i with
   |zero=>simp
   | succ i=>
     have a:=h r (by simp);rw[UN,List.drop_append];rw[List.drop_eq_nil_of_le (by rw[a,UA];omega),MC,a,show(i+1)*k-k=i*k from by rw[UA];omega,ih i (fun r a=>h r (by simp[a]))];rfl
def KH {f:Type}{a:List (List f)}(h:∀ r∈a,r.length=k){i:Nat}{r:List f}(hi:a[i]? =some r){o n:Nat}(j:o+n<=k):sub a.flatten (i*k+o) n=sub r o n:=by
 obtain⟨c,d⟩:=List.getElem?_eq_some_iff.1 hi;have l:r.length=k:=h r (by rw[<- d];exact List.getElem_mem c);have e:(a.length-i)*k<=a.length*k-i*k:=by rw[Nat.sub_mul];exact Bh _
 have g:i*k+k<=a.length*k:=by
  have:(i+1)*k<=a.length*k:=kh k c;rw[UA]at this;exact this
 rw[BR (by rw[Hl a h];omega),BR om];rw[<- UM,YA a i h,Oe c,d,UN,List.drop_append,List.take_append];rw[show n-(r.drop o).length=0 from by rw[MD];omega];simp
end
section
variable {n m:Nat}{c b:Bool}{a:Option Addr}{body:Code}{l:List Oper}
universe q
structure Hd {α:Sort q}(a:α):Type where
def Ev {d:Type}(x:Option d) (Q:d->Prop) (_u:Hd Q):Prop:=∃ a,x=some a/\Q a
def Ct (c:Bool) (A:Prop) (_u:Hd A):Prop:=c=true/\A
def Br (c:Bool) (A B:Prop) (_u:Hd fun x:Bool=>cond x A B):Prop:=(c=true->A)/\(c=false->B)
def Ev.mono {d:Type}{x:Option d}{Q R:d->Prop}{u:Hd Q}{v:Hd R}(h:Ev x R v) (k:∀ a,R a->Q a):Ev x Q u:=let ⟨a,h1,h2⟩:=h;⟨a,h1,k a h2⟩
def N3 {d:Type}{a:d}{Q:d->Prop}{u:Hd Q}:Ev (some a) Q u=Q a:=propext ⟨fun⟨b,e,f⟩=>by cases e;exact f,fun h=>⟨a,rfl,h⟩⟩
def G1 {h i:Type}{x:Option h}{f:h->Option i}{Q:i->Prop}{u:Hd Q}:Ev (ob x f) Q u=Ev x (fun a=>Ev (f a) Q ⟨⟩) ⟨⟩:=propext ⟨fun⟨b,d,e⟩=>by
 obtain⟨a,g,j⟩:=A8 d;exact⟨a,g,b,j,e⟩,fun⟨a,d,b,e,g⟩=>⟨b,by rw[d];exact e,g⟩⟩
def sJ {g:Type}{x:Option g}{Q:g->Prop}{u:Hd Q}:Ev (bb c x) Q u=Ct c (Ev x Q ⟨⟩) ⟨⟩:=propext ⟨fun⟨b,d,e⟩=>by
 obtain⟨f,h⟩:=H9 d;exact⟨f,b,h,e⟩,fun⟨d,b,e,f⟩=>⟨b,by rw[d];exact e,f⟩⟩
def Sr {d:Type}{x y:Option d}{Q:d->Prop}{u:Hd Q}:Ev (bi c x y) Q u=Br c (Ev x Q ⟨⟩) (Ev y Q ⟨⟩) ⟨⟩:=by
 cases c with
 |true=>exact propext ⟨fun h=>⟨fun _=>h,fun h=>by cases h⟩,fun h=>h.1 rfl⟩
 |false=>exact propext ⟨fun h=>⟨fun h=>(by cases h),fun _=>h⟩,fun h=>h.2 rfl⟩
def AY6 {d:Type}{c:Prop} [Decidable c] {x y:Option d}{Q:d->Prop}{u:Hd Q}:Ev (if c then x else y) Q u=Br (decide c) (Ev x Q ⟨⟩) (Ev y Q ⟨⟩) ⟨⟩:=by
 by_cases h:c
 ·rw[z1z h];exact propext ⟨fun k=>⟨fun _=>k,fun g=>by simp[h]at g⟩,fun k=>k.1 (by simp[h])⟩
 ·rw[z0z h];exact propext ⟨fun k=>⟨fun g=>by simp[h]at g,fun _=>k⟩,fun k=>k.2 (by simp[h])⟩
def mF {A:Prop}{u:Hd A}:Ct true A u=A:=propext ⟨fun h=>h.2,fun h=>⟨rfl,h⟩⟩
def zL {A B:Prop}{u:Hd fun x:Bool=>cond x A B}:Br true A B u=A:=propext ⟨fun h=>h.1 rfl,fun h=>⟨fun _=>h,fun h=>by cases h⟩⟩
def sK {A B:Prop}{u:Hd fun x:Bool=>cond x A B}:Br false A B u=B:=propext ⟨fun h=>h.2 rfl,fun h=>⟨fun h=>(by cases h),fun _=>h⟩⟩
def Br.intro {A B:Prop}{u:Hd fun x:Bool=>cond x A B}(h:c=true->A) (k:c=false->B):Br c A B u:=⟨h,k⟩
def Ct.intro {A:Prop}{u:Hd A}(h:c=true) (k:A):Ct c A u:=⟨h,k⟩
section
variable {P:Program}{H:EV}{rd:Option Nat}{fr:Fr}{Z:St}
def LP (I:Nat->Fr->St->Prop) (R:Res->Prop) (n:Nat) (r:Res):Prop:=match r.o with
 | .normal=>∃ m,m<n/\I m r.fr r.Z
 |_=>R r
def X8 {I:Nat->Fr->St->Prop}{R:Res->Prop}:LP I R n ⟨.normal,fr,Z⟩=∃ m,m<n/\I m fr Z:=rfl
def BT {I:Nat->Fr->St->Prop}{R:Res->Prop}{k:Nat}:LP I R n ⟨.exit k,fr,Z⟩=R ⟨.exit k,fr,Z⟩:=rfl
def qH {I:Nat->Fr->St->Prop}{R:Res->Prop}:LP I R n ⟨.ret,fr,Z⟩=R ⟨.ret,fr,Z⟩:=rfl
def Bt {Q:Res->Prop}{u:Hd Q}(I:Nat->Fr->St->Prop) (R:Res->Prop) (n:Nat) (g:I n fr Z) (f:∀ n fr Z,I n fr Z->Ev (lim P H rd body fr Z) (LP I R n) ⟨⟩) (j:∀ r,R r->Q r):
  Ev (lim P H rd (.loop body) fr Z) Q u:=by
 have key:∀ n,∀ m,m<=n->∀ fr Z,I m fr Z->Ev (lim P H rd (.loop body) fr Z) R ⟨⟩:=by
  intro n;induction n with
  | zero=>
    intro m q fr Z h;rw[jD,G1];refine(f m fr Z h).mono ?_;rintro⟨o,e,Z'⟩ d;cases o with
    |normal=>obtain⟨k,p,_⟩:=d;omega
    |exit i=>rw[XR,N3];exact d
    |ret=>rw[eU,N3];exact d
    |pan v=>rw[sL,N3];exact d
  | succ n ih=>
    intro m q fr Z h;rw[jD,G1];refine(f m fr Z h).mono ?_;rintro⟨o,e,Z'⟩ d;cases o with
    |normal=>obtain⟨k,p,hi⟩:=d;rw[mG];exact ih k om e Z' hi
    |exit i=>rw[XR,N3];exact d
    |ret=>rw[eU,N3];exact d
    |pan v=>rw[sL,N3];exact d
 exact(key n n nL fr Z g).mono j
def eV {k:Nat}:lim P H rd (.region k l.toArray false) fr Z=opsV P (go P H) l.toArray l fr Z:=IG ..
structure XS (l:List Oper):Prop where
 no:Fo l=false
def sM {k:Nat}(h:XS l):lim P H rd (.region k l.toArray true) fr Z=drawn l.toArray (N0 P (go P H) l.toArray l 0 fr Z []):=zM h.no
def mH {f:Operand}{ps:List Tmp}{d:Code}:lim P H rd (.rangeFunc f ps.toArray d body) fr Z=eW P (go P H) rd f ps d body fr Z:=IG ..
def toArray_toList {d:Type}{l:List d}:l.toArray.toList=l:=rfl
/- Operations on values. -/
section
variable {x y:Operand}{o:Oper}{t u:TypeId}{k:IntKind}
def kW {c:Callee}:SD P fr ⟨c,#[x],#[t]⟩=ob (ev fr x) fun v=>ob (qX (P.underlying t) v) fun n=>some (.int .i64 n):=by
 show ob (ob (ev fr x) fun v=>ob (some []) fun d=>some (v::d)) _=_;cases ev fr x<;>rfl
def mI {e:TypeId}{c:Nat}:qX (some (.slice e)) (.slice a n c)=some n:=rfl
def VC (a b:ByteArray):MN a.data.toList b.data.toList=decide (a=b):=by
 rw[zN];by_cases h:a=b
 ·subst h;simp
 ·rw[z4z h,z4z];intro e;apply h;obtain⟨⟨a⟩⟩:=a;obtain⟨⟨b⟩⟩:=b;exact congrArg (fun l=>(⟨⟨l⟩⟩:ByteArray)) e
def XT {n:Int}(d: -9223372036854775808<=n) (e:n<=9223372036854775807):L9 .i64 n=n:=by
 unfold L9;have:inR .i64 n=true:=by
  cases n with
  |ofNat m=>simp only[inR,sN,z3z];simp only[Jp]at e;omega
  |negSucc m=>simp only[inR,sN,z3z];rw[eZ]at d;omega
 rw[this];rfl
def Rt (n:Nat):((n:Int)+1)=((n+1:Nat):Int):=rfl
def Rr (a b:Nat):decide ((a:Int)<(b:Int))=decide (a<b):=sI
def mJ {l:List Value}:J6 (.agg ⟨l⟩)=l:=rfl
def mK {n:Int}:J6 (.int k n)=[.int k n]:=rfl
def ec:J6 (.bool b)=[.bool b]:=rfl
def Pj {c:Nat}:J6 (.slice a n c)=[.slice a n c]:=rfl
def ef {f:Fn}{a b:Array Value}:J6 (.func f a b)=[.func f a b]:=rfl
def zO {l:Array Value}:DX (.agg l)=false:=rfl
def zP {n:Int}:DX (.int k n)=false:=rfl
def sO:DX (.bool b)=false:=rfl
def VN {c:Nat}:DX (.slice a n c)=false:=rfl
def sP {f:Fn}{a b:Array Value}:DX (.func f a b)=false:=rfl
def Qm (h:n=m):n.beq m=true:=by subst h;simp
def eg (h:n<m):Nat.blt n m=true:=by rw[sN];simpa using h
def Oz (h:n<=m):Nat.ble n m=true:=AM0 h
end
end
def eh {d:Type}{l new:List d}(h:new.length=l.length):N8 l 0 new=some new:=by
 have key:∀ (new l:List d),new.length=l.length->over new l=some new:=by
  intro new;induction new with
  | nil=>intro l h;cases l with
    |nil=>rfl
    |cons=>simp at h
  | cons x xs ih=>
    intro l h;cases l with
    |nil=>simp at h
    | cons y ys=>
      show ob (over xs ys) _=_;rw[ih ys (by simpa using h)];rfl
 exact key new l h
end
section
variable {x a c ix b v y t:Operand}{k n f:Nat}{as:Array Operand}{g:Nat×Bool}{next:Fr->St->Option Res}{fn:Func}
section
variable {P:Program}{H:EV}{call:Y4}{all:Array Oper}{l:List Oper}{fr:Fr}{Z:St}{d:Option Tmp}{ty:TypeId}{ps:String}{af:Array Edge}{i:Nat}{ds:List Trace}{rd:Option Nat}
def AH0 {op:Op}:N0 P call all (⟨d,op,ty,ps,af,some g⟩::l) i fr Z ds=ob (U8 all fr ⟨d,op,ty,ps,af,some g⟩) fun c=>bi c (N0 P call all (⟨d,op,ty,ps,af,none⟩::l) i fr Z ds) (N0 P call all l (i+1) (I7 fr d R6) Z ds):=by
 show ob _ _=_;cases e:U8 all fr ⟨d,op,ty,ps,af,some g⟩with
 |none=>rfl
 |some c=>cases op<;>(cases c<;>rfl)
def Au6 {e h j:Type}{a:e}{b:h}{f:e->h->Option j}{Q:j->Prop}{uq:Hd Q}:Ev (pr (a,b) f) Q uq=Ev (f a b) Q ⟨⟩:=rfl
def tt {Q:Res->Prop}{uq:Hd Q}:Ev (opsV P call all (⟨d,.move x,ty,ps,af,none⟩::l) fr Z) Q uq=Ev (ev fr x) (fun v=>Ev (opsV P call all l (I7 fr d v) Z) Q ⟨⟩) ⟨⟩:=by first|(rw[Zu,G1];done)|(rw[Zu,G1];rfl)
def fO {Q:Res->Prop}{uq:Hd Q}:Ev (opsV P call all (⟨d,.assign x,ty,ps,af,none⟩::l) fr Z) Q uq=Ev (ev fr x) (fun v=>Ev (opsV P call all l (I7 fr d v) Z) Q ⟨⟩) ⟨⟩:=by first|(rw[Ss,G1];done)|(rw[Ss,G1];rfl)
def tu {Q:Res->Prop}{uq:Hd Q}:Ev (opsV P call all (⟨d,.pick c a b,ty,ps,af,none⟩::l) fr Z) Q uq=Ev (KJ fr c a b) (fun v=>Ev (opsV P call all l (I7 fr d v) Z) Q ⟨⟩) ⟨⟩:=by first|(rw[Zx,G1];done)|(rw[Zx,G1];rfl)
def mq {t:TypeId}{Q:Res->Prop}{uq:Hd Q}:Ev (opsV P call all (⟨d,.alloc t,ty,ps,af,none⟩::l) fr Z) Q uq=Ev (j8 P t) (fun r=>Ev (opsV P call all l (I7 fr d (r.2 Z.n)) (Z.new r.1 (some t))) Q ⟨⟩) ⟨⟩:=by first|(rw[VO,G1];done)|(rw[VO,G1];rfl)
def AC6 {t:TypeId}{Q:Res->Prop}{uq:Hd Q}:Ev (opsV P call all (⟨d,.box t x,ty,ps,af,none⟩::l) fr Z) Q uq=Ev (dE fr x) (fun r=>Ev (opsV P call all l (I7 fr d (r.2 Z.n)) (Z.new r.1)) Q ⟨⟩) ⟨⟩:=by first|(rw[jE,G1];done)|(rw[jE,G1];rfl)
def mr {t:TypeId}{parts:Array (Nat×Operand)}{Q:Res->Prop}{uq:Hd Q}:Ev (opsV P call all (⟨d,.build t parts,ty,ps,af,none⟩::l) fr Z) Q uq=Ev (GJ P fr t parts) (fun v=>Ev (opsV P call all l (I7 fr d v) Z) Q ⟨⟩) ⟨⟩:=by first|(rw[VR,G1];done)|(rw[VR,G1];rfl)
def TO {t:TypeId}{parts:Array (Nat×Operand)}{Q:Res->Prop}{uq:Hd Q}:Ev (opsV P call all (⟨d,.buildSlice t n parts,ty,ps,af,none⟩::l) fr Z) Q uq=Ev (Gw P fr t n parts) (fun r=>Ev (opsV P call all l (I7 fr d (r.2 Z.n)) (Z.new r.1)) Q ⟨⟩) ⟨⟩:=by first|(rw[KQ,G1];done)|(rw[KQ,G1];rfl)
def fP {t:TypeId}{m k:Operand}{Q:Res->Prop}{uq:Hd Q}:Ev (opsV P call all (⟨d,.insert t m k x,ty,ps,af,none⟩::l) fr Z) Q uq=Ev (Bm P fr Z t m k x) (fun r=>Ev (opsV P call all l (I7 fr d r.1) r.2) Q ⟨⟩) ⟨⟩:=by first|(rw[Sw,G1];done)|(rw[Sw,G1];rfl)
def uA {t:TypeId}{Q:Res->Prop}{uq:Hd Q}:Ev (opsV P call all (⟨d,.load t a,ty,ps,af,none⟩::l) fr Z) Q uq=Ev (Ib P fr Z t a) (fun r=>Ev (opsV P call all l (I7 fr d r.1) Z) Q ⟨⟩) ⟨⟩:=by first|(rw[Zz,G1];done)|(rw[Zz,G1];rfl)
def mu {t:TypeId}{Q:Res->Prop}{uq:Hd Q}:Ev (opsV P call all (⟨d,.store t a v,ty,ps,af,none⟩::l) fr Z) Q uq=Ev (HM P fr Z t a v) (fun r=>Ev (opsV P call all l (I7 fr d r.1) r.2) Q ⟨⟩) ⟨⟩:=by first|(rw[VT,G1];done)|(rw[VT,G1];rfl)
def Xl {Q:Res->Prop}{uq:Hd Q}:Ev (opsV P call all (⟨d,.nilCheck x,ty,ps,af,none⟩::l) fr Z) Q uq=Ev (CD fr x) (fun v=>Ev (opsV P call all l (I7 fr d v) Z) Q ⟨⟩) ⟨⟩:=by first|(rw[Nb,G1];done)|(rw[Nb,G1];rfl)
def AC7 {b:BinOp}{t u:TypeId}{Q:Res->Prop}{uq:Hd Q}:Ev (opsV P call all (⟨d,.binOp b t x y u,ty,ps,af,none⟩::l) fr Z) Q uq=Ev (SI P fr ⟨d,.binOp b t x y u,ty,ps,af,none⟩ b t x y) (fun v=>Ev (opsV P call all l (I7 fr d v) Z) Q ⟨⟩) ⟨⟩:=by first|(rw[jF,G1];done)|(rw[jF,G1];rfl)
def Ab3 {b:UnOp}{t:TypeId}{Q:Res->Prop}{uq:Hd Q}:Ev (opsV P call all (⟨d,.unOp b t x,ty,ps,af,none⟩::l) fr Z) Q uq=Ev (FI P fr ⟨d,.unOp b t x,ty,ps,af,none⟩ x) (fun v=>Ev (opsV P call all l (I7 fr d v) Z) Q ⟨⟩) ⟨⟩:=by first|(rw[sQ,G1];done)|(rw[sQ,G1];rfl)
def uB {fn:Fn}{fs cs:Array Operand}{Q:Res->Prop}{uq:Hd Q}:Ev (opsV P call all (⟨d,.makeFunc fn fs cs,ty,ps,af,none⟩::l) fr Z) Q uq=Ev (SM fr fn fs cs) (fun v=>Ev (opsV P call all l (I7 fr d v) Z) Q ⟨⟩) ⟨⟩:=by first|(rw[aB,G1];done)|(rw[aB,G1];rfl)
def az {t:TypeId}{r:Option Operand}{Q:Res->Prop}{uq:Hd Q}:Ev (opsV P call all (⟨d,.makeMap t r,ty,ps,af,none⟩::l) fr Z) Q uq=Ev (Fv fr Z r) (fun r=>Ev (opsV P call all l (I7 fr d r.1) r.2) Q ⟨⟩) ⟨⟩:=by first|(rw[Pl,G1];done)|(rw[Pl,G1];rfl)
def UU {t:TypeId}{n:Operand}{Q:Res->Prop}{uq:Hd Q}:Ev (opsV P call all (⟨d,.makeSlice t n c,ty,ps,af,none⟩::l) fr Z) Q uq=Ev (RV P fr t n c) (fun r=>Ev (opsV P call all l (I7 fr d (r.2 Z.n)) (Z.new r.1)) Q ⟨⟩) ⟨⟩:=by first|(rw[Ld,G1];done)|(rw[Ld,G1];rfl)
def mw {t:TypeId}{lo hi e:Option Operand}{Q:Res->Prop}{uq:Hd Q}:Ev (opsV P call all (⟨d,.slice t x lo hi e,ty,ps,af,none⟩::l) fr Z) Q uq=Ev (MH P fr t x lo hi e) (fun v=>Ev (opsV P call all l (I7 fr d v) Z) Q ⟨⟩) ⟨⟩:=by first|(rw[VV,G1];done)|(rw[VV,G1];rfl)
def UW {s:TypeId}{Q:Res->Prop}{uq:Hd Q}:Ev (opsV P call all (⟨d,.fieldAddr s x f,ty,ps,af,none⟩::l) fr Z) Q uq=Ev (Af P fr s x f) (fun v=>Ev (opsV P call all l (I7 fr d v) Z) Q ⟨⟩) ⟨⟩:=by first|(rw[Lf,G1];done)|(rw[Lf,G1];rfl)
def UX {t:TypeId}{Q:Res->Prop}{uq:Hd Q}:Ev (opsV P call all (⟨d,.indexAddr t x ix,ty,ps,af,none⟩::l) fr Z) Q uq=Ev (Aw P fr t x ix) (fun v=>Ev (opsV P call all l (I7 fr d v) Z) Q ⟨⟩) ⟨⟩:=by first|(rw[Lh,G1];done)|(rw[Lh,G1];rfl)
def my {t:TypeId}{Q:Res->Prop}{uq:Hd Q}:Ev (opsV P call all (⟨d,.index t x ix,ty,ps,af,none⟩::l) fr Z) Q uq=Ev (MK P fr t x ix) (fun v=>Ev (opsV P call all l (I7 fr d v) Z) Q ⟨⟩) ⟨⟩:=by first|(rw[VW,G1];done)|(rw[VW,G1];rfl)
def fQ {t:TypeId}{ok:Bool}{Q:Res->Prop}{uq:Hd Q}:Ev (opsV P call all (⟨d,.lookup t x ix ok,ty,ps,af,none⟩::l) fr Z) Q uq=Ev (Gj P fr Z t x ix ok) (fun r=>Ev (opsV P call all l (I7 fr d r.1) r.2) Q ⟨⟩) ⟨⟩:=by first|(rw[Sx,G1];done)|(rw[Sx,G1];rfl)
def bA {ix:Nat}{Q:Res->Prop}{uq:Hd Q}:Ev (opsV P call all (⟨d,.extract t ix,ty,ps,af,none⟩::l) fr Z) Q uq=Ev (DI fr t ix) (fun v=>Ev (opsV P call all l (I7 fr d v) Z) Q ⟨⟩) ⟨⟩:=by first|(rw[Pm,G1];done)|(rw[Pm,G1];rfl)
def AC8 {ts:Array TypeId}{Q:Res->Prop}{uq:Hd Q}:Ev (opsV P call all (⟨d,.call ⟨.builtin .len,as,ts⟩,ty,ps,af,none⟩::l) fr Z) Q uq=Ev (SD P fr ⟨.builtin .len,as,ts⟩) (fun v=>Ev (opsV P call all l (I7 fr d v) Z) Q ⟨⟩) ⟨⟩:=by first|(rw[jH,G1];done)|(rw[jH,G1];rfl)
def AC9 {ts:Array TypeId}{Q:Res->Prop}{uq:Hd Q}:Ev (opsV P call all (⟨d,.call ⟨.builtin .max,as,ts⟩,ty,ps,af,none⟩::l) fr Z) Q uq=Ev (pMM fr true ⟨.builtin .max,as,ts⟩) (fun v=>Ev (opsV P call all l (I7 fr d v) Z) Q ⟨⟩) ⟨⟩:=by first|(rw[jJ,G1];done)|(rw[jJ,G1];rfl)
def fS {ts:Array TypeId}{Q:Res->Prop}{uq:Hd Q}:Ev (opsV P call all (⟨d,.call ⟨.builtin .append,as,ts⟩,ty,ps,af,none⟩::l) fr Z) Q uq=Ev (EU P fr Z ⟨.builtin .append,as,ts⟩) (fun r=>Ev (opsV P call all l (I7 fr d r.1) r.2) Q ⟨⟩) ⟨⟩:=by first|(rw[Sy,G1];done)|(rw[Sy,G1];rfl)
def uC {f:Operand}{ts:Array TypeId}{Q:Res->Prop}{uq:Hd Q}:Ev (opsV P call all (⟨d,.call ⟨.value f,as,ts⟩,ty,ps,af,none⟩::l) fr Z) Q uq =
  Ev (evs fr as.toList) (fun vs=>Ev (ev fr f) (fun v=>Ev (Na v) (fun F=>Ev (call F.g (F.first++vs++F.captured) Z) (fun r=>Br r.pan (Q ⟨.pan r.v,fr,r.Z⟩) (Ev (opsV P call all l (I7 fr d r.v) r.Z) Q ⟨⟩) ⟨⟩) ⟨⟩) ⟨⟩) ⟨⟩) ⟨⟩:=by
 rw[sR,aH,G1,G1];refine congrArg (fun z=>Ev _ z ⟨⟩) (funext fun vs=>?_);rw[G1];refine congrArg (fun z=>Ev _ z ⟨⟩) (funext fun v=>?_);rw[G1];refine congrArg (fun z=>Ev _ z ⟨⟩) (funext fun F=>?_);refine congrArg (fun z=>Ev _ z ⟨⟩) (funext fun r=>?_);rw[Sr,N3]
def ZZ {s t:TypeId}{Q:Res->Prop}{uq:Hd Q}:Ev (opsV P call all (⟨d,.convert s t x,ty,ps,af,none⟩::l) fr Z) Q uq =
  Ev (orS (asNew Z (Gx P fr s t x)) (orS (Dv Z (DU P fr Z s t x)) (J7 Z (FI P fr ⟨d,.convert s t x,ty,ps,af,none⟩ x)))) (fun r=>Ev (W9 P call all l fr r d) Q ⟨⟩) ⟨⟩:=by rw[aC,G1]
def Ab4 {op:Op}{Q:Res->Prop}{uq:Hd Q}:Ev (opsV P call all (⟨d,op,ty,ps,af,some g⟩::l) fr Z) Q uq=Ev (U8 all fr ⟨d,op,ty,ps,af,some g⟩) (fun c=>Br c (Ev (opsV P call all (⟨d,op,ty,ps,af,none⟩::l) fr Z) Q ⟨⟩) (Ev (opsV P call all l (I7 fr d R6) Z) Q ⟨⟩) ⟨⟩) ⟨⟩:=by
 rw[zQ,G1];refine congrArg (fun z=>Ev _ z ⟨⟩) (funext fun c=>?_);rw[Sr]
def uD {Q:FST->Prop}{uq:Hd Q}:Ev (N0 P call all (⟨d,.move x,ty,ps,af,none⟩::l) i fr Z ds) Q uq=Ev (ev fr x) (fun v=>Ev (N0 P call all l (i+1) (I7 fr d v) Z ds) Q ⟨⟩) ⟨⟩:=by first|(rw[Zw,G1];done)|(rw[Zw,G1];rfl)
def fU {Q:FST->Prop}{uq:Hd Q}:Ev (N0 P call all (⟨d,.assign x,ty,ps,af,none⟩::l) i fr Z ds) Q uq=Ev (ev fr x) (fun v=>Ev (N0 P call all l (i+1) (I7 fr d v) Z ds) Q ⟨⟩) ⟨⟩:=by first|(rw[Sv,G1];done)|(rw[Sv,G1];rfl)
def uE {Q:FST->Prop}{uq:Hd Q}:Ev (N0 P call all (⟨d,.pick c a b,ty,ps,af,none⟩::l) i fr Z ds) Q uq=Ev (KJ fr c a b) (fun v=>Ev (N0 P call all l (i+1) (I7 fr d v) Z ds) Q ⟨⟩) ⟨⟩:=by first|(rw[Zy,G1];done)|(rw[Zy,G1];rfl)
def mz {t:TypeId}{Q:FST->Prop}{uq:Hd Q}:Ev (N0 P call all (⟨d,.alloc t,ty,ps,af,none⟩::l) i fr Z ds) Q uq=Ev (j8 P t) (fun r=>Ev (N0 P call all l (i+1) (I7 fr d (r.2 Z.n)) (Z.new r.1 (some t)) ds) Q ⟨⟩) ⟨⟩:=by first|(rw[VQ,G1];done)|(rw[VQ,G1];rfl)
def nA {t:TypeId}{parts:Array (Nat×Operand)}{Q:FST->Prop}{uq:Hd Q}:Ev (N0 P call all (⟨d,.build t parts,ty,ps,af,none⟩::l) i fr Z ds) Q uq=Ev (GJ P fr t parts) (fun v=>Ev (N0 P call all l (i+1) (I7 fr d v) Z ds) Q ⟨⟩) ⟨⟩:=by first|(rw[VS,G1];done)|(rw[VS,G1];rfl)
def TP {t:TypeId}{parts:Array (Nat×Operand)}{Q:FST->Prop}{uq:Hd Q}:Ev (N0 P call all (⟨d,.buildSlice t n parts,ty,ps,af,none⟩::l) i fr Z ds) Q uq=Ev (Gw P fr t n parts) (fun r=>Ev (N0 P call all l (i+1) (I7 fr d (r.2 Z.n)) (Z.new r.1) ds) Q ⟨⟩) ⟨⟩:=by first|(rw[KR,G1];done)|(rw[KR,G1];rfl)
def uF {t:TypeId}{Q:FST->Prop}{uq:Hd Q}:Ev (N0 P call all (⟨d,.load t a,ty,ps,af,none⟩::l) i fr Z ds) Q uq=Ev (Ib P fr Z t a) (fun r=>Ev (N0 P call all l (i+1) (I7 fr d r.1) Z (.read i r.2::ds)) Q ⟨⟩) ⟨⟩:=by first|(rw[aA,G1];done)|(rw[aA,G1];rfl)
def nB {t:TypeId}{Q:FST->Prop}{uq:Hd Q}:Ev (N0 P call all (⟨d,.store t a v,ty,ps,af,none⟩::l) i fr Z ds) Q uq=Ev (HM P fr Z t a v) (fun r=>Ev (N0 P call all l (i+1) (I7 fr d r.1) r.2 (.eff i Z r.2::ds)) Q ⟨⟩) ⟨⟩:=by first|(rw[VU,G1];done)|(rw[VU,G1];rfl)
def Xm {Q:FST->Prop}{uq:Hd Q}:Ev (N0 P call all (⟨d,.nilCheck x,ty,ps,af,none⟩::l) i fr Z ds) Q uq=Ev (CD fr x) (fun v=>Ev (N0 P call all l (i+1) (I7 fr d v) Z ds) Q ⟨⟩) ⟨⟩:=by first|(rw[Nc,G1];done)|(rw[Nc,G1];rfl)
def AD0 {b:BinOp}{t u:TypeId}{Q:FST->Prop}{uq:Hd Q}:Ev (N0 P call all (⟨d,.binOp b t x y u,ty,ps,af,none⟩::l) i fr Z ds) Q uq=Ev (SI P fr ⟨d,.binOp b t x y u,ty,ps,af,none⟩ b t x y) (fun v=>Ev (N0 P call all l (i+1) (I7 fr d v) Z ds) Q ⟨⟩) ⟨⟩:=by first|(rw[jG,G1];done)|(rw[jG,G1];rfl)
def UY {s:TypeId}{Q:FST->Prop}{uq:Hd Q}:Ev (N0 P call all (⟨d,.fieldAddr s x f,ty,ps,af,none⟩::l) i fr Z ds) Q uq=Ev (Af P fr s x f) (fun v=>Ev (N0 P call all l (i+1) (I7 fr d v) Z ds) Q ⟨⟩) ⟨⟩:=by first|(rw[Lg,G1];done)|(rw[Lg,G1];rfl)
def UZ {t:TypeId}{Q:FST->Prop}{uq:Hd Q}:Ev (N0 P call all (⟨d,.indexAddr t x ix,ty,ps,af,none⟩::l) i fr Z ds) Q uq=Ev (Aw P fr t x ix) (fun v=>Ev (N0 P call all l (i+1) (I7 fr d v) Z ds) Q ⟨⟩) ⟨⟩:=by first|(rw[Li,G1];done)|(rw[Li,G1];rfl)
def bB {ix:Nat}{Q:FST->Prop}{uq:Hd Q}:Ev (N0 P call all (⟨d,.extract t ix,ty,ps,af,none⟩::l) i fr Z ds) Q uq=Ev (DI fr t ix) (fun v=>Ev (N0 P call all l (i+1) (I7 fr d v) Z ds) Q ⟨⟩) ⟨⟩:=by first|(rw[Pn,G1];done)|(rw[Pn,G1];rfl)
def AD1 {ts:Array TypeId}{Q:FST->Prop}{uq:Hd Q}:Ev (N0 P call all (⟨d,.call ⟨.builtin .len,as,ts⟩,ty,ps,af,none⟩::l) i fr Z ds) Q uq=Ev (SD P fr ⟨.builtin .len,as,ts⟩) (fun v=>Ev (N0 P call all l (i+1) (I7 fr d v) Z ds) Q ⟨⟩) ⟨⟩:=by first|(rw[jI,G1];done)|(rw[jI,G1];rfl)
def fV {ts:Array TypeId}{Q:FST->Prop}{uq:Hd Q}:Ev (N0 P call all (⟨d,.call ⟨.builtin .append,as,ts⟩,ty,ps,af,none⟩::l) i fr Z ds) Q uq=Ev (EU P fr Z ⟨.builtin .append,as,ts⟩) (fun r=>Ev (N0 P call all l (i+1) (I7 fr d r.1) r.2 (.eff i Z r.2::ds)) Q ⟨⟩) ⟨⟩:=by first|(rw[Sz,G1];done)|(rw[Sz,G1];rfl)
def uG {f:Operand}{ts:Array TypeId}{Q:FST->Prop}{uq:Hd Q}:Ev (N0 P call all (⟨d,.call ⟨.value f,as,ts⟩,ty,ps,af,none⟩::l) i fr Z ds) Q uq =
  Ev (evs fr as.toList) (fun vs=>Ev (ev fr f) (fun v=>Ev (Na v) (fun F=>Ev (call F.g (F.first++vs++F.captured) Z) (fun r=>Br r.pan (Ev (mL P call all (.call ⟨.value f,as,ts⟩) l i fr Z r.v r.Z ds) Q ⟨⟩) (Ev (N0 P call all l (i+1) (I7 fr d r.v) r.Z (.eff i Z r.Z::ds)) Q ⟨⟩) ⟨⟩) ⟨⟩) ⟨⟩) ⟨⟩) ⟨⟩:=by
 rw[sS,aH,G1,G1];refine congrArg (fun z=>Ev _ z ⟨⟩) (funext fun vs=>?_);rw[G1];refine congrArg (fun z=>Ev _ z ⟨⟩) (funext fun v=>?_);rw[G1];refine congrArg (fun z=>Ev _ z ⟨⟩) (funext fun F=>?_);refine congrArg (fun z=>Ev _ z ⟨⟩) (funext fun r=>?_);rw[Sr]
def Zc {s t:TypeId}{Q:FST->Prop}{uq:Hd Q}:Ev (N0 P call all (⟨d,.convert s t x,ty,ps,af,none⟩::l) i fr Z ds) Q uq =
  Ev (orS (asNew Z (Gx P fr s t x)) (orS (Dv Z (DU P fr Z s t x)) (J7 Z (FI P fr ⟨d,.convert s t x,ty,ps,af,none⟩ x)))) (fun r=>Ev (CE P call all (.convert s t x) l i fr Z ds r d) Q ⟨⟩) ⟨⟩:=by rw[aD,G1]
def Ab5 {op:Op}{Q:FST->Prop}{uq:Hd Q}:Ev (N0 P call all (⟨d,op,ty,ps,af,some g⟩::l) i fr Z ds) Q uq=Ev (U8 all fr ⟨d,op,ty,ps,af,some g⟩) (fun c=>Br c (Ev (N0 P call all (⟨d,op,ty,ps,af,none⟩::l) i fr Z ds) Q ⟨⟩) (Ev (N0 P call all l (i+1) (I7 fr d R6) Z ds) Q ⟨⟩) ⟨⟩) ⟨⟩:=by
 rw[AH0,G1];refine congrArg (fun z=>Ev _ z ⟨⟩) (funext fun c=>?_);rw[Sr]
def AC4 {Q:Res->Prop}{uq:Hd Q}:Ev (opsV P call all [] fr Z) Q uq=Q ⟨.normal,fr,Z⟩:=by rw[zR,N3]
def AC5 {Q:FST->Prop}{uq:Hd Q}:Ev (N0 P call all [] i fr Z ds) Q uq=Q ⟨fr,Z,ds,none⟩:=by rw[zS,N3]
section
variable {Q:Res->Prop}{uq:Hd Q}
def AB8:Ev (lim P H rd .skip fr Z) Q uq=Q ⟨.normal,fr,Z⟩:=by rw[zT,N3]
def AB9:Ev (lim P H rd (.exit k) fr Z) Q uq=Q ⟨.exit k,fr,Z⟩:=by rw[zU,N3]
def Aa9:Ev (lim P H rd .ret fr Z) Q uq=Q ⟨.ret,fr,Z⟩:=by rw[AY7,N3]
def ti {a b:Code}:Ev (lim P H rd (.seq a b) fr Z) Q uq=Ev (lim P H rd a fr Z) (fun r=>Ev (Ar r (lim P H rd b)) Q ⟨⟩) ⟨⟩:=by rw[AY8,G1]
def tj {a:Code}:Ev (lim P H rd (.block k a) fr Z) Q uq=Ev (lim P H rd a fr Z) (fun r=>Ev (IC k r) Q ⟨⟩) ⟨⟩:=by rw[sT,G1]
def AC0 {a b:Code}:Ev (lim P H rd (.cond c a b) fr Z) Q uq=Ev (ev fr c) (fun v=>Ev (bool? v) (fun t=>Br t (Ev (lim P H rd a fr Z) Q ⟨⟩) (Ev (lim P H rd b fr Z) Q ⟨⟩) ⟨⟩) ⟨⟩) ⟨⟩:=by
 rw[zV,G1];refine congrArg (fun z=>Ev _ z ⟨⟩) (funext fun v=>?_);rw[G1];refine congrArg (fun z=>Ev _ z ⟨⟩) (funext fun t=>?_);rw[Sr]
def mi {l:List Oper}:Ev (lim P H rd (.region k l.toArray false) fr Z) Q uq=Ev (opsV P (go P H) l.toArray l fr Z) Q ⟨⟩:=by rw[eV]
def AC1 {l:List Oper}(h:XS l):Ev (lim P H rd (.region k l.toArray true) fr Z) Q uq=Ev (N0 P (go P H) l.toArray l 0 fr Z []) (fun r=>Ct (BV (Region.before l.toArray).toList r.ds r.ds) (Q ⟨zl r.p,r.fr,r.Z⟩) ⟨⟩) ⟨⟩:=by
 rw[sM h];show Ev (ob _ _) Q uq=_;rw[G1];refine congrArg (fun z=>Ev _ z ⟨⟩) (funext fun r=>?_);obtain⟨fr,Z,ds⟩:=r;show Ev (bb _ _) Q _=_;rw[sJ,N3]
def Gp:Ev (Ar ⟨.normal,fr,Z⟩ next) Q uq=Ev (next fr Z) Q ⟨⟩:=rfl
def AC2:Ev (Ar ⟨.exit k,fr,Z⟩ next) Q uq=Q ⟨.exit k,fr,Z⟩:=by rw[XR,N3]
def Ab0:Ev (Ar ⟨.ret,fr,Z⟩ next) Q uq=Q ⟨.ret,fr,Z⟩:=by rw[eU,N3]
def mj:Ev (IC k ⟨.normal,fr,Z⟩) Q uq=Q ⟨.normal,fr,Z⟩:=by rw[mM,N3]
def Ab1:Ev (IC k ⟨.ret,fr,Z⟩) Q uq=Q ⟨.ret,fr,Z⟩:=by rw[AY9,N3]
def AC3 {m:Nat}:Ev (IC k ⟨.exit m,fr,Z⟩) Q uq=Br (decide (m=k)) (Q ⟨.normal,fr,Z⟩) (Q ⟨.exit m,fr,Z⟩) ⟨⟩:=by
 rw[zW,AY6,N3,N3]
end
def mn {Q:CR->Prop}{uq:Hd Q}:Ev (Hi P fn ⟨.normal,fr,Z⟩) Q uq=Ev (Iw P fr Z fn.results.toList) (fun vs=>Q ⟨false,tup vs,Z⟩) ⟨⟩:=by
 rw[ei,G1];refine congrArg (fun z=>Ev _ z ⟨⟩) (funext fun vs=>?_);rw[N3]
def Ab2 {Q:CR->Prop}{uq:Hd Q}:Ev (Hi P fn ⟨.ret,fr,Z⟩) Q uq=Ev (Iw P fr Z fn.results.toList) (fun vs=>Q ⟨false,tup vs,Z⟩) ⟨⟩:=by
 rw[zX,G1];refine congrArg (fun z=>Ev _ z ⟨⟩) (funext fun vs=>?_);rw[N3]
def C8 {g:Nat}{j:List Value}{fn:Func}{e:Code}{Q:CR->Prop}{uq:Hd Q}(p:P.funcs[g]? =some fn) (o:fn.body=some e) (m:H g=none:=by rfl)
  (h:Ev (lim P H none e (IA j 0 .nil) Z) (fun r=>Ev (Hi P fn r) Q ⟨⟩) ⟨⟩):Ev (go P H (.fn g) j Z) Q uq:=by
 rw[As3 m p o,G1];exact h
end
end
def K3 (Z:St) (b:Nat) (fr:Fr) (ps:List Nat) (assign body:Code) (st:LoopState) (R9:Option Code):Prop:=∃ cells ver,Z.h.get b=some ⟨cells,true,true,ver,.loop fr ps assign body st R9⟩
noncomputable def St.IJ (Z:St) (b:Nat) (fr:Fr) (ps:List Nat) (assign body:Code) (st:LoopState) (R9:Option Code):St:=⟨Z.h.set b ⟨[],true,true,Z.ver b+1,.loop fr ps assign body st R9⟩,Z.n⟩
section
variable {Z:St}{b:Nat}{fr:Fr}{ps:List Nat}{assign body:Code}{st:LoopState}{R9:Option Code}
def K3.blk (h:K3 Z b fr ps assign body st R9):∃ cells ver,Z.blk b=some ⟨cells,true,true,ver,.loop fr ps assign body st R9⟩:=by
 obtain⟨c,v,h⟩:=h;refine⟨c,v,?_⟩;show ob (Z.h.get b) _=_;rw[h];rfl
def K3.JH (h:K3 Z b fr ps assign body st R9):Z.JH b=some ⟨fr,ps,assign,body,st,R9⟩:=by
 obtain⟨c,v,h⟩:=h.blk;show ob (Z.blk b) _=_;rw[h];rfl
def K3.Bc (h:K3 Z b fr ps assign body st R9) (a:LoopState) (f:Option Code):Z.Bc b a f=some (Z.IJ b fr ps assign body a f):=by
 obtain⟨c,v,d⟩:=h;have i:Z.ver b=v:=by unfold St.ver;rw[d]
 obtain⟨j,v',g⟩:=K3.blk ⟨c,v,d⟩;have e:v'=v:=by
  have:=(AM g).1;rw[d]at this;cases this;rfl
 subst e;show ob (Z.blk b) _=_;unfold St.IJ;rw[g,i];rfl
@[simp] theorem fY:(Z.IJ b fr ps assign body st R9).n=Z.n:=rfl
@[simp] theorem fZ (cs:List Value) (k:Kind):(Z.Dt cs k).n=Z.n+1:=rfl
theorem AV (c:Nat):(Z.IJ b fr ps assign body st R9).h.get c=if c=b then some ⟨[],true,true,Z.ver b+1,.loop fr ps assign body st R9⟩else Z.h.get c:=Tr.BF _ _ _ _
def OB (cs:List Value) (k:Kind) (c:Nat):(Z.Dt cs k).h.get c=if c=Z.n then some ⟨cs,true,true,0,k⟩else Z.h.get c:=Tr.BF _ _ _ _
def K3.new:K3 (Z.Dt [] (.loop fr ps assign body st R9)) Z.n fr ps assign body st R9:=⟨[],0,by rw[OB,z1z rfl]⟩
def K3.upd:K3 (Z.IJ b fr ps assign body st R9) b fr ps assign body st R9:=⟨[],_,by rw[AV,z1z rfl]⟩
def K3.Gv {Z':St}(h:K3 Z b fr ps assign body st R9) (a:Z'.h.get b=Z.h.get b):K3 Z' b fr ps assign body st R9:=let ⟨c,v,h⟩:=h;⟨c,v,by rw[a];exact h⟩
def Ext.Dt {Z0:St}(h:Ext Z0 Z) (cs:List Value) (k:Kind):Ext Z0 (Z.Dt cs k):=⟨Nat.le_succ_of_le h.n,fun c a=>by rw[OB,z0z (by have:=h.n;omega),h.same c a]⟩
def Ext.IJ {Z0:St}(h:Ext Z0 Z) (d:Z0.n<=b):Ext Z0 (Z.IJ b fr ps assign body st R9):=⟨h.n,fun c a=>by rw[AV,z0z om,h.same c a]⟩
end
section
variable {P:Program}{H:EV}{Z:St}{b:Nat}{fr:Fr}{ps:List Nat}{assign body:Code}{R9:Option Code}
def ax (b:Nat) (Q:CR->Prop) (r:Res):Prop:=∃ fr ps assign body st R9,K3 r.Z b fr ps assign body st R9/\(match r.o with
 | .normal=>Q ⟨false,.bool true,r.Z.IJ b fr ps assign body .ready none⟩
 | .exit i=>Q ⟨false,.bool false,r.Z.IJ b fr ps assign body .done (some (.exit i))⟩
 | .ret=>Q ⟨false,.bool false,r.Z.IJ b fr ps assign body .done (some .ret)⟩
 | .pan _=>False)
def cV {r:Res}{Q:CR->Prop}{d:Hd Q}(h:ax b Q r):Ev (cJ b r) Q d:=by
 obtain⟨fr,ps,e,bd,st,R9,c,a⟩:=h;obtain⟨o,fr',Z'⟩:=r;cases o with
 | normal=>
   show Ev (ob (Z'.Bc b .ready none) _) Q _;rw[K3.Bc c,D5,N3];exact a
 | exit i=>
   show Ev (ob (Z'.Bc b .done (some (.exit i))) _) Q _;rw[K3.Bc c,D5,N3];exact a
 | ret=>
   show Ev (ob (Z'.Bc b .done (some .ret)) _) Q _;rw[K3.Bc c,D5,N3];exact a
 |pan v=>exact a.elim
def tf {c:List Value}{a:Fr}{Q:CR->Prop}{j:Hd Q}(g:K3 Z b fr ps assign body .ready R9) (e:TI ps c fr=some a)
  (h:Ev (lim P H (some b) assign a Z) (fun r=>∃ fr2 Z1 fr' ps' as' bd' Hw,r=⟨.normal,fr2,Z1⟩/\K3 Z1 b fr' ps' as' bd' .ready Hw/\Ev (lim P H (some b) body fr2 (Z1.IJ b fr' ps' as' bd' .busy Hw)) (ax b Q) ⟨⟩) ⟨⟩) :
  Ev (go P H (.yld b) c Z) Q j:=by
 show Ev (ob (Z.JH b) _) Q _;rw[g.JH,D5];show Ev (ob (TI ps c fr) _) Q _;rw[e,D5,G1];refine h.mono ?_;rintro r ⟨fr2,Z1,fr',ps',as',bd',Hw,rfl,d,f⟩;show Ev (ob (Z1.JH b) _) Q _;rw[d.JH,D5];show Ev (ob (Z1.Bc b .busy Hw) _) Q _;rw[d.Bc,D5,G1];exact f.mono fun r i=>cV i
def ay {f:Operand}{l:List Tmp}{g:Nat}{fs cs:Array Value}{Q:Res->Prop}{k:Hd Q}(j:ev fr f=some (.func (.func g) fs cs)) (i:RB P g=true)
  (h:Ev (go P H (.fn g) (fs.toList++[.func (.yield Z.n) #[] #[]]++cs.toList) (Z.Dt [] (.loop fr l assign body .ready none))) (fun r=>∃ v Z1 fr' ps' as' bd' st Hw o,r=⟨false,v,Z1⟩/\K3 Z1 Z.n fr' ps' as' bd' st Hw/\Tl st=false /\
    bw Hw=some o/\Q ⟨o,fr,Z1.IJ Z.n fr' ps' as' bd' .exhausted Hw⟩) ⟨⟩):Ev (lim P H none (.rangeFunc f l.toArray assign body) fr Z) Q k:=by
 rw[mH];show Ev (ob (ev fr f) _) Q _;rw[j,D5];show Ev (bb (RB P g) _) Q _;rw[i,DA,G1];refine h.mono ?_;rintro r ⟨v,Z1,fr',ps',as',bd',st,Hw,o,rfl,a,c,d,e⟩;show Ev (ob (Z1.JH Z.n) _) Q _;rw[a.JH,D5];show Ev (bi (Tl st) none (ob (Z1.Bc Z.n .exhausted Hw) fun Z=>ob (bw Hw) fun o=>some ⟨o,fr,Z⟩)) Q _;rw[c,Cp,a.Bc,D5,d,D5,N3];exact e
end
section
variable {a b:Int}{v:Value}{Z':St}{i:Nat}{ds:List Trace}{o:Oper}
section
variable {P:Program}{H:EV}{call:Y4}{all:Array Oper}{l:List Oper}{fr:Fr}{Z:St}{d:Option Tmp}{ty t u:TypeId}{ps:String}{af:Array Edge}{x y:Operand}
noncomputable def Em (P:Program) (b:BinOp) (t:TypeId) (x y:Operand) (a c:Value):Option Value :=
 ob (LS (O8 P (do pure (.value (<- (do eqGuard b t x y a c;binOp b t a c)))))) cst
noncomputable def Aq (P:Program) (b:BinOp) (t:TypeId) (x y:Operand) (a c:Value):Option Value:=orV (JW b a c) (bi (flat a&&flat c) (Em P b t x y a c) (qy P t b a c))
def ya {b:BinOp}:SI P fr ⟨d,.binOp b t x y u,ty,ps,af,none⟩ b t x y=ob (ev fr x) fun a=>ob (ev fr y) fun c=>Aq P b t x y a c:=by
 show ob (ev fr x) _=_;cases g:ev fr x with
 |none=>rfl
 | some a=>
   show ob (ev fr y) _=ob (ev fr y) _;cases j:ev fr y with
   |none=>rfl
   | some c=>
     show yQ P fr _ b t a c=_;have e:(fun y=>(ev fr y).getD R6) x=a:=by show(ev fr x).getD R6=a;rw[g];rfl
     have f:(fun y=>(ev fr y).getD R6) y=c:=by show(ev fr y).getD R6=c;rw[j];rfl
     have h:LX P fr ⟨d,.binOp b t x y u,ty,ps,af,none⟩=Em P b t x y a c:=by
      unfold LX Em;simp only[execOp,e,f]
     unfold yQ Aq;rw[h];rfl
def AW7 {k:IntKind}:Aq P .add t x y (.int k a) (.int k b)=some (.int k (L9 k (a+b))):=by cases k<;>rfl
def AW8 {k:IntKind}:Aq P .sub t x y (.int k a) (.int k b)=some (.int k (L9 k (a-b))):=by cases k<;>rfl
def AW9 {k:IntKind}:Aq P .mul t x y (.int k a) (.int k b)=some (.int k (L9 k (a*b))):=by cases k<;>rfl
def AX0 {k:IntKind}:Aq P .eql t x y (.int k a) (.int k b)=some (.bool (decide (a=b))):=by rw[<- rH];cases k<;>rfl
def AX1 {k:IntKind}:Aq P .neq t x y (.int k a) (.int k b)=some (.bool (!decide (a=b))):=by
 rw[<- rH];have h:Aq P .neq t x y (.int k a) (.int k b)=some (.bool (bi (ieq a b) false true)):=by cases k<;>rfl
 rw[h];cases ieq a b<;>rfl
def AX2 {k:IntKind}:Aq P .lss t x y (.int k a) (.int k b)=some (.bool (decide (a<b))):=by rw[<- Ot];cases k<;>rfl
def AX3 {k:IntKind}:Aq P .leq t x y (.int k a) (.int k b)=some (.bool (!decide (b<a))):=by
 rw[<- Ot];have h:Aq P .leq t x y (.int k a) (.int k b)=some (.bool (bi (ilt b a) false true)):=by cases k<;>rfl
 rw[h];cases ilt b a<;>rfl
def AX4 {k:IntKind}:Aq P .gtr t x y (.int k a) (.int k b)=some (.bool (decide (b<a))):=by rw[<- Ot];cases k<;>rfl
def AX5 {k:IntKind}:Aq P .geq t x y (.int k a) (.int k b)=some (.bool (!decide (a<b))):=by
 rw[<- Ot];have h:Aq P .geq t x y (.int k a) (.int k b)=some (.bool (bi (ilt a b) false true)):=by cases k<;>rfl
 rw[h];cases ilt a b<;>rfl
def yb {a b:ByteArray}:Aq P .eql t x y (.string a) (.string b)=some (.bool (decide (a=b))):=by rw[<- VC];rfl
def yc {a b:ByteArray}:Aq P .neq t x y (.string a) (.string b)=some (.bool (!decide (a=b))):=by
 rw[<- VC];show some (Value.bool (bi (MN a.data.toList b.data.toList) false true))=_;cases MN a.data.toList b.data.toList<;>rfl
def AX6 {k:IntKind}(h:b≠0):Aq P .rem t x y (.int k a) (.int k b)=some (.int k (a.tmod b)):=by
 have key:Em P .rem t x y (.int k a) (.int k b)=some (.int k (a.tmod b)):=by
  unfold Em;simp only[eqGuard,binOp,Op.intDiv,z0z h];cases k<;>rfl
 show orV (JW .rem (.int k a) (.int k b)) (Em P .rem t x y (.int k a) (.int k b))=_;rw[key];cases k<;>rfl
def AX7 {k:IntKind}(h:b≠0):Aq P .quo t x y (.int k a) (.int k b)=some (.int k (k.wrap (a.tdiv b))):=by
 have key:Em P .quo t x y (.int k a) (.int k b)=some (.int k (k.wrap (a.tdiv b))):=by
  unfold Em;simp only[eqGuard,binOp,Op.intDiv,z0z h];cases k<;>rfl
 show orV (JW .quo (.int k a) (.int k b)) (Em P .quo t x y (.int k a) (.int k b))=_;rw[key];cases k<;>rfl
noncomputable def IX (P:Program) (Z:St) (s t:TypeId) (a:Value):Option Stepped :=
 orS (asNew Z (bb (P.underlying s).isSome (ob (Kj a) fun l=>ob (elem? P t) fun e=>bb (isByte (P.underlying e)) (some (ET l,fun n=> .slice (some ⟨n,0,some 1⟩) l.length l.length)))))
  (orS (Dv Z (ob (Ou a) fun p=>pra p fun b off n=>ob (elem? P s) fun e=>bb (isByte (P.underlying e)) (bb (isStr (P.underlying t)) (ob (Z.read b off n) fun l=>ob (Ba l) fun l=>some (.string ⟨l.toArray⟩,⟨b,off,n⟩)))))
    (J7 Z (bb (flat a) (ob (LS (O8 P (do pure (.value (<- convert s t a))))) cst))))
def iY {s:TypeId}:orS (asNew Z (Gx P fr s t x)) (orS (Dv Z (DU P fr Z s t x)) (J7 Z (FI P fr ⟨d,.convert s t x,ty,ps,af,none⟩ x)))=ob (ev fr x) fun a=>IX P Z s t a:=by
 cases h:ev fr x with
 | none=>
   unfold Gx DU FI;simp only[h,yd];cases(P.underlying s).isSome<;>rfl
 | some a=>
   have e:(fun y=>(ev fr y).getD R6) x=a:=by show(ev fr x).getD R6=a;rw[h];rfl
   have c:LX P fr ⟨d,.convert s t x,ty,ps,af,none⟩=ob (LS (O8 P (do pure (.value (<- convert s t a))))) cst:=by
    unfold LX;simp only[execOp,e]
   unfold Gx DU FI IX;simp only[h,D5,c]
def rI {s t:TypeId}{x:Operand}{Q:Res->Prop}{c:Hd Q}:Ev (opsV P call all (⟨d,.convert s t x,ty,ps,af,none⟩::l) fr Z) Q c =
  Ev (ev fr x) (fun a=>Ev (IX P Z s t a) (fun r=>Ev (W9 P call all l fr r d) Q ⟨⟩) ⟨⟩) ⟨⟩:=by rw[ZZ,iY,G1]
def rJ {s t:TypeId}{x:Operand}{Q:FST->Prop}{c:Hd Q}:Ev (N0 P call all (⟨d,.convert s t x,ty,ps,af,none⟩::l) i fr Z ds) Q c =
  Ev (ev fr x) (fun a=>Ev (IX P Z s t a) (fun r=>Ev (CE P call all (.convert s t x) l i fr Z ds r d) Q ⟨⟩) ⟨⟩) ⟨⟩:=by rw[Zc,iY,G1]
def yf {Q:Res->Prop}{c:Hd Q}:Ev (W9 P call all l fr ⟨v,Z',.none⟩ d) Q c=Ev (opsV P call all l (I7 fr d v) Z') Q ⟨⟩:=rfl
def yg {r:Ay}{Q:Res->Prop}{c:Hd Q}:Ev (W9 P call all l fr ⟨v,Z',.read r⟩ d) Q c=Ev (opsV P call all l (I7 fr d v) Z') Q ⟨⟩:=rfl
def yh {op:Op}{Q:FST->Prop}{c:Hd Q}:Ev (CE P call all op l i fr Z ds ⟨v,Z',.none⟩ d) Q c=Ev (N0 P call all l (i+1) (I7 fr d v) Z' ds) Q ⟨⟩:=rfl
def yi {op:Op}{j:Nat}{c:Bool}:U8 all fr ⟨d,op,ty,ps,af,some (j,c)⟩=ob (some (Ft all j)) fun s=>match s with
  |none=>some false
  |some d=>ob (fr.get d) fun v=>some (yieldOf c v):=by
 show Option.rec _ _ (Ft all j)=ob (some (Ft all j)) _;rw[D5];cases Ft all j<;>rfl
def rK {l:List Oper}:Ft (o::l).toArray 0=o.dst:=rfl
def rL {l:List Oper}{j:Nat}:Ft (o::l).toArray (j+1)=Ft l.toArray j:=by
 unfold Ft;simp only[List.getElem?_toArray,List.getElem?_cons_succ]
def yj {b:Bool}:yieldOf true (.bool b)=b:=rfl
def yp {b:Bool}:yieldOf false (.bool b)= !b:=rfl
def wrap64_in {n:Int}(c: -9223372036854775808<=n) (e:n<=9223372036854775807):IntKind.i64.wrap n=n:=by
 rw[wrap_i64];split<;>omega
end
end
noncomputable def St.row (Z:St) (b:Nat):Option (List Value):=ob (Z.Gc b) fun B=>some B.cells
noncomputable def St.A7 (Z:St) (b:Nat):Option (List Value):=ob (Z.Gc b) fun B=>bb B.own (some B.cells)
section
variable {Z Z':St}{b c off n:Nat}{cs vs:List Value}{fr:Fr}{ps:List Nat}{assign body:Code}{st:LoopState}{R9:Option Code}{k:Kind}{ty:Option TypeId}
def Eh:Z.read b off n=ob (Z.row b) fun cs=>sub cs off n:=by
 show ob (Z.Gc b) _=ob (ob (Z.Gc b) _) _;cases Z.Gc b<;>rfl
def TQ:Z.write b off vs=ob (Z.A7 b) fun cs=>ob (N8 cs off vs) fun cs'=>some (Z.upd b cs'):=by
 show ob (Z.Gc b) _=ob (ob (Z.Gc b) _) _;cases h:Z.Gc b with
 |none=>rfl
 | some B=>
   have g:Z.ver b=B.ver:=by
    have:=(AM (AH h).1).1;unfold St.ver;rw[this]
   have f:B.kind= .row (Z.typ b):=by
    obtain⟨a,t,d⟩:=AH h;have e:=(AM a).1;obtain⟨cells,live,own,ver,kind⟩:=B;cases d;unfold St.typ;rw[e];rfl
   show bb B.own _=ob (bb B.own (some B.cells)) _;cases B.own with
   |false=>rfl
   |true=>simp only[DA,D5,St.upd,g,f]
def jg:Z.kill b=ob (Z.A7 b) fun _=>some (Z.dead b):=by
 show ob (Z.Gc b) _=ob (ob (Z.Gc b) _) _;cases h:Z.Gc b with
 |none=>rfl
 | some B=>
   have a:Z.ver b=B.ver:=by
    have:=(AM (AH h).1).1;unfold St.ver;rw[this]
   show bb B.own _=ob (bb B.own (some B.cells)) _;cases B.own with
   |false=>rfl
   |true=>simp only[DA,D5,St.dead,a]
def BS (h:Z'.h.get b=Z.h.get b):Z'.row b=Z.row b:=by
 show ob (ob (ob (Z'.h.get b) _) _) _=ob (ob (ob (Z.h.get b) _) _) _;rw[h]
def F7 (h:Z'.h.get b=Z.h.get b):Z'.A7 b=Z.A7 b:=by
 show ob (ob (ob (Z'.h.get b) _) _) _=ob (ob (ob (Z.h.get b) _) _) _;rw[h]
def Own.A7 (h:Own Z b cs):Z.A7 b=some cs:=by
 obtain⟨v,t,h⟩:=h;show ob (ob (ob (Z.h.get b) _) _) _=_;rw[h];rfl
def A9 (h:Z.A7 b=some cs):Z.row b=some cs:=by
 obtain⟨B,a,d⟩:=A8 (show ob (Z.Gc b) _=some cs from h);obtain⟨h3,h4⟩:=H9 d;show ob (Z.Gc b) _=_;rw[a];exact h4
def K0 (a:b<=Z.n) (d:Z.n<=b):(Z.new cs ty).row b=some cs:=by
 obtain rfl:=cI a d;exact A9 (Own.new Z cs).A7
def W3 (a:b<=Z.n) (d:Z.n<=b):(Z.new cs ty).A7 b=some cs:=by
 obtain rfl:=cI a d;exact(Own.new Z cs).A7
def CY (h:b≠Z.n):(Z.new cs ty).row b=Z.row b:=BS (by rw[Dk,z0z h])
def M9 (h:b≠Z.n):(Z.new cs ty).A7 b=Z.A7 b:=F7 (by rw[Dk,z0z h])
def Eu:(Z.upd b cs).row b=some cs:=A9 (Own.upd Z b cs).A7
def W4:(Z.upd b cs).A7 b=some cs:=(Own.upd Z b cs).A7
def Ae (h:b≠c):(Z.upd c cs).row b=Z.row b:=BS (by rw[Aa,z0z h])
def K9 (h:b≠c):(Z.upd c cs).A7 b=Z.A7 b:=F7 (by rw[Aa,z0z h])
def KE (h:b≠c):(Z.dead c).row b=Z.row b:=BS (by rw[IZ,z0z h])
def Xp (h:b≠c):(Z.dead c).A7 b=Z.A7 b:=F7 (by rw[IZ,z0z h])
def KY (h:b≠c):(Z.IJ c fr ps assign body st R9).row b=Z.row b:=BS (by rw[AV,z0z h])
def Am (h:b≠c):(Z.IJ c fr ps assign body st R9).A7 b=Z.A7 b:=F7 (by rw[AV,z0z h])
def bF (h:b≠Z.n):(Z.Dt cs k).row b=Z.row b:=BS (by rw[OB,z0z h])
def Xq (h:b≠Z.n):(Z.Dt cs k).A7 b=Z.A7 b:=F7 (by rw[OB,z0z h])
def Ext.row (h:Ext Z Z') (a:b<Z.n):Z'.row b=Z.row b:=BS (h.same b a)
def Ext.A7 (h:Ext Z Z') (a:b<Z.n):Z'.A7 b=Z.A7 b:=F7 (h.same b a)
def uK {a:Type}{x:a}{l:List a}{o m:Nat}:sub (x::l) (o+1) m=sub l o m:=rfl
def uL {a:Type}{x:a}{l:List a}{m:Nat}:sub (x::l) 0 (m+1)=ob (takeN m l) fun r=>some (x::r):=rfl
def C9 {e:Type}{l:List e}{m:Nat}(a:m<=l.length) (d:l.length<=m):sub l 0 m=some l:=AF5 l m (cI a d)
def uM {m q:Nat}(a:m<=q) (d:q<=m):m.beq q=true:=Qm (cI a d)
def bE {e:Type}{l new:List e}(a:new.length<=l.length) (d:l.length<=new.length):N8 l 0 new=some new:=eh (cI a d)
def K3.wz (h:K3 Z b fr ps assign body st R9) (a:b≠Z.n):K3 (Z.new cs ty) b fr ps assign body st R9:=h.Gv (by rw[Dk,z0z a])
def K3.Mh (h:K3 Z b fr ps assign body st R9) (a:b≠c):K3 (Z.upd c cs) b fr ps assign body st R9:=h.Gv (by rw[Aa,z0z a])
def K3.ext (h:K3 Z b fr ps assign body st R9) (a:b<Z.n) (d:Ext Z Z'):K3 Z' b fr ps assign body st R9:=h.Gv (d.same b a)
end
section
variable {P:Program}{B8:Env}{G:Nat}
def QA (B:P.follows .mixedOrders=true){H:EV}(o:∀ n c,B8.chk n c=codeOk P n G c) (z:Gd P H G P.funcs.toList 0=true) (y:Jz P B8 G H){g:Nat}{fn:Func}(j:P.funcs[g]? =some fn) (a:fn.body.isSome=true){m vs':List Value}{Z:St}{Q:CR->Prop}{F:Hd Q}
  (h:Ev (go P H (.fn g) m Z) Q F) {O:Place}{w:World} (A:Rel B8 O Z w) (s:∀ b,Z.n<=b->O b=none) (u:Bw O G) (C:F8 O m vs') :
  Calls P g ⟨vs'⟩ w fun e w'=>∃ r v' O',Q r/\e=ended r.pan v'/\Rel B8 O' r.Z w'/\Y6 O Z w O' r.Z w'/\I0 O' r.v v':=by
 obtain⟨r,p,q⟩:=h;obtain⟨f,h3⟩:=zA p;obtain⟨_,h4⟩:=Yq (B8:=B8) B o z y f _ _ _ _ h3;obtain⟨fn',k1,k2,k3⟩:=h4 O w vs' r.Z.n A (fun b a _=>s b a) nL u C;rw[j]at k1;cases k1;rcases k3 with⟨_,l⟩|⟨v',k,l,I,J⟩
 ·exact l.mono fun e w' ⟨v',O',q0,q1,D,E⟩=>⟨r,v',O',q,q0,q1,D,E⟩
 ·exfalso;have i:fn.body.isNone=false:=by cases d:fn.body with|none=>rw[d]at a;cases a|some c=>rfl
  simp only[callFunc,Sem.run_bind,run_program,Result.andThen_ok,j,k2,i,Je,GZ,Sem.run_pure]at k;cases k
noncomputable def St.arg (Z:St) (cells:List Value):St:=⟨Z.h.set Z.n ⟨cells,true,false,0,.row none⟩,Z.n+1⟩
def LH (Z:St) (cells:List Value) (b:Nat):(Z.arg cells).h.get b=if b=Z.n then some ⟨cells,true,false,0,.row none⟩else Z.h.get b:=Tr.BF _ _ _ _
def Vl (Z:St) (cells:List Value):(Z.arg cells).n=Z.n+1:=rfl
def jq (Z:St) (cells:List Value):(Z.arg cells).row Z.n=some cells:=by
 show ob (ob (ob ((Z.arg cells).h.get Z.n) _) _) _=_;rw[LH,z1z rfl];rfl
def Tb (Z:St) (cells:List Value){b:Nat}(h:b≠Z.n):(Z.arg cells).row b=Z.row b:=BS (by rw[LH,z0z h])
def Rl (Z:St):Prop:=∀ b B,Z.blk b=some B->B.own=false
def Rl.arg {Z:St}(h:Rl Z) (cells:List Value):Rl (Z.arg cells):=by
 intro b B d;obtain⟨a,c⟩:=AM d;rw[LH]at a;split at a
 ·cases a;rfl
 ·exact h b B (OT a c)
def jo {O:Place}{Z:St}{w:World}(p:Rel B8 O Z w) (z:Rl Z) (A:∀ b,Z.n<=b->O b=none){c o m:Nat}{cells:List Value}{arr:Array Value}{e:TypeId}{f:Nat×Nat}(u:w.heap[c]? =some (.cells arr e f)) (E:m=arr.size) (j:o+cells.length<=arr.size)
  (D:c<B8.lo) (C:∀ v∈cells,L8 v=true) (F:∀ (i:Nat) (v:Value),cells[i]? =some v->∃ v',arr[o+i]? =some v'/\I0 O v v'):Rel B8 (O.put Z.n ⟨c,o,m⟩) (Z.arg cells) w:=by
 have l:O.le (O.put Z.n ⟨c,o,m⟩):=Place.Hz _ (A _ nL);subst E;have s:c<w.heap.size:=by
  rcases AU c w.heap.size with h|h
  ·exact h
  ·rw[Array.getElem?_eq_none h]at u;cases u
 refine⟨fun b d=>?_,fun b q B d k=>?_,fun b q d=>?_,fun b q B _ k j=>?_,fun b q B H I _ k j=>?_,p.low⟩
 ·rw[LH,z0z (by rw[Vl]at d;omega)];exact p.fresh b (by rw[Vl]at d;omega)
 ·by_cases a:b=Z.n
  ·subst a;rw[Place.R0]at d;cases d;obtain⟨g,_⟩:=AM k;rw[LH,z1z rfl]at g;cases g;obtain⟨lo,hi⟩:=f;refine .row rfl ⟨arr,e,lo,hi,u,rfl,j,fun h=>absurd h (by show ¬ B8.lo<=c;omega),C,fun i v y=>?_⟩;obtain⟨v',g,r⟩:=F i v y;exact⟨v',g,r.mono l⟩
  ·rw[Place.Ak _ _ a]at d;obtain⟨g,r⟩:=AM k;rw[LH,z0z a]at g;exact(p.IQ b q B d (OT g r)).mono l rfl
 ·by_cases a:b=Z.n
  ·subst a;rw[Place.R0]at d;cases d;exact s
  ·rw[Place.Ak _ _ a]at d;exact p.dom b q d
 ·rw[z.arg cells b B k]at j;cases j
 ·rw[z.arg cells b B k]at j;cases j
def bL {O:Place}{Z:St}{cells:List Value}{q:BU}(a:∀ b,Z.n<=b->O b=none):∀ b,(Z.arg cells).n<=b->(O.put Z.n q) b=none:=by
 intro b c;rw[Vl]at c;rw[Place.Ak _ _ om];exact a b om
def bN {w:World}{x:Addr}{v:Value}(h:w.cell? x=some v):∃ arr e f,w.heap[x.block]? =some (.cells arr e f)/\x.spot=none/\arr[x.off]? =some v:=by
 unfold World.cell? at h;split at h
 ·rename_i c e f b;split at h
  ·cases h
  ·rename_i a;refine⟨c,e,f,b,?_,h⟩;cases d:x.spot with
   |none=>rfl
   |some s=>rw[d]at a;exact absurd rfl a
 ·cases h
end
section
variable {dl i:Nat}{as:Array Operand}{cells:List Value}{want:Bool}{bs:List Nat}{all:List Trace}
section
variable {P:Program}{e:TypeId}{Z:St}{fr:Fr}{b off n c len cap size s k:Nat}{sp:Option Nat}{new vs l:List Value}{v x:Value}
def Ox:Az Z size (.slice (some ⟨b,off,sp⟩) n c)=ob (Z.read b off (n*size)) fun cs=>some (n,cs):=rfl
def ir:Bv e Z size none 0 n new=some (.slice (some ⟨Z.n,0,some size⟩) n n,Z.new new (some e)):=rfl
def Zh:Bv e Z size (some ⟨b,off,none⟩) len n new=ob (Z.read b off (len*size)) fun old=>some (.slice (some ⟨Z.n,0,some size⟩) (len+n) (len+n),Z.new (old++new) (some e)):=rfl
def iu:Bv e Z size (some ⟨b,off,some size⟩) len n new=ob (Z.read b off (len*size)) fun old=>ob (Z.kill b) fun Z'=>some (.slice (some ⟨Z'.n,0,some size⟩) (len+n) (len+n),Z'.new (old++new) (PR e off (Z.typ b))):=by
 show bb (Nat.beq size size) _=_;rw[Qm rfl];rfl
def iw:DD Z size (some ⟨b,off,sp⟩) len cap n new=ob (Z.write b (off+len*size) new) fun Z=>some (.slice (some ⟨b,off,sp⟩) (len+n) cap,Z):=rfl
def SZ {a b:Nat}(h:b<a):Nat.ble a b=false:=by
 cases d:Nat.ble a b with
 |false=>rfl
 |true=>have:=Jo d;omega
def AY0 {c:Callee}{t:TypeId}{ts:List TypeId}:Ra ⟨c,as,(t::ts).toArray⟩=some t:=rfl
def zB {c:Callee}{t u:TypeId}{ts:List TypeId}:gi ⟨c,as,(t::u::ts).toArray⟩=some u:=rfl
def lu {e:TypeId}:OQ (some (.slice e))=true:=rfl
def rQ {place:Nat->Option (Nat×Nat)}:DW place [] cells=some cells:=rfl
def lz {place:Nat->Option (Nat×Nat)}{v:Value}{ps:List (Nat×Value)}:DW place ((i,v)::ps) cells=ob (place i) fun q=>pr q fun off n=>bi (DX v) none (bb ((J6 v).length.beq n) (ob (N8 cells off (J6 v)) (DW place ps))):=rfl
def A6 {a:Type}{x:a}{l new:List a}{o:Nat}:N8 (x::l) (o+1) new=ob (N8 l o new) fun r=>some (x::r):=rfl
def Zi {a:Type}{x y:a}{l new:List a}:N8 (x::l) 0 (y::new)=ob (over new l) fun r=>some (y::r):=rfl
def rR {a:Type}{l:List a}:over [] l=some l:=rfl
def Ut {a:Type}{x y:a}{l new:List a}:over (y::new) (x::l)=ob (over new l) fun r=>some (y::r):=rfl
def rS {a:Type}{l:List a}:rep l 0=[]:=rfl
def Zj {a:Type}{l:List a}{n:Nat}:rep l (n+1)=l++rep l n:=rfl
noncomputable def rT (fr:Fr) (want:Bool) (s:Option Tmp):Option Bool:=match s with
 |none=>some false
 |some d=>ob (fr.get d) fun v=>some (yieldOf want v)
def rU {all:Array Oper}{d:Option Tmp}{op:Op}{ty:TypeId}{ps:String}{a:Array Edge}{j:Nat}{Q:Bool->Prop}{f:Hd Q}:
  Ev (U8 all fr ⟨d,op,ty,ps,a,some (j,want)⟩) Q f=Ev (some (Ft all j)) (fun s=>Ev (rT fr want s) Q ⟨⟩) ⟨⟩:=by
 rw[yi,G1];refine congrArg (fun z=>Ev _ z ⟨⟩) (funext fun s=>?_);cases s<;>rfl
def zC {d:Tmp}{Q:Bool->Prop}{a:Hd Q}:Ev (rT fr want (some d)) Q a=Ev (fr.get d) (fun v=>Q (yieldOf want v)) ⟨⟩:=by
 show Ev (ob _ _) Q _=_;rw[G1];refine congrArg (fun z=>Ev _ z ⟨⟩) (funext fun v=>?_);rw[N3]
def rV {o:Operand}:evO fr (some o)=ob (ev fr o) fun v=>some (some v):=rfl
def rW:evO fr none=some none:=rfl
def zD {cap:Nat}{lo hi:Option Value}:dY dl cap lo hi=ob (mA dl hi) fun h=>bb (h.ble cap) (ob (mA 0 lo) fun l=>bb (l.ble h) (some (l,h))):=rfl
def zE {v:Value}:mA dl (some v)=nat? v:=rfl
def zF:mA dl none=some dl:=rfl
def iq {n b off lo hi cap:Nat}:sliceAt n (some ⟨b,off,some n⟩) lo hi cap=some (.slice (some ⟨b,off+lo*n,some n⟩) (hi-lo) (cap-lo)):=by
 show bb (Nat.beq n n) _=_;rw[Qm rfl];rfl
def zG:BV bs all []=true:=rfl
def zH {d:List Trace}{a b:St}:BV bs all (.eff i a b::d)=BV bs all d:=rfl
def mm2 {x y:Operand}{c:Callee}{ts:Array TypeId}{d:Bool}:pMM fr d ⟨c,[x,y].toArray,ts⟩=ob (ev fr x) fun a=>ob (ev fr y) fun b=>KI d a b:=by
 show ob (ob (ev fr x) fun v=>ob (ob (ev fr y) fun v=>ob (some []) fun vs=>some (v::vs)) fun vs=>some (v::vs)) _=_;cases ev fr x with
 |none=>rfl
 | some a=>
   cases ev fr y with
   |none=>rfl
   | some b=>
     show ob (KI d a b) (fun v=>some v)=KI d a b;cases KI d a b<;>rfl
def zI {k a:IntKind}{x y:Int}:KI true (.int k x) (.int a y)=some (.int k (max x y)):=by
 show some (Value.int k (bi (ilt x y) y x))=_;rw[Ot];by_cases h:x<y
 ·rw[AW h,Hq,Int.max_eq_right om]
 ·rw[z4z h,Cp,Int.max_eq_left om]
end
end
section
variable {Z Z':St}{v:Value}{l a b:List UInt8}{bs:List Nat}{i size j:Nat}{ds:List Trace}{n:Int}{B9:List (List Value)}
def str (l:List UInt8):Value:= .string ⟨⟨l⟩⟩
def nD:J6 (str l)=[str l]:=rfl
def AD6:DX (str l)=false:=rfl
def AD5:qX (some .string) (str l)=some l.length:=rfl
def xN:(⟨⟨a⟩⟩:ByteArray)=⟨⟨b⟩⟩↔a=b:=⟨fun h=>by cases h;rfl,fun h=>by rw[h]⟩
def Ab8 {fr:Fr}:ev fr (.const (.string ⟨l.toArray⟩))=some (str l):=rfl
def uH {c:List Trace}{r:Ay}:BV bs c (.read i r::ds)=bi (W5 bs i r c) (BV bs c ds) false:=rfl
def Ab6 {r:Ay}:W5 bs i r []=true:=rfl
def O4 {r q:Ay}:W5 bs i r (.read j q::ds)=W5 bs i r ds:=rfl
def Wi {r:Ay}{a b:St}(h:r.b<a.n->b.h.get r.b=a.h.get r.b):W5 bs i r (.eff j a b::ds)=W5 bs i r ds:=by
 show bi (bi (ordered bs i j) true (bi (Nat.blt r.b a.n) (bi (Nat.beq (a.ver r.b) (b.ver r.b)) true (Cy (a.read r.b r.off r.n) (b.read r.b r.off r.n))) true)) (W5 bs i r ds) false=_;have:bi (ordered bs i j) true (bi (Nat.blt r.b a.n) (bi (Nat.beq (a.ver r.b) (b.ver r.b)) true (Cy (a.read r.b r.off r.n) (b.read r.b r.off r.n))) true)=true:=by
  cases ordered bs i j with
  |true=>rfl
  | false=>
    cases d:Nat.blt r.b a.n with
    |false=>rfl
    | true=>
      have c:r.b<a.n:=by rw[BW]at d;exact d
      have e:b.ver r.b=a.ver r.b:=by unfold St.ver;rw[h c]
      rw[e,Qm rfl];rfl
 rw[this];rfl
def fD {P:Program}{s t:TypeId}{e:TypeId}{b off n c:Nat}{sp:Option Nat}(d:elem? P s=some e) (f:isByte (P.underlying e)=true) (g:isStr (P.underlying t)=true):
  IX P Z s t (.slice (some ⟨b,off,sp⟩) n c)=ob (Z.read b off n) fun vs=>ob (Ba vs) fun l=>some ⟨str l,Z,.read ⟨b,off,n⟩⟩:=by
 have h:asNew Z (bb (P.underlying s).isSome (ob (Kj (.slice (some ⟨b,off,sp⟩) n c)) fun l=>ob (elem? P t) fun e=>bb (isByte (P.underlying e)) (some (ET l,fun n=> .slice (some ⟨n,0,some 1⟩) l.length l.length))))=none:=by
  cases(P.underlying s).isSome<;>rfl
 unfold IX;rw[h];show orS (Dv Z (ob (elem? P s) fun e=>bb (isByte (P.underlying e)) (bb (isStr (P.underlying t)) (ob (Z.read b off n) fun l=>ob (Ba l) fun l=>some (.string ⟨l.toArray⟩,⟨b,off,n⟩))))) none=_;rw[d,D5,f,DA,g,DA];cases Z.read b off n with
 |none=>rfl
 | some vs=>
   rw[D5,D5];cases Ba vs<;>rfl
def bC:Ba []=some []:=rfl
def Xo {c:List Value}:Ba (v::c)=ob (QC v) fun b=>ob (Ba c) fun bs=>some (b::bs):=rfl
def AD7:QC (.int .u8 n)=some (UInt8.ofNat n.toNat):=rfl
def Ep (c:0<=n) (d:n<256):IntKind.u8.wrap n=n:=by
 rw[wrap_u8];omega
noncomputable def unA (P:Program) (op:UnOp) (a:Value):Option Value:=bb (flat a) (ob (LS (O8 P (do pure (.value (<- Op.unary op a))))) cst)
def AD2 {P:Program}{fr:Fr}{d:Option Tmp}{op:UnOp}{t ty:TypeId}{ps:String}{c:Array Edge}{x:Operand}:FI P fr ⟨d,.unOp op t x,ty,ps,c,none⟩ x=ob (ev fr x) fun a=>unA P op a:=by
 show ob (ev fr x) _=_;cases h:ev fr x with
 |none=>rfl
 | some a=>
   have e:(fun y=>(ev fr y).getD R6) x=a:=by show(ev fr x).getD R6=a;rw[h];rfl
   show bb (flat a) (LX P fr _)=unA P op a;unfold LX unA;simp only[execOp,e]
def AD8 {P:Program}{b:Bool}:unA P .not (.bool b)=some (.bool !b):=rfl
def AD9 {P:Program}{k:IntKind}:unA P .neg (.int k n)=some (.int k (k.wrap (0-n))):=rfl
section
variable {P:Program}{fr:Fr}{x y:Operand}{t:TypeId}
def uI:Aq P .eql t x y (str a) (str b)=some (.bool (decide (a=b))):=by
 show Aq P .eql t x y (.string _) (.string _)=_;rw[yb];congr 2;exact decide_eq_decide.2 xN
def uJ:Aq P .neq t x y (str a) (str b)=some (.bool (!decide (a=b))):=by
 show Aq P .neq t x y (.string _) (.string _)=_;rw[yc];congr 3;exact decide_eq_decide.2 xN
def nF (h:a.length+b.length<=4294967296):Aq P .add t x y (str a) (str b)=some (str (a++b)):=by
 show orV (bb (Nat.ble (a.length+b.length) 4294967296) (some (str (a++b)))) _=_;rw[Oz h];rfl
end
def SL (Z:St) (size:Nat) (v:Value) (B9:List (List Value)):Prop :=
 (v= .slice none 0 0/\B9=[])\/∃ b off sp c cells,v= .slice (some ⟨b,off,sp⟩) B9.length c/\b<Z.n/\Z.row b=some cells/\∀ k r,B9[k]? =some r->sub cells (off+k*size) size=some r
def SL.mono (h:SL Z size v B9) (e:Ext Z Z'):SL Z' size v B9:=by
 rcases h with h|⟨b,off,sp,c,cells,f,d,g,k⟩
 ·exact .inl h
 ·exact .inr ⟨b,off,sp,c,cells,f,z5z d e.n,by rw[e.row d];exact g,k⟩
def SL.use (h:SL Z size v B9):∃ a c b off cells,v= .slice a B9.length c/\(0<B9.length->∃ sp,a=some ⟨b,off,sp⟩/\b<Z.n/\Z.row b=some cells)/\∀ k r,B9[k]? =some r->sub cells (off+k*size) size=some r:=by
 rcases h with⟨rfl,rfl⟩|⟨b,off,sp,c,cells,d,e,f,g⟩
 ·exact⟨none,0,0,0,[],rfl,fun h=>by simp at h,fun k r h=>by simp at h⟩
 ·exact⟨_,c,b,off,cells,d,fun _=>⟨sp,rfl,e,f⟩,g⟩
def SL.nil:SL Z size (.slice none 0 0) []:= .inl ⟨rfl,rfl⟩
def Hy (Z:St) (v:Value) (l:List (List UInt8)):Prop:=SL Z 1 v (l.map fun s=>[str s])
def Hy.mono {l:List (List UInt8)}(h:Hy Z v l) (c:Ext Z Z'):Hy Z' v l:=SL.mono h c
def Hy.use {l:List (List UInt8)}(h:Hy Z v l):∃ a c b off cells,v= .slice a l.length c/\(0<l.length->∃ sp,a=some ⟨b,off,sp⟩/\b<Z.n/\Z.row b=some cells)/\∀ k s,l[k]? =some s->sub cells (off+k) 1=some [str s]:=by
 obtain⟨a,c,b,off,cells,d,e,f⟩:=SL.use h;rw[z2z]at d e;refine⟨a,c,b,off,cells,d,e,fun k s g=>?_⟩;have:=f k [str s] (by rw[List.getElem?_map,g];rfl);rw[Ip]at this;exact this
end
section
variable {Z Z':St}{v:Value}{lo size:Nat}{B9:List (List Value)}{l:List (List UInt8)}
def P4 (v:Value):Option Nat:=match v with
 | .slice (some ⟨b,_,_⟩) _ _=>some b
 |_=>none
def OL (lo:Nat) (Z:St) (size:Nat) (v:Value) (B9:List (List Value)):Prop :=
 (∀ r∈B9,r.length=size)/\((v= .slice none 0 0/\B9=[])\/∃ b sp,v= .slice (some ⟨b,0,sp⟩) B9.length B9.length/\(sp=none\/sp=some size)/\lo<=b/\b<Z.n/\Z.A7 b=some B9.flatten)
def OL.nil:OL lo Z size (.slice none 0 0) []:=⟨fun r h=>by simp at h,.inl ⟨rfl,rfl⟩⟩
def OL.sl (h:OL lo Z size v B9):SL Z size v B9:=by
 obtain⟨c,⟨rfl,rfl⟩|⟨b,sp,rfl,i,f,d,e⟩⟩:=h
 ·exact SL.nil
 ·refine .inr ⟨b,0,sp,B9.length,_,rfl,d,A9 e,fun k r a=>?_⟩;have:=KH c a (o:=0) (n:=size) om;have g:r.length=size:=c r (Ag a);rw[j7]at this;rw[GK,this];exact C9 om om
def OL.I2 (h:OL lo Z size v B9) (i:Z.n<=Z'.n) (d:∀ b,P4 v=some b->Z'.h.get b=Z.h.get b):OL lo Z' size v B9:=by
 obtain⟨e,⟨rfl,rfl⟩|⟨b,sp,rfl,f,a,g,c⟩⟩:=h
 ·exact .nil
 ·exact⟨e,.inr ⟨b,sp,rfl,f,a,om,by rw[F7 (d b rfl)];exact c⟩⟩
def OL.ext (h:OL lo Z size v B9) (a:Ext Z Z'):OL lo Z' size v B9:=by
 refine h.I2 a.n fun b c=>?_;obtain⟨i,⟨rfl,rfl⟩|⟨e,sp,rfl,j,f,d,g⟩⟩:=h
 ·cases c
 ·cases c;exact a.same b d
def OL.blk (h:OL lo Z size v B9){b:Nat}(a:P4 v=some b):lo<=b/\b<Z.n:=by
 obtain⟨g,⟨rfl,rfl⟩|⟨e,sp,rfl,i,c,d,f⟩⟩:=h
 ·cases a
 ·cases a;exact⟨c,d⟩
structure App (Z Z':St) (v v':Value):Prop where
 n:Z.n<=Z'.n
 same:∀ c,c<Z.n->P4 v≠some c->Z'.h.get c=Z.h.get c
 new:∀ b,P4 v'=some b->Z.n<=b/\b<Z'.n
def App.ext {Z0:St}{v':Value}(h:App Z Z' v v') (a:Ext Z0 Z) (e:OL lo Z size v B9) (f:Z0.n<=lo):Ext Z0 Z' :=
 ⟨j9 a.n h.n,fun c b=>by
  rw[h.same c (z5z b a.n) (fun d=>by have:=(e.blk d).1;omega),a.same c b]⟩
def Y1 {P:Program}{L:TypeId}{Z:St}{t size a lo:Nat}{v:Value}{B9:List (List Value)}{row cells:List Value}{c o y:Nat}{sp:Option Nat}{Q:Value×St->Prop}{M:Hd Q}
  (k:∀ (b:Option Addr) (len cap:Nat) (w:Value),Dj P Z t (.slice b len cap) w=ob (Az Z size w) fun p=>pr p fun n new=>bi (Nat.ble (len+n) cap) (DD Z size b len cap n new) (bb (Nat.ble ((len+n)*a) room) (Bv L Z size b len n new)))
  (I:OL lo Z size v B9) (m:Z.row c=some cells) (E:sub cells o size=some row) (e:(B9.length+1)*a<=4294967296) (g:lo<=Z.n)
  (h:∀ v' Z',OL lo Z' size v' (B9++[row])->App Z Z' v v'->v'≠ .slice none 0 0->Q (v',Z')):Ev (Dj P Z t v (.slice (some ⟨c,o,sp⟩) 1 y)) Q M:=by
 have G:row.length=size:=by
  obtain⟨H,z⟩:=sub_eq E;subst z;rw[Jw,MD];omega
 have f:(B9++[row]).flatten=B9.flatten++row:=sI;obtain⟨D,J⟩:=I;have i:∀ r∈B9++[row],r.length=size:=by
  intro r j;rcases EM.1 j with j|j
  ·exact D r j
  ·rw[JB]at j;subst j;exact G
 have F:Az Z size (.slice (some ⟨c,o,sp⟩) 1 y)=some (1,row):=by
  rw[Ox,Eh,m,D5,RN,E,D5]
 have u:Nat.ble ((B9.length+1)*a) room=true:=Oz e;rcases J with⟨rfl,rfl⟩|⟨b,K,rfl,s,H,z,A⟩
 ·rw[k,F,D5,Pv,SZ om,Cp];rw[show Nat.ble ((0+1)*a) room=true from u,DA,ir,N3];refine h _ _ ⟨i,.inr ⟨Z.n,some size,rfl,.inr rfl,g,by simp,?_⟩⟩ ⟨by simp,fun c m _=>by rw[Dk,z0z om],fun b e=>by cases e;simp⟩ (by simp);rw[f,W3 nL nL];rfl
 ·have B:=A9 A;have C:=Hl B9 D;have d:sub B9.flatten 0 (B9.length*size)=some B9.flatten:=C9 om om;rw[k,F,D5,Pv,SZ om,Cp,u,DA];rcases s with rfl|rfl
  ·rw[Zh,Eh,B,D5,d,D5,N3];refine h _ _ ⟨i,.inr ⟨Z.n,some size,by simp,.inr rfl,g,by simp,?_⟩⟩ ⟨by simp,fun c m _=>by rw[Dk,z0z om],fun b e=>by cases e;simp⟩ (by simp);rw[f,W3 nL nL]
  ·rw[iu,Eh,B,D5,d,D5,jg,A,D5,D5,N3];refine h _ _ ⟨i,.inr ⟨Z.n,some size,by simp,.inr rfl,g,by simp,?_⟩⟩ ⟨by simp,fun c m q=>?_,fun b e=>by cases e;simp⟩ (by simp)
   ·rw[f,W3 (by simp) (by simp)]
   ·rw[Dk,z0z (by rw[TR];omega),IZ,z0z (fun h=>q (by rw[h];rfl))]
def GW (lo:Nat) (Z:St) (v:Value) (l:List (List UInt8)):Prop:=OL lo Z 1 v (l.map fun s=>[str s])
def GW.strs (h:GW lo Z v l):Hy Z v l:=h.sl
def Ub {P:Program}{u:TypeId}{Z:St}{t a lo:Nat}{v:Value}{l:List (List UInt8)}{s:List UInt8}{cells:List Value}{c o f:Nat}{sp:Option Nat}{Q:Value×St->Prop}{y:Hd Q}
  (d:∀ (b:Option Addr) (len cap:Nat) (w:Value),Dj P Z t (.slice b len cap) w=ob (Az Z 1 w) fun p=>pr p fun n new=>bi (Nat.ble (len+n) cap) (DD Z 1 b len cap n new) (bb (Nat.ble ((len+n)*a) room) (Bv u Z 1 b len n new)))
  (q:GW lo Z v l) (m:Z.row c=some cells) (r:sub cells o 1=some [str s]) (k:(l.length+1)*a<=4294967296) (e:lo<=Z.n)
  (h:∀ v' Z',GW lo Z' v' (l++[s])->App Z Z' v v'->v'≠ .slice none 0 0->Q (v',Z')):Ev (Dj P Z t v (.slice (some ⟨c,o,sp⟩) 1 f)) Q y:=by
 refine Y1 d q m r (by rw[z2z];exact k) e fun v' Z' g i j=>h v' Z' ?_ i j;show OL lo Z' 1 v' ((l++[s]).map fun s=>[str s]);rw[HI];exact g
def Hy.shape (h:Hy Z v l):∃ a c,v= .slice a l.length c:=by
 obtain⟨a,c,b,off,cells,d,-,-⟩:=h.use;exact⟨a,c,d⟩
def SU (h:Hy Z v l):J6 v=[v]/\DX v=false:=by
 obtain⟨a,c,rfl⟩:=h.shape;exact⟨rfl,rfl⟩
end
end Go.Ab
namespace Go.Ab
open Go
def CP (J:Nat->Fr->St->Prop) (R:Res->Prop) (k:Nat) (r:Res):Prop:=match r.o with
 | .normal=>J (k+1) r.fr r.Z
 |_=>R r
section
variable {P:Program}{H:EV}{rd:Option Nat}{fr:Fr}{Z:St}
def nC {J:Nat->Fr->St->Prop}{R:Res->Prop}{k:Nat}:CP J R k ⟨.normal,fr,Z⟩=J (k+1) fr Z:=rfl
def AD4 {J:Nat->Fr->St->Prop}{R:Res->Prop}{k i:Nat}:CP J R k ⟨.exit i,fr,Z⟩=R ⟨.exit i,fr,Z⟩:=rfl
def Ab7 {J:Nat->Fr->St->Prop}{R:Res->Prop}{k:Nat}:CP J R k ⟨.ret,fr,Z⟩=R ⟨.ret,fr,Z⟩:=rfl
def G8 {a:Code}{Q:Res->Prop}{u:Hd Q}(n:Nat) (J:Nat->Fr->St->Prop) (R:Res->Prop) (e:J 0 fr Z)
  (g:∀ k fr Z,k<n->J k fr Z->Ev (lim P H rd a fr Z) (CP J R k) ⟨⟩) (l:∀ fr Z,J n fr Z->Ev (lim P H rd a fr Z) (CP (fun _ _ _=>False) R n) ⟨⟩) (f:∀ r,R r->Q r) :
  Ev (lim P H rd (.loop a) fr Z) Q u:=by
 refine Bt (fun j fr Z=>∃ k,j+k=n/\J k fr Z) R n ⟨0,om,e⟩ ?_ f;rintro j fr Z ⟨k,m,d⟩;by_cases h:k<n
 ·refine(g k fr Z h d).mono ?_;rintro⟨o,c,Z'⟩ b;cases o with
  |normal=>exact⟨n-(k+1),om,k+1,om,b⟩
  |exit i=>exact b
  |ret=>exact b
  |pan v=>exact b
 ·obtain rfl:k=n:=om;refine(l fr Z d).mono ?_;rintro⟨o,c,Z'⟩ b;cases o with
  |normal=>exact b.elim
  |exit i=>exact b
  |ret=>exact b
  |pan v=>exact b
end
def M4 {a b:Nat}(h:a<b):decide (a<b)=true:=by simpa using h
def Kt {a:Nat}:decide (a<a)=false:=sI
end Go.Ab
namespace Go.Ab
open Go
end Go.Ab
namespace Go.Ab
open Go
end Go.Ab
namespace Go.Ab
open Go
def GW.lower {lo a:Nat}{Z:St}{v:Value}{l:List (List UInt8)}(h:GW lo Z v l) (j:a<=lo):GW a Z v l:=by
 obtain⟨c,h|⟨b,sp,d,e,f,g,i⟩⟩:=h
 ·exact⟨c,.inl h⟩
 ·exact⟨c,.inr ⟨b,sp,d,e,j9 j f,g,i⟩⟩
end Go.Ab
namespace Go.Ab
open Go
def asx {a b:St}(c:Ext a b):∀ (bs:List Nat) (i j:Nat) (r:Ay) (ds:List Trace),W5 bs i r (.eff j a b::ds)=W5 bs i r ds:=fun bs i j r ds=>Wi (c.same r.b)
def asR {b:St}:=@asx b b (Ext.refl b)
end Go.Ab
namespace Go.Ab
open Go
def th {P:Program}{A:TypeId}{Z' a:St}{t d lo o:Nat}{v:Value}{l:List (List UInt8)}{s:List UInt8}{sp:Option Nat}{Q:Value×St->Prop}{B:Hd Q}
  (g:∀ (b:Option Addr) (len cap:Nat) (w:Value),Dj P (a.new [str s]) t (.slice b len cap) w=ob (Az (a.new [str s]) 1 w) fun p=>pr p fun n new=>bi (Nat.ble (len+n) cap) (DD (a.new [str s]) 1 b len cap n new) (bb (Nat.ble ((len+n)*d) room) (Bv A (a.new [str s]) 1 b len n new)))
  (y:GW lo Z' v l) (m:Ext Z' a) (z:lo<=Z'.n) (i:(l.length+1)*d<=4294967296)
  (h:∀ v' Z3,GW lo Z3 v' (l++[s])->App Z' Z3 v v'->v'≠ .slice none 0 0->Q (v',Z3)):Ev (Dj P (a.new [str s]) t v (.slice (some ⟨a.n,0,sp⟩) 1 o)) Q B:=by
 have e:Ext Z' (a.new [str s]):=m.trans (.new _ _);have j:GW lo (a.new [str s]) v l:=OL.ext y e;have C:=m.n;refine Ub g j (K0 nL nL) rfl i (by simp;omega) fun v' Z3 q f r=>h v' Z3 q ⟨by have:=f.n;simp at this;omega,fun c u k=>?_,fun b i=>by have:=f.new b i;simp at this;omega⟩ r;rw[f.same c (by simp;omega) k,e.same c u]
end Go.Ab
namespace Go.Ab
open Go
def AD3 {n:Nat}:YK (.func n)=true:=rfl
end Go.Ab
namespace Go.Ab
open Go
section
variable {P:Program}{B8:Env}{G:Nat}
noncomputable def nrm {a:Type}(r:Res) (f:Fr->St->Option a):Option a:=Res.rec (motive:=fun _=>Option a) (fun o b Z=>jh o (f b Z)) r
def Xt {a:Type}{r:Res}{f:Fr->St->Option a}{x:a}(h:nrm r f=some x):∃ fr Z,r=⟨.normal,fr,Z⟩/\f fr Z=some x:=by
 obtain⟨o,fr,Z⟩:=r;cases o with
 |normal=>exact⟨fr,Z,rfl,h⟩
 |exit i=>cases h
 |ret=>cases h
 |pan v=>cases h
def M8.nrm {a:Type}(r:Res){f:RunT->Fr->St->Option a}(h:∀ fr Z,M8 fun run=>f run fr Z):M8 fun run=>Ab.nrm r (f run):=by
 obtain⟨o,fr,Z⟩:=r;cases o with
 |normal=>exact h fr Z
 |exit i=>exact .const none
 |ret=>exact .const none
 |pan v=>exact .const none
def Ka {fn:Func}{tmps:Array Value}{R:Ending->World->Prop}{lo:Nat}(d:B8.lo<=lo){u:FrameMode}(r:u≠ .run){O:Place}{Z:St}{g:List Deferred}:∀ (Ds:List Nat) (w:World),Ds.Nodup->(∀ D∈Ds,lo<=D/\w.heap[D]? =some (.deferred (some [])))->Rel B8 O Z w ->
  (∀ w',Rel B8 O Z w'->(∀ c,c<lo->w'.heap[c]? =w.heap[c]?)->w'.heap.size=w.heap.size->Outside w w'->LeavesInM Fence.wide 0 P fn tmps R g u w')->LeavesInM Fence.wide 0 P fn tmps R (Ds.map OW++g) u w:=by
 intro Ds;induction Ds with
 |nil=>intro w _ _ a k;exact k w a (fun _ _=>rfl) rfl (.refl _)
 | cons D Ds ih=>
   intro w q e a k;obtain⟨s,v⟩:=List.nodup_cons.1 q;obtain⟨d1,d2⟩:=e D (by simp);refine⟨r,.inl ⟨D,_,rfl,run_takeDeferred d2,ih _ v (fun E f=>?_) (a.shut d2 (j9 d d1) _) fun w' j l m n=>k w' j (fun c o=>?_) ?_ ?_⟩⟩
   ·obtain⟨h,i⟩:=e E (by simp[f]);refine⟨h,?_⟩;rw[World.putObj_heap_other (fun p=>s (by rw[<- p];exact f))];exact i
   ·rw[l c o,World.putObj_heap_other om]
   ·rw[m,World.putObj_size]
   ·exact Outside.trans (b:=w.putObj D (.deferred none)) ⟨rfl,rfl,rfl⟩ n
def deferred (a:Act) (d k:Nat) (x:Value):Act:={ tmps:=a.tmps.setIfInBounds d (.func (.func k) #[] #[x]),defers:={ target:= .fn (.func k) #[x],args:=#[] }::a.defers }
end
section
variable {Z Z':St}{O:Place}{w:World}{v a a' v' x:Value}
section
variable {P:Program}{B8:Env}{G:Nat}
noncomputable def nrp {b:Type}(r:Res) (f:Fr->St->Option b) (g:Value->Fr->St->Option b):Option b :=
 Res.rec (motive:=fun _=>Option b) (fun o c Z=>Out.rec (motive:=fun _=>Option b) (f c Z) (fun _=>none) none (fun v=>g v c Z) o) r
def M8.nrp {b:Type}(r:Res){f:RunT->Fr->St->Option b}{g:RunT->Value->Fr->St->Option b}(h:∀ fr Z,M8 fun run=>f run fr Z) (k:∀ v fr Z,M8 fun run=>g run v fr Z):M8 fun run=>Ab.nrp r (f run) (g run):=by
 obtain⟨o,fr,Z⟩:=r;cases o with
 |normal=>exact h fr Z
 |exit i=>exact .const none
 |ret=>exact .const none
 |pan v=>exact k v fr Z
noncomputable def jZ (T:TypeId) (v:Value):Option Value:=match v with
 | .iface t v=>bb (Nat.beq t T) (some v)
 |_=>none
noncomputable def Xr (P:Program) (ty:TypeId) (x v:Value) (Z:St):Option St :=
 ob (Bn P ty) fun z=>ob (Sd P (Z.new (J6 z) (some ty)) ty (ptrTo Z.n) v) fun b=>ob (Po P b ty (ptrTo Z.n)) fun u=>Sd P b ty x u
noncomputable def TV (P:Program) (g h i:Code) (d e:Nat) (T ty:TypeId) (f:List ResultVar) (run:RunT) (j:List Value) (Z:St):Option CR :=
 ob (run none g (IA j 0 .nil) Z) fun r=>nrm r fun b Z=>bb (b.get d).isNone (ob (b.get e) fun x=>ob (run none h b Z) fun r=>
  nrp r (fun c Z=>ob (run none i c Z) fun r=>nrm r fun c Z=>ob (Iw P c Z f) fun us=>some ⟨false,tup us,Z⟩)
   (fun v c Z=>ob (jZ T v) fun v=>ob (Xr P ty x v Z) fun Z=>ob (Iw P c Z f) fun us=>some ⟨false,tup us,Z⟩))
def Ua (e f g:Code) (d b:Nat) (T ty:TypeId) (h:List ResultVar) (i:List Value) (Z:St):M8 fun run=>TV P e f g d b T ty h run i Z :=
 M8.ob (.run _ _ _ _) fun r=>M8.nrm r fun c Z=>M8.bb _ (M8.ob (.const _) fun x=>M8.ob (.run _ _ _ _) fun r=>M8.nrp r (fun c Z=>M8.ob (.run _ _ _ _) fun r=>M8.nrm r fun c Z=> .const _) (fun v c Z=> .const _))
noncomputable def qw (P:Program) (c e f:Code) (d b:Nat) (T ty:TypeId) (g:List ResultVar):qu:=⟨TV P c e f d b T ty g,Ua c e f d b T ty g⟩
def TW {t:TypeId}(e:Rel B8 O Z w) (f:I0 O a a') (j:I0 O v v') (h:Sd P Z t a v=some Z'):
  ∃ w',(Instr.storeAt t a' v').run P w= .ok () w'/\Rel B8 O Z' w'/\Y6 O Z w O Z' w':=by
 obtain⟨⟨b,off⟩,d,k⟩:=A8 h;obtain⟨n,h5,k5⟩:=A8 (show ob (size? P t) _=some Z' from k);obtain⟨ht,k6⟩:=Kh k5;obtain⟨h6,h7⟩:=H9 k6;have i:=Ai h6;obtain⟨q,hq,hx⟩:=MJ f d;obtain⟨c1,c2⟩:=j.cells ht;obtain⟨w1,w2,w3⟩:=e.write hq h7 c1 c2;refine⟨_,?_,w2,w3⟩;have g:=c1.length;have c:v'.cells.size=n:=by rw[<- QD,<- g,i]
 simp only[hx,Instr.storeAt,Instr.sureAddr,Sem.run_bind,Sem.run_pure,Result.andThen_ok,storeVar,Bs h5,ne_eq];rw[z0z (by simp[c])];rw[w1 P]
def nM {t:TypeId}{u:Value}(e:Rel B8 O Z w) (l:I0 O a a') (h:Po P Z t a=some u):
  ∃ u',(Instr.loadAt t a').run P w= .ok u' w/\I0 O u u':=by
 obtain⟨⟨b,off⟩,i,m⟩:=A8 h;obtain⟨q,hq,hx⟩:=MJ l i;obtain⟨g,h5,h6⟩:=A8 (show ob (MY P t) _=some u from m);have f:=Xs h5 w;cases g with
 | true=>
   obtain⟨n,j,k⟩:=A8 (show ob (size? P t) _=some u from h6);obtain⟨cs,d,c⟩:=A8 k;cases c;obtain⟨B,hB,GL⟩:=W7 d;obtain⟨vs,k1,k2,k3⟩:=(e.row b q B hq hB).read (P:=P) GL;refine⟨.agg vs.toArray,?_,.agg k3 k2⟩;simp only[hx,Instr.loadAt,Instr.sureAddr,Sem.run_bind,Sem.run_pure,Result.andThen_ok,loadVar,f,FB,Bs j,k1]
 | false=>
   obtain⟨cs,d,c⟩:=A8 (show ob (Z.read b off 1) LL=some u from h6);obtain⟨B,hB,GL⟩:=W7 d;obtain⟨v',k1,k2⟩:=((e.row b q B hq hB).seg GL).1.one (P:=P) c;refine⟨v',?_,k2⟩;simp only[hx,Instr.loadAt,Instr.sureAddr,Sem.run_bind,Sem.run_pure,Result.andThen_ok,loadVar,f,Je,GZ,k1]
structure Om (P:Program) (ty:TypeId) (x v:Value) (w w':World):Prop where
 run:∃ w1 w2 u,(Instr.alloc ty true (.tuple #[])).run P w= .ok (.pointer (some ⟨w.heap.size,0,none⟩)) w1/\(Instr.storeAt ty (.pointer (some ⟨w.heap.size,0,none⟩)) v).run P w1= .ok () w2 /\
  (Instr.loadAt ty (.pointer (some ⟨w.heap.size,0,none⟩))).run P w2= .ok u w2/\(Instr.storeAt ty x u).run P w2= .ok () w'
def Pu {ty:TypeId}(h:Xr P ty x v Z=some Z'):Adv Z Z':=by
 obtain⟨z,b,h⟩:=A8 h;obtain⟨Z2,h2,h⟩:=A8 h;obtain⟨u,h3,h⟩:=A8 h;exact((Adv.new _ _ _).trans (HL h2)).trans (HL h)
def bH {ty:TypeId}{l:Value}(r:Rel B8 O Z w) (j:O Z.n=none) (f:I0 O x l) (s:I0 O v v') (h:Xr P ty x v Z=some Z'):
  ∃ w' O',Om P ty l v' w w'/\Rel B8 O' Z' w'/\Y6 O Z w O' Z' w'/\O.le O':=by
 obtain⟨z,i,h⟩:=A8 h;obtain⟨Z2,h2,h⟩:=A8 h;obtain⟨u,h3,h⟩:=A8 h;obtain⟨hz,_,_⟩:=ER (O:=O) i w;obtain⟨zc1,zc2,zc3⟩:=Dp (O:=O) i;have d:(Instr.alloc ty true (.tuple #[])).run P w= .ok (.pointer (some ⟨w.heap.size,0,none⟩)) { w with heap:=w.heap.push (.cells z.cells ty) }:=by
  simp only[Instr.alloc,Sem.run_bind,hz,Result.andThen_ok,newVar,newRow,run_newObj,Sem.run_pure]
 have b:=Place.Hz ⟨w.heap.size,0,z.cells.size⟩ j
 obtain⟨p,q⟩:=r.new (t:=some ty) (w':={ w with heap:=w.heap.push (.cells z.cells ty) }) j (cs:=J6 z) (arr:=z.cells) (e:=ty) (lo:=0) (hi:=0)
  (by simp) (by simp) (fun c A=>by simp[Array.getElem?_push];intro h;omega) ⟨rfl,rfl,rfl⟩ (.inr nL) zc3 ⟨z.cells.toList,[],by simp,zc2⟩ (fun x f=>by cases f;rfl)
 have k:I0 (O.put Z.n ⟨w.heap.size,0,z.cells.size⟩) (ptrTo Z.n) (.pointer (some ⟨w.heap.size,0,none⟩)):=OK _ _ (Place.R0 _ _ _);obtain⟨y,m,g,o⟩:=TW p k (s.mono b) h2;obtain⟨u',e4,e5⟩:=nM g k h3;obtain⟨w3,e6,e7,e8⟩:=TW g (f.mono b) e5 h;exact⟨w3,_,⟨_,y,u',d,m,e4,e6⟩,e7,(q.trans o).trans e8,b⟩
def dj {g d k I:Nat}{T ty:TypeId}{fn:Func}{c0 c1 V H:Code}(hf:P.funcs[g]? =some fn) (hn:(fn.name== "runtime.NumGoroutine")=false) (hb:fn.body=some (.seq c0 (.seq c1 (.seq V (.seq H .ret)))))
  (h1:∀ (Q:Exit->Act->World->Prop) (a:Act) (w:World) (x:Value),fn.ntmps<=a.tmps.size->a.tmps[I]? =some x->Q .normal (deferred a d k x) w->c1.wpIn Fence.wide 0 P Q a w)
  (F:∀ (x:Value) (w:World),(invoke (.fn (.func k) #[x]) #[]).run P w= .ok (.enter k #[x]) w)
  (hk:∀ (x:Value) (w:World),CallsDIn Fence.wide 0 P k #[x] .returning w fun e u' w'=>(∃ v,e= .returned v)/\u'= .returning/\w'=w)
  (hp:∀ (x v:Value) (w w':World),Om P ty x v w w'->CallsDIn Fence.wide 0 P k #[x] (.panicking [{ v:= .iface T v,recovered:=false }]) w fun e u' w''=>(∃ v,e= .returned v)/\settle u'= .returning/\w''=w')
  (b0:codeOk P fn.ntmps G c0=true) (b1:codeOk P fn.ntmps G V=true) (b2:codeOk P fn.ntmps G H=true)
  {run:RunT} (X:OX P B8 G run) {vs:List Value}{Z:St}{r:CR} (h:TV P c0 V H d I T ty fn.results.toList run vs Z=some r) :
  Adv Z r.Z/\∀ O w vs' N,Rel B8 O Z w->Co O Z.n N->r.Z.n<=N->Bw O G->F8 O vs vs'->CW P B8 O g vs' Z w r:=by
 obtain⟨r0,e0,h⟩:=A8 h;obtain⟨fr0,Z0,rfl,h⟩:=Xt h;obtain⟨hd0,h⟩:=H9 h;obtain⟨xv,hxv,h⟩:=A8 h;obtain⟨r2,e2,h⟩:=A8 h;obtain⟨A0,B0⟩:=X none c0 _ Z _ e0;obtain⟨A2,B2⟩:=X none V _ Z0 _ e2;have a4:Adv Z r.Z:=by
  obtain⟨o,W,l⟩:=r2;cases o with
  | normal=>
    obtain⟨r3,j,h⟩:=A8 h;obtain⟨fr3,Z3,rfl,h⟩:=Xt h;obtain⟨us,eu,h⟩:=A8 h;cases h;exact(A0.trans A2).trans (X none H _ l _ j).1
  | pan v=>
    obtain⟨v1,b,h⟩:=A8 h;obtain⟨Z3,j,h⟩:=A8 h;obtain⟨us,eu,h⟩:=A8 h;cases h;exact(A0.trans A2).trans (Pu j)
  |exit i=>cases h
  |ret=>cases h
 refine⟨a4,fun O w vs' N hR E hN hG hv=>⟨fn,hf,hn,.inl ⟨by rw[hb];rfl,(callsIn_wide (n:=0)).1 (callsIn_of_wp_marks hf hb trivial ?_)⟩⟩⟩;have hl:=hv.length;have s:r2.Z.n<=N:=by
  refine j9 ?_ hN;obtain⟨o,W,l⟩:=r2;cases o with
  | normal=>
    obtain⟨r3,j,h⟩:=A8 h;obtain⟨fr3,Z3,rfl,h⟩:=Xt h;obtain⟨us,eu,h⟩:=A8 h;cases h;exact(X none H _ l _ j).1.n
  | pan v=>
    obtain⟨v1,b,h⟩:=A8 h;obtain⟨Z3,j,h⟩:=A8 h;obtain⟨us,eu,h⟩:=A8 h;cases h;exact(Pu j).n
  |exit i=>cases h
  |ret=>cases h
 have J:Z0.n<=N:=j9 A2.n s;refine wpIn_seq ?_;refine B0 fn.ntmps b0 w.heap.size [] O _ w N none nL hR E J ?_ ?_ (.nil _ _ _) hG rfl _ fun e a' w' O' q0 q1 p q3 q4 q5=>?_
 ·intro t u hu;rw[Yo]at hu;by_cases ht:0<=t/\t<0+vs.length
  ·rw[z1z ht]at hu;obtain⟨u',k1,k2⟩:=hv.get hu;refine⟨u',?_,k2⟩;show((⟨vs'⟩:Array Value)++Array.replicate _ undef)[t]? =some u';rw[Array.getElem?_append_left (by simp;omega)]
   simpa using k1
  ·rw[z0z ht]at hu;cases hu
 ·show fn.ntmps<=((⟨vs'⟩:Array Value)++Array.replicate (fn.ntmps-(⟨vs'⟩:Array Value).size) undef).size;rw[Ya,ga];omega
 cases(show e= .normal from q0);have M:fn.ntmps<=a'.tmps.size:=by
  rw[q4];show fn.ntmps<=((⟨vs'⟩:Array Value)++Array.replicate (fn.ntmps-(⟨vs'⟩:Array Value).size) undef).size;rw[Ya,ga];omega
 obtain⟨x,hx,b5⟩:=q3 I xv hxv;show(Code.seq c1 _).wpIn _ _ _ _ _ _;refine wpIn_seq (h1 _ a' w' x M hx ?_);show(Code.seq V _).wpIn _ _ _ _ _ _;refine wpIn_seq ?_;have b3:FD O' fr0 (deferred a' d k x):=by
  intro t v ht;obtain⟨v',k1,k2⟩:=q3 t v ht;refine⟨v',?_,k2⟩;show(a'.tmps.setIfInBounds d _)[t]? =some v';rw[Array.getElem?_setIfInBounds,z0z (fun Y=>by subst Y;rw[ht]at hd0;cases hd0)];exact k1
 refine B2 fn.ntmps b1 w'.heap.size (deferred a' d k x).defers O' _ w' N none nL q1 (p.free E) s b3 (by show fn.ntmps<=(a'.tmps.setIfInBounds d _).size;rw[AP5];exact M) (.nil _ _ _) (hG.mono (p.le E J)) rfl _ fun e a2 w2 C p0 p1 B p3 p4 p5=>?_;have a0:∀ (f:List Nat),a'.defers=f.map OW++[]->∀ D∈f,D<w'.heap.size:=by
  intro f A;obtain⟨Es',k1,_,k3⟩:=q5;have Y:f=Es':=by
   have:=A.symm.trans k1;rw[Du,Du]at this;exact(List.map_inj_right fun x y m=>by unfold OW at m;injection m with h _;injection h).1 this
  intro D q;have h4:=(k3 D (by rw[<- Y];exact q)).2;rcases AU D w'.heap.size with K|K
  ·exact K
  ·rw[Array.getElem?_eq_none K]at h4;cases h4
 obtain⟨o,W,l⟩:=r2;cases o with
 |exit i=>cases h
 |ret=>cases h
 | normal=>
   obtain⟨r3,j,h⟩:=A8 h;obtain⟨fr3,Z3,rfl,h⟩:=Xt h;obtain⟨us,eu,h⟩:=A8 h;cases h;obtain⟨A3,B3⟩:=X none H _ l _ j;have a7:Z3.n<=N:=hN;cases(show e= .normal from p0);show(Code.seq H _).wpIn _ _ _ _ _ _;refine wpIn_seq ?_;have a6:Co C l.n N:=B.free (p.free E);refine B3 fn.ntmps b2 w'.heap.size (deferred a' d k x).defers C _ w2 N none B.size p1 a6 a7 p3 (by rw[p4];show fn.ntmps<=(a'.tmps.setIfInBounds d _).size;rw[AP5];exact M) p5 ((hG.mono (p.le E J)).mono (B.le (p.free E) s)) rfl _ fun e a3 w3 U s0 s1 s2 s3 s4 s5=>?_;cases(show e= .normal from s0);refine wpIn_ret ?_;have R:Marks w.heap.size w3 [] a'.defers:=(q5.QO q1 B).QO p1 s2;obtain⟨Ds,m1,m2,m3⟩:=s5;obtain⟨f,A,n2,n3⟩:=R;have FF:Y6 O Z w U Z3 w3:=(p.trans B).trans s2;show LeavesInM Fence.wide 0 P fn a3.tmps _ a3.defers .returning w3;rw[m1];refine Ka q1.low.1 (by simp) Ds w3 m2 m3 s1 fun w4 t1 t2 t3 t4=>?_;refine⟨by simp,.inr ⟨(fun K=>absurd K (by decide)),_,_,k,#[x],rfl,F x w4,fun _ _=>trivial,?_⟩⟩;refine(hk x w4).mono ?_;rintro e u' w5 ⟨⟨v,rfl⟩,rfl,rfl⟩;show LeavesInM Fence.wide 0 P fn a3.tmps _ a'.defers .returning w5;have L:=a0 f A;rw[A,Du];refine Hh hR.low.1 (by simp) f w5 n2 (fun D q=>⟨(n3 D q).1,by rw[t2 D (L D q)];exact(n3 D q).2⟩) t1 fun w6 x1 x2 x3 x4=>?_;obtain⟨v',z1,z2⟩:=IB (P:=P) x1 s3 eu;exact⟨v',z1,v',U,rfl,x1,FF.close (fun c S=>by rw[x2 c S,t2 c (z5z S p.size)]) (by rw[x3,t3]) (t4.trans x4),z2⟩
 | pan v=>
   obtain⟨v1,b,h⟩:=A8 h;obtain⟨Z3,j,h⟩:=A8 h;obtain⟨us,eu,h⟩:=A8 h;cases h;obtain⟨v',hev,hvr⟩:∃ v',e=eJ v'/\I0 C v v':=p0;subst hev;obtain⟨rfl⟩:v= .iface T v1:=by
    unfold jZ at b;split at b
    ·obtain⟨a8,a9⟩:=H9 b;cases a9;rw[Ai a8]
    ·cases b
   obtain⟨v2,rfl,b4⟩:∃ v2,v'= .iface T v2/\I0 C v1 v2:=by
    cases hvr with
    |I3 hs=>simp[I3]at hs
    |iface h=>exact⟨_,rfl,h⟩
   show LeavesInM Fence.wide 0 P fn a2.tmps _ a2.defers (.panicking [{ v:= .iface T v2,recovered:=false }]) w2;have R:Marks w.heap.size w2 [] a'.defers:=q5.QO q1 B;obtain⟨Ds,m1,m2,m3⟩:=p5;obtain⟨f,A,n2,n3⟩:=R;rw[m1];refine Ka q1.low.1 (by simp) Ds w2 m2 m3 p1 fun w4 t1 t2 t3 t4=>?_;have a5:I0 C xv x:=b5.mono (B.le (p.free E) s);have a1:C l.n=none:=B.free (p.free E) l.n nL (by
    have:l.n+1<=Z3.n:=by
     obtain⟨z,h1,h⟩:=A8 j;obtain⟨Z4,h2,h⟩:=A8 h;obtain⟨u,h3,h⟩:=A8 h;exact j9 (HL h2).n (HL h).n
    have b8:Z3.n<=N:=hN;omega)
   obtain⟨w5,U,y1,y2,y3,y4⟩:=bH t1 a1 a5 b4 j;refine⟨by simp,.inr ⟨(fun K=>absurd K (by decide)),_,_,k,#[x],rfl,F x w4,fun _ _=>trivial,?_⟩⟩;refine(hp x v2 w4 w5 y1).mono ?_;rintro e u' w6 ⟨⟨v,rfl⟩,Nk,rfl⟩;show LeavesInM Fence.wide 0 P fn a2.tmps _ a'.defers (settle u') w6;rw[Nk,A,Du];have L:=a0 f A;have q7:Marks w.heap.size w4 [] a'.defers:=by
    refine⟨f,A,n2,fun D q=>⟨(n3 D q).1,?_⟩⟩;rw[t2 D (L D q)];exact(n3 D q).2
   obtain⟨Es',b6,b9,b7⟩:=q7.QO t1 y3;have Y:f=Es':=by
    have:=A.symm.trans b6;rw[Du,Du]at this;exact(List.map_inj_right fun x y m=>by unfold OW at m;injection m with h _;injection h).1 this
   subst Y;refine Hh hR.low.1 (by simp) f w6 n2 b7 y2 fun w7 x1 x2 x3 x4=>?_;obtain⟨v',z1,z2⟩:=IB (P:=P) x1 (p3.mono y4) eu;have F1:Y6 O Z w C l w2:=p.trans B;have F2:Y6 O Z w C l w4:=F1.close (fun c S=>t2 c (z5z S p.size)) t3 t4;have F3:Y6 O Z w U Z3 w6:=F2.trans y3;exact⟨v',z1,v',U,rfl,x1,F3.close (fun c S=>x2 c S) x3 x4,z2⟩
end
end
section
variable {P:Program}{B8:Env}{G:Nat}{O:Place}{Z:St}{w w':World}
def Rel.below (a:Rel B8 O Z w) (d:Go.RowKit.Below w.heap.size w w'):Rel B8 O Z w'/\Y6 O Z w O Z w':=by
 have e:=d.size
 refine⟨⟨a.fresh,fun b q B f g=>(a.IQ b q B f g).mono (Place.le_refl _) (d.block q.c (a.dom b q f)),fun b q f=>z5z (a.dom b q f) e,a.own,a.sep,a.low.next e fun c i=>d.block c (z5z i a.low.1)⟩,
  ⟨fun _ _=>rfl,Bh _,e,fun c i _=>d.block c i,fun b q B f g _=>⟨b,q,B,f,rfl,g,fun h=>h⟩,⟨d.os,d.tape,d.output⟩,fun _ _ _=>rfl⟩⟩
def Nh {g:Nat}{fn:Func}(i:P.funcs[g]? =some fn) (j:(fn.name== "runtime.NumGoroutine")=false) (a:fn.body.isSome=true){vs':List Value}{v v':Value}(d:Rel B8 O Z w)
  (h:Calls P g ⟨vs'⟩ w fun e w'=>e= .returned v'/\Go.RowKit.Below w.heap.size w w') (k:I0 O v v'):CW P B8 O g vs' Z w ⟨false,v,Z⟩:=by
 refine⟨fn,i,j,.inl ⟨a,h.mono ?_⟩⟩;rintro e w' ⟨rfl,f⟩;obtain⟨b,c⟩:=d.below f;exact⟨v',O,rfl,b,c,k⟩
def Kx {g:Nat}{fn:Func}(h:P.funcs[g]? =some fn) (i:(fn.name== "runtime.NumGoroutine")=false) (a:fn.body.isSome=true){vs':List Value}{v v':Value}{Z':St}{b:World}
  (f:Calls P g ⟨vs'⟩ w fun e w'=>e= .returned v'/\w'=b) (d:Rel B8 O Z' b) (c:Y6 O Z w O Z' b) (j:I0 O v v'):CW P B8 O g vs' Z w ⟨false,v,Z'⟩:=by
 refine⟨fn,h,i,.inl ⟨a,f.mono ?_⟩⟩;rintro e w' ⟨rfl,rfl⟩;exact⟨v',O,rfl,d,c,j⟩
def Rel.AZ7 (o:Rel B8 O Z w){b:Nat}{q:BU}(l:O b=some q){Z':St}(y:Z.kill b=some Z') (s:w'.heap.size=w.heap.size) (d:∀ c,c≠q.c->w'.heap[c]? =w.heap[c]?) (A:Outside w w') :
  Rel B8 O Z' w'/\Y6 O Z w O Z' w':=by
 obtain⟨f,g⟩:=o.kill ⟨q,l⟩ y;obtain⟨B,hr1,hO,v⟩:=Gz y;have m:=(AH hr1).1;have i:∀ a B',Z'.blk a=some B'->a≠b/\Z.blk a=some B':=by
  intro a B' h;subst v;by_cases e:a=b
  ·subst e;rw[Fb]at h;cases h
  ·exact⟨e,by rw[CV _ _ e]at h;exact h⟩
 refine⟨⟨f.fresh,fun a j B' k u=>?_,fun a j k=>by rw[s];exact f.dom a j k,f.own,f.sep,f.low.next (by rw[s];exact Bh _) fun c z=>d c fun v=>by have:=o.own b q B l m hO;omega⟩,⟨g.ext,g.n,by rw[s];exact g.size,fun c z r=>?_,g.owned,A,g.same⟩⟩
 ·obtain⟨C,D⟩:=i a B' u;exact(f.IQ a j B' k u).mono (Place.le_refl _) (d j.c (o.sep b q B a j l m hO C k (.inr ⟨B',D⟩)))
 ·refine d c fun p=>?_;have:=r b q B l p.symm m;rw[hO]at this;cases this
noncomputable def ew (l:List Value):Option (List (List UInt8)) :=
 List.rec (motive:=fun _=>Option (List (List UInt8))) (some []) (fun v _ a=>ob (Kj v) fun s=>ob a fun r=>some (s::r)) l
noncomputable def jN (a:List UInt8) (l:List (List UInt8)):List UInt8:=List.rec (motive:=fun _=>List UInt8) [] (fun x _ b=>a++(x++b)) l
noncomputable def sq (l:List (List UInt8)) (a:List UInt8):List UInt8:=List.rec (motive:=fun _=>List UInt8) [] (fun x xs _=>x++jN a xs) l
def ss (a:List UInt8) (l:List (List UInt8)):jN a l=Lib.joinTail a l:=by
 induction l with
 |nil=>rfl
 | cons x l ih=>
   show a++(x++jN a l)=_;rw[ih];simp[Lib.joinTail]
def sv (l:List (List UInt8)) (a:List UInt8):sq l a=Lib.join l a:=by
 cases l with
 |nil=>rfl
 | cons x l=>
   show x++jN a l=_;rw[ss,Lib.join_cons]
def mP:∀ {l:List Value}{r:List (List UInt8)},ew l=some r->∃ xs:List ByteArray,l=xs.map Value.string/\r=xs.map (·.data.toList):=by
 intro l;induction l with
 |nil=>intro r h;cases h;exact⟨[],rfl,rfl⟩
 | cons v l ih=>
   intro r h;obtain⟨s,a,h⟩:=A8 (show ob (Kj v) (fun s=>ob (ew l) fun r=>some (s::r))=some r from h);obtain⟨r',h2,h⟩:=A8 h;cases h;obtain⟨xs,rfl,rfl⟩:=ih h2;cases v with
   |string x=>cases a;exact⟨x::xs,rfl,rfl⟩
   |_=>cases a
noncomputable def jO (a:List Value) (Z:St):Option CR:=match a with
 | [.slice (some ⟨b,off,_⟩) n c,.string sep]=>bb (Nat.ble n c) (bb (Nat.ble n room) (ob (Z.read b off n) fun cs=>ob (ew cs) fun l=>bb (Nat.ble (sq l sep.data.toList).length room) (some ⟨false,.string ⟨(sq l sep.data.toList).toArray⟩,Z⟩)))
 |_=>none
def ez:∀ {xs:List ByteArray}{vs:List Value},F8 O (xs.map Value.string) vs->vs=xs.map Value.string:=by
 intro xs;induction xs with
 |nil=>intro vs h;cases h;rfl
 | cons x xs ih=>
   intro vs h;cases h with
   |cons h a=>cases h;rw[ih a];rfl
def sw {g:Nat}{fn:Func}(C:P.funcs[g]? =some fn) (E:(fn.name== "runtime.NumGoroutine")=false) (k:fn.body.isSome=true)
  (S:∀ (bk o c:Nat) (xs:List ByteArray) (sep:ByteArray) (w:World),(∀ (j:Nat) x,xs[j]? =some x->w.cell? ⟨bk,o+j,none⟩=some (.string x))->bk<w.heap.size->xs.length<=140737488355328->xs.length<=c->(Lib.join (xs.map (·.data.toList)) sep.data.toList).length<=140737488355328 ->
    Calls P g #[.slice (some ⟨bk,o,none⟩) xs.length c,.string sep] w fun e w'=>e= .returned (.string ⟨(Lib.join (xs.map (·.data.toList)) sep.data.toList).toArray⟩)/\Go.RowKit.Below w.heap.size w w')
  (R:∀ (a:Option Addr) (c:Nat) (sep:ByteArray) (w:World),Calls P g #[.slice a 0 c,.string sep] w fun e w'=>e= .returned (.string ⟨#[]⟩)/\w'=w)
  {y:List Value}{Z:St}{r:CR} (h:jO y Z=some r):Adv Z r.Z/\∀ O w vs' N,Rel B8 O Z w->Co O Z.n N->r.Z.n<=N->Bw O G->F8 O y vs'->CW P B8 O g vs' Z w r:=by
 unfold jO at h;split at h
 ·rename_i b off sp n c sep;obtain⟨M,h⟩:=H9 h;obtain⟨g2,h⟩:=H9 h;obtain⟨cs,g3,h⟩:=A8 h;obtain⟨l,g4,h⟩:=A8 h;obtain⟨g5,h⟩:=H9 h;cases h;have z:=Jo M;have L:=Jo g2;have A:=Jo g5;unfold room at L A;refine⟨.refl _,fun O w vs' N i hF hN hG p=>?_⟩;cases p with
  |cons W p=>
  cases p with
  |cons V p=>
  cases p;obtain⟨xs,rfl,rfl⟩:=mP g4;obtain⟨B,hB,GL⟩:=W7 g3;have d:=(sub_eq GL).2 ▸ (by simp;have:=(sub_eq GL).1;omega:((B.cells.drop off).take n).length=n);rw[z2z]at d;cases V;rename_i s' _;rw[sv]at A ⊢;have fin:∀ (q:BU) (s:Nat),O b=some q->n<=s->CW P B8 O g [.slice (some ⟨q.c,q.o+off,none⟩) n s,.string sep] Z w ⟨false,.string ⟨(Lib.join (xs.map (·.data.toList)) sep.data.toList).toArray⟩,Z⟩:=by
   intro q s f u;obtain⟨y,X,Y,k3⟩:=(i.row b q B f hB).read (P:=P) GL;rw[ez Y]at X;have I:∀ (j:Nat) x,xs[j]? =some x->w.cell? ⟨q.c,q.o+off+j,none⟩=some (.string x):=by
    intro j x D;obtain⟨arr,e,lo,hi,F,a0,a2,a3,a4,H⟩:=i.row b q B f hB;obtain⟨s1,s2⟩:=sub_eq GL;have m:(xs.map Value.string)[j]? =some (.string x):=by rw[List.getElem?_map,D];rfl
    have v:j<n:=by have:=(List.getElem?_eq_some_iff.1 D).1;omega
    rw[s2,List.getElem?_take_of_lt v,List.getElem?_drop]at m;obtain⟨v',J,K⟩:=H _ _ m;cases K;rw[It F,show q.o+off+j=q.o+(off+j)from by omega];exact J
   subst d;exact Nh C E k i (S q.c (q.o+off) s xs sep w I (i.dom b q f) om u om) (.I3 rfl)
  cases W with
  |slice f=>exact fin _ _ f z
  |grow f U hm=>exact fin _ _ f (j9 z U)
  | Bu f=>
    obtain rfl:xs=[]:=Rb.1 d;exact Kx C E k (R _ _ _ w) i (.refl _ _ _) (.I3 rfl)
  |I3 hsc=>simp[I3]at hsc
 ·cases h
end
section
variable {P:Program}{B8:Env}{G:Nat}
def cD (U:P.follows .mixedOrders=true) (K:∀ n c,B8.chk n c=codeOk P n G c) {H:EV} (S:Gd P H G P.funcs.toList 0=true) (R:∀ (lo:Nat) (w0:World),B8.lo<=lo->(∀ c,c<B8.lo->w0.heap[c]? =B8.w0.heap[c]?)->Jz P { B8 with lo:=lo,w0:=w0 } G H) {Z0:St} (V:Z0.n=G) (W:∀ b B,Z0.blk b=some B->B.own=false)
  {g f:Nat}{v:Value}{u:St} (D:I3 v=true) (h:DY P H (exec P H f) (.fn g) [] Z0=some ⟨false,v,u⟩) (Z:St) {O:Place}{w:World}{N:Nat} (d:Rel B8 O Z w) (M:Bw O G)
  (A:Rel { B8 with lo:=w.heap.size,w0:=w } (fun b=>if b<G then O b else none) Z0 w):CW P B8 O g [] Z w ⟨false,v,Z⟩:=by
 obtain⟨_,i⟩:=Yq (B8:={ B8 with lo:=w.heap.size,w0:=w }) U K S (R _ _ d.low.1 d.low.2) f _ _ _ _ h
 let O0:Place:=fun b=>if b<G then O b else none
 have z:Bw O0 G:=by
  intro g I;obtain⟨m,h,i⟩:=M g I;exact⟨m,by show(if g<G then O g else none)=_;rw[z1z I];exact h,i⟩
 have y:Co O0 Z0.n u.n:=fun b C _=>by show(if b<G then O b else none)=none;rw[z0z om]
 obtain⟨fn,X,Y,k3⟩:=i O0 w [] u.n A y nL z .nil;refine⟨fn,X,Y,?_⟩;have F:∀ {r:Place}{v':Value},I0 r v v'->v'=v:=by
  intro r v' a;cases v with
  |bool b=>cases a;rfl
  |int k n=>cases a;rfl
  |string s=>cases a;rfl
  |_=>cases a<;>first|rfl|cases D
 rcases k3 with⟨E,J⟩|⟨v',E,J,k6,k7⟩
 ·refine .inl ⟨E,J.mono ?_⟩;rintro e w' ⟨v',r,rfl,q1,l,q3⟩;have p:∀ c,c<w.heap.size->w'.heap[c]? =w.heap[c]? :=fun c j=>l.I2 c j fun b q B C _ L=>W b B L;have a:=F q3;subst a
  refine⟨v',O,rfl,⟨d.fresh,fun b q B o i=>(d.IQ b q B o i).mono (Place.le_refl _) (p _ (d.dom b q o)),fun b q C=>z5z (d.dom b q C) l.size,d.own,d.sep,d.low.next l.size fun c j=>p c (z5z j d.low.1)⟩,
   ⟨fun _ _=>rfl,Bh _,l.size,fun c j _=>p c j,fun b q B o i _=>⟨b,q,B,o,rfl,i,fun h=>h⟩,l.out,fun _ _ _=>rfl⟩,.I3 D⟩
 ·have:=F k7;subst this;exact .inr ⟨v',E,rfl,rfl,.I3 D⟩
end
end Go.Ab
namespace Go.Ab.Nt
open Go Go.Ab
section
variable {a:Addr}{Z Z':St}{w:World}{b n:Nat}{cs:List Value}
section
variable {P:Program}{W:World}{B8:Env}{G:Nat}{H:Type}{enc:TypeId×Value->H}
def HP {α:Type}(R:α->List Value->Prop):List α->List (List Value)->Prop
 | [],[]=>True
 |a::l,b::k=>R a b/\HP R l k
 |_,_=>False
def GC (P:Program) (Z:St):Nat->TypeId->List Value->Prop
 |0,_,_=>False
 | f+1,t,cs=>match P.underlying t with
   |some .bool=>∃ b,cs=[.bool b]
   |some (.int k)=>∃ n,cs=[.int k n]/\(Lit.int k n).wf=true
   |some .string=>∃ s,cs=[.string s]/\s.size<=maxLen
   |some (.slice e)=>cs=[.slice none 0 0]\/∃ (b:Nat) (B9:List (List Value)) (cap:Nat),cs=[.slice (some ⟨b,0,none⟩) B9.length cap]/\B9.length<=cap/\cap<=maxLen/\b<Z.n/\Z.row b=some B9.flatten/\∀ r∈B9,r.length=P.cellsOf e/\GC P Z f e r
   |some (.struct fs)=>∃ ps:List (List Value),cs=ps.flatten/\HP (fun(fd:Field) p=>GC P Z f fd.type p) fs.toList ps
   |some (.array n e)=>∃ ps:List (List Value),cs=ps.flatten/\ps.length=n/\∀ p∈ps,p.length=P.cellsOf e/\GC P Z f e p
   |_=>False
def Xu (P:Program):List Field->Nat->Option Nat
 | [],o=>some o
 |f::fs,o=>if f.offset=o then Xu P fs (o+P.cellsOf f.type)else none
def GR (P:Program):Nat->TypeId->Bool
 |0,_=>false
 | f+1,t=>match P.underlying t with
   |some .bool=>true
   |some (.int _)=>true
   |some .string=>true
   |some (.slice e)=>Nat.blt 0 (P.cellsOf e)&&GR P f e
   |some (.struct fs)=>(Xu P fs.toList 0==some (P.cellsOf t))&&fs.toList.all fun fd=>GR P f fd.type
   |some (.array n e)=>P.cellsOf t==n*P.cellsOf e&&GR P f e
   |_=>false
structure Kp (Z Z':St):Prop where
 n:Z.n<=Z'.n
 row:∀ b cells,b<Z.n->Z.row b=some cells->Z'.row b=some cells
def Kp.refl (Z:St):Kp Z Z:=⟨Bh _,fun _ _ _ h=>h⟩
def Kp.trans {c:St}(h:Kp Z Z') (k:Kp Z' c):Kp Z c:=⟨j9 h.n k.n,fun b cells d e=>k.row b cells (z5z d h.n) (h.row b cells d e)⟩
def HP.mono {α:Type}{R S:α->List Value->Prop}(h:∀ a b,R a b->S a b):∀ {l:List α}{k:List (List Value)},HP R l k->HP S l k
 | [],[],_=>trivial
 |_::_,_::_,p=>⟨h _ _ p.1,p.2.mono h⟩
 | [],_::_,p=>p.elim
 |_::_,[],p=>p.elim
def GC.mono (k:Kp Z Z'):∀ {f:Nat}{t:TypeId}{cs:List Value},GC P Z f t cs->GC P Z' f t cs:=by
 intro f;induction f with
 |zero=>intro t cs h;exact h
 | succ f ih=>
   intro t cs h;unfold GC at h ⊢;split at h
   ·exact h
   ·exact h
   ·exact h
   ·rcases h with h|⟨b,o,g,c,d,e,i,q,j⟩
    ·exact .inl h
    ·exact .inr ⟨b,o,g,c,d,e,z5z i k.n,k.row _ _ i q,fun r m=>⟨(j r m).1,ih (j r m).2⟩⟩
   ·obtain⟨ps,c,d⟩:=h;exact⟨ps,c,d.mono fun _ _ h=>ih h⟩
   ·obtain⟨ps,c,d,e⟩:=h;exact⟨ps,c,d,fun p l=>⟨(e p l).1,ih (e p l).2⟩⟩
   ·exact h
structure Inv (B8:Env) (G:Nat) (W:World) (Z:St) (O:Place):Prop where
 rel:Rel B8 O Z W
 own:Rl Z
 free:∀ b,Z.n<=b->O b=none
 Ac7:Bw O G
 nil:∃ b,b<Z.n/\Z.row b=some []/\∃ q,O b=some q
def F8.len {O:Place}{l l':List Value}(h:F8 O l l'):l.length=l'.length:=by
 induction l generalizing l' with
 |nil=>cases h;rfl
 |cons a l d=>cases h with|cons h c=>simp[d c]
def Inv.arg {Z:St}{O:Place}(h:Inv B8 G W Z O){c o:Nat}{cells:List Value}{arr:Array Value}{e:TypeId}{f:Nat×Nat}(g:W.heap[c]? =some (.cells arr e f)) (u:o+cells.length<=arr.size) (s:W.heap.size<=B8.lo)
  (p:∀ v∈cells,L8 v=true) (z:∀ (i:Nat) (v:Value),cells[i]? =some v->∃ v',arr[o+i]? =some v'/\I0 O v v') :
  Inv B8 G W (Z.arg cells) (O.put Z.n ⟨c,o,arr.size⟩)/\Kp Z (Z.arg cells)/\O.le (O.put Z.n ⟨c,o,arr.size⟩):=by
 have d:O.le (O.put Z.n ⟨c,o,arr.size⟩):=Place.Hz _ (h.free _ nL);have r:c<W.heap.size:=by
  rcases AU c W.heap.size with h|h
  ·exact h
  ·rw[Array.getElem?_eq_none h]at g;cases g
 have j:Kp Z (Z.arg cells):=⟨by rw[Vl];omega,fun b cs A y=>by rw[Tb _ _ om];exact y⟩
 refine⟨⟨jo h.rel h.own h.free g rfl u om p z,h.own.arg _,bL h.free,h.Ac7.mono d,?_⟩,j,d⟩;obtain⟨b,k,l,q,m⟩:=h.nil;exact⟨b,z5z k j.n,j.row _ _ k l,q,d _ _ m⟩
def uf {f:Type}{sz:Nat}(m:0<sz):∀ {B9:List (List f)}{i:Nat}{v:f},(∀ r∈B9,r.length=sz)->B9.flatten[i]? =some v->∃ r,B9[i / sz]? =some r/\r[i % sz]? =some v:=by
 intro B9;induction B9 with
 |nil=>intro i v _ h;simp at h
 | cons r B9 ih=>
   intro i v e h;have k:=e r (by simp);by_cases hi:i<sz
   ·rw[UN,List.getElem?_append_left om]at h;exact⟨r,by rw[ug hi];rfl,by rw[RU hi];exact h⟩
   ·rw[UN,List.getElem?_append_right om]at h;obtain⟨o,c,d⟩:=ih (fun r l=>e r (by simp[l])) h;rw[k]at c d;have g:i / sz=(i-sz) / sz+1:=by rw[Nat.div_eq_sub_div m om]
    have j:i % sz=(i-sz) % sz:=Nat.mod_eq_sub_mod om;exact⟨o,by rw[g,List.getElem?_cons_succ];exact c,by rw[j];exact d⟩
def LB (h:w.cells? b a n=some cs):cs.length=n:=by
 unfold World.cells? at h;split at h
 ·simpa using mapM_some_length h
 ·cases h
def bM {i:Nat}(h:w.cells? b a n=some cs) (hi:i<n):w.cell? (a.add i)=cs[i]? :=by
 unfold World.cells? at h;split at h
 ·exact mapM_some_get h i i (by simp[hi])
 ·cases h
def addr_add (c:a.spot=none) (i:Nat):a.add i=⟨a.block,a.off+i,none⟩:=by
 obtain⟨b,o,s⟩:=a;cases(show s=none from c);unfold Addr.add;split<;>simp_all
def PG {f:Nat}{B8:Env}
  (j:∀ t cs x,DataW.trod enc P W 0 (fun _=>true) true f t cs=some x->GR P f t=true->∀ Z O,Inv B8 G W Z O->∃ Z' O' cs',Inv B8 G W Z' O'/\Kp Z Z'/\O.le O'/\F8 O' cs' cs/\GC P Z' f t cs'/\∀ v∈cs',L8 v=true) :
  ∀ (L:List (TypeId×List Value)),(∀ p∈L,GR P f p.1=true/\∃ x,DataW.trod enc P W 0 (fun _=>true) true f p.1 p.2=some x)->∀ Z O,Inv B8 G W Z O ->
   ∃ Z' O' ps,Inv B8 G W Z' O'/\Kp Z Z'/\O.le O'/\HP (fun(p:TypeId×List Value) c=>F8 O' c p.2/\GC P Z' f p.1 c/\∀ v∈c,L8 v=true) L ps:=by
 intro L;induction L with
 |nil=>intro _ Z O h;exact⟨Z,O,[],h,.refl _,Place.le_refl _,trivial⟩
 | cons p L ihL=>
   intro d Z O h;obtain⟨e,x,i⟩:=d p (by simp);obtain⟨Z1,O1,c,i1,k1,l1,v1,a1,c1⟩:=j _ _ _ i e Z O h;obtain⟨Z2,O2,ps,i2,k2,l2,q⟩:=ihL (fun p g=>d p (by simp[g])) Z1 O1 i1;exact⟨Z2,O2,c::ps,i2,k1.trans k2,Place.le_trans l1 l2,⟨v1.mono l2,a1.mono k2,c1⟩,q⟩
def HP.len {α:Type}{R:α->List Value->Prop}:∀ {l:List α}{k:List (List Value)},HP R l k->l.length=k.length
 | [],[],_=>rfl
 |_::_,_::_,p=>by rw[Ap,Ap,p.2.len]
 | [],_::_,p=>p.elim
 |_::_,[],p=>p.elim
def HP.get {α:Type}{R:α->List Value->Prop}:∀ {l:List α}{k:List (List Value)}{i:Nat}{b:List Value},HP R l k->k[i]? =some b->∃ a,l[i]? =some a/\R a b
 |a::l,b::k,0,_,p,h=>by cases h;exact⟨a,rfl,p.1⟩
 |a::l,b::k,i+1,_,p,h=>p.2.get (i:=i) (by simpa using h)
 | [],[],_,_,_,h=>by simp at h
 | [],_::_,_,_,p,_=>p.elim
 |_::_,[],_,_,p,_=>p.elim
def Mb {α:Type}{R:α->List Value->Prop}{O:Place}{g:α->List Value}(hR:∀ a c,R a c->F8 O c (g a)):∀ {l:List α}{k:List (List Value)},HP R l k->F8 O k.flatten (l.map g).flatten
 | [],[],_=> .nil
 | a::l,b::k,p=>by
   rw[UN,SR,UN];exact Ab.F8.append (Mb hR p.2) (hR _ _ p.1)
 | [],_::_,p=>p.elim
 |_::_,[],p=>p.elim
def Pw {cs:List Value}:∀ {fs:List Field}{o n:Nat},Xu P fs o=some n->n<=cs.length->(fs.map fun fd=>(cs.drop fd.offset).take (P.cellsOf fd.type)).flatten=(cs.drop o).take (n-o)/\o<=n
 | [],o,n,h,hl=>by
   cases h;simp
 | fd::fs,o,n,h,hl=>by
   unfold Xu at h;split at h
   ·rename_i ho;subst ho;obtain⟨h1,h2⟩:=Pw h hl;refine⟨?_,om⟩;rw[SR,UN,h1];have e:n-fd.offset=P.cellsOf fd.type+(n-(fd.offset+P.cellsOf fd.type)):=om;rw[e,List.take_add,UM]
   ·cases h
def PH {α β:Type}{R:β->List Value->Prop}(g:α->β):∀ {l:List α}{k:List (List Value)},HP R (l.map g) k->HP (fun a c=>R (g a) c) l k
 | [],[],_=>trivial
 |_::_,_::_,p=>⟨p.1,PH g p.2⟩
 | [],_::_,p=>p.elim
 |_::_,[],p=>p.elim
def imp (b7:W.heap.size<=B8.lo):∀ f t cs x,DataW.trod enc P W 0 (fun _=>true) true f t cs=some x->GR P f t=true->∀ Z O,Inv B8 G W Z O ->
  ∃ Z' O' cs',Inv B8 G W Z' O'/\Kp Z Z'/\O.le O'/\F8 O' cs' cs/\GC P Z' f t cs'/\∀ v∈cs',L8 v=true:=by
 intro f;induction f with
 |zero=>intro t cs x _ B;cases B
 | succ f ih=>
   intro t cs x h B Z O M;unfold GR at B;have Y:∀ v,L8 v=true->∀ w∈[v],L8 w=true:=fun v R w hw=>by rw[JB]at hw;subst hw;exact R
   split at B
   ·rename_i ht;obtain⟨b,rfl⟩:∃ b,cs=[.bool b]:=by
     unfold DataW.trod at h;rw[ht]at h;split at h<;>simp_all
    exact⟨Z,O,[.bool b],M,.refl _,Place.le_refl _,.cons (.I3 rfl) .nil,by unfold GC;rw[ht];exact⟨b,rfl⟩,Y _ rfl⟩
   ·rename_i k ht;obtain⟨n,rfl,c1⟩:∃ n,cs=[.int k n]/\(Lit.int k n).wf=true:=by
     unfold DataW.trod at h;rw[ht]at h;split at h<;>simp_all
    exact⟨Z,O,[.int k n],M,.refl _,Place.le_refl _,.cons (.I3 rfl) .nil,by unfold GC;rw[ht];exact⟨n,rfl,c1⟩,Y _ rfl⟩
   ·rename_i ht;obtain⟨s,rfl,b8⟩:∃ s,cs=[.string s]/\s.size<=maxLen:=by
     unfold DataW.trod at h;rw[ht]at h;split at h<;>simp_all
    exact⟨Z,O,[.string s],M,.refl _,Place.le_refl _,.cons (.I3 rfl) .nil,by unfold GC;rw[ht];exact⟨s,rfl,b8⟩,Y _ rfl⟩
   ·rename_i e ht;rw[R2,BW]at B;obtain⟨N,D⟩:=B;rcases DataW.trod_slice ht h with⟨rfl,_⟩|⟨a,len,L,a9,N7,n,hn,rfl,_,_,hl,hm,c2,b5,b9,_⟩
    ·exact⟨Z,O,[.slice none 0 0],M,.refl _,Place.le_refl _,.cons (.I3 rfl) .nil,by unfold GC;rw[ht];exact .inl rfl,Y _ rfl⟩
    ·obtain rfl:n=f:=om
     -- the elements
     have a0:∀ i,i<len->∃ c x,W.cells? 0 (a.add (i*P.cellsOf e)) (P.cellsOf e)=some c/\DataW.trod enc P W 0 (fun _=>true) true n e c=some x:=by
      intro i hi;have d:=b5 i hi;rw[List.getElem?_eq_getElem om]at d;cases hc:W.cells? 0 (a.add (i*P.cellsOf e)) (P.cellsOf e)with
      |none=>rw[hc]at d;cases d
      |some c=>rw[hc]at d;exact⟨c,_,rfl,d⟩
     let g:Nat->List Value:=fun i=>(W.cells? 0 (a.add (i*P.cellsOf e)) (P.cellsOf e)).getD []
     have U:∀ i,i<len->W.cells? 0 (a.add (i*P.cellsOf e)) (P.cellsOf e)=some (g i):=fun i hi=>by
      obtain⟨c,x,d,l⟩:=a0 i hi;show _=some (Option.getD _ _);rw[d];rfl
     obtain⟨K,J,ps,S,V,X,q1⟩:=PG ih ((List.range len).map fun i=>(e,g i)) (fun p z=>by
      obtain⟨i,hi,rfl⟩:=eE.1 z;rw[xY]at hi;obtain⟨c,x,d,l⟩:=a0 i hi;rw[U i hi]at d;cases d;exact⟨D,x,l⟩) Z O M
     have u:ps.length=len:=by rw[<- q1.len];simp
     have HA:∀ (i:Nat) (r:List Value),ps[i]? =some r->i<len/\F8 J r (g i)/\GC P K n e r/\(∀ v∈r,L8 v=true)/\r.length=P.cellsOf e:=by
      intro i r A;obtain⟨p,d,l,y,h4⟩:=q1.get A;have hi:i<len:=by rw[<- u];exact(List.getElem?_eq_some_iff.1 A).1
      rw[List.getElem?_map,List.getElem?_range hi]at d;cases d;exact⟨hi,l,y,h4,by rw[F8.len l];exact LB (U i hi)⟩
     have a6:∀ r∈ps,r.length=P.cellsOf e:=fun r A=>by
      obtain⟨i,hi⟩:=List.getElem?_of_mem A;exact(HA i r hi).2.2.2.2
     have b6:=Hl ps a6;by_cases b4:L=0
     ·subst b4;obtain rfl:len=0:=om;obtain⟨b,b1,b2,q,b3⟩:=S.nil;obtain rfl:ps=[]:=WI u;refine⟨K,J,[.slice (some ⟨b,0,none⟩) 0 0],S,V,X,.cons (.Bu b3) .nil,?_,Y _ rfl⟩;unfold GC;rw[ht];exact .inr ⟨b,[],0,rfl,Bh _,hm,b1,b2,fun r A=>by cases A⟩
     ·
      have a8:∃ c,W.cells? 0 (a.add (0*P.cellsOf e)) (P.cellsOf e)=some c:=by
       by_cases a5:0<len
       ·exact⟨_,U 0 a5⟩
       ·obtain⟨d,l⟩:=b9 rfl;have y:=l 0 om;rw[List.getElem?_eq_getElem om,show len+0=0 by omega]at y;cases hc:W.cells? 0 (a.add (0*P.cellsOf e)) (P.cellsOf e)with
        |none=>rw[hc]at y;cases y
        |some c=>exact⟨c,rfl⟩
      obtain⟨c0,a1⟩:=a8;have C:=LB a1;have a2:=bM a1 (i:=0) N;rw[List.getElem?_eq_getElem om]at a2;obtain⟨arr,el,fr,hh,hs,h0⟩:=bN a2;have b0:(a.add (0*P.cellsOf e)).add 0=a:=by rw[GH];obtain⟨b,o,s⟩:=a;unfold Addr.add;simp
      rw[b0]at hh hs h0;have fi:∀ i j,(a.add i).add j=⟨a.block,a.off+i+j,none⟩:=fun i j=>by
       have e1:a.add i=⟨a.block,a.off+i,none⟩:=by
        obtain⟨b,o,s⟩:=a;cases(show s=none from hs);exact Ab.addr_add _ _ _
       rw[e1,Ab.addr_add]
      have a3:∀ i j,i<len->j<P.cellsOf e->arr[a.off+i*P.cellsOf e+j]? =(g i)[j]? :=by
       intro i j hi hj;have d:=bM (U i hi) hj;rw[fi]at d;have l:=LB (U i hi);rw[List.getElem?_eq_getElem om]at d ⊢;obtain⟨c3,c4,c5,y,_,h4⟩:=bN d;rw[hh]at y;cases y;exact h4
      have a7:a.off+ps.flatten.length<=arr.size:=by
       rw[b6,u];by_cases a5:0<len
       ·have d:=a3 (len-1) (P.cellsOf e-1) om om;have l:=LB (U (len-1) om);rw[List.getElem?_eq_getElem om]at d;obtain⟨y,_⟩:=Array.getElem?_eq_some_iff.1 d;have e1:len*P.cellsOf e=(len-1)*P.cellsOf e+P.cellsOf e:=by rw[<- UA];congr 1;omega
        omega
       ·obtain rfl:len=0:=om;obtain⟨y,_⟩:=Array.getElem?_eq_some_iff.1 h0;omega
      obtain⟨i2,k2,l2⟩:=S.arg (cells:=ps.flatten) hh a7 b7 (fun v R=>by
       obtain⟨r,A,E⟩:=uh.1 R;obtain⟨i,hi⟩:=List.getElem?_of_mem A;exact(HA i r hi).2.2.2.1 v E) (fun i v hi=>by
       obtain⟨r,d,l⟩:=uf N a6 hi;obtain⟨y,h4,-⟩:=HA _ r d;obtain⟨v',h5,h6⟩:=h4.get l;refine⟨v',?_,h6⟩;have h7:=a3 _ _ y (IP i N);rw[h5,UE,Nat.div_add_mod']at h7;exact h7)
      refine⟨_,_,[.slice (some ⟨K.n,0,none⟩) len L],i2,V.trans k2,Place.le_trans X l2,.cons ?_ .nil,?_,Y _ rfl⟩
      ·have:some a=some ⟨(⟨a.block,a.off,arr.size⟩:BU).c,(⟨a.block,a.off,arr.size⟩:BU).o+0,none⟩:=by
        obtain⟨b,o,s⟩:=a;cases(show s=none from hs);rfl
       rw[this];exact .slice (Place.R0 _ _ _)
      ·unfold GC;rw[ht];refine .inr ⟨K.n,ps,L,by rw[u],om,hm,by rw[Vl];omega,jq _ _,fun r A=>?_⟩;obtain⟨i,hi⟩:=List.getElem?_of_mem A;obtain⟨-,-,y,-,h5⟩:=HA i r hi;exact⟨h5,y.mono k2⟩
   ·rename_i fs ht;rw[R2,beq_iff_eq,GY]at B;obtain⟨I,D⟩:=B;obtain⟨xs,n,hn,_,C,hxl,hx⟩:=DataW.trod_struct ht h;obtain rfl:n=f:=om;obtain⟨K,J,ps,S,V,X,q1⟩:=PG ih (fs.toList.map fun F=>(F.type,(cs.drop F.offset).take (P.cellsOf F.type))) (fun p z=>by
     obtain⟨F,a4,rfl⟩:=eE.1 z;obtain⟨i,hi⟩:=List.getElem?_of_mem a4;refine⟨D F a4,?_⟩;have c6:i<fs.size:=by
      have:=(List.getElem?_eq_some_iff.1 hi).1
      simpa using this
     have d:=hx i F (by rw[<- Array.getElem?_toList];exact hi);rw[List.getElem?_eq_getElem om]at d;exact⟨_,d⟩) Z O M
    have q2:=PH _ q1;refine⟨K,J,ps.flatten,S,V,X,?_,?_,?_⟩
    ·have d:=Mb (g:=fun F:Field=>(cs.drop F.offset).take (P.cellsOf F.type)) (O:=J) (fun a c h=>h.1) q2;obtain⟨l,-⟩:=Pw (cs:=cs) I om;rw[l,NG,Yy,<- C,Jf]at d;exact d
    ·unfold GC;rw[ht];exact⟨ps,rfl,q2.mono fun a c h=>h.2.1⟩
    ·intro v R;obtain⟨r,A,E⟩:=uh.1 R;obtain⟨i,hi⟩:=List.getElem?_of_mem A;obtain⟨p,-,z⟩:=q1.get hi;exact z.2.2 v E
   ·rename_i m e ht;rw[R2,beq_iff_eq]at B;obtain⟨I,D⟩:=B;have LK:cs.length=P.cellsOf t/\∀ i,i<m->∃ x,DataW.trod enc P W 0 (fun _=>true) true f e ((cs.drop (i*P.cellsOf e)).take (P.cellsOf e))=some x:=by
     unfold DataW.trod at h;rw[ht]at h;split at h<;>simp_all;obtain⟨xs,z,B⟩:=h.2;refine fun i hi=>?_;have d:=mapM_some_get z i i (by simp[hi]);have l:=mapM_some_length z;rw[List.length_range]at l;rw[List.getElem?_eq_getElem om]at d;exact⟨_,_,d⟩
    obtain⟨C,hx⟩:=LK;obtain⟨K,J,ps,S,V,X,q1⟩:=PG ih ((List.range m).map fun i=>(e,(cs.drop (i*P.cellsOf e)).take (P.cellsOf e))) (fun p z=>by
     obtain⟨i,hi,rfl⟩:=eE.1 z;rw[xY]at hi;exact⟨D,hx i hi⟩) Z O M
    have q2:=PH _ q1;have u:ps.length=m:=by rw[<- q1.len];simp
    have Xv:∀ m,((List.range m).map fun i=>(cs.drop (i*P.cellsOf e)).take (P.cellsOf e)).flatten=cs.take (m*P.cellsOf e):=by
     intro m;induction m with
     |zero=>simp
     | succ m ihm=>
       rw[List.range_succ,HI,List.flatten_append,ihm,UA,List.take_add];simp
    refine⟨K,J,ps.flatten,S,V,X,?_,?_,?_⟩
    ·have d:=Mb (g:=fun i:Nat=>(cs.drop (i*P.cellsOf e)).take (P.cellsOf e)) (O:=J) (fun a c h=>h.1) q2;rw[Xv,<- I,<- C,Jf]at d;exact d
    ·unfold GC;rw[ht];refine⟨ps,rfl,u,fun p z=>?_⟩;obtain⟨i,hi⟩:=List.getElem?_of_mem z;obtain⟨j,d,l⟩:=q2.get hi;have hj:i<m:=by rw[<- u];exact(List.getElem?_eq_some_iff.1 hi).1
     rw[List.getElem?_range hj]at d;cases d;refine⟨?_,l.2.1⟩;rw[F8.len l.1,Jw,MD,C,I];have:(i+1)*P.cellsOf e<=m*P.cellsOf e:=kh _ hj;rw[UA]at this;omega
    ·intro v R;obtain⟨r,A,E⟩:=uh.1 R;obtain⟨i,hi⟩:=List.getElem?_of_mem A;obtain⟨p,-,z⟩:=q1.get hi;exact z.2.2 v E
   ·cases B
end
end
end Go.Ab.Nt
namespace Go.Ab
open Go
section
variable {P:Program}
def RC {b:Type}{a:b}:O8 P (pure a:Sem b)=some a:=rfl
def Ck {c d:Type}{f:c->Sem d}(s:Sem c):O8 P (s >>= f)=ob (O8 P s) fun a=>O8 P (f a):=by
 show O8 P (s.bind f)=_;induction s with
 |pure a=>rfl
 |program k b=>exact b P
 |mark m k b=>exact b
 |_=>rfl
def Mg:O8 P program=some P:=rfl
noncomputable def eqF (P:Program) (d:Nat) (xs ys:Array Value):List Field->Option Bool
 | []=>some true
 |f::fs=>bi (f.name != "_") (ob (O8 P (part f.type xs f.offset)) fun a=>ob (O8 P (part f.type ys f.offset)) fun b=>ob (O8 P (Op.equalIn d f.type a b)) fun r=>bi r (eqF P d xs ys fs) (some false)) (eqF P d xs ys fs)
def Tq {a:Type}{c:Prop} [Decidable c] {x y:Sem a}:O8 P (if c then x else y)=if c then O8 P x else O8 P y:=by split<;>rfl
def Vw {P:Program}{d:Nat}{xs ys:Array Value}:∀ fs:List Field,O8 P (Op.eqFields d xs ys fs)=eqF P d xs ys fs
 | []=>rfl
 | f::fs=>by
   have ih:=Vw (P:=P) (d:=d) (xs:=xs) (ys:=ys) fs;unfold Op.eqFields eqF;rw[Tq];by_cases h:f.name= "_"
   ·rw[z0z (by simpa using h),show(f.name != "_")=false from by simpa using h,Cp,ih]
   ·rw[z1z h,show(f.name != "_")=true from by simpa using h,Hq,Ck]
    congr 1;funext a;rw[Ck];congr 1;funext b;rw[Ck];congr 1;funext r;rw[Tq];cases r with
    |true=>rw[z0z (by simp),Hq,ih]
    |false=>rw[z1z (by simp),Cp];rfl
def wN {t:TypeId}{u:TypeDesc}(h:P.underlying t=some u):O8 P (underlying t)=some u:=by
 unfold underlying;rw[Ck,Mg,D5];simp only[h];rfl
def oG {d:Nat}{t:TypeId}{xs ys:Array Value}(ht:P.underlying t=some (.struct (P.fieldsOf t))) (e:P.stoodInHeld t=false):
  O8 P (Op.equalIn (d+1) t (.agg xs) (.agg ys))=eqF P d xs ys (P.fieldsOf t).toList:=by
 rw[<- Vw];simp only[Op.equalIn];rw[Ck,wN ht,D5];simp only[Ck,Mg,D5,e,Je,GZ];rw[<- Array.forIn_toList];generalize (P.fieldsOf t).toList=fs;clear ht;induction fs with
 |nil=>rfl
 | cons f fs ih=>
   simp only[List.forIn_cons,Op.eqFields,Ck,Tq];by_cases c:f.name= "_"
   ·simp only[ne_eq,c,not_true,GZ,RC,D5];exact ih
   ·simp only[ne_eq,c,not_false_iff,FB,Ck];cases O8 P (part f.type xs f.offset)with
    |none=>rfl
    | some a=>
      simp only[D5];cases O8 P (part f.type ys f.offset)with
      |none=>rfl
      | some b=>
        simp only[D5];cases O8 P (Op.equalIn d f.type a b)with
        |none=>rfl
        | some r=>
          cases r
          ·simp only[D5,Yd,FB,RC]
          ·simp only[D5,lK,Je,GZ,RC];exact ih
def Vx {P:Program}{t:TypeId}{x y:Operand}{xs ys:Array Value}{o:Option Bool}(c:(Lm xs&&Lm ys)=true) (g:P.eqGuardType P.depth t=false) (ht:P.underlying t=some (.struct (P.fieldsOf t))) (h:P.stoodInHeld t=false)
  (f:eqF P 9999 xs ys (P.fieldsOf t).toList=o):Aq P .eql t x y (.agg xs) (.agg ys)=(ob o fun b=>some (.bool b))/\Aq P .neq t x y (.agg xs) (.agg ys)=ob o fun b=>some (.bool !b):=by
 have e:∀ op,O8 P (eqGuard op t x y (.agg xs) (.agg ys))=some ():=by
  intro op;unfold eqGuard;rw[Tq];cases op<;>first|rfl|(simp only[lK,Je,GZ,Ck,Mg,D5,g,Yd,FB,Tq,RC])
 have a:O8 P (Op.equal t (.agg xs) (.agg ys))=o:=by
  unfold Op.equal;exact(oG (d:=9999) ht h).trans f
 constructor
 ·show bi (Lm xs&&Lm ys) (Em P .eql t x y (.agg xs) (.agg ys)) _=_;rw[c,Hq];unfold Em;rw[Ck,Ck,e,D5];show ob (LS (ob (O8 P (binOp .eql t (.agg xs) (.agg ys))) _)) cst=_;simp only[binOp];rw[Ck,a];cases o<;>rfl
 ·show bi (Lm xs&&Lm ys) (Em P .neq t x y (.agg xs) (.agg ys)) _=_;rw[c,Hq];unfold Em;rw[Ck,Ck,e,D5];show ob (LS (ob (O8 P (binOp .neq t (.agg xs) (.agg ys))) _)) cst=_;simp only[binOp];rw[Ck,a];cases o<;>rfl
end
end Go.Ab
