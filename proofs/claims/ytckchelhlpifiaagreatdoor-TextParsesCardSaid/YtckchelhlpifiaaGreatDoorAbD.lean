/- The abstract machine df a bound on its steps: its I0 satisfy its own Ab1. -/
import Derived.Test.YtckchelhlpifiaaGreatDoorAbB
import Derived.RecoverIn
import Derived.Lib.Join
import Derived.Lib.UnsafeStr
import Derived.Laws.StructEq
set_option linter.unusedSimpArgs false
set_option linter.unusedVariables false
set_option linter.defProp false
set_option maxHeartbeats 32000000
set_option maxRecDepth 100000
namespace Go.Ab
open Go
section
variable {Z:St}{rd:Option Nat}{c:Code}{fr:Fr}{r:Res}
def N0.run (rd:Option Nat) (c:Code) (fr:Fr) (Z:St):N0 fun run=>run rd c fr Z:=⟨fun _ _ h r hr=>h rd c fr Z r hr,fun _ _ _ h r hr=>h rd c fr Z r hr⟩
def N0.ob {α β:Type}{Φ:RunT->Option α}{Ψ:α->RunT->Option β}(h:N0 Φ) (k:∀ a,N0 (Ψ a)):N0 fun run=>Ab.ob (Φ run) fun a=>Ψ a run:=by
 constructor
 ·intro run run' hl r hr;obtain⟨a,h1,h2⟩:=A5 hr;show Ab.ob (Φ run') _=_;rw[h.mono _ _ hl _ h1];exact(k a).mono _ _ hl _ h2
 ·intro ch l hc hl r hr;obtain⟨a,h1,h2⟩:=A5 hr;obtain⟨f,hf⟩:=h.fin ch l hc hl _ h1;obtain⟨g,hg⟩:=(k a).fin ch l hc hl _ h2;refine⟨max f g,?_⟩;show Ab.ob (Φ (ch (max f g))) _=_;rw[h.mono _ _ (hc f _ (Nat.le_max_left _ _)) _ hf];exact(k a).mono _ _ (hc g _ (Nat.le_max_right _ _)) _ hg
def N0.bb {β:Type}(c:Bool){Φ:RunT->Option β}(h:N0 Φ):N0 fun run=>Ab.bb c (Φ run):=by
 cases c with
 |true=>exact h
 |false=>exact .const none
def N0.bi {β:Type}(c:Bool){Φ Ψ:RunT->Option β}(h:N0 Φ) (k:N0 Ψ):N0 fun run=>Ab.bi c (Φ run) (Ψ run):=by
 cases c with
 |true=>exact h
 |false=>exact k
section
variable {P:Program}{H:EW}
def Ki (r:Res){next:RunT->Fr->St->Option Res}(h:∀ fr Z,N0 fun run=>next run fr Z):N0 fun run=>AJ r (next run):=by
 obtain⟨o,fr,Z⟩:=r;cases o with
 |normal=>exact h fr Z
 |exit i=>exact .const _
 |ret=>exact .const _
 |pan v=>exact .const _
def aK (g:Nat) (vs:List Value) (Z:St):N0 fun run=>Nn P H run g vs Z:=by
 unfold Nn;cases H g with
 |some s=>exact s.cont _ _
 | none=>
   refine N0.ob (.const _) fun fn=>?_;cases fn.body with
   |none=>exact .const _
   |some body=>exact N0.ob (.run _ _ _ _) fun _=> .const _
def QF (t:Tgt) (vs:List Value) (Z:St):N0 fun run=>DE P H run t vs Z:=by
 cases t with
 |fn g=>exact aK g vs Z
def NR (fr:Fr) (Z:St) (o:Oper):N0 fun run=>step P (DE P H run) fr Z o:=by
 have key:∀ x:Op,N0 fun run=>ni x P (DE P H run) fr Z o:=by
  intro x;cases x with
  | call c=>
    show N0 fun run=>Wu P (DE P H run) fr Z c;unfold Wu;cases c.callee with
    | value f=>
      show N0 fun run=>QG (HQ (DE P H run) fr Z c f);unfold QG HQ;refine N0.ob (N0.ob (.const _) fun vs=>N0.ob (.const _) fun v=>N0.ob (.const _) fun f=>?_) fun _=> .const _;obtain⟨g,first,captured⟩:=f;exact QF _ _ _
    |builtin b=>exact .const _
    |_=>exact .const _
  |_=>exact .const _
 exact key o.op
def iu (all:Array Oper):∀ (l:List Oper) (fr:Fr) (Z:St),N0 fun run=>opsV P (DE P H run) all l fr Z:=by
 intro l;induction l with
 |nil=>intro fr Z;exact .const _
 | cons o l ih=>
   intro fr Z;refine N0.ob (.const _) fun c=>N0.bi c (N0.ob (NR fr Z o) fun r=>?_) (ih _ _);obtain⟨v,Z1,d⟩:=r;cases d with
   |pan=>exact .const _
   |none=>exact ih _ _
   |read r=>exact ih _ _
   |eff=>exact ih _ _
def aL (all:Array Oper) (bs:List Nat) (i:Nat):∀ (l:List Oper) (j:Nat) (fr:Fr) (Z:St),N0 fun run=>Kj P (DE P H run) all bs i l j fr Z:=by
 intro l;induction l with
 |nil=>intro j fr Z;exact .const _
 | cons o l ih=>
   intro j fr Z;exact N0.bi _ (ih _ _ _) (N0.bb _ (N0.ob (.const _) fun c=>N0.bi c (N0.ob (NR fr Z o) fun r=>ih _ _ _) (ih _ _ _)))
def NS (all:Array Oper):∀ (l:List Oper) (i:Nat) (fr:Fr) (Z:St) (ds:List Trace),N0 fun run=>I6 P (DE P H run) all l i fr Z ds:=by
 intro l;induction l with
 |nil=>intro i fr Z ds;exact .const _
 | cons o l ih=>
   intro i fr Z ds;refine N0.ob (.const _) fun c=>N0.bi c (N0.ob (NR fr Z o) fun r=>?_) (ih _ _ _ _);obtain⟨v,Z1,d⟩:=r;cases d with
   |pan=>exact N0.bb _ (N0.ob (aL _ _ _ _ _ _ _) fun _=> .const _)
   |none=>exact ih _ _ _ _
   |read r=>exact ih _ _ _ _
   |eff=>exact ih _ _ _ _
def Lg (rd:Option Nat) (c:Code) (fr:Fr) (Z:St):N0 fun run=>zX P H run rd c fr Z:=by
 show N0 fun run=>nj c P H run rd fr Z;cases c with
 | region id os draw=>
   refine N0.bi draw (N0.bi _ ?_ (N0.ob (NS _ _ _ _ _ _) fun r=> .const _)) (iu _ _ _ _);exact N0.ob (.const _) fun g=>N0.bb _ (N0.ob (NS _ _ _ _ _ _) fun r0=>N0.ob (.const _) fun kv=>N0.ob (.const _) fun V=>N0.bb _ (N0.ob (NS _ _ _ _ _ _) fun r=> .const _))
 |seq a b=>exact N0.ob (.run _ _ _ _) fun r=>Ki r fun fr Z=> .run _ _ _ _
 |cond c a b=>exact N0.ob (.const _) fun v=>N0.ob (.const _) fun t=>N0.bi t (.run _ _ _ _) (.run _ _ _ _)
 |block id c=>exact N0.ob (.run _ _ _ _) fun r=> .const _
 |scope c=>exact .run _ _ _ _
 |loop c=>exact N0.ob (.run _ _ _ _) fun r=>Ki r fun fr Z=> .run _ _ _ _
 |_=>exact .const _
def ug:∀ f,Le (exec P H f) (exec P H (f+1)):=by
 intro f;induction f with
 |zero=>intro rd c fr Z r h;cases h
 |succ f ih=>intro rd c fr Z r h;exact(Lg rd c fr Z).mono _ _ ih r h
def KD (f g:Nat) (h:f<=g):Le (exec P H f) (exec P H g):=by
 induction h with
 |refl=>intro _ _ _ _ _ h;exact h
 |step _ ih=>intro rd c fr Z r h;exact ug _ _ _ _ _ _ (ih _ _ _ _ _ h)
open Classical in
noncomputable def lim (P:Program) (H:EW):RunT:=fun rd c fr Z=>if h:∃ f r,exec P H f rd c fr Z=some r then exec P H h.choose rd c fr Z else none
def nn {f:Nat}(h:exec P H f rd c fr Z=some r):lim P H rd c fr Z=some r:=by
 have hx:∃ f r,exec P H f rd c fr Z=some r:=⟨f,r,h⟩
 obtain⟨r',h'⟩:=hx.choose_spec;unfold lim;rw[dif_pos hx,h'];have h1:=KD _ _ (Nat.le_max_left f hx.choose) _ _ _ _ _ h;have h2:=KD _ _ (Nat.le_max_right f hx.choose) _ _ _ _ _ h';rw[h1]at h2;exact h2.symm
def QH (h:lim P H rd c fr Z=some r):∃ f,exec P H f rd c fr Z=some r:=by
 unfold lim at h;split at h
 ·exact⟨_,h⟩
 ·cases h
def Im (rd:Option Nat) (c:Code) (fr:Fr) (Z:St):lim P H rd c fr Z=nj c P H (lim P H) rd fr Z:=by
 apply Option.ext;intro r;constructor
 ·intro h;obtain⟨f,h⟩:=QH h;cases f with
  |zero=>cases h
  |succ f=>exact(Lg rd c fr Z).mono (exec P H f) _ (fun _ _ _ _ _ h=>nn h) r h
 ·intro h;obtain⟨f,h⟩:=(Lg rd c fr Z).fin (exec P H) (lim P H) KD (fun _ _ _ _ _ h=>QH h) r h;exact nn (f:=f+1) h
noncomputable def go (P:Program) (H:EW) (t:Tgt) (vs:List Value) (Z:St):Option CR:=DE P H (lim P H) t vs Z
def uh {t:Tgt}{vs:List Value}{r:CR}(h:go P H t vs Z=some r):∃ f,DE P H (exec P H f) t vs Z=some r :=
 (QF t vs Z).fin (exec P H) (lim P H) KD (fun _ _ _ _ _ h=>QH h) r h
end
end
section
variable {x a ix c b m y:Operand}{v u:Value}{k n f g:Nat}{as fs cs:Array Operand}{next:Fr->St->Option Res}{fn:Func}{t:Tmp}{vs:List Value}{lo hi mx:Option Operand}{ok:Bool}
@[congr] theorem Ac0 {α β:Type}{x y:Option α}{f:α->Option β} (h:x=y):ob x f=ob y f:=by rw[h]
@[congr] theorem Ac1 {β:Type}{c d:Bool}{x:Option β} (h:c=d):bb c x=bb d x:=by rw[h]
@[congr] theorem Ac2 {β:Type}{c d:Bool}{x y:β} (h:c=d):bi c x y=bi d x y:=by rw[h]
@[congr] theorem Ac3 {α β γ:Type}{p q:α×β}{f:α->β->γ} (h:p=q):pr p f=pr q f:=by rw[h]
section
variable {P:Program}{H:EW}{call:W0}{all:Array Oper}{l:List Oper}{fr:Fr}{Z:St}{d:Option Tmp}{ty:TypeId}{ps:String}{af:Array Edge}{i:Nat}{ds:List Trace}
noncomputable def O4 (P:Program) (call:W0) (all:Array Oper) (l:List Oper) (fr:Fr) (r:Stepped) (d:Option Tmp):Option Res :=
 Stepped.rec (motive:=fun _=>Option Res) (fun v Z e=>Ny e (opsV P call all l (G5 fr d v) Z) (some ⟨.pan v,fr,Z⟩)) r
noncomputable def l9 (P:Program) (call:W0) (all:Array Oper) (op:Op) (l:List Oper) (i:Nat) (fr:Fr) (Z:St) (ds:List Trace) (r:Stepped) (d:Option Tmp):Option FST :=
 Stepped.rec (motive:=fun _=>Option FST) (fun v Z' e=>Ny e (I6 P call all l (i+1) (G5 fr d v) Z' (Jn i Z Z' e ds)) (XQ P call all op l i fr Z v Z' ds)) r
def vN {op:Op}{g:Nat×Bool}:opsV P call all (⟨d,op,ty,ps,af,some g⟩::l) fr Z=ob (V0 all fr ⟨d,op,ty,ps,af,some g⟩) fun c=>bi c (opsV P call all (⟨d,op,ty,ps,af,none⟩::l) fr Z) (opsV P call all l (G5 fr d Q8) Z):=by
 show ob _ _=_;cases hx:V0 all fr ⟨d,op,ty,ps,af,some g⟩with
 |none=>rfl
 |some c=>cases op<;>(cases c<;>rfl)
def XR:opsV P call all (⟨d,.move x,ty,ps,af,none⟩::l) fr Z=ob (ev fr x) fun v=>opsV P call all l (G5 fr d v) Z:=by
 show ob (H9 Z (ev fr x)) (fun r=>O4 P call all l fr r d)=_;cases ev fr x<;>rfl
def XT:I6 P call all (⟨d,.move x,ty,ps,af,none⟩::l) i fr Z ds=ob (ev fr x) fun v=>I6 P call all l (i+1) (G5 fr d v) Z ds:=by
 show ob (H9 Z (ev fr x)) (fun r=>l9 P call all _ l i fr Z ds r d)=_;cases ev fr x<;>rfl
def QW:opsV P call all (⟨d,.assign x,ty,ps,af,none⟩::l) fr Z=ob (ev fr x) fun v=>opsV P call all l (G5 fr d v) Z:=by
 show ob (H9 Z (ev fr x)) (fun r=>O4 P call all l fr r d)=_;cases ev fr x<;>rfl
def QX:I6 P call all (⟨d,.assign x,ty,ps,af,none⟩::l) i fr Z ds=ob (ev fr x) fun v=>I6 P call all l (i+1) (G5 fr d v) Z ds:=by
 show ob (H9 Z (ev fr x)) (fun r=>l9 P call all _ l i fr Z ds r d)=_;cases ev fr x<;>rfl
def XU:opsV P call all (⟨d,.pick c a b,ty,ps,af,none⟩::l) fr Z=ob (Je fr c a b) fun v=>opsV P call all l (G5 fr d v) Z:=by
 show ob (H9 Z (Je fr c a b)) (fun r=>O4 P call all l fr r d)=_;cases Je fr c a b<;>rfl
def XV:I6 P call all (⟨d,.pick c a b,ty,ps,af,none⟩::l) i fr Z ds=ob (Je fr c a b) fun v=>I6 P call all l (i+1) (G5 fr d v) Z ds:=by
 show ob (H9 Z (Je fr c a b)) (fun r=>l9 P call all _ l i fr Z ds r d)=_;cases Je fr c a b<;>rfl
def TJ {t:TypeId}:opsV P call all (⟨d,.alloc t,ty,ps,af,none⟩::l) fr Z=ob (AV P t) fun r=>pr r fun cs v=>opsV P call all l (G5 fr d (v Z.n)) (Z.new cs (some t)):=by
 show ob (asNew Z (AV P t) (some t)) (fun r=>O4 P call all l fr r d)=_;cases AV P t with
 |none=>rfl
 |some r=>cases r;rfl
def TK {t:TypeId}:I6 P call all (⟨d,.alloc t,ty,ps,af,none⟩::l) i fr Z ds=ob (AV P t) fun r=>pr r fun cs v=>I6 P call all l (i+1) (G5 fr d (v Z.n)) (Z.new cs (some t)) ds:=by
 show ob (asNew Z (AV P t) (some t)) (fun r=>l9 P call all _ l i fr Z ds r d)=_;cases AV P t with
 |none=>rfl
 |some r=>cases r;rfl
def eR {t:TypeId}:opsV P call all (⟨d,.box t x,ty,ps,af,none⟩::l) fr Z=ob (Za fr x) fun r=>pr r fun cs v=>opsV P call all l (G5 fr d (v Z.n)) (Z.new cs):=by
 show ob (asNew Z (Za fr x)) (fun r=>O4 P call all l fr r d)=_;cases Za fr x with
 |none=>rfl
 |some r=>cases r;rfl
def TL {t:TypeId}{parts:Array (Nat×Operand)}:opsV P call all (⟨d,.build t parts,ty,ps,af,none⟩::l) fr Z=ob (Fp P fr t parts) fun v=>opsV P call all l (G5 fr d v) Z:=by
 show ob (H9 Z (Fp P fr t parts)) (fun r=>O4 P call all l fr r d)=_;cases Fp P fr t parts<;>rfl
def TM {t:TypeId}{parts:Array (Nat×Operand)}:I6 P call all (⟨d,.build t parts,ty,ps,af,none⟩::l) i fr Z ds=ob (Fp P fr t parts) fun v=>I6 P call all l (i+1) (G5 fr d v) Z ds:=by
 show ob (H9 Z (Fp P fr t parts)) (fun r=>l9 P call all _ l i fr Z ds r d)=_;cases Fp P fr t parts<;>rfl
def Jo {t:TypeId}{parts:Array (Nat×Operand)}:opsV P call all (⟨d,.buildSlice t n parts,ty,ps,af,none⟩::l) fr Z=ob (Fq P fr t n parts) fun r=>pr r fun cs v=>opsV P call all l (G5 fr d (v Z.n)) (Z.new cs):=by
 show ob (asNew Z (Fq P fr t n parts)) (fun r=>O4 P call all l fr r d)=_;cases Fq P fr t n parts with
 |none=>rfl
 |some r=>cases r;rfl
def Jp {t:TypeId}{parts:Array (Nat×Operand)}:I6 P call all (⟨d,.buildSlice t n parts,ty,ps,af,none⟩::l) i fr Z ds=ob (Fq P fr t n parts) fun r=>pr r fun cs v=>I6 P call all l (i+1) (G5 fr d (v Z.n)) (Z.new cs) ds:=by
 show ob (asNew Z (Fq P fr t n parts)) (fun r=>l9 P call all _ l i fr Z ds r d)=_;cases Fq P fr t n parts with
 |none=>rfl
 |some r=>cases r;rfl
def QY {t:TypeId}{k:Operand}:opsV P call all (⟨d,.insert t m k x,ty,ps,af,none⟩::l) fr Z=ob (Y4 P fr Z t m k x) fun r=>pr r fun v Z'=>opsV P call all l (G5 fr d v) Z':=by
 show ob (GD (Y4 P fr Z t m k x)) (fun r=>O4 P call all l fr r d)=_;cases Y4 P fr Z t m k x with
 |none=>rfl
 |some r=>cases r;rfl
def XW {t:TypeId}:opsV P call all (⟨d,.load t a,ty,ps,af,none⟩::l) fr Z=ob (Hw P fr Z t a) fun r=>pr r fun v b=>opsV P call all l (G5 fr d v) Z:=by
 show ob (DU Z (Hw P fr Z t a)) (fun r=>O4 P call all l fr r d)=_;cases Hw P fr Z t a with
 |none=>rfl
 |some r=>cases r;rfl
def XY {t:TypeId}:I6 P call all (⟨d,.load t a,ty,ps,af,none⟩::l) i fr Z ds=ob (Hw P fr Z t a) fun r=>pr r fun v b=>I6 P call all l (i+1) (G5 fr d v) Z (.read i b::ds):=by
 show ob (DU Z (Hw P fr Z t a)) (fun r=>l9 P call all _ l i fr Z ds r d)=_;cases Hw P fr Z t a with
 |none=>rfl
 |some r=>cases r;rfl
def TN {t:TypeId}{v:Operand}:opsV P call all (⟨d,.store t a v,ty,ps,af,none⟩::l) fr Z=ob (Gq P fr Z t a v) fun r=>pr r fun v Z'=>opsV P call all l (G5 fr d v) Z':=by
 show ob (GD (Gq P fr Z t a v)) (fun r=>O4 P call all l fr r d)=_;cases Gq P fr Z t a v with
 |none=>rfl
 |some r=>cases r;rfl
def TO {t:TypeId}{v:Operand}:I6 P call all (⟨d,.store t a v,ty,ps,af,none⟩::l) i fr Z ds=ob (Gq P fr Z t a v) fun r=>pr r fun v Z'=>I6 P call all l (i+1) (G5 fr d v) Z' (.eff i Z Z'::ds):=by
 show ob (GD (Gq P fr Z t a v)) (fun r=>l9 P call all _ l i fr Z ds r d)=_;cases Gq P fr Z t a v with
 |none=>rfl
 |some r=>cases r;rfl
def Ma:opsV P call all (⟨d,.nilCheck x,ty,ps,af,none⟩::l) fr Z=ob (BW fr x) fun v=>opsV P call all l (G5 fr d v) Z:=by
 show ob (H9 Z (BW fr x)) (fun r=>O4 P call all l fr r d)=_;cases BW fr x<;>rfl
def Mb:I6 P call all (⟨d,.nilCheck x,ty,ps,af,none⟩::l) i fr Z ds=ob (BW fr x) fun v=>I6 P call all l (i+1) (G5 fr d v) Z ds:=by
 show ob (H9 Z (BW fr x)) (fun r=>l9 P call all _ l i fr Z ds r d)=_;cases BW fr x<;>rfl
def eU {b:BinOp}{t u:TypeId}:opsV P call all (⟨d,.binOp b t x y u,ty,ps,af,none⟩::l) fr Z=ob (Pu P fr ⟨d,.binOp b t x y u,ty,ps,af,none⟩ b t x y) fun v=>opsV P call all l (G5 fr d v) Z:=by
 show ob (H9 Z (Pu P fr ⟨d,.binOp b t x y u,ty,ps,af,none⟩ b t x y)) (fun r=>O4 P call all l fr r d)=_;cases Pu P fr ⟨d,.binOp b t x y u,ty,ps,af,none⟩ b t x y<;>rfl
def eV {b:BinOp}{t u:TypeId}:I6 P call all (⟨d,.binOp b t x y u,ty,ps,af,none⟩::l) i fr Z ds=ob (Pu P fr ⟨d,.binOp b t x y u,ty,ps,af,none⟩ b t x y) fun v=>I6 P call all l (i+1) (G5 fr d v) Z ds:=by
 show ob (H9 Z (Pu P fr ⟨d,.binOp b t x y u,ty,ps,af,none⟩ b t x y)) (fun r=>l9 P call all _ l i fr Z ds r d)=_;cases Pu P fr ⟨d,.binOp b t x y u,ty,ps,af,none⟩ b t x y<;>rfl
def ou {b:UnOp}{t:TypeId}:opsV P call all (⟨d,.unOp b t x,ty,ps,af,none⟩::l) fr Z=ob (Cs P fr ⟨d,.unOp b t x,ty,ps,af,none⟩ x) fun v=>opsV P call all l (G5 fr d v) Z:=by
 show ob (H9 Z (Cs P fr ⟨d,.unOp b t x,ty,ps,af,none⟩ x)) (fun r=>O4 P call all l fr r d)=_;cases Cs P fr ⟨d,.unOp b t x,ty,ps,af,none⟩ x<;>rfl
def ov {b:UnOp}{t:TypeId}:I6 P call all (⟨d,.unOp b t x,ty,ps,af,none⟩::l) i fr Z ds=ob (Cs P fr ⟨d,.unOp b t x,ty,ps,af,none⟩ x) fun v=>I6 P call all l (i+1) (G5 fr d v) Z ds:=by
 show ob (H9 Z (Cs P fr ⟨d,.unOp b t x,ty,ps,af,none⟩ x)) (fun r=>l9 P call all _ l i fr Z ds r d)=_;cases Cs P fr ⟨d,.unOp b t x,ty,ps,af,none⟩ x<;>rfl
def TP {t:TypeId}:opsV P call all (⟨d,.makeInterface t x,ty,ps,af,none⟩::l) fr Z=ob (La P fr t x) fun v=>opsV P call all l (G5 fr d v) Z:=by
 show ob (H9 Z (La P fr t x)) (fun r=>O4 P call all l fr r d)=_;cases La P fr t x<;>rfl
def XZ {fn:Fn}:opsV P call all (⟨d,.makeFunc fn fs cs,ty,ps,af,none⟩::l) fr Z=ob (Jg fr fn fs cs) fun v=>opsV P call all l (G5 fr d v) Z:=by
 show ob (H9 Z (Jg fr fn fs cs)) (fun r=>O4 P call all l fr r d)=_;cases Jg fr fn fs cs<;>rfl
def Xg {fn:Fn}:I6 P call all (⟨d,.makeFunc fn fs cs,ty,ps,af,none⟩::l) i fr Z ds=ob (Jg fr fn fs cs) fun v=>I6 P call all l (i+1) (G5 fr d v) Z ds:=by
 show ob (H9 Z (Jg fr fn fs cs)) (fun r=>l9 P call all _ l i fr Z ds r d)=_;cases Jg fr fn fs cs<;>rfl
def Nz {t:TypeId}{r:Option Operand}:opsV P call all (⟨d,.makeMap t r,ty,ps,af,none⟩::l) fr Z=ob (Fc fr Z r) fun r=>pr r fun v Z'=>opsV P call all l (G5 fr d v) Z':=by
 show ob (GD (Fc fr Z r)) (fun r=>O4 P call all l fr r d)=_;cases Fc fr Z r with
 |none=>rfl
 |some r=>cases r;rfl
def Km {t:TypeId}{n:Operand}:opsV P call all (⟨d,.makeSlice t n c,ty,ps,af,none⟩::l) fr Z=ob (PA P fr t n c) fun r=>pr r fun cs v=>opsV P call all l (G5 fr d (v Z.n)) (Z.new cs):=by
 show ob (asNew Z (PA P fr t n c)) (fun r=>O4 P call all l fr r d)=_;cases PA P fr t n c with
 |none=>rfl
 |some r=>cases r;rfl
def TQ {t:TypeId}:opsV P call all (⟨d,.slice t x lo hi mx,ty,ps,af,none⟩::l) fr Z=ob (Gj P fr t x lo hi mx) fun v=>opsV P call all l (G5 fr d v) Z:=by
 show ob (H9 Z (Gj P fr t x lo hi mx)) (fun r=>O4 P call all l fr r d)=_;cases Gj P fr t x lo hi mx<;>rfl
def TR {t:TypeId}:I6 P call all (⟨d,.slice t x lo hi mx,ty,ps,af,none⟩::l) i fr Z ds=ob (Gj P fr t x lo hi mx) fun v=>I6 P call all l (i+1) (G5 fr d v) Z ds:=by
 show ob (H9 Z (Gj P fr t x lo hi mx)) (fun r=>l9 P call all _ l i fr Z ds r d)=_;cases Gj P fr t x lo hi mx<;>rfl
def Kn {s:TypeId}:opsV P call all (⟨d,.fieldAddr s x f,ty,ps,af,none⟩::l) fr Z=ob (AE P fr s x f) fun v=>opsV P call all l (G5 fr d v) Z:=by
 show ob (H9 Z (AE P fr s x f)) (fun r=>O4 P call all l fr r d)=_;cases AE P fr s x f<;>rfl
def Ko {s:TypeId}:I6 P call all (⟨d,.fieldAddr s x f,ty,ps,af,none⟩::l) i fr Z ds=ob (AE P fr s x f) fun v=>I6 P call all l (i+1) (G5 fr d v) Z ds:=by
 show ob (H9 Z (AE P fr s x f)) (fun r=>l9 P call all _ l i fr Z ds r d)=_;cases AE P fr s x f<;>rfl
def TS {s:TypeId}:opsV P call all (⟨d,.field s x f,ty,ps,af,none⟩::l) fr Z=ob (Fy P fr s x f) fun v=>opsV P call all l (G5 fr d v) Z:=by
 show ob (H9 Z (Fy P fr s x f)) (fun r=>O4 P call all l fr r d)=_;cases Fy P fr s x f<;>rfl
def TT {s:TypeId}:I6 P call all (⟨d,.field s x f,ty,ps,af,none⟩::l) i fr Z ds=ob (Fy P fr s x f) fun v=>I6 P call all l (i+1) (G5 fr d v) Z ds:=by
 show ob (H9 Z (Fy P fr s x f)) (fun r=>l9 P call all _ l i fr Z ds r d)=_;cases Fy P fr s x f<;>rfl
def Kq {t:TypeId}:opsV P call all (⟨d,.indexAddr t x ix,ty,ps,af,none⟩::l) fr Z=ob (Aa P fr t x ix) fun v=>opsV P call all l (G5 fr d v) Z:=by
 show ob (H9 Z (Aa P fr t x ix)) (fun r=>O4 P call all l fr r d)=_;cases Aa P fr t x ix<;>rfl
def Kr {t:TypeId}:I6 P call all (⟨d,.indexAddr t x ix,ty,ps,af,none⟩::l) i fr Z ds=ob (Aa P fr t x ix) fun v=>I6 P call all l (i+1) (G5 fr d v) Z ds:=by
 show ob (H9 Z (Aa P fr t x ix)) (fun r=>l9 P call all _ l i fr Z ds r d)=_;cases Aa P fr t x ix<;>rfl
def TU {t:TypeId}:opsV P call all (⟨d,.index t x ix,ty,ps,af,none⟩::l) fr Z=ob (Lc P fr t x ix) fun v=>opsV P call all l (G5 fr d v) Z:=by
 show ob (H9 Z (Lc P fr t x ix)) (fun r=>O4 P call all l fr r d)=_;cases Lc P fr t x ix<;>rfl
def QZ {t:TypeId}:opsV P call all (⟨d,.lookup t x ix ok,ty,ps,af,none⟩::l) fr Z=ob (Co P fr Z t x ix ok) fun r=>pr r fun v Z'=>opsV P call all l (G5 fr d v) Z':=by
 show ob (GD (Co P fr Z t x ix ok)) (fun r=>O4 P call all l fr r d)=_;cases Co P fr Z t x ix ok with
 |none=>rfl
 |some r=>cases r;rfl
def Qg {t:TypeId}:I6 P call all (⟨d,.lookup t x ix ok,ty,ps,af,none⟩::l) i fr Z ds=ob (Co P fr Z t x ix ok) fun r=>pr r fun v Z'=>I6 P call all l (i+1) (G5 fr d v) Z' (.eff i Z Z'::ds):=by
 show ob (GD (Co P fr Z t x ix ok)) (fun r=>l9 P call all _ l i fr Z ds r d)=_;cases Co P fr Z t x ix ok with
 |none=>rfl
 |some r=>cases r;rfl
def Ks {t:TypeId}{k:Operand}:opsV P call all (⟨d,.mapUpdate t m k x,ty,ps,af,none⟩::l) fr Z=ob (Y4 P fr Z t m k x) fun r=>pr r fun v Z'=>opsV P call all l (G5 fr d v) Z':=by
 show ob (GD (Y4 P fr Z t m k x)) (fun r=>O4 P call all l fr r d)=_;cases Y4 P fr Z t m k x with
 |none=>rfl
 |some r=>cases r;rfl
def OA {t:Operand}{ix:Nat}:opsV P call all (⟨d,.extract t ix,ty,ps,af,none⟩::l) fr Z=ob (CU fr t ix) fun v=>opsV P call all l (G5 fr d v) Z:=by
 show ob (H9 Z (CU fr t ix)) (fun r=>O4 P call all l fr r d)=_;cases CU fr t ix<;>rfl
def OB {t:Operand}{ix:Nat}:I6 P call all (⟨d,.extract t ix,ty,ps,af,none⟩::l) i fr Z ds=ob (CU fr t ix) fun v=>I6 P call all l (i+1) (G5 fr d v) Z ds:=by
 show ob (H9 Z (CU fr t ix)) (fun r=>l9 P call all _ l i fr Z ds r d)=_;cases CU fr t ix<;>rfl
def eW {ts:Array TypeId}:opsV P call all (⟨d,.call ⟨.builtin .len,as,ts⟩,ty,ps,af,none⟩::l) fr Z=ob (Pp P fr ⟨.builtin .len,as,ts⟩) fun v=>opsV P call all l (G5 fr d v) Z:=by
 show ob (H9 Z (Pp P fr ⟨.builtin .len,as,ts⟩)) (fun r=>O4 P call all l fr r d)=_;cases Pp P fr ⟨.builtin .len,as,ts⟩<;>rfl
def eY {ts:Array TypeId}:I6 P call all (⟨d,.call ⟨.builtin .len,as,ts⟩,ty,ps,af,none⟩::l) i fr Z ds=ob (Pp P fr ⟨.builtin .len,as,ts⟩) fun v=>I6 P call all l (i+1) (G5 fr d v) Z ds:=by
 show ob (H9 Z (Pp P fr ⟨.builtin .len,as,ts⟩)) (fun r=>l9 P call all _ l i fr Z ds r d)=_;cases Pp P fr ⟨.builtin .len,as,ts⟩<;>rfl
def eZ {ts:Array TypeId}:opsV P call all (⟨d,.call ⟨.builtin .max,as,ts⟩,ty,ps,af,none⟩::l) fr Z=ob (pMM fr true ⟨.builtin .max,as,ts⟩) fun v=>opsV P call all l (G5 fr d v) Z:=by
 show ob (H9 Z (pMM fr true ⟨.builtin .max,as,ts⟩)) (fun r=>O4 P call all l fr r d)=_;cases pMM fr true ⟨.builtin .max,as,ts⟩<;>rfl
def ef {ts:Array TypeId}:opsV P call all (⟨d,.call ⟨.builtin .min,as,ts⟩,ty,ps,af,none⟩::l) fr Z=ob (pMM fr false ⟨.builtin .min,as,ts⟩) fun v=>opsV P call all l (G5 fr d v) Z:=by
 show ob (H9 Z (pMM fr false ⟨.builtin .min,as,ts⟩)) (fun r=>O4 P call all l fr r d)=_;cases pMM fr false ⟨.builtin .min,as,ts⟩<;>rfl
def eg {ts:Array TypeId}:I6 P call all (⟨d,.call ⟨.builtin .min,as,ts⟩,ty,ps,af,none⟩::l) i fr Z ds=ob (pMM fr false ⟨.builtin .min,as,ts⟩) fun v=>I6 P call all l (i+1) (G5 fr d v) Z ds:=by
 show ob (H9 Z (pMM fr false ⟨.builtin .min,as,ts⟩)) (fun r=>l9 P call all _ l i fr Z ds r d)=_;cases pMM fr false ⟨.builtin .min,as,ts⟩<;>rfl
def Qh {ts:Array TypeId}:opsV P call all (⟨d,.call ⟨.builtin .append,as,ts⟩,ty,ps,af,none⟩::l) fr Z=ob (Dn P fr Z ⟨.builtin .append,as,ts⟩) fun r=>pr r fun v Z'=>opsV P call all l (G5 fr d v) Z':=by
 show ob (GD (Dn P fr Z ⟨.builtin .append,as,ts⟩)) (fun r=>O4 P call all l fr r d)=_;cases Dn P fr Z ⟨.builtin .append,as,ts⟩with
 |none=>rfl
 |some r=>cases r;rfl
def Qi {ts:Array TypeId}:I6 P call all (⟨d,.call ⟨.builtin .append,as,ts⟩,ty,ps,af,none⟩::l) i fr Z ds=ob (Dn P fr Z ⟨.builtin .append,as,ts⟩) fun r=>pr r fun v Z'=>I6 P call all l (i+1) (G5 fr d v) Z' (.eff i Z Z'::ds):=by
 show ob (GD (Dn P fr Z ⟨.builtin .append,as,ts⟩)) (fun r=>l9 P call all _ l i fr Z ds r d)=_;cases Dn P fr Z ⟨.builtin .append,as,ts⟩with
 |none=>rfl
 |some r=>cases r;rfl
def Xh {s u:TypeId}:opsV P call all (⟨d,.convert s u x,ty,ps,af,none⟩::l) fr Z=ob (orS (asNew Z (GY P fr s u x)) (orS (DU Z (Cm P fr Z s u x)) (H9 Z (Cs P fr ⟨d,.convert s u x,ty,ps,af,none⟩ x)))) fun r=>O4 P call all l fr r d:=rfl
def ow {f:Operand}{ts:Array TypeId}:opsV P call all (⟨d,.call ⟨.value f,as,ts⟩,ty,ps,af,none⟩::l) fr Z=ob (HQ call fr Z ⟨.value f,as,ts⟩ f) fun r=>bi r.pan (some ⟨.pan r.v,fr,r.Z⟩) (opsV P call all l (G5 fr d r.v) r.Z):=by
 show ob (QG (HQ call fr Z ⟨.value f,as,ts⟩ f)) (fun r=>O4 P call all l fr r d)=_;cases HQ call fr Z ⟨.value f,as,ts⟩ f with
 |none=>rfl
 |some r=>obtain⟨p,v,Z1⟩:=r;cases p<;>rfl
def jN:opsV P call all (⟨d,.panic x,ty,ps,af,none⟩::l) fr Z=ob (QM fr Z x) fun r=>O4 P call all l fr r d:=rfl
def Xi {s u:TypeId}:I6 P call all (⟨d,.convert s u x,ty,ps,af,none⟩::l) i fr Z ds=ob (orS (asNew Z (GY P fr s u x)) (orS (DU Z (Cm P fr Z s u x)) (H9 Z (Cs P fr ⟨d,.convert s u x,ty,ps,af,none⟩ x)))) fun r=>l9 P call all (.convert s u x) l i fr Z ds r d:=rfl
def ox {f:Operand}{ts:Array TypeId}:I6 P call all (⟨d,.call ⟨.value f,as,ts⟩,ty,ps,af,none⟩::l) i fr Z ds=ob (HQ call fr Z ⟨.value f,as,ts⟩ f) fun r=>bi r.pan (XQ P call all (.call ⟨.value f,as,ts⟩) l i fr Z r.v r.Z ds) (I6 P call all l (i+1) (G5 fr d r.v) r.Z (.eff i Z r.Z::ds)):=by
 show ob (QG (HQ call fr Z ⟨.value f,as,ts⟩ f)) (fun r=>l9 P call all _ l i fr Z ds r d)=_;cases HQ call fr Z ⟨.value f,as,ts⟩ f with
 |none=>rfl
 |some r=>obtain⟨p,v,Z1⟩:=r;cases p<;>rfl
def vO:opsV P call all [] fr Z=some ⟨.normal,fr,Z⟩:=rfl
def vP:I6 P call all [] i fr Z ds=some ⟨fr,Z,ds,none⟩:=rfl
def Xj:G5 fr (some t) v=fr.set t v:=rfl
def Xk:G5 fr none v=fr:=rfl
end
section
variable {P:Program}{H:EW}{rd:Option Nat}{fr:Fr}{Z:St}
def vQ:lim P H rd .skip fr Z=some ⟨.normal,fr,Z⟩:=Im ..
def vR:lim P H rd (.exit k) fr Z=some ⟨.exit k,fr,Z⟩:=Im ..
def AJ0:lim P H rd .ret fr Z=some ⟨.ret,fr,Z⟩:=Im ..
def AJ1 {a b:Code}:lim P H rd (.seq a b) fr Z=ob (lim P H rd a fr Z) fun r=>AJ r (lim P H rd b):=Im ..
def eQ {a:Code}:lim P H rd (.loop a) fr Z=ob (lim P H rd a fr Z) fun r=>AJ r (lim P H rd (.loop a)):=Im ..
def oy {a:Code}:lim P H rd (.block k a) fr Z=ob (lim P H rd a fr Z) (Fu k):=Im ..
def vS {a b:Code}:lim P H rd (.cond c a b) fr Z=ob (ev fr c) fun v=>ob (bool? v) fun t=>bi t (lim P H rd a fr Z) (lim P H rd b fr Z):=Im ..
def vH {os:Array Oper}(h:FU os.toList=false):lim P H rd (.region k os true) fr Z=drawn os (I6 P (go P H) os os.toList 0 fr Z []):=by
 refine(Im ..).trans ?_;show bi (FU os.toList) _ _=_;rw[h];rfl
def jH:AJ ⟨.normal,fr,Z⟩ next=next fr Z:=rfl
def Uu:AJ ⟨.exit k,fr,Z⟩ next=some ⟨.exit k,fr,Z⟩:=rfl
def ah:AJ ⟨.ret,fr,Z⟩ next=some ⟨.ret,fr,Z⟩:=rfl
def ai:AJ ⟨.pan v,fr,Z⟩ next=some ⟨.pan v,fr,Z⟩:=rfl
def jO:Fu k ⟨.normal,fr,Z⟩=some ⟨.normal,fr,Z⟩:=rfl
def vT {m:Nat}:Fu k ⟨.exit m,fr,Z⟩=if m=k then some ⟨.normal,fr,Z⟩else some ⟨.exit m,fr,Z⟩:=by
 show bi (Nat.beq m k) _ _=_;by_cases h:m=k
 ·subst h;rw[z1z rfl];simp
 ·rw[z0z h];cases hb:Nat.beq m k with
  |true=>exact absurd (AH hb) h
  |false=>rfl
def AJ2:Fu k ⟨.ret,fr,Z⟩=some ⟨.ret,fr,Z⟩:=rfl
def AJ3:Fu k ⟨.pan v,fr,Z⟩=some ⟨.pan v,fr,Z⟩:=rfl
def BA {t:Fr}{m:Nat}:(t.set n v).get m=if m=n then some v else t.get m:=Tr.BA v t n m
def Qj:HZ [] k fr=fr:=rfl
def NW:HZ (v::vs) k fr=HZ vs (k+1) (fr.set k v):=rfl
def jP:(Tr.nil:Fr).get n=none:=rfl
def Ac4 {body:Code}(hH:H g=none) (hf:P.funcs[g]? =some fn) (hb:fn.body=some body):
  go P H (.fn g) vs Z=ob (lim P H none body (HZ vs 0 .nil) Z) fun r=>FJ P fn r:=by
 show Nn P H (lim P H) g vs Z=_;unfold Nn;rw[hH];show ob (P.funcs[g]?) _=_;rw[hf,F8];simp only[hb];rfl
def bA:FJ P fn ⟨.normal,fr,Z⟩=ob (IQ P fr Z fn.results.toList) fun vs=>some ⟨false,tup vs,Z⟩:=rfl
def vU:FJ P fn ⟨.ret,fr,Z⟩=ob (IQ P fr Z fn.results.toList) fun vs=>some ⟨false,tup vs,Z⟩:=rfl
def vV:FJ P fn ⟨.pan v,fr,Z⟩=some ⟨true,v,Z⟩:=rfl
def vW:IQ P fr Z []=some []:=rfl
def vX {l:List ResultVar}:IQ P fr Z (.tmp t::l)=ob (fr.get t) fun v=>ob (IQ P fr Z l) fun vs=>some (v::vs):=rfl
def oz {a:Tmp}{t:TypeId}{l:List ResultVar}:IQ P fr Z (.cell a t::l)=ob (ob (fr.get a) fun p=>OC P Z t p) fun v=>ob (IQ P fr Z l) fun vs=>some (v::vs):=rfl
def AJ4:ev fr (.tmp t)=fr.get t:=rfl
def vY {f:FuncId}:ev fr (.func f)=some (.func (.func f) #[] #[]):=rfl
def AJ5 {k:IntKind}{n:Int}:ev fr (.const (.int k n))=some (.int k n):=rfl
def vZ {b:Bool}:ev fr (.const (.bool b))=some (.bool b):=rfl
def Xl:ev fr (.const .nilIface)=some .nilIface:=rfl
def Xo:ev fr (.const (.slice none 0 0))=some (.slice none 0 0):=rfl
def vd:evs fr []=some []:=rfl
def pA {o:Operand}{l:List Operand}:evs fr (o::l)=ob (ev fr o) fun v=>ob (evs fr l) fun vs=>some (v::vs):=rfl
def vg:tup [v]=v:=rfl
def vh:tup []= .tuple ⟨[]⟩:=rfl
def vi:tup (v::u::vs)= .tuple ⟨v::u::vs⟩:=rfl
def AJ6 {b:Bool}:bool? (.bool b)=some b:=rfl
def Ac5:KR [v]=some v:=rfl
def Ac6:pB [v,u]=some (v,u):=rfl
def Av4 {b o:Nat}:at? (.pointer (some ⟨b,o,none⟩))=some (b,o):=rfl
def Ac7 {k:IntKind}:nat? (.int k (n:Int))=some n:=rfl
def AJ7 {k:IntKind}:nat? (.int k 0)=some 0:=rfl
def Ac8 {c:Array Value}:iY (.agg c)=some c.toList:=rfl
def vj {c:Array Value}:aD (.tuple c)=some c.toList:=rfl
def AJ8 {a b:Array Value}:QL (.func (.func g) a b)=some ⟨.fn g,a.toList,b.toList⟩:=rfl
def Xp {call:W0}{c:Call}{f:Operand}:HQ call fr Z c f=ob (evs fr c.args.toList) fun vs=>ob (ev fr f) fun v=>ob (QL v) fun f=>call f.g (f.first++vs++f.captured) Z:=rfl
end
/- UC. -/
def oo (a b:Nat):Nat.blt a b=decide (a<b):=by
 rw[z7z,DC,z3z]
def Ac9 (a b:Nat):Nat.beq a b=decide (a=b):=by
 rw[z7z,z3z];exact⟨AH,fun h=>by subst h;simp⟩
def JJ (a b:Int):ilt a b=decide (a<b):=by
 rw[z7z,z3z];cases a with
 | ofNat a=>cases b with
   |ofNat b=>simp only[ilt,oo,z3z];exact Int.ofNat_lt.symm
   | negSucc b=>simp only[ilt];constructor
                ·intro h;cases h
                ·intro h;have:=ze b;have:=cz a;simp only[JP]at h;omega
 | negSucc a=>cases b with
   |ofNat b=>simp only[ilt,true_iff];have:=ze a;have:=cz b;simp only[JP];omega
   |negSucc b=>simp only[ilt,oo,z3z];rw[ar,ar];omega
def nM (a b:Int):ieq a b=decide (a=b):=by
 rw[z7z,z3z];cases a with
 | ofNat a=>cases b with
   |ofNat b=>simp only[ieq,Ac9,z3z];exact Int.ofNat_inj.symm
   | negSucc b=>simp only[ieq];constructor
                ·intro h;cases h
                ·intro h;cases h
 | negSucc a=>cases b with
   | ofNat b=>simp only[ieq];constructor
              ·intro h;cases h
              ·intro h;cases h
   |negSucc b=>simp only[ieq,Ac9,z3z];rw[ar,ar];omega
def vI:∀ (a b:List UInt8),Lf a b=decide (a=b):=by
 intro a;induction a with
 |nil=>intro b;cases b<;>simp[Lf]
 | cons x xs ih=>
   intro b;cases b with
   |nil=>simp[Lf]
   | cons y ys=>
     show bi (Nat.beq x.toNat y.toNat) (Lf xs ys) false=_;by_cases h:x=y
     ·subst h;simp[ih]
     ·have:Nat.beq x.toNat y.toNat=false:=by
       cases hb:Nat.beq x.toNat y.toNat with
       |true=>exact absurd (UInt8.toNat_inj.1 (AH hb)) h
       |false=>rfl
      rw[this];simp[h]
end
section
variable {k b:Nat}
def Own (Z:St) (b:Nat) (cs:List Value):Prop:=∃ ver t,Z.h.get b=some ⟨cs,true,true,ver,.row t⟩
structure Ext (Z Z':St):Prop where
 n:Z.n<=Z'.n
 same:∀ b,b<Z.n->Z'.h.get b=Z.h.get b
noncomputable def St.upd (Z:St) (b:Nat) (cs:List Value):St:=⟨Z.h.set b ⟨cs,true,true,Z.ver b+1,.row (Z.typ b)⟩,Z.n⟩
noncomputable def St.dead (Z:St) (b:Nat):St:=⟨Z.h.set b ⟨[],false,true,Z.ver b+1,.row none⟩,Z.n⟩
variable {t:Option TypeId}
@[simp] theorem N8 (Z:St) (cs:List Value):(Z.new cs t).n=Z.n+1:=rfl
@[simp] theorem Po (Z:St) (b:Nat) (cs:List Value):(Z.upd b cs).n=Z.n:=rfl
@[simp] theorem VH (Z:St) (b:Nat):(Z.dead b).n=Z.n:=rfl
theorem EG (Z:St) (cs:List Value) (b:Nat):(Z.new cs t).h.get b=if b=Z.n then some ⟨cs,true,true,0,.row t⟩else Z.h.get b:=Tr.BA _ _ _ _
def Bt (Z:St) (c:Nat) (cs:List Value) (b:Nat):(Z.upd c cs).h.get b=if b=c then some ⟨cs,true,true,Z.ver c+1,.row (Z.typ c)⟩else Z.h.get b:=Tr.BA _ _ _ _
def Jb (Z:St) (c:Nat) (b:Nat):(Z.dead c).h.get b=if b=c then some ⟨[],false,true,Z.ver c+1,.row none⟩else Z.h.get b:=Tr.BA _ _ _ _
def Ext.refl (Z:St):Ext Z Z:=⟨AR _,fun _ _=>rfl⟩
def Ext.trans {Z Z' Z'':St}(h:Ext Z Z') (k:Ext Z' Z''):Ext Z Z'':=⟨X0 h.n k.n,fun b hb=>by rw[k.same b (z5z hb h.n),h.same b hb]⟩
def Ext.new (Z:St) (cs:List Value):Ext Z (Z.new cs t):=⟨Ss _,fun b hb=>by rw[EG,z0z om]⟩
def Ext.upd {Z Z':St}(h:Ext Z Z')(hb:Z.n<=b) (cs:List Value):Ext Z (Z'.upd b cs):=⟨h.n,fun c hc=>by rw[Bt,z0z om,h.same c hc]⟩
def Ext.dead {Z Z':St}(h:Ext Z Z')(hb:Z.n<=b):Ext Z (Z'.dead b):=⟨h.n,fun c hc=>by rw[Jb,z0z om,h.same c hc]⟩
def Ext.AG {Z Z':St}(h:Ext Z Z') (cs:List Value):Ext Z (Z'.new cs t):=h.trans (.new _ _)
def Own.new (Z:St) (cs:List Value):Own (Z.new cs t) Z.n cs:=⟨0,t,by rw[EG,z1z rfl]⟩
def Own.upd (Z:St) (b:Nat) (cs:List Value):Own (Z.upd b cs) b cs:=⟨_,_,by rw[Bt,z1z rfl]⟩
/- Reads and writes, through new blocks and writes. -/
/- qP. -/
def xM {α:Type}(l:List α):sub l 0 l.length=some l:=by rw[V7 om];simp
def xN {α:Type}(l:List α) (n:Nat) (h:n=l.length):sub l 0 n=some l:=by subst h;exact xM l
def bm {α:Type}(l:List α):takeN 0 l=some []:=rfl
def br {α:Type}(n:Nat) (x:α) (l:List α):takeN (n+1) (x::l)=ob (takeN n l) fun r=>some (x::r):=rfl
def HN {α:Type}:∀ (D4:List (List α)),(∀ r∈D4,r.length=k)->D4.flatten.length=D4.length*k:=by
 intro D4;induction D4 with
 |nil=>intro _;simp
 |cons r D4 ih=>intro h;simp[ih (fun r hr=>h r (by simp[hr])),h r (by simp),RX];omega
def VM {α:Type}:∀ (D4:List (List α)) (i:Nat),(∀ r∈D4,r.length=k)->D4.flatten.drop (i*k)=(D4.drop i).flatten:=by
 intro D4;induction D4 with
 |nil=>intro i _;simp
 | cons r D4 ih=>
   intro i h;cases i with
   |zero=>simp
   | succ i=>
     have hr:=h r (by simp);rw[Un,lK];rw[Ti (by rw[hr,RX];omega),Mz,hr,show(i+1)*k-k=i*k from by rw[RX];omega,ih i (fun r hr=>h r (by simp[hr]))];rfl
def Pf {α:Type}{D4:List (List α)}(h:∀ r∈D4,r.length=k){i:Nat}{r:List α}(hi:D4[i]? =some r){o n:Nat}(ho:o+n<=k):sub D4.flatten (i*k+o) n=sub r o n:=by
 obtain⟨hlt,he⟩:=List.getElem?_eq_some_iff.1 hi;have hr:r.length=k:=h r (by rw[<- he];exact List.getElem_mem hlt);have hlen:(D4.length-i)*k<=D4.length*k-i*k:=by rw[Nat.sub_mul];exact AR _
 have h1:i*k+k<=D4.length*k:=by
  have:(i+1)*k<=D4.length*k:=UJ k hlt;rw[RX]at this;exact this
 rw[V7 (by rw[HN D4 h];omega),V7 om];rw[<- Kz,VM D4 i h,LW hlt,he,Un,lK,List.take_append];rw[show n-(r.drop o).length=0 from by rw[Ei];omega];simp
end
section
variable {n m:Nat}{a:Option Addr}{c b:Bool}{l:List Oper}
universe q
structure Hd {α:Sort q}(a:α):Type where
def Ev {α:Type}(x:Option α) (Q:α->Prop) (_u:Hd Q):Prop:=∃ a,x=some a/\Q a
def Ar (c:Bool) (A:Prop) (_u:Hd A):Prop:=c=true/\A
def Br (c:Bool) (A B:Prop) (_u:Hd fun x:Bool=>cond x A B):Prop:=(c=true->A)/\(c=false->B)
def Ev.mono {α:Type}{x:Option α}{Q R:α->Prop}{u:Hd Q}{v:Hd R}(h:Ev x R v) (k:∀ a,R a->Q a):Ev x Q u:=let ⟨a,h1,h2⟩:=h;⟨a,h1,k a h2⟩
def J7 {α:Type}{a:α}{Q:α->Prop}{u:Hd Q}:Ev (some a) Q u=Q a:=propext ⟨fun⟨b,h1,h2⟩=>by cases h1;exact h2,fun h=>⟨a,rfl,h⟩⟩
def D7 {α β:Type}{x:Option α}{f:α->Option β}{Q:β->Prop}{u:Hd Q}:Ev (ob x f) Q u=Ev x (fun a=>Ev (f a) Q ⟨⟩) ⟨⟩:=propext ⟨fun⟨b,h1,h2⟩=>by
 obtain⟨a,h3,h4⟩:=A5 h1;exact⟨a,h3,b,h4,h2⟩,fun⟨a,h1,b,h2,h3⟩=>⟨b,by rw[h1];exact h2,h3⟩⟩
def eP {β:Type}{x:Option β}{Q:β->Prop}{u:Hd Q}:Ev (bb c x) Q u=Ar c (Ev x Q ⟨⟩) ⟨⟩:=propext ⟨fun⟨b,h1,h2⟩=>by
 obtain⟨h3,h4⟩:=H3 h1;exact⟨h3,b,h4,h2⟩,fun⟨h1,b,h2,h3⟩=>⟨b,by rw[h1];exact h2,h3⟩⟩
def QV {β:Type}{x y:Option β}{Q:β->Prop}{u:Hd Q}:Ev (bi c x y) Q u=Br c (Ev x Q ⟨⟩) (Ev y Q ⟨⟩) ⟨⟩:=by
 cases c with
 |true=>exact propext ⟨fun h=>⟨fun _=>h,fun h=>by cases h⟩,fun h=>h.1 rfl⟩
 |false=>exact propext ⟨fun h=>⟨fun h=>(by cases h),fun _=>h⟩,fun h=>h.2 rfl⟩
def AI8 {β:Type}{c:Prop} [Decidable c] {x y:Option β}{Q:β->Prop}{u:Hd Q}:Ev (if c then x else y) Q u=Br (decide c) (Ev x Q ⟨⟩) (Ev y Q ⟨⟩) ⟨⟩:=by
 by_cases h:c
 ·rw[z1z h];exact propext ⟨fun k=>⟨fun _=>k,fun g=>by simp[h]at g⟩,fun k=>k.1 (by simp[h])⟩
 ·rw[z0z h];exact propext ⟨fun k=>⟨fun g=>by simp[h]at g,fun _=>k⟩,fun k=>k.2 (by simp[h])⟩
def TI {A:Prop}{u:Hd A}:Ar true A u=A:=propext ⟨fun h=>h.2,fun h=>⟨rfl,h⟩⟩
def eN {A B:Prop}{u:Hd fun x:Bool=>cond x A B}:Br true A B u=A:=propext ⟨fun h=>h.1 rfl,fun h=>⟨fun _=>h,fun h=>by cases h⟩⟩
def XO {A B:Prop}{u:Hd fun x:Bool=>cond x A B}:Br false A B u=B:=propext ⟨fun h=>h.2 rfl,fun h=>⟨fun h=>(by cases h),fun _=>h⟩⟩
def Br.intro {A B:Prop}{u:Hd fun x:Bool=>cond x A B}(h:c=true->A) (k:c=false->B):Br c A B u:=⟨h,k⟩
def Ar.intro {A:Prop}{u:Hd A}(h:c=true) (k:A):Ar c A u:=⟨h,k⟩
section
variable {P:Program}{H:EW}{rd:Option Nat}{fr:Fr}{Z:St}
def LP (I:Nat->Fr->St->Prop) (R:Res->Prop) (n:Nat) (r:Res):Prop:=match r.o with
 | .normal=>∃ m,m<n/\I m r.fr r.Z
 |_=>R r
def H6 {I:Nat->Fr->St->Prop}{R:Res->Prop}:LP I R n ⟨.normal,fr,Z⟩=∃ m,m<n/\I m fr Z:=rfl
def Q9 {I:Nat->Fr->St->Prop}{R:Res->Prop}{k:Nat}:LP I R n ⟨.exit k,fr,Z⟩=R ⟨.exit k,fr,Z⟩:=rfl
def NL {I:Nat->Fr->St->Prop}{R:Res->Prop}:LP I R n ⟨.ret,fr,Z⟩=R ⟨.ret,fr,Z⟩:=rfl
def V9 {body:Code}{Q:Res->Prop}{u:Hd Q}(I:Nat->Fr->St->Prop) (R:Res->Prop) (n:Nat) (h0:I n fr Z) (hs:∀ n fr Z,I n fr Z->Ev (lim P H rd body fr Z) (LP I R n) ⟨⟩) (hR:∀ r,R r->Q r):
  Ev (lim P H rd (.loop body) fr Z) Q u:=by
 have key:∀ n,∀ m,m<=n->∀ fr Z,I m fr Z->Ev (lim P H rd (.loop body) fr Z) R ⟨⟩:=by
  intro n;induction n with
  | zero=>
    intro m hm fr Z h;rw[eQ,D7];refine(hs m fr Z h).mono ?_;rintro⟨o,fr',Z'⟩ hq;cases o with
    |normal=>obtain⟨k,hk,_⟩:=hq;omega
    |exit i=>rw[Uu,J7];exact hq
    |ret=>rw[ah,J7];exact hq
    |pan v=>rw[ai,J7];exact hq
  | succ n ih=>
    intro m hm fr Z h;rw[eQ,D7];refine(hs m fr Z h).mono ?_;rintro⟨o,fr',Z'⟩ hq;cases o with
    |normal=>obtain⟨k,hk,hi⟩:=hq;rw[jH];exact ih k om fr' Z' hi
    |exit i=>rw[Uu,J7];exact hq
    |ret=>rw[ah,J7];exact hq
    |pan v=>rw[ai,J7];exact hq
 exact(key n n nL fr Z h0).mono hR
def aj {k:Nat}:lim P H rd (.region k l.toArray false) fr Z=opsV P (go P H) l.toArray l fr Z:=Im ..
structure Uv (l:List Oper):Prop where
 no:FU l=false
def oh {k:Nat}(h:Uv l):lim P H rd (.region k l.toArray true) fr Z=drawn l.toArray (I6 P (go P H) l.toArray l 0 fr Z []):=vH h.no
def toArray_toList {α:Type}{l:List α}:l.toArray.toList=l:=rfl
/- Operations on values. -/
section
variable {x y:Operand}{o:Oper}{t u:TypeId}{k:IntKind}
def AI9 {c:Callee}:Pp P fr ⟨c,#[x],#[t]⟩=ob (ev fr x) fun v=>ob (mz (P.underlying t) v) fun n=>some (.int .i64 n):=by
 show ob (ob (ev fr x) fun v=>ob (some []) fun vs=>some (v::vs)) _=_;cases ev fr x<;>rfl
def jI {e:TypeId}{c:Nat}:mz (some (.slice e)) (.slice a n c)=some n:=rfl
def Sn (a b:ByteArray):Lf a.data.toList b.data.toList=decide (a=b):=by
 rw[vI];by_cases h:a=b
 ·subst h;simp
 ·rw[z4z h,z4z];intro e;apply h;obtain⟨⟨a⟩⟩:=a;obtain⟨⟨b⟩⟩:=b;exact congrArg (fun l=>(⟨⟨l⟩⟩:ByteArray)) e
def vJ {n:Int}(h1: -9223372036854775808<=n) (h2:n<=9223372036854775807):Gl .i64 n=n:=by
 unfold Gl;have:inR .i64 n=true:=by
  cases n with
  |ofNat m=>simp only[inR,oo,z3z];simp only[JP]at h2;omega
  |negSucc m=>simp only[inR,oo,z3z];rw[ar]at h1;omega
 rw[this];rfl
def JY (n:Nat):((n:Int)+1)=((n+1:Nat):Int):=rfl
def IY (a b:Nat):decide ((a:Int)<(b:Int))=decide (a<b):=sI
def jJ {l:List Value}:G6 (.agg ⟨l⟩)=l:=rfl
def jK {n:Int}:G6 (.int k n)=[.int k n]:=rfl
def au:G6 (.bool b)=[.bool b]:=rfl
def XP {c:Nat}:G6 (.slice a n c)=[.slice a n c]:=rfl
def jL:G6 (.pointer a)=[.pointer a]:=rfl
def av {f:Fn}{a b:Array Value}:G6 (.func f a b)=[.func f a b]:=rfl
def vK {l:Array Value}:EZ (.agg l)=false:=rfl
def vL {n:Int}:EZ (.int k n)=false:=rfl
def oq:EZ (.bool b)=false:=rfl
def jM {c:Nat}:EZ (.slice a n c)=false:=rfl
def vM:EZ (.pointer a)=false:=rfl
def ot {f:Fn}{a b:Array Value}:EZ (.func f a b)=false:=rfl
def Oe (h:n=m):n.beq m=true:=by subst h;simp
def ay (h:n<m):Nat.blt n m=true:=by rw[oo];simpa using h
def JK (h:n<=m):Nat.ble n m=true:=yz h
end
end
def az {α:Type}{l new:List α}(h:new.length=l.length):I7 l 0 new=some new:=by
 have key:∀ (new l:List α),new.length=l.length->over new l=some new:=by
  intro new;induction new with
  | nil=>intro l h;cases l with
    |nil=>rfl
    |cons=>simp at h
  | cons x xs ih=>
    intro l h;cases l with
    |nil=>simp at h
    | cons y ys=>
      show ob (over xs ys) _=_;rw[ih ys (by simpa using h)];rfl
 exact key new l h
end
section
variable {x a ix c b m y t:Operand}{as fs cs:Array Operand}{k f n:Nat}{next:Fr->St->Option Res}{g:Nat×Bool}{v:Value}{fn:Func}{lo hi mx:Option Operand}{ok:Bool}
section
variable {P:Program}{H:EW}{call:W0}{all:Array Oper}{l:List Oper}{fr:Fr}{Z:St}{d:Option Tmp}{ty:TypeId}{ps:String}{af:Array Edge}{i:Nat}{ds:List Trace}{rd:Option Nat}
def xY {op:Op}:I6 P call all (⟨d,op,ty,ps,af,some g⟩::l) i fr Z ds=ob (V0 all fr ⟨d,op,ty,ps,af,some g⟩) fun c=>bi c (I6 P call all (⟨d,op,ty,ps,af,none⟩::l) i fr Z ds) (I6 P call all l (i+1) (G5 fr d Q8) Z ds):=by
 show ob _ _=_;cases hx:V0 all fr ⟨d,op,ty,ps,af,some g⟩with
 |none=>rfl
 |some c=>cases op<;>(cases c<;>rfl)
def Ae6 {α β γ:Type}{a:α}{b:β}{f:α->β->Option γ}{Q:γ->Prop}{uq:Hd Q}:Ev (pr (a,b) f) Q uq=Ev (f a b) Q ⟨⟩:=rfl
def pq {Q:Res->Prop}{uq:Hd Q}:Ev (opsV P call all (⟨d,.move x,ty,ps,af,none⟩::l) fr Z) Q uq=Ev (ev fr x) (fun v=>Ev (opsV P call all l (G5 fr d v) Z) Q ⟨⟩) ⟨⟩:=by first|(rw[XR,D7];done)|(rw[XR,D7];rfl)
def bV {Q:Res->Prop}{uq:Hd Q}:Ev (opsV P call all (⟨d,.assign x,ty,ps,af,none⟩::l) fr Z) Q uq=Ev (ev fr x) (fun v=>Ev (opsV P call all l (G5 fr d v) Z) Q ⟨⟩) ⟨⟩:=by first|(rw[QW,D7];done)|(rw[QW,D7];rfl)
def pt {Q:Res->Prop}{uq:Hd Q}:Ev (opsV P call all (⟨d,.pick c a b,ty,ps,af,none⟩::l) fr Z) Q uq=Ev (Je fr c a b) (fun v=>Ev (opsV P call all l (G5 fr d v) Z) Q ⟨⟩) ⟨⟩:=by first|(rw[XU,D7];done)|(rw[XU,D7];rfl)
def ji {t:TypeId}{Q:Res->Prop}{uq:Hd Q}:Ev (opsV P call all (⟨d,.alloc t,ty,ps,af,none⟩::l) fr Z) Q uq=Ev (AV P t) (fun r=>Ev (opsV P call all l (G5 fr d (r.2 Z.n)) (Z.new r.1 (some t))) Q ⟨⟩) ⟨⟩:=by first|(rw[TJ,D7];done)|(rw[TJ,D7];rfl)
def wQ {t:TypeId}{Q:Res->Prop}{uq:Hd Q}:Ev (opsV P call all (⟨d,.box t x,ty,ps,af,none⟩::l) fr Z) Q uq=Ev (Za fr x) (fun r=>Ev (opsV P call all l (G5 fr d (r.2 Z.n)) (Z.new r.1)) Q ⟨⟩) ⟨⟩:=by first|(rw[eR,D7];done)|(rw[eR,D7];rfl)
def jl {t:TypeId}{parts:Array (Nat×Operand)}{Q:Res->Prop}{uq:Hd Q}:Ev (opsV P call all (⟨d,.build t parts,ty,ps,af,none⟩::l) fr Z) Q uq=Ev (Fp P fr t parts) (fun v=>Ev (opsV P call all l (G5 fr d v) Z) Q ⟨⟩) ⟨⟩:=by first|(rw[TL,D7];done)|(rw[TL,D7];rfl)
def Ji {t:TypeId}{parts:Array (Nat×Operand)}{Q:Res->Prop}{uq:Hd Q}:Ev (opsV P call all (⟨d,.buildSlice t n parts,ty,ps,af,none⟩::l) fr Z) Q uq=Ev (Fq P fr t n parts) (fun r=>Ev (opsV P call all l (G5 fr d (r.2 Z.n)) (Z.new r.1)) Q ⟨⟩) ⟨⟩:=by first|(rw[Jo,D7];done)|(rw[Jo,D7];rfl)
def bZ {t:TypeId}{k:Operand}{Q:Res->Prop}{uq:Hd Q}:Ev (opsV P call all (⟨d,.insert t m k x,ty,ps,af,none⟩::l) fr Z) Q uq=Ev (Y4 P fr Z t m k x) (fun r=>Ev (opsV P call all l (G5 fr d r.1) r.2) Q ⟨⟩) ⟨⟩:=by first|(rw[QY,D7];done)|(rw[QY,D7];rfl)
def pv {t:TypeId}{Q:Res->Prop}{uq:Hd Q}:Ev (opsV P call all (⟨d,.load t a,ty,ps,af,none⟩::l) fr Z) Q uq=Ev (Hw P fr Z t a) (fun r=>Ev (opsV P call all l (G5 fr d r.1) Z) Q ⟨⟩) ⟨⟩:=by first|(rw[XW,D7];done)|(rw[XW,D7];rfl)
def jm {t:TypeId}{v:Operand}{Q:Res->Prop}{uq:Hd Q}:Ev (opsV P call all (⟨d,.store t a v,ty,ps,af,none⟩::l) fr Z) Q uq=Ev (Gq P fr Z t a v) (fun r=>Ev (opsV P call all l (G5 fr d r.1) r.2) Q ⟨⟩) ⟨⟩:=by first|(rw[TN,D7];done)|(rw[TN,D7];rfl)
def VE {Q:Res->Prop}{uq:Hd Q}:Ev (opsV P call all (⟨d,.nilCheck x,ty,ps,af,none⟩::l) fr Z) Q uq=Ev (BW fr x) (fun v=>Ev (opsV P call all l (G5 fr d v) Z) Q ⟨⟩) ⟨⟩:=by first|(rw[Ma,D7];done)|(rw[Ma,D7];rfl)
def wR {b:BinOp}{t u:TypeId}{Q:Res->Prop}{uq:Hd Q}:Ev (opsV P call all (⟨d,.binOp b t x y u,ty,ps,af,none⟩::l) fr Z) Q uq=Ev (Pu P fr ⟨d,.binOp b t x y u,ty,ps,af,none⟩ b t x y) (fun v=>Ev (opsV P call all l (G5 fr d v) Z) Q ⟨⟩) ⟨⟩:=by first|(rw[eU,D7];done)|(rw[eU,D7];rfl)
def AM9 {b:UnOp}{t:TypeId}{Q:Res->Prop}{uq:Hd Q}:Ev (opsV P call all (⟨d,.unOp b t x,ty,ps,af,none⟩::l) fr Z) Q uq=Ev (Cs P fr ⟨d,.unOp b t x,ty,ps,af,none⟩ x) (fun v=>Ev (opsV P call all l (G5 fr d v) Z) Q ⟨⟩) ⟨⟩:=by first|(rw[ou,D7];done)|(rw[ou,D7];rfl)
def jn {t:TypeId}{Q:Res->Prop}{uq:Hd Q}:Ev (opsV P call all (⟨d,.makeInterface t x,ty,ps,af,none⟩::l) fr Z) Q uq=Ev (La P fr t x) (fun v=>Ev (opsV P call all l (G5 fr d v) Z) Q ⟨⟩) ⟨⟩:=by first|(rw[TP,D7];done)|(rw[TP,D7];rfl)
def pw {fn:Fn}{Q:Res->Prop}{uq:Hd Q}:Ev (opsV P call all (⟨d,.makeFunc fn fs cs,ty,ps,af,none⟩::l) fr Z) Q uq=Ev (Jg fr fn fs cs) (fun v=>Ev (opsV P call all l (G5 fr d v) Z) Q ⟨⟩) ⟨⟩:=by first|(rw[XZ,D7];done)|(rw[XZ,D7];rfl)
def YH {t:TypeId}{r:Option Operand}{Q:Res->Prop}{uq:Hd Q}:Ev (opsV P call all (⟨d,.makeMap t r,ty,ps,af,none⟩::l) fr Z) Q uq=Ev (Fc fr Z r) (fun r=>Ev (opsV P call all l (G5 fr d r.1) r.2) Q ⟨⟩) ⟨⟩:=by first|(rw[Nz,D7];done)|(rw[Nz,D7];rfl)
def Rr {t:TypeId}{n:Operand}{Q:Res->Prop}{uq:Hd Q}:Ev (opsV P call all (⟨d,.makeSlice t n c,ty,ps,af,none⟩::l) fr Z) Q uq=Ev (PA P fr t n c) (fun r=>Ev (opsV P call all l (G5 fr d (r.2 Z.n)) (Z.new r.1)) Q ⟨⟩) ⟨⟩:=by first|(rw[Km,D7];done)|(rw[Km,D7];rfl)
def jo {t:TypeId}{Q:Res->Prop}{uq:Hd Q}:Ev (opsV P call all (⟨d,.slice t x lo hi mx,ty,ps,af,none⟩::l) fr Z) Q uq=Ev (Gj P fr t x lo hi mx) (fun v=>Ev (opsV P call all l (G5 fr d v) Z) Q ⟨⟩) ⟨⟩:=by first|(rw[TQ,D7];done)|(rw[TQ,D7];rfl)
def Rt {s:TypeId}{Q:Res->Prop}{uq:Hd Q}:Ev (opsV P call all (⟨d,.fieldAddr s x f,ty,ps,af,none⟩::l) fr Z) Q uq=Ev (AE P fr s x f) (fun v=>Ev (opsV P call all l (G5 fr d v) Z) Q ⟨⟩) ⟨⟩:=by first|(rw[Kn,D7];done)|(rw[Kn,D7];rfl)
def jq {s:TypeId}{Q:Res->Prop}{uq:Hd Q}:Ev (opsV P call all (⟨d,.field s x f,ty,ps,af,none⟩::l) fr Z) Q uq=Ev (Fy P fr s x f) (fun v=>Ev (opsV P call all l (G5 fr d v) Z) Q ⟨⟩) ⟨⟩:=by first|(rw[TS,D7];done)|(rw[TS,D7];rfl)
def Ru {t:TypeId}{Q:Res->Prop}{uq:Hd Q}:Ev (opsV P call all (⟨d,.indexAddr t x ix,ty,ps,af,none⟩::l) fr Z) Q uq=Ev (Aa P fr t x ix) (fun v=>Ev (opsV P call all l (G5 fr d v) Z) Q ⟨⟩) ⟨⟩:=by first|(rw[Kq,D7];done)|(rw[Kq,D7];rfl)
def jr {t:TypeId}{Q:Res->Prop}{uq:Hd Q}:Ev (opsV P call all (⟨d,.index t x ix,ty,ps,af,none⟩::l) fr Z) Q uq=Ev (Lc P fr t x ix) (fun v=>Ev (opsV P call all l (G5 fr d v) Z) Q ⟨⟩) ⟨⟩:=by first|(rw[TU,D7];done)|(rw[TU,D7];rfl)
def bd {t:TypeId}{Q:Res->Prop}{uq:Hd Q}:Ev (opsV P call all (⟨d,.lookup t x ix ok,ty,ps,af,none⟩::l) fr Z) Q uq=Ev (Co P fr Z t x ix ok) (fun r=>Ev (opsV P call all l (G5 fr d r.1) r.2) Q ⟨⟩) ⟨⟩:=by first|(rw[QZ,D7];done)|(rw[QZ,D7];rfl)
def Rv {t:TypeId}{k:Operand}{Q:Res->Prop}{uq:Hd Q}:Ev (opsV P call all (⟨d,.mapUpdate t m k x,ty,ps,af,none⟩::l) fr Z) Q uq=Ev (Y4 P fr Z t m k x) (fun r=>Ev (opsV P call all l (G5 fr d r.1) r.2) Q ⟨⟩) ⟨⟩:=by first|(rw[Ks,D7];done)|(rw[Ks,D7];rfl)
def YI {ix:Nat}{Q:Res->Prop}{uq:Hd Q}:Ev (opsV P call all (⟨d,.extract t ix,ty,ps,af,none⟩::l) fr Z) Q uq=Ev (CU fr t ix) (fun v=>Ev (opsV P call all l (G5 fr d v) Z) Q ⟨⟩) ⟨⟩:=by first|(rw[OA,D7];done)|(rw[OA,D7];rfl)
def wT {ts:Array TypeId}{Q:Res->Prop}{uq:Hd Q}:Ev (opsV P call all (⟨d,.call ⟨.builtin .len,as,ts⟩,ty,ps,af,none⟩::l) fr Z) Q uq=Ev (Pp P fr ⟨.builtin .len,as,ts⟩) (fun v=>Ev (opsV P call all l (G5 fr d v) Z) Q ⟨⟩) ⟨⟩:=by first|(rw[eW,D7];done)|(rw[eW,D7];rfl)
def wU {ts:Array TypeId}{Q:Res->Prop}{uq:Hd Q}:Ev (opsV P call all (⟨d,.call ⟨.builtin .max,as,ts⟩,ty,ps,af,none⟩::l) fr Z) Q uq=Ev (pMM fr true ⟨.builtin .max,as,ts⟩) (fun v=>Ev (opsV P call all l (G5 fr d v) Z) Q ⟨⟩) ⟨⟩:=by first|(rw[eZ,D7];done)|(rw[eZ,D7];rfl)
def wV {ts:Array TypeId}{Q:Res->Prop}{uq:Hd Q}:Ev (opsV P call all (⟨d,.call ⟨.builtin .min,as,ts⟩,ty,ps,af,none⟩::l) fr Z) Q uq=Ev (pMM fr false ⟨.builtin .min,as,ts⟩) (fun v=>Ev (opsV P call all l (G5 fr d v) Z) Q ⟨⟩) ⟨⟩:=by first|(rw[ef,D7];done)|(rw[ef,D7];rfl)
def bf {ts:Array TypeId}{Q:Res->Prop}{uq:Hd Q}:Ev (opsV P call all (⟨d,.call ⟨.builtin .append,as,ts⟩,ty,ps,af,none⟩::l) fr Z) Q uq=Ev (Dn P fr Z ⟨.builtin .append,as,ts⟩) (fun r=>Ev (opsV P call all l (G5 fr d r.1) r.2) Q ⟨⟩) ⟨⟩:=by first|(rw[Qh,D7];done)|(rw[Qh,D7];rfl)
def px {f:Operand}{ts:Array TypeId}{Q:Res->Prop}{uq:Hd Q}:Ev (opsV P call all (⟨d,.call ⟨.value f,as,ts⟩,ty,ps,af,none⟩::l) fr Z) Q uq =
  Ev (evs fr as.toList) (fun vs=>Ev (ev fr f) (fun v=>Ev (QL v) (fun F=>Ev (call F.g (F.first++vs++F.captured) Z) (fun r=>Br r.pan (Q ⟨.pan r.v,fr,r.Z⟩) (Ev (opsV P call all l (G5 fr d r.v) r.Z) Q ⟨⟩) ⟨⟩) ⟨⟩) ⟨⟩) ⟨⟩) ⟨⟩:=by
 rw[ow,Xp,D7,D7];refine congrArg (fun z=>Ev _ z ⟨⟩) (funext fun vs=>?_);rw[D7];refine congrArg (fun z=>Ev _ z ⟨⟩) (funext fun v=>?_);rw[D7];refine congrArg (fun z=>Ev _ z ⟨⟩) (funext fun F=>?_);refine congrArg (fun z=>Ev _ z ⟨⟩) (funext fun r=>?_);rw[QV,J7]
def Wn {s t:TypeId}{Q:Res->Prop}{uq:Hd Q}:Ev (opsV P call all (⟨d,.convert s t x,ty,ps,af,none⟩::l) fr Z) Q uq =
  Ev (orS (asNew Z (GY P fr s t x)) (orS (DU Z (Cm P fr Z s t x)) (H9 Z (Cs P fr ⟨d,.convert s t x,ty,ps,af,none⟩ x)))) (fun r=>Ev (O4 P call all l fr r d) Q ⟨⟩) ⟨⟩:=by rw[Xh,D7]
def js {Q:Res->Prop}{uq:Hd Q}:Ev (opsV P call all (⟨d,.panic x,ty,ps,af,none⟩::l) fr Z) Q uq=Ev (QM fr Z x) (fun r=>Ev (O4 P call all l fr r d) Q ⟨⟩) ⟨⟩:=by rw[jN,D7]
def AN0 {op:Op}{Q:Res->Prop}{uq:Hd Q}:Ev (opsV P call all (⟨d,op,ty,ps,af,some g⟩::l) fr Z) Q uq=Ev (V0 all fr ⟨d,op,ty,ps,af,some g⟩) (fun c=>Br c (Ev (opsV P call all (⟨d,op,ty,ps,af,none⟩::l) fr Z) Q ⟨⟩) (Ev (opsV P call all l (G5 fr d Q8) Z) Q ⟨⟩) ⟨⟩) ⟨⟩:=by
 rw[vN,D7];refine congrArg (fun z=>Ev _ z ⟨⟩) (funext fun c=>?_);rw[QV]
def py {Q:FST->Prop}{uq:Hd Q}:Ev (I6 P call all (⟨d,.move x,ty,ps,af,none⟩::l) i fr Z ds) Q uq=Ev (ev fr x) (fun v=>Ev (I6 P call all l (i+1) (G5 fr d v) Z ds) Q ⟨⟩) ⟨⟩:=by first|(rw[XT,D7];done)|(rw[XT,D7];rfl)
def bg {Q:FST->Prop}{uq:Hd Q}:Ev (I6 P call all (⟨d,.assign x,ty,ps,af,none⟩::l) i fr Z ds) Q uq=Ev (ev fr x) (fun v=>Ev (I6 P call all l (i+1) (G5 fr d v) Z ds) Q ⟨⟩) ⟨⟩:=by first|(rw[QX,D7];done)|(rw[QX,D7];rfl)
def pz {Q:FST->Prop}{uq:Hd Q}:Ev (I6 P call all (⟨d,.pick c a b,ty,ps,af,none⟩::l) i fr Z ds) Q uq=Ev (Je fr c a b) (fun v=>Ev (I6 P call all l (i+1) (G5 fr d v) Z ds) Q ⟨⟩) ⟨⟩:=by first|(rw[XV,D7];done)|(rw[XV,D7];rfl)
def jt {t:TypeId}{Q:FST->Prop}{uq:Hd Q}:Ev (I6 P call all (⟨d,.alloc t,ty,ps,af,none⟩::l) i fr Z ds) Q uq=Ev (AV P t) (fun r=>Ev (I6 P call all l (i+1) (G5 fr d (r.2 Z.n)) (Z.new r.1 (some t)) ds) Q ⟨⟩) ⟨⟩:=by first|(rw[TK,D7];done)|(rw[TK,D7];rfl)
def ju {t:TypeId}{parts:Array (Nat×Operand)}{Q:FST->Prop}{uq:Hd Q}:Ev (I6 P call all (⟨d,.build t parts,ty,ps,af,none⟩::l) i fr Z ds) Q uq=Ev (Fp P fr t parts) (fun v=>Ev (I6 P call all l (i+1) (G5 fr d v) Z ds) Q ⟨⟩) ⟨⟩:=by first|(rw[TM,D7];done)|(rw[TM,D7];rfl)
def Qt {t:TypeId}{parts:Array (Nat×Operand)}{Q:FST->Prop}{uq:Hd Q}:Ev (I6 P call all (⟨d,.buildSlice t n parts,ty,ps,af,none⟩::l) i fr Z ds) Q uq=Ev (Fq P fr t n parts) (fun r=>Ev (I6 P call all l (i+1) (G5 fr d (r.2 Z.n)) (Z.new r.1) ds) Q ⟨⟩) ⟨⟩:=by first|(rw[Jp,D7];done)|(rw[Jp,D7];rfl)
def qA {t:TypeId}{Q:FST->Prop}{uq:Hd Q}:Ev (I6 P call all (⟨d,.load t a,ty,ps,af,none⟩::l) i fr Z ds) Q uq=Ev (Hw P fr Z t a) (fun r=>Ev (I6 P call all l (i+1) (G5 fr d r.1) Z (.read i r.2::ds)) Q ⟨⟩) ⟨⟩:=by first|(rw[XY,D7];done)|(rw[XY,D7];rfl)
def jv {t:TypeId}{v:Operand}{Q:FST->Prop}{uq:Hd Q}:Ev (I6 P call all (⟨d,.store t a v,ty,ps,af,none⟩::l) i fr Z ds) Q uq=Ev (Gq P fr Z t a v) (fun r=>Ev (I6 P call all l (i+1) (G5 fr d r.1) r.2 (.eff i Z r.2::ds)) Q ⟨⟩) ⟨⟩:=by first|(rw[TO,D7];done)|(rw[TO,D7];rfl)
def VF {Q:FST->Prop}{uq:Hd Q}:Ev (I6 P call all (⟨d,.nilCheck x,ty,ps,af,none⟩::l) i fr Z ds) Q uq=Ev (BW fr x) (fun v=>Ev (I6 P call all l (i+1) (G5 fr d v) Z ds) Q ⟨⟩) ⟨⟩:=by first|(rw[Mb,D7];done)|(rw[Mb,D7];rfl)
def wW {b:BinOp}{t u:TypeId}{Q:FST->Prop}{uq:Hd Q}:Ev (I6 P call all (⟨d,.binOp b t x y u,ty,ps,af,none⟩::l) i fr Z ds) Q uq=Ev (Pu P fr ⟨d,.binOp b t x y u,ty,ps,af,none⟩ b t x y) (fun v=>Ev (I6 P call all l (i+1) (G5 fr d v) Z ds) Q ⟨⟩) ⟨⟩:=by first|(rw[eV,D7];done)|(rw[eV,D7];rfl)
def AN1 {b:UnOp}{t:TypeId}{Q:FST->Prop}{uq:Hd Q}:Ev (I6 P call all (⟨d,.unOp b t x,ty,ps,af,none⟩::l) i fr Z ds) Q uq=Ev (Cs P fr ⟨d,.unOp b t x,ty,ps,af,none⟩ x) (fun v=>Ev (I6 P call all l (i+1) (G5 fr d v) Z ds) Q ⟨⟩) ⟨⟩:=by first|(rw[ov,D7];done)|(rw[ov,D7];rfl)
def qB {fn:Fn}{Q:FST->Prop}{uq:Hd Q}:Ev (I6 P call all (⟨d,.makeFunc fn fs cs,ty,ps,af,none⟩::l) i fr Z ds) Q uq=Ev (Jg fr fn fs cs) (fun v=>Ev (I6 P call all l (i+1) (G5 fr d v) Z ds) Q ⟨⟩) ⟨⟩:=by first|(rw[Xg,D7];done)|(rw[Xg,D7];rfl)
def jw {t:TypeId}{Q:FST->Prop}{uq:Hd Q}:Ev (I6 P call all (⟨d,.slice t x lo hi mx,ty,ps,af,none⟩::l) i fr Z ds) Q uq=Ev (Gj P fr t x lo hi mx) (fun v=>Ev (I6 P call all l (i+1) (G5 fr d v) Z ds) Q ⟨⟩) ⟨⟩:=by first|(rw[TR,D7];done)|(rw[TR,D7];rfl)
def Rx {s:TypeId}{Q:FST->Prop}{uq:Hd Q}:Ev (I6 P call all (⟨d,.fieldAddr s x f,ty,ps,af,none⟩::l) i fr Z ds) Q uq=Ev (AE P fr s x f) (fun v=>Ev (I6 P call all l (i+1) (G5 fr d v) Z ds) Q ⟨⟩) ⟨⟩:=by first|(rw[Ko,D7];done)|(rw[Ko,D7];rfl)
def jx {s:TypeId}{Q:FST->Prop}{uq:Hd Q}:Ev (I6 P call all (⟨d,.field s x f,ty,ps,af,none⟩::l) i fr Z ds) Q uq=Ev (Fy P fr s x f) (fun v=>Ev (I6 P call all l (i+1) (G5 fr d v) Z ds) Q ⟨⟩) ⟨⟩:=by first|(rw[TT,D7];done)|(rw[TT,D7];rfl)
def Ry {t:TypeId}{Q:FST->Prop}{uq:Hd Q}:Ev (I6 P call all (⟨d,.indexAddr t x ix,ty,ps,af,none⟩::l) i fr Z ds) Q uq=Ev (Aa P fr t x ix) (fun v=>Ev (I6 P call all l (i+1) (G5 fr d v) Z ds) Q ⟨⟩) ⟨⟩:=by first|(rw[Kr,D7];done)|(rw[Kr,D7];rfl)
def bh {t:TypeId}{Q:FST->Prop}{uq:Hd Q}:Ev (I6 P call all (⟨d,.lookup t x ix ok,ty,ps,af,none⟩::l) i fr Z ds) Q uq=Ev (Co P fr Z t x ix ok) (fun r=>Ev (I6 P call all l (i+1) (G5 fr d r.1) r.2 (.eff i Z r.2::ds)) Q ⟨⟩) ⟨⟩:=by first|(rw[Qg,D7];done)|(rw[Qg,D7];rfl)
def YJ {ix:Nat}{Q:FST->Prop}{uq:Hd Q}:Ev (I6 P call all (⟨d,.extract t ix,ty,ps,af,none⟩::l) i fr Z ds) Q uq=Ev (CU fr t ix) (fun v=>Ev (I6 P call all l (i+1) (G5 fr d v) Z ds) Q ⟨⟩) ⟨⟩:=by first|(rw[OB,D7];done)|(rw[OB,D7];rfl)
def wX {ts:Array TypeId}{Q:FST->Prop}{uq:Hd Q}:Ev (I6 P call all (⟨d,.call ⟨.builtin .len,as,ts⟩,ty,ps,af,none⟩::l) i fr Z ds) Q uq=Ev (Pp P fr ⟨.builtin .len,as,ts⟩) (fun v=>Ev (I6 P call all l (i+1) (G5 fr d v) Z ds) Q ⟨⟩) ⟨⟩:=by first|(rw[eY,D7];done)|(rw[eY,D7];rfl)
def wY {ts:Array TypeId}{Q:FST->Prop}{uq:Hd Q}:Ev (I6 P call all (⟨d,.call ⟨.builtin .min,as,ts⟩,ty,ps,af,none⟩::l) i fr Z ds) Q uq=Ev (pMM fr false ⟨.builtin .min,as,ts⟩) (fun v=>Ev (I6 P call all l (i+1) (G5 fr d v) Z ds) Q ⟨⟩) ⟨⟩:=by first|(rw[eg,D7];done)|(rw[eg,D7];rfl)
def bj {ts:Array TypeId}{Q:FST->Prop}{uq:Hd Q}:Ev (I6 P call all (⟨d,.call ⟨.builtin .append,as,ts⟩,ty,ps,af,none⟩::l) i fr Z ds) Q uq=Ev (Dn P fr Z ⟨.builtin .append,as,ts⟩) (fun r=>Ev (I6 P call all l (i+1) (G5 fr d r.1) r.2 (.eff i Z r.2::ds)) Q ⟨⟩) ⟨⟩:=by first|(rw[Qi,D7];done)|(rw[Qi,D7];rfl)
def qC {f:Operand}{ts:Array TypeId}{Q:FST->Prop}{uq:Hd Q}:Ev (I6 P call all (⟨d,.call ⟨.value f,as,ts⟩,ty,ps,af,none⟩::l) i fr Z ds) Q uq =
  Ev (evs fr as.toList) (fun vs=>Ev (ev fr f) (fun v=>Ev (QL v) (fun F=>Ev (call F.g (F.first++vs++F.captured) Z) (fun r=>Br r.pan (Ev (XQ P call all (.call ⟨.value f,as,ts⟩) l i fr Z r.v r.Z ds) Q ⟨⟩) (Ev (I6 P call all l (i+1) (G5 fr d r.v) r.Z (.eff i Z r.Z::ds)) Q ⟨⟩) ⟨⟩) ⟨⟩) ⟨⟩) ⟨⟩) ⟨⟩:=by
 rw[ox,Xp,D7,D7];refine congrArg (fun z=>Ev _ z ⟨⟩) (funext fun vs=>?_);rw[D7];refine congrArg (fun z=>Ev _ z ⟨⟩) (funext fun v=>?_);rw[D7];refine congrArg (fun z=>Ev _ z ⟨⟩) (funext fun F=>?_);refine congrArg (fun z=>Ev _ z ⟨⟩) (funext fun r=>?_);rw[QV]
def Wo {s t:TypeId}{Q:FST->Prop}{uq:Hd Q}:Ev (I6 P call all (⟨d,.convert s t x,ty,ps,af,none⟩::l) i fr Z ds) Q uq =
  Ev (orS (asNew Z (GY P fr s t x)) (orS (DU Z (Cm P fr Z s t x)) (H9 Z (Cs P fr ⟨d,.convert s t x,ty,ps,af,none⟩ x)))) (fun r=>Ev (l9 P call all (.convert s t x) l i fr Z ds r d) Q ⟨⟩) ⟨⟩:=by rw[Xi,D7]
def AN2 {op:Op}{Q:FST->Prop}{uq:Hd Q}:Ev (I6 P call all (⟨d,op,ty,ps,af,some g⟩::l) i fr Z ds) Q uq=Ev (V0 all fr ⟨d,op,ty,ps,af,some g⟩) (fun c=>Br c (Ev (I6 P call all (⟨d,op,ty,ps,af,none⟩::l) i fr Z ds) Q ⟨⟩) (Ev (I6 P call all l (i+1) (G5 fr d Q8) Z ds) Q ⟨⟩) ⟨⟩) ⟨⟩:=by
 rw[xY,D7];refine congrArg (fun z=>Ev _ z ⟨⟩) (funext fun c=>?_);rw[QV]
def wO {Q:Res->Prop}{uq:Hd Q}:Ev (opsV P call all [] fr Z) Q uq=Q ⟨.normal,fr,Z⟩:=by rw[vO,J7]
def wP {Q:FST->Prop}{uq:Hd Q}:Ev (I6 P call all [] i fr Z ds) Q uq=Q ⟨fr,Z,ds,none⟩:=by rw[vP,J7]
section
variable {Q:Res->Prop}{uq:Hd Q}
def wK:Ev (lim P H rd .skip fr Z) Q uq=Q ⟨.normal,fr,Z⟩:=by rw[vQ,J7]
def wL:Ev (lim P H rd (.exit k) fr Z) Q uq=Q ⟨.exit k,fr,Z⟩:=by rw[vR,J7]
def AM3:Ev (lim P H rd .ret fr Z) Q uq=Q ⟨.ret,fr,Z⟩:=by rw[AJ0,J7]
def LR {a b:Code}:Ev (lim P H rd (.seq a b) fr Z) Q uq=Ev (lim P H rd a fr Z) (fun r=>Ev (AJ r (lim P H rd b)) Q ⟨⟩) ⟨⟩:=by rw[AJ1,D7]
def po {a:Code}:Ev (lim P H rd (.block k a) fr Z) Q uq=Ev (lim P H rd a fr Z) (fun r=>Ev (Fu k r) Q ⟨⟩) ⟨⟩:=by rw[oy,D7]
def wM {a b:Code}:Ev (lim P H rd (.cond c a b) fr Z) Q uq=Ev (ev fr c) (fun v=>Ev (bool? v) (fun t=>Br t (Ev (lim P H rd a fr Z) Q ⟨⟩) (Ev (lim P H rd b fr Z) Q ⟨⟩) ⟨⟩) ⟨⟩) ⟨⟩:=by
 rw[vS,D7];refine congrArg (fun z=>Ev _ z ⟨⟩) (funext fun v=>?_);rw[D7];refine congrArg (fun z=>Ev _ z ⟨⟩) (funext fun t=>?_);rw[QV]
def Sp {l:List Oper}:Ev (lim P H rd (.region k l.toArray false) fr Z) Q uq=Ev (opsV P (go P H) l.toArray l fr Z) Q ⟨⟩:=by rw[aj]
def wN {l:List Oper}(h:Uv l):Ev (lim P H rd (.region k l.toArray true) fr Z) Q uq=Ev (I6 P (go P H) l.toArray l 0 fr Z []) (fun r=>Ar (Ay (Region.before l.toArray).toList r.ds r.ds) (Q ⟨pJ r.p,r.fr,r.Z⟩) ⟨⟩) ⟨⟩:=by
 rw[oh h];show Ev (ob _ _) Q uq=_;rw[D7];refine congrArg (fun z=>Ev _ z ⟨⟩) (funext fun r=>?_);obtain⟨fr,Z,ds⟩:=r;show Ev (bb _ _) Q _=_;rw[eP,J7]
def Ck:Ev (AJ ⟨.normal,fr,Z⟩ next) Q uq=Ev (next fr Z) Q ⟨⟩:=rfl
def eK:Ev (AJ ⟨.exit k,fr,Z⟩ next) Q uq=Q ⟨.exit k,fr,Z⟩:=by rw[Uu,J7]
def oe:Ev (AJ ⟨.ret,fr,Z⟩ next) Q uq=Q ⟨.ret,fr,Z⟩:=by rw[ah,J7]
def AM4:Ev (AJ ⟨.pan v,fr,Z⟩ next) Q uq=Q ⟨.pan v,fr,Z⟩:=by rw[ai,J7]
def TF:Ev (Fu k ⟨.normal,fr,Z⟩) Q uq=Q ⟨.normal,fr,Z⟩:=by rw[jO,J7]
def AM5:Ev (Fu k ⟨.ret,fr,Z⟩) Q uq=Q ⟨.ret,fr,Z⟩:=by rw[AJ2,J7]
def AM6:Ev (Fu k ⟨.pan v,fr,Z⟩) Q uq=Q ⟨.pan v,fr,Z⟩:=by rw[AJ3,J7]
def eM {m:Nat}:Ev (Fu k ⟨.exit m,fr,Z⟩) Q uq=Br (decide (m=k)) (Q ⟨.normal,fr,Z⟩) (Q ⟨.exit m,fr,Z⟩) ⟨⟩:=by
 rw[vT,AI8,J7,J7]
end
def TG {Q:CR->Prop}{uq:Hd Q}:Ev (FJ P fn ⟨.normal,fr,Z⟩) Q uq=Ev (IQ P fr Z fn.results.toList) (fun vs=>Q ⟨false,tup vs,Z⟩) ⟨⟩:=by
 rw[bA,D7];refine congrArg (fun z=>Ev _ z ⟨⟩) (funext fun vs=>?_);rw[J7]
def AM7 {Q:CR->Prop}{uq:Hd Q}:Ev (FJ P fn ⟨.ret,fr,Z⟩) Q uq=Ev (IQ P fr Z fn.results.toList) (fun vs=>Q ⟨false,tup vs,Z⟩) ⟨⟩:=by
 rw[vU,D7];refine congrArg (fun z=>Ev _ z ⟨⟩) (funext fun vs=>?_);rw[J7]
def AM8 {Q:CR->Prop}{uq:Hd Q}:Ev (FJ P fn ⟨.pan v,fr,Z⟩) Q uq=Q ⟨true,v,Z⟩:=by rw[vV,J7]
def D0 {g:Nat}{vs:List Value}{fn:Func}{body:Code}{Q:CR->Prop}{uq:Hd Q}(hf:P.funcs[g]? =some fn) (hb:fn.body=some body) (hH:H g=none:=by rfl)
  (h:Ev (lim P H none body (HZ vs 0 .nil) Z) (fun r=>Ev (FJ P fn r) Q ⟨⟩) ⟨⟩):Ev (go P H (.fn g) vs Z) Q uq:=by
 rw[Ac4 hH hf hb,D7];exact h
end
end
section
variable {Z:St}{b:Nat}
@[simp] theorem VG (cs:List Value) (k:Kind):(Z.Hi cs k).n=Z.n+1:=rfl
theorem RP (cs:List Value) (k:Kind) (c:Nat):(Z.Hi cs k).h.get c=if c=Z.n then some ⟨cs,true,true,0,k⟩else Z.h.get c:=Tr.BA _ _ _ _
def Ext.Hi {Z0:St}(h:Ext Z0 Z) (cs:List Value) (k:Kind):Ext Z0 (Z.Hi cs k):=⟨Nat.le_succ_of_le h.n,fun c hc=>by rw[RP,z0z (by have:=h.n;omega),h.same c hc]⟩
end
section
variable {a b:Int}{v:Value}{Z':St}{i:Nat}{ds:List Trace}{o:Oper}
section
variable {P:Program}{H:EW}{call:W0}{all:Array Oper}{l:List Oper}{fr:Fr}{Z:St}{d:Option Tmp}{ty t u:TypeId}{ps:String}{af:Array Edge}{x y:Operand}
noncomputable def Hq (P:Program) (b:BinOp) (t:TypeId) (x y:Operand) (a c:Value):Option Value :=
 ob (KZ (K9 P (do pure (.value (<- (do eqGuard b t x y a c;binOp b t a c)))))) cst
noncomputable def Bi (P:Program) (b:BinOp) (t:TypeId) (x y:Operand) (a c:Value):Option Value:=orV (MU b a c) (bi (flat a&&flat c) (Hq P b t x y a c) (nF P t b a c))
def tz {b:BinOp}:Pu P fr ⟨d,.binOp b t x y u,ty,ps,af,none⟩ b t x y=ob (ev fr x) fun a=>ob (ev fr y) fun c=>Bi P b t x y a c:=by
 show ob (ev fr x) _=_;cases hx:ev fr x with
 |none=>rfl
 | some a=>
   show ob (ev fr y) _=ob (ev fr y) _;cases hy:ev fr y with
   |none=>rfl
   | some c=>
     show tw P fr _ b t a c=_;have e1:(fun y=>(ev fr y).getD Q8) x=a:=by show(ev fr x).getD Q8=a;rw[hx];rfl
     have e2:(fun y=>(ev fr y).getD Q8) y=c:=by show(ev fr y).getD Q8=c;rw[hy];rfl
     have h:Kh P fr ⟨d,.binOp b t x y u,ty,ps,af,none⟩=Hq P b t x y a c:=by
      unfold Kh Hq;simp only[execOp,e1,e2]
     unfold tw Bi;rw[h];rfl
def AG1 {k:IntKind}:Bi P .add t x y (.int k a) (.int k b)=some (.int k (Gl k (a+b))):=by cases k<;>rfl
def AG2 {k:IntKind}:Bi P .sub t x y (.int k a) (.int k b)=some (.int k (Gl k (a-b))):=by cases k<;>rfl
def AG3 {k:IntKind}:Bi P .mul t x y (.int k a) (.int k b)=some (.int k (Gl k (a*b))):=by cases k<;>rfl
def AG4 {k:IntKind}:Bi P .eql t x y (.int k a) (.int k b)=some (.bool (decide (a=b))):=by rw[<- nM];cases k<;>rfl
def AG5 {k:IntKind}:Bi P .neq t x y (.int k a) (.int k b)=some (.bool (!decide (a=b))):=by
 rw[<- nM];have h:Bi P .neq t x y (.int k a) (.int k b)=some (.bool (bi (ieq a b) false true)):=by cases k<;>rfl
 rw[h];cases ieq a b<;>rfl
def AG6 {k:IntKind}:Bi P .lss t x y (.int k a) (.int k b)=some (.bool (decide (a<b))):=by rw[<- JJ];cases k<;>rfl
def AG7 {k:IntKind}:Bi P .leq t x y (.int k a) (.int k b)=some (.bool (!decide (b<a))):=by
 rw[<- JJ];have h:Bi P .leq t x y (.int k a) (.int k b)=some (.bool (bi (ilt b a) false true)):=by cases k<;>rfl
 rw[h];cases ilt b a<;>rfl
def AG8 {k:IntKind}:Bi P .gtr t x y (.int k a) (.int k b)=some (.bool (decide (b<a))):=by rw[<- JJ];cases k<;>rfl
def AG9 {k:IntKind}:Bi P .geq t x y (.int k a) (.int k b)=some (.bool (!decide (a<b))):=by
 rw[<- JJ];have h:Bi P .geq t x y (.int k a) (.int k b)=some (.bool (bi (ilt a b) false true)):=by cases k<;>rfl
 rw[h];cases ilt a b<;>rfl
def uA {a b:ByteArray}:Bi P .eql t x y (.string a) (.string b)=some (.bool (decide (a=b))):=by rw[<- Sn];rfl
def uB {a b:ByteArray}:Bi P .neq t x y (.string a) (.string b)=some (.bool (!decide (a=b))):=by
 rw[<- Sn];show some (Value.bool (bi (Lf a.data.toList b.data.toList) false true))=_;cases Lf a.data.toList b.data.toList<;>rfl
def AH0 {k:IntKind}(h:b≠0):Bi P .rem t x y (.int k a) (.int k b)=some (.int k (a.tmod b)):=by
 have key:Hq P .rem t x y (.int k a) (.int k b)=some (.int k (a.tmod b)):=by
  unfold Hq;simp only[eqGuard,binOp,Op.intDiv,z0z h];cases k<;>rfl
 show orV (MU .rem (.int k a) (.int k b)) (Hq P .rem t x y (.int k a) (.int k b))=_;rw[key];cases k<;>rfl
def AH1 {k:IntKind}(h:b≠0):Bi P .quo t x y (.int k a) (.int k b)=some (.int k (k.wrap (a.tdiv b))):=by
 have key:Hq P .quo t x y (.int k a) (.int k b)=some (.int k (k.wrap (a.tdiv b))):=by
  unfold Hq;simp only[eqGuard,binOp,Op.intDiv,z0z h];cases k<;>rfl
 show orV (MU .quo (.int k a) (.int k b)) (Hq P .quo t x y (.int k a) (.int k b))=_;rw[key];cases k<;>rfl
noncomputable def HG (P:Program) (Z:St) (s t:TypeId) (a:Value):Option Stepped :=
 orS (asNew Z (bb (P.underlying s).isSome (ob (Jw a) fun l=>ob (elem? P t) fun e=>bb (isByte (P.underlying e)) (some (N4 l,fun n=> .slice (some ⟨n,0,some 1⟩) l.length l.length)))))
  (orS (DU Z (ob (NQ a) fun p=>pra p fun b off n=>ob (elem? P s) fun e=>bb (isByte (P.underlying e)) (bb (isStr (P.underlying t)) (ob (Z.read b off n) fun l=>ob (Ac l) fun l=>some (.string ⟨l.toArray⟩,⟨b,off,n⟩)))))
    (H9 Z (bb (flat a) (ob (KZ (K9 P (do pure (.value (<- convert s t a))))) cst))))
def di {s:TypeId}:orS (asNew Z (GY P fr s t x)) (orS (DU Z (Cm P fr Z s t x)) (H9 Z (Cs P fr ⟨d,.convert s t x,ty,ps,af,none⟩ x)))=ob (ev fr x) fun a=>HG P Z s t a:=by
 cases h:ev fr x with
 | none=>
   unfold GY Cm Cs;simp only[h,uC];cases(P.underlying s).isSome<;>rfl
 | some a=>
   have hx:(fun y=>(ev fr y).getD Q8) x=a:=by show(ev fr x).getD Q8=a;rw[h];rfl
   have hf:Kh P fr ⟨d,.convert s t x,ty,ps,af,none⟩=ob (KZ (K9 P (do pure (.value (<- convert s t a))))) cst:=by
    unfold Kh;simp only[execOp,hx]
   unfold GY Cm Cs HG;simp only[h,F8,hf]
def nN {s t:TypeId}{x:Operand}{Q:Res->Prop}{uq:Hd Q}:Ev (opsV P call all (⟨d,.convert s t x,ty,ps,af,none⟩::l) fr Z) Q uq =
  Ev (ev fr x) (fun a=>Ev (HG P Z s t a) (fun r=>Ev (O4 P call all l fr r d) Q ⟨⟩) ⟨⟩) ⟨⟩:=by rw[Wn,di,D7]
def nO {s t:TypeId}{x:Operand}{Q:FST->Prop}{uq:Hd Q}:Ev (I6 P call all (⟨d,.convert s t x,ty,ps,af,none⟩::l) i fr Z ds) Q uq =
  Ev (ev fr x) (fun a=>Ev (HG P Z s t a) (fun r=>Ev (l9 P call all (.convert s t x) l i fr Z ds r d) Q ⟨⟩) ⟨⟩) ⟨⟩:=by rw[Wo,di,D7]
def uD {Q:Res->Prop}{uq:Hd Q}:Ev (O4 P call all l fr ⟨v,Z',.none⟩ d) Q uq=Ev (opsV P call all l (G5 fr d v) Z') Q ⟨⟩:=rfl
def uE {r:AO}{Q:Res->Prop}{uq:Hd Q}:Ev (O4 P call all l fr ⟨v,Z',.read r⟩ d) Q uq=Ev (opsV P call all l (G5 fr d v) Z') Q ⟨⟩:=rfl
def nP {Q:Res->Prop}{uq:Hd Q}:Ev (O4 P call all l fr ⟨v,Z',.pan⟩ d) Q uq=Q ⟨.pan v,fr,Z'⟩:=by
 show Ev (some _) Q _=_;rw[J7]
def uF {op:Op}{Q:FST->Prop}{uq:Hd Q}:Ev (l9 P call all op l i fr Z ds ⟨v,Z',.none⟩ d) Q uq=Ev (I6 P call all l (i+1) (G5 fr d v) Z' ds) Q ⟨⟩:=rfl
def uG {op:Op}{r:AO}{Q:FST->Prop}{uq:Hd Q}:Ev (l9 P call all op l i fr Z ds ⟨v,Z',.read r⟩ d) Q uq=Ev (I6 P call all l (i+1) (G5 fr d v) Z' (.read i r::ds)) Q ⟨⟩:=rfl
def uH {op:Op}{j:Nat}{want:Bool}:V0 all fr ⟨d,op,ty,ps,af,some (j,want)⟩=ob (some (Fb all j)) fun s=>match s with
  |none=>some false
  |some d=>ob (fr.get d) fun v=>some (yieldOf want v):=by
 show Option.rec _ _ (Fb all j)=ob (some (Fb all j)) _;rw[F8];cases Fb all j<;>rfl
def nQ {l:List Oper}:Fb (o::l).toArray 0=o.dst:=rfl
def nR {l:List Oper}{j:Nat}:Fb (o::l).toArray (j+1)=Fb l.toArray j:=by
 unfold Fb;simp only[List.getElem?_toArray,List.getElem?_cons_succ]
def uI {b:Bool}:yieldOf true (.bool b)=b:=rfl
def uJ {b:Bool}:yieldOf false (.bool b)= !b:=rfl
def wrap64_in {n:Int}(h1: -9223372036854775808<=n) (h2:n<=9223372036854775807):IntKind.i64.wrap n=n:=by
 rw[wrap_i64];split<;>omega
end
end
noncomputable def St.row (Z:St) (b:Nat):Option (List Value):=ob (Z.Dg b) fun B=>some B.cells
noncomputable def St.A7 (Z:St) (b:Nat):Option (List Value):=ob (Z.Dg b) fun B=>bb B.own (some B.cells)
section
variable {Z Z':St}{b c off n:Nat}{cs vs:List Value}{fr:Fr}{ps:List Nat}{assign body:Code}{st:LoopState}{BP5:Option Code}{k:Kind}{ty:Option TypeId}
def FL:Z.read b off n=ob (Z.row b) fun cs=>sub cs off n:=by
 show ob (Z.Dg b) _=ob (ob (Z.Dg b) _) _;cases Z.Dg b<;>rfl
def Pk:Z.write b off vs=ob (Z.A7 b) fun cs=>ob (I7 cs off vs) fun cs'=>some (Z.upd b cs'):=by
 show ob (Z.Dg b) _=ob (ob (Z.Dg b) _) _;cases h:Z.Dg b with
 |none=>rfl
 | some B=>
   have hv:Z.ver b=B.ver:=by
    have:=(AA (j7 h).1).1;unfold St.ver;rw[this]
   have hk:B.kind= .row (Z.typ b):=by
    obtain⟨h1,t,h2⟩:=j7 h;have h3:=(AA h1).1;obtain⟨cells,live,own,ver,kind⟩:=B;cases h2;unfold St.typ;rw[h3];rfl
   show bb B.own _=ob (bb B.own (some B.cells)) _;cases B.own with
   |false=>rfl
   |true=>simp only[FK,F8,St.upd,hv,hk]
def xB:Z.kill b=ob (Z.A7 b) fun _=>some (Z.dead b):=by
 show ob (Z.Dg b) _=ob (ob (Z.Dg b) _) _;cases h:Z.Dg b with
 |none=>rfl
 | some B=>
   have hv:Z.ver b=B.ver:=by
    have:=(AA (j7 h).1).1;unfold St.ver;rw[this]
   show bb B.own _=ob (bb B.own (some B.cells)) _;cases B.own with
   |false=>rfl
   |true=>simp only[FK,F8,St.dead,hv]
def T5 (h:Z'.h.get b=Z.h.get b):Z'.row b=Z.row b:=by
 show ob (ob (ob (Z'.h.get b) _) _) _=ob (ob (ob (Z.h.get b) _) _) _;rw[h]
def B8 (h:Z'.h.get b=Z.h.get b):Z'.A7 b=Z.A7 b:=by
 show ob (ob (ob (Z'.h.get b) _) _) _=ob (ob (ob (Z.h.get b) _) _) _;rw[h]
def Own.A7 (h:Own Z b cs):Z.A7 b=some cs:=by
 obtain⟨v,t,h⟩:=h;show ob (ob (ob (Z.h.get b) _) _) _=_;rw[h];rfl
def A6 (h:Z.A7 b=some cs):Z.row b=some cs:=by
 obtain⟨B,h1,h2⟩:=A5 (show ob (Z.Dg b) _=some cs from h);obtain⟨h3,h4⟩:=H3 h2;show ob (Z.Dg b) _=_;rw[h1];exact h4
def D1 (h1:b<=Z.n) (h2:Z.n<=b):(Z.new cs ty).row b=some cs:=by
 obtain rfl:=Yo h1 h2;exact A6 (Own.new Z cs).A7
def M7 (h1:b<=Z.n) (h2:Z.n<=b):(Z.new cs ty).A7 b=some cs:=by
 obtain rfl:=Yo h1 h2;exact(Own.new Z cs).A7
def CQ (h:b≠Z.n):(Z.new cs ty).row b=Z.row b:=T5 (by rw[EG,z0z h])
def E9 (h:b≠Z.n):(Z.new cs ty).A7 b=Z.A7 b:=B8 (by rw[EG,z0z h])
def Ml:(Z.upd b cs).row b=some cs:=A6 (Own.upd Z b cs).A7
def D5:(Z.upd b cs).A7 b=some cs:=(Own.upd Z b cs).A7
def M1 (h:b≠c):(Z.upd c cs).row b=Z.row b:=T5 (by rw[Bt,z0z h])
def I1 (h:b≠c):(Z.upd c cs).A7 b=Z.A7 b:=B8 (by rw[Bt,z0z h])
def Jc (h:b≠c):(Z.dead c).row b=Z.row b:=T5 (by rw[Jb,z0z h])
def VI (h:b≠c):(Z.dead c).A7 b=Z.A7 b:=B8 (by rw[Jb,z0z h])
def YM (h:b≠Z.n):(Z.Hi cs k).row b=Z.row b:=T5 (by rw[RP,z0z h])
def Mm (h:b≠Z.n):(Z.Hi cs k).A7 b=Z.A7 b:=B8 (by rw[RP,z0z h])
def Ext.row (h:Ext Z Z') (hb:b<Z.n):Z'.row b=Z.row b:=T5 (h.same b hb)
def Ext.A7 (h:Ext Z Z') (hb:b<Z.n):Z'.A7 b=Z.A7 b:=B8 (h.same b hb)
def qH {α:Type}{x:α}{l:List α}{o m:Nat}:sub (x::l) (o+1) m=sub l o m:=rfl
def qI {α:Type}{x:α}{l:List α}{m:Nat}:sub (x::l) 0 (m+1)=ob (takeN m l) fun r=>some (x::r):=rfl
def D8 {α:Type}{l:List α}{m:Nat}(h1:m<=l.length) (h2:l.length<=m):sub l 0 m=some l:=xN l m (Yo h1 h2)
def XN {m q:Nat}(h1:m<=q) (h2:q<=m):m.beq q=true:=Oe (Yo h1 h2)
def YL {α:Type}{l new:List α}(h1:new.length<=l.length) (h2:l.length<=new.length):I7 l 0 new=some new:=az (Yo h1 h2)
end
section
variable {P:Program}{A8:Env}{G:Nat}
def YB (hm:P.follows .mixedOrders=true){H:EW}(ML:∀ n c,A8.chk n c=codeOk P n G c) (hP:GL P H G P.funcs.toList 0=true) (hH:JU P A8 G H){g:Nat}{fn:Func}(hf:P.funcs[g]? =some fn) (hb:fn.body.isSome=true){vs vs':List Value}{Z:St}{Q:CR->Prop}{uq:Hd Q}
  (h:Ev (go P H (.fn g) vs Z) Q uq) {O:Place}{w:World} (hR:Rel A8 O Z w) (hF:∀ b,Z.n<=b->O b=none) (hG:Bo O G) (hv:G0 O vs vs') :
  Calls P g ⟨vs'⟩ w fun e w'=>∃ r v' O',Q r/\e=ended r.pan v'/\Rel A8 O' r.Z w'/\AD O Z w O' r.Z w'/\H4 O' r.v v':=by
 obtain⟨r,h1,h2⟩:=h;obtain⟨f,h3⟩:=uh h1;obtain⟨_,h4⟩:=Vt (A8:=A8) hm ML hP hH f _ _ _ _ h3;obtain⟨fn',k1,k2,k3⟩:=h4 O w vs' r.Z.n hR (fun b hb _=>hF b hb) nL hG hv;rw[hf]at k1;cases k1;rcases k3 with⟨_,k5⟩|⟨v',k4,k5,k6,k7⟩
 ·exact k5.mono fun e w' ⟨v',O',q0,q1,q2,q3⟩=>⟨r,v',O',h2,q0,q1,q2,q3⟩
 ·exfalso;have hn0:fn.body.isNone=false:=by cases hb':fn.body with|none=>rw[hb']at hb;cases hb|some c=>rfl
  simp only[callFunc,Sem.run_bind,run_program,Result.andThen_ok,hf,k2,hn0,Hf,GX,Sem.run_pure]at k4;cases k4
noncomputable def St.arg (Z:St) (cells:List Value):St:=⟨Z.h.set Z.n ⟨cells,true,false,0,.row none⟩,Z.n+1⟩
def KL (Z:St) (cells:List Value) (b:Nat):(Z.arg cells).h.get b=if b=Z.n then some ⟨cells,true,false,0,.row none⟩else Z.h.get b:=Tr.BA _ _ _ _
def Tj (Z:St) (cells:List Value):(Z.arg cells).n=Z.n+1:=rfl
def fS (Z:St) (cells:List Value):(Z.arg cells).row Z.n=some cells:=by
 show ob (ob (ob ((Z.arg cells).h.get Z.n) _) _) _=_;rw[KL,z1z rfl];rfl
def RB (Z:St) (cells:List Value){b:Nat}(h:b≠Z.n):(Z.arg cells).row b=Z.row b:=T5 (by rw[KL,z0z h])
def PR (Z:St):Prop:=∀ b B,Z.blk b=some B->B.own=false
def PR.arg {Z:St}(h:PR Z) (cells:List Value):PR (Z.arg cells):=by
 intro b B hb;obtain⟨h1,h2⟩:=AA hb;rw[KL]at h1;split at h1
 ·cases h1;rfl
 ·exact h b B (NG h1 h2)
def fQ {O:Place}{Z:St}{w:World}(hR:Rel A8 O Z w) (hN:PR Z) (hF:∀ b,Z.n<=b->O b=none){c o m:Nat}{cells:List Value}{arr:Array Value}{e:TypeId}{f:Nat×Nat}(hh:w.heap[c]? =some (.cells arr e f)) (hm:m=arr.size) (ho:o+cells.length<=arr.size)
  (hlo:c<A8.lo) (hc:∀ v∈cells,J9 v=true) (hv:∀ (i:Nat) (v:Value),cells[i]? =some v->∃ v',arr[o+i]? =some v'/\H4 O v v'):Rel A8 (O.put Z.n ⟨c,o,m⟩) (Z.arg cells) w:=by
 have hle:O.le (O.put Z.n ⟨c,o,m⟩):=Place.JS _ (hF _ nL);subst hm;have hcw:c<w.heap.size:=by
  rcases y8 c w.heap.size with h|h
  ·exact h
  ·rw[Array.getElem?_eq_none h]at hh;cases hh
 refine⟨fun b hb=>?_,fun b q B hb hB=>?_,fun b q hb=>?_,fun b q B _ hB ho=>?_,fun b q B b' q' _ hB ho=>?_,hR.low⟩
 ·rw[KL,z0z (by rw[Tj]at hb;omega)];exact hR.fresh b (by rw[Tj]at hb;omega)
 ·by_cases hbn:b=Z.n
  ·subst hbn;rw[Place.S8]at hb;cases hb;obtain⟨h1,_⟩:=AA hB;rw[KL,z1z rfl]at h1;cases h1;obtain⟨lo,hi⟩:=f;refine .row rfl ⟨arr,e,lo,hi,hh,rfl,ho,fun h=>absurd h (by show ¬ A8.lo<=c;omega),hc,fun i v hi'=>?_⟩;obtain⟨v',h1,h2⟩:=hv i v hi';exact⟨v',h1,h2.mono hle⟩
  ·rw[Place.AW _ _ hbn]at hb;obtain⟨h1,h2⟩:=AA hB;rw[KL,z0z hbn]at h1;exact(hR.KP b q B hb (NG h1 h2)).mono hle rfl
 ·by_cases hbn:b=Z.n
  ·subst hbn;rw[Place.S8]at hb;cases hb;exact hcw
  ·rw[Place.AW _ _ hbn]at hb;exact hR.dom b q hb
 ·rw[hN.arg cells b B hB]at ho;cases ho
 ·rw[hN.arg cells b B hB]at ho;cases ho
def YR {O:Place}{Z:St}{cells:List Value}{q:Bk}(hF:∀ b,Z.n<=b->O b=none):∀ b,(Z.arg cells).n<=b->(O.put Z.n q) b=none:=by
 intro b hb;rw[Tj]at hb;rw[Place.AW _ _ om];exact hF b om
def YT {w:World}{x:Addr}{v:Value}(h:w.cell? x=some v):∃ arr e f,w.heap[x.block]? =some (.cells arr e f)/\x.spot=none/\arr[x.off]? =some v:=by
 unfold World.cell? at h;split at h
 ·rename_i c e f hh;split at h
  ·cases h
  ·rename_i hs;refine⟨c,e,f,hh,?_,h⟩;cases hx:x.spot with
   |none=>rfl
   |some s=>rw[hx]at hs;exact absurd rfl hs
 ·cases h
end
section
variable {dl i lo hi:Nat}{as:Array Operand}{cells:List Value}{want:Bool}{bs:List Nat}{all:List Trace}{y:Int}
section
variable {P:Program}{e:TypeId}{Z:St}{fr:Fr}{b off n c len cap size s k:Nat}{sp:Option Nat}{new vs l:List Value}{v x:Value}
def TA:DF Z size (.slice (some ⟨b,off,sp⟩) n c)=ob (Z.read b off (n*size)) fun cs=>some (n,cs):=rfl
def uj:DZ e Z size none 0 n new=some (.slice (some ⟨Z.n,0,some size⟩) n n,Z.new new (some e)):=rfl
def Wz:DZ e Z size (some ⟨b,off,none⟩) len n new=ob (Z.read b off (len*size)) fun old=>some (.slice (some ⟨Z.n,0,some size⟩) (len+n) (len+n),Z.new (old++new) (some e)):=rfl
def um:DZ e Z size (some ⟨b,off,some size⟩) len n new=ob (Z.read b off (len*size)) fun old=>ob (Z.kill b) fun Z'=>some (.slice (some ⟨Z'.n,0,some size⟩) (len+n) (len+n),Z'.new (old++new) (Nk e off (Z.typ b))):=by
 show bb (Nat.beq size size) _=_;rw[Oe rfl];rfl
def uo:FR Z size (some ⟨b,off,sp⟩) len cap n new=ob (Z.write b (off+len*size) new) fun Z=>some (.slice (some ⟨b,off,sp⟩) (len+n) cap,Z):=rfl
def aO {a b:Nat}(h:b<a):Nat.ble a b=false:=by
 cases hb:Nat.ble a b with
 |false=>rfl
 |true=>have:=JO hb;omega
def AI2 {c:Callee}{t:TypeId}{ts:List TypeId}:RZ ⟨c,as,(t::ts).toArray⟩=some t:=rfl
def uu {c:Callee}{t u:TypeId}{ts:List TypeId}:dC ⟨c,as,(t::u::ts).toArray⟩=some u:=rfl
def iz {e:TypeId}:ND (some (.slice e))=true:=rfl
def oC {place:Nat->Option (Nat×Nat)}:Ai place [] cells=some cells:=rfl
def jA {place:Nat->Option (Nat×Nat)}{v:Value}{ps:List (Nat×Value)}:Ai place ((i,v)::ps) cells=ob (place i) fun q=>pr q fun off n=>bi (EZ v) none (bb ((G6 v).length.beq n) (ob (I7 cells off (G6 v)) (Ai place ps))):=rfl
def A4 {α:Type}{x:α}{l new:List α}{o:Nat}:I7 (x::l) (o+1) new=ob (I7 l o new) fun r=>some (x::r):=rfl
def XA {α:Type}{x y:α}{l new:List α}:I7 (x::l) 0 (y::new)=ob (over new l) fun r=>some (y::r):=rfl
def oD {α:Type}{l:List α}:over [] l=some l:=rfl
def Sa {α:Type}{x y:α}{l new:List α}:over (y::new) (x::l)=ob (over new l) fun r=>some (y::r):=rfl
def oE {α:Type}{l:List α}:rep l 0=[]:=rfl
def XB {α:Type}{l:List α}{n:Nat}:rep l (n+1)=l++rep l n:=rfl
noncomputable def oG (fr:Fr) (want:Bool) (s:Option Tmp):Option Bool:=match s with
 |none=>some false
 |some d=>ob (fr.get d) fun v=>some (yieldOf want v)
def oH {all:Array Oper}{d:Option Tmp}{op:Op}{ty:TypeId}{ps:String}{af:Array Edge}{j:Nat}{Q:Bool->Prop}{uq:Hd Q}:
  Ev (V0 all fr ⟨d,op,ty,ps,af,some (j,want)⟩) Q uq=Ev (some (Fb all j)) (fun s=>Ev (oG fr want s) Q ⟨⟩) ⟨⟩:=by
 rw[uH,D7];refine congrArg (fun z=>Ev _ z ⟨⟩) (funext fun s=>?_);cases s<;>rfl
def uv {d:Tmp}{Q:Bool->Prop}{uq:Hd Q}:Ev (oG fr want (some d)) Q uq=Ev (fr.get d) (fun v=>Q (yieldOf want v)) ⟨⟩:=by
 show Ev (ob _ _) Q _=_;rw[D7];refine congrArg (fun z=>Ev _ z ⟨⟩) (funext fun v=>?_);rw[J7]
def oI {o:Operand}:evO fr (some o)=ob (ev fr o) fun v=>some (some v):=rfl
def oJ:evO fr none=some none:=rfl
def uw {cap:Nat}{lo hi:Option Value}:Zs dl cap lo hi=ob (jB dl hi) fun h=>bb (h.ble cap) (ob (jB 0 lo) fun l=>bb (l.ble h) (some (l,h))):=rfl
def ux {v:Value}:jB dl (some v)=nat? v:=rfl
def uy:jB dl none=some dl:=rfl
def oK {n b off cap:Nat}:sliceAt n (some ⟨b,off,none⟩) lo hi cap=some (.slice (some ⟨b,off+lo*n,none⟩) (hi-lo) (cap-lo)):=rfl
def uf {n b off cap:Nat}:sliceAt n (some ⟨b,off,some n⟩) lo hi cap=some (.slice (some ⟨b,off+lo*n,some n⟩) (hi-lo) (cap-lo)):=by
 show bb (Nat.beq n n) _=_;rw[Oe rfl];rfl
def T8:Ay bs all []=true:=rfl
def T7 {ds:List Trace}{a b:St}:Ay bs all (.eff i a b::ds)=Ay bs all ds:=rfl
def mm2 {x y:Operand}{c:Callee}{ts:Array TypeId}{im:Bool}:pMM fr im ⟨c,[x,y].toArray,ts⟩=ob (ev fr x) fun a=>ob (ev fr y) fun b=>Il im a b:=by
 show ob (ob (ev fr x) fun v=>ob (ob (ev fr y) fun v=>ob (some []) fun vs=>some (v::vs)) fun vs=>some (v::vs)) _=_;cases ev fr x with
 |none=>rfl
 | some a=>
   cases ev fr y with
   |none=>rfl
   | some b=>
     show ob (Il im a b) (fun v=>some v)=Il im a b;cases Il im a b<;>rfl
def uz {k k':IntKind}{x:Int}:Il false (.int k x) (.int k' y)=some (.int k (min x y)):=by
 show some (Value.int k (bi (ilt y x) y x))=_;rw[JJ];by_cases h:y<x
 ·rw[Aq h,K3,Int.min_eq_right om]
 ·rw[z4z h,BV,Int.min_eq_left om]
def vA {k k':IntKind}{x:Int}:Il true (.int k x) (.int k' y)=some (.int k (max x y)):=by
 show some (Value.int k (bi (ilt x y) y x))=_;rw[JJ];by_cases h:x<y
 ·rw[Aq h,K3,Int.max_eq_right om]
 ·rw[z4z h,BV,Int.max_eq_left om]
end
end
section
variable {Z Z':St}{v:Value}{l a b:List UInt8}{bs:List Nat}{i size j:Nat}{ds:List Trace}{n:Int}{D4:List (List Value)}
def str (l:List UInt8):Value:= .string ⟨⟨l⟩⟩
def jz:G6 (str l)=[str l]:=rfl
def wj:EZ (str l)=false:=rfl
def wi:mz (some .string) (str l)=some l.length:=rfl
def sR:(⟨⟨a⟩⟩:ByteArray)=⟨⟨b⟩⟩↔a=b:=⟨fun h=>by cases h;rfl,fun h=>by rw[h]⟩
def AN4 {fr:Fr}:ev fr (.const (.string ⟨l.toArray⟩))=some (str l):=rfl
def L8 {all:List Trace}{r:AO}:Ay bs all (.read i r::ds)=bi (K1 bs i r all) (Ay bs all ds) false:=rfl
def j9 {r:AO}:K1 bs i r []=true:=rfl
def DH {r q:AO}:K1 bs i r (.read j q::ds)=K1 bs i r ds:=rfl
def LU {r:AO}{a b:St}(h:r.b<a.n->b.h.get r.b=a.h.get r.b):K1 bs i r (.eff j a b::ds)=K1 bs i r ds:=by
 show bi (bi (ordered bs i j) true (bi (Nat.blt r.b a.n) (bi (Nat.beq (a.ver r.b) (b.ver r.b)) true (BM (a.read r.b r.off r.n) (b.read r.b r.off r.n))) true)) (K1 bs i r ds) false=_;have:bi (ordered bs i j) true (bi (Nat.blt r.b a.n) (bi (Nat.beq (a.ver r.b) (b.ver r.b)) true (BM (a.read r.b r.off r.n) (b.read r.b r.off r.n))) true)=true:=by
  cases ordered bs i j with
  |true=>rfl
  | false=>
    cases hb:Nat.blt r.b a.n with
    |false=>rfl
    | true=>
      have hlt:r.b<a.n:=by rw[DC]at hb;exact hb
      have hv:b.ver r.b=a.ver r.b:=by unfold St.ver;rw[h hlt]
      rw[hv,Oe rfl];rfl
 rw[this];rfl
def bH {P:Program}{s t:TypeId}{e:TypeId}{b off n c:Nat}{sp:Option Nat}(h1:elem? P s=some e) (h2:isByte (P.underlying e)=true) (h3:isStr (P.underlying t)=true):
  HG P Z s t (.slice (some ⟨b,off,sp⟩) n c)=ob (Z.read b off n) fun vs=>ob (Ac vs) fun l=>some ⟨str l,Z,.read ⟨b,off,n⟩⟩:=by
 have hA:asNew Z (bb (P.underlying s).isSome (ob (Jw (.slice (some ⟨b,off,sp⟩) n c)) fun l=>ob (elem? P t) fun e=>bb (isByte (P.underlying e)) (some (N4 l,fun n=> .slice (some ⟨n,0,some 1⟩) l.length l.length))))=none:=by
  cases(P.underlying s).isSome<;>rfl
 unfold HG;rw[hA];show orS (DU Z (ob (elem? P s) fun e=>bb (isByte (P.underlying e)) (bb (isStr (P.underlying t)) (ob (Z.read b off n) fun l=>ob (Ac l) fun l=>some (.string ⟨l.toArray⟩,⟨b,off,n⟩))))) none=_;rw[h1,F8,h2,FK,h3,FK];cases Z.read b off n with
 |none=>rfl
 | some vs=>
   rw[F8,F8];cases Ac vs<;>rfl
def YK:Ac []=some []:=rfl
def MA {vs:List Value}:Ac (v::vs)=ob (Lz v) fun b=>ob (Ac vs) fun bs=>some (b::bs):=rfl
def wk:Lz (.int .u8 n)=some (UInt8.ofNat n.toNat):=rfl
def qG (h1:0<=n) (h2:n<256):IntKind.u8.wrap n=n:=by
 rw[wrap_u8];omega
noncomputable def unA (P:Program) (op:UnOp) (a:Value):Option Value:=bb (flat a) (ob (KZ (K9 P (do pure (.value (<- Op.unary op a))))) cst)
def wZ {P:Program}{fr:Fr}{d:Option Tmp}{op:UnOp}{t ty:TypeId}{ps:String}{af:Array Edge}{x:Operand}:Cs P fr ⟨d,.unOp op t x,ty,ps,af,none⟩ x=ob (ev fr x) fun a=>unA P op a:=by
 show ob (ev fr x) _=_;cases h:ev fr x with
 |none=>rfl
 | some a=>
   have hx:(fun y=>(ev fr y).getD Q8) x=a:=by show(ev fr x).getD Q8=a;rw[h];rfl
   show bb (flat a) (Kh P fr _)=unA P op a;unfold Kh unA;simp only[execOp,hx]
def wv {P:Program}{b:Bool}:unA P .not (.bool b)=some (.bool !b):=rfl
def wz {P:Program}{k:IntKind}:unA P .neg (.int k n)=some (.int k (k.wrap (0-n))):=rfl
section
variable {P:Program}{fr:Fr}{x y:Operand}{t:TypeId}
def qD:Bi P .eql t x y (str a) (str b)=some (.bool (decide (a=b))):=by
 show Bi P .eql t x y (.string _) (.string _)=_;rw[uA];congr 2;exact decide_eq_decide.2 sR
def qE:Bi P .neq t x y (str a) (str b)=some (.bool (!decide (a=b))):=by
 show Bi P .neq t x y (.string _) (.string _)=_;rw[uB];congr 3;exact decide_eq_decide.2 sR
def kA (h:a.length+b.length<=4294967296):Bi P .add t x y (str a) (str b)=some (str (a++b)):=by
 show orV (bb (Nat.ble (a.length+b.length) 4294967296) (some (str (a++b)))) _=_;rw[JK h];rfl
end
def SL (Z:St) (size:Nat) (v:Value) (D4:List (List Value)):Prop :=
 (v= .slice none 0 0/\D4=[])\/∃ b off sp c cells,v= .slice (some ⟨b,off,sp⟩) D4.length c/\b<Z.n/\Z.row b=some cells/\∀ k r,D4[k]? =some r->sub cells (off+k*size) size=some r
def SL.mono (h:SL Z size v D4) (hE:Ext Z Z'):SL Z' size v D4:=by
 rcases h with h|⟨b,off,sp,c,cells,h1,h2,h3,h4⟩
 ·exact .inl h
 ·exact .inr ⟨b,off,sp,c,cells,h1,z5z h2 hE.n,by rw[hE.row h2];exact h3,h4⟩
def SL.use (h:SL Z size v D4):∃ a c b off cells,v= .slice a D4.length c/\(0<D4.length->∃ sp,a=some ⟨b,off,sp⟩/\b<Z.n/\Z.row b=some cells)/\∀ k r,D4[k]? =some r->sub cells (off+k*size) size=some r:=by
 rcases h with⟨rfl,rfl⟩|⟨b,off,sp,c,cells,h1,h2,h3,h4⟩
 ·exact⟨none,0,0,0,[],rfl,fun h=>by simp at h,fun k r h=>by simp at h⟩
 ·exact⟨_,c,b,off,cells,h1,fun _=>⟨sp,rfl,h2,h3⟩,h4⟩
def SL.nil:SL Z size (.slice none 0 0) []:= .inl ⟨rfl,rfl⟩
def HX (Z:St) (v:Value) (l:List (List UInt8)):Prop:=SL Z 1 v (l.map fun s=>[str s])
def HX.mono {l:List (List UInt8)}(h:HX Z v l) (hE:Ext Z Z'):HX Z' v l:=SL.mono h hE
def HX.use {l:List (List UInt8)}(h:HX Z v l):∃ a c b off cells,v= .slice a l.length c/\(0<l.length->∃ sp,a=some ⟨b,off,sp⟩/\b<Z.n/\Z.row b=some cells)/\∀ k s,l[k]? =some s->sub cells (off+k) 1=some [str s]:=by
 obtain⟨a,c,b,off,cells,h1,h2,h3⟩:=SL.use h;rw[z2z]at h1 h2;refine⟨a,c,b,off,cells,h1,h2,fun k s hs=>?_⟩;have:=h3 k [str s] (by rw[List.getElem?_map,hs];rfl);rw[Df]at this;exact this
end
section
variable {Z Z':St}{lo size b:Nat}{D4:List (List Value)}{v:Value}
def I2 (v:Value):Option Nat:=match v with
 | .slice (some ⟨b,_,_⟩) _ _=>some b
 |_=>none
def OL (lo:Nat) (Z:St) (size:Nat) (v:Value) (D4:List (List Value)):Prop :=
 (∀ r∈D4,r.length=size)/\((v= .slice none 0 0/\D4=[])\/∃ b sp,v= .slice (some ⟨b,0,sp⟩) D4.length D4.length/\(sp=none\/sp=some size)/\lo<=b/\b<Z.n/\Z.A7 b=some D4.flatten)
def OL.nil:OL lo Z size (.slice none 0 0) []:=⟨fun r h=>by simp at h,.inl ⟨rfl,rfl⟩⟩
def OL.mk {sp:Option Nat}{n:Nat}{cells:List Value}(hn:n=D4.length) (hc:cells=D4.flatten) (hr:∀ r∈D4,r.length=size) (hs:sp=none\/sp=some size) (h1:lo<=b) (h2:b<Z.n) (h3:Z.A7 b=some cells):OL lo Z size (.slice (some ⟨b,0,sp⟩) n n) D4:=by
 subst hn;subst hc;exact⟨hr,.inr ⟨b,sp,rfl,hs,h1,h2,h3⟩⟩
def OL.sl (h:OL lo Z size v D4):SL Z size v D4:=by
 obtain⟨hr,⟨rfl,rfl⟩|⟨b,sp,rfl,hs,h1,h2,h3⟩⟩:=h
 ·exact SL.nil
 ·refine .inr ⟨b,0,sp,D4.length,_,rfl,h2,A6 h3,fun k r hk=>?_⟩;have:=Pf hr hk (o:=0) (n:=size) om;have hl:r.length=size:=hr r (W8 hk);rw[Ej]at this;rw[Gy,this];exact D8 om om
def OL.J3 (h:OL lo Z size v D4) (hn:Z.n<=Z'.n) (hk:∀ b,I2 v=some b->Z'.h.get b=Z.h.get b):OL lo Z' size v D4:=by
 obtain⟨hr,⟨rfl,rfl⟩|⟨b,sp,rfl,hs,h1,h2,h3⟩⟩:=h
 ·exact .nil
 ·exact⟨hr,.inr ⟨b,sp,rfl,hs,h1,om,by rw[B8 (hk b rfl)];exact h3⟩⟩
def OL.ext (h:OL lo Z size v D4) (hE:Ext Z Z'):OL lo Z' size v D4:=by
 refine h.J3 hE.n fun b hb=>?_;obtain⟨hr,⟨rfl,rfl⟩|⟨b',sp,rfl,hs,h1,h2,h3⟩⟩:=h
 ·cases hb
 ·cases hb;exact hE.same b h2
def OL.blk (h:OL lo Z size v D4)(hb:I2 v=some b):lo<=b/\b<Z.n:=by
 obtain⟨hr,⟨rfl,rfl⟩|⟨b',sp,rfl,hs,h1,h2,h3⟩⟩:=h
 ·cases hb
 ·cases hb;exact⟨h1,h2⟩
structure App (Z Z':St) (v v':Value):Prop where
 n:Z.n<=Z'.n
 same:∀ c,c<Z.n->I2 v≠some c->Z'.h.get c=Z.h.get c
 new:∀ b,I2 v'=some b->Z.n<=b/\b<Z'.n
def App.ext {Z0:St}{v':Value}(h:App Z Z' v v') (hE:Ext Z0 Z) (hl:OL lo Z size v D4) (hlo:Z0.n<=lo):Ext Z0 Z' :=
 ⟨X0 hE.n h.n,fun c hc=>by
  rw[h.same c (z5z hc hE.n) (fun hb=>by have:=(hl.blk hb).1;omega),hE.same c hc]⟩
def G4 {P:Program}{te:TypeId}{Z:St}{t size by' lo:Nat}{v:Value}{D4:List (List Value)}{row cells:List Value}{c o cc:Nat}{sp:Option Nat}{Q:Value×St->Prop}{uq:Hd Q}
  (hap:∀ (b:Option Addr) (len cap:Nat) (w:Value),KE P Z t (.slice b len cap) w=ob (DF Z size w) fun p=>pr p fun n new=>bi (Nat.ble (len+n) cap) (FR Z size b len cap n new) (bb (Nat.ble ((len+n)*by') room) (DZ te Z size b len n new)))
  (hl:OL lo Z size v D4) (hc:Z.row c=some cells) (hs:sub cells o size=some row) (hb:(D4.length+1)*by'<=4294967296) (hlo:lo<=Z.n)
  (h:∀ v' Z',OL lo Z' size v' (D4++[row])->App Z Z' v v'->v'≠ .slice none 0 0->Q (v',Z')):Ev (KE P Z t v (.slice (some ⟨c,o,sp⟩) 1 cc)) Q uq:=by
 have HD:row.length=size:=by
  obtain⟨h1,h2⟩:=sub_eq hs;subst h2;rw[Dh,Ei];omega
 have hfl:(D4++[row]).flatten=D4.flatten++row:=sI;obtain⟨hr,hv⟩:=hl;have hr':∀ r∈D4++[row],r.length=size:=by
  intro r hm;rcases DK.1 hm with hm|hm
  ·exact hr r hm
  ·rw[GK]at hm;subst hm;exact HD
 have Ae9:DF Z size (.slice (some ⟨c,o,sp⟩) 1 cc)=some (1,row):=by
  rw[TA,FL,hc,F8,Wt,hs,F8]
 have GC:Nat.ble ((D4.length+1)*by') room=true:=JK hb;rcases hv with⟨rfl,rfl⟩|⟨b,sp',rfl,hsp,h1,h2,h3⟩
 ·rw[hap,Ae9,F8,Sf,aO om,BV];rw[show Nat.ble ((0+1)*by') room=true from GC,FK,uj,J7];refine h _ _ ⟨hr',.inr ⟨Z.n,some size,rfl,.inr rfl,hlo,by simp,?_⟩⟩ ⟨by simp,fun c hc _=>by rw[EG,z0z om],fun b hb=>by cases hb;simp⟩ (by simp);rw[hfl,M7 nL nL];rfl
 ·have h4:=A6 h3;have hlen:=HN D4 hr;have hold:sub D4.flatten 0 (D4.length*size)=some D4.flatten:=D8 om om;rw[hap,Ae9,F8,Sf,aO om,BV,GC,FK];rcases hsp with rfl|rfl
  ·rw[Wz,FL,h4,F8,hold,F8,J7];refine h _ _ ⟨hr',.inr ⟨Z.n,some size,by simp,.inr rfl,hlo,by simp,?_⟩⟩ ⟨by simp,fun c hc _=>by rw[EG,z0z om],fun b hb=>by cases hb;simp⟩ (by simp);rw[hfl,M7 nL nL]
  ·rw[um,FL,h4,F8,hold,F8,xB,h3,F8,F8,J7];refine h _ _ ⟨hr',.inr ⟨Z.n,some size,by simp,.inr rfl,hlo,by simp,?_⟩⟩ ⟨by simp,fun c hc hne=>?_,fun b hb=>by cases hb;simp⟩ (by simp)
   ·rw[hfl,M7 (by simp) (by simp)]
   ·rw[EG,z0z (by rw[VH];omega),Jb,z0z (fun h=>hne (by rw[h];rfl))]
def HX.shape {l:List (List UInt8)}(h:HX Z v l):∃ a c,v= .slice a l.length c:=by
 obtain⟨a,c,b,off,cells,h1,-,-⟩:=h.use;exact⟨a,c,h1⟩
end
end Go.Ab
namespace Go.Ab
open Go
def CP (J:Nat->Fr->St->Prop) (R:Res->Prop) (k:Nat) (r:Res):Prop:=match r.o with
 | .normal=>J (k+1) r.fr r.Z
 |_=>R r
section
variable {P:Program}{H:EW}{rd:Option Nat}{fr:Fr}{Z:St}
def jy {J:Nat->Fr->St->Prop}{R:Res->Prop}{k:Nat}:CP J R k ⟨.normal,fr,Z⟩=J (k+1) fr Z:=rfl
def wh {J:Nat->Fr->St->Prop}{R:Res->Prop}{k i:Nat}:CP J R k ⟨.exit i,fr,Z⟩=R ⟨.exit i,fr,Z⟩:=rfl
def AN3 {J:Nat->Fr->St->Prop}{R:Res->Prop}{k:Nat}:CP J R k ⟨.ret,fr,Z⟩=R ⟨.ret,fr,Z⟩:=rfl
def F4 {body:Code}{Q:Res->Prop}{u:Hd Q}(n:Nat) (J:Nat->Fr->St->Prop) (R:Res->Prop) (h0:J 0 fr Z)
  (hs:∀ k fr Z,k<n->J k fr Z->Ev (lim P H rd body fr Z) (CP J R k) ⟨⟩) (hx:∀ fr Z,J n fr Z->Ev (lim P H rd body fr Z) (CP (fun _ _ _=>False) R n) ⟨⟩) (hR:∀ r,R r->Q r) :
  Ev (lim P H rd (.loop body) fr Z) Q u:=by
 refine V9 (fun j fr Z=>∃ k,j+k=n/\J k fr Z) R n ⟨0,om,h0⟩ ?_ hR;rintro j fr Z ⟨k,hk,hJ⟩;by_cases h:k<n
 ·refine(hs k fr Z h hJ).mono ?_;rintro⟨o,fr',Z'⟩ hq;cases o with
  |normal=>exact⟨n-(k+1),om,k+1,om,hq⟩
  |exit i=>exact hq
  |ret=>exact hq
  |pan v=>exact hq
 ·obtain rfl:k=n:=om;refine(hx fr Z hJ).mono ?_;rintro⟨o,fr',Z'⟩ hq;cases o with
  |normal=>exact hq.elim
  |exit i=>exact hq
  |ret=>exact hq
  |pan v=>exact hq
end
def J2 {a b:Nat}(h:a<b):decide (a<b)=true:=by simpa using h
def EJ {a:Nat}:decide (a<a)=false:=sI
end Go.Ab
namespace Go.Ab
open Go
end Go.Ab
namespace Go.Ab
open Go
end Go.Ab
namespace Go.Ab
open Go
end Go.Ab
namespace Go.Ab
open Go
def asx {a b:St}(hE:Ext a b):∀ (bs:List Nat) (i j:Nat) (r:AO) (ds:List Trace),K1 bs i r (.eff j a b::ds)=K1 bs i r ds:=fun bs i j r ds=>LU (hE.same r.b)
end Go.Ab
namespace Go.Ab
open Go
def App.far {Z Z':St}{v v':Value}{b:Nat}(h:App Z Z' v v') (hb:b<Z.n):I2 v'≠some b:=fun he=>by have:=(h.new b he).1;omega
end Go.Ab
namespace Go.Ab
open Go
def we {n:Nat}:VT (.func n)=true:=rfl
end Go.Ab
namespace Go.Ab
open Go
section
variable {P:Program}{A8:Env}{G:Nat}
noncomputable def nrm {β:Type}(r:Res) (f:Fr->St->Option β):Option β:=Res.rec (motive:=fun _=>Option β) (fun o fr Z=>xC o (f fr Z)) r
def VK {β:Type}{r:Res}{f:Fr->St->Option β}{x:β}(h:nrm r f=some x):∃ fr Z,r=⟨.normal,fr,Z⟩/\f fr Z=some x:=by
 obtain⟨o,fr,Z⟩:=r;cases o with
 |normal=>exact⟨fr,Z,rfl,h⟩
 |exit i=>cases h
 |ret=>cases h
 |pan v=>cases h
def N0.nrm {β:Type}(r:Res){f:RunT->Fr->St->Option β}(h:∀ fr Z,N0 fun run=>f run fr Z):N0 fun run=>Ab.nrm r (f run):=by
 obtain⟨o,fr,Z⟩:=r;cases o with
 |normal=>exact h fr Z
 |exit i=>exact .const none
 |ret=>exact .const none
 |pan v=>exact .const none
def deferred (a:Act) (d k:Nat) (x:Value):Act:={ tmps:=a.tmps.setIfInBounds d (.func (.func k) #[] #[x]),defers:={ target:= .fn (.func k) #[x],args:=#[] }::a.defers }
end
section
variable {Z Z':St}{O:Place}{w:World}{v a a' v' x:Value}
section
variable {P:Program}{A8:Env}{G:Nat}
noncomputable def nrp {β:Type}(r:Res) (f:Fr->St->Option β) (g:Value->Fr->St->Option β):Option β :=
 Res.rec (motive:=fun _=>Option β) (fun o fr Z=>Out.rec (motive:=fun _=>Option β) (f fr Z) (fun _=>none) none (fun v=>g v fr Z) o) r
def N0.nrp {β:Type}(r:Res){f:RunT->Fr->St->Option β}{g:RunT->Value->Fr->St->Option β}(h:∀ fr Z,N0 fun run=>f run fr Z) (k:∀ v fr Z,N0 fun run=>g run v fr Z):N0 fun run=>Ab.nrp r (f run) (g run):=by
 obtain⟨o,fr,Z⟩:=r;cases o with
 |normal=>exact h fr Z
 |exit i=>exact .const none
 |ret=>exact .const none
 |pan v=>exact k v fr Z
noncomputable def UZ (T:TypeId) (v:Value):Option Value:=match v with
 | .iface t v=>bb (Nat.beq t T) (some v)
 |_=>none
noncomputable def MQ (P:Program) (ty:TypeId) (x v:Value) (Z:St):Option St :=
 ob (u7 P ty) fun z=>ob (LV P (Z.new (G6 z) (some ty)) ty (ptrTo Z.n) v) fun Z2=>ob (OC P Z2 ty (ptrTo Z.n)) fun u=>LV P Z2 ty x u
noncomputable def Jd (P:Program) (c0 c2 c3:Code) (d cap:Nat) (T ty:TypeId) (rs:List ResultVar) (run:RunT) (vs:List Value) (Z:St):Option CR :=
 ob (run none c0 (HZ vs 0 .nil) Z) fun r=>nrm r fun fr0 Z=>bb (fr0.get d).isNone (ob (fr0.get cap) fun x=>ob (run none c2 fr0 Z) fun r=>
  nrp r (fun fr Z=>ob (run none c3 fr Z) fun r=>nrm r fun fr Z=>ob (IQ P fr Z rs) fun us=>some ⟨false,tup us,Z⟩)
   (fun v fr Z=>ob (UZ T v) fun v=>ob (MQ P ty x v Z) fun Z=>ob (IQ P fr Z rs) fun us=>some ⟨false,tup us,Z⟩))
def Rz (c0 c2 c3:Code) (d cap:Nat) (T ty:TypeId) (rs:List ResultVar) (vs:List Value) (Z:St):N0 fun run=>Jd P c0 c2 c3 d cap T ty rs run vs Z :=
 N0.ob (.run _ _ _ _) fun r=>N0.nrm r fun fr Z=>N0.bb _ (N0.ob (.const _) fun x=>N0.ob (.run _ _ _ _) fun r=>N0.nrp r (fun fr Z=>N0.ob (.run _ _ _ _) fun r=>N0.nrm r fun fr Z=> .const _) (fun v fr Z=> .const _))
noncomputable def nD (P:Program) (c0 c2 c3:Code) (d cap:Nat) (T ty:TypeId) (rs:List ResultVar):nC:=⟨Jd P c0 c2 c3 d cap T ty rs,Rz c0 c2 c3 d cap T ty rs⟩
def Qu {t:TypeId}(hR:Rel A8 O Z w) (ha:H4 O a a') (hv:H4 O v v') (h:LV P Z t a v=some Z'):
  ∃ w',(Instr.storeAt t a' v').run P w= .ok () w'/\Rel A8 O Z' w'/\AD O Z w O Z' w':=by
 obtain⟨⟨b,off⟩,h4,k4⟩:=A5 h;obtain⟨n,h5,k5⟩:=A5 (show ob (size? P t) _=some Z' from k4);obtain⟨ht,k6⟩:=MC k5;obtain⟨h6,h7⟩:=H3 k6;have hn:=AH h6;obtain⟨q,hq,hx⟩:=Lb ha h4;obtain⟨c1,c2⟩:=hv.cells ht;obtain⟨w1,w2,w3⟩:=hR.write hq h7 c1 c2;refine⟨_,?_,w2,w3⟩;have hl:=c1.length;have hsz:v'.cells.size=n:=by rw[<- Ox,<- hl,hn]
 simp only[hx,Instr.storeAt,Instr.sureAddr,Sem.run_bind,Sem.run_pure,Result.andThen_ok,storeVar,BL h5,ne_eq];rw[z0z (by simp[hsz])];rw[w1 P]
def kC {t:TypeId}{u:Value}(hR:Rel A8 O Z w) (ha:H4 O a a') (h:OC P Z t a=some u):
  ∃ u',(Instr.loadAt t a').run P w= .ok u' w/\H4 O u u':=by
 obtain⟨⟨b,off⟩,h4,k4⟩:=A5 h;obtain⟨q,hq,hx⟩:=Lb ha h4;obtain⟨g,h5,h6⟩:=A5 (show ob (Lo P t) _=some u from k4);have hg:=VJ h5 w;cases g with
 | true=>
   obtain⟨n,h7,h8⟩:=A5 (show ob (size? P t) _=some u from h6);obtain⟨cs,h9,h10⟩:=A5 h8;cases h10;obtain⟨B,hB,En⟩:=V8 h9;obtain⟨vs,k1,k2,k3⟩:=(hR.row b q B hq hB).read (P:=P) En;refine⟨.agg vs.toArray,?_,.agg k3 k2⟩;simp only[hx,Instr.loadAt,Instr.sureAddr,Sem.run_bind,Sem.run_pure,Result.andThen_ok,loadVar,hg,Dl,BL h7,k1]
 | false=>
   obtain⟨cs,h9,h10⟩:=A5 (show ob (Z.read b off 1) KR=some u from h6);obtain⟨B,hB,En⟩:=V8 h9;obtain⟨v',k1,k2⟩:=((hR.row b q B hq hB).seg En).1.one (P:=P) h10;refine⟨v',?_,k2⟩;simp only[hx,Instr.loadAt,Instr.sureAddr,Sem.run_bind,Sem.run_pure,Result.andThen_ok,loadVar,hg,Hf,GX,k1]
structure NO (P:Program) (ty:TypeId) (x v:Value) (w w':World):Prop where
 run:∃ w1 w2 u,(Instr.alloc ty true (.tuple #[])).run P w= .ok (.pointer (some ⟨w.heap.size,0,none⟩)) w1/\(Instr.storeAt ty (.pointer (some ⟨w.heap.size,0,none⟩)) v).run P w1= .ok () w2 /\
  (Instr.loadAt ty (.pointer (some ⟨w.heap.size,0,none⟩))).run P w2= .ok u w2/\(Instr.storeAt ty x u).run P w2= .ok () w'
def OE {ty:TypeId}(h:MQ P ty x v Z=some Z'):Adv Z Z':=by
 obtain⟨z,h1,h⟩:=A5 h;obtain⟨Z2,h2,h⟩:=A5 h;obtain⟨u,h3,h⟩:=A5 h;exact((Adv.new _ _ _).trans (Gp h2)).trans (Gp h)
def YN {ty:TypeId}{x':Value}(hR:Rel A8 O Z w) (hf:O Z.n=none) (hx:H4 O x x') (hv:H4 O v v') (h:MQ P ty x v Z=some Z'):
  ∃ w' O',NO P ty x' v' w w'/\Rel A8 O' Z' w'/\AD O Z w O' Z' w'/\O.le O':=by
 obtain⟨z,h1,h⟩:=A5 h;obtain⟨Z2,h2,h⟩:=A5 h;obtain⟨u,h3,h⟩:=A5 h;obtain⟨hz,_,_⟩:=Dk (O:=O) h1 w;obtain⟨zc1,zc2,zc3⟩:=DP (O:=O) h1;have hal:(Instr.alloc ty true (.tuple #[])).run P w= .ok (.pointer (some ⟨w.heap.size,0,none⟩)) { w with heap:=w.heap.push (.cells z.cells ty) }:=by
  simp only[Instr.alloc,Sem.run_bind,hz,Result.andThen_ok,newVar,newRow,run_newObj,Sem.run_pure]
 have hle:=Place.JS ⟨w.heap.size,0,z.cells.size⟩ hf
 obtain⟨g1,g2⟩:=hR.new (t:=some ty) (w':={ w with heap:=w.heap.push (.cells z.cells ty) }) hf (cs:=G6 z) (arr:=z.cells) (e:=ty) (lo:=0) (hi:=0)
  (by simp) (by simp) (fun c hc=>by simp[Array.getElem?_push];intro h;omega) ⟨rfl,rfl,rfl⟩ (.inr nL) zc3 ⟨z.cells.toList,[],by simp,zc2⟩ (fun x hx=>by cases hx;rfl)
 have hp:H4 (O.put Z.n ⟨w.heap.size,0,z.cells.size⟩) (ptrTo Z.n) (.pointer (some ⟨w.heap.size,0,none⟩)):=NA _ _ (Place.S8 _ _ _);obtain⟨w2,e1,e2,e3⟩:=Qu g1 hp (hv.mono hle) h2;obtain⟨u',e4,e5⟩:=kC e2 hp h3;obtain⟨w3,e6,e7,e8⟩:=Qu e2 (hx.mono hle) e5 h;exact⟨w3,_,⟨_,w2,u',hal,e1,e4,e6⟩,e7,(g2.trans e3).trans e8,hle⟩
def Zx {g d k cap:Nat}{T ty:TypeId}{fn:Func}{c0 c1 c2 c3:Code}(hf:P.funcs[g]? =some fn) (hn:(fn.name== "runtime.NumGoroutine")=false) (hb:fn.body=some (.seq c0 (.seq c1 (.seq c2 (.seq c3 .ret)))))
  (h1:∀ (Q:Exit->Act->World->Prop) (a:Act) (w:World) (x:Value),fn.ntmps<=a.tmps.size->a.tmps[cap]? =some x->Q .normal (deferred a d k x) w->c1.wpIn Fence.wide 0 P Q a w)
  (hinv:∀ (x:Value) (w:World),(invoke (.fn (.func k) #[x]) #[]).run P w= .ok (.enter k #[x]) w)
  (hk:∀ (x:Value) (w:World),CallsDIn Fence.wide 0 P k #[x] .returning w fun e u' w'=>(∃ v,e= .returned v)/\u'= .returning/\w'=w)
  (hp:∀ (x v:Value) (w w':World),NO P ty x v w w'->CallsDIn Fence.wide 0 P k #[x] (.panicking [{ v:= .iface T v,recovered:=false }]) w fun e u' w''=>(∃ v,e= .returned v)/\settle u'= .returning/\w''=w')
  (hc0:codeOk P fn.ntmps G c0=true) (hc2:codeOk P fn.ntmps G c2=true) (hc3:codeOk P fn.ntmps G c3=true)
  {run:RunT} (hE:PJ P A8 G run) {vs:List Value}{Z:St}{r:CR} (h:Jd P c0 c2 c3 d cap T ty fn.results.toList run vs Z=some r) :
  Adv Z r.Z/\∀ O w vs' N,Rel A8 O Z w->Ce O Z.n N->r.Z.n<=N->Bo O G->G0 O vs vs'->Bp P A8 O g vs' Z w r:=by
 obtain⟨r0,e0,h⟩:=A5 h;obtain⟨fr0,Z0,rfl,h⟩:=VK h;obtain⟨hd0,h⟩:=H3 h;obtain⟨xv,hxv,h⟩:=A5 h;obtain⟨r2,e2,h⟩:=A5 h;obtain⟨A0,B0⟩:=hE none c0 _ Z _ e0;obtain⟨A2,B2⟩:=hE none c2 _ Z0 _ e2;have Ae8:Adv Z r.Z:=by
  obtain⟨o,fr2,Z2⟩:=r2;cases o with
  | normal=>
    obtain⟨r3,e3,h⟩:=A5 h;obtain⟨fr3,Z3,rfl,h⟩:=VK h;obtain⟨us,eu,h⟩:=A5 h;cases h;exact(A0.trans A2).trans (hE none c3 _ Z2 _ e3).1
  | pan v=>
    obtain⟨v1,ev1,h⟩:=A5 h;obtain⟨Z3,e3,h⟩:=A5 h;obtain⟨us,eu,h⟩:=A5 h;cases h;exact(A0.trans A2).trans (OE e3)
  |exit i=>cases h
  |ret=>cases h
 refine⟨Ae8,fun O w vs' N hR hF hN hG hv=>⟨fn,hf,hn,.inl ⟨by rw[hb];rfl,(callsIn_wide (n:=0)).1 (callsIn_of_wp_marks hf hb trivial ?_)⟩⟩⟩;have hl:=hv.length;have hN2:r2.Z.n<=N:=by
  refine X0 ?_ hN;obtain⟨o,fr2,Z2⟩:=r2;cases o with
  | normal=>
    obtain⟨r3,e3,h⟩:=A5 h;obtain⟨fr3,Z3,rfl,h⟩:=VK h;obtain⟨us,eu,h⟩:=A5 h;cases h;exact(hE none c3 _ Z2 _ e3).1.n
  | pan v=>
    obtain⟨v1,ev1,h⟩:=A5 h;obtain⟨Z3,e3,h⟩:=A5 h;obtain⟨us,eu,h⟩:=A5 h;cases h;exact(OE e3).n
  |exit i=>cases h
  |ret=>cases h
 have hN0:Z0.n<=N:=X0 A2.n hN2;refine wpIn_seq ?_;refine B0 fn.ntmps hc0 w.heap.size [] O _ w N none nL hR hF hN0 ?_ ?_ (.nil _ _ _) hG rfl _ fun e a' w' O' q0 q1 q2 q3 q4 q5=>?_
 ·intro t u hu;rw[Vr]at hu;by_cases ht:0<=t/\t<0+vs.length
  ·rw[z1z ht]at hu;obtain⟨u',k1,k2⟩:=hv.get hu;refine⟨u',?_,k2⟩;show((⟨vs'⟩:Array Value)++Array.replicate _ undef)[t]? =some u';rw[Array.getElem?_append_left (by simp;omega)]
   simpa using k1
  ·rw[z0z ht]at hu;cases hu
 ·show fn.ntmps<=((⟨vs'⟩:Array Value)++Array.replicate (fn.ntmps-(⟨vs'⟩:Array Value).size) undef).size;rw[Vi,cm];omega
 cases(show e= .normal from q0);have hsz:fn.ntmps<=a'.tmps.size:=by
  rw[q4];show fn.ntmps<=((⟨vs'⟩:Array Value)++Array.replicate (fn.ntmps-(⟨vs'⟩:Array Value).size) undef).size;rw[Vi,cm];omega
 obtain⟨x,hx,hxr⟩:=q3 cap xv hxv;show(Code.seq c1 _).wpIn _ _ _ _ _ _;refine wpIn_seq (h1 _ a' w' x hsz hx ?_);show(Code.seq c2 _).wpIn _ _ _ _ _ _;refine wpIn_seq ?_;have hfr:Hb O' fr0 (deferred a' d k x):=by
  intro t v ht;obtain⟨v',k1,k2⟩:=q3 t v ht;refine⟨v',?_,k2⟩;show(a'.tmps.setIfInBounds d _)[t]? =some v';rw[Array.getElem?_setIfInBounds,z0z (fun he=>by subst he;rw[ht]at hd0;cases hd0)];exact k1
 refine B2 fn.ntmps hc2 w'.heap.size (deferred a' d k x).defers O' _ w' N none nL q1 (q2.free hF) hN2 hfr (by show fn.ntmps<=(a'.tmps.setIfInBounds d _).size;rw[zl];exact hsz) (.nil _ _ _) (hG.mono (q2.le hF hN0)) rfl _ fun e a2 w2 O2 p0 p1 p2 p3 p4 p5=>?_;obtain⟨o,fr2,Z2⟩:=r2;cases o with
 |exit i=>cases h
 |ret=>cases h
 | normal=>
   obtain⟨r3,e3,h⟩:=A5 h;obtain⟨fr3,Z3,rfl,h⟩:=VK h;obtain⟨us,eu,h⟩:=A5 h;cases h;obtain⟨A3,B3⟩:=hE none c3 _ Z2 _ e3;have hN3:Z3.n<=N:=hN;cases(show e= .normal from p0);show(Code.seq c3 _).wpIn _ _ _ _ _ _;refine wpIn_seq ?_;have hF2:Ce O2 Z2.n N:=p2.free (q2.free hF);refine B3 fn.ntmps hc3 w'.heap.size (deferred a' d k x).defers O2 _ w2 N none p2.size p1 hF2 hN3 p3 (by rw[p4];show fn.ntmps<=(a'.tmps.setIfInBounds d _).size;rw[zl];exact hsz) p5 ((hG.mono (q2.le hF hN0)).mono (p2.le (q2.free hF) hN2)) rfl _ fun e a3 w3 O3 s0 s1 s2 s3 s4 s5=>?_;cases(show e= .normal from s0);refine wpIn_ret ?_;have FF:AD O Z w O3 Z3 w3:=(q2.trans p2).trans s2;show LeavesInM Fence.wide 0 P fn a3.tmps _ a3.defers .returning w3;rw[show a3.defers=_ from s5];refine⟨by simp,.inr ⟨(fun hh=>absurd hh (by decide)),_,_,k,#[x],rfl,hinv x w3,fun _ _=>trivial,?_⟩⟩;refine(hk x w3).mono ?_;rintro e u' w5 ⟨⟨v,rfl⟩,rfl,rfl⟩;show LeavesInM Fence.wide 0 P fn a3.tmps _ a'.defers .returning _;rw[show a'.defers=[]from q5];obtain⟨v',z1,z2⟩:=Ha (P:=P) s1 s3 eu;exact⟨v',z1,v',O3,rfl,s1,FF,z2⟩
 | pan v=>
   obtain⟨v1,ev1,h⟩:=A5 h;obtain⟨Z3,e3,h⟩:=A5 h;obtain⟨us,eu,h⟩:=A5 h;cases h;obtain⟨v',hev,hvr⟩:∃ v',e=aQ v'/\H4 O2 v v':=p0;subst hev;obtain⟨rfl⟩:v= .iface T v1:=by
    unfold UZ at ev1;split at ev1
    ·obtain⟨hb1,hb2⟩:=H3 ev1;cases hb2;rw[AH hb1]
    ·cases ev1
   obtain⟨v2,rfl,hv2⟩:∃ v2,v'= .iface T v2/\H4 O2 v1 v2:=by
    cases hvr with
    |H5 hs=>simp[H5]at hs
    |iface h=>exact⟨_,rfl,h⟩
   show LeavesInM Fence.wide 0 P fn a2.tmps _ a2.defers (.panicking [{ v:= .iface T v2,recovered:=false }]) w2;rw[show a2.defers=_ from p5];have Ax0:H4 O2 xv x:=hxr.mono (p2.le (q2.free hF) hN2);have Ax1:O2 Z2.n=none:=p2.free (q2.free hF) Z2.n nL (by
    have:Z2.n+1<=Z3.n:=by
     obtain⟨z,h1,h⟩:=A5 e3;obtain⟨Z4,h2,h⟩:=A5 h;obtain⟨u,h3,h⟩:=A5 h;exact X0 (Gp h2).n (Gp h).n
    have hN':Z3.n<=N:=hN;omega)
   obtain⟨w5,O3,y1,y2,y3,y4⟩:=YN p1 Ax1 Ax0 hv2 e3;refine⟨by simp,.inr ⟨(fun hh=>absurd hh (by decide)),_,_,k,#[x],rfl,hinv x w2,fun _ _=>trivial,?_⟩⟩;refine(hp x v2 w2 w5 y1).mono ?_;rintro e u' w6 ⟨⟨v,rfl⟩,KM,rfl⟩;show LeavesInM Fence.wide 0 P fn a2.tmps _ a'.defers (settle u') w6;rw[KM,show a'.defers=[]from q5];obtain⟨v',z1,z2⟩:=Ha (P:=P) y2 (p3.mono y4) eu;exact⟨v',z1,v',O3,rfl,y2,(q2.trans p2).trans y3,z2⟩
end
end
section
variable {P:Program}{A8:Env}{G:Nat}{O:Place}{Z:St}{w w':World}
def Rel.below (hR:Rel A8 O Z w) (hb:Go.RowKit.Below w.heap.size w w'):Rel A8 O Z w'/\AD O Z w O Z w':=by
 have hsz:=hb.size
 refine⟨⟨hR.fresh,fun b q B h1 h2=>(hR.KP b q B h1 h2).mono (Place.le_refl _) (hb.block q.c (hR.dom b q h1)),fun b q h1=>z5z (hR.dom b q h1) hsz,hR.own,hR.sep,hR.low.next hsz fun c hc=>hb.block c (z5z hc hR.low.1)⟩,
  ⟨fun _ _=>rfl,AR _,hsz,fun c hc _=>hb.block c hc,fun b q B h1 h2 _=>⟨b,q,B,h1,rfl,h2,fun h=>h⟩,⟨hb.os,hb.tape,hb.output⟩,fun _ _ _=>rfl⟩⟩
def Md {g:Nat}{fn:Func}(hf:P.funcs[g]? =some fn) (hn:(fn.name== "runtime.NumGoroutine")=false) (hbd:fn.body.isSome=true){vs':List Value}{v v':Value}(hR:Rel A8 O Z w)
  (hc:Calls P g ⟨vs'⟩ w fun e w'=>e= .returned v'/\Go.RowKit.Below w.heap.size w w') (hv:H4 O v v'):Bp P A8 O g vs' Z w ⟨false,v,Z⟩:=by
 refine⟨fn,hf,hn,.inl ⟨hbd,hc.mono ?_⟩⟩;rintro e w' ⟨rfl,hb⟩;obtain⟨h1,h2⟩:=hR.below hb;exact⟨v',O,rfl,h1,h2,hv⟩
def KG {g:Nat}{fn:Func}(hf:P.funcs[g]? =some fn) (hn:(fn.name== "runtime.NumGoroutine")=false) (hbd:fn.body.isSome=true){vs':List Value}{v v':Value}{Z':St}{w1:World}
  (hc:Calls P g ⟨vs'⟩ w fun e w'=>e= .returned v'/\w'=w1) (hR:Rel A8 O Z' w1) (hF:AD O Z w O Z' w1) (hv:H4 O v v'):Bp P A8 O g vs' Z w ⟨false,v,Z'⟩:=by
 refine⟨fn,hf,hn,.inl ⟨hbd,hc.mono ?_⟩⟩;rintro e w' ⟨rfl,rfl⟩;exact⟨v',O,rfl,hR,hF,hv⟩
def Rel.AK1 (hR:Rel A8 O Z w){b:Nat}{q:Bk}(hb:O b=some q){Z':St}(hk:Z.kill b=some Z') (hs:w'.heap.size=w.heap.size) (hold:∀ c,c≠q.c->w'.heap[c]? =w.heap[c]?) (ho:Outside w w') :
  Rel A8 O Z' w'/\AD O Z w O Z' w':=by
 obtain⟨h1,h2⟩:=hR.kill ⟨q,hb⟩ hk;obtain⟨B,hr1,hO,he⟩:=Gb hk;have hB:=(j7 hr1).1;have live:∀ b' B',Z'.blk b'=some B'->b'≠b/\Z.blk b'=some B':=by
  intro b' B' h;subst he;by_cases hbb:b'=b
  ·subst hbb;rw[FH]at h;cases h
  ·exact⟨hbb,by rw[Bm _ _ hbb]at h;exact h⟩
 refine⟨⟨h1.fresh,fun b' q' B' g1 g2=>?_,fun b' q' g1=>by rw[hs];exact h1.dom b' q' g1,h1.own,h1.sep,h1.low.next (by rw[hs];exact AR _) fun c hc=>hold c fun he=>by have:=hR.own b q B hb hB hO;omega⟩,⟨h2.ext,h2.n,by rw[hs];exact h2.size,fun c hc hno=>?_,h2.owned,ho,h2.same⟩⟩
 ·obtain⟨k1,k2⟩:=live b' B' g2;exact(h1.KP b' q' B' g1 g2).mono (Place.le_refl _) (hold q'.c (hR.sep b q B b' q' hb hB hO k1 g1 (.inr ⟨B',k2⟩)))
 ·refine hold c fun hcc=>?_;have:=hno b q B hb hcc.symm hB;rw[hO]at this;cases this
noncomputable def bC (l:List Value):Option (List (List UInt8)) :=
 List.rec (motive:=fun _=>Option (List (List UInt8))) (some []) (fun v _ ih=>ob (Jw v) fun s=>ob ih fun r=>some (s::r)) l
noncomputable def eo (sep:List UInt8) (l:List (List UInt8)):List UInt8:=List.rec (motive:=fun _=>List UInt8) [] (fun x _ ih=>sep++(x++ih)) l
noncomputable def pL (l:List (List UInt8)) (sep:List UInt8):List UInt8:=List.rec (motive:=fun _=>List UInt8) [] (fun x xs _=>x++eo sep xs) l
def pM (sep:List UInt8) (l:List (List UInt8)):eo sep l=Lib.joinTail sep l:=by
 induction l with
 |nil=>rfl
 | cons x l ih=>
   show sep++(x++eo sep l)=_;rw[ih];simp[Lib.joinTail]
def pN (l:List (List UInt8)) (sep:List UInt8):pL l sep=Lib.join l sep:=by
 cases l with
 |nil=>rfl
 | cons x l=>
   show x++eo sep l=_;rw[pM,Lib.join_cons]
def jR:∀ {l:List Value}{r:List (List UInt8)},bC l=some r->∃ xs:List ByteArray,l=xs.map Value.string/\r=xs.map (·.data.toList):=by
 intro l;induction l with
 |nil=>intro r h;cases h;exact⟨[],rfl,rfl⟩
 | cons v l ih=>
   intro r h;obtain⟨s,h1,h⟩:=A5 (show ob (Jw v) (fun s=>ob (bC l) fun r=>some (s::r))=some r from h);obtain⟨r',h2,h⟩:=A5 h;cases h;obtain⟨xs,rfl,rfl⟩:=ih h2;cases v with
   |string x=>cases h1;exact⟨x::xs,rfl,rfl⟩
   |_=>cases h1
noncomputable def ep (vs:List Value) (Z:St):Option CR:=match vs with
 | [.slice (some ⟨b,off,_⟩) n c,.string sep]=>bb (Nat.ble n c) (bb (Nat.ble n room) (ob (Z.read b off n) fun cs=>ob (bC cs) fun l=>bb (Nat.ble (pL l sep.data.toList).length room) (some ⟨false,.string ⟨(pL l sep.data.toList).toArray⟩,Z⟩)))
 |_=>none
def bE:∀ {xs:List ByteArray}{vs:List Value},G0 O (xs.map Value.string) vs->vs=xs.map Value.string:=by
 intro xs;induction xs with
 |nil=>intro vs h;cases h;rfl
 | cons x xs ih=>
   intro vs h;cases h with
   |cons h hs=>cases h;rw[ih hs];rfl
def pO {g:Nat}{fn:Func}(hf:P.funcs[g]? =some fn) (hn:(fn.name== "runtime.NumGoroutine")=false) (hbd:fn.body.isSome=true)
  (hc:∀ (bk o c:Nat) (xs:List ByteArray) (sep:ByteArray) (w:World),(∀ (j:Nat) x,xs[j]? =some x->w.cell? ⟨bk,o+j,none⟩=some (.string x))->bk<w.heap.size->xs.length<=140737488355328->xs.length<=c->(Lib.join (xs.map (·.data.toList)) sep.data.toList).length<=140737488355328 ->
    Calls P g #[.slice (some ⟨bk,o,none⟩) xs.length c,.string sep] w fun e w'=>e= .returned (.string ⟨(Lib.join (xs.map (·.data.toList)) sep.data.toList).toArray⟩)/\Go.RowKit.Below w.heap.size w w')
  (h0:∀ (a:Option Addr) (c:Nat) (sep:ByteArray) (w:World),Calls P g #[.slice a 0 c,.string sep] w fun e w'=>e= .returned (.string ⟨#[]⟩)/\w'=w)
  {vs:List Value}{Z:St}{r:CR} (h:ep vs Z=some r):Adv Z r.Z/\∀ O w vs' N,Rel A8 O Z w->Ce O Z.n N->r.Z.n<=N->Bo O G->G0 O vs vs'->Bp P A8 O g vs' Z w r:=by
 unfold ep at h;split at h
 ·rename_i b off sp n c sep;obtain⟨g1,h⟩:=H3 h;obtain⟨g2,h⟩:=H3 h;obtain⟨cs,g3,h⟩:=A5 h;obtain⟨l,g4,h⟩:=A5 h;obtain⟨g5,h⟩:=H3 h;cases h;have e1:=JO g1;have e2:=JO g2;have e5:=JO g5;unfold room at e2 e5;refine⟨.refl _,fun O w vs' N hR hF hN hG hv=>?_⟩;cases hv with
  |cons hs hv=>
  cases hv with
  |cons hp hv=>
  cases hv;obtain⟨xs,rfl,rfl⟩:=jR g4;obtain⟨B,hB,En⟩:=V8 g3;have hlen:=(sub_eq En).2 ▸ (by simp;have:=(sub_eq En).1;omega:((B.cells.drop off).take n).length=n);rw[z2z]at hlen;cases hp;rename_i s' _;rw[pN]at e5 ⊢;have fin:∀ (q:Bk) (c':Nat),O b=some q->n<=c'->Bp P A8 O g [.slice (some ⟨q.c,q.o+off,none⟩) n c',.string sep] Z w ⟨false,.string ⟨(Lib.join (xs.map (·.data.toList)) sep.data.toList).toArray⟩,Z⟩:=by
   intro q c' hq hcc;obtain⟨vs,k1,k2,k3⟩:=(hR.row b q B hq hB).read (P:=P) En;rw[bE k2]at k1;have Xu:∀ (j:Nat) x,xs[j]? =some x->w.cell? ⟨q.c,q.o+off+j,none⟩=some (.string x):=by
    intro j x hj;obtain⟨arr,e,lo,hi,a1,a0,a2,a3,a4,a5⟩:=hR.row b q B hq hB;obtain⟨s1,s2⟩:=sub_eq En;have hj':(xs.map Value.string)[j]? =some (.string x):=by rw[List.getElem?_map,hj];rfl
    have hjn:j<n:=by have:=(List.getElem?_eq_some_iff.1 hj).1;omega
    rw[s2,List.getElem?_take_of_lt hjn,List.getElem?_drop]at hj';obtain⟨v',b1,b2⟩:=a5 _ _ hj';cases b2;rw[IM a1,show q.o+off+j=q.o+(off+j)from by omega];exact b1
   subst hlen;exact Md hf hn hbd hR (hc q.c (q.o+off) c' xs sep w Xu (hR.dom b q hq) om hcc om) (.H5 rfl)
  cases hs with
  |slice hq=>exact fin _ _ hq e1
  |grow hq hk hm=>exact fin _ _ hq (X0 e1 hk)
  | BT hq=>
    obtain rfl:xs=[]:=ZT.1 hlen;exact KG hf hn hbd (h0 _ _ _ w) hR (.refl _ _ _) (.H5 rfl)
  |H5 hsc=>simp[H5]at hsc
 ·cases h
end
section
variable {P:Program}{A8:Env}{G:Nat}
def Yn (hm:P.follows .mixedOrders=true) (ML:∀ n c,A8.chk n c=codeOk P n G c) {H:EW} (hP:GL P H G P.funcs.toList 0=true) (hH:∀ (lo:Nat) (w0:World),A8.lo<=lo->(∀ c,c<A8.lo->w0.heap[c]? =A8.w0.heap[c]?)->JU P { A8 with lo:=lo,w0:=w0 } G H) {Z0:St} (hn0:Z0.n=G) (ho:∀ b B,Z0.blk b=some B->B.own=false)
  {g f:Nat}{v:Value}{Z1:St} (hv:H5 v=true) (h:DE P H (exec P H f) (.fn g) [] Z0=some ⟨false,v,Z1⟩) (Z:St) {O:Place}{w:World}{N:Nat} (hR:Rel A8 O Z w) (hG:Bo O G)
  (hR0:Rel { A8 with lo:=w.heap.size,w0:=w } (fun b=>if b<G then O b else none) Z0 w):Bp P A8 O g [] Z w ⟨false,v,Z⟩:=by
 obtain⟨_,h2⟩:=Vt (A8:={ A8 with lo:=w.heap.size,w0:=w }) hm ML hP (hH _ _ hR.low.1 hR.low.2) f _ _ _ _ h
 let O0:Place:=fun b=>if b<G then O b else none
 have hG0:Bo O0 G:=by
  intro g hg;obtain⟨m,h,h2⟩:=hG g hg;exact⟨m,by show(if g<G then O g else none)=_;rw[z1z hg];exact h,h2⟩
 have hF0:Ce O0 Z0.n Z1.n:=fun b hb _=>by show(if b<G then O b else none)=none;rw[z0z om]
 obtain⟨fn,k1,k2,k3⟩:=h2 O0 w [] Z1.n hR0 hF0 nL hG0 .nil;refine⟨fn,k1,k2,?_⟩;have Ub:∀ {O':Place}{v':Value},H4 O' v v'->v'=v:=by
  intro O' v' hv';cases v with
  |bool b=>cases hv';rfl
  |int k n=>cases hv';rfl
  |string s=>cases hv';rfl
  |_=>cases hv'<;>first|rfl|cases hv
 rcases k3 with⟨k4,k5⟩|⟨v',k4,k5,k6,k7⟩
 ·refine .inl ⟨k4,k5.mono ?_⟩;rintro e w' ⟨v',O',rfl,q1,q2,q3⟩;have Db:∀ c,c<w.heap.size->w'.heap[c]? =w.heap[c]? :=fun c hc=>q2.J3 c hc fun b q B hb _ hB=>ho b B hB;have hv':=Ub q3;subst hv'
  refine⟨v',O,rfl,⟨hR.fresh,fun b q B h1 h2=>(hR.KP b q B h1 h2).mono (Place.le_refl _) (Db _ (hR.dom b q h1)),fun b q hb=>z5z (hR.dom b q hb) q2.size,hR.own,hR.sep,hR.low.next q2.size fun c hc=>Db c (z5z hc hR.low.1)⟩,
   ⟨fun _ _=>rfl,AR _,q2.size,fun c hc _=>Db c hc,fun b q B h1 h2 _=>⟨b,q,B,h1,rfl,h2,fun h=>h⟩,q2.out,fun _ _ _=>rfl⟩,.H5 hv⟩
 ·have:=Ub k7;subst this;exact .inr ⟨v',k4,rfl,rfl,.H5 hv⟩
end
end Go.Ab
namespace Go.Ab.KQ
open Go Go.Ab
section
variable {a:Addr}{Z Z':St}{w:World}{b n:Nat}{cs:List Value}
section
variable {P:Program}{W:World}{A8:Env}{G:Nat}{H:Type}{enc:TypeId×Value->H}
def Gt {α:Type}(R:α->List Value->Prop):List α->List (List Value)->Prop
 | [],[]=>True
 |a::l,b::k=>R a b/\Gt R l k
 |_,_=>False
def CL (P:Program) (Z:St):Nat->TypeId->List Value->Prop
 |0,_,_=>False
 | f+1,t,cs=>match P.underlying t with
   |some .bool=>∃ b,cs=[.bool b]
   |some (.int k)=>∃ n,cs=[.int k n]/\(Lit.int k n).wf=true
   |some .string=>∃ s,cs=[.string s]/\s.size<=maxLen
   |some (.slice e)=>cs=[.slice none 0 0]\/∃ (b:Nat) (D4:List (List Value)) (cap:Nat),cs=[.slice (some ⟨b,0,none⟩) D4.length cap]/\D4.length<=cap/\cap<=maxLen/\b<Z.n/\Z.row b=some D4.flatten/\∀ r∈D4,r.length=P.cellsOf e/\CL P Z f e r
   |some (.struct fs)=>∃ ps:List (List Value),cs=ps.flatten/\Gt (fun(fd:Field) p=>CL P Z f fd.type p) fs.toList ps
   |some (.array n e)=>∃ ps:List (List Value),cs=ps.flatten/\ps.length=n/\∀ p∈ps,p.length=P.cellsOf e/\CL P Z f e p
   |_=>False
def VL (P:Program):List Field->Nat->Option Nat
 | [],o=>some o
 |f::fs,o=>if f.offset=o then VL P fs (o+P.cellsOf f.type)else none
def FB (P:Program):Nat->TypeId->Bool
 |0,_=>false
 | f+1,t=>match P.underlying t with
   |some .bool=>true
   |some (.int _)=>true
   |some .string=>true
   |some (.slice e)=>Nat.blt 0 (P.cellsOf e)&&FB P f e
   |some (.struct fs)=>(VL P fs.toList 0==some (P.cellsOf t))&&fs.toList.all fun fd=>FB P f fd.type
   |some (.array n e)=>P.cellsOf t==n*P.cellsOf e&&FB P f e
   |_=>false
structure Kp (Z Z':St):Prop where
 n:Z.n<=Z'.n
 row:∀ b cells,b<Z.n->Z.row b=some cells->Z'.row b=some cells
def Kp.refl (Z:St):Kp Z Z:=⟨AR _,fun _ _ _ h=>h⟩
def Kp.trans {Z'':St}(h:Kp Z Z') (k:Kp Z' Z''):Kp Z Z'':=⟨X0 h.n k.n,fun b cells hb hr=>k.row b cells (z5z hb h.n) (h.row b cells hb hr)⟩
def Gt.mono {α:Type}{R S:α->List Value->Prop}(h:∀ a b,R a b->S a b):∀ {l:List α}{k:List (List Value)},Gt R l k->Gt S l k
 | [],[],_=>trivial
 |_::_,_::_,p=>⟨h _ _ p.1,p.2.mono h⟩
 | [],_::_,p=>p.elim
 |_::_,[],p=>p.elim
def CL.mono (hK:Kp Z Z'):∀ {f:Nat}{t:TypeId}{cs:List Value},CL P Z f t cs->CL P Z' f t cs:=by
 intro f;induction f with
 |zero=>intro t cs h;exact h
 | succ f ih=>
   intro t cs h;unfold CL at h ⊢;split at h
   ·exact h
   ·exact h
   ·exact h
   ·rcases h with h|⟨b,D4,cap,h1,h2,h3,h4,h5,h6⟩
    ·exact .inl h
    ·exact .inr ⟨b,D4,cap,h1,h2,h3,z5z h4 hK.n,hK.row _ _ h4 h5,fun r hr=>⟨(h6 r hr).1,ih (h6 r hr).2⟩⟩
   ·obtain⟨ps,h1,h2⟩:=h;exact⟨ps,h1,h2.mono fun _ _ h=>ih h⟩
   ·obtain⟨ps,h1,h2,h3⟩:=h;exact⟨ps,h1,h2,fun p hp=>⟨(h3 p hp).1,ih (h3 p hp).2⟩⟩
   ·exact h
structure Inv (A8:Env) (G:Nat) (W:World) (Z:St) (O:Place):Prop where
 rel:Rel A8 O Z W
 own:PR Z
 free:∀ b,Z.n<=b->O b=none
 Ad5:Bo O G
 nil:∃ b,b<Z.n/\Z.row b=some []/\∃ q,O b=some q
def G0.len {O:Place}{l l':List Value}(h:G0 O l l'):l.length=l'.length:=by
 induction l generalizing l' with
 |nil=>cases h;rfl
 |cons a l ih=>cases h with|cons h hs=>simp[ih hs]
def Inv.arg {Z:St}{O:Place}(h:Inv A8 G W Z O){c o:Nat}{cells:List Value}{arr:Array Value}{e:TypeId}{f:Nat×Nat}(hh:W.heap[c]? =some (.cells arr e f)) (ho:o+cells.length<=arr.size) (hlo:W.heap.size<=A8.lo)
  (hc:∀ v∈cells,J9 v=true) (hv:∀ (i:Nat) (v:Value),cells[i]? =some v->∃ v',arr[o+i]? =some v'/\H4 O v v') :
  Inv A8 G W (Z.arg cells) (O.put Z.n ⟨c,o,arr.size⟩)/\Kp Z (Z.arg cells)/\O.le (O.put Z.n ⟨c,o,arr.size⟩):=by
 have hle:O.le (O.put Z.n ⟨c,o,arr.size⟩):=Place.JS _ (h.free _ nL);have hcw:c<W.heap.size:=by
  rcases y8 c W.heap.size with h|h
  ·exact h
  ·rw[Array.getElem?_eq_none h]at hh;cases hh
 have hk:Kp Z (Z.arg cells):=⟨by rw[Tj];omega,fun b cs hb hr=>by rw[RB _ _ om];exact hr⟩
 refine⟨⟨fQ h.rel h.own h.free hh rfl ho om hc hv,h.own.arg _,YR h.free,h.Ad5.mono hle,?_⟩,hk,hle⟩;obtain⟨b,h1,h2,q,h3⟩:=h.nil;exact⟨b,z5z h1 hk.n,hk.row _ _ h1 h2,q,hle _ _ h3⟩
def qY {α:Type}{sz:Nat}(hs:0<sz):∀ {D4:List (List α)}{i:Nat}{v:α},(∀ r∈D4,r.length=sz)->D4.flatten[i]? =some v->∃ r,D4[i / sz]? =some r/\r[i % sz]? =some v:=by
 intro D4;induction D4 with
 |nil=>intro i v _ h;simp at h
 | cons r D4 ih=>
   intro i v hr h;have hl:=hr r (by simp);by_cases hi:i<sz
   ·rw[Un,List.getElem?_append_left om]at h;exact⟨r,by rw[qZ hi];rfl,by rw[SG hi];exact h⟩
   ·rw[Un,List.getElem?_append_right om]at h;obtain⟨r',h1,h2⟩:=ih (fun r hm=>hr r (by simp[hm])) h;rw[hl]at h1 h2;have e1:i / sz=(i-sz) / sz+1:=by rw[Nat.div_eq_sub_div hs om]
    have e2:i % sz=(i-sz) % sz:=Nat.mod_eq_sub_mod om;exact⟨r',by rw[e1,List.getElem?_cons_succ];exact h1,by rw[e2];exact h2⟩
def KI (h:w.cells? b a n=some cs):cs.length=n:=by
 unfold World.cells? at h;split at h
 ·simpa using mapM_some_length h
 ·cases h
def YS {i:Nat}(h:w.cells? b a n=some cs) (hi:i<n):w.cell? (a.add i)=cs[i]? :=by
 unfold World.cells? at h;split at h
 ·exact mapM_some_get h i i (by simp[hi])
 ·cases h
def addr_add (hs:a.spot=none) (i:Nat):a.add i=⟨a.block,a.off+i,none⟩:=by
 obtain⟨b,o,s⟩:=a;cases(show s=none from hs);unfold Addr.add;split<;>simp_all
def Nb {f:Nat}{A8:Env}
  (ih:∀ t cs x,DataW.trod enc P W 0 (fun _=>true) true f t cs=some x->FB P f t=true->∀ Z O,Inv A8 G W Z O->∃ Z' O' cs',Inv A8 G W Z' O'/\Kp Z Z'/\O.le O'/\G0 O' cs' cs/\CL P Z' f t cs'/\∀ v∈cs',J9 v=true) :
  ∀ (L:List (TypeId×List Value)),(∀ p∈L,FB P f p.1=true/\∃ x,DataW.trod enc P W 0 (fun _=>true) true f p.1 p.2=some x)->∀ Z O,Inv A8 G W Z O ->
   ∃ Z' O' ps,Inv A8 G W Z' O'/\Kp Z Z'/\O.le O'/\Gt (fun(p:TypeId×List Value) c=>G0 O' c p.2/\CL P Z' f p.1 c/\∀ v∈c,J9 v=true) L ps:=by
 intro L;induction L with
 |nil=>intro _ Z O h;exact⟨Z,O,[],h,.refl _,Place.le_refl _,trivial⟩
 | cons p L ihL=>
   intro hL Z O h;obtain⟨hd,x,hx⟩:=hL p (by simp);obtain⟨Z1,O1,c,i1,k1,l1,v1,a1,c1⟩:=ih _ _ _ hx hd Z O h;obtain⟨Z2,O2,ps,i2,k2,l2,q⟩:=ihL (fun p hp=>hL p (by simp[hp])) Z1 O1 i1;exact⟨Z2,O2,c::ps,i2,k1.trans k2,Place.le_trans l1 l2,⟨v1.mono l2,a1.mono k2,c1⟩,q⟩
def Gt.len {α:Type}{R:α->List Value->Prop}:∀ {l:List α}{k:List (List Value)},Gt R l k->l.length=k.length
 | [],[],_=>rfl
 |_::_,_::_,p=>by rw[Ah,Ah,p.2.len]
 | [],_::_,p=>p.elim
 |_::_,[],p=>p.elim
def Gt.get {α:Type}{R:α->List Value->Prop}:∀ {l:List α}{k:List (List Value)}{i:Nat}{b:List Value},Gt R l k->k[i]? =some b->∃ a,l[i]? =some a/\R a b
 |a::l,b::k,0,_,p,h=>by cases h;exact⟨a,rfl,p.1⟩
 |a::l,b::k,i+1,_,p,h=>p.2.get (i:=i) (by simpa using h)
 | [],[],_,_,_,h=>by simp at h
 | [],_::_,_,_,p,_=>p.elim
 |_::_,[],_,_,p,_=>p.elim
def Lq {α:Type}{R:α->List Value->Prop}{O:Place}{g:α->List Value}(hR:∀ a c,R a c->G0 O c (g a)):∀ {l:List α}{k:List (List Value)},Gt R l k->G0 O k.flatten (l.map g).flatten
 | [],[],_=> .nil
 | a::l,b::k,p=>by
   rw[Un,SD,Un];exact Ab.G0.append (Lq hR p.2) (hR _ _ p.1)
 | [],_::_,p=>p.elim
 |_::_,[],p=>p.elim
def OG {cs:List Value}:∀ {fs:List Field}{o n:Nat},VL P fs o=some n->n<=cs.length->(fs.map fun fd=>(cs.drop fd.offset).take (P.cellsOf fd.type)).flatten=(cs.drop o).take (n-o)/\o<=n
 | [],o,n,h,hl=>by
   cases h;simp
 | fd::fs,o,n,h,hl=>by
   unfold VL at h;split at h
   ·rename_i ho;subst ho;obtain⟨h1,h2⟩:=OG h hl;refine⟨?_,om⟩;rw[SD,Un,h1];have e:n-fd.offset=P.cellsOf fd.type+(n-(fd.offset+P.cellsOf fd.type)):=om;rw[e,List.take_add,Kz]
   ·cases h
def Nc {α β:Type}{R:β->List Value->Prop}(g:α->β):∀ {l:List α}{k:List (List Value)},Gt R (l.map g) k->Gt (fun a c=>R (g a) c) l k
 | [],[],_=>trivial
 |_::_,_::_,p=>⟨p.1,Nc g p.2⟩
 | [],_::_,p=>p.elim
 |_::_,[],p=>p.elim
def imp (hlo:W.heap.size<=A8.lo):∀ f t cs x,DataW.trod enc P W 0 (fun _=>true) true f t cs=some x->FB P f t=true->∀ Z O,Inv A8 G W Z O ->
  ∃ Z' O' cs',Inv A8 G W Z' O'/\Kp Z Z'/\O.le O'/\G0 O' cs' cs/\CL P Z' f t cs'/\∀ v∈cs',J9 v=true:=by
 intro f;induction f with
 |zero=>intro t cs x _ hd;cases hd
 | succ f ih=>
   intro t cs x h hd Z O hI;unfold FB at hd;have kH:∀ v,J9 v=true->∀ w∈[v],J9 w=true:=fun v hv w hw=>by rw[GK]at hw;subst hw;exact hv
   split at hd
   ·rename_i ht;obtain⟨b,rfl⟩:∃ b,cs=[.bool b]:=by
     unfold DataW.trod at h;rw[ht]at h;split at h<;>simp_all
    exact⟨Z,O,[.bool b],hI,.refl _,Place.le_refl _,.cons (.H5 rfl) .nil,by unfold CL;rw[ht];exact⟨b,rfl⟩,kH _ rfl⟩
   ·rename_i k ht;obtain⟨n,rfl,hwf⟩:∃ n,cs=[.int k n]/\(Lit.int k n).wf=true:=by
     unfold DataW.trod at h;rw[ht]at h;split at h<;>simp_all
    exact⟨Z,O,[.int k n],hI,.refl _,Place.le_refl _,.cons (.H5 rfl) .nil,by unfold CL;rw[ht];exact⟨n,rfl,hwf⟩,kH _ rfl⟩
   ·rename_i ht;obtain⟨s,rfl,hsl⟩:∃ s,cs=[.string s]/\s.size<=maxLen:=by
     unfold DataW.trod at h;rw[ht]at h;split at h<;>simp_all
    exact⟨Z,O,[.string s],hI,.refl _,Place.le_refl _,.cons (.H5 rfl) .nil,by unfold CL;rw[ht];exact⟨s,rfl,hsl⟩,kH _ rfl⟩
   ·rename_i e ht;rw[y6,DC]at hd;obtain⟨hsz,hde⟩:=hd;rcases DataW.trod_slice ht h with⟨rfl,_⟩|⟨a,len,cap,elems,C8,n,hn,rfl,_,_,hl,hm,hlen,hel,hsp,_⟩
    ·exact⟨Z,O,[.slice none 0 0],hI,.refl _,Place.le_refl _,.cons (.H5 rfl) .nil,by unfold CL;rw[ht];exact .inl rfl,kH _ rfl⟩
    ·obtain rfl:n=f:=om
     -- the elements
     have zq:∀ i,i<len->∃ c x,W.cells? 0 (a.add (i*P.cellsOf e)) (P.cellsOf e)=some c/\DataW.trod enc P W 0 (fun _=>true) true n e c=some x:=by
      intro i hi;have h1:=hel i hi;rw[List.getElem?_eq_getElem om]at h1;cases hc:W.cells? 0 (a.add (i*P.cellsOf e)) (P.cellsOf e)with
      |none=>rw[hc]at h1;cases h1
      |some c=>rw[hc]at h1;exact⟨c,_,rfl,h1⟩
     let g:Nat->List Value:=fun i=>(W.cells? 0 (a.add (i*P.cellsOf e)) (P.cellsOf e)).getD []
     have hg:∀ i,i<len->W.cells? 0 (a.add (i*P.cellsOf e)) (P.cellsOf e)=some (g i):=fun i hi=>by
      obtain⟨c,x,h1,h2⟩:=zq i hi;show _=some (Option.getD _ _);rw[h1];rfl
     obtain⟨Z1,O1,ps,i1,k1,l1,q1⟩:=Nb ih ((List.range len).map fun i=>(e,g i)) (fun p hp=>by
      obtain⟨i,hi,rfl⟩:=MJ.1 hp;rw[ZU]at hi;obtain⟨c,x,h1,h2⟩:=zq i hi;rw[hg i hi]at h1;cases h1;exact⟨hde,x,h2⟩) Z O hI
     have hpl:ps.length=len:=by rw[<- q1.len];simp
     have HD:∀ (i:Nat) (r:List Value),ps[i]? =some r->i<len/\G0 O1 r (g i)/\CL P Z1 n e r/\(∀ v∈r,J9 v=true)/\r.length=P.cellsOf e:=by
      intro i r hr;obtain⟨p,h1,h2,h3,h4⟩:=q1.get hr;have hi:i<len:=by rw[<- hpl];exact(List.getElem?_eq_some_iff.1 hr).1
      rw[List.getElem?_map,List.getElem?_range hi]at h1;cases h1;exact⟨hi,h2,h3,h4,by rw[G0.len h2];exact KI (hg i hi)⟩
     have hrl:∀ r∈ps,r.length=P.cellsOf e:=fun r hr=>by
      obtain⟨i,hi⟩:=List.getElem?_of_mem hr;exact(HD i r hi).2.2.2.2
     have hfl:=HN ps hrl;by_cases hc0:cap=0
     ·subst hc0;obtain rfl:len=0:=om;obtain⟨b,b1,b2,q,b3⟩:=i1.nil;obtain rfl:ps=[]:=WN hpl;refine⟨Z1,O1,[.slice (some ⟨b,0,none⟩) 0 0],i1,k1,l1,.cons (.BT b3) .nil,?_,kH _ rfl⟩;unfold CL;rw[ht];exact .inr ⟨b,[],0,rfl,AR _,hm,b1,b2,fun r hr=>by cases hr⟩
     ·
      have RC:∃ c,W.cells? 0 (a.add (0*P.cellsOf e)) (P.cellsOf e)=some c:=by
       by_cases hl0:0<len
       ·exact⟨_,hg 0 hl0⟩
       ·obtain⟨h1,h2⟩:=hsp rfl;have h3:=h2 0 om;rw[List.getElem?_eq_getElem om,show len+0=0 by omega]at h3;cases hc:W.cells? 0 (a.add (0*P.cellsOf e)) (P.cellsOf e)with
        |none=>rw[hc]at h3;cases h3
        |some c=>exact⟨c,rfl⟩
      obtain⟨c0,Af0⟩:=RC;have hcl:=KI Af0;have h00:=YS Af0 (i:=0) hsz;rw[List.getElem?_eq_getElem om]at h00;obtain⟨arr,el,fr,hh,hs,h0⟩:=YT h00;have haz:(a.add (0*P.cellsOf e)).add 0=a:=by rw[HY];obtain⟨b,o,s⟩:=a;unfold Addr.add;simp
      rw[haz]at hh hs h0;have Ax5:∀ i j,(a.add i).add j=⟨a.block,a.off+i+j,none⟩:=fun i j=>by
       have e1:a.add i=⟨a.block,a.off+i,none⟩:=by
        obtain⟨b,o,s⟩:=a;cases(show s=none from hs);exact Ab.addr_add _ _ _
       rw[e1,Ab.addr_add]
      have hat:∀ i j,i<len->j<P.cellsOf e->arr[a.off+i*P.cellsOf e+j]? =(g i)[j]? :=by
       intro i j hi hj;have h1:=YS (hg i hi) hj;rw[Ax5]at h1;have h2:=KI (hg i hi);rw[List.getElem?_eq_getElem om]at h1 ⊢;obtain⟨Af1,el',fr',h3,_,h4⟩:=YT h1;rw[hh]at h3;cases h3;exact h4
      have yx:a.off+ps.flatten.length<=arr.size:=by
       rw[hfl,hpl];by_cases hl0:0<len
       ·have h1:=hat (len-1) (P.cellsOf e-1) om om;have h2:=KI (hg (len-1) om);rw[List.getElem?_eq_getElem om]at h1;obtain⟨h3,_⟩:=Array.getElem?_eq_some_iff.1 h1;have e1:len*P.cellsOf e=(len-1)*P.cellsOf e+P.cellsOf e:=by rw[<- RX];congr 1;omega
        omega
       ·obtain rfl:len=0:=om;obtain⟨h3,_⟩:=Array.getElem?_eq_some_iff.1 h0;omega
      obtain⟨i2,k2,l2⟩:=i1.arg (cells:=ps.flatten) hh yx hlo (fun v hv=>by
       obtain⟨r,hr,hvr⟩:=qa.1 hv;obtain⟨i,hi⟩:=List.getElem?_of_mem hr;exact(HD i r hi).2.2.2.1 v hvr) (fun i v hi=>by
       obtain⟨r,h1,h2⟩:=qY hsz hrl hi;obtain⟨h3,h4,-⟩:=HD _ r h1;obtain⟨v',h5,h6⟩:=h4.get h2;refine⟨v',?_,h6⟩;have h7:=hat _ _ h3 (Hg i hsz);rw[h5,PE,Nat.div_add_mod']at h7;exact h7)
      refine⟨_,_,[.slice (some ⟨Z1.n,0,none⟩) len cap],i2,k1.trans k2,Place.le_trans l1 l2,.cons ?_ .nil,?_,kH _ rfl⟩
      ·have:some a=some ⟨(⟨a.block,a.off,arr.size⟩:Bk).c,(⟨a.block,a.off,arr.size⟩:Bk).o+0,none⟩:=by
        obtain⟨b,o,s⟩:=a;cases(show s=none from hs);rfl
       rw[this];exact .slice (Place.S8 _ _ _)
      ·unfold CL;rw[ht];refine .inr ⟨Z1.n,ps,cap,by rw[hpl],om,hm,by rw[Tj];omega,fS _ _,fun r hr=>?_⟩;obtain⟨i,hi⟩:=List.getElem?_of_mem hr;obtain⟨-,-,h3,-,h5⟩:=HD i r hi;exact⟨h5,h3.mono k2⟩
   ·rename_i fs ht;rw[y6,dK,HA]at hd;obtain⟨hct,hde⟩:=hd;obtain⟨xs,n,hn,_,hcl,hxl,hx⟩:=DataW.trod_struct ht h;obtain rfl:n=f:=om;obtain⟨Z1,O1,ps,i1,k1,l1,q1⟩:=Nb ih (fs.toList.map fun fd=>(fd.type,(cs.drop fd.offset).take (P.cellsOf fd.type))) (fun p hp=>by
     obtain⟨fd,hfd,rfl⟩:=MJ.1 hp;obtain⟨i,hi⟩:=List.getElem?_of_mem hfd;refine⟨hde fd hfd,?_⟩;have hlt:i<fs.size:=by
      have:=(List.getElem?_eq_some_iff.1 hi).1
      simpa using this
     have h1:=hx i fd (by rw[<- Array.getElem?_toList];exact hi);rw[List.getElem?_eq_getElem om]at h1;exact⟨_,h1⟩) Z O hI
    have q2:=Nc _ q1;refine⟨Z1,O1,ps.flatten,i1,k1,l1,?_,?_,?_⟩
    ·have h1:=Lq (g:=fun fd:Field=>(cs.drop fd.offset).take (P.cellsOf fd.type)) (O:=O1) (fun a c h=>h.1) q2;obtain⟨h2,-⟩:=OG (cs:=cs) hct om;rw[h2,UU,Oq,<- hcl,Bl]at h1;exact h1
    ·unfold CL;rw[ht];exact⟨ps,rfl,q2.mono fun a c h=>h.2.1⟩
    ·intro v hv;obtain⟨r,hr,hvr⟩:=qa.1 hv;obtain⟨i,hi⟩:=List.getElem?_of_mem hr;obtain⟨p,-,hp⟩:=q1.get hi;exact hp.2.2 v hvr
   ·rename_i m e ht;rw[y6,dK]at hd;obtain⟨hct,hde⟩:=hd;have KN:cs.length=P.cellsOf t/\∀ i,i<m->∃ x,DataW.trod enc P W 0 (fun _=>true) true f e ((cs.drop (i*P.cellsOf e)).take (P.cellsOf e))=some x:=by
     unfold DataW.trod at h;rw[ht]at h;split at h<;>simp_all;obtain⟨xs,hp,hd⟩:=h.2;refine fun i hi=>?_;have h1:=mapM_some_get hp i i (by simp[hi]);have h2:=mapM_some_length hp;rw[List.length_range]at h2;rw[List.getElem?_eq_getElem om]at h1;exact⟨_,_,h1⟩
    obtain⟨hcl,hx⟩:=KN;obtain⟨Z1,O1,ps,i1,k1,l1,q1⟩:=Nb ih ((List.range m).map fun i=>(e,(cs.drop (i*P.cellsOf e)).take (P.cellsOf e))) (fun p hp=>by
     obtain⟨i,hi,rfl⟩:=MJ.1 hp;rw[ZU]at hi;exact⟨hde,hx i hi⟩) Z O hI
    have q2:=Nc _ q1;have hpl:ps.length=m:=by rw[<- q1.len];simp
    have Fv:∀ m,((List.range m).map fun i=>(cs.drop (i*P.cellsOf e)).take (P.cellsOf e)).flatten=cs.take (m*P.cellsOf e):=by
     intro m;induction m with
     |zero=>simp
     | succ m ihm=>
       rw[List.range_succ,y7,List.flatten_append,ihm,RX,List.take_add];simp
    refine⟨Z1,O1,ps.flatten,i1,k1,l1,?_,?_,?_⟩
    ·have h1:=Lq (g:=fun i:Nat=>(cs.drop (i*P.cellsOf e)).take (P.cellsOf e)) (O:=O1) (fun a c h=>h.1) q2;rw[Fv,<- hct,<- hcl,Bl]at h1;exact h1
    ·unfold CL;rw[ht];refine⟨ps,rfl,hpl,fun p hp=>?_⟩;obtain⟨i,hi⟩:=List.getElem?_of_mem hp;obtain⟨j,h1,h2⟩:=q2.get hi;have hj:i<m:=by rw[<- hpl];exact(List.getElem?_eq_some_iff.1 hi).1
     rw[List.getElem?_range hj]at h1;cases h1;refine⟨?_,h2.2.1⟩;rw[G0.len h2.1,Dh,Ei,hcl,hct];have:(i+1)*P.cellsOf e<=m*P.cellsOf e:=UJ _ hj;rw[RX]at this;omega
    ·intro v hv;obtain⟨r,hr,hvr⟩:=qa.1 hv;obtain⟨i,hi⟩:=List.getElem?_of_mem hr;obtain⟨p,-,hp⟩:=q1.get hi;exact hp.2.2 v hvr
   ·cases hd
end
end
end Go.Ab.KQ
namespace Go.Ab
open Go
section
variable {P:Program}
def Ol {α:Type}{a:α}:K9 P (pure a:Sem α)=some a:=rfl
def Bv {α β:Type}{f:α->Sem β}(s:Sem α):K9 P (s >>= f)=ob (K9 P s) fun a=>K9 P (f a):=by
 show K9 P (s.bind f)=_;induction s with
 |pure a=>rfl
 |program k ih=>exact ih P
 |mark m k ih=>exact ih
 |_=>rfl
def Ls:K9 P program=some P:=rfl
noncomputable def eqF (P:Program) (d:Nat) (xs ys:Array Value):List Field->Option Bool
 | []=>some true
 |f::fs=>bi (f.name != "_") (ob (K9 P (part f.type xs f.offset)) fun a=>ob (K9 P (part f.type ys f.offset)) fun b=>ob (K9 P (Op.equalIn d f.type a b)) fun r=>bi r (eqF P d xs ys fs) (some false)) (eqF P d xs ys fs)
def RL {α:Type}{c:Prop} [Decidable c] {x y:Sem α}:K9 P (if c then x else y)=if c then K9 P x else K9 P y:=by split<;>rfl
def Tx {P:Program}{d:Nat}{xs ys:Array Value}:∀ fs:List Field,K9 P (Op.eqFields d xs ys fs)=eqF P d xs ys fs
 | []=>rfl
 | f::fs=>by
   have ih:=Tx (P:=P) (d:=d) (xs:=xs) (ys:=ys) fs;unfold Op.eqFields eqF;rw[RL];by_cases h:f.name= "_"
   ·rw[z0z (by simpa using h),show(f.name != "_")=false from by simpa using h,BV,ih]
   ·rw[z1z h,show(f.name != "_")=true from by simpa using h,K3,Bv]
    congr 1;funext a;rw[Bv];congr 1;funext b;rw[Bv];congr 1;funext r;rw[RL];cases r with
    |true=>rw[z0z (by simp),K3,ih]
    |false=>rw[z1z (by simp),BV];rfl
def rm {t:TypeId}{u:TypeDesc}(h:P.underlying t=some u):K9 P (underlying t)=some u:=by
 unfold underlying;rw[Bv,Ls,F8];simp only[h];rfl
def kj {d:Nat}{t:TypeId}{xs ys:Array Value}(ht:P.underlying t=some (.struct (P.fieldsOf t))) (hp:P.stoodInHeld t=false):
  K9 P (Op.equalIn (d+1) t (.agg xs) (.agg ys))=eqF P d xs ys (P.fieldsOf t).toList:=by
 rw[<- Tx];simp only[Op.equalIn];rw[Bv,rm ht,F8];simp only[Bv,Ls,F8,hp,Hf,GX];rw[<- Array.forIn_toList];generalize (P.fieldsOf t).toList=fs;clear ht;induction fs with
 |nil=>rfl
 | cons f fs ih=>
   simp only[List.forIn_cons,Op.eqFields,Bv,RL];by_cases hn:f.name= "_"
   ·simp only[ne_eq,hn,not_true,GX,Ol,F8];exact ih
   ·simp only[ne_eq,hn,not_false_iff,Dl,Bv];cases K9 P (part f.type xs f.offset)with
    |none=>rfl
    | some a=>
      simp only[F8];cases K9 P (part f.type ys f.offset)with
      |none=>rfl
      | some b=>
        simp only[F8];cases K9 P (Op.equalIn d f.type a b)with
        |none=>rfl
        | some r=>
          cases r
          ·simp only[F8,El,Dl,Ol]
          ·simp only[F8,Gi,Hf,GX,Ol];exact ih
def IH {P:Program}{t:TypeId}{x y:Operand}{xs ys:Array Value}{o:Option Bool}(hf:(Kv xs&&Kv ys)=true) (hm:P.eqGuardType P.depth t=false) (ht:P.underlying t=some (.struct (P.fieldsOf t))) (hp:P.stoodInHeld t=false)
  (he:eqF P 9999 xs ys (P.fieldsOf t).toList=o):Bi P .eql t x y (.agg xs) (.agg ys)=(ob o fun b=>some (.bool b))/\Bi P .neq t x y (.agg xs) (.agg ys)=ob o fun b=>some (.bool !b):=by
 have hg:∀ op,K9 P (eqGuard op t x y (.agg xs) (.agg ys))=some ():=by
  intro op;unfold eqGuard;rw[RL];cases op<;>first|rfl|(simp only[Gi,Hf,GX,Bv,Ls,F8,hm,El,Dl,RL,Ol])
 have h1:K9 P (Op.equal t (.agg xs) (.agg ys))=o:=by
  unfold Op.equal;exact(kj (d:=9999) ht hp).trans he
 constructor
 ·show bi (Kv xs&&Kv ys) (Hq P .eql t x y (.agg xs) (.agg ys)) _=_;rw[hf,K3];unfold Hq;rw[Bv,Bv,hg,F8];show ob (KZ (ob (K9 P (binOp .eql t (.agg xs) (.agg ys))) _)) cst=_;simp only[binOp];rw[Bv,h1];cases o<;>rfl
 ·show bi (Kv xs&&Kv ys) (Hq P .neq t x y (.agg xs) (.agg ys)) _=_;rw[hf,K3];unfold Hq;rw[Bv,Bv,hg,F8];show ob (KZ (ob (K9 P (binOp .neq t (.agg xs) (.agg ys))) _)) cst=_;simp only[binOp];rw[Bv,h1];cases o<;>rfl
end
end Go.Ab
