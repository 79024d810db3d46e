/- The abstract machine Xv a bound on its steps: its runs satisfy its own xw. -/
import Derived.Test.YtbcanmagihejhaaGreatDoorAbC
import Derived.RecoverIn
import Derived.Lib.Join
import Derived.Lib.UnsafeStr
import Derived.Below
set_option linter.unusedSimpArgs false
set_option linter.unusedVariables false
set_option maxHeartbeats 32000000
set_option maxRecDepth 100000
namespace Go.Ab
open Go
theorem M5.run (rd:Option Nat) (c:Code) (fr:Fr) (Z:St):M5 fun run=>run rd c fr Z:=⟨fun _ _ h r hr=>h rd c fr Z r hr,fun _ _ _ h r hr=>h rd c fr Z r hr⟩
theorem M5.ob {α β:Type}{Φ:RunT->Option α}{Ψ:α->RunT->Option β}(h:M5 Φ) (k:∀ a,M5 (Ψ a)):M5 fun run=>Ab.ob (Φ run) fun a=>Ψ a run:=by
 constructor
 ·intro run run' hl r hr;obtain ⟨a,h1,h2⟩:=A4 hr;show Ab.ob (Φ run') _=_;rw [h.mono _ _ hl _ h1];exact (k a).mono _ _ hl _ h2
 ·intro ch l hc hl r hr;obtain ⟨a,h1,h2⟩:=A4 hr;obtain ⟨f,hf⟩:=h.fin ch l hc hl _ h1;obtain ⟨g,hg⟩:=(k a).fin ch l hc hl _ h2;refine ⟨max f g,?_⟩;show Ab.ob (Φ (ch (max f g))) _=_;rw [h.mono _ _ (hc f _ (Nat.le_max_left _ _)) _ hf];exact (k a).mono _ _ (hc g _ (Nat.le_max_right _ _)) _ hg
theorem M5.bb {β:Type}(c:Bool){Φ:RunT->Option β}(h:M5 Φ):M5 fun run=>Ab.bb c (Φ run):=by
 cases c with
 | true=>exact h
 | false=>exact .const none
theorem M5.bi {β:Type}(c:Bool){Φ Ψ:RunT->Option β}(h:M5 Φ) (k:M5 Ψ):M5 fun run=>Ab.bi c (Φ run) (Ψ run):=by
 cases c with
 | true=>exact h
 | false=>exact k
section
variable {P:Program} {H:CZ}
theorem Hy (r:Res){next:RunT->Fr->St->Option Res}(h:∀ fr Z,M5 fun run=>next run fr Z):M5 fun run=>Y6 r (next run):=by
 obtain ⟨o,fr,Z⟩:=r;cases o with
 | normal=>exact h fr Z
 | exit i=>exact .const _
 | ret=>exact .const _
 | pan v=>exact .const _
theorem Vv (g:Nat) (vs:List Value) (Z:St):M5 fun run=>LI P H run g vs Z:=by
 unfold LI;cases H g with
 | some s=>exact s.cont _ _
 | none =>
   refine M5.ob (.const _) fun fn=>?_;cases fn.body with
   | none=>exact .const _
   | some body=>exact M5.ob (.run _ _ _ _) fun _=> .const _
theorem Vw (b:Nat) (vs:List Value) (Z:St):M5 fun run=>Sk run b vs Z:=by
 unfold Sk;refine M5.ob (.const _) fun L=>?_;obtain ⟨fr,ps,assign,body,st,R2⟩:=L;refine M5.bb _ (M5.ob (.const _) fun fr=>M5.ob (.run _ _ _ _) fun r=>?_);obtain ⟨o,fr,Z⟩:=r;cases o with
 | exit i=>exact .const _
 | ret=>exact .const _
 | pan v=>exact .const _
 | normal =>
   refine M5.ob (.const _) fun L=>?_;obtain ⟨fr,ps,assign,body,st,R2⟩:=L;exact M5.bb _ (M5.ob (.const _) fun Z=>M5.ob (.run _ _ _ _) fun r=> .const _)
theorem It (t:Tgt) (vs:List Value) (Z:St):M5 fun run=>Bq P H run t vs Z:=by
 cases t with
 | fn g=>exact Vv g vs Z
 | yld b=>exact Vw b vs Z
theorem Kj (fr:Fr) (Z:St) (o:Oper):M5 fun run=>step P (Bq P H run) fr Z o:=by
 have key:∀ x:Op,M5 fun run=>eO x P (Bq P H run) fr Z o:=by
  intro x;cases x with
  | call c =>
    show M5 fun run=>TR P (Bq P H run) fr Z c;unfold TR;cases c.callee with
    | value f =>
      show M5 fun run=>NY (FL (Bq P H run) fr Z c f);unfold NY FL;refine M5.ob (M5.ob (.const _) fun vs=>M5.ob (.const _) fun v=>M5.ob (.const _) fun f=>?_) fun _=> .const _;obtain ⟨g,first,captured⟩:=f;exact It _ _ _
    | builtin b=>exact .const _
    | _=>exact .const _
  | _=>exact .const _
 exact key o.op
theorem Zw (all:Array Oper):∀ (l:List Oper) (fr:Fr) (Z:St),M5 fun run=>opsV P (Bq P H run) all l fr Z:=by
 intro l;induction l with
 | nil=>intro fr Z;exact .const _
 | cons o l ih =>
   intro fr Z;refine M5.ob (.const _) fun c=>M5.bi c (M5.ob (Kj fr Z o) fun r=>?_) (ih _ _);obtain ⟨v,Z1,d⟩:=r;cases d with
   | pan=>exact .const _
   | none=>exact ih _ _
   | read r=>exact ih _ _
   | eff=>exact ih _ _
theorem Vx (all:Array Oper) (bs:List Nat) (i:Nat):∀ (l:List Oper) (j:Nat) (fr:Fr) (Z:St),M5 fun run=>Hz P (Bq P H run) all bs i l j fr Z:=by
 intro l;induction l with
 | nil=>intro j fr Z;exact .const _
 | cons o l ih =>
   intro j fr Z;exact M5.bi _ (ih _ _ _) (M5.bb _ (M5.ob (.const _) fun c=>M5.bi c (M5.ob (Kj fr Z o) fun r=>ih _ _ _) (ih _ _ _)))
theorem Kk (all:Array Oper):∀ (l:List Oper) (i:Nat) (fr:Fr) (Z:St) (ds:List Trace),M5 fun run=>I6 P (Bq P H run) all l i fr Z ds:=by
 intro l;induction l with
 | nil=>intro i fr Z ds;exact .const _
 | cons o l ih =>
   intro i fr Z ds;refine M5.ob (.const _) fun c=>M5.bi c (M5.ob (Kj fr Z o) fun r=>?_) (ih _ _ _ _);obtain ⟨v,Z1,d⟩:=r;cases d with
   | pan=>exact M5.bb _ (M5.ob (Vx _ _ _ _ _ _ _) fun _=> .const _)
   | none=>exact ih _ _ _ _
   | read r=>exact ih _ _ _ _
   | eff=>exact ih _ _ _ _
theorem Iu (rd:Option Nat) (c:Code) (fr:Fr) (Z:St):M5 fun run=>qL P H run rd c fr Z:=by
 show M5 fun run=>eP c P H run rd fr Z;cases c with
 | region id os draw =>
   refine M5.bi draw (M5.bi _ ?_ (M5.ob (Kk _ _ _ _ _ _) fun r=> .const _)) (Zw _ _ _ _);exact M5.ob (.const _) fun g=>M5.bb _ (M5.ob (Kk _ _ _ _ _ _) fun r0=>M5.ob (.const _) fun kv=>M5.ob (.const _) fun V=>M5.bb _ (M5.ob (Kk _ _ _ _ _ _) fun r=> .const _))
 | seq a b=>exact M5.ob (.run _ _ _ _) fun r=>Hy r fun fr Z=> .run _ _ _ _
 | cond c a b=>exact M5.ob (.const _) fun v=>M5.ob (.const _) fun t=>M5.bi t (.run _ _ _ _) (.run _ _ _ _)
 | block id c=>exact M5.ob (.run _ _ _ _) fun r=> .const _
 | scope c=>exact .run _ _ _ _
 | loop c=>exact M5.ob (.run _ _ _ _) fun r=>Hy r fun fr Z=> .run _ _ _ _
 | rangeFunc f ps assign body =>
   refine M5.bb _ (M5.ob (.const _) fun v=>M5.ob (.const _) fun f=>?_);obtain ⟨t,first,captured⟩:=f;exact M5.ob (.const _) fun g=>M5.bb _ (M5.ob (It _ _ _) fun r=> .const _)
 | _=>exact .const _
theorem lT:∀ f,Le (exec P H f) (exec P H (f+1)):=by
 intro f;induction f with
 | zero=>intro rd c fr Z r h;cases h
 | succ f ih=>intro rd c fr Z r h;exact (Iu rd c fr Z).mono _ _ ih r h
theorem HW (f g:Nat) (h:f<=g):Le (exec P H f) (exec P H g):=by
 induction h with
 | refl=>intro _ _ _ _ _ h;exact h
 | step _ ih=>intro rd c fr Z r h;exact lT _ _ _ _ _ _ (ih _ _ _ _ _ h)
open Classical in
noncomputable def lim (P:Program) (H:CZ):RunT:=fun rd c fr Z=>if h:∃ f r,exec P H f rd c fr Z=some r then exec P H h.choose rd c fr Z else none
theorem eQ {f:Nat}{rd:Option Nat}{c:Code}{fr:Fr}{Z:St}{r:Res}(h:exec P H f rd c fr Z=some r):lim P H rd c fr Z=some r:=by
 have hx:∃ f r,exec P H f rd c fr Z=some r:=⟨f,r,h⟩
 obtain ⟨r',h'⟩:=hx.choose_spec;unfold lim;rw [dif_pos hx,h'];have h1:=HW _ _ (Nat.le_max_left f hx.choose) _ _ _ _ _ h;have h2:=HW _ _ (Nat.le_max_right f hx.choose) _ _ _ _ _ h';rw [h1] at h2;exact h2.symm
theorem NZ {rd:Option Nat}{c:Code}{fr:Fr}{Z:St}{r:Res}(h:lim P H rd c fr Z=some r):∃ f,exec P H f rd c fr Z=some r:=by
 unfold lim at h;split at h
 ·exact ⟨_,h⟩
 ·cases h
theorem FV (rd:Option Nat) (c:Code) (fr:Fr) (Z:St):lim P H rd c fr Z=eP c P H (lim P H) rd fr Z:=by
 apply Option.ext;intro r;constructor
 ·intro h;obtain ⟨f,h⟩:=NZ h;cases f with
  | zero=>cases h
  | succ f=>exact (Iu rd c fr Z).mono (exec P H f) _ (fun _ _ _ _ _ h=>eQ h) r h
 ·intro h;obtain ⟨f,h⟩:=(Iu rd c fr Z).fin (exec P H) (lim P H) HW (fun _ _ _ _ _ h=>NZ h) r h;exact eQ (f:=f+1) h
noncomputable def go (P:Program) (H:CZ) (t:Tgt) (vs:List Value) (Z:St):Option CR:=Bq P H (lim P H) t vs Z
theorem lU {t:Tgt}{vs:List Value}{Z:St}{r:CR}(h:go P H t vs Z=some r):∃ f,Bq P H (exec P H f) t vs Z=some r :=
 (It t vs Z).fin (exec P H) (lim P H) HW (fun _ _ _ _ _ h=>NZ h) r h
end
@[congr] theorem yC {α β:Type} {x y:Option α} {f:α->Option β} (h:x=y):ob x f=ob y f:=by rw [h]
@[congr] theorem yD {β:Type} {c d:Bool} {x:Option β} (h:c=d):bb c x=bb d x:=by rw [h]
@[congr] theorem yE {β:Type} {c d:Bool} {x y:β} (h:c=d):bi c x y=bi d x y:=by rw [h]
@[congr] theorem yF {α β γ:Type} {p q:α×β} {f:α->β->γ} (h:p=q):pr p f=pr q f:=by rw [h]
section
variable {P:Program} {H:CZ} {call:R3} {all:Array Oper} {l:List Oper} {fr:Fr} {Z:St} {d:Option Tmp} {ty:TypeId} {ps:String} {af:Array Edge} {i:Nat} {ds:List Trace}
noncomputable def O7 (P:Program) (call:R3) (all:Array Oper) (l:List Oper) (fr:Fr) (r:Stepped) (d:Option Tmp):Option Res :=
 Stepped.rec (motive:=fun _=>Option Res) (fun v Z e=>La e (opsV P call all l (F8 fr d v) Z) (some ⟨.pan v,fr,Z⟩)) r
noncomputable def j8 (P:Program) (call:R3) (all:Array Oper) (op:Op) (l:List Oper) (i:Nat) (fr:Fr) (Z:St) (ds:List Trace) (r:Stepped) (d:Option Tmp):Option FST :=
 Stepped.rec (motive:=fun _=>Option FST) (fun v Z' e=>La e (I6 P call all l (i+1) (F8 fr d v) Z' (HF i Z Z' e ds)) (Te P call all op l i fr Z v Z' ds)) r
theorem mD {op:Op}{g:Nat×Bool}:opsV P call all (⟨d,op,ty,ps,af,some g⟩::l) fr Z=ob (P8 all fr ⟨d,op,ty,ps,af,some g⟩) fun c=>bi c (opsV P call all (⟨d,op,ty,ps,af,none⟩::l) fr Z) (opsV P call all l (F8 fr d O8) Z):=by
 show ob _ _=_;cases hx:P8 all fr ⟨d,op,ty,ps,af,some g⟩ with
 | none=>rfl
 | some c=>cases op <;> (cases c <;> rfl)
theorem Tf {x:Operand}:opsV P call all (⟨d,.move x,ty,ps,af,none⟩::l) fr Z=ob (ev fr x) fun v=>opsV P call all l (F8 fr d v) Z:=by
 show ob (I1 Z (ev fr x)) (fun r=>O7 P call all l fr r d)=_;cases ev fr x <;> rfl
theorem Tg {x:Operand}:I6 P call all (⟨d,.move x,ty,ps,af,none⟩::l) i fr Z ds=ob (ev fr x) fun v=>I6 P call all l (i+1) (F8 fr d v) Z ds:=by
 show ob (I1 Z (ev fr x)) (fun r=>j8 P call all _ l i fr Z ds r d)=_;cases ev fr x <;> rfl
theorem Nn {x:Operand}:opsV P call all (⟨d,.assign x,ty,ps,af,none⟩::l) fr Z=ob (ev fr x) fun v=>opsV P call all l (F8 fr d v) Z:=by
 show ob (I1 Z (ev fr x)) (fun r=>O7 P call all l fr r d)=_;cases ev fr x <;> rfl
theorem No {x:Operand}:I6 P call all (⟨d,.assign x,ty,ps,af,none⟩::l) i fr Z ds=ob (ev fr x) fun v=>I6 P call all l (i+1) (F8 fr d v) Z ds:=by
 show ob (I1 Z (ev fr x)) (fun r=>j8 P call all _ l i fr Z ds r d)=_;cases ev fr x <;> rfl
theorem Th {c a b:Operand}:opsV P call all (⟨d,.pick c a b,ty,ps,af,none⟩::l) fr Z=ob (Gz fr c a b) fun v=>opsV P call all l (F8 fr d v) Z:=by
 show ob (I1 Z (Gz fr c a b)) (fun r=>O7 P call all l fr r d)=_;cases Gz fr c a b <;> rfl
theorem Ti {c a b:Operand}:I6 P call all (⟨d,.pick c a b,ty,ps,af,none⟩::l) i fr Z ds=ob (Gz fr c a b) fun v=>I6 P call all l (i+1) (F8 fr d v) Z ds:=by
 show ob (I1 Z (Gz fr c a b)) (fun r=>j8 P call all _ l i fr Z ds r d)=_;cases Gz fr c a b <;> rfl
theorem Pw {t:TypeId}:opsV P call all (⟨d,.alloc t,ty,ps,af,none⟩::l) fr Z=ob (u6 P t) fun r=>pr r fun cs v=>opsV P call all l (F8 fr d (v Z.n)) (Z.new cs (some t)):=by
 show ob (asNew Z (u6 P t) (some t)) (fun r=>O7 P call all l fr r d)=_;cases u6 P t with
 | none=>rfl
 | some r=>cases r;rfl
theorem Px {t:TypeId}:I6 P call all (⟨d,.alloc t,ty,ps,af,none⟩::l) i fr Z ds=ob (u6 P t) fun r=>pr r fun cs v=>I6 P call all l (i+1) (F8 fr d (v Z.n)) (Z.new cs (some t)) ds:=by
 show ob (asNew Z (u6 P t) (some t)) (fun r=>j8 P call all _ l i fr Z ds r d)=_;cases u6 P t with
 | none=>rfl
 | some r=>cases r;rfl
theorem YK {t:TypeId}{x:Operand}:opsV P call all (⟨d,.box t x,ty,ps,af,none⟩::l) fr Z=ob (VN fr x) fun r=>pr r fun cs v=>opsV P call all l (F8 fr d (v Z.n)) (Z.new cs):=by
 show ob (asNew Z (VN fr x)) (fun r=>O7 P call all l fr r d)=_;cases VN fr x with
 | none=>rfl
 | some r=>cases r;rfl
theorem Py {t:TypeId}{parts:Array (Nat×Operand)}:opsV P call all (⟨d,.build t parts,ty,ps,af,none⟩::l) fr Z=ob (Dk P fr t parts) fun v=>opsV P call all l (F8 fr d v) Z:=by
 show ob (I1 Z (Dk P fr t parts)) (fun r=>O7 P call all l fr r d)=_;cases Dk P fr t parts <;> rfl
theorem Pz {t:TypeId}{parts:Array (Nat×Operand)}:I6 P call all (⟨d,.build t parts,ty,ps,af,none⟩::l) i fr Z ds=ob (Dk P fr t parts) fun v=>I6 P call all l (i+1) (F8 fr d v) Z ds:=by
 show ob (I1 Z (Dk P fr t parts)) (fun r=>j8 P call all _ l i fr Z ds r d)=_;cases Dk P fr t parts <;> rfl
theorem HG {t:TypeId}{n:Nat}{parts:Array (Nat×Operand)}:opsV P call all (⟨d,.buildSlice t n parts,ty,ps,af,none⟩::l) fr Z=ob (EO P fr t n parts) fun r=>pr r fun cs v=>opsV P call all l (F8 fr d (v Z.n)) (Z.new cs):=by
 show ob (asNew Z (EO P fr t n parts)) (fun r=>O7 P call all l fr r d)=_;cases EO P fr t n parts with
 | none=>rfl
 | some r=>cases r;rfl
theorem HI {t:TypeId}{n:Nat}{parts:Array (Nat×Operand)}:I6 P call all (⟨d,.buildSlice t n parts,ty,ps,af,none⟩::l) i fr Z ds=ob (EO P fr t n parts) fun r=>pr r fun cs v=>I6 P call all l (i+1) (F8 fr d (v Z.n)) (Z.new cs) ds:=by
 show ob (asNew Z (EO P fr t n parts)) (fun r=>j8 P call all _ l i fr Z ds r d)=_;cases EO P fr t n parts with
 | none=>rfl
 | some r=>cases r;rfl
theorem Np {t:TypeId}{m k x:Operand}:opsV P call all (⟨d,.insert t m k x,ty,ps,af,none⟩::l) fr Z=ob (U0 P fr Z t m k x) fun r=>pr r fun v Z'=>opsV P call all l (F8 fr d v) Z':=by
 show ob (Ct (U0 P fr Z t m k x)) (fun r=>O7 P call all l fr r d)=_;cases U0 P fr Z t m k x with
 | none=>rfl
 | some r=>cases r;rfl
theorem Tj {t:TypeId}{a:Operand}:opsV P call all (⟨d,.load t a,ty,ps,af,none⟩::l) fr Z=ob (Fo P fr Z t a) fun r=>pr r fun v b=>opsV P call all l (F8 fr d v) Z:=by
 show ob (Cm Z (Fo P fr Z t a)) (fun r=>O7 P call all l fr r d)=_;cases Fo P fr Z t a with
 | none=>rfl
 | some r=>cases r;rfl
theorem Tl {t:TypeId}{a:Operand}:I6 P call all (⟨d,.load t a,ty,ps,af,none⟩::l) i fr Z ds=ob (Fo P fr Z t a) fun r=>pr r fun v b=>I6 P call all l (i+1) (F8 fr d v) Z (.read i b::ds):=by
 show ob (Cm Z (Fo P fr Z t a)) (fun r=>j8 P call all _ l i fr Z ds r d)=_;cases Fo P fr Z t a with
 | none=>rfl
 | some r=>cases r;rfl
theorem QA {t:TypeId}{a v:Operand}:opsV P call all (⟨d,.store t a v,ty,ps,af,none⟩::l) fr Z=ob (Ek P fr Z t a v) fun r=>pr r fun v Z'=>opsV P call all l (F8 fr d v) Z':=by
 show ob (Ct (Ek P fr Z t a v)) (fun r=>O7 P call all l fr r d)=_;cases Ek P fr Z t a v with
 | none=>rfl
 | some r=>cases r;rfl
theorem QB {t:TypeId}{a v:Operand}:I6 P call all (⟨d,.store t a v,ty,ps,af,none⟩::l) i fr Z ds=ob (Ek P fr Z t a v) fun r=>pr r fun v Z'=>I6 P call all l (i+1) (F8 fr d v) Z' (.eff i Z Z'::ds):=by
 show ob (Ct (Ek P fr Z t a v)) (fun r=>j8 P call all _ l i fr Z ds r d)=_;cases Ek P fr Z t a v with
 | none=>rfl
 | some r=>cases r;rfl
theorem Jo {x:Operand}:opsV P call all (⟨d,.nilCheck x,ty,ps,af,none⟩::l) fr Z=ob (Ao fr x) fun v=>opsV P call all l (F8 fr d v) Z:=by
 show ob (I1 Z (Ao fr x)) (fun r=>O7 P call all l fr r d)=_;cases Ao fr x <;> rfl
theorem Jp {x:Operand}:I6 P call all (⟨d,.nilCheck x,ty,ps,af,none⟩::l) i fr Z ds=ob (Ao fr x) fun v=>I6 P call all l (i+1) (F8 fr d v) Z ds:=by
 show ob (I1 Z (Ao fr x)) (fun r=>j8 P call all _ l i fr Z ds r d)=_;cases Ao fr x <;> rfl
theorem YL {b:BinOp}{t u:TypeId}{x y:Operand}:opsV P call all (⟨d,.binOp b t x y u,ty,ps,af,none⟩::l) fr Z=ob (NR P fr ⟨d,.binOp b t x y u,ty,ps,af,none⟩ b t x y) fun v=>opsV P call all l (F8 fr d v) Z:=by
 show ob (I1 Z (NR P fr ⟨d,.binOp b t x y u,ty,ps,af,none⟩ b t x y)) (fun r=>O7 P call all l fr r d)=_;cases NR P fr ⟨d,.binOp b t x y u,ty,ps,af,none⟩ b t x y <;> rfl
theorem YM {b:BinOp}{t u:TypeId}{x y:Operand}:I6 P call all (⟨d,.binOp b t x y u,ty,ps,af,none⟩::l) i fr Z ds=ob (NR P fr ⟨d,.binOp b t x y u,ty,ps,af,none⟩ b t x y) fun v=>I6 P call all l (i+1) (F8 fr d v) Z ds:=by
 show ob (I1 Z (NR P fr ⟨d,.binOp b t x y u,ty,ps,af,none⟩ b t x y)) (fun r=>j8 P call all _ l i fr Z ds r d)=_;cases NR P fr ⟨d,.binOp b t x y u,ty,ps,af,none⟩ b t x y <;> rfl
theorem fM {b:UnOp}{t:TypeId}{x:Operand}:opsV P call all (⟨d,.unOp b t x,ty,ps,af,none⟩::l) fr Z=ob (Bs P fr ⟨d,.unOp b t x,ty,ps,af,none⟩ x) fun v=>opsV P call all l (F8 fr d v) Z:=by
 show ob (I1 Z (Bs P fr ⟨d,.unOp b t x,ty,ps,af,none⟩ x)) (fun r=>O7 P call all l fr r d)=_;cases Bs P fr ⟨d,.unOp b t x,ty,ps,af,none⟩ x <;> rfl
theorem fN {b:UnOp}{t:TypeId}{x:Operand}:I6 P call all (⟨d,.unOp b t x,ty,ps,af,none⟩::l) i fr Z ds=ob (Bs P fr ⟨d,.unOp b t x,ty,ps,af,none⟩ x) fun v=>I6 P call all l (i+1) (F8 fr d v) Z ds:=by
 show ob (I1 Z (Bs P fr ⟨d,.unOp b t x,ty,ps,af,none⟩ x)) (fun r=>j8 P call all _ l i fr Z ds r d)=_;cases Bs P fr ⟨d,.unOp b t x,ty,ps,af,none⟩ x <;> rfl
theorem QC {t:TypeId}{x:Operand}:opsV P call all (⟨d,.makeInterface t x,ty,ps,af,none⟩::l) fr Z=ob (Il P fr t x) fun v=>opsV P call all l (F8 fr d v) Z:=by
 show ob (I1 Z (Il P fr t x)) (fun r=>O7 P call all l fr r d)=_;cases Il P fr t x <;> rfl
theorem To {fn:Fn}{fs cs:Array Operand}:opsV P call all (⟨d,.makeFunc fn fs cs,ty,ps,af,none⟩::l) fr Z=ob (HB fr fn fs cs) fun v=>opsV P call all l (F8 fr d v) Z:=by
 show ob (I1 Z (HB fr fn fs cs)) (fun r=>O7 P call all l fr r d)=_;cases HB fr fn fs cs <;> rfl
theorem Tq {fn:Fn}{fs cs:Array Operand}:I6 P call all (⟨d,.makeFunc fn fs cs,ty,ps,af,none⟩::l) i fr Z ds=ob (HB fr fn fs cs) fun v=>I6 P call all l (i+1) (F8 fr d v) Z ds:=by
 show ob (I1 Z (HB fr fn fs cs)) (fun r=>j8 P call all _ l i fr Z ds r d)=_;cases HB fr fn fs cs <;> rfl
theorem Lb {t:TypeId}{r:Option Operand}:opsV P call all (⟨d,.makeMap t r,ty,ps,af,none⟩::l) fr Z=ob (DZ fr Z r) fun r=>pr r fun v Z'=>opsV P call all l (F8 fr d v) Z':=by
 show ob (Ct (DZ fr Z r)) (fun r=>O7 P call all l fr r d)=_;cases DZ fr Z r with
 | none=>rfl
 | some r=>cases r;rfl
theorem IC {t:TypeId}{n c:Operand}:opsV P call all (⟨d,.makeSlice t n c,ty,ps,af,none⟩::l) fr Z=ob (Ml P fr t n c) fun r=>pr r fun cs v=>opsV P call all l (F8 fr d (v Z.n)) (Z.new cs):=by
 show ob (asNew Z (Ml P fr t n c)) (fun r=>O7 P call all l fr r d)=_;cases Ml P fr t n c with
 | none=>rfl
 | some r=>cases r;rfl
theorem QD {t:TypeId}{x:Operand}{lo hi mx:Option Operand}:opsV P call all (⟨d,.slice t x lo hi mx,ty,ps,af,none⟩::l) fr Z=ob (Eg P fr t x lo hi mx) fun v=>opsV P call all l (F8 fr d v) Z:=by
 show ob (I1 Z (Eg P fr t x lo hi mx)) (fun r=>O7 P call all l fr r d)=_;cases Eg P fr t x lo hi mx <;> rfl
theorem QE {t:TypeId}{x:Operand}{lo hi mx:Option Operand}:I6 P call all (⟨d,.slice t x lo hi mx,ty,ps,af,none⟩::l) i fr Z ds=ob (Eg P fr t x lo hi mx) fun v=>I6 P call all l (i+1) (F8 fr d v) Z ds:=by
 show ob (I1 Z (Eg P fr t x lo hi mx)) (fun r=>j8 P call all _ l i fr Z ds r d)=_;cases Eg P fr t x lo hi mx <;> rfl
theorem ID {s:TypeId}{x:Operand}{f:Nat}:opsV P call all (⟨d,.fieldAddr s x f,ty,ps,af,none⟩::l) fr Z=ob (j7 P fr s x f) fun v=>opsV P call all l (F8 fr d v) Z:=by
 show ob (I1 Z (j7 P fr s x f)) (fun r=>O7 P call all l fr r d)=_;cases j7 P fr s x f <;> rfl
theorem IE {s:TypeId}{x:Operand}{f:Nat}:I6 P call all (⟨d,.fieldAddr s x f,ty,ps,af,none⟩::l) i fr Z ds=ob (j7 P fr s x f) fun v=>I6 P call all l (i+1) (F8 fr d v) Z ds:=by
 show ob (I1 Z (j7 P fr s x f)) (fun r=>j8 P call all _ l i fr Z ds r d)=_;cases j7 P fr s x f <;> rfl
theorem QF {s:TypeId}{x:Operand}{f:Nat}:opsV P call all (⟨d,.field s x f,ty,ps,af,none⟩::l) fr Z=ob (Du P fr s x f) fun v=>opsV P call all l (F8 fr d v) Z:=by
 show ob (I1 Z (Du P fr s x f)) (fun r=>O7 P call all l fr r d)=_;cases Du P fr s x f <;> rfl
theorem QG {s:TypeId}{x:Operand}{f:Nat}:I6 P call all (⟨d,.field s x f,ty,ps,af,none⟩::l) i fr Z ds=ob (Du P fr s x f) fun v=>I6 P call all l (i+1) (F8 fr d v) Z ds:=by
 show ob (I1 Z (Du P fr s x f)) (fun r=>j8 P call all _ l i fr Z ds r d)=_;cases Du P fr s x f <;> rfl
theorem IG {t:TypeId}{x ix:Operand}:opsV P call all (⟨d,.indexAddr t x ix,ty,ps,af,none⟩::l) fr Z=ob (AH P fr t x ix) fun v=>opsV P call all l (F8 fr d v) Z:=by
 show ob (I1 Z (AH P fr t x ix)) (fun r=>O7 P call all l fr r d)=_;cases AH P fr t x ix <;> rfl
theorem IH {t:TypeId}{x ix:Operand}:I6 P call all (⟨d,.indexAddr t x ix,ty,ps,af,none⟩::l) i fr Z ds=ob (AH P fr t x ix) fun v=>I6 P call all l (i+1) (F8 fr d v) Z ds:=by
 show ob (I1 Z (AH P fr t x ix)) (fun r=>j8 P call all _ l i fr Z ds r d)=_;cases AH P fr t x ix <;> rfl
theorem QH {t:TypeId}{x ix:Operand}:opsV P call all (⟨d,.index t x ix,ty,ps,af,none⟩::l) fr Z=ob (Io P fr t x ix) fun v=>opsV P call all l (F8 fr d v) Z:=by
 show ob (I1 Z (Io P fr t x ix)) (fun r=>O7 P call all l fr r d)=_;cases Io P fr t x ix <;> rfl
theorem Nq {t:TypeId}{x ix:Operand}{ok:Bool}:opsV P call all (⟨d,.lookup t x ix ok,ty,ps,af,none⟩::l) fr Z=ob (Bn P fr Z t x ix ok) fun r=>pr r fun v Z'=>opsV P call all l (F8 fr d v) Z':=by
 show ob (Ct (Bn P fr Z t x ix ok)) (fun r=>O7 P call all l fr r d)=_;cases Bn P fr Z t x ix ok with
 | none=>rfl
 | some r=>cases r;rfl
theorem Nr {t:TypeId}{x ix:Operand}{ok:Bool}:I6 P call all (⟨d,.lookup t x ix ok,ty,ps,af,none⟩::l) i fr Z ds=ob (Bn P fr Z t x ix ok) fun r=>pr r fun v Z'=>I6 P call all l (i+1) (F8 fr d v) Z' (.eff i Z Z'::ds):=by
 show ob (Ct (Bn P fr Z t x ix ok)) (fun r=>j8 P call all _ l i fr Z ds r d)=_;cases Bn P fr Z t x ix ok with
 | none=>rfl
 | some r=>cases r;rfl
theorem II {t:TypeId}{m k x:Operand}:opsV P call all (⟨d,.mapUpdate t m k x,ty,ps,af,none⟩::l) fr Z=ob (U0 P fr Z t m k x) fun r=>pr r fun v Z'=>opsV P call all l (F8 fr d v) Z':=by
 show ob (Ct (U0 P fr Z t m k x)) (fun r=>O7 P call all l fr r d)=_;cases U0 P fr Z t m k x with
 | none=>rfl
 | some r=>cases r;rfl
theorem Lc {t:Operand}{ix:Nat}:opsV P call all (⟨d,.extract t ix,ty,ps,af,none⟩::l) fr Z=ob (Bc fr t ix) fun v=>opsV P call all l (F8 fr d v) Z:=by
 show ob (I1 Z (Bc fr t ix)) (fun r=>O7 P call all l fr r d)=_;cases Bc fr t ix <;> rfl
theorem Ld {t:Operand}{ix:Nat}:I6 P call all (⟨d,.extract t ix,ty,ps,af,none⟩::l) i fr Z ds=ob (Bc fr t ix) fun v=>I6 P call all l (i+1) (F8 fr d v) Z ds:=by
 show ob (I1 Z (Bc fr t ix)) (fun r=>j8 P call all _ l i fr Z ds r d)=_;cases Bc fr t ix <;> rfl
theorem YN {as:Array Operand}{ts:Array TypeId}:opsV P call all (⟨d,.call ⟨.builtin .len,as,ts⟩,ty,ps,af,none⟩::l) fr Z=ob (NM P fr ⟨.builtin .len,as,ts⟩) fun v=>opsV P call all l (F8 fr d v) Z:=by
 show ob (I1 Z (NM P fr ⟨.builtin .len,as,ts⟩)) (fun r=>O7 P call all l fr r d)=_;cases NM P fr ⟨.builtin .len,as,ts⟩ <;> rfl
theorem YO {as:Array Operand}{ts:Array TypeId}:I6 P call all (⟨d,.call ⟨.builtin .len,as,ts⟩,ty,ps,af,none⟩::l) i fr Z ds=ob (NM P fr ⟨.builtin .len,as,ts⟩) fun v=>I6 P call all l (i+1) (F8 fr d v) Z ds:=by
 show ob (I1 Z (NM P fr ⟨.builtin .len,as,ts⟩)) (fun r=>j8 P call all _ l i fr Z ds r d)=_;cases NM P fr ⟨.builtin .len,as,ts⟩ <;> rfl
theorem YP {as:Array Operand}{ts:Array TypeId}:opsV P call all (⟨d,.call ⟨.builtin .max,as,ts⟩,ty,ps,af,none⟩::l) fr Z=ob (pMM fr true ⟨.builtin .max,as,ts⟩) fun v=>opsV P call all l (F8 fr d v) Z:=by
 show ob (I1 Z (pMM fr true ⟨.builtin .max,as,ts⟩)) (fun r=>O7 P call all l fr r d)=_;cases pMM fr true ⟨.builtin .max,as,ts⟩ <;> rfl
theorem YQ {as:Array Operand}{ts:Array TypeId}:opsV P call all (⟨d,.call ⟨.builtin .min,as,ts⟩,ty,ps,af,none⟩::l) fr Z=ob (pMM fr false ⟨.builtin .min,as,ts⟩) fun v=>opsV P call all l (F8 fr d v) Z:=by
 show ob (I1 Z (pMM fr false ⟨.builtin .min,as,ts⟩)) (fun r=>O7 P call all l fr r d)=_;cases pMM fr false ⟨.builtin .min,as,ts⟩ <;> rfl
theorem Ns {as:Array Operand}{ts:Array TypeId}:opsV P call all (⟨d,.call ⟨.builtin .append,as,ts⟩,ty,ps,af,none⟩::l) fr Z=ob (Cd P fr Z ⟨.builtin .append,as,ts⟩) fun r=>pr r fun v Z'=>opsV P call all l (F8 fr d v) Z':=by
 show ob (Ct (Cd P fr Z ⟨.builtin .append,as,ts⟩)) (fun r=>O7 P call all l fr r d)=_;cases Cd P fr Z ⟨.builtin .append,as,ts⟩ with
 | none=>rfl
 | some r=>cases r;rfl
theorem Nt {as:Array Operand}{ts:Array TypeId}:I6 P call all (⟨d,.call ⟨.builtin .append,as,ts⟩,ty,ps,af,none⟩::l) i fr Z ds=ob (Cd P fr Z ⟨.builtin .append,as,ts⟩) fun r=>pr r fun v Z'=>I6 P call all l (i+1) (F8 fr d v) Z' (.eff i Z Z'::ds):=by
 show ob (Ct (Cd P fr Z ⟨.builtin .append,as,ts⟩)) (fun r=>j8 P call all _ l i fr Z ds r d)=_;cases Cd P fr Z ⟨.builtin .append,as,ts⟩ with
 | none=>rfl
 | some r=>cases r;rfl
theorem Tt {s u:TypeId}{x:Operand}:opsV P call all (⟨d,.convert s u x,ty,ps,af,none⟩::l) fr Z=ob (orS (asNew Z (EP P fr s u x)) (orS (Cm Z (Bl P fr Z s u x)) (I1 Z (Bs P fr ⟨d,.convert s u x,ty,ps,af,none⟩ x)))) fun r=>O7 P call all l fr r d:=rfl
theorem fO {f:Operand}{as:Array Operand}{ts:Array TypeId}:opsV P call all (⟨d,.call ⟨.value f,as,ts⟩,ty,ps,af,none⟩::l) fr Z=ob (FL call fr Z ⟨.value f,as,ts⟩ f) fun r=>bi r.pan (some ⟨.pan r.v,fr,r.Z⟩) (opsV P call all l (F8 fr d r.v) r.Z):=by
 show ob (NY (FL call fr Z ⟨.value f,as,ts⟩ f)) (fun r=>O7 P call all l fr r d)=_;cases FL call fr Z ⟨.value f,as,ts⟩ f with
 | none=>rfl
 | some r=>obtain ⟨p,v,Z1⟩:=r;cases p <;> rfl
theorem aM {x:Operand}:opsV P call all (⟨d,.panic x,ty,ps,af,none⟩::l) fr Z=ob (Nc fr Z x) fun r=>O7 P call all l fr r d:=rfl
theorem Tu {s u:TypeId}{x:Operand}:I6 P call all (⟨d,.convert s u x,ty,ps,af,none⟩::l) i fr Z ds=ob (orS (asNew Z (EP P fr s u x)) (orS (Cm Z (Bl P fr Z s u x)) (I1 Z (Bs P fr ⟨d,.convert s u x,ty,ps,af,none⟩ x)))) fun r=>j8 P call all (.convert s u x) l i fr Z ds r d:=rfl
theorem fP {f:Operand}{as:Array Operand}{ts:Array TypeId}:I6 P call all (⟨d,.call ⟨.value f,as,ts⟩,ty,ps,af,none⟩::l) i fr Z ds=ob (FL call fr Z ⟨.value f,as,ts⟩ f) fun r=>bi r.pan (Te P call all (.call ⟨.value f,as,ts⟩) l i fr Z r.v r.Z ds) (I6 P call all l (i+1) (F8 fr d r.v) r.Z (.eff i Z r.Z::ds)):=by
 show ob (NY (FL call fr Z ⟨.value f,as,ts⟩ f)) (fun r=>j8 P call all _ l i fr Z ds r d)=_;cases FL call fr Z ⟨.value f,as,ts⟩ f with
 | none=>rfl
 | some r=>obtain ⟨p,v,Z1⟩:=r;cases p <;> rfl
theorem mE:opsV P call all [] fr Z=some ⟨.normal,fr,Z⟩:=rfl
theorem mF:I6 P call all [] i fr Z ds=some ⟨fr,Z,ds,none⟩:=rfl
theorem Tv {v:Value}{t:Tmp}:F8 fr (some t) v=fr.set t v:=rfl
theorem Tw {v:Value}:F8 fr none v=fr:=rfl
end
section
variable {P:Program} {H:CZ} {rd:Option Nat} {fr:Fr} {Z:St}
theorem mG:lim P H rd .skip fr Z=some ⟨.normal,fr,Z⟩:=FV ..
theorem mH {k:Nat}:lim P H rd (.exit k) fr Z=some ⟨.exit k,fr,Z⟩:=FV ..
theorem sj:lim P H rd .ret fr Z=some ⟨.ret,fr,Z⟩:=FV ..
theorem sk {a b:Code}:lim P H rd (.seq a b) fr Z=ob (lim P H rd a fr Z) fun r=>Y6 r (lim P H rd b):=FV ..
theorem YJ {a:Code}:lim P H rd (.loop a) fr Z=ob (lim P H rd a fr Z) fun r=>Y6 r (lim P H rd (.loop a)):=FV ..
theorem fQ {k:Nat}{a:Code}:lim P H rd (.block k a) fr Z=ob (lim P H rd a fr Z) (Dp k):=FV ..
theorem mI {c:Operand}{a b:Code}:lim P H rd (.cond c a b) fr Z=ob (ev fr c) fun v=>ob (bool? v) fun t=>bi t (lim P H rd a fr Z) (lim P H rd b fr Z):=FV ..
theorem lu {k:Nat}{os:Array Oper}(h:CD os.toList=false):lim P H rd (.region k os true) fr Z=drawn os (I6 P (go P H) os os.toList 0 fr Z []):=by
 refine (FV ..).trans ?_;show bi (CD os.toList) _ _=_;rw [h];rfl
theorem aF {next:Fr->St->Option Res}:Y6 ⟨.normal,fr,Z⟩ next=next fr Z:=rfl
theorem Rc {next:Fr->St->Option Res}{k:Nat}:Y6 ⟨.exit k,fr,Z⟩ next=some ⟨.exit k,fr,Z⟩:=rfl
theorem WK {next:Fr->St->Option Res}:Y6 ⟨.ret,fr,Z⟩ next=some ⟨.ret,fr,Z⟩:=rfl
theorem WL {next:Fr->St->Option Res}{v:Value}:Y6 ⟨.pan v,fr,Z⟩ next=some ⟨.pan v,fr,Z⟩:=rfl
theorem aN {k:Nat}:Dp k ⟨.normal,fr,Z⟩=some ⟨.normal,fr,Z⟩:=rfl
theorem mJ {k m:Nat}:Dp k ⟨.exit m,fr,Z⟩=if m=k then some ⟨.normal,fr,Z⟩ else some ⟨.exit m,fr,Z⟩:=by
 show bi (Nat.beq m k) _ _=_;by_cases h:m=k
 ·subst h;rw [if_pos rfl];simp
 ·rw [if_neg h];cases hb:Nat.beq m k with
  | true=>exact absurd (Nat.eq_of_beq_eq_true hb) h
  | false=>rfl
theorem sn {k:Nat}:Dp k ⟨.ret,fr,Z⟩=some ⟨.ret,fr,Z⟩:=rfl
theorem sq {k:Nat}{v:Value}:Dp k ⟨.pan v,fr,Z⟩=some ⟨.pan v,fr,Z⟩:=rfl
theorem L7 {t:Fr}{n m:Nat}{v:Value}:(t.set n v).get m=if m=n then some v else t.get m:=Tr.L7 v t n m
theorem Nu {k:Nat}:Cx [] k fr=fr:=rfl
theorem Km {k:Nat}{v:Value}{vs:List Value}:Cx (v::vs) k fr=Cx vs (k+1) (fr.set k v):=rfl
theorem aO {n:Nat}:(Tr.nil:Fr).get n=none:=rfl
theorem yG {g:Nat}{vs:List Value}{fn:Func}{body:Code}(hH:H g=none) (hf:P.funcs[g]? =some fn) (hb:fn.body=some body) :
  go P H (.fn g) vs Z=ob (lim P H none body (Cx vs 0 .nil) Z) fun r=>Cf P fn r:=by
 show LI P H (lim P H) g vs Z=_;unfold LI;rw [hH];show ob (P.funcs[g]?) _=_;rw [hf,C6];simp only [hb];rfl
theorem WR {fn:Func}:Cf P fn ⟨.normal,fr,Z⟩=ob (Fe P fr Z fn.results.toList) fun vs=>some ⟨false,tup vs,Z⟩:=rfl
theorem mK {fn:Func}:Cf P fn ⟨.ret,fr,Z⟩=ob (Fe P fr Z fn.results.toList) fun vs=>some ⟨false,tup vs,Z⟩:=rfl
theorem mL {fn:Func}{v:Value}:Cf P fn ⟨.pan v,fr,Z⟩=some ⟨true,v,Z⟩:=rfl
theorem mM:Fe P fr Z []=some []:=rfl
theorem mN {t:Tmp}{l:List ResultVar}:Fe P fr Z (.tmp t::l)=ob (fr.get t) fun v=>ob (Fe P fr Z l) fun vs=>some (v::vs):=rfl
theorem fS {a:Tmp}{t:TypeId}{l:List ResultVar}:Fe P fr Z (.cell a t::l)=ob (ob (fr.get a) fun p=>Lf P Z t p) fun v=>ob (Fe P fr Z l) fun vs=>some (v::vs):=rfl
theorem ss {t:Tmp}:ev fr (.tmp t)=fr.get t:=rfl
theorem mO {f:FuncId}:ev fr (.func f)=some (.func (.func f) #[] #[]):=rfl
theorem su {k:IntKind}{n:Int}:ev fr (.const (.int k n))=some (.int k n):=rfl
theorem mP {b:Bool}:ev fr (.const (.bool b))=some (.bool b):=rfl
theorem Tx:ev fr (.const .nilIface)=some .nilIface:=rfl
theorem Ty:ev fr (.const (.slice none 0 0))=some (.slice none 0 0):=rfl
theorem mQ:evs fr []=some []:=rfl
theorem fU {o:Operand}{l:List Operand}:evs fr (o::l)=ob (ev fr o) fun v=>ob (evs fr l) fun vs=>some (v::vs):=rfl
theorem mR {v:Value}:tup [v]=v:=rfl
theorem mS:tup []= .tuple ⟨[]⟩:=rfl
theorem mT {v u:Value}{vs:List Value}:tup (v::u::vs)= .tuple ⟨v::u::vs⟩:=rfl
theorem sw {b:Bool}:bool? (.bool b)=some b:=rfl
theorem yH {v:Value}:Hk [v]=some v:=rfl
theorem yI {v u:Value}:fV [v,u]=some (v,u):=rfl
theorem AH6 {b o:Nat}:at? (.pointer (some ⟨b,o,none⟩))=some (b,o):=rfl
theorem yJ {k:IntKind}{n:Nat}:nat? (.int k (n:Int))=some n:=rfl
theorem sx {k:IntKind}:nat? (.int k 0)=some 0:=rfl
theorem yK {c:Array Value}:Zo (.agg c)=some c.toList:=rfl
theorem mU {c:Array Value}:Vt (.tuple c)=some c.toList:=rfl
theorem sy {g:Nat}{a b:Array Value}:LX (.func (.func g) a b)=some ⟨.fn g,a.toList,b.toList⟩:=rfl
theorem Tz {call:R3}{c:Call}{f:Operand}:FL call fr Z c f=ob (evs fr c.args.toList) fun vs=>ob (ev fr f) fun v=>ob (LX v) fun f=>call f.g (f.first++vs++f.captured) Z:=rfl
end
/- XY. -/
theorem fJ (a b:Nat):Nat.blt a b=decide (a<b):=by
 rw [Bool.eq_iff_iff,Nat.blt_eq,decide_eq_true_iff]
theorem yL (a b:Nat):Nat.beq a b=decide (a=b):=by
 rw [Bool.eq_iff_iff,decide_eq_true_iff];exact ⟨Nat.eq_of_beq_eq_true,fun h=>by subst h;simp⟩
theorem Gf (a b:Int):ilt a b=decide (a<b):=by
 rw [Bool.eq_iff_iff,decide_eq_true_iff];cases a with
 | ofNat a=>cases b with
   | ofNat b=>simp only [ilt,fJ,decide_eq_true_iff];exact Int.ofNat_lt.symm
   | negSucc b=>simp only [ilt];constructor
                ·intro h;cases h
                ·intro h;have:=Int.negSucc_lt_zero b;have:=Int.natCast_nonneg a;simp only [Int.ofNat_eq_natCast] at h;omega
 | negSucc a=>cases b with
   | ofNat b=>simp only [ilt,true_iff];have:=Int.negSucc_lt_zero a;have:=Int.natCast_nonneg b;simp only [Int.ofNat_eq_natCast];omega
   | negSucc b=>simp only [ilt,fJ,decide_eq_true_iff];rw [Int.negSucc_eq,Int.negSucc_eq];omega
theorem eB (a b:Int):ieq a b=decide (a=b):=by
 rw [Bool.eq_iff_iff,decide_eq_true_iff];cases a with
 | ofNat a=>cases b with
   | ofNat b=>simp only [ieq,yL,decide_eq_true_iff];exact Int.ofNat_inj.symm
   | negSucc b=>simp only [ieq];constructor
                ·intro h;cases h
                ·intro h;cases h
 | negSucc a=>cases b with
   | ofNat b=>simp only [ieq];constructor
              ·intro h;cases h
              ·intro h;cases h
   | negSucc b=>simp only [ieq,yL,decide_eq_true_iff];rw [Int.negSucc_eq,Int.negSucc_eq];omega
theorem ly:∀ (a b:List UInt8),Iq a b=decide (a=b):=by
 intro a;induction a with
 | nil=>intro b;cases b <;> simp [Iq]
 | cons x xs ih =>
   intro b;cases b with
   | nil=>simp [Iq]
   | cons y ys =>
     show bi (Nat.beq x.toNat y.toNat) (Iq xs ys) false=_;by_cases h:x=y
     ·subst h;simp [ih]
     ·have:Nat.beq x.toNat y.toNat=false:=by
       cases hb:Nat.beq x.toNat y.toNat with
       | true=>exact absurd (UInt8.toNat_inj.1 (Nat.eq_of_beq_eq_true hb)) h
       | false=>rfl
      rw [this];simp [h]
def Bz (Z:St) (b:Nat) (cs:List Value):Prop:=∃ own ver t,Z.h.get b=some ⟨cs,true,own,ver,.row t⟩
def Own (Z:St) (b:Nat) (cs:List Value):Prop:=∃ ver t,Z.h.get b=some ⟨cs,true,true,ver,.row t⟩
structure Ext (Z Z':St):Prop where
 n:Z.n<=Z'.n
 same:∀ b,b<Z.n->Z'.h.get b=Z.h.get b
noncomputable def St.upd (Z:St) (b:Nat) (cs:List Value):St:=⟨Z.h.set b ⟨cs,true,true,Z.ver b+1,.row (Z.typ b)⟩,Z.n⟩
noncomputable def St.dead (Z:St) (b:Nat):St:=⟨Z.h.set b ⟨[],false,true,Z.ver b+1,.row none⟩,Z.n⟩
theorem Own.row {Z:St}{b:Nat}{cs:List Value}(h:Own Z b cs):Bz Z b cs:=let ⟨v,t,h⟩:=h;⟨true,v,t,h⟩
theorem Bz.BE {Z:St}{b:Nat}{cs:List Value}(h:Bz Z b cs):∃ own ver t,Z.BE b=some ⟨cs,true,own,ver,.row t⟩:=by
 obtain ⟨o,v,t,h⟩:=h;refine ⟨o,v,t,?_⟩;show ob (ob (Z.h.get b) _) _=_;rw [h];rfl
theorem Bz.read {Z:St}{b:Nat}{cs:List Value}(h:Bz Z b cs) (off n:Nat):Z.read b off n=sub cs off n:=by
 obtain ⟨o,v,t,h⟩:=h.BE;show ob (Z.BE b) _=_;rw [h];rfl
theorem Own.write {Z:St}{b:Nat}{cs:List Value}(h:Own Z b cs) (off:Nat) (vs:List Value):Z.write b off vs=ob (M3 cs off vs) fun cs'=>some (Z.upd b cs'):=by
 obtain ⟨v,t,h⟩:=h;have hv:Z.ver b=v:=by unfold St.ver;rw [h]
 have hk:Z.typ b=t:=by unfold St.typ;rw [h];rfl
 have hb:Z.BE b=some ⟨cs,true,true,v,.row t⟩:=by
  show ob (ob (Z.h.get b) _) _=_;rw [h];rfl
 show ob (Z.BE b) _=_;unfold St.upd;rw [hb,hv,hk];rfl
theorem Own.kill {Z:St}{b:Nat}{cs:List Value}(h:Own Z b cs):Z.kill b=some (Z.dead b):=by
 obtain ⟨v,t,h⟩:=h;have hv:Z.ver b=v:=by unfold St.ver;rw [h]
 have hk:Z.typ b=t:=by unfold St.typ;rw [h];rfl
 have hb:Z.BE b=some ⟨cs,true,true,v,.row t⟩:=by
  show ob (ob (Z.h.get b) _) _=_;rw [h];rfl
 show ob (Z.BE b) _=_;unfold St.dead;rw [hb,hv];rfl
variable {t:Option TypeId}
@[simp] theorem N3 (Z:St) (cs:List Value):(Z.new cs t).n=Z.n+1:=rfl
@[simp] theorem LR (Z:St) (b:Nat) (cs:List Value):(Z.upd b cs).n=Z.n:=rfl
@[simp] theorem Ku (Z:St) (b:Nat):(Z.dead b).n=Z.n:=rfl
theorem M7 (Z:St) (cs:List Value) (b:Nat):(Z.new cs t).h.get b=if b=Z.n then some ⟨cs,true,true,0,.row t⟩ else Z.h.get b:=Tr.L7 _ _ _ _
theorem J8 (Z:St) (c:Nat) (cs:List Value) (b:Nat):(Z.upd c cs).h.get b=if b=c then some ⟨cs,true,true,Z.ver c+1,.row (Z.typ c)⟩ else Z.h.get b:=Tr.L7 _ _ _ _
theorem DT (Z:St) (c:Nat) (b:Nat):(Z.dead c).h.get b=if b=c then some ⟨[],false,true,Z.ver c+1,.row none⟩ else Z.h.get b:=Tr.L7 _ _ _ _
theorem Ext.refl (Z:St):Ext Z Z:=⟨Nat.le_refl _,fun _ _=>rfl⟩
theorem Ext.trans {Z Z' Z'':St}(h:Ext Z Z') (k:Ext Z' Z''):Ext Z Z'':=⟨Nat.le_trans h.n k.n,fun b hb=>by rw [k.same b (Nat.lt_of_lt_of_le hb h.n),h.same b hb]⟩
theorem Ext.new (Z:St) (cs:List Value):Ext Z (Z.new cs t):=⟨Nat.le_succ _,fun b hb=>by rw [M7,if_neg om]⟩
theorem Ext.upd {Z Z':St}(h:Ext Z Z'){b:Nat}(hb:Z.n<=b) (cs:List Value):Ext Z (Z'.upd b cs):=⟨h.n,fun c hc=>by rw [J8,if_neg om,h.same c hc]⟩
theorem Ext.dead {Z Z':St}(h:Ext Z Z'){b:Nat}(hb:Z.n<=b):Ext Z (Z'.dead b):=⟨h.n,fun c hc=>by rw [DT,if_neg om,h.same c hc]⟩
theorem Ext.AF {Z Z':St}(h:Ext Z Z') (cs:List Value):Ext Z (Z'.new cs t):=h.trans (.new _ _)
theorem Bz.lt {Z:St}{b:Nat}{cs:List Value}(h:Bz Z b cs) (hf:∀ b,Z.n<=b->Z.h.get b=none):b<Z.n:=by
 rcases Nat.lt_or_ge b Z.n with hh|hh
 ·exact hh
 ·obtain ⟨o,v,t,h⟩:=h;rw [hf b hh] at h;cases h
theorem Bz.ext {Z Z':St}{b:Nat}{cs:List Value}(h:Bz Z b cs) (hb:b<Z.n) (he:Ext Z Z'):Bz Z' b cs:=let ⟨o,v,t,h⟩:=h;⟨o,v,t,by rw [he.same b hb];exact h⟩
theorem Own.ext {Z Z':St}{b:Nat}{cs:List Value}(h:Own Z b cs) (hb:b<Z.n) (he:Ext Z Z'):Own Z' b cs:=let ⟨v,t,h⟩:=h;⟨v,t,by rw [he.same b hb];exact h⟩
theorem Own.new (Z:St) (cs:List Value):Own (Z.new cs t) Z.n cs:=⟨0,t,by rw [M7,if_pos rfl]⟩
theorem Own.upd (Z:St) (b:Nat) (cs:List Value):Own (Z.upd b cs) b cs:=⟨_,_,by rw [J8,if_pos rfl]⟩
theorem Own.DD {Z:St}{b c:Nat}{cs ds:List Value}(h:Own Z b cs) (hb:b≠c):Own (Z.upd c ds) b cs:=let ⟨v,t,h⟩:=h;⟨v,t,by rw [J8,if_neg hb];exact h⟩
theorem Bz.DD {Z:St}{b c:Nat}{cs ds:List Value}(h:Bz Z b cs) (hb:b≠c):Bz (Z.upd c ds) b cs:=let ⟨o,v,t,h⟩:=h;⟨o,v,t,by rw [J8,if_neg hb];exact h⟩
/- Reads and writes, through new blocks and writes. -/
theorem XA {Z Z':St}{b:Nat}(h:Z'.h.get b=Z.h.get b) (off n:Nat):Z'.read b off n=Z.read b off n:=by
 show ob (ob (ob (Z'.h.get b) _) _) _=ob (ob (ob (Z.h.get b) _) _) _;rw [h]
theorem Ta (Z:St) (cs:List Value){b:Nat}(off n:Nat) (h:b≠Z.n):(Z.new cs t).read b off n=Z.read b off n:=XA (by rw [M7,if_neg h]) _ _
/- gf. -/
theorem oC {α:Type}(l:List α):sub l 0 l.length=some l:=by rw [r9 om];simp
theorem oD {α:Type}(l:List α) (n:Nat) (h:n=l.length):sub l 0 n=some l:=by subst h;exact oC l
theorem Ws {α:Type}(l:List α):takeN 0 l=some []:=rfl
theorem Wt {α:Type}(n:Nat) (x:α) (l:List α):takeN (n+1) (x::l)=ob (takeN n l) fun r=>some (x::r):=rfl
theorem BX {α:Type}{k:Nat}:∀ (rows:List (List α)),(∀ r∈rows,r.length=k)->rows.flatten.length=rows.length*k:=by
 intro rows;induction rows with
 | nil=>intro _;simp
 | cons r rows ih=>intro h;simp [ih (fun r hr=>h r (by simp [hr])),h r (by simp),Nat.succ_mul];omega
theorem Ry {α:Type}{k:Nat}:∀ (rows:List (List α)) (i:Nat),(∀ r∈rows,r.length=k)->rows.flatten.drop (i*k)=(rows.drop i).flatten:=by
 intro rows;induction rows with
 | nil=>intro i _;simp
 | cons r rows ih =>
   intro i h;cases i with
   | zero=>simp
   | succ i =>
     have hr:=h r (by simp);rw [List.flatten_cons,List.drop_append];rw [List.drop_eq_nil_of_le (by rw [hr,Nat.succ_mul];omega),List.nil_append,hr,show (i+1)*k-k=i*k from by rw [Nat.succ_mul];omega,ih i (fun r hr=>h r (by simp [hr]))];rfl
theorem NG {α:Type}{k:Nat}{rows:List (List α)}(h:∀ r∈rows,r.length=k){i:Nat}{r:List α}(hi:rows[i]? =some r){o n:Nat}(ho:o+n<=k):sub rows.flatten (i*k+o) n=sub r o n:=by
 obtain ⟨hlt,he⟩:=List.getElem?_eq_some_iff.1 hi;have hr:r.length=k:=h r (by rw [<- he];exact List.getElem_mem hlt);have hlen:(rows.length-i)*k<=rows.length*k-i*k:=by rw [Nat.sub_mul];exact Nat.le_refl _
 have h1:i*k+k<=rows.length*k:=by
  have:(i+1)*k<=rows.length*k:=Nat.mul_le_mul_right k hlt;rw [Nat.succ_mul] at this;exact this
 rw [r9 (by rw [BX rows h];omega),r9 om];rw [<- List.drop_drop,Ry rows i h,List.drop_eq_getElem_cons hlt,he,List.flatten_cons,List.drop_append,List.take_append];rw [show n-(r.drop o).length=0 from by rw [List.length_drop];omega];simp
end Go.Ab
namespace Go.Ab
open Go
universe q
structure Hd {α:Sort q}(a:α):Type where
def Ev {α:Type}(x:Option α) (Q:α->Prop) (_u:Hd Q):Prop:=∃ a,x=some a/\Q a
def H3 (c:Bool) (A:Prop) (_u:Hd A):Prop:=c=true/\A
def Br (c:Bool) (A B:Prop) (_u:Hd fun x:Bool=>cond x A B):Prop:=(c=true->A)/\(c=false->B)
theorem Ev.mono {α:Type}{x:Option α}{Q R:α->Prop}{u:Hd Q}{v:Hd R}(h:Ev x R v) (k:∀ a,R a->Q a):Ev x Q u:=let ⟨a,h1,h2⟩:=h;⟨a,h1,k a h2⟩
theorem Ev.intro {α:Type}{x:Option α}{a:α}{Q:α->Prop}{u:Hd Q}(h:x=some a) (k:Q a):Ev x Q u:=⟨a,h,k⟩
theorem K4 {α:Type}{a:α}{Q:α->Prop}{u:Hd Q}:Ev (some a) Q u=Q a:=propext ⟨fun ⟨b,h1,h2⟩=>by cases h1;exact h2,fun h=>⟨a,rfl,h⟩⟩
theorem D3 {α β:Type}{x:Option α}{f:α->Option β}{Q:β->Prop}{u:Hd Q}:Ev (ob x f) Q u=Ev x (fun a=>Ev (f a) Q ⟨⟩) ⟨⟩:=propext ⟨fun ⟨b,h1,h2⟩=>by
 obtain ⟨a,h3,h4⟩:=A4 h1;exact ⟨a,h3,b,h4,h2⟩,fun ⟨a,h1,b,h2,h3⟩=>⟨b,by rw [h1];exact h2,h3⟩⟩
theorem YI {β:Type}{c:Bool}{x:Option β}{Q:β->Prop}{u:Hd Q}:Ev (bb c x) Q u=H3 c (Ev x Q ⟨⟩) ⟨⟩:=propext ⟨fun ⟨b,h1,h2⟩=>by
 obtain ⟨h3,h4⟩:=H2 h1;exact ⟨h3,b,h4,h2⟩,fun ⟨h1,b,h2,h3⟩=>⟨b,by rw [h1];exact h2,h3⟩⟩
theorem Nl {β:Type}{c:Bool}{x y:Option β}{Q:β->Prop}{u:Hd Q}:Ev (bi c x y) Q u=Br c (Ev x Q ⟨⟩) (Ev y Q ⟨⟩) ⟨⟩:=by
 cases c with
 | true=>exact propext ⟨fun h=>⟨fun _=>h,fun h=>by cases h⟩,fun h=>h.1 rfl⟩
 | false=>exact propext ⟨fun h=>⟨fun h=>(by cases h),fun _=>h⟩,fun h=>h.2 rfl⟩
theorem sh {β:Type}{c:Prop} [Decidable c] {x y:Option β}{Q:β->Prop}{u:Hd Q}:Ev (if c then x else y) Q u=Br (decide c) (Ev x Q ⟨⟩) (Ev y Q ⟨⟩) ⟨⟩:=by
 by_cases h:c
 ·rw [if_pos h];exact propext ⟨fun k=>⟨fun _=>k,fun g=>by simp [h] at g⟩,fun k=>k.1 (by simp [h])⟩
 ·rw [if_neg h];exact propext ⟨fun k=>⟨fun g=>by simp [h] at g,fun _=>k⟩,fun k=>k.2 (by simp [h])⟩
theorem Pv {A:Prop}{u:Hd A}:H3 true A u=A:=propext ⟨fun h=>h.2,fun h=>⟨rfl,h⟩⟩
theorem YH {A B:Prop}{u:Hd fun x:Bool=>cond x A B}:Br true A B u=A:=propext ⟨fun h=>h.1 rfl,fun h=>⟨fun _=>h,fun h=>by cases h⟩⟩
theorem Tc {A B:Prop}{u:Hd fun x:Bool=>cond x A B}:Br false A B u=B:=propext ⟨fun h=>h.2 rfl,fun h=>⟨fun h=>(by cases h),fun _=>h⟩⟩
theorem Br.intro {c:Bool}{A B:Prop}{u:Hd fun x:Bool=>cond x A B}(h:c=true->A) (k:c=false->B):Br c A B u:=⟨h,k⟩
theorem H3.intro {c:Bool}{A:Prop}{u:Hd A}(h:c=true) (k:A):H3 c A u:=⟨h,k⟩
section
variable {P:Program} {H:CZ} {rd:Option Nat} {fr:Fr} {Z:St}
def LP (I:Nat->Fr->St->Prop) (R:Res->Prop) (n:Nat) (r:Res):Prop:=match r.o with
 | .normal=>∃ m,m<n/\I m r.fr r.Z
 | _=>R r
theorem O5 {I:Nat->Fr->St->Prop}{R:Res->Prop}{n:Nat}:LP I R n ⟨.normal,fr,Z⟩=∃ m,m<n/\I m fr Z:=rfl
theorem BM {I:Nat->Fr->St->Prop}{R:Res->Prop}{n k:Nat}:LP I R n ⟨.exit k,fr,Z⟩=R ⟨.exit k,fr,Z⟩:=rfl
theorem Qv {I:Nat->Fr->St->Prop}{R:Res->Prop}{n:Nat}:LP I R n ⟨.ret,fr,Z⟩=R ⟨.ret,fr,Z⟩:=rfl
theorem Bj {body:Code}{Q:Res->Prop}{u:Hd Q}(I:Nat->Fr->St->Prop) (R:Res->Prop) (n:Nat) (h0:I n fr Z) (hs:∀ n fr Z,I n fr Z->Ev (lim P H rd body fr Z) (LP I R n) ⟨⟩) (hR:∀ r,R r->Q r) :
  Ev (lim P H rd (.loop body) fr Z) Q u:=by
 have key:∀ n,∀ m,m<=n->∀ fr Z,I m fr Z->Ev (lim P H rd (.loop body) fr Z) R ⟨⟩:=by
  intro n;induction n with
  | zero =>
    intro m hm fr Z h;rw [YJ,D3];refine (hs m fr Z h).mono ?_;rintro ⟨o,fr',Z'⟩ hq;cases o with
    | normal=>obtain ⟨k,hk,_⟩:=hq;omega
    | exit i=>rw [Rc,K4];exact hq
    | ret=>rw [WK,K4];exact hq
    | pan v=>rw [WL,K4];exact hq
  | succ n ih =>
    intro m hm fr Z h;rw [YJ,D3];refine (hs m fr Z h).mono ?_;rintro ⟨o,fr',Z'⟩ hq;cases o with
    | normal=>obtain ⟨k,hk,hi⟩:=hq;rw [aF];exact ih k om fr' Z' hi
    | exit i=>rw [Rc,K4];exact hq
    | ret=>rw [WK,K4];exact hq
    | pan v=>rw [WL,K4];exact hq
 exact (key n n (Nat.le_refl _) fr Z h0).mono hR
theorem WM {k:Nat}{l:List Oper}:lim P H rd (.region k l.toArray false) fr Z=opsV P (go P H) l.toArray l fr Z:=FV ..
structure Re (l:List Oper):Prop where
 no:CD l=false
theorem fI {k:Nat}{l:List Oper}(h:Re l):lim P H rd (.region k l.toArray true) fr Z=drawn l.toArray (I6 P (go P H) l.toArray l 0 fr Z []):=lu h.no
theorem toArray_toList {α:Type}{l:List α}:l.toArray.toList=l:=rfl
/- Operations on values. -/
section
variable {x y:Operand} {o:Oper} {t u:TypeId} {k:IntKind}
theorem kY {c:Callee}:NM P fr ⟨c,#[x],#[t]⟩=ob (ev fr x) fun v=>ob (dX (P.underlying t) v) fun n=>some (.int .i64 n):=by
 show ob (ob (ev fr x) fun v=>ob (some []) fun vs=>some (v::vs)) _=_;cases ev fr x <;> rfl
theorem aG {e:TypeId}{a:Option Addr}{n c:Nat}:dX (some (.slice e)) (.slice a n c)=some n:=rfl
theorem Pn (a b:ByteArray):Iq a.data.toList b.data.toList=decide (a=b):=by
 rw [ly];by_cases h:a=b
 ·subst h;simp
 ·rw [decide_eq_false h,decide_eq_false];intro e;apply h;obtain ⟨⟨a⟩⟩:=a;obtain ⟨⟨b⟩⟩:=b;exact congrArg (fun l=>(⟨⟨l⟩⟩:ByteArray)) e
theorem lz {n:Int}(h1: -9223372036854775808<=n) (h2:n<=9223372036854775807):FJ .i64 n=n:=by
 unfold FJ;have:inR .i64 n=true:=by
  cases n with
  | ofNat m=>simp only [inR,fJ,decide_eq_true_iff];simp only [Int.ofNat_eq_natCast] at h2;omega
  | negSucc m=>simp only [inR,fJ,decide_eq_true_iff];rw [Int.negSucc_eq] at h1;omega
 rw [this];rfl
theorem Gs (n:Nat):((n:Int)+1)=((n+1:Nat):Int):=rfl
theorem GF (a b:Nat):decide ((a:Int)<(b:Int))=decide (a<b):=by simp
theorem aH {l:List Value}:K3 (.agg ⟨l⟩)=l:=rfl
theorem aJ {n:Int}:K3 (.int k n)=[.int k n]:=rfl
theorem WN {b:Bool}:K3 (.bool b)=[.bool b]:=rfl
theorem Td {a:Option Addr}{n c:Nat}:K3 (.slice a n c)=[.slice a n c]:=rfl
theorem aK {a:Option Addr}:K3 (.pointer a)=[.pointer a]:=rfl
theorem WO {f:Fn}{a b:Array Value}:K3 (.func f a b)=[.func f a b]:=rfl
theorem mA {l:Array Value}:CQ (.agg l)=false:=rfl
theorem mB {n:Int}:CQ (.int k n)=false:=rfl
theorem fK {b:Bool}:CQ (.bool b)=false:=rfl
theorem aL {a:Option Addr}{n c:Nat}:CQ (.slice a n c)=false:=rfl
theorem mC {a:Option Addr}:CQ (.pointer a)=false:=rfl
theorem fL {f:Fn}{a b:Array Value}:CQ (.func f a b)=false:=rfl
theorem MU {n m:Nat}(h:n=m):n.beq m=true:=by subst h;simp
theorem si {n m:Nat}(h:n<m):Nat.blt n m=true:=by rw [fJ];simpa using h
theorem EL {n m:Nat}(h:n<=m):Nat.ble n m=true:=Nat.ble_eq_true_of_le h
end
end
theorem WQ {α:Type}{l new:List α}(h:new.length=l.length):M3 l 0 new=some new:=by
 have key:∀ (new l:List α),new.length=l.length->over new l=some new:=by
  intro new;induction new with
  | nil=>intro l h;cases l with
    | nil=>rfl
    | cons=>simp at h
  | cons x xs ih =>
    intro l h;cases l with
    | nil=>simp at h
    | cons y ys =>
      show ob (over xs ys) _=_;rw [ih ys (by simpa using h)];rfl
 exact key new l h
section
variable {P:Program} {H:CZ} {call:R3} {all:Array Oper} {l:List Oper} {fr:Fr} {Z:St} {d:Option Tmp} {ty:TypeId} {ps:String} {af:Array Edge} {i:Nat} {ds:List Trace} {rd:Option Nat}
theorem oO {op:Op}{g:Nat×Bool}:I6 P call all (⟨d,op,ty,ps,af,some g⟩::l) i fr Z ds=ob (P8 all fr ⟨d,op,ty,ps,af,some g⟩) fun c=>bi c (I6 P call all (⟨d,op,ty,ps,af,none⟩::l) i fr Z ds) (I6 P call all l (i+1) (F8 fr d O8) Z ds):=by
 show ob _ _=_;cases hx:P8 all fr ⟨d,op,ty,ps,af,some g⟩ with
 | none=>rfl
 | some c=>cases op <;> (cases c <;> rfl)
theorem yj {α β γ:Type}{a:α}{b:β}{f:α->β->Option γ}{Q:γ->Prop}{uq:Hd Q}:Ev (pr (a,b) f) Q uq=Ev (f a b) Q ⟨⟩:=rfl
theorem gK {x:Operand}{Q:Res->Prop}{uq:Hd Q}:Ev (opsV P call all (⟨d,.move x,ty,ps,af,none⟩::l) fr Z) Q uq=Ev (ev fr x) (fun v=>Ev (opsV P call all l (F8 fr d v) Z) Q ⟨⟩) ⟨⟩:=by first|(rw [Tf,D3];done)|(rw [Tf,D3];rfl)
theorem Wl {x:Operand}{Q:Res->Prop}{uq:Hd Q}:Ev (opsV P call all (⟨d,.assign x,ty,ps,af,none⟩::l) fr Z) Q uq=Ev (ev fr x) (fun v=>Ev (opsV P call all l (F8 fr d v) Z) Q ⟨⟩) ⟨⟩:=by first|(rw [Nn,D3];done)|(rw [Nn,D3];rfl)
theorem gL {c a b:Operand}{Q:Res->Prop}{uq:Hd Q}:Ev (opsV P call all (⟨d,.pick c a b,ty,ps,af,none⟩::l) fr Z) Q uq=Ev (Gz fr c a b) (fun v=>Ev (opsV P call all l (F8 fr d v) Z) Q ⟨⟩) ⟨⟩:=by first|(rw [Th,D3];done)|(rw [Th,D3];rfl)
theorem ai {t:TypeId}{Q:Res->Prop}{uq:Hd Q}:Ev (opsV P call all (⟨d,.alloc t,ty,ps,af,none⟩::l) fr Z) Q uq=Ev (u6 P t) (fun r=>Ev (opsV P call all l (F8 fr d (r.2 Z.n)) (Z.new r.1 (some t))) Q ⟨⟩) ⟨⟩:=by first|(rw [Pw,D3];done)|(rw [Pw,D3];rfl)
theorem nG {t:TypeId}{x:Operand}{Q:Res->Prop}{uq:Hd Q}:Ev (opsV P call all (⟨d,.box t x,ty,ps,af,none⟩::l) fr Z) Q uq=Ev (VN fr x) (fun r=>Ev (opsV P call all l (F8 fr d (r.2 Z.n)) (Z.new r.1)) Q ⟨⟩) ⟨⟩:=by first|(rw [YK,D3];done)|(rw [YK,D3];rfl)
theorem aj {t:TypeId}{parts:Array (Nat×Operand)}{Q:Res->Prop}{uq:Hd Q}:Ev (opsV P call all (⟨d,.build t parts,ty,ps,af,none⟩::l) fr Z) Q uq=Ev (Dk P fr t parts) (fun v=>Ev (opsV P call all l (F8 fr d v) Z) Q ⟨⟩) ⟨⟩:=by first|(rw [Py,D3];done)|(rw [Py,D3];rfl)
theorem OI {t:TypeId}{n:Nat}{parts:Array (Nat×Operand)}{Q:Res->Prop}{uq:Hd Q}:Ev (opsV P call all (⟨d,.buildSlice t n parts,ty,ps,af,none⟩::l) fr Z) Q uq=Ev (EO P fr t n parts) (fun r=>Ev (opsV P call all l (F8 fr d (r.2 Z.n)) (Z.new r.1)) Q ⟨⟩) ⟨⟩:=by first|(rw [HG,D3];done)|(rw [HG,D3];rfl)
theorem Wm {t:TypeId}{m k x:Operand}{Q:Res->Prop}{uq:Hd Q}:Ev (opsV P call all (⟨d,.insert t m k x,ty,ps,af,none⟩::l) fr Z) Q uq=Ev (U0 P fr Z t m k x) (fun r=>Ev (opsV P call all l (F8 fr d r.1) r.2) Q ⟨⟩) ⟨⟩:=by first|(rw [Np,D3];done)|(rw [Np,D3];rfl)
theorem gM {t:TypeId}{a:Operand}{Q:Res->Prop}{uq:Hd Q}:Ev (opsV P call all (⟨d,.load t a,ty,ps,af,none⟩::l) fr Z) Q uq=Ev (Fo P fr Z t a) (fun r=>Ev (opsV P call all l (F8 fr d r.1) Z) Q ⟨⟩) ⟨⟩:=by first|(rw [Tj,D3];done)|(rw [Tj,D3];rfl)
theorem al {t:TypeId}{a v:Operand}{Q:Res->Prop}{uq:Hd Q}:Ev (opsV P call all (⟨d,.store t a v,ty,ps,af,none⟩::l) fr Z) Q uq=Ev (Ek P fr Z t a v) (fun r=>Ev (opsV P call all l (F8 fr d r.1) r.2) Q ⟨⟩) ⟨⟩:=by first|(rw [QA,D3];done)|(rw [QA,D3];rfl)
theorem Ro {x:Operand}{Q:Res->Prop}{uq:Hd Q}:Ev (opsV P call all (⟨d,.nilCheck x,ty,ps,af,none⟩::l) fr Z) Q uq=Ev (Ao fr x) (fun v=>Ev (opsV P call all l (F8 fr d v) Z) Q ⟨⟩) ⟨⟩:=by first|(rw [Jo,D3];done)|(rw [Jo,D3];rfl)
theorem nI {b:BinOp}{t u:TypeId}{x y:Operand}{Q:Res->Prop}{uq:Hd Q}:Ev (opsV P call all (⟨d,.binOp b t x y u,ty,ps,af,none⟩::l) fr Z) Q uq=Ev (NR P fr ⟨d,.binOp b t x y u,ty,ps,af,none⟩ b t x y) (fun v=>Ev (opsV P call all l (F8 fr d v) Z) Q ⟨⟩) ⟨⟩:=by first|(rw [YL,D3];done)|(rw [YL,D3];rfl)
theorem tf {b:UnOp}{t:TypeId}{x:Operand}{Q:Res->Prop}{uq:Hd Q}:Ev (opsV P call all (⟨d,.unOp b t x,ty,ps,af,none⟩::l) fr Z) Q uq=Ev (Bs P fr ⟨d,.unOp b t x,ty,ps,af,none⟩ x) (fun v=>Ev (opsV P call all l (F8 fr d v) Z) Q ⟨⟩) ⟨⟩:=by first|(rw [fM,D3];done)|(rw [fM,D3];rfl)
theorem ao {t:TypeId}{x:Operand}{Q:Res->Prop}{uq:Hd Q}:Ev (opsV P call all (⟨d,.makeInterface t x,ty,ps,af,none⟩::l) fr Z) Q uq=Ev (Il P fr t x) (fun v=>Ev (opsV P call all l (F8 fr d v) Z) Q ⟨⟩) ⟨⟩:=by first|(rw [QC,D3];done)|(rw [QC,D3];rfl)
theorem gN {fn:Fn}{fs cs:Array Operand}{Q:Res->Prop}{uq:Hd Q}:Ev (opsV P call all (⟨d,.makeFunc fn fs cs,ty,ps,af,none⟩::l) fr Z) Q uq=Ev (HB fr fn fs cs) (fun v=>Ev (opsV P call all l (F8 fr d v) Z) Q ⟨⟩) ⟨⟩:=by first|(rw [To,D3];done)|(rw [To,D3];rfl)
theorem UN {t:TypeId}{r:Option Operand}{Q:Res->Prop}{uq:Hd Q}:Ev (opsV P call all (⟨d,.makeMap t r,ty,ps,af,none⟩::l) fr Z) Q uq=Ev (DZ fr Z r) (fun r=>Ev (opsV P call all l (F8 fr d r.1) r.2) Q ⟨⟩) ⟨⟩:=by first|(rw [Lb,D3];done)|(rw [Lb,D3];rfl)
theorem PC {t:TypeId}{n c:Operand}{Q:Res->Prop}{uq:Hd Q}:Ev (opsV P call all (⟨d,.makeSlice t n c,ty,ps,af,none⟩::l) fr Z) Q uq=Ev (Ml P fr t n c) (fun r=>Ev (opsV P call all l (F8 fr d (r.2 Z.n)) (Z.new r.1)) Q ⟨⟩) ⟨⟩:=by first|(rw [IC,D3];done)|(rw [IC,D3];rfl)
theorem aq {t:TypeId}{x:Operand}{lo hi mx:Option Operand}{Q:Res->Prop}{uq:Hd Q}:Ev (opsV P call all (⟨d,.slice t x lo hi mx,ty,ps,af,none⟩::l) fr Z) Q uq=Ev (Eg P fr t x lo hi mx) (fun v=>Ev (opsV P call all l (F8 fr d v) Z) Q ⟨⟩) ⟨⟩:=by first|(rw [QD,D3];done)|(rw [QD,D3];rfl)
theorem PD {s:TypeId}{x:Operand}{f:Nat}{Q:Res->Prop}{uq:Hd Q}:Ev (opsV P call all (⟨d,.fieldAddr s x f,ty,ps,af,none⟩::l) fr Z) Q uq=Ev (j7 P fr s x f) (fun v=>Ev (opsV P call all l (F8 fr d v) Z) Q ⟨⟩) ⟨⟩:=by first|(rw [ID,D3];done)|(rw [ID,D3];rfl)
theorem ar {s:TypeId}{x:Operand}{f:Nat}{Q:Res->Prop}{uq:Hd Q}:Ev (opsV P call all (⟨d,.field s x f,ty,ps,af,none⟩::l) fr Z) Q uq=Ev (Du P fr s x f) (fun v=>Ev (opsV P call all l (F8 fr d v) Z) Q ⟨⟩) ⟨⟩:=by first|(rw [QF,D3];done)|(rw [QF,D3];rfl)
theorem PE {t:TypeId}{x ix:Operand}{Q:Res->Prop}{uq:Hd Q}:Ev (opsV P call all (⟨d,.indexAddr t x ix,ty,ps,af,none⟩::l) fr Z) Q uq=Ev (AH P fr t x ix) (fun v=>Ev (opsV P call all l (F8 fr d v) Z) Q ⟨⟩) ⟨⟩:=by first|(rw [IG,D3];done)|(rw [IG,D3];rfl)
theorem au {t:TypeId}{x ix:Operand}{Q:Res->Prop}{uq:Hd Q}:Ev (opsV P call all (⟨d,.index t x ix,ty,ps,af,none⟩::l) fr Z) Q uq=Ev (Io P fr t x ix) (fun v=>Ev (opsV P call all l (F8 fr d v) Z) Q ⟨⟩) ⟨⟩:=by first|(rw [QH,D3];done)|(rw [QH,D3];rfl)
theorem Wn {t:TypeId}{x ix:Operand}{ok:Bool}{Q:Res->Prop}{uq:Hd Q}:Ev (opsV P call all (⟨d,.lookup t x ix ok,ty,ps,af,none⟩::l) fr Z) Q uq=Ev (Bn P fr Z t x ix ok) (fun r=>Ev (opsV P call all l (F8 fr d r.1) r.2) Q ⟨⟩) ⟨⟩:=by first|(rw [Nq,D3];done)|(rw [Nq,D3];rfl)
theorem PF {t:TypeId}{m k x:Operand}{Q:Res->Prop}{uq:Hd Q}:Ev (opsV P call all (⟨d,.mapUpdate t m k x,ty,ps,af,none⟩::l) fr Z) Q uq=Ev (U0 P fr Z t m k x) (fun r=>Ev (opsV P call all l (F8 fr d r.1) r.2) Q ⟨⟩) ⟨⟩:=by first|(rw [II,D3];done)|(rw [II,D3];rfl)
theorem UO {t:Operand}{ix:Nat}{Q:Res->Prop}{uq:Hd Q}:Ev (opsV P call all (⟨d,.extract t ix,ty,ps,af,none⟩::l) fr Z) Q uq=Ev (Bc fr t ix) (fun v=>Ev (opsV P call all l (F8 fr d v) Z) Q ⟨⟩) ⟨⟩:=by first|(rw [Lc,D3];done)|(rw [Lc,D3];rfl)
theorem nJ {as:Array Operand}{ts:Array TypeId}{Q:Res->Prop}{uq:Hd Q}:Ev (opsV P call all (⟨d,.call ⟨.builtin .len,as,ts⟩,ty,ps,af,none⟩::l) fr Z) Q uq=Ev (NM P fr ⟨.builtin .len,as,ts⟩) (fun v=>Ev (opsV P call all l (F8 fr d v) Z) Q ⟨⟩) ⟨⟩:=by first|(rw [YN,D3];done)|(rw [YN,D3];rfl)
theorem nK {as:Array Operand}{ts:Array TypeId}{Q:Res->Prop}{uq:Hd Q}:Ev (opsV P call all (⟨d,.call ⟨.builtin .max,as,ts⟩,ty,ps,af,none⟩::l) fr Z) Q uq=Ev (pMM fr true ⟨.builtin .max,as,ts⟩) (fun v=>Ev (opsV P call all l (F8 fr d v) Z) Q ⟨⟩) ⟨⟩:=by first|(rw [YP,D3];done)|(rw [YP,D3];rfl)
theorem nL {as:Array Operand}{ts:Array TypeId}{Q:Res->Prop}{uq:Hd Q}:Ev (opsV P call all (⟨d,.call ⟨.builtin .min,as,ts⟩,ty,ps,af,none⟩::l) fr Z) Q uq=Ev (pMM fr false ⟨.builtin .min,as,ts⟩) (fun v=>Ev (opsV P call all l (F8 fr d v) Z) Q ⟨⟩) ⟨⟩:=by first|(rw [YQ,D3];done)|(rw [YQ,D3];rfl)
theorem Wo {as:Array Operand}{ts:Array TypeId}{Q:Res->Prop}{uq:Hd Q}:Ev (opsV P call all (⟨d,.call ⟨.builtin .append,as,ts⟩,ty,ps,af,none⟩::l) fr Z) Q uq=Ev (Cd P fr Z ⟨.builtin .append,as,ts⟩) (fun r=>Ev (opsV P call all l (F8 fr d r.1) r.2) Q ⟨⟩) ⟨⟩:=by first|(rw [Ns,D3];done)|(rw [Ns,D3];rfl)
theorem gO {f:Operand}{as:Array Operand}{ts:Array TypeId}{Q:Res->Prop}{uq:Hd Q}:Ev (opsV P call all (⟨d,.call ⟨.value f,as,ts⟩,ty,ps,af,none⟩::l) fr Z) Q uq =
  Ev (evs fr as.toList) (fun vs=>Ev (ev fr f) (fun v=>Ev (LX v) (fun F=>Ev (call F.g (F.first++vs++F.captured) Z) (fun r=>Br r.pan (Q ⟨.pan r.v,fr,r.Z⟩) (Ev (opsV P call all l (F8 fr d r.v) r.Z) Q ⟨⟩) ⟨⟩) ⟨⟩) ⟨⟩) ⟨⟩) ⟨⟩:=by
 rw [fO,Tz,D3,D3];refine congrArg (fun z=>Ev _ z ⟨⟩) (funext fun vs=>?_);rw [D3];refine congrArg (fun z=>Ev _ z ⟨⟩) (funext fun v=>?_);rw [D3];refine congrArg (fun z=>Ev _ z ⟨⟩) (funext fun F=>?_);refine congrArg (fun z=>Ev _ z ⟨⟩) (funext fun r=>?_);rw [Nl,K4]
theorem TN {s t:TypeId}{x:Operand}{Q:Res->Prop}{uq:Hd Q}:Ev (opsV P call all (⟨d,.convert s t x,ty,ps,af,none⟩::l) fr Z) Q uq =
  Ev (orS (asNew Z (EP P fr s t x)) (orS (Cm Z (Bl P fr Z s t x)) (I1 Z (Bs P fr ⟨d,.convert s t x,ty,ps,af,none⟩ x)))) (fun r=>Ev (O7 P call all l fr r d) Q ⟨⟩) ⟨⟩:=by rw [Tt,D3]
theorem av {x:Operand}{Q:Res->Prop}{uq:Hd Q}:Ev (opsV P call all (⟨d,.panic x,ty,ps,af,none⟩::l) fr Z) Q uq=Ev (Nc fr Z x) (fun r=>Ev (O7 P call all l fr r d) Q ⟨⟩) ⟨⟩:=by rw [aM,D3]
theorem tg {op:Op}{g:Nat×Bool}{Q:Res->Prop}{uq:Hd Q}:Ev (opsV P call all (⟨d,op,ty,ps,af,some g⟩::l) fr Z) Q uq=Ev (P8 all fr ⟨d,op,ty,ps,af,some g⟩) (fun c=>Br c (Ev (opsV P call all (⟨d,op,ty,ps,af,none⟩::l) fr Z) Q ⟨⟩) (Ev (opsV P call all l (F8 fr d O8) Z) Q ⟨⟩) ⟨⟩) ⟨⟩:=by
 rw [mD,D3];refine congrArg (fun z=>Ev _ z ⟨⟩) (funext fun c=>?_);rw [Nl]
theorem gP {x:Operand}{Q:FST->Prop}{uq:Hd Q}:Ev (I6 P call all (⟨d,.move x,ty,ps,af,none⟩::l) i fr Z ds) Q uq=Ev (ev fr x) (fun v=>Ev (I6 P call all l (i+1) (F8 fr d v) Z ds) Q ⟨⟩) ⟨⟩:=by first|(rw [Tg,D3];done)|(rw [Tg,D3];rfl)
theorem Wp {x:Operand}{Q:FST->Prop}{uq:Hd Q}:Ev (I6 P call all (⟨d,.assign x,ty,ps,af,none⟩::l) i fr Z ds) Q uq=Ev (ev fr x) (fun v=>Ev (I6 P call all l (i+1) (F8 fr d v) Z ds) Q ⟨⟩) ⟨⟩:=by first|(rw [No,D3];done)|(rw [No,D3];rfl)
theorem gQ {c a b:Operand}{Q:FST->Prop}{uq:Hd Q}:Ev (I6 P call all (⟨d,.pick c a b,ty,ps,af,none⟩::l) i fr Z ds) Q uq=Ev (Gz fr c a b) (fun v=>Ev (I6 P call all l (i+1) (F8 fr d v) Z ds) Q ⟨⟩) ⟨⟩:=by first|(rw [Ti,D3];done)|(rw [Ti,D3];rfl)
theorem ax {t:TypeId}{Q:FST->Prop}{uq:Hd Q}:Ev (I6 P call all (⟨d,.alloc t,ty,ps,af,none⟩::l) i fr Z ds) Q uq=Ev (u6 P t) (fun r=>Ev (I6 P call all l (i+1) (F8 fr d (r.2 Z.n)) (Z.new r.1 (some t)) ds) Q ⟨⟩) ⟨⟩:=by first|(rw [Px,D3];done)|(rw [Px,D3];rfl)
theorem ay {t:TypeId}{parts:Array (Nat×Operand)}{Q:FST->Prop}{uq:Hd Q}:Ev (I6 P call all (⟨d,.build t parts,ty,ps,af,none⟩::l) i fr Z ds) Q uq=Ev (Dk P fr t parts) (fun v=>Ev (I6 P call all l (i+1) (F8 fr d v) Z ds) Q ⟨⟩) ⟨⟩:=by first|(rw [Pz,D3];done)|(rw [Pz,D3];rfl)
theorem OJ {t:TypeId}{n:Nat}{parts:Array (Nat×Operand)}{Q:FST->Prop}{uq:Hd Q}:Ev (I6 P call all (⟨d,.buildSlice t n parts,ty,ps,af,none⟩::l) i fr Z ds) Q uq=Ev (EO P fr t n parts) (fun r=>Ev (I6 P call all l (i+1) (F8 fr d (r.2 Z.n)) (Z.new r.1) ds) Q ⟨⟩) ⟨⟩:=by first|(rw [HI,D3];done)|(rw [HI,D3];rfl)
theorem gR {t:TypeId}{a:Operand}{Q:FST->Prop}{uq:Hd Q}:Ev (I6 P call all (⟨d,.load t a,ty,ps,af,none⟩::l) i fr Z ds) Q uq=Ev (Fo P fr Z t a) (fun r=>Ev (I6 P call all l (i+1) (F8 fr d r.1) Z (.read i r.2::ds)) Q ⟨⟩) ⟨⟩:=by first|(rw [Tl,D3];done)|(rw [Tl,D3];rfl)
theorem az {t:TypeId}{a v:Operand}{Q:FST->Prop}{uq:Hd Q}:Ev (I6 P call all (⟨d,.store t a v,ty,ps,af,none⟩::l) i fr Z ds) Q uq=Ev (Ek P fr Z t a v) (fun r=>Ev (I6 P call all l (i+1) (F8 fr d r.1) r.2 (.eff i Z r.2::ds)) Q ⟨⟩) ⟨⟩:=by first|(rw [QB,D3];done)|(rw [QB,D3];rfl)
theorem Rp {x:Operand}{Q:FST->Prop}{uq:Hd Q}:Ev (I6 P call all (⟨d,.nilCheck x,ty,ps,af,none⟩::l) i fr Z ds) Q uq=Ev (Ao fr x) (fun v=>Ev (I6 P call all l (i+1) (F8 fr d v) Z ds) Q ⟨⟩) ⟨⟩:=by first|(rw [Jp,D3];done)|(rw [Jp,D3];rfl)
theorem nM {b:BinOp}{t u:TypeId}{x y:Operand}{Q:FST->Prop}{uq:Hd Q}:Ev (I6 P call all (⟨d,.binOp b t x y u,ty,ps,af,none⟩::l) i fr Z ds) Q uq=Ev (NR P fr ⟨d,.binOp b t x y u,ty,ps,af,none⟩ b t x y) (fun v=>Ev (I6 P call all l (i+1) (F8 fr d v) Z ds) Q ⟨⟩) ⟨⟩:=by first|(rw [YM,D3];done)|(rw [YM,D3];rfl)
theorem th {b:UnOp}{t:TypeId}{x:Operand}{Q:FST->Prop}{uq:Hd Q}:Ev (I6 P call all (⟨d,.unOp b t x,ty,ps,af,none⟩::l) i fr Z ds) Q uq=Ev (Bs P fr ⟨d,.unOp b t x,ty,ps,af,none⟩ x) (fun v=>Ev (I6 P call all l (i+1) (F8 fr d v) Z ds) Q ⟨⟩) ⟨⟩:=by first|(rw [fN,D3];done)|(rw [fN,D3];rfl)
theorem gT {fn:Fn}{fs cs:Array Operand}{Q:FST->Prop}{uq:Hd Q}:Ev (I6 P call all (⟨d,.makeFunc fn fs cs,ty,ps,af,none⟩::l) i fr Z ds) Q uq=Ev (HB fr fn fs cs) (fun v=>Ev (I6 P call all l (i+1) (F8 fr d v) Z ds) Q ⟨⟩) ⟨⟩:=by first|(rw [Tq,D3];done)|(rw [Tq,D3];rfl)
theorem bA {t:TypeId}{x:Operand}{lo hi mx:Option Operand}{Q:FST->Prop}{uq:Hd Q}:Ev (I6 P call all (⟨d,.slice t x lo hi mx,ty,ps,af,none⟩::l) i fr Z ds) Q uq=Ev (Eg P fr t x lo hi mx) (fun v=>Ev (I6 P call all l (i+1) (F8 fr d v) Z ds) Q ⟨⟩) ⟨⟩:=by first|(rw [QE,D3];done)|(rw [QE,D3];rfl)
theorem PG {s:TypeId}{x:Operand}{f:Nat}{Q:FST->Prop}{uq:Hd Q}:Ev (I6 P call all (⟨d,.fieldAddr s x f,ty,ps,af,none⟩::l) i fr Z ds) Q uq=Ev (j7 P fr s x f) (fun v=>Ev (I6 P call all l (i+1) (F8 fr d v) Z ds) Q ⟨⟩) ⟨⟩:=by first|(rw [IE,D3];done)|(rw [IE,D3];rfl)
theorem bB {s:TypeId}{x:Operand}{f:Nat}{Q:FST->Prop}{uq:Hd Q}:Ev (I6 P call all (⟨d,.field s x f,ty,ps,af,none⟩::l) i fr Z ds) Q uq=Ev (Du P fr s x f) (fun v=>Ev (I6 P call all l (i+1) (F8 fr d v) Z ds) Q ⟨⟩) ⟨⟩:=by first|(rw [QG,D3];done)|(rw [QG,D3];rfl)
theorem PH {t:TypeId}{x ix:Operand}{Q:FST->Prop}{uq:Hd Q}:Ev (I6 P call all (⟨d,.indexAddr t x ix,ty,ps,af,none⟩::l) i fr Z ds) Q uq=Ev (AH P fr t x ix) (fun v=>Ev (I6 P call all l (i+1) (F8 fr d v) Z ds) Q ⟨⟩) ⟨⟩:=by first|(rw [IH,D3];done)|(rw [IH,D3];rfl)
theorem Wq {t:TypeId}{x ix:Operand}{ok:Bool}{Q:FST->Prop}{uq:Hd Q}:Ev (I6 P call all (⟨d,.lookup t x ix ok,ty,ps,af,none⟩::l) i fr Z ds) Q uq=Ev (Bn P fr Z t x ix ok) (fun r=>Ev (I6 P call all l (i+1) (F8 fr d r.1) r.2 (.eff i Z r.2::ds)) Q ⟨⟩) ⟨⟩:=by first|(rw [Nr,D3];done)|(rw [Nr,D3];rfl)
theorem UQ {t:Operand}{ix:Nat}{Q:FST->Prop}{uq:Hd Q}:Ev (I6 P call all (⟨d,.extract t ix,ty,ps,af,none⟩::l) i fr Z ds) Q uq=Ev (Bc fr t ix) (fun v=>Ev (I6 P call all l (i+1) (F8 fr d v) Z ds) Q ⟨⟩) ⟨⟩:=by first|(rw [Ld,D3];done)|(rw [Ld,D3];rfl)
theorem nN {as:Array Operand}{ts:Array TypeId}{Q:FST->Prop}{uq:Hd Q}:Ev (I6 P call all (⟨d,.call ⟨.builtin .len,as,ts⟩,ty,ps,af,none⟩::l) i fr Z ds) Q uq=Ev (NM P fr ⟨.builtin .len,as,ts⟩) (fun v=>Ev (I6 P call all l (i+1) (F8 fr d v) Z ds) Q ⟨⟩) ⟨⟩:=by first|(rw [YO,D3];done)|(rw [YO,D3];rfl)
theorem Wr {as:Array Operand}{ts:Array TypeId}{Q:FST->Prop}{uq:Hd Q}:Ev (I6 P call all (⟨d,.call ⟨.builtin .append,as,ts⟩,ty,ps,af,none⟩::l) i fr Z ds) Q uq=Ev (Cd P fr Z ⟨.builtin .append,as,ts⟩) (fun r=>Ev (I6 P call all l (i+1) (F8 fr d r.1) r.2 (.eff i Z r.2::ds)) Q ⟨⟩) ⟨⟩:=by first|(rw [Nt,D3];done)|(rw [Nt,D3];rfl)
theorem gV {f:Operand}{as:Array Operand}{ts:Array TypeId}{Q:FST->Prop}{uq:Hd Q}:Ev (I6 P call all (⟨d,.call ⟨.value f,as,ts⟩,ty,ps,af,none⟩::l) i fr Z ds) Q uq =
  Ev (evs fr as.toList) (fun vs=>Ev (ev fr f) (fun v=>Ev (LX v) (fun F=>Ev (call F.g (F.first++vs++F.captured) Z) (fun r=>Br r.pan (Ev (Te P call all (.call ⟨.value f,as,ts⟩) l i fr Z r.v r.Z ds) Q ⟨⟩) (Ev (I6 P call all l (i+1) (F8 fr d r.v) r.Z (.eff i Z r.Z::ds)) Q ⟨⟩) ⟨⟩) ⟨⟩) ⟨⟩) ⟨⟩) ⟨⟩:=by
 rw [fP,Tz,D3,D3];refine congrArg (fun z=>Ev _ z ⟨⟩) (funext fun vs=>?_);rw [D3];refine congrArg (fun z=>Ev _ z ⟨⟩) (funext fun v=>?_);rw [D3];refine congrArg (fun z=>Ev _ z ⟨⟩) (funext fun F=>?_);refine congrArg (fun z=>Ev _ z ⟨⟩) (funext fun r=>?_);rw [Nl]
theorem TO {s t:TypeId}{x:Operand}{Q:FST->Prop}{uq:Hd Q}:Ev (I6 P call all (⟨d,.convert s t x,ty,ps,af,none⟩::l) i fr Z ds) Q uq =
  Ev (orS (asNew Z (EP P fr s t x)) (orS (Cm Z (Bl P fr Z s t x)) (I1 Z (Bs P fr ⟨d,.convert s t x,ty,ps,af,none⟩ x)))) (fun r=>Ev (j8 P call all (.convert s t x) l i fr Z ds r d) Q ⟨⟩) ⟨⟩:=by rw [Tu,D3]
theorem ti {op:Op}{g:Nat×Bool}{Q:FST->Prop}{uq:Hd Q}:Ev (I6 P call all (⟨d,op,ty,ps,af,some g⟩::l) i fr Z ds) Q uq=Ev (P8 all fr ⟨d,op,ty,ps,af,some g⟩) (fun c=>Br c (Ev (I6 P call all (⟨d,op,ty,ps,af,none⟩::l) i fr Z ds) Q ⟨⟩) (Ev (I6 P call all l (i+1) (F8 fr d O8) Z ds) Q ⟨⟩) ⟨⟩) ⟨⟩:=by
 rw [oO,D3];refine congrArg (fun z=>Ev _ z ⟨⟩) (funext fun c=>?_);rw [Nl]
theorem nD {Q:Res->Prop}{uq:Hd Q}:Ev (opsV P call all [] fr Z) Q uq=Q ⟨.normal,fr,Z⟩:=by rw [mE,K4]
theorem nE {Q:FST->Prop}{uq:Hd Q}:Ev (I6 P call all [] i fr Z ds) Q uq=Q ⟨fr,Z,ds,none⟩:=by rw [mF,K4]
section
variable {Q:Res->Prop} {uq:Hd Q}
theorem mz:Ev (lim P H rd .skip fr Z) Q uq=Q ⟨.normal,fr,Z⟩:=by rw [mG,K4]
theorem nA {k:Nat}:Ev (lim P H rd (.exit k) fr Z) Q uq=Q ⟨.exit k,fr,Z⟩:=by rw [mH,K4]
theorem tS:Ev (lim P H rd .ret fr Z) Q uq=Q ⟨.ret,fr,Z⟩:=by rw [sj,K4]
theorem Ci {a b:Code}:Ev (lim P H rd (.seq a b) fr Z) Q uq=Ev (lim P H rd a fr Z) (fun r=>Ev (Y6 r (lim P H rd b)) Q ⟨⟩) ⟨⟩:=by rw [sk,D3]
theorem gJ {k:Nat}{a:Code}:Ev (lim P H rd (.block k a) fr Z) Q uq=Ev (lim P H rd a fr Z) (fun r=>Ev (Dp k r) Q ⟨⟩) ⟨⟩:=by rw [fQ,D3]
theorem nB {c:Operand}{a b:Code}:Ev (lim P H rd (.cond c a b) fr Z) Q uq=Ev (ev fr c) (fun v=>Ev (bool? v) (fun t=>Br t (Ev (lim P H rd a fr Z) Q ⟨⟩) (Ev (lim P H rd b fr Z) Q ⟨⟩) ⟨⟩) ⟨⟩) ⟨⟩:=by
 rw [mI,D3];refine congrArg (fun z=>Ev _ z ⟨⟩) (funext fun v=>?_);rw [D3];refine congrArg (fun z=>Ev _ z ⟨⟩) (funext fun t=>?_);rw [Nl]
theorem ah {k:Nat}{l:List Oper}:Ev (lim P H rd (.region k l.toArray false) fr Z) Q uq=Ev (opsV P (go P H) l.toArray l fr Z) Q ⟨⟩:=by rw [WM]
theorem nC {k:Nat}{l:List Oper}(h:Re l):Ev (lim P H rd (.region k l.toArray true) fr Z) Q uq=Ev (I6 P (go P H) l.toArray l 0 fr Z []) (fun r=>H3 (u9 (Region.before l.toArray).toList r.ds r.ds) (Q ⟨fY r.p,r.fr,r.Z⟩) ⟨⟩) ⟨⟩:=by
 rw [fI h];show Ev (ob _ _) Q uq=_;rw [D3];refine congrArg (fun z=>Ev _ z ⟨⟩) (funext fun r=>?_);obtain ⟨fr,Z,ds⟩:=r;show Ev (bb _ _) Q _=_;rw [YI,K4]
theorem W4 {next:Fr->St->Option Res}:Ev (Y6 ⟨.normal,fr,Z⟩ next) Q uq=Ev (next fr Z) Q ⟨⟩:=rfl
theorem YF {next:Fr->St->Option Res}{k:Nat}:Ev (Y6 ⟨.exit k,fr,Z⟩ next) Q uq=Q ⟨.exit k,fr,Z⟩:=by rw [Rc,K4]
theorem fH {next:Fr->St->Option Res}:Ev (Y6 ⟨.ret,fr,Z⟩ next) Q uq=Q ⟨.ret,fr,Z⟩:=by rw [WK,K4]
theorem tW {next:Fr->St->Option Res}{v:Value}:Ev (Y6 ⟨.pan v,fr,Z⟩ next) Q uq=Q ⟨.pan v,fr,Z⟩:=by rw [WL,K4]
theorem Pr {k:Nat}:Ev (Dp k ⟨.normal,fr,Z⟩) Q uq=Q ⟨.normal,fr,Z⟩:=by rw [aN,K4]
theorem tX {k:Nat}:Ev (Dp k ⟨.ret,fr,Z⟩) Q uq=Q ⟨.ret,fr,Z⟩:=by rw [sn,K4]
theorem tY {k:Nat}{v:Value}:Ev (Dp k ⟨.pan v,fr,Z⟩) Q uq=Q ⟨.pan v,fr,Z⟩:=by rw [sq,K4]
theorem YG {k m:Nat}:Ev (Dp k ⟨.exit m,fr,Z⟩) Q uq=Br (decide (m=k)) (Q ⟨.normal,fr,Z⟩) (Q ⟨.exit m,fr,Z⟩) ⟨⟩:=by
 rw [mJ,sh,K4,K4]
end
theorem Ps {fn:Func}{Q:CR->Prop}{uq:Hd Q}:Ev (Cf P fn ⟨.normal,fr,Z⟩) Q uq=Ev (Fe P fr Z fn.results.toList) (fun vs=>Q ⟨false,tup vs,Z⟩) ⟨⟩:=by
 rw [WR,D3];refine congrArg (fun z=>Ev _ z ⟨⟩) (funext fun vs=>?_);rw [K4]
theorem tZ {fn:Func}{Q:CR->Prop}{uq:Hd Q}:Ev (Cf P fn ⟨.ret,fr,Z⟩) Q uq=Ev (Fe P fr Z fn.results.toList) (fun vs=>Q ⟨false,tup vs,Z⟩) ⟨⟩:=by
 rw [mK,D3];refine congrArg (fun z=>Ev _ z ⟨⟩) (funext fun vs=>?_);rw [K4]
theorem td {fn:Func}{v:Value}{Q:CR->Prop}{uq:Hd Q}:Ev (Cf P fn ⟨.pan v,fr,Z⟩) Q uq=Q ⟨true,v,Z⟩:=by rw [mL,K4]
theorem D7 {g:Nat}{vs:List Value}{fn:Func}{body:Code}{Q:CR->Prop}{uq:Hd Q}(hf:P.funcs[g]? =some fn) (hb:fn.body=some body) (hH:H g=none:=by rfl)
  (h:Ev (lim P H none body (Cx vs 0 .nil) Z) (fun r=>Ev (Cf P fn r) Q ⟨⟩) ⟨⟩):Ev (go P H (.fn g) vs Z) Q uq:=by
 rw [yG hH hf hb,D3];exact h
end
def Aq (Z:St) (b:Nat) (fr:Fr) (ps:List Nat) (assign body:Code) (st:LoopState) (R2:Option Code):Prop:=∃ cells ver,Z.h.get b=some ⟨cells,true,true,ver,.loop fr ps assign body st R2⟩
noncomputable def St.SN (Z:St) (b:Nat) (fr:Fr) (ps:List Nat) (assign body:Code) (st:LoopState) (R2:Option Code):St:=⟨Z.h.set b ⟨[],true,true,Z.ver b+1,.loop fr ps assign body st R2⟩,Z.n⟩
section
variable {Z:St} {b:Nat} {fr:Fr} {ps:List Nat} {assign body:Code} {st:LoopState} {R2:Option Code}
theorem Aq.blk (h:Aq Z b fr ps assign body st R2):∃ cells ver,Z.blk b=some ⟨cells,true,true,ver,.loop fr ps assign body st R2⟩:=by
 obtain ⟨c,v,h⟩:=h;refine ⟨c,v,?_⟩;show ob (Z.h.get b) _=_;rw [h];rfl
theorem Aq.Ko (h:Aq Z b fr ps assign body st R2):Z.Ko b=some ⟨fr,ps,assign,body,st,R2⟩:=by
 obtain ⟨c,v,h⟩:=h.blk;show ob (Z.blk b) _=_;rw [h];rfl
theorem Aq.Co (h:Aq Z b fr ps assign body st R2) (st':LoopState) (qi:Option Code):Z.Co b st' qi=some (Z.SN b fr ps assign body st' qi):=by
 obtain ⟨c,v,hg⟩:=h;have hv:Z.ver b=v:=by unfold St.ver;rw [hg]
 obtain ⟨c',v',h'⟩:=Aq.blk ⟨c,v,hg⟩;have hv':v'=v:=by
  have:=(W9 h').1;rw [hg] at this;cases this;rfl
 subst hv';show ob (Z.blk b) _=_;unfold St.SN;rw [h',hv];rfl
@[simp] theorem Wv:(Z.SN b fr ps assign body st R2).n=Z.n:=rfl
@[simp] theorem Rq (cs:List Value) (k:Kind):(Z.Dz cs k).n=Z.n+1:=rfl
theorem KJ (c:Nat):(Z.SN b fr ps assign body st R2).h.get c=if c=b then some ⟨[],true,true,Z.ver b+1,.loop fr ps assign body st R2⟩ else Z.h.get c:=Tr.L7 _ _ _ _
theorem KK (cs:List Value) (k:Kind) (c:Nat):(Z.Dz cs k).h.get c=if c=Z.n then some ⟨cs,true,true,0,k⟩ else Z.h.get c:=Tr.L7 _ _ _ _
theorem Aq.new:Aq (Z.Dz [] (.loop fr ps assign body st R2)) Z.n fr ps assign body st R2:=⟨[],0,by rw [KK,if_pos rfl]⟩
theorem Aq.upd:Aq (Z.SN b fr ps assign body st R2) b fr ps assign body st R2:=⟨[],_,by rw [KJ,if_pos rfl]⟩
theorem Aq.EN {Z':St}(h:Aq Z b fr ps assign body st R2) (he:Z'.h.get b=Z.h.get b):Aq Z' b fr ps assign body st R2:=let ⟨c,v,h⟩:=h;⟨c,v,by rw [he];exact h⟩
theorem Own.EN {Z':St}{cs:List Value}(h:Own Z b cs) (he:Z'.h.get b=Z.h.get b):Own Z' b cs:=let ⟨v,h⟩:=h;⟨v,by rw [he];exact h⟩
theorem Bz.EN {Z':St}{cs:List Value}(h:Bz Z b cs) (he:Z'.h.get b=Z.h.get b):Bz Z' b cs:=let ⟨o,v,h⟩:=h;⟨o,v,by rw [he];exact h⟩
theorem Ext.Dz {Z0:St}(h:Ext Z0 Z) (cs:List Value) (k:Kind):Ext Z0 (Z.Dz cs k):=⟨Nat.le_succ_of_le h.n,fun c hc=>by rw [KK,if_neg (by have:=h.n;omega),h.same c hc]⟩
theorem Ext.SN {Z0:St}(h:Ext Z0 Z) (hb:Z0.n<=b):Ext Z0 (Z.SN b fr ps assign body st R2):=⟨h.n,fun c hc=>by rw [KJ,if_neg om,h.same c hc]⟩
end
section
variable {P:Program} {H:CZ} {Z:St} {b:Nat} {fr:Fr} {ps:List Nat} {assign body:Code} {R2:Option Code}
end
section
variable {P:Program} {H:CZ} {call:R3} {all:Array Oper} {l:List Oper} {fr:Fr} {Z:St} {d:Option Tmp} {ty t u:TypeId} {ps:String} {af:Array Edge} {x y:Operand}
noncomputable def Fm (P:Program) (b:BinOp) (t:TypeId) (x y:Operand) (a c:Value):Option Value :=
 ob (Hr (N1 P (do pure (.value (<- (do eqGuard b t x y a c;binOp b t a c)))))) cst
noncomputable def Aw (P:Program) (b:BinOp) (t:TypeId) (x y:Operand) (a c:Value):Option Value:=orV (Ji b a c) (bi (flat a&&flat c) (Fm P b t x y a c) (dr P t b a c))
theorem lA {b:BinOp}:NR P fr ⟨d,.binOp b t x y u,ty,ps,af,none⟩ b t x y=ob (ev fr x) fun a=>ob (ev fr y) fun c=>Aw P b t x y a c:=by
 show ob (ev fr x) _=_;cases hx:ev fr x with
 | none=>rfl
 | some a =>
   show ob (ev fr y) _=ob (ev fr y) _;cases hy:ev fr y with
   | none=>rfl
   | some c =>
     show ku P fr _ b t a c=_;have e1:(fun y=>(ev fr y).getD O8) x=a:=by show (ev fr x).getD O8=a;rw [hx];rfl
     have e2:(fun y=>(ev fr y).getD O8) y=c:=by show (ev fr y).getD O8=c;rw [hy];rfl
     have h:Hx P fr ⟨d,.binOp b t x y u,ty,ps,af,none⟩=Fm P b t x y a c:=by
      unfold Hx Fm;simp only [execOp,e1,e2]
     unfold ku Aw;rw [h];rfl
theorem sK {k:IntKind}{a b:Int}:Aw P .add t x y (.int k a) (.int k b)=some (.int k (FJ k (a+b))):=by cases k <;> rfl
theorem sL {k:IntKind}{a b:Int}:Aw P .sub t x y (.int k a) (.int k b)=some (.int k (FJ k (a-b))):=by cases k <;> rfl
theorem sM {k:IntKind}{a b:Int}:Aw P .mul t x y (.int k a) (.int k b)=some (.int k (FJ k (a*b))):=by cases k <;> rfl
theorem sN {k:IntKind}{a b:Int}:Aw P .eql t x y (.int k a) (.int k b)=some (.bool (decide (a=b))):=by rw [<- eB];cases k <;> rfl
theorem sO {k:IntKind}{a b:Int}:Aw P .neq t x y (.int k a) (.int k b)=some (.bool (!decide (a=b))):=by
 rw [<- eB];have h:Aw P .neq t x y (.int k a) (.int k b)=some (.bool (bi (ieq a b) false true)):=by cases k <;> rfl
 rw [h];cases ieq a b <;> rfl
theorem sP {k:IntKind}{a b:Int}:Aw P .lss t x y (.int k a) (.int k b)=some (.bool (decide (a<b))):=by rw [<- Gf];cases k <;> rfl
theorem sQ {k:IntKind}{a b:Int}:Aw P .leq t x y (.int k a) (.int k b)=some (.bool (!decide (b<a))):=by
 rw [<- Gf];have h:Aw P .leq t x y (.int k a) (.int k b)=some (.bool (bi (ilt b a) false true)):=by cases k <;> rfl
 rw [h];cases ilt b a <;> rfl
theorem sR {k:IntKind}{a b:Int}:Aw P .gtr t x y (.int k a) (.int k b)=some (.bool (decide (b<a))):=by rw [<- Gf];cases k <;> rfl
theorem sS {k:IntKind}{a b:Int}:Aw P .geq t x y (.int k a) (.int k b)=some (.bool (!decide (a<b))):=by
 rw [<- Gf];have h:Aw P .geq t x y (.int k a) (.int k b)=some (.bool (bi (ilt a b) false true)):=by cases k <;> rfl
 rw [h];cases ilt a b <;> rfl
theorem lC {a b:ByteArray}:Aw P .eql t x y (.string a) (.string b)=some (.bool (decide (a=b))):=by rw [<- Pn];rfl
theorem lD {a b:ByteArray}:Aw P .neq t x y (.string a) (.string b)=some (.bool (!decide (a=b))):=by
 rw [<- Pn];show some (Value.bool (bi (Iq a.data.toList b.data.toList) false true))=_;cases Iq a.data.toList b.data.toList <;> rfl
theorem sT {k:IntKind}{a b:Int}(h:b≠0):Aw P .rem t x y (.int k a) (.int k b)=some (.int k (a.tmod b)):=by
 have key:Fm P .rem t x y (.int k a) (.int k b)=some (.int k (a.tmod b)):=by
  unfold Fm;simp only [eqGuard,binOp,Op.intDiv,if_neg h];cases k <;> rfl
 show orV (Ji .rem (.int k a) (.int k b)) (Fm P .rem t x y (.int k a) (.int k b))=_;rw [key];cases k <;> rfl
theorem sU {k:IntKind}{a b:Int}(h:b≠0):Aw P .quo t x y (.int k a) (.int k b)=some (.int k (k.wrap (a.tdiv b))):=by
 have key:Fm P .quo t x y (.int k a) (.int k b)=some (.int k (k.wrap (a.tdiv b))):=by
  unfold Fm;simp only [eqGuard,binOp,Op.intDiv,if_neg h];cases k <;> rfl
 show orV (Ji .quo (.int k a) (.int k b)) (Fm P .quo t x y (.int k a) (.int k b))=_;rw [key];cases k <;> rfl
noncomputable def LW (P:Program) (Z:St) (s t:TypeId) (a:Value):Option Stepped :=
 orS (asNew Z (bb (P.underlying s).isSome (ob (JN a) fun l=>ob (elem? P t) fun e=>bb (isByte (P.underlying e)) (some (J3 l,fun n=> .slice (some ⟨n,0,some 1⟩) l.length l.length)))))
  (orS (Cm Z (ob (Kh a) fun p=>pra p fun b off n=>ob (elem? P s) fun e=>bb (isByte (P.underlying e)) (bb (isStr (P.underlying t)) (ob (Z.read b off n) fun l=>ob (DK l) fun l=>some (.string ⟨l.toArray⟩,⟨b,off,n⟩)))))
    (I1 Z (bb (flat a) (ob (Hr (N1 P (do pure (.value (<- convert s t a))))) cst))))
theorem YB {s:TypeId}:orS (asNew Z (EP P fr s t x)) (orS (Cm Z (Bl P fr Z s t x)) (I1 Z (Bs P fr ⟨d,.convert s t x,ty,ps,af,none⟩ x)))=ob (ev fr x) fun a=>LW P Z s t a:=by
 cases h:ev fr x with
 | none =>
   unfold EP Bl Bs;simp only [h,lE];cases (P.underlying s).isSome <;> rfl
 | some a =>
   have hx:(fun y=>(ev fr y).getD O8) x=a:=by show (ev fr x).getD O8=a;rw [h];rfl
   have hf:Hx P fr ⟨d,.convert s t x,ty,ps,af,none⟩=ob (Hr (N1 P (do pure (.value (<- convert s t a))))) cst:=by
    unfold Hx;simp only [execOp,hx]
   unfold EP Bl Bs LW;simp only [h,C6,hf]
theorem eD {s t:TypeId}{x:Operand}{Q:Res->Prop}{uq:Hd Q}:Ev (opsV P call all (⟨d,.convert s t x,ty,ps,af,none⟩::l) fr Z) Q uq =
  Ev (ev fr x) (fun a=>Ev (LW P Z s t a) (fun r=>Ev (O7 P call all l fr r d) Q ⟨⟩) ⟨⟩) ⟨⟩:=by rw [TN,YB,D3]
theorem eE {s t:TypeId}{x:Operand}{i:Nat}{ds:List Trace}{Q:FST->Prop}{uq:Hd Q}:Ev (I6 P call all (⟨d,.convert s t x,ty,ps,af,none⟩::l) i fr Z ds) Q uq =
  Ev (ev fr x) (fun a=>Ev (LW P Z s t a) (fun r=>Ev (j8 P call all (.convert s t x) l i fr Z ds r d) Q ⟨⟩) ⟨⟩) ⟨⟩:=by rw [TO,YB,D3]
theorem lF {v:Value}{Z':St}{Q:Res->Prop}{uq:Hd Q}:Ev (O7 P call all l fr ⟨v,Z',.none⟩ d) Q uq=Ev (opsV P call all l (F8 fr d v) Z') Q ⟨⟩:=rfl
theorem eF {v:Value}{Z':St}{Q:Res->Prop}{uq:Hd Q}:Ev (O7 P call all l fr ⟨v,Z',.pan⟩ d) Q uq=Q ⟨.pan v,fr,Z'⟩:=by
 show Ev (some _) Q _=_;rw [K4]
theorem lG {op:Op}{v:Value}{Z':St}{i:Nat}{ds:List Trace}{Q:FST->Prop}{uq:Hd Q}:Ev (j8 P call all op l i fr Z ds ⟨v,Z',.none⟩ d) Q uq=Ev (I6 P call all l (i+1) (F8 fr d v) Z' ds) Q ⟨⟩:=rfl
theorem lH {op:Op}{j:Nat}{want:Bool}:P8 all fr ⟨d,op,ty,ps,af,some (j,want)⟩=ob (some (DX all j)) fun s=>match s with
  | none=>some false
  | some d=>ob (fr.get d) fun v=>some (yieldOf want v):=by
 show Option.rec _ _ (DX all j)=ob (some (DX all j)) _;rw [C6];cases DX all j <;> rfl
theorem eG {o:Oper}{l:List Oper}:DX (o::l).toArray 0=o.dst:=rfl
theorem eH {o:Oper}{l:List Oper}{j:Nat}:DX (o::l).toArray (j+1)=DX l.toArray j:=by
 unfold DX;simp only [List.getElem?_toArray,List.getElem?_cons_succ]
theorem lI {b:Bool}:yieldOf true (.bool b)=b:=rfl
theorem lJ {b:Bool}:yieldOf false (.bool b)= !b:=rfl
theorem wrap64_in {n:Int}(h1: -9223372036854775808<=n) (h2:n<=9223372036854775807):IntKind.i64.wrap n=n:=by
 rw [wrap_i64];split <;> omega
end
noncomputable def St.row (Z:St) (b:Nat):Option (List Value):=ob (Z.BE b) fun B=>some B.cells
noncomputable def St.A5 (Z:St) (b:Nat):Option (List Value):=ob (Z.BE b) fun B=>bb B.own (some B.cells)
section
variable {Z Z':St} {b c off n:Nat} {cs vs:List Value} {fr:Fr} {ps:List Nat} {assign body:Code} {st:LoopState} {R2:Option Code} {k:Kind} {ty:Option TypeId}
theorem y0:Z.read b off n=ob (Z.row b) fun cs=>sub cs off n:=by
 show ob (Z.BE b) _=ob (ob (Z.BE b) _) _;cases Z.BE b <;> rfl
theorem Jb:Z.write b off vs=ob (Z.A5 b) fun cs=>ob (M3 cs off vs) fun cs'=>some (Z.upd b cs'):=by
 show ob (Z.BE b) _=ob (ob (Z.BE b) _) _;cases h:Z.BE b with
 | none=>rfl
 | some B =>
   have hv:Z.ver b=B.ver:=by
    have:=(W9 (W2 h).1).1;unfold St.ver;rw [this]
   have hk:B.kind= .row (Z.typ b):=by
    obtain ⟨h1,t,h2⟩:=W2 h;have h3:=(W9 h1).1;obtain ⟨cells,live,own,ver,kind⟩:=B;cases h2;unfold St.typ;rw [h3];rfl
   show bb B.own _=ob (bb B.own (some B.cells)) _;cases B.own with
   | false=>rfl
   | true=>simp only [j0,C6,St.upd,hv,hk]
theorem MT:Z.kill b=ob (Z.A5 b) fun _=>some (Z.dead b):=by
 show ob (Z.BE b) _=ob (ob (Z.BE b) _) _;cases h:Z.BE b with
 | none=>rfl
 | some B =>
   have hv:Z.ver b=B.ver:=by
    have:=(W9 (W2 h).1).1;unfold St.ver;rw [this]
   show bb B.own _=ob (bb B.own (some B.cells)) _;cases B.own with
   | false=>rfl
   | true=>simp only [j0,C6,St.dead,hv]
theorem O4 (h:Z'.h.get b=Z.h.get b):Z'.row b=Z.row b:=by
 show ob (ob (ob (Z'.h.get b) _) _) _=ob (ob (ob (Z.h.get b) _) _) _;rw [h]
theorem A6 (h:Z'.h.get b=Z.h.get b):Z'.A5 b=Z.A5 b:=by
 show ob (ob (ob (Z'.h.get b) _) _) _=ob (ob (ob (Z.h.get b) _) _) _;rw [h]
theorem Own.A5 (h:Own Z b cs):Z.A5 b=some cs:=by
 obtain ⟨v,t,h⟩:=h;show ob (ob (ob (Z.h.get b) _) _) _=_;rw [h];rfl
theorem A8 (h:Z.A5 b=some cs):Z.row b=some cs:=by
 obtain ⟨B,h1,h2⟩:=A4 (show ob (Z.BE b) _=some cs from h);obtain ⟨h3,h4⟩:=H2 h2;show ob (Z.BE b) _=_;rw [h1];exact h4
theorem D4 (h1:b<=Z.n) (h2:Z.n<=b):(Z.new cs ty).row b=some cs:=by
 obtain rfl:=Nat.le_antisymm h1 h2;exact A8 (Own.new Z cs).A5
theorem K5 (h1:b<=Z.n) (h2:Z.n<=b):(Z.new cs ty).A5 b=some cs:=by
 obtain rfl:=Nat.le_antisymm h1 h2;exact (Own.new Z cs).A5
theorem Af (h:b≠Z.n):(Z.new cs ty).row b=Z.row b:=O4 (by rw [M7,if_neg h])
theorem F5 (h:b≠Z.n):(Z.new cs ty).A5 b=Z.A5 b:=A6 (by rw [M7,if_neg h])
theorem Jz:(Z.upd b cs).row b=some cs:=A8 (Own.upd Z b cs).A5
theorem C8:(Z.upd b cs).A5 b=some cs:=(Own.upd Z b cs).A5
theorem D9 (h:b≠c):(Z.upd c cs).row b=Z.row b:=O4 (by rw [J8,if_neg h])
theorem D1 (h:b≠c):(Z.upd c cs).A5 b=Z.A5 b:=A6 (by rw [J8,if_neg h])
theorem Gv (h:b≠c):(Z.dead c).row b=Z.row b:=O4 (by rw [DT,if_neg h])
theorem Rr (h:b≠c):(Z.dead c).A5 b=Z.A5 b:=A6 (by rw [DT,if_neg h])
theorem UR (h:b≠c):(Z.SN c fr ps assign body st R2).row b=Z.row b:=O4 (by rw [KJ,if_neg h])
theorem Rt (h:b≠c):(Z.SN c fr ps assign body st R2).A5 b=Z.A5 b:=A6 (by rw [KJ,if_neg h])
theorem US (h:b≠Z.n):(Z.Dz cs k).row b=Z.row b:=O4 (by rw [KK,if_neg h])
theorem KC (h:b≠Z.n):(Z.Dz cs k).A5 b=Z.A5 b:=A6 (by rw [KK,if_neg h])
theorem Ext.row (h:Ext Z Z') (hb:b<Z.n):Z'.row b=Z.row b:=O4 (h.same b hb)
theorem Ext.A5 (h:Ext Z Z') (hb:b<Z.n):Z'.A5 b=Z.A5 b:=A6 (h.same b hb)
theorem gY {α:Type}{x:α}{l:List α}{o m:Nat}:sub (x::l) (o+1) m=sub l o m:=rfl
theorem gZ {α:Type}{x:α}{l:List α}{m:Nat}:sub (x::l) 0 (m+1)=ob (takeN m l) fun r=>some (x::r):=rfl
theorem D6 {α:Type}{l:List α}{m:Nat}(h1:m<=l.length) (h2:l.length<=m):sub l 0 m=some l:=oD l m (Nat.le_antisymm h1 h2)
theorem Tb {m q:Nat}(h1:m<=q) (h2:q<=m):m.beq q=true:=MU (Nat.le_antisymm h1 h2)
theorem FN {α:Type}{l new:List α}(h1:new.length<=l.length) (h2:l.length<=new.length):M3 l 0 new=some new:=WQ (Nat.le_antisymm h1 h2)
theorem Aq.DD (h:Aq Z b fr ps assign body st R2) (hb:b≠c):Aq (Z.upd c cs) b fr ps assign body st R2:=h.EN (by rw [J8,if_neg hb])
theorem Aq.ext (h:Aq Z b fr ps assign body st R2) (hb:b<Z.n) (he:Ext Z Z'):Aq Z' b fr ps assign body st R2:=h.EN (he.same b hb)
end
section
variable {P:Program} {base:Env} {G:Nat}
theorem Un (hm:P.follows .mixedOrders=true){H:CZ}(Dn:∀ n c,base.chk n c=codeOk P n G c) (hP:EE P H G P.funcs.toList 0=true) (hH:Gn P base G H){g:Nat}{fn:Func}(hf:P.funcs[g]? =some fn) (hb:fn.body.isSome=true){vs vs':List Value}{Z:St}{Q:CR->Prop}{uq:Hd Q}
  (h:Ev (go P H (.fn g) vs Z) Q uq) {O:Place} {w:World} (hR:Rel base O Z w) (hF:∀ b,Z.n<=b->O b=none) (hG:Am O G) (hv:D8 O vs vs') :
  Calls P g ⟨vs'⟩ w fun e w'=>∃ r v' O',Q r/\e=ended r.pan v'/\Rel base O' r.Z w'/\R9 O Z w O' r.Z w'/\H5 O' r.v v':=by
 obtain ⟨r,h1,h2⟩:=h;obtain ⟨f,h3⟩:=lU h1;obtain ⟨_,h4⟩:=So (base:=base) hm Dn hP hH f _ _ _ _ h3;obtain ⟨fn',k1,k2,k3⟩:=h4 O w vs' r.Z.n hR (fun b hb _=>hF b hb) (Nat.le_refl _) hG hv;rw [hf] at k1;cases k1;rcases k3 with ⟨_,k5⟩|⟨v',k4,k5,k6,k7⟩
 ·exact k5.mono fun e w' ⟨v',O',q0,q1,q2,q3⟩=>⟨r,v',O',h2,q0,q1,q2,q3⟩
 ·exfalso;have hn0:fn.body.isNone=false:=by cases hb':fn.body with|none=>rw [hb'] at hb;cases hb|some c=>rfl
  simp only [callFunc,Sem.run_bind,run_program,Result.andThen_ok,hf,k2,hn0,Bool.false_eq_true,if_false,Sem.run_pure] at k4;cases k4
noncomputable def St.arg (Z:St) (cells:List Value):St:=⟨Z.h.set Z.n ⟨cells,true,false,0,.row none⟩,Z.n+1⟩
theorem Hh (Z:St) (cells:List Value) (b:Nat):(Z.arg cells).h.get b=if b=Z.n then some ⟨cells,true,false,0,.row none⟩ else Z.h.get b:=Tr.L7 _ _ _ _
theorem QO (Z:St) (cells:List Value):(Z.arg cells).n=Z.n+1:=rfl
theorem Yc (Z:St) (cells:List Value):(Z.arg cells).row Z.n=some cells:=by
 show ob (ob (ob ((Z.arg cells).h.get Z.n) _) _) _=_;rw [Hh,if_pos rfl];rfl
theorem OO (Z:St) (cells:List Value){b:Nat}(h:b≠Z.n):(Z.arg cells).row b=Z.row b:=O4 (by rw [Hh,if_neg h])
def My (Z:St):Prop:=∀ b B,Z.blk b=some B->B.own=false
theorem My.arg {Z:St}(h:My Z) (cells:List Value):My (Z.arg cells):=by
 intro b B hb;obtain ⟨h1,h2⟩:=W9 hb;rw [Hh] at h1;split at h1
 ·cases h1;rfl
 ·exact h b B (KV h1 h2)
theorem Yb {O:Place}{Z:St}{w:World}(hR:Rel base O Z w) (hN:My Z) (hF:∀ b,Z.n<=b->O b=none){c o m:Nat}{cells:List Value}{arr:Array Value}{e:TypeId}{f:Nat×Nat}(hh:w.heap[c]? =some (.cells arr e f)) (hm:m=arr.size) (ho:o+cells.length<=arr.size)
  (hlo:c<base.lo) (hc:∀ v∈cells,K9 v=true) (hv:∀ (i:Nat) (v:Value),cells[i]? =some v->∃ v',arr[o+i]? =some v'/\H5 O v v'):Rel base (O.put Z.n ⟨c,o,m⟩) (Z.arg cells) w:=by
 have hle:O.le (O.put Z.n ⟨c,o,m⟩):=Place.FP _ (hF _ (Nat.le_refl _));subst hm;have hcw:c<w.heap.size:=by
  rcases Nat.lt_or_ge c w.heap.size with h|h
  ·exact h
  ·rw [Array.getElem?_eq_none h] at hh;cases hh
 refine ⟨fun b hb=>?_,fun b q B hb hB=>?_,fun b q hb=>?_,fun b q B _ hB ho=>?_,fun b q B b' q' _ hB ho=>?_,hR.low⟩
 ·rw [Hh,if_neg (by rw [QO] at hb;omega)];exact hR.fresh b (by rw [QO] at hb;omega)
 ·by_cases hbn:b=Z.n
  ·subst hbn;rw [Place.P1] at hb;cases hb;obtain ⟨h1,_⟩:=W9 hB;rw [Hh,if_pos rfl] at h1;cases h1;obtain ⟨lo,hi⟩:=f;refine .row rfl ⟨arr,e,lo,hi,hh,rfl,ho,fun h=>absurd h (by show ¬ base.lo<=c;omega),hc,fun i v hi'=>?_⟩;obtain ⟨v',h1,h2⟩:=hv i v hi';exact ⟨v',h1,h2.mono hle⟩
  ·rw [Place.AQ _ _ hbn] at hb;obtain ⟨h1,h2⟩:=W9 hB;rw [Hh,if_neg hbn] at h1;exact (hR.Fb b q B hb (KV h1 h2)).mono hle rfl
 ·by_cases hbn:b=Z.n
  ·subst hbn;rw [Place.P1] at hb;cases hb;exact hcw
  ·rw [Place.AQ _ _ hbn] at hb;exact hR.dom b q hb
 ·rw [hN.arg cells b B hB] at ho;cases ho
 ·rw [hN.arg cells b B hB] at ho;cases ho
theorem UW {O:Place}{Z:St}{cells:List Value}{q:V9}(hF:∀ b,Z.n<=b->O b=none):∀ b,(Z.arg cells).n<=b->(O.put Z.n q) b=none:=by
 intro b hb;rw [QO] at hb;rw [Place.AQ _ _ om];exact hF b om
theorem UY {w:World}{x:Addr}{v:Value}(h:w.cell? x=some v):∃ arr e f,w.heap[x.block]? =some (.cells arr e f)/\x.spot=none/\arr[x.off]? =some v:=by
 unfold World.cell? at h;split at h
 ·rename_i c e f hh;split at h
  ·cases h
  ·rename_i hs;refine ⟨c,e,f,hh,?_,h⟩;cases hx:x.spot with
   | none=>rfl
   | some s=>rw [hx] at hs;exact absurd rfl hs
 ·cases h
end
section
variable {P:Program} {e:TypeId} {Z:St} {fr:Fr} {b off n c len cap size s k:Nat} {sp:Option Nat} {new vs l:List Value} {v x:Value}
theorem Ka:Y7 Z size (.slice (some ⟨b,off,sp⟩) n c)=ob (Z.read b off (n*size)) fun cs=>some (n,cs):=rfl
theorem RS:AR e Z size none 0 n new=some (.slice (some ⟨Z.n,0,some size⟩) n n,Z.new new (some e)):=rfl
theorem NH:AR e Z size (some ⟨b,off,none⟩) len n new=ob (Z.read b off (len*size)) fun old=>some (.slice (some ⟨Z.n,0,some size⟩) (len+n) (len+n),Z.new (old++new) (some e)):=rfl
theorem RT:AR e Z size (some ⟨b,off,some size⟩) len n new=ob (Z.read b off (len*size)) fun old=>ob (Z.kill b) fun Z'=>some (.slice (some ⟨Z'.n,0,some size⟩) (len+n) (len+n),Z'.new (old++new) (JP e off (Z.typ b))):=by
 show bb (Nat.beq size size) _=_;rw [MU rfl];rfl
theorem kO:BF Z size (some ⟨b,off,sp⟩) len cap n new=ob (Z.write b (off+len*size) new) fun Z=>some (.slice (some ⟨b,off,sp⟩) (len+n) cap,Z):=rfl
theorem Ie {a b:Nat}(h:b<a):Nat.ble a b=false:=by
 cases hb:Nat.ble a b with
 | false=>rfl
 | true=>have:=Nat.le_of_ble_eq_true hb;omega
theorem sZ {c:Callee}{as:Array Operand}{t:TypeId}{ts:List TypeId}:Mo ⟨c,as,(t::ts).toArray⟩=some t:=rfl
theorem lW {c:Callee}{as:Array Operand}{t u:TypeId}{ts:List TypeId}:Xl ⟨c,as,(t::u::ts).toArray⟩=some u:=rfl
theorem Zx {e:TypeId}:IU (some (.slice e))=true:=rfl
theorem Vz:IU (some .string)=true:=rfl
theorem eT {place:Nat->Option (Nat×Nat)}{cells:List Value}:As place [] cells=some cells:=rfl
theorem Zy {place:Nat->Option (Nat×Nat)}{i:Nat}{v:Value}{ps:List (Nat×Value)}{cells:List Value}:As place ((i,v)::ps) cells=ob (place i) fun q=>pr q fun off n=>bi (CQ v) none (bb ((K3 v).length.beq n) (ob (M3 cells off (K3 v)) (As place ps))):=rfl
theorem A1 {α:Type}{x:α}{l new:List α}{o:Nat}:M3 (x::l) (o+1) new=ob (M3 l o new) fun r=>some (x::r):=rfl
theorem TS {α:Type}{x y:α}{l new:List α}:M3 (x::l) 0 (y::new)=ob (over new l) fun r=>some (y::r):=rfl
theorem eU {α:Type}{l:List α}:over [] l=some l:=rfl
theorem Pb {α:Type}{x y:α}{l new:List α}:over (y::new) (x::l)=ob (over new l) fun r=>some (y::r):=rfl
theorem eV {α:Type}{l:List α}:rep l 0=[]:=rfl
theorem eW {α:Type}{l:List α}{n:Nat}:rep l (n+1)=l++rep l n:=rfl
noncomputable def eY (fr:Fr) (want:Bool) (s:Option Tmp):Option Bool:=match s with
 | none=>some false
 | some d=>ob (fr.get d) fun v=>some (yieldOf want v)
theorem eZ {all:Array Oper}{d:Option Tmp}{op:Op}{ty:TypeId}{ps:String}{af:Array Edge}{j:Nat}{want:Bool}{Q:Bool->Prop}{uq:Hd Q} :
  Ev (P8 all fr ⟨d,op,ty,ps,af,some (j,want)⟩) Q uq=Ev (some (DX all j)) (fun s=>Ev (eY fr want s) Q ⟨⟩) ⟨⟩:=by
 rw [lH,D3];refine congrArg (fun z=>Ev _ z ⟨⟩) (funext fun s=>?_);cases s <;> rfl
theorem lX {want:Bool}{d:Tmp}{Q:Bool->Prop}{uq:Hd Q}:Ev (eY fr want (some d)) Q uq=Ev (fr.get d) (fun v=>Q (yieldOf want v)) ⟨⟩:=by
 show Ev (ob _ _) Q _=_;rw [D3];refine congrArg (fun z=>Ev _ z ⟨⟩) (funext fun v=>?_);rw [K4]
theorem ec {o:Operand}:evO fr (some o)=ob (ev fr o) fun v=>some (some v):=rfl
theorem ef:evO fr none=some none:=rfl
theorem lY {dl cap:Nat}{lo hi:Option Value}:Ve dl cap lo hi=ob (Zz dl hi) fun h=>bb (h.ble cap) (ob (Zz 0 lo) fun l=>bb (l.ble h) (some (l,h))):=rfl
theorem lZ {dl:Nat}{v:Value}:Zz dl (some v)=nat? v:=rfl
theorem ld {dl:Nat}:Zz dl none=some dl:=rfl
theorem eg {n b off lo hi cap:Nat}:sliceAt n (some ⟨b,off,none⟩) lo hi cap=some (.slice (some ⟨b,off+lo*n,none⟩) (hi-lo) (cap-lo)):=rfl
theorem M0 {bs:List Nat}{all:List Trace}:u9 bs all []=true:=rfl
theorem L9 {bs:List Nat}{all ds:List Trace}{i:Nat}{a b:St}:u9 bs all (.eff i a b::ds)=u9 bs all ds:=rfl
theorem mm2 {x y:Operand}{c:Callee}{ts:Array TypeId}{im:Bool}:pMM fr im ⟨c,[x,y].toArray,ts⟩=ob (ev fr x) fun a=>ob (ev fr y) fun b=>GI im a b:=by
 show ob (ob (ev fr x) fun v=>ob (ob (ev fr y) fun v=>ob (some []) fun vs=>some (v::vs)) fun vs=>some (v::vs)) _=_;cases ev fr x with
 | none=>rfl
 | some a =>
   cases ev fr y with
   | none=>rfl
   | some b =>
     show ob (GI im a b) (fun v=>some v)=GI im a b;cases GI im a b <;> rfl
theorem lf {k k':IntKind}{x y:Int}:GI false (.int k x) (.int k' y)=some (.int k (min x y)):=by
 show some (Value.int k (bi (ilt y x) y x))=_;rw [Gf];by_cases h:y<x
 ·rw [decide_eq_true h,I8,Int.min_eq_right om]
 ·rw [decide_eq_false h,o9,Int.min_eq_left om]
theorem lg {k k':IntKind}{x y:Int}:GI true (.int k x) (.int k' y)=some (.int k (max x y)):=by
 show some (Value.int k (bi (ilt x y) y x))=_;rw [Gf];by_cases h:x<y
 ·rw [decide_eq_true h,I8,Int.max_eq_right om]
 ·rw [decide_eq_false h,o9,Int.max_eq_left om]
end
def str (l:List UInt8):Value:= .string ⟨⟨l⟩⟩
theorem bE {l:List UInt8}:K3 (str l)=[str l]:=rfl
theorem nT {l:List UInt8}:CQ (str l)=false:=rfl
theorem nR {l:List UInt8}:dX (some .string) (str l)=some l.length:=rfl
theorem jV {a b:List UInt8}:(⟨⟨a⟩⟩:ByteArray)=⟨⟨b⟩⟩↔a=b:=⟨fun h=>by cases h;rfl,fun h=>by rw [h]⟩
theorem Qt {fr:Fr}{l:List UInt8}:ev fr (.const (.string ⟨l.toArray⟩))=some (str l):=rfl
theorem I9 {bs:List Nat}{all ds:List Trace}{i:Nat}{r:AN}:u9 bs all (.read i r::ds)=bi (M1 bs i r all) (u9 bs all ds) false:=rfl
theorem N8 {bs:List Nat}{i:Nat}{r:AN}:M1 bs i r []=true:=rfl
theorem B9 {bs:List Nat}{i j:Nat}{r q:AN}{ds:List Trace}:M1 bs i r (.read j q::ds)=M1 bs i r ds:=rfl
theorem Gw {bs:List Nat}{i j:Nat}{r:AN}{a b:St}{ds:List Trace}(h:r.b<a.n->b.h.get r.b=a.h.get r.b):M1 bs i r (.eff j a b::ds)=M1 bs i r ds:=by
 show bi (bi (ordered bs i j) true (bi (Nat.blt r.b a.n) (bi (Nat.beq (a.ver r.b) (b.ver r.b)) true (AK (a.read r.b r.off r.n) (b.read r.b r.off r.n))) true)) (M1 bs i r ds) false=_;have:bi (ordered bs i j) true (bi (Nat.blt r.b a.n) (bi (Nat.beq (a.ver r.b) (b.ver r.b)) true (AK (a.read r.b r.off r.n) (b.read r.b r.off r.n))) true)=true:=by
  cases ordered bs i j with
  | true=>rfl
  | false =>
    cases hb:Nat.blt r.b a.n with
    | false=>rfl
    | true =>
      have hlt:r.b<a.n:=by rw [Nat.blt_eq] at hb;exact hb
      have hv:b.ver r.b=a.ver r.b:=by unfold St.ver;rw [h hlt]
      rw [hv,MU rfl];rfl
 rw [this];rfl
theorem jW {n:Int}(h1:0<=n) (h2:n<256):IntKind.u8.wrap n=n:=by
 rw [wrap_u8];omega
theorem bG {n:Int}(h1:0<=n) (h2:n<256):FJ .u8 n=n:=by
 unfold FJ;cases hb:inR .u8 n with
 | true=>rfl
 | false=>exact jW h1 h2
noncomputable def unA (P:Program) (op:UnOp) (a:Value):Option Value:=bb (flat a) (ob (Hr (N1 P (do pure (.value (<- Op.unary op a))))) cst)
theorem nO {P:Program}{fr:Fr}{d:Option Tmp}{op:UnOp}{t ty:TypeId}{ps:String}{af:Array Edge}{x:Operand}:Bs P fr ⟨d,.unOp op t x,ty,ps,af,none⟩ x=ob (ev fr x) fun a=>unA P op a:=by
 show ob (ev fr x) _=_;cases h:ev fr x with
 | none=>rfl
 | some a =>
   have hx:(fun y=>(ev fr y).getD O8) x=a:=by show (ev fr x).getD O8=a;rw [h];rfl
   show bb (flat a) (Hx P fr _)=unA P op a;unfold Hx unA;simp only [execOp,hx]
theorem nU {P:Program}{b:Bool}:unA P .not (.bool b)=some (.bool !b):=rfl
theorem nV {P:Program}{k:IntKind}{n:Int}:unA P .neg (.int k n)=some (.int k (k.wrap (0-n))):=rfl
section
variable {P:Program} {fr:Fr} {x y:Operand} {t:TypeId}
theorem gW {a b:List UInt8}:Aw P .eql t x y (str a) (str b)=some (.bool (decide (a=b))):=by
 show Aw P .eql t x y (.string _) (.string _)=_;rw [lC];congr 2;exact decide_eq_decide.2 jV
theorem gX {a b:List UInt8}:Aw P .neq t x y (str a) (str b)=some (.bool (!decide (a=b))):=by
 show Aw P .neq t x y (.string _) (.string _)=_;rw [lD];congr 3;exact decide_eq_decide.2 jV
theorem bF {a b:List UInt8}(h:a.length+b.length<=4294967296):Aw P .add t x y (str a) (str b)=some (str (a++b)):=by
 show orV (bb (Nat.ble (a.length+b.length) 4294967296) (some (str (a++b)))) _=_;rw [EL h];rfl
end
def SL (Z:St) (size:Nat) (v:Value) (rows:List (List Value)):Prop :=
 (v= .slice none 0 0/\rows=[])\/∃ b off sp c cells,v= .slice (some ⟨b,off,sp⟩) rows.length c/\b<Z.n/\Z.row b=some cells/\∀ k r,rows[k]? =some r->sub cells (off+k*size) size=some r
theorem SL.mono {Z Z':St}{size:Nat}{v:Value}{rows:List (List Value)}(h:SL Z size v rows) (hE:Ext Z Z'):SL Z' size v rows:=by
 rcases h with h|⟨b,off,sp,c,cells,h1,h2,h3,h4⟩
 ·exact .inl h
 ·exact .inr ⟨b,off,sp,c,cells,h1,Nat.lt_of_lt_of_le h2 hE.n,by rw [hE.row h2];exact h3,h4⟩
theorem SL.use {Z:St}{size:Nat}{v:Value}{rows:List (List Value)}(h:SL Z size v rows):∃ a c b off cells,v= .slice a rows.length c/\(0<rows.length->∃ sp,a=some ⟨b,off,sp⟩/\b<Z.n/\Z.row b=some cells)/\∀ k r,rows[k]? =some r->sub cells (off+k*size) size=some r:=by
 rcases h with ⟨rfl,rfl⟩|⟨b,off,sp,c,cells,h1,h2,h3,h4⟩
 ·exact ⟨none,0,0,0,[],rfl,fun h=>by simp at h,fun k r h=>by simp at h⟩
 ·exact ⟨_,c,b,off,cells,h1,fun _=>⟨sp,rfl,h2,h3⟩,h4⟩
theorem SL.nil {Z:St}{size:Nat}:SL Z size (.slice none 0 0) []:= .inl ⟨rfl,rfl⟩
def Dh (Z:St) (v:Value) (l:List (List UInt8)):Prop:=SL Z 1 v (l.map fun s=>[str s])
theorem Dh.mono {Z Z':St}{v:Value}{l:List (List UInt8)}(h:Dh Z v l) (hE:Ext Z Z'):Dh Z' v l:=SL.mono h hE
theorem Dh.use {Z:St}{v:Value}{l:List (List UInt8)}(h:Dh Z v l):∃ a c b off cells,v= .slice a l.length c/\(0<l.length->∃ sp,a=some ⟨b,off,sp⟩/\b<Z.n/\Z.row b=some cells)/\∀ k s,l[k]? =some s->sub cells (off+k) 1=some [str s]:=by
 obtain ⟨a,c,b,off,cells,h1,h2,h3⟩:=SL.use h;rw [List.length_map] at h1 h2;refine ⟨a,c,b,off,cells,h1,h2,fun k s hs=>?_⟩;have:=h3 k [str s] (by rw [List.getElem?_map,hs];rfl);rw [Nat.mul_one] at this;exact this
def K8 (v:Value):Option Nat:=match v with
 | .slice (some ⟨b,_,_⟩) _ _=>some b
 | _=>none
def OL (lo:Nat) (Z:St) (size:Nat) (v:Value) (rows:List (List Value)):Prop :=
 (∀ r∈rows,r.length=size)/\((v= .slice none 0 0/\rows=[])\/∃ b sp,v= .slice (some ⟨b,0,sp⟩) rows.length rows.length/\(sp=none\/sp=some size)/\lo<=b/\b<Z.n/\Z.A5 b=some rows.flatten)
theorem OL.nil {lo:Nat}{Z:St}{size:Nat}:OL lo Z size (.slice none 0 0) []:=⟨fun r h=>by simp at h,.inl ⟨rfl,rfl⟩⟩
theorem OL.mk {lo:Nat}{Z:St}{size b:Nat}{sp:Option Nat}{rows:List (List Value)}{n:Nat}{cells:List Value}(hn:n=rows.length) (hc:cells=rows.flatten) (hr:∀ r∈rows,r.length=size) (hs:sp=none\/sp=some size) (h1:lo<=b) (h2:b<Z.n) (h3:Z.A5 b=some cells):OL lo Z size (.slice (some ⟨b,0,sp⟩) n n) rows:=by
 subst hn;subst hc;exact ⟨hr,.inr ⟨b,sp,rfl,hs,h1,h2,h3⟩⟩
theorem OL.sl {lo:Nat}{Z:St}{size:Nat}{v:Value}{rows:List (List Value)}(h:OL lo Z size v rows):SL Z size v rows:=by
 obtain ⟨hr,⟨rfl,rfl⟩|⟨b,sp,rfl,hs,h1,h2,h3⟩⟩:=h
 ·exact SL.nil
 ·refine .inr ⟨b,0,sp,rows.length,_,rfl,h2,A8 h3,fun k r hk=>?_⟩;have:=NG hr hk (o:=0) (n:=size) om;have hl:r.length=size:=hr r (List.mem_of_getElem? hk);rw [Nat.add_zero] at this;rw [Nat.zero_add,this];exact D6 om om
theorem OL.E8 {lo:Nat}{Z Z':St}{size:Nat}{v:Value}{rows:List (List Value)}(h:OL lo Z size v rows) (hn:Z.n<=Z'.n) (hk:∀ b,K8 v=some b->Z'.h.get b=Z.h.get b):OL lo Z' size v rows:=by
 obtain ⟨hr,⟨rfl,rfl⟩|⟨b,sp,rfl,hs,h1,h2,h3⟩⟩:=h
 ·exact .nil
 ·exact ⟨hr,.inr ⟨b,sp,rfl,hs,h1,om,by rw [A6 (hk b rfl)];exact h3⟩⟩
theorem OL.ext {lo:Nat}{Z Z':St}{size:Nat}{v:Value}{rows:List (List Value)}(h:OL lo Z size v rows) (hE:Ext Z Z'):OL lo Z' size v rows:=by
 refine h.E8 hE.n fun b hb=>?_;obtain ⟨hr,⟨rfl,rfl⟩|⟨b',sp,rfl,hs,h1,h2,h3⟩⟩:=h
 ·cases hb
 ·cases hb;exact hE.same b h2
theorem OL.blk {lo:Nat}{Z:St}{size:Nat}{v:Value}{rows:List (List Value)}(h:OL lo Z size v rows){b:Nat}(hb:K8 v=some b):lo<=b/\b<Z.n:=by
 obtain ⟨hr,⟨rfl,rfl⟩|⟨b',sp,rfl,hs,h1,h2,h3⟩⟩:=h
 ·cases hb
 ·cases hb;exact ⟨h1,h2⟩
structure App (Z Z':St) (v v':Value):Prop where
 n:Z.n<=Z'.n
 same:∀ c,c<Z.n->K8 v≠some c->Z'.h.get c=Z.h.get c
 new:∀ b,K8 v'=some b->Z.n<=b/\b<Z'.n
theorem App.ext {Z0 Z Z':St}{v v':Value}{lo size:Nat}{rows:List (List Value)}(h:App Z Z' v v') (hE:Ext Z0 Z) (hl:OL lo Z size v rows) (hlo:Z0.n<=lo):Ext Z0 Z' :=
 ⟨Nat.le_trans hE.n h.n,fun c hc=>by
  rw [h.same c (Nat.lt_of_lt_of_le hc hE.n) (fun hb=>by have:=(hl.blk hb).1;omega),hE.same c hc]⟩
theorem I0 {P:Program}{te:TypeId}{Z:St}{t size by' lo:Nat}{v:Value}{rows:List (List Value)}{row cells:List Value}{c o cc:Nat}{sp:Option Nat}{Q:Value×St->Prop}{uq:Hd Q}
  (hap:∀ (b:Option Addr) (len cap:Nat) (w:Value),BN P Z t (.slice b len cap) w=ob (Y7 Z size w) fun p=>pr p fun n new=>bi (Nat.ble (len+n) cap) (BF Z size b len cap n new) (bb (Nat.ble ((len+n)*by') room) (AR te Z size b len n new)))
  (hl:OL lo Z size v rows) (hc:Z.row c=some cells) (hs:sub cells o size=some row) (hb:(rows.length+1)*by'<=4294967296) (hlo:lo<=Z.n)
  (h:∀ v' Z',OL lo Z' size v' (rows++[row])->App Z Z' v v'->v'≠ .slice none 0 0->Q (v',Z')):Ev (BN P Z t v (.slice (some ⟨c,o,sp⟩) 1 cc)) Q uq:=by
 have Fc:row.length=size:=by
  obtain ⟨h1,h2⟩:=sub_eq hs;subst h2;rw [List.length_take,List.length_drop];omega
 have hfl:(rows++[row]).flatten=rows.flatten++row:=by simp
 obtain ⟨hr,hv⟩:=hl;have hr':∀ r∈rows++[row],r.length=size:=by
  intro r hm;rcases List.mem_append.1 hm with hm|hm
  ·exact hr r hm
  ·rw [List.mem_singleton] at hm;subst hm;exact Fc
 have UU:Y7 Z size (.slice (some ⟨c,o,sp⟩) 1 cc)=some (1,row):=by
  rw [Ka,y0,hc,C6,Nat.one_mul,hs,C6]
 have Cc:Nat.ble ((rows.length+1)*by') room=true:=EL hb;rcases hv with ⟨rfl,rfl⟩|⟨b,sp',rfl,hsp,h1,h2,h3⟩
 ·rw [hap,UU,C6,Hu,Ie om,o9];rw [show Nat.ble ((0+1)*by') room=true from Cc,j0,RS,K4];refine h _ _ ⟨hr',.inr ⟨Z.n,some size,rfl,.inr rfl,hlo,by simp,?_⟩⟩ ⟨by simp,fun c hc _=>by rw [M7,if_neg om],fun b hb=>by cases hb;simp⟩ (by simp);rw [hfl,K5 (Nat.le_refl _) (Nat.le_refl _)];rfl
 ·have h4:=A8 h3;have hlen:=BX rows hr;have hold:sub rows.flatten 0 (rows.length*size)=some rows.flatten:=D6 om om;rw [hap,UU,C6,Hu,Ie om,o9,Cc,j0];rcases hsp with rfl|rfl
  ·rw [NH,y0,h4,C6,hold,C6,K4];refine h _ _ ⟨hr',.inr ⟨Z.n,some size,by simp,.inr rfl,hlo,by simp,?_⟩⟩ ⟨by simp,fun c hc _=>by rw [M7,if_neg om],fun b hb=>by cases hb;simp⟩ (by simp);rw [hfl,K5 (Nat.le_refl _) (Nat.le_refl _)]
  ·rw [RT,y0,h4,C6,hold,C6,MT,h3,C6,C6,K4];refine h _ _ ⟨hr',.inr ⟨Z.n,some size,by simp,.inr rfl,hlo,by simp,?_⟩⟩ ⟨by simp,fun c hc hne=>?_,fun b hb=>by cases hb;simp⟩ (by simp)
   ·rw [hfl,K5 (by simp) (by simp)]
   ·rw [M7,if_neg (by rw [Ku];omega),DT,if_neg (fun h=>hne (by rw [h];rfl))]
def Hv (lo:Nat) (Z:St) (v:Value) (l:List (List UInt8)):Prop:=OL lo Z 1 v (l.map fun s=>[str s])
theorem PJ {P:Program}{te:TypeId}{Z:St}{t by' lo:Nat}{v:Value}{l:List (List UInt8)}{s:List UInt8}{cells:List Value}{c o cc:Nat}{sp:Option Nat}{Q:Value×St->Prop}{uq:Hd Q}
  (hap:∀ (b:Option Addr) (len cap:Nat) (w:Value),BN P Z t (.slice b len cap) w=ob (Y7 Z 1 w) fun p=>pr p fun n new=>bi (Nat.ble (len+n) cap) (BF Z 1 b len cap n new) (bb (Nat.ble ((len+n)*by') room) (AR te Z 1 b len n new)))
  (hl:Hv lo Z v l) (hc:Z.row c=some cells) (hs:sub cells o 1=some [str s]) (hb:(l.length+1)*by'<=4294967296) (hlo:lo<=Z.n)
  (h:∀ v' Z',Hv lo Z' v' (l++[s])->App Z Z' v v'->v'≠ .slice none 0 0->Q (v',Z')):Ev (BN P Z t v (.slice (some ⟨c,o,sp⟩) 1 cc)) Q uq:=by
 refine I0 hap hl hc hs (by rw [List.length_map];exact hb) hlo fun v' Z' h1 h2 h3=>h v' Z' ?_ h2 h3;show OL lo Z' 1 v' ((l++[s]).map fun s=>[str s]);rw [List.map_append];exact h1
theorem Dh.shape {Z:St}{v:Value}{l:List (List UInt8)}(h:Dh Z v l):∃ a c,v= .slice a l.length c:=by
 obtain ⟨a,c,b,off,cells,h1,-,-⟩:=h.use;exact ⟨a,c,h1⟩
end Go.Ab
namespace Go.Ab
open Go
def CP (J:Nat->Fr->St->Prop) (R:Res->Prop) (k:Nat) (r:Res):Prop:=match r.o with
 | .normal=>J (k+1) r.fr r.Z
 | _=>R r
section
variable {P:Program} {H:CZ} {rd:Option Nat} {fr:Fr} {Z:St}
theorem bC {J:Nat->Fr->St->Prop}{R:Res->Prop}{k:Nat}:CP J R k ⟨.normal,fr,Z⟩=J (k+1) fr Z:=rfl
theorem nQ {J:Nat->Fr->St->Prop}{R:Res->Prop}{k i:Nat}:CP J R k ⟨.exit i,fr,Z⟩=R ⟨.exit i,fr,Z⟩:=rfl
theorem tj {J:Nat->Fr->St->Prop}{R:Res->Prop}{k:Nat}:CP J R k ⟨.ret,fr,Z⟩=R ⟨.ret,fr,Z⟩:=rfl
theorem L8 {body:Code}{Q:Res->Prop}{u:Hd Q}(n:Nat) (J:Nat->Fr->St->Prop) (R:Res->Prop) (h0:J 0 fr Z)
  (hs:∀ k fr Z,k<n->J k fr Z->Ev (lim P H rd body fr Z) (CP J R k) ⟨⟩) (hx:∀ fr Z,J n fr Z->Ev (lim P H rd body fr Z) (CP (fun _ _ _=>False) R n) ⟨⟩) (hR:∀ r,R r->Q r) :
  Ev (lim P H rd (.loop body) fr Z) Q u:=by
 refine Bj (fun j fr Z=>∃ k,j+k=n/\J k fr Z) R n ⟨0,om,h0⟩ ?_ hR;rintro j fr Z ⟨k,hk,hJ⟩;by_cases h:k<n
 ·refine (hs k fr Z h hJ).mono ?_;rintro ⟨o,fr',Z'⟩ hq;cases o with
  | normal=>exact ⟨n-(k+1),om,k+1,om,hq⟩
  | exit i=>exact hq
  | ret=>exact hq
  | pan v=>exact hq
 ·obtain rfl:k=n:=om;refine (hx fr Z hJ).mono ?_;rintro ⟨o,fr',Z'⟩ hq;cases o with
  | normal=>exact hq.elim
  | exit i=>exact hq
  | ret=>exact hq
  | pan v=>exact hq
end
theorem O9 {a b:Nat}(h:a<b):decide (a<b)=true:=by simpa using h
theorem Bo {a:Nat}:decide (a<a)=false:=by simp
end Go.Ab
namespace Go.Ab
open Go
theorem Yq {P:Program}{te:TypeId}{Z0 Z' Z2:St}{t by' lo cc:Nat}{v:Value}{l:List (List UInt8)}{s:List UInt8}{sp:Option Nat}{Q:Value×St->Prop}{uq:Hd Q}
  (hap:∀ (b:Option Addr) (len cap:Nat) (w:Value),BN P (Z2.new [str s]) t (.slice b len cap) w=ob (Y7 (Z2.new [str s]) 1 w) fun p=>pr p fun n new=>bi (Nat.ble (len+n) cap) (BF (Z2.new [str s]) 1 b len cap n new) (bb (Nat.ble ((len+n)*by') room) (AR te (Z2.new [str s]) 1 b len n new)))
  (hl:Hv lo Z' v l) (hE0:Ext Z0 Z') (hE:Ext Z' Z2) (h0:Z0.n<=lo) (hlo:lo<=Z'.n) (hb:(l.length+1)*by'<=4294967296)
  (h:∀ v' Z3,Hv lo Z3 v' (l++[s])->Ext Z0 Z3->lo<=Z3.n->v'≠ .slice none 0 0->Q (v',Z3)):Ev (BN P (Z2.new [str s]) t v (.slice (some ⟨Z2.n,0,sp⟩) 1 cc)) Q uq:=by
 have hE3:Ext Z' (Z2.new [str s]):=hE.trans (.new _ _);have hl3:Hv lo (Z2.new [str s]) v l:=OL.ext hl hE3;have hn:=hE.n;refine PJ hap hl3 (D4 (Nat.le_refl _) (Nat.le_refl _)) rfl hb (by simp;omega) fun v' Z3 h1 h2 h3=>h v' Z3 h1 (h2.ext (hE0.trans hE3) hl3 h0) (by have:=h2.n;simp at this;omega) h3
end Go.Ab
namespace Go.Ab
open Go
theorem Vd {P:Program}{te:TypeId}{Z:St}{t size by' lo:Nat}{v:Value}{rows rows2:List (List Value)}{cells:List Value}{c o cc m:Nat}{sp:Option Nat}{Q:Value×St->Prop}{uq:Hd Q}
  (hap:∀ (b:Option Addr) (len cap:Nat) (w:Value),BN P Z t (.slice b len cap) w=ob (Y7 Z size w) fun p=>pr p fun n new=>bi (Nat.ble (len+n) cap) (BF Z size b len cap n new) (bb (Nat.ble ((len+n)*by') room) (AR te Z size b len n new)))
  (hl:OL lo Z size v rows) (hm:rows2.length=m) (hm0:0<m) (hr2:∀ r∈rows2,r.length=size) (hc:Z.row c=some cells) (hs:sub cells o (m*size)=some rows2.flatten) (hb:(rows.length+m)*by'<=4294967296) (hlo:lo<=Z.n)
  (h:∀ v' Z',OL lo Z' size v' (rows++rows2)->App Z Z' v v'->v'≠ .slice none 0 0->Q (v',Z')):Ev (BN P Z t v (.slice (some ⟨c,o,sp⟩) m cc)) Q uq:=by
 have hfl:(rows++rows2).flatten=rows.flatten++rows2.flatten:=by simp
 have hll:(rows++rows2).length=rows.length+m:=by simp [hm]
 obtain ⟨hr,hv⟩:=hl;have hr':∀ r∈rows++rows2,r.length=size:=by
  intro r hm;rcases List.mem_append.1 hm with hm|hm
  ·exact hr r hm
  ·exact hr2 r hm
 have UU:Y7 Z size (.slice (some ⟨c,o,sp⟩) m cc)=some (m,rows2.flatten):=by
  rw [Ka,y0,hc,C6,hs,C6]
 have Cc:Nat.ble ((rows.length+m)*by') room=true:=EL hb;rcases hv with ⟨rfl,rfl⟩|⟨b,sp',rfl,hsp,h1,h2,h3⟩
 ·rw [hap,UU,C6,Hu,Ie om,o9];rw [show Nat.ble ((0+m)*by') room=true from Cc,j0,RS,K4];refine h _ _ ⟨hr',.inr ⟨Z.n,some size,by rw [hll];simp,.inr rfl,hlo,by simp,?_⟩⟩ ⟨by simp,fun c hc _=>by rw [M7,if_neg om],fun b hb=>by cases hb;simp⟩ (by simp);rw [hfl,K5 (Nat.le_refl _) (Nat.le_refl _)];rfl
 ·have h4:=A8 h3;have hlen:=BX rows hr;have hold:sub rows.flatten 0 (rows.length*size)=some rows.flatten:=D6 om om;rw [hap,UU,C6,Hu,Ie om,o9,Cc,j0];rcases hsp with rfl|rfl
  ·rw [NH,y0,h4,C6,hold,C6,K4];refine h _ _ ⟨hr',.inr ⟨Z.n,some size,by rw [hll],.inr rfl,hlo,by simp,?_⟩⟩ ⟨by simp,fun c hc _=>by rw [M7,if_neg om],fun b hb=>by cases hb;simp⟩ (by simp);rw [hfl,K5 (Nat.le_refl _) (Nat.le_refl _)]
  ·rw [RT,y0,h4,C6,hold,C6,MT,h3,C6,C6,K4];refine h _ _ ⟨hr',.inr ⟨Z.n,some size,by rw [hll];rfl,.inr rfl,hlo,by simp,?_⟩⟩ ⟨by simp,fun c hc hne=>?_,fun b hb=>by cases hb;simp⟩ (by simp)
   ·rw [hfl,K5 (by simp) (by simp)]
   ·rw [M7,if_neg (by rw [Ku];omega),DT,if_neg (fun h=>hne (by rw [h];rfl))]
end Go.Ab
namespace Go.Ab
open Go
end Go.Ab
namespace Go.Ab
open Go
theorem asx {a b:St}(hE:Ext a b){bs:List Nat}{i j:Nat}{r:AN}{ds:List Trace}:M1 bs i r (.eff j a b::ds)=M1 bs i r ds:=Gw (hE.same r.b)
end Go.Ab
namespace Go.Ab
open Go
theorem App.row {Z Z':St}{v v':Value}{b:Nat}(h:App Z Z' v v') (hb:b<Z.n) (hne:K8 v≠some b):Z'.row b=Z.row b:=O4 (h.same b hb hne)
theorem App.far {Z Z':St}{v v':Value}{b:Nat}(h:App Z Z' v v') (hb:b<Z.n):K8 v'≠some b:=fun he=>by have:=(h.new b he).1;omega
end Go.Ab
namespace Go.Ab
open Go
theorem nP {n:Nat}:SG (.func n)=true:=rfl
end Go.Ab
namespace Go.Ab
open Go
section
variable {P:Program} {base:Env} {G:Nat}
noncomputable def nrm {β:Type}(r:Res) (f:Fr->St->Option β):Option β:=Res.rec (motive:=fun _=>Option β) (fun o fr Z=>Ya o (f fr Z)) r
theorem JC {β:Type}{r:Res}{f:Fr->St->Option β}{x:β}(h:nrm r f=some x):∃ fr Z,r=⟨.normal,fr,Z⟩/\f fr Z=some x:=by
 obtain ⟨o,fr,Z⟩:=r;cases o with
 | normal=>exact ⟨fr,Z,rfl,h⟩
 | exit i=>cases h
 | ret=>cases h
 | pan v=>cases h
theorem M5.nrm {β:Type}(r:Res){f:RunT->Fr->St->Option β}(h:∀ fr Z,M5 fun run=>f run fr Z):M5 fun run=>Ab.nrm r (f run):=by
 obtain ⟨o,fr,Z⟩:=r;cases o with
 | normal=>exact h fr Z
 | exit i=>exact .const none
 | ret=>exact .const none
 | pan v=>exact .const none
noncomputable def nh (P:Program) (c0 c2 c3:Code) (d cap:Nat) (rs:List ResultVar) (run:RunT) (vs:List Value) (Z:St):Option CR :=
 ob (run none c0 (Cx vs 0 .nil) Z) fun r=>nrm r fun fr Z=>bb (fr.get d).isNone (bb (fr.get cap).isSome (ob (run none c2 fr Z) fun r=>nrm r fun fr Z=>ob (run none c3 fr Z) fun r=>nrm r fun fr Z=>ob (Fe P fr Z rs) fun us=>some ⟨false,tup us,Z⟩))
theorem Ep {fn:Func}{tmps:Array Value}{R:Ending->World->Prop}{lo:Nat}{u:FrameMode}(hu:u≠ .run){O:Place}{Z:St}{tl:List Deferred}:∀ (Ds:List Nat) (w:World),Ds.Nodup->(∀ D∈Ds,lo<=D/\w.heap[D]? =some (.deferred (some [])))->Rel base O Z w ->
  (∀ w',Rel base O Z w'->(∀ c,c<lo->w'.heap[c]? =w.heap[c]?)->w'.heap.size=w.heap.size->Outside w w'->LeavesInM Fence.wide 0 P fn tmps R tl u w')->LeavesInM Fence.wide 0 P fn tmps R (Ds.map IY++tl) u w:=by
 intro Ds;induction Ds with
 | nil=>intro w _ _ hR k;exact k w hR (fun _ _=>rfl) rfl (.refl _)
 | cons D Ds ih =>
   intro w hn hD hR k;obtain ⟨n1,n2⟩:=List.nodup_cons.1 hn;obtain ⟨d1,d2⟩:=hD D (by simp);refine ⟨hu,.inl ⟨D,_,rfl,run_takeDeferred d2,ih _ n2 (fun E hE=>?_) (hR.shut d2 _) fun w' h1 h2 h3 h4=>k w' h1 (fun c hc=>?_) ?_ ?_⟩⟩
   ·obtain ⟨e1,e2⟩:=hD E (by simp [hE]);refine ⟨e1,?_⟩;rw [World.putObj_heap_other (fun he=>n1 (by rw [<- he];exact hE))];exact e2
   ·rw [h2 c hc,World.putObj_heap_other om]
   ·rw [h3,World.putObj_size]
   ·exact Outside.trans (b:=w.putObj D (.deferred none)) ⟨rfl,rfl,rfl⟩ h4
def deferred (a:Act) (d k:Nat) (x:Value):Act:={ tmps:=a.tmps.setIfInBounds d (.func (.func k) #[] #[x]),defers:={ target:= .fn (.func k) #[x],args:=#[] }::a.defers }
theorem Pg {g d k cap:Nat}{fn:Func}{c0 c1 c2 c3:Code}(hf:P.funcs[g]? =some fn) (hn:(fn.name== "runtime.NumGoroutine")=false) (hb:fn.body=some (.seq c0 (.seq c1 (.seq c2 (.seq c3 .ret)))))
  (h1:∀ (Q:Exit->Act->World->Prop) (a:Act) (w:World) (x:Value),fn.ntmps<=a.tmps.size->a.tmps[cap]? =some x->Q .normal (deferred a d k x) w->c1.wpIn Fence.wide 0 P Q a w)
  (hinv:∀ (x:Value) (w:World),(invoke (.fn (.func k) #[x]) #[]).run P w= .ok (.enter k #[x]) w)
  (hk:∀ (x:Value) (w:World),CallsDIn Fence.wide 0 P k #[x] .returning w fun e u' w'=>(∃ v,e= .returned v)/\u'= .returning/\w'=w)
  (hc0:codeOk P fn.ntmps G c0=true) (hc2:codeOk P fn.ntmps G c2=true) (hc3:codeOk P fn.ntmps G c3=true)
  {run:RunT} (hE:IZ P base G run) {vs:List Value} {Z:St} {r:CR} (h:nh P c0 c2 c3 d cap fn.results.toList run vs Z=some r) :
  Adv Z r.Z/\∀ O w vs' N,Rel base O Z w->Ax O Z.n N->r.Z.n<=N->Am O G->D8 O vs vs'->Az P base O g vs' Z w r:=by
 obtain ⟨r0,e0,h⟩:=A4 h;obtain ⟨fr0,Z0,rfl,h⟩:=JC h;obtain ⟨hd0,h⟩:=H2 h;obtain ⟨ck,h⟩:=H2 h;obtain ⟨r2,e2,h⟩:=A4 h;obtain ⟨fr2,Z2,rfl,h⟩:=JC h;obtain ⟨r3,e3,h⟩:=A4 h;obtain ⟨fr3,Z3,rfl,h⟩:=JC h;obtain ⟨us,eu,h⟩:=A4 h;cases h;obtain ⟨A0,B0⟩:=hE none c0 _ Z _ e0;obtain ⟨A2,B2⟩:=hE none c2 _ Z0 _ e2;obtain ⟨A3,B3⟩:=hE none c3 _ Z2 _ e3;refine ⟨(A0.trans A2).trans A3,fun O w vs' N hR hF hN hG hv=>⟨fn,hf,hn,.inl ⟨by rw [hb];rfl,(callsIn_wide (n:=0)).1 (callsIn_of_wp_marks hf hb trivial ?_)⟩⟩⟩;have hl:=hv.length;have hN3:Z3.n<=N:=hN;have hN2:Z2.n<=N:=Nat.le_trans A3.n hN3;have hN0:Z0.n<=N:=Nat.le_trans A2.n hN2;refine wpIn_seq ?_;refine B0 fn.ntmps hc0 w.heap.size [] O _ w N none (Nat.le_refl _) hR hF hN0 ?_ ?_ (.nil _ _ _) hG rfl _ fun e a' w' O' q0 q1 q2 q3 q4 q5=>?_
 ·intro t u hu;rw [Mu] at hu;by_cases ht:0<=t/\t<0+vs.length
  ·rw [if_pos ht] at hu;obtain ⟨u',k1,k2⟩:=hv.get hu;refine ⟨u',?_,k2⟩;show ((⟨vs'⟩:Array Value)++Array.replicate _ undef)[t]? =some u';rw [Array.getElem?_append_left (by simp;omega)]
   simpa using k1
  ·rw [if_neg ht] at hu;cases hu
 ·show fn.ntmps<=((⟨vs'⟩:Array Value)++Array.replicate (fn.ntmps-(⟨vs'⟩:Array Value).size) undef).size;rw [Array.size_append,Array.size_replicate];omega
 cases (show e= .normal from q0);have hsz:fn.ntmps<=a'.tmps.size:=by
  rw [q4];show fn.ntmps<=((⟨vs'⟩:Array Value)++Array.replicate (fn.ntmps-(⟨vs'⟩:Array Value).size) undef).size;rw [Array.size_append,Array.size_replicate];omega
 obtain ⟨xv,hxv⟩:∃ xv,fr0.get cap=some xv:=by
  cases hx:fr0.get cap with
  | none=>rw [hx] at ck;cases ck
  | some v=>exact ⟨v,rfl⟩
 obtain ⟨x,hx,-⟩:=q3 cap xv hxv;show (Code.seq c1 _).wpIn _ _ _ _ _ _;refine wpIn_seq (h1 _ a' w' x hsz hx ?_);show (Code.seq c2 _).wpIn _ _ _ _ _ _;refine wpIn_seq ?_;have hfr:Cg O' fr0 (deferred a' d k x):=by
  intro t v ht;obtain ⟨v',k1,k2⟩:=q3 t v ht;refine ⟨v',?_,k2⟩;show (a'.tmps.setIfInBounds d _)[t]? =some v';rw [Array.getElem?_setIfInBounds,if_neg (fun he=>by subst he;rw [ht] at hd0;cases hd0)];exact k1
 refine B2 fn.ntmps hc2 w'.heap.size (deferred a' d k x).defers O' _ w' N none (Nat.le_refl _) q1 (q2.free hF) hN2 hfr (by show fn.ntmps<=(a'.tmps.setIfInBounds d _).size;rw [Array.size_setIfInBounds];exact hsz) (.nil _ _ _) (hG.mono (q2.le hF hN0)) rfl _ fun e a2 w2 O2 p0 p1 p2 p3 p4 p5=>?_;cases (show e= .normal from p0);show (Code.seq c3 _).wpIn _ _ _ _ _ _;refine wpIn_seq ?_;have hF2:Ax O2 Z2.n N:=p2.free (q2.free hF);refine B3 fn.ntmps hc3 w'.heap.size (deferred a' d k x).defers O2 _ w2 N none p2.size p1 hF2 hN3 p3 (by rw [p4];show fn.ntmps<=(a'.tmps.setIfInBounds d _).size;rw [Array.size_setIfInBounds];exact hsz) p5 ((hG.mono (q2.le hF hN0)).mono (p2.le (q2.free hF) hN2)) rfl _ fun e a3 w3 O3 s0 s1 s2 s3 s4 s5=>?_;cases (show e= .normal from s0);refine wpIn_ret ?_;have q5':Marks w.heap.size w3 [] a'.defers:=(q5.Jq q1 p2).Jq p1 s2;obtain ⟨Ds,m1,m2,m3⟩:=s5;obtain ⟨Es,n1,n2,n3⟩:=q5';have FF:R9 O Z w O3 Z3 w3:=(q2.trans p2).trans s2;show LeavesInM Fence.wide 0 P fn a3.tmps _ a3.defers .returning w3;rw [m1];refine Ep (by simp) Ds w3 m2 m3 s1 fun w4 t1 t2 t3 t4=>?_;refine ⟨by simp,.inr ⟨(fun hh=>absurd hh (by decide)),_,_,k,#[x],rfl,hinv x w4,fun _ _=>trivial,?_⟩⟩;refine (hk x w4).mono ?_;rintro e u' w5 ⟨⟨v,rfl⟩,rfl,rfl⟩;show LeavesInM Fence.wide 0 P fn a3.tmps _ a'.defers .returning w5;rw [n1,List.append_nil];have hlt:∀ D∈Es,D<w'.heap.size:=by
  obtain ⟨Es',k1,_,k3⟩:=q5;have he:Es=Es':=by
   have:=n1.symm.trans k1;rw [List.append_nil,List.append_nil] at this;exact (List.map_inj_right fun x y hxy=>by unfold IY at hxy;injection hxy with h _;injection h).1 this
  intro D hD;have h4:=(k3 D (by rw [<- he];exact hD)).2;rcases Nat.lt_or_ge D w'.heap.size with hh|hh
  ·exact hh
  ·rw [Array.getElem?_eq_none hh] at h4;cases h4
 refine DS (by simp) Es w5 n2 (fun D hD=>⟨(n3 D hD).1,by rw [t2 D (hlt D hD)];exact (n3 D hD).2⟩) t1 fun w6 x1 x2 x3 x4=>?_;obtain ⟨v',z1,z2⟩:=DI (P:=P) x1 s3 eu;exact ⟨v',z1,v',O3,rfl,x1,FF.close (fun c hc=>by rw [x2 c hc,t2 c (Nat.lt_of_lt_of_le hc q2.size)]) (by rw [x3,t3]) (t4.trans x4),z2⟩
end
section
variable {P:Program} {base:Env} {G:Nat}
noncomputable def nrp {β:Type}(r:Res) (f:Fr->St->Option β) (g:Value->Fr->St->Option β):Option β :=
 Res.rec (motive:=fun _=>Option β) (fun o fr Z=>Out.rec (motive:=fun _=>Option β) (f fr Z) (fun _=>none) none (fun v=>g v fr Z) o) r
theorem M5.nrp {β:Type}(r:Res){f:RunT->Fr->St->Option β}{g:RunT->Value->Fr->St->Option β}(h:∀ fr Z,M5 fun run=>f run fr Z) (k:∀ v fr Z,M5 fun run=>g run v fr Z):M5 fun run=>Ab.nrp r (f run) (g run):=by
 obtain ⟨o,fr,Z⟩:=r;cases o with
 | normal=>exact h fr Z
 | exit i=>exact .const none
 | ret=>exact .const none
 | pan v=>exact k v fr Z
noncomputable def RC (T:TypeId) (v:Value):Option Value:=match v with
 | .iface t v=>bb (Nat.beq t T) (some v)
 | _=>none
noncomputable def Jd (P:Program) (ty:TypeId) (x v:Value) (Z:St):Option St :=
 ob (y7 P ty) fun z=>ob (Ih P (Z.new (K3 z) (some ty)) ty (ptrTo Z.n) v) fun Z2=>ob (Lf P Z2 ty (ptrTo Z.n)) fun u=>Ih P Z2 ty x u
noncomputable def Gx (P:Program) (c0 c2 c3:Code) (d cap:Nat) (T ty:TypeId) (rs:List ResultVar) (run:RunT) (vs:List Value) (Z:St):Option CR :=
 ob (run none c0 (Cx vs 0 .nil) Z) fun r=>nrm r fun fr0 Z=>bb (fr0.get d).isNone (ob (fr0.get cap) fun x=>ob (run none c2 fr0 Z) fun r =>
  nrp r (fun fr Z=>ob (run none c3 fr Z) fun r=>nrm r fun fr Z=>ob (Fe P fr Z rs) fun us=>some ⟨false,tup us,Z⟩)
   (fun v fr Z=>ob (RC T v) fun v=>ob (Jd P ty x v Z) fun Z=>ob (Fe P fr Z rs) fun us=>some ⟨false,tup us,Z⟩))
theorem PI (c0 c2 c3:Code) (d cap:Nat) (T ty:TypeId) (rs:List ResultVar) (vs:List Value) (Z:St):M5 fun run=>Gx P c0 c2 c3 d cap T ty rs run vs Z :=
 M5.ob (.run _ _ _ _) fun r=>M5.nrm r fun fr Z=>M5.bb _ (M5.ob (.const _) fun x=>M5.ob (.run _ _ _ _) fun r=>M5.nrp r (fun fr Z=>M5.ob (.run _ _ _ _) fun r=>M5.nrm r fun fr Z=> .const _) (fun v fr Z=> .const _))
noncomputable def dj (P:Program) (c0 c2 c3:Code) (d cap:Nat) (T ty:TypeId) (rs:List ResultVar):di:=⟨Gx P c0 c2 c3 d cap T ty rs,PI c0 c2 c3 d cap T ty rs⟩
theorem OK {O:Place}{Z Z':St}{w:World}{t:TypeId}{a a' v v':Value}(hR:Rel base O Z w) (ha:H5 O a a') (hv:H5 O v v') (h:Ih P Z t a v=some Z') :
  ∃ w',(Instr.storeAt t a' v').run P w= .ok () w'/\Rel base O Z' w'/\R9 O Z w O Z' w':=by
 obtain ⟨⟨b,off⟩,h4,k4⟩:=A4 h;obtain ⟨n,h5,k5⟩:=A4 (show ob (size? P t) _=some Z' from k4);obtain ⟨ht,k6⟩:=HP k5;obtain ⟨h6,h7⟩:=H2 k6;have hn:=Nat.eq_of_beq_eq_true h6;obtain ⟨q,hq,hx⟩:=Im ha h4;obtain ⟨c1,c2⟩:=hv.cells ht;obtain ⟨w1,w2,w3⟩:=hR.write hq h7 c1 c2;refine ⟨_,?_,w2,w3⟩;have hl:=c1.length;have hsz:v'.cells.size=n:=by rw [<- Array.length_toList,<- hl,hn]
 simp only [hx,Instr.storeAt,Instr.sureAddr,Sem.run_bind,Sem.run_pure,Result.andThen_ok,storeVar,Aj h5,ne_eq];rw [if_neg (by simp [hsz])];rw [w1 P]
theorem bI {O:Place}{Z:St}{w:World}{t:TypeId}{a a' u:Value}(hR:Rel base O Z w) (ha:H5 O a a') (h:Lf P Z t a=some u) :
  ∃ u',(Instr.loadAt t a').run P w= .ok u' w/\H5 O u u':=by
 obtain ⟨⟨b,off⟩,h4,k4⟩:=A4 h;obtain ⟨q,hq,hx⟩:=Im ha h4;obtain ⟨g,h5,h6⟩:=A4 (show ob (JB P t) _=some u from k4);have hg:=Ru h5 w;cases g with
 | true =>
   obtain ⟨n,h7,h8⟩:=A4 (show ob (size? P t) _=some u from h6);obtain ⟨cs,h9,h10⟩:=A4 h8;cases h10;obtain ⟨B,hB,EV⟩:=R4 h9;obtain ⟨vs,k1,k2,k3⟩:=(hR.row b q B hq hB).read (P:=P) EV;refine ⟨.agg vs.toArray,?_,.agg k3 k2⟩;simp only [hx,Instr.loadAt,Instr.sureAddr,Sem.run_bind,Sem.run_pure,Result.andThen_ok,loadVar,hg,if_true,Aj h7,k1]
 | false =>
   obtain ⟨cs,h9,h10⟩:=A4 (show ob (Z.read b off 1) Hk=some u from h6);obtain ⟨B,hB,EV⟩:=R4 h9;obtain ⟨v',k1,k2⟩:=((hR.row b q B hq hB).seg EV).1.one (P:=P) h10;refine ⟨v',?_,k2⟩;simp only [hx,Instr.loadAt,Instr.sureAddr,Sem.run_bind,Sem.run_pure,Result.andThen_ok,loadVar,hg,Bool.false_eq_true,if_false,k1]
structure Kf (P:Program) (ty:TypeId) (x v:Value) (w w':World):Prop where
 run:∃ w1 w2 u,(Instr.alloc ty true (.tuple #[])).run P w= .ok (.pointer (some ⟨w.heap.size,0,none⟩)) w1/\(Instr.storeAt ty (.pointer (some ⟨w.heap.size,0,none⟩)) v).run P w1= .ok () w2 /\
  (Instr.loadAt ty (.pointer (some ⟨w.heap.size,0,none⟩))).run P w2= .ok u w2/\(Instr.storeAt ty x u).run P w2= .ok () w'
theorem Lk {ty:TypeId}{x v:Value}{Z Z':St}(h:Jd P ty x v Z=some Z'):Adv Z Z':=by
 obtain ⟨z,h1,h⟩:=A4 h;obtain ⟨Z2,h2,h⟩:=A4 h;obtain ⟨u,h3,h⟩:=A4 h;exact ((Adv.new _ _ _).trans (Ej h2)).trans (Ej h)
theorem UT {O:Place}{ty:TypeId}{x x' v v':Value}{Z Z':St}{w:World}(hR:Rel base O Z w) (hf:O Z.n=none) (hx:H5 O x x') (hv:H5 O v v') (h:Jd P ty x v Z=some Z') :
  ∃ w' O',Kf P ty x' v' w w'/\Rel base O' Z' w'/\R9 O Z w O' Z' w'/\O.le O':=by
 obtain ⟨z,h1,h⟩:=A4 h;obtain ⟨Z2,h2,h⟩:=A4 h;obtain ⟨u,h3,h⟩:=A4 h;obtain ⟨hz,_,_⟩:=Cb (O:=O) h1 w;obtain ⟨zc1,zc2,zc3⟩:=CJ (O:=O) h1;have hal:(Instr.alloc ty true (.tuple #[])).run P w= .ok (.pointer (some ⟨w.heap.size,0,none⟩)) { w with heap:=w.heap.push (.cells z.cells ty) }:=by
  simp only [Instr.alloc,Sem.run_bind,hz,Result.andThen_ok,newVar,newRow,run_newObj,Sem.run_pure]
 have hle:=Place.FP ⟨w.heap.size,0,z.cells.size⟩ hf
 obtain ⟨g1,g2⟩:=hR.new (t:=some ty) (w':={ w with heap:=w.heap.push (.cells z.cells ty) }) hf (cs:=K3 z) (arr:=z.cells) (e:=ty) (lo:=0) (hi:=0)
  (by simp) (by simp) (fun c hc=>by simp [Array.getElem?_push];intro h;omega) ⟨rfl,rfl,rfl⟩ (.inr (Nat.le_refl _)) zc3 ⟨z.cells.toList,[],by simp,zc2⟩ (fun x hx=>by cases hx;rfl)
 have hp:H5 (O.put Z.n ⟨w.heap.size,0,z.cells.size⟩) (ptrTo Z.n) (.pointer (some ⟨w.heap.size,0,none⟩)):=KQ _ _ (Place.P1 _ _ _);obtain ⟨w2,e1,e2,e3⟩:=OK g1 hp (hv.mono hle) h2;obtain ⟨u',e4,e5⟩:=bI e2 hp h3;obtain ⟨w3,e6,e7,e8⟩:=OK e2 (hx.mono hle) e5 h;exact ⟨w3,_,⟨_,w2,u',hal,e1,e4,e6⟩,e7,(g2.trans e3).trans e8,hle⟩
theorem Vn {g d k cap:Nat}{T ty:TypeId}{fn:Func}{c0 c1 c2 c3:Code}(hf:P.funcs[g]? =some fn) (hn:(fn.name== "runtime.NumGoroutine")=false) (hb:fn.body=some (.seq c0 (.seq c1 (.seq c2 (.seq c3 .ret)))))
  (h1:∀ (Q:Exit->Act->World->Prop) (a:Act) (w:World) (x:Value),fn.ntmps<=a.tmps.size->a.tmps[cap]? =some x->Q .normal (deferred a d k x) w->c1.wpIn Fence.wide 0 P Q a w)
  (hinv:∀ (x:Value) (w:World),(invoke (.fn (.func k) #[x]) #[]).run P w= .ok (.enter k #[x]) w)
  (hk:∀ (x:Value) (w:World),CallsDIn Fence.wide 0 P k #[x] .returning w fun e u' w'=>(∃ v,e= .returned v)/\u'= .returning/\w'=w)
  (hp:∀ (x v:Value) (w w':World),Kf P ty x v w w'->CallsDIn Fence.wide 0 P k #[x] (.panicking [{ v:= .iface T v,recovered:=false }]) w fun e u' w''=>(∃ v,e= .returned v)/\settle u'= .returning/\w''=w')
  (hc0:codeOk P fn.ntmps G c0=true) (hc2:codeOk P fn.ntmps G c2=true) (hc3:codeOk P fn.ntmps G c3=true)
  {run:RunT} (hE:IZ P base G run) {vs:List Value} {Z:St} {r:CR} (h:Gx P c0 c2 c3 d cap T ty fn.results.toList run vs Z=some r) :
  Adv Z r.Z/\∀ O w vs' N,Rel base O Z w->Ax O Z.n N->r.Z.n<=N->Am O G->D8 O vs vs'->Az P base O g vs' Z w r:=by
 obtain ⟨r0,e0,h⟩:=A4 h;obtain ⟨fr0,Z0,rfl,h⟩:=JC h;obtain ⟨hd0,h⟩:=H2 h;obtain ⟨xv,hxv,h⟩:=A4 h;obtain ⟨r2,e2,h⟩:=A4 h;obtain ⟨A0,B0⟩:=hE none c0 _ Z _ e0;obtain ⟨A2,B2⟩:=hE none c2 _ Z0 _ e2;have ym:Adv Z r.Z:=by
  obtain ⟨o,fr2,Z2⟩:=r2;cases o with
  | normal =>
    obtain ⟨r3,e3,h⟩:=A4 h;obtain ⟨fr3,Z3,rfl,h⟩:=JC h;obtain ⟨us,eu,h⟩:=A4 h;cases h;exact (A0.trans A2).trans (hE none c3 _ Z2 _ e3).1
  | pan v =>
    obtain ⟨v1,ev1,h⟩:=A4 h;obtain ⟨Z3,e3,h⟩:=A4 h;obtain ⟨us,eu,h⟩:=A4 h;cases h;exact (A0.trans A2).trans (Lk e3)
  | exit i=>cases h
  | ret=>cases h
 refine ⟨ym,fun O w vs' N hR hF hN hG hv=>⟨fn,hf,hn,.inl ⟨by rw [hb];rfl,(callsIn_wide (n:=0)).1 (callsIn_of_wp_marks hf hb trivial ?_)⟩⟩⟩;have hl:=hv.length;have hN2:r2.Z.n<=N:=by
  refine Nat.le_trans ?_ hN;obtain ⟨o,fr2,Z2⟩:=r2;cases o with
  | normal =>
    obtain ⟨r3,e3,h⟩:=A4 h;obtain ⟨fr3,Z3,rfl,h⟩:=JC h;obtain ⟨us,eu,h⟩:=A4 h;cases h;exact (hE none c3 _ Z2 _ e3).1.n
  | pan v =>
    obtain ⟨v1,ev1,h⟩:=A4 h;obtain ⟨Z3,e3,h⟩:=A4 h;obtain ⟨us,eu,h⟩:=A4 h;cases h;exact (Lk e3).n
  | exit i=>cases h
  | ret=>cases h
 have hN0:Z0.n<=N:=Nat.le_trans A2.n hN2;refine wpIn_seq ?_;refine B0 fn.ntmps hc0 w.heap.size [] O _ w N none (Nat.le_refl _) hR hF hN0 ?_ ?_ (.nil _ _ _) hG rfl _ fun e a' w' O' q0 q1 q2 q3 q4 q5=>?_
 ·intro t u hu;rw [Mu] at hu;by_cases ht:0<=t/\t<0+vs.length
  ·rw [if_pos ht] at hu;obtain ⟨u',k1,k2⟩:=hv.get hu;refine ⟨u',?_,k2⟩;show ((⟨vs'⟩:Array Value)++Array.replicate _ undef)[t]? =some u';rw [Array.getElem?_append_left (by simp;omega)]
   simpa using k1
  ·rw [if_neg ht] at hu;cases hu
 ·show fn.ntmps<=((⟨vs'⟩:Array Value)++Array.replicate (fn.ntmps-(⟨vs'⟩:Array Value).size) undef).size;rw [Array.size_append,Array.size_replicate];omega
 cases (show e= .normal from q0);have hsz:fn.ntmps<=a'.tmps.size:=by
  rw [q4];show fn.ntmps<=((⟨vs'⟩:Array Value)++Array.replicate (fn.ntmps-(⟨vs'⟩:Array Value).size) undef).size;rw [Array.size_append,Array.size_replicate];omega
 obtain ⟨x,hx,hxr⟩:=q3 cap xv hxv;show (Code.seq c1 _).wpIn _ _ _ _ _ _;refine wpIn_seq (h1 _ a' w' x hsz hx ?_);show (Code.seq c2 _).wpIn _ _ _ _ _ _;refine wpIn_seq ?_;have hfr:Cg O' fr0 (deferred a' d k x):=by
  intro t v ht;obtain ⟨v',k1,k2⟩:=q3 t v ht;refine ⟨v',?_,k2⟩;show (a'.tmps.setIfInBounds d _)[t]? =some v';rw [Array.getElem?_setIfInBounds,if_neg (fun he=>by subst he;rw [ht] at hd0;cases hd0)];exact k1
 refine B2 fn.ntmps hc2 w'.heap.size (deferred a' d k x).defers O' _ w' N none (Nat.le_refl _) q1 (q2.free hF) hN2 hfr (by show fn.ntmps<=(a'.tmps.setIfInBounds d _).size;rw [Array.size_setIfInBounds];exact hsz) (.nil _ _ _) (hG.mono (q2.le hF hN0)) rfl _ fun e a2 w2 O2 p0 p1 p2 p3 p4 p5=>?_;have hmk:∀ (Es:List Nat),a'.defers=Es.map IY++[]->∀ D∈Es,D<w'.heap.size:=by
  intro Es n1;obtain ⟨Es',k1,_,k3⟩:=q5;have he:Es=Es':=by
   have:=n1.symm.trans k1;rw [List.append_nil,List.append_nil] at this;exact (List.map_inj_right fun x y hxy=>by unfold IY at hxy;injection hxy with h _;injection h).1 this
  intro D hD;have h4:=(k3 D (by rw [<- he];exact hD)).2;rcases Nat.lt_or_ge D w'.heap.size with hh|hh
  ·exact hh
  ·rw [Array.getElem?_eq_none hh] at h4;cases h4
 obtain ⟨o,fr2,Z2⟩:=r2;cases o with
 | exit i=>cases h
 | ret=>cases h
 | normal =>
   obtain ⟨r3,e3,h⟩:=A4 h;obtain ⟨fr3,Z3,rfl,h⟩:=JC h;obtain ⟨us,eu,h⟩:=A4 h;cases h;obtain ⟨A3,B3⟩:=hE none c3 _ Z2 _ e3;have hN3:Z3.n<=N:=hN;cases (show e= .normal from p0);show (Code.seq c3 _).wpIn _ _ _ _ _ _;refine wpIn_seq ?_;have hF2:Ax O2 Z2.n N:=p2.free (q2.free hF);refine B3 fn.ntmps hc3 w'.heap.size (deferred a' d k x).defers O2 _ w2 N none p2.size p1 hF2 hN3 p3 (by rw [p4];show fn.ntmps<=(a'.tmps.setIfInBounds d _).size;rw [Array.size_setIfInBounds];exact hsz) p5 ((hG.mono (q2.le hF hN0)).mono (p2.le (q2.free hF) hN2)) rfl _ fun e a3 w3 O3 s0 s1 s2 s3 s4 s5=>?_;cases (show e= .normal from s0);refine wpIn_ret ?_;have q5':Marks w.heap.size w3 [] a'.defers:=(q5.Jq q1 p2).Jq p1 s2;obtain ⟨Ds,m1,m2,m3⟩:=s5;obtain ⟨Es,n1,n2,n3⟩:=q5';have FF:R9 O Z w O3 Z3 w3:=(q2.trans p2).trans s2;show LeavesInM Fence.wide 0 P fn a3.tmps _ a3.defers .returning w3;rw [m1];refine Ep (by simp) Ds w3 m2 m3 s1 fun w4 t1 t2 t3 t4=>?_;refine ⟨by simp,.inr ⟨(fun hh=>absurd hh (by decide)),_,_,k,#[x],rfl,hinv x w4,fun _ _=>trivial,?_⟩⟩;refine (hk x w4).mono ?_;rintro e u' w5 ⟨⟨v,rfl⟩,rfl,rfl⟩;show LeavesInM Fence.wide 0 P fn a3.tmps _ a'.defers .returning w5;have hlt:=hmk Es n1;rw [n1,List.append_nil];refine DS (by simp) Es w5 n2 (fun D hD=>⟨(n3 D hD).1,by rw [t2 D (hlt D hD)];exact (n3 D hD).2⟩) t1 fun w6 x1 x2 x3 x4=>?_;obtain ⟨v',z1,z2⟩:=DI (P:=P) x1 s3 eu;exact ⟨v',z1,v',O3,rfl,x1,FF.close (fun c hc=>by rw [x2 c hc,t2 c (Nat.lt_of_lt_of_le hc q2.size)]) (by rw [x3,t3]) (t4.trans x4),z2⟩
 | pan v =>
   obtain ⟨v1,ev1,h⟩:=A4 h;obtain ⟨Z3,e3,h⟩:=A4 h;obtain ⟨us,eu,h⟩:=A4 h;cases h;obtain ⟨v',hev,hvr⟩:∃ v',e=WA v'/\H5 O2 v v':=p0;subst hev;obtain ⟨rfl⟩:v= .iface T v1:=by
    unfold RC at ev1;split at ev1
    ·obtain ⟨hb1,hb2⟩:=H2 ev1;cases hb2;rw [Nat.eq_of_beq_eq_true hb1]
    ·cases ev1
   obtain ⟨v2,rfl,hv2⟩:∃ v2,v'= .iface T v2/\H5 O2 v1 v2:=by
    cases hvr with
    | H9 hs=>simp [H9] at hs
    | iface h=>exact ⟨_,rfl,h⟩
   show LeavesInM Fence.wide 0 P fn a2.tmps _ a2.defers (.panicking [{ v:= .iface T v2,recovered:=false }]) w2;have q5':Marks w.heap.size w2 [] a'.defers:=q5.Jq q1 p2;obtain ⟨Ds,m1,m2,m3⟩:=p5;obtain ⟨Es,n1,n2,n3⟩:=q5';rw [m1];refine Ep (by simp) Ds w2 m2 m3 p1 fun w4 t1 t2 t3 t4=>?_;have AJ3:H5 O2 xv x:=hxr.mono (p2.le (q2.free hF) hN2);have tL:O2 Z2.n=none:=p2.free (q2.free hF) Z2.n (Nat.le_refl _) (by
    have:Z2.n+1<=Z3.n:=by
     obtain ⟨z,h1,h⟩:=A4 e3;obtain ⟨Z4,h2,h⟩:=A4 h;obtain ⟨u,h3,h⟩:=A4 h;exact Nat.le_trans (Ej h2).n (Ej h).n
    have hN':Z3.n<=N:=hN;omega)
   obtain ⟨w5,O3,y1,y2,y3,y4⟩:=UT t1 tL AJ3 hv2 e3;refine ⟨by simp,.inr ⟨(fun hh=>absurd hh (by decide)),_,_,k,#[x],rfl,hinv x w4,fun _ _=>trivial,?_⟩⟩;refine (hp x v2 w4 w5 y1).mono ?_;rintro e u' w6 ⟨⟨v,rfl⟩,Hi,rfl⟩;show LeavesInM Fence.wide 0 P fn a2.tmps _ a'.defers (settle u') w6;rw [Hi,n1,List.append_nil];have hlt:=hmk Es n1;have q7:Marks w.heap.size w4 [] a'.defers:=by
    refine ⟨Es,n1,n2,fun D hD=>⟨(n3 D hD).1,?_⟩⟩;rw [t2 D (hlt D hD)];exact (n3 D hD).2
   obtain ⟨Es',n1',n2',n3'⟩:=q7.Jq t1 y3;have he:Es=Es':=by
    have:=n1.symm.trans n1';rw [List.append_nil,List.append_nil] at this;exact (List.map_inj_right fun x y hxy=>by unfold IY at hxy;injection hxy with h _;injection h).1 this
   subst he;refine DS (by simp) Es w6 n2 n3' y2 fun w7 x1 x2 x3 x4=>?_;obtain ⟨v',z1,z2⟩:=DI (P:=P) x1 (p3.mono y4) eu;have F1:R9 O Z w O2 Z2 w2:=q2.trans p2;have F2:R9 O Z w O2 Z2 w4:=F1.close (fun c hc=>t2 c (Nat.lt_of_lt_of_le hc q2.size)) t3 t4;have F3:R9 O Z w O3 Z3 w6:=F2.trans y3;exact ⟨v',z1,v',O3,rfl,x1,F3.close (fun c hc=>x2 c hc) x3 x4,z2⟩
end
section
variable {P:Program} {base:Env} {G:Nat} {O:Place} {Z:St} {w w':World}
theorem Rel.below (hR:Rel base O Z w) (hb:Go.RowKit.Below w.heap.size w w'):Rel base O Z w'/\R9 O Z w O Z w':=by
 have hsz:=hb.size
 refine ⟨⟨hR.fresh,fun b q B h1 h2=>(hR.Fb b q B h1 h2).mono (Place.le_refl _) (hb.block q.c (hR.dom b q h1)),fun b q h1=>Nat.lt_of_lt_of_le (hR.dom b q h1) hsz,hR.own,hR.sep,Nat.le_trans hR.low hsz⟩,
  ⟨fun _ _=>rfl,Nat.le_refl _,hsz,fun c hc _=>hb.block c hc,fun b q B h1 h2 _=>⟨b,q,B,h1,rfl,h2,fun h=>h⟩,⟨hb.os,hb.tape,hb.output⟩,fun _ _ _=>rfl⟩⟩
theorem Ri {g:Nat}{fn:Func}(hf:P.funcs[g]? =some fn) (hn:(fn.name== "runtime.NumGoroutine")=false) (hbd:fn.body.isSome=true){vs':List Value}{v v':Value}(hR:Rel base O Z w)
  (hc:Calls P g ⟨vs'⟩ w fun e w'=>e= .returned v'/\Go.RowKit.Below w.heap.size w w') (hv:H5 O v v'):Az P base O g vs' Z w ⟨false,v,Z⟩:=by
 refine ⟨fn,hf,hn,.inl ⟨hbd,hc.mono ?_⟩⟩;rintro e w' ⟨rfl,hb⟩;obtain ⟨h1,h2⟩:=hR.below hb;exact ⟨v',O,rfl,h1,h2,hv⟩
theorem HY {g:Nat}{fn:Func}(hf:P.funcs[g]? =some fn) (hn:(fn.name== "runtime.NumGoroutine")=false) (hbd:fn.body.isSome=true){vs':List Value}{v v':Value}{Z':St}{w1:World}
  (hc:Calls P g ⟨vs'⟩ w fun e w'=>e= .returned v'/\w'=w1) (hR:Rel base O Z' w1) (hF:R9 O Z w O Z' w1) (hv:H5 O v v'):Az P base O g vs' Z w ⟨false,v,Z'⟩:=by
 refine ⟨fn,hf,hn,.inl ⟨hbd,hc.mono ?_⟩⟩;rintro e w' ⟨rfl,rfl⟩;exact ⟨v',O,rfl,hR,hF,hv⟩
theorem Rel.tB (hR:Rel base O Z w){b:Nat}{q:V9}(hb:O b=some q){Z':St}(hk:Z.kill b=some Z') (hs:w'.heap.size=w.heap.size) (hold:∀ c,c≠q.c->w'.heap[c]? =w.heap[c]?) (ho:Outside w w') :
  Rel base O Z' w'/\R9 O Z w O Z' w':=by
 obtain ⟨h1,h2⟩:=hR.kill ⟨q,hb⟩ hk;obtain ⟨B,hr1,hO,he⟩:=EW hk;have hB:=(W2 hr1).1;have live:∀ b' B',Z'.blk b'=some B'->b'≠b/\Z.blk b'=some B':=by
  intro b' B' h;subst he;by_cases hbb:b'=b
  ·subst hbb;rw [DG] at h;cases h
  ·exact ⟨hbb,by rw [Ay _ _ hbb] at h;exact h⟩
 refine ⟨⟨h1.fresh,fun b' q' B' g1 g2=>?_,fun b' q' g1=>by rw [hs];exact h1.dom b' q' g1,h1.own,h1.sep,by rw [hs];exact h1.low⟩,⟨h2.ext,h2.n,by rw [hs];exact h2.size,fun c hc hno=>?_,h2.owned,ho,h2.same⟩⟩
 ·obtain ⟨k1,k2⟩:=live b' B' g2;exact (h1.Fb b' q' B' g1 g2).mono (Place.le_refl _) (hold q'.c (hR.sep b q B b' q' hb hB hO k1 g1 (.inr ⟨B',k2⟩)))
 ·refine hold c fun hcc=>?_;have:=hno b q B hb hcc.symm hB;rw [hO] at this;cases this
noncomputable def Ny (l:List Value):Option (List (List UInt8)) :=
 List.rec (motive:=fun _=>Option (List (List UInt8))) (some []) (fun v _ ih=>ob (JN v) fun s=>ob ih fun r=>some (s::r)) l
noncomputable def QJ (sep:List UInt8) (l:List (List UInt8)):List UInt8:=List.rec (motive:=fun _=>List UInt8) [] (fun x _ ih=>sep++(x++ih)) l
noncomputable def QK (l:List (List UInt8)) (sep:List UInt8):List UInt8:=List.rec (motive:=fun _=>List UInt8) [] (fun x xs _=>x++QJ sep xs) l
theorem fe (sep:List UInt8) (l:List (List UInt8)):QJ sep l=Lib.joinTail sep l:=by
 induction l with
 | nil=>rfl
 | cons x l ih =>
   show sep++(x++QJ sep l)=_;rw [ih];simp [Lib.joinTail]
theorem ff (l:List (List UInt8)) (sep:List UInt8):QK l sep=Lib.join l sep:=by
 cases l with
 | nil=>rfl
 | cons x l =>
   show x++QJ sep l=_;rw [fe,Lib.join_cons]
theorem aP:∀ {l:List Value}{r:List (List UInt8)},Ny l=some r->∃ xs:List ByteArray,l=xs.map Value.string/\r=xs.map (·.data.toList):=by
 intro l;induction l with
 | nil=>intro r h;cases h;exact ⟨[],rfl,rfl⟩
 | cons v l ih =>
   intro r h;obtain ⟨s,h1,h⟩:=A4 (show ob (JN v) (fun s=>ob (Ny l) fun r=>some (s::r))=some r from h);obtain ⟨r',h2,h⟩:=A4 h;cases h;obtain ⟨xs,rfl,rfl⟩:=ih h2;cases v with
   | string x=>cases h1;exact ⟨x::xs,rfl,rfl⟩
   | _=>cases h1
noncomputable def YT (vs:List Value) (Z:St):Option CR:=match vs with
 | [.slice (some ⟨b,off,_⟩) n c,.string sep]=>bb (Nat.ble n c) (bb (Nat.ble n room) (ob (Z.read b off n) fun cs=>ob (Ny cs) fun l=>bb (Nat.ble (QK l sep.data.toList).length room) (some ⟨false,.string ⟨(QK l sep.data.toList).toArray⟩,Z⟩)))
 | _=>none
theorem WT:∀ {xs:List ByteArray}{vs:List Value},D8 O (xs.map Value.string) vs->vs=xs.map Value.string:=by
 intro xs;induction xs with
 | nil=>intro vs h;cases h;rfl
 | cons x xs ih =>
   intro vs h;cases h with
   | cons h hs=>cases h;rw [ih hs];rfl
theorem fh {g:Nat}{fn:Func}(hf:P.funcs[g]? =some fn) (hn:(fn.name== "runtime.NumGoroutine")=false) (hbd:fn.body.isSome=true)
  (hc:∀ (bk o c:Nat) (xs:List ByteArray) (sep:ByteArray) (w:World),(∀ (j:Nat) x,xs[j]? =some x->w.cell? ⟨bk,o+j,none⟩=some (.string x))->bk<w.heap.size->xs.length<=140737488355328->xs.length<=c->(Lib.join (xs.map (·.data.toList)) sep.data.toList).length<=140737488355328 ->
    Calls P g #[.slice (some ⟨bk,o,none⟩) xs.length c,.string sep] w fun e w'=>e= .returned (.string ⟨(Lib.join (xs.map (·.data.toList)) sep.data.toList).toArray⟩)/\Go.RowKit.Below w.heap.size w w')
  (h0:∀ (a:Option Addr) (c:Nat) (sep:ByteArray) (w:World),Calls P g #[.slice a 0 c,.string sep] w fun e w'=>e= .returned (.string ⟨#[]⟩)/\w'=w)
  {vs:List Value} {Z:St} {r:CR} (h:YT vs Z=some r):Adv Z r.Z/\∀ O w vs' N,Rel base O Z w->Ax O Z.n N->r.Z.n<=N->Am O G->D8 O vs vs'->Az P base O g vs' Z w r:=by
 unfold YT at h;split at h
 ·rename_i b off sp n c sep;obtain ⟨g1,h⟩:=H2 h;obtain ⟨g2,h⟩:=H2 h;obtain ⟨cs,g3,h⟩:=A4 h;obtain ⟨l,g4,h⟩:=A4 h;obtain ⟨g5,h⟩:=H2 h;cases h;have e1:=Nat.le_of_ble_eq_true g1;have e2:=Nat.le_of_ble_eq_true g2;have e5:=Nat.le_of_ble_eq_true g5;unfold room at e2 e5;refine ⟨.refl _,fun O w vs' N hR hF hN hG hv=>?_⟩;cases hv with
  | cons hs hv =>
  cases hv with
  | cons hp hv =>
  cases hv;obtain ⟨xs,rfl,rfl⟩:=aP g4;obtain ⟨B,hB,EV⟩:=R4 g3;have hlen:=(sub_eq EV).2 ▸ (by simp;have:=(sub_eq EV).1;omega:((B.cells.drop off).take n).length=n);rw [List.length_map] at hlen;cases hp;rename_i s' _;rw [ff] at e5 ⊢;have fin:∀ (q:V9) (c':Nat),O b=some q->n<=c'->Az P base O g [.slice (some ⟨q.c,q.o+off,none⟩) n c',.string sep] Z w ⟨false,.string ⟨(Lib.join (xs.map (·.data.toList)) sep.data.toList).toArray⟩,Z⟩:=by
   intro q c' hq hcc;obtain ⟨vs,k1,k2,k3⟩:=(hR.row b q B hq hB).read (P:=P) EV;rw [WT k2] at k1;have UC:∀ (j:Nat) x,xs[j]? =some x->w.cell? ⟨q.c,q.o+off+j,none⟩=some (.string x):=by
    intro j x hj;obtain ⟨arr,e,lo,hi,a1,a0,a2,a3,a4,a5⟩:=hR.row b q B hq hB;obtain ⟨s1,s2⟩:=sub_eq EV;have hj':(xs.map Value.string)[j]? =some (.string x):=by rw [List.getElem?_map,hj];rfl
    have hjn:j<n:=by have:=(List.getElem?_eq_some_iff.1 hj).1;omega
    rw [s2,List.getElem?_take_of_lt hjn,List.getElem?_drop] at hj';obtain ⟨v',b1,b2⟩:=a5 _ _ hj';cases b2;rw [GB a1,show q.o+off+j=q.o+(off+j) from by omega];exact b1
   subst hlen;exact Ri hf hn hbd hR (hc q.c (q.o+off) c' xs sep w UC (hR.dom b q hq) om hcc om) (.H9 rfl)
  cases hs with
  | slice hq=>exact fin _ _ hq e1
  | grow hq hk hm=>exact fin _ _ hq (Nat.le_trans e1 hk)
  | Al hq =>
    obtain rfl:xs=[]:=List.length_eq_zero_iff.1 hlen;exact HY hf hn hbd (h0 _ _ _ w) hR (.refl _ _ _) (.H9 rfl)
  | H9 hsc=>simp [H9] at hsc
 ·cases h
end
section
variable {P:Program} {base:Env} {G:Nat}
theorem Um (hm:P.follows .mixedOrders=true) (Dn:∀ n c,base.chk n c=codeOk P n G c) {H:CZ} (hP:EE P H G P.funcs.toList 0=true) (hH:∀ lo,Gn P { base with lo:=lo } G H) {Z0:St} (hn0:Z0.n=G) (ho:∀ b B,Z0.blk b=some B->B.own=false)
  {g f:Nat} {v:Value} {Z1:St} (hv:H9 v=true) (h:Bq P H (exec P H f) (.fn g) [] Z0=some ⟨false,v,Z1⟩) (Z:St) {O:Place} {w:World} {N:Nat} (hR:Rel base O Z w) (hG:Am O G)
  (hR0:Rel { base with lo:=w.heap.size } (fun b=>if b<G then O b else none) Z0 w):Az P base O g [] Z w ⟨false,v,Z⟩:=by
 obtain ⟨_,h2⟩:=So (base:={ base with lo:=w.heap.size }) hm Dn hP (hH _) f _ _ _ _ h
 let O0:Place:=fun b=>if b<G then O b else none
 have hG0:Am O0 G:=by
  intro g hg;obtain ⟨m,h,h2⟩:=hG g hg;exact ⟨m,by show (if g<G then O g else none)=_;rw [if_pos hg];exact h,h2⟩
 have hF0:Ax O0 Z0.n Z1.n:=fun b hb _=>by show (if b<G then O b else none)=none;rw [if_neg om]
 obtain ⟨fn,k1,k2,k3⟩:=h2 O0 w [] Z1.n hR0 hF0 (Nat.le_refl _) hG0 .nil;refine ⟨fn,k1,k2,?_⟩;have bh:∀ {O':Place} {v':Value},H5 O' v v'->v'=v:=by
  intro O' v' hv';cases v with
  | bool b=>cases hv';rfl
  | int k n=>cases hv';rfl
  | string s=>cases hv';rfl
  | _=>cases hv' <;> first|rfl|cases hv
 rcases k3 with ⟨k4,k5⟩|⟨v',k4,k5,k6,k7⟩
 ·refine .inl ⟨k4,k5.mono ?_⟩;rintro e w' ⟨v',O',rfl,q1,q2,q3⟩;have BV:∀ c,c<w.heap.size->w'.heap[c]? =w.heap[c]? :=fun c hc=>q2.E8 c hc fun b q B hb _ hB=>ho b B hB;have hv':=bh q3;subst hv'
  refine ⟨v',O,rfl,⟨hR.fresh,fun b q B h1 h2=>(hR.Fb b q B h1 h2).mono (Place.le_refl _) (BV _ (hR.dom b q h1)),fun b q hb=>Nat.lt_of_lt_of_le (hR.dom b q hb) q2.size,hR.own,hR.sep,Nat.le_trans hR.low q2.size⟩,
   ⟨fun _ _=>rfl,Nat.le_refl _,q2.size,fun c hc _=>BV c hc,fun b q B h1 h2 _=>⟨b,q,B,h1,rfl,h2,fun h=>h⟩,q2.out,fun _ _ _=>rfl⟩,.H9 hv⟩
 ·have:=bh k7;subst this;exact .inr ⟨v',k4,rfl,rfl,.H9 hv⟩
end
end Go.Ab
