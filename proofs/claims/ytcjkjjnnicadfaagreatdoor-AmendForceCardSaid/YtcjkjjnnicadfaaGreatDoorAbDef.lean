/- Defines an abstract machine for the model's code: slices grow into new blocks, statements run in the order of the text, and whatever is not covered has no result. -/
import Derived.Orders
set_option linter.unusedSimpArgs false
set_option linter.unusedVariables false
namespace Go.Ab
open Go

/-- Go on with a value, if there is one. -/
noncomputable def ob {α β : Type} (x : Option α) (f : α → Option β) : Option β := Option.rec (motive := fun _ => Option β) none f x
/-- Go on, if a test holds. -/
noncomputable def bb {β : Type} (c : Bool) (x : Option β) : Option β := Bool.rec (motive := fun _ => Option β) none x c
/-- One of two, by a test. -/
noncomputable def bi {β : Type} (c : Bool) (x y : β) : β := Bool.rec (motive := fun _ => β) y x c

/-- The two parts of a pair. -/
noncomputable def pr {α β γ : Type} (p : α × β) (f : α → β → γ) : γ := Prod.rec (motive := fun _ => γ) f p

inductive Tr (α : Type) where
  | nil
  | node (l : Tr α) (v : Option α) (r : Tr α)

noncomputable def Tr.get {α : Type} (t : Tr α) : Nat → Option α :=
  Tr.rec (motive := fun _ => Nat → Option α) (fun _ => none)
    (fun _ v _ gl gr n => Nat.rec (motive := fun _ => Option α) v (fun m _ => Nat.rec (motive := fun _ => Option α) (gl (m / 2)) (fun _ _ => gr (m / 2)) (m % 2)) n) t

noncomputable def Tr.one {α : Type} (f : Nat) : Nat → α → Tr α :=
  Nat.rec (motive := fun _ => Nat → α → Tr α) (fun _ _ => .nil)
    (fun _ ih n a => Nat.rec (motive := fun _ => Tr α) (.node .nil (some a) .nil) (fun m _ => Nat.rec (motive := fun _ => Tr α) (.node (ih (m / 2) a) none .nil) (fun _ _ => .node .nil none (ih (m / 2) a)) (m % 2)) n) f

noncomputable def Tr.set {α : Type} (t : Tr α) : Nat → α → Tr α :=
  Tr.rec (motive := fun _ => Nat → α → Tr α) (fun n a => Tr.one (n + 1) n a)
    (fun l v r sl sr n a => Nat.rec (motive := fun _ => Tr α) (.node l (some a) r) (fun m _ => Nat.rec (motive := fun _ => Tr α) (.node (sl (m / 2) a) v r) (fun _ _ => .node l v (sr (m / 2) a)) (m % 2)) n) t

/-- What a block holds: a row of cells; a map, as a row of keys and values by turns; the record of a range over a function: the frame that its rounds begin with, its variables, its code, its state, and how a round left it. -/
inductive Kind where
  | row
  | map
  | loop (fr : Tr Value) (ps : List Nat) (assign body : Code) (st : LoopState) (pend : Option Code)

structure Blk where
  cells : List Value
  live : Bool
  own : Bool
  ver : Nat
  kind : Kind

structure St where
  h : Tr Blk
  n : Nat

inductive Out where
  | normal | exit (id : Nat) | ret | pan (v : Value)

noncomputable def St.newK (σ : St) (cs : List Value) (k : Kind) : St := ⟨σ.h.set σ.n ⟨cs, true, true, 0, k⟩, σ.n + 1⟩
noncomputable def St.new (σ : St) (cs : List Value) : St := σ.newK cs .row

noncomputable def St.blk (σ : St) (b : Nat) : Option Blk := ob (σ.h.get b) fun B => bb B.live (some B)

/-- A block that is a row of cells. -/
noncomputable def St.rblk (σ : St) (b : Nat) : Option Blk := ob (σ.blk b) fun B => Kind.rec (motive := fun _ => Option Blk) (some B) none (fun _ _ _ _ _ _ => none) B.kind
/-- A block that is a map: its cells. -/
noncomputable def St.mblk (σ : St) (b : Nat) : Option Blk := ob (σ.blk b) fun B => Kind.rec (motive := fun _ => Option Blk) none (some B) (fun _ _ _ _ _ _ => none) B.kind

noncomputable def St.ver (σ : St) (b : Nat) : Nat := match σ.h.get b with
  | some B => B.ver
  | none => 0

noncomputable def takeN {α : Type} (n : Nat) : List α → Option (List α) :=
  Nat.rec (motive := fun _ => List α → Option (List α)) (fun _ => some [])
    (fun _ ih l => List.rec (motive := fun _ => Option (List α)) none (fun x xs _ => ob (ih xs) fun r => some (x :: r)) l) n

noncomputable def dropN {α : Type} (n : Nat) : List α → Option (List α) :=
  Nat.rec (motive := fun _ => List α → Option (List α)) (fun l => some l)
    (fun _ ih l => List.rec (motive := fun _ => Option (List α)) none (fun _ xs _ => ih xs) l) n

noncomputable def sub {α : Type} (cs : List α) (off n : Nat) : Option (List α) := ob (dropN off cs) fun l => takeN n l

/-- A list with others in the place of its first elements. -/
noncomputable def over {α : Type} (new : List α) : List α → Option (List α) :=
  List.rec (motive := fun _ => List α → Option (List α)) (fun l => some l)
    (fun v _ ih l => List.rec (motive := fun _ => Option (List α)) none (fun _ xs _ => ob (ih xs) fun r => some (v :: r)) l) new

noncomputable def splice {α : Type} (cs : List α) (off : Nat) (new : List α) : Option (List α) :=
  (Nat.rec (motive := fun _ => List α → Option (List α)) (fun l => over new l)
    (fun _ ih l => List.rec (motive := fun _ => Option (List α)) none (fun x xs _ => ob (ih xs) fun r => some (x :: r)) l) off : List α → Option (List α)) cs

noncomputable def St.read (σ : St) (b off n : Nat) : Option (List Value) := ob (σ.rblk b) fun B => sub B.cells off n
noncomputable def St.write (σ : St) (b off : Nat) (vs : List Value) : Option St := ob (σ.rblk b) fun B => bb B.own (ob (splice B.cells off vs) fun cs => some ⟨σ.h.set b ⟨cs, true, true, B.ver + 1, .row⟩, σ.n⟩)
noncomputable def St.kill (σ : St) (b : Nat) : Option St := ob (σ.rblk b) fun B => bb B.own (some ⟨σ.h.set b ⟨[], false, true, B.ver + 1, .row⟩, σ.n⟩)
/-- A map's cells, anew. -/
noncomputable def St.wmap (σ : St) (b : Nat) (cs : List Value) : Option St := ob (σ.mblk b) fun B => bb B.own (some ⟨σ.h.set b ⟨cs, true, true, B.ver + 1, .map⟩, σ.n⟩)
/-- A loop's state, anew. -/
noncomputable def St.wloop (σ : St) (b : Nat) (st : LoopState) (pend : Option Code) : Option St := ob (σ.blk b) fun B => bb B.own (Kind.rec (motive := fun _ => Option St) none none (fun fr ps as bd _ _ => some ⟨σ.h.set b ⟨[], true, true, B.ver + 1, .loop fr ps as bd st pend⟩, σ.n⟩) B.kind)

def cellsL (v : Value) : List Value := match v with | .agg cs => cs.toList | v => [v]

def undefV : Value := .tuple #[]

/-- A value of one cell. -/
def isCell (v : Value) : Bool := match v with
  | .agg _ => false
  | .tuple _ => false
  | _ => true
def isTup (v : Value) : Bool := match v with
  | .tuple _ => true
  | _ => false
/-- A value of one cell that holds no address. -/
def scal (v : Value) : Bool := match v with
  | .bool _ | .int .. | .string _ | .float .. | .complex .. | .nilFunc | .nilIface => true
  | .pointer none | .map none | .chan none | .slice none 0 0 => true
  | _ => false
noncomputable def allScal (l : List Value) : Bool := List.rec (motive := fun _ => Bool) true (fun v _ ih => bi (scal v) ih false) l
/-- A constant of the text, or a zero value. -/
noncomputable def cstOk (v : Value) : Bool := match v with
  | .agg ⟨l⟩ => allScal l
  | v => scal v
/-- What a function without a body gives. -/
noncomputable def outOk (v : Value) : Bool := match v with
  | .tuple ⟨l⟩ => allScal l
  | v => cstOk v
noncomputable def cst (v : Value) : Option Value := bb (cstOk v) (some v)

def pureRun {α : Type} (p : Program) : Sem α → Option α
  | .pure a => some a
  | .program k => pureRun p (k p)
  | .mark _ k => pureRun p k
  | _ => none

mutual
def flat : Value → Bool
  | .bool _ | .int .. | .string _ | .float .. | .complex .. | .nilFunc | .nilIface => true
  | .pointer a => a.isNone
  | .map a => a.isNone
  | .chan a => a.isNone
  | .agg cs => flatA cs
  | .tuple cs => flatA cs
  | .iface _ v => flat v
  | .slice none 0 0 => true
  | .slice .. | .func .. => false
def flatA : Array Value → Bool
  | ⟨l⟩ => flats l
def flats : List Value → Bool
  | [] => true
  | v :: vs => (match flat v with | true => flats vs | false => false)
end

abbrev Fr := Tr Value
noncomputable def ev (fr : Fr) (x : Operand) : Option Value :=
  Operand.rec (motive := fun _ => Option Value) (fun t => fr.get t) cst (fun g => some (.pointer (some ⟨g, 0, none⟩))) (fun f => some (.func (.func f) #[] #[])) x

noncomputable def evs (fr : Fr) (l : List Operand) : Option (List Value) :=
  List.rec (motive := fun _ => Option (List Value)) (some []) (fun o _ ih => ob (ev fr o) fun v => ob ih fun vs => some (v :: vs)) l

def size? (P : Program) (t : TypeId) : Option Nat := match P.info? t with | some i => some i.size | none => none
def aggOf : TypeDesc → Bool
  | .struct _ | .array _ _ => true
  | _ => false
def isAgg? (P : Program) (t : TypeId) : Option Bool := match P.underlying t with
  | some d => some (aggOf d)
  | none => none
def oneV (l : List Value) : Option Value := match l with
  | [v] => some v
  | _ => none
noncomputable def loadA (P : Program) (σ : St) (t : TypeId) (b off : Nat) : Option Value :=
  ob (isAgg? P t) fun g => bi g (ob (size? P t) fun n => ob (σ.read b off n) fun cs => some (.agg ⟨cs⟩)) (ob (σ.read b off 1) oneV)
/-- The block and the offset of an address. -/
def at? (v : Value) : Option (Nat × Nat) := match v with
  | .pointer (some ⟨b, off, none⟩) => some (b, off)
  | _ => none
noncomputable def loadV (P : Program) (σ : St) (t : TypeId) (a : Value) : Option Value := ob (at? a) fun p => pr p fun b off => loadA P σ t b off
noncomputable def storeV (P : Program) (σ : St) (t : TypeId) (a v : Value) : Option St :=
  ob (at? a) fun p => pr p fun b off => ob (size? P t) fun n => bi (isTup v) none (bb ((cellsL v).length.beq n) (σ.write b off (cellsL v)))
noncomputable def zero? (P : Program) (t : TypeId) : Option Value := ob (P.info? t) fun i => ob i.zero cst
noncomputable def partV (P : Program) (t : TypeId) (cs : List Value) (off : Nat) : Option Value :=
  ob (isAgg? P t) fun g => bi g (ob (size? P t) fun n => ob (sub cs off n) fun l => some (.agg ⟨l⟩)) (ob (sub cs off 1) oneV)

def nat? (v : Value) : Option Nat := match v with
  | .int _ (.ofNat n) => some n
  | _ => none

def hiOf (dl : Nat) (hi : Option Value) : Option Nat := match hi with | some v => nat? v | none => some dl
noncomputable def bnds (dl cap : Nat) (lo hi : Option Value) : Option (Nat × Nat) :=
  ob (hiOf dl hi) fun h => bb (h.ble cap) (ob (hiOf 0 lo) fun l => bb (l.ble h) (some (l, h)))

noncomputable def rep {α : Type} (l : List α) (n : Nat) : List α := Nat.rec (motive := fun _ => List α) [] (fun _ ih => l ++ ih) n

noncomputable def fillL (place : Nat → Option (Nat × Nat)) (parts : List (Nat × Value)) : List Value → Option (List Value) :=
  List.rec (motive := fun _ => List Value → Option (List Value)) (fun cells => some cells)
    (fun p _ ih cells => pr p fun i v => ob (place i) fun q => pr q fun off n => bi (isTup v) none (bb ((cellsL v).length.beq n) (ob (splice cells off (cellsL v)) ih))) parts

def bytesV (s : List UInt8) : List Value := s.map fun b => .int .u8 b.toNat
def byte? (v : Value) : Option UInt8 := match v with
  | .int .u8 n => some (UInt8.ofNat n.toNat)
  | _ => none
noncomputable def unbytes (l : List Value) : Option (List UInt8) :=
  List.rec (motive := fun _ => Option (List UInt8)) (some []) (fun v _ ih => ob (byte? v) fun b => ob ih fun bs => some (b :: bs)) l

noncomputable def srcCells (σ : St) (size : Nat) (v : Value) : Option (Nat × List Value) := match v with
  | .slice none n _ => bb (n.beq 0) (some (0, []))
  | .slice (some ⟨b, off, _⟩) n _ => ob (σ.read b off (n * size)) fun cs => some (n, cs)
  | .string s => bb (Nat.beq size 1) (some (s.data.toList.length, bytesV s.data.toList))
  | _ => none

def elem? (P : Program) (t : TypeId) : Option TypeId := match P.underlying t with | some (.slice e) => some e | _ => none

/-- No row that the machine makes or grows has more cells or bytes than this. -/
def room : Nat := 4294967296

noncomputable def appendIn (σ : St) (size : Nat) (base : Option Addr) (len cap n : Nat) (new : List Value) : Option (Value × St) := match base with
  | some ⟨b, off, sp⟩ => ob (σ.write b (off + len * size) new) fun σ => some (.slice (some ⟨b, off, sp⟩) (len + n) cap, σ)
  | none => bb (Nat.beq (len + n + cap) 0) (some (.slice none 0 0, σ))
/-- A slice that may have more room than is known bears its elements' size in its address; one that has not, bears none. -/
noncomputable def appendNew (σ : St) (size : Nat) (base : Option Addr) (len n : Nat) (new : List Value) : Option (Value × St) := match base with
  | none => bb (Nat.beq len 0) (some (.slice (some ⟨σ.n, 0, some size⟩) n n, σ.new new))
  | some ⟨b, off, none⟩ => ob (σ.read b off (len * size)) fun old => some (.slice (some ⟨σ.n, 0, some size⟩) (len + n) (len + n), σ.new (old ++ new))
  | some ⟨b, off, some s⟩ => bb (Nat.beq s size) (ob (σ.read b off (len * size)) fun old => ob (σ.kill b) fun σ => some (.slice (some ⟨σ.n, 0, some size⟩) (len + n) (len + n), σ.new (old ++ new)))
noncomputable def appendV (P : Program) (σ : St) (t : TypeId) (s x : Value) : Option (Value × St) :=
  ob (elem? P t) fun e => ob (P.info? e) fun i => match s with
    | .slice base len cap => ob (srcCells σ i.size x) fun p => pr p fun n new => bb (Nat.ble 1 i.size) (bi (Nat.ble (len + n) cap)
        (appendIn σ i.size base len cap n new)
        (bb (Nat.ble ((len + n) * (i.bytes + 1)) room) (ob (zero? P e) fun z => bb ((cellsL z).length.beq i.size) (appendNew σ i.size base len n new))))
    | _ => none

def lenV (d : Option TypeDesc) (v : Value) : Option Nat := match d with
  | some .string => (match v with | .string s => some s.data.toList.length | _ => none)
  | some (.slice _) => (match v with | .slice _ n _ => some n | _ => none)
  | _ => none

def inR (k : IntKind) (n : Int) : Bool := match k, n with
  | .i64, .ofNat m => Nat.blt m 9223372036854775808
  | .i64, .negSucc m => Nat.blt m 9223372036854775808
  | .u8, .ofNat m => Nat.blt m 256
  | .u64, .ofNat m => Nat.blt m 18446744073709551616
  | _, _ => false
noncomputable def wrapF (k : IntKind) (n : Int) : Int := bi (inR k n) n (k.wrap n)
def ieq (a b : Int) : Bool := match a, b with
  | .ofNat a, .ofNat b => Nat.beq a b
  | .negSucc a, .negSucc b => Nat.beq a b
  | _, _ => false
def ilt (a b : Int) : Bool := match a, b with
  | .ofNat a, .ofNat b => Nat.blt a b
  | .negSucc a, .negSucc b => Nat.blt b a
  | .negSucc _, .ofNat _ => true
  | .ofNat _, .negSucc _ => false
def keq (a b : IntKind) : Bool := Nat.beq a.ctorIdx b.ctorIdx
noncomputable def beqL (a : List UInt8) : List UInt8 → Bool :=
  List.rec (motive := fun _ => List UInt8 → Bool) (fun b => List.rec (motive := fun _ => Bool) true (fun _ _ _ => false) b)
    (fun x _ ih b => List.rec (motive := fun _ => Bool) false (fun y ys _ => bi (Nat.beq x.toNat y.toNat) (ih ys) false) b) a
noncomputable def intV (op : BinOp) : IntKind → Int → Int → Option Value :=
  BinOp.rec (motive := fun _ => IntKind → Int → Int → Option Value)
    (fun k a b => some (.int k (wrapF k (a + b))))
    (fun k a b => some (.int k (wrapF k (a - b))))
    (fun k a b => some (.int k (wrapF k (a * b))))
    (fun _ _ _ => none)
    (fun _ _ _ => none)
    (fun _ _ _ => none)
    (fun _ _ _ => none)
    (fun _ _ _ => none)
    (fun _ _ _ => none)
    (fun _ _ _ => none)
    (fun _ _ _ => none)
    (fun _ a b => some (.bool (ieq a b)))
    (fun _ a b => some (.bool (bi (ieq a b) false true)))
    (fun _ a b => some (.bool (ilt a b)))
    (fun _ a b => some (.bool (bi (ilt b a) false true)))
    (fun _ a b => some (.bool (ilt b a)))
    (fun _ a b => some (.bool (bi (ilt a b) false true))) op
noncomputable def strV (op : BinOp) : ByteArray → ByteArray → Option Value :=
  BinOp.rec (motive := fun _ => ByteArray → ByteArray → Option Value)
    (fun a b => bb (Nat.ble (a.data.toList.length + b.data.toList.length) room) (some (.string ⟨(a.data.toList ++ b.data.toList).toArray⟩)))
    (fun _ _ => none)
    (fun _ _ => none)
    (fun _ _ => none)
    (fun _ _ => none)
    (fun _ _ => none)
    (fun _ _ => none)
    (fun _ _ => none)
    (fun _ _ => none)
    (fun _ _ => none)
    (fun _ _ => none)
    (fun a b => some (.bool (beqL a.data.toList b.data.toList)))
    (fun a b => some (.bool (bi (beqL a.data.toList b.data.toList) false true)))
    (fun _ _ => none)
    (fun _ _ => none)
    (fun _ _ => none)
    (fun _ _ => none) op
noncomputable def fastV (op : BinOp) (x y : Value) : Option Value := match x with
  | .int k a => (match y with
    | .int k' b => bb (keq k k') (intV op k a b)
    | _ => none)
  | .string a => (match y with
    | .string b => strV op a b
    | _ => none)
  | _ => none

noncomputable def minmax (isMax : Bool) (v w : Value) : Option Value := match v with
  | .int k x => (match w with
    | .int _ y => some (.int k (bi isMax (bi (ilt x y) y x) (bi (ilt y x) y x)))
    | _ => none)
  | _ => none
noncomputable def mm (isMax : Bool) (l : List Value) : Value → Option Value :=
  List.rec (motive := fun _ => Value → Option Value) (fun v => some v) (fun x _ ih v => ob (minmax isMax v x) ih) l

/-- What '==' gives on two values of a type, at least one of which is nil. -/
def nilPair (d : Option TypeDesc) (x y : Value) : Option Bool := match d with
  | some (.pointer _) => (match x, y with
    | .pointer none, .pointer none => some true
    | .pointer none, .pointer (some _) => some false
    | .pointer (some _), .pointer none => some false
    | _, _ => none)
  | some (.slice _) => (match x, y with
    | .slice none _ _, .slice none _ _ => some true
    | .slice none _ _, .slice (some _) _ _ => some false
    | .slice (some _) _ _, .slice none _ _ => some false
    | _, _ => none)
  | some (.func ..) => (match x, y with
    | .nilFunc, .nilFunc => some true
    | .nilFunc, .func .. => some false
    | .func .., .nilFunc => some false
    | _, _ => none)
  | some (.interface _) => (match x, y with
    | .nilIface, .iface .. => some false
    | .iface .., .nilIface => some false
    | _, _ => none)
  | _ => none

def nextV (n : Option Next) : Option Value := match n with
  | some (.value v) => some v
  | _ => none

/-- What an operation on values without addresses gives, by the model's own text. -/
noncomputable def flatV (P : Program) (fr : Fr) (o : Oper) : Option Value :=
  ob (nextV (pureRun P (execOp (fun x => (ev fr x).getD undefV) o))) cst

noncomputable def nilV (P : Program) (t : TypeId) (op : BinOp) (x y : Value) : Option Value := match op with
  | .eql => ob (nilPair (P.underlying t) x y) fun b => some (.bool b)
  | .neq => ob (nilPair (P.underlying t) x y) fun b => some (.bool !b)
  | _ => none

noncomputable def orV (x y : Option Value) : Option Value := Option.rec (motive := fun _ => Option Value) y (fun v => some v) x

noncomputable def binV (P : Program) (fr : Fr) (o : Oper) (op : BinOp) (t : TypeId) (x y : Value) : Option Value :=
  orV (fastV op x y) (bi (flat x && flat y) (flatV P fr o) (nilV P t op x y))

/- The operations that do not touch memory. -/
def bool? (v : Value) : Option Bool := match v with
  | .bool b => some b
  | _ => none
noncomputable def pPick (fr : Fr) (c a b : Operand) : Option Value := ob (ev fr c) fun v => ob (bool? v) fun t => bi t (ev fr a) (ev fr b)
noncomputable def placesL (P : Program) (l : List Field) : Option (List (Nat × Nat)) :=
  List.rec (motive := fun _ => Option (List (Nat × Nat))) (some []) (fun f _ ih => ob (size? P f.type) fun n => ob ih fun r => some ((f.offset, n) :: r)) l
noncomputable def buildV (P : Program) (t : TypeId) (z : List Value) (parts : List (Nat × Value)) : Option Value := match P.underlying t with
  | some (.struct fs) => ob (placesL P fs.toList) fun ps => ob (fillL (fun i => ps[i]?) parts z) fun l => some (.agg ⟨l⟩)
  | some (.array _ e) => ob (size? P e) fun n => ob (fillL (fun i => some (i * n, n)) parts z) fun l => some (.agg ⟨l⟩)
  | _ => none
noncomputable def pBuild (P : Program) (fr : Fr) (t : TypeId) (parts : Array (Nat × Operand)) : Option Value :=
  ob (zero? P t) fun z => ob (evs fr (parts.toList.map (·.2))) fun vs => buildV P t (cellsL z) ((parts.toList.map (·.1)).zip vs)
def nonNil (v : Value) : Option Value := match v with
  | .pointer (some a) => some (.pointer (some a))
  | .func (.func f) a b => some (.func (.func f) a b)
  | .iface t v => some (.iface t v)
  | _ => none
noncomputable def pNilCheck (fr : Fr) (x : Operand) : Option Value := ob (ev fr x) nonNil
noncomputable def pBin (P : Program) (fr : Fr) (o : Oper) (b : BinOp) (t : TypeId) (x y : Operand) : Option Value := ob (ev fr x) fun a => ob (ev fr y) fun c => binV P fr o b t a c
noncomputable def pFlat (P : Program) (fr : Fr) (o : Oper) (x : Operand) : Option Value := ob (ev fr x) fun a => bb (flat a) (flatV P fr o)
def concrete (d : Option TypeDesc) : Bool := match d with
  | some (.interface _) => false
  | some _ => true
  | none => false
noncomputable def pIface (P : Program) (fr : Fr) (t : TypeId) (x : Operand) : Option Value := ob (ev fr x) fun v => bb (concrete (P.underlying t)) (some (.iface t v))
def noYield (fn : Fn) : Bool := match fn with
  | .func _ => true
  | _ => false
noncomputable def pFunc (fr : Fr) (fn : Fn) (fs cs : Array Operand) : Option Value := ob (evs fr fs.toList) fun a => ob (evs fr cs.toList) fun b => bb (noYield fn) (some (.func fn ⟨a⟩ ⟨b⟩))
noncomputable def evO (fr : Fr) (x : Option Operand) : Option (Option Value) := match x with
  | some o => ob (ev fr o) fun v => some (some v)
  | none => some none
noncomputable def sliceStr (s : ByteArray) (b : Option (Nat × Nat)) : Option Value := ob b fun p => pr p fun lo hi => ob (sub s.data.toList lo (hi - lo)) fun l => some (.string ⟨l.toArray⟩)
noncomputable def sliceAt (n : Nat) (a : Option Addr) (lo hi cap : Nat) : Option Value := match a with
  | some ⟨b, off, none⟩ => some (.slice (some ⟨b, off + lo * n, none⟩) (hi - lo) (cap - lo))
  | some ⟨b, off, some s⟩ => bb (Nat.beq s n) (some (.slice (some ⟨b, off + lo * n, some s⟩) (hi - lo) (cap - lo)))
  | none => bb (Nat.beq cap 0) (some (.slice none 0 0))
noncomputable def sliceSl (P : Program) (e : TypeId) (a : Option Addr) (cap : Nat) (b : Option (Nat × Nat)) : Option Value :=
  ob b fun p => pr p fun lo hi => ob (size? P e) fun n => sliceAt n a lo hi cap
noncomputable def sliceV (P : Program) (t : TypeId) (v : Value) (lo hi : Option Value) : Option Value := match v with
  | .string s => (match P.underlying t with
    | some .string => sliceStr s (bnds s.data.toList.length s.data.toList.length lo hi)
    | _ => none)
  | .slice a len cap => (match P.underlying t with
    | some (.slice e) => sliceSl P e a cap (bnds len cap lo hi)
    | _ => none)
  | .pointer (some ⟨b, off, none⟩) => (match P.underlying t with
    | some (.array m e) => sliceSl P e (some ⟨b, off, none⟩) m (bnds m m lo hi)
    | _ => none)
  | _ => none
noncomputable def pSlice (P : Program) (fr : Fr) (t : TypeId) (x : Operand) (lo hi mx : Option Operand) : Option Value :=
  bb mx.isNone (ob (ev fr x) fun v => ob (evO fr lo) fun lo => ob (evO fr hi) fun hi => sliceV P t v lo hi)
def fieldOf (P : Program) (s : TypeId) (f : Nat) : Option Field := match P.underlying s with
  | some (.struct fs) => fs[f]?
  | _ => none
noncomputable def pFieldAddr (P : Program) (fr : Fr) (s : TypeId) (x : Operand) (f : Nat) : Option Value :=
  ob (ev fr x) fun v => ob (at? v) fun p => pr p fun b off => ob (fieldOf P s f) fun fd => ob (size? P fd.type) fun n => bb (Nat.ble 1 n) (some (.pointer (some ⟨b, off + fd.offset, none⟩)))
def agg? (v : Value) : Option (List Value) := match v with
  | .agg cs => some cs.toList
  | _ => none
noncomputable def pField (P : Program) (fr : Fr) (s : TypeId) (x : Operand) (f : Nat) : Option Value :=
  ob (ev fr x) fun v => ob (agg? v) fun cs => ob (fieldOf P s f) fun fd => partV P fd.type cs fd.offset
noncomputable def evN (fr : Fr) (x : Operand) : Option Nat := ob (ev fr x) nat?
noncomputable def atIx (P : Program) (e : TypeId) (b off i len : Nat) : Option Value := bb (Nat.blt i len) (ob (size? P e) fun n => some (.pointer (some ⟨b, off + i * n, none⟩)))
noncomputable def indexAddrV (P : Program) (t : TypeId) (v : Value) (i : Nat) : Option Value := match v with
  | .slice (some ⟨b, off, _⟩) len _ => ob (elem? P t) fun e => atIx P e b off i len
  | .pointer (some ⟨b, off, none⟩) => (match P.underlying t with
    | some (.array len e) => atIx P e b off i len
    | _ => none)
  | _ => none
noncomputable def pIndexAddr (P : Program) (fr : Fr) (t : TypeId) (x ix : Operand) : Option Value := ob (evN fr ix) fun i => ob (ev fr x) fun v => indexAddrV P t v i
def oneB (l : List UInt8) : Option Value := match l with
  | [b] => some (.int .u8 b.toNat)
  | _ => none
noncomputable def indexV (P : Program) (t : TypeId) (v : Value) (i : Nat) : Option Value := match v with
  | .agg cs => (match P.underlying t with
    | some (.array len e) => bb (Nat.blt i len) (ob (size? P e) fun n => partV P e cs.toList (i * n))
    | _ => none)
  | .string s => (match P.underlying t with
    | some .string => ob (sub s.data.toList i 1) oneB
    | _ => none)
  | _ => none
noncomputable def pIndex (P : Program) (fr : Fr) (t : TypeId) (x ix : Operand) : Option Value := ob (evN fr ix) fun i => ob (ev fr x) fun v => indexV P t v i
def tuple? (v : Value) : Option (List Value) := match v with
  | .tuple cs => some cs.toList
  | _ => none
noncomputable def pExtract (fr : Fr) (t : Operand) (ix : Nat) : Option Value := ob (ev fr t) fun v => ob (tuple? v) fun vs => ob (sub vs ix 1) oneV
def argT (c : Call) : Option TypeId := match c.argTypes.toList with | t :: _ => some t | [] => none
noncomputable def pLen (P : Program) (fr : Fr) (c : Call) : Option Value :=
  ob (evs fr c.args.toList) fun vs => ob (oneV vs) fun x => ob (argT c) fun t => ob (lenV (P.underlying t) x) fun n => some (.int .i64 n)
noncomputable def pMM (fr : Fr) (isMax : Bool) (c : Call) : Option Value :=
  ob (evs fr c.args.toList) fun vs => List.rec (motive := fun _ => Option Value) none (fun x xs _ => mm isMax xs x) vs

/- Operations that make one new block, of cells that values alone determine: the cells, and what the operation gives, of the block's number. -/
def ptrTo (n : Nat) : Value := .pointer (some ⟨n, 0, none⟩)
noncomputable def nAlloc (P : Program) (t : TypeId) : Option (List Value × (Nat → Value)) := ob (zero? P t) fun z => some (cellsL z, ptrTo)
noncomputable def nBox (fr : Fr) (x : Operand) : Option (List Value × (Nat → Value)) := ob (ev fr x) fun v => bi (isTup v) none (some (cellsL v, ptrTo))
noncomputable def nSlice (P : Program) (fr : Fr) (t : TypeId) (len : Nat) (parts : Array (Nat × Operand)) : Option (List Value × (Nat → Value)) :=
  ob (elem? P t) fun e => ob (size? P e) fun m => ob (zero? P e) fun z => ob (evs fr (parts.toList.map (·.2))) fun vs => bb ((cellsL z).length.beq m) (bb (Nat.ble (len * m) 16777216)
    (ob (fillL (fun i => some (i * m, m)) ((parts.toList.map (·.1)).zip vs) (rep (cellsL z) len)) fun l => some (l, fun n => .slice (some ⟨n, 0, none⟩) len len)))
def isByte (d : Option TypeDesc) : Bool := match d with
  | some (.int .u8) => true
  | _ => false
def string? (v : Value) : Option (List UInt8) := match v with
  | .string s => some s.data.toList
  | _ => none
noncomputable def nBytes (P : Program) (fr : Fr) (s d : TypeId) (x : Operand) : Option (List Value × (Nat → Value)) := bb (P.underlying s).isSome <|
  ob (ev fr x) fun v => ob (string? v) fun s => ob (elem? P d) fun e => bb (isByte (P.underlying e)) (some (bytesV s, fun n => .slice (some ⟨n, 0, some 1⟩) s.length s.length))
noncomputable def nMake (P : Program) (fr : Fr) (t : TypeId) (l c : Operand) : Option (List Value × (Nat → Value)) :=
  ob (elem? P t) fun e => ob (P.info? e) fun i => ob (zero? P e) fun z => ob (evN fr l) fun l => ob (evN fr c) fun c => bb (Nat.ble l c) (bb (Nat.ble (c * (i.bytes + 1)) room) (bb ((cellsL z).length.beq i.size)
    (some (rep (cellsL z) c, fun n => .slice (some ⟨n, 0, none⟩) l c))))

/- Operations that read one block: what they give, and which cells. -/
structure RowAt where
  b : Nat
  off : Nat
  n : Nat

noncomputable def span? (P : Program) (t : TypeId) : Option Nat := ob (isAgg? P t) fun g => bi g (size? P t) (some 1)
noncomputable def rLoad (P : Program) (fr : Fr) (σ : St) (t : TypeId) (a : Operand) : Option (Value × RowAt) :=
  ob (ev fr a) fun v => ob (at? v) fun p => pr p fun b off => ob (span? P t) fun n => ob (loadA P σ t b off) fun v => some (v, ⟨b, off, n⟩)
def isStr (d : Option TypeDesc) : Bool := match d with
  | some .string => true
  | _ => false
def rowAt? (v : Value) : Option RowAt := match v with
  | .slice (some ⟨b, off, _⟩) n _ => some ⟨b, off, n⟩
  | _ => none
noncomputable def pra {γ : Type} (p : RowAt) (f : Nat → Nat → Nat → γ) : γ := RowAt.rec (motive := fun _ => γ) f p
noncomputable def rString (P : Program) (fr : Fr) (σ : St) (s d : TypeId) (x : Operand) : Option (Value × RowAt) :=
  ob (ev fr x) fun v => ob (rowAt? v) fun p => pra p fun b off n => ob (elem? P s) fun e => bb (isByte (P.underlying e)) (bb (isStr (P.underlying d))
    (ob (σ.read b off n) fun l => ob (unbytes l) fun l => some (.string ⟨l.toArray⟩, ⟨b, off, n⟩)))

/- Operations that may change memory. -/
noncomputable def eStore (P : Program) (fr : Fr) (σ : St) (t : TypeId) (a v : Operand) : Option (Value × St) :=
  ob (ev fr a) fun a => ob (ev fr v) fun v => ob (storeV P σ t a v) fun σ => some (undefV, σ)
noncomputable def copyV (P : Program) (σ : St) (t : TypeId) (d s : Value) : Option (Value × St) :=
  ob (elem? P t) fun e => ob (size? P e) fun size => ob (rowAt? d) fun p => pra p fun b off dl => ob (srcCells σ size s) fun q => pr q fun n cs => ob (takeN (Nat.min n dl * size) cs) fun cs => ob (σ.write b off cs) fun σ => some (.int .i64 (Nat.min n dl : Nat), σ)
noncomputable def clearV (P : Program) (σ : St) (t : TypeId) (x : Value) : Option (Value × St) :=
  ob (elem? P t) fun e => ob (zero? P e) fun z => ob (rowAt? x) fun p => pra p fun b off n => ob (σ.write b off (rep (cellsL z) n)) fun σ => some (undefV, σ)
def twoV (l : List Value) : Option (Value × Value) := match l with
  | [v, w] => some (v, w)
  | _ => none
def argT2 (c : Call) : Option TypeId := match c.argTypes.toList with | _ :: t :: _ => some t | _ => none
def notInt (d : Option TypeDesc) : Bool := match d with
  | some (.int _) => false
  | some _ => true
  | none => false
noncomputable def eAppend (P : Program) (fr : Fr) (σ : St) (c : Call) : Option (Value × St) :=
  ob (evs fr c.args.toList) fun vs => ob (twoV vs) fun p => pr p fun s x => ob (argT c) fun t => ob (argT2 c) fun t2 => bb (notInt (P.underlying t2)) (appendV P σ t s x)
noncomputable def eCopy (P : Program) (fr : Fr) (σ : St) (c : Call) : Option (Value × St) :=
  ob (evs fr c.args.toList) fun vs => ob (twoV vs) fun p => pr p fun d s => ob (argT c) fun t => copyV P σ t d s
noncomputable def eClear (P : Program) (fr : Fr) (σ : St) (c : Call) : Option (Value × St) :=
  ob (evs fr c.args.toList) fun vs => ob (oneV vs) fun x => ob (argT c) fun t => clearV P σ t x
/-- What is called: a function; the body of a range over a function, by its record's block. -/
inductive Tgt where
  | fn (g : Nat)
  | yld (b : Nat)
structure Fun where
  g : Tgt
  first : List Value
  captured : List Value
def func? (v : Value) : Option Fun := match v with
  | .func (.func g) first captured => some ⟨.fn g, first.toList, captured.toList⟩
  | .func (.yield b) ⟨[]⟩ ⟨[]⟩ => some ⟨.yld b, [], []⟩
  | _ => none

/-- How a call ended: with a value, or with a panic's value. -/
structure CR where
  pan : Bool
  v : Value
  σ : St
abbrev CallT := Tgt → List Value → St → Option CR
noncomputable def eCall (call : CallT) (fr : Fr) (σ : St) (c : Call) (f : Operand) : Option CR :=
  ob (evs fr c.args.toList) fun vs => ob (ev fr f) fun v => ob (func? v) fun f => Fun.rec (motive := fun _ => Option CR) (fun g first captured => call g (first ++ vs ++ captured) σ) f

/- Maps. -/
/-- A key of a map whose keys are strings or integers. -/
def keyOk (d : Option TypeDesc) (k : Value) : Bool := match d with
  | some .string => (match k with
    | .string _ => true
    | _ => false)
  | some (.int i) => (match k with
    | .int j _ => keq i j
    | _ => false)
  | _ => false
noncomputable def ksame (a b : Value) : Option Bool := match a with
  | .string s => (match b with
    | .string t => some (beqL s.data.toList t.data.toList)
    | _ => none)
  | .int k n => (match b with
    | .int l m => bb (keq k l) (some (ieq n m))
    | _ => none)
  | _ => none
/-- The value of a key, if it is there. -/
noncomputable def mget (k : Value) (l : List Value) : Option (Option Value) :=
  (List.rec (motive := fun _ => Option Value → Option (Option Value)) (fun _ => some none)
    (fun x _ ih p => Option.rec (motive := fun _ => Option (Option Value)) (ih (some x)) (fun y => ob (ksame k y) fun s => bi s (some (some x)) (ih none)) p) l : Option Value → Option (Option Value)) none
/-- A key gets a value. -/
noncomputable def mset (k v : Value) (l : List Value) : Option (List Value) :=
  (List.rec (motive := fun _ => Option Value → Option (List Value)) (fun _ => some [k, v])
    (fun x xs ih p => Option.rec (motive := fun _ => Option (List Value)) (ih (some x)) (fun y => ob (ksame k y) fun s => bi s (some (k :: v :: xs)) (ob (ih none) fun r => some (y :: x :: r))) p) l : Option Value → Option (List Value)) none
def map? (v : Value) : Option (Option Nat) := match v with
  | .map a => some a
  | _ => none
def mapT? (P : Program) (t : TypeId) : Option (TypeId × TypeId) := match P.underlying t with
  | some (.map k e) => some (k, e)
  | _ => none
noncomputable def mcells (σ : St) (a : Option Nat) : Option (List Value) := Option.rec (motive := fun _ => Option (List Value)) (some []) (fun b => ob (σ.mblk b) fun B => some B.cells) a
noncomputable def found (P : Program) (e : TypeId) (x : Option Value) : Option (Value × Bool) := Option.rec (motive := fun _ => Option (Value × Bool)) (ob (zero? P e) fun z => some (z, false)) (fun v => some (v, true)) x
noncomputable def eLookup (P : Program) (fr : Fr) (σ : St) (t : TypeId) (x ix : Operand) (ok : Bool) : Option (Value × St) :=
  ob (mapT? P t) fun p => pr p fun kt e => ob (ev fr x) fun v => ob (map? v) fun a => ob (ev fr ix) fun k => bb (keyOk (P.underlying kt) k) (ob (mcells σ a) fun cs => ob (mget k cs) fun r => ob (found P e r) fun r => pr r fun v b => some (bi ok (.tuple ⟨[v, .bool b]⟩) v, σ))
noncomputable def eMapUpdate (P : Program) (fr : Fr) (σ : St) (t : TypeId) (m k x : Operand) : Option (Value × St) :=
  ob (mapT? P t) fun p => pr p fun kt _ => ob (ev fr m) fun v => ob (map? v) fun a => ob a fun b => ob (ev fr k) fun k => bb (keyOk (P.underlying kt) k) (ob (ev fr x) fun x => ob (σ.mblk b) fun B => ob (mset k x B.cells) fun cs => ob (σ.wmap b cs) fun σ => some (undefV, σ))
noncomputable def eMakeMap (_fr : Fr) (σ : St) (r : Option Operand) : Option (Value × St) := bb r.isNone (some (.map (some σ.n), σ.newK [] .map))

/-- What an operation did to memory: nothing that others could notice; it read a block; it may have changed memory; it has panicked. -/
inductive Did where
  | none
  | read (r : RowAt)
  | eff
  | pan

structure Stepped where
  v : Value
  σ : St
  d : Did

noncomputable def asPure (σ : St) (v : Option Value) : Option Stepped := ob v fun v => some ⟨v, σ, .none⟩
noncomputable def asNew (σ : St) (r : Option (List Value × (Nat → Value))) : Option Stepped := ob r fun r => pr r fun cs v => some ⟨v σ.n, σ.new cs, .none⟩
noncomputable def asRead (σ : St) (r : Option (Value × RowAt)) : Option Stepped := ob r fun r => pr r fun v b => some ⟨v, σ, .read b⟩
noncomputable def asEff (r : Option (Value × St)) : Option Stepped := ob r fun r => pr r fun v σ => some ⟨v, σ, .eff⟩

noncomputable def asCall (r : Option CR) : Option Stepped := ob r fun r => CR.rec (motive := fun _ => Option Stepped) (fun p v σ => some ⟨v, σ, bi p .pan .eff⟩) r
noncomputable def ePanic (fr : Fr) (σ : St) (x : Operand) : Option Stepped := ob (ev fr x) fun v => match v with
  | .iface t v => some ⟨.iface t v, σ, .pan⟩
  | _ => none
noncomputable def orS (x y : Option Stepped) : Option Stepped := Option.rec (motive := fun _ => Option Stepped) y (fun v => some v) x

noncomputable def stepB (b : Builtin) : Program → Fr → St → Call → Option Stepped :=
  Builtin.rec (motive := fun _ => Program → Fr → St → Call → Option Stepped)
    (fun P fr σ c => asEff (eAppend P fr σ c))
    (fun _ _ _ _ => none)
    (fun P fr σ c => asEff (eClear P fr σ c))
    (fun _ _ _ _ => none)
    (fun _ _ _ _ => none)
    (fun P fr σ c => asEff (eCopy P fr σ c))
    (fun _ _ _ _ => none)
    (fun _ _ _ _ => none)
    (fun P fr σ c => asPure σ (pLen P fr c))
    (fun _ _ _ _ => none)
    (fun _ fr σ c => asPure σ (pMM fr true c))
    (fun _ fr σ c => asPure σ (pMM fr false c))
    (fun _ _ _ _ => none)
    (fun _ _ _ _ => none)
    (fun _ _ _ _ => none)
    (fun _ _ _ _ => none)
    (fun _ _ _ _ => none)
    (fun _ _ _ _ => none)
    (fun _ _ _ _ => none)
    (fun _ _ _ _ => none)
    (fun _ _ _ _ => none)
    (fun _ _ _ _ => none)
    (fun _ _ _ _ => none)
    (fun _ _ _ _ => none)
    (fun _ _ _ _ => none)
    (fun _ _ _ _ => none) b

noncomputable def stepC (P : Program) (call : CallT) (fr : Fr) (σ : St) (c : Call) : Option Stepped :=
  Callee.rec (motive := fun _ => Option Stepped) (fun f => asCall (eCall call fr σ c f)) (fun _ _ => none) (fun b => stepB b P fr σ c) c.callee

/-- What runs an operation, of a kind. -/
abbrev OpK := Program → CallT → Fr → St → Oper → Option Stepped
noncomputable def stepK (x : Op) : OpK :=
  Op.rec (motive := fun _ => OpK)
    (fun x _ _ fr σ _ => asPure σ (ev fr x))
    (fun x _ _ fr σ _ => asPure σ (ev fr x))
    (fun c a b _ _ fr σ _ => asPure σ (pPick fr c a b))
    (fun t P _ _ σ _ => asNew σ (nAlloc P t))
    (fun _ x _ _ fr σ _ => asNew σ (nBox fr x))
    (fun t parts P _ fr σ _ => asPure σ (pBuild P fr t parts))
    (fun t len parts P _ fr σ _ => asNew σ (nSlice P fr t len parts))
    (fun t m k x P _ fr σ _ => asEff (eMapUpdate P fr σ t m k x))
    (fun t a P _ fr σ _ => asRead σ (rLoad P fr σ t a))
    (fun t a v P _ fr σ _ => asEff (eStore P fr σ t a v))
    (fun _ _ _ _ _ _ => none)
    (fun _ _ _ _ _ _ => none)
    (fun x _ _ fr σ _ => asPure σ (pNilCheck fr x))
    (fun b t x y _ P _ fr σ o => asPure σ (pBin P fr o b t x y))
    (fun _ _ x P _ fr σ o => asPure σ (pFlat P fr o x))
    (fun s d x P _ fr σ o => orS (asNew σ (nBytes P fr s d x)) (orS (asRead σ (rString P fr σ s d x)) (asPure σ (pFlat P fr o x))))
    (fun _ _ _ _ _ _ _ => none)
    (fun t x P _ fr σ _ => asPure σ (pIface P fr t x))
    (fun fn fs cs _ _ fr σ _ => asPure σ (pFunc fr fn fs cs))
    (fun _ r _ _ fr σ _ => asEff (eMakeMap fr σ r))
    (fun _ _ _ _ _ _ _ => none)
    (fun t l c P _ fr σ _ => asNew σ (nMake P fr t l c))
    (fun t x lo hi mx P _ fr σ _ => asPure σ (pSlice P fr t x lo hi mx))
    (fun s x f P _ fr σ _ => asPure σ (pFieldAddr P fr s x f))
    (fun s x f P _ fr σ _ => asPure σ (pField P fr s x f))
    (fun t x ix P _ fr σ _ => asPure σ (pIndexAddr P fr t x ix))
    (fun t x ix P _ fr σ _ => asPure σ (pIndex P fr t x ix))
    (fun t x ix ok P _ fr σ _ => asEff (eLookup P fr σ t x ix ok))
    (fun t m k x P _ fr σ _ => asEff (eMapUpdate P fr σ t m k x))
    (fun _ _ _ _ _ _ _ _ => none)
    (fun _ _ _ _ _ _ _ _ _ => none)
    (fun _ _ _ _ _ _ _ => none)
    (fun _ _ _ _ _ _ _ => none)
    (fun _ _ _ _ _ _ => none)
    (fun _ _ _ _ _ _ _ _ _ => none)
    (fun t ix _ _ fr σ _ => asPure σ (pExtract fr t ix))
    (fun c P call fr σ _ => stepC P call fr σ c)
    (fun _ _ _ _ _ _ => none)
    (fun _ _ _ _ _ _ => none)
    (fun x _ _ fr σ _ => ePanic fr σ x)
    (fun _ _ _ _ _ _ _ => none)
    (fun _ _ _ _ _ _ _ _ => none)
    (fun _ _ _ _ _ _ _ => none) x

noncomputable def step (P : Program) (call : CallT) (fr : Fr) (σ : St) (o : Oper) : Option Stepped := stepK o.op P call fr σ o

def yieldOf (want : Bool) (v : Value) : Bool := match v with
  | .bool b => (match want with | true => b | false => !b)
  | _ => false
def dstOf (all : Array Oper) (j : Nat) : Option Tmp := match all[j]? with
  | some p => p.dst
  | none => none
noncomputable def wantsV (all : Array Oper) (fr : Fr) (o : Oper) : Option Bool :=
  Option.rec (motive := fun _ => Option Bool) (some true) (fun g => pr g fun j want => Option.rec (motive := fun _ => Option Bool) (some false) (fun d => ob (fr.get d) fun v => some (yieldOf want v)) (dstOf all j)) o.guard

noncomputable def putV (fr : Fr) (d : Option Tmp) (v : Value) : Fr := Option.rec (motive := fun _ => Fr) fr (fun d => fr.set d v) d

structure Res where
  o : Out
  fr : Fr
  σ : St

/-- What follows an operation that has not panicked. -/
noncomputable def onDid {β : Type} (d : Did) (x y : β) : β := Did.rec (motive := fun _ => β) x (fun _ => x) x y d

/-- The operations of a region, in the order of the text. -/
noncomputable def opsV (P : Program) (call : CallT) (all : Array Oper) (l : List Oper) : Fr → St → Option Res :=
  List.rec (motive := fun _ => Fr → St → Option Res) (fun fr σ => some ⟨.normal, fr, σ⟩)
  (fun o _ ih fr σ => ob (wantsV all fr o) fun c => bi c (ob (step P call fr σ o) fun r => Stepped.rec (motive := fun _ => Option Res) (fun v σ d => onDid d (ih (putV fr o.dst v) σ) (some ⟨.pan v, fr, σ⟩)) r) (ih (putV fr o.dst undefV) σ)) l

/-- What an operation of a region that draws its order did: it read a block; it changed memory from one state to another. -/
inductive Trace where
  | read (i : Nat) (r : RowAt)
  | eff (i : Nat) (pre post : St)

def traced (i : Nat) (σ σ' : St) (d : Did) (ds : List Trace) : List Trace := match d with
  | .none => ds
  | .read b => .read i b :: ds
  | .eff => .eff i σ σ' :: ds
  | .pan => ds

structure FST where
  fr : Fr
  σ : St
  ds : List Trace

noncomputable def opsD (P : Program) (call : CallT) (all : Array Oper) (l : List Oper) : Nat → Fr → St → List Trace → Option FST :=
  List.rec (motive := fun _ => Nat → Fr → St → List Trace → Option FST) (fun _ fr σ ds => some ⟨fr, σ, ds⟩)
  (fun o _ ih i fr σ ds => ob (wantsV all fr o) fun c => bi c (ob (step P call fr σ o) fun r => Stepped.rec (motive := fun _ => Option FST) (fun v σ' d => onDid d (ih (i + 1) (putV fr o.dst v) σ' (traced i σ σ' d ds)) none) r)
    (ih (i + 1) (putV fr o.dst undefV) σ ds)) l

/-- Are two operations of a region ordered, whichever way? -/
noncomputable def ordered (b : List Nat) (i j : Nat) : Bool := bi (Nat.testBit (b.getD j 0) i) true (Nat.testBit (b.getD i 0) j)

/-- Are two cells the same? -/
noncomputable def veq (v w : Value) : Bool := match v with
  | .bool b => (match w with
    | .bool c => bi b c (bi c false true)
    | _ => false)
  | .int k n => (match w with
    | .int l m => bi (keq k l) (ieq n m) false
    | _ => false)
  | .string s => (match w with
    | .string t => beqL s.data.toList t.data.toList
    | _ => false)
  | .pointer none => (match w with
    | .pointer none => true
    | _ => false)
  | .pointer (some ⟨b, o, none⟩) => (match w with
    | .pointer (some ⟨c, p, none⟩) => bi (Nat.beq b c) (Nat.beq o p) false
    | _ => false)
  | .slice none n k => (match w with
    | .slice none m l => bi (Nat.beq n m) (Nat.beq k l) false
    | _ => false)
  | .slice (some ⟨b, o, none⟩) n k => (match w with
    | .slice (some ⟨c, p, none⟩) m l => bi (Nat.beq b c) (bi (Nat.beq o p) (bi (Nat.beq n m) (Nat.beq k l) false) false) false
    | _ => false)
  | .slice (some ⟨b, o, some s⟩) n k => (match w with
    | .slice (some ⟨c, p, some t⟩) m l => bi (Nat.beq b c) (bi (Nat.beq o p) (bi (Nat.beq s t) (bi (Nat.beq n m) (Nat.beq k l) false) false) false) false
    | _ => false)
  | .map none => (match w with
    | .map none => true
    | _ => false)
  | .map (some b) => (match w with
    | .map (some c) => Nat.beq b c
    | _ => false)
  | _ => false
noncomputable def veqL (l : List Value) : List Value → Bool :=
  List.rec (motive := fun _ => List Value → Bool) (fun k => List.rec (motive := fun _ => Bool) true (fun _ _ _ => false) k)
    (fun x _ ih k => List.rec (motive := fun _ => Bool) false (fun y ys _ => bi (veq x y) (ih ys) false) k) l
noncomputable def sameRow (x y : Option (List Value)) : Bool :=
  Option.rec (motive := fun _ => Bool) false (fun l => Option.rec (motive := fun _ => Bool) false (fun k => veqL l k) y) x

/-- Are the cells that an operation read the same before and after what another one did? -/
noncomputable def sameVer (bs : List Nat) (i : Nat) (r : RowAt) (d : Trace) : Bool := match d with
  | .eff j pre post => bi (ordered bs i j) true (bi (Nat.blt r.b pre.n) (bi (Nat.beq (pre.ver r.b) (post.ver r.b)) true (sameRow (pre.read r.b r.off r.n) (post.read r.b r.off r.n))) true)
  | .read .. => true

noncomputable def allSame (bs : List Nat) (i : Nat) (r : RowAt) : List Trace → Bool
  | [] => true
  | d :: ds => bi (sameVer bs i r d) (allSame bs i r ds) false

noncomputable def readsOk (bs : List Nat) (all : List Trace) : List Trace → Bool
  | [] => true
  | d :: ds => (match d with
    | .read i r => bi (allSame bs i r all) (readsOk bs all ds) false
    | .eff .. => readsOk bs all ds)

noncomputable def drawn (os : Array Oper) (r : Option FST) : Option Res :=
  ob r fun r => FST.rec (motive := fun _ => Option Res) (fun fr σ ds => bb (readsOk (Region.before os).toList ds ds) (some ⟨.normal, fr, σ⟩)) r
noncomputable def initFr (l : List Value) : Nat → Fr → Fr :=
  List.rec (motive := fun _ => Nat → Fr → Fr) (fun _ fr => fr) (fun v _ ih k fr => ih (k + 1) (fr.set k v)) l

noncomputable def res1 (P : Program) (fr : Fr) (σ : St) (r : ResultVar) : Option Value := match r with
  | .tmp t => fr.get t
  | .cell a t => ob (fr.get a) fun p => loadV P σ t p
noncomputable def resL (P : Program) (fr : Fr) (σ : St) (l : List ResultVar) : Option (List Value) :=
  List.rec (motive := fun _ => Option (List Value)) (some []) (fun r _ ih => ob (res1 P fr σ r) fun v => ob ih fun vs => some (v :: vs)) l

def tup (l : List Value) : Value := match l with
  | [v] => v
  | vs => .tuple ⟨vs⟩
/-- Summaries of functions: what a call of them gives. -/
abbrev Sums := Nat → Option (List Value → St → Option CR)
/-- What runs a piece of code, in a round of a range over a function (by the record's block) or not. -/
abbrev RunT := Option Nat → Code → Fr → St → Option Res

noncomputable def bodyEnd (P : Program) (fn : Func) (r : Res) : Option CR :=
  Res.rec (motive := fun _ => Option CR) (fun o fr σ => Out.rec (motive := fun _ => Option CR)
    (ob (resL P fr σ fn.results.toList) fun vs => some ⟨false, tup vs, σ⟩) (fun _ => none) (ob (resL P fr σ fn.results.toList) fun vs => some ⟨false, tup vs, σ⟩) (fun v => some ⟨true, v, σ⟩) o) r
noncomputable def runBody (P : Program) (run : RunT) (fn : Func) (body : Code) (vs : List Value) (σ : St) : Option CR :=
  ob (run none body (initFr vs 0 .nil) σ) (bodyEnd P fn)
/-- A call of a function: by a summary, where there is one; else of the function's own text. -/
noncomputable def callG (P : Program) (H : Sums) (run : RunT) (g : Nat) (vs : List Value) (σ : St) : Option CR :=
  Option.rec (motive := fun _ => Option CR)
    (ob (P.funcs[g]?) fun fn => Option.rec (motive := fun _ => Option CR)
      (bb (flats vs) (ob (nextV (pureRun P (callFunc g vs.toArray))) fun v => bb (outOk v) (some ⟨false, v, σ⟩)))
      (fun body => runBody P run fn body vs σ) fn.body)
    (fun s => s vs σ) (H g)

structure LoopV where
  fr : Fr
  ps : List Nat
  assign : Code
  body : Code
  st : LoopState
  pend : Option Code
noncomputable def St.lblk (σ : St) (b : Nat) : Option LoopV := ob (σ.blk b) fun B => bb B.own (Kind.rec (motive := fun _ => Option LoopV) none none (fun fr ps as bd st pend => some ⟨fr, ps, as, bd, st, pend⟩) B.kind)
noncomputable def setAll (ps : List Nat) : List Value → Fr → Option Fr :=
  List.rec (motive := fun _ => List Value → Fr → Option Fr) (fun vs fr => List.rec (motive := fun _ => Option Fr) (some fr) (fun _ _ _ => none) vs)
    (fun p _ ih vs fr => List.rec (motive := fun _ => Option Fr) none (fun v vs _ => ih vs (fr.set p v)) vs) ps
def isReady (s : LoopState) : Bool := match s with
  | .ready => true
  | _ => false
def isBusy (s : LoopState) : Bool := match s with
  | .busy => true
  | _ => false
noncomputable def normalO {β : Type} (o : Out) (x : Option β) : Option β := Out.rec (motive := fun _ => Option β) x (fun _ => none) none (fun _ => none) o
/-- How a round was left: what the loop's statement will do at its end; a panic is not taken. -/
noncomputable def roundEnd (b : Nat) (r : Res) : Option CR :=
  Res.rec (motive := fun _ => Option CR) (fun o _ σ => Out.rec (motive := fun _ => Option CR)
    (ob (σ.wloop b .ready none) fun σ => some ⟨false, .bool true, σ⟩)
    (fun i => ob (σ.wloop b .done (some (.exit i))) fun σ => some ⟨false, .bool false, σ⟩)
    (ob (σ.wloop b .done (some .ret)) fun σ => some ⟨false, .bool false, σ⟩) (fun _ => none) o) r
/-- A round of a range over a function. -/
noncomputable def callY (run : RunT) (b : Nat) (vs : List Value) (σ : St) : Option CR :=
  ob (σ.lblk b) fun L => LoopV.rec (motive := fun _ => Option CR) (fun fr ps assign body st _ => bb (isReady st) (ob (setAll ps vs fr) fun fr => ob (run (some b) assign fr σ) fun r =>
    Res.rec (motive := fun _ => Option CR) (fun o fr σ => normalO o (ob (σ.lblk b) fun L => LoopV.rec (motive := fun _ => Option CR) (fun _ _ _ _ st pend => bb (isReady st) (ob (σ.wloop b .busy pend) fun σ => ob (run (some b) body fr σ) (roundEnd b))) L)) r)) L
noncomputable def callF (P : Program) (H : Sums) (run : RunT) (t : Tgt) (vs : List Value) (σ : St) : Option CR :=
  Tgt.rec (motive := fun _ => Option CR) (fun g => callG P H run g vs σ) (fun b => callY run b vs σ) t

/-- What the end of a piece of code leads to. -/
noncomputable def onNormal (r : Res) (next : Fr → St → Option Res) : Option Res :=
  Res.rec (motive := fun _ => Option Res) (fun o fr σ => Out.rec (motive := fun _ => Option Res) (next fr σ) (fun i => some ⟨.exit i, fr, σ⟩) (some ⟨.ret, fr, σ⟩) (fun v => some ⟨.pan v, fr, σ⟩) o) r
noncomputable def onExit (id : Nat) (r : Res) : Option Res :=
  Res.rec (motive := fun _ => Option Res) (fun o fr σ => Out.rec (motive := fun _ => Option Res) (some ⟨.normal, fr, σ⟩) (fun i => bi (Nat.beq i id) (some ⟨.normal, fr, σ⟩) (some ⟨.exit i, fr, σ⟩)) (some ⟨.ret, fr, σ⟩) (fun v => some ⟨.pan v, fr, σ⟩) o) r
/-- Is a record's block there, if one is named? -/
noncomputable def roundIs (σ : St) (rd : Option Nat) : Bool := Option.rec (motive := fun _ => Bool) true (fun b => (σ.lblk b).isSome) rd
def outOf (c : Option Code) : Option Out := match c with
  | none => some .normal
  | some .ret => some .ret
  | some (.exit i) => some (.exit i)
  | _ => none
/-- The end of a range over a function. -/
noncomputable def loopEnd (b : Nat) (fr : Fr) (r : CR) : Option Res :=
  CR.rec (motive := fun _ => Option Res) (fun p _ σ => bi p none (ob (σ.lblk b) fun L => LoopV.rec (motive := fun _ => Option Res) (fun _ _ _ _ st pend => bi (isBusy st) none (ob (σ.wloop b .exhausted pend) fun σ => ob (outOf pend) fun o => some ⟨o, fr, σ⟩)) L)) r
def tgtFn (t : Tgt) : Option Nat := match t with
  | .fn g => some g
  | .yld _ => none
def hasBody (P : Program) (g : Nat) : Bool := match P.funcs[g]? with
  | some fn => fn.body.isSome
  | none => false
noncomputable def rangeV (P : Program) (call : CallT) (rd : Option Nat) (f : Operand) (ps : List Nat) (assign body : Code) (fr : Fr) (σ : St) : Option Res :=
  bb (roundIs σ rd) (ob (ev fr f) fun v => ob (func? v) fun f => Fun.rec (motive := fun _ => Option Res) (fun t first captured => ob (tgtFn t) fun g => bb (hasBody P g) <|
    ob (call (.fn g) (first ++ [.func (.yield σ.n) #[] #[]] ++ captured) (σ.newK [] (.loop fr ps assign body .ready none))) (loopEnd σ.n fr)) f)

/-- What runs a piece of code, of a kind. -/
abbrev CodeK := Program → Sums → RunT → Option Nat → Fr → St → Option Res
noncomputable def execK (c : Code) : CodeK :=
  Code.rec (motive := fun _ => CodeK)
    (fun _ _ _ _ fr σ => some ⟨.normal, fr, σ⟩)
    (fun _ os draw P H ih _ fr σ => bi draw (drawn os (opsD P (callF P H ih) os os.toList 0 fr σ [])) (opsV P (callF P H ih) os os.toList fr σ))
    (fun a b _ _ _ _ ih rd fr σ => ob (ih rd a fr σ) fun r => onNormal r (ih rd b))
    (fun c a b _ _ _ _ ih rd fr σ => ob (ev fr c) fun v => ob (bool? v) fun t => bi t (ih rd a fr σ) (ih rd b fr σ))
    (fun id c _ _ _ ih rd fr σ => ob (ih rd c fr σ) (onExit id))
    (fun c _ _ _ ih rd fr σ => ob (ih rd c fr σ) fun r => onNormal r (ih rd (.loop c)))
    (fun f ps assign body _ _ P H ih rd fr σ => rangeV P (callF P H ih) rd f ps.toList assign body fr σ)
    (fun id _ _ _ _ fr σ => some ⟨.exit id, fr, σ⟩)
    (fun c _ _ _ ih rd fr σ => ih rd c fr σ)
    (fun _ _ _ _ _ fr σ => some ⟨.normal, fr, σ⟩)
    (fun _ _ _ _ _ _ _ => none)
    (fun _ _ _ _ fr σ => some ⟨.ret, fr, σ⟩)
    (fun _ _ _ _ _ _ _ => none) c
noncomputable def exec1 (P : Program) (H : Sums) (ih : RunT) (rd : Option Nat) (c : Code) (fr : Fr) (σ : St) : Option Res := execK c P H ih rd fr σ

noncomputable def exec (P : Program) (H : Sums) (f : Nat) : RunT :=
  Nat.rec (motive := fun _ => RunT) (fun _ _ _ _ => none) (fun _ ih => exec1 P H ih) f

noncomputable def call (P : Program) (H : Sums) (f : Nat) (g : Nat) (vs : List Value) (σ : St) : Option CR := callG P H (exec P H f) g vs σ

end Go.Ab
