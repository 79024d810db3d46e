/- Defines an abstract machine for the model's code: slices grow into new blocks, statements run in the order of the text, and whatever is not covered has no result. -/
import Derived.Orders
import Derived.Laws.Sem
import Derived.Laws.Cells
import Derived.Laws.World
import Derived.Laws.Strings
set_option linter.unusedSimpArgs false
set_option linter.unusedVariables false
namespace Go.Ab
open Go

/-- Go on with a value, if there is one. -/
noncomputable def ob {α β : Type} (x : Option α) (f : α → Option β) : Option β := Option.rec (motive := fun _ => Option β) none f x
/-- Go on, if a test holds. -/
noncomputable def bb {β : Type} (c : Bool) (x : Option β) : Option β := Bool.rec (motive := fun _ => Option β) none x c
/-- One of two, by a test. -/
noncomputable def bi {β : Type} (c : Bool) (x y : β) : β := Bool.rec (motive := fun _ => β) y x c

/-- The two parts of a pair. -/
noncomputable def pr {α β γ : Type} (p : α × β) (f : α → β → γ) : γ := Prod.rec (motive := fun _ => γ) f p

inductive Tr (α : Type) where
  | nil
  | node (l : Tr α) (v : Option α) (r : Tr α)

noncomputable def Tr.get {α : Type} (t : Tr α) : Nat → Option α :=
  Tr.rec (motive := fun _ => Nat → Option α) (fun _ => none)
    (fun _ v _ gl gr n => Nat.rec (motive := fun _ => Option α) v (fun m _ => Nat.rec (motive := fun _ => Option α) (gl (m / 2)) (fun _ _ => gr (m / 2)) (m % 2)) n) t

noncomputable def Tr.one {α : Type} (f : Nat) : Nat → α → Tr α :=
  Nat.rec (motive := fun _ => Nat → α → Tr α) (fun _ _ => .nil)
    (fun _ ih n a => Nat.rec (motive := fun _ => Tr α) (.node .nil (some a) .nil) (fun m _ => Nat.rec (motive := fun _ => Tr α) (.node (ih (m / 2) a) none .nil) (fun _ _ => .node .nil none (ih (m / 2) a)) (m % 2)) n) f

noncomputable def Tr.set {α : Type} (t : Tr α) : Nat → α → Tr α :=
  Tr.rec (motive := fun _ => Nat → α → Tr α) (fun n a => Tr.one (n + 1) n a)
    (fun l v r sl sr n a => Nat.rec (motive := fun _ => Tr α) (.node l (some a) r) (fun m _ => Nat.rec (motive := fun _ => Tr α) (.node (sl (m / 2) a) v r) (fun _ _ => .node l v (sr (m / 2) a)) (m % 2)) n) t

/-- What a block holds: a row of cells; a map, as a row of keys and values by turns; the record of a range over a function: the frame that its rounds begin with, its variables, its code, its state, and how a round left it. -/
inductive Kind where
  | row (t : Option TypeId)
  | map
  | loop (fr : Tr Value) (ps : List Nat) (assign body : Code) (st : LoopState) (pend : Option Code)

structure Blk where
  cells : List Value
  live : Bool
  own : Bool
  ver : Nat
  kind : Kind

structure St where
  h : Tr Blk
  n : Nat

inductive Out where
  | normal | exit (id : Nat) | ret | pan (v : Value)

noncomputable def St.newK (σ : St) (cs : List Value) (k : Kind) : St := ⟨σ.h.set σ.n ⟨cs, true, true, 0, k⟩, σ.n + 1⟩
noncomputable def St.new (σ : St) (cs : List Value) (t : Option TypeId := none) : St := σ.newK cs (.row t)

noncomputable def St.blk (σ : St) (b : Nat) : Option Blk := ob (σ.h.get b) fun B => bb B.live (some B)

/-- A block that is a row of cells. -/
noncomputable def St.rblk (σ : St) (b : Nat) : Option Blk := ob (σ.blk b) fun B => Kind.rec (motive := fun _ => Option Blk) (fun _ => some B) none (fun _ _ _ _ _ _ => none) B.kind
/-- A block that is a map: its cells. -/
noncomputable def St.mblk (σ : St) (b : Nat) : Option Blk := ob (σ.blk b) fun B => Kind.rec (motive := fun _ => Option Blk) (fun _ => none) (some B) (fun _ _ _ _ _ _ => none) B.kind

noncomputable def St.ver (σ : St) (b : Nat) : Nat := match σ.h.get b with
  | some B => B.ver
  | none => 0

noncomputable def takeN {α : Type} (n : Nat) : List α → Option (List α) :=
  Nat.rec (motive := fun _ => List α → Option (List α)) (fun _ => some [])
    (fun _ ih l => List.rec (motive := fun _ => Option (List α)) none (fun x xs _ => ob (ih xs) fun r => some (x :: r)) l) n

noncomputable def dropN {α : Type} (n : Nat) : List α → Option (List α) :=
  Nat.rec (motive := fun _ => List α → Option (List α)) (fun l => some l)
    (fun _ ih l => List.rec (motive := fun _ => Option (List α)) none (fun _ xs _ => ih xs) l) n

noncomputable def sub {α : Type} (cs : List α) (off n : Nat) : Option (List α) := ob (dropN off cs) fun l => takeN n l

/-- A list with others in the place of its first elements. -/
noncomputable def over {α : Type} (new : List α) : List α → Option (List α) :=
  List.rec (motive := fun _ => List α → Option (List α)) (fun l => some l)
    (fun v _ ih l => List.rec (motive := fun _ => Option (List α)) none (fun _ xs _ => ob (ih xs) fun r => some (v :: r)) l) new

noncomputable def splice {α : Type} (cs : List α) (off : Nat) (new : List α) : Option (List α) :=
  (Nat.rec (motive := fun _ => List α → Option (List α)) (fun l => over new l)
    (fun _ ih l => List.rec (motive := fun _ => Option (List α)) none (fun x xs _ => ob (ih xs) fun r => some (x :: r)) l) off : List α → Option (List α)) cs

noncomputable def St.read (σ : St) (b off n : Nat) : Option (List Value) := ob (σ.rblk b) fun B => sub B.cells off n
noncomputable def St.write (σ : St) (b off : Nat) (vs : List Value) : Option St := ob (σ.rblk b) fun B => bb B.own (ob (splice B.cells off vs) fun cs => some ⟨σ.h.set b ⟨cs, true, true, B.ver + 1, B.kind⟩, σ.n⟩)
noncomputable def St.kill (σ : St) (b : Nat) : Option St := ob (σ.rblk b) fun B => bb B.own (some ⟨σ.h.set b ⟨[], false, true, B.ver + 1, .row none⟩, σ.n⟩)
/-- A map's cells, anew. -/
noncomputable def St.wmap (σ : St) (b : Nat) (cs : List Value) : Option St := ob (σ.mblk b) fun B => bb B.own (some ⟨σ.h.set b ⟨cs, true, true, B.ver + 1, .map⟩, σ.n⟩)
/-- A loop's state, anew. -/
noncomputable def St.wloop (σ : St) (b : Nat) (st : LoopState) (pend : Option Code) : Option St := ob (σ.blk b) fun B => bb B.own (Kind.rec (motive := fun _ => Option St) (fun _ => none) none (fun fr ps as bd _ _ => some ⟨σ.h.set b ⟨[], true, true, B.ver + 1, .loop fr ps as bd st pend⟩, σ.n⟩) B.kind)

def cellsL (v : Value) : List Value := match v with | .agg cs => cs.toList | v => [v]

def undefV : Value := .tuple #[]

/-- A value of one cell. -/
def isCell (v : Value) : Bool := match v with
  | .agg _ => false
  | .tuple _ => false
  | _ => true
def isTup (v : Value) : Bool := match v with
  | .tuple _ => true
  | _ => false
/-- A value of one cell that holds no address. -/
def scal (v : Value) : Bool := match v with
  | .bool _ | .int .. | .string _ | .float .. | .complex .. | .nilFunc | .nilIface => true
  | .pointer none | .map none | .chan none | .slice none 0 0 => true
  | _ => false
noncomputable def allScal (l : List Value) : Bool := List.rec (motive := fun _ => Bool) true (fun v _ ih => bi (scal v) ih false) l
/-- A constant of the text, or a zero value. -/
noncomputable def cstOk (v : Value) : Bool := match v with
  | .agg ⟨l⟩ => allScal l
  | v => scal v
/-- What a function without a body gives. -/
noncomputable def outOk (v : Value) : Bool := match v with
  | .tuple ⟨l⟩ => allScal l
  | v => cstOk v
noncomputable def cst (v : Value) : Option Value := bb (cstOk v) (some v)

def pureRun {α : Type} (p : Program) : Sem α → Option α
  | .pure a => some a
  | .program k => pureRun p (k p)
  | .mark _ k => pureRun p k
  | _ => none

mutual
def flat : Value → Bool
  | .bool _ | .int .. | .string _ | .float .. | .complex .. | .nilFunc | .nilIface => true
  | .pointer a => a.isNone
  | .map a => a.isNone
  | .chan a => a.isNone
  | .agg cs => flatA cs
  | .tuple cs => flatA cs
  | .iface _ v => flat v
  | .slice none 0 0 => true
  | .slice .. | .func .. => false
def flatA : Array Value → Bool
  | ⟨l⟩ => flats l
def flats : List Value → Bool
  | [] => true
  | v :: vs => (match flat v with | true => flats vs | false => false)
end

abbrev Fr := Tr Value
noncomputable def ev (fr : Fr) (x : Operand) : Option Value :=
  Operand.rec (motive := fun _ => Option Value) (fun t => fr.get t) cst (fun g => some (.pointer (some ⟨g, 0, none⟩))) (fun f => some (.func (.func f) #[] #[])) x

noncomputable def evs (fr : Fr) (l : List Operand) : Option (List Value) :=
  List.rec (motive := fun _ => Option (List Value)) (some []) (fun o _ ih => ob (ev fr o) fun v => ob ih fun vs => some (v :: vs)) l

def size? (P : Program) (t : TypeId) : Option Nat := match P.info? t with | some i => some i.size | none => none
def aggOf : TypeDesc → Bool
  | .struct _ | .array _ _ => true
  | _ => false
def isAgg? (P : Program) (t : TypeId) : Option Bool := match P.underlying t with
  | some d => some (aggOf d)
  | none => none
def oneV (l : List Value) : Option Value := match l with
  | [v] => some v
  | _ => none
noncomputable def loadA (P : Program) (σ : St) (t : TypeId) (b off : Nat) : Option Value :=
  ob (isAgg? P t) fun g => bi g (ob (size? P t) fun n => ob (σ.read b off n) fun cs => some (.agg ⟨cs⟩)) (ob (σ.read b off 1) oneV)
/-- The block and the offset of an address. -/
def at? (v : Value) : Option (Nat × Nat) := match v with
  | .pointer (some ⟨b, off, none⟩) => some (b, off)
  | _ => none
noncomputable def loadV (P : Program) (σ : St) (t : TypeId) (a : Value) : Option Value := ob (at? a) fun p => pr p fun b off => loadA P σ t b off
noncomputable def storeV (P : Program) (σ : St) (t : TypeId) (a v : Value) : Option St :=
  ob (at? a) fun p => pr p fun b off => ob (size? P t) fun n => bi (isTup v) none (bb ((cellsL v).length.beq n) (σ.write b off (cellsL v)))
noncomputable def zero? (P : Program) (t : TypeId) : Option Value := ob (P.info? t) fun i => ob i.zero cst
noncomputable def partV (P : Program) (t : TypeId) (cs : List Value) (off : Nat) : Option Value :=
  ob (isAgg? P t) fun g => bi g (ob (size? P t) fun n => ob (sub cs off n) fun l => some (.agg ⟨l⟩)) (ob (sub cs off 1) oneV)

def nat? (v : Value) : Option Nat := match v with
  | .int _ (.ofNat n) => some n
  | _ => none

def hiOf (dl : Nat) (hi : Option Value) : Option Nat := match hi with | some v => nat? v | none => some dl
noncomputable def bnds (dl cap : Nat) (lo hi : Option Value) : Option (Nat × Nat) :=
  ob (hiOf dl hi) fun h => bb (h.ble cap) (ob (hiOf 0 lo) fun l => bb (l.ble h) (some (l, h)))

noncomputable def rep {α : Type} (l : List α) (n : Nat) : List α := Nat.rec (motive := fun _ => List α) [] (fun _ ih => l ++ ih) n

noncomputable def fillL (place : Nat → Option (Nat × Nat)) (parts : List (Nat × Value)) : List Value → Option (List Value) :=
  List.rec (motive := fun _ => List Value → Option (List Value)) (fun cells => some cells)
    (fun p _ ih cells => pr p fun i v => ob (place i) fun q => pr q fun off n => bi (isTup v) none (bb ((cellsL v).length.beq n) (ob (splice cells off (cellsL v)) ih))) parts

def bytesV (s : List UInt8) : List Value := s.map fun b => .int .u8 b.toNat
def byte? (v : Value) : Option UInt8 := match v with
  | .int .u8 n => some (UInt8.ofNat n.toNat)
  | _ => none
noncomputable def unbytes (l : List Value) : Option (List UInt8) :=
  List.rec (motive := fun _ => Option (List UInt8)) (some []) (fun v _ ih => ob (byte? v) fun b => ob ih fun bs => some (b :: bs)) l

noncomputable def srcCells (σ : St) (size : Nat) (v : Value) : Option (Nat × List Value) := match v with
  | .slice none n _ => bb (n.beq 0) (some (0, []))
  | .slice (some ⟨b, off, _⟩) n _ => ob (σ.read b off (n * size)) fun cs => some (n, cs)
  | .string s => bb (Nat.beq size 1) (some (s.data.toList.length, bytesV s.data.toList))
  | _ => none

def elem? (P : Program) (t : TypeId) : Option TypeId := match P.underlying t with | some (.slice e) => some e | _ => none

/-- No row that the machine makes or grows has more cells or bytes than this. -/
def room : Nat := 4294967296

noncomputable def appendIn (σ : St) (size : Nat) (base : Option Addr) (len cap n : Nat) (new : List Value) : Option (Value × St) := match base with
  | some ⟨b, off, sp⟩ => ob (σ.write b (off + len * size) new) fun σ => some (.slice (some ⟨b, off, sp⟩) (len + n) cap, σ)
  | none => bb (Nat.beq (len + n + cap) 0) (some (.slice none 0 0, σ))
/-- The type of a row's cells, where it is known. -/
noncomputable def St.typ (σ : St) (b : Nat) : Option TypeId := ob (σ.h.get b) fun B => Kind.rec (motive := fun _ => Option TypeId) (fun t => t) none (fun _ _ _ _ _ _ => none) B.kind
noncomputable def keepT (e : TypeId) (off : Nat) (t : Option TypeId) : Option TypeId := ob t fun x => bb (Nat.beq x e) (bb (Nat.beq off 0) (some e))
/-- A slice that may have more room than is known bears its elements' size in its address; one that has not, bears none. -/
noncomputable def appendNew (e : TypeId) (σ : St) (size : Nat) (base : Option Addr) (len n : Nat) (new : List Value) : Option (Value × St) := match base with
  | none => bb (Nat.beq len 0) (some (.slice (some ⟨σ.n, 0, some size⟩) n n, σ.new new (some e)))
  | some ⟨b, off, none⟩ => ob (σ.read b off (len * size)) fun old => some (.slice (some ⟨σ.n, 0, some size⟩) (len + n) (len + n), σ.new (old ++ new) (some e))
  | some ⟨b, off, some s⟩ => bb (Nat.beq s size) (ob (σ.read b off (len * size)) fun old => ob (σ.kill b) fun σ' => some (.slice (some ⟨σ'.n, 0, some size⟩) (len + n) (len + n), σ'.new (old ++ new) (keepT e off (σ.typ b))))
noncomputable def appendV (P : Program) (σ : St) (t : TypeId) (s x : Value) : Option (Value × St) :=
  ob (elem? P t) fun e => ob (P.info? e) fun i => match s with
    | .slice base len cap => ob (srcCells σ i.size x) fun p => pr p fun n new => bb (Nat.ble 1 i.size) (bi (Nat.ble (len + n) cap)
        (appendIn σ i.size base len cap n new)
        (bb (Nat.ble ((len + n) * (i.bytes + 1)) room) (ob (zero? P e) fun z => bb ((cellsL z).length.beq i.size) (appendNew e σ i.size base len n new))))
    | _ => none

def lenV (d : Option TypeDesc) (v : Value) : Option Nat := match d with
  | some .string => (match v with | .string s => some s.data.toList.length | _ => none)
  | some (.slice _) => (match v with | .slice _ n _ => some n | _ => none)
  | _ => none

def inR (k : IntKind) (n : Int) : Bool := match k, n with
  | .i64, .ofNat m => Nat.blt m 9223372036854775808
  | .i64, .negSucc m => Nat.blt m 9223372036854775808
  | .u8, .ofNat m => Nat.blt m 256
  | .u64, .ofNat m => Nat.blt m 18446744073709551616
  | _, _ => false
noncomputable def wrapF (k : IntKind) (n : Int) : Int := bi (inR k n) n (k.wrap n)
def ieq (a b : Int) : Bool := match a, b with
  | .ofNat a, .ofNat b => Nat.beq a b
  | .negSucc a, .negSucc b => Nat.beq a b
  | _, _ => false
def ilt (a b : Int) : Bool := match a, b with
  | .ofNat a, .ofNat b => Nat.blt a b
  | .negSucc a, .negSucc b => Nat.blt b a
  | .negSucc _, .ofNat _ => true
  | .ofNat _, .negSucc _ => false
def keq (a b : IntKind) : Bool := Nat.beq a.ctorIdx b.ctorIdx
noncomputable def beqL (a : List UInt8) : List UInt8 → Bool :=
  List.rec (motive := fun _ => List UInt8 → Bool) (fun b => List.rec (motive := fun _ => Bool) true (fun _ _ _ => false) b)
    (fun x _ ih b => List.rec (motive := fun _ => Bool) false (fun y ys _ => bi (Nat.beq x.toNat y.toNat) (ih ys) false) b) a
noncomputable def intV (op : BinOp) : IntKind → Int → Int → Option Value :=
  BinOp.rec (motive := fun _ => IntKind → Int → Int → Option Value)
    (fun k a b => some (.int k (wrapF k (a + b))))
    (fun k a b => some (.int k (wrapF k (a - b))))
    (fun k a b => some (.int k (wrapF k (a * b))))
    (fun _ _ _ => none)
    (fun _ _ _ => none)
    (fun _ _ _ => none)
    (fun _ _ _ => none)
    (fun _ _ _ => none)
    (fun _ _ _ => none)
    (fun _ _ _ => none)
    (fun _ _ _ => none)
    (fun _ a b => some (.bool (ieq a b)))
    (fun _ a b => some (.bool (bi (ieq a b) false true)))
    (fun _ a b => some (.bool (ilt a b)))
    (fun _ a b => some (.bool (bi (ilt b a) false true)))
    (fun _ a b => some (.bool (ilt b a)))
    (fun _ a b => some (.bool (bi (ilt a b) false true))) op
noncomputable def strV (op : BinOp) : ByteArray → ByteArray → Option Value :=
  BinOp.rec (motive := fun _ => ByteArray → ByteArray → Option Value)
    (fun a b => bb (Nat.ble (a.data.toList.length + b.data.toList.length) room) (some (.string ⟨(a.data.toList ++ b.data.toList).toArray⟩)))
    (fun _ _ => none)
    (fun _ _ => none)
    (fun _ _ => none)
    (fun _ _ => none)
    (fun _ _ => none)
    (fun _ _ => none)
    (fun _ _ => none)
    (fun _ _ => none)
    (fun _ _ => none)
    (fun _ _ => none)
    (fun a b => some (.bool (beqL a.data.toList b.data.toList)))
    (fun a b => some (.bool (bi (beqL a.data.toList b.data.toList) false true)))
    (fun _ _ => none)
    (fun _ _ => none)
    (fun _ _ => none)
    (fun _ _ => none) op
noncomputable def fastV (op : BinOp) (x y : Value) : Option Value := match x with
  | .int k a => (match y with
    | .int k' b => bb (keq k k') (intV op k a b)
    | _ => none)
  | .string a => (match y with
    | .string b => strV op a b
    | _ => none)
  | _ => none

noncomputable def minmax (isMax : Bool) (v w : Value) : Option Value := match v with
  | .int k x => (match w with
    | .int _ y => some (.int k (bi isMax (bi (ilt x y) y x) (bi (ilt y x) y x)))
    | _ => none)
  | _ => none
noncomputable def mm (isMax : Bool) (l : List Value) : Value → Option Value :=
  List.rec (motive := fun _ => Value → Option Value) (fun v => some v) (fun x _ ih v => ob (minmax isMax v x) ih) l

/-- What '==' gives on two values of a type, at least one of which is nil. -/
def nilPair (d : Option TypeDesc) (x y : Value) : Option Bool := match d with
  | some (.pointer _) => (match x, y with
    | .pointer none, .pointer none => some true
    | .pointer none, .pointer (some _) => some false
    | .pointer (some _), .pointer none => some false
    | _, _ => none)
  | some (.slice _) => (match x, y with
    | .slice none _ _, .slice none _ _ => some true
    | .slice none _ _, .slice (some _) _ _ => some false
    | .slice (some _) _ _, .slice none _ _ => some false
    | _, _ => none)
  | some (.func ..) => (match x, y with
    | .nilFunc, .nilFunc => some true
    | .nilFunc, .func .. => some false
    | .func .., .nilFunc => some false
    | _, _ => none)
  | some (.interface _) => (match x, y with
    | .nilIface, .iface .. => some false
    | .iface .., .nilIface => some false
    | _, _ => none)
  | _ => none

def nextV (n : Option Next) : Option Value := match n with
  | some (.value v) => some v
  | _ => none

/-- What an operation on values without addresses gives, by the model's own text. -/
noncomputable def flatV (P : Program) (fr : Fr) (o : Oper) : Option Value :=
  ob (nextV (pureRun P (execOp (fun x => (ev fr x).getD undefV) o))) cst

noncomputable def nilV (P : Program) (t : TypeId) (op : BinOp) (x y : Value) : Option Value := match op with
  | .eql => ob (nilPair (P.underlying t) x y) fun b => some (.bool b)
  | .neq => ob (nilPair (P.underlying t) x y) fun b => some (.bool !b)
  | _ => none

noncomputable def orV (x y : Option Value) : Option Value := Option.rec (motive := fun _ => Option Value) y (fun v => some v) x

noncomputable def binV (P : Program) (fr : Fr) (o : Oper) (op : BinOp) (t : TypeId) (x y : Value) : Option Value :=
  orV (fastV op x y) (bi (flat x && flat y) (flatV P fr o) (nilV P t op x y))

/- The operations that do not touch memory. -/
def bool? (v : Value) : Option Bool := match v with
  | .bool b => some b
  | _ => none
noncomputable def pPick (fr : Fr) (c a b : Operand) : Option Value := ob (ev fr c) fun v => ob (bool? v) fun t => bi t (ev fr a) (ev fr b)
noncomputable def placesL (P : Program) (l : List Field) : Option (List (Nat × Nat)) :=
  List.rec (motive := fun _ => Option (List (Nat × Nat))) (some []) (fun f _ ih => ob (size? P f.type) fun n => ob ih fun r => some ((f.offset, n) :: r)) l
noncomputable def buildV (P : Program) (t : TypeId) (z : List Value) (parts : List (Nat × Value)) : Option Value := match P.underlying t with
  | some (.struct fs) => ob (placesL P fs.toList) fun ps => ob (fillL (fun i => ps[i]?) parts z) fun l => some (.agg ⟨l⟩)
  | some (.array _ e) => ob (size? P e) fun n => ob (fillL (fun i => some (i * n, n)) parts z) fun l => some (.agg ⟨l⟩)
  | _ => none
noncomputable def pBuild (P : Program) (fr : Fr) (t : TypeId) (parts : Array (Nat × Operand)) : Option Value :=
  ob (zero? P t) fun z => ob (evs fr (parts.toList.map (·.2))) fun vs => buildV P t (cellsL z) ((parts.toList.map (·.1)).zip vs)
def nonNil (v : Value) : Option Value := match v with
  | .pointer (some a) => some (.pointer (some a))
  | .func (.func f) a b => some (.func (.func f) a b)
  | .iface t v => some (.iface t v)
  | _ => none
noncomputable def pNilCheck (fr : Fr) (x : Operand) : Option Value := ob (ev fr x) nonNil
noncomputable def pBin (P : Program) (fr : Fr) (o : Oper) (b : BinOp) (t : TypeId) (x y : Operand) : Option Value := ob (ev fr x) fun a => ob (ev fr y) fun c => binV P fr o b t a c
noncomputable def pFlat (P : Program) (fr : Fr) (o : Oper) (x : Operand) : Option Value := ob (ev fr x) fun a => bb (flat a) (flatV P fr o)
def concrete (d : Option TypeDesc) : Bool := match d with
  | some (.interface _) => false
  | some _ => true
  | none => false
noncomputable def pIface (P : Program) (fr : Fr) (t : TypeId) (x : Operand) : Option Value := ob (ev fr x) fun v => bb (concrete (P.underlying t)) (some (.iface t v))
def noYield (fn : Fn) : Bool := match fn with
  | .func _ => true
  | _ => false
noncomputable def pFunc (fr : Fr) (fn : Fn) (fs cs : Array Operand) : Option Value := ob (evs fr fs.toList) fun a => ob (evs fr cs.toList) fun b => bb (noYield fn) (some (.func fn ⟨a⟩ ⟨b⟩))
noncomputable def evO (fr : Fr) (x : Option Operand) : Option (Option Value) := match x with
  | some o => ob (ev fr o) fun v => some (some v)
  | none => some none
noncomputable def sliceStr (s : ByteArray) (b : Option (Nat × Nat)) : Option Value := ob b fun p => pr p fun lo hi => ob (sub s.data.toList lo (hi - lo)) fun l => some (.string ⟨l.toArray⟩)
noncomputable def sliceAt (n : Nat) (a : Option Addr) (lo hi cap : Nat) : Option Value := match a with
  | some ⟨b, off, none⟩ => some (.slice (some ⟨b, off + lo * n, none⟩) (hi - lo) (cap - lo))
  | some ⟨b, off, some s⟩ => bb (Nat.beq s n) (some (.slice (some ⟨b, off + lo * n, some s⟩) (hi - lo) (cap - lo)))
  | none => bb (Nat.beq cap 0) (some (.slice none 0 0))
noncomputable def sliceSl (P : Program) (e : TypeId) (a : Option Addr) (cap : Nat) (b : Option (Nat × Nat)) : Option Value :=
  ob b fun p => pr p fun lo hi => ob (size? P e) fun n => sliceAt n a lo hi cap
noncomputable def sliceV (P : Program) (t : TypeId) (v : Value) (lo hi : Option Value) : Option Value := match v with
  | .string s => (match P.underlying t with
    | some .string => sliceStr s (bnds s.data.toList.length s.data.toList.length lo hi)
    | _ => none)
  | .slice a len cap => (match P.underlying t with
    | some (.slice e) => sliceSl P e a cap (bnds len cap lo hi)
    | _ => none)
  | .pointer (some ⟨b, off, none⟩) => (match P.underlying t with
    | some (.array m e) => sliceSl P e (some ⟨b, off, none⟩) m (bnds m m lo hi)
    | _ => none)
  | _ => none
noncomputable def pSlice (P : Program) (fr : Fr) (t : TypeId) (x : Operand) (lo hi mx : Option Operand) : Option Value :=
  bb mx.isNone (ob (ev fr x) fun v => ob (evO fr lo) fun lo => ob (evO fr hi) fun hi => sliceV P t v lo hi)
def fieldOf (P : Program) (s : TypeId) (f : Nat) : Option Field := match P.underlying s with
  | some (.struct fs) => fs[f]?
  | _ => none
noncomputable def pFieldAddr (P : Program) (fr : Fr) (s : TypeId) (x : Operand) (f : Nat) : Option Value :=
  ob (ev fr x) fun v => ob (at? v) fun p => pr p fun b off => ob (fieldOf P s f) fun fd => ob (size? P fd.type) fun n => bb (Nat.ble 1 n) (some (.pointer (some ⟨b, off + fd.offset, none⟩)))
def agg? (v : Value) : Option (List Value) := match v with
  | .agg cs => some cs.toList
  | _ => none
noncomputable def pField (P : Program) (fr : Fr) (s : TypeId) (x : Operand) (f : Nat) : Option Value :=
  ob (ev fr x) fun v => ob (agg? v) fun cs => ob (fieldOf P s f) fun fd => partV P fd.type cs fd.offset
noncomputable def evN (fr : Fr) (x : Operand) : Option Nat := ob (ev fr x) nat?
noncomputable def atIx (P : Program) (e : TypeId) (b off i len : Nat) : Option Value := bb (Nat.blt i len) (ob (size? P e) fun n => some (.pointer (some ⟨b, off + i * n, none⟩)))
noncomputable def indexAddrV (P : Program) (t : TypeId) (v : Value) (i : Nat) : Option Value := match v with
  | .slice (some ⟨b, off, _⟩) len _ => ob (elem? P t) fun e => atIx P e b off i len
  | .pointer (some ⟨b, off, none⟩) => (match P.underlying t with
    | some (.array len e) => atIx P e b off i len
    | _ => none)
  | _ => none
noncomputable def pIndexAddr (P : Program) (fr : Fr) (t : TypeId) (x ix : Operand) : Option Value := ob (evN fr ix) fun i => ob (ev fr x) fun v => indexAddrV P t v i
def oneB (l : List UInt8) : Option Value := match l with
  | [b] => some (.int .u8 b.toNat)
  | _ => none
noncomputable def indexV (P : Program) (t : TypeId) (v : Value) (i : Nat) : Option Value := match v with
  | .agg cs => (match P.underlying t with
    | some (.array len e) => bb (Nat.blt i len) (ob (size? P e) fun n => partV P e cs.toList (i * n))
    | _ => none)
  | .string s => (match P.underlying t with
    | some .string => ob (sub s.data.toList i 1) oneB
    | _ => none)
  | _ => none
noncomputable def pIndex (P : Program) (fr : Fr) (t : TypeId) (x ix : Operand) : Option Value := ob (evN fr ix) fun i => ob (ev fr x) fun v => indexV P t v i
def tuple? (v : Value) : Option (List Value) := match v with
  | .tuple cs => some cs.toList
  | _ => none
noncomputable def pExtract (fr : Fr) (t : Operand) (ix : Nat) : Option Value := ob (ev fr t) fun v => ob (tuple? v) fun vs => ob (sub vs ix 1) oneV
def argT (c : Call) : Option TypeId := match c.argTypes.toList with | t :: _ => some t | [] => none
noncomputable def pLen (P : Program) (fr : Fr) (c : Call) : Option Value :=
  ob (evs fr c.args.toList) fun vs => ob (oneV vs) fun x => ob (argT c) fun t => ob (lenV (P.underlying t) x) fun n => some (.int .i64 n)
def capV (d : Option TypeDesc) (v : Value) : Option Nat := match d with
  | some (.slice _) => (match v with | .slice none 0 0 => some 0 | _ => none)
  | _ => none
noncomputable def pCap (P : Program) (fr : Fr) (c : Call) : Option Value :=
  ob (evs fr c.args.toList) fun vs => ob (oneV vs) fun x => ob (argT c) fun t => ob (capV (P.underlying t) x) fun n => some (.int .i64 n)
noncomputable def pMM (fr : Fr) (isMax : Bool) (c : Call) : Option Value :=
  ob (evs fr c.args.toList) fun vs => List.rec (motive := fun _ => Option Value) none (fun x xs _ => mm isMax xs x) vs

/- Operations that make one new block, of cells that values alone determine: the cells, and what the operation gives, of the block's number. -/
def ptrTo (n : Nat) : Value := .pointer (some ⟨n, 0, none⟩)
noncomputable def nAlloc (P : Program) (t : TypeId) : Option (List Value × (Nat → Value)) := ob (zero? P t) fun z => some (cellsL z, ptrTo)
noncomputable def nBox (fr : Fr) (x : Operand) : Option (List Value × (Nat → Value)) := ob (ev fr x) fun v => bi (isTup v) none (some (cellsL v, ptrTo))
noncomputable def nSlice (P : Program) (fr : Fr) (t : TypeId) (len : Nat) (parts : Array (Nat × Operand)) : Option (List Value × (Nat → Value)) :=
  ob (elem? P t) fun e => ob (size? P e) fun m => ob (zero? P e) fun z => ob (evs fr (parts.toList.map (·.2))) fun vs => bb ((cellsL z).length.beq m) (bb (Nat.ble (len * m) 16777216)
    (ob (fillL (fun i => some (i * m, m)) ((parts.toList.map (·.1)).zip vs) (rep (cellsL z) len)) fun l => some (l, fun n => .slice (some ⟨n, 0, none⟩) len len)))
def isByte (d : Option TypeDesc) : Bool := match d with
  | some (.int .u8) => true
  | _ => false
def string? (v : Value) : Option (List UInt8) := match v with
  | .string s => some s.data.toList
  | _ => none
noncomputable def nBytes (P : Program) (fr : Fr) (s d : TypeId) (x : Operand) : Option (List Value × (Nat → Value)) := bb (P.underlying s).isSome <|
  ob (ev fr x) fun v => ob (string? v) fun s => ob (elem? P d) fun e => bb (isByte (P.underlying e)) (some (bytesV s, fun n => .slice (some ⟨n, 0, some 1⟩) s.length s.length))
noncomputable def nMake (P : Program) (fr : Fr) (t : TypeId) (l c : Operand) : Option (List Value × (Nat → Value)) :=
  ob (elem? P t) fun e => ob (P.info? e) fun i => ob (zero? P e) fun z => ob (evN fr l) fun l => ob (evN fr c) fun c => bb (Nat.ble l c) (bb (Nat.ble (c * (i.bytes + 1)) room) (bb ((cellsL z).length.beq i.size)
    (some (rep (cellsL z) c, fun n => .slice (some ⟨n, 0, none⟩) l c))))

/- Operations that read one block: what they give, and which cells. -/
structure RowAt where
  b : Nat
  off : Nat
  n : Nat

noncomputable def span? (P : Program) (t : TypeId) : Option Nat := ob (isAgg? P t) fun g => bi g (size? P t) (some 1)
noncomputable def rLoad (P : Program) (fr : Fr) (σ : St) (t : TypeId) (a : Operand) : Option (Value × RowAt) :=
  ob (ev fr a) fun v => ob (at? v) fun p => pr p fun b off => ob (span? P t) fun n => ob (loadA P σ t b off) fun v => some (v, ⟨b, off, n⟩)
def isStr (d : Option TypeDesc) : Bool := match d with
  | some .string => true
  | _ => false
def rowAt? (v : Value) : Option RowAt := match v with
  | .slice (some ⟨b, off, _⟩) n _ => some ⟨b, off, n⟩
  | _ => none
noncomputable def pra {γ : Type} (p : RowAt) (f : Nat → Nat → Nat → γ) : γ := RowAt.rec (motive := fun _ => γ) f p
noncomputable def rString (P : Program) (fr : Fr) (σ : St) (s d : TypeId) (x : Operand) : Option (Value × RowAt) :=
  ob (ev fr x) fun v => ob (rowAt? v) fun p => pra p fun b off n => ob (elem? P s) fun e => bb (isByte (P.underlying e)) (bb (isStr (P.underlying d))
    (ob (σ.read b off n) fun l => ob (unbytes l) fun l => some (.string ⟨l.toArray⟩, ⟨b, off, n⟩)))

/- Operations that may change memory. -/
noncomputable def eStore (P : Program) (fr : Fr) (σ : St) (t : TypeId) (a v : Operand) : Option (Value × St) :=
  ob (ev fr a) fun a => ob (ev fr v) fun v => ob (storeV P σ t a v) fun σ => some (undefV, σ)
noncomputable def copyV (P : Program) (σ : St) (t : TypeId) (d s : Value) : Option (Value × St) :=
  ob (elem? P t) fun e => ob (size? P e) fun size => ob (rowAt? d) fun p => pra p fun b off dl => ob (srcCells σ size s) fun q => pr q fun n cs => ob (takeN (Nat.min n dl * size) cs) fun cs => ob (σ.write b off cs) fun σ => some (.int .i64 (Nat.min n dl : Nat), σ)
noncomputable def clearV (P : Program) (σ : St) (t : TypeId) (x : Value) : Option (Value × St) :=
  ob (elem? P t) fun e => ob (zero? P e) fun z => ob (rowAt? x) fun p => pra p fun b off n => ob (σ.write b off (rep (cellsL z) n)) fun σ => some (undefV, σ)
def twoV (l : List Value) : Option (Value × Value) := match l with
  | [v, w] => some (v, w)
  | _ => none
def argT2 (c : Call) : Option TypeId := match c.argTypes.toList with | _ :: t :: _ => some t | _ => none
def notInt (d : Option TypeDesc) : Bool := match d with
  | some (.int _) => false
  | some _ => true
  | none => false
noncomputable def eAppend (P : Program) (fr : Fr) (σ : St) (c : Call) : Option (Value × St) :=
  ob (evs fr c.args.toList) fun vs => ob (twoV vs) fun p => pr p fun s x => ob (argT c) fun t => ob (argT2 c) fun t2 => bb (notInt (P.underlying t2)) (appendV P σ t s x)
noncomputable def eCopy (P : Program) (fr : Fr) (σ : St) (c : Call) : Option (Value × St) :=
  ob (evs fr c.args.toList) fun vs => ob (twoV vs) fun p => pr p fun d s => ob (argT c) fun t => copyV P σ t d s
noncomputable def eClear (P : Program) (fr : Fr) (σ : St) (c : Call) : Option (Value × St) :=
  ob (evs fr c.args.toList) fun vs => ob (oneV vs) fun x => ob (argT c) fun t => clearV P σ t x
/-- What is called: a function; the body of a range over a function, by its record's block. -/
inductive Tgt where
  | fn (g : Nat)
  | yld (b : Nat)
structure Fun where
  g : Tgt
  first : List Value
  captured : List Value
def func? (v : Value) : Option Fun := match v with
  | .func (.func g) first captured => some ⟨.fn g, first.toList, captured.toList⟩
  | .func (.yield b) ⟨[]⟩ ⟨[]⟩ => some ⟨.yld b, [], []⟩
  | _ => none

/-- How a call ended: with a value, or with a panic's value. -/
structure CR where
  pan : Bool
  v : Value
  σ : St
abbrev CallT := Tgt → List Value → St → Option CR
noncomputable def eCall (call : CallT) (fr : Fr) (σ : St) (c : Call) (f : Operand) : Option CR :=
  ob (evs fr c.args.toList) fun vs => ob (ev fr f) fun v => ob (func? v) fun f => Fun.rec (motive := fun _ => Option CR) (fun g first captured => call g (first ++ vs ++ captured) σ) f

/- Maps. -/
/-- A key of a map whose keys are strings or integers. -/
def keyOk (d : Option TypeDesc) (k : Value) : Bool := match d with
  | some .string => (match k with
    | .string _ => true
    | _ => false)
  | some (.int i) => (match k with
    | .int j _ => keq i j
    | _ => false)
  | _ => false
noncomputable def ksame (a b : Value) : Option Bool := match a with
  | .string s => (match b with
    | .string t => some (beqL s.data.toList t.data.toList)
    | _ => none)
  | .int k n => (match b with
    | .int l m => bb (keq k l) (some (ieq n m))
    | _ => none)
  | _ => none
/-- The value of a key, if it is there. -/
noncomputable def mget (k : Value) (l : List Value) : Option (Option Value) :=
  (List.rec (motive := fun _ => Option Value → Option (Option Value)) (fun _ => some none)
    (fun x _ ih p => Option.rec (motive := fun _ => Option (Option Value)) (ih (some x)) (fun y => ob (ksame k y) fun s => bi s (some (some x)) (ih none)) p) l : Option Value → Option (Option Value)) none
/-- A key gets a value. -/
noncomputable def mset (k v : Value) (l : List Value) : Option (List Value) :=
  (List.rec (motive := fun _ => Option Value → Option (List Value)) (fun _ => some [k, v])
    (fun x xs ih p => Option.rec (motive := fun _ => Option (List Value)) (ih (some x)) (fun y => ob (ksame k y) fun s => bi s (some (k :: v :: xs)) (ob (ih none) fun r => some (y :: x :: r))) p) l : Option Value → Option (List Value)) none
def map? (v : Value) : Option (Option Nat) := match v with
  | .map a => some a
  | _ => none
def mapT? (P : Program) (t : TypeId) : Option (TypeId × TypeId) := match P.underlying t with
  | some (.map k e) => some (k, e)
  | _ => none
noncomputable def mcells (σ : St) (a : Option Nat) : Option (List Value) := Option.rec (motive := fun _ => Option (List Value)) (some []) (fun b => ob (σ.mblk b) fun B => some B.cells) a
noncomputable def found (P : Program) (e : TypeId) (x : Option Value) : Option (Value × Bool) := Option.rec (motive := fun _ => Option (Value × Bool)) (ob (zero? P e) fun z => some (z, false)) (fun v => some (v, true)) x
noncomputable def eLookup (P : Program) (fr : Fr) (σ : St) (t : TypeId) (x ix : Operand) (ok : Bool) : Option (Value × St) :=
  ob (mapT? P t) fun p => pr p fun kt e => ob (ev fr x) fun v => ob (map? v) fun a => ob (ev fr ix) fun k => bb (keyOk (P.underlying kt) k) (ob (mcells σ a) fun cs => ob (mget k cs) fun r => ob (found P e r) fun r => pr r fun v b => some (bi ok (.tuple ⟨[v, .bool b]⟩) v, σ))
noncomputable def eMapUpdate (P : Program) (fr : Fr) (σ : St) (t : TypeId) (m k x : Operand) : Option (Value × St) :=
  ob (mapT? P t) fun p => pr p fun kt _ => ob (ev fr m) fun v => ob (map? v) fun a => ob a fun b => ob (ev fr k) fun k => bb (keyOk (P.underlying kt) k) (ob (ev fr x) fun x => ob (σ.mblk b) fun B => ob (mset k x B.cells) fun cs => ob (σ.wmap b cs) fun σ => some (undefV, σ))
noncomputable def eMakeMap (_fr : Fr) (σ : St) (r : Option Operand) : Option (Value × St) := bb r.isNone (some (.map (some σ.n), σ.newK [] .map))

/-- What an operation did to memory: nothing that others could notice; it read a block; it may have changed memory; it has panicked. -/
inductive Did where
  | none
  | read (r : RowAt)
  | eff
  | pan

structure Stepped where
  v : Value
  σ : St
  d : Did

noncomputable def asPure (σ : St) (v : Option Value) : Option Stepped := ob v fun v => some ⟨v, σ, .none⟩
noncomputable def asNew (σ : St) (r : Option (List Value × (Nat → Value))) (t : Option TypeId := none) : Option Stepped := ob r fun r => pr r fun cs v => some ⟨v σ.n, σ.new cs t, .none⟩
noncomputable def asRead (σ : St) (r : Option (Value × RowAt)) : Option Stepped := ob r fun r => pr r fun v b => some ⟨v, σ, .read b⟩
noncomputable def asEff (r : Option (Value × St)) : Option Stepped := ob r fun r => pr r fun v σ => some ⟨v, σ, .eff⟩

noncomputable def asCall (r : Option CR) : Option Stepped := ob r fun r => CR.rec (motive := fun _ => Option Stepped) (fun p v σ => some ⟨v, σ, bi p .pan .eff⟩) r
noncomputable def ePanic (fr : Fr) (σ : St) (x : Operand) : Option Stepped := ob (ev fr x) fun v => match v with
  | .iface t v => some ⟨.iface t v, σ, .pan⟩
  | _ => none
noncomputable def orS (x y : Option Stepped) : Option Stepped := Option.rec (motive := fun _ => Option Stepped) y (fun v => some v) x

noncomputable def stepB (b : Builtin) : Program → Fr → St → Call → Option Stepped :=
  Builtin.rec (motive := fun _ => Program → Fr → St → Call → Option Stepped)
    (fun P fr σ c => asEff (eAppend P fr σ c))
    (fun P fr σ c => asPure σ (pCap P fr c))
    (fun P fr σ c => asEff (eClear P fr σ c))
    (fun _ _ _ _ => none)
    (fun _ _ _ _ => none)
    (fun P fr σ c => asEff (eCopy P fr σ c))
    (fun _ _ _ _ => none)
    (fun _ _ _ _ => none)
    (fun P fr σ c => asPure σ (pLen P fr c))
    (fun _ _ _ _ => none)
    (fun _ fr σ c => asPure σ (pMM fr true c))
    (fun _ fr σ c => asPure σ (pMM fr false c))
    (fun _ _ _ _ => none)
    (fun _ _ _ _ => none)
    (fun _ _ _ _ => none)
    (fun _ _ _ _ => none)
    (fun _ _ _ _ => none)
    (fun _ _ _ _ => none)
    (fun _ _ _ _ => none)
    (fun _ _ _ _ => none)
    (fun _ _ _ _ => none)
    (fun _ _ _ _ => none)
    (fun _ _ _ _ => none)
    (fun _ _ _ _ => none)
    (fun _ _ _ _ => none)
    (fun _ _ _ _ => none) b

noncomputable def stepC (P : Program) (call : CallT) (fr : Fr) (σ : St) (c : Call) : Option Stepped :=
  Callee.rec (motive := fun _ => Option Stepped) (fun f => asCall (eCall call fr σ c f)) (fun _ _ => none) (fun b => stepB b P fr σ c) c.callee

/-- What runs an operation, of a kind. -/
abbrev OpK := Program → CallT → Fr → St → Oper → Option Stepped
noncomputable def stepK (x : Op) : OpK :=
  Op.rec (motive := fun _ => OpK)
    (fun x _ _ fr σ _ => asPure σ (ev fr x))
    (fun x _ _ fr σ _ => asPure σ (ev fr x))
    (fun c a b _ _ fr σ _ => asPure σ (pPick fr c a b))
    (fun t P _ _ σ _ => asNew σ (nAlloc P t) (some t))
    (fun _ x _ _ fr σ _ => asNew σ (nBox fr x))
    (fun t parts P _ fr σ _ => asPure σ (pBuild P fr t parts))
    (fun t len parts P _ fr σ _ => asNew σ (nSlice P fr t len parts))
    (fun t m k x P _ fr σ _ => asEff (eMapUpdate P fr σ t m k x))
    (fun t a P _ fr σ _ => asRead σ (rLoad P fr σ t a))
    (fun t a v P _ fr σ _ => asEff (eStore P fr σ t a v))
    (fun _ _ _ _ _ _ => none)
    (fun _ _ _ _ _ _ => none)
    (fun x _ _ fr σ _ => asPure σ (pNilCheck fr x))
    (fun b t x y _ P _ fr σ o => asPure σ (pBin P fr o b t x y))
    (fun _ _ x P _ fr σ o => asPure σ (pFlat P fr o x))
    (fun s d x P _ fr σ o => orS (asNew σ (nBytes P fr s d x)) (orS (asRead σ (rString P fr σ s d x)) (asPure σ (pFlat P fr o x))))
    (fun _ _ _ _ _ _ _ => none)
    (fun t x P _ fr σ _ => asPure σ (pIface P fr t x))
    (fun fn fs cs _ _ fr σ _ => asPure σ (pFunc fr fn fs cs))
    (fun _ r _ _ fr σ _ => asEff (eMakeMap fr σ r))
    (fun _ _ _ _ _ _ _ => none)
    (fun t l c P _ fr σ _ => asNew σ (nMake P fr t l c))
    (fun t x lo hi mx P _ fr σ _ => asPure σ (pSlice P fr t x lo hi mx))
    (fun s x f P _ fr σ _ => asPure σ (pFieldAddr P fr s x f))
    (fun s x f P _ fr σ _ => asPure σ (pField P fr s x f))
    (fun t x ix P _ fr σ _ => asPure σ (pIndexAddr P fr t x ix))
    (fun t x ix P _ fr σ _ => asPure σ (pIndex P fr t x ix))
    (fun t x ix ok P _ fr σ _ => asEff (eLookup P fr σ t x ix ok))
    (fun t m k x P _ fr σ _ => asEff (eMapUpdate P fr σ t m k x))
    (fun _ _ _ _ _ _ _ _ => none)
    (fun _ _ _ _ _ _ _ _ _ => none)
    (fun _ _ _ _ _ _ _ => none)
    (fun _ _ _ _ _ _ _ => none)
    (fun _ _ _ _ _ _ => none)
    (fun _ _ _ _ _ _ _ _ _ => none)
    (fun t ix _ _ fr σ _ => asPure σ (pExtract fr t ix))
    (fun c P call fr σ _ => stepC P call fr σ c)
    (fun _ _ _ _ _ _ => none)
    (fun _ _ _ _ _ _ => none)
    (fun x _ _ fr σ _ => ePanic fr σ x)
    (fun _ _ _ _ _ _ _ => none)
    (fun _ _ _ _ _ _ _ _ => none)
    (fun _ _ _ _ _ _ _ => none) x

noncomputable def step (P : Program) (call : CallT) (fr : Fr) (σ : St) (o : Oper) : Option Stepped := stepK o.op P call fr σ o

def yieldOf (want : Bool) (v : Value) : Bool := match v with
  | .bool b => (match want with | true => b | false => !b)
  | _ => false
def dstOf (all : Array Oper) (j : Nat) : Option Tmp := match all[j]? with
  | some p => p.dst
  | none => none
noncomputable def wantsV (all : Array Oper) (fr : Fr) (o : Oper) : Option Bool :=
  Option.rec (motive := fun _ => Option Bool) (some true) (fun g => pr g fun j want => Option.rec (motive := fun _ => Option Bool) (some false) (fun d => ob (fr.get d) fun v => some (yieldOf want v)) (dstOf all j)) o.guard

noncomputable def putV (fr : Fr) (d : Option Tmp) (v : Value) : Fr := Option.rec (motive := fun _ => Fr) fr (fun d => fr.set d v) d

structure Res where
  o : Out
  fr : Fr
  σ : St

/-- What follows an operation that has not panicked. -/
noncomputable def onDid {β : Type} (d : Did) (x y : β) : β := Did.rec (motive := fun _ => β) x (fun _ => x) x y d

/-- The operations of a region, in the order of the text. -/
noncomputable def opsV (P : Program) (call : CallT) (all : Array Oper) (l : List Oper) : Fr → St → Option Res :=
  List.rec (motive := fun _ => Fr → St → Option Res) (fun fr σ => some ⟨.normal, fr, σ⟩)
  (fun o _ ih fr σ => ob (wantsV all fr o) fun c => bi c (ob (step P call fr σ o) fun r => Stepped.rec (motive := fun _ => Option Res) (fun v σ d => onDid d (ih (putV fr o.dst v) σ) (some ⟨.pan v, fr, σ⟩)) r) (ih (putV fr o.dst undefV) σ)) l

/-- What an operation of a region that draws its order did: it read a block; it changed memory from one state to another. -/
inductive Trace where
  | read (i : Nat) (r : RowAt)
  | eff (i : Nat) (pre post : St)

def traced (i : Nat) (σ σ' : St) (d : Did) (ds : List Trace) : List Trace := match d with
  | .none => ds
  | .read b => .read i b :: ds
  | .eff => .eff i σ σ' :: ds
  | .pan => ds

/-- May an operation of this kind change memory, or end the region by a panic? -/
def isEff (o : Op) : Bool := match o with
  | .store .. => true
  | .lookup .. => true
  | .mapUpdate .. => true
  | .insert .. => true
  | .makeMap .. => true
  | .panic .. => true
  | .call c => (match c.callee with
    | .builtin .len | .builtin .max | .builtin .min => false
    | _ => true)
  | _ => false

structure FST where
  fr : Fr
  σ : St
  ds : List Trace
  p : Option Value

/-- Operations that touch no memory. -/
def isPure (o : Op) : Bool := match o with
  | .move _ => true
  | .assign _ => true
  | .nilCheck _ => true
  | .fieldAddr .. => true
  | .field .. => true
  | _ => false
/-- The operations that do not wait for the one that panicked: they may have run before it, so they must touch no memory, and not fail. -/
noncomputable def lateL (P : Program) (call : CallT) (all : Array Oper) (bs : List Nat) (i : Nat) (l : List Oper) : Nat → Fr → St → Option Unit :=
  List.rec (motive := fun _ => Nat → Fr → St → Option Unit) (fun _ _ _ => some ())
    (fun o _ ih j fr σ => bi (Nat.testBit (bs.getD j 0) i) (ih (j + 1) fr σ)
      (bb (isPure o.op) (ob (wantsV all fr o) fun c => bi c (ob (step P call fr σ o) fun r => ih (j + 1) (putV fr o.dst r.v) r.σ) (ih (j + 1) (putV fr o.dst undefV) σ)))) l
/-- The end of a region by a panic. -/
noncomputable def panD (P : Program) (call : CallT) (all : Array Oper) (op : Op) (l : List Oper) (i : Nat) (fr : Fr) (σ0 : St) (v : Value) (σ : St) (ds : List Trace) : Option FST :=
  bb (isEff op) (ob (lateL P call all (Region.before all).toList i l (i + 1) fr σ0) fun _ => some ⟨.nil, σ, ds, some v⟩)
def outD (p : Option Value) : Out := match p with
  | none => .normal
  | some v => .pan v

noncomputable def opsD (P : Program) (call : CallT) (all : Array Oper) (l : List Oper) : Nat → Fr → St → List Trace → Option FST :=
  List.rec (motive := fun _ => Nat → Fr → St → List Trace → Option FST) (fun _ fr σ ds => some ⟨fr, σ, ds, none⟩)
  (fun o l ih i fr σ ds => ob (wantsV all fr o) fun c => bi c (ob (step P call fr σ o) fun r => Stepped.rec (motive := fun _ => Option FST) (fun v σ' d => onDid d (ih (i + 1) (putV fr o.dst v) σ' (traced i σ σ' d ds)) (panD P call all o.op l i fr σ v σ' ds)) r)
    (ih (i + 1) (putV fr o.dst undefV) σ ds)) l

/-- Are two operations of a region ordered, whichever way? -/
noncomputable def ordered (b : List Nat) (i j : Nat) : Bool := bi (Nat.testBit (b.getD j 0) i) true (Nat.testBit (b.getD i 0) j)

/-- Are two cells the same? -/
noncomputable def veq (v w : Value) : Bool := match v with
  | .bool b => (match w with
    | .bool c => bi b c (bi c false true)
    | _ => false)
  | .int k n => (match w with
    | .int l m => bi (keq k l) (ieq n m) false
    | _ => false)
  | .string s => (match w with
    | .string t => beqL s.data.toList t.data.toList
    | _ => false)
  | .pointer none => (match w with
    | .pointer none => true
    | _ => false)
  | .pointer (some ⟨b, o, none⟩) => (match w with
    | .pointer (some ⟨c, p, none⟩) => bi (Nat.beq b c) (Nat.beq o p) false
    | _ => false)
  | .slice none n k => (match w with
    | .slice none m l => bi (Nat.beq n m) (Nat.beq k l) false
    | _ => false)
  | .slice (some ⟨b, o, none⟩) n k => (match w with
    | .slice (some ⟨c, p, none⟩) m l => bi (Nat.beq b c) (bi (Nat.beq o p) (bi (Nat.beq n m) (Nat.beq k l) false) false) false
    | _ => false)
  | .slice (some ⟨b, o, some s⟩) n k => (match w with
    | .slice (some ⟨c, p, some t⟩) m l => bi (Nat.beq b c) (bi (Nat.beq o p) (bi (Nat.beq s t) (bi (Nat.beq n m) (Nat.beq k l) false) false) false) false
    | _ => false)
  | .map none => (match w with
    | .map none => true
    | _ => false)
  | .map (some b) => (match w with
    | .map (some c) => Nat.beq b c
    | _ => false)
  | _ => false
noncomputable def veqL (l : List Value) : List Value → Bool :=
  List.rec (motive := fun _ => List Value → Bool) (fun k => List.rec (motive := fun _ => Bool) true (fun _ _ _ => false) k)
    (fun x _ ih k => List.rec (motive := fun _ => Bool) false (fun y ys _ => bi (veq x y) (ih ys) false) k) l
noncomputable def sameRow (x y : Option (List Value)) : Bool :=
  Option.rec (motive := fun _ => Bool) false (fun l => Option.rec (motive := fun _ => Bool) false (fun k => veqL l k) y) x

/-- Are the cells that an operation read the same before and after what another one did? -/
noncomputable def sameVer (bs : List Nat) (i : Nat) (r : RowAt) (d : Trace) : Bool := match d with
  | .eff j pre post => bi (ordered bs i j) true (bi (Nat.blt r.b pre.n) (bi (Nat.beq (pre.ver r.b) (post.ver r.b)) true (sameRow (pre.read r.b r.off r.n) (post.read r.b r.off r.n))) true)
  | .read .. => true

noncomputable def allSame (bs : List Nat) (i : Nat) (r : RowAt) : List Trace → Bool
  | [] => true
  | d :: ds => bi (sameVer bs i r d) (allSame bs i r ds) false

noncomputable def readsOk (bs : List Nat) (all : List Trace) : List Trace → Bool
  | [] => true
  | d :: ds => (match d with
    | .read i r => bi (allSame bs i r all) (readsOk bs all ds) false
    | .eff .. => readsOk bs all ds)

noncomputable def drawn (os : Array Oper) (r : Option FST) : Option Res :=
  ob r fun r => FST.rec (motive := fun _ => Option Res) (fun fr σ ds p => bb (readsOk (Region.before os).toList ds ds) (some ⟨outD p, fr, σ⟩)) r
/-- What a region that draws its order must meet. -/
def shl1 (t : Nat) : Nat := 2 ^ t
def dmask (o : Oper) : Nat := match o.dst with
  | some t => 2 ^ t
  | none => 0
def tmask (x : Operand) : Nat := match x with
  | .tmp t => 2 ^ t
  | _ => 0
noncomputable def omask (l : List Operand) : Nat := List.rec (motive := fun _ => Nat) 0 (fun x _ ih => Nat.lor (tmask x) ih) l
def gmask (os : Array Oper) (o : Oper) : Nat := match o.guard with
  | some (j, _) => (match dstOf os j with
    | some t => 2 ^ t
    | none => 0)
  | none => 0
structure PInfo where
  i : Nat
  d : Nat
  m : Nat
  e : Bool
noncomputable def pairOk (b d m : Nat) (e : Bool) (p : PInfo) : Bool :=
  bi (Nat.beq (Nat.land p.d (Nat.lor d m)) 0 && (Nat.beq (Nat.land d p.m) 0 && !(e && p.e))) true (Nat.testBit b p.i)
def edgeOk (j : Nat) (e : Edge) : Bool := !(Region.binds .any e) || Nat.blt e.on j
noncomputable def drawGo (os : Array Oper) : List Oper → List Nat → Nat → List PInfo → Bool
  | [], _, _, _ => true
  | _ :: _, [], _, _ => false
  | o :: l, b :: bs, j, prev => (o.after.toList.all (edgeOk j)) && ((prev.all (pairOk b (dmask o) (Nat.lor (omask o.op.operands.toList) (gmask os o)) (isEff o.op))) &&
      drawGo os l bs (j + 1) (⟨j, dmask o, Nat.lor (omask o.op.operands.toList) (gmask os o), isEff o.op⟩ :: prev))
noncomputable def drawOk (os : Array Oper) : Bool := drawGo os os.toList (Region.before os).toList 0 []

/-- A map that is made, filled and looked up within one region, by constants: its operations, and what runs in their place. -/
structure Gh where
  tm : Nat
  tv : Nat
  key : Nat
  ty : TypeId
  k1 : Value
  v1 : Value
  k2 : Value
  v2 : Value
def isMk (o : Op) : Bool := match o with
  | .makeMap _ none => true
  | _ => false
/-- Does a region begin so? -/
def ghostSel (l : List Oper) : Bool := match l with
  | _ :: _ :: o :: _ => isMk o.op
  | _ => false
def mkOf (o : Oper) : Option (Nat × TypeId) := match o.dst with
  | some t => (match o.op with
    | .makeMap ty none => some (t, ty)
    | _ => none)
  | none => none
def insOf (o : Oper) : Option (Nat × TypeId × Value × Value) := match o.dst with
  | none => (match o.op with
    | .insert ty (.tmp m) (.const k) (.const v) => some (m, ty, k, v)
    | _ => none)
  | some _ => none
def movOf (o : Oper) : Option (Nat × Nat) := match o.dst with
  | some d => (match o.op with
    | .move (.tmp m) => some (d, m)
    | _ => none)
  | none => none
def lkOf (o : Oper) : Option (Nat × TypeId × Nat) := match o.op with
  | .lookup ty (.tmp m) (.tmp k) false => some (m, ty, k)
  | _ => none
def ghNop (o : Oper) : Oper := { o with dst := none, op := .move (.const (.bool false)) }
def ghMov (o : Oper) (V : Value) : Oper := { o with op := .move (.const V) }
def ghFlat (l : List Oper) (V : Value) : List Oper := match l with
  | a0 :: a1 :: a2 :: a3 :: a4 :: a5 :: a6 :: a7 :: a8 :: rest => a0 :: a1 :: ghNop a2 :: ghNop a3 :: ghNop a4 :: ghNop a5 :: a6 :: a7 :: ghMov a8 V :: rest
  | l => l
def gEdge (o : Oper) (i : Nat) : Bool := o.after.toList.any fun e => Region.binds .any e && Nat.beq e.on i
noncomputable def ghOf (l : List Oper) : Option Gh := match l with
  | _ :: _ :: a2 :: a3 :: a4 :: a5 :: _ :: _ :: a8 :: _ => ob (mkOf a2) fun m => ob (insOf a3) fun i1 => ob (insOf a4) fun i2 => ob (movOf a5) fun mv => ob (lkOf a8) fun lk =>
    bb (Nat.beq i1.1 m.1 && (Nat.beq i1.2.1 m.2 && (Nat.beq i2.1 m.1 && (Nat.beq i2.2.1 m.2 && (Nat.beq mv.2 m.1 && (Nat.beq lk.1 mv.1 && (Nat.beq lk.2.1 m.2 &&
      (gEdge a3 2 && (gEdge a4 2 && (gEdge a5 3 && (gEdge a5 4 && gEdge a8 5))))))))))) (some ⟨m.1, mv.1, lk.2.2, m.2, i1.2.2.1, i1.2.2.2, i2.2.2.1, i2.2.2.2⟩)
  | _ => none
def dstNot (t : Nat) (o : Oper) : Bool := match o.dst with
  | some d => !(Nat.beq d t)
  | none => true
def keyW (a8 : Oper) (key : Nat) : List Oper → Nat → Bool
  | [], _ => true
  | o :: l, j => (dstNot key o || (Nat.blt j 8 && gEdge a8 j)) && keyW a8 key l (j + 1)
def ghAt8 (l : List Oper) (f : Oper → Bool) : Bool := match l with
  | _ :: _ :: _ :: _ :: _ :: _ :: _ :: _ :: a8 :: _ => f a8
  | _ => false
def ghOk (l l' : List Oper) (g : Gh) : Bool :=
  l.all (fun o => o.guard.isNone && !(Nat.beq g.tm g.tv)) && (l'.all (dstNot g.tm) && (l'.all (dstNot g.tv) && ghAt8 l fun a8 => keyW a8 g.key l' 0))
noncomputable def ghVal (P : Program) (g : Gh) (kv : Value) : Option Value :=
  ob (mapT? P g.ty) fun p => bb (keyOk (P.underlying p.1) g.k1 && (keyOk (P.underlying p.1) g.k2 && (keyOk (P.underlying p.1) kv && (cstOk g.k1 && (cstOk g.k2 && (cstOk g.v1 && cstOk g.v2)))))) <|
    ob (mset g.k2 g.v2 [g.k1, g.v1]) fun c12 => ob (mset g.k1 g.v1 [g.k2, g.v2]) fun c21 => ob (mget kv c12) fun r1 => ob (mget kv c21) fun r2 =>
      ob (found P p.2 r1) fun x1 => ob (found P p.2 r2) fun x2 => bb (veq x1.1 x2.1 && cstOk x1.1) (some x1.1)
noncomputable def ghEnd (os' : Array Oper) (key : Nat) (kv : Value) (r : FST) : Option Res :=
  FST.rec (motive := fun _ => Option Res) (fun fr σ ds p => bb (readsOk (Region.before os').toList ds ds && p.isNone) (ob (fr.get key) fun kv' => bb (veq kv' kv) (some ⟨.normal, fr, σ⟩))) r
noncomputable def ghostRun (P : Program) (call : CallT) (l : List Oper) (fr : Fr) (σ : St) : Option Res :=
  ob (ghOf l) fun g => bb ((fr.get g.tm).isNone && (fr.get g.tv).isNone) <|
    ob (opsD P call (ghFlat l (.string ⟨#[]⟩)).toArray (ghFlat l (.string ⟨#[]⟩)) 0 fr σ []) fun r0 => ob (r0.fr.get g.key) fun kv => ob (ghVal P g kv) fun V =>
      bb (ghOk l (ghFlat l V) g && drawOk (ghFlat l V).toArray) <| ob (opsD P call (ghFlat l V).toArray (ghFlat l V) 0 fr σ []) (ghEnd (ghFlat l V).toArray g.key kv)
noncomputable def initFr (l : List Value) : Nat → Fr → Fr :=
  List.rec (motive := fun _ => Nat → Fr → Fr) (fun _ fr => fr) (fun v _ ih k fr => ih (k + 1) (fr.set k v)) l

noncomputable def res1 (P : Program) (fr : Fr) (σ : St) (r : ResultVar) : Option Value := match r with
  | .tmp t => fr.get t
  | .cell a t => ob (fr.get a) fun p => loadV P σ t p
noncomputable def resL (P : Program) (fr : Fr) (σ : St) (l : List ResultVar) : Option (List Value) :=
  List.rec (motive := fun _ => Option (List Value)) (some []) (fun r _ ih => ob (res1 P fr σ r) fun v => ob ih fun vs => some (v :: vs)) l

def tup (l : List Value) : Value := match l with
  | [v] => v
  | vs => .tuple ⟨vs⟩
/-- What runs a piece of code, in a round of a range over a function (by the record's block) or not. -/
abbrev RunT := Option Nat → Code → Fr → St → Option Res
def Le (run run' : RunT) : Prop := ∀ rd c fr σ r, run rd c fr σ = some r → run' rd c fr σ = some r
/-- What depends on runs in a way that needs finitely many of them. -/
structure Cont {α : Type} (Φ : RunT → Option α) : Prop where
  mono : ∀ run run', Le run run' → ∀ r, Φ run = some r → Φ run' = some r
  fin : ∀ (ch : Nat → RunT) (l : RunT), (∀ f g, f ≤ g → Le (ch f) (ch g)) → (∀ rd c fr σ r, l rd c fr σ = some r → ∃ f, ch f rd c fr σ = some r) → ∀ r, Φ l = some r → ∃ f, Φ (ch f) = some r
theorem Cont.const {α : Type} (x : Option α) : Cont fun _ => x := ⟨fun _ _ _ _ h => h, fun _ _ _ _ _ h => ⟨0, h⟩⟩
/-- A summary of a function: what a call of it gives, where code may be run. -/
structure Summ where
  f : RunT → List Value → St → Option CR
  cont : ∀ vs σ, Cont fun run => f run vs σ
/-- A summary that runs nothing. -/
def Summ.plain (f : List Value → St → Option CR) : Summ := ⟨fun _ vs σ => f vs σ, fun _ _ => .const _⟩
abbrev Sums := Nat → Option Summ

noncomputable def bodyEnd (P : Program) (fn : Func) (r : Res) : Option CR :=
  Res.rec (motive := fun _ => Option CR) (fun o fr σ => Out.rec (motive := fun _ => Option CR)
    (ob (resL P fr σ fn.results.toList) fun vs => some ⟨false, tup vs, σ⟩) (fun _ => none) (ob (resL P fr σ fn.results.toList) fun vs => some ⟨false, tup vs, σ⟩) (fun v => some ⟨true, v, σ⟩) o) r
noncomputable def runBody (P : Program) (run : RunT) (fn : Func) (body : Code) (vs : List Value) (σ : St) : Option CR :=
  ob (run none body (initFr vs 0 .nil) σ) (bodyEnd P fn)
/-- A call of a function: by a summary, where there is one; else of the function's own text. -/
noncomputable def callG (P : Program) (H : Sums) (run : RunT) (g : Nat) (vs : List Value) (σ : St) : Option CR :=
  Option.rec (motive := fun _ => Option CR)
    (ob (P.funcs[g]?) fun fn => Option.rec (motive := fun _ => Option CR)
      (bb (flats vs) (ob (nextV (pureRun P (callFunc g vs.toArray))) fun v => bb (outOk v) (some ⟨false, v, σ⟩)))
      (fun body => runBody P run fn body vs σ) fn.body)
    (fun s => s.f run vs σ) (H g)

structure LoopV where
  fr : Fr
  ps : List Nat
  assign : Code
  body : Code
  st : LoopState
  pend : Option Code
noncomputable def St.lblk (σ : St) (b : Nat) : Option LoopV := ob (σ.blk b) fun B => bb B.own (Kind.rec (motive := fun _ => Option LoopV) (fun _ => none) none (fun fr ps as bd st pend => some ⟨fr, ps, as, bd, st, pend⟩) B.kind)
noncomputable def setAll (ps : List Nat) : List Value → Fr → Option Fr :=
  List.rec (motive := fun _ => List Value → Fr → Option Fr) (fun vs fr => List.rec (motive := fun _ => Option Fr) (some fr) (fun _ _ _ => none) vs)
    (fun p _ ih vs fr => List.rec (motive := fun _ => Option Fr) none (fun v vs _ => ih vs (fr.set p v)) vs) ps
def isReady (s : LoopState) : Bool := match s with
  | .ready => true
  | _ => false
def isBusy (s : LoopState) : Bool := match s with
  | .busy => true
  | _ => false
noncomputable def normalO {β : Type} (o : Out) (x : Option β) : Option β := Out.rec (motive := fun _ => Option β) x (fun _ => none) none (fun _ => none) o
/-- How a round was left: what the loop's statement will do at its end; a panic is not taken. -/
noncomputable def roundEnd (b : Nat) (r : Res) : Option CR :=
  Res.rec (motive := fun _ => Option CR) (fun o _ σ => Out.rec (motive := fun _ => Option CR)
    (ob (σ.wloop b .ready none) fun σ => some ⟨false, .bool true, σ⟩)
    (fun i => ob (σ.wloop b .done (some (.exit i))) fun σ => some ⟨false, .bool false, σ⟩)
    (ob (σ.wloop b .done (some .ret)) fun σ => some ⟨false, .bool false, σ⟩) (fun _ => none) o) r
/-- A round of a range over a function. -/
noncomputable def callY (run : RunT) (b : Nat) (vs : List Value) (σ : St) : Option CR :=
  ob (σ.lblk b) fun L => LoopV.rec (motive := fun _ => Option CR) (fun fr ps assign body st _ => bb (isReady st) (ob (setAll ps vs fr) fun fr => ob (run (some b) assign fr σ) fun r =>
    Res.rec (motive := fun _ => Option CR) (fun o fr σ => normalO o (ob (σ.lblk b) fun L => LoopV.rec (motive := fun _ => Option CR) (fun _ _ _ _ st pend => bb (isReady st) (ob (σ.wloop b .busy pend) fun σ => ob (run (some b) body fr σ) (roundEnd b))) L)) r)) L
noncomputable def callF (P : Program) (H : Sums) (run : RunT) (t : Tgt) (vs : List Value) (σ : St) : Option CR :=
  Tgt.rec (motive := fun _ => Option CR) (fun g => callG P H run g vs σ) (fun b => callY run b vs σ) t

/-- What the end of a piece of code leads to. -/
noncomputable def onNormal (r : Res) (next : Fr → St → Option Res) : Option Res :=
  Res.rec (motive := fun _ => Option Res) (fun o fr σ => Out.rec (motive := fun _ => Option Res) (next fr σ) (fun i => some ⟨.exit i, fr, σ⟩) (some ⟨.ret, fr, σ⟩) (fun v => some ⟨.pan v, fr, σ⟩) o) r
noncomputable def onExit (id : Nat) (r : Res) : Option Res :=
  Res.rec (motive := fun _ => Option Res) (fun o fr σ => Out.rec (motive := fun _ => Option Res) (some ⟨.normal, fr, σ⟩) (fun i => bi (Nat.beq i id) (some ⟨.normal, fr, σ⟩) (some ⟨.exit i, fr, σ⟩)) (some ⟨.ret, fr, σ⟩) (fun v => some ⟨.pan v, fr, σ⟩) o) r
/-- Is a record's block there, if one is named? -/
noncomputable def roundIs (σ : St) (rd : Option Nat) : Bool := Option.rec (motive := fun _ => Bool) true (fun b => (σ.lblk b).isSome) rd
def outOf (c : Option Code) : Option Out := match c with
  | none => some .normal
  | some .ret => some .ret
  | some (.exit i) => some (.exit i)
  | _ => none
/-- The end of a range over a function. -/
noncomputable def loopEnd (b : Nat) (fr : Fr) (r : CR) : Option Res :=
  CR.rec (motive := fun _ => Option Res) (fun p _ σ => bi p none (ob (σ.lblk b) fun L => LoopV.rec (motive := fun _ => Option Res) (fun _ _ _ _ st pend => bi (isBusy st) none (ob (σ.wloop b .exhausted pend) fun σ => ob (outOf pend) fun o => some ⟨o, fr, σ⟩)) L)) r
def tgtFn (t : Tgt) : Option Nat := match t with
  | .fn g => some g
  | .yld _ => none
def hasBody (P : Program) (g : Nat) : Bool := match P.funcs[g]? with
  | some fn => fn.body.isSome
  | none => false
noncomputable def rangeV (P : Program) (call : CallT) (rd : Option Nat) (f : Operand) (ps : List Nat) (assign body : Code) (fr : Fr) (σ : St) : Option Res :=
  bb (roundIs σ rd) (ob (ev fr f) fun v => ob (func? v) fun f => Fun.rec (motive := fun _ => Option Res) (fun t first captured => ob (tgtFn t) fun g => bb (hasBody P g) <|
    ob (call (.fn g) (first ++ [.func (.yield σ.n) #[] #[]] ++ captured) (σ.newK [] (.loop fr ps assign body .ready none))) (loopEnd σ.n fr)) f)

/-- What runs a piece of code, of a kind. -/
abbrev CodeK := Program → Sums → RunT → Option Nat → Fr → St → Option Res
noncomputable def execK (c : Code) : CodeK :=
  Code.rec (motive := fun _ => CodeK)
    (fun _ _ _ _ fr σ => some ⟨.normal, fr, σ⟩)
    (fun _ os draw P H ih _ fr σ => bi draw (bi (ghostSel os.toList) (ghostRun P (callF P H ih) os.toList fr σ) (drawn os (opsD P (callF P H ih) os os.toList 0 fr σ []))) (opsV P (callF P H ih) os os.toList fr σ))
    (fun a b _ _ _ _ ih rd fr σ => ob (ih rd a fr σ) fun r => onNormal r (ih rd b))
    (fun c a b _ _ _ _ ih rd fr σ => ob (ev fr c) fun v => ob (bool? v) fun t => bi t (ih rd a fr σ) (ih rd b fr σ))
    (fun id c _ _ _ ih rd fr σ => ob (ih rd c fr σ) (onExit id))
    (fun c _ _ _ ih rd fr σ => ob (ih rd c fr σ) fun r => onNormal r (ih rd (.loop c)))
    (fun f ps assign body _ _ P H ih rd fr σ => rangeV P (callF P H ih) rd f ps.toList assign body fr σ)
    (fun id _ _ _ _ fr σ => some ⟨.exit id, fr, σ⟩)
    (fun c _ _ _ ih rd fr σ => ih rd c fr σ)
    (fun _ _ _ _ _ fr σ => some ⟨.normal, fr, σ⟩)
    (fun _ _ _ _ _ _ _ => none)
    (fun _ _ _ _ fr σ => some ⟨.ret, fr, σ⟩)
    (fun _ _ _ _ _ _ _ => none) c
noncomputable def exec1 (P : Program) (H : Sums) (ih : RunT) (rd : Option Nat) (c : Code) (fr : Fr) (σ : St) : Option Res := execK c P H ih rd fr σ

noncomputable def exec (P : Program) (H : Sums) (f : Nat) : RunT :=
  Nat.rec (motive := fun _ => RunT) (fun _ _ _ _ => none) (fun _ ih => exec1 P H ih) f

noncomputable def call (P : Program) (H : Sums) (f : Nat) (g : Nat) (vs : List Value) (σ : St) : Option CR := callG P H (exec P H f) g vs σ

end Go.Ab
namespace Go.Ab
open Go

@[simp] theorem ob_some {α β : Type} (a : α) (f : α → Option β) : ob (some a) f = f a := rfl
@[simp] theorem ob_none {α β : Type} (f : α → Option β) : ob (none : Option α) f = none := rfl
@[simp] theorem bb_true {β : Type} (x : Option β) : bb true x = x := rfl
@[simp] theorem bb_false {β : Type} (x : Option β) : bb false x = none := rfl
@[simp] theorem bi_true {β : Type} (x y : β) : bi true x y = x := rfl
@[simp] theorem bi_false {β : Type} (x y : β) : bi false x y = y := rfl
@[simp] theorem pr_mk {α β γ : Type} (a : α) (b : β) (f : α → β → γ) : pr (a, b) f = f a b := rfl
@[simp] theorem pra_mk {γ : Type} (a b c : Nat) (f : Nat → Nat → Nat → γ) : pra ⟨a, b, c⟩ f = f a b c := rfl
theorem ob_eq {α β : Type} {x : Option α} {f : α → Option β} {b : β} (h : ob x f = some b) : ∃ a, x = some a ∧ f a = some b := by
  cases x with
  | none => cases h
  | some a => exact ⟨a, rfl, h⟩
theorem bb_eq {β : Type} {c : Bool} {x : Option β} {b : β} (h : bb c x = some b) : c = true ∧ x = some b := by
  cases c with
  | false => cases h
  | true => exact ⟨rfl, h⟩

/- Tables. -/
theorem Tr.get_nil {α : Type} (n : Nat) : (Tr.nil : Tr α).get n = none := rfl
theorem Tr.get_zero {α : Type} (l : Tr α) (v : Option α) (r : Tr α) : (Tr.node l v r).get 0 = v := rfl
theorem Tr.get_succ {α : Type} (l : Tr α) (v : Option α) (r : Tr α) (m : Nat) : (Tr.node l v r).get (m + 1) = if m % 2 = 0 then l.get (m / 2) else r.get (m / 2) := by
  show (Nat.rec (motive := fun _ => Option α) (l.get (m / 2)) (fun _ _ => r.get (m / 2)) (m % 2) : Option α) = _
  rcases Nat.mod_two_eq_zero_or_one m with h | h <;> rw [h] <;> rfl
theorem Tr.one_zero {α : Type} (f : Nat) (a : α) : Tr.one (f + 1) 0 a = .node .nil (some a) .nil := rfl
theorem Tr.one_succ {α : Type} (f m : Nat) (a : α) : Tr.one (f + 1) (m + 1) a = if m % 2 = 0 then .node (Tr.one f (m / 2) a) none .nil else .node .nil none (Tr.one f (m / 2) a) := by
  show (Nat.rec (motive := fun _ => Tr α) (.node (Tr.one f (m / 2) a) none .nil) (fun _ _ => .node .nil none (Tr.one f (m / 2) a)) (m % 2) : Tr α) = _
  rcases Nat.mod_two_eq_zero_or_one m with h | h <;> rw [h] <;> rfl
theorem Tr.get_one {α : Type} (a : α) : ∀ (f n m : Nat), n < f → (Tr.one f n a).get m = if m = n then some a else none := by
  intro f
  induction f with
  | zero => intro n m h; omega
  | succ f ih =>
    intro n m h
    cases n with
    | zero =>
      rw [Tr.one_zero]
      cases m with
      | zero => rfl
      | succ m => rw [Tr.get_succ]; simp [Tr.get_nil]
    | succ n =>
      rw [Tr.one_succ]
      by_cases hn : n % 2 = 0
      · rw [if_pos hn]
        cases m with
        | zero => rw [Tr.get_zero]; simp
        | succ m =>
          rw [Tr.get_succ, ih (n / 2) (m / 2) (by omega), Tr.get_nil]
          by_cases hm : m % 2 = 0
          · rw [if_pos hm]; simp only [Nat.add_right_cancel_iff]
            by_cases he : m = n
            · subst he; simp
            · rw [if_neg (by omega), if_neg he]
          · rw [if_neg hm, if_neg (by omega)]
      · rw [if_neg hn]
        cases m with
        | zero => rw [Tr.get_zero]; simp
        | succ m =>
          rw [Tr.get_succ, ih (n / 2) (m / 2) (by omega), Tr.get_nil]
          by_cases hm : m % 2 = 0
          · rw [if_pos hm, if_neg (by omega)]
          · rw [if_neg hm]; simp only [Nat.add_right_cancel_iff]
            by_cases he : m = n
            · subst he; simp
            · rw [if_neg (by omega), if_neg he]
theorem Tr.set_nil {α : Type} (n : Nat) (a : α) : (Tr.nil : Tr α).set n a = Tr.one (n + 1) n a := rfl
theorem Tr.set_zero {α : Type} (l : Tr α) (v : Option α) (r : Tr α) (a : α) : (Tr.node l v r).set 0 a = .node l (some a) r := rfl
theorem Tr.set_succ {α : Type} (l : Tr α) (v : Option α) (r : Tr α) (m : Nat) (a : α) : (Tr.node l v r).set (m + 1) a = if m % 2 = 0 then .node (l.set (m / 2) a) v r else .node l v (r.set (m / 2) a) := by
  show (Nat.rec (motive := fun _ => Tr α) (.node (l.set (m / 2) a) v r) (fun _ _ => .node l v (r.set (m / 2) a)) (m % 2) : Tr α) = _
  rcases Nat.mod_two_eq_zero_or_one m with h | h <;> rw [h] <;> rfl
theorem Tr.get_set {α : Type} (a : α) (t : Tr α) : ∀ (n m : Nat), (t.set n a).get m = if m = n then some a else t.get m := by
  induction t with
  | nil => intro n m; rw [Tr.set_nil, Tr.get_one a _ _ _ (by omega), Tr.get_nil]
  | node l v r ihl ihr =>
    intro n m
    cases n with
    | zero =>
      rw [Tr.set_zero]
      cases m with
      | zero => rfl
      | succ m => simp [Tr.get_succ]
    | succ n =>
      rw [Tr.set_succ]
      by_cases hn : n % 2 = 0
      · rw [if_pos hn]
        cases m with
        | zero => simp [Tr.get_zero]
        | succ m =>
          rw [Tr.get_succ, ihl, Tr.get_succ]
          by_cases hm : m % 2 = 0
          · rw [if_pos hm, if_pos hm]; simp only [Nat.add_right_cancel_iff]
            by_cases he : m = n
            · subst he; simp
            · rw [if_neg (by omega), if_neg he]
          · rw [if_neg hm, if_neg hm]; simp only [Nat.add_right_cancel_iff]; rw [if_neg (by omega)]
      · rw [if_neg hn]
        cases m with
        | zero => simp [Tr.get_zero]
        | succ m =>
          rw [Tr.get_succ, ihr, Tr.get_succ]
          by_cases hm : m % 2 = 0
          · rw [if_pos hm, if_pos hm]; simp only [Nat.add_right_cancel_iff]; rw [if_neg (by omega)]
          · rw [if_neg hm, if_neg hm]; simp only [Nat.add_right_cancel_iff]
            by_cases he : m = n
            · subst he; simp
            · rw [if_neg (by omega), if_neg he]
theorem Tr.get_set_same {α : Type} (t : Tr α) (n : Nat) (a : α) : (t.set n a).get n = some a := by rw [Tr.get_set, if_pos rfl]
theorem Tr.get_set_ne {α : Type} (t : Tr α) {n m : Nat} (a : α) (h : m ≠ n) : (t.set n a).get m = t.get m := by rw [Tr.get_set, if_neg h]

/- Lists. -/
theorem takeN_eq {α : Type} : ∀ (n : Nat) (l r : List α), takeN n l = some r → n ≤ l.length ∧ r = l.take n := by
  intro n
  induction n with
  | zero => intro l r h; cases h; simp
  | succ n ih =>
    intro l r h
    cases l with
    | nil => cases h
    | cons x xs =>
      obtain ⟨r', h1, h2⟩ := ob_eq (show ob (takeN n xs) (fun r => some (x :: r)) = some r from h)
      cases h2
      obtain ⟨h3, h4⟩ := ih _ _ h1
      exact ⟨by simp; omega, by simp [h4]⟩
theorem takeN_of {α : Type} : ∀ (n : Nat) (l : List α), n ≤ l.length → takeN n l = some (l.take n) := by
  intro n
  induction n with
  | zero => intro l _; rfl
  | succ n ih =>
    intro l h
    cases l with
    | nil => simp at h
    | cons x xs =>
      show ob (takeN n xs) (fun r => some (x :: r)) = _
      rw [ih xs (by simpa using h)]; rfl
theorem dropN_eq {α : Type} : ∀ (n : Nat) (l r : List α), dropN n l = some r → n ≤ l.length ∧ r = l.drop n := by
  intro n
  induction n with
  | zero => intro l r h; cases h; simp
  | succ n ih =>
    intro l r h
    cases l with
    | nil => cases h
    | cons x xs =>
      obtain ⟨h3, h4⟩ := ih _ _ (show dropN n xs = some r from h)
      exact ⟨by simp; omega, by simp [h4]⟩
theorem dropN_of {α : Type} : ∀ (n : Nat) (l : List α), n ≤ l.length → dropN n l = some (l.drop n) := by
  intro n
  induction n with
  | zero => intro l _; rfl
  | succ n ih =>
    intro l h
    cases l with
    | nil => simp at h
    | cons x xs => show dropN n xs = _; rw [ih xs (by simpa using h)]; rfl
theorem sub_eq {α : Type} {l r : List α} {off n : Nat} (h : sub l off n = some r) : off + n ≤ l.length ∧ r = (l.drop off).take n := by
  obtain ⟨l', h1, h2⟩ := ob_eq h
  obtain ⟨h3, rfl⟩ := dropN_eq _ _ _ h1
  obtain ⟨h4, rfl⟩ := takeN_eq _ _ _ h2
  exact ⟨by simp at h4; omega, rfl⟩
theorem sub_of {α : Type} {l : List α} {off n : Nat} (h : off + n ≤ l.length) : sub l off n = some ((l.drop off).take n) := by
  show ob (dropN off l) (fun l => takeN n l) = _
  rw [dropN_of _ _ (by omega)]
  exact takeN_of _ _ (by simp; omega)
theorem over_eq {α : Type} : ∀ (new l r : List α), over new l = some r → new.length ≤ l.length ∧ r = new ++ l.drop new.length := by
  intro new
  induction new with
  | nil => intro l r h; cases h; simp
  | cons v vs ih =>
    intro l r h
    cases l with
    | nil => cases h
    | cons x xs =>
      obtain ⟨r', h1, h2⟩ := ob_eq (show ob (over vs xs) (fun r => some (v :: r)) = some r from h)
      cases h2
      obtain ⟨h3, h4⟩ := ih _ _ h1
      exact ⟨by simp; omega, by simp [h4]⟩
theorem splice_eq {α : Type} (new : List α) : ∀ (off : Nat) (l r : List α), splice l off new = some r → off + new.length ≤ l.length ∧ r = l.take off ++ new ++ l.drop (off + new.length) := by
  intro off
  induction off with
  | zero =>
    intro l r h
    obtain ⟨h1, h2⟩ := over_eq new l r h
    exact ⟨by omega, by simp [h2]⟩
  | succ off ih =>
    intro l r h
    cases l with
    | nil => cases h
    | cons x xs =>
      obtain ⟨r', h1, h2⟩ := ob_eq (show ob (splice xs off new) (fun r => some (x :: r)) = some r from h)
      cases h2
      obtain ⟨h3, h4⟩ := ih _ _ h1
      exact ⟨by simp; omega, by simp [h4, Nat.add_right_comm]⟩

/- How values stand to each other. -/
/-- Where a block of the abstract machine lies: the model's block, where in it, and how many cells that block has. -/
structure Spot where
  c : Nat
  o : Nat
  m : Nat
abbrev Place := Nat → Option Spot

mutual
inductive VRel (ρ : Place) : Value → Value → Prop
  | scal {v : Value} (h : scal v = true) : VRel ρ v v
  | ptr {b off : Nat} {q : Spot} (h : ρ b = some q) : VRel ρ (.pointer (some ⟨b, off, none⟩)) (.pointer (some ⟨q.c, q.o + off, none⟩))
  | slice {b off n k : Nat} {q : Spot} (h : ρ b = some q) : VRel ρ (.slice (some ⟨b, off, none⟩) n k) (.slice (some ⟨q.c, q.o + off, none⟩) n k)
  | grow {b off s n k k' : Nat} {q : Spot} (h : ρ b = some q) (hk : k ≤ k') (hm : q.o + off + k' * s ≤ q.m) : VRel ρ (.slice (some ⟨b, off, some s⟩) n k) (.slice (some ⟨q.c, q.o + off, none⟩) n k')
  | slice0 {b off : Nat} {sp : Option Nat} {q : Spot} {x : Addr} (h : ρ b = some q) : VRel ρ (.slice (some ⟨b, off, sp⟩) 0 0) (.slice (some x) 0 0)
  | func {fn : Fn} {f f' c c' : List Value} (hy : noYield fn = true) (h1 : VsRel ρ f f') (h2 : VsRel ρ c c') : VRel ρ (.func fn ⟨f⟩ ⟨c⟩) (.func fn ⟨f'⟩ ⟨c'⟩)
  | map {b : Nat} {q : Spot} (h : ρ b = some q) : VRel ρ (.map (some b)) (.map (some q.c))
  | yld {b : Nat} {q : Spot} (h : ρ b = some q) : VRel ρ (.func (.yield b) ⟨[]⟩ ⟨[]⟩) (.func (.yield q.c) ⟨[]⟩ ⟨[]⟩)
  | iface {t : TypeId} {v v' : Value} (h : VRel ρ v v') : VRel ρ (.iface t v) (.iface t v')
  | agg {l l' : List Value} (hc : ∀ v ∈ l, isCell v = true) (h : VsRel ρ l l') : VRel ρ (.agg ⟨l⟩) (.agg ⟨l'⟩)
  | tuple {l l' : List Value} (h : VsRel ρ l l') : VRel ρ (.tuple ⟨l⟩) (.tuple ⟨l'⟩)
inductive VsRel (ρ : Place) : List Value → List Value → Prop
  | nil : VsRel ρ [] []
  | cons {v v' : Value} {l l' : List Value} (h : VRel ρ v v') (hs : VsRel ρ l l') : VsRel ρ (v :: l) (v' :: l')
end

/-- One placing goes on with another. -/
def Place.le (ρ ρ' : Place) : Prop := ∀ b p, ρ b = some p → ρ' b = some p
theorem Place.le_refl (ρ : Place) : ρ.le ρ := fun _ _ h => h
theorem Place.le_trans {ρ ρ' ρ'' : Place} (h : ρ.le ρ') (h' : ρ'.le ρ'') : ρ.le ρ'' := fun b p k => h' b p (h b p k)

mutual
theorem VRel.mono {ρ ρ' : Place} (hm : ρ.le ρ') {v v' : Value} (h : VRel ρ v v') : VRel ρ' v v' := by
  cases h with
  | scal h => exact .scal h
  | ptr h => exact .ptr (hm _ _ h)
  | slice h => exact .slice (hm _ _ h)
  | grow h hk hc => exact .grow (hm _ _ h) hk hc
  | slice0 h => exact .slice0 (hm _ _ h)
  | func hy h1 h2 => exact .func hy (VsRel.mono hm h1) (VsRel.mono hm h2)
  | map h => exact .map (hm _ _ h)
  | yld h => exact .yld (hm _ _ h)
  | iface h => exact .iface (VRel.mono hm h)
  | agg hc h => exact .agg hc (VsRel.mono hm h)
  | tuple h => exact .tuple (VsRel.mono hm h)
theorem VsRel.mono {ρ ρ' : Place} (hm : ρ.le ρ') {l l' : List Value} (h : VsRel ρ l l') : VsRel ρ' l l' := by
  cases h with
  | nil => exact .nil
  | cons h hs => exact .cons (VRel.mono hm h) (VsRel.mono hm hs)
end

theorem VsRel.length {ρ : Place} : ∀ {l l' : List Value}, VsRel ρ l l' → l.length = l'.length := by
  intro l
  induction l with
  | nil => intro l' h; cases h; rfl
  | cons v l ih => intro l' h; cases h with | cons h hs => simp [ih hs]
theorem VsRel.get {ρ : Place} : ∀ {l l' : List Value} {i : Nat} {v : Value}, VsRel ρ l l' → l[i]? = some v → ∃ v', l'[i]? = some v' ∧ VRel ρ v v' := by
  intro l
  induction l with
  | nil => intro l' i v _ hv; simp at hv
  | cons x l ih =>
    intro l' i v h hv
    cases h with
    | cons h hs =>
      cases i with
      | zero => simp at hv; subst hv; exact ⟨_, rfl, h⟩
      | succ i => simpa using ih hs (by simpa using hv)
theorem VsRel.of_get {ρ : Place} : ∀ {l l' : List Value}, l.length = l'.length → (∀ (i : Nat) (v : Value), l[i]? = some v → ∃ v', l'[i]? = some v' ∧ VRel ρ v v') → VsRel ρ l l' := by
  intro l
  induction l with
  | nil => intro l' h _; cases l' with | nil => exact .nil | cons => simp at h
  | cons x l ih =>
    intro l' h hv
    cases l' with
    | nil => simp at h
    | cons x' l' =>
      obtain ⟨v', h1, h2⟩ := hv 0 x rfl
      simp at h1; subst h1
      exact .cons h2 (ih (by simpa using h) fun i v hi => by simpa using hv (i + 1) v (by simpa using hi))
theorem VsRel.append {ρ : Place} {k k' : List Value} (h2 : VsRel ρ k k') : ∀ {l l' : List Value}, VsRel ρ l l' → VsRel ρ (l ++ k) (l' ++ k') := by
  intro l
  induction l with
  | nil => intro l' h; cases h; exact h2
  | cons v l ih => intro l' h; cases h with | cons h hs => exact .cons h (ih hs)
theorem VsRel.take {ρ : Place} (n : Nat) : ∀ {l l' : List Value}, VsRel ρ l l' → VsRel ρ (l.take n) (l'.take n) := by
  induction n with
  | zero => intro l l' _; simp; exact .nil
  | succ n ih => intro l l' h; cases h with | nil => simp; exact .nil | cons h hs => exact .cons h (ih hs)
theorem VsRel.drop {ρ : Place} (n : Nat) : ∀ {l l' : List Value}, VsRel ρ l l' → VsRel ρ (l.drop n) (l'.drop n) := by
  induction n with
  | zero => intro l l' h; simpa using h
  | succ n ih => intro l l' h; cases h with | nil => simp; exact .nil | cons h hs => exact ih hs
theorem VsRel.rep {ρ : Place} {l l' : List Value} (h : VsRel ρ l l') (n : Nat) : VsRel ρ (Ab.rep l n) (Ab.rep l' n) := by
  induction n with
  | zero => exact .nil
  | succ n ih => exact VsRel.append (k := Ab.rep l n) (k' := Ab.rep l' n) ih h
theorem VsRel.of_scal {ρ : Place} : ∀ {l : List Value}, allScal l = true → VsRel ρ l l := by
  intro l
  induction l with
  | nil => intro _; exact .nil
  | cons v l ih =>
    intro h
    change bi (scal v) (allScal l) false = true at h
    cases hs : scal v with
    | false => rw [hs] at h; cases h
    | true => rw [hs] at h; exact .cons (.scal hs) (ih h)
theorem isCell_of_scal {v : Value} (h : scal v = true) : isCell v = true := by
  cases v <;> first | rfl | (simp [scal] at h)
theorem cells_of_scal : ∀ {l : List Value}, allScal l = true → ∀ v ∈ l, isCell v = true := by
  intro l
  induction l with
  | nil => intro _ v hv; simp at hv
  | cons x l ih =>
    intro h v hv
    change bi (scal x) (allScal l) false = true at h
    cases hs : scal x with
    | false => rw [hs] at h; cases h
    | true =>
      rw [hs] at h
      rcases List.mem_cons.1 hv with rfl | hv
      · exact isCell_of_scal hs
      · exact ih h v hv
theorem VRel.cst {ρ : Place} {v u : Value} (h : cst v = some u) : u = v ∧ VRel ρ v v := by
  obtain ⟨h1, h2⟩ := bb_eq h
  cases h2
  refine ⟨rfl, ?_⟩
  cases v with
  | agg cs =>
    obtain ⟨l⟩ := cs
    exact .agg (cells_of_scal h1) (VsRel.of_scal h1)
  | _ => exact .scal h1

theorem VRel.out {ρ : Place} {v : Value} (h : outOk v = true) : VRel ρ v v := by
  unfold outOk at h
  split at h
  · exact .tuple (VsRel.of_scal h)
  · exact (VRel.cst (u := v) (show bb (cstOk v) (some v) = some v by rw [h]; rfl)).2

theorem VRel.isCell {ρ : Place} {v v' : Value} (h : VRel ρ v v') : isCell v' = isCell v := by cases h <;> rfl
theorem VRel.isTup {ρ : Place} {v v' : Value} (h : VRel ρ v v') : isTup v' = isTup v := by cases h <;> rfl

mutual
theorem VRel.flat {ρ : Place} {v v' : Value} (h : VRel ρ v v') (hf : flat v = true) : v' = v := by
  cases h with
  | scal h => rfl
  | ptr h => simp [Ab.flat] at hf
  | slice h => simp [Ab.flat] at hf
  | grow h hk hc => simp [Ab.flat] at hf
  | slice0 h => simp [Ab.flat] at hf
  | func hy h1 h2 => simp [Ab.flat] at hf
  | map h => simp [Ab.flat] at hf
  | yld h => simp [Ab.flat] at hf
  | iface h => rw [VRel.flat h (by simpa [Ab.flat] using hf)]
  | agg hc h => rw [VsRel.flat h (by simpa [Ab.flat, Ab.flatA] using hf)]
  | tuple h => rw [VsRel.flat h (by simpa [Ab.flat, Ab.flatA] using hf)]
theorem VsRel.flat {ρ : Place} {l l' : List Value} (h : VsRel ρ l l') (hf : flats l = true) : l' = l := by
  cases h with
  | nil => rfl
  | @cons v v' l l' h hs =>
    unfold flats at hf
    cases hv : Ab.flat v with
    | false => rw [hv] at hf; cases hf
    | true => rw [hv] at hf; rw [VRel.flat h hv, VsRel.flat hs hf]
end

/-- The cells of a value, on both sides. -/
theorem VRel.cells {ρ : Place} {v v' : Value} (h : VRel ρ v v') (ht : Ab.isTup v = false) : VsRel ρ (cellsL v) v'.cells.toList ∧ ∀ u ∈ cellsL v, Ab.isCell u = true := by
  cases h with
  | agg hc h => exact ⟨h, hc⟩
  | scal hs =>
    cases v with
    | agg => simp [Ab.scal] at hs
    | tuple => simp [Ab.scal] at hs
    | _ => exact ⟨.cons (.scal hs) .nil, by intro u hu; simp [cellsL] at hu; subst hu; rfl⟩
  | ptr h => exact ⟨.cons (.ptr h) .nil, by intro u hu; simp [cellsL] at hu; subst hu; rfl⟩
  | slice h => exact ⟨.cons (.slice h) .nil, by intro u hu; simp [cellsL] at hu; subst hu; rfl⟩
  | grow h hk hm => exact ⟨.cons (.grow h hk hm) .nil, by intro u hu; simp [cellsL] at hu; subst hu; rfl⟩
  | slice0 h => exact ⟨.cons (.slice0 h) .nil, by intro u hu; simp [cellsL] at hu; subst hu; rfl⟩
  | func hy h1 h2 => exact ⟨.cons (.func hy h1 h2) .nil, by intro u hu; simp [cellsL] at hu; subst hu; rfl⟩
  | map h => exact ⟨.cons (.map h) .nil, by intro u hu; simp [cellsL] at hu; subst hu; rfl⟩
  | yld h => exact ⟨.cons (.yld h) .nil, by intro u hu; simp [cellsL] at hu; subst hu; rfl⟩
  | iface h => exact ⟨.cons (.iface h) .nil, by intro u hu; simp [cellsL] at hu; subst hu; rfl⟩
  | tuple h => simp [Ab.isTup] at ht

end Go.Ab
namespace Go.Ab
open Go

theorem addr_add (c o n : Nat) : (⟨c, o, none⟩ : Addr).add n = ⟨c, o + n, none⟩ := by
  unfold Addr.add
  by_cases h : n = 0
  · subst h; rfl
  · rw [if_neg h]

theorem cell_at {w : World} {c i : Nat} {arr : Array Value} {e : TypeId} {f : Nat × Nat} (h : w.heap[c]? = some (.cells arr e f)) : w.cell? ⟨c, i, none⟩ = arr[i]? := by
  simp [World.cell?, h]

/-- What is fixed: the first block that the machine may write, and the check of a piece of code. -/
structure Env where
  lo : Nat
  chk : Nat → Code → Bool

/-- A row of cells of the abstract machine, as it lies in the model's memory. -/
def Row (base : Env) (ρ : Place) (w : World) (q : Spot) (cells : List Value) : Prop :=
  ∃ (arr : Array Value) (e : TypeId) (lo hi : Nat), w.heap[q.c]? = some (.cells arr e (lo, hi)) ∧ arr.size = q.m ∧ q.o + cells.length ≤ q.m ∧ (base.lo ≤ q.c → q.m ≤ lo ∨ hi ≤ lo) ∧
    (∀ v ∈ cells, isCell v = true) ∧ ∀ (i : Nat) (v : Value), cells[i]? = some v → ∃ v', arr[q.o + i]? = some v' ∧ VRel ρ v v'

theorem Row.mono {base : Env} {ρ ρ' : Place} {w w' : World} {q : Spot} {cells : List Value} (hm : ρ.le ρ') (hw : w'.heap[q.c]? = w.heap[q.c]?) (h : Row base ρ w q cells) : Row base ρ' w' q cells := by
  obtain ⟨arr, e, lo, hi, h1, h0, h2, h3, h4, h5⟩ := h
  refine ⟨arr, e, lo, hi, by rw [hw, h1], h0, h2, h3, h4, fun i v hv => ?_⟩
  obtain ⟨v', h6, h7⟩ := h5 i v hv
  exact ⟨v', h6, h7.mono hm⟩

theorem run_read {P : Program} {w : World} {c o : Nat} {arr : Array Value} {e : TypeId} {f : Nat × Nat} (h : w.heap[c]? = some (.cells arr e f)) (n : Nat) (hn : o + n ≤ arr.size) :
    (loadCells ⟨c, o, none⟩ n).run P w = .ok (arr.toList.drop o |>.take n).toArray w := by
  have := run_loadCells_list (P := P) (w := w) ⟨c, o, none⟩ ((arr.toList.drop o).take n) (by
    intro j v hv
    rw [addr_add, cell_at h]
    have hj : j < n := by
      rcases Nat.lt_or_ge j n with hh | hh
      · exact hh
      · rw [List.getElem?_eq_none (by simp; omega)] at hv; cases hv
    rw [List.getElem?_take_of_lt hj, List.getElem?_drop] at hv
    rw [← Array.getElem?_toList]
    exact hv)
  rw [show ((arr.toList.drop o).take n).length = n from by simp; omega] at this
  exact this

theorem Row.read {base : Env} {ρ : Place} {P : Program} {w : World} {q : Spot} {cells cs : List Value} (h : Row base ρ w q cells) {off n : Nat} (hs : sub cells off n = some cs) :
    ∃ vs : List Value, (loadCells ⟨q.c, q.o + off, none⟩ n).run P w = .ok vs.toArray w ∧ VsRel ρ cs vs ∧ ∀ v ∈ cs, isCell v = true := by
  obtain ⟨arr, e, lo, hi, h1, h0, h2, h3, h4, h5⟩ := h
  obtain ⟨h6, rfl⟩ := sub_eq hs
  refine ⟨_, run_read h1 n (by omega), ?_, fun v hv => h4 v (List.mem_of_mem_drop (List.mem_of_mem_take hv))⟩
  apply VsRel.of_get
  · simp; omega
  · intro i v hv
    have hi' : i < n := by
      rcases Nat.lt_or_ge i n with hh | hh
      · exact hh
      · rw [List.getElem?_eq_none (by simp; omega)] at hv; cases hv
    rw [List.getElem?_take_of_lt hi', List.getElem?_drop] at hv ⊢
    obtain ⟨v', h7, h8⟩ := h5 _ _ hv
    exact ⟨v', by rw [Array.getElem?_toList, show q.o + off + i = q.o + (off + i) from by omega]; exact h7, h8⟩

/-- Cells stored one after the other. -/
def puts (w : World) (c o : Nat) : List Value → World
  | [] => w
  | v :: vs => puts (w.setCell ⟨c, o, none⟩ v) c (o + 1) vs
def arrPut (arr : Array Value) (o : Nat) : List Value → Array Value
  | [] => arr
  | v :: vs => arrPut (arr.setIfInBounds o v) (o + 1) vs
theorem arrPut_size : ∀ (vs : List Value) (arr : Array Value) (o : Nat), (arrPut arr o vs).size = arr.size := by
  intro vs
  induction vs with
  | nil => intro arr o; rfl
  | cons v vs ih => intro arr o; rw [arrPut, ih]; simp
theorem arrPut_get : ∀ (vs : List Value) (arr : Array Value) (o j : Nat), o + vs.length ≤ arr.size →
    (arrPut arr o vs)[j]? = if o ≤ j ∧ j < o + vs.length then vs[j - o]? else arr[j]? := by
  intro vs
  induction vs with
  | nil => intro arr o j _; rw [arrPut, if_neg (by simp only [List.length_nil]; omega)]
  | cons v vs ih =>
    intro arr o j h
    simp only [List.length_cons] at h
    rw [arrPut, ih _ _ _ (by simp; omega)]
    by_cases h1 : o + 1 ≤ j ∧ j < o + 1 + vs.length
    · rw [if_pos h1, if_pos (by simp; omega), show j - o = (j - (o + 1)) + 1 from by omega, List.getElem?_cons_succ]
    · rw [if_neg h1, Array.getElem?_setIfInBounds]
      by_cases h2 : o = j
      · subst h2; rw [if_pos rfl, if_pos (by omega), if_pos (by simp)]; simp
      · rw [if_neg h2, if_neg (by simp; omega)]
theorem setCell_heap {w : World} {c i : Nat} {v : Value} {arr : Array Value} {e : TypeId} {f : Nat × Nat} (h : w.heap[c]? = some (.cells arr e f)) :
    (w.setCell ⟨c, i, none⟩ v).heap[c]? = some (.cells (arr.setIfInBounds i v) e f) := by
  simp [World.setCell, Array.getElem?_modify, h]
theorem setCell_heap_ne {w : World} {c i c' : Nat} {v : Value} (h : c' ≠ c) : (w.setCell ⟨c, i, none⟩ v).heap[c']? = w.heap[c']? := by
  simp only [World.setCell, Array.getElem?_modify]
  rw [if_neg (by simpa using fun hh : c = c' => h hh.symm)]
structure Outside (w w' : World) : Prop where
  os : w'.os = w.os
  tape : w'.tape = w.tape
  output : w'.output = w.output
theorem Outside.refl (w : World) : Outside w w := ⟨rfl, rfl, rfl⟩
theorem Outside.trans {a b c : World} (h : Outside a b) (k : Outside b c) : Outside a c := ⟨k.os.trans h.os, k.tape.trans h.tape, k.output.trans h.output⟩
theorem puts_facts : ∀ (vs : List Value) (w : World) (c o : Nat) (arr : Array Value) (e : TypeId) (f : Nat × Nat), w.heap[c]? = some (.cells arr e f) →
    (puts w c o vs).heap[c]? = some (.cells (arrPut arr o vs) e f) ∧ (∀ c', c' ≠ c → (puts w c o vs).heap[c']? = w.heap[c']?) ∧ (puts w c o vs).heap.size = w.heap.size ∧ Outside w (puts w c o vs) := by
  intro vs
  induction vs with
  | nil => intro w c o arr e f h; exact ⟨h, fun _ _ => rfl, rfl, .refl _⟩
  | cons v vs ih =>
    intro w c o arr e f h
    obtain ⟨h1, h2, h3, h4⟩ := ih (w.setCell ⟨c, o, none⟩ v) c (o + 1) _ e f (setCell_heap h)
    exact ⟨h1, fun c' hc => by rw [puts, h2 c' hc, setCell_heap_ne hc], by rw [puts, h3]; simp, Outside.trans (b := w.setCell ⟨c, o, none⟩ v) ⟨rfl, rfl, rfl⟩ h4⟩
theorem oneCell_of_isCell {v : Value} (h : isCell v = true) : v.oneCell' = true := by cases v <;> first | rfl | simp [isCell] at h
theorem run_storeCells {P : Program} (c o : Nat) : ∀ (vs : List Value) (w : World) (i : Nat) (arr : Array Value) (e : TypeId) (lo hi : Nat), w.heap[c]? = some (.cells arr e (lo, hi)) →
    o + i + vs.length ≤ arr.size → (arr.size ≤ lo ∨ hi ≤ lo) → (∀ v ∈ vs, isCell v = true) → (storeCells ⟨c, o, none⟩ vs i).run P w = .ok () (puts w c (o + i) vs) := by
  intro vs
  induction vs with
  | nil => intro w i arr e lo hi _ _ _ _; rfl
  | cons v vs ih =>
    intro w i arr e lo hi h h1 h2 h3
    simp only [List.length_cons] at h1
    unfold storeCells
    rw [Sem.run_bind, addr_add, run_store _ _ _ _ _ (oneCell_of_isCell (h3 v (by simp)))]
    have hc : w.cell? ⟨c, o + i, none⟩ = some arr[o + i] := by rw [cell_at h]; exact Array.getElem?_eq_getElem (by omega)
    rw [hc]
    have hf : w.frozen? ⟨c, o + i, none⟩ = false := by
      simp only [World.frozen?, h]
      rcases h2 with h2 | h2
      · simp; omega
      · simp; omega
    simp only [hf, Bool.false_eq_true, if_false, Result.andThen_ok]
    rw [ih (w.setCell ⟨c, o + i, none⟩ v) (i + 1) _ e lo hi (setCell_heap h) (by simp; omega) (by simpa using h2) (fun v hv => h3 v (by simp [hv]))]
    rfl

/-- The entries of a map. -/
inductive Entries (ρ : Place) : List Value → List MapEntry → Prop
  | nil : Entries ρ [] []
  | cons {k v : Value} {e : MapEntry} {l : List Value} {es : List MapEntry} (hk : flat k = true) (he : e.key = k) (hv : VRel ρ v e.val) (h : Entries ρ l es) : Entries ρ (k :: v :: l) (e :: es)
theorem Entries.mono {ρ ρ' : Place} (hm : ρ.le ρ') {l : List Value} {es : List MapEntry} (h : Entries ρ l es) : Entries ρ' l es := by
  induction h with
  | nil => exact .nil
  | cons hk he hv _ ih => exact .cons hk he (hv.mono hm) ih
/-- A map, as it lies in the model's memory. -/
def MapRow (ρ : Place) (w : World) (c : Nat) (cells : List Value) : Prop := ∃ (es : Array MapEntry) (clock : Nat), w.heap[c]? = some (.map es clock) ∧ Entries ρ cells es.toList


/-- The record of a range over a function, as it lies in the model's memory. -/
structure LoopRow (base : Env) (ρ : Place) (w : World) (c : Nat) (fr : Fr) (ps : List Nat) (assign body : Code) (st : LoopState) (pend : Option Code) (r : Loop) : Prop where
  lies : w.heap[c]? = some (.loop r)
  hst : r.state = st
  hpend : r.pending = pend
  hps : r.params.toList = ps
  has : r.assign = assign
  hbd : r.body = body
  hfr : ∀ t v, fr.get t = some v → ∃ v', r.tmps[t]? = some v' ∧ VRel ρ v v'
  hlt : ∀ p ∈ ps, p < r.tmps.size
  hchk : ∃ n, n ≤ r.tmps.size ∧ base.chk n assign = true ∧ base.chk n body = true
theorem LoopRow.mono {base : Env} {ρ ρ' : Place} {w w' : World} {c : Nat} {fr : Fr} {ps : List Nat} {assign body : Code} {st : LoopState} {pend : Option Code} {r : Loop} (hm : ρ.le ρ') (hw : w'.heap[c]? = w.heap[c]?)
    (h : LoopRow base ρ w c fr ps assign body st pend r) : LoopRow base ρ' w' c fr ps assign body st pend r :=
  ⟨by rw [hw]; exact h.lies, h.hst, h.hpend, h.hps, h.has, h.hbd, fun t v ht => let ⟨v', h1, h2⟩ := h.hfr t v ht; ⟨v', h1, h2.mono hm⟩, h.hlt, h.hchk⟩

/-- What is known of the type of a block's cells. -/
def Typed (w : World) (q : Spot) (t : Option TypeId) : Prop := ∀ x, t = some x → q.o = 0 ∧ ∃ arr f, w.heap[q.c]? = some (.cells arr x f)
theorem Typed.none {w : World} {q : Spot} : Typed w q none := fun _ h => by cases h
theorem Typed.mono {w w' : World} {q : Spot} {t : Option TypeId} (hw : w'.heap[q.c]? = w.heap[q.c]?) (h : Typed w q t) : Typed w' q t := fun x hx => by rw [hw]; exact h x hx
/-- A block, as it lies in the model's memory. -/
def Sits (base : Env) (ρ : Place) (w : World) (q : Spot) (B : Blk) : Prop := match B.kind with
  | .row t => Row base ρ w q B.cells ∧ Typed w q t
  | .map => MapRow ρ w q.c B.cells
  | .loop fr ps assign body st pend => ∃ r, LoopRow base ρ w q.c fr ps assign body st pend r
theorem Sits.mono {base : Env} {ρ ρ' : Place} {w w' : World} {q : Spot} {B : Blk} (hm : ρ.le ρ') (hw : w'.heap[q.c]? = w.heap[q.c]?) (h : Sits base ρ w q B) : Sits base ρ' w' q B := by
  unfold Sits at h ⊢
  split
  · rename_i hk; rw [hk] at h; exact ⟨Row.mono hm hw h.1, h.2.mono hw⟩
  · rename_i hk
    rw [hk] at h
    obtain ⟨es, clock, h1, h2⟩ := h
    exact ⟨es, clock, by rw [hw, h1], h2.mono hm⟩
  · rename_i hk
    rw [hk] at h
    obtain ⟨r, h⟩ := h
    exact ⟨r, h.mono hm hw⟩
theorem Sits.row {base : Env} {ρ : Place} {w : World} {q : Spot} {B : Blk} {t : Option TypeId} (hk : B.kind = .row t) (h : Row base ρ w q B.cells) (ht : Typed w q t := by exact Typed.none) : Sits base ρ w q B := by
  unfold Sits; rw [hk]; exact ⟨h, ht⟩
theorem Sits.map {base : Env} {ρ : Place} {w : World} {q : Spot} {B : Blk} (hk : B.kind = .map) (h : MapRow ρ w q.c B.cells) : Sits base ρ w q B := by
  unfold Sits; rw [hk]; exact h
theorem Sits.loop {base : Env} {ρ : Place} {w : World} {q : Spot} {B : Blk} {fr : Fr} {ps : List Nat} {assign body : Code} {st : LoopState} {pend : Option Code} {r : Loop} (hk : B.kind = .loop fr ps assign body st pend)
    (h : LoopRow base ρ w q.c fr ps assign body st pend r) : Sits base ρ w q B := by
  unfold Sits; rw [hk]; exact ⟨r, h⟩

/-- The abstract machine's memory and the model's: 'base.lo' is the first block that the machine may write. -/
structure Rel (base : Env) (ρ : Place) (σ : St) (w : World) : Prop where
  fresh : ∀ b, σ.n ≤ b → σ.h.get b = none
  sits : ∀ b q B, ρ b = some q → σ.blk b = some B → Sits base ρ w q B
  dom : ∀ b q, ρ b = some q → q.c < w.heap.size
  own : ∀ b q B, ρ b = some q → σ.blk b = some B → B.own = true → base.lo ≤ q.c
  sep : ∀ b q B b' q', ρ b = some q → σ.blk b = some B → B.own = true → b' ≠ b → ρ b' = some q' → (σ.n ≤ b' ∨ ∃ B', σ.blk b' = some B') → q'.c ≠ q.c
  low : base.lo ≤ w.heap.size

theorem blk_get {σ : St} {b : Nat} {B : Blk} (h : σ.blk b = some B) : σ.h.get b = some B ∧ B.live = true := by
  obtain ⟨B', h1, h2⟩ := ob_eq h
  obtain ⟨h3, h4⟩ := bb_eq h2
  cases h4
  exact ⟨h1, h3⟩
theorem blk_of {σ : St} {b : Nat} {B : Blk} (h : σ.h.get b = some B) (hl : B.live = true) : σ.blk b = some B := by
  show ob (σ.h.get b) (fun B => bb B.live (some B)) = _
  rw [h]
  show bb B.live (some B) = _
  rw [hl]; rfl
theorem rblk_blk {σ : St} {b : Nat} {B : Blk} (h : σ.rblk b = some B) : σ.blk b = some B ∧ ∃ t, B.kind = .row t := by
  obtain ⟨B', h1, h2⟩ := ob_eq h
  obtain ⟨cells, live, own, ver, kind⟩ := B'
  cases kind with
  | row => cases h2; exact ⟨h1, _, rfl⟩
  | map => cases h2
  | loop => cases h2
theorem rblk_of {σ : St} {b : Nat} {B : Blk} {t : Option TypeId} (h : σ.blk b = some B) (hk : B.kind = .row t) : σ.rblk b = some B := by
  show ob (σ.blk b) _ = _
  rw [h]
  obtain ⟨cells, live, own, ver, kind⟩ := B
  cases hk
  rfl
theorem mblk_blk {σ : St} {b : Nat} {B : Blk} (h : σ.mblk b = some B) : σ.blk b = some B ∧ B.kind = .map := by
  obtain ⟨B', h1, h2⟩ := ob_eq h
  obtain ⟨cells, live, own, ver, kind⟩ := B'
  cases kind with
  | row => cases h2
  | map => cases h2; exact ⟨h1, rfl⟩
  | loop => cases h2
theorem Rel.row {base : Env} {ρ : Place} {σ : St} {w : World} (h : Rel base ρ σ w) (b : Nat) (q : Spot) (B : Blk) (hb : ρ b = some q) (hB : σ.rblk b = some B) : Row base ρ w q B.cells := by
  obtain ⟨h1, t, h2⟩ := rblk_blk hB
  have := h.sits b q B hb h1
  unfold Sits at this
  rw [h2] at this
  exact this.1
theorem Rel.typed {base : Env} {ρ : Place} {σ : St} {w : World} (h : Rel base ρ σ w) {b : Nat} {q : Spot} {B : Blk} {t : Option TypeId} (hb : ρ b = some q) (hB : σ.blk b = some B) (hk : B.kind = .row t) : Typed w q t := by
  have := h.sits b q B hb hB
  unfold Sits at this
  rw [hk] at this
  exact this.2
theorem Rel.map {base : Env} {ρ : Place} {σ : St} {w : World} (h : Rel base ρ σ w) (b : Nat) (q : Spot) (B : Blk) (hb : ρ b = some q) (hB : σ.mblk b = some B) : MapRow ρ w q.c B.cells := by
  obtain ⟨h1, h2⟩ := mblk_blk hB
  have := h.sits b q B hb h1
  unfold Sits at this
  rw [h2] at this
  exact this
theorem Rel.lt {base : Env} {ρ : Place} {σ : St} {w : World} (h : Rel base ρ σ w) {b : Nat} {B : Blk} (hb : σ.blk b = some B) : b < σ.n := by
  rcases Nat.lt_or_ge b σ.n with hh | hh
  · exact hh
  · exact absurd (blk_get hb).1 (by rw [h.fresh b hh]; simp)

/-- What a piece of a run leaves as it was. -/
structure Fram (ρ : Place) (σ : St) (w : World) (ρ' : Place) (σ' : St) (w' : World) : Prop where
  ext : ∀ b, b < σ.n ∨ σ'.n ≤ b → ρ' b = ρ b
  n : σ.n ≤ σ'.n
  size : w.heap.size ≤ w'.heap.size
  keep : ∀ c, c < w.heap.size → (∀ b q B, ρ b = some q → q.c = c → σ.blk b = some B → B.own = false) → w'.heap[c]? = w.heap[c]?
  owned : ∀ b q B, ρ' b = some q → σ'.blk b = some B → q.c < w.heap.size → ∃ b₀ q₀ B₀, ρ b₀ = some q₀ ∧ q₀.c = q.c ∧ σ.blk b₀ = some B₀ ∧ (B.own = true → B₀.own = true)
  out : Outside w w'
  same : ∀ b, b < σ.n → ρ b = none → σ'.h.get b = σ.h.get b

theorem Fram.refl (ρ : Place) (σ : St) (w : World) : Fram ρ σ w ρ σ w :=
  ⟨fun _ _ => rfl, Nat.le_refl _, Nat.le_refl _, fun _ _ _ => rfl, fun b q B h1 h2 _ => ⟨b, q, B, h1, rfl, h2, fun h => h⟩, .refl _, fun _ _ _ => rfl⟩
theorem Fram.trans {ρ ρ' ρ'' : Place} {σ σ' σ'' : St} {w w' w'' : World} (h : Fram ρ σ w ρ' σ' w') (k : Fram ρ' σ' w' ρ'' σ'' w'') : Fram ρ σ w ρ'' σ'' w'' := by
  have hn := h.n
  have kn := k.n
  refine ⟨fun b hb => ?_, Nat.le_trans h.n k.n, Nat.le_trans h.size k.size, fun c hc ho => ?_, fun b q B h1 h2 hc => ?_, h.out.trans k.out, fun b h1 h2 => ?_⟩
  · rw [k.ext b (by omega), h.ext b (by omega)]
  · rw [k.keep c (Nat.lt_of_lt_of_le hc h.size) ?_, h.keep c hc ho]
    intro b q B h1 hq h2
    cases hB : B.own with
    | false => rfl
    | true =>
      obtain ⟨b₀, q₀, B₀, k1, k2, k3, k4⟩ := h.owned b q B h1 h2 (by omega)
      have k5 := k4 hB
      rw [ho b₀ q₀ B₀ k1 (by omega) k3] at k5; cases k5
  · obtain ⟨b₀, q₀, B₀, k1, k2, k3, k4⟩ := k.owned b q B h1 h2 (Nat.lt_of_lt_of_le hc h.size)
    obtain ⟨b₁, q₁, B₁, j1, j2, j3, j4⟩ := h.owned b₀ q₀ B₀ k1 k3 (by omega)
    exact ⟨b₁, q₁, B₁, j1, by omega, j3, fun hO => j4 (k4 hO)⟩
  · rw [k.same b (by omega) (by rw [h.ext b (.inl h1)]; exact h2), h.same b h1 h2]

/-- No block from the next on, up to a bound, has a place yet. -/
def Free (ρ : Place) (n N : Nat) : Prop := ∀ b, n ≤ b → b < N → ρ b = none
theorem Fram.le {ρ ρ' : Place} {σ σ' : St} {w w' : World} (h : Fram ρ σ w ρ' σ' w') {N : Nat} (hf : Free ρ σ.n N) (hN : σ'.n ≤ N) : ρ.le ρ' := by
  intro b p hp
  rw [h.ext b ?_]
  · exact hp
  · rcases Nat.lt_or_ge b σ.n with hh | hh
    · exact .inl hh
    · rcases Nat.lt_or_ge b σ'.n with hh' | hh'
      · rw [hf b hh (by omega)] at hp; cases hp
      · exact .inr hh'
theorem Fram.free {ρ ρ' : Place} {σ σ' : St} {w w' : World} (h : Fram ρ σ w ρ' σ' w') {N : Nat} (hf : Free ρ σ.n N) : Free ρ' σ'.n N := by
  intro b h1 h2
  rw [h.ext b (.inr h1)]
  exact hf b (Nat.le_trans h.n h1) h2

/-- A new block. -/
def Place.put (ρ : Place) (n : Nat) (q : Spot) : Place := fun b => if b = n then some q else ρ b
theorem Place.put_same (ρ : Place) (n : Nat) (q : Spot) : (ρ.put n q) n = some q := by unfold Place.put; rw [if_pos rfl]
theorem Place.put_ne (ρ : Place) {n b : Nat} (q : Spot) (h : b ≠ n) : (ρ.put n q) b = ρ b := by unfold Place.put; rw [if_neg h]
theorem Place.put_le {ρ : Place} {n : Nat} (q : Spot) (hf : ρ n = none) : ρ.le (ρ.put n q) := by
  intro b p hp
  by_cases hb : b = n
  · subst hb; rw [hf] at hp; cases hp
  · rw [Place.put_ne _ _ hb]; exact hp
theorem newK_blk_same (σ : St) (cs : List Value) (k : Kind) : (σ.newK cs k).blk σ.n = some ⟨cs, true, true, 0, k⟩ := blk_of (Tr.get_set_same _ _ _) rfl
theorem newK_blk_ne (σ : St) (cs : List Value) (k : Kind) {b : Nat} (h : b ≠ σ.n) : (σ.newK cs k).blk b = σ.blk b := by
  show ob ((σ.h.set σ.n _).get b) _ = _
  rw [Tr.get_set_ne _ _ h]; rfl
theorem new_blk_same (σ : St) (cs : List Value) (t : Option TypeId := none) : (σ.new cs t).blk σ.n = some ⟨cs, true, true, 0, .row t⟩ := blk_of (Tr.get_set_same _ _ _) rfl
theorem new_blk_ne (σ : St) (cs : List Value) {t : Option TypeId} {b : Nat} (h : b ≠ σ.n) : (σ.new cs t).blk b = σ.blk b := by
  show ob ((σ.h.set σ.n _).get b) _ = _
  rw [Tr.get_set_ne _ _ h]; rfl

/-- A new block of the abstract machine that lies at a place of which no block that lives has a part. -/
theorem Rel.putK {base : Env} {ρ : Place} {σ : St} {w w' : World} (h : Rel base ρ σ w) (hf : ρ σ.n = none) {cs : List Value} {k : Kind} {q : Spot} (hrow : Sits base (ρ.put σ.n q) w' q ⟨cs, true, true, 0, k⟩)
    (hs : w.heap.size ≤ w'.heap.size) (hold : ∀ c, c < w.heap.size → c ≠ q.c → w'.heap[c]? = w.heap[c]?)
    (hq : q.c < w'.heap.size) (hb : base.lo ≤ q.c) (hno : ∀ b q' , ρ b = some q' → (σ.n ≤ b ∨ ∃ B, σ.blk b = some B) → q'.c ≠ q.c) :
    Rel base (ρ.put σ.n q) (σ.newK cs k) w' := by
  have hle := Place.put_le q hf
  have hsame := Place.put_same ρ σ.n q
  have hne : ∀ b, b ≠ σ.n → (ρ.put σ.n q) b = ρ b := fun b hb => Place.put_ne _ _ hb
  refine ⟨?_, ?_, ?_, ?_, ?_, ?_⟩
  · intro b hb
    change σ.n + 1 ≤ b at hb
    show (σ.h.set σ.n _).get b = none
    rw [Tr.get_set_ne _ _ (by omega)]; exact h.fresh b (by omega)
  · intro b q' B hb hB
    by_cases hbn : b = σ.n
    · subst hbn
      rw [hsame] at hb; cases hb
      rw [newK_blk_same] at hB; cases hB
      exact hrow
    · rw [hne b hbn] at hb
      rw [newK_blk_ne _ _ _ hbn] at hB
      exact (h.sits b q' B hb hB).mono hle (hold q'.c (h.dom b q' hb) (hno b q' hb (.inr ⟨B, hB⟩)))
  · intro b q' hb
    by_cases hbn : b = σ.n
    · subst hbn; rw [hsame] at hb; cases hb; exact hq
    · rw [hne b hbn] at hb; have := h.dom b q' hb; omega
  · intro b q' B hb' hB hO
    by_cases hbn : b = σ.n
    · subst hbn; rw [hsame] at hb'; cases hb'; exact hb
    · rw [hne b hbn] at hb'; rw [newK_blk_ne _ _ _ hbn] at hB; exact h.own b q' B hb' hB hO
  · intro b q1 B b' q2 hb1 hB hO hbb hb2 hl
    by_cases hbn : b = σ.n
    · subst hbn
      rw [hsame] at hb1; cases hb1
      rw [hne b' hbb] at hb2
      rw [newK_blk_ne _ _ _ hbb] at hl
      refine hno b' q2 hb2 ?_
      rcases hl with hl | hl
      · change σ.n + 1 ≤ b' at hl; exact .inl (by omega)
      · exact .inr hl
    · rw [hne b hbn] at hb1; rw [newK_blk_ne _ _ _ hbn] at hB
      by_cases hbn' : b' = σ.n
      · subst hbn'; rw [hsame] at hb2; cases hb2
        exact fun e => hno b q1 hb1 (.inr ⟨B, hB⟩) e.symm
      · rw [hne b' hbn'] at hb2; rw [newK_blk_ne _ _ _ hbn'] at hl
        refine h.sep b q1 B b' q2 hb1 hB hO hbb hb2 ?_
        rcases hl with hl | hl
        · change σ.n + 1 ≤ b' at hl; exact .inl (by omega)
        · exact .inr hl
  · have := h.low; omega

theorem Rel.put {base : Env} {ρ : Place} {σ : St} {w w' : World} (h : Rel base ρ σ w) (hf : ρ σ.n = none) {cs : List Value} {t : Option TypeId} {q : Spot} (hrow : Row base (ρ.put σ.n q) w' q cs)
    (hs : w.heap.size ≤ w'.heap.size) (hold : ∀ c, c < w.heap.size → c ≠ q.c → w'.heap[c]? = w.heap[c]?)
    (hq : q.c < w'.heap.size) (hb : base.lo ≤ q.c) (hno : ∀ b q' , ρ b = some q' → (σ.n ≤ b ∨ ∃ B, σ.blk b = some B) → q'.c ≠ q.c) (ht : Typed w' q t := by exact Typed.none) :
    Rel base (ρ.put σ.n q) (σ.new cs t) w' := h.putK hf (.row rfl hrow ht) hs hold hq hb hno

theorem Rel.new {base : Env} {ρ : Place} {σ : St} {w w' : World} (h : Rel base ρ σ w) (hf : ρ σ.n = none) {cs : List Value} {t : Option TypeId} {arr : Array Value} {e : TypeId} {lo hi : Nat}
    (hs : w'.heap.size = w.heap.size + 1) (hnew : w'.heap[w.heap.size]? = some (.cells arr e (lo, hi))) (hold : ∀ c, c < w.heap.size → w'.heap[c]? = w.heap[c]?)
    (ho : Outside w w') (hfz : arr.size ≤ lo ∨ hi ≤ lo) (hc : ∀ v ∈ cs, isCell v = true) (hv : ∃ vs more, arr.toList = vs ++ more ∧ VsRel ρ cs vs) (ht : ∀ x, t = some x → x = e := by exact fun _ h => by cases h) :
    Rel base (ρ.put σ.n ⟨w.heap.size, 0, arr.size⟩) (σ.new cs t) w' ∧ Fram ρ σ w (ρ.put σ.n ⟨w.heap.size, 0, arr.size⟩) (σ.new cs t) w' := by
  have hle := Place.put_le ⟨w.heap.size, 0, arr.size⟩ hf
  refine ⟨h.put hf ?_ (by omega) (fun c hc _ => hold c hc) (by show w.heap.size < _; omega) h.low (fun b q' hb _ => by have := h.dom b q' hb; show q'.c ≠ w.heap.size; omega) (fun x hx => by cases ht x hx; exact ⟨rfl, _, _, hnew⟩), ⟨?_, ?_, ?_, ?_, ?_, ho, fun b h1 _ => Tr.get_set_ne _ _ (by omega)⟩⟩
  · obtain ⟨vs, more, h1, h2⟩ := hv
    have hl := h2.length
    refine ⟨arr, e, lo, hi, hnew, rfl, ?_, fun _ => hfz, hc, fun i v hi' => ?_⟩
    · show 0 + cs.length ≤ arr.size
      rw [← Array.length_toList, h1]; simp; omega
    · obtain ⟨v', h3, h4⟩ := h2.get hi'
      refine ⟨v', ?_, h4.mono hle⟩
      show arr[0 + i]? = _
      rw [← Array.getElem?_toList, h1, Nat.zero_add, List.getElem?_append_left (List.getElem?_eq_some_iff.1 h3).1]
      exact h3
  · intro b hb
    refine Place.put_ne _ _ ?_
    rcases hb with hb | hb
    · omega
    · change σ.n + 1 ≤ b at hb; omega
  · show σ.n ≤ σ.n + 1; omega
  · omega
  · intro c hc' _; exact hold c hc'
  · intro b q B hb hB hcs
    by_cases hbn : b = σ.n
    · subst hbn; rw [Place.put_same] at hb; cases hb; change w.heap.size < w.heap.size at hcs; omega
    · rw [Place.put_ne _ _ hbn] at hb; rw [new_blk_ne _ _ hbn] at hB; exact ⟨b, q, B, hb, rfl, hB, fun h => h⟩

/-- A write. -/
theorem write_facts {σ σ' : St} {b off : Nat} {vs : List Value} (h : σ.write b off vs = some σ') :
    ∃ B cs, σ.rblk b = some B ∧ B.own = true ∧ off + vs.length ≤ B.cells.length ∧ cs = B.cells.take off ++ vs ++ B.cells.drop (off + vs.length) ∧ σ' = ⟨σ.h.set b ⟨cs, true, true, B.ver + 1, B.kind⟩, σ.n⟩ := by
  obtain ⟨B, h1, h2⟩ := ob_eq h
  obtain ⟨h3, h4⟩ := bb_eq h2
  obtain ⟨cs, h5, h6⟩ := ob_eq h4
  cases h6
  obtain ⟨h7, h8⟩ := splice_eq _ _ _ _ h5
  exact ⟨B, cs, h1, h3, h7, h8, rfl⟩
theorem set_blk_same (σ : St) (b : Nat) (cs : List Value) (k : Nat) (K : Kind) : (⟨σ.h.set b ⟨cs, true, true, k, K⟩, σ.n⟩ : St).blk b = some ⟨cs, true, true, k, K⟩ := blk_of (Tr.get_set_same _ _ _) rfl
theorem set_blk_ne (σ : St) {b b' : Nat} (B : Blk) (h : b' ≠ b) : (⟨σ.h.set b B, σ.n⟩ : St).blk b' = σ.blk b' := by
  show ob ((σ.h.set b B).get b') _ = _
  rw [Tr.get_set_ne _ _ h]; rfl
theorem splice_get {α : Type} {l vs : List α} {off : Nat} (h : off + vs.length ≤ l.length) (i : Nat) :
    (l.take off ++ vs ++ l.drop (off + vs.length))[i]? = if off ≤ i ∧ i < off + vs.length then vs[i - off]? else l[i]? := by
  rw [List.append_assoc]
  by_cases h1 : i < off
  · rw [if_neg (by omega), List.getElem?_append_left (by simp; omega), List.getElem?_take_of_lt h1]
  · rw [List.getElem?_append_right (by simp; omega)]
    simp only [List.length_take]
    rw [show min off l.length = off from by omega]
    by_cases h2 : i < off + vs.length
    · rw [if_pos (by omega), List.getElem?_append_left (by omega)]
    · rw [if_neg (by omega), List.getElem?_append_right (by omega), List.getElem?_drop]
      congr 1; omega
theorem VsRel.isCells {ρ : Place} {vs vs' : List Value} (hr : VsRel ρ vs vs') (hc : ∀ v ∈ vs, isCell v = true) : ∀ v ∈ vs', isCell v = true := by
  intro v hv
  have hl := hr.length
  obtain ⟨i, hi'⟩ := List.getElem?_of_mem hv
  have hi2 : i < vs.length := by have := (List.getElem?_eq_some_iff.1 hi').1; omega
  obtain ⟨v', k1, k2⟩ := hr.get (List.getElem?_eq_getElem hi2)
  rw [hi'] at k1; cases k1
  rw [k2.isCell]; exact hc _ (List.getElem_mem hi2)
theorem Rel.write {base : Env} {ρ : Place} {σ σ' : St} {w : World} (h : Rel base ρ σ w) {b off : Nat} {q : Spot} (hb : ρ b = some q) {vs vs' : List Value} (hw : σ.write b off vs = some σ')
    (hr : VsRel ρ vs vs') (hc : ∀ v ∈ vs, isCell v = true) :
    (∀ (P : Program), (storeCells ⟨q.c, q.o + off, none⟩ vs').run P w = .ok () (puts w q.c (q.o + off) vs')) ∧ Rel base ρ σ' (puts w q.c (q.o + off) vs') ∧ Fram ρ σ w ρ σ' (puts w q.c (q.o + off) vs') := by
  obtain ⟨B, cs, hr1, h2, h3, h4, rfl⟩ := write_facts hw
  obtain ⟨arr, e, lo, hi, r1, r0, r2, r3, r4, r5⟩ := h.row b q B hb hr1
  obtain ⟨h1, tk, hk⟩ := rblk_blk hr1
  have r3' := r3 (h.own b q B hb h1 h2)
  have hl := hr.length
  have hc' := hr.isCells hc
  obtain ⟨p1, p2, p3, p4⟩ := puts_facts vs' w q.c (q.o + off) arr e (lo, hi) r1
  refine ⟨fun P => ?_, ⟨?_, ?_, ?_, ?_, ?_, ?_⟩, ⟨?_, ?_, ?_, ?_, ?_, p4, fun b' _ hn => Tr.get_set_ne _ _ (by intro he; subst he; rw [hb] at hn; cases hn)⟩⟩
  · exact run_storeCells q.c (q.o + off) vs' w 0 arr e lo hi r1 (by omega) (by omega) hc'
  · intro b' hb'
    have := h.lt h1
    change σ.n ≤ b' at hb'
    show (σ.h.set b _).get b' = none
    rw [Tr.get_set_ne _ _ (by omega)]; exact h.fresh b' hb'
  · intro b' q' B' hb' hB'
    by_cases hbb : b' = b
    · subst hbb
      rw [hb] at hb'; cases hb'
      rw [set_blk_same] at hB'; cases hB'
      subst h4
      refine .row hk ⟨_, e, lo, hi, p1, by rw [arrPut_size]; exact r0, ?_, r3, ?_, ?_⟩ (fun x hx => by
        obtain ⟨o1, a0, f0, h0⟩ := h.typed hb h1 hk x hx
        rw [r1] at h0; cases h0
        exact ⟨o1, _, _, p1⟩)
      · simp; omega
      · intro v hv
        rcases List.mem_append.1 hv with hv | hv
        · rcases List.mem_append.1 hv with hv | hv
          · exact r4 v (List.mem_of_mem_take hv)
          · exact hc v hv
        · exact r4 v (List.mem_of_mem_drop hv)
      · intro i v hv
        rw [splice_get h3] at hv
        rw [arrPut_get _ _ _ _ (by omega)]
        by_cases hi' : off ≤ i ∧ i < off + vs.length
        · rw [if_pos hi'] at hv
          obtain ⟨v', k1, k2⟩ := hr.get hv
          exact ⟨v', by rw [if_pos (by omega), show q.o + i - (q.o + off) = i - off from by omega]; exact k1, k2⟩
        · rw [if_neg hi'] at hv
          obtain ⟨v', k1, k2⟩ := r5 i v hv
          exact ⟨v', by rw [if_neg (by omega)]; exact k1, k2⟩
    · rw [set_blk_ne _ _ hbb] at hB'
      exact (h.sits b' q' B' hb' hB').mono (Place.le_refl _) (p2 q'.c (h.sep b q B b' q' hb h1 h2 hbb hb' (.inr ⟨B', hB'⟩)))
  · intro b' q' hb'; rw [p3]; exact h.dom b' q' hb'
  · intro b' q' B' hb' hB' hO
    by_cases hbb : b' = b
    · subst hbb; rw [hb] at hb'; cases hb'; exact h.own b' q B hb h1 h2
    · rw [set_blk_ne _ _ hbb] at hB'; exact h.own b' q' B' hb' hB' hO
  · intro b1 q1 B1 b2 q2 k1 k2 k3 k4 k5 k6
    have hl1 : ∃ B0, σ.blk b1 = some B0 ∧ B0.own = true := by
      by_cases hbb : b1 = b
      · subst hbb; exact ⟨B, h1, h2⟩
      · rw [set_blk_ne _ _ hbb] at k2; exact ⟨B1, k2, k3⟩
    obtain ⟨B0, j1, j2⟩ := hl1
    refine h.sep b1 q1 B0 b2 q2 k1 j1 j2 k4 k5 ?_
    rcases k6 with k6 | ⟨B2, k6⟩
    · exact .inl k6
    · by_cases hbb : b2 = b
      · subst hbb; exact .inr ⟨B, h1⟩
      · rw [set_blk_ne _ _ hbb] at k6; exact .inr ⟨B2, k6⟩
  · rw [p3]; exact h.low
  · intro _ _; rfl
  · exact Nat.le_refl _
  · omega
  · intro c' _ hno
    refine p2 c' fun he => ?_
    rw [hno b q B hb he.symm h1] at h2; cases h2
  · intro b' q' B' hb' hB' _
    by_cases hbb : b' = b
    · subst hbb; rw [hb] at hb'; cases hb'; exact ⟨b', q, B, hb, rfl, h1, fun _ => h2⟩
    · rw [set_blk_ne _ _ hbb] at hB'; exact ⟨b', q', B', hb', rfl, hB', fun h => h⟩

/-- A block that is given up. -/
theorem kill_facts {σ σ' : St} {b : Nat} (h : σ.kill b = some σ') : ∃ B, σ.rblk b = some B ∧ B.own = true ∧ σ' = ⟨σ.h.set b ⟨[], false, true, B.ver + 1, .row none⟩, σ.n⟩ := by
  obtain ⟨B, h1, h2⟩ := ob_eq h
  obtain ⟨h3, h4⟩ := bb_eq h2
  cases h4
  exact ⟨B, h1, h3, rfl⟩
theorem kill_blk_same (σ : St) (b k : Nat) : (⟨σ.h.set b ⟨[], false, true, k, .row none⟩, σ.n⟩ : St).blk b = none := by
  show ob ((σ.h.set b _).get b) _ = _
  rw [Tr.get_set_same]; rfl
theorem Rel.kill {base : Env} {ρ : Place} {σ σ' : St} {w : World} (h : Rel base ρ σ w) {b : Nat} (hb : ∃ q, ρ b = some q) (hk : σ.kill b = some σ') : Rel base ρ σ' w ∧ Fram ρ σ w ρ σ' w := by
  obtain ⟨B, hr1, h2, rfl⟩ := kill_facts hk
  have h1 := (rblk_blk hr1).1
  have old : ∀ b' B', (⟨σ.h.set b ⟨[], false, true, B.ver + 1, .row none⟩, σ.n⟩ : St).blk b' = some B' → σ.blk b' = some B' := by
    intro b' B' hB'
    by_cases hbb : b' = b
    · subst hbb; rw [kill_blk_same] at hB'; cases hB'
    · rw [set_blk_ne _ _ hbb] at hB'; exact hB'
  refine ⟨⟨?_, fun b' q' B' hb' hB' => h.sits b' q' B' hb' (old _ _ hB'), h.dom, fun b' q' B' hb' hB' => h.own b' q' B' hb' (old _ _ hB'), ?_, h.low⟩, ⟨fun _ _ => rfl, Nat.le_refl _, Nat.le_refl _, fun _ _ _ => rfl, ?_, .refl _, fun b' _ hn => Tr.get_set_ne _ _ (by intro he; subst he; obtain ⟨q, hq⟩ := hb; rw [hq] at hn; cases hn)⟩⟩
  · intro b' hb'
    have := h.lt h1
    change σ.n ≤ b' at hb'
    show (σ.h.set b _).get b' = none
    rw [Tr.get_set_ne _ _ (by omega)]; exact h.fresh b' hb'
  · intro b1 q1 B1 b2 q2 k1 k2 k3 k4 k5 k6
    refine h.sep b1 q1 B1 b2 q2 k1 (old _ _ k2) k3 k4 k5 ?_
    rcases k6 with k6 | ⟨B2, k6⟩
    · exact .inl k6
    · exact .inr ⟨B2, old _ _ k6⟩
  · intro b' q' B' hb' hB' _; exact ⟨b', q', B', hb', rfl, old _ _ hB', fun h => h⟩

/-- A row that grows in its place: the block that bore it is given up, and a new one lies where it lay. -/
theorem Rel.grow {base : Env} {ρ : Place} {σ σ' : St} {w : World} (h : Rel base ρ σ w) (hf : ρ σ.n = none) {b off : Nat} {q : Spot} (hb : ρ b = some q) {old new new' : List Value}
    (hr : σ.read b off old.length = some old) (hk : σ.kill b = some σ') (hn : VsRel ρ new new') (hc : ∀ v ∈ new, isCell v = true) (hm : q.o + off + old.length + new.length ≤ q.m)
    {t : Option TypeId} (ht : ∀ x, t = some x → off = 0 ∧ q.o = 0 ∧ ∃ arr f, w.heap[q.c]? = some (.cells arr x f) := by exact fun _ h => by cases h) :
    (∀ (P : Program), (storeCells ⟨q.c, q.o + off + old.length, none⟩ new').run P w = .ok () (puts w q.c (q.o + off + old.length) new')) ∧
    Rel base (ρ.put σ.n ⟨q.c, q.o + off, q.m⟩) (σ'.new (old ++ new) t) (puts w q.c (q.o + off + old.length) new') ∧
    Fram ρ σ w (ρ.put σ.n ⟨q.c, q.o + off, q.m⟩) (σ'.new (old ++ new) t) (puts w q.c (q.o + off + old.length) new') := by
  obtain ⟨hk1, hk2⟩ := h.kill ⟨q, hb⟩ hk
  obtain ⟨B, hr1, h2, rfl⟩ := kill_facts hk
  have h1 := (rblk_blk hr1).1
  obtain ⟨B', hB', hsub⟩ := ob_eq hr
  rw [hr1] at hB'; cases hB'
  obtain ⟨hs1, hs2⟩ := sub_eq hsub
  obtain ⟨arr, e, lo, hi, r1, r0, r2, r3, r4, r5⟩ := h.row b q B hb hr1
  have hl := hn.length
  have r3' := r3 (h.own b q B hb h1 h2)
  have hc' := hn.isCells hc
  have hle := Place.put_le (⟨q.c, q.o + off, q.m⟩ : Spot) hf
  have hold : ∀ v ∈ old, isCell v = true := by
    intro v hv; rw [hs2] at hv; exact r4 v (List.mem_of_mem_drop (List.mem_of_mem_take hv))
  obtain ⟨p1, p2, p3, p4⟩ := puts_facts new' w q.c (q.o + off + old.length) arr e (lo, hi) r1
  refine ⟨fun P => run_storeCells q.c (q.o + off + old.length) new' w 0 arr e lo hi r1 (by omega) (by omega) hc', ?_, ⟨?_, ?_, ?_, ?_, ?_, p4, fun b' hlt hn => ?_⟩⟩
  · refine hk1.put (σ := ⟨σ.h.set b _, σ.n⟩) hf (q := ⟨q.c, q.o + off, q.m⟩) ?_ (by omega) (fun c _ hcc => p2 c hcc) (by rw [p3]; exact h.dom b q hb) (h.own b q B hb h1 h2) ?_ (fun x hx => by
        obtain ⟨o1, o2, a0, f0, h0⟩ := ht x hx
        rw [r1] at h0; cases h0
        exact ⟨by show q.o + off = 0; omega, _, _, p1⟩)
    · refine ⟨_, e, lo, hi, p1, by rw [arrPut_size]; exact r0, ?_, r3, ?_, ?_⟩
      · show q.o + off + (old ++ new).length ≤ q.m
        rw [List.length_append]; omega
      · intro v hv
        rcases List.mem_append.1 hv with hv | hv
        · exact hold v hv
        · exact hc v hv
      · intro i v hv
        show ∃ v', (arrPut arr (q.o + off + old.length) new')[q.o + off + i]? = some v' ∧ _
        rw [arrPut_get _ _ _ _ (by omega)]
        by_cases hi' : i < old.length
        · rw [List.getElem?_append_left hi'] at hv
          rw [if_neg (by omega)]
          rw [hs2] at hv
          rw [List.getElem?_take_of_lt hi', List.getElem?_drop] at hv
          obtain ⟨v', k1, k2⟩ := r5 _ v hv
          exact ⟨v', by rw [show q.o + off + i = q.o + (off + i) from by omega]; exact k1, k2.mono hle⟩
        · rw [List.getElem?_append_right (by omega)] at hv
          obtain ⟨v', k1, k2⟩ := hn.get hv
          have := (List.getElem?_eq_some_iff.1 k1).1
          exact ⟨v', by rw [if_pos (by omega), show q.o + off + i - (q.o + off + old.length) = i - old.length from by omega]; exact k1, k2.mono hle⟩
    · intro b' q' hb' hl' hcc
      change q'.c = q.c at hcc
      by_cases hbb : b' = b
      · subst hbb
        rcases hl' with hl' | ⟨B2, hl'⟩
        · have := h.lt h1; change σ.n ≤ b' at hl'; omega
        · rw [kill_blk_same] at hl'; cases hl'
      · refine h.sep b q B b' q' hb h1 h2 hbb hb' ?_ hcc
        rcases hl' with hl' | ⟨B2, hl'⟩
        · exact .inl hl'
        · rw [set_blk_ne _ _ hbb] at hl'; exact .inr ⟨B2, hl'⟩
  · intro b' hb'
    refine Place.put_ne _ _ ?_
    rcases hb' with hb' | hb'
    · omega
    · change σ.n + 1 ≤ b' at hb'; omega
  · show σ.n ≤ σ.n + 1; omega
  · omega
  · intro c _ hno
    refine p2 c fun he => ?_
    rw [hno b q B hb he.symm h1] at h2; cases h2
  · intro b' q' B2 hb' hB2 hcs
    by_cases hbn : b' = σ.n
    · subst hbn; rw [Place.put_same] at hb'; cases hb'; exact ⟨b, q, B, hb, rfl, h1, fun _ => h2⟩
    · rw [Place.put_ne _ _ hbn] at hb'
      have hB3 := new_blk_ne (t := t) (⟨σ.h.set b ⟨[], false, true, B.ver + 1, .row none⟩, σ.n⟩ : St) (old ++ new) (b := b') hbn
      rw [hB3] at hB2
      by_cases hbb : b' = b
      · subst hbb; rw [kill_blk_same] at hB2; cases hB2
      · rw [set_blk_ne _ _ hbb] at hB2; exact ⟨b', q', B2, hb', rfl, hB2, fun h => h⟩
  · show (Tr.set (σ.h.set b _) σ.n _).get b' = _
    rw [Tr.get_set_ne _ _ (by omega), Tr.get_set_ne _ _ (by intro he; subst he; rw [hb] at hn; cases hn)]

end Go.Ab
namespace Go.Ab
open Go

theorem pureRun_sound {α : Type} {P : Program} (s : Sem α) : ∀ {a : α}, pureRun P s = some a → ∀ w, s.run P w = .ok a w := by
  induction s with
  | pure a => intro b h w; cases h; rfl
  | program k ih => intro b h w; exact ih P h w
  | mark m k ih => intro b h w; exact ih h w
  | _ => intro b h; cases h

/-- The operands of an operation are known on both sides. -/
def Known (ρ : Place) (fr : Fr) (ev' : Operand → Value) (l : List Operand) : Prop := ∀ x v, x ∈ l → ev fr x = some v → VRel ρ v (ev' x)
theorem Known.sub {ρ : Place} {fr : Fr} {e : Operand → Value} {l k : List Operand} (h : Known ρ fr e l) (hs : ∀ x, x ∈ k → x ∈ l) : Known ρ fr e k := fun x v hx hv => h x v (hs x hx) hv
theorem Known.evs {ρ : Place} {fr : Fr} {e : Operand → Value} : ∀ {l : List Operand} {vs : List Value}, Known ρ fr e l → Ab.evs fr l = some vs → VsRel ρ vs (l.map e) := by
  intro l
  induction l with
  | nil => intro vs _ h; cases h; exact .nil
  | cons x l ih =>
    intro vs hk h
    obtain ⟨v, h1, h2⟩ := ob_eq (show ob (ev fr x) (fun v => ob (Ab.evs fr l) fun vs => some (v :: vs)) = some vs from h)
    obtain ⟨us, h3, h4⟩ := ob_eq h2
    cases h4
    exact .cons (hk x v (by simp) h1) (ih (hk.sub fun y hy => by simp [hy]) h3)

section
variable {P : Program} {ρ : Place} {fr : Fr} {e : Operand → Value} {o : Oper} {w : World} {v : Value}

/-- What is to be shown of an operation on values alone. -/
def PureOk (P : Program) (ρ : Place) (e : Operand → Value) (o : Oper) (w : World) (v : Value) : Prop := ∃ v', (execOp e o).run P w = .ok (.value v') w ∧ VRel ρ v v'

theorem asInt_rel {v v' : Value} {n : Nat} (h : VRel ρ v v') (hn : nat? v = some n) : ∃ k, v' = .int k (Int.ofNat n) := by
  cases v with
  | int k m =>
    cases m with
    | ofNat m => cases hn; cases h; exact ⟨k, rfl⟩
    | negSucc m => cases hn
  | _ => cases hn
theorem evN_rel {x : Operand} {n : Nat} {l : List Operand} (hk : Known ρ fr e l) (hx : x ∈ l) (h : evN fr x = some n) : ∃ k, e x = .int k (Int.ofNat n) := by
  obtain ⟨v, h1, h2⟩ := ob_eq h
  exact asInt_rel (hk x v hx h1) h2
theorem at_rel {v v' : Value} {b off : Nat} (h : VRel ρ v v') (hb : at? v = some (b, off)) : ∃ q, ρ b = some q ∧ v' = .pointer (some ⟨q.c, q.o + off, none⟩) := by
  unfold at? at hb
  split at hb
  · cases hb
    cases h with
    | ptr hq => exact ⟨_, hq, rfl⟩
    | scal h => simp [scal] at h
  · cases hb

theorem size_of {t : TypeId} {n : Nat} (h : size? P t = some n) (w : World) : (sizeOf t).run P w = .ok n w := by
  unfold size? at h
  split at h
  · rename_i i hi
    cases h
    simp [sizeOf, typeInfo, hi]
  · cases h
theorem info_of {t : TypeId} {i : TypeInfo} (h : P.info? t = some i) (w : World) : (typeInfo t).run P w = .ok i w := by simp [typeInfo, h]
theorem under_of {t : TypeId} {d : TypeDesc} (h : P.underlying t = some d) (w : World) : (underlying t).run P w = .ok d w := by simp [underlying, h]
theorem agg_of {t : TypeId} {g : Bool} (h : isAgg? P t = some g) (w : World) : (isAgg t).run P w = .ok g w := by
  unfold isAgg? at h
  split at h
  · rename_i d hd
    cases h
    simp only [isAgg, Sem.run_bind, under_of hd, Result.andThen_ok]
    cases d <;> rfl
  · cases h
theorem elem_of {t e : TypeId} (h : elem? P t = some e) : P.underlying t = some (.slice e) := by
  unfold elem? at h
  split at h
  · cases h; assumption
  · cases h
theorem zero_of {t : TypeId} {z : Value} (h : zero? P t = some z) (w : World) : (zeroValue t).run P w = .ok z w ∧ VRel ρ z z ∧ ∃ i, P.info? t = some i ∧ i.zero = some z := by
  obtain ⟨i, h1, h2⟩ := ob_eq h
  obtain ⟨z', h3, h4⟩ := ob_eq h2
  obtain ⟨h5, h6⟩ := VRel.cst (ρ := ρ) h4
  subst h5
  exact ⟨by simp [zeroValue, typeInfo, h1, h3], h6, i, h1, h3⟩

theorem part_rel {t : TypeId} {cs cs' : List Value} {off : Nat} (hr : VsRel ρ cs cs') (hc : ∀ v ∈ cs, isCell v = true) (h : partV P t cs off = some v) :
    ∃ v', (part t ⟨cs'⟩ off).run P w = .ok v' w ∧ VRel ρ v v' := by
  obtain ⟨g, h1, h2⟩ := ob_eq h
  have hg := agg_of h1 w
  cases g with
  | true =>
    obtain ⟨n, h3, h4⟩ := ob_eq (show ob (size? P t) _ = some v from h2)
    obtain ⟨l, h5, h6⟩ := ob_eq h4
    cases h6
    obtain ⟨h7, rfl⟩ := sub_eq h5
    refine ⟨.agg ((⟨cs'⟩ : Array Value).extract off (off + n)), ?_, ?_⟩
    · simp only [part, Sem.run_bind, hg, Result.andThen_ok, if_true, size_of h3, Sem.run_pure]
    · have hx : (⟨cs'⟩ : Array Value).extract off (off + n) = ⟨(cs'.drop off).take n⟩ := by
        rw [← Array.toList_inj, Array.toList_extract, List.extract_eq_take_drop]
        simp
      rw [hx]
      exact .agg (fun u hu => hc u (List.mem_of_mem_drop (List.mem_of_mem_take hu))) ((hr.drop off).take n)
  | false =>
    obtain ⟨l, h3, h4⟩ := ob_eq (show ob (sub cs off 1) _ = some v from h2)
    obtain ⟨h7, rfl⟩ := sub_eq h3
    have hv : cs[off]? = some v := by
      unfold oneV at h4
      split at h4
      · rename_i u hu
        cases h4
        have := congrArg (fun l : List Value => l[0]?) hu
        simpa [List.getElem?_take] using this
      · cases h4
    obtain ⟨v', h8, h9⟩ := hr.get hv
    refine ⟨v', ?_, h9⟩
    have h8' : (⟨cs'⟩ : Array Value)[off]? = some v' := by simpa using h8
    simp only [part, Sem.run_bind, hg, Result.andThen_ok, Bool.false_eq_true, if_false, h8', Sem.run_pure]

theorem flatV_sound (hk : Known ρ fr e o.op.operands.toList) (hs : ∀ cs b, o.op ≠ .select cs b) (hf : ∀ x ∈ o.op.operands.toList, ∃ u, ev fr x = some u ∧ flat u = true)
    (h : flatV P fr o = some v) : PureOk P ρ e o w v := by
  obtain ⟨u, h1, h2⟩ := ob_eq h
  obtain ⟨h3, h4⟩ := VRel.cst (ρ := ρ) h2
  subst h3
  have hc : execOp (fun x => (ev fr x).getD undefV) o = execOp e o := by
    apply execOp_congr o hs
    intro x hx
    obtain ⟨u, h5, h6⟩ := hf x (by simpa using hx)
    rw [h5]
    exact ((hk x u (by simpa using hx) h5).flat h6).symm
  rw [hc] at h1
  unfold nextV at h1
  split at h1
  · rename_i v0 hv0
    cases h1
    exact ⟨_, pureRun_sound _ hv0 w, h4⟩
  · cases h1

theorem ilt_iff (a b : Int) : ilt a b = decide (a < b) := by
  rw [Bool.eq_iff_iff, decide_eq_true_iff]
  cases a with
  | ofNat a =>
    cases b with
    | ofNat b => show Nat.blt a b = true ↔ _; rw [Nat.blt_eq]; simp only [Int.ofNat_eq_natCast]; omega
    | negSucc b => show false = true ↔ _; simp only [Int.ofNat_eq_natCast]; constructor <;> intro h <;> first | cases h | omega
  | negSucc a =>
    cases b with
    | ofNat b => exact ⟨fun _ => by rw [Int.negSucc_eq, Int.ofNat_eq_natCast]; omega, fun _ => rfl⟩
    | negSucc b => show Nat.blt b a = true ↔ _; rw [Nat.blt_eq]; simp only [Int.negSucc_eq]; omega
theorem ieq_iff (a b : Int) : ieq a b = (a == b) := by
  rw [Bool.eq_iff_iff, beq_iff_eq]
  cases a with
  | ofNat a =>
    cases b with
    | ofNat b => show Nat.beq a b = true ↔ _; rw [Nat.beq_eq]; simp only [Int.ofNat_eq_natCast]; omega
    | negSucc b => show false = true ↔ _; simp only [Int.ofNat_eq_natCast]; constructor <;> intro h <;> first | cases h | omega
  | negSucc a =>
    cases b with
    | ofNat b => show false = true ↔ _; simp only [Int.ofNat_eq_natCast]; constructor <;> intro h <;> first | cases h | omega
    | negSucc b => show Nat.beq a b = true ↔ _; rw [Nat.beq_eq]; omega
theorem p64 : (2 : Int) ^ 64 = 18446744073709551616 := by decide
theorem p63 : (2 : Int) ^ 63 = 9223372036854775808 := by decide
theorem p8 : (2 : Int) ^ 8 = 256 := by decide
theorem wrap_i64 (n : Int) : IntKind.i64.wrap n = if n % 18446744073709551616 ≥ 9223372036854775808 then n % 18446744073709551616 - 18446744073709551616 else n % 18446744073709551616 := by
  show (if (true && decide (n % (2 ^ 64 : Int) ≥ (2 ^ 63 : Int))) = true then n % (2 ^ 64 : Int) - (2 ^ 64 : Int) else n % (2 ^ 64 : Int)) = _
  rw [p64, p63, Bool.true_and]
  simp only [decide_eq_true_eq]
theorem wrap_u64 (n : Int) : IntKind.u64.wrap n = n % 18446744073709551616 := by
  show (if (false && decide (n % (2 ^ 64 : Int) ≥ (2 ^ 63 : Int))) = true then n % (2 ^ 64 : Int) - (2 ^ 64 : Int) else n % (2 ^ 64 : Int)) = _
  rw [p64, Bool.false_and, if_neg (by simp)]
theorem wrap_u8 (n : Int) : IntKind.u8.wrap n = n % 256 := by
  show (if (false && decide (n % (2 ^ 8 : Int) ≥ (2 ^ 7 : Int))) = true then n % (2 ^ 8 : Int) - (2 ^ 8 : Int) else n % (2 ^ 8 : Int)) = _
  rw [p8, Bool.false_and, if_neg (by simp)]
theorem inR_wrap {k : IntKind} {n : Int} (h : inR k n = true) : k.wrap n = n := by
  unfold inR at h
  split at h
  · rw [Nat.blt_eq] at h; rw [wrap_i64]; simp only [Int.ofNat_eq_natCast]; split <;> omega
  · rw [Nat.blt_eq] at h; rw [wrap_i64]; split <;> omega
  · rw [Nat.blt_eq] at h; rw [wrap_u8]; simp only [Int.ofNat_eq_natCast]; omega
  · rw [Nat.blt_eq] at h; rw [wrap_u64]; simp only [Int.ofNat_eq_natCast]; omega
  · cases h
theorem wrapF_eq (k : IntKind) (n : Int) : wrapF k n = k.wrap n := by
  unfold wrapF
  cases h : inR k n with
  | true => rw [inR_wrap h]; rfl
  | false => rfl
theorem keq_eq {a b : IntKind} (h : keq a b = true) : a = b := by
  cases a <;> cases b <;> first | rfl | (simp [keq, IntKind.ctorIdx] at h)
theorem beqL_iff : ∀ (a b : List UInt8), beqL a b = (a == b) := by
  intro a
  induction a with
  | nil => intro b; cases b <;> rfl
  | cons x a ih =>
    intro b
    cases b with
    | nil => rfl
    | cons y b =>
      show bi (Nat.beq x.toNat y.toNat) (beqL a b) false = _
      rw [ih]
      by_cases hxy : x = y
      · subst hxy; simp
      · have : Nat.beq x.toNat y.toNat = false := by
          rw [Bool.eq_false_iff]
          intro hb
          exact hxy (UInt8.toNat_inj.1 (Nat.eq_of_beq_eq_true hb))
        rw [this]
        simp [hxy]

theorem bi_not (c : Bool) : bi c false true = !c := by cases c <;> rfl

theorem fast_sound {op : BinOp} {x y : Value} {t yt : TypeId} {xo yo : Operand} (ho : o.op = .binOp op t xo yo yt) (h : fastV op x y = some v) (hx : e xo = x) (hy : e yo = y) : PureOk P ρ e o w v := by
  unfold fastV at h
  split at h
  · rename_i k a
    split at h
    · rename_i k' b
      obtain ⟨h1, h2⟩ := bb_eq h
      have hkk := keq_eq h1
      subst hkk
      have hg : (eqGuard op t xo yo (.int k a) (.int k b)).run P w = .ok () w := by
        unfold eqGuard
        cases op <;> rfl
      suffices hb : ∃ v', (binOp op t (.int k a) (.int k b)).run P w = .ok v' w ∧ VRel ρ v v' by
        obtain ⟨v', h3, h4⟩ := hb
        refine ⟨v', ?_, h4⟩
        simp only [execOp, ho, hx, hy, Sem.run_bind, hg, Result.andThen_ok, h3, Sem.run_pure]
      cases op <;> first
        | (cases h2; done)
        | (cases h2; refine ⟨_, ?_, .scal rfl⟩; simp [binOp, Op.intArith, Op.intCmp, wrapF_eq, ilt_iff, ieq_iff, bi_not]; done)
        | (cases h2; refine ⟨_, ?_, .scal rfl⟩; simp [binOp, Op.intArith, Op.intCmp, wrapF_eq, ilt_iff, ieq_iff, bi_not]; rw [Bool.eq_iff_iff]; simp; done)
    · cases h
  · rename_i a
    split at h
    · rename_i b
      have hg : (eqGuard op t xo yo (.string a) (.string b)).run P w = .ok () w := by
        unfold eqGuard
        cases op <;> rfl
      suffices hb : ∃ v', (binOp op t (.string a) (.string b)).run P w = .ok v' w ∧ VRel ρ v v' by
        obtain ⟨v', h3, h4⟩ := hb
        refine ⟨v', ?_, h4⟩
        simp only [execOp, ho, hx, hy, Sem.run_bind, hg, Result.andThen_ok, h3, Sem.run_pure]
      cases op <;> first
        | (cases h; done)
        | (cases h; refine ⟨_, ?_, .scal rfl⟩; simp [binOp, Op.stringOp, beqL_iff, ByteArray.toList_eq, bi_not]; done)
        | skip
      obtain ⟨h1, h2⟩ := bb_eq (show bb _ _ = some v from h)
      cases h2
      refine ⟨_, ?_, .scal rfl⟩
      have hle := Nat.le_of_ble_eq_true h1
      have : ¬ ((a.size + b.size : Nat) : Int) > IntKind.i64.max := by
        have e1 : a.size = a.data.toList.length := Array.length_toList.symm
        have e2 : b.size = b.data.toList.length := Array.length_toList.symm
        have e3 : IntKind.i64.max = 9223372036854775807 := by decide
        rw [e1, e2, e3]
        unfold room at hle
        omega
      have hab : (⟨(a.data.toList ++ b.data.toList).toArray⟩ : ByteArray) = a ++ b := by
        apply ByteArray.ext
        simp [ByteArray.data_append]
      simp only [binOp, Op.stringOp, this, if_false, Sem.run_pure, hab]
    · cases h
  · cases h

end
end Go.Ab
namespace Go.Ab
open Go
section
variable {P : Program} {ρ : Place} {fr : Fr} {e : Operand → Value} {o : Oper} {w : World} {v : Value}

theorem fast_eq {op : BinOp} {x y x' y' : Value} (h : fastV op x y = some v) (hx : VRel ρ x x') (hy : VRel ρ y y') : x' = x ∧ y' = y := by
  unfold fastV at h
  split at h
  · split at h
    · cases hx; cases hy; exact ⟨rfl, rfl⟩
    · cases h
  · split at h
    · cases hx; cases hy; exact ⟨rfl, rfl⟩
    · cases h
  · cases h

theorem nil_equalIn {t : TypeId} {d : TypeDesc} {x y x' y' : Value} {b : Bool} (k : Nat) (hd : P.underlying t = some d) (h : nilPair (some d) x y = some b) (hx : VRel ρ x x') (hy : VRel ρ y y') :
    (Op.equalIn (k + 1) t x' y').run P w = .ok b w ∧ ∀ op xo yo, (eqGuard op t xo yo x' y').run P w = .ok () w := by
  cases d with
  | pointer el =>
    unfold nilPair at h
    simp only at h
    split at h
    · cases h; cases hx; cases hy; exact ⟨by (unfold Op.equalIn; rw [Sem.run_bind, under_of hd]; rfl), fun op xo yo => by unfold eqGuard; cases op <;> rfl⟩
    · cases h; cases hx; cases hy <;> first
        | exact ⟨by (unfold Op.equalIn; rw [Sem.run_bind, under_of hd]; rfl), fun op xo yo => by unfold eqGuard; cases op <;> rfl⟩
        | (rename_i hs; simp [scal] at hs; done)
    · cases h; cases hy; cases hx <;> first
        | exact ⟨by (unfold Op.equalIn; rw [Sem.run_bind, under_of hd]; rfl), fun op xo yo => by unfold eqGuard; cases op <;> rfl⟩
        | (rename_i hs; simp [scal] at hs; done)
    · cases h
  | slice el =>
    unfold nilPair at h
    simp only at h
    split at h
    · cases h; cases hx; cases hy; exact ⟨by (unfold Op.equalIn; rw [Sem.run_bind, under_of hd]; rfl), fun op xo yo => by unfold eqGuard; cases op <;> rfl⟩
    · cases h; cases hx; cases hy <;> first
        | exact ⟨by (unfold Op.equalIn; rw [Sem.run_bind, under_of hd]; rfl), fun op xo yo => by unfold eqGuard; cases op <;> rfl⟩
        | (rename_i hs; simp [scal] at hs; done)
    · cases h; cases hy; cases hx <;> first
        | exact ⟨by (unfold Op.equalIn; rw [Sem.run_bind, under_of hd]; rfl), fun op xo yo => by unfold eqGuard; cases op <;> rfl⟩
        | (rename_i hs; simp [scal] at hs; done)
    · cases h
  | func a r vr =>
    unfold nilPair at h
    simp only at h
    split at h
    · cases h; cases hx; cases hy; exact ⟨by (unfold Op.equalIn; rw [Sem.run_bind, under_of hd]; rfl), fun op xo yo => by unfold eqGuard; cases op <;> rfl⟩
    · cases h; cases hx; cases hy <;> first
        | exact ⟨by (unfold Op.equalIn; rw [Sem.run_bind, under_of hd]; rfl), fun op xo yo => by unfold eqGuard; cases op <;> rfl⟩
        | (rename_i hs; simp [scal] at hs; done)
    · cases h; cases hy; cases hx <;> first
        | exact ⟨by (unfold Op.equalIn; rw [Sem.run_bind, under_of hd]; rfl), fun op xo yo => by unfold eqGuard; cases op <;> rfl⟩
        | (rename_i hs; simp [scal] at hs; done)
    · cases h
  | interface ms =>
    unfold nilPair at h
    simp only at h
    split at h
    · cases h; cases hx; cases hy <;> first
        | exact ⟨by (unfold Op.equalIn; rw [Sem.run_bind, under_of hd]; rfl), fun op xo yo => by unfold eqGuard; cases op <;> rfl⟩
        | (rename_i hs; simp [scal] at hs; done)
    · cases h; cases hy; cases hx <;> first
        | exact ⟨by (unfold Op.equalIn; rw [Sem.run_bind, under_of hd]; rfl), fun op xo yo => by unfold eqGuard; cases op <;> rfl⟩
        | (rename_i hs; simp [scal] at hs; done)
    · cases h
  | _ => cases h

theorem nil_equal {t : TypeId} {d : TypeDesc} {x y x' y' : Value} {b : Bool} (hd : P.underlying t = some d) (h : nilPair (some d) x y = some b) (hx : VRel ρ x x') (hy : VRel ρ y y') :
    (Op.equal t x' y').run P w = .ok b w ∧ ∀ op xo yo, (eqGuard op t xo yo x' y').run P w = .ok () w := nil_equalIn 9999 hd h hx hy

theorem nilPair_kind {d : Option TypeDesc} {x y x' y' : Value} {b : Bool} (h : nilPair d x y = some b) (hx : VRel ρ x x') (hy : VRel ρ y y') (t : TypeId) :
    binOp .eql t x' y' = (do pure (.bool (← Op.equal t x' y'))) ∧ binOp .neq t x' y' = (do pure (.bool (!(← Op.equal t x' y')))) := by
  unfold nilPair at h
  split at h <;> (try split at h) <;> (try (cases h; done)) <;> cases hx <;> cases hy <;> first
    | exact ⟨rfl, rfl⟩
    | (rename_i hs; simp [scal] at hs; done)
    | (rename_i hs _; simp [scal] at hs; done)

theorem bin_sound {op : BinOp} {t yt : TypeId} {xo yo : Operand} (ho : o.op = .binOp op t xo yo yt) (hk : Known ρ fr e o.op.operands.toList) (h : pBin P fr o op t xo yo = some v) : PureOk P ρ e o w v := by
  obtain ⟨x, h1, h2⟩ := ob_eq h
  obtain ⟨y, h3, h4⟩ := ob_eq h2
  have hx := hk xo x (by simp [ho, Op.operands]) h1
  have hy := hk yo y (by simp [ho, Op.operands]) h3
  unfold binV at h4
  cases hf : fastV op x y with
  | some u =>
    rw [hf] at h4
    cases h4
    obtain ⟨hx', hy'⟩ := fast_eq hf hx hy
    exact fast_sound ho hf hx' hy'
  | none =>
    rw [hf] at h4
    change bi (flat x && flat y) (flatV P fr o) (nilV P t op x y) = some v at h4
    cases hfl : flat x && flat y with
    | true =>
      rw [hfl] at h4
      rw [Bool.and_eq_true] at hfl
      refine flatV_sound hk (by simp [ho]) ?_ h4
      intro z hz
      simp [ho, Op.operands] at hz
      rcases hz with rfl | rfl
      · exact ⟨x, h1, hfl.1⟩
      · exact ⟨y, h3, hfl.2⟩
    | false =>
      rw [hfl] at h4
      change nilV P t op x y = some v at h4
      have key : ∀ b, nilPair (P.underlying t) x y = some b → (Op.equal t (e xo) (e yo)).run P w = .ok b w ∧ ∀ op xo' yo', (eqGuard op t xo' yo' (e xo) (e yo)).run P w = .ok () w := by
        intro b hb
        cases hd : P.underlying t with
        | none => rw [hd] at hb; cases hb
        | some d => rw [hd] at hb; exact nil_equal hd hb hx hy
      unfold nilV at h4
      split at h4
      · obtain ⟨b, h5, h6⟩ := ob_eq h4
        cases h6
        obtain ⟨k1, k2⟩ := key b h5
        refine ⟨.bool b, ?_, .scal rfl⟩
        simp only [execOp, ho, Sem.run_bind, k2, Result.andThen_ok, (nilPair_kind h5 hx hy t).1, k1, Sem.run_pure]
      · obtain ⟨b, h5, h6⟩ := ob_eq h4
        cases h6
        obtain ⟨k1, k2⟩ := key b h5
        refine ⟨.bool !b, ?_, .scal rfl⟩
        simp only [execOp, ho, Sem.run_bind, k2, Result.andThen_ok, (nilPair_kind h5 hx hy t).2, k1, Sem.run_pure]
      · cases h4

theorem move_sound {x : Operand} (ho : o.op = .move x ∨ o.op = .assign x) (hk : Known ρ fr e o.op.operands.toList) (h : ev fr x = some v) : PureOk P ρ e o w v := by
  rcases ho with ho | ho
  · exact ⟨e x, by simp [execOp, ho], hk x v (by simp [ho, Op.operands]) h⟩
  · exact ⟨e x, by simp [execOp, ho], hk x v (by simp [ho, Op.operands]) h⟩

theorem pick_sound {c a b : Operand} (ho : o.op = .pick c a b) (hk : Known ρ fr e o.op.operands.toList) (h : pPick fr c a b = some v) : PureOk P ρ e o w v := by
  obtain ⟨x, h1, h2⟩ := ob_eq h
  obtain ⟨t, h3, h4⟩ := ob_eq h2
  have hx := hk c x (by simp [ho, Op.operands]) h1
  have ht : e c = .bool t := by
    unfold bool? at h3
    split at h3
    · cases h3; generalize e c = y at hx; cases hx; rfl
    · cases h3
  cases t with
  | true => exact ⟨e a, by simp [execOp, ho, ht, asBool], hk a v (by simp [ho, Op.operands]) h4⟩
  | false => exact ⟨e b, by simp [execOp, ho, ht, asBool], hk b v (by simp [ho, Op.operands]) h4⟩

theorem nilCheck_sound {x : Operand} (ho : o.op = .nilCheck x) (hk : Known ρ fr e o.op.operands.toList) (h : pNilCheck fr x = some v) : PureOk P ρ e o w v := by
  obtain ⟨u, h1, h2⟩ := ob_eq h
  have hx := hk x u (by simp [ho, Op.operands]) h1
  unfold nonNil at h2
  split at h2
  · cases h2
    refine ⟨e x, ?_, hx⟩
    generalize he : e x = y at hx
    cases hx with
    | ptr hq => simp [execOp, ho, he]
    | scal hs => simp [scal] at hs
  · cases h2
    refine ⟨e x, ?_, hx⟩
    generalize he : e x = y at hx
    cases hx with
    | func => simp [execOp, ho, he]
    | scal hs => simp [scal] at hs
  · cases h2
    refine ⟨e x, ?_, hx⟩
    generalize he : e x = y at hx
    cases hx with
    | iface => simp [execOp, ho, he]
    | scal hs => simp [scal] at hs
  · cases h2

theorem flat1_sound {x : Operand} (hops : o.op.operands.toList = [x]) (hs : ∀ cs b, o.op ≠ .select cs b) (hk : Known ρ fr e o.op.operands.toList) (h : pFlat P fr o x = some v) : PureOk P ρ e o w v := by
  obtain ⟨u, h1, h2⟩ := ob_eq h
  obtain ⟨h3, h4⟩ := bb_eq h2
  refine flatV_sound hk hs ?_ h4
  intro z hz
  rw [hops] at hz
  simp at hz
  subst hz
  exact ⟨u, h1, h3⟩

theorem iface_sound {t : TypeId} {x : Operand} (ho : o.op = .makeInterface t x) (hk : Known ρ fr e o.op.operands.toList) (h : pIface P fr t x = some v) : PureOk P ρ e o w v := by
  obtain ⟨u, h1, h2⟩ := ob_eq h
  obtain ⟨h3, h4⟩ := bb_eq h2
  cases h4
  have hx := hk x u (by simp [ho, Op.operands]) h1
  refine ⟨.iface t (e x), ?_, .iface hx⟩
  unfold concrete at h3
  split at h3
  · cases h3
  · rename_i d hd hne
    have := under_of hne w
    simp only [execOp, ho, Instr.makeInterface, Sem.run_bind, this, Result.andThen_ok]
    cases d <;> first | rfl | exact absurd rfl (hd _)
  · cases h3

theorem func_sound {fn : Fn} {fs cs : Array Operand} (ho : o.op = .makeFunc fn fs cs) (hk : Known ρ fr e o.op.operands.toList) (h : pFunc fr fn fs cs = some v) : PureOk P ρ e o w v := by
  obtain ⟨a, h1, h2⟩ := ob_eq h
  obtain ⟨b, h3, h4⟩ := ob_eq h2
  obtain ⟨h0, h4⟩ := bb_eq h4
  cases h4
  have ha := (hk.sub (k := fs.toList) fun y hy => by simp [ho, Op.operands]; exact .inl (by simpa using hy)).evs h1
  have hb := (hk.sub (k := cs.toList) fun y hy => by simp [ho, Op.operands]; exact .inr (by simpa using hy)).evs h3
  refine ⟨.func fn ⟨fs.toList.map e⟩ ⟨cs.toList.map e⟩, ?_, .func h0 ha hb⟩
  have e1 : fs.map e = ⟨fs.toList.map e⟩ := by rw [← Array.toList_inj]; simp
  have e2 : cs.map e = ⟨cs.toList.map e⟩ := by rw [← Array.toList_inj]; simp
  simp [execOp, ho, Instr.makeFunc, e1, e2]

theorem fieldOf_eq {s : TypeId} {f : Nat} {fd : Field} (h : fieldOf P s f = some fd) : ∃ fs, P.underlying s = some (.struct fs) ∧ fs[f]? = some fd := by
  unfold fieldOf at h
  split at h
  · exact ⟨_, by assumption, h⟩
  · cases h
theorem fieldAddr_sound {s : TypeId} {x : Operand} {f : Nat} (ho : o.op = .fieldAddr s x f) (hk : Known ρ fr e o.op.operands.toList) (h : pFieldAddr P fr s x f = some v) : PureOk P ρ e o w v := by
  obtain ⟨u, h1, h2⟩ := ob_eq h
  obtain ⟨⟨b, off⟩, h3, h4⟩ := ob_eq h2
  obtain ⟨fd, h5, h6⟩ := ob_eq (show ob (fieldOf P s f) _ = some v from h4)
  obtain ⟨n, h7, h8⟩ := ob_eq h6
  obtain ⟨h9, h10⟩ := bb_eq h8
  cases h10
  have hn := Nat.le_of_ble_eq_true h9
  obtain ⟨q, hq, hx⟩ := at_rel (hk x u (by simp [ho, Op.operands]) h1) h3
  obtain ⟨fs, hu, hf⟩ := fieldOf_eq h5
  refine ⟨.pointer (some ⟨q.c, q.o + (off + fd.offset), none⟩), ?_, .ptr hq⟩
  simp only [execOp, ho, hx, Instr.fieldAt, Sem.run_bind, under_of hu, Result.andThen_ok, hf, Instr.sureAddr, Sem.run_pure, fieldPlace, size_of h7, Sem.run_ite]
  rw [if_neg (by omega)]
  simp only [Sem.run_pure, Result.andThen_ok, addr_add, Nat.add_assoc]

theorem agg_rel {u u' : Value} {cs : List Value} (h : VRel ρ u u') (hc : agg? u = some cs) : ∃ cs', u' = .agg ⟨cs'⟩ ∧ VsRel ρ cs cs' ∧ ∀ v ∈ cs, isCell v = true := by
  unfold agg? at hc
  split at hc
  · cases hc
    cases h with
    | agg h1 h2 => exact ⟨_, rfl, h2, h1⟩
    | scal hs => simp [scal] at hs
  · cases hc
theorem field_sound {s : TypeId} {x : Operand} {f : Nat} (ho : o.op = .field s x f) (hk : Known ρ fr e o.op.operands.toList) (h : pField P fr s x f = some v) : PureOk P ρ e o w v := by
  obtain ⟨u, h1, h2⟩ := ob_eq h
  obtain ⟨cs, h3, h4⟩ := ob_eq h2
  obtain ⟨fd, h5, h6⟩ := ob_eq h4
  obtain ⟨cs', hx, hr, hc⟩ := agg_rel (hk x u (by simp [ho, Op.operands]) h1) h3
  obtain ⟨fs, hu, hf⟩ := fieldOf_eq h5
  obtain ⟨v', h7, h8⟩ := part_rel (P := P) (w := w) hr hc h6
  refine ⟨v', ?_, h8⟩
  simp only [execOp, ho, hx, Instr.field, Sem.run_bind, under_of hu, Result.andThen_ok, hf, asAgg, Sem.run_pure, h7]

theorem indexAddr_sound {t : TypeId} {x ix : Operand} (ho : o.op = .indexAddr t x ix) (hk : Known ρ fr e o.op.operands.toList) (h : pIndexAddr P fr t x ix = some v) : PureOk P ρ e o w v := by
  obtain ⟨i, h1, h2⟩ := ob_eq h
  obtain ⟨u, h3, h4⟩ := ob_eq h2
  obtain ⟨k, hi⟩ := evN_rel hk (by simp [ho, Op.operands]) h1
  have hx := hk x u (by simp [ho, Op.operands]) h3
  have core : ∀ (el : TypeId) (b off len : Nat) (q : Spot), ρ b = some q → atIx P el b off i len = some v → i < len ∧ ∃ n, (∀ w, (sizeOf el).run P w = .ok n w) ∧ VRel ρ v (.pointer (some ⟨q.c, q.o + off + i * n, none⟩)) := by
    intro el b off len q hq ha
    obtain ⟨k1, k2⟩ := bb_eq ha
    obtain ⟨n, k3, k4⟩ := ob_eq k2
    cases k4
    rw [Nat.blt_eq] at k1
    refine ⟨k1, n, size_of k3, ?_⟩
    rw [Nat.add_assoc]
    exact .ptr hq
  generalize hE : e x = y at hx
  unfold indexAddrV at h4
  split at h4
  · rename_i b off sp len cap
    obtain ⟨el, h5, h6⟩ := ob_eq h4
    have hu := elem_of h5
    cases hx with
    | slice hq =>
      rename_i q
      obtain ⟨hlt, n, hn, hr⟩ := core el b off len _ hq h6
      refine ⟨_, ?_, hr⟩
      simp only [execOp, ho, hi, hE, Instr.indexAt, asIntOf, Sem.run_bind, Sem.run_pure, Result.andThen_ok, under_of hu, Bool.and_false, Sem.run_ite]
      rw [if_pos ⟨by simp, by simpa using hlt⟩]
      simp only [Sem.run_bind, hn, Result.andThen_ok, Sem.run_pure, addr_add, Int.ofNat_eq_natCast, Int.toNat_natCast]
    | grow hq hk' hm =>
      rename_i s k' q
      obtain ⟨hlt, n, hn, hr⟩ := core el b off len _ hq h6
      refine ⟨_, ?_, hr⟩
      simp only [execOp, ho, hi, hE, Instr.indexAt, asIntOf, Sem.run_bind, Sem.run_pure, Result.andThen_ok, under_of hu, Bool.and_false, Sem.run_ite]
      rw [if_pos ⟨by simp, by simpa using hlt⟩]
      simp only [Sem.run_bind, hn, Result.andThen_ok, Sem.run_pure, addr_add, Int.ofNat_eq_natCast, Int.toNat_natCast]
    | slice0 hq =>
      obtain ⟨hlt, _⟩ := core el b off 0 _ hq h6
      omega
    | scal hs => simp [scal] at hs
  · rename_i b off
    split at h4
    · rename_i len el hu
      cases hx with
      | ptr hq =>
        rename_i q
        obtain ⟨hlt, n, hn, hr⟩ := core el b off len _ hq h4
        refine ⟨_, ?_, hr⟩
        simp only [execOp, ho, hi, hE, Instr.indexAt, asIntOf, Sem.run_bind, Sem.run_pure, Result.andThen_ok, under_of hu, Instr.sureAddr, Sem.run_ite]
        rw [if_pos ⟨by simp, by simpa using hlt⟩]
        simp only [Sem.run_bind, hn, Result.andThen_ok, Sem.run_pure, addr_add, Int.ofNat_eq_natCast, Int.toNat_natCast]
      | scal hs => simp [scal] at hs
    · cases h4
  · cases h4

theorem oneB_get {l : List UInt8} {i : Nat} {r : List UInt8} (h1 : sub l i 1 = some r) (h2 : oneB r = some v) : ∃ b, l[i]? = some b ∧ v = .int .u8 b.toNat := by
  obtain ⟨h3, rfl⟩ := sub_eq h1
  unfold oneB at h2
  split at h2
  · rename_i u hu
    cases h2
    have := congrArg (fun l : List UInt8 => l[0]?) hu
    exact ⟨u, by simpa [List.getElem?_take] using this, rfl⟩
  · cases h2
theorem index_sound {t : TypeId} {x ix : Operand} (ho : o.op = .index t x ix) (hk : Known ρ fr e o.op.operands.toList) (h : pIndex P fr t x ix = some v) : PureOk P ρ e o w v := by
  obtain ⟨i, h1, h2⟩ := ob_eq h
  obtain ⟨u, h3, h4⟩ := ob_eq h2
  obtain ⟨k, hi⟩ := evN_rel hk (by simp [ho, Op.operands]) h1
  have hx := hk x u (by simp [ho, Op.operands]) h3
  unfold indexV at h4
  split at h4
  · rename_i cs
    split at h4
    · rename_i len el hu
      obtain ⟨h5, h6⟩ := bb_eq h4
      obtain ⟨n, h7, h8⟩ := ob_eq h6
      rw [Nat.blt_eq] at h5
      obtain ⟨cs', hE, hr, hc⟩ := agg_rel (u := .agg cs) (cs := cs.toList) hx rfl
      obtain ⟨v', h9, h10⟩ := part_rel (P := P) (w := w) hr hc h8
      refine ⟨v', ?_, h10⟩
      simp only [execOp, ho, hi, hE, Instr.index, asIntOf, Sem.run_bind, Sem.run_pure, Result.andThen_ok, under_of hu, Sem.run_ite]
      rw [if_pos ⟨by simp, by simpa using h5⟩]
      simp only [Sem.run_bind, size_of h7, Result.andThen_ok, Int.ofNat_eq_natCast, Int.toNat_natCast, h9]
    · cases h4
  · rename_i s
    split at h4
    · rename_i hu
      obtain ⟨r, h5, h6⟩ := ob_eq h4
      obtain ⟨b, h7, rfl⟩ := oneB_get h5 h6
      generalize hE : e x = y at hx
      cases hx with
      | scal hs =>
        refine ⟨_, ?_, .scal rfl⟩
        have hg : s[i]? = some b := by
          have hlt := (List.getElem?_eq_some_iff.1 h7).1
          have hb := (List.getElem?_eq_some_iff.1 h7).2
          have hsz : i < s.size := by rw [show s.size = s.data.toList.length from Array.length_toList.symm]; exact hlt
          rw [getElem?_pos s i hsz]
          congr 1
        simp only [execOp, ho, hi, hE, Instr.index, asIntOf, Sem.run_bind, Sem.run_pure, Result.andThen_ok, under_of hu]
        simp [hg]
    · cases h4
  · cases h4

theorem extract_sound {t : Operand} {ix : Nat} (ho : o.op = .extract t ix) (hk : Known ρ fr e o.op.operands.toList) (h : pExtract fr t ix = some v) : PureOk P ρ e o w v := by
  obtain ⟨u, h1, h2⟩ := ob_eq h
  obtain ⟨vs, h3, h4⟩ := ob_eq h2
  obtain ⟨l, h5, h6⟩ := ob_eq h4
  have hx := hk t u (by simp [ho, Op.operands]) h1
  obtain ⟨h7, rfl⟩ := sub_eq h5
  have hv : vs[ix]? = some v := by
    unfold oneV at h6
    split at h6
    · rename_i u hu
      cases h6
      have := congrArg (fun l : List Value => l[0]?) hu
      simpa [List.getElem?_take] using this
    · cases h6
  unfold tuple? at h3
  split at h3
  · cases h3
    generalize hE : e t = y at hx
    cases hx with
    | tuple hs =>
      rename_i l l'
      obtain ⟨v', h8, h9⟩ := hs.get hv
      refine ⟨v', ?_, h9⟩
      have : (⟨l'⟩ : Array Value)[ix]? = some v' := by simpa using h8
      simp [execOp, ho, hE, Instr.extract, this]
    | scal hs => simp [scal] at hs
  · cases h3

end
end Go.Ab
namespace Go.Ab
open Go
section
variable {P : Program} {ρ : Place} {fr : Fr} {e : Operand → Value} {o : Oper} {w : World} {v : Value}

theorem bound_run {v v' : Value} {n y : Nat} {code : BoundsCode} (hr : VRel ρ v v') (hn : nat? v = some n) (hle : n ≤ y) : (Instr.sliceBound v' y code).run P w = .ok n w := by
  obtain ⟨k, rfl⟩ := asInt_rel hr hn
  simp only [Instr.sliceBound, asIntOf, Sem.run_bind, Sem.run_pure, Result.andThen_ok, Sem.run_ite]
  rw [if_pos ⟨by simp, by simpa using hle⟩]
  simp
theorem evO_rel {x : Option Operand} {u : Option Value} {l : List Operand} (hk : Known ρ fr e l) (hx : ∀ y, x = some y → y ∈ l) (h : evO fr x = some u) :
    (u = none ∧ x = none) ∨ ∃ v y, u = some v ∧ x = some y ∧ VRel ρ v (e y) := by
  cases x with
  | none => cases h; exact .inl ⟨rfl, rfl⟩
  | some y =>
    obtain ⟨v, h1, h2⟩ := ob_eq h
    cases h2
    exact .inr ⟨v, y, rfl, rfl, hk y v (hx y rfl) h1⟩
theorem bounds_run {lo hi : Option Operand} {lv hv : Option Value} {l : List Operand} (hk : Known ρ fr e l) (hlo : ∀ y, lo = some y → y ∈ l) (hhi : ∀ y, hi = some y → y ∈ l)
    (h1 : evO fr lo = some lv) (h2 : evO fr hi = some hv) {dl cap cap' a b : Nat} {isSlice : Bool} (h : bnds dl cap lv hv = some (a, b)) (hc : cap ≤ cap') :
    (Instr.sliceBounds isSlice dl cap' (lo.map e) (hi.map e) none).run P w = .ok (a, b, cap') w ∧ a ≤ b ∧ b ≤ cap := by
  obtain ⟨hb, h3, h4⟩ := ob_eq h
  obtain ⟨h5, h6⟩ := bb_eq h4
  obtain ⟨la, h7, h8⟩ := ob_eq h6
  obtain ⟨h9, h10⟩ := bb_eq h8
  cases h10
  have hb1 := Nat.le_of_ble_eq_true h5
  have hb2 := Nat.le_of_ble_eq_true h9
  refine ⟨?_, hb2, hb1⟩
  unfold Instr.sliceBounds
  simp only [Sem.run_bind, Sem.run_pure, Result.andThen_ok]
  rcases evO_rel hk hhi h2 with ⟨rfl, rfl⟩ | ⟨v2, y2, rfl, rfl, r2⟩
  · cases h3
    simp only [Option.map_none, Sem.run_pure, Result.andThen_ok]
    rcases evO_rel hk hlo h1 with ⟨rfl, rfl⟩ | ⟨v1, y1, rfl, rfl, r1⟩
    · cases h7
      simp
    · simp only [Option.map_some, bound_run r1 h7 hb2, Result.andThen_ok, Sem.run_bind, Sem.run_pure]
  · simp only [Option.map_some, bound_run r2 h3 (Nat.le_trans hb1 hc), Result.andThen_ok, Sem.run_bind]
    rcases evO_rel hk hlo h1 with ⟨rfl, rfl⟩ | ⟨v1, y1, rfl, rfl, r1⟩
    · cases h7
      simp
    · simp only [Option.map_some, bound_run r1 h7 hb2, Result.andThen_ok, Sem.run_bind, Sem.run_pure]

theorem extract_bytes (s : ByteArray) (a b : Nat) (h : b ≤ s.data.toList.length) : s.extract a b = ⟨((s.data.toList.drop a).take (b - a)).toArray⟩ := by
  apply ByteArray.ext
  rw [ByteArray.data_extract]
  apply Array.toList_inj.1
  rw [Array.toList_extract, List.extract_eq_take_drop]

theorem slice_sound {t : TypeId} {x : Operand} {lo hi mx : Option Operand} (ho : o.op = .slice t x lo hi mx) (hk : Known ρ fr e o.op.operands.toList) (h : pSlice P fr t x lo hi mx = some v) : PureOk P ρ e o w v := by
  obtain ⟨h0, k0⟩ := bb_eq h
  clear h
  cases mx with
  | some y => cases h0
  | none =>
  clear h0
  obtain ⟨u, h1, k1⟩ := ob_eq k0
  clear k0
  obtain ⟨lv, h2, k2⟩ := ob_eq k1
  clear k1
  obtain ⟨hv, h3, h⟩ := ob_eq k2
  clear k2
  have hx := hk x u (by simp [ho, Op.operands]) h1
  have hlo : ∀ y, lo = some y → y ∈ o.op.operands.toList := by intro y hy; subst hy; simp [ho, Op.operands]
  have hhi : ∀ y, hi = some y → y ∈ o.op.operands.toList := by intro y hy; subst hy; simp [ho, Op.operands]
  generalize hE : e x = y at hx
  unfold sliceV at h
  split at h
  · rename_i s
    split at h
    · rename_i hu
      obtain ⟨⟨a, b⟩, h4, k4⟩ := ob_eq h
      clear h
      obtain ⟨l, h5, k5⟩ := ob_eq (show ob (sub s.data.toList a (b - a)) _ = some v from k4)
      cases k5
      obtain ⟨h6, rfl⟩ := sub_eq h5
      obtain ⟨hb, hab, hbl⟩ := bounds_run (P := P) (w := w) (isSlice := false) hk hlo hhi h2 h3 h4 (Nat.le_refl _)
      cases hx with
      | scal hs =>
        refine ⟨_, ?_, .scal rfl⟩
        have hsz : s.size = s.data.toList.length := Array.length_toList.symm
        simp only [execOp, ho, hE, Instr.sliceAt, Sem.run_bind, under_of hu, Result.andThen_ok, Instr.slice, Option.map_none, Option.isSome_none, Bool.false_eq_true, if_false, hsz, hb, Sem.run_pure,
          extract_bytes s a b hbl]
    · cases h
  · rename_i a0 len cap
    split at h
    · rename_i el hu
      obtain ⟨⟨a, b⟩, h4, k4⟩ := ob_eq h
      clear h
      obtain ⟨n, h5, h⟩ := ob_eq (show ob (size? P el) _ = some v from k4)
      clear k4
      have hn := size_of h5
      have go : ∀ (a0' : Option Addr) (cap' : Nat), y = .slice a0' len cap' → cap ≤ cap' →
          (execOp e o).run P w = .ok (.value (.slice (if cap' = a then a0' else a0'.map (·.add (a * n))) (b - a) (cap' - a))) w ∧ a ≤ b ∧ b ≤ cap := by
        intro a0' cap' hy hc
        obtain ⟨hb, hab, hbl⟩ := bounds_run (P := P) (w := w) (isSlice := true) hk hlo hhi h2 h3 h4 hc
        refine ⟨?_, hab, hbl⟩
        simp only [execOp, ho, hE, hy, Instr.sliceAt, Sem.run_bind, under_of hu, Result.andThen_ok, Instr.slice, Option.map_none, hb, hn, Sem.run_pure]
      unfold sliceAt at h
      split at h
      · rename_i b0 off
        cases h
        cases hx with
        | slice hq =>
          obtain ⟨g1, g2, g3⟩ := go _ _ rfl (Nat.le_refl _)
          refine ⟨_, g1, ?_⟩
          by_cases hca : cap = a
          · rw [if_pos hca]
            have : b - a = 0 := by omega
            rw [this, show cap - a = 0 from by omega]
            exact .slice0 hq
          · rw [if_neg hca]
            simp only [Option.map_some, addr_add, Nat.add_assoc]
            exact .slice hq
        | slice0 hq =>
          obtain ⟨g1, g2, g3⟩ := go _ _ rfl (Nat.le_refl _)
          refine ⟨_, g1, ?_⟩
          have ha : a = 0 := by omega
          subst ha
          rw [if_pos rfl, show b - 0 = 0 from by omega]
          exact .slice0 hq
        | scal hs => simp [scal] at hs
      · rename_i b0 off s0
        obtain ⟨h6, h7⟩ := bb_eq h
        cases h7
        have hsn := Nat.eq_of_beq_eq_true h6
        subst hsn
        cases hx with
        | grow hq hkk hm =>
          rename_i k' q
          obtain ⟨g1, g2, g3⟩ := go _ _ rfl hkk
          refine ⟨_, g1, ?_⟩
          by_cases hca : k' = a
          · rw [if_pos hca]
            have : b - a = 0 := by omega
            rw [this, show cap - a = 0 from by omega, show k' - a = 0 from by omega]
            exact .slice0 hq
          · rw [if_neg hca]
            simp only [Option.map_some, addr_add, Nat.add_assoc]
            refine .grow hq (by omega) ?_
            have : a * s0 + (k' - a) * s0 = k' * s0 := by rw [← Nat.add_mul]; congr 1; omega
            omega
        | slice0 hq =>
          obtain ⟨g1, g2, g3⟩ := go _ _ rfl (Nat.le_refl _)
          refine ⟨_, g1, ?_⟩
          have ha : a = 0 := by omega
          subst ha
          rw [if_pos rfl, show b - 0 = 0 from by omega]
          exact .slice0 hq
        | scal hs => simp [scal] at hs
      · obtain ⟨h6, h7⟩ := bb_eq h
        cases h7
        have hc0 := Nat.eq_of_beq_eq_true h6
        cases hx with
        | scal hs =>
          obtain ⟨g1, g2, g3⟩ := go _ _ rfl (Nat.le_refl _)
          refine ⟨_, g1, ?_⟩
          have ha : a = 0 := by omega
          subst ha
          rw [if_pos hc0, show b - 0 = 0 from by omega, show cap - 0 = 0 from by omega]
          exact .scal rfl
    · cases h
  · rename_i b0 off
    split at h
    · rename_i m el hu
      obtain ⟨⟨a, b⟩, h4, k4⟩ := ob_eq h
      clear h
      obtain ⟨n, h5, h⟩ := ob_eq (show ob (size? P el) _ = some v from k4)
      clear k4
      have hn := size_of h5
      cases h
      obtain ⟨hb, hab, hbl⟩ := bounds_run (P := P) (w := w) (isSlice := false) hk hlo hhi h2 h3 h4 (Nat.le_refl _)
      cases hx with
      | ptr hq =>
        rename_i q
        refine ⟨.slice (some (if m = a then ⟨q.c, q.o + off, none⟩ else (⟨q.c, q.o + off, none⟩ : Addr).add (a * n))) (b - a) (m - a), ?_, ?_⟩
        · simp only [execOp, ho, hE, Instr.sliceAt, Sem.run_bind, under_of hu, Result.andThen_ok, Instr.sureAddr, Option.map_none, hb, hn, Sem.run_pure]
        · by_cases hca : m = a
          · rw [if_pos hca, show b - a = 0 from by omega, show m - a = 0 from by omega]
            exact .slice0 hq
          · rw [if_neg hca]
            simp only [addr_add, Nat.add_assoc]
            exact .slice hq
      | scal hs => simp [scal] at hs
    · cases h
  · cases h

theorem oneV_eq {l : List Value} (h : oneV l = some v) : l = [v] := by
  unfold oneV at h
  split at h
  · cases h; rfl
  · cases h
theorem args_known {c : Call} (ho : o.op = .call c) (hk : Known ρ fr e o.op.operands.toList) : Known ρ fr e c.args.toList :=
  hk.sub fun y hy => by
    simp only [ho, Op.operands, Call.operands, Array.toList_append, List.mem_append]
    exact .inr hy
theorem argT_eq {c : Call} {t : TypeId} (h : argT c = some t) : c.argTypes[0]? = some t := by
  unfold argT at h
  split at h
  · rename_i u r hu
    cases h
    have := congrArg (fun l : List TypeId => l[0]?) hu
    simpa using this
  · cases h
theorem map_args (c : Call) (e : Operand → Value) : c.args.map e = ⟨c.args.toList.map e⟩ := by rw [← Array.toList_inj]; simp

theorem len_sound {c : Call} (ho : o.op = .call c) (hc : c.callee = .builtin .len) (hk : Known ρ fr e o.op.operands.toList) (h : pLen P fr c = some v) : PureOk P ρ e o w v := by
  obtain ⟨vs, h1, k1⟩ := ob_eq h
  clear h
  obtain ⟨x, h2, k2⟩ := ob_eq k1
  clear k1
  obtain ⟨t, h3, k3⟩ := ob_eq k2
  clear k2
  obtain ⟨n, h4, k4⟩ := ob_eq k3
  clear k3
  cases k4
  have hr := (args_known ho hk).evs h1
  rw [oneV_eq h2] at hr
  generalize hE : c.args.toList.map e = L at hr
  cases hr with
  | cons hx hs =>
  cases hs
  rename_i x'
  refine ⟨.int .i64 n, ?_, .scal rfl⟩
  have hargs : c.args.map e = #[x'] := by rw [map_args, hE]
  unfold lenV at h4
  split at h4
  · rename_i hu
    split at h4
    · cases h4; cases hx
      simp only [execOp, ho, resolve, hc, Sem.run_bind, Sem.run_pure, Result.andThen_ok, invoke, builtin, Builtin.len_, argT_eq h3, hargs]
      simp [under_of hu, goInt]
    · cases h4
  · rename_i el hu
    split at h4
    · cases h4
      cases hx <;> first
        | (simp only [execOp, ho, resolve, hc, Sem.run_bind, Sem.run_pure, Result.andThen_ok, invoke, builtin, Builtin.len_, argT_eq h3, hargs]
           simp [under_of hu, goInt]; done)
        | (rename_i hs; simp [scal] at hs; done)
    · cases h4
  · cases h4

theorem cap_sound {c : Call} (ho : o.op = .call c) (hc : c.callee = .builtin .cap) (hk : Known ρ fr e o.op.operands.toList) (h : pCap P fr c = some v) : PureOk P ρ e o w v := by
  obtain ⟨vs, h1, k1⟩ := ob_eq h
  clear h
  obtain ⟨x, h2, k2⟩ := ob_eq k1
  clear k1
  obtain ⟨t, h3, k3⟩ := ob_eq k2
  clear k2
  obtain ⟨n, h4, k4⟩ := ob_eq k3
  clear k3
  cases k4
  have hr := (args_known ho hk).evs h1
  rw [oneV_eq h2] at hr
  generalize hE : c.args.toList.map e = L at hr
  cases hr with
  | cons hx hs =>
  cases hs
  rename_i x'
  refine ⟨.int .i64 n, ?_, .scal rfl⟩
  have hargs : c.args.map e = #[x'] := by rw [map_args, hE]
  unfold capV at h4
  split at h4
  · rename_i el hu
    split at h4
    · cases h4
      cases hx
      simp only [execOp, ho, resolve, hc, Sem.run_bind, Sem.run_pure, Result.andThen_ok, invoke, builtin, Builtin.cap_, argT_eq h3, hargs]
      simp [under_of hu, goInt]
    · cases h4
  · cases h4
theorem ilt_if (a b : Int) (x y : Int) : bi (ilt a b) x y = if a < b then x else y := by
  rw [ilt_iff]
  by_cases h : a < b
  · simp [h]
  · simp [h]
theorem mm_run (isMax : Bool) : ∀ (l : List Value) (x v : Value) (l' : List Value) (x' : Value), mm isMax l x = some v → VsRel ρ l l' → VRel ρ x x' →
    ∃ v', (l'.foldlM (if isMax then Builtin.max2 else Builtin.min2) x').run P w = .ok v' w ∧ VRel ρ v v' := by
  intro l
  induction l with
  | nil => intro x v l' x' h hl hx; cases h; cases hl; exact ⟨x', rfl, hx⟩
  | cons y l ih =>
    intro x v l' x' h hl hx
    obtain ⟨u, h1, h2⟩ := ob_eq (show ob (minmax isMax x y) (mm isMax l) = some v from h)
    cases hl with
    | cons hy hl =>
    rename_i y' l'
    unfold minmax at h1
    split at h1
    · split at h1
      · rename_i k a k' b
        cases h1
        cases hx; cases hy
        obtain ⟨v', h3, h4⟩ := ih _ v l' _ h2 hl (.scal rfl)
        refine ⟨v', ?_, h4⟩
        rw [List.foldlM_cons, Sem.run_bind]
        cases isMax with
        | true =>
          simp only [if_true, Builtin.max2, Sem.run_pure, Result.andThen_ok]
          simpa [ilt_if] using h3
        | false =>
          simp only [Bool.false_eq_true, if_false, Builtin.min2, Sem.run_pure, Result.andThen_ok]
          simpa [ilt_if] using h3
      · cases h1
    · cases h1
theorem mm_sound {c : Call} (isMax : Bool) (ho : o.op = .call c) (hc : c.callee = .builtin (if isMax then .max else .min)) (hk : Known ρ fr e o.op.operands.toList) (h : pMM fr isMax c = some v) : PureOk P ρ e o w v := by
  obtain ⟨vs, h1, k1⟩ := ob_eq h
  clear h
  have hr := (args_known ho hk).evs h1
  generalize hE : c.args.toList.map e = L at hr
  cases hr with
  | nil => cases k1
  | cons hx hs =>
  rename_i x x' l l'
  obtain ⟨v', h3, h4⟩ := mm_run (P := P) (w := w) isMax l x v l' x' k1 hs hx
  refine ⟨v', ?_, h4⟩
  have hargs : c.args.map e = ⟨x' :: l'⟩ := by rw [map_args, hE]
  cases isMax with
  | true =>
    simp only [if_true] at h3 hc
    simp only [execOp, ho, resolve, hc, Sem.run_bind, Sem.run_pure, Result.andThen_ok, invoke, builtin, Builtin.max_, hargs, h3]
  | false =>
    simp only [Bool.false_eq_true, if_false] at h3 hc
    simp only [execOp, ho, resolve, hc, Sem.run_bind, Sem.run_pure, Result.andThen_ok, invoke, builtin, Builtin.min_, hargs, h3]

end
end Go.Ab
