/- Aw9 an abstract machine for the HB code: VE grow BD1 new blocks, AU8 run in the order of the text, and Hm is not covered has no result. -/
import Derived.Orders
import Derived.KernelRfl
import Derived.Laws.Cells
import Derived.Laws.Strings
import Derived.MapKept
import Derived.RangeFuncRecord
set_option linter.unusedSimpArgs false
set_option linter.unusedVariables false
set_option linter.defProp false
set_option maxHeartbeats 32000000
set_option maxRecDepth 100000
namespace Go.Ab
def om {p:Prop} (h:p:=by omega):p:=h
def z0z:=@if_neg
def z1z:=@if_pos
def z2z:=@List.length_map
def z3z:=@decide_eq_true_iff
def z4z:=@decide_eq_false
def z5z:=@Nat.lt_of_lt_of_le
def z6z:=@of_decide_eq_true
def z7z:=@Bool.eq_iff_iff
def z8z:=@Option.some.inj
def z9z:=@of_decide_eq_false
def y6:=@List.mem_of_getElem?
def W5:=@Nat.le_trans
def AH:=@Nat.lt_or_ge
def AP:=@Nat.le_refl
def T1:=@Bool.and_eq_true
def Ah:=@List.map_append
def Af:=@Nat.zero_le
def Ac:=@Nat.eq_of_beq_eq_true
def AG:=@List.length_cons
def AK:=@decide_eq_true
def W4:=@List.length_append
def V9:=@List.mem_cons
def Dq:=@List.take_length
def CZ:=@Bool.false_and
def Cd:=@Nat.mul_comm
def EJ:=@Nat.blt_eq
def Fh:=@Nat.mul_one
def An:=@List.mem_append
def Bx:=@Bool.true_and
def KW:=@List.length_take
def Gf:=@List.take_add_one
def FU:=@if_true
def Be:=@Nat.add_zero
def Ek:=@Nat.mul_assoc
def HW:=@List.length_drop
def SY:=@Bool.not_false
def Ci:=@List.mem_cons_of_mem
def Cb:=@List.mem_singleton
def Gd:=@Nat.pow_succ
def Eo:=@Nat.zero_add
def GH:=@List.all_eq_true
def HZ:=@if_false
def LO:=@Bool.and_false
def XP:=@Bool.not_true
def GF:=@decide_eq_false_iff_not
def GV:=@Nat.zero_mul
def HU:=@Array.getD_eq_getD_getElem?
def JM:=@Bool.false_eq_true
def KU:=@Nat.mod_lt
def II:=@Bool.or_eq_true
def Ej:=@decide_eq_true_eq
def Cw:=@List.mem_cons_self
def Ca:=@List.append_nil
def Hf:=@List.length_nil
def Cj:=@Nat.le_of_ble_eq_true
def JN:=@Int.ofNat_eq_natCast
def Pg:=@List.take_of_length_le
def DT:=@List.append_assoc
def Ph:=@List.drop_drop
def LN:=@List.not_mem_nil
def Mk:=@List.drop_eq_getElem_cons
def MJ:=@or_false
def JQ:=@Nat.lt_succ_self
def GI:=@List.mem_map
def KP:=@List.nil_append
def Pq:=@Array.length_toList
def JF:=@List.cons_append
def Up:=@Nat.sub_zero
def Px:=@Nat.add_assoc
def nM:=@List.contains_iff_mem
def Oy:=@Nat.succ_mul
def Sd:=@Nat.add_mul
def QU:=@Nat.mul_add
def SZ:=@Nat.mul_le_mul_right
def MZ:=@List.all_cons
def Ma:=@List.drop_zero
def bK:=@Nat.pow_le_pow_right
def vw:=@Nat.min_eq_left
def Qp:=@List.flatten_cons
def Wi:=@List.mem_of_mem_take
def Sh:=@Bool.and_true
def jF:=@List.takeWhile_cons
def XL:=@Nat.eq_zero_or_pos
def NV:=@List.eq_nil_of_length_eq_zero
def oW:=@List.any_eq_true
def bL:=@Nat.pow_pos
def SW:=@Nat.one_mul
def iH:=@List.singleton_append
def aK:=@List.length_eq_zero_iff
def We:=@List.mem_range
def aR:=@List.mem_of_mem_drop
def ah:=@beq_eq_false_iff_ne
def KR:=@Int.eq_ofNat_of_zero_le
def bO:=@Nat.mul_zero
def bj:=@Nat.lt_trichotomy
def bz:=@Int.negSucc_eq
def WY:=@Nat.sub_self
def OW:=@List.map_cons
def TJ:=@List.foldl_cons
def Pu:=@Nat.mod_eq_of_lt
def TL:=@Option.map_some
def TM:=@Nat.gcd_comm
def AD9:=@Bool.or_eq_false_iff
def qj:=@List.all_append
def Th:=@Option.map_none
def Ti:=@Array.toList_inj
def YJ:=@Nat.le_succ
def fW:=@List.take_take
def RM:=@Nat.div_add_mod
def rh:=@List.drop_eq_nil_of_le
def Uh:=@Classical.byContradiction
def Ui:=@mem_ready
def Uj:=@Nat.add_right_cancel_iff
def Q8:=@Nat.le_add_right
def Wm:=@Array.size_append
def Wn:=@Nat.mul_le_mul_left
def Wo:=@Int.toNat_natCast
def Wp:=@Nat.div_le_self
def fG:=@List.foldl_append
def eZ:=@List.mem_iff_getElem?
def ec:=@UInt8.toNat.inj
def TY:=@List.take_zero
def XO:=@List.drop_length
def oo:=@Nat.mul_le_mul
def ZP:=@Nat.testBit_or
def Zo:=@Nat.le_antisymm
def WX:=@List.length_singleton
def eH:=@Array.size_replicate
def eK:=@Nat.gcd_pos_of_pos_right
def eL:=@Int.natCast_nonneg
def nN:=@Bool.not_eq_true
def sC:=@Option.map_eq_some_iff
def fC:=@Option.isSome_none
def Tj:=@Bool.eq_false_iff
def fS:=@Nat.div_lt_of_lt_mul
def fV:=@Nat.add_le_add_right
def Pp:=@List.length_pos_iff
def gC:=@Nat.pow_zero
def gI:=@List.count_cons
def mc:=@List.drop_append
def mg:=@Nat.add_comm
def nD:=@Array.foldl_toList
def nE:=@Array.toList_map
def nG:=@List.mapM_cons
def nI:=@Nat.gcd_zero_right
def nJ:=@Nat.gcd_rec
def nh:=@Nat.div_one
def QV:=@List.length_set
def Td:=@List.map_map
def qO:=@Nat.mul_mod
def qP:=@Nat.zero_mod
def rW:=@Nat.mul_lt_mul_left
def rX:=@Nat.mul_eq_zero
def rY:=@Nat.pow_add
def rm:=@Nat.div_eq_of_lt
def ru:=@List.mem_flatten
def sD:=@Oper.upon_value
def sR:=@Option.getD_none
def sS:=@Option.getD_some
def sT:=@Option.isSome_some
def sw:=@Nat.mod_two_eq_zero_or_one
def tR:=@Int.mul_ediv_cancel_left
def me:=@List.drop_of_length_le
def AA1:=@Array.mapM_eq_mapM_toList
def AA2:=@Array.toList_append
def AA3:=@Nat.le_mul_of_pos_right
def Py:=@Nat.ble_eq_true_of_le
def AA5:=@List.pairwise_singleton
def fA:=@List.mem_or_eq_of_mem_set
def AC1:=@Array.toList_extract
def AC2:=@List.extract_eq_take_drop
def AC5:=@Nat.div_le_of_le_mul
def ph:=@List.take_append_drop
def AD0:=@Int.negSucc_lt_zero
def mq:=@Int.tmod_eq_emod_of_nonneg
def nC:=@List.pairwise_iff_getElem
def AD6:=@Array.size_setIfInBounds
def mu:=@List.replicate_succ
def AD7:=@Nat.eq_of_mul_eq_mul_left
def AD8:=@Nat.mul_div_cancel_left
def AE6:=@List.eq_nil_iff_forall_not_mem
def AE7:=@Array.toList_setIfInBounds
def AF2:=@Nat.lt_of_mul_lt_mul_right
def AF3:=@List.take_succ_cons
theorem aI {a b:Prop} (x:a) (y:b):a/\b:=⟨x,y⟩
theorem a3N {a b c:Prop}(d:a)(e:b)(f:c):a/\b/\c:=⟨d,e,f⟩
theorem a4N {a b c d:Prop}(e:a)(f:b)(g:c)(h:d):a/\b/\c/\d:=⟨e,f,g,h⟩
theorem a5N {a b c d e:Prop}(f:a)(g:b)(h:c)(i:d)(j:e):a/\b/\c/\d/\e:=⟨f,g,h,i,j⟩
theorem a6N {a b c d e f:Prop}(g:a)(h:b)(i:c)(j:d)(l:e)(m:f):a/\b/\c/\d/\e/\f:=⟨g,h,i,j,l,m⟩
theorem a7N {a b c d e f g:Prop}(h:a)(i:b)(j:c)(l:d)(m:e)(n:f)(o:g):a/\b/\c/\d/\e/\f/\g:=⟨h,i,j,l,m,n,o⟩
theorem a8N {a b c d e f g h:Prop}(i:a)(j:b)(l:c)(m:d)(n:e)(o:f)(p:g)(q:h):a/\b/\c/\d/\e/\f/\g/\h:=⟨i,j,l,m,n,o,p,q⟩
theorem a9N {a b c d e f g h p8:Prop}(i:a)(j:b)(l:c)(m:d)(n:e)(o:f)(p:g)(q:h)(r:p8):a/\b/\c/\d/\e/\f/\g/\h/\p8:=⟨i,j,l,m,n,o,p,q,r⟩
theorem a10N {a b c d e f g h p8 i:Prop}(j:a)(l:b)(m:c)(n:d)(o:e)(p:f)(q:g)(r:h)(s:p8)(u:i):a/\b/\c/\d/\e/\f/\g/\h/\p8/\i:=⟨j,l,m,n,o,p,q,r,s,u⟩
def kR {p:Prop}(h:p:=by kernel_rfl):p:=h
def sI {p:Prop}(h:p:=by simp):p:=h
def nL {n:Nat}:n<=n:=AP n
def dF {p:Prop}[Decidable p](h: ¬p:=by omega):decide p=false:=z4z h
def dT {p:Prop}[Decidable p](h:p:=by omega):decide p=true:=AK h
def eT {d:Type}{a b c:d}(h:a=b)(g:b=c):a=c:=h.trans g
def nW {c:Type}(a:c):∃ b,a=b:=⟨_,rfl⟩
noncomputable section
open Go
def ob {b a:Type}(x:Option b) (f:b->Option a):Option a:=Option.rec (motive:=fun _=>Option a) none f x
def bb {a:Type}(c:Bool) (x:Option a):Option a:=Bool.rec (motive:=fun _=>Option a) none x c
def bi {a:Type}(c:Bool) (x y:a):a:=Bool.rec (motive:=fun _=>a) y x c
def pr {b c a:Type}(p:b×c) (f:b->c->a):a:=Prod.rec (motive:=fun _=>a) f p
inductive Tr (α:Type) where
 |nil
 |node (l:Tr α) (v:Option α) (r:Tr α)
def Tr.get {a:Type}(t:Tr a):Nat->Option a :=
 Tr.rec (motive:=fun _=>Nat->Option a) (fun _=>none)
  (fun _ v _ gl gr n=>Nat.rec (motive:=fun _=>Option a) v (fun m _=>Nat.rec (motive:=fun _=>Option a) (gl (m / 2)) (fun _ _=>gr (m / 2)) (m % 2)) n) t
def Tr.one {b:Type}(f:Nat):Nat->b->Tr b :=
 Nat.rec (motive:=fun _=>Nat->b->Tr b) (fun _ _=> .nil)
  (fun _ c n a=>Nat.rec (motive:=fun _=>Tr b) (.node .nil (some a) .nil) (fun m _=>Nat.rec (motive:=fun _=>Tr b) (.node (c (m / 2) a) none .nil) (fun _ _=> .node .nil none (c (m / 2) a)) (m % 2)) n) f
def Tr.set {b:Type}(t:Tr b):Nat->b->Tr b :=
 Tr.rec (motive:=fun _=>Nat->b->Tr b) (fun n a=>Tr.one (n+1) n a)
  (fun l v r sl c n a=>Nat.rec (motive:=fun _=>Tr b) (.node l (some a) r) (fun m _=>Nat.rec (motive:=fun _=>Tr b) (.node (sl (m / 2) a) v r) (fun _ _=> .node l v (c (m / 2) a)) (m % 2)) n) t
inductive Kind where
 |row (t:Option TypeId)
 |map
structure Blk where
 cells:List Value
 live:Bool
 own:Bool
 ver:Nat
 kind:Kind
structure St where
 h:Tr Blk
 n:Nat
inductive Out where
 |normal|exit (id:Nat)|ret|pan (v:Value)
def St.Hg (Z:St) (cs:List Value) (k:Kind):St:=⟨Z.h.set Z.n ⟨cs,true,true,0,k⟩,Z.n+1⟩
def St.new (Z:St) (cs:List Value) (t:Option TypeId:=none):St:=Z.Hg cs (.row t)
def St.blk (Z:St) (b:Nat):Option Blk:=ob (Z.h.get b) fun B=>bb B.live (some B)
def St.EI (Z:St) (b:Nat):Option Blk:=ob (Z.blk b) fun B=>Kind.rec (motive:=fun _=>Option Blk) (fun _=>some B) none B.kind
def St.Se (Z:St) (b:Nat):Option Blk:=ob (Z.blk b) fun B=>Kind.rec (motive:=fun _=>Option Blk) (fun _=>none) (some B) B.kind
def St.ver (Z:St) (b:Nat):Nat:=match Z.h.get b with
 |some B=>B.ver
 |none=>0
def takeN {a:Type}(n:Nat):List a->Option (List a) :=
 Nat.rec (motive:=fun _=>List a->Option (List a)) (fun _=>some [])
  (fun _ b l=>List.rec (motive:=fun _=>Option (List a)) none (fun x xs _=>ob (b xs) fun r=>some (x::r)) l) n
def Uk {a:Type}(n:Nat):List a->Option (List a) :=
 Nat.rec (motive:=fun _=>List a->Option (List a)) (fun l=>some l)
  (fun _ b l=>List.rec (motive:=fun _=>Option (List a)) none (fun _ xs _=>b xs) l) n
def sub {a:Type}(cs:List a) (off n:Nat):Option (List a):=ob (Uk off cs) fun l=>takeN n l
def over {a:Type}(new:List a):List a->Option (List a) :=
 List.rec (motive:=fun _=>List a->Option (List a)) (fun l=>some l)
  (fun v _ b l=>List.rec (motive:=fun _=>Option (List a)) none (fun _ xs _=>ob (b xs) fun r=>some (v::r)) l) new
def M5 {a:Type}(cs:List a) (off:Nat) (new:List a):Option (List a) :=
 (Nat.rec (motive:=fun _=>List a->Option (List a)) (fun l=>over new l)
   (fun _ b l=>List.rec (motive:=fun _=>Option (List a)) none (fun x xs _=>ob (b xs) fun r=>some (x::r)) l) off:List a->Option (List a)) cs
def St.read (Z:St) (b off n:Nat):Option (List Value):=ob (Z.EI b) fun B=>sub B.cells off n
def St.write (Z:St) (b off:Nat) (vs:List Value):Option St:=ob (Z.EI b) fun B=>bb B.own (ob (M5 B.cells off vs) fun cs=>some ⟨Z.h.set b ⟨cs,true,true,B.ver+1,B.kind⟩,Z.n⟩)
def St.kill (Z:St) (b:Nat):Option St:=ob (Z.EI b) fun B=>bb B.own (some ⟨Z.h.set b ⟨[],false,true,B.ver+1,.row none⟩,Z.n⟩)
def St.AL0 (Z:St) (b:Nat) (cs:List Value):Option St:=ob (Z.Se b) fun B=>bb B.own (some ⟨Z.h.set b ⟨cs,true,true,B.ver+1,.map⟩,Z.n⟩)
def M6 (v:Value):List Value:=match v with| .agg cs=>cs.toList|v=>[v]
def R7:Value:= .tuple #[]
def N2 (v:Value):Bool:=match v with
 | .agg _=>false
 | .tuple _=>false
 |_=>true
def El (v:Value):Bool:=match v with
 | .tuple _=>true
 |_=>false
def J8 (v:Value):Bool:=match v with
 | .bool _| .int .. | .string _| .float .. | .complex .. | .nilFunc| .nilIface=>true
 | .pointer none| .map none| .chan none| .slice none 0 0=>true
 |_=>false
def Gx (l:List Value):Bool:=List.rec (motive:=fun _=>Bool) true (fun v _ a=>bi (J8 v) a false) l
def NC (v:Value):Bool:=match v with
 | .agg ⟨l⟩=>Gx l
 |v=>J8 v
def tH (v:Value):Bool:=match v with
 | .tuple ⟨l⟩=>Gx l
 |v=>NC v
def cst (v:Value):Option Value:=bb (NC v) (some v)
def O8 {α:Type}(p:Program):Sem α->Option α
 | .pure a=>some a
 | .program k=>O8 p (k p)
 | .mark _ k=>O8 p k
 |_=>none
mutual
def flat:Value->Bool
 | .bool _| .int .. | .string _| .float .. | .complex .. | .nilFunc| .nilIface=>true
 | .pointer a=>a.isNone
 | .map a=>a.isNone
 | .chan a=>a.isNone
 | .agg cs=>LG cs
 | .tuple cs=>LG cs
 | .iface _ v=>flat v
 | .slice none 0 0=>true
 | .slice .. | .func .. =>false
def LG:Array Value->Bool
 | ⟨l⟩=>TR l
def TR:List Value->Bool
 | []=>true
 |v::vs=>(match flat v with|true=>TR vs|false=>false)
end
abbrev Fr:=Tr Value
def ev (fr:Fr) (x:Operand):Option Value :=
 Operand.rec (motive:=fun _=>Option Value) (fun t=>fr.get t) cst (fun g=>some (.pointer (some ⟨g,0,none⟩))) (fun f=>some (.func (.func f) #[] #[])) x
def evs (fr:Fr) (l:List Operand):Option (List Value) :=
 List.rec (motive:=fun _=>Option (List Value)) (some []) (fun o _ a=>ob (ev fr o) fun v=>ob a fun vs=>some (v::vs)) l
def size? (P:Program) (t:TypeId):Option Nat:=match P.info? t with|some i=>some i.size|none=>none
def Ao7:TypeDesc->Bool
 | .struct _| .array _ _=>true
 |_=>false
def Lu (P:Program) (t:TypeId):Option Bool:=match P.underlying t with
 |some d=>some (Ao7 d)
 |none=>none
def KX (l:List Value):Option Value:=match l with
 | [v]=>some v
 |_=>none
def fX (P:Program) (Z:St) (t:TypeId) (b off:Nat):Option Value :=
 ob (Lu P t) fun g=>bi g (ob (size? P t) fun n=>ob (Z.read b off n) fun cs=>some (.agg ⟨cs⟩)) (ob (Z.read b off 1) KX)
def at? (v:Value):Option (Nat×Nat):=match v with
 | .pointer (some ⟨b,off,none⟩)=>some (b,off)
 |_=>none
def Od (P:Program) (Z:St) (t:TypeId) (a:Value):Option Value:=ob (at? a) fun p=>pr p fun b off=>fX P Z t b off
def Ld (P:Program) (Z:St) (t:TypeId) (a v:Value):Option St :=
 ob (at? a) fun p=>pr p fun b off=>ob (size? P t) fun n=>bi (El v) none (bb ((M6 v).length.beq n) (Z.write b off (M6 v)))
def Ad (P:Program) (t:TypeId):Option Value:=ob (P.info? t) fun i=>ob i.zero cst
def tS (P:Program) (t:TypeId) (cs:List Value) (off:Nat):Option Value :=
 ob (Lu P t) fun g=>bi g (ob (size? P t) fun n=>ob (sub cs off n) fun l=>some (.agg ⟨l⟩)) (ob (sub cs off 1) KX)
def nat? (v:Value):Option Nat:=match v with
 | .int _ (.ofNat n)=>some n
 |_=>none
def jt (dl:Nat) (hi:Option Value):Option Nat:=match hi with|some v=>nat? v|none=>some dl
def au (dl cap:Nat) (lo hi:Option Value):Option (Nat×Nat) :=
 ob (jt dl hi) fun h=>bb (h.ble cap) (ob (jt 0 lo) fun l=>bb (l.ble h) (some (l,h)))
def rep {a:Type}(l:List a) (n:Nat):List a:=Nat.rec (motive:=fun _=>List a) [] (fun _ b=>l++b) n
def Bl (place:Nat->Option (Nat×Nat)) (parts:List (Nat×Value)):List Value->Option (List Value) :=
 List.rec (motive:=fun _=>List Value->Option (List Value)) (fun cells=>some cells)
  (fun p _ a cells=>pr p fun i v=>ob (place i) fun q=>pr q fun off n=>bi (El v) none (bb ((M6 v).length.beq n) (ob (M5 cells off (M6 v)) a))) parts
def O9 (s:List UInt8):List Value:=s.map fun b=> .int .u8 b.toNat
def Ow (v:Value):Option UInt8:=match v with
 | .int .u8 n=>some (UInt8.ofNat n.toNat)
 |_=>none
def BZ (l:List Value):Option (List UInt8) :=
 List.rec (motive:=fun _=>Option (List UInt8)) (some []) (fun v _ a=>ob (Ow v) fun b=>ob a fun bs=>some (b::bs)) l
def AJ (Z:St) (size:Nat) (v:Value):Option (Nat×List Value):=match v with
 | .slice none n _=>bb (n.beq 0) (some (0,[]))
 | .slice (some ⟨b,off,_⟩) n _=>ob (Z.read b off (n*size)) fun cs=>some (n,cs)
 | .string s=>bb (Nat.beq size 1) (some (s.data.toList.length,O9 s.data.toList))
 |_=>none
def elem? (P:Program) (t:TypeId):Option TypeId:=match P.underlying t with|some (.slice e)=>some e|_=>none
def room:Nat:=4294967296
def CU (Z:St) (size:Nat) (A9:Option Addr) (len cap n:Nat) (new:List Value):Option (Value×St):=match A9 with
 |some ⟨b,off,sp⟩=>ob (Z.write b (off+len*size) new) fun Z=>some (.slice (some ⟨b,off,sp⟩) (len+n) cap,Z)
 |none=>bb (Nat.beq (len+n+cap) 0) (some (.slice none 0 0,Z))
def St.typ (Z:St) (b:Nat):Option TypeId:=ob (Z.h.get b) fun B=>Kind.rec (motive:=fun _=>Option TypeId) (fun t=>t) none B.kind
def MQ (e:TypeId) (off:Nat) (t:Option TypeId):Option TypeId:=ob t fun x=>bb (Nat.beq x e) (bb (Nat.beq off 0) (some e))
def BP (e:TypeId) (Z:St) (size:Nat) (A9:Option Addr) (len n:Nat) (new:List Value):Option (Value×St):=match A9 with
 |none=>bb (Nat.beq len 0) (some (.slice (some ⟨Z.n,0,some size⟩) n n,Z.new new (some e)))
 |some ⟨b,off,none⟩=>ob (Z.read b off (len*size)) fun old=>some (.slice (some ⟨Z.n,0,some size⟩) (len+n) (len+n),Z.new (old++new) (some e))
 |some ⟨b,off,some s⟩=>bb (Nat.beq s size) (ob (Z.read b off (len*size)) fun old=>ob (Z.kill b) fun Z'=>some (.slice (some ⟨Z'.n,0,some size⟩) (len+n) (len+n),Z'.new (old++new) (MQ e off (Z.typ b))))
def CO (P:Program) (Z:St) (t:TypeId) (s x:Value):Option (Value×St) :=
 ob (elem? P t) fun e=>ob (P.info? e) fun i=>match s with
  | .slice A9 len cap=>ob (AJ Z i.size x) fun p=>pr p fun n new=>bb (Nat.ble 1 i.size) (bi (Nat.ble (len+n) cap)
     (CU Z i.size A9 len cap n new)
     (bb (Nat.ble ((len+n)*(i.bytes+1)) room) (ob (Ad P e) fun z=>bb ((M6 z).length.beq i.size) (BP e Z i.size A9 len n new))))
  |_=>none
def oT (d:Option TypeDesc) (v:Value):Option Nat:=match d with
 |some .string=>(match v with| .string s=>some s.data.toList.length|_=>none)
 |some (.slice _)=>(match v with| .slice _ n _=>some n|_=>none)
 |_=>none
def inR (k:IntKind) (n:Int):Bool:=match k,n with
 | .i64,.ofNat m=>Nat.blt m 9223372036854775808
 | .i64,.negSucc m=>Nat.blt m 9223372036854775808
 | .u8,.ofNat m=>Nat.blt m 256
 | .u64,.ofNat m=>Nat.blt m 18446744073709551616
 |_,_=>false
def Hn (k:IntKind) (n:Int):Int:=bi (inR k n) n (k.wrap n)
def ieq (a b:Int):Bool:=match a,b with
 | .ofNat a,.ofNat b=>Nat.beq a b
 | .negSucc a,.negSucc b=>Nat.beq a b
 |_,_=>false
def ilt (a b:Int):Bool:=match a,b with
 | .ofNat a,.ofNat b=>Nat.blt a b
 | .negSucc a,.negSucc b=>Nat.blt b a
 | .negSucc _,.ofNat _=>true
 | .ofNat _,.negSucc _=>false
def keq (a b:IntKind):Bool:=Nat.beq a.ctorIdx b.ctorIdx
def Lp (a:List UInt8):List UInt8->Bool :=
 List.rec (motive:=fun _=>List UInt8->Bool) (fun b=>List.rec (motive:=fun _=>Bool) true (fun _ _ _=>false) b)
  (fun x _ c b=>List.rec (motive:=fun _=>Bool) false (fun y ys _=>bi (Nat.beq x.toNat y.toNat) (c ys) false) b) a
def BF9 (op:BinOp):IntKind->Int->Int->Option Value :=
 BinOp.rec (motive:=fun _=>IntKind->Int->Int->Option Value)
  (fun k a b=>some (.int k (Hn k (a+b))))
  (fun k a b=>some (.int k (Hn k (a-b))))
  (fun k a b=>some (.int k (Hn k (a*b))))
  (fun _ _ _=>none)
  (fun _ _ _=>none)
  (fun _ _ _=>none)
  (fun _ _ _=>none)
  (fun _ _ _=>none)
  (fun _ _ _=>none)
  (fun _ _ _=>none)
  (fun _ _ _=>none)
  (fun _ a b=>some (.bool (ieq a b)))
  (fun _ a b=>some (.bool (bi (ieq a b) false true)))
  (fun _ a b=>some (.bool (ilt a b)))
  (fun _ a b=>some (.bool (bi (ilt b a) false true)))
  (fun _ a b=>some (.bool (ilt b a)))
  (fun _ a b=>some (.bool (bi (ilt a b) false true))) op
def BG0 (op:BinOp):ByteArray->ByteArray->Option Value :=
 BinOp.rec (motive:=fun _=>ByteArray->ByteArray->Option Value)
  (fun a b=>bb (Nat.ble (a.data.toList.length+b.data.toList.length) room) (some (.string ⟨(a.data.toList++b.data.toList).toArray⟩)))
  (fun _ _=>none)
  (fun _ _=>none)
  (fun _ _=>none)
  (fun _ _=>none)
  (fun _ _=>none)
  (fun _ _=>none)
  (fun _ _=>none)
  (fun _ _=>none)
  (fun _ _=>none)
  (fun _ _=>none)
  (fun a b=>some (.bool (Lp a.data.toList b.data.toList)))
  (fun a b=>some (.bool (bi (Lp a.data.toList b.data.toList) false true)))
  (fun _ _=>none)
  (fun _ _=>none)
  (fun _ _=>none)
  (fun _ _=>none) op
def Ml (op:BinOp) (x y:Value):Option Value:=match x with
 | .int k a=>(match y with
   | .int k' b=>bb (keq k k') (BF9 op k a b)
   |_=>none)
 | .string a=>(match y with
   | .string b=>BG0 op a b
   |_=>none)
 |_=>none
def Ig (a:Bool) (v w:Value):Option Value:=match v with
 | .int k x=>(match w with
   | .int _ y=>some (.int k (bi a (bi (ilt x y) y x) (bi (ilt y x) y x)))
   |_=>none)
 |_=>none
def mm (a:Bool) (l:List Value):Value->Option Value :=
 List.rec (motive:=fun _=>Value->Option Value) (fun v=>some v) (fun x _ b v=>ob (Ig a v x) b) l
def EY (d:Option TypeDesc) (x y:Value):Option Bool:=match d with
 | some (.pointer _)=>(match x,y with
   | .pointer none,.pointer none=>some true
   | .pointer none,.pointer (some _)=>some false
   | .pointer (some _),.pointer none=>some false
   |_,_=>none)
 | some (.slice _)=>(match x,y with
   | .slice none _ _,.slice none _ _=>some true
   | .slice none _ _,.slice (some _) _ _=>some false
   | .slice (some _) _ _,.slice none _ _=>some false
   |_,_=>none)
 | some (.func ..)=>(match x,y with
   | .nilFunc,.nilFunc=>some true
   | .nilFunc,.func .. =>some false
   | .func ..,.nilFunc=>some false
   |_,_=>none)
 | some (.interface _)=>(match x,y with
   | .nilIface,.iface .. =>some false
   | .iface ..,.nilIface=>some false
   |_,_=>none)
 |_=>none
def Ke (n:Option Next):Option Value:=match n with
 |some (.value v)=>some v
 |_=>none
def Km (P:Program) (fr:Fr) (o:Oper):Option Value :=
 ob (Ke (O8 P (execOp (fun x=>(ev fr x).getD R7) o))) cst
def od (P:Program) (t:TypeId) (op:BinOp) (x y:Value):Option Value:=match op with
 | .eql=>ob (EY (P.underlying t) x y) fun b=>some (.bool b)
 | .neq=>ob (EY (P.underlying t) x y) fun b=>some (.bool !b)
 |_=>none
def orV (x y:Option Value):Option Value:=Option.rec (motive:=fun _=>Option Value) y (fun v=>some v) x
def vM (P:Program) (fr:Fr) (o:Oper) (op:BinOp) (t:TypeId) (x y:Value):Option Value :=
 orV (Ml op x y) (bi (flat x&&flat y) (Km P fr o) (od P t op x y))
/- The Dl Aa do not BT2 memory. -/
def bool? (v:Value):Option Bool:=match v with
 | .bool b=>some b
 |_=>none
def Jh (fr:Fr) (c a b:Operand):Option Value:=ob (ev fr c) fun v=>ob (bool? v) fun t=>bi t (ev fr a) (ev fr b)
def Uu (P:Program) (l:List Field):Option (List (Nat×Nat)) :=
 List.rec (motive:=fun _=>Option (List (Nat×Nat))) (some []) (fun f _ a=>ob (size? P f.type) fun n=>ob a fun r=>some ((f.offset,n)::r)) l
def Bm (P:Program) (t:TypeId) (z:List Value) (parts:List (Nat×Value)):Option Value:=match P.underlying t with
 |some (.struct fs)=>ob (Uu P fs.toList) fun a=>ob (Bl (fun i=>a[i]?) parts z) fun l=>some (.agg ⟨l⟩)
 |some (.array _ e)=>ob (size? P e) fun n=>ob (Bl (fun i=>some (i*n,n)) parts z) fun l=>some (.agg ⟨l⟩)
 |_=>none
def Ep (P:Program) (fr:Fr) (t:TypeId) (parts:Array (Nat×Operand)):Option Value :=
 ob (Ad P t) fun z=>ob (evs fr (parts.toList.map (·.2))) fun vs=>Bm P t (M6 z) ((parts.toList.map (·.1)).zip vs)
def bF (v:Value):Option Value:=match v with
 | .pointer (some a)=>some (.pointer (some a))
 | .func (.func f) a b=>some (.func (.func f) a b)
 | .iface t v=>some (.iface t v)
 |_=>none
def Bu (fr:Fr) (x:Operand):Option Value:=ob (ev fr x) bF
def QY (P:Program) (fr:Fr) (o:Oper) (b:BinOp) (t:TypeId) (x y:Operand):Option Value:=ob (ev fr x) fun a=>ob (ev fr y) fun c=>vM P fr o b t a c
def DP (P:Program) (fr:Fr) (o:Oper) (x:Operand):Option Value:=ob (ev fr x) fun a=>bb (flat a) (Km P fr o)
def concrete (d:Option TypeDesc):Bool:=match d with
 |some (.interface _)=>false
 |some _=>true
 |none=>false
def Lj (P:Program) (fr:Fr) (t:TypeId) (x:Operand):Option Value:=ob (ev fr x) fun v=>bb (concrete (P.underlying t)) (some (.iface t v))
def WK (a:Fn):Bool:=match a with
 | .func _=>true
 |_=>false
def Jj (fr:Fr) (c:Fn) (fs cs:Array Operand):Option Value:=ob (evs fr fs.toList) fun a=>ob (evs fr cs.toList) fun b=>bb (WK c) (some (.func c ⟨a⟩ ⟨b⟩))
def evO (fr:Fr) (x:Option Operand):Option (Option Value):=match x with
 |some o=>ob (ev fr o) fun v=>some (some v)
 |none=>some none
def tT (s:ByteArray) (b:Option (Nat×Nat)):Option Value:=ob b fun p=>pr p fun lo hi=>ob (sub s.data.toList lo (hi-lo)) fun l=>some (.string ⟨l.toArray⟩)
def sliceAt (n:Nat) (a:Option Addr) (lo hi cap:Nat):Option Value:=match a with
 |some ⟨b,off,none⟩=>some (.slice (some ⟨b,off+lo*n,none⟩) (hi-lo) (cap-lo))
 |some ⟨b,off,some s⟩=>bb (Nat.beq s n) (some (.slice (some ⟨b,off+lo*n,some s⟩) (hi-lo) (cap-lo)))
 |none=>bb (Nat.beq cap 0) (some (.slice none 0 0))
def iC (P:Program) (e:TypeId) (a:Option Addr) (cap:Nat) (b:Option (Nat×Nat)):Option Value :=
 ob b fun p=>pr p fun lo hi=>ob (size? P e) fun n=>sliceAt n a lo hi cap
def VL (P:Program) (t:TypeId) (v:Value) (lo hi:Option Value):Option Value:=match v with
 | .string s=>(match P.underlying t with
   |some .string=>tT s (au s.data.toList.length s.data.toList.length lo hi)
   |_=>none)
 | .slice a len cap=>(match P.underlying t with
   |some (.slice e)=>iC P e a cap (au len cap lo hi)
   |_=>none)
 | .pointer (some ⟨b,off,none⟩)=>(match P.underlying t with
   |some (.array m e)=>iC P e (some ⟨b,off,none⟩) m (au m m lo hi)
   |_=>none)
 |_=>none
def Ge (P:Program) (fr:Fr) (t:TypeId) (x:Operand) (lo hi a:Option Operand):Option Value :=
 bb a.isNone (ob (ev fr x) fun v=>ob (evO fr lo) fun lo=>ob (evO fr hi) fun hi=>VL P t v lo hi)
def Mn (P:Program) (s:TypeId) (f:Nat):Option Field:=match P.underlying s with
 |some (.struct fs)=>fs[f]?
 |_=>none
def AW (P:Program) (fr:Fr) (s:TypeId) (x:Operand) (f:Nat):Option Value :=
 ob (ev fr x) fun v=>ob (at? v) fun p=>pr p fun b off=>ob (Mn P s f) fun a=>ob (size? P a.type) fun n=>bb (Nat.ble 1 n) (some (.pointer (some ⟨b,off+a.offset,none⟩)))
def jZ (v:Value):Option (List Value):=match v with
 | .agg cs=>some cs.toList
 |_=>none
def Fv (P:Program) (fr:Fr) (s:TypeId) (x:Operand) (f:Nat):Option Value :=
 ob (ev fr x) fun v=>ob (jZ v) fun cs=>ob (Mn P s f) fun a=>tS P a.type cs a.offset
def evN (fr:Fr) (x:Operand):Option Nat:=ob (ev fr x) nat?
def AI9 (P:Program) (e:TypeId) (b off i len:Nat):Option Value:=bb (Nat.blt i len) (ob (size? P e) fun n=>some (.pointer (some ⟨b,off+i*n,none⟩)))
def Ih (P:Program) (t:TypeId) (v:Value) (i:Nat):Option Value:=match v with
 | .slice (some ⟨b,off,_⟩) len _=>ob (elem? P t) fun e=>AI9 P e b off i len
 | .pointer (some ⟨b,off,none⟩)=>(match P.underlying t with
   |some (.array len e)=>AI9 P e b off i len
   |_=>none)
 |_=>none
def Az (P:Program) (fr:Fr) (t:TypeId) (x a:Operand):Option Value:=ob (evN fr a) fun i=>ob (ev fr x) fun v=>Ih P t v i
def oP (l:List UInt8):Option Value:=match l with
 | [b]=>some (.int .u8 b.toNat)
 |_=>none
def bH (P:Program) (t:TypeId) (v:Value) (i:Nat):Option Value:=match v with
 | .agg cs=>(match P.underlying t with
   |some (.array len e)=>bb (Nat.blt i len) (ob (size? P e) fun n=>tS P e cs.toList (i*n))
   |_=>none)
 | .string s=>(match P.underlying t with
   |some .string=>ob (sub s.data.toList i 1) oP
   |_=>none)
 |_=>none
def Ll (P:Program) (fr:Fr) (t:TypeId) (x a:Operand):Option Value:=ob (evN fr a) fun i=>ob (ev fr x) fun v=>bH P t v i
def bI (v:Value):Option (List Value):=match v with
 | .tuple cs=>some cs.toList
 |_=>none
def Cq (fr:Fr) (t:Operand) (a:Nat):Option Value:=ob (ev fr t) fun v=>ob (bI v) fun vs=>ob (sub vs a 1) KX
def Sb (c:Call):Option TypeId:=match c.argTypes.toList with|t::_=>some t|[]=>none
def QW (P:Program) (fr:Fr) (c:Call):Option Value :=
 ob (evs fr c.args.toList) fun vs=>ob (KX vs) fun x=>ob (Sb c) fun t=>ob (oT (P.underlying t) x) fun n=>some (.int .i64 n)
def pMM (fr:Fr) (a:Bool) (c:Call):Option Value :=
 ob (evs fr c.args.toList) fun vs=>List.rec (motive:=fun _=>Option Value) none (fun x xs _=>mm a xs x) vs
/- Operations Aa make one new block, of cells Aa values alone Ad1: the cells, and Fm the operation Wu, of the Ax0 number. -/
def ptrTo (n:Nat):Value:= .pointer (some ⟨n,0,none⟩)
def AR (P:Program) (t:TypeId):Option (List Value×(Nat->Value)):=ob (Ad P t) fun z=>some (M6 z,ptrTo)
def aU (fr:Fr) (x:Operand):Option (List Value×(Nat->Value)):=ob (ev fr x) fun v=>bi (El v) none (some (M6 v,ptrTo))
def GW (P:Program) (fr:Fr) (t:TypeId) (len:Nat) (parts:Array (Nat×Operand)):Option (List Value×(Nat->Value)) :=
 ob (elem? P t) fun e=>ob (size? P e) fun m=>ob (Ad P e) fun z=>ob (evs fr (parts.toList.map (·.2))) fun vs=>bb ((M6 z).length.beq m) (bb (Nat.ble (len*m) 16777216)
  (ob (Bl (fun i=>some (i*m,m)) ((parts.toList.map (·.1)).zip vs) (rep (M6 z) len)) fun l=>some (l,fun n=> .slice (some ⟨n,0,none⟩) len len)))
def isByte (d:Option TypeDesc):Bool:=match d with
 |some (.int .u8)=>true
 |_=>false
def Jw (v:Value):Option (List UInt8):=match v with
 | .string s=>some s.data.toList
 |_=>none
def GX (P:Program) (fr:Fr) (s d:TypeId) (x:Operand):Option (List Value×(Nat->Value)):=bb (P.underlying s).isSome <|
 ob (ev fr x) fun v=>ob (Jw v) fun s=>ob (elem? P d) fun e=>bb (isByte (P.underlying e)) (some (O9 s,fun n=> .slice (some ⟨n,0,some 1⟩) s.length s.length))
def Pv (P:Program) (fr:Fr) (t:TypeId) (l c:Operand):Option (List Value×(Nat->Value)) :=
 ob (elem? P t) fun e=>ob (P.info? e) fun i=>ob (Ad P e) fun z=>ob (evN fr l) fun l=>ob (evN fr c) fun c=>bb (Nat.ble l c) (bb (Nat.ble (c*(i.bytes+1)) room) (bb ((M6 z).length.beq i.size)
  (some (rep (M6 z) c,fun n=> .slice (some ⟨n,0,none⟩) l c))))
/- Operations Aa read one block: Fm XU vD, and Kg cells. -/
structure BA where
 b:Nat
 off:Nat
 n:Nat
def span? (P:Program) (t:TypeId):Option Nat:=ob (Lu P t) fun g=>bi g (size? P t) (some 1)
def Hs (P:Program) (fr:Fr) (Z:St) (t:TypeId) (a:Operand):Option (Value×BA) :=
 ob (ev fr a) fun v=>ob (at? v) fun p=>pr p fun b off=>ob (span? P t) fun n=>ob (fX P Z t b off) fun v=>some (v,⟨b,off,n⟩)
def isStr (d:Option TypeDesc):Bool:=match d with
 |some .string=>true
 |_=>false
def Nl (v:Value):Option BA:=match v with
 | .slice (some ⟨b,off,_⟩) n _=>some ⟨b,off,n⟩
 |_=>none
def pra {a:Type}(p:BA) (f:Nat->Nat->Nat->a):a:=BA.rec (motive:=fun _=>a) f p
def DH (P:Program) (fr:Fr) (Z:St) (s d:TypeId) (x:Operand):Option (Value×BA) :=
 ob (ev fr x) fun v=>ob (Nl v) fun p=>pra p fun b off n=>ob (elem? P s) fun e=>bb (isByte (P.underlying e)) (bb (isStr (P.underlying d))
  (ob (Z.read b off n) fun l=>ob (BZ l) fun l=>some (.string ⟨l.toArray⟩,⟨b,off,n⟩)))
/- Operations Aa may change memory. -/
def Gi (P:Program) (fr:Fr) (Z:St) (t:TypeId) (a v:Operand):Option (Value×St) :=
 ob (ev fr a) fun a=>ob (ev fr v) fun v=>ob (Ld P Z t a v) fun Z=>some (R7,Z)
def copyV (P:Program) (Z:St) (t:TypeId) (d s:Value):Option (Value×St) :=
 ob (elem? P t) fun e=>ob (size? P e) fun size=>ob (Nl d) fun p=>pra p fun b off dl=>ob (AJ Z size s) fun q=>pr q fun n cs=>ob (takeN (Nat.min n dl*size) cs) fun cs=>ob (Z.write b off cs) fun Z=>some (.int .i64 (Nat.min n dl:Nat),Z)
def AU9 (P:Program) (Z:St) (t:TypeId) (x:Value):Option (Value×St) :=
 ob (elem? P t) fun e=>ob (Ad P e) fun z=>ob (Nl x) fun p=>pra p fun b off n=>ob (Z.write b off (rep (M6 z) n)) fun Z=>some (R7,Z)
def qJ (l:List Value):Option (Value×Value):=match l with
 | [v,w]=>some (v,w)
 |_=>none
def eO (c:Call):Option TypeId:=match c.argTypes.toList with|_::t::_=>some t|_=>none
def LW (d:Option TypeDesc):Bool:=match d with
 |some (.int _)=>false
 |some _=>true
 |none=>false
def EO (P:Program) (fr:Fr) (Z:St) (c:Call):Option (Value×St) :=
 ob (evs fr c.args.toList) fun vs=>ob (qJ vs) fun p=>pr p fun s x=>ob (Sb c) fun t=>ob (eO c) fun a=>bb (LW (P.underlying a)) (CO P Z t s x)
def Ao8 (P:Program) (fr:Fr) (Z:St) (c:Call):Option (Value×St) :=
 ob (evs fr c.args.toList) fun vs=>ob (qJ vs) fun p=>pr p fun d s=>ob (Sb c) fun t=>copyV P Z t d s
def AV0 (P:Program) (fr:Fr) (Z:St) (c:Call):Option (Value×St) :=
 ob (evs fr c.args.toList) fun vs=>ob (KX vs) fun x=>ob (Sb c) fun t=>AU9 P Z t x
inductive Tgt where
 |fn (g:Nat)
structure Fun where
 g:Tgt
 first:List Value
 captured:List Value
def RB (v:Value):Option Fun:=match v with
 | .func (.func g) first captured=>some ⟨.fn g,first.toList,captured.toList⟩
 |_=>none
structure CR where
 pan:Bool
 v:Value
 Z:St
abbrev W8:=Tgt->List Value->St->Option CR
def HE (call:W8) (fr:Fr) (Z:St) (c:Call) (f:Operand):Option CR :=
 ob (evs fr c.args.toList) fun vs=>ob (ev fr f) fun v=>ob (RB v) fun f=>Fun.rec (motive:=fun _=>Option CR) (fun g first a=>call g (first++vs++a) Z) f
/- Aj6. -/
def DR (d:Option TypeDesc) (k:Value):Bool:=match d with
 | some .string=>(match k with
   | .string _=>true
   |_=>false)
 | some (.int i)=>(match k with
   | .int j _=>keq i j
   |_=>false)
 |_=>false
def Kz (a b:Value):Option Bool:=match a with
 | .string s=>(match b with
   | .string t=>some (Lp s.data.toList t.data.toList)
   |_=>none)
 | .int k n=>(match b with
   | .int l m=>bb (keq k l) (some (ieq n m))
   |_=>none)
 |_=>none
def PF (k:Value) (l:List Value):Option (Option Value) :=
 (List.rec (motive:=fun _=>Option Value->Option (Option Value)) (fun _=>some none)
   (fun x _ a p=>Option.rec (motive:=fun _=>Option (Option Value)) (a (some x)) (fun y=>ob (Kz k y) fun s=>bi s (some (some x)) (a none)) p) l:Option Value->Option (Option Value)) none
def My (k v:Value) (l:List Value):Option (List Value) :=
 (List.rec (motive:=fun _=>Option Value->Option (List Value)) (fun _=>some [k,v])
   (fun x xs a p=>Option.rec (motive:=fun _=>Option (List Value)) (a (some x)) (fun y=>ob (Kz k y) fun s=>bi s (some (k::v::xs)) (ob (a none) fun r=>some (y::x::r))) p) l:Option Value->Option (List Value)) none
def xG (v:Value):Option (Option Nat):=match v with
 | .map a=>some a
 |_=>none
def Hw (P:Program) (t:TypeId):Option (TypeId×TypeId):=match P.underlying t with
 |some (.map k e)=>some (k,e)
 |_=>none
def AV1 (Z:St) (a:Option Nat):Option (List Value):=Option.rec (motive:=fun _=>Option (List Value)) (some []) (fun b=>ob (Z.Se b) fun B=>some B.cells) a
def found (P:Program) (e:TypeId) (x:Option Value):Option (Value×Bool):=Option.rec (motive:=fun _=>Option (Value×Bool)) (ob (Ad P e) fun z=>some (z,false)) (fun v=>some (v,true)) x
def DI (P:Program) (fr:Fr) (Z:St) (t:TypeId) (x c:Operand) (ok:Bool):Option (Value×St) :=
 ob (Hw P t) fun p=>pr p fun d e=>ob (ev fr x) fun v=>ob (xG v) fun a=>ob (ev fr c) fun k=>bb (DR (P.underlying d) k) (ob (AV1 Z a) fun cs=>ob (PF k cs) fun r=>ob (found P e r) fun r=>pr r fun v b=>some (bi ok (.tuple ⟨[v,.bool b]⟩) v,Z))
def Y0 (P:Program) (fr:Fr) (Z:St) (t:TypeId) (m k x:Operand):Option (Value×St) :=
 ob (Hw P t) fun p=>pr p fun c _=>ob (ev fr m) fun v=>ob (xG v) fun a=>ob a fun b=>ob (ev fr k) fun k=>bb (DR (P.underlying c) k) (ob (ev fr x) fun x=>ob (Z.Se b) fun B=>ob (My k x B.cells) fun cs=>ob (Z.AL0 b cs) fun Z=>some (R7,Z))
def Fc (_fr:Fr) (Z:St) (r:Option Operand):Option (Value×St):=bb r.isNone (some (.map (some Z.n),Z.Hg [] .map))
inductive Did where
 |none
 |read (r:BA)
 |eff
 |pan
structure Stepped where
 v:Value
 Z:St
 d:Did
def J9 (Z:St) (v:Option Value):Option Stepped:=ob v fun v=>some ⟨v,Z,.none⟩
def asNew (Z:St) (r:Option (List Value×(Nat->Value))) (t:Option TypeId:=none):Option Stepped:=ob r fun r=>pr r fun cs v=>some ⟨v Z.n,Z.new cs t,.none⟩
def Dr (Z:St) (r:Option (Value×BA)):Option Stepped:=ob r fun r=>pr r fun v b=>some ⟨v,Z,.read b⟩
def GC (r:Option (Value×St)):Option Stepped:=ob r fun r=>pr r fun v Z=>some ⟨v,Z,.eff⟩
def Qt (r:Option CR):Option Stepped:=ob r fun r=>CR.rec (motive:=fun _=>Option Stepped) (fun p v Z=>some ⟨v,Z,bi p .pan .eff⟩) r
def RD (fr:Fr) (Z:St) (x:Operand):Option Stepped:=ob (ev fr x) fun v=>match v with
 | .iface t v=>some ⟨.iface t v,Z,.pan⟩
 |_=>none
def orS (x y:Option Stepped):Option Stepped:=Option.rec (motive:=fun _=>Option Stepped) y (fun v=>some v) x
def AC8 (b:Builtin):Program->Fr->St->Call->Option Stepped :=
 Builtin.rec (motive:=fun _=>Program->Fr->St->Call->Option Stepped)
  (fun P fr Z c=>GC (EO P fr Z c))
  (fun _ _ _ _=>none)
  (fun P fr Z c=>none)
  (fun _ _ _ _=>none)
  (fun _ _ _ _=>none)
  (fun P fr Z c=>none)
  (fun _ _ _ _=>none)
  (fun _ _ _ _=>none)
  (fun P fr Z c=>J9 Z (QW P fr c))
  (fun _ _ _ _=>none)
  (fun _ fr Z c=>J9 Z (pMM fr true c))
  (fun _ fr Z c=>J9 Z (pMM fr false c))
  (fun _ _ _ _=>none)
  (fun _ _ _ _=>none)
  (fun _ _ _ _=>none)
  (fun _ _ _ _=>none)
  (fun _ _ _ _=>none)
  (fun _ _ _ _=>none)
  (fun _ _ _ _=>none)
  (fun _ _ _ _=>none)
  (fun _ _ _ _=>none)
  (fun _ _ _ _=>none)
  (fun _ _ _ _=>none)
  (fun _ _ _ _=>none)
  (fun _ _ _ _=>none)
  (fun _ _ _ _=>none) b
def YG (P:Program) (call:W8) (fr:Fr) (Z:St) (c:Call):Option Stepped :=
 Callee.rec (motive:=fun _=>Option Stepped) (fun f=>Qt (HE call fr Z c f)) (fun _ _=>none) (fun b=>AC8 b P fr Z c) c.callee
abbrev OpK:=Program->W8->Fr->St->Oper->Option Stepped
def pI (x:Op):OpK :=
 Op.rec (motive:=fun _=>OpK)
  (fun x _ _ fr Z _=>J9 Z (ev fr x))
  (fun x _ _ fr Z _=>J9 Z (ev fr x))
  (fun c a b _ _ fr Z _=>J9 Z (Jh fr c a b))
  (fun t P _ _ Z _=>asNew Z (AR P t) (some t))
  (fun _ x _ _ fr Z _=>asNew Z (aU fr x))
  (fun t parts P _ fr Z _=>J9 Z (Ep P fr t parts))
  (fun t len parts P _ fr Z _=>asNew Z (GW P fr t len parts))
  (fun t m k x P _ fr Z _=>GC (Y0 P fr Z t m k x))
  (fun t a P _ fr Z _=>Dr Z (Hs P fr Z t a))
  (fun t a v P _ fr Z _=>GC (Gi P fr Z t a v))
  (fun _ _ _ _ _ _=>none)
  (fun _ _ _ _ _ _=>none)
  (fun x _ _ fr Z _=>J9 Z (Bu fr x))
  (fun b t x y _ P _ fr Z o=>J9 Z (QY P fr o b t x y))
  (fun _ _ x P _ fr Z o=>J9 Z (DP P fr o x))
  (fun s d x P _ fr Z o=>orS (asNew Z (GX P fr s d x)) (orS (Dr Z (DH P fr Z s d x)) (J9 Z (DP P fr o x))))
  (fun _ _ _ _ _ _ _=>none)
  (fun t x P _ fr Z _=>J9 Z (Lj P fr t x))
  (fun g fs cs _ _ fr Z _=>J9 Z (Jj fr g fs cs))
  (fun _ r _ _ fr Z _=>GC (Fc fr Z r))
  (fun _ _ _ _ _ _ _=>none)
  (fun t l c P _ fr Z _=>asNew Z (Pv P fr t l c))
  (fun t x lo hi h P _ fr Z _=>J9 Z (Ge P fr t x lo hi h))
  (fun s x f P _ fr Z _=>J9 Z (AW P fr s x f))
  (fun s x f P _ fr Z _=>J9 Z (Fv P fr s x f))
  (fun t x e P _ fr Z _=>J9 Z (Az P fr t x e))
  (fun t x e P _ fr Z _=>J9 Z (Ll P fr t x e))
  (fun t x e ok P _ fr Z _=>GC (DI P fr Z t x e ok))
  (fun t m k x P _ fr Z _=>GC (Y0 P fr Z t m k x))
  (fun _ _ _ _ _ _ _ _=>none)
  (fun _ _ _ _ _ _ _ _ _=>none)
  (fun _ _ _ _ _ _ _=>none)
  (fun _ _ _ _ _ _ _=>none)
  (fun _ _ _ _ _ _=>none)
  (fun _ _ _ _ _ _ _ _ _=>none)
  (fun t e _ _ fr Z _=>J9 Z (Cq fr t e))
  (fun c P call fr Z _=>YG P call fr Z c)
  (fun _ _ _ _ _ _=>none)
  (fun _ _ _ _ _ _=>none)
  (fun x _ _ fr Z _=>RD fr Z x)
  (fun _ _ _ _ _ _ _=>none)
  (fun _ _ _ _ _ _ _ _=>none)
  (fun _ _ _ _ _ _ _=>none) x
def step (P:Program) (call:W8) (fr:Fr) (Z:St) (o:Oper):Option Stepped:=pI o.op P call fr Z o
def yieldOf (a:Bool) (v:Value):Bool:=match v with
 | .bool b=>(match a with|true=>b|false=> !b)
 |_=>false
def FZ (a:Array Oper) (j:Nat):Option Tmp:=match a[j]? with
 |some p=>p.dst
 |none=>none
def U9 (b:Array Oper) (fr:Fr) (o:Oper):Option Bool :=
 Option.rec (motive:=fun _=>Option Bool) (some true) (fun g=>pr g fun j a=>Option.rec (motive:=fun _=>Option Bool) (some false) (fun d=>ob (fr.get d) fun v=>some (yieldOf a v)) (FZ b j)) o.guard
def I5 (fr:Fr) (d:Option Tmp) (v:Value):Fr:=Option.rec (motive:=fun _=>Fr) fr (fun d=>fr.set d v) d
structure Res where
 o:Out
 fr:Fr
 Z:St
def OZ {a:Type}(d:Did) (x y:a):a:=Did.rec (motive:=fun _=>a) x (fun _=>x) x y d
def opsV (P:Program) (call:W8) (a:Array Oper) (l:List Oper):Fr->St->Option Res :=
 List.rec (motive:=fun _=>Fr->St->Option Res) (fun fr Z=>some ⟨.normal,fr,Z⟩)
 (fun o _ b fr Z=>ob (U9 a fr o) fun c=>bi c (ob (step P call fr Z o) fun r=>Stepped.rec (motive:=fun _=>Option Res) (fun v Z d=>OZ d (b (I5 fr o.dst v) Z) (some ⟨.pan v,fr,Z⟩)) r) (b (I5 fr o.dst R7) Z)) l
inductive Trace where
 |read (i:Nat) (r:BA)
 |eff (i:Nat) (pre post:St)
def Jn (i:Nat) (Z Z':St) (d:Did) (a:List Trace):List Trace:=match d with
 | .none=>a
 | .read b=> .read i b::a
 | .eff=> .eff i Z Z'::a
 | .pan=>a
def DQ (o:Op):Bool:=match o with
 | .store .. =>true
 | .lookup .. =>true
 | .mapUpdate .. =>true
 | .insert .. =>true
 | .makeMap .. =>true
 | .panic .. =>true
 | .call c=>(match c.callee with
   | .builtin .len| .builtin .max| .builtin .min=>false
   |_=>true)
 |_=>false
structure FST where
 fr:Fr
 Z:St
 ds:List Trace
 p:Option Value
def SO (o:Op):Bool:=match o with
 | .move _=>true
 | .assign _=>true
 | .nilCheck _=>true
 | .fieldAddr .. =>true
 | .field .. =>true
 |_=>false
def Kq (P:Program) (call:W8) (a:Array Oper) (bs:List Nat) (i:Nat) (l:List Oper):Nat->Fr->St->Option Unit :=
 List.rec (motive:=fun _=>Nat->Fr->St->Option Unit) (fun _ _ _=>some ())
  (fun o _ b j fr Z=>bi (Nat.testBit (bs.getD j 0) i) (b (j+1) fr Z)
    (bb (SO o.op) (ob (U9 a fr o) fun c=>bi c (ob (step P call fr Z o) fun r=>b (j+1) (I5 fr o.dst r.v) r.Z) (b (j+1) (I5 fr o.dst R7) Z)))) l
def YV (P:Program) (call:W8) (a:Array Oper) (op:Op) (l:List Oper) (i:Nat) (fr:Fr) (Z0:St) (v:Value) (Z:St) (b:List Trace):Option FST :=
 bb (DQ op) (ob (Kq P call a (Region.before a).toList i l (i+1) fr Z0) fun _=>some ⟨.nil,Z,b,some v⟩)
def qS (p:Option Value):Out:=match p with
 |none=> .normal
 |some v=> .pan v
def K7 (P:Program) (call:W8) (a:Array Oper) (l:List Oper):Nat->Fr->St->List Trace->Option FST :=
 List.rec (motive:=fun _=>Nat->Fr->St->List Trace->Option FST) (fun _ fr Z b=>some ⟨fr,Z,b,none⟩)
 (fun o l e i fr Z b=>ob (U9 a fr o) fun c=>bi c (ob (step P call fr Z o) fun r=>Stepped.rec (motive:=fun _=>Option FST) (fun v Z' d=>OZ d (e (i+1) (I5 fr o.dst v) Z' (Jn i Z Z' d b)) (YV P call a o.op l i fr Z v Z' b)) r)
   (e (i+1) (I5 fr o.dst R7) Z b)) l
def ordered (b:List Nat) (i j:Nat):Bool:=bi (Nat.testBit (b.getD j 0) i) true (Nat.testBit (b.getD i 0) j)
def veq (v w:Value):Bool:=match v with
 | .bool b=>(match w with
   | .bool c=>bi b c (bi c false true)
   |_=>false)
 | .int k n=>(match w with
   | .int l m=>bi (keq k l) (ieq n m) false
   |_=>false)
 | .string s=>(match w with
   | .string t=>Lp s.data.toList t.data.toList
   |_=>false)
 | .pointer none=>(match w with
   | .pointer none=>true
   |_=>false)
 | .pointer (some ⟨b,o,none⟩)=>(match w with
   | .pointer (some ⟨c,p,none⟩)=>bi (Nat.beq b c) (Nat.beq o p) false
   |_=>false)
 | .slice none n k=>(match w with
   | .slice none m l=>bi (Nat.beq n m) (Nat.beq k l) false
   |_=>false)
 | .slice (some ⟨b,o,none⟩) n k=>(match w with
   | .slice (some ⟨c,p,none⟩) m l=>bi (Nat.beq b c) (bi (Nat.beq o p) (bi (Nat.beq n m) (Nat.beq k l) false) false) false
   |_=>false)
 | .slice (some ⟨b,o,some s⟩) n k=>(match w with
   | .slice (some ⟨c,p,some t⟩) m l=>bi (Nat.beq b c) (bi (Nat.beq o p) (bi (Nat.beq s t) (bi (Nat.beq n m) (Nat.beq k l) false) false) false) false
   |_=>false)
 | .map none=>(match w with
   | .map none=>true
   |_=>false)
 | .map (some b)=>(match w with
   | .map (some c)=>Nat.beq b c
   |_=>false)
 |_=>false
def AV2 (l:List Value):List Value->Bool :=
 List.rec (motive:=fun _=>List Value->Bool) (fun k=>List.rec (motive:=fun _=>Bool) true (fun _ _ _=>false) k)
  (fun x _ a k=>List.rec (motive:=fun _=>Bool) false (fun y ys _=>bi (veq x y) (a ys) false) k) l
def Aj (x y:Option (List Value)):Bool :=
 Option.rec (motive:=fun _=>Bool) false (fun l=>Option.rec (motive:=fun _=>Bool) false (fun k=>AV2 l k) y) x
def Pe (bs:List Nat) (i:Nat) (r:BA) (d:Trace):Bool:=match d with
 | .eff j pre post=>bi (ordered bs i j) true (bi (Nat.blt r.b pre.n) (bi (Nat.beq (pre.ver r.b) (post.ver r.b)) true (Aj (pre.read r.b r.off r.n) (post.read r.b r.off r.n))) true)
 | .read .. =>true
def M7 (bs:List Nat) (i:Nat) (r:BA):List Trace->Bool
 | []=>true
 |d::ds=>bi (Pe bs i r d) (M7 bs i r ds) false
def Ai (bs:List Nat) (all:List Trace):List Trace->Bool
 | []=>true
 | d::ds=>(match d with
   | .read i r=>bi (M7 bs i r all) (Ai bs all ds) false
   | .eff .. =>Ai bs all ds)
def drawn (os:Array Oper) (r:Option FST):Option Res :=
 ob r fun r=>FST.rec (motive:=fun _=>Option Res) (fun fr Z a p=>bb (Ai (Region.before os).toList a a) (some ⟨qS p,fr,Z⟩)) r
def ID (o:Oper):Nat:=match o.dst with
 |some t=>2 ^ t
 |none=>0
def AE8 (x:Operand):Nat:=match x with
 | .tmp t=>2 ^ t
 |_=>0
def IC (l:List Operand):Nat:=List.rec (motive:=fun _=>Nat) 0 (fun x _ a=>Nat.lor (AE8 x) a) l
def JB (os:Array Oper) (o:Oper):Nat:=match o.guard with
 | some (j,_)=>(match FZ os j with
   |some t=>2 ^ t
   |none=>0)
 |none=>0
structure sd where
 i:Nat
 d:Nat
 m:Nat
 e:Bool
def AV3 (b d m:Nat) (e:Bool) (p:sd):Bool :=
 bi (Nat.beq (Nat.land p.d (Nat.lor d m)) 0&&(Nat.beq (Nat.land d p.m) 0&& !(e&&p.e))) true (Nat.testBit b p.i)
def se (j:Nat) (e:Edge):Bool:= !(Region.binds .any e)||Nat.blt e.on j
def WG (os:Array Oper):List Oper->List Nat->Nat->List sd->Bool
 | [],_,_,_=>true
 |_::_,[],_,_=>false
 |o::l,b::bs,j,prev=>(o.after.toList.all (se j))&&((prev.all (AV3 b (ID o) (Nat.lor (IC o.op.operands.toList) (JB os o)) (DQ o.op))) &&
    WG os l bs (j+1) (⟨j,ID o,Nat.lor (IC o.op.operands.toList) (JB os o),DQ o.op⟩::prev))
def JV (os:Array Oper):Bool:=WG os os.toList (Region.before os).toList 0 []
structure Gh where
 tm:Nat
 tv:Nat
 key:Nat
 ty:TypeId
 k1:Value
 v1:Value
 k2:Value
 v2:Value
def BG1 (o:Op):Bool:=match o with
 | .makeMap _ none=>true
 |_=>false
def Dd (l:List Oper):Bool:=match l with
 |_::_::o::_=>BG1 o.op
 |_=>false
def AR9 (o:Oper):Option (Nat×TypeId):=match o.dst with
 | some t=>(match o.op with
   | .makeMap ty none=>some (t,ty)
   |_=>none)
 |none=>none
def gf (o:Oper):Option (Nat×TypeId×Value×Value):=match o.dst with
 | none=>(match o.op with
   | .insert ty (.tmp m) (.const k) (.const v)=>some (m,ty,k,v)
   |_=>none)
 |some _=>none
def sF (o:Oper):Option (Nat×Nat):=match o.dst with
 | some d=>(match o.op with
   | .move (.tmp m)=>some (d,m)
   |_=>none)
 |none=>none
def AS0 (o:Oper):Option (Nat×TypeId×Nat):=match o.op with
 | .lookup ty (.tmp m) (.tmp k) false=>some (m,ty,k)
 |_=>none
def EH (o:Oper):Oper:={ o with dst:=none,op:= .move (.const (.bool false)) }
def Oh (o:Oper) (V:Value):Oper:={ o with op:= .move (.const V) }
def W6 (l:List Oper) (V:Value):List Oper:=match l with
 |a0::a1::a2::a3::a4::a5::a6::a7::a8::H4=>a0::a1::EH a2::EH a3::EH a4::EH a5::a6::a7::Oh a8 V::H4
 |l=>l
def DS (o:Oper) (i:Nat):Bool:=o.after.toList.any fun e=>Region.binds .any e&&Nat.beq e.on i
def pG (l:List Oper):Option Gh:=match l with
 | _::_::a2::a3::a4::a5::_::_::a8::_=>ob (AR9 a2) fun m=>ob (gf a3) fun a=>ob (gf a4) fun b=>ob (sF a5) fun d=>ob (AS0 a8) fun c=>
   bb (Nat.beq a.1 m.1&&(Nat.beq a.2.1 m.2&&(Nat.beq b.1 m.1&&(Nat.beq b.2.1 m.2&&(Nat.beq d.2 m.1&&(Nat.beq c.1 d.1&&(Nat.beq c.2.1 m.2 &&
    (DS a3 2&&(DS a4 2&&(DS a5 3&&(DS a5 4&&DS a8 5))))))))))) (some ⟨m.1,d.1,c.2.2,m.2,a.2.2.1,a.2.2.2,b.2.2.1,b.2.2.2⟩)
 |_=>none
def Rj (t:Nat) (o:Oper):Bool:=match o.dst with
 |some d=> !(Nat.beq d t)
 |none=>true
def qs (a8:Oper) (key:Nat):List Oper->Nat->Bool
 | [],_=>true
 |o::l,j=>(Rj key o||(Nat.blt j 8&&DS a8 j))&&qs a8 key l (j+1)
def Ao9 (l:List Oper) (f:Oper->Bool):Bool:=match l with
 |_::_::_::_::_::_::_::_::a8::_=>f a8
 |_=>false
def pH (l l':List Oper) (g:Gh):Bool :=
 l.all (fun o=>o.guard.isNone&& !(Nat.beq g.tm g.tv))&&(l'.all (Rj g.tm)&&(l'.all (Rj g.tv)&&Ao9 l fun a=>qs a g.key l' 0))
def YF (P:Program) (g:Gh) (kv:Value):Option Value :=
 ob (Hw P g.ty) fun p=>bb (DR (P.underlying p.1) g.k1&&(DR (P.underlying p.1) g.k2&&(DR (P.underlying p.1) kv&&(NC g.k1&&(NC g.k2&&(NC g.v1&&NC g.v2)))))) <|
  ob (My g.k2 g.v2 [g.k1,g.v1]) fun a=>ob (My g.k1 g.v1 [g.k2,g.v2]) fun b=>ob (PF kv a) fun d=>ob (PF kv b) fun e=>
   ob (found P p.2 d) fun c=>ob (found P p.2 e) fun f=>bb (veq c.1 f.1&&NC c.1) (some c.1)
def Ap0 (a:Array Oper) (key:Nat) (kv:Value) (r:FST):Option Res :=
 FST.rec (motive:=fun _=>Option Res) (fun fr Z b p=>bb (Ai (Region.before a).toList b b&&p.isNone) (ob (fr.get key) fun kv'=>bb (veq kv' kv) (some ⟨.normal,fr,Z⟩))) r
def MW (P:Program) (call:W8) (l:List Oper) (fr:Fr) (Z:St):Option Res :=
 ob (pG l) fun g=>bb ((fr.get g.tm).isNone&&(fr.get g.tv).isNone) <|
  ob (K7 P call (W6 l (.string ⟨#[]⟩)).toArray (W6 l (.string ⟨#[]⟩)) 0 fr Z []) fun a=>ob (a.fr.get g.key) fun kv=>ob (YF P g kv) fun V=>
   bb (pH l (W6 l V) g&&JV (W6 l V).toArray) <| ob (K7 P call (W6 l V).toArray (W6 l V) 0 fr Z []) (Ap0 (W6 l V).toArray g.key kv)
def Fq (l:List Value):Nat->Fr->Fr :=
 List.rec (motive:=fun _=>Nat->Fr->Fr) (fun _ fr=>fr) (fun v _ a k fr=>a (k+1) (fr.set k v)) l
def Ap1 (P:Program) (fr:Fr) (Z:St) (r:ResultVar):Option Value:=match r with
 | .tmp t=>fr.get t
 | .cell a t=>ob (fr.get a) fun p=>Od P Z t p
def IX (P:Program) (fr:Fr) (Z:St) (l:List ResultVar):Option (List Value) :=
 List.rec (motive:=fun _=>Option (List Value)) (some []) (fun r _ a=>ob (Ap1 P fr Z r) fun v=>ob a fun vs=>some (v::vs)) l
def tup (l:List Value):Value:=match l with
 | [v]=>v
 |vs=> .tuple ⟨vs⟩
abbrev RunT:=Option Nat->Code->Fr->St->Option Res
def Le (run a:RunT):Prop:=∀ rd c fr Z r,run rd c fr Z=some r->a rd c fr Z=some r
structure P3 {α:Type}(Φ:RunT->Option α):Prop where
 mono:∀ run run',Le run run'->∀ r,Φ run=some r->Φ run'=some r
 fin:∀ (ch:Nat->RunT) (l:RunT),(∀ f g,f<=g->Le (ch f) (ch g))->(∀ rd c fr Z r,l rd c fr Z=some r->∃ f,ch f rd c fr Z=some r)->∀ r,Φ l=some r->∃ f,Φ (ch f)=some r
def P3.const {a:Type}(x:Option a):P3 fun _=>x:=⟨fun _ _ _ _ h=>h,fun _ _ _ _ _ h=>⟨0,h⟩⟩
structure oZ where
 f:RunT->List Value->St->Option CR
 cont:∀ vs Z,P3 fun run=>f run vs Z
def oZ.plain (f:List Value->St->Option CR):oZ:=⟨fun _ vs Z=>f vs Z,fun _ _=> .const _⟩
abbrev EP:=Nat->Option oZ
def ER (P:Program) (a:Func) (r:Res):Option CR :=
 Res.rec (motive:=fun _=>Option CR) (fun o fr Z=>Out.rec (motive:=fun _=>Option CR)
  (ob (IX P fr Z a.results.toList) fun vs=>some ⟨false,tup vs,Z⟩) (fun _=>none) (ob (IX P fr Z a.results.toList) fun vs=>some ⟨false,tup vs,Z⟩) (fun v=>some ⟨true,v,Z⟩) o) r
def yp (P:Program) (run:RunT) (a:Func) (body:Code) (vs:List Value) (Z:St):Option CR :=
 ob (run none body (Fq vs 0 .nil) Z) (ER P a)
def OJ (P:Program) (H:EP) (run:RunT) (g:Nat) (vs:List Value) (Z:St):Option CR :=
 Option.rec (motive:=fun _=>Option CR)
  (ob (P.funcs[g]?) fun a=>Option.rec (motive:=fun _=>Option CR)
    (bb (TR vs) (ob (Ke (O8 P (callFunc g vs.toArray))) fun v=>bb (tH v) (some ⟨false,v,Z⟩)))
    (fun body=>yp P run a body vs Z) a.body)
  (fun s=>s.f run vs Z) (H g)
def yA {a:Type}(o:Out) (x:Option a):Option a:=Out.rec (motive:=fun _=>Option a) x (fun _=>none) none (fun _=>none) o
def Dc (P:Program) (H:EP) (run:RunT) (t:Tgt) (vs:List Value) (Z:St):Option CR :=
 Tgt.rec (motive:=fun _=>Option CR) (fun g=>OJ P H run g vs Z) t
def AI (r:Res) (next:Fr->St->Option Res):Option Res :=
 Res.rec (motive:=fun _=>Option Res) (fun o fr Z=>Out.rec (motive:=fun _=>Option Res) (next fr Z) (fun i=>some ⟨.exit i,fr,Z⟩) (some ⟨.ret,fr,Z⟩) (fun v=>some ⟨.pan v,fr,Z⟩) o) r
def Fs (id:Nat) (r:Res):Option Res :=
 Res.rec (motive:=fun _=>Option Res) (fun o fr Z=>Out.rec (motive:=fun _=>Option Res) (some ⟨.normal,fr,Z⟩) (fun i=>bi (Nat.beq i id) (some ⟨.normal,fr,Z⟩) (some ⟨.exit i,fr,Z⟩)) (some ⟨.ret,fr,Z⟩) (fun v=>some ⟨.pan v,fr,Z⟩) o) r
abbrev AF4:=Program->EP->RunT->Option Nat->Fr->St->Option Res
def pJ (c:Code):AF4 :=
 Code.rec (motive:=fun _=>AF4)
  (fun _ _ _ _ fr Z=>some ⟨.normal,fr,Z⟩)
  (fun _ os f P H d _ fr Z=>bi f (bi (Dd os.toList) (MW P (Dc P H d) os.toList fr Z) (drawn os (K7 P (Dc P H d) os os.toList 0 fr Z []))) (opsV P (Dc P H d) os os.toList fr Z))
  (fun a b _ _ _ _ d e fr Z=>ob (d e a fr Z) fun r=>AI r (d e b))
  (fun c a b _ _ _ _ d e fr Z=>ob (ev fr c) fun v=>ob (bool? v) fun t=>bi t (d e a fr Z) (d e b fr Z))
  (fun id c _ _ _ d e fr Z=>ob (d e c fr Z) (Fs id))
  (fun c _ _ _ d e fr Z=>ob (d e c fr Z) fun r=>AI r (d e (.loop c)))
  (fun _ _ _ _ _ _ _ _ _ _ _ _=>none)
  (fun id _ _ _ _ fr Z=>some ⟨.exit id,fr,Z⟩)
  (fun c _ _ _ d e fr Z=>d e c fr Z)
  (fun _ _ _ _ _ fr Z=>some ⟨.normal,fr,Z⟩)
  (fun _ _ _ _ _ _ _=>none)
  (fun _ _ _ _ fr Z=>some ⟨.ret,fr,Z⟩)
  (fun _ _ _ _ _ _ _=>none) c
def AC7 (P:Program) (H:EP) (a:RunT) (b:Option Nat) (c:Code) (fr:Fr) (Z:St):Option Res:=pJ c P H a b fr Z
def exec (P:Program) (H:EP) (f:Nat):RunT :=
 Nat.rec (motive:=fun _=>RunT) (fun _ _ _ _=>none) (fun _ a=>AC7 P H a) f
def call (P:Program) (H:EP) (f:Nat) (g:Nat) (vs:List Value) (Z:St):Option CR:=OJ P H (exec P H f) g vs Z
end
end Go.Ab
namespace Go.Ab
open Go
section
variable {v v':Value}{n off:Nat}
@[simp] theorem F8 {b c:Type} (a:b) (f:b->Option c):ob (some a) f=f a:=rfl
@[simp] theorem vS {a b:Type} (f:a->Option b):ob (none:Option a) f=none:=rfl
@[simp] theorem V0 {a:Type} (x:Option a):bb true x=x:=rfl
@[simp] theorem Ao0 {a:Type} (x:Option a):bb false x=none:=rfl
@[simp] theorem N5 {a:Type} (x y:a):bi true x y=x:=rfl
@[simp] theorem j7 {a:Type} (x y:a):bi false x y=y:=rfl
@[simp] theorem Jb {c d e:Type} (a:c) (b:d) (f:c->d->e):pr (a,b) f=f a b:=rfl
@[simp] theorem BE9 {d:Type} (a b c:Nat) (f:Nat->Nat->Nat->d):pra ⟨a,b,c⟩ f=f a b c:=rfl
theorem A8 {c d:Type}{x:Option c}{f:c->Option d}{b:d}(h:ob x f=some b):∃ a,x=some a/\f a=some b:=by
 cases x with
 |none=>cases h
 |some a=>exact⟨a,rfl,h⟩
def J4 {a:Type}{c:Bool}{x:Option a}{b:a}(h:bb c x=some b):c=true/\x=some b:=by
 cases c with
 |false=>cases h
 |true=>exact⟨rfl,h⟩
/- Tables. -/
def Tr.get_nil {a:Type}(n:Nat):(Tr.nil:Tr a).get n=none:=rfl
def Tr.NM {a:Type}(l:Tr a) (v:Option a) (r:Tr a):(Tr.node l v r).get 0=v:=rfl
def Tr.Ff {a:Type}(l:Tr a) (v:Option a) (r:Tr a) (m:Nat):(Tr.node l v r).get (m+1)=if m % 2=0 then l.get (m / 2)else r.get (m / 2):=by
 show(Nat.rec (motive:=fun _=>Option a) (l.get (m / 2)) (fun _ _=>r.get (m / 2)) (m % 2):Option a)=_;rcases sw m with h|h<;>rw[h]<;>rfl
def Tr.tA {b:Type}(f:Nat) (a:b):Tr.one (f+1) 0 a= .node .nil (some a) .nil:=rfl
def Tr.tB {b:Type}(f m:Nat) (a:b):Tr.one (f+1) (m+1) a=if m % 2=0 then .node (Tr.one f (m / 2) a) none .nil else .node .nil none (Tr.one f (m / 2) a):=by
 show(Nat.rec (motive:=fun _=>Tr b) (.node (Tr.one f (m / 2) a) none .nil) (fun _ _=> .node .nil none (Tr.one f (m / 2) a)) (m % 2):Tr b)=_;rcases sw m with h|h<;>rw[h]<;>rfl
def Tr.yZ {e:Type}(a:e):∀ (f n m:Nat),n<f->(Tr.one f n a).get m=if m=n then some a else none:=by
 intro f;induction f with
 |zero=>intro n m h;omega
 | succ f ih=>
   intro n m h;cases n with
   | zero=>
     rw[Tr.tA];cases m with
     |zero=>rfl
     |succ m=>rw[Tr.Ff];simp[Tr.get_nil]
   | succ n=>
     rw[Tr.tB];by_cases d:n % 2=0
     ·rw [z1z d];cases m with
      |zero=>rw[Tr.NM];simp
      | succ m=>
        rw[Tr.Ff,ih (n / 2) (m / 2) om,Tr.get_nil];by_cases c:m % 2=0
        ·rw[z1z c];simp only[Uj];by_cases b:m=n
         ·subst b;simp
         ·rw[z0z om,z0z b]
        ·rw[z0z c,z0z om]
     ·rw [z0z d];cases m with
      |zero=>rw[Tr.NM];simp
      | succ m=>
        rw[Tr.Ff,ih (n / 2) (m / 2) om,Tr.get_nil];by_cases c:m % 2=0
        ·rw[z1z c,z0z om]
        ·rw[z0z c];simp only[Uj];by_cases b:m=n
         ·subst b;simp
         ·rw[z0z om,z0z b]
def Tr.set_nil {b:Type}(n:Nat) (a:b):(Tr.nil:Tr b).set n a=Tr.one (n+1) n a:=rfl
def Tr.tC {b:Type}(l:Tr b) (v:Option b) (r:Tr b) (a:b):(Tr.node l v r).set 0 a= .node l (some a) r:=rfl
def Tr.tD {b:Type}(l:Tr b) (v:Option b) (r:Tr b) (m:Nat) (a:b):(Tr.node l v r).set (m+1) a=if m % 2=0 then .node (l.set (m / 2) a) v r else .node l v (r.set (m / 2) a):=by
 show(Nat.rec (motive:=fun _=>Tr b) (.node (l.set (m / 2) a) v r) (fun _ _=> .node l v (r.set (m / 2) a)) (m % 2):Tr b)=_;rcases sw m with h|h<;>rw[h]<;>rfl
def Tr.N4 {e:Type}(a:e) (t:Tr e):∀ (n m:Nat),(t.set n a).get m=if m=n then some a else t.get m:=by
 induction t with
 |nil=>intro n m;rw[Tr.set_nil,Tr.yZ a _ _ _ om,Tr.get_nil]
 | node l v r ihl ihr=>
   intro n m;cases n with
   | zero=>
     rw[Tr.tC];cases m with
     |zero=>rfl
     |succ m=>simp[Tr.Ff]
   | succ n=>
     rw[Tr.tD];by_cases d:n % 2=0
     ·rw [z1z d];cases m with
      |zero=>simp[Tr.NM]
      | succ m=>
        rw[Tr.Ff,ihl,Tr.Ff];by_cases b:m % 2=0
        ·rw[z1z b,z1z b];simp only[Uj];by_cases c:m=n
         ·subst c;simp
         ·rw[z0z om,z0z c]
        ·rw[z0z b,z0z b];simp only[Uj];rw[z0z om]
     ·rw [z0z d];cases m with
      |zero=>simp[Tr.NM]
      | succ m=>
        rw[Tr.Ff,ihr,Tr.Ff];by_cases b:m % 2=0
        ·rw[z1z b,z1z b];simp only[Uj];rw[z0z om]
        ·rw[z0z b,z0z b];simp only[Uj];by_cases c:m=n
         ·subst c;simp
         ·rw[z0z om,z0z c]
def Tr.get_set_same {b:Type}(t:Tr b) (n:Nat) (a:b):(t.set n a).get n=some a:=by rw[Tr.N4,z1z rfl]
def Tr.L8 {b:Type}(t:Tr b){m:Nat}(a:b) (h:m≠n):(t.set n a).get m=t.get m:=by rw[Tr.N4,z0z h]
/- rP. -/
def SH {c:Type}:∀ (n:Nat) (l r:List c),takeN n l=some r->n<=l.length/\r=l.take n:=by
 intro n;induction n with
 |zero=>intro l r h;cases h;simp
 | succ n ih=>
   intro l r h;cases l with
   |nil=>cases h
   | cons x xs=>
     obtain⟨d,a,b⟩:=A8 (show ob (takeN n xs) (fun r=>some (x::r))=some r from h);cases b;obtain⟨h3,h4⟩:=ih _ _ a;exact⟨by simp;omega,by simp[h4]⟩
def tE {a:Type}:∀ (n:Nat) (l:List a),n<=l.length->takeN n l=some (l.take n):=by
 intro n;induction n with
 |zero=>intro l _;rfl
 | succ n ih=>
   intro l h;cases l with
   |nil=>simp at h
   | cons x xs=>
     show ob (takeN n xs) (fun r=>some (x::r))=_;rw[ih xs (by simpa using h)];rfl
def tF {b:Type}:∀ (n:Nat) (l r:List b),Uk n l=some r->n<=l.length/\r=l.drop n:=by
 intro n;induction n with
 |zero=>intro l r h;cases h;simp
 | succ n ih=>
   intro l r h;cases l with
   |nil=>cases h
   | cons x xs=>
     obtain⟨c,a⟩:=ih _ _ (show Uk n xs=some r from h);exact⟨by simp;omega,by simp[a]⟩
def tG {a:Type}:∀ (n:Nat) (l:List a),n<=l.length->Uk n l=some (l.drop n):=by
 intro n;induction n with
 |zero=>intro l _;rfl
 | succ n ih=>
   intro l h;cases l with
   |nil=>simp at h
   |cons x xs=>show Uk n xs=_;rw[ih xs (by simpa using h)];rfl
def sub_eq {c:Type}{l r:List c}(h:sub l off n=some r):off+n<=l.length/\r=(l.drop off).take n:=by
 obtain⟨l',a,b⟩:=A8 h;obtain⟨h3,rfl⟩:=tF _ _ _ a;obtain⟨h4,rfl⟩:=SH _ _ _ b;exact⟨by simp at h4;omega,rfl⟩
def AE {a:Type}{l:List a}(h:off+n<=l.length):sub l off n=some ((l.drop off).take n):=by
 show ob (Uk off l) (fun l=>takeN n l)=_;rw[tG _ _ om];exact tE _ _ (by simp;omega)
def ya {c:Type}:∀ (new l r:List c),over new l=some r->new.length<=l.length/\r=new++l.drop new.length:=by
 intro new;induction new with
 |nil=>intro l r h;cases h;simp
 | cons v vs ih=>
   intro l r h;cases l with
   |nil=>cases h
   | cons x xs=>
     obtain⟨d,a,b⟩:=A8 (show ob (over vs xs) (fun r=>some (v::r))=some r from h);cases b;obtain⟨h3,h4⟩:=ih _ _ a;exact⟨by simp;omega,by simp[h4]⟩
def TK {c:Type}(new:List c):∀ (off:Nat) (l r:List c),M5 l off new=some r->off+new.length<=l.length/\r=l.take off++new++l.drop (off+new.length):=by
 intro off;induction off with
 | zero=>
   intro l r h;obtain⟨b,a⟩:=ya new l r h;exact⟨om,by simp[a]⟩
 | succ off ih=>
   intro l r h;cases l with
   |nil=>cases h
   | cons x xs=>
     obtain⟨d,b,a⟩:=A8 (show ob (M5 xs off new) (fun r=>some (x::r))=some r from h);cases a;obtain⟨h3,h4⟩:=ih _ _ b;exact⟨by simp;omega,by simp[h4,Nat.add_right_comm]⟩
/- How values su to each other. -/
structure CJ where
 c:Nat
 o:Nat
 m:Nat
abbrev Place:=Nat->Option CJ
mutual
inductive J5 (O:Place):Value->Value->Prop
 |J8 {v:Value} (h:J8 v=true):J5 O v v
 |ptr {b off:Nat}{q:CJ} (h:O b=some q):J5 O (.pointer (some ⟨b,off,none⟩)) (.pointer (some ⟨q.c,q.o+off,none⟩))
 |slice {b off n k:Nat}{q:CJ} (h:O b=some q):J5 O (.slice (some ⟨b,off,none⟩) n k) (.slice (some ⟨q.c,q.o+off,none⟩) n k)
 |grow {b off s n k k':Nat}{q:CJ} (h:O b=some q) (hk:k<=k') (hm:q.o+off+k'*s<=q.m):J5 O (.slice (some ⟨b,off,some s⟩) n k) (.slice (some ⟨q.c,q.o+off,none⟩) n k')
 |Bq {b off:Nat}{sp:Option Nat}{q:CJ}{x:Addr} (h:O b=some q):J5 O (.slice (some ⟨b,off,sp⟩) 0 0) (.slice (some x) 0 0)
 |func {fn:Fn}{f f' c c':List Value} (hy:WK fn=true) (h1:H8 O f f') (h2:H8 O c c'):J5 O (.func fn ⟨f⟩ ⟨c⟩) (.func fn ⟨f'⟩ ⟨c'⟩)
 |map {b:Nat}{q:CJ} (h:O b=some q):J5 O (.map (some b)) (.map (some q.c))
 |iface {t:TypeId}{v v':Value} (h:J5 O v v'):J5 O (.iface t v) (.iface t v')
 |agg {l l':List Value} (hc:∀ v∈l,N2 v=true) (h:H8 O l l'):J5 O (.agg ⟨l⟩) (.agg ⟨l'⟩)
 |tuple {l l':List Value} (h:H8 O l l'):J5 O (.tuple ⟨l⟩) (.tuple ⟨l'⟩)
inductive H8 (O:Place):List Value->List Value->Prop
 |nil:H8 O [] []
 |cons {v v':Value}{l l':List Value} (h:J5 O v v') (hs:H8 O l l'):H8 O (v::l) (v'::l')
end
def Place.le (O a:Place):Prop:=∀ b p,O b=some p->a b=some p
def Place.le_refl (O:Place):O.le O:=fun _ _ h=>h
def Place.le_trans {O c a:Place}(h:O.le c) (d:c.le a):O.le a:=fun b p k=>d b p (h b p k)
mutual
theorem J5.mono {O c:Place}(a:O.le c){v v':Value}(h:J5 O v v'):J5 c v v':=by
 cases h with
 |J8 h=>exact .J8 h
 |ptr h=>exact .ptr (a _ _ h)
 |slice h=>exact .slice (a _ _ h)
 |grow h f b=>exact .grow (a _ _ h) f b
 |Bq h=>exact .Bq (a _ _ h)
 |func g d e=>exact .func g (H8.mono a d) (H8.mono a e)
 |map h=>exact .map (a _ _ h)
 |iface h=>exact .iface (J5.mono a h)
 |agg b h=>exact .agg b (H8.mono a h)
 |tuple h=>exact .tuple (H8.mono a h)
theorem H8.mono {O a:Place}(b:O.le a){l l':List Value}(h:H8 O l l'):H8 a l l':=by
 cases h with
 |nil=>exact .nil
 |cons h c=>exact .cons (J5.mono b h) (H8.mono b c)
end
def H8.length {O:Place}:∀ {l l':List Value},H8 O l l'->l.length=l'.length:=by
 intro l;induction l with
 |nil=>intro l' h;cases h;rfl
 |cons v l b=>intro l' h;cases h with|cons h a=>simp[b a]
def H8.get {O:Place}:∀ {l l':List Value}{i:Nat}{v:Value},H8 O l l'->l[i]? =some v->∃ v',l'[i]? =some v'/\J5 O v v':=by
 intro l;induction l with
 |nil=>intro l' i v _ a;simp at a
 | cons x l ih=>
   intro l' i v h a;cases h with
   | cons h hs=>
     cases i with
     |zero=>simp at a;subst a;exact⟨_,rfl,h⟩
     |succ i=>simpa using ih hs (by simpa using a)
def H8.Ut {O:Place}:∀ {l l':List Value},l.length=l'.length->(∀ (i:Nat) (v:Value),l[i]? =some v->∃ v',l'[i]? =some v'/\J5 O v v')->H8 O l l':=by
 intro l;induction l with
 |nil=>intro l' h _;cases l' with|nil=>exact .nil|cons=>simp at h
 | cons x l ih=>
   intro l' h b;cases l' with
   |nil=>simp at h
   | cons x' l'=>
     obtain⟨v',a,c⟩:=b 0 x rfl;simp at a;subst a;exact .cons c (ih (by simpa using h) fun i v hi=>by simpa using b (i+1) v (by simpa using hi))
def H8.append {O:Place}{k k':List Value}(a:H8 O k k'):∀ {l l':List Value},H8 O l l'->H8 O (l++k) (l'++k'):=by
 intro l;induction l with
 |nil=>intro l' h;cases h;exact a
 |cons v l c=>intro l' h;cases h with|cons h b=>exact .cons h (c b)
def H8.take {O:Place}(n:Nat):∀ {l l':List Value},H8 O l l'->H8 O (l.take n) (l'.take n):=by
 induction n with
 |zero=>intro l l' _;simp;exact .nil
 |succ n b=>intro l l' h;cases h with|nil=>simp;exact .nil|cons h a=>exact .cons h (b a)
def H8.drop {O:Place}(n:Nat):∀ {l l':List Value},H8 O l l'->H8 O (l.drop n) (l'.drop n):=by
 induction n with
 |zero=>intro l l' h;simpa using h
 |succ n b=>intro l l' h;cases h with|nil=>simp;exact .nil|cons h a=>exact b a
def H8.MN {O:Place}:∀ {l:List Value},Gx l=true->H8 O l l:=by
 intro l;induction l with
 |nil=>intro _;exact .nil
 | cons v l ih=>
   intro h;change bi (J8 v) (Gx l) false=true at h;cases a:J8 v with
   |false=>rw[a]at h;cases h
   |true=>rw[a]at h;exact .cons (.J8 a) (ih h)
def JL (h:J8 v=true):N2 v=true:=by
 cases v<;>first|rfl|(simp[J8]at h)
def FK:∀ {l:List Value},Gx l=true->∀ v∈l,N2 v=true:=by
 intro l;induction l with
 |nil=>intro _ v a;simp at a
 | cons x l ih=>
   intro h v a;change bi (J8 x) (Gx l) false=true at h;cases b:J8 x with
   |false=>rw[b]at h;cases h
   | true=>
     rw[b]at h;rcases V9.1 a with rfl|a
     ·exact JL b
     ·exact ih h v a
def J5.cst {O:Place}{u:Value}(h:cst v=some u):u=v/\J5 O v v:=by
 obtain⟨a,b⟩:=J4 h;cases b;refine⟨rfl,?_⟩;cases v with
 | agg cs=>
   obtain⟨l⟩:=cs;exact .agg (FK a) (H8.MN a)
 |_=>exact .J8 a
def J5.out {O:Place}(h:tH v=true):J5 O v v:=by
 unfold tH at h;split at h
 ·exact .tuple (H8.MN h)
 ·exact(J5.cst (u:=v) (show bb (NC v) (some v)=some v by rw[h];rfl)).2
def J5.N2 {O:Place}(h:J5 O v v'):N2 v'=N2 v:=by cases h<;>rfl
mutual
theorem J5.flat {O:Place}{v v':Value}(h:J5 O v v') (a:flat v=true):v'=v:=by
 cases h with
 |J8 h=>rfl
 |ptr h=>simp[Ab.flat]at a
 |slice h=>simp[Ab.flat]at a
 |grow h e b=>simp[Ab.flat]at a
 |Bq h=>simp[Ab.flat]at a
 |func f c d=>simp[Ab.flat]at a
 |map h=>simp[Ab.flat]at a
 |iface h=>rw[J5.flat h (by simpa[Ab.flat]using a)]
 |agg b h=>rw[H8.flat h (by simpa[Ab.flat,Ab.LG]using a)]
 |tuple h=>rw[H8.flat h (by simpa[Ab.flat,Ab.LG]using a)]
theorem H8.flat {O:Place}{l l':List Value}(h:H8 O l l') (a:TR l=true):l'=l:=by
 cases h with
 |nil=>rfl
 | @cons v v' l l' h hs=>
   unfold TR at a;cases b:Ab.flat v with
   |false=>rw[b]at a;cases a
   |true=>rw[b]at a;rw[J5.flat h b,H8.flat hs a]
end
def J5.cells {O:Place}(h:J5 O v v') (ht:Ab.El v=false):H8 O (M6 v) v'.cells.toList/\∀ u∈M6 v,Ab.N2 u=true:=by
 cases h with
 |agg d h=>exact⟨h,d⟩
 | J8 hs=>
   cases v with
   |agg=>simp[Ab.J8]at hs
   |tuple=>simp[Ab.J8]at hs
   |_=>exact⟨.cons (.J8 hs) .nil,by intro u a;simp[M6]at a;subst a;rfl⟩
 |ptr h=>exact⟨.cons (.ptr h) .nil,by intro u a;simp[M6]at a;subst a;rfl⟩
 |slice h=>exact⟨.cons (.slice h) .nil,by intro u a;simp[M6]at a;subst a;rfl⟩
 |grow h e f=>exact⟨.cons (.grow h e f) .nil,by intro u a;simp[M6]at a;subst a;rfl⟩
 |Bq h=>exact⟨.cons (.Bq h) .nil,by intro u a;simp[M6]at a;subst a;rfl⟩
 |func g b c=>exact⟨.cons (.func g b c) .nil,by intro u a;simp[M6]at a;subst a;rfl⟩
 |map h=>exact⟨.cons (.map h) .nil,by intro u a;simp[M6]at a;subst a;rfl⟩
 |iface h=>exact⟨.cons (.iface h) .nil,by intro u a;simp[M6]at a;subst a;rfl⟩
 |tuple h=>simp[Ab.El]at ht
end
section
variable {w w':World}{Z Z':St}{b c i off n N:Nat}{B:Blk}{q:CJ}{arr:Array Value}{f:Nat×Nat}{P:Program}{v:Value}{cells vs:List Value}
def addr_add (c o n:Nat):(⟨c,o,none⟩:Addr).add n=⟨c,o+n,none⟩:=by
 unfold Addr.add;by_cases h:n=0
 ·subst h;rfl
 ·rw[z0z h]
def IT {e:TypeId}(h:w.heap[c]? =some (.cells arr e f)):w.cell? ⟨c,i,none⟩=arr[i]? :=by
 simp[World.cell?,h]
structure Env where
 lo:Nat
 chk:Nat->Code->Bool
 w0:World
def Env.Low (A9:Env) (w:World):Prop:=A9.lo<=w.heap.size/\∀ c,c<A9.lo->w.heap[c]? =A9.w0.heap[c]?
def Env.Low.next {A9:Env}(h:A9.Low w) (e:w.heap.size<=w'.heap.size) (d:∀ c,c<A9.lo->w'.heap[c]? =w.heap[c]?):A9.Low w':=⟨W5 h.1 e,fun c a=>by rw[d c a];exact h.2 c a⟩
def Row (A9:Env) (O:Place) (w:World) (q:CJ) (cells:List Value):Prop :=
 ∃ (arr:Array Value) (e:TypeId) (lo hi:Nat),w.heap[q.c]? =some (.cells arr e (lo,hi))/\arr.size=q.m/\q.o+cells.length<=q.m/\(A9.lo<=q.c->q.m<=lo\/hi<=lo) /\
  (∀ v∈cells,N2 v=true)/\∀ (i:Nat) (v:Value),cells[i]? =some v->∃ v',arr[q.o+i]? =some v'/\J5 O v v'
def Row.mono {A9:Env}{O a:Place}(p:O.le a) (s:w'.heap[q.c]? =w.heap[q.c]?) (h:Row A9 O w q cells):Row A9 a w' q cells:=by
 obtain⟨arr,e,lo,hi,g,d,j,l,m,o⟩:=h;refine⟨arr,e,lo,hi,by rw[s,g],d,j,l,m,fun i v r=>?_⟩;obtain⟨v',h6,h7⟩:=o i v r;exact⟨v',h6,h7.mono p⟩
def run_read {o:Nat}{e:TypeId}(h:w.heap[c]? =some (.cells arr e f)) (n:Nat) (l:o+n<=arr.size):
  (loadCells ⟨c,o,none⟩ n).run P w= .ok (arr.toList.drop o |>.take n).toArray w:=by
 have:=run_loadCells_list (P:=P) (w:=w) ⟨c,o,none⟩ ((arr.toList.drop o).take n) (by
  intro j v a;rw[addr_add,IT h];have g:j<n:=by
   rcases AH j n with d|d
   ·exact d
   ·rw[List.getElem?_eq_none (by simp;omega)]at a;cases a
  rw[List.getElem?_take_of_lt g,List.getElem?_drop]at a;rw[<- Array.getElem?_toList];exact a)
 rw[show((arr.toList.drop o).take n).length=n from by simp;omega]at this;exact this
def Row.read {A9:Env}{O:Place}{cs:List Value}(h:Row A9 O w q cells)(s:sub cells off n=some cs):
  ∃ vs:List Value,(loadCells ⟨q.c,q.o+off,none⟩ n).run P w= .ok vs.toArray w/\H8 O cs vs/\∀ v∈cs,N2 v=true:=by
 obtain⟨arr,e,lo,hi,j,u,y,z,l,m⟩:=h;obtain⟨h6,rfl⟩:=sub_eq s;refine⟨_,run_read j n om,?_,fun v a=>l v (aR (Wi a))⟩;apply H8.Ut
 ·simp;omega
 ·intro i v a;have d:i<n:=by
   rcases AH i n with g|g
   ·exact g
   ·rw[List.getElem?_eq_none (by simp;omega)]at a;cases a
  rw[List.getElem?_take_of_lt d,List.getElem?_drop]at a ⊢;obtain⟨v',p,r⟩:=m _ _ a;exact⟨v',by rw[Array.getElem?_toList,show q.o+off+i=q.o+(off+i)from by omega];exact p,r⟩
def LX (w:World) (c o:Nat):List Value->World
 | []=>w
 |v::vs=>LX (w.setCell ⟨c,o,none⟩ v) c (o+1) vs
def Fl (arr:Array Value) (o:Nat):List Value->Array Value
 | []=>arr
 |v::vs=>Fl (arr.setIfInBounds o v) (o+1) vs
def JK:∀ (vs:List Value) (arr:Array Value) (o:Nat),(Fl arr o vs).size=arr.size:=by
 intro vs;induction vs with
 |nil=>intro arr o;rfl
 |cons v vs a=>intro arr o;rw[Fl,a];simp
def LQ:∀ (vs:List Value) (arr:Array Value) (o j:Nat),o+vs.length<=arr.size ->
  (Fl arr o vs)[j]? =if o<=j/\j<o+vs.length then vs[j-o]? else arr[j]? :=by
 intro vs;induction vs with
 |nil=>intro arr o j _;rw[Fl,z0z (by simp only[Hf];omega)]
 | cons v vs ih=>
   intro arr o j h;simp only[AG]at h;rw[Fl,ih _ _ _ (by simp;omega)];by_cases a:o+1<=j/\j<o+1+vs.length
   ·rw[z1z a,z1z (by simp;omega),show j-o=(j-(o+1))+1 from by omega,List.getElem?_cons_succ]
   ·rw[z0z a,Array.getElem?_setIfInBounds];by_cases d:o=j
    ·subst d;rw[z1z rfl,z1z om,z1z (by simp)];simp
    ·rw[z0z d,z0z (by simp;omega)]
def MR {e:TypeId}(h:w.heap[c]? =some (.cells arr e f)):
  (w.setCell ⟨c,i,none⟩ v).heap[c]? =some (.cells (arr.setIfInBounds i v) e f):=by
 simp[World.setCell,Array.getElem?_modify,h]
def Oz {a:Nat}(h:a≠c):(w.setCell ⟨c,i,none⟩ v).heap[a]? =w.heap[a]? :=by
 simp only[World.setCell,Array.getElem?_modify];rw[z0z (by simpa using fun d:c=a=>h d.symm)]
structure Outside (w w':World):Prop where
 os:w'.os=w.os
 tape:w'.tape=w.tape
 output:w'.output=w.output
def Outside.refl (w:World):Outside w w:=⟨rfl,rfl,rfl⟩
def Outside.trans {a b c:World}(h:Outside a b) (k:Outside b c):Outside a c:=⟨k.os.trans h.os,k.tape.trans h.tape,k.output.trans h.output⟩
def QB:∀ (vs:List Value) (w:World) (c o:Nat) (arr:Array Value) (e:TypeId) (f:Nat×Nat),w.heap[c]? =some (.cells arr e f) ->
  (LX w c o vs).heap[c]? =some (.cells (Fl arr o vs) e f)/\(∀ c',c'≠c->(LX w c o vs).heap[c']? =w.heap[c']?)/\(LX w c o vs).heap.size=w.heap.size/\Outside w (LX w c o vs):=by
 intro vs;induction vs with
 |nil=>intro w c o arr e f h;exact⟨h,fun _ _=>rfl,rfl,.refl _⟩
 | cons v vs ih=>
   intro w c o arr e f h;obtain⟨d,g,j,l⟩:=ih (w.setCell ⟨c,o,none⟩ v) c (o+1) _ e f (MR h);exact⟨d,fun c' a=>by rw[LX,g c' a,Oz a],by rw[LX,j];simp,Outside.trans (b:=w.setCell ⟨c,o,none⟩ v) ⟨rfl,rfl,rfl⟩ l⟩
def MT (h:N2 v=true):v.oneCell'=true:=by cases v<;>first|rfl|simp[N2]at h
def JR (c o:Nat):∀ (vs:List Value) (w:World) (i:Nat) (arr:Array Value) (e:TypeId) (lo hi:Nat),w.heap[c]? =some (.cells arr e (lo,hi)) ->
  o+i+vs.length<=arr.size->(arr.size<=lo\/hi<=lo)->(∀ v∈vs,N2 v=true)->(storeCells ⟨c,o,none⟩ vs i).run P w= .ok () (LX w c (o+i) vs):=by
 intro vs;induction vs with
 |nil=>intro w i arr e lo hi _ _ _ _;rfl
 | cons v vs ih=>
   intro w i arr e lo hi h g a d;simp only[AG]at g;unfold storeCells;rw[Sem.run_bind,addr_add,run_store _ _ _ _ _ (MT (d v (by simp)))];have j:w.cell? ⟨c,o+i,none⟩=some arr[o+i]:=by rw[IT h];exact Array.getElem?_eq_getElem om
   rw[j];have l:w.frozen? ⟨c,o+i,none⟩=false:=by
    simp only[World.frozen?,h];rcases a with a|a
    ·simp;omega
    ·simp;omega
   simp only[l,JM,HZ,Result.andThen_ok];rw[ih (w.setCell ⟨c,o+i,none⟩ v) (i+1) _ e lo hi (MR h) (by simp;omega) (by simpa using a) (fun v m=>d v (by simp[m]))];rfl
inductive Entries (O:Place):List Value->List MapEntry->Prop
 |nil:Entries O [] []
 |cons {k v:Value}{e:MapEntry}{l:List Value}{es:List MapEntry} (hk:flat k=true) (he:e.key=k) (hv:J5 O v e.val) (h:Entries O l es):Entries O (k::v::l) (e::es)
def Entries.mono {O a:Place}(g:O.le a){l:List Value}{es:List MapEntry}(h:Entries O l es):Entries a l es:=by
 induction h with
 |nil=>exact .nil
 |cons e d j _ m=>exact .cons e d (j.mono g) m
def Fo (O:Place) (w:World) (c:Nat) (cells:List Value):Prop:=∃ (es:Array MapEntry) (clock:Nat),w.heap[c]? =some (.map es clock)/\Entries O cells es.toList
def Typed (w:World) (q:CJ) (t:Option TypeId):Prop:=∀ x,t=some x->q.o=0/\∃ arr f,w.heap[q.c]? =some (.cells arr x f)
def Typed.none:Typed w q none:=fun _ h=>by cases h
def Typed.mono {t:Option TypeId}(a:w'.heap[q.c]? =w.heap[q.c]?) (h:Typed w q t):Typed w' q t:=fun x d=>by rw[a];exact h x d
def IU (A9:Env) (O:Place) (w:World) (q:CJ) (B:Blk):Prop:=match B.kind with
 | .row t=>Row A9 O w q B.cells/\Typed w q t
 | .map=>Fo O w q.c B.cells
def IU.mono {A9:Env}{O g:Place}(j:O.le g) (e:w'.heap[q.c]? =w.heap[q.c]?) (h:IU A9 O w q B):IU A9 g w' q B:=by
 unfold IU at h ⊢;split
 ·rename_i d;rw[d]at h;exact⟨Row.mono j e h.1,h.2.mono e⟩
 ·rename_i d;rw[d]at h;obtain⟨es,a,l,m⟩:=h;exact⟨es,a,by rw[e,l],m.mono j⟩
def IU.row {A9:Env}{O:Place}{t:Option TypeId}(a:B.kind= .row t) (h:Row A9 O w q B.cells) (ht:Typed w q t:=by exact Typed.none):IU A9 O w q B:=by
 unfold IU;rw[a];exact⟨h,ht⟩
def IU.map {A9:Env}{O:Place}(a:B.kind= .map) (h:Fo O w q.c B.cells):IU A9 O w q B:=by
 unfold IU;rw[a];exact h
structure Rel (A9:Env) (O:Place) (Z:St) (w:World):Prop where
 fresh:∀ b,Z.n<=b->Z.h.get b=none
 KV:∀ b q B,O b=some q->Z.blk b=some B->IU A9 O w q B
 dom:∀ b q,O b=some q->q.c<w.heap.size
 own:∀ b q B,O b=some q->Z.blk b=some B->B.own=true->A9.lo<=q.c
 sep:∀ b q B b' q',O b=some q->Z.blk b=some B->B.own=true->b'≠b->O b'=some q'->(Z.n<=b'\/∃ B',Z.blk b'=some B')->q'.c≠q.c
 low:A9.Low w
def AM (h:Z.blk b=some B):Z.h.get b=some B/\B.live=true:=by
 obtain⟨e,a,d⟩:=A8 h;obtain⟨h3,h4⟩:=J4 d;cases h4;exact⟨a,h3⟩
def Nf (h:Z.h.get b=some B) (a:B.live=true):Z.blk b=some B:=by
 show ob (Z.h.get b) (fun B=>bb B.live (some B))=_;rw[h];show bb B.live (some B)=_;rw[a];rfl
def j0 (h:Z.EI b=some B):Z.blk b=some B/\∃ t,B.kind= .row t:=by
 obtain⟨d,e,a⟩:=A8 h;obtain⟨cells,live,own,ver,kind⟩:=d;cases kind with
 |row=>cases a;exact⟨e,_,rfl⟩
 |map=>cases a
def QC (h:Z.Se b=some B):Z.blk b=some B/\B.kind= .map:=by
 obtain⟨d,e,a⟩:=A8 h;obtain⟨cells,live,own,ver,kind⟩:=d;cases kind with
 |row=>cases a
 |map=>cases a;exact⟨e,rfl⟩
def Rel.row {A9:Env}{O:Place}(h:Rel A9 O Z w) (b:Nat) (q:CJ) (B:Blk) (g:O b=some q) (e:Z.EI b=some B):Row A9 O w q B.cells:=by
 obtain⟨a,t,d⟩:=j0 e;have:=h.KV b q B g a;unfold IU at this;rw[d]at this;exact this.1
def Rel.typed {A9:Env}{O:Place}(h:Rel A9 O Z w){t:Option TypeId}(d:O b=some q) (a:Z.blk b=some B) (e:B.kind= .row t):Typed w q t:=by
 have:=h.KV b q B d a;unfold IU at this;rw[e]at this;exact this.2
def Rel.map {A9:Env}{O:Place}(h:Rel A9 O Z w) (b:Nat) (q:CJ) (B:Blk) (g:O b=some q) (e:Z.Se b=some B):Fo O w q.c B.cells:=by
 obtain⟨a,d⟩:=QC e;have:=h.KV b q B g a;unfold IU at this;rw[d]at this;exact this
def Rel.lt {A9:Env}{O:Place}(h:Rel A9 O Z w)(d:Z.blk b=some B):b<Z.n:=by
 rcases AH b Z.n with a|a
 ·exact a
 ·exact absurd (AM d).1 (by rw[h.fresh b a];simp)
structure AS (O:Place) (Z:St) (w:World) (O':Place) (Z':St) (w':World):Prop where
 ext:∀ b,b<Z.n\/Z'.n<=b->O' b=O b
 n:Z.n<=Z'.n
 size:w.heap.size<=w'.heap.size
 I4:∀ c,c<w.heap.size->(∀ b q B,O b=some q->q.c=c->Z.blk b=some B->B.own=false)->w'.heap[c]? =w.heap[c]?
 owned:∀ b q B,O' b=some q->Z'.blk b=some B->q.c<w.heap.size->∃ b₀ q₀ B₀,O b₀=some q₀/\q₀.c=q.c/\Z.blk b₀=some B₀/\(B.own=true->B₀.own=true)
 out:Outside w w'
 same:∀ b,b<Z.n->O b=none->Z'.h.get b=Z.h.get b
def AS.refl (O:Place) (Z:St) (w:World):AS O Z w O Z w :=
 ⟨fun _ _=>rfl,AP _,AP _,fun _ _ _=>rfl,fun b q B a d _=>⟨b,q,B,a,rfl,d,fun h=>h⟩,.refl _,fun _ _ _=>rfl⟩
def AS.trans {O y l:Place}{m:St}{o:World}(h:AS O Z w y Z' w') (k:AS y Z' w' l m o):AS O Z w l m o:=by
 have G:=h.n;have I:=k.n;refine⟨fun b F=>?_,W5 h.n k.n,W5 h.size k.size,fun c p z=>?_,fun b q B g j p=>?_,h.out.trans k.out,fun b g j=>?_⟩
 ·rw[k.ext b om,h.ext b om]
 ·rw[k.I4 c (z5z p h.size) ?_,h.I4 c p z];intro b q B g H j;cases C:B.own with
  |false=>rfl
  | true=>
    obtain⟨d,e,a,r,E,s,u⟩:=h.owned b q B g j om;have A:=u C;rw[z d e a r om s]at A;cases A
 ·obtain⟨d,e,a,r,E,s,u⟩:=k.owned b q B g j (z5z p h.size);obtain⟨b₁,q₁,B₁,j1,j2,j3,j4⟩:=h.owned d e a r s om;exact⟨b₁,q₁,B₁,j1,om,j3,fun D=>j4 (u D)⟩
 ·rw[k.same b om (by rw[h.ext b (.inl g)];exact j),h.same b g j]
def Cz (O:Place) (n N:Nat):Prop:=∀ b,n<=b->b<N->O b=none
def AS.le {O g:Place}(h:AS O Z w g Z' w')(j:Cz O Z.n N) (l:Z'.n<=N):O.le g:=by
 intro b p e;rw[h.ext b ?_]
 ·exact e
 ·rcases AH b Z.n with d|d
  ·exact .inl d
  ·rcases AH b Z'.n with a|a
   ·rw[j b d om]at e;cases e
   ·exact .inr a
def AS.free {O a:Place}(h:AS O Z w a Z' w')(g:Cz O Z.n N):Cz a Z'.n N:=by
 intro b d e;rw[h.ext b (.inr d)];exact g b (W5 h.n d) e
def Place.put (O:Place) (n:Nat) (q:CJ):Place:=fun b=>if b=n then some q else O b
def Place.S9 (O:Place) (n:Nat) (q:CJ):(O.put n q) n=some q:=by unfold Place.put;rw[z1z rfl]
def Place.Ax (O:Place)(q:CJ) (h:b≠n):(O.put n q) b=O b:=by unfold Place.put;rw[z0z h]
def Place.JS {O:Place}(q:CJ) (e:O n=none):O.le (O.put n q):=by
 intro b p a;by_cases d:b=n
 ·subst d;rw[e]at a;cases a
 ·rw[Place.Ax _ _ d];exact a
def Sf (Z:St) (cs:List Value) (k:Kind):(Z.Hg cs k).blk Z.n=some ⟨cs,true,true,0,k⟩:=Nf (Tr.get_set_same _ _ _) rfl
def EC (Z:St) (cs:List Value) (k:Kind)(h:b≠Z.n):(Z.Hg cs k).blk b=Z.blk b:=by
 show ob ((Z.h.set Z.n _).get b) _=_;rw[Tr.L8 _ _ h];rfl
def VA (Z:St) (cs:List Value) (t:Option TypeId:=none):(Z.new cs t).blk Z.n=some ⟨cs,true,true,0,.row t⟩:=Nf (Tr.get_set_same _ _ _) rfl
def LY (Z:St) (cs:List Value){t:Option TypeId}(h:b≠Z.n):(Z.new cs t).blk b=Z.blk b:=by
 show ob ((Z.h.set Z.n _).get b) _=_;rw[Tr.L8 _ _ h];rfl
def Rel.Ae0 {A9:Env}{O:Place}{Z:St}{w w':World}(h:Rel A9 O Z w) (G:O Z.n=none){cs:List Value}{k:Kind}{q:CJ}(E:IU A9 (O.put Z.n q) w' q ⟨cs,true,true,0,k⟩)
  (I:w.heap.size<=w'.heap.size) (r:∀ c,c<w.heap.size->c≠q.c->w'.heap[c]? =w.heap[c]?)
  (H:q.c<w'.heap.size) (d:A9.lo<=q.c) (y:∀ b q' ,O b=some q'->(Z.n<=b\/∃ B,Z.blk b=some B)->q'.c≠q.c) :
  Rel A9 (O.put Z.n q) (Z.Hg cs k) w':=by
 have C:=Place.JS q G;have z:=Place.S9 O Z.n q;have j:∀ b,b≠Z.n->(O.put Z.n q) b=O b:=fun b d=>Place.Ax _ _ d;refine⟨?_,?_,?_,?_,?_,?_⟩
 ·intro b d;change Z.n+1<=b at d;show(Z.h.set Z.n _).get b=none;rw[Tr.L8 _ _ om];exact h.fresh b om
 ·intro b q' B d l;by_cases a:b=Z.n
  ·subst a;rw[z]at d;cases d;rw[Sf]at l;cases l;exact E
  ·rw[j b a]at d;rw[EC _ _ _ a]at l;exact(h.KV b q' B d l).mono C (r q'.c (h.dom b q' d) (y b q' d (.inr ⟨B,l⟩)))
 ·intro b q' d;by_cases a:b=Z.n
  ·subst a;rw[z]at d;cases d;exact H
  ·rw[j b a]at d;have:=h.dom b q' d;omega
 ·intro b q' B p l A;by_cases a:b=Z.n
  ·subst a;rw[z]at p;cases p;exact d
  ·rw[j b a]at p;rw[EC _ _ _ a]at l;exact h.own b q' B p l A
 ·intro b q1 B s q2 o l A u g m;by_cases a:b=Z.n
  ·subst a;rw[z]at o;cases o;rw[j s u]at g;rw[EC _ _ _ u]at m;refine y s q2 g ?_;rcases m with m|m
   ·change Z.n+1<=s at m;exact .inl om
   ·exact .inr m
  ·rw[j b a]at o;rw[EC _ _ _ a]at l;by_cases D:s=Z.n
   ·subst D;rw[z]at g;cases g;exact fun e=>y b q1 o (.inr ⟨B,l⟩) e.symm
   ·rw[j s D]at g;rw[EC _ _ _ D]at m;refine h.sep b q1 B s q2 o l A u g ?_;rcases m with m|m
    ·change Z.n+1<=s at m;exact .inl om
    ·exact .inr m
 ·exact h.low.next I fun c F=>r c (z5z F h.low.1) om
def Rel.put {A9:Env}{O:Place}{Z:St}{w w':World}(h:Rel A9 O Z w) (j:O Z.n=none){cs:List Value}{t:Option TypeId}{q:CJ}(e:Row A9 (O.put Z.n q) w' q cs)
  (m:w.heap.size<=w'.heap.size) (a:∀ c,c<w.heap.size->c≠q.c->w'.heap[c]? =w.heap[c]?)
  (l:q.c<w'.heap.size) (g:A9.lo<=q.c) (d:∀ b q' ,O b=some q'->(Z.n<=b\/∃ B,Z.blk b=some B)->q'.c≠q.c) (ht:Typed w' q t:=by exact Typed.none) :
  Rel A9 (O.put Z.n q) (Z.new cs t) w':=h.Ae0 j (.row rfl e ht) m a l g d
def Rel.new {A9:Env}{O:Place}{Z:St}{w w':World}(h:Rel A9 O Z w) (C:O Z.n=none){cs:List Value}{t:Option TypeId}{arr:Array Value}{e:TypeId}{lo hi:Nat}
  (J:w'.heap.size=w.heap.size+1) (u:w'.heap[w.heap.size]? =some (.cells arr e (lo,hi))) (d:∀ c,c<w.heap.size->w'.heap[c]? =w.heap[c]?)
  (F:Outside w w') (p:arr.size<=lo\/hi<=lo) (l:∀ v∈cs,N2 v=true) (G:∃ vs more,arr.toList=vs++more/\H8 O cs vs) (ht:∀ x,t=some x->x=e:=by exact fun _ h=>by cases h) :
  Rel A9 (O.put Z.n ⟨w.heap.size,0,arr.size⟩) (Z.new cs t) w'/\AS O Z w (O.put Z.n ⟨w.heap.size,0,arr.size⟩) (Z.new cs t) w':=by
 have s:=Place.JS ⟨w.heap.size,0,arr.size⟩ C;refine⟨h.put C ?_ om (fun c l _=>d c l) (by show w.heap.size<_;omega) h.low.1 (fun b D a _=>by have:=h.dom b D a;show D.c≠w.heap.size;omega) (fun x H=>by cases ht x H;exact⟨rfl,_,_,u⟩),⟨?_,?_,?_,?_,?_,F,fun b j _=>Tr.L8 _ _ om⟩⟩
 ·obtain⟨vs,more,j,y⟩:=G;have I:=y.length;refine⟨arr,e,lo,hi,u,rfl,?_,fun _=>p,l,fun i v r=>?_⟩
  ·show 0+cs.length<=arr.size;rw[<- Pq,j];simp;omega
  ·obtain⟨v',z,E⟩:=y.get r;refine⟨v',?_,E.mono s⟩;show arr[0+i]? =_;rw[<- Array.getElem?_toList,j,Eo,List.getElem?_append_left (List.getElem?_eq_some_iff.1 z).1];exact z
 ·intro b a;refine Place.Ax _ _ ?_;rcases a with a|a
  ·omega
  ·change Z.n+1<=b at a;omega
 ·show Z.n<=Z.n+1;omega
 ·omega
 ·intro c m _;exact d c m
 ·intro b q B a A o;by_cases g:b=Z.n
  ·subst g;rw[Place.S9]at a;cases a;change w.heap.size<w.heap.size at o;omega
  ·rw[Place.Ax _ _ g]at a;rw[LY _ _ g]at A;exact⟨b,q,B,a,rfl,A,fun h=>h⟩
def JT (h:Z.write b off vs=some Z'):
  ∃ B cs,Z.EI b=some B/\B.own=true/\off+vs.length<=B.cells.length/\cs=B.cells.take off++vs++B.cells.drop (off+vs.length)/\Z'=⟨Z.h.set b ⟨cs,true,true,B.ver+1,B.kind⟩,Z.n⟩:=by
 obtain⟨B,a,d⟩:=A8 h;obtain⟨h3,h4⟩:=J4 d;obtain⟨cs,h5,h6⟩:=A8 h4;cases h6;obtain⟨h7,h8⟩:=TK _ _ _ _ h5;exact⟨B,cs,a,h3,h7,h8,rfl⟩
def VB (Z:St) (b:Nat) (cs:List Value) (k:Nat) (K:Kind):(⟨Z.h.set b ⟨cs,true,true,k,K⟩,Z.n⟩:St).blk b=some ⟨cs,true,true,k,K⟩:=Nf (Tr.get_set_same _ _ _) rfl
def CK (Z:St){a:Nat}(B:Blk) (h:a≠b):(⟨Z.h.set b B,Z.n⟩:St).blk a=Z.blk a:=by
 show ob ((Z.h.set b B).get a) _=_;rw[Tr.L8 _ _ h];rfl
def Ps {d:Type}{l vs:List d}(h:off+vs.length<=l.length) (i:Nat):
  (l.take off++vs++l.drop (off+vs.length))[i]? =if off<=i/\i<off+vs.length then vs[i-off]? else l[i]? :=by
 rw[DT];by_cases a:i<off
 ·rw[z0z om,List.getElem?_append_left (by simp;omega),List.getElem?_take_of_lt a]
 ·rw[List.getElem?_append_right (by simp;omega)];simp only[KW];rw[show min off l.length=off from by omega];by_cases e:i<off+vs.length
  ·rw[z1z om,List.getElem?_append_left om]
  ·rw[z0z om,List.getElem?_append_right om,List.getElem?_drop];congr 1;omega
def H8.eP {O:Place}{vs':List Value}(e:H8 O vs vs') (h:∀ v∈vs,N2 v=true):∀ v∈vs',N2 v=true:=by
 intro v j;have m:=e.length;obtain⟨i,a⟩:=List.getElem?_of_mem j;have d:i<vs.length:=by have:=(List.getElem?_eq_some_iff.1 a).1;omega
 obtain⟨v',g,l⟩:=e.get (List.getElem?_eq_getElem d);rw[a]at g;cases g;rw[l.N2];exact h _ (List.getElem_mem d)
def Rel.write {A9:Env}{O:Place}{Z Z':St}{w:World}(h:Rel A9 O Z w){b off:Nat}{q:CJ}(m:O b=some q){vs vs':List Value}(V:Z.write b off vs=some Z')
  (K:H8 O vs vs') (G:∀ v∈vs,N2 v=true) :
  (∀ (P:Program),(storeCells ⟨q.c,q.o+off,none⟩ vs').run P w= .ok () (LX w q.c (q.o+off) vs'))/\Rel A9 O Z' (LX w q.c (q.o+off) vs')/\AS O Z w O Z' (LX w q.c (q.o+off) vs'):=by
 obtain⟨B,cs,A,r,R,S,rfl⟩:=JT V;obtain⟨arr,e,lo,hi,r1,r0,r2,r3,r4,r5⟩:=h.row b q B m A;obtain⟨h1,tk,hk⟩:=j0 A;have a1:=r3 (h.own b q B m h1 r);have hl:=K.length;have H:=K.eP G;obtain⟨p1,p2,p3,p4⟩:=QB vs' w q.c (q.o+off) arr e (lo,hi) r1;refine⟨fun P=>?_,⟨?_,?_,?_,?_,?_,?_⟩,⟨?_,?_,?_,?_,?_,p4,fun j _ Q=>Tr.L8 _ _ (by intro D;subst D;rw[m]at Q;cases Q)⟩⟩
 ·exact JR q.c (q.o+off) vs' w 0 arr e lo hi r1 om om H
 ·intro j a;have:=h.lt h1;change Z.n<=j at a;show(Z.h.set b _).get j=none;rw[Tr.L8 _ _ om];exact h.fresh j a
 ·intro j p s a g;by_cases d:j=b
  ·subst d;rw[m]at a;cases a;rw[VB]at g;cases g;subst S
   refine .row hk ⟨_,e,lo,hi,p1,by rw[JK];exact r0,?_,r3,?_,?_⟩ (fun x W=>by
    obtain⟨o1,a0,f0,M⟩:=h.typed m h1 hk x W;rw[r1]at M;cases M;exact⟨o1,_,_,p1⟩)
   ·simp;omega
   ·intro v l;rcases An.1 l with l|l
    ·rcases An.1 l with l|l
     ·exact r4 v (Wi l)
     ·exact G v l
    ·exact r4 v (aR l)
   ·intro i v l;rw[Ps R]at l;rw[LQ _ _ _ _ om];by_cases z:off<=i/\i<off+vs.length
    ·rw[z1z z]at l;obtain⟨v',C,u⟩:=K.get l;exact⟨v',by rw[z1z om,show q.o+i-(q.o+off)=i-off from by omega];exact C,u⟩
    ·rw[z0z z]at l;obtain⟨v',C,u⟩:=r5 i v l;exact⟨v',by rw[z0z om];exact C,u⟩
  ·rw[CK _ _ d]at g;exact(h.KV j p s a g).mono (Place.le_refl _) (p2 p.c (h.sep b q B j p m h1 r d a (.inr ⟨s,g⟩)))
 ·intro j p a;rw[p3];exact h.dom j p a
 ·intro j p s a g U;by_cases d:j=b
  ·subst d;rw[m]at a;cases a;exact h.own j q B m h1 r
  ·rw[CK _ _ d]at g;exact h.own j p s a g U
 ·intro E q1 B1 L q2 C u k3 k4 k5 y;have I:∃ B0,Z.blk E=some B0/\B0.own=true:=by
   by_cases d:E=b
   ·subst d;exact⟨B,h1,r⟩
   ·rw[CK _ _ d]at u;exact⟨B1,u,k3⟩
  obtain⟨B0,X,Y⟩:=I;refine h.sep E q1 B0 L q2 C X Y k4 k5 ?_;rcases y with y|⟨B2,y⟩
  ·exact .inl y
  ·by_cases d:L=b
   ·subst d;exact .inr ⟨B,h1⟩
   ·rw[CK _ _ d]at y;exact .inr ⟨B2,y⟩
 ·exact h.low.next (by rw[p3];exact AP _) fun F G=>p2 F fun D=>by have:=h.own b q B m h1 r;omega
 ·intro _ _;rfl
 ·exact AP _
 ·omega
 ·intro F _ J;refine p2 F fun D=>?_;rw[J b q B m D.symm h1]at r;cases r
 ·intro j p s a g _;by_cases d:j=b
  ·subst d;rw[m]at a;cases a;exact⟨j,q,B,m,rfl,h1,fun _=>r⟩
  ·rw[CK _ _ d]at g;exact⟨j,p,s,a,rfl,g,fun h=>h⟩
def Gc (h:Z.kill b=some Z'):∃ B,Z.EI b=some B/\B.own=true/\Z'=⟨Z.h.set b ⟨[],false,true,B.ver+1,.row none⟩,Z.n⟩:=by
 obtain⟨B,a,d⟩:=A8 h;obtain⟨h3,h4⟩:=J4 d;cases h4;exact⟨B,a,h3,rfl⟩
def FL (Z:St) (b k:Nat):(⟨Z.h.set b ⟨[],false,true,k,.row none⟩,Z.n⟩:St).blk b=none:=by
 show ob ((Z.h.set b _).get b) _=_;rw[Tr.get_set_same];rfl
def Rel.kill {A9:Env}{O:Place}(h:Rel A9 O Z w)(u:∃ q,O b=some q) (z:Z.kill b=some Z'):Rel A9 O Z' w/\AS O Z w O Z' w:=by
 obtain⟨B,m,H,rfl⟩:=Gc z;have s:=(j0 m).1;have old:∀ e B',(⟨Z.h.set b ⟨[],false,true,B.ver+1,.row none⟩,Z.n⟩:St).blk e=some B'->Z.blk e=some B':=by
  intro e B' a;by_cases g:e=b
  ·subst g;rw[FL]at a;cases a
  ·rw[CK _ _ g]at a;exact a
 refine⟨⟨?_,fun e l B' d a=>h.KV e l B' d (old _ _ a),h.dom,fun e l B' d a=>h.own e l B' d (old _ _ a),?_,h.low⟩,⟨fun _ _=>rfl,AP _,AP _,fun _ _ _=>rfl,?_,.refl _,fun e _ o=>Tr.L8 _ _ (by intro y;subst y;obtain⟨q,A⟩:=u;rw[A]at o;cases o)⟩⟩
 ·intro e d;have:=h.lt s;change Z.n<=e at d;show(Z.h.set b _).get e=none;rw[Tr.L8 _ _ om];exact h.fresh e d
 ·intro p q1 B1 r q2 C D E F G j;refine h.sep p q1 B1 r q2 C (old _ _ D) E F G ?_;rcases j with j|⟨B2,j⟩
  ·exact .inl j
  ·exact .inr ⟨B2,old _ _ j⟩
 ·intro e l B' d a _;exact⟨e,l,B',d,rfl,old _ _ a,fun h=>h⟩
def Rel.grow {A9:Env}{O:Place}{Z Z':St}{w:World}(h:Rel A9 O Z w) (R:O Z.n=none){b off:Nat}{q:CJ}(r:O b=some q){old new Aw:List Value}
  (hr:Z.read b off old.length=some old) (S:Z.kill b=some Z') (z:H8 O new Aw) (Q:∀ v∈new,N2 v=true) (hm:q.o+off+old.length+new.length<=q.m)
  {t:Option TypeId} (ht:∀ x,t=some x->off=0/\q.o=0/\∃ arr f,w.heap[q.c]? =some (.cells arr x f):=by exact fun _ h=>by cases h) :
  (∀ (P:Program),(storeCells ⟨q.c,q.o+off+old.length,none⟩ Aw).run P w= .ok () (LX w q.c (q.o+off+old.length) Aw)) /\
  Rel A9 (O.put Z.n ⟨q.c,q.o+off,q.m⟩) (Z'.new (old++new) t) (LX w q.c (q.o+off+old.length) Aw) /\
  AS O Z w (O.put Z.n ⟨q.c,q.o+off,q.m⟩) (Z'.new (old++new) t) (LX w q.c (q.o+off+old.length) Aw):=by
 obtain⟨J,X⟩:=h.kill ⟨q,r⟩ S;obtain⟨B,hr1,h2,rfl⟩:=Gc S;have y:=(j0 hr1).1;obtain⟨B',hB',Gb⟩:=A8 hr;rw[hr1]at hB';cases hB';obtain⟨hs1,hs2⟩:=sub_eq Gb;obtain⟨arr,e,lo,hi,r1,r0,r2,r3,r4,r5⟩:=h.row b q B r hr1;have hl:=z.length;have a1:=r3 (h.own b q B r y h2);have H:=z.eP Q;have C:=Place.JS (⟨q.c,q.o+off,q.m⟩:CJ) R;have D:∀ v∈old,N2 v=true:=by
  intro v g;rw[hs2]at g;exact r4 v (aR (Wi g))
 obtain⟨U,V,p3,p4⟩:=QB Aw w q.c (q.o+off+old.length) arr e (lo,hi) r1;refine⟨fun P=>JR q.c (q.o+off+old.length) Aw w 0 arr e lo hi r1 om om H,?_,⟨?_,?_,?_,?_,?_,p4,fun l Y z=>?_⟩⟩
 ·refine J.put (Z:=⟨Z.h.set b _,Z.n⟩) R (q:=⟨q.c,q.o+off,q.m⟩) ?_ om (fun c _ s=>V c s) (by rw[p3];exact h.dom b q r) (h.own b q B r y h2) ?_ (fun x hx=>by
    obtain⟨o1,o2,a0,f0,M⟩:=ht x hx;rw[r1]at M;cases M;exact⟨by show q.o+off=0;omega,_,_,U⟩)
  ·refine⟨_,e,lo,hi,U,by rw[JK];exact r0,?_,r3,?_,?_⟩
   ·show q.o+off+(old++new).length<=q.m;rw[W4];omega
   ·intro v g;rcases An.1 g with g|g
    ·exact D v g
    ·exact Q v g
   ·intro i v g;show ∃ v',(Fl arr (q.o+off+old.length) Aw)[q.o+off+i]? =some v'/\_;rw[LQ _ _ _ _ om];by_cases A:i<old.length
    ·rw[List.getElem?_append_left A]at g;rw[z0z om];rw[hs2]at g;rw[List.getElem?_take_of_lt A,List.getElem?_drop]at g;obtain⟨v',E,L⟩:=r5 _ v g;exact⟨v',by rw[show q.o+off+i=q.o+(off+i)from by omega];exact E,L.mono C⟩
    ·rw[List.getElem?_append_right om]at g;obtain⟨v',E,L⟩:=z.get g;have:=(List.getElem?_eq_some_iff.1 E).1;exact⟨v',by rw[z1z om,show q.o+off+i-(q.o+off+old.length)=i-old.length from by omega];exact E,L.mono C⟩
  ·intro l F d a s;change F.c=q.c at s;by_cases j:l=b
   ·subst j;rcases a with a|⟨B2,a⟩
    ·have:=h.lt y;change Z.n<=l at a;omega
    ·rw[FL]at a;cases a
   ·refine h.sep b q B l F r y h2 j d ?_ s;rcases a with a|⟨B2,a⟩
    ·exact .inl a
    ·rw[CK _ _ j]at a;exact .inr ⟨B2,a⟩
 ·intro l d;refine Place.Ax _ _ ?_;rcases d with d|d
  ·omega
  ·change Z.n+1<=l at d;omega
 ·show Z.n<=Z.n+1;omega
 ·omega
 ·intro c _ K;refine V c fun I=>?_;rw[K b q B r I.symm y]at h2;cases h2
 ·intro l F B2 d p W;by_cases u:l=Z.n
  ·subst u;rw[Place.S9]at d;cases d;exact⟨b,q,B,r,rfl,y,fun _=>h2⟩
  ·rw[Place.Ax _ _ u]at d;have G:=LY (t:=t) (⟨Z.h.set b ⟨[],false,true,B.ver+1,.row none⟩,Z.n⟩:St) (old++new) (b:=l) u;rw[G]at p;by_cases j:l=b
   ·subst j;rw[FL]at p;cases p
   ·rw[CK _ _ j]at p;exact⟨l,F,B2,d,rfl,p,fun h=>h⟩
 ·show(Tr.set (Z.h.set b _) Z.n _).get l=_;rw[Tr.L8 _ _ om,Tr.L8 _ _ (by intro I;subst I;rw[r]at z;cases z)]
end
def FM {d:Type}{P:Program}(s:Sem d):∀ {a:d},O8 P s=some a->∀ w,s.run P w= .ok a w:=by
 induction s with
 |pure a=>intro b h w;cases h;rfl
 |program k c=>intro b h w;exact c P h w
 |mark m k c=>intro b h w;exact c h w
 |_=>intro b h;cases h
def P9 (O:Place) (fr:Fr) (a:Operand->Value) (l:List Operand):Prop:=∀ x v,x∈l->ev fr x=some v->J5 O v (a x)
def P9.sub {O:Place}{fr:Fr}{e:Operand->Value}{l k:List Operand}(h:P9 O fr e l) (a:∀ x,x∈k->x∈l):P9 O fr e k:=fun x v c b=>h x v (a x c) b
def P9.evs {O:Place}{fr:Fr}{e:Operand->Value}:∀ {l:List Operand}{vs:List Value},P9 O fr e l->Ab.evs fr l=some vs->H8 O vs (l.map e):=by
 intro l;induction l with
 |nil=>intro vs _ h;cases h;exact .nil
 | cons x l ih=>
   intro vs a h;obtain⟨v,b,c⟩:=A8 (show ob (ev fr x) (fun v=>ob (Ab.evs fr l) fun vs=>some (v::vs))=some vs from h);obtain⟨us,h3,h4⟩:=A8 c;cases h4;exact .cons (a x v (by simp) b) (ih (a.sub fun y d=>by simp[d]) h3)
section
variable {P:Program}{O:Place}{fr:Fr}{e:Operand->Value}{o:Oper}{w:World}{v:Value}
def BM (P:Program) (O:Place) (e:Operand->Value) (o:Oper) (w:World) (v:Value):Prop:=∃ v',(execOp e o).run P w= .ok (.value v') w/\J5 O v v'
def Tg {v v':Value}{n:Nat}(h:J5 O v v') (a:nat? v=some n):∃ k,v'= .int k (Int.ofNat n):=by
 cases v with
 | int k m=>
   cases m with
   |ofNat m=>cases a;cases h;exact⟨k,rfl⟩
   |negSucc m=>cases a
 |_=>cases a
def PN {x:Operand}{n:Nat}{l:List Operand}(c:P9 O fr e l) (d:x∈l) (h:evN fr x=some n):∃ k,e x= .int k (Int.ofNat n):=by
 obtain⟨v,a,b⟩:=A8 h;exact Tg (c x v d a) b
def Lk {v v':Value}{b off:Nat}(h:J5 O v v') (a:at? v=some (b,off)):∃ q,O b=some q/\v'= .pointer (some ⟨q.c,q.o+off,none⟩):=by
 unfold at? at a;split at a
 ·cases a;cases h with
  |ptr d=>exact⟨_,d,rfl⟩
  |J8 h=>simp[J8]at h
 ·cases a
def Bh {t:TypeId}{n:Nat}(h:size? P t=some n) (w:World):(sizeOf t).run P w= .ok n w:=by
 unfold size? at h;split at h
 ·rename_i i hi;cases h;simp[sizeOf,typeInfo,hi]
 ·cases h
def eI {t:TypeId}{i:TypeInfo}(h:P.info? t=some i) (w:World):(typeInfo t).run P w= .ok i w:=by simp[typeInfo,h]
def H9 {t:TypeId}{d:TypeDesc}(h:P.underlying t=some d) (w:World):(underlying t).run P w= .ok d w:=by simp[underlying,h]
def Vv {t:TypeId}{g:Bool}(h:Lu P t=some g) (w:World):(isAgg t).run P w= .ok g w:=by
 unfold Lu at h;split at h
 ·rename_i d a;cases h;simp only[isAgg,Sem.run_bind,H9 a,Result.andThen_ok];cases d<;>rfl
 ·cases h
def Gv {t e:TypeId}(h:elem? P t=some e):P.underlying t=some (.slice e):=by
 unfold elem? at h;split at h
 ·cases h;assumption
 ·cases h
def EN {t:TypeId}{z:Value}(h:Ad P t=some z) (w:World):(zeroValue t).run P w= .ok z w/\J5 O z z/\∃ i,P.info? t=some i/\i.zero=some z:=by
 obtain⟨i,a,b⟩:=A8 h;obtain⟨z',h3,h4⟩:=A8 b;obtain⟨h5,h6⟩:=J5.cst (O:=O) h4;subst h5;exact⟨by simp[zeroValue,typeInfo,a,h3],h6,i,a,h3⟩
def Xm {t:TypeId}{cs a:List Value}{off:Nat}(m:H8 O cs a) (s:∀ v∈cs,N2 v=true) (h:tS P t cs off=some v) :
  ∃ v',(part t ⟨a⟩ off).run P w= .ok v' w/\J5 O v v':=by
 obtain⟨g,p,i⟩:=A8 h;have j:=Vv p w;cases g with
 | true=>
   obtain⟨n,c,b⟩:=A8 (show ob (size? P t) _=some v from i);obtain⟨l,h5,h6⟩:=A8 b;cases h6;obtain⟨h7,rfl⟩:=sub_eq h5;refine⟨.agg ((⟨a⟩:Array Value).extract off (off+n)),?_,?_⟩
   ·simp only[part,Sem.run_bind,j,Result.andThen_ok,FU,Bh c,Sem.run_pure]
   ·have z:(⟨a⟩:Array Value).extract off (off+n)=⟨(a.drop off).take n⟩:=by
     rw[<- Ti,AC1,AC2];simp
    rw[z];exact .agg (fun u f=>s u (aR (Wi f))) ((m.drop off).take n)
 | false=>
   obtain⟨l,c,b⟩:=A8 (show ob (sub cs off 1) _=some v from i);obtain⟨h7,rfl⟩:=sub_eq c;have y:cs[off]? =some v:=by
    unfold KX at b;split at b
    ·rename_i u f;cases b;have:=congrArg (fun l:List Value=>l[0]?) f
     simpa[List.getElem?_take]using this
    ·cases b
   obtain⟨v',q,r⟩:=m.get y;refine⟨v',?_,r⟩;have d:(⟨a⟩:Array Value)[off]? =some v':=by simpa using q
   simp only[part,Sem.run_bind,j,Result.andThen_ok,JM,HZ,d,Sem.run_pure]
def OU (m:P9 O fr e o.op.operands.toList) (n:∀ cs b,o.op≠ .select cs b) (l:∀ x∈o.op.operands.toList,∃ u,ev fr x=some u/\flat u=true)
  (h:Km P fr o=some v):BM P O e o w v:=by
 obtain⟨u,a,g⟩:=A8 h;obtain⟨h3,h4⟩:=J5.cst (O:=O) g;subst h3;have j:execOp (fun x=>(ev fr x).getD R7) o=execOp e o:=by
  apply execOp_congr o n;intro x f;obtain⟨u,d,i⟩:=l x (by simpa using f);rw[d];exact((m x u (by simpa using f) d).flat i).symm
 rw[j]at a;unfold Ke at a;split at a
 ·rename_i p c;cases a;exact⟨_,FM _ c w,h4⟩
 ·cases a
def VN (a b:Int):ilt a b=decide (a<b):=by
 rw[z7z,z3z];cases a with
 | ofNat a=>
   cases b with
   |ofNat b=>show Nat.blt a b=true↔_;rw[EJ];simp only[JN];omega
   |negSucc b=>show false=true↔_;simp only[JN];constructor<;>intro h<;>first|cases h|omega
 | negSucc a=>
   cases b with
   |ofNat b=>exact⟨fun _=>by rw[bz,JN];omega,fun _=>rfl⟩
   |negSucc b=>show Nat.blt b a=true↔_;rw[EJ];simp only[bz];omega
def Mx (a b:Int):ieq a b=(a==b):=by
 rw[z7z,beq_iff_eq];cases a with
 | ofNat a=>
   cases b with
   |ofNat b=>show Nat.beq a b=true↔_;rw[Nat.beq_eq];simp only[JN];omega
   |negSucc b=>show false=true↔_;simp only[JN];constructor<;>intro h<;>first|cases h|omega
 | negSucc a=>
   cases b with
   |ofNat b=>show false=true↔_;simp only[JN];constructor<;>intro h<;>first|cases h|omega
   |negSucc b=>show Nat.beq a b=true↔_;rw[Nat.beq_eq];omega
def p64:(2:Int) ^ 64=18446744073709551616:=by decide
def p63:(2:Int) ^ 63=9223372036854775808:=by decide
def p8:(2:Int) ^ 8=256:=by decide
def wrap_i64 (n:Int):IntKind.i64.wrap n=if n % 18446744073709551616>=9223372036854775808 then n % 18446744073709551616-18446744073709551616 else n % 18446744073709551616:=by
 show(if (true&&decide (n % (2 ^ 64:Int)>=(2 ^ 63:Int)))=true then n % (2 ^ 64:Int)-(2 ^ 64:Int)else n % (2 ^ 64:Int))=_;rw[p64,p63,Bx];simp only[Ej]
def wrap_u64 (n:Int):IntKind.u64.wrap n=n % 18446744073709551616:=by
 show(if (false&&decide (n % (2 ^ 64:Int)>=(2 ^ 63:Int)))=true then n % (2 ^ 64:Int)-(2 ^ 64:Int)else n % (2 ^ 64:Int))=_;rw[p64,CZ,z0z (by simp)]
def wrap_u8 (n:Int):IntKind.u8.wrap n=n % 256:=by
 show(if (false&&decide (n % (2 ^ 8:Int)>=(2 ^ 7:Int)))=true then n % (2 ^ 8:Int)-(2 ^ 8:Int)else n % (2 ^ 8:Int))=_;rw[p8,CZ,z0z (by simp)]
def tu {k:IntKind}{n:Int}(h:inR k n=true):k.wrap n=n:=by
 unfold inR at h;split at h
 ·rw[EJ]at h;rw[wrap_i64];simp only[JN];split<;>omega
 ·rw[EJ]at h;rw[wrap_i64];split<;>omega
 ·rw[EJ]at h;rw[wrap_u8];simp only[JN];omega
 ·rw[EJ]at h;rw[wrap_u64];simp only[JN];omega
 ·cases h
def Jk (k:IntKind) (n:Int):Hn k n=k.wrap n:=by
 unfold Hn;cases h:inR k n with
 |true=>rw[tu h];rfl
 |false=>rfl
def Vm {a b:IntKind}(h:keq a b=true):a=b:=by
 cases a<;>cases b<;>first|rfl|(simp[keq,IntKind.ctorIdx]at h)
def Re:∀ (a b:List UInt8),Lp a b=(a==b):=by
 intro a;induction a with
 |nil=>intro b;cases b<;>rfl
 | cons x a ih=>
   intro b;cases b with
   |nil=>rfl
   | cons y b=>
     show bi (Nat.beq x.toNat y.toNat) (Lp a b) false=_;rw[ih];by_cases c:x=y
     ·subst c;simp
     ·have:Nat.beq x.toNat y.toNat=false:=by
       rw[Tj];intro d;exact c (UInt8.toNat_inj.1 (Ac d))
      rw[this];simp[c]
def dj (c:Bool):bi c false true= !c:=by cases c<;>rfl
def bC {op:BinOp}{x y:Value}{t B:TypeId}{d f:Operand}(q:o.op= .binOp op t d f B) (h:Ml op x y=some v) (r:e d=x) (s:e f=y):BM P O e o w v:=by
 unfold Ml at h;split at h
 ·rename_i k a;split at h
  ·rename_i k' b;obtain⟨g,c⟩:=J4 h;have n:=Vm g;subst n;have m:(eqGuard op t d f (.int k a) (.int k b)).run P w= .ok () w:=by
    unfold eqGuard;cases op<;>rfl
   suffices hb:∃ v',(binOp op t (.int k a) (.int k b)).run P w= .ok v' w/\J5 O v v' by
    obtain⟨v',i,j⟩:=hb;refine⟨v',?_,j⟩;simp only[execOp,q,r,s,Sem.run_bind,m,Result.andThen_ok,i,Sem.run_pure]
   cases op<;>first
    | (cases c;done)
    | (cases c;refine⟨_,?_,.J8 rfl⟩;simp[binOp,Op.intArith,Op.intCmp,Jk,VN,Mx,dj];done)
    | (cases c;refine⟨_,?_,.J8 rfl⟩;simp[binOp,Op.intArith,Op.intCmp,Jk,VN,Mx,dj];rw[z7z];simp;done)
  ·cases h
 ·rename_i a;split at h
  ·rename_i b;have m:(eqGuard op t d f (.string a) (.string b)).run P w= .ok () w:=by
    unfold eqGuard;cases op<;>rfl
   suffices hb:∃ v',(binOp op t (.string a) (.string b)).run P w= .ok v' w/\J5 O v v' by
    obtain⟨v',i,j⟩:=hb;refine⟨v',?_,j⟩;simp only[execOp,q,r,s,Sem.run_bind,m,Result.andThen_ok,i,Sem.run_pure]
   cases op<;>first
    | (cases h;done)
    | (cases h;refine⟨_,?_,.J8 rfl⟩;simp[binOp,Op.stringOp,Re,ByteArray.toList_eq,dj];done)
    |skip
   obtain⟨g,c⟩:=J4 (show bb _ _=some v from h);cases c;refine⟨_,?_,.J8 rfl⟩;have p:=Cj g;have:¬ ((a.size+b.size:Nat):Int)>IntKind.i64.max:=by
    have u:a.size=a.data.toList.length:=Array.length_toList.symm;have z:b.size=b.data.toList.length:=Array.length_toList.symm;have A:IntKind.i64.max=9223372036854775807:=by decide
    rw[u,z,A];unfold room at p;omega
   have l:(⟨(a.data.toList++b.data.toList).toArray⟩:ByteArray)=a++b:=by
    apply ByteArray.ext;simp[ByteArray.data_append]
   simp only[binOp,Op.stringOp,this,HZ,Sem.run_pure,l]
  ·cases h
 ·cases h
end
section
variable {x ix:Operand}{y x' y':Value}{b:Bool}{f:Nat}
section
variable {P:Program}{O:Place}{fr:Fr}{e:Operand->Value}{o:Oper}{w:World}{v:Value}
def vL {op:BinOp}{x:Value}(h:Ml op x y=some v) (a:J5 O x x') (c:J5 O y y'):x'=x/\y'=y:=by
 unfold Ml at h;split at h
 ·split at h
  ·cases a;cases c;exact⟨rfl,rfl⟩
  ·cases h
 ·split at h
  ·cases a;cases c;exact⟨rfl,rfl⟩
  ·cases h
 ·cases h
def Xj {t:TypeId}{d:TypeDesc}{x:Value}(k:Nat) (g:P.underlying t=some d) (h:EY (some d) x y=some b) (i:J5 O x x') (j:J5 O y y'):
  (Op.equalIn (k+1) t x' y').run P w= .ok b w/\∀ op xo yo,(eqGuard op t xo yo x' y').run P w= .ok () w:=by
 cases d with
 | pointer el=>
   unfold EY at h;simp only at h;split at h
   ·cases h;cases i;cases j;exact⟨by(unfold Op.equalIn;rw[Sem.run_bind,H9 g];rfl),fun op xo yo=>by unfold eqGuard;cases op<;>rfl⟩
   ·cases h;cases i;cases j<;>first
     |exact⟨by(unfold Op.equalIn;rw[Sem.run_bind,H9 g];rfl),fun op xo yo=>by unfold eqGuard;cases op<;>rfl⟩
     | (rename_i c;simp[J8]at c;done)
   ·cases h;cases j;cases i<;>first
     |exact⟨by(unfold Op.equalIn;rw[Sem.run_bind,H9 g];rfl),fun op xo yo=>by unfold eqGuard;cases op<;>rfl⟩
     | (rename_i c;simp[J8]at c;done)
   ·cases h
 | slice el=>
   unfold EY at h;simp only at h;split at h
   ·cases h;cases i;cases j;exact⟨by(unfold Op.equalIn;rw[Sem.run_bind,H9 g];rfl),fun op xo yo=>by unfold eqGuard;cases op<;>rfl⟩
   ·cases h;cases i;cases j<;>first
     |exact⟨by(unfold Op.equalIn;rw[Sem.run_bind,H9 g];rfl),fun op xo yo=>by unfold eqGuard;cases op<;>rfl⟩
     | (rename_i c;simp[J8]at c;done)
   ·cases h;cases j;cases i<;>first
     |exact⟨by(unfold Op.equalIn;rw[Sem.run_bind,H9 g];rfl),fun op xo yo=>by unfold eqGuard;cases op<;>rfl⟩
     | (rename_i c;simp[J8]at c;done)
   ·cases h
 | func a r vr=>
   unfold EY at h;simp only at h;split at h
   ·cases h;cases i;cases j;exact⟨by(unfold Op.equalIn;rw[Sem.run_bind,H9 g];rfl),fun op xo yo=>by unfold eqGuard;cases op<;>rfl⟩
   ·cases h;cases i;cases j<;>first
     |exact⟨by(unfold Op.equalIn;rw[Sem.run_bind,H9 g];rfl),fun op xo yo=>by unfold eqGuard;cases op<;>rfl⟩
     | (rename_i c;simp[J8]at c;done)
   ·cases h;cases j;cases i<;>first
     |exact⟨by(unfold Op.equalIn;rw[Sem.run_bind,H9 g];rfl),fun op xo yo=>by unfold eqGuard;cases op<;>rfl⟩
     | (rename_i c;simp[J8]at c;done)
   ·cases h
 | interface ms=>
   unfold EY at h;simp only at h;split at h
   ·cases h;cases i;cases j<;>first
     |exact⟨by(unfold Op.equalIn;rw[Sem.run_bind,H9 g];rfl),fun op xo yo=>by unfold eqGuard;cases op<;>rfl⟩
     | (rename_i c;simp[J8]at c;done)
   ·cases h;cases j;cases i<;>first
     |exact⟨by(unfold Op.equalIn;rw[Sem.run_bind,H9 g];rfl),fun op xo yo=>by unfold eqGuard;cases op<;>rfl⟩
     | (rename_i c;simp[J8]at c;done)
   ·cases h
 |_=>cases h
def jX {t:TypeId}{d:TypeDesc}{x:Value}(a:P.underlying t=some d) (h:EY (some d) x y=some b) (c:J5 O x x') (g:J5 O y y'):
  (Op.equal t x' y').run P w= .ok b w/\∀ op xo yo,(eqGuard op t xo yo x' y').run P w= .ok () w:=Xj 9999 a h c g
def Mm {d:Option TypeDesc}{x:Value}(h:EY d x y=some b) (c:J5 O x x') (g:J5 O y y') (t:TypeId):
  binOp .eql t x' y'=(do pure (.bool (<- Op.equal t x' y')))/\binOp .neq t x' y'=(do pure (.bool (!(<- Op.equal t x' y')))):=by
 unfold EY at h
 split at h<;>(try split at h)<;>(try(cases h;done))<;>cases c<;>cases g<;>first
  |exact⟨rfl,rfl⟩
  | (rename_i a;simp[J8]at a;done)
  | (rename_i a _;simp[J8]at a;done)
def jY {op:BinOp}{t F:TypeId}{i j:Operand}(c:o.op= .binOp op t i j F) (s:P9 O fr e o.op.operands.toList) (h:QY P fr o op t i j=some v):BM P O e o w v:=by
 obtain⟨x,C,E⟩:=A8 h;obtain⟨y,h3,h4⟩:=A8 E;have n:=s i x (by simp[c,Op.operands]) C;have p:=s j y (by simp[c,Op.operands]) h3;unfold vM at h4;cases m:Ml op x y with
 | some u=>
   rw[m]at h4;cases h4;obtain⟨A,B⟩:=vL m n p;exact bC c m A B
 | none=>
   rw[m]at h4;change bi (flat x&&flat y) (Km P fr o) (od P t op x y)=some v at h4;cases a:flat x&&flat y with
   | true=>
     rw[a]at h4;rw[T1]at a;refine OU s (by simp[c]) ?_ h4;intro z D;simp[c,Op.operands]at D;rcases D with rfl|rfl
     ·exact⟨x,C,a.1⟩
     ·exact⟨y,h3,a.2⟩
   | false=>
     rw[a]at h4;change od P t op x y=some v at h4;have key:∀ b,EY (P.underlying t) x y=some b->(Op.equal t (e i) (e j)).run P w= .ok b w/\∀ op xo' yo',(eqGuard op t xo' yo' (e i) (e j)).run P w= .ok () w:=by
      intro b l;cases r:P.underlying t with
      |none=>rw[r]at l;cases l
      |some d=>rw[r]at l;exact jX r l n p
     unfold od at h4;split at h4
     ·obtain⟨b,g,q⟩:=A8 h4;cases q;obtain⟨k1,k2⟩:=key b g;refine⟨.bool b,?_,.J8 rfl⟩;simp only[execOp,c,Sem.run_bind,k2,Result.andThen_ok,(Mm g n p t).1,k1,Sem.run_pure]
     ·obtain⟨b,g,q⟩:=A8 h4;cases q;obtain⟨k1,k2⟩:=key b g;refine⟨.bool !b,?_,.J8 rfl⟩;simp only[execOp,c,Sem.run_bind,k2,Result.andThen_ok,(Mm g n p t).2,k1,Sem.run_pure]
     ·cases h4
def QZ (a:o.op= .move x\/o.op= .assign x) (c:P9 O fr e o.op.operands.toList) (h:ev fr x=some v):BM P O e o w v:=by
 rcases a with a|a
 ·exact⟨e x,by simp[execOp,a],c x v (by simp[a,Op.operands]) h⟩
 ·exact⟨e x,by simp[execOp,a],c x v (by simp[a,Op.operands]) h⟩
def bE {c a b:Operand}(d:o.op= .pick c a b) (g:P9 O fr e o.op.operands.toList) (h:Jh fr c a b=some v):BM P O e o w v:=by
 obtain⟨x,j,l⟩:=A8 h;obtain⟨t,h3,h4⟩:=A8 l;have i:=g c x (by simp[d,Op.operands]) j;have ht:e c= .bool t:=by
  unfold bool? at h3;split at h3
  ·cases h3;generalize e c=y at i;cases i;rfl
  ·cases h3
 cases t with
 |true=>exact⟨e a,by simp[execOp,d,ht,asBool],g a v (by simp[d,Op.operands]) h4⟩
 |false=>exact⟨e b,by simp[execOp,d,ht,asBool],g b v (by simp[d,Op.operands]) h4⟩
def Qg (g:o.op= .nilCheck x) (j:P9 O fr e o.op.operands.toList) (h:Bu fr x=some v):BM P O e o w v:=by
 obtain⟨u,i,c⟩:=A8 h;have a:=j x u (by simp[g,Op.operands]) i;unfold bF at c;split at c
 ·cases c;refine⟨e x,?_,a⟩;generalize d:e x=y at a;cases a with
  |ptr l=>simp[execOp,g,d]
  |J8 hs=>simp[J8]at hs
 ·cases c;refine⟨e x,?_,a⟩;generalize d:e x=y at a;cases a with
  |func=>simp[execOp,g,d]
  |J8 hs=>simp[J8]at hs
 ·cases c;refine⟨e x,?_,a⟩;generalize d:e x=y at a;cases a with
  |iface=>simp[execOp,g,d]
  |J8 hs=>simp[J8]at hs
 ·cases c
def OV (c:o.op.operands.toList=[x]) (j:∀ cs b,o.op≠ .select cs b) (i:P9 O fr e o.op.operands.toList) (h:DP P fr o x=some v):BM P O e o w v:=by
 obtain⟨u,d,g⟩:=A8 h;obtain⟨h3,h4⟩:=J4 g;refine OU i j ?_ h4;intro z a;rw[c]at a;simp at a;subst a;exact⟨u,d,h3⟩
def Xk {t:TypeId}(c:o.op= .makeInterface t x) (l:P9 O fr e o.op.operands.toList) (h:Lj P fr t x=some v):BM P O e o w v:=by
 obtain⟨u,g,i⟩:=A8 h;obtain⟨h3,h4⟩:=J4 i;cases h4;have m:=l x u (by simp[c,Op.operands]) g;refine⟨.iface t (e x),?_,.iface m⟩;unfold concrete at h3;split at h3
 ·cases h3
 ·rename_i d j a;have:=H9 a w;simp only[execOp,c,Instr.makeInterface,Sem.run_bind,this,Result.andThen_ok];cases d<;>first|rfl|exact absurd rfl (j _)
 ·cases h3
def bG {c:Fn}{fs cs:Array Operand}(d:o.op= .makeFunc c fs cs) (i:P9 O fr e o.op.operands.toList) (h:Jj fr c fs cs=some v):BM P O e o w v:=by
 obtain⟨a,m,n⟩:=A8 h;obtain⟨b,h3,h4⟩:=A8 n;obtain⟨h0,h4⟩:=J4 h4;cases h4;have p:=(i.sub (k:=fs.toList) fun y g=>by simp[d,Op.operands];exact .inl (by simpa using g)).evs m;have q:=(i.sub (k:=cs.toList) fun y g=>by simp[d,Op.operands];exact .inr (by simpa using g)).evs h3;refine⟨.func c ⟨fs.toList.map e⟩ ⟨cs.toList.map e⟩,?_,.func h0 p q⟩;have j:fs.map e=⟨fs.toList.map e⟩:=by rw[<- Ti];simp
 have l:cs.map e=⟨cs.toList.map e⟩:=by rw[<- Ti];simp
 simp[execOp,d,Instr.makeFunc,j,l]
def Qh {s:TypeId}{a:Field}(h:Mn P s f=some a):∃ fs,P.underlying s=some (.struct fs)/\fs[f]? =some a:=by
 unfold Mn at h;split at h
 ·exact⟨_,by assumption,h⟩
 ·cases h
def PC {s:TypeId}(a:o.op= .fieldAddr s x f) (i:P9 O fr e o.op.operands.toList) (h:AW P fr s x f=some v):BM P O e o w v:=by
 obtain⟨u,d,g⟩:=A8 h;obtain⟨⟨b,off⟩,h3,h4⟩:=A8 g;obtain⟨fd,h5,h6⟩:=A8 (show ob (Mn P s f) _=some v from h4);obtain⟨n,h7,h8⟩:=A8 h6;obtain⟨h9,h10⟩:=J4 h8;cases h10;have j:=Cj h9;obtain⟨q,hq,hx⟩:=Lk (i x u (by simp[a,Op.operands]) d) h3;obtain⟨fs,hu,hf⟩:=Qh h5;refine⟨.pointer (some ⟨q.c,q.o+(off+fd.offset),none⟩),?_,.ptr hq⟩;simp only[execOp,a,hx,Instr.fieldAt,Sem.run_bind,H9 hu,Result.andThen_ok,hf,Instr.sureAddr,Sem.run_pure,fieldPlace,Bh h7,Sem.run_ite];rw[z0z om];simp only[Sem.run_pure,Result.andThen_ok,addr_add,Px]
def fF {u c:Value}{cs:List Value}(h:J5 O u c) (a:jZ u=some cs):∃ cs',c= .agg ⟨cs'⟩/\H8 O cs cs'/\∀ v∈cs,N2 v=true:=by
 unfold jZ at a;split at a
 ·cases a;cases h with
  |agg d g=>exact⟨_,rfl,g,d⟩
  |J8 hs=>simp[J8]at hs
 ·cases a
def Xl {s:TypeId}(a:o.op= .field s x f) (g:P9 O fr e o.op.operands.toList) (h:Fv P fr s x f=some v):BM P O e o w v:=by
 obtain⟨u,c,d⟩:=A8 h;obtain⟨cs,h3,h4⟩:=A8 d;obtain⟨fd,h5,h6⟩:=A8 h4;obtain⟨cs',hx,hr,hc⟩:=fF (g x u (by simp[a,Op.operands]) c) h3;obtain⟨fs,hu,hf⟩:=Qh h5;obtain⟨v',h7,h8⟩:=Xm (P:=P) (w:=w) hr hc h6;refine⟨v',?_,h8⟩;simp only[execOp,a,hx,Instr.field,Sem.run_bind,H9 hu,Result.andThen_ok,hf,asAgg,Sem.run_pure,h7]
def PD {t:TypeId}(l:o.op= .indexAddr t x ix) (B:P9 O fr e o.op.operands.toList) (h:Az P fr t x ix=some v):BM P O e o w v:=by
 obtain⟨i,D,E⟩:=A8 h;obtain⟨u,h3,h4⟩:=A8 E;obtain⟨k,hi⟩:=PN B (by simp[l,Op.operands]) D;have A:=B x u (by simp[l,Op.operands]) h3;have a:∀ (el:TypeId) (b off len:Nat) (q:CJ),O b=some q->AI9 P el b off i len=some v->i<len/\∃ n,(∀ w,(sizeOf el).run P w= .ok n w)/\J5 O v (.pointer (some ⟨q.c,q.o+off+i*n,none⟩)):=by
  intro el b off len q g G;obtain⟨C,H⟩:=J4 G;obtain⟨n,k3,k4⟩:=A8 H;cases k4;rw[EJ]at C;refine⟨C,n,Bh k3,?_⟩;rw[Px];exact .ptr g
 generalize z:e x=y at A;unfold Ih at h4;split at h4
 ·rename_i b off sp len cap;obtain⟨el,F,r⟩:=A8 h4;have p:=Gv F;cases A with
  | slice g=>
    rename_i q;obtain⟨d,n,j,m⟩:=a el b off len _ g r;refine⟨_,?_,m⟩;simp only[execOp,l,hi,z,Instr.indexAt,asIntOf,Sem.run_bind,Sem.run_pure,Result.andThen_ok,H9 p,LO,Sem.run_ite];rw[z1z ⟨by simp,by simpa using d⟩];simp only[Sem.run_bind,j,Result.andThen_ok,Sem.run_pure,addr_add,JN,Wo]
  | grow g hk' hm=>
    rename_i s k' q;obtain⟨d,n,j,m⟩:=a el b off len _ g r;refine⟨_,?_,m⟩;simp only[execOp,l,hi,z,Instr.indexAt,asIntOf,Sem.run_bind,Sem.run_pure,Result.andThen_ok,H9 p,LO,Sem.run_ite];rw[z1z ⟨by simp,by simpa using d⟩];simp only[Sem.run_bind,j,Result.andThen_ok,Sem.run_pure,addr_add,JN,Wo]
  | Bq g=>
    obtain⟨d,_⟩:=a el b off 0 _ g r;omega
  |J8 hs=>simp[J8]at hs
 ·rename_i b off;split at h4
  ·rename_i len el p;cases A with
   | ptr g=>
     rename_i q;obtain⟨d,n,j,m⟩:=a el b off len _ g h4;refine⟨_,?_,m⟩;simp only[execOp,l,hi,z,Instr.indexAt,asIntOf,Sem.run_bind,Sem.run_pure,Result.andThen_ok,H9 p,Instr.sureAddr,Sem.run_ite];rw[z1z ⟨by simp,by simpa using d⟩];simp only[Sem.run_bind,j,Result.andThen_ok,Sem.run_pure,addr_add,JN,Wo]
   |J8 hs=>simp[J8]at hs
  ·cases h4
 ·cases h4
def oe {l:List UInt8}{i:Nat}{r:List UInt8}(c:sub l i 1=some r) (a:oP r=some v):∃ b,l[i]? =some b/\v= .int .u8 b.toNat:=by
 obtain⟨g,rfl⟩:=sub_eq c;unfold oP at a;split at a
 ·rename_i u d;cases a;have:=congrArg (fun l:List UInt8=>l[0]?) d;exact⟨u,by simpa[List.getElem?_take]using this,rfl⟩
 ·cases a
def Xo {t:TypeId}(c:o.op= .index t x ix) (q:P9 O fr e o.op.operands.toList) (h:Ll P fr t x ix=some v):BM P O e o w v:=by
 obtain⟨i,z,A⟩:=A8 h;obtain⟨u,h3,h4⟩:=A8 A;obtain⟨k,hi⟩:=PN q (by simp[c,Op.operands]) z;have p:=q x u (by simp[c,Op.operands]) h3;unfold bH at h4;split at h4
 ·rename_i cs;split at h4
  ·rename_i len el m;obtain⟨a,d⟩:=J4 h4;obtain⟨n,h7,h8⟩:=A8 d;rw[EJ]at a;obtain⟨cs',g,hr,hc⟩:=fF (u:= .agg cs) (cs:=cs.toList) p rfl;obtain⟨v',h9,h10⟩:=Xm (P:=P) (w:=w) hr hc h8;refine⟨v',?_,h10⟩;simp only[execOp,c,hi,g,Instr.index,asIntOf,Sem.run_bind,Sem.run_pure,Result.andThen_ok,H9 m,Sem.run_ite];rw[z1z ⟨by simp,by simpa using a⟩];simp only[Sem.run_bind,Bh h7,Result.andThen_ok,JN,Wo,h9]
  ·cases h4
 ·rename_i s;split at h4
  ·rename_i m;obtain⟨r,a,d⟩:=A8 h4;obtain⟨b,h7,rfl⟩:=oe a d;generalize g:e x=y at p;cases p with
   | J8 hs=>
     refine⟨_,?_,.J8 rfl⟩;have B:s[i]? =some b:=by
      have j:=(List.getElem?_eq_some_iff.1 h7).1;have C:=(List.getElem?_eq_some_iff.1 h7).2;have l:i<s.size:=by rw[show s.size=s.data.toList.length from Array.length_toList.symm];exact j
      rw[getElem?_pos s i l];congr 1
     simp only[execOp,c,hi,g,Instr.index,asIntOf,Sem.run_bind,Sem.run_pure,Result.andThen_ok,H9 m];simp[B]
  ·cases h4
 ·cases h4
def Sn {t:Operand}{ix:Nat}(a:o.op= .extract t ix) (n:P9 O fr e o.op.operands.toList) (h:Cq fr t ix=some v):BM P O e o w v:=by
 obtain⟨u,d,g⟩:=A8 h;obtain⟨vs,h3,h4⟩:=A8 g;obtain⟨l,h5,h6⟩:=A8 h4;have c:=n t u (by simp[a,Op.operands]) d;obtain⟨h7,rfl⟩:=sub_eq h5;have q:vs[ix]? =some v:=by
  unfold KX at h6;split at h6
  ·rename_i u p;cases h6;have:=congrArg (fun l:List Value=>l[0]?) p
   simpa[List.getElem?_take]using this
  ·cases h6
 unfold bI at h3;split at h3
 ·cases h3;generalize m:e t=y at c;cases c with
  | tuple hs=>
    rename_i l l';obtain⟨v',i,j⟩:=hs.get q;refine⟨v',?_,j⟩;have:(⟨l'⟩:Array Value)[ix]? =some v':=by simpa using i
    simp[execOp,a,m,Instr.extract,this]
  |J8 hs=>simp[J8]at hs
 ·cases h3
end
end
section
variable {P:Program}{O:Place}{fr:Fr}{e:Operand->Value}{o:Oper}{w:World}{v:Value}
def Tf {v v':Value}{n y:Nat}{a:BoundsCode}(d:J5 O v v') (c:nat? v=some n) (b:n<=y):(Instr.sliceBound v' y a).run P w= .ok n w:=by
 obtain⟨k,rfl⟩:=Tg d c;simp only[Instr.sliceBound,asIntOf,Sem.run_bind,Sem.run_pure,Result.andThen_ok,Sem.run_ite];rw[z1z ⟨by simp,by simpa using b⟩];simp
def fB {x:Option Operand}{u:Option Value}{l:List Operand}(c:P9 O fr e l) (d:∀ y,x=some y->y∈l) (h:evO fr x=some u) :
  (u=none/\x=none)\/∃ v y,u=some v/\x=some y/\J5 O v (e y):=by
 cases x with
 |none=>cases h;exact .inl ⟨rfl,rfl⟩
 | some y=>
   obtain⟨v,a,b⟩:=A8 h;cases b;exact .inr ⟨v,y,rfl,rfl,c y v (d y rfl) a⟩
def Lh {lo hi:Option Operand}{p n:Option Value}{l:List Operand}(m:P9 O fr e l) (i:∀ y,lo=some y->y∈l) (g:∀ y,hi=some y->y∈l)
  (q:evO fr lo=some p) (r:evO fr hi=some n) {dl cap f a b:Nat}{isSlice:Bool} (h:au dl cap p n=some (a,b)) (u:cap<=f) :
  (Instr.sliceBounds isSlice dl f (lo.map e) (hi.map e) none).run P w= .ok (a,b,f) w/\a<=b/\b<=cap:=by
 obtain⟨B,j,s⟩:=A8 h;obtain⟨h5,h6⟩:=J4 s;obtain⟨la,h7,h8⟩:=A8 h6;obtain⟨h9,h10⟩:=J4 h8;cases h10;have c:=Cj h5;have d:=Cj h9;refine⟨?_,d,c⟩;unfold Instr.sliceBounds;simp only[Sem.run_bind,Sem.run_pure,Result.andThen_ok];rcases fB m g r with⟨rfl,rfl⟩|⟨D,F,rfl,rfl,A⟩
 rotate_left
 simp only[TL,Tf A j (W5 c u),Result.andThen_ok,Sem.run_bind]
 rotate_left
 cases j;simp only[Th,Sem.run_pure,Result.andThen_ok]
 all_goals
  rcases fB m i q with⟨rfl,rfl⟩|⟨C,E,rfl,rfl,z⟩
  ·cases h7;simp
  ·simp only[TL,Tf z h7 d,Result.andThen_ok,Sem.run_bind,Sem.run_pure]
def Kl (s:ByteArray) (a b:Nat) (h:b<=s.data.toList.length):s.extract a b=⟨((s.data.toList.drop a).take (b-a)).toArray⟩:=by
 apply ByteArray.ext;rw[ByteArray.data_extract];apply Ti.1;rw[AC1,AC2]
def XR {t:TypeId}{x:Operand}{lo hi S:Option Operand}(A:o.op= .slice t x lo hi S) (J:P9 O fr e o.op.operands.toList) (h:Ge P fr t x lo hi S=some v):BM P O e o w v:=by
 obtain⟨V,k0⟩:=J4 h;clear h;cases S with
 |some y=>cases V
 |none=>
 clear V;obtain⟨u,X,W⟩:=A8 k0;clear k0;obtain⟨lv,h2,k2⟩:=A8 W;clear W;obtain⟨hv,h3,h⟩:=A8 k2;clear k2;have B:=J x u (by simp[A,Op.operands]) X;have r:∀ y,lo=some y->y∈o.op.operands.toList:=by intro y H;subst H;simp[A,Op.operands]
 have p:∀ y,hi=some y->y∈o.op.operands.toList:=by intro y H;subst H;simp[A,Op.operands]
 generalize L:e x=y at B;unfold VL at h;split at h
 ·rename_i s;split at h
  ·rename_i G;obtain⟨⟨a,b⟩,D,z⟩:=A8 h;clear h;obtain⟨l,h5,k5⟩:=A8 (show ob (sub s.data.toList a (b-a)) _=some v from z);cases k5;obtain⟨I,rfl⟩:=sub_eq h5;obtain⟨F,j,i⟩:=Lh (P:=P) (w:=w) (isSlice:=false) J r p h2 h3 D nL;cases B with
   | J8 hs=>
     refine⟨_,?_,.J8 rfl⟩;have R:s.size=s.data.toList.length:=Array.length_toList.symm
     simp only[execOp,A,L,Instr.sliceAt,Sem.run_bind,H9 G,Result.andThen_ok,Instr.slice,Th,fC,JM,HZ,R,F,Sem.run_pure,
      Kl s a b i]
  ·cases h
 ·rename_i Z len cap;split at h
  ·rename_i el G;obtain⟨⟨a,b⟩,D,z⟩:=A8 h;clear h;obtain⟨n,h5,h⟩:=A8 (show ob (size? P el) _=some v from z);clear z;have N:=Bh h5
   have go:∀ (f:Option Addr) (C:Nat),y= .slice f len C->cap<=C ->
     (execOp e o).run P w= .ok (.value (.slice (if C=a then f else f.map (·.add (a*n))) (b-a) (C-a))) w/\a<=b/\b<=cap:=by
    intro f C H Y;obtain⟨F,j,i⟩:=Lh (P:=P) (w:=w) (isSlice:=true) J r p h2 h3 D Y;refine⟨?_,j,i⟩;simp only[execOp,A,L,H,Instr.sliceAt,Sem.run_bind,H9 G,Result.andThen_ok,Instr.slice,Th,F,N,Sem.run_pure]
   unfold sliceAt at h;split at h
   ·rename_i U off;cases h;cases B with
    | slice hq=>
      obtain⟨g,g2,g3⟩:=go _ _ rfl nL;refine⟨_,g,?_⟩;by_cases d:cap=a
      ·rw[z1z d];have:b-a=0:=om;rw[this,show cap-a=0 from by omega];exact .Bq hq
      ·rw[z0z d];simp only[TL,addr_add,Px];exact .slice hq
    | Bq hq=>
      obtain⟨g,g2,g3⟩:=go _ _ rfl nL;refine⟨_,g,?_⟩;have E:a=0:=om;subst E;rw[z1z rfl,show b-0=0 from by omega];exact .Bq hq
    |J8 hs=>simp[J8]at hs
   ·rename_i U off s0;obtain⟨I,K⟩:=J4 h;cases K;have Q:=Ac I;subst Q;cases B with
    | grow hq hkk hm=>
      rename_i k' q;obtain⟨g,g2,g3⟩:=go _ _ rfl hkk;refine⟨_,g,?_⟩;by_cases d:k'=a
      ·rw[z1z d];have:b-a=0:=om;rw[this,show cap-a=0 from by omega,show k'-a=0 from by omega];exact .Bq hq
      ·rw[z0z d];simp only[TL,addr_add,Px];refine .grow hq om ?_;have:a*s0+(k'-a)*s0=k'*s0:=by rw[<- Sd];congr 1;omega
       omega
    | Bq hq=>
      obtain⟨g,g2,g3⟩:=go _ _ rfl nL;refine⟨_,g,?_⟩;have E:a=0:=om;subst E;rw[z1z rfl,show b-0=0 from by omega];exact .Bq hq
    |J8 hs=>simp[J8]at hs
   ·obtain⟨I,K⟩:=J4 h;cases K;have M:=Ac I;cases B with
    | J8 hs=>
      obtain⟨g,g2,g3⟩:=go _ _ rfl nL;refine⟨_,g,?_⟩;have E:a=0:=om;subst E;rw[z1z M,show b-0=0 from by omega,show cap-0=0 from by omega];exact .J8 rfl
  ·cases h
 ·rename_i U off;split at h
  ·rename_i m el G;obtain⟨⟨a,b⟩,D,z⟩:=A8 h;clear h;obtain⟨n,h5,h⟩:=A8 (show ob (size? P el) _=some v from z);clear z;have N:=Bh h5;cases h;obtain⟨F,j,i⟩:=Lh (P:=P) (w:=w) (isSlice:=false) J r p h2 h3 D nL;cases B with
   | ptr hq=>
     rename_i q;refine⟨.slice (some (if m=a then⟨q.c,q.o+off,none⟩else(⟨q.c,q.o+off,none⟩:Addr).add (a*n))) (b-a) (m-a),?_,?_⟩
     ·simp only[execOp,A,L,Instr.sliceAt,Sem.run_bind,H9 G,Result.andThen_ok,Instr.sureAddr,Th,F,N,Sem.run_pure]
     ·by_cases d:m=a
      ·rw[z1z d,show b-a=0 from by omega,show m-a=0 from by omega];exact .Bq hq
      ·rw[z0z d];simp only[addr_add,Px];exact .slice hq
   |J8 hs=>simp[J8]at hs
  ·cases h
 ·cases h
def VM {l:List Value}(h:KX l=some v):l=[v]:=by
 unfold KX at h;split at h
 ·cases h;rfl
 ·cases h
def FA {c:Call}(b:o.op= .call c) (a:P9 O fr e o.op.operands.toList):P9 O fr e c.args.toList :=
 a.sub fun y d=>by
  simp only[b,Op.operands,Call.operands,AA2,An];exact .inr d
def DA {c:Call}{t:TypeId}(h:Sb c=some t):c.argTypes[0]? =some t:=by
 unfold Sb at h;split at h
 ·rename_i u r a;cases h;have:=congrArg (fun l:List TypeId=>l[0]?) a
  simpa using this
 ·cases h
def JP (c:Call) (e:Operand->Value):c.args.map e=⟨c.args.toList.map e⟩:=by rw[<- Ti];simp
def jR {c:Call}(a:o.op= .call c) (i:c.callee= .builtin .len) (q:P9 O fr e o.op.operands.toList) (h:QW P fr c=some v):BM P O e o w v:=by
 obtain⟨vs,m,l⟩:=A8 h;clear h;obtain⟨x,h2,k2⟩:=A8 l;clear l;obtain⟨t,h3,k3⟩:=A8 k2;clear k2;obtain⟨n,h4,k4⟩:=A8 k3;clear k3;cases k4;have b:=(FA a q).evs m;rw[VM h2]at b;generalize p:c.args.toList.map e=L at b;cases b with
 |cons j d=>
 cases d;rename_i r;refine⟨.int .i64 n,?_,.J8 rfl⟩;have g:c.args.map e=#[r]:=by rw[JP,p]
 unfold oT at h4;split at h4
 ·rename_i f;split at h4
  ·cases h4;cases j;simp only[execOp,a,resolve,i,Sem.run_bind,Sem.run_pure,Result.andThen_ok,invoke,builtin,Builtin.len_,DA h3,g];simp[H9 f,goInt]
  ·cases h4
 ·rename_i el f;split at h4
  ·cases h4
   cases j<;>first
    | (simp only[execOp,a,resolve,i,Sem.run_bind,Sem.run_pure,Result.andThen_ok,invoke,builtin,Builtin.len_,DA h3,g]
       simp[H9 f,goInt];done)
    | (rename_i d;simp[J8]at d;done)
  ·cases h4
 ·cases h4
def oU (a b:Int) (x y:Int):bi (ilt a b) x y=if a<b then x else y:=by
 rw[VN];by_cases h:a<b
 ·simp[h]
 ·simp[h]
def AI8 (c:Bool):∀ (l:List Value) (x v:Value) (l':List Value) (x':Value),mm c l x=some v->H8 O l l'->J5 O x x' ->
  ∃ v',(l'.foldlM (if c then Builtin.max2 else Builtin.min2) x').run P w= .ok v' w/\J5 O v v':=by
 intro l;induction l with
 |nil=>intro x v l' x' h f g;cases h;cases f;exact⟨x',rfl,g⟩
 | cons y l ih=>
   intro x v l' x' h f g;obtain⟨u,d,j⟩:=A8 (show ob (Ig c x y) (mm c l)=some v from h);cases f with
   |cons n f=>
   rename_i p l';unfold Ig at d;split at d
   ·split at d
    ·rename_i k a k' b;cases d;cases g;cases n;obtain⟨v',i,m⟩:=ih _ v l' _ j f (.J8 rfl);refine⟨v',?_,m⟩;rw[List.foldlM_cons,Sem.run_bind];cases c with
     | true=>
       simp only[FU,Builtin.max2,Sem.run_pure,Result.andThen_ok]
       simpa[oU]using i
     | false=>
       simp only[JM,HZ,Builtin.min2,Sem.run_pure,Result.andThen_ok]
       simpa[oU]using i
    ·cases d
   ·cases d
def XS {c:Call}(a:Bool) (f:o.op= .call c) (d:c.callee= .builtin (if a then .max else .min)) (r:P9 O fr e o.op.operands.toList) (h:pMM fr a c=some v):BM P O e o w v:=by
 obtain⟨vs,n,j⟩:=A8 h;clear h;have i:=(FA f r).evs n;generalize q:c.args.toList.map e=L at i;cases i with
 |nil=>cases j
 |cons u s=>
 rename_i x m l l';obtain⟨v',b,p⟩:=AI8 (P:=P) (w:=w) a l x v l' m j s u;refine⟨v',?_,p⟩;have g:c.args.map e=⟨m::l'⟩:=by rw[JP,q]
 cases a with
 | true=>
   simp only[FU]at b d;simp only[execOp,f,resolve,d,Sem.run_bind,Sem.run_pure,Result.andThen_ok,invoke,builtin,Builtin.max_,g,b]
 | false=>
   simp only[JM,HZ]at b d;simp only[execOp,f,resolve,d,Sem.run_bind,Sem.run_pure,Result.andThen_ok,invoke,builtin,Builtin.min_,g,b]
end
section
variable {cs:List Value}{vf:Nat->Value}
section
variable {P:Program}{O:Place}{fr:Fr}{e:Operand->Value}{o:Oper}{w:World}{v:Value}
def iV (off:Nat):∀ (l:List Value) (k:Nat) (arr:Array Value),(l.zipIdx k).foldl (fun cs (x:Value×Nat)=>cs.setIfInBounds (off+x.2) x.1) arr=Fl arr (off+k) l:=by
 intro l;induction l with
 |nil=>intro k arr;rfl
 |cons v l a=>intro k arr;rw[List.zipIdx_cons,TJ,a];rfl
def aQ {cells d r vs vs':List Value}{off:Nat}(h:M5 cells off vs=some r) (g:H8 O cells d) (j:H8 O vs vs')
  (f:∀ c∈cells,N2 c=true) (l:∀ c∈vs,N2 c=true) :
  H8 O r (Fl ⟨d⟩ off vs').toList/\(∀ c∈r,N2 c=true)/\off+vs'.length<=d.length:=by
 obtain⟨m,rfl⟩:=TK _ _ _ _ h;have n:=g.length;have p:=j.length;refine⟨H8.Ut ?_ ?_,?_,om⟩
 ·rw[show(Fl ⟨d⟩ off vs').toList.length=(Fl ⟨d⟩ off vs').size from Pq,JK];simp;omega
 ·intro i v hi;rw[Ps m]at hi;rw[Array.getElem?_toList,LQ _ _ _ _ (by simp;omega)];by_cases b:off<=i/\i<off+vs.length
  ·rw[z1z b]at hi;rw[z1z om];exact j.get hi
  ·rw[z0z b]at hi;rw[z0z om]
   simpa using g.get hi
 ·intro c a;rcases An.1 a with a|a
  ·rcases An.1 a with a|a
   ·exact f c (Wi a)
   ·exact l c a
  ·exact f c (aR a)
def MM {a:Type}{c:Bool}{x:Option a}{b:a}(h:bi c none x=some b):c=false/\x=some b:=by
 cases c with
 |true=>cases h
 |false=>exact⟨rfl,h⟩
def Pt {place place':Nat->Option (Nat×Nat)}(s:∀ i,place' i=place i):∀ (is:List Nat) (vs vs' cells r j8:List Value),H8 O vs vs'->Bl place (is.zip vs) cells=some r ->
  H8 O cells j8->(∀ c∈cells,N2 c=true)->∃ r',Instr.fill place' ⟨j8⟩ (is.zip vs')=some ⟨r'⟩/\H8 O r r'/\∀ c∈r,N2 c=true:=by
 intro is;induction is with
 | nil=>
   intro vs vs' cells r j8 _ h b a;cases h;exact⟨j8,rfl,b,a⟩
 | cons i is ih=>
   intro vs vs' cells r j8 u h b a;cases u with
   |nil=>cases h;exact⟨j8,rfl,b,a⟩
   | cons hx hs=>
     rename_i x f l l';obtain⟨⟨off,n⟩,g,j⟩:=A8 (show ob (place i) (fun q=>pr q fun off n=>bi (El x) none (bb ((M6 x).length.beq n) (ob (M5 cells off (M6 x)) (Bl place (is.zip l)))))=some r from h);obtain⟨ht,h4⟩:=MM (show bi (El x) none _=some r from j);obtain⟨h5,h6⟩:=J4 h4;obtain⟨AG3,h7,h8⟩:=A8 h6;have p:=Ac h5;obtain⟨hcx,hcc⟩:=hx.cells ht;obtain⟨k1,k2,k3⟩:=aQ h7 b hcx a hcc;obtain⟨r',k4,k5,k6⟩:=ih l l' AG3 r _ hs h8 k1 k2;refine⟨r',?_,k5,k6⟩;have m:=hcx.length;rw[List.zip_cons_cons];unfold Instr.fill;rw[s i,g];simp only;have d:f.cells.size=n:=by rw[<- Pq,<- m,p]
     rw[z0z (by simp[d];rw[Pq]at k3;omega)];rw[<- k4];congr 1;rw[<- nD,Array.toList_zipIdx];have:=iV off f.cells.toList 0 ⟨j8⟩;rw[Be]at this;exact this
def Jv (parts:Array (Nat×Operand)) (e:Operand->Value):(parts.map fun(x:Nat×Operand)=>(x.1,e x.2)).toList=(parts.toList.map (·.1)).zip ((parts.toList.map (·.2)).map e):=by
 rw[nE];induction parts.toList with
 |nil=>rfl
 |cons x l a=>simp[a]
def aS:∀ (fs:List Field) (ps:List (Nat×Nat)),Uu P fs=some ps->∀ w,(fs.mapM fun f=>do pure (f.offset,<- sizeOf f.type):Sem (List (Nat×Nat))).run P w= .ok ps w:=by
 intro fs;induction fs with
 |nil=>intro ps h w;cases h;rfl
 | cons f fs ih=>
   intro ps h w;obtain⟨n,a,b⟩:=A8 (show ob (size? P f.type) (fun n=>ob (Uu P fs) fun r=>some ((f.offset,n)::r))=some ps from h);obtain⟨r,h3,h4⟩:=A8 b;cases h4;rw[nG];simp only[Sem.run_bind,Bh a,Result.andThen_ok,Sem.run_pure,ih r h3]
def Dm {t:TypeId}{z:Value}(h:Ad P t=some z):(M6 z=z.cells.toList)/\H8 O (M6 z) z.cells.toList/\∀ c∈M6 z,N2 c=true:=by
 obtain⟨i,d,b⟩:=A8 h;obtain⟨z',h3,h4⟩:=A8 b;obtain⟨h5,h6⟩:=J4 h4;cases h6;cases z with
 |agg cs=>obtain⟨l⟩:=cs;exact⟨rfl,H8.MN h5,FK h5⟩
 |tuple vs=>cases h5
 |_=>exact⟨rfl,.cons (.J8 h5) .nil,by intro c a;simp[M6]at a;subst a;exact JL h5⟩
def Wj {t:TypeId}{parts:Array (Nat×Operand)}(d:o.op= .build t parts) (B:P9 O fr e o.op.operands.toList) (h:Ep P fr t parts=some v):BM P O e o w v:=by
 obtain⟨z,u,a⟩:=A8 h;clear h;obtain⟨vs,h2,h3⟩:=A8 a;clear a;have A:=(B.sub (k:=parts.toList.map (·.2)) fun y C=>by simpa[d,Op.operands]using C).evs h2;obtain⟨hz,_,_⟩:=EN (O:=O) u w;obtain⟨zc1,zc2,zc3⟩:=Dm (O:=O) u;unfold Bm at h3;split at h3
 ·rename_i fs j;obtain⟨r,b,c⟩:=A8 h3;obtain⟨l,h6,h7⟩:=A8 c;cases h7;have g:(fs.mapM fun f=>do pure (f.offset,<- sizeOf f.type):Sem (Array (Nat×Nat))).run P w= .ok r.toArray w:=by
   rw[AA1,Sem.run_map,aS _ _ b];rfl
  obtain⟨s,a,p,q⟩:=Pt (place:=fun i=>r[i]?) (place':=fun i=>r.toArray[i]?) (fun i=>by simp) _ vs _ _ l _ A h6 zc2 zc3;refine⟨.agg ⟨s⟩,?_,.agg q p⟩;simp only[execOp,d,Instr.build,Sem.run_bind,hz,Result.andThen_ok,H9 j,g,Jv];rw[show z.cells=⟨z.cells.toList⟩from rfl,a];rfl
 ·rename_i m el j;obtain⟨n,b,c⟩:=A8 h3;obtain⟨l,h6,h7⟩:=A8 c;cases h7;obtain⟨s,a,p,q⟩:=Pt (place:=fun i=>some (i*n,n)) (place':=fun i=>some (i*n,n)) (fun i=>rfl) _ vs _ _ l _ A h6 zc2 zc3;refine⟨.agg ⟨s⟩,?_,.agg q p⟩;simp only[execOp,d,Instr.build,Sem.run_bind,hz,Result.andThen_ok,H9 j,Bh b,Jv];rw[show z.cells=⟨z.cells.toList⟩from rfl,a];rfl
 ·cases h3
def Iu (P:Program) (O:Place) (e:Operand->Value) (o:Oper) (w:World) (cs:List Value) (v:Nat->Value) (t:Option TypeId:=none):Prop :=
 ∃ (w':World) (v':Value) (arr:Array Value) (el:TypeId) (lo hi:Nat) (vs more:List Value),(execOp e o).run P w= .ok (.value v') w'/\w'.heap.size=w.heap.size+1/\w'.heap[w.heap.size]? =some (.cells arr el (lo,hi)) /\
  (∀ c,c<w.heap.size->w'.heap[c]? =w.heap[c]?)/\Outside w w'/\(arr.size<=lo\/hi<=lo)/\(∀ c∈cs,N2 c=true)/\arr.toList=vs++more/\H8 O cs vs/\(∀ x,t=some x->x=el) /\
  ∀ (O':Place) (n:Nat),O' n=some ⟨w.heap.size,0,arr.size⟩->J5 O' (v n) v'
def Iu.row {cs:List Value}{t:Option TypeId}{vf:Nat->Value}{v':Value}{arr:Array Value}{el:TypeId} (b:(execOp e o).run P w= .ok (.value v') { w with heap:=w.heap.push (.cells arr el) })
  (a:∀ c∈cs,N2 c=true) (d:H8 O cs arr.toList) (f:∀ (O':Place) (n:Nat),O' n=some ⟨w.heap.size,0,arr.size⟩->J5 O' (vf n) v') (ht:∀ x,t=some x->x=el:=by exact fun _ h=>by cases h):Iu P O e o w cs vf t :=
 ⟨_,v',arr,el,0,0,arr.toList,[],b,by simp,by simp,fun c a=>by simp[Array.getElem?_push];intro h;omega,⟨rfl,rfl,rfl⟩,.inr nL,a,by simp,d,ht,f⟩
def NX {c m:Nat}(a:Place) (n:Nat) (h:a n=some ⟨c,0,m⟩):J5 a (ptrTo n) (.pointer (some ⟨c,0,none⟩)):= .ptr (off:=0) h
def Wk {t:TypeId}(c:o.op= .alloc t) (h:AR P t=some (cs,vf)):Iu P O e o w cs vf (some t):=by
 obtain⟨z,a,b⟩:=A8 h;cases b;obtain⟨hz,_,_⟩:=EN (O:=O) a w;obtain⟨zc1,zc2,zc3⟩:=Dm (O:=O) a;refine Iu.row (v':= .pointer (some ⟨w.heap.size,0,none⟩)) (arr:=z.cells) (el:=t) ?_ zc3 zc2 NX (fun _ h=>by cases h;rfl);simp only[execOp,c,Instr.alloc,Sem.run_bind,hz,Result.andThen_ok,newVar,newRow,run_newObj,Sem.run_pure]
def iW {t:TypeId}{x:Operand}(a:o.op= .box t x) (d:P9 O fr e o.op.operands.toList) (h:aU fr x=some (cs,vf)):Iu P O e o w cs vf:=by
 obtain⟨u,b,c⟩:=A8 h;obtain⟨ht,h3⟩:=MM c;cases h3;obtain⟨k1,k2⟩:=(d x u (by simp[a,Op.operands]) b).cells ht;refine Iu.row (v':= .pointer (some ⟨w.heap.size,0,none⟩)) (arr:=(e x).cells) (el:=t) ?_ k2 k1 NX;simp only[execOp,a,Instr.box,newVar,newRow,Sem.run_bind,run_newObj,Result.andThen_ok,Sem.run_pure]
def MO {a:Type}(l:List a) (n:Nat):(Ab.rep l n).length=n*l.length:=by
 induction n with
 |zero=>show([]:List a).length=0*l.length;simp
 |succ n b=>show(l++Ab.rep l n).length=_;rw[W4,b,Oy];omega
def PM {a:Type}(l:List a):∀ (n i:Nat),i<n*l.length->(Ab.rep l n)[i]? =l[i % l.length]? :=by
 intro n;induction n with
 |zero=>intro i h;omega
 | succ n ih=>
   intro i h;show(l++Ab.rep l n)[i]? =_;by_cases hi:i<l.length
   ·rw[List.getElem?_append_left hi,Pu hi]
   ·rw[List.getElem?_append_right om,ih _ (by rw[Oy]at h;omega)];congr 1;rw[<- Nat.mod_eq_sub_mod om]
def NY {z a:List Value}(c:H8 O z a) (n k:Nat) (h:k=n*z.length):H8 O (Ab.rep z n) ((Array.range k).map fun i=>(⟨a⟩:Array Value)[i % (⟨a⟩:Array Value).size]!).toList:=by
 have j:=c.length;refine H8.Ut (by rw[MO];simp[h]) ?_;intro i v hi;have b:i<n*z.length:=by rw[<- MO];exact(List.getElem?_eq_some_iff.1 hi).1
 rw[PM z n i b]at hi;obtain⟨v',d,f⟩:=c.get hi;refine⟨v',?_,f⟩;simp only[nE,Array.toList_range,List.getElem?_map];rw[List.getElem?_range om];simp only[TL,Option.some.injEq,List.size_toArray];have g:(⟨a⟩:Array Value)[i % a.length]? =some v':=by rw[<- j];simpa using d
 rw[getElem!_def,g]
def NZ {t:TypeId}{len:Nat}{parts:Array (Nat×Operand)}{cs:List Value}{vf:Nat->Value}(p:o.op= .buildSlice t len parts) (C:P9 O fr e o.op.operands.toList)
  (h:GW P fr t len parts=some (cs,vf)):Iu P O e o w cs vf:=by
 obtain⟨el,u,a⟩:=A8 h;obtain⟨m,h2,b⟩:=A8 a;obtain⟨z,h3,d⟩:=A8 b;obtain⟨vs,h4,k4⟩:=A8 d;obtain⟨h5,k5⟩:=J4 k4;obtain⟨h6,k6⟩:=J4 k5;obtain⟨l,h7,k7⟩:=A8 k6;clear h a b d k4 k5 k6;cases k7;have E:=Ac h5;have D:=Cj h6;have G:=(C.sub (k:=parts.toList.map (·.2)) fun y H=>by simpa[p,Op.operands]using H).evs h4;obtain⟨hz,_,_⟩:=EN (O:=O) h3 w;obtain⟨zc1,zc2,zc3⟩:=Dm (O:=O) h3;have s:∀ c∈Ab.rep (M6 z) len,N2 c=true:=by
  intro c A;obtain⟨i,hi⟩:=List.getElem?_of_mem A;have j:i<len*(M6 z).length:=by rw[<- MO];exact(List.getElem?_eq_some_iff.1 hi).1
  rw[PM _ _ _ j]at hi;exact zc3 c (y6 hi)
 have q:=NY zc2 len (len*m) (by rw[E]);obtain⟨I,a,b,d⟩:=Pt (place:=fun i=>some (i*m,m)) (place':=fun i=>some (i*m,m)) (fun i=>rfl) _ vs _ _ _ _ G h7 q s;refine Iu.row (v':= .slice (some ⟨w.heap.size,0,none⟩) len len) (arr:=⟨I⟩) (el:=el) ?_ d b (fun J n F=> .slice (off:=0) F);have r:=Gv u;have B:(⟨z.cells.toList⟩:Array Value)=z.cells:=rfl;by_cases f:len*m=0
 ·simp only[execOp,p,Instr.buildSlice,Sem.run_bind,H9 r,Result.andThen_ok,Bh h2,Sem.run_ite,f];rw[z0z om];simp only[FU,Sem.run_bind,Sem.run_pure,Result.andThen_ok];rw[f]at a;simp only[Jv];have g:((Array.range 0).map fun i=>(#[]:Array Value)[i % (#[]:Array Value).size]!)=⟨((Array.range 0).map fun i=>(⟨z.cells.toList⟩:Array Value)[i % (⟨z.cells.toList⟩:Array Value).size]!).toList⟩:=by
   simp
  rw[g,a];simp only[newRow,Sem.run_bind,run_newObj,Result.andThen_ok,Sem.run_pure]
 ·simp only[execOp,p,Instr.buildSlice,Sem.run_bind,H9 r,Result.andThen_ok,Bh h2,Sem.run_ite,f];rw[z0z om];simp only[HZ,Sem.run_bind,Sem.run_pure,Result.andThen_ok,hz];simp only[Jv];have g:((Array.range (len*m)).map fun i=>z.cells[i % z.cells.size]!)=⟨((Array.range (len*m)).map fun i=>(⟨z.cells.toList⟩:Array Value)[i % (⟨z.cells.toList⟩:Array Value).size]!).toList⟩:=rfl;rw[g,a];simp only[newRow,Sem.run_bind,run_newObj,Result.andThen_ok,Sem.run_pure]
def Gw (l:List UInt8):Gx (O9 l)=true:=by
 induction l with
 |nil=>rfl
 |cons b l a=>show bi true (Gx (O9 l)) false=true;exact a
def Wl {s d:TypeId}{x:Operand}{cs:List Value}{vf:Nat->Value}(z:o.op= .convert s d x) (E:P9 O fr e o.op.operands.toList)
  (h:GX P fr s d x=some (cs,vf)):Iu P O e o w cs vf:=by
 obtain⟨i,h⟩:=J4 h;have G:∃ ds,P.underlying s=some ds:=Option.isSome_iff_exists.1 i;obtain⟨u,h1,k1⟩:=A8 h;obtain⟨l,h2,k2⟩:=A8 k1;obtain⟨el,h3,k3⟩:=A8 k2;obtain⟨h4,k4⟩:=J4 k3;clear h k1 k2 k3;cases k4;have A:=E x u (by simp[z,Op.operands]) h1;unfold Jw at h2;split at h2
 ·rename_i b;cases h2;generalize B:e x=y at A;cases A with
  | J8 _=>
    obtain⟨ds,g⟩:=G;have m:=Gv h3;have p:P.underlying el=some (.int .u8):=by
     unfold isByte at h4;split at h4
     ·assumption
     ·cases h4
    have j:b.size=b.data.toList.length:=Array.length_toList.symm;have a:b.size<=(Question.appendCap b.size 0 el).cut (w.tape w.drawn (.appendCap b.size 0 el)):=Q8 _ _;generalize C:(Question.appendCap b.size 0 el).cut (w.tape w.drawn (.appendCap b.size 0 el))=K at a;have q:((b.data.map fun b:UInt8=>Value.int .u8 b.toNat)++Array.replicate (K-b.size) (Value.int .u8 0)).toList=O9 b.data.toList++List.replicate (K-b.size) (.int .u8 0):=by
     rw[AA2,nE,Array.toList_replicate];rfl
    have f:((b.data.map fun b:UInt8=>Value.int .u8 b.toNat)++Array.replicate (K-b.size) (Value.int .u8 0)).size=K:=by
     rw[Wm,Array.size_map,eH];show b.size+_=K;omega
    generalize r:(b.data.map fun b:UInt8=>Value.int .u8 b.toNat)++Array.replicate (K-b.size) (Value.int .u8 0)=arr at q f
    refine⟨(({ w with drawn:=w.drawn+1,heap:=w.heap.push (.cells arr el) }:World).freeze ⟨w.heap.size,arr.size,none⟩ 1),.slice (some ⟨w.heap.size,0,none⟩) b.size K,arr,el,arr.size,arr.size+1,
     O9 b.data.toList,List.replicate (K-b.size) (.int .u8 0),?_,?_,?_,?_,⟨rfl,rfl,rfl⟩,.inl nL,FK (Gw _),q,H8.MN (Gw _),(fun _ h=>by cases h),?_⟩
    ·have D:(Question.appendCap b.size 0 el).forced=false:=rfl;simp only[execOp,z,B,convert,Sem.run_bind,H9 g,Result.andThen_ok,H9 m]
     cases ds<;>simp only[Sem.run_bind,H9 p,Result.andThen_ok,Conv.stringToBytes,run_choose,D,JM,HZ,C,newRow,run_newObj,Sem.run_pure,r,markStringish,run_shape]<;>
      simp[World.shape?,r]
    ·simp[World.freeze]
    ·simp only[World.freeze];rw[z0z om];show((w.heap.push (.cells arr el)).modify w.heap.size _)[w.heap.size]? =_;rw[Array.getElem?_modify];simp
    ·intro c I;simp[World.freeze,Array.getElem?_modify,Array.getElem?_push];rw[z0z om,z0z om]
    ·intro H n F;rw[j];exact .grow F om (by show 0+0+K*1<=arr.size;omega)
 ·cases h2
def wrap_small {n:Nat}(h:n<9223372036854775808):IntKind.i64.wrap (n:Int)=n:=by
 rw[wrap_i64];split<;>omega
def aV {t:TypeId}{l c:Operand}{cs:List Value}{vf:Nat->Value}(p:o.op= .makeSlice t l c) (C:P9 O fr e o.op.operands.toList)
  (h:Pv P fr t l c=some (cs,vf)):Iu P O e o w cs vf:=by
 obtain⟨el,I,D⟩:=A8 h;obtain⟨i,h2,k2⟩:=A8 D;obtain⟨z,h3,k3⟩:=A8 k2;obtain⟨n,h4,k4⟩:=A8 k3;obtain⟨m,h5,k5⟩:=A8 k4;obtain⟨h6,k6⟩:=J4 k5;obtain⟨h7,k7⟩:=J4 k6;obtain⟨h8,k8⟩:=J4 k7;clear h D k2 k3 k4 k5 k6 k7;cases k8;have J:=Cj h6;have a:=Cj h7;have r:=Ac h8;unfold room at a;have F:m<=4294967296:=W5 (AA3 m om) a;have d:m*i.bytes<=4294967296:=W5 (Wn m om) a;obtain⟨kl,hl⟩:=PN C (x:=l) (by simp[p,Op.operands]) h4;obtain⟨kc,f⟩:=PN C (x:=c) (by simp[p,Op.operands]) h5;obtain⟨hz,_,_⟩:=EN (O:=O) h3 w;obtain⟨zc1,zc2,zc3⟩:=Dm (O:=O) h3;have H:∀ c∈Ab.rep (M6 z) m,N2 c=true:=by
  intro c f;obtain⟨i,hi⟩:=List.getElem?_of_mem f;have g:i<m*(M6 z).length:=by rw[<- MO];exact(List.getElem?_eq_some_iff.1 hi).1
  rw[PM _ _ _ g]at hi;exact zc3 c (y6 hi)
 have s:=NY zc2 m (m*i.size) (by rw[r]);have E:P.cellsOf el=i.size:=by simp[Program.cellsOf,h2]
 have q:(sizeOf el).run P w= .ok i.size w:=by simp[sizeOf,typeInfo,h2]
 have L:=Gv I;have y:IntKind.i64.wrap ((n:Nat):Int)=n:=wrap_small om;have A:IntKind.i64.wrap ((m:Nat):Int)=m:=wrap_small om;have u:(2:Int) ^ 48=281474976710656:=by decide
 refine Iu.row (v':= .slice (some ⟨w.heap.size,0,none⟩) n m) (arr:=⟨((Array.range (m*i.size)).map fun j=>(⟨z.cells.toList⟩:Array Value)[j % (⟨z.cells.toList⟩:Array Value).size]!).toList⟩) (el:=el) ?_ H s (fun M n K=> .slice (off:=0) K);have G:(i.bytes:Int)*(m:Int)<=4294967296:=by
  have B:=Int.ofNat_le.2 d;rw[Int.natCast_mul]at B;rw[Int.mul_comm];exact B
 have c2:¬ ((decide (IntKind.i64.wrap (m:Int)<0)||decide ((i.bytes:Int)*IntKind.i64.wrap (m:Int)>2 ^ 48)||decide (IntKind.i64.wrap (n:Int)<0)||decide (IntKind.i64.wrap (n:Int)>IntKind.i64.wrap (m:Int)))=true):=by
  rw[y,A,u,II,II,II,Ej,Ej,Ej,Ej];omega
 simp only[execOp,p,hl,f,Instr.makeSlice,Sem.run_bind,H9 L,Result.andThen_ok,asInt,asIntOf,Sem.run_pure,eI h2,JN];rw[z0z c2];rw[y,A];simp only[Sem.run_bind,run_askRoom,Result.andThen_ok,q,Wo,Sem.run_ite];by_cases b:m*i.size=0
 ·rw[z1z b];simp only[Sem.run_bind,Sem.run_pure,Result.andThen_ok,newRow,run_newObj];congr 4;rw[b];simp
 ·rw[z0z b];simp only[Sem.run_bind,Sem.run_pure,Result.andThen_ok,newRow,run_newObj,hz]
end
end
section
variable {off n b:Nat}{cs l cells:List Value}{q:CJ}{A9:Env}{Z:St}{x:Value}
section
variable {P:Program}{O:Place}{fr:Fr}{e:Operand->Value}{o:Oper}{w:World}{v:Value}
def Seg (O:Place) (w:World) (q:CJ) (off:Nat) (cs:List Value):Prop:=∃ (arr:Array Value) (e:TypeId) (f:Nat×Nat),w.heap[q.c]? =some (.cells arr e f)/\q.o+off+cs.length<=arr.size/\(∀ v∈cs,N2 v=true) /\
 ∀ (i:Nat) (v:Value),cs[i]? =some v->∃ v',arr[q.o+off+i]? =some v'/\J5 O v v'
def Row.seg (h:Row A9 O w q cells) (r:sub cells off n=some cs):Seg O w q off cs/\cs.length=n:=by
 obtain⟨arr,el,lo,hi,f,s,u,y,g,j⟩:=h;obtain⟨h6,rfl⟩:=sub_eq r;refine⟨⟨arr,el,(lo,hi),f,by simp;omega,fun v a=>g v (aR (Wi a)),fun i v a=>?_⟩,by simp;omega⟩;have c:i<n:=by
  rcases AH i n with d|d
  ·exact d
  ·rw[List.getElem?_eq_none (by simp;omega)]at a;cases a
 rw[List.getElem?_take_of_lt c,List.getElem?_drop]at a;obtain⟨v',m,p⟩:=j _ _ a;exact⟨v',by rw[show q.o+off+i=q.o+(off+i)from by omega];exact m,p⟩
def Seg.read (h:Seg O w q off cs):∃ vs:List Value,(loadCells ⟨q.c,q.o+off,none⟩ cs.length).run P w= .ok vs.toArray w/\H8 O cs vs/\∀ v∈cs,N2 v=true:=by
 obtain⟨arr,e,f,g,s,j,m⟩:=h;refine⟨_,run_read g cs.length om,?_,j⟩;apply H8.Ut
 ·simp;omega
 ·intro i v d;have a:i<cs.length:=(List.getElem?_eq_some_iff.1 d).1;rw[List.getElem?_take_of_lt a,List.getElem?_drop];obtain⟨v',p,r⟩:=m _ _ d;exact⟨v',by rw[Array.getElem?_toList];exact p,r⟩
def Seg.one (h:Seg O w q off cs) (g:KX cs=some v):
  ∃ v',(load ⟨q.c,q.o+off,none⟩).run P w= .ok v' w/\J5 O v v':=by
 obtain⟨arr,el,f,a,i,j,d⟩:=h;obtain⟨v',h7,h8⟩:=d 0 v (by rw[VM g];rfl);refine⟨v',?_,h8⟩;rw[run_load,IT a,show q.o+off=q.o+off+0 from rfl,h7]
def Row.one (h:Row A9 O w q cells) (a:sub cells off 1=some cs) (d:KX cs=some v):
  ∃ v',(load ⟨q.c,q.o+off,none⟩).run P w= .ok v' w/\J5 O v v':=(h.seg a).1.one d
def W2 (h:Z.read b off n=some cs):∃ B,Z.EI b=some B/\sub B.cells off n=some cs:=A8 h
def Rel.seg (d:Rel A9 O Z w)(f:O b=some q) (h:Z.read b off n=some cs):Seg O w q off cs:=by
 obtain⟨B,a,c⟩:=W2 h;exact((d.row b q B f a).seg c).1
def Js (h:Z.read b off n=some cs):cs.length=n:=by
 obtain⟨B,c,a⟩:=W2 h;obtain⟨h3,h4⟩:=sub_eq a;rw[h4];simp;omega
def bZ {Z:St}{t:TypeId}{x:Operand}{r:BA}(f:o.op= .load t x) (z:P9 O fr e o.op.operands.toList) (h:Hs P fr Z t x=some (v,r))
  (p:∀ q cs,O r.b=some q->Z.read r.b r.off r.n=some cs->Seg O w q r.off cs):BM P O e o w v:=by
 obtain⟨u,s,a⟩:=A8 h;obtain⟨⟨b',off⟩,h2,k2⟩:=A8 a;obtain⟨m,hm,k2⟩:=A8 (show ob (span? P t) _=some (v,r)from k2);obtain⟨v0,h3,k3⟩:=A8 (show ob (fX P Z t b' off) _=some (v,r)from k2);clear h a k2;cases k3;obtain⟨q,hq,hx⟩:=Lk (z x u (by simp[f,Op.operands]) s) h2;obtain⟨g,h4,h5⟩:=A8 h3;obtain⟨g',hg',hm⟩:=A8 hm;rw[h4]at hg';cases hg';have j:=Vv h4 w;cases g with
 | true=>
   obtain⟨n,i,y⟩:=A8 (show ob (size? P t) _=some v from h5);obtain⟨cs,c,d⟩:=A8 y;cases d;rw[show size? P t=some m from hm]at i;cases i;obtain⟨vs,a,k2,k3⟩:=(p q cs hq c).read (P:=P);rw[Js c]at a;refine⟨.agg vs.toArray,?_,.agg k3 k2⟩;simp only[execOp,f,hx,Instr.loadAt,Instr.sureAddr,Sem.run_bind,Sem.run_pure,Result.andThen_ok,loadVar,j,FU,Bh (show size? P t=some m from hm),a]
 | false=>
   cases hm;obtain⟨cs,c,d⟩:=A8 (show ob (Z.read b' off 1) _=some v from h5);obtain⟨v',a,k2⟩:=(p q cs hq c).one (P:=P) d;refine⟨v',?_,k2⟩;simp only[execOp,f,hx,Instr.loadAt,Instr.sureAddr,Sem.run_bind,Sem.run_pure,Result.andThen_ok,loadVar,j,JM,HZ,a]
def Ht {u g:Value}{p:BA}(h:J5 O u g) (f:Nl u=some p):∃ q a k',O p.b=some q/\g= .slice (some a) p.n k'/\(a=⟨q.c,q.o+p.off,none⟩\/p.n=0):=by
 unfold Nl at f;split at f
 ·cases f;cases h with
  |slice d=>exact⟨_,_,_,d,rfl,.inl rfl⟩
  |grow d _ _=>exact⟨_,_,_,d,rfl,.inl rfl⟩
  |Bq d=>exact⟨_,_,_,d,rfl,.inr rfl⟩
  |J8 hs=>simp[J8]at hs
 ·cases f
def dX {P:Program}{w:World}:∀ (l:List Value) (r:List UInt8) (s:ByteArray),BZ l=some r ->
  (forIn l s (fun(c:Value) (s:ByteArray)=>(match c with
    | .int .u8 n=>pure (ForInStep.yield (s.push (UInt8.ofNat n.toNat)))
    | _=>do
      stuck "bytesToString: byte expected"
      pure (ForInStep.yield s):Sem (ForInStep ByteArray)))).run P w= .ok ⟨(s.data.toList++r).toArray⟩ w:=by
 intro l;induction l with
 |nil=>intro r s h;cases h;simp[forIn,List.forIn']
 | cons v l ih=>
   intro r s h;obtain⟨b,a,d⟩:=A8 (show ob (Ow v) (fun b=>ob (BZ l) fun bs=>some (b::bs))=some r from h);obtain⟨bs,h3,h4⟩:=A8 d;cases h4;unfold Ow at a;split at a
   ·cases a;rw[List.forIn_cons];simp only[Sem.run_bind,Sem.run_pure,Result.andThen_ok];rw[ih bs _ h3];simp[ByteArray.push]
   ·cases a
def H8.BZ {l':List Value}{r:List UInt8}(h:H8 O l l') (c:Ab.BZ l=some r):Ab.BZ l'=some r:=by
 induction l generalizing l' r with
 |nil=>cases h;exact c
 | cons v l ih=>
   cases h with
   |cons g f=>
   rename_i v' l';obtain⟨b,a,d⟩:=A8 (show ob (Ow v) (fun b=>ob (Ab.BZ l) fun bs=>some (b::bs))=some r from c);obtain⟨bs,h3,h4⟩:=A8 d;cases h4;show ob (Ow v') (fun b=>ob (Ab.BZ l') fun bs=>some (b::bs))=_;have:v'=v:=by
    unfold Ow at a;split at a
    ·cases g;rfl
    ·cases a
   rw[this,a,ih f h3];rfl
def mG {d:Option TypeDesc}(h:isByte d=true):d=some (.int .u8):=by
 unfold isByte at h;split at h
 ·rfl
 ·cases h
def tW {d:Option TypeDesc}(h:isStr d=true):d=some .string:=by
 unfold isStr at h;split at h
 ·rfl
 ·cases h
def VZ {Z:St}{s d:TypeId}{x:Operand}{r:BA}(j:o.op= .convert s d x) (p:P9 O fr e o.op.operands.toList) (h:DH P fr Z s d x=some (v,r))
  (z:∀ q cs,O r.b=some q->Z.read r.b r.off r.n=some cs->Seg O w q r.off cs):BM P O e o w v:=by
 obtain⟨u,m,g⟩:=A8 h;obtain⟨⟨b',off,n⟩,h2,k2⟩:=A8 g;obtain⟨el,h3,k3⟩:=A8 (show ob (elem? P s) _=some (v,r)from k2);obtain⟨h4,k4⟩:=J4 k3;obtain⟨h5,k5⟩:=J4 k4;obtain⟨l,h6,k6⟩:=A8 k5;obtain⟨r',h7,k7⟩:=A8 k6;clear h g k2 k3 k4 k5 k6;cases k7;obtain⟨q,a,k',hq,hx,c⟩:=Ht (p x u (by simp[j,Op.operands]) m) h2;obtain⟨vs,g,k2,k3⟩:=(z q l hq h6).read (P:=P);rw[Js h6]at g;have i:(loadCells a n).run P w= .ok vs.toArray w:=by
  rcases c with c|c
  ·rw[c];exact g
  ·change n=0 at c;subst c;have:vs=[]:=by
    have f:=k2.length;rw[Js h6]at f;exact aK.1 f.symm
   subst this;rfl
 refine⟨.string ⟨r'.toArray⟩,?_,.J8 rfl⟩;simp only[execOp,j,hx,convert,Sem.run_bind,H9 (Gv h3),H9 (tW h5),Result.andThen_ok,H9 (mG h4),Conv.bytesToString,i,Sem.run_pure];have y:=dX (P:=P) (w:=w) vs r' ByteArray.empty (k2.BZ h7);rw[List.forIn_toArray];refine(congrArg (fun r:Result ByteArray=>(r.andThen fun a w'=>Result.ok (Value.string a) w').andThen fun a w'=>Result.ok (Next.value a) w') y).trans ?_;rfl
def Ap3 (v:Value):Next->Prop
 | .value v'=>v'=v
 | .skip=>v=undef
 |_=>False
def Kb (P:Program) (A9:Env) (O:Place) (e:Operand->Value) (o:Oper) (Z:St) (w:World) (Z':St) (v:Value):Prop :=
 ∃ (w':World) (nx:Next) (v':Value) (O':Place),(execOp e o).run P w= .ok nx w'/\Ap3 v' nx/\Rel A9 O' Z' w'/\AS O Z w O' Z' w'/\J5 O' v v'
def YM {A9:Env}{Z Z':St}{t:TypeId}{x y:Operand}(c:o.op= .store t x y) (f:P9 O fr e o.op.operands.toList) (j:Rel A9 O Z w)
  (h:Gi P fr Z t x y=some (v,Z')):Kb P A9 O e o Z w Z' v:=by
 obtain⟨a,i,g⟩:=A8 h;obtain⟨u,h2,k2⟩:=A8 g;obtain⟨Z1,h3,k3⟩:=A8 k2;clear h g k2;cases k3;obtain⟨⟨b,off⟩,h4,k4⟩:=A8 h3;obtain⟨n,h5,k5⟩:=A8 (show ob (size? P t) _=some Z' from k4);obtain⟨ht,k6⟩:=MM k5;obtain⟨h6,h7⟩:=J4 k6;clear h3 k4 k5 k6;have p:=Ac h6;obtain⟨q,hq,hx⟩:=Lk (f x a (by simp[c,Op.operands]) i) h4;obtain⟨c1,c2⟩:=(f y u (by simp[c,Op.operands]) h2).cells ht;obtain⟨w1,w2,w3⟩:=j.write hq h7 c1 c2;refine⟨_,.skip,undef,O,?_,rfl,w2,w3,.tuple .nil⟩;have m:=c1.length;have d:(e y).cells.size=n:=by rw[<- Pq,<- m,p]
 simp only[execOp,c,hx,Instr.storeAt,Instr.sureAddr,Sem.run_bind,Sem.run_pure,Result.andThen_ok,storeVar,Bh h5,ne_eq];rw[z0z (by simp[d])];rw[w1 P];rfl
def Uz {size:Nat}{A:Value}{new:List Value}(F:Rel A9 O Z w) (z:J5 O x A) (h:AJ Z size x=some (n,new)):
  (Builtin.lenOf A).run P w= .ok n w/\new.length=n*size/\(∀ v∈new,N2 v=true) /\
  ∀ k,k<=n->∃ Aw,(Builtin.firstCells size k A).run P w= .ok (Aw:List Value).toArray w/\H8 O (new.take (k*size)) Aw:=by
 unfold AJ at h;split at h
 ·rename_i H cap;obtain⟨c,d⟩:=J4 h;cases d;have:=Ac c;subst this;cases z with
  | J8 hs=>
    refine⟨rfl,by simp,by simp,fun k i=>?_⟩;have:k=0:=om;subst this;exact⟨[],rfl,by simp;exact .nil⟩
 ·rename_i b off sp H cap;obtain⟨cs,c,d⟩:=A8 h;cases d;obtain⟨q,a,k',hq,hx',f⟩:=Ht (p:=⟨b,off,n⟩) z rfl;obtain⟨B,h10,h11⟩:=W2 c;obtain⟨h12,h13⟩:=sub_eq h11;have C:=F.row b q B hq h10;subst hx';have g:new.length=n*size:=by
   have:=congrArg List.length h13;simp at this;omega
  refine⟨rfl,g,?_,fun k i=>?_⟩
  ·obtain⟨_,_,_,E⟩:=C.read (P:=P) h11;exact E
  ·have r:k*size<=n*size:=SZ size i;obtain⟨vs,G,D,E⟩:=C.read (P:=P) (off:=off) (n:=k*size) (AE om);refine⟨vs,?_,?_⟩
   ·rcases f with f|f
    ·simp only[Builtin.firstCells];rw[f];exact G
    ·change n=0 at f;have m:k=0:=om;subst m;have:vs=[]:=by
      have:=D.length;simp at this;exact aK.1 this.symm
     subst this;simp only[Builtin.firstCells,GV];rfl
   ·have j:new.take (k*size)=(B.cells.drop off).take (k*size):=by
     rw[h13,fW,vw r]
    rw[j];exact D
 ·rename_i s;obtain⟨c,d⟩:=J4 h;cases d;have u:=Ac c;subst u;cases z with
  | J8 hs=>
    have y:s.size=s.data.toList.length:=Array.length_toList.symm;refine⟨by simp only[Builtin.lenOf,Sem.run_pure,y],by simp[O9],FK (Gw _),fun k i=>⟨O9 (s.data.toList.take k),?_,?_⟩⟩
    ·simp only[Builtin.firstCells,Sem.run_pure];congr 1;rw[Kl s 0 k i];simp[O9]
    ·rw[Fh];have:(O9 s.data.toList).take k=O9 (s.data.toList.take k):=by simp[O9]
     rw[this];exact H8.MN (Gw _)
 ·cases h
def mH {r:List Value}(h:takeN n l=some r):r=l.take n/\n<=l.length:=⟨(SH _ _ _ h).2,(SH _ _ _ h).1⟩
def TP {Z':St}(a:Rel A9 O Z w) (c:O b=some q) (h:Z.write b off []=some Z'):Rel A9 O Z' w/\AS O Z w O Z' w:=by
 obtain⟨_,d,f⟩:=a.write c h .nil (by simp);exact⟨d,f⟩
def nO {y:Value}(h:qJ l=some (x,y)):l=[x,y]:=by
 unfold qJ at h;split at h
 ·cases h;rfl
 ·cases h
def Zp {A9:Env}{Z Z':St}{b off n:Nat}{q:CJ}{a:Addr}{vs vs':List Value}(i:Rel A9 O Z w) (j:O b=some q) (d:a=⟨q.c,q.o+off,none⟩\/n=0)
  (r:n=0->vs=[]) (h:Z.write b off vs=some Z') (m:H8 O vs vs') (p:∀ v∈vs,N2 v=true) :
  ∃ w',(storeCells a vs').run P w= .ok () w'/\Rel A9 O Z' w'/\AS O Z w O Z' w':=by
 rcases d with d|d
 ·subst d;obtain⟨s,f,g⟩:=i.write j h m p;exact⟨_,s P,f,g⟩
 ·have:=r d;subst this;cases m;obtain⟨f,g⟩:=TP i j h;exact⟨w,rfl,f,g⟩
def AV4 {A9:Env}{Z Z':St}{c:Call}(p:o.op= .call c) (C:c.callee= .builtin .copy) (E:P9 O fr e o.op.operands.toList) (j:Rel A9 O Z w)
  (h:Ao8 P fr Z c=some (v,Z')):Kb P A9 O e o Z w Z' v:=by
 obtain⟨vs,A,r⟩:=A8 h;obtain⟨⟨d,s⟩,h2,k2⟩:=A8 r;obtain⟨t,h3,k3⟩:=A8 (show ob (Sb c) _=some (v,Z')from k2);obtain⟨el,h4,k4⟩:=A8 (show ob (elem? P t) _=some (v,Z')from k3);obtain⟨size,h5,k5⟩:=A8 k4;obtain⟨⟨b,off,dl⟩,h6,k6⟩:=A8 k5;obtain⟨⟨n,cs⟩,h7,k7⟩:=A8 (show ob (AJ Z size s) _=some (v,Z')from k6);obtain⟨cs2,h8,k8⟩:=A8 (show ob (takeN (Nat.min n dl*size) cs) _=some (v,Z')from k7);obtain⟨Z2,h9,k9⟩:=A8 k8;clear h r k2 k3 k4 k5 k6 k7 k8;cases k9;have g:=(FA p E).evs A;rw[nO h2]at g;generalize B:c.args.toList.map e=L at g;cases g with
 |cons D i=>
 cases i with
 |cons i y=>
 cases y;rename_i d' H;have u:c.args.map e=#[d',H]:=by rw[JP,B]
 obtain⟨q,a,k',F,f,m⟩:=Ht D h6;change d'= .slice (some a) dl k' at f;change a=⟨q.c,q.o+off,none⟩\/dl=0 at m;subst f;obtain⟨s1,s2,s3,s4⟩:=Uz (P:=P) j i h7;obtain⟨Aw,s5,s6⟩:=s4 (Nat.min n dl) (Nat.min_le_left _ _);obtain⟨rfl,s7⟩:=mH h8;obtain⟨w',g1,g2,g3⟩:=Zp (P:=P) j F m (fun z=>by subst z;simp) h9 s6 (fun v G=>s3 v (Wi G));refine⟨w',.value _,_,O,?_,rfl,g2,g3,.J8 rfl⟩;have I:Nat.min n dl=min n dl:=rfl;simp only[execOp,p,resolve,C,Sem.run_bind,Sem.run_pure,Result.andThen_ok,invoke,builtin,Builtin.copy_,DA h3,u];simp[H9 (Gv h4),s1,Bh h5,goInt];rw[s5];simp only[Result.andThen_ok,g1]
def AF5 {A9:Env}{Z Z':St}{c:Call}(r:o.op= .call c) (f:c.callee= .builtin .clear) (J:P9 O fr e o.op.operands.toList) (H:Rel A9 O Z w)
  (h:AV0 P fr Z c=some (v,Z')):Kb P A9 O e o Z w Z' v:=by
 obtain⟨vs,F,C⟩:=A8 h;obtain⟨x,h2,k2⟩:=A8 C;obtain⟨t,h3,k3⟩:=A8 k2;obtain⟨el,h4,k4⟩:=A8 (show ob (elem? P t) _=some (v,Z')from k3);obtain⟨z,h5,k5⟩:=A8 k4;obtain⟨⟨b,off,n⟩,h6,k6⟩:=A8 k5;obtain⟨Z2,h9,k9⟩:=A8 (show ob (Z.write b off (rep (M6 z) n)) _=some (v,Z')from k6);clear h C k2 k3 k4 k5 k6;cases k9;have s:=(FA r J).evs F;rw[VM h2]at s;generalize G:c.args.toList.map e=L at s;cases s with
 |cons Q M=>
 cases M;rename_i D;have y:c.args.map e=#[D]:=by rw[JP,G]
 obtain⟨q,a,k',K,d,A⟩:=Ht Q h6;change D= .slice (some a) n k' at d;change a=⟨q.c,q.o+off,none⟩\/n=0 at A;subst d;obtain⟨hz,_,_⟩:=EN (O:=O) h5 w;obtain⟨zc1,zc2,zc3⟩:=Dm (O:=O) h5;have E:∀ c∈Ab.rep (M6 z) n,N2 c=true:=by
  intro c f;obtain⟨i,hi⟩:=List.getElem?_of_mem f;have p:i<n*(M6 z).length:=by rw[<- MO];exact(List.getElem?_eq_some_iff.1 hi).1
  rw[PM _ _ _ p]at hi;exact zc3 c (y6 hi)
 have u:=NY zc2 n (n*z.cells.size) (by rw[zc2.length,Pq]);obtain⟨w',g,g2,g3⟩:=Zp (P:=P) H K A (fun j=>by subst j;rfl) h9 u E;refine⟨w',.value _,_,O,?_,rfl,g2,g3,.tuple .nil⟩;have B:=Gv h4;by_cases j:n=0
 ·subst j;have N:w'=w:=by
   have:((Array.range (0*z.cells.size)).map fun i=>(⟨z.cells.toList⟩:Array Value)[i % (⟨z.cells.toList⟩:Array Value).size]!).toList=[]:=sI;rw[this]at g;cases g;rfl
  subst N;simp only[execOp,r,resolve,f,Sem.run_bind,Sem.run_pure,Result.andThen_ok,invoke,builtin,Builtin.clear_,DA h3,y];simp[H9 B]
 ·simp only[execOp,r,resolve,f,Sem.run_bind,Sem.run_pure,Result.andThen_ok,invoke,builtin,Builtin.clear_,DA h3,y];have I:(storeCells a (Builtin.zeroCells z.cells n).toList).run P w= .ok () w':=g;obtain⟨m,rfl⟩:∃ m,n=m+1:=⟨n-1,om⟩
  simp[H9 B,hz,I]
def yr (a:Nat):∀ (k c:Nat),256<=c->c<a->Builtin.growBy a k c<=2*a:=by
 intro k;induction k with
 |zero=>intro c _ h;unfold Builtin.growBy;omega
 | succ k ih=>
   intro c f g;unfold Builtin.growBy;rw[z0z om];by_cases d:c+(c+768) / 4<a
   ·exact ih _ om d
   ·cases k with
    |zero=>unfold Builtin.growBy;omega
    |succ k=>unfold Builtin.growBy;rw[z1z om];omega
def ug (a cap:Nat) (h:cap<a):Builtin.nextslicecap a cap<=2*a:=by
 unfold Builtin.nextslicecap;split
 ·omega
 ·split
  ·omega
  ·exact yr a 4 cap om h
end
end
section
variable {Z:St}{A9:Env}{b off x:Nat}{q:CJ}
section
variable {P:Program}{O:Place}{fr:Fr}{e:Operand->Value}{o:Oper}{w:World}{v:Value}
def Rel.heap {w w':World}(h:Rel A9 O Z w) (a:w'.heap=w.heap):Rel A9 O Z w' :=
 ⟨h.fresh,fun b q B d f=>(h.KV b q B d f).mono (Place.le_refl _) (by rw[a]),fun b q d=>by rw[a];exact h.dom b q d,h.own,h.sep,h.low.next (by rw[a];exact AP _) fun c _=>by rw[a]⟩
def iu {d:Option TypeDesc}(h:LW d=true):∃ d',d=some d'/\LW (some d')=true:=by
 cases d with
 |none=>cases h
 |some d=>exact⟨d,rfl,h⟩
def FV {c:Call}{t:TypeId}(h:eO c=some t):c.argTypes[1]? =some t:=by
 unfold eO at h;split at h
 ·rename_i u d r a;cases h;have:=congrArg (fun l:List TypeId=>l[1]?) a
  simpa using this
 ·cases h
def Db {ts:Array TypeId}{ty t r el:TypeId}{i:TypeInfo}{h:TypeDesc}{base':Option Addr}{len c n:Nat}{x':Value}{Aw:Array Value}{w':World}
  (y:ts[0]? =some t) (z:ts[1]? =some r) (A:P.underlying t=some (.slice el)) (l:P.underlying r=some h) (d:LW (some h)=true) (hi:P.info? el=some i)
  (m:(Builtin.lenOf x').run P w= .ok n w) (p:(Builtin.firstCells i.size n x').run P w= .ok Aw w) (f:len+n<=c)
  (g:match base' with|some a=>(storeCells (a.add (len*i.size)) Aw.toList).run P w= .ok () w'|none=>w'=w) :
  (Builtin.append_ ts ty #[.slice base' len c,x']).run P w= .ok (.slice base' (len+n) c) w':=by
 have j:(sizeOf el).run P w= .ok i.size w:=by simp[sizeOf,typeInfo,hi]
 have s:(#[Value.slice base' len c,x']:Array Value)[0]? =some (.slice base' len c):=rfl;have u:(#[Value.slice base' len c,x']:Array Value)[1]? =some x':=rfl;unfold Builtin.append_;simp only[y,z,s,u,Sem.run_bind,H9 A,Result.andThen_ok,j,H9 l,Sem.run_pure];cases base' with
 | none=>
   subst g
   cases h<;>first
    | (cases d;done)
    | (simp only[JM,HZ,Sem.run_bind,m,Result.andThen_ok,Sem.run_ite,z1z f,SY,FU,p,Sem.run_pure])
 | some a=>
   cases h<;>first
    | (cases d;done)
    | (simp only[JM,HZ,Sem.run_bind,m,Result.andThen_ok,Sem.run_ite,z1z f,SY,FU,p,g,Sem.run_pure])
def GZ {ts:Array TypeId}{ty t B el:TypeId}{i:TypeInfo}{g:TypeDesc}{base':Option Addr}{len a n:Nat}{x' z:Value}{old' Aw:Array Value}
  (F:ts[0]? =some t) (G:ts[1]? =some B) (R:P.underlying t=some (.slice el)) (u:P.underlying B=some g) (r:LW (some g)=true) (hi:P.info? el=some i) (U:i.zero=some z)
  (Q:(Builtin.lenOf x').run P w= .ok n w) (d:(Builtin.firstCells i.size len (.slice base' len a)).run P w.drew= .ok old' w.drew) (S:(Builtin.firstCells i.size n x').run P w.drew= .ok Aw w.drew)
  (c:a<len+n) (f:(len+n)*(i.bytes+1)<=room) :
  ∃ K,len+n<=K/\(Builtin.append_ ts ty #[.slice base' len a,x']).run P w =
   .ok (.slice (some ⟨w.heap.size,0,none⟩) (len+n) K) { w.drew with heap:=w.heap.push (.cells (old'++Aw++Builtin.zeroCells z.cells (K-(len+n))) el) }:=by
 have s:∀ w,(sizeOf el).run P w= .ok i.size w:=fun w=>by simp[sizeOf,typeInfo,hi]
 have y:∀ w,(zeroValue el).run P w= .ok z w:=fun w=>by simp[zeroValue,typeInfo,hi,U]
 have C:(#[Value.slice base' len a,x']:Array Value)[0]? =some (.slice base' len a):=rfl;have D:(#[Value.slice base' len a,x']:Array Value)[1]? =some x':=rfl;refine⟨(Question.appendCap (len+n) a el).cut (w.tape w.drawn (.appendCap (len+n) a el)),Q8 _ _,?_⟩;have N:(Question.appendCap (len+n) a el).forced=false:=rfl;generalize J:(Question.appendCap (len+n) a el).cut (w.tape w.drawn (.appendCap (len+n) a el))=K;unfold room at f;have L:len+n<=4294967296:=W5 (AA3 _ om) f;have M:(len+n)*i.bytes<=4294967296:=W5 (Wn _ om) f;have j:¬ (((len+n:Nat):Int)>IntKind.i64.max):=by
  have E:IntKind.i64.max=9223372036854775807:=by decide
  rw[E];omega
 have l:¬ (Builtin.nextslicecap (len+n) a*i.bytes>2 ^ 48):=by
  have A:(2:Nat) ^ 48=281474976710656:=by decide
  have H:=ug (len+n) a c;have I:Builtin.nextslicecap (len+n) a*i.bytes<=2*(len+n)*i.bytes:=SZ _ H;rw[Ek]at I;rw[A];omega
 have m:∀ (p:Prop),¬ (((len+n:Nat):Int)>IntKind.i64.max/\p):=fun p h=>j h.1;unfold Builtin.append_;simp only[F,G,C,D,Sem.run_bind,H9 R,Result.andThen_ok,s,H9 u,Sem.run_pure]
 cases g<;>first
  | (cases r;done)
  | (simp only[JM,HZ,Sem.run_bind,Q,Result.andThen_ok,Sem.run_ite,z0z (Nat.not_le.2 c),SY,FU,eI hi,z0z (m _),z0z l,run_choose,N,J,run_askRoom,World.drew_eq,d,S,y,newRow,run_newObj,Sem.run_pure]
     rfl)
def Sa (zero:Array Value) (n:Nat):(Builtin.zeroCells zero n).size=n*zero.size:=by simp[Builtin.zeroCells]
def Nc {A9:Env}{Z:St}{old new old' Aw:List Value}{H4:Array Value}{el:TypeId}{n K size:Nat}(j:Rel A9 O Z w) (l:O Z.n=none)
  (p:H8 O old old') (m:H8 O new Aw) (f:∀ v∈old,N2 v=true) (d:∀ v∈new,N2 v=true) (i:n<=K) (r:K*size<=old'.length+Aw.length+H4.size) {t:Option TypeId} (ht:∀ x,t=some x->x=el:=by exact fun _ h=>by cases h) :
  ∃ O',Rel A9 O' (Z.new (old++new) t) { w.drew with heap:=w.heap.push (.cells (old'.toArray++Aw.toArray++H4) el) } /\
   AS O Z w O' (Z.new (old++new) t) { w.drew with heap:=w.heap.push (.cells (old'.toArray++Aw.toArray++H4) el) } /\
   J5 O' (.slice (some ⟨Z.n,0,some size⟩) n n) (.slice (some ⟨w.heap.size,0,none⟩) n K):=by
 obtain⟨g,g2⟩:=j.new (t:=t) (w':={ w.drew with heap:=w.heap.push (.cells (old'.toArray++Aw.toArray++H4) el) }) l (cs:=old++new) (arr:=old'.toArray++Aw.toArray++H4) (e:=el) (lo:=0) (hi:=0)
  (by simp) (by simp) (fun c s=>by simp[Array.getElem?_push];intro h;omega) ⟨rfl,rfl,rfl⟩ (.inr nL)
  (fun v a=>by rcases An.1 a with a|a;exact f v a;exact d v a) ⟨old'++Aw,H4.toList,by simp,H8.append m p⟩ ht
 exact⟨_,g,g2,.grow (q:=⟨w.heap.size,0,_⟩) (Place.S9 _ _ _) i (by show 0+0+K*size<=_;simp only[Wm,List.size_toArray];omega)⟩
def Pw {el:Nat}{t:Option TypeId}(h:MQ el off t=some x):x=el/\off=0/\t=some x:=by
 obtain⟨y,rfl,a⟩:=A8 h;obtain⟨h1,h3⟩:=J4 a;obtain⟨h4,h5⟩:=J4 h3;cases h5;exact⟨rfl,Ac h4,by rw[Ac h1]⟩
def AG7 (h:Z.typ b=some x):∃ B,Z.h.get b=some B/\B.kind= .row (some x):=by
 obtain⟨⟨cells,c,own,ver,kind⟩,d,a⟩:=A8 h;cases kind with
 |row t=>exact⟨_,d,by cases a;rfl⟩
 |map=>cases a
def Rel.typ (g:Rel A9 O Z w){x:TypeId}(j:O b=some q) (i:∃ B,Z.blk b=some B) (h:Z.typ b=some x):q.o=0/\∃ arr f,w.heap[q.c]? =some (.cells arr x f):=by
 obtain⟨B,a,d⟩:=AG7 h;obtain⟨B',hB⟩:=i;obtain⟨h3,h4⟩:=AM hB;rw[a]at h3;cases h3;exact g.typed j hB d x rfl
def aX (d:Rel A9 O Z w){el:TypeId}(h:O b=some q) (g:∃ B,Z.blk b=some B):∀ x,MQ el off (Z.typ b)=some x->off=0/\q.o=0/\∃ arr f,w.heap[q.c]? =some (.cells arr x f):=fun x a=>
 ⟨(Pw a).2.1,d.typ h g (Pw a).2.2⟩
def Ux {A9:Env}{N:Nat}{Z Z':St}{c:Call}(ho:o.op= .call c) (hc:c.callee= .builtin .append) (hk:P9 O fr e o.op.operands.toList) (u:Rel A9 O Z w)
  (hF:Cz O Z.n N) (hN:Z'.n<=N) (h:EO P fr Z c=some (v,Z')):Kb P A9 O e o Z w Z' v:=by
 obtain⟨vs,h1,k1⟩:=A8 h;obtain⟨⟨s,x⟩,h2,k2⟩:=A8 k1;obtain⟨t,h3,k3⟩:=A8 (show ob (Sb c) _=some (v,Z')from k2);obtain⟨t2,h4,k4⟩:=A8 k3;obtain⟨h5,k5⟩:=J4 k4;obtain⟨el,h6,k6⟩:=A8 (show ob (elem? P t) _=some (v,Z')from k5);obtain⟨i,h7,k7⟩:=A8 k6;clear h k1 k2 k3 k4 k5 k6;obtain⟨d2,hu2,hd2⟩:=iu h5;have G:=Gv h6;have hr:=(FA ho hk).evs h1;rw[nO h2]at hr;generalize hE:c.args.toList.map e=L at hr;cases hr with
 |cons hs hr=>
 cases hr with
 |cons H Uy=>
 cases Uy;rename_i s' x';have Ga:c.args.map e=#[s',x']:=by rw[JP,hE]
 have F:∀ (r:Value) (w':World),(∀ ty,(Builtin.append_ c.argTypes ty #[s',x']).run P w= .ok r w')->(execOp e o).run P w= .ok (.value r) w':=by
  intro r w' hh;simp only[execOp,ho,resolve,hc,Sem.run_bind,Sem.run_pure,Result.andThen_ok,invoke,builtin,Ga,hh]
 split at k7
 ·rename_i bs len cap;obtain⟨⟨n,new⟩,h8,k8⟩:=A8 k7;obtain⟨h9,k9⟩:=J4 (show bb (Nat.ble 1 i.size) _=some (v,Z')from k8);clear k7 k8;have a8:=Cj h9;obtain⟨s1,s2,s3,s4⟩:=Uz (P:=P) u H h8;obtain⟨Aw,s5,s6⟩:=s4 n nL;rw[<- s2,Dq]at s6;cases A:Nat.ble (len+n) cap with
  | true=>
    rw[A]at k9;have uh:=Cj A;change CU Z i.size bs len cap n new=some (v,Z')at k9;unfold CU at k9;split at k9
    ·rename_i b off sp;obtain⟨Z2,f,g⟩:=A8 k9;cases g;cases hs with
     | slice d=>
       obtain⟨w1,w2,w3⟩:=u.write d f s6 s3;refine⟨_,.value _,_,O,F _ _ fun ty=>Db (DA h3) (FV h4) G hu2 hd2 h7 s1 s5 uh ?_,rfl,w2,w3,.slice d⟩;simp only[addr_add];rw[show ∀ q:CJ,q.o+off+len*i.size=q.o+(off+len*i.size)from fun q=>Px _ _ _];exact w1 P
     | grow d hkk hm=>
       obtain⟨w1,w2,w3⟩:=u.write d f s6 s3;refine⟨_,.value _,_,O,F _ _ fun ty=>Db (DA h3) (FV h4) G hu2 hd2 h7 s1 s5 (W5 uh hkk) ?_,rfl,w2,w3,.grow d hkk hm⟩;simp only[addr_add];rw[show ∀ q:CJ,q.o+off+len*i.size=q.o+(off+len*i.size)from fun q=>Px _ _ _];exact w1 P
     | Bq d=>
       have S:n=0:=om;subst S;have GJ:new=[]:=aK.1 (by rw[s2,GV]);subst GJ;cases s6;obtain⟨w2,w3⟩:=TP u d f;refine⟨w,.value _,_,O,F _ _ fun ty=>Db (DA h3) (FV h4) G hu2 hd2 h7 s1 s5 uh ?_,rfl,w2,w3,.Bq d⟩;rfl
     |J8 hsc=>simp[J8]at hsc
    ·obtain⟨f,g⟩:=J4 k9;cases g;have h0:=Ac f;cases hs with
     | J8 hsc=>
       have hl:len=0:=om;have S:n=0:=om;have a3:cap=0:=om;subst hl S a3;refine⟨w,.value _,_,O,F _ _ fun ty=>Db (DA h3) (FV h4) G hu2 hd2 h7 s1 s5 uh rfl,rfl,u,.refl _ _ _,.J8 rfl⟩
  | false=>
    rw[A]at k9;have E:cap<len+n:=by
     rcases AH cap (len+n)with hh|hh
     ·exact hh
     ·rw[Py hh]at A;cases A
    obtain⟨f,g⟩:=J4 (show bb _ _=some (v,Z')from k9);have Da:=Cj f;obtain⟨z,h11,k11⟩:=A8 g;obtain⟨h12,k12⟩:=J4 k11;clear k9 g k11;have a6:=Ac h12;obtain⟨_,_,i',hi',hzi⟩:=EN (O:=O) h11 w;rw[h7]at hi';cases hi';obtain⟨zc1,zc2,_⟩:=Dm (O:=O) h11;have a1:z.cells.size=i.size:=by rw[<- a6,zc1,Pq]
    have M:Rel A9 O Z w.drew:=u.heap rfl;obtain⟨t1,a7,t3,t4⟩:=Uz (P:=P) M H h8;obtain⟨BV1,t5,t6⟩:=t4 n nL;rw[<- a7,Dq]at t6;have a9:=t6.length;have aY:∀ K,len+n<=K->(Builtin.zeroCells z.cells (K-(len+n))).size=(K-(len+n))*i.size:=by intro K _;rw[Sa,a1]
    have nP:∀ K,len+n<=K->K*i.size=len*i.size+n*i.size+(K-(len+n))*i.size:=by
     intro K p;rw[<- Sd,<- Sd];congr 1;omega
    unfold BP at k12;split at k12
    ·obtain⟨l,C⟩:=J4 k12;cases C;have hl:=Ac l;subst hl;cases hs with
     | J8 hsc=>
       have iw:cap=0:=by
        cases cap with
        |zero=>rfl
        |succ k=>cases hsc
       subst iw;obtain⟨K,p,X⟩:=GZ (ts:=c.argTypes) (ty:=o.type) (P:=P) (w:=w) (base':=none) (DA h3) (FV h4) G hu2 hd2 h7 hzi s1 (old':=#[]) rfl t5 E Da;have Pz:∀ ty,(Builtin.append_ c.argTypes ty #[.slice none 0 0,x']).run P w=_:=fun ty=>X
       obtain⟨Y,J,g2,g3⟩:=Nc (A9:=A9) (el:=el) (size:=i.size) (n:=n) (K:=K) (old:=[]) (old':=[]) (t:=some el) (ht:=fun x H=>by cases H;rfl) (H4:=Builtin.zeroCells z.cells (K-(0+n))) u (hF Z.n nL (z5z (JQ _) hN)) .nil t6 (by simp) t3 om
        (by rw[aY K p,nP K p];simp only[Hf];omega)
       exact⟨_,.value _,_,Y,F _ _ Pz,rfl,J,g2,by rw[Eo];exact g3⟩
    ·rename_i b off;obtain⟨old,l,C⟩:=A8 k12;cases C;have Kc:O Z.n=none:=hF Z.n nL (z5z (JQ _) hN);obtain⟨B,hB,W⟩:=W2 l;obtain⟨hsl,hse⟩:=sub_eq W;have I:old.length=len*i.size:=by have:=congrArg List.length hse;simp at this;omega
     have fin:∀ (q:CJ) (a:Addr) (j:Nat),O b=some q->s'= .slice (some a) len j->(a=⟨q.c,q.o+off,none⟩\/len=0)->j<len+n->Kb P A9 O e o Z w (Z.new (old++new) (some el)) (.slice (some ⟨Z.n,0,some i.size⟩) (len+n) (len+n)):=by
      intro q a j d U y aZ;subst U;obtain⟨D,o1,V,o3⟩:=(M.row b q B d hB).read (P:=P) W;have R:(Builtin.firstCells i.size len (.slice (some a) len j)).run P w.drew= .ok D.toArray w.drew:=by
       rcases y with y|y
       ·subst y;exact o1
       ·subst y;have:D=[]:=by have:=V.length;simp at I;rw[I]at this;exact aK.1 this.symm
        subst this;simp only[Builtin.firstCells,GV];rfl
      obtain⟨K,p,X⟩:=GZ (ts:=c.argTypes) (ty:=o.type) (P:=P) (w:=w) (DA h3) (FV h4) G hu2 hd2 h7 hzi s1 R t5 aZ Da;have Pz:∀ ty,(Builtin.append_ c.argTypes ty #[.slice (some a) len j,x']).run P w=_:=fun ty=>X;have a5:=V.length
      obtain⟨Y,J,g2,g3⟩:=Nc (A9:=A9) (el:=el) (size:=i.size) (n:=len+n) (K:=K) (t:=some el) (ht:=fun x H=>by cases H;rfl) (H4:=Builtin.zeroCells z.cells (K-(len+n))) u Kc V t6 o3 t3 p
       (by rw[aY K p,nP K p];omega)
      exact⟨_,.value _,_,Y,F _ _ Pz,rfl,J,g2,g3⟩
     cases hs with
     |slice d=>exact fin _ _ _ d rfl (.inl rfl) E
     |Bq d=>exact fin _ _ _ d rfl (.inr rfl) E
     |J8 hsc=>simp[J8]at hsc
    ·rename_i b off sz;obtain⟨l,C⟩:=J4 k12;obtain⟨old,h14,k14⟩:=A8 C;obtain⟨Z1,h15,k15⟩:=A8 k14;cases k15;have a2:=Ac l;subst a2;have a0:Z1.n=Z.n:=by obtain⟨_,_,_,rfl⟩:=Gc h15;rfl
     have Kc:O Z.n=none:=hF Z.n nL (by have:(Z1.new (old++new) (MQ el off (Z.typ b))).n=Z1.n+1:=rfl;omega);obtain⟨B,hB,W⟩:=W2 h14;obtain⟨hsl,hse⟩:=sub_eq W;have I:old.length=len*i.size:=by have:=congrArg List.length hse;simp at this;omega
     have fin:∀ (q:CJ) (a:Addr) (j:Nat),O b=some q->s'= .slice (some a) len j->(a=⟨q.c,q.o+off,none⟩\/len=0)->j<len+n->Kb P A9 O e o Z w (Z1.new (old++new) (MQ el off (Z.typ b))) (.slice (some ⟨Z1.n,0,some i.size⟩) (len+n) (len+n)):=by
      intro q a j d U y aZ;subst U;obtain⟨D,o1,V,o3⟩:=(M.row b q B d hB).read (P:=P) W;have R:(Builtin.firstCells i.size len (.slice (some a) len j)).run P w.drew= .ok D.toArray w.drew:=by
       rcases y with y|y
       ·subst y;exact o1
       ·subst y;have:D=[]:=by have:=V.length;simp at I;rw[I]at this;exact aK.1 this.symm
        subst this;simp only[Builtin.firstCells,GV];rfl
      obtain⟨K,p,X⟩:=GZ (ts:=c.argTypes) (ty:=o.type) (P:=P) (w:=w) (DA h3) (FV h4) G hu2 hd2 h7 hzi s1 R t5 aZ Da;have Pz:∀ ty,(Builtin.append_ c.argTypes ty #[.slice (some a) len j,x']).run P w=_:=fun ty=>X;have a5:=V.length;obtain⟨hk1,hk2⟩:=u.kill ⟨q,d⟩ h15
      obtain⟨Y,J,g2,g3⟩:=Nc (A9:=A9) (el:=el) (size:=i.size) (n:=len+n) (K:=K) (t:=MQ el off (Z.typ b)) (ht:=fun x H=>(Pw H).1) (H4:=Builtin.zeroCells z.cells (K-(len+n))) hk1 (by rw[a0];exact Kc) V t6 o3 t3 p
       (by rw[aY K p,nP K p];omega)
      exact⟨_,.value _,_,Y,F _ _ Pz,rfl,J,hk2.trans g2,g3⟩
     cases hs with
     | grow d hkk hm=>
       rename_i k' q;by_cases Q:len+n<=k'
       ·rw[<- I]at h14;have a4:q.o+off+old.length+new.length<=q.m:=by
         have:(len+n)*i.size<=k'*i.size:=SZ _ Q;rw[Sd]at this;omega
        obtain⟨J,g2,g3⟩:=u.grow (t:=MQ el off (Z.typ b)) Kc d h14 h15 s6 s3 a4 (aX u d ⟨B,(j0 hB).1⟩);refine⟨_,.value _,_,_,F _ _ fun ty=>Db (DA h3) (FV h4) G hu2 hd2 h7 s1 s5 Q ?_,rfl,g2,g3,?_⟩
        ·simp only[addr_add,<- I];exact J P
        ·rw[a0];exact .grow (q:=⟨q.c,q.o+off,q.m⟩) (off:=0) (Place.S9 _ _ _) Q (by show q.o+off+0+k'*i.size<=q.m;omega)
       ·exact fin _ _ _ d rfl (.inl rfl) om
     |Bq d=>exact fin _ _ _ d rfl (.inr rfl) E
     |J8 hsc=>simp[J8]at hsc
 ·cases k7
end
end
def Sr (Z:St) (b:Nat){B:Blk}(a:B.live=true):(⟨Z.h.set b B,Z.n⟩:St).blk b=some B:=Nf (Tr.get_set_same _ _ _) a
def Fe (Z:St){b a:Nat}(B:Blk) (h:a≠b):(⟨Z.h.set b B,Z.n⟩:St).blk a=Z.blk a:=by
 show ob ((Z.h.set b B).get a) _=_;rw[Tr.L8 _ _ h];rfl
def Rel.set {A9:Env}{O:Place}{Z:St}{w w':World}(h:Rel A9 O Z w){b:Nat}{q:CJ}{B o:Blk}(g:O b=some q) (j:Z.blk b=some B) (l:B.own=true) (H:o.live=true) (G:o.own=true)
  (A:∀ c,c≠q.c->w'.heap[c]? =w.heap[c]?) (E:w'.heap.size=w.heap.size) (I:Outside w w') (r:IU A9 O w' q o) :
  Rel A9 O ⟨Z.h.set b o,Z.n⟩ w'/\AS O Z w O ⟨Z.h.set b o,Z.n⟩ w':=by
 refine⟨⟨?_,?_,?_,?_,?_,?_⟩,⟨?_,?_,?_,?_,?_,I,fun f _ D=>Tr.L8 _ _ (by intro p;subst p;rw[g]at D;cases D)⟩⟩
 ·intro f a;have:=h.lt j;change Z.n<=f at a;show(Z.h.set b _).get f=none;rw[Tr.L8 _ _ om];exact h.fresh f a
 ·intro f i B2 a e;by_cases d:f=b
  ·subst d;rw[g]at a;cases a;rw[Sr _ _ H]at e;cases e;exact r
  ·rw[Fe _ _ d]at e;exact(h.KV f i B2 a e).mono (Place.le_refl _) (A i.c (h.sep b q B f i g j l d a (.inr ⟨B2,e⟩)))
 ·intro f i a;rw[E];exact h.dom f i a
 ·intro f i B2 a e v;by_cases d:f=b
  ·subst d;rw[g]at a;cases a;exact h.own f q B g j l
  ·rw[Fe _ _ d]at e;exact h.own f i B2 a e v
 ·intro s q1 B1 C q2 L F M N Q m;have y:∃ B0,Z.blk s=some B0/\B0.own=true:=by
   by_cases d:s=b
   ·subst d;exact⟨B,j,l⟩
   ·rw[Fe _ _ d]at F;exact⟨B1,F,M⟩
  obtain⟨B0,J,K⟩:=y;refine h.sep s q1 B0 C q2 L J K N Q ?_;rcases m with m|⟨B2,m⟩
  ·exact .inl m
  ·by_cases d:C=b
   ·subst d;exact .inr ⟨B,j⟩
   ·rw[Fe _ _ d]at m;exact .inr ⟨B2,m⟩
 ·exact h.low.next (by rw[E];exact AP _) fun u R=>A u fun p=>by have:=h.own b q B g j l;omega
 ·intro _ _;rfl
 ·exact AP _
 ·omega
 ·intro u _ z;refine A u fun p=>?_;rw[z b q B g p.symm j]at l;cases l
 ·intro f i B2 a e _;by_cases d:f=b
  ·subst d;rw[g]at a;cases a;exact⟨f,q,B,g,rfl,j,fun _=>l⟩
  ·rw[Fe _ _ d]at e;exact⟨f,i,B2,a,rfl,e,fun h=>h⟩
def Rel.Hg {A9:Env}{O:Place}{Z:St}{w w':World}(h:Rel A9 O Z w) (p:O Z.n=none){cs:List Value}{k:Kind}{c:Nat}
  (l:w.heap.size<=c) (f:c<w'.heap.size) (m:w.heap.size<=w'.heap.size) (d:∀ c,c<w.heap.size->w'.heap[c]? =w.heap[c]?) (r:Outside w w')
  (g:IU A9 (O.put Z.n ⟨c,0,0⟩) w' ⟨c,0,0⟩ ⟨cs,true,true,0,k⟩) :
  Rel A9 (O.put Z.n ⟨c,0,0⟩) (Z.Hg cs k) w'/\AS O Z w (O.put Z.n ⟨c,0,0⟩) (Z.Hg cs k) w':=by
 refine⟨h.Ae0 p g m (fun c l _=>d c l) f (by have:=h.low.1;show A9.lo<=c;omega) (fun b o a _=>by have:=h.dom b o a;show o.c≠c;omega),⟨?_,?_,?_,?_,?_,r,fun b s _=>Tr.L8 _ _ om⟩⟩
 ·intro b a;refine Place.Ax _ _ ?_;rcases a with a|a
  ·omega
  ·change Z.n+1<=b at a;omega
 ·show Z.n<=Z.n+1;omega
 ·exact m
 ·intro c f _;exact d c f
 ·intro b q B a j i;by_cases e:b=Z.n
  ·subst e;rw[Place.S9]at a;cases a;change c<w.heap.size at i;omega
  ·rw[Place.Ax _ _ e]at a;rw[EC _ _ _ e]at j;exact⟨b,q,B,a,rfl,j,fun h=>h⟩
end Go.Ab
namespace Go.Ab
open Go Go.MapKept
section
variable {k:Value}
section
variable {P:Program}{O:Place}{fr:Fr}{e:Operand->Value}{o:Oper}{w:World}{v:Value}
def Vl (a b:ByteArray):Lp a.data.toList b.data.toList=(a==b):=by
 rw[Re];by_cases h:a=b
 ·subst h;rw[(bytes_beq a a).2 rfl];simp
 ·have c:(a==b)=false:=by
   cases d:(a==b)with
   |false=>rfl
   |true=>exact absurd ((bytes_beq a b).1 d) h
  rw[c];rw[ah];intro f;apply h;obtain⟨⟨x⟩⟩:=a;obtain⟨⟨y⟩⟩:=b;cases f;rfl
def Ds {d:Option TypeDesc}(h:DR d k=true):flat k=true/\J8 k=true/\∃ d',d=some d'/\IsKey d' k:=by
 unfold DR at h;split at h
 ·split at h
  ·exact⟨rfl,rfl,_,rfl,by simp[IsKey]⟩
  ·cases h
 ·split at h
  ·have:=Vm h;subst this;exact⟨rfl,rfl,_,rfl,by simp[IsKey]⟩
  ·cases h
 ·cases h
def UW {d:TypeDesc}{y:Value}{s:Bool}(a:DR (some d) k=true) (h:Kz k y=some s):Instr.sameNow d k y=some s/\(s=true->y=k):=by
 unfold DR at a;split at a
 ·rename_i b;cases b;split at a
  ·rename_i p;unfold Kz at h;cases y with
   | string t=>
     cases h;refine⟨by simp only[Instr.sameNow];rw[Vl],fun ht=>?_⟩;rw[Vl]at ht;rw[(bytes_beq _ _).1 ht]
   |_=>cases h
  ·cases a
 ·rename_i i b;cases b;split at a
  ·rename_i j n;unfold Kz at h;cases y with
   | int l m=>
     obtain⟨f,g⟩:=J4 h;cases g;have c:=Vm f;subst c;refine⟨by simp[Instr.sameNow,Mx],fun ht=>?_⟩;rw[Mx]at ht;rw[eq_of_beq ht]
   |_=>cases h
  ·cases a
 ·cases a
def Yp {d:TypeDesc}(p:DR (some d) k=true):∀ {cells:List Value}{es:List MapEntry}{r:Option Value},Entries O cells es->PF k cells=some r->∀ i,
  (r=none->Instr.findNow d k es i=some none)/\∀ v,r=some v->∃ j v',Instr.findNow d k es i=some (some (j,v'))/\J5 O v v':=by
 intro cells es r g;induction g with
 | nil=>
   intro h i;cases h;exact⟨fun _=>rfl,fun v c=>by cases c⟩
 | @cons x y en l es hx he c g ih=>
   intro h i;obtain⟨s,n,f⟩:=A8 (show ob (Kz k x) _=some r from h);obtain⟨h3,h4⟩:=UW p n;rw[<- he]at h3;cases s with
   | true=>
     cases f;refine⟨fun b=>(nomatch b),fun v a=>?_⟩;cases a;exact⟨i,en.val,by simp[Instr.findNow,h3],c⟩
   | false=>
     obtain⟨m,g2⟩:=ih f (i+1);refine⟨fun b=>by simp[Instr.findNow,h3,m b],fun v a=>?_⟩;obtain⟨j,v',k1,k2⟩:=g2 v a;exact⟨j,v',by simp[Instr.findNow,h3,k1],k2⟩
def Yq {d:TypeDesc}{u g:Value}(f:DR (some d) k=true) (n:J5 O u g):∀ {cells j8:List Value}{es:List MapEntry},Entries O cells es->My k u cells=some j8->∀ i,
  (Instr.findNow d k es i=some none/\∀ born,Entries O j8 (es++[⟨k,g,born⟩])) \/
  ∃ j v' en,Instr.findNow d k es i=some (some (i+j,v'))/\es[j]? =some en/\en.key=k/\Entries O j8 (es.modify j fun en=>{ en with key:=k,val:=g }):=by
 intro cells j8 es c;induction c generalizing j8 with
 | nil=>
   intro h i;cases h;exact .inl ⟨rfl,fun born=> .cons (Ds f).1 rfl n .nil⟩
 | @cons x y en l es hx he hv c ih=>
   intro h i;obtain⟨s,p,m⟩:=A8 (show ob (Kz k x) _=some j8 from h);obtain⟨h3,h4⟩:=UW f p;rw[<- he]at h3;cases s with
   | true=>
     cases m;exact .inr ⟨0,en.val,en,by simp[Instr.findNow,h3],rfl,by rw[he];exact h4 rfl,.cons (Ds f).1 rfl n c⟩
   | false=>
     obtain⟨r,q,z⟩:=A8 (show ob (My k u l) _=some j8 from m);cases z;rcases ih q (i+1)with⟨b,g2⟩|⟨j,v',a,b,g2,g3,g4⟩
     ·exact .inl ⟨by simp[Instr.findNow,h3,b],fun born=> .cons hx he hv (g2 born)⟩
     ·exact .inr ⟨j+1,v',a,by simp[Instr.findNow,h3,b];omega,by simpa using g2,g3,by simpa using Entries.cons hx he hv g4⟩
def gG {v v':Value}{a:Option Nat}(h:J5 O v v') (d:xG v=some a):(a=none/\v'= .map none)\/∃ b q,a=some b/\O b=some q/\v'= .map (some q.c):=by
 unfold xG at d;split at d
 ·cases d;cases h with
  | J8 hs=>
    cases a with
    |none=>exact .inl ⟨rfl,rfl⟩
    |some b=>simp[J8]at hs
  |map f=>exact .inr ⟨_,_,rfl,f,rfl⟩
 ·cases d
def PX {t a el:TypeId}(h:Hw P t=some (a,el)):P.underlying t=some (.map a el):=by
 unfold Hw at h;split at h
 ·cases h;assumption
 ·cases h
def FP {d:TypeDesc}{b:TypeId}(c:P.underlying b=some d) (f:IsKey d k) (a:Bool):(Instr.checkKey a 10000 b k).run P w= .ok () w:=run_checkKey c f a 9999
def Al {d:TypeDesc}{a:TypeId}{es:List MapEntry}{r:Option (Nat×Value)}(b:P.underlying a=some d) (h:Instr.findNow d k es 0=some r):(Instr.findKey a k es).run P w= .ok r w:=by
 simp only[Instr.findKey,Sem.run_bind,H9 b,Result.andThen_ok,h,Sem.run_pure]
def Va {A9:Env}{Z Z':St}{t:TypeId}{x G:Operand}{ok:Bool}(l:o.op= .lookup t x G ok) (H:P9 O fr e o.op.operands.toList) (E:Rel A9 O Z w)
  (h:DI P fr Z t x G ok=some (v,Z')):Kb P A9 O e o Z w Z' v:=by
 obtain⟨⟨S,el⟩,M,I⟩:=A8 h;obtain⟨m,h2,k2⟩:=A8 (show ob (ev fr x) _=some (v,Z')from I);obtain⟨a,h3,k3⟩:=A8 k2;obtain⟨k,h4,k4⟩:=A8 k3;obtain⟨h5,k5⟩:=J4 k4;obtain⟨cs,h6,k6⟩:=A8 k5;obtain⟨r,h7,k7⟩:=A8 k6;obtain⟨⟨u,b⟩,h8,k8⟩:=A8 k7;clear h I k2 k3 k4 k5 k6 k7;cases k8;obtain⟨hf,hs,d,hd,hik⟩:=Ds h5;rw[hd]at h5;have p:=PX M;have R:=H x m (by simp[l,Op.operands]) h2;have F:=H G k (by simp[l,Op.operands]) h4;have s:=F.flat hf;have K:∀ es:List MapEntry,Entries O cs es->∃ f,Instr.findNow d k es 0=some f/\∃ c,J5 O u c/\((f=none/\b=false/\(zeroValue el).run P w= .ok c w)\/(b=true/\∃ j,f=some (j,c))):=by
  intro es N;obtain⟨L,g2⟩:=Yp h5 N h7 0;cases r with
  | none=>
    obtain⟨z,y,i⟩:=A8 (show ob (Ad P el) _=some (u,b)from h8);cases i;exact⟨none,L rfl,u,(EN y w).2.1,.inl ⟨rfl,rfl,(EN (O:=O) y w).1⟩⟩
  | some v0=>
    cases h8;obtain⟨j,v',g3,g4⟩:=g2 _ rfl;exact⟨_,g3,v',g4,.inr ⟨rfl,j,rfl⟩⟩
 have fin:∀ c,J5 O u c->J5 O (bi ok (.tuple ⟨[u,.bool b]⟩) u) (if ok then .tuple #[c,.bool b]else c):=by
  intro c n;cases ok with
  |true=>exact .tuple (.cons n (.cons (.J8 rfl) .nil))
  |false=>exact n
 rcases gG R h3 with⟨rfl,g⟩|⟨J,q,rfl,Q,g⟩
 ·cases h6;obtain⟨f,f1,c,A,C⟩:=K [] .nil;refine⟨w,.value (if ok then .tuple #[c,.bool b]else c),_,O,?_,rfl,E,.refl _ _ _,fin c A⟩;rcases C with⟨rfl,rfl,D⟩|⟨rfl,j,rfl⟩
  ·simp only[execOp,l,g,s,Instr.lookup,Sem.run_bind,H9 p,Result.andThen_ok,Sem.run_pure,FP hd hik,Al hd f1,D]
  ·simp only[execOp,l,g,s,Instr.lookup,Sem.run_bind,H9 p,Result.andThen_ok,Sem.run_pure,FP hd hik,Al hd f1]
 ·obtain⟨B,y,i⟩:=A8 (show ob (Z.Se J) _=some cs from h6);cases i;obtain⟨es,clock,h11,h12⟩:=E.map J q B Q y;obtain⟨f,f1,c,A,C⟩:=K es.toList h12;refine⟨w,.value (if ok then .tuple #[c,.bool b]else c),_,O,?_,rfl,E,.refl _ _ _,fin c A⟩;rcases C with⟨rfl,rfl,D⟩|⟨rfl,j,rfl⟩
  ·simp only[execOp,l,g,s,Instr.lookup,Sem.run_bind,H9 p,Result.andThen_ok,Sem.run_pure,run_getObj_map h11,FP hd hik,Al hd f1,D]
  ·simp only[execOp,l,g,s,Instr.lookup,Sem.run_bind,H9 p,Result.andThen_ok,Sem.run_pure,run_getObj_map h11,FP hd hik,Al hd f1]
def RA {Z Z':St}{b:Nat}{cs:List Value}(h:Z.AL0 b cs=some Z'):∃ B,Z.Se b=some B/\B.own=true/\Z'=⟨Z.h.set b ⟨cs,true,true,B.ver+1,.map⟩,Z.n⟩:=by
 obtain⟨B,a,c⟩:=A8 h;obtain⟨h3,h4⟩:=J4 c;cases h4;exact⟨B,a,h3,rfl⟩
def Ix {A9:Env}{Z Z':St}{t:TypeId}{m k x:Operand}(g:o.op= .mapUpdate t m k x\/o.op= .insert t m k x) (D:P9 O fr e o.op.operands.toList) (C:Rel A9 O Z w)
  (h:Y0 P fr Z t m k x=some (v,Z')):Kb P A9 O e o Z w Z' v:=by
 obtain⟨⟨W,el⟩,L,J⟩:=A8 h;obtain⟨mv,h2,k2⟩:=A8 (show ob (ev fr m) _=some (v,Z')from J);obtain⟨a,h3,k3⟩:=A8 k2;obtain⟨mb,h4,k4⟩:=A8 k3;subst h4;obtain⟨kv,h5,k5⟩:=A8 k4;obtain⟨h6,k6⟩:=J4 k5;obtain⟨u,h7,k7⟩:=A8 k6;obtain⟨B,h8,k8⟩:=A8 k7;obtain⟨cs,h9,k9⟩:=A8 k8;obtain⟨Z1,h10,k10⟩:=A8 k9;clear h J k2 k3 k4 k5 k6 k7 k8 k9;cases k10;obtain⟨B',h11,h12,rfl⟩:=RA h10;rw[h8]at h11;cases h11;obtain⟨hf,hs,d,hd,hik⟩:=Ds h6;rw[hd]at h6;have G:=PX L;have Q:J5 O mv (e m):=D m mv (by rcases g with g|g<;>simp[g,Op.operands]) h2;have E:J5 O kv (e k):=D k kv (by rcases g with g|g<;>simp[g,Op.operands]) h5;have R:J5 O u (e x):=D x u (by rcases g with g|g<;>simp[g,Op.operands]) h7;have H:=E.flat hf;rcases gG Q h3 with⟨p,_⟩|⟨U,q,p,F,r⟩
 ·cases p
 ·cases p;obtain⟨es,f,i,z⟩:=C.map mb q B F h8
  have K:∀ (b:Array MapEntry) (l:Nat),Entries O cs b.toList->Rel A9 O ⟨Z.h.set mb ⟨cs,true,true,B.ver+1,.map⟩,Z.n⟩ { w with heap:=w.heap.setIfInBounds q.c (.map b l) } /\
    AS O Z w O ⟨Z.h.set mb ⟨cs,true,true,B.ver+1,.map⟩,Z.n⟩ { w with heap:=w.heap.setIfInBounds q.c (.map b l) }:=by
   intro b l A;refine C.set F (QC h8).1 h12 rfl rfl (fun c M=>Array.getElem?_setIfInBounds_ne (fun N=>M N.symm)) (by simp) ⟨rfl,rfl,rfl⟩ (.map rfl ⟨b,l,?_,A⟩);have:=C.dom mb q F;simp[this]
  have s:∃ b l,Entries O cs b.toList/\(Instr.mapUpdate t (e m) (e k) (e x)).run P w= .ok () { w with heap:=w.heap.setIfInBounds q.c (.map b l) }:=by
   rcases Yq h6 R z h9 0 with⟨y,g2⟩|⟨j,v',I,y,g2,g3,g4⟩
   ·refine⟨es.push ⟨kv,e x,f⟩,f+1,by simpa using g2 f,?_⟩;simp only[r,H,Instr.mapUpdate,Sem.run_bind,H9 G,Result.andThen_ok,run_getObj_map i,FP hd hik,Al hd y,run_setObj_map _ i]
   ·refine⟨es.modify j fun I=>{ I with key:=kv,val:=e x },f,by simpa using g4,?_⟩;have S:((es[j]?).map (·.key)).getD kv=kv:=by
     rw[<- Array.getElem?_toList,g2];exact g3
    have V:(Instr.keyThatStays kv kv).run P w= .ok kv w:=by
     unfold Instr.keyThatStays;have:Instr.sameBits 10000 kv kv=true:=by
      cases d with
      |string=>cases kv<;>simp_all[IsKey];simp[Instr.sameBits,(bytes_beq _ _).2 rfl]
      |int=>cases kv<;>simp_all[IsKey];simp[Instr.sameBits]
      |bool=>cases kv<;>simp_all[IsKey];simp[Instr.sameBits]
      |_=>cases kv<;>simp[IsKey]at hik
     rw[this];rfl
    simp only[Eo]at y;simp only[r,H,Instr.mapUpdate,Sem.run_bind,H9 G,Result.andThen_ok,run_getObj_map i,FP hd hik,Al hd y,S,V,run_setObj_map _ i]
  obtain⟨b,l,A,s⟩:=s;obtain⟨r1,r2⟩:=K b l A;refine⟨_,.skip,undef,O,?_,rfl,r1,r2,.tuple .nil⟩;rcases g with g|g
  ·simp only[execOp,g,Sem.run_bind,s,Result.andThen_ok];rfl
  ·simp only[execOp,g,Sem.run_bind,s,Result.andThen_ok];rfl
def So {A9:Env}{Z Z':St}{t:TypeId}{r:Option Operand}{N:Nat}(j:o.op= .makeMap t r) (g:Rel A9 O Z w) (d:Cz O Z.n N) (f:Z'.n<=N)
  (h:Fc fr Z r=some (v,Z')):Kb P A9 O e o Z w Z' v:=by
 obtain⟨a,b⟩:=J4 h;cases b;cases r with
 |some=>cases a
 | none=>
   have i:O Z.n=none:=d Z.n nL (z5z (JQ _) f)
   obtain⟨l,m⟩:=g.Hg (w':={ w with heap:=w.heap.push (.map #[] 0) }) (cs:=[]) (k:= .map) (c:=w.heap.size) i nL (by simp) (by simp) (fun c p=>by
    show(w.heap.push _)[c]? =_;rw[Array.getElem?_push,z0z om]) ⟨rfl,rfl,rfl⟩ (.map rfl ⟨#[],0,by simp,.nil⟩)
   refine⟨_,.value (.map (some w.heap.size)),_,_,?_,rfl,l,m,.map (q:=⟨w.heap.size,0,0⟩) (Place.S9 _ _ _)⟩;simp only[execOp,j,Th,Instr.makeMap,Sem.run_bind,Sem.run_pure,run_newObj,Result.andThen_ok]
end
end
end Go.Ab
