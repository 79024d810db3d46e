/- BB8 an abstract machine for the He code: Wc grow BI2 new blocks, fE run in the order of the text, and Ia is not covered has no result. -/
import Derived.Orders
import Derived.KernelRfl
import Derived.Laws.Cells
import Derived.Laws.Strings
import Derived.MapKept
import Derived.RangeFuncRecord
set_option linter.unusedSimpArgs false
set_option linter.unusedVariables false
set_option linter.defProp false
set_option maxHeartbeats 32000000
set_option maxRecDepth 100000
namespace Go.Ab
def om {p:Prop} (h:p:=by omega):p:=h
def z0z:=@if_neg
def z1z:=@if_pos
def z2z:=@List.length_map
def z3z:=@decide_eq_true_iff
def z4z:=@decide_eq_false
def z5z:=@Nat.lt_of_lt_of_le
def z6z:=@of_decide_eq_true
def z7z:=@Bool.eq_iff_iff
def z8z:=@Option.some.inj
def z9z:=@of_decide_eq_false
def Ag:=@List.mem_of_getElem?
def j9:=@Nat.le_trans
def AU:=@Nat.lt_or_ge
def Bh:=@Nat.le_refl
def R2:=@Bool.and_eq_true
def HI:=@List.map_append
def BH:=@Nat.zero_le
def Ai:=@Nat.eq_of_beq_eq_true
def Ap:=@List.length_cons
def AW:=@decide_eq_true
def CU:=@List.length_append
def W1:=@List.mem_cons
def Jf:=@List.take_length
def Lr:=@Bool.false_and
def DG:=@Nat.mul_comm
def BW:=@Nat.blt_eq
def Ip:=@Nat.mul_one
def EM:=@List.mem_append
def Io:=@Bool.true_and
def Jw:=@List.length_take
def Rv:=@List.take_add_one
def FB:=@if_true
def j7:=@Nat.add_zero
def Gb:=@Nat.mul_assoc
def MD:=@List.length_drop
def Yd:=@Bool.not_false
def De:=@List.mem_cons_of_mem
def JB:=@List.mem_singleton
def HG:=@Nat.pow_succ
def GK:=@Nat.zero_add
def GY:=@List.all_eq_true
def GZ:=@if_false
def Ls:=@Bool.and_false
def lK:=@Bool.not_true
def Ob:=@decide_eq_false_iff_not
def GH:=@Nat.zero_mul
def IH:=@Array.getD_eq_getD_getElem?
def Je:=@Bool.false_eq_true
def IP:=@Nat.mod_lt
def RI:=@Bool.or_eq_true
def EO:=@decide_eq_true_eq
def HV:=@List.mem_cons_self
def Du:=@List.append_nil
def Jg:=@List.length_nil
def Jo:=@Nat.le_of_ble_eq_true
def Jp:=@Int.ofNat_eq_natCast
def Og:=@List.take_of_length_le
def OU:=@List.append_assoc
def UM:=@List.drop_drop
def EP:=@List.not_mem_nil
def Oe:=@List.drop_eq_getElem_cons
def EK:=@or_false
def Jt:=@Nat.lt_succ_self
def eE:=@List.mem_map
def MC:=@List.nil_append
def QD:=@Array.length_toList
def LN:=@List.cons_append
def Yy:=@Nat.sub_zero
def UE:=@Nat.add_assoc
def Ap4:=@List.contains_iff_mem
def UA:=@Nat.succ_mul
def UF:=@Nat.add_mul
def Oi:=@Nat.mul_add
def kh:=@Nat.mul_le_mul_right
def Od:=@List.all_cons
def NG:=@List.drop_zero
def mE:=@Nat.pow_le_pow_right
def pS:=@Nat.min_eq_left
def UN:=@List.flatten_cons
def RR:=@List.mem_of_mem_take
def dR:=@Bool.and_true
def lC:=@List.takeWhile_cons
def Wf:=@Nat.eq_zero_or_pos
def WI:=@List.eq_nil_of_length_eq_zero
def mD:=@Nat.pow_pos
def RN:=@Nat.one_mul
def Rb:=@List.length_eq_zero_iff
def xY:=@List.mem_range
def dB:=@List.mem_of_mem_drop
def Aa1:=@beq_eq_false_iff_ne
def FM:=@Int.eq_ofNat_of_zero_le
def eF:=@Nat.mul_zero
def eS:=@Nat.lt_trichotomy
def eZ:=@Int.negSucc_eq
def Yz:=@Nat.sub_self
def SR:=@List.map_cons
def YW:=@List.foldl_cons
def RU:=@Nat.mod_eq_of_lt
def Uh:=@Option.map_some
def RW:=@Nat.gcd_comm
def tN:=@List.all_append
def Uy:=@Option.map_none
def SC:=@Array.toList_inj
def Zf:=@List.take_take
def Sq:=@Nat.div_add_mod
def TU:=@Classical.byContradiction
def Vr:=@mem_ready
def Vs:=@Nat.add_right_cancel_iff
def AL6:=@Nat.le_add_right
def Ya:=@Array.size_append
def Yb:=@Nat.mul_le_mul_left
def Jq:=@Int.toNat_natCast
def KD:=@Nat.div_le_self
def aX:=@List.foldl_append
def AN4:=@List.mem_iff_getElem?
def PZ:=@List.take_zero
def iI:=@List.drop_length
def IT:=@Nat.mul_le_mul
def bQ:=@Nat.testBit_or
def cI:=@Nat.le_antisymm
def AR6:=@List.length_singleton
def ga:=@Array.size_replicate
def AN3:=@Nat.gcd_pos_of_pos_right
def ui:=@Option.map_eq_some_iff
def rG:=@Bool.eq_false_iff
def ij:=@Nat.div_lt_of_lt_mul
def il:=@Nat.add_le_add_right
def AL4:=@List.length_pos_iff
def jK:=@Nat.pow_zero
def jR:=@List.count_cons
def AP2:=@Nat.add_comm
def gY:=@Array.foldl_toList
def pD:=@Array.toList_map
def pE:=@List.mapM_cons
def pF:=@Nat.gcd_zero_right
def pG:=@Nat.gcd_rec
def qG:=@Nat.div_one
def qW:=@List.length_set
def AO8:=@List.dropLast_concat_getLast
def sd:=@Nat.mul_mod
def se:=@Nat.zero_mod
def uZ:=@Nat.mul_lt_mul_left
def ue:=@Nat.mul_eq_zero
def ug:=@Nat.div_eq_of_lt
def uh:=@List.mem_flatten
def uj:=@Oper.upon_value
def vY:=@Nat.mod_two_eq_zero_or_one
def Ue:=@Int.mul_ediv_cancel_left
def iJ:=@List.drop_of_length_le
def AL5:=@Array.mapM_eq_mapM_toList
def AL7:=@Array.toList_append
def AL8:=@Nat.le_mul_of_pos_right
def AM0:=@Nat.ble_eq_true_of_le
def AN9:=@List.mem_or_eq_of_mem_set
def AO0:=@Array.toList_extract
def AO1:=@List.extract_eq_take_drop
def AO4:=@Nat.div_le_of_le_mul
def iB:=@List.take_append_drop
def AO9:=@Int.negSucc_lt_zero
def Uf:=@Int.tmod_eq_emod_of_nonneg
def AL3:=@List.pairwise_iff_getElem
def AP5:=@Array.size_setIfInBounds
def AP8:=@List.replicate_succ
def AP9:=@Nat.eq_of_mul_eq_mul_left
def AQ6:=@List.eq_nil_iff_forall_not_mem
def AQ7:=@Array.toList_setIfInBounds
def AR7:=@Nat.lt_of_mul_lt_mul_right
theorem aI {a b:Prop} (x:a) (y:b):a/\b:=⟨x,y⟩
theorem a3N {a b c:Prop}(d:a)(e:b)(f:c):a/\b/\c:=⟨d,e,f⟩
theorem a4N {a b c d:Prop}(e:a)(f:b)(g:c)(h:d):a/\b/\c/\d:=⟨e,f,g,h⟩
theorem a5N {a b c d e:Prop}(f:a)(g:b)(h:c)(i:d)(j:e):a/\b/\c/\d/\e:=⟨f,g,h,i,j⟩
theorem a6N {a b c d e f:Prop}(g:a)(h:b)(i:c)(j:d)(k:e)(l:f):a/\b/\c/\d/\e/\f:=⟨g,h,i,j,k,l⟩
theorem a7N {a b c d e f g:Prop}(h:a)(i:b)(j:c)(k:d)(l:e)(m:f)(n:g):a/\b/\c/\d/\e/\f/\g:=⟨h,i,j,k,l,m,n⟩
theorem a8N {a b c d e f g h:Prop}(i:a)(j:b)(k:c)(l:d)(m:e)(n:f)(o:g)(p:h):a/\b/\c/\d/\e/\f/\g/\h:=⟨i,j,k,l,m,n,o,p⟩
theorem a9N {a b c d e f g h p8:Prop}(i:a)(j:b)(k:c)(l:d)(m:e)(n:f)(o:g)(p:h)(q:p8):a/\b/\c/\d/\e/\f/\g/\h/\p8:=⟨i,j,k,l,m,n,o,p,q⟩
theorem a10N {a b c d e f g h p8 i:Prop}(j:a)(k:b)(l:c)(m:d)(n:e)(o:f)(p:g)(q:h)(r:p8)(s:i):a/\b/\c/\d/\e/\f/\g/\h/\p8/\i:=⟨j,k,l,m,n,o,p,q,r,s⟩
theorem a11N {c d e f g h i j p8 k a:Prop}(l:c)(m:d)(n:e)(o:f)(p:g)(q:h)(r:i)(s:j)(u:p8)(v:k)(b:a):c/\d/\e/\f/\g/\h/\i/\j/\p8/\k/\a:=⟨l,m,n,o,p,q,r,s,u,v,b⟩
theorem a12N {e f g h i j k l p8 m a b:Prop}(n:e)(o:f)(p:g)(q:h)(r:i)(s:j)(u:k)(v:l)(y:p8)(z:m)(c:a)(d:b):e/\f/\g/\h/\i/\j/\k/\l/\p8/\m/\a/\b:=⟨n,o,p,q,r,s,u,v,y,z,c,d⟩
theorem a13N {g h i j k l m n p8 o a b c:Prop}(p:g)(q:h)(r:i)(s:j)(u:k)(v:l)(y:m)(z:n)(A:p8)(B:o)(d:a)(e:b)(f:c):g/\h/\i/\j/\k/\l/\m/\n/\p8/\o/\a/\b/\c:=⟨p,q,r,s,u,v,y,z,A,B,d,e,f⟩
theorem a14N {i j k l m n o p p8 q a b c d:Prop}(r:i)(s:j)(u:k)(v:l)(y:m)(z:n)(A:o)(B:p)(C:p8)(D:q)(e:a)(f:b)(g:c)(h:d):i/\j/\k/\l/\m/\n/\o/\p/\p8/\q/\a/\b/\c/\d:=⟨r,s,u,v,y,z,A,B,C,D,e,f,g,h⟩
theorem a15N {k l m n o p q r p8 s a b c d e:Prop}(u:k)(v:l)(y:m)(z:n)(A:o)(B:p)(C:q)(D:r)(E:p8)(F:s)(f:a)(g:b)(h:c)(i:d)(j:e):k/\l/\m/\n/\o/\p/\q/\r/\p8/\s/\a/\b/\c/\d/\e:=⟨u,v,y,z,A,B,C,D,E,F,f,g,h,i,j⟩
theorem a16N {m n o p q r s u p8 v a b c d e f:Prop}(y:m)(z:n)(A:o)(B:p)(C:q)(D:r)(E:s)(F:u)(G:p8)(H:v)(g:a)(h:b)(i:c)(j:d)(k:e)(l:f):m/\n/\o/\p/\q/\r/\s/\u/\p8/\v/\a/\b/\c/\d/\e/\f:=⟨y,z,A,B,C,D,E,F,G,H,g,h,i,j,k,l⟩
def kR {p:Prop}(h:p:=by kernel_rfl):p:=h
def sI {p:Prop}(h:p:=by simp):p:=h
def nL {n:Nat}:n<=n:=Bh n
def dF {p:Prop}[Decidable p](h: ¬p:=by omega):decide p=false:=z4z h
def dT {p:Prop}[Decidable p](h:p:=by omega):decide p=true:=AW h
def eT {d:Type}{a b c:d}(h:a=b)(g:b=c):a=c:=h.trans g
def nW {c:Type}(a:c):∃ b,a=b:=⟨_,rfl⟩
noncomputable section
open Go
def ob {b a:Type}(x:Option b) (f:b->Option a):Option a:=Option.rec (motive:=fun _=>Option a) none f x
def bb {a:Type}(c:Bool) (x:Option a):Option a:=Bool.rec (motive:=fun _=>Option a) none x c
def bi {a:Type}(c:Bool) (x y:a):a:=Bool.rec (motive:=fun _=>a) y x c
def pr {b c a:Type}(p:b×c) (f:b->c->a):a:=Prod.rec (motive:=fun _=>a) f p
inductive Tr (α:Type) where
 |nil
 |node (l:Tr α) (v:Option α) (r:Tr α)
def Tr.get {a:Type}(t:Tr a):Nat->Option a :=
 Tr.rec (motive:=fun _=>Nat->Option a) (fun _=>none)
  (fun _ v _ gl gr n=>Nat.rec (motive:=fun _=>Option a) v (fun m _=>Nat.rec (motive:=fun _=>Option a) (gl (m / 2)) (fun _ _=>gr (m / 2)) (m % 2)) n) t
def Tr.one {b:Type}(f:Nat):Nat->b->Tr b :=
 Nat.rec (motive:=fun _=>Nat->b->Tr b) (fun _ _=> .nil)
  (fun _ c n a=>Nat.rec (motive:=fun _=>Tr b) (.node .nil (some a) .nil) (fun m _=>Nat.rec (motive:=fun _=>Tr b) (.node (c (m / 2) a) none .nil) (fun _ _=> .node .nil none (c (m / 2) a)) (m % 2)) n) f
def Tr.set {b:Type}(t:Tr b):Nat->b->Tr b :=
 Tr.rec (motive:=fun _=>Nat->b->Tr b) (fun n a=>Tr.one (n+1) n a)
  (fun l v r sl c n a=>Nat.rec (motive:=fun _=>Tr b) (.node l (some a) r) (fun m _=>Nat.rec (motive:=fun _=>Tr b) (.node (sl (m / 2) a) v r) (fun _ _=> .node l v (c (m / 2) a)) (m % 2)) n) t
inductive Kind where
 |row (t:Option TypeId)
 |map
 |loop (fr:Tr Value) (ps:List Nat) (assign body:Code) (st:LoopState) (R9:Option Code)
structure Blk where
 cells:List Value
 live:Bool
 own:Bool
 ver:Nat
 kind:Kind
structure St where
 h:Tr Blk
 n:Nat
inductive Out where
 |normal|exit (id:Nat)|ret|pan (v:Value)
def St.Dt (Z:St) (cs:List Value) (k:Kind):St:=⟨Z.h.set Z.n ⟨cs,true,true,0,k⟩,Z.n+1⟩
def St.new (Z:St) (cs:List Value) (t:Option TypeId:=none):St:=Z.Dt cs (.row t)
def St.blk (Z:St) (b:Nat):Option Blk:=ob (Z.h.get b) fun B=>bb B.live (some B)
def St.Gc (Z:St) (b:Nat):Option Blk:=ob (Z.blk b) fun B=>Kind.rec (motive:=fun _=>Option Blk) (fun _=>some B) none (fun _ _ _ _ _ _=>none) B.kind
def St.UG (Z:St) (b:Nat):Option Blk:=ob (Z.blk b) fun B=>Kind.rec (motive:=fun _=>Option Blk) (fun _=>none) (some B) (fun _ _ _ _ _ _=>none) B.kind
def St.ver (Z:St) (b:Nat):Nat:=match Z.h.get b with
 |some B=>B.ver
 |none=>0
def takeN {a:Type}(n:Nat):List a->Option (List a) :=
 Nat.rec (motive:=fun _=>List a->Option (List a)) (fun _=>some [])
  (fun _ b l=>List.rec (motive:=fun _=>Option (List a)) none (fun x xs _=>ob (b xs) fun r=>some (x::r)) l) n
def Vt {a:Type}(n:Nat):List a->Option (List a) :=
 Nat.rec (motive:=fun _=>List a->Option (List a)) (fun l=>some l)
  (fun _ b l=>List.rec (motive:=fun _=>Option (List a)) none (fun _ xs _=>b xs) l) n
def sub {a:Type}(cs:List a) (off n:Nat):Option (List a):=ob (Vt off cs) fun l=>takeN n l
def over {a:Type}(new:List a):List a->Option (List a) :=
 List.rec (motive:=fun _=>List a->Option (List a)) (fun l=>some l)
  (fun v _ b l=>List.rec (motive:=fun _=>Option (List a)) none (fun _ xs _=>ob (b xs) fun r=>some (v::r)) l) new
def N8 {a:Type}(cs:List a) (off:Nat) (new:List a):Option (List a) :=
 (Nat.rec (motive:=fun _=>List a->Option (List a)) (fun l=>over new l)
   (fun _ b l=>List.rec (motive:=fun _=>Option (List a)) none (fun x xs _=>ob (b xs) fun r=>some (x::r)) l) off:List a->Option (List a)) cs
def St.read (Z:St) (b off n:Nat):Option (List Value):=ob (Z.Gc b) fun B=>sub B.cells off n
def St.write (Z:St) (b off:Nat) (a:List Value):Option St:=ob (Z.Gc b) fun B=>bb B.own (ob (N8 B.cells off a) fun cs=>some ⟨Z.h.set b ⟨cs,true,true,B.ver+1,B.kind⟩,Z.n⟩)
def St.kill (Z:St) (b:Nat):Option St:=ob (Z.Gc b) fun B=>bb B.own (some ⟨Z.h.set b ⟨[],false,true,B.ver+1,.row none⟩,Z.n⟩)
def St.AY1 (Z:St) (b:Nat) (cs:List Value):Option St:=ob (Z.UG b) fun B=>bb B.own (some ⟨Z.h.set b ⟨cs,true,true,B.ver+1,.map⟩,Z.n⟩)
def St.Bc (Z:St) (b:Nat) (e:LoopState) (a:Option Code):Option St:=ob (Z.blk b) fun B=>bb B.own (Kind.rec (motive:=fun _=>Option St) (fun _=>none) none (fun d ps c bd _ _=>some ⟨Z.h.set b ⟨[],true,true,B.ver+1,.loop d ps c bd e a⟩,Z.n⟩) B.kind)
def J6 (v:Value):List Value:=match v with| .agg cs=>cs.toList|v=>[v]
def R6:Value:= .tuple #[]
def L8 (v:Value):Bool:=match v with
 | .agg _=>false
 | .tuple _=>false
 |_=>true
def DX (v:Value):Bool:=match v with
 | .tuple _=>true
 |_=>false
def I3 (v:Value):Bool:=match v with
 | .bool _| .int .. | .string _| .float .. | .complex .. | .nilFunc| .nilIface=>true
 | .pointer none| .map none| .chan none| .slice none 0 0=>true
 |_=>false
def HZ (l:List Value):Bool:=List.rec (motive:=fun _=>Bool) true (fun v _ a=>bi (I3 v) a false) l
def KO (v:Value):Bool:=match v with
 | .agg ⟨l⟩=>HZ l
 |v=>I3 v
def wD (v:Value):Bool:=match v with
 | .tuple ⟨l⟩=>HZ l
 |v=>KO v
def cst (v:Value):Option Value:=bb (KO v) (some v)
def O8 {α:Type}(p:Program):Sem α->Option α
 | .pure a=>some a
 | .program k=>O8 p (k p)
 | .mark _ k=>O8 p k
 |_=>none
mutual
def flat:Value->Bool
 | .bool _| .int .. | .string _| .float .. | .complex .. | .nilFunc| .nilIface=>true
 | .pointer a=>a.isNone
 | .map a=>a.isNone
 | .chan a=>a.isNone
 | .agg cs=>Lm cs
 | .tuple cs=>Lm cs
 | .iface _ v=>flat v
 | .slice none 0 0=>true
 | .slice .. | .func .. =>false
def Lm:Array Value->Bool
 | ⟨l⟩=>Ul l
def Ul:List Value->Bool
 | []=>true
 |v::vs=>(match flat v with|true=>Ul vs|false=>false)
end
abbrev Fr:=Tr Value
def ev (a:Fr) (x:Operand):Option Value :=
 Operand.rec (motive:=fun _=>Option Value) (fun t=>a.get t) cst (fun g=>some (.pointer (some ⟨g,0,none⟩))) (fun f=>some (.func (.func f) #[] #[])) x
def evs (a:Fr) (l:List Operand):Option (List Value) :=
 List.rec (motive:=fun _=>Option (List Value)) (some []) (fun o _ b=>ob (ev a o) fun v=>ob b fun c=>some (v::c)) l
def size? (P:Program) (t:TypeId):Option Nat:=match P.info? t with|some i=>some i.size|none=>none
def Ax3:TypeDesc->Bool
 | .struct _| .array _ _=>true
 |_=>false
def MY (P:Program) (t:TypeId):Option Bool:=match P.underlying t with
 |some d=>some (Ax3 d)
 |none=>none
def LL (l:List Value):Option Value:=match l with
 | [v]=>some v
 |_=>none
def jA (P:Program) (Z:St) (t:TypeId) (b off:Nat):Option Value :=
 ob (MY P t) fun g=>bi g (ob (size? P t) fun n=>ob (Z.read b off n) fun cs=>some (.agg ⟨cs⟩)) (ob (Z.read b off 1) LL)
def at? (v:Value):Option (Nat×Nat):=match v with
 | .pointer (some ⟨b,off,none⟩)=>some (b,off)
 |_=>none
def Po (P:Program) (Z:St) (t:TypeId) (a:Value):Option Value:=ob (at? a) fun p=>pr p fun b off=>jA P Z t b off
def Sd (P:Program) (Z:St) (t:TypeId) (a v:Value):Option St :=
 ob (at? a) fun p=>pr p fun b off=>ob (size? P t) fun n=>bi (DX v) none (bb ((J6 v).length.beq n) (Z.write b off (J6 v)))
def Bn (P:Program) (t:TypeId):Option Value:=ob (P.info? t) fun i=>ob i.zero cst
def wU (P:Program) (t:TypeId) (cs:List Value) (off:Nat):Option Value :=
 ob (MY P t) fun g=>bi g (ob (size? P t) fun n=>ob (sub cs off n) fun l=>some (.agg ⟨l⟩)) (ob (sub cs off 1) LL)
def nat? (v:Value):Option Nat:=match v with
 | .int _ (.ofNat n)=>some n
 |_=>none
def mA (a:Nat) (hi:Option Value):Option Nat:=match hi with|some v=>nat? v|none=>some a
def dY (b a:Nat) (lo hi:Option Value):Option (Nat×Nat) :=
 ob (mA b hi) fun h=>bb (h.ble a) (ob (mA 0 lo) fun l=>bb (l.ble h) (some (l,h)))
def rep {a:Type}(l:List a) (n:Nat):List a:=Nat.rec (motive:=fun _=>List a) [] (fun _ b=>l++b) n
def DW (place:Nat->Option (Nat×Nat)) (parts:List (Nat×Value)):List Value->Option (List Value) :=
 List.rec (motive:=fun _=>List Value->Option (List Value)) (fun cells=>some cells)
  (fun p _ a cells=>pr p fun i v=>ob (place i) fun q=>pr q fun off n=>bi (DX v) none (bb ((J6 v).length.beq n) (ob (N8 cells off (J6 v)) a))) parts
def ET (s:List UInt8):List Value:=s.map fun b=> .int .u8 b.toNat
def QC (v:Value):Option UInt8:=match v with
 | .int .u8 n=>some (UInt8.ofNat n.toNat)
 |_=>none
def Ba (l:List Value):Option (List UInt8) :=
 List.rec (motive:=fun _=>Option (List UInt8)) (some []) (fun v _ a=>ob (QC v) fun b=>ob a fun bs=>some (b::bs)) l
def Az (Z:St) (size:Nat) (v:Value):Option (Nat×List Value):=match v with
 | .slice none n _=>bb (n.beq 0) (some (0,[]))
 | .slice (some ⟨b,off,_⟩) n _=>ob (Z.read b off (n*size)) fun cs=>some (n,cs)
 | .string s=>bb (Nat.beq size 1) (some (s.data.toList.length,ET s.data.toList))
 |_=>none
def elem? (P:Program) (t:TypeId):Option TypeId:=match P.underlying t with|some (.slice e)=>some e|_=>none
def room:Nat:=4294967296
def DD (Z:St) (size:Nat) (B8:Option Addr) (len a n:Nat) (new:List Value):Option (Value×St):=match B8 with
 |some ⟨b,off,sp⟩=>ob (Z.write b (off+len*size) new) fun Z=>some (.slice (some ⟨b,off,sp⟩) (len+n) a,Z)
 |none=>bb (Nat.beq (len+n+a) 0) (some (.slice none 0 0,Z))
def St.typ (Z:St) (b:Nat):Option TypeId:=ob (Z.h.get b) fun B=>Kind.rec (motive:=fun _=>Option TypeId) (fun t=>t) none (fun _ _ _ _ _ _=>none) B.kind
def PR (e:TypeId) (off:Nat) (t:Option TypeId):Option TypeId:=ob t fun x=>bb (Nat.beq x e) (bb (Nat.beq off 0) (some e))
def Bv (e:TypeId) (Z:St) (size:Nat) (B8:Option Addr) (len n:Nat) (new:List Value):Option (Value×St):=match B8 with
 |none=>bb (Nat.beq len 0) (some (.slice (some ⟨Z.n,0,some size⟩) n n,Z.new new (some e)))
 |some ⟨b,off,none⟩=>ob (Z.read b off (len*size)) fun old=>some (.slice (some ⟨Z.n,0,some size⟩) (len+n) (len+n),Z.new (old++new) (some e))
 |some ⟨b,off,some s⟩=>bb (Nat.beq s size) (ob (Z.read b off (len*size)) fun old=>ob (Z.kill b) fun Z'=>some (.slice (some ⟨Z'.n,0,some size⟩) (len+n) (len+n),Z'.new (old++new) (PR e off (Z.typ b))))
def Dj (P:Program) (Z:St) (t:TypeId) (s x:Value):Option (Value×St) :=
 ob (elem? P t) fun e=>ob (P.info? e) fun i=>match s with
  | .slice B8 len cap=>ob (Az Z i.size x) fun p=>pr p fun n new=>bb (Nat.ble 1 i.size) (bi (Nat.ble (len+n) cap)
     (DD Z i.size B8 len cap n new)
     (bb (Nat.ble ((len+n)*(i.bytes+1)) room) (ob (Bn P e) fun z=>bb ((J6 z).length.beq i.size) (Bv e Z i.size B8 len n new))))
  |_=>none
def qX (d:Option TypeDesc) (v:Value):Option Nat:=match d with
 |some .string=>(match v with| .string s=>some s.data.toList.length|_=>none)
 |some (.slice _)=>(match v with| .slice _ n _=>some n|_=>none)
 |_=>none
def inR (k:IntKind) (n:Int):Bool:=match k,n with
 | .i64,.ofNat m=>Nat.blt m 9223372036854775808
 | .i64,.negSucc m=>Nat.blt m 9223372036854775808
 | .u8,.ofNat m=>Nat.blt m 256
 | .u64,.ofNat m=>Nat.blt m 18446744073709551616
 |_,_=>false
def L9 (k:IntKind) (n:Int):Int:=bi (inR k n) n (k.wrap n)
def ieq (a b:Int):Bool:=match a,b with
 | .ofNat a,.ofNat b=>Nat.beq a b
 | .negSucc a,.negSucc b=>Nat.beq a b
 |_,_=>false
def ilt (a b:Int):Bool:=match a,b with
 | .ofNat a,.ofNat b=>Nat.blt a b
 | .negSucc a,.negSucc b=>Nat.blt b a
 | .negSucc _,.ofNat _=>true
 | .ofNat _,.negSucc _=>false
def keq (a b:IntKind):Bool:=Nat.beq a.ctorIdx b.ctorIdx
def MN (a:List UInt8):List UInt8->Bool :=
 List.rec (motive:=fun _=>List UInt8->Bool) (fun b=>List.rec (motive:=fun _=>Bool) true (fun _ _ _=>false) b)
  (fun x _ c b=>List.rec (motive:=fun _=>Bool) false (fun y ys _=>bi (Nat.beq x.toNat y.toNat) (c ys) false) b) a
def Ar8 (op:BinOp):IntKind->Int->Int->Option Value :=
 BinOp.rec (motive:=fun _=>IntKind->Int->Int->Option Value)
  (fun k a b=>some (.int k (L9 k (a+b))))
  (fun k a b=>some (.int k (L9 k (a-b))))
  (fun k a b=>some (.int k (L9 k (a*b))))
  (fun _ _ _=>none)
  (fun _ _ _=>none)
  (fun _ _ _=>none)
  (fun _ _ _=>none)
  (fun _ _ _=>none)
  (fun _ _ _=>none)
  (fun _ _ _=>none)
  (fun _ _ _=>none)
  (fun _ a b=>some (.bool (ieq a b)))
  (fun _ a b=>some (.bool (bi (ieq a b) false true)))
  (fun _ a b=>some (.bool (ilt a b)))
  (fun _ a b=>some (.bool (bi (ilt b a) false true)))
  (fun _ a b=>some (.bool (ilt b a)))
  (fun _ a b=>some (.bool (bi (ilt a b) false true))) op
def BK5 (op:BinOp):ByteArray->ByteArray->Option Value :=
 BinOp.rec (motive:=fun _=>ByteArray->ByteArray->Option Value)
  (fun a b=>bb (Nat.ble (a.data.toList.length+b.data.toList.length) room) (some (.string ⟨(a.data.toList++b.data.toList).toArray⟩)))
  (fun _ _=>none)
  (fun _ _=>none)
  (fun _ _=>none)
  (fun _ _=>none)
  (fun _ _=>none)
  (fun _ _=>none)
  (fun _ _=>none)
  (fun _ _=>none)
  (fun _ _=>none)
  (fun _ _=>none)
  (fun a b=>some (.bool (MN a.data.toList b.data.toList)))
  (fun a b=>some (.bool (bi (MN a.data.toList b.data.toList) false true)))
  (fun _ _=>none)
  (fun _ _=>none)
  (fun _ _=>none)
  (fun _ _=>none) op
def JW (op:BinOp) (x y:Value):Option Value:=match x with
 | .int k a=>(match y with
   | .int k' b=>bb (keq k k') (Ar8 op k a b)
   |_=>none)
 | .string a=>(match y with
   | .string b=>BK5 op a b
   |_=>none)
 |_=>none
def KI (a:Bool) (v w:Value):Option Value:=match v with
 | .int k x=>(match w with
   | .int _ y=>some (.int k (bi a (bi (ilt x y) y x) (bi (ilt y x) y x)))
   |_=>none)
 |_=>none
def mm (a:Bool) (l:List Value):Value->Option Value :=
 List.rec (motive:=fun _=>Value->Option Value) (fun v=>some v) (fun x _ b v=>ob (KI a v x) b) l
def Ej (d:Option TypeDesc) (x y:Value):Option Bool:=match d with
 | some (.pointer _)=>(match x,y with
   | .pointer none,.pointer none=>some true
   | .pointer none,.pointer (some _)=>some false
   | .pointer (some _),.pointer none=>some false
   |_,_=>none)
 | some (.slice _)=>(match x,y with
   | .slice none _ _,.slice none _ _=>some true
   | .slice none _ _,.slice (some _) _ _=>some false
   | .slice (some _) _ _,.slice none _ _=>some false
   |_,_=>none)
 | some (.func ..)=>(match x,y with
   | .nilFunc,.nilFunc=>some true
   | .nilFunc,.func .. =>some false
   | .func ..,.nilFunc=>some false
   |_,_=>none)
 | some (.interface _)=>(match x,y with
   | .nilIface,.iface .. =>some false
   | .iface ..,.nilIface=>some false
   |_,_=>none)
 |_=>none
def LS (n:Option Next):Option Value:=match n with
 |some (.value v)=>some v
 |_=>none
def LX (P:Program) (a:Fr) (o:Oper):Option Value :=
 ob (LS (O8 P (execOp (fun x=>(ev a x).getD R6) o))) cst
def qy (P:Program) (t:TypeId) (op:BinOp) (x y:Value):Option Value:=match op with
 | .eql=>ob (Ej (P.underlying t) x y) fun b=>some (.bool b)
 | .neq=>ob (Ej (P.underlying t) x y) fun b=>some (.bool !b)
 |_=>none
def orV (x y:Option Value):Option Value:=Option.rec (motive:=fun _=>Option Value) y (fun v=>some v) x
def yQ (P:Program) (a:Fr) (o:Oper) (op:BinOp) (t:TypeId) (x y:Value):Option Value :=
 orV (JW op x y) (bi (flat x&&flat y) (LX P a o) (qy P t op x y))
/- The operations that do not BV4 memory. -/
def bool? (v:Value):Option Bool:=match v with
 | .bool b=>some b
 |_=>none
def KJ (d:Fr) (c a b:Operand):Option Value:=ob (ev d c) fun v=>ob (bool? v) fun t=>bi t (ev d a) (ev d b)
def WK (P:Program) (l:List Field):Option (List (Nat×Nat)) :=
 List.rec (motive:=fun _=>Option (List (Nat×Nat))) (some []) (fun f _ a=>ob (size? P f.type) fun n=>ob a fun r=>some ((f.offset,n)::r)) l
def Dq (P:Program) (t:TypeId) (z:List Value) (parts:List (Nat×Value)):Option Value:=match P.underlying t with
 |some (.struct fs)=>ob (WK P fs.toList) fun ps=>ob (DW (fun i=>ps[i]?) parts z) fun l=>some (.agg ⟨l⟩)
 |some (.array _ e)=>ob (size? P e) fun n=>ob (DW (fun i=>some (i*n,n)) parts z) fun l=>some (.agg ⟨l⟩)
 |_=>none
def GJ (P:Program) (a:Fr) (t:TypeId) (parts:Array (Nat×Operand)):Option Value :=
 ob (Bn P t) fun z=>ob (evs a (parts.toList.map (·.2))) fun b=>Dq P t (J6 z) ((parts.toList.map (·.1)).zip b)
def du (v:Value):Option Value:=match v with
 | .pointer (some a)=>some (.pointer (some a))
 | .func (.func f) a b=>some (.func (.func f) a b)
 | .iface t v=>some (.iface t v)
 |_=>none
def CD (a:Fr) (x:Operand):Option Value:=ob (ev a x) du
def SI (P:Program) (d:Fr) (o:Oper) (b:BinOp) (t:TypeId) (x y:Operand):Option Value:=ob (ev d x) fun a=>ob (ev d y) fun c=>yQ P d o b t a c
def FI (P:Program) (b:Fr) (o:Oper) (x:Operand):Option Value:=ob (ev b x) fun a=>bb (flat a) (LX P b o)
def concrete (d:Option TypeDesc):Bool:=match d with
 |some (.interface _)=>false
 |some _=>true
 |none=>false
def qz (P:Program) (a:Fr) (t:TypeId) (x:Operand):Option Value:=ob (ev a x) fun v=>bb (concrete (P.underlying t)) (some (.iface t v))
def YK (fn:Fn):Bool:=match fn with
 | .func _=>true
 |_=>false
def SM (c:Fr) (fn:Fn) (fs cs:Array Operand):Option Value:=ob (evs c fs.toList) fun a=>ob (evs c cs.toList) fun b=>bb (YK fn) (some (.func fn ⟨a⟩ ⟨b⟩))
def evO (a:Fr) (x:Option Operand):Option (Option Value):=match x with
 |some o=>ob (ev a o) fun v=>some (some v)
 |none=>some none
def wV (s:ByteArray) (b:Option (Nat×Nat)):Option Value:=ob b fun p=>pr p fun lo hi=>ob (sub s.data.toList lo (hi-lo)) fun l=>some (.string ⟨l.toArray⟩)
def sliceAt (n:Nat) (a:Option Addr) (lo hi c:Nat):Option Value:=match a with
 |some ⟨b,off,none⟩=>some (.slice (some ⟨b,off+lo*n,none⟩) (hi-lo) (c-lo))
 |some ⟨b,off,some s⟩=>bb (Nat.beq s n) (some (.slice (some ⟨b,off+lo*n,some s⟩) (hi-lo) (c-lo)))
 |none=>bb (Nat.beq c 0) (some (.slice none 0 0))
def kQ (P:Program) (e:TypeId) (a:Option Addr) (c:Nat) (b:Option (Nat×Nat)):Option Value :=
 ob b fun p=>pr p fun lo hi=>ob (size? P e) fun n=>sliceAt n a lo hi c
def Wp (P:Program) (t:TypeId) (v:Value) (lo hi:Option Value):Option Value:=match v with
 | .string s=>(match P.underlying t with
   |some .string=>wV s (dY s.data.toList.length s.data.toList.length lo hi)
   |_=>none)
 | .slice a len cap=>(match P.underlying t with
   |some (.slice e)=>kQ P e a cap (dY len cap lo hi)
   |_=>none)
 | .pointer (some ⟨b,off,none⟩)=>(match P.underlying t with
   |some (.array m e)=>kQ P e (some ⟨b,off,none⟩) m (dY m m lo hi)
   |_=>none)
 |_=>none
def MH (P:Program) (a:Fr) (t:TypeId) (x:Operand) (lo hi b:Option Operand):Option Value :=
 bb b.isNone (ob (ev a x) fun v=>ob (evO a lo) fun lo=>ob (evO a hi) fun hi=>Wp P t v lo hi)
def NT (P:Program) (s:TypeId) (f:Nat):Option Field:=match P.underlying s with
 |some (.struct fs)=>fs[f]?
 |_=>none
def Af (P:Program) (c:Fr) (s:TypeId) (x:Operand) (f:Nat):Option Value :=
 ob (ev c x) fun v=>ob (at? v) fun p=>pr p fun b off=>ob (NT P s f) fun a=>ob (size? P a.type) fun n=>bb (Nat.ble 1 n) (some (.pointer (some ⟨b,off+a.offset,none⟩)))
def rA (v:Value):Option (List Value):=match v with
 | .agg cs=>some cs.toList
 |_=>none
def Wu (P:Program) (b:Fr) (s:TypeId) (x:Operand) (f:Nat):Option Value :=
 ob (ev b x) fun v=>ob (rA v) fun cs=>ob (NT P s f) fun a=>wU P a.type cs a.offset
def evN (a:Fr) (x:Operand):Option Nat:=ob (ev a x) nat?
def AW3 (P:Program) (e:TypeId) (b off i len:Nat):Option Value:=bb (Nat.blt i len) (ob (size? P e) fun n=>some (.pointer (some ⟨b,off+i*n,none⟩)))
def JC (P:Program) (t:TypeId) (v:Value) (i:Nat):Option Value:=match v with
 | .slice (some ⟨b,off,_⟩) len _=>ob (elem? P t) fun e=>AW3 P e b off i len
 | .pointer (some ⟨b,off,none⟩)=>(match P.underlying t with
   |some (.array len e)=>AW3 P e b off i len
   |_=>none)
 |_=>none
def Aw (P:Program) (a:Fr) (t:TypeId) (x b:Operand):Option Value:=ob (evN a b) fun i=>ob (ev a x) fun v=>JC P t v i
def lJ (l:List UInt8):Option Value:=match l with
 | [b]=>some (.int .u8 b.toNat)
 |_=>none
def dw (P:Program) (t:TypeId) (v:Value) (i:Nat):Option Value:=match v with
 | .agg cs=>(match P.underlying t with
   |some (.array len e)=>bb (Nat.blt i len) (ob (size? P e) fun n=>wU P e cs.toList (i*n))
   |_=>none)
 | .string s=>(match P.underlying t with
   |some .string=>ob (sub s.data.toList i 1) lJ
   |_=>none)
 |_=>none
def MK (P:Program) (a:Fr) (t:TypeId) (x b:Operand):Option Value:=ob (evN a b) fun i=>ob (ev a x) fun v=>dw P t v i
def eA (v:Value):Option (List Value):=match v with
 | .tuple cs=>some cs.toList
 |_=>none
def DI (a:Fr) (t:Operand) (b:Nat):Option Value:=ob (ev a t) fun v=>ob (eA v) fun c=>ob (sub c b 1) LL
def Ra (c:Call):Option TypeId:=match c.argTypes.toList with|t::_=>some t|[]=>none
def SD (P:Program) (a:Fr) (c:Call):Option Value :=
 ob (evs a c.args.toList) fun b=>ob (LL b) fun x=>ob (Ra c) fun t=>ob (qX (P.underlying t) x) fun n=>some (.int .i64 n)
def pMM (b:Fr) (a:Bool) (c:Call):Option Value :=
 ob (evs b c.args.toList) fun d=>List.rec (motive:=fun _=>Option Value) none (fun x xs _=>mm a xs x) d
/- Operations that make one new block, of cells that values alone An3: the cells, and what the operation gv, of the BB9 number. -/
def ptrTo (n:Nat):Value:= .pointer (some ⟨n,0,none⟩)
def j8 (P:Program) (t:TypeId):Option (List Value×(Nat->Value)):=ob (Bn P t) fun z=>some (J6 z,ptrTo)
def dE (a:Fr) (x:Operand):Option (List Value×(Nat->Value)):=ob (ev a x) fun v=>bi (DX v) none (some (J6 v,ptrTo))
def Gw (P:Program) (a:Fr) (t:TypeId) (len:Nat) (parts:Array (Nat×Operand)):Option (List Value×(Nat->Value)) :=
 ob (elem? P t) fun e=>ob (size? P e) fun m=>ob (Bn P e) fun z=>ob (evs a (parts.toList.map (·.2))) fun b=>bb ((J6 z).length.beq m) (bb (Nat.ble (len*m) 16777216)
  (ob (DW (fun i=>some (i*m,m)) ((parts.toList.map (·.1)).zip b) (rep (J6 z) len)) fun l=>some (l,fun n=> .slice (some ⟨n,0,none⟩) len len)))
def isByte (d:Option TypeDesc):Bool:=match d with
 |some (.int .u8)=>true
 |_=>false
def Kj (v:Value):Option (List UInt8):=match v with
 | .string s=>some s.data.toList
 |_=>none
def Gx (P:Program) (a:Fr) (s d:TypeId) (x:Operand):Option (List Value×(Nat->Value)):=bb (P.underlying s).isSome <|
 ob (ev a x) fun v=>ob (Kj v) fun s=>ob (elem? P d) fun e=>bb (isByte (P.underlying e)) (some (ET s,fun n=> .slice (some ⟨n,0,some 1⟩) s.length s.length))
def RV (P:Program) (a:Fr) (t:TypeId) (l c:Operand):Option (List Value×(Nat->Value)) :=
 ob (elem? P t) fun e=>ob (P.info? e) fun i=>ob (Bn P e) fun z=>ob (evN a l) fun l=>ob (evN a c) fun c=>bb (Nat.ble l c) (bb (Nat.ble (c*(i.bytes+1)) room) (bb ((J6 z).length.beq i.size)
  (some (rep (J6 z) c,fun n=> .slice (some ⟨n,0,none⟩) l c))))
/- Operations that read one block: what UK yK, and which cells. -/
structure Ay where
 b:Nat
 off:Nat
 n:Nat
def span? (P:Program) (t:TypeId):Option Nat:=ob (MY P t) fun g=>bi g (size? P t) (some 1)
def Ib (P:Program) (c:Fr) (Z:St) (t:TypeId) (a:Operand):Option (Value×Ay) :=
 ob (ev c a) fun v=>ob (at? v) fun p=>pr p fun b off=>ob (span? P t) fun n=>ob (jA P Z t b off) fun v=>some (v,⟨b,off,n⟩)
def isStr (d:Option TypeDesc):Bool:=match d with
 |some .string=>true
 |_=>false
def Ou (v:Value):Option Ay:=match v with
 | .slice (some ⟨b,off,_⟩) n _=>some ⟨b,off,n⟩
 |_=>none
def pra {a:Type}(p:Ay) (f:Nat->Nat->Nat->a):a:=Ay.rec (motive:=fun _=>a) f p
def DU (P:Program) (a:Fr) (Z:St) (s d:TypeId) (x:Operand):Option (Value×Ay) :=
 ob (ev a x) fun v=>ob (Ou v) fun p=>pra p fun b off n=>ob (elem? P s) fun e=>bb (isByte (P.underlying e)) (bb (isStr (P.underlying d))
  (ob (Z.read b off n) fun l=>ob (Ba l) fun l=>some (.string ⟨l.toArray⟩,⟨b,off,n⟩)))
/- Operations that may change memory. -/
def HM (P:Program) (b:Fr) (Z:St) (t:TypeId) (a v:Operand):Option (Value×St) :=
 ob (ev b a) fun a=>ob (ev b v) fun v=>ob (Sd P Z t a v) fun Z=>some (R6,Z)
def copyV (P:Program) (Z:St) (t:TypeId) (d s:Value):Option (Value×St) :=
 ob (elem? P t) fun e=>ob (size? P e) fun size=>ob (Ou d) fun p=>pra p fun b off a=>ob (Az Z size s) fun q=>pr q fun n cs=>ob (takeN (Nat.min n a*size) cs) fun cs=>ob (Z.write b off cs) fun Z=>some (.int .i64 (Nat.min n a:Nat),Z)
def Ae6 (P:Program) (Z:St) (t:TypeId) (x:Value):Option (Value×St) :=
 ob (elem? P t) fun e=>ob (Bn P e) fun z=>ob (Ou x) fun p=>pra p fun b off n=>ob (Z.write b off (rep (J6 z) n)) fun Z=>some (R6,Z)
def sW (l:List Value):Option (Value×Value):=match l with
 | [v,w]=>some (v,w)
 |_=>none
def gi (c:Call):Option TypeId:=match c.argTypes.toList with|_::t::_=>some t|_=>none
def OQ (d:Option TypeDesc):Bool:=match d with
 |some (.int _)=>false
 |some _=>true
 |none=>false
def EU (P:Program) (a:Fr) (Z:St) (c:Call):Option (Value×St) :=
 ob (evs a c.args.toList) fun d=>ob (sW d) fun p=>pr p fun s x=>ob (Ra c) fun t=>ob (gi c) fun b=>bb (OQ (P.underlying b)) (Dj P Z t s x)
def AR8 (P:Program) (a:Fr) (Z:St) (c:Call):Option (Value×St) :=
 ob (evs a c.args.toList) fun b=>ob (sW b) fun p=>pr p fun d s=>ob (Ra c) fun t=>copyV P Z t d s
def wW (P:Program) (a:Fr) (Z:St) (c:Call):Option (Value×St) :=
 ob (evs a c.args.toList) fun b=>ob (LL b) fun x=>ob (Ra c) fun t=>Ae6 P Z t x
inductive Tgt where
 |fn (g:Nat)
 |yld (b:Nat)
structure Fun where
 g:Tgt
 first:List Value
 captured:List Value
def Na (v:Value):Option Fun:=match v with
 | .func (.func g) first captured=>some ⟨.fn g,first.toList,captured.toList⟩
 | .func (.yield b) ⟨[]⟩ ⟨[]⟩=>some ⟨.yld b,[],[]⟩
 |_=>none
structure CR where
 pan:Bool
 v:Value
 Z:St
abbrev Y4:=Tgt->List Value->St->Option CR
def Hp (call:Y4) (b:Fr) (Z:St) (c:Call) (f:Operand):Option CR :=
 ob (evs b c.args.toList) fun d=>ob (ev b f) fun v=>ob (Na v) fun f=>Fun.rec (motive:=fun _=>Option CR) (fun g first a=>call g (first++d++a) Z) f
/- At1. -/
def Da (d:Option TypeDesc) (k:Value):Bool:=match d with
 | some .string=>(match k with
   | .string _=>true
   |_=>false)
 | some (.int i)=>(match k with
   | .int j _=>keq i j
   |_=>false)
 |_=>false
def Lj (a b:Value):Option Bool:=match a with
 | .string s=>(match b with
   | .string t=>some (MN s.data.toList t.data.toList)
   |_=>none)
 | .int k n=>(match b with
   | .int l m=>bb (keq k l) (some (ieq n m))
   |_=>none)
 |_=>none
def QP (k:Value) (l:List Value):Option (Option Value) :=
 (List.rec (motive:=fun _=>Option Value->Option (Option Value)) (fun _=>some none)
   (fun x _ a p=>Option.rec (motive:=fun _=>Option (Option Value)) (a (some x)) (fun y=>ob (Lj k y) fun s=>bi s (some (some x)) (a none)) p) l:Option Value->Option (Option Value)) none
def Nj (k v:Value) (l:List Value):Option (List Value) :=
 (List.rec (motive:=fun _=>Option Value->Option (List Value)) (fun _=>some [k,v])
   (fun x xs a p=>Option.rec (motive:=fun _=>Option (List Value)) (a (some x)) (fun y=>ob (Lj k y) fun s=>bi s (some (k::v::xs)) (ob (a none) fun r=>some (y::x::r))) p) l:Option Value->Option (List Value)) none
def zt (v:Value):Option (Option Nat):=match v with
 | .map a=>some a
 |_=>none
def JV (P:Program) (t:TypeId):Option (TypeId×TypeId):=match P.underlying t with
 |some (.map k e)=>some (k,e)
 |_=>none
def Ae7 (Z:St) (a:Option Nat):Option (List Value):=Option.rec (motive:=fun _=>Option (List Value)) (some []) (fun b=>ob (Z.UG b) fun B=>some B.cells) a
def found (P:Program) (e:TypeId) (x:Option Value):Option (Value×Bool):=Option.rec (motive:=fun _=>Option (Value×Bool)) (ob (Bn P e) fun z=>some (z,false)) (fun v=>some (v,true)) x
def Gj (P:Program) (c:Fr) (Z:St) (t:TypeId) (x d:Operand) (ok:Bool):Option (Value×St) :=
 ob (JV P t) fun p=>pr p fun f e=>ob (ev c x) fun v=>ob (zt v) fun a=>ob (ev c d) fun k=>bb (Da (P.underlying f) k) (ob (Ae7 Z a) fun cs=>ob (QP k cs) fun r=>ob (found P e r) fun r=>pr r fun v b=>some (bi ok (.tuple ⟨[v,.bool b]⟩) v,Z))
def Bm (P:Program) (c:Fr) (Z:St) (t:TypeId) (m k x:Operand):Option (Value×St) :=
 ob (JV P t) fun p=>pr p fun d _=>ob (ev c m) fun v=>ob (zt v) fun a=>ob a fun b=>ob (ev c k) fun k=>bb (Da (P.underlying d) k) (ob (ev c x) fun x=>ob (Z.UG b) fun B=>ob (Nj k x B.cells) fun cs=>ob (Z.AY1 b cs) fun Z=>some (R6,Z))
def Fv (_fr:Fr) (Z:St) (r:Option Operand):Option (Value×St):=bb r.isNone (some (.map (some Z.n),Z.Dt [] .map))
inductive Did where
 |none
 |read (r:Ay)
 |eff
 |pan
structure Stepped where
 v:Value
 Z:St
 d:Did
def J7 (Z:St) (v:Option Value):Option Stepped:=ob v fun v=>some ⟨v,Z,.none⟩
def asNew (Z:St) (r:Option (List Value×(Nat->Value))) (t:Option TypeId:=none):Option Stepped:=ob r fun r=>pr r fun cs v=>some ⟨v Z.n,Z.new cs t,.none⟩
def Dv (Z:St) (r:Option (Value×Ay)):Option Stepped:=ob r fun r=>pr r fun v b=>some ⟨v,Z,.read b⟩
def GV (r:Option (Value×St)):Option Stepped:=ob r fun r=>pr r fun v Z=>some ⟨v,Z,.eff⟩
def SX (r:Option CR):Option Stepped:=ob r fun r=>CR.rec (motive:=fun _=>Option Stepped) (fun p v Z=>some ⟨v,Z,bi p .pan .eff⟩) r
def ri (a:Fr) (Z:St) (x:Operand):Option Stepped:=ob (ev a x) fun v=>match v with
 | .iface t v=>some ⟨.iface t v,Z,.pan⟩
 |_=>none
def orS (x y:Option Stepped):Option Stepped:=Option.rec (motive:=fun _=>Option Stepped) y (fun v=>some v) x
def AO6 (b:Builtin):Program->Fr->St->Call->Option Stepped :=
 Builtin.rec (motive:=fun _=>Program->Fr->St->Call->Option Stepped)
  (fun P a Z c=>GV (EU P a Z c))
  (fun _ _ _ _=>none)
  (fun P a Z c=>GV (wW P a Z c))
  (fun _ _ _ _=>none)
  (fun _ _ _ _=>none)
  (fun P a Z c=>GV (AR8 P a Z c))
  (fun _ _ _ _=>none)
  (fun _ _ _ _=>none)
  (fun P a Z c=>J7 Z (SD P a c))
  (fun _ _ _ _=>none)
  (fun _ a Z c=>J7 Z (pMM a true c))
  (fun _ a Z c=>J7 Z (pMM a false c))
  (fun _ _ _ _=>none)
  (fun _ _ _ _=>none)
  (fun _ _ _ _=>none)
  (fun _ _ _ _=>none)
  (fun _ _ _ _=>none)
  (fun _ _ _ _=>none)
  (fun _ _ _ _=>none)
  (fun _ _ _ _=>none)
  (fun _ _ _ _=>none)
  (fun _ _ _ _=>none)
  (fun _ _ _ _=>none)
  (fun _ _ _ _=>none)
  (fun _ _ _ _=>none)
  (fun _ _ _ _=>none) b
def Zg (P:Program) (call:Y4) (a:Fr) (Z:St) (c:Call):Option Stepped :=
 Callee.rec (motive:=fun _=>Option Stepped) (fun f=>SX (Hp call a Z c f)) (fun _ _=>none) (fun b=>AO6 b P a Z c) c.callee
abbrev OpK:=Program->Y4->Fr->St->Oper->Option Stepped
def rN (x:Op):OpK :=
 Op.rec (motive:=fun _=>OpK)
  (fun x _ _ e Z _=>J7 Z (ev e x))
  (fun x _ _ e Z _=>J7 Z (ev e x))
  (fun c a b _ _ e Z _=>J7 Z (KJ e c a b))
  (fun t P _ _ Z _=>asNew Z (j8 P t) (some t))
  (fun _ x _ _ e Z _=>asNew Z (dE e x))
  (fun t parts P _ e Z _=>J7 Z (GJ P e t parts))
  (fun t len parts P _ e Z _=>asNew Z (Gw P e t len parts))
  (fun t m k x P _ e Z _=>GV (Bm P e Z t m k x))
  (fun t a P _ e Z _=>Dv Z (Ib P e Z t a))
  (fun t a v P _ e Z _=>GV (HM P e Z t a v))
  (fun _ _ _ _ _ _=>none)
  (fun _ _ _ _ _ _=>none)
  (fun x _ _ e Z _=>J7 Z (CD e x))
  (fun b t x y _ P _ e Z o=>J7 Z (SI P e o b t x y))
  (fun _ _ x P _ e Z o=>J7 Z (FI P e o x))
  (fun s d x P _ e Z o=>orS (asNew Z (Gx P e s d x)) (orS (Dv Z (DU P e Z s d x)) (J7 Z (FI P e o x))))
  (fun _ _ _ _ _ _ _=>none)
  (fun t x P _ e Z _=>J7 Z (qz P e t x))
  (fun fn fs cs _ _ e Z _=>J7 Z (SM e fn fs cs))
  (fun _ r _ _ e Z _=>GV (Fv e Z r))
  (fun _ _ _ _ _ _ _=>none)
  (fun t l c P _ e Z _=>asNew Z (RV P e t l c))
  (fun t x lo hi h P _ e Z _=>J7 Z (MH P e t x lo hi h))
  (fun s x f P _ e Z _=>J7 Z (Af P e s x f))
  (fun s x f P _ e Z _=>J7 Z (Wu P e s x f))
  (fun t x g P _ e Z _=>J7 Z (Aw P e t x g))
  (fun t x g P _ e Z _=>J7 Z (MK P e t x g))
  (fun t x g ok P _ e Z _=>GV (Gj P e Z t x g ok))
  (fun t m k x P _ e Z _=>GV (Bm P e Z t m k x))
  (fun _ _ _ _ _ _ _ _=>none)
  (fun _ _ _ _ _ _ _ _ _=>none)
  (fun _ _ _ _ _ _ _=>none)
  (fun _ _ _ _ _ _ _=>none)
  (fun _ _ _ _ _ _=>none)
  (fun _ _ _ _ _ _ _ _ _=>none)
  (fun t g _ _ e Z _=>J7 Z (DI e t g))
  (fun c P call e Z _=>Zg P call e Z c)
  (fun _ _ _ _ _ _=>none)
  (fun _ _ _ _ _ _=>none)
  (fun x _ _ e Z _=>ri e Z x)
  (fun _ _ _ _ _ _ _=>none)
  (fun _ _ _ _ _ _ _ _=>none)
  (fun _ _ _ _ _ _ _=>none) x
def step (P:Program) (call:Y4) (a:Fr) (Z:St) (o:Oper):Option Stepped:=rN o.op P call a Z o
def yieldOf (a:Bool) (v:Value):Bool:=match v with
 | .bool b=>(match a with|true=>b|false=> !b)
 |_=>false
def Ft (a:Array Oper) (j:Nat):Option Tmp:=match a[j]? with
 |some p=>p.dst
 |none=>none
def U8 (b:Array Oper) (c:Fr) (o:Oper):Option Bool :=
 Option.rec (motive:=fun _=>Option Bool) (some true) (fun g=>pr g fun j a=>Option.rec (motive:=fun _=>Option Bool) (some false) (fun d=>ob (c.get d) fun v=>some (yieldOf a v)) (Ft b j)) o.guard
def I7 (a:Fr) (d:Option Tmp) (v:Value):Fr:=Option.rec (motive:=fun _=>Fr) a (fun d=>a.set d v) d
structure Res where
 o:Out
 fr:Fr
 Z:St
def Pk {a:Type}(d:Did) (x y:a):a:=Did.rec (motive:=fun _=>a) x (fun _=>x) x y d
def opsV (P:Program) (call:Y4) (b:Array Oper) (l:List Oper):Fr->St->Option Res :=
 List.rec (motive:=fun _=>Fr->St->Option Res) (fun a Z=>some ⟨.normal,a,Z⟩)
 (fun o _ e a Z=>ob (U8 b a o) fun c=>bi c (ob (step P call a Z o) fun r=>Stepped.rec (motive:=fun _=>Option Res) (fun v Z d=>Pk d (e (I7 a o.dst v) Z) (some ⟨.pan v,a,Z⟩)) r) (e (I7 a o.dst R6) Z)) l
inductive Trace where
 |read (i:Nat) (r:Ay)
 |eff (i:Nat) (pre post:St)
def KP (i:Nat) (Z Z':St) (d:Did) (a:List Trace):List Trace:=match d with
 | .none=>a
 | .read b=> .read i b::a
 | .eff=> .eff i Z Z'::a
 | .pan=>a
def DZ (o:Op):Bool:=match o with
 | .store .. =>true
 | .lookup .. =>true
 | .mapUpdate .. =>true
 | .insert .. =>true
 | .makeMap .. =>true
 | .panic .. =>true
 | .call c=>(match c.callee with
   | .builtin .len| .builtin .max| .builtin .min=>false
   |_=>true)
 |_=>false
structure FST where
 fr:Fr
 Z:St
 ds:List Trace
 p:Option Value
def Tu (o:Op):Bool:=match o with
 | .move _=>true
 | .assign _=>true
 | .nilCheck _=>true
 | .fieldAddr .. =>true
 | .field .. =>true
 |_=>false
def Pf (P:Program) (call:Y4) (b:Array Oper) (bs:List Nat) (i:Nat) (l:List Oper):Nat->Fr->St->Option Unit :=
 List.rec (motive:=fun _=>Nat->Fr->St->Option Unit) (fun _ _ _=>some ())
  (fun o _ d j a Z=>bi (Nat.testBit (bs.getD j 0) i) (d (j+1) a Z)
    (bb (Tu o.op) (ob (U8 b a o) fun c=>bi c (ob (step P call a Z o) fun r=>d (j+1) (I7 a o.dst r.v) r.Z) (d (j+1) (I7 a o.dst R6) Z)))) l
def mL (P:Program) (call:Y4) (a:Array Oper) (op:Op) (l:List Oper) (i:Nat) (c:Fr) (Z0:St) (v:Value) (Z:St) (b:List Trace):Option FST :=
 bb (DZ op) (ob (Pf P call a (Region.before a).toList i l (i+1) c Z0) fun _=>some ⟨.nil,Z,b,some v⟩)
def zl (p:Option Value):Out:=match p with
 |none=> .normal
 |some v=> .pan v
def N0 (P:Program) (call:Y4) (b:Array Oper) (l:List Oper):Nat->Fr->St->List Trace->Option FST :=
 List.rec (motive:=fun _=>Nat->Fr->St->List Trace->Option FST) (fun _ a Z e=>some ⟨a,Z,e,none⟩)
 (fun o l f i a Z e=>ob (U8 b a o) fun c=>bi c (ob (step P call a Z o) fun r=>Stepped.rec (motive:=fun _=>Option FST) (fun v Z' d=>Pk d (f (i+1) (I7 a o.dst v) Z' (KP i Z Z' d e)) (mL P call b o.op l i a Z v Z' e)) r)
   (f (i+1) (I7 a o.dst R6) Z e)) l
def ordered (b:List Nat) (i j:Nat):Bool:=bi (Nat.testBit (b.getD j 0) i) true (Nat.testBit (b.getD i 0) j)
def veq (v w:Value):Bool:=match v with
 | .bool b=>(match w with
   | .bool c=>bi b c (bi c false true)
   |_=>false)
 | .int k n=>(match w with
   | .int l m=>bi (keq k l) (ieq n m) false
   |_=>false)
 | .string s=>(match w with
   | .string t=>MN s.data.toList t.data.toList
   |_=>false)
 | .pointer none=>(match w with
   | .pointer none=>true
   |_=>false)
 | .pointer (some ⟨b,o,none⟩)=>(match w with
   | .pointer (some ⟨c,p,none⟩)=>bi (Nat.beq b c) (Nat.beq o p) false
   |_=>false)
 | .slice none n k=>(match w with
   | .slice none m l=>bi (Nat.beq n m) (Nat.beq k l) false
   |_=>false)
 | .slice (some ⟨b,o,none⟩) n k=>(match w with
   | .slice (some ⟨c,p,none⟩) m l=>bi (Nat.beq b c) (bi (Nat.beq o p) (bi (Nat.beq n m) (Nat.beq k l) false) false) false
   |_=>false)
 | .slice (some ⟨b,o,some s⟩) n k=>(match w with
   | .slice (some ⟨c,p,some t⟩) m l=>bi (Nat.beq b c) (bi (Nat.beq o p) (bi (Nat.beq s t) (bi (Nat.beq n m) (Nat.beq k l) false) false) false) false
   |_=>false)
 | .map none=>(match w with
   | .map none=>true
   |_=>false)
 | .map (some b)=>(match w with
   | .map (some c)=>Nat.beq b c
   |_=>false)
 |_=>false
def Ae8 (l:List Value):List Value->Bool :=
 List.rec (motive:=fun _=>List Value->Bool) (fun k=>List.rec (motive:=fun _=>Bool) true (fun _ _ _=>false) k)
  (fun x _ a k=>List.rec (motive:=fun _=>Bool) false (fun y ys _=>bi (veq x y) (a ys) false) k) l
def Cy (x y:Option (List Value)):Bool :=
 Option.rec (motive:=fun _=>Bool) false (fun l=>Option.rec (motive:=fun _=>Bool) false (fun k=>Ae8 l k) y) x
def RF (bs:List Nat) (i:Nat) (r:Ay) (d:Trace):Bool:=match d with
 | .eff j pre post=>bi (ordered bs i j) true (bi (Nat.blt r.b pre.n) (bi (Nat.beq (pre.ver r.b) (post.ver r.b)) true (Cy (pre.read r.b r.off r.n) (post.read r.b r.off r.n))) true)
 | .read .. =>true
def W5 (bs:List Nat) (i:Nat) (r:Ay):List Trace->Bool
 | []=>true
 |d::ds=>bi (RF bs i r d) (W5 bs i r ds) false
def BV (bs:List Nat) (all:List Trace):List Trace->Bool
 | []=>true
 | d::ds=>(match d with
   | .read i r=>bi (W5 bs i r all) (BV bs all ds) false
   | .eff .. =>BV bs all ds)
def drawn (os:Array Oper) (r:Option FST):Option Res :=
 ob r fun r=>FST.rec (motive:=fun _=>Option Res) (fun b Z a p=>bb (BV (Region.before os).toList a a) (some ⟨zl p,b,Z⟩)) r
def Ik (o:Oper):Nat:=match o.dst with
 |some t=>2 ^ t
 |none=>0
def AQ8 (x:Operand):Nat:=match x with
 | .tmp t=>2 ^ t
 |_=>0
def Ij (l:List Operand):Nat:=List.rec (motive:=fun _=>Nat) 0 (fun x _ a=>Nat.lor (AQ8 x) a) l
def Ja (os:Array Oper) (o:Oper):Nat:=match o.guard with
 | some (j,_)=>(match Ft os j with
   |some t=>2 ^ t
   |none=>0)
 |none=>0
structure vL where
 i:Nat
 d:Nat
 m:Nat
 e:Bool
def Ae9 (b d m:Nat) (e:Bool) (p:vL):Bool :=
 bi (Nat.beq (Nat.land p.d (Nat.lor d m)) 0&&(Nat.beq (Nat.land d p.m) 0&& !(e&&p.e))) true (Nat.testBit b p.i)
def vM (j:Nat) (e:Edge):Bool:= !(Region.binds .any e)||Nat.blt e.on j
def YF (os:Array Oper):List Oper->List Nat->Nat->List vL->Bool
 | [],_,_,_=>true
 |_::_,[],_,_=>false
 |o::l,b::bs,j,prev=>(o.after.toList.all (vM j))&&((prev.all (Ae9 b (Ik o) (Nat.lor (Ij o.op.operands.toList) (Ja os o)) (DZ o.op))) &&
    YF os l bs (j+1) (⟨j,Ik o,Nat.lor (Ij o.op.operands.toList) (Ja os o),DZ o.op⟩::prev))
def Rk (os:Array Oper):Bool:=YF os os.toList (Region.before os).toList 0 []
structure Gh where
 tm:Nat
 tv:Nat
 key:Nat
 ty:TypeId
 k1:Value
 v1:Value
 k2:Value
 v2:Value
def BK6 (o:Op):Bool:=match o with
 | .makeMap _ none=>true
 |_=>false
def Fo (l:List Oper):Bool:=match l with
 |_::_::o::_=>BK6 o.op
 |_=>false
def Ac9 (o:Oper):Option (Nat×TypeId):=match o.dst with
 | some t=>(match o.op with
   | .makeMap ty none=>some (t,ty)
   |_=>none)
 |none=>none
def js (o:Oper):Option (Nat×TypeId×Value×Value):=match o.dst with
 | none=>(match o.op with
   | .insert ty (.tmp m) (.const k) (.const v)=>some (m,ty,k,v)
   |_=>none)
 |some _=>none
def uo (o:Oper):Option (Nat×Nat):=match o.dst with
 | some d=>(match o.op with
   | .move (.tmp m)=>some (d,m)
   |_=>none)
 |none=>none
def Ad0 (o:Oper):Option (Nat×TypeId×Nat):=match o.op with
 | .lookup ty (.tmp m) (.tmp k) false=>some (m,ty,k)
 |_=>none
def FK (o:Oper):Oper:={ o with dst:=none,op:= .move (.const (.bool false)) }
def Va (o:Oper) (V:Value):Oper:={ o with op:= .move (.const V) }
def Et (l:List Oper) (V:Value):List Oper:=match l with
 |a0::a1::a2::a3::a4::a5::a6::a7::a8::N7=>a0::a1::FK a2::FK a3::FK a4::FK a5::a6::a7::Va a8 V::N7
 |l=>l
def Db (o:Oper) (i:Nat):Bool:=o.after.toList.any fun e=>Region.binds .any e&&Nat.beq e.on i
def Ad1 (l:List Oper):Option Gh:=match l with
 | _::_::a2::a3::a4::a5::_::_::a8::_=>ob (Ac9 a2) fun m=>ob (js a3) fun a=>ob (js a4) fun b=>ob (uo a5) fun d=>ob (Ad0 a8) fun c=>
   bb (Nat.beq a.1 m.1&&(Nat.beq a.2.1 m.2&&(Nat.beq b.1 m.1&&(Nat.beq b.2.1 m.2&&(Nat.beq d.2 m.1&&(Nat.beq c.1 d.1&&(Nat.beq c.2.1 m.2 &&
    (Db a3 2&&(Db a4 2&&(Db a5 3&&(Db a5 4&&Db a8 5))))))))))) (some ⟨m.1,d.1,c.2.2,m.2,a.2.2.1,a.2.2.2,b.2.2.1,b.2.2.2⟩)
 |_=>none
def TK (t:Nat) (o:Oper):Bool:=match o.dst with
 |some d=> !(Nat.beq d t)
 |none=>true
def tV (a8:Oper) (key:Nat):List Oper->Nat->Bool
 | [],_=>true
 |o::l,j=>(TK key o||(Nat.blt j 8&&Db a8 j))&&tV a8 key l (j+1)
def Ax4 (l:List Oper) (f:Oper->Bool):Bool:=match l with
 |_::_::_::_::_::_::_::_::a8::_=>f a8
 |_=>false
def Au5 (l l':List Oper) (g:Gh):Bool :=
 l.all (fun o=>o.guard.isNone&& !(Nat.beq g.tm g.tv))&&(l'.all (TK g.tm)&&(l'.all (TK g.tv)&&Ax4 l fun a=>tV a g.key l' 0))
def AP4 (P:Program) (g:Gh) (kv:Value):Option Value :=
 ob (JV P g.ty) fun p=>bb (Da (P.underlying p.1) g.k1&&(Da (P.underlying p.1) g.k2&&(Da (P.underlying p.1) kv&&(KO g.k1&&(KO g.k2&&(KO g.v1&&KO g.v2)))))) <|
  ob (Nj g.k2 g.v2 [g.k1,g.v1]) fun a=>ob (Nj g.k1 g.v1 [g.k2,g.v2]) fun b=>ob (QP kv a) fun r1=>ob (QP kv b) fun d=>
   ob (found P p.2 r1) fun c=>ob (found P p.2 d) fun e=>bb (veq c.1 e.1&&KO c.1) (some c.1)
def Ax5 (b:Array Oper) (key:Nat) (kv:Value) (r:FST):Option Res :=
 FST.rec (motive:=fun _=>Option Res) (fun d Z c p=>bb (BV (Region.before b).toList c c&&p.isNone) (ob (d.get key) fun a=>bb (veq a kv) (some ⟨.normal,d,Z⟩))) r
def Rj (P:Program) (call:Y4) (l:List Oper) (a:Fr) (Z:St):Option Res :=
 ob (Ad1 l) fun g=>bb ((a.get g.tm).isNone&&(a.get g.tv).isNone) <|
  ob (N0 P call (Et l (.string ⟨#[]⟩)).toArray (Et l (.string ⟨#[]⟩)) 0 a Z []) fun r0=>ob (r0.fr.get g.key) fun kv=>ob (AP4 P g kv) fun V=>
   bb (Au5 l (Et l V) g&&Rk (Et l V).toArray) <| ob (N0 P call (Et l V).toArray (Et l V) 0 a Z []) (Ax5 (Et l V).toArray g.key kv)
def IA (l:List Value):Nat->Fr->Fr :=
 List.rec (motive:=fun _=>Nat->Fr->Fr) (fun _ a=>a) (fun v _ b k a=>b (k+1) (a.set k v)) l
def Ax6 (P:Program) (b:Fr) (Z:St) (r:ResultVar):Option Value:=match r with
 | .tmp t=>b.get t
 | .cell a t=>ob (b.get a) fun p=>Po P Z t p
def Iw (P:Program) (a:Fr) (Z:St) (l:List ResultVar):Option (List Value) :=
 List.rec (motive:=fun _=>Option (List Value)) (some []) (fun r _ b=>ob (Ax6 P a Z r) fun v=>ob b fun c=>some (v::c)) l
def tup (l:List Value):Value:=match l with
 | [v]=>v
 |vs=> .tuple ⟨vs⟩
abbrev RunT:=Option Nat->Code->Fr->St->Option Res
def Le (run a:RunT):Prop:=∀ rd c fr Z r,run rd c fr Z=some r->a rd c fr Z=some r
structure M8 {α:Type}(Φ:RunT->Option α):Prop where
 mono:∀ run run',Le run run'->∀ r,Φ run=some r->Φ run'=some r
 fin:∀ (ch:Nat->RunT) (l:RunT),(∀ f g,f<=g->Le (ch f) (ch g))->(∀ rd c fr Z r,l rd c fr Z=some r->∃ f,ch f rd c fr Z=some r)->∀ r,Φ l=some r->∃ f,Φ (ch f)=some r
def M8.const {a:Type}(x:Option a):M8 fun _=>x:=⟨fun _ _ _ _ h=>h,fun _ _ _ _ _ h=>⟨0,h⟩⟩
structure qu where
 f:RunT->List Value->St->Option CR
 cont:∀ vs Z,M8 fun run=>f run vs Z
def qu.plain (f:List Value->St->Option CR):qu:=⟨fun _ a Z=>f a Z,fun _ _=> .const _⟩
abbrev EV:=Nat->Option qu
def Hi (P:Program) (fn:Func) (r:Res):Option CR :=
 Res.rec (motive:=fun _=>Option CR) (fun o b Z=>Out.rec (motive:=fun _=>Option CR)
  (ob (Iw P b Z fn.results.toList) fun a=>some ⟨false,tup a,Z⟩) (fun _=>none) (ob (Iw P b Z fn.results.toList) fun a=>some ⟨false,tup a,Z⟩) (fun v=>some ⟨true,v,Z⟩) o) r
def AH6 (P:Program) (run:RunT) (fn:Func) (a:Code) (b:List Value) (Z:St):Option CR :=
 ob (run none a (IA b 0 .nil) Z) (Hi P fn)
def PT (P:Program) (H:EV) (run:RunT) (g:Nat) (b:List Value) (Z:St):Option CR :=
 Option.rec (motive:=fun _=>Option CR)
  (ob (P.funcs[g]?) fun fn=>Option.rec (motive:=fun _=>Option CR)
    (bb (Ul b) (ob (LS (O8 P (callFunc g b.toArray))) fun v=>bb (wD v) (some ⟨false,v,Z⟩)))
    (fun a=>AH6 P run fn a b Z) fn.body)
  (fun s=>s.f run b Z) (H g)
structure Pq where
 fr:Fr
 ps:List Nat
 assign:Code
 body:Code
 st:LoopState
 R9:Option Code
def St.JH (Z:St) (b:Nat):Option Pq:=ob (Z.blk b) fun B=>bb B.own (Kind.rec (motive:=fun _=>Option Pq) (fun _=>none) none (fun d ps c bd e a=>some ⟨d,ps,c,bd,e,a⟩) B.kind)
def TI (ps:List Nat):List Value->Fr->Option Fr :=
 List.rec (motive:=fun _=>List Value->Fr->Option Fr) (fun a b=>List.rec (motive:=fun _=>Option Fr) (some b) (fun _ _ _=>none) a)
  (fun p _ c a b=>List.rec (motive:=fun _=>Option Fr) none (fun v a _=>c a (b.set p v)) a) ps
def isReady (s:LoopState):Bool:=match s with
 | .ready=>true
 |_=>false
def Tl (s:LoopState):Bool:=match s with
 | .busy=>true
 |_=>false
def jh {a:Type}(o:Out) (x:Option a):Option a:=Out.rec (motive:=fun _=>Option a) x (fun _=>none) none (fun _=>none) o
def cJ (b:Nat) (r:Res):Option CR :=
 Res.rec (motive:=fun _=>Option CR) (fun o _ Z=>Out.rec (motive:=fun _=>Option CR)
  (ob (Z.Bc b .ready none) fun Z=>some ⟨false,.bool true,Z⟩)
  (fun i=>ob (Z.Bc b .done (some (.exit i))) fun Z=>some ⟨false,.bool false,Z⟩)
  (ob (Z.Bc b .done (some .ret)) fun Z=>some ⟨false,.bool false,Z⟩) (fun _=>none) o) r
def Ym (run:RunT) (b:Nat) (g:List Value) (Z:St):Option CR :=
 ob (Z.JH b) fun L=>Pq.rec (motive:=fun _=>Option CR) (fun d ps a c e _=>bb (isReady e) (ob (TI ps g d) fun d=>ob (run (some b) a d Z) fun r=>
  Res.rec (motive:=fun _=>Option CR) (fun o d Z=>jh o (ob (Z.JH b) fun L=>Pq.rec (motive:=fun _=>Option CR) (fun _ _ _ _ e f=>bb (isReady e) (ob (Z.Bc b .busy f) fun Z=>ob (run (some b) c d Z) (cJ b))) L)) r)) L
def DY (P:Program) (H:EV) (run:RunT) (t:Tgt) (a:List Value) (Z:St):Option CR :=
 Tgt.rec (motive:=fun _=>Option CR) (fun g=>PT P H run g a Z) (fun b=>Ym run b a Z) t
def Ar (r:Res) (next:Fr->St->Option Res):Option Res :=
 Res.rec (motive:=fun _=>Option Res) (fun o a Z=>Out.rec (motive:=fun _=>Option Res) (next a Z) (fun i=>some ⟨.exit i,a,Z⟩) (some ⟨.ret,a,Z⟩) (fun v=>some ⟨.pan v,a,Z⟩) o) r
def IC (id:Nat) (r:Res):Option Res :=
 Res.rec (motive:=fun _=>Option Res) (fun o a Z=>Out.rec (motive:=fun _=>Option Res) (some ⟨.normal,a,Z⟩) (fun i=>bi (Nat.beq i id) (some ⟨.normal,a,Z⟩) (some ⟨.exit i,a,Z⟩)) (some ⟨.ret,a,Z⟩) (fun v=>some ⟨.pan v,a,Z⟩) o) r
def AH7 (Z:St) (a:Option Nat):Bool:=Option.rec (motive:=fun _=>Bool) true (fun b=>(Z.JH b).isSome) a
def bw (c:Option Code):Option Out:=match c with
 |none=>some .normal
 |some .ret=>some .ret
 |some (.exit i)=>some (.exit i)
 |_=>none
def AH8 (b:Nat) (c:Fr) (r:CR):Option Res :=
 CR.rec (motive:=fun _=>Option Res) (fun p _ Z=>bi p none (ob (Z.JH b) fun L=>Pq.rec (motive:=fun _=>Option Res) (fun _ _ _ _ d a=>bi (Tl d) none (ob (Z.Bc b .exhausted a) fun Z=>ob (bw a) fun o=>some ⟨o,c,Z⟩)) L)) r
def AR4 (t:Tgt):Option Nat:=match t with
 | .fn g=>some g
 | .yld _=>none
def RB (P:Program) (g:Nat):Bool:=match P.funcs[g]? with
 |some fn=>fn.body.isSome
 |none=>false
def eW (P:Program) (call:Y4) (e:Option Nat) (f:Operand) (ps:List Nat) (b c:Code) (d:Fr) (Z:St):Option Res :=
 bb (AH7 Z e) (ob (ev d f) fun v=>ob (Na v) fun f=>Fun.rec (motive:=fun _=>Option Res) (fun t first a=>ob (AR4 t) fun g=>bb (RB P g) <|
  ob (call (.fn g) (first++[.func (.yield Z.n) #[] #[]]++a) (Z.Dt [] (.loop d ps b c .ready none))) (AH8 Z.n d)) f)
abbrev AR9:=Program->EV->RunT->Option Nat->Fr->St->Option Res
def rO (c:Code):AR9 :=
 Code.rec (motive:=fun _=>AR9)
  (fun _ _ _ _ d Z=>some ⟨.normal,d,Z⟩)
  (fun _ os j P H e _ d Z=>bi j (bi (Fo os.toList) (Rj P (DY P H e) os.toList d Z) (drawn os (N0 P (DY P H e) os os.toList 0 d Z []))) (opsV P (DY P H e) os os.toList d Z))
  (fun a b _ _ _ _ e g d Z=>ob (e g a d Z) fun r=>Ar r (e g b))
  (fun c a b _ _ _ _ e g d Z=>ob (ev d c) fun v=>ob (bool? v) fun t=>bi t (e g a d Z) (e g b d Z))
  (fun id c _ _ _ e g d Z=>ob (e g c d Z) (IC id))
  (fun c _ _ _ e g d Z=>ob (e g c d Z) fun r=>Ar r (e g (.loop c)))
  (fun f ps h i _ _ P H e g d Z=>eW P (DY P H e) g f ps.toList h i d Z)
  (fun id _ _ _ _ d Z=>some ⟨.exit id,d,Z⟩)
  (fun c _ _ _ e g d Z=>e g c d Z)
  (fun _ _ _ _ _ d Z=>some ⟨.normal,d,Z⟩)
  (fun _ _ _ _ _ _ _=>none)
  (fun _ _ _ _ d Z=>some ⟨.ret,d,Z⟩)
  (fun _ _ _ _ _ _ _=>none) c
def AO5 (P:Program) (H:EV) (b:RunT) (d:Option Nat) (c:Code) (a:Fr) (Z:St):Option Res:=rO c P H b d a Z
def exec (P:Program) (H:EV) (f:Nat):RunT :=
 Nat.rec (motive:=fun _=>RunT) (fun _ _ _ _=>none) (fun _ a=>AO5 P H a) f
def call (P:Program) (H:EV) (f:Nat) (g:Nat) (a:List Value) (Z:St):Option CR:=PT P H (exec P H f) g a Z
end
end Go.Ab
namespace Go.Ab
open Go
section
variable {v v':Value}{n off:Nat}
@[simp] theorem D5 {b c:Type} (a:b) (f:b->Option c):ob (some a) f=f a:=rfl
@[simp] theorem yd {a b:Type} (f:a->Option b):ob (none:Option a) f=none:=rfl
@[simp] theorem DA {a:Type} (x:Option a):bb true x=x:=rfl
@[simp] theorem Aw4 {a:Type} (x:Option a):bb false x=none:=rfl
@[simp] theorem Hq {a:Type} (x y:a):bi true x y=x:=rfl
@[simp] theorem Cp {a:Type} (x y:a):bi false x y=y:=rfl
@[simp] theorem Pv {c d e:Type} (a:c) (b:d) (f:c->d->e):pr (a,b) f=f a b:=rfl
@[simp] theorem BJ9 {d:Type} (a b c:Nat) (f:Nat->Nat->Nat->d):pra ⟨a,b,c⟩ f=f a b c:=rfl
theorem A8 {c d:Type}{x:Option c}{f:c->Option d}{b:d}(h:ob x f=some b):∃ a,x=some a/\f a=some b:=by
 cases x with
 |none=>cases h
 |some a=>exact⟨a,rfl,h⟩
def H9 {a:Type}{c:Bool}{x:Option a}{b:a}(h:bb c x=some b):c=true/\x=some b:=by
 cases c with
 |false=>cases h
 |true=>exact⟨rfl,h⟩
/- Tables. -/
def Tr.get_nil {a:Type}(n:Nat):(Tr.nil:Tr a).get n=none:=rfl
def Tr.OA {a:Type}(l:Tr a) (v:Option a) (r:Tr a):(Tr.node l v r).get 0=v:=rfl
def Tr.GF {a:Type}(l:Tr a) (v:Option a) (r:Tr a) (m:Nat):(Tr.node l v r).get (m+1)=if m % 2=0 then l.get (m / 2)else r.get (m / 2):=by
 show(Nat.rec (motive:=fun _=>Option a) (l.get (m / 2)) (fun _ _=>r.get (m / 2)) (m % 2):Option a)=_;rcases vY m with h|h<;>rw[h]<;>rfl
def Tr.vd {b:Type}(f:Nat) (a:b):Tr.one (f+1) 0 a= .node .nil (some a) .nil:=rfl
def Tr.vg {b:Type}(f m:Nat) (a:b):Tr.one (f+1) (m+1) a=if m % 2=0 then .node (Tr.one f (m / 2) a) none .nil else .node .nil none (Tr.one f (m / 2) a):=by
 show(Nat.rec (motive:=fun _=>Tr b) (.node (Tr.one f (m / 2) a) none .nil) (fun _ _=> .node .nil none (Tr.one f (m / 2) a)) (m % 2):Tr b)=_;rcases vY m with h|h<;>rw[h]<;>rfl
def Tr.AG8 {e:Type}(a:e):∀ (f n m:Nat),n<f->(Tr.one f n a).get m=if m=n then some a else none:=by
 intro f;induction f with
 |zero=>intro n m h;omega
 | succ f ih=>
   intro n m h;cases n with
   | zero=>
     rw[Tr.vd];cases m with
     |zero=>rfl
     |succ m=>rw[Tr.GF];simp[Tr.get_nil]
   | succ n=>
     rw[Tr.vg];by_cases d:n % 2=0
     ·rw [z1z d];cases m with
      |zero=>rw[Tr.OA];simp
      | succ m=>
        rw[Tr.GF,ih (n / 2) (m / 2) om,Tr.get_nil];by_cases c:m % 2=0
        ·rw[z1z c];simp only[Vs];by_cases b:m=n
         ·subst b;simp
         ·rw[z0z om,z0z b]
        ·rw[z0z c,z0z om]
     ·rw [z0z d];cases m with
      |zero=>rw[Tr.OA];simp
      | succ m=>
        rw[Tr.GF,ih (n / 2) (m / 2) om,Tr.get_nil];by_cases c:m % 2=0
        ·rw[z1z c,z0z om]
        ·rw[z0z c];simp only[Vs];by_cases b:m=n
         ·subst b;simp
         ·rw[z0z om,z0z b]
def Tr.set_nil {b:Type}(n:Nat) (a:b):(Tr.nil:Tr b).set n a=Tr.one (n+1) n a:=rfl
def Tr.vh {b:Type}(l:Tr b) (v:Option b) (r:Tr b) (a:b):(Tr.node l v r).set 0 a= .node l (some a) r:=rfl
def Tr.vj {b:Type}(l:Tr b) (v:Option b) (r:Tr b) (m:Nat) (a:b):(Tr.node l v r).set (m+1) a=if m % 2=0 then .node (l.set (m / 2) a) v r else .node l v (r.set (m / 2) a):=by
 show(Nat.rec (motive:=fun _=>Tr b) (.node (l.set (m / 2) a) v r) (fun _ _=> .node l v (r.set (m / 2) a)) (m % 2):Tr b)=_;rcases vY m with h|h<;>rw[h]<;>rfl
def Tr.BF {e:Type}(a:e) (t:Tr e):∀ (n m:Nat),(t.set n a).get m=if m=n then some a else t.get m:=by
 induction t with
 |nil=>intro n m;rw[Tr.set_nil,Tr.AG8 a _ _ _ om,Tr.get_nil]
 | node l v r ihl ihr=>
   intro n m;cases n with
   | zero=>
     rw[Tr.vh];cases m with
     |zero=>rfl
     |succ m=>simp[Tr.GF]
   | succ n=>
     rw[Tr.vj];by_cases d:n % 2=0
     ·rw [z1z d];cases m with
      |zero=>simp[Tr.OA]
      | succ m=>
        rw[Tr.GF,ihl,Tr.GF];by_cases b:m % 2=0
        ·rw[z1z b,z1z b];simp only[Vs];by_cases c:m=n
         ·subst c;simp
         ·rw[z0z om,z0z c]
        ·rw[z0z b,z0z b];simp only[Vs];rw[z0z om]
     ·rw [z0z d];cases m with
      |zero=>simp[Tr.OA]
      | succ m=>
        rw[Tr.GF,ihr,Tr.GF];by_cases b:m % 2=0
        ·rw[z1z b,z1z b];simp only[Vs];rw[z0z om]
        ·rw[z0z b,z0z b];simp only[Vs];by_cases c:m=n
         ·subst c;simp
         ·rw[z0z om,z0z c]
def Tr.get_set_same {b:Type}(t:Tr b) (n:Nat) (a:b):(t.set n a).get n=some a:=by rw[Tr.BF,z1z rfl]
def Tr.M7 {b:Type}(t:Tr b){m:Nat}(a:b) (h:m≠n):(t.set n a).get m=t.get m:=by rw[Tr.BF,z0z h]
/- uU. -/
def To {c:Type}:∀ (n:Nat) (l r:List c),takeN n l=some r->n<=l.length/\r=l.take n:=by
 intro n;induction n with
 |zero=>intro l r h;cases h;simp
 | succ n ih=>
   intro l r h;cases l with
   |nil=>cases h
   | cons x xs=>
     obtain⟨d,a,b⟩:=A8 (show ob (takeN n xs) (fun r=>some (x::r))=some r from h);cases b;obtain⟨h3,h4⟩:=ih _ _ a;exact⟨by simp;omega,by simp[h4]⟩
def vw {a:Type}:∀ (n:Nat) (l:List a),n<=l.length->takeN n l=some (l.take n):=by
 intro n;induction n with
 |zero=>intro l _;rfl
 | succ n ih=>
   intro l h;cases l with
   |nil=>simp at h
   | cons x xs=>
     show ob (takeN n xs) (fun r=>some (x::r))=_;rw[ih xs (by simpa using h)];rfl
def vz {b:Type}:∀ (n:Nat) (l r:List b),Vt n l=some r->n<=l.length/\r=l.drop n:=by
 intro n;induction n with
 |zero=>intro l r h;cases h;simp
 | succ n ih=>
   intro l r h;cases l with
   |nil=>cases h
   | cons x xs=>
     obtain⟨c,a⟩:=ih _ _ (show Vt n xs=some r from h);exact⟨by simp;omega,by simp[a]⟩
def wC {a:Type}:∀ (n:Nat) (l:List a),n<=l.length->Vt n l=some (l.drop n):=by
 intro n;induction n with
 |zero=>intro l _;rfl
 | succ n ih=>
   intro l h;cases l with
   |nil=>simp at h
   |cons x xs=>show Vt n xs=_;rw[ih xs (by simpa using h)];rfl
def sub_eq {c:Type}{l r:List c}(h:sub l off n=some r):off+n<=l.length/\r=(l.drop off).take n:=by
 obtain⟨l',a,b⟩:=A8 h;obtain⟨h3,rfl⟩:=vz _ _ _ a;obtain⟨h4,rfl⟩:=To _ _ _ b;exact⟨by simp at h4;omega,rfl⟩
def BR {a:Type}{l:List a}(h:off+n<=l.length):sub l off n=some ((l.drop off).take n):=by
 show ob (Vt off l) (fun l=>takeN n l)=_;rw[wC _ _ om];exact vw _ _ (by simp;omega)
def AG9 {c:Type}:∀ (new l r:List c),over new l=some r->new.length<=l.length/\r=new++l.drop new.length:=by
 intro new;induction new with
 |nil=>intro l r h;cases h;simp
 | cons v vs ih=>
   intro l r h;cases l with
   |nil=>cases h
   | cons x xs=>
     obtain⟨d,a,b⟩:=A8 (show ob (over vs xs) (fun r=>some (v::r))=some r from h);cases b;obtain⟨h3,h4⟩:=ih _ _ a;exact⟨by simp;omega,by simp[h4]⟩
def Ug {c:Type}(new:List c):∀ (off:Nat) (l r:List c),N8 l off new=some r->off+new.length<=l.length/\r=l.take off++new++l.drop (off+new.length):=by
 intro off;induction off with
 | zero=>
   intro l r h;obtain⟨b,a⟩:=AG9 new l r h;exact⟨om,by simp[a]⟩
 | succ off ih=>
   intro l r h;cases l with
   |nil=>cases h
   | cons x xs=>
     obtain⟨d,b,a⟩:=A8 (show ob (N8 xs off new) (fun r=>some (x::r))=some r from h);cases a;obtain⟨h3,h4⟩:=ih _ _ b;exact⟨by simp;omega,by simp[h4,Nat.add_right_comm]⟩
/- How values vX to each other. -/
structure BU where
 c:Nat
 o:Nat
 m:Nat
abbrev Place:=Nat->Option BU
mutual
inductive I0 (O:Place):Value->Value->Prop
 |I3 {v:Value} (h:I3 v=true):I0 O v v
 |ptr {b off:Nat}{q:BU} (h:O b=some q):I0 O (.pointer (some ⟨b,off,none⟩)) (.pointer (some ⟨q.c,q.o+off,none⟩))
 |slice {b off n k:Nat}{q:BU} (h:O b=some q):I0 O (.slice (some ⟨b,off,none⟩) n k) (.slice (some ⟨q.c,q.o+off,none⟩) n k)
 |grow {b off s n k k':Nat}{q:BU} (h:O b=some q) (hk:k<=k') (hm:q.o+off+k'*s<=q.m):I0 O (.slice (some ⟨b,off,some s⟩) n k) (.slice (some ⟨q.c,q.o+off,none⟩) n k')
 |Bu {b off:Nat}{sp:Option Nat}{q:BU}{x:Addr} (h:O b=some q):I0 O (.slice (some ⟨b,off,sp⟩) 0 0) (.slice (some x) 0 0)
 |func {fn:Fn}{f f' c c':List Value} (hy:YK fn=true) (h1:F8 O f f') (h2:F8 O c c'):I0 O (.func fn ⟨f⟩ ⟨c⟩) (.func fn ⟨f'⟩ ⟨c'⟩)
 |map {b:Nat}{q:BU} (h:O b=some q):I0 O (.map (some b)) (.map (some q.c))
 |yld {b:Nat}{q:BU} (h:O b=some q):I0 O (.func (.yield b) ⟨[]⟩ ⟨[]⟩) (.func (.yield q.c) ⟨[]⟩ ⟨[]⟩)
 |iface {t:TypeId}{v v':Value} (h:I0 O v v'):I0 O (.iface t v) (.iface t v')
 |agg {l l':List Value} (hc:∀ v∈l,L8 v=true) (h:F8 O l l'):I0 O (.agg ⟨l⟩) (.agg ⟨l'⟩)
 |tuple {l l':List Value} (h:F8 O l l'):I0 O (.tuple ⟨l⟩) (.tuple ⟨l'⟩)
inductive F8 (O:Place):List Value->List Value->Prop
 |nil:F8 O [] []
 |cons {v v':Value}{l l':List Value} (h:I0 O v v') (hs:F8 O l l'):F8 O (v::l) (v'::l')
end
def Place.le (O a:Place):Prop:=∀ b p,O b=some p->a b=some p
def Place.le_refl (O:Place):O.le O:=fun _ _ h=>h
def Place.le_trans {O c a:Place}(h:O.le c) (d:c.le a):O.le a:=fun b p k=>d b p (h b p k)
mutual
theorem I0.mono {O c:Place}(a:O.le c){v v':Value}(h:I0 O v v'):I0 c v v':=by
 cases h with
 |I3 h=>exact .I3 h
 |ptr h=>exact .ptr (a _ _ h)
 |slice h=>exact .slice (a _ _ h)
 |grow h f b=>exact .grow (a _ _ h) f b
 |Bu h=>exact .Bu (a _ _ h)
 |func g d e=>exact .func g (F8.mono a d) (F8.mono a e)
 |map h=>exact .map (a _ _ h)
 |yld h=>exact .yld (a _ _ h)
 |iface h=>exact .iface (I0.mono a h)
 |agg b h=>exact .agg b (F8.mono a h)
 |tuple h=>exact .tuple (F8.mono a h)
theorem F8.mono {O a:Place}(b:O.le a){l l':List Value}(h:F8 O l l'):F8 a l l':=by
 cases h with
 |nil=>exact .nil
 |cons h c=>exact .cons (I0.mono b h) (F8.mono b c)
end
def F8.length {O:Place}:∀ {l l':List Value},F8 O l l'->l.length=l'.length:=by
 intro l;induction l with
 |nil=>intro l' h;cases h;rfl
 |cons v l b=>intro l' h;cases h with|cons h a=>simp[b a]
def F8.get {O:Place}:∀ {l l':List Value}{i:Nat}{v:Value},F8 O l l'->l[i]? =some v->∃ v',l'[i]? =some v'/\I0 O v v':=by
 intro l;induction l with
 |nil=>intro l' i v _ a;simp at a
 | cons x l ih=>
   intro l' i v h a;cases h with
   | cons h hs=>
     cases i with
     |zero=>simp at a;subst a;exact⟨_,rfl,h⟩
     |succ i=>simpa using ih hs (by simpa using a)
def F8.Gv {O:Place}:∀ {l l':List Value},l.length=l'.length->(∀ (i:Nat) (v:Value),l[i]? =some v->∃ v',l'[i]? =some v'/\I0 O v v')->F8 O l l':=by
 intro l;induction l with
 |nil=>intro l' h _;cases l' with|nil=>exact .nil|cons=>simp at h
 | cons x l ih=>
   intro l' h b;cases l' with
   |nil=>simp at h
   | cons x' l'=>
     obtain⟨v',a,c⟩:=b 0 x rfl;simp at a;subst a;exact .cons c (ih (by simpa using h) fun i v hi=>by simpa using b (i+1) v (by simpa using hi))
def F8.append {O:Place}{k a:List Value}(b:F8 O k a):∀ {l l':List Value},F8 O l l'->F8 O (l++k) (l'++a):=by
 intro l;induction l with
 |nil=>intro l' h;cases h;exact b
 |cons v l d=>intro l' h;cases h with|cons h c=>exact .cons h (d c)
def F8.take {O:Place}(n:Nat):∀ {l l':List Value},F8 O l l'->F8 O (l.take n) (l'.take n):=by
 induction n with
 |zero=>intro l l' _;simp;exact .nil
 |succ n b=>intro l l' h;cases h with|nil=>simp;exact .nil|cons h a=>exact .cons h (b a)
def F8.drop {O:Place}(n:Nat):∀ {l l':List Value},F8 O l l'->F8 O (l.drop n) (l'.drop n):=by
 induction n with
 |zero=>intro l l' h;simpa using h
 |succ n b=>intro l l' h;cases h with|nil=>simp;exact .nil|cons h a=>exact b a
def F8.Mp {O:Place}:∀ {l:List Value},HZ l=true->F8 O l l:=by
 intro l;induction l with
 |nil=>intro _;exact .nil
 | cons v l ih=>
   intro h;change bi (I3 v) (HZ l) false=true at h;cases a:I3 v with
   |false=>rw[a]at h;cases h
   |true=>rw[a]at h;exact .cons (.I3 a) (ih h)
def Jn (h:I3 v=true):L8 v=true:=by
 cases v<;>first|rfl|(simp[I3]at h)
def FZ:∀ {l:List Value},HZ l=true->∀ v∈l,L8 v=true:=by
 intro l;induction l with
 |nil=>intro _ v a;simp at a
 | cons x l ih=>
   intro h v a;change bi (I3 x) (HZ l) false=true at h;cases b:I3 x with
   |false=>rw[b]at h;cases h
   | true=>
     rw[b]at h;rcases W1.1 a with rfl|a
     ·exact Jn b
     ·exact ih h v a
def I0.cst {O:Place}{u:Value}(h:cst v=some u):u=v/\I0 O v v:=by
 obtain⟨a,b⟩:=H9 h;cases b;refine⟨rfl,?_⟩;cases v with
 | agg cs=>
   obtain⟨l⟩:=cs;exact .agg (FZ a) (F8.Mp a)
 |_=>exact .I3 a
def I0.out {O:Place}(h:wD v=true):I0 O v v:=by
 unfold wD at h;split at h
 ·exact .tuple (F8.Mp h)
 ·exact(I0.cst (u:=v) (show bb (KO v) (some v)=some v by rw[h];rfl)).2
def I0.L8 {O:Place}(h:I0 O v v'):L8 v'=L8 v:=by cases h<;>rfl
mutual
theorem I0.flat {O:Place}{v v':Value}(h:I0 O v v') (a:flat v=true):v'=v:=by
 cases h with
 |I3 h=>rfl
 |ptr h=>simp[Ab.flat]at a
 |slice h=>simp[Ab.flat]at a
 |grow h e b=>simp[Ab.flat]at a
 |Bu h=>simp[Ab.flat]at a
 |func f c d=>simp[Ab.flat]at a
 |map h=>simp[Ab.flat]at a
 |yld h=>simp[Ab.flat]at a
 |iface h=>rw[I0.flat h (by simpa[Ab.flat]using a)]
 |agg b h=>rw[F8.flat h (by simpa[Ab.flat,Ab.Lm]using a)]
 |tuple h=>rw[F8.flat h (by simpa[Ab.flat,Ab.Lm]using a)]
theorem F8.flat {O:Place}{l l':List Value}(h:F8 O l l') (a:Ul l=true):l'=l:=by
 cases h with
 |nil=>rfl
 | @cons v v' l l' h hs=>
   unfold Ul at a;cases b:Ab.flat v with
   |false=>rw[b]at a;cases a
   |true=>rw[b]at a;rw[I0.flat h b,F8.flat hs a]
end
def I0.cells {O:Place}(h:I0 O v v') (ht:Ab.DX v=false):F8 O (J6 v) v'.cells.toList/\∀ u∈J6 v,Ab.L8 u=true:=by
 cases h with
 |agg d h=>exact⟨h,d⟩
 | I3 hs=>
   cases v with
   |agg=>simp[Ab.I3]at hs
   |tuple=>simp[Ab.I3]at hs
   |_=>exact⟨.cons (.I3 hs) .nil,by intro u a;simp[J6]at a;subst a;rfl⟩
 |ptr h=>exact⟨.cons (.ptr h) .nil,by intro u a;simp[J6]at a;subst a;rfl⟩
 |slice h=>exact⟨.cons (.slice h) .nil,by intro u a;simp[J6]at a;subst a;rfl⟩
 |grow h e f=>exact⟨.cons (.grow h e f) .nil,by intro u a;simp[J6]at a;subst a;rfl⟩
 |Bu h=>exact⟨.cons (.Bu h) .nil,by intro u a;simp[J6]at a;subst a;rfl⟩
 |func g b c=>exact⟨.cons (.func g b c) .nil,by intro u a;simp[J6]at a;subst a;rfl⟩
 |map h=>exact⟨.cons (.map h) .nil,by intro u a;simp[J6]at a;subst a;rfl⟩
 |yld h=>exact⟨.cons (.yld h) .nil,by intro u a;simp[J6]at a;subst a;rfl⟩
 |iface h=>exact⟨.cons (.iface h) .nil,by intro u a;simp[J6]at a;subst a;rfl⟩
 |tuple h=>simp[Ab.DX]at ht
end
section
variable {w w':World}{Z Z':St}{b c i off n N:Nat}{B:Blk}{q:BU}{arr:Array Value}{f:Nat×Nat}{P:Program}{v:Value}{cells vs:List Value}
def addr_add (c o n:Nat):(⟨c,o,none⟩:Addr).add n=⟨c,o+n,none⟩:=by
 unfold Addr.add;by_cases h:n=0
 ·subst h;rfl
 ·rw[z0z h]
def It {e:TypeId}(h:w.heap[c]? =some (.cells arr e f)):w.cell? ⟨c,i,none⟩=arr[i]? :=by
 simp[World.cell?,h]
structure Env where
 lo:Nat
 chk:Nat->Code->Bool
 w0:World
def Env.Low (B8:Env) (w:World):Prop:=B8.lo<=w.heap.size/\∀ c,c<B8.lo->w.heap[c]? =B8.w0.heap[c]?
def Env.Low.next {B8:Env}(h:B8.Low w) (e:w.heap.size<=w'.heap.size) (d:∀ c,c<B8.lo->w'.heap[c]? =w.heap[c]?):B8.Low w':=⟨j9 h.1 e,fun c a=>by rw[d c a];exact h.2 c a⟩
def Row (B8:Env) (O:Place) (w:World) (q:BU) (cells:List Value):Prop :=
 ∃ (arr:Array Value) (e:TypeId) (lo hi:Nat),w.heap[q.c]? =some (.cells arr e (lo,hi))/\arr.size=q.m/\q.o+cells.length<=q.m/\(B8.lo<=q.c->q.m<=lo\/hi<=lo) /\
  (∀ v∈cells,L8 v=true)/\∀ (i:Nat) (v:Value),cells[i]? =some v->∃ v',arr[q.o+i]? =some v'/\I0 O v v'
def Row.mono {B8:Env}{O a:Place}(o:O.le a) (r:w'.heap[q.c]? =w.heap[q.c]?) (h:Row B8 O w q cells):Row B8 a w' q cells:=by
 obtain⟨arr,e,lo,hi,g,d,j,k,l,m⟩:=h;refine⟨arr,e,lo,hi,by rw[r,g],d,j,k,l,fun i v p=>?_⟩;obtain⟨v',h6,h7⟩:=m i v p;exact⟨v',h6,h7.mono o⟩
def run_read {o:Nat}{e:TypeId}(h:w.heap[c]? =some (.cells arr e f)) (n:Nat) (k:o+n<=arr.size):
  (loadCells ⟨c,o,none⟩ n).run P w= .ok (arr.toList.drop o |>.take n).toArray w:=by
 have:=run_loadCells_list (P:=P) (w:=w) ⟨c,o,none⟩ ((arr.toList.drop o).take n) (by
  intro j v a;rw[addr_add,It h];have g:j<n:=by
   rcases AU j n with d|d
   ·exact d
   ·rw[List.getElem?_eq_none (by simp;omega)]at a;cases a
  rw[List.getElem?_take_of_lt g,List.getElem?_drop]at a;rw[<- Array.getElem?_toList];exact a)
 rw[show((arr.toList.drop o).take n).length=n from by simp;omega]at this;exact this
def Row.read {B8:Env}{O:Place}{cs:List Value}(h:Row B8 O w q cells)(r:sub cells off n=some cs):
  ∃ vs:List Value,(loadCells ⟨q.c,q.o+off,none⟩ n).run P w= .ok vs.toArray w/\F8 O cs vs/\∀ v∈cs,L8 v=true:=by
 obtain⟨arr,e,lo,hi,j,s,u,y,k,l⟩:=h;obtain⟨h6,rfl⟩:=sub_eq r;refine⟨_,run_read j n om,?_,fun v a=>k v (dB (RR a))⟩;apply F8.Gv
 ·simp;omega
 ·intro i v a;have d:i<n:=by
   rcases AU i n with g|g
   ·exact g
   ·rw[List.getElem?_eq_none (by simp;omega)]at a;cases a
  rw[List.getElem?_take_of_lt d,List.getElem?_drop]at a ⊢;obtain⟨v',m,p⟩:=l _ _ a;exact⟨v',by rw[Array.getElem?_toList,show q.o+off+i=q.o+(off+i)from by omega];exact m,p⟩
def Lx (w:World) (c o:Nat):List Value->World
 | []=>w
 |v::vs=>Lx (w.setCell ⟨c,o,none⟩ v) c (o+1) vs
def GI (arr:Array Value) (o:Nat):List Value->Array Value
 | []=>arr
 |v::vs=>GI (arr.setIfInBounds o v) (o+1) vs
def Jm:∀ (vs:List Value) (arr:Array Value) (o:Nat),(GI arr o vs).size=arr.size:=by
 intro vs;induction vs with
 |nil=>intro arr o;rfl
 |cons v vs a=>intro arr o;rw[GI,a];simp
def Lu:∀ (vs:List Value) (arr:Array Value) (o j:Nat),o+vs.length<=arr.size ->
  (GI arr o vs)[j]? =if o<=j/\j<o+vs.length then vs[j-o]? else arr[j]? :=by
 intro vs;induction vs with
 |nil=>intro arr o j _;rw[GI,z0z (by simp only[Jg];omega)]
 | cons v vs ih=>
   intro arr o j h;simp only[Ap]at h;rw[GI,ih _ _ _ (by simp;omega)];by_cases a:o+1<=j/\j<o+1+vs.length
   ·rw[z1z a,z1z (by simp;omega),show j-o=(j-(o+1))+1 from by omega,List.getElem?_cons_succ]
   ·rw[z0z a,Array.getElem?_setIfInBounds];by_cases d:o=j
    ·subst d;rw[z1z rfl,z1z om,z1z (by simp)];simp
    ·rw[z0z d,z0z (by simp;omega)]
def Mv {e:TypeId}(h:w.heap[c]? =some (.cells arr e f)):
  (w.setCell ⟨c,i,none⟩ v).heap[c]? =some (.cells (arr.setIfInBounds i v) e f):=by
 simp[World.setCell,Array.getElem?_modify,h]
def QE {a:Nat}(h:a≠c):(w.setCell ⟨c,i,none⟩ v).heap[a]? =w.heap[a]? :=by
 simp only[World.setCell,Array.getElem?_modify];rw[z0z (by simpa using fun d:c=a=>h d.symm)]
structure Outside (w w':World):Prop where
 os:w'.os=w.os
 tape:w'.tape=w.tape
 output:w'.output=w.output
def Outside.refl (w:World):Outside w w:=⟨rfl,rfl,rfl⟩
def Outside.trans {a b c:World}(h:Outside a b) (k:Outside b c):Outside a c:=⟨k.os.trans h.os,k.tape.trans h.tape,k.output.trans h.output⟩
def Rf:∀ (vs:List Value) (w:World) (c o:Nat) (arr:Array Value) (e:TypeId) (f:Nat×Nat),w.heap[c]? =some (.cells arr e f) ->
  (Lx w c o vs).heap[c]? =some (.cells (GI arr o vs) e f)/\(∀ c',c'≠c->(Lx w c o vs).heap[c']? =w.heap[c']?)/\(Lx w c o vs).heap.size=w.heap.size/\Outside w (Lx w c o vs):=by
 intro vs;induction vs with
 |nil=>intro w c o arr e f h;exact⟨h,fun _ _=>rfl,rfl,.refl _⟩
 | cons v vs ih=>
   intro w c o arr e f h;obtain⟨d,g,j,k⟩:=ih (w.setCell ⟨c,o,none⟩ v) c (o+1) _ e f (Mv h);exact⟨d,fun c' a=>by rw[Lx,g c' a,QE a],by rw[Lx,j];simp,Outside.trans (b:=w.setCell ⟨c,o,none⟩ v) ⟨rfl,rfl,rfl⟩ k⟩
def Mw (h:L8 v=true):v.oneCell'=true:=by cases v<;>first|rfl|simp[L8]at h
def Ju (c o:Nat):∀ (vs:List Value) (w:World) (i:Nat) (arr:Array Value) (e:TypeId) (lo hi:Nat),w.heap[c]? =some (.cells arr e (lo,hi)) ->
  o+i+vs.length<=arr.size->(arr.size<=lo\/hi<=lo)->(∀ v∈vs,L8 v=true)->(storeCells ⟨c,o,none⟩ vs i).run P w= .ok () (Lx w c (o+i) vs):=by
 intro vs;induction vs with
 |nil=>intro w i arr e lo hi _ _ _ _;rfl
 | cons v vs ih=>
   intro w i arr e lo hi h g a d;simp only[Ap]at g;unfold storeCells;rw[Sem.run_bind,addr_add,run_store _ _ _ _ _ (Mw (d v (by simp)))];have j:w.cell? ⟨c,o+i,none⟩=some arr[o+i]:=by rw[It h];exact Array.getElem?_eq_getElem om
   rw[j];have k:w.frozen? ⟨c,o+i,none⟩=false:=by
    simp only[World.frozen?,h];rcases a with a|a
    ·simp;omega
    ·simp;omega
   simp only[k,Je,GZ,Result.andThen_ok];rw[ih (w.setCell ⟨c,o+i,none⟩ v) (i+1) _ e lo hi (Mv h) (by simp;omega) (by simpa using a) (fun v l=>d v (by simp[l]))];rfl
inductive Entries (O:Place):List Value->List MapEntry->Prop
 |nil:Entries O [] []
 |cons {k v:Value}{e:MapEntry}{l:List Value}{es:List MapEntry} (hk:flat k=true) (he:e.key=k) (hv:I0 O v e.val) (h:Entries O l es):Entries O (k::v::l) (e::es)
def Entries.mono {O a:Place}(g:O.le a){l:List Value}{es:List MapEntry}(h:Entries O l es):Entries a l es:=by
 induction h with
 |nil=>exact .nil
 |cons e d j _ k=>exact .cons e d (j.mono g) k
def GM (O:Place) (w:World) (c:Nat) (cells:List Value):Prop:=∃ (es:Array MapEntry) (clock:Nat),w.heap[c]? =some (.map es clock)/\Entries O cells es.toList
structure Hf (B8:Env) (O:Place) (w:World) (c:Nat) (fr:Fr) (ps:List Nat) (assign body:Code) (st:LoopState) (R9:Option Code) (r:Loop):Prop where
 UB:w.heap[c]? =some (.loop r)
 hst:r.state=st
 Ye:r.pending=R9
 hps:r.params.toList=ps
 has:r.assign=assign
 hbd:r.body=body
 hfr:∀ t v,fr.get t=some v->∃ v',r.tmps[t]? =some v'/\I0 O v v'
 hlt:∀ p∈ps,p<r.tmps.size
 FC:∃ n,n<=r.tmps.size/\B8.chk n assign=true/\B8.chk n body=true
def Hf.mono {B8:Env}{O e:Place}{w w':World}{c:Nat}{j:Fr}{ps:List Nat}{a d:Code}{k:LoopState}{g:Option Code}{r:Loop}(l:O.le e) (m:w'.heap[c]? =w.heap[c]?)
  (h:Hf B8 O w c j ps a d k g r):Hf B8 e w' c j ps a d k g r :=
 ⟨by rw[m];exact h.UB,h.hst,h.Ye,h.hps,h.has,h.hbd,fun t v ht=>let ⟨v',h1,h2⟩:=h.hfr t v ht;⟨v',h1,h2.mono l⟩,h.hlt,h.FC⟩
def Typed (w:World) (q:BU) (t:Option TypeId):Prop:=∀ x,t=some x->q.o=0/\∃ arr f,w.heap[q.c]? =some (.cells arr x f)
def Typed.none:Typed w q none:=fun _ h=>by cases h
def Typed.mono {t:Option TypeId}(a:w'.heap[q.c]? =w.heap[q.c]?) (h:Typed w q t):Typed w' q t:=fun x d=>by rw[a];exact h x d
def Fk (B8:Env) (O:Place) (w:World) (q:BU) (B:Blk):Prop:=match B.kind with
 | .row t=>Row B8 O w q B.cells/\Typed w q t
 | .map=>GM O w q.c B.cells
 | .loop fr ps assign body st R9=>∃ r,Hf B8 O w q.c fr ps assign body st R9 r
def Fk.mono {B8:Env}{O j:Place}(g:O.le j) (e:w'.heap[q.c]? =w.heap[q.c]?) (h:Fk B8 O w q B):Fk B8 j w' q B:=by
 unfold Fk at h ⊢;split
 ·rename_i d;rw[d]at h;exact⟨Row.mono g e h.1,h.2.mono e⟩
 ·rename_i d;rw[d]at h;obtain⟨es,a,k,l⟩:=h;exact⟨es,a,by rw[e,k],l.mono g⟩
 ·rename_i d;rw[d]at h;obtain⟨r,h⟩:=h;exact⟨r,h.mono g e⟩
def Fk.row {B8:Env}{O:Place}{t:Option TypeId}(a:B.kind= .row t) (h:Row B8 O w q B.cells) (ht:Typed w q t:=by exact Typed.none):Fk B8 O w q B:=by
 unfold Fk;rw[a];exact⟨h,ht⟩
def Fk.map {B8:Env}{O:Place}(a:B.kind= .map) (h:GM O w q.c B.cells):Fk B8 O w q B:=by
 unfold Fk;rw[a];exact h
def Fk.loop {B8:Env}{O:Place}{w:World}{q:BU}{B:Blk}{g:Fr}{ps:List Nat}{a d:Code}{j:LoopState}{e:Option Code}{r:Loop}(k:B.kind= .loop g ps a d j e)
  (h:Hf B8 O w q.c g ps a d j e r):Fk B8 O w q B:=by
 unfold Fk;rw[k];exact⟨r,h⟩
structure Rel (B8:Env) (O:Place) (Z:St) (w:World):Prop where
 fresh:∀ b,Z.n<=b->Z.h.get b=none
 IQ:∀ b q B,O b=some q->Z.blk b=some B->Fk B8 O w q B
 dom:∀ b q,O b=some q->q.c<w.heap.size
 own:∀ b q B,O b=some q->Z.blk b=some B->B.own=true->B8.lo<=q.c
 sep:∀ b q B b' q',O b=some q->Z.blk b=some B->B.own=true->b'≠b->O b'=some q'->(Z.n<=b'\/∃ B',Z.blk b'=some B')->q'.c≠q.c
 low:B8.Low w
def AM (h:Z.blk b=some B):Z.h.get b=some B/\B.live=true:=by
 obtain⟨e,a,d⟩:=A8 h;obtain⟨h3,h4⟩:=H9 d;cases h4;exact⟨a,h3⟩
def OT (h:Z.h.get b=some B) (a:B.live=true):Z.blk b=some B:=by
 show ob (Z.h.get b) (fun B=>bb B.live (some B))=_;rw[h];show bb B.live (some B)=_;rw[a];rfl
def AH (h:Z.Gc b=some B):Z.blk b=some B/\∃ t,B.kind= .row t:=by
 obtain⟨d,e,a⟩:=A8 h;obtain⟨cells,live,own,ver,kind⟩:=d;cases kind with
 |row=>cases a;exact⟨e,_,rfl⟩
 |map=>cases a
 |loop=>cases a
def Rg (h:Z.UG b=some B):Z.blk b=some B/\B.kind= .map:=by
 obtain⟨d,e,a⟩:=A8 h;obtain⟨cells,live,own,ver,kind⟩:=d;cases kind with
 |row=>cases a
 |map=>cases a;exact⟨e,rfl⟩
 |loop=>cases a
def Rel.row {B8:Env}{O:Place}(h:Rel B8 O Z w) (b:Nat) (q:BU) (B:Blk) (g:O b=some q) (e:Z.Gc b=some B):Row B8 O w q B.cells:=by
 obtain⟨a,t,d⟩:=AH e;have:=h.IQ b q B g a;unfold Fk at this;rw[d]at this;exact this.1
def Rel.typed {B8:Env}{O:Place}(h:Rel B8 O Z w){t:Option TypeId}(d:O b=some q) (a:Z.blk b=some B) (e:B.kind= .row t):Typed w q t:=by
 have:=h.IQ b q B d a;unfold Fk at this;rw[e]at this;exact this.2
def Rel.map {B8:Env}{O:Place}(h:Rel B8 O Z w) (b:Nat) (q:BU) (B:Blk) (g:O b=some q) (e:Z.UG b=some B):GM O w q.c B.cells:=by
 obtain⟨a,d⟩:=Rg e;have:=h.IQ b q B g a;unfold Fk at this;rw[d]at this;exact this
def Rel.lt {B8:Env}{O:Place}(h:Rel B8 O Z w)(d:Z.blk b=some B):b<Z.n:=by
 rcases AU b Z.n with a|a
 ·exact a
 ·exact absurd (AM d).1 (by rw[h.fresh b a];simp)
structure Y6 (O:Place) (Z:St) (w:World) (O':Place) (Z':St) (w':World):Prop where
 ext:∀ b,b<Z.n\/Z'.n<=b->O' b=O b
 n:Z.n<=Z'.n
 size:w.heap.size<=w'.heap.size
 I2:∀ c,c<w.heap.size->(∀ b q B,O b=some q->q.c=c->Z.blk b=some B->B.own=false)->w'.heap[c]? =w.heap[c]?
 owned:∀ b q B,O' b=some q->Z'.blk b=some B->q.c<w.heap.size->∃ b₀ q₀ B₀,O b₀=some q₀/\q₀.c=q.c/\Z.blk b₀=some B₀/\(B.own=true->B₀.own=true)
 out:Outside w w'
 same:∀ b,b<Z.n->O b=none->Z'.h.get b=Z.h.get b
def Y6.refl (O:Place) (Z:St) (w:World):Y6 O Z w O Z w :=
 ⟨fun _ _=>rfl,Bh _,Bh _,fun _ _ _=>rfl,fun b q B a d _=>⟨b,q,B,a,rfl,d,fun h=>h⟩,.refl _,fun _ _ _=>rfl⟩
def Y6.trans {O y l:Place}{m:St}{o:World}(h:Y6 O Z w y Z' w') (k:Y6 y Z' w' l m o):Y6 O Z w l m o:=by
 have G:=h.n;have I:=k.n;refine⟨fun b F=>?_,j9 h.n k.n,j9 h.size k.size,fun c p z=>?_,fun b q B g j p=>?_,h.out.trans k.out,fun b g j=>?_⟩
 ·rw[k.ext b om,h.ext b om]
 ·rw[k.I2 c (z5z p h.size) ?_,h.I2 c p z];intro b q B g H j;cases C:B.own with
  |false=>rfl
  | true=>
    obtain⟨d,e,a,r,E,s,u⟩:=h.owned b q B g j om;have A:=u C;rw[z d e a r om s]at A;cases A
 ·obtain⟨d,e,a,r,E,s,u⟩:=k.owned b q B g j (z5z p h.size);obtain⟨b₁,q₁,B₁,j1,j2,j3,j4⟩:=h.owned d e a r s om;exact⟨b₁,q₁,B₁,j1,om,j3,fun D=>j4 (u D)⟩
 ·rw[k.same b om (by rw[h.ext b (.inl g)];exact j),h.same b g j]
def Co (O:Place) (n N:Nat):Prop:=∀ b,n<=b->b<N->O b=none
def Y6.le {O g:Place}(h:Y6 O Z w g Z' w')(j:Co O Z.n N) (k:Z'.n<=N):O.le g:=by
 intro b p e;rw[h.ext b ?_]
 ·exact e
 ·rcases AU b Z.n with d|d
  ·exact .inl d
  ·rcases AU b Z'.n with a|a
   ·rw[j b d om]at e;cases e
   ·exact .inr a
def Y6.free {O a:Place}(h:Y6 O Z w a Z' w')(g:Co O Z.n N):Co a Z'.n N:=by
 intro b d e;rw[h.ext b (.inr d)];exact g b (j9 h.n d) e
def Place.put (O:Place) (n:Nat) (q:BU):Place:=fun b=>if b=n then some q else O b
def Place.R0 (O:Place) (n:Nat) (q:BU):(O.put n q) n=some q:=by unfold Place.put;rw[z1z rfl]
def Place.Ak (O:Place)(q:BU) (h:b≠n):(O.put n q) b=O b:=by unfold Place.put;rw[z0z h]
def Place.Hz {O:Place}(q:BU) (e:O n=none):O.le (O.put n q):=by
 intro b p a;by_cases d:b=n
 ·subst d;rw[e]at a;cases a
 ·rw[Place.Ak _ _ d];exact a
def UH (Z:St) (cs:List Value) (k:Kind):(Z.Dt cs k).blk Z.n=some ⟨cs,true,true,0,k⟩:=OT (Tr.get_set_same _ _ _) rfl
def ED (Z:St) (cs:List Value) (k:Kind)(h:b≠Z.n):(Z.Dt cs k).blk b=Z.blk b:=by
 show ob ((Z.h.set Z.n _).get b) _=_;rw[Tr.M7 _ _ h];rfl
def WS (Z:St) (cs:List Value) (t:Option TypeId:=none):(Z.new cs t).blk Z.n=some ⟨cs,true,true,0,.row t⟩:=OT (Tr.get_set_same _ _ _) rfl
def Ly (Z:St) (cs:List Value){t:Option TypeId}(h:b≠Z.n):(Z.new cs t).blk b=Z.blk b:=by
 show ob ((Z.h.set Z.n _).get b) _=_;rw[Tr.M7 _ _ h];rfl
def Rel.Ao0 {B8:Env}{O:Place}{Z:St}{w w':World}(h:Rel B8 O Z w) (H:O Z.n=none){cs:List Value}{k:Kind}{q:BU}(F:Fk B8 (O.put Z.n q) w' q ⟨cs,true,true,0,k⟩)
  (J:w.heap.size<=w'.heap.size) (r:∀ c,c<w.heap.size->c≠q.c->w'.heap[c]? =w.heap[c]?)
  (I:q.c<w'.heap.size) (d:B8.lo<=q.c) (y:∀ b q' ,O b=some q'->(Z.n<=b\/∃ B,Z.blk b=some B)->q'.c≠q.c) :
  Rel B8 (O.put Z.n q) (Z.Dt cs k) w':=by
 have C:=Place.Hz q H;have z:=Place.R0 O Z.n q;have j:∀ b,b≠Z.n->(O.put Z.n q) b=O b:=fun b d=>Place.Ak _ _ d;refine⟨?_,?_,?_,?_,?_,?_⟩
 ·intro b d;change Z.n+1<=b at d;show(Z.h.set Z.n _).get b=none;rw[Tr.M7 _ _ om];exact h.fresh b om
 ·intro b q' B d l;by_cases a:b=Z.n
  ·subst a;rw[z]at d;cases d;rw[UH]at l;cases l;exact F
  ·rw[j b a]at d;rw[ED _ _ _ a]at l;exact(h.IQ b q' B d l).mono C (r q'.c (h.dom b q' d) (y b q' d (.inr ⟨B,l⟩)))
 ·intro b q' d;by_cases a:b=Z.n
  ·subst a;rw[z]at d;cases d;exact I
  ·rw[j b a]at d;have:=h.dom b q' d;omega
 ·intro b q' B p l A;by_cases a:b=Z.n
  ·subst a;rw[z]at p;cases p;exact d
  ·rw[j b a]at p;rw[ED _ _ _ a]at l;exact h.own b q' B p l A
 ·intro b q1 B s E o l A u g m;by_cases a:b=Z.n
  ·subst a;rw[z]at o;cases o;rw[j s u]at g;rw[ED _ _ _ u]at m;refine y s E g ?_;rcases m with m|m
   ·change Z.n+1<=s at m;exact .inl om
   ·exact .inr m
  ·rw[j b a]at o;rw[ED _ _ _ a]at l;by_cases D:s=Z.n
   ·subst D;rw[z]at g;cases g;exact fun e=>y b q1 o (.inr ⟨B,l⟩) e.symm
   ·rw[j s D]at g;rw[ED _ _ _ D]at m;refine h.sep b q1 B s E o l A u g ?_;rcases m with m|m
    ·change Z.n+1<=s at m;exact .inl om
    ·exact .inr m
 ·exact h.low.next J fun c G=>r c (z5z G h.low.1) om
def Rel.put {B8:Env}{O:Place}{Z:St}{w w':World}(h:Rel B8 O Z w) (j:O Z.n=none){cs:List Value}{t:Option TypeId}{q:BU}(e:Row B8 (O.put Z.n q) w' q cs)
  (l:w.heap.size<=w'.heap.size) (a:∀ c,c<w.heap.size->c≠q.c->w'.heap[c]? =w.heap[c]?)
  (k:q.c<w'.heap.size) (g:B8.lo<=q.c) (d:∀ b q' ,O b=some q'->(Z.n<=b\/∃ B,Z.blk b=some B)->q'.c≠q.c) (ht:Typed w' q t:=by exact Typed.none) :
  Rel B8 (O.put Z.n q) (Z.new cs t) w':=h.Ao0 j (.row rfl e ht) l a k g d
def Rel.new {B8:Env}{O:Place}{Z:St}{w w':World}(h:Rel B8 O Z w) (A:O Z.n=none){cs:List Value}{t:Option TypeId}{arr:Array Value}{e:TypeId}{lo hi:Nat}
  (I:w'.heap.size=w.heap.size+1) (s:w'.heap[w.heap.size]? =some (.cells arr e (lo,hi))) (d:∀ c,c<w.heap.size->w'.heap[c]? =w.heap[c]?)
  (E:Outside w w') (o:arr.size<=lo\/hi<=lo) (k:∀ v∈cs,L8 v=true) (F:∃ vs more,arr.toList=vs++more/\F8 O cs vs) (ht:∀ x,t=some x->x=e:=by exact fun _ h=>by cases h) :
  Rel B8 (O.put Z.n ⟨w.heap.size,0,arr.size⟩) (Z.new cs t) w'/\Y6 O Z w (O.put Z.n ⟨w.heap.size,0,arr.size⟩) (Z.new cs t) w':=by
 have r:=Place.Hz ⟨w.heap.size,0,arr.size⟩ A;refine⟨h.put A ?_ om (fun c k _=>d c k) (by show w.heap.size<_;omega) h.low.1 (fun b C a _=>by have:=h.dom b C a;show C.c≠w.heap.size;omega) (fun x G=>by cases ht x G;exact⟨rfl,_,_,s⟩),⟨?_,?_,?_,?_,?_,E,fun b j _=>Tr.M7 _ _ om⟩⟩
 ·obtain⟨vs,more,j,u⟩:=F;have H:=u.length;refine⟨arr,e,lo,hi,s,rfl,?_,fun _=>o,k,fun i v p=>?_⟩
  ·show 0+cs.length<=arr.size;rw[<- QD,j];simp;omega
  ·obtain⟨v',y,D⟩:=u.get p;refine⟨v',?_,D.mono r⟩;show arr[0+i]? =_;rw[<- Array.getElem?_toList,j,GK,List.getElem?_append_left (List.getElem?_eq_some_iff.1 y).1];exact y
 ·intro b a;refine Place.Ak _ _ ?_;rcases a with a|a
  ·omega
  ·change Z.n+1<=b at a;omega
 ·show Z.n<=Z.n+1;omega
 ·omega
 ·intro c l _;exact d c l
 ·intro b q B a z m;by_cases g:b=Z.n
  ·subst g;rw[Place.R0]at a;cases a;change w.heap.size<w.heap.size at m;omega
  ·rw[Place.Ak _ _ g]at a;rw[Ly _ _ g]at z;exact⟨b,q,B,a,rfl,z,fun h=>h⟩
def Jv (h:Z.write b off vs=some Z'):
  ∃ B cs,Z.Gc b=some B/\B.own=true/\off+vs.length<=B.cells.length/\cs=B.cells.take off++vs++B.cells.drop (off+vs.length)/\Z'=⟨Z.h.set b ⟨cs,true,true,B.ver+1,B.kind⟩,Z.n⟩:=by
 obtain⟨B,a,d⟩:=A8 h;obtain⟨h3,h4⟩:=H9 d;obtain⟨cs,h5,h6⟩:=A8 h4;cases h6;obtain⟨h7,h8⟩:=Ug _ _ _ _ h5;exact⟨B,cs,a,h3,h7,h8,rfl⟩
def WT (Z:St) (b:Nat) (cs:List Value) (k:Nat) (K:Kind):(⟨Z.h.set b ⟨cs,true,true,k,K⟩,Z.n⟩:St).blk b=some ⟨cs,true,true,k,K⟩:=OT (Tr.get_set_same _ _ _) rfl
def CV (Z:St){a:Nat}(B:Blk) (h:a≠b):(⟨Z.h.set b B,Z.n⟩:St).blk a=Z.blk a:=by
 show ob ((Z.h.set b B).get a) _=_;rw[Tr.M7 _ _ h];rfl
def RP {d:Type}{l vs:List d}(h:off+vs.length<=l.length) (i:Nat):
  (l.take off++vs++l.drop (off+vs.length))[i]? =if off<=i/\i<off+vs.length then vs[i-off]? else l[i]? :=by
 rw[OU];by_cases a:i<off
 ·rw[z0z om,List.getElem?_append_left (by simp;omega),List.getElem?_take_of_lt a]
 ·rw[List.getElem?_append_right (by simp;omega)];simp only[Jw];rw[show min off l.length=off from by omega];by_cases e:i<off+vs.length
  ·rw[z1z om,List.getElem?_append_left om]
  ·rw[z0z om,List.getElem?_append_right om,List.getElem?_drop];congr 1;omega
def F8.gj {O:Place}{vs':List Value}(e:F8 O vs vs') (h:∀ v∈vs,L8 v=true):∀ v∈vs',L8 v=true:=by
 intro v j;have l:=e.length;obtain⟨i,a⟩:=List.getElem?_of_mem j;have d:i<vs.length:=by have:=(List.getElem?_eq_some_iff.1 a).1;omega
 obtain⟨v',g,k⟩:=e.get (List.getElem?_eq_getElem d);rw[a]at g;cases g;rw[k.L8];exact h _ (List.getElem_mem d)
def Rel.write {B8:Env}{O:Place}{Z Z':St}{w:World}(h:Rel B8 O Z w){b off:Nat}{q:BU}(l:O b=some q){vs vs':List Value}(V:Z.write b off vs=some Z')
  (J:F8 O vs vs') (F:∀ v∈vs,L8 v=true) :
  (∀ (P:Program),(storeCells ⟨q.c,q.o+off,none⟩ vs').run P w= .ok () (Lx w q.c (q.o+off) vs'))/\Rel B8 O Z' (Lx w q.c (q.o+off) vs')/\Y6 O Z w O Z' (Lx w q.c (q.o+off) vs'):=by
 obtain⟨B,cs,z,p,R,S,rfl⟩:=Jv V;obtain⟨arr,e,lo,hi,r1,r0,r2,r3,r4,r5⟩:=h.row b q B l z;obtain⟨h1,tk,hk⟩:=AH z;have a1:=r3 (h.own b q B l h1 p);have hl:=J.length;have G:=J.gj F;obtain⟨p1,p2,p3,p4⟩:=Rf vs' w q.c (q.o+off) arr e (lo,hi) r1;refine⟨fun P=>?_,⟨?_,?_,?_,?_,?_,?_⟩,⟨?_,?_,?_,?_,?_,p4,fun j _ M=>Tr.M7 _ _ (by intro C;subst C;rw[l]at M;cases M)⟩⟩
 ·exact Ju q.c (q.o+off) vs' w 0 arr e lo hi r1 om om G
 ·intro j a;have:=h.lt h1;change Z.n<=j at a;show(Z.h.set b _).get j=none;rw[Tr.M7 _ _ om];exact h.fresh j a
 ·intro j m r a g;by_cases d:j=b
  ·subst d;rw[l]at a;cases a;rw[WT]at g;cases g;subst S
   refine .row hk ⟨_,e,lo,hi,p1,by rw[Jm];exact r0,?_,r3,?_,?_⟩ (fun x W=>by
    obtain⟨o1,a0,f0,L⟩:=h.typed l h1 hk x W;rw[r1]at L;cases L;exact⟨o1,_,_,p1⟩)
   ·simp;omega
   ·intro v k;rcases EM.1 k with k|k
    ·rcases EM.1 k with k|k
     ·exact r4 v (RR k)
     ·exact F v k
    ·exact r4 v (dB k)
   ·intro i v k;rw[RP R]at k;rw[Lu _ _ _ _ om];by_cases y:off<=i/\i<off+vs.length
    ·rw[z1z y]at k;obtain⟨v',A,s⟩:=J.get k;exact⟨v',by rw[z1z om,show q.o+i-(q.o+off)=i-off from by omega];exact A,s⟩
    ·rw[z0z y]at k;obtain⟨v',A,s⟩:=r5 i v k;exact⟨v',by rw[z0z om];exact A,s⟩
  ·rw[CV _ _ d]at g;exact(h.IQ j m r a g).mono (Place.le_refl _) (p2 m.c (h.sep b q B j m l h1 p d a (.inr ⟨r,g⟩)))
 ·intro j m a;rw[p3];exact h.dom j m a
 ·intro j m r a g U;by_cases d:j=b
  ·subst d;rw[l]at a;cases a;exact h.own j q B l h1 p
  ·rw[CV _ _ d]at g;exact h.own j m r a g U
 ·intro D q1 B1 K q2 A s k3 k4 k5 u;have H:∃ B0,Z.blk D=some B0/\B0.own=true:=by
   by_cases d:D=b
   ·subst d;exact⟨B,h1,p⟩
   ·rw[CV _ _ d]at s;exact⟨B1,s,k3⟩
  obtain⟨B0,X,Y⟩:=H;refine h.sep D q1 B0 K q2 A X Y k4 k5 ?_;rcases u with u|⟨B2,u⟩
  ·exact .inl u
  ·by_cases d:K=b
   ·subst d;exact .inr ⟨B,h1⟩
   ·rw[CV _ _ d]at u;exact .inr ⟨B2,u⟩
 ·exact h.low.next (by rw[p3];exact Bh _) fun E F=>p2 E fun C=>by have:=h.own b q B l h1 p;omega
 ·intro _ _;rfl
 ·exact Bh _
 ·omega
 ·intro E _ I;refine p2 E fun C=>?_;rw[I b q B l C.symm h1]at p;cases p
 ·intro j m r a g _;by_cases d:j=b
  ·subst d;rw[l]at a;cases a;exact⟨j,q,B,l,rfl,h1,fun _=>p⟩
  ·rw[CV _ _ d]at g;exact⟨j,m,r,a,rfl,g,fun h=>h⟩
def Gz (h:Z.kill b=some Z'):∃ B,Z.Gc b=some B/\B.own=true/\Z'=⟨Z.h.set b ⟨[],false,true,B.ver+1,.row none⟩,Z.n⟩:=by
 obtain⟨B,a,d⟩:=A8 h;obtain⟨h3,h4⟩:=H9 d;cases h4;exact⟨B,a,h3,rfl⟩
def Fb (Z:St) (b k:Nat):(⟨Z.h.set b ⟨[],false,true,k,.row none⟩,Z.n⟩:St).blk b=none:=by
 show ob ((Z.h.set b _).get b) _=_;rw[Tr.get_set_same];rfl
def Rel.kill {B8:Env}{O:Place}(h:Rel B8 O Z w)(s:∃ q,O b=some q) (y:Z.kill b=some Z'):Rel B8 O Z' w/\Y6 O Z w O Z' w:=by
 obtain⟨B,l,H,rfl⟩:=Gz y;have r:=(AH l).1;have old:∀ e B',(⟨Z.h.set b ⟨[],false,true,B.ver+1,.row none⟩,Z.n⟩:St).blk e=some B'->Z.blk e=some B':=by
  intro e B' a;by_cases g:e=b
  ·subst g;rw[Fb]at a;cases a
  ·rw[CV _ _ g]at a;exact a
 refine⟨⟨?_,fun e k B' d a=>h.IQ e k B' d (old _ _ a),h.dom,fun e k B' d a=>h.own e k B' d (old _ _ a),?_,h.low⟩,⟨fun _ _=>rfl,Bh _,Bh _,fun _ _ _=>rfl,?_,.refl _,fun e _ m=>Tr.M7 _ _ (by intro u;subst u;obtain⟨q,z⟩:=s;rw[z]at m;cases m)⟩⟩
 ·intro e d;have:=h.lt r;change Z.n<=e at d;show(Z.h.set b _).get e=none;rw[Tr.M7 _ _ om];exact h.fresh e d
 ·intro o q1 B1 p G A C D E F j;refine h.sep o q1 B1 p G A (old _ _ C) D E F ?_;rcases j with j|⟨B2,j⟩
  ·exact .inl j
  ·exact .inr ⟨B2,old _ _ j⟩
 ·intro e k B' d a _;exact⟨e,k,B',d,rfl,old _ _ a,fun h=>h⟩
def Rel.grow {B8:Env}{O:Place}{Z Z':St}{w:World}(h:Rel B8 O Z w) (R:O Z.n=none){b off:Nat}{q:BU}(p:O b=some q){old new Q3:List Value}
  (hr:Z.read b off old.length=some old) (S:Z.kill b=some Z') (y:F8 O new Q3) (M:∀ v∈new,L8 v=true) (hm:q.o+off+old.length+new.length<=q.m)
  {t:Option TypeId} (ht:∀ x,t=some x->off=0/\q.o=0/\∃ arr f,w.heap[q.c]? =some (.cells arr x f):=by exact fun _ h=>by cases h) :
  (∀ (P:Program),(storeCells ⟨q.c,q.o+off+old.length,none⟩ Q3).run P w= .ok () (Lx w q.c (q.o+off+old.length) Q3)) /\
  Rel B8 (O.put Z.n ⟨q.c,q.o+off,q.m⟩) (Z'.new (old++new) t) (Lx w q.c (q.o+off+old.length) Q3) /\
  Y6 O Z w (O.put Z.n ⟨q.c,q.o+off,q.m⟩) (Z'.new (old++new) t) (Lx w q.c (q.o+off+old.length) Q3):=by
 obtain⟨I,X⟩:=h.kill ⟨q,p⟩ S;obtain⟨B,hr1,h2,rfl⟩:=Gz S;have u:=(AH hr1).1;obtain⟨B',hB',GL⟩:=A8 hr;rw[hr1]at hB';cases hB';obtain⟨hs1,hs2⟩:=sub_eq GL;obtain⟨arr,e,lo,hi,r1,r0,r2,r3,r4,r5⟩:=h.row b q B p hr1;have hl:=y.length;have a1:=r3 (h.own b q B p u h2);have G:=y.gj M;have A:=Place.Hz (⟨q.c,q.o+off,q.m⟩:BU) R;have C:∀ v∈old,L8 v=true:=by
  intro v g;rw[hs2]at g;exact r4 v (dB (RR g))
 obtain⟨U,V,p3,p4⟩:=Rf Q3 w q.c (q.o+off+old.length) arr e (lo,hi) r1;refine⟨fun P=>Ju q.c (q.o+off+old.length) Q3 w 0 arr e lo hi r1 om om G,?_,⟨?_,?_,?_,?_,?_,p4,fun k Y y=>?_⟩⟩
 ·refine I.put (Z:=⟨Z.h.set b _,Z.n⟩) R (q:=⟨q.c,q.o+off,q.m⟩) ?_ om (fun c _ r=>V c r) (by rw[p3];exact h.dom b q p) (h.own b q B p u h2) ?_ (fun x hx=>by
    obtain⟨o1,o2,a0,f0,L⟩:=ht x hx;rw[r1]at L;cases L;exact⟨by show q.o+off=0;omega,_,_,U⟩)
  ·refine⟨_,e,lo,hi,U,by rw[Jm];exact r0,?_,r3,?_,?_⟩
   ·show q.o+off+(old++new).length<=q.m;rw[CU];omega
   ·intro v g;rcases EM.1 g with g|g
    ·exact C v g
    ·exact M v g
   ·intro i v g;show ∃ v',(GI arr (q.o+off+old.length) Q3)[q.o+off+i]? =some v'/\_;rw[Lu _ _ _ _ om];by_cases z:i<old.length
    ·rw[List.getElem?_append_left z]at g;rw[z0z om];rw[hs2]at g;rw[List.getElem?_take_of_lt z,List.getElem?_drop]at g;obtain⟨v',D,K⟩:=r5 _ v g;exact⟨v',by rw[show q.o+off+i=q.o+(off+i)from by omega];exact D,K.mono A⟩
    ·rw[List.getElem?_append_right om]at g;obtain⟨v',D,K⟩:=y.get g;have:=(List.getElem?_eq_some_iff.1 D).1;exact⟨v',by rw[z1z om,show q.o+off+i-(q.o+off+old.length)=i-old.length from by omega];exact D,K.mono A⟩
  ·intro k E d a r;change E.c=q.c at r;by_cases j:k=b
   ·subst j;rcases a with a|⟨B2,a⟩
    ·have:=h.lt u;change Z.n<=k at a;omega
    ·rw[Fb]at a;cases a
   ·refine h.sep b q B k E p u h2 j d ?_ r;rcases a with a|⟨B2,a⟩
    ·exact .inl a
    ·rw[CV _ _ j]at a;exact .inr ⟨B2,a⟩
 ·intro k d;refine Place.Ak _ _ ?_;rcases d with d|d
  ·omega
  ·change Z.n+1<=k at d;omega
 ·show Z.n<=Z.n+1;omega
 ·omega
 ·intro c _ J;refine V c fun H=>?_;rw[J b q B p H.symm u]at h2;cases h2
 ·intro k E B2 d l W;by_cases s:k=Z.n
  ·subst s;rw[Place.R0]at d;cases d;exact⟨b,q,B,p,rfl,u,fun _=>h2⟩
  ·rw[Place.Ak _ _ s]at d;have F:=Ly (t:=t) (⟨Z.h.set b ⟨[],false,true,B.ver+1,.row none⟩,Z.n⟩:St) (old++new) (b:=k) s;rw[F]at l;by_cases j:k=b
   ·subst j;rw[Fb]at l;cases l
   ·rw[CV _ _ j]at l;exact⟨k,E,B2,d,rfl,l,fun h=>h⟩
 ·show(Tr.set (Z.h.set b _) Z.n _).get k=_;rw[Tr.M7 _ _ om,Tr.M7 _ _ (by intro H;subst H;rw[p]at y;cases y)]
end
def Fc {d:Type}{P:Program}(s:Sem d):∀ {a:d},O8 P s=some a->∀ w,s.run P w= .ok a w:=by
 induction s with
 |pure a=>intro b h w;cases h;rfl
 |program k c=>intro b h w;exact c P h w
 |mark m k c=>intro b h w;exact c h w
 |_=>intro b h;cases h
def K5 (O:Place) (fr:Fr) (a:Operand->Value) (l:List Operand):Prop:=∀ x v,x∈l->ev fr x=some v->I0 O v (a x)
def K5.sub {O:Place}{fr:Fr}{e:Operand->Value}{l k:List Operand}(h:K5 O fr e l) (a:∀ x,x∈k->x∈l):K5 O fr e k:=fun x v c b=>h x v (a x c) b
def K5.evs {O:Place}{fr:Fr}{e:Operand->Value}:∀ {l:List Operand}{vs:List Value},K5 O fr e l->Ab.evs fr l=some vs->F8 O vs (l.map e):=by
 intro l;induction l with
 |nil=>intro vs _ h;cases h;exact .nil
 | cons x l ih=>
   intro vs a h;obtain⟨v,b,c⟩:=A8 (show ob (ev fr x) (fun v=>ob (Ab.evs fr l) fun vs=>some (v::vs))=some vs from h);obtain⟨us,h3,h4⟩:=A8 c;cases h4;exact .cons (a x v (by simp) b) (ih (a.sub fun y d=>by simp[d]) h3)
section
variable {P:Program}{O:Place}{fr:Fr}{e:Operand->Value}{o:Oper}{w:World}{v:Value}
def BM (P:Program) (O:Place) (e:Operand->Value) (o:Oper) (w:World) (v:Value):Prop:=∃ v',(execOp e o).run P w= .ok (.value v') w/\I0 O v v'
def Ux {v v':Value}{n:Nat}(h:I0 O v v') (a:nat? v=some n):∃ k,v'= .int k (Int.ofNat n):=by
 cases v with
 | int k m=>
   cases m with
   |ofNat m=>cases a;cases h;exact⟨k,rfl⟩
   |negSucc m=>cases a
 |_=>cases a
def QU {x:Operand}{n:Nat}{l:List Operand}(c:K5 O fr e l) (d:x∈l) (h:evN fr x=some n):∃ k,e x= .int k (Int.ofNat n):=by
 obtain⟨v,a,b⟩:=A8 h;exact Ux (c x v d a) b
def MJ {v v':Value}{b off:Nat}(h:I0 O v v') (a:at? v=some (b,off)):∃ q,O b=some q/\v'= .pointer (some ⟨q.c,q.o+off,none⟩):=by
 unfold at? at a;split at a
 ·cases a;cases h with
  |ptr d=>exact⟨_,d,rfl⟩
  |I3 h=>simp[I3]at h
 ·cases a
def Bs {t:TypeId}{n:Nat}(h:size? P t=some n) (w:World):(sizeOf t).run P w= .ok n w:=by
 unfold size? at h;split at h
 ·rename_i i hi;cases h;simp[sizeOf,typeInfo,hi]
 ·cases h
def gb {t:TypeId}{i:TypeInfo}(h:P.info? t=some i) (w:World):(typeInfo t).run P w= .ok i w:=by simp[typeInfo,h]
def G5 {t:TypeId}{d:TypeDesc}(h:P.underlying t=some d) (w:World):(underlying t).run P w= .ok d w:=by simp[underlying,h]
def Xs {t:TypeId}{g:Bool}(h:MY P t=some g) (w:World):(isAgg t).run P w= .ok g w:=by
 unfold MY at h;split at h
 ·rename_i d a;cases h;simp only[isAgg,Sem.run_bind,G5 a,Result.andThen_ok];cases d<;>rfl
 ·cases h
def HX {t e:TypeId}(h:elem? P t=some e):P.underlying t=some (.slice e):=by
 unfold elem? at h;split at h
 ·cases h;assumption
 ·cases h
def ER {t:TypeId}{z:Value}(h:Bn P t=some z) (w:World):(zeroValue t).run P w= .ok z w/\I0 O z z/\∃ i,P.info? t=some i/\i.zero=some z:=by
 obtain⟨i,a,b⟩:=A8 h;obtain⟨z',h3,h4⟩:=A8 b;obtain⟨h5,h6⟩:=I0.cst (O:=O) h4;subst h5;exact⟨by simp[zeroValue,typeInfo,a,h3],h6,i,a,h3⟩
def ZP {t:TypeId}{cs a:List Value}{off:Nat}(k:F8 O cs a) (r:∀ v∈cs,L8 v=true) (h:wU P t cs off=some v) :
  ∃ v',(part t ⟨a⟩ off).run P w= .ok v' w/\I0 O v v':=by
 obtain⟨g,m,i⟩:=A8 h;have j:=Xs m w;cases g with
 | true=>
   obtain⟨n,c,b⟩:=A8 (show ob (size? P t) _=some v from i);obtain⟨l,h5,h6⟩:=A8 b;cases h6;obtain⟨h7,rfl⟩:=sub_eq h5;refine⟨.agg ((⟨a⟩:Array Value).extract off (off+n)),?_,?_⟩
   ·simp only[part,Sem.run_bind,j,Result.andThen_ok,FB,Bs c,Sem.run_pure]
   ·have y:(⟨a⟩:Array Value).extract off (off+n)=⟨(a.drop off).take n⟩:=by
     rw[<- SC,AO0,AO1];simp
    rw[y];exact .agg (fun u f=>r u (dB (RR f))) ((k.drop off).take n)
 | false=>
   obtain⟨l,c,b⟩:=A8 (show ob (sub cs off 1) _=some v from i);obtain⟨h7,rfl⟩:=sub_eq c;have s:cs[off]? =some v:=by
    unfold LL at b;split at b
    ·rename_i u f;cases b;have:=congrArg (fun l:List Value=>l[0]?) f
     simpa[List.getElem?_take]using this
    ·cases b
   obtain⟨v',p,q⟩:=k.get s;refine⟨v',?_,q⟩;have d:(⟨a⟩:Array Value)[off]? =some v':=by simpa using p
   simp only[part,Sem.run_bind,j,Result.andThen_ok,Je,GZ,d,Sem.run_pure]
def Pa (l:K5 O fr e o.op.operands.toList) (m:∀ cs b,o.op≠ .select cs b) (k:∀ x∈o.op.operands.toList,∃ u,ev fr x=some u/\flat u=true)
  (h:LX P fr o=some v):BM P O e o w v:=by
 obtain⟨u,a,g⟩:=A8 h;obtain⟨h3,h4⟩:=I0.cst (O:=O) g;subst h3;have j:execOp (fun x=>(ev fr x).getD R6) o=execOp e o:=by
  apply execOp_congr o m;intro x f;obtain⟨u,d,i⟩:=k x (by simpa using f);rw[d];exact((l x u (by simpa using f) d).flat i).symm
 rw[j]at a;unfold LS at a;split at a
 ·rename_i n c;cases a;exact⟨_,Fc _ c w,h4⟩
 ·cases a
def Wr (a b:Int):ilt a b=decide (a<b):=by
 rw[z7z,z3z];cases a with
 | ofNat a=>
   cases b with
   |ofNat b=>show Nat.blt a b=true↔_;rw[BW];simp only[Jp];omega
   |negSucc b=>show false=true↔_;simp only[Jp];constructor<;>intro h<;>first|cases h|omega
 | negSucc a=>
   cases b with
   |ofNat b=>exact⟨fun _=>by rw[eZ,Jp];omega,fun _=>rfl⟩
   |negSucc b=>show Nat.blt b a=true↔_;rw[BW];simp only[eZ];omega
def Ni (a b:Int):ieq a b=(a==b):=by
 rw[z7z,beq_iff_eq];cases a with
 | ofNat a=>
   cases b with
   |ofNat b=>show Nat.beq a b=true↔_;rw[Nat.beq_eq];simp only[Jp];omega
   |negSucc b=>show false=true↔_;simp only[Jp];constructor<;>intro h<;>first|cases h|omega
 | negSucc a=>
   cases b with
   |ofNat b=>show false=true↔_;simp only[Jp];constructor<;>intro h<;>first|cases h|omega
   |negSucc b=>show Nat.beq a b=true↔_;rw[Nat.beq_eq];omega
def p64:(2:Int) ^ 64=18446744073709551616:=by decide
def p63:(2:Int) ^ 63=9223372036854775808:=by decide
def p8:(2:Int) ^ 8=256:=by decide
def wrap_i64 (n:Int):IntKind.i64.wrap n=if n % 18446744073709551616>=9223372036854775808 then n % 18446744073709551616-18446744073709551616 else n % 18446744073709551616:=by
 show(if (true&&decide (n % (2 ^ 64:Int)>=(2 ^ 63:Int)))=true then n % (2 ^ 64:Int)-(2 ^ 64:Int)else n % (2 ^ 64:Int))=_;rw[p64,p63,Io];simp only[EO]
def wrap_u64 (n:Int):IntKind.u64.wrap n=n % 18446744073709551616:=by
 show(if (false&&decide (n % (2 ^ 64:Int)>=(2 ^ 63:Int)))=true then n % (2 ^ 64:Int)-(2 ^ 64:Int)else n % (2 ^ 64:Int))=_;rw[p64,Lr,z0z (by simp)]
def wrap_u8 (n:Int):IntKind.u8.wrap n=n % 256:=by
 show(if (false&&decide (n % (2 ^ 8:Int)>=(2 ^ 7:Int)))=true then n % (2 ^ 8:Int)-(2 ^ 8:Int)else n % (2 ^ 8:Int))=_;rw[p8,Lr,z0z (by simp)]
def xF {k:IntKind}{n:Int}(h:inR k n=true):k.wrap n=n:=by
 unfold inR at h;split at h
 ·rw[BW]at h;rw[wrap_i64];simp only[Jp];split<;>omega
 ·rw[BW]at h;rw[wrap_i64];split<;>omega
 ·rw[BW]at h;rw[wrap_u8];simp only[Jp];omega
 ·rw[BW]at h;rw[wrap_u64];simp only[Jp];omega
 ·cases h
def o7 (k:IntKind) (n:Int):L9 k n=k.wrap n:=by
 unfold L9;cases h:inR k n with
 |true=>rw[xF h];rfl
 |false=>rfl
def XY {a b:IntKind}(h:keq a b=true):a=b:=by
 cases a<;>cases b<;>first|rfl|(simp[keq,IntKind.ctorIdx]at h)
def TG:∀ (a b:List UInt8),MN a b=(a==b):=by
 intro a;induction a with
 |nil=>intro b;cases b<;>rfl
 | cons x a ih=>
   intro b;cases b with
   |nil=>rfl
   | cons y b=>
     show bi (Nat.beq x.toNat y.toNat) (MN a b) false=_;rw[ih];by_cases c:x=y
     ·subst c;simp
     ·have:Nat.beq x.toNat y.toNat=false:=by
       rw[rG];intro d;exact c (UInt8.toNat_inj.1 (Ai d))
      rw[this];simp[c]
def gT (c:Bool):bi c false true= !c:=by cases c<;>rfl
def dk {op:BinOp}{x y:Value}{t B:TypeId}{d f:Operand}(q:o.op= .binOp op t d f B) (h:JW op x y=some v) (r:e d=x) (s:e f=y):BM P O e o w v:=by
 unfold JW at h;split at h
 ·rename_i k a;split at h
  ·rename_i C b;obtain⟨g,c⟩:=H9 h;have n:=XY g;subst n;have m:(eqGuard op t d f (.int k a) (.int k b)).run P w= .ok () w:=by
    unfold eqGuard;cases op<;>rfl
   suffices hb:∃ v',(binOp op t (.int k a) (.int k b)).run P w= .ok v' w/\I0 O v v' by
    obtain⟨v',i,j⟩:=hb;refine⟨v',?_,j⟩;simp only[execOp,q,r,s,Sem.run_bind,m,Result.andThen_ok,i,Sem.run_pure]
   cases op<;>first
    | (cases c;done)
    | (cases c;refine⟨_,?_,.I3 rfl⟩;simp[binOp,Op.intArith,Op.intCmp,o7,Wr,Ni,gT];done)
    | (cases c;refine⟨_,?_,.I3 rfl⟩;simp[binOp,Op.intArith,Op.intCmp,o7,Wr,Ni,gT];rw[z7z];simp;done)
  ·cases h
 ·rename_i a;split at h
  ·rename_i b;have m:(eqGuard op t d f (.string a) (.string b)).run P w= .ok () w:=by
    unfold eqGuard;cases op<;>rfl
   suffices hb:∃ v',(binOp op t (.string a) (.string b)).run P w= .ok v' w/\I0 O v v' by
    obtain⟨v',i,j⟩:=hb;refine⟨v',?_,j⟩;simp only[execOp,q,r,s,Sem.run_bind,m,Result.andThen_ok,i,Sem.run_pure]
   cases op<;>first
    | (cases h;done)
    | (cases h;refine⟨_,?_,.I3 rfl⟩;simp[binOp,Op.stringOp,TG,ByteArray.toList_eq,gT];done)
    |skip
   obtain⟨g,c⟩:=H9 (show bb _ _=some v from h);cases c;refine⟨_,?_,.I3 rfl⟩;have p:=Jo g;have:¬ ((a.size+b.size:Nat):Int)>IntKind.i64.max:=by
    have u:a.size=a.data.toList.length:=Array.length_toList.symm;have z:b.size=b.data.toList.length:=Array.length_toList.symm;have A:IntKind.i64.max=9223372036854775807:=by decide
    rw[u,z,A];unfold room at p;omega
   have l:(⟨(a.data.toList++b.data.toList).toArray⟩:ByteArray)=a++b:=by
    apply ByteArray.ext;simp[ByteArray.data_append]
   simp only[binOp,Op.stringOp,this,GZ,Sem.run_pure,l]
  ·cases h
 ·cases h
end
section
variable {x ix:Operand}{y x' y':Value}{b:Bool}{f:Nat}
section
variable {P:Program}{O:Place}{fr:Fr}{e:Operand->Value}{o:Oper}{w:World}{v:Value}
def yP {op:BinOp}{x:Value}(h:JW op x y=some v) (a:I0 O x x') (c:I0 O y y'):x'=x/\y'=y:=by
 unfold JW at h;split at h
 ·split at h
  ·cases a;cases c;exact⟨rfl,rfl⟩
  ·cases h
 ·split at h
  ·cases a;cases c;exact⟨rfl,rfl⟩
  ·cases h
 ·cases h
def ZM {t:TypeId}{d:TypeDesc}{x:Value}(k:Nat) (g:P.underlying t=some d) (h:Ej (some d) x y=some b) (i:I0 O x x') (j:I0 O y y'):
  (Op.equalIn (k+1) t x' y').run P w= .ok b w/\∀ op xo yo,(eqGuard op t xo yo x' y').run P w= .ok () w:=by
 cases d with
 | pointer el=>
   unfold Ej at h;simp only at h;split at h
   ·cases h;cases i;cases j;exact⟨by(unfold Op.equalIn;rw[Sem.run_bind,G5 g];rfl),fun op xo yo=>by unfold eqGuard;cases op<;>rfl⟩
   ·cases h;cases i;cases j<;>first
     |exact⟨by(unfold Op.equalIn;rw[Sem.run_bind,G5 g];rfl),fun op xo yo=>by unfold eqGuard;cases op<;>rfl⟩
     | (rename_i c;simp[I3]at c;done)
   ·cases h;cases j;cases i<;>first
     |exact⟨by(unfold Op.equalIn;rw[Sem.run_bind,G5 g];rfl),fun op xo yo=>by unfold eqGuard;cases op<;>rfl⟩
     | (rename_i c;simp[I3]at c;done)
   ·cases h
 | slice el=>
   unfold Ej at h;simp only at h;split at h
   ·cases h;cases i;cases j;exact⟨by(unfold Op.equalIn;rw[Sem.run_bind,G5 g];rfl),fun op xo yo=>by unfold eqGuard;cases op<;>rfl⟩
   ·cases h;cases i;cases j<;>first
     |exact⟨by(unfold Op.equalIn;rw[Sem.run_bind,G5 g];rfl),fun op xo yo=>by unfold eqGuard;cases op<;>rfl⟩
     | (rename_i c;simp[I3]at c;done)
   ·cases h;cases j;cases i<;>first
     |exact⟨by(unfold Op.equalIn;rw[Sem.run_bind,G5 g];rfl),fun op xo yo=>by unfold eqGuard;cases op<;>rfl⟩
     | (rename_i c;simp[I3]at c;done)
   ·cases h
 | func a r vr=>
   unfold Ej at h;simp only at h;split at h
   ·cases h;cases i;cases j;exact⟨by(unfold Op.equalIn;rw[Sem.run_bind,G5 g];rfl),fun op xo yo=>by unfold eqGuard;cases op<;>rfl⟩
   ·cases h;cases i;cases j<;>first
     |exact⟨by(unfold Op.equalIn;rw[Sem.run_bind,G5 g];rfl),fun op xo yo=>by unfold eqGuard;cases op<;>rfl⟩
     | (rename_i c;simp[I3]at c;done)
   ·cases h;cases j;cases i<;>first
     |exact⟨by(unfold Op.equalIn;rw[Sem.run_bind,G5 g];rfl),fun op xo yo=>by unfold eqGuard;cases op<;>rfl⟩
     | (rename_i c;simp[I3]at c;done)
   ·cases h
 | interface ms=>
   unfold Ej at h;simp only at h;split at h
   ·cases h;cases i;cases j<;>first
     |exact⟨by(unfold Op.equalIn;rw[Sem.run_bind,G5 g];rfl),fun op xo yo=>by unfold eqGuard;cases op<;>rfl⟩
     | (rename_i c;simp[I3]at c;done)
   ·cases h;cases j;cases i<;>first
     |exact⟨by(unfold Op.equalIn;rw[Sem.run_bind,G5 g];rfl),fun op xo yo=>by unfold eqGuard;cases op<;>rfl⟩
     | (rename_i c;simp[I3]at c;done)
   ·cases h
 |_=>cases h
def lQ {t:TypeId}{d:TypeDesc}{x:Value}(a:P.underlying t=some d) (h:Ej (some d) x y=some b) (c:I0 O x x') (g:I0 O y y'):
  (Op.equal t x' y').run P w= .ok b w/\∀ op xo yo,(eqGuard op t xo yo x' y').run P w= .ok () w:=ZM 9999 a h c g
def NS {d:Option TypeDesc}{x:Value}(h:Ej d x y=some b) (c:I0 O x x') (g:I0 O y y') (t:TypeId):
  binOp .eql t x' y'=(do pure (.bool (<- Op.equal t x' y')))/\binOp .neq t x' y'=(do pure (.bool (!(<- Op.equal t x' y')))):=by
 unfold Ej at h
 split at h<;>(try split at h)<;>(try(cases h;done))<;>cases c<;>cases g<;>first
  |exact⟨rfl,rfl⟩
  | (rename_i a;simp[I3]at a;done)
  | (rename_i a _;simp[I3]at a;done)
def lR {op:BinOp}{t E:TypeId}{i j:Operand}(c:o.op= .binOp op t i j E) (r:K5 O fr e o.op.operands.toList) (h:SI P fr o op t i j=some v):BM P O e o w v:=by
 obtain⟨x,B,D⟩:=A8 h;obtain⟨y,h3,h4⟩:=A8 D;have m:=r i x (by simp[c,Op.operands]) B;have n:=r j y (by simp[c,Op.operands]) h3;unfold yQ at h4;cases l:JW op x y with
 | some u=>
   rw[l]at h4;cases h4;obtain⟨s,A⟩:=yP l m n;exact dk c l s A
 | none=>
   rw[l]at h4;change bi (flat x&&flat y) (LX P fr o) (qy P t op x y)=some v at h4;cases a:flat x&&flat y with
   | true=>
     rw[a]at h4;rw[R2]at a;refine Pa r (by simp[c]) ?_ h4;intro z C;simp[c,Op.operands]at C;rcases C with rfl|rfl
     ·exact⟨x,B,a.1⟩
     ·exact⟨y,h3,a.2⟩
   | false=>
     rw[a]at h4;change qy P t op x y=some v at h4;have key:∀ b,Ej (P.underlying t) x y=some b->(Op.equal t (e i) (e j)).run P w= .ok b w/\∀ op xo' yo',(eqGuard op t xo' yo' (e i) (e j)).run P w= .ok () w:=by
      intro b k;cases q:P.underlying t with
      |none=>rw[q]at k;cases k
      |some d=>rw[q]at k;exact lQ q k m n
     unfold qy at h4;split at h4
     ·obtain⟨b,g,p⟩:=A8 h4;cases p;obtain⟨k1,k2⟩:=key b g;refine⟨.bool b,?_,.I3 rfl⟩;simp only[execOp,c,Sem.run_bind,k2,Result.andThen_ok,(NS g m n t).1,k1,Sem.run_pure]
     ·obtain⟨b,g,p⟩:=A8 h4;cases p;obtain⟨k1,k2⟩:=key b g;refine⟨.bool !b,?_,.I3 rfl⟩;simp only[execOp,c,Sem.run_bind,k2,Result.andThen_ok,(NS g m n t).2,k1,Sem.run_pure]
     ·cases h4
def SJ (a:o.op= .move x\/o.op= .assign x) (c:K5 O fr e o.op.operands.toList) (h:ev fr x=some v):BM P O e o w v:=by
 rcases a with a|a
 ·exact⟨e x,by simp[execOp,a],c x v (by simp[a,Op.operands]) h⟩
 ·exact⟨e x,by simp[execOp,a],c x v (by simp[a,Op.operands]) h⟩
def dm {c a b:Operand}(d:o.op= .pick c a b) (g:K5 O fr e o.op.operands.toList) (h:KJ fr c a b=some v):BM P O e o w v:=by
 obtain⟨x,j,k⟩:=A8 h;obtain⟨t,h3,h4⟩:=A8 k;have i:=g c x (by simp[d,Op.operands]) j;have ht:e c= .bool t:=by
  unfold bool? at h3;split at h3
  ·cases h3;generalize e c=y at i;cases i;rfl
  ·cases h3
 cases t with
 |true=>exact⟨e a,by simp[execOp,d,ht,asBool],g a v (by simp[d,Op.operands]) h4⟩
 |false=>exact⟨e b,by simp[execOp,d,ht,asBool],g b v (by simp[d,Op.operands]) h4⟩
def SK (g:o.op= .nilCheck x) (j:K5 O fr e o.op.operands.toList) (h:CD fr x=some v):BM P O e o w v:=by
 obtain⟨u,i,c⟩:=A8 h;have a:=j x u (by simp[g,Op.operands]) i;unfold du at c;split at c
 ·cases c;refine⟨e x,?_,a⟩;generalize d:e x=y at a;cases a with
  |ptr k=>simp[execOp,g,d]
  |I3 hs=>simp[I3]at hs
 ·cases c;refine⟨e x,?_,a⟩;generalize d:e x=y at a;cases a with
  |func=>simp[execOp,g,d]
  |I3 hs=>simp[I3]at hs
 ·cases c;refine⟨e x,?_,a⟩;generalize d:e x=y at a;cases a with
  |iface=>simp[execOp,g,d]
  |I3 hs=>simp[I3]at hs
 ·cases c
def Pb (c:o.op.operands.toList=[x]) (j:∀ cs b,o.op≠ .select cs b) (i:K5 O fr e o.op.operands.toList) (h:FI P fr o x=some v):BM P O e o w v:=by
 obtain⟨u,d,g⟩:=A8 h;obtain⟨h3,h4⟩:=H9 g;refine Pa i j ?_ h4;intro z a;rw[c]at a;simp at a;subst a;exact⟨u,d,h3⟩
def ZN {t:TypeId}(c:o.op= .makeInterface t x) (k:K5 O fr e o.op.operands.toList) (h:qz P fr t x=some v):BM P O e o w v:=by
 obtain⟨u,g,i⟩:=A8 h;obtain⟨h3,h4⟩:=H9 i;cases h4;have l:=k x u (by simp[c,Op.operands]) g;refine⟨.iface t (e x),?_,.iface l⟩;unfold concrete at h3;split at h3
 ·cases h3
 ·rename_i d j a;have:=G5 a w;simp only[execOp,c,Instr.makeInterface,Sem.run_bind,this,Result.andThen_ok];cases d<;>first|rfl|exact absurd rfl (j _)
 ·cases h3
def dv {fn:Fn}{fs cs:Array Operand}(c:o.op= .makeFunc fn fs cs) (g:K5 O fr e o.op.operands.toList) (h:SM fr fn fs cs=some v):BM P O e o w v:=by
 obtain⟨a,l,m⟩:=A8 h;obtain⟨b,h3,h4⟩:=A8 m;obtain⟨h0,h4⟩:=H9 h4;cases h4;have n:=(g.sub (k:=fs.toList) fun y d=>by simp[c,Op.operands];exact .inl (by simpa using d)).evs l;have p:=(g.sub (k:=cs.toList) fun y d=>by simp[c,Op.operands];exact .inr (by simpa using d)).evs h3;refine⟨.func fn ⟨fs.toList.map e⟩ ⟨cs.toList.map e⟩,?_,.func h0 n p⟩;have i:fs.map e=⟨fs.toList.map e⟩:=by rw[<- SC];simp
 have j:cs.map e=⟨cs.toList.map e⟩:=by rw[<- SC];simp
 simp[execOp,c,Instr.makeFunc,i,j]
def SN {s:TypeId}{a:Field}(h:NT P s f=some a):∃ fs,P.underlying s=some (.struct fs)/\fs[f]? =some a:=by
 unfold NT at h;split at h
 ·exact⟨_,by assumption,h⟩
 ·cases h
def QK {s:TypeId}(a:o.op= .fieldAddr s x f) (i:K5 O fr e o.op.operands.toList) (h:Af P fr s x f=some v):BM P O e o w v:=by
 obtain⟨u,d,g⟩:=A8 h;obtain⟨⟨b,off⟩,h3,h4⟩:=A8 g;obtain⟨fd,h5,h6⟩:=A8 (show ob (NT P s f) _=some v from h4);obtain⟨n,h7,h8⟩:=A8 h6;obtain⟨h9,h10⟩:=H9 h8;cases h10;have j:=Jo h9;obtain⟨q,hq,hx⟩:=MJ (i x u (by simp[a,Op.operands]) d) h3;obtain⟨fs,hu,hf⟩:=SN h5;refine⟨.pointer (some ⟨q.c,q.o+(off+fd.offset),none⟩),?_,.ptr hq⟩;simp only[execOp,a,hx,Instr.fieldAt,Sem.run_bind,G5 hu,Result.andThen_ok,hf,Instr.sureAddr,Sem.run_pure,fieldPlace,Bs h7,Sem.run_ite];rw[z0z om];simp only[Sem.run_pure,Result.andThen_ok,addr_add,UE]
def iV {u c:Value}{cs:List Value}(h:I0 O u c) (a:rA u=some cs):∃ cs',c= .agg ⟨cs'⟩/\F8 O cs cs'/\∀ v∈cs,L8 v=true:=by
 unfold rA at a;split at a
 ·cases a;cases h with
  |agg d g=>exact⟨_,rfl,g,d⟩
  |I3 hs=>simp[I3]at hs
 ·cases a
def ZO {s:TypeId}(a:o.op= .field s x f) (g:K5 O fr e o.op.operands.toList) (h:Wu P fr s x f=some v):BM P O e o w v:=by
 obtain⟨u,c,d⟩:=A8 h;obtain⟨cs,h3,h4⟩:=A8 d;obtain⟨fd,h5,h6⟩:=A8 h4;obtain⟨cs',hx,hr,hc⟩:=iV (g x u (by simp[a,Op.operands]) c) h3;obtain⟨fs,hu,hf⟩:=SN h5;obtain⟨v',h7,h8⟩:=ZP (P:=P) (w:=w) hr hc h6;refine⟨v',?_,h8⟩;simp only[execOp,a,hx,Instr.field,Sem.run_bind,G5 hu,Result.andThen_ok,hf,asAgg,Sem.run_pure,h7]
def QL {t:TypeId}(l:o.op= .indexAddr t x ix) (B:K5 O fr e o.op.operands.toList) (h:Aw P fr t x ix=some v):BM P O e o w v:=by
 obtain⟨i,E,F⟩:=A8 h;obtain⟨u,h3,h4⟩:=A8 F;obtain⟨k,hi⟩:=QU B (by simp[l,Op.operands]) E;have A:=B x u (by simp[l,Op.operands]) h3;have a:∀ (el:TypeId) (b off len:Nat) (q:BU),O b=some q->AW3 P el b off i len=some v->i<len/\∃ n,(∀ w,(sizeOf el).run P w= .ok n w)/\I0 O v (.pointer (some ⟨q.c,q.o+off+i*n,none⟩)):=by
  intro el b off len q g H;obtain⟨C,I⟩:=H9 H;obtain⟨n,k3,k4⟩:=A8 I;cases k4;rw[BW]at C;refine⟨C,n,Bs k3,?_⟩;rw[UE];exact .ptr g
 generalize z:e x=y at A;unfold JC at h4;split at h4
 ·rename_i b off sp len D;obtain⟨el,G,r⟩:=A8 h4;have p:=HX G;cases A with
  | slice g=>
    rename_i q;obtain⟨d,n,j,m⟩:=a el b off len _ g r;refine⟨_,?_,m⟩;simp only[execOp,l,hi,z,Instr.indexAt,asIntOf,Sem.run_bind,Sem.run_pure,Result.andThen_ok,G5 p,Ls,Sem.run_ite];rw[z1z ⟨by simp,by simpa using d⟩];simp only[Sem.run_bind,j,Result.andThen_ok,Sem.run_pure,addr_add,Jp,Jq]
  | grow g hk' hm=>
    rename_i s J q;obtain⟨d,n,j,m⟩:=a el b off len _ g r;refine⟨_,?_,m⟩;simp only[execOp,l,hi,z,Instr.indexAt,asIntOf,Sem.run_bind,Sem.run_pure,Result.andThen_ok,G5 p,Ls,Sem.run_ite];rw[z1z ⟨by simp,by simpa using d⟩];simp only[Sem.run_bind,j,Result.andThen_ok,Sem.run_pure,addr_add,Jp,Jq]
  | Bu g=>
    obtain⟨d,_⟩:=a el b off 0 _ g r;omega
  |I3 hs=>simp[I3]at hs
 ·rename_i b off;split at h4
  ·rename_i len el p;cases A with
   | ptr g=>
     rename_i q;obtain⟨d,n,j,m⟩:=a el b off len _ g h4;refine⟨_,?_,m⟩;simp only[execOp,l,hi,z,Instr.indexAt,asIntOf,Sem.run_bind,Sem.run_pure,Result.andThen_ok,G5 p,Instr.sureAddr,Sem.run_ite];rw[z1z ⟨by simp,by simpa using d⟩];simp only[Sem.run_bind,j,Result.andThen_ok,Sem.run_pure,addr_add,Jp,Jq]
   |I3 hs=>simp[I3]at hs
  ·cases h4
 ·cases h4
def rB {l:List UInt8}{i:Nat}{r:List UInt8}(c:sub l i 1=some r) (a:lJ r=some v):∃ b,l[i]? =some b/\v= .int .u8 b.toNat:=by
 obtain⟨g,rfl⟩:=sub_eq c;unfold lJ at a;split at a
 ·rename_i u d;cases a;have:=congrArg (fun l:List UInt8=>l[0]?) d;exact⟨u,by simpa[List.getElem?_take]using this,rfl⟩
 ·cases a
def ZQ {t:TypeId}(c:o.op= .index t x ix) (q:K5 O fr e o.op.operands.toList) (h:MK P fr t x ix=some v):BM P O e o w v:=by
 obtain⟨i,z,A⟩:=A8 h;obtain⟨u,h3,h4⟩:=A8 A;obtain⟨k,hi⟩:=QU q (by simp[c,Op.operands]) z;have p:=q x u (by simp[c,Op.operands]) h3;unfold dw at h4;split at h4
 ·rename_i cs;split at h4
  ·rename_i len el m;obtain⟨a,d⟩:=H9 h4;obtain⟨n,h7,h8⟩:=A8 d;rw[BW]at a;obtain⟨cs',g,hr,hc⟩:=iV (u:= .agg cs) (cs:=cs.toList) p rfl;obtain⟨v',h9,h10⟩:=ZP (P:=P) (w:=w) hr hc h8;refine⟨v',?_,h10⟩;simp only[execOp,c,hi,g,Instr.index,asIntOf,Sem.run_bind,Sem.run_pure,Result.andThen_ok,G5 m,Sem.run_ite];rw[z1z ⟨by simp,by simpa using a⟩];simp only[Sem.run_bind,Bs h7,Result.andThen_ok,Jp,Jq,h9]
  ·cases h4
 ·rename_i s;split at h4
  ·rename_i m;obtain⟨r,a,d⟩:=A8 h4;obtain⟨b,h7,rfl⟩:=rB a d;generalize g:e x=y at p;cases p with
   | I3 hs=>
     refine⟨_,?_,.I3 rfl⟩;have B:s[i]? =some b:=by
      have j:=(List.getElem?_eq_some_iff.1 h7).1;have C:=(List.getElem?_eq_some_iff.1 h7).2;have l:i<s.size:=by rw[show s.size=s.data.toList.length from Array.length_toList.symm];exact j
      rw[getElem?_pos s i l];congr 1
     simp only[execOp,c,hi,g,Instr.index,asIntOf,Sem.run_bind,Sem.run_pure,Result.andThen_ok,G5 m];simp[B]
  ·cases h4
 ·cases h4
def UL {t:Operand}{ix:Nat}(a:o.op= .extract t ix) (m:K5 O fr e o.op.operands.toList) (h:DI fr t ix=some v):BM P O e o w v:=by
 obtain⟨u,d,g⟩:=A8 h;obtain⟨vs,h3,h4⟩:=A8 g;obtain⟨l,h5,h6⟩:=A8 h4;have c:=m t u (by simp[a,Op.operands]) d;obtain⟨h7,rfl⟩:=sub_eq h5;have p:vs[ix]? =some v:=by
  unfold LL at h6;split at h6
  ·rename_i u n;cases h6;have:=congrArg (fun l:List Value=>l[0]?) n
   simpa[List.getElem?_take]using this
  ·cases h6
 unfold eA at h3;split at h3
 ·cases h3;generalize k:e t=y at c;cases c with
  | tuple hs=>
    rename_i l l';obtain⟨v',i,j⟩:=hs.get p;refine⟨v',?_,j⟩;have:(⟨l'⟩:Array Value)[ix]? =some v':=by simpa using i
    simp[execOp,a,k,Instr.extract,this]
  |I3 hs=>simp[I3]at hs
 ·cases h3
end
end
section
variable {P:Program}{O:Place}{fr:Fr}{e:Operand->Value}{o:Oper}{w:World}{v:Value}
def Uw {v v':Value}{n y:Nat}{a:BoundsCode}(d:I0 O v v') (c:nat? v=some n) (b:n<=y):(Instr.sliceBound v' y a).run P w= .ok n w:=by
 obtain⟨k,rfl⟩:=Ux d c;simp only[Instr.sliceBound,asIntOf,Sem.run_bind,Sem.run_pure,Result.andThen_ok,Sem.run_ite];rw[z1z ⟨by simp,by simpa using b⟩];simp
def iL {x:Option Operand}{u:Option Value}{l:List Operand}(c:K5 O fr e l) (d:∀ y,x=some y->y∈l) (h:evO fr x=some u) :
  (u=none/\x=none)\/∃ v y,u=some v/\x=some y/\I0 O v (e y):=by
 cases x with
 |none=>cases h;exact .inl ⟨rfl,rfl⟩
 | some y=>
   obtain⟨v,a,b⟩:=A8 h;cases b;exact .inr ⟨v,y,rfl,rfl,c y v (d y rfl) a⟩
def MG {lo hi:Option Operand}{q p:Option Value}{l:List Operand}(n:K5 O fr e l) (j:∀ y,lo=some y->y∈l) (i:∀ y,hi=some y->y∈l)
  (r:evO fr lo=some q) (s:evO fr hi=some p) {k c g a b:Nat}{isSlice:Bool} (h:dY k c q p=some (a,b)) (z:c<=g) :
  (Instr.sliceBounds isSlice k g (lo.map e) (hi.map e) none).run P w= .ok (a,b,g) w/\a<=b/\b<=c:=by
 obtain⟨B,m,u⟩:=A8 h;obtain⟨h5,h6⟩:=H9 u;obtain⟨la,h7,h8⟩:=A8 h6;obtain⟨h9,h10⟩:=H9 h8;cases h10;have d:=Jo h5;have f:=Jo h9;refine⟨?_,f,d⟩;unfold Instr.sliceBounds;simp only[Sem.run_bind,Sem.run_pure,Result.andThen_ok];rcases iL n i s with⟨rfl,rfl⟩|⟨D,F,rfl,rfl,A⟩
 rotate_left
 simp only[Uh,Uw A m (j9 d z),Result.andThen_ok,Sem.run_bind]
 rotate_left
 cases m;simp only[Uy,Sem.run_pure,Result.andThen_ok]
 all_goals
  rcases iL n j r with⟨rfl,rfl⟩|⟨C,E,rfl,rfl,r1⟩
  ·cases h7;simp
  ·simp only[Uh,Uw r1 h7 f,Result.andThen_ok,Sem.run_bind,Sem.run_pure]
def LW (s:ByteArray) (a b:Nat) (h:b<=s.data.toList.length):s.extract a b=⟨((s.data.toList.drop a).take (b-a)).toArray⟩:=by
 apply ByteArray.ext;rw[ByteArray.data_extract];apply SC.1;rw[AO0,AO1]
def ZB {t:TypeId}{x:Operand}{lo hi W:Option Operand}(z:o.op= .slice t x lo hi W) (K:K5 O fr e o.op.operands.toList) (h:MH P fr t x lo hi W=some v):BM P O e o w v:=by
 obtain⟨Y,k0⟩:=H9 h;clear h;cases W with
 |some y=>cases Y
 |none=>
 clear Y;obtain⟨u,h1,Z⟩:=A8 k0;clear k0;obtain⟨lv,h2,k2⟩:=A8 Z;clear Z;obtain⟨hv,h3,h⟩:=A8 k2;clear k2;have A:=K x u (by simp[z,Op.operands]) h1;have p:∀ y,lo=some y->y∈o.op.operands.toList:=by intro y G;subst G;simp[z,Op.operands]
 have k:∀ y,hi=some y->y∈o.op.operands.toList:=by intro y G;subst G;simp[z,Op.operands]
 generalize N:e x=y at A;unfold Wp at h;split at h
 ·rename_i s;split at h
  ·rename_i F;obtain⟨⟨a,b⟩,C,r⟩:=A8 h;clear h;obtain⟨l,h5,k5⟩:=A8 (show ob (sub s.data.toList a (b-a)) _=some v from r);cases k5;obtain⟨J,rfl⟩:=sub_eq h5;obtain⟨E,j,i⟩:=MG (P:=P) (w:=w) (isSlice:=false) K p k h2 h3 C nL;cases A with
   | I3 hs=>
     refine⟨_,?_,.I3 rfl⟩;have V:s.size=s.data.toList.length:=Array.length_toList.symm
     simp only[execOp,z,N,Instr.sliceAt,Sem.run_bind,G5 F,Result.andThen_ok,Instr.slice,Uy,Option.isSome_none,Je,GZ,V,E,Sem.run_pure,
      LW s a b i]
  ·cases h
 ·rename_i a0 len cap;split at h
  ·rename_i el F;obtain⟨⟨a,b⟩,C,r⟩:=A8 h;clear h;obtain⟨n,h5,h⟩:=A8 (show ob (size? P el) _=some v from r);clear r;have S:=Bs h5
   have go:∀ (f:Option Addr) (B:Nat),y= .slice f len B->cap<=B ->
     (execOp e o).run P w= .ok (.value (.slice (if B=a then f else f.map (·.add (a*n))) (b-a) (B-a))) w/\a<=b/\b<=cap:=by
    intro f B G hc;obtain⟨E,j,i⟩:=MG (P:=P) (w:=w) (isSlice:=true) K p k h2 h3 C hc;refine⟨?_,j,i⟩;simp only[execOp,z,N,G,Instr.sliceAt,Sem.run_bind,G5 F,Result.andThen_ok,Instr.slice,Uy,E,S,Sem.run_pure]
   unfold sliceAt at h;split at h
   ·rename_i X off;cases h;cases A with
    | slice hq=>
      obtain⟨g,H,I⟩:=go _ _ rfl nL;refine⟨_,g,?_⟩;by_cases d:cap=a
      ·rw[z1z d];have:b-a=0:=om;rw[this,show cap-a=0 from by omega];exact .Bu hq
      ·rw[z0z d];simp only[Uh,addr_add,UE];exact .slice hq
    | Bu hq=>
      obtain⟨g,H,I⟩:=go _ _ rfl nL;refine⟨_,g,?_⟩;have D:a=0:=om;subst D;rw[z1z rfl,show b-0=0 from by omega];exact .Bu hq
    |I3 hs=>simp[I3]at hs
   ·rename_i X off s0;obtain⟨J,M⟩:=H9 h;cases M;have U:=Ai J;subst U;cases A with
    | grow hq hkk hm=>
      rename_i L q;obtain⟨g,H,I⟩:=go _ _ rfl hkk;refine⟨_,g,?_⟩;by_cases d:L=a
      ·rw[z1z d];have:b-a=0:=om;rw[this,show cap-a=0 from by omega,show L-a=0 from by omega];exact .Bu hq
      ·rw[z0z d];simp only[Uh,addr_add,UE];refine .grow hq om ?_;have:a*s0+(L-a)*s0=L*s0:=by rw[<- UF];congr 1;omega
       omega
    | Bu hq=>
      obtain⟨g,H,I⟩:=go _ _ rfl nL;refine⟨_,g,?_⟩;have D:a=0:=om;subst D;rw[z1z rfl,show b-0=0 from by omega];exact .Bu hq
    |I3 hs=>simp[I3]at hs
   ·obtain⟨J,M⟩:=H9 h;cases M;have R:=Ai J;cases A with
    | I3 hs=>
      obtain⟨g,H,I⟩:=go _ _ rfl nL;refine⟨_,g,?_⟩;have D:a=0:=om;subst D;rw[z1z R,show b-0=0 from by omega,show cap-0=0 from by omega];exact .I3 rfl
  ·cases h
 ·rename_i X off;split at h
  ·rename_i m el F;obtain⟨⟨a,b⟩,C,r⟩:=A8 h;clear h;obtain⟨n,h5,h⟩:=A8 (show ob (size? P el) _=some v from r);clear r;have S:=Bs h5;cases h;obtain⟨E,j,i⟩:=MG (P:=P) (w:=w) (isSlice:=false) K p k h2 h3 C nL;cases A with
   | ptr hq=>
     rename_i q;refine⟨.slice (some (if m=a then⟨q.c,q.o+off,none⟩else(⟨q.c,q.o+off,none⟩:Addr).add (a*n))) (b-a) (m-a),?_,?_⟩
     ·simp only[execOp,z,N,Instr.sliceAt,Sem.run_bind,G5 F,Result.andThen_ok,Instr.sureAddr,Uy,E,S,Sem.run_pure]
     ·by_cases d:m=a
      ·rw[z1z d,show b-a=0 from by omega,show m-a=0 from by omega];exact .Bu hq
      ·rw[z0z d];simp only[addr_add,UE];exact .slice hq
   |I3 hs=>simp[I3]at hs
  ·cases h
 ·cases h
def Wq {l:List Value}(h:LL l=some v):l=[v]:=by
 unfold LL at h;split at h
 ·cases h;rfl
 ·cases h
def FO {c:Call}(b:o.op= .call c) (a:K5 O fr e o.op.operands.toList):K5 O fr e c.args.toList :=
 a.sub fun y d=>by
  simp only[b,Op.operands,Call.operands,AL7,EM];exact .inr d
def DR {c:Call}{t:TypeId}(h:Ra c=some t):c.argTypes[0]? =some t:=by
 unfold Ra at h;split at h
 ·rename_i u r a;cases h;have:=congrArg (fun l:List TypeId=>l[0]?) a
  simpa using this
 ·cases h
def Js (c:Call) (e:Operand->Value):c.args.map e=⟨c.args.toList.map e⟩:=by rw[<- SC];simp
def lM {c:Call}(a:o.op= .call c) (i:c.callee= .builtin .len) (p:K5 O fr e o.op.operands.toList) (h:SD P fr c=some v):BM P O e o w v:=by
 obtain⟨r,l,k⟩:=A8 h;clear h;obtain⟨x,h2,k2⟩:=A8 k;clear k;obtain⟨t,h3,k3⟩:=A8 k2;clear k2;obtain⟨n,h4,k4⟩:=A8 k3;clear k3;cases k4;have b:=(FO a p).evs l;rw[Wq h2]at b;generalize m:c.args.toList.map e=L at b;cases b with
 |cons j d=>
 cases d;rename_i q;refine⟨.int .i64 n,?_,.I3 rfl⟩;have g:c.args.map e=#[q]:=by rw[Js,m]
 unfold qX at h4;split at h4
 ·rename_i f;split at h4
  ·cases h4;cases j;simp only[execOp,a,resolve,i,Sem.run_bind,Sem.run_pure,Result.andThen_ok,invoke,builtin,Builtin.len_,DR h3,g];simp[G5 f,goInt]
  ·cases h4
 ·rename_i el f;split at h4
  ·cases h4
   cases j<;>first
    | (simp only[execOp,a,resolve,i,Sem.run_bind,Sem.run_pure,Result.andThen_ok,invoke,builtin,Builtin.len_,DR h3,g]
       simp[G5 f,goInt];done)
    | (rename_i d;simp[I3]at d;done)
  ·cases h4
 ·cases h4
def qY (a b:Int) (x y:Int):bi (ilt a b) x y=if a<b then x else y:=by
 rw[Wr];by_cases h:a<b
 ·simp[h]
 ·simp[h]
def AV5 (c:Bool):∀ (l:List Value) (x v:Value) (l':List Value) (x':Value),mm c l x=some v->F8 O l l'->I0 O x x' ->
  ∃ v',(l'.foldlM (if c then Builtin.max2 else Builtin.min2) x').run P w= .ok v' w/\I0 O v v':=by
 intro l;induction l with
 |nil=>intro x v l' x' h f g;cases h;cases f;exact⟨x',rfl,g⟩
 | cons y l ih=>
   intro x v l' x' h f g;obtain⟨u,d,j⟩:=A8 (show ob (KI c x y) (mm c l)=some v from h);cases f with
   |cons n f=>
   rename_i q l';unfold KI at d;split at d
   ·split at d
    ·rename_i k a p b;cases d;cases g;cases n;obtain⟨v',i,m⟩:=ih _ v l' _ j f (.I3 rfl);refine⟨v',?_,m⟩;rw[List.foldlM_cons,Sem.run_bind];cases c with
     | true=>
       simp only[FB,Builtin.max2,Sem.run_pure,Result.andThen_ok]
       simpa[qY]using i
     | false=>
       simp only[Je,GZ,Builtin.min2,Sem.run_pure,Result.andThen_ok]
       simpa[qY]using i
    ·cases d
   ·cases d
def ZC {c:Call}(a:Bool) (f:o.op= .call c) (d:c.callee= .builtin (if a then .max else .min)) (q:K5 O fr e o.op.operands.toList) (h:pMM fr a c=some v):BM P O e o w v:=by
 obtain⟨u,m,j⟩:=A8 h;clear h;have i:=(FO f q).evs m;generalize p:c.args.toList.map e=L at i;cases i with
 |nil=>cases j
 |cons s r=>
 rename_i x k l l';obtain⟨v',b,n⟩:=AV5 (P:=P) (w:=w) a l x v l' k j r s;refine⟨v',?_,n⟩;have g:c.args.map e=⟨k::l'⟩:=by rw[Js,p]
 cases a with
 | true=>
   simp only[FB]at b d;simp only[execOp,f,resolve,d,Sem.run_bind,Sem.run_pure,Result.andThen_ok,invoke,builtin,Builtin.max_,g,b]
 | false=>
   simp only[Je,GZ]at b d;simp only[execOp,f,resolve,d,Sem.run_bind,Sem.run_pure,Result.andThen_ok,invoke,builtin,Builtin.min_,g,b]
end
section
variable {cs:List Value}{vf:Nat->Value}
section
variable {P:Program}{O:Place}{fr:Fr}{e:Operand->Value}{o:Oper}{w:World}{v:Value}
def kZ (off:Nat):∀ (l:List Value) (k:Nat) (arr:Array Value),(l.zipIdx k).foldl (fun cs (x:Value×Nat)=>cs.setIfInBounds (off+x.2) x.1) arr=GI arr (off+k) l:=by
 intro l;induction l with
 |nil=>intro k arr;rfl
 |cons v l a=>intro k arr;rw[List.zipIdx_cons,YW,a];rfl
def dA {cells b r f vs':List Value}{off:Nat}(h:N8 cells off f=some r) (j:F8 O cells b) (k:F8 O f vs')
  (g:∀ c∈cells,L8 c=true) (l:∀ c∈f,L8 c=true) :
  F8 O r (GI ⟨b⟩ off vs').toList/\(∀ c∈r,L8 c=true)/\off+vs'.length<=b.length:=by
 obtain⟨m,rfl⟩:=Ug _ _ _ _ h;have n:=j.length;have p:=k.length;refine⟨F8.Gv ?_ ?_,?_,om⟩
 ·rw[show(GI ⟨b⟩ off vs').toList.length=(GI ⟨b⟩ off vs').size from QD,Jm];simp;omega
 ·intro i v hi;rw[RP m]at hi;rw[Array.getElem?_toList,Lu _ _ _ _ (by simp;omega)];by_cases d:off<=i/\i<off+f.length
  ·rw[z1z d]at hi;rw[z1z om];exact k.get hi
  ·rw[z0z d]at hi;rw[z0z om]
   simpa using j.get hi
 ·intro c a;rcases EM.1 a with a|a
  ·rcases EM.1 a with a|a
   ·exact g c (RR a)
   ·exact l c a
  ·exact g c (dB a)
def Kh {a:Type}{c:Bool}{x:Option a}{b:a}(h:bi c none x=some b):c=false/\x=some b:=by
 cases c with
 |true=>cases h
 |false=>exact⟨rfl,h⟩
def RT {place place':Nat->Option (Nat×Nat)}(p:∀ i,place' i=place i):∀ (is:List Nat) (vs vs' cells r Bf:List Value),F8 O vs vs'->DW place (is.zip vs) cells=some r ->
  F8 O cells Bf->(∀ c∈cells,L8 c=true)->∃ r',Instr.fill place' ⟨Bf⟩ (is.zip vs')=some ⟨r'⟩/\F8 O r r'/\∀ c∈r,L8 c=true:=by
 intro is;induction is with
 | nil=>
   intro vs vs' cells r Bf _ h b a;cases h;exact⟨Bf,rfl,b,a⟩
 | cons i is ih=>
   intro vs vs' cells r Bf s h b a;cases s with
   |nil=>cases h;exact⟨Bf,rfl,b,a⟩
   | cons hx hs=>
     rename_i x f l l';obtain⟨⟨off,n⟩,g,j⟩:=A8 (show ob (place i) (fun q=>pr q fun off n=>bi (DX x) none (bb ((J6 x).length.beq n) (ob (N8 cells off (J6 x)) (DW place (is.zip l)))))=some r from h);obtain⟨ht,h4⟩:=Kh (show bi (DX x) none _=some r from j);obtain⟨h5,h6⟩:=H9 h4;obtain⟨AS9,h7,h8⟩:=A8 h6;have m:=Ai h5;obtain⟨hcx,hcc⟩:=hx.cells ht;obtain⟨k1,k2,k3⟩:=dA h7 b hcx a hcc;obtain⟨r',k4,k5,k6⟩:=ih l l' AS9 r _ hs h8 k1 k2;refine⟨r',?_,k5,k6⟩;have k:=hcx.length;rw[List.zip_cons_cons];unfold Instr.fill;rw[p i,g];simp only;have d:f.cells.size=n:=by rw[<- QD,<- k,m]
     rw[z0z (by simp[d];rw[QD]at k3;omega)];rw[<- k4];congr 1;rw[<- gY,Array.toList_zipIdx];have:=kZ off f.cells.toList 0 ⟨Bf⟩;rw[j7]at this;exact this
def Ki (parts:Array (Nat×Operand)) (e:Operand->Value):(parts.map fun(x:Nat×Operand)=>(x.1,e x.2)).toList=(parts.toList.map (·.1)).zip ((parts.toList.map (·.2)).map e):=by
 rw[pD];induction parts.toList with
 |nil=>rfl
 |cons x l a=>simp[a]
def dD:∀ (fs:List Field) (ps:List (Nat×Nat)),WK P fs=some ps->∀ w,(fs.mapM fun f=>do pure (f.offset,<- sizeOf f.type):Sem (List (Nat×Nat))).run P w= .ok ps w:=by
 intro fs;induction fs with
 |nil=>intro ps h w;cases h;rfl
 | cons f fs ih=>
   intro ps h w;obtain⟨n,a,b⟩:=A8 (show ob (size? P f.type) (fun n=>ob (WK P fs) fun r=>some ((f.offset,n)::r))=some ps from h);obtain⟨r,h3,h4⟩:=A8 b;cases h4;rw[pE];simp only[Sem.run_bind,Bs a,Result.andThen_ok,Sem.run_pure,ih r h3]
def Dp {t:TypeId}{z:Value}(h:Bn P t=some z):(J6 z=z.cells.toList)/\F8 O (J6 z) z.cells.toList/\∀ c∈J6 z,L8 c=true:=by
 obtain⟨i,d,b⟩:=A8 h;obtain⟨z',h3,h4⟩:=A8 b;obtain⟨h5,h6⟩:=H9 h4;cases h6;cases z with
 |agg cs=>obtain⟨l⟩:=cs;exact⟨rfl,F8.Mp h5,FZ h5⟩
 |tuple f=>cases h5
 |_=>exact⟨rfl,.cons (.I3 h5) .nil,by intro c a;simp[J6]at a;subst a;exact Jn h5⟩
def YX {t:TypeId}{parts:Array (Nat×Operand)}(d:o.op= .build t parts) (A:K5 O fr e o.op.operands.toList) (h:GJ P fr t parts=some v):BM P O e o w v:=by
 obtain⟨z,s,a⟩:=A8 h;clear h;obtain⟨vs,h2,h3⟩:=A8 a;clear a;have u:=(A.sub (k:=parts.toList.map (·.2)) fun y B=>by simpa[d,Op.operands]using B).evs h2;obtain⟨hz,_,_⟩:=ER (O:=O) s w;obtain⟨zc1,zc2,zc3⟩:=Dp (O:=O) s;unfold Dq at h3;split at h3
 ·rename_i fs j;obtain⟨ps,b,c⟩:=A8 h3;obtain⟨l,h6,h7⟩:=A8 c;cases h7;have g:(fs.mapM fun f=>do pure (f.offset,<- sizeOf f.type):Sem (Array (Nat×Nat))).run P w= .ok ps.toArray w:=by
   rw[AL5,Sem.run_map,dD _ _ b];rfl
  obtain⟨r,a,p,q⟩:=RT (place:=fun i=>ps[i]?) (place':=fun i=>ps.toArray[i]?) (fun i=>by simp) _ vs _ _ l _ u h6 zc2 zc3;refine⟨.agg ⟨r⟩,?_,.agg q p⟩;simp only[execOp,d,Instr.build,Sem.run_bind,hz,Result.andThen_ok,G5 j,g,Ki];rw[show z.cells=⟨z.cells.toList⟩from rfl,a];rfl
 ·rename_i m el j;obtain⟨n,b,c⟩:=A8 h3;obtain⟨l,h6,h7⟩:=A8 c;cases h7;obtain⟨r,a,p,q⟩:=RT (place:=fun i=>some (i*n,n)) (place':=fun i=>some (i*n,n)) (fun i=>rfl) _ vs _ _ l _ u h6 zc2 zc3;refine⟨.agg ⟨r⟩,?_,.agg q p⟩;simp only[execOp,d,Instr.build,Sem.run_bind,hz,Result.andThen_ok,G5 j,Bs b,Ki];rw[show z.cells=⟨z.cells.toList⟩from rfl,a];rfl
 ·cases h3
def JU (P:Program) (O:Place) (e:Operand->Value) (o:Oper) (w:World) (cs:List Value) (v:Nat->Value) (t:Option TypeId:=none):Prop :=
 ∃ (w':World) (v':Value) (arr:Array Value) (el:TypeId) (lo hi:Nat) (vs more:List Value),(execOp e o).run P w= .ok (.value v') w'/\w'.heap.size=w.heap.size+1/\w'.heap[w.heap.size]? =some (.cells arr el (lo,hi)) /\
  (∀ c,c<w.heap.size->w'.heap[c]? =w.heap[c]?)/\Outside w w'/\(arr.size<=lo\/hi<=lo)/\(∀ c∈cs,L8 c=true)/\arr.toList=vs++more/\F8 O cs vs/\(∀ x,t=some x->x=el) /\
  ∀ (O':Place) (n:Nat),O' n=some ⟨w.heap.size,0,arr.size⟩->I0 O' (v n) v'
def JU.row {cs:List Value}{t:Option TypeId}{vf:Nat->Value}{v':Value}{arr:Array Value}{el:TypeId} (b:(execOp e o).run P w= .ok (.value v') { w with heap:=w.heap.push (.cells arr el) })
  (a:∀ c∈cs,L8 c=true) (d:F8 O cs arr.toList) (f:∀ (O':Place) (n:Nat),O' n=some ⟨w.heap.size,0,arr.size⟩->I0 O' (vf n) v') (ht:∀ x,t=some x->x=el:=by exact fun _ h=>by cases h):JU P O e o w cs vf t :=
 ⟨_,v',arr,el,0,0,arr.toList,[],b,by simp,by simp,fun c a=>by simp[Array.getElem?_push];intro h;omega,⟨rfl,rfl,rfl⟩,.inr nL,a,by simp,d,ht,f⟩
def OK {c m:Nat}(a:Place) (n:Nat) (h:a n=some ⟨c,0,m⟩):I0 a (ptrTo n) (.pointer (some ⟨c,0,none⟩)):= .ptr (off:=0) h
def YY {t:TypeId}(c:o.op= .alloc t) (h:j8 P t=some (cs,vf)):JU P O e o w cs vf (some t):=by
 obtain⟨z,a,b⟩:=A8 h;cases b;obtain⟨hz,_,_⟩:=ER (O:=O) a w;obtain⟨zc1,zc2,zc3⟩:=Dp (O:=O) a;refine JU.row (v':= .pointer (some ⟨w.heap.size,0,none⟩)) (arr:=z.cells) (el:=t) ?_ zc3 zc2 OK (fun _ h=>by cases h;rfl);simp only[execOp,c,Instr.alloc,Sem.run_bind,hz,Result.andThen_ok,newVar,newRow,run_newObj,Sem.run_pure]
def ke {t:TypeId}{x:Operand}(a:o.op= .box t x) (d:K5 O fr e o.op.operands.toList) (h:dE fr x=some (cs,vf)):JU P O e o w cs vf:=by
 obtain⟨u,b,c⟩:=A8 h;obtain⟨ht,h3⟩:=Kh c;cases h3;obtain⟨k1,k2⟩:=(d x u (by simp[a,Op.operands]) b).cells ht;refine JU.row (v':= .pointer (some ⟨w.heap.size,0,none⟩)) (arr:=(e x).cells) (el:=t) ?_ k2 k1 OK;simp only[execOp,a,Instr.box,newVar,newRow,Sem.run_bind,run_newObj,Result.andThen_ok,Sem.run_pure]
def Mq {a:Type}(l:List a) (n:Nat):(Ab.rep l n).length=n*l.length:=by
 induction n with
 |zero=>show([]:List a).length=0*l.length;simp
 |succ n b=>show(l++Ab.rep l n).length=_;rw[CU,b,UA];omega
def QT {a:Type}(l:List a):∀ (n i:Nat),i<n*l.length->(Ab.rep l n)[i]? =l[i % l.length]? :=by
 intro n;induction n with
 |zero=>intro i h;omega
 | succ n ih=>
   intro i h;show(l++Ab.rep l n)[i]? =_;by_cases hi:i<l.length
   ·rw[List.getElem?_append_left hi,RU hi]
   ·rw[List.getElem?_append_right om,ih _ (by rw[UA]at h;omega)];congr 1;rw[<- Nat.mod_eq_sub_mod om]
def OM {z a:List Value}(c:F8 O z a) (n k:Nat) (h:k=n*z.length):F8 O (Ab.rep z n) ((Array.range k).map fun i=>(⟨a⟩:Array Value)[i % (⟨a⟩:Array Value).size]!).toList:=by
 have j:=c.length;refine F8.Gv (by rw[Mq];simp[h]) ?_;intro i v hi;have b:i<n*z.length:=by rw[<- Mq];exact(List.getElem?_eq_some_iff.1 hi).1
 rw[QT z n i b]at hi;obtain⟨v',d,f⟩:=c.get hi;refine⟨v',?_,f⟩;simp only[pD,Array.toList_range,List.getElem?_map];rw[List.getElem?_range om];simp only[Uh,Option.some.injEq,List.size_toArray];have g:(⟨a⟩:Array Value)[i % a.length]? =some v':=by rw[<- j];simpa using d
 rw[getElem!_def,g]
def OO {t:TypeId}{len:Nat}{parts:Array (Nat×Operand)}{cs:List Value}{vf:Nat->Value}(p:o.op= .buildSlice t len parts) (C:K5 O fr e o.op.operands.toList)
  (h:Gw P fr t len parts=some (cs,vf)):JU P O e o w cs vf:=by
 obtain⟨el,u,a⟩:=A8 h;obtain⟨m,h2,b⟩:=A8 a;obtain⟨z,h3,d⟩:=A8 b;obtain⟨vs,h4,k4⟩:=A8 d;obtain⟨h5,k5⟩:=H9 k4;obtain⟨h6,k6⟩:=H9 k5;obtain⟨l,h7,k7⟩:=A8 k6;clear h a b d k4 k5 k6;cases k7;have E:=Ai h5;have D:=Jo h6;have G:=(C.sub (k:=parts.toList.map (·.2)) fun y H=>by simpa[p,Op.operands]using H).evs h4;obtain⟨hz,_,_⟩:=ER (O:=O) h3 w;obtain⟨zc1,zc2,zc3⟩:=Dp (O:=O) h3;have s:∀ c∈Ab.rep (J6 z) len,L8 c=true:=by
  intro c A;obtain⟨i,hi⟩:=List.getElem?_of_mem A;have j:i<len*(J6 z).length:=by rw[<- Mq];exact(List.getElem?_eq_some_iff.1 hi).1
  rw[QT _ _ _ j]at hi;exact zc3 c (Ag hi)
 have q:=OM zc2 len (len*m) (by rw[E]);obtain⟨I,a,b,d⟩:=RT (place:=fun i=>some (i*m,m)) (place':=fun i=>some (i*m,m)) (fun i=>rfl) _ vs _ _ _ _ G h7 q s;refine JU.row (v':= .slice (some ⟨w.heap.size,0,none⟩) len len) (arr:=⟨I⟩) (el:=el) ?_ d b (fun J n F=> .slice (off:=0) F);have r:=HX u;have B:(⟨z.cells.toList⟩:Array Value)=z.cells:=rfl;by_cases f:len*m=0
 ·simp only[execOp,p,Instr.buildSlice,Sem.run_bind,G5 r,Result.andThen_ok,Bs h2,Sem.run_ite,f];rw[z0z om];simp only[FB,Sem.run_bind,Sem.run_pure,Result.andThen_ok];rw[f]at a;simp only[Ki];have g:((Array.range 0).map fun i=>(#[]:Array Value)[i % (#[]:Array Value).size]!)=⟨((Array.range 0).map fun i=>(⟨z.cells.toList⟩:Array Value)[i % (⟨z.cells.toList⟩:Array Value).size]!).toList⟩:=by
   simp
  rw[g,a];simp only[newRow,Sem.run_bind,run_newObj,Result.andThen_ok,Sem.run_pure]
 ·simp only[execOp,p,Instr.buildSlice,Sem.run_bind,G5 r,Result.andThen_ok,Bs h2,Sem.run_ite,f];rw[z0z om];simp only[GZ,Sem.run_bind,Sem.run_pure,Result.andThen_ok,hz];simp only[Ki];have g:((Array.range (len*m)).map fun i=>z.cells[i % z.cells.size]!)=⟨((Array.range (len*m)).map fun i=>(⟨z.cells.toList⟩:Array Value)[i % (⟨z.cells.toList⟩:Array Value).size]!).toList⟩:=rfl;rw[g,a];simp only[newRow,Sem.run_bind,run_newObj,Result.andThen_ok,Sem.run_pure]
def HY (l:List UInt8):HZ (ET l)=true:=by
 induction l with
 |nil=>rfl
 |cons b l a=>show bi true (HZ (ET l)) false=true;exact a
def YZ {s d:TypeId}{x:Operand}{cs:List Value}{vf:Nat->Value}(r:o.op= .convert s d x) (D:K5 O fr e o.op.operands.toList)
  (h:Gx P fr s d x=some (cs,vf)):JU P O e o w cs vf:=by
 obtain⟨i,h⟩:=H9 h;have F:∃ ds,P.underlying s=some ds:=Option.isSome_iff_exists.1 i;obtain⟨u,h1,k1⟩:=A8 h;obtain⟨l,h2,k2⟩:=A8 k1;obtain⟨el,h3,k3⟩:=A8 k2;obtain⟨h4,k4⟩:=H9 k3;clear h k1 k2 k3;cases k4;have z:=D x u (by simp[r,Op.operands]) h1;unfold Kj at h2;split at h2
 ·rename_i b;cases h2;generalize A:e x=y at z;cases z with
  | I3 _=>
    obtain⟨ds,g⟩:=F;have k:=HX h3;have m:P.underlying el=some (.int .u8):=by
     unfold isByte at h4;split at h4
     ·assumption
     ·cases h4
    have j:b.size=b.data.toList.length:=Array.length_toList.symm;have a:b.size<=(Question.appendCap b.size 0 el).cut (w.tape w.drawn (.appendCap b.size 0 el)):=AL6 _ _;generalize B:(Question.appendCap b.size 0 el).cut (w.tape w.drawn (.appendCap b.size 0 el))=K at a;have p:((b.data.map fun b:UInt8=>Value.int .u8 b.toNat)++Array.replicate (K-b.size) (Value.int .u8 0)).toList=ET b.data.toList++List.replicate (K-b.size) (.int .u8 0):=by
     rw[AL7,pD,Array.toList_replicate];rfl
    have f:((b.data.map fun b:UInt8=>Value.int .u8 b.toNat)++Array.replicate (K-b.size) (Value.int .u8 0)).size=K:=by
     rw[Ya,Array.size_map,ga];show b.size+_=K;omega
    generalize q:(b.data.map fun b:UInt8=>Value.int .u8 b.toNat)++Array.replicate (K-b.size) (Value.int .u8 0)=arr at p f
    refine⟨(({ w with drawn:=w.drawn+1,heap:=w.heap.push (.cells arr el) }:World).freeze ⟨w.heap.size,arr.size,none⟩ 1),.slice (some ⟨w.heap.size,0,none⟩) b.size K,arr,el,arr.size,arr.size+1,
     ET b.data.toList,List.replicate (K-b.size) (.int .u8 0),?_,?_,?_,?_,⟨rfl,rfl,rfl⟩,.inl nL,FZ (HY _),p,F8.Mp (HY _),(fun _ h=>by cases h),?_⟩
    ·have C:(Question.appendCap b.size 0 el).forced=false:=rfl;simp only[execOp,r,A,convert,Sem.run_bind,G5 g,Result.andThen_ok,G5 k]
     cases ds<;>simp only[Sem.run_bind,G5 m,Result.andThen_ok,Conv.stringToBytes,run_choose,C,Je,GZ,B,newRow,run_newObj,Sem.run_pure,q,markStringish,run_shape]<;>
      simp[World.shape?,q]
    ·simp[World.freeze]
    ·simp only[World.freeze];rw[z0z om];show((w.heap.push (.cells arr el)).modify w.heap.size _)[w.heap.size]? =_;rw[Array.getElem?_modify];simp
    ·intro c H;simp[World.freeze,Array.getElem?_modify,Array.getElem?_push];rw[z0z om,z0z om]
    ·intro G n E;rw[j];exact .grow E om (by show 0+0+K*1<=arr.size;omega)
 ·cases h2
def wrap_small {n:Nat}(h:n<9223372036854775808):IntKind.i64.wrap (n:Int)=n:=by
 rw[wrap_i64];split<;>omega
def dG {t:TypeId}{l c:Operand}{cs:List Value}{vf:Nat->Value}(k:o.op= .makeSlice t l c) (B:K5 O fr e o.op.operands.toList)
  (h:RV P fr t l c=some (cs,vf)):JU P O e o w cs vf:=by
 obtain⟨el,I,C⟩:=A8 h;obtain⟨i,h2,k2⟩:=A8 C;obtain⟨z,h3,k3⟩:=A8 k2;obtain⟨n,h4,k4⟩:=A8 k3;obtain⟨m,h5,k5⟩:=A8 k4;obtain⟨h6,k6⟩:=H9 k5;obtain⟨h7,k7⟩:=H9 k6;obtain⟨h8,k8⟩:=H9 k7;clear h C k2 k3 k4 k5 k6 k7;cases k8;have J:=Jo h6;have a:=Jo h7;have q:=Ai h8;unfold room at a;have E:m<=4294967296:=j9 (AL8 m om) a;have d:m*i.bytes<=4294967296:=j9 (Yb m om) a;obtain⟨kl,hl⟩:=QU B (x:=l) (by simp[k,Op.operands]) h4;obtain⟨kc,f⟩:=QU B (x:=c) (by simp[k,Op.operands]) h5;obtain⟨hz,_,_⟩:=ER (O:=O) h3 w;obtain⟨zc1,zc2,zc3⟩:=Dp (O:=O) h3;have G:∀ c∈Ab.rep (J6 z) m,L8 c=true:=by
  intro c f;obtain⟨i,hi⟩:=List.getElem?_of_mem f;have g:i<m*(J6 z).length:=by rw[<- Mq];exact(List.getElem?_eq_some_iff.1 hi).1
  rw[QT _ _ _ g]at hi;exact zc3 c (Ag hi)
 have r:=OM zc2 m (m*i.size) (by rw[q]);have D:P.cellsOf el=i.size:=by simp[Program.cellsOf,h2]
 have p:(sizeOf el).run P w= .ok i.size w:=by simp[sizeOf,typeInfo,h2]
 have L:=HX I;have u:IntKind.i64.wrap ((n:Nat):Int)=n:=wrap_small om;have y:IntKind.i64.wrap ((m:Nat):Int)=m:=wrap_small om;have s:(2:Int) ^ 48=281474976710656:=by decide
 refine JU.row (v':= .slice (some ⟨w.heap.size,0,none⟩) n m) (arr:=⟨((Array.range (m*i.size)).map fun j=>(⟨z.cells.toList⟩:Array Value)[j % (⟨z.cells.toList⟩:Array Value).size]!).toList⟩) (el:=el) ?_ G r (fun M n K=> .slice (off:=0) K);have F:(i.bytes:Int)*(m:Int)<=4294967296:=by
  have A:=Int.ofNat_le.2 d;rw[Int.natCast_mul]at A;rw[Int.mul_comm];exact A
 have H:¬ ((decide (IntKind.i64.wrap (m:Int)<0)||decide ((i.bytes:Int)*IntKind.i64.wrap (m:Int)>2 ^ 48)||decide (IntKind.i64.wrap (n:Int)<0)||decide (IntKind.i64.wrap (n:Int)>IntKind.i64.wrap (m:Int)))=true):=by
  rw[u,y,s,RI,RI,RI,EO,EO,EO,EO];omega
 simp only[execOp,k,hl,f,Instr.makeSlice,Sem.run_bind,G5 L,Result.andThen_ok,asInt,asIntOf,Sem.run_pure,gb h2,Jp];rw[z0z H];rw[u,y];simp only[Sem.run_bind,run_askRoom,Result.andThen_ok,p,Jq,Sem.run_ite];by_cases b:m*i.size=0
 ·rw[z1z b];simp only[Sem.run_bind,Sem.run_pure,Result.andThen_ok,newRow,run_newObj];congr 4;rw[b];simp
 ·rw[z0z b];simp only[Sem.run_bind,Sem.run_pure,Result.andThen_ok,newRow,run_newObj,hz]
end
end
section
variable {off n b:Nat}{cs l cells:List Value}{q:BU}{B8:Env}{Z:St}{x:Value}
section
variable {P:Program}{O:Place}{fr:Fr}{e:Operand->Value}{o:Oper}{w:World}{v:Value}
def Seg (O:Place) (w:World) (q:BU) (off:Nat) (cs:List Value):Prop:=∃ (arr:Array Value) (e:TypeId) (f:Nat×Nat),w.heap[q.c]? =some (.cells arr e f)/\q.o+off+cs.length<=arr.size/\(∀ v∈cs,L8 v=true) /\
 ∀ (i:Nat) (v:Value),cs[i]? =some v->∃ v',arr[q.o+off+i]? =some v'/\I0 O v v'
def Row.seg (h:Row B8 O w q cells) (p:sub cells off n=some cs):Seg O w q off cs/\cs.length=n:=by
 obtain⟨arr,el,lo,hi,f,r,s,u,g,j⟩:=h;obtain⟨h6,rfl⟩:=sub_eq p;refine⟨⟨arr,el,(lo,hi),f,by simp;omega,fun v a=>g v (dB (RR a)),fun i v a=>?_⟩,by simp;omega⟩;have c:i<n:=by
  rcases AU i n with d|d
  ·exact d
  ·rw[List.getElem?_eq_none (by simp;omega)]at a;cases a
 rw[List.getElem?_take_of_lt c,List.getElem?_drop]at a;obtain⟨v',k,m⟩:=j _ _ a;exact⟨v',by rw[show q.o+off+i=q.o+(off+i)from by omega];exact k,m⟩
def Seg.read (h:Seg O w q off cs):∃ vs:List Value,(loadCells ⟨q.c,q.o+off,none⟩ cs.length).run P w= .ok vs.toArray w/\F8 O cs vs/\∀ v∈cs,L8 v=true:=by
 obtain⟨arr,e,f,g,r,j,k⟩:=h;refine⟨_,run_read g cs.length om,?_,j⟩;apply F8.Gv
 ·simp;omega
 ·intro i v d;have a:i<cs.length:=(List.getElem?_eq_some_iff.1 d).1;rw[List.getElem?_take_of_lt a,List.getElem?_drop];obtain⟨v',m,p⟩:=k _ _ d;exact⟨v',by rw[Array.getElem?_toList];exact m,p⟩
def Seg.one (h:Seg O w q off cs) (g:LL cs=some v):
  ∃ v',(load ⟨q.c,q.o+off,none⟩).run P w= .ok v' w/\I0 O v v':=by
 obtain⟨arr,el,f,a,i,j,d⟩:=h;obtain⟨v',h7,h8⟩:=d 0 v (by rw[Wq g];rfl);refine⟨v',?_,h8⟩;rw[run_load,It a,show q.o+off=q.o+off+0 from rfl,h7]
def Row.one (h:Row B8 O w q cells) (a:sub cells off 1=some cs) (d:LL cs=some v):
  ∃ v',(load ⟨q.c,q.o+off,none⟩).run P w= .ok v' w/\I0 O v v':=(h.seg a).1.one d
def W7 (h:Z.read b off n=some cs):∃ B,Z.Gc b=some B/\sub B.cells off n=some cs:=A8 h
def Rel.seg (d:Rel B8 O Z w)(f:O b=some q) (h:Z.read b off n=some cs):Seg O w q off cs:=by
 obtain⟨B,a,c⟩:=W7 h;exact((d.row b q B f a).seg c).1
def Ke (h:Z.read b off n=some cs):cs.length=n:=by
 obtain⟨B,c,a⟩:=W7 h;obtain⟨h3,h4⟩:=sub_eq a;rw[h4];simp;omega
def eN {Z:St}{t:TypeId}{x:Operand}{r:Ay}(i:o.op= .load t x) (y:K5 O fr e o.op.operands.toList) (h:Ib P fr Z t x=some (v,r))
  (c:∀ q cs,O r.b=some q->Z.read r.b r.off r.n=some cs->Seg O w q r.off cs):BM P O e o w v:=by
 obtain⟨u,p,a⟩:=A8 h;obtain⟨⟨b',off⟩,h2,k2⟩:=A8 a;obtain⟨m,hm,k2⟩:=A8 (show ob (span? P t) _=some (v,r)from k2);obtain⟨v0,h3,k3⟩:=A8 (show ob (jA P Z t b' off) _=some (v,r)from k2);clear h a k2;cases k3;obtain⟨q,hq,hx⟩:=MJ (y x u (by simp[i,Op.operands]) p) h2;obtain⟨g,h4,h5⟩:=A8 h3;obtain⟨g',hg',hm⟩:=A8 hm;rw[h4]at hg';cases hg';have k:=Xs h4 w;cases g with
 | true=>
   obtain⟨n,j,s⟩:=A8 (show ob (size? P t) _=some v from h5);obtain⟨cs,d,f⟩:=A8 s;cases f;rw[show size? P t=some m from hm]at j;cases j;obtain⟨vs,a,k2,k3⟩:=(c q cs hq d).read (P:=P);rw[Ke d]at a;refine⟨.agg vs.toArray,?_,.agg k3 k2⟩;simp only[execOp,i,hx,Instr.loadAt,Instr.sureAddr,Sem.run_bind,Sem.run_pure,Result.andThen_ok,loadVar,k,FB,Bs (show size? P t=some m from hm),a]
 | false=>
   cases hm;obtain⟨cs,d,f⟩:=A8 (show ob (Z.read b' off 1) _=some v from h5);obtain⟨v',a,k2⟩:=(c q cs hq d).one (P:=P) f;refine⟨v',?_,k2⟩;simp only[execOp,i,hx,Instr.loadAt,Instr.sureAddr,Sem.run_bind,Sem.run_pure,Result.andThen_ok,loadVar,k,Je,GZ,a]
def Ic {u g:Value}{p:Ay}(h:I0 O u g) (f:Ou u=some p):∃ q a k',O p.b=some q/\g= .slice (some a) p.n k'/\(a=⟨q.c,q.o+p.off,none⟩\/p.n=0):=by
 unfold Ou at f;split at f
 ·cases f;cases h with
  |slice d=>exact⟨_,_,_,d,rfl,.inl rfl⟩
  |grow d _ _=>exact⟨_,_,_,d,rfl,.inl rfl⟩
  |Bu d=>exact⟨_,_,_,d,rfl,.inr rfl⟩
  |I3 hs=>simp[I3]at hs
 ·cases f
def gN {P:Program}{w:World}:∀ (l:List Value) (r:List UInt8) (s:ByteArray),Ba l=some r ->
  (forIn l s (fun(c:Value) (s:ByteArray)=>(match c with
    | .int .u8 n=>pure (ForInStep.yield (s.push (UInt8.ofNat n.toNat)))
    | _=>do
      stuck "bytesToString: byte expected"
      pure (ForInStep.yield s):Sem (ForInStep ByteArray)))).run P w= .ok ⟨(s.data.toList++r).toArray⟩ w:=by
 intro l;induction l with
 |nil=>intro r s h;cases h;simp[forIn,List.forIn']
 | cons v l ih=>
   intro r s h;obtain⟨b,a,d⟩:=A8 (show ob (QC v) (fun b=>ob (Ba l) fun bs=>some (b::bs))=some r from h);obtain⟨bs,h3,h4⟩:=A8 d;cases h4;unfold QC at a;split at a
   ·cases a;rw[List.forIn_cons];simp only[Sem.run_bind,Sem.run_pure,Result.andThen_ok];rw[ih bs _ h3];simp[ByteArray.push]
   ·cases a
def F8.Ba {l':List Value}{r:List UInt8}(h:F8 O l l') (c:Ab.Ba l=some r):Ab.Ba l'=some r:=by
 induction l generalizing l' r with
 |nil=>cases h;exact c
 | cons v l ih=>
   cases h with
   |cons g f=>
   rename_i v' l';obtain⟨b,a,d⟩:=A8 (show ob (QC v) (fun b=>ob (Ab.Ba l) fun bs=>some (b::bs))=some r from c);obtain⟨bs,h3,h4⟩:=A8 d;cases h4;show ob (QC v') (fun b=>ob (Ab.Ba l') fun bs=>some (b::bs))=_;have:v'=v:=by
    unfold QC at a;split at a
    ·cases g;rfl
    ·cases a
   rw[this,a,ih f h3];rfl
def oI {d:Option TypeDesc}(h:isByte d=true):d=some (.int .u8):=by
 unfold isByte at h;split at h
 ·rfl
 ·cases h
def wX {d:Option TypeDesc}(h:isStr d=true):d=some .string:=by
 unfold isStr at h;split at h
 ·rfl
 ·cases h
def XM {Z:St}{s d:TypeId}{x:Operand}{r:Ay}(k:o.op= .convert s d x) (p:K5 O fr e o.op.operands.toList) (h:DU P fr Z s d x=some (v,r))
  (i:∀ q cs,O r.b=some q->Z.read r.b r.off r.n=some cs->Seg O w q r.off cs):BM P O e o w v:=by
 obtain⟨u,m,g⟩:=A8 h;obtain⟨⟨b',off,n⟩,h2,k2⟩:=A8 g;obtain⟨el,h3,k3⟩:=A8 (show ob (elem? P s) _=some (v,r)from k2);obtain⟨h4,k4⟩:=H9 k3;obtain⟨h5,k5⟩:=H9 k4;obtain⟨l,h6,k6⟩:=A8 k5;obtain⟨r',h7,k7⟩:=A8 k6;clear h g k2 k3 k4 k5 k6;cases k7;obtain⟨q,a,k',hq,hx,c⟩:=Ic (p x u (by simp[k,Op.operands]) m) h2;obtain⟨vs,g,k2,k3⟩:=(i q l hq h6).read (P:=P);rw[Ke h6]at g;have j:(loadCells a n).run P w= .ok vs.toArray w:=by
  rcases c with c|c
  ·rw[c];exact g
  ·change n=0 at c;subst c;have:vs=[]:=by
    have f:=k2.length;rw[Ke h6]at f;exact Rb.1 f.symm
   subst this;rfl
 refine⟨.string ⟨r'.toArray⟩,?_,.I3 rfl⟩;simp only[execOp,k,hx,convert,Sem.run_bind,G5 (HX h3),G5 (wX h5),Result.andThen_ok,G5 (oI h4),Conv.bytesToString,j,Sem.run_pure];have y:=gN (P:=P) (w:=w) vs r' ByteArray.empty (k2.Ba h7);rw[List.forIn_toArray];refine(congrArg (fun r:Result ByteArray=>(r.andThen fun a w'=>Result.ok (Value.string a) w').andThen fun a w'=>Result.ok (Next.value a) w') y).trans ?_;rfl
def Ax8 (v:Value):Next->Prop
 | .value v'=>v'=v
 | .skip=>v=undef
 |_=>False
def LQ (P:Program) (B8:Env) (O:Place) (e:Operand->Value) (o:Oper) (Z:St) (w:World) (Z':St) (v:Value):Prop :=
 ∃ (w':World) (nx:Next) (v':Value) (O':Place),(execOp e o).run P w= .ok nx w'/\Ax8 v' nx/\Rel B8 O' Z' w'/\Y6 O Z w O' Z' w'/\I0 O' v v'
def Zo {B8:Env}{Z Z':St}{t:TypeId}{x y:Operand}(c:o.op= .store t x y) (f:K5 O fr e o.op.operands.toList) (j:Rel B8 O Z w)
  (h:HM P fr Z t x y=some (v,Z')):LQ P B8 O e o Z w Z' v:=by
 obtain⟨a,i,g⟩:=A8 h;obtain⟨u,h2,k2⟩:=A8 g;obtain⟨Z1,h3,k3⟩:=A8 k2;clear h g k2;cases k3;obtain⟨⟨b,off⟩,h4,k4⟩:=A8 h3;obtain⟨n,h5,k5⟩:=A8 (show ob (size? P t) _=some Z' from k4);obtain⟨ht,k6⟩:=Kh k5;obtain⟨h6,h7⟩:=H9 k6;clear h3 k4 k5 k6;have m:=Ai h6;obtain⟨q,hq,hx⟩:=MJ (f x a (by simp[c,Op.operands]) i) h4;obtain⟨c1,c2⟩:=(f y u (by simp[c,Op.operands]) h2).cells ht;obtain⟨w1,w2,w3⟩:=j.write hq h7 c1 c2;refine⟨_,.skip,undef,O,?_,rfl,w2,w3,.tuple .nil⟩;have k:=c1.length;have d:(e y).cells.size=n:=by rw[<- QD,<- k,m]
 simp only[execOp,c,hx,Instr.storeAt,Instr.sureAddr,Sem.run_bind,Sem.run_pure,Result.andThen_ok,storeVar,Bs h5,ne_eq];rw[z0z (by simp[d])];rw[w1 P];rfl
def WR {size:Nat}{C:Value}{new:List Value}(H:Rel B8 O Z w) (A:I0 O x C) (h:Az Z size x=some (n,new)):
  (Builtin.lenOf C).run P w= .ok n w/\new.length=n*size/\(∀ v∈new,L8 v=true) /\
  ∀ k,k<=n->∃ Q3,(Builtin.firstCells size k C).run P w= .ok (Q3:List Value).toArray w/\F8 O (new.take (k*size)) Q3:=by
 unfold Az at h;split at h
 ·rename_i J j;obtain⟨c,d⟩:=H9 h;cases d;have:=Ai c;subst this;cases A with
  | I3 hs=>
    refine⟨rfl,by simp,by simp,fun k i=>?_⟩;have:k=0:=om;subst this;exact⟨[],rfl,by simp;exact .nil⟩
 ·rename_i b off sp J j;obtain⟨cs,c,d⟩:=A8 h;cases d;obtain⟨q,a,k',hq,hx',f⟩:=Ic (p:=⟨b,off,n⟩) A rfl;obtain⟨B,h10,h11⟩:=W7 c;obtain⟨h12,h13⟩:=sub_eq h11;have D:=H.row b q B hq h10;subst hx';have g:new.length=n*size:=by
   have:=congrArg List.length h13;simp at this;omega
  refine⟨rfl,g,?_,fun k i=>?_⟩
  ·obtain⟨_,_,_,F⟩:=D.read (P:=P) h11;exact F
  ·have u:k*size<=n*size:=kh size i;obtain⟨G,I,E,F⟩:=D.read (P:=P) (off:=off) (n:=k*size) (BR om);refine⟨G,?_,?_⟩
   ·rcases f with f|f
    ·simp only[Builtin.firstCells];rw[f];exact I
    ·change n=0 at f;have r:k=0:=om;subst r;have:G=[]:=by
      have:=E.length;simp at this;exact Rb.1 this.symm
     subst this;simp only[Builtin.firstCells,GH];rfl
   ·have m:new.take (k*size)=(B.cells.drop off).take (k*size):=by
     rw[h13,Zf,pS u]
    rw[m];exact E
 ·rename_i s;obtain⟨c,d⟩:=H9 h;cases d;have y:=Ai c;subst y;cases A with
  | I3 hs=>
    have z:s.size=s.data.toList.length:=Array.length_toList.symm;refine⟨by simp only[Builtin.lenOf,Sem.run_pure,z],by simp[ET],FZ (HY _),fun k i=>⟨ET (s.data.toList.take k),?_,?_⟩⟩
    ·simp only[Builtin.firstCells,Sem.run_pure];congr 1;rw[LW s 0 k i];simp[ET]
    ·rw[Ip];have:(ET s.data.toList).take k=ET (s.data.toList.take k):=by simp[ET]
     rw[this];exact F8.Mp (HY _)
 ·cases h
def oJ {r:List Value}(h:takeN n l=some r):r=l.take n/\n<=l.length:=⟨(To _ _ _ h).2,(To _ _ _ h).1⟩
def Uk {Z':St}(a:Rel B8 O Z w) (c:O b=some q) (h:Z.write b off []=some Z'):Rel B8 O Z' w/\Y6 O Z w O Z' w:=by
 obtain⟨_,d,f⟩:=a.write c h .nil (by simp);exact⟨d,f⟩
def pL {y:Value}(h:sW l=some (x,y)):l=[x,y]:=by
 unfold sW at h;split at h
 ·cases h;rfl
 ·cases h
def cK {B8:Env}{Z Z':St}{b off n:Nat}{q:BU}{a:Addr}{f vs':List Value}(j:Rel B8 O Z w) (k:O b=some q) (d:a=⟨q.c,q.o+off,none⟩\/n=0)
  (r:n=0->f=[]) (h:Z.write b off f=some Z') (m:F8 O f vs') (p:∀ v∈f,L8 v=true) :
  ∃ w',(storeCells a vs').run P w= .ok () w'/\Rel B8 O Z' w'/\Y6 O Z w O Z' w':=by
 rcases d with d|d
 ·subst d;obtain⟨s,g,i⟩:=j.write k h m p;exact⟨_,s P,g,i⟩
 ·have:=r d;subst this;cases m;obtain⟨g,i⟩:=Uk j k h;exact⟨w,rfl,g,i⟩
def eO {B8:Env}{Z Z':St}{c:Call}(p:o.op= .call c) (B:c.callee= .builtin .copy) (D:K5 O fr e o.op.operands.toList) (k:Rel B8 O Z w)
  (h:AR8 P fr Z c=some (v,Z')):LQ P B8 O e o Z w Z' v:=by
 obtain⟨K,z,r⟩:=A8 h;obtain⟨⟨d,s⟩,h2,k2⟩:=A8 r;obtain⟨t,h3,k3⟩:=A8 (show ob (Ra c) _=some (v,Z')from k2);obtain⟨el,h4,k4⟩:=A8 (show ob (elem? P t) _=some (v,Z')from k3);obtain⟨size,h5,k5⟩:=A8 k4;obtain⟨⟨b,off,dl⟩,h6,k6⟩:=A8 k5;obtain⟨⟨n,cs⟩,h7,k7⟩:=A8 (show ob (Az Z size s) _=some (v,Z')from k6);obtain⟨cs2,h8,k8⟩:=A8 (show ob (takeN (Nat.min n dl*size) cs) _=some (v,Z')from k7);obtain⟨Z2,h9,k9⟩:=A8 k8;clear h r k2 k3 k4 k5 k6 k7 k8;cases k9;have g:=(FO p D).evs z;rw[pL h2]at g;generalize A:c.args.toList.map e=L at g;cases g with
 |cons C i=>
 cases i with
 |cons i H=>
 cases H;rename_i j I;have u:c.args.map e=#[j,I]:=by rw[Js,A]
 obtain⟨q,a,G,E,f,m⟩:=Ic C h6;change j= .slice (some a) dl G at f;change a=⟨q.c,q.o+off,none⟩\/dl=0 at m;subst f;obtain⟨s1,s2,s3,s4⟩:=WR (P:=P) k i h7;obtain⟨Q3,s5,s6⟩:=s4 (Nat.min n dl) (Nat.min_le_left _ _);obtain⟨rfl,s7⟩:=oJ h8;obtain⟨w',g1,g2,g3⟩:=cK (P:=P) k E m (fun y=>by subst y;simp) h9 s6 (fun v F=>s3 v (RR F));refine⟨w',.value _,_,O,?_,rfl,g2,g3,.I3 rfl⟩;have J:Nat.min n dl=min n dl:=rfl;simp only[execOp,p,resolve,B,Sem.run_bind,Sem.run_pure,Result.andThen_ok,invoke,builtin,Builtin.copy_,DR h3,u];simp[G5 (HX h4),s1,Bs h5,goInt];rw[s5];simp only[Result.andThen_ok,g1]
def Zp {B8:Env}{Z Z':St}{c:Call}(p:o.op= .call c) (f:c.callee= .builtin .clear) (K:K5 O fr e o.op.operands.toList) (I:Rel B8 O Z w)
  (h:wW P fr Z c=some (v,Z')):LQ P B8 O e o Z w Z' v:=by
 obtain⟨V,G,B⟩:=A8 h;obtain⟨x,h2,k2⟩:=A8 B;obtain⟨t,h3,k3⟩:=A8 k2;obtain⟨el,h4,k4⟩:=A8 (show ob (elem? P t) _=some (v,Z')from k3);obtain⟨z,h5,k5⟩:=A8 k4;obtain⟨⟨b,off,n⟩,h6,k6⟩:=A8 k5;obtain⟨Z2,h9,k9⟩:=A8 (show ob (Z.write b off (rep (J6 z) n)) _=some (v,Z')from k6);clear h B k2 k3 k4 k5 k6;cases k9;have r:=(FO p K).evs G;rw[Wq h2]at r;generalize H:c.args.toList.map e=L at r;cases r with
 |cons S N=>
 cases N;rename_i C;have u:c.args.map e=#[C]:=by rw[Js,H]
 obtain⟨q,a,U,M,d,y⟩:=Ic S h6;change C= .slice (some a) n U at d;change a=⟨q.c,q.o+off,none⟩\/n=0 at y;subst d;obtain⟨hz,_,_⟩:=ER (O:=O) h5 w;obtain⟨zc1,zc2,zc3⟩:=Dp (O:=O) h5;have D:∀ c∈Ab.rep (J6 z) n,L8 c=true:=by
  intro c f;obtain⟨i,hi⟩:=List.getElem?_of_mem f;have k:i<n*(J6 z).length:=by rw[<- Mq];exact(List.getElem?_eq_some_iff.1 hi).1
  rw[QT _ _ _ k]at hi;exact zc3 c (Ag hi)
 have s:=OM zc2 n (n*z.cells.size) (by rw[zc2.length,QD]);obtain⟨w',g,E,F⟩:=cK (P:=P) I M y (fun j=>by subst j;rfl) h9 s D;refine⟨w',.value _,_,O,?_,rfl,E,F,.tuple .nil⟩;have A:=HX h4;by_cases j:n=0
 ·subst j;have R:w'=w:=by
   have:((Array.range (0*z.cells.size)).map fun i=>(⟨z.cells.toList⟩:Array Value)[i % (⟨z.cells.toList⟩:Array Value).size]!).toList=[]:=sI;rw[this]at g;cases g;rfl
  subst R;simp only[execOp,p,resolve,f,Sem.run_bind,Sem.run_pure,Result.andThen_ok,invoke,builtin,Builtin.clear_,DR h3,u];simp[G5 A]
 ·simp only[execOp,p,resolve,f,Sem.run_bind,Sem.run_pure,Result.andThen_ok,invoke,builtin,Builtin.clear_,DR h3,u];have J:(storeCells a (Builtin.zeroCells z.cells n).toList).run P w= .ok () w':=g;obtain⟨m,rfl⟩:∃ m,n=m+1:=⟨n-1,om⟩
  simp[G5 A,hz,J]
def AI0 (a:Nat):∀ (k c:Nat),256<=c->c<a->Builtin.growBy a k c<=2*a:=by
 intro k;induction k with
 |zero=>intro c _ h;unfold Builtin.growBy;omega
 | succ k ih=>
   intro c f g;unfold Builtin.growBy;rw[z0z om];by_cases d:c+(c+768) / 4<a
   ·exact ih _ om d
   ·cases k with
    |zero=>unfold Builtin.growBy;omega
    |succ k=>unfold Builtin.growBy;rw[z1z om];omega
def xi (c a:Nat) (h:a<c):Builtin.nextslicecap c a<=2*c:=by
 unfold Builtin.nextslicecap;split
 ·omega
 ·split
  ·omega
  ·exact AI0 c 4 a om h
end
end
section
variable {Z:St}{B8:Env}{b off x:Nat}{q:BU}
section
variable {P:Program}{O:Place}{fr:Fr}{e:Operand->Value}{o:Oper}{w:World}{v:Value}
def Rel.heap {w w':World}(h:Rel B8 O Z w) (a:w'.heap=w.heap):Rel B8 O Z w' :=
 ⟨h.fresh,fun b q B d f=>(h.IQ b q B d f).mono (Place.le_refl _) (by rw[a]),fun b q d=>by rw[a];exact h.dom b q d,h.own,h.sep,h.low.next (by rw[a];exact Bh _) fun c _=>by rw[a]⟩
def kg {d:Option TypeDesc}(h:OQ d=true):∃ d',d=some d'/\OQ (some d')=true:=by
 cases d with
 |none=>cases h
 |some d=>exact⟨d,rfl,h⟩
def Fj {c:Call}{t:TypeId}(h:gi c=some t):c.argTypes[1]? =some t:=by
 unfold gi at h;split at h
 ·rename_i u d r a;cases h;have:=congrArg (fun l:List TypeId=>l[1]?) a
  simpa using this
 ·cases h
def Dg {ts:Array TypeId}{ty t p el:TypeId}{i:TypeInfo}{h:TypeDesc}{base':Option Addr}{len c n:Nat}{x':Value}{Q3:Array Value}{w':World}
  (u:ts[0]? =some t) (y:ts[1]? =some p) (z:P.underlying t=some (.slice el)) (k:P.underlying p=some h) (d:OQ (some h)=true) (hi:P.info? el=some i)
  (l:(Builtin.lenOf x').run P w= .ok n w) (m:(Builtin.firstCells i.size n x').run P w= .ok Q3 w) (f:len+n<=c)
  (g:match base' with|some a=>(storeCells (a.add (len*i.size)) Q3.toList).run P w= .ok () w'|none=>w'=w) :
  (Builtin.append_ ts ty #[.slice base' len c,x']).run P w= .ok (.slice base' (len+n) c) w':=by
 have j:(sizeOf el).run P w= .ok i.size w:=by simp[sizeOf,typeInfo,hi]
 have r:(#[Value.slice base' len c,x']:Array Value)[0]? =some (.slice base' len c):=rfl;have s:(#[Value.slice base' len c,x']:Array Value)[1]? =some x':=rfl;unfold Builtin.append_;simp only[u,y,r,s,Sem.run_bind,G5 z,Result.andThen_ok,j,G5 k,Sem.run_pure];cases base' with
 | none=>
   subst g
   cases h<;>first
    | (cases d;done)
    | (simp only[Je,GZ,Sem.run_bind,l,Result.andThen_ok,Sem.run_ite,z1z f,Yd,FB,m,Sem.run_pure])
 | some a=>
   cases h<;>first
    | (cases d;done)
    | (simp only[Je,GZ,Sem.run_bind,l,Result.andThen_ok,Sem.run_ite,z1z f,Yd,FB,m,g,Sem.run_pure])
def Gy {ts:Array TypeId}{ty t A el:TypeId}{i:TypeInfo}{g:TypeDesc}{base':Option Addr}{len a n:Nat}{x' z:Value}{old' Q3:Array Value}
  (E:ts[0]? =some t) (F:ts[1]? =some A) (R:P.underlying t=some (.slice el)) (s:P.underlying A=some g) (m:OQ (some g)=true) (hi:P.info? el=some i) (U:i.zero=some z)
  (N:(Builtin.lenOf x').run P w= .ok n w) (d:(Builtin.firstCells i.size len (.slice base' len a)).run P w.drew= .ok old' w.drew) (S:(Builtin.firstCells i.size n x').run P w.drew= .ok Q3 w.drew)
  (c:a<len+n) (f:(len+n)*(i.bytes+1)<=room) :
  ∃ K,len+n<=K/\(Builtin.append_ ts ty #[.slice base' len a,x']).run P w =
   .ok (.slice (some ⟨w.heap.size,0,none⟩) (len+n) K) { w.drew with heap:=w.heap.push (.cells (old'++Q3++Builtin.zeroCells z.cells (K-(len+n))) el) }:=by
 have r:∀ w,(sizeOf el).run P w= .ok i.size w:=fun w=>by simp[sizeOf,typeInfo,hi]
 have u:∀ w,(zeroValue el).run P w= .ok z w:=fun w=>by simp[zeroValue,typeInfo,hi,U]
 have B:(#[Value.slice base' len a,x']:Array Value)[0]? =some (.slice base' len a):=rfl;have C:(#[Value.slice base' len a,x']:Array Value)[1]? =some x':=rfl;refine⟨(Question.appendCap (len+n) a el).cut (w.tape w.drawn (.appendCap (len+n) a el)),AL6 _ _,?_⟩;have M:(Question.appendCap (len+n) a el).forced=false:=rfl;generalize I:(Question.appendCap (len+n) a el).cut (w.tape w.drawn (.appendCap (len+n) a el))=K;unfold room at f;have J:len+n<=4294967296:=j9 (AL8 _ om) f;have L:(len+n)*i.bytes<=4294967296:=j9 (Yb _ om) f;have j:¬ (((len+n:Nat):Int)>IntKind.i64.max):=by
  have D:IntKind.i64.max=9223372036854775807:=by decide
  rw[D];omega
 have k:¬ (Builtin.nextslicecap (len+n) a*i.bytes>2 ^ 48):=by
  have y:(2:Nat) ^ 48=281474976710656:=by decide
  have G:=xi (len+n) a c;have H:Builtin.nextslicecap (len+n) a*i.bytes<=2*(len+n)*i.bytes:=kh _ G;rw[Gb]at H;rw[y];omega
 have l:∀ (p:Prop),¬ (((len+n:Nat):Int)>IntKind.i64.max/\p):=fun p h=>j h.1;unfold Builtin.append_;simp only[E,F,B,C,Sem.run_bind,G5 R,Result.andThen_ok,r,G5 s,Sem.run_pure]
 cases g<;>first
  | (cases m;done)
  | (simp only[Je,GZ,Sem.run_bind,N,Result.andThen_ok,Sem.run_ite,z0z (Nat.not_le.2 c),Yd,FB,gb hi,z0z (l _),z0z k,run_choose,M,I,run_askRoom,World.drew_eq,d,S,u,newRow,run_newObj,Sem.run_pure]
     rfl)
def UD (zero:Array Value) (n:Nat):(Builtin.zeroCells zero n).size=n*zero.size:=by simp[Builtin.zeroCells]
def OS {B8:Env}{Z:St}{old new old' Q3:List Value}{N7:Array Value}{el:TypeId}{n K size:Nat}(j:Rel B8 O Z w) (k:O Z.n=none)
  (m:F8 O old old') (l:F8 O new Q3) (d:∀ v∈old,L8 v=true) (cn:∀ v∈new,L8 v=true) (i:n<=K) (p:K*size<=old'.length+Q3.length+N7.size) {t:Option TypeId} (ht:∀ x,t=some x->x=el:=by exact fun _ h=>by cases h) :
  ∃ O',Rel B8 O' (Z.new (old++new) t) { w.drew with heap:=w.heap.push (.cells (old'.toArray++Q3.toArray++N7) el) } /\
   Y6 O Z w O' (Z.new (old++new) t) { w.drew with heap:=w.heap.push (.cells (old'.toArray++Q3.toArray++N7) el) } /\
   I0 O' (.slice (some ⟨Z.n,0,some size⟩) n n) (.slice (some ⟨w.heap.size,0,none⟩) n K):=by
 obtain⟨f,g⟩:=j.new (t:=t) (w':={ w.drew with heap:=w.heap.push (.cells (old'.toArray++Q3.toArray++N7) el) }) k (cs:=old++new) (arr:=old'.toArray++Q3.toArray++N7) (e:=el) (lo:=0) (hi:=0)
  (by simp) (by simp) (fun c r=>by simp[Array.getElem?_push];intro h;omega) ⟨rfl,rfl,rfl⟩ (.inr nL)
  (fun v a=>by rcases EM.1 a with a|a;exact d v a;exact cn v a) ⟨old'++Q3,N7.toList,by simp,F8.append l m⟩ ht
 exact⟨_,f,g,.grow (q:=⟨w.heap.size,0,_⟩) (Place.R0 _ _ _) i (by show 0+0+K*size<=_;simp only[Ya,List.size_toArray];omega)⟩
def RZ {el:Nat}{t:Option TypeId}(h:PR el off t=some x):x=el/\off=0/\t=some x:=by
 obtain⟨y,rfl,a⟩:=A8 h;obtain⟨h1,h3⟩:=H9 a;obtain⟨h4,h5⟩:=H9 h3;cases h5;exact⟨rfl,Ai h4,by rw[Ai h1]⟩
def AT0 (h:Z.typ b=some x):∃ B,Z.h.get b=some B/\B.kind= .row (some x):=by
 obtain⟨⟨cells,c,own,ver,kind⟩,d,a⟩:=A8 h;cases kind with
 |row t=>exact⟨_,d,by cases a;rfl⟩
 |map=>cases a
 |loop=>cases a
def Rel.typ (g:Rel B8 O Z w){x:TypeId}(j:O b=some q) (i:∃ B,Z.blk b=some B) (h:Z.typ b=some x):q.o=0/\∃ arr f,w.heap[q.c]? =some (.cells arr x f):=by
 obtain⟨B,a,d⟩:=AT0 h;obtain⟨B',hB⟩:=i;obtain⟨h3,h4⟩:=AM hB;rw[a]at h3;cases h3;exact g.typed j hB d x rfl
def dH (d:Rel B8 O Z w){el:TypeId}(h:O b=some q) (g:∃ B,Z.blk b=some B):∀ x,PR el off (Z.typ b)=some x->off=0/\q.o=0/\∃ arr f,w.heap[q.c]? =some (.cells arr x f):=fun x a=>
 ⟨(RZ a).2.1,d.typ h g (RZ a).2.2⟩
def WQ {B8:Env}{N:Nat}{Z Z':St}{c:Call}(ho:o.op= .call c) (hc:c.callee= .builtin .append) (hk:K5 O fr e o.op.operands.toList) (y:Rel B8 O Z w)
  (hF:Co O Z.n N) (hN:Z'.n<=N) (h:EU P fr Z c=some (v,Z')):LQ P B8 O e o Z w Z' v:=by
 obtain⟨vs,h1,k1⟩:=A8 h;obtain⟨⟨s,x⟩,h2,k2⟩:=A8 k1;obtain⟨t,h3,k3⟩:=A8 (show ob (Ra c) _=some (v,Z')from k2);obtain⟨t2,h4,k4⟩:=A8 k3;obtain⟨h5,k5⟩:=H9 k4;obtain⟨el,h6,k6⟩:=A8 (show ob (elem? P t) _=some (v,Z')from k5);obtain⟨i,h7,k7⟩:=A8 k6;clear h k1 k2 k3 k4 k5 k6;obtain⟨d2,hu2,hd2⟩:=kg h5;have H:=HX h6;have hr:=(FO ho hk).evs h1;rw[pL h2]at hr;generalize hE:c.args.toList.map e=L at hr;cases hr with
 |cons hs hr=>
 cases hr with
 |cons I pM=>
 cases pM;rename_i s' x';have Dy:c.args.map e=#[s',x']:=by rw[Js,hE]
 have G:∀ (r:Value) (w':World),(∀ ty,(Builtin.append_ c.argTypes ty #[s',x']).run P w= .ok r w')->(execOp e o).run P w= .ok (.value r) w':=by
  intro r w' hh;simp only[execOp,ho,resolve,hc,Sem.run_bind,Sem.run_pure,Result.andThen_ok,invoke,builtin,Dy,hh]
 split at k7
 ·rename_i bs len f;obtain⟨⟨n,new⟩,h8,k8⟩:=A8 k7;obtain⟨h9,k9⟩:=H9 (show bb (Nat.ble 1 i.size) _=some (v,Z')from k8);clear k7 k8;have a9:=Jo h9;obtain⟨s1,s2,s3,s4⟩:=WR (P:=P) y I h8;obtain⟨Q3,s5,s6⟩:=s4 n nL;rw[<- s2,Jf]at s6;cases C:Nat.ble (len+n) f with
  | true=>
    rw[C]at k9;have xj:=Jo C;change DD Z i.size bs len f n new=some (v,Z')at k9;unfold DD at k9;split at k9
    ·rename_i b off sp;obtain⟨Z2,g,j⟩:=A8 k9;cases j;cases hs with
     | slice d=>
       obtain⟨w1,w2,w3⟩:=y.write d g s6 s3;refine⟨_,.value _,_,O,G _ _ fun ty=>Dg (DR h3) (Fj h4) H hu2 hd2 h7 s1 s5 xj ?_,rfl,w2,w3,.slice d⟩;simp only[addr_add];rw[show ∀ q:BU,q.o+off+len*i.size=q.o+(off+len*i.size)from fun q=>UE _ _ _];exact w1 P
     | grow d hkk hm=>
       obtain⟨w1,w2,w3⟩:=y.write d g s6 s3;refine⟨_,.value _,_,O,G _ _ fun ty=>Dg (DR h3) (Fj h4) H hu2 hd2 h7 s1 s5 (j9 xj hkk) ?_,rfl,w2,w3,.grow d hkk hm⟩;simp only[addr_add];rw[show ∀ q:BU,q.o+off+len*i.size=q.o+(off+len*i.size)from fun q=>UE _ _ _];exact w1 P
     | Bu d=>
       have X:n=0:=om;subst X;have Lw:new=[]:=Rb.1 (by rw[s2,GH]);subst Lw;cases s6;obtain⟨w2,w3⟩:=Uk y d g;refine⟨w,.value _,_,O,G _ _ fun ty=>Dg (DR h3) (Fj h4) H hu2 hd2 h7 s1 s5 xj ?_,rfl,w2,w3,.Bu d⟩;rfl
     |I3 hsc=>simp[I3]at hsc
    ·obtain⟨g,j⟩:=H9 k9;cases j;have h0:=Ai g;cases hs with
     | I3 hsc=>
       have hl:len=0:=om;have X:n=0:=om;have a4:f=0:=om;subst hl X a4;refine⟨w,.value _,_,O,G _ _ fun ty=>Dg (DR h3) (Fj h4) H hu2 hd2 h7 s1 s5 xj rfl,rfl,y,.refl _ _ _,.I3 rfl⟩
  | false=>
    rw[C]at k9;have F:f<len+n:=by
     rcases AU f (len+n)with hh|hh
     ·exact hh
     ·rw[AM0 hh]at C;cases C
    obtain⟨g,j⟩:=H9 (show bb _ _=some (v,Z')from k9);have Dz:=Jo g;obtain⟨z,h11,k11⟩:=A8 j;obtain⟨h12,k12⟩:=H9 k11;clear k9 j k11;have a7:=Ai h12;obtain⟨_,_,i',hi',hzi⟩:=ER (O:=O) h11 w;rw[h7]at hi';cases hi';obtain⟨zc1,zc2,_⟩:=Dp (O:=O) h11;have a2:z.cells.size=i.size:=by rw[<- a7,zc1,QD]
    have U:Rel B8 O Z w.drew:=y.heap rfl;obtain⟨t1,a8,t3,t4⟩:=WR (P:=P) U I h8;obtain⟨BW6,t5,t6⟩:=t4 n nL;rw[<- a8,Jf]at t6;have b0:=t6.length;have dI:∀ K,len+n<=K->(Builtin.zeroCells z.cells (K-(len+n))).size=(K-(len+n))*i.size:=by intro K _;rw[UD,a2]
    have pN:∀ K,len+n<=K->K*i.size=len*i.size+n*i.size+(K-(len+n))*i.size:=by
     intro K u;rw[<- UF,<- UF];congr 1;omega
    unfold Bv at k12;split at k12
    ·obtain⟨p,D⟩:=H9 k12;cases D;have hl:=Ai p;subst hl;cases hs with
     | I3 hsc=>
       have a1:f=0:=by
        cases f with
        |zero=>rfl
        |succ k=>cases hsc
       subst a1;obtain⟨K,u,FN⟩:=Gy (ts:=c.argTypes) (ty:=o.type) (P:=P) (w:=w) (base':=none) (DR h3) (Fj h4) H hu2 hd2 h7 hzi s1 (old':=#[]) rfl t5 F Dz;have Rc:∀ ty,(Builtin.append_ c.argTypes ty #[.slice none 0 0,x']).run P w=_:=fun ty=>FN
       obtain⟨O',M,R,S⟩:=OS (B8:=B8) (el:=el) (size:=i.size) (n:=n) (K:=K) (old:=[]) (old':=[]) (t:=some el) (ht:=fun x I=>by cases I;rfl) (N7:=Builtin.zeroCells z.cells (K-(0+n))) y (hF Z.n nL (z5z (Jt _) hN)) .nil t6 (by simp) t3 om
        (by rw[dI K u,pN K u];simp only[Jg];omega)
       exact⟨_,.value _,_,O',G _ _ Rc,rfl,M,R,by rw[GK];exact S⟩
    ·rename_i b off;obtain⟨old,p,D⟩:=A8 k12;cases D;have Hc:O Z.n=none:=hF Z.n nL (z5z (Jt _) hN);obtain⟨B,hB,GL⟩:=W7 p;obtain⟨hsl,hse⟩:=sub_eq GL;have J:old.length=len*i.size:=by have:=congrArg List.length hse;simp at this;omega
     have fin:∀ (q:BU) (a:Addr) (l:Nat),O b=some q->s'= .slice (some a) len l->(a=⟨q.c,q.o+off,none⟩\/len=0)->l<len+n->LQ P B8 O e o Z w (Z.new (old++new) (some el)) (.slice (some ⟨Z.n,0,some i.size⟩) (len+n) (len+n)):=by
      intro q a l d Y A dJ;subst Y;obtain⟨E,o1,o2,o3⟩:=(U.row b q B d hB).read (P:=P) GL;have W:(Builtin.firstCells i.size len (.slice (some a) len l)).run P w.drew= .ok E.toArray w.drew:=by
       rcases A with A|A
       ·subst A;exact o1
       ·subst A;have:E=[]:=by have:=o2.length;simp at J;rw[J]at this;exact Rb.1 this.symm
        subst this;simp only[Builtin.firstCells,GH];rfl
      obtain⟨K,u,FN⟩:=Gy (ts:=c.argTypes) (ty:=o.type) (P:=P) (w:=w) (DR h3) (Fj h4) H hu2 hd2 h7 hzi s1 W t5 dJ Dz;have Rc:∀ ty,(Builtin.append_ c.argTypes ty #[.slice (some a) len l,x']).run P w=_:=fun ty=>FN;have a6:=o2.length
      obtain⟨O',M,R,S⟩:=OS (B8:=B8) (el:=el) (size:=i.size) (n:=len+n) (K:=K) (t:=some el) (ht:=fun x I=>by cases I;rfl) (N7:=Builtin.zeroCells z.cells (K-(len+n))) y Hc o2 t6 o3 t3 u
       (by rw[dI K u,pN K u];omega)
      exact⟨_,.value _,_,O',G _ _ Rc,rfl,M,R,S⟩
     cases hs with
     |slice d=>exact fin _ _ _ d rfl (.inl rfl) F
     |Bu d=>exact fin _ _ _ d rfl (.inr rfl) F
     |I3 hsc=>simp[I3]at hsc
    ·rename_i b off sz;obtain⟨p,D⟩:=H9 k12;obtain⟨old,h14,k14⟩:=A8 D;obtain⟨Z1,h15,k15⟩:=A8 k14;cases k15;have a3:=Ai p;subst a3;have a0:Z1.n=Z.n:=by obtain⟨_,_,_,rfl⟩:=Gz h15;rfl
     have Hc:O Z.n=none:=hF Z.n nL (by have:(Z1.new (old++new) (PR el off (Z.typ b))).n=Z1.n+1:=rfl;omega);obtain⟨B,hB,GL⟩:=W7 h14;obtain⟨hsl,hse⟩:=sub_eq GL;have J:old.length=len*i.size:=by have:=congrArg List.length hse;simp at this;omega
     have fin:∀ (q:BU) (a:Addr) (l:Nat),O b=some q->s'= .slice (some a) len l->(a=⟨q.c,q.o+off,none⟩\/len=0)->l<len+n->LQ P B8 O e o Z w (Z1.new (old++new) (PR el off (Z.typ b))) (.slice (some ⟨Z1.n,0,some i.size⟩) (len+n) (len+n)):=by
      intro q a l d Y A dJ;subst Y;obtain⟨E,o1,o2,o3⟩:=(U.row b q B d hB).read (P:=P) GL;have W:(Builtin.firstCells i.size len (.slice (some a) len l)).run P w.drew= .ok E.toArray w.drew:=by
       rcases A with A|A
       ·subst A;exact o1
       ·subst A;have:E=[]:=by have:=o2.length;simp at J;rw[J]at this;exact Rb.1 this.symm
        subst this;simp only[Builtin.firstCells,GH];rfl
      obtain⟨K,u,FN⟩:=Gy (ts:=c.argTypes) (ty:=o.type) (P:=P) (w:=w) (DR h3) (Fj h4) H hu2 hd2 h7 hzi s1 W t5 dJ Dz;have Rc:∀ ty,(Builtin.append_ c.argTypes ty #[.slice (some a) len l,x']).run P w=_:=fun ty=>FN;have a6:=o2.length;obtain⟨hk1,hk2⟩:=y.kill ⟨q,d⟩ h15
      obtain⟨O',M,R,S⟩:=OS (B8:=B8) (el:=el) (size:=i.size) (n:=len+n) (K:=K) (t:=PR el off (Z.typ b)) (ht:=fun x I=>(RZ I).1) (N7:=Builtin.zeroCells z.cells (K-(len+n))) hk1 (by rw[a0];exact Hc) o2 t6 o3 t3 u
       (by rw[dI K u,pN K u];omega)
      exact⟨_,.value _,_,O',G _ _ Rc,rfl,M,hk2.trans R,S⟩
     cases hs with
     | grow d hkk hm=>
       rename_i k' q;by_cases V:len+n<=k'
       ·rw[<- J]at h14;have a5:q.o+off+old.length+new.length<=q.m:=by
         have:(len+n)*i.size<=k'*i.size:=kh _ V;rw[UF]at this;omega
        obtain⟨M,R,S⟩:=y.grow (t:=PR el off (Z.typ b)) Hc d h14 h15 s6 s3 a5 (dH y d ⟨B,(AH hB).1⟩);refine⟨_,.value _,_,_,G _ _ fun ty=>Dg (DR h3) (Fj h4) H hu2 hd2 h7 s1 s5 V ?_,rfl,R,S,?_⟩
        ·simp only[addr_add,<- J];exact M P
        ·rw[a0];exact .grow (q:=⟨q.c,q.o+off,q.m⟩) (off:=0) (Place.R0 _ _ _) V (by show q.o+off+0+k'*i.size<=q.m;omega)
       ·exact fin _ _ _ d rfl (.inl rfl) om
     |Bu d=>exact fin _ _ _ d rfl (.inr rfl) F
     |I3 hsc=>simp[I3]at hsc
 ·cases k7
end
end
def US (Z:St) (b:Nat){B:Blk}(a:B.live=true):(⟨Z.h.set b B,Z.n⟩:St).blk b=some B:=OT (Tr.get_set_same _ _ _) a
def Fy (Z:St){b a:Nat}(B:Blk) (h:a≠b):(⟨Z.h.set b B,Z.n⟩:St).blk a=Z.blk a:=by
 show ob ((Z.h.set b B).get a) _=_;rw[Tr.M7 _ _ h];rfl
def Rel.set {B8:Env}{O:Place}{Z:St}{w w':World}(h:Rel B8 O Z w){b:Nat}{q:BU}{B m:Blk}(g:O b=some q) (j:Z.blk b=some B) (k:B.own=true) (F:m.live=true) (E:m.own=true)
  (y:∀ c,c≠q.c->w'.heap[c]? =w.heap[c]?) (C:w'.heap.size=w.heap.size) (G:Outside w w') (R:Fk B8 O w' q m) :
  Rel B8 O ⟨Z.h.set b m,Z.n⟩ w'/\Y6 O Z w O ⟨Z.h.set b m,Z.n⟩ w':=by
 refine⟨⟨?_,?_,?_,?_,?_,?_⟩,⟨?_,?_,?_,?_,?_,G,fun f _ A=>Tr.M7 _ _ (by intro o;subst o;rw[g]at A;cases A)⟩⟩
 ·intro f a;have:=h.lt j;change Z.n<=f at a;show(Z.h.set b _).get f=none;rw[Tr.M7 _ _ om];exact h.fresh f a
 ·intro f i B2 a e;by_cases d:f=b
  ·subst d;rw[g]at a;cases a;rw[US _ _ F]at e;cases e;exact R
  ·rw[Fy _ _ d]at e;exact(h.IQ f i B2 a e).mono (Place.le_refl _) (y i.c (h.sep b q B f i g j k d a (.inr ⟨B2,e⟩)))
 ·intro f i a;rw[C];exact h.dom f i a
 ·intro f i B2 a e s;by_cases d:f=b
  ·subst d;rw[g]at a;cases a;exact h.own f q B g j k
  ·rw[Fy _ _ d]at e;exact h.own f i B2 a e s
 ·intro p q1 B1 z N J D K L M l;have u:∃ B0,Z.blk p=some B0/\B0.own=true:=by
   by_cases d:p=b
   ·subst d;exact⟨B,j,k⟩
   ·rw[Fy _ _ d]at D;exact⟨B1,D,K⟩
  obtain⟨B0,H,I⟩:=u;refine h.sep p q1 B0 z N J H I L M ?_;rcases l with l|⟨B2,l⟩
  ·exact .inl l
  ·by_cases d:z=b
   ·subst d;exact .inr ⟨B,j⟩
   ·rw[Fy _ _ d]at l;exact .inr ⟨B2,l⟩
 ·exact h.low.next (by rw[C];exact Bh _) fun r S=>y r fun o=>by have:=h.own b q B g j k;omega
 ·intro _ _;rfl
 ·exact Bh _
 ·omega
 ·intro r _ v;refine y r fun o=>?_;rw[v b q B g o.symm j]at k;cases k
 ·intro f i B2 a e _;by_cases d:f=b
  ·subst d;rw[g]at a;cases a;exact⟨f,q,B,g,rfl,j,fun _=>k⟩
  ·rw[Fy _ _ d]at e;exact⟨f,i,B2,a,rfl,e,fun h=>h⟩
def Rel.Dt {B8:Env}{O:Place}{Z:St}{w w':World}(h:Rel B8 O Z w) (o:O Z.n=none){cs:List Value}{k:Kind}{c:Nat}
  (j:w.heap.size<=c) (f:c<w'.heap.size) (l:w.heap.size<=w'.heap.size) (d:∀ c,c<w.heap.size->w'.heap[c]? =w.heap[c]?) (p:Outside w w')
  (r:Fk B8 (O.put Z.n ⟨c,0,0⟩) w' ⟨c,0,0⟩ ⟨cs,true,true,0,k⟩) :
  Rel B8 (O.put Z.n ⟨c,0,0⟩) (Z.Dt cs k) w'/\Y6 O Z w (O.put Z.n ⟨c,0,0⟩) (Z.Dt cs k) w':=by
 refine⟨h.Ao0 o r l (fun c j _=>d c j) f (by have:=h.low.1;show B8.lo<=c;omega) (fun b m a _=>by have:=h.dom b m a;show m.c≠c;omega),⟨?_,?_,?_,?_,?_,p,fun b s _=>Tr.M7 _ _ om⟩⟩
 ·intro b a;refine Place.Ak _ _ ?_;rcases a with a|a
  ·omega
  ·change Z.n+1<=b at a;omega
 ·show Z.n<=Z.n+1;omega
 ·exact l
 ·intro c f _;exact d c f
 ·intro b q B a i g;by_cases e:b=Z.n
  ·subst e;rw[Place.R0]at a;cases a;change c<w.heap.size at g;omega
  ·rw[Place.Ak _ _ e]at a;rw[ED _ _ _ e]at i;exact⟨b,q,B,a,rfl,i,fun h=>h⟩
end Go.Ab
namespace Go.Ab
open Go Go.MapKept
section
variable {k:Value}
section
variable {P:Program}{O:Place}{fr:Fr}{e:Operand->Value}{o:Oper}{w:World}{v:Value}
def XX (a b:ByteArray):MN a.data.toList b.data.toList=(a==b):=by
 rw[TG];by_cases h:a=b
 ·subst h;rw[(bytes_beq a a).2 rfl];simp
 ·have c:(a==b)=false:=by
   cases d:(a==b)with
   |false=>rfl
   |true=>exact absurd ((bytes_beq a b).1 d) h
  rw[c];rw[Aa1];intro f;apply h;obtain⟨⟨x⟩⟩:=a;obtain⟨⟨y⟩⟩:=b;cases f;rfl
def Dw {d:Option TypeDesc}(h:Da d k=true):flat k=true/\I3 k=true/\∃ d',d=some d'/\IsKey d' k:=by
 unfold Da at h;split at h
 ·split at h
  ·exact⟨rfl,rfl,_,rfl,by simp[IsKey]⟩
  ·cases h
 ·split at h
  ·have:=XY h;subst this;exact⟨rfl,rfl,_,rfl,by simp[IsKey]⟩
  ·cases h
 ·cases h
def VY {d:TypeDesc}{y:Value}{s:Bool}(a:Da (some d) k=true) (h:Lj k y=some s):Instr.sameNow d k y=some s/\(s=true->y=k):=by
 unfold Da at a;split at a
 ·rename_i b;cases b;split at a
  ·rename_i p;unfold Lj at h;cases y with
   | string t=>
     cases h;refine⟨by simp only[Instr.sameNow];rw[XX],fun ht=>?_⟩;rw[XX]at ht;rw[(bytes_beq _ _).1 ht]
   |_=>cases h
  ·cases a
 ·rename_i i b;cases b;split at a
  ·rename_i j n;unfold Lj at h;cases y with
   | int l m=>
     obtain⟨f,g⟩:=H9 h;cases g;have c:=XY f;subst c;refine⟨by simp[Instr.sameNow,Ni],fun ht=>?_⟩;rw[Ni]at ht;rw[eq_of_beq ht]
   |_=>cases h
  ·cases a
 ·cases a
def aR {d:TypeDesc}(q:Da (some d) k=true):∀ {cells:List Value}{es:List MapEntry}{r:Option Value},Entries O cells es->QP k cells=some r->∀ i,
  (r=none->Instr.findNow d k es i=some none)/\∀ v,r=some v->∃ j v',Instr.findNow d k es i=some (some (j,v'))/\I0 O v v':=by
 intro cells es r g;induction g with
 | nil=>
   intro h i;cases h;exact⟨fun _=>rfl,fun v c=>by cases c⟩
 | @cons x y en l es hx he c g ih=>
   intro h i;obtain⟨s,p,f⟩:=A8 (show ob (Lj k x) _=some r from h);obtain⟨h3,h4⟩:=VY q p;rw[<- he]at h3;cases s with
   | true=>
     cases f;refine⟨fun b=>(nomatch b),fun v a=>?_⟩;cases a;exact⟨i,en.val,by simp[Instr.findNow,h3],c⟩
   | false=>
     obtain⟨m,n⟩:=ih f (i+1);refine⟨fun b=>by simp[Instr.findNow,h3,m b],fun v a=>?_⟩;obtain⟨j,v',k1,k2⟩:=n v a;exact⟨j,v',by simp[Instr.findNow,h3,k1],k2⟩
def aS {d:TypeDesc}{u m:Value}(g:Da (some d) k=true) (p:I0 O u m):∀ {cells Bf:List Value}{es:List MapEntry},Entries O cells es->Nj k u cells=some Bf->∀ i,
  (Instr.findNow d k es i=some none/\∀ born,Entries O Bf (es++[⟨k,m,born⟩])) \/
  ∃ j v' en,Instr.findNow d k es i=some (some (i+j,v'))/\es[j]? =some en/\en.key=k/\Entries O Bf (es.modify j fun en=>{ en with key:=k,val:=m }):=by
 intro cells Bf es f;induction f generalizing Bf with
 | nil=>
   intro h i;cases h;exact .inl ⟨rfl,fun born=> .cons (Dw g).1 rfl p .nil⟩
 | @cons x y en l es hx he hv f ih=>
   intro h i;obtain⟨s,A,n⟩:=A8 (show ob (Lj k x) _=some Bf from h);obtain⟨h3,h4⟩:=VY g A;rw[<- he]at h3;cases s with
   | true=>
     cases n;exact .inr ⟨0,en.val,en,by simp[Instr.findNow,h3],rfl,by rw[he];exact h4 rfl,.cons (Dw g).1 rfl p f⟩
   | false=>
     obtain⟨r,B,C⟩:=A8 (show ob (Nj k u l) _=some Bf from n);cases C;rcases ih B (i+1)with⟨b,c⟩|⟨j,v',a,b,c,q,z⟩
     ·exact .inl ⟨by simp[Instr.findNow,h3,b],fun born=> .cons hx he hv (c born)⟩
     ·exact .inr ⟨j+1,v',a,by simp[Instr.findNow,h3,b];omega,by simpa using c,q,by simpa using Entries.cons hx he hv z⟩
def jQ {v v':Value}{a:Option Nat}(h:I0 O v v') (d:zt v=some a):(a=none/\v'= .map none)\/∃ b q,a=some b/\O b=some q/\v'= .map (some q.c):=by
 unfold zt at d;split at d
 ·cases d;cases h with
  | I3 hs=>
    cases a with
    |none=>exact .inl ⟨rfl,rfl⟩
    |some b=>simp[I3]at hs
  |map f=>exact .inr ⟨_,_,rfl,f,rfl⟩
 ·cases d
def Qn {t a el:TypeId}(h:JV P t=some (a,el)):P.underlying t=some (.map a el):=by
 unfold JV at h;split at h
 ·cases h;assumption
 ·cases h
def Fh {d:TypeDesc}{b:TypeId}(c:P.underlying b=some d) (f:IsKey d k) (a:Bool):(Instr.checkKey a 10000 b k).run P w= .ok () w:=run_checkKey c f a 9999
def Ao {d:TypeDesc}{a:TypeId}{es:List MapEntry}{r:Option (Nat×Value)}(b:P.underlying a=some d) (h:Instr.findNow d k es 0=some r):(Instr.findKey a k es).run P w= .ok r w:=by
 simp only[Instr.findKey,Sem.run_bind,G5 b,Result.andThen_ok,h,Sem.run_pure]
def XN {B8:Env}{Z Z':St}{t:TypeId}{x G:Operand}{ok:Bool}(l:o.op= .lookup t x G ok) (H:K5 O fr e o.op.operands.toList) (E:Rel B8 O Z w)
  (h:Gj P fr Z t x G ok=some (v,Z')):LQ P B8 O e o Z w Z' v:=by
 obtain⟨⟨X,el⟩,S,I⟩:=A8 h;obtain⟨m,h2,k2⟩:=A8 (show ob (ev fr x) _=some (v,Z')from I);obtain⟨a,h3,k3⟩:=A8 k2;obtain⟨k,h4,k4⟩:=A8 k3;obtain⟨h5,k5⟩:=H9 k4;obtain⟨cs,h6,k6⟩:=A8 k5;obtain⟨r,h7,k7⟩:=A8 k6;obtain⟨⟨u,b⟩,h8,k8⟩:=A8 k7;clear h I k2 k3 k4 k5 k6 k7;cases k8;obtain⟨hf,hs,d,hd,hik⟩:=Dw h5;rw[hd]at h5;have p:=Qn S;have W:=H x m (by simp[l,Op.operands]) h2;have F:=H G k (by simp[l,Op.operands]) h4;have s:=F.flat hf;have K:∀ es:List MapEntry,Entries O cs es->∃ f,Instr.findNow d k es 0=some f/\∃ c,I0 O u c/\((f=none/\b=false/\(zeroValue el).run P w= .ok c w)\/(b=true/\∃ j,f=some (j,c))):=by
  intro es U;obtain⟨L,M⟩:=aR h5 U h7 0;cases r with
  | none=>
    obtain⟨z,y,i⟩:=A8 (show ob (Bn P el) _=some (u,b)from h8);cases i;exact⟨none,L rfl,u,(ER y w).2.1,.inl ⟨rfl,rfl,(ER (O:=O) y w).1⟩⟩
  | some v0=>
    cases h8;obtain⟨j,v',N,R⟩:=M _ rfl;exact⟨_,N,v',R,.inr ⟨rfl,j,rfl⟩⟩
 have fin:∀ c,I0 O u c->I0 O (bi ok (.tuple ⟨[u,.bool b]⟩) u) (if ok then .tuple #[c,.bool b]else c):=by
  intro c n;cases ok with
  |true=>exact .tuple (.cons n (.cons (.I3 rfl) .nil))
  |false=>exact n
 rcases jQ W h3 with⟨rfl,g⟩|⟨J,q,rfl,V,g⟩
 ·cases h6;obtain⟨f,f1,c,A,C⟩:=K [] .nil;refine⟨w,.value (if ok then .tuple #[c,.bool b]else c),_,O,?_,rfl,E,.refl _ _ _,fin c A⟩;rcases C with⟨rfl,rfl,D⟩|⟨rfl,j,rfl⟩
  ·simp only[execOp,l,g,s,Instr.lookup,Sem.run_bind,G5 p,Result.andThen_ok,Sem.run_pure,Fh hd hik,Ao hd f1,D]
  ·simp only[execOp,l,g,s,Instr.lookup,Sem.run_bind,G5 p,Result.andThen_ok,Sem.run_pure,Fh hd hik,Ao hd f1]
 ·obtain⟨B,y,i⟩:=A8 (show ob (Z.UG J) _=some cs from h6);cases i;obtain⟨es,clock,h11,h12⟩:=E.map J q B V y;obtain⟨f,f1,c,A,C⟩:=K es.toList h12;refine⟨w,.value (if ok then .tuple #[c,.bool b]else c),_,O,?_,rfl,E,.refl _ _ _,fin c A⟩;rcases C with⟨rfl,rfl,D⟩|⟨rfl,j,rfl⟩
  ·simp only[execOp,l,g,s,Instr.lookup,Sem.run_bind,G5 p,Result.andThen_ok,Sem.run_pure,run_getObj_map h11,Fh hd hik,Ao hd f1,D]
  ·simp only[execOp,l,g,s,Instr.lookup,Sem.run_bind,G5 p,Result.andThen_ok,Sem.run_pure,run_getObj_map h11,Fh hd hik,Ao hd f1]
def Se {Z Z':St}{b:Nat}{cs:List Value}(h:Z.AY1 b cs=some Z'):∃ B,Z.UG b=some B/\B.own=true/\Z'=⟨Z.h.set b ⟨cs,true,true,B.ver+1,.map⟩,Z.n⟩:=by
 obtain⟨B,a,c⟩:=A8 h;obtain⟨h3,h4⟩:=H9 c;cases h4;exact⟨B,a,h3,rfl⟩
def JX {B8:Env}{Z Z':St}{t:TypeId}{m k x:Operand}(g:o.op= .mapUpdate t m k x\/o.op= .insert t m k x) (E:K5 O fr e o.op.operands.toList) (D:Rel B8 O Z w)
  (h:Bm P fr Z t m k x=some (v,Z')):LQ P B8 O e o Z w Z' v:=by
 obtain⟨⟨kt,el⟩,R,K⟩:=A8 h;obtain⟨mv,h2,k2⟩:=A8 (show ob (ev fr m) _=some (v,Z')from K);obtain⟨a,h3,k3⟩:=A8 k2;obtain⟨mb,h4,k4⟩:=A8 k3;subst h4;obtain⟨kv,h5,k5⟩:=A8 k4;obtain⟨h6,k6⟩:=H9 k5;obtain⟨u,h7,k7⟩:=A8 k6;obtain⟨B,h8,k8⟩:=A8 k7;obtain⟨cs,h9,k9⟩:=A8 k8;obtain⟨Z1,h10,k10⟩:=A8 k9;clear h K k2 k3 k4 k5 k6 k7 k8 k9;cases k10;obtain⟨B',h11,h12,rfl⟩:=Se h10;rw[h8]at h11;cases h11;obtain⟨hf,hs,d,hd,hik⟩:=Dw h6;rw[hd]at h6;have H:=Qn R;have V:I0 O mv (e m):=E m mv (by rcases g with g|g<;>simp[g,Op.operands]) h2;have F:I0 O kv (e k):=E k kv (by rcases g with g|g<;>simp[g,Op.operands]) h5;have W:I0 O u (e x):=E x u (by rcases g with g|g<;>simp[g,Op.operands]) h7;have I:=F.flat hf;rcases jQ V h3 with⟨p,_⟩|⟨Y,q,p,G,r⟩
 ·cases p
 ·cases p;obtain⟨es,f,i,A⟩:=D.map mb q B G h8
  have L:∀ (b:Array MapEntry) (l:Nat),Entries O cs b.toList->Rel B8 O ⟨Z.h.set mb ⟨cs,true,true,B.ver+1,.map⟩,Z.n⟩ { w with heap:=w.heap.setIfInBounds q.c (.map b l) } /\
    Y6 O Z w O ⟨Z.h.set mb ⟨cs,true,true,B.ver+1,.map⟩,Z.n⟩ { w with heap:=w.heap.setIfInBounds q.c (.map b l) }:=by
   intro b l C;refine D.set G (Rg h8).1 h12 rfl rfl (fun c S=>Array.getElem?_setIfInBounds_ne (fun U=>S U.symm)) (by simp) ⟨rfl,rfl,rfl⟩ (.map rfl ⟨b,l,?_,C⟩);have:=D.dom mb q G;simp[this]
  have s:∃ b l,Entries O cs b.toList/\(Instr.mapUpdate t (e m) (e k) (e x)).run P w= .ok () { w with heap:=w.heap.setIfInBounds q.c (.map b l) }:=by
   rcases aS h6 W A h9 0 with⟨y,z⟩|⟨j,v',J,y,z,M,N⟩
   ·refine⟨es.push ⟨kv,e x,f⟩,f+1,by simpa using z f,?_⟩;simp only[r,I,Instr.mapUpdate,Sem.run_bind,G5 H,Result.andThen_ok,run_getObj_map i,Fh hd hik,Ao hd y,run_setObj_map _ i]
   ·refine⟨es.modify j fun J=>{ J with key:=kv,val:=e x },f,by simpa using N,?_⟩;have X:((es[j]?).map (·.key)).getD kv=kv:=by
     rw[<- Array.getElem?_toList,z];exact M
    have tE:(Instr.keyThatStays kv kv).run P w= .ok kv w:=by
     unfold Instr.keyThatStays;have:Instr.sameBits 10000 kv kv=true:=by
      cases d with
      |string=>cases kv<;>simp_all[IsKey];simp[Instr.sameBits,(bytes_beq _ _).2 rfl]
      |int=>cases kv<;>simp_all[IsKey];simp[Instr.sameBits]
      |bool=>cases kv<;>simp_all[IsKey];simp[Instr.sameBits]
      |_=>cases kv<;>simp[IsKey]at hik
     rw[this];rfl
    simp only[GK]at y;simp only[r,I,Instr.mapUpdate,Sem.run_bind,G5 H,Result.andThen_ok,run_getObj_map i,Fh hd hik,Ao hd y,X,tE,run_setObj_map _ i]
  obtain⟨b,l,C,s⟩:=s;obtain⟨r1,r2⟩:=L b l C;refine⟨_,.skip,undef,O,?_,rfl,r1,r2,.tuple .nil⟩;rcases g with g|g
  ·simp only[execOp,g,Sem.run_bind,s,Result.andThen_ok];rfl
  ·simp only[execOp,g,Sem.run_bind,s,Result.andThen_ok];rfl
def UO {B8:Env}{Z Z':St}{t:TypeId}{r:Option Operand}{N:Nat}(j:o.op= .makeMap t r) (g:Rel B8 O Z w) (d:Co O Z.n N) (f:Z'.n<=N)
  (h:Fv fr Z r=some (v,Z')):LQ P B8 O e o Z w Z' v:=by
 obtain⟨a,b⟩:=H9 h;cases b;cases r with
 |some=>cases a
 | none=>
   have i:O Z.n=none:=d Z.n nL (z5z (Jt _) f)
   obtain⟨r1,l⟩:=g.Dt (w':={ w with heap:=w.heap.push (.map #[] 0) }) (cs:=[]) (k:= .map) (c:=w.heap.size) i nL (by simp) (by simp) (fun c m=>by
    show(w.heap.push _)[c]? =_;rw[Array.getElem?_push,z0z om]) ⟨rfl,rfl,rfl⟩ (.map rfl ⟨#[],0,by simp,.nil⟩)
   refine⟨_,.value (.map (some w.heap.size)),_,_,?_,rfl,r1,l,.map (q:=⟨w.heap.size,0,0⟩) (Place.R0 _ _ _)⟩;simp only[execOp,j,Uy,Instr.makeMap,Sem.run_bind,Sem.run_pure,run_newObj,Result.andThen_ok]
end
end
end Go.Ab
