/- The reference's checks of a tender's lists: right ones are found right. -/
import Derived.Test.YtbcanmagihejhaaGreatDoorRB
import Derived.Test.YtbcanmagihejhaaGreatDoorPA
import Derived.Test.YtbcanmagihejhaaGreatDoorAbD
import Derived.Test.YtbcanmagihejhaaGreatDoorTA
import Derived.Test.YtbcanmagihejhaaGreatDoorProg
import Derived.KernelRfl
set_option linter.unusedSimpArgs false
set_option linter.unusedVariables false
namespace Go.Proofs.T
open Go Go.Ab
set_option maxRecDepth 100000
structure Parts (Z:St) (ca:List Value) (T:Tn) (vl vc vr:Value) (ex:List Value) (vt vk:Value):Prop where
 all:sub ca 0 20=some ca
 p0:sub ca 0 1=some [str T.name]
 p1:sub ca 1 1=some [vl]
 p2:sub ca 2 1=some [vc]
 p3:sub ca 3 1=some [vr]
 p4:sub ca 4 1=some [.int .i64 T.low]
 p5:sub ca 5 1=some [.int .i64 T.high]
 p6:sub ca 6 5=some ex
 p11:sub ca 11 1=some [vt]
 p12:sub ca 12 1=some [.int .i64 T.most]
 p13:sub ca 13 1=some [vk]
 p14:sub ca 14 1=some [.int .i64 T.budget]
 p15:sub ca 15 5=some [.int .i64 T.t.q,.int .i64 T.t.b,.int .i64 T.t.g,.int .i64 T.t.p,.int .i64 T.t.s]
 q15:sub ca 15 1=some [.int .i64 T.t.q]
 q16:sub ca 16 1=some [.int .i64 T.t.b]
 q17:sub ca 17 1=some [.int .i64 T.t.g]
 q18:sub ca 18 1=some [.int .i64 T.t.p]
 q19:sub ca 19 1=some [.int .i64 T.t.s]
theorem TnAt.parts {Z:St}{ca:List Value}{T:Tn}(h:TnAt Z ca T):∃ vl vc vr ex vt vk,Parts Z ca T vl vc vr ex vt vk/\Lots Z vl T.lots/\Crits Z vc T.crits/\Reqs Z vr T.reqs/\ExAt Z ex T.f/\Strs Z vt T.ties/\Combos Z vk T.combos:=by
 obtain ⟨vl,vc,vr,ex,vt,vk,rfl,h2,h3,h4,h5,h6,h7⟩:=h
 have hx:=h5.len
 match ex,hx with
 | [x0,x1,x2,x3,x4],_ =>
 exact ⟨vl,vc,vr,_,vt,vk,⟨rfl,rfl,rfl,rfl,rfl,rfl,rfl,rfl,rfl,rfl,rfl,rfl,rfl,rfl,rfl,rfl,rfl,rfl⟩,h2,h3,h4,h5,h6,h7⟩
end Go.Proofs.T
namespace Go.Proofs.T
open Go Go.Ab
set_option maxRecDepth 100000
def gl (l:Lot):By:=lineP (.lot l.id.toNat l.most.toNat)
def gc (c:Crit):By:=lineP (.crit c.name c.kind.toNat c.low.toNat c.high.toNat c.less)
def gr (r:Req):By:=lineP (.req r.name r.rel r.value.toNat)
def gk (c:List Int):By:=lineP (.combo (c.map Int.toNat))
def nl (l:By):By:=l++[10]
def B0 (T:Tn):By:=nl (lineP (.tender T.name))
def B1 (T:Tn):By:=B0 T++under (T.lots.map gl)
def B2 (T:Tn):By:=B1 T++under (T.crits.map gc)
def B3 (T:Tn):By:=B2 T++under (T.reqs.map gr)
def B4 (T:Tn):By:=B3 T++(nl (lineP (.price T.low.toNat T.high.toNat))++nl (lineP (.fml T.f)))
def B5 (T:Tn):By:=B4 T++(if T.ties=[] then [] else nl (lineP (.tie T.ties)))
def B6 (T:Tn):By:=B5 T++(if T.most=0 then [] else nl (lineP (.most T.most.toNat)))
def B7 (T:Tn):By:=B6 T++under (T.combos.map gk)
def blk (ws:List By):By:=(ws.map fun x=>32::x).flatten
def SmN (n:Int):Prop:=0<=n/\n<1000000000
structure Tn.Sm (T:Tn):Prop where
 lot:∀ l∈T.lots,SmN l.id/\SmN l.most
 crit:∀ c∈T.crits,(c.kind=1\/c.kind=2)/\SmN c.low/\SmN c.high
 req:∀ r∈T.reqs,SmN r.value
 combo:∀ l∈T.combos,∀ n∈l,SmN n
 low:SmN T.low
 high:SmN T.high
 most:SmN T.most
 budget:SmN T.budget
 tim:SmN T.t.q/\SmN T.t.b/\SmN T.t.g/\SmN T.t.p/\SmN T.t.s
end Go.Proofs.T
namespace Go.Proofs.T
open Go Go.Ab
set_option maxRecDepth 100000
end Go.Proofs.T
namespace Go.Proofs.T
open Go Go.Ab
section
variable {fr:Fr} {Z:St} {x ix a v:Operand} {ve:Value}
theorem ld75:LDn 75 2:=by unfold LDn;intros;kernel_rfl
theorem st75:STn 75 2:=by unfold STn;intros;kernel_rfl
theorem ze75:zero? Tryz.prog 75=some (.agg ⟨[.slice none 0 0,.int .i64 0]⟩):=by kernel_rfl
theorem bv75 {z:List Value}{ps:List (Nat×Value)}:buildV Tryz.prog 75 z ps=ob (fillL (fun i=>[(0,1),(1,1)][i]?) ps z) fun l=>some (.agg ⟨l⟩):=by kernel_rfl
theorem fa75_0:FAo 75 0:=by unfold FAo;intros;kernel_rfl
theorem fi75_0:FIo 75 0 0:=by unfold FIo;intros;kernel_rfl
theorem fa75_1:FAn 75 1 1:=by unfold FAn;intros;kernel_rfl
theorem fi75_1:FIo 75 1 1:=by unfold FIo;intros;kernel_rfl
end
end Go.Proofs.T
namespace Go.Proofs.T
open Go Go.Ab
open Nat (reduceMul reduceEqDiff reduceAdd)
set_option maxRecDepth 100000
def ArgInts (Z:St) (v:Value) (l:List Int):Prop:=Ints Z v l/\∀ n∈l,In64 n
theorem mod1_ok {Z:St}{n m:Int}(h1:In64 n) (h3:0<m) (h4:m<=4294967296) :
  Ev (go Tryz.prog HS (.fn 35) [.int .i64 n,.int .i64 m] Z) (fun r=>r=⟨false,.int .i64 (n % m),Z⟩) ⟨⟩:=by
 obtain ⟨h1,h2⟩:=h1
 have hm0:m≠0:=om
 have a1:=Int.tmod_lt_of_pos n h3
 have a2: -m<n.tmod m:=by
  have:=Int.lt_tmod_of_pos n h3
  omega
 have e:(n.tmod m+m).tmod m=n % m:=by
  rw [Int.tmod_eq_emod_of_nonneg om,Int.add_emod_right]
  rw [Int.tmod_def]
  exact Int.sub_mul_emod_self_left _ _ _
 refine ev_go Tryz.func35 rfl rfl ?_
 refine gS1 (aI @Tryz.results35 @e) ?_;try exact ⟨⟩
structure MkAt (Z:St) (q:Nat) (v:Value) (l:List Int) (k:Nat):Prop where
 row:Z.orow q=some [v,.int .i64 (k:Nat)]
 lt:q<Z.n
 le:k<=l.length
theorem next_ok {Z:St}{q k:Nat}{v:Value}{l:List Int}{n:Int}(H:List Nat) (hH:q∈H) (hm:MkAt Z q v l k) (hl:ArgInts (hide Z H) v l) (hll:l.length<=9223372036854775807) (h1:0<n) (h2:n<=100000) :
  Ev (go Tryz.prog HS (.fn 33) [.pointer (some ⟨q,0,none⟩),.int .i64 n] Z) (fun r=>∃ x k' Z',r=⟨false,.int .i64 x,Z'⟩/\0<=x/\x<n/\MkAt Z' q v l k'/\ExtX q Z Z') ⟨⟩:=by
 obtain ⟨a,c,b,off,cells,rfl,l1,l2⟩:=hl.1.use
 have ro:=hm.row
 have rr:=row_of ro
 have hk:=hm.le
 refine ev_go Tryz.func33 rfl rfl ?_
 by_cases hlt:k<l.length
 ·have c1:decide (k<l.length)=true:=decide_eq_true hlt
  obtain ⟨y,hy⟩:=at_some hlt
  obtain ⟨sp,rfl,l3,l4⟩:=l1 om
  have hbq:b∉H:=fun hb=>by rw [hide_mem hb] at l4;cases l4
  have hne:b≠q:=fun h=>hbq (h ▸ hH)
  rw [hide_row hbq] at l4
  rw [hide_n] at l3
  have s1:=l2 k y hy
  have e1:(((k+1:Nat):Int)-1)=(k:Int):=om
  simp (maxSteps:=8000000) (disch:=first|exact dS|fail) only [↓bD,bW,reduceMul,reduceEqDiff,reduceAdd,Nat.reduceBEq,reduceIte,Option.isNone_none,↓ld75,↓st75,↓fa75_0,↓fi75_0,↓fa75_1,↓fi75_1,rr,ro,c1,l4,s1,e1,nn_ptr]
  have hn64:=hl.2 y (List.mem_of_getElem? hy)
  refine (mod1_ok hn64 h1 om).mono ?_
  rintro r rfl
  simp (maxSteps:=8000000) (disch:=first|exact dS|fail) only [↓bD,bW,reduceMul,reduceEqDiff,reduceAdd,Nat.reduceBEq,reduceIte,Option.isNone_none,↓ld75,↓st75,↓fa75_0,↓fi75_0,↓fa75_1,↓fi75_1,asx (Ext.refl _),Tryz.results33]
  try refine Must.intro (by (repeat first|simp (disch:=omega) only [as_read,as_upd,as_newb,asx (Ext.refl _)]|rw [as_ord (by kernel_rfl)]);first|done|rfl) ?_
  try simp (maxSteps:=8000000) (disch:=first|exact dS|fail) only [↓bD,bW,reduceMul,reduceEqDiff,reduceAdd,Nat.reduceBEq,reduceIte,Option.isNone_none,↓ld75,↓st75,↓fa75_0,↓fi75_0,↓fa75_1,↓fi75_1,Tryz.results33]
  exact ⟨_,k+1,_,rfl,Int.emod_nonneg _ om,Int.emod_lt_of_pos _ h1,⟨cL,hm.lt,om⟩,ExtX.refl.upd _⟩
 ·have c1:decide (k<l.length)=false:=decide_eq_false hlt
  simp (maxSteps:=8000000) (disch:=first|exact dS|fail) only [↓bD,bW,reduceMul,reduceEqDiff,reduceAdd,Nat.reduceBEq,reduceIte,Option.isNone_none,↓ld75,↓st75,↓fa75_0,↓fi75_0,↓fa75_1,↓fi75_1,rr,c1,nn_ptr,Tryz.results33]
  exact ⟨0,k,_,rfl,om,h1,hm,.refl⟩
theorem ExtX.keepH {q:Nat}{Z Z':St}{H:List Nat}(h:ExtX q Z Z') (hq:q∈H):Keep (hide Z H) (hide Z' H):=keep_hide h.n fun c hc hm=>⟨hm,h.row hc fun e=>hm (e ▸ hq)⟩
theorem ArgInts.keep {Z Z':St}{v:Value}{l:List Int}(h:ArgInts Z v l) (hE:Keep Z Z'):ArgInts Z' v l:=⟨SL.keep h.1 hE,h.2⟩
structure MS (H:List Nat) (q:Nat) (v:Value) (l:List Int) (Z:St):Prop where
 mem:q∈H
 mker:∃ k,MkAt Z q v l k
 arg:ArgInts (hide Z H) v l
 len:l.length<=9223372036854775807
theorem MS.ext {H:List Nat}{q:Nat}{v:Value}{l:List Int}{Z Z':St}(h:MS H q v l Z) (hE:Ext Z Z'):MS H q v l Z':=by
 obtain ⟨m,⟨k,h1,h2,h3⟩,h4,h5⟩:=h
 exact ⟨m,⟨k,by rw [hE.orow h2];exact h1,Nat.lt_of_lt_of_le h2 hE.n,h3⟩,h4.keep (keep_ext hE),h5⟩
theorem MS.lt {H:List Nat}{q:Nat}{v:Value}{l:List Int}{Z:St}(h:MS H q v l Z):q<Z.n:=by
 obtain ⟨k,hk⟩:=h.mker
 exact hk.lt
theorem nx_ok {H:List Nat}{q:Nat}{v:Value}{l:List Int}{Z:St}{n:Int}(h:MS H q v l Z) (h1:0<n) (h2:n<=100000) :
  Ev (go Tryz.prog HS (.fn 33) [.pointer (some ⟨q,0,none⟩),.int .i64 n] Z) (fun r=>∃ (x:Nat) (Z':St),r=⟨false,.int .i64 (x:Nat),Z'⟩/\(x:Int)<n/\MS H q v l Z'/\ExtX q Z Z') ⟨⟩:=by
 obtain ⟨k,hk⟩:=h.mker
 refine (next_ok H h.mem hk h.arg h.len h1 h2).mono ?_
 rintro r ⟨x,k',Z',rfl,x0,x1,hm,hE⟩
 obtain ⟨X,rfl⟩:=Int.eq_ofNat_of_zero_le x0
 exact ⟨X,Z',rfl,x1,⟨h.mem,⟨k',hm⟩,h.arg.keep (hE.keepH h.mem),h.len⟩,hE⟩
end Go.Proofs.T
