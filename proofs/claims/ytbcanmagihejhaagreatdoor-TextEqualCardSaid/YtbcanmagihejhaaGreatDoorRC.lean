/- The J4 Wf of a zV lists: right xC are found right. -/
import Derived.Test.YtbcanmagihejhaaGreatDoorRB
import Derived.Test.YtbcanmagihejhaaGreatDoorPA
import Derived.Test.YtbcanmagihejhaaGreatDoorAbD
import Derived.Test.YtbcanmagihejhaaGreatDoorTA
import Derived.Test.YtbcanmagihejhaaGreatDoorProg
import Derived.KernelRfl
set_option linter.unusedSimpArgs false
set_option linter.unusedVariables false
set_option maxHeartbeats 32000000
set_option maxRecDepth 100000
namespace Go.Proofs.T
open Go Go.Ab
structure Cu (Z:St) (ca:List Value) (T:Tn) (vl vc vr:Value) (ex:List Value) (vt vk:Value):Prop where
 all:sub ca 0 20=some ca
 p0:sub ca 0 1=some [str T.name]
 p1:sub ca 1 1=some [vl]
 p2:sub ca 2 1=some [vc]
 p3:sub ca 3 1=some [vr]
 p4:sub ca 4 1=some [.int .i64 T.low]
 p5:sub ca 5 1=some [.int .i64 T.high]
 p6:sub ca 6 5=some ex
 p11:sub ca 11 1=some [vt]
 p12:sub ca 12 1=some [.int .i64 T.D5]
 p13:sub ca 13 1=some [vk]
 p14:sub ca 14 1=some [.int .i64 T.C1]
 p15:sub ca 15 5=some [.int .i64 T.t.q,.int .i64 T.t.b,.int .i64 T.t.g,.int .i64 T.t.p,.int .i64 T.t.s]
 q15:sub ca 15 1=some [.int .i64 T.t.q]
 q16:sub ca 16 1=some [.int .i64 T.t.b]
 q17:sub ca 17 1=some [.int .i64 T.t.g]
 q18:sub ca 18 1=some [.int .i64 T.t.p]
 q19:sub ca 19 1=some [.int .i64 T.t.s]
theorem Ar.parts {Z:St}{ca:List Value}{T:Tn}(h:Ar Z ca T):∃ vl vc vr ex vt vk,Cu Z ca T vl vc vr ex vt vk/\Sf Z vl T.D2/\LG Z vc T.C7/\Sg Z vr T.reqs/\Ah Z ex T.f/\Dh Z vt T.E9/\IT Z vk T.C3:=by
 obtain ⟨vl,vc,vr,ex,vt,vk,rfl,h2,h3,h4,h5,h6,h7⟩:=h;have hx:=h5.len
 match ex,hx with
 | [x0,x1,x2,x3,x4],_ =>
 exact ⟨vl,vc,vr,_,vt,vk,⟨rfl,rfl,rfl,rfl,rfl,rfl,rfl,rfl,rfl,rfl,rfl,rfl,rfl,rfl,rfl,rfl,rfl,rfl⟩,h2,h3,h4,h5,h6,h7⟩
def gl (l:Lot):By:=W6 (.lot l.id.toNat l.D5.toNat)
def gc (c:R0):By:=W6 (.Bi c.name c.kind.toNat c.low.toNat c.high.toNat c.less)
def gr (r:Req):By:=W6 (.req r.name r.rel r.value.toNat)
def gk (c:List Int):By:=W6 (.combo (c.map Int.toNat))
def nl (l:By):By:=l++[10]
def B0 (T:Tn):By:=nl (W6 (.AY T.name))
def B1 (T:Tn):By:=B0 T++under (T.D2.map gl)
def B2 (T:Tn):By:=B1 T++under (T.C7.map gc)
def B3 (T:Tn):By:=B2 T++under (T.reqs.map gr)
def B4 (T:Tn):By:=B3 T++(nl (W6 (.BT T.low.toNat T.high.toNat))++nl (W6 (.fml T.f)))
def B5 (T:Tn):By:=B4 T++(if T.E9=[] then [] else nl (W6 (.tie T.E9)))
def B6 (T:Tn):By:=B5 T++(if T.D5=0 then [] else nl (W6 (.D5 T.D5.toNat)))
def B7 (T:Tn):By:=B6 T++under (T.C3.map gk)
theorem GJ {α:Type}{l:List α}{g:α->By}{k:Nat}{x:α}(h:l[k]? =some x):under ((l.take (k+1)).map g)=under ((l.take k).map g)++(g x++[10]):=by
 rw [List.take_add_one,h];unfold under;simp
theorem Ba {α:Type}{l:List α}{g:α->By}:under ((l.take 0).map g)=[]:=rfl
theorem Bb {α:Type}{l:List α}{g:α->By}:under ((l.take l.length).map g)=under (l.map g):=by rw [List.take_length]
def blk (ws:List By):By:=(ws.map fun x=>32::x).flatten
theorem NL:∀ (ws:List By) (w:By),spJ (w::ws)=w++blk ws:=by
 intro ws;induction ws with
 | nil=>intro w;simp [spJ,blk]
 | cons v ws ih =>
   intro w;show w++32::spJ (v::ws)=_;rw [ih];simp [blk]
theorem Yp {T:Tn}:Ae T=B7 T++(nl (W6 (.C1 T.C1.toNat))++nl (W6 (.times T.t.q.toNat T.t.b.toNat T.t.g.toNat T.t.p.toNat T.t.s.toNat))):=by
 have e:∀ (p:Prop) [Decidable p] (m:LM),under ((if p then [] else [m]).map W6)=if p then [] else nl (W6 m):=fun p _ m=>by split <;> simp [under,nl]
 have ua:∀ a b:List By,under (a++b)=under a++under b:=fun a b=>by unfold under;simp
 have uc:∀ (a:By) (b:List By),under (a::b)=nl a++under b:=fun a b=>by unfold under nl;simp
 have un:under []=[]:=rfl;unfold Ae FQ B7 B6 B5 B4 B3 B2 B1 B0;simp only [List.map_cons,List.map_append,List.map_map,List.map_nil,ua,uc,un,e,List.append_assoc,List.append_nil];rfl
theorem Bv {n:Int}(h:0<=n/\n<1000000000):(dcN n.toNat).length<=9:=fW om
theorem NK {s:By}(h:Y0 s=true):s.length<=30:=by
 unfold Y0 at h;rw [Bool.and_eq_true] at h;exact Fk h.1
def ZW:By:=[116,105,101]
theorem FA {P:Program}{H:CZ}{rd:Option Nat}{a b:Code}{fr:Fr}{Z:St}{Q:Res->Prop}{u:Hd Q}(J:Fr->St->Prop) (h:Ev (lim P H rd a fr Z) (fun r=>∃ fr' Z',r=⟨.normal,fr',Z'⟩/\J fr' Z') ⟨⟩)
  (k:∀ fr' Z',J fr' Z'->Ev (lim P H rd b fr' Z') Q ⟨⟩):Ev (lim P H rd (.seq a b) fr Z) Q u:=by
 rw [Ci];refine h.mono ?_;rintro r ⟨fr',Z',rfl,hJ⟩;rw [W4];exact k fr' Z' hJ
def SmN (n:Int):Prop:=0<=n/\n<1000000000
structure Tn.Sm (T:Tn):Prop where
 lot:∀ l∈T.D2,SmN l.id/\SmN l.D5
 Bi:∀ c∈T.C7,(c.kind=1\/c.kind=2)/\SmN c.low/\SmN c.high
 req:∀ r∈T.reqs,SmN r.value
 combo:∀ l∈T.C3,∀ n∈l,SmN n
 low:SmN T.low
 high:SmN T.high
 D5:SmN T.D5
 C1:SmN T.C1
 tim:SmN T.t.q/\SmN T.t.b/\SmN T.t.g/\SmN T.t.p/\SmN T.t.s

section
variable {fr:Fr} {Z:St} {x ix a v:Operand} {ve:Value}
theorem lM:LDn 75 2:=by unfold LDn;intros;kernel_rfl
theorem lN:STn 75 2:=by unfold STn;intros;kernel_rfl
theorem AH0:y7 Tryz.prog 75=some (.agg ⟨[.slice none 0 0,.int .i64 0]⟩):=by kernel_rfl
theorem AH1 {z:List Value}{ps:List (Nat×Value)}:Av Tryz.prog 75 z ps=ob (As (fun i=>[(0,1),(1,1)][i]?) ps z) fun l=>some (.agg ⟨l⟩):=by kernel_rfl
theorem RN:FAo 75 0:=by unfold FAo;intros;kernel_rfl
theorem RO:FIo 75 0 0:=by unfold FIo;intros;kernel_rfl
theorem RP:FAn 75 1 1:=by unfold FAn;intros;kernel_rfl
theorem RR:FIo 75 1 1:=by unfold FIo;intros;kernel_rfl
end
end Go.Proofs.T
namespace Go.Proofs.T
open Go Go.Ab
open Nat (reduceMul reduceEqDiff reduceAdd)
def Y8 (Z:St) (v:Value) (l:List Int):Prop:=Ca Z v l/\∀ n∈l,u7 n
theorem Y9 {Z:St}{n m:Int}(h1:u7 n) (h3:0<m) (h4:m<=4294967296) :
  Ev (go Tryz.prog HS (.fn 35) [.int .i64 n,.int .i64 m] Z) (fun r=>r=⟨false,.int .i64 (n % m),Z⟩) ⟨⟩:=by
 obtain ⟨h1,h2⟩:=h1;have hm0:m≠0:=om;have a1:=Int.tmod_lt_of_pos n h3;have a2: -m<n.tmod m:=by
  have:=Int.lt_tmod_of_pos n h3;omega
 have e:(n.tmod m+m).tmod m=n % m:=by
  rw [Int.tmod_eq_emod_of_nonneg om,Int.add_emod_right];rw [Int.tmod_def];exact Int.sub_mul_emod_self_left _ _ _
 refine D7 Tryz.func35 rfl rfl ?_;refine gS1 (aI @Tryz.results35 @e) ?_;try exact ⟨⟩
structure uj (Z:St) (q:Nat) (v:Value) (l:List Int) (k:Nat):Prop where
 row:Z.A5 q=some [v,.int .i64 (k:Nat)]
 lt:q<Z.n
 le:k<=l.length
theorem oo {Z:St}{q k:Nat}{v:Value}{l:List Int}{n:Int}(H:List Nat) (hH:q∈H) (hm:uj Z q v l k) (hl:Y8 (H6 Z H) v l) (hll:l.length<=9223372036854775807) (h1:0<n) (h2:n<=100000) :
  Ev (go Tryz.prog HS (.fn 33) [.pointer (some ⟨q,0,none⟩),.int .i64 n] Z) (fun r=>∃ x k' Z',r=⟨false,.int .i64 x,Z'⟩/\0<=x/\x<n/\uj Z' q v l k'/\C5 q Z Z') ⟨⟩:=by
 obtain ⟨a,c,b,off,cells,rfl,l1,l2⟩:=hl.1.use;have ro:=hm.row;have rr:=A8 ro;have hk:=hm.le;refine D7 Tryz.func33 rfl rfl ?_;by_cases hlt:k<l.length
 ·have c1:decide (k<l.length)=true:=decide_eq_true hlt;obtain ⟨y,hy⟩:=H8 hlt;obtain ⟨sp,rfl,l3,l4⟩:=l1 om;have hbq:b∉H:=fun hb=>by rw [JZ hb] at l4;cases l4
  have hne:b≠q:=fun h=>hbq (h ▸ hH);rw [BG hbq] at l4;rw [Cz] at l3;have s1:=l2 k y hy;have e1:(((k+1:Nat):Int)-1)=(k:Int):=om;simp (maxSteps:=8000000) (disch:=first|exact dS|fail) only [↓bD,bW,reduceMul,reduceEqDiff,reduceAdd,Nat.reduceBEq,reduceIte,Option.isNone_none,↓lM,↓lN,↓RN,↓RO,↓RP,↓RR,rr,ro,c1,l4,s1,e1,WW];have AM5:=hl.2 y (List.mem_of_getElem? hy);refine (Y9 AM5 h1 om).mono ?_;rintro r rfl;simp (maxSteps:=8000000) (disch:=first|exact dS|fail) only [↓bD,bW,reduceMul,reduceEqDiff,reduceAdd,Nat.reduceBEq,reduceIte,Option.isNone_none,↓lM,↓lN,↓RN,↓RO,↓RP,↓RR,asx (Ext.refl _),Tryz.results33]
  try refine H3.intro (by (repeat first|simp (disch:=omega) only [B9,C9,C0,asx (Ext.refl _)]|rw [D0 (by kernel_rfl)]);first|done|rfl) ?_
  try simp (maxSteps:=8000000) (disch:=first|exact dS|fail) only [↓bD,bW,reduceMul,reduceEqDiff,reduceAdd,Nat.reduceBEq,reduceIte,Option.isNone_none,↓lM,↓lN,↓RN,↓RO,↓RP,↓RR,Tryz.results33]
  exact ⟨_,k+1,_,rfl,Int.emod_nonneg _ om,Int.emod_lt_of_pos _ h1,⟨cL,hm.lt,om⟩,C5.refl.upd _⟩
 ·have c1:decide (k<l.length)=false:=decide_eq_false hlt;simp (maxSteps:=8000000) (disch:=first|exact dS|fail) only [↓bD,bW,reduceMul,reduceEqDiff,reduceAdd,Nat.reduceBEq,reduceIte,Option.isNone_none,↓lM,↓lN,↓RN,↓RO,↓RP,↓RR,rr,c1,WW,Tryz.results33];exact ⟨0,k,_,rfl,om,h1,hm,.refl⟩
theorem C5.Pd {q:Nat}{Z Z':St}{H:List Nat}(h:C5 q Z Z') (hq:q∈H):o0 (H6 Z H) (H6 Z' H):=I5 h.n fun c hc hm=>⟨hm,h.row hc fun e=>hm (e ▸ hq)⟩
theorem Y8.E8 {Z Z':St}{v:Value}{l:List Int}(h:Y8 Z v l) (hE:o0 Z Z'):Y8 Z' v l:=⟨SL.E8 h.1 hE,h.2⟩
structure MS (H:List Nat) (q:Nat) (v:Value) (l:List Int) (Z:St):Prop where
 mem:q∈H
 dK:∃ k,uj Z q v l k
 arg:Y8 (H6 Z H) v l
 len:l.length<=9223372036854775807
theorem MS.ext {H:List Nat}{q:Nat}{v:Value}{l:List Int}{Z Z':St}(h:MS H q v l Z) (hE:Ext Z Z'):MS H q v l Z':=by
 obtain ⟨m,⟨k,h1,h2,h3⟩,h4,h5⟩:=h;exact ⟨m,⟨k,by rw [hE.A5 h2];exact h1,Nat.lt_of_lt_of_le h2 hE.n,h3⟩,h4.E8 (DP hE),h5⟩
theorem MS.lt {H:List Nat}{q:Nat}{v:Value}{l:List Int}{Z:St}(h:MS H q v l Z):q<Z.n:=by
 obtain ⟨k,hk⟩:=h.dK;exact hk.lt
theorem NI {H:List Nat}{q:Nat}{v:Value}{l:List Int}{Z:St}{n:Int}(h:MS H q v l Z) (h1:0<n) (h2:n<=100000) :
  Ev (go Tryz.prog HS (.fn 33) [.pointer (some ⟨q,0,none⟩),.int .i64 n] Z) (fun r=>∃ (x:Nat) (Z':St),r=⟨false,.int .i64 (x:Nat),Z'⟩/\(x:Int)<n/\MS H q v l Z'/\C5 q Z Z') ⟨⟩:=by
 obtain ⟨k,hk⟩:=h.dK;refine (oo H h.mem hk h.arg h.len h1 h2).mono ?_;rintro r ⟨x,k',Z',rfl,x0,x1,hm,hE⟩;obtain ⟨X,rfl⟩:=Int.eq_ofNat_of_zero_le x0;exact ⟨X,Z',rfl,x1,⟨h.mem,⟨k',hm⟩,h.arg.E8 (hE.Pd h.mem),h.len⟩,hE⟩
end Go.Proofs.T
