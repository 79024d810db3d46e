/- The G2 Pk of a Pl lists: right Ae6 are found right. -/
import Derived.Test.YtbcanmagihejhaaGreatDoorRB
set_option linter.unusedSimpArgs false
set_option linter.unusedVariables false
set_option linter.defProp false
set_option maxHeartbeats 32000000
set_option maxRecDepth 100000
namespace Go.Proofs.T
open Go Go.Ab
structure Gm (Z:St) (ca:List Value) (T:Tn) (vl vc vr:Value) (ex:List Value) (vt vk:Value):Prop where
 all:sub ca 0 20=some ca
 p0:sub ca 0 1=some [str T.name]
 p1:sub ca 1 1=some [vl]
 p2:sub ca 2 1=some [vc]
 p3:sub ca 3 1=some [vr]
 p4:sub ca 4 1=some [.int .i64 T.low]
 p5:sub ca 5 1=some [.int .i64 T.high]
 p6:sub ca 6 5=some ex
 p11:sub ca 11 1=some [vt]
 p12:sub ca 12 1=some [.int .i64 T.G4]
 p13:sub ca 13 1=some [vk]
 p14:sub ca 14 1=some [.int .i64 T.C9]
 p15:sub ca 15 5=some [.int .i64 T.t.q,.int .i64 T.t.b,.int .i64 T.t.g,.int .i64 T.t.p,.int .i64 T.t.s]
 q15:sub ca 15 1=some [.int .i64 T.t.q]
 q16:sub ca 16 1=some [.int .i64 T.t.b]
 q17:sub ca 17 1=some [.int .i64 T.t.g]
 q18:sub ca 18 1=some [.int .i64 T.t.p]
 q19:sub ca 19 1=some [.int .i64 T.t.s]
def Bj.parts {Z:St}{a:List Value}{T:Tn}(h:Bj Z a T):∃ vl vc vr ex vt vk,Gm Z a T vl vc vr ex vt vk/\iq Z vl T.F9/\TO Z vc T.E9/\ir Z vr T.reqs/\Aq Z ex T.f/\HL Z vt T.H2/\LU Z vk T.C8:=by
 obtain⟨vl,vc,vr,ex,vt,vk,rfl,c,d,e,b,g,i⟩:=h;have j:=b.len
 match ex,j with
 | [x0,x1,x2,x3,x4],_=>
 exact⟨vl,vc,vr,_,vt,vk,⟨rfl,rfl,rfl,rfl,rfl,rfl,rfl,rfl,rfl,rfl,rfl,rfl,rfl,rfl,rfl,rfl,rfl,rfl⟩,c,d,e,b,g,i⟩
def mh {s:By}(h:R4 s=true):NU s=true:=by
 unfold R4 at h;rw[T1]at h;unfold NU;rw[MH,h.1];have:=h.2;unfold LK at this;simp at this;obtain⟨a,b,c,d⟩:=this;simp[a,b,c,d]
def gl (l:Lot):By:=BI (.lot l.id.toNat l.G4.toNat)
def gc (c:S8):By:=BI (.Y7 c.name c.kind.toNat c.low.toNat c.high.toNat c.less)
def gr (r:Req):By:=BI (.req r.name r.rel r.value.toNat)
def gk (c:List Int):By:=BI (.combo (c.map Int.toNat))
def nl (l:By):By:=l++[10]
def B0 (T:Tn):By:=nl (BI (.AQ T.name))
def B1 (T:Tn):By:=B0 T++under (T.F9.map gl)
def B2 (T:Tn):By:=B1 T++under (T.E9.map gc)
def B3 (T:Tn):By:=B2 T++under (T.reqs.map gr)
def B4 (T:Tn):By:=B3 T++(nl (BI (.FT T.low.toNat T.high.toNat))++nl (BI (.fml T.f)))
def B5 (T:Tn):By:=B4 T++(if T.H2=[]then[]else nl (BI (.tie T.H2)))
def B6 (T:Tn):By:=B5 T++(if T.G4=0 then[]else nl (BI (.G4 T.G4.toNat)))
def B7 (T:Tn):By:=B6 T++under (T.C8.map gk)
def Co {a:Type}{l:List a}{g:a->By}{k:Nat}{x:a}(h:l[k]? =some x):under ((l.take (k+1)).map g)=under ((l.take k).map g)++(g x++[10]):=by
 rw[Gf,h];unfold under;simp
def AU {a:Type}{l:List a}{g:a->By}:under ((l.take 0).map g)=[]:=rfl
def AV {a:Type}{l:List a}{g:a->By}:under ((l.take l.length).map g)=under (l.map g):=by rw[Dq]
def blk (a:List By):By:=(a.map fun x=>32::x).flatten
def Jl:∀ (ws:List By) (w:By),spJ (w::ws)=w++blk ws:=by
 intro ws;induction ws with
 |nil=>intro w;simp[spJ,blk]
 | cons v ws ih=>
   intro w;show w++32::spJ (v::ws)=_;rw[ih];simp[blk]
def sn {l:List By}{k:Nat}{x:By}(h:l[k]? =some x):blk (l.take (k+1))=blk (l.take k)++32::x:=by
 rw[Gf,h];unfold blk;simp
def WI {a:Type}{l:List a}{f:a->By}{k:Nat}{x:a}(h:l[k]? =some x):blk ((l.take (k+1)).map f)=blk ((l.take k).map f)++32::f x:=by
 rw[Gf,h];unfold blk;simp
def ej {T:Tn}:DY T=B7 T++(nl (BI (.C9 T.C9.toNat))++nl (BI (.times T.t.q.toNat T.t.b.toNat T.t.g.toNat T.t.p.toNat T.t.s.toNat))):=by
 have e:∀ (p:Prop) [Decidable p] (m:LM),under ((if p then[]else[m]).map BI)=if p then[]else nl (BI m):=fun p _ m=>by split<;>simp[under,nl]
 have c:∀ a b:List By,under (a++b)=under a++under b:=fun a b=>by unfold under;simp
 have d:∀ (a:By) (b:List By),under (a::b)=nl a++under b:=fun a b=>by unfold under nl;simp
 have f:under []=[]:=rfl;unfold DY Jq B7 B6 B5 B4 B3 B2 B1 B0;simp only[OW,Ah,Td,List.map_nil,c,d,f,e,DT,Ca];rfl
def SG {s:By}(h:R4 s=true):s.length<=30:=by
 unfold R4 at h;rw[T1]at h;exact Mp h.1
def QS:By:=[116,105,101]
def WJ:By:=[99,111,109,98,111]
def Du {P:Program}{H:EP}{c:Option Nat}{a b:Code}{fr:Fr}{Z:St}{Q:Res->Prop}{u:Hd Q}(J:Fr->St->Prop) (h:Ev (lim P H c a fr Z) (fun r=>∃ fr' Z',r=⟨.normal,fr',Z'⟩/\J fr' Z') ⟨⟩)
  (k:∀ fr' Z',J fr' Z'->Ev (lim P H c b fr' Z') Q ⟨⟩):Ev (lim P H c (.seq a b) fr Z) Q u:=by
 rw[Io];refine h.mono ?_;rintro r ⟨fr',Z',rfl,d⟩;rw[Bw];exact k fr' Z' d
def SmN (n:Int):Prop:=0<=n/\n<1000000000
structure Tn.Sm (T:Tn):Prop where
 lot:∀ l∈T.F9,SmN l.id/\SmN l.G4
 Y7:∀ c∈T.E9,(c.kind=1\/c.kind=2)/\SmN c.low/\SmN c.high
 req:∀ r∈T.reqs,SmN r.value
 combo:∀ l∈T.C8,∀ n∈l,SmN n
 low:SmN T.low
 high:SmN T.high
 G4:SmN T.G4
 C9:SmN T.C9
 tim:SmN T.t.q/\SmN T.t.b/\SmN T.t.g/\SmN T.t.p/\SmN T.t.s

section
variable {fr:Fr}{Z:St}{x ix a v:Operand}{ve:Value}
def vg:LDn 75 2:=by unfold LDn;intros;kernel_rfl
def vh:STn 75 2:=by unfold STn;intros;kernel_rfl
def BA5:Ad Tryz.prog 75=some (.agg ⟨[.slice none 0 0,.int .i64 0]⟩):=kR
def BA6 {z:List Value}{b:List (Nat×Value)}:Bm Tryz.prog 75 z b=ob (Bl (fun i=>[(0,1),(1,1)][i]?) b z) fun l=>some (.agg ⟨l⟩):=kR
def VR:FAo 75 0:=by unfold FAo;intros;kernel_rfl
def VS:FIo 75 0 0:=by unfold FIo;intros;kernel_rfl
def VT:FAn 75 1 1:=by unfold FAn;intros;kernel_rfl
def VU:FIo 75 1 1:=by unfold FIo;intros;kernel_rfl
end
section
variable {Z Z':St}{q:Nat}{v:Value}{l:List Int}{H:List Nat}{n:Int}
def BX (Z:St) (v:Value) (l:List Int):Prop:=GG Z v l/\∀ n∈l,X6 n
def AN {m:Int}(a:X6 n) (b:0<m) (h:m<=4294967296):
  Ev (gO 35 [.int .i64 n,.int .i64 m] Z) (fun r=>r=⟨false,.int .i64 (n % m),Z⟩) ⟨⟩:=by
 obtain⟨a,g⟩:=a;have c:m≠0:=om;have d:=Int.tmod_lt_of_pos n b;have f: -m<n.tmod m:=by
  have:=Int.lt_tmod_of_pos n b;omega
 have e:(n.tmod m+m).tmod m=n % m:=by
  rw[mq om,Int.add_emod_right];rw[Int.tmod_def];exact Int.sub_mul_emod_self_left _ _ _
 refine G1 Tryz.func35 rfl rfl ?_;refine gS1 (aI @Tryz.results35 e) ?_;try exact⟨⟩
structure AV7 (Z:St) (q:Nat) (v:Value) (l:List Int) (k:Nat):Prop where
 row:Z.B8 q=some [v,.int .i64 (k:Nat)]
 lt:q<Z.n
 le:k<=l.length
def yx {k:Nat}(H:List Nat) (u:q∈H) (f:AV7 Z q v l k) (j:BX (J0 Z H) v l) (A:l.length<=9223372036854775807) (i:0<n) (F:n<=100000):
  Ev (gO 33 [.pointer (some ⟨q,0,none⟩),.int .i64 n] Z) (fun r=>∃ x k' Z',r=⟨false,.int .i64 x,Z'⟩/\0<=x/\x<n/\AV7 Z' q v l k'/\G5 q Z Z') ⟨⟩:=by
 obtain⟨a,c,b,off,cells,rfl,C,D⟩:=j.1.use;have o:=f.row;have p:=C1 o;have G:=f.le;refine G1 Tryz.func33 rfl rfl ?_;by_cases d:k<l.length
 ·have c1:decide (k<l.length)=true:=AK d;obtain⟨y,m⟩:=I3 d;obtain⟨sp,rfl,l3,l4⟩:=C om;have e:b∉H:=fun z=>by rw[Mc z]at l4;cases l4
  have B:b≠q:=fun h=>e (h ▸ u);rw[CW e]at l4;rw[FD]at l3;have E:=D k y m;have s:(((k+1:Nat):Int)-1)=(k:Int):=om;refine gSd (a6N @vg @vh @VR @VS @VT @VU) (aI p (aI o (aI c1 (aI l4 (aI E (aI s @cM)))))) ?_;have g:=j.2 y (y6 m);refine(AN g i om).mono ?_;rintro r rfl;refine gSd (a6N @vg @vh @VR @VS @VT @VU) (aI @asR @Tryz.results33) ?_
  try refine T3.intro (by(repeat first|simp(disch:=omega) only[N7,Q9,N1,asx (Ext.refl _)]|rw[U0 (by kernel_rfl)]);first|done|rfl) ?_
  try(refine gSd (a6N @vg @vh @VR @VS @VT @VU) @Tryz.results33 ?_;try exact⟨⟩)
  exact⟨_,k+1,_,rfl,Int.emod_nonneg _ om,Int.emod_lt_of_pos _ i,⟨cL,f.lt,om⟩,G5.refl.upd _⟩
 ·have c1:decide (k<l.length)=false:=z4z d;refine gSd (a6N @vg @vh @VR @VS @VT @VU) (aI p (aI c1 (aI @cM @Tryz.results33))) ?_;exact⟨0,k,_,rfl,om,i,f,.refl⟩
def G5.OT (h:G5 q Z Z') (d:q∈H):Ao (J0 Z H) (J0 Z' H):=K8 h.n fun c b a=>⟨a,h.row b fun e=>a (e ▸ d)⟩
def BX.I4 (h:BX Z v l) (a:Ao Z Z'):BX Z' v l:=⟨SL.I4 h.1 a,h.2⟩
structure MS (H:List Nat) (q:Nat) (v:Value) (l:List Int) (Z:St):Prop where
 mem:q∈H
 oC:∃ k,AV7 Z q v l k
 arg:BX (J0 Z H) v l
 len:l.length<=9223372036854775807
def MS.ext (h:MS H q v l Z) (a:Ext Z Z'):MS H q v l Z':=by
 obtain⟨m,⟨k,c,b,d⟩,e,f⟩:=h;exact⟨m,⟨k,by rw[a.B8 b];exact c,z5z b a.n,d⟩,e.I4 (HX a),f⟩
def MS.lt (h:MS H q v l Z):q<Z.n:=by
 obtain⟨k,a⟩:=h.oC;exact a.lt
def QP (h:MS H q v l Z) (b:0<n) (c:n<=100000):
  Ev (gO 33 [.pointer (some ⟨q,0,none⟩),.int .i64 n] Z) (fun r=>∃ (x:Nat) (Z':St),r=⟨false,.int .i64 (x:Nat),Z'⟩/\(x:Int)<n/\MS H q v l Z'/\G5 q Z Z') ⟨⟩:=by
 obtain⟨k,d⟩:=h.oC;refine(yx H h.mem d h.arg h.len b c).mono ?_;rintro r ⟨x,k',Z',rfl,f,g,e,a⟩;obtain⟨X,rfl⟩:=KR f;exact⟨X,Z',rfl,g,⟨h.mem,⟨k',e⟩,h.arg.I4 (a.OT h.mem),h.len⟩,a⟩
end
end Go.Proofs.T
