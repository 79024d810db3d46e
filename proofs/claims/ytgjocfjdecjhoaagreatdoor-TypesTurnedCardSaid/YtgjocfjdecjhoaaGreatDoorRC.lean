/- The G6 Px of a Ww lists: right Ag6 are found right. -/
import Derived.Test.YtgjocfjdecjhoaaGreatDoorRB
set_option linter.unusedSimpArgs false
set_option linter.unusedVariables false
set_option linter.defProp false
set_option maxHeartbeats 32000000
set_option maxRecDepth 100000
namespace Go.Proofs.T
open Go Go.Ab
structure Gv (Z:St) (ca:List Value) (T:Tn) (vl vc vr:Value) (ex:List Value) (vt vk:Value):Prop where
 all:sub ca 0 20=some ca
 p0:sub ca 0 1=some [str T.name]
 p1:sub ca 1 1=some [vl]
 p2:sub ca 2 1=some [vc]
 p3:sub ca 3 1=some [vr]
 p4:sub ca 4 1=some [.int .i64 T.low]
 p5:sub ca 5 1=some [.int .i64 T.high]
 p6:sub ca 6 5=some ex
 p11:sub ca 11 1=some [vt]
 p12:sub ca 12 1=some [.int .i64 T.y8]
 p13:sub ca 13 1=some [vk]
 p14:sub ca 14 1=some [.int .i64 T.V9]
 p15:sub ca 15 5=some [.int .i64 T.t.q,.int .i64 T.t.b,.int .i64 T.t.g,.int .i64 T.t.p,.int .i64 T.t.s]
 q15:sub ca 15 1=some [.int .i64 T.t.q]
 q16:sub ca 16 1=some [.int .i64 T.t.b]
 q17:sub ca 17 1=some [.int .i64 T.t.g]
 q18:sub ca 18 1=some [.int .i64 T.t.p]
 q19:sub ca 19 1=some [.int .i64 T.t.s]
def HW.parts {Z:St}{ca:List Value}{T:Tn}(h:HW Z ca T):∃ vl vc vr ex vt vk,Gv Z ca T vl vc vr ex vt vk/\vC Z vl T.u9/\OP Z vc T.G9/\vD Z vr T.reqs/\P6 Z ex T.f/\bN Z vt T.AJ/\QI Z vk T.J9:=by
 obtain⟨vl,vc,vr,ex,vt,vk,rfl,h2,h3,h4,h5,h6,h7⟩:=h;have hx:=h5.len
 match ex,hx with
 | [x0,x1,x2,x3,x4],_=>
 exact⟨vl,vc,vr,_,vt,vk,⟨rfl,rfl,rfl,rfl,rfl,rfl,rfl,rfl,rfl,rfl,rfl,rfl,rfl,rfl,rfl,rfl,rfl,rfl⟩,h2,h3,h4,h5,h6,h7⟩
def mO {s:By}(h:Ei s=true):NN s=true:=by
 unfold Ei at h;rw[Q7]at h;unfold NN;rw[MG,h.1];have:=h.2;unfold bG at this;simp at this;obtain⟨h1,h2,h3,h4⟩:=this;simp[h1,h2,h3,h4]
def gl (l:Lot):By:=DK (.lot l.id.toNat l.y8.toNat)
def gc (c:Bz):By:=DK (.Du c.name c.kind.toNat c.low.toNat c.high.toNat c.less)
def gr (r:Req):By:=DK (.req r.name r.rel r.value.toNat)
def gk (c:List Int):By:=DK (.combo (c.map Int.toNat))
def nl (l:By):By:=l++[10]
def B0 (T:Tn):By:=nl (DK (.Fm T.name))
def B1 (T:Tn):By:=B0 T++under (T.u9.map gl)
def B2 (T:Tn):By:=B1 T++under (T.G9.map gc)
def B3 (T:Tn):By:=B2 T++under (T.reqs.map gr)
def B4 (T:Tn):By:=B3 T++(nl (DK (.OM T.low.toNat T.high.toNat))++nl (DK (.fml T.f)))
def B5 (T:Tn):By:=B4 T++(if T.AJ=[]then[]else nl (DK (.tie T.AJ)))
def B6 (T:Tn):By:=B5 T++(if T.y8=0 then[]else nl (DK (.y8 T.y8.toNat)))
def B7 (T:Tn):By:=B6 T++under (T.J9.map gk)
def Io {α:Type}{l:List α}{g:α->By}{k:Nat}{x:α}(h:l[k]? =some x):under ((l.take (k+1)).map g)=under ((l.take k).map g)++(g x++[10]):=by
 rw[Sw,h];unfold under;simp
def Ip {α:Type}{l:List α}{g:α->By}:under ((l.take 0).map g)=[]:=rfl
def Iq {α:Type}{l:List α}{g:α->By}:under ((l.take l.length).map g)=under (l.map g):=by rw[JF]
def blk (ws:List By):By:=(ws.map fun x=>32::x).flatten
def aK:∀ (ws:List By) (w:By),spJ (w::ws)=w++blk ws:=by
 intro ws;induction ws with
 |nil=>intro w;simp[spJ,blk]
 | cons v ws ih=>
   intro w;show w++32::spJ (v::ws)=_;rw[ih];simp[blk]
def tI {l:List By}{k:Nat}{x:By}(h:l[k]? =some x):blk (l.take (k+1))=blk (l.take k)++32::x:=by
 rw[Sw,h];unfold blk;simp
def Wo {α:Type}{l:List α}{f:α->By}{k:Nat}{x:α}(h:l[k]? =some x):blk ((l.take (k+1)).map f)=blk ((l.take k).map f)++32::f x:=by
 rw[Sw,h];unfold blk;simp
def zW {T:Tn}:Il T=B7 T++(nl (DK (.V9 T.V9.toNat))++nl (DK (.times T.t.q.toNat T.t.b.toNat T.t.g.toNat T.t.p.toNat T.t.s.toNat))):=by
 have e:∀ (p:Prop) [Decidable p] (m:LM),under ((if p then[]else[m]).map DK)=if p then[]else nl (DK m):=fun p _ m=>by split<;>simp[under,nl]
 have ua:∀ a b:List By,under (a++b)=under a++under b:=fun a b=>by unfold under;simp
 have uc:∀ (a:By) (b:List By),under (a::b)=nl a++under b:=fun a b=>by unfold under nl;simp
 have un:under []=[]:=rfl;unfold Il An4 B7 B6 B5 B4 B3 B2 B1 B0;simp only[YW,IY,List.map_map,List.map_nil,ua,uc,un,e,PI,FV];rfl
def SW {s:By}(h:Ei s=true):s.length<=30:=by
 unfold Ei at h;rw[Q7]at h;exact Ml h.1
def zX:By:=[116,105,101]
def Wp:By:=[99,111,109,98,111]
def Nz {P:Program}{H:Dq}{rd:Option Nat}{a b:Code}{fr:Fr}{Z:St}{Q:Res->Prop}{u:Hd Q}(J:Fr->St->Prop) (h:Ev (lim P H rd a fr Z) (fun r=>∃ fr' Z',r=⟨.normal,fr',Z'⟩/\J fr' Z') ⟨⟩)
  (k:∀ fr' Z',J fr' Z'->Ev (lim P H rd b fr' Z') Q ⟨⟩):Ev (lim P H rd (.seq a b) fr Z) Q u:=by
 rw[rR];refine h.mono ?_;rintro r ⟨fr',Z',rfl,hJ⟩;rw[Ga];exact k fr' Z' hJ
def SmN (n:Int):Prop:=0<=n/\n<1000000000
structure Tn.Sm (T:Tn):Prop where
 lot:∀ l∈T.u9,SmN l.id/\SmN l.y8
 Du:∀ c∈T.G9,(c.kind=1\/c.kind=2)/\SmN c.low/\SmN c.high
 req:∀ r∈T.reqs,SmN r.value
 combo:∀ l∈T.J9,∀ n∈l,SmN n
 low:SmN T.low
 high:SmN T.high
 y8:SmN T.y8
 V9:SmN T.V9
 tim:SmN T.t.q/\SmN T.t.b/\SmN T.t.g/\SmN T.t.p/\SmN T.t.s

section
variable {fr:Fr}{Z:St}{x ix a v:Operand}{ve:Value}
def wU:LDn 78 2:=by unfold LDn;intros;kernel_rfl
def wV:STn 78 2:=by unfold STn;intros;kernel_rfl
def Aw1:BJ Tryz.prog 78=some (.agg ⟨[.slice none 0 0,.int .i64 0]⟩):=kR
def Aw2 {z:List Value}{ps:List (Nat×Value)}:DM Tryz.prog 78 z ps=ob (Cq (fun i=>[(0,1),(1,1)][i]?) ps z) fun l=>some (.agg ⟨l⟩):=kR
def Vn:FAo 78 0:=by unfold FAo;intros;kernel_rfl
def Vo:FIo 78 0 0:=by unfold FIo;intros;kernel_rfl
def Vp:FAn 78 1 1:=by unfold FAn;intros;kernel_rfl
def Vq:FIo 78 1 1:=by unfold FIo;intros;kernel_rfl
end
def AU8 {b:St}:=@asx b b (Ext.refl b)
section
variable {Z Z':St}{q:Nat}{v:Value}{l:List Int}{H:List Nat}{n:Int}
def Aw (Z:St) (v:Value) (l:List Int):Prop:=PC Z v l/\∀ n∈l,Bk n
def fY {m:Int}(h1:Bk n) (h3:0<m) (h4:m<=4294967296):
  Ev (gO 73 [.int .i64 n,.int .i64 m] Z) (fun r=>r=⟨false,.int .i64 (n % m),Z⟩) ⟨⟩:=by
 obtain⟨h1,h2⟩:=h1;have hm0:m≠0:=om;have a1:=Int.tmod_lt_of_pos n h3;have a2: -m<n.tmod m:=by
  have:=Int.lt_tmod_of_pos n h3;omega
 have e:(n.tmod m+m).tmod m=n % m:=by
  rw[XC om,Int.add_emod_right];rw[Int.tmod_def];exact Int.sub_mul_emod_self_left _ _ _
 refine C9 Tryz.func73 rfl rfl ?_;refine gS1 (aI @Tryz.results73 e) ?_;try exact⟨⟩
structure oI (Z:St) (q:Nat) (v:Value) (l:List Int) (k:Nat):Prop where
 row:Z.A7 q=some [v,.int .i64 (k:Nat)]
 lt:q<Z.n
 le:k<=l.length
def zp {k:Nat}(H:List Nat) (hH:q∈H) (hm:oI Z q v l k) (hl:Aw (M8 Z H) v l) (hll:l.length<=9223372036854775807) (h1:0<n) (h2:n<=100000):
  Ev (gO 32 [.pointer (some ⟨q,0,none⟩),.int .i64 n] Z) (fun r=>∃ x k' Z',r=⟨false,.int .i64 x,Z'⟩/\0<=x/\x<n/\oI Z' q v l k'/\J7 q Z Z') ⟨⟩:=by
 obtain⟨a,c,b,off,cells,rfl,l1,l2⟩:=hl.1.use;have ro:=hm.row;have rr:=A9 ro;have hk:=hm.le;refine C9 Tryz.func32 rfl rfl ?_;by_cases hlt:k<l.length
 ·have c1:decide (k<l.length)=true:=Be hlt;obtain⟨y,hy⟩:=H5 hlt;obtain⟨sp,rfl,l3,l4⟩:=l1 om;have hbq:b∉H:=fun hb=>by rw[Ja hb]at l4;cases l4
  have hne:b≠q:=fun h=>hbq (h ▸ hH);rw[Bn hbq]at l4;rw[EG]at l3;have s1:=l2 k y hy;have e1:(((k+1:Nat):Int)-1)=(k:Int):=om;refine gSd (a6N @wU @wV @Vn @Vo @Vp @Vq) (aI rr (aI ro (aI c1 (aI l4 (aI s1 (aI e1 @Qr)))))) ?_;have AL8:=hl.2 y (Bs hy);refine(fY AL8 h1 om).mono ?_;rintro r rfl;refine gSd (a6N @wU @wV @Vn @Vo @Vp @Vq) (aI @AU8 @Tryz.results32) ?_
  try refine Ca.intro (by(repeat first|simp(disch:=omega) only[M9,G3,G8,asx (Ext.refl _)]|rw[V8 (by kernel_rfl)]);first|done|rfl) ?_
  try(refine gSd (a6N @wU @wV @Vn @Vo @Vp @Vq) @Tryz.results32 ?_;try exact⟨⟩)
  exact⟨_,k+1,_,rfl,Int.emod_nonneg _ om,Int.emod_lt_of_pos _ h1,⟨cL,hm.lt,om⟩,J7.refl.upd _⟩
 ·have c1:decide (k<l.length)=false:=z4z hlt;refine gSd (a6N @wU @wV @Vn @Vo @Vp @Vq) (aI rr (aI c1 (aI @Qr @Tryz.results32))) ?_;exact⟨0,k,_,rfl,om,h1,hm,.refl⟩
def J7.Md (h:J7 q Z Z') (hq:q∈H):Dr (M8 Z H) (M8 Z' H):=AQ h.n fun c hc hm=>⟨hm,h.row hc fun e=>hm (e ▸ hq)⟩
def Aw.H4 (h:Aw Z v l) (hE:Dr Z Z'):Aw Z' v l:=⟨SL.H4 h.1 hE,h.2⟩
structure MS (H:List Nat) (q:Nat) (v:Value) (l:List Int) (Z:St):Prop where
 mem:q∈H
 Sx:∃ k,oI Z q v l k
 arg:Aw (M8 Z H) v l
 len:l.length<=9223372036854775807
def MS.ext (h:MS H q v l Z) (hE:Ext Z Z'):MS H q v l Z':=by
 obtain⟨m,⟨k,h1,h2,h3⟩,h4,h5⟩:=h;exact⟨m,⟨k,by rw[hE.A7 h2];exact h1,z5z h2 hE.n,h3⟩,h4.H4 (H2 hE),h5⟩
def MS.lt (h:MS H q v l Z):q<Z.n:=by
 obtain⟨k,hk⟩:=h.Sx;exact hk.lt
def Qm (h:MS H q v l Z) (h1:0<n) (h2:n<=100000):
  Ev (gO 32 [.pointer (some ⟨q,0,none⟩),.int .i64 n] Z) (fun r=>∃ (x:Nat) (Z':St),r=⟨false,.int .i64 (x:Nat),Z'⟩/\(x:Int)<n/\MS H q v l Z'/\J7 q Z Z') ⟨⟩:=by
 obtain⟨k,hk⟩:=h.Sx;refine(zp H h.mem hk h.arg h.len h1 h2).mono ?_;rintro r ⟨x,k',Z',rfl,x0,x1,hm,hE⟩;obtain⟨X,rfl⟩:=Fo x0;exact⟨X,Z',rfl,x1,⟨h.mem,⟨k',hm⟩,h.arg.H4 (hE.Md h.mem),h.len⟩,hE⟩
end
end Go.Proofs.T
