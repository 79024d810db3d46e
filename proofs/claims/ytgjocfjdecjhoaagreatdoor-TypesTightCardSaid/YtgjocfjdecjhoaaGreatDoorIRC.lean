/- The H3 OG of a YQ lists: right Ap1 are found right. -/
import Derived.Test.YtgjocfjdecjhoaaGreatDoorIRB
set_option linter.unusedSimpArgs false
set_option linter.unusedVariables false
set_option linter.defProp false
set_option maxHeartbeats 32000000
set_option maxRecDepth 100000
namespace Go.Proofs.T
open Go Go.Ab
structure HP (Z:St) (ca:List Value) (T:Tn) (vl vc vr:Value) (ex:List Value) (vt vk:Value):Prop where
 all:sub ca 0 20=some ca
 p0:sub ca 0 1=some [str T.name]
 p1:sub ca 1 1=some [vl]
 p2:sub ca 2 1=some [vc]
 p3:sub ca 3 1=some [vr]
 p4:sub ca 4 1=some [.int .i64 T.low]
 p5:sub ca 5 1=some [.int .i64 T.high]
 p6:sub ca 6 5=some ex
 p11:sub ca 11 1=some [vt]
 p12:sub ca 12 1=some [.int .i64 T.AE]
 p13:sub ca 13 1=some [vk]
 p14:sub ca 14 1=some [.int .i64 T.U6]
 p15:sub ca 15 5=some [.int .i64 T.t.q,.int .i64 T.t.b,.int .i64 T.t.g,.int .i64 T.t.p,.int .i64 T.t.s]
 q15:sub ca 15 1=some [.int .i64 T.t.q]
 q16:sub ca 16 1=some [.int .i64 T.t.b]
 q17:sub ca 17 1=some [.int .i64 T.t.g]
 q18:sub ca 18 1=some [.int .i64 T.t.p]
 q19:sub ca 19 1=some [.int .i64 T.t.s]
def Jb.parts {Z:St}{a:List Value}{T:Tn}(h:Jb Z a T):∃ vl vc vr ex vt vk,HP Z a T vl vc vr ex vt vk/\xg Z vl T.AG/\PQ Z vc T.G7/\xh Z vr T.reqs/\P8 Z ex T.f/\Hy Z vt T.AQ/\RX Z vk T.K7:=by
 obtain⟨vl,vc,vr,ex,vt,vk,rfl,c,d,e,b,g,i⟩:=h;have j:=b.len
 match ex,j with
 | [x0,x1,x2,x3,x4],_=>
 exact⟨vl,vc,vr,_,vt,vk,⟨rfl,rfl,rfl,rfl,rfl,rfl,rfl,rfl,rfl,rfl,rfl,rfl,rfl,rfl,rfl,rfl,rfl,rfl⟩,c,d,e,b,g,i⟩
def oe {s:By}(h:FH s=true):OI s=true:=by
 unfold FH at h;rw[R2]at h;unfold OI;rw[Ml,h.1];have:=h.2;unfold ct at this;simp at this;obtain⟨a,b,c,d⟩:=this;simp[a,b,c,d]
def gl (l:Lot):By:=Dc (.lot l.id.toNat l.AE.toNat)
def gc (c:CL):By:=Dc (.Dn c.name c.kind.toNat c.low.toNat c.high.toNat c.less)
def gr (r:Req):By:=Dc (.req r.name r.rel r.value.toNat)
def gk (c:List Int):By:=Dc (.combo (c.map Int.toNat))
def nl (l:By):By:=l++[10]
def B0 (T:Tn):By:=nl (Dc (.GG T.name))
def B1 (T:Tn):By:=B0 T++under (T.AG.map gl)
def B2 (T:Tn):By:=B1 T++under (T.G7.map gc)
def B3 (T:Tn):By:=B2 T++under (T.reqs.map gr)
def B4 (T:Tn):By:=B3 T++(nl (Dc (.PO T.low.toNat T.high.toNat))++nl (Dc (.fml T.f)))
def B5 (T:Tn):By:=B4 T++(if T.AQ=[]then[]else nl (Dc (.tie T.AQ)))
def B6 (T:Tn):By:=B5 T++(if T.AE=0 then[]else nl (Dc (.AE T.AE.toNat)))
def B7 (T:Tn):By:=B6 T++under (T.K7.map gk)
def JP {a:Type}{l:List a}{g:a->By}{k:Nat}{x:a}(h:l[k]? =some x):under ((l.take (k+1)).map g)=under ((l.take k).map g)++(g x++[10]):=by
 rw[Rv,h];unfold under;simp
def JQ {a:Type}{l:List a}{g:a->By}:under ((l.take 0).map g)=[]:=rfl
def JR {a:Type}{l:List a}{g:a->By}:under ((l.take l.length).map g)=under (l.map g):=by rw[Jf]
def blk (a:List By):By:=(a.map fun x=>32::x).flatten
def br:∀ (ws:List By) (w:By),spJ (w::ws)=w++blk ws:=by
 intro ws;induction ws with
 |nil=>intro w;simp[spJ,blk]
 | cons v ws ih=>
   intro w;show w++32::spJ (v::ws)=_;rw[ih];simp[blk]
def vT {l:List By}{k:Nat}{x:By}(h:l[k]? =some x):blk (l.take (k+1))=blk (l.take k)++32::x:=by
 rw[Rv,h];unfold blk;simp
def YI {a:Type}{l:List a}{f:a->By}{k:Nat}{x:a}(h:l[k]? =some x):blk ((l.take (k+1)).map f)=blk ((l.take k).map f)++32::f x:=by
 rw[Rv,h];unfold blk;simp
def AG5 {T:Tn}:JN T=B7 T++(nl (Dc (.U6 T.U6.toNat))++nl (Dc (.times T.t.q.toNat T.t.b.toNat T.t.g.toNat T.t.p.toNat T.t.s.toNat))):=by
 have e:∀ (p:Prop) [Decidable p] (m:LM),under ((if p then[]else[m]).map Dc)=if p then[]else nl (Dc m):=fun p _ m=>by split<;>simp[under,nl]
 have c:∀ a b:List By,under (a++b)=under a++under b:=fun a b=>by unfold under;simp
 have d:∀ (a:By) (b:List By),under (a::b)=nl a++under b:=fun a b=>by unfold under nl;simp
 have f:under []=[]:=rfl;unfold JN Aw2 B7 B6 B5 B4 B3 B2 B1 B0;simp only[SR,HI,List.map_map,List.map_nil,c,d,f,e,OU,Du];rfl
def Tk {s:By}(h:FH s=true):s.length<=30:=by
 unfold FH at h;rw[R2]at h;exact NX h.1
def AG6:By:=[116,105,101]
def YJ:By:=[99,111,109,98,111]
def Ol {P:Program}{H:EV}{c:Option Nat}{a b:Code}{d:Fr}{Z:St}{Q:Res->Prop}{u:Hd Q}(J:Fr->St->Prop) (h:Ev (lim P H c a d Z) (fun r=>∃ fr' Z',r=⟨.normal,fr',Z'⟩/\J fr' Z') ⟨⟩)
  (k:∀ fr' Z',J fr' Z'->Ev (lim P H c b fr' Z') Q ⟨⟩):Ev (lim P H c (.seq a b) d Z) Q u:=by
 rw[ti];refine h.mono ?_;rintro r ⟨fr',Z',rfl,e⟩;rw[Gp];exact k fr' Z' e
def SmN (n:Int):Prop:=0<=n/\n<1000000000
structure Tn.Sm (T:Tn):Prop where
 lot:∀ l∈T.AG,SmN l.id/\SmN l.AE
 Dn:∀ c∈T.G7,(c.kind=1\/c.kind=2)/\SmN c.low/\SmN c.high
 req:∀ r∈T.reqs,SmN r.value
 combo:∀ l∈T.K7,∀ n∈l,SmN n
 low:SmN T.low
 high:SmN T.high
 AE:SmN T.AE
 U6:SmN T.U6
 tim:SmN T.t.q/\SmN T.t.b/\SmN T.t.g/\SmN T.t.p/\SmN T.t.s

section
variable {fr:Fr}{Z:St}{x ix a v:Operand}{ve:Value}
def yq:LDn 78 2:=by unfold LDn;intros;kernel_rfl
def yr:STn 78 2:=by unfold STn;intros;kernel_rfl
def BF6:Bn Tryz.prog 78=some (.agg ⟨[.slice none 0 0,.int .i64 0]⟩):=kR
def BF7 {z:List Value}{ps:List (Nat×Value)}:Dq Tryz.prog 78 z ps=ob (DW (fun i=>[(0,1),(1,1)][i]?) ps z) fun l=>some (.agg ⟨l⟩):=kR
def XC:FAo 78 0:=by unfold FAo;intros;kernel_rfl
def XD:FIo 78 0 0:=by unfold FIo;intros;kernel_rfl
def XE:FAn 78 1 1:=by unfold FAn;intros;kernel_rfl
def XG:FIo 78 1 1:=by unfold FIo;intros;kernel_rfl
end
section
variable {Z Z':St}{q:Nat}{v:Value}{l:List Int}{H:List Nat}{n:Int}
def BG (Z:St) (v:Value) (l:List Int):Prop:=LJ Z v l/\∀ n∈l,BN n
def iE {m:Int}(a:BN n) (b:0<m) (h:m<=4294967296):
  Ev (gO 73 [.int .i64 n,.int .i64 m] Z) (fun r=>r=⟨false,.int .i64 (n % m),Z⟩) ⟨⟩:=by
 obtain⟨a,g⟩:=a;have c:m≠0:=om;have d:=Int.tmod_lt_of_pos n b;have f: -m<n.tmod m:=by
  have:=Int.lt_tmod_of_pos n b;omega
 have e:(n.tmod m+m).tmod m=n % m:=by
  rw[Uf om,Int.add_emod_right];rw[Int.tmod_def];exact Int.sub_mul_emod_self_left _ _ _
 refine C8 Tryz.func73 rfl rfl ?_;refine gS1 (aI @Tryz.results73 e) ?_;try exact⟨⟩
structure qo (Z:St) (q:Nat) (v:Value) (l:List Int) (k:Nat):Prop where
 row:Z.A7 q=some [v,.int .i64 (k:Nat)]
 lt:q<Z.n
 le:k<=l.length
def AI2 {k:Nat}(H:List Nat) (u:q∈H) (f:qo Z q v l k) (j:BG (N5 Z H) v l) (A:l.length<=9223372036854775807) (i:0<n) (F:n<=100000):
  Ev (gO 32 [.pointer (some ⟨q,0,none⟩),.int .i64 n] Z) (fun r=>∃ x k' Z',r=⟨false,.int .i64 x,Z'⟩/\0<=x/\x<n/\qo Z' q v l k'/\J9 q Z Z') ⟨⟩:=by
 obtain⟨a,c,b,off,cells,rfl,C,D⟩:=j.1.use;have o:=f.row;have p:=A9 o;have G:=f.le;refine C8 Tryz.func32 rfl rfl ?_;by_cases d:k<l.length
 ·have c1:decide (k<l.length)=true:=AW d;obtain⟨y,m⟩:=I1 d;obtain⟨sp,rfl,l3,l4⟩:=C om;have e:b∉H:=fun z=>by rw[KF z]at l4;cases l4
  have B:b≠q:=fun h=>e (h ▸ u);rw[Bx e]at l4;rw[EY]at l3;have E:=D k y m;have s:(((k+1:Nat):Int)-1)=(k:Int):=om;refine gSd (a6N @yq @yr @XC @XD @XE @XG) (aI p (aI o (aI c1 (aI l4 (aI E (aI s @SF)))))) ?_;have g:=j.2 y (Ag m);refine(iE g i om).mono ?_;rintro r rfl;refine gSd (a6N @yq @yr @XC @XD @XE @XG) (aI @asR @Tryz.results32) ?_
  try refine Ct.intro (by(repeat first|simp(disch:=omega) only[O4,G6,G9,asx (Ext.refl _)]|rw[W6 (by kernel_rfl)]);first|done|rfl) ?_
  try(refine gSd (a6N @yq @yr @XC @XD @XE @XG) @Tryz.results32 ?_;try exact⟨⟩)
  exact⟨_,k+1,_,rfl,Int.emod_nonneg _ om,Int.emod_lt_of_pos _ i,⟨cL,f.lt,om⟩,J9.refl.upd _⟩
 ·have c1:decide (k<l.length)=false:=z4z d;refine gSd (a6N @yq @yr @XC @XD @XE @XG) (aI p (aI c1 (aI @SF @Tryz.results32))) ?_;exact⟨0,k,_,rfl,om,i,f,.refl⟩
def J9.NI (h:J9 q Z Z') (d:q∈H):FG (N5 Z H) (N5 Z' H):=AZ h.n fun c b a=>⟨a,h.row b fun e=>a (e ▸ d)⟩
def BG.I2 (h:BG Z v l) (a:FG Z Z'):BG Z' v l:=⟨SL.I2 h.1 a,h.2⟩
structure MS (H:List Nat) (q:Nat) (v:Value) (l:List Int) (Z:St):Prop where
 mem:q∈H
 UJ:∃ k,qo Z q v l k
 arg:BG (N5 Z H) v l
 len:l.length<=9223372036854775807
def MS.ext (h:MS H q v l Z) (a:Ext Z Z'):MS H q v l Z':=by
 obtain⟨m,⟨k,c,b,d⟩,e,f⟩:=h;exact⟨m,⟨k,by rw[a.A7 b];exact c,z5z b a.n,d⟩,e.I2 (I9 a),f⟩
def MS.lt (h:MS H q v l Z):q<Z.n:=by
 obtain⟨k,a⟩:=h.UJ;exact a.lt
def Rx (h:MS H q v l Z) (b:0<n) (c:n<=100000):
  Ev (gO 32 [.pointer (some ⟨q,0,none⟩),.int .i64 n] Z) (fun r=>∃ (x:Nat) (Z':St),r=⟨false,.int .i64 (x:Nat),Z'⟩/\(x:Int)<n/\MS H q v l Z'/\J9 q Z Z') ⟨⟩:=by
 obtain⟨k,d⟩:=h.UJ;refine(AI2 H h.mem d h.arg h.len b c).mono ?_;rintro r ⟨x,f,Z',rfl,g,i,e,a⟩;obtain⟨X,rfl⟩:=FM g;exact⟨X,Z',rfl,i,⟨h.mem,⟨f,e⟩,h.arg.I2 (a.NI h.mem),h.len⟩,a⟩
end
end Go.Proofs.T
