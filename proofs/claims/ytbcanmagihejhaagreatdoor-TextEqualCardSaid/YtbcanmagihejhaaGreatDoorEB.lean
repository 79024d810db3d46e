/- The J4 ZU: its memory, its end. -/
import Derived.Test.YtbcanmagihejhaaGreatDoorEA
import Derived.Test.YtbcanmagihejhaaGreatDoorTK
set_option linter.unusedSimpArgs false
set_option linter.unusedVariables false
set_option maxHeartbeats 32000000
set_option maxRecDepth 100000
namespace Go.Proofs.T
open Go Go.Ab
open Nat (reduceMul reduceEqDiff reduceAdd)
noncomputable def bnC (l:List Nat):Code:=Gd l ((Tryz.f20).body.getD .skip)
def SmW (n:Int):Prop:= -1<=n/\n<=1000000001
structure WkT (w m n:Nat) (T:Tn):Prop where
 name:T.name.length<=31
 D2:T.D2.length<=n
 lot:∀ l∈T.D2,SmW l.id/\SmW l.D5
 C7:T.C7.length<=n
 Bi:∀ c∈T.C7,c.name.length<=31/\(1<=c.kind/\c.kind<=3)/\SmW c.low/\SmW c.high
 reqs:T.reqs.length<=n
 req:∀ r∈T.reqs,r.name.length<=31/\r.rel.length<=2/\SmW r.value
 E9:T.E9.length<=n
 tie:∀ s∈T.E9,s.length<=31
 C3:T.C3.length<=n
 combo:∀ c∈T.C3,c.length<=12/\∀ k∈c,SmW k
 low:SmW T.low
 high:SmW T.high
 D5:SmW T.D5
 C1:SmW T.C1
 tim:SmW T.t.q/\SmW T.t.b/\SmW T.t.g/\SmW T.t.p/\SmW T.t.s
 f:WfE w T.f
 fp:Bx T.f<=m
theorem WkT.up {w m n w' m' n':Nat}{T:Tn}(h:WkT w m n T) (hw:w<=w') (hm:m<=m') (hn:n<=n'):WkT w' m' n' T :=
 ⟨h.name,by have:=h.D2;omega,h.lot,by have:=h.C7;omega,h.Bi,by have:=h.reqs;omega,h.req,by have:=h.E9;omega,h.tie,by have:=h.C3;omega,h.combo,h.low,h.high,h.D5,h.C1,h.tim,WfE.mono hw h.f,by have:=h.fp;omega⟩
def M6 (nm:By) (vl vc vr:Value) (low high:Int) (x1 x2 x3 x4 x5 vt:Value) (D5:Int) (vk:Value) (C1:Int) (t:Tim):List Value :=
 [str nm,vl,vc,vr,.int .i64 low,.int .i64 high,x1,x2,x3,x4,x5,vt,.int .i64 D5,vk,.int .i64 C1,.int .i64 t.q,.int .i64 t.b,.int .i64 t.g,.int .i64 t.p,.int .i64 t.s]
section
variable {nm nm':By} {vl vc vr v:Value} {low high k:Int} {x1 x2 x3 x4 x5 y1 y2 y3 y4 y5 vt:Value} {D5:Int} {vk:Value} {C1:Int} {t:Tim}
theorem bw0:M3 (M6 nm vl vc vr low high x1 x2 x3 x4 x5 vt D5 vk C1 t) 0 [str nm']=some (M6 nm' vl vc vr low high x1 x2 x3 x4 x5 vt D5 vk C1 t):=rfl
theorem bw1:M3 (M6 nm vl vc vr low high x1 x2 x3 x4 x5 vt D5 vk C1 t) 1 [v]=some (M6 nm v vc vr low high x1 x2 x3 x4 x5 vt D5 vk C1 t):=rfl
theorem bw2:M3 (M6 nm vl vc vr low high x1 x2 x3 x4 x5 vt D5 vk C1 t) 2 [v]=some (M6 nm vl v vr low high x1 x2 x3 x4 x5 vt D5 vk C1 t):=rfl
theorem bw3:M3 (M6 nm vl vc vr low high x1 x2 x3 x4 x5 vt D5 vk C1 t) 3 [v]=some (M6 nm vl vc v low high x1 x2 x3 x4 x5 vt D5 vk C1 t):=rfl
theorem bw5:M3 (M6 nm vl vc vr low high x1 x2 x3 x4 x5 vt D5 vk C1 t) 5 [.int .i64 k]=some (M6 nm vl vc vr low k x1 x2 x3 x4 x5 vt D5 vk C1 t):=rfl
theorem bw6:M3 (M6 nm vl vc vr low high x1 x2 x3 x4 x5 vt D5 vk C1 t) 6 [y1,y2,y3,y4,y5]=some (M6 nm vl vc vr low high y1 y2 y3 y4 y5 vt D5 vk C1 t):=rfl
theorem xJ:M3 (M6 nm vl vc vr low high x1 x2 x3 x4 x5 vt D5 vk C1 t) 11 [v]=some (M6 nm vl vc vr low high x1 x2 x3 x4 x5 v D5 vk C1 t):=rfl
theorem AK6:M3 (M6 nm vl vc vr low high x1 x2 x3 x4 x5 vt D5 vk C1 t) 12 [.int .i64 k]=some (M6 nm vl vc vr low high x1 x2 x3 x4 x5 vt k vk C1 t):=rfl
theorem rL:M3 (M6 nm vl vc vr low high x1 x2 x3 x4 x5 vt D5 vk C1 t) 13 [v]=some (M6 nm vl vc vr low high x1 x2 x3 x4 x5 vt D5 v C1 t):=rfl
theorem AK7:M3 (M6 nm vl vc vr low high x1 x2 x3 x4 x5 vt D5 vk C1 t) 14 [.int .i64 k]=some (M6 nm vl vc vr low high x1 x2 x3 x4 x5 vt D5 vk k t):=rfl
theorem AK8:M3 (M6 nm vl vc vr low high x1 x2 x3 x4 x5 vt D5 vk C1 t) 19 [.int .i64 k]=some (M6 nm vl vc vr low high x1 x2 x3 x4 x5 vt D5 vk C1 { t with s:=k }):=rfl
theorem bu1:sub (M6 nm vl vc vr low high x1 x2 x3 x4 x5 vt D5 vk C1 t) 1 1=some [vl]:=rfl
theorem bu2:sub (M6 nm vl vc vr low high x1 x2 x3 x4 x5 vt D5 vk C1 t) 2 1=some [vc]:=rfl
theorem bu3:sub (M6 nm vl vc vr low high x1 x2 x3 x4 x5 vt D5 vk C1 t) 3 1=some [vr]:=rfl
theorem bu6:sub (M6 nm vl vc vr low high x1 x2 x3 x4 x5 vt D5 vk C1 t) 6 5=some [x1,x2,x3,x4,x5]:=rfl
theorem xI:sub (M6 nm vl vc vr low high x1 x2 x3 x4 x5 vt D5 vk C1 t) 11 1=some [vt]:=rfl
theorem rK:sub (M6 nm vl vc vr low high x1 x2 x3 x4 x5 vt D5 vk C1 t) 13 1=some [vk]:=rfl
end
def OLI (a b:Nat) (Z:St) (size:Nat) (v:Value) (rows:List (List Value)):Prop:=OL a Z size v rows/\∀ x,K8 v=some x->x<b
theorem OL.zK {lo:Nat}{Z Z':St}{size:Nat}{v:Value}{rows:List (List Value)}(h:OL lo Z size v rows) (hn:Z.n<=Z'.n) (hk:∀ b,lo<=b->b<Z.n->K8 v=some b->Z'.h.get b=Z.h.get b):OL lo Z' size v rows :=
 h.E8 hn fun b hb=>hk b (h.blk hb).1 (h.blk hb).2 hb
theorem OLI.E8 {a b:Nat}{Z Z':St}{size:Nat}{v:Value}{rows:List (List Value)}(h:OLI a b Z size v rows) (hn:Z.n<=Z'.n) (hk:∀ c,a<=c->c<b->c<Z.n->Z'.h.get c=Z.h.get c):OLI a b Z' size v rows :=
 ⟨OL.zK h.1 hn fun c h1 h2 h3=>hk c h1 (h.2 c h3) h2,h.2⟩
theorem OLI.R8 {p a b:Nat}{Z Z':St}{size:Nat}{v:Value}{rows:List (List Value)}(h:OLI a b Z size v rows) (hX:C5 p Z Z') (hp:p<a):OLI a b Z' size v rows :=
 h.E8 hX.n fun c h1 _ h3=>hX.same c h3 om
structure BtS (Z0:St) (H:List Nat) (p q t:Nat) (q0 q1 q2 num:Int) (nm:By) (fr:Fr) (τ:St) (T:Tn) (vl vc vr x1 x2 x3 x4 x5 vt vk:Value) (vs:List Value) (a1 a2 a3 a4 a5:Nat):Prop where
 g2:fr.get 2=some (.pointer (some ⟨p,0,none⟩))
 g3:fr.get 3=some (.pointer (some ⟨q,0,none⟩))
 g4:fr.get 4=some (.pointer (some ⟨t,0,none⟩))
 g5:fr.get 5=some (.int .i64 num)
 g6:fr.get 6=some (str nm)
 E:Ext Z0 τ
 p0:Z0.n<=p
 q0':Z0.n<=q
 t0:Z0.n<=t
 pq:p≠q
 pt:p≠t
 qt:q≠t
 pl:p<a1
 ql:q<a1
 tl:t<a1
 b1:a1<=a2
 b2:a2<=a3
 b3:a3<=a4
 b4:a4<=a5
 b5:a5<=τ.n
 op:τ.A5 p=some (M6 T.name vl vc vr T.low T.high x1 x2 x3 x4 x5 vt T.D5 vk T.C1 T.t)
 oq:τ.A5 q=some [.int .i64 q0,.int .i64 q1,.int .i64 q2]
 ot:τ.A5 t=some z20
 l1:OLI a1 a2 τ 2 vl (T.D2.map Lot.row)
 l2:OLI a2 a3 τ 5 vc (T.C7.map R0.row)
 l3:OLI a3 a4 τ 3 vr (T.reqs.map Req.row)
 l4:OLI a4 a5 τ 1 vt (T.E9.map fun s=>[str s])
 l5:OLI a5 τ.n τ 1 vk (vs.map fun x=>[x])
 ks:CB (Ca (H6 Z0 H)) vs T.C3
 x:ExX (H6 Z0 H) [x1,x2,x3,x4,x5] T.f
 HH:∀ c∈H,c<Z0.n
section
variable {Z0:St} {H:List Nat} {p q t:Nat} {q0 q1 q2 num:Int} {nm:By} {fr:Fr} {τ:St} {T:Tn} {vl vc vr x1 x2 x3 x4 x5 vt vk:Value} {vs:List Value} {a1 a2 a3 a4 a5:Nat}
theorem BtS.lo (h:BtS Z0 H p q t q0 q1 q2 num nm fr τ T vl vc vr x1 x2 x3 x4 x5 vt vk vs a1 a2 a3 a4 a5):∀ c∈p::t::H,c<a1:=by
 intro c hc;have:=h.p0;have:=h.pl;rcases List.mem_cons.1 hc with rfl|hc
 ·exact h.pl
 rcases List.mem_cons.1 hc with rfl|hc
 ·exact h.tl
 have:=h.HH c hc;omega
theorem BtS.base (h:BtS Z0 H p q t q0 q1 q2 num nm fr τ T vl vc vr x1 x2 x3 x4 x5 vt vk vs a1 a2 a3 a4 a5){F:St}(hE:Ext Z0 F):CB (Ca (H6 F (p::t::H))) vs T.C3/\ExX (H6 F (p::t::H)) [x1,x2,x3,x4,x5] T.f:=by
 have hk:o0 (H6 Z0 H) (H6 F (p::t::H)):=I5 hE.n fun c hc hm=>⟨by have:=h.p0;have:=h.t0;simp only [List.mem_cons,not_or];exact ⟨om,om,hm⟩,by rw [hE.row hc]⟩
 exact ⟨h.ks.mono fun _ _ h=>SL.E8 h hk,h.x.E8 hk⟩
theorem BtS.same (h:BtS Z0 H p q t q0 q1 q2 num nm fr τ T vl vc vr x1 x2 x3 x4 x5 vt vk vs a1 a2 a3 a4 a5){F:St}(lo hi:Nat) (hn:τ.n<=F.n) (hs:∀ c,a1<=c->c<τ.n->(c<lo\/hi<=c)->F.h.get c=τ.h.get c) :
  ((a2<=lo\/hi<=a1)->OL a1 F 2 vl (T.D2.map Lot.row))/\((a3<=lo\/hi<=a2)->OL a1 F 5 vc (T.C7.map R0.row))/\((a4<=lo\/hi<=a3)->OL a1 F 3 vr (T.reqs.map Req.row))/\((a5<=lo\/hi<=a4)->OL a1 F 1 vt (T.E9.map fun s=>[str s]))/\((τ.n<=lo\/hi<=a5)->OL a1 F 1 vk (vs.map fun x=>[x])):=by
 have b1:=h.b1;have b2:=h.b2;have b3:=h.b3;have b4:=h.b4;refine ⟨fun g=>OL.lower (h.l1.E8 hn fun c c1 c2 c3=>hs c om c3 om).1 om,fun g=>OL.lower (h.l2.E8 hn fun c c1 c2 c3=>hs c om c3 om).1 om,fun g=>OL.lower (h.l3.E8 hn fun c c1 c2 c3=>hs c om c3 om).1 om,fun g=>OL.lower (h.l4.E8 hn fun c c1 c2 c3=>hs c om c3 om).1 om,fun g=>OL.lower (h.l5.E8 hn fun c c1 c2 c3=>hs c om c3 om).1 om⟩
end
def BtE (Z0:St) (H:List Nat) (p t w m n:Nat) (r:Res):Prop:=∃ fr τ cells V,r=⟨.normal,fr,τ⟩/\fr.get 2=some (.pointer (some ⟨p,0,none⟩))/\fr.get 4=some (.pointer (some ⟨t,0,none⟩))/\Ext Z0 τ/\t<τ.n/\τ.A5 p=some cells/\τ.A5 t=some z20/\TnY (H6 τ (p::t::H)) cells V/\WkT w m n V
def BtQ (Z0:St) (H:List Nat) (t w m n:Nat) (r:Res):Prop:=∃ fr τ cells V,r=⟨.ret,fr,τ⟩/\fr.get 4=some (.pointer (some ⟨t,0,none⟩))/\τ.A5 t=some cells/\Ext Z0 τ/\TnY (H6 τ H) cells V/\WkT w m n V
theorem uF {Z0:St}{H:List Nat}{p t w m n:Nat}(t0:Z0.n<=t) (pt:p≠t){r:Res}(h:BtE Z0 H p t w m n r):Ev (Y6 r (lim Tryz.prog HS none (bnC [1,1,1,1,1,1,1,1,1]))) (BtQ Z0 H t w m n) ⟨⟩:=by
 obtain ⟨fr,τ,cells,V,rfl,g2,g4,hE,tl,op,ot,hT,hW⟩:=h;have hc:=hT.tn.cells;obtain ⟨a0,a1,a2,a3,a4,a5,a6,a7,a8,a9,a10,a11,a12,a13,a14,a15,a16,a17,a18,a19,rfl⟩:=hc;have rp:=A8 op;unfold z20 at ot;simp only [W4,bnC,Tryz.f20,F9,I7,U9,V0,V6,V7];refine gU1 (a7N @A1 @A7 @g2 @g4 @rp @op @ot) ?_;refine ⟨_,_,_,V,rfl,fR1 g4,cL,hE.upd t0 _,hT.E8 (I5 (by simp) fun c hc hm=>?_),hW⟩;simp only [List.mem_cons,not_or] at hm;exact ⟨hm.2.2,D9 hm.2.1⟩
theorem Cs {F:St}{lo p t:Nat}{H:List Nat}{V:Tn}{vl vc vr x1 x2 x3 x4 x5 vt vk:Value}{vs:List Value}(hH:∀ c∈p::t::H,c<lo) (h1:OL lo F 2 vl (V.D2.map Lot.row)) (h2:OL lo F 5 vc (V.C7.map R0.row)) (h3:OL lo F 3 vr (V.reqs.map Req.row)) (h4:OL lo F 1 vt (V.E9.map fun s=>[str s])) (h5:OL lo F 1 vk (vs.map fun x=>[x]))
  (hk:CB (Ca (H6 F (p::t::H))) vs V.C3) (hx:ExX (H6 F (p::t::H)) [x1,x2,x3,x4,x5] V.f):TnY (H6 F (p::t::H)) (M6 V.name vl vc vr V.low V.high x1 x2 x3 x4 x5 vt V.D5 vk V.C1 V.t) V :=
 ⟨vl,vc,vr,_,vt,vk,vs,rfl,OL.H6 h1 hH,OL.H6 h2 hH,OL.H6 h3 hH,hx,OL.H6 h4 hH,OL.H6 h5 hH,hk⟩
theorem vg:bnC []= .seq (bnC [0]) (bnC [1]):=by kernel_rfl
theorem vh:bnC [1]= .seq (bnC [1,0]) (bnC [1,1]):=by kernel_rfl
theorem vi:bnC [1,1]= .seq (bnC [1,1,0]) (bnC [1,1,1]):=by kernel_rfl
theorem vj:bnC [1,1,1]= .seq (bnC [1,1,1,0]) (bnC [1,1,1,1]):=by kernel_rfl
theorem vm:bnC [1,1,1,1]= .seq (bnC [1,1,1,1,0]) (bnC [1,1,1,1,1]):=by kernel_rfl
theorem vp:bnC [1,1,1,1,1]= .seq (bnC [1,1,1,1,1,0]) (bnC [1,1,1,1,1,1]):=by kernel_rfl
theorem vq:bnC [1,1,1,1,1,1]= .seq (bnC [1,1,1,1,1,1,0]) (bnC [1,1,1,1,1,1,1]):=by kernel_rfl
theorem vu:bnC [1,1,1,1,1,1,1]= .seq (bnC [1,1,1,1,1,1,1,0]) (bnC [1,1,1,1,1,1,1,1]):=by kernel_rfl
theorem pY {k:Nat}(h:k<6):∃ n:Int,sub ([.int .i64 (-1),.int .i64 0,.int .i64 1,.int .i64 1000000000,.int .i64 1000000001,.int .i64 7]:List Value) k 1=some [.int .i64 n]/\SmW n:=by
 match k,h with
 | 0,_=>exact ⟨_,rfl,by unfold SmW;omega⟩
 | 1,_=>exact ⟨_,rfl,by unfold SmW;omega⟩
 | 2,_=>exact ⟨_,rfl,by unfold SmW;omega⟩
 | 3,_=>exact ⟨_,rfl,by unfold SmW;omega⟩
 | 4,_=>exact ⟨_,rfl,by unfold SmW;omega⟩
 | 5,_=>exact ⟨_,rfl,by unfold SmW;omega⟩
def nmL:List Value:=[str [],str [112,114,105,99,101],str [109,105,110],str [115,112,101,101,100],str [57,120],str [97,98,99,100,101,102,103,104,105,106,107,108,109,110,111,112,113,114,115,116,117,118,119,120,121,122,97,98,99,100,101]]
theorem vv {k:Nat}(h:k<6):∃ s:By,sub nmL k 1=some [str s]/\s.length<=31:=by
 match k,h with
 | 0,_=>exact ⟨_,rfl,by decide⟩
 | 1,_=>exact ⟨_,rfl,by decide⟩
 | 2,_=>exact ⟨_,rfl,by decide⟩
 | 3,_=>exact ⟨_,rfl,by decide⟩
 | 4,_=>exact ⟨_,rfl,by decide⟩
 | 5,_=>exact ⟨_,rfl,by decide⟩
theorem vw {fr:Fr}{τ:St}{p:Nat}{T:Tn}{vl vc vr x1 x2 x3 x4 x5 vt vk:Value}{vs:List Value}(g2:fr.get 2=some (.pointer (some ⟨p,0,none⟩))) (hp:p<τ.n) (op:τ.A5 p=some (M6 T.name vl vc vr T.low T.high x1 x2 x3 x4 x5 vt T.D5 vk T.C1 T.t)) (hl:SLs τ 2 vl (T.D2.map Lot.row)) (hn:T.D2.length<=100) :
  Ev (lim Tryz.prog HS none (bnC [1,1,1,0]) fr τ) (fun r=>∃ fr' τ',r=⟨.normal,fr',τ'⟩/\(∀ i,2<=i->i<=6->fr'.get i=fr.get i)/\∃ v',τ'.A5 p=some (M6 T.name v' vc vr T.low T.high x1 x2 x3 x4 x5 vt T.D5 vk T.C1 T.t)/\OLI τ.n τ'.n τ' 2 v' (T.D2.map Lot.row)/\C5 p τ τ') ⟨⟩:=by
 have rp:=A8 op;simp only [bnC,Tryz.f20,F9,I7,U9,V0,V6,V7];refine gU1 (a9N @A1 @N7 @K2 @J0 @J5 @F4 @g2 @rp @bu1) ?_;refine Fi (size:=2) (rows:=(T.D2.map Lot.row)) (fun _ _ _ _=>T1) (K5 (Nat.le_refl _) (Nat.le_refl _)) (by simp) (hl.E8 (o0.Ic (.new _ _))) (by rw [List.length_map];omega) ?_;rintro v1 Z1 ho1 hX1;have n1:=hX1.n;simp only [N3] at n1;have op1:Z1.A5 p=some (M6 T.name vl vc vr T.low T.high x1 x2 x3 x4 x5 vt T.D5 vk T.C1 T.t):=by rw [hX1.A5 (by simp;omega) om,F5 om];exact op
 have hbk:∀ b,K8 v1=some b->b<Z1.n:=fun b hb=>(ho1.blk hb).2;obtain ⟨aa,rfl⟩:=OL.shape ho1;refine gU1 (a9N @A1 @N7 @K2 @J0 @J5 @F4 @g2 @op1 @bw1) ?_;refine ⟨_,_,rfl,fun i h1 h2=>?_,_,cL,⟨OL.R8 ho1 (C5.refl.upd _) om,fun b hb=>hbk b hb⟩,⟨by show τ.n<=Z1.n;omega,fun c hc hne=>by rw [J8,if_neg hne,hX1.same c (by simp;omega) om,M7,if_neg om]⟩⟩
 repeat rw [L7,if_neg om]
theorem vx {fr:Fr}{τ:St}{p:Nat}{T:Tn}{vl vc vr x1 x2 x3 x4 x5 vt vk:Value}{vs:List Value}(g2:fr.get 2=some (.pointer (some ⟨p,0,none⟩))) (hp:p<τ.n) (op:τ.A5 p=some (M6 T.name vl vc vr T.low T.high x1 x2 x3 x4 x5 vt T.D5 vk T.C1 T.t)) (hl:SLs τ 5 vc (T.C7.map R0.row)) (hn:T.C7.length<=100) :
  Ev (lim Tryz.prog HS none (bnC [1,1,1,1,0]) fr τ) (fun r=>∃ fr' τ',r=⟨.normal,fr',τ'⟩/\(∀ i,2<=i->i<=6->fr'.get i=fr.get i)/\∃ v',τ'.A5 p=some (M6 T.name vl v' vr T.low T.high x1 x2 x3 x4 x5 vt T.D5 vk T.C1 T.t)/\OLI τ.n τ'.n τ' 5 v' (T.C7.map R0.row)/\C5 p τ τ') ⟨⟩:=by
 have rp:=A8 op;simp only [bnC,Tryz.f20,F9,I7,U9,V0,V6,V7];refine gU1 (a9N @A1 @N7 @K2 @J0 @J5 @F4 @g2 @rp @bu2) ?_;refine Fi (size:=5) (rows:=(T.C7.map R0.row)) (fun _ _ _ _=>T5) (K5 (Nat.le_refl _) (Nat.le_refl _)) (by simp) (hl.E8 (o0.Ic (.new _ _))) (by rw [List.length_map];omega) ?_;rintro v1 Z1 ho1 hX1;have n1:=hX1.n;simp only [N3] at n1;have op1:Z1.A5 p=some (M6 T.name vl vc vr T.low T.high x1 x2 x3 x4 x5 vt T.D5 vk T.C1 T.t):=by rw [hX1.A5 (by simp;omega) om,F5 om];exact op
 have hbk:∀ b,K8 v1=some b->b<Z1.n:=fun b hb=>(ho1.blk hb).2;obtain ⟨aa,rfl⟩:=OL.shape ho1;refine gU1 (a9N @A1 @N7 @K2 @J0 @J5 @F4 @g2 @op1 @bw2) ?_;refine ⟨_,_,rfl,fun i h1 h2=>?_,_,cL,⟨OL.R8 ho1 (C5.refl.upd _) om,fun b hb=>hbk b hb⟩,⟨by show τ.n<=Z1.n;omega,fun c hc hne=>by rw [J8,if_neg hne,hX1.same c (by simp;omega) om,M7,if_neg om]⟩⟩
 repeat rw [L7,if_neg om]
theorem vy {fr:Fr}{τ:St}{p:Nat}{T:Tn}{vl vc vr x1 x2 x3 x4 x5 vt vk:Value}{vs:List Value}(g2:fr.get 2=some (.pointer (some ⟨p,0,none⟩))) (hp:p<τ.n) (op:τ.A5 p=some (M6 T.name vl vc vr T.low T.high x1 x2 x3 x4 x5 vt T.D5 vk T.C1 T.t)) (hl:SLs τ 3 vr (T.reqs.map Req.row)) (hn:T.reqs.length<=100) :
  Ev (lim Tryz.prog HS none (bnC [1,1,1,1,1,0]) fr τ) (fun r=>∃ fr' τ',r=⟨.normal,fr',τ'⟩/\(∀ i,2<=i->i<=6->fr'.get i=fr.get i)/\∃ v',τ'.A5 p=some (M6 T.name vl vc v' T.low T.high x1 x2 x3 x4 x5 vt T.D5 vk T.C1 T.t)/\OLI τ.n τ'.n τ' 3 v' (T.reqs.map Req.row)/\C5 p τ τ') ⟨⟩:=by
 have rp:=A8 op;simp only [bnC,Tryz.f20,F9,I7,U9,V0,V6,V7];refine gU1 (a9N @A1 @N7 @K2 @J0 @J5 @F4 @g2 @rp @bu3) ?_;refine Fi (size:=3) (rows:=(T.reqs.map Req.row)) (fun _ _ _ _=>R6) (K5 (Nat.le_refl _) (Nat.le_refl _)) (by simp) (hl.E8 (o0.Ic (.new _ _))) (by rw [List.length_map];omega) ?_;rintro v1 Z1 ho1 hX1;have n1:=hX1.n;simp only [N3] at n1;have op1:Z1.A5 p=some (M6 T.name vl vc vr T.low T.high x1 x2 x3 x4 x5 vt T.D5 vk T.C1 T.t):=by rw [hX1.A5 (by simp;omega) om,F5 om];exact op
 have hbk:∀ b,K8 v1=some b->b<Z1.n:=fun b hb=>(ho1.blk hb).2;obtain ⟨aa,rfl⟩:=OL.shape ho1;refine gU1 (a9N @A1 @N7 @K2 @J0 @J5 @F4 @g2 @op1 @bw3) ?_;refine ⟨_,_,rfl,fun i h1 h2=>?_,_,cL,⟨OL.R8 ho1 (C5.refl.upd _) om,fun b hb=>hbk b hb⟩,⟨by show τ.n<=Z1.n;omega,fun c hc hne=>by rw [J8,if_neg hne,hX1.same c (by simp;omega) om,M7,if_neg om]⟩⟩
 repeat rw [L7,if_neg om]
theorem vz {fr:Fr}{τ:St}{p:Nat}{T:Tn}{vl vc vr x1 x2 x3 x4 x5 vt vk:Value}{vs:List Value}(g2:fr.get 2=some (.pointer (some ⟨p,0,none⟩))) (hp:p<τ.n) (op:τ.A5 p=some (M6 T.name vl vc vr T.low T.high x1 x2 x3 x4 x5 vt T.D5 vk T.C1 T.t)) (hl:SLs τ 1 vt (T.E9.map fun s=>[str s])) (hn:T.E9.length<=100) :
  Ev (lim Tryz.prog HS none (bnC [1,1,1,1,1,1,0]) fr τ) (fun r=>∃ fr' τ',r=⟨.normal,fr',τ'⟩/\(∀ i,2<=i->i<=6->fr'.get i=fr.get i)/\∃ v',τ'.A5 p=some (M6 T.name vl vc vr T.low T.high x1 x2 x3 x4 x5 v' T.D5 vk T.C1 T.t)/\OLI τ.n τ'.n τ' 1 v' (T.E9.map fun s=>[str s])/\C5 p τ τ') ⟨⟩:=by
 have rp:=A8 op;simp only [bnC,Tryz.f20,F9,I7,U9,V0,V6,V7];refine gU1 (a9N @A1 @N7 @K2 @J0 @J5 @F4 @g2 @rp @xI) ?_;refine Fi (size:=1) (rows:=(T.E9.map fun s=>[str s])) (fun _ _ _ _=>R7) (K5 (Nat.le_refl _) (Nat.le_refl _)) (by simp) (hl.E8 (o0.Ic (.new _ _))) (by rw [List.length_map];omega) ?_;rintro v1 Z1 ho1 hX1;have n1:=hX1.n;simp only [N3] at n1;have op1:Z1.A5 p=some (M6 T.name vl vc vr T.low T.high x1 x2 x3 x4 x5 vt T.D5 vk T.C1 T.t):=by rw [hX1.A5 (by simp;omega) om,F5 om];exact op
 have hbk:∀ b,K8 v1=some b->b<Z1.n:=fun b hb=>(ho1.blk hb).2;obtain ⟨aa,rfl⟩:=OL.shape ho1;refine gU1 (a9N @A1 @N7 @K2 @J0 @J5 @F4 @g2 @op1 @xJ) ?_;refine ⟨_,_,rfl,fun i h1 h2=>?_,_,cL,⟨OL.R8 ho1 (C5.refl.upd _) om,fun b hb=>hbk b hb⟩,⟨by show τ.n<=Z1.n;omega,fun c hc hne=>by rw [J8,if_neg hne,hX1.same c (by simp;omega) om,M7,if_neg om]⟩⟩
 repeat rw [L7,if_neg om]
theorem wA {fr:Fr}{τ:St}{p:Nat}{T:Tn}{vl vc vr x1 x2 x3 x4 x5 vt vk:Value}{vs:List Value}(g2:fr.get 2=some (.pointer (some ⟨p,0,none⟩))) (hp:p<τ.n) (op:τ.A5 p=some (M6 T.name vl vc vr T.low T.high x1 x2 x3 x4 x5 vt T.D5 vk T.C1 T.t)) (hl:SLs τ 1 vk (vs.map fun x=>[x])) (hn:vs.length<=100) :
  Ev (lim Tryz.prog HS none (bnC [1,1,1,1,1,1,1,0]) fr τ) (fun r=>∃ fr' τ',r=⟨.normal,fr',τ'⟩/\(∀ i,2<=i->i<=6->fr'.get i=fr.get i)/\∃ v',τ'.A5 p=some (M6 T.name vl vc vr T.low T.high x1 x2 x3 x4 x5 vt T.D5 v' T.C1 T.t)/\OLI τ.n τ'.n τ' 1 v' (vs.map fun x=>[x])/\C5 p τ τ') ⟨⟩:=by
 have rp:=A8 op;simp only [bnC,Tryz.f20,F9,I7,U9,V0,V6,V7];refine gU1 (a9N @A1 @N7 @K2 @J0 @J5 @F4 @g2 @rp @rK) ?_;refine Fi (size:=1) (rows:=(vs.map fun x=>[x])) (fun _ _ _ _=>Q8) (K5 (Nat.le_refl _) (Nat.le_refl _)) (by simp) (hl.E8 (o0.Ic (.new _ _))) (by rw [List.length_map];omega) ?_;rintro v1 Z1 ho1 hX1;have n1:=hX1.n;simp only [N3] at n1;have op1:Z1.A5 p=some (M6 T.name vl vc vr T.low T.high x1 x2 x3 x4 x5 vt T.D5 vk T.C1 T.t):=by rw [hX1.A5 (by simp;omega) om,F5 om];exact op
 have hbk:∀ b,K8 v1=some b->b<Z1.n:=fun b hb=>(ho1.blk hb).2;obtain ⟨aa,rfl⟩:=OL.shape ho1;refine gU1 (a9N @A1 @N7 @K2 @J0 @J5 @F4 @g2 @op1 @rL) ?_;refine ⟨_,_,rfl,fun i h1 h2=>?_,_,cL,⟨OL.R8 ho1 (C5.refl.upd _) om,fun b hb=>hbk b hb⟩,⟨by show τ.n<=Z1.n;omega,fun c hc hne=>by rw [J8,if_neg hne,hX1.same c (by simp;omega) om,M7,if_neg om]⟩⟩
 repeat rw [L7,if_neg om]
theorem pZ {Z:St}{T:Tn}{q0 q1 q2:Int}{vl vc vr x1 x2 x3 x4 x5 vt vk:Value}{Q:Res->Prop}{u:Hd Q}(hq1:u7 q1)
  (k:∀ (num:Int) (nm:By) (fr:Fr) (τ:St),SmW num->nm.length<=31->fr.get 2=some (.pointer (some ⟨Z.n,0,none⟩))->fr.get 3=some (.pointer (some ⟨Z.n+1,0,none⟩))->fr.get 4=some (.pointer (some ⟨Z.n+2,0,none⟩))->fr.get 5=some (.int .i64 num)->fr.get 6=some (str nm)->Ext Z τ->τ.n=Z.n+5 ->
    τ.A5 Z.n=some (M6 T.name vl vc vr T.low T.high x1 x2 x3 x4 x5 vt T.D5 vk T.C1 T.t)->τ.A5 (Z.n+1)=some [.int .i64 q0,.int .i64 q1,.int .i64 q2]->τ.A5 (Z.n+2)=some z20->Ev (lim Tryz.prog HS none (bnC [1,1,1]) fr τ) Q ⟨⟩) :
  Ev (lim Tryz.prog HS none (bnC []) (Cx [.agg ⟨M6 T.name vl vc vr T.low T.high x1 x2 x3 x4 x5 vt T.D5 vk T.C1 T.t⟩,.agg ⟨[.int .i64 q0,.int .i64 q1,.int .i64 q2]⟩] 0 .nil) Z) Q u:=by
 obtain ⟨X,hX⟩:∃ X,bnC [1,1,1]=X:=⟨_,rfl⟩
 rw [vg,vh,vi,hX];rw [hX] at k;simp only [bnC,Tryz.f20,F9,I7,U9,V0,V6,V7];clear hX;obtain ⟨B,hB⟩:∃ B,M6 T.name vl vc vr T.low T.high x1 x2 x3 x4 x5 vt T.D5 vk T.C1 T.t=B:=⟨_,rfl⟩
 have bl:B.length=20:=by rw [<- hB];rfl
 rw [hB] at k ⊢;clear hB;refine gU1 (a8N @A1 @N7 @K2 @J0 @J5 @F4 @DU @bl) ?_;refine (Y9 (m:=6) hq1 om om).mono ?_;rintro r rfl;have z1:0<=q1 % 6:=Int.emod_nonneg _ om;have z2:q1 % 6<6:=Int.emod_lt_of_pos _ om;obtain ⟨z,hz⟩:=Int.eq_ofNat_of_zero_le z1;rw [hz] at z2 ⊢;obtain ⟨num,hn1,hn2⟩:=pY (k:=z) om;obtain ⟨nm,hm1,hm2⟩:=vv (k:=z) om;unfold nmL at hm1;refine gU1 (a8N @A1 @N7 @K2 @J0 @J5 @F4 @DU @hn1) ?_;refine (Y9 (m:=6) hq1 om om).mono ?_;rintro r rfl;rw [hz];refine gU1 (a8N @A1 @N7 @K2 @J0 @J5 @F4 @DU @hm1) ?_;exact k num nm _ _ hn2 hm2 (fR) (fR) (fR) (fR) (fR) (eX) rfl (cL) (cL) (by unfold z20;exact cL)
theorem gm {Z:St}{H:List Nat}{ca:List Value}{T:Tn}{q0 q1 q2:Int}{Q:Res->Prop}{u:Hd Q}(hH:∀ c∈H,c<Z.n) (hT:TnY (H6 Z H) ca T) (c1:T.D2.length<=100) (c2:T.C7.length<=100) (c3:T.reqs.length<=100) (c4:T.E9.length<=100) (c5:T.C3.length<=100) (hq1:u7 q1)
  (k:∀ (num:Int) (nm:By) (fr:Fr) (τ:St) (vl vc vr x1 x2 x3 x4 x5 vt vk:Value) (vs:List Value) (a1 a2 a3 a4 a5:Nat),SmW num->nm.length<=31->BtS Z H Z.n (Z.n+1) (Z.n+2) q0 q1 q2 num nm fr τ T vl vc vr x1 x2 x3 x4 x5 vt vk vs a1 a2 a3 a4 a5->Ev (lim Tryz.prog HS none (bnC [1,1,1,1,1,1,1,1]) fr τ) Q ⟨⟩) :
  Ev (lim Tryz.prog HS none (bnC []) (Cx [.agg ⟨ca⟩,.agg ⟨[.int .i64 q0,.int .i64 q1,.int .i64 q2]⟩] 0 .nil) Z) Q u:=by
 obtain ⟨vl,vc,vr,ex,vt,vk,vs,hca,hl,hc,hr,hx,ht,hk,hkk⟩:=hT;obtain ⟨x1,x2,x3,x4,x5,rfl⟩:=fc5 hx.to;have AU8:ca=M6 T.name vl vc vr T.low T.high x1 x2 x3 x4 x5 vt T.D5 vk T.C1 T.t:=hca;subst AU8;clear hca;have hvl:=hkk.len;refine pZ hq1 ?_;intro num nm fr τ Ai hnm g2 g3 g4 g5 g6 E0 n0 p0 q0' t0;have kp:∀ {Z':St},Ext Z Z'->o0 (H6 Z H) Z':=fun h=>Ja.trans (o0.Ic h);rw [vj,Ci];refine (vw (fr:=fr) (p:=Z.n) (vs:=vs) g2 om p0 (hl.E8 (kp E0)) c1).mono ?_;rintro r ⟨fr0,τ0,rfl,kf,V1,p1,o1,X1⟩;simp only [W4];have g2:=(kf 2 om om).trans g2;have g3:=(kf 3 om om).trans g3;have g4:=(kf 4 om om).trans g4;have g5:=(kf 5 om om).trans g5;have g6:=(kf 6 om om).trans g6;have m1:=X1.n;have E0:=X1.ext E0 (Nat.le_refl _);have q0':=(X1.A5 (b:=Z.n+1) om om).trans q0';have t0:=(X1.A5 (b:=Z.n+2) om om).trans t0;clear kf p0;have p0:=p1;clear p1;rw [vm,Ci];refine (vx (fr:=fr0) (p:=Z.n) (vs:=vs) g2 om p0 (hc.E8 (kp E0)) c2).mono ?_;rintro r ⟨fr1,τ1,rfl,kf,V2,p1,o2,X2⟩;simp only [W4];have g2:=(kf 2 om om).trans g2;have g3:=(kf 3 om om).trans g3;have g4:=(kf 4 om om).trans g4;have g5:=(kf 5 om om).trans g5;have g6:=(kf 6 om om).trans g6;have m2:=X2.n;have E0:=X2.ext E0 (Nat.le_refl _);have q0':=(X2.A5 (b:=Z.n+1) om om).trans q0';have t0:=(X2.A5 (b:=Z.n+2) om om).trans t0;clear kf p0;have p0:=p1;clear p1;rw [vp,Ci];refine (vy (fr:=fr1) (p:=Z.n) (vs:=vs) g2 om p0 (hr.E8 (kp E0)) c3).mono ?_;rintro r ⟨fr2,τ2,rfl,kf,V3,p1,o3,X3⟩;simp only [W4];have g2:=(kf 2 om om).trans g2;have g3:=(kf 3 om om).trans g3;have g4:=(kf 4 om om).trans g4;have g5:=(kf 5 om om).trans g5;have g6:=(kf 6 om om).trans g6;have m3:=X3.n;have E0:=X3.ext E0 (Nat.le_refl _);have q0':=(X3.A5 (b:=Z.n+1) om om).trans q0';have t0:=(X3.A5 (b:=Z.n+2) om om).trans t0;clear kf p0;have p0:=p1;clear p1;rw [vq,Ci];refine (vz (fr:=fr2) (p:=Z.n) (vs:=vs) g2 om p0 (ht.E8 (kp E0)) c4).mono ?_;rintro r ⟨fr3,τ3,rfl,kf,V4,p1,o4,X4⟩;simp only [W4];have g2:=(kf 2 om om).trans g2;have g3:=(kf 3 om om).trans g3;have g4:=(kf 4 om om).trans g4;have g5:=(kf 5 om om).trans g5;have g6:=(kf 6 om om).trans g6;have m4:=X4.n;have E0:=X4.ext E0 (Nat.le_refl _);have q0':=(X4.A5 (b:=Z.n+1) om om).trans q0';have t0:=(X4.A5 (b:=Z.n+2) om om).trans t0;clear kf p0;have p0:=p1;clear p1;rw [vu,Ci];refine (wA (fr:=fr3) (p:=Z.n) (vs:=vs) g2 om p0 (hk.E8 (kp E0)) om).mono ?_;rintro r ⟨fr4,τ4,rfl,kf,V5,p1,o5,X5⟩;simp only [W4];have g2:=(kf 2 om om).trans g2;have g3:=(kf 3 om om).trans g3;have g4:=(kf 4 om om).trans g4;have g5:=(kf 5 om om).trans g5;have g6:=(kf 6 om om).trans g6;have m5:=X5.n;have E0:=X5.ext E0 (Nat.le_refl _);have q0':=(X5.A5 (b:=Z.n+1) om om).trans q0';have t0:=(X5.A5 (b:=Z.n+2) om om).trans t0;clear kf p0;have p0:=p1;clear p1
 refine k num nm _ _ V1 V2 V3 x1 x2 x3 x4 x5 V4 V5 vs τ.n τ0.n τ1.n τ2.n τ3.n Ai hnm ⟨g2,g3,g4,g5,g6,E0,Nat.le_refl _,om,om,om,om,om,om,om,om,m1,m2,m3,m4,m5,p0,q0',t0,
  (((o1.R8 X2 om).R8 X3 om).R8 X4 om).R8 X5 om,((o2.R8 X3 om).R8 X4 om).R8 X5 om,(o3.R8 X4 om).R8 X5 om,o4.R8 X5 om,o5,hkk,hx,hH⟩
theorem cm0:decide ((0:Int)=0)=true:=rfl
theorem cm1:decide ((1:Int)=0)=false/\decide ((1:Int)=1)=true:=⟨rfl,rfl⟩
theorem cm2:decide ((2:Int)=0)=false/\decide ((2:Int)=1)=false/\decide ((2:Int)=2)=true:=⟨rfl,rfl,rfl⟩
theorem cm3:decide ((3:Int)=0)=false/\decide ((3:Int)=1)=false/\decide ((3:Int)=2)=false/\decide ((3:Int)=3)=true:=⟨rfl,rfl,rfl,rfl⟩
theorem cm4:decide ((4:Int)=0)=false/\decide ((4:Int)=1)=false/\decide ((4:Int)=2)=false/\decide ((4:Int)=3)=false/\decide ((4:Int)=4)=true:=⟨rfl,rfl,rfl,rfl,rfl⟩
theorem cm5:decide ((5:Int)=0)=false/\decide ((5:Int)=1)=false/\decide ((5:Int)=2)=false/\decide ((5:Int)=3)=false/\decide ((5:Int)=4)=false/\decide ((5:Int)=5)=true:=⟨rfl,rfl,rfl,rfl,rfl,rfl⟩
theorem cm6:decide ((6:Int)=0)=false/\decide ((6:Int)=1)=false/\decide ((6:Int)=2)=false/\decide ((6:Int)=3)=false/\decide ((6:Int)=4)=false/\decide ((6:Int)=5)=false/\decide ((6:Int)=6)=true:=⟨rfl,rfl,rfl,rfl,rfl,rfl,rfl⟩
theorem cm7:decide ((7:Int)=0)=false/\decide ((7:Int)=1)=false/\decide ((7:Int)=2)=false/\decide ((7:Int)=3)=false/\decide ((7:Int)=4)=false/\decide ((7:Int)=5)=false/\decide ((7:Int)=6)=false/\decide ((7:Int)=7)=true:=⟨rfl,rfl,rfl,rfl,rfl,rfl,rfl,rfl⟩
theorem cm8:decide ((8:Int)=0)=false/\decide ((8:Int)=1)=false/\decide ((8:Int)=2)=false/\decide ((8:Int)=3)=false/\decide ((8:Int)=4)=false/\decide ((8:Int)=5)=false/\decide ((8:Int)=6)=false/\decide ((8:Int)=7)=false/\decide ((8:Int)=8)=true:=⟨rfl,rfl,rfl,rfl,rfl,rfl,rfl,rfl,rfl⟩
theorem cm9:decide ((9:Int)=0)=false/\decide ((9:Int)=1)=false/\decide ((9:Int)=2)=false/\decide ((9:Int)=3)=false/\decide ((9:Int)=4)=false/\decide ((9:Int)=5)=false/\decide ((9:Int)=6)=false/\decide ((9:Int)=7)=false/\decide ((9:Int)=8)=false/\decide ((9:Int)=9)=true:=⟨rfl,rfl,rfl,rfl,rfl,rfl,rfl,rfl,rfl,rfl⟩
theorem AV6:decide ((10:Int)=0)=false/\decide ((10:Int)=1)=false/\decide ((10:Int)=2)=false/\decide ((10:Int)=3)=false/\decide ((10:Int)=4)=false/\decide ((10:Int)=5)=false/\decide ((10:Int)=6)=false/\decide ((10:Int)=7)=false/\decide ((10:Int)=8)=false/\decide ((10:Int)=9)=false/\decide ((10:Int)=10)=true:=⟨rfl,rfl,rfl,rfl,rfl,rfl,rfl,rfl,rfl,rfl,rfl⟩
theorem AV7:decide ((11:Int)=0)=false/\decide ((11:Int)=1)=false/\decide ((11:Int)=2)=false/\decide ((11:Int)=3)=false/\decide ((11:Int)=4)=false/\decide ((11:Int)=5)=false/\decide ((11:Int)=6)=false/\decide ((11:Int)=7)=false/\decide ((11:Int)=8)=false/\decide ((11:Int)=9)=false/\decide ((11:Int)=10)=false/\decide ((11:Int)=11)=true:=⟨rfl,rfl,rfl,rfl,rfl,rfl,rfl,rfl,rfl,rfl,rfl,rfl⟩
theorem AL7:decide ((12:Int)=0)=false/\decide ((12:Int)=1)=false/\decide ((12:Int)=2)=false/\decide ((12:Int)=3)=false/\decide ((12:Int)=4)=false/\decide ((12:Int)=5)=false/\decide ((12:Int)=6)=false/\decide ((12:Int)=7)=false/\decide ((12:Int)=8)=false/\decide ((12:Int)=9)=false/\decide ((12:Int)=10)=false/\decide ((12:Int)=11)=false/\decide ((12:Int)=12)=true:=⟨rfl,rfl,rfl,rfl,rfl,rfl,rfl,rfl,rfl,rfl,rfl,rfl,rfl⟩
theorem AL8:decide ((13:Int)=0)=false/\decide ((13:Int)=1)=false/\decide ((13:Int)=2)=false/\decide ((13:Int)=3)=false/\decide ((13:Int)=4)=false/\decide ((13:Int)=5)=false/\decide ((13:Int)=6)=false/\decide ((13:Int)=7)=false/\decide ((13:Int)=8)=false/\decide ((13:Int)=9)=false/\decide ((13:Int)=10)=false/\decide ((13:Int)=11)=false/\decide ((13:Int)=12)=false/\decide ((13:Int)=13)=true:=⟨rfl,rfl,rfl,rfl,rfl,rfl,rfl,rfl,rfl,rfl,rfl,rfl,rfl,rfl⟩
theorem AL9:decide ((14:Int)=0)=false/\decide ((14:Int)=1)=false/\decide ((14:Int)=2)=false/\decide ((14:Int)=3)=false/\decide ((14:Int)=4)=false/\decide ((14:Int)=5)=false/\decide ((14:Int)=6)=false/\decide ((14:Int)=7)=false/\decide ((14:Int)=8)=false/\decide ((14:Int)=9)=false/\decide ((14:Int)=10)=false/\decide ((14:Int)=11)=false/\decide ((14:Int)=12)=false/\decide ((14:Int)=13)=false/\decide ((14:Int)=14)=true:=⟨rfl,rfl,rfl,rfl,rfl,rfl,rfl,rfl,rfl,rfl,rfl,rfl,rfl,rfl,rfl⟩
theorem AV8:decide ((15:Int)=0)=false/\decide ((15:Int)=1)=false/\decide ((15:Int)=2)=false/\decide ((15:Int)=3)=false/\decide ((15:Int)=4)=false/\decide ((15:Int)=5)=false/\decide ((15:Int)=6)=false/\decide ((15:Int)=7)=false/\decide ((15:Int)=8)=false/\decide ((15:Int)=9)=false/\decide ((15:Int)=10)=false/\decide ((15:Int)=11)=false/\decide ((15:Int)=12)=false/\decide ((15:Int)=13)=false/\decide ((15:Int)=14)=false/\decide ((15:Int)=15)=true:=⟨rfl,rfl,rfl,rfl,rfl,rfl,rfl,rfl,rfl,rfl,rfl,rfl,rfl,rfl,rfl,rfl⟩
theorem yr {Z0:St}{H:List Nat}{p q t:Nat}{q0 q1 q2 num:Int}{nm:By}{fr:Fr}{τ:St}{T:Tn}{vl vc vr x1 x2 x3 x4 x5 vt vk:Value}{vs:List Value}{a1 a2 a3 a4 a5 w m n:Nat}(h:BtS Z0 H p q t q0 q1 q2 num nm fr τ T vl vc vr x1 x2 x3 x4 x5 vt vk vs a1 a2 a3 a4 a5) (hW:WkT w m n T) (Ai:SmW num) (hnm:nm.length<=31) (g48:fr.get 48=some (.int .i64 0)):Ev (lim Tryz.prog HS none (bnC [1,1,1,1,1,1,1,1,0,1]) fr τ) (BtE Z0 H p t (w+1) (m+26) (n+26)) ⟨⟩:=by
 have hlo:=h.lo;obtain ⟨g2,g3,g4,g5,g6,hE,p0,q0',t0,pq,pt,qt,pl,ql,tl,b1,b2,b3,b4,b5,op,oq,ot,-,-,-,-,-,-,-,-⟩:=id h;have hW:=hW.up (Nat.le_add_right w 1) (Nat.le_add_right m 26) (Nat.le_add_right n 26);simp only [bnC,Tryz.f20,F9,I7,U9,V0,V6,V7];refine gU1 (a9N @A1 @A7 @cm0 @g48 @g2 @g5 @g6 @op @bw0) ?_;have hF:∀ cs,Ext Z0 (τ.upd p cs):=fun cs=>hE.upd p0 cs;have L:=fun cs=>h.same (F:=τ.upd p cs) 0 0 (Nat.le_refl _) fun c c1 c2 _=>by rw [J8,if_neg om]
 exact ⟨_,_,_,{ T with name:=nm },rfl,fR1 g2,fR1 g4,hF _,by show t<τ.n;omega,C8,by rw [D1 om];exact ot,Cs (V:={ T with name:=nm }) hlo ((L _).1 om) ((L _).2.1 om) ((L _).2.2.1 om) ((L _).2.2.2.1 om) ((L _).2.2.2.2 om) (h.base (hF _)).1 (h.base (hF _)).2,{ hW with name:=hnm }⟩
theorem yw {Z0:St}{H:List Nat}{p q t:Nat}{q0 q1 q2 num:Int}{nm:By}{fr:Fr}{τ:St}{T:Tn}{vl vc vr x1 x2 x3 x4 x5 vt vk:Value}{vs:List Value}{a1 a2 a3 a4 a5 w m n:Nat}(h:BtS Z0 H p q t q0 q1 q2 num nm fr τ T vl vc vr x1 x2 x3 x4 x5 vt vk vs a1 a2 a3 a4 a5) (hW:WkT w m n T) (Ai:SmW num) (hnm:nm.length<=31) (g48:fr.get 48=some (.int .i64 8)):Ev (lim Tryz.prog HS none (bnC [1,1,1,1,1,1,1,1,0,1]) fr τ) (BtE Z0 H p t (w+1) (m+26) (n+26)) ⟨⟩:=by
 have hlo:=h.lo;obtain ⟨g2,g3,g4,g5,g6,hE,p0,q0',t0,pq,pt,qt,pl,ql,tl,b1,b2,b3,b4,b5,op,oq,ot,-,-,-,-,-,-,-,-⟩:=id h;have hW:=hW.up (Nat.le_add_right w 1) (Nat.le_add_right m 26) (Nat.le_add_right n 26);simp only [bnC,Tryz.f20,F9,I7,U9,V0,V6,V7];refine gU1 (a9N @A1 @A7 @cm8 @g48 @g2 @g5 @g6 @op @bw5) ?_;have hF:∀ cs,Ext Z0 (τ.upd p cs):=fun cs=>hE.upd p0 cs;have L:=fun cs=>h.same (F:=τ.upd p cs) 0 0 (Nat.le_refl _) fun c c1 c2 _=>by rw [J8,if_neg om]
 exact ⟨_,_,_,{ T with high:=num },rfl,fR1 g2,fR1 g4,hF _,by show t<τ.n;omega,C8,by rw [D1 om];exact ot,Cs (V:={ T with high:=num }) hlo ((L _).1 om) ((L _).2.1 om) ((L _).2.2.1 om) ((L _).2.2.2.1 om) ((L _).2.2.2.2 om) (h.base (hF _)).1 (h.base (hF _)).2,{ hW with high:=Ai }⟩
theorem yx {Z0:St}{H:List Nat}{p q t:Nat}{q0 q1 q2 num:Int}{nm:By}{fr:Fr}{τ:St}{T:Tn}{vl vc vr x1 x2 x3 x4 x5 vt vk:Value}{vs:List Value}{a1 a2 a3 a4 a5 w m n:Nat}(h:BtS Z0 H p q t q0 q1 q2 num nm fr τ T vl vc vr x1 x2 x3 x4 x5 vt vk vs a1 a2 a3 a4 a5) (hW:WkT w m n T) (Ai:SmW num) (hnm:nm.length<=31) (g48:fr.get 48=some (.int .i64 9)):Ev (lim Tryz.prog HS none (bnC [1,1,1,1,1,1,1,1,0,1]) fr τ) (BtE Z0 H p t (w+1) (m+26) (n+26)) ⟨⟩:=by
 have hlo:=h.lo;obtain ⟨g2,g3,g4,g5,g6,hE,p0,q0',t0,pq,pt,qt,pl,ql,tl,b1,b2,b3,b4,b5,op,oq,ot,-,-,-,-,-,-,-,-⟩:=id h;have hW:=hW.up (Nat.le_add_right w 1) (Nat.le_add_right m 26) (Nat.le_add_right n 26);simp only [bnC,Tryz.f20,F9,I7,U9,V0,V6,V7];refine gU1 (a9N @A1 @A7 @cm9 @g48 @g2 @g5 @g6 @op @AK6) ?_;have hF:∀ cs,Ext Z0 (τ.upd p cs):=fun cs=>hE.upd p0 cs;have L:=fun cs=>h.same (F:=τ.upd p cs) 0 0 (Nat.le_refl _) fun c c1 c2 _=>by rw [J8,if_neg om]
 exact ⟨_,_,_,{ T with D5:=num },rfl,fR1 g2,fR1 g4,hF _,by show t<τ.n;omega,C8,by rw [D1 om];exact ot,Cs (V:={ T with D5:=num }) hlo ((L _).1 om) ((L _).2.1 om) ((L _).2.2.1 om) ((L _).2.2.2.1 om) ((L _).2.2.2.2 om) (h.base (hF _)).1 (h.base (hF _)).2,{ hW with D5:=Ai }⟩
theorem tz {Z0:St}{H:List Nat}{p q t:Nat}{q0 q1 q2 num:Int}{nm:By}{fr:Fr}{τ:St}{T:Tn}{vl vc vr x1 x2 x3 x4 x5 vt vk:Value}{vs:List Value}{a1 a2 a3 a4 a5 w m n:Nat}(h:BtS Z0 H p q t q0 q1 q2 num nm fr τ T vl vc vr x1 x2 x3 x4 x5 vt vk vs a1 a2 a3 a4 a5) (hW:WkT w m n T) (Ai:SmW num) (hnm:nm.length<=31) (g48:fr.get 48=some (.int .i64 10)):Ev (lim Tryz.prog HS none (bnC [1,1,1,1,1,1,1,1,0,1]) fr τ) (BtE Z0 H p t (w+1) (m+26) (n+26)) ⟨⟩:=by
 have hlo:=h.lo;obtain ⟨g2,g3,g4,g5,g6,hE,p0,q0',t0,pq,pt,qt,pl,ql,tl,b1,b2,b3,b4,b5,op,oq,ot,-,-,-,-,-,-,-,-⟩:=id h;have hW:=hW.up (Nat.le_add_right w 1) (Nat.le_add_right m 26) (Nat.le_add_right n 26);simp only [bnC,Tryz.f20,F9,I7,U9,V0,V6,V7];refine gU1 (a9N @A1 @A7 @AV6 @g48 @g2 @g5 @g6 @op @AK7) ?_;have hF:∀ cs,Ext Z0 (τ.upd p cs):=fun cs=>hE.upd p0 cs;have L:=fun cs=>h.same (F:=τ.upd p cs) 0 0 (Nat.le_refl _) fun c c1 c2 _=>by rw [J8,if_neg om]
 exact ⟨_,_,_,{ T with C1:=num },rfl,fR1 g2,fR1 g4,hF _,by show t<τ.n;omega,C8,by rw [D1 om];exact ot,Cs (V:={ T with C1:=num }) hlo ((L _).1 om) ((L _).2.1 om) ((L _).2.2.1 om) ((L _).2.2.2.1 om) ((L _).2.2.2.2 om) (h.base (hF _)).1 (h.base (hF _)).2,{ hW with C1:=Ai }⟩
theorem uA {Z0:St}{H:List Nat}{p q t:Nat}{q0 q1 q2 num:Int}{nm:By}{fr:Fr}{τ:St}{T:Tn}{vl vc vr x1 x2 x3 x4 x5 vt vk:Value}{vs:List Value}{a1 a2 a3 a4 a5 w m n:Nat}(h:BtS Z0 H p q t q0 q1 q2 num nm fr τ T vl vc vr x1 x2 x3 x4 x5 vt vk vs a1 a2 a3 a4 a5) (hW:WkT w m n T) (Ai:SmW num) (hnm:nm.length<=31) (g48:fr.get 48=some (.int .i64 11)):Ev (lim Tryz.prog HS none (bnC [1,1,1,1,1,1,1,1,0,1]) fr τ) (BtE Z0 H p t (w+1) (m+26) (n+26)) ⟨⟩:=by
 have hlo:=h.lo;obtain ⟨g2,g3,g4,g5,g6,hE,p0,q0',t0,pq,pt,qt,pl,ql,tl,b1,b2,b3,b4,b5,op,oq,ot,-,-,-,-,-,-,-,-⟩:=id h;have hW:=hW.up (Nat.le_add_right w 1) (Nat.le_add_right m 26) (Nat.le_add_right n 26);simp only [bnC,Tryz.f20,F9,I7,U9,V0,V6,V7];refine gU1 (a9N @A1 @A7 @AV7 @g48 @g2 @g5 @g6 @op @AK8) ?_;have hF:∀ cs,Ext Z0 (τ.upd p cs):=fun cs=>hE.upd p0 cs;have L:=fun cs=>h.same (F:=τ.upd p cs) 0 0 (Nat.le_refl _) fun c c1 c2 _=>by rw [J8,if_neg om]
 exact ⟨_,_,_,{ T with t:={ T.t with s:=num } },rfl,fR1 g2,fR1 g4,hF _,by show t<τ.n;omega,C8,by rw [D1 om];exact ot,Cs (V:={ T with t:={ T.t with s:=num } }) hlo ((L _).1 om) ((L _).2.1 om) ((L _).2.2.1 om) ((L _).2.2.2.1 om) ((L _).2.2.2.2 om) (h.base (hF _)).1 (h.base (hF _)).2,{ hW with tim:=⟨hW.tim.1,hW.tim.2.1,hW.tim.2.2.1,hW.tim.2.2.2.1,Ai⟩ }⟩
theorem uE {Z0:St}{H:List Nat}{p q t:Nat}{q0 q1 q2 num:Int}{nm:By}{fr:Fr}{τ:St}{T:Tn}{vl vc vr x1 x2 x3 x4 x5 vt vk:Value}{vs:List Value}{a1 a2 a3 a4 a5 w m n:Nat}(h:BtS Z0 H p q t q0 q1 q2 num nm fr τ T vl vc vr x1 x2 x3 x4 x5 vt vk vs a1 a2 a3 a4 a5) (hW:WkT w m n T) (Ai:SmW num) (hnm:nm.length<=31) (g48:fr.get 48=some (.int .i64 15)):Ev (lim Tryz.prog HS none (bnC [1,1,1,1,1,1,1,1,0,1]) fr τ) (BtE Z0 H p t (w+1) (m+26) (n+26)) ⟨⟩:=by
 have hlo:=h.lo;obtain ⟨g2,g3,g4,g5,g6,hE,p0,q0',t0,pq,pt,qt,pl,ql,tl,b1,b2,b3,b4,b5,op,oq,ot,-,-,-,-,-,-,-,-⟩:=id h;have hW:=hW.up (Nat.le_add_right w 1) (Nat.le_add_right m 26) (Nat.le_add_right n 26);simp only [bnC,Tryz.f20,F9,I7,U9,V0,V6,V7];refine gU1 (a9N @A1 @A7 @AV8 @g48 @g2 @g5 @g6 @op @bw1) ?_;have hF:∀ cs,Ext Z0 (τ.upd p cs):=fun cs=>hE.upd p0 cs;have L:=fun cs=>h.same (F:=τ.upd p cs) 0 0 (Nat.le_refl _) fun c c1 c2 _=>by rw [J8,if_neg om]
 exact ⟨_,_,_,{ T with D2:=[] },rfl,fR1 g2,fR1 g4,hF _,by show t<τ.n;omega,C8,by rw [D1 om];exact ot,Cs (V:={ T with D2:=[] }) hlo (OL.nil) ((L _).2.1 om) ((L _).2.2.1 om) ((L _).2.2.2.1 om) ((L _).2.2.2.2 om) (h.base (hF _)).1 (h.base (hF _)).2,{ hW with D2:=by simp,lot:=fun l hl=>by simp at hl }⟩
end Go.Proofs.T
