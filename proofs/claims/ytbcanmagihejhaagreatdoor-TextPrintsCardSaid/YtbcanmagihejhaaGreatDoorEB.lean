/- The G2 jK: its memory, its end. -/
import Derived.Test.YtbcanmagihejhaaGreatDoorEA
set_option linter.unusedSimpArgs false
set_option linter.unusedVariables false
set_option linter.defProp false
set_option maxHeartbeats 32000000
set_option maxRecDepth 100000
namespace Go.Proofs.T
open Go Go.Ab
section
variable {Z Z' F:St}{size w m n a b:Nat}{D0:List (List Value)}
noncomputable def bnC (l:List Nat):Code:=JE l ((Tryz.f20).body.getD .skip)
def SmW (n:Int):Prop:= -1<=n/\n<=1000000001
structure WkT (w m n:Nat) (T:Tn):Prop where
 name:T.name.length<=31
 F9:T.F9.length<=n
 lot:∀ l∈T.F9,SmW l.id/\SmW l.G4
 E9:T.E9.length<=n
 Y7:∀ c∈T.E9,c.name.length<=31/\(1<=c.kind/\c.kind<=3)/\SmW c.low/\SmW c.high
 reqs:T.reqs.length<=n
 req:∀ r∈T.reqs,r.name.length<=31/\r.rel.length<=2/\SmW r.value
 H2:T.H2.length<=n
 tie:∀ s∈T.H2,s.length<=31
 C8:T.C8.length<=n
 combo:∀ c∈T.C8,c.length<=12/\∀ k∈c,SmW k
 low:SmW T.low
 high:SmW T.high
 G4:SmW T.G4
 C9:SmW T.C9
 tim:SmW T.t.q/\SmW T.t.b/\SmW T.t.g/\SmW T.t.p/\SmW T.t.s
 f:WfE w T.f
 fp:R0 T.f<=m
def WkT.up {w' c d:Nat}{T:Tn}(h:WkT w m n T) (e:w<=w') (g:m<=c) (i:n<=d):WkT w' c d T :=
 ⟨h.name,by have:=h.F9;omega,h.lot,by have:=h.E9;omega,h.Y7,by have:=h.reqs;omega,h.req,by have:=h.H2;omega,h.tie,by have:=h.C8;omega,h.combo,h.low,h.high,h.G4,h.C9,h.tim,WfE.mono e h.f,by have:=h.fp;omega⟩
def O4 (nm:By) (vl vc vr:Value) (low high:Int) (x1 x2 x3 x4 x5 vt:Value) (G4:Int) (vk:Value) (C9:Int) (t:Tim):List Value :=
 [str nm,vl,vc,vr,.int .i64 low,.int .i64 high,x1,x2,x3,x4,x5,vt,.int .i64 G4,vk,.int .i64 C9,.int .i64 t.q,.int .i64 t.b,.int .i64 t.g,.int .i64 t.p,.int .i64 t.s]
section
variable {nm nm':By}{vl vc vr v:Value}{low high k:Int}{x1 x2 x3 x4 x5 y1 y2 y3 y4 y5 vt:Value}{G4:Int}{vk:Value}{C9:Int}{t:Tim}
def bw0:M5 (O4 nm vl vc vr low high x1 x2 x3 x4 x5 vt G4 vk C9 t) 0 [str nm']=some (O4 nm' vl vc vr low high x1 x2 x3 x4 x5 vt G4 vk C9 t):=rfl
def bw1:M5 (O4 nm vl vc vr low high x1 x2 x3 x4 x5 vt G4 vk C9 t) 1 [v]=some (O4 nm v vc vr low high x1 x2 x3 x4 x5 vt G4 vk C9 t):=rfl
def bw2:M5 (O4 nm vl vc vr low high x1 x2 x3 x4 x5 vt G4 vk C9 t) 2 [v]=some (O4 nm vl v vr low high x1 x2 x3 x4 x5 vt G4 vk C9 t):=rfl
def bw3:M5 (O4 nm vl vc vr low high x1 x2 x3 x4 x5 vt G4 vk C9 t) 3 [v]=some (O4 nm vl vc v low high x1 x2 x3 x4 x5 vt G4 vk C9 t):=rfl
def bw5:M5 (O4 nm vl vc vr low high x1 x2 x3 x4 x5 vt G4 vk C9 t) 5 [.int .i64 k]=some (O4 nm vl vc vr low k x1 x2 x3 x4 x5 vt G4 vk C9 t):=rfl
def bw6:M5 (O4 nm vl vc vr low high x1 x2 x3 x4 x5 vt G4 vk C9 t) 6 [y1,y2,y3,y4,y5]=some (O4 nm vl vc vr low high y1 y2 y3 y4 y5 vt G4 vk C9 t):=rfl
def Af5:M5 (O4 nm vl vc vr low high x1 x2 x3 x4 x5 vt G4 vk C9 t) 11 [v]=some (O4 nm vl vc vr low high x1 x2 x3 x4 x5 v G4 vk C9 t):=rfl
def BE5:M5 (O4 nm vl vc vr low high x1 x2 x3 x4 x5 vt G4 vk C9 t) 12 [.int .i64 k]=some (O4 nm vl vc vr low high x1 x2 x3 x4 x5 vt k vk C9 t):=rfl
def AH8:M5 (O4 nm vl vc vr low high x1 x2 x3 x4 x5 vt G4 vk C9 t) 13 [v]=some (O4 nm vl vc vr low high x1 x2 x3 x4 x5 vt G4 v C9 t):=rfl
def BE6:M5 (O4 nm vl vc vr low high x1 x2 x3 x4 x5 vt G4 vk C9 t) 14 [.int .i64 k]=some (O4 nm vl vc vr low high x1 x2 x3 x4 x5 vt G4 vk k t):=rfl
def BE7:M5 (O4 nm vl vc vr low high x1 x2 x3 x4 x5 vt G4 vk C9 t) 19 [.int .i64 k]=some (O4 nm vl vc vr low high x1 x2 x3 x4 x5 vt G4 vk C9 { t with s:=k }):=rfl
def bu1:sub (O4 nm vl vc vr low high x1 x2 x3 x4 x5 vt G4 vk C9 t) 1 1=some [vl]:=rfl
def bu2:sub (O4 nm vl vc vr low high x1 x2 x3 x4 x5 vt G4 vk C9 t) 2 1=some [vc]:=rfl
def bu3:sub (O4 nm vl vc vr low high x1 x2 x3 x4 x5 vt G4 vk C9 t) 3 1=some [vr]:=rfl
def bu6:sub (O4 nm vl vc vr low high x1 x2 x3 x4 x5 vt G4 vk C9 t) 6 5=some [x1,x2,x3,x4,x5]:=rfl
def Af4:sub (O4 nm vl vc vr low high x1 x2 x3 x4 x5 vt G4 vk C9 t) 11 1=some [vt]:=rfl
def AH7:sub (O4 nm vl vc vr low high x1 x2 x3 x4 x5 vt G4 vk C9 t) 13 1=some [vk]:=rfl
end
def OLI (a b:Nat) (Z:St) (size:Nat) (v:Value) (D0:List (List Value)):Prop:=OL a Z size v D0/\∀ x,K3 v=some x->x<b
def OL.An9 {lo:Nat}{v:Value}(h:OL lo Z size v D0) (e:Z.n<=Z'.n) (d:∀ b,lo<=b->b<Z.n->K3 v=some b->Z'.h.get b=Z.h.get b):OL lo Z' size v D0 :=
 h.I4 e fun b c=>d b (h.blk c).1 (h.blk c).2 c
def OLI.I4 {v:Value}(h:OLI a b Z size v D0) (i:Z.n<=Z'.n) (g:∀ c,a<=c->c<b->c<Z.n->Z'.h.get c=Z.h.get c):OLI a b Z' size v D0 :=
 ⟨OL.An9 h.1 i fun c d e f=>g c d (h.2 c f) e,h.2⟩
def OLI.W7 {p:Nat}{v:Value}(h:OLI a b Z size v D0) (d:G5 p Z Z') (g:p<a):OLI a b Z' size v D0 :=
 h.I4 d.n fun c f _ e=>d.same c e om
structure BtS (Z0:St) (H:List Nat) (p q t:Nat) (q0 q1 q2 num:Int) (nm:By) (fr:Fr) (τ:St) (T:Tn) (vl vc vr x1 x2 x3 x4 x5 vt vk:Value) (vs:List Value) (a1 a2 a3 a4 a5:Nat):Prop where
 g2:fr.get 2=some (.pointer (some ⟨p,0,none⟩))
 g3:fr.get 3=some (.pointer (some ⟨q,0,none⟩))
 g4:fr.get 4=some (.pointer (some ⟨t,0,none⟩))
 g5:fr.get 5=some (.int .i64 num)
 g6:fr.get 6=some (str nm)
 E:Ext Z0 τ
 p0:Z0.n<=p
 q0':Z0.n<=q
 t0:Z0.n<=t
 pq:p≠q
 pt:p≠t
 qt:q≠t
 pl:p<a1
 ql:q<a1
 tl:t<a1
 b1:a1<=a2
 b2:a2<=a3
 b3:a3<=a4
 b4:a4<=a5
 b5:a5<=τ.n
 op:τ.B8 p=some (O4 T.name vl vc vr T.low T.high x1 x2 x3 x4 x5 vt T.G4 vk T.C9 T.t)
 oq:τ.B8 q=some [.int .i64 q0,.int .i64 q1,.int .i64 q2]
 ot:τ.B8 t=some z20
 l1:OLI a1 a2 τ 2 vl (T.F9.map Lot.row)
 l2:OLI a2 a3 τ 5 vc (T.E9.map S8.row)
 l3:OLI a3 a4 τ 3 vr (T.reqs.map Req.row)
 l4:OLI a4 a5 τ 1 vt (T.H2.map fun s=>[str s])
 l5:OLI a5 τ.n τ 1 vk (vs.map fun x=>[x])
 ks:EK (GG (J0 Z0 H)) vs T.C8
 x:ExX (J0 Z0 H) [x1,x2,x3,x4,x5] T.f
 HH:∀ c∈H,c<Z0.n
section
variable {Z0:St}{H:List Nat}{p q t:Nat}{q0 q1 q2 num:Int}{nm:By}{fr:Fr}{τ:St}{T:Tn}{vl vc vr x1 x2 x3 x4 x5 vt vk:Value}{vs:List Value}{a1 a2 a3 a4 a5:Nat}
def BtS.lo (h:BtS Z0 H p q t q0 q1 q2 num nm fr τ T vl vc vr x1 x2 x3 x4 x5 vt vk vs a1 a2 a3 a4 a5):∀ c∈p::t::H,c<a1:=by
 intro c d;have:=h.p0;have:=h.pl;rcases V9.1 d with rfl|d
 ·exact h.pl
 rcases V9.1 d with rfl|d
 ·exact h.tl
 have:=h.HH c d;omega
def BtS.A9 (h:BtS Z0 H p q t q0 q1 q2 num nm fr τ T vl vc vr x1 x2 x3 x4 x5 vt vk vs a1 a2 a3 a4 a5)(d:Ext Z0 F):EK (GG (J0 F (p::t::H))) vs T.C8/\ExX (J0 F (p::t::H)) [x1,x2,x3,x4,x5] T.f:=by
 have e:Ao (J0 Z0 H) (J0 F (p::t::H)):=K8 d.n fun c g i=>⟨by have:=h.p0;have:=h.t0;simp only[V9,not_or];exact⟨om,om,i⟩,by rw[d.row g]⟩
 exact⟨h.ks.mono fun _ _ h=>SL.I4 h e,h.x.I4 e⟩
def BtS.same (h:BtS Z0 H p q t q0 q1 q2 num nm fr τ T vl vc vr x1 x2 x3 x4 x5 vt vk vs a1 a2 a3 a4 a5)(lo hi:Nat) (d:τ.n<=F.n) (e:∀ c,a1<=c->c<τ.n->(c<lo\/hi<=c)->F.h.get c=τ.h.get c):
  ((a2<=lo\/hi<=a1)->OL a1 F 2 vl (T.F9.map Lot.row))/\((a3<=lo\/hi<=a2)->OL a1 F 5 vc (T.E9.map S8.row))/\((a4<=lo\/hi<=a3)->OL a1 F 3 vr (T.reqs.map Req.row))/\((a5<=lo\/hi<=a4)->OL a1 F 1 vt (T.H2.map fun s=>[str s]))/\((τ.n<=lo\/hi<=a5)->OL a1 F 1 vk (vs.map fun x=>[x])):=by
 have f:=h.b1;have i:=h.b2;have j:=h.b3;have l:=h.b4;refine⟨fun g=>OL.lower (h.l1.I4 d fun c c1 c2 c3=>e c om c3 om).1 om,fun g=>OL.lower (h.l2.I4 d fun c c1 c2 c3=>e c om c3 om).1 om,fun g=>OL.lower (h.l3.I4 d fun c c1 c2 c3=>e c om c3 om).1 om,fun g=>OL.lower (h.l4.I4 d fun c c1 c2 c3=>e c om c3 om).1 om,fun g=>OL.lower (h.l5.I4 d fun c c1 c2 c3=>e c om c3 om).1 om⟩
end
def BtE (Z0:St) (H:List Nat) (p t w m n:Nat) (r:Res):Prop:=∃ fr τ cells V,r=⟨.normal,fr,τ⟩/\fr.get 2=some (.pointer (some ⟨p,0,none⟩))/\fr.get 4=some (.pointer (some ⟨t,0,none⟩))/\Ext Z0 τ/\t<τ.n/\τ.B8 p=some cells/\τ.B8 t=some z20/\TnY (J0 τ (p::t::H)) cells V/\WkT w m n V
def BtQ (Z0:St) (H:List Nat) (t w m n:Nat) (r:Res):Prop:=∃ fr τ cells V,r=⟨.ret,fr,τ⟩/\fr.get 4=some (.pointer (some ⟨t,0,none⟩))/\τ.B8 t=some cells/\Ext Z0 τ/\TnY (J0 τ H) cells V/\WkT w m n V
def AR8 {Z0:St}{H:List Nat}{p t:Nat}(o:Z0.n<=t) (s:p≠t){r:Res}(h:BtE Z0 H p t w m n r):Ev (AI r (lim Tryz.prog HS none (bnC [1,1,1,1,1,1,1,1,1]))) (BtQ Z0 H t w m n) ⟨⟩:=by
 obtain⟨fr,τ,cells,V,rfl,g2,g4,i,u,op,g,e,j⟩:=h;have f:=e.tn.cells;obtain⟨a0,a1,a2,a3,a4,a5,a6,a7,a8,a9,a10,a11,a12,a13,a14,a15,a16,a17,a18,a19,rfl⟩:=f;have l:=C1 op;unfold z20 at g;simp only[Bw,bnC,Tryz.f20,J2,M1,y7,y8,y9,AA];refine gU1 (aI @A6 (aI @C7 (aI g2 (aI g4 (aI l (aI op g)))))) ?_;refine⟨_,_,_,V,rfl,fR1 g4,cL,i.upd o _,e.I4 (K8 (by simp) fun c f d=>?_),j⟩;simp only[V9,not_or]at d;exact⟨d.2.2,I2 d.2.1⟩
def Em {F:St}{lo p t:Nat}{H:List Nat}{V:Tn}{vl vc vr x1 x2 x3 x4 x5 vt vk:Value}{vs:List Value}(d:∀ c∈p::t::H,c<lo) (e:OL lo F 2 vl (V.F9.map Lot.row)) (g:OL lo F 5 vc (V.E9.map S8.row)) (h:OL lo F 3 vr (V.reqs.map Req.row)) (i:OL lo F 1 vt (V.H2.map fun s=>[str s])) (j:OL lo F 1 vk (vs.map fun x=>[x]))
  (l:EK (GG (J0 F (p::t::H))) vs V.C8) (o:ExX (J0 F (p::t::H)) [x1,x2,x3,x4,x5] V.f):TnY (J0 F (p::t::H)) (O4 V.name vl vc vr V.low V.high x1 x2 x3 x4 x5 vt V.G4 vk V.C9 V.t) V :=
 ⟨vl,vc,vr,_,vt,vk,vs,rfl,OL.J0 e d,OL.J0 g d,OL.J0 h d,o,OL.J0 i d,OL.J0 j d,l⟩
end
def Aa3:bnC []= .seq (bnC [0]) (bnC [1]):=kR
def Aa4:bnC [1]= .seq (bnC [1,0]) (bnC [1,1]):=kR
def Aa5:bnC [1,1]= .seq (bnC [1,1,0]) (bnC [1,1,1]):=kR
def Aa6:bnC [1,1,1]= .seq (bnC [1,1,1,0]) (bnC [1,1,1,1]):=kR
def Aa7:bnC [1,1,1,1]= .seq (bnC [1,1,1,1,0]) (bnC [1,1,1,1,1]):=kR
def Aa8:bnC [1,1,1,1,1]= .seq (bnC [1,1,1,1,1,0]) (bnC [1,1,1,1,1,1]):=kR
def Aa9:bnC [1,1,1,1,1,1]= .seq (bnC [1,1,1,1,1,1,0]) (bnC [1,1,1,1,1,1,1]):=kR
def Ab0:bnC [1,1,1,1,1,1,1]= .seq (bnC [1,1,1,1,1,1,1,0]) (bnC [1,1,1,1,1,1,1,1]):=kR
def zj {k:Nat}(h:k<6):∃ n:Int,sub ([.int .i64 (-1),.int .i64 0,.int .i64 1,.int .i64 1000000000,.int .i64 1000000001,.int .i64 7]:List Value) k 1=some [.int .i64 n]/\SmW n:=by
 match k,h with
 |0,_=>exact⟨_,rfl,by unfold SmW;omega⟩
 |1,_=>exact⟨_,rfl,by unfold SmW;omega⟩
 |2,_=>exact⟨_,rfl,by unfold SmW;omega⟩
 |3,_=>exact⟨_,rfl,by unfold SmW;omega⟩
 |4,_=>exact⟨_,rfl,by unfold SmW;omega⟩
 |5,_=>exact⟨_,rfl,by unfold SmW;omega⟩
def nmL:List Value:=[str [],str [112,114,105,99,101],str [109,105,110],str [115,112,101,101,100],str [57,120],str [97,98,99,100,101,102,103,104,105,106,107,108,109,110,111,112,113,114,115,116,117,118,119,120,121,122,97,98,99,100,101]]
def Ab1 {k:Nat}(h:k<6):∃ s:By,sub nmL k 1=some [str s]/\s.length<=31:=by
 match k,h with
 |0,_=>exact⟨_,rfl,by decide⟩
 |1,_=>exact⟨_,rfl,by decide⟩
 |2,_=>exact⟨_,rfl,by decide⟩
 |3,_=>exact⟨_,rfl,by decide⟩
 |4,_=>exact⟨_,rfl,by decide⟩
 |5,_=>exact⟨_,rfl,by decide⟩
def Ab2 {fr:Fr}{e:St}{p:Nat}{T:Tn}{q m s v y z A B u o:Value}{vs:List Value}(g2:fr.get 2=some (.pointer (some ⟨p,0,none⟩))) (L:p<e.n) (op:e.B8 p=some (O4 T.name q m s T.low T.high v y z A B u T.G4 o T.C9 T.t)) (C:SLs e 2 q (T.F9.map Lot.row)) (K:T.F9.length<=100) :
  Ev (lim Tryz.prog HS none (bnC [1,1,1,0]) fr e) (fun r=>∃ fr' τ',r=⟨.normal,fr',τ'⟩/\(∀ i,2<=i->i<=6->fr'.get i=fr.get i)/\∃ v',τ'.B8 p=some (O4 T.name v' m s T.low T.high v y z A B u T.G4 o T.C9 T.t)/\OLI e.n τ'.n τ' 2 v' (T.F9.map Lot.row)/\G5 p e τ') ⟨⟩:=by
 have E:=C1 op;simp only[bnC,Tryz.f20,J2,M1,y7,y8,y9,AA];refine gU1 (aI @A6 (aI @P2 (aI @K6 (aI @K4 (aI @K5 (aI @H5 (aI g2 (aI E @bu1)))))))) ?_;refine Hk (size:=2) (D0:=(T.F9.map Lot.row)) (fun _ _ _ _=>R5) (K2 nL nL) (by simp) (C.I4 (Ao.Lc (.new _ _))) (by rw[z2z];omega) ?_;rintro F f d a;have D:=a.n;simp only[K9]at D;have l:f.B8 p=some (O4 T.name q m s T.low T.high v y z A B u T.G4 o T.C9 T.t):=by rw[a.B8 (by simp;omega) om,J1 om];exact op
 have h:∀ b,K3 F=some b->b<f.n:=fun b g=>(d.blk g).2;obtain⟨G,rfl⟩:=OL.shape d;refine gU1 (aI @A6 (aI @P2 (aI @K6 (aI @K4 (aI @K5 (aI @H5 (aI g2 (aI l @bw1)))))))) ?_;refine⟨_,_,rfl,fun i H I=>?_,_,cL,⟨OL.W7 d (G5.refl.upd _) om,fun b g=>h b g⟩,⟨by show e.n<=f.n;omega,fun c J j=>by rw[M4,z0z j,a.same c (by simp;omega) om,N8,z0z om]⟩⟩
 repeat rw[N4,z0z om]
def Ab3 {fr:Fr}{e:St}{p:Nat}{T:Tn}{q m s v y z A B u o:Value}{vs:List Value}(g2:fr.get 2=some (.pointer (some ⟨p,0,none⟩))) (L:p<e.n) (op:e.B8 p=some (O4 T.name q m s T.low T.high v y z A B u T.G4 o T.C9 T.t)) (C:SLs e 5 m (T.E9.map S8.row)) (K:T.E9.length<=100) :
  Ev (lim Tryz.prog HS none (bnC [1,1,1,1,0]) fr e) (fun r=>∃ fr' τ',r=⟨.normal,fr',τ'⟩/\(∀ i,2<=i->i<=6->fr'.get i=fr.get i)/\∃ v',τ'.B8 p=some (O4 T.name q v' s T.low T.high v y z A B u T.G4 o T.C9 T.t)/\OLI e.n τ'.n τ' 5 v' (T.E9.map S8.row)/\G5 p e τ') ⟨⟩:=by
 have E:=C1 op;simp only[bnC,Tryz.f20,J2,M1,y7,y8,y9,AA];refine gU1 (aI @A6 (aI @P2 (aI @K6 (aI @K4 (aI @K5 (aI @H5 (aI g2 (aI E @bu2)))))))) ?_;refine Hk (size:=5) (D0:=(T.E9.map S8.row)) (fun _ _ _ _=>R6) (K2 nL nL) (by simp) (C.I4 (Ao.Lc (.new _ _))) (by rw[z2z];omega) ?_;rintro F f d a;have D:=a.n;simp only[K9]at D;have l:f.B8 p=some (O4 T.name q m s T.low T.high v y z A B u T.G4 o T.C9 T.t):=by rw[a.B8 (by simp;omega) om,J1 om];exact op
 have h:∀ b,K3 F=some b->b<f.n:=fun b g=>(d.blk g).2;obtain⟨G,rfl⟩:=OL.shape d;refine gU1 (aI @A6 (aI @P2 (aI @K6 (aI @K4 (aI @K5 (aI @H5 (aI g2 (aI l @bw2)))))))) ?_;refine⟨_,_,rfl,fun i H I=>?_,_,cL,⟨OL.W7 d (G5.refl.upd _) om,fun b g=>h b g⟩,⟨by show e.n<=f.n;omega,fun c J j=>by rw[M4,z0z j,a.same c (by simp;omega) om,N8,z0z om]⟩⟩
 repeat rw[N4,z0z om]
def Ab4 {fr:Fr}{e:St}{p:Nat}{T:Tn}{q m s v y z A B u o:Value}{vs:List Value}(g2:fr.get 2=some (.pointer (some ⟨p,0,none⟩))) (L:p<e.n) (op:e.B8 p=some (O4 T.name q m s T.low T.high v y z A B u T.G4 o T.C9 T.t)) (C:SLs e 3 s (T.reqs.map Req.row)) (K:T.reqs.length<=100) :
  Ev (lim Tryz.prog HS none (bnC [1,1,1,1,1,0]) fr e) (fun r=>∃ fr' τ',r=⟨.normal,fr',τ'⟩/\(∀ i,2<=i->i<=6->fr'.get i=fr.get i)/\∃ v',τ'.B8 p=some (O4 T.name q m v' T.low T.high v y z A B u T.G4 o T.C9 T.t)/\OLI e.n τ'.n τ' 3 v' (T.reqs.map Req.row)/\G5 p e τ') ⟨⟩:=by
 have E:=C1 op;simp only[bnC,Tryz.f20,J2,M1,y7,y8,y9,AA];refine gU1 (aI @A6 (aI @P2 (aI @K6 (aI @K4 (aI @K5 (aI @H5 (aI g2 (aI E @bu3)))))))) ?_;refine Hk (size:=3) (D0:=(T.reqs.map Req.row)) (fun _ _ _ _=>R1) (K2 nL nL) (by simp) (C.I4 (Ao.Lc (.new _ _))) (by rw[z2z];omega) ?_;rintro F f d a;have D:=a.n;simp only[K9]at D;have l:f.B8 p=some (O4 T.name q m s T.low T.high v y z A B u T.G4 o T.C9 T.t):=by rw[a.B8 (by simp;omega) om,J1 om];exact op
 have h:∀ b,K3 F=some b->b<f.n:=fun b g=>(d.blk g).2;obtain⟨G,rfl⟩:=OL.shape d;refine gU1 (aI @A6 (aI @P2 (aI @K6 (aI @K4 (aI @K5 (aI @H5 (aI g2 (aI l @bw3)))))))) ?_;refine⟨_,_,rfl,fun i H I=>?_,_,cL,⟨OL.W7 d (G5.refl.upd _) om,fun b g=>h b g⟩,⟨by show e.n<=f.n;omega,fun c J j=>by rw[M4,z0z j,a.same c (by simp;omega) om,N8,z0z om]⟩⟩
 repeat rw[N4,z0z om]
def Ab5 {fr:Fr}{e:St}{p:Nat}{T:Tn}{q m u y z A B C v o:Value}{vs:List Value}(g2:fr.get 2=some (.pointer (some ⟨p,0,none⟩))) (M:p<e.n) (op:e.B8 p=some (O4 T.name q m u T.low T.high y z A B C v T.G4 o T.C9 T.t)) (D:SLs e 1 v (T.H2.map fun s=>[str s])) (L:T.H2.length<=100) :
  Ev (lim Tryz.prog HS none (bnC [1,1,1,1,1,1,0]) fr e) (fun r=>∃ fr' τ',r=⟨.normal,fr',τ'⟩/\(∀ i,2<=i->i<=6->fr'.get i=fr.get i)/\∃ v',τ'.B8 p=some (O4 T.name q m u T.low T.high y z A B C v' T.G4 o T.C9 T.t)/\OLI e.n τ'.n τ' 1 v' (T.H2.map fun s=>[str s])/\G5 p e τ') ⟨⟩:=by
 have F:=C1 op;simp only[bnC,Tryz.f20,J2,M1,y7,y8,y9,AA];refine gU1 (aI @A6 (aI @P2 (aI @K6 (aI @K4 (aI @K5 (aI @H5 (aI g2 (aI F @Af4)))))))) ?_;refine Hk (size:=1) (D0:=(T.H2.map fun s=>[str s])) (fun _ _ _ _=>R2) (K2 nL nL) (by simp) (D.I4 (Ao.Lc (.new _ _))) (by rw[z2z];omega) ?_;rintro G f d a;have E:=a.n;simp only[K9]at E;have l:f.B8 p=some (O4 T.name q m u T.low T.high y z A B C v T.G4 o T.C9 T.t):=by rw[a.B8 (by simp;omega) om,J1 om];exact op
 have h:∀ b,K3 G=some b->b<f.n:=fun b g=>(d.blk g).2;obtain⟨H,rfl⟩:=OL.shape d;refine gU1 (aI @A6 (aI @P2 (aI @K6 (aI @K4 (aI @K5 (aI @H5 (aI g2 (aI l @Af5)))))))) ?_;refine⟨_,_,rfl,fun i I J=>?_,_,cL,⟨OL.W7 d (G5.refl.upd _) om,fun b g=>h b g⟩,⟨by show e.n<=f.n;omega,fun c K j=>by rw[M4,z0z j,a.same c (by simp;omega) om,N8,z0z om]⟩⟩
 repeat rw[N4,z0z om]
def Ab6 {fr:Fr}{e:St}{p:Nat}{T:Tn}{q m s v y z A B u o:Value}{vs:List Value}(g2:fr.get 2=some (.pointer (some ⟨p,0,none⟩))) (L:p<e.n) (op:e.B8 p=some (O4 T.name q m s T.low T.high v y z A B u T.G4 o T.C9 T.t)) (C:SLs e 1 o (vs.map fun x=>[x])) (K:vs.length<=100) :
  Ev (lim Tryz.prog HS none (bnC [1,1,1,1,1,1,1,0]) fr e) (fun r=>∃ fr' τ',r=⟨.normal,fr',τ'⟩/\(∀ i,2<=i->i<=6->fr'.get i=fr.get i)/\∃ v',τ'.B8 p=some (O4 T.name q m s T.low T.high v y z A B u T.G4 v' T.C9 T.t)/\OLI e.n τ'.n τ' 1 v' (vs.map fun x=>[x])/\G5 p e τ') ⟨⟩:=by
 have E:=C1 op;simp only[bnC,Tryz.f20,J2,M1,y7,y8,y9,AA];refine gU1 (aI @A6 (aI @P2 (aI @K6 (aI @K4 (aI @K5 (aI @H5 (aI g2 (aI E @AH7)))))))) ?_;refine Hk (size:=1) (D0:=(vs.map fun x=>[x])) (fun _ _ _ _=>P5) (K2 nL nL) (by simp) (C.I4 (Ao.Lc (.new _ _))) (by rw[z2z];omega) ?_;rintro F f d a;have D:=a.n;simp only[K9]at D;have l:f.B8 p=some (O4 T.name q m s T.low T.high v y z A B u T.G4 o T.C9 T.t):=by rw[a.B8 (by simp;omega) om,J1 om];exact op
 have h:∀ b,K3 F=some b->b<f.n:=fun b g=>(d.blk g).2;obtain⟨G,rfl⟩:=OL.shape d;refine gU1 (aI @A6 (aI @P2 (aI @K6 (aI @K4 (aI @K5 (aI @H5 (aI g2 (aI l @AH8)))))))) ?_;refine⟨_,_,rfl,fun i H I=>?_,_,cL,⟨OL.W7 d (G5.refl.upd _) om,fun b g=>h b g⟩,⟨by show e.n<=f.n;omega,fun c J j=>by rw[M4,z0z j,a.same c (by simp;omega) om,N8,z0z om]⟩⟩
 repeat rw[N4,z0z om]
def zk {Z:St}{T:Tn}{q q1 q2:Int}{e c f h i j l o g d:Value}{Q:Res->Prop}{u:Hd Q}(a:X6 q1)
  (k:∀ (num:Int) (nm:By) (fr:Fr) (τ:St),SmW num->nm.length<=31->fr.get 2=some (.pointer (some ⟨Z.n,0,none⟩))->fr.get 3=some (.pointer (some ⟨Z.n+1,0,none⟩))->fr.get 4=some (.pointer (some ⟨Z.n+2,0,none⟩))->fr.get 5=some (.int .i64 num)->fr.get 6=some (str nm)->Ext Z τ->τ.n=Z.n+5 ->
    τ.B8 Z.n=some (O4 T.name e c f T.low T.high h i j l o g T.G4 d T.C9 T.t)->τ.B8 (Z.n+1)=some [.int .i64 q,.int .i64 q1,.int .i64 q2]->τ.B8 (Z.n+2)=some z20->Ev (lim Tryz.prog HS none (bnC [1,1,1]) fr τ) Q ⟨⟩) :
  Ev (lim Tryz.prog HS none (bnC []) (Fq [.agg ⟨O4 T.name e c f T.low T.high h i j l o g T.G4 d T.C9 T.t⟩,.agg ⟨[.int .i64 q,.int .i64 q1,.int .i64 q2]⟩] 0 .nil) Z) Q u:=by
 obtain⟨X,b⟩:=nW (bnC [1,1,1]);rw[Aa3,Aa4,Aa5,b];rw[b]at k;simp only[bnC,Tryz.f20,J2,M1,y7,y8,y9,AA];clear b;obtain⟨B,hB⟩:=nW (O4 T.name e c f T.low T.high h i j l o g T.G4 d T.C9 T.t);have s:B.length=20:=by rw[<- hB];rfl
 rw[hB]at k ⊢;clear hB;refine gU1 (aI @A6 (aI @P2 (aI @K6 (aI @K4 (aI @K5 (aI @H5 (aI @FY s))))))) ?_;refine(AN (m:=6) a om om).mono ?_;rintro r rfl;have v:0<=q1 % 6:=Int.emod_nonneg _ om;have y:q1 % 6<6:=Int.emod_lt_of_pos _ om;obtain⟨z,p⟩:=KR v;rw[p]at y ⊢;obtain⟨num,hn1,hn2⟩:=zj (k:=z) om;obtain⟨nm,hm1,hm2⟩:=Ab1 (k:=z) om;unfold nmL at hm1;refine gU1 (aI @A6 (aI @P2 (aI @K6 (aI @K4 (aI @K5 (aI @H5 (aI @FY hn1))))))) ?_;refine(AN (m:=6) a om om).mono ?_;rintro r rfl;rw[p];refine gU1 (aI @A6 (aI @P2 (aI @K6 (aI @K4 (aI @K5 (aI @H5 (aI @FY hm1))))))) ?_;exact k num nm _ _ hn2 hm2 (fR) (fR) (fR) (fR) (fR) (eX) rfl (cL) (cL) (by unfold z20;exact cL)
def sB {Z:St}{H:List Nat}{A:List Value}{T:Tn}{N q1 q2:Int}{Q:Res->Prop}{u:Hd Q}(Y:∀ c∈H,c<Z.n) (hT:TnY (J0 Z H) A T) (c1:T.F9.length<=100) (c2:T.E9.length<=100) (c3:T.reqs.length<=100) (c4:T.H2.length<=100) (c5:T.C8.length<=100) (G:X6 q1)
  (k:∀ (num:Int) (nm:By) (fr:Fr) (τ:St) (vl vc vr x1 x2 x3 x4 x5 vt vk:Value) (vs:List Value) (a1 a2 a3 a4 a5:Nat),SmW num->nm.length<=31->BtS Z H Z.n (Z.n+1) (Z.n+2) N q1 q2 num nm fr τ T vl vc vr x1 x2 x3 x4 x5 vt vk vs a1 a2 a3 a4 a5->Ev (lim Tryz.prog HS none (bnC [1,1,1,1,1,1,1,1]) fr τ) Q ⟨⟩) :
  Ev (lim Tryz.prog HS none (bnC []) (Fq [.agg ⟨A⟩,.agg ⟨[.int .i64 N,.int .i64 q1,.int .i64 q2]⟩] 0 .nil) Z) Q u:=by
 obtain⟨vl,vc,vr,ex,vt,vk,vs,q,hl,hc,hr,M,ht,hk,s⟩:=hT;obtain⟨x1,x2,x3,x4,x5,rfl⟩:=fc5 M.to;have z:A=O4 T.name vl vc vr T.low T.high x1 x2 x3 x4 x5 vt T.G4 vk T.C9 T.t:=q;subst z;clear q;have a0:=s.len;refine zk G ?_;intro num nm fr τ O F g2 g3 g4 g5 g6 e n0 f d i;have v:∀ {Z':St},Ext Z Z'->Ao (J0 Z H) Z':=fun h=>Md.trans (Ao.Lc h);rw[Aa6,Io];refine(Ab2 (fr:=fr) (p:=Z.n) (vs:=vs) g2 om f (hl.I4 (v e)) c1).mono ?_;rintro r ⟨B,I,rfl,a,R,g,o1,y⟩;simp only[Bw];have g2:=(a 2 om om).trans g2;have g3:=(a 3 om om).trans g3;have g4:=(a 4 om om).trans g4;have g5:=(a 5 om om).trans g5;have g6:=(a 6 om om).trans g6;have m1:=y.n;have e:=y.ext e nL;have d:=(y.B8 (b:=Z.n+1) om om).trans d;have i:=(y.B8 (b:=Z.n+2) om om).trans i;clear a f;have f:=g;clear g;rw[Aa7,Io];refine(Ab3 (fr:=B) (p:=Z.n) (vs:=vs) g2 om f (hc.I4 (v e)) c2).mono ?_;rintro r ⟨C,J,rfl,a,S,g,o2,o⟩;simp only[Bw];have g2:=(a 2 om om).trans g2;have g3:=(a 3 om om).trans g3;have g4:=(a 4 om om).trans g4;have g5:=(a 5 om om).trans g5;have g6:=(a 6 om om).trans g6;have m2:=o.n;have e:=o.ext e nL;have d:=(o.B8 (b:=Z.n+1) om om).trans d;have i:=(o.B8 (b:=Z.n+2) om om).trans i;clear a f;have f:=g;clear g;rw[Aa8,Io];refine(Ab4 (fr:=C) (p:=Z.n) (vs:=vs) g2 om f (hr.I4 (v e)) c3).mono ?_;rintro r ⟨D,K,rfl,a,U,g,o3,m⟩;simp only[Bw];have g2:=(a 2 om om).trans g2;have g3:=(a 3 om om).trans g3;have g4:=(a 4 om om).trans g4;have g5:=(a 5 om om).trans g5;have g6:=(a 6 om om).trans g6;have m3:=m.n;have e:=m.ext e nL;have d:=(m.B8 (b:=Z.n+1) om om).trans d;have i:=(m.B8 (b:=Z.n+2) om om).trans i;clear a f;have f:=g;clear g;rw[Aa9,Io];refine(Ab5 (fr:=D) (p:=Z.n) (vs:=vs) g2 om f (ht.I4 (v e)) c4).mono ?_;rintro r ⟨E,L,rfl,a,V,g,o4,l⟩;simp only[Bw];have g2:=(a 2 om om).trans g2;have g3:=(a 3 om om).trans g3;have g4:=(a 4 om om).trans g4;have g5:=(a 5 om om).trans g5;have g6:=(a 6 om om).trans g6;have m4:=l.n;have e:=l.ext e nL;have d:=(l.B8 (b:=Z.n+1) om om).trans d;have i:=(l.B8 (b:=Z.n+2) om om).trans i;clear a f;have f:=g;clear g;rw[Ab0,Io];refine(Ab6 (fr:=E) (p:=Z.n) (vs:=vs) g2 om f (hk.I4 (v e)) om).mono ?_;rintro r ⟨X,a6,rfl,a,W,g,o5,j⟩;simp only[Bw];have g2:=(a 2 om om).trans g2;have g3:=(a 3 om om).trans g3;have g4:=(a 4 om om).trans g4;have g5:=(a 5 om om).trans g5;have g6:=(a 6 om om).trans g6;have m5:=j.n;have e:=j.ext e nL;have d:=(j.B8 (b:=Z.n+1) om om).trans d;have i:=(j.B8 (b:=Z.n+2) om om).trans i;clear a f;have f:=g;clear g
 refine k num nm _ _ R S U x1 x2 x3 x4 x5 V W vs τ.n I.n J.n K.n L.n O F ⟨g2,g3,g4,g5,g6,e,AP _,om,om,om,om,om,om,om,om,m1,m2,m3,m4,m5,f,d,i,
  (((o1.W7 o om).W7 m om).W7 l om).W7 j om,((o2.W7 m om).W7 l om).W7 j om,(o3.W7 l om).W7 j om,o4.W7 j om,o5,s,M,Y⟩
section
variable {Z0 τ:St}{H:List Nat}{p q t a1 a2 a3 a4 a5 w m n:Nat}{q0 q1 q2 num:Int}{nm:By}{fr:Fr}{T:Tn}{vl vc vr x1 x2 x3 x4 x5 vt vk:Value}{vs:List Value}
def cm0:decide ((0:Int)=0)=true:=rfl
def cm1:decide ((1:Int)=0)=false/\decide ((1:Int)=1)=true:=⟨rfl,rfl⟩
def cm2:decide ((2:Int)=0)=false/\decide ((2:Int)=1)=false/\decide ((2:Int)=2)=true:=⟨rfl,rfl,rfl⟩
def cm3:decide ((3:Int)=0)=false/\decide ((3:Int)=1)=false/\decide ((3:Int)=2)=false/\decide ((3:Int)=3)=true:=⟨rfl,rfl,rfl,rfl⟩
def cm4:decide ((4:Int)=0)=false/\decide ((4:Int)=1)=false/\decide ((4:Int)=2)=false/\decide ((4:Int)=3)=false/\decide ((4:Int)=4)=true:=⟨rfl,rfl,rfl,rfl,rfl⟩
def cm5:decide ((5:Int)=0)=false/\decide ((5:Int)=1)=false/\decide ((5:Int)=2)=false/\decide ((5:Int)=3)=false/\decide ((5:Int)=4)=false/\decide ((5:Int)=5)=true:=⟨rfl,rfl,rfl,rfl,rfl,rfl⟩
def cm6:decide ((6:Int)=0)=false/\decide ((6:Int)=1)=false/\decide ((6:Int)=2)=false/\decide ((6:Int)=3)=false/\decide ((6:Int)=4)=false/\decide ((6:Int)=5)=false/\decide ((6:Int)=6)=true:=⟨rfl,rfl,rfl,rfl,rfl,rfl,rfl⟩
def cm7:decide ((7:Int)=0)=false/\decide ((7:Int)=1)=false/\decide ((7:Int)=2)=false/\decide ((7:Int)=3)=false/\decide ((7:Int)=4)=false/\decide ((7:Int)=5)=false/\decide ((7:Int)=6)=false/\decide ((7:Int)=7)=true:=⟨rfl,rfl,rfl,rfl,rfl,rfl,rfl,rfl⟩
def cm8:decide ((8:Int)=0)=false/\decide ((8:Int)=1)=false/\decide ((8:Int)=2)=false/\decide ((8:Int)=3)=false/\decide ((8:Int)=4)=false/\decide ((8:Int)=5)=false/\decide ((8:Int)=6)=false/\decide ((8:Int)=7)=false/\decide ((8:Int)=8)=true:=⟨rfl,rfl,rfl,rfl,rfl,rfl,rfl,rfl,rfl⟩
def cm9:decide ((9:Int)=0)=false/\decide ((9:Int)=1)=false/\decide ((9:Int)=2)=false/\decide ((9:Int)=3)=false/\decide ((9:Int)=4)=false/\decide ((9:Int)=5)=false/\decide ((9:Int)=6)=false/\decide ((9:Int)=7)=false/\decide ((9:Int)=8)=false/\decide ((9:Int)=9)=true:=⟨rfl,rfl,rfl,rfl,rfl,rfl,rfl,rfl,rfl,rfl⟩
def BP6:decide ((10:Int)=0)=false/\decide ((10:Int)=1)=false/\decide ((10:Int)=2)=false/\decide ((10:Int)=3)=false/\decide ((10:Int)=4)=false/\decide ((10:Int)=5)=false/\decide ((10:Int)=6)=false/\decide ((10:Int)=7)=false/\decide ((10:Int)=8)=false/\decide ((10:Int)=9)=false/\decide ((10:Int)=10)=true:=⟨rfl,rfl,rfl,rfl,rfl,rfl,rfl,rfl,rfl,rfl,rfl⟩
def BP7:decide ((11:Int)=0)=false/\decide ((11:Int)=1)=false/\decide ((11:Int)=2)=false/\decide ((11:Int)=3)=false/\decide ((11:Int)=4)=false/\decide ((11:Int)=5)=false/\decide ((11:Int)=6)=false/\decide ((11:Int)=7)=false/\decide ((11:Int)=8)=false/\decide ((11:Int)=9)=false/\decide ((11:Int)=10)=false/\decide ((11:Int)=11)=true:=⟨rfl,rfl,rfl,rfl,rfl,rfl,rfl,rfl,rfl,rfl,rfl,rfl⟩
def BF5:decide ((12:Int)=0)=false/\decide ((12:Int)=1)=false/\decide ((12:Int)=2)=false/\decide ((12:Int)=3)=false/\decide ((12:Int)=4)=false/\decide ((12:Int)=5)=false/\decide ((12:Int)=6)=false/\decide ((12:Int)=7)=false/\decide ((12:Int)=8)=false/\decide ((12:Int)=9)=false/\decide ((12:Int)=10)=false/\decide ((12:Int)=11)=false/\decide ((12:Int)=12)=true:=⟨rfl,rfl,rfl,rfl,rfl,rfl,rfl,rfl,rfl,rfl,rfl,rfl,rfl⟩
def BF6:decide ((13:Int)=0)=false/\decide ((13:Int)=1)=false/\decide ((13:Int)=2)=false/\decide ((13:Int)=3)=false/\decide ((13:Int)=4)=false/\decide ((13:Int)=5)=false/\decide ((13:Int)=6)=false/\decide ((13:Int)=7)=false/\decide ((13:Int)=8)=false/\decide ((13:Int)=9)=false/\decide ((13:Int)=10)=false/\decide ((13:Int)=11)=false/\decide ((13:Int)=12)=false/\decide ((13:Int)=13)=true:=⟨rfl,rfl,rfl,rfl,rfl,rfl,rfl,rfl,rfl,rfl,rfl,rfl,rfl,rfl⟩
def BF7:decide ((14:Int)=0)=false/\decide ((14:Int)=1)=false/\decide ((14:Int)=2)=false/\decide ((14:Int)=3)=false/\decide ((14:Int)=4)=false/\decide ((14:Int)=5)=false/\decide ((14:Int)=6)=false/\decide ((14:Int)=7)=false/\decide ((14:Int)=8)=false/\decide ((14:Int)=9)=false/\decide ((14:Int)=10)=false/\decide ((14:Int)=11)=false/\decide ((14:Int)=12)=false/\decide ((14:Int)=13)=false/\decide ((14:Int)=14)=true:=⟨rfl,rfl,rfl,rfl,rfl,rfl,rfl,rfl,rfl,rfl,rfl,rfl,rfl,rfl,rfl⟩
def BP8:decide ((15:Int)=0)=false/\decide ((15:Int)=1)=false/\decide ((15:Int)=2)=false/\decide ((15:Int)=3)=false/\decide ((15:Int)=4)=false/\decide ((15:Int)=5)=false/\decide ((15:Int)=6)=false/\decide ((15:Int)=7)=false/\decide ((15:Int)=8)=false/\decide ((15:Int)=9)=false/\decide ((15:Int)=10)=false/\decide ((15:Int)=11)=false/\decide ((15:Int)=12)=false/\decide ((15:Int)=13)=false/\decide ((15:Int)=14)=false/\decide ((15:Int)=15)=true:=⟨rfl,rfl,rfl,rfl,rfl,rfl,rfl,rfl,rfl,rfl,rfl,rfl,rfl,rfl,rfl,rfl⟩
def Al6 (h:BtS Z0 H p q t q0 q1 q2 num nm fr τ T vl vc vr x1 x2 x3 x4 x5 vt vk vs a1 a2 a3 a4 a5) (d:WkT w m n T) (o:SmW num) (f:nm.length<=31) (a:fr.get 48=some (.int .i64 0)):Ev (lim Tryz.prog HS none (bnC [1,1,1,1,1,1,1,1,0,1]) fr τ) (BtE Z0 H p t (w+1) (m+26) (n+26)) ⟨⟩:=by
 have e:=h.lo;obtain⟨g2,g3,g4,g5,g6,g,j,l,G,B,C,E,A,D,I,r,s,u,v,y,op,z,i,-,-,-,-,-,-,-,-⟩:=id h;have d:=d.up (Q8 w 1) (Q8 m 26) (Q8 n 26);simp only[bnC,Tryz.f20,J2,M1,y7,y8,y9,AA];refine gU1 (aI @A6 (aI @C7 (aI @cm0 (aI a (aI g2 (aI g5 (aI g6 (aI op @bw0)))))))) ?_;have b:∀ cs,Ext Z0 (τ.upd p cs):=fun cs=>g.upd j cs;have L:=fun cs=>h.same (F:=τ.upd p cs) 0 0 nL fun c c1 c2 _=>by rw[M4,z0z om]
 exact⟨_,_,_,{ T with name:=nm },rfl,fR1 g2,fR1 g4,b _,by show t<τ.n;omega,G8,by rw[H6 om];exact i,Em (V:={ T with name:=nm }) e ((L _).1 om) ((L _).2.1 om) ((L _).2.2.1 om) ((L _).2.2.2.1 om) ((L _).2.2.2.2 om) (h.A9 (b _)).1 (h.A9 (b _)).2,{ d with name:=f }⟩
def Al9 (h:BtS Z0 H p q t q0 q1 q2 num nm fr τ T vl vc vr x1 x2 x3 x4 x5 vt vk vs a1 a2 a3 a4 a5) (d:WkT w m n T) (f:SmW num) (i:nm.length<=31) (a:fr.get 48=some (.int .i64 8)):Ev (lim Tryz.prog HS none (bnC [1,1,1,1,1,1,1,1,0,1]) fr τ) (BtE Z0 H p t (w+1) (m+26) (n+26)) ⟨⟩:=by
 have e:=h.lo;obtain⟨g2,g3,g4,g5,g6,g,l,o,G,B,C,E,A,D,I,r,s,u,v,y,op,z,j,-,-,-,-,-,-,-,-⟩:=id h;have d:=d.up (Q8 w 1) (Q8 m 26) (Q8 n 26);simp only[bnC,Tryz.f20,J2,M1,y7,y8,y9,AA];refine gU1 (aI @A6 (aI @C7 (aI @cm8 (aI a (aI g2 (aI g5 (aI g6 (aI op @bw5)))))))) ?_;have b:∀ cs,Ext Z0 (τ.upd p cs):=fun cs=>g.upd l cs;have L:=fun cs=>h.same (F:=τ.upd p cs) 0 0 nL fun c c1 c2 _=>by rw[M4,z0z om]
 exact⟨_,_,_,{ T with high:=num },rfl,fR1 g2,fR1 g4,b _,by show t<τ.n;omega,G8,by rw[H6 om];exact j,Em (V:={ T with high:=num }) e ((L _).1 om) ((L _).2.1 om) ((L _).2.2.1 om) ((L _).2.2.2.1 om) ((L _).2.2.2.2 om) (h.A9 (b _)).1 (h.A9 (b _)).2,{ d with high:=f }⟩
def Am0 (h:BtS Z0 H p q t q0 q1 q2 num nm fr τ T vl vc vr x1 x2 x3 x4 x5 vt vk vs a1 a2 a3 a4 a5) (d:WkT w m n T) (f:SmW num) (i:nm.length<=31) (a:fr.get 48=some (.int .i64 9)):Ev (lim Tryz.prog HS none (bnC [1,1,1,1,1,1,1,1,0,1]) fr τ) (BtE Z0 H p t (w+1) (m+26) (n+26)) ⟨⟩:=by
 have e:=h.lo;obtain⟨g2,g3,g4,g5,g6,g,l,o,G,B,C,E,A,D,I,r,s,u,v,y,op,z,j,-,-,-,-,-,-,-,-⟩:=id h;have d:=d.up (Q8 w 1) (Q8 m 26) (Q8 n 26);simp only[bnC,Tryz.f20,J2,M1,y7,y8,y9,AA];refine gU1 (aI @A6 (aI @C7 (aI @cm9 (aI a (aI g2 (aI g5 (aI g6 (aI op @BE5)))))))) ?_;have b:∀ cs,Ext Z0 (τ.upd p cs):=fun cs=>g.upd l cs;have L:=fun cs=>h.same (F:=τ.upd p cs) 0 0 nL fun c c1 c2 _=>by rw[M4,z0z om]
 exact⟨_,_,_,{ T with G4:=num },rfl,fR1 g2,fR1 g4,b _,by show t<τ.n;omega,G8,by rw[H6 om];exact j,Em (V:={ T with G4:=num }) e ((L _).1 om) ((L _).2.1 om) ((L _).2.2.1 om) ((L _).2.2.2.1 om) ((L _).2.2.2.2 om) (h.A9 (b _)).1 (h.A9 (b _)).2,{ d with G4:=f }⟩
def AR2 (h:BtS Z0 H p q t q0 q1 q2 num nm fr τ T vl vc vr x1 x2 x3 x4 x5 vt vk vs a1 a2 a3 a4 a5) (d:WkT w m n T) (f:SmW num) (i:nm.length<=31) (a:fr.get 48=some (.int .i64 10)):Ev (lim Tryz.prog HS none (bnC [1,1,1,1,1,1,1,1,0,1]) fr τ) (BtE Z0 H p t (w+1) (m+26) (n+26)) ⟨⟩:=by
 have e:=h.lo;obtain⟨g2,g3,g4,g5,g6,g,l,o,G,B,C,E,A,D,I,r,s,u,v,y,op,z,j,-,-,-,-,-,-,-,-⟩:=id h;have d:=d.up (Q8 w 1) (Q8 m 26) (Q8 n 26);simp only[bnC,Tryz.f20,J2,M1,y7,y8,y9,AA];refine gU1 (aI @A6 (aI @C7 (aI @BP6 (aI a (aI g2 (aI g5 (aI g6 (aI op @BE6)))))))) ?_;have b:∀ cs,Ext Z0 (τ.upd p cs):=fun cs=>g.upd l cs;have L:=fun cs=>h.same (F:=τ.upd p cs) 0 0 nL fun c c1 c2 _=>by rw[M4,z0z om]
 exact⟨_,_,_,{ T with C9:=num },rfl,fR1 g2,fR1 g4,b _,by show t<τ.n;omega,G8,by rw[H6 om];exact j,Em (V:={ T with C9:=num }) e ((L _).1 om) ((L _).2.1 om) ((L _).2.2.1 om) ((L _).2.2.2.1 om) ((L _).2.2.2.2 om) (h.A9 (b _)).1 (h.A9 (b _)).2,{ d with C9:=f }⟩
def AR3 (h:BtS Z0 H p q t q0 q1 q2 num nm fr τ T vl vc vr x1 x2 x3 x4 x5 vt vk vs a1 a2 a3 a4 a5) (a:WkT w m n T) (f:SmW num) (i:nm.length<=31) (b:fr.get 48=some (.int .i64 11)):Ev (lim Tryz.prog HS none (bnC [1,1,1,1,1,1,1,1,0,1]) fr τ) (BtE Z0 H p t (w+1) (m+26) (n+26)) ⟨⟩:=by
 have e:=h.lo;obtain⟨g2,g3,g4,g5,g6,g,l,o,I,C,D,G,B,E,J,r,u,v,y,z,op,A,j,-,-,-,-,-,-,-,-⟩:=id h;have a:=a.up (Q8 w 1) (Q8 m 26) (Q8 n 26);simp only[bnC,Tryz.f20,J2,M1,y7,y8,y9,AA];refine gU1 (aI @A6 (aI @C7 (aI @BP7 (aI b (aI g2 (aI g5 (aI g6 (aI op @BE7)))))))) ?_;have d:∀ cs,Ext Z0 (τ.upd p cs):=fun cs=>g.upd l cs;have L:=fun cs=>h.same (F:=τ.upd p cs) 0 0 nL fun c c1 c2 _=>by rw[M4,z0z om]
 exact⟨_,_,_,{ T with t:={ T.t with s:=num } },rfl,fR1 g2,fR1 g4,d _,by show t<τ.n;omega,G8,by rw[H6 om];exact j,Em (V:={ T with t:={ T.t with s:=num } }) e ((L _).1 om) ((L _).2.1 om) ((L _).2.2.1 om) ((L _).2.2.2.1 om) ((L _).2.2.2.2 om) (h.A9 (d _)).1 (h.A9 (d _)).2,{ a with tim:=⟨a.tim.1,a.tim.2.1,a.tim.2.2.1,a.tim.2.2.2.1,f⟩ }⟩
def AR7 (h:BtS Z0 H p q t q0 q1 q2 num nm fr τ T vl vc vr x1 x2 x3 x4 x5 vt vk vs a1 a2 a3 a4 a5) (d:WkT w m n T) (s:SmW num) (i:nm.length<=31) (a:fr.get 48=some (.int .i64 15)):Ev (lim Tryz.prog HS none (bnC [1,1,1,1,1,1,1,1,0,1]) fr τ) (BtE Z0 H p t (w+1) (m+26) (n+26)) ⟨⟩:=by
 have e:=h.lo;obtain⟨g2,g3,g4,g5,g6,f,o,r,J,D,E,I,C,G,K,u,v,y,z,A,op,B,j,-,-,-,-,-,-,-,-⟩:=id h;have d:=d.up (Q8 w 1) (Q8 m 26) (Q8 n 26);simp only[bnC,Tryz.f20,J2,M1,y7,y8,y9,AA];refine gU1 (aI @A6 (aI @C7 (aI @BP8 (aI a (aI g2 (aI g5 (aI g6 (aI op @bw1)))))))) ?_;have b:∀ cs,Ext Z0 (τ.upd p cs):=fun cs=>f.upd o cs;have L:=fun cs=>h.same (F:=τ.upd p cs) 0 0 nL fun c c1 c2 _=>by rw[M4,z0z om]
 exact⟨_,_,_,{ T with F9:=[] },rfl,fR1 g2,fR1 g4,b _,by show t<τ.n;omega,G8,by rw[H6 om];exact j,Em (V:={ T with F9:=[] }) e (OL.nil) ((L _).2.1 om) ((L _).2.2.1 om) ((L _).2.2.2.1 om) ((L _).2.2.2.2 om) (h.A9 (b _)).1 (h.A9 (b _)).2,{ d with F9:=by simp,lot:=fun l g=>by simp at g }⟩
end
end Go.Proofs.T
