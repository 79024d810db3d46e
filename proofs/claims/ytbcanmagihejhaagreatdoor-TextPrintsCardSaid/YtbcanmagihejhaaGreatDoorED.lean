/- The G2 jK: the cases Aa append BT0. -/
import Derived.Test.YtbcanmagihejhaaGreatDoorEC
set_option linter.unusedSimpArgs false
set_option linter.unusedVariables false
set_option linter.defProp false
set_option maxHeartbeats 32000000
set_option maxRecDepth 100000
namespace Go.Proofs.T
open Go Go.Ab
open Nat (reduceMul reduceEqDiff reduceAdd)
section
variable {Z0 τ:St}{H:List Nat}{p q t a1 a2 a3 a4 a5 w m n:Nat}{q0 q1 q2 num:Int}{nm:By}{fr:Fr}{T:Tn}{vl vc vr x1 x2 x3 x4 x5 vt vk:Value}{vs:List Value}
def Zj (k:Nat):Lot:=⟨100+(k:Int),0⟩
def Zk (k:Nat):Req:=⟨[115,112,101,101,100],[60,61],(k:Int)⟩
def SI {a:Type}(f:Nat->a) (k:Nat):(List.range (k+1)).map f=(List.range k).map f++[f k]:=by rw[List.range_succ,Ah];rfl
def AR5 (h:BtS Z0 H p q t q0 q1 q2 num nm fr τ T vl vc vr x1 x2 x3 x4 x5 vt vk vs a1 a2 a3 a4 a5) (o:WkT w m n T) (Bf:SmW num) (a8:nm.length<=31) (C:X6 q2) (a7:n<=100) (f:fr.get 48=some (.int .i64 13)):Ev (lim Tryz.prog HS none (bnC [1,1,1,1,1,1,1,1,0,1]) fr τ) (BtE Z0 H p t (w+1) (m+26) (n+26)) ⟨⟩:=by
 have O:=h.lo;have u:=h.l1;have s:=fun{F:St} (G:Ext Z0 F)=>h.A9 G;obtain⟨g2,g3,g4,g5,g6,G,p0,a9,t0,Y,pt,qt,pl,ql,tl,b1,b2,b3,b4,b5,op,X,ot,-,-,-,-,-,-,-,-⟩:=id h;have a6:=o.F9;have o:=o.up (Q8 w 1) (Q8 m 26) (Q8 n 26);simp only[bnC,Tryz.f20,J2,M1,y7,y8,y9,AA];refine gU1 (aI @A6 (aI @K6 (aI @K4 (aI @K5 (aI @H5 (aI @BF6 (aI f g2))))))) ?_;have y1:0<=q2 % 3:=Int.emod_nonneg _ om;have y2:q2 % 3<3:=Int.emod_lt_of_pos _ om;obtain⟨N,hN⟩:=KR (show 0<=11+q2 % 3 by omega);have a0:N<=13:=om
 refine I9 N (fun k fr a=>fr.get 7=some (.int .i64 k)/\fr.get 3=some (.pointer (some ⟨q,0,none⟩))/\fr.get 2=some (.pointer (some ⟨p,0,none⟩))/\fr.get 4=some (.pointer (some ⟨t,0,none⟩))/\Ext Z0 a/\τ.n<=a.n/\(∀ c,c<τ.n->(c<a1\/a2<=c)->c≠p->a.h.get c=τ.h.get c)/\∃ v,a.B8 p=some (O4 T.name v vc vr T.low T.high x1 x2 x3 x4 x5 vt T.G4 vk T.C9 T.t)/\OL a1 a 2 v ((T.F9++(List.range k).map Zj).map Lot.row)/\(∀ x,K3 v=some x->x<a2\/τ.n<=x))
  (fun r=>∃ fr a,r=⟨.exit 1,fr,a⟩/\fr.get 2=some (.pointer (some ⟨p,0,none⟩))/\fr.get 4=some (.pointer (some ⟨t,0,none⟩))/\Ext Z0 a/\τ.n<=a.n/\(∀ c,c<τ.n->(c<a1\/a2<=c)->c≠p->a.h.get c=τ.h.get c)/\∃ v,a.B8 p=some (O4 T.name v vc vr T.low T.high x1 x2 x3 x4 x5 vt T.G4 vk T.C9 T.t)/\OL a1 a 2 v ((T.F9++(List.range N).map Zj).map Lot.row)/\(∀ x,K3 v=some x->x<a2\/τ.n<=x)) ?_ ?_ ?_ ?_
 ·exact⟨fR,fR1 g3,fR1 g2,fR1 g4,G,AP _,fun c _ _ _=>rfl,vl,op,by rw[List.range_zero,List.map_nil,Ca];exact u.1,fun x D=> .inl (u.2 x D)⟩
 ·clear g2 g3 g4 g5 g6 f;rintro k fr a M ⟨gk,g3,g2,g4,b,g,d,v,e,z,i⟩;have I:=M3 M;have rp:=C1 e;have l:a.B8 q=some [.int .i64 q0,.int .i64 q1,.int .i64 q2]:=by rw[B9 (d q om (.inl om) (Ne.symm Y))];exact X
  have U:=C1 l;simp(maxSteps:=8000000) (disch:=first|exact dS|fail) only[↓bD,bU,reduceMul,reduceEqDiff,reduceAdd,Nat.reduceBEq,reduceIte,Option.isNone_none,A6,K6,K4,K5,H5,FY,gk,g3,U];refine(AN (m:=3) C om om).mono ?_;rintro r rfl;simp(maxSteps:=8000000) (disch:=first|exact dS|fail) only[↓bD,bU,reduceMul,reduceEqDiff,reduceAdd,Nat.reduceBEq,reduceIte,Option.isNone_none,A6,K6,K4,K5,H5,hN,I,gk,g2,rp,bu1];have A:OL a1 (a.new [.int .i64 (100+(k:Int)),.int .i64 0]) 2 v ((T.F9++(List.range k).map Zj).map Lot.row):=OL.ext z (.new _ _);refine J6 (row:=[.int .i64 (100+(k:Int)),.int .i64 0]) (fun _ _ _ _=>R5) A (G6 om om) (G3 (by simp) (by simp)) (by rw[z2z,W4,z2z,List.length_range];omega) (by simp;omega) ?_;rintro v2 E B j -;have n2:=j.n;simp only[K9]at n2;have J:∀ c,c<τ.n->(c<a1\/a2<=c)->E.h.get c=a.h.get c:=fun c I hd=>by rw[j.same c (by simp;omega) (fun W=>by have:=i c W;have:=(A.blk W).1;omega),N8,z0z om]
  have R:E.B8 p=some (O4 T.name v vc vr T.low T.high x1 x2 x3 x4 x5 vt T.G4 vk T.C9 T.t):=by rw[B9 (J p om (.inl om))];exact e
  have K:∀ x,K3 v2=some x->τ.n<=x:=fun x D=>by have:=(j.new x D).1;simp at this;omega
  have Z:(T.F9++(List.range (k+1)).map Zj).map Lot.row=(T.F9++(List.range k).map Zj).map Lot.row++[[.int .i64 (100+(k:Int)),.int .i64 0]]:=by rw[SI,<- DT,Ah];rfl
  obtain⟨aa,rfl⟩:=OL.shape B;simp(maxSteps:=8000000) (disch:=first|exact dS|fail) only[↓bD,bU,reduceMul,reduceEqDiff,reduceAdd,Nat.reduceBEq,reduceIte,Option.isNone_none,A6,K6,K4,K5,H5,g2,gk,R,bw1];refine⟨fR,fR1 g3,fR1 g2,fR1 g4,⟨by show Z0.n<=E.n;have:=b.n;omega,fun c I=>?_⟩,by show τ.n<=E.n;omega,fun c c1 c2 c3=>by rw[M4,z0z c3,J c c1 c2];exact d c c1 c2 c3,_,rfl,OL.upd (by rw[Z];exact B) om,fun x D=> .inr (K x D)⟩;have:=G.n;rw[M4,z0z om,J c om (.inl om)];exact b.same c I
 ·clear g2 g3 g4 g5 g6 f;rintro fr a ⟨gk,g3,g2,g4,b,g,d,v,e,z,i⟩;have l:a.B8 q=some [.int .i64 q0,.int .i64 q1,.int .i64 q2]:=by rw[B9 (d q om (.inl om) (Ne.symm Y))];exact X
  have U:=C1 l;simp(maxSteps:=8000000) (disch:=first|exact dS|fail) only[↓bD,bU,reduceMul,reduceEqDiff,reduceAdd,Nat.reduceBEq,reduceIte,Option.isNone_none,A6,K6,K4,K5,H5,FY,gk,g3,U];refine(AN (m:=3) C om om).mono ?_;rintro r rfl;simp(maxSteps:=8000000) (disch:=first|exact dS|fail) only[↓bD,bU,reduceMul,reduceEqDiff,reduceAdd,Nat.reduceBEq,reduceIte,Option.isNone_none,A6,K6,K4,K5,H5,hN,gk,HD];exact⟨_,_,rfl,fR1 g2,fR1 g4,b,g,d,v,e,z,i⟩
 clear g2 g3 g4 g5 g6 f;rintro r ⟨fr,a,rfl,g2,g4,b,g,d,v,e,z,i⟩;refine gU1 (aI @A6 @C7) ?_;have S:a.B8 t=some z20:=by rw[B9 (d t om (.inl om) (Ne.symm pt))];exact ot
 have L:=h.same (F:=a) a1 a2 g fun c c1 c2 c3=>d c c2 c3 om;have oF:OL a1 a 2 v ((T.F9++(List.range N).map Zj).map Lot.row):=OL.lower z om;exact⟨_,_,_,{ T with F9:=T.F9++(List.range N).map Zj },rfl,fR1 g2,fR1 g4,b,om,e,S,Em (V:={ T with F9:=T.F9++(List.range N).map Zj }) O oF (L.2.1 om) (L.2.2.1 om) (L.2.2.2.1 om) (L.2.2.2.2 om) (s b).1 (s b).2,{ o with F9:=by show(T.F9++_).length<=_;rw[W4,z2z,List.length_range];omega,lot:=fun y Q=>(An.1 Q).elim (o.lot y) (fun Q=>by obtain⟨k,M,rfl⟩:=GI.1 Q;rw[We]at M;exact⟨by show SmW (100+(k:Int));unfold SmW;omega,by show SmW 0;unfold SmW;omega⟩) }⟩
def AR6 (h:BtS Z0 H p q t q0 q1 q2 num nm fr τ T vl vc vr x1 x2 x3 x4 x5 vt vk vs a1 a2 a3 a4 a5) (o:WkT w m n T) (Bf:SmW num) (a8:nm.length<=31) (C:X6 q2) (a7:n<=100) (f:fr.get 48=some (.int .i64 14)):Ev (lim Tryz.prog HS none (bnC [1,1,1,1,1,1,1,1,0,1]) fr τ) (BtE Z0 H p t (w+1) (m+26) (n+26)) ⟨⟩:=by
 have O:=h.lo;have u:=h.l3;have s:=fun{F:St} (G:Ext Z0 F)=>h.A9 G;obtain⟨g2,g3,g4,g5,g6,G,p0,a9,t0,Y,pt,qt,pl,ql,tl,b1,b2,b3,b4,b5,op,X,ot,-,-,-,-,-,-,-,-⟩:=id h;have a6:=o.reqs;have o:=o.up (Q8 w 1) (Q8 m 26) (Q8 n 26);simp only[bnC,Tryz.f20,J2,M1,y7,y8,y9,AA];refine gU1 (aI @A6 (aI @K6 (aI @K4 (aI @K5 (aI @H5 (aI @BF7 (aI f g2))))))) ?_;have y1:0<=q2 % 3:=Int.emod_nonneg _ om;have y2:q2 % 3<3:=Int.emod_lt_of_pos _ om;obtain⟨N,hN⟩:=KR (show 0<=24+q2 % 3 by omega);have a0:N<=26:=om
 refine I9 N (fun k fr a=>fr.get 8=some (.int .i64 k)/\fr.get 3=some (.pointer (some ⟨q,0,none⟩))/\fr.get 2=some (.pointer (some ⟨p,0,none⟩))/\fr.get 4=some (.pointer (some ⟨t,0,none⟩))/\Ext Z0 a/\τ.n<=a.n/\(∀ c,c<τ.n->(c<a3\/a4<=c)->c≠p->a.h.get c=τ.h.get c)/\∃ v,a.B8 p=some (O4 T.name vl vc v T.low T.high x1 x2 x3 x4 x5 vt T.G4 vk T.C9 T.t)/\OL a3 a 3 v ((T.reqs++(List.range k).map Zk).map Req.row)/\(∀ x,K3 v=some x->x<a4\/τ.n<=x))
  (fun r=>∃ fr a,r=⟨.exit 3,fr,a⟩/\fr.get 2=some (.pointer (some ⟨p,0,none⟩))/\fr.get 4=some (.pointer (some ⟨t,0,none⟩))/\Ext Z0 a/\τ.n<=a.n/\(∀ c,c<τ.n->(c<a3\/a4<=c)->c≠p->a.h.get c=τ.h.get c)/\∃ v,a.B8 p=some (O4 T.name vl vc v T.low T.high x1 x2 x3 x4 x5 vt T.G4 vk T.C9 T.t)/\OL a3 a 3 v ((T.reqs++(List.range N).map Zk).map Req.row)/\(∀ x,K3 v=some x->x<a4\/τ.n<=x)) ?_ ?_ ?_ ?_
 ·exact⟨fR,fR1 g3,fR1 g2,fR1 g4,G,AP _,fun c _ _ _=>rfl,vr,op,by rw[List.range_zero,List.map_nil,Ca];exact u.1,fun x D=> .inl (u.2 x D)⟩
 ·clear g2 g3 g4 g5 g6 f;rintro k fr a M ⟨gk,g3,g2,g4,b,g,d,v,e,z,i⟩;have I:=M3 M;have rp:=C1 e;have l:a.B8 q=some [.int .i64 q0,.int .i64 q1,.int .i64 q2]:=by rw[B9 (d q om (.inl om) (Ne.symm Y))];exact X
  have U:=C1 l;simp(maxSteps:=8000000) (disch:=first|exact dS|fail) only[↓bD,bU,reduceMul,reduceEqDiff,reduceAdd,Nat.reduceBEq,reduceIte,Option.isNone_none,A6,K6,K4,K5,H5,FY,gk,g3,U];refine(AN (m:=3) C om om).mono ?_;rintro r rfl;simp(maxSteps:=8000000) (disch:=first|exact dS|fail) only[↓bD,bU,reduceMul,reduceEqDiff,reduceAdd,Nat.reduceBEq,reduceIte,Option.isNone_none,A6,K6,K4,K5,H5,hN,I,gk,g2,rp,bu3];have A:OL a3 (a.new [str [115,112,101,101,100],str [60,61],.int .i64 (k:Int)]) 3 v ((T.reqs++(List.range k).map Zk).map Req.row):=OL.ext z (.new _ _);refine J6 (row:=[str [115,112,101,101,100],str [60,61],.int .i64 (k:Int)]) (fun _ _ _ _=>R1) A (G6 om om) (G3 (by simp) (by simp)) (by rw[z2z,W4,z2z,List.length_range];omega) (by simp;omega) ?_;rintro v2 E B j -;have n2:=j.n;simp only[K9]at n2;have J:∀ c,c<τ.n->(c<a3\/a4<=c)->E.h.get c=a.h.get c:=fun c I hd=>by rw[j.same c (by simp;omega) (fun W=>by have:=i c W;have:=(A.blk W).1;omega),N8,z0z om]
  have R:E.B8 p=some (O4 T.name vl vc v T.low T.high x1 x2 x3 x4 x5 vt T.G4 vk T.C9 T.t):=by rw[B9 (J p om (.inl om))];exact e
  have K:∀ x,K3 v2=some x->τ.n<=x:=fun x D=>by have:=(j.new x D).1;simp at this;omega
  have Z:(T.reqs++(List.range (k+1)).map Zk).map Req.row=(T.reqs++(List.range k).map Zk).map Req.row++[[str [115,112,101,101,100],str [60,61],.int .i64 (k:Int)]]:=by rw[SI,<- DT,Ah];rfl
  obtain⟨aa,rfl⟩:=OL.shape B;simp(maxSteps:=8000000) (disch:=first|exact dS|fail) only[↓bD,bU,reduceMul,reduceEqDiff,reduceAdd,Nat.reduceBEq,reduceIte,Option.isNone_none,A6,K6,K4,K5,H5,g2,gk,R,bw3];refine⟨fR,fR1 g3,fR1 g2,fR1 g4,⟨by show Z0.n<=E.n;have:=b.n;omega,fun c I=>?_⟩,by show τ.n<=E.n;omega,fun c c1 c2 c3=>by rw[M4,z0z c3,J c c1 c2];exact d c c1 c2 c3,_,rfl,OL.upd (by rw[Z];exact B) om,fun x D=> .inr (K x D)⟩;have:=G.n;rw[M4,z0z om,J c om (.inl om)];exact b.same c I
 ·clear g2 g3 g4 g5 g6 f;rintro fr a ⟨gk,g3,g2,g4,b,g,d,v,e,z,i⟩;have l:a.B8 q=some [.int .i64 q0,.int .i64 q1,.int .i64 q2]:=by rw[B9 (d q om (.inl om) (Ne.symm Y))];exact X
  have U:=C1 l;simp(maxSteps:=8000000) (disch:=first|exact dS|fail) only[↓bD,bU,reduceMul,reduceEqDiff,reduceAdd,Nat.reduceBEq,reduceIte,Option.isNone_none,A6,K6,K4,K5,H5,FY,gk,g3,U];refine(AN (m:=3) C om om).mono ?_;rintro r rfl;simp(maxSteps:=8000000) (disch:=first|exact dS|fail) only[↓bD,bU,reduceMul,reduceEqDiff,reduceAdd,Nat.reduceBEq,reduceIte,Option.isNone_none,A6,K6,K4,K5,H5,hN,gk,HD];exact⟨_,_,rfl,fR1 g2,fR1 g4,b,g,d,v,e,z,i⟩
 clear g2 g3 g4 g5 g6 f;rintro r ⟨fr,a,rfl,g2,g4,b,g,d,v,e,z,i⟩;refine gU1 (aI @A6 @C7) ?_;have S:a.B8 t=some z20:=by rw[B9 (d t om (.inl om) (Ne.symm pt))];exact ot
 have L:=h.same (F:=a) a3 a4 g fun c c1 c2 c3=>d c c2 c3 om;have oF:OL a1 a 3 v ((T.reqs++(List.range N).map Zk).map Req.row):=OL.lower z om;exact⟨_,_,_,{ T with reqs:=T.reqs++(List.range N).map Zk },rfl,fR1 g2,fR1 g4,b,om,e,S,Em (V:={ T with reqs:=T.reqs++(List.range N).map Zk }) O (L.1 om) (L.2.1 om) oF (L.2.2.2.1 om) (L.2.2.2.2 om) (s b).1 (s b).2,{ o with reqs:=by show(T.reqs++_).length<=_;rw[W4,z2z,List.length_range];omega,req:=fun y Q=>(An.1 Q).elim (o.req y) (fun Q=>by obtain⟨k,M,rfl⟩:=GI.1 Q;rw[We]at M;exact⟨by show(5:Nat)<=31;omega,by show(2:Nat)<=2;omega,by show SmW (k:Int);unfold SmW;omega⟩) }⟩
end
end Go.Proofs.T
namespace Go.Proofs.T
open Go Go.Ab
section
variable {H:List Nat}{t w m n:Nat}{q0 q1 q2:Int}{T:Tn}{Z:St}
def AR0:bnC [1,1,1,1,1,1,1,1]= .seq (.seq (bnC [1,1,1,1,1,1,1,1,0,0]) (bnC [1,1,1,1,1,1,1,1,0,1])) (bnC [1,1,1,1,1,1,1,1,1]):=kR
def yH {z:Int}(a:0<=z) (b:z<16):z=0\/z=1\/z=2\/z=3\/z=4\/z=5\/z=6\/z=7\/z=8\/z=9\/z=10\/z=11\/z=12\/z=13\/z=14\/z=15:=om
def BtS.fr {Z0:St}{p q:Nat}{b:Int}{nm:By}{fr a:Fr}{B:St}{o j r u v y z A s l:Value}{vs:List Value}{c d e f g:Nat}(h:BtS Z0 H p q t q0 q1 q2 b nm fr B T o j r u v y z A s l vs c d e f g) (k:∀ i,2<=i->i<=6->a.get i=fr.get i):BtS Z0 H p q t q0 q1 q2 b nm a B T o j r u v y z A s l vs c d e f g :=
 { h with g2:=(k 2 om om).trans h.g2,g3:=(k 3 om om).trans h.g3,g4:=(k 4 om om).trans h.g4,g5:=(k 5 om om).trans h.g5,g6:=(k 6 om om).trans h.g6 }
def AE1 (Z:St) (H:List Nat) (w m n:Nat) (r:CR):Prop:=∃ cells V Z',r=⟨false,.agg ⟨cells⟩,Z'⟩/\Ext Z Z'/\TnY (J0 Z' H) cells V/\WkT w m n V
def AR1 {r:Res}(h:BtQ Z H t w m n r):Ev (ER Tryz.prog Tryz.f20 r) (AE1 Z H w m n) ⟨⟩:=by
 obtain⟨fr,f,cells,V,rfl,g4,e,b,a,c⟩:=h;have d:sub cells 0 20=some cells:=by have:=a.tn.len;exact G3 om om
 have rt:=C1 e;refine gU1 (aI @A6 (aI @C7 (aI g4 (aI @rt (aI d @Tryz.results20))))) ?_;exact⟨_,_,_,rfl,b,a,c⟩
def gb {y:List Value}(E:∀ c∈H,c<Z.n) (F:TnY (J0 Z H) y T) (e:WkT w m n T) (s:1<=w) (u:w<=3) (j:n<=100) (o:X6 q0) (l:X6 q1) (g:X6 q2):
  Ev (gO 20 [.agg ⟨y⟩,.agg ⟨[.int .i64 q0,.int .i64 q1,.int .i64 q2]⟩] Z) (AE1 Z H (w+1) (m+26) (n+26)) ⟨⟩:=by
 refine G1 (body:=bnC []) Tryz.func20 kR rfl ?_;refine sB E F (by have:=e.F9;omega) (by have:=e.E9;omega) (by have:=e.reqs;omega) (by have:=e.H2;omega) (by have:=e.C8;omega) l ?_;intro I nm fr D W U vr x1 x2 x3 x4 x5 vt V vs K L M N O f d p;have g3:=p.g3;have J:=C1 p.oq;obtain⟨X,A⟩:=nW (bnC [1,1,1,1,1,1,1,1,0,1]);obtain⟨Y,hY⟩:=nW (bnC [1,1,1,1,1,1,1,1,1]);rw[AR0,A,hY,Io,Io];refine Ev.mono (R:=fun r=>∃ h,r=⟨.normal,h,D⟩/\(∀ i,2<=i->i<=6->h.get i=fr.get i)/\h.get 48=some (.int .i64 (q0 % 16))) (v:=⟨⟩) ?_ ?_
 ·simp only[bnC,Tryz.f20,J2,M1,y7,y8,y9,AA];refine gU1 (aI @A6 (aI @C7 (aI @FY (aI g3 J)))) ?_;refine(AN (m:=16) o om om).mono ?_;rintro r rfl;refine gU1 (aI @A6 @C7) ?_;exact⟨_,rfl,fun i Q S=>by iterate 3 rw[N4,z0z om],fR⟩
 rintro r ⟨h,rfl,G,a⟩;simp only[Bw];have B:0<=q0 % 16:=Int.emod_nonneg _ om;have C:q0 % 16<16:=Int.emod_lt_of_pos _ om;have b:=p.fr G;have key:Ev (lim Tryz.prog HS none X h D) (BtE Z H Z.n (Z.n+2) (w+1) (m+26) (n+26)) ⟨⟩:=by
  rw[<- A];generalize q0 % 16=z at B C a;rcases yH B C with rfl|rfl|rfl|rfl|rfl|rfl|rfl|rfl|rfl|rfl|rfl|rfl|rfl|rfl|rfl|rfl
  ·exact Al6 b e f d  a
  ·exact Al7 b e f d g j a
  ·exact Al8 b e f d g j a
  ·exact Af6 b e f d g j a
  ·exact Af7 b e f d g j a
  ·exact Af3 b e f d j a
  ·exact Af8 b e f d j a
  ·exact Af9 b e f d l j a
  ·exact Al9 b e f d  a
  ·exact Am0 b e f d  a
  ·exact AR2 b e f d  a
  ·exact AR3 b e f d  a
  ·exact AR4 b e f d o l g s u a
  ·exact AR5 b e f d g j a
  ·exact AR6 b e f d g j a
  ·exact AR7 b e f d  a
 refine key.mono fun r q=>?_;rw[<- hY];refine(AR8 om om q).mono fun r q=>AR1 q
end
def ME {n:Int}(h:SmN n):SmW n:=by obtain⟨a,b⟩:=h;unfold SmW;omega
def yc {T:Tn}(h:ng T):WkT 2 16 12 T:=by
 obtain⟨k,m,j,-,q⟩:=h.f;refine⟨by have:=h.nm;omega,by have:=h.F9;omega,fun l n=>?_,by have:=h.E9;omega,fun c g=>?_,by have:=h.reqs;omega,fun r i=>?_,by have:=h.H2;omega,fun s u=>by have:=h.tie s u;omega,by have:=h.C8;omega,fun c g=>⟨by have:=h.combo c g;omega,fun k p=>ME (h.sm.combo c g k p)⟩,ME h.sm.low,ME h.sm.high,ME h.sm.G4,ME h.sm.C9,?_,AP8 j.1,?_⟩
 ·exact⟨ME (h.sm.lot l n).1,ME (h.sm.lot l n).2⟩
 ·obtain⟨a,b,o⟩:=h.sm.Y7 c g;exact⟨by have:=h.Y7 c g;omega,om,ME b,ME o⟩
 ·refine⟨by have:=h.req r i;omega,?_,ME (h.sm.req r i)⟩;have:=(h.right.req r i).2.1;simp at this;rcases this with h|h<;>rw[h]<;>decide
 ·obtain⟨a,b,c,d,e⟩:=h.sm.tim;exact⟨ME a,ME b,ME c,ME d,ME e⟩
 ·rw[(XH j.1).2.2];exact q
end Go.Proofs.T
