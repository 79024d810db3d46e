/- The G2 jK: the cases on BS9 numbers, and on the AL. -/
import Derived.Test.YtbcanmagihejhaaGreatDoorEB
set_option linter.unusedSimpArgs false
set_option linter.unusedVariables false
set_option linter.defProp false
set_option maxHeartbeats 32000000
set_option maxRecDepth 100000
namespace Go.Proofs.T
open Go Go.Ab
section
variable {Z0 τ:St}{H:List Nat}{p q t a1 a2 a3 a4 a5 w m n:Nat}{q0 q1 q2 num:Int}{nm:By}{fr:Fr}{T:Tn}{vl vc vr x1 x2 x3 x4 x5 vt vk:Value}{vs:List Value}
def Ot {size:Nat}{x:Value}:∀ {D0:List (List Value)}{k o:Nat}{r:List Value},(∀ r∈D0,r.length=size)->D0[k]? =some r->o<size->M5 D0.flatten (k*size+o) [x]=some (D0.set k (r.set o x)).flatten:=by
 intro D0 k o r f d l;obtain⟨b,h⟩:=List.getElem?_eq_some_iff.1 d;have e:=Cn D0 f;have c:k*size+size<=D0.length*size:=by
  have:(k+1)*size<=D0.length*size:=SZ size b;rw[Oy]at this;exact this
 rw[LI (by simp only[WX];omega)];congr 1;clear e c h b;induction D0 generalizing k with
 |nil=>simp at d
 | cons a D0 ih=>
   have j:=f a (by simp);cases k with
   | zero=>
     cases d;rw[GV,Eo];simp only[List.set_cons_zero,Qp,WX];rw[List.take_append_of_le_length om,List.drop_append_of_le_length om,List.set_eq_take_append_cons_drop,z1z om];simp[DT]
   | succ k=>
     have:=ih (k:=k) (fun r i=>f r (by simp[i])) (by simpa using d);simp only[List.set_cons_succ,Qp];rw[<- this];have g:(k+1)*size+o=a.length+(k*size+o):=by rw[Oy];omega
     rw[g,List.take_length_add_append,Px,List.drop_length_add_append];simp[DT]
def Al7 (h:BtS Z0 H p q t q0 q1 q2 num nm fr τ T vl vc vr x1 x2 x3 x4 x5 vt vk vs a1 a2 a3 a4 a5) (a:WkT w m n T) (S:SmW num) (a0:nm.length<=31) (D:X6 q2) (Z:n<=100) (b:fr.get 48=some (.int .i64 1)):Ev (lim Tryz.prog HS none (bnC [1,1,1,1,1,1,1,1,0,1]) fr τ) (BtE Z0 H p t (w+1) (m+26) (n+26)) ⟨⟩:=by
 have f:=h.lo;have C:=h.l1;obtain⟨g2,g3,g4,g5,g6,l,p0,a6,t0,pq,pt,qt,pl,ql,tl,b1,b2,b3,b4,b5,op,oq,Q,-,-,-,-,-,-,-,-⟩:=id h;have Y:=a.F9;have a:=a.up (Q8 w 1) (Q8 m 26) (Q8 n 26);have M:=C1 op;have rq:=C1 oq;obtain⟨o1,hbb⟩:=C;by_cases i:T.F9=[]
 ·obtain⟨aa,O⟩:=OL.shape o1;rw[i]at O;subst O;simp only[bnC,Tryz.f20,J2,M1,y7,y8,y9,AA];have v:decide ((0:Int)<((0:Nat):Int))=false:=rfl;refine gU1 (aI @A6 (aI @C7 (aI @cm1 (aI b (aI g2 (aI M (aI @bu1 v))))))) ?_;have L:=h.same (F:=τ) 0 0 nL fun c c1 c2 _=>rfl;exact⟨_,_,_,T,rfl,fR1 g2,fR1 g4,l,om,op,Q,Em (V:=T) f (L.1 om) (L.2.1 om) (L.2.2.1 om) (L.2.2.2.1 om) (L.2.2.2.2 om) (h.A9 l).1 (h.A9 l).2,a⟩
 ·have PB:0<T.F9.length:=Pp.2 i;obtain⟨E,⟨N,U⟩|⟨bb,sp,N,G,A,B,d⟩⟩:=o1
  ·have i:=congrArg List.length U;rw[z2z,Hf]at i;omega
  subst N;have R:=hbb bb rfl;have s:=C1 d;have v:decide ((0:Int)<(((T.F9.map Lot.row).length:Nat):Int))=true:=by rw[z2z,z3z];omega
  simp only[bnC,Tryz.f20,J2,M1,y7,y8,y9,AA];refine gU1 (aI @A6 (aI @C7 (aI @cm1 (aI @FY (aI b (aI g2 (aI g3 (aI g5 (aI M (aI rq (aI @bu1 v))))))))))) ?_;refine(AN (m:=((T.F9.map Lot.row).length:Nat)) D (by rw[z2z];omega) (by rw[z2z];omega)).mono ?_;rintro r rfl;obtain⟨j,X,e⟩:∃ j:Nat,q2 % ((T.F9.map Lot.row).length:Nat)=(j:Int)/\j<T.F9.length:=by
   have y1:=Int.emod_nonneg q2 (show(((T.F9.map Lot.row).length:Nat):Int)≠0 by rw[z2z];omega);have y2:=Int.emod_lt_of_pos q2 (show(0:Int)<((T.F9.map Lot.row).length:Nat) by rw[z2z];omega);rw[z2z]at y1 y2 ⊢;exact⟨(q2 % (T.F9.length:Nat)).toNat,om,om⟩
  rw[X];obtain⟨x,g⟩:=I3 e;have I:=cW Lot.row g;have u:Nat.blt j (T.F9.map Lot.row).length=true:=by rw[EJ,z2z];exact e
  have W:M5 (T.F9.map Lot.row).flatten (j*2) [.int .i64 num]=some (((T.F9.set j { x with id:=num }).map Lot.row).flatten):=by
   have:=Ot (size:=2) (o:=0) (x:= .int .i64 num) E I om;rw[Be]at this;rw[this,List.map_set];rfl
  refine gU1 (aI @A6 (aI @C7 (aI @FY (aI g2 (aI g5 (aI M (aI u (aI d (aI s (aI W (aI @N1 @Q9))))))))))) ?_;refine T3.intro (by(repeat first|simp(disch:=omega) only[N7,Q9,asx (Ext.refl _)]|rw[U0 (by kernel_rfl)]);rfl) ?_
  try(refine gP1 g2 ?_;try exact⟨⟩)
  have z:∀ cs,Ext Z0 (τ.upd bb cs):=fun cs=>l.upd om cs;have L:=fun cs=>h.same (F:=τ.upd bb cs) a1 a2 nL fun c c1 c2 c3=>by rw[M4,z0z om]
  have K:OL a1 (τ.upd bb (((T.F9.set j { x with id:=num }).map Lot.row).flatten)) 2 (.slice (some ⟨bb,0,sp⟩) (T.F9.map Lot.row).length (T.F9.map Lot.row).length) ((T.F9.set j { x with id:=num }).map Lot.row):=⟨fun r hr=>by obtain⟨y,-,rfl⟩:=GI.1 hr;rfl,.inr ⟨bb,sp,by rw[z2z,z2z,QV],G,A,B,G8⟩⟩
  have w1:(T.F9.set j { x with id:=num }).length<=n+26:=by rw[QV];exact a.F9
  have w2:∀ y∈T.F9.set j { x with id:=num },SmW y.id/\SmW y.G4:=fun y J=>by
   rcases fA J with J|rfl
   ·exact a.lot y J
   ·have:=a.lot x (y6 g);exact⟨S,this.2⟩
  exact⟨_,_,_,{ T with F9:=T.F9.set j { x with id:=num } },rfl,fR1 g2,fR1 g4,z _,by show t<τ.n;omega,by rw[H6 om];exact op,by rw[H6 om];exact Q,Em (V:={ T with F9:=T.F9.set j { x with id:=num } }) f K ((L _).2.1 om) ((L _).2.2.1 om) ((L _).2.2.2.1 om) ((L _).2.2.2.2 om) (h.A9 (z _)).1 (h.A9 (z _)).2,
   { a with F9:=w1,lot:=w2 }⟩
def Al8 (h:BtS Z0 H p q t q0 q1 q2 num nm fr τ T vl vc vr x1 x2 x3 x4 x5 vt vk vs a1 a2 a3 a4 a5) (a:WkT w m n T) (S:SmW num) (a0:nm.length<=31) (D:X6 q2) (Z:n<=100) (b:fr.get 48=some (.int .i64 2)):Ev (lim Tryz.prog HS none (bnC [1,1,1,1,1,1,1,1,0,1]) fr τ) (BtE Z0 H p t (w+1) (m+26) (n+26)) ⟨⟩:=by
 have f:=h.lo;have C:=h.l1;obtain⟨g2,g3,g4,g5,g6,l,p0,a6,t0,pq,pt,qt,pl,ql,tl,b1,b2,b3,b4,b5,op,oq,Q,-,-,-,-,-,-,-,-⟩:=id h;have Y:=a.F9;have a:=a.up (Q8 w 1) (Q8 m 26) (Q8 n 26);have M:=C1 op;have rq:=C1 oq;obtain⟨o1,hbb⟩:=C;by_cases i:T.F9=[]
 ·obtain⟨aa,O⟩:=OL.shape o1;rw[i]at O;subst O;simp only[bnC,Tryz.f20,J2,M1,y7,y8,y9,AA];have v:decide ((0:Int)<((0:Nat):Int))=false:=rfl;refine gU1 (aI @A6 (aI @C7 (aI @cm2 (aI b (aI g2 (aI M (aI @bu1 v))))))) ?_;have L:=h.same (F:=τ) 0 0 nL fun c c1 c2 _=>rfl;exact⟨_,_,_,T,rfl,fR1 g2,fR1 g4,l,om,op,Q,Em (V:=T) f (L.1 om) (L.2.1 om) (L.2.2.1 om) (L.2.2.2.1 om) (L.2.2.2.2 om) (h.A9 l).1 (h.A9 l).2,a⟩
 ·have PB:0<T.F9.length:=Pp.2 i;obtain⟨E,⟨N,U⟩|⟨bb,sp,N,G,A,B,d⟩⟩:=o1
  ·have i:=congrArg List.length U;rw[z2z,Hf]at i;omega
  subst N;have R:=hbb bb rfl;have s:=C1 d;have v:decide ((0:Int)<(((T.F9.map Lot.row).length:Nat):Int))=true:=by rw[z2z,z3z];omega
  simp only[bnC,Tryz.f20,J2,M1,y7,y8,y9,AA];refine gU1 (aI @A6 (aI @C7 (aI @cm2 (aI @FY (aI b (aI g2 (aI g3 (aI g5 (aI M (aI rq (aI @bu1 v))))))))))) ?_;refine(AN (m:=((T.F9.map Lot.row).length:Nat)) D (by rw[z2z];omega) (by rw[z2z];omega)).mono ?_;rintro r rfl;obtain⟨j,X,e⟩:∃ j:Nat,q2 % ((T.F9.map Lot.row).length:Nat)=(j:Int)/\j<T.F9.length:=by
   have y1:=Int.emod_nonneg q2 (show(((T.F9.map Lot.row).length:Nat):Int)≠0 by rw[z2z];omega);have y2:=Int.emod_lt_of_pos q2 (show(0:Int)<((T.F9.map Lot.row).length:Nat) by rw[z2z];omega);rw[z2z]at y1 y2 ⊢;exact⟨(q2 % (T.F9.length:Nat)).toNat,om,om⟩
  rw[X];obtain⟨x,g⟩:=I3 e;have I:=cW Lot.row g;have u:Nat.blt j (T.F9.map Lot.row).length=true:=by rw[EJ,z2z];exact e
  have W:M5 (T.F9.map Lot.row).flatten (j*2+1) [.int .i64 num]=some (((T.F9.set j { x with G4:=num }).map Lot.row).flatten):=by
   have:=Ot (size:=2) (o:=1) (x:= .int .i64 num) E I om
   skip
   rw[this,List.map_set];rfl
  refine gU1 (aI @A6 (aI @C7 (aI @FY (aI g2 (aI g5 (aI M (aI u (aI d (aI s (aI W (aI @N1 @Q9))))))))))) ?_;refine T3.intro (by(repeat first|simp(disch:=omega) only[N7,Q9,asx (Ext.refl _)]|rw[U0 (by kernel_rfl)]);rfl) ?_
  try(refine gP1 g2 ?_;try exact⟨⟩)
  have z:∀ cs,Ext Z0 (τ.upd bb cs):=fun cs=>l.upd om cs;have L:=fun cs=>h.same (F:=τ.upd bb cs) a1 a2 nL fun c c1 c2 c3=>by rw[M4,z0z om]
  have K:OL a1 (τ.upd bb (((T.F9.set j { x with G4:=num }).map Lot.row).flatten)) 2 (.slice (some ⟨bb,0,sp⟩) (T.F9.map Lot.row).length (T.F9.map Lot.row).length) ((T.F9.set j { x with G4:=num }).map Lot.row):=⟨fun r hr=>by obtain⟨y,-,rfl⟩:=GI.1 hr;rfl,.inr ⟨bb,sp,by rw[z2z,z2z,QV],G,A,B,G8⟩⟩
  have w1:(T.F9.set j { x with G4:=num }).length<=n+26:=by rw[QV];exact a.F9
  have w2:∀ y∈T.F9.set j { x with G4:=num },SmW y.id/\SmW y.G4:=fun y J=>by
   rcases fA J with J|rfl
   ·exact a.lot y J
   ·have:=a.lot x (y6 g);exact⟨this.1,S⟩
  exact⟨_,_,_,{ T with F9:=T.F9.set j { x with G4:=num } },rfl,fR1 g2,fR1 g4,z _,by show t<τ.n;omega,by rw[H6 om];exact op,by rw[H6 om];exact Q,Em (V:={ T with F9:=T.F9.set j { x with G4:=num } }) f K ((L _).2.1 om) ((L _).2.2.1 om) ((L _).2.2.2.1 om) ((L _).2.2.2.2 om) (h.A9 (z _)).1 (h.A9 (z _)).2,
   { a with F9:=w1,lot:=w2 }⟩
def AR4 (h:BtS Z0 H p q t q0 q1 q2 num nm fr τ T vl vc vr x1 x2 x3 x4 x5 vt vk vs a1 a2 a3 a4 a5) (b:WkT w m n T) (S:SmW num) (I:nm.length<=31) (l:X6 q0) (o:X6 q1) (s:X6 q2) (u:1<=w) (v:w<=3) (i:fr.get 48=some (.int .i64 12)):Ev (lim Tryz.prog HS none (bnC [1,1,1,1,1,1,1,1,0,1]) fr τ) (BtE Z0 H p t (w+1) (m+26) (n+26)) ⟨⟩:=by
 have d:=h.lo;obtain⟨g2,g3,g4,g5,g6,C,N,O,t0,pq,pt,qt,pl,ql,tl,U,W,X,Y,Z,op,K,M,-,-,-,-,-,-,-,-⟩:=id h;have G:=b.f;have j:=b.fp;have b:=b.up (Q8 w 1) (Q8 m 26) (Q8 n 26);have Q:=C1 op;have R:=C1 K;simp only[bnC,Tryz.f20,J2,M1,y7,y8,y9,AA];refine gU1 (aI @A6 (aI @C7 (aI @BF5 (aI @AN3 (aI @AN4 (aI @FY (aI i (aI g2 (aI g3 (aI Q (aI R @bu6))))))))))) ?_;refine(qc (SizeOf.sizeOf T.f+1) (JQ _) (H:=p::t::H) (fun c E=>by have:=d c E;omega) (h.A9 C).2 l o s G u v j).mono ?_;rintro r ⟨rn,B,g,rfl,a,e,A,y⟩;have J:=a.n;obtain⟨y1,y2,y3,y4,y5,rfl⟩:=fc5 e.to;have z:=eT (a.B8 om) op;refine gU1 (aI @A6 (aI @C7 (aI g2 (aI z @bw6)))) ?_;have D:∀ cs,Ext Z0 (g.upd p cs):=fun cs=>(C.trans a).upd N cs;have L:=fun cs=>h.same (F:=g.upd p cs) 0 0 J fun c c1 c2 _=>by rw[M4,z0z om,a.same c c2]
 exact⟨_,_,_,{ T with f:=B },rfl,fR1 g2,fR1 g4,D _,by show t<g.n;omega,G8,by rw[H6 om,a.B8 om];exact M,Em (V:={ T with f:=B }) d ((L _).1 om) ((L _).2.1 om) ((L _).2.2.1 om) ((L _).2.2.2.1 om) ((L _).2.2.2.2 om) (h.A9 (D _)).1 (e.I4 GN),{ b with f:=A,fp:=y }⟩
end
section
variable {Z0 τ:St}{H:List Nat}{p q t a1 a2 a3 a4 a5 w m n:Nat}{q0 q1 q2 num:Int}{nm:By}{fr:Fr}{T:Tn}{vl vc vr x1 x2 x3 x4 x5 vt vk:Value}{vs:List Value}
def Az3 {k:Nat}(h:k<3):∃ s:By,sub ([str [60,61],str [60],str []]:List Value) k 1=some [str s]/\s.length<=2:=by
 match k,h with
 |0,_=>exact⟨_,rfl,by decide⟩
 |1,_=>exact⟨_,rfl,by decide⟩
 |2,_=>exact⟨_,rfl,by decide⟩
def Af3 (h:BtS Z0 H p q t q0 q1 q2 num nm fr τ T vl vc vr x1 x2 x3 x4 x5 vt vk vs a1 a2 a3 a4 a5) (a:WkT w m n T) (Y:SmW num) (z:nm.length<=31) (M:n<=100) (r:fr.get 48=some (.int .i64 5)):Ev (lim Tryz.prog HS none (bnC [1,1,1,1,1,1,1,1,0,1]) fr τ) (BtE Z0 H p t (w+1) (m+26) (n+26)) ⟨⟩:=by
 have y:=h.lo;have G:=h.l1;have I:=h.l2;have J:=h.l3;have i:=h.l4;have K:=h.l5;have g:=fun{F:St} (d:Ext Z0 F)=>h.A9 d;obtain⟨g2,g3,g4,g5,g6,d,U,W,t0,pq,pt,qt,pl,ql,tl,Z,b2,b3,b4,b5,op,R,S,-,-,-,-,-,-,-,-⟩:=id h;have c1:=a.F9;have c2:=a.E9;have c3:=a.reqs;have c4:=a.H2;have c5:=a.C8;have a:=a.up (Q8 w 1) (Q8 m 26) (Q8 n 26);have X:=C1 op;have rq:=C1 R;simp only[bnC,Tryz.f20,J2,M1,y7,y8,y9,AA];have A:=i.1;refine gU1 (aI @A6 (aI @K6 (aI @K4 (aI @K5 (aI @H5 (aI @cm5 (aI r (aI g2 (aI g6 (aI X @Af4)))))))))) ?_;have j:OL a4 (τ.new [str nm]) 1 vt (T.H2.map fun s=>[str s]):=OL.ext A (.new _ _);refine J6 (row:=[str nm]) (fun _ _ _ _=>R2) j (G6 om om) (G3 (by simp) (by simp)) (by rw[z2z];omega) (by simp;omega) ?_;rintro v2 Z2 l e -;have O:=e.n;simp only[K9]at O;have N:∀ c,K3 vt=some c->a4<=c/\c<a5:=fun c f=>⟨(j.blk f).1,i.2 c f⟩
 have b:∀ c,c<τ.n->(c<a4\/a5<=c)->Z2.h.get c=τ.h.get c:=fun c f hd=>by rw[e.same c (by simp;omega) (fun E=>by have:=N c E;omega),N8,z0z om]
 have u:Ext Z0 Z2:=⟨by have:=d.n;omega,fun c f=>by rw[b c (by have:=d.n;omega) (.inl om),d.same c f]⟩
 have B:Z2.B8 p=some (O4 T.name vl vc vr T.low T.high x1 x2 x3 x4 x5 vt T.G4 vk T.C9 T.t):=by rw[B9 (b p om (.inl om))];exact op
 have C:Z2.B8 t=some z20:=by rw[B9 (b t om (.inl om))];exact S
 obtain⟨D,rfl⟩:=OL.shape l;refine gU1 (aI @A6 (aI @K6 (aI @K4 (aI @K5 (aI @H5 (aI g2 (aI B @Af5))))))) ?_;have v:∀ cs,Ext Z0 (Z2.upd p cs):=fun cs=>u.upd U cs;have L:=fun cs=>h.same (F:=Z2.upd p cs) a4 a5 (by show τ.n<=Z2.n;omega) fun c c1 c2 c3=>by rw[M4,z0z om,b c om c3]
 have Q:∀ cs,OL a1 (Z2.upd p cs) 1 (.slice D _ _) ((T.H2++[nm]).map fun s=>[str s]):=fun cs=>OL.upd (OL.lower (by rw[Ah];exact l) om) om;exact⟨_,_,_,{ T with H2:=T.H2++[nm] },rfl,fR1 g2,fR1 g4,v _,by show t<Z2.n;omega,G8,by rw[H6 om];exact C,Em (V:={ T with H2:=T.H2++[nm] })  y ((L _).1 om) ((L _).2.1 om) ((L _).2.2.1 om) (Q _) ((L _).2.2.2.2 om) (g (v _)).1 (g (v _)).2,{ a with H2:=by show(T.H2++[nm]).length<=_;rw[W4];simp;omega,tie:=fun s o=>(An.1 o).elim (a.tie s) (fun o=>by rw[Cb]at o;rw[o];exact z) }⟩
def Af6 (h:BtS Z0 H p q t q0 q1 q2 num nm fr τ T vl vc vr x1 x2 x3 x4 x5 vt vk vs a1 a2 a3 a4 a5) (a:WkT w m n T) (Bf:SmW num) (B:nm.length<=31) (D:X6 q2) (R:n<=100) (u:fr.get 48=some (.int .i64 3)):Ev (lim Tryz.prog HS none (bnC [1,1,1,1,1,1,1,1,0,1]) fr τ) (BtE Z0 H p t (w+1) (m+26) (n+26)) ⟨⟩:=by
 have A:=h.lo;have M:=h.l1;have i:=h.l2;have N:=h.l3;have O:=h.l4;have Q:=h.l5;have g:=fun{F:St} (d:Ext Z0 F)=>h.A9 d;obtain⟨g2,g3,g4,g5,g6,d,Z,a0,t0,pq,pt,qt,pl,ql,tl,b1,b2,b3,b4,b5,op,X,Y,-,-,-,-,-,-,-,-⟩:=id h;have c1:=a.F9;have c2:=a.E9;have c3:=a.reqs;have c4:=a.H2;have c5:=a.C8;have a:=a.up (Q8 w 1) (Q8 m 26) (Q8 n 26);have rp:=C1 op;have rq:=C1 X;simp only[bnC,Tryz.f20,J2,M1,y7,y8,y9,AA];have C:=i.1;refine gU1 (aI @A6 (aI @K6 (aI @K4 (aI @K5 (aI @H5 (aI @cm3 (aI @FY (aI u (aI g2 (aI g3 (aI g6 (aI rp (aI rq @bu2))))))))))))) ?_;refine(AN (m:=3) D om om).mono ?_;rintro r rfl;have y1:0<=q2 % 3:=Int.emod_nonneg _ om;have y2:q2 % 3<3:=Int.emod_lt_of_pos _ om;generalize q2 % 3=z at y1 y2;have E:IntKind.i64.wrap (1+z)=1+z:=wrap64_in om om;refine gU1 (aI @A6 (aI @K6 (aI @K4 (aI @K5 (aI @H5 E))))) ?_;have j:OL a2 (τ.new [str nm,.int .i64 (1+z),.int .i64 0,.int .i64 4,.bool false]) 5 vc (T.E9.map S8.row):=OL.ext C (.new _ _);refine J6 (row:=[str nm,.int .i64 (1+z),.int .i64 0,.int .i64 4,.bool false]) (fun _ _ _ _=>R6) j (G6 om om) (G3 (by simp) (by simp)) (by rw[z2z];omega) (by simp;omega) ?_;rintro v2 Z2 l e -;have U:=e.n;simp only[K9]at U;have S:∀ c,K3 vc=some c->a2<=c/\c<a3:=fun c f=>⟨(j.blk f).1,i.2 c f⟩
 have b:∀ c,c<τ.n->(c<a2\/a3<=c)->Z2.h.get c=τ.h.get c:=fun c f hd=>by rw[e.same c (by simp;omega) (fun K=>by have:=S c K;omega),N8,z0z om]
 have v:Ext Z0 Z2:=⟨by have:=d.n;omega,fun c f=>by rw[b c (by have:=d.n;omega) (.inl om),d.same c f]⟩
 have G:Z2.B8 p=some (O4 T.name vl vc vr T.low T.high x1 x2 x3 x4 x5 vt T.G4 vk T.C9 T.t):=by rw[B9 (b p om (.inl om))];exact op
 have I:Z2.B8 t=some z20:=by rw[B9 (b t om (.inl om))];exact Y
 obtain⟨J,rfl⟩:=OL.shape l;refine gU1 (aI @A6 (aI @K6 (aI @K4 (aI @K5 (aI @H5 (aI g2 (aI G @bw2))))))) ?_;refine T3.intro (by(repeat first|simp(disch:=omega) only[N7,Q9,N1,asx (Ext.refl _)]|rw[U0 (by kernel_rfl)]);rfl) ?_
 try(refine gU1 (aI @A6 (aI @K6 (aI @K4 (aI @K5 (aI @H5 g2))))) ?_;try exact⟨⟩)
 have y:∀ cs,Ext Z0 (Z2.upd p cs):=fun cs=>v.upd Z cs;have L:=fun cs=>h.same (F:=Z2.upd p cs) a2 a3 (by show τ.n<=Z2.n;omega) fun c c1 c2 c3=>by rw[M4,z0z om,b c om c3]
 have W:∀ cs,OL a1 (Z2.upd p cs) 5 (.slice J _ _) ((T.E9++[(⟨nm,1+z,0,4,false⟩:S8)]).map S8.row):=fun cs=>OL.upd (OL.lower (by rw[Ah];exact l) om) om;exact⟨_,_,_,{ T with E9:=T.E9++[(⟨nm,1+z,0,4,false⟩:S8)] },rfl,fR1 g2,fR1 g4,y _,by show t<Z2.n;omega,G8,by rw[H6 om];exact I,Em (V:={ T with E9:=T.E9++[(⟨nm,1+z,0,4,false⟩:S8)] })  A ((L _).1 om) (W _) ((L _).2.2.1 om) ((L _).2.2.2.1 om) ((L _).2.2.2.2 om) (g (y _)).1 (g (y _)).2,{ a with E9:=by show(T.E9++[_]).length<=_;rw[W4];simp;omega,Y7:=fun s o=>(An.1 o).elim (a.Y7 s) (fun o=>by rw[Cb]at o;rw[o];exact⟨B,⟨by show 1<=1+z;omega,by show 1+z<=3;omega⟩,by show SmW 0;unfold SmW;omega,by show SmW 4;unfold SmW;omega⟩) }⟩
def Af7 (h:BtS Z0 H p q t q0 q1 q2 num nm fr τ T vl vc vr x1 x2 x3 x4 x5 vt vk vs a1 a2 a3 a4 a5) (a:WkT w m n T) (J:SmW num) (X:nm.length<=31) (D:X6 q2) (W:n<=100) (v:fr.get 48=some (.int .i64 4)):Ev (lim Tryz.prog HS none (bnC [1,1,1,1,1,1,1,1,0,1]) fr τ) (BtE Z0 H p t (w+1) (m+26) (n+26)) ⟨⟩:=by
 have B:=h.lo;have O:=h.l1;have Q:=h.l2;have j:=h.l3;have R:=h.l4;have U:=h.l5;have i:=fun{F:St} (d:Ext Z0 F)=>h.A9 d;obtain⟨g2,g3,g4,g5,g6,d,p0,a0,t0,pq,pt,qt,pl,ql,tl,b1,b2,b3,b4,b5,op,oq,ot,-,-,-,-,-,-,-,-⟩:=id h;have c1:=a.F9;have c2:=a.E9;have c3:=a.reqs;have c4:=a.H2;have c5:=a.C8;have a:=a.up (Q8 w 1) (Q8 m 26) (Q8 n 26);have rp:=C1 op;have rq:=C1 oq;simp only[bnC,Tryz.f20,J2,M1,y7,y8,y9,AA];refine gU1 (aI @A6 (aI @K6 (aI @K4 (aI @K5 (aI @H5 (aI @cm4 (aI @FY (aI v (aI g2 (aI g3 (aI g5 (aI rp (aI rq @bu3))))))))))))) ?_;refine(AN (m:=3) D om om).mono ?_;rintro r rfl;have y1:0<=q2 % 3:=Int.emod_nonneg _ om;have y2:q2 % 3<3:=Int.emod_lt_of_pos _ om;obtain⟨z,hz⟩:=KR y1;rw[hz]at y2 ⊢;obtain⟨rl,Az4,AH6⟩:=Az3 (k:=z) om;obtain⟨S,hS0⟩:=nW (τ.new [str [60,61],str [60],str []]);rw[hS0];have nS:S.n=τ.n+1:=by rw[<- hS0];rfl
 have f:∀ c,c<τ.n->S.h.get c=τ.h.get c:=fun c e=>by rw[<- hS0,N8,z0z om]
 have rS:S.B8 τ.n=some [str [60,61],str [60],str []]:=by rw[<- hS0];exact cL
 clear hS0;have C:OL a3 S 3 _ _:=(j.I4 om fun c _ _ M=>f c M).1;have I:=C1 rS;refine gU1 (aI @A6 (aI @K6 (aI @K4 (aI @K5 (aI @H5 (aI I (aI Az4 g5))))))) ?_;have l:OL a3 (S.new [str [115,112,101,101,100],str rl,.int .i64 num]) 3 vr (T.reqs.map Req.row):=OL.ext C (.new _ _);refine J6 (row:=[str [115,112,101,101,100],str rl,.int .i64 num]) (fun _ _ _ _=>R1) l (G6 om om) (G3 (by simp) (by simp)) (by rw[z2z];omega) (by simp;omega) ?_;rintro v2 Z2 o g -;have Z:=g.n;simp only[K9]at Z;have Y:∀ c,K3 vr=some c->a3<=c/\c<a4:=fun c e=>⟨(l.blk e).1,j.2 c e⟩
 have b:∀ c,c<S.n->(c<a3\/a4<=c)->Z2.h.get c=S.h.get c:=fun c e hd=>by rw[g.same c (by simp;omega) (fun N=>by have:=Y c N;omega),N8,z0z om]
 have y:Ext Z0 Z2:=⟨by have:=d.n;omega,fun c e=>by rw[b c (by have:=d.n;omega) (.inl om),f c (by have:=d.n;omega),d.same c e]⟩
 have E:Z2.B8 p=some (O4 T.name vl vc vr T.low T.high x1 x2 x3 x4 x5 vt T.G4 vk T.C9 T.t):=by rw[B9 (b p om (.inl om)),B9 (f p om)];exact op
 have G:Z2.B8 t=some z20:=by rw[B9 (b t om (.inl om)),B9 (f t om)];exact ot
 obtain⟨K,rfl⟩:=OL.shape o;refine gU1 (aI @A6 (aI @K6 (aI @K4 (aI @K5 (aI @H5 (aI g2 (aI E @bw3))))))) ?_;refine T3.intro (by(repeat first|simp(disch:=omega) only[N7,Q9,N1,asx (Ext.refl _)]|rw[U0 (by kernel_rfl)]);rfl) ?_
 try(refine gU1 (aI @A6 (aI @K6 (aI @K4 (aI @K5 (aI @H5 g2))))) ?_;try exact⟨⟩)
 have A:∀ cs,Ext Z0 (Z2.upd p cs):=fun cs=>y.upd p0 cs;have L:=fun cs=>h.same (F:=Z2.upd p cs) a3 a4 (by show τ.n<=Z2.n;omega) fun c c1 c2 c3=>by rw[M4,z0z om,b c om c3,f c om]
 have oF:∀ cs,OL a1 (Z2.upd p cs) 3 (.slice K _ _) ((T.reqs++[(⟨[115,112,101,101,100],rl,num⟩:Req)]).map Req.row):=fun cs=>OL.upd (OL.lower (by rw[Ah];exact o) om) om;exact⟨_,_,_,{ T with reqs:=T.reqs++[(⟨[115,112,101,101,100],rl,num⟩:Req)] },rfl,fR1 g2,fR1 g4,A _,by show t<Z2.n;omega,G8,by rw[H6 om];exact G,Em (V:={ T with reqs:=T.reqs++[(⟨[115,112,101,101,100],rl,num⟩:Req)] })  B ((L _).1 om) ((L _).2.1 om) (oF _) ((L _).2.2.2.1 om) ((L _).2.2.2.2 om) (i (A _)).1 (i (A _)).2,{ a with reqs:=by show(T.reqs++[_]).length<=_;rw[W4];simp;omega,req:=fun s u=>(An.1 u).elim (a.req s) (fun u=>by rw[Cb]at u;rw[u];exact⟨by show(5:Nat)<=31;omega,AH6,J⟩) }⟩
def Af8 (h:BtS Z0 H p q t q0 q1 q2 num nm fr τ T vl vc vr x1 x2 x3 x4 x5 vt vk vs a1 a2 a3 a4 a5) (b:WkT w m n T) (G:SmW num) (U:nm.length<=31) (R:n<=100) (v:fr.get 48=some (.int .i64 6)):Ev (lim Tryz.prog HS none (bnC [1,1,1,1,1,1,1,1,0,1]) fr τ) (BtE Z0 H p t (w+1) (m+26) (n+26)) ⟨⟩:=by
 have l:=h.lo;have M:=h.l1;have N:=h.l2;have O:=h.l3;have Q:=h.l4;have j:=h.l5;have i:=fun{F:St} (e:Ext Z0 F)=>h.A9 e;obtain⟨g2,g3,g4,g5,g6,e,p0,a0,t0,pq,pt,qt,pl,ql,tl,b1,b2,b3,b4,b5,op,oq,ot,-,-,-,-,-,-,-,-⟩:=id h;have c1:=b.F9;have c2:=b.E9;have c3:=b.reqs;have c4:=b.H2;have c5:=b.C8;have b:=b.up (Q8 w 1) (Q8 m 26) (Q8 n 26);have rp:=C1 op;have X:=h.ks.len;have rq:=C1 oq;simp only[bnC,Tryz.f20,J2,M1,y7,y8,y9,AA];refine gU1 (aI @A6 (aI @K6 (aI @K4 (aI @K5 (aI @H5 (aI @cm6 (aI v (aI g2 (aI g5 (aI rp @AH7)))))))))) ?_;obtain⟨S,hS0⟩:=nW (τ.new [.int .i64 1,.int .i64 num]);rw[hS0];have nS:S.n=τ.n+1:=by rw[<- hS0];rfl
 have f:∀ c,c<τ.n->S.h.get c=τ.h.get c:=fun c d=>by rw[<- hS0,N8,z0z om]
 have rS:S.B8 τ.n=some [.int .i64 1,.int .i64 num]:=by rw[<- hS0];exact cL
 clear hS0;have B:OL a5 S 1 _ _:=(j.I4 om fun c _ _ J=>f c J).1;have o:OL a5 (S.new [Value.slice (some ⟨τ.n,0,none⟩) 2 2]) 1 vk (vs.map fun x=>[x]):=OL.ext B (.new _ _);refine J6 (row:=[Value.slice (some ⟨τ.n,0,none⟩) 2 2]) (fun _ _ _ _=>P5) o (G6 om om) (G3 (by simp) (by simp)) (by rw[z2z];omega) (by simp;omega) ?_;rintro v2 Z2 r g -;have Y:=g.n;simp only[K9]at Y;have W:∀ c,K3 vk=some c->a5<=c/\c<τ.n:=fun c d=>⟨(o.blk d).1,j.2 c d⟩
 have a:∀ c,c<S.n->(c<a5\/τ.n<=c)->Z2.h.get c=S.h.get c:=fun c d hd=>by rw[g.same c (by simp;omega) (fun K=>by have:=W c K;omega),N8,z0z om]
 have y:Ext Z0 Z2:=⟨by have:=e.n;omega,fun c d=>by rw[a c (by have:=e.n;omega) (.inl om),f c (by have:=e.n;omega),e.same c d]⟩
 have C:Z2.B8 p=some (O4 T.name vl vc vr T.low T.high x1 x2 x3 x4 x5 vt T.G4 vk T.C9 T.t):=by rw[B9 (a p om (.inl om)),B9 (f p om)];exact op
 have D:Z2.B8 t=some z20:=by rw[B9 (a t om (.inl om)),B9 (f t om)];exact ot
 obtain⟨I,rfl⟩:=OL.shape r;refine gU1 (aI @A6 (aI @K6 (aI @K4 (aI @K5 (aI @H5 (aI g2 (aI C @AH8))))))) ?_;have z:∀ cs,Ext Z0 (Z2.upd p cs):=fun cs=>y.upd p0 cs;have L:=fun cs=>h.same (F:=Z2.upd p cs) a5 τ.n (by show τ.n<=Z2.n;omega) fun c c1 c2 c3=>by rw[M4,z0z om,a c om c3,f c om]
 have rT:Z2.B8 τ.n=some [.int .i64 1,.int .i64 num]:=by rw[B9 (a τ.n om (.inr nL))];exact rS
 have A:∀ cs,GG (J0 (Z2.upd p cs) (p::t::H)) (Value.slice (some ⟨τ.n,0,none⟩) 2 2) [1,num]:=fun cs=>(OL.J0 (lo:=τ.n) (D0:=([1,num]:List Int).map fun n=>[Value.int .i64 n]) (OL.mk (cells:=[.int .i64 1,.int .i64 num]) rfl rfl (by simp) (.inl rfl) nL (by show τ.n<Z2.n;omega) (by rw[H6 om];exact rT)) (fun c d=>by have:=l c d;omega)).sl;have Z:∀ cs,OL a1 (Z2.upd p cs) 1 (.slice I _ _) ((vs++[Value.slice (some ⟨τ.n,0,none⟩) 2 2]).map fun x=>[x]):=fun cs=>OL.upd (OL.lower (by rw[Ah];exact r) om) om;exact⟨_,_,_,{ T with C8:=T.C8++[([1,num]:List Int)] },rfl,fR1 g2,fR1 g4,z _,by show t<Z2.n;omega,G8,by rw[H6 om];exact D,Em (V:={ T with C8:=T.C8++[([1,num]:List Int)] }) (vs:=vs++[Value.slice (some ⟨τ.n,0,none⟩) 2 2]) l ((L _).1 om) ((L _).2.1 om) ((L _).2.2.1 om) ((L _).2.2.2.1 om) (Z _) (EK.app (A _) (i (z _)).1) (i (z _)).2,{ b with C8:=by show(T.C8++[_]).length<=_;rw[W4];simp;omega,combo:=fun s u=>(An.1 u).elim (b.combo s) (fun u=>by rw[Cb]at u;rw[u];exact⟨by show(2:Nat)<=12;omega,fun k E=>by simp only[V9,LN,MJ]at E;rcases E with rfl|rfl;exact(by unfold SmW;omega);exact G⟩) }⟩
def Af9 (h:BtS Z0 H p q t q0 q1 q2 num nm fr τ T vl vc vr x1 x2 x3 x4 x5 vt vk vs a1 a2 a3 a4 a5) (b:WkT w m n T) (Bf:SmW num) (X:nm.length<=31) (E:X6 q1) (W:n<=100) (y:fr.get 48=some (.int .i64 7)):Ev (lim Tryz.prog HS none (bnC [1,1,1,1,1,1,1,1,0,1]) fr τ) (BtE Z0 H p t (w+1) (m+26) (n+26)) ⟨⟩:=by
 have l:=h.lo;have O:=h.l1;have Q:=h.l2;have R:=h.l3;have U:=h.l4;have j:=h.l5;have i:=fun{F:St} (e:Ext Z0 F)=>h.A9 e;obtain⟨g2,g3,g4,g5,g6,e,p0,a0,t0,pq,pt,qt,pl,ql,tl,b1,b2,b3,b4,b5,op,oq,ot,-,-,-,-,-,-,-,-⟩:=id h;have c1:=b.F9;have c2:=b.E9;have c3:=b.reqs;have c4:=b.H2;have c5:=b.C8;have b:=b.up (Q8 w 1) (Q8 m 26) (Q8 n 26);have rp:=C1 op;have Z:=h.ks.len;have rq:=C1 oq;simp only[bnC,Tryz.f20,J2,M1,y7,y8,y9,AA];refine gU1 (aI @A6 (aI @K6 (aI @K4 (aI @K5 (aI @H5 (aI @cm7 (aI @FY (aI y (aI g2 (aI g3 (aI rp (aI rq @AH7)))))))))))) ?_;refine(AN (m:=3) E om om).mono ?_;rintro r rfl;have y1:0<=q1 % 3:=Int.emod_nonneg _ om;have y2:q1 % 3<3:=Int.emod_lt_of_pos _ om;generalize q1 % 3=z at y1 y2;refine gU1 (a5N @A6 @K6 @K4 @K5 @H5) ?_;obtain⟨S,hS0⟩:=nW (τ.new [.int .i64 z]);rw[hS0];have nS:S.n=τ.n+1:=by rw[<- hS0];rfl
 have f:∀ c,c<τ.n->S.h.get c=τ.h.get c:=fun c d=>by rw[<- hS0,N8,z0z om]
 have rS:S.B8 τ.n=some [.int .i64 z]:=by rw[<- hS0];exact cL
 clear hS0;have D:OL a5 S 1 _ _:=(j.I4 om fun c _ _ M=>f c M).1;have o:OL a5 (S.new [Value.slice (some ⟨τ.n,0,none⟩) 1 1]) 1 vk (vs.map fun x=>[x]):=OL.ext D (.new _ _);refine J6 (row:=[Value.slice (some ⟨τ.n,0,none⟩) 1 1]) (fun _ _ _ _=>P5) o (G6 om om) (G3 (by simp) (by simp)) (by rw[z2z];omega) (by simp;omega) ?_;rintro v2 Z2 u g -;have n2:=g.n;simp only[K9]at n2;have Y:∀ c,K3 vk=some c->a5<=c/\c<τ.n:=fun c d=>⟨(o.blk d).1,j.2 c d⟩
 have a:∀ c,c<S.n->(c<a5\/τ.n<=c)->Z2.h.get c=S.h.get c:=fun c d hd=>by rw[g.same c (by simp;omega) (fun N=>by have:=Y c N;omega),N8,z0z om]
 have A:Ext Z0 Z2:=⟨by have:=e.n;omega,fun c d=>by rw[a c (by have:=e.n;omega) (.inl om),f c (by have:=e.n;omega),e.same c d]⟩
 have G:Z2.B8 p=some (O4 T.name vl vc vr T.low T.high x1 x2 x3 x4 x5 vt T.G4 vk T.C9 T.t):=by rw[B9 (a p om (.inl om)),B9 (f p om)];exact op
 have I:Z2.B8 t=some z20:=by rw[B9 (a t om (.inl om)),B9 (f t om)];exact ot
 obtain⟨K,rfl⟩:=OL.shape u;refine gU1 (aI @A6 (aI @K6 (aI @K4 (aI @K5 (aI @H5 (aI g2 (aI G @AH8))))))) ?_;refine T3.intro (by(repeat first|simp(disch:=omega) only[N7,Q9,N1,asx (Ext.refl _)]|rw[U0 (by kernel_rfl)]);rfl) ?_
 try(refine gU1 (aI @A6 (aI @K6 (aI @K4 (aI @K5 (aI @H5 g2))))) ?_;try exact⟨⟩)
 have B:∀ cs,Ext Z0 (Z2.upd p cs):=fun cs=>A.upd p0 cs;have L:=fun cs=>h.same (F:=Z2.upd p cs) a5 τ.n (by show τ.n<=Z2.n;omega) fun c c1 c2 c3=>by rw[M4,z0z om,a c om c3,f c om]
 have rT:Z2.B8 τ.n=some [.int .i64 z]:=by rw[B9 (a τ.n om (.inr nL))];exact rS
 have C:∀ cs,GG (J0 (Z2.upd p cs) (p::t::H)) (Value.slice (some ⟨τ.n,0,none⟩) 1 1) [z]:=fun cs=>(OL.J0 (lo:=τ.n) (D0:=([z]:List Int).map fun n=>[Value.int .i64 n]) (OL.mk (cells:=[.int .i64 z]) rfl rfl (by simp) (.inl rfl) nL (by show τ.n<Z2.n;omega) (by rw[H6 om];exact rT)) (fun c d=>by have:=l c d;omega)).sl;have oF:∀ cs,OL a1 (Z2.upd p cs) 1 (.slice K _ _) ((vs++[Value.slice (some ⟨τ.n,0,none⟩) 1 1]).map fun x=>[x]):=fun cs=>OL.upd (OL.lower (by rw[Ah];exact u) om) om;exact⟨_,_,_,{ T with C8:=T.C8++[([z]:List Int)] },rfl,fR1 g2,fR1 g4,B _,by show t<Z2.n;omega,G8,by rw[H6 om];exact I,Em (V:={ T with C8:=T.C8++[([z]:List Int)] }) (vs:=vs++[Value.slice (some ⟨τ.n,0,none⟩) 1 1]) l ((L _).1 om) ((L _).2.1 om) ((L _).2.2.1 om) ((L _).2.2.2.1 om) (oF _) (EK.app (C _) (i (B _)).1) (i (B _)).2,{ b with C8:=by show(T.C8++[_]).length<=_;rw[W4];simp;omega,combo:=fun s v=>(An.1 v).elim (b.combo s) (fun v=>by rw[Cb]at v;rw[v];exact⟨by show(1:Nat)<=12;omega,fun k J=>by rw[Cb]at J;rw[J];unfold SmW;omega⟩) }⟩
end
end Go.Proofs.T
