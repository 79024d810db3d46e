/- The J4 Lj. -/
import Derived.Test.YtbcanmagihejhaaGreatDoorRE
import Derived.Test.YtbcanmagihejhaaGreatDoorAbD
import Derived.Test.YtbcanmagihejhaaGreatDoorTA
import Derived.Test.YtbcanmagihejhaaGreatDoorProg
import Derived.KernelRfl
set_option linter.unusedSimpArgs false
set_option linter.unusedVariables false
set_option maxHeartbeats 32000000
set_option maxRecDepth 100000
namespace Go.Proofs.T
open Go Go.Ab
open Nat (reduceMul reduceEqDiff reduceAdd)
mutual
def Bx:Ex->Nat
 | .mk _ _ _ _ args=>1+Eo args
def Eo:List Ex->Nat
 | []=>0
 | e::es=>Bx e+Eo es
end
mutual
def WfE (w:Nat):Ex->Prop
 | .mk op n d nm args=>op.length<=4/\nm.length<=31/\(-1<=n/\n<=1000000000000001)/\(0<=d/\d<=1000000)/\args.length<=w/\WfL w args
def WfL (w:Nat):List Ex->Prop
 | []=>True
 | e::es=>WfE w e/\WfL w es
end
theorem P5 {op nm:By}{n d:Int}{args:List Ex}:Bx (.mk op n d nm args)=1+Eo args:=by unfold Bx;rfl
theorem P3 {e:Ex}{es:List Ex}:Eo (e::es)=Bx e+Eo es:=by rw [Eo]
theorem T8:Eo []=0:=by unfold Eo;rfl
theorem Ap {w:Nat}{op nm:By}{n d:Int}{args:List Ex}:WfE w (.mk op n d nm args)↔(op.length<=4/\nm.length<=31/\(-1<=n/\n<=1000000000000001)/\(0<=d/\d<=1000000)/\args.length<=w/\WfL w args):=by unfold WfE;exact Iff.rfl
theorem Bm {w:Nat}:WfL w []:=by unfold WfL;trivial
theorem T9 {w:Nat}{e:Ex}{es:List Ex}:WfL w (e::es)↔(WfE w e/\WfL w es):=by rw [WfL]
mutual
theorem WfE.mono {w v:Nat}(h:w<=v):∀ {e:Ex},WfE w e->WfE v e
 | .mk op n d nm args,k=>by
   obtain ⟨k1,k2,k3,k4,k5,k6⟩:=Ap.1 k;exact Ap.2 ⟨k1,k2,k3,k4,om,WfL.mono h k6⟩
theorem WfL.mono {w v:Nat}(h:w<=v):∀ {es:List Ex},WfL w es->WfL v es
 | [],_=>Bm
 | e::es,k=>T9.2 ⟨WfE.mono h (T9.1 k).1,WfL.mono h (T9.1 k).2⟩
end
theorem OG:∀ {a b:List Ex},Eo (a++b)=Eo a+Eo b
 | [],b=>by simp [T8]
 | e::a,b=>by rw [List.cons_append,P3,P3,OG];omega
theorem YX {w:Nat}:∀ {a b:List Ex},WfL w a->WfL w b->WfL w (a++b)
 | [],b,_,h=>h
 | e::a,b,h1,h2=>by rw [List.cons_append];exact T9.2 ⟨(T9.1 h1).1,YX (T9.1 h1).2 h2⟩
noncomputable def bfC (l:List Nat):Code:=Gd l ((Tryz.f28).body.getD .skip)
def exV:Ex:= .mk [110,97,109,101] 0 0 [120] []
theorem yh {w:Nat}:WfE w exV:=Ap.2 ⟨by simp,by simp,om,om,by simp,Bm⟩
theorem YY:Bx exV=1:=by unfold exV;rw [P5,T8]
def znE:List Value:=[str [],.int .i64 0,.int .i64 0,str [],.slice none 0 0]
structure BfS (Z0:St) (H:List Nat) (p q t:Nat) (q0 q1 q2:Int) (fr:Fr) (τ:St) (row:List Value) (e:Ex):Prop where
 g2:fr.get 2=some (.pointer (some ⟨p,0,none⟩))
 g3:fr.get 3=some (.pointer (some ⟨q,0,none⟩))
 g4:fr.get 4=some (.pointer (some ⟨t,0,none⟩))
 E:Ext Z0 τ
 p0:Z0.n<=p
 q0':Z0.n<=q
 t0:Z0.n<=t
 pq:p≠q
 pt:p≠t
 qt:q≠t
 pl:p<τ.n
 ql:q<τ.n
 tl:t<τ.n
 op:τ.A5 p=some row
 oq:τ.A5 q=some [.int .i64 q0,.int .i64 q1,.int .i64 q2]
 ot:τ.A5 t=some znE
 x:ExX (H6 τ (p::t::H)) row e
def BfQ (Z0:St) (H:List Nat) (t w m:Nat) (r:Res):Prop:=∃ fr τ row e,r=⟨.ret,fr,τ⟩/\fr.get 4=some (.pointer (some ⟨t,0,none⟩))/\τ.A5 t=some row/\Ext Z0 τ/\ExX (H6 τ H) row e/\WfE w e/\Bx e<=m
theorem FT.app {Z:St}{r:List Value}{e:Ex}(hx:ExX Z r e):∀ {rows:List (List Value)}{es:List Ex},FT Z rows es->FT Z (rows++[r]) (es++[e])
 | _,[],h=>by rw [show _=_ from h];exact ⟨r,[],rfl,hx,rfl⟩
 | _,e'::es,h=>by
   obtain ⟨r',rs,rfl,h2,h3⟩:=h;exact ⟨r',rs++[r],rfl,h2,FT.app hx h3⟩
theorem DM {Z0 τ:St}{p:Nat}{cs:List Value}(hE:Ext Z0 τ) (hp:Z0.n<=p):Ext Z0 (τ.upd p cs):=hE.upd hp _
theorem GO {Z0 τ:St}{H:List Nat}{fr:Fr}{p t w m:Nat}{row:List Value}{e:Ex}(g2:fr.get 2=some (.pointer (some ⟨p,0,none⟩))) (g4:fr.get 4=some (.pointer (some ⟨t,0,none⟩))) (hE:Ext Z0 τ) (t0:Z0.n<=t) (pt:p≠t) (tl:t<τ.n)
  (op:τ.A5 p=some row) (ot:∃ z,τ.A5 t=some z/\z.length=5) (hx:ExX (H6 τ (p::t::H)) row e) (hH:∀ c∈H,c<Z0.n) (hw:WfE w e) (hm:Bx e<=m) :
  Ev (lim Tryz.prog HS none (bfC [1,1,1]) fr τ) (BfQ Z0 H t w m) ⟨⟩:=by
 obtain ⟨z,ot,hz⟩:=ot;have hlen:=Jc hx;have Pt:sub row 0 5=some row:=D6 om om;have hsp:M3 z 0 row=some row:=FN om om;have rp:=A8 op;simp only [bfC,Tryz.f28,F9,I7,U9,V0,V6,V7];refine gU1 (a10N @A1 @A7 @g2 @g4 @rp @op @ot @Pt @hsp @hlen) ?_;refine ⟨_,_,row,e,rfl,fR1 g4,cL,DM hE t0,hx.E8 (I5 (by simp) fun c hc hm=>?_),hw,hm⟩;simp only [List.mem_cons,not_or] at hm;exact ⟨hm.2.2,D9 hm.2.1⟩
end Go.Proofs.T
namespace Go.Proofs.T
open Go Go.Ab
section
variable {fr:Fr} {Z:St} {x ix a v:Operand} {ve:Value}
theorem xd:LDn 52 3:=by unfold LDn;intros;kernel_rfl
theorem xe:LVn 52 3:=by unfold LVn;intros;kernel_rfl
theorem yR:y7 Tryz.prog 52=some (.agg ⟨[.int .i64 0,.int .i64 0,.int .i64 0]⟩):=by kernel_rfl
theorem yS:Dk Tryz.prog fr 52 #[]=some (.agg ⟨[.int .i64 0,.int .i64 0,.int .i64 0]⟩):=by kernel_rfl
theorem DU {b off i:Nat}:Ei Tryz.prog 52 (.pointer (some ⟨b,off,none⟩)) i=bb (Nat.blt i 3) (some (.pointer (some ⟨b,off+i*1,none⟩))):=by kernel_rfl
theorem yT:BVn 52 1 1:=by unfold BVn;intros;kernel_rfl
end
end Go.Proofs.T
namespace Go.Proofs.T
open Go Go.Ab
open Nat (reduceMul reduceEqDiff reduceAdd)
theorem uK:bfC [1,1]= .seq (bfC [1,1,0]) (bfC [1,1,1]):=by kernel_rfl
theorem EG {τ:St}{p t:Nat}{H:List Nat}{cs:List Value}:o0 (H6 τ (p::t::H)) (H6 (τ.upd p cs) (p::t::H)):=I5 (by simp) fun c hc hm=>⟨hm,D9 fun e=>hm (by simp [e])⟩
theorem PK:decide ((1:Int)=0)=false/\decide ((2:Int)=0)=false/\decide ((2:Int)=1)=false/\decide ((3:Int)=0)=false/\decide ((3:Int)=1)=false/\decide ((3:Int)=2)=false/\decide ((4:Int)=0)=false/\decide ((4:Int)=1)=false/\decide ((4:Int)=2)=false/\decide ((4:Int)=3)=false/\decide ((5:Int)=0)=false/\decide ((5:Int)=1)=false/\decide ((5:Int)=2)=false/\decide ((5:Int)=3)=false/\decide ((5:Int)=4)=false/\decide ((6:Int)=0)=false/\decide ((6:Int)=1)=false/\decide ((6:Int)=2)=false/\decide ((6:Int)=3)=false/\decide ((6:Int)=4)=false/\decide ((6:Int)=5)=false/\decide ((7:Int)=0)=false/\decide ((7:Int)=1)=false/\decide ((7:Int)=2)=false/\decide ((7:Int)=3)=false/\decide ((7:Int)=4)=false/\decide ((7:Int)=5)=false/\decide ((7:Int)=6)=false/\decide ((8:Int)=0)=false/\decide ((8:Int)=1)=false/\decide ((8:Int)=2)=false/\decide ((8:Int)=3)=false/\decide ((8:Int)=4)=false/\decide ((8:Int)=5)=false/\decide ((8:Int)=6)=false/\decide ((8:Int)=7)=false/\decide ((0:Int)=0)=true/\decide ((1:Int)=1)=true/\decide ((2:Int)=2)=true/\decide ((3:Int)=3)=true/\decide ((4:Int)=4)=true/\decide ((5:Int)=5)=true/\decide ((6:Int)=6)=true/\decide ((7:Int)=7)=true/\decide ((8:Int)=8)=true:=⟨rfl,rfl,rfl,rfl,rfl,rfl,rfl,rfl,rfl,rfl,rfl,rfl,rfl,rfl,rfl,rfl,rfl,rfl,rfl,rfl,rfl,rfl,rfl,rfl,rfl,rfl,rfl,rfl,rfl,rfl,rfl,rfl,rfl,rfl,rfl,rfl,rfl,rfl,rfl,rfl,rfl,rfl,rfl,rfl,rfl⟩
theorem nine {z:Int}(h1:0<=z) (h2:z<9):z=0\/z=1\/z=2\/z=3\/z=4\/z=5\/z=6\/z=7\/z=8:=om
theorem uL {k:Nat}(h:k<4):∃ s:By,sub ([str [109,105,110],str [120],str [],str [57]]:List Value) k 1=some [str s]/\s.length<=3:=by
 match k,h with
 | 0,_=>exact ⟨_,rfl,by decide⟩
 | 1,_=>exact ⟨_,rfl,by decide⟩
 | 2,_=>exact ⟨_,rfl,by decide⟩
 | 3,_=>exact ⟨_,rfl,by decide⟩
theorem me {Z0 τ:St}{H:List Nat}{p q t w m:Nat}{q0 q1 q2:Int}{fr:Fr}{row:List Value}{o nm:By}{nu de:Int}{es:List Ex}(h:BfS Z0 H p q t q0 q1 q2 fr τ row (.mk o nu de nm es)) (hq0:u7 q0) (hq1:u7 q1) (hH:∀ c∈H,c<Z0.n) (hw:WfE w (.mk o nu de nm es)) (hw1:1<=w) (hw3:w<=3) (hm:Bx (.mk o nu de nm es)<=m) :
  Ev (lim Tryz.prog HS none (bfC [1,1]) fr τ) (BfQ Z0 H t (w+1) (m+26)) ⟨⟩:=by
 obtain ⟨g2,g3,g4,hE,p0,q0',t0,pq,pt,qt,pl,ql,tl,op,oq,ot,hx⟩:=h;obtain ⟨v,rows,rfl,hs,hl4,hxs⟩:=hx;obtain ⟨wf1,wf2,wf3,wf4,wf5,wf6⟩:=Ap.1 hw;rw [P5] at hm;have rq:=A8 oq;have rp:=A8 op;have hEn:=hE.n;have hlt:∀ c∈p::t::H,c<τ.n:=by
  intro c hc;rcases List.mem_cons.1 hc with rfl|hc
  ·exact pl
  rcases List.mem_cons.1 hc with rfl|hc
  ·exact tl
  have:=hH c hc;omega
 rw [uK];obtain ⟨X,hX⟩:∃ X,bfC [1,1,1]=X:=⟨_,rfl⟩
 rw [hX];simp only [bfC,Tryz.f28,F9,I7,U9,V0,V6,V7];refine gU1 (a6N @A1 @A7 @DU @g2 @g3 @rq) ?_;refine (Y9 (m:=9) hq1 om om).mono ?_;rintro r rfl;have z1:0<=q1 % 9:=Int.emod_nonneg _ om;have z2:q1 % 9<9:=Int.emod_lt_of_pos _ om;generalize q1 % 9=z at z1 z2;rcases nine z1 z2 with rfl|rfl|rfl|rfl|rfl|rfl|rfl|rfl|rfl
 ·refine gU1 (a7N @A1 @A7 @PK @g2 @g3 @op @rp) ?_;rw [<- hX];exact GO (p:=p) (row:=[str [37],.int .i64 nu,.int .i64 de,str nm,v]) (e:= .mk [37] nu de nm es) (fR1 g2) (fR1 g4) (DM hE p0) t0 pt (by simpa using tl) (cL) ⟨_,cL1 ot,rfl⟩ (⟨_,rows,rfl,SLs.E8 hs EG,hl4,FT.E8 EG hxs⟩) hH (Ap.2 ⟨by simp,wf2,wf3,wf4,om,WfL.mono om wf6⟩) (by rw [P5];omega)
 ·refine gU1 (a7N @A1 @A7 @PK @g2 @g3 @op @rp) ?_;rw [<- hX];exact GO (p:=p) (row:=[str o,.int .i64 nu,.int .i64 de,str [120],v]) (e:= .mk o nu de [120] es) (fR1 g2) (fR1 g4) (DM hE p0) t0 pt (by simpa using tl) (cL) ⟨_,cL1 ot,rfl⟩ (⟨_,rows,rfl,SLs.E8 hs EG,hl4,FT.E8 EG hxs⟩) hH (Ap.2 ⟨wf1,by simp,wf3,wf4,om,WfL.mono om wf6⟩) (by rw [P5];omega)
 ·refine gU1 (a7N @A1 @A7 @PK @g2 @g3 @op @rp) ?_;rw [<- hX];exact GO (p:=p) (row:=[str o,.int .i64 1,.int .i64 3,str nm,v]) (e:= .mk o 1 3 nm es) (fR1 g2) (fR1 g4) (DM hE p0) t0 pt (by simpa using tl) (cL) ⟨_,cL1 ot,rfl⟩ (⟨_,rows,rfl,SLs.E8 hs EG,hl4,FT.E8 EG hxs⟩) hH (Ap.2 ⟨wf1,wf2,om,om,om,WfL.mono om wf6⟩) (by rw [P5];omega)
 ·refine gU1 (a7N @A1 @A7 @PK @g2 @g3 @op @rp) ?_;rw [<- hX];exact GO (p:=p) (row:=[str o,.int .i64 2,.int .i64 4,str nm,v]) (e:= .mk o 2 4 nm es) (fR1 g2) (fR1 g4) (DM hE p0) t0 pt (by simpa using tl) (cL) ⟨_,cL1 ot,rfl⟩ (⟨_,rows,rfl,SLs.E8 hs EG,hl4,FT.E8 EG hxs⟩) hH (Ap.2 ⟨wf1,wf2,om,om,om,WfL.mono om wf6⟩) (by rw [P5];omega)
 ·refine gU1 (a14N @A1 @N7 @T1 @T5 @R6 @R7 @Q8 @J0 @J5 @F4 @PK @g2 @op @rp) ?_;refine Fi (size:=5) (rows:=rows) (fun _ _ _ _=>K2) (K5 (Nat.le_refl _) (Nat.le_refl _)) (by simp) (hs.E8 (Ja.trans (o0.Ic (.new _ _)))) (by have:=hxs.to.len;omega) ?_;rintro v1 Z1 ho1 hX1;have n1:=hX1.n;simp only [N3] at n1;refine gU1 (a10N @A1 @N7 @T1 @T5 @R6 @R7 @Q8 @J0 @J5 @F4) ?_;have zB:OL τ.n (Z1.new [str [110,97,109,101],.int .i64 0,.int .i64 0,str [120],.slice none 0 0]) 5 v1 rows:=OL.ext ho1 (.new _ _);refine I0 (row:=[str [110,97,109,101],.int .i64 0,.int .i64 0,str [120],.slice none 0 0]) (fun _ _ _ _=>K2) zB (D4 (Nat.le_refl _) (Nat.le_refl _)) (D6 (by simp) (by simp)) (by have:=hxs.to.len;omega) (by simp;omega) ?_;rintro v2 Z2 ho2 hap -;have n2:=hap.n;simp only [N3] at n2;have BV:∀ c,c<τ.n->Z2.h.get c=τ.h.get c:=fun c hc=>by
   rw [hap.same c (by simp;omega) (fun hb=>by have:=(zB.blk hb).1;omega),M7,if_neg om,hX1.same c (by simp;omega) om,M7,if_neg om]
  have op2:Z2.A5 p=some [str o,.int .i64 nu,.int .i64 de,str nm,v]:=by rw [A6 (BV p pl)];exact op
  have ot2:Z2.A5 t=some znE:=by rw [A6 (BV t tl)];exact ot
  have hE2:Ext Z0 Z2:=⟨om,fun c hc=>by rw [BV c om,hE.same c hc]⟩
  obtain ⟨aa,rfl⟩:=OL.shape ho2;refine gU1 (a12N @A1 @N7 @T1 @T5 @R6 @R7 @Q8 @J0 @J5 @F4 @g2 @op2) ?_;rw [<- hX];have hk:o0 (H6 τ (p::t::H)) (H6 (Z2.upd p [str o,.int .i64 nu,.int .i64 de,str nm,.slice aa (rows++[[str [110,97,109,101],.int .i64 0,.int .i64 0,str [120],.slice none 0 0]]).length (rows++[[str [110,97,109,101],.int .i64 0,.int .i64 0,str [120],.slice none 0 0]]).length]) (p::t::H)):=I5 (by simp;omega) fun c hc hm=>⟨hm,by rw [D9 fun e=>hm (by simp [e]),O4 (BV c hc)]⟩
  refine GO (p:=p) (row:=[str o,.int .i64 nu,.int .i64 de,str nm,.slice aa (rows++[[str [110,97,109,101],.int .i64 0,.int .i64 0,str [120],.slice none 0 0]]).length (rows++[[str [110,97,109,101],.int .i64 0,.int .i64 0,str [120],.slice none 0 0]]).length]) (e:= .mk o nu de nm (es++[exV])) (fR1 g2) (fR1 g4) (DM hE2 p0) t0 pt (by simp;omega) (cL) ⟨znE,cL1 ot2,rfl⟩ ?_ hH (Ap.2 ⟨wf1,wf2,wf3,wf4,by simp;omega,YX (WfL.mono om wf6) (T9.2 ⟨yh,Bm⟩)⟩) (by rw [P5,OG,P3,YY,T8];omega);exact ⟨_,_,rfl,OL.H6 (OL.upd ho2 om) hlt,by simp;omega,FT.app Vc (FT.E8 hk hxs)⟩
 ·refine gU1 (a7N @A1 @A7 @PK @g2 @g3 @op @rp) ?_;rw [<- hX];exact GO (p:=p) (row:=[str [110,117,109],.int .i64 1000000000,.int .i64 1,str [],.slice none 0 0]) (e:= .mk [110,117,109] 1000000000 1 [] []) (fR1 g2) (fR1 g4) (DM hE p0) t0 pt (by simpa using tl) (cL) ⟨_,cL1 ot,rfl⟩ (Vc) hH (Ap.2 ⟨by simp,by simp,om,om,by simp,Bm⟩) (by rw [P5,T8];omega)
 ·refine gU1 (a7N @A1 @A7 @PK @g2 @g3 @op @rp) ?_;rw [<- hX];exact GO (p:=p) (row:=[str [110,117,109],.int .i64 1000000000000001,.int .i64 1000000,str [],.slice none 0 0]) (e:= .mk [110,117,109] 1000000000000001 1000000 [] []) (fR1 g2) (fR1 g4) (DM hE p0) t0 pt (by simpa using tl) (cL) ⟨_,cL1 ot,rfl⟩ (Vc) hH (Ap.2 ⟨by simp,by simp,om,om,by simp,Bm⟩) (by rw [P5,T8];omega)
 ·refine gU1 (a4N @A1 @A7 @PK @g2) ?_;have y1:0<=q0 % 6:=Int.emod_nonneg _ om;have y2:q0 % 6<6:=Int.emod_lt_of_pos _ om;obtain ⟨n,hn⟩:=Int.eq_ofNat_of_zero_le (show 0<=8+q0 % 6 by omega);have Ab4:n<=13:=om
  refine L8 n (fun k fr τ'=>fr.get 7=some (.int .i64 k)/\fr.get 2=some (.pointer (some ⟨p,0,none⟩))/\fr.get 3=some (.pointer (some ⟨q,0,none⟩))/\fr.get 4=some (.pointer (some ⟨t,0,none⟩))/\Ext Z0 τ'/\τ.n<=τ'.n/\τ'.A5 q=some [.int .i64 q0,.int .i64 q1,.int .i64 q2]/\τ'.A5 t=some znE/\∃ row e,τ'.A5 p=some row/\ExX (H6 τ' (p::t::H)) row e/\WfE (w+1) e/\Bx e<=m+2*k)
   (fun r=>∃ fr τ',r=⟨.exit 1,fr,τ'⟩/\fr.get 2=some (.pointer (some ⟨p,0,none⟩))/\fr.get 4=some (.pointer (some ⟨t,0,none⟩))/\Ext Z0 τ'/\τ.n<=τ'.n/\τ'.A5 t=some znE/\∃ row e,τ'.A5 p=some row/\ExX (H6 τ' (p::t::H)) row e/\WfE (w+1) e/\Bx e<=m+26) ?_ ?_ ?_ ?_
  ·exact ⟨fR,fR1 g2,fR1 g3,fR1 g4,hE,Nat.le_refl _,oq,ot,_,.mk o nu de nm es,op,⟨v,rows,rfl,hs,hl4,hxs⟩,WfE.mono om hw,by rw [P5];omega⟩
  ·clear g2 g3 g4 hs hxs op oq ot rp rq;rintro k fr τ' hk ⟨g7,g2,g3,g4,hE',hnn,oq,ot,row,e,op,hx,hwe,hme⟩;obtain ⟨c1,c2,c3,c4,c5,rfl⟩:=fc5 hx.to;have rq:=A8 oq;have rp:=A8 op;have hc:=O9 hk;refine gU1 (a6N @A1 @A7 @DU @g7 @g3 @rq) ?_;refine (Y9 (m:=6) hq0 om om).mono ?_;rintro r rfl;refine gU1 (a8N @A1 @A7 @hn @hc @g7 @g2 @op @rp) ?_;refine ⟨fR,fR1 g2,fR1 g3,fR1 g4,DM (hE'.AF _) p0,by show τ.n<=τ'.n+1;omega,cL1 oq,cL1 ot,_,.mk [109,97,120] 0 0 [] [e,exV],cL,?_,Ap.2 ⟨by simp,by simp,om,om,by show 2<=w+1;omega,T9.2 ⟨hwe,T9.2 ⟨yh,Bm⟩⟩⟩,by rw [P5,P3,P3,YY,T8];omega⟩;have hk2:o0 (H6 τ' (p::t::H)) (H6 ((τ'.new [c1,c2,c3,c4,c5,str [110,97,109,101],.int .i64 0,.int .i64 0,str [120],.slice none 0 0]).upd p [str [109,97,120],.int .i64 0,.int .i64 0,str [],.slice (some ⟨τ'.n,0,none⟩) 2 2]) (p::t::H)):=I5 (by simp) fun c hc hm=>⟨hm,by rw [D9 fun e=>hm (by simp [e]),Af om]⟩
   have hnm:τ'.n∉p::t::H:=fun hm=>by
    rcases List.mem_cons.1 hm with h|hm
    ·omega
    rcases List.mem_cons.1 hm with h|hm
    ·omega
    have:=hH _ hm;omega
   have hrw:(H6 ((τ'.new [c1,c2,c3,c4,c5,str [110,97,109,101],.int .i64 0,.int .i64 0,str [120],.slice none 0 0]).upd p [str [109,97,120],.int .i64 0,.int .i64 0,str [],.slice (some ⟨τ'.n,0,none⟩) 2 2]) (p::t::H)).row τ'.n=some ([c1,c2,c3,c4,c5]++[str [110,97,109,101],.int .i64 0,.int .i64 0,str [120],.slice none 0 0]):=by rw [BG hnm,D9 om];exact cL
   exact kQ (by rw [Cz];simp) hrw rfl (hx.E8 hk2) Vc
  ·clear g2 g3 g4 hs hxs op oq ot rp rq;rintro fr τ' ⟨g7,g2,g3,g4,hE',hnn,oq,ot,row,e,op,hx,hwe,hme⟩;have rq:=A8 oq;refine gU1 (a6N @A1 @A7 @DU @g7 @g3 @rq) ?_;refine (Y9 (m:=6) hq0 om om).mono ?_;rintro r rfl;refine gU1 (a5N @A1 @A7 @hn @g7 @Bo) ?_;exact ⟨_,_,rfl,fR1 g2,fR1 g4,hE',hnn,ot,row,e,op,hx,hwe,om⟩
  clear g2 g3 g4 hs hxs op oq ot rp rq;rintro r ⟨fr,τ',rfl,g2,g4,hE',hnn,ot,row,e,op,hx,hwe,hme⟩;refine gU1 (aI @A1 @A7) ?_;rw [<- hX];exact GO g2 g4 hE' t0 pt om op ⟨_,ot,rfl⟩ hx hH hwe hme
 ·refine gU1 (a7N @A1 @A7 @PK @DU @g2 @g3 @rq) ?_;refine (Y9 (m:=4) hq0 om om).mono ?_;rintro r rfl;have y1:0<=q0 % 4:=Int.emod_nonneg _ om;have y2:q0 % 4<4:=Int.emod_lt_of_pos _ om;obtain ⟨y,hy⟩:=Int.eq_ofNat_of_zero_le y1;rw [hy] at y2 ⊢;obtain ⟨s,hs1,hs2⟩:=uL (k:=y) om;refine gU1 (a8N @A1 @A7 @PK @g2 @g3 @op @rp @hs1) ?_;rw [<- hX];exact GO (p:=p) (row:=[str [110,97,109,101],.int .i64 0,.int .i64 0,str s,.slice none 0 0]) (e:= .mk [110,97,109,101] 0 0 s []) (fR1 g2) (fR1 g4) (DM (hE.AF _) p0) t0 pt (by simp;omega) (cL) ⟨_,cL1 ot,rfl⟩ Vc hH (Ap.2 ⟨by simp,om,om,om,by simp,Bm⟩) (by rw [P5,T8];omega)
theorem tM:bfC []= .seq (bfC [0]) (bfC [1]):=by kernel_rfl
theorem tN:bfC [1]= .seq (bfC [1,0]) (bfC [1,1]):=by kernel_rfl
def yX (Z:St) (H:List Nat) (w m:Nat) (r:CR):Prop:=∃ row e Z',r=⟨false,.agg ⟨row⟩,Z'⟩/\Ext Z Z'/\ExX (H6 Z' H) row e/\WfE w e/\Bx e<=m
theorem fo:∀ (n:Nat){Z:St}{H:List Nat}{row:List Value}{e:Ex}{q0 q1 q2:Int}{w m:Nat},SizeOf.sizeOf e<n->(∀ c∈H,c<Z.n)->ExX (H6 Z H) row e->u7 q0->u7 q1->u7 q2->WfE w e->1<=w->w<=3->Bx e<=m ->
  Ev (go Tryz.prog HS (.fn 28) [.agg ⟨row⟩,.agg ⟨[.int .i64 q0,.int .i64 q1,.int .i64 q2]⟩] Z) (yX Z H (w+1) (m+26)) ⟨⟩:=by
 intro n;induction n with
 | zero=>intro Z H row e q0 q1 q2 w m h;omega
 | succ n ih =>
   intro Z H row e q0 q1 q2 w m hsz hH hx hq0 hq1 hq2 hw hw1 hw3 hm;obtain ⟨o,nu,de,nm,es⟩:=e;have hx0:=hx;obtain ⟨v,rows,rfl,hs,hl4,hxs⟩:=hx;have hlen:=hxs.to.len;obtain ⟨va,vc,vb,vo,vcs,rfl,s1,s2⟩:=hs.sl.use;refine D7 (body:=bfC []) Tryz.func28 (by kernel_rfl) rfl ?_;obtain ⟨X,hX⟩:∃ X,bfC [1,1]=X:=⟨_,rfl⟩
   rw [tM,tN,hX];simp only [bfC,Tryz.f28,F9,I7,U9,V0,V6,V7];have E0:Ext Z (((Z.new [str o,.int .i64 nu,.int .i64 de,str nm,.slice va rows.length vc]).new [.int .i64 q0,.int .i64 q1,.int .i64 q2]).new znE (some 35)):=eX;have K0:o0 (H6 Z H) (H6 (((Z.new [str o,.int .i64 nu,.int .i64 de,str nm,.slice va rows.length vc]).new [.int .i64 q0,.int .i64 q1,.int .i64 q2]).new znE (some 35)) (Z.n::(Z.n+2)::H)):=I5 (by show Z.n<=Z.n+3;omega) fun c hc hm=>⟨by simp only [List.mem_cons,not_or];exact ⟨om,om,hm⟩,by rw [E0.row hc]⟩
   have fin:∀ fr,fr.get 2=some (.pointer (some ⟨Z.n,0,none⟩))->fr.get 3=some (.pointer (some ⟨Z.n+1,0,none⟩))->fr.get 4=some (.pointer (some ⟨Z.n+2,0,none⟩)) ->
     Ev (lim Tryz.prog HS none X fr (((Z.new [str o,.int .i64 nu,.int .i64 de,str nm,.slice va rows.length vc]).new [.int .i64 q0,.int .i64 q1,.int .i64 q2]).new znE (some 35))) (BfQ Z H (Z.n+2) (w+1) (m+26)) ⟨⟩:=fun fr g2 g3 g4=>by
    rw [<- hX];exact me (p:=Z.n) (q:=Z.n+1) (t:=Z.n+2) ⟨g2,g3,g4,E0,Nat.le_refl _,om,om,om,om,om,by show Z.n<Z.n+3;omega,by show Z.n+1<Z.n+3;omega,by show Z.n+2<Z.n+3;omega,by unfold znE;exact cL,by unfold znE;exact cL,by unfold znE;exact cL,hx0.E8 K0⟩ hq0 hq1 hH hw hw1 hw3 hm
   unfold znE at fin;cases d2:decide ((rows.length:Int)=2) with
   | false =>
     refine gU1 (a6N @A1 @A7 @DU @d2 @J1 @J2) ?_;refine (fin _ ?_ ?_ ?_).mono ?_
     ·exact fR
     ·exact fR
     ·exact fR
     rintro r ⟨fr,τ,Sh,e',rfl,g4,ot,hE,hx',hw',hm'⟩;have hl5:=Jc hx';have hf:sub Sh 0 5=some Sh:=D6 om om;have rt:=A8 ot;refine gU1 (a6N @A1 @A7 @g4 @rt @hf @Tryz.results28) ?_;exact ⟨_,_,_,rfl,hE,hx',hw',hm'⟩
   | true =>
     refine gU1 (a6N @A1 @A7 @DU @d2 @J1 @J2) ?_;refine (Y9 (m:=3) hq2 om om).mono ?_;rintro r rfl;cases dz:decide (0<q2 % 3) with
     | false =>
       refine gU1 (a5N @A1 @A7 @dz @J1 @J2) ?_;refine (fin _ ?_ ?_ ?_).mono ?_
       ·exact fR
       ·exact fR
       ·exact fR
       rintro r ⟨fr,τ,Sh,e',rfl,g4,ot,hE,hx',hw',hm'⟩;have hl5:=Jc hx';have hf:sub Sh 0 5=some Sh:=D6 om om;have rt:=A8 ot;refine gU1 (a6N @A1 @A7 @g4 @rt @hf @Tryz.results28) ?_;exact ⟨_,_,_,rfl,hE,hx',hw',hm'⟩
     | true =>
       have l2:rows.length=2:=by have:=of_decide_eq_true d2;omega
       obtain ⟨rx,ry,rfl⟩:∃ a b,rows=[a,b]:=by
        match rows,l2 with
        | [a,b],_=>exact ⟨a,b,rfl⟩
       obtain ⟨x,y,rfl⟩:∃ a b,es=[a,b]:=by
        match es,hlen with
        | [a,b],_=>exact ⟨a,b,rfl⟩
       obtain ⟨r1,rs1,e1,hx1,r2,rs2,e2,hx2,-⟩:=hxs;cases e1;cases e2;obtain ⟨sp,rfl,hb,hr⟩:=s1 (by simp);rw [Cz] at hb;have nH:vb∉H:=fun h=>by rw [JZ h] at hr;cases hr
       rw [BG nH] at hr;have t1:=s2 0 rx rfl;have t2:=s2 1 ry rfl;obtain ⟨x1,x2,x3,x4,x5,rfl⟩:=fc5 hx1.to;obtain ⟨y1,y2,y3,y4,y5,rfl⟩:=fc5 hx2.to;rw [Nat.zero_mul] at t1;rw [Nat.one_mul] at t2;refine gU1 (a8N @A1 @A7 @dz @J1 @J2 @hr @t1 @t2) ?_;refine gU1 (a3N @A1 @A7 @DU) ?_;refine (Y9 (m:=2) hq2 om om).mono ?_;rintro r rfl;have hab:=Int.tmod_add_mul_tdiv q2 3;have ha1:=Int.tmod_lt_of_pos q2 (show (0:Int)<3 by omega);have ha2:=Int.lt_tmod_of_pos q2 (show (0:Int)<3 by omega);have hdq:u7 (q2.tdiv 3):=⟨by have:=hq2.1;have:=hq2.2;omega,by have:=hq2.1;have:=hq2.2;omega⟩
       have hdv:IntKind.i64.wrap (q2.tdiv 3)=q2.tdiv 3:=wrap64_in hdq.1 hdq.2;obtain ⟨wf1,wf2,wf3,wf4,wf5,wf6⟩:=Ap.1 hw;obtain ⟨wx,wf7⟩:=T9.1 wf6;obtain ⟨wy,-⟩:=T9.1 wf7;rw [P5,P3,P3,T8] at hm;have z1:0<=q2 % 2:=Int.emod_nonneg _ om;have z2:q2 % 2<2:=Int.emod_lt_of_pos _ om;rcases (show q2 % 2=0\/q2 % 2=1 by omega) with hz|hz
       ·rw [hz];refine gU1 (a7N @A1 @A7 @DU @yT @yR @yS @hdv) ?_;obtain ⟨τ,hτ⟩:∃ S,((((Z.new [str o,.int .i64 nu,.int .i64 de,str nm,.slice (some ⟨vb,vo,sp⟩) 2 vc]).new [.int .i64 q0,.int .i64 q1,.int .i64 q2]).new [str [],.int .i64 0,.int .i64 0,str [],.slice none 0 0] (some 35)).new [x1,x2,x3,x4,x5,y1,y2,y3,y4,y5])=S:=⟨_,rfl⟩
        rw [hτ];have E1:Ext Z τ:=by rw [<- hτ];exact eX
        have nτ:τ.n=Z.n+4:=by rw [<- hτ];rfl
        have oa:τ.A5 (Z.n+3)=some [x1,x2,x3,x4,x5,y1,y2,y3,y4,y5]:=by rw [<- hτ];exact cL
        have op:τ.A5 Z.n=some [str o,.int .i64 nu,.int .i64 de,str nm,.slice (some ⟨vb,vo,sp⟩) 2 vc]:=by rw [<- hτ];exact cL
        have ot:τ.A5 (Z.n+2)=some [str [],.int .i64 0,.int .i64 0,str [],.slice none 0 0]:=by rw [<- hτ];exact cL
        have K1:o0 (H6 Z H) (H6 τ ((Z.n+3)::Z.n::(Z.n+2)::H)):=I5 E1.n fun c hc hm=>⟨by simp only [List.mem_cons,not_or];exact ⟨om,om,om,hm⟩,by rw [E1.row hc]⟩
        clear hτ;refine (ih (e:=x) (H:=(Z.n+3)::Z.n::(Z.n+2)::H) (w:=w) (m:=Bx x) (by simp at hsz;omega) (fun c hc=>?_) (hx1.E8 K1) hq0 hq1 hdq wx hw1 hw3 (Nat.le_refl _)).mono ?_
        ·simp only [List.mem_cons] at hc;rcases hc with h|h|h|h
         ·omega
         ·omega
         ·omega
         ·have:=hH c h;omega
        rintro r ⟨rn,x',Z2,rfl,E2,hxn,wxn,mxn⟩;have n2:=E2.n;obtain ⟨c1,c2,c3,c4,c5,rfl⟩:=fc5 hxn.to;have oa:Z2.A5 (Z.n+3)=some [x1,x2,x3,x4,x5,y1,y2,y3,y4,y5]:=by rw [E2.A5 om];exact oa
        have op:Z2.A5 Z.n=some [str o,.int .i64 nu,.int .i64 de,str nm,.slice (some ⟨vb,vo,sp⟩) 2 vc]:=by rw [E2.A5 om];exact op
        have ot:Z2.A5 (Z.n+2)=some [str [],.int .i64 0,.int .i64 0,str [],.slice none 0 0]:=by rw [E2.A5 om];exact ot
        have e3:Z.n+1+1+1=Z.n+3:=rfl;have e2:Z.n+1+1=Z.n+2:=rfl;simp (maxSteps:=8000000) (disch:=first|exact dS|fail) only [↓bD,bU,reduceMul,reduceEqDiff,reduceAdd,Nat.reduceBEq,reduceIte,Option.isNone_none,A1,A7,e3,e2,oa,asx E2]
        try refine H3.intro (by (repeat first|simp (disch:=omega) only [B9,C9,C0,asx E2]|rw [D0 (by kernel_rfl)]);first|done|rfl) ?_
        try (refine gU1 (a7N @A1 @A7 @e3 @e2 @oa @op @ot) ?_;try exact ⟨⟩)
        obtain ⟨SF,hSF⟩:∃ S,(((Z2.upd (Z.n+3) [c1,c2,c3,c4,c5,y1,y2,y3,y4,y5]).upd Z.n [str o,.int .i64 nu,.int .i64 de,str nm,.slice (some ⟨Z.n+3,0,none⟩) 2 2]).upd (Z.n+2) [str o,.int .i64 nu,.int .i64 de,str nm,.slice (some ⟨Z.n+3,0,none⟩) 2 2])=S:=⟨_,rfl⟩
        have nF:SF.n=Z2.n:=by rw [<- hSF];rfl
        have rF:SF.row (Z.n+3)=some ([c1,c2,c3,c4,c5]++[y1,y2,y3,y4,y5]):=by rw [<- hSF,D9 om,D9 om];exact cL
        have nm3:Z.n+3∉H:=fun h=>by have:=hH _ h;omega
        have KA:o0 (H6 Z2 ((Z.n+3)::Z.n::(Z.n+2)::H)) (H6 SF H):=I5 om fun c hc hm=>by
         simp only [List.mem_cons,not_or] at hm;exact ⟨hm.2.2.2,by rw [<- hSF,D9 hm.2.2.1,D9 hm.2.1,D9 hm.1]⟩
        have KB:o0 (H6 Z H) (H6 SF H):=I5 om fun c hc hm=>⟨hm,by rw [<- hSF,D9 om,D9 om,D9 om,(E1.trans E2).row hc]⟩
        have EF:Ext Z SF:=by rw [<- hSF];exact (((E1.trans E2).upd om _).upd om _).upd om _
        refine ⟨_,.mk o nu de nm [x',y],SF,by rw [<- hSF],EF,kQ (by rw [Cz];omega) (by rw [BG nm3];exact rF) rfl (hxn.E8 KA) (hx2.E8 KB),Ap.2 ⟨wf1,wf2,wf3,wf4,by show 2<=w+1;omega,T9.2 ⟨wxn,T9.2 ⟨WfE.mono om wy,Bm⟩⟩⟩,?_⟩;rw [P5,P3,P3,T8];omega
       ·rw [hz];refine gU1 (a7N @A1 @A7 @DU @yT @yR @yS @hdv) ?_;obtain ⟨τ,hτ⟩:∃ S,((((Z.new [str o,.int .i64 nu,.int .i64 de,str nm,.slice (some ⟨vb,vo,sp⟩) 2 vc]).new [.int .i64 q0,.int .i64 q1,.int .i64 q2]).new [str [],.int .i64 0,.int .i64 0,str [],.slice none 0 0] (some 35)).new [x1,x2,x3,x4,x5,y1,y2,y3,y4,y5])=S:=⟨_,rfl⟩
        rw [hτ];have E1:Ext Z τ:=by rw [<- hτ];exact eX
        have nτ:τ.n=Z.n+4:=by rw [<- hτ];rfl
        have oa:τ.A5 (Z.n+3)=some [x1,x2,x3,x4,x5,y1,y2,y3,y4,y5]:=by rw [<- hτ];exact cL
        have op:τ.A5 Z.n=some [str o,.int .i64 nu,.int .i64 de,str nm,.slice (some ⟨vb,vo,sp⟩) 2 vc]:=by rw [<- hτ];exact cL
        have ot:τ.A5 (Z.n+2)=some [str [],.int .i64 0,.int .i64 0,str [],.slice none 0 0]:=by rw [<- hτ];exact cL
        have K1:o0 (H6 Z H) (H6 τ ((Z.n+3)::Z.n::(Z.n+2)::H)):=I5 E1.n fun c hc hm=>⟨by simp only [List.mem_cons,not_or];exact ⟨om,om,om,hm⟩,by rw [E1.row hc]⟩
        clear hτ;refine (ih (e:=y) (H:=(Z.n+3)::Z.n::(Z.n+2)::H) (w:=w) (m:=Bx y) (by simp at hsz;omega) (fun c hc=>?_) (hx2.E8 K1) hq0 hq1 hdq wy hw1 hw3 (Nat.le_refl _)).mono ?_
        ·simp only [List.mem_cons] at hc;rcases hc with h|h|h|h
         ·omega
         ·omega
         ·omega
         ·have:=hH c h;omega
        rintro r ⟨rn,x',Z2,rfl,E2,hxn,wxn,mxn⟩;have n2:=E2.n;obtain ⟨c1,c2,c3,c4,c5,rfl⟩:=fc5 hxn.to;have oa:Z2.A5 (Z.n+3)=some [x1,x2,x3,x4,x5,y1,y2,y3,y4,y5]:=by rw [E2.A5 om];exact oa
        have op:Z2.A5 Z.n=some [str o,.int .i64 nu,.int .i64 de,str nm,.slice (some ⟨vb,vo,sp⟩) 2 vc]:=by rw [E2.A5 om];exact op
        have ot:Z2.A5 (Z.n+2)=some [str [],.int .i64 0,.int .i64 0,str [],.slice none 0 0]:=by rw [E2.A5 om];exact ot
        have e3:Z.n+1+1+1=Z.n+3:=rfl;have e2:Z.n+1+1=Z.n+2:=rfl;simp (maxSteps:=8000000) (disch:=first|exact dS|fail) only [↓bD,bU,reduceMul,reduceEqDiff,reduceAdd,Nat.reduceBEq,reduceIte,Option.isNone_none,A1,A7,e3,e2,oa,asx E2]
        try refine H3.intro (by (repeat first|simp (disch:=omega) only [B9,C9,C0,asx E2]|rw [D0 (by kernel_rfl)]);first|done|rfl) ?_
        try (refine gU1 (a7N @A1 @A7 @e3 @e2 @oa @op @ot) ?_;try exact ⟨⟩)
        obtain ⟨SF,hSF⟩:∃ S,(((Z2.upd (Z.n+3) [x1,x2,x3,x4,x5,c1,c2,c3,c4,c5]).upd Z.n [str o,.int .i64 nu,.int .i64 de,str nm,.slice (some ⟨Z.n+3,0,none⟩) 2 2]).upd (Z.n+2) [str o,.int .i64 nu,.int .i64 de,str nm,.slice (some ⟨Z.n+3,0,none⟩) 2 2])=S:=⟨_,rfl⟩
        have nF:SF.n=Z2.n:=by rw [<- hSF];rfl
        have rF:SF.row (Z.n+3)=some ([x1,x2,x3,x4,x5]++[c1,c2,c3,c4,c5]):=by rw [<- hSF,D9 om,D9 om];exact cL
        have nm3:Z.n+3∉H:=fun h=>by have:=hH _ h;omega
        have KA:o0 (H6 Z2 ((Z.n+3)::Z.n::(Z.n+2)::H)) (H6 SF H):=I5 om fun c hc hm=>by
         simp only [List.mem_cons,not_or] at hm;exact ⟨hm.2.2.2,by rw [<- hSF,D9 hm.2.2.1,D9 hm.2.1,D9 hm.1]⟩
        have KB:o0 (H6 Z H) (H6 SF H):=I5 om fun c hc hm=>⟨hm,by rw [<- hSF,D9 om,D9 om,D9 om,(E1.trans E2).row hc]⟩
        have EF:Ext Z SF:=by rw [<- hSF];exact (((E1.trans E2).upd om _).upd om _).upd om _
        refine ⟨_,.mk o nu de nm [x,x'],SF,by rw [<- hSF],EF,kQ (by rw [Cz];omega) (by rw [BG nm3];exact rF) rfl (hx1.E8 KB) (hxn.E8 KA),Ap.2 ⟨wf1,wf2,wf3,wf4,by show 2<=w+1;omega,T9.2 ⟨WfE.mono om wx,T9.2 ⟨wxn,Bm⟩⟩⟩,?_⟩;rw [P5,P3,P3,T8];omega
end Go.Proofs.T
