/- The G6 Tree. -/
import Derived.Test.YtgjocfjdecjhoaaGreatDoorRD
set_option linter.unusedSimpArgs false
set_option linter.unusedVariables false
set_option linter.defProp false
set_option maxHeartbeats 32000000
set_option maxRecDepth 100000
namespace Go.Proofs.T
open Go Go.Ab
def Zj {Z:St}{v vn:Value}{l:List Int}{nms:List By}(hN:fX nms) (H0:List Nat) (hH0:∀ c∈H0,c<Z.n) (hl:Aw (M8 Z H0) v l) (hll:l.length<=9223372036854775807) (hV:SL (M8 Z H0) 1 vn (nms.map fun s=>[str s])) :
  Ev (gO 10 [v,vn] Z) (fun r=>∃ row e k m Z',r=⟨false,.agg ⟨row⟩,Z'⟩/\Ext Z Z'/\ExX (M8 Z' H0) row e/\FSw k m e/\k<=5/\m<=31) ⟨⟩:=by
 obtain⟨d0,n0,e0,rfl⟩:∃ a n c,v= .slice a n c:=by
  obtain⟨a,c,b,off,cells,h,-⟩:=hl.1.use;exact⟨a,_,c,h⟩
 obtain⟨d1,n1,e1,rfl⟩:∃ a n c,vn= .slice a n c:=by
  obtain⟨a,c,b,off,cells,h,-⟩:=SL.LD hV;exact⟨a,_,c,h⟩
 refine C9 Tryz.func10 rfl rfl ?_;refine gS1 (aI @Aw1 @Aw2) ?_;obtain⟨S,hS⟩:=nm (((Z.new [str [],.int .i64 0,.int .i64 0,str [],.slice none 0 0] (some 32)).new [.slice d0 n0 e0,.int .i64 0]));have ES:Ext Z S:=by rw[<- hS];exact eX
 have nS:S.n=Z.n+2:=by rw[<- hS];rfl
 have oz:S.A7 Z.n=some [str [],.int .i64 0,.int .i64 0,str [],.slice none 0 0]:=by rw[<- hS];exact cL
 have oq:S.A7 (Z.n+1)=some [.slice d0 n0 e0,.int .i64 0]:=by rw[<- hS];exact cL
 have QS:GQ (Z.n+1) (.slice d0 n0 e0) l S:=⟨0,om,oq⟩
 rw[hS];refine(nxg (n:=5) hl hll ES om om QS om om).mono ?_;rintro r ⟨x,Z1,rfl,hx,E1,Q1,X1⟩;have k1:=X1.n;refine gS ?_;have hsl:SL (M8 Z1 (Z.n::(Z.n+1)::H0)) 1 (.slice d1 n1 e1) (nms.map fun s=>[str s]):=SL.H4 hV (AQ E1.n fun c hc hm=>⟨fun h=>by
  rcases Y5.1 h with h|h
  ·omega
  ·rcases Y5.1 h with h|h
   ·omega
   ·exact hm h,by rw[E1.row hc]⟩)
 refine(vY hN x om (H:=Z.n::(Z.n+1)::H0) (fun c hc=>by
  rcases Y5.1 hc with h|h
  ·omega
  ·rcases Y5.1 h with h|h
   ·omega
   ·have:=hH0 c h;omega) (ZT hl hll E1 (fun c hc=>by
  rcases Y5.1 hc with h|h
  ·exact .inl om
  ·rcases Y5.1 h with h|h
   ·exact .inl om
   ·exact .inr h) om Q1 (by simp)) hsl).mono ?_
 rintro r ⟨row,e,k,m,Z2,rfl,hM2,X2,hx2,hf,hk,hm⟩;have k2:=X2.n;obtain⟨x1,x2,x3,x4,x5,rfl⟩:=fc5 hx2.to;have rz:=eT (X2.A7 om om) (eT (X1.A7 om om) oz);refine gS1 (aI rz @Tryz.results10) ?_;have hmx:m<=31:=by
  have:2 ^ (x+1)<=32:=AV (pS om (show x+1<=5 by omega)) (by decide);omega
 refine⟨_,e,k,m,_,rfl,(X2.ext E1 om).upd om _,?_,hf,om,hmx⟩;refine hx2.H4 (AQ (by simp) fun c hc hm=>⟨fun h=>hm (by simp[h]),?_⟩);rw[AX fun e=>hm (by simp[e])]
end Go.Proofs.T
