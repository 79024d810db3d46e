/- The H3 Tree. -/
import Derived.Test.YtgjocfjdecjhoaaGreatDoorIRD
set_option linter.unusedSimpArgs false
set_option linter.unusedVariables false
set_option linter.defProp false
set_option maxHeartbeats 32000000
set_option maxRecDepth 100000
namespace Go.Proofs.T
open Go Go.Ab
def xJ {Z:St}{v F:Value}{l:List Int}{d:List By}(R:iD d) (f:List Nat) (A:∀ c∈f,c<Z.n) (B:BG (N5 Z f) v l) (j:l.length<=9223372036854775807) (I:SL (N5 Z f) 1 F (d.map fun s=>[str s])) :
  Ev (gO 10 [v,F] Z) (fun r=>∃ row e k m Z',r=⟨false,.agg ⟨row⟩,Z'⟩/\Ext Z Z'/\ExX (N5 Z' f) row e/\FSw k m e/\k<=5/\m<=31) ⟨⟩:=by
 obtain⟨y,E,z,rfl⟩:∃ a n c,v= .slice a n c:=by
  obtain⟨a,c,b,off,cells,h,-⟩:=B.1.use;exact⟨a,_,c,h⟩
 obtain⟨M,V,N,rfl⟩:∃ a n c,F= .slice a n c:=by
  obtain⟨a,c,b,off,cells,h,-⟩:=SL.Lo I;exact⟨a,_,c,h⟩
 refine C8 Tryz.func10 rfl rfl ?_;refine gS1 (aI @BF6 @BF7) ?_;obtain⟨S,i⟩:=nW (((Z.new [str [],.int .i64 0,.int .i64 0,str [],.slice none 0 0] (some 32)).new [.slice y E z,.int .i64 0]));have J:Ext Z S:=by rw[<- i];exact eX
 have nS:S.n=Z.n+2:=by rw[<- i];rfl
 have X:S.A7 Z.n=some [str [],.int .i64 0,.int .i64 0,str [],.slice none 0 0]:=by rw[<- i];exact cL
 have W:S.A7 (Z.n+1)=some [.slice y E z,.int .i64 0]:=by rw[<- i];exact cL
 have K:GQ (Z.n+1) (.slice y E z) l S:=⟨0,om,W⟩
 rw[i];refine(nxg (n:=5) B j J om om K om om).mono ?_;rintro r ⟨x,L,rfl,hx,q,Q1,G⟩;have k1:=G.n;refine gS ?_;have D:SL (N5 L (Z.n::(Z.n+1)::f)) 1 (.slice M V N) (d.map fun s=>[str s]):=SL.I2 I (AZ q.n fun c g o=>⟨fun h=>by
  rcases W1.1 h with h|h
  ·omega
  ·rcases W1.1 h with h|h
   ·omega
   ·exact o h,by rw[q.row g]⟩)
 refine(yE R x om (H:=Z.n::(Z.n+1)::f) (fun c g=>by
  rcases W1.1 g with h|h
  ·omega
  ·rcases W1.1 h with h|h
   ·omega
   ·have:=A c h;omega) (ZH B j q (fun c g=>by
  rcases W1.1 g with h|h
  ·exact .inl om
  ·rcases W1.1 h with h|h
   ·exact .inl om
   ·exact .inr h) om Q1 (by simp)) D).mono ?_
 rintro r ⟨row,e,k,m,Z2,rfl,O,u,p,U,hk,o⟩;have k2:=u.n;obtain⟨x1,x2,x3,x4,x5,rfl⟩:=fc5 p.to;have Y:=eT (u.A7 om om) (eT (G.A7 om om) X);refine gS1 (aI Y @Tryz.results10) ?_;have C:m<=31:=by
  have:2 ^ (x+1)<=32:=j9 (mE om (show x+1<=5 by omega)) (by decide);omega
 refine⟨_,e,k,m,_,rfl,(u.ext q om).upd om _,?_,U,om,C⟩;refine p.I2 (AZ (by simp) fun c g o=>⟨fun h=>o (by simp[h]),?_⟩);rw[Ae fun e=>o (by simp[e])]
end Go.Proofs.T
