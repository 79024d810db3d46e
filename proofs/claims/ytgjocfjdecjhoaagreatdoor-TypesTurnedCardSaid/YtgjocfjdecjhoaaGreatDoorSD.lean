/- The Cg Mb of any DY. -/
import Derived.Test.YtgjocfjdecjhoaaGreatDoorSC
set_option linter.unusedSimpArgs false
set_option linter.unusedVariables false
set_option linter.defProp false
set_option maxHeartbeats 32000000
set_option maxRecDepth 100000
namespace Go.Proofs.T
open Go Go.Ab
def mA {e:Ex}:rfB e 12 0=AD e:=by
 unfold rfB AD;rw[HC,Bool.and_right_comm]
def mB {Z:St}{w:Nat}{e:Ex}{row:List Value}(hw:WfE w e) (hw4:w<=4) (he:P6 Z row e) (hp:Z.read 0 0 20=some AE) (h1:0<Z.n) :
  Ev (gO 74 [.agg ⟨row⟩] Z) (fun r=>∃ Z',r=⟨false,str (if AD e=true then J8 12 0 e else[]),Z'⟩/\Ext Z Z') ⟨⟩:=by
 have hlen:=he.len;have hfr:sub row 0 5=some row:=C8 om om;refine C9 Tryz.func74 rfl rfl ?_;refine gS1 (aI hfr hlen) ?_;have E0:Ext Z (Z.new row):=eX;have E1:Ext Z (((Z.new row).new [.int .i64 0] (some 3)).upd (Z.n+1) [.int .i64 0]):=eX;refine(AI9 _ (II _) hw hw4 (Z0:=Z) (p:=0) (dp:=12) he E1 om (by simp) (cL) om om).mono ?_;rintro r ⟨Z2,rfl,EX,o2⟩;have n2:=EX.n;simp only[F6,Gn]at n2;have E2:Ext Z Z2:=EX.ext E1 om;have w2:Z2.row Z.n=some row:=by rw[EX.row (by first|(simp;done)|(simp;omega)) om];exact cL
 rw[mA];cases hr:AD e with
 | false=>
   rw[z0z (by simp)];refine gS1 (aI w2 (aI hfr (aI hlen (a3N @D9 @F4 @Tryz.results74)))) ?_;exact⟨_,rfl,E2⟩
 | true=>
   rw[z1z rfl];obtain⟨hf,hk,hm⟩:=Hl hr;refine gS1 (aI w2 (aI hfr hlen)) ?_;refine(vp hf 12 hk om (F8:=0) om (Cd E2 h1 hp) om (he.mono E2)).mono ?_;rintro r ⟨Z3,rfl,E3⟩;refine gS1 @Tryz.results74 ?_;exact⟨_,rfl,E2.trans E3⟩
end Go.Proofs.T
