/- Ax2 of HW: lists, R7, text.Equal. -/
import Derived.Test.YtgjocfjdecjhoaaGreatDoorIRC
set_option linter.unusedSimpArgs false
set_option linter.unusedVariables false
set_option linter.defProp false
set_option maxHeartbeats 32000000
set_option maxRecDepth 100000
namespace Go.Proofs.T
open Go Go.Ab
section
variable {x y:Operand}
end
mutual
def cH:Ex->Ex->Bool
 | .mk o n d nm es,.mk o' n' d' nm' es'=>decide (o=o')&&(decide (n=n')&&decide (d=d'))&&decide (nm=nm')&&JT es es'
def JT:List Ex->List Ex->Bool
 | [],[]=>true
 |a::es,b::fs=>cH a b&&JT es fs
 | [],_::_=>false
 |_::_,[]=>false
end
mutual
theorem gM:∀ a:Ex,cH a a=true
 | .mk o n d nm es=>by unfold cH;rw[QB es];simp
theorem QB:∀ es:List Ex,JT es es=true
 | []=>by unfold JT;rfl
 |a::es=>by unfold JT;rw[gM a,QB es];rfl
end
def Cn.slice {Z:St}{v:Value}{d:List (List Value)}{es:List Ex}(h:SL Z 5 v d) (f:Cn Z d es):∃ a c b off cells,v= .slice a es.length c/\(0<es.length->∃ sp,a=some ⟨b,off,sp⟩/\b<Z.n/\Z.row b=some cells) /\
  ∀ k e,es[k]? =some e->∃ row,sub cells (off+k*5) 5=some row/\P8 Z row e:=by
 obtain⟨a,c,b,off,cells,g,i,m⟩:=SL.use h;rw[f.len]at g i;refine⟨a,c,b,off,cells,g,i,fun k e j=>?_⟩;obtain⟨hlt,_⟩:=List.getElem?_eq_some_iff.1 j;obtain⟨row,hr⟩:=I1 (l:=d) (k:=k) (by rw[f.len];exact hlt);exact⟨row,m k row hr,f.get hr j⟩
mutual
theorem wT:∀ {a b:Ex},cH a b=true->a=b
 | .mk o n d nm es,.mk o' n' d' nm' es',h=>by
   unfold cH at h;simp only[R2,EO]at h;obtain⟨⟨⟨h1,h2,h3⟩,h4⟩,h5⟩:=h;rw[h1,h2,h3,h4,Vz h5]
theorem Vz:∀ {a b:List Ex},JT a b=true->a=b
 | [],[],_=>rfl
 | a::l,b::k,h=>by
   unfold JT at h;rw[R2]at h;rw[wT h.1,Vz h.2]
 | [],_::_,h=>by unfold JT at h;cases h
 |_::_,[],h=>by unfold JT at h;cases h
end
structure Cap (T:Tn):Prop where
 AG:T.AG.length<=100
 G7:T.G7.length<=100
 reqs:T.reqs.length<=100
 AQ:T.AQ.length<=100
 K7:T.K7.length<=100
 combo:∀ c∈T.K7,c.length<=100
end Go.Proofs.T
