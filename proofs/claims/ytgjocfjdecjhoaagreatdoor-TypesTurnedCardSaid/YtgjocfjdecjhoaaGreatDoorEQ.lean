/- Ao1 of ID: lists, Y6, text.Equal. -/
import Derived.Test.YtgjocfjdecjhoaaGreatDoorRC
set_option linter.unusedSimpArgs false
set_option linter.unusedVariables false
set_option linter.defProp false
set_option maxHeartbeats 32000000
set_option maxRecDepth 100000
namespace Go.Proofs.T
open Go Go.Ab
section
variable {x y:Operand}
end
mutual
def aV:Ex->Ex->Bool
 | .mk o n d nm es,.mk o' n' d' nm' es'=>decide (o=o')&&(decide (n=n')&&decide (d=d'))&&decide (nm=nm')&&Ir es es'
def Ir:List Ex->List Ex->Bool
 | [],[]=>true
 |a::es,b::fs=>aV a b&&Ir es fs
 | [],_::_=>false
 |_::_,[]=>false
end
mutual
theorem eg:∀ a:Ex,aV a a=true
 | .mk o n d nm es=>by unfold aV;rw[PA es];simp
theorem PA:∀ es:List Ex,Ir es es=true
 | []=>by unfold Ir;rfl
 |a::es=>by unfold Ir;rw[eg a,PA es];rfl
end
def Cb.slice {Z:St}{v:Value}{B9:List (List Value)}{es:List Ex}(h:SL Z 5 v B9) (hx:Cb Z B9 es):∃ a c b off cells,v= .slice a es.length c/\(0<es.length->∃ sp,a=some ⟨b,off,sp⟩/\b<Z.n/\Z.row b=some cells) /\
  ∀ k e,es[k]? =some e->∃ row,sub cells (off+k*5) 5=some row/\P6 Z row e:=by
 obtain⟨a,c,b,off,cells,h1,h2,h3⟩:=SL.use h;rw[hx.len]at h1 h2;refine⟨a,c,b,off,cells,h1,h2,fun k e he=>?_⟩;obtain⟨hlt,_⟩:=List.getElem?_eq_some_iff.1 he;obtain⟨row,hr⟩:=H5 (l:=B9) (k:=k) (by rw[hx.len];exact hlt);exact⟨row,h3 k row hr,hx.get hr he⟩
mutual
theorem tt:∀ {a b:Ex},aV a b=true->a=b
 | .mk o n d nm es,.mk o' n' d' nm' es',h=>by
   unfold aV at h;simp only[Q7,Dn]at h;obtain⟨⟨⟨h1,h2,h3⟩,h4⟩,h5⟩:=h;rw[h1,h2,h3,h4,Ul h5]
theorem Ul:∀ {a b:List Ex},Ir a b=true->a=b
 | [],[],_=>rfl
 | a::l,b::k,h=>by
   unfold Ir at h;rw[Q7]at h;rw[tt h.1,Ul h.2]
 | [],_::_,h=>by unfold Ir at h;cases h
 |_::_,[],h=>by unfold Ir at h;cases h
end
structure Cap (T:Tn):Prop where
 u9:T.u9.length<=100
 G9:T.G9.length<=100
 reqs:T.reqs.length<=100
 AJ:T.AJ.length<=100
 J9:T.J9.length<=100
 combo:∀ c∈T.J9,c.length<=100
end Go.Proofs.T
