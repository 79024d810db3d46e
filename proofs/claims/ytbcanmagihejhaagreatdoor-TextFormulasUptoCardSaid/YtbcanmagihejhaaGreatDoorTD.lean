/- A tender that is being read, and the line: what is held, what an append or a write leaves. -/
import Derived.Test.YtbcanmagihejhaaGreatDoorTC
set_option linter.unusedSimpArgs false
set_option linter.unusedVariables false
namespace Go.Proofs.T
open Go Go.Ab
set_option maxRecDepth 100000
def szT (i:Nat):Nat:=match i with
 | 0=>2
 | 1=>5
 | 2=>3
 | _=>1
def rowsT (T:Tn) (vs:List Value) (i:Nat):List (List Value):=match i with
 | 0=>T.lots.map Lot.row
 | 1=>T.crits.map Crit.row
 | 2=>T.reqs.map Req.row
 | 3=>T.ties.map fun s=>[str s]
 | _=>vs.map fun x=>[x]
def held (bt bx:Nat) (v:Nat->Value):List Nat:=List.range bt++bt::bx::(blks (v 0)++blks (v 1)++blks (v 2)++blks (v 3)++blks (v 4))
theorem mem_blks {v:Value}{c:Nat}:c∈blks v↔blkOf v=some c:=by
 unfold blks blkOf
 split <;> simp [eq_comm]
theorem mem_held {bt bx:Nat}{v:Nat->Value}{c:Nat}:c∈held bt bx v↔c=bt\/c=bx\/(∃ i,i<5/\blkOf (v i)=some c)\/c<bt:=by
 unfold held
 simp only [List.mem_cons,List.mem_append,mem_blks,List.mem_range]
 constructor
 ·rintro (h|h|h|((((h|h)|h)|h)|h))
  ·exact .inr (.inr (.inr h))
  ·exact .inl h
  ·exact .inr (.inl h)
  ·exact .inr (.inr (.inl ⟨0,om,h⟩))
  ·exact .inr (.inr (.inl ⟨1,om,h⟩))
  ·exact .inr (.inr (.inl ⟨2,om,h⟩))
  ·exact .inr (.inr (.inl ⟨3,om,h⟩))
  ·exact .inr (.inr (.inl ⟨4,om,h⟩))
 ·rintro (h|h|⟨i,hi,h⟩|h)
  ·exact .inr (.inl h)
  ·exact .inr (.inr (.inl h))
  ·match i,hi,h with
   | 0,_,h=>exact .inr (.inr (.inr (.inl (.inl (.inl (.inl h))))))
   | 1,_,h=>exact .inr (.inr (.inr (.inl (.inl (.inl (.inr h))))))
   | 2,_,h=>exact .inr (.inr (.inr (.inl (.inl (.inr h)))))
   | 3,_,h=>exact .inr (.inr (.inr (.inl (.inr h))))
   | 4,_,h=>exact .inr (.inr (.inr (.inr h)))
  ·exact .inl h
def tnR (T:Tn) (v:Nat->Value) (fc:List Value):List Value:=tnRow T.name (v 0) (v 1) (v 2) T.low T.high fc (v 3) T.most (v 4) T.budget T.t
structure Ln (ZL Z:St) (bt bx:Nat) (T:Tn) (tv:Value) (toks:List Tok) (k:Nat) (rest:List Value) (v:Nat->Value) (fc vs:List Value):Prop where
 ext:ExtX bt ZL Z
 btl:bt<ZL.n
 bxg:ZL.n<=bx
 row:Z.orow bt=some (tnR T v fc)
 sl:∀ i,i<5->OL ZL.n Z (szT i) (v i) (rowsT T vs i)
 dis:∀ i j c,i<5->j<5->i≠j->blkOf (v i)=some c->blkOf (v j)≠some c
 dx:∀ i,i<5->blkOf (v i)≠some bx
 fx:ExAt (hide Z (held bt bx v)) fc T.f
 iv:All2 (Ints (hide Z (held bt bx v))) vs T.combos
 sc:Sc Z bx tv toks k rest
 tk:∀ c,blkOf tv=some c->c≠bt/\∀ i,i<5->blkOf (v i)≠some c
section
variable {ZL Z Z':St} {bt bx:Nat} {T T':Tn} {tv:Value} {toks:List Tok} {k k':Nat} {rest rest':List Value} {v:Nat->Value} {fc fc' vs vs':List Value}
theorem Ln.ne (h:Ln ZL Z bt bx T tv toks k rest v fc vs):bt≠bx:=by have:=h.btl;have:=h.bxg;omega
theorem Ln.step (h:Ln ZL Z bt bx T tv toks k rest v fc vs) (hE:ExtX bx Z Z') (hr:Z'.orow bx=some (tv:: .int .i64 (k':Nat)::rest')) (hk:k'<toks.length):Ln ZL Z' bt bx T tv toks k' rest' v fc vs:=by
 have hkeep:Keep (hide Z (held bt bx v)) (hide Z' (held bt bx v)):=keep_hide hE.n fun c hc hm=>⟨hm,hE.row hc fun e=>hm (mem_held.2 (.inr (.inl e)))⟩
 have hbt:bt<Z.n:=Nat.lt_of_lt_of_le h.btl h.ext.n
 refine ⟨⟨Nat.le_trans h.ext.n hE.n,fun c hc hne=>?_⟩,h.btl,h.bxg,by rw [hE.orow hbt h.ne];exact h.row,fun i hi=>?_,h.dis,h.dx,h.fx.keep hkeep,h.iv.mono fun _ _ hx=>SL.keep hx hkeep,h.sc.extX hE hr hk,h.tk⟩
 ·rw [hE.same c (Nat.lt_of_lt_of_le hc h.ext.n) (by have:=h.bxg;omega),h.ext.same c hc hne]
 ·refine (h.sl i hi).keep hE.n fun c hc=>hE.same c ((h.sl i hi).blk hc).2 fun e=>h.dx i hi (by rw [hc,e])
theorem OL.upd_ne {lo size b:Nat}{w:Value}{rows:List (List Value)}{cs:List Value}(h:OL lo Z size w rows) (hb:b<lo):OL lo (Z.upd b cs) size w rows :=
 h.keep (Nat.le_refl _) fun c hc=>by rw [upd_get,if_neg (by have:=(h.blk hc).1;omega)]
theorem Sc.upd_ne {b:Nat}{cs:List Value}(h:Sc Z bx tv toks k rest) (hb:b≠bx) (ht:blkOf tv≠some b):Sc (Z.upd b cs) bx tv toks k rest :=
 ⟨by rw [orow_upd_ne (fun e=>hb e.symm)];exact h.row,h.lt,SL.keepX0 h.sl (p:=b) (ExtX.upd .refl _) ht,h.ne,h.k,h.len⟩
theorem keep_upd {bt bx:Nat}{v:Nat->Value}{cs:List Value}:Keep (hide Z (held bt bx v)) (hide (Z.upd bt cs) (held bt bx v)) :=
 keep_hide (Nat.le_refl _) fun c _ hm=>⟨hm,row_upd_ne fun e=>hm (mem_held.2 (.inl e))⟩
theorem Ln.put (h:Ln ZL Z bt bx T tv toks k rest v fc vs) (T':Tn) (h1:rowsT T' vs=rowsT T vs) (h2:T'.f=T.f) (h3:T'.combos=T.combos):Ln ZL (Z.upd bt (tnR T' v fc)) bt bx T' tv toks k rest v fc vs :=
 ⟨h.ext.upd _,h.btl,h.bxg,orow_upd_same,fun i hi=>by rw [h1];exact OL.upd_ne (h.sl i hi) h.btl,h.dis,h.dx,by rw [h2];exact h.fx.keep keep_upd,by rw [h3];exact h.iv.mono fun _ _ hx=>SL.keep hx keep_upd,
  h.sc.upd_ne h.ne fun e=>(h.tk bt e).1 rfl,h.tk⟩
theorem Ln.fml (h:Ln ZL Z bt bx T tv toks k rest v fc vs) {e:Ex} (hf:ExAt (hide Z (held bt bx v)) fc' e):Ln ZL (Z.upd bt (tnR { T with f:=e } v fc')) bt bx { T with f:=e } tv toks k rest v fc' vs :=
 ⟨h.ext.upd _,h.btl,h.bxg,orow_upd_same,fun i hi=>OL.upd_ne (h.sl i hi) h.btl,h.dis,h.dx,hf.keep keep_upd,h.iv.mono fun _ _ hx=>SL.keep hx keep_upd,
  h.sc.upd_ne h.ne fun e=>(h.tk bt e).1 rfl,h.tk⟩
def vup (v:Nat->Value) (i:Nat) (w:Value):Nat->Value:=fun j=>if j=i then w else v j
theorem vup_same {i:Nat}{w:Value}:vup v i w i=w:=if_pos rfl
theorem vup_ne {i j:Nat}{w:Value}(h:j≠i):vup v i w j=v j:=if_neg h
theorem Ln.app (h:Ln ZL Z bt bx T tv toks k rest v fc vs){i:Nat}(hi:i<5){w:Value}(ha:App Z Z' (v i) w) (ho:OL ZL.n Z' (szT i) w (rowsT T' vs' i))
  (hr:∀ j,j<5->j≠i->rowsT T' vs' j=rowsT T vs j) (hf:T'.f=T.f) (hv:All2 (Ints (hide Z (held bt bx v))) vs' T'.combos) :
  Ln ZL (Z'.upd bt (tnR T' (vup v i w) fc)) bt bx T' tv toks k rest (vup v i w) fc vs':=by
 have hbt:bt<Z.n:=Nat.lt_of_lt_of_le h.btl h.ext.n
 have hi':=h.sl i hi
 have hnew:∀ c,blkOf w=some c->Z.n<=c:=fun c hc=>(ha.new c hc).1
 have hkeep:Keep (hide Z (held bt bx v)) (hide (Z'.upd bt (tnR T' (vup v i w) fc)) (held bt bx (vup v i w))):=by
  refine keep_hide ha.n fun c hc hm=>⟨fun hm'=>?_,?_⟩
  ·rcases mem_held.1 hm' with e|e|⟨j,hj,e⟩|e
   ·exact hm (mem_held.2 (.inl e))
   ·exact hm (mem_held.2 (.inr (.inl e)))
   ·by_cases hji:j=i
    ·subst hji;rw [vup_same] at e;have:=hnew c e;omega
    ·rw [vup_ne hji] at e;exact hm (mem_held.2 (.inr (.inr (.inl ⟨j,hj,e⟩))))
   ·exact hm (mem_held.2 (.inr (.inr (.inr e))))
  ·rw [row_upd_ne fun e=>hm (mem_held.2 (.inl e))]
   exact row_congr (ha.same c hc fun e=>hm (mem_held.2 (.inr (.inr (.inl ⟨i,hi,e⟩)))))
 have hbx:blkOf (v i)≠some bx:=h.dx i hi
 have hsc:Sc Z' bx tv toks k rest:=by
  refine ⟨by rw [orow_congr (ha.same bx h.sc.lt hbx)];exact h.sc.row,Nat.lt_of_lt_of_le h.sc.lt ha.n,?_,h.sc.ne,h.sc.k,h.sc.len⟩
  rcases h.sc.sl with hs|⟨b,off,sp,c,cells,rfl,h2,h3,h4⟩
  ·exact .inl hs
  ·exact .inr ⟨b,off,sp,c,cells,rfl,Nat.lt_of_lt_of_le h2 ha.n,by rw [row_congr (ha.same b h2 ((h.tk b rfl).2 i hi))];exact h3,h4⟩
 refine ⟨⟨Nat.le_trans h.ext.n ha.n,fun c hc hne=>?_⟩,h.btl,h.bxg,orow_upd_same,fun j hj=>?_,?_,?_,by rw [hf];exact h.fx.keep hkeep,hv.mono fun _ _ hx=>SL.keep hx hkeep,hsc.upd_ne h.ne fun e=>(h.tk bt e).1 rfl,fun c hc=>⟨(h.tk c hc).1,fun j hj=>?_⟩⟩
 ·rw [upd_get,if_neg hne,ha.same c (Nat.lt_of_lt_of_le hc h.ext.n) (fun e=>by have:=(hi'.blk e).1;omega),h.ext.same c hc hne]
 ·refine OL.upd_ne ?_ h.btl
  by_cases hji:j=i
  ·subst hji;rw [vup_same];exact ho
  ·rw [vup_ne hji,hr j hj hji]
   exact (h.sl j hj).keep ha.n fun c hc=>ha.same c ((h.sl j hj).blk hc).2 fun e=>h.dis i j c hi hj (fun e=>hji e.symm) e hc
 ·intro a b c ha' hb' hab e
  by_cases hai:a=i
  ·subst hai
   rw [vup_same] at e
   rw [vup_ne (fun e=>hab e.symm)]
   intro e'
   have:=hnew c e
   have:=((h.sl b hb').blk e').2
   omega
  ·rw [vup_ne hai] at e
   by_cases hbi:b=i
   ·subst hbi
    rw [vup_same]
    intro e'
    have:=hnew c e'
    have:=((h.sl a ha').blk e).2
    omega
   ·rw [vup_ne hbi];exact h.dis a b c ha' hb' hab e
 ·intro j hj
  by_cases hji:j=i
  ·subst hji
   rw [vup_same]
   intro e
   have:=hnew bx e
   have:=h.sc.lt
   omega
  ·rw [vup_ne hji];exact h.dx j hj
 ·by_cases hji:j=i
  ·subst hji
   rw [vup_same]
   intro e
   have:=hnew c e
   have:=h.sc.sl
   rcases this with hs|⟨b,off,sp,cc,cells,rfl,h2,-⟩
   ·rw [hs.1] at hc;cases hc
   ·cases hc;omega
  ·rw [vup_ne hji];exact (h.tk c hc).2 j hj
end
end Go.Proofs.T
namespace Go.Proofs.T
open Go Go.Ab
set_option maxRecDepth 100000
abbrev Er:=Nat×Int
def thenR {α β:Type}(x:Except Er α) (f:α->Except Er β):Except Er β:=match x with
 | .ok a=>f a
 | .error e=> .error e
theorem thenR_ok {α β:Type}{a:α}{f:α->Except Er β}:thenR (.ok a) f=f a:=rfl
theorem thenR_er {α β:Type}{e:Er}{f:α->Except Er β}:thenR (.error e) f= .error e:=rfl
def tokA (toks:List Tok) (k:Nat):Tok:=toks.getD k ([],0)
theorem tokA_at {toks:List Tok}{k:Nat}(h:k<toks.length):toks[k]? =some (tokA toks k):=by
 unfold tokA;rw [List.getD_eq_getElem?_getD,List.getElem?_eq_getElem h];rfl
def rd1 {α:Type}(toks:List Tok) (k:Nat) (R:Except Int α):Except Er (α×Nat):=match R with
 | .ok a=> .ok (a,k+1)
 | .error e=> .error ((tokA toks k).2,e)
def Stk' {α:Type}(Z:St) (b:Nat) (v:Value) (toks:List Tok) (rest:List Value) (R:Except Er (α×Nat)) (f:α->Value) (r:CR):Prop:=match R with
 | .ok (a,k')=>∃ Z',r=⟨false,f a,Z'⟩/\ExtX b Z Z'/\Z'.orow b=some (v:: .int .i64 (k':Nat)::rest)/\k'<toks.length
 | .error (p,e)=>∃ Z',r=⟨true,fault p e,Z'⟩/\Ext Z Z'
theorem Stp.k {α:Type}{Z:St}{b:Nat}{v:Value}{toks:List Tok}{k:Nat}{rest:List Value}{R:Except Int α}{f:α->Value}{r:CR}(h:Stp Z b v toks k rest (tokA toks k) R f r):Stk' Z b v toks rest (rd1 toks k R) f r:=by
 cases R with
 | ok a=>exact h
 | error e=>exact h
section
variable {Z:St} {b:Nat} {v:Value} {toks:List Tok} {k:Nat} {rest:List Value}
end
section
variable {Z ZL:St} {bt bx:Nat} {T:Tn} {tv:Value} {toks:List Tok} {k:Nat} {tx:By} {from':Nat} {v:Nat->Value} {fc vs:List Value}
theorem as_newb {bs:List Nat}{i j b o n:Nat}{a:St}{l:List Value}{ds:List Ab.Trace}:allSame bs i ⟨b,o,n⟩ (.eff j a (a.new l)::ds)=allSame bs i ⟨b,o,n⟩ ds:=as_eff fun h=>(Ext.new a l).same b h
theorem as_upd {bs:List Nat}{i j b o n c:Nat}{a:St}{l:List Value}{ds:List Ab.Trace}(h:b≠c):allSame bs i ⟨b,o,n⟩ (.eff j a (a.upd c l)::ds)=allSame bs i ⟨b,o,n⟩ ds:=as_eff fun _=>by show (a.upd c l).h.get b=_;rw [upd_get,if_neg h]
theorem as_ord {bs:List Nat}{i j:Nat}{r:RowAt}{a b:St}{ds:List Ab.Trace}(h:ordered bs i j=true):allSame bs i r (.eff j a b::ds)=allSame bs i r ds:=by
 show bi (bi (ordered bs i j) true (bi (Nat.blt r.b a.n) (bi (Nat.beq (a.ver r.b) (b.ver r.b)) true (sameRow (a.read r.b r.off r.n) (b.read r.b r.off r.n))) true)) (allSame bs i r ds) false=_
 rw [h];rfl
theorem as_e {bs:List Nat}{i j q o n:Nat}{a b:St}{ds:List Ab.Trace}(hE:Ext a b):allSame bs i ⟨q,o,n⟩ (.eff j a b::ds)=allSame bs i ⟨q,o,n⟩ ds:=as_eff fun h=>hE.same q h
theorem as_x {bs:List Nat}{i j p q o n:Nat}{a b:St}{ds:List Ab.Trace}(hE:ExtX p a b) (h:q≠p):allSame bs i ⟨q,o,n⟩ (.eff j a b::ds)=allSame bs i ⟨q,o,n⟩ ds:=as_eff fun hl=>hE.same q hl h
theorem fc5 {Z:St}{fc:List Value}{e:Ex}(h:ExAt Z fc e):∃ c1 c2 c3 c4 c5,fc=[c1,c2,c3,c4,c5]:=by
 cases e with
 | mk op n d nm args =>
   obtain ⟨v,rows,h1,-⟩:=h
   exact ⟨_,_,_,_,_,h1⟩
end
end Go.Proofs.T
namespace Go.Proofs.T
open Go Go.Ab
set_option maxRecDepth 100000
section
variable {Z ZL:St} {bt bx:Nat} {T:Tn} {tv:Value} {toks:List Tok} {k:Nat} {tx:By} {from':Nat} {v:Nat->Value} {fc vs:List Value}
end
end Go.Proofs.T
namespace Go.Proofs.T
open Go Go.Ab
set_option maxRecDepth 100000
section
variable {Z ZL:St} {bt bx:Nat} {T:Tn} {tv:Value} {toks:List Tok} {k:Nat} {tx:By} {from':Nat} {v:Nat->Value} {fc vs:List Value}
end
end Go.Proofs.T
namespace Go.Proofs.T
open Go Go.Ab
set_option maxRecDepth 100000
section
variable {Z ZL:St} {bt bx:Nat} {T:Tn} {tv:Value} {toks:List Tok} {k:Nat} {tx:By} {from':Nat} {v:Nat->Value} {fc vs:List Value}
def gradeB:By:=[103,114,97,100,101]
def offerB:By:=[111,102,102,101,114]
def lessB:By:=[108,101,115,115]
end
end Go.Proofs.T
namespace Go.Proofs.T
open Go Go.Ab
set_option maxRecDepth 100000
section
variable {Z ZL:St} {bt bx:Nat} {T:Tn} {tv:Value} {toks:List Tok} {k:Nat} {tx:By} {from':Nat} {v:Nat->Value} {fc vs:List Value}
def priceB:By:=[112,114,105,99,101]
end
end Go.Proofs.T
namespace Go.Proofs.T
open Go Go.Ab
set_option maxRecDepth 100000
section
variable {Z:St}
end
section
variable {Z ZL:St} {bt bx:Nat} {T:Tn} {tv:Value} {toks:List Tok} {k:Nat} {tx:By} {from':Nat} {v:Nat->Value} {fc vs:List Value}
end
end Go.Proofs.T
namespace Go.Proofs.T
open Go Go.Ab
set_option maxRecDepth 100000
section
variable {Z ZL:St} {bt bx:Nat} {T:Tn} {tv:Value} {toks:List Tok} {k:Nat} {tx:By} {from':Nat} {v:Nat->Value} {fc vs:List Value}
end
end Go.Proofs.T
