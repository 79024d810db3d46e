/- A tender that is being read, and the line: what is held, what an append or a write leaves. -/
import Derived.Test.YtbcanmagihejhaaGreatDoorTC
set_option linter.unusedSimpArgs false
set_option linter.unusedVariables false
namespace Go.Proofs.T
open Go Go.Ab
set_option maxRecDepth 100000
def szT (i:Nat):Nat:=match i with
 | 0=>2
 | 1=>5
 | 2=>3
 | _=>1
def rowsT (T:Tn) (vs:List Value) (i:Nat):List (List Value):=match i with
 | 0=>T.lots.map Lot.row
 | 1=>T.crits.map Crit.row
 | 2=>T.reqs.map Req.row
 | 3=>T.ties.map fun s=>[str s]
 | _=>vs.map fun x=>[x]
def held (bt bx:Nat) (v:Nat->Value):List Nat:=List.range bt++bt::bx::(blks (v 0)++blks (v 1)++blks (v 2)++blks (v 3)++blks (v 4))
theorem mem_blks {v:Value}{c:Nat}:c∈blks v↔blkOf v=some c:=by
 unfold blks blkOf
 split <;> simp [eq_comm]
theorem mem_held {bt bx:Nat}{v:Nat->Value}{c:Nat}:c∈held bt bx v↔c=bt\/c=bx\/(∃ i,i<5/\blkOf (v i)=some c)\/c<bt:=by
 unfold held
 simp only [List.mem_cons,List.mem_append,mem_blks,List.mem_range]
 constructor
 ·rintro (h|h|h|((((h|h)|h)|h)|h))
  ·exact .inr (.inr (.inr h))
  ·exact .inl h
  ·exact .inr (.inl h)
  ·exact .inr (.inr (.inl ⟨0,om,h⟩))
  ·exact .inr (.inr (.inl ⟨1,om,h⟩))
  ·exact .inr (.inr (.inl ⟨2,om,h⟩))
  ·exact .inr (.inr (.inl ⟨3,om,h⟩))
  ·exact .inr (.inr (.inl ⟨4,om,h⟩))
 ·rintro (h|h|⟨i,hi,h⟩|h)
  ·exact .inr (.inl h)
  ·exact .inr (.inr (.inl h))
  ·match i,hi,h with
   | 0,_,h=>exact .inr (.inr (.inr (.inl (.inl (.inl (.inl h))))))
   | 1,_,h=>exact .inr (.inr (.inr (.inl (.inl (.inl (.inr h))))))
   | 2,_,h=>exact .inr (.inr (.inr (.inl (.inl (.inr h)))))
   | 3,_,h=>exact .inr (.inr (.inr (.inl (.inr h))))
   | 4,_,h=>exact .inr (.inr (.inr (.inr h)))
  ·exact .inl h
def tnR (T:Tn) (v:Nat->Value) (fc:List Value):List Value:=tnRow T.name (v 0) (v 1) (v 2) T.low T.high fc (v 3) T.most (v 4) T.budget T.t
structure Ln (ZL Z:St) (bt bx:Nat) (T:Tn) (tv:Value) (toks:List Tok) (k:Nat) (rest:List Value) (v:Nat->Value) (fc vs:List Value):Prop where
 ext:ExtX bt ZL Z
 btl:bt<ZL.n
 bxg:ZL.n<=bx
 row:Z.orow bt=some (tnR T v fc)
 sl:∀ i,i<5->OL ZL.n Z (szT i) (v i) (rowsT T vs i)
 dis:∀ i j c,i<5->j<5->i≠j->blkOf (v i)=some c->blkOf (v j)≠some c
 dx:∀ i,i<5->blkOf (v i)≠some bx
 fx:ExAt (hide Z (held bt bx v)) fc T.f
 iv:All2 (Ints (hide Z (held bt bx v))) vs T.combos
 sc:Sc Z bx tv toks k rest
 tk:∀ c,blkOf tv=some c->c≠bt/\∀ i,i<5->blkOf (v i)≠some c
section
variable {ZL Z Z':St} {bt bx:Nat} {T T':Tn} {tv:Value} {toks:List Tok} {k k':Nat} {rest rest':List Value} {v:Nat->Value} {fc fc' vs vs':List Value}
theorem Ln.ne (h:Ln ZL Z bt bx T tv toks k rest v fc vs):bt≠bx:=by have:=h.btl;have:=h.bxg;omega
theorem Ln.step (h:Ln ZL Z bt bx T tv toks k rest v fc vs) (hE:ExtX bx Z Z') (hr:Z'.orow bx=some (tv:: .int .i64 (k':Nat)::rest')) (hk:k'<toks.length):Ln ZL Z' bt bx T tv toks k' rest' v fc vs:=by
 have hkeep:Keep (hide Z (held bt bx v)) (hide Z' (held bt bx v)):=keep_hide hE.n fun c hc hm=>⟨hm,hE.row hc fun e=>hm (mem_held.2 (.inr (.inl e)))⟩
 have hbt:bt<Z.n:=Nat.lt_of_lt_of_le h.btl h.ext.n
 refine ⟨⟨Nat.le_trans h.ext.n hE.n,fun c hc hne=>?_⟩,h.btl,h.bxg,by rw [hE.orow hbt h.ne];exact h.row,fun i hi=>?_,h.dis,h.dx,h.fx.keep hkeep,h.iv.mono fun _ _ hx=>SL.keep hx hkeep,h.sc.extX hE hr hk,h.tk⟩
 ·rw [hE.same c (Nat.lt_of_lt_of_le hc h.ext.n) (by have:=h.bxg;omega),h.ext.same c hc hne]
 ·refine (h.sl i hi).keep hE.n fun c hc=>hE.same c ((h.sl i hi).blk hc).2 fun e=>h.dx i hi (by rw [hc,e])
theorem Ln.stepE (h:Ln ZL Z bt bx T tv toks k rest v fc vs) (hE:Ext Z Z'):Ln ZL Z' bt bx T tv toks k rest v fc vs :=
 h.step (.of hE) (by rw [orow_congr (hE.same bx h.sc.lt)];exact h.sc.row) h.sc.k
theorem OL.upd_ne {lo size b:Nat}{w:Value}{rows:List (List Value)}{cs:List Value}(h:OL lo Z size w rows) (hb:b<lo):OL lo (Z.upd b cs) size w rows :=
 h.keep (Nat.le_refl _) fun c hc=>by rw [upd_get,if_neg (by have:=(h.blk hc).1;omega)]
theorem Sc.upd_ne {b:Nat}{cs:List Value}(h:Sc Z bx tv toks k rest) (hb:b≠bx) (ht:blkOf tv≠some b):Sc (Z.upd b cs) bx tv toks k rest :=
 ⟨by rw [orow_upd_ne (fun e=>hb e.symm)];exact h.row,h.lt,SL.keepX0 h.sl (p:=b) (ExtX.upd .refl _) ht,h.ne,h.k,h.len⟩
theorem keep_upd {bt bx:Nat}{v:Nat->Value}{cs:List Value}:Keep (hide Z (held bt bx v)) (hide (Z.upd bt cs) (held bt bx v)) :=
 keep_hide (Nat.le_refl _) fun c _ hm=>⟨hm,row_upd_ne fun e=>hm (mem_held.2 (.inl e))⟩
theorem Ln.put (h:Ln ZL Z bt bx T tv toks k rest v fc vs) (T':Tn) (h1:rowsT T' vs=rowsT T vs) (h2:T'.f=T.f) (h3:T'.combos=T.combos):Ln ZL (Z.upd bt (tnR T' v fc)) bt bx T' tv toks k rest v fc vs :=
 ⟨h.ext.upd _,h.btl,h.bxg,orow_upd_same,fun i hi=>by rw [h1];exact OL.upd_ne (h.sl i hi) h.btl,h.dis,h.dx,by rw [h2];exact h.fx.keep keep_upd,by rw [h3];exact h.iv.mono fun _ _ hx=>SL.keep hx keep_upd,
  h.sc.upd_ne h.ne fun e=>(h.tk bt e).1 rfl,h.tk⟩
theorem Ln.fml (h:Ln ZL Z bt bx T tv toks k rest v fc vs) {e:Ex} (hf:ExAt (hide Z (held bt bx v)) fc' e):Ln ZL (Z.upd bt (tnR { T with f:=e } v fc')) bt bx { T with f:=e } tv toks k rest v fc' vs :=
 ⟨h.ext.upd _,h.btl,h.bxg,orow_upd_same,fun i hi=>OL.upd_ne (h.sl i hi) h.btl,h.dis,h.dx,hf.keep keep_upd,h.iv.mono fun _ _ hx=>SL.keep hx keep_upd,
  h.sc.upd_ne h.ne fun e=>(h.tk bt e).1 rfl,h.tk⟩
def vup (v:Nat->Value) (i:Nat) (w:Value):Nat->Value:=fun j=>if j=i then w else v j
theorem vup_same {i:Nat}{w:Value}:vup v i w i=w:=if_pos rfl
theorem vup_ne {i j:Nat}{w:Value}(h:j≠i):vup v i w j=v j:=if_neg h
theorem Ln.app (h:Ln ZL Z bt bx T tv toks k rest v fc vs){i:Nat}(hi:i<5){w:Value}(ha:App Z Z' (v i) w) (ho:OL ZL.n Z' (szT i) w (rowsT T' vs' i))
  (hr:∀ j,j<5->j≠i->rowsT T' vs' j=rowsT T vs j) (hf:T'.f=T.f) (hv:All2 (Ints (hide Z (held bt bx v))) vs' T'.combos) :
  Ln ZL (Z'.upd bt (tnR T' (vup v i w) fc)) bt bx T' tv toks k rest (vup v i w) fc vs':=by
 have hbt:bt<Z.n:=Nat.lt_of_lt_of_le h.btl h.ext.n
 have hi':=h.sl i hi
 have hnew:∀ c,blkOf w=some c->Z.n<=c:=fun c hc=>(ha.new c hc).1
 have hkeep:Keep (hide Z (held bt bx v)) (hide (Z'.upd bt (tnR T' (vup v i w) fc)) (held bt bx (vup v i w))):=by
  refine keep_hide ha.n fun c hc hm=>⟨fun hm'=>?_,?_⟩
  ·rcases mem_held.1 hm' with e|e|⟨j,hj,e⟩|e
   ·exact hm (mem_held.2 (.inl e))
   ·exact hm (mem_held.2 (.inr (.inl e)))
   ·by_cases hji:j=i
    ·subst hji;rw [vup_same] at e;have:=hnew c e;omega
    ·rw [vup_ne hji] at e;exact hm (mem_held.2 (.inr (.inr (.inl ⟨j,hj,e⟩))))
   ·exact hm (mem_held.2 (.inr (.inr (.inr e))))
  ·rw [row_upd_ne fun e=>hm (mem_held.2 (.inl e))]
   exact row_congr (ha.same c hc fun e=>hm (mem_held.2 (.inr (.inr (.inl ⟨i,hi,e⟩)))))
 have hbx:blkOf (v i)≠some bx:=h.dx i hi
 have hsc:Sc Z' bx tv toks k rest:=by
  refine ⟨by rw [orow_congr (ha.same bx h.sc.lt hbx)];exact h.sc.row,Nat.lt_of_lt_of_le h.sc.lt ha.n,?_,h.sc.ne,h.sc.k,h.sc.len⟩
  rcases h.sc.sl with hs|⟨b,off,sp,c,cells,rfl,h2,h3,h4⟩
  ·exact .inl hs
  ·exact .inr ⟨b,off,sp,c,cells,rfl,Nat.lt_of_lt_of_le h2 ha.n,by rw [row_congr (ha.same b h2 ((h.tk b rfl).2 i hi))];exact h3,h4⟩
 refine ⟨⟨Nat.le_trans h.ext.n ha.n,fun c hc hne=>?_⟩,h.btl,h.bxg,orow_upd_same,fun j hj=>?_,?_,?_,by rw [hf];exact h.fx.keep hkeep,hv.mono fun _ _ hx=>SL.keep hx hkeep,hsc.upd_ne h.ne fun e=>(h.tk bt e).1 rfl,fun c hc=>⟨(h.tk c hc).1,fun j hj=>?_⟩⟩
 ·rw [upd_get,if_neg hne,ha.same c (Nat.lt_of_lt_of_le hc h.ext.n) (fun e=>by have:=(hi'.blk e).1;omega),h.ext.same c hc hne]
 ·refine OL.upd_ne ?_ h.btl
  by_cases hji:j=i
  ·subst hji;rw [vup_same];exact ho
  ·rw [vup_ne hji,hr j hj hji]
   exact (h.sl j hj).keep ha.n fun c hc=>ha.same c ((h.sl j hj).blk hc).2 fun e=>h.dis i j c hi hj (fun e=>hji e.symm) e hc
 ·intro a b c ha' hb' hab e
  by_cases hai:a=i
  ·subst hai
   rw [vup_same] at e
   rw [vup_ne (fun e=>hab e.symm)]
   intro e'
   have:=hnew c e
   have:=((h.sl b hb').blk e').2
   omega
  ·rw [vup_ne hai] at e
   by_cases hbi:b=i
   ·subst hbi
    rw [vup_same]
    intro e'
    have:=hnew c e'
    have:=((h.sl a ha').blk e).2
    omega
   ·rw [vup_ne hbi];exact h.dis a b c ha' hb' hab e
 ·intro j hj
  by_cases hji:j=i
  ·subst hji
   rw [vup_same]
   intro e
   have:=hnew bx e
   have:=h.sc.lt
   omega
  ·rw [vup_ne hji];exact h.dx j hj
 ·by_cases hji:j=i
  ·subst hji
   rw [vup_same]
   intro e
   have:=hnew c e
   have:=h.sc.sl
   rcases this with hs|⟨b,off,sp,cc,cells,rfl,h2,-⟩
   ·rw [hs.1] at hc;cases hc
   ·cases hc;omega
  ·rw [vup_ne hji];exact (h.tk c hc).2 j hj
end
end Go.Proofs.T
namespace Go.Proofs.T
open Go Go.Ab
open Nat (reduceMul reduceEqDiff reduceAdd)
set_option maxRecDepth 100000
abbrev Er:=Nat×Int
def thenR {α β:Type}(x:Except Er α) (f:α->Except Er β):Except Er β:=match x with
 | .ok a=>f a
 | .error e=> .error e
theorem thenR_ok {α β:Type}{a:α}{f:α->Except Er β}:thenR (.ok a) f=f a:=rfl
theorem thenR_er {α β:Type}{e:Er}{f:α->Except Er β}:thenR (.error e) f= .error e:=rfl
def tokA (toks:List Tok) (k:Nat):Tok:=toks.getD k ([],0)
theorem tokA_at {toks:List Tok}{k:Nat}(h:k<toks.length):toks[k]? =some (tokA toks k):=by
 unfold tokA;rw [List.getD_eq_getElem?_getD,List.getElem?_eq_getElem h];rfl
def rd1 {α:Type}(toks:List Tok) (k:Nat) (R:Except Int α):Except Er (α×Nat):=match R with
 | .ok a=> .ok (a,k+1)
 | .error e=> .error ((tokA toks k).2,e)
def rdNum (toks:List Tok) (least:Int) (nw:Int->Bool) (k:Nat):Except Er (Nat×Nat):=rd1 toks k (numR least nw (tokA toks k).1)
def rdPlain (toks:List Tok) (k:Nat):Except Er (Nat×Nat):=rdNum toks 0 (fun _=>true) k
def rdOne (toks:List Tok) (ws:List By) (k:Nat):Except Er (By×Nat):=rd1 toks k (if ws.contains (tokA toks k).1 then .ok (tokA toks k).1 else .error 12)
def rdWord (toks:List Tok) (k:Nat):Except Er By:=if wordB (tokA toks k).1 then .ok (tokA toks k).1 else .error ((tokA toks k).2,12)
def Stk' {α:Type}(Z:St) (b:Nat) (v:Value) (toks:List Tok) (rest:List Value) (R:Except Er (α×Nat)) (f:α->Value) (r:CR):Prop:=match R with
 | .ok (a,k')=>∃ Z',r=⟨false,f a,Z'⟩/\ExtX b Z Z'/\Z'.orow b=some (v:: .int .i64 (k':Nat)::rest)/\k'<toks.length
 | .error (p,e)=>∃ Z',r=⟨true,fault p e,Z'⟩/\Ext Z Z'
theorem Stp.k {α:Type}{Z:St}{b:Nat}{v:Value}{toks:List Tok}{k:Nat}{rest:List Value}{R:Except Int α}{f:α->Value}{r:CR}(h:Stp Z b v toks k rest (tokA toks k) R f r):Stk' Z b v toks rest (rd1 toks k R) f r:=by
 cases R with
 | ok a=>exact h
 | error e=>exact h
section
variable {Z:St} {b:Nat} {v:Value} {toks:List Tok} {k:Nat} {rest:List Value}
theorem plainK (h:Sc Z b v toks k rest) (hends:Ends toks) (hsh:Short toks) :
  Ev (go Tryz.prog HS (.fn 159) [.pointer (some ⟨b,0,none⟩)] Z) (Stk' Z b v toks rest (rdPlain toks k) natV) ⟨⟩:=(plain_ok h hends hsh (tokA_at h.k)).mono fun _ h=>h.k
theorem oneK {ws:Value}{l:List By}(h:Sc Z b v toks k rest) (hends:Ends toks) (hw:Strs Z ws l) (hl:l.length<=10) (hne:[]∉l) :
  Ev (go Tryz.prog HS (.fn 158) [.pointer (some ⟨b,0,none⟩),ws] Z) (Stk' Z b v toks rest (rdOne toks l k) str) ⟨⟩:=(one_ok h hends (tokA_at h.k) hw hl hne).mono fun _ h=>h.k
theorem numberK (h:Sc Z b v toks k rest) (hends:Ends toks) (hsh:Short toks)
  {g:Nat} {fs cs:List Value} {nw:Int->Bool} {least:Int} (hnw:∀ (Z':St) (n:Nat),Ext Z Z'->n<=1000000000->Ev (go Tryz.prog HS (.fn g) (fs++[.int .i64 n]++cs) Z') (fun r=>∃ Z2,r=⟨false,.bool (nw n),Z2⟩/\Ext Z' Z2) ⟨⟩) :
  Ev (go Tryz.prog HS (.fn 154) [.pointer (some ⟨b,0,none⟩),.int .i64 least,.func (.func g) ⟨fs⟩ ⟨cs⟩] Z) (Stk' Z b v toks rest (rdNum toks least nw k) natV) ⟨⟩ :=
 (number_ok h hends hsh (tokA_at h.k) hnw).mono fun r h=>Stp.k (by unfold Stp;revert h;cases numR least nw (tokA toks k).1 <;> exact id)
end
def LnP (ZL:St) (bt bx:Nat) (tv:Value) (toks:List Tok) (rest:List Value) (R:Except Er (Tn×Nat)) (r:CR):Prop:=match R with
 | .ok (T,k)=>∃ Z' v fc vs,r=⟨false,.tuple ⟨[]⟩,Z'⟩/\Ln ZL Z' bt bx T tv toks k rest v fc vs
 | .error (p,e)=>∃ Z',r=⟨true,fault p e,Z'⟩/\ExtX bt ZL Z'
def lotS (toks:List Tok) (T:Tn) (k:Nat):Except Er (Tn×Nat) :=
 thenR (rdNum toks 1 (fun n=> !(T.lots.any fun l=>decide (l.id=n))) k) fun (id,k)=>thenR (rdOne toks [[109,111,115,116]] k) fun (_,k)=>thenR (rdPlain toks k) fun (m,k)=> .ok ({ T with lots:=T.lots++[⟨id,m⟩] },k)
section
variable {Z ZL:St} {bt bx:Nat} {T:Tn} {tv:Value} {toks:List Tok} {k:Nat} {tx:By} {from':Nat} {v:Nat->Value} {fc vs:List Value}
theorem as_newb {bs:List Nat}{i j b o n:Nat}{a:St}{l:List Value}{ds:List Ab.Trace}:allSame bs i ⟨b,o,n⟩ (.eff j a (a.new l)::ds)=allSame bs i ⟨b,o,n⟩ ds:=as_eff fun h=>(Ext.new a l).same b h
theorem as_upd {bs:List Nat}{i j b o n c:Nat}{a:St}{l:List Value}{ds:List Ab.Trace}(h:b≠c):allSame bs i ⟨b,o,n⟩ (.eff j a (a.upd c l)::ds)=allSame bs i ⟨b,o,n⟩ ds:=as_eff fun _=>by show (a.upd c l).h.get b=_;rw [upd_get,if_neg h]
theorem as_ord {bs:List Nat}{i j:Nat}{r:RowAt}{a b:St}{ds:List Ab.Trace}(h:ordered bs i j=true):allSame bs i r (.eff j a b::ds)=allSame bs i r ds:=by
 show bi (bi (ordered bs i j) true (bi (Nat.blt r.b a.n) (bi (Nat.beq (a.ver r.b) (b.ver r.b)) true (sameRow (a.read r.b r.off r.n) (b.read r.b r.off r.n))) true)) (allSame bs i r ds) false=_
 rw [h];rfl
theorem as_e {bs:List Nat}{i j q o n:Nat}{a b:St}{ds:List Ab.Trace}(hE:Ext a b):allSame bs i ⟨q,o,n⟩ (.eff j a b::ds)=allSame bs i ⟨q,o,n⟩ ds:=as_eff fun h=>hE.same q h
theorem as_x {bs:List Nat}{i j p q o n:Nat}{a b:St}{ds:List Ab.Trace}(hE:ExtX p a b) (h:q≠p):allSame bs i ⟨q,o,n⟩ (.eff j a b::ds)=allSame bs i ⟨q,o,n⟩ ds:=as_eff fun hl=>hE.same q hl h
theorem as_app {bs:List Nat}{i j q o n:Nat}{a b:St}{v w:Value}{ds:List Ab.Trace}(hE:App a b v w) (h:blkOf v≠some q):allSame bs i ⟨q,o,n⟩ (.eff j a b::ds)=allSame bs i ⟨q,o,n⟩ ds:=as_eff fun hl=>hE.same q hl h
theorem as_cells {bs:List Nat}{i j q o n:Nat}{a b:St}{ds:List Ab.Trace}(h:sameRow (a.read q o n) (b.read q o n)=true):allSame bs i ⟨q,o,n⟩ (.eff j a b::ds)=allSame bs i ⟨q,o,n⟩ ds:=by
 show bi (bi (ordered bs i j) true (bi (Nat.blt q a.n) (bi (Nat.beq (a.ver q) (b.ver q)) true (sameRow (a.read q o n) (b.read q o n))) true)) (allSame bs i ⟨q,o,n⟩ ds) false=_
 rw [h]
 cases ordered bs i j <;> cases Nat.blt q a.n <;> cases Nat.beq (a.ver q) (b.ver q) <;> rfl
theorem same_ptr {c:Nat}:sameRow (some [.pointer (some ⟨c,0,none⟩)]) (some [.pointer (some ⟨c,0,none⟩)])=true:=by
 show bi (veq _ _) true false=true
 unfold veq
 simp
def restL (tx:By) (from' bt:Nat):List Value:=[str tx,.int .i64 (from':Nat),.pointer (some ⟨bt,0,none⟩)]
theorem Ln.rt (h:Ln ZL Z bt bx T tv toks k (restL tx from' bt) v fc vs):Z.read bx 4 1=some [.pointer (some ⟨bt,0,none⟩)]:=by
 rw [read_eq,row_of h.sc.row];rfl
theorem as_bt {Z':St}{T':Tn}{k':Nat}{v':Nat->Value}{fc' vs':List Value}{bs:List Nat}{i j:Nat}{ds:List Ab.Trace}(h:Ln ZL Z bt bx T tv toks k (restL tx from' bt) v fc vs) (h':Ln ZL Z' bt bx T' tv toks k' (restL tx from' bt) v' fc' vs') :
  allSame bs i ⟨bx,4,1⟩ (.eff j Z Z'::ds)=allSame bs i ⟨bx,4,1⟩ ds:=as_cells (by rw [h.rt,h'.rt];exact same_ptr)
theorem fc5 {Z:St}{fc:List Value}{e:Ex}(h:ExAt Z fc e):∃ c1 c2 c3 c4 c5,fc=[c1,c2,c3,c4,c5]:=by
 cases e with
 | mk op n d nm args =>
   obtain ⟨v,rows,h1,-⟩:=h
   exact ⟨_,_,_,_,_,h1⟩
theorem lotsame_ok {Z:St}{x:Lot}{n:Int}{bn:Nat}(hn:Z.row bn=some [.int .i64 n]) (hb:bn<Z.n) :
  Ev (go Tryz.prog HS (.fn 157) [.agg ⟨x.row⟩,.pointer (some ⟨bn,0,none⟩)] Z) (fun r=>∃ Z2,r=⟨false,.bool (decide (x.id=n)),Z2⟩/\Ext Z Z2) ⟨⟩:=by
 refine ev_go Tryz.func157 rfl rfl ?_
 rw [show x.row=[.int .i64 x.id,.int .i64 x.most] from rfl]
 refine gS1 (aI @hn @Tryz.results157) ?_
 exact ⟨_,rfl,eX⟩
theorem lotnew_ok {bp:Nat}{n:Nat}(h:Ln ZL Z bt bx T tv toks k (restL tx from' bt) v fc vs) (hp:Z.row bp=some [.pointer (some ⟨bx,0,none⟩)]) (hb:bp<Z.n) (hlen:T.lots.length<=4294967296) :
  Ev (go Tryz.prog HS (.fn 155) [.int .i64 (n:Nat),.pointer (some ⟨bp,0,none⟩)] Z) (fun r=>∃ Z2,r=⟨false,.bool (!(T.lots.any fun l=>decide (l.id=(n:Int)))),Z2⟩/\Ext Z Z2) ⟨⟩:=by
 refine ev_go Tryz.func155 rfl rfl ?_
 have hx:=row_of h.sc.row
 have ht:=row_of h.row
 obtain ⟨c1,c2,c3,c4,c5,rfl⟩:=fc5 h.fx
 have hbx:=h.sc.lt
 have hbt:=Nat.lt_of_lt_of_le h.btl h.ext.n
 unfold restL at hx
 unfold tnR tnRow at ht
 have h0:=h.sl 0 om
 obtain ⟨a,ha⟩:=OL.shape h0
 rw [ha] at ht h0
 refine gS1 (aI @hp (aI @hx @ht)) ?_
 have h0':SL _ 2 _ (T.lots.map Lot.row):=OL.sl (OL.ext h0 (Ext.new (t:=none) Z [.int .i64 (n:Nat)]))
 refine (has_lots (p:=fun l=>decide (l.id=(n:Int))) (by rw [show (rowsT T vs 0).length=T.lots.length from by show (T.lots.map _).length=_;rw [List.length_map]] at *;exact h0') hlen fun Z' x hE _=>?_).mono ?_
 ·refine lotsame_ok (bn:=Z.n) ?_ ?_
  ·rw [hE.row (by simp)];exact cL
  ·have:=hE.n;simp at this;omega
 rintro r ⟨Z2,rfl,hE2⟩
 refine gS1 @Tryz.results155 ?_
 exact ⟨_,rfl,(Ext.new _ _).trans hE2⟩
set_option maxHeartbeats 4000000 in
theorem lot_ok (h:Ln ZL Z bt bx T tv toks k (restL tx from' bt) v fc vs) (hends:Ends toks) (hsh:Short toks) (hlen:T.lots.length<=100000) :
  Ev (go Tryz.prog HS (.fn 115) [.pointer (some ⟨bx,0,none⟩)] Z) (LnP ZL bt bx tv toks (restL tx from' bt) (lotS toks T k)) ⟨⟩:=by
 refine ev_go Tryz.func115 rfl rfl ?_
 refine gS ?_
 have h1:=h.stepE (Ext.new (t:=none) Z [.pointer (some ⟨bx,0,none⟩)])
 have hn0:=h.sc.lt
 refine (numberK (fs:=[]) (cs:=[.pointer (some ⟨Z.n,0,none⟩)]) (nw:=fun n=> !(T.lots.any fun l=>decide (l.id=n))) h1.sc hends hsh fun Z' n hE _=>?_).mono ?_
 ·refine lotnew_ok (h1.stepE hE) ?_ ?_ om
  ·rw [hE.row (by simp)];exact cL
  ·have:=hE.n;simp at this;omega
 intro r
 unfold lotS
 cases hR:rdNum toks 1 (fun n=> !(T.lots.any fun l=>decide (l.id=n))) k with
 | error pe =>
   obtain ⟨p,e⟩:=pe
   rintro ⟨Z',rfl,hE⟩
   refine gS ?_
   rw [thenR_er]
   exact ⟨_,rfl,(h1.stepE hE).ext⟩
 | ok ak =>
   obtain ⟨id,k1⟩:=ak
   rintro ⟨Z1,rfl,hE1,hr1,hk1⟩
   rw [thenR_ok]
   have h2:=h1.step hE1 hr1 hk1
   have rp:Z1.row Z.n=some [.pointer (some ⟨bx,0,none⟩)]:=by rw [hE1.row (by simp) om];exact cL
   have hn1:=hE1.n
   simp at hn1
   unfold natV
   refine gS1 @rp ?_
   have h3:=h2.stepE (Ext.new (t:=none) Z1 [str [109,111,115,116]])
   refine (oneK h3.sc hends (strs_new (l:=[[109,111,115,116]])) (by decide) (by decide)).mono ?_
   intro r
   try dsimp only
   cases hR2:rdOne toks [[109,111,115,116]] k1 with
   | error pe =>
     obtain ⟨p,e⟩:=pe
     rintro ⟨Z',rfl,hE⟩
     refine gS ?_
     rw [thenR_er]
     exact ⟨_,rfl,(h3.stepE hE).ext⟩
   | ok ak =>
     obtain ⟨w,k2⟩:=ak
     rintro ⟨Z2,rfl,hE2,hr2,hk2⟩
     rw [thenR_ok]
     have h4:=h3.step hE2 hr2 hk2
     have hn2:=hE2.n
     simp at hn2
     have rp2:Z2.row Z.n=some [.pointer (some ⟨bx,0,none⟩)]:=by rw [hE2.row (by simp;omega) om];exact cL1 rp
     have hx:=row_of h4.sc.row
     have ht:=row_of h4.row
     unfold restL at hx
     obtain ⟨c1,c2,c3,c4,c5,rfl⟩:∃ c1 c2 c3 c4 c5,fc=[c1,c2,c3,c4,c5]:=fc5 h4.fx
     unfold tnR tnRow at ht
     obtain ⟨a,ha⟩:=OL.shape (h4.sl 0 om)
     rw [ha] at ht
     refine gS1 (aI @rp2 (aI @hx @ht)) ?_
     refine (plainK h4.sc hends hsh).mono ?_
     intro r
     try dsimp only
     cases hR3:rdPlain toks k2 with
     | error pe =>
       obtain ⟨p,e⟩:=pe
       rintro ⟨Z',rfl,hE⟩
       refine gS ?_
       refine Must.intro (by kernel_rfl) ?_
       refine Must.intro (by (repeat first|simp (disch:=omega) only [as_read,as_upd,as_newb,as_e hE]|rw [as_ord (by kernel_rfl)]);first|done|rfl) ?_
       refine gS ?_
       rw [thenR_er]
       exact ⟨_,rfl,(h4.stepE hE).ext⟩
     | ok ak =>
       obtain ⟨m,k3⟩:=ak
       rintro ⟨Z3,rfl,hE3,hr3,hk3⟩
       rw [thenR_ok]
       have h5:=h4.step hE3 hr3 hk3
       unfold natV
       refine gU1 (aI @splice_succ (aI @ap22 (aI @ap29 (aI @ap30 (aI @ap33 (aI @ap36 (aI @ap37 (aI @ap43 (aI @ap97 @ap202))))))))) ?_
       have h6:=h5.stepE (Ext.new (t:=none) Z3 [.int .i64 id,.int .i64 m])
       have hl0:=h6.sl 0 om
       have d1:=h6.dx 0 om
       have d2:blkOf (v 0)≠some Z.n:=fun e=>by have:=((h.sl 0 om).blk e).2;omega
       rw [ha] at hl0 d1 d2
       rw [show (rowsT T vs 0).length=T.lots.length from List.length_map ..] at *
       refine ev_append (lo:=ZL.n) (rows:=T.lots.map Lot.row) (row:=[.int .i64 id,.int .i64 m]) (fun _ _ _ _=>ap28) hl0 (row_new_same (Nat.le_refl _) (Nat.le_refl _)) (sub_full (by simp) (by simp)) (by rw [List.length_map];omega) (by have:=h6.ext.n;simp at this ⊢;omega) ?_
       intro v' Z5 g1 g2 g3
       have hbt:bt<Z3.n:=Nat.lt_of_lt_of_le h5.btl h5.ext.n
       have ro5:Z5.orow bt=some (tnR T v [c1,c2,c3,c4,c5]):=by
        rw [orow_congr (g2.same bt (by simp;omega) fun e=>by have:=(hl0.blk e).1;have:=h.btl;omega)];exact h6.row
       obtain ⟨a',rfl⟩:=OL.shape g1
       have h7:=h6.app (T':={ T with lots:=T.lots++[⟨id,m⟩] }) (vs':=vs) (i:=0) om (by rw [ha];exact g2) (by show OL _ _ 2 _ (List.map _ _);rw [List.map_append];exact g1) (by intro j hj hne;match j,hj,hne with|1,_,_=>rfl|2,_,_=>rfl|3,_,_=>rfl|4,_,_=>rfl) rfl h6.iv
       have hx5:=h7.sc.row
       unfold tnR tnRow at ro5
       refine gS1 @ro5 ?_
       have hL:=h.btl;have hg:=h.bxg
       have hLn:=h.ext.n
       refine Must.intro (by (repeat first|simp (disch:=omega) only [as_read,as_upd,as_newb,as_x hE3,as_app g2 d1,as_app g2 d2,as_bt h4 h5]|rw [as_ord (by kernel_rfl)]);first|done|rfl) ?_
       refine gS1 @Tryz.results115 ?_
       exact ⟨_,_,_,_,rfl,h7⟩
end
end Go.Proofs.T
namespace Go.Proofs.T
open Go Go.Ab
open Nat (reduceMul reduceEqDiff reduceAdd)
set_option maxRecDepth 100000
section
variable {Z ZL:St} {bt bx:Nat} {T:Tn} {tv:Value} {toks:List Tok} {k:Nat} {tx:By} {from':Nat} {v:Nat->Value} {fc vs:List Value}
def tenderS (toks:List Tok) (T:Tn) (k:Nat):Except Er (Tn×Nat) :=
 if nameB (tokA toks k).1 then .ok ({ T with name:=(tokA toks k).1 },k+1) else .error ((tokA toks k).2,12)
def mostS (toks:List Tok) (T:Tn) (k:Nat):Except Er (Tn×Nat):=thenR (rdPlain toks k) fun (n,k)=> .ok ({ T with most:=n },k)
def budgetS (toks:List Tok) (T:Tn) (k:Nat):Except Er (Tn×Nat):=thenR (rdPlain toks k) fun (n,k)=> .ok ({ T with budget:=n },k)
def priceS (toks:List Tok) (T:Tn) (k:Nat):Except Er (Tn×Nat):=thenR (rdPlain toks k) fun (a,k)=>thenR (rdPlain toks k) fun (b,k)=> .ok ({ T with low:=a,high:=b },k)
theorem nameB_ne {s:By}(h:nameB s=true):s≠[]:=by rintro rfl;simp [nameB,headB] at h
set_option maxHeartbeats 4000000 in
theorem tender_ok (h:Ln ZL Z bt bx T tv toks k (restL tx from' bt) v fc vs) (hends:Ends toks) (hsh:Short toks) :
  Ev (go Tryz.prog HS (.fn 114) [.pointer (some ⟨bx,0,none⟩)] Z) (LnP ZL bt bx tv toks (restL tx from' bt) (tenderS toks T k)) ⟨⟩:=by
 have ht0:=tokA_at h.sc.k
 have hs:=hsh _ (List.mem_of_getElem? ht0)
 refine ev_go Tryz.func114 rfl rfl ?_
 refine gS ?_
 refine (peek_ok h.sc ht0).mono ?_
 rintro r ⟨Z1,rfl,hE1⟩
 refine gS ?_
 refine (isname_ok om).mono ?_
 rintro r rfl
 refine gS ?_
 have h1:=h.stepE hE1
 refine (need_ok h1.sc ht0).mono ?_
 unfold tenderS
 rintro r (⟨hok,rfl⟩|⟨hok,Z3,rfl,hE3⟩)
 case inr =>
  refine gS ?_
  refine Must.intro (by kernel_rfl) ?_
  refine gS ?_
  rw [if_neg (by rw [hok];simp)]
  exact ⟨_,rfl,(h1.stepE hE3).ext⟩
 rw [if_pos hok]
 have hx:=row_of h1.sc.row
 unfold restL at hx
 obtain ⟨c1,c2,c3,c4,c5,rfl⟩:=fc5 h1.fx
 refine gS1 @hx ?_
 refine (take_ok h1.sc ht0).mono ?_
 rintro r ⟨Z4,rfl,hE4,hr4⟩
 have h4:=h1.step hE4 hr4 (hends k _ ht0 (nameB_ne hok))
 have ro4:=h4.row
 unfold tnR tnRow at ro4
 have hL:=h.btl;have hg:=h.bxg
 refine gS1 @ro4 ?_
 refine Must.intro (by (repeat first|simp (disch:=omega) only [as_read,as_upd,as_newb,as_bt h1 h4]|rw [as_ord (by kernel_rfl)]);first|done|rfl) ?_
 refine gS1 @Tryz.results114 ?_
 exact ⟨_,_,_,_,rfl,h4.put { T with name:=(tokA toks k).1 } rfl rfl rfl⟩
set_option maxHeartbeats 4000000 in
theorem most_ok (h:Ln ZL Z bt bx T tv toks k (restL tx from' bt) v fc vs) (hends:Ends toks) (hsh:Short toks) :
  Ev (go Tryz.prog HS (.fn 124) [.pointer (some ⟨bx,0,none⟩)] Z) (LnP ZL bt bx tv toks (restL tx from' bt) (mostS toks T k)) ⟨⟩:=by
 refine ev_go Tryz.func124 rfl rfl ?_
 have hx:=row_of h.sc.row
 unfold restL at hx
 obtain ⟨c1,c2,c3,c4,c5,rfl⟩:=fc5 h.fx
 refine gS1 @hx ?_
 refine (plainK h.sc hends hsh).mono ?_
 intro r
 unfold mostS
 cases hR:rdPlain toks k with
 | error pe =>
   obtain ⟨p,e⟩:=pe
   rintro ⟨Z',rfl,hE⟩
   refine gS ?_
   refine Must.intro (by kernel_rfl) ?_
   refine Must.intro (by (repeat first|simp (disch:=omega) only [as_read,as_upd,as_newb,as_e hE]|rw [as_ord (by kernel_rfl)]);first|done|rfl) ?_
   refine gS ?_
   rw [thenR_er]
   exact ⟨_,rfl,(h.stepE hE).ext⟩
 | ok ak =>
   obtain ⟨n,k1⟩:=ak
   rintro ⟨Z1,rfl,hE1,hr1,hk1⟩
   rw [thenR_ok]
   have h4:=h.step hE1 hr1 hk1
   have ro4:=h4.row
   unfold tnR tnRow at ro4
   have hL:=h.btl;have hg:=h.bxg
   unfold natV
   refine gS1 @ro4 ?_
   refine Must.intro (by (repeat first|simp (disch:=omega) only [as_read,as_upd,as_newb,as_bt h h4]|rw [as_ord (by kernel_rfl)]);first|done|rfl) ?_
   refine gS1 @Tryz.results124 ?_
   exact ⟨_,_,_,_,rfl,h4.put { T with most:=n } rfl rfl rfl⟩
set_option maxHeartbeats 4000000 in
theorem budget_ok (h:Ln ZL Z bt bx T tv toks k (restL tx from' bt) v fc vs) (hends:Ends toks) (hsh:Short toks) :
  Ev (go Tryz.prog HS (.fn 127) [.pointer (some ⟨bx,0,none⟩)] Z) (LnP ZL bt bx tv toks (restL tx from' bt) (budgetS toks T k)) ⟨⟩:=by
 refine ev_go Tryz.func127 rfl rfl ?_
 have hx:=row_of h.sc.row
 unfold restL at hx
 obtain ⟨c1,c2,c3,c4,c5,rfl⟩:=fc5 h.fx
 refine gS1 @hx ?_
 refine (plainK h.sc hends hsh).mono ?_
 intro r
 unfold budgetS
 cases hR:rdPlain toks k with
 | error pe =>
   obtain ⟨p,e⟩:=pe
   rintro ⟨Z',rfl,hE⟩
   refine gS ?_
   refine Must.intro (by kernel_rfl) ?_
   refine Must.intro (by (repeat first|simp (disch:=omega) only [as_read,as_upd,as_newb,as_e hE]|rw [as_ord (by kernel_rfl)]);first|done|rfl) ?_
   refine gS ?_
   rw [thenR_er]
   exact ⟨_,rfl,(h.stepE hE).ext⟩
 | ok ak =>
   obtain ⟨n,k1⟩:=ak
   rintro ⟨Z1,rfl,hE1,hr1,hk1⟩
   rw [thenR_ok]
   have h4:=h.step hE1 hr1 hk1
   have ro4:=h4.row
   unfold tnR tnRow at ro4
   have hL:=h.btl;have hg:=h.bxg
   unfold natV
   refine gS1 @ro4 ?_
   refine Must.intro (by (repeat first|simp (disch:=omega) only [as_read,as_upd,as_newb,as_bt h h4]|rw [as_ord (by kernel_rfl)]);first|done|rfl) ?_
   refine gS1 @Tryz.results127 ?_
   exact ⟨_,_,_,_,rfl,h4.put { T with budget:=n } rfl rfl rfl⟩
set_option maxHeartbeats 4000000 in
theorem price_ok (h:Ln ZL Z bt bx T tv toks k (restL tx from' bt) v fc vs) (hends:Ends toks) (hsh:Short toks) :
  Ev (go Tryz.prog HS (.fn 121) [.pointer (some ⟨bx,0,none⟩)] Z) (LnP ZL bt bx tv toks (restL tx from' bt) (priceS toks T k)) ⟨⟩:=by
 refine ev_go Tryz.func121 rfl rfl ?_
 have hx:=row_of h.sc.row
 unfold restL at hx
 obtain ⟨c1,c2,c3,c4,c5,rfl⟩:=fc5 h.fx
 refine gS1 @hx ?_
 refine (plainK h.sc hends hsh).mono ?_
 intro r
 unfold priceS
 cases hR:rdPlain toks k with
 | error pe =>
   obtain ⟨p,e⟩:=pe
   rintro ⟨Z',rfl,hE⟩
   refine gS ?_
   refine Must.intro (by kernel_rfl) ?_
   refine Must.intro (by (repeat first|simp (disch:=omega) only [as_read,as_upd,as_newb,as_e hE]|rw [as_ord (by kernel_rfl)]);first|done|rfl) ?_
   refine gS ?_
   rw [thenR_er]
   exact ⟨_,rfl,(h.stepE hE).ext⟩
 | ok ak =>
   obtain ⟨n,k1⟩:=ak
   rintro ⟨Z1,rfl,hE1,hr1,hk1⟩
   rw [thenR_ok]
   have h4:=h.step hE1 hr1 hk1
   refine gS ?_
   refine (plainK h4.sc hends hsh).mono ?_
   intro r
   try dsimp only
   cases hR2:rdPlain toks k1 with
   | error pe =>
     obtain ⟨p,e⟩:=pe
     rintro ⟨Z',rfl,hE⟩
     refine gS ?_
     refine Must.intro (by kernel_rfl) ?_
     have hL:=h.btl;have hg:=h.bxg
     refine Must.intro (by (repeat first|simp (disch:=omega) only [as_read,as_upd,as_newb,rok_read,rok_eff,rok_nil,bi_true,as_nil,as_e hE,as_bt h h4,as_x hE1]|rw [as_ord (by kernel_rfl)]);first|done|rfl) ?_
     refine gS ?_
     rw [thenR_er]
     exact ⟨_,rfl,(h4.stepE hE).ext⟩
   | ok ak =>
     obtain ⟨m,k2⟩:=ak
     rintro ⟨Z2,rfl,hE2,hr2,hk2⟩
     rw [thenR_ok]
     have h5:=h4.step hE2 hr2 hk2
     have ro5:=h5.row
     unfold tnR tnRow at ro5
     have hL:=h.btl;have hg:=h.bxg
     unfold natV
     refine gS1 @ro5 ?_
     refine Must.intro (by (repeat first|simp (disch:=omega) only [as_read,as_upd,as_newb,as_bt h h4,as_bt h4 h5]|rw [as_ord (by kernel_rfl)]);first|done|rfl) ?_
     refine gS1 @Tryz.results121 ?_
     have h6:=h5.put { T with low:=n } rfl rfl rfl
     exact ⟨_,_,_,_,rfl,h6.put { T with low:=n,high:=m } rfl rfl rfl⟩
end
end Go.Proofs.T
namespace Go.Proofs.T
open Go Go.Ab
open Nat (reduceMul reduceEqDiff reduceAdd)
set_option maxRecDepth 100000
section
variable {Z ZL:St} {bt bx:Nat} {T:Tn} {tv:Value} {toks:List Tok} {k:Nat} {tx:By} {from':Nat} {v:Nat->Value} {fc vs:List Value}
def requireS (toks:List Tok) (T:Tn) (k:Nat):Except Er (Tn×Nat) :=
 thenR (rdWord toks k) fun w=>thenR (rdOne toks [[60,61],[62,61]] (k+1)) fun (r,k)=>thenR (rdPlain toks k) fun (n,k)=> .ok ({ T with reqs:=T.reqs++[⟨w,r,n⟩] },k)
theorem wordB_ne {s:By}(h:wordB s=true):s≠[]:=by rintro rfl;simp [wordB,nameB,headB] at h
set_option maxHeartbeats 4000000 in
theorem require_ok (h:Ln ZL Z bt bx T tv toks k (restL tx from' bt) v fc vs) (hends:Ends toks) (hsh:Short toks) (hlen:T.reqs.length<=100000) :
  Ev (go Tryz.prog HS (.fn 119) [.pointer (some ⟨bx,0,none⟩)] Z) (LnP ZL bt bx tv toks (restL tx from' bt) (requireS toks T k)) ⟨⟩:=by
 have ht0:=tokA_at h.sc.k
 refine ev_go Tryz.func119 rfl rfl ?_
 refine gS ?_
 refine (word_ok h.sc hsh ht0).mono ?_
 unfold requireS rdWord
 have hbx:=h.sc.lt
 have hL:=h.btl;have hg:=h.bxg;have hLn:=h.ext.n
 rintro r (⟨hok,Z1,rfl,hE1⟩|⟨hok,Z1,rfl,hE1⟩)
 case inr =>
  refine gS ?_
  rw [if_neg (by rw [hok];simp),thenR_er]
  exact ⟨_,rfl,(h.stepE hE1).ext⟩
 rw [if_pos hok,thenR_ok]
 have hn1:=hE1.n
 refine gS ?_
 have hE2:ExtX bx Z ((Z1.new [str [],str [],.int .i64 0] (some 82)).upd Z1.n [str (tokA toks k).1,str [],.int .i64 0]):=eXX
 have q1:=(h.stepE hE1).sc.row
 have h2:=h.step hE2 (cL1 q1) h.sc.k
 refine (take_ok h2.sc ht0).mono ?_
 rintro r ⟨Z3,rfl,hE3,q3⟩
 have h3:=h2.step hE3 q3 (hends k _ ht0 (wordB_ne hok))
 have hn3:=hE3.n
 simp at hn3
 have c3:Z3.orow Z1.n=some [str (tokA toks k).1,str [],.int .i64 0]:=by rw [hE3.orow (by simp) om];exact cL
 refine gS ?_
 have h4:=h3.stepE (Ext.new (t:=none) Z3 [str [60,61],str [62,61]])
 refine (oneK h4.sc hends (strs_new (l:=[[60,61],[62,61]])) (by decide) (by decide)).mono ?_
 intro r
 try dsimp only
 cases hR2:rdOne toks [[60,61],[62,61]] (k+1) with
 | error pe =>
   obtain ⟨p,e⟩:=pe
   rintro ⟨Z',rfl,hE⟩
   refine gS ?_
   rw [thenR_er]
   exact ⟨_,rfl,(h4.stepE hE).ext⟩
 | ok ak =>
   obtain ⟨w,k2⟩:=ak
   rintro ⟨Z5,rfl,hE5,q5,hk5⟩
   rw [thenR_ok]
   have hn5:=hE5.n
   simp at hn5
   have c5:Z5.orow Z1.n=some [str (tokA toks k).1,str [],.int .i64 0]:=by rw [hE5.orow (by simp;omega) om];exact cL1 c3
   have c5':=row_of c5
   refine gS1 (aI @c5 @c5') ?_
   have hE6:ExtX bx Z (Z5.upd Z1.n [str (tokA toks k).1,str w,.int .i64 0]):=ExtX.updF (((hE2.trans hE3).newF _).trans hE5) om _
   have h6:=h.step hE6 (cL1 q5) hk5
   refine (plainK h6.sc hends hsh).mono ?_
   intro r
   try dsimp only
   cases hR3:rdPlain toks k2 with
   | error pe =>
     obtain ⟨p,e⟩:=pe
     rintro ⟨Z',rfl,hE⟩
     refine gS ?_
     rw [thenR_er]
     exact ⟨_,rfl,(h6.stepE hE).ext⟩
   | ok ak =>
     obtain ⟨m,k3⟩:=ak
     rintro ⟨Z7,rfl,hE7,q7,hk7⟩
     rw [thenR_ok]
     have hn7:=hE7.n
     simp at hn7
     have c7:Z7.orow Z1.n=some [str (tokA toks k).1,str w,.int .i64 0]:=by rw [hE7.orow (by simp;omega) om];exact cL
     have c7':=row_of c7
     have hE8:ExtX bx Z (Z7.upd Z1.n [str (tokA toks k).1,str w,.int .i64 m]):=ExtX.updF (hE6.trans hE7) om _
     have h8:=h.step hE8 (cL1 q7) hk7
     have hx:=row_of h8.sc.row
     have ht:=row_of h8.row
     unfold restL at hx
     obtain ⟨c1,c2,c3,c4,c5,rfl⟩:=fc5 h8.fx
     unfold tnR tnRow at ht
     obtain ⟨a,ha⟩:=OL.shape (h8.sl 2 om)
     rw [ha] at ht
     rw [row_upd_ne om] at hx ht
     unfold natV
     refine gU1 (aI @splice_succ (aI @ap22 (aI @ap28 (aI @ap29 (aI @ap33 (aI @ap36 (aI @ap37 (aI @ap43 (aI @ap97 (aI @ap202 (aI @c7 (aI @c7' (aI @hx @ht))))))))))))) ?_
     have h9:=h8.stepE (Ext.new (t:=none) (Z7.upd Z1.n [str (tokA toks k).1,str w,.int .i64 m]) [str (tokA toks k).1,str w,.int .i64 m])
     have hl0:=h9.sl 2 om
     have d1:=h9.dx 2 om
     have d2:blkOf (v 2)≠some Z1.n:=fun e=>by have:=((h.sl 2 om).blk e).2;omega
     rw [ha] at hl0 d1 d2
     rw [show (rowsT T vs 2).length=T.reqs.length from List.length_map ..] at *
     refine ev_append (lo:=ZL.n) (rows:=T.reqs.map Req.row) (row:=[str (tokA toks k).1,str w,.int .i64 m]) (fun _ _ _ _=>ap30) hl0 (row_new_same (Nat.le_refl _) (Nat.le_refl _)) (sub_full (by simp) (by simp)) (by rw [List.length_map];omega) (by have:=h9.ext.n;simp at this ⊢;omega) ?_
     intro v' Z10 g1 g2 g3
     have ro:Z10.orow bt=some (tnR T v [c1,c2,c3,c4,c5]):=by
      rw [orow_congr (g2.same bt (by simp;omega) fun e=>by have:=(hl0.blk e).1;omega)];exact h9.row
     obtain ⟨a',rfl⟩:=OL.shape g1
     have h10:=h9.app (T':={ T with reqs:=T.reqs++[⟨(tokA toks k).1,w,m⟩] }) (vs':=vs) (i:=2) om (by rw [ha];exact g2) (by show OL _ _ 3 _ (List.map _ _);rw [List.map_append];exact g1) (by intro j hj hne;match j,hj,hne with|0,_,_=>rfl|1,_,_=>rfl|3,_,_=>rfl|4,_,_=>rfl) rfl h9.iv
     unfold tnR tnRow at ro
     refine gS1 @ro ?_
     refine Must.intro (by (repeat first|simp (disch:=omega) only [as_read,as_upd,as_newb,as_app g2 d1,as_app g2 d2]|rw [as_ord (by kernel_rfl)]);first|done|rfl) ?_
     refine gS1 @Tryz.results119 ?_
     exact ⟨_,_,_,_,rfl,h10⟩
end
end Go.Proofs.T
namespace Go.Proofs.T
open Go Go.Ab
open Nat (reduceMul reduceEqDiff reduceAdd)
set_option maxRecDepth 100000
section
variable {Z ZL:St} {bt bx:Nat} {T:Tn} {tv:Value} {toks:List Tok} {k:Nat} {tx:By} {from':Nat} {v:Nat->Value} {fc vs:List Value}
def gradeB:By:=[103,114,97,100,101]
def offerB:By:=[111,102,102,101,114]
def lessB:By:=[108,101,115,115]
def criterionS (toks:List Tok) (T:Tn) (k:Nat):Except Er (Tn×Nat) :=
 thenR (rdWord toks k) fun w=>if (T.crits.any fun c=>decide (c.name=w))=true then .error ((tokA toks k).2,13) else
  thenR (rdOne toks [gradeB,offerB] (k+1)) fun (o,k)=>thenR (rdPlain toks k) fun (lo,k)=>thenR (rdPlain toks k) fun (hi,k) =>
   .ok ({ T with crits:=T.crits++[⟨w,cond (decide (o=offerB)) 2 1,lo,hi,decide ((tokA toks k).1=lessB)⟩] },cond (decide ((tokA toks k).1=lessB)) (k+1) k)
theorem critsame_ok {Z:St}{x:Crit}{w:By}{c1 c2 c3 c4:Value}{bn:Nat}(hn:Z.row bn=some [str w,c1,c2,c3,c4]) (hb:bn<Z.n) :
  Ev (go Tryz.prog HS (.fn 162) [.agg ⟨x.row⟩,.pointer (some ⟨bn,0,none⟩)] Z) (fun r=>∃ Z2,r=⟨false,.bool (decide (x.name=w)),Z2⟩/\Ext Z Z2) ⟨⟩:=by
 refine ev_go Tryz.func162 rfl rfl ?_
 rw [show x.row=[str x.name,.int .i64 x.kind,.int .i64 x.low,.int .i64 x.high,.bool x.less] from rfl]
 refine gS1 (aI @hn @Tryz.results162) ?_
 exact ⟨_,rfl,eX⟩
set_option maxHeartbeats 16000000 in
theorem criterion_ok (h:Ln ZL Z bt bx T tv toks k (restL tx from' bt) v fc vs) (hends:Ends toks) (hsh:Short toks) (hlen:T.crits.length<=100000) :
  Ev (go Tryz.prog HS (.fn 117) [.pointer (some ⟨bx,0,none⟩)] Z) (LnP ZL bt bx tv toks (restL tx from' bt) (criterionS toks T k)) ⟨⟩:=by
 have ht0:=tokA_at h.sc.k
 refine ev_go Tryz.func117 rfl rfl ?_
 refine gS ?_
 refine (word_ok h.sc hsh ht0).mono ?_
 unfold criterionS rdWord
 have hbx:=h.sc.lt
 have hL:=h.btl;have hg:=h.bxg;have hLn:=h.ext.n
 rintro r (⟨hok,Z1,rfl,hE1⟩|⟨hok,Z1,rfl,hE1⟩)
 case inr =>
  refine gS ?_
  rw [if_neg (by rw [hok];simp),thenR_er]
  exact ⟨_,rfl,(h.stepE hE1).ext⟩
 rw [if_pos hok,thenR_ok]
 have hn1:=hE1.n
 have q1:=(h.stepE hE1).sc.row
 have hE2:ExtX bx Z ((Z1.new [str [],.int .i64 0,.int .i64 0,.int .i64 0,.bool false] (some 80)).upd Z1.n [str (tokA toks k).1,.int .i64 1,.int .i64 0,.int .i64 0,.bool false]):=eXX
 have h2:=h.step hE2 (cL1 q1) h.sc.k
 have hx:=row_of h2.sc.row
 have ht:=row_of h2.row
 unfold restL at hx
 obtain ⟨e1,e2,e3,e4,e5,rfl⟩:=fc5 h2.fx
 unfold tnR tnRow at ht
 obtain ⟨a,ha⟩:=OL.shape (h2.sl 1 om)
 rw [ha] at ht
 rw [row_upd_ne om,row_new_ne om] at hx ht
 refine gS1 (aI @hx @ht) ?_
 have hcs:=OL.sl (h2.sl 1 om)
 rw [ha] at hcs
 rw [show (rowsT T vs 1).length=T.crits.length from List.length_map ..] at *
 refine (has_crits (p:=fun c=>decide (c.name=(tokA toks k).1)) (fs:=[]) hcs om fun Z' x hE _=>?_).mono ?_
 ·refine critsame_ok (bn:=Z1.n) (w:=(tokA toks k).1) (c1:= .int .i64 1) (c2:= .int .i64 0) (c3:= .int .i64 0) (c4:= .bool false) ?_ ?_
  ·rw [hE.row (by simp)];exact cL
  ·have:=hE.n;simp at this;omega
 rintro r ⟨Z2,rfl,hEc⟩
 have hn2:=hEc.n
 simp at hn2
 refine gS ?_
 have h3:=h2.stepE hEc
 refine (need_ok h3.sc ht0).mono ?_
 rintro r (⟨hok2,rfl⟩|⟨hok2,Z3,rfl,hE3⟩)
 case inr =>
  refine gS ?_
  refine Must.intro (by kernel_rfl) ?_
  refine gS ?_
  refine Must.intro (by (repeat first|simp (disch:=omega) only [as_read,as_upd,as_newb,as_e hEc,as_e hE3]|rw [as_ord (by kernel_rfl)]);first|done|rfl) ?_
  refine gS ?_
  rw [if_pos (by simpa using hok2)]
  exact ⟨_,rfl,(h3.stepE hE3).ext⟩
 rw [if_neg (by simpa using hok2)]
 refine gS ?_
 refine Must.intro (by (repeat first|simp (disch:=omega) only [as_read,as_upd,as_newb,as_e hEc,as_e (Ext.refl Z2)]|rw [as_ord (by kernel_rfl)]);first|done|rfl) ?_
 refine gS ?_
 have hE2':ExtX bx Z Z2:=hE2.trans (.of hEc)
 have c2:Z2.orow Z1.n=some [str (tokA toks k).1,.int .i64 1,.int .i64 0,.int .i64 0,.bool false]:=by rw [orow_congr (hEc.same _ (by simp))];exact cL
 refine (take_ok h3.sc ht0).mono ?_
 rintro r ⟨Z4,rfl,hE4,q4⟩
 have hk4:=hends k _ ht0 (wordB_ne hok)
 have hn4:=hE4.n
 have h4:=h3.step hE4 q4 hk4
 have c4:Z4.orow Z1.n=some [str (tokA toks k).1,.int .i64 1,.int .i64 0,.int .i64 0,.bool false]:=by rw [hE4.orow om om];exact c2
 refine gS ?_
 have h4':=h4.stepE (Ext.new (t:=none) Z4 [str gradeB,str offerB])
 refine (oneK h4'.sc hends (strs_new (l:=[gradeB,offerB])) (by decide) (by decide)).mono ?_
 intro r
 try dsimp only
 cases hR2:rdOne toks [gradeB,offerB] (k+1) with
 | error pe =>
   obtain ⟨p,e⟩:=pe
   rintro ⟨Z',rfl,hE⟩
   refine gS ?_
   rw [thenR_er]
   exact ⟨_,rfl,(h4'.stepE hE).ext⟩
 | ok ak =>
   obtain ⟨o,k2⟩:=ak
   rintro ⟨Z5,rfl,hE5,q5,hk5⟩
   rw [thenR_ok]
   have hn5:=hE5.n
   simp at hn5
   have c5:Z5.orow Z1.n=some [str (tokA toks k).1,.int .i64 1,.int .i64 0,.int .i64 0,.bool false]:=by rw [hE5.orow (by simp;omega) om];exact cL1 c4
   have c5':=row_of c5
   have hE5':ExtX bx Z Z5:=((hE2'.trans hE4).newF _).trans hE5
   have hdo:decide (o=[111,102,102,101,114])=decide (o=offerB):=rfl
   cases ho:decide (o=offerB) with
   | false =>
     refine gS1 (aI @hdo @ho) ?_
     have hE6:=hE5'
     have c6:=c5
     have h6:=h.step hE6 q5 hk5
     refine (plainK h6.sc hends hsh).mono ?_
     intro r
     try dsimp only
     cases hR3:rdPlain toks k2 with
     | error pe =>
       obtain ⟨p,e⟩:=pe
       rintro ⟨Z',rfl,hE⟩
       refine gS ?_
       rw [thenR_er]
       exact ⟨_,rfl,(h6.stepE hE).ext⟩
     | ok ak =>
       obtain ⟨lo,k3⟩:=ak
       rintro ⟨Z7,rfl,hE7,q7,hk7⟩
       rw [thenR_ok]
       have hn7:=hE7.n
       try simp at hn7
       have c7:Z7.orow Z1.n=some [str (tokA toks k).1,.int .i64 1,.int .i64 0,.int .i64 0,.bool false]:=by rw [hE7.orow (by (try simp);omega) om];exact c6
       have h7:=h6.step hE7 q7 hk7
       refine gS ?_
       refine (plainK h7.sc hends hsh).mono ?_
       intro r
       try dsimp only
       cases hR4:rdPlain toks k3 with
       | error pe =>
         obtain ⟨p,e⟩:=pe
         rintro ⟨Z',rfl,hE⟩
         refine gS ?_
         rw [thenR_er]
         exact ⟨_,rfl,(h7.stepE hE).ext⟩
       | ok ak =>
         obtain ⟨hi,k4⟩:=ak
         rintro ⟨Z8,rfl,hE8,q8,hk8⟩
         rw [thenR_ok]
         have hn8:=hE8.n
         have c8:Z8.orow Z1.n=some [str (tokA toks k).1,.int .i64 1,.int .i64 0,.int .i64 0,.bool false]:=by rw [hE8.orow om om];exact c7
         have c8':=row_of c8
         unfold natV
         refine gS1 (aI @c8 @c8') ?_
         have hE8':ExtX bx Z ((Z8.upd Z1.n [str (tokA toks k).1,.int .i64 1,.int .i64 lo,.int .i64 0,.bool false]).upd Z1.n [str (tokA toks k).1,.int .i64 1,.int .i64 lo,.int .i64 hi,.bool false]):=((((hE6.trans hE7).trans hE8).updF om _).updF om _)
         have h8:=h.step hE8' (cL1 q8) hk8
         have ht8:=tokA_at h8.sc.k
         refine (peek_ok h8.sc ht8).mono ?_
         rintro r ⟨Z9,rfl,hE9⟩
         have hn9:=hE9.n
         simp at hn9
         have h9:=h8.stepE hE9
         have hE9':=hE8'.trans (.of hE9)
         have c9:Z9.orow Z1.n=some [str (tokA toks k).1,.int .i64 1,.int .i64 lo,.int .i64 hi,.bool false]:=by rw [orow_congr (hE9.same _ (by simp;omega))];exact cL
         have c9':=row_of c9
         have hdl:decide ((tokA toks k4).1=[108,101,115,115])=decide ((tokA toks k4).1=lessB):=rfl
         cases hl:decide ((tokA toks k4).1=lessB) with
         | false =>
           refine gS1 (aI @hdl @hl) ?_
           have hx:=row_of h9.sc.row
           have ht:=row_of h9.row
           unfold restL at hx
           obtain ⟨f1,f2,f3,f4,f5,hf5⟩:=fc5 h9.fx
           cases hf5
           unfold tnR tnRow at ht
           rw [ha] at ht
           have cr:=row_of c9
           try rw [row_upd_ne om] at hx ht
           refine gU1 (aI @splice_succ (aI @ap22 (aI @ap28 (aI @ap30 (aI @ap33 (aI @ap36 (aI @ap37 (aI @ap43 (aI @ap97 (aI @ap202 (aI @hx (aI @ht @cr)))))))))))) ?_
           have h12:=h9.stepE (Ext.new (t:=none) Z9 [str (tokA toks k).1,.int .i64 1,.int .i64 lo,.int .i64 hi,.bool false])
           have hl0:=h12.sl 1 om
           have d1:=h12.dx 1 om
           have d2:blkOf (v 1)≠some Z1.n:=fun e=>by have:=((h.sl 1 om).blk e).2;omega
           rw [ha] at hl0 d1 d2
           try rw [show (rowsT T vs 1).length=T.crits.length from List.length_map ..] at *
           refine ev_append (lo:=ZL.n) (rows:=T.crits.map Crit.row) (row:=[str (tokA toks k).1,.int .i64 1,.int .i64 lo,.int .i64 hi,.bool false]) (fun _ _ _ _=>ap29) hl0 (row_new_same (Nat.le_refl _) (Nat.le_refl _)) (sub_full (by simp) (by simp)) (by rw [List.length_map];omega) (by have:=h12.ext.n;simp at this ⊢;omega) ?_
           intro v' Z13 g1 g2 g3
           have ro:Z13.orow bt=some (tnR T v [e1,e2,e3,e4,e5]):=by
            rw [orow_congr (g2.same bt (by simp;omega) fun e=>by have:=(hl0.blk e).1;omega)];exact h12.row
           obtain ⟨a',rfl⟩:=OL.shape g1
           have h13:=h12.app (T':={ T with crits:=T.crits++[⟨(tokA toks k).1,1,lo,hi,false⟩] }) (vs':=vs) (i:=1) om (by rw [ha];exact g2) (by show OL _ _ 5 _ (List.map _ _);rw [List.map_append];exact g1) (by intro j hj hne;match j,hj,hne with|0,_,_=>rfl|2,_,_=>rfl|3,_,_=>rfl|4,_,_=>rfl) rfl h12.iv
           unfold tnR tnRow at ro
           refine gS1 @ro ?_
           refine Must.intro (by (repeat first|simp (disch:=omega) only [as_read,as_upd,as_newb,as_app g2 d1,as_app g2 d2]|rw [as_ord (by kernel_rfl)]);first|done|rfl) ?_
           refine gS1 @Tryz.results117 ?_
           exact ⟨_,_,_,_,rfl,h13⟩
         | true =>
           refine gS1 (aI @hdl @hl) ?_
           refine (take_ok h9.sc ht8).mono ?_
           rintro r ⟨Z10,rfl,hE10,q10⟩
           have hn10:=hE10.n
           have c10:Z10.orow Z1.n=some [str (tokA toks k).1,.int .i64 1,.int .i64 lo,.int .i64 hi,.bool false]:=by rw [hE10.orow om om];exact c9
           have c10':=row_of c10
           refine gS1 (aI @c10 @c10') ?_
           have hE11:ExtX bx Z (Z10.upd Z1.n [str (tokA toks k).1,.int .i64 1,.int .i64 lo,.int .i64 hi,.bool true]):=(hE9'.trans hE10).updF om _
           have h11:=h.step hE11 (cL1 q10) (hends k4 _ ht8 (by intro e;rw [e] at hl;cases hl))
           have c11:(Z10.upd Z1.n [str (tokA toks k).1,.int .i64 1,.int .i64 lo,.int .i64 hi,.bool true]).orow Z1.n=some [str (tokA toks k).1,.int .i64 1,.int .i64 lo,.int .i64 hi,.bool true]:=orow_upd_same
           have hx:=row_of h11.sc.row
           have ht:=row_of h11.row
           unfold restL at hx
           obtain ⟨f1,f2,f3,f4,f5,hf5⟩:=fc5 h11.fx
           cases hf5
           unfold tnR tnRow at ht
           rw [ha] at ht
           have cr:=row_of c11
           try rw [row_upd_ne om] at hx ht
           refine gU1 (aI @splice_succ (aI @ap22 (aI @ap28 (aI @ap30 (aI @ap33 (aI @ap36 (aI @ap37 (aI @ap43 (aI @ap97 (aI @ap202 (aI @hx (aI @ht @cr)))))))))))) ?_
           have h12:=h11.stepE (Ext.new (t:=none) (Z10.upd Z1.n [str (tokA toks k).1,.int .i64 1,.int .i64 lo,.int .i64 hi,.bool true]) [str (tokA toks k).1,.int .i64 1,.int .i64 lo,.int .i64 hi,.bool true])
           have hl0:=h12.sl 1 om
           have d1:=h12.dx 1 om
           have d2:blkOf (v 1)≠some Z1.n:=fun e=>by have:=((h.sl 1 om).blk e).2;omega
           rw [ha] at hl0 d1 d2
           try rw [show (rowsT T vs 1).length=T.crits.length from List.length_map ..] at *
           refine ev_append (lo:=ZL.n) (rows:=T.crits.map Crit.row) (row:=[str (tokA toks k).1,.int .i64 1,.int .i64 lo,.int .i64 hi,.bool true]) (fun _ _ _ _=>ap29) hl0 (row_new_same (Nat.le_refl _) (Nat.le_refl _)) (sub_full (by simp) (by simp)) (by rw [List.length_map];omega) (by have:=h12.ext.n;simp at this ⊢;omega) ?_
           intro v' Z13 g1 g2 g3
           have ro:Z13.orow bt=some (tnR T v [e1,e2,e3,e4,e5]):=by
            rw [orow_congr (g2.same bt (by simp;omega) fun e=>by have:=(hl0.blk e).1;omega)];exact h12.row
           obtain ⟨a',rfl⟩:=OL.shape g1
           have h13:=h12.app (T':={ T with crits:=T.crits++[⟨(tokA toks k).1,1,lo,hi,true⟩] }) (vs':=vs) (i:=1) om (by rw [ha];exact g2) (by show OL _ _ 5 _ (List.map _ _);rw [List.map_append];exact g1) (by intro j hj hne;match j,hj,hne with|0,_,_=>rfl|2,_,_=>rfl|3,_,_=>rfl|4,_,_=>rfl) rfl h12.iv
           unfold tnR tnRow at ro
           refine gS1 @ro ?_
           refine Must.intro (by (repeat first|simp (disch:=omega) only [as_read,as_upd,as_newb,as_app g2 d1,as_app g2 d2]|rw [as_ord (by kernel_rfl)]);first|done|rfl) ?_
           refine gS1 @Tryz.results117 ?_
           exact ⟨_,_,_,_,rfl,h13⟩
   | true =>
     refine gS1 (aI @hdo (aI @ho (aI @c5 @c5'))) ?_
     have hE6:ExtX bx Z (Z5.upd Z1.n [str (tokA toks k).1,.int .i64 2,.int .i64 0,.int .i64 0,.bool false]):=hE5'.updF om _
     have c6:(Z5.upd Z1.n [str (tokA toks k).1,.int .i64 2,.int .i64 0,.int .i64 0,.bool false]).orow Z1.n=some [str (tokA toks k).1,.int .i64 2,.int .i64 0,.int .i64 0,.bool false]:=orow_upd_same
     have h6:=h.step hE6 (cL1 q5) hk5
     refine (plainK h6.sc hends hsh).mono ?_
     intro r
     try dsimp only
     cases hR3:rdPlain toks k2 with
     | error pe =>
       obtain ⟨p,e⟩:=pe
       rintro ⟨Z',rfl,hE⟩
       refine gS ?_
       rw [thenR_er]
       exact ⟨_,rfl,(h6.stepE hE).ext⟩
     | ok ak =>
       obtain ⟨lo,k3⟩:=ak
       rintro ⟨Z7,rfl,hE7,q7,hk7⟩
       rw [thenR_ok]
       have hn7:=hE7.n
       try simp at hn7
       have c7:Z7.orow Z1.n=some [str (tokA toks k).1,.int .i64 2,.int .i64 0,.int .i64 0,.bool false]:=by rw [hE7.orow (by (try simp);omega) om];exact c6
       have h7:=h6.step hE7 q7 hk7
       refine gS ?_
       refine (plainK h7.sc hends hsh).mono ?_
       intro r
       try dsimp only
       cases hR4:rdPlain toks k3 with
       | error pe =>
         obtain ⟨p,e⟩:=pe
         rintro ⟨Z',rfl,hE⟩
         refine gS ?_
         rw [thenR_er]
         exact ⟨_,rfl,(h7.stepE hE).ext⟩
       | ok ak =>
         obtain ⟨hi,k4⟩:=ak
         rintro ⟨Z8,rfl,hE8,q8,hk8⟩
         rw [thenR_ok]
         have hn8:=hE8.n
         have c8:Z8.orow Z1.n=some [str (tokA toks k).1,.int .i64 2,.int .i64 0,.int .i64 0,.bool false]:=by rw [hE8.orow om om];exact c7
         have c8':=row_of c8
         unfold natV
         refine gS1 (aI @c8 @c8') ?_
         have hE8':ExtX bx Z ((Z8.upd Z1.n [str (tokA toks k).1,.int .i64 2,.int .i64 lo,.int .i64 0,.bool false]).upd Z1.n [str (tokA toks k).1,.int .i64 2,.int .i64 lo,.int .i64 hi,.bool false]):=((((hE6.trans hE7).trans hE8).updF om _).updF om _)
         have h8:=h.step hE8' (cL1 q8) hk8
         have ht8:=tokA_at h8.sc.k
         refine (peek_ok h8.sc ht8).mono ?_
         rintro r ⟨Z9,rfl,hE9⟩
         have hn9:=hE9.n
         simp at hn9
         have h9:=h8.stepE hE9
         have hE9':=hE8'.trans (.of hE9)
         have c9:Z9.orow Z1.n=some [str (tokA toks k).1,.int .i64 2,.int .i64 lo,.int .i64 hi,.bool false]:=by rw [orow_congr (hE9.same _ (by simp;omega))];exact cL
         have c9':=row_of c9
         have hdl:decide ((tokA toks k4).1=[108,101,115,115])=decide ((tokA toks k4).1=lessB):=rfl
         cases hl:decide ((tokA toks k4).1=lessB) with
         | false =>
           refine gS1 (aI @hdl @hl) ?_
           have hx:=row_of h9.sc.row
           have ht:=row_of h9.row
           unfold restL at hx
           obtain ⟨f1,f2,f3,f4,f5,hf5⟩:=fc5 h9.fx
           cases hf5
           unfold tnR tnRow at ht
           rw [ha] at ht
           have cr:=row_of c9
           try rw [row_upd_ne om] at hx ht
           refine gU1 (aI @splice_succ (aI @ap22 (aI @ap28 (aI @ap30 (aI @ap33 (aI @ap36 (aI @ap37 (aI @ap43 (aI @ap97 (aI @ap202 (aI @hx (aI @ht @cr)))))))))))) ?_
           have h12:=h9.stepE (Ext.new (t:=none) Z9 [str (tokA toks k).1,.int .i64 2,.int .i64 lo,.int .i64 hi,.bool false])
           have hl0:=h12.sl 1 om
           have d1:=h12.dx 1 om
           have d2:blkOf (v 1)≠some Z1.n:=fun e=>by have:=((h.sl 1 om).blk e).2;omega
           rw [ha] at hl0 d1 d2
           try rw [show (rowsT T vs 1).length=T.crits.length from List.length_map ..] at *
           refine ev_append (lo:=ZL.n) (rows:=T.crits.map Crit.row) (row:=[str (tokA toks k).1,.int .i64 2,.int .i64 lo,.int .i64 hi,.bool false]) (fun _ _ _ _=>ap29) hl0 (row_new_same (Nat.le_refl _) (Nat.le_refl _)) (sub_full (by simp) (by simp)) (by rw [List.length_map];omega) (by have:=h12.ext.n;simp at this ⊢;omega) ?_
           intro v' Z13 g1 g2 g3
           have ro:Z13.orow bt=some (tnR T v [e1,e2,e3,e4,e5]):=by
            rw [orow_congr (g2.same bt (by simp;omega) fun e=>by have:=(hl0.blk e).1;omega)];exact h12.row
           obtain ⟨a',rfl⟩:=OL.shape g1
           have h13:=h12.app (T':={ T with crits:=T.crits++[⟨(tokA toks k).1,2,lo,hi,false⟩] }) (vs':=vs) (i:=1) om (by rw [ha];exact g2) (by show OL _ _ 5 _ (List.map _ _);rw [List.map_append];exact g1) (by intro j hj hne;match j,hj,hne with|0,_,_=>rfl|2,_,_=>rfl|3,_,_=>rfl|4,_,_=>rfl) rfl h12.iv
           unfold tnR tnRow at ro
           refine gS1 @ro ?_
           refine Must.intro (by (repeat first|simp (disch:=omega) only [as_read,as_upd,as_newb,as_app g2 d1,as_app g2 d2]|rw [as_ord (by kernel_rfl)]);first|done|rfl) ?_
           refine gS1 @Tryz.results117 ?_
           exact ⟨_,_,_,_,rfl,h13⟩
         | true =>
           refine gS1 (aI @hdl @hl) ?_
           refine (take_ok h9.sc ht8).mono ?_
           rintro r ⟨Z10,rfl,hE10,q10⟩
           have hn10:=hE10.n
           have c10:Z10.orow Z1.n=some [str (tokA toks k).1,.int .i64 2,.int .i64 lo,.int .i64 hi,.bool false]:=by rw [hE10.orow om om];exact c9
           have c10':=row_of c10
           refine gS1 (aI @c10 @c10') ?_
           have hE11:ExtX bx Z (Z10.upd Z1.n [str (tokA toks k).1,.int .i64 2,.int .i64 lo,.int .i64 hi,.bool true]):=(hE9'.trans hE10).updF om _
           have h11:=h.step hE11 (cL1 q10) (hends k4 _ ht8 (by intro e;rw [e] at hl;cases hl))
           have c11:(Z10.upd Z1.n [str (tokA toks k).1,.int .i64 2,.int .i64 lo,.int .i64 hi,.bool true]).orow Z1.n=some [str (tokA toks k).1,.int .i64 2,.int .i64 lo,.int .i64 hi,.bool true]:=orow_upd_same
           have hx:=row_of h11.sc.row
           have ht:=row_of h11.row
           unfold restL at hx
           obtain ⟨f1,f2,f3,f4,f5,hf5⟩:=fc5 h11.fx
           cases hf5
           unfold tnR tnRow at ht
           rw [ha] at ht
           have cr:=row_of c11
           try rw [row_upd_ne om] at hx ht
           refine gU1 (aI @splice_succ (aI @ap22 (aI @ap28 (aI @ap30 (aI @ap33 (aI @ap36 (aI @ap37 (aI @ap43 (aI @ap97 (aI @ap202 (aI @hx (aI @ht @cr)))))))))))) ?_
           have h12:=h11.stepE (Ext.new (t:=none) (Z10.upd Z1.n [str (tokA toks k).1,.int .i64 2,.int .i64 lo,.int .i64 hi,.bool true]) [str (tokA toks k).1,.int .i64 2,.int .i64 lo,.int .i64 hi,.bool true])
           have hl0:=h12.sl 1 om
           have d1:=h12.dx 1 om
           have d2:blkOf (v 1)≠some Z1.n:=fun e=>by have:=((h.sl 1 om).blk e).2;omega
           rw [ha] at hl0 d1 d2
           try rw [show (rowsT T vs 1).length=T.crits.length from List.length_map ..] at *
           refine ev_append (lo:=ZL.n) (rows:=T.crits.map Crit.row) (row:=[str (tokA toks k).1,.int .i64 2,.int .i64 lo,.int .i64 hi,.bool true]) (fun _ _ _ _=>ap29) hl0 (row_new_same (Nat.le_refl _) (Nat.le_refl _)) (sub_full (by simp) (by simp)) (by rw [List.length_map];omega) (by have:=h12.ext.n;simp at this ⊢;omega) ?_
           intro v' Z13 g1 g2 g3
           have ro:Z13.orow bt=some (tnR T v [e1,e2,e3,e4,e5]):=by
            rw [orow_congr (g2.same bt (by simp;omega) fun e=>by have:=(hl0.blk e).1;omega)];exact h12.row
           obtain ⟨a',rfl⟩:=OL.shape g1
           have h13:=h12.app (T':={ T with crits:=T.crits++[⟨(tokA toks k).1,2,lo,hi,true⟩] }) (vs':=vs) (i:=1) om (by rw [ha];exact g2) (by show OL _ _ 5 _ (List.map _ _);rw [List.map_append];exact g1) (by intro j hj hne;match j,hj,hne with|0,_,_=>rfl|2,_,_=>rfl|3,_,_=>rfl|4,_,_=>rfl) rfl h12.iv
           unfold tnR tnRow at ro
           refine gS1 @ro ?_
           refine Must.intro (by (repeat first|simp (disch:=omega) only [as_read,as_upd,as_newb,as_app g2 d1,as_app g2 d2]|rw [as_ord (by kernel_rfl)]);first|done|rfl) ?_
           refine gS1 @Tryz.results117 ?_
           exact ⟨_,_,_,_,rfl,h13⟩
end
end Go.Proofs.T
