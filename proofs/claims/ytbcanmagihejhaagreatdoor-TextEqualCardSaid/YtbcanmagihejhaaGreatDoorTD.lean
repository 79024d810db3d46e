/- A AY AO is AY4 read, and the line: Ff is held, Ff an append or a write leaves. -/
import Derived.Test.YtbcanmagihejhaaGreatDoorTC
set_option linter.unusedSimpArgs false
set_option linter.unusedVariables false
set_option maxHeartbeats 32000000
set_option maxRecDepth 100000
namespace Go.Proofs.T
open Go Go.Ab
def szT (i:Nat):Nat:=match i with
 | 0=>2
 | 1=>5
 | 2=>3
 | _=>1
def BQ (T:Tn) (vs:List Value) (i:Nat):List (List Value):=match i with
 | 0=>T.D2.map Lot.row
 | 1=>T.C7.map R0.row
 | 2=>T.reqs.map Req.row
 | 3=>T.E9.map fun s=>[str s]
 | _=>vs.map fun x=>[x]
def held (bt bx:Nat) (v:Nat->Value):List Nat:=List.range bt++bt::bx::(Lu (v 0)++Lu (v 1)++Lu (v 2)++Lu (v 3)++Lu (v 4))
theorem jO {v:Value}{c:Nat}:c∈Lu v↔K8 v=some c:=by
 unfold Lu K8;split <;> simp [eq_comm]
theorem BW {bt bx:Nat}{v:Nat->Value}{c:Nat}:c∈held bt bx v↔c=bt\/c=bx\/(∃ i,i<5/\K8 (v i)=some c)\/c<bt:=by
 unfold held;simp only [List.mem_cons,List.mem_append,jO,List.mem_range];constructor
 ·rintro (h|h|h|((((h|h)|h)|h)|h))
  ·exact .inr (.inr (.inr h))
  ·exact .inl h
  ·exact .inr (.inl h)
  ·exact .inr (.inr (.inl ⟨0,om,h⟩))
  ·exact .inr (.inr (.inl ⟨1,om,h⟩))
  ·exact .inr (.inr (.inl ⟨2,om,h⟩))
  ·exact .inr (.inr (.inl ⟨3,om,h⟩))
  ·exact .inr (.inr (.inl ⟨4,om,h⟩))
 ·rintro (h|h|⟨i,hi,h⟩|h)
  ·exact .inr (.inl h)
  ·exact .inr (.inr (.inl h))
  ·match i,hi,h with
   | 0,_,h=>exact .inr (.inr (.inr (.inl (.inl (.inl (.inl h))))))
   | 1,_,h=>exact .inr (.inr (.inr (.inl (.inl (.inl (.inr h))))))
   | 2,_,h=>exact .inr (.inr (.inr (.inl (.inl (.inr h)))))
   | 3,_,h=>exact .inr (.inr (.inr (.inl (.inr h))))
   | 4,_,h=>exact .inr (.inr (.inr (.inr h)))
  ·exact .inl h
def tnR (T:Tn) (v:Nat->Value) (fc:List Value):List Value:=T3 T.name (v 0) (v 1) (v 2) T.low T.high fc (v 3) T.D5 (v 4) T.C1 T.t
structure Ln (ZL Z:St) (bt bx:Nat) (T:Tn) (tv:Value) (toks:List Tok) (k:Nat) (rest:List Value) (v:Nat->Value) (fc vs:List Value):Prop where
 ext:C5 bt ZL Z
 btl:bt<ZL.n
 bxg:ZL.n<=bx
 row:Z.A5 bt=some (tnR T v fc)
 sl:∀ i,i<5->OL ZL.n Z (szT i) (v i) (BQ T vs i)
 dis:∀ i j c,i<5->j<5->i≠j->K8 (v i)=some c->K8 (v j)≠some c
 dx:∀ i,i<5->K8 (v i)≠some bx
 fx:Ah (H6 Z (held bt bx v)) fc T.f
 iv:CB (Ca (H6 Z (held bt bx v))) vs T.C3
 sc:Sc Z bx tv toks k rest
 tk:∀ c,K8 tv=some c->c≠bt/\∀ i,i<5->K8 (v i)≠some c
section
variable {ZL Z Z':St} {bt bx:Nat} {T T':Tn} {tv:Value} {toks:List Tok} {k k':Nat} {rest rest':List Value} {v:Nat->Value} {fc fc' vs vs':List Value}
theorem Ln.ne (h:Ln ZL Z bt bx T tv toks k rest v fc vs):bt≠bx:=by have:=h.btl;have:=h.bxg;omega
theorem Ln.step (h:Ln ZL Z bt bx T tv toks k rest v fc vs) (hE:C5 bx Z Z') (hr:Z'.A5 bx=some (tv:: .int .i64 (k':Nat)::rest')) (hk:k'<toks.length):Ln ZL Z' bt bx T tv toks k' rest' v fc vs:=by
 have Ut:o0 (H6 Z (held bt bx v)) (H6 Z' (held bt bx v)):=I5 hE.n fun c hc hm=>⟨hm,hE.row hc fun e=>hm (BW.2 (.inr (.inl e)))⟩
 have hbt:bt<Z.n:=Nat.lt_of_lt_of_le h.btl h.ext.n;refine ⟨⟨Nat.le_trans h.ext.n hE.n,fun c hc hne=>?_⟩,h.btl,h.bxg,by rw [hE.A5 hbt h.ne];exact h.row,fun i hi=>?_,h.dis,h.dx,h.fx.E8 Ut,h.iv.mono fun _ _ hx=>SL.E8 hx Ut,h.sc.W7 hE hr hk,h.tk⟩
 ·rw [hE.same c (Nat.lt_of_lt_of_le hc h.ext.n) (by have:=h.bxg;omega),h.ext.same c hc hne]
 ·refine (h.sl i hi).E8 hE.n fun c hc=>hE.same c ((h.sl i hi).blk hc).2 fun e=>h.dx i hi (by rw [hc,e])
theorem Ln.J6 (h:Ln ZL Z bt bx T tv toks k rest v fc vs) (hE:Ext Z Z'):Ln ZL Z' bt bx T tv toks k rest v fc vs :=
 h.step (.of hE) (by rw [A6 (hE.same bx h.sc.lt)];exact h.sc.row) h.sc.k
theorem OL.DD {lo size b:Nat}{w:Value}{rows:List (List Value)}{cs:List Value}(h:OL lo Z size w rows) (hb:b<lo):OL lo (Z.upd b cs) size w rows :=
 h.E8 (Nat.le_refl _) fun c hc=>by rw [J8,if_neg (by have:=(h.blk hc).1;omega)]
theorem Sc.DD {b:Nat}{cs:List Value}(h:Sc Z bx tv toks k rest) (hb:b≠bx) (ht:K8 tv≠some b):Sc (Z.upd b cs) bx tv toks k rest :=
 ⟨by rw [D1 (fun e=>hb e.symm)];exact h.row,h.lt,SL.iO h.sl (p:=b) (C5.upd .refl _) ht,h.ne,h.k,h.len⟩
theorem KL {bt bx:Nat}{v:Nat->Value}{cs:List Value}:o0 (H6 Z (held bt bx v)) (H6 (Z.upd bt cs) (held bt bx v)) :=
 I5 (Nat.le_refl _) fun c _ hm=>⟨hm,D9 fun e=>hm (BW.2 (.inl e))⟩
theorem Ln.put (h:Ln ZL Z bt bx T tv toks k rest v fc vs) (T':Tn) (h1:BQ T' vs=BQ T vs) (h2:T'.f=T.f) (h3:T'.C3=T.C3):Ln ZL (Z.upd bt (tnR T' v fc)) bt bx T' tv toks k rest v fc vs :=
 ⟨h.ext.upd _,h.btl,h.bxg,C8,fun i hi=>by rw [h1];exact OL.DD (h.sl i hi) h.btl,h.dis,h.dx,by rw [h2];exact h.fx.E8 KL,by rw [h3];exact h.iv.mono fun _ _ hx=>SL.E8 hx KL,
  h.sc.DD h.ne fun e=>(h.tk bt e).1 rfl,h.tk⟩
theorem Ln.fml (h:Ln ZL Z bt bx T tv toks k rest v fc vs) {e:Ex} (hf:Ah (H6 Z (held bt bx v)) fc' e):Ln ZL (Z.upd bt (tnR { T with f:=e } v fc')) bt bx { T with f:=e } tv toks k rest v fc' vs :=
 ⟨h.ext.upd _,h.btl,h.bxg,C8,fun i hi=>OL.DD (h.sl i hi) h.btl,h.dis,h.dx,hf.E8 KL,h.iv.mono fun _ _ hx=>SL.E8 hx KL,
  h.sc.DD h.ne fun e=>(h.tk bt e).1 rfl,h.tk⟩
def vup (v:Nat->Value) (i:Nat) (w:Value):Nat->Value:=fun j=>if j=i then w else v j
theorem GA {i:Nat}{w:Value}:vup v i w i=w:=if_pos rfl
theorem JH {i j:Nat}{w:Value}(h:j≠i):vup v i w j=v j:=if_neg h
theorem Ln.app (h:Ln ZL Z bt bx T tv toks k rest v fc vs){i:Nat}(hi:i<5){w:Value}(ha:App Z Z' (v i) w) (ho:OL ZL.n Z' (szT i) w (BQ T' vs' i))
  (hr:∀ j,j<5->j≠i->BQ T' vs' j=BQ T vs j) (hf:T'.f=T.f) (hv:CB (Ca (H6 Z (held bt bx v))) vs' T'.C3) :
  Ln ZL (Z'.upd bt (tnR T' (vup v i w) fc)) bt bx T' tv toks k rest (vup v i w) fc vs':=by
 have hbt:bt<Z.n:=Nat.lt_of_lt_of_le h.btl h.ext.n;have hi':=h.sl i hi;have IW:∀ c,K8 w=some c->Z.n<=c:=fun c hc=>(ha.new c hc).1;have Ut:o0 (H6 Z (held bt bx v)) (H6 (Z'.upd bt (tnR T' (vup v i w) fc)) (held bt bx (vup v i w))):=by
  refine I5 ha.n fun c hc hm=>⟨fun hm'=>?_,?_⟩
  ·rcases BW.1 hm' with e|e|⟨j,hj,e⟩|e
   ·exact hm (BW.2 (.inl e))
   ·exact hm (BW.2 (.inr (.inl e)))
   ·by_cases hji:j=i
    ·subst hji;rw [GA] at e;have:=IW c e;omega
    ·rw [JH hji] at e;exact hm (BW.2 (.inr (.inr (.inl ⟨j,hj,e⟩))))
   ·exact hm (BW.2 (.inr (.inr (.inr e))))
  ·rw [D9 fun e=>hm (BW.2 (.inl e))];exact O4 (ha.same c hc fun e=>hm (BW.2 (.inr (.inr (.inl ⟨i,hi,e⟩)))))
 have hbx:K8 (v i)≠some bx:=h.dx i hi;have hsc:Sc Z' bx tv toks k rest:=by
  refine ⟨by rw [A6 (ha.same bx h.sc.lt hbx)];exact h.sc.row,Nat.lt_of_lt_of_le h.sc.lt ha.n,?_,h.sc.ne,h.sc.k,h.sc.len⟩;rcases h.sc.sl with hs|⟨b,off,sp,c,cells,rfl,h2,h3,h4⟩
  ·exact .inl hs
  ·exact .inr ⟨b,off,sp,c,cells,rfl,Nat.lt_of_lt_of_le h2 ha.n,by rw [O4 (ha.same b h2 ((h.tk b rfl).2 i hi))];exact h3,h4⟩
 refine ⟨⟨Nat.le_trans h.ext.n ha.n,fun c hc hne=>?_⟩,h.btl,h.bxg,C8,fun j hj=>?_,?_,?_,by rw [hf];exact h.fx.E8 Ut,hv.mono fun _ _ hx=>SL.E8 hx Ut,hsc.DD h.ne fun e=>(h.tk bt e).1 rfl,fun c hc=>⟨(h.tk c hc).1,fun j hj=>?_⟩⟩
 ·rw [J8,if_neg hne,ha.same c (Nat.lt_of_lt_of_le hc h.ext.n) (fun e=>by have:=(hi'.blk e).1;omega),h.ext.same c hc hne]
 ·refine OL.DD ?_ h.btl;by_cases hji:j=i
  ·subst hji;rw [GA];exact ho
  ·rw [JH hji,hr j hj hji];exact (h.sl j hj).E8 ha.n fun c hc=>ha.same c ((h.sl j hj).blk hc).2 fun e=>h.dis i j c hi hj (fun e=>hji e.symm) e hc
 ·intro a b c ha' hb' hab e;by_cases hai:a=i
  ·subst hai;rw [GA] at e;rw [JH (fun e=>hab e.symm)];intro e';have:=IW c e;have:=((h.sl b hb').blk e').2;omega
  ·rw [JH hai] at e;by_cases hbi:b=i
   ·subst hbi;rw [GA];intro e';have:=IW c e';have:=((h.sl a ha').blk e).2;omega
   ·rw [JH hbi];exact h.dis a b c ha' hb' hab e
 ·intro j hj;by_cases hji:j=i
  ·subst hji;rw [GA];intro e;have:=IW bx e;have:=h.sc.lt;omega
  ·rw [JH hji];exact h.dx j hj
 ·by_cases hji:j=i
  ·subst hji;rw [GA];intro e;have:=IW c e;have:=h.sc.sl;rcases this with hs|⟨b,off,sp,cc,cells,rfl,h2,-⟩
   ·rw [hs.1] at hc;cases hc
   ·cases hc;omega
  ·rw [JH hji];exact (h.tk c hc).2 j hj
end
end Go.Proofs.T
namespace Go.Proofs.T
open Go Go.Ab
open Nat (reduceMul reduceEqDiff reduceAdd)
abbrev Er:=Nat×Int
def Q9 {α β:Type}(x:Except Er α) (f:α->Except Er β):Except Er β:=match x with
 | .ok a=>f a
 | .error e=> .error e
theorem C2 {α β:Type}{a:α}{f:α->Except Er β}:Q9 (.ok a) f=f a:=rfl
theorem H4 {α β:Type}{e:Er}{f:α->Except Er β}:Q9 (.error e) f= .error e:=rfl
def A9 (toks:List Tok) (k:Nat):Tok:=toks.getD k ([],0)
theorem W1 {toks:List Tok}{k:Nat}(h:k<toks.length):toks[k]? =some (A9 toks k):=by
 unfold A9;rw [List.getD_eq_getElem?_getD,List.getElem?_eq_getElem h];rfl
def rd1 {α:Type}(toks:List Tok) (k:Nat) (R:Except Int α):Except Er (α×Nat):=match R with
 | .ok a=> .ok (a,k+1)
 | .error e=> .error ((A9 toks k).2,e)
def rdNum (toks:List Tok) (least:Int) (nw:Int->Bool) (k:Nat):Except Er (Nat×Nat):=rd1 toks k (MC least nw (A9 toks k).1)
def U6 (toks:List Tok) (k:Nat):Except Er (Nat×Nat):=rdNum toks 0 (fun _=>true) k
def Ju (toks:List Tok) (ws:List By) (k:Nat):Except Er (By×Nat):=rd1 toks k (if ws.contains (A9 toks k).1 then .ok (A9 toks k).1 else .error 12)
def Kn (toks:List Tok) (k:Nat):Except Er By:=if Y0 (A9 toks k).1 then .ok (A9 toks k).1 else .error ((A9 toks k).2,12)
def oT {α:Type}(Z:St) (b:Nat) (v:Value) (toks:List Tok) (rest:List Value) (R:Except Er (α×Nat)) (f:α->Value) (r:CR):Prop:=match R with
 | .ok (a,k')=>∃ Z',r=⟨false,f a,Z'⟩/\C5 b Z Z'/\Z'.A5 b=some (v:: .int .i64 (k':Nat)::rest)/\k'<toks.length
 | .error (p,e)=>∃ Z',r=⟨true,fault p e,Z'⟩/\Ext Z Z'
theorem Stp.k {α:Type}{Z:St}{b:Nat}{v:Value}{toks:List Tok}{k:Nat}{rest:List Value}{R:Except Int α}{f:α->Value}{r:CR}(h:Stp Z b v toks k rest (A9 toks k) R f r):oT Z b v toks rest (rd1 toks k R) f r:=by
 cases R with
 | ok a=>exact h
 | error e=>exact h
section
variable {Z:St} {b:Nat} {v:Value} {toks:List Tok} {k:Nat} {rest:List Value}
theorem Em (h:Sc Z b v toks k rest) (I4:Ends toks) (hsh:Db toks) :
  Ev (go Tryz.prog HS (.fn 159) [.pointer (some ⟨b,0,none⟩)] Z) (oT Z b v toks rest (U6 toks k) Jx) ⟨⟩:=(gI h I4 hsh (W1 h.k)).mono fun _ h=>h.k
theorem tG {ws:Value}{l:List By}(h:Sc Z b v toks k rest) (I4:Ends toks) (hw:Dh Z ws l) (hl:l.length<=10) (hne:[]∉l) :
  Ev (go Tryz.prog HS (.fn 158) [.pointer (some ⟨b,0,none⟩),ws] Z) (oT Z b v toks rest (Ju toks l k) str) ⟨⟩:=(tR h I4 (W1 h.k) hw hl hne).mono fun _ h=>h.k
theorem SI (h:Sc Z b v toks k rest) (I4:Ends toks) (hsh:Db toks)
  {g:Nat} {fs cs:List Value} {nw:Int->Bool} {least:Int} (hnw:∀ (Z':St) (n:Nat),Ext Z Z'->n<=1000000000->Ev (go Tryz.prog HS (.fn g) (fs++[.int .i64 n]++cs) Z') (fun r=>∃ Z2,r=⟨false,.bool (nw n),Z2⟩/\Ext Z' Z2) ⟨⟩) :
  Ev (go Tryz.prog HS (.fn 154) [.pointer (some ⟨b,0,none⟩),.int .i64 least,.func (.func g) ⟨fs⟩ ⟨cs⟩] Z) (oT Z b v toks rest (rdNum toks least nw k) Jx) ⟨⟩ :=
 (QN h I4 hsh (W1 h.k) hnw).mono fun r h=>Stp.k (by unfold Stp;revert h;cases MC least nw (A9 toks k).1 <;> exact id)
end
def LnP (ZL:St) (bt bx:Nat) (tv:Value) (toks:List Tok) (rest:List Value) (R:Except Er (Tn×Nat)) (r:CR):Prop:=match R with
 | .ok (T,k)=>∃ Z' v fc vs,r=⟨false,.tuple ⟨[]⟩,Z'⟩/\Ln ZL Z' bt bx T tv toks k rest v fc vs
 | .error (p,e)=>∃ Z',r=⟨true,fault p e,Z'⟩/\C5 bt ZL Z'
def Wg (toks:List Tok) (T:Tn) (k:Nat):Except Er (Tn×Nat) :=
 Q9 (rdNum toks 1 (fun n=> !(T.D2.any fun l=>decide (l.id=n))) k) fun (id,k)=>Q9 (Ju toks [[109,111,115,116]] k) fun (_,k)=>Q9 (U6 toks k) fun (m,k)=> .ok ({ T with D2:=T.D2++[⟨id,m⟩] },k)
section
variable {Z ZL:St} {bt bx:Nat} {T:Tn} {tv:Value} {toks:List Tok} {k:Nat} {tx:By} {from':Nat} {v:Nat->Value} {fc vs:List Value}
theorem C0 {bs:List Nat}{i j b o n:Nat}{a:St}{l:List Value}{ds:List Ab.Trace}:M1 bs i ⟨b,o,n⟩ (.eff j a (a.new l)::ds)=M1 bs i ⟨b,o,n⟩ ds:=Gw fun h=>(Ext.new a l).same b h
theorem C9 {bs:List Nat}{i j b o n c:Nat}{a:St}{l:List Value}{ds:List Ab.Trace}(h:b≠c):M1 bs i ⟨b,o,n⟩ (.eff j a (a.upd c l)::ds)=M1 bs i ⟨b,o,n⟩ ds:=Gw fun _=>by show (a.upd c l).h.get b=_;rw [J8,if_neg h]
theorem D0 {bs:List Nat}{i j:Nat}{r:AN}{a b:St}{ds:List Ab.Trace}(h:ordered bs i j=true):M1 bs i r (.eff j a b::ds)=M1 bs i r ds:=by
 show bi (bi (ordered bs i j) true (bi (Nat.blt r.b a.n) (bi (Nat.beq (a.ver r.b) (b.ver r.b)) true (AK (a.read r.b r.off r.n) (b.read r.b r.off r.n))) true)) (M1 bs i r ds) false=_;rw [h];rfl
theorem W3 {bs:List Nat}{i j q o n:Nat}{a b:St}{ds:List Ab.Trace}(hE:Ext a b):M1 bs i ⟨q,o,n⟩ (.eff j a b::ds)=M1 bs i ⟨q,o,n⟩ ds:=Gw fun h=>hE.same q h
theorem SH {bs:List Nat}{i j p q o n:Nat}{a b:St}{ds:List Ab.Trace}(hE:C5 p a b) (h:q≠p):M1 bs i ⟨q,o,n⟩ (.eff j a b::ds)=M1 bs i ⟨q,o,n⟩ ds:=Gw fun hl=>hE.same q hl h
theorem BK {bs:List Nat}{i j q o n:Nat}{a b:St}{v w:Value}{ds:List Ab.Trace}(hE:App a b v w) (h:K8 v≠some q):M1 bs i ⟨q,o,n⟩ (.eff j a b::ds)=M1 bs i ⟨q,o,n⟩ ds:=Gw fun hl=>hE.same q hl h
theorem iy {bs:List Nat}{i j q o n:Nat}{a b:St}{ds:List Ab.Trace}(h:AK (a.read q o n) (b.read q o n)=true):M1 bs i ⟨q,o,n⟩ (.eff j a b::ds)=M1 bs i ⟨q,o,n⟩ ds:=by
 show bi (bi (ordered bs i j) true (bi (Nat.blt q a.n) (bi (Nat.beq (a.ver q) (b.ver q)) true (AK (a.read q o n) (b.read q o n))) true)) (M1 bs i ⟨q,o,n⟩ ds) false=_;rw [h];cases ordered bs i j <;> cases Nat.blt q a.n <;> cases Nat.beq (a.ver q) (b.ver q) <;> rfl
theorem iz {c:Nat}:AK (some [.pointer (some ⟨c,0,none⟩)]) (some [.pointer (some ⟨c,0,none⟩)])=true:=by
 show bi (veq _ _) true false=true;unfold veq;simp
def M4 (tx:By) (from' bt:Nat):List Value:=[str tx,.int .i64 (from':Nat),.pointer (some ⟨bt,0,none⟩)]
theorem Ln.rt (h:Ln ZL Z bt bx T tv toks k (M4 tx from' bt) v fc vs):Z.read bx 4 1=some [.pointer (some ⟨bt,0,none⟩)]:=by
 rw [y0,A8 h.sc.row];rfl
theorem HK {Z':St}{T':Tn}{k':Nat}{v':Nat->Value}{fc' vs':List Value}{bs:List Nat}{i j:Nat}{ds:List Ab.Trace}(h:Ln ZL Z bt bx T tv toks k (M4 tx from' bt) v fc vs) (h':Ln ZL Z' bt bx T' tv toks k' (M4 tx from' bt) v' fc' vs') :
  M1 bs i ⟨bx,4,1⟩ (.eff j Z Z'::ds)=M1 bs i ⟨bx,4,1⟩ ds:=iy (by rw [h.rt,h'.rt];exact iz)
theorem fc5 {Z:St}{fc:List Value}{e:Ex}(h:Ah Z fc e):∃ c1 c2 c3 c4 c5,fc=[c1,c2,c3,c4,c5]:=by
 cases e with
 | mk op n d nm args =>
   obtain ⟨v,rows,h1,-⟩:=h;exact ⟨_,_,_,_,_,h1⟩
theorem XG {Z:St}{x:Lot}{n:Int}{bn:Nat}(hn:Z.row bn=some [.int .i64 n]) (hb:bn<Z.n) :
  Ev (go Tryz.prog HS (.fn 157) [.agg ⟨x.row⟩,.pointer (some ⟨bn,0,none⟩)] Z) (fun r=>∃ Z2,r=⟨false,.bool (decide (x.id=n)),Z2⟩/\Ext Z Z2) ⟨⟩:=by
 refine D7 Tryz.func157 rfl rfl ?_;rw [show x.row=[.int .i64 x.id,.int .i64 x.D5] from rfl];refine gS1 (aI @hn @Tryz.results157) ?_;exact ⟨_,rfl,eX⟩
theorem bm {bp:Nat}{n:Nat}(h:Ln ZL Z bt bx T tv toks k (M4 tx from' bt) v fc vs) (hp:Z.row bp=some [.pointer (some ⟨bx,0,none⟩)]) (hb:bp<Z.n) (hlen:T.D2.length<=4294967296) :
  Ev (go Tryz.prog HS (.fn 155) [.int .i64 (n:Nat),.pointer (some ⟨bp,0,none⟩)] Z) (fun r=>∃ Z2,r=⟨false,.bool (!(T.D2.any fun l=>decide (l.id=(n:Int)))),Z2⟩/\Ext Z Z2) ⟨⟩:=by
 refine D7 Tryz.func155 rfl rfl ?_;have hx:=A8 h.sc.row;have ht:=A8 h.row;obtain ⟨c1,c2,c3,c4,c5,rfl⟩:=fc5 h.fx;have hbx:=h.sc.lt;have hbt:=Nat.lt_of_lt_of_le h.btl h.ext.n;unfold M4 at hx;unfold tnR T3 at ht;have h0:=h.sl 0 om;obtain ⟨a,ha⟩:=OL.shape h0;rw [ha] at ht h0;refine gS1 (a3N @hp @hx @ht) ?_;have h0':SL _ 2 _ (T.D2.map Lot.row):=OL.sl (OL.ext h0 (Ext.new (t:=none) Z [.int .i64 (n:Nat)]));refine (jA (p:=fun l=>decide (l.id=(n:Int))) (by rw [show (BQ T vs 0).length=T.D2.length from by show (T.D2.map _).length=_;rw [List.length_map]] at *;exact h0') hlen fun Z' x hE _=>?_).mono ?_
 ·refine XG (bn:=Z.n) ?_ ?_
  ·rw [hE.row (by simp)];exact cL
  ·have:=hE.n;simp at this;omega
 rintro r ⟨Z2,rfl,hE2⟩;refine gS1 @Tryz.results155 ?_;exact ⟨_,rfl,(Ext.new _ _).trans hE2⟩
theorem uZ (h:Ln ZL Z bt bx T tv toks k (M4 tx from' bt) v fc vs) (I4:Ends toks) (hsh:Db toks) (hlen:T.D2.length<=100000) :
  Ev (go Tryz.prog HS (.fn 115) [.pointer (some ⟨bx,0,none⟩)] Z) (LnP ZL bt bx tv toks (M4 tx from' bt) (Wg toks T k)) ⟨⟩:=by
 refine D7 Tryz.func115 rfl rfl ?_;refine gS ?_;have h1:=h.J6 (Ext.new (t:=none) Z [.pointer (some ⟨bx,0,none⟩)]);have hn0:=h.sc.lt;refine (SI (fs:=[]) (cs:=[.pointer (some ⟨Z.n,0,none⟩)]) (nw:=fun n=> !(T.D2.any fun l=>decide (l.id=n))) h1.sc I4 hsh fun Z' n hE _=>?_).mono ?_
 ·refine bm (h1.J6 hE) ?_ ?_ om
  ·rw [hE.row (by simp)];exact cL
  ·have:=hE.n;simp at this;omega
 intro r;unfold Wg;cases hR:rdNum toks 1 (fun n=> !(T.D2.any fun l=>decide (l.id=n))) k with
 | error pe =>
   obtain ⟨p,e⟩:=pe;rintro ⟨Z',rfl,hE⟩;refine gS ?_;rw [H4];exact ⟨_,rfl,(h1.J6 hE).ext⟩
 | ok ak =>
   obtain ⟨id,k1⟩:=ak;rintro ⟨Z1,rfl,hE1,hr1,hk1⟩;rw [C2];have h2:=h1.step hE1 hr1 hk1;have rp:Z1.row Z.n=some [.pointer (some ⟨bx,0,none⟩)]:=by rw [hE1.row (by simp) om];exact cL
   have hn1:=hE1.n;simp at hn1;unfold Jx;refine gS1 @rp ?_;have h3:=h2.J6 (Ext.new (t:=none) Z1 [str [109,111,115,116]]);refine (tG h3.sc I4 (Jw (l:=[[109,111,115,116]])) (by decide) (by decide)).mono ?_;intro r
   try dsimp only
   cases hR2:Ju toks [[109,111,115,116]] k1 with
   | error pe =>
     obtain ⟨p,e⟩:=pe;rintro ⟨Z',rfl,hE⟩;refine gS ?_;rw [H4];exact ⟨_,rfl,(h3.J6 hE).ext⟩
   | ok ak =>
     obtain ⟨w,k2⟩:=ak;rintro ⟨Z2,rfl,hE2,hr2,hk2⟩;rw [C2];have h4:=h3.step hE2 hr2 hk2;have hn2:=hE2.n;simp at hn2;have rp2:Z2.row Z.n=some [.pointer (some ⟨bx,0,none⟩)]:=by rw [hE2.row (by simp;omega) om];exact cL1 rp
     have hx:=A8 h4.sc.row;have ht:=A8 h4.row;unfold M4 at hx;obtain ⟨c1,c2,c3,c4,c5,rfl⟩:∃ c1 c2 c3 c4 c5,fc=[c1,c2,c3,c4,c5]:=fc5 h4.fx;unfold tnR T3 at ht;obtain ⟨a,ha⟩:=OL.shape (h4.sl 0 om);rw [ha] at ht;refine gS1 (a3N @rp2 @hx @ht) ?_;refine (Em h4.sc I4 hsh).mono ?_;intro r
     try dsimp only
     cases hR3:U6 toks k2 with
     | error pe =>
       obtain ⟨p,e⟩:=pe;rintro ⟨Z',rfl,hE⟩;refine gS ?_;refine H3.intro (by kernel_rfl) ?_;refine H3.intro (by (repeat first|simp (disch:=omega) only [B9,C9,C0,W3 hE]|rw [D0 (by kernel_rfl)]);first|done|rfl) ?_;refine gS ?_;rw [H4];exact ⟨_,rfl,(h4.J6 hE).ext⟩
     | ok ak =>
       obtain ⟨m,k3⟩:=ak;rintro ⟨Z3,rfl,hE3,hr3,hk3⟩;rw [C2];have h5:=h4.step hE3 hr3 hk3;unfold Jx;refine gU1 (a10N @A1 @N7 @T5 @R6 @K2 @R7 @Q8 @J0 @J5 @F4) ?_;have h6:=h5.J6 (Ext.new (t:=none) Z3 [.int .i64 id,.int .i64 m]);have hl0:=h6.sl 0 om;have d1:=h6.dx 0 om;have d2:K8 (v 0)≠some Z.n:=fun e=>by have:=((h.sl 0 om).blk e).2;omega
       rw [ha] at hl0 d1 d2;rw [show (BQ T vs 0).length=T.D2.length from List.length_map ..] at *;refine I0 (lo:=ZL.n) (rows:=T.D2.map Lot.row) (row:=[.int .i64 id,.int .i64 m]) (fun _ _ _ _=>T1) hl0 (D4 (Nat.le_refl _) (Nat.le_refl _)) (D6 (by simp) (by simp)) (by rw [List.length_map];omega) (by have:=h6.ext.n;simp at this ⊢;omega) ?_;intro v' Z5 g1 g2 g3;have hbt:bt<Z3.n:=Nat.lt_of_lt_of_le h5.btl h5.ext.n;have ro5:Z5.A5 bt=some (tnR T v [c1,c2,c3,c4,c5]):=by
        rw [A6 (g2.same bt (by simp;omega) fun e=>by have:=(hl0.blk e).1;have:=h.btl;omega)];exact h6.row
       obtain ⟨a',rfl⟩:=OL.shape g1;have h7:=h6.app (T':={ T with D2:=T.D2++[⟨id,m⟩] }) (vs':=vs) (i:=0) om (by rw [ha];exact g2) (by show OL _ _ 2 _ (List.map _ _);rw [List.map_append];exact g1) (by intro j hj hne;match j,hj,hne with|1,_,_=>rfl|2,_,_=>rfl|3,_,_=>rfl|4,_,_=>rfl) rfl h6.iv;have hx5:=h7.sc.row;unfold tnR T3 at ro5;refine gS1 @ro5 ?_;have hL:=h.btl;have hg:=h.bxg;have hLn:=h.ext.n;refine H3.intro (by (repeat first|simp (disch:=omega) only [B9,C9,C0,SH hE3,BK g2 d1,BK g2 d2,HK h4 h5]|rw [D0 (by kernel_rfl)]);first|done|rfl) ?_;refine gS1 @Tryz.results115 ?_;exact ⟨_,_,_,_,rfl,h7⟩
end
section
variable {Z ZL:St} {bt bx:Nat} {T:Tn} {tv:Value} {toks:List Tok} {k:Nat} {tx:By} {from':Nat} {v:Nat->Value} {fc vs:List Value}
def FM (toks:List Tok) (T:Tn) (k:Nat):Except Er (Tn×Nat) :=
 if AL (A9 toks k).1 then .ok ({ T with name:=(A9 toks k).1 },k+1) else .error ((A9 toks k).2,12)
def OE (toks:List Tok) (T:Tn) (k:Nat):Except Er (Tn×Nat):=Q9 (U6 toks k) fun (n,k)=> .ok ({ T with D5:=n },k)
def GM (toks:List Tok) (T:Tn) (k:Nat):Except Er (Tn×Nat):=Q9 (U6 toks k) fun (n,k)=> .ok ({ T with C1:=n },k)
def Ix (toks:List Tok) (T:Tn) (k:Nat):Except Er (Tn×Nat):=Q9 (U6 toks k) fun (a,k)=>Q9 (U6 toks k) fun (b,k)=> .ok ({ T with low:=a,high:=b },k)
theorem iW {s:By}(h:AL s=true):s≠[]:=by rintro rfl;simp [AL,Fg] at h
theorem bf (h:Ln ZL Z bt bx T tv toks k (M4 tx from' bt) v fc vs) (I4:Ends toks) (hsh:Db toks) :
  Ev (go Tryz.prog HS (.fn 114) [.pointer (some ⟨bx,0,none⟩)] Z) (LnP ZL bt bx tv toks (M4 tx from' bt) (FM toks T k)) ⟨⟩:=by
 have ht0:=W1 h.sc.k;have hs:=hsh _ (List.mem_of_getElem? ht0);refine D7 Tryz.func114 rfl rfl ?_;refine gS ?_;refine (T7 h.sc ht0).mono ?_;rintro r ⟨Z1,rfl,hE1⟩;refine gS ?_;refine (Fh om).mono ?_;rintro r rfl;refine gS ?_;have h1:=h.J6 hE1;refine (K6 h1.sc ht0).mono ?_;unfold FM;rintro r (⟨hok,rfl⟩|⟨hok,Z3,rfl,hE3⟩)
 case inr =>
  refine gS ?_;refine H3.intro (by kernel_rfl) ?_;refine gS ?_;rw [if_neg (by rw [hok];simp)];exact ⟨_,rfl,(h1.J6 hE3).ext⟩
 rw [if_pos hok];have hx:=A8 h1.sc.row;unfold M4 at hx;obtain ⟨c1,c2,c3,c4,c5,rfl⟩:=fc5 h1.fx;refine gS1 @hx ?_;refine (W8 h1.sc ht0).mono ?_;rintro r ⟨Z4,rfl,hE4,hr4⟩;have h4:=h1.step hE4 hr4 (I4 k _ ht0 (iW hok));have ro4:=h4.row;unfold tnR T3 at ro4;have hL:=h.btl;have hg:=h.bxg;refine gS1 @ro4 ?_;refine H3.intro (by (repeat first|simp (disch:=omega) only [B9,C9,C0,HK h1 h4]|rw [D0 (by kernel_rfl)]);first|done|rfl) ?_;refine gS1 @Tryz.results114 ?_;exact ⟨_,_,_,_,rfl,h4.put { T with name:=(A9 toks k).1 } rfl rfl rfl⟩
theorem oK (h:Ln ZL Z bt bx T tv toks k (M4 tx from' bt) v fc vs) (I4:Ends toks) (hsh:Db toks) :
  Ev (go Tryz.prog HS (.fn 124) [.pointer (some ⟨bx,0,none⟩)] Z) (LnP ZL bt bx tv toks (M4 tx from' bt) (OE toks T k)) ⟨⟩:=by
 refine D7 Tryz.func124 rfl rfl ?_;have hx:=A8 h.sc.row;unfold M4 at hx;obtain ⟨c1,c2,c3,c4,c5,rfl⟩:=fc5 h.fx;refine gS1 @hx ?_;refine (Em h.sc I4 hsh).mono ?_;intro r;unfold OE;cases hR:U6 toks k with
 | error pe =>
   obtain ⟨p,e⟩:=pe;rintro ⟨Z',rfl,hE⟩;refine gS ?_;refine H3.intro (by kernel_rfl) ?_;refine H3.intro (by (repeat first|simp (disch:=omega) only [B9,C9,C0,W3 hE]|rw [D0 (by kernel_rfl)]);first|done|rfl) ?_;refine gS ?_;rw [H4];exact ⟨_,rfl,(h.J6 hE).ext⟩
 | ok ak =>
   obtain ⟨n,k1⟩:=ak;rintro ⟨Z1,rfl,hE1,hr1,hk1⟩;rw [C2];have h4:=h.step hE1 hr1 hk1;have ro4:=h4.row;unfold tnR T3 at ro4;have hL:=h.btl;have hg:=h.bxg;unfold Jx;refine gS1 @ro4 ?_;refine H3.intro (by (repeat first|simp (disch:=omega) only [B9,C9,C0,HK h h4]|rw [D0 (by kernel_rfl)]);first|done|rfl) ?_;refine gS1 @Tryz.results124 ?_;exact ⟨_,_,_,_,rfl,h4.put { T with D5:=n } rfl rfl rfl⟩
theorem bg (h:Ln ZL Z bt bx T tv toks k (M4 tx from' bt) v fc vs) (I4:Ends toks) (hsh:Db toks) :
  Ev (go Tryz.prog HS (.fn 127) [.pointer (some ⟨bx,0,none⟩)] Z) (LnP ZL bt bx tv toks (M4 tx from' bt) (GM toks T k)) ⟨⟩:=by
 refine D7 Tryz.func127 rfl rfl ?_;have hx:=A8 h.sc.row;unfold M4 at hx;obtain ⟨c1,c2,c3,c4,c5,rfl⟩:=fc5 h.fx;refine gS1 @hx ?_;refine (Em h.sc I4 hsh).mono ?_;intro r;unfold GM;cases hR:U6 toks k with
 | error pe =>
   obtain ⟨p,e⟩:=pe;rintro ⟨Z',rfl,hE⟩;refine gS ?_;refine H3.intro (by kernel_rfl) ?_;refine H3.intro (by (repeat first|simp (disch:=omega) only [B9,C9,C0,W3 hE]|rw [D0 (by kernel_rfl)]);first|done|rfl) ?_;refine gS ?_;rw [H4];exact ⟨_,rfl,(h.J6 hE).ext⟩
 | ok ak =>
   obtain ⟨n,k1⟩:=ak;rintro ⟨Z1,rfl,hE1,hr1,hk1⟩;rw [C2];have h4:=h.step hE1 hr1 hk1;have ro4:=h4.row;unfold tnR T3 at ro4;have hL:=h.btl;have hg:=h.bxg;unfold Jx;refine gS1 @ro4 ?_;refine H3.intro (by (repeat first|simp (disch:=omega) only [B9,C9,C0,HK h h4]|rw [D0 (by kernel_rfl)]);first|done|rfl) ?_;refine gS1 @Tryz.results127 ?_;exact ⟨_,_,_,_,rfl,h4.put { T with C1:=n } rfl rfl rfl⟩
theorem iX (h:Ln ZL Z bt bx T tv toks k (M4 tx from' bt) v fc vs) (I4:Ends toks) (hsh:Db toks) :
  Ev (go Tryz.prog HS (.fn 121) [.pointer (some ⟨bx,0,none⟩)] Z) (LnP ZL bt bx tv toks (M4 tx from' bt) (Ix toks T k)) ⟨⟩:=by
 refine D7 Tryz.func121 rfl rfl ?_;have hx:=A8 h.sc.row;unfold M4 at hx;obtain ⟨c1,c2,c3,c4,c5,rfl⟩:=fc5 h.fx;refine gS1 @hx ?_;refine (Em h.sc I4 hsh).mono ?_;intro r;unfold Ix;cases hR:U6 toks k with
 | error pe =>
   obtain ⟨p,e⟩:=pe;rintro ⟨Z',rfl,hE⟩;refine gS ?_;refine H3.intro (by kernel_rfl) ?_;refine H3.intro (by (repeat first|simp (disch:=omega) only [B9,C9,C0,W3 hE]|rw [D0 (by kernel_rfl)]);first|done|rfl) ?_;refine gS ?_;rw [H4];exact ⟨_,rfl,(h.J6 hE).ext⟩
 | ok ak =>
   obtain ⟨n,k1⟩:=ak;rintro ⟨Z1,rfl,hE1,hr1,hk1⟩;rw [C2];have h4:=h.step hE1 hr1 hk1;refine gS ?_;refine (Em h4.sc I4 hsh).mono ?_;intro r
   try dsimp only
   cases hR2:U6 toks k1 with
   | error pe =>
     obtain ⟨p,e⟩:=pe;rintro ⟨Z',rfl,hE⟩;refine gS ?_;refine H3.intro (by kernel_rfl) ?_;have hL:=h.btl;have hg:=h.bxg;refine H3.intro (by (repeat first|simp (disch:=omega) only [B9,C9,C0,I9,L9,M0,I8,N8,W3 hE,HK h h4,SH hE1]|rw [D0 (by kernel_rfl)]);first|done|rfl) ?_;refine gS ?_;rw [H4];exact ⟨_,rfl,(h4.J6 hE).ext⟩
   | ok ak =>
     obtain ⟨m,k2⟩:=ak;rintro ⟨Z2,rfl,hE2,hr2,hk2⟩;rw [C2];have h5:=h4.step hE2 hr2 hk2;have ro5:=h5.row;unfold tnR T3 at ro5;have hL:=h.btl;have hg:=h.bxg;unfold Jx;refine gS1 @ro5 ?_;refine H3.intro (by (repeat first|simp (disch:=omega) only [B9,C9,C0,HK h h4,HK h4 h5]|rw [D0 (by kernel_rfl)]);first|done|rfl) ?_;refine gS1 @Tryz.results121 ?_;have h6:=h5.put { T with low:=n } rfl rfl rfl;exact ⟨_,_,_,_,rfl,h6.put { T with low:=n,high:=m } rfl rfl rfl⟩
end
section
variable {Z ZL:St} {bt bx:Nat} {T:Tn} {tv:Value} {toks:List Tok} {k:Nat} {tx:By} {from':Nat} {v:Nat->Value} {fc vs:List Value}
def En (toks:List Tok) (T:Tn) (k:Nat):Except Er (Tn×Nat) :=
 Q9 (Kn toks k) fun w=>Q9 (Ju toks [[60,61],[62,61]] (k+1)) fun (r,k)=>Q9 (U6 toks k) fun (n,k)=> .ok ({ T with reqs:=T.reqs++[⟨w,r,n⟩] },k)
theorem Jv {s:By}(h:Y0 s=true):s≠[]:=by rintro rfl;simp [Y0,AL,Fg] at h
theorem XL (h:Ln ZL Z bt bx T tv toks k (M4 tx from' bt) v fc vs) (I4:Ends toks) (hsh:Db toks) (hlen:T.reqs.length<=100000) :
  Ev (go Tryz.prog HS (.fn 119) [.pointer (some ⟨bx,0,none⟩)] Z) (LnP ZL bt bx tv toks (M4 tx from' bt) (En toks T k)) ⟨⟩:=by
 have ht0:=W1 h.sc.k;refine D7 Tryz.func119 rfl rfl ?_;refine gS ?_;refine (YV h.sc hsh ht0).mono ?_;unfold En Kn;have hbx:=h.sc.lt;have hL:=h.btl;have hg:=h.bxg;have hLn:=h.ext.n;rintro r (⟨hok,Z1,rfl,hE1⟩|⟨hok,Z1,rfl,hE1⟩)
 case inr =>
  refine gS ?_;rw [if_neg (by rw [hok];simp),H4];exact ⟨_,rfl,(h.J6 hE1).ext⟩
 rw [if_pos hok,C2];have hn1:=hE1.n;refine gS ?_;have hE2:C5 bx Z ((Z1.new [str [],str [],.int .i64 0] (some 82)).upd Z1.n [str (A9 toks k).1,str [],.int .i64 0]):=eXX;have q1:=(h.J6 hE1).sc.row;have h2:=h.step hE2 (cL1 q1) h.sc.k;refine (W8 h2.sc ht0).mono ?_;rintro r ⟨Z3,rfl,hE3,q3⟩;have h3:=h2.step hE3 q3 (I4 k _ ht0 (Jv hok));have hn3:=hE3.n;simp at hn3;have c3:Z3.A5 Z1.n=some [str (A9 toks k).1,str [],.int .i64 0]:=by rw [hE3.A5 (by simp) om];exact cL
 refine gS ?_;have h4:=h3.J6 (Ext.new (t:=none) Z3 [str [60,61],str [62,61]]);refine (tG h4.sc I4 (Jw (l:=[[60,61],[62,61]])) (by decide) (by decide)).mono ?_;intro r
 try dsimp only
 cases hR2:Ju toks [[60,61],[62,61]] (k+1) with
 | error pe =>
   obtain ⟨p,e⟩:=pe;rintro ⟨Z',rfl,hE⟩;refine gS ?_;rw [H4];exact ⟨_,rfl,(h4.J6 hE).ext⟩
 | ok ak =>
   obtain ⟨w,k2⟩:=ak;rintro ⟨Z5,rfl,hE5,q5,hk5⟩;rw [C2];have hn5:=hE5.n;simp at hn5;have c5:Z5.A5 Z1.n=some [str (A9 toks k).1,str [],.int .i64 0]:=by rw [hE5.A5 (by simp;omega) om];exact cL1 c3
   have c5':=A8 c5;refine gS1 (aI @c5 @c5') ?_;have hE6:C5 bx Z (Z5.upd Z1.n [str (A9 toks k).1,str w,.int .i64 0]):=C5.BJ (((hE2.trans hE3).KZ _).trans hE5) om _;have h6:=h.step hE6 (cL1 q5) hk5;refine (Em h6.sc I4 hsh).mono ?_;intro r
   try dsimp only
   cases hR3:U6 toks k2 with
   | error pe =>
     obtain ⟨p,e⟩:=pe;rintro ⟨Z',rfl,hE⟩;refine gS ?_;rw [H4];exact ⟨_,rfl,(h6.J6 hE).ext⟩
   | ok ak =>
     obtain ⟨m,k3⟩:=ak;rintro ⟨Z7,rfl,hE7,q7,hk7⟩;rw [C2];have hn7:=hE7.n;simp at hn7;have c7:Z7.A5 Z1.n=some [str (A9 toks k).1,str w,.int .i64 0]:=by rw [hE7.A5 (by simp;omega) om];exact cL
     have c7':=A8 c7;have hE8:C5 bx Z (Z7.upd Z1.n [str (A9 toks k).1,str w,.int .i64 m]):=C5.BJ (hE6.trans hE7) om _;have h8:=h.step hE8 (cL1 q7) hk7;have hx:=A8 h8.sc.row;have ht:=A8 h8.row;unfold M4 at hx;obtain ⟨c1,c2,c3,c4,c5,rfl⟩:=fc5 h8.fx;unfold tnR T3 at ht;obtain ⟨a,ha⟩:=OL.shape (h8.sl 2 om);rw [ha] at ht;rw [D9 om] at hx ht;unfold Jx;refine gU1 (a14N @A1 @N7 @T1 @T5 @K2 @R7 @Q8 @J0 @J5 @F4 @c7 @c7' @hx @ht) ?_;have h9:=h8.J6 (Ext.new (t:=none) (Z7.upd Z1.n [str (A9 toks k).1,str w,.int .i64 m]) [str (A9 toks k).1,str w,.int .i64 m]);have hl0:=h9.sl 2 om;have d1:=h9.dx 2 om;have d2:K8 (v 2)≠some Z1.n:=fun e=>by have:=((h.sl 2 om).blk e).2;omega
     rw [ha] at hl0 d1 d2;rw [show (BQ T vs 2).length=T.reqs.length from List.length_map ..] at *;refine I0 (lo:=ZL.n) (rows:=T.reqs.map Req.row) (row:=[str (A9 toks k).1,str w,.int .i64 m]) (fun _ _ _ _=>R6) hl0 (D4 (Nat.le_refl _) (Nat.le_refl _)) (D6 (by simp) (by simp)) (by rw [List.length_map];omega) (by have:=h9.ext.n;simp at this ⊢;omega) ?_;intro v' Z10 g1 g2 g3;have ro:Z10.A5 bt=some (tnR T v [c1,c2,c3,c4,c5]):=by
      rw [A6 (g2.same bt (by simp;omega) fun e=>by have:=(hl0.blk e).1;omega)];exact h9.row
     obtain ⟨a',rfl⟩:=OL.shape g1;have h10:=h9.app (T':={ T with reqs:=T.reqs++[⟨(A9 toks k).1,w,m⟩] }) (vs':=vs) (i:=2) om (by rw [ha];exact g2) (by show OL _ _ 3 _ (List.map _ _);rw [List.map_append];exact g1) (by intro j hj hne;match j,hj,hne with|0,_,_=>rfl|1,_,_=>rfl|3,_,_=>rfl|4,_,_=>rfl) rfl h9.iv;unfold tnR T3 at ro;refine gS1 @ro ?_;refine H3.intro (by (repeat first|simp (disch:=omega) only [B9,C9,C0,BK g2 d1,BK g2 d2]|rw [D0 (by kernel_rfl)]);first|done|rfl) ?_;refine gS1 @Tryz.results119 ?_;exact ⟨_,_,_,_,rfl,h10⟩
end
section
variable {Z ZL:St} {bt bx:Nat} {T:Tn} {tv:Value} {toks:List Tok} {k:Nat} {tx:By} {from':Nat} {v:Nat->Value} {fc vs:List Value}
def Cv:By:=[103,114,97,100,101]
def BU:By:=[111,102,102,101,114]
def Cq:By:=[108,101,115,115]
def CL (toks:List Tok) (T:Tn) (k:Nat):Except Er (Tn×Nat) :=
 Q9 (Kn toks k) fun w=>if (T.C7.any fun c=>decide (c.name=w))=true then .error ((A9 toks k).2,13) else
  Q9 (Ju toks [Cv,BU] (k+1)) fun (o,k)=>Q9 (U6 toks k) fun (lo,k)=>Q9 (U6 toks k) fun (hi,k) =>
   .ok ({ T with C7:=T.C7++[⟨w,cond (decide (o=BU)) 2 1,lo,hi,decide ((A9 toks k).1=Cq)⟩] },cond (decide ((A9 toks k).1=Cq)) (k+1) k)
theorem UF {Z:St}{x:R0}{w:By}{c1 c2 c3 c4:Value}{bn:Nat}(hn:Z.row bn=some [str w,c1,c2,c3,c4]) (hb:bn<Z.n) :
  Ev (go Tryz.prog HS (.fn 162) [.agg ⟨x.row⟩,.pointer (some ⟨bn,0,none⟩)] Z) (fun r=>∃ Z2,r=⟨false,.bool (decide (x.name=w)),Z2⟩/\Ext Z Z2) ⟨⟩:=by
 refine D7 Tryz.func162 rfl rfl ?_;rw [show x.row=[str x.name,.int .i64 x.kind,.int .i64 x.low,.int .i64 x.high,.bool x.less] from rfl];refine gS1 (aI @hn @Tryz.results162) ?_;exact ⟨_,rfl,eX⟩
theorem Rl (h:Ln ZL Z bt bx T tv toks k (M4 tx from' bt) v fc vs) (I4:Ends toks) (hsh:Db toks) (hlen:T.C7.length<=100000) :
  Ev (go Tryz.prog HS (.fn 117) [.pointer (some ⟨bx,0,none⟩)] Z) (LnP ZL bt bx tv toks (M4 tx from' bt) (CL toks T k)) ⟨⟩:=by
 have ht0:=W1 h.sc.k;refine D7 Tryz.func117 rfl rfl ?_;refine gS ?_;refine (YV h.sc hsh ht0).mono ?_;unfold CL Kn;have hbx:=h.sc.lt;have hL:=h.btl;have hg:=h.bxg;have hLn:=h.ext.n;rintro r (⟨hok,Z1,rfl,hE1⟩|⟨hok,Z1,rfl,hE1⟩)
 case inr =>
  refine gS ?_;rw [if_neg (by rw [hok];simp),H4];exact ⟨_,rfl,(h.J6 hE1).ext⟩
 rw [if_pos hok,C2];have hn1:=hE1.n;have q1:=(h.J6 hE1).sc.row;have hE2:C5 bx Z ((Z1.new [str [],.int .i64 0,.int .i64 0,.int .i64 0,.bool false] (some 80)).upd Z1.n [str (A9 toks k).1,.int .i64 1,.int .i64 0,.int .i64 0,.bool false]):=eXX;have h2:=h.step hE2 (cL1 q1) h.sc.k;have hx:=A8 h2.sc.row;have ht:=A8 h2.row;unfold M4 at hx;obtain ⟨e1,e2,e3,e4,e5,rfl⟩:=fc5 h2.fx;unfold tnR T3 at ht;obtain ⟨a,ha⟩:=OL.shape (h2.sl 1 om);rw [ha] at ht;rw [D9 om,Af om] at hx ht;refine gS1 (aI @hx @ht) ?_;have hcs:=OL.sl (h2.sl 1 om);rw [ha] at hcs;rw [show (BQ T vs 1).length=T.C7.length from List.length_map ..] at *;refine (aV (p:=fun c=>decide (c.name=(A9 toks k).1)) (fs:=[]) hcs om fun Z' x hE _=>?_).mono ?_
 ·refine UF (bn:=Z1.n) (w:=(A9 toks k).1) (c1:= .int .i64 1) (c2:= .int .i64 0) (c3:= .int .i64 0) (c4:= .bool false) ?_ ?_
  ·rw [hE.row (by simp)];exact cL
  ·have:=hE.n;simp at this;omega
 rintro r ⟨Z2,rfl,hEc⟩;have hn2:=hEc.n;simp at hn2;refine gS ?_;have h3:=h2.J6 hEc;refine (K6 h3.sc ht0).mono ?_;rintro r (⟨AB,rfl⟩|⟨AB,Z3,rfl,hE3⟩)
 case inr =>
  refine gS ?_;refine H3.intro (by kernel_rfl) ?_;refine gS ?_;refine H3.intro (by (repeat first|simp (disch:=omega) only [B9,C9,C0,W3 hEc,W3 hE3]|rw [D0 (by kernel_rfl)]);first|done|rfl) ?_;refine gS ?_;rw [if_pos (by simpa using AB)];exact ⟨_,rfl,(h3.J6 hE3).ext⟩
 rw [if_neg (by simpa using AB)];refine gS ?_;refine H3.intro (by (repeat first|simp (disch:=omega) only [B9,C9,C0,W3 hEc,W3 (Ext.refl Z2)]|rw [D0 (by kernel_rfl)]);first|done|rfl) ?_;refine gS ?_;have JY:C5 bx Z Z2:=hE2.trans (.of hEc);have c2:Z2.A5 Z1.n=some [str (A9 toks k).1,.int .i64 1,.int .i64 0,.int .i64 0,.bool false]:=by rw [A6 (hEc.same _ (by simp))];exact cL
 refine (W8 h3.sc ht0).mono ?_;rintro r ⟨Z4,rfl,hE4,q4⟩;have hk4:=I4 k _ ht0 (Jv hok);have hn4:=hE4.n;have h4:=h3.step hE4 q4 hk4;have c4:Z4.A5 Z1.n=some [str (A9 toks k).1,.int .i64 1,.int .i64 0,.int .i64 0,.bool false]:=by rw [hE4.A5 om om];exact c2
 refine gS ?_;have h4':=h4.J6 (Ext.new (t:=none) Z4 [str Cv,str BU]);refine (tG h4'.sc I4 (Jw (l:=[Cv,BU])) (by decide) (by decide)).mono ?_;intro r
 try dsimp only
 cases hR2:Ju toks [Cv,BU] (k+1) with
 | error pe =>
   obtain ⟨p,e⟩:=pe;rintro ⟨Z',rfl,hE⟩;refine gS ?_;rw [H4];exact ⟨_,rfl,(h4'.J6 hE).ext⟩
 | ok ak =>
   obtain ⟨o,k2⟩:=ak;rintro ⟨Z5,rfl,hE5,q5,hk5⟩;rw [C2];have hn5:=hE5.n;simp at hn5;have c5:Z5.A5 Z1.n=some [str (A9 toks k).1,.int .i64 1,.int .i64 0,.int .i64 0,.bool false]:=by rw [hE5.A5 (by simp;omega) om];exact cL1 c4
   have c5':=A8 c5;have Jn:C5 bx Z Z5:=((JY.trans hE4).KZ _).trans hE5;have hdo:decide (o=[111,102,102,101,114])=decide (o=BU):=rfl;cases ho:decide (o=BU) with
   | false =>
     refine gS1 (aI @hdo @ho) ?_;have hE6:=Jn;have c6:=c5;have h6:=h.step hE6 q5 hk5;refine (Em h6.sc I4 hsh).mono ?_;intro r
     try dsimp only
     cases hR3:U6 toks k2 with
     | error pe =>
       obtain ⟨p,e⟩:=pe;rintro ⟨Z',rfl,hE⟩;refine gS ?_;rw [H4];exact ⟨_,rfl,(h6.J6 hE).ext⟩
     | ok ak =>
       obtain ⟨lo,k3⟩:=ak;rintro ⟨Z7,rfl,hE7,q7,hk7⟩;rw [C2];have hn7:=hE7.n
       try simp at hn7
       have c7:Z7.A5 Z1.n=some [str (A9 toks k).1,.int .i64 1,.int .i64 0,.int .i64 0,.bool false]:=by rw [hE7.A5 (by (try simp);omega) om];exact c6
       have h7:=h6.step hE7 q7 hk7;refine gS ?_;refine (Em h7.sc I4 hsh).mono ?_;intro r
       try dsimp only
       cases hR4:U6 toks k3 with
       | error pe =>
         obtain ⟨p,e⟩:=pe;rintro ⟨Z',rfl,hE⟩;refine gS ?_;rw [H4];exact ⟨_,rfl,(h7.J6 hE).ext⟩
       | ok ak =>
         obtain ⟨hi,k4⟩:=ak;rintro ⟨Z8,rfl,hE8,q8,hk8⟩;rw [C2];have hn8:=hE8.n;have c8:Z8.A5 Z1.n=some [str (A9 toks k).1,.int .i64 1,.int .i64 0,.int .i64 0,.bool false]:=by rw [hE8.A5 om om];exact c7
         have c8':=A8 c8;unfold Jx;refine gS1 (aI @c8 @c8') ?_;have Rm:C5 bx Z ((Z8.upd Z1.n [str (A9 toks k).1,.int .i64 1,.int .i64 lo,.int .i64 0,.bool false]).upd Z1.n [str (A9 toks k).1,.int .i64 1,.int .i64 lo,.int .i64 hi,.bool false]):=((((hE6.trans hE7).trans hE8).BJ om _).BJ om _)
         have h8:=h.step Rm (cL1 q8) hk8;have ht8:=W1 h8.sc.k;refine (T7 h8.sc ht8).mono ?_;rintro r ⟨Z9,rfl,hE9⟩;have hn9:=hE9.n;simp at hn9;have h9:=h8.J6 hE9;have tH:=Rm.trans (.of hE9);have c9:Z9.A5 Z1.n=some [str (A9 toks k).1,.int .i64 1,.int .i64 lo,.int .i64 hi,.bool false]:=by rw [A6 (hE9.same _ (by simp;omega))];exact cL
         have c9':=A8 c9;have hdl:decide ((A9 toks k4).1=[108,101,115,115])=decide ((A9 toks k4).1=Cq):=rfl;cases hl:decide ((A9 toks k4).1=Cq) with
         | false =>
           refine gS1 (aI @hdl @hl) ?_;have hx:=A8 h9.sc.row;have ht:=A8 h9.row;unfold M4 at hx;obtain ⟨f1,f2,f3,f4,f5,hf5⟩:=fc5 h9.fx;cases hf5;unfold tnR T3 at ht;rw [ha] at ht;have cr:=A8 c9
           try rw [D9 om] at hx ht
           refine gU1 (a13N @A1 @N7 @T1 @R6 @K2 @R7 @Q8 @J0 @J5 @F4 @hx @ht @cr) ?_;have h12:=h9.J6 (Ext.new (t:=none) Z9 [str (A9 toks k).1,.int .i64 1,.int .i64 lo,.int .i64 hi,.bool false]);have hl0:=h12.sl 1 om;have d1:=h12.dx 1 om;have d2:K8 (v 1)≠some Z1.n:=fun e=>by have:=((h.sl 1 om).blk e).2;omega
           rw [ha] at hl0 d1 d2
           try rw [show (BQ T vs 1).length=T.C7.length from List.length_map ..] at *
           refine I0 (lo:=ZL.n) (rows:=T.C7.map R0.row) (row:=[str (A9 toks k).1,.int .i64 1,.int .i64 lo,.int .i64 hi,.bool false]) (fun _ _ _ _=>T5) hl0 (D4 (Nat.le_refl _) (Nat.le_refl _)) (D6 (by simp) (by simp)) (by rw [List.length_map];omega) (by have:=h12.ext.n;simp at this ⊢;omega) ?_;intro v' Z13 g1 g2 g3;have ro:Z13.A5 bt=some (tnR T v [e1,e2,e3,e4,e5]):=by
            rw [A6 (g2.same bt (by simp;omega) fun e=>by have:=(hl0.blk e).1;omega)];exact h12.row
           obtain ⟨a',rfl⟩:=OL.shape g1;have h13:=h12.app (T':={ T with C7:=T.C7++[⟨(A9 toks k).1,1,lo,hi,false⟩] }) (vs':=vs) (i:=1) om (by rw [ha];exact g2) (by show OL _ _ 5 _ (List.map _ _);rw [List.map_append];exact g1) (by intro j hj hne;match j,hj,hne with|0,_,_=>rfl|2,_,_=>rfl|3,_,_=>rfl|4,_,_=>rfl) rfl h12.iv;unfold tnR T3 at ro;refine gS1 @ro ?_;refine H3.intro (by (repeat first|simp (disch:=omega) only [B9,C9,C0,BK g2 d1,BK g2 d2]|rw [D0 (by kernel_rfl)]);first|done|rfl) ?_;refine gS1 @Tryz.results117 ?_;exact ⟨_,_,_,_,rfl,h13⟩
         | true =>
           refine gS1 (aI @hdl @hl) ?_;refine (W8 h9.sc ht8).mono ?_;rintro r ⟨Z10,rfl,WY,q10⟩;have AH8:=WY.n;have c10:Z10.A5 Z1.n=some [str (A9 toks k).1,.int .i64 1,.int .i64 lo,.int .i64 hi,.bool false]:=by rw [WY.A5 om om];exact c9
           have tI:=A8 c10;refine gS1 (aI @c10 @tI) ?_;have tJ:C5 bx Z (Z10.upd Z1.n [str (A9 toks k).1,.int .i64 1,.int .i64 lo,.int .i64 hi,.bool true]):=(tH.trans WY).BJ om _;have h11:=h.step tJ (cL1 q10) (I4 k4 _ ht8 (by intro e;rw [e] at hl;cases hl));have c11:(Z10.upd Z1.n [str (A9 toks k).1,.int .i64 1,.int .i64 lo,.int .i64 hi,.bool true]).A5 Z1.n=some [str (A9 toks k).1,.int .i64 1,.int .i64 lo,.int .i64 hi,.bool true]:=C8;have hx:=A8 h11.sc.row;have ht:=A8 h11.row;unfold M4 at hx;obtain ⟨f1,f2,f3,f4,f5,hf5⟩:=fc5 h11.fx;cases hf5;unfold tnR T3 at ht;rw [ha] at ht;have cr:=A8 c11
           try rw [D9 om] at hx ht
           refine gU1 (a13N @A1 @N7 @T1 @R6 @K2 @R7 @Q8 @J0 @J5 @F4 @hx @ht @cr) ?_;have h12:=h11.J6 (Ext.new (t:=none) (Z10.upd Z1.n [str (A9 toks k).1,.int .i64 1,.int .i64 lo,.int .i64 hi,.bool true]) [str (A9 toks k).1,.int .i64 1,.int .i64 lo,.int .i64 hi,.bool true]);have hl0:=h12.sl 1 om;have d1:=h12.dx 1 om;have d2:K8 (v 1)≠some Z1.n:=fun e=>by have:=((h.sl 1 om).blk e).2;omega
           rw [ha] at hl0 d1 d2
           try rw [show (BQ T vs 1).length=T.C7.length from List.length_map ..] at *
           refine I0 (lo:=ZL.n) (rows:=T.C7.map R0.row) (row:=[str (A9 toks k).1,.int .i64 1,.int .i64 lo,.int .i64 hi,.bool true]) (fun _ _ _ _=>T5) hl0 (D4 (Nat.le_refl _) (Nat.le_refl _)) (D6 (by simp) (by simp)) (by rw [List.length_map];omega) (by have:=h12.ext.n;simp at this ⊢;omega) ?_;intro v' Z13 g1 g2 g3;have ro:Z13.A5 bt=some (tnR T v [e1,e2,e3,e4,e5]):=by
            rw [A6 (g2.same bt (by simp;omega) fun e=>by have:=(hl0.blk e).1;omega)];exact h12.row
           obtain ⟨a',rfl⟩:=OL.shape g1;have h13:=h12.app (T':={ T with C7:=T.C7++[⟨(A9 toks k).1,1,lo,hi,true⟩] }) (vs':=vs) (i:=1) om (by rw [ha];exact g2) (by show OL _ _ 5 _ (List.map _ _);rw [List.map_append];exact g1) (by intro j hj hne;match j,hj,hne with|0,_,_=>rfl|2,_,_=>rfl|3,_,_=>rfl|4,_,_=>rfl) rfl h12.iv;unfold tnR T3 at ro;refine gS1 @ro ?_;refine H3.intro (by (repeat first|simp (disch:=omega) only [B9,C9,C0,BK g2 d1,BK g2 d2]|rw [D0 (by kernel_rfl)]);first|done|rfl) ?_;refine gS1 @Tryz.results117 ?_;exact ⟨_,_,_,_,rfl,h13⟩
   | true =>
     refine gS1 (a4N @hdo @ho @c5 @c5') ?_;have hE6:C5 bx Z (Z5.upd Z1.n [str (A9 toks k).1,.int .i64 2,.int .i64 0,.int .i64 0,.bool false]):=Jn.BJ om _;have c6:(Z5.upd Z1.n [str (A9 toks k).1,.int .i64 2,.int .i64 0,.int .i64 0,.bool false]).A5 Z1.n=some [str (A9 toks k).1,.int .i64 2,.int .i64 0,.int .i64 0,.bool false]:=C8;have h6:=h.step hE6 (cL1 q5) hk5;refine (Em h6.sc I4 hsh).mono ?_;intro r
     try dsimp only
     cases hR3:U6 toks k2 with
     | error pe =>
       obtain ⟨p,e⟩:=pe;rintro ⟨Z',rfl,hE⟩;refine gS ?_;rw [H4];exact ⟨_,rfl,(h6.J6 hE).ext⟩
     | ok ak =>
       obtain ⟨lo,k3⟩:=ak;rintro ⟨Z7,rfl,hE7,q7,hk7⟩;rw [C2];have hn7:=hE7.n
       try simp at hn7
       have c7:Z7.A5 Z1.n=some [str (A9 toks k).1,.int .i64 2,.int .i64 0,.int .i64 0,.bool false]:=by rw [hE7.A5 (by (try simp);omega) om];exact c6
       have h7:=h6.step hE7 q7 hk7;refine gS ?_;refine (Em h7.sc I4 hsh).mono ?_;intro r
       try dsimp only
       cases hR4:U6 toks k3 with
       | error pe =>
         obtain ⟨p,e⟩:=pe;rintro ⟨Z',rfl,hE⟩;refine gS ?_;rw [H4];exact ⟨_,rfl,(h7.J6 hE).ext⟩
       | ok ak =>
         obtain ⟨hi,k4⟩:=ak;rintro ⟨Z8,rfl,hE8,q8,hk8⟩;rw [C2];have hn8:=hE8.n;have c8:Z8.A5 Z1.n=some [str (A9 toks k).1,.int .i64 2,.int .i64 0,.int .i64 0,.bool false]:=by rw [hE8.A5 om om];exact c7
         have c8':=A8 c8;unfold Jx;refine gS1 (aI @c8 @c8') ?_;have Rm:C5 bx Z ((Z8.upd Z1.n [str (A9 toks k).1,.int .i64 2,.int .i64 lo,.int .i64 0,.bool false]).upd Z1.n [str (A9 toks k).1,.int .i64 2,.int .i64 lo,.int .i64 hi,.bool false]):=((((hE6.trans hE7).trans hE8).BJ om _).BJ om _)
         have h8:=h.step Rm (cL1 q8) hk8;have ht8:=W1 h8.sc.k;refine (T7 h8.sc ht8).mono ?_;rintro r ⟨Z9,rfl,hE9⟩;have hn9:=hE9.n;simp at hn9;have h9:=h8.J6 hE9;have tH:=Rm.trans (.of hE9);have c9:Z9.A5 Z1.n=some [str (A9 toks k).1,.int .i64 2,.int .i64 lo,.int .i64 hi,.bool false]:=by rw [A6 (hE9.same _ (by simp;omega))];exact cL
         have c9':=A8 c9;have hdl:decide ((A9 toks k4).1=[108,101,115,115])=decide ((A9 toks k4).1=Cq):=rfl;cases hl:decide ((A9 toks k4).1=Cq) with
         | false =>
           refine gS1 (aI @hdl @hl) ?_;have hx:=A8 h9.sc.row;have ht:=A8 h9.row;unfold M4 at hx;obtain ⟨f1,f2,f3,f4,f5,hf5⟩:=fc5 h9.fx;cases hf5;unfold tnR T3 at ht;rw [ha] at ht;have cr:=A8 c9
           try rw [D9 om] at hx ht
           refine gU1 (a13N @A1 @N7 @T1 @R6 @K2 @R7 @Q8 @J0 @J5 @F4 @hx @ht @cr) ?_;have h12:=h9.J6 (Ext.new (t:=none) Z9 [str (A9 toks k).1,.int .i64 2,.int .i64 lo,.int .i64 hi,.bool false]);have hl0:=h12.sl 1 om;have d1:=h12.dx 1 om;have d2:K8 (v 1)≠some Z1.n:=fun e=>by have:=((h.sl 1 om).blk e).2;omega
           rw [ha] at hl0 d1 d2
           try rw [show (BQ T vs 1).length=T.C7.length from List.length_map ..] at *
           refine I0 (lo:=ZL.n) (rows:=T.C7.map R0.row) (row:=[str (A9 toks k).1,.int .i64 2,.int .i64 lo,.int .i64 hi,.bool false]) (fun _ _ _ _=>T5) hl0 (D4 (Nat.le_refl _) (Nat.le_refl _)) (D6 (by simp) (by simp)) (by rw [List.length_map];omega) (by have:=h12.ext.n;simp at this ⊢;omega) ?_;intro v' Z13 g1 g2 g3;have ro:Z13.A5 bt=some (tnR T v [e1,e2,e3,e4,e5]):=by
            rw [A6 (g2.same bt (by simp;omega) fun e=>by have:=(hl0.blk e).1;omega)];exact h12.row
           obtain ⟨a',rfl⟩:=OL.shape g1;have h13:=h12.app (T':={ T with C7:=T.C7++[⟨(A9 toks k).1,2,lo,hi,false⟩] }) (vs':=vs) (i:=1) om (by rw [ha];exact g2) (by show OL _ _ 5 _ (List.map _ _);rw [List.map_append];exact g1) (by intro j hj hne;match j,hj,hne with|0,_,_=>rfl|2,_,_=>rfl|3,_,_=>rfl|4,_,_=>rfl) rfl h12.iv;unfold tnR T3 at ro;refine gS1 @ro ?_;refine H3.intro (by (repeat first|simp (disch:=omega) only [B9,C9,C0,BK g2 d1,BK g2 d2]|rw [D0 (by kernel_rfl)]);first|done|rfl) ?_;refine gS1 @Tryz.results117 ?_;exact ⟨_,_,_,_,rfl,h13⟩
         | true =>
           refine gS1 (aI @hdl @hl) ?_;refine (W8 h9.sc ht8).mono ?_;rintro r ⟨Z10,rfl,WY,q10⟩;have AH8:=WY.n;have c10:Z10.A5 Z1.n=some [str (A9 toks k).1,.int .i64 2,.int .i64 lo,.int .i64 hi,.bool false]:=by rw [WY.A5 om om];exact c9
           have tI:=A8 c10;refine gS1 (aI @c10 @tI) ?_;have tJ:C5 bx Z (Z10.upd Z1.n [str (A9 toks k).1,.int .i64 2,.int .i64 lo,.int .i64 hi,.bool true]):=(tH.trans WY).BJ om _;have h11:=h.step tJ (cL1 q10) (I4 k4 _ ht8 (by intro e;rw [e] at hl;cases hl));have c11:(Z10.upd Z1.n [str (A9 toks k).1,.int .i64 2,.int .i64 lo,.int .i64 hi,.bool true]).A5 Z1.n=some [str (A9 toks k).1,.int .i64 2,.int .i64 lo,.int .i64 hi,.bool true]:=C8;have hx:=A8 h11.sc.row;have ht:=A8 h11.row;unfold M4 at hx;obtain ⟨f1,f2,f3,f4,f5,hf5⟩:=fc5 h11.fx;cases hf5;unfold tnR T3 at ht;rw [ha] at ht;have cr:=A8 c11
           try rw [D9 om] at hx ht
           refine gU1 (a13N @A1 @N7 @T1 @R6 @K2 @R7 @Q8 @J0 @J5 @F4 @hx @ht @cr) ?_;have h12:=h11.J6 (Ext.new (t:=none) (Z10.upd Z1.n [str (A9 toks k).1,.int .i64 2,.int .i64 lo,.int .i64 hi,.bool true]) [str (A9 toks k).1,.int .i64 2,.int .i64 lo,.int .i64 hi,.bool true]);have hl0:=h12.sl 1 om;have d1:=h12.dx 1 om;have d2:K8 (v 1)≠some Z1.n:=fun e=>by have:=((h.sl 1 om).blk e).2;omega
           rw [ha] at hl0 d1 d2
           try rw [show (BQ T vs 1).length=T.C7.length from List.length_map ..] at *
           refine I0 (lo:=ZL.n) (rows:=T.C7.map R0.row) (row:=[str (A9 toks k).1,.int .i64 2,.int .i64 lo,.int .i64 hi,.bool true]) (fun _ _ _ _=>T5) hl0 (D4 (Nat.le_refl _) (Nat.le_refl _)) (D6 (by simp) (by simp)) (by rw [List.length_map];omega) (by have:=h12.ext.n;simp at this ⊢;omega) ?_;intro v' Z13 g1 g2 g3;have ro:Z13.A5 bt=some (tnR T v [e1,e2,e3,e4,e5]):=by
            rw [A6 (g2.same bt (by simp;omega) fun e=>by have:=(hl0.blk e).1;omega)];exact h12.row
           obtain ⟨a',rfl⟩:=OL.shape g1;have h13:=h12.app (T':={ T with C7:=T.C7++[⟨(A9 toks k).1,2,lo,hi,true⟩] }) (vs':=vs) (i:=1) om (by rw [ha];exact g2) (by show OL _ _ 5 _ (List.map _ _);rw [List.map_append];exact g1) (by intro j hj hne;match j,hj,hne with|0,_,_=>rfl|2,_,_=>rfl|3,_,_=>rfl|4,_,_=>rfl) rfl h12.iv;unfold tnR T3 at ro;refine gS1 @ro ?_;refine H3.intro (by (repeat first|simp (disch:=omega) only [B9,C9,C0,BK g2 d1,BK g2 d2]|rw [D0 (by kernel_rfl)]);first|done|rfl) ?_;refine gS1 @Tryz.results117 ?_;exact ⟨_,_,_,_,rfl,h13⟩
end
end Go.Proofs.T
