/- Maps with keys that are texts; the kinds of lines. -/
import Derived.Test.YtbcanmagihejhaaGreatDoorTG
set_option linter.unusedSimpArgs false
set_option linter.unusedVariables false
namespace Go.Proofs.T
open Go Go.Ab
set_option maxRecDepth 100000
def mapC (kv:List (By×Value)):List Value:=(kv.map fun p=>[str p.1,p.2]).flatten
def MapAt (Z:St) (b:Nat) (kv:List (By×Value)):Prop:=∃ ver,Z.h.get b=some ⟨mapC kv,true,true,ver,.map⟩
noncomputable def updM (Z:St) (b:Nat) (cs:List Value):St:=⟨Z.h.set b ⟨cs,true,true,(Z.ver b)+1,.map⟩,Z.n⟩
section
variable {Z Z':St} {b:Nat} {kv:List (By×Value)}
theorem MapAt.ext (h:MapAt Z b kv) (hb:b<Z.n) (hE:Ext Z Z'):MapAt Z' b kv:=let ⟨v,h⟩:=h;⟨v,by rw [hE.same b hb];exact h⟩
theorem MapAt.extX {p:Nat}(h:MapAt Z b kv) (hb:b<Z.n) (hE:ExtX p Z Z') (hp:b≠p):MapAt Z' b kv:=let ⟨v,h⟩:=h;⟨v,by rw [hE.same b hb hp];exact h⟩
@[simp] theorem updM_n {cs:List Value}:(updM Z b cs).n=Z.n:=rfl
theorem updM_at {kv':List (By×Value)}:MapAt (updM Z b (mapC kv')) b kv':=⟨_,Tr.get_set_same _ _ _⟩
theorem updM_get {c:Nat}{cs:List Value}(h:c≠b):(updM Z b cs).h.get c=Z.h.get c:=Tr.get_set_ne _ _ h
theorem MapAt.blk (h:MapAt Z b kv):∃ ver,Z.mblk b=some ⟨mapC kv,true,true,ver,.map⟩/\ver=Z.ver b:=by
 obtain ⟨v,h⟩:=h
 refine ⟨v,?_,?_⟩
 ·show ob (ob (Z.h.get b) _) _=_
  rw [h];rfl
 ·unfold St.ver;rw [h]
end
end Go.Proofs.T
namespace Go.Proofs.T
open Go Go.Ab
set_option maxRecDepth 100000
structure KS where
 once:Bool
 full:Tn->Bool
 rd:List Tok->By->Nat->Tn->Nat->Except Er (Tn×Nat)
section
variable {Z ZL:St} {bt bx:Nat} {T:Tn} {tv:Value} {toks:List Tok} {k:Nat} {rest:List Value} {v:Nat->Value} {fc vs:List Value}
end
structure Fits (T:Tn):Prop where
 lots:T.lots.length<=100000
 crits:T.crits.length<=100000
 reqs:T.reqs.length<=100000
 ties:T.ties.length<=100000
 combos:T.combos.length<=100000
end Go.Proofs.T
namespace Go.Proofs.T
open Go Go.Ab
set_option maxRecDepth 100000
def held0 (bt:Nat) (v:Nat->Value):List Nat:=List.range bt++bt::(blks (v 0)++blks (v 1)++blks (v 2)++blks (v 3)++blks (v 4))
structure Tp (ZL Z:St) (bt:Nat) (T:Tn) (v:Nat->Value) (fc vs:List Value):Prop where
 ext:ExtX bt ZL Z
 btl:bt<ZL.n
 row:Z.orow bt=some (tnR T v fc)
 sl:∀ i,i<5->OL ZL.n Z (szT i) (v i) (rowsT T vs i)
 dis:∀ i j c,i<5->j<5->i≠j->blkOf (v i)=some c->blkOf (v j)≠some c
 fx:ExAt (hide Z (held0 bt v)) fc T.f
 iv:All2 (Ints (hide Z (held0 bt v))) vs T.combos
section
variable {ZL Z Z':St} {bt bx:Nat} {T:Tn} {tv:Value} {toks:List Tok} {k:Nat} {rest:List Value} {v:Nat->Value} {fc vs:List Value}
theorem Tp.seen {ms:Nat}{kv kv':List (By×Value)}(h:Tp ZL Z bt T v fc vs) (hm:MapAt Z ms kv) (hl:ms<ZL.n) (hne:ms≠bt):Tp (updM ZL ms (mapC kv')) (updM Z ms (mapC kv')) bt T v fc vs:=by
 have hr:Z.row ms=none:=by
  obtain ⟨ver,hg⟩:=hm
  show ob (Z.rblk ms) _=_
  unfold St.rblk St.blk
  rw [hg];rfl
 have hr':(updM Z ms (mapC kv')).row ms=none:=by
  obtain ⟨ver,hg⟩:=updM_at (Z:=Z) (b:=ms) (kv':=kv')
  show ob ((updM Z ms (mapC kv')).rblk ms) _=_
  unfold St.rblk St.blk
  rw [hg];rfl
 have hk:Keep (hide Z (held0 bt v)) (hide (updM Z ms (mapC kv')) (held0 bt v)):=keep_hide (Nat.le_refl _) fun c _ hc=>⟨hc,by
  by_cases e:c=ms
  ·rw [e,hr,hr']
  ·exact row_congr (updM_get e)⟩
 refine ⟨⟨h.ext.n,fun c hc hcb=>?_⟩,h.btl,by rw [orow_congr (updM_get (fun e=>hne e.symm))];exact h.row,fun i hi=>(h.sl i hi).keep (Nat.le_refl _) fun c hc=>updM_get (by have:=((h.sl i hi).blk hc).1;omega),h.dis,h.fx.keep hk,h.iv.mono fun _ _ hx=>SL.keep hx hk⟩
 by_cases e:c=ms
 ·subst e
  have hg:=h.ext.same c hc hcb
  show (Tr.set _ _ _).get c=(Tr.set _ _ _).get c
  rw [Tr.get_set_same,Tr.get_set_same]
  unfold St.ver
  rw [hg]
 ·rw [updM_get e,updM_get e];exact h.ext.same c hc hcb
end
end Go.Proofs.T
namespace Go.Proofs.T
open Go Go.Ab
set_option maxRecDepth 100000
theorem ends_app {l:List Tok}{n:Nat}:Ends (l++[([],n)]):=by
 intro k t h hne
 rcases Nat.lt_or_ge k l.length with hk|hk
 ·simp;omega
 ·rw [List.getElem?_append_right hk] at h
  cases hz:k-l.length with
  | zero=>rw [hz] at h;cases h;exact absurd rfl hne
  | succ j=>rw [hz] at h;simp at h
theorem ends_ftoks {s:By}{k:Nat}:Ends (fToks s k):=ends_app
end Go.Proofs.T
namespace Go.Proofs.T
open Go Go.Ab
set_option maxRecDepth 100000
structure FitsN (n:Nat) (T:Tn):Prop where
 lots:T.lots.length<=n
 crits:T.crits.length<=n
 reqs:T.reqs.length<=n
 ties:T.ties.length<=n
 combos:T.combos.length<=n
theorem FitsN.mono {n m:Nat}{T:Tn}(h:FitsN n T) (hm:n<=m):FitsN m T:=⟨Nat.le_trans h.lots hm,Nat.le_trans h.crits hm,Nat.le_trans h.reqs hm,Nat.le_trans h.ties hm,Nat.le_trans h.combos hm⟩
end Go.Proofs.T
namespace Go.Proofs.T
open Go Go.Ab
set_option maxRecDepth 100000
theorem MapAt.norow {Z:St}{b:Nat}{kv:List (By×Value)}(h:MapAt Z b kv):Z.row b=none:=by
 obtain ⟨ver,hg⟩:=h
 show ob (Z.rblk b) _=_
 unfold St.rblk St.blk
 rw [hg];rfl
theorem Sc.updM {Z:St}{b ms:Nat}{v:Value}{toks:List Tok}{k:Nat}{rest:List Value}{kv:List (By×Value)}{cs:List Value}(h:Sc Z b v toks k rest) (hm:MapAt Z ms kv) (hb:b≠ms):Sc (updM Z ms cs) b v toks k rest:=by
 refine ⟨by rw [orow_congr (updM_get hb)];exact h.row,h.lt,?_,h.ne,h.k,h.len⟩
 rcases h.sl with hs|⟨b2,off,sp,c,cells,rfl,h2,h3,h4⟩
 ·exact .inl hs
 ·refine .inr ⟨b2,off,sp,c,cells,rfl,h2,?_,h4⟩
  rw [row_congr (updM_get fun e=>by rw [e,hm.norow] at h3;cases h3)];exact h3
theorem Tp.at' {ZL Z:St}{bt:Nat}{T:Tn}{v:Nat->Value}{fc vs:List Value}(h:Tp ZL Z bt T v fc vs):TnAt Z (tnR T v fc) T :=
 ⟨v 0,v 1,v 2,fc,v 3,v 4,rfl,OL.sl (h.sl 0 om),OL.sl (h.sl 1 om),OL.sl (h.sl 2 om),h.fx.keep keep_all,OL.sl (h.sl 3 om),vs,OL.sl (h.sl 4 om),h.iv.mono fun _ _ hx=>SL.keep hx keep_all⟩
structure Base (ZS ZL:St) (ms:Nat):Prop where
 n:ZL.n=ZS.n
 same:∀ c,c≠ms->ZL.h.get c=ZS.h.get c
theorem Base.seen {ZS ZL:St}{ms:Nat}{cs:List Value}(h:Base ZS ZL ms):Base ZS (updM ZL ms cs) ms:=⟨h.n,fun c hc=>by rw [updM_get hc];exact h.same c hc⟩
end Go.Proofs.T
namespace Go.Proofs.T
open Go Go.Ab
set_option maxRecDepth 100000
def runsOk:By->Nat->Bool
 | [],_=>true
 | b::l,c=>bif on digB b then Nat.ble (c+1) 18&&runsOk l (c+1) else runsOk l 0
theorem runsOk_cons {b:UInt8}{l:By}{c:Nat}:runsOk (b::l) c=bif on digB b then Nat.ble (c+1) 18&&runsOk l (c+1) else runsOk l 0:=rfl
def Inf (w s:By):Prop:=∃ p q:By,s=p++(w++q)
theorem Inf.trans {a b c:By}(h:Inf a b) (k:Inf b c):Inf a c:=by
 obtain ⟨p,q,rfl⟩:=h
 obtain ⟨p',q',rfl⟩:=k
 exact ⟨p'++p,q++q',by simp [List.append_assoc]⟩
theorem Inf.take {a:By}{n:Nat}:Inf (a.take n) a:=⟨[],a.drop n,by simp⟩
theorem Inf.drop {a:By}{n:Nat}:Inf (a.drop n) a:=⟨a.take n,[],by simp⟩
theorem Inf.len {a b:By}(h:Inf a b):a.length<=b.length:=by obtain ⟨p,q,rfl⟩:=h;simp;omega
theorem Inf.none {a:By}:Inf [] a:=⟨[],a,rfl⟩
end Go.Proofs.T
namespace Go.Proofs.T
open Go Go.Ab
open Nat (reduceMul reduceEqDiff reduceAdd)
set_option maxRecDepth 100000
theorem caught_go {vs:List Value}{Z:St}{Q:CR->Prop}{u:Hd Q}{c0 c1 c2 c3:Code}(hb:Tryz.f38.body=some (.seq c0 (.seq c1 (.seq c2 (.seq c3 .ret)))))
  (h:Ev (caughtF2 Tryz.prog c0 c2 c3 3 2 86 86 [.cell 2 86] (lim Tryz.prog HS) vs Z) Q u):Ev (go Tryz.prog HS (.fn 38) vs Z) Q u:=by
 have e:parts=(c0,c1,c2,c3):=by unfold parts;rw [hb]
 have e2:go Tryz.prog HS (.fn 38) vs Z=caughtT.f (lim Tryz.prog HS) vs Z:=rfl
 rw [e2]
 unfold caughtT
 rw [e]
 exact h
theorem nrm_n {β:Type}{fr:Fr}{Z:St}{f:Fr->St->Option β}:nrm ⟨.normal,fr,Z⟩ f=f fr Z:=rfl
theorem nrp_n {β:Type}{fr:Fr}{Z:St}{f:Fr->St->Option β}{g:Value->Fr->St->Option β}:nrp ⟨.normal,fr,Z⟩ f g=f fr Z:=rfl
theorem nrp_p {β:Type}{fr:Fr}{Z:St}{v:Value}{f:Fr->St->Option β}{g:Value->Fr->St->Option β}:nrp ⟨.pan v,fr,Z⟩ f g=g v fr Z:=rfl
theorem caughtV_fault {Z:St}{b p:Nat}{e:Int}(h:Z.orow b=some [.int .i64 0,.int .i64 0]) (hb:b<Z.n):caughtV Tryz.prog 86 (.pointer (some ⟨b,0,none⟩)) (.agg ⟨[.int .i64 p,.int .i64 e]⟩) Z=some (((Z.new [.int .i64 0,.int .i64 0] (some 86)).upd Z.n [.int .i64 p,.int .i64 e]).upd b [.int .i64 p,.int .i64 e]):=by
 have hz:zero? Tryz.prog 86=some (.agg ⟨[.int .i64 0,.int .i64 0]⟩):=by kernel_rfl
 have hs:size? Tryz.prog 86=some 2:=by kernel_rfl
 have st:∀ (s:St) (q:Nat) (x y a c:Value),s.orow q=some [x,y]->storeV Tryz.prog s 86 (.pointer (some ⟨q,0,none⟩)) (.agg ⟨[a,c]⟩)=some (s.upd q [a,c]):=by
  intro s q x y a c hq
  unfold storeV
  rw [show at? (.pointer (some ⟨q,0,none⟩))=some (q,0) from rfl,ob_some,pr_mk,hs,ob_some]
  show s.write q 0 [a,c]=_
  rw [write_eq,hq,ob_some]
  rfl
 unfold caughtV
 rw [hz,ob_some,show ptrTo Z.n= .pointer (some ⟨Z.n,0,none⟩) from rfl]
 rw [st _ Z.n (.int .i64 0) (.int .i64 0) _ _ (cL),ob_some]
 refine gS ?_
 rw [ob_some,show sub [Value.int .i64 (p:Nat),.int .i64 e] 0 2=some [.int .i64 (p:Nat),.int .i64 e] from rfl,ob_some,ob_some]
 rw [st _ b (.int .i64 0) (.int .i64 0) _ _ (by rw [orow_upd_ne om,orow_new_ne om];exact h)]
theorem ifc_fault {p:Nat}{e:Int}:ifaceOf 86 (fault p e)=some (.agg ⟨[.int .i64 (p:Nat),.int .i64 e]⟩):=rfl
set_option maxHeartbeats 4000000 in
theorem caught_ok {g:Nat}{x y:Value}{Z:St}{R:CR->Prop}
  (hb:Ev (go Tryz.prog HS (.fn g) [x,y] (Z.new [.int .i64 0,.int .i64 0] (some 86))) (fun r=>Z.n<r.Z.n/\r.Z.orow Z.n=some [.int .i64 0,.int .i64 0]/\((r.pan=false/\r.v= .tuple ⟨[]⟩)\/∃ p e,r.pan=true/\r.v=fault p e)/\R r) ⟨⟩) :
  Ev (go Tryz.prog HS (.fn 38) [.func (.func g) ⟨[]⟩ ⟨[x,y]⟩] Z) (fun r=>∃ r0 Z' p e,R r0/\ExtX Z.n r0.Z Z'/\r=⟨false,.agg ⟨[.int .i64 (p:Nat),.int .i64 e]⟩,Z'⟩/\((r0.pan=false/\r0.v= .tuple ⟨[]⟩/\p=0/\e=0)\/(r0.pan=true/\r0.v=fault p e))) ⟨⟩:=by
 refine caught_go rfl ?_
 unfold caughtF2
 refine gS1 @nrm_n ?_
 refine hb.mono ?_
 rintro ⟨pn,v,Z1⟩ ⟨hn,ho,hc,hR⟩
 rcases hc with ⟨h1,h2⟩|⟨p,e,h1,h2⟩
 ·obtain rfl:pn=false:=h1
  obtain rfl:v= .tuple ⟨[]⟩:=h2
  refine gS1 (aI @nrp_n (aI @nrm_n @ho)) ?_
  exact ⟨⟨false,.tuple ⟨[]⟩,Z1⟩,_,0,0,hR,ExtX.upd .refl _,rfl,.inl ⟨rfl,rfl,rfl,rfl⟩⟩
 ·obtain rfl:pn=true:=h1
  obtain rfl:v=fault p e:=h2
  simp (maxSteps:=8000000) (disch:=first|exact dS|fail) only [↓bD,bW,reduceMul,reduceEqDiff,reduceAdd,Nat.reduceBEq,reduceIte,Option.isNone_none,nrp_p,ho,ifc_fault,caughtV_fault ho hn]
  exact ⟨⟨true,fault p e,Z1⟩,_,p,e,hR,ExtX.upd (ExtX.updF (ExtX.newF .refl _) (Nat.le_refl _) _) _,rfl,.inr ⟨rfl,rfl⟩⟩
def z20:List Value:=[str [],.slice none 0 0,.slice none 0 0,.slice none 0 0,.int .i64 0,.int .i64 0,str [],.int .i64 0,.int .i64 0,str [],.slice none 0 0,.slice none 0 0,.int .i64 0,.slice none 0 0,.int .i64 0,.int .i64 0,.int .i64 0,.int .i64 0,.int .i64 0,.int .i64 0]
theorem TnAt.keepH {Z Z':St}{cells:List Value}{T:Tn}(h:TnAt Z cells T) (hE:Keep Z Z'):TnAt Z' cells T:=by
 obtain ⟨vl,vc,vr,ex,vt,vk,h1,h2,h3,h4,h5,h6,vs,h7,h8⟩:=h
 exact ⟨vl,vc,vr,ex,vt,vk,h1,SL.keep h2 hE,SL.keep h3 hE,SL.keep h4 hE,h5.keep hE,SL.keep h6 hE,vs,SL.keep h7 hE,h8.mono fun _ _ hx=>SL.keep hx hE⟩
theorem TnAt.cells {Z:St}{cells:List Value}{T:Tn}(h:TnAt Z cells T):∃ a0 a1 a2 a3 a4 a5 a6 a7 a8 a9 a10 a11 a12 a13 a14 a15 a16 a17 a18 a19,cells=[a0,a1,a2,a3,a4,a5,a6,a7,a8,a9,a10,a11,a12,a13,a14,a15,a16,a17,a18,a19]:=by
 obtain ⟨vl,vc,vr,ex,vt,vk,rfl,-,-,-,h5,-⟩:=h
 obtain ⟨c1,c2,c3,c4,c5,rfl⟩:=fc5 h5
 exact ⟨_,_,_,_,_,_,_,_,_,_,_,_,_,_,_,_,_,_,_,_,rfl⟩
end Go.Proofs.T
namespace Go.Proofs.T
open Go Go.Ab
set_option maxRecDepth 100000
theorem pows_self:sameRow (some pows) (some pows)=true:=by kernel_rfl
theorem sanity_ok {Z:St}(h:Z.read 1 0 20=some pows):go Tryz.prog HS (.fn 12) [] Z=some ⟨false,.bool true,Z⟩:=by
 have e2:go Tryz.prog HS (.fn 12) [] Z=bb (sameRow (Z.read 1 0 20) (some pows)) (some ⟨false,.bool true,Z⟩):=rfl
 rw [e2,h,pows_self];rfl
end Go.Proofs.T
