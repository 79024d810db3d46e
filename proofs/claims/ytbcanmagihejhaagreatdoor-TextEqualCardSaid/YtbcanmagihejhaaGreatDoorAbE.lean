/- Po of a call of the model, read AJ5 the abstract EH memory: integers, strings, qq, structs and Qu of AH5. -/
import Derived.Test.YtbcanmagihejhaaGreatDoorAbD
import Derived.ChangeArms
import Derived.Laws.StructEq
set_option linter.unusedSimpArgs false
set_option linter.unusedVariables false
set_option maxHeartbeats 32000000
set_option maxRecDepth 100000
namespace Go.Ab.Ou
open Go Go.Ab
section
variable {P:Program} {W:World} {base:Env} {G:Nat} {H:Type} {enc:TypeId×Value->H}
def Cu {α:Type}(R:α->List Value->Prop):List α->List (List Value)->Prop
 | [],[]=>True
 | a::l,b::k=>R a b/\Cu R l k
 | _,_=>False
def Bw (P:Program) (Z:St):Nat->TypeId->List Value->Prop
 | 0,_,_=>False
 | f+1,t,cs=>match P.underlying t with
   | some .bool=>∃ b,cs=[.bool b]
   | some (.int k)=>∃ n,cs=[.int k n]/\(Lit.int k n).wf=true
   | some .string=>∃ s,cs=[.string s]/\s.size<=maxLen
   | some (.slice e)=>cs=[.slice none 0 0]\/∃ (b:Nat) (rows:List (List Value)) (cap:Nat),cs=[.slice (some ⟨b,0,none⟩) rows.length cap]/\rows.length<=cap/\cap<=maxLen/\b<Z.n/\Z.row b=some rows.flatten/\∀ r∈rows,r.length=P.cellsOf e/\Bw P Z f e r
   | some (.struct fs)=>∃ ps:List (List Value),cs=ps.flatten/\Cu (fun (fd:Field) p=>Bw P Z f fd.type p) fs.toList ps
   | some (.array n e)=>∃ ps:List (List Value),cs=ps.flatten/\ps.length=n/\∀ p∈ps,p.length=P.cellsOf e/\Bw P Z f e p
   | _=>False
def Rx (P:Program):List Field->Nat->Option Nat
 | [],o=>some o
 | f::fs,o=>if f.offset=o then Rx P fs (o+P.cellsOf f.type) else none
def Et (P:Program):Nat->TypeId->Bool
 | 0,_=>false
 | f+1,t=>match P.underlying t with
   | some .bool=>true
   | some (.int _)=>true
   | some .string=>true
   | some (.slice e)=>Nat.blt 0 (P.cellsOf e)&&Et P f e
   | some (.struct fs)=>(Rx P fs.toList 0==some (P.cellsOf t))&&fs.toList.all fun fd=>Et P f fd.type
   | some (.array n e)=>P.cellsOf t==n*P.cellsOf e&&Et P f e
   | _=>false
structure Kp (Z Z':St):Prop where
 n:Z.n<=Z'.n
 row:∀ b cells,b<Z.n->Z.row b=some cells->Z'.row b=some cells
theorem Kp.refl (Z:St):Kp Z Z:=⟨Nat.le_refl _,fun _ _ _ h=>h⟩
theorem Kp.trans {Z Z' Z'':St}(h:Kp Z Z') (k:Kp Z' Z''):Kp Z Z'':=⟨Nat.le_trans h.n k.n,fun b cells hb hr=>k.row b cells (Nat.lt_of_lt_of_le hb h.n) (h.row b cells hb hr)⟩
theorem Cu.mono {α:Type}{R S:α->List Value->Prop}(h:∀ a b,R a b->S a b):∀ {l:List α}{k:List (List Value)},Cu R l k->Cu S l k
 | [],[],_=>trivial
 | _::_,_::_,p=>⟨h _ _ p.1,p.2.mono h⟩
 | [],_::_,p=>p.elim
 | _::_,[],p=>p.elim
theorem Bw.mono {Z Z':St}(hK:Kp Z Z'):∀ {f:Nat}{t:TypeId}{cs:List Value},Bw P Z f t cs->Bw P Z' f t cs:=by
 intro f;induction f with
 | zero=>intro t cs h;exact h
 | succ f ih =>
   intro t cs h;unfold Bw at h ⊢;split at h
   ·exact h
   ·exact h
   ·exact h
   ·rcases h with h|⟨b,rows,cap,h1,h2,h3,h4,h5,h6⟩
    ·exact .inl h
    ·exact .inr ⟨b,rows,cap,h1,h2,h3,Nat.lt_of_lt_of_le h4 hK.n,hK.row _ _ h4 h5,fun r hr=>⟨(h6 r hr).1,ih (h6 r hr).2⟩⟩
   ·obtain ⟨ps,h1,h2⟩:=h;exact ⟨ps,h1,h2.mono fun _ _ h=>ih h⟩
   ·obtain ⟨ps,h1,h2,h3⟩:=h;exact ⟨ps,h1,h2,fun p hp=>⟨(h3 p hp).1,ih (h3 p hp).2⟩⟩
   ·exact h
structure Inv (base:Env) (G:Nat) (W:World) (Z:St) (O:Place):Prop where
 rel:Rel base O Z W
 own:My Z
 free:∀ b,Z.n<=b->O b=none
 yn:Am O G
 nil:∃ b,b<Z.n/\Z.row b=some []/\∃ q,O b=some q
theorem D8.len {O:Place}{l l':List Value}(h:D8 O l l'):l.length=l'.length:=by
 induction l generalizing l' with
 | nil=>cases h;rfl
 | cons a l ih=>cases h with|cons h hs=>simp [ih hs]
theorem Inv.arg {Z:St}{O:Place}(h:Inv base G W Z O){c o:Nat}{cells:List Value}{arr:Array Value}{e:TypeId}{f:Nat×Nat}(hh:W.heap[c]? =some (.cells arr e f)) (ho:o+cells.length<=arr.size) (hlo:W.heap.size<=base.lo)
  (hc:∀ v∈cells,K9 v=true) (hv:∀ (i:Nat) (v:Value),cells[i]? =some v->∃ v',arr[o+i]? =some v'/\H5 O v v') :
  Inv base G W (Z.arg cells) (O.put Z.n ⟨c,o,arr.size⟩)/\Kp Z (Z.arg cells)/\O.le (O.put Z.n ⟨c,o,arr.size⟩):=by
 have hle:O.le (O.put Z.n ⟨c,o,arr.size⟩):=Place.FP _ (h.free _ (Nat.le_refl _));have hcw:c<W.heap.size:=by
  rcases Nat.lt_or_ge c W.heap.size with h|h
  ·exact h
  ·rw [Array.getElem?_eq_none h] at hh;cases hh
 have hk:Kp Z (Z.arg cells):=⟨by rw [QO];omega,fun b cs hb hr=>by rw [OO _ _ om];exact hr⟩
 refine ⟨⟨Yb h.rel h.own h.free hh rfl ho om hc hv,h.own.arg _,UW h.free,h.yn.mono hle,?_⟩,hk,hle⟩;obtain ⟨b,h1,h2,q,h3⟩:=h.nil;exact ⟨b,Nat.lt_of_lt_of_le h1 hk.n,hk.row _ _ h1 h2,q,hle _ _ h3⟩
theorem gj {α:Type}{sz:Nat}(hs:0<sz):∀ {rows:List (List α)}{i:Nat}{v:α},(∀ r∈rows,r.length=sz)->rows.flatten[i]? =some v->∃ r,rows[i / sz]? =some r/\r[i % sz]? =some v:=by
 intro rows;induction rows with
 | nil=>intro i v _ h;simp at h
 | cons r rows ih =>
   intro i v hr h;have hl:=hr r (by simp);by_cases hi:i<sz
   ·rw [List.flatten_cons,List.getElem?_append_left om] at h;exact ⟨r,by rw [Nat.div_eq_of_lt hi];rfl,by rw [Nat.mod_eq_of_lt hi];exact h⟩
   ·rw [List.flatten_cons,List.getElem?_append_right om] at h;obtain ⟨r',h1,h2⟩:=ih (fun r hm=>hr r (by simp [hm])) h;rw [hl] at h1 h2;have e1:i / sz=(i-sz) / sz+1:=by rw [Nat.div_eq_sub_div hs om]
    have e2:i % sz=(i-sz) % sz:=Nat.mod_eq_sub_mod om;exact ⟨r',by rw [e1,List.getElem?_cons_succ];exact h1,by rw [e2];exact h2⟩
theorem Hb {w:World}{b n:Nat}{a:Addr}{cs:List Value}(h:w.cells? b a n=some cs):cs.length=n:=by
 unfold World.cells? at h;split at h
 ·simpa using mapM_some_length h
 ·cases h
theorem UX {w:World}{b n i:Nat}{a:Addr}{cs:List Value}(h:w.cells? b a n=some cs) (hi:i<n):w.cell? (a.add i)=cs[i]? :=by
 unfold World.cells? at h;split at h
 ·exact mapM_some_get h i i (by simp [hi])
 ·cases h
theorem o7 {a:Addr}(hs:a.spot=none) (i:Nat):a.add i=⟨a.block,a.off+i,none⟩:=by
 obtain ⟨b,o,s⟩:=a;cases (show s=none from hs);unfold Addr.add;split <;> simp_all
theorem Kw {f:Nat}{base:Env}
  (ih:∀ t cs x,DataW.trod enc P W 0 (fun _=>true) true f t cs=some x->Et P f t=true->∀ Z O,Inv base G W Z O->∃ Z' O' cs',Inv base G W Z' O'/\Kp Z Z'/\O.le O'/\D8 O' cs' cs/\Bw P Z' f t cs'/\∀ v∈cs',K9 v=true) :
  ∀ (L:List (TypeId×List Value)),(∀ p∈L,Et P f p.1=true/\∃ x,DataW.trod enc P W 0 (fun _=>true) true f p.1 p.2=some x)->∀ Z O,Inv base G W Z O ->
   ∃ Z' O' ps,Inv base G W Z' O'/\Kp Z Z'/\O.le O'/\Cu (fun (p:TypeId×List Value) c=>D8 O' c p.2/\Bw P Z' f p.1 c/\∀ v∈c,K9 v=true) L ps:=by
 intro L;induction L with
 | nil=>intro _ Z O h;exact ⟨Z,O,[],h,.refl _,Place.le_refl _,trivial⟩
 | cons p L ihL =>
   intro hL Z O h;obtain ⟨hd,x,hx⟩:=hL p (by simp);obtain ⟨Z1,O1,c,i1,k1,l1,v1,a1,c1⟩:=ih _ _ _ hx hd Z O h;obtain ⟨Z2,O2,ps,i2,k2,l2,q⟩:=ihL (fun p hp=>hL p (by simp [hp])) Z1 O1 i1;exact ⟨Z2,O2,c::ps,i2,k1.trans k2,Place.le_trans l1 l2,⟨v1.mono l2,a1.mono k2,c1⟩,q⟩
theorem Cu.len {α:Type}{R:α->List Value->Prop}:∀ {l:List α}{k:List (List Value)},Cu R l k->l.length=k.length
 | [],[],_=>rfl
 | _::_,_::_,p=>by rw [List.length_cons,List.length_cons,p.2.len]
 | [],_::_,p=>p.elim
 | _::_,[],p=>p.elim
theorem Cu.get {α:Type}{R:α->List Value->Prop}:∀ {l:List α}{k:List (List Value)}{i:Nat}{b:List Value},Cu R l k->k[i]? =some b->∃ a,l[i]? =some a/\R a b
 | a::l,b::k,0,_,p,h=>by cases h;exact ⟨a,rfl,p.1⟩
 | a::l,b::k,i+1,_,p,h=>p.2.get (i:=i) (by simpa using h)
 | [],[],_,_,_,h=>by simp at h
 | [],_::_,_,_,p,_=>p.elim
 | _::_,[],_,_,p,_=>p.elim
theorem Cu.EN {α:Type}{R:α->List Value->Prop}:∀ {l:List α}{k:List (List Value)},l.length=k.length->(∀ (i:Nat) (a:α) (b:List Value),l[i]? =some a->k[i]? =some b->R a b)->Cu R l k
 | [],[],_,_=>trivial
 | a::l,b::k,h,hR=>⟨hR 0 a b rfl rfl,Cu.EN (by simpa using h) fun i a b h1 h2=>hR (i+1) a b (by simpa using h1) (by simpa using h2)⟩
 | [],_::_,h,_=>by simp at h
 | _::_,[],h,_=>by simp at h
theorem JD {α:Type}{R:α->List Value->Prop}{O:Place}{g:α->List Value}(hR:∀ a c,R a c->D8 O c (g a)):∀ {l:List α}{k:List (List Value)},Cu R l k->D8 O k.flatten (l.map g).flatten
 | [],[],_=> .nil
 | a::l,b::k,p=>by
   rw [List.flatten_cons,List.map_cons,List.flatten_cons];exact Ab.D8.append (JD hR p.2) (hR _ _ p.1)
 | [],_::_,p=>p.elim
 | _::_,[],p=>p.elim
theorem Ll {cs:List Value}:∀ {fs:List Field}{o n:Nat},Rx P fs o=some n->n<=cs.length->(fs.map fun fd=>(cs.drop fd.offset).take (P.cellsOf fd.type)).flatten=(cs.drop o).take (n-o)/\o<=n
 | [],o,n,h,hl=>by
   cases h;simp
 | fd::fs,o,n,h,hl=>by
   unfold Rx at h;split at h
   ·rename_i ho;subst ho;obtain ⟨h1,h2⟩:=Ll h hl;refine ⟨?_,om⟩;rw [List.map_cons,List.flatten_cons,h1];have e:n-fd.offset=P.cellsOf fd.type+(n-(fd.offset+P.cellsOf fd.type)):=om;rw [e,List.take_add,List.drop_drop]
   ·cases h
theorem Kx {α β:Type}{R:β->List Value->Prop}(g:α->β):∀ {l:List α}{k:List (List Value)},Cu R (l.map g) k->Cu (fun a c=>R (g a) c) l k
 | [],[],_=>trivial
 | _::_,_::_,p=>⟨p.1,Kx g p.2⟩
 | [],_::_,p=>p.elim
 | _::_,[],p=>p.elim
theorem imp (hlo:W.heap.size<=base.lo):∀ f t cs x,DataW.trod enc P W 0 (fun _=>true) true f t cs=some x->Et P f t=true->∀ Z O,Inv base G W Z O ->
  ∃ Z' O' cs',Inv base G W Z' O'/\Kp Z Z'/\O.le O'/\D8 O' cs' cs/\Bw P Z' f t cs'/\∀ v∈cs',K9 v=true:=by
 intro f;induction f with
 | zero=>intro t cs x _ hd;cases hd
 | succ f ih =>
   intro t cs x h hd Z O hI;unfold Et at hd;have Sz:∀ v,K9 v=true->∀ w∈[v],K9 w=true:=fun v hv w hw=>by rw [List.mem_singleton] at hw;subst hw;exact hv
   split at hd
   ·rename_i ht;obtain ⟨b,rfl⟩:∃ b,cs=[.bool b]:=by
     unfold DataW.trod at h;rw [ht] at h;split at h <;> simp_all
    exact ⟨Z,O,[.bool b],hI,.refl _,Place.le_refl _,.cons (.H9 rfl) .nil,by unfold Bw;rw [ht];exact ⟨b,rfl⟩,Sz _ rfl⟩
   ·rename_i k ht;obtain ⟨n,rfl,hwf⟩:∃ n,cs=[.int k n]/\(Lit.int k n).wf=true:=by
     unfold DataW.trod at h;rw [ht] at h;split at h <;> simp_all
    exact ⟨Z,O,[.int k n],hI,.refl _,Place.le_refl _,.cons (.H9 rfl) .nil,by unfold Bw;rw [ht];exact ⟨n,rfl,hwf⟩,Sz _ rfl⟩
   ·rename_i ht;obtain ⟨s,rfl,hsl⟩:∃ s,cs=[.string s]/\s.size<=maxLen:=by
     unfold DataW.trod at h;rw [ht] at h;split at h <;> simp_all
    exact ⟨Z,O,[.string s],hI,.refl _,Place.le_refl _,.cons (.H9 rfl) .nil,by unfold Bw;rw [ht];exact ⟨s,rfl,hsl⟩,Sz _ rfl⟩
   ·rename_i e ht;rw [Bool.and_eq_true,Nat.blt_eq] at hd;obtain ⟨hsz,hde⟩:=hd;rcases DataW.trod_slice ht h with ⟨rfl,_⟩|⟨a,len,cap,elems,rest,n,hn,rfl,_,_,hl,hm,hlen,hel,hsp,_⟩
    ·exact ⟨Z,O,[.slice none 0 0],hI,.refl _,Place.le_refl _,.cons (.H9 rfl) .nil,by unfold Bw;rw [ht];exact .inl rfl,Sz _ rfl⟩
    ·obtain rfl:n=f:=om
     -- the elements
     have qR:∀ i,i<len->∃ c x,W.cells? 0 (a.add (i*P.cellsOf e)) (P.cellsOf e)=some c/\DataW.trod enc P W 0 (fun _=>true) true n e c=some x:=by
      intro i hi;have h1:=hel i hi;rw [List.getElem?_eq_getElem om] at h1;cases hc:W.cells? 0 (a.add (i*P.cellsOf e)) (P.cellsOf e) with
      | none=>rw [hc] at h1;cases h1
      | some c=>rw [hc] at h1;exact ⟨c,_,rfl,h1⟩
     let g:Nat->List Value:=fun i=>(W.cells? 0 (a.add (i*P.cellsOf e)) (P.cellsOf e)).getD []
     have hg:∀ i,i<len->W.cells? 0 (a.add (i*P.cellsOf e)) (P.cellsOf e)=some (g i):=fun i hi=>by
      obtain ⟨c,x,h1,h2⟩:=qR i hi;show _=some (Option.getD _ _);rw [h1];rfl
     obtain ⟨Z1,O1,ps,i1,k1,l1,q1⟩:=Kw ih ((List.range len).map fun i=>(e,g i)) (fun p hp=>by
      obtain ⟨i,hi,rfl⟩:=List.mem_map.1 hp;rw [List.mem_range] at hi;obtain ⟨c,x,h1,h2⟩:=qR i hi;rw [hg i hi] at h1;cases h1;exact ⟨hde,x,h2⟩) Z O hI
     have hpl:ps.length=len:=by rw [<- q1.len];simp
     have Fc:∀ (i:Nat) (r:List Value),ps[i]? =some r->i<len/\D8 O1 r (g i)/\Bw P Z1 n e r/\(∀ v∈r,K9 v=true)/\r.length=P.cellsOf e:=by
      intro i r hr;obtain ⟨p,h1,h2,h3,h4⟩:=q1.get hr;have hi:i<len:=by rw [<- hpl];exact (List.getElem?_eq_some_iff.1 hr).1
      rw [List.getElem?_map,List.getElem?_range hi] at h1;cases h1;exact ⟨hi,h2,h3,h4,by rw [D8.len h2];exact Hb (hg i hi)⟩
     have hrl:∀ r∈ps,r.length=P.cellsOf e:=fun r hr=>by
      obtain ⟨i,hi⟩:=List.getElem?_of_mem hr;exact (Fc i r hi).2.2.2.2
     have hfl:=BX ps hrl;by_cases hc0:cap=0
     ·subst hc0;obtain rfl:len=0:=om;obtain ⟨b,b1,b2,q,b3⟩:=i1.nil;obtain rfl:ps=[]:=List.eq_nil_of_length_eq_zero hpl;refine ⟨Z1,O1,[.slice (some ⟨b,0,none⟩) 0 0],i1,k1,l1,.cons (.Al b3) .nil,?_,Sz _ rfl⟩;unfold Bw;rw [ht];exact .inr ⟨b,[],0,rfl,Nat.le_refl _,hm,b1,b2,fun r hr=>by cases hr⟩
     ·
      have tt:∃ c,W.cells? 0 (a.add (0*P.cellsOf e)) (P.cellsOf e)=some c:=by
       by_cases hl0:0<len
       ·exact ⟨_,hg 0 hl0⟩
       ·obtain ⟨h1,h2⟩:=hsp rfl;have h3:=h2 0 om;rw [List.getElem?_eq_getElem om,show len+0=0 by omega] at h3;cases hc:W.cells? 0 (a.add (0*P.cellsOf e)) (P.cellsOf e) with
        | none=>rw [hc] at h3;cases h3
        | some c=>exact ⟨c,rfl⟩
      obtain ⟨c0,yp⟩:=tt;have hcl:=Hb yp;have h00:=UX yp (i:=0) hsz;rw [List.getElem?_eq_getElem om] at h00;obtain ⟨arr,el,fr,hh,hs,h0⟩:=UY h00;have haz:(a.add (0*P.cellsOf e)).add 0=a:=by rw [Nat.zero_mul];obtain ⟨b,o,s⟩:=a;unfold Addr.add;simp
      rw [haz] at hh hs h0;have AJ6:∀ i j,(a.add i).add j=⟨a.block,a.off+i+j,none⟩:=fun i j=>by
       have e1:a.add i=⟨a.block,a.off+i,none⟩:=by
        obtain ⟨b,o,s⟩:=a;cases (show s=none from hs);exact Ab.o7 _ _ _
       rw [e1,Ab.o7]
      have hat:∀ i j,i<len->j<P.cellsOf e->arr[a.off+i*P.cellsOf e+j]? =(g i)[j]? :=by
       intro i j hi hj;have h1:=UX (hg i hi) hj;rw [AJ6] at h1;have h2:=Hb (hg i hi);rw [List.getElem?_eq_getElem om] at h1 ⊢;obtain ⟨yq,el',fr',h3,_,h4⟩:=UY h1;rw [hh] at h3;cases h3;exact h4
      have qC:a.off+ps.flatten.length<=arr.size:=by
       rw [hfl,hpl];by_cases hl0:0<len
       ·have h1:=hat (len-1) (P.cellsOf e-1) om om;have h2:=Hb (hg (len-1) om);rw [List.getElem?_eq_getElem om] at h1;obtain ⟨h3,_⟩:=Array.getElem?_eq_some_iff.1 h1;have e1:len*P.cellsOf e=(len-1)*P.cellsOf e+P.cellsOf e:=by rw [<- Nat.succ_mul];congr 1;omega
        omega
       ·obtain rfl:len=0:=om;obtain ⟨h3,_⟩:=Array.getElem?_eq_some_iff.1 h0;omega
      obtain ⟨i2,k2,l2⟩:=i1.arg (cells:=ps.flatten) hh qC hlo (fun v hv=>by
       obtain ⟨r,hr,hvr⟩:=List.mem_flatten.1 hv;obtain ⟨i,hi⟩:=List.getElem?_of_mem hr;exact (Fc i r hi).2.2.2.1 v hvr) (fun i v hi=>by
       obtain ⟨r,h1,h2⟩:=gj hsz hrl hi;obtain ⟨h3,h4,-⟩:=Fc _ r h1;obtain ⟨v',h5,h6⟩:=h4.get h2;refine ⟨v',?_,h6⟩;have h7:=hat _ _ h3 (Nat.mod_lt i hsz);rw [h5,Nat.add_assoc,Nat.div_add_mod'] at h7;exact h7)
      refine ⟨_,_,[.slice (some ⟨Z1.n,0,none⟩) len cap],i2,k1.trans k2,Place.le_trans l1 l2,.cons ?_ .nil,?_,Sz _ rfl⟩
      ·have:some a=some ⟨(⟨a.block,a.off,arr.size⟩:V9).c,(⟨a.block,a.off,arr.size⟩:V9).o+0,none⟩:=by
        obtain ⟨b,o,s⟩:=a;cases (show s=none from hs);rfl
       rw [this];exact .slice (Place.P1 _ _ _)
      ·unfold Bw;rw [ht];refine .inr ⟨Z1.n,ps,cap,by rw [hpl],om,hm,by rw [QO];omega,Yc _ _,fun r hr=>?_⟩;obtain ⟨i,hi⟩:=List.getElem?_of_mem hr;obtain ⟨-,-,h3,-,h5⟩:=Fc i r hi;exact ⟨h5,h3.mono k2⟩
   ·rename_i fs ht;rw [Bool.and_eq_true,beq_iff_eq,List.all_eq_true] at hd;obtain ⟨hct,hde⟩:=hd;obtain ⟨xs,n,hn,_,hcl,hxl,hx⟩:=DataW.trod_struct ht h;obtain rfl:n=f:=om;obtain ⟨Z1,O1,ps,i1,k1,l1,q1⟩:=Kw ih (fs.toList.map fun fd=>(fd.type,(cs.drop fd.offset).take (P.cellsOf fd.type))) (fun p hp=>by
     obtain ⟨fd,hfd,rfl⟩:=List.mem_map.1 hp;obtain ⟨i,hi⟩:=List.getElem?_of_mem hfd;refine ⟨hde fd hfd,?_⟩;have hlt:i<fs.size:=by
      have:=(List.getElem?_eq_some_iff.1 hi).1
      simpa using this
     have h1:=hx i fd (by rw [<- Array.getElem?_toList];exact hi);rw [List.getElem?_eq_getElem om] at h1;exact ⟨_,h1⟩) Z O hI
    have q2:=Kx _ q1;refine ⟨Z1,O1,ps.flatten,i1,k1,l1,?_,?_,?_⟩
    ·have h1:=JD (g:=fun fd:Field=>(cs.drop fd.offset).take (P.cellsOf fd.type)) (O:=O1) (fun a c h=>h.1) q2;obtain ⟨h2,-⟩:=Ll (cs:=cs) hct om;rw [h2,List.drop_zero,Nat.sub_zero,<- hcl,List.take_length] at h1;exact h1
    ·unfold Bw;rw [ht];exact ⟨ps,rfl,q2.mono fun a c h=>h.2.1⟩
    ·intro v hv;obtain ⟨r,hr,hvr⟩:=List.mem_flatten.1 hv;obtain ⟨i,hi⟩:=List.getElem?_of_mem hr;obtain ⟨p,-,hp⟩:=q1.get hi;exact hp.2.2 v hvr
   ·rename_i m e ht;rw [Bool.and_eq_true,beq_iff_eq] at hd;obtain ⟨hct,hde⟩:=hd;have Hj:cs.length=P.cellsOf t/\∀ i,i<m->∃ x,DataW.trod enc P W 0 (fun _=>true) true f e ((cs.drop (i*P.cellsOf e)).take (P.cellsOf e))=some x:=by
     unfold DataW.trod at h;rw [ht] at h;split at h <;> simp_all;obtain ⟨xs,hp,hd⟩:=h.2;refine fun i hi=>?_;have h1:=mapM_some_get hp i i (by simp [hi]);have h2:=mapM_some_length hp;rw [List.length_range] at h2;rw [List.getElem?_eq_getElem om] at h1;exact ⟨_,_,h1⟩
    obtain ⟨hcl,hx⟩:=Hj;obtain ⟨Z1,O1,ps,i1,k1,l1,q1⟩:=Kw ih ((List.range m).map fun i=>(e,(cs.drop (i*P.cellsOf e)).take (P.cellsOf e))) (fun p hp=>by
     obtain ⟨i,hi,rfl⟩:=List.mem_map.1 hp;rw [List.mem_range] at hi;exact ⟨hde,hx i hi⟩) Z O hI
    have q2:=Kx _ q1;have hpl:ps.length=m:=by rw [<- q1.len];simp
    have Dq:∀ m,((List.range m).map fun i=>(cs.drop (i*P.cellsOf e)).take (P.cellsOf e)).flatten=cs.take (m*P.cellsOf e):=by
     intro m;induction m with
     | zero=>simp
     | succ m ihm =>
       rw [List.range_succ,List.map_append,List.flatten_append,ihm,Nat.succ_mul,List.take_add];simp
    refine ⟨Z1,O1,ps.flatten,i1,k1,l1,?_,?_,?_⟩
    ·have h1:=JD (g:=fun i:Nat=>(cs.drop (i*P.cellsOf e)).take (P.cellsOf e)) (O:=O1) (fun a c h=>h.1) q2;rw [Dq,<- hct,<- hcl,List.take_length] at h1;exact h1
    ·unfold Bw;rw [ht];refine ⟨ps,rfl,hpl,fun p hp=>?_⟩;obtain ⟨i,hi⟩:=List.getElem?_of_mem hp;obtain ⟨j,h1,h2⟩:=q2.get hi;have hj:i<m:=by rw [<- hpl];exact (List.getElem?_eq_some_iff.1 hi).1
     rw [List.getElem?_range hj] at h1;cases h1;refine ⟨?_,h2.2.1⟩;rw [D8.len h2.1,List.length_take,List.length_drop,hcl,hct];have:(i+1)*P.cellsOf e<=m*P.cellsOf e:=Nat.mul_le_mul_right _ hj;rw [Nat.succ_mul] at this;omega
    ·intro v hv;obtain ⟨r,hr,hvr⟩:=List.mem_flatten.1 hv;obtain ⟨i,hi⟩:=List.getElem?_of_mem hr;obtain ⟨p,-,hp⟩:=q1.get hi;exact hp.2.2 v hvr
   ·cases hd
end
end Go.Ab.Ou
namespace Go.Ab
open Go
theorem Mc {α:Type}{P:Program}{a:α}:N1 P (pure a:Sem α)=some a:=rfl
theorem BC {α β:Type}{P:Program}{f:α->Sem β}(s:Sem α):N1 P (s >>= f)=ob (N1 P s) fun a=>N1 P (f a):=by
 show N1 P (s.bind f)=_;induction s with
 | pure a=>rfl
 | program k ih=>exact ih P
 | mark m k ih=>exact ih
 | _=>rfl
theorem JF {P:Program}:N1 P program=some P:=rfl
noncomputable def eqF (P:Program) (d:Nat) (xs ys:Array Value):List Field->Option Bool
 | []=>some true
 | f::fs=>bi (f.name != "_") (ob (N1 P (part f.type xs f.offset)) fun a=>ob (N1 P (part f.type ys f.offset)) fun b=>ob (N1 P (Op.equalIn d f.type a b)) fun r=>bi r (eqF P d xs ys fs) (some false)) (eqF P d xs ys fs)
theorem OY {α:Type}{P:Program}{c:Prop} [Decidable c] {x y:Sem α}:N1 P (if c then x else y)=if c then N1 P x else N1 P y:=by split <;> rfl
theorem QW {P:Program}{d:Nat}{xs ys:Array Value}:∀ fs:List Field,N1 P (Op.eqFields d xs ys fs)=eqF P d xs ys fs
 | []=>rfl
 | f::fs=>by
   have ih:=QW (P:=P) (d:=d) (xs:=xs) (ys:=ys) fs;unfold Op.eqFields eqF;rw [OY];by_cases h:f.name= "_"
   ·rw [if_neg (by simpa using h),show (f.name != "_")=false from by simpa using h,o9,ih]
   ·rw [if_pos h,show (f.name != "_")=true from by simpa using h,I8,BC]
    congr 1;funext a;rw [BC];congr 1;funext b;rw [BC];congr 1;funext r;rw [OY];cases r with
    | true=>rw [if_neg (by simp),I8,ih]
    | false=>rw [if_pos (by simp),o9];rfl
theorem iw {P:Program}{t:TypeId}{u:TypeDesc}(h:P.underlying t=some u):N1 P (underlying t)=some u:=by
 unfold underlying;rw [BC,JF,C6];simp only [h];rfl
theorem bj {P:Program}{d:Nat}{t:TypeId}{xs ys:Array Value}(ht:P.underlying t=some (.struct (P.fieldsOf t))) (hp:P.stoodInHeld t=false) :
  N1 P (Op.equalIn (d+1) t (.agg xs) (.agg ys))=eqF P d xs ys (P.fieldsOf t).toList:=by
 rw [<- QW];simp only [Op.equalIn];rw [BC,iw ht,C6];simp only [BC,JF,C6,hp,Bool.false_eq_true,if_false];rw [<- Array.forIn_toList];generalize (P.fieldsOf t).toList=fs;clear ht;induction fs with
 | nil=>rfl
 | cons f fs ih =>
   simp only [List.forIn_cons,Op.eqFields,BC,OY];by_cases hn:f.name= "_"
   ·simp only [ne_eq,hn,not_true,if_false,Mc,C6];exact ih
   ·simp only [ne_eq,hn,not_false_iff,if_true,BC];cases N1 P (part f.type xs f.offset) with
    | none=>rfl
    | some a =>
      simp only [C6];cases N1 P (part f.type ys f.offset) with
      | none=>rfl
      | some b =>
        simp only [C6];cases N1 P (Op.equalIn d f.type a b) with
        | none=>rfl
        | some r =>
          cases r
          ·simp only [C6,Bool.not_false,if_true,Mc]
          ·simp only [C6,Bool.not_true,Bool.false_eq_true,if_false,Mc];exact ih
theorem Fz {P:Program}{t:TypeId}{x y:Operand}{xs ys:Array Value}{o:Option Bool}(hf:(IL xs&&IL ys)=true) (hm:P.eqGuardType P.depth t=false) (ht:P.underlying t=some (.struct (P.fieldsOf t))) (hp:P.stoodInHeld t=false)
  (he:eqF P 9999 xs ys (P.fieldsOf t).toList=o):Aw P .eql t x y (.agg xs) (.agg ys)=(ob o fun b=>some (.bool b))/\Aw P .neq t x y (.agg xs) (.agg ys)=ob o fun b=>some (.bool !b):=by
 have hg:∀ op,N1 P (eqGuard op t x y (.agg xs) (.agg ys))=some ():=by
  intro op;unfold eqGuard;rw [OY];cases op <;> first|rfl|(simp only [Bool.not_true,Bool.false_eq_true,if_false,BC,JF,C6,hm,Bool.not_false,if_true,OY,Mc])
 have h1:N1 P (Op.equal t (.agg xs) (.agg ys))=o:=by
  unfold Op.equal;exact (bj (d:=9999) ht hp).trans he
 constructor
 ·show bi (IL xs&&IL ys) (Fm P .eql t x y (.agg xs) (.agg ys)) _=_;rw [hf,I8];unfold Fm;rw [BC,BC,hg,C6];show ob (Hr (ob (N1 P (binOp .eql t (.agg xs) (.agg ys))) _)) cst=_;simp only [binOp];rw [BC,h1];cases o <;> rfl
 ·show bi (IL xs&&IL ys) (Fm P .neq t x y (.agg xs) (.agg ys)) _=_;rw [hf,I8];unfold Fm;rw [BC,BC,hg,C6];show ob (Hr (ob (N1 P (binOp .neq t (.agg xs) (.agg ys))) _)) cst=_;simp only [binOp];rw [BC,h1];cases o <;> rfl
end Go.Ab
