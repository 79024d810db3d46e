/- A builder of text; put. -/
import Derived.Test.YtbcanmagihejhaaGreatDoorSA
import Derived.Test.YtbcanmagihejhaaGreatDoorRC
import Derived.Test.YtbcanmagihejhaaGreatDoorRE
set_option linter.unusedSimpArgs false
set_option linter.unusedVariables false
namespace Go.Proofs.T
open Go Go.Ab
open Nat (reduceMul reduceEqDiff reduceAdd)
set_option maxRecDepth 100000
theorem typ_congr {Z Z':St}{b:Nat}(h:Z'.h.get b=Z.h.get b):Z'.typ b=Z.typ b:=by
 show ob (Z'.h.get b) _=ob (Z.h.get b) _
 rw [h]
theorem typ_new_same {Z:St}{cs:List Value}{t:Option TypeId}:(Z.new cs t).typ Z.n=t:=by
 show ob ((Z.new cs t).h.get Z.n) _=_
 rw [new_get,if_pos rfl];rfl
theorem typ_upd {Z:St}{c b:Nat}{cs:List Value}:(Z.upd c cs).typ b=Z.typ b:=by
 show ob ((Z.upd c cs).h.get b) _=_
 rw [upd_get]
 by_cases h:b=c
 ·subst h;rw [if_pos rfl];rfl
 ·rw [if_neg h];rfl
structure BDN (Z:St) (b:Nat) (t:By) (N:Nat):Prop where
 lt:b<N
 le:N<=Z.n
 typ:Z.typ b=some 116
 rows:(t=[]/\Z.orow b=some [.pointer none,.slice none 0 0])\/∃ g,t≠[]/\Z.orow b=some [.pointer (some ⟨b,0,none⟩),.slice (some ⟨g,0,some 1⟩) t.length t.length]/\b<g/\g<N/\Z.typ g=some 5/\Z.orow g=some (bytesV t)
abbrev BD (Z:St) (b:Nat) (t:By):Prop:=BDN Z b t Z.n
theorem BDN.ext {Z Z':St}{b N:Nat}{t:By}(h:BDN Z b t N) (hE:Ext Z Z'):BDN Z' b t N:=by
 obtain ⟨h1,hN,h2,h3⟩:=h
 refine ⟨h1,Nat.le_trans hN hE.n,by rw [typ_congr (hE.same b om)];exact h2,?_⟩
 rcases h3 with ⟨a1,a2⟩|⟨g,a1,a2,a3,a4,a5,a6⟩
 ·exact .inl ⟨a1,by rw [hE.orow om];exact a2⟩
 ·exact .inr ⟨g,a1,by rw [hE.orow om];exact a2,a3,a4,by rw [typ_congr (hE.same g om)];exact a5,by rw [hE.orow om];exact a6⟩
theorem BDN.up {Z:St}{b N:Nat}{t:By}(h:BDN Z b t N):BD Z b t:=by
 obtain ⟨h1,hN,h2,h3⟩:=h
 refine ⟨om,Nat.le_refl _,h2,?_⟩
 rcases h3 with h|⟨g,a1,a2,a3,a4,a5,a6⟩
 ·exact .inl h
 ·exact .inr ⟨g,a1,a2,a3,om,a5,a6⟩
def BR (Z:St) (N b:Nat) (t:By) (v:Value):Prop:=(t=[]/\v= .slice none 0 0)\/∃ g,t≠[]/\v= .slice (some ⟨g,0,some 1⟩) t.length t.length/\b<g/\g<N/\Z.typ g=some 5/\Z.orow g=some (bytesV t)
theorem ck_ok {Z:St}{b N:Nat}{t:By}(h:BDN Z b t N):∃ Z' v,go Tryz.prog HS (.fn 110) [.pointer (some ⟨b,0,none⟩)] Z=some ⟨false,.tuple ⟨[]⟩,Z'⟩/\ExtX b Z Z'/\Z'.n=Z.n/\Z'.typ b=some 116/\Z'.orow b=some [.pointer (some ⟨b,0,none⟩),v]/\BR Z' N b t v:=by
 obtain ⟨h1,hN,h2,h3⟩:=h
 rcases h3 with ⟨a1,a2⟩|⟨g,a1,a2,a3,a4,a5,a6⟩
 ·refine ⟨Z.upd b [.pointer (some ⟨b,0,none⟩),.slice none 0 0],.slice none 0 0,?_,ExtX.refl.upd _,rfl,by rw [typ_upd];exact h2,cL,.inl ⟨a1,rfl⟩⟩
  have r1:Z.read b 0 2=some [.pointer none,.slice none 0 0]:=by rw [read_eq,row_of a2];rfl
  have w1:Z.write b 0 [.pointer (some ⟨b,0,none⟩)]=some (Z.upd b [.pointer (some ⟨b,0,none⟩),.slice none 0 0]):=by rw [write_eq,a2];rfl
  show ckF [.pointer (some ⟨b,0,none⟩)] Z=_
  show ob (Z.typ b) _=_
  rw [h2]
  show ob (Z.read b 0 2) _=_
  rw [r1]
  show ob (Z.write b 0 [.pointer (some ⟨b,0,none⟩)]) _=_
  rw [w1]
  rfl
 ·refine ⟨Z,.slice (some ⟨g,0,some 1⟩) t.length t.length,?_,.refl,rfl,h2,a2,.inr ⟨g,a1,rfl,a3,a4,a5,a6⟩⟩
  have r1:Z.read b 0 2=some [.pointer (some ⟨b,0,none⟩),.slice (some ⟨g,0,some 1⟩) t.length t.length]:=by rw [read_eq,row_of a2];rfl
  show ckF [.pointer (some ⟨b,0,none⟩)] Z=_
  show ob (Z.typ b) _=_
  rw [h2]
  show ob (Z.read b 0 2) _=_
  rw [r1]
  show bb (Nat.beq b b) _=_
  rw [beq_len rfl];rfl
theorem app_bytes {Z:St}{b N:Nat}{t s:By}{v:Value}(hN:N<=Z.n) (hv:BR Z N b t v) (hs:s≠[]) (hl:(t++s).length<=1000000) :
  ∃ Z',appendV Tryz.prog Z 43 v (str s)=some (.slice (some ⟨Z.n,0,some 1⟩) (t++s).length (t++s).length,Z')/\Z'.n=Z.n+1/\Z'.typ Z.n=some 5/\Z'.orow Z.n=some (bytesV (t++s))/\∀ c,(c<=b\/N<=c)->c<Z.n->Z'.h.get c=Z.h.get c:=by
 have hs0:0<s.length:=List.length_pos_iff.2 hs
 rw [List.length_append] at hl
 have hsrc:srcCells Z 1 (str s)=some (s.length,bytesV s):=rfl
 have hba:∀ x y:By,bytesV (x++y)=bytesV x++bytesV y:=fun x y=>by unfold bytesV;simp
 have hbl:∀ x:By,(bytesV x).length=x.length:=fun x=>by unfold bytesV;simp
 rcases hv with ⟨rfl,rfl⟩|⟨g,a1,rfl,a3,a4,a5,a6⟩
 ·refine ⟨Z.new (bytesV s) (some 5),?_,rfl,typ_new_same,orow_new_same (Nat.le_refl _) (Nat.le_refl _),fun c _ hc=>by rw [new_get,if_neg om]⟩
  rw [ap43,hsrc,ob_some,pr_mk,ble_no om,bi_false,ble_of (by unfold room;simp at hl;omega),bb_true,an_none]
  rfl
 ·have k1:Z.kill g=some (Z.dead g):=by rw [kill_eq,a6];rfl
  have r1:Z.read g 0 (t.length*1)=some (bytesV t):=by rw [read_eq,row_of a6];exact sub_full (by rw [hbl];omega) (by rw [hbl];omega)
  have hk:keepT 5 0 (Z.typ g)=some 5:=by rw [a5];rfl
  refine ⟨(Z.dead g).new (bytesV t++bytesV s) (some 5),?_,rfl,typ_new_same (Z:=Z.dead g),?_,fun c hc1 hc=>?_⟩
  ·rw [ap43,hsrc,ob_some,pr_mk,ble_no om,bi_false,ble_of (by unfold room;omega),bb_true,an_some,r1,ob_some,k1,ob_some,hk,List.length_append]
   rfl
  ·rw [hba];exact orow_new_same (Z:=Z.dead g) (Nat.le_refl _) (Nat.le_refl _)
  ·rw [new_get,if_neg (by rw [dead_n];omega),dead_get,if_neg om]
theorem wstr_ok {Z0 Z:St}{b N:Nat}{t s:By}(h:BDN Z b t N) (hE:Ext Z0 Z) (hb:Z0.n<=b) (hs:s≠[]) (hl:(t++s).length<=1000000) :
  Ev (go Tryz.prog HS (.fn 65) [.pointer (some ⟨b,0,none⟩),str s] Z) (fun r=>∃ Z' v,r=⟨false,v,Z'⟩/\BD Z' b (t++s)/\Ext Z0 Z'/\∀ c,N<=c->c<Z.n->Z'.h.get c=Z.h.get c) ⟨⟩:=by
 obtain ⟨Z1,v,e1,x1,n1,t1,o1,b1⟩:=ck_ok h
 obtain ⟨Z2,e2,n2,t2,o2,s2⟩:=app_bytes (by rw [n1];exact h.le) b1 hs hl
 have hlt:=h.lt
 have hle:=h.le
 have rr:=row_of o1
 have o3:Z2.orow b=some [.pointer (some ⟨b,0,none⟩),v]:=by rw [orow_congr (s2 b (.inl (Nat.le_refl _)) om)];exact o1
 refine ev_go Tryz.func65 rfl rfl ?_
 refine gS1 (aI @e1 (aI @rr (aI @o1 (aI @e2 (aI @o3 @Tryz.results65))))) ?_
 have lx:b<Z2.n:=om
 have gt:t++s≠[]:=by simp [hs]
 refine ⟨_,_,rfl,⟨by show b<Z2.n;omega,Nat.le_refl _,?_,.inr ⟨Z1.n,gt,cL,om,by show Z1.n<Z2.n;omega,?_,?_⟩⟩,?_,?_⟩
 ·rw [typ_upd,typ_congr (s2 b (.inl (Nat.le_refl _)) om)];exact t1
 ·rw [typ_upd];exact t2
 ·rw [orow_upd_ne om];exact o2
 ·refine ⟨by have:=hE.n;show Z0.n<=Z2.n;omega,fun c hc=>?_⟩
  have hn:=hE.n
  rw [upd_get,if_neg om,s2 c (.inl om) om,x1.same c om om,hE.same c hc]
 ·intro c c1 c2
  rw [upd_get,if_neg om,s2 c (.inr c1) om,x1.same c c2 om]
theorem strs_of (l:List By):strsOf (l.map str)=some l:=by
 induction l with
 | nil=>rfl
 | cons x l ih=>exact (congrArg (fun z=>ob z fun r=>some (x::r)) ih).trans rfl
theorem tail_blk (l:List By):tailL [32] l=blk l:=by
 induction l with
 | nil=>rfl
 | cons x l ih =>
   show [32]++(x++tailL [32] l)=_
   rw [ih];simp [blk]
theorem join_spJ (l:List By):joinL l [32]=spJ l:=by
 cases l with
 | nil=>rfl
 | cons x l=>rw [spJ_flat,<- tail_blk];rfl
theorem join_eq {Z:St}{w c:Nat}{sp:Option Nat}{l:List By}(hc:l.length<=c) (hl:(spJ l).length<=1000000) (hn:l.length<=1000000) (hr:Z.read w 0 l.length=some (l.map str)) :
  go Tryz.prog HS (.fn 66) [.slice (some ⟨w,0,sp⟩) l.length c,str [32]] Z=some ⟨false,str (spJ l),Z⟩:=by
 show bb (Nat.ble l.length c) (bb (Nat.ble l.length room) (ob (Z.read w 0 l.length) fun cs=>ob (strsOf cs) fun l=>bb (Nat.ble (joinL l [32]).length room) (some (⟨false,str (joinL l [32]),Z⟩:CR))))=_
 rw [Nat.ble_eq_true_of_le hc,bb_true,Nat.ble_eq_true_of_le (show l.length<=room by unfold room;omega),bb_true,hr,ob_some,strs_of,ob_some,join_spJ,Nat.ble_eq_true_of_le (show (spJ l).length<=room by unfold room;omega),bb_true]
theorem put_ok {Z0 Z:St}{b w n c N:Nat}{sp:Option Nat}{t:By}{l:List By}(h:BDN Z b t N) (hE:Ext Z0 Z) (hb:Z0.n<=b) (hn:n=l.length) (hc:n<=c) (hl:(t++(spJ l++[10])).length<=1000000) (hn6:l.length<=1000000) (hr:Z.row w=some (l.map str)) :
  Ev (go Tryz.prog HS (.fn 64) [.slice (some ⟨w,0,sp⟩) n c,.pointer (some ⟨b,0,none⟩)] Z) (fun r=>∃ Z',r=⟨false,.tuple ⟨[]⟩,Z'⟩/\BD Z' b (t++(spJ l++[10]))/\Ext Z0 Z'/\∀ c,N<=c->c<Z.n->Z'.h.get c=Z.h.get c) ⟨⟩:=by
 subst hn
 have hl0:=hl
 simp only [List.length_append,List.length_cons,List.length_nil] at hl
 have hj:=join_eq (Z:=Z) (w:=w) (c:=c) (sp:=sp) (l:=l) hc om hn6 (by rw [read_eq,hr];exact sub_full (by simp) (by simp))
 refine ev_go Tryz.func64 rfl rfl ?_
 refine gS1 @hj ?_
 refine (wstr_ok h hE hb (s:=spJ l++[10]) (by simp) hl0).mono ?_
 rintro r ⟨Z2,v,rfl,h2,hE2,hs2⟩
 refine gS1 @Tryz.results64 ?_
 exact ⟨_,rfl,h2,hE2,hs2⟩
theorem as_get {a b:St}{bs:List Nat}{i j X off n:Nat}{ds:List Ab.Trace}(h:b.h.get X=a.h.get X):allSame bs i ⟨X,off,n⟩ (.eff j a b::ds)=allSame bs i ⟨X,off,n⟩ ds:=as_eff fun _=>h
end Go.Proofs.T
namespace Go.Proofs.T
open Go Go.Ab
set_option maxRecDepth 100000
theorem bytesX_V (l:By):bytesX (bytesV l)=some l:=by
 induction l with
 | nil=>rfl
 | cons x l ih =>
   have hx:byteX (.int .u8 (x.toNat:Nat))=some x:=by
    show bb (Nat.blt x.toNat 256) (some (UInt8.ofNat x.toNat))=_
    rw [show Nat.blt x.toNat 256=true from by rw [Nat.blt_eq];exact UInt8.toNat_lt x,bb_true]
    simp
   show ob (byteX (.int .u8 (x.toNat:Nat))) (fun b=>ob (bytesX (bytesV l)) fun bs=>some (b::bs))=_
   rw [hx,ob_some,ih]
   rfl
theorem string_ok {Z0 Z:St}{b:Nat}{t:By}(h:BD Z b t) (hE:Ext Z0 Z) (hb:Z0.n<=b) (ht:t≠[]) (hl:t.length<=1000000) :
  ∃ Z',go Tryz.prog HS (.fn 68) [.pointer (some ⟨b,0,none⟩)] Z=some ⟨false,str t,Z'⟩/\Ext Z0 Z':=by
 obtain ⟨h1,-,h2,h3⟩:=h
 rcases h3 with ⟨a1,a2⟩|⟨g,a1,a2,a3,a4,a5,a6⟩
 ·exact absurd a1 ht
 ·have r1:Z.read b 0 2=some [.pointer (some ⟨b,0,none⟩),.slice (some ⟨g,0,some 1⟩) t.length t.length]:=by rw [read_eq,row_of a2];rfl
  have hbl:(bytesV t).length=t.length:=by unfold bytesV;simp
  have r2:Z.read g 0 t.length=some (bytesV t):=by rw [read_eq,row_of a6];exact sub_full om om
  have k1:Z.kill g=some (Z.dead g):=by rw [kill_eq,a6];rfl
  have hn:=hE.n
  refine ⟨Z.dead g,?_,⟨hE.n,fun c hc=>by rw [dead_get,if_neg om];exact hE.same c hc⟩⟩
  obtain ⟨n,hN⟩:∃ n,t.length=n+1:=⟨t.length-1,by have:=List.length_pos_iff.2 ht;omega⟩
  rw [hN] at r1 r2
  show strF [.pointer (some ⟨b,0,none⟩)] Z=_
  show ob (Z.typ b) _=_
  rw [h2]
  show ob (Z.read b 0 2) _=_
  rw [r1]
  show ob (Z.typ g) _=_
  rw [a5]
  show bb (Nat.ble (n+1) (n+1)) (bb (Nat.ble n room) (ob (Z.read g 0 (n+1)) fun cs=>ob (bytesX cs) fun l=>ob (Z.kill g) fun Z=>some (⟨false,.string ⟨l.toArray⟩,Z⟩:CR)))=_
  rw [Nat.ble_eq_true_of_le (Nat.le_refl _),bb_true,Nat.ble_eq_true_of_le (show n<=room by unfold room;omega),bb_true,r2,ob_some,bytesX_V,ob_some,k1]
  rfl
section
variable {P:Program} {H:Sums} {rd:Option Nat}
theorem ev_ghost {k:Nat}{l:List Oper}{fr:Fr}{Z:St}{Q:Res->Prop}{u:Hd Q}{g:Gh}{kv V:Value}(hs:ghostSel l=true) (hg:ghOf l=some g) (h1:fr.get g.tm=none) (h2:fr.get g.tv=none)
  (hV:ghVal P g kv=some V) (hok:(ghOk l (ghFlat l V) g&&drawOk (ghFlat l V).toArray)=true)
  (hA:Ev (opsD P (go P H) (ghFlat l (.string ⟨#[]⟩)).toArray (ghFlat l (.string ⟨#[]⟩)) 0 fr Z []) (fun r=>r.fr.get g.key=some kv) ⟨⟩)
  (hkv:veq kv kv=true)
  (hB:Ev (opsD P (go P H) (ghFlat l V).toArray (ghFlat l V) 0 fr Z []) (fun r=>Must (readsOk (Region.before (ghFlat l V).toArray).toList r.ds r.ds) (r.p=none/\r.fr.get g.key=some kv/\Q ⟨.normal,r.fr,r.Z⟩) ⟨⟩) ⟨⟩) :
  Ev (lim P H rd (.region k l.toArray true) fr Z) Q u:=by
 have e:lim P H rd (.region k l.toArray true) fr Z=bi (ghostSel l.toArray.toList) (ghostRun P (go P H) l.toArray.toList fr Z) (drawn l.toArray (opsD P (go P H) l.toArray l.toArray.toList 0 fr Z [])):=(lim_eq ..).trans rfl
 rw [e,show l.toArray.toList=l from rfl,hs,bi_true]
 obtain ⟨r0,a1,a2⟩:=hA
 obtain ⟨r,b1,b2,b3,b4,b5⟩:=hB
 refine Ev.intro (a:=⟨.normal,r.fr,r.Z⟩) ?_ b5
 obtain ⟨fr',Z',ds,pp⟩:=r
 cases b3
 show ob (ghOf l) _=_
 rw [hg,ob_some]
 show bb ((fr.get g.tm).isNone&&(fr.get g.tv).isNone) _=_
 rw [h1,h2]
 show ob _ _=_
 rw [a1,ob_some,a2,ob_some,hV,ob_some,hok,bb_true,b1,ob_some]
 show bb (readsOk (Region.before (ghFlat l V).toArray).toList ds ds&&true) (ob (fr'.get g.key) fun kv'=>bb (veq kv' kv) (some (⟨.normal,fr',Z'⟩:Res)))=_
 rw [b2,b4]
 show bb (veq kv kv) _=_
 rw [hkv];rfl
end
end Go.Proofs.T
namespace Go.Proofs.T
open Go Go.Ab
open Nat (reduceMul reduceEqDiff reduceAdd)
set_option maxRecDepth 100000
def PV (b:Nat):Value:= .func (.func 64) #[] #[.pointer (some ⟨b,0,none⟩)]
def IV:Value:= .func (.func 67) #[] #[]
structure DV (Z:St) (ca:List Value) (t:By) (m:Nat) (fr:Fr) (Z':St):Prop where
 g1:fr.get 1=some (.pointer (some ⟨Z.n,0,none⟩))
 g3:fr.get 3=some (.pointer (some ⟨Z.n+1,0,none⟩))
 g4:fr.get 4=some (PV (Z.n+1))
 g5:fr.get 5=some IV
 g53:fr.get 53=none
 g54:fr.get 54=none
 bd:BD Z' (Z.n+1) t
 len:t.length<=m
 ext:Ext (Z.new ca) Z'
theorem ito' {Z Z':St}{n:Int}(hn:SmN n) (hp:Z.read 1 0 20=some pows) (h1:1<Z.n) (hE:Ext Z Z'):go Tryz.prog HS (.fn 67) [.int .i64 n] Z'=some ⟨false,str (dcN n.toNat),Z'⟩:=by
 obtain ⟨N,rfl⟩:=Int.eq_ofNat_of_zero_le hn.1
 have h2:=hn.2
 exact ito_ok om (pows_ext hE h1 hp)
noncomputable def drC (l:List Nat):Code:=cdAt l ((Tryz.f37).body.getD .skip)
set_option maxHeartbeats 8000000 in
theorem dr_lots {Z Z1:St}{fr1:Fr}{ca:List Value}{T:Tn}(hT:TnAt Z ca T) (hr:RightT T) (hS:T.Sm) (hpw:Z.read 1 0 20=some pows) (hp1:1<Z.n) (h:DV Z ca (B0 T) 200 fr1 Z1) :
  Ev (lim Tryz.prog HS none (drC [1,1,1,1,1,0]) fr1 Z1) (fun r=>∃ fr Z',r=⟨.normal,fr,Z'⟩/\DV Z ca (B1 T) 2000 fr Z') ⟨⟩:=by
 obtain ⟨vl,vc,vr,ex,vt,vk,hp,h2,h3,h4,h5,h6,vs,h7,h8⟩:=hT.parts
 obtain ⟨la,lc,lb,lo,lcs,rfl,l1,l2⟩:=h2.use
 have L1:=hr.lots
 have s1:=hp.p1
 have E0:Ext Z (Z.new ca):=eX
 have w1:Z1.row Z.n=some ca:=by rw [h.ext.row (by simp)];exact cL
 have g1:=h.g1
 simp only [drC,Tryz.f37,gd_some,cd_nil,cd_0,cd_1,cd_2,cd_3]
 refine gU1 (aI @splice_succ (aI @bunAP (aI @g1 (aI @w1 @s1)))) ?_
 refine ev_count T.lots.length (fun k fr Z'=>fr.get 28=some (.int .i64 k)/\fr.get 27=some (.int .i64 (T.lots.length:Nat))/\fr.get 26=some (.slice la T.lots.length lc)/\DV Z ca (B0 T++under ((T.lots.take k).map gl)) (200+100*k) fr Z')
  (fun r=>∃ fr Z',r=⟨.exit 0,fr,Z'⟩/\DV Z ca (B1 T) 2000 fr Z') ?_ ?_ ?_ ?_
 ·obtain ⟨g1,g3,g4,g5,g53,g54,bd,len,ext⟩:=h
  exact ⟨fR,fR,fR,fR1 g1,fR1 g3,fR1 g4,fR1 g5,fR1 g53,fR1 g54,by rw [under_zero,List.append_nil];exact bd,by rw [under_zero,List.append_nil];omega,ext⟩
 ·rintro k fr Z' hk ⟨gk,gn,gs,g1,g3,g4,g5,g53,g54,bd,len,ext⟩
  have hc:=lt_true hk
  have hE0:Ext Z Z':=E0.trans ext
  obtain ⟨x,hx⟩:=at_some hk
  obtain ⟨sp,rfl,l3,l4⟩:=l1 om
  have w2:Z'.row lb=some lcs:=by rw [hE0.row l3];exact l4
  obtain ⟨m0,m1,m2⟩:=l2 k x hx
  obtain ⟨z1,z2⟩:=hS.lot x (List.mem_of_getElem? hx)
  have hu1:=sm_len z1
  have hu2:=sm_len z2
  unfold Lot.row at m0
  simp (maxSteps:=8000000) (disch:=first|exact dS|fail) only [↓bD,bU,reduceMul,reduceEqDiff,reduceAdd,Nat.reduceBEq,reduceIte,Option.isNone_none,splice_succ,bunAP,gk,gn,gs,g1,g3,g4,g5,hc,w2,m0,IV,PV]
  obtain ⟨S,hS'⟩:∃ S,((Z'.new [.int .i64 0,.int .i64 0] (some 78)).upd Z'.n [.int .i64 x.id,.int .i64 x.most])=S:=⟨_,rfl⟩
  rw [hS']
  have E1:Ext Z' S:=by rw [<- hS'];exact eX
  have nS:S.n=Z'.n+1:=by rw [<- hS'];rfl
  have wS:S.row Z'.n=some [.int .i64 x.id,.int .i64 x.most]:=by rw [<- hS'];exact cL
  have i1:=ito' z1 hpw hp1 (hE0.trans E1)
  have i2:=ito' z2 hpw hp1 (hE0.trans E1)
  simp (maxSteps:=8000000) (disch:=first|exact dS|fail) only [↓bD,bU,reduceMul,reduceEqDiff,reduceAdd,Nat.reduceBEq,reduceIte,Option.isNone_none,splice_succ,bunAP,gk,gn,gs,g1,g3,g4,g5,wS,i1,i2,IV,PV]
  refine (put_ok (Z0:=Z.new ca) (b:=Z.n+1) (t:=B0 T++under ((T.lots.take k).map gl)) (l:=[[108,111,116],dcN x.id.toNat,[109,111,115,116],dcN x.most.toNat]) (bd.ext (E1.trans (.new _ _))) (ext.trans (E1.trans (.new _ _))) (by simp) rfl (Nat.le_refl _) (by simp [spJ] at len ⊢;omega) (by simp) (cL)).mono ?_
  rintro r ⟨Z2,rfl,bd2,ext2,s2⟩
  simp (maxSteps:=8000000) (disch:=first|exact dS|fail) only [↓bD,bU,reduceMul,reduceEqDiff,reduceAdd,Nat.reduceBEq,reduceIte,Option.isNone_none,splice_succ,bunAP,gk,gn,gs,g1,g3,g4,g5,wS,asx (Ext.refl _),as_get (s2 Z'.n (Nat.le_refl _) (by simp;omega))]
  try refine Must.intro (by (repeat first|simp (disch:=omega) only [as_read,as_upd,as_newb,asx (Ext.refl _),as_get (s2 Z'.n (Nat.le_refl _) (by simp;omega))]|rw [as_ord (by kernel_rfl)]);first|done|rfl) ?_
  try simp (maxSteps:=8000000) (disch:=first|exact dS|fail) only [↓bD,bU,reduceMul,reduceEqDiff,reduceAdd,Nat.reduceBEq,reduceIte,Option.isNone_none,splice_succ,bunAP,gk,gn,gs,g1,g3,g4,g5]
  have ht:B0 T++under ((T.lots.take (k+1)).map gl)=B0 T++under ((T.lots.take k).map gl)++(spJ [[108,111,116],dcN x.id.toNat,[109,111,115,116],dcN x.most.toNat]++[10]):=by rw [under_take hx];simp [gl,lineP,spJ,LM.word,LM.txt,mostW]
  exact ⟨fR,fR1 gn,fR1 gs,fR1 g1,fR1 g3,fR1 g4,fR1 g5,fR1 g53,fR1 g54,by rw [ht];exact bd2,by rw [ht];simp [spJ] at len ⊢;omega,ext2⟩
 ·rintro fr Z' ⟨gk,gn,gs,g1,g3,g4,g5,g53,g54,bd,len,ext⟩
  simp (maxSteps:=8000000) (disch:=first|exact dS|fail) only [↓bD,bU,reduceMul,reduceEqDiff,reduceAdd,Nat.reduceBEq,reduceIte,Option.isNone_none,splice_succ,bunAP,gk,gn]
  exact ⟨_,_,rfl,fR1 g1,fR1 g3,fR1 g4,fR1 g5,fR1 g53,fR1 g54,by rw [under_full] at bd;exact bd,by rw [under_full] at len;show (B0 T++under (T.lots.map gl)).length<=_;omega,ext⟩
 rintro r ⟨fr,Z',rfl,h⟩
 refine gU1 (aI @splice_succ @bunAP) ?_
 exact ⟨_,_,rfl,h⟩
end Go.Proofs.T
namespace Go.Proofs.T
open Go Go.Ab
open Nat (reduceMul reduceEqDiff reduceAdd)
set_option maxRecDepth 100000
def opsOf:Code->List Oper
 | .region _ os _=>os.toList
 | _=>[]
theorem ev_str {fr:Fr}{t:By}:ev fr (.const (str t))=some (str t):=rfl
noncomputable def drL:List Oper:=opsOf (drC [1,1,1,1,1,1,0,1,2,3,1,1,0,2,1,0])
def G0:Gh:=⟨53,54,56,124,.int .i64 1,str [103,114,97,100,101],.int .i64 2,str [111,102,102,101,114]⟩
theorem gh_kind {n:Int}(h:n=1\/n=2):∃ t:By,t.length=5/\t=(if n.toNat=2 then offerB else gradeB)/\ghVal Tryz.prog G0 (.int .i64 n)=some (str t)/\(ghOk drL (ghFlat drL (str t)) G0&&drawOk (ghFlat drL (str t)).toArray)=true/\veq (.int .i64 n) (.int .i64 n)=true:=by
 rcases h with rfl|rfl
 ·exact ⟨[103,114,97,100,101],rfl,rfl,by kernel_rfl,by kernel_rfl,by kernel_rfl⟩
 ·exact ⟨[111,102,102,101,114],rfl,rfl,by kernel_rfl,by kernel_rfl,by kernel_rfl⟩
set_option maxHeartbeats 8000000 in
theorem gh_A {S:St}{fr:Fr}{X:Nat}{nm:By}{kd lw hg:Int}{ls:Bool}(g9:fr.get 9=some (.pointer (some ⟨X,0,none⟩))) (g5:fr.get 5=some IV) (wS:S.row X=some [str nm,.int .i64 kd,.int .i64 lw,.int .i64 hg,.bool ls])
  {a b:By} (i1:go Tryz.prog HS (.fn 67) [.int .i64 lw] S=some ⟨false,str a,S⟩) (i2:go Tryz.prog HS (.fn 67) [.int .i64 hg] S=some ⟨false,str b,S⟩) :
  Ev (opsD Tryz.prog (go Tryz.prog HS) (ghFlat drL (str [])).toArray (ghFlat drL (str [])) 0 fr S []) (fun r=>r.fr.get 56=some (.int .i64 kd)) ⟨⟩:=by
 simp only [drL,drC,Tryz.f37,gd_some,cd_nil,cd_0,cd_1,cd_2,cd_3,opsOf,List.toList_toArray,ghFlat,ghNop,ghMov]
 unfold IV at g5
 refine gU1 (aI @splice_succ (aI @bunAP (aI @g9 (aI @g5 (aI @wS (aI @i1 (aI @i2 @ev_str))))))) ?_;try exact ⟨⟩
set_option maxHeartbeats 8000000 in
theorem dr_13 {S:St}{fr:Fr}{X:Nat}{nm:By}{kd lw hg:Int}{ls:Bool}(g9:fr.get 9=some (.pointer (some ⟨X,0,none⟩))) (g5:fr.get 5=some IV) (g53:fr.get 53=none) (g54:fr.get 54=none) (wS:S.row X=some [str nm,.int .i64 kd,.int .i64 lw,.int .i64 hg,.bool ls])
  {a b t:By} (i1:go Tryz.prog HS (.fn 67) [.int .i64 lw] S=some ⟨false,str a,S⟩) (i2:go Tryz.prog HS (.fn 67) [.int .i64 hg] S=some ⟨false,str b,S⟩)
  (hV:ghVal Tryz.prog G0 (.int .i64 kd)=some (str t)) (hok:(ghOk drL (ghFlat drL (str t)) G0&&drawOk (ghFlat drL (str t)).toArray)=true) (hkv:veq (.int .i64 kd) (.int .i64 kd)=true) :
  Ev (lim Tryz.prog HS none (.region 13 drL.toArray true) fr S) (fun r=>∃ fr',r=⟨.normal,fr',S.new [str [99,114,105,116,101,114,105,111,110],str nm,str t,str a,str b]⟩/\fr'.get 10=some (.slice (some ⟨S.n,0,none⟩) 5 5)/\∀ i,i<10\/i=45\/i=46\/i=47\/i=53\/i=54->fr'.get i=fr.get i) ⟨⟩:=by
 refine ev_ghost (g:=G0) (kv:= .int .i64 kd) (V:=str t) rfl (by kernel_rfl) g53 g54 hV hok (gh_A g9 g5 wS i1 i2) hkv ?_
 simp only [drL,drC,Tryz.f37,gd_some,cd_nil,cd_0,cd_1,cd_2,cd_3,opsOf,List.toList_toArray,ghFlat,ghNop,ghMov]
 unfold IV at g5
 refine gU1 (aI @splice_succ (aI @bunAP (aI @g9 (aI @g5 (aI @wS (aI @i1 (aI @i2 @ev_str))))))) ?_
 refine Must.intro (by (repeat first|simp (disch:=omega) only [as_read,as_upd,as_newb,asx (Ext.refl _)]|rw [as_ord (by kernel_rfl)]);first|done|rfl) ?_
 refine ⟨rfl,?_⟩
 refine gU1 (aI @splice_succ @bunAP) ?_
 have hk:G0.key=56:=rfl
 refine ⟨by simp only [hk,Nat.reduceEqDiff,reduceIte],_,rfl,fR,fun i hi=>?_⟩
 iterate 15 rw [get_set,if_neg om]
end Go.Proofs.T
