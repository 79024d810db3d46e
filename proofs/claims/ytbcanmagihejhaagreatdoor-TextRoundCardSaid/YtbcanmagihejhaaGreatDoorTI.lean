/- The reading of a text: the walk. -/
import Derived.Test.YtbcanmagihejhaaGreatDoorTH
set_option linter.unusedSimpArgs false
set_option linter.unusedVariables false
namespace Go.Proofs.T
open Go Go.Ab
open Nat (reduceMul reduceEqDiff reduceAdd)
set_option maxRecDepth 100000
theorem ev_tmpE {fr:Fr}{t:Tmp}:ev fr (.tmp t)=fr.get t:=rfl
theorem linesS_cons {l:By}{ls:List By}{at':Nat}{T:Tn}{seen:List (By×Value)}:linesS (l::ls) at' T seen=thenR (lineS l at' T seen) fun (T',seen')=>linesS ls (at'+(l.length+1)) T' seen':=rfl
theorem setKV_tru {w:By}:∀ {seen:List (By×Value)},(∀ p∈seen,p.2=tru)->∀ p∈setKV w tru seen,p.2=tru:=by
 intro seen
 induction seen with
 | nil=>intro _ p hp;change p∈[(w,tru)] at hp;rw [List.mem_singleton] at hp;rw [hp]
 | cons q l ih =>
   obtain ⟨k,v⟩:=q
   intro hs p hp
   rw [setKV_cons] at hp
   split at hp
   ·rcases List.mem_cons.1 hp with rfl|hp
    ·rfl
    ·exact hs p (List.mem_cons_of_mem _ hp)
   ·rcases List.mem_cons.1 hp with rfl|hp
    ·exact hs _ (List.mem_cons_self ..)
    ·exact ih (fun p hp=>hs p (List.mem_cons_of_mem _ hp)) p hp
theorem look_tru {w:By}{v:Value}:∀ {seen:List (By×Value)},(∀ p∈seen,p.2=tru)->lookKV w seen=some v->v=tru:=by
 intro seen
 induction seen with
 | nil=>intro _ h;cases h
 | cons q l ih =>
   obtain ⟨k,v'⟩:=q
   intro hs h
   rw [lookKV_cons] at h
   split at h
   ·cases h;exact hs (k,v) (List.mem_cons_self ..)
   ·exact ih (fun p hp=>hs p (List.mem_cons_of_mem _ hp)) h
theorem extM2 {Z Z':St}{b:Nat}{cs:List Value}(hE:Ext Z Z') (hb:b<Z.n):Ext (updM Z b cs) (updM Z' b cs):=⟨hE.n,fun c hc=>by
 by_cases e:c=b
 ·subst e
  show (Tr.set _ _ _).get c=(Tr.set _ _ _).get c
  rw [Tr.get_set_same,Tr.get_set_same]
  unfold St.ver
  rw [hE.same c hb]
 ·rw [updM_get e,updM_get e];exact hE.same c hc⟩
theorem MapAt.norow {Z:St}{b:Nat}{kv:List (By×Value)}(h:MapAt Z b kv):Z.row b=none:=by
 obtain ⟨ver,hg⟩:=h
 show ob (Z.rblk b) _=_
 unfold St.rblk St.blk
 rw [hg];rfl
theorem Sc.updM {Z:St}{b ms:Nat}{v:Value}{toks:List Tok}{k:Nat}{rest:List Value}{kv:List (By×Value)}{cs:List Value}(h:Sc Z b v toks k rest) (hm:MapAt Z ms kv) (hb:b≠ms):Sc (updM Z ms cs) b v toks k rest:=by
 refine ⟨by rw [orow_congr (updM_get hb)];exact h.row,h.lt,?_,h.ne,h.k,h.len⟩
 rcases h.sl with hs|⟨b2,off,sp,c,cells,rfl,h2,h3,h4⟩
 ·exact .inl hs
 ·refine .inr ⟨b2,off,sp,c,cells,rfl,h2,?_,h4⟩
  rw [row_congr (updM_get fun e=>by rw [e,hm.norow] at h3;cases h3)];exact h3
theorem Tp.at' {ZL Z:St}{bt:Nat}{T:Tn}{v:Nat->Value}{fc vs:List Value}(h:Tp ZL Z bt T v fc vs):TnAt Z (tnR T v fc) T :=
 ⟨v 0,v 1,v 2,fc,v 3,v 4,rfl,OL.sl (h.sl 0 om),OL.sl (h.sl 1 om),OL.sl (h.sl 2 om),h.fx.keep keep_all,OL.sl (h.sl 3 om),vs,OL.sl (h.sl 4 om),h.iv.mono fun _ _ hx=>SL.keep hx keep_all⟩
theorem Tp.atU {ZL Z:St}{bt q:Nat}{T:Tn}{v:Nat->Value}{fc vs cs:List Value}{H:List Nat}(h:Tp ZL Z bt T v fc vs) (hq:q<bt) (hH:∀ c∈H,c<bt):TnAt (hide (Z.upd q cs) H) (tnR T v fc) T:=by
 have hb:bt<Z.n:=Nat.lt_of_lt_of_le h.btl h.ext.n
 have hl:=h.btl
 have hk:Keep (hide Z (held0 bt v)) (hide (Z.upd q cs) H):=keep_hide (Z:=Z) (Z':=Z.upd q cs) (l:=held0 bt v) (l':=H) (Nat.le_refl _) fun c _ hm =>
  ⟨fun hc=>hm (List.mem_append.2 (.inl (List.mem_range.2 (hH c hc)))),row_upd_ne fun e=>hm (List.mem_append.2 (.inl (List.mem_range.2 om)))⟩
 have ho:∀ i,i<5->SLs (hide (Z.upd q cs) H) (szT i) (v i) (rowsT T vs i):=fun i hi=>OL.hide (OL.upd_ne (h.sl i hi) om) fun c hc=>by have:=hH c hc;omega
 exact ⟨v 0,v 1,v 2,fc,v 3,v 4,rfl,(ho 0 om).sl,(ho 1 om).sl,(ho 2 om).sl,h.fx.keep hk,(ho 3 om).sl,vs,(ho 4 om).sl,h.iv.mono fun _ _ hx=>SL.keep hx hk⟩
structure Base (ZS ZL:St) (ms:Nat):Prop where
 n:ZL.n=ZS.n
 same:∀ c,c≠ms->ZL.h.get c=ZS.h.get c
theorem Base.seen {ZS ZL:St}{ms:Nat}{cs:List Value}(h:Base ZS ZL ms):Base ZS (updM ZL ms cs) ms:=⟨h.n,fun c hc=>by rw [updM_get hc];exact h.same c hc⟩
theorem ext_base {Z Z2 ZL Z':St}{ms bt:Nat}{cs:List Value}(hE:Ext Z Z2) (hB:Base Z2 ZL ms) (hX:ExtX bt (updM ZL ms cs) Z') (h1:Z.n<=ms) (h2:Z.n<=bt):Ext Z Z':=by
 refine ⟨?_,fun c hc=>?_⟩
 ·have h3:=hX.n;have h4:=hB.n;have h5:=hE.n;rw [updM_n] at h3;omega
 ·have hn:Z2.n=ZL.n:=hB.n.symm
  rw [hX.same c (by have:=hE.n;rw [updM_n];omega) om,updM_get om,hB.same c om,hE.same c hc]
def sixC:List Value:=[str [116,101,110,100,101,114],str [108,111,116],str [112,114,105,99,101],str [102,111,114,109,117,108,97],str [98,117,100,103,101,116],str [116,105,109,101,115]]
theorem six_at {k:Nat}(h:k<6):∃ w,six[k]? =some w/\sub sixC k 1=some [str w]:=by
 match k,h with
 | 0,_=>exact ⟨_,rfl,rfl⟩
 | 1,_=>exact ⟨_,rfl,rfl⟩
 | 2,_=>exact ⟨_,rfl,rfl⟩
 | 3,_=>exact ⟨_,rfl,rfl⟩
 | 4,_=>exact ⟨_,rfl,rfl⟩
 | 5,_=>exact ⟨_,rfl,rfl⟩
set_option maxHeartbeats 16000000 in
theorem parse_ok {Z:St}{s:By}(hs:s.length<=4000) (hl:∀ (l:By) (a:Nat),l∈splitB 10 s->a<=s.length+1->LineOk l a) :
  Ev (go Tryz.prog HS (.fn 40) [str s] Z) (fun r=>match parseS s with
   | .ok T=>∃ Z' cells,r=⟨false,.agg ⟨cells⟩,Z'⟩/\Ext Z Z'/\∀ H:List Nat,(∀ c∈H,c<Z.n)->TnAt (hide Z' H) cells T
   | .error (p,e)=>∃ Z',r=⟨true,fault p e,Z'⟩/\Ext Z Z') ⟨⟩:=by
 refine ev_go Tryz.func40 rfl rfl ?_
 refine gS1 (aI @ev_map @emk) ?_
 refine kinds_ok.mono ?_
 rintro r ⟨Z1,rfl,hE1,hn1,hkm⟩
 simp at hn1
 refine gS ?_
 refine (split_ok om).mono ?_
 rintro r ⟨lv,Z2,rfl,hv,hE2,hb2⟩
 have z1:Z1.orow (Z.n+1)=some [str [],.slice none 0 0,.slice none 0 0,.slice none 0 0,.int .i64 0,.int .i64 0,str [],.int .i64 0,.int .i64 0,str [],.slice none 0 0,.slice none 0 0,.int .i64 0,.slice none 0 0,.int .i64 0,.int .i64 0,.int .i64 0,.int .i64 0,.int .i64 0,.int .i64 0]:=by rw [orow_congr (hE1.same _ (by simp))];exact cL
 have z0:Z1.orow Z.n=some [str [],.slice none 0 0,.slice none 0 0,.slice none 0 0,.int .i64 0,.int .i64 0,str [],.int .i64 0,.int .i64 0,str [],.slice none 0 0,.slice none 0 0,.int .i64 0,.slice none 0 0,.int .i64 0,.int .i64 0,.int .i64 0,.int .i64 0,.int .i64 0,.int .i64 0]:=by rw [orow_congr (hE1.same _ (by simp;omega))];exact cL
 have hms:MapAt Z1 (Z.n+1+1) []:=by
  obtain ⟨ver,hg⟩:=newM_at (Z:=(Z.new [str [],.slice none 0 0,.slice none 0 0,.slice none 0 0,.int .i64 0,.int .i64 0,str [],.int .i64 0,.int .i64 0,str [],.slice none 0 0,.slice none 0 0,.int .i64 0,.slice none 0 0,.int .i64 0,.int .i64 0,.int .i64 0,.int .i64 0,.int .i64 0,.int .i64 0] (some 41)).new [str [],.slice none 0 0,.slice none 0 0,.slice none 0 0,.int .i64 0,.int .i64 0,str [],.int .i64 0,.int .i64 0,str [],.slice none 0 0,.slice none 0 0,.int .i64 0,.slice none 0 0,.int .i64 0,.int .i64 0,.int .i64 0,.int .i64 0,.int .i64 0,.int .i64 0] (some 41))
  exact ⟨ver,by rw [hE1.same _ (by simp)];exact hg⟩
 have hkm':MapAt Z1 (Z.n+1+1+1) kindsKV:=hkm
 have hE1':Ext Z Z1:=(((Ext.new _ _).trans (.new _ _)).newK _ _).trans hE1
 have hn2:=hE2.n
 have hE2':=hE1'.trans hE2
 have tp0:Tp Z2 Z2 (Z.n+1) T0 (fun _=> .slice none 0 0) [str [],.int .i64 0,.int .i64 0,str [],.slice none 0 0] [] :=
  zero_tp om (by rw [orow_congr (hE2.same _ om)];exact z1)
 have hms2:=hms.ext om hE2
 have hkm2:=hkm'.ext om hE2
 have z02:Z2.orow Z.n=some [str [],.slice none 0 0,.slice none 0 0,.slice none 0 0,.int .i64 0,.int .i64 0,str [],.int .i64 0,.int .i64 0,str [],.slice none 0 0,.slice none 0 0,.int .i64 0,.slice none 0 0,.int .i64 0,.int .i64 0,.int .i64 0,.int .i64 0,.int .i64 0,.int .i64 0]:=by rw [orow_congr (hE2.same _ om)];exact z0
 clear hms hkm hkm' z0 z1 hE1
 have hlens:=lens_split 10 s
 have hlsp:=splitB_len 10 s
 have hcl:=cntL_le 10 s
 obtain ⟨a,c,b,off,cells,rfl,y1,y2⟩:=hv.use
 unfold parseS
 generalize hll:splitB 10 s=ls at *
 refine gS ?_
 refine ev_count ls.length (fun i fr Z'=>∃ ZL T seen v fc vs,Tp ZL Z' (Z.n+1) T v fc vs/\Base Z2 ZL (Z.n+1+1)/\MapAt Z' (Z.n+1+1) seen /\
   fr.get 0=some (str s)/\fr.get 2=some (.pointer (some ⟨Z.n,0,none⟩))/\fr.get 3=some (.pointer (some ⟨Z.n+1,0,none⟩))/\fr.get 4=some (.map (some (Z.n+1+1)))/\fr.get 5=some (.map (some (Z.n+1+1+1))) /\
   fr.get 6=some (.int .i64 (lens (ls.take i):Nat))/\fr.get 18=some (.slice a ls.length c)/\fr.get 19=some (.int .i64 (ls.length:Nat))/\fr.get 20=some (.int .i64 (i:Nat)) /\
   FitsN (12+i) T/\linesS (ls.drop i) (lens (ls.take i)) T seen=linesS ls 0 T0 []/\∀ p∈seen,p.2=tru)
  (fun r=>match linesS ls 0 T0 [] with
    | .ok (T,seen)=>∃ fr Z' ZL v fc vs,r=⟨.exit 0,fr,Z'⟩/\Tp ZL Z' (Z.n+1) T v fc vs/\Base Z2 ZL (Z.n+1+1)/\MapAt Z' (Z.n+1+1) seen /\
       fr.get 0=some (str s)/\fr.get 2=some (.pointer (some ⟨Z.n,0,none⟩))/\fr.get 3=some (.pointer (some ⟨Z.n+1,0,none⟩))/\fr.get 4=some (.map (some (Z.n+1+1)))/\∀ p∈seen,p.2=tru
    | .error (p,e)=>∃ fr Z',r=⟨.pan (fault p e),fr,Z'⟩/\Ext Z Z') ?_ ?_ ?_ ?_
 ·exact ⟨Z2,T0,[],_,_,_,tp0,⟨rfl,fun _ _=>rfl⟩,hms2,fR,fR,fR,fR,fR,fR,fR,fR,fR,⟨by simp [T0],by simp [T0],by simp [T0],by simp [T0],by simp [T0]⟩,rfl,fun _ h=>by cases h⟩
 ·rintro i fr Z' hi ⟨ZL,T,seen,v,fc,vs,hT,hB,hM,g0,g2,g3,g4,g5,g6,g18,g19,g20,hF,hS,hSe⟩
  rw [<- hS]
  clear hS
  obtain ⟨l,hl'⟩:=at_some hi
  obtain ⟨sp,rfl,y3,y4⟩:=y1 om
  have hdrop:ls.drop i=l::ls.drop (i+1):=by rw [List.drop_eq_getElem_cons hi,(List.getElem?_eq_some_iff.1 hl').2]
  have hltk:=lens_take hl'
  have hlle:=lens_le ls (i+1)
  have hn':Z2.n<=Z'.n:=by have:=hT.ext.n;have:=hB.n;omega
  have hold:∀ c,c<Z2.n->c≠Z.n+1->c≠Z.n+1+1->Z'.h.get c=Z2.h.get c:=fun c h1 h2 h3=>by
   rw [hT.ext.same c (by rw [hB.n];exact h1) h2,hB.same c h3]
  have hbb:b=Z1.n:=by cases hb2;rfl
  have hr:Z'.row b=some cells:=by rw [row_congr (hold b y3 om om)];exact y4
  have hs1:=y2 i l hl'
  have hok:=hl l (lens (ls.take i)) (List.mem_of_getElem? hl') om
  have ed:decide (((i:Nat):Int)<((ls.length:Nat):Int))=true:=by rw [decide_eq_true_iff];omega
  have ed2:decide (i<ls.length)=true:=decide_eq_true hi
  refine gS1 (aI @g0 (aI @g2 (aI @g3 (aI @g4 (aI @g5 (aI @g6 (aI @g18 (aI @g19 (aI @g20 (aI @ed (aI @ed2 (aI @hr (aI @hs1 @Nat.mul_one))))))))))))) ?_
  refine (tokens_ok om om).mono ?_
  rintro r ⟨tvv,Z3,rfl,hol,hE3⟩
  have hn3:=hE3.n
  obtain ⟨ta,rfl⟩:=OL.shape hol
  have hlt0:(toksS l (lens (ls.take i))).length<=l.length+2:=by
   unfold toksS;rw [List.length_append];have:=toksP_len (splitB 32 l) (lens (ls.take i));have:=splitB_len 32 l;have:=cntL_le 32 l;simp;omega
  have hpos:0<(toksS l (lens (ls.take i))).length:=by unfold toksS;simp
  generalize hat:lens (ls.take i)=at' at *
  refine gS1 @g3 ?_
  rw [List.length_map]
  have hE4:Ext Z' (Z3.new [.slice ta (toksS l at').length (toksS l at').length,.int .i64 0,str [],.int .i64 0,.pointer (some ⟨Z.n+1,0,none⟩)]):=hE3.new' _
  rw [List.length_map] at hol
  have hsc:Sc (Z3.new [.slice ta (toksS l at').length (toksS l at').length,.int .i64 0,str [],.int .i64 0,.pointer (some ⟨Z.n+1,0,none⟩)]) Z3.n (.slice ta (toksS l at').length (toksS l at').length) (toksS l at') 0 (restL [] 0 (Z.n+1)) :=
   ⟨by unfold restL;exact cL,by simp,OL.sl (OL.ext hol (.new _ _)),fun e=>by have:=(hol.blk e).2;omega,hpos,om⟩
  have hL:=hT.ln hE4 hn3 hsc fun c hc=>(hol.blk hc).1
  have ht0:=tokA_at hpos
  refine (peek_ok hsc ht0).mono ?_
  rintro r ⟨Z5,rfl,hE5⟩
  have hL5:=hL.stepE hE5
  have hn5:=hE5.n
  simp at hn5
  refine gS ?_
  have hL6:=hL5.stepE ((Ext.new (t:=some 138) Z5 [str [],.int .i64 0]).upd (b:=Z5.n) om [str (tokA (toksS l at') 0).1,.int .i64 ((tokA (toksS l at') 0).2:Nat)])
  rw [hdrop]
  rw [linesS_cons]
  cases hw0:decide ((tokA (toksS l at') 0).1=[]) with
  | true =>
    have hline:lineS l at' T seen= .ok (T,seen):=by unfold lineS;rw [if_pos (of_decide_eq_true hw0)]
    rw [hline,thenR_ok]
    try dsimp only
    have e1:((l.length:Nat):Int)+1=((l.length+1:Nat):Int):=om
    have e2:((at':Nat):Int)+((l.length+1:Nat):Int)=((at'+(l.length+1):Nat):Int):=om
    have e3:((i:Nat):Int)+1=((i+1:Nat):Int):=om
    refine gS1 (aI @hw0 (aI @g0 (aI @g2 (aI @g3 (aI @g4 (aI @g5 (aI @g6 (aI @g18 (aI @g19 (aI @g20 (aI @e1 (aI @e2 @e3)))))))))))) ?_
    have hltk':lens (ls.take (i+1))=at'+(l.length+1):=by rw [hltk];omega
    refine ⟨ZL,T,seen,v,fc,vs,hL6.tp,hB,hM.ext ?_ ?_,fR1 g0,fR1 g2,fR1 g3,fR1 g4,fR1 g5,fR1 hltk',fR1 g18,fR1 g19,fR,hF.mono om,by rw [hltk'],hSe⟩
    ·have:=hT.ext.n;have:=hB.n;omega
    ·exact (hE4.trans hE5).trans ((Ext.new _ _).upd (Nat.le_refl _) _)
  | false =>
    refine gS1 (aI @hw0 (aI @g0 (aI @g2 (aI @g3 (aI @g4 (aI @g5 (aI @g6 (aI @g18 (aI @g19 @g20))))))))) ?_
    have hkm6:MapAt ((Z5.new [str [],.int .i64 0] (some 138)).upd Z5.n [str (tokA (toksS l at') 0).1,.int .i64 ((tokA (toksS l at') 0).2:Nat)]) (Z.n+1+1+1) kindsKV:=by
     obtain ⟨ver,hg⟩:=hkm2
     refine MapAt.ext (Z:=Z') ⟨ver,?_⟩ om ((hE4.trans hE5).trans ((Ext.new _ _).upd (Nat.le_refl _) _))
     rw [hold _ om om om];exact hg
    refine look_ok (z:= .agg ⟨[.nilFunc,.bool false,.nilFunc]⟩) mapT128 keyS (by kernel_rfl) (by rw [ev_tmpE];exact fR) (by rw [ev_tmpE];exact fR) hkm6 ?_
    have hEs:Ext Z Z':=⟨om,fun c hc=>by rw [hold c om om om,hE2'.same c hc]⟩
    have hEw:=((hE4.trans hE5).trans ((Ext.new (t:=some 138) Z5 [str [],.int .i64 0]).upd (b:=Z5.n) (Nat.le_refl _) [str (tokA (toksS l at') 0).1,.int .i64 ((tokA (toksS l at') 0).2:Nat)]))
    have hw1:(tokA (toksS l at') 0).1≠[]:=of_decide_eq_false hw0
    rcases kinds_all (tokA (toksS l at') 0).1 with ⟨x1,x2⟩|⟨g,f,ks,x1,x2,hfull,hread⟩
    ·have hline:lineS l at' T seen= .error ((tokA (toksS l at') 0).2,12):=by unfold lineS;rw [if_neg hw1,x2]
     rw [hline,thenR_er,x1]
     simp (maxSteps:=8000000) (disch:=first|exact dS|fail) only [↓bD,bW,reduceMul,reduceEqDiff,reduceAdd,Nat.reduceBEq,reduceIte,Option.isNone_none,g0,g2,g3,g4,g5,g6,g18,g19,g20,Option.getD_none,Option.isSome_none]
     have hL7:=hL6.stepE ((Ext.new (t:=some 143) _ [.nilFunc,.bool false,.nilFunc]).upd (b:=Z5.n+1) (by simp) [.nilFunc,.bool false,.nilFunc])
     refine (need_ok hL7.sc ht0).mono ?_
     rintro r (⟨hok2,-⟩|⟨hok2,Z7,rfl,hE7⟩)
     case inl=>cases hok2
     refine gS ?_
     exact ⟨_,_,rfl,(hEs.trans hEw).trans ((((Ext.new _ _).upd (by simp) _)).trans hE7)⟩
    ·have hks:=x2
     rw [x1]
     unfold kindV
     simp (maxSteps:=8000000) (disch:=first|exact dS|fail) only [↓bD,bW,reduceMul,reduceEqDiff,reduceAdd,Nat.reduceBEq,reduceIte,Option.isNone_none,g0,g2,g3,g4,g5,g6,g18,g19,g20,Option.getD_some,Option.isSome_some]
     have hL7:=hL6.stepE ((Ext.new (t:=some 143) _ [.nilFunc,.bool false,.nilFunc]).upd (b:=Z5.n+1) (by simp) [.func (.func g) ⟨[]⟩ ⟨[]⟩,.bool ks.once,.func (.func f) ⟨[]⟩ ⟨[]⟩])
     refine (need_ok hL7.sc ht0).mono ?_
     rintro r (⟨-,rfl⟩|⟨hok2,-⟩)
     case inr=>cases hok2
     have hEk:=hEw.trans ((Ext.new (t:=some 143) _ [.nilFunc,.bool false,.nilFunc]).upd (b:=Z5.n+1) (by simp) [.func (.func g) ⟨[]⟩ ⟨[]⟩,.bool ks.once,.func (.func f) ⟨[]⟩ ⟨[]⟩])
     have hM7:=hM.ext (by have:=hT.ext.n;have:=hB.n;omega) hEk
     have hline:lineS l at' T seen=if (ks.once&&(lookKV (tokA (toksS l at') 0).1 seen).isSome)=true then .error ((tokA (toksS l at') 0).2,13) else
       if ks.full T=true then .error ((tokA (toksS l at') 0).2,2) else
        thenR (ks.rd (toksS l at') (l.drop ((tokA (toksS l at') 0).2+(tokA (toksS l at') 0).1.length-at')) ((tokA (toksS l at') 0).2+(tokA (toksS l at') 0).1.length) T 1) fun (T',k) =>
         if (tokA (toksS l at') k).1=[] then .ok (T',setKV (tokA (toksS l at') 0).1 tru seen) else .error ((tokA (toksS l at') k).2,12):=by
      unfold lineS;rw [if_neg hw1,x2]
     rw [hline]
     cases hon:ks.once with
     | true =>
       refine gS1 (aI @g0 (aI @g2 (aI @g3 (aI @g4 (aI @g5 (aI @g6 (aI @g18 (aI @g19 (aI @g20 @hon))))))))) ?_
       rw [hon] at hL7 hM7 hEk
       refine look_ok (z:= .bool false) mapT127 keyS (by kernel_rfl) (by rw [ev_tmpE];exact fR1 g4) (by rw [ev_tmpE];exact fR) hM7 ?_
       cases hsn:lookKV (tokA (toksS l at') 0).1 seen with
       | some sv =>
         obtain rfl:=look_tru hSe hsn
         unfold tru
         simp (maxSteps:=8000000) (disch:=first|exact dS|fail) only [↓bD,bW,reduceMul,reduceEqDiff,reduceAdd,Nat.reduceBEq,reduceIte,Option.isNone_none,Option.getD_some,Option.isSome_some]
         refine (need_ok hL7.sc ht0).mono ?_
         rintro r (⟨hok2,-⟩|⟨hok2,Z8,rfl,hE8⟩)
         case inl=>cases hok2
         refine gS ?_
         refine Must.intro (by kernel_rfl) ?_
         refine Must.intro (by (repeat first|simp (disch:=omega) only [as_read,as_upd,as_newb,rok_read,rok_eff,rok_nil,bi_true,as_nil,as_e (Ext.refl _),as_e hE8]|rw [as_ord (by kernel_rfl)]);first|done|rfl) ?_
         refine gS ?_
         rw [if_pos (by rfl),thenR_er]
         exact ⟨_,_,rfl,(hEs.trans hEk).trans hE8⟩
       | none =>
       simp (maxSteps:=8000000) (disch:=first|exact dS|fail) only [↓bD,bW,reduceMul,reduceEqDiff,reduceAdd,Nat.reduceBEq,reduceIte,Option.isNone_none,Option.getD_none,Option.isSome_none]
       refine (need_ok hL7.sc ht0).mono ?_
       rintro r (⟨-,rfl⟩|⟨hok2,-⟩)
       case inr=>cases hok2
       rw [if_neg (by first|simp|(rw [hsn];simp))]
       refine gS1 (aI @g0 (aI @g2 (aI @g3 (aI @g4 (aI @g5 (aI @g6 (aI @g18 (aI @g19 @g20)))))))) ?_
       refine Must.intro (by (repeat first|simp (disch:=omega) only [as_read,as_upd,as_newb,rok_read,rok_eff,rok_nil,bi_true,as_nil,as_e (Ext.refl _)]|rw [as_ord (by kernel_rfl)]);first|done|rfl) ?_
       refine gS1 (aI @g0 (aI @g2 (aI @g3 (aI @g4 (aI @g5 (aI @g6 (aI @g18 (aI @g19 @g20)))))))) ?_
       refine (hfull _ _ _ _ _ _ _ _ _ _ _ _ hL7).mono ?_
       rintro r rfl
       refine gS1 (aI @g0 (aI @g2 (aI @g3 (aI @g4 (aI @g5 (aI @g6 (aI @g18 (aI @g19 @g20)))))))) ?_
       refine (need_ok hL7.sc ht0).mono ?_
       cases hfl:ks.full T with
       | true =>
         rintro r (⟨hok2,-⟩|⟨hok2,Z8,rfl,hE8⟩)
         case inl=>cases hok2
         refine gS ?_
         refine Must.intro (by kernel_rfl) ?_
         refine Must.intro (by (repeat first|simp (disch:=omega) only [as_read,as_upd,as_newb,rok_read,rok_eff,rok_nil,bi_true,as_nil,as_e (Ext.refl _),as_e hE8]|rw [as_ord (by kernel_rfl)]);first|done|rfl) ?_
         refine gS ?_
         try rw [if_pos (by rfl)]
         try rw [thenR_er]
         exact ⟨_,_,rfl,(hEs.trans hEk).trans hE8⟩
       | false =>
       rintro r (⟨-,rfl⟩|⟨hok2,-⟩)
       case inr=>cases hok2
       try rw [if_neg (by simp)]
       refine gS1 (aI @g0 (aI @g2 (aI @g3 (aI @g4 (aI @g5 (aI @g6 (aI @g18 (aI @g19 @g20)))))))) ?_
       refine Must.intro (by (repeat first|simp (disch:=omega) only [as_read,as_upd,as_newb,rok_read,rok_eff,rok_nil,bi_true,as_nil,as_e (Ext.refl _)]|rw [as_ord (by kernel_rfl)]);first|done|rfl) ?_
       refine gS1 (aI @g0 (aI @g2 (aI @g3 (aI @g4 (aI @g5 (aI @g6 (aI @g18 (aI @g19 @g20)))))))) ?_
       refine mapupd_ok (xv:=tru) mapT127 keyS (by rw [ev_tmpE];exact fR1 g4) (by rw [ev_tmpE];exact fR) rfl hM7 ?_
       have hmsl:Z.n+1+1<ZL.n:=by have:=hB.n;omega
       have hmsl':Z.n+1+1<Z'.n:=by have:=hT.ext.n;omega
       have hL8:=(hT.seen (kv':=setKV (tokA (toksS l at') 0).1 tru seen) hM hmsl om).ln (extM2 hEk hmsl') (by simp;omega) (hL7.sc.updM hM7 om) fun c hc=>(hol.blk hc).1
       refine gS1 (aI @g0 (aI @g2 (aI @g3 (aI @g4 (aI @g5 (aI @g6 (aI @g18 (aI @g19 @g20)))))))) ?_
       refine (take_ok hL8.sc ht0).mono ?_
       rintro r ⟨Z9,rfl,hE9,q9⟩
       have hk1:=ends_toks 0 _ ht0 hw1
       have hL9:=hL8.step hE9 q9 hk1
       have hn9:=hE9.n
       simp at hn9
       have r9w:Z9.row Z5.n=some [str (tokA (toksS l at') 0).1,.int .i64 ((tokA (toksS l at') 0).2:Nat)]:=by
        rw [hE9.row (by simp;omega) om,row_congr (updM_get om)];exact cL
       have r9k:Z9.row (Z5.n+1)=some [.func (.func g) ⟨[]⟩ ⟨[]⟩,.bool true,.func (.func f) ⟨[]⟩ ⟨[]⟩]:=by
        rw [hE9.row (by simp) om,row_congr (updM_get om)];exact cL
       obtain ⟨f1,f2⟩:=first_tok hw1
       have e5:(((tokA (toksS l at') 0).2:Nat):Int)+(((tokA (toksS l at') 0).1.length:Nat):Int)=(((tokA (toksS l at') 0).2+(tokA (toksS l at') 0).1.length:Nat):Int):=om
       have q9':=q9
       unfold restL at q9'
       have e6:(((tokA (toksS l at') 0).2+(tokA (toksS l at') 0).1.length:Nat):Int)-((at':Nat):Int)=(((tokA (toksS l at') 0).2+(tokA (toksS l at') 0).1.length-at':Nat):Int):=om
       have e7:(tokA (toksS l at') 0).2+(tokA (toksS l at') 0).1.length-at'<=l.length:=om
       have s3:sub l ((tokA (toksS l at') 0).2+(tokA (toksS l at') 0).1.length-at') (l.length-((tokA (toksS l at') 0).2+(tokA (toksS l at') 0).1.length-at'))=some (l.drop ((tokA (toksS l at') 0).2+(tokA (toksS l at') 0).1.length-at')):=by
        rw [sub_of om,List.take_of_length_le (by simp)]
       have r10:Z9.row Z3.n=_:=row_of q9'
       refine gS1 (aI @g0 (aI @g2 (aI @g3 (aI @g4 (aI @g5 (aI @g6 (aI @g18 (aI @g19 (aI @g20 (aI @r9w (aI @r9k (aI @e5 (aI @q9' (aI @r10 (aI @e6 @s3))))))))))))))) ?_
       have e8:at'+((tokA (toksS l at') 0).2+(tokA (toksS l at') 0).1.length-at')=(tokA (toksS l at') 0).2+(tokA (toksS l at') 0).1.length:=om
       have hsf:=hok.2 ((tokA (toksS l at') 0).2+(tokA (toksS l at') 0).1.length-at')
       rw [e8] at hsf
       have hL10:=hL9.step ((ExtX.refl.upd [.slice ta (toksS l at').length (toksS l at').length,.int .i64 (1:Nat),str [],.int .i64 ((tokA (toksS l at') 0).2+(tokA (toksS l at') 0).1.length:Nat),.pointer (some ⟨Z.n+1,0,none⟩)]).upd (.slice ta (toksS l at').length (toksS l at').length:: .int .i64 (1:Nat)::restL (l.drop ((tokA (toksS l at') 0).2+(tokA (toksS l at') 0).1.length-at')) ((tokA (toksS l at') 0).2+(tokA (toksS l at') 0).1.length) (Z.n+1))) orow_upd_same hk1
       refine (hread _ _ _ _ _ _ _ _ _ _ _ _ _ hL10 ends_toks hok.1 (hF.fits om) (by simp;omega) om ends_ftoks hsf).mono ?_
       intro r
       cases hR:ks.rd (toksS l at') (l.drop ((tokA (toksS l at') 0).2+(tokA (toksS l at') 0).1.length-at')) ((tokA (toksS l at') 0).2+(tokA (toksS l at') 0).1.length) T 1 with
       | error pe =>
         obtain ⟨p,e⟩:=pe
         rintro ⟨Z12,rfl,hE12⟩
         refine gS ?_
         rw [thenR_er,thenR_er]
         exact ⟨_,_,rfl,ext_base hE2' hB hE12 om om⟩
       | ok Tk =>
         obtain ⟨T',k'⟩:=Tk
         rintro ⟨Z12,v',fc',vs',rfl,hL12⟩
         rw [thenR_ok]
         try dsimp only
         refine gS1 (aI @g0 (aI @g2 (aI @g3 (aI @g4 (aI @g5 (aI @g6 (aI @g18 (aI @g19 @g20)))))))) ?_
         have ht12:=tokA_at hL12.sc.k
         refine (peek_ok hL12.sc ht12).mono ?_
         rintro r ⟨Z13,rfl,hE13⟩
         have hL13:=hL12.stepE hE13
         refine gS ?_
         refine (need_ok hL13.sc ht12).mono ?_
         have hE14:=ext_base hE2' hB hL13.ext om om
         rintro r (⟨hok2,rfl⟩|⟨hok2,Z14,rfl,hE15⟩)
         case inr =>
          refine gS ?_
          refine Must.intro (by kernel_rfl) ?_
          refine Must.intro (by (repeat first|simp (disch:=omega) only [as_read,as_upd,as_newb,rok_read,rok_eff,rok_nil,bi_true,as_nil,as_e (Ext.refl _),as_e hE13,as_e hE15]|rw [as_ord (by kernel_rfl)]);first|done|rfl) ?_
          refine gS ?_
          rw [if_neg (of_decide_eq_false hok2),thenR_er]
          exact ⟨_,_,rfl,hE14.trans hE15⟩
         rw [if_pos (of_decide_eq_true hok2),thenR_ok]
         try dsimp only
         have e1:((l.length:Nat):Int)+1=((l.length+1:Nat):Int):=om
         have e2:((at':Nat):Int)+((l.length+1:Nat):Int)=((at'+(l.length+1):Nat):Int):=om
         have e3:((i:Nat):Int)+1=((i+1:Nat):Int):=om
         refine gS1 (aI @g0 (aI @g2 (aI @g3 (aI @g4 (aI @g5 (aI @g6 (aI @g18 (aI @g19 (aI @g20 (aI @e1 (aI @e2 @e3))))))))))) ?_
         have hltk':lens (ls.take (i+1))=at'+(l.length+1):=by rw [hltk];omega
         have hF':=rd_fits hks om hF hR
         refine ⟨updM ZL (Z.n+1+1) (mapC (setKV (tokA (toksS l at') 0).1 tru seen)),T',setKV (tokA (toksS l at') 0).1 tru seen,v',fc',vs',hL13.tp,hB.seen,updM_at.extX (by simp;omega) hL13.ext om,fR1 g0,fR1 g2,fR1 g3,fR1 g4,fR1 g5,fR1 hltk',fR1 g18,fR1 g19,fR,hF'.mono om,by rw [hltk'],setKV_tru hSe⟩
     | false =>
       rw [hon] at hL7 hM7 hEk
       refine gS1 (aI @g0 (aI @g2 (aI @g3 (aI @g4 (aI @g5 (aI @g6 (aI @g18 (aI @g19 (aI @g20 @hon))))))))) ?_
       refine (need_ok hL7.sc ht0).mono ?_
       rintro r (⟨-,rfl⟩|⟨hok2,-⟩)
       case inr=>cases hok2
       rw [if_neg (by first|simp|(rw [hsn];simp))]
       refine gS1 (aI @g0 (aI @g2 (aI @g3 (aI @g4 (aI @g5 (aI @g6 (aI @g18 (aI @g19 @g20)))))))) ?_
       refine Must.intro (by (repeat first|simp (disch:=omega) only [as_read,as_upd,as_newb,rok_read,rok_eff,rok_nil,bi_true,as_nil,as_e (Ext.refl _)]|rw [as_ord (by kernel_rfl)]);first|done|rfl) ?_
       refine gS1 (aI @g0 (aI @g2 (aI @g3 (aI @g4 (aI @g5 (aI @g6 (aI @g18 (aI @g19 @g20)))))))) ?_
       refine (hfull _ _ _ _ _ _ _ _ _ _ _ _ hL7).mono ?_
       rintro r rfl
       refine gS1 (aI @g0 (aI @g2 (aI @g3 (aI @g4 (aI @g5 (aI @g6 (aI @g18 (aI @g19 @g20)))))))) ?_
       refine (need_ok hL7.sc ht0).mono ?_
       cases hfl:ks.full T with
       | true =>
         rintro r (⟨hok2,-⟩|⟨hok2,Z8,rfl,hE8⟩)
         case inl=>cases hok2
         refine gS ?_
         refine Must.intro (by kernel_rfl) ?_
         refine Must.intro (by (repeat first|simp (disch:=omega) only [as_read,as_upd,as_newb,rok_read,rok_eff,rok_nil,bi_true,as_nil,as_e (Ext.refl _),as_e hE8]|rw [as_ord (by kernel_rfl)]);first|done|rfl) ?_
         refine gS ?_
         try rw [if_pos (by rfl)]
         try rw [thenR_er]
         exact ⟨_,_,rfl,(hEs.trans hEk).trans hE8⟩
       | false =>
       rintro r (⟨-,rfl⟩|⟨hok2,-⟩)
       case inr=>cases hok2
       try rw [if_neg (by simp)]
       refine gS1 (aI @g0 (aI @g2 (aI @g3 (aI @g4 (aI @g5 (aI @g6 (aI @g18 (aI @g19 @g20)))))))) ?_
       refine Must.intro (by (repeat first|simp (disch:=omega) only [as_read,as_upd,as_newb,rok_read,rok_eff,rok_nil,bi_true,as_nil,as_e (Ext.refl _)]|rw [as_ord (by kernel_rfl)]);first|done|rfl) ?_
       refine gS1 (aI @g0 (aI @g2 (aI @g3 (aI @g4 (aI @g5 (aI @g6 (aI @g18 (aI @g19 @g20)))))))) ?_
       refine mapupd_ok (xv:=tru) mapT127 keyS (by rw [ev_tmpE];exact fR1 g4) (by rw [ev_tmpE];exact fR) rfl hM7 ?_
       have hmsl:Z.n+1+1<ZL.n:=by have:=hB.n;omega
       have hmsl':Z.n+1+1<Z'.n:=by have:=hT.ext.n;omega
       have hL8:=(hT.seen (kv':=setKV (tokA (toksS l at') 0).1 tru seen) hM hmsl om).ln (extM2 hEk hmsl') (by simp;omega) (hL7.sc.updM hM7 om) fun c hc=>(hol.blk hc).1
       refine gS1 (aI @g0 (aI @g2 (aI @g3 (aI @g4 (aI @g5 (aI @g6 (aI @g18 (aI @g19 @g20)))))))) ?_
       refine (take_ok hL8.sc ht0).mono ?_
       rintro r ⟨Z9,rfl,hE9,q9⟩
       have hk1:=ends_toks 0 _ ht0 hw1
       have hL9:=hL8.step hE9 q9 hk1
       have hn9:=hE9.n
       simp at hn9
       have r9w:Z9.row Z5.n=some [str (tokA (toksS l at') 0).1,.int .i64 ((tokA (toksS l at') 0).2:Nat)]:=by
        rw [hE9.row (by simp;omega) om,row_congr (updM_get om)];exact cL
       have r9k:Z9.row (Z5.n+1)=some [.func (.func g) ⟨[]⟩ ⟨[]⟩,.bool false,.func (.func f) ⟨[]⟩ ⟨[]⟩]:=by
        rw [hE9.row (by simp) om,row_congr (updM_get om)];exact cL
       obtain ⟨f1,f2⟩:=first_tok hw1
       have e5:(((tokA (toksS l at') 0).2:Nat):Int)+(((tokA (toksS l at') 0).1.length:Nat):Int)=(((tokA (toksS l at') 0).2+(tokA (toksS l at') 0).1.length:Nat):Int):=om
       have q9':=q9
       unfold restL at q9'
       have e6:(((tokA (toksS l at') 0).2+(tokA (toksS l at') 0).1.length:Nat):Int)-((at':Nat):Int)=(((tokA (toksS l at') 0).2+(tokA (toksS l at') 0).1.length-at':Nat):Int):=om
       have e7:(tokA (toksS l at') 0).2+(tokA (toksS l at') 0).1.length-at'<=l.length:=om
       have s3:sub l ((tokA (toksS l at') 0).2+(tokA (toksS l at') 0).1.length-at') (l.length-((tokA (toksS l at') 0).2+(tokA (toksS l at') 0).1.length-at'))=some (l.drop ((tokA (toksS l at') 0).2+(tokA (toksS l at') 0).1.length-at')):=by
        rw [sub_of om,List.take_of_length_le (by simp)]
       have r10:Z9.row Z3.n=_:=row_of q9'
       refine gS1 (aI @g0 (aI @g2 (aI @g3 (aI @g4 (aI @g5 (aI @g6 (aI @g18 (aI @g19 (aI @g20 (aI @r9w (aI @r9k (aI @e5 (aI @q9' (aI @r10 (aI @e6 @s3))))))))))))))) ?_
       have e8:at'+((tokA (toksS l at') 0).2+(tokA (toksS l at') 0).1.length-at')=(tokA (toksS l at') 0).2+(tokA (toksS l at') 0).1.length:=om
       have hsf:=hok.2 ((tokA (toksS l at') 0).2+(tokA (toksS l at') 0).1.length-at')
       rw [e8] at hsf
       have hL10:=hL9.step ((ExtX.refl.upd [.slice ta (toksS l at').length (toksS l at').length,.int .i64 (1:Nat),str [],.int .i64 ((tokA (toksS l at') 0).2+(tokA (toksS l at') 0).1.length:Nat),.pointer (some ⟨Z.n+1,0,none⟩)]).upd (.slice ta (toksS l at').length (toksS l at').length:: .int .i64 (1:Nat)::restL (l.drop ((tokA (toksS l at') 0).2+(tokA (toksS l at') 0).1.length-at')) ((tokA (toksS l at') 0).2+(tokA (toksS l at') 0).1.length) (Z.n+1))) orow_upd_same hk1
       refine (hread _ _ _ _ _ _ _ _ _ _ _ _ _ hL10 ends_toks hok.1 (hF.fits om) (by simp;omega) om ends_ftoks hsf).mono ?_
       intro r
       cases hR:ks.rd (toksS l at') (l.drop ((tokA (toksS l at') 0).2+(tokA (toksS l at') 0).1.length-at')) ((tokA (toksS l at') 0).2+(tokA (toksS l at') 0).1.length) T 1 with
       | error pe =>
         obtain ⟨p,e⟩:=pe
         rintro ⟨Z12,rfl,hE12⟩
         refine gS ?_
         rw [thenR_er,thenR_er]
         exact ⟨_,_,rfl,ext_base hE2' hB hE12 om om⟩
       | ok Tk =>
         obtain ⟨T',k'⟩:=Tk
         rintro ⟨Z12,v',fc',vs',rfl,hL12⟩
         rw [thenR_ok]
         try dsimp only
         refine gS1 (aI @g0 (aI @g2 (aI @g3 (aI @g4 (aI @g5 (aI @g6 (aI @g18 (aI @g19 @g20)))))))) ?_
         have ht12:=tokA_at hL12.sc.k
         refine (peek_ok hL12.sc ht12).mono ?_
         rintro r ⟨Z13,rfl,hE13⟩
         have hL13:=hL12.stepE hE13
         refine gS ?_
         refine (need_ok hL13.sc ht12).mono ?_
         have hE14:=ext_base hE2' hB hL13.ext om om
         rintro r (⟨hok2,rfl⟩|⟨hok2,Z14,rfl,hE15⟩)
         case inr =>
          refine gS ?_
          refine Must.intro (by kernel_rfl) ?_
          refine Must.intro (by (repeat first|simp (disch:=omega) only [as_read,as_upd,as_newb,rok_read,rok_eff,rok_nil,bi_true,as_nil,as_e (Ext.refl _),as_e hE13,as_e hE15]|rw [as_ord (by kernel_rfl)]);first|done|rfl) ?_
          refine gS ?_
          rw [if_neg (of_decide_eq_false hok2),thenR_er]
          exact ⟨_,_,rfl,hE14.trans hE15⟩
         rw [if_pos (of_decide_eq_true hok2),thenR_ok]
         try dsimp only
         have e1:((l.length:Nat):Int)+1=((l.length+1:Nat):Int):=om
         have e2:((at':Nat):Int)+((l.length+1:Nat):Int)=((at'+(l.length+1):Nat):Int):=om
         have e3:((i:Nat):Int)+1=((i+1:Nat):Int):=om
         refine gS1 (aI @g0 (aI @g2 (aI @g3 (aI @g4 (aI @g5 (aI @g6 (aI @g18 (aI @g19 (aI @g20 (aI @e1 (aI @e2 @e3))))))))))) ?_
         have hltk':lens (ls.take (i+1))=at'+(l.length+1):=by rw [hltk];omega
         have hF':=rd_fits hks om hF hR
         refine ⟨updM ZL (Z.n+1+1) (mapC (setKV (tokA (toksS l at') 0).1 tru seen)),T',setKV (tokA (toksS l at') 0).1 tru seen,v',fc',vs',hL13.tp,hB.seen,updM_at.extX (by simp;omega) hL13.ext om,fR1 g0,fR1 g2,fR1 g3,fR1 g4,fR1 g5,fR1 hltk',fR1 g18,fR1 g19,fR,hF'.mono om,by rw [hltk'],setKV_tru hSe⟩
 ·rintro fr Z' ⟨ZL,T,seen,v,fc,vs,hT,hB,hM,g0,g2,g3,g4,g5,g6,g18,g19,g20,hF,hS,hSe⟩
  rw [<- hS,List.drop_length]
  refine gS1 (aI @g0 (aI @g2 (aI @g3 (aI @g4 (aI @g5 (aI @g6 (aI @g18 (aI @g19 (aI @g20 @lt_self))))))))) ?_
  exact ⟨_,_,_,_,_,_,rfl,hT,hB,hM,fR1 g0,fR1 g2,fR1 g3,fR1 g4,hSe⟩
 ·intro r
  cases hX:linesS ls 0 T0 [] with
  | error pe =>
    obtain ⟨p,e⟩:=pe
    rintro ⟨fr,Z',rfl,hE⟩
    refine gS ?_
    rw [thenR_er]
    exact ⟨_,rfl,hE⟩
  | ok Ts =>
    obtain ⟨T,seen⟩:=Ts
    rintro ⟨fr,Z',ZL,v,fc,vs,rfl,hT,hB,hM,g0,g2,g3,g4,hSe⟩
    rw [thenR_ok]
    try dsimp only
    refine gS1 (aI @g0 (aI @g2 (aI @g3 @g4))) ?_
    have hn6:Z2.n<=Z'.n:=by have:=hT.ext.n;have:=hB.n;omega
    have hE6:Ext Z' (Z'.new sixC):= .new _ _
    have hM6:=hM.ext om hE6
    have hT6:=hT.ext' hE6
    have r6:(Z'.new sixC).row Z'.n=some sixC:=cL
    have hES:Ext Z (Z'.new sixC):=by
     refine Ext.trans ?_ hE6
     refine ⟨om,fun c hc=>?_⟩
     rw [hT.ext.same c (by rw [hB.n];omega) om,hB.same c om,hE2'.same c hc]
    refine ev_count 6 (fun k fr Z6=>Z6=Z'.new sixC/\fr.get 0=some (str s)/\fr.get 2=some (.pointer (some ⟨Z.n,0,none⟩))/\fr.get 3=some (.pointer (some ⟨Z.n+1,0,none⟩))/\fr.get 4=some (.map (some (Z.n+1+1))) /\
      fr.get 118=some (.slice (some ⟨Z'.n,0,none⟩) 6 6)/\fr.get 119=some (.int .i64 (6:Nat))/\fr.get 120=some (.int .i64 (k:Nat))/\∀ w∈six.take k,(lookKV w seen).isSome=true)
     (fun r=>(six.all (fun w=>(lookKV w seen).isSome)=true/\∃ fr,r=⟨.exit 2,fr,Z'.new sixC⟩/\fr.get 2=some (.pointer (some ⟨Z.n,0,none⟩))/\fr.get 3=some (.pointer (some ⟨Z.n+1,0,none⟩))) \/
       (six.all (fun w=>(lookKV w seen).isSome)=false/\∃ fr,r=⟨.pan (fault s.length 12),fr,Z'.new sixC⟩)) ?_ ?_ ?_ ?_
    ·exact ⟨rfl,fR1 g0,fR1 g2,fR1 g3,fR1 g4,fR,fR,fR,fun w h=>by cases h⟩
    ·rintro k fr Z6 hk ⟨rfl,u0,u2,u3,u4,u118,u119,u120,hall⟩
     have ed:decide (((k:Nat):Int)<((6:Nat):Int))=true:=by rw [decide_eq_true_iff];omega
     have ed2:decide (((k:Nat):Int)<6)=true:=by rw [decide_eq_true_iff];omega
     have ed3:decide (k<6)=true:=by rw [decide_eq_true_iff];omega
     obtain ⟨w,hw,hs1⟩:=six_at hk
     refine gS1 (aI @u0 (aI @u2 (aI @u3 (aI @u4 (aI @u118 (aI @u119 (aI @u120 (aI @ed (aI @ed2 (aI @ed3 (aI @r6 (aI @hs1 @Nat.mul_one)))))))))))) ?_
     refine look_ok (z:= .bool false) mapT127 keyS (by kernel_rfl) (by rw [ev_tmpE];exact fR1 u4) (by rw [ev_tmpE];exact fR) hM6 ?_
     cases hsn:lookKV w seen with
     | some sv =>
       obtain rfl:=look_tru hSe hsn
       unfold tru
       have e3:((k:Nat):Int)+1=((k+1:Nat):Int):=om
       simp (maxSteps:=8000000) (disch:=first|exact dS|fail) only [↓bD,bW,reduceMul,reduceEqDiff,reduceAdd,Nat.reduceBEq,reduceIte,Option.isNone_none,Option.getD_some,Option.isSome_some,e3,u0,u2,u3,u4,u118,u119,u120]
       refine ⟨True.intro,fR1 u0,fR1 u2,fR1 u3,fR1 u4,fR1 u118,fR1 u119,fR,fun w' hw'=>?_⟩
       rw [List.take_add_one,hw] at hw'
       rcases List.mem_append.1 hw' with h|h
       ·exact hall w' h
       ·obtain rfl:w'=w:=by simpa using h
        rw [hsn];rfl
     | none =>
       simp (maxSteps:=8000000) (disch:=first|exact dS|fail) only [↓bD,bW,reduceMul,reduceEqDiff,reduceAdd,Nat.reduceBEq,reduceIte,Option.isNone_none,Option.getD_none,Option.isSome_none,u0]
       right
       refine ⟨?_,_,rfl⟩
       rw [Bool.eq_false_iff]
       intro h
       have:=List.all_eq_true.1 h w (List.mem_of_getElem? hw)
       rw [hsn] at this
       cases this
    ·rintro fr Z6 ⟨rfl,u0,u2,u3,u4,u118,u119,u120,hall⟩
     refine gS1 (aI @u0 (aI @u2 (aI @u3 (aI @u4 (aI @u118 (aI @u119 (aI @u120 @lt_self))))))) ?_
     left
     refine ⟨?_,_,rfl,fR1 u2,fR1 u3⟩
     rw [List.all_eq_true]
     exact fun w hw=>hall w (by rw [List.take_of_length_le (by simp [six])];exact hw)
    ·rintro r (⟨hall,fr,rfl,u2,u3⟩|⟨hall,fr,rfl⟩)
     ·rw [if_pos hall]
      have ro:=hT6.row
      have rz:(Z'.new sixC).orow Z.n=some [str [],.slice none 0 0,.slice none 0 0,.slice none 0 0,.int .i64 0,.int .i64 0,str [],.int .i64 0,.int .i64 0,str [],.slice none 0 0,.slice none 0 0,.int .i64 0,.slice none 0 0,.int .i64 0,.int .i64 0,.int .i64 0,.int .i64 0,.int .i64 0,.int .i64 0]:=by
       rw [orow_congr (hE6.same _ om),orow_congr (hT.ext.same _ (by rw [hB.n];omega) om),orow_congr (hB.same _ om)];exact z02
      obtain ⟨c1,c2,c3,c4,c5,rfl⟩:=fc5 hT6.fx
      have hAt:=fun (H:List Nat) (hH:∀ c∈H,c<Z.n)=>hT6.atU (q:=Z.n) (cs:=tnR T v [c1,c2,c3,c4,c5]) (H:=H) om (fun c hc=>by have:=hH c hc;omega)
      unfold tnR tnRow at ro hAt
      simp only [List.cons_append,List.nil_append] at ro hAt
      have rr:=row_of ro
      refine gS1 (aI @u2 (aI @u3 (aI @ro (aI @rr (aI @rz @Tryz.results40))))) ?_
      exact ⟨_,_,rfl,hES.upd (Nat.le_refl _) _,hAt⟩
     ·rw [if_neg (by rw [hall];simp)]
      refine gS ?_
      exact ⟨_,rfl,hES⟩
end Go.Proofs.T
