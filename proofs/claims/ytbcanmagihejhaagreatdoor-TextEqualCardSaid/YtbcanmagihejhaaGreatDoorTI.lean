/- The JQ of a text: the walk. -/
import Derived.Test.YtbcanmagihejhaaGreatDoorTH
set_option linter.unusedSimpArgs false
set_option linter.unusedVariables false
set_option maxHeartbeats 32000000
set_option maxRecDepth 100000
namespace Go.Proofs.T
open Go Go.Ab
open Nat (reduceMul reduceEqDiff reduceAdd)
theorem DN {fr:Fr}{t:Tmp}:ev fr (.tmp t)=fr.get t:=rfl
theorem Uf {l:By}{ls:List By}{at':Nat}{T:Tn}{seen:List (By×Value)}:BB (l::ls) at' T seen=Q9 (Dy l at' T seen) fun (T',NP)=>BB ls (at'+(l.length+1)) T' NP:=rfl
theorem QS {w:By}:∀ {seen:List (By×Value)},(∀ p∈seen,p.2=tru)->∀ p∈CN w tru seen,p.2=tru:=by
 intro seen;induction seen with
 | nil=>intro _ p hp;change p∈[(w,tru)] at hp;rw [List.mem_singleton] at hp;rw [hp]
 | cons q l ih =>
   obtain ⟨k,v⟩:=q;intro hs p hp;rw [Ik] at hp;split at hp
   ·rcases List.mem_cons.1 hp with rfl|hp
    ·rfl
    ·exact hs p (List.mem_cons_of_mem _ hp)
   ·rcases List.mem_cons.1 hp with rfl|hp
    ·exact hs _ (List.mem_cons_self ..)
    ·exact ih (fun p hp=>hs p (List.mem_cons_of_mem _ hp)) p hp
theorem Ug {w:By}{v:Value}:∀ {seen:List (By×Value)},(∀ p∈seen,p.2=tru)->Y1 w seen=some v->v=tru:=by
 intro seen;induction seen with
 | nil=>intro _ h;cases h
 | cons q l ih =>
   obtain ⟨k,v'⟩:=q;intro hs h;rw [BZ] at h;split at h
   ·cases h;exact hs (k,v) (List.mem_cons_self ..)
   ·exact ih (fun p hp=>hs p (List.mem_cons_of_mem _ hp)) h
theorem qU {Z Z':St}{b:Nat}{cs:List Value}(hE:Ext Z Z') (hb:b<Z.n):Ext (FY Z b cs) (FY Z' b cs):=⟨hE.n,fun c hc=>by
 by_cases e:c=b
 ·subst e;show (Tr.set _ _ _).get c=(Tr.set _ _ _).get c;rw [Tr.get_set_same,Tr.get_set_same];unfold St.ver;rw [hE.same c hb]
 ·rw [o6 e,o6 e];exact hE.same c hc⟩
theorem BS.zC {Z:St}{b:Nat}{kv:List (By×Value)}(h:BS Z b kv):Z.row b=none:=by
 obtain ⟨ver,hg⟩:=h;show ob (Z.BE b) _=_;unfold St.BE St.blk;rw [hg];rfl
theorem Sc.FY {Z:St}{b ms:Nat}{v:Value}{toks:List Tok}{k:Nat}{rest:List Value}{kv:List (By×Value)}{cs:List Value}(h:Sc Z b v toks k rest) (hm:BS Z ms kv) (hb:b≠ms):Sc (FY Z ms cs) b v toks k rest:=by
 refine ⟨by rw [A6 (o6 hb)];exact h.row,h.lt,?_,h.ne,h.k,h.len⟩;rcases h.sl with hs|⟨b2,off,sp,c,cells,rfl,h2,h3,h4⟩
 ·exact .inl hs
 ·refine .inr ⟨b2,off,sp,c,cells,rfl,h2,?_,h4⟩;rw [O4 (o6 fun e=>by rw [e,hm.zC] at h3;cases h3)];exact h3
theorem Tp.at' {ZL Z:St}{bt:Nat}{T:Tn}{v:Nat->Value}{fc vs:List Value}(h:Tp ZL Z bt T v fc vs):Ar Z (tnR T v fc) T :=
 ⟨v 0,v 1,v 2,fc,v 3,v 4,rfl,OL.sl (h.sl 0 om),OL.sl (h.sl 1 om),OL.sl (h.sl 2 om),h.fx.E8 Ja,OL.sl (h.sl 3 om),vs,OL.sl (h.sl 4 om),h.iv.mono fun _ _ hx=>SL.E8 hx Ja⟩
theorem Tp.atU {ZL Z:St}{bt q:Nat}{T:Tn}{v:Nat->Value}{fc vs cs:List Value}{H:List Nat}(h:Tp ZL Z bt T v fc vs) (hq:q<bt) (hH:∀ c∈H,c<bt):Ar (H6 (Z.upd q cs) H) (tnR T v fc) T:=by
 have hb:bt<Z.n:=Nat.lt_of_lt_of_le h.btl h.ext.n;have hl:=h.btl;have hk:o0 (H6 Z (Ho bt v)) (H6 (Z.upd q cs) H):=I5 (Z:=Z) (Z':=Z.upd q cs) (l:=Ho bt v) (l':=H) (Nat.le_refl _) fun c _ hm =>
  ⟨fun hc=>hm (List.mem_append.2 (.inl (List.mem_range.2 (hH c hc)))),D9 fun e=>hm (List.mem_append.2 (.inl (List.mem_range.2 om)))⟩
 have ho:∀ i,i<5->SLs (H6 (Z.upd q cs) H) (szT i) (v i) (BQ T vs i):=fun i hi=>OL.H6 (OL.DD (h.sl i hi) om) fun c hc=>by have:=hH c hc;omega
 exact ⟨v 0,v 1,v 2,fc,v 3,v 4,rfl,(ho 0 om).sl,(ho 1 om).sl,(ho 2 om).sl,h.fx.E8 hk,(ho 3 om).sl,vs,(ho 4 om).sl,h.iv.mono fun _ _ hx=>SL.E8 hx hk⟩
structure bT (ZS ZL:St) (ms:Nat):Prop where
 n:ZL.n=ZS.n
 same:∀ c,c≠ms->ZL.h.get c=ZS.h.get c
theorem bT.seen {ZS ZL:St}{ms:Nat}{cs:List Value}(h:bT ZS ZL ms):bT ZS (FY ZL ms cs) ms:=⟨h.n,fun c hc=>by rw [o6 hc];exact h.same c hc⟩
theorem KD {Z Z2 ZL Z':St}{ms bt:Nat}{cs:List Value}(hE:Ext Z Z2) (hB:bT Z2 ZL ms) (hX:C5 bt (FY ZL ms cs) Z') (h1:Z.n<=ms) (h2:Z.n<=bt):Ext Z Z':=by
 refine ⟨?_,fun c hc=>?_⟩
 ·have h3:=hX.n;have h4:=hB.n;have h5:=hE.n;rw [gz] at h3;omega
 ·have hn:Z2.n=ZL.n:=hB.n.symm;rw [hX.same c (by have:=hE.n;rw [gz];omega) om,o6 om,hB.same c om,hE.same c hc]
def SA:List Value:=[str [116,101,110,100,101,114],str [108,111,116],str [112,114,105,99,101],str [102,111,114,109,117,108,97],str [98,117,100,103,101,116],str [116,105,109,101,115]]
theorem uM {k:Nat}(h:k<6):∃ w,six[k]? =some w/\sub SA k 1=some [str w]:=by
 match k,h with
 | 0,_=>exact ⟨_,rfl,rfl⟩
 | 1,_=>exact ⟨_,rfl,rfl⟩
 | 2,_=>exact ⟨_,rfl,rfl⟩
 | 3,_=>exact ⟨_,rfl,rfl⟩
 | 4,_=>exact ⟨_,rfl,rfl⟩
 | 5,_=>exact ⟨_,rfl,rfl⟩
theorem dR {Z:St}{s:By}(hs:s.length<=4000) (hl:∀ (l:By) (a:Nat),l∈I3 10 s->a<=s.length+1->Kc l a) :
  Ev (go Tryz.prog HS (.fn 40) [str s] Z) (fun r=>match Cj s with
   | .ok T=>∃ Z' cells,r=⟨false,.agg ⟨cells⟩,Z'⟩/\Ext Z Z'/\∀ H:List Nat,(∀ c∈H,c<Z.n)->Ar (H6 Z' H) cells T
   | .error (p,e)=>∃ Z',r=⟨true,fault p e,Z'⟩/\Ext Z Z') ⟨⟩:=by
 refine D7 Tryz.func40 rfl rfl ?_;refine gS1 (aI @hZ @emk) ?_;refine iA.mono ?_;rintro r ⟨Z1,rfl,hE1,hn1,hkm⟩;simp at hn1;refine gS ?_;refine (SX om).mono ?_;rintro r ⟨lv,Z2,rfl,hv,hE2,hb2⟩;have z1:Z1.A5 (Z.n+1)=some [str [],.slice none 0 0,.slice none 0 0,.slice none 0 0,.int .i64 0,.int .i64 0,str [],.int .i64 0,.int .i64 0,str [],.slice none 0 0,.slice none 0 0,.int .i64 0,.slice none 0 0,.int .i64 0,.int .i64 0,.int .i64 0,.int .i64 0,.int .i64 0,.int .i64 0]:=by rw [A6 (hE1.same _ (by simp))];exact cL
 have z0:Z1.A5 Z.n=some [str [],.slice none 0 0,.slice none 0 0,.slice none 0 0,.int .i64 0,.int .i64 0,str [],.int .i64 0,.int .i64 0,str [],.slice none 0 0,.slice none 0 0,.int .i64 0,.slice none 0 0,.int .i64 0,.int .i64 0,.int .i64 0,.int .i64 0,.int .i64 0,.int .i64 0]:=by rw [A6 (hE1.same _ (by simp;omega))];exact cL
 have hms:BS Z1 (Z.n+1+1) []:=by
  obtain ⟨ver,hg⟩:=Yi (Z:=(Z.new [str [],.slice none 0 0,.slice none 0 0,.slice none 0 0,.int .i64 0,.int .i64 0,str [],.int .i64 0,.int .i64 0,str [],.slice none 0 0,.slice none 0 0,.int .i64 0,.slice none 0 0,.int .i64 0,.int .i64 0,.int .i64 0,.int .i64 0,.int .i64 0,.int .i64 0] (some 41)).new [str [],.slice none 0 0,.slice none 0 0,.slice none 0 0,.int .i64 0,.int .i64 0,str [],.int .i64 0,.int .i64 0,str [],.slice none 0 0,.slice none 0 0,.int .i64 0,.slice none 0 0,.int .i64 0,.int .i64 0,.int .i64 0,.int .i64 0,.int .i64 0,.int .i64 0] (some 41));exact ⟨ver,by rw [hE1.same _ (by simp)];exact hg⟩
 have zD:BS Z1 (Z.n+1+1+1) K7:=hkm;have KE:Ext Z Z1:=(((Ext.new _ _).trans (.new _ _)).Dz _ _).trans hE1;have hn2:=hE2.n;have JY:=KE.trans hE2
 have tp0:Tp Z2 Z2 (Z.n+1) T0 (fun _=> .slice none 0 0) [str [],.int .i64 0,.int .i64 0,str [],.slice none 0 0] [] :=
  oE om (by rw [A6 (hE2.same _ om)];exact z1)
 have AK2:=hms.ext om hE2;have AK3:=zD.ext om hE2;have z02:Z2.A5 Z.n=some [str [],.slice none 0 0,.slice none 0 0,.slice none 0 0,.int .i64 0,.int .i64 0,str [],.int .i64 0,.int .i64 0,str [],.slice none 0 0,.slice none 0 0,.int .i64 0,.slice none 0 0,.int .i64 0,.int .i64 0,.int .i64 0,.int .i64 0,.int .i64 0,.int .i64 0]:=by rw [A6 (hE2.same _ om)];exact z0
 clear hms hkm zD z0 z1 hE1;have AX5:=GP 10 s;have AK4:=EK 10 s;have hcl:=JJ 10 s;obtain ⟨a,c,b,off,cells,rfl,y1,y2⟩:=hv.use;unfold Cj;generalize hll:I3 10 s=ls at *;refine gS ?_
 refine L8 ls.length (fun i fr Z'=>∃ ZL T seen v fc vs,Tp ZL Z' (Z.n+1) T v fc vs/\bT Z2 ZL (Z.n+1+1)/\BS Z' (Z.n+1+1) seen /\
   fr.get 0=some (str s)/\fr.get 2=some (.pointer (some ⟨Z.n,0,none⟩))/\fr.get 3=some (.pointer (some ⟨Z.n+1,0,none⟩))/\fr.get 4=some (.map (some (Z.n+1+1)))/\fr.get 5=some (.map (some (Z.n+1+1+1))) /\
   fr.get 6=some (.int .i64 (lens (ls.take i):Nat))/\fr.get 18=some (.slice a ls.length c)/\fr.get 19=some (.int .i64 (ls.length:Nat))/\fr.get 20=some (.int .i64 (i:Nat)) /\
   Ga (12+i) T/\BB (ls.drop i) (lens (ls.take i)) T seen=BB ls 0 T0 []/\∀ p∈seen,p.2=tru)
  (fun r=>match BB ls 0 T0 [] with
    | .ok (T,seen)=>∃ fr Z' ZL v fc vs,r=⟨.exit 0,fr,Z'⟩/\Tp ZL Z' (Z.n+1) T v fc vs/\bT Z2 ZL (Z.n+1+1)/\BS Z' (Z.n+1+1) seen /\
       fr.get 0=some (str s)/\fr.get 2=some (.pointer (some ⟨Z.n,0,none⟩))/\fr.get 3=some (.pointer (some ⟨Z.n+1,0,none⟩))/\fr.get 4=some (.map (some (Z.n+1+1)))/\∀ p∈seen,p.2=tru
    | .error (p,e)=>∃ fr Z',r=⟨.pan (fault p e),fr,Z'⟩/\Ext Z Z') ?_ ?_ ?_ ?_
 ·exact ⟨Z2,T0,[],_,_,_,tp0,⟨rfl,fun _ _=>rfl⟩,AK2,fR,fR,fR,fR,fR,fR,fR,fR,fR,⟨by simp [T0],by simp [T0],by simp [T0],by simp [T0],by simp [T0]⟩,rfl,fun _ h=>by cases h⟩
 ·rintro i fr Z' hi ⟨ZL,T,seen,v,fc,vs,hT,hB,hM,g0,g2,g3,g4,g5,g6,g18,g19,g20,hF,hS,hSe⟩;rw [<- hS];clear hS;obtain ⟨l,hl'⟩:=H8 hi;obtain ⟨sp,rfl,y3,y4⟩:=y1 om;have zE:ls.drop i=l::ls.drop (i+1):=by rw [List.drop_eq_getElem_cons hi,(List.getElem?_eq_some_iff.1 hl').2]
  have uN:=QT hl';have Ab5:=Yj ls (i+1);have hn':Z2.n<=Z'.n:=by have:=hT.ext.n;have:=hB.n;omega
  have hold:∀ c,c<Z2.n->c≠Z.n+1->c≠Z.n+1+1->Z'.h.get c=Z2.h.get c:=fun c h1 h2 h3=>by
   rw [hT.ext.same c (by rw [hB.n];exact h1) h2,hB.same c h3]
  have hbb:b=Z1.n:=by cases hb2;rfl
  have hr:Z'.row b=some cells:=by rw [O4 (hold b y3 om om)];exact y4
  have hs1:=y2 i l hl';have hok:=hl l (lens (ls.take i)) (List.mem_of_getElem? hl') om;have ed:decide (((i:Nat):Int)<((ls.length:Nat):Int))=true:=by rw [decide_eq_true_iff];omega
  have ed2:decide (i<ls.length)=true:=decide_eq_true hi;refine gS1 (a14N @g0 @g2 @g3 @g4 @g5 @g6 @g18 @g19 @g20 @ed @ed2 @hr @hs1 @Nat.mul_one) ?_;refine (bV om om).mono ?_;rintro r ⟨tvv,Z3,rfl,hol,hE3⟩;have hn3:=hE3.n;obtain ⟨ta,rfl⟩:=OL.shape hol;have Ab6:(C4 l (lens (ls.take i))).length<=l.length+2:=by
   unfold C4;rw [List.length_append];have:=Ky (I3 32 l) (lens (ls.take i));have:=EK 32 l;have:=JJ 32 l;simp;omega
  have Lw:0<(C4 l (lens (ls.take i))).length:=by unfold C4;simp
  generalize hat:lens (ls.take i)=at' at *;refine gS1 @g3 ?_;rw [List.length_map];have hE4:Ext Z' (Z3.new [.slice ta (C4 l at').length (C4 l at').length,.int .i64 0,str [],.int .i64 0,.pointer (some ⟨Z.n+1,0,none⟩)]):=hE3.AF _;rw [List.length_map] at hol
  have hsc:Sc (Z3.new [.slice ta (C4 l at').length (C4 l at').length,.int .i64 0,str [],.int .i64 0,.pointer (some ⟨Z.n+1,0,none⟩)]) Z3.n (.slice ta (C4 l at').length (C4 l at').length) (C4 l at') 0 (M4 [] 0 (Z.n+1)) :=
   ⟨by unfold M4;exact cL,by simp,OL.sl (OL.ext hol (.new _ _)),fun e=>by have:=(hol.blk e).2;omega,Lw,om⟩
  have hL:=hT.ln hE4 hn3 hsc fun c hc=>(hol.blk hc).1;have ht0:=W1 Lw;refine (T7 hsc ht0).mono ?_;rintro r ⟨Z5,rfl,hE5⟩;have hL5:=hL.J6 hE5;have hn5:=hE5.n;simp at hn5;refine gS ?_;have hL6:=hL5.J6 ((Ext.new (t:=some 138) Z5 [str [],.int .i64 0]).upd (b:=Z5.n) om [str (A9 (C4 l at') 0).1,.int .i64 ((A9 (C4 l at') 0).2:Nat)]);rw [zE];rw [Uf];cases hw0:decide ((A9 (C4 l at') 0).1=[]) with
  | true =>
    have Uh:Dy l at' T seen= .ok (T,seen):=by unfold Dy;rw [if_pos (of_decide_eq_true hw0)]
    rw [Uh,C2]
    try dsimp only
    have e1:((l.length:Nat):Int)+1=((l.length+1:Nat):Int):=om;have e2:((at':Nat):Int)+((l.length+1:Nat):Int)=((at'+(l.length+1):Nat):Int):=om;have e3:((i:Nat):Int)+1=((i+1:Nat):Int):=om;refine gS1 (a13N @hw0 @g0 @g2 @g3 @g4 @g5 @g6 @g18 @g19 @g20 @e1 @e2 @e3) ?_;have Lm:lens (ls.take (i+1))=at'+(l.length+1):=by rw [uN];omega
    refine ⟨ZL,T,seen,v,fc,vs,hL6.tp,hB,hM.ext ?_ ?_,fR1 g0,fR1 g2,fR1 g3,fR1 g4,fR1 g5,fR1 Lm,fR1 g18,fR1 g19,fR,hF.mono om,by rw [Lm],hSe⟩
    ·have:=hT.ext.n;have:=hB.n;omega
    ·exact (hE4.trans hE5).trans ((Ext.new _ _).upd (Nat.le_refl _) _)
  | false =>
    refine gS1 (a10N @hw0 @g0 @g2 @g3 @g4 @g5 @g6 @g18 @g19 @g20) ?_;have AK5:BS ((Z5.new [str [],.int .i64 0] (some 138)).upd Z5.n [str (A9 (C4 l at') 0).1,.int .i64 ((A9 (C4 l at') 0).2:Nat)]) (Z.n+1+1+1) K7:=by
     obtain ⟨ver,hg⟩:=AK3;refine BS.ext (Z:=Z') ⟨ver,?_⟩ om ((hE4.trans hE5).trans ((Ext.new _ _).upd (Nat.le_refl _) _));rw [hold _ om om om];exact hg
    refine Rz (z:= .agg ⟨[.nilFunc,.bool false,.nilFunc]⟩) CH Hl (by kernel_rfl) (by rw [DN];exact fR) (by rw [DN];exact fR) AK5 ?_;have hEs:Ext Z Z':=⟨om,fun c hc=>by rw [hold c om om om,JY.same c hc]⟩
    have hEw:=((hE4.trans hE5).trans ((Ext.new (t:=some 138) Z5 [str [],.int .i64 0]).upd (b:=Z5.n) (Nat.le_refl _) [str (A9 (C4 l at') 0).1,.int .i64 ((A9 (C4 l at') 0).2:Nat)]))
    have hw1:(A9 (C4 l at') 0).1≠[]:=of_decide_eq_false hw0;rcases bX (A9 (C4 l at') 0).1 with ⟨x1,x2⟩|⟨g,f,ks,x1,x2,Pt,qV⟩
    ·have Uh:Dy l at' T seen= .error ((A9 (C4 l at') 0).2,12):=by unfold Dy;rw [if_neg hw1,x2]
     rw [Uh,H4,x1];simp (maxSteps:=8000000) (disch:=first|exact dS|fail) only [↓bD,bW,reduceMul,reduceEqDiff,reduceAdd,Nat.reduceBEq,reduceIte,Option.isNone_none,g0,g2,g3,g4,g5,g6,g18,g19,g20,Option.getD_none,Option.isSome_none];have hL7:=hL6.J6 ((Ext.new (t:=some 143) _ [.nilFunc,.bool false,.nilFunc]).upd (b:=Z5.n+1) (by simp) [.nilFunc,.bool false,.nilFunc]);refine (K6 hL7.sc ht0).mono ?_;rintro r (⟨AB,-⟩|⟨AB,Z7,rfl,hE7⟩)
     case inl=>cases AB
     refine gS ?_;exact ⟨_,_,rfl,(hEs.trans hEw).trans ((((Ext.new _ _).upd (by simp) _)).trans hE7)⟩
    ·have hks:=x2;rw [x1];unfold Fv;simp (maxSteps:=8000000) (disch:=first|exact dS|fail) only [↓bD,bW,reduceMul,reduceEqDiff,reduceAdd,Nat.reduceBEq,reduceIte,Option.isNone_none,g0,g2,g3,g4,g5,g6,g18,g19,g20,Option.getD_some,Option.isSome_some];have hL7:=hL6.J6 ((Ext.new (t:=some 143) _ [.nilFunc,.bool false,.nilFunc]).upd (b:=Z5.n+1) (by simp) [.func (.func g) ⟨[]⟩ ⟨[]⟩,.bool ks.once,.func (.func f) ⟨[]⟩ ⟨[]⟩]);refine (K6 hL7.sc ht0).mono ?_;rintro r (⟨-,rfl⟩|⟨AB,-⟩)
     case inr=>cases AB
     have hEk:=hEw.trans ((Ext.new (t:=some 143) _ [.nilFunc,.bool false,.nilFunc]).upd (b:=Z5.n+1) (by simp) [.func (.func g) ⟨[]⟩ ⟨[]⟩,.bool ks.once,.func (.func f) ⟨[]⟩ ⟨[]⟩]);have hM7:=hM.ext (by have:=hT.ext.n;have:=hB.n;omega) hEk
     have Uh:Dy l at' T seen=if (ks.once&&(Y1 (A9 (C4 l at') 0).1 seen).isSome)=true then .error ((A9 (C4 l at') 0).2,13) else
       if ks.full T=true then .error ((A9 (C4 l at') 0).2,2) else
        Q9 (ks.rd (C4 l at') (l.drop ((A9 (C4 l at') 0).2+(A9 (C4 l at') 0).1.length-at')) ((A9 (C4 l at') 0).2+(A9 (C4 l at') 0).1.length) T 1) fun (T',k) =>
         if (A9 (C4 l at') k).1=[] then .ok (T',CN (A9 (C4 l at') 0).1 tru seen) else .error ((A9 (C4 l at') k).2,12):=by
      unfold Dy;rw [if_neg hw1,x2]
     rw [Uh];cases hon:ks.once with
     | true =>
       refine gS1 (a10N @g0 @g2 @g3 @g4 @g5 @g6 @g18 @g19 @g20 @hon) ?_;rw [hon] at hL7 hM7 hEk;refine Rz (z:= .bool false) Mb Hl (by kernel_rfl) (by rw [DN];exact fR1 g4) (by rw [DN];exact fR) hM7 ?_;cases hsn:Y1 (A9 (C4 l at') 0).1 seen with
       | some sv =>
         obtain rfl:=Ug hSe hsn;unfold tru;simp (maxSteps:=8000000) (disch:=first|exact dS|fail) only [↓bD,bW,reduceMul,reduceEqDiff,reduceAdd,Nat.reduceBEq,reduceIte,Option.isNone_none,Option.getD_some,Option.isSome_some];refine (K6 hL7.sc ht0).mono ?_;rintro r (⟨AB,-⟩|⟨AB,Z8,rfl,hE8⟩)
         case inl=>cases AB
         refine gS ?_;refine H3.intro (by kernel_rfl) ?_;refine H3.intro (by (repeat first|simp (disch:=omega) only [B9,C9,C0,I9,L9,M0,I8,N8,W3 (Ext.refl _),W3 hE8]|rw [D0 (by kernel_rfl)]);first|done|rfl) ?_;refine gS ?_;rw [if_pos (by rfl),H4];exact ⟨_,_,rfl,(hEs.trans hEk).trans hE8⟩
       | none =>
       simp (maxSteps:=8000000) (disch:=first|exact dS|fail) only [↓bD,bW,reduceMul,reduceEqDiff,reduceAdd,Nat.reduceBEq,reduceIte,Option.isNone_none,Option.getD_none,Option.isSome_none];refine (K6 hL7.sc ht0).mono ?_;rintro r (⟨-,rfl⟩|⟨AB,-⟩)
       case inr=>cases AB
       rw [if_neg (by first|simp|(rw [hsn];simp))];refine gS1 (a9N @g0 @g2 @g3 @g4 @g5 @g6 @g18 @g19 @g20) ?_;refine H3.intro (by (repeat first|simp (disch:=omega) only [B9,C9,C0,I9,L9,M0,I8,N8,W3 (Ext.refl _)]|rw [D0 (by kernel_rfl)]);first|done|rfl) ?_;refine gS1 (a9N @g0 @g2 @g3 @g4 @g5 @g6 @g18 @g19 @g20) ?_;refine (Pt _ _ _ _ _ _ _ _ _ _ _ _ hL7).mono ?_;rintro r rfl;refine gS1 (a9N @g0 @g2 @g3 @g4 @g5 @g6 @g18 @g19 @g20) ?_;refine (K6 hL7.sc ht0).mono ?_;cases hfl:ks.full T with
       | true =>
         rintro r (⟨AB,-⟩|⟨AB,Z8,rfl,hE8⟩)
         case inl=>cases AB
         refine gS ?_;refine H3.intro (by kernel_rfl) ?_;refine H3.intro (by (repeat first|simp (disch:=omega) only [B9,C9,C0,I9,L9,M0,I8,N8,W3 (Ext.refl _),W3 hE8]|rw [D0 (by kernel_rfl)]);first|done|rfl) ?_;refine gS ?_
         try rw [if_pos (by rfl)]
         try rw [H4]
         exact ⟨_,_,rfl,(hEs.trans hEk).trans hE8⟩
       | false =>
       rintro r (⟨-,rfl⟩|⟨AB,-⟩)
       case inr=>cases AB
       try rw [if_neg (by simp)]
       refine gS1 (a9N @g0 @g2 @g3 @g4 @g5 @g6 @g18 @g19 @g20) ?_;refine H3.intro (by (repeat first|simp (disch:=omega) only [B9,C9,C0,I9,L9,M0,I8,N8,W3 (Ext.refl _)]|rw [D0 (by kernel_rfl)]);first|done|rfl) ?_;refine gS1 (a9N @g0 @g2 @g3 @g4 @g5 @g6 @g18 @g19 @g20) ?_;refine AD (xv:=tru) Mb Hl (by rw [DN];exact fR1 g4) (by rw [DN];exact fR) rfl hM7 ?_;have uO:Z.n+1+1<ZL.n:=by have:=hB.n;omega
       have iB:Z.n+1+1<Z'.n:=by have:=hT.ext.n;omega
       have hL8:=(hT.seen (kv':=CN (A9 (C4 l at') 0).1 tru seen) hM uO om).ln (qU hEk iB) (by simp;omega) (hL7.sc.FY hM7 om) fun c hc=>(hol.blk hc).1;refine gS1 (a9N @g0 @g2 @g3 @g4 @g5 @g6 @g18 @g19 @g20) ?_;refine (W8 hL8.sc ht0).mono ?_;rintro r ⟨Z9,rfl,hE9,q9⟩;have hk1:=Hc 0 _ ht0 hw1;have hL9:=hL8.step hE9 q9 hk1;have hn9:=hE9.n;simp at hn9;have r9w:Z9.row Z5.n=some [str (A9 (C4 l at') 0).1,.int .i64 ((A9 (C4 l at') 0).2:Nat)]:=by
        rw [hE9.row (by simp;omega) om,O4 (o6 om)];exact cL
       have r9k:Z9.row (Z5.n+1)=some [.func (.func g) ⟨[]⟩ ⟨[]⟩,.bool true,.func (.func f) ⟨[]⟩ ⟨[]⟩]:=by
        rw [hE9.row (by simp) om,O4 (o6 om)];exact cL
       obtain ⟨f1,f2⟩:=QU hw1;have e5:(((A9 (C4 l at') 0).2:Nat):Int)+(((A9 (C4 l at') 0).1.length:Nat):Int)=(((A9 (C4 l at') 0).2+(A9 (C4 l at') 0).1.length:Nat):Int):=om;have q9':=q9;unfold M4 at q9';have e6:(((A9 (C4 l at') 0).2+(A9 (C4 l at') 0).1.length:Nat):Int)-((at':Nat):Int)=(((A9 (C4 l at') 0).2+(A9 (C4 l at') 0).1.length-at':Nat):Int):=om;have e7:(A9 (C4 l at') 0).2+(A9 (C4 l at') 0).1.length-at'<=l.length:=om;have s3:sub l ((A9 (C4 l at') 0).2+(A9 (C4 l at') 0).1.length-at') (l.length-((A9 (C4 l at') 0).2+(A9 (C4 l at') 0).1.length-at'))=some (l.drop ((A9 (C4 l at') 0).2+(A9 (C4 l at') 0).1.length-at')):=by
        rw [r9 om,List.take_of_length_le (by simp)]
       have r10:Z9.row Z3.n=_:=A8 q9';refine gS1 (a16N @g0 @g2 @g3 @g4 @g5 @g6 @g18 @g19 @g20 @r9w @r9k @e5 @q9' @r10 @e6 @s3) ?_;have e8:at'+((A9 (C4 l at') 0).2+(A9 (C4 l at') 0).1.length-at')=(A9 (C4 l at') 0).2+(A9 (C4 l at') 0).1.length:=om;have hsf:=hok.2 ((A9 (C4 l at') 0).2+(A9 (C4 l at') 0).1.length-at');rw [e8] at hsf;have uP:=hL9.step ((C5.refl.upd [.slice ta (C4 l at').length (C4 l at').length,.int .i64 (1:Nat),str [],.int .i64 ((A9 (C4 l at') 0).2+(A9 (C4 l at') 0).1.length:Nat),.pointer (some ⟨Z.n+1,0,none⟩)]).upd (.slice ta (C4 l at').length (C4 l at').length:: .int .i64 (1:Nat)::M4 (l.drop ((A9 (C4 l at') 0).2+(A9 (C4 l at') 0).1.length-at')) ((A9 (C4 l at') 0).2+(A9 (C4 l at') 0).1.length) (Z.n+1))) C8 hk1;refine (qV _ _ _ _ _ _ _ _ _ _ _ _ _ uP Hc hok.1 (hF.fits om) (by simp;omega) om OS hsf).mono ?_;intro r;cases hR:ks.rd (C4 l at') (l.drop ((A9 (C4 l at') 0).2+(A9 (C4 l at') 0).1.length-at')) ((A9 (C4 l at') 0).2+(A9 (C4 l at') 0).1.length) T 1 with
       | error pe =>
         obtain ⟨p,e⟩:=pe;rintro ⟨Z12,rfl,RL⟩;refine gS ?_;rw [H4,H4];exact ⟨_,_,rfl,KD JY hB RL om om⟩
       | ok Tk =>
         obtain ⟨T',k'⟩:=Tk;rintro ⟨Z12,v',fc',vs',rfl,XB⟩;rw [C2]
         try dsimp only
         refine gS1 (a9N @g0 @g2 @g3 @g4 @g5 @g6 @g18 @g19 @g20) ?_;have iC:=W1 XB.sc.k;refine (T7 XB.sc iC).mono ?_;rintro r ⟨Z13,rfl,iD⟩;have SB:=XB.J6 iD;refine gS ?_;refine (K6 SB.sc iC).mono ?_;have uQ:=KD JY hB SB.ext om om;rintro r (⟨AB,rfl⟩|⟨AB,Z14,rfl,iE⟩)
         case inr =>
          refine gS ?_;refine H3.intro (by kernel_rfl) ?_;refine H3.intro (by (repeat first|simp (disch:=omega) only [B9,C9,C0,I9,L9,M0,I8,N8,W3 (Ext.refl _),W3 iD,W3 iE]|rw [D0 (by kernel_rfl)]);first|done|rfl) ?_;refine gS ?_;rw [if_neg (of_decide_eq_false AB),H4];exact ⟨_,_,rfl,uQ.trans iE⟩
         rw [if_pos (of_decide_eq_true AB),C2]
         try dsimp only
         have e1:((l.length:Nat):Int)+1=((l.length+1:Nat):Int):=om;have e2:((at':Nat):Int)+((l.length+1:Nat):Int)=((at'+(l.length+1):Nat):Int):=om;have e3:((i:Nat):Int)+1=((i+1:Nat):Int):=om;refine gS1 (a12N @g0 @g2 @g3 @g4 @g5 @g6 @g18 @g19 @g20 @e1 @e2 @e3) ?_;have Lm:lens (ls.take (i+1))=at'+(l.length+1):=by rw [uN];omega
         have hF':=Yf hks om hF hR;refine ⟨FY ZL (Z.n+1+1) (Gc (CN (A9 (C4 l at') 0).1 tru seen)),T',CN (A9 (C4 l at') 0).1 tru seen,v',fc',vs',SB.tp,hB.seen,BL.W7 (by simp;omega) SB.ext om,fR1 g0,fR1 g2,fR1 g3,fR1 g4,fR1 g5,fR1 Lm,fR1 g18,fR1 g19,fR,hF'.mono om,by rw [Lm],QS hSe⟩
     | false =>
       rw [hon] at hL7 hM7 hEk;refine gS1 (a10N @g0 @g2 @g3 @g4 @g5 @g6 @g18 @g19 @g20 @hon) ?_;refine (K6 hL7.sc ht0).mono ?_;rintro r (⟨-,rfl⟩|⟨AB,-⟩)
       case inr=>cases AB
       rw [if_neg (by first|simp|(rw [hsn];simp))];refine gS1 (a9N @g0 @g2 @g3 @g4 @g5 @g6 @g18 @g19 @g20) ?_;refine H3.intro (by (repeat first|simp (disch:=omega) only [B9,C9,C0,I9,L9,M0,I8,N8,W3 (Ext.refl _)]|rw [D0 (by kernel_rfl)]);first|done|rfl) ?_;refine gS1 (a9N @g0 @g2 @g3 @g4 @g5 @g6 @g18 @g19 @g20) ?_;refine (Pt _ _ _ _ _ _ _ _ _ _ _ _ hL7).mono ?_;rintro r rfl;refine gS1 (a9N @g0 @g2 @g3 @g4 @g5 @g6 @g18 @g19 @g20) ?_;refine (K6 hL7.sc ht0).mono ?_;cases hfl:ks.full T with
       | true =>
         rintro r (⟨AB,-⟩|⟨AB,Z8,rfl,hE8⟩)
         case inl=>cases AB
         refine gS ?_;refine H3.intro (by kernel_rfl) ?_;refine H3.intro (by (repeat first|simp (disch:=omega) only [B9,C9,C0,I9,L9,M0,I8,N8,W3 (Ext.refl _),W3 hE8]|rw [D0 (by kernel_rfl)]);first|done|rfl) ?_;refine gS ?_
         try rw [if_pos (by rfl)]
         try rw [H4]
         exact ⟨_,_,rfl,(hEs.trans hEk).trans hE8⟩
       | false =>
       rintro r (⟨-,rfl⟩|⟨AB,-⟩)
       case inr=>cases AB
       try rw [if_neg (by simp)]
       refine gS1 (a9N @g0 @g2 @g3 @g4 @g5 @g6 @g18 @g19 @g20) ?_;refine H3.intro (by (repeat first|simp (disch:=omega) only [B9,C9,C0,I9,L9,M0,I8,N8,W3 (Ext.refl _)]|rw [D0 (by kernel_rfl)]);first|done|rfl) ?_;refine gS1 (a9N @g0 @g2 @g3 @g4 @g5 @g6 @g18 @g19 @g20) ?_;refine AD (xv:=tru) Mb Hl (by rw [DN];exact fR1 g4) (by rw [DN];exact fR) rfl hM7 ?_;have uO:Z.n+1+1<ZL.n:=by have:=hB.n;omega
       have iB:Z.n+1+1<Z'.n:=by have:=hT.ext.n;omega
       have hL8:=(hT.seen (kv':=CN (A9 (C4 l at') 0).1 tru seen) hM uO om).ln (qU hEk iB) (by simp;omega) (hL7.sc.FY hM7 om) fun c hc=>(hol.blk hc).1;refine gS1 (a9N @g0 @g2 @g3 @g4 @g5 @g6 @g18 @g19 @g20) ?_;refine (W8 hL8.sc ht0).mono ?_;rintro r ⟨Z9,rfl,hE9,q9⟩;have hk1:=Hc 0 _ ht0 hw1;have hL9:=hL8.step hE9 q9 hk1;have hn9:=hE9.n;simp at hn9;have r9w:Z9.row Z5.n=some [str (A9 (C4 l at') 0).1,.int .i64 ((A9 (C4 l at') 0).2:Nat)]:=by
        rw [hE9.row (by simp;omega) om,O4 (o6 om)];exact cL
       have r9k:Z9.row (Z5.n+1)=some [.func (.func g) ⟨[]⟩ ⟨[]⟩,.bool false,.func (.func f) ⟨[]⟩ ⟨[]⟩]:=by
        rw [hE9.row (by simp) om,O4 (o6 om)];exact cL
       obtain ⟨f1,f2⟩:=QU hw1;have e5:(((A9 (C4 l at') 0).2:Nat):Int)+(((A9 (C4 l at') 0).1.length:Nat):Int)=(((A9 (C4 l at') 0).2+(A9 (C4 l at') 0).1.length:Nat):Int):=om;have q9':=q9;unfold M4 at q9';have e6:(((A9 (C4 l at') 0).2+(A9 (C4 l at') 0).1.length:Nat):Int)-((at':Nat):Int)=(((A9 (C4 l at') 0).2+(A9 (C4 l at') 0).1.length-at':Nat):Int):=om;have e7:(A9 (C4 l at') 0).2+(A9 (C4 l at') 0).1.length-at'<=l.length:=om;have s3:sub l ((A9 (C4 l at') 0).2+(A9 (C4 l at') 0).1.length-at') (l.length-((A9 (C4 l at') 0).2+(A9 (C4 l at') 0).1.length-at'))=some (l.drop ((A9 (C4 l at') 0).2+(A9 (C4 l at') 0).1.length-at')):=by
        rw [r9 om,List.take_of_length_le (by simp)]
       have r10:Z9.row Z3.n=_:=A8 q9';refine gS1 (a16N @g0 @g2 @g3 @g4 @g5 @g6 @g18 @g19 @g20 @r9w @r9k @e5 @q9' @r10 @e6 @s3) ?_;have e8:at'+((A9 (C4 l at') 0).2+(A9 (C4 l at') 0).1.length-at')=(A9 (C4 l at') 0).2+(A9 (C4 l at') 0).1.length:=om;have hsf:=hok.2 ((A9 (C4 l at') 0).2+(A9 (C4 l at') 0).1.length-at');rw [e8] at hsf;have uP:=hL9.step ((C5.refl.upd [.slice ta (C4 l at').length (C4 l at').length,.int .i64 (1:Nat),str [],.int .i64 ((A9 (C4 l at') 0).2+(A9 (C4 l at') 0).1.length:Nat),.pointer (some ⟨Z.n+1,0,none⟩)]).upd (.slice ta (C4 l at').length (C4 l at').length:: .int .i64 (1:Nat)::M4 (l.drop ((A9 (C4 l at') 0).2+(A9 (C4 l at') 0).1.length-at')) ((A9 (C4 l at') 0).2+(A9 (C4 l at') 0).1.length) (Z.n+1))) C8 hk1;refine (qV _ _ _ _ _ _ _ _ _ _ _ _ _ uP Hc hok.1 (hF.fits om) (by simp;omega) om OS hsf).mono ?_;intro r;cases hR:ks.rd (C4 l at') (l.drop ((A9 (C4 l at') 0).2+(A9 (C4 l at') 0).1.length-at')) ((A9 (C4 l at') 0).2+(A9 (C4 l at') 0).1.length) T 1 with
       | error pe =>
         obtain ⟨p,e⟩:=pe;rintro ⟨Z12,rfl,RL⟩;refine gS ?_;rw [H4,H4];exact ⟨_,_,rfl,KD JY hB RL om om⟩
       | ok Tk =>
         obtain ⟨T',k'⟩:=Tk;rintro ⟨Z12,v',fc',vs',rfl,XB⟩;rw [C2]
         try dsimp only
         refine gS1 (a9N @g0 @g2 @g3 @g4 @g5 @g6 @g18 @g19 @g20) ?_;have iC:=W1 XB.sc.k;refine (T7 XB.sc iC).mono ?_;rintro r ⟨Z13,rfl,iD⟩;have SB:=XB.J6 iD;refine gS ?_;refine (K6 SB.sc iC).mono ?_;have uQ:=KD JY hB SB.ext om om;rintro r (⟨AB,rfl⟩|⟨AB,Z14,rfl,iE⟩)
         case inr =>
          refine gS ?_;refine H3.intro (by kernel_rfl) ?_;refine H3.intro (by (repeat first|simp (disch:=omega) only [B9,C9,C0,I9,L9,M0,I8,N8,W3 (Ext.refl _),W3 iD,W3 iE]|rw [D0 (by kernel_rfl)]);first|done|rfl) ?_;refine gS ?_;rw [if_neg (of_decide_eq_false AB),H4];exact ⟨_,_,rfl,uQ.trans iE⟩
         rw [if_pos (of_decide_eq_true AB),C2]
         try dsimp only
         have e1:((l.length:Nat):Int)+1=((l.length+1:Nat):Int):=om;have e2:((at':Nat):Int)+((l.length+1:Nat):Int)=((at'+(l.length+1):Nat):Int):=om;have e3:((i:Nat):Int)+1=((i+1:Nat):Int):=om;refine gS1 (a12N @g0 @g2 @g3 @g4 @g5 @g6 @g18 @g19 @g20 @e1 @e2 @e3) ?_;have Lm:lens (ls.take (i+1))=at'+(l.length+1):=by rw [uN];omega
         have hF':=Yf hks om hF hR;refine ⟨FY ZL (Z.n+1+1) (Gc (CN (A9 (C4 l at') 0).1 tru seen)),T',CN (A9 (C4 l at') 0).1 tru seen,v',fc',vs',SB.tp,hB.seen,BL.W7 (by simp;omega) SB.ext om,fR1 g0,fR1 g2,fR1 g3,fR1 g4,fR1 g5,fR1 Lm,fR1 g18,fR1 g19,fR,hF'.mono om,by rw [Lm],QS hSe⟩
 ·rintro fr Z' ⟨ZL,T,seen,v,fc,vs,hT,hB,hM,g0,g2,g3,g4,g5,g6,g18,g19,g20,hF,hS,hSe⟩;rw [<- hS,List.drop_length];refine gS1 (a10N @g0 @g2 @g3 @g4 @g5 @g6 @g18 @g19 @g20 @Bo) ?_;exact ⟨_,_,_,_,_,_,rfl,hT,hB,hM,fR1 g0,fR1 g2,fR1 g3,fR1 g4,hSe⟩
 ·intro r;cases hX:BB ls 0 T0 [] with
  | error pe =>
    obtain ⟨p,e⟩:=pe;rintro ⟨fr,Z',rfl,hE⟩;refine gS ?_;rw [H4];exact ⟨_,rfl,hE⟩
  | ok Ts =>
    obtain ⟨T,seen⟩:=Ts;rintro ⟨fr,Z',ZL,v,fc,vs,rfl,hT,hB,hM,g0,g2,g3,g4,hSe⟩;rw [C2]
    try dsimp only
    refine gS1 (a4N @g0 @g2 @g3 @g4) ?_;have hn6:Z2.n<=Z'.n:=by have:=hT.ext.n;have:=hB.n;omega
    have hE6:Ext Z' (Z'.new SA):= .new _ _;have hM6:=hM.ext om hE6;have hT6:=hT.ext' hE6;have r6:(Z'.new SA).row Z'.n=some SA:=cL;have hES:Ext Z (Z'.new SA):=by
     refine Ext.trans ?_ hE6;refine ⟨om,fun c hc=>?_⟩;rw [hT.ext.same c (by rw [hB.n];omega) om,hB.same c om,JY.same c hc]
    refine L8 6 (fun k fr Z6=>Z6=Z'.new SA/\fr.get 0=some (str s)/\fr.get 2=some (.pointer (some ⟨Z.n,0,none⟩))/\fr.get 3=some (.pointer (some ⟨Z.n+1,0,none⟩))/\fr.get 4=some (.map (some (Z.n+1+1))) /\
      fr.get 118=some (.slice (some ⟨Z'.n,0,none⟩) 6 6)/\fr.get 119=some (.int .i64 (6:Nat))/\fr.get 120=some (.int .i64 (k:Nat))/\∀ w∈six.take k,(Y1 w seen).isSome=true)
     (fun r=>(six.all (fun w=>(Y1 w seen).isSome)=true/\∃ fr,r=⟨.exit 2,fr,Z'.new SA⟩/\fr.get 2=some (.pointer (some ⟨Z.n,0,none⟩))/\fr.get 3=some (.pointer (some ⟨Z.n+1,0,none⟩))) \/
       (six.all (fun w=>(Y1 w seen).isSome)=false/\∃ fr,r=⟨.pan (fault s.length 12),fr,Z'.new SA⟩)) ?_ ?_ ?_ ?_
    ·exact ⟨rfl,fR1 g0,fR1 g2,fR1 g3,fR1 g4,fR,fR,fR,fun w h=>by cases h⟩
    ·rintro k fr Z6 hk ⟨rfl,u0,u2,u3,u4,iG,iH,oG,Dq⟩;have ed:decide (((k:Nat):Int)<((6:Nat):Int))=true:=by rw [decide_eq_true_iff];omega
     have ed2:decide (((k:Nat):Int)<6)=true:=by rw [decide_eq_true_iff];omega
     have ed3:decide (k<6)=true:=by rw [decide_eq_true_iff];omega
     obtain ⟨w,hw,hs1⟩:=uM hk;refine gS1 (a13N @u0 @u2 @u3 @u4 @iG @iH @oG @ed @ed2 @ed3 @r6 @hs1 @Nat.mul_one) ?_;refine Rz (z:= .bool false) Mb Hl (by kernel_rfl) (by rw [DN];exact fR1 u4) (by rw [DN];exact fR) hM6 ?_;cases hsn:Y1 w seen with
     | some sv =>
       obtain rfl:=Ug hSe hsn;unfold tru;have e3:((k:Nat):Int)+1=((k+1:Nat):Int):=om;simp (maxSteps:=8000000) (disch:=first|exact dS|fail) only [↓bD,bW,reduceMul,reduceEqDiff,reduceAdd,Nat.reduceBEq,reduceIte,Option.isNone_none,Option.getD_some,Option.isSome_some,e3,u0,u2,u3,u4,iG,iH,oG];refine ⟨True.intro,fR1 u0,fR1 u2,fR1 u3,fR1 u4,fR1 iG,fR1 iH,fR,fun w' hw'=>?_⟩;rw [List.take_add_one,hw] at hw';rcases List.mem_append.1 hw' with h|h
       ·exact Dq w' h
       ·obtain rfl:w'=w:=by simpa using h
        rw [hsn];rfl
     | none =>
       simp (maxSteps:=8000000) (disch:=first|exact dS|fail) only [↓bD,bW,reduceMul,reduceEqDiff,reduceAdd,Nat.reduceBEq,reduceIte,Option.isNone_none,Option.getD_none,Option.isSome_none,u0];right;refine ⟨?_,_,rfl⟩;rw [Bool.eq_false_iff];intro h;have:=List.all_eq_true.1 h w (List.mem_of_getElem? hw);rw [hsn] at this;cases this
    ·rintro fr Z6 ⟨rfl,u0,u2,u3,u4,iG,iH,oG,Dq⟩;refine gS1 (a8N @u0 @u2 @u3 @u4 @iG @iH @oG @Bo) ?_;left;refine ⟨?_,_,rfl,fR1 u2,fR1 u3⟩;rw [List.all_eq_true];exact fun w hw=>Dq w (by rw [List.take_of_length_le (by simp [six])];exact hw)
    ·rintro r (⟨Dq,fr,rfl,u2,u3⟩|⟨Dq,fr,rfl⟩)
     ·rw [if_pos Dq];have ro:=hT6.row;have rz:(Z'.new SA).A5 Z.n=some [str [],.slice none 0 0,.slice none 0 0,.slice none 0 0,.int .i64 0,.int .i64 0,str [],.int .i64 0,.int .i64 0,str [],.slice none 0 0,.slice none 0 0,.int .i64 0,.slice none 0 0,.int .i64 0,.int .i64 0,.int .i64 0,.int .i64 0,.int .i64 0,.int .i64 0]:=by
       rw [A6 (hE6.same _ om),A6 (hT.ext.same _ (by rw [hB.n];omega) om),A6 (hB.same _ om)];exact z02
      obtain ⟨c1,c2,c3,c4,c5,rfl⟩:=fc5 hT6.fx;have hAt:=fun (H:List Nat) (hH:∀ c∈H,c<Z.n)=>hT6.atU (q:=Z.n) (cs:=tnR T v [c1,c2,c3,c4,c5]) (H:=H) om (fun c hc=>by have:=hH c hc;omega);unfold tnR T3 at ro hAt;simp only [List.cons_append,List.nil_append] at ro hAt;have rr:=A8 ro;refine gS1 (a6N @u2 @u3 @ro @rr @rz @Tryz.results40) ?_;exact ⟨_,_,rfl,hES.upd (Nat.le_refl _) _,hAt⟩
     ·rw [if_neg (by rw [Dq];simp)];refine gS ?_;exact ⟨_,rfl,hES⟩
end Go.Proofs.T
