/- The IL of a text: the walk. -/
import Derived.Test.YtckchelhlpifiaaGreatDoorTH
set_option linter.unusedSimpArgs false
set_option linter.unusedVariables false
set_option linter.defProp false
set_option maxHeartbeats 32000000
set_option maxRecDepth 100000
namespace Go.Proofs.T
open Go Go.Ab
section
variable {Z ZL Z':St}{cs:List Value}{b ms k bt:Nat}{T:Tn}{w:By}{v:Value}{kv:List (By×Value)}
def FO {fr:Fr}{t:Tmp}:ev fr (.tmp t)=fr.get t:=rfl
def FY {l:By}{ls:List By}{at':Nat}{seen:List (By×Value)}:Fw (l::ls) at' T seen=G2 (CO l at' T seen) fun(T',seen')=>Fw ls (at'+(l.length+1)) T' seen':=rfl
def kQ:∀ {seen:List (By×Value)},(∀ p∈seen,p.2=tru)->∀ p∈GG w tru seen,p.2=tru:=by
 intro seen;induction seen with
 |nil=>intro _ p hp;change p∈[(w,tru)]at hp;rw[GK]at hp;rw[hp]
 | cons q l ih=>
   obtain⟨k,v⟩:=q;intro hs p hp;rw[Ll]at hp;split at hp
   ·rcases BJ.1 hp with rfl|hp
    ·rfl
    ·exact hs p (GH _ hp)
   ·rcases BJ.1 hp with rfl|hp
    ·exact hs _ (IU ..)
    ·exact ih (fun p hp=>hs p (GH _ hp)) p hp
def Yd:∀ {seen:List (By×Value)},(∀ p∈seen,p.2=tru)->U9 w seen=some v->v=tru:=by
 intro seen;induction seen with
 |nil=>intro _ h;cases h
 | cons q l ih=>
   obtain⟨k,v'⟩:=q;intro hs h;rw[CZ]at h;split at h
   ·cases h;exact hs (k,v) (IU ..)
   ·exact ih (fun p hp=>hs p (GH _ hp)) h
def zu (hE:Ext Z Z') (hb:b<Z.n):Ext (II Z b cs) (II Z' b cs):=⟨hE.n,fun c hc=>by
 by_cases e:c=b
 ·subst e;show(Tr.set _ _ _).get c=(Tr.set _ _ _).get c;rw[Tr.get_set_same,Tr.get_set_same];unfold St.ver;rw[hE.same c hb]
 ·rw[AF e,AF e];exact hE.same c hc⟩
def CI.Af6 (h:CI Z b kv):Z.row b=none:=by
 obtain⟨ver,hg⟩:=h;show ob (Z.Dg b) _=_;unfold St.Dg St.blk;rw[hg];rfl
def Sc.II {A1:List Tok}{C8:List Value}(h:Sc Z b v A1 k C8) (hm:CI Z ms kv) (hb:b≠ms):Sc (II Z ms cs) b v A1 k C8:=by
 refine⟨by rw[B8 (AF hb)];exact h.row,h.lt,?_,h.ne,h.k,h.len⟩;rcases h.sl with hs|⟨b2,off,sp,c,cells,rfl,h2,h3,h4⟩
 ·exact .inl hs
 ·refine .inr ⟨b2,off,sp,c,cells,rfl,h2,?_,h4⟩;rw[T5 (AF fun e=>by rw[e,hm.Af6]at h3;cases h3)];exact h3
def Tp.atU {q:Nat}{v:Nat->Value}{fc vs:List Value}{H:List Nat}(h:Tp ZL Z bt T v fc vs) (hq:q<bt) (hH:∀ c∈H,c<bt):Dm (J5 (Z.upd q cs) H) (tnR T v fc) T:=by
 have hb:bt<Z.n:=z5z h.btl h.ext.n;have hl:=h.btl;have hk:ET (J5 Z (KV bt v)) (J5 (Z.upd q cs) H):=K0 (Z:=Z) (Z':=Z.upd q cs) (l:=KV bt v) (l':=H) nL fun c _ hm=>
  ⟨fun hc=>hm (DK.2 (.inl (ZU.2 (hH c hc)))),M1 fun e=>hm (DK.2 (.inl (ZU.2 om)))⟩
 have ho:∀ i,i<5->SLs (J5 (Z.upd q cs) H) (szT i) (v i) (CH T vs i):=fun i hi=>OL.J5 (OL.Fz (h.sl i hi) om) fun c hc=>by have:=hH c hc;omega
 exact⟨v 0,v 1,v 2,fc,v 3,v 4,rfl,(ho 0 om).sl,(ho 1 om).sl,(ho 2 om).sl,h.fx.J3 hk,(ho 3 om).sl,vs,(ho 4 om).sl,h.iv.mono fun _ _ hx=>SL.J3 hx hk⟩
structure kT (ZS ZL:St) (ms:Nat):Prop where
 n:ZL.n=ZS.n
 same:∀ c,c≠ms->ZL.h.get c=ZS.h.get c
def kT.seen {ZS:St}(h:kT ZS ZL ms):kT ZS (II ZL ms cs) ms:=⟨h.n,fun c hc=>by rw[AF hc];exact h.same c hc⟩
def Ye {Z2:St}(hE:Ext Z Z2) (hB:kT Z2 ZL ms) (hX:B9 bt (II ZL ms cs) Z') (h1:Z.n<=ms) (h2:Z.n<=bt):Ext Z Z':=by
 refine⟨?_,fun c hc=>?_⟩
 ·have h3:=hX.n;have h4:=hB.n;have h5:=hE.n;rw[qt]at h3;omega
 ·have hn:Z2.n=ZL.n:=hB.n.symm;rw[hX.same c (by have:=hE.n;rw[qt];omega) om,AF om,hB.same c om,hE.same c hc]
def VO:List Value:=[str [116,101,110,100,101,114],str [108,111,116],str [112,114,105,99,101],str [102,111,114,109,117,108,97],str [98,117,100,103,101,116],str [116,105,109,101,115]]
def AO7 (h:k<6):∃ w,six[k]? =some w/\sub VO k 1=some [str w]:=by
 match k,h with
 |0,_=>exact⟨_,rfl,rfl⟩
 |1,_=>exact⟨_,rfl,rfl⟩
 |2,_=>exact⟨_,rfl,rfl⟩
 |3,_=>exact⟨_,rfl,rfl⟩
 |4,_=>exact⟨_,rfl,rfl⟩
 |5,_=>exact⟨_,rfl,rfl⟩
def mj {Z:St}{s:By}(hs:s.length<=4000) (hl:∀ (l:By) (a:Nat),l∈I8 10 s->a<=s.length+1->Pl l a) :
  Ev (gO 24 [str s] Z) (fun r=>match DB s with
   | .ok T=>∃ Z' cells,r=⟨false,.agg ⟨cells⟩,Z'⟩/\Ext Z Z'/\∀ H:List Nat,(∀ c∈H,c<Z.n)->Dm (J5 Z' H) cells T
   | .error (p,e)=>∃ Z',r=⟨true,fault p e,Z'⟩/\Ext Z Z') ⟨⟩:=by
 refine D0 Tryz.func24 rfl rfl ?_;refine gS1 (aI @qu @emk) ?_;refine qv.mono ?_;rintro r ⟨Z1,rfl,hE1,hn1,hkm⟩;simp at hn1;refine gS ?_;refine(Vc om).mono ?_;rintro r ⟨lv,Z2,rfl,hv,hE2,hb2⟩;have z1:Z1.A7 (Z.n+1)=some [str [],.slice none 0 0,.slice none 0 0,.slice none 0 0,.int .i64 0,.int .i64 0,str [],.int .i64 0,.int .i64 0,str [],.slice none 0 0,.slice none 0 0,.int .i64 0,.slice none 0 0,.int .i64 0,.int .i64 0,.int .i64 0,.int .i64 0,.int .i64 0,.int .i64 0]:=by rw[B8 (hE1.same _ (by simp))];exact cL
 have z0:Z1.A7 Z.n=some [str [],.slice none 0 0,.slice none 0 0,.slice none 0 0,.int .i64 0,.int .i64 0,str [],.int .i64 0,.int .i64 0,str [],.slice none 0 0,.slice none 0 0,.int .i64 0,.slice none 0 0,.int .i64 0,.int .i64 0,.int .i64 0,.int .i64 0,.int .i64 0,.int .i64 0]:=by rw[B8 (hE1.same _ (by simp;omega))];exact cL
 have hms:CI Z1 (Z.n+1+1) []:=by
  obtain⟨ver,hg⟩:=fZ (Z:=(Z.new [str [],.slice none 0 0,.slice none 0 0,.slice none 0 0,.int .i64 0,.int .i64 0,str [],.int .i64 0,.int .i64 0,str [],.slice none 0 0,.slice none 0 0,.int .i64 0,.slice none 0 0,.int .i64 0,.int .i64 0,.int .i64 0,.int .i64 0,.int .i64 0,.int .i64 0] (some 41)).new [str [],.slice none 0 0,.slice none 0 0,.slice none 0 0,.int .i64 0,.int .i64 0,str [],.int .i64 0,.int .i64 0,str [],.slice none 0 0,.slice none 0 0,.int .i64 0,.slice none 0 0,.int .i64 0,.int .i64 0,.int .i64 0,.int .i64 0,.int .i64 0,.int .i64 0] (some 41));exact⟨ver,by rw[hE1.same _ (by simp)];exact hg⟩
 have Af7:CI Z1 (Z.n+1+1+1) J6:=hkm;have Nf:Ext Z Z1:=(((Ext.new _ _).trans (.new _ _)).Hi _ _).trans hE1;have hn2:=hE2.n;have PY:=Nf.trans hE2
 have tp0:Tp Z2 Z2 (Z.n+1) T0 (fun _=> .slice none 0 0) [str [],.int .i64 0,.int .i64 0,str [],.slice none 0 0] [] :=
  xQ om (by rw[B8 (hE2.same _ om)];exact z1)
 have Ay2:=hms.ext om hE2;have Ay3:=Af7.ext om hE2;have z02:Z2.A7 Z.n=some [str [],.slice none 0 0,.slice none 0 0,.slice none 0 0,.int .i64 0,.int .i64 0,str [],.int .i64 0,.int .i64 0,str [],.slice none 0 0,.slice none 0 0,.int .i64 0,.slice none 0 0,.int .i64 0,.int .i64 0,.int .i64 0,.int .i64 0,.int .i64 0,.int .i64 0]:=by rw[B8 (hE2.same _ om)];exact z0
 clear hms hkm Af7 z0 z1 hE1;have BK7:=FE 10 s;have Ay4:=Eh 10 s;have hcl:=Ju 10 s;obtain⟨a,c,b,off,cells,rfl,y1,y2⟩:=hv.use;unfold DB;generalize hll:I8 10 s=ls at *;refine gS ?_
 refine F4 ls.length (fun i fr Z'=>∃ ZL T seen v fc vs,Tp ZL Z' (Z.n+1) T v fc vs/\kT Z2 ZL (Z.n+1+1)/\CI Z' (Z.n+1+1) seen /\
   fr.get 0=some (str s)/\fr.get 2=some (.pointer (some ⟨Z.n,0,none⟩))/\fr.get 3=some (.pointer (some ⟨Z.n+1,0,none⟩))/\fr.get 4=some (.map (some (Z.n+1+1)))/\fr.get 5=some (.map (some (Z.n+1+1+1))) /\
   fr.get 6=some (.int .i64 (lens (ls.take i):Nat))/\fr.get 18=some (.slice a ls.length c)/\fr.get 19=some (.int .i64 (ls.length:Nat))/\fr.get 20=some (.int .i64 (i:Nat)) /\
   Gg (12+i) T/\Fw (ls.drop i) (lens (ls.take i)) T seen=Fw ls 0 T0 []/\∀ p∈seen,p.2=tru)
  (fun r=>match Fw ls 0 T0 []with
    | .ok (T,seen)=>∃ fr Z' ZL v fc vs,r=⟨.exit 0,fr,Z'⟩/\Tp ZL Z' (Z.n+1) T v fc vs/\kT Z2 ZL (Z.n+1+1)/\CI Z' (Z.n+1+1) seen /\
       fr.get 0=some (str s)/\fr.get 2=some (.pointer (some ⟨Z.n,0,none⟩))/\fr.get 3=some (.pointer (some ⟨Z.n+1,0,none⟩))/\fr.get 4=some (.map (some (Z.n+1+1)))/\∀ p∈seen,p.2=tru
    | .error (p,e)=>∃ fr Z',r=⟨.pan (fault p e),fr,Z'⟩/\Ext Z Z') ?_ ?_ ?_ ?_
 ·exact⟨Z2,T0,[],_,_,_,tp0,⟨rfl,fun _ _=>rfl⟩,Ay2,fR,fR,fR,fR,fR,fR,fR,fR,fR,⟨by simp[T0],by simp[T0],by simp[T0],by simp[T0],by simp[T0]⟩,rfl,fun _ h=>by cases h⟩
 ·rintro i fr Z' hi ⟨ZL,T,seen,v,fc,vs,hT,hB,hM,g0,g2,g3,g4,g5,g6,g18,g19,g20,hF,hS,hSe⟩;rw[<- hS];clear hS;obtain⟨l,hl'⟩:=E8 hi;obtain⟨sp,rfl,y3,y4⟩:=y1 om;have Af8:ls.drop i=l::ls.drop (i+1):=by rw[LW hi,(List.getElem?_eq_some_iff.1 hl').2]
  have Af9:=To hl';have BP0:=ff ls (i+1);have hn':Z2.n<=Z'.n:=by have:=hT.ext.n;have:=hB.n;omega
  have hold:∀ c,c<Z2.n->c≠Z.n+1->c≠Z.n+1+1->Z'.h.get c=Z2.h.get c:=fun c h1 h2 h3=>by
   rw[hT.ext.same c (by rw[hB.n];exact h1) h2,hB.same c h3]
  have hbb:b=Z1.n:=by cases hb2;rfl
  have hr:Z'.row b=some cells:=by rw[T5 (hold b y3 om om)];exact y4
  have hs1:=y2 i l hl';have hok:=hl l (lens (ls.take i)) (W8 hl') om;have ed:decide ((i:Int)<(ls.length:Int))=true:=by rw[z3z];omega
  have ed2:decide (i<ls.length)=true:=Aq hi;refine gS1 (aI g0 (aI g2 (aI g3 (aI g4 (aI g5 (aI g6 (aI g18 (aI g19 (aI g20 (aI ed (aI ed2 (aI hr (aI hs1 @Df))))))))))))) ?_;refine(kU om om).mono ?_;rintro r ⟨tvv,Z3,rfl,hol,hE3⟩;have hn3:=hE3.n;obtain⟨ta,rfl⟩:=OL.shape hol;have Ay5:(G3 l (lens (ls.take i))).length<=l.length+2:=by
   unfold G3;rw[BD];have:=KJ (I8 32 l) (lens (ls.take i));have:=Eh 32 l;have:=Ju 32 l;simp;omega
  have MP:0<(G3 l (lens (ls.take i))).length:=by unfold G3;simp
  generalize hat:lens (ls.take i)=at' at *;refine gS1 g3 ?_;rw[z2z];have hE4:Ext Z' (Z3.new [.slice ta (G3 l at').length (G3 l at').length,.int .i64 0,str [],.int .i64 0,.pointer (some ⟨Z.n+1,0,none⟩)]):=hE3.AG _;rw[z2z]at hol
  have hsc:Sc (Z3.new [.slice ta (G3 l at').length (G3 l at').length,.int .i64 0,str [],.int .i64 0,.pointer (some ⟨Z.n+1,0,none⟩)]) Z3.n (.slice ta (G3 l at').length (G3 l at').length) (G3 l at') 0 (K2 [] 0 (Z.n+1)) :=
   ⟨by unfold K2;exact cL,by simp,OL.sl (OL.ext hol (.new _ _)),fun e=>by have:=(hol.blk e).2;omega,MP,om⟩
  have hL:=hT.ln hE4 hn3 hsc fun c hc=>(hol.blk hc).1;have ht0:=I9 MP;refine(Y8 hsc ht0).mono ?_;rintro r ⟨Z5,rfl,hE5⟩;have hL5:=hL.J0 hE5;have hn5:=hE5.n;simp at hn5;refine gS ?_;have hL6:=hL5.J0 ((Ext.new (t:=some 106) Z5 [str [],.int .i64 0]).upd (b:=Z5.n) om [str (A9 (G3 l at') 0).1,.int .i64 ((A9 (G3 l at') 0).2:Nat)]);rw[Af8];rw[FY];cases hw0:decide ((A9 (G3 l at') 0).1=[])with
  | true=>
    have Yf:CO l at' T seen= .ok (T,seen):=by unfold CO;rw[z1z (z6z hw0)]
    rw[Yf,C1]
    try dsimp only
    have e1:(l.length:Int)+1=((l.length+1:Nat):Int):=om;have e2:(at':Int)+((l.length+1:Nat):Int)=((at'+(l.length+1):Nat):Int):=om;have e3:(i:Int)+1=((i+1:Nat):Int):=om;refine gS1 (aI hw0 (aI g0 (aI g2 (aI g3 (aI g4 (aI g5 (aI g6 (aI g18 (aI g19 (aI g20 (aI e1 (aI e2 e3)))))))))))) ?_;have Yg:lens (ls.take (i+1))=at'+(l.length+1):=by rw[Af9];omega
    refine⟨ZL,T,seen,v,fc,vs,hL6.tp,hB,hM.ext ?_ ?_,fR1 g0,fR1 g2,fR1 g3,fR1 g4,fR1 g5,fR1 Yg,fR1 g18,fR1 g19,fR,hF.mono om,by rw[Yg],hSe⟩
    ·have:=hT.ext.n;have:=hB.n;omega
    ·exact(hE4.trans hE5).trans ((Ext.new _ _).upd nL _)
  | false=>
    refine gS1 (aI hw0 (aI g0 (aI g2 (aI g3 (aI g4 (aI g5 (aI g6 (aI g18 (aI g19 g20))))))))) ?_;have Ay6:CI ((Z5.new [str [],.int .i64 0] (some 106)).upd Z5.n [str (A9 (G3 l at') 0).1,.int .i64 ((A9 (G3 l at') 0).2:Nat)]) (Z.n+1+1+1) J6:=by
     obtain⟨ver,hg⟩:=Ay3;refine CI.ext (Z:=Z') ⟨ver,?_⟩ om ((hE4.trans hE5).trans ((Ext.new _ _).upd nL _));rw[hold _ om om om];exact hg
    refine VN (z:= .agg ⟨[.nilFunc,.bool false,.nilFunc]⟩) DJ KT kR (by rw[FO];exact fR) (by rw[FO];exact fR) Ay6 ?_;have hEs:Ext Z Z':=⟨om,fun c hc=>by rw[hold c om om om,PY.same c hc]⟩
    have hEw:=((hE4.trans hE5).trans ((Ext.new (t:=some 106) Z5 [str [],.int .i64 0]).upd (b:=Z5.n) nL [str (A9 (G3 l at') 0).1,.int .i64 ((A9 (G3 l at') 0).2:Nat)]))
    have hw1:(A9 (G3 l at') 0).1≠[]:=z9z hw0;rcases kV (A9 (G3 l at') 0).1 with⟨x1,x2⟩|⟨g,f,ks,x1,x2,eO,Ag0⟩
    ·have Yf:CO l at' T seen= .error ((A9 (G3 l at') 0).2,12):=by unfold CO;rw[z0z hw1,x2]
     rw[Yf,D9,x1];refine gS1 (aI g0 (aI g2 (aI g3 (aI g4 (aI g5 (aI g6 (aI g18 (aI g19 (aI g20 (aI @qw.{0} @dX.{0})))))))))) ?_;have hL7:=hL6.J0 ((Ext.new (t:=some 111) _ [.nilFunc,.bool false,.nilFunc]).upd (b:=Z5.n+1) (by simp) [.nilFunc,.bool false,.nilFunc]);refine(M6 hL7.sc ht0).mono ?_;rintro r (⟨BX,-⟩|⟨BX,Z7,rfl,hE7⟩)
     case inl=>cases BX
     refine gS ?_;exact⟨_,_,rfl,(hEs.trans hEw).trans ((((Ext.new _ _).upd (by simp) _)).trans hE7)⟩
    ·have hks:=x2;rw[x1];unfold ID;refine gS1 (aI g0 (aI g2 (aI g3 (aI g4 (aI g5 (aI g6 (aI g18 (aI g19 (aI g20 (aI @qx.{0} @qy.{0})))))))))) ?_;have hL7:=hL6.J0 ((Ext.new (t:=some 111) _ [.nilFunc,.bool false,.nilFunc]).upd (b:=Z5.n+1) (by simp) [.func (.func g) ⟨[]⟩ ⟨[]⟩,.bool ks.once,.func (.func f) ⟨[]⟩ ⟨[]⟩]);refine(M6 hL7.sc ht0).mono ?_;rintro r (⟨-,rfl⟩|⟨BX,-⟩)
     case inr=>cases BX
     have hEk:=hEw.trans ((Ext.new (t:=some 111) _ [.nilFunc,.bool false,.nilFunc]).upd (b:=Z5.n+1) (by simp) [.func (.func g) ⟨[]⟩ ⟨[]⟩,.bool ks.once,.func (.func f) ⟨[]⟩ ⟨[]⟩]);have hM7:=hM.ext (by have:=hT.ext.n;have:=hB.n;omega) hEk
     have Yf:CO l at' T seen=if (ks.once&&(U9 (A9 (G3 l at') 0).1 seen).isSome)=true then .error ((A9 (G3 l at') 0).2,13)else
       if ks.full T=true then .error ((A9 (G3 l at') 0).2,2)else
        G2 (ks.rd (G3 l at') (l.drop ((A9 (G3 l at') 0).2+(A9 (G3 l at') 0).1.length-at')) ((A9 (G3 l at') 0).2+(A9 (G3 l at') 0).1.length) T 1) fun(T',k)=>
         if (A9 (G3 l at') k).1=[]then .ok (T',GG (A9 (G3 l at') 0).1 tru seen)else .error ((A9 (G3 l at') k).2,12):=by
      unfold CO;rw[z0z hw1,x2]
     rw[Yf];cases hon:ks.once
     case' true=>
      refine gS1 (aI g0 (aI g2 (aI g3 (aI g4 (aI g5 (aI g6 (aI g18 (aI g19 (aI g20 hon))))))))) ?_;rw[hon]at hL7 hM7 hEk;refine VN (z:= .bool false) Oj KT kR (by rw[FO];exact fR1 g4) (by rw[FO];exact fR) hM7 ?_;cases hsn:U9 (A9 (G3 l at') 0).1 seen
      case some sv=>
        obtain rfl:=Yd hSe hsn;unfold tru;refine gS1 (aI @qx.{0} @qy.{0}) ?_;refine(M6 hL7.sc ht0).mono ?_;rintro r (⟨BX,-⟩|⟨BX,Z8,rfl,hE8⟩)
        case inl=>cases BX
        refine gS ?_;refine Ar.intro kR ?_;refine Ar.intro (by(repeat first|simp(disch:=omega) only[DH,Gc,Bq,L8,T7,T8,K3,j9,Be (Ext.refl _),Be hE8]|rw[IT (by kernel_rfl)]);first|done|rfl) ?_;refine gS ?_;rw[z1z (by rfl),D9];exact⟨_,_,rfl,(hEs.trans hEk).trans hE8⟩
      refine gS1 (aI @qw.{0} @dX.{0}) ?_;refine(M6 hL7.sc ht0).mono ?_;rintro r (⟨-,rfl⟩|⟨BX,-⟩)
      case inr=>cases BX
      rw[z0z (by first|simp|(rw[hsn];simp))];refine gS1 (aI g0 (aI g2 (aI g3 (aI g4 (aI g5 (aI g6 (aI g18 (aI g19 g20)))))))) ?_;refine Ar.intro (by(repeat first|simp(disch:=omega) only[DH,Gc,Bq,L8,T7,T8,K3,j9,Be (Ext.refl _)]|rw[IT (by kernel_rfl)]);first|done|rfl) ?_;refine gS1 (aI g0 (aI g2 (aI g3 (aI g4 (aI g5 (aI g6 (aI g18 (aI g19 g20)))))))) ?_;refine(eO _ _ _ _ _ _ _ _ _ _ _ _ hL7).mono ?_;rintro r rfl;refine gS1 (aI g0 (aI g2 (aI g3 (aI g4 (aI g5 (aI g6 (aI g18 (aI g19 g20)))))))) ?_;refine(M6 hL7.sc ht0).mono ?_;cases hfl:ks.full T
      case true=>
        rintro r (⟨BX,-⟩|⟨BX,Z8,rfl,hE8⟩)
        case inl=>cases BX
        refine gS ?_;refine Ar.intro kR ?_;refine Ar.intro (by(repeat first|simp(disch:=omega) only[DH,Gc,Bq,L8,T7,T8,K3,j9,Be (Ext.refl _),Be hE8]|rw[IT (by kernel_rfl)]);first|done|rfl) ?_;refine gS ?_
        try rw[z1z (by rfl)]
        try rw[D9]
        exact⟨_,_,rfl,(hEs.trans hEk).trans hE8⟩
      rintro r (⟨-,rfl⟩|⟨BX,-⟩)
      case inr=>cases BX
      try rw[z0z (by simp)]
      refine gS1 (aI g0 (aI g2 (aI g3 (aI g4 (aI g5 (aI g6 (aI g18 (aI g19 g20)))))))) ?_;refine Ar.intro (by(repeat first|simp(disch:=omega) only[DH,Gc,Bq,L8,T7,T8,K3,j9,Be (Ext.refl _)]|rw[IT (by kernel_rfl)]);first|done|rfl) ?_;refine gS1 (aI g0 (aI g2 (aI g3 (aI g4 (aI g5 (aI g6 (aI g18 (aI g19 g20)))))))) ?_;refine AQ (xv:=tru) Oj KT (by rw[FO];exact fR1 g4) (by rw[FO];exact fR) rfl hM7 ?_;have AO8:Z.n+1+1<ZL.n:=by have:=hB.n;omega
      have qz:Z.n+1+1<Z'.n:=by have:=hT.ext.n;omega
      have hL8:=(hT.seen (kv':=GG (A9 (G3 l at') 0).1 tru seen) hM AO8 om).ln (zu hEk qz) (by simp;omega) (hL7.sc.II hM7 om) fun c hc=>(hol.blk hc).1;refine gS1 (aI g0 (aI g2 (aI g3 (aI g4 (aI g5 (aI g6 (aI g18 (aI g19 g20)))))))) ?_;refine(Aw hL8.sc ht0).mono ?_;rintro r ⟨Z9,rfl,hE9,q9⟩;have hk1:=KK 0 _ ht0 hw1;have hL9:=hL8.step hE9 q9 hk1;have hn9:=hE9.n;simp at hn9;have r9w:Z9.row Z5.n=some [str (A9 (G3 l at') 0).1,.int .i64 ((A9 (G3 l at') 0).2:Nat)]:=by
       rw[hE9.row (by simp;omega) om,T5 (AF om)];exact cL
      have r9k:Z9.row (Z5.n+1)=some [.func (.func g) ⟨[]⟩ ⟨[]⟩,.bool true,.func (.func f) ⟨[]⟩ ⟨[]⟩]:=by
       rw[hE9.row (by simp) om,T5 (AF om)];exact cL
     case' false=>
      rw[hon]at hL7 hM7 hEk;refine gS1 (aI g0 (aI g2 (aI g3 (aI g4 (aI g5 (aI g6 (aI g18 (aI g19 (aI g20 hon))))))))) ?_;refine(M6 hL7.sc ht0).mono ?_;rintro r (⟨-,rfl⟩|⟨BX,-⟩)
      case inr=>cases BX
      rw[z0z (by first|simp|(rw[hsn];simp))];refine gS1 (aI g0 (aI g2 (aI g3 (aI g4 (aI g5 (aI g6 (aI g18 (aI g19 g20)))))))) ?_;refine Ar.intro (by(repeat first|simp(disch:=omega) only[DH,Gc,Bq,L8,T7,T8,K3,j9,Be (Ext.refl _)]|rw[IT (by kernel_rfl)]);first|done|rfl) ?_;refine gS1 (aI g0 (aI g2 (aI g3 (aI g4 (aI g5 (aI g6 (aI g18 (aI g19 g20)))))))) ?_;refine(eO _ _ _ _ _ _ _ _ _ _ _ _ hL7).mono ?_;rintro r rfl;refine gS1 (aI g0 (aI g2 (aI g3 (aI g4 (aI g5 (aI g6 (aI g18 (aI g19 g20)))))))) ?_;refine(M6 hL7.sc ht0).mono ?_;cases hfl:ks.full T
      case true=>
        rintro r (⟨BX,-⟩|⟨BX,Z8,rfl,hE8⟩)
        case inl=>cases BX
        refine gS ?_;refine Ar.intro kR ?_;refine Ar.intro (by(repeat first|simp(disch:=omega) only[DH,Gc,Bq,L8,T7,T8,K3,j9,Be (Ext.refl _),Be hE8]|rw[IT (by kernel_rfl)]);first|done|rfl) ?_;refine gS ?_
        try rw[z1z (by rfl)]
        try rw[D9]
        exact⟨_,_,rfl,(hEs.trans hEk).trans hE8⟩
      rintro r (⟨-,rfl⟩|⟨BX,-⟩)
      case inr=>cases BX
      try rw[z0z (by simp)]
      refine gS1 (aI g0 (aI g2 (aI g3 (aI g4 (aI g5 (aI g6 (aI g18 (aI g19 g20)))))))) ?_;refine Ar.intro (by(repeat first|simp(disch:=omega) only[DH,Gc,Bq,L8,T7,T8,K3,j9,Be (Ext.refl _)]|rw[IT (by kernel_rfl)]);first|done|rfl) ?_;refine gS1 (aI g0 (aI g2 (aI g3 (aI g4 (aI g5 (aI g6 (aI g18 (aI g19 g20)))))))) ?_;refine AQ (xv:=tru) Oj KT (by rw[FO];exact fR1 g4) (by rw[FO];exact fR) rfl hM7 ?_;have AO8:Z.n+1+1<ZL.n:=by have:=hB.n;omega
      have qz:Z.n+1+1<Z'.n:=by have:=hT.ext.n;omega
      have hL8:=(hT.seen (kv':=GG (A9 (G3 l at') 0).1 tru seen) hM AO8 om).ln (zu hEk qz) (by simp;omega) (hL7.sc.II hM7 om) fun c hc=>(hol.blk hc).1;refine gS1 (aI g0 (aI g2 (aI g3 (aI g4 (aI g5 (aI g6 (aI g18 (aI g19 g20)))))))) ?_;refine(Aw hL8.sc ht0).mono ?_;rintro r ⟨Z9,rfl,hE9,q9⟩;have hk1:=KK 0 _ ht0 hw1;have hL9:=hL8.step hE9 q9 hk1;have hn9:=hE9.n;simp at hn9;have r9w:Z9.row Z5.n=some [str (A9 (G3 l at') 0).1,.int .i64 ((A9 (G3 l at') 0).2:Nat)]:=by
       rw[hE9.row (by simp;omega) om,T5 (AF om)];exact cL
      have r9k:Z9.row (Z5.n+1)=some [.func (.func g) ⟨[]⟩ ⟨[]⟩,.bool false,.func (.func f) ⟨[]⟩ ⟨[]⟩]:=by
       rw[hE9.row (by simp) om,T5 (AF om)];exact cL
     all_goals
      obtain⟨f1,f2⟩:=Tq hw1;have e5:(((A9 (G3 l at') 0).2:Nat):Int)+(((A9 (G3 l at') 0).1.length:Nat):Int)=(((A9 (G3 l at') 0).2+(A9 (G3 l at') 0).1.length:Nat):Int):=om;have q9':=q9;unfold K2 at q9';have e6:(((A9 (G3 l at') 0).2+(A9 (G3 l at') 0).1.length:Nat):Int)-(at':Int)=(((A9 (G3 l at') 0).2+(A9 (G3 l at') 0).1.length-at':Nat):Int):=om;have e7:(A9 (G3 l at') 0).2+(A9 (G3 l at') 0).1.length-at'<=l.length:=om;have s3:sub l ((A9 (G3 l at') 0).2+(A9 (G3 l at') 0).1.length-at') (l.length-((A9 (G3 l at') 0).2+(A9 (G3 l at') 0).1.length-at'))=some (l.drop ((A9 (G3 l at') 0).2+(A9 (G3 l at') 0).1.length-at')):=by
       rw[V7 om,Kx (by simp)]
      have r10:Z9.row Z3.n=_:=A6 q9';refine gS1 (aI g0 (aI g2 (aI g3 (aI g4 (aI g5 (aI g6 (aI g18 (aI g19 (aI g20 (aI r9w (aI r9k (aI e5 (aI q9' (aI r10 (aI e6 s3))))))))))))))) ?_;have e8:at'+((A9 (G3 l at') 0).2+(A9 (G3 l at') 0).1.length-at')=(A9 (G3 l at') 0).2+(A9 (G3 l at') 0).1.length:=om;have hsf:=hok.2 ((A9 (G3 l at') 0).2+(A9 (G3 l at') 0).1.length-at');rw[e8]at hsf;have Ay7:=hL9.step ((B9.refl.upd [.slice ta (G3 l at').length (G3 l at').length,.int .i64 (1:Nat),str [],.int .i64 ((A9 (G3 l at') 0).2+(A9 (G3 l at') 0).1.length:Nat),.pointer (some ⟨Z.n+1,0,none⟩)]).upd (.slice ta (G3 l at').length (G3 l at').length:: .int .i64 (1:Nat)::K2 (l.drop ((A9 (G3 l at') 0).2+(A9 (G3 l at') 0).1.length-at')) ((A9 (G3 l at') 0).2+(A9 (G3 l at') 0).1.length) (Z.n+1))) D5 hk1;refine(Ag0 _ _ _ _ _ _ _ _ _ _ _ _ _ Ay7 KK hok.1 (hF.fits om) (by simp;omega) om It hsf).mono ?_;intro r;cases hR:ks.rd (G3 l at') (l.drop ((A9 (G3 l at') 0).2+(A9 (G3 l at') 0).1.length-at')) ((A9 (G3 l at') 0).2+(A9 (G3 l at') 0).1.length) T 1 with
      | error pe=>
        obtain⟨p,e⟩:=pe;rintro⟨Z12,rfl,ie⟩;refine gS ?_;rw[D9,D9];exact⟨_,_,rfl,Ye PY hB ie om om⟩
      | ok Tk=>
        obtain⟨T',k'⟩:=Tk;rintro⟨Z12,v',fc',vs',rfl,AO9⟩;rw[C1]
        try dsimp only
        refine gS1 (aI g0 (aI g2 (aI g3 (aI g4 (aI g5 (aI g6 (aI g18 (aI g19 g20)))))))) ?_;have Ag1:=I9 AO9.sc.k;refine(Y8 AO9.sc Ag1).mono ?_;rintro r ⟨Z13,rfl,Ag2⟩;have xR:=AO9.J0 Ag2;refine gS ?_;refine(M6 xR.sc Ag1).mono ?_;have Ay8:=Ye PY hB xR.ext om om;rintro r (⟨BX,rfl⟩|⟨BX,Z14,rfl,Ag3⟩)
        case inr=>
         refine gS ?_;refine Ar.intro kR ?_;refine Ar.intro (by(repeat first|simp(disch:=omega) only[DH,Gc,Bq,L8,T7,T8,K3,j9,Be (Ext.refl _),Be Ag2,Be Ag3]|rw[IT (by kernel_rfl)]);first|done|rfl) ?_;refine gS ?_;rw[z0z (z9z BX),D9];exact⟨_,_,rfl,Ay8.trans Ag3⟩
        rw[z1z (z6z BX),C1]
        try dsimp only
        have e1:(l.length:Int)+1=((l.length+1:Nat):Int):=om;have e2:(at':Int)+((l.length+1:Nat):Int)=((at'+(l.length+1):Nat):Int):=om;have e3:(i:Int)+1=((i+1:Nat):Int):=om;refine gS1 (aI g0 (aI g2 (aI g3 (aI g4 (aI g5 (aI g6 (aI g18 (aI g19 (aI g20 (aI e1 (aI e2 e3))))))))))) ?_;have Yg:lens (ls.take (i+1))=at'+(l.length+1):=by rw[Af9];omega
        have hF':=dk hks om hF hR;refine⟨II ZL (Z.n+1+1) (JL (GG (A9 (G3 l at') 0).1 tru seen)),T',GG (A9 (G3 l at') 0).1 tru seen,v',fc',vs',xR.tp,hB.seen,Cb.K4 (by simp;omega) xR.ext om,fR1 g0,fR1 g2,fR1 g3,fR1 g4,fR1 g5,fR1 Yg,fR1 g18,fR1 g19,fR,hF'.mono om,by rw[Yg],kQ hSe⟩
 ·rintro fr Z' ⟨ZL,T,seen,v,fc,vs,hT,hB,hM,g0,g2,g3,g4,g5,g6,g18,g19,g20,hF,hS,hSe⟩;rw[<- hS,WW];refine gS1 (aI g0 (aI g2 (aI g3 (aI g4 (aI g5 (aI g6 (aI g18 (aI g19 (aI g20 @EJ))))))))) ?_;exact⟨_,_,_,_,_,_,rfl,hT,hB,hM,fR1 g0,fR1 g2,fR1 g3,fR1 g4,hSe⟩
 ·intro r;cases hX:Fw ls 0 T0 []with
  | error pe=>
    obtain⟨p,e⟩:=pe;rintro⟨fr,Z',rfl,hE⟩;refine gS ?_;rw[D9];exact⟨_,rfl,hE⟩
  | ok Ts=>
    obtain⟨T,seen⟩:=Ts;rintro⟨fr,Z',ZL,v,fc,vs,rfl,hT,hB,hM,g0,g2,g3,g4,hSe⟩;rw[C1]
    try dsimp only
    refine gS1 (aI g0 (aI g2 (aI g3 g4))) ?_;have hn6:Z2.n<=Z'.n:=by have:=hT.ext.n;have:=hB.n;omega
    have hE6:Ext Z' (Z'.new VO):= .new _ _;have hM6:=hM.ext om hE6;have hT6:=hT.ext' hE6;have r6:(Z'.new VO).row Z'.n=some VO:=cL;have hES:Ext Z (Z'.new VO):=by
     refine Ext.trans ?_ hE6;refine⟨om,fun c hc=>?_⟩;rw[hT.ext.same c (by rw[hB.n];omega) om,hB.same c om,PY.same c hc]
    refine F4 6 (fun k fr Z6=>Z6=Z'.new VO/\fr.get 0=some (str s)/\fr.get 2=some (.pointer (some ⟨Z.n,0,none⟩))/\fr.get 3=some (.pointer (some ⟨Z.n+1,0,none⟩))/\fr.get 4=some (.map (some (Z.n+1+1))) /\
      fr.get 118=some (.slice (some ⟨Z'.n,0,none⟩) 6 6)/\fr.get 119=some (.int .i64 (6:Nat))/\fr.get 120=some (.int .i64 (k:Nat))/\∀ w∈six.take k,(U9 w seen).isSome=true)
     (fun r=>(six.all (fun w=>(U9 w seen).isSome)=true/\∃ fr,r=⟨.exit 2,fr,Z'.new VO⟩/\fr.get 2=some (.pointer (some ⟨Z.n,0,none⟩))/\fr.get 3=some (.pointer (some ⟨Z.n+1,0,none⟩))) \/
       (six.all (fun w=>(U9 w seen).isSome)=false/\∃ fr,r=⟨.pan (fault s.length 12),fr,Z'.new VO⟩)) ?_ ?_ ?_ ?_
    ·exact⟨rfl,fR1 g0,fR1 g2,fR1 g3,fR1 g4,fR,fR,fR,fun w h=>by cases h⟩
    ·rintro k fr Z6 hk ⟨rfl,u0,u2,u3,u4,rC,rE,xS,Fv⟩;have ed:decide ((k:Int)<((6:Nat):Int))=true:=by rw[z3z];omega
     have ed2:decide ((k:Int)<6)=true:=by rw[z3z];omega
     have ed3:decide (k<6)=true:=by rw[z3z];omega
     obtain⟨w,hw,hs1⟩:=AO7 hk;refine gS1 (aI u0 (aI u2 (aI u3 (aI u4 (aI rC (aI rE (aI xS (aI ed (aI ed2 (aI ed3 (aI r6 (aI hs1 @Df)))))))))))) ?_;refine VN (z:= .bool false) Oj KT kR (by rw[FO];exact fR1 u4) (by rw[FO];exact fR) hM6 ?_;cases hsn:U9 w seen with
     | some sv=>
       obtain rfl:=Yd hSe hsn;unfold tru;have e3:(k:Int)+1=((k+1:Nat):Int):=om;refine gS1 (aI @qx.{0} (aI @qy.{0} (aI e3 (aI u0 (aI u2 (aI u3 (aI u4 (aI rC (aI rE xS))))))))) ?_;refine⟨True.intro,fR1 u0,fR1 u2,fR1 u3,fR1 u4,fR1 rC,fR1 rE,fR,fun w' hw'=>?_⟩;rw[Dj,hw]at hw';rcases DK.1 hw' with h|h
       ·exact Fv w' h
       ·obtain rfl:w'=w:=by simpa using h
        rw[hsn];rfl
     | none=>
       refine gS1 (aI @qw.{0} (aI @dX.{0} @u0)) ?_;right;refine⟨?_,_,rfl⟩;rw[dh];intro h;have:=HA.1 h w (W8 hw);rw[hsn]at this;cases this
    ·rintro fr Z6 ⟨rfl,u0,u2,u3,u4,rC,rE,xS,Fv⟩;refine gS1 (aI u0 (aI u2 (aI u3 (aI u4 (aI rC (aI rE (aI xS @EJ))))))) ?_;left;refine⟨?_,_,rfl,fR1 u2,fR1 u3⟩;rw[HA];exact fun w hw=>Fv w (by rw[Kx (by simp[six])];exact hw)
    ·rintro r (⟨Fv,fr,rfl,u2,u3⟩|⟨Fv,fr,rfl⟩)
     ·rw[z1z Fv];have ro:=hT6.row;have rz:(Z'.new VO).A7 Z.n=some [str [],.slice none 0 0,.slice none 0 0,.slice none 0 0,.int .i64 0,.int .i64 0,str [],.int .i64 0,.int .i64 0,str [],.slice none 0 0,.slice none 0 0,.int .i64 0,.slice none 0 0,.int .i64 0,.int .i64 0,.int .i64 0,.int .i64 0,.int .i64 0,.int .i64 0]:=by
       rw[B8 (hE6.same _ om),B8 (hT.ext.same _ (by rw[hB.n];omega) om),B8 (hB.same _ om)];exact z02
      obtain⟨c1,c2,c3,c4,c5,rfl⟩:=fc5 hT6.fx;have hAt:=fun(H:List Nat) (hH:∀ c∈H,c<Z.n)=>hT6.atU (q:=Z.n) (cs:=tnR T v [c1,c2,c3,c4,c5]) (H:=H) om (fun c hc=>by have:=hH c hc;omega);unfold tnR AI at ro hAt;simp only[OO,Mz]at ro hAt;have rr:=A6 ro;refine gS1 (aI u2 (aI u3 (aI ro (aI rr (aI rz @Tryz.results24))))) ?_;exact⟨_,_,rfl,hES.upd nL _,hAt⟩
     ·rw[z0z (by rw[Fv];simp)];refine gS ?_;exact⟨_,rfl,hES⟩
end
def Cx:By->Nat->Bool
 | [],_=>true
 |b::l,c=>bif on F0 b then Nat.ble (c+1) 18&&Cx l (c+1)else Cx l 0
def HR {b:UInt8}{l:By}{c:Nat}:Cx (b::l) c=bif on F0 b then Nat.ble (c+1) 18&&Cx l (c+1)else Cx l 0:=rfl
end Go.Proofs.T
namespace Go.Proofs.T
open Go Go.Ab
open Nat (reduceMul reduceEqDiff reduceAdd)
theorem iK {vs:List Value}{Z:St}{Q:CR->Prop}{u:Hd Q}{c0 c1 c2 c3:Code}(hb:Tryz.f22.body=some (.seq c0 (.seq c1 (.seq c2 (.seq c3 .ret)))))
  (h:Ev (Jd Tryz.prog c0 c2 c3 3 2 71 71 [.cell 2 71] (lim Tryz.prog HS) vs Z) Q u):Ev (go Tryz.prog HS (.fn 22) vs Z) Q u:=by
 have e:parts=(c0,c1,c2,c3):=by unfold parts;rw[hb]
 have e2:go Tryz.prog HS (.fn 22) vs Z=OZ.f (lim Tryz.prog HS) vs Z:=rfl;rw[e2];unfold OZ;rw[e];exact h
theorem zM {β:Type}{fr:Fr}{Z:St}{f:Fr->St->Option β}:nrm ⟨.normal,fr,Z⟩ f=f fr Z:=rfl
theorem AY8 {β:Type}{fr:Fr}{Z:St}{f:Fr->St->Option β}{g:Value->Fr->St->Option β}:nrp ⟨.normal,fr,Z⟩ f g=f fr Z:=rfl
theorem AY9 {β:Type}{fr:Fr}{Z:St}{v:Value}{f:Fr->St->Option β}{g:Value->Fr->St->Option β}:nrp ⟨.pan v,fr,Z⟩ f g=g v fr Z:=rfl
theorem Rh {Z:St}{b p:Nat}{e:Int}(h:Z.A7 b=some [.int .i64 0,.int .i64 0]) (hb:b<Z.n):MQ Tryz.prog 71 (.pointer (some ⟨b,0,none⟩)) (.agg ⟨[.int .i64 p,.int .i64 e]⟩) Z=some (((Z.new [.int .i64 0,.int .i64 0] (some 71)).upd Z.n [.int .i64 p,.int .i64 e]).upd b [.int .i64 p,.int .i64 e]):=by
 have hz:u7 Tryz.prog 71=some (.agg ⟨[.int .i64 0,.int .i64 0]⟩):=by kernel_rfl
 have hs:size? Tryz.prog 71=some 2:=by kernel_rfl
 have st:∀ (s:St) (q:Nat) (x y a c:Value),s.A7 q=some [x,y]->LV Tryz.prog s 71 (.pointer (some ⟨q,0,none⟩)) (.agg ⟨[a,c]⟩)=some (s.upd q [a,c]):=by
  intro s q x y a c hq;unfold LV;rw[show at? (.pointer (some ⟨q,0,none⟩))=some (q,0)from rfl,F8,Sf,hs,F8];show s.write q 0 [a,c]=_;rw[Pk,hq,F8];rfl
 unfold MQ;rw[hz,F8,show ptrTo Z.n= .pointer (some ⟨Z.n,0,none⟩)from rfl];rw[st _ Z.n (.int .i64 0) (.int .i64 0) _ _ (cL),F8];refine gS ?_;rw[F8,show sub [Value.int .i64 (p:Nat),.int .i64 e] 0 2=some [.int .i64 (p:Nat),.int .i64 e]from rfl,F8,F8];rw[st _ b (.int .i64 0) (.int .i64 0) _ _ (by rw[I1 om,E9 om];exact h)]
theorem iL {p:Nat}{e:Int}:UZ 71 (fault p e)=some (.agg ⟨[.int .i64 (p:Nat),.int .i64 e]⟩):=rfl
theorem iM {g:Nat}{x y:Value}{Z:St}{R:CR->Prop}
  (hb:Ev (go Tryz.prog HS (.fn g) [x,y] (Z.new [.int .i64 0,.int .i64 0] (some 71))) (fun r=>Z.n<r.Z.n/\r.Z.A7 Z.n=some [.int .i64 0,.int .i64 0]/\((r.pan=false/\r.v= .tuple ⟨[]⟩)\/∃ p e,r.pan=true/\r.v=fault p e)/\R r) ⟨⟩) :
  Ev (go Tryz.prog HS (.fn 22) [.func (.func g) ⟨[]⟩ ⟨[x,y]⟩] Z) (fun r=>∃ r0 Z' p e,R r0/\B9 Z.n r0.Z Z'/\r=⟨false,.agg ⟨[.int .i64 (p:Nat),.int .i64 e]⟩,Z'⟩/\((r0.pan=false/\r0.v= .tuple ⟨[]⟩/\p=0/\e=0)\/(r0.pan=true/\r0.v=fault p e))) ⟨⟩:=by
 refine iK rfl ?_;unfold Jd;refine gS1 @zM ?_;refine hb.mono ?_;rintro⟨pn,v,Z1⟩ ⟨hn,ho,hc,hR⟩;rcases hc with⟨h1,h2⟩|⟨p,e,h1,h2⟩
 ·obtain rfl:pn=false:=h1;obtain rfl:v= .tuple ⟨[]⟩:=h2;refine gS1 (a3N @AY8 @zM @ho) ?_;exact⟨⟨false,.tuple ⟨[]⟩,Z1⟩,_,0,0,hR,B9.upd .refl _,rfl,.inl ⟨rfl,rfl,rfl,rfl⟩⟩
 ·obtain rfl:pn=true:=h1;obtain rfl:v=fault p e:=h2;simp(maxSteps:=8000000) (disch:=first|exact dS|fail) only[↓bD,bW,reduceMul,reduceEqDiff,reduceAdd,Nat.reduceBEq,reduceIte,Option.isNone_none,AY9,ho,iL,Rh ho hn];exact⟨⟨true,fault p e,Z1⟩,_,p,e,hR,B9.upd (B9.As (B9.LL .refl _) (Nat.le_refl _) _) _,rfl,.inr ⟨rfl,rfl⟩⟩
def z20:List Value:=[str [],.slice none 0 0,.slice none 0 0,.slice none 0 0,.int .i64 0,.int .i64 0,str [],.int .i64 0,.int .i64 0,str [],.slice none 0 0,.slice none 0 0,.int .i64 0,.slice none 0 0,.int .i64 0,.int .i64 0,.int .i64 0,.int .i64 0,.int .i64 0,.int .i64 0]
theorem Dm.Pg {Z Z':St}{cells:List Value}{T:Tn}(h:Dm Z cells T) (hE:ET Z Z'):Dm Z' cells T:=by
 obtain⟨vl,vc,vr,ex,vt,vk,h1,h2,h3,h4,h5,h6,vs,h7,h8⟩:=h;exact⟨vl,vc,vr,ex,vt,vk,h1,SL.J3 h2 hE,SL.J3 h3 hE,SL.J3 h4 hE,h5.J3 hE,SL.J3 h6 hE,vs,SL.J3 h7 hE,h8.mono fun _ _ hx=>SL.J3 hx hE⟩
theorem Dm.cells {Z:St}{cells:List Value}{T:Tn}(h:Dm Z cells T):∃ a0 a1 a2 a3 a4 a5 a6 a7 a8 a9 a10 a11 a12 a13 a14 a15 a16 a17 a18 a19,cells=[a0,a1,a2,a3,a4,a5,a6,a7,a8,a9,a10,a11,a12,a13,a14,a15,a16,a17,a18,a19]:=by
 obtain⟨vl,vc,vr,ex,vt,vk,rfl,-,-,-,h5,-⟩:=h;obtain⟨c1,c2,c3,c4,c5,rfl⟩:=fc5 h5;exact⟨_,_,_,_,_,_,_,_,_,_,_,_,_,_,_,_,_,_,_,_,rfl⟩
def PcP (Z:St) (c:Nat) (R:Except Er Tn) (r:CR):Prop:=match R with
 | .ok T=>∃ Z' cells,r=⟨false,.tuple ⟨[]⟩,Z'⟩/\B9 c Z Z'/\Z'.A7 c=some cells/\∀ H:List Nat,(∀ q∈H,q<Z.n)->Dm (J5 Z' H) cells T
 | .error (p,e)=>∃ Z',r=⟨true,fault p e,Z'⟩/\Ext Z Z'
theorem WU {Z:St}{s:By}{b c:Nat}(hs:s.length<=4000) (hl:∀ (l:By) (a:Nat),l∈I8 10 s->a<=s.length+1->Pl l a) (hb:Z.row b=some [str s]) (hc:Z.A7 c=some z20) (hcl:c<Z.n) :
  Ev (go Tryz.prog HS (.fn 23) [.pointer (some ⟨b,0,none⟩),.pointer (some ⟨c,0,none⟩)] Z) (PcP Z c (DB s)) ⟨⟩:=by
 refine D0 Tryz.func23 rfl rfl ?_;refine gS1 @hb ?_;refine(mj hs hl).mono ?_;intro r;cases hR:DB s with
 | error pe=>
   obtain⟨p,e⟩:=pe;rintro⟨Z1,rfl,hE⟩;refine gS ?_;exact⟨_,rfl,hE⟩
 | ok T=>
   rintro⟨Z1,cells,rfl,hE,hT⟩;have hc1:Z1.A7 c=some z20:=by rw[B8 (hE.same c hcl)];exact hc
   obtain⟨a0,a1,a2,a3,a4,a5,a6,a7,a8,a9,a10,a11,a12,a13,a14,a15,a16,a17,a18,a19,rfl⟩:=(hT [] (by simp)).cells;unfold z20 at hc1;refine gS1 (aI @hc1 @Tryz.results23) ?_;refine⟨_,_,rfl,(B9.of hE).upd _,D5,fun H hH=>(hT (c::H) ?_).Pg (K0 (Nat.le_refl _) fun q _ hm=>⟨fun h=>hm (List.mem_cons_of_mem _ h),M1 fun e=>hm (by rw[e];exact List.mem_cons_self ..)⟩)⟩;intro q hq;rcases List.mem_cons.1 hq with rfl|hq
   ·exact hcl
   ·exact hH q hq
def CaP (Z:St) (c:Nat) (R:Except Er Tn) (r:CR):Prop:=match R with
 | .ok T=>∃ Z' cells,r=⟨false,.agg ⟨[.int .i64 0,.int .i64 0]⟩,Z'⟩/\B9 c Z Z'/\Z'.A7 c=some cells/\∀ H:List Nat,(∀ q∈H,q<Z.n)->Dm (J5 Z' H) cells T
 | .error (p,e)=>∃ Z',r=⟨false,.agg ⟨[.int .i64 (p:Nat),.int .i64 e]⟩,Z'⟩/\Ext Z Z'
theorem iO {Z:St}{s:By}{b c:Nat}(hs:s.length<=4000) (hl:∀ (l:By) (a:Nat),l∈I8 10 s->a<=s.length+1->Pl l a) (hb:Z.row b=some [str s]) (hc:Z.A7 c=some z20) (hbl:b<Z.n) (hcl:c<Z.n) :
  Ev (go Tryz.prog HS (.fn 22) [.func (.func 23) ⟨[]⟩ ⟨[.pointer (some ⟨b,0,none⟩),.pointer (some ⟨c,0,none⟩)]⟩] Z) (CaP Z c (DB s)) ⟨⟩:=by
 refine(iM (R:=PcP (Z.new [.int .i64 0,.int .i64 0] (some 71)) c (DB s)) ((WU (b:=b) (c:=c) (s:=s) hs hl (by rw[CQ om];exact hb) (by rw[E9 om];exact hc) (by simp;omega)).mono ?_)).mono ?_
 ·intro r hr;cases hR:DB s with
  | ok T=>
    rw[hR]at hr;obtain⟨Z',cells,rfl,hE,ho,hT⟩:=hr;have hn:=hE.n;simp at hn;refine⟨by dsimp only;omega,?_,.inl ⟨rfl,rfl⟩,Z',cells,rfl,hE,ho,hT⟩;dsimp only;rw[hE.A7 (by simp) om];exact cL
  | error pe=>
    obtain⟨p,e⟩:=pe;rw[hR]at hr;obtain⟨Z',rfl,hE⟩:=hr;have hn:=hE.n;simp at hn;refine⟨by dsimp only;omega,?_,.inr ⟨p,e,rfl,rfl⟩,Z',rfl,hE⟩;dsimp only;rw[B8 (hE.same _ (by simp))];exact cL
 ·rintro r ⟨r0,Z',p,e,hr,hE,rfl,hx⟩;have hn:=hE.n;cases hR:DB s with
  | ok T=>
    rw[hR]at hr;obtain⟨Z1,cells,rfl,hE1,ho,hT⟩:=hr;rcases hx with⟨-,-,rfl,rfl⟩|⟨hx,-⟩
    rotate_left
    ·cases hx
    have hn1:=hE1.n;simp at hn1;dsimp only at hn hE;refine⟨Z',cells,rfl,⟨om,fun q h1 h2=>?_⟩,?_,fun H hH=>?_⟩
    ·rw[hE.same q om om,hE1.same q (by simp;omega) h2,EG,if_neg om]
    ·rw[hE.A7 om om];exact ho
    ·refine(hT (Z.n::H) fun q hq=>?_).Pg (K0 hn fun q hq hm=>⟨fun h=>hm (List.mem_cons_of_mem _ h),?_⟩)
     ·rcases List.mem_cons.1 hq with rfl|hq
      ·simp
      ·have:=hH q hq;simp;omega
     ·exact hE.row hq fun e=>hm (by rw[e];exact List.mem_cons_self ..)
  | error pe=>
    obtain⟨p',e'⟩:=pe;rw[hR]at hr;obtain⟨Z1,rfl,hE1⟩:=hr;rcases hx with⟨hx,-⟩|⟨-,hx⟩
    ·cases hx
    have hn1:=hE1.n;simp at hn1;dsimp only at hn hE hx;obtain⟨h1,h2⟩:p'=p/\e'=e:=by
     unfold fault at hx;simp at hx;exact⟨om,hx.2⟩
    subst h1 h2;refine⟨Z',rfl,⟨om,fun q h1=>?_⟩⟩;rw[hE.same q om om,hE1.same q (by simp;omega),EG,if_neg om]
noncomputable def LQ (s:By):Except Er Tn:=if 4000<s.length then .error (0,2)else DB s
def PaP (Z:St) (R:Except Er Tn) (r:CR):Prop:=match R with
 | .ok T=>∃ Z' cells,r=⟨false,.tuple ⟨[.agg ⟨cells⟩,.int .i64 0,.int .i64 0]⟩,Z'⟩/\Ext Z Z'/\∀ H:List Nat,(∀ q∈H,q<Z.n)->Dm (J5 Z' H) cells T
 | .error (p,e)=>∃ Z',r=⟨false,.tuple ⟨[.agg ⟨z20⟩,.int .i64 (p:Nat),.int .i64 e]⟩,Z'⟩/\Ext Z Z'
theorem iP {Z:St}{s:By}(hl:s.length<=4000->∀ (l:By) (a:Nat),l∈I8 10 s->a<=s.length+1->Pl l a) (he:s.length<=4000->∀ p e,DB s= .error (p,e)->e≠0) :
  Ev (go Tryz.prog HS (.fn 9) [str s] Z) (PaP Z (LQ s)) ⟨⟩:=by
 refine D0 Tryz.func9 rfl rfl ?_;have e4:decide ((4000:Int)<((s.length:Nat):Int))=decide (4000<s.length):=by rw[Bool.eq_iff_iff,decide_eq_true_iff,decide_eq_true_iff];omega
 unfold LQ;cases h4:decide (4000<s.length)with
 | true=>
   rw[if_pos (of_decide_eq_true h4)];refine gS1 (a3N @e4 @h4 @Tryz.results9) ?_;exact⟨_,rfl,eX⟩
 | false=>
   have h5:=of_decide_eq_false h4;have hs:s.length<=4000:=om;rw[if_neg h5];refine gS1 (aI @e4 @h4) ?_;refine(iO (b:=Z.n) (c:=Z.n+1+1) hs (hl hs) ?_ ?_ ?_ ?_).mono ?_
   ·exact cL
   ·unfold z20;exact cL
   ·simp;omega
   ·simp
   ·intro r hr;cases hR:DB s with
    | ok T=>
      rw[hR]at hr;obtain⟨Z',cells,rfl,hE,ho,hT⟩:=hr;have hn:=hE.n;simp at hn;obtain⟨a0,a1,a2,a3,a4,a5,a6,a7,a8,a9,a10,a11,a12,a13,a14,a15,a16,a17,a18,a19,rfl⟩:=(hT [] (by simp)).cells;have hrc:=A6 ho;have hro:Z'.A7 (Z.n+1)=some [str [],.slice none 0 0,.slice none 0 0,.slice none 0 0,.int .i64 0,.int .i64 0,str [],.int .i64 0,.int .i64 0,str [],.slice none 0 0,.slice none 0 0,.int .i64 0,.slice none 0 0,.int .i64 0,.int .i64 0,.int .i64 0,.int .i64 0,.int .i64 0,.int .i64 0]:=by
       rw[hE.A7 (by simp) om];exact cL
      refine gS1 (a4N @ho @hrc @hro @Tryz.results9) ?_;refine⟨_,_,rfl,?_,fun H hH=>?_⟩
      ·exact(((B9.ext (Z0:=Z) hE (((Ext.new _ _).trans (.new _ _)).trans (.new _ _)) om).AG _).upd om _).upd om _
      ·refine(hT ((Z.n+1)::H) fun q hq=>?_).Pg (K0 (by simp) fun q hq hm=>⟨fun h=>hm (List.mem_cons_of_mem _ h),?_⟩)
       ·rcases List.mem_cons.1 hq with rfl|hq
        ·simp
        ·have:=hH q hq;simp;omega
       ·rw[M1 fun e=>hm (by rw[e];exact List.mem_cons_self ..),M1 om,CQ om]
    | error pe=>
      obtain⟨p,e⟩:=pe;rw[hR]at hr;obtain⟨Z',rfl,hE⟩:=hr;have hn:=hE.n;simp at hn;have he0:=he hs p e hR;have hro:Z'.A7 (Z.n+1)=some [str [],.slice none 0 0,.slice none 0 0,.slice none 0 0,.int .i64 0,.int .i64 0,str [],.int .i64 0,.int .i64 0,str [],.slice none 0 0,.slice none 0 0,.int .i64 0,.slice none 0 0,.int .i64 0,.int .i64 0,.int .i64 0,.int .i64 0,.int .i64 0,.int .i64 0]:=by
       rw[B8 (hE.same _ (by simp))];exact cL
      have d0:decide (e=0)=false:=decide_eq_false he0;refine gS1 (a3N @hro @d0 @Tryz.results9) ?_;refine Ar.intro (by(repeat first|simp(disch:=omega) only[DH,Gc,Bq,L8,T7,T8,K3,j9,Be (Ext.refl _)]|rw[IT (by kernel_rfl)]);first|done|rfl) ?_;refine gS1 (aI @hro @Tryz.results9) ?_;exact⟨_,rfl,((((((Ext.new _ _).trans (.new _ _)).trans (.new _ _)).trans hE).AG _).upd om _).upd om _⟩
end Go.Proofs.T
namespace Go.Proofs.T
open Go Go.Ab
def kI:BM (some BG) (some BG)=true:=kR
def Sz {Z:St}(h:Z.read 1 0 20=some BG):go Tryz.prog HS (.fn 4) [] Z=some ⟨false,.bool true,Z⟩:=by
 have e2:go Tryz.prog HS (.fn 4) [] Z=bb (BM (Z.read 1 0 20) (some BG)) (some ⟨false,.bool true,Z⟩):=rfl;rw[e2,h,kI];rfl
end Go.Proofs.T
