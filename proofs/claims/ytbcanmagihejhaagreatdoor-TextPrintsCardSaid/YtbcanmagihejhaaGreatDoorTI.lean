/- The IQ of a text: the walk. -/
import Derived.Test.YtbcanmagihejhaaGreatDoorTH
set_option linter.unusedSimpArgs false
set_option linter.unusedVariables false
set_option linter.defProp false
set_option maxHeartbeats 32000000
set_option maxRecDepth 100000
namespace Go.Proofs.T
open Go Go.Ab
section
variable {Z ZL Z':St}{cs:List Value}{b ms k bt:Nat}{T:Tn}{w:By}{v:Value}{kv:List (By×Value)}
def FR {fr:Fr}{t:Tmp}:ev fr (.tmp t)=fr.get t:=rfl
def HA {l:By}{a:List By}{at':Nat}{seen:List (By×Value)}:BN (l::a) at' T seen=V6 (DL l at' T seen) fun(T',ET)=>BN a (at'+(l.length+1)) T' ET:=rfl
def lY:∀ {seen:List (By×Value)},(∀ p∈seen,p.2=tru)->∀ p∈DM w tru seen,p.2=tru:=by
 intro seen;induction seen with
 |nil=>intro _ p a;change p∈[(w,tru)]at a;rw[Cb]at a;rw[a]
 | cons q l ih=>
   obtain⟨k,v⟩:=q;intro c p a;rw[Li]at a;split at a
   ·rcases V9.1 a with rfl|a
    ·rfl
    ·exact c p (Ci _ a)
   ·rcases V9.1 a with rfl|a
    ·exact c _ (Cw ..)
    ·exact ih (fun p a=>c p (Ci _ a)) p a
def ZY:∀ {seen:List (By×Value)},(∀ p∈seen,p.2=tru)->W1 w seen=some v->v=tru:=by
 intro seen;induction seen with
 |nil=>intro _ h;cases h
 | cons q l ih=>
   obtain⟨k,v'⟩:=q;intro a h;rw[Cp]at h;split at h
   ·cases h;exact a (k,v) (Cw ..)
   ·exact ih (fun p c=>a p (Ci _ c)) h
def AE3 (a:Ext Z Z') (d:b<Z.n):Ext (IH Z b cs) (IH Z' b cs):=⟨a.n,fun c f=>by
 by_cases e:c=b
 ·subst e;show(Tr.set _ _ _).get c=(Tr.set _ _ _).get c;rw[Tr.get_set_same,Tr.get_set_same];unfold St.ver;rw[a.same c d]
 ·rw[AY e,AY e];exact a.same c f⟩
def Ch.Am6 (h:Ch Z b kv):Z.row b=none:=by
 obtain⟨ver,a⟩:=h;show ob (Z.EI b) _=_;unfold St.EI St.blk;rw[a];rfl
def Sc.IH {A7:List Tok}{H4:List Value}(h:Sc Z b v A7 k H4) (j:Ch Z ms kv) (i:b≠ms):Sc (IH Z ms cs) b v A7 k H4:=by
 refine⟨by rw[B9 (AY i)];exact h.row,h.lt,?_,h.ne,h.k,h.len⟩;rcases h.sl with l|⟨d,off,sp,c,cells,rfl,f,a,g⟩
 ·exact .inl l
 ·refine .inr ⟨d,off,sp,c,cells,rfl,f,?_,g⟩;rw[V7 (AY fun e=>by rw[e,j.Am6]at a;cases a)];exact a
def Tp.atU {q:Nat}{v:Nat->Value}{d vs:List Value}{H:List Nat}(h:Tp ZL Z bt T v d vs) (s:q<bt) (g:∀ c∈H,c<bt):Bj (J0 (Z.upd q cs) H) (tnR T v d) T:=by
 have p:bt<Z.n:=z5z h.btl h.ext.n;have r:=h.btl;have j:Ao (J0 Z (Ka bt v)) (J0 (Z.upd q cs) H):=K8 (Z:=Z) (Z':=Z.upd q cs) (l:=Ka bt v) (l':=H) nL fun c _ m=>
  ⟨fun f=>m (An.2 (.inl (We.2 (g c f)))),I2 fun e=>m (An.2 (.inl (We.2 om)))⟩
 have a:∀ i,i<5->SLs (J0 (Z.upd q cs) H) (szT i) (v i) (Cg T vs i):=fun i hi=>OL.J0 (OL.Ip (h.sl i hi) om) fun c f=>by have:=g c f;omega
 exact⟨v 0,v 1,v 2,d,v 3,v 4,rfl,(a 0 om).sl,(a 1 om).sl,(a 2 om).sl,h.fx.I4 j,(a 3 om).sl,vs,(a 4 om).sl,h.iv.mono fun _ _ o=>SL.I4 o j⟩
structure lZ (ZS ZL:St) (ms:Nat):Prop where
 n:ZL.n=ZS.n
 same:∀ c,c≠ms->ZL.h.get c=ZS.h.get c
def lZ.seen {a:St}(h:lZ a ZL ms):lZ a (IH ZL ms cs) ms:=⟨h.n,fun c d=>by rw[AY d];exact h.same c d⟩
def ZZ {a:St}(e:Ext Z a) (d:lZ a ZL ms) (f:G5 bt (IH ZL ms cs) Z') (i:Z.n<=ms) (j:Z.n<=bt):Ext Z Z':=by
 refine⟨?_,fun c h=>?_⟩
 ·have g:=f.n;have l:=d.n;have m:=e.n;rw[sO]at g;omega
 ·have o:a.n=ZL.n:=d.n.symm;rw[f.same c (by have:=e.n;rw[sO];omega) om,AY om,d.same c om,e.same c h]
def WD:List Value:=[str [116,101,110,100,101,114],str [108,111,116],str [112,114,105,99,101],str [102,111,114,109,117,108,97],str [98,117,100,103,101,116],str [116,105,109,101,115]]
def AS5 (h:k<6):∃ w,six[k]? =some w/\sub WD k 1=some [str w]:=by
 match k,h with
 |0,_=>exact⟨_,rfl,rfl⟩
 |1,_=>exact⟨_,rfl,rfl⟩
 |2,_=>exact⟨_,rfl,rfl⟩
 |3,_=>exact⟨_,rfl,rfl⟩
 |4,_=>exact⟨_,rfl,rfl⟩
 |5,_=>exact⟨_,rfl,rfl⟩
def oI {Z:St}{s:By}(hs:s.length<=4000) (hl:∀ (l:By) (a:Nat),l∈L7 10 s->a<=s.length+1->QQ l a) :
  Ev (gO 40 [str s] Z) (fun r=>match Bo s with
   | .ok T=>∃ Z' cells,r=⟨false,.agg ⟨cells⟩,Z'⟩/\Ext Z Z'/\∀ H:List Nat,(∀ c∈H,c<Z.n)->Bj (J0 Z' H) cells T
   | .error (p,e)=>∃ Z',r=⟨true,fault p e,Z'⟩/\Ext Z Z') ⟨⟩:=by
 refine G1 Tryz.func40 rfl rfl ?_;refine gS1 (aI @sP @emk) ?_;refine sQ.mono ?_;rintro r ⟨Z1,rfl,N,g7,c7⟩;simp at g7;refine gS ?_;refine(Wa om).mono ?_;rintro r ⟨lv,V,rfl,hv,M,f8⟩;have z1:Z1.B8 (Z.n+1)=some [str [],.slice none 0 0,.slice none 0 0,.slice none 0 0,.int .i64 0,.int .i64 0,str [],.int .i64 0,.int .i64 0,str [],.slice none 0 0,.slice none 0 0,.int .i64 0,.slice none 0 0,.int .i64 0,.int .i64 0,.int .i64 0,.int .i64 0,.int .i64 0,.int .i64 0]:=by rw[B9 (N.same _ (by simp))];exact cL
 have z0:Z1.B8 Z.n=some [str [],.slice none 0 0,.slice none 0 0,.slice none 0 0,.int .i64 0,.int .i64 0,str [],.int .i64 0,.int .i64 0,str [],.slice none 0 0,.slice none 0 0,.int .i64 0,.slice none 0 0,.int .i64 0,.int .i64 0,.int .i64 0,.int .i64 0,.int .i64 0,.int .i64 0]:=by rw[B9 (N.same _ (by simp;omega))];exact cL
 have c8:Ch Z1 (Z.n+1+1) []:=by
  obtain⟨ver,hg⟩:=gp (Z:=(Z.new [str [],.slice none 0 0,.slice none 0 0,.slice none 0 0,.int .i64 0,.int .i64 0,str [],.int .i64 0,.int .i64 0,str [],.slice none 0 0,.slice none 0 0,.int .i64 0,.slice none 0 0,.int .i64 0,.int .i64 0,.int .i64 0,.int .i64 0,.int .i64 0,.int .i64 0] (some 41)).new [str [],.slice none 0 0,.slice none 0 0,.slice none 0 0,.int .i64 0,.int .i64 0,str [],.int .i64 0,.int .i64 0,str [],.slice none 0 0,.slice none 0 0,.int .i64 0,.slice none 0 0,.int .i64 0,.int .i64 0,.int .i64 0,.int .i64 0,.int .i64 0,.int .i64 0] (some 41));exact⟨ver,by rw[N.same _ (by simp)];exact hg⟩
 have b3:Ch Z1 (Z.n+1+1+1) N0:=c7;have Nz:Ext Z Z1:=(((Ext.new _ _).trans (.new _ _)).Hg _ _).trans N;have i7:=M.n;have QM:=Nz.trans M
 have h4:Tp V V (Z.n+1) T0 (fun _=> .slice none 0 0) [str [],.int .i64 0,.int .i64 0,str [],.slice none 0 0] [] :=
  yT om (by rw[B9 (M.same _ om)];exact z1)
 have d7:=c8.ext om M;have d8:=b3.ext om M;have h5:V.B8 Z.n=some [str [],.slice none 0 0,.slice none 0 0,.slice none 0 0,.int .i64 0,.int .i64 0,str [],.int .i64 0,.int .i64 0,str [],.slice none 0 0,.slice none 0 0,.int .i64 0,.slice none 0 0,.int .i64 0,.int .i64 0,.int .i64 0,.int .i64 0,.int .i64 0,.int .i64 0]:=by rw[B9 (M.same _ om)];exact z0
 clear c8 c7 b3 z0 z1 N;have h7:=Dt 10 s;have h6:=GS 10 s;have i4:=MF 10 s;obtain⟨a,c,b,off,cells,rfl,y1,y2⟩:=hv.use;unfold Bo;generalize i5:L7 10 s=ls at *;refine gS ?_
 refine I9 ls.length (fun i fr Z'=>∃ ZL T seen v fc vs,Tp ZL Z' (Z.n+1) T v fc vs/\lZ V ZL (Z.n+1+1)/\Ch Z' (Z.n+1+1) seen /\
   fr.get 0=some (str s)/\fr.get 2=some (.pointer (some ⟨Z.n,0,none⟩))/\fr.get 3=some (.pointer (some ⟨Z.n+1,0,none⟩))/\fr.get 4=some (.map (some (Z.n+1+1)))/\fr.get 5=some (.map (some (Z.n+1+1+1))) /\
   fr.get 6=some (.int .i64 (lens (ls.take i):Nat))/\fr.get 18=some (.slice a ls.length c)/\fr.get 19=some (.int .i64 (ls.length:Nat))/\fr.get 20=some (.int .i64 (i:Nat)) /\
   JA (12+i) T/\BN (ls.drop i) (lens (ls.take i)) T seen=BN ls 0 T0 []/\∀ p∈seen,p.2=tru)
  (fun r=>match BN ls 0 T0 []with
    | .ok (T,seen)=>∃ fr Z' ZL v fc vs,r=⟨.exit 0,fr,Z'⟩/\Tp ZL Z' (Z.n+1) T v fc vs/\lZ V ZL (Z.n+1+1)/\Ch Z' (Z.n+1+1) seen /\
       fr.get 0=some (str s)/\fr.get 2=some (.pointer (some ⟨Z.n,0,none⟩))/\fr.get 3=some (.pointer (some ⟨Z.n+1,0,none⟩))/\fr.get 4=some (.map (some (Z.n+1+1)))/\∀ p∈seen,p.2=tru
    | .error (p,e)=>∃ fr Z',r=⟨.pan (fault p e),fr,Z'⟩/\Ext Z Z') ?_ ?_ ?_ ?_
 ·exact⟨V,T0,[],_,_,_,h4,⟨rfl,fun _ _=>rfl⟩,d7,fR,fR,fR,fR,fR,fR,fR,fR,fR,⟨by simp[T0],by simp[T0],by simp[T0],by simp[T0],by simp[T0]⟩,rfl,fun _ h=>by cases h⟩
 ·rintro i fr Z' hi ⟨ZL,T,seen,v,fc,vs,F,B,hM,o,g2,g3,g4,g5,g6,d,j,m,hF,hS,I⟩;rw[<- hS];clear hS;obtain⟨l,a1⟩:=I3 hi;obtain⟨sp,rfl,y3,y4⟩:=y1 om;have d5:ls.drop i=l::ls.drop (i+1):=by rw[Mk hi,(List.getElem?_eq_some_iff.1 a1).2]
  have b4:=Ug a1;have h8:=gu ls (i+1);have i6:V.n<=Z'.n:=by have:=F.ext.n;have:=B.n;omega
  have S:∀ c,c<V.n->c≠Z.n+1->c≠Z.n+1+1->Z'.h.get c=V.h.get c:=fun c h1 h2 h3=>by
   rw[F.ext.same c (by rw[B.n];exact h1) h2,B.same c h3]
  have i3:b=Z1.n:=by cases f8;rfl
  have hr:Z'.row b=some cells:=by rw[V7 (S b y3 om om)];exact y4
  have b1:=y2 i l a1;have c9:=hl l (lens (ls.take i)) (y6 a1) om;have ed:decide ((i:Int)<(ls.length:Int))=true:=by rw[z3z];omega
  have a6:decide (i<ls.length)=true:=AK hi;refine gS1 (aI o (aI g2 (aI g3 (aI g4 (aI g5 (aI g6 (aI d (aI j (aI m (aI ed (aI a6 (aI hr (aI b1 @Fh))))))))))))) ?_;refine(ld om om).mono ?_;rintro r ⟨i9,Z3,rfl,J,b8⟩;have g8:=b8.n;obtain⟨ta,rfl⟩:=OL.shape J;have h9:(H3 l (lens (ls.take i))).length<=l.length+2:=by
   unfold H3;rw[W4];have:=OA (L7 32 l) (lens (ls.take i));have:=GS 32 l;have:=MF 32 l;simp;omega
  have PB:0<(H3 l (lens (ls.take i))).length:=by unfold H3;simp
  generalize i2:lens (ls.take i)=at' at *;refine gS1 g3 ?_;rw[z2z];have W:Ext Z' (Z3.new [.slice ta (H3 l at').length (H3 l at').length,.int .i64 0,str [],.int .i64 0,.pointer (some ⟨Z.n+1,0,none⟩)]):=b8.Aw _;rw[z2z]at J
  have d0:Sc (Z3.new [.slice ta (H3 l at').length (H3 l at').length,.int .i64 0,str [],.int .i64 0,.pointer (some ⟨Z.n+1,0,none⟩)]) Z3.n (.slice ta (H3 l at').length (H3 l at').length) (H3 l at') 0 (N9 [] 0 (Z.n+1)) :=
   ⟨by unfold N9;exact cL,by simp,OL.sl (OL.ext J (.new _ _)),fun e=>by have:=(J.blk e).2;omega,PB,om⟩
  have hL:=F.ln W g8 d0 fun c R=>(J.blk R).1;have A:=R9 PB;refine(Y9 d0 A).mono ?_;rintro r ⟨L,rfl,O⟩;have f6:=hL.N6 O;have g9:=O.n;simp at g9;refine gS ?_;have a8:=f6.N6 ((Ext.new (t:=some 138) L [str [],.int .i64 0]).upd (b:=L.n) om [str (E8 (H3 l at') 0).1,.int .i64 ((E8 (H3 l at') 0).2:Nat)]);rw[d5];rw[HA];cases a3:decide ((E8 (H3 l at') 0).1=[])with
  | true=>
    have Za:DL l at' T seen= .ok (T,seen):=by unfold DL;rw[z1z (z6z a3)]
    rw[Za,F0]
    try dsimp only
    have e1:(l.length:Int)+1=((l.length+1:Nat):Int):=om;have e2:(at':Int)+((l.length+1:Nat):Int)=((at'+(l.length+1):Nat):Int):=om;have e3:(i:Int)+1=((i+1:Nat):Int):=om;refine gS1 (aI a3 (aI o (aI g2 (aI g3 (aI g4 (aI g5 (aI g6 (aI d (aI j (aI m (aI e1 (aI e2 e3)))))))))))) ?_;have Zb:lens (ls.take (i+1))=at'+(l.length+1):=by rw[b4];omega
    refine⟨ZL,T,seen,v,fc,vs,a8.tp,B,hM.ext ?_ ?_,fR1 o,fR1 g2,fR1 g3,fR1 g4,fR1 g5,fR1 Zb,fR1 d,fR1 j,fR,hF.mono om,by rw[Zb],I⟩
    ·have:=F.ext.n;have:=B.n;omega
    ·exact(W.trans O).trans ((Ext.new _ _).upd nL _)
  | false=>
    refine gS1 (aI a3 (aI o (aI g2 (aI g3 (aI g4 (aI g5 (aI g6 (aI d (aI j m))))))))) ?_;have d9:Ch ((L.new [str [],.int .i64 0] (some 138)).upd L.n [str (E8 (H3 l at') 0).1,.int .i64 ((E8 (H3 l at') 0).2:Nat)]) (Z.n+1+1+1) N0:=by
     obtain⟨ver,hg⟩:=d8;refine Ch.ext (Z:=Z') ⟨ver,?_⟩ om ((W.trans O).trans ((Ext.new _ _).upd nL _));rw[S _ om om om];exact hg
    refine WB (z:= .agg ⟨[.nilFunc,.bool false,.nilFunc]⟩) Dj KY kR (by rw[FR];exact fR) (by rw[FR];exact fR) d9 ?_;have Y:Ext Z Z':=⟨om,fun c R=>by rw[S c om om om,QM.same c R]⟩
    have c0:=((W.trans O).trans ((Ext.new (t:=some 138) L [str [],.int .i64 0]).upd (b:=L.n) nL [str (E8 (H3 l at') 0).1,.int .i64 ((E8 (H3 l at') 0).2:Nat)]))
    have U:(E8 (H3 l at') 0).1≠[]:=z9z a3;rcases lf (E8 (H3 l at') 0).1 with⟨x1,x2⟩|⟨g,f,ks,x1,x2,UC,d6⟩
    ·have Za:DL l at' T seen= .error ((E8 (H3 l at') 0).2,12):=by unfold DL;rw[z0z U,x2]
     rw[Za,I8,x1];refine gS1 (aI o (aI g2 (aI g3 (aI g4 (aI g5 (aI g6 (aI d (aI j (aI m (aI @sR.{0} @fC.{0})))))))))) ?_;have u:=a8.N6 ((Ext.new (t:=some 143) _ [.nilFunc,.bool false,.nilFunc]).upd (b:=L.n+1) (by simp) [.nilFunc,.bool false,.nilFunc]);refine(P1 u.sc A).mono ?_;rintro r (⟨y,-⟩|⟨y,Z7,rfl,f4⟩)
     case inl=>cases y
     refine gS ?_;exact⟨_,_,rfl,(Y.trans c0).trans ((((Ext.new _ _).upd (by simp) _)).trans f4)⟩
    ·have g1:=x2;rw[x1];unfold IB;refine gS1 (aI o (aI g2 (aI g3 (aI g4 (aI g5 (aI g6 (aI d (aI j (aI m (aI @sS.{0} @sT.{0})))))))))) ?_;have u:=a8.N6 ((Ext.new (t:=some 143) _ [.nilFunc,.bool false,.nilFunc]).upd (b:=L.n+1) (by simp) [.func (.func g) ⟨[]⟩ ⟨[]⟩,.bool ks.once,.func (.func f) ⟨[]⟩ ⟨[]⟩]);refine(P1 u.sc A).mono ?_;rintro r (⟨-,rfl⟩|⟨y,-⟩)
     case inr=>cases y
     have E:=c0.trans ((Ext.new (t:=some 143) _ [.nilFunc,.bool false,.nilFunc]).upd (b:=L.n+1) (by simp) [.func (.func g) ⟨[]⟩ ⟨[]⟩,.bool ks.once,.func (.func f) ⟨[]⟩ ⟨[]⟩]);have G:=hM.ext (by have:=F.ext.n;have:=B.n;omega) E
     have Za:DL l at' T seen=if (ks.once&&(W1 (E8 (H3 l at') 0).1 seen).isSome)=true then .error ((E8 (H3 l at') 0).2,13)else
       if ks.full T=true then .error ((E8 (H3 l at') 0).2,2)else
        V6 (ks.rd (H3 l at') (l.drop ((E8 (H3 l at') 0).2+(E8 (H3 l at') 0).1.length-at')) ((E8 (H3 l at') 0).2+(E8 (H3 l at') 0).1.length) T 1) fun(T',k)=>
         if (E8 (H3 l at') k).1=[]then .ok (T',DM (E8 (H3 l at') 0).1 tru seen)else .error ((E8 (H3 l at') k).2,12):=by
      unfold DL;rw[z0z U,x2]
     rw[Za];cases a2:ks.once
     case' true=>
      refine gS1 (aI o (aI g2 (aI g3 (aI g4 (aI g5 (aI g6 (aI d (aI j (aI m a2))))))))) ?_;rw[a2]at u G E;refine WB (z:= .bool false) Pc KY kR (by rw[FR];exact fR1 g4) (by rw[FR];exact fR) G ?_;cases K:W1 (E8 (H3 l at') 0).1 seen
      case some sv=>
        obtain rfl:=ZY I K;unfold tru;refine gS1 (aI @sS.{0} @sT.{0}) ?_;refine(P1 u.sc A).mono ?_;rintro r (⟨y,-⟩|⟨y,Z8,rfl,D⟩)
        case inl=>cases y
        refine gS ?_;refine T3.intro kR ?_;refine T3.intro (by(repeat first|simp(disch:=omega) only[N7,Q9,N1,P0,T5,T6,N5,o6,Bz (Ext.refl _),Bz D]|rw[U0 (by kernel_rfl)]);first|done|rfl) ?_;refine gS ?_;rw[z1z (by rfl),I8];exact⟨_,_,rfl,(Y.trans E).trans D⟩
      refine gS1 (aI @sR.{0} @fC.{0}) ?_;refine(P1 u.sc A).mono ?_;rintro r (⟨-,rfl⟩|⟨y,-⟩)
      case inr=>cases y
      rw[z0z (by first|simp|(rw[K];simp))];refine gS1 (aI o (aI g2 (aI g3 (aI g4 (aI g5 (aI g6 (aI d (aI j m)))))))) ?_;refine T3.intro (by(repeat first|simp(disch:=omega) only[N7,Q9,N1,P0,T5,T6,N5,o6,Bz (Ext.refl _)]|rw[U0 (by kernel_rfl)]);first|done|rfl) ?_;refine gS1 (aI o (aI g2 (aI g3 (aI g4 (aI g5 (aI g6 (aI d (aI j m)))))))) ?_;refine(UC _ _ _ _ _ _ _ _ _ _ _ _ u).mono ?_;rintro r rfl;refine gS1 (aI o (aI g2 (aI g3 (aI g4 (aI g5 (aI g6 (aI d (aI j m)))))))) ?_;refine(P1 u.sc A).mono ?_;cases f9:ks.full T
      case true=>
        rintro r (⟨y,-⟩|⟨y,Z8,rfl,D⟩)
        case inl=>cases y
        refine gS ?_;refine T3.intro kR ?_;refine T3.intro (by(repeat first|simp(disch:=omega) only[N7,Q9,N1,P0,T5,T6,N5,o6,Bz (Ext.refl _),Bz D]|rw[U0 (by kernel_rfl)]);first|done|rfl) ?_;refine gS ?_
        try rw[z1z (by rfl)]
        try rw[I8]
        exact⟨_,_,rfl,(Y.trans E).trans D⟩
      rintro r (⟨-,rfl⟩|⟨y,-⟩)
      case inr=>cases y
      try rw[z0z (by simp)]
      refine gS1 (aI o (aI g2 (aI g3 (aI g4 (aI g5 (aI g6 (aI d (aI j m)))))))) ?_;refine T3.intro (by(repeat first|simp(disch:=omega) only[N7,Q9,N1,P0,T5,T6,N5,o6,Bz (Ext.refl _)]|rw[U0 (by kernel_rfl)]);first|done|rfl) ?_;refine gS1 (aI o (aI g2 (aI g3 (aI g4 (aI g5 (aI g6 (aI d (aI j m)))))))) ?_;refine Ap (xv:=tru) Pc KY (by rw[FR];exact fR1 g4) (by rw[FR];exact fR) rfl G ?_;have a4:Z.n+1+1<ZL.n:=by have:=B.n;omega
      have sU:Z.n+1+1<Z'.n:=by have:=F.ext.n;omega
      have Q:=(F.seen (kv':=DM (E8 (H3 l at') 0).1 tru seen) hM a4 om).ln (AE3 E sU) (by simp;omega) (u.sc.IH G om) fun c R=>(J.blk R).1;refine gS1 (aI o (aI g2 (aI g3 (aI g4 (aI g5 (aI g6 (aI d (aI j m)))))))) ?_;refine(BV Q.sc A).mono ?_;rintro r ⟨Z9,rfl,C,q9⟩;have a0:=He 0 _ A U;have c6:=Q.step C q9 a0;have b0:=C.n;simp at b0;have d4:Z9.row L.n=some [str (E8 (H3 l at') 0).1,.int .i64 ((E8 (H3 l at') 0).2:Nat)]:=by
       rw[C.row (by simp;omega) om,V7 (AY om)];exact cL
      have d3:Z9.row (L.n+1)=some [.func (.func g) ⟨[]⟩ ⟨[]⟩,.bool true,.func (.func f) ⟨[]⟩ ⟨[]⟩]:=by
       rw[C.row (by simp) om,V7 (AY om)];exact cL
     case' false=>
      rw[a2]at u G E;refine gS1 (aI o (aI g2 (aI g3 (aI g4 (aI g5 (aI g6 (aI d (aI j (aI m a2))))))))) ?_;refine(P1 u.sc A).mono ?_;rintro r (⟨-,rfl⟩|⟨y,-⟩)
      case inr=>cases y
      rw[z0z (by first|simp|(rw[K];simp))];refine gS1 (aI o (aI g2 (aI g3 (aI g4 (aI g5 (aI g6 (aI d (aI j m)))))))) ?_;refine T3.intro (by(repeat first|simp(disch:=omega) only[N7,Q9,N1,P0,T5,T6,N5,o6,Bz (Ext.refl _)]|rw[U0 (by kernel_rfl)]);first|done|rfl) ?_;refine gS1 (aI o (aI g2 (aI g3 (aI g4 (aI g5 (aI g6 (aI d (aI j m)))))))) ?_;refine(UC _ _ _ _ _ _ _ _ _ _ _ _ u).mono ?_;rintro r rfl;refine gS1 (aI o (aI g2 (aI g3 (aI g4 (aI g5 (aI g6 (aI d (aI j m)))))))) ?_;refine(P1 u.sc A).mono ?_;cases f9:ks.full T
      case true=>
        rintro r (⟨y,-⟩|⟨y,Z8,rfl,D⟩)
        case inl=>cases y
        refine gS ?_;refine T3.intro kR ?_;refine T3.intro (by(repeat first|simp(disch:=omega) only[N7,Q9,N1,P0,T5,T6,N5,o6,Bz (Ext.refl _),Bz D]|rw[U0 (by kernel_rfl)]);first|done|rfl) ?_;refine gS ?_
        try rw[z1z (by rfl)]
        try rw[I8]
        exact⟨_,_,rfl,(Y.trans E).trans D⟩
      rintro r (⟨-,rfl⟩|⟨y,-⟩)
      case inr=>cases y
      try rw[z0z (by simp)]
      refine gS1 (aI o (aI g2 (aI g3 (aI g4 (aI g5 (aI g6 (aI d (aI j m)))))))) ?_;refine T3.intro (by(repeat first|simp(disch:=omega) only[N7,Q9,N1,P0,T5,T6,N5,o6,Bz (Ext.refl _)]|rw[U0 (by kernel_rfl)]);first|done|rfl) ?_;refine gS1 (aI o (aI g2 (aI g3 (aI g4 (aI g5 (aI g6 (aI d (aI j m)))))))) ?_;refine Ap (xv:=tru) Pc KY (by rw[FR];exact fR1 g4) (by rw[FR];exact fR) rfl G ?_;have a4:Z.n+1+1<ZL.n:=by have:=B.n;omega
      have sU:Z.n+1+1<Z'.n:=by have:=F.ext.n;omega
      have Q:=(F.seen (kv':=DM (E8 (H3 l at') 0).1 tru seen) hM a4 om).ln (AE3 E sU) (by simp;omega) (u.sc.IH G om) fun c R=>(J.blk R).1;refine gS1 (aI o (aI g2 (aI g3 (aI g4 (aI g5 (aI g6 (aI d (aI j m)))))))) ?_;refine(BV Q.sc A).mono ?_;rintro r ⟨Z9,rfl,C,q9⟩;have a0:=He 0 _ A U;have c6:=Q.step C q9 a0;have b0:=C.n;simp at b0;have d4:Z9.row L.n=some [str (E8 (H3 l at') 0).1,.int .i64 ((E8 (H3 l at') 0).2:Nat)]:=by
       rw[C.row (by simp;omega) om,V7 (AY om)];exact cL
      have d3:Z9.row (L.n+1)=some [.func (.func g) ⟨[]⟩ ⟨[]⟩,.bool false,.func (.func f) ⟨[]⟩ ⟨[]⟩]:=by
       rw[C.row (by simp) om,V7 (AY om)];exact cL
     all_goals
      obtain⟨f1,f2⟩:=lh U;have e5:(((E8 (H3 l at') 0).2:Nat):Int)+(((E8 (H3 l at') 0).1.length:Nat):Int)=(((E8 (H3 l at') 0).2+(E8 (H3 l at') 0).1.length:Nat):Int):=om;have b2:=q9;unfold N9 at b2;have e6:(((E8 (H3 l at') 0).2+(E8 (H3 l at') 0).1.length:Nat):Int)-(at':Int)=(((E8 (H3 l at') 0).2+(E8 (H3 l at') 0).1.length-at':Nat):Int):=om;have e7:(E8 (H3 l at') 0).2+(E8 (H3 l at') 0).1.length-at'<=l.length:=om;have s3:sub l ((E8 (H3 l at') 0).2+(E8 (H3 l at') 0).1.length-at') (l.length-((E8 (H3 l at') 0).2+(E8 (H3 l at') 0).1.length-at'))=some (l.drop ((E8 (H3 l at') 0).2+(E8 (H3 l at') 0).1.length-at')):=by
       rw[AE om,Pg (by simp)]
      have h0:Z9.row Z3.n=_:=C1 b2;refine gS1 (aI o (aI g2 (aI g3 (aI g4 (aI g5 (aI g6 (aI d (aI j (aI m (aI d4 (aI d3 (aI e5 (aI b2 (aI h0 (aI e6 s3))))))))))))))) ?_;have e8:at'+((E8 (H3 l at') 0).2+(E8 (H3 l at') 0).1.length-at')=(E8 (H3 l at') 0).2+(E8 (H3 l at') 0).1.length:=om;have d1:=c9.2 ((E8 (H3 l at') 0).2+(E8 (H3 l at') 0).1.length-at');rw[e8]at d1;have e0:=c6.step ((G5.refl.upd [.slice ta (H3 l at').length (H3 l at').length,.int .i64 (1:Nat),str [],.int .i64 ((E8 (H3 l at') 0).2+(E8 (H3 l at') 0).1.length:Nat),.pointer (some ⟨Z.n+1,0,none⟩)]).upd (.slice ta (H3 l at').length (H3 l at').length:: .int .i64 (1:Nat)::N9 (l.drop ((E8 (H3 l at') 0).2+(E8 (H3 l at') 0).1.length-at')) ((E8 (H3 l at') 0).2+(E8 (H3 l at') 0).1.length) (Z.n+1))) G8 a0;refine(d6 _ _ _ _ _ _ _ _ _ _ _ _ _ e0 He c9.1 (hF.fits om) (by simp;omega) om LR d1).mono ?_;intro r;cases hR:ks.rd (H3 l at') (l.drop ((E8 (H3 l at') 0).2+(E8 (H3 l at') 0).1.length-at')) ((E8 (H3 l at') 0).2+(E8 (H3 l at') 0).1.length) T 1 with
      | error pe=>
        obtain⟨p,e⟩:=pe;rintro⟨e9,rfl,jc⟩;refine gS ?_;rw[I8,I8];exact⟨_,_,rfl,ZZ QM B jc om om⟩
      | ok Tk=>
        obtain⟨T',k'⟩:=Tk;rintro⟨e9,v',f3,vs',rfl,a5⟩;rw[F0]
        try dsimp only
        refine gS1 (aI o (aI g2 (aI g3 (aI g4 (aI g5 (aI g6 (aI d (aI j m)))))))) ?_;have b5:=R9 a5.sc.k;refine(Y9 a5.sc b5).mono ?_;rintro r ⟨i0,rfl,b6⟩;have yU:=a5.N6 b6;refine gS ?_;refine(P1 yU.sc b5).mono ?_;have e4:=ZZ QM B yU.ext om om;rintro r (⟨y,rfl⟩|⟨y,i1,rfl,b7⟩)
        case inr=>
         refine gS ?_;refine T3.intro kR ?_;refine T3.intro (by(repeat first|simp(disch:=omega) only[N7,Q9,N1,P0,T5,T6,N5,o6,Bz (Ext.refl _),Bz b6,Bz b7]|rw[U0 (by kernel_rfl)]);first|done|rfl) ?_;refine gS ?_;rw[z0z (z9z y),I8];exact⟨_,_,rfl,e4.trans b7⟩
        rw[z1z (z6z y),F0]
        try dsimp only
        have e1:(l.length:Int)+1=((l.length+1:Nat):Int):=om;have e2:(at':Int)+((l.length+1:Nat):Int)=((at'+(l.length+1):Nat):Int):=om;have e3:(i:Int)+1=((i+1:Nat):Int):=om;refine gS1 (aI o (aI g2 (aI g3 (aI g4 (aI g5 (aI g6 (aI d (aI j (aI m (aI e1 (aI e2 e3))))))))))) ?_;have Zb:lens (ls.take (i+1))=at'+(l.length+1):=by rw[b4];omega
        have f5:=yO g1 om hF hR;refine⟨IH ZL (Z.n+1+1) (JH (DM (E8 (H3 l at') 0).1 tru seen)),T',DM (E8 (H3 l at') 0).1 tru seen,v',f3,vs',yU.tp,B.seen,Cu.CA (by simp;omega) yU.ext om,fR1 o,fR1 g2,fR1 g3,fR1 g4,fR1 g5,fR1 Zb,fR1 d,fR1 j,fR,f5.mono om,by rw[Zb],lY I⟩
 ·rintro fr Z' ⟨ZL,T,seen,v,fc,vs,F,B,hM,o,g2,g3,g4,g5,g6,d,j,m,hF,hS,I⟩;rw[<- hS,XO];refine gS1 (aI o (aI g2 (aI g3 (aI g4 (aI g5 (aI g6 (aI d (aI j (aI m @HD))))))))) ?_;exact⟨_,_,_,_,_,_,rfl,F,B,hM,fR1 o,fR1 g2,fR1 g3,fR1 g4,I⟩
 ·intro r;cases hX:BN ls 0 T0 []with
  | error pe=>
    obtain⟨p,e⟩:=pe;rintro⟨fr,Z',rfl,hE⟩;refine gS ?_;rw[I8];exact⟨_,rfl,hE⟩
  | ok Ts=>
    obtain⟨T,seen⟩:=Ts;rintro⟨fr,Z',ZL,v,fc,vs,rfl,F,B,hM,o,g2,g3,g4,I⟩;rw[F0]
    try dsimp only
    refine gS1 (aI o (aI g2 (aI g3 g4))) ?_;have i8:V.n<=Z'.n:=by have:=F.ext.n;have:=B.n;omega
    have X:Ext Z' (Z'.new WD):= .new _ _;have f7:=hM.ext om X;have a9:=F.ext' X;have r6:(Z'.new WD).row Z'.n=some WD:=cL;have b9:Ext Z (Z'.new WD):=by
     refine Ext.trans ?_ X;refine⟨om,fun c R=>?_⟩;rw[F.ext.same c (by rw[B.n];omega) om,B.same c om,QM.same c R]
    refine I9 6 (fun k fr Z6=>Z6=Z'.new WD/\fr.get 0=some (str s)/\fr.get 2=some (.pointer (some ⟨Z.n,0,none⟩))/\fr.get 3=some (.pointer (some ⟨Z.n+1,0,none⟩))/\fr.get 4=some (.map (some (Z.n+1+1))) /\
      fr.get 118=some (.slice (some ⟨Z'.n,0,none⟩) 6 6)/\fr.get 119=some (.int .i64 (6:Nat))/\fr.get 120=some (.int .i64 (k:Nat))/\∀ w∈six.take k,(W1 w seen).isSome=true)
     (fun r=>(six.all (fun w=>(W1 w seen).isSome)=true/\∃ fr,r=⟨.exit 2,fr,Z'.new WD⟩/\fr.get 2=some (.pointer (some ⟨Z.n,0,none⟩))/\fr.get 3=some (.pointer (some ⟨Z.n+1,0,none⟩))) \/
       (six.all (fun w=>(W1 w seen).isSome)=false/\∃ fr,r=⟨.pan (fault s.length 12),fr,Z'.new WD⟩)) ?_ ?_ ?_ ?_
    ·exact⟨rfl,fR1 o,fR1 g2,fR1 g3,fR1 g4,fR,fR,fR,fun w h=>by cases h⟩
    ·rintro k fr Z6 hk ⟨rfl,u0,u2,u3,u4,sV,sW,yV,Fp⟩;have ed:decide ((k:Int)<((6:Nat):Int))=true:=by rw[z3z];omega
     have a6:decide ((k:Int)<6)=true:=by rw[z3z];omega
     have f0:decide (k<6)=true:=by rw[z3z];omega
     obtain⟨w,hw,b1⟩:=AS5 hk;refine gS1 (aI u0 (aI u2 (aI u3 (aI u4 (aI sV (aI sW (aI yV (aI ed (aI a6 (aI f0 (aI r6 (aI b1 @Fh)))))))))))) ?_;refine WB (z:= .bool false) Pc KY kR (by rw[FR];exact fR1 u4) (by rw[FR];exact fR) f7 ?_;cases K:W1 w seen with
     | some sv=>
       obtain rfl:=ZY I K;unfold tru;have e3:(k:Int)+1=((k+1:Nat):Int):=om;refine gS1 (aI @sS.{0} (aI @sT.{0} (aI e3 (aI u0 (aI u2 (aI u3 (aI u4 (aI sV (aI sW yV))))))))) ?_;refine⟨True.intro,fR1 u0,fR1 u2,fR1 u3,fR1 u4,fR1 sV,fR1 sW,fR,fun w' d2=>?_⟩;rw[Gf,hw]at d2;rcases An.1 d2 with h|h
       ·exact Fp w' h
       ·obtain rfl:w'=w:=by simpa using h
        rw[K];rfl
     | none=>
       refine gS1 (aI @sR.{0} (aI @fC.{0} @u0)) ?_;right;refine⟨?_,_,rfl⟩;rw[Tj];intro h;have:=GH.1 h w (y6 hw);rw[K]at this;cases this
    ·rintro fr Z6 ⟨rfl,u0,u2,u3,u4,sV,sW,yV,Fp⟩;refine gS1 (aI u0 (aI u2 (aI u3 (aI u4 (aI sV (aI sW (aI yV @HD))))))) ?_;left;refine⟨?_,_,rfl,fR1 u2,fR1 u3⟩;rw[GH];exact fun w hw=>Fp w (by rw[Pg (by simp[six])];exact hw)
    ·rintro r (⟨Fp,fr,rfl,u2,u3⟩|⟨Fp,fr,rfl⟩)
     ·rw[z1z Fp];have ro:=a9.row;have rz:(Z'.new WD).B8 Z.n=some [str [],.slice none 0 0,.slice none 0 0,.slice none 0 0,.int .i64 0,.int .i64 0,str [],.int .i64 0,.int .i64 0,str [],.slice none 0 0,.slice none 0 0,.int .i64 0,.slice none 0 0,.int .i64 0,.int .i64 0,.int .i64 0,.int .i64 0,.int .i64 0,.int .i64 0]:=by
       rw[B9 (X.same _ om),B9 (F.ext.same _ (by rw[B.n];omega) om),B9 (B.same _ om)];exact h5
      obtain⟨c1,c2,c3,c4,c5,rfl⟩:=fc5 a9.fx;have a7:=fun(H:List Nat) (hH:∀ c∈H,c<Z.n)=>a9.atU (q:=Z.n) (cs:=tnR T v [c1,c2,c3,c4,c5]) (H:=H) om (fun c R=>by have:=hH c R;omega);unfold tnR Ae at ro a7;simp only[JF,KP]at ro a7;have rr:=C1 ro;refine gS1 (aI u2 (aI u3 (aI ro (aI rr (aI rz @Tryz.results40))))) ?_;exact⟨_,_,rfl,b9.upd nL _,a7⟩
     ·rw[z0z (by rw[Fp];simp)];refine gS ?_;exact⟨_,rfl,b9⟩
end
def Eg:By->Nat->Bool
 | [],_=>true
 |b::l,c=>bif on J3 b then Nat.ble (c+1) 18&&Eg l (c+1)else Eg l 0
def HF {b:UInt8}{l:By}{c:Nat}:Eg (b::l) c=bif on J3 b then Nat.ble (c+1) 18&&Eg l (c+1)else Eg l 0:=rfl
end Go.Proofs.T
namespace Go.Proofs.T
open Go Go.Ab
open Nat (reduceMul reduceEqDiff reduceAdd)
def jL {vs:List Value}{Z:St}{Q:CR->Prop}{u:Hd Q}{a c1 c2 c3:Code}(c:Tryz.f38.body=some (.seq a (.seq c1 (.seq c2 (.seq c3 .ret)))))
  (h:Ev (Jf Tryz.prog a c2 c3 3 2 86 86 [.cell 2 86] (lim Tryz.prog HS) vs Z) Q u):Ev (go Tryz.prog HS (.fn 38) vs Z) Q u:=by
 have e:parts=(a,c1,c2,c3):=by unfold parts;rw[c]
 have b:go Tryz.prog HS (.fn 38) vs Z=PQ.f (lim Tryz.prog HS) vs Z:=rfl;rw[b];unfold PQ;rw[e];exact h
def AB8 {a:Type}{fr:Fr}{Z:St}{f:Fr->St->Option a}:nrm ⟨.normal,fr,Z⟩ f=f fr Z:=rfl
def Ag6 {a:Type}{fr:Fr}{Z:St}{f:Fr->St->Option a}{g:Value->Fr->St->Option a}:nrp ⟨.normal,fr,Z⟩ f g=f fr Z:=rfl
def Ag7 {a:Type}{fr:Fr}{Z:St}{v:Value}{f:Fr->St->Option a}{g:Value->Fr->St->Option a}:nrp ⟨.pan v,fr,Z⟩ f g=g v fr Z:=rfl
def Sl {Z:St}{b p:Nat}{e:Int}(h:Z.B8 b=some [.int .i64 0,.int .i64 0]) (j:b<Z.n):Mg Tryz.prog 86 (.pointer (some ⟨b,0,none⟩)) (.agg ⟨[.int .i64 p,.int .i64 e]⟩) Z=some (((Z.new [.int .i64 0,.int .i64 0] (some 86)).upd Z.n [.int .i64 p,.int .i64 e]).upd b [.int .i64 p,.int .i64 e]):=by
 have i:Ad Tryz.prog 86=some (.agg ⟨[.int .i64 0,.int .i64 0]⟩):=kR;have g:size? Tryz.prog 86=some 2:=kR;have d:∀ (s:St) (q:Nat) (x y a c:Value),s.B8 q=some [x,y]->Ld Tryz.prog s 86 (.pointer (some ⟨q,0,none⟩)) (.agg ⟨[a,c]⟩)=some (s.upd q [a,c]):=by
  intro s q x y a c f;unfold Ld;rw[show at? (.pointer (some ⟨q,0,none⟩))=some (q,0)from rfl,F8,Jb,g,F8];show s.write q 0 [a,c]=_;rw[Jc,f,F8];rfl
 unfold Mg;rw[i,F8,show ptrTo Z.n= .pointer (some ⟨Z.n,0,none⟩)from rfl];rw[d _ Z.n (.int .i64 0) (.int .i64 0) _ _ (cL),F8];refine gS ?_;rw[F8,show sub [Value.int .i64 (p:Nat),.int .i64 e] 0 2=some [.int .i64 (p:Nat),.int .i64 e]from rfl,F8,F8];rw[d _ b (.int .i64 0) (.int .i64 0) _ _ (by rw[H6 om,J1 om];exact h)]
def jM {p:Nat}{e:Int}:VH 86 (fault p e)=some (.agg ⟨[.int .i64 (p:Nat),.int .i64 e]⟩):=rfl
def jN {g:Nat}{x y:Value}{Z:St}{R:CR->Prop}
  (i:Ev (go Tryz.prog HS (.fn g) [x,y] (Z.new [.int .i64 0,.int .i64 0] (some 86))) (fun r=>Z.n<r.Z.n/\r.Z.B8 Z.n=some [.int .i64 0,.int .i64 0]/\((r.pan=false/\r.v= .tuple ⟨[]⟩)\/∃ p e,r.pan=true/\r.v=fault p e)/\R r) ⟨⟩) :
  Ev (go Tryz.prog HS (.fn 38) [.func (.func g) ⟨[]⟩ ⟨[x,y]⟩] Z) (fun r=>∃ r0 Z' p e,R r0/\G5 Z.n r0.Z Z'/\r=⟨false,.agg ⟨[.int .i64 (p:Nat),.int .i64 e]⟩,Z'⟩/\((r0.pan=false/\r0.v= .tuple ⟨[]⟩/\p=0/\e=0)\/(r0.pan=true/\r0.v=fault p e))) ⟨⟩:=by
 refine jL rfl ?_;unfold Jf;refine gS1 @AB8 ?_;refine i.mono ?_;rintro⟨h,v,d⟩ ⟨l,c,j,f⟩;rcases j with⟨a,b⟩|⟨p,e,a,b⟩
 ·obtain rfl:h=false:=a;obtain rfl:v= .tuple ⟨[]⟩:=b;refine gS1 (aI @Ag6 (aI @AB8 c)) ?_;exact⟨⟨false,.tuple ⟨[]⟩,d⟩,_,0,0,f,G5.upd .refl _,rfl,.inl ⟨rfl,rfl,rfl,rfl⟩⟩
 ·obtain rfl:h=true:=a;obtain rfl:v=fault p e:=b;simp(maxSteps:=8000000) (disch:=first|exact dS|fail) only[↓bD,bW,reduceMul,reduceEqDiff,reduceAdd,Nat.reduceBEq,reduceIte,Option.isNone_none,Ag7,c,jM,Sl c l];exact⟨⟨true,fault p e,d⟩,_,p,e,f,G5.upd (G5.De (G5.Sk .refl _) nL _) _,rfl,.inr ⟨rfl,rfl⟩⟩
def z20:List Value:=[str [],.slice none 0 0,.slice none 0 0,.slice none 0 0,.int .i64 0,.int .i64 0,str [],.int .i64 0,.int .i64 0,str [],.slice none 0 0,.slice none 0 0,.int .i64 0,.slice none 0 0,.int .i64 0,.int .i64 0,.int .i64 0,.int .i64 0,.int .i64 0,.int .i64 0]
def Bj.OT {Z Z':St}{cells:List Value}{T:Tn}(h:Bj Z cells T) (a:Ao Z Z'):Bj Z' cells T:=by
 obtain⟨p,n,q,b,r,o,c,d,e,f,g,i,vs,j,l⟩:=h;exact⟨p,n,q,b,r,o,c,SL.I4 d a,SL.I4 e a,SL.I4 f a,g.I4 a,SL.I4 i a,vs,SL.I4 j a,l.mono fun _ _ m=>SL.I4 m a⟩
def Bj.cells {Z:St}{cells:List Value}{T:Tn}(h:Bj Z cells T):∃ a0 a1 a2 a3 a4 a5 a6 a7 a8 a9 a10 a11 a12 a13 a14 a15 a16 a17 a18 a19,cells=[a0,a1,a2,a3,a4,a5,a6,a7,a8,a9,a10,a11,a12,a13,a14,a15,a16,a17,a18,a19]:=by
 obtain⟨e,c,f,b,g,d,rfl,-,-,-,a,-⟩:=h;obtain⟨c1,c2,c3,c4,c5,rfl⟩:=fc5 a;exact⟨_,_,_,_,_,_,_,_,_,_,_,_,_,_,_,_,_,_,_,_,rfl⟩
def PcP (Z:St) (c:Nat) (R:Except Er Tn) (r:CR):Prop:=match R with
 | .ok T=>∃ Z' cells,r=⟨false,.tuple ⟨[]⟩,Z'⟩/\G5 c Z Z'/\Z'.B8 c=some cells/\∀ H:List Nat,(∀ q∈H,q<Z.n)->Bj (J0 Z' H) cells T
 | .error (p,e)=>∃ Z',r=⟨true,fault p e,Z'⟩/\Ext Z Z'
def XM {Z:St}{s:By}{b c:Nat}(L:s.length<=4000) (K:∀ (l:By) (a:Nat),l∈L7 10 s->a<=s.length+1->QQ l a) (I:Z.row b=some [str s]) (J:Z.B8 c=some z20) (f:c<Z.n) :
  Ev (go Tryz.prog HS (.fn 39) [.pointer (some ⟨b,0,none⟩),.pointer (some ⟨c,0,none⟩)] Z) (PcP Z c (Bo s)) ⟨⟩:=by
 refine G1 Tryz.func39 rfl rfl ?_;refine gS1 I ?_;refine(oI L K).mono ?_;intro r;cases Y:Bo s with
 | error pe=>
   obtain⟨p,e⟩:=pe;rintro⟨j,rfl,g⟩;refine gS ?_;exact⟨_,rfl,g⟩
 | ok T=>
   rintro⟨j,cells,rfl,g,m⟩;have d:j.B8 c=some z20:=by rw[B9 (g.same c f)];exact J
   obtain⟨M,N,O,Q,R,S,U,V,W,X,u,v,y,z,A,B,C,D,E,F,rfl⟩:=(m [] (by simp)).cells;unfold z20 at d;refine gS1 (aI d @Tryz.results39) ?_;refine⟨_,_,rfl,(G5.of g).upd _,G8,fun H G=>(m (c::H) ?_).OT (K8 nL fun q _ o=>⟨fun h=>o (Ci _ h),I2 fun e=>o (by rw[e];exact Cw ..)⟩)⟩;intro q i;rcases V9.1 i with rfl|i
   ·exact f
   ·exact G q i
def CaP (Z:St) (c:Nat) (R:Except Er Tn) (r:CR):Prop:=match R with
 | .ok T=>∃ Z' cells,r=⟨false,.agg ⟨[.int .i64 0,.int .i64 0]⟩,Z'⟩/\G5 c Z Z'/\Z'.B8 c=some cells/\∀ H:List Nat,(∀ q∈H,q<Z.n)->Bj (J0 Z' H) cells T
 | .error (p,e)=>∃ Z',r=⟨false,.agg ⟨[.int .i64 (p:Nat),.int .i64 e]⟩,Z'⟩/\Ext Z Z'
def jO {Z:St}{s:By}{b c:Nat}(L:s.length<=4000) (K:∀ (l:By) (a:Nat),l∈L7 10 s->a<=s.length+1->QQ l a) (F:Z.row b=some [str s]) (I:Z.B8 c=some z20) (G:b<Z.n) (J:c<Z.n) :
  Ev (go Tryz.prog HS (.fn 38) [.func (.func 39) ⟨[]⟩ ⟨[.pointer (some ⟨b,0,none⟩),.pointer (some ⟨c,0,none⟩)]⟩] Z) (CaP Z c (Bo s)) ⟨⟩:=by
 refine(jN (R:=PcP (Z.new [.int .i64 0,.int .i64 0] (some 86)) c (Bo s)) ((XM (b:=b) (c:=c) (s:=s) L K (by rw[CQ om];exact F) (by rw[J1 om];exact I) (by simp;omega)).mono ?_)).mono ?_
 ·intro r i;cases o:Bo s with
  | ok T=>
    rw[o]at i;obtain⟨Z',cells,rfl,d,A,z⟩:=i;have j:=d.n;simp at j;refine⟨by dsimp only;omega,?_,.inl ⟨rfl,rfl⟩,Z',cells,rfl,d,A,z⟩;dsimp only;rw[d.B8 (by simp) om];exact cL
  | error pe=>
    obtain⟨p,e⟩:=pe;rw[o]at i;obtain⟨Z',rfl,d⟩:=i;have j:=d.n;simp at j;refine⟨by dsimp only;omega,?_,.inr ⟨p,e,rfl,rfl⟩,Z',rfl,d⟩;dsimp only;rw[B9 (d.same _ (by simp))];exact cL
 ·rintro r ⟨N,Z',p,e,i,d,rfl,g⟩;have j:=d.n;cases o:Bo s with
  | ok T=>
    rw[o]at i;obtain⟨C,cells,rfl,f,A,z⟩:=i;rcases g with⟨-,-,rfl,rfl⟩|⟨g,-⟩
    rotate_left
    ·cases g
    have m:=f.n;simp at m;dsimp only at j d;refine⟨Z',cells,rfl,⟨om,fun q v y=>?_⟩,?_,fun H E=>?_⟩
    ·rw[d.same q om om,f.same q (by simp;omega) y,N8,z0z om]
    ·rw[d.B8 om om];exact A
    ·refine(z (Z.n::H) fun q u=>?_).OT (K8 j fun q u B=>⟨fun h=>B (Ci _ h),?_⟩)
     ·rcases V9.1 u with rfl|u
      ·simp
      ·have:=E q u;simp;omega
     ·exact d.row u fun e=>B (by rw[e];exact Cw ..)
  | error pe=>
    obtain⟨M,D⟩:=pe;rw[o]at i;obtain⟨C,rfl,f⟩:=i;rcases g with⟨g,-⟩|⟨-,g⟩
    ·cases g
    have m:=f.n;simp at m;dsimp only at j d g;obtain⟨v,y⟩:M=p/\D=e:=by
     unfold fault at g;simp at g;exact⟨om,g.2⟩
    subst v y;refine⟨Z',rfl,⟨om,fun q v=>?_⟩⟩;rw[d.same q om om,f.same q (by simp;omega),N8,z0z om]
noncomputable def Cc (s:By):Except Er Tn:=if 4000<s.length then .error (0,2)else Bo s
def PaP (Z:St) (R:Except Er Tn) (r:CR):Prop:=match R with
 | .ok T=>∃ Z' cells,r=⟨false,.tuple ⟨[.agg ⟨cells⟩,.int .i64 0,.int .i64 0]⟩,Z'⟩/\Ext Z Z'/\∀ H:List Nat,(∀ q∈H,q<Z.n)->Bj (J0 Z' H) cells T
 | .error (p,e)=>∃ Z',r=⟨false,.tuple ⟨[.agg ⟨z20⟩,.int .i64 (p:Nat),.int .i64 e]⟩,Z'⟩/\Ext Z Z'
def Tb {Z:St}{s:By}(I:s.length<=4000->∀ (l:By) (a:Nat),l∈L7 10 s->a<=s.length+1->QQ l a) (G:s.length<=4000->∀ p e,Bo s= .error (p,e)->e≠0) :
  Ev (go Tryz.prog HS (.fn 18) [str s] Z) (PaP Z (Cc s)) ⟨⟩:=by
 refine G1 Tryz.func18 rfl rfl ?_;have z:decide ((4000:Int)<(s.length:Int))=decide (4000<s.length):=by rw[z7z,z3z,z3z];omega
 unfold Cc;cases g:decide (4000<s.length)with
 | true=>
   rw[z1z (z6z g)];refine gS1 (aI z (aI g @Tryz.results18)) ?_;exact⟨_,rfl,eX⟩
 | false=>
   have E:=z9z g;have y:s.length<=4000:=om;rw[z0z E];refine gS1 (aI z g) ?_;refine(jO (b:=Z.n) (c:=Z.n+1+1) y (I y) ?_ ?_ ?_ ?_).mono ?_
   ·exact cL
   ·unfold z20;exact cL
   ·simp;omega
   ·simp
   ·intro r j;cases m:Bo s with
    | ok T=>
      rw[m]at j;obtain⟨Z',cells,rfl,f,C,A⟩:=j;have u:=f.n;simp at u;obtain⟨a0,a1,a2,a3,a4,a5,a6,a7,a8,a9,a10,a11,a12,a13,a14,a15,a16,a17,a18,a19,rfl⟩:=(A [] (by simp)).cells;have v:=C1 C;have d:Z'.B8 (Z.n+1)=some [str [],.slice none 0 0,.slice none 0 0,.slice none 0 0,.int .i64 0,.int .i64 0,str [],.int .i64 0,.int .i64 0,str [],.slice none 0 0,.slice none 0 0,.int .i64 0,.slice none 0 0,.int .i64 0,.int .i64 0,.int .i64 0,.int .i64 0,.int .i64 0,.int .i64 0]:=by
       rw[f.B8 (by simp) om];exact cL
      refine gS1 (aI C (aI v (aI d @Tryz.results18))) ?_;refine⟨_,_,rfl,?_,fun H F=>?_⟩
      ·exact(((G5.ext (Z0:=Z) f (((Ext.new _ _).trans (.new _ _)).trans (.new _ _)) om).Aw _).upd om _).upd om _
      ·refine(A ((Z.n+1)::H) fun q i=>?_).OT (K8 (by simp) fun q i B=>⟨fun h=>B (Ci _ h),?_⟩)
       ·rcases V9.1 i with rfl|i
        ·simp
        ·have:=F q i;simp;omega
       ·rw[I2 fun e=>B (by rw[e];exact Cw ..),I2 om,CQ om]
    | error pe=>
      obtain⟨p,e⟩:=pe;rw[m]at j;obtain⟨Z',rfl,f⟩:=j;have u:=f.n;simp at u;have o:=G y p e m;have d:Z'.B8 (Z.n+1)=some [str [],.slice none 0 0,.slice none 0 0,.slice none 0 0,.int .i64 0,.int .i64 0,str [],.int .i64 0,.int .i64 0,str [],.slice none 0 0,.slice none 0 0,.int .i64 0,.slice none 0 0,.int .i64 0,.int .i64 0,.int .i64 0,.int .i64 0,.int .i64 0,.int .i64 0]:=by
       rw[B9 (f.same _ (by simp))];exact cL
      have D:decide (e=0)=false:=z4z o;refine gS1 (aI d (aI D @Tryz.results18)) ?_;refine T3.intro (by(repeat first|simp(disch:=omega) only[N7,Q9,N1,P0,T5,T6,N5,o6,Bz (Ext.refl _)]|rw[U0 (by kernel_rfl)]);first|done|rfl) ?_;refine gS1 (aI d @Tryz.results18) ?_;exact⟨_,rfl,((((((Ext.new _ _).trans (.new _ _)).trans (.new _ _)).trans f).Aw _).upd om _).upd om _⟩
end Go.Proofs.T
namespace Go.Proofs.T
open Go Go.Ab
def lP:Aj (some T7) (some T7)=true:=kR
def lQ {Z:St}(h:Z.read 1 0 20=some T7):go Tryz.prog HS (.fn 12) [] Z=some ⟨false,.bool true,Z⟩:=by
 have a:go Tryz.prog HS (.fn 12) [] Z=bb (Aj (Z.read 1 0 20) (some T7)) (some ⟨false,.bool true,Z⟩):=rfl;rw[a,h,lP];rfl
end Go.Proofs.T
