/- types: Names. -/
import Derived.Test.YtgjocfjdecjhoaaGreatDoorITZB
import Derived.Test.YtgjocfjdecjhoaaGreatDoorICF
import Derived.Test.YtgjocfjdecjhoaaGreatDoorITW
set_option linter.unusedSimpArgs false
set_option linter.unusedVariables false
set_option linter.defProp false
set_option maxHeartbeats 32000000
set_option maxRecDepth 100000
namespace Go.Proofs.T
open Go Go.Ab Go.N9
section
variable {l L:List By}{es:List Ex}{Z:St}
def dedup (l:List By):List By:=l.foldl (fun out s=>if out.contains s then out else out++[s]) []
def FT {s:By}:dedup (l++[s])=if (dedup l).contains s then dedup l else dedup l++[s]:=by unfold dedup;rw[aX];rfl
def Np {d:Type}{P:List d->Prop}(f:P []) (g:∀ l a,P l->P (l++[a])):∀ l,P l:=by
 intro l;have:∀ n,∀ l:List d,l.length=n->P l:=by
  intro n;induction n with
  |zero=>intro l b;rw[Rb.1 b];exact f
  | succ n ih=>
    intro l b;have c:l≠[]:=fun e=>by rw[e]at b;cases b
    rw[<- AO8 c];exact g _ _ (ih _ (by rw[List.length_dropLast];omega))
 exact this _ l rfl
def mf:∀ s,s∈dedup l↔s∈l:=by
 refine Np (P:=fun l=>∀ s,s∈dedup l↔s∈l) (fun s=>Iff.rfl) ?_ l;intro l a b s;rw[FT];by_cases h:(dedup l).contains a=true
 ·rw[z1z h,b];have c:a∈l:=(b a).1 (by simpa using h);simp only[EM,JB];exact⟨.inl,fun h=>h.elim id fun e=>by rw[e];exact c⟩
 ·rw[z0z h,EM,EM,b]
def Pt:(dedup l).Nodup:=by
 refine Np (P:=fun l=>(dedup l).Nodup) List.nodup_nil ?_ l;intro l a c;rw[FT];by_cases h:(dedup l).contains a=true
 ·rw[z1z h];exact c
 ·rw[z0z h,List.nodup_append];refine⟨c,by simp,fun x d y b e=>?_⟩;rw[JB]at b;subst b;subst e;exact h (by simpa using d)
def Vc:(dedup l).length<=l.length:=by
 refine Np (P:=fun l=>(dedup l).length<=l.length) nL ?_ l;intro l a b;rw[FT];split<;>simp<;>omega
def mg (h:(dedup l).length=l.length):l.Nodup/\dedup l=l:=by
 revert h
 refine Np (P:=fun l=>(dedup l).length=l.length->l.Nodup/\dedup l=l) (fun _=>⟨List.nodup_nil,rfl⟩) ?_ l;intro l a c h;have k:=@Pt (l++[a]);rw[FT]at h k ⊢;by_cases b:(dedup l).contains a=true
 ·rw[z1z b]at h;have:=@Vc l;simp at h;omega
 ·rw[z0z b]at h k ⊢;have e:=(c (by simpa using h)).2;rw[e]at k ⊢;exact⟨k,rfl⟩
def mh:∀ {L:List By},l.Nodup->(∀ s∈l,s∈L)->l.length<=L.length:=by
 induction l with
 |nil=>intro L _ _;exact BH _
 | cons a l ih=>
   intro L b d;rw[List.nodup_cons]at b;have c:a∈L:=d a (by simp);have f:=ih (L:=L.erase a) b.2 fun s h=>(List.mem_erase_of_ne (fun e=>b.1 (by rw[<- e];exact h))).2 (d s (by simp[h]));rw[List.length_erase_of_mem c]at f;have:0<L.length:=List.length_pos_of_mem c;rw[Ap];omega
def KN (L:List By) (e:Ex):Prop:=DC e=true/\∀ s∈S8 e,s∈L
def AB5:∀ {k:Nat}{f:Ex},es[k]? =some f->∀ s∈S8 f,s∈TN es:=by
 induction es with
 |nil=>intro k f h;simp at h
 | cons e es ih=>
   intro k f h s a;rw[Kz,EM];cases k with
   |zero=>cases h;exact .inl a
   |succ k=>exact .inr (ih (by simpa using h) s a)
def AB6 {o nm:By}{n d:Int}{k:Nat}{f:Ex}(h:KN L (.mk o n d nm es)) (b:es[k]? =some f):KN L f:=by
 refine⟨?_,fun s c=>h.2 s ?_⟩
 ·have a:=h.1;rw[AX,R2]at a;have h:=KX b;cases e:DC f with
  |true=>rfl
  | false=>
    rw[e,Ls]at h;rw[JL h]at a;cases a.2
 ·rw[Nq,EM];exact .inl (AB5 b s c)
def tY:∀ {es:List Ex}{xs:List (List By)},VL (fun e=> .ok (S8 e)) es xs->xs.flatten=TN es
 | [],xs,h=>by obtain rfl:xs=[]:=h;rw[Nr];rfl
 | e::es,xs,h=>by
   obtain⟨y,ys,rfl,a,b⟩:=h;cases a;rw[UN,Kz,tY b]
structure NJ (Z S:St) (L:List By) (fr:Fr) (A B:Code) (F:List (Nat×List Value)) (st:List (List By)) (τ:St):Prop where
 ext:Ext Z τ
 n:S.n<τ.n
 lp:K3 τ S.n fr [10] A B .ready none
 out:∃ v,τ.A7 Z.n=some [v]/\GW (S.n+1) τ v (dedup st.flatten)/\∀ q X,(q,X)∈F->P4 v≠some q
 sub:∀ s∈st.flatten,s∈L
 B9:∀ q X,(q,X)∈F->(q=Z.n+1\/S.n<q)/\q<τ.n/\τ.A7 q=some X
def NJ.vi {S:St}{s:Fr}{A B:Code}(C:S.n=Z.n+2):VI Z (NJ Z S L s A B) where
 get h hm:=(h.B9 _ _ hm).2
 push:=fun{F o r m q X} h a D j u=>by
  have k:=h.n;have z:=a.n;obtain⟨v,c,b,d⟩:=h.out;refine⟨h.ext.trans a,om,h.lp.ext om a,⟨v,by rw[a.A7 om];exact c,OL.ext b a,fun p Y hm=>?_⟩,h.sub,fun p Y hm=>?_⟩
  ·rcases W1.1 hm with e|hm
   ·cases e;intro y;have:=(OL.blk b y).2;omega
   ·exact d p Y hm
  ·rcases W1.1 hm with e|hm
   ·cases e;exact⟨.inr om,j,u⟩
   ·obtain⟨f,g,i⟩:=h.B9 p Y hm;exact⟨f,om,by rw[a.A7 g];exact i⟩
 ext:=fun{F o r m} h a=>by
  have k:=h.n;have z:=a.n;obtain⟨v,c,b,d⟩:=h.out;refine⟨h.ext.trans a,om,h.lp.ext om a,⟨v,by rw[a.A7 om];exact c,OL.ext b a,d⟩,h.sub,fun p Y hm=>?_⟩;obtain⟨f,g,i⟩:=h.B9 p Y hm;exact⟨f,om,by rw[a.A7 g];exact i⟩
 drop:=fun{F x o r} h=>by
  obtain⟨v,c,b,d⟩:=h.out;exact⟨h.ext,h.n,h.lp,⟨v,c,b,fun p Y hm=>d p Y (De _ hm)⟩,h.sub,fun p Y hm=>h.B9 p Y (De _ hm)⟩
 B8 h:=FG.qO h.ext
def NJ.close {Z S:St}{L:List By}{g:Fr}{A B:Code}{F:List (Nat×List Value)}{I a:List (List By)}{e Y9:St}{u v':Value}(d:NJ Z S L g A B F I e) (M:S.n=Z.n+2) (E:e.A7 Z.n=some [u]) (J:e.n<=Y9.n)
  (m:∀ c,c≠S.n->c≠Z.n->c<e.n->P4 u≠some c->Y9.h.get c=e.h.get c) (D:K3 Y9 S.n g [10] A B .ready none) (G:Y9.A7 Z.n=some [v']) (C:GW (S.n+1) Y9 v' (dedup a.flatten)) (i:∀ b,P4 v'=some b->P4 u=some b\/e.n<=b) (r:∀ s∈a.flatten,s∈L):NJ Z S L g A B F a Y9:=by
 obtain⟨u',o,H,p⟩:=d.out;rw[E]at o;obtain rfl:u=u':=by injection o with h;injection h
 have k:=d.n;have K:=d.ext.n;have low:∀ c,c<S.n->P4 u≠some c:=fun c j i=>by have:=(OL.blk H i).1;omega
 refine⟨⟨om,fun c j=>by rw[m c om om om (low c om),d.ext.same c j]⟩,om,D,⟨v',G,C,fun q X f h=>?_⟩,r,fun q X f=>?_⟩
 ·rcases i q h with h|h
  ·exact p q X f h
  ·have:=(d.B9 q X f).2.1;omega
 ·obtain⟨v,y,z⟩:=d.B9 q X f;exact⟨v,om,by rw[F7 (m q om om y (p q X f))];exact z⟩
def Vd {a:Type}{l:List (List a)}{x:List a}:(l++[x]).flatten=l.flatten++x:=sI
def ar {w:Nat}{e:Ex}{row:List Value}(hw:WfE w e) (b1:w<=4) (he:P8 Z row e) (hp:Z.read 0 0 20=some AO) (C:0<Z.n) (a8:(S8 e).length<=1000):
  Ev (gO 15 [.agg ⟨row⟩] Z) (fun r=>∃ v Z',r=⟨false,v,Z'⟩/\Ext Z Z'/\GW Z.n Z' v (if AF e=true then dedup (S8 e)else[])) ⟨⟩:=by
 have a3:=he.len;have W:sub row 0 5=some row:=C9 om om;refine C8 Tryz.func15 rfl rfl ?_;refine gS1 W ?_;have E1:Ext Z (Z.new row):=eX;refine(Ve hw b1 (he.mono E1) (CB E1 C hp) (by simp)).mono ?_;rintro r ⟨g,rfl,U⟩;have k2:=U.n;simp only[G3]at k2;have E2:=E1.trans U;have w2:g.row Z.n=some row:=eT (U.row (cL)) cL;cases hr:AF e with
 | false=>
   refine gS1 @Tryz.results15 ?_;exact⟨_,_,rfl,E2,by rw[z0z (by decide)];exact OL.nil⟩
 |true=>
 obtain⟨b0,b6⟩:=au hr;refine gS1 (aI w2 W) ?_;refine(aw a3).mono ?_;rintro r rfl;refine gS1 W ?_;refine jW ?_;generalize N:Code.region 5 _ _=A;generalize hB:Code.block 1 _=B;intro j S Xk hS;have f3:j.get 3=some (DB g.n):=by rw[Xk];exact fR
 have f9:ev j (.tmp 9)=some (.func (.func 100) ⟨[]⟩ ⟨[DB (g.n+1)]⟩):=by rw[Xk];rfl
 have nS:S.n=g.n+2:=by rw[hS];rfl
 have ES:Ext g S:=by rw[hS];exact eX
 have J0:NJ g S (S8 e) j A B [(g.n+1,row)] [] (S.Dt [] (.loop j [10] A B .ready none)):=by
  have EN:Ext S (S.Dt [] (.loop j [10] A B .ready none)):=Ext.Dt (.refl S) _ _;refine⟨ES.trans EN,by show S.n<S.n+1;omega,K3.new,⟨.slice none 0 0,?_,OL.nil,fun q X _ f=>by cases f⟩,fun s y=>(by cases y),fun q X hm=>?_⟩
  ·rw[EN.A7 om,hS];exact cL
  ·simp only[W1,EP,EK]at hm;cases hm;exact⟨.inl rfl,by show g.n+1<S.n+1;omega,by rw[EN.A7 om,hS];exact cL⟩
 have tZ:jX g (KN (S8 e)) (fun e=> .ok (S8 e)) (NJ g S (S8 e) j A B) (fun _ _=>False) S.n:=by
  intro F o J op n d nm args b5 xs hK hx a6 b7 m;obtain⟨v,B9,rfl,C,-,h2⟩:=id hx;obtain⟨a,c,B0,off,cells,rfl,-,-⟩:=Cn.slice C h2;obtain⟨R,hR⟩:∃ R:List Value,[str op,.int .i64 n,.int .i64 d,str nm,.slice a args.length c]=R:=⟨_,rfl⟩
  have I:sub R 0 1=some [str op]:=by rw[<- hR];rfl
  have V:sub R 3 1=some [str nm]:=by rw[<- hR];rfl
  have k1:=m.n;have kx:=m.ext.n;obtain⟨u,s1,s2,s3⟩:=m.out;have a1:(o++xs).flatten=o.flatten++TN args:=by rw[List.flatten_append,tY a6]
  have G:(o++[S8 (.mk op n d nm args)]).flatten=(o++xs).flatten++if op=nmB then[nm]else[]:=by rw[Vd,Nq,a1,OU]
  have a2:∀ s∈(o++[S8 (.mk op n d nm args)]).flatten,s∈S8 e:=by
   intro s y;rw[Vd,EM]at y;rcases y with y|y
   ·exact m.sub s (by rw[a1,EM];exact .inl y)
   ·exact hK.2 s y
  have b8:(dedup (o++xs).flatten).length<=1000:=j9 (mh Pt fun s y=>m.sub s (mf s |>.1 y)) a8;rw[hR];refine tf m.lp rfl ?_;rw[<- N,<- hR];refine gS ?_;rw[N,hR];have EA:Ext J ((J.new [str [],.int .i64 0,.int .i64 0,str [],.slice none 0 0] (some 32)).upd J.n R):=eX;refine⟨_,_,j,[10],A,B,none,rfl,m.lp.ext k1 EA,?_⟩;obtain⟨H,D⟩:=nW ((((J.new [str [],.int .i64 0,.int .i64 0,str [],.slice none 0 0] (some 32)).upd J.n R).IJ S.n j [10] A B .busy none));have n2:H.n=J.n+1:=by rw[<- D];rfl
  have g2:∀ c,c≠S.n->c<J.n->H.h.get c=J.h.get c:=fun c E hl=>by rw[<- D,AV,z0z E,EA.same c hl]
  have r2:H.row J.n=some R:=by rw[<- D,KY om];exact cL
  have L2:K3 H S.n j [10] A B .busy none:=by rw[<- D];exact K3.upd
  have o3:H.A7 g.n=some [u]:=by rw[F7 (g2 _ om om)];exact s1
  have i:GW (S.n+1) H u (dedup (o++xs).flatten):=OL.I2 s2 om fun c f=>g2 c (by have:=(OL.blk s2 f).1;omega) (OL.blk s2 f).2;rw[D];generalize hQ:ax S.n _=QF;have fin:∀ z p,QF ⟨.normal,z,p⟩=ax S.n (VP (fun e=> .ok (S8 e)) (NJ g S (S8 e) j A B) (fun _ _=>False) F o (.mk op n d nm args)) ⟨.normal,z,p⟩:=fun _ _=>by rw[<- hQ]
  clear hQ;rw[<- hB];have a0:=A9 o3;have O:dedup (o++[S8 (.mk op n d nm args)]).flatten=dedup (o++xs).flatten->∀ z,ax S.n (VP (fun e=> .ok (S8 e)) (NJ g S (S8 e) j A B) (fun _ _=>False) F o (.mk op n d nm args)) ⟨.normal,z,H⟩:=by
   intro a7 z;refine⟨j,[10],A,B,.busy,none,L2,_,.inl ⟨_,rfl,rfl,?_⟩⟩;refine m.close nS s1 (by simp;omega) (fun c C h2 h3 h4=>by rw[AV,z0z C,g2 c C h3]) K3.upd (v':=u) (by rw[Am om];exact o3) ?_ (fun b f=> .inl f) a2;rw[a7];exact OL.I2 i (by simp) fun c f=>by rw[AV,z0z (by have:=(OL.blk i f).1;omega)]
  cases c0:decide (op=[110,97,109,101])with
  | false=>
    have a4:op≠nmB:=z9z c0;refine gS1 (aI f3 (aI r2 (aI I c0))) ?_;rw[fin];exact O (by rw[G,z0z a4,Du]) _
  | true=>
    have a9:op=nmB:=z6z c0;rw[z1z a9]at G;obtain⟨ua,uc,hu⟩:=i.strs.shape;refine gS1 (aI f3 (aI r2 (aI I (aI V (aI c0 a0))))) ?_;refine(Oc i.strs om).mono ?_;rintro r rfl;cases E:(dedup (o++xs).flatten).contains nm with
    | true=>
      refine gS1 (aI f3 (aI r2 (aI I (aI V (aI c0 (aI a0 E)))))) ?_;rw[fin];exact O (by rw[G,FT,z1z E]) _
    | false=>
      refine gU1 (aI @A6 (aI @Av (aI @W8 (aI @Y8 (aI @X9 (aI @V7 (aI @V8 (aI @V9 (aI @W0 (aI @L7 (aI @I4 (aI @J5 (aI @J3 (aI @I5 (aI @I6 (aI f3 (aI r2 (aI I (aI V (aI c0 (aI a0 E))))))))))))))))))))) ?_;refine th (fun _ _ _ _=>Y0) i (.refl _) om om ?_;intro v' p gs N a4;have kA:=N.n;obtain⟨va,vc,Y⟩:=gs.strs.shape;have ub:∀ c,P4 u=some c->S.n+1<=c:=fun c f=>(OL.blk i f).1;have b2:p.A7 g.n=some [u]:=by rw[F7 (N.same _ om fun f=>by have:=ub _ f;omega)];exact o3
      generalize (dedup (o++xs).flatten++[nm]).length=M at Y;rw[Y];refine gU1 (aI @A6 (aI @Av (aI @W8 (aI @Y8 (aI @X9 (aI @V7 (aI @V8 (aI @V9 (aI @W0 (aI @L7 (aI @I4 (aI @J5 (aI @J3 (aI @I5 (aI @I6 (aI f3 b2)))))))))))))))) ?_;rw[<- Y];rw[fin];obtain⟨Y9,hZ⟩:=nW (p.upd g.n [v']);have nZ:Y9.n=p.n:=by rw[<- hZ];rfl
      have vZ:Y9.A7 g.n=some [v']:=by rw[<- hZ];exact cL
      have gZ:∀ c,c≠g.n->c<H.n->P4 u≠some c->Y9.h.get c=H.h.get c:=fun c C h2 h3=>by
       rw[<- hZ,Aa,z0z C,N.same c h2 h3]
      have LZ:K3 Y9 S.n j [10] A B .busy none:=L2.Gv (gZ _ om om fun f=>by have:=ub _ f;omega);rw[hZ];refine⟨j,[10],A,B,.busy,none,LZ,_,.inl ⟨_,rfl,rfl,?_⟩⟩;refine m.close nS s1 (by simp;omega) (fun c C h2 h3 h4=>by rw[AV,z0z C,gZ c h2 om h4,g2 c C h3]) K3.upd (v':=v') (by rw[Am om];exact vZ) ?_ ?_ a2
      ·rw[G,FT,z0z (by rw[E];decide)]
       exact OL.I2 gs (by simp;omega) fun c f=>by
        have:=(N.new c f).1;rw[AV,z0z om,<- hZ,Aa,z0z om]
      ·intro c f;exact .inr (by have:=(N.new c f).1;omega)
 refine ay f9 kR ?_;have a5:KN (S8 e) e:=⟨b0.1,fun s y=>y⟩
 refine(Vf (K:=KN (S8 e)) (val:=fun e=> .ok (S8 e)) (NJ.vi nS) (fun h=>h.1) (fun h hf=>AB6 h hf) tZ (fun _ h=>by cases h) a5 (he.mono E2) (by simpa using (show AR e<=1000 by omega)) J0 HV).mono ?_;rintro r ⟨v,Z3,rfl,⟨x,hx,m⟩|⟨k,hk,hD⟩⟩
 case inr=>exact hD.elim
 have k3:=m.n;cases hx;refine⟨v,Z3,j,[10],A,B,_,_,_,rfl,m.lp,rfl,rfl,?_⟩;obtain⟨u,s1,s2,-⟩:=m.out;have hE:=m.ext;obtain⟨S5,hS5⟩:=nW (Z3.IJ S.n j [10] A B .exhausted none);have hg:∀ c,c≠S.n->S5.h.get c=Z3.h.get c:=fun c E=>by rw[<- hS5,AV,z0z E]
 have n5:S5.n=Z3.n:=by rw[<- hS5];rfl
 have E5:Ext g S5:=⟨by have:=hE.n;omega,fun c E=>by rw[hg c om,hE.same c E]⟩
 have b3:S5.A7 g.n=some [u]:=by rw[F7 (hg _ om)];exact s1
 have i:GW (S.n+1) S5 u (dedup (S8 e)):=by
  have:dedup ([]++[S8 e]:List (List By)).flatten=dedup (S8 e):=sI;rw[<- this];exact OL.I2 s2 om fun c f=>hg c (by have:=(OL.blk s2 f).1;omega)
 have b4:=A9 b3;obtain⟨ua,uc,hu⟩:=i.strs.shape;rw[hS5];refine gS1 (aI f3 (aI b4 @Tryz.results15)) ?_;exact⟨_,_,rfl,E2.trans E5,by exact GW.lower i om⟩
end
def kL {Z:St}(h:Z.read 0 0 20=some AO):go Tryz.prog HS (.fn 8) [] Z=some ⟨false,.bool true,Z⟩:=by
 have a:go Tryz.prog HS (.fn 8) [] Z=bb (Cy (Z.read 0 0 20) (some AO)) (some ⟨false,.bool true,Z⟩):=rfl;rw[a,h,VM];rfl
def PL {P:Program}{H:EV}{f:Tgt}{b:List Value}{Z:St}{Q:CR->Prop}{a:Hd Q}(h:∀ S,S=Z->Ev (go P H f b S) Q a):Ev (go P H f b Z) Q a:=h Z rfl
def GOk.bd {T:Tn}(h:GOk T):BdT T :=
 ⟨h.ok.low,h.ok.high,fun c a=>⟨(h.ok.Dn c a).2.2.1,(h.ok.Dn c a).2.2.2⟩⟩
def twenty {l:List Value}(h:l.length=20):∃ a b c d e f g h i j k m n o p q r s t u,l=[a,b,c,d,e,f,g,h,i,j,k,m,n,o,p,q,r,s,t,u]:=by
 match l,h with
 | [a,b,c,d,e,f,g,h,i,j,k,m,n,o,p,q,r,s,t,u],_=>exact⟨a,b,c,d,e,f,g,h,i,j,k,m,n,o,p,q,r,s,t,u,rfl⟩
def wL {a b:Q}(h:leQ a b):decide (0<AJ a b)=false:=z4z fun c=>YO.1 c h
end Go.Proofs.T
