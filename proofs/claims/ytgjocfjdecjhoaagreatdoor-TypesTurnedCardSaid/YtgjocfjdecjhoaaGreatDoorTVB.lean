/- types: the fold of GV. -/
import Derived.Test.YtgjocfjdecjhoaaGreatDoorTVA
set_option linter.unusedSimpArgs false
set_option linter.unusedVariables false
set_option linter.defProp false
set_option maxHeartbeats 32000000
set_option maxRecDepth 100000
namespace Go.Proofs.T
open Go Go.Ab Go.V6
open Nat (reduceMul reduceEqDiff reduceAdd)
structure FJ4 (Z S:St) (fr:Fr) (A B:Code) (vl vn:Value) (F:List (Nat×List Value)) (st:List QQ) (τ:St):Prop where
 ext:Ext Z τ
 n:S.n<τ.n
 lp:J4 τ S.n fr [16] A B .ready none
 o1:τ.A7 (Z.n+1)=some [vl]
 o2:τ.A7 (Z.n+2)=some [vn]
 o3:τ.A7 (Z.n+3)=some j9
 o4:τ.A7 (Z.n+4)=some [.int .i64 0]
 stk:∃ v,τ.A7 (Z.n+5)=some [v]/\GS4 (S.n+1) τ v (st.map O8)/\∀ q X,(q,X)∈F->N0 v≠some q
 B9:∀ q X,(q,X)∈F->(q=Z.n+6\/S.n<q)/\q<τ.n/\τ.A7 q=some X
theorem FJ4.vi {Z S:St}{fr:Fr}{A B:Code}{vl vn:Value}(hn:S.n=Z.n+7):VI Z (FJ4 Z S fr A B vl vn) where
 get h hm:=(h.B9 _ _ hm).2
 push:=fun{F st τ τ' q X} h hE hq hq' hX=>by
  have k:=h.n;have k':=hE.n;obtain⟨v,s1,s2,s3⟩:=h.stk;refine⟨h.ext.trans hE,om,h.lp.ext om hE,by rw[hE.A7 om];exact h.o1,by rw[hE.A7 om];exact h.o2,by rw[hE.A7 om];exact h.o3,by rw[hE.A7 om];exact h.o4,⟨v,by rw[hE.A7 om];exact s1,s2.ext hE,fun p Y hm=>?_⟩,fun p Y hm=>?_⟩
  ·rcases List.mem_cons.1 hm with e|hm
   ·cases e;intro hb;have:=(s2.blk hb).2;omega
   ·exact s3 p Y hm
  ·rcases List.mem_cons.1 hm with e|hm
   ·cases e;exact⟨.inr om,hq',hX⟩
   ·obtain⟨a1,a2,a3⟩:=h.B9 p Y hm;exact⟨a1,om,by rw[hE.A7 a2];exact a3⟩
 ext:=fun{F st τ τ'} h hE=>by
  have k:=h.n;have k':=hE.n;obtain⟨v,s1,s2,s3⟩:=h.stk;refine⟨h.ext.trans hE,om,h.lp.ext om hE,by rw[hE.A7 om];exact h.o1,by rw[hE.A7 om];exact h.o2,by rw[hE.A7 om];exact h.o3,by rw[hE.A7 om];exact h.o4,⟨v,by rw[hE.A7 om];exact s1,s2.ext hE,s3⟩,fun p Y hm=>?_⟩;obtain⟨a1,a2,a3⟩:=h.B9 p Y hm;exact⟨a1,om,by rw[hE.A7 a2];exact a3⟩
 drop:=fun{F x st τ} h=>by
  obtain⟨v,s1,s2,s3⟩:=h.stk;exact⟨h.ext,h.n,h.lp,h.o1,h.o2,h.o3,h.o4,⟨v,s1,s2,fun p Y hm=>s3 p Y (List.mem_cons_of_mem _ hm)⟩,fun p Y hm=>h.B9 p Y (List.mem_cons_of_mem _ hm)⟩
 B8 h:=Dr.nj h.ext
structure FD4 (Z S:St) (fr:Fr) (A B:Code) (k:Int) (τ:St):Prop where
 ext:Ext Z τ
 n:S.n<τ.n
 lp:J4 τ S.n fr [16] A B .done (some .ret)
 o3:τ.A7 (Z.n+3)=some j9
 o4:τ.A7 (Z.n+4)=some [.int .i64 k]
theorem FJ4.close {Z S:St}{fr:Fr}{A B:Code}{vl vn:Value}{F:List (Nat×List Value)}{st st':List QQ}{τ Y9:St}{u v':Value}(hJ:FJ4 Z S fr A B vl vn F st τ) (nS:S.n=Z.n+7) (hu:τ.A7 (Z.n+5)=some [u]) (hn:τ.n<=Y9.n)
  (hg:∀ c,c≠S.n->c≠Z.n+5->c<τ.n->N0 u≠some c->Y9.h.get c=τ.h.get c) (hL:J4 Y9 S.n fr [16] A B .ready none) (hv:Y9.A7 (Z.n+5)=some [v']) (gs:GS4 (S.n+1) Y9 v' (st'.map O8)) (hb:∀ b,N0 v'=some b->N0 u=some b\/τ.n<=b):FJ4 Z S fr A B vl vn F st' Y9:=by
 obtain⟨u',s1,s2,s3⟩:=hJ.stk;rw[hu]at s1;obtain rfl:u=u':=by injection s1 with h;injection h
 have k:=hJ.n;have k2:=hJ.ext.n;have low:∀ c,c<S.n->N0 u≠some c:=fun c hc hb=>by have:=(s2.blk hb).1;omega
 refine⟨⟨om,fun c hc=>by rw[hg c om om om (low c om),hJ.ext.same c hc]⟩,om,hL,?_,?_,?_,?_,⟨v',hv,gs,fun q X hm h=>?_⟩,fun q X hm=>?_⟩
 ·rw[D6 (hg _ om om om (low _ om))];exact hJ.o1
 ·rw[D6 (hg _ om om om (low _ om))];exact hJ.o2
 ·rw[D6 (hg _ om om om (low _ om))];exact hJ.o3
 ·rw[D6 (hg _ om om om (low _ om))];exact hJ.o4
 ·rcases hb q h with h|h
  ·exact s3 q X hm h
  ·have:=(hJ.B9 q X hm).2.1;omega
 ·obtain⟨a1,a2,a3⟩:=hJ.B9 q X hm;exact⟨a1,om,by rw[D6 (hg q om om a2 (s3 q X hm))];exact a3⟩
theorem AA7 {P:Program}{H:Dq}{rd:Option Nat}{c:Code}{fr:Fr}{Z:St}{Q:Res->Prop}{uq:Hd Q}(h:∀ fr' Z',fr'=fr->Z'=Z->Ev (lim P H rd c fr' Z') Q uq):Ev (lim P H rd c fr Z) Q uq:=h fr Z rfl rfl
structure FF4 (Z:St) (val:Ex->Except Int QQ) (g h:Nat) (cs cs':List Value):Prop where
 leaf:∀ {τ:St}{op nm:By}{n d:Int}{a:Option Addr}{c:Nat},Ext Z τ->SG (.mk op n d nm [])->Ev (go Tryz.prog HS (.fn g) ([.agg ⟨[str op,.int .i64 n,.int .i64 d,str nm,.slice a 0 c]⟩]++cs) τ) (fun r=>∃ τ',r=⟨false,Ad (val (.mk op n d nm [])),τ'⟩/\Ext τ τ') ⟨⟩
 node:∀ {τ:St}{op:By}{a b:Ex}{x y:QQ},Ext Z τ->OpB op->SG (.mk op 0 0 [] [a,b])->val a= .ok x->val b= .ok y->Ev (go Tryz.prog HS (.fn h) ([str op,.agg ⟨O8 x⟩,.agg ⟨O8 y⟩]++cs') τ) (fun r=>∃ τ',r=⟨false,Ad (val (.mk op 0 0 [] [a,b])),τ'⟩/\Ext τ τ') ⟨⟩
 err:SN val
 nz:∀ {e:Ex}{k:Int},SG e->val e= .error k->k≠0
theorem uT {Z:St}{row:List Value}{e:Ex}{g h:Nat}{cs cs':List Value}{val:Ex->Except Int QQ}(hF:FF4 Z val g h cs cs') (hw:SG e) (hd:AB e<=1000) (he:P6 Z row e):Ev (go Tryz.prog HS (.fn 37) [.agg ⟨row⟩,.func (.func g) ⟨[]⟩ ⟨cs⟩,.func (.func h) ⟨[]⟩ ⟨cs'⟩] Z) (fun r=>∃ Z',r=⟨false,Ad (val e),Z'⟩/\Ext Z Z') ⟨⟩:=by
 have hlen:=he.len;have hfr:sub row 0 5=some row:=C8 om om;refine C9 Tryz.func37 rfl rfl ?_;refine gS1 @hfr ?_;refine(aM hlen).mono ?_;rintro r rfl;refine gS1 @hfr ?_;refine AA7 ?_;generalize hA:Code.region 3 _ _=A;generalize hB:Code.block 1 _=B;intro fr S OI hS;have f4:fr.get 4=some (Bf (Z.n+1)):=by rw[OI];exact fR
 have f5:fr.get 5=some (Bf (Z.n+2)):=by rw[OI];exact fR
 have f6:fr.get 6=some (Bf (Z.n+3)):=by rw[OI];exact fR
 have f7:fr.get 7=some (Bf (Z.n+4)):=by rw[OI];exact fR
 have f8:fr.get 8=some (Bf (Z.n+5)):=by rw[OI];exact fR
 have f15:ev fr (.tmp 15)=some (.func (.func 100) ⟨[]⟩ ⟨[Bf (Z.n+6)]⟩):=by rw[OI];rfl
 have nS:S.n=Z.n+7:=by rw[hS];rfl
 have ES:Ext Z S:=by rw[hS];exact eX
 obtain⟨vl,hvl⟩:∃ v:Value,.func (.func g) ⟨[]⟩ ⟨cs⟩=v:=⟨_,rfl⟩
 obtain⟨vn,hvn⟩:∃ v:Value,.func (.func h) ⟨[]⟩ ⟨cs'⟩=v:=⟨_,rfl⟩
 have J0:FJ4 Z S fr A B vl vn [(Z.n+6,row)] [] (S.Dd [] (.loop fr [16] A B .ready none)):=by
  have EN:Ext S (S.Dd [] (.loop fr [16] A B .ready none)):=Ext.Dd (.refl S) _ _;refine⟨ES.trans EN,by show S.n<S.n+1;omega,J4.new,?_,?_,?_,?_,⟨.slice none 0 0,?_,GS4.nil,fun q X _ hb=>by cases hb⟩,fun q X hm=>?_⟩
  ·rw[EN.A7 om,hS,<- hvl];exact cL
  ·rw[EN.A7 om,hS,<- hvn];exact cL
  ·rw[EN.A7 om,hS];unfold j9;exact cL
  ·rw[EN.A7 om,hS];exact cL
  ·rw[EN.A7 om,hS];exact cL
  ·simp only[List.mem_cons,List.not_mem_nil,or_false]at hm;cases hm;exact⟨.inl rfl,by show Z.n+6<S.n+1;omega,by rw[EN.A7 om,hS];exact cL⟩
 have tW:eZ Z val (FJ4 Z S fr A B vl vn) (FD4 Z S fr A B) S.n:=by
  intro F st τ op n d nm args row xs hSG hx hVL hln hJ;obtain⟨v,B9,rfl,h1,-,h2⟩:=id hx;obtain⟨a,c,B0,off,cells,rfl,-,-⟩:=Cb.slice h1 h2;obtain⟨R,hR⟩:∃ R:List Value,[str op,.int .i64 n,.int .i64 d,str nm,.slice a args.length c]=R:=⟨_,rfl⟩
  have hRs:sub R 0 5=some R:=by rw[<- hR];rfl
  have hR3:sub R 4 1=some [.slice a args.length c]:=by rw[<- hR];rfl
  have hR0:sub R 0 1=some [str op]:=by rw[<- hR];rfl
  have k1:=hJ.n;obtain⟨u,s1,s2,s3⟩:=hJ.stk;rw[hR];refine tX hJ.lp rfl ?_;rw[<- hA,<- hR];refine gS ?_;rw[hA,hR];have EA:Ext τ ((τ.new [str [],.int .i64 0,.int .i64 0,str [],.slice none 0 0] (some 32)).upd τ.n R):=eX;refine⟨_,_,fr,[16],A,B,none,rfl,hJ.lp.ext k1 EA,?_⟩;obtain⟨S2,hS2⟩:∃ S2,(((τ.new [str [],.int .i64 0,.int .i64 0,str [],.slice none 0 0] (some 32)).upd τ.n R).GS S.n fr [16] A B .busy none)=S2:=⟨_,rfl⟩
  have n2:S2.n=τ.n+1:=by rw[<- hS2];rfl
  have g2:∀ c,c≠S.n->c<τ.n->S2.h.get c=τ.h.get c:=fun c hc hl=>by rw[<- hS2,AA,if_neg hc,EA.same c hl]
  have r2:S2.row τ.n=some R:=by rw[<- hS2,Js om];exact cL
  have L2:J4 S2 S.n fr [16] A B .busy none:=by rw[<- hS2];exact J4.upd
  have E2:Ext Z S2:=⟨by have:=hJ.ext.n;omega,fun c hc=>by rw[g2 c om om,hJ.ext.same c hc]⟩
  have o1:S2.row (Z.n+1)=some [vl]:=by rw[AR (g2 _ om om)];exact A9 hJ.o1
  have o2:S2.row (Z.n+2)=some [vn]:=by rw[AR (g2 _ om om)];exact A9 hJ.o2
  have o3:S2.A7 (Z.n+3)=some j9:=by rw[D6 (g2 _ om om)];exact hJ.o3
  have o4:S2.A7 (Z.n+4)=some [.int .i64 0]:=by rw[D6 (g2 _ om om)];exact hJ.o4
  have o5:S2.A7 (Z.n+5)=some [u]:=by rw[D6 (g2 _ om om)];exact s1
  have s2':GS4 (S.n+1) S2 u ((st++xs).map O8):=s2.H4 om fun c hb=>g2 c (by have:=(s2.blk hb).1;omega) (s2.blk hb).2;rw[hS2];generalize hQ:aN S.n _=QF;have fin:∀ fr' τ',QF ⟨.normal,fr',τ'⟩=aN S.n (VP val (FJ4 Z S fr A B vl vn) (FD4 Z S fr A B) F st (.mk op n d nm args)) ⟨.normal,fr',τ'⟩:=fun _ _=>by rw[<- hQ]
  have tY:∀ fr' τ',QF ⟨.ret,fr',τ'⟩=aN S.n (VP val (FJ4 Z S fr A B vl vn) (FD4 Z S fr A B) F st (.mk op n d nm args)) ⟨.ret,fr',τ'⟩:=fun _ _=>by rw[<- hQ]
  clear hQ;rw[<- hB];obtain⟨ua,uc,hu,huc⟩:=s2'.shape;obtain⟨N,hN⟩:∃ N,((st++xs).map O8).length=N:=⟨_,rfl⟩
  have hN1:N=st.length+xs.length:=by rw[<- hN,List.length_map,List.length_append]
  rw[hN]at hu;have o5r:=A9 o5;rw[<- hvl]at o1;rw[<- hvn]at o2;have tZ:=hSG.1;rw[AP,Bool.and_eq_true]at tZ;rcases(show args=[]\/(OpB op/\n=0/\d=0/\nm=[]/\∃ x y,args=[x,y]) by
   rcases Gw tZ.1 with h|h|⟨h,q1,q2,q3,q4⟩
   ·exact .inl (List.length_eq_zero_iff.1 h.2.2.2.2.2.2.2)
   ·exact .inl (List.length_eq_zero_iff.1 h.2.2.2.2)
   ·match args,q4 with
    | [x,y],_=>exact .inr ⟨h,q1,q2,q3,x,y,rfl⟩)with rfl|⟨hop,rfl,rfl,rfl,x,y,rfl⟩
  ·obtain rfl:xs=[]:=hVL;rw[hu]at o5 o5r;have c0:decide (((0:Nat):Int)=0)=true:=rfl;refine gS1 (a11N @f4 @f5 @f6 @f7 @f8 @r2 @hRs @hR3 @o1 @o5r @c0) ?_;have EL:Ext Z (S2.new [.int .i64 0,.int .i64 0,.int .i64 0,.int .i64 0] (some 88)):=E2.W6 _;have ELL:Ext S2 (S2.new [.int .i64 0,.int .i64 0,.int .i64 0,.int .i64 0] (some 88)):=(Ext.refl S2).W6 _;rw[<- hR];refine(hF.leaf EL hSG).mono ?_;rw[hR];rintro r ⟨Z3,rfl,hE3⟩;have E3:=EL.trans hE3;have E23:=ELL.trans hE3;have n3:=hE3.n;simp only[F6]at n3;have p3:Z3.A7 (Z.n+3)=some [.int .i64 0,.int .i64 0,.int .i64 0,.int .i64 0]:=by rw[E23.A7 om];exact o3
   have p4:Z3.A7 (Z.n+4)=some [.int .i64 0]:=by rw[E23.A7 om];exact o4
   have p5:Z3.A7 (Z.n+5)=some [.slice ua N uc]:=by rw[E23.A7 om];exact o5
   have pz:Z3.A7 S2.n=some [.int .i64 0,.int .i64 0,.int .i64 0,.int .i64 0]:=by rw[hE3.A7 (by simp)];exact cL
   have L3:=L2.ext om E23;have s3':=s2'.ext E23;cases hv:val (.mk op n d nm [])with
   | error k=>
     have ck:decide (k=0)=false:=decide_eq_false (hF.nz hSG hv);unfold Ad j9;refine gS1 (a9N @f4 @f5 @f6 @f7 @f8 @ck @p3 @p4 @pz) ?_;rw[tY];obtain⟨Y9,hZ⟩:∃ Y9,((((Z3.upd S2.n [.int .i64 0,.int .i64 0,.int .i64 0,.int .i64 0]).new [.int .i64 0,.int .i64 0,.int .i64 0,.int .i64 0] (some 88)).upd (Z.n+3) [.int .i64 0,.int .i64 0,.int .i64 0,.int .i64 0]).upd (Z.n+4) [.int .i64 k])=Y9:=⟨_,rfl⟩
     have E3Z:Ext Z Y9:=by rw[<- hZ];exact((((E3.upd om _).W6 _).upd om _).upd om _)
     have nZ:Y9.n=Z3.n+1:=by rw[<- hZ];rfl
     have z3:Y9.A7 (Z.n+3)=some j9:=by rw[<- hZ];unfold j9;exact cL
     have z4:Y9.A7 (Z.n+4)=some [.int .i64 k]:=by rw[<- hZ];exact cL
     have LZ:J4 Y9 S.n fr [16] A B .busy none:=by rw[<- hZ];exact(((L3.EW om).Wr (by simp;omega)).EW om).EW om
     rw[hZ];refine⟨fr,[16],A,B,.busy,none,LZ,?_⟩;exact⟨_,.inr ⟨k,hv,rfl,E3Z.GS om,by simp;omega,J4.upd,by rw[S7 om];exact z3,by rw[S7 om];exact z4⟩⟩
   | ok x=>
     unfold Ad O8;have cz:decide ((0:Int)=0)=true:=rfl;have p5r:=A9 p5;refine gU1 (a25N @A6 @Ag @W4 @Y0 @W8 @U5 @W5 @U6 @U7 @U8 @K3 @H9 @J3 @I6 @I0 @f4 @f5 @f6 @f7 @f8 @p3 @p4 @p5r @pz @cz) ?_;obtain⟨S4,hS4⟩:∃ Y9,((Z3.upd S2.n [.int .i64 x.1.n,.int .i64 x.1.d,.int .i64 x.2.n,.int .i64 x.2.d]).new [.int .i64 x.1.n,.int .i64 x.1.d,.int .i64 x.2.n,.int .i64 x.2.d])=Y9:=⟨_,rfl⟩
     have E24:Ext S2 S4:=by rw[<- hS4];exact(E23.upd (Nat.le_refl _) _).W6 _
     have n4:S4.n=Z3.n+1:=by rw[<- hS4];rfl
     have x4:S4.row Z3.n=some [.int .i64 x.1.n,.int .i64 x.1.d,.int .i64 x.2.n,.int .i64 x.2.d]:=by rw[<- hS4];exact cL
     have s4:=s2'.ext E24;rw[hS4];rw[hu]at s4;refine Zq (row:=O8 x) (fun _ _ _ _=>I5) s4 x4 (C8 (by simp[O8]) (by simp)) rfl (by rw[hN];omega) om ?_;intro v' τ' gs psh;obtain⟨a',c',hv',-⟩:=gs.shape;generalize ((st++[]).map O8++[O8 x]).length=M at hv';have kp:=psh.n;have o5':τ'.A7 (Z.n+5)=some [.slice ua N uc]:=by rw[D6 (psh.same _ om fun hb=>by have:=(s4.blk hb).1;omega),E24.A7 om];exact o5
     rw[hv'];refine gU1 (a17N @A6 @Ag @W4 @Y0 @W8 @U5 @W5 @U6 @U7 @U8 @K3 @H9 @J3 @I6 @I0 @f8 @o5') ?_;rw[<- hv'];rw[fin];obtain⟨Y9,hZ⟩:∃ Y9,τ'.upd (Z.n+5) [v']=Y9:=⟨_,rfl⟩
     have nZ:Y9.n=τ'.n:=by rw[<- hZ];rfl
     have vZ:Y9.A7 (Z.n+5)=some [v']:=by rw[<- hZ];exact cL
     have gZ:∀ c,c≠Z.n+5->c<S2.n->N0 u≠some c->Y9.h.get c=S2.h.get c:=fun c h1 h2 h3=>by
      rw[<- hZ,W1,if_neg h1,psh.same c om (by rw[<- hu];exact h3),E24.same c h2]
     have LZ:J4 Y9 S.n fr [16] A B .busy none:=L2.Fs (gZ _ om om fun hb=>by have:=(s2.blk hb).1;omega);have gsl:∀ b,N0 v'=some b->S.n+1<=b:=fun b hb=>(gs.blk hb).1;rw[hZ];refine⟨fr,[16],A,B,.busy,none,LZ,_,.inl ⟨x,hv,rfl,?_⟩⟩;refine hJ.close nS s1 (by simp;omega) (fun c h1 h2 h3 h4=>by rw[AA,if_neg h1,gZ c h2 om h4,g2 c h1 h3]) J4.upd (v':=v') (by rw[S7 om];exact vZ) ?_ ?_
     ·have gs':GS4 (S.n+1) τ' v' ((st++[x]).map O8):=by rw[List.map_append];simpa using gs
      exact gs'.H4 (by simp;omega) fun c hb=>by rw[AA,if_neg (by have:=gsl c hb;omega),<- hZ,W1,if_neg (by have:=gsl c hb;omega)]
     ·intro c hb;rcases psh.blk c hb with h|h
      ·exact .inl (by rw[hu];exact h)
      ·exact .inr om
  ·obtain⟨wx,ys,rfl,vx,wy,zs,rfl,vy,rfl⟩:=hVL;rw[hu]at o5 o5r;have c0:decide (((2:Nat):Int)=0)=false:=rfl;have hl2:0<((st++[wx,wy]).map O8).length:=by simp
   obtain⟨sb,sc,AT8,su,-,sl1,sl2,sl3,sl4⟩:=s2'.use hl2;rw[hu]at su;obtain⟨rfl,rfl,rfl⟩:ua=some ⟨sb,0,some 4⟩/\N=((st++[wx,wy]).map O8).length/\uc=sc:=by
    injection su with q1 q2 q3;exact⟨q1,q2,q3⟩
   obtain⟨M,hM⟩:∃ M,st.length=M:=⟨_,rfl⟩
   have hN2:((st++[wx,wy]).map O8).length=M+2:=by simp[hM]
   have ia:((st++[wx,wy]).map O8)[M]? =some (O8 wx):=by rw[List.getElem?_map,List.getElem?_append_right om,hM,Nat.sub_self];rfl
   have ib:((st++[wx,wy]).map O8)[M+1]? =some (O8 wy):=by rw[List.getElem?_map,List.getElem?_append_right om,hM,Nat.add_sub_cancel_left];rfl
   have ja:=sl4 _ _ ia;have jb:=sl4 _ _ ib;rw[hN2]at o5 o5r hu;unfold O8 at ja jb;have AT9:=A9 sl3;have hM1:M<=998:=by simp at hln;omega
   have w2:M6 .i64 (((M+2:Nat):Int)-2)=(M:Nat):=by rw[show((M+2:Nat):Int)-2=(M:Nat) by omega];rw[Ac];exact wrap64_in om om
   have w1:M6 .i64 (((M+2:Nat):Int)-1)=(M+1:Nat):=by rw[show((M+2:Nat):Int)-1=(M+1:Nat) by omega];rw[Ac];exact wrap64_in om om
   have b1:Nat.blt M (M+2)=true:=by rw[Nat.blt_eq];omega
   have b2:Nat.blt (M+1) (M+2)=true:=by rw[Nat.blt_eq];omega
   refine gS1 (a19N @f4 @f5 @f6 @f7 @f8 @r2 @hRs @hR3 @hR0 @o2 @o5r @c0 @w1 @w2 @b1 @b2 @AT9 @ja @jb) ?_;have EL:Ext Z (S2.new [.int .i64 0,.int .i64 0,.int .i64 0,.int .i64 0] (some 88)):=E2.W6 _;have ELL:Ext S2 (S2.new [.int .i64 0,.int .i64 0,.int .i64 0,.int .i64 0] (some 88)):=(Ext.refl S2).W6 _;refine(hF.node EL hop hSG vx vy).mono ?_;rintro r ⟨Z3,rfl,hE3⟩;have E3:=EL.trans hE3;have E23:=ELL.trans hE3;have n3:=hE3.n;simp only[F6]at n3;have p3:Z3.A7 (Z.n+3)=some [.int .i64 0,.int .i64 0,.int .i64 0,.int .i64 0]:=by rw[E23.A7 om];exact o3
   have p4:Z3.A7 (Z.n+4)=some [.int .i64 0]:=by rw[E23.A7 om];exact o4
   have p5:Z3.A7 (Z.n+5)=some [.slice (some ⟨sb,0,some 4⟩) (M+2) uc]:=by rw[E23.A7 om];exact o5
   have pz:Z3.A7 S2.n=some [.int .i64 0,.int .i64 0,.int .i64 0,.int .i64 0]:=by rw[hE3.A7 (by simp)];exact cL
   have L3:=L2.ext om E23;have p5r:=A9 p5;have lc:M<=uc:=by have:=huc;rw[hN2]at this;omega
   cases hv:val (.mk op 0 0 [] [x,y])with
   | error k=>
     have ck:decide (k=0)=false:=decide_eq_false (hF.nz hSG hv);unfold Ad j9;simp(maxSteps:=8000000) (disch:=first|exact dS|fail) only[↓bD,bW,reduceMul,reduceEqDiff,reduceAdd,Nat.reduceBEq,reduceIte,Option.isNone_none,f4,f5,f6,f7,f8,ck,p3,p4,p5r,p5,pz,asx hE3,w2];refine Ca.intro (by(repeat first|simp(disch:=omega) only[M9,G3,asx hE3]|rw[V8 (by kernel_rfl)]);rfl) ?_;refine gS1 (a12N @f4 @f5 @f6 @f7 @f8 @ck @p3 @p4 @p5r @p5 @pz @w2) ?_;rw[tY];obtain⟨Y9,hZ⟩:∃ Y9,(((((Z3.upd S2.n [.int .i64 0,.int .i64 0,.int .i64 0,.int .i64 0]).upd (Z.n+5) [.slice (some ⟨sb,0,some 4⟩) (M-0) (uc-0)]).new [.int .i64 0,.int .i64 0,.int .i64 0,.int .i64 0] (some 88)).upd (Z.n+3) [.int .i64 0,.int .i64 0,.int .i64 0,.int .i64 0]).upd (Z.n+4) [.int .i64 k])=Y9:=⟨_,rfl⟩
     have E3Z:Ext Z Y9:=by rw[<- hZ];exact(((((E3.upd om _).upd om _).W6 _).upd om _).upd om _)
     have nZ:Y9.n=Z3.n+1:=by rw[<- hZ];rfl
     have z3:Y9.A7 (Z.n+3)=some j9:=by rw[<- hZ];unfold j9;exact cL
     have z4:Y9.A7 (Z.n+4)=some [.int .i64 k]:=by rw[<- hZ];exact cL
     have LZ:J4 Y9 S.n fr [16] A B .busy none:=by rw[<- hZ];exact((((L3.EW om).EW om).Wr (by simp;omega)).EW om).EW om
     rw[hZ];refine⟨fr,[16],A,B,.busy,none,LZ,?_⟩;exact⟨_,.inr ⟨k,hv,rfl,E3Z.GS om,by simp;omega,J4.upd,by rw[S7 om];exact z3,by rw[S7 om];exact z4⟩⟩
   | ok z=>
     unfold Ad O8;have cz:decide ((0:Int)=0)=true:=rfl;simp(maxSteps:=8000000) (disch:=first|exact dS|fail) only[↓bD,bU,reduceMul,reduceEqDiff,reduceAdd,Nat.reduceBEq,reduceIte,Option.isNone_none,A6,Ag,W4,Y0,W8,U5,W5,U6,U7,U8,K3,H9,J3,I6,I0,f4,f5,f6,f7,f8,p3,p4,p5r,p5,pz,cz,asx hE3,w2];refine Ca.intro (by(repeat first|simp(disch:=omega) only[M9,G3,asx hE3]|rw[V8 (by kernel_rfl)]);rfl) ?_;refine gU1 (a27N @A6 @Ag @W4 @Y0 @W8 @U5 @W5 @U6 @U7 @U8 @K3 @H9 @J3 @I6 @I0 @f4 @f5 @f6 @f7 @f8 @p3 @p4 @p5r @p5 @pz @cz @w2) ?_;simp only[Nat.sub_zero];obtain⟨S4,hS4⟩:∃ Y9,(((Z3.upd S2.n [.int .i64 z.1.n,.int .i64 z.1.d,.int .i64 z.2.n,.int .i64 z.2.d]).upd (Z.n+5) [.slice (some ⟨sb,0,some 4⟩) M uc]).new [.int .i64 z.1.n,.int .i64 z.1.d,.int .i64 z.2.n,.int .i64 z.2.d])=Y9:=⟨_,rfl⟩
     have n4:S4.n=Z3.n+1:=by rw[<- hS4];rfl
     have x4:S4.row Z3.n=some [.int .i64 z.1.n,.int .i64 z.1.d,.int .i64 z.2.n,.int .i64 z.2.d]:=by rw[<- hS4];exact cL
     have t5:S4.A7 (Z.n+5)=some [.slice (some ⟨sb,0,some 4⟩) M uc]:=by rw[<- hS4];exact cL
     have g24:∀ c,c≠Z.n+5->c<S2.n->S4.h.get c=S2.h.get c:=fun c h1 h2=>by
      rw[<- hS4,CX,if_neg (by simp;omega),W1,if_neg h1,W1,if_neg om,E23.same c h2]
     have s5:=s2';rw[hu,<- hN2]at s5;have s6:=s5.cut (m:=M) om;have tk:((st++[wx,wy]).map O8).take M=st.map O8:=by
      rw[List.map_append,List.take_append_of_le_length (by rw[List.length_map];omega),List.take_of_length_le (by rw[List.length_map];omega)]
     rw[tk]at s6;have bsb:S.n+1<=sb:=sl1;have s7:GS4 (S.n+1) S4 (.slice (some ⟨sb,0,some 4⟩) M uc) (st.map O8):=s6.H4 om fun c hb=>by
      cases hb;exact g24 _ om om
     have bu:N0 u=some sb:=by rw[hu];rfl
     rw[hS4];refine Zq (row:=O8 z) (fun _ _ _ _=>I5) s7 x4 (C8 (by simp[O8]) (by simp)) rfl (by rw[List.length_map];omega) om ?_;intro v' τ' gs psh;obtain⟨a',c',hv',-⟩:=gs.shape;generalize (st.map O8++[O8 z]).length=M' at hv';have kp:=psh.n;have o5':τ'.A7 (Z.n+5)=some [.slice (some ⟨sb,0,some 4⟩) M uc]:=by rw[D6 (psh.same _ om fun hb=>by cases hb;omega)];exact t5
     rw[hv'];refine gU1 (a17N @A6 @Ag @W4 @Y0 @W8 @U5 @W5 @U6 @U7 @U8 @K3 @H9 @J3 @I6 @I0 @f8 @o5') ?_;rw[<- hv'];rw[fin];obtain⟨Y9,hZ⟩:∃ Y9,τ'.upd (Z.n+5) [v']=Y9:=⟨_,rfl⟩
     have nZ:Y9.n=τ'.n:=by rw[<- hZ];rfl
     have vZ:Y9.A7 (Z.n+5)=some [v']:=by rw[<- hZ];exact cL
     have gZ:∀ c,c≠Z.n+5->c<S2.n->N0 u≠some c->Y9.h.get c=S2.h.get c:=fun c h1 h2 h3=>by
      rw[<- hZ,W1,if_neg h1,psh.same c om (by rw[bu]at h3;exact h3),g24 c h1 h2]
     have LZ:J4 Y9 S.n fr [16] A B .busy none:=L2.Fs (gZ _ om om fun hb=>by have:=(s2.blk hb).1;omega);have gsl:∀ b,N0 v'=some b->S.n+1<=b:=fun b hb=>(gs.blk hb).1;rw[hZ];refine⟨fr,[16],A,B,.busy,none,LZ,_,.inl ⟨z,hv,rfl,?_⟩⟩;refine hJ.close nS s1 (by simp;omega) (fun c h1 h2 h3 h4=>by rw[AA,if_neg h1,gZ c h2 om h4,g2 c h1 h3]) J4.upd (v':=v') (by rw[S7 om];exact vZ) ?_ ?_
     ·have gs':GS4 (S.n+1) τ' v' ((st++[z]).map O8):=by rw[List.map_append];simpa using gs
      exact gs'.H4 (by simp;omega) fun c hb=>by rw[AA,if_neg (by have:=gsl c hb;omega),<- hZ,W1,if_neg (by have:=gsl c hb;omega)]
     ·intro c hb;rcases psh.blk c hb with h|h
      ·exact .inl (by rw[bu];exact h)
      ·exact .inr om
 refine aO f15 (by kernel_rfl) ?_;refine(Uh (FJ4.vi nS) tW hF.err hw he (by simpa using hd) J0 List.mem_cons_self).mono ?_;rintro r ⟨v,Z1,rfl,⟨x,hx,hJ⟩|⟨k,hk,hD⟩⟩
 ·have k1:=hJ.n;refine⟨v,Z1,fr,[16],A,B,_,_,_,rfl,hJ.lp,rfl,rfl,?_⟩;obtain⟨u,s1,s2,-⟩:=hJ.stk;have e3:=hJ.o3;have e4:=hJ.o4;have hE:=hJ.ext;obtain⟨S5,hS5⟩:∃ S5,Z1.GS S.n fr [16] A B .exhausted none=S5:=⟨_,rfl⟩
  have hg:∀ c,c≠S.n->S5.h.get c=Z1.h.get c:=fun c hc=>by rw[<- hS5,AA,if_neg hc]
  have n5:S5.n=Z1.n:=by rw[<- hS5];rfl
  have E5:Ext Z S5:=⟨by have:=hE.n;omega,fun c hc=>by rw[hg c om,hE.same c hc]⟩
  have s1':S5.A7 (Z.n+5)=some [u]:=by rw[D6 (hg _ om)];exact s1
  have e3':S5.A7 (Z.n+3)=some j9:=by rw[D6 (hg _ om)];exact e3
  have e4':S5.A7 (Z.n+4)=some [.int .i64 0]:=by rw[D6 (hg _ om)];exact e4
  have s2':GS4 (S.n+1) S5 u [O8 x]:=s2.H4 om fun c hb=>hg c (by have:=(s2.blk hb).1;omega);rw[hS5];obtain⟨b,c,cells,rfl,-,l1,l2,l3,l4⟩:=s2'.use (by simp);have l5:=l4 0 _ rfl;rw[Nat.zero_mul]at l5;have l3':=A9 l3;have s1r:=A9 s1';rw[hx];unfold O8 at l5;unfold Ad O8;unfold j9 at e3';refine gS1 (a9N @f6 @f7 @f8 @s1r @l3' @l5 @e3' @e4' @Tryz.results37) ?_;exact⟨_,rfl,(E5.upd om _).upd om _⟩
 ·refine⟨v,Z1,fr,[16],A,B,_,_,_,rfl,hD.lp,rfl,rfl,?_⟩;have k1:=hD.n;have e3:=hD.o3;have e4:=hD.o4;have hE:=hD.ext;obtain⟨S5,hS5⟩:∃ S5,Z1.GS S.n fr [16] A B .exhausted (some .ret)=S5:=⟨_,rfl⟩
  have hg:∀ c,c≠S.n->S5.h.get c=Z1.h.get c:=fun c hc=>by rw[<- hS5,AA,if_neg hc]
  have n5:S5.n=Z1.n:=by rw[<- hS5];rfl
  have E5:Ext Z S5:=⟨by have:=hE.n;omega,fun c hc=>by rw[hg c om,hE.same c hc]⟩
  have e3':S5.A7 (Z.n+3)=some j9:=by rw[D6 (hg _ om)];exact e3
  have e4':S5.A7 (Z.n+4)=some [.int .i64 k]:=by rw[D6 (hg _ om)];exact e4
  have e3r:=A9 e3';have e4r:=A9 e4';rw[hS5,hk];unfold Ad;unfold j9 at e3r ⊢;refine gS1 (a6N @f6 @f7 @f8 @e3r @e4r @Tryz.results37) ?_;exact⟨_,rfl,E5⟩
end Go.Proofs.T
