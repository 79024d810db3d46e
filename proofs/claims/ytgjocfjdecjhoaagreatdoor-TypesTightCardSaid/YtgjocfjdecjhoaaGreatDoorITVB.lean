/- types: the fold of DP. -/
import Derived.Test.YtgjocfjdecjhoaaGreatDoorITVA
set_option linter.unusedSimpArgs false
set_option linter.unusedVariables false
set_option linter.defProp false
set_option maxHeartbeats 32000000
set_option maxRecDepth 100000
namespace Go.Proofs.T
open Go Go.Ab Go.N9
open Nat (reduceMul reduceEqDiff reduceAdd)
theorem a17NTVB {o p q r s u v y p8 z a b c d e f g:Prop}(A:o)(B:p)(C:q)(D:r)(E:s)(F:u)(G:v)(H:y)(I:p8)(J:z)(h:a)(i:b)(j:c)(k:d)(l:e)(m:f)(n:g):o/\p/\q/\r/\s/\u/\v/\y/\p8/\z/\a/\b/\c/\d/\e/\f/\g:=⟨A,B,C,D,E,F,G,H,I,J,h,i,j,k,l,m,n⟩
theorem a19NTVB {s u v y z A B C p8 D a b c d e f g h i:Prop}(E:s)(F:u)(G:v)(H:y)(I:z)(J:A)(K:B)(L:C)(M:p8)(N:D)(j:a)(k:b)(l:c)(m:d)(n:e)(o:f)(p:g)(q:h)(r:i):s/\u/\v/\y/\z/\A/\B/\C/\p8/\D/\a/\b/\c/\d/\e/\f/\g/\h/\i:=⟨E,F,G,H,I,J,K,L,M,N,j,k,l,m,n,o,p,q,r⟩
theorem a25NTVB {H I J K L M N O p8 R a b c d e f g h i j k l m n o:Prop}(S:H)(U:I)(V:J)(W:K)(X:L)(Y:M)(Z:N)(x7:O)(x8:p8)(x9:R)(p:a)(q:b)(r:c)(s:d)(u:e)(v:f)(y:g)(z:h)(A:i)(B:j)(C:k)(D:l)(E:m)(F:n)(G:o):H/\I/\J/\K/\L/\M/\N/\O/\p8/\R/\a/\b/\c/\d/\e/\f/\g/\h/\i/\j/\k/\l/\m/\n/\o:=⟨S,U,V,W,X,Y,Z,x7,x8,x9,p,q,r,s,u,v,y,z,A,B,C,D,E,F,G⟩
theorem a27NTVB {L M N O R S U V p8 W a b c d e f g h i j k l m n o p q:Prop}(X:L)(Y:M)(Z:N)(x3:O)(x4:R)(x5:S)(x6:U)(x7:V)(x8:p8)(x9:W)(r:a)(s:b)(u:c)(v:d)(y:e)(z:f)(A:g)(B:h)(C:i)(D:j)(E:k)(F:l)(G:m)(H:n)(I:o)(J:p)(K:q):L/\M/\N/\O/\R/\S/\U/\V/\p8/\W/\a/\b/\c/\d/\e/\f/\g/\h/\i/\j/\k/\l/\m/\n/\o/\p/\q:=⟨X,Y,Z,x3,x4,x5,x6,x7,x8,x9,r,s,u,v,y,z,A,B,C,D,E,F,G,H,I,J,K⟩
structure FJ4 (Z S:St) (fr:Fr) (A B:Code) (vl vn:Value) (F:List (Nat×List Value)) (st:List QQ) (τ:St):Prop where
 ext:Ext Z τ
 n:S.n<τ.n
 lp:K3 τ S.n fr [16] A B .ready none
 o1:τ.A7 (Z.n+1)=some [vl]
 o2:τ.A7 (Z.n+2)=some [vn]
 o3:τ.A7 (Z.n+3)=some AA
 o4:τ.A7 (Z.n+4)=some [.int .i64 0]
 stk:∃ v,τ.A7 (Z.n+5)=some [v]/\GS4 (S.n+1) τ v (st.map R3)/\∀ q X,(q,X)∈F->P4 v≠some q
 B9:∀ q X,(q,X)∈F->(q=Z.n+6\/S.n<q)/\q<τ.n/\τ.A7 q=some X
theorem FJ4.vi {Z S:St}{r:Fr}{A B:Code}{z C:Value}(D:S.n=Z.n+7):VI Z (FJ4 Z S r A B z C) where
 get h hm:=(h.B9 _ _ hm).2
 push:=fun{F m o l q X} h a E j s=>by
  have k:=h.n;have y:=a.n;obtain⟨v,c,b,d⟩:=h.stk;refine⟨h.ext.trans a,om,h.lp.ext om a,by rw[a.A7 om];exact h.o1,by rw[a.A7 om];exact h.o2,by rw[a.A7 om];exact h.o3,by rw[a.A7 om];exact h.o4,⟨v,by rw[a.A7 om];exact c,b.ext a,fun p Y hm=>?_⟩,fun p Y hm=>?_⟩
  ·rcases List.mem_cons.1 hm with e|hm
   ·cases e;intro u;have:=(b.blk u).2;omega
   ·exact d p Y hm
  ·rcases List.mem_cons.1 hm with e|hm
   ·cases e;exact⟨.inr om,j,s⟩
   ·obtain⟨f,g,i⟩:=h.B9 p Y hm;exact⟨f,om,by rw[a.A7 g];exact i⟩
 ext:=fun{F m o l} h a=>by
  have k:=h.n;have y:=a.n;obtain⟨v,c,b,d⟩:=h.stk;refine⟨h.ext.trans a,om,h.lp.ext om a,by rw[a.A7 om];exact h.o1,by rw[a.A7 om];exact h.o2,by rw[a.A7 om];exact h.o3,by rw[a.A7 om];exact h.o4,⟨v,by rw[a.A7 om];exact c,b.ext a,d⟩,fun p Y hm=>?_⟩;obtain⟨f,g,i⟩:=h.B9 p Y hm;exact⟨f,om,by rw[a.A7 g];exact i⟩
 drop:=fun{F x m o} h=>by
  obtain⟨v,c,b,d⟩:=h.stk;exact⟨h.ext,h.n,h.lp,h.o1,h.o2,h.o3,h.o4,⟨v,c,b,fun p Y hm=>d p Y (List.mem_cons_of_mem _ hm)⟩,fun p Y hm=>h.B9 p Y (List.mem_cons_of_mem _ hm)⟩
 B8 h:=FG.qO h.ext
structure FD4 (Z S:St) (fr:Fr) (A B:Code) (k:Int) (τ:St):Prop where
 ext:Ext Z τ
 n:S.n<τ.n
 lp:K3 τ S.n fr [16] A B .done (some .ret)
 o3:τ.A7 (Z.n+3)=some AA
 o4:τ.A7 (Z.n+4)=some [.int .i64 k]
theorem FJ4.close {Z S:St}{i:Fr}{A B:Code}{p r:Value}{F:List (Nat×List Value)}{H g:List QQ}{e Y9:St}{u v':Value}(a:FJ4 Z S i A B p r F H e) (K:S.n=Z.n+7) (D:e.A7 (Z.n+5)=some [u]) (I:e.n<=Y9.n)
  (d:∀ c,c≠S.n->c≠Z.n+5->c<e.n->P4 u≠some c->Y9.h.get c=e.h.get c) (C:K3 Y9 S.n i [16] A B .ready none) (E:Y9.A7 (Z.n+5)=some [v']) (z:GS4 (S.n+1) Y9 v' (g.map R3)) (j:∀ b,P4 v'=some b->P4 u=some b\/e.n<=b):FJ4 Z S i A B p r F g Y9:=by
 obtain⟨u',m,G,o⟩:=a.stk;rw[D]at m;obtain rfl:u=u':=by injection m with h;injection h
 have k:=a.n;have J:=a.ext.n;have low:∀ c,c<S.n->P4 u≠some c:=fun c l j=>by have:=(G.blk j).1;omega
 refine⟨⟨om,fun c l=>by rw[d c om om om (low c om),a.ext.same c l]⟩,om,C,?_,?_,?_,?_,⟨v',E,z,fun q X f h=>?_⟩,fun q X f=>?_⟩
 ·rw[F7 (d _ om om om (low _ om))];exact a.o1
 ·rw[F7 (d _ om om om (low _ om))];exact a.o2
 ·rw[F7 (d _ om om om (low _ om))];exact a.o3
 ·rw[F7 (d _ om om om (low _ om))];exact a.o4
 ·rcases j q h with h|h
  ·exact o q X f h
  ·have:=(a.B9 q X f).2.1;omega
 ·obtain⟨s,v,y⟩:=a.B9 q X f;exact⟨s,om,by rw[F7 (d q om om v (o q X f))];exact y⟩
theorem jW {P:Program}{H:EV}{b:Option Nat}{c:Code}{a:Fr}{Z:St}{Q:Res->Prop}{d:Hd Q}(h:∀ fr' Z',fr'=a->Z'=Z->Ev (lim P H b c fr' Z') Q d):Ev (lim P H b c a Z) Q d:=h a Z rfl rfl
structure FF4 (Z:St) (val:Ex->Except Int QQ) (g h:Nat) (cs cs':List Value):Prop where
 leaf:∀ {τ:St}{op nm:By}{n d:Int}{a:Option Addr}{c:Nat},Ext Z τ->SG (.mk op n d nm [])->Ev (go Tryz.prog HS (.fn g) ([.agg ⟨[str op,.int .i64 n,.int .i64 d,str nm,.slice a 0 c]⟩]++cs) τ) (fun r=>∃ τ',r=⟨false,Aj (val (.mk op n d nm [])),τ'⟩/\Ext τ τ') ⟨⟩
 node:∀ {τ:St}{op:By}{a b:Ex}{x y:QQ},Ext Z τ->OpB op->SG (.mk op 0 0 [] [a,b])->val a= .ok x->val b= .ok y->Ev (go Tryz.prog HS (.fn h) ([str op,.agg ⟨R3 x⟩,.agg ⟨R3 y⟩]++cs') τ) (fun r=>∃ τ',r=⟨false,Aj (val (.mk op 0 0 [] [a,b])),τ'⟩/\Ext τ τ') ⟨⟩
 err:Vm val
 nz:∀ {e:Ex}{k:Int},SG e->val e= .error k->k≠0
theorem xI {Z:St}{row:List Value}{e:Ex}{g h:Nat}{cs a5:List Value}{val:Ex->Except Int QQ}(hF:FF4 Z val g h cs a5) (hw:SG e) (hd:AR e<=1000) (he:P8 Z row e):Ev (go Tryz.prog HS (.fn 37) [.agg ⟨row⟩,.func (.func g) ⟨[]⟩ ⟨cs⟩,.func (.func h) ⟨[]⟩ ⟨a5⟩] Z) (fun r=>∃ Z',r=⟨false,Aj (val e),Z'⟩/\Ext Z Z') ⟨⟩:=by
 have c1:=he.len;have b9:sub row 0 5=some row:=C9 om om;refine C8 Tryz.func37 rfl rfl ?_;refine gS1 @b9 ?_;refine(aw c1).mono ?_;rintro r rfl;refine gS1 @b9 ?_;refine jW ?_;generalize hA:Code.region 3 _ _=A;generalize hB:Code.block 1 _=B;intro i S Xk hS;have f4:i.get 4=some (DB (Z.n+1)):=by rw[Xk];exact fR
 have f5:i.get 5=some (DB (Z.n+2)):=by rw[Xk];exact fR
 have f6:i.get 6=some (DB (Z.n+3)):=by rw[Xk];exact fR
 have f7:i.get 7=some (DB (Z.n+4)):=by rw[Xk];exact fR
 have O:i.get 8=some (DB (Z.n+5)):=by rw[Xk];exact fR
 have c7:ev i (.tmp 15)=some (.func (.func 100) ⟨[]⟩ ⟨[DB (Z.n+6)]⟩):=by rw[Xk];rfl
 have nS:S.n=Z.n+7:=by rw[hS];rfl
 have ES:Ext Z S:=by rw[hS];exact eX
 obtain⟨vl,c2⟩:∃ v:Value,.func (.func g) ⟨[]⟩ ⟨cs⟩=v:=⟨_,rfl⟩
 obtain⟨vn,c3⟩:∃ v:Value,.func (.func h) ⟨[]⟩ ⟨a5⟩=v:=⟨_,rfl⟩
 have J0:FJ4 Z S i A B vl vn [(Z.n+6,row)] [] (S.Dt [] (.loop i [16] A B .ready none)):=by
  have EN:Ext S (S.Dt [] (.loop i [16] A B .ready none)):=Ext.Dt (.refl S) _ _;refine⟨ES.trans EN,by show S.n<S.n+1;omega,K3.new,?_,?_,?_,?_,⟨.slice none 0 0,?_,GS4.nil,fun q X _ j=>by cases j⟩,fun q X hm=>?_⟩
  ·rw[EN.A7 om,hS,<- c2];exact cL
  ·rw[EN.A7 om,hS,<- c3];exact cL
  ·rw[EN.A7 om,hS];unfold AA;exact cL
  ·rw[EN.A7 om,hS];exact cL
  ·rw[EN.A7 om,hS];exact cL
  ·simp only[List.mem_cons,List.not_mem_nil,or_false]at hm;cases hm;exact⟨.inl rfl,by show Z.n+6<S.n+1;omega,by rw[EN.A7 om,hS];exact cL⟩
 have tZ:wj Z val (FJ4 Z S i A B vl vn) (FD4 Z S i A B) S.n:=by
  intro F G τ op n d nm args row xs W hx b8 d0 D;obtain⟨v,B9,rfl,K,-,V⟩:=id hx;obtain⟨a,c,B0,off,cells,rfl,-,-⟩:=Cn.slice K V;obtain⟨R,hR⟩:∃ R:List Value,[str op,.int .i64 n,.int .i64 d,str nm,.slice a args.length c]=R:=⟨_,rfl⟩
  have b7:sub R 0 5=some R:=by rw[<- hR];rfl
  have b6:sub R 4 1=some [.slice a args.length c]:=by rw[<- hR];rfl
  have c8:sub R 0 1=some [str op]:=by rw[<- hR];rfl
  have k1:=D.n;obtain⟨u,s1,s2,s3⟩:=D.stk;rw[hR];refine tf D.lp rfl ?_;rw[<- hA,<- hR];refine gS ?_;rw[hA,hR];have EA:Ext τ ((τ.new [str [],.int .i64 0,.int .i64 0,str [],.slice none 0 0] (some 32)).upd τ.n R):=eX;refine⟨_,_,i,[16],A,B,none,rfl,D.lp.ext k1 EA,?_⟩;obtain⟨S2,hS2⟩:∃ S2,(((τ.new [str [],.int .i64 0,.int .i64 0,str [],.slice none 0 0] (some 32)).upd τ.n R).IJ S.n i [16] A B .busy none)=S2:=⟨_,rfl⟩
  have n2:S2.n=τ.n+1:=by rw[<- hS2];rfl
  have g2:∀ c,c≠S.n->c<τ.n->S2.h.get c=τ.h.get c:=fun c Y hl=>by rw[<- hS2,AV,if_neg Y,EA.same c hl]
  have r2:S2.row τ.n=some R:=by rw[<- hS2,KY om];exact cL
  have L2:K3 S2 S.n i [16] A B .busy none:=by rw[<- hS2];exact K3.upd
  have E2:Ext Z S2:=⟨by have:=D.ext.n;omega,fun c Y=>by rw[g2 c om om,D.ext.same c Y]⟩
  have o1:S2.row (Z.n+1)=some [vl]:=by rw[BS (g2 _ om om)];exact A9 D.o1
  have o2:S2.row (Z.n+2)=some [vn]:=by rw[BS (g2 _ om om)];exact A9 D.o2
  have o3:S2.A7 (Z.n+3)=some AA:=by rw[F7 (g2 _ om om)];exact D.o3
  have o4:S2.A7 (Z.n+4)=some [.int .i64 0]:=by rw[F7 (g2 _ om om)];exact D.o4
  have o5:S2.A7 (Z.n+5)=some [u]:=by rw[F7 (g2 _ om om)];exact s1
  have J:GS4 (S.n+1) S2 u ((G++xs).map R3):=s2.I2 om fun c j=>g2 c (by have:=(s2.blk j).1;omega) (s2.blk j).2;rw[hS2];generalize hQ:ax S.n _=QF;have fin:∀ fr' f,QF ⟨.normal,fr',f⟩=ax S.n (VP val (FJ4 Z S i A B vl vn) (FD4 Z S i A B) F G (.mk op n d nm args)) ⟨.normal,fr',f⟩:=fun _ _=>by rw[<- hQ]
  have b0:∀ fr' f,QF ⟨.ret,fr',f⟩=ax S.n (VP val (FJ4 Z S i A B vl vn) (FD4 Z S i A B) F G (.mk op n d nm args)) ⟨.ret,fr',f⟩:=fun _ _=>by rw[<- hQ]
  clear hQ;rw[<- hB];obtain⟨ua,uc,hu,d1⟩:=J.shape;obtain⟨N,hN⟩:∃ N,((G++xs).map R3).length=N:=⟨_,rfl⟩
  have e0:N=G.length+xs.length:=by rw[<- hN,List.length_map,List.length_append]
  rw[hN]at hu;have a0:=A9 o5;rw[<- c2]at o1;rw[<- c3]at o2;have b3:=W.1;rw[AX,Bool.and_eq_true]at b3;rcases(show args=[]\/(OpB op/\n=0/\d=0/\nm=[]/\∃ x y,args=[x,y]) by
   rcases JM b3.1 with h|h|⟨h,q1,q2,q3,q4⟩
   ·exact .inl (List.length_eq_zero_iff.1 h.2.2.2.2.2.2.2)
   ·exact .inl (List.length_eq_zero_iff.1 h.2.2.2.2)
   ·match args,q4 with
    | [x,y],_=>exact .inr ⟨h,q1,q2,q3,x,y,rfl⟩)with rfl|⟨hop,rfl,rfl,rfl,x,y,rfl⟩
  ·obtain rfl:xs=[]:=b8;rw[hu]at o5 a0;have c0:decide (((0:Nat):Int)=0)=true:=rfl;refine gS1 (a11N @f4 @f5 @f6 @f7 @O @r2 @b7 @b6 @o1 @a0 @c0) ?_;have EL:Ext Z (S2.new [.int .i64 0,.int .i64 0,.int .i64 0,.int .i64 0] (some 88)):=E2.Q3 _;have a4:Ext S2 (S2.new [.int .i64 0,.int .i64 0,.int .i64 0,.int .i64 0] (some 88)):=(Ext.refl S2).Q3 _;rw[<- hR];refine(hF.leaf EL W).mono ?_;rw[hR];rintro r ⟨C,rfl,l⟩;have E3:=EL.trans l;have o:=a4.trans l;have n3:=l.n;simp only[G3]at n3;have p3:C.A7 (Z.n+3)=some [.int .i64 0,.int .i64 0,.int .i64 0,.int .i64 0]:=by rw[o.A7 om];exact o3
   have p4:C.A7 (Z.n+4)=some [.int .i64 0]:=by rw[o.A7 om];exact o4
   have p5:C.A7 (Z.n+5)=some [.slice ua N uc]:=by rw[o.A7 om];exact o5
   have pz:C.A7 S2.n=some [.int .i64 0,.int .i64 0,.int .i64 0,.int .i64 0]:=by rw[l.A7 (by simp)];exact cL
   have L3:=L2.ext om o;have e1:=J.ext o;cases hv:val (.mk op n d nm [])with
   | error k=>
     have ck:decide (k=0)=false:=decide_eq_false (hF.nz W hv);unfold Aj AA;refine gS1 (a9N @f4 @f5 @f6 @f7 @O @ck @p3 @p4 @pz) ?_;rw[b0];obtain⟨Y9,p⟩:∃ Y9,((((C.upd S2.n [.int .i64 0,.int .i64 0,.int .i64 0,.int .i64 0]).new [.int .i64 0,.int .i64 0,.int .i64 0,.int .i64 0] (some 88)).upd (Z.n+3) [.int .i64 0,.int .i64 0,.int .i64 0,.int .i64 0]).upd (Z.n+4) [.int .i64 k])=Y9:=⟨_,rfl⟩
     have a3:Ext Z Y9:=by rw[<- p];exact((((E3.upd om _).Q3 _).upd om _).upd om _)
     have nZ:Y9.n=C.n+1:=by rw[<- p];rfl
     have z3:Y9.A7 (Z.n+3)=some AA:=by rw[<- p];unfold AA;exact cL
     have z4:Y9.A7 (Z.n+4)=some [.int .i64 k]:=by rw[<- p];exact cL
     have LZ:K3 Y9 S.n i [16] A B .busy none:=by rw[<- p];exact(((L3.Mh om).wz (by simp;omega)).Mh om).Mh om
     rw[p];refine⟨i,[16],A,B,.busy,none,LZ,?_⟩;exact⟨_,.inr ⟨k,hv,rfl,a3.IJ om,by simp;omega,K3.upd,by rw[Am om];exact z3,by rw[Am om];exact z4⟩⟩
   | ok x=>
     unfold Aj R3;have cz:decide ((0:Int)=0)=true:=rfl;have L:=A9 p5;refine gU1 (a25NTVB @A6 @Av @W8 @Y8 @X9 @V7 @Y0 @V8 @V9 @W0 @L7 @I4 @J5 @I5 @I6 @f4 @f5 @f6 @f7 @O @p3 @p4 @L @pz @cz) ?_;obtain⟨S4,s⟩:∃ Y9,((C.upd S2.n [.int .i64 x.1.n,.int .i64 x.1.d,.int .i64 x.2.n,.int .i64 x.2.d]).new [.int .i64 x.1.n,.int .i64 x.1.d,.int .i64 x.2.n,.int .i64 x.2.d])=Y9:=⟨_,rfl⟩
     have a2:Ext S2 S4:=by rw[<- s];exact(o.upd (Nat.le_refl _) _).Q3 _
     have n4:S4.n=C.n+1:=by rw[<- s];rfl
     have x4:S4.row C.n=some [.int .i64 x.1.n,.int .i64 x.1.d,.int .i64 x.2.n,.int .i64 x.2.d]:=by rw[<- s];exact cL
     have s4:=J.ext a2;rw[s];rw[hu]at s4;refine bK (row:=R3 x) (fun _ _ _ _=>J3) s4 x4 (C9 (by simp[R3]) (by simp)) rfl (by rw[hN];omega) om ?_;intro v' f gs E;obtain⟨a',c',I,-⟩:=gs.shape;generalize ((G++[]).map R3++[R3 x]).length=M at I;have kp:=E.n;have a9:f.A7 (Z.n+5)=some [.slice ua N uc]:=by rw[F7 (E.same _ om fun j=>by have:=(s4.blk j).1;omega),a2.A7 om];exact o5
     rw[I];refine gU1 (a17NTVB @A6 @Av @W8 @Y8 @X9 @V7 @Y0 @V8 @V9 @W0 @L7 @I4 @J5 @I5 @I6 @O @a9) ?_;rw[<- I];rw[fin];obtain⟨Y9,p⟩:∃ Y9,f.upd (Z.n+5) [v']=Y9:=⟨_,rfl⟩
     have nZ:Y9.n=f.n:=by rw[<- p];rfl
     have vZ:Y9.A7 (Z.n+5)=some [v']:=by rw[<- p];exact cL
     have gZ:∀ c,c≠Z.n+5->c<S2.n->P4 u≠some c->Y9.h.get c=S2.h.get c:=fun c K V h3=>by
      rw[<- p,Aa,if_neg K,E.same c om (by rw[<- hu];exact h3),a2.same c V]
     have LZ:K3 Y9 S.n i [16] A B .busy none:=L2.Gv (gZ _ om om fun j=>by have:=(s2.blk j).1;omega);have U:∀ b,P4 v'=some b->S.n+1<=b:=fun b j=>(gs.blk j).1;rw[p];refine⟨i,[16],A,B,.busy,none,LZ,_,.inl ⟨x,hv,rfl,?_⟩⟩;refine D.close nS s1 (by simp;omega) (fun c K V h3 h4=>by rw[AV,if_neg K,gZ c V om h4,g2 c K h3]) K3.upd (v':=v') (by rw[Am om];exact vZ) ?_ ?_
     ·have a7:GS4 (S.n+1) f v' ((G++[x]).map R3):=by rw[List.map_append];simpa using gs
      exact a7.I2 (by simp;omega) fun c j=>by rw[AV,if_neg (by have:=U c j;omega),<- p,Aa,if_neg (by have:=U c j;omega)]
     ·intro c j;rcases E.blk c j with h|h
      ·exact .inl (by rw[hu];exact h)
      ·exact .inr om
  ·obtain⟨wx,ys,rfl,vx,wy,zs,rfl,vy,rfl⟩:=b8;rw[hu]at o5 a0;have c0:decide (((2:Nat):Int)=0)=false:=rfl;have c9:0<((G++[wx,wy]).map R3).length:=by simp
   obtain⟨sb,sc,d7,su,-,d5,e2,d6,c4⟩:=J.use c9;rw[hu]at su;obtain⟨rfl,rfl,rfl⟩:ua=some ⟨sb,0,some 4⟩/\N=((G++[wx,wy]).map R3).length/\uc=sc:=by
    injection su with q1 q2 q3;exact⟨q1,q2,q3⟩
   obtain⟨M,hM⟩:∃ M,G.length=M:=⟨_,rfl⟩
   have a8:((G++[wx,wy]).map R3).length=M+2:=by simp[hM]
   have ia:((G++[wx,wy]).map R3)[M]? =some (R3 wx):=by rw[List.getElem?_map,List.getElem?_append_right om,hM,Nat.sub_self];rfl
   have ib:((G++[wx,wy]).map R3)[M+1]? =some (R3 wy):=by rw[List.getElem?_map,List.getElem?_append_right om,hM,Nat.add_sub_cancel_left];rfl
   have ja:=c4 _ _ ia;have jb:=c4 _ _ ib;rw[a8]at o5 a0 hu;unfold R3 at ja jb;have c5:=A9 d6;have d9:M<=998:=by simp at d0;omega
   have w2:L9 .i64 (((M+2:Nat):Int)-2)=(M:Nat):=by rw[show((M+2:Nat):Int)-2=(M:Nat) by omega];rw[o7];exact wrap64_in om om
   have w1:L9 .i64 (((M+2:Nat):Int)-1)=(M+1:Nat):=by rw[show((M+2:Nat):Int)-1=(M+1:Nat) by omega];rw[o7];exact wrap64_in om om
   have b1:Nat.blt M (M+2)=true:=by rw[Nat.blt_eq];omega
   have b2:Nat.blt (M+1) (M+2)=true:=by rw[Nat.blt_eq];omega
   refine gS1 (a19NTVB @f4 @f5 @f6 @f7 @O @r2 @b7 @b6 @c8 @o2 @a0 @c0 @w1 @w2 @b1 @b2 @c5 @ja @jb) ?_;have EL:Ext Z (S2.new [.int .i64 0,.int .i64 0,.int .i64 0,.int .i64 0] (some 88)):=E2.Q3 _;have a4:Ext S2 (S2.new [.int .i64 0,.int .i64 0,.int .i64 0,.int .i64 0] (some 88)):=(Ext.refl S2).Q3 _;refine(hF.node EL hop W vx vy).mono ?_;rintro r ⟨C,rfl,l⟩;have E3:=EL.trans l;have o:=a4.trans l;have n3:=l.n;simp only[G3]at n3;have p3:C.A7 (Z.n+3)=some [.int .i64 0,.int .i64 0,.int .i64 0,.int .i64 0]:=by rw[o.A7 om];exact o3
   have p4:C.A7 (Z.n+4)=some [.int .i64 0]:=by rw[o.A7 om];exact o4
   have p5:C.A7 (Z.n+5)=some [.slice (some ⟨sb,0,some 4⟩) (M+2) uc]:=by rw[o.A7 om];exact o5
   have pz:C.A7 S2.n=some [.int .i64 0,.int .i64 0,.int .i64 0,.int .i64 0]:=by rw[l.A7 (by simp)];exact cL
   have L3:=L2.ext om o;have L:=A9 p5;have lc:M<=uc:=by have:=d1;rw[a8]at this;omega
   cases hv:val (.mk op 0 0 [] [x,y])with
   | error k=>
     have ck:decide (k=0)=false:=decide_eq_false (hF.nz W hv);unfold Aj AA;simp(maxSteps:=8000000) (disch:=first|exact dS|fail) only[↓bD,bW,reduceMul,reduceEqDiff,reduceAdd,Nat.reduceBEq,reduceIte,Option.isNone_none,f4,f5,f6,f7,O,ck,p3,p4,L,p5,pz,asx l,w2];refine Ct.intro (by(repeat first|simp(disch:=omega) only[O4,G6,asx l]|rw[W6 (by kernel_rfl)]);rfl) ?_;refine gS1 (a12N @f4 @f5 @f6 @f7 @O @ck @p3 @p4 @L @p5 @pz @w2) ?_;rw[b0];obtain⟨Y9,p⟩:∃ Y9,(((((C.upd S2.n [.int .i64 0,.int .i64 0,.int .i64 0,.int .i64 0]).upd (Z.n+5) [.slice (some ⟨sb,0,some 4⟩) (M-0) (uc-0)]).new [.int .i64 0,.int .i64 0,.int .i64 0,.int .i64 0] (some 88)).upd (Z.n+3) [.int .i64 0,.int .i64 0,.int .i64 0,.int .i64 0]).upd (Z.n+4) [.int .i64 k])=Y9:=⟨_,rfl⟩
     have a3:Ext Z Y9:=by rw[<- p];exact(((((E3.upd om _).upd om _).Q3 _).upd om _).upd om _)
     have nZ:Y9.n=C.n+1:=by rw[<- p];rfl
     have z3:Y9.A7 (Z.n+3)=some AA:=by rw[<- p];unfold AA;exact cL
     have z4:Y9.A7 (Z.n+4)=some [.int .i64 k]:=by rw[<- p];exact cL
     have LZ:K3 Y9 S.n i [16] A B .busy none:=by rw[<- p];exact((((L3.Mh om).Mh om).wz (by simp;omega)).Mh om).Mh om
     rw[p];refine⟨i,[16],A,B,.busy,none,LZ,?_⟩;exact⟨_,.inr ⟨k,hv,rfl,a3.IJ om,by simp;omega,K3.upd,by rw[Am om];exact z3,by rw[Am om];exact z4⟩⟩
   | ok z=>
     unfold Aj R3;have cz:decide ((0:Int)=0)=true:=rfl;simp(maxSteps:=8000000) (disch:=first|exact dS|fail) only[↓bD,bU,reduceMul,reduceEqDiff,reduceAdd,Nat.reduceBEq,reduceIte,Option.isNone_none,A6,Av,W8,Y8,X9,V7,Y0,V8,V9,W0,L7,I4,J5,I5,I6,f4,f5,f6,f7,O,p3,p4,L,p5,pz,cz,asx l,w2];refine Ct.intro (by(repeat first|simp(disch:=omega) only[O4,G6,asx l]|rw[W6 (by kernel_rfl)]);rfl) ?_;refine gU1 (a27NTVB @A6 @Av @W8 @Y8 @X9 @V7 @Y0 @V8 @V9 @W0 @L7 @I4 @J5 @I5 @I6 @f4 @f5 @f6 @f7 @O @p3 @p4 @L @p5 @pz @cz @w2) ?_;simp only[Nat.sub_zero];obtain⟨S4,s⟩:∃ Y9,(((C.upd S2.n [.int .i64 z.1.n,.int .i64 z.1.d,.int .i64 z.2.n,.int .i64 z.2.d]).upd (Z.n+5) [.slice (some ⟨sb,0,some 4⟩) M uc]).new [.int .i64 z.1.n,.int .i64 z.1.d,.int .i64 z.2.n,.int .i64 z.2.d])=Y9:=⟨_,rfl⟩
     have n4:S4.n=C.n+1:=by rw[<- s];rfl
     have x4:S4.row C.n=some [.int .i64 z.1.n,.int .i64 z.1.d,.int .i64 z.2.n,.int .i64 z.2.d]:=by rw[<- s];exact cL
     have t5:S4.A7 (Z.n+5)=some [.slice (some ⟨sb,0,some 4⟩) M uc]:=by rw[<- s];exact cL
     have b5:∀ c,c≠Z.n+5->c<S2.n->S4.h.get c=S2.h.get c:=fun c K V=>by
      rw[<- s,Dk,if_neg (by simp;omega),Aa,if_neg K,Aa,if_neg om,o.same c V]
     have s5:=J;rw[hu,<- a8]at s5;have s6:=s5.cut (m:=M) om;have tk:((G++[wx,wy]).map R3).take M=G.map R3:=by
      rw[List.map_append,List.take_append_of_le_length (by rw[List.length_map];omega),List.take_of_length_le (by rw[List.length_map];omega)]
     rw[tk]at s6;have d8:S.n+1<=sb:=d5;have s7:GS4 (S.n+1) S4 (.slice (some ⟨sb,0,some 4⟩) M uc) (G.map R3):=s6.I2 om fun c j=>by
      cases j;exact b5 _ om om
     have bu:P4 u=some sb:=by rw[hu];rfl
     rw[s];refine bK (row:=R3 z) (fun _ _ _ _=>J3) s7 x4 (C9 (by simp[R3]) (by simp)) rfl (by rw[List.length_map];omega) om ?_;intro v' f gs E;obtain⟨a',c',I,-⟩:=gs.shape;generalize (G.map R3++[R3 z]).length=M' at I;have kp:=E.n;have a9:f.A7 (Z.n+5)=some [.slice (some ⟨sb,0,some 4⟩) M uc]:=by rw[F7 (E.same _ om fun j=>by cases j;omega)];exact t5
     rw[I];refine gU1 (a17NTVB @A6 @Av @W8 @Y8 @X9 @V7 @Y0 @V8 @V9 @W0 @L7 @I4 @J5 @I5 @I6 @O @a9) ?_;rw[<- I];rw[fin];obtain⟨Y9,p⟩:∃ Y9,f.upd (Z.n+5) [v']=Y9:=⟨_,rfl⟩
     have nZ:Y9.n=f.n:=by rw[<- p];rfl
     have vZ:Y9.A7 (Z.n+5)=some [v']:=by rw[<- p];exact cL
     have gZ:∀ c,c≠Z.n+5->c<S2.n->P4 u≠some c->Y9.h.get c=S2.h.get c:=fun c K V h3=>by
      rw[<- p,Aa,if_neg K,E.same c om (by rw[bu]at h3;exact h3),b5 c K V]
     have LZ:K3 Y9 S.n i [16] A B .busy none:=L2.Gv (gZ _ om om fun j=>by have:=(s2.blk j).1;omega);have U:∀ b,P4 v'=some b->S.n+1<=b:=fun b j=>(gs.blk j).1;rw[p];refine⟨i,[16],A,B,.busy,none,LZ,_,.inl ⟨z,hv,rfl,?_⟩⟩;refine D.close nS s1 (by simp;omega) (fun c K V h3 h4=>by rw[AV,if_neg K,gZ c V om h4,g2 c K h3]) K3.upd (v':=v') (by rw[Am om];exact vZ) ?_ ?_
     ·have a7:GS4 (S.n+1) f v' ((G++[z]).map R3):=by rw[List.map_append];simpa using gs
      exact a7.I2 (by simp;omega) fun c j=>by rw[AV,if_neg (by have:=U c j;omega),<- p,Aa,if_neg (by have:=U c j;omega)]
     ·intro c j;rcases E.blk c j with h|h
      ·exact .inl (by rw[bu];exact h)
      ·exact .inr om
 refine ay c7 (by kernel_rfl) ?_;refine(oM (FJ4.vi nS) tZ hF.err hw he (by simpa using hd) J0 List.mem_cons_self).mono ?_;rintro r ⟨v,Z1,rfl,⟨x,hx,D⟩|⟨k,hk,hD⟩⟩
 ·have k1:=D.n;refine⟨v,Z1,i,[16],A,B,_,_,_,rfl,D.lp,rfl,rfl,?_⟩;obtain⟨u,s1,s2,-⟩:=D.stk;have e3:=D.o3;have e4:=D.o4;have hE:=D.ext;obtain⟨S5,H⟩:∃ S5,Z1.IJ S.n i [16] A B .exhausted none=S5:=⟨_,rfl⟩
  have hg:∀ c,c≠S.n->S5.h.get c=Z1.h.get c:=fun c Y=>by rw[<- H,AV,if_neg Y]
  have n5:S5.n=Z1.n:=by rw[<- H];rfl
  have E5:Ext Z S5:=⟨by have:=hE.n;omega,fun c Y=>by rw[hg c om,hE.same c Y]⟩
  have d3:S5.A7 (Z.n+5)=some [u]:=by rw[F7 (hg _ om)];exact s1
  have a1:S5.A7 (Z.n+3)=some AA:=by rw[F7 (hg _ om)];exact e3
  have a6:S5.A7 (Z.n+4)=some [.int .i64 0]:=by rw[F7 (hg _ om)];exact e4
  have J:GS4 (S.n+1) S5 u [R3 x]:=s2.I2 om fun c j=>hg c (by have:=(s2.blk j).1;omega);rw[H];obtain⟨b,c,cells,rfl,-,l1,l2,l3,l4⟩:=J.use (by simp);have l5:=l4 0 _ rfl;rw[Nat.zero_mul]at l5;have d2:=A9 l3;have d4:=A9 d3;rw[hx];unfold R3 at l5;unfold Aj R3;unfold AA at a1;refine gS1 (a9N @f6 @f7 @O @d4 @d2 @l5 @a1 @a6 @Tryz.results37) ?_;exact⟨_,rfl,(E5.upd om _).upd om _⟩
 ·refine⟨v,Z1,i,[16],A,B,_,_,_,rfl,hD.lp,rfl,rfl,?_⟩;have k1:=hD.n;have e3:=hD.o3;have e4:=hD.o4;have hE:=hD.ext;obtain⟨S5,H⟩:∃ S5,Z1.IJ S.n i [16] A B .exhausted (some .ret)=S5:=⟨_,rfl⟩
  have hg:∀ c,c≠S.n->S5.h.get c=Z1.h.get c:=fun c Y=>by rw[<- H,AV,if_neg Y]
  have n5:S5.n=Z1.n:=by rw[<- H];rfl
  have E5:Ext Z S5:=⟨by have:=hE.n;omega,fun c Y=>by rw[hg c om,hE.same c Y]⟩
  have a1:S5.A7 (Z.n+3)=some AA:=by rw[F7 (hg _ om)];exact e3
  have a6:S5.A7 (Z.n+4)=some [.int .i64 k]:=by rw[F7 (hg _ om)];exact e4
  have b4:=A9 a1;have c6:=A9 a6;rw[H,hk];unfold Aj;unfold AA at b4 ⊢;refine gS1 (a6N @f6 @f7 @O @b4 @c6 @Tryz.results37) ?_;exact⟨_,rfl,E5⟩
end Go.Proofs.T
namespace Go.Proofs.T
open Go Go.Ab Go.N9
def AH4 (u:Un):List Value:=[.int .i64 u.1,.bool u.2]
def wK:List Value:=[.int .i64 0,.bool false]
def Aw8 (r:Except Int Un):Value:=match r with
 | .ok x=> .tuple ⟨[.agg ⟨AH4 x⟩,.int .i64 0]⟩
 | .error k=> .tuple ⟨[.agg ⟨wK⟩,.int .i64 k]⟩
structure FJ2 (Z S:St) (fr:Fr) (A B:Code) (vl vn:Value) (F:List (Nat×List Value)) (st:List Un) (τ:St):Prop where
 ext:Ext Z τ
 n:S.n<τ.n
 lp:K3 τ S.n fr [16] A B .ready none
 o1:τ.A7 (Z.n+1)=some [vl]
 o2:τ.A7 (Z.n+2)=some [vn]
 o3:τ.A7 (Z.n+3)=some wK
 o4:τ.A7 (Z.n+4)=some [.int .i64 0]
 stk:∃ v,τ.A7 (Z.n+5)=some [v]/\GS2 (S.n+1) τ v (st.map AH4)/\∀ q X,(q,X)∈F->P4 v≠some q
 B9:∀ q X,(q,X)∈F->(q=Z.n+6\/S.n<q)/\q<τ.n/\τ.A7 q=some X
structure FD2 (Z S:St) (fr:Fr) (A B:Code) (k:Int) (τ:St):Prop where
 ext:Ext Z τ
 n:S.n<τ.n
 lp:K3 τ S.n fr [16] A B .done (some .ret)
 o3:τ.A7 (Z.n+3)=some wK
 o4:τ.A7 (Z.n+4)=some [.int .i64 k]
structure FF2 (Z:St) (val:Ex->Except Int Un) (g h:Nat) (cs cs':List Value):Prop where
 leaf:∀ {τ:St}{op nm:By}{n d:Int}{a:Option Addr}{c:Nat},Ext Z τ->SG (.mk op n d nm [])->Ev (go Tryz.prog HS (.fn g) ([.agg ⟨[str op,.int .i64 n,.int .i64 d,str nm,.slice a 0 c]⟩]++cs) τ) (fun r=>∃ τ',r=⟨false,Aw8 (val (.mk op n d nm [])),τ'⟩/\Ext τ τ') ⟨⟩
 node:∀ {τ:St}{op:By}{a b:Ex}{x y:Un},Ext Z τ->OpB op->SG (.mk op 0 0 [] [a,b])->val a= .ok x->val b= .ok y->Ev (go Tryz.prog HS (.fn h) ([str op,.agg ⟨AH4 x⟩,.agg ⟨AH4 y⟩]++cs') τ) (fun r=>∃ τ',r=⟨false,Aw8 (val (.mk op 0 0 [] [a,b])),τ'⟩/\Ext τ τ') ⟨⟩
 err:Vm val
 nz:∀ {e:Ex}{k:Int},SG e->val e= .error k->k≠0
end Go.Proofs.T
