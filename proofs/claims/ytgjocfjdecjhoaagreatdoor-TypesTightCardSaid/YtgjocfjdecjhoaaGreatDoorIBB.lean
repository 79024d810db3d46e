/- The H3 numbers: plus. -/
import Derived.Test.YtgjocfjdecjhoaaGreatDoorIRA
set_option linter.unusedSimpArgs false
set_option linter.unusedVariables false
set_option linter.defProp false
set_option maxHeartbeats 32000000
set_option maxRecDepth 100000
namespace Go.Proofs.T
open Go Go.Ab
theorem a17NBB {o p q r s u v y p8 z a b c d e f g:Prop}(A:o)(B:p)(C:q)(D:r)(E:s)(F:u)(G:v)(H:y)(I:p8)(J:z)(h:a)(i:b)(j:c)(k:d)(l:e)(m:f)(n:g):o/\p/\q/\r/\s/\u/\v/\y/\p8/\z/\a/\b/\c/\d/\e/\f/\g:=⟨A,B,C,D,E,F,G,H,I,J,h,i,j,k,l,m,n⟩
theorem a23NBB {D E F G H I J K p8 L a b c d e f g h i j k l m:Prop}(M:D)(N:E)(O:F)(R:G)(S:H)(U:I)(V:J)(W:K)(X:p8)(Y:L)(n:a)(o:b)(p:c)(q:d)(r:e)(s:f)(u:g)(v:h)(y:i)(z:j)(A:k)(B:l)(C:m):D/\E/\F/\G/\H/\I/\J/\K/\p8/\L/\a/\b/\c/\d/\e/\f/\g/\h/\i/\j/\k/\l/\m:=⟨M,N,O,R,S,U,V,W,X,Y,n,o,p,q,r,s,u,v,y,z,A,B,C⟩
theorem a27NBB {L M N O R S U V p8 W a b c d e f g h i j k l m n o p q:Prop}(X:L)(Y:M)(Z:N)(x3:O)(x4:R)(x5:S)(x6:U)(x7:V)(x8:p8)(x9:W)(r:a)(s:b)(u:c)(v:d)(y:e)(z:f)(A:g)(B:h)(C:i)(D:j)(E:k)(F:l)(G:m)(H:n)(I:o)(J:p)(K:q):L/\M/\N/\O/\R/\S/\U/\V/\p8/\W/\a/\b/\c/\d/\e/\f/\g/\h/\i/\j/\k/\l/\m/\n/\o/\p/\q:=⟨X,Y,Z,x3,x4,x5,x6,x7,x8,x9,r,s,u,v,y,z,A,B,C,D,E,F,G,H,I,J,K⟩
theorem a30NBB {U V W X Y Z p6 p7 p8 p9 a b c d e f g h i j k l m n o p q r s u:Prop}(x0:U)(x1:V)(x2:W)(x3:X)(x4:Y)(x5:Z)(x6:p6)(x7:p7)(x8:p8)(x9:p9)(v:a)(y:b)(z:c)(A:d)(B:e)(C:f)(D:g)(E:h)(F:i)(G:j)(H:k)(I:l)(J:m)(K:n)(L:o)(M:p)(N:q)(O:r)(R:s)(S:u):U/\V/\W/\X/\Y/\Z/\p6/\p7/\p8/\p9/\a/\b/\c/\d/\e/\f/\g/\h/\i/\j/\k/\l/\m/\n/\o/\p/\q/\r/\s/\u:=⟨x0,x1,x2,x3,x4,x5,x6,x7,x8,x9,v,y,z,A,B,C,D,E,F,G,H,I,J,K,L,M,N,O,R,S⟩
theorem a34NBB {p0 p1 p2 p3 p4 p5 p6 p7 p8 p9 a b c d e f g h i j k l m n o p q r s u v y z A:Prop}(x0:p0)(x1:p1)(x2:p2)(x3:p3)(x4:p4)(x5:p5)(x6:p6)(x7:p7)(x8:p8)(x9:p9)(B:a)(C:b)(D:c)(E:d)(F:e)(G:f)(H:g)(I:h)(J:i)(K:j)(L:k)(M:l)(N:m)(O:n)(R:o)(S:p)(U:q)(V:r)(W:s)(X:u)(Y:v)(Z:y)(a0:z)(a1:A):p0/\p1/\p2/\p3/\p4/\p5/\p6/\p7/\p8/\p9/\a/\b/\c/\d/\e/\f/\g/\h/\i/\j/\k/\l/\m/\n/\o/\p/\q/\r/\s/\u/\v/\y/\z/\A:=⟨x0,x1,x2,x3,x4,x5,x6,x7,x8,x9,B,C,D,E,F,G,H,I,J,K,L,M,N,O,R,S,U,V,W,X,Y,Z,a0,a1⟩
theorem HU {l:List Nat}{k:Nat}(h:¬ k<l.length):l.getD k 0=0:=by simp[List.getD,List.getElem?_eq_none (Nat.not_lt.1 h)]
theorem Tv {l:List Nat}{k:Nat}:D9 (l.take (k+1))=D9 (l.take k)+65536 ^ k*l.getD k 0:=by
 by_cases h:k<l.length
 ·obtain⟨d,a⟩:=I1 h;rw[DV a,getD_at a]
 ·rw[List.take_of_length_le om,List.take_of_length_le om,HU h];omega
theorem we {O A B P c D x y:Nat}(h:O+c*P=A+B) (b:c+x+y=D):O+P*(D % 65536)+D / 65536*(P*65536)=A+P*x+(B+P*y):=by
 have e:D=D % 65536+65536*(D / 65536):=om;have d:P*D=P*(D % 65536)+P*(65536*(D / 65536)):=by rw[<- Nat.mul_add,<- e]
 have f:P*D=P*c+P*x+P*y:=by rw[<- b,Nat.mul_add,Nat.mul_add]
 have a:D / 65536*(P*65536)=P*(65536*(D / 65536)):=by rw[Nat.mul_comm,Nat.mul_assoc]
 rw[a,<- Nat.add_assoc (A+P*x)];rw[Nat.mul_comm c P]at h;omega
theorem vD {Z:St}{v w:Value}{a b:List Nat}(ha:DN Z v a) (hb:DN Z w b) (da:Dig a) (db:Dig b) (la:a.length<=100) (lb:b.length<=100) :
  Ev (go Tryz.prog HS (.fn 209) [v,w] Z) (fun r=>∃ v' l Z',r=⟨false,v',Z'⟩/\Ext Z Z'/\DN Z' v' l/\Dig l/\D9 l=D9 a+D9 b/\l.length<=a.length+b.length+1) ⟨⟩:=by
 have a2:∀ k,a.getD k 0<65536:=Il da;have a3:∀ k,b.getD k 0<65536:=Il db;obtain⟨va,vc,vb,vo,vcs,rfl,h1,h2⟩:=ha.use;obtain⟨wa,wc,wb,wo,wcs,rfl,k1,k2⟩:=hb.use;obtain⟨N,hN⟩:∃ N,max a.length b.length=N:=⟨_,rfl⟩
 refine C8 Tryz.func209 rfl rfl ?_;refine gU1 (a15N @A6 @W8 @Y8 @X9 @V7 @Y0 @V8 @V9 @W0 @L7 @I4 @J5 @J3 @I5 @I6) ?_
 refine Ko (N+1) (fun k F u=>F.get 0=some (.slice va a.length vc)/\F.get 1=some (.slice wa b.length wc)/\F.get 7=some (.int .i64 (k:Nat))/\Ext Z u/\∃ c v o,F.get 6=some (.int .i64 ((c:Nat):Int))/\F.get 5=some v/\OL Z.n u 1 v (o.map fun d=>[dgv d])/\c<=1/\(k=N+1->c=0)/\o.length=k/\Dig o/\D9 o+c*65536 ^ k=D9 (a.take k)+D9 (b.take k))
  (fun r=>∃ F u v o,r=⟨.exit 0,F,u⟩/\Ext Z u/\F.get 5=some v/\OL Z.n u 1 v (o.map fun d=>[dgv d])/\o.length<=N+1/\Dig o/\D9 o=D9 a+D9 b) ?_ ?_ ?_
 ·exact⟨fR,fR,fR,.refl _,0,_,[],fR,fR,OL.nil,om,fun _=>rfl,rfl,Dig.nil,by simp[D9]⟩
 ·rintro k F u hk ⟨p,q,J,A,c,v,o,I,z,ho,a8,a4,s,m,hv⟩;have hn:=A.n;obtain⟨x,O⟩:∃ x,a.getD k 0=x:=⟨_,rfl⟩
  obtain⟨y,R⟩:∃ y,b.getD k 0=y:=⟨_,rfl⟩
  have xl:=a2 k;have yl:=a3 k;rw[O]at xl;rw[R]at yl;have L:((k:Nat):Int)+1=((k+1:Nat):Int):=om;by_cases a9:k<a.length\/k<b.length\/0<c
  ·have b0:k<=N:=by
    rcases Nat.lt_or_ge N k with h|h
    ·have:=a4 om;omega
    ·exact h
   obtain⟨D,hD⟩:∃ D,c+x+y=D:=⟨_,rfl⟩
   have f1:(D:Int).tmod 65536=((D % 65536:Nat):Int):=rfl;have M:IntKind.i64.wrap ((D:Int).tdiv 65536)=((D / 65536:Nat):Int):=by rw[show(D:Int).tdiv 65536=((D / 65536:Nat):Int)from rfl];exact wrap64_in om om
   have K:D9 (o++[D % 65536])+D / 65536*65536 ^ (k+1)=D9 (a.take (k+1))+D9 (b.take (k+1)):=by
    rw[Gs,s,Tv,Tv,O,R,Nat.pow_succ];exact we hv hD
   have MQ:k+1=N+1->D / 65536=0:=fun h=>by
    have:x=0:=by rw[<- O];exact HU om
    have:y=0:=by rw[<- R];exact HU om
    omega
   have g:OL Z.n (u.new [Value.int .i64 ((D % 65536:Nat):Int)]) 1 v (o.map fun d=>[dgv d]):=OL.ext ho (.new _ _);have q2:0<c->decide ((0:Int)<((c:Nat):Int))=true:=fun h=>by rw[decide_eq_true_iff];omega
   by_cases f:k<a.length
   ·by_cases e:k<b.length
    ·have G:decide (k<a.length)=true:=by simpa using f
     obtain⟨Y,C⟩:=I1 f;obtain rfl:Y=x:=by rw[<- O,getD_at C]
     obtain⟨sp,rfl,l3,l4⟩:=h1 om;have l5:u.row vb=some vcs:=by rw[A.row l3];exact l4
     have l7:=h2 k _ C;have l1:Nat.blt k a.length=true:=by rw[Nat.blt_eq];omega
     have H:decide (k<b.length)=true:=by simpa using e
     obtain⟨y',E⟩:=I1 e;obtain rfl:y'=y:=by rw[<- R,getD_at E]
     obtain⟨a7,rfl,S,U⟩:=k1 om;have V:u.row wb=some wcs:=by rw[A.row S];exact U
     have W:=k2 k _ E;have l2:Nat.blt k b.length=true:=by rw[Nat.blt_eq];omega
     have B:((c:Nat):Int)+((Y:Nat):Int)=((c+Y:Nat):Int):=om;have a6:((c+Y:Nat):Int)+((y':Nat):Int)=(D:Int):=om;refine gU1 (a34NBB @A6 @W8 @Y8 @X9 @V7 @Y0 @V8 @V9 @W0 @L7 @I4 @J5 @J3 @I5 @I6 @z @I @J @p @q @G @H @D6 @D8 @l5 @l7 @l1 @V @W @l2 @B @a6 @f1 @M) ?_;refine Y1 (row:=[dgv (D % 65536)]) (fun _ _ _ _=>Av) g (K0 om om) (C9 (by simp) (by simp)) (by rw[List.length_map];omega) (by simp;omega) ?_;rintro X a0 j i -;refine gU1 (a23NBB @A6 @W8 @Y8 @X9 @V7 @Y0 @V8 @V9 @W0 @L7 @I4 @J5 @J3 @I5 @I6 @z @I @J @p @q @f1 @M @L) ?_;exact⟨om,fR1 p,fR1 q,fR,i.ext (A.trans (.new _ _)) g (Nat.le_refl _),_,X,_,fR,fR,by rw[List.map_append];exact j,om,MQ,by rw[List.length_append,s];rfl,m.snoc (Nat.mod_lt _ om),K⟩
    ·have G:decide (k<a.length)=true:=by simpa using f
     obtain⟨Y,C⟩:=I1 f;obtain rfl:Y=x:=by rw[<- O,getD_at C]
     obtain⟨sp,rfl,l3,l4⟩:=h1 om;have l5:u.row vb=some vcs:=by rw[A.row l3];exact l4
     have l7:=h2 k _ C;have l1:Nat.blt k a.length=true:=by rw[Nat.blt_eq];omega
     have H:decide (k<b.length)=false:=by simpa using e
     obtain rfl:0=y:=by rw[<- R,HU e]
     have B:((c:Nat):Int)+((Y:Nat):Int)=(D:Int):=om;refine gU1 (a30NBB @A6 @W8 @Y8 @X9 @V7 @Y0 @V8 @V9 @W0 @L7 @I4 @J5 @J3 @I5 @I6 @z @I @J @p @q @G @H @D6 @D8 @l5 @l7 @l1 @B @f1 @M) ?_;refine Y1 (row:=[dgv (D % 65536)]) (fun _ _ _ _=>Av) g (K0 om om) (C9 (by simp) (by simp)) (by rw[List.length_map];omega) (by simp;omega) ?_;rintro X a0 j i -;refine gU1 (a23NBB @A6 @W8 @Y8 @X9 @V7 @Y0 @V8 @V9 @W0 @L7 @I4 @J5 @J3 @I5 @I6 @z @I @J @p @q @f1 @M @L) ?_;exact⟨om,fR1 p,fR1 q,fR,i.ext (A.trans (.new _ _)) g (Nat.le_refl _),_,X,_,fR,fR,by rw[List.map_append];exact j,om,MQ,by rw[List.length_append,s];rfl,m.snoc (Nat.mod_lt _ om),K⟩
   ·by_cases e:k<b.length
    ·have G:decide (k<a.length)=false:=by simpa using f
     obtain rfl:0=x:=by rw[<- O,HU f]
     have H:decide (k<b.length)=true:=by simpa using e
     obtain⟨y',E⟩:=I1 e;obtain rfl:y'=y:=by rw[<- R,getD_at E]
     obtain⟨a7,rfl,S,U⟩:=k1 om;have V:u.row wb=some wcs:=by rw[A.row S];exact U
     have W:=k2 k _ E;have l2:Nat.blt k b.length=true:=by rw[Nat.blt_eq];omega
     have B:((c:Nat):Int)+((y':Nat):Int)=(D:Int):=om;refine gU1 (a30NBB @A6 @W8 @Y8 @X9 @V7 @Y0 @V8 @V9 @W0 @L7 @I4 @J5 @J3 @I5 @I6 @z @I @J @p @q @G @H @D6 @D8 @V @W @l2 @B @f1 @M) ?_;refine Y1 (row:=[dgv (D % 65536)]) (fun _ _ _ _=>Av) g (K0 om om) (C9 (by simp) (by simp)) (by rw[List.length_map];omega) (by simp;omega) ?_;rintro X a0 j i -;refine gU1 (a23NBB @A6 @W8 @Y8 @X9 @V7 @Y0 @V8 @V9 @W0 @L7 @I4 @J5 @J3 @I5 @I6 @z @I @J @p @q @f1 @M @L) ?_;exact⟨om,fR1 p,fR1 q,fR,i.ext (A.trans (.new _ _)) g (Nat.le_refl _),_,X,_,fR,fR,by rw[List.map_append];exact j,om,MQ,by rw[List.length_append,s];rfl,m.snoc (Nat.mod_lt _ om),K⟩
    ·have G:decide (k<a.length)=false:=by simpa using f
     obtain rfl:0=x:=by rw[<- O,HU f]
     have H:decide (k<b.length)=false:=by simpa using e
     obtain rfl:0=y:=by rw[<- R,HU e]
     obtain rfl:c=D:=om;have a5:=q2 om;refine gU1 (a27NBB @A6 @W8 @Y8 @X9 @V7 @Y0 @V8 @V9 @W0 @L7 @I4 @J5 @J3 @I5 @I6 @z @I @J @p @q @G @H @D6 @D8 @a5 @f1 @M) ?_;refine Y1 (row:=[dgv (c % 65536)]) (fun _ _ _ _=>Av) g (K0 om om) (C9 (by simp) (by simp)) (by rw[List.length_map];omega) (by simp;omega) ?_;rintro X a0 j i -;refine gU1 (a23NBB @A6 @W8 @Y8 @X9 @V7 @Y0 @V8 @V9 @W0 @L7 @I4 @J5 @J3 @I5 @I6 @z @I @J @p @q @f1 @M @L) ?_;exact⟨om,fR1 p,fR1 q,fR,i.ext (A.trans (.new _ _)) g (Nat.le_refl _),_,X,_,fR,fR,by rw[List.map_append];exact j,om,MQ,by rw[List.length_append,s];rfl,m.snoc (Nat.mod_lt _ om),K⟩
  ·have G:decide (k<a.length)=false:=by rw[decide_eq_false_iff_not];omega
   have H:decide (k<b.length)=false:=by rw[decide_eq_false_iff_not];omega
   obtain rfl:c=0:=om;have cc:decide ((0:Int)<((0:Nat):Int))=false:=by decide
   refine gU1 (a23NBB @A6 @W8 @Y8 @X9 @V7 @Y0 @V8 @V9 @W0 @L7 @I4 @J5 @J3 @I5 @I6 @z @I @J @p @q @G @H @cc) ?_;rw[List.take_of_length_le (show a.length<=k by omega),List.take_of_length_le (show b.length<=k by omega)]at hv;exact⟨_,_,v,o,rfl,A,fR1 z,ho,om,m,om⟩
 rintro r ⟨F,u,v,o,rfl,A,z,ho,s,m,hv⟩;have a1:=DN.rM ho;obtain⟨b1,b2,rfl⟩:=a1.shape;refine gU1 (a17NBB @A6 @W8 @Y8 @X9 @V7 @Y0 @V8 @V9 @W0 @L7 @I4 @J5 @J3 @I5 @I6 @z @Tryz.results209) ?_;exact⟨_,o,_,rfl,A,a1,m,hv,om⟩
end Go.Proofs.T
namespace Go.Proofs.T
open Go Go.Ab
open Nat (reduceMul reduceEqDiff reduceAdd)
theorem DN.AF7 {Z:St}{v w:Value}{l:List Nat}{q:Nat}{n:Bool}{a:Option Addr}{y c:Nat}{new:List Value}(h:DN Z v l) (p:Z.row q=some [.bool n,w]) (r:w= .slice a y c) (o:new.length=2):DN (Z.upd q new) v l:=by
 rcases h with h|⟨b,off,sp,c,cells,i,j,k,m,f,g⟩
 ·exact .inl h
 ·by_cases e:b=q
  ·subst e;rw[p]at f;cases f;cases l with
   | nil=>
     obtain⟨s,-⟩:=sub_eq g;exact .inr ⟨b,off,sp,c,new,i,j,k,m,Eu,by rw[BR (by simpa[o]using s)];simp⟩
   | cons d l=>
     exfalso;obtain⟨-,u⟩:=sub_eq g;have:([Value.bool n,w]:List Value)[off]? =some (dgv d):=by
      have:=congrArg (·[0]?) u;simp only[List.map_cons,List.getElem?_cons_zero,List.getElem?_take,List.getElem?_drop,List.length_cons,Nat.add_zero]at this;rw[if_pos om]at this;exact this.symm
     rcases off with _|_|off
     ·cases this
     ·rw[r]at this;cases this
     ·simp at this
  ·exact .inr ⟨b,off,sp,c,cells,i,j,k,m,by rw[Ae e];exact f,g⟩
theorem jw {Z:St}{v w:Value}{a b:List Nat}{n m:Bool}(o:LU Z v n a) (p:LU Z w m b) (i:Dig a) (j:Dig b) (q:a.length<=100) (s:b.length<=100) :
  Ev (go Tryz.prog HS (.fn 178) [v,w] Z) (fun r=>∃ v' l Z',r=⟨false,v',Z'⟩/\Ext Z Z'/\LU Z' v' (n != m) l/\Dig l/\Trm l/\D9 l=D9 a*D9 b/\l.length<=a.length+b.length) ⟨⟩:=by
 obtain⟨A,rfl,e⟩:=o;obtain⟨vb,rfl,hvb⟩:=p;obtain⟨wa,ca,hsa⟩:=e.shape;obtain⟨wb,cb,hsb⟩:=hvb.shape;subst hsa hsb;refine C8 Tryz.func178 rfl rfl ?_;simp(maxSteps:=8000000) (disch:=first|exact dS|fail) only[↓bD,bU,reduceMul,reduceEqDiff,reduceAdd,Nat.reduceBEq,reduceIte,Option.isNone_none,A6,D7,BJ,BK,BL,DE,↓Bo,↓o9,u9,↓M5,↓M6,↓O6,↓O7,Wd];refine(Vo (e.mono (eX)) (hvb.mono (eX)) i j q s).mono ?_;rintro r ⟨v',l,Z2,rfl,c,d,k,y,g,f⟩;have u:=c.n;simp only[G3]at u;obtain⟨w2,c2,hs2⟩:=d.shape;subst hs2;have h:Z2.A7 (Z.n+1+1)=some [.bool false,.slice none 0 0]:=by rw[c.A7 (cL)];exact cL
 have z:Ext Z Z2:=Ext.trans (eX) c;simp(maxSteps:=8000000) (disch:=first|exact dS|fail) only[↓bD,bU,reduceMul,reduceEqDiff,reduceAdd,Nat.reduceBEq,reduceIte,Option.isNone_none,A6,D7,BJ,BK,BL,DE,↓Bo,↓o9,u9,↓M5,↓M6,↓O6,↓O7,Wd,h,asx c,G9,G6,Tryz.results178];exact⟨_,l,_,rfl,eX,⟨_,rfl,d.AF7 (A9 h) rfl rfl⟩,k,y,g,f⟩
def YC (n m:Bool) (A B:Nat):Bool×Nat:=if n=m then(n,A+B)else if A<B then(m,B-A)else(n,A-B)
theorem vC {A B:Nat}:decide (QN A B<0)=decide (A<B):=by
 rcases Nat.lt_trichotomy A B with h|h|h
 ·have e:decide (A<B)=true:=decide_eq_true h;rw[XH h,e];rfl
 ·subst h;have e:decide (A<A)=false:=decide_eq_false (Nat.lt_irrefl _);rw[iZ,e];rfl
 ·have e:decide (A<B)=false:=decide_eq_false om;rw[XI h,e];rfl
theorem AF8 {Z:St}{v w:Value}{a b:List Nat}{n m:Bool}(X:LU Z v n a) (Y:LU Z w m b) (o:Dig a) (p:Dig b) (N:Trm a) (R:Trm b) (L:a.length<=100) (M:b.length<=100) :
  Ev (go Tryz.prog HS (.fn 177) [v,w] Z) (fun r=>∃ v' l Z',r=⟨false,v',Z'⟩/\Ext Z Z'/\LU Z' v' (YC n m (D9 a) (D9 b)).1 l/\Dig l/\D9 l=(YC n m (D9 a) (D9 b)).2/\l.length<=a.length+b.length+1) ⟨⟩:=by
 obtain⟨va,rfl,h⟩:=X;obtain⟨vb,rfl,hvb⟩:=Y;obtain⟨wa,ca,hsa⟩:=h.shape;obtain⟨wb,cb,hsb⟩:=hvb.shape;subst hsa hsb;have e:Ext Z (((Z.new [.bool n,.slice wa a.length ca]).new [.bool m,.slice wb b.length cb]).new [.bool false,.slice none 0 0] (some 168)):=eX;refine C8 Tryz.func177 rfl rfl ?_;by_cases f:n=m
 ·have q:bi n m (!m)=true:=by subst f;cases n<;>rfl
  have y:YC n m (D9 a) (D9 b)=(n,D9 a+D9 b):=by unfold YC;rw[if_pos f]
  rw[y];simp(maxSteps:=8000000) (disch:=first|exact dS|fail) only[↓bD,bU,reduceMul,reduceEqDiff,reduceAdd,Nat.reduceBEq,reduceIte,Option.isNone_none,A6,D7,BJ,BK,BL,DE,↓Bo,↓o9,u9,↓M5,↓M6,↓O6,↓O7,q];refine(vD (h.mono e) (hvb.mono e) o p L M).mono ?_;rintro r ⟨v',l,Z2,rfl,c,d,u,i,s⟩;have D:=c.n;simp only[G3]at D;obtain⟨W,U,g⟩:=d.shape;subst g;have k:Z2.A7 (Z.n+1+1)=some [.bool false,.slice none 0 0]:=by rw[c.A7 (cL)];exact cL
  have V:Ext Z Z2:=e.trans c;simp(maxSteps:=8000000) (disch:=first|exact dS|fail) only[↓bD,bU,reduceMul,reduceEqDiff,reduceAdd,Nat.reduceBEq,reduceIte,Option.isNone_none,A6,D7,BJ,BK,BL,DE,↓Bo,↓o9,u9,↓M5,↓M6,↓O6,↓O7,k,asx c,G9,G6,Tryz.results177];exact⟨_,l,_,rfl,eX,⟨_,rfl,d.AF7 (A9 k) rfl rfl⟩,u,i,s⟩
 ·have q:bi n m (!m)=false:=by cases n<;>cases m<;>first|rfl|exact absurd rfl f
  simp(maxSteps:=8000000) (disch:=first|exact dS|fail) only[↓bD,bU,reduceMul,reduceEqDiff,reduceAdd,Nat.reduceBEq,reduceIte,Option.isNone_none,A6,D7,BJ,BK,BL,DE,↓Bo,↓o9,u9,↓M5,↓M6,↓O6,↓O7,q];refine(Cv (h.mono e) om).mono ?_;rintro r ⟨xa,a',rfl,z,⟨ka,J⟩,O,F,-⟩;have H:Dig a':=by rw[J];exact o.take ka
  obtain rfl:a'=a:=Fq H o O N F;obtain⟨w3,c3,hs3⟩:=z.shape;subst hs3;simp(maxSteps:=8000000) (disch:=first|exact dS|fail) only[↓bD,bU,reduceMul,reduceEqDiff,reduceAdd,Nat.reduceBEq,reduceIte,Option.isNone_none,A6,D7,BJ,BK,BL,DE,↓Bo,↓o9,u9,↓M5,↓M6,↓O6,↓O7];refine(Cv (hvb.mono e) om).mono ?_;rintro r ⟨xb,b',rfl,C,⟨kb,K⟩,S,G,-⟩;have I:Dig b':=by rw[K];exact p.take kb
  obtain rfl:b'=b:=Fq I p S R G;obtain⟨w4,c4,hs4⟩:=C.shape;subst hs4;simp(maxSteps:=8000000) (disch:=first|exact dS|fail) only[↓bD,bU,reduceMul,reduceEqDiff,reduceAdd,Nat.reduceBEq,reduceIte,Option.isNone_none,A6,D7,BJ,BK,BL,DE,↓Bo,↓o9,u9,↓M5,↓M6,↓O6,↓O7];refine(ME z C o p N R om om).mono ?_;rintro r rfl;have E:=vC (A:=D9 a') (B:=D9 b');by_cases j:D9 a'<D9 b'
  ·have y:YC n m (D9 a') (D9 b')=(m,D9 b'-D9 a'):=by unfold YC;rw[if_neg f,if_pos j]
   rw[y];rw[decide_eq_true j]at E;simp(maxSteps:=8000000) (disch:=first|exact dS|fail) only[↓bD,bU,reduceMul,reduceEqDiff,reduceAdd,Nat.reduceBEq,reduceIte,Option.isNone_none,A6,D7,BJ,BK,BL,DE,↓Bo,↓o9,u9,↓M5,↓M6,↓O6,↓O7,E,asx (Ext.refl _),G9,G6];refine(SB (hvb.mono e) (h.mono e) p o M L om (Trm.length_le p N om)).mono ?_;rintro r ⟨v',l,Z2,rfl,c,d,u,tl,i,s,-⟩;have D:=c.n;simp only[G3]at D;obtain⟨W,U,g⟩:=d.shape;subst g;have k:Z2.A7 (Z.n+1+1)=some [.bool false,.slice none 0 0]:=by rw[c.A7 (cL)];exact cL
   have V:Ext Z Z2:=e.trans c;simp(maxSteps:=8000000) (disch:=first|exact dS|fail) only[↓bD,bU,reduceMul,reduceEqDiff,reduceAdd,Nat.reduceBEq,reduceIte,Option.isNone_none,A6,D7,BJ,BK,BL,DE,↓Bo,↓o9,u9,↓M5,↓M6,↓O6,↓O7,k,asx c,G9,G6,Tryz.results177];exact⟨_,l,_,rfl,eX,⟨_,rfl,d.AF7 (A9 k) rfl rfl⟩,u,i,om⟩
  ·have y:YC n m (D9 a') (D9 b')=(n,D9 a'-D9 b'):=by unfold YC;rw[if_neg f,if_neg j]
   rw[y];rw[decide_eq_false j]at E;simp(maxSteps:=8000000) (disch:=first|exact dS|fail) only[↓bD,bU,reduceMul,reduceEqDiff,reduceAdd,Nat.reduceBEq,reduceIte,Option.isNone_none,A6,D7,BJ,BK,BL,DE,↓Bo,↓o9,u9,↓M5,↓M6,↓O6,↓O7,E,asx (Ext.refl _),G9,G6];refine(SB (h.mono e) (hvb.mono e) o p L M om (Trm.length_le o R om)).mono ?_;rintro r ⟨v',l,Z2,rfl,c,d,u,tl,i,s,-⟩;have D:=c.n;simp only[G3]at D;obtain⟨W,U,g⟩:=d.shape;subst g;have k:Z2.A7 (Z.n+1+1)=some [.bool false,.slice none 0 0]:=by rw[c.A7 (cL)];exact cL
   have V:Ext Z Z2:=e.trans c;simp(maxSteps:=8000000) (disch:=first|exact dS|fail) only[↓bD,bU,reduceMul,reduceEqDiff,reduceAdd,Nat.reduceBEq,reduceIte,Option.isNone_none,A6,D7,BJ,BK,BL,DE,↓Bo,↓o9,u9,↓M5,↓M6,↓O6,↓O7,k,asx c,G9,G6,Tryz.results177];exact⟨_,l,_,rfl,eX,⟨_,rfl,d.AF7 (A9 k) rfl rfl⟩,u,i,om⟩
