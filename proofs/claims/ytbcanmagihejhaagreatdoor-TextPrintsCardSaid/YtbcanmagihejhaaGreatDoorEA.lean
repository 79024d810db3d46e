/- The G2 check of any part of a AL. -/
import Derived.Test.YtbcanmagihejhaaGreatDoorSA
import Derived.Test.YtbcanmagihejhaaGreatDoorEQ
set_option linter.unusedSimpArgs false
set_option linter.unusedVariables false
set_option linter.defProp false
set_option maxHeartbeats 32000000
set_option maxRecDepth 100000
namespace Go.Proofs.T
open Go Go.Ab
section
variable {k:Nat}{n d:Int}{nm o:By}
def ML {m:Nat}:decide ((k:Int)=(m:Int))=decide (k=m):=by rw[z7z,z3z,z3z];omega
def TG:Au T4 n d nm k=(Dk n d&&decide (0<=n)&&decide ((1000000:Int) % d=0)&&decide (n<=1000000000*d)&&decide (nm=[])&&decide (k=0)):=by unfold Au;rw[z1z rfl]
def Pn:Au nmB n d nm k=(W0 nm&& !decide (nm=W9)&& !decide (nm=Y4)&&(decide (n=0)&&decide (d=0))&&decide (k=0)):=by unfold Au;rw[z0z (by decide),z1z rfl]
def P6 (h:o=[43]\/o=[45]\/o=[42]\/o=[47]\/o=W9\/o=Y4):Au o n d nm k=((decide (n=0)&&decide (d=0))&&decide (nm=[])&&decide (k=2)):=by
 unfold Au;rw[z0z (by rcases h with rfl|rfl|rfl|rfl|rfl|rfl<;>decide),z0z (by rcases h with rfl|rfl|rfl|rfl|rfl|rfl<;>decide),z1z h]
def JI (a:o≠T4) (b:o≠nmB) (h:¬ (o=[43]\/o=[45]\/o=[42]\/o=[47]\/o=W9\/o=Y4)):Au o n d nm k=false:=by
 unfold Au;rw[z0z a,z0z b,z0z h]
def kY {Z:St}{a:Option Addr}{c:Nat}(O: -1000000000000000000<=n/\n<=1000000000000000000) (N:0<=d/\d<=1000000):
  Ev (gO 131 [.agg ⟨[str o,.int .i64 n,.int .i64 d,str nm,.slice a k c]⟩] Z) (fun r=>∃ Z',r=⟨false,.bool (Au o n d nm k),Z'⟩/\Ext Z Z') ⟨⟩:=by
 have I:Ext Z (Z.new [str o,.int .i64 n,.int .i64 d,str nm,.slice a k c]):=eX;have A:decide ((k:Int)=0)=decide (k=0):=ML (m:=0);have q:decide ((k:Int)=2)=decide (k=2):=ML (m:=2);refine G1 Tryz.func131 rfl rfl ?_;cases i:decide (o=[110,117,109])with
 | true=>
   obtain rfl:o=[110,117,109]:=z6z i;rw[show Au [110,117,109] n d nm k=_ from TG];refine gS1 i ?_;refine(TW (n:=n) (d:=d) ⟨om,om⟩ ⟨om,om⟩).mono ?_;rintro r ⟨Z2,rfl,F⟩;have C:Z2.row Z.n=some [str [110,117,109],.int .i64 n,.int .i64 d,str nm,.slice a k c]:=eT (F.row (cL)) cL;have f:Ext Z Z2:=(Ext.Aw (.refl _) _).trans F;cases b:Dk n d
   ·refine gS1 (aI C (a3N @H7 @I0 @Tryz.results131)) ?_;exact⟨_,rfl,f⟩
   have K:1<=d:=by unfold Dk at b;simp only[T1,Ej]at b;exact b.1
   have E:decide (d=0)=false:=dF;cases e:decide (n<0)
   case true=>
    rw[z4z (p:=0<=n) (by have:=z6z e;omega)];refine gS1 (aI C (aI e (aI E (a3N @H7 @I0 @Tryz.results131)))) ?_;exact⟨_,rfl,f⟩
   have H:0<=n:=by have:=z9z e;omega
   rw[AK H];have G:(1000000:Int).tmod d=1000000 % d:=mq om;have Q:(10:Int) ^ 0=1:=rfl;cases g:decide ((1000000:Int) % d=0)
   ·refine gS1 (aI C (aI e (aI E (aI G (aI g (a3N @H7 @I0 @Tryz.results131)))))) ?_;exact⟨_,rfl,f⟩
   cases z:decide (1000000000*d<n)
   case true=>
    rw[z4z (p:=n<=1000000000*d) (by have:=z6z z;omega)];refine gS1 (aI C (aI e (aI E (aI G (aI g (aI z (a3N @H7 @I0 @Tryz.results131))))))) ?_;exact⟨_,rfl,f⟩
   rw[AK (p:=n<=1000000000*d) (by have:=z9z z;omega)];cases D:decide (nm=[])
   ·refine gS1 (aI C (aI e (aI E (aI G (aI g (aI z (aI D (a3N @H7 @I0 @Tryz.results131)))))))) ?_;exact⟨_,rfl,f⟩
   cases J:decide (k=0)
   ·refine gS1 (aI C (aI e (aI E (aI G (aI g (aI z (aI D (aI A (aI J (a3N @H7 @I0 @Tryz.results131)))))))))) ?_;exact⟨_,rfl,f⟩
   ·refine gS1 (aI C (aI e (aI E (aI G (aI g (aI z (aI D (aI A (aI J (a3N @H7 @I0 @Tryz.results131)))))))))) ?_;exact⟨_,rfl,f⟩
 | false=>
   have L:o≠T4:=z9z i;cases j:decide (o=[110,97,109,101])with
   | true=>
     obtain rfl:o=[110,97,109,101]:=z6z j;rw[show Au [110,97,109,101] n d nm k=_ from Pn];refine gS1 (aI i j) ?_;refine Lo.mono ?_;rintro r rfl;rw[MH];have f:=I;cases b:W0 nm
     ·refine gS1 (aI b (a3N @H7 @I0 @Tryz.results131)) ?_;exact⟨_,rfl,f⟩
     cases e:decide (nm=[109,105,110])
     case true=>
      rw[show decide (nm=W9)=true from e];refine gS1 (aI b (aI e (a3N @H7 @I0 @Tryz.results131))) ?_;exact⟨_,rfl,f⟩
     rw[show decide (nm=W9)=false from e];cases g:decide (nm=[109,97,120])
     case true=>
      rw[show decide (nm=Y4)=true from g];refine gS1 (aI b (aI e (aI g (a3N @H7 @I0 @Tryz.results131)))) ?_;exact⟨_,rfl,f⟩
     rw[show decide (nm=Y4)=false from g];cases z:(decide (n=0)&&decide (d=0))
     ·refine gS1 (aI b (aI e (aI g (aI @I1 (aI z (a3N @H7 @I0 @Tryz.results131)))))) ?_;exact⟨_,rfl,f⟩
     cases D:decide (k=0)
     ·refine gS1 (aI b (aI e (aI g (aI @I1 (aI z (aI A (aI D (a3N @H7 @I0 @Tryz.results131)))))))) ?_;exact⟨_,rfl,f⟩
     ·refine gS1 (aI b (aI e (aI g (aI @I1 (aI z (aI A (aI D (a3N @H7 @I0 @Tryz.results131)))))))) ?_;exact⟨_,rfl,f⟩
   | false=>
     have M:o≠nmB:=z9z j;have f:=I;cases l:decide (o=[43])
     case true=>
      rw[P6 (.inl (z6z l))];cases b:(decide (n=0)&&decide (d=0))
      ·refine gS1 (aI i (aI j (aI l (aI @I1 (aI b (a3N @H7 @I0 @Tryz.results131)))))) ?_;exact⟨_,rfl,f⟩
      cases e:decide (nm=[])
      ·refine gS1 (aI i (aI j (aI l (aI @I1 (aI b (aI e (a3N @H7 @I0 @Tryz.results131))))))) ?_;exact⟨_,rfl,f⟩
      cases g:decide (k=2)
      ·refine gS1 (aI i (aI j (aI l (aI @I1 (aI b (aI e (aI q (aI g (a3N @H7 @I0 @Tryz.results131))))))))) ?_;exact⟨_,rfl,f⟩
      ·refine gS1 (aI i (aI j (aI l (aI @I1 (aI b (aI e (aI q (aI g (a3N @H7 @I0 @Tryz.results131))))))))) ?_;exact⟨_,rfl,f⟩
     cases s:decide (o=[45])
     case true=>
      rw[P6 (.inr (.inl (z6z s)))];cases b:(decide (n=0)&&decide (d=0))
      ·refine gS1 (aI i (aI j (aI l (aI s (aI @I1 (aI b (a3N @H7 @I0 @Tryz.results131))))))) ?_;exact⟨_,rfl,f⟩
      cases e:decide (nm=[])
      ·refine gS1 (aI i (aI j (aI l (aI s (aI @I1 (aI b (aI e (a3N @H7 @I0 @Tryz.results131)))))))) ?_;exact⟨_,rfl,f⟩
      cases g:decide (k=2)
      ·refine gS1 (aI i (aI j (aI l (aI s (aI @I1 (aI b (aI e (aI q (aI g (a3N @H7 @I0 @Tryz.results131)))))))))) ?_;exact⟨_,rfl,f⟩
      ·refine gS1 (aI i (aI j (aI l (aI s (aI @I1 (aI b (aI e (aI q (aI g (a3N @H7 @I0 @Tryz.results131)))))))))) ?_;exact⟨_,rfl,f⟩
     cases u:decide (o=[42])
     case true=>
      rw[P6 (.inr (.inr (.inl (z6z u))))];cases b:(decide (n=0)&&decide (d=0))
      ·refine gS1 (aI i (aI j (aI l (aI s (aI u (aI @I1 (aI b (a3N @H7 @I0 @Tryz.results131)))))))) ?_;exact⟨_,rfl,f⟩
      cases e:decide (nm=[])
      ·refine gS1 (aI i (aI j (aI l (aI s (aI u (aI @I1 (aI b (aI e (a3N @H7 @I0 @Tryz.results131))))))))) ?_;exact⟨_,rfl,f⟩
      cases g:decide (k=2)
      ·refine gS1 (aI i (aI j (aI l (aI s (aI u (aI @I1 (aI b (aI e (aI q (aI g (a3N @H7 @I0 @Tryz.results131))))))))))) ?_;exact⟨_,rfl,f⟩
      ·refine gS1 (aI i (aI j (aI l (aI s (aI u (aI @I1 (aI b (aI e (aI q (aI g (a3N @H7 @I0 @Tryz.results131))))))))))) ?_;exact⟨_,rfl,f⟩
     cases v:decide (o=[47])
     case true=>
      rw[P6 (.inr (.inr (.inr (.inl (z6z v)))))];cases b:(decide (n=0)&&decide (d=0))
      ·refine gS1 (aI i (aI j (aI l (aI s (aI u (aI v (aI @I1 (aI b (a3N @H7 @I0 @Tryz.results131))))))))) ?_;exact⟨_,rfl,f⟩
      cases e:decide (nm=[])
      ·refine gS1 (aI i (aI j (aI l (aI s (aI u (aI v (aI @I1 (aI b (aI e (a3N @H7 @I0 @Tryz.results131)))))))))) ?_;exact⟨_,rfl,f⟩
      cases g:decide (k=2)
      ·refine gS1 (aI i (aI j (aI l (aI s (aI u (aI v (aI @I1 (aI b (aI e (aI q (aI g (a3N @H7 @I0 @Tryz.results131)))))))))))) ?_;exact⟨_,rfl,f⟩
      ·refine gS1 (aI i (aI j (aI l (aI s (aI u (aI v (aI @I1 (aI b (aI e (aI q (aI g (a3N @H7 @I0 @Tryz.results131)))))))))))) ?_;exact⟨_,rfl,f⟩
     cases y:decide (o=[109,105,110])
     case true=>
      rw[P6 (.inr (.inr (.inr (.inr (.inl (z6z y))))))];cases b:(decide (n=0)&&decide (d=0))
      ·refine gS1 (aI i (aI j (aI l (aI s (aI u (aI v (aI y (aI @I1 (aI b (a3N @H7 @I0 @Tryz.results131)))))))))) ?_;exact⟨_,rfl,f⟩
      cases e:decide (nm=[])
      ·refine gS1 (aI i (aI j (aI l (aI s (aI u (aI v (aI y (aI @I1 (aI b (aI e (a3N @H7 @I0 @Tryz.results131))))))))))) ?_;exact⟨_,rfl,f⟩
      cases g:decide (k=2)
      ·refine gS1 (aI i (aI j (aI l (aI s (aI u (aI v (aI y (aI @I1 (aI b (aI e (aI q (aI g (a3N @H7 @I0 @Tryz.results131))))))))))))) ?_;exact⟨_,rfl,f⟩
      ·refine gS1 (aI i (aI j (aI l (aI s (aI u (aI v (aI y (aI @I1 (aI b (aI e (aI q (aI g (a3N @H7 @I0 @Tryz.results131))))))))))))) ?_;exact⟨_,rfl,f⟩
     cases B:decide (o=[109,97,120])
     case true=>
      rw[P6 (.inr (.inr (.inr (.inr (.inr (z6z B))))))];cases b:(decide (n=0)&&decide (d=0))
      ·refine gS1 (aI i (aI j (aI l (aI s (aI u (aI v (aI y (aI B (aI @I1 (aI b (a3N @H7 @I0 @Tryz.results131))))))))))) ?_;exact⟨_,rfl,f⟩
      cases e:decide (nm=[])
      ·refine gS1 (aI i (aI j (aI l (aI s (aI u (aI v (aI y (aI B (aI @I1 (aI b (aI e (a3N @H7 @I0 @Tryz.results131)))))))))))) ?_;exact⟨_,rfl,f⟩
      cases g:decide (k=2)
      ·refine gS1 (aI i (aI j (aI l (aI s (aI u (aI v (aI y (aI B (aI @I1 (aI b (aI e (aI q (aI g (a3N @H7 @I0 @Tryz.results131)))))))))))))) ?_;exact⟨_,rfl,f⟩
      ·refine gS1 (aI i (aI j (aI l (aI s (aI u (aI v (aI y (aI B (aI @I1 (aI b (aI e (aI q (aI g (a3N @H7 @I0 @Tryz.results131)))))))))))))) ?_;exact⟨_,rfl,f⟩
     rw[JI L M (by
      rintro(h|h|h|h|h|h)
      ·exact z9z l h
      ·exact z9z s h
      ·exact z9z u h
      ·exact z9z v h
      ·exact z9z y h
      ·exact z9z B h)]
     refine gS1 (aI i (aI j (aI l (aI s (aI u (aI v (aI y (aI B (a3N @H7 @I0 @Tryz.results131))))))))) ?_;exact⟨_,rfl,f⟩
end
section
variable {es:List Ex}{k:Nat}{e:Ex}
def Lv:∀ {a b:List Ex},CN (a++b)=(CN a&&CN b)
 | [],b=>by rw[Bb,Bx];rfl
 |e::a,b=>by rw[JF,AF,AF,Lv,Bool.and_assoc]
def ZD (h:es[k]? =some e):CN (es.take (k+1))=(CN (es.take k)&&GU e):=by
 rw[Gf,h,Lv];show _=_;rw[show(some e).toList=[e]from rfl,AF,Bb,Sh]
def Vx (h:CN (es.take k)=false):CN es=false:=by
 rw[<- ph k es,Lv,h,CZ]
def WfL.get {w:Nat}:∀ {es:List Ex}{k:Nat}{e:Ex},WfL w es->es[k]? =some e->WfE w e
 |a::es,0,e,h,he=>by cases he;exact(V8.1 h).1
 |a::es,k+1,e,h,he=>WfL.get (V8.1 h).2 (by simpa using he)
 | [],k,e,h,he=>by simp at he
def ZF:∀ {es:List Ex}{k:Nat}{e:Ex},es[k]? =some e->SizeOf.sizeOf e<SizeOf.sizeOf es
 |a::es,0,e,he=>by cases he;simp;omega
 |a::es,k+1,e,he=>by have:=ZF (es:=es) (k:=k) (by simpa using he);simp;omega
 | [],k,e,he=>by simp at he
def cz:∀ (s:Nat){Z:St}{w:Nat}{e:Ex}{row:List Value},SizeOf.sizeOf e<s->WfE w e->w<=4->Aq Z row e->Ev (gO 77 [.agg ⟨row⟩] Z) (fun r=>∃ Z',r=⟨false,.bool (GU e),Z'⟩/\Ext Z Z') ⟨⟩:=by
 intro s;induction s with
 |zero=>intro Z w e row E;omega
 | succ s ih=>
   intro Z w e row E I C G;obtain⟨o,n,d,nm,es⟩:=e;obtain⟨v,D0,rfl,h1,-,h2⟩:=G;obtain⟨a,c,b,off,cells,rfl,s1,s2⟩:=BH.slice h1 h2;obtain⟨k1,k2,k3,k4,k5,k6⟩:=BK.1 I;rw[Cv];obtain⟨R,hR⟩:∃ R:List Value,[str o,.int .i64 n,.int .i64 d,str nm,.slice a es.length c]=R:=⟨_,rfl⟩
   have z:sub R 0 5=some R:=by rw[<- hR];rfl
   have h:sub R 4 1=some [.slice a es.length c]:=by rw[<- hR];rfl
   have F:Ext Z (Z.new R):=eX;rw[hR];refine G1 Tryz.func77 rfl rfl ?_;refine gS1 z ?_;rw[<- hR];refine(kY (o:=o) (nm:=nm) (k:=es.length) ⟨om,om⟩ k4).mono ?_;rintro r ⟨M,rfl,m⟩;rw[hR]at m ⊢;refine gS ?_
   refine GL es.length (fun k fr Z'=>fr.get 4=some (.int .i64 k)/\fr.get 1=some (.pointer (some ⟨Z.n,0,none⟩))/\Ext (Z.new R) Z'/\fr.get 3=some (.bool (Au o n d nm es.length&&CN (es.take k))))
    (fun r=>∃ fr Z',r=⟨.exit 0,fr,Z'⟩/\Ext Z Z'/\fr.get 3=some (.bool (Au o n d nm es.length&&CN es))) ?_ ?_ ?_
   ·exact⟨fR,fR,m,by rw[TY,Bb,Sh];exact(fR)⟩
   ·rintro k fr Z' O ⟨g4,j,i,g3⟩;have D:Z'.row Z.n=some R:=eT (i.row (by simp)) cL;have y:=i.n;simp only[K9]at y;have g:Ext Z Z':=F.trans i;have K:decide ((k:Int)<(es.length:Int))=decide (k<es.length):=by rw[z7z,z3z,z3z];omega
    by_cases B:k=es.length
    ·subst B;rw[Dq]at g3;have p:decide (es.length<es.length)=false:=dF;refine gS1 (aI g4 (aI j (aI g3 (aI p (aI D h))))) ?_;exact⟨_,_,rfl,g,fR1 g3⟩
    ·have p:decide (k<es.length)=true:=dT;cases f:(Au o n d nm es.length&&CN (es.take k))with
     | false=>
       rw[f]at g3;refine gS1 (aI g4 (aI j (aI g3 (aI p (aI D h))))) ?_;refine⟨_,_,rfl,g,?_⟩;have:(Au o n d nm es.length&&CN es)=false:=by
        cases H:Au o n d nm es.length
        ·rfl
        ·rw[H,Bx]at f;rw[Vx f];rfl
       rw[this];exact(fR1 g3)
     | true=>
       rw[f]at g3;rw[T1]at f;obtain⟨x,q⟩:=I3 (l:=es) (k:=k) om;obtain⟨rx,s3,x3⟩:=s2 k x q;obtain⟨sp,rfl,l3,l4⟩:=s1 om;have L:=eT (g.row l3) l4;have J:Nat.blt k es.length=true:=by rw[EJ];omega
       have Q:=x3.len;have A:sub rx 0 5=some rx:=G3 om om;refine gS1 (aI g4 (aI j (aI g3 (aI p (aI D (aI h (aI L (aI s3 (aI J A))))))))) ?_;refine(ih (by have:=ZF q;simp at E;omega) (WfL.get k6 q) C (x3.mono g)).mono ?_;rintro r ⟨N,rfl,u⟩;refine gS1 (aI g4 (aI j g3)) ?_;refine⟨om,fR,fR1 j,i.trans u,?_⟩;rw[ZD q,f.1,f.2,Bx,Bx];exact(fR)
   ·rintro r ⟨fr,Z',rfl,i,g3⟩;refine gS1 (aI g3 @Tryz.results77) ?_;exact⟨_,rfl,i⟩
def dA {Z:St}{w m:Nat}{row:List Value}(B:WfE w e) (j:w<=4) (E:R0 e<=m) (z:m<=1000) (h:Aq Z row e):Ev (gO 48 [.agg ⟨row⟩] Z) (fun r=>∃ Z',r=⟨false,.bool (EM e),Z'⟩/\Ext Z Z') ⟨⟩:=by
 have s:=h.len;have a:sub row 0 5=some row:=G3 om om;refine G1 Tryz.func48 rfl rfl ?_;refine gS1 a ?_;have o:Ext Z (Z.new row):=eX;refine(cz _ (JQ _) B j (h.mono o)).mono ?_;rintro r ⟨y,rfl,b⟩;have l:y.row Z.n=some row:=eT (b.row (by simp)) cL;have i:=o.trans b;unfold EM;cases A:GU e with
 | false=>
   refine gS1 (aI l (aI a (a3N @H7 @I0 @Tryz.results48))) ?_;exact⟨_,rfl,i⟩
 | true=>
   have p:=XE _ _ (JQ _) A;refine gS1 (aI l a) ?_;refine(kV _ (JQ _) om p (h.mono i)).mono ?_;rintro r ⟨C,rfl,c⟩;have v:=eT (c.row (by have:=b.n;simp at this;omega)) l;have g:=i.trans c;cases u:decide (R0 e<=60)with
   | false=>
     have q:decide (60<((R0 e:Nat):Int))=true:=AK (by have:=z9z u;omega);refine gS1 (aI q (aI v (aI a (a3N @H7 @I0 @Tryz.results48)))) ?_;exact⟨_,rfl,g⟩
   | true=>
     have q:decide (60<((R0 e:Nat):Int))=false:=z4z (by have:=z6z u;omega);refine gS1 (aI q (aI v a)) ?_;refine(kW _ (JQ _) om p (h.mono g)).mono ?_;rintro r ⟨D,rfl,d⟩;cases f:decide (CF e<=12)with
     | false=>
       have q2:decide (12<((CF e:Nat):Int))=true:=AK (by have:=z9z f;omega);refine gS1 (aI q2 (a3N @H7 @I0 @Tryz.results48)) ?_;exact⟨_,rfl,g.trans d⟩
     | true=>
       have q2:decide (12<((CF e:Nat):Int))=false:=z4z (by have:=z6z f;omega);refine gS1 (aI q2 (a3N @H7 @I0 @Tryz.results48)) ?_;exact⟨_,rfl,g.trans d⟩
end

section
variable {fr:Fr}{Z:St}{x ix a v:Operand}{ve:Value}
def AN3:LDn 52 3:=by unfold LDn;intros;kernel_rfl
def AN4:LVn 52 3:=by unfold LVn;intros;kernel_rfl
def Aj7:Ad Tryz.prog 52=some (.agg ⟨[.int .i64 0,.int .i64 0,.int .i64 0]⟩):=kR
def Aj8:Ep Tryz.prog fr 52 #[]=some (.agg ⟨[.int .i64 0,.int .i64 0,.int .i64 0]⟩):=kR
def FY {b off i:Nat}:Ih Tryz.prog 52 (.pointer (some ⟨b,off,none⟩)) i=bb (Nat.blt i 3) (some (.pointer (some ⟨b,off+i*1,none⟩))):=kR
def Aj9:BVn 52 1 1:=by unfold BVn;intros;kernel_rfl
end
def AS3:bfC [1,1]= .seq (bfC [1,1,0]) (bfC [1,1,1]):=kR
def GN {b:St}{p t:Nat}{H:List Nat}{cs:List Value}:Ao (J0 b (p::t::H)) (J0 (b.upd p cs) (p::t::H)):=K8 (by simp) fun c d a=>⟨a,I2 fun e=>a (by simp[e])⟩
def TC:decide ((1:Int)=0)=false/\decide ((2:Int)=0)=false/\decide ((2:Int)=1)=false/\decide ((3:Int)=0)=false/\decide ((3:Int)=1)=false/\decide ((3:Int)=2)=false/\decide ((4:Int)=0)=false/\decide ((4:Int)=1)=false/\decide ((4:Int)=2)=false/\decide ((4:Int)=3)=false/\decide ((5:Int)=0)=false/\decide ((5:Int)=1)=false/\decide ((5:Int)=2)=false/\decide ((5:Int)=3)=false/\decide ((5:Int)=4)=false/\decide ((6:Int)=0)=false/\decide ((6:Int)=1)=false/\decide ((6:Int)=2)=false/\decide ((6:Int)=3)=false/\decide ((6:Int)=4)=false/\decide ((6:Int)=5)=false/\decide ((7:Int)=0)=false/\decide ((7:Int)=1)=false/\decide ((7:Int)=2)=false/\decide ((7:Int)=3)=false/\decide ((7:Int)=4)=false/\decide ((7:Int)=5)=false/\decide ((7:Int)=6)=false/\decide ((8:Int)=0)=false/\decide ((8:Int)=1)=false/\decide ((8:Int)=2)=false/\decide ((8:Int)=3)=false/\decide ((8:Int)=4)=false/\decide ((8:Int)=5)=false/\decide ((8:Int)=6)=false/\decide ((8:Int)=7)=false/\decide ((0:Int)=0)=true/\decide ((1:Int)=1)=true/\decide ((2:Int)=2)=true/\decide ((3:Int)=3)=true/\decide ((4:Int)=4)=true/\decide ((5:Int)=5)=true/\decide ((6:Int)=6)=true/\decide ((7:Int)=7)=true/\decide ((8:Int)=8)=true:=⟨rfl,rfl,rfl,rfl,rfl,rfl,rfl,rfl,rfl,rfl,rfl,rfl,rfl,rfl,rfl,rfl,rfl,rfl,rfl,rfl,rfl,rfl,rfl,rfl,rfl,rfl,rfl,rfl,rfl,rfl,rfl,rfl,rfl,rfl,rfl,rfl,rfl,rfl,rfl,rfl,rfl,rfl,rfl,rfl,rfl⟩
def nine {z:Int}(a:0<=z) (b:z<9):z=0\/z=1\/z=2\/z=3\/z=4\/z=5\/z=6\/z=7\/z=8:=om
def AS4 {k:Nat}(h:k<4):∃ s:By,sub ([str [109,105,110],str [120],str [],str [57]]:List Value) k 1=some [str s]/\s.length<=3:=by
 match k,h with
 |0,_=>exact⟨_,rfl,by decide⟩
 |1,_=>exact⟨_,rfl,by decide⟩
 |2,_=>exact⟨_,rfl,by decide⟩
 |3,_=>exact⟨_,rfl,by decide⟩
def xH {Z0 E:St}{H:List Nat}{p q t w m:Nat}{L q1 q2:Int}{fr:Fr}{row:List Value}{o nm:By}{j i:Int}{es:List Ex}(h:BfS Z0 H p q t L q1 q2 fr E row (.mk o j i nm es)) (Q:X6 L) (a5:X6 q1) (u:∀ c∈H,c<Z0.n) (hw:WfE w (.mk o j i nm es)) (b1:1<=w) (b2:w<=3) (f:R0 (.mk o j i nm es)<=m) :
  Ev (lim Tryz.prog HS none (bfC [1,1]) fr E) (BfQ Z0 H t (w+1) (m+26)) ⟨⟩:=by
 obtain⟨g2,g3,g4,B,F,b3,J,pq,G,qt,pl,ql,M,op,D,b,K⟩:=h;obtain⟨v,D0,rfl,hs,hl4,hxs⟩:=K;obtain⟨wf1,wf2,wf3,wf4,wf5,wf6⟩:=BK.1 hw;rw[O5]at f;have I:=C1 D;have g:=C1 op;have b0:=B.n;have a2:∀ c∈p::t::H,c<E.n:=by
  intro c d;rcases V9.1 d with rfl|d
  ·exact pl
  rcases V9.1 d with rfl|d
  ·exact M
  have:=u c d;omega
 rw[AS3];obtain⟨X,C⟩:=nW (bfC [1,1,1]);rw[C];simp only[bfC,Tryz.f28,J2,M1,y7,y8,y9,AA];refine gU1 (aI @A6 (aI @C7 (aI @FY (aI g2 (aI g3 I))))) ?_;refine(AN (m:=9) a5 om om).mono ?_;rintro r rfl;have z1:0<=q1 % 9:=Int.emod_nonneg _ om;have z2:q1 % 9<9:=Int.emod_lt_of_pos _ om;generalize q1 % 9=z at z1 z2;rcases nine z1 z2 with rfl|rfl|rfl|rfl|rfl|rfl|rfl|rfl|rfl
 ·refine gU1 (aI @A6 (aI @C7 (aI @TC (aI g2 (aI g3 (aI op g)))))) ?_;rw[<- C];exact Im (p:=p) (row:=[str [37],.int .i64 j,.int .i64 i,str nm,v]) (e:= .mk [37] j i nm es) (fR1 g2) (fR1 g4) (FQ B F) J G (by simpa using M) (cL) ⟨_,cL1 b,rfl⟩ (⟨_,D0,rfl,SLs.I4 hs GN,hl4,HQ.I4 GN hxs⟩) u (BK.2 ⟨by simp,wf2,wf3,wf4,om,WfL.mono om wf6⟩) (by rw[O5];omega)
 ·refine gU1 (aI @A6 (aI @C7 (aI @TC (aI g2 (aI g3 (aI op g)))))) ?_;rw[<- C];exact Im (p:=p) (row:=[str o,.int .i64 j,.int .i64 i,str [120],v]) (e:= .mk o j i [120] es) (fR1 g2) (fR1 g4) (FQ B F) J G (by simpa using M) (cL) ⟨_,cL1 b,rfl⟩ (⟨_,D0,rfl,SLs.I4 hs GN,hl4,HQ.I4 GN hxs⟩) u (BK.2 ⟨wf1,by simp,wf3,wf4,om,WfL.mono om wf6⟩) (by rw[O5];omega)
 ·refine gU1 (aI @A6 (aI @C7 (aI @TC (aI g2 (aI g3 (aI op g)))))) ?_;rw[<- C];exact Im (p:=p) (row:=[str o,.int .i64 1,.int .i64 3,str nm,v]) (e:= .mk o 1 3 nm es) (fR1 g2) (fR1 g4) (FQ B F) J G (by simpa using M) (cL) ⟨_,cL1 b,rfl⟩ (⟨_,D0,rfl,SLs.I4 hs GN,hl4,HQ.I4 GN hxs⟩) u (BK.2 ⟨wf1,wf2,om,om,om,WfL.mono om wf6⟩) (by rw[O5];omega)
 ·refine gU1 (aI @A6 (aI @C7 (aI @TC (aI g2 (aI g3 (aI op g)))))) ?_;rw[<- C];exact Im (p:=p) (row:=[str o,.int .i64 2,.int .i64 4,str nm,v]) (e:= .mk o 2 4 nm es) (fR1 g2) (fR1 g4) (FQ B F) J G (by simpa using M) (cL) ⟨_,cL1 b,rfl⟩ (⟨_,D0,rfl,SLs.I4 hs GN,hl4,HQ.I4 GN hxs⟩) u (BK.2 ⟨wf1,wf2,om,om,om,WfL.mono om wf6⟩) (by rw[O5];omega)
 ·refine gU1 (aI @A6 (aI @P2 (aI @R5 (aI @R6 (aI @R1 (aI @R2 (aI @P5 (aI @K4 (aI @K5 (aI @H5 (aI @TC (aI g2 (aI op g))))))))))))) ?_;refine Hk (size:=5) (D0:=D0) (fun _ _ _ _=>K6) (K2 nL nL) (by simp) (hs.I4 (Md.trans (Ao.Lc (.new _ _)))) (by have:=hxs.to.len;omega) ?_;rintro v1 Z1 a4 U;have n1:=U.n;simp only[K9]at n1;refine gU1 (a10N @A6 @P2 @R5 @R6 @R1 @R2 @P5 @K4 @K5 @H5) ?_;have R:OL E.n (Z1.new [str [110,97,109,101],.int .i64 0,.int .i64 0,str [120],.slice none 0 0]) 5 v1 D0:=OL.ext a4 (.new _ _);refine J6 (row:=[str [110,97,109,101],.int .i64 0,.int .i64 0,str [120],.slice none 0 0]) (fun _ _ _ _=>K6) R (G6 nL nL) (G3 (by simp) (by simp)) (by have:=hxs.to.len;omega) (by simp;omega) ?_;rintro v2 Z2 W V -;have n2:=V.n;simp only[K9]at n2;have Y:∀ c,c<E.n->Z2.h.get c=E.h.get c:=fun c d=>by
   rw[V.same c (by simp;omega) (fun hb=>by have:=(R.blk hb).1;omega),N8,z0z om,U.same c (by simp;omega) om,N8,z0z om]
  have a7:Z2.B8 p=some [str o,.int .i64 j,.int .i64 i,str nm,v]:=by rw[B9 (Y p pl)];exact op
  have a8:Z2.B8 t=some znE:=by rw[B9 (Y t M)];exact b
  have a0:Ext Z0 Z2:=⟨om,fun c d=>by rw[Y c om,B.same c d]⟩
  obtain⟨aa,rfl⟩:=OL.shape W;refine gU1 (aI @A6 (aI @P2 (aI @R5 (aI @R6 (aI @R1 (aI @R2 (aI @P5 (aI @K4 (aI @K5 (aI @H5 (aI g2 a7))))))))))) ?_;rw[<- C];have hk:Ao (J0 E (p::t::H)) (J0 (Z2.upd p [str o,.int .i64 j,.int .i64 i,str nm,.slice aa (D0++[[str [110,97,109,101],.int .i64 0,.int .i64 0,str [120],.slice none 0 0]]).length (D0++[[str [110,97,109,101],.int .i64 0,.int .i64 0,str [120],.slice none 0 0]]).length]) (p::t::H)):=K8 (by simp;omega) fun c d f=>⟨f,by rw[I2 fun e=>f (by simp[e]),V7 (Y c d)]⟩
  refine Im (p:=p) (row:=[str o,.int .i64 j,.int .i64 i,str nm,.slice aa (D0++[[str [110,97,109,101],.int .i64 0,.int .i64 0,str [120],.slice none 0 0]]).length (D0++[[str [110,97,109,101],.int .i64 0,.int .i64 0,str [120],.slice none 0 0]]).length]) (e:= .mk o j i nm (es++[exV])) (fR1 g2) (fR1 g4) (FQ a0 F) J G (by simp;omega) (cL) ⟨znE,cL1 a8,rfl⟩ ?_ u (BK.2 ⟨wf1,wf2,wf3,wf4,by simp;omega,gL (WfL.mono om wf6) (V8.2 ⟨Ak8,DJ⟩)⟩) (by rw[O5,Ri,N3,gM,O6];omega);exact⟨_,_,rfl,OL.J0 (OL.upd W om) a2,by simp;omega,HQ.app ar (HQ.I4 hk hxs)⟩
 ·refine gU1 (aI @A6 (aI @C7 (aI @TC (aI g2 (aI g3 (aI op g)))))) ?_;rw[<- C];exact Im (p:=p) (row:=[str [110,117,109],.int .i64 1000000000,.int .i64 1,str [],.slice none 0 0]) (e:= .mk [110,117,109] 1000000000 1 [] []) (fR1 g2) (fR1 g4) (FQ B F) J G (by simpa using M) (cL) ⟨_,cL1 b,rfl⟩ (ar) u (BK.2 ⟨by simp,by simp,om,om,by simp,DJ⟩) (by rw[O5,O6];omega)
 ·refine gU1 (aI @A6 (aI @C7 (aI @TC (aI g2 (aI g3 (aI op g)))))) ?_;rw[<- C];exact Im (p:=p) (row:=[str [110,117,109],.int .i64 1000000000000001,.int .i64 1000000,str [],.slice none 0 0]) (e:= .mk [110,117,109] 1000000000000001 1000000 [] []) (fR1 g2) (fR1 g4) (FQ B F) J G (by simpa using M) (cL) ⟨_,cL1 b,rfl⟩ (ar) u (BK.2 ⟨by simp,by simp,om,om,by simp,DJ⟩) (by rw[O5,O6];omega)
 ·refine gU1 (aI @A6 (aI @C7 (aI @TC g2))) ?_;have y1:0<=L % 6:=Int.emod_nonneg _ om;have y2:L % 6<6:=Int.emod_lt_of_pos _ om;obtain⟨n,hn⟩:=KR (show 0<=8+L % 6 by omega);have a9:n<=13:=om
  refine I9 n (fun k fr a=>fr.get 7=some (.int .i64 k)/\fr.get 2=some (.pointer (some ⟨p,0,none⟩))/\fr.get 3=some (.pointer (some ⟨q,0,none⟩))/\fr.get 4=some (.pointer (some ⟨t,0,none⟩))/\Ext Z0 a/\E.n<=a.n/\a.B8 q=some [.int .i64 L,.int .i64 q1,.int .i64 q2]/\a.B8 t=some znE/\∃ row e,a.B8 p=some row/\ExX (J0 a (p::t::H)) row e/\WfE (w+1) e/\R0 e<=m+2*k)
   (fun r=>∃ fr a,r=⟨.exit 1,fr,a⟩/\fr.get 2=some (.pointer (some ⟨p,0,none⟩))/\fr.get 4=some (.pointer (some ⟨t,0,none⟩))/\Ext Z0 a/\E.n<=a.n/\a.B8 t=some znE/\∃ row e,a.B8 p=some row/\ExX (J0 a (p::t::H)) row e/\WfE (w+1) e/\R0 e<=m+26) ?_ ?_ ?_ ?_
  ·exact⟨fR,fR1 g2,fR1 g3,fR1 g4,B,AP _,D,b,_,.mk o j i nm es,op,⟨v,D0,rfl,hs,hl4,hxs⟩,WfE.mono om hw,by rw[O5];omega⟩
  ·clear g2 g3 g4 hs hxs op D b g I;rintro k fr a hk ⟨S,g2,g3,g4,l,O,D,b,row,e,op,K,A,N⟩;obtain⟨c1,c2,c3,c4,Z,rfl⟩:=fc5 K.to;have I:=C1 D;have g:=C1 op;have d:=M3 hk;refine gU1 (aI @A6 (aI @C7 (aI @FY (aI S (aI g3 I))))) ?_;refine(AN (m:=6) Q om om).mono ?_;rintro r rfl;refine gU1 (aI @A6 (aI @C7 (aI hn (aI d (aI S (aI g2 (aI op g))))))) ?_;refine⟨fR,fR1 g2,fR1 g3,fR1 g4,FQ (l.Aw _) F,by show E.n<=a.n+1;omega,cL1 D,cL1 b,_,.mk [109,97,120] 0 0 [] [e,exV],cL,?_,BK.2 ⟨by simp,by simp,om,om,by show 2<=w+1;omega,V8.2 ⟨A,V8.2 ⟨Ak8,DJ⟩⟩⟩,by rw[O5,N3,N3,gM,O6];omega⟩;have a1:Ao (J0 a (p::t::H)) (J0 ((a.new [c1,c2,c3,c4,Z,str [110,97,109,101],.int .i64 0,.int .i64 0,str [120],.slice none 0 0]).upd p [str [109,97,120],.int .i64 0,.int .i64 0,str [],.slice (some ⟨a.n,0,none⟩) 2 2]) (p::t::H)):=K8 (by simp) fun c d f=>⟨f,by rw[I2 fun e=>f (by simp[e]),CQ om]⟩
   have a3:a.n∉p::t::H:=fun f=>by
    rcases V9.1 f with h|f
    ·omega
    rcases V9.1 f with h|f
    ·omega
    have:=u _ f;omega
   have a6:(J0 ((a.new [c1,c2,c3,c4,Z,str [110,97,109,101],.int .i64 0,.int .i64 0,str [120],.slice none 0 0]).upd p [str [109,97,120],.int .i64 0,.int .i64 0,str [],.slice (some ⟨a.n,0,none⟩) 2 2]) (p::t::H)).row a.n=some ([c1,c2,c3,c4,Z]++[str [110,97,109,101],.int .i64 0,.int .i64 0,str [120],.slice none 0 0]):=by rw[CW a3,I2 om];exact cL
   exact uy (by rw[FD];simp) a6 rfl (K.I4 a1) ar
  ·clear g2 g3 g4 hs hxs op D b g I;rintro fr a ⟨S,g2,g3,g4,l,O,D,b,row,e,op,K,A,N⟩;have I:=C1 D;refine gU1 (aI @A6 (aI @C7 (aI @FY (aI S (aI g3 I))))) ?_;refine(AN (m:=6) Q om om).mono ?_;rintro r rfl;refine gU1 (aI @A6 (aI @C7 (aI hn (aI S @HD)))) ?_;exact⟨_,_,rfl,fR1 g2,fR1 g4,l,O,b,row,e,op,K,A,om⟩
  clear g2 g3 g4 hs hxs op D b g I;rintro r ⟨fr,a,rfl,g2,g4,l,O,b,row,e,op,K,A,N⟩;refine gU1 (aI @A6 @C7) ?_;rw[<- C];exact Im g2 g4 l J G om op ⟨_,b,rfl⟩ K u A N
 ·refine gU1 (aI @A6 (aI @C7 (aI @TC (aI @FY (aI g2 (aI g3 I)))))) ?_;refine(AN (m:=4) Q om om).mono ?_;rintro r rfl;have y1:0<=L % 4:=Int.emod_nonneg _ om;have y2:L % 4<4:=Int.emod_lt_of_pos _ om;obtain⟨y,hy⟩:=KR y1;rw[hy]at y2 ⊢;obtain⟨s,hs1,hs2⟩:=AS4 (k:=y) om;refine gU1 (aI @A6 (aI @C7 (aI @TC (aI g2 (aI g3 (aI op (aI g hs1))))))) ?_;rw[<- C];exact Im (p:=p) (row:=[str [110,97,109,101],.int .i64 0,.int .i64 0,str s,.slice none 0 0]) (e:= .mk [110,97,109,101] 0 0 s []) (fR1 g2) (fR1 g4) (FQ (B.Aw _) F) J G (by simp;omega) (cL) ⟨_,cL1 b,rfl⟩ ar u (BK.2 ⟨by simp,om,om,om,by simp,DJ⟩) (by rw[O5,O6];omega)
def AN9:bfC []= .seq (bfC [0]) (bfC [1]):=kR
def AO0:bfC [1]= .seq (bfC [1,0]) (bfC [1,1]):=kR
def Ak0 (Z:St) (H:List Nat) (w m:Nat) (r:CR):Prop:=∃ row e Z',r=⟨false,.agg ⟨row⟩,Z'⟩/\Ext Z Z'/\ExX (J0 Z' H) row e/\WfE w e/\R0 e<=m
def qc:∀ (n:Nat){Z:St}{H:List Nat}{row:List Value}{e:Ex}{q0 q1 q2:Int}{w m:Nat},SizeOf.sizeOf e<n->(∀ c∈H,c<Z.n)->ExX (J0 Z H) row e->X6 q0->X6 q1->X6 q2->WfE w e->1<=w->w<=3->R0 e<=m ->
  Ev (gO 28 [.agg ⟨row⟩,.agg ⟨[.int .i64 q0,.int .i64 q1,.int .i64 q2]⟩] Z) (Ak0 Z H (w+1) (m+26)) ⟨⟩:=by
 intro n;induction n with
 |zero=>intro Z H row e q0 q1 q2 w m h;omega
 | succ n ih=>
   intro Z H row e q0 q1 q2 w m a2 hH hx J K s hw M N g;obtain⟨o,u,l,nm,es⟩:=e;have a8:=hx;obtain⟨v,D0,rfl,hs,hl4,hxs⟩:=hx;have a1:=hxs.to.len;obtain⟨va,vc,vb,vo,vcs,rfl,s1,s2⟩:=hs.sl.use;refine G1 (body:=bfC []) Tryz.func28 kR rfl ?_;obtain⟨X,hX⟩:=nW (bfC [1,1]);rw[AN9,AO0,hX];simp only[bfC,Tryz.f28,J2,M1,y7,y8,y9,AA];have E0:Ext Z (((Z.new [str o,.int .i64 u,.int .i64 l,str nm,.slice va D0.length vc]).new [.int .i64 q0,.int .i64 q1,.int .i64 q2]).new znE (some 35)):=eX;have K0:Ao (J0 Z H) (J0 (((Z.new [str o,.int .i64 u,.int .i64 l,str nm,.slice va D0.length vc]).new [.int .i64 q0,.int .i64 q1,.int .i64 q2]).new znE (some 35)) (Z.n::(Z.n+2)::H)):=K8 (by show Z.n<=Z.n+3;omega) fun c j g=>⟨by simp only[V9,not_or];exact⟨om,om,g⟩,by rw[E0.row j]⟩
   have fin:∀ fr,fr.get 2=some (.pointer (some ⟨Z.n,0,none⟩))->fr.get 3=some (.pointer (some ⟨Z.n+1,0,none⟩))->fr.get 4=some (.pointer (some ⟨Z.n+2,0,none⟩)) ->
     Ev (lim Tryz.prog HS none X fr (((Z.new [str o,.int .i64 u,.int .i64 l,str nm,.slice va D0.length vc]).new [.int .i64 q0,.int .i64 q1,.int .i64 q2]).new znE (some 35))) (BfQ Z H (Z.n+2) (w+1) (m+26)) ⟨⟩:=fun fr g2 g3 g4=>by
    rw[<- hX];exact xH (p:=Z.n) (q:=Z.n+1) (t:=Z.n+2) ⟨g2,g3,g4,E0,AP _,om,om,om,om,om,by show Z.n<Z.n+3;omega,by show Z.n+1<Z.n+3;omega,by show Z.n+2<Z.n+3;omega,by unfold znE;exact cL,by unfold znE;exact cL,by unfold znE;exact cL,a8.I4 K0⟩ J K hH hw M N g
   unfold znE at fin;cases d2:decide ((D0.length:Int)=2)with
   | false=>
     refine gU1 (aI @A6 (aI @C7 (aI @FY d2))) ?_;refine(fin _ ?_ ?_ ?_).mono ?_
     ·exact fR
     ·exact fR
     ·exact fR
     rintro r ⟨fr,τ,Wt,e',rfl,g4,B,hE,z,L,I⟩;have a7:=Mf z;have hf:sub Wt 0 5=some Wt:=G3 om om;have rt:=C1 B;refine gU1 (aI @A6 (aI @C7 (aI g4 (aI @rt (aI hf @Tryz.results28))))) ?_;exact⟨_,_,_,rfl,hE,z,L,I⟩
   | true=>
     refine gU1 (aI @A6 (aI @C7 (aI @FY d2))) ?_;refine(AN (m:=3) s om om).mono ?_;rintro r rfl;cases dz:decide (0<q2 % 3)with
     | false=>
       refine gU1 (aI @A6 (aI @C7 dz)) ?_;refine(fin _ ?_ ?_ ?_).mono ?_
       ·exact fR
       ·exact fR
       ·exact fR
       rintro r ⟨fr,τ,Wt,e',rfl,g4,B,hE,z,L,I⟩;have a7:=Mf z;have hf:sub Wt 0 5=some Wt:=G3 om om;have rt:=C1 B;refine gU1 (aI @A6 (aI @C7 (aI g4 (aI @rt (aI hf @Tryz.results28))))) ?_;exact⟨_,_,_,rfl,hE,z,L,I⟩
     | true=>
       have l2:D0.length=2:=by have:=z6z d2;omega
       obtain⟨rx,ry,rfl⟩:∃ a b,D0=[a,b]:=by
        match D0,l2 with
        | [a,b],_=>exact⟨a,b,rfl⟩
       obtain⟨x,y,rfl⟩:∃ a b,es=[a,b]:=by
        match es,a1 with
        | [a,b],_=>exact⟨a,b,rfl⟩
       obtain⟨r1,b5,e1,O,r2,b6,G,Q,-⟩:=hxs;cases e1;cases G;obtain⟨sp,rfl,hb,hr⟩:=s1 (by simp);rw[FD]at hb;have nH:vb∉H:=fun h=>by rw[Mc h]at hr;cases hr
       rw[CW nH]at hr;have t1:=s2 0 rx rfl;have t2:=s2 1 ry rfl;obtain⟨U,V,W,Y,x5,rfl⟩:=fc5 O.to;obtain⟨y1,y2,y3,y4,y5,rfl⟩:=fc5 Q.to;rw[GV]at t1;rw[SW]at t2;refine gU1 (aI @A6 (aI @C7 (aI dz (aI @H7 (aI @I0 (aI hr (aI t1 t2))))))) ?_;refine gU1 (a3N @A6 @C7 @FY) ?_;refine(AN (m:=2) s om om).mono ?_;rintro r rfl;have b4:=Int.tmod_add_mul_tdiv q2 3;have b2:=Int.tmod_lt_of_pos q2 (show(0:Int)<3 by omega);have b3:=Int.lt_tmod_of_pos q2 (show(0:Int)<3 by omega);have D:X6 (q2.tdiv 3):=⟨by have:=s.1;have:=s.2;omega,by have:=s.1;have:=s.2;omega⟩
       have a0:IntKind.i64.wrap (q2.tdiv 3)=q2.tdiv 3:=wrap64_in D.1 D.2;obtain⟨a3,a4,a5,a6,b7,b1⟩:=BK.1 hw;obtain⟨wx,wf7⟩:=V8.1 b1;obtain⟨wy,-⟩:=V8.1 wf7;rw[O5,N3,N3,O6]at g;have z1:0<=q2 % 2:=Int.emod_nonneg _ om;have z2:q2 % 2<2:=Int.emod_lt_of_pos _ om;rcases(show q2 % 2=0\/q2 % 2=1 by omega)with hz|hz
       ·rw[hz];refine gU1 (aI @A6 (aI @C7 (aI @FY (aI @Aj9 (aI @Aj7 (aI @Aj8 a0)))))) ?_;obtain⟨τ,d⟩:=nW (((((Z.new [str o,.int .i64 u,.int .i64 l,str nm,.slice (some ⟨vb,vo,sp⟩) 2 vc]).new [.int .i64 q0,.int .i64 q1,.int .i64 q2]).new [str [],.int .i64 0,.int .i64 0,str [],.slice none 0 0] (some 35)).new [U,V,W,Y,x5,y1,y2,y3,y4,y5]));rw[d];have C:Ext Z τ:=by rw[<- d];exact eX
        have b0:τ.n=Z.n+4:=by rw[<- d];rfl
        have E:τ.B8 (Z.n+3)=some [U,V,W,Y,x5,y1,y2,y3,y4,y5]:=by rw[<- d];exact cL
        have op:τ.B8 Z.n=some [str o,.int .i64 u,.int .i64 l,str nm,.slice (some ⟨vb,vo,sp⟩) 2 vc]:=by rw[<- d];exact cL
        have B:τ.B8 (Z.n+2)=some [str [],.int .i64 0,.int .i64 0,str [],.slice none 0 0]:=by rw[<- d];exact cL
        have K1:Ao (J0 Z H) (J0 τ ((Z.n+3)::Z.n::(Z.n+2)::H)):=K8 C.n fun c j g=>⟨by simp only[V9,not_or];exact⟨om,om,om,g⟩,by rw[C.row j]⟩
        clear d;refine(ih (e:=x) (H:=(Z.n+3)::Z.n::(Z.n+2)::H) (w:=w) (m:=R0 x) (by simp at a2;omega) (fun c j=>?_) (O.I4 K1) J K D wx M N nL).mono ?_
        ·simp only[V9]at j;rcases j with h|h|h|h
         ·omega
         ·omega
         ·omega
         ·have:=hH c h;omega
        rintro r ⟨rn,x',F,rfl,i,A,S,a9⟩;have n2:=i.n;obtain⟨c1,c2,c3,c4,c5,rfl⟩:=fc5 A.to;have E:=eT (i.B8 om) E;have op:=eT (i.B8 om) op;have B:=eT (i.B8 om) B;have e3:Z.n+1+1+1=Z.n+3:=rfl;have G:Z.n+1+1=Z.n+2:=rfl;refine gP1 (aI e3 (aI G (aI E (asx i)))) ?_
        try refine dW1 (asx i) ?_
        try(refine gP1 (aI e3 (aI G (aI E (aI op B)))) ?_;try exact⟨⟩)
        obtain⟨SF,f⟩:=nW ((((F.upd (Z.n+3) [c1,c2,c3,c4,c5,y1,y2,y3,y4,y5]).upd Z.n [str o,.int .i64 u,.int .i64 l,str nm,.slice (some ⟨Z.n+3,0,none⟩) 2 2]).upd (Z.n+2) [str o,.int .i64 u,.int .i64 l,str nm,.slice (some ⟨Z.n+3,0,none⟩) 2 2]));have nF:SF.n=F.n:=by rw[<- f];rfl
        have rF:SF.row (Z.n+3)=some ([c1,c2,c3,c4,c5]++[y1,y2,y3,y4,y5]):=by rw[<- f,I2 om,I2 om];exact cL
        have R:Z.n+3∉H:=fun h=>by have:=hH _ h;omega
        have KA:Ao (J0 F ((Z.n+3)::Z.n::(Z.n+2)::H)) (J0 SF H):=K8 om fun c j g=>by
         simp only[V9,not_or]at g;exact⟨g.2.2.2,by rw[<- f,I2 g.2.2.1,I2 g.2.1,I2 g.1]⟩
        have KB:Ao (J0 Z H) (J0 SF H):=K8 om fun c j g=>⟨g,by rw[<- f,I2 om,I2 om,I2 om,(C.trans i).row j]⟩
        have EF:Ext Z SF:=by rw[<- f];exact(((C.trans i).upd om _).upd om _).upd om _
        refine⟨_,.mk o u l nm [x',y],SF,by rw[<- f],EF,uy (by rw[FD];omega) (by rw[CW R];exact rF) rfl (A.I4 KA) (Q.I4 KB),BK.2 ⟨a3,a4,a5,a6,by show 2<=w+1;omega,V8.2 ⟨S,V8.2 ⟨WfE.mono om wy,DJ⟩⟩⟩,?_⟩;rw[O5,N3,N3,O6];omega
       ·rw[hz];refine gU1 (aI @A6 (aI @C7 (aI @FY (aI @Aj9 (aI @Aj7 (aI @Aj8 a0)))))) ?_;obtain⟨τ,d⟩:=nW (((((Z.new [str o,.int .i64 u,.int .i64 l,str nm,.slice (some ⟨vb,vo,sp⟩) 2 vc]).new [.int .i64 q0,.int .i64 q1,.int .i64 q2]).new [str [],.int .i64 0,.int .i64 0,str [],.slice none 0 0] (some 35)).new [U,V,W,Y,x5,y1,y2,y3,y4,y5]));rw[d];have C:Ext Z τ:=by rw[<- d];exact eX
        have b0:τ.n=Z.n+4:=by rw[<- d];rfl
        have E:τ.B8 (Z.n+3)=some [U,V,W,Y,x5,y1,y2,y3,y4,y5]:=by rw[<- d];exact cL
        have op:τ.B8 Z.n=some [str o,.int .i64 u,.int .i64 l,str nm,.slice (some ⟨vb,vo,sp⟩) 2 vc]:=by rw[<- d];exact cL
        have B:τ.B8 (Z.n+2)=some [str [],.int .i64 0,.int .i64 0,str [],.slice none 0 0]:=by rw[<- d];exact cL
        have K1:Ao (J0 Z H) (J0 τ ((Z.n+3)::Z.n::(Z.n+2)::H)):=K8 C.n fun c j g=>⟨by simp only[V9,not_or];exact⟨om,om,om,g⟩,by rw[C.row j]⟩
        clear d;refine(ih (e:=y) (H:=(Z.n+3)::Z.n::(Z.n+2)::H) (w:=w) (m:=R0 y) (by simp at a2;omega) (fun c j=>?_) (Q.I4 K1) J K D wy M N nL).mono ?_
        ·simp only[V9]at j;rcases j with h|h|h|h
         ·omega
         ·omega
         ·omega
         ·have:=hH c h;omega
        rintro r ⟨rn,x',F,rfl,i,A,S,a9⟩;have n2:=i.n;obtain⟨c1,c2,c3,c4,c5,rfl⟩:=fc5 A.to;have E:=eT (i.B8 om) E;have op:=eT (i.B8 om) op;have B:=eT (i.B8 om) B;have e3:Z.n+1+1+1=Z.n+3:=rfl;have G:Z.n+1+1=Z.n+2:=rfl;refine gP1 (aI e3 (aI G (aI E (asx i)))) ?_
        try refine dW1 (asx i) ?_
        try(refine gP1 (aI e3 (aI G (aI E (aI op B)))) ?_;try exact⟨⟩)
        obtain⟨SF,f⟩:=nW ((((F.upd (Z.n+3) [U,V,W,Y,x5,c1,c2,c3,c4,c5]).upd Z.n [str o,.int .i64 u,.int .i64 l,str nm,.slice (some ⟨Z.n+3,0,none⟩) 2 2]).upd (Z.n+2) [str o,.int .i64 u,.int .i64 l,str nm,.slice (some ⟨Z.n+3,0,none⟩) 2 2]));have nF:SF.n=F.n:=by rw[<- f];rfl
        have rF:SF.row (Z.n+3)=some ([U,V,W,Y,x5]++[c1,c2,c3,c4,c5]):=by rw[<- f,I2 om,I2 om];exact cL
        have R:Z.n+3∉H:=fun h=>by have:=hH _ h;omega
        have KA:Ao (J0 F ((Z.n+3)::Z.n::(Z.n+2)::H)) (J0 SF H):=K8 om fun c j g=>by
         simp only[V9,not_or]at g;exact⟨g.2.2.2,by rw[<- f,I2 g.2.2.1,I2 g.2.1,I2 g.1]⟩
        have KB:Ao (J0 Z H) (J0 SF H):=K8 om fun c j g=>⟨g,by rw[<- f,I2 om,I2 om,I2 om,(C.trans i).row j]⟩
        have EF:Ext Z SF:=by rw[<- f];exact(((C.trans i).upd om _).upd om _).upd om _
        refine⟨_,.mk o u l nm [x,x'],SF,by rw[<- f],EF,uy (by rw[FD];omega) (by rw[CW R];exact rF) rfl (O.I4 KB) (A.I4 KA),BK.2 ⟨a3,a4,a5,a6,by show 2<=w+1;omega,V8.2 ⟨WfE.mono om wx,V8.2 ⟨S,DJ⟩⟩⟩,?_⟩;rw[O5,N3,N3,O6];omega
end Go.Proofs.T
