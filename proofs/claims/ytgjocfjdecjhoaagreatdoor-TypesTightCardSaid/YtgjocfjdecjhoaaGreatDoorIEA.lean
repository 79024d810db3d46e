/- The H3 check of any part of a CQ. -/
import Derived.Test.YtgjocfjdecjhoaaGreatDoorISA
import Derived.Test.YtgjocfjdecjhoaaGreatDoorIEQ
set_option linter.unusedSimpArgs false
set_option linter.unusedVariables false
set_option linter.defProp false
set_option maxHeartbeats 32000000
set_option maxRecDepth 100000
namespace Go.Proofs.T
open Go Go.Ab
section
variable {k:Nat}{n d:Int}{nm o:By}
def Mo {m:Nat}:decide ((k:Int)=(m:Int))=decide (k=m):=by rw[z7z,z3z,z3z];omega
def OJ:AL K8 n d nm k=(Dd n d&&decide (0<=n)&&decide ((1000000:Int) % d=0)&&decide (n<=1000000000*d)&&decide (nm=[])&&decide (k=0)):=by unfold AL;rw[z1z rfl]
def Lt:AL nmB n d nm k=(AP nm&& !decide (nm=Q7)&& !decide (nm=R4)&&(decide (n=0)&&decide (d=0))&&decide (k=0)):=by unfold AL;rw[z0z (by decide),z1z rfl]
def P5 (h:o=[43]\/o=[45]\/o=[42]\/o=[47]\/o=Q7\/o=R4):AL o n d nm k=((decide (n=0)&&decide (d=0))&&decide (nm=[])&&decide (k=2)):=by
 unfold AL;rw[z0z (by rcases h with rfl|rfl|rfl|rfl|rfl|rfl<;>decide),z0z (by rcases h with rfl|rfl|rfl|rfl|rfl|rfl<;>decide),z1z h]
def IL (a:o≠K8) (b:o≠nmB) (h:¬ (o=[43]\/o=[45]\/o=[42]\/o=[47]\/o=Q7\/o=R4)):AL o n d nm k=false:=by
 unfold AL;rw[z0z a,z0z b,z0z h]
def mY {Z:St}{a:Option Addr}{c:Nat}(N: -1000000000000000000<=n/\n<=1000000000000000000) (M:0<=d/\d<=1000000):
  Ev (gO 93 [.agg ⟨[str o,.int .i64 n,.int .i64 d,str nm,.slice a k c]⟩] Z) (fun r=>∃ Z',r=⟨false,.bool (AL o n d nm k),Z'⟩/\Ext Z Z') ⟨⟩:=by
 have H:Ext Z (Z.new [str o,.int .i64 n,.int .i64 d,str nm,.slice a k c]):=eX;have A:decide ((k:Int)=0)=decide (k=0):=Mo (m:=0);have q:decide ((k:Int)=2)=decide (k=2):=Mo (m:=2);refine C8 Tryz.func93 rfl rfl ?_;cases i:decide (o=[110,117,109])with
 | true=>
   obtain rfl:o=[110,117,109]:=z6z i;rw[show AL [110,117,109] n d nm k=_ from OJ];refine gS1 i ?_;refine(Uq (n:=n) (d:=d) ⟨om,om⟩ ⟨om,om⟩).mono ?_;rintro r ⟨Z2,rfl,E⟩;have r1:Z2.row Z.n=some [str [110,117,109],.int .i64 n,.int .i64 d,str nm,.slice a k c]:=eT (E.row (cL)) cL;have f:Ext Z Z2:=(Ext.Q3 (.refl _) _).trans E;cases b:Dd n d
   ·refine gS1 (aI r1 (a3N @D6 @D8 @Tryz.results93)) ?_;exact⟨_,rfl,f⟩
   have J:1<=d:=by unfold Dd at b;simp only[R2,EO]at b;exact b.1
   have D:decide (d=0)=false:=dF;cases e:decide (n<0)
   case true=>
    rw[z4z (p:=0<=n) (by have:=z6z e;omega)];refine gS1 (aI r1 (aI e (aI D (a3N @D6 @D8 @Tryz.results93)))) ?_;exact⟨_,rfl,f⟩
   have G:0<=n:=by have:=z9z e;omega
   rw[AW G];have F:(1000000:Int).tmod d=1000000 % d:=Uf om;have O:(10:Int) ^ 0=1:=rfl;cases g:decide ((1000000:Int) % d=0)
   ·refine gS1 (aI r1 (aI e (aI D (aI F (aI g (a3N @D6 @D8 @Tryz.results93)))))) ?_;exact⟨_,rfl,f⟩
   cases z:decide (1000000000*d<n)
   case true=>
    rw[z4z (p:=n<=1000000000*d) (by have:=z6z z;omega)];refine gS1 (aI r1 (aI e (aI D (aI F (aI g (aI z (a3N @D6 @D8 @Tryz.results93))))))) ?_;exact⟨_,rfl,f⟩
   rw[AW (p:=n<=1000000000*d) (by have:=z9z z;omega)];cases C:decide (nm=[])
   ·refine gS1 (aI r1 (aI e (aI D (aI F (aI g (aI z (aI C (a3N @D6 @D8 @Tryz.results93)))))))) ?_;exact⟨_,rfl,f⟩
   cases I:decide (k=0)
   ·refine gS1 (aI r1 (aI e (aI D (aI F (aI g (aI z (aI C (aI A (aI I (a3N @D6 @D8 @Tryz.results93)))))))))) ?_;exact⟨_,rfl,f⟩
   ·refine gS1 (aI r1 (aI e (aI D (aI F (aI g (aI z (aI C (aI A (aI I (a3N @D6 @D8 @Tryz.results93)))))))))) ?_;exact⟨_,rfl,f⟩
 | false=>
   have K:o≠K8:=z9z i;cases j:decide (o=[110,97,109,101])with
   | true=>
     obtain rfl:o=[110,97,109,101]:=z6z j;rw[show AL [110,97,109,101] n d nm k=_ from Lt];refine gS1 (aI i j) ?_;refine MM.mono ?_;rintro r rfl;rw[Ml];have f:=H;cases b:AP nm
     ·refine gS1 (aI b (a3N @D6 @D8 @Tryz.results93)) ?_;exact⟨_,rfl,f⟩
     cases e:decide (nm=[109,105,110])
     case true=>
      rw[show decide (nm=Q7)=true from e];refine gS1 (aI b (aI e (a3N @D6 @D8 @Tryz.results93))) ?_;exact⟨_,rfl,f⟩
     rw[show decide (nm=Q7)=false from e];cases g:decide (nm=[109,97,120])
     case true=>
      rw[show decide (nm=R4)=true from g];refine gS1 (aI b (aI e (aI g (a3N @D6 @D8 @Tryz.results93)))) ?_;exact⟨_,rfl,f⟩
     rw[show decide (nm=R4)=false from g];cases z:(decide (n=0)&&decide (d=0))
     ·refine gS1 (aI b (aI e (aI g (aI @F4 (aI z (a3N @D6 @D8 @Tryz.results93)))))) ?_;exact⟨_,rfl,f⟩
     cases C:decide (k=0)
     ·refine gS1 (aI b (aI e (aI g (aI @F4 (aI z (aI A (aI C (a3N @D6 @D8 @Tryz.results93)))))))) ?_;exact⟨_,rfl,f⟩
     ·refine gS1 (aI b (aI e (aI g (aI @F4 (aI z (aI A (aI C (a3N @D6 @D8 @Tryz.results93)))))))) ?_;exact⟨_,rfl,f⟩
   | false=>
     have L:o≠nmB:=z9z j;have f:=H;cases l:decide (o=[43])
     case true=>
      rw[P5 (.inl (z6z l))];cases b:(decide (n=0)&&decide (d=0))
      ·refine gS1 (aI i (aI j (aI l (aI @F4 (aI b (a3N @D6 @D8 @Tryz.results93)))))) ?_;exact⟨_,rfl,f⟩
      cases e:decide (nm=[])
      ·refine gS1 (aI i (aI j (aI l (aI @F4 (aI b (aI e (a3N @D6 @D8 @Tryz.results93))))))) ?_;exact⟨_,rfl,f⟩
      cases g:decide (k=2)
      ·refine gS1 (aI i (aI j (aI l (aI @F4 (aI b (aI e (aI q (aI g (a3N @D6 @D8 @Tryz.results93))))))))) ?_;exact⟨_,rfl,f⟩
      ·refine gS1 (aI i (aI j (aI l (aI @F4 (aI b (aI e (aI q (aI g (a3N @D6 @D8 @Tryz.results93))))))))) ?_;exact⟨_,rfl,f⟩
     cases s:decide (o=[45])
     case true=>
      rw[P5 (.inr (.inl (z6z s)))];cases b:(decide (n=0)&&decide (d=0))
      ·refine gS1 (aI i (aI j (aI l (aI s (aI @F4 (aI b (a3N @D6 @D8 @Tryz.results93))))))) ?_;exact⟨_,rfl,f⟩
      cases e:decide (nm=[])
      ·refine gS1 (aI i (aI j (aI l (aI s (aI @F4 (aI b (aI e (a3N @D6 @D8 @Tryz.results93)))))))) ?_;exact⟨_,rfl,f⟩
      cases g:decide (k=2)
      ·refine gS1 (aI i (aI j (aI l (aI s (aI @F4 (aI b (aI e (aI q (aI g (a3N @D6 @D8 @Tryz.results93)))))))))) ?_;exact⟨_,rfl,f⟩
      ·refine gS1 (aI i (aI j (aI l (aI s (aI @F4 (aI b (aI e (aI q (aI g (a3N @D6 @D8 @Tryz.results93)))))))))) ?_;exact⟨_,rfl,f⟩
     cases u:decide (o=[42])
     case true=>
      rw[P5 (.inr (.inr (.inl (z6z u))))];cases b:(decide (n=0)&&decide (d=0))
      ·refine gS1 (aI i (aI j (aI l (aI s (aI u (aI @F4 (aI b (a3N @D6 @D8 @Tryz.results93)))))))) ?_;exact⟨_,rfl,f⟩
      cases e:decide (nm=[])
      ·refine gS1 (aI i (aI j (aI l (aI s (aI u (aI @F4 (aI b (aI e (a3N @D6 @D8 @Tryz.results93))))))))) ?_;exact⟨_,rfl,f⟩
      cases g:decide (k=2)
      ·refine gS1 (aI i (aI j (aI l (aI s (aI u (aI @F4 (aI b (aI e (aI q (aI g (a3N @D6 @D8 @Tryz.results93))))))))))) ?_;exact⟨_,rfl,f⟩
      ·refine gS1 (aI i (aI j (aI l (aI s (aI u (aI @F4 (aI b (aI e (aI q (aI g (a3N @D6 @D8 @Tryz.results93))))))))))) ?_;exact⟨_,rfl,f⟩
     cases v:decide (o=[47])
     case true=>
      rw[P5 (.inr (.inr (.inr (.inl (z6z v)))))];cases b:(decide (n=0)&&decide (d=0))
      ·refine gS1 (aI i (aI j (aI l (aI s (aI u (aI v (aI @F4 (aI b (a3N @D6 @D8 @Tryz.results93))))))))) ?_;exact⟨_,rfl,f⟩
      cases e:decide (nm=[])
      ·refine gS1 (aI i (aI j (aI l (aI s (aI u (aI v (aI @F4 (aI b (aI e (a3N @D6 @D8 @Tryz.results93)))))))))) ?_;exact⟨_,rfl,f⟩
      cases g:decide (k=2)
      ·refine gS1 (aI i (aI j (aI l (aI s (aI u (aI v (aI @F4 (aI b (aI e (aI q (aI g (a3N @D6 @D8 @Tryz.results93)))))))))))) ?_;exact⟨_,rfl,f⟩
      ·refine gS1 (aI i (aI j (aI l (aI s (aI u (aI v (aI @F4 (aI b (aI e (aI q (aI g (a3N @D6 @D8 @Tryz.results93)))))))))))) ?_;exact⟨_,rfl,f⟩
     cases y:decide (o=[109,105,110])
     case true=>
      rw[P5 (.inr (.inr (.inr (.inr (.inl (z6z y))))))];cases b:(decide (n=0)&&decide (d=0))
      ·refine gS1 (aI i (aI j (aI l (aI s (aI u (aI v (aI y (aI @F4 (aI b (a3N @D6 @D8 @Tryz.results93)))))))))) ?_;exact⟨_,rfl,f⟩
      cases e:decide (nm=[])
      ·refine gS1 (aI i (aI j (aI l (aI s (aI u (aI v (aI y (aI @F4 (aI b (aI e (a3N @D6 @D8 @Tryz.results93))))))))))) ?_;exact⟨_,rfl,f⟩
      cases g:decide (k=2)
      ·refine gS1 (aI i (aI j (aI l (aI s (aI u (aI v (aI y (aI @F4 (aI b (aI e (aI q (aI g (a3N @D6 @D8 @Tryz.results93))))))))))))) ?_;exact⟨_,rfl,f⟩
      ·refine gS1 (aI i (aI j (aI l (aI s (aI u (aI v (aI y (aI @F4 (aI b (aI e (aI q (aI g (a3N @D6 @D8 @Tryz.results93))))))))))))) ?_;exact⟨_,rfl,f⟩
     cases B:decide (o=[109,97,120])
     case true=>
      rw[P5 (.inr (.inr (.inr (.inr (.inr (z6z B))))))];cases b:(decide (n=0)&&decide (d=0))
      ·refine gS1 (aI i (aI j (aI l (aI s (aI u (aI v (aI y (aI B (aI @F4 (aI b (a3N @D6 @D8 @Tryz.results93))))))))))) ?_;exact⟨_,rfl,f⟩
      cases e:decide (nm=[])
      ·refine gS1 (aI i (aI j (aI l (aI s (aI u (aI v (aI y (aI B (aI @F4 (aI b (aI e (a3N @D6 @D8 @Tryz.results93)))))))))))) ?_;exact⟨_,rfl,f⟩
      cases g:decide (k=2)
      ·refine gS1 (aI i (aI j (aI l (aI s (aI u (aI v (aI y (aI B (aI @F4 (aI b (aI e (aI q (aI g (a3N @D6 @D8 @Tryz.results93)))))))))))))) ?_;exact⟨_,rfl,f⟩
      ·refine gS1 (aI i (aI j (aI l (aI s (aI u (aI v (aI y (aI B (aI @F4 (aI b (aI e (aI q (aI g (a3N @D6 @D8 @Tryz.results93)))))))))))))) ?_;exact⟨_,rfl,f⟩
     rw[IL K L (by
      rintro(h|h|h|h|h|h)
      ·exact z9z l h
      ·exact z9z s h
      ·exact z9z u h
      ·exact z9z v h
      ·exact z9z y h
      ·exact z9z B h)]
     refine gS1 (aI i (aI j (aI l (aI s (aI u (aI v (aI y (aI B (a3N @D6 @D8 @Tryz.results93))))))))) ?_;exact⟨_,rfl,f⟩
end
section
variable {es:List Ex}{k:Nat}{e:Ex}
def MZ:∀ {a b:List Ex},CX (a++b)=(CX a&&CX b)
 | [],b=>by rw[Be,Io];rfl
 |e::a,b=>by rw[LN,AS,AS,MZ,Bool.and_assoc]
def KX (h:es[k]? =some e):CX (es.take (k+1))=(CX (es.take k)&&DC e):=by
 rw[Rv,h,MZ];show _=_;rw[show(some e).toList=[e]from rfl,AS,Be,dR]
def JL (h:CX (es.take k)=false):CX es=false:=by
 rw[<- iB k es,MZ,h,Lr]
def WfL.get {w:Nat}:∀ {es:List Ex}{k:Nat}{e:Ex},WfL w es->es[k]? =some e->WfE w e
 |a::es,0,e,h,he=>by cases he;exact(DH.1 h).1
 |a::es,k+1,e,h,he=>WfL.get (DH.1 h).2 (by simpa using he)
 | [],k,e,h,he=>by simp at he
def bI:∀ {es:List Ex}{k:Nat}{e:Ex},es[k]? =some e->SizeOf.sizeOf e<SizeOf.sizeOf es
 |a::es,0,e,he=>by cases he;simp;omega
 |a::es,k+1,e,he=>by have:=bI (es:=es) (k:=k) (by simpa using he);simp;omega
 | [],k,e,he=>by simp at he
def fe:∀ (s:Nat){Z:St}{w:Nat}{e:Ex}{row:List Value},SizeOf.sizeOf e<s->WfE w e->w<=4->P8 Z row e->Ev (gO 41 [.agg ⟨row⟩] Z) (fun r=>∃ Z',r=⟨false,.bool (DC e),Z'⟩/\Ext Z Z') ⟨⟩:=by
 intro s;induction s with
 |zero=>intro Z w e row H;omega
 | succ s ih=>
   intro Z w e row H L F J;obtain⟨o,n,d,nm,es⟩:=e;obtain⟨v,B9,rfl,h1,-,h2⟩:=J;obtain⟨a,c,b,off,cells,rfl,s1,s2⟩:=Cn.slice h1 h2;obtain⟨k1,k2,k3,k4,k5,k6⟩:=Gu.1 L;rw[AX];obtain⟨R,hR⟩:∃ R:List Value,[str o,.int .i64 n,.int .i64 d,str nm,.slice a es.length c]=R:=⟨_,rfl⟩
   have C:sub R 0 5=some R:=by rw[<- hR];rfl
   have j:sub R 4 1=some [.slice a es.length c]:=by rw[<- hR];rfl
   have I:Ext Z (Z.new R):=eX;rw[hR];refine C8 Tryz.func41 rfl rfl ?_;refine gS1 C ?_;rw[<- hR];refine(mY (o:=o) (nm:=nm) (k:=es.length) ⟨om,om⟩ k4).mono ?_;rintro r ⟨S,rfl,q⟩;rw[hR]at q ⊢;refine gS ?_
   refine Ko es.length (fun k i Z'=>i.get 4=some (.int .i64 k)/\i.get 1=some (.pointer (some ⟨Z.n,0,none⟩))/\Ext (Z.new R) Z'/\i.get 3=some (.bool (AL o n d nm es.length&&CX (es.take k))))
    (fun r=>∃ i Z',r=⟨.exit 0,i,Z'⟩/\Ext Z Z'/\i.get 3=some (.bool (AL o n d nm es.length&&CX es))) ?_ ?_ ?_
   ·exact⟨fR,fR,q,by rw[PZ,Be,dR];exact(fR)⟩
   ·rintro k i Z' V ⟨u,p,m,g⟩;have G:Z'.row Z.n=some R:=eT (m.row (by simp)) cL;have B:=m.n;simp only[G3]at B;have h:Ext Z Z':=I.trans m;have N:decide ((k:Int)<(es.length:Int))=decide (k<es.length):=by rw[z7z,z3z,z3z];omega
    by_cases E:k=es.length
    ·subst E;rw[Jf]at g;have y:decide (es.length<es.length)=false:=dF;refine gS1 (aI u (aI p (aI g (aI y (aI G j))))) ?_;exact⟨_,_,rfl,h,fR1 g⟩
    ·have y:decide (k<es.length)=true:=dT;cases f:(AL o n d nm es.length&&CX (es.take k))with
     | false=>
       rw[f]at g;refine gS1 (aI u (aI p (aI g (aI y (aI G j))))) ?_;refine⟨_,_,rfl,h,?_⟩;have:(AL o n d nm es.length&&CX es)=false:=by
        cases K:AL o n d nm es.length
        ·rfl
        ·rw[K,Io]at f;rw[JL f];rfl
       rw[this];exact(fR1 g)
     | true=>
       rw[f]at g;rw[R2]at f;obtain⟨x,z⟩:=I1 (l:=es) (k:=k) om;obtain⟨rx,s3,x3⟩:=s2 k x z;obtain⟨sp,rfl,l3,l4⟩:=s1 om;have O:=eT (h.row l3) l4;have M:Nat.blt k es.length=true:=by rw[BW];omega
       have W:=x3.len;have D:sub rx 0 5=some rx:=C9 om om;refine gS1 (aI u (aI p (aI g (aI y (aI G (aI j (aI O (aI s3 (aI M D))))))))) ?_;refine(ih (by have:=bI z;simp at H;omega) (WfL.get k6 z) F (x3.mono h)).mono ?_;rintro r ⟨U,rfl,A⟩;refine gS1 (aI u (aI p g)) ?_;refine⟨om,fR,fR1 p,m.trans A,?_⟩;rw[KX z,f.1,f.2,Io,Io];exact(fR)
   ·rintro r ⟨i,Z',rfl,m,g⟩;refine gS1 (aI g @Tryz.results41) ?_;exact⟨_,rfl,m⟩
def fh {Z:St}{w m:Nat}{row:List Value}(C:WfE w e) (j:w<=4) (F:Y5 e<=m) (A:m<=1000) (h:P8 Z row e):Ev (gO 13 [.agg ⟨row⟩] Z) (fun r=>∃ Z',r=⟨false,.bool (AF e),Z'⟩/\Ext Z Z') ⟨⟩:=by
 have u:=h.len;have a:sub row 0 5=some row:=C9 om om;refine C8 Tryz.func13 rfl rfl ?_;refine gS1 a ?_;have p:Ext Z (Z.new row):=eX;refine(fe _ (Jt _) C j (h.mono p)).mono ?_;rintro r ⟨z,rfl,b⟩;have o:z.row Z.n=some row:=eT (b.row (by simp)) cL;have i:=p.trans b;unfold AF;cases B:DC e with
 | false=>
   refine gS1 (aI o (aI a (a3N @D6 @D8 @Tryz.results13))) ?_;exact⟨_,rfl,i⟩
 | true=>
   have s:=Yu _ _ (Jt _) B;refine gS1 (aI o a) ?_;refine(mW _ (Jt _) om s (h.mono i)).mono ?_;rintro r ⟨D,rfl,c⟩;have y:=eT (c.row (by have:=b.n;simp at this;omega)) o;have g:=i.trans c;cases v:decide (Y5 e<=60)with
   | false=>
     have q:decide (60<((Y5 e:Nat):Int))=true:=AW (by have:=z9z v;omega);refine gS1 (aI q (aI y (aI a (a3N @D6 @D8 @Tryz.results13)))) ?_;exact⟨_,rfl,g⟩
   | true=>
     have q:decide (60<((Y5 e:Nat):Int))=false:=z4z (by have:=z6z v;omega);refine gS1 (aI q (aI y a)) ?_;refine(mX _ (Jt _) om s (h.mono g)).mono ?_;rintro r ⟨E,rfl,d⟩;cases f:decide (AR e<=12)with
     | false=>
       have l:decide (12<((AR e:Nat):Int))=true:=AW (by have:=z9z f;omega);refine gS1 (aI l (a3N @D6 @D8 @Tryz.results13)) ?_;exact⟨_,rfl,g.trans d⟩
     | true=>
       have l:decide (12<((AR e:Nat):Int))=false:=z4z (by have:=z6z f;omega);refine gS1 (aI l (a3N @D6 @D8 @Tryz.results13)) ?_;exact⟨_,rfl,g.trans d⟩
end

end Go.Proofs.T
