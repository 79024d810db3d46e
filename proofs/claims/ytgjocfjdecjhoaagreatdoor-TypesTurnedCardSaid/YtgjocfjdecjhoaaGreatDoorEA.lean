/- The G6 check of any part of a DY. -/
import Derived.Test.YtgjocfjdecjhoaaGreatDoorSA
import Derived.Test.YtgjocfjdecjhoaaGreatDoorEQ
set_option linter.unusedSimpArgs false
set_option linter.unusedVariables false
set_option linter.defProp false
set_option maxHeartbeats 32000000
set_option maxRecDepth 100000
namespace Go.Proofs.T
open Go Go.Ab
section
variable {k:Nat}{n d:Int}{nm o:By}
def MK {m:Nat}:decide ((k:Int)=(m:Int))=decide (k=m):=by rw[z7z,z3z,z3z];omega
def NP:AO K9 n d nm k=(DL n d&&decide (0<=n)&&decide ((1000000:Int) % d=0)&&decide (n<=1000000000*d)&&decide (nm=[])&&decide (k=0)):=by unfold AO;rw[z1z rfl]
def LH:AO nmB n d nm k=(AM nm&& !decide (nm=R3)&& !decide (nm=R6)&&(decide (n=0)&&decide (d=0))&&decide (k=0)):=by unfold AO;rw[z0z (by decide),z1z rfl]
def O4 (h:o=[43]\/o=[45]\/o=[42]\/o=[47]\/o=R3\/o=R6):AO o n d nm k=((decide (n=0)&&decide (d=0))&&decide (nm=[])&&decide (k=2)):=by
 unfold AO;rw[z0z (by rcases h with rfl|rfl|rfl|rfl|rfl|rfl<;>decide),z0z (by rcases h with rfl|rfl|rfl|rfl|rfl|rfl<;>decide),z1z h]
def Hk (h1:o≠K9) (h2:o≠nmB) (h:¬ (o=[43]\/o=[45]\/o=[42]\/o=[47]\/o=R3\/o=R6)):AO o n d nm k=false:=by
 unfold AO;rw[z0z h1,z0z h2,z0z h]
def kT {Z:St}{a:Option Addr}{c:Nat}(hn: -1000000000000000000<=n/\n<=1000000000000000000) (hd:0<=d/\d<=1000000):
  Ev (gO 93 [.agg ⟨[str o,.int .i64 n,.int .i64 d,str nm,.slice a k c]⟩] Z) (fun r=>∃ Z',r=⟨false,.bool (AO o n d nm k),Z'⟩/\Ext Z Z') ⟨⟩:=by
 have E0:Ext Z (Z.new [str o,.int .i64 n,.int .i64 d,str nm,.slice a k c]):=eX;have lk0:decide ((k:Int)=0)=decide (k=0):=MK (m:=0);have lk2:decide ((k:Int)=2)=decide (k=2):=MK (m:=2);refine C9 Tryz.func93 rfl rfl ?_;cases d1:decide (o=[110,117,109])with
 | true=>
   obtain rfl:o=[110,117,109]:=z6z d1;rw[show AO [110,117,109] n d nm k=_ from NP];refine gS1 d1 ?_;refine(Ta (n:=n) (d:=d) ⟨om,om⟩ ⟨om,om⟩).mono ?_;rintro r ⟨Z2,rfl,hE2⟩;have r1:Z2.row Z.n=some [str [110,117,109],.int .i64 n,.int .i64 d,str nm,.slice a k c]:=eT (hE2.row (cL)) cL;have hE:Ext Z Z2:=(Ext.W6 (.refl _) _).trans hE2;cases b1:DL n d
   ·refine gS1 (aI r1 (a3N @D9 @F4 @Tryz.results93)) ?_;exact⟨_,rfl,hE⟩
   have hd1:1<=d:=by unfold DL at b1;simp only[Q7,Dn]at b1;exact b1.1
   have c0:decide (d=0)=false:=dF;cases b2:decide (n<0)
   case true=>
    rw[z4z (p:=0<=n) (by have:=z6z b2;omega)];refine gS1 (aI r1 (aI b2 (aI c0 (a3N @D9 @F4 @Tryz.results93)))) ?_;exact⟨_,rfl,hE⟩
   have hn0:0<=n:=by have:=z9z b2;omega
   rw[Be hn0];have hm:(1000000:Int).tmod d=1000000 % d:=XC om;have hp:(10:Int) ^ 0=1:=rfl;cases b3:decide ((1000000:Int) % d=0)
   ·refine gS1 (aI r1 (aI b2 (aI c0 (aI hm (aI b3 (a3N @D9 @F4 @Tryz.results93)))))) ?_;exact⟨_,rfl,hE⟩
   cases b4:decide (1000000000*d<n)
   case true=>
    rw[z4z (p:=n<=1000000000*d) (by have:=z6z b4;omega)];refine gS1 (aI r1 (aI b2 (aI c0 (aI hm (aI b3 (aI b4 (a3N @D9 @F4 @Tryz.results93))))))) ?_;exact⟨_,rfl,hE⟩
   rw[Be (p:=n<=1000000000*d) (by have:=z9z b4;omega)];cases b5:decide (nm=[])
   ·refine gS1 (aI r1 (aI b2 (aI c0 (aI hm (aI b3 (aI b4 (aI b5 (a3N @D9 @F4 @Tryz.results93)))))))) ?_;exact⟨_,rfl,hE⟩
   cases b6:decide (k=0)
   ·refine gS1 (aI r1 (aI b2 (aI c0 (aI hm (aI b3 (aI b4 (aI b5 (aI lk0 (aI b6 (a3N @D9 @F4 @Tryz.results93)))))))))) ?_;exact⟨_,rfl,hE⟩
   ·refine gS1 (aI r1 (aI b2 (aI c0 (aI hm (aI b3 (aI b4 (aI b5 (aI lk0 (aI b6 (a3N @D9 @F4 @Tryz.results93)))))))))) ?_;exact⟨_,rfl,hE⟩
 | false=>
   have o1:o≠K9:=z9z d1;cases d2:decide (o=[110,97,109,101])with
   | true=>
     obtain rfl:o=[110,97,109,101]:=z6z d2;rw[show AO [110,97,109,101] n d nm k=_ from LH];refine gS1 (aI d1 d2) ?_;refine Lh.mono ?_;rintro r rfl;rw[MG];have hE:=E0;cases b1:AM nm
     ·refine gS1 (aI b1 (a3N @D9 @F4 @Tryz.results93)) ?_;exact⟨_,rfl,hE⟩
     cases b2:decide (nm=[109,105,110])
     case true=>
      rw[show decide (nm=R3)=true from b2];refine gS1 (aI b1 (aI b2 (a3N @D9 @F4 @Tryz.results93))) ?_;exact⟨_,rfl,hE⟩
     rw[show decide (nm=R3)=false from b2];cases b3:decide (nm=[109,97,120])
     case true=>
      rw[show decide (nm=R6)=true from b3];refine gS1 (aI b1 (aI b2 (aI b3 (a3N @D9 @F4 @Tryz.results93)))) ?_;exact⟨_,rfl,hE⟩
     rw[show decide (nm=R6)=false from b3];cases b4:(decide (n=0)&&decide (d=0))
     ·refine gS1 (aI b1 (aI b2 (aI b3 (aI @G5 (aI b4 (a3N @D9 @F4 @Tryz.results93)))))) ?_;exact⟨_,rfl,hE⟩
     cases b5:decide (k=0)
     ·refine gS1 (aI b1 (aI b2 (aI b3 (aI @G5 (aI b4 (aI lk0 (aI b5 (a3N @D9 @F4 @Tryz.results93)))))))) ?_;exact⟨_,rfl,hE⟩
     ·refine gS1 (aI b1 (aI b2 (aI b3 (aI @G5 (aI b4 (aI lk0 (aI b5 (a3N @D9 @F4 @Tryz.results93)))))))) ?_;exact⟨_,rfl,hE⟩
   | false=>
     have o2:o≠nmB:=z9z d2;have hE:=E0;cases a1:decide (o=[43])
     case true=>
      rw[O4 (.inl (z6z a1))];cases b1:(decide (n=0)&&decide (d=0))
      ·refine gS1 (aI d1 (aI d2 (aI a1 (aI @G5 (aI b1 (a3N @D9 @F4 @Tryz.results93)))))) ?_;exact⟨_,rfl,hE⟩
      cases b2:decide (nm=[])
      ·refine gS1 (aI d1 (aI d2 (aI a1 (aI @G5 (aI b1 (aI b2 (a3N @D9 @F4 @Tryz.results93))))))) ?_;exact⟨_,rfl,hE⟩
      cases b3:decide (k=2)
      ·refine gS1 (aI d1 (aI d2 (aI a1 (aI @G5 (aI b1 (aI b2 (aI lk2 (aI b3 (a3N @D9 @F4 @Tryz.results93))))))))) ?_;exact⟨_,rfl,hE⟩
      ·refine gS1 (aI d1 (aI d2 (aI a1 (aI @G5 (aI b1 (aI b2 (aI lk2 (aI b3 (a3N @D9 @F4 @Tryz.results93))))))))) ?_;exact⟨_,rfl,hE⟩
     cases a2:decide (o=[45])
     case true=>
      rw[O4 (.inr (.inl (z6z a2)))];cases b1:(decide (n=0)&&decide (d=0))
      ·refine gS1 (aI d1 (aI d2 (aI a1 (aI a2 (aI @G5 (aI b1 (a3N @D9 @F4 @Tryz.results93))))))) ?_;exact⟨_,rfl,hE⟩
      cases b2:decide (nm=[])
      ·refine gS1 (aI d1 (aI d2 (aI a1 (aI a2 (aI @G5 (aI b1 (aI b2 (a3N @D9 @F4 @Tryz.results93)))))))) ?_;exact⟨_,rfl,hE⟩
      cases b3:decide (k=2)
      ·refine gS1 (aI d1 (aI d2 (aI a1 (aI a2 (aI @G5 (aI b1 (aI b2 (aI lk2 (aI b3 (a3N @D9 @F4 @Tryz.results93)))))))))) ?_;exact⟨_,rfl,hE⟩
      ·refine gS1 (aI d1 (aI d2 (aI a1 (aI a2 (aI @G5 (aI b1 (aI b2 (aI lk2 (aI b3 (a3N @D9 @F4 @Tryz.results93)))))))))) ?_;exact⟨_,rfl,hE⟩
     cases a3:decide (o=[42])
     case true=>
      rw[O4 (.inr (.inr (.inl (z6z a3))))];cases b1:(decide (n=0)&&decide (d=0))
      ·refine gS1 (aI d1 (aI d2 (aI a1 (aI a2 (aI a3 (aI @G5 (aI b1 (a3N @D9 @F4 @Tryz.results93)))))))) ?_;exact⟨_,rfl,hE⟩
      cases b2:decide (nm=[])
      ·refine gS1 (aI d1 (aI d2 (aI a1 (aI a2 (aI a3 (aI @G5 (aI b1 (aI b2 (a3N @D9 @F4 @Tryz.results93))))))))) ?_;exact⟨_,rfl,hE⟩
      cases b3:decide (k=2)
      ·refine gS1 (aI d1 (aI d2 (aI a1 (aI a2 (aI a3 (aI @G5 (aI b1 (aI b2 (aI lk2 (aI b3 (a3N @D9 @F4 @Tryz.results93))))))))))) ?_;exact⟨_,rfl,hE⟩
      ·refine gS1 (aI d1 (aI d2 (aI a1 (aI a2 (aI a3 (aI @G5 (aI b1 (aI b2 (aI lk2 (aI b3 (a3N @D9 @F4 @Tryz.results93))))))))))) ?_;exact⟨_,rfl,hE⟩
     cases a4:decide (o=[47])
     case true=>
      rw[O4 (.inr (.inr (.inr (.inl (z6z a4)))))];cases b1:(decide (n=0)&&decide (d=0))
      ·refine gS1 (aI d1 (aI d2 (aI a1 (aI a2 (aI a3 (aI a4 (aI @G5 (aI b1 (a3N @D9 @F4 @Tryz.results93))))))))) ?_;exact⟨_,rfl,hE⟩
      cases b2:decide (nm=[])
      ·refine gS1 (aI d1 (aI d2 (aI a1 (aI a2 (aI a3 (aI a4 (aI @G5 (aI b1 (aI b2 (a3N @D9 @F4 @Tryz.results93)))))))))) ?_;exact⟨_,rfl,hE⟩
      cases b3:decide (k=2)
      ·refine gS1 (aI d1 (aI d2 (aI a1 (aI a2 (aI a3 (aI a4 (aI @G5 (aI b1 (aI b2 (aI lk2 (aI b3 (a3N @D9 @F4 @Tryz.results93)))))))))))) ?_;exact⟨_,rfl,hE⟩
      ·refine gS1 (aI d1 (aI d2 (aI a1 (aI a2 (aI a3 (aI a4 (aI @G5 (aI b1 (aI b2 (aI lk2 (aI b3 (a3N @D9 @F4 @Tryz.results93)))))))))))) ?_;exact⟨_,rfl,hE⟩
     cases a5:decide (o=[109,105,110])
     case true=>
      rw[O4 (.inr (.inr (.inr (.inr (.inl (z6z a5))))))];cases b1:(decide (n=0)&&decide (d=0))
      ·refine gS1 (aI d1 (aI d2 (aI a1 (aI a2 (aI a3 (aI a4 (aI a5 (aI @G5 (aI b1 (a3N @D9 @F4 @Tryz.results93)))))))))) ?_;exact⟨_,rfl,hE⟩
      cases b2:decide (nm=[])
      ·refine gS1 (aI d1 (aI d2 (aI a1 (aI a2 (aI a3 (aI a4 (aI a5 (aI @G5 (aI b1 (aI b2 (a3N @D9 @F4 @Tryz.results93))))))))))) ?_;exact⟨_,rfl,hE⟩
      cases b3:decide (k=2)
      ·refine gS1 (aI d1 (aI d2 (aI a1 (aI a2 (aI a3 (aI a4 (aI a5 (aI @G5 (aI b1 (aI b2 (aI lk2 (aI b3 (a3N @D9 @F4 @Tryz.results93))))))))))))) ?_;exact⟨_,rfl,hE⟩
      ·refine gS1 (aI d1 (aI d2 (aI a1 (aI a2 (aI a3 (aI a4 (aI a5 (aI @G5 (aI b1 (aI b2 (aI lk2 (aI b3 (a3N @D9 @F4 @Tryz.results93))))))))))))) ?_;exact⟨_,rfl,hE⟩
     cases a6:decide (o=[109,97,120])
     case true=>
      rw[O4 (.inr (.inr (.inr (.inr (.inr (z6z a6))))))];cases b1:(decide (n=0)&&decide (d=0))
      ·refine gS1 (aI d1 (aI d2 (aI a1 (aI a2 (aI a3 (aI a4 (aI a5 (aI a6 (aI @G5 (aI b1 (a3N @D9 @F4 @Tryz.results93))))))))))) ?_;exact⟨_,rfl,hE⟩
      cases b2:decide (nm=[])
      ·refine gS1 (aI d1 (aI d2 (aI a1 (aI a2 (aI a3 (aI a4 (aI a5 (aI a6 (aI @G5 (aI b1 (aI b2 (a3N @D9 @F4 @Tryz.results93)))))))))))) ?_;exact⟨_,rfl,hE⟩
      cases b3:decide (k=2)
      ·refine gS1 (aI d1 (aI d2 (aI a1 (aI a2 (aI a3 (aI a4 (aI a5 (aI a6 (aI @G5 (aI b1 (aI b2 (aI lk2 (aI b3 (a3N @D9 @F4 @Tryz.results93)))))))))))))) ?_;exact⟨_,rfl,hE⟩
      ·refine gS1 (aI d1 (aI d2 (aI a1 (aI a2 (aI a3 (aI a4 (aI a5 (aI a6 (aI @G5 (aI b1 (aI b2 (aI lk2 (aI b3 (a3N @D9 @F4 @Tryz.results93)))))))))))))) ?_;exact⟨_,rfl,hE⟩
     rw[Hk o1 o2 (by
      rintro(h|h|h|h|h|h)
      ·exact z9z a1 h
      ·exact z9z a2 h
      ·exact z9z a3 h
      ·exact z9z a4 h
      ·exact z9z a5 h
      ·exact z9z a6 h)]
     refine gS1 (aI d1 (aI d2 (aI a1 (aI a2 (aI a3 (aI a4 (aI a5 (aI a6 (a3N @D9 @F4 @Tryz.results93))))))))) ?_;exact⟨_,rfl,hE⟩
end
section
variable {es:List Ex}{k:Nat}{e:Ex}
def Lx:∀ {a b:List Ex},CH (a++b)=(CH a&&CH b)
 | [],b=>by rw[BU,IE];rfl
 |e::a,b=>by rw[Mp,AK,AK,Lx,Bool.and_assoc]
def Ov (h:es[k]? =some e):CH (es.take (k+1))=(CH (es.take k)&&Da e):=by
 rw[Sw,h,Lx];show _=_;rw[show(some e).toList=[e]from rfl,AK,BU,bh]
def NA (h:CH (es.take k)=false):CH es=false:=by
 rw[<- fV k es,Lx,h,MJ]
def WfL.get {w:Nat}:∀ {es:List Ex}{k:Nat}{e:Ex},WfL w es->es[k]? =some e->WfE w e
 |a::es,0,e,h,he=>by cases he;exact(AL.1 h).1
 |a::es,k+1,e,h,he=>WfL.get (AL.1 h).2 (by simpa using he)
 | [],k,e,h,he=>by simp at he
def Zo:∀ {es:List Ex}{k:Nat}{e:Ex},es[k]? =some e->SizeOf.sizeOf e<SizeOf.sizeOf es
 |a::es,0,e,he=>by cases he;simp;omega
 |a::es,k+1,e,he=>by have:=Zo (es:=es) (k:=k) (by simpa using he);simp;omega
 | [],k,e,he=>by simp at he
def eJ:∀ (s:Nat){Z:St}{w:Nat}{e:Ex}{row:List Value},SizeOf.sizeOf e<s->WfE w e->w<=4->P6 Z row e->Ev (gO 41 [.agg ⟨row⟩] Z) (fun r=>∃ Z',r=⟨false,.bool (Da e),Z'⟩/\Ext Z Z') ⟨⟩:=by
 intro s;induction s with
 |zero=>intro Z w e row hs;omega
 | succ s ih=>
   intro Z w e row hs hw hw4 he;obtain⟨o,n,d,nm,es⟩:=e;obtain⟨v,B9,rfl,h1,-,h2⟩:=he;obtain⟨a,c,b,off,cells,rfl,s1,s2⟩:=Cb.slice h1 h2;obtain⟨k1,k2,k3,k4,k5,k6⟩:=Dt.1 hw;rw[AP];obtain⟨R,hR⟩:∃ R:List Value,[str o,.int .i64 n,.int .i64 d,str nm,.slice a es.length c]=R:=⟨_,rfl⟩
   have hfr:sub R 0 5=some R:=by rw[<- hR];rfl
   have hs3:sub R 4 1=some [.slice a es.length c]:=by rw[<- hR];rfl
   have E0:Ext Z (Z.new R):=eX;rw[hR];refine C9 Tryz.func41 rfl rfl ?_;refine gS1 hfr ?_;rw[<- hR];refine(kT (o:=o) (nm:=nm) (k:=es.length) ⟨om,om⟩ k4).mono ?_;rintro r ⟨Z2,rfl,hE2⟩;rw[hR]at hE2 ⊢;refine gS ?_
   refine KK es.length (fun k fr Z'=>fr.get 4=some (.int .i64 k)/\fr.get 1=some (.pointer (some ⟨Z.n,0,none⟩))/\Ext (Z.new R) Z'/\fr.get 3=some (.bool (AO o n d nm es.length&&CH (es.take k))))
    (fun r=>∃ fr Z',r=⟨.exit 0,fr,Z'⟩/\Ext Z Z'/\fr.get 3=some (.bool (AO o n d nm es.length&&CH es))) ?_ ?_ ?_
   ·exact⟨fR,fR,hE2,by rw[Oa,BU,bh];exact(fR)⟩
   ·rintro k fr Z' hk ⟨g4,g1,hE,g3⟩;have w1:Z'.row Z.n=some R:=eT (hE.row (by simp)) cL;have hEn:=hE.n;simp only[F6]at hEn;have hE0:Ext Z Z':=E0.trans hE;have lkk:decide ((k:Int)<(es.length:Int))=decide (k<es.length):=by rw[z7z,z3z,z3z];omega
    by_cases hk2:k=es.length
    ·subst hk2;rw[JF]at g3;have hc:decide (es.length<es.length)=false:=dF;refine gS1 (aI g4 (aI g1 (aI g3 (aI hc (aI w1 hs3))))) ?_;exact⟨_,_,rfl,hE0,fR1 g3⟩
    ·have hc:decide (k<es.length)=true:=dT;cases hok:(AO o n d nm es.length&&CH (es.take k))with
     | false=>
       rw[hok]at g3;refine gS1 (aI g4 (aI g1 (aI g3 (aI hc (aI w1 hs3))))) ?_;refine⟨_,_,rfl,hE0,?_⟩;have:(AO o n d nm es.length&&CH es)=false:=by
        cases hf:AO o n d nm es.length
        ·rfl
        ·rw[hf,IE]at hok;rw[NA hok];rfl
       rw[this];exact(fR1 g3)
     | true=>
       rw[hok]at g3;rw[Q7]at hok;obtain⟨x,hx⟩:=H5 (l:=es) (k:=k) om;obtain⟨rx,s3,x3⟩:=s2 k x hx;obtain⟨sp,rfl,l3,l4⟩:=s1 om;have w2:=eT (hE0.row l3) l4;have l5:Nat.blt k es.length=true:=by rw[Bt];omega
       have lx:=x3.len;have hfx:sub rx 0 5=some rx:=C8 om om;refine gS1 (aI g4 (aI g1 (aI g3 (aI hc (aI w1 (aI hs3 (aI w2 (aI s3 (aI l5 hfx))))))))) ?_;refine(ih (by have:=Zo hx;simp at hs;omega) (WfL.get k6 hx) hw4 (x3.mono hE0)).mono ?_;rintro r ⟨Z3,rfl,hE3⟩;refine gS1 (aI g4 (aI g1 g3)) ?_;refine⟨om,fR,fR1 g1,hE.trans hE3,?_⟩;rw[Ov hx,hok.1,hok.2,IE,IE];exact(fR)
   ·rintro r ⟨fr,Z',rfl,hE,g3⟩;refine gS1 (aI g3 @Tryz.results41) ?_;exact⟨_,rfl,hE⟩
def SD {Z:St}{w m:Nat}{row:List Value}(hw:WfE w e) (hw4:w<=4) (hm:R0 e<=m) (hm1:m<=1000) (he:P6 Z row e):Ev (gO 13 [.agg ⟨row⟩] Z) (fun r=>∃ Z',r=⟨false,.bool (AD e),Z'⟩/\Ext Z Z') ⟨⟩:=by
 have hlen:=he.len;have hfr:sub row 0 5=some row:=C8 om om;refine C9 Tryz.func13 rfl rfl ?_;refine gS1 hfr ?_;have E0:Ext Z (Z.new row):=eX;refine(eJ _ (II _) hw hw4 (he.mono E0)).mono ?_;rintro r ⟨Z2,rfl,hE2⟩;have w2:Z2.row Z.n=some row:=eT (hE2.row (by simp)) cL;have E2:=E0.trans hE2;unfold AD;cases hs:Da e with
 | false=>
   refine gS1 (aI w2 (aI hfr (a3N @D9 @F4 @Tryz.results13))) ?_;exact⟨_,rfl,E2⟩
 | true=>
   have hf:=Xm _ _ (II _) hs;refine gS1 (aI w2 hfr) ?_;refine(kQ _ (II _) om hf (he.mono E2)).mono ?_;rintro r ⟨Z3,rfl,hE3⟩;have w3:=eT (hE3.row (by have:=hE2.n;simp at this;omega)) w2;have E3:=E2.trans hE3;cases hq:decide (R0 e<=60)with
   | false=>
     have q:decide (60<((R0 e:Nat):Int))=true:=Be (by have:=z9z hq;omega);refine gS1 (aI q (aI w3 (aI hfr (a3N @D9 @F4 @Tryz.results13)))) ?_;exact⟨_,rfl,E3⟩
   | true=>
     have q:decide (60<((R0 e:Nat):Int))=false:=z4z (by have:=z6z hq;omega);refine gS1 (aI q (aI w3 hfr)) ?_;refine(kS _ (II _) om hf (he.mono E3)).mono ?_;rintro r ⟨Z4,rfl,hE4⟩;cases hq2:decide (AB e<=12)with
     | false=>
       have q2:decide (12<((AB e:Nat):Int))=true:=Be (by have:=z9z hq2;omega);refine gS1 (aI q2 (a3N @D9 @F4 @Tryz.results13)) ?_;exact⟨_,rfl,E3.trans hE4⟩
     | true=>
       have q2:decide (12<((AB e:Nat):Int))=false:=z4z (by have:=z6z hq2;omega);refine gS1 (aI q2 (a3N @D9 @F4 @Tryz.results13)) ?_;exact⟨_,rfl,E3.trans hE4⟩
end

end Go.Proofs.T
