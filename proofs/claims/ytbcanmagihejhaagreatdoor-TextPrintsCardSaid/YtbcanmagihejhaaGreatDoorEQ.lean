/- Ao5 of Ag: lists, Ar, text.Equal. -/
import Derived.Test.YtbcanmagihejhaaGreatDoorRC
set_option linter.unusedSimpArgs false
set_option linter.unusedVariables false
set_option linter.defProp false
set_option maxHeartbeats 32000000
set_option maxRecDepth 100000
namespace Go.Proofs.T
open Go Go.Ab
section
variable {Z:St}{v w:Value}{T U:Tn}
section
variable {x y:Operand}
def MB {a b:By}:((⟨⟨a⟩⟩:ByteArray)==⟨⟨b⟩⟩)=decide (a=b):=by
 rw[beq_toListBytes,ByteArray.toList_eq,ByteArray.toList_eq];show(a==b)=_;rw[z7z];simp
def tN {a b:Lot}:CI Tryz.prog .eql 78 x y (.agg ⟨a.row⟩) (.agg ⟨b.row⟩)=some (.bool (decide (a=b)))/\CI Tryz.prog .neq 78 x y (.agg ⟨a.row⟩) (.agg ⟨b.row⟩)=some (.bool (!decide (a=b))):=by
 have c:eqF Tryz.prog 9999 ⟨a.row⟩ ⟨b.row⟩ (Tryz.prog.fieldsOf 78).toList=bi (a.id==b.id) (bi (a.G4==b.G4) (some true) (some false)) (some false):=kR;have h:=IE (x:=x) (y:=y) rfl kR kR kR c;rw[Cs,Cs,DK,DK,Sh]at h;have e:(decide (a.id=b.id)&&decide (a.G4=b.G4))=decide (a=b):=by
  rw[z7z];cases a;cases b;simp
 rw[e]at h;exact h
def iB {a b:S8}:CI Tryz.prog .eql 80 x y (.agg ⟨a.row⟩) (.agg ⟨b.row⟩)=some (.bool (decide (a=b)))/\CI Tryz.prog .neq 80 x y (.agg ⟨a.row⟩) (.agg ⟨b.row⟩)=some (.bool (!decide (a=b))):=by
 have c:eqF Tryz.prog 9999 ⟨a.row⟩ ⟨b.row⟩ (Tryz.prog.fieldsOf 80).toList=bi ((⟨⟨a.name⟩⟩:ByteArray)==⟨⟨b.name⟩⟩) (bi (a.kind==b.kind) (bi (a.low==b.low) (bi (a.high==b.high) (bi (a.less==b.less) (some true) (some false)) (some false)) (some false)) (some false)) (some false):=kR;have h:=IE (x:=x) (y:=y) rfl kR kR kR c;rw[Cs,Cs,Cs,Cs,Cs,MB,DK,DK,DK,Sh]at h;have e:(decide (a.name=b.name)&&(decide (a.kind=b.kind)&&(decide (a.low=b.low)&&(decide (a.high=b.high)&&(a.less==b.less)))))=decide (a=b):=by
  rw[z7z];cases a;cases b;simp
 rw[e]at h;exact h
def tO {a b:Req}:CI Tryz.prog .eql 82 x y (.agg ⟨a.row⟩) (.agg ⟨b.row⟩)=some (.bool (decide (a=b)))/\CI Tryz.prog .neq 82 x y (.agg ⟨a.row⟩) (.agg ⟨b.row⟩)=some (.bool (!decide (a=b))):=by
 have c:eqF Tryz.prog 9999 ⟨a.row⟩ ⟨b.row⟩ (Tryz.prog.fieldsOf 82).toList=bi ((⟨⟨a.name⟩⟩:ByteArray)==⟨⟨b.name⟩⟩) (bi ((⟨⟨a.rel⟩⟩:ByteArray)==⟨⟨b.rel⟩⟩) (bi (a.value==b.value) (some true) (some false)) (some false)) (some false):=kR;have h:=IE (x:=x) (y:=y) rfl kR kR kR c;rw[Cs,Cs,Cs,MB,MB,DK,Sh]at h;have e:(decide (a.name=b.name)&&(decide (a.rel=b.rel)&&decide (a.value=b.value)))=decide (a=b):=by
  rw[z7z];cases a;cases b;simp
 rw[e]at h;exact h
def Tim.row (t:Tim):List Value:=[.int .i64 t.q,.int .i64 t.b,.int .i64 t.g,.int .i64 t.p,.int .i64 t.s]
def Ct {a b:Tim}:CI Tryz.prog .eql 39 x y (.agg ⟨a.row⟩) (.agg ⟨b.row⟩)=some (.bool (decide (a=b)))/\CI Tryz.prog .neq 39 x y (.agg ⟨a.row⟩) (.agg ⟨b.row⟩)=some (.bool (!decide (a=b))):=by
 have c:eqF Tryz.prog 9999 ⟨a.row⟩ ⟨b.row⟩ (Tryz.prog.fieldsOf 39).toList=bi (a.q==b.q) (bi (a.b==b.b) (bi (a.g==b.g) (bi (a.p==b.p) (bi (a.s==b.s) (some true) (some false)) (some false)) (some false)) (some false)) (some false):=kR;have h:=IE (x:=x) (y:=y) rfl kR kR kR c;rw[Cs,Cs,Cs,Cs,Cs,DK,DK,DK,DK,DK,Sh]at h;have e:(decide (a.q=b.q)&&(decide (a.b=b.b)&&(decide (a.g=b.g)&&(decide (a.p=b.p)&&decide (a.s=b.s)))))=decide (a=b):=by
  rw[z7z];cases a;cases b;simp
 rw[e]at h;exact h
end
mutual
def HJ:Ex->Ex->Bool
 | .mk o n d nm es,.mk o' n' d' nm' es'=>decide (o=o')&&(decide (n=n')&&decide (d=d'))&&decide (nm=nm')&&BC es es'
def BC:List Ex->List Ex->Bool
 | [],[]=>true
 |a::es,b::fs=>HJ a b&&BC es fs
 | [],_::_=>false
 |_::_,[]=>false
end
def SK:∀ {es fs:List Ex},es.length≠fs.length->BC es fs=false
 | [],[],h=>absurd rfl h
 | a::es,b::fs,h=>by
   unfold BC;rw[SK (es:=es) (fs:=fs) (by simpa using h),LO]
 | [],_::_,_=>by unfold BC;rfl
 |_::_,[],_=>by unfold BC;rfl
def Ou:∀ {es fs:List Ex}{k:Nat}{a b:Ex},es.length=fs.length->es[k]? =some a->fs[k]? =some b->HJ a b=false->BC es fs=false
 |a::es,b::fs,0,_,_,_,h1,h2,h=>by cases h1;cases h2;unfold BC;rw[h,CZ]
 | a::es,b::fs,k+1,_,_,hl,h1,h2,h=>by
   unfold BC;rw[Ou (es:=es) (fs:=fs) (k:=k) (by simpa using hl) (by simpa using h1) (by simpa using h2) h,LO]
 | [],_,_,_,_,_,h1,_,_=>by simp at h1
 |_::_,[],_,_,_,hl,_,_,_=>by simp at hl
def SM:∀ {es fs:List Ex},es.length=fs.length->(∀ (k:Nat) (a b:Ex),es[k]? =some a->fs[k]? =some b->HJ a b=true)->BC es fs=true
 | [],[],_,_=>by unfold BC;rfl
 | a::es,b::fs,hl,h=>by
   unfold BC;rw[h 0 a b rfl rfl,SM (es:=es) (fs:=fs) (by simpa using hl) (fun k x y hx hy=>h (k+1) x y (by simpa using hx) (by simpa using hy)),Sh]
 | [],_::_,hl,_=>by simp at hl
 |_::_,[],hl,_=>by simp at hl
mutual
theorem SN:∀ a:Ex,HJ a a=true
 | .mk o n d nm es=>by unfold HJ;rw[Ov es];simp
theorem Ov:∀ es:List Ex,BC es es=true
 | []=>by unfold BC;rfl
 |a::es=>by unfold BC;rw[SN a,Ov es];rfl
end
def BH.slice {D0:List (List Value)}{es:List Ex}(h:SL Z 5 v D0) (d:BH Z D0 es):∃ a c b off cells,v= .slice a es.length c/\(0<es.length->∃ sp,a=some ⟨b,off,sp⟩/\b<Z.n/\Z.row b=some cells) /\
  ∀ k e,es[k]? =some e->∃ row,sub cells (off+k*5) 5=some row/\Aq Z row e:=by
 obtain⟨a,c,b,off,cells,f,g,j⟩:=SL.use h;rw[d.len]at f g;refine⟨a,c,b,off,cells,f,g,fun k e i=>?_⟩;obtain⟨hlt,_⟩:=List.getElem?_eq_some_iff.1 i;obtain⟨row,hr⟩:=I3 (l:=D0) (k:=k) (by rw[d.len];exact hlt);exact⟨row,j k row hr,d.get hr i⟩
def ym {Z:St}{v w:Value}{D0 J:List (List Value)}{es fs:List Ex}{g:Nat}(K:SL Z 5 v D0) (L:BH Z D0 es) (C:SL Z 5 w J) (D:BH Z J fs) (hl:es.length<=4) (Q:fs.length<=4)
  (O:∀ a b,a∈es->∀ ra rb Z',Ext Z Z'->Aq Z' ra a->Aq Z' rb b->Ev (go Tryz.prog HS (.fn g) [.agg ⟨ra⟩,.agg ⟨rb⟩] Z') (fun r=>∃ Z2,r=⟨false,.bool (HJ a b),Z2⟩/\Ext Z' Z2) ⟨⟩) :
  Ev (gO 76 [v,w,.func (.func g) ⟨[]⟩ ⟨[]⟩] Z) (fun r=>∃ Z2,r=⟨false,.bool (BC es fs),Z2⟩/\Ext Z Z2) ⟨⟩:=by
 obtain⟨X,Y,sb,so,a0,rfl,V,W⟩:=BH.slice K L;obtain⟨sa',sc',sb',so',Ao6,rfl,s1',s2'⟩:=BH.slice C D;refine G1 Tryz.func76 rfl rfl ?_;by_cases d:es.length=fs.length
 ·have o:decide ((es.length:Int)=(fs.length:Int))=true:=by simp[d]
  refine gS1 o ?_
  refine I9 es.length (fun k fr Z'=>fr.get 17=some (.int .i64 k)/\fr.get 16=some (.int .i64 es.length)/\fr.get 15=some (.slice X es.length Y)/\fr.get 1=some (.slice sa' fs.length sc')/\fr.get 2=some (.func (.func g) ⟨[]⟩ ⟨[]⟩)/\Ext Z Z'/\(∀ i a b,i<k->es[i]? =some a->fs[i]? =some b->HJ a b=true))
   (fun r=>(∃ fr Z',r=⟨.exit 0,fr,Z'⟩/\Ext Z Z'/\BC es fs=true)\/(∃ fr Z',r=⟨.ret,fr,Z'⟩/\Ext Z Z'/\fr.get 6=some (.bool false)/\BC es fs=false)) ?_ ?_ ?_ ?_
  ·exact⟨fR,fR,fR,fR,fR,.refl _,fun i a b h=>om⟩
  ·rintro k fr Z' I ⟨j,c,f,p,g2,m,G⟩;have N:=M3 I;have F:k<fs.length:=om;obtain⟨x,A⟩:=I3 I;obtain⟨y,hy⟩:=I3 F;obtain⟨rx,hrx,hex⟩:=W k x A;obtain⟨ry,hry,hey⟩:=s2' k y hy;obtain⟨sp,rfl,l3,l4⟩:=V om;obtain⟨sp',rfl,l3',l4'⟩:=s1' om;have R:=eT (m.row l3) l4;have S:=eT (m.row l3') l4';have H:rx.length=5:=hex.len;have B:ry.length=5:=hey.len;have M:=m.n;have t1:sub rx 0 5=some rx:=G3 om om;have t2:sub ry 0 5=some ry:=G3 om om;have w1:∀ l:List Value,l.length=5->M5 l 0 rx=some rx:=fun l h=>HG om om;have w2:∀ l:List Value,l.length=5->M5 l 0 ry=some ry:=fun l h=>HG om om;refine gS1 (aI p (aI g2 (aI f (aI c (aI j (aI N (aI R (aI S (aI hrx (aI hry (aI H (aI B (aI t1 t2))))))))))))) ?_;refine(O x y (y6 A) rx ry _ ?_ ?_ ?_).mono ?_
   ·exact eX
   ·exact hex.mono (eX)
   ·exact hey.mono (eX)
   rintro r ⟨Z2,rfl,E⟩;have u:Ext Z Z2:=Ext.trans (eX) E;refine gS1 (aI p (aI g2 (aI f (aI c j)))) ?_;cases s:HJ x y with
   | true=>
     refine gS1 (aI p (aI g2 (aI f (aI c j)))) ?_;refine⟨fR,fR1 c,fR1 f,fR1 p,fR1 g2,u,fun i a b hi q z=>?_⟩;by_cases e:i=k
     ·subst e;rw[A]at q;rw[hy]at z;cases q;cases z;exact s
     ·exact G i a b om q z
   | false=>
     refine gS1 (aI p (aI g2 (aI f (aI c j)))) ?_;exact .inr ⟨_,_,rfl,u,fR,Ou d A hy s⟩
  ·rintro fr Z' ⟨j,c,f,p,g2,m,G⟩;refine gS1 (aI c j) ?_;exact .inl ⟨_,_,rfl,m,SM d fun k a b q z=>G k a b (List.getElem?_eq_some_iff.1 q).1 q z⟩
  ·rintro r (⟨fr,Z',rfl,m,s⟩|⟨fr,Z',rfl,m,g4,s⟩)
   ·refine gS1 @Tryz.results76 ?_;rw[s];exact⟨_,rfl,m⟩
   ·refine gS1 (aI @Tryz.results76 g4) ?_;rw[s];exact⟨_,rfl,m⟩
 ·have o:decide ((es.length:Int)=(fs.length:Int))=false:=by simp;omega
  refine gS1 (aI o @Tryz.results76) ?_;rw[SK d];exact⟨_,rfl,.refl _⟩
def PH {l m:List By}(E:HL Z v l) (D:HL Z w m) (H:l.length<=100) (F:m.length<=100):
  Ev (gO 44 [v,w] Z) (fun r=>r=⟨false,.bool (decide (l=m)),Z⟩) ⟨⟩:=by
 obtain⟨a,c,b,off,cells,rfl,C,s⟩:=E.use;obtain⟨a',c',b',tQ,j8,rfl,h1',g⟩:=D.use;refine G1 Tryz.func44 rfl rfl ?_;by_cases e:l.length=m.length
 ·have z:decide ((l.length:Int)=(m.length:Int))=true:=by simp[e]
  refine gS1 z ?_
  refine I9 l.length (fun i fr Z'=>fr.get 13=some (.int .i64 i)/\fr.get 12=some (.int .i64 l.length)/\fr.get 0=some (.slice a l.length c)/\fr.get 1=some (.slice a' m.length c')/\Z'=Z/\l.take i=m.take i)
   (fun r=>(∃ fr,r=⟨.exit 0,fr,Z⟩/\l=m)\/(∃ fr,r=⟨.ret,fr,Z⟩/\fr.get 4=some (.bool false)/\l≠m)) ?_ ?_ ?_ ?_
  ·exact⟨fR,fR,fR,fR,rfl,by simp⟩
  ·rintro i fr Z' hi ⟨f,d,p,q,rfl,n⟩;have A:=M3 hi;have u:i<m.length:=om;obtain⟨sp,rfl,G,B⟩:=C om;obtain⟨sp',rfl,hb',hr'⟩:=h1' om;obtain⟨x,hx⟩:=I3 hi;obtain⟨y,hy⟩:=I3 u;have s:=s i x hx;have g:=g i y hy;cases j:decide (x=y)with
   | true=>
     have o:x=y:=z6z j;refine gS1 (aI p (aI q (aI d (aI f (aI A (aI B (aI hr' (aI s (aI g j))))))))) ?_;exact⟨fR,fR1 d,fR1 p,fR1 q,by trivial,by rw[Gf,Gf,n,hx,hy,o]⟩
   | false=>
     have o:¬ x=y:=z9z j;refine gS1 (aI p (aI q (aI d (aI f (aI A (aI B (aI hr' (aI s (aI g j))))))))) ?_;refine .inr ⟨_,rfl,fR,fun h=>?_⟩;subst h;rw[hx]at hy;cases hy;exact o rfl
  ·rintro fr Z' ⟨f,d,p,q,rfl,n⟩;refine gS1 (aI d f) ?_;refine .inl ⟨_,rfl,?_⟩;rw[Dq,e,Dq]at n;exact n
  ·rintro r (⟨fr,rfl,n⟩|⟨fr,rfl,g4,n⟩)
   ·refine gS1 @Tryz.results44 ?_;rw[AK n]
   ·refine gS1 (aI @Tryz.results44 g4) ?_;rw[z4z n]
 ·have z:decide ((l.length:Int)=(m.length:Int))=false:=by simp;omega
  refine gS1 (aI z @Tryz.results44) ?_;rw[z4z (fun h=>e (by rw[h]))]
def PI {l m:List Int}(E:GG Z v l) (D:GG Z w m) (H:l.length<=100) (F:m.length<=100):
  Ev (gO 46 [v,w] Z) (fun r=>r=⟨false,.bool (decide (l=m)),Z⟩) ⟨⟩:=by
 obtain⟨a,c,b,off,cells,rfl,C,s⟩:=E.use;obtain⟨a',c',b',tQ,j8,rfl,h1',g⟩:=D.use;refine G1 Tryz.func46 rfl rfl ?_;by_cases e:l.length=m.length
 ·have z:decide ((l.length:Int)=(m.length:Int))=true:=by simp[e]
  refine gS1 z ?_
  refine I9 l.length (fun i fr Z'=>fr.get 13=some (.int .i64 i)/\fr.get 12=some (.int .i64 l.length)/\fr.get 0=some (.slice a l.length c)/\fr.get 1=some (.slice a' m.length c')/\Z'=Z/\l.take i=m.take i)
   (fun r=>(∃ fr,r=⟨.exit 0,fr,Z⟩/\l=m)\/(∃ fr,r=⟨.ret,fr,Z⟩/\fr.get 4=some (.bool false)/\l≠m)) ?_ ?_ ?_ ?_
  ·exact⟨fR,fR,fR,fR,rfl,by simp⟩
  ·rintro i fr Z' hi ⟨f,d,p,q,rfl,n⟩;have A:=M3 hi;have u:i<m.length:=om;obtain⟨sp,rfl,G,B⟩:=C om;obtain⟨sp',rfl,hb',hr'⟩:=h1' om;obtain⟨x,hx⟩:=I3 hi;obtain⟨y,hy⟩:=I3 u;have s:=s i x hx;have g:=g i y hy;cases j:decide (x=y)with
   | true=>
     have o:x=y:=z6z j;refine gS1 (aI p (aI q (aI d (aI f (aI A (aI B (aI hr' (aI s (aI g j))))))))) ?_;exact⟨fR,fR1 d,fR1 p,fR1 q,by trivial,by rw[Gf,Gf,n,hx,hy,o]⟩
   | false=>
     have o:¬ x=y:=z9z j;refine gS1 (aI p (aI q (aI d (aI f (aI A (aI B (aI hr' (aI s (aI g j))))))))) ?_;refine .inr ⟨_,rfl,fR,fun h=>?_⟩;subst h;rw[hx]at hy;cases hy;exact o rfl
  ·rintro fr Z' ⟨f,d,p,q,rfl,n⟩;refine gS1 (aI d f) ?_;refine .inl ⟨_,rfl,?_⟩;rw[Dq,e,Dq]at n;exact n
  ·rintro r (⟨fr,rfl,n⟩|⟨fr,rfl,g4,n⟩)
   ·refine gS1 @Tryz.results46 ?_;rw[AK n]
   ·refine gS1 (aI @Tryz.results46 g4) ?_;rw[z4z n]
 ·have z:decide ((l.length:Int)=(m.length:Int))=false:=by simp;omega
  refine gS1 (aI z @Tryz.results46) ?_;rw[z4z (fun h=>e (by rw[h]))]
def PJ {l m:List Lot}(E:iq Z v l) (D:iq Z w m) (H:l.length<=100) (F:m.length<=100):
  Ev (gO 41 [v,w] Z) (fun r=>r=⟨false,.bool (decide (l=m)),Z⟩) ⟨⟩:=by
 obtain⟨a,c,b,off,cells,rfl,C,s⟩:=E.use;obtain⟨a',c',b',tQ,j8,rfl,h1',j⟩:=D.use;refine G1 Tryz.func41 rfl rfl ?_;by_cases g:l.length=m.length
 ·have z:decide ((l.length:Int)=(m.length:Int))=true:=by simp[g]
  refine gS1 z ?_
  refine I9 l.length (fun i fr Z'=>fr.get 13=some (.int .i64 i)/\fr.get 12=some (.int .i64 l.length)/\fr.get 0=some (.slice a l.length c)/\fr.get 1=some (.slice a' m.length c')/\Z'=Z/\l.take i=m.take i)
   (fun r=>(∃ fr,r=⟨.exit 0,fr,Z⟩/\l=m)\/(∃ fr,r=⟨.ret,fr,Z⟩/\fr.get 4=some (.bool false)/\l≠m)) ?_ ?_ ?_ ?_
  ·exact⟨fR,fR,fR,fR,rfl,by simp⟩
  ·rintro i fr Z' hi ⟨e,d,p,q,rfl,n⟩;have A:=M3 hi;have u:i<m.length:=om;obtain⟨sp,rfl,G,B⟩:=C om;obtain⟨sp',rfl,hb',hr'⟩:=h1' om;obtain⟨x,hx⟩:=I3 hi;obtain⟨y,hy⟩:=I3 u;have s:=(s i x hx).1;have j:=(j i y hy).1;cases f:decide (x=y)with
   | true=>
     have o:x=y:=z6z f;refine gS1 (aI p (aI q (aI d (aI e (aI A (aI B (aI hr' (aI s (aI j (aI @tN f)))))))))) ?_
     try refine dW ?_
     try(refine gS1 (aI p (aI q (aI d (aI e f)))) ?_;try exact⟨⟩)
     exact⟨fR,fR1 d,fR1 p,fR1 q,by trivial,by rw[Gf,Gf,n,hx,hy,o]⟩
   | false=>
     have o:¬ x=y:=z9z f;refine gS1 (aI p (aI q (aI d (aI e (aI A (aI B (aI hr' (aI s (aI j (aI @tN f)))))))))) ?_
     try refine dW ?_
     try(refine gS1 (aI p (aI q (aI d (aI e f)))) ?_;try exact⟨⟩)
     refine .inr ⟨_,rfl,fR,fun h=>?_⟩;subst h;rw[hx]at hy;cases hy;exact o rfl
  ·rintro fr Z' ⟨e,d,p,q,rfl,n⟩;refine gS1 (aI d e) ?_;refine .inl ⟨_,rfl,?_⟩;rw[Dq,g,Dq]at n;exact n
  ·rintro r (⟨fr,rfl,n⟩|⟨fr,rfl,g4,n⟩)
   ·refine gS1 @Tryz.results41 ?_;rw[AK n]
   ·refine gS1 (aI @Tryz.results41 g4) ?_;rw[z4z n]
 ·have z:decide ((l.length:Int)=(m.length:Int))=false:=by simp;omega
  refine gS1 (aI z @Tryz.results41) ?_;rw[z4z (fun h=>g (by rw[h]))]
def OC {l m:List S8}(E:TO Z v l) (D:TO Z w m) (H:l.length<=100) (F:m.length<=100):
  Ev (gO 42 [v,w] Z) (fun r=>r=⟨false,.bool (decide (l=m)),Z⟩) ⟨⟩:=by
 obtain⟨a,c,b,off,cells,rfl,C,s⟩:=E.use;obtain⟨a',c',b',tQ,j8,rfl,h1',j⟩:=D.use;refine G1 Tryz.func42 rfl rfl ?_;by_cases g:l.length=m.length
 ·have z:decide ((l.length:Int)=(m.length:Int))=true:=by simp[g]
  refine gS1 z ?_
  refine I9 l.length (fun i fr Z'=>fr.get 13=some (.int .i64 i)/\fr.get 12=some (.int .i64 l.length)/\fr.get 0=some (.slice a l.length c)/\fr.get 1=some (.slice a' m.length c')/\Z'=Z/\l.take i=m.take i)
   (fun r=>(∃ fr,r=⟨.exit 0,fr,Z⟩/\l=m)\/(∃ fr,r=⟨.ret,fr,Z⟩/\fr.get 4=some (.bool false)/\l≠m)) ?_ ?_ ?_ ?_
  ·exact⟨fR,fR,fR,fR,rfl,by simp⟩
  ·rintro i fr Z' hi ⟨e,d,p,q,rfl,n⟩;have A:=M3 hi;have u:i<m.length:=om;obtain⟨sp,rfl,G,B⟩:=C om;obtain⟨sp',rfl,hb',hr'⟩:=h1' om;obtain⟨x,hx⟩:=I3 hi;obtain⟨y,hy⟩:=I3 u;have s:=(s i x hx).1;have j:=(j i y hy).1;cases f:decide (x=y)with
   | true=>
     have o:x=y:=z6z f;refine gS1 (aI p (aI q (aI d (aI e (aI A (aI B (aI hr' (aI s (aI j (aI @iB f)))))))))) ?_
     try refine dW ?_
     try(refine gS1 (aI p (aI q (aI d (aI e f)))) ?_;try exact⟨⟩)
     exact⟨fR,fR1 d,fR1 p,fR1 q,by trivial,by rw[Gf,Gf,n,hx,hy,o]⟩
   | false=>
     have o:¬ x=y:=z9z f;refine gS1 (aI p (aI q (aI d (aI e (aI A (aI B (aI hr' (aI s (aI j (aI @iB f)))))))))) ?_
     try refine dW ?_
     try(refine gS1 (aI p (aI q (aI d (aI e f)))) ?_;try exact⟨⟩)
     refine .inr ⟨_,rfl,fR,fun h=>?_⟩;subst h;rw[hx]at hy;cases hy;exact o rfl
  ·rintro fr Z' ⟨e,d,p,q,rfl,n⟩;refine gS1 (aI d e) ?_;refine .inl ⟨_,rfl,?_⟩;rw[Dq,g,Dq]at n;exact n
  ·rintro r (⟨fr,rfl,n⟩|⟨fr,rfl,g4,n⟩)
   ·refine gS1 @Tryz.results42 ?_;rw[AK n]
   ·refine gS1 (aI @Tryz.results42 g4) ?_;rw[z4z n]
 ·have z:decide ((l.length:Int)=(m.length:Int))=false:=by simp;omega
  refine gS1 (aI z @Tryz.results42) ?_;rw[z4z (fun h=>g (by rw[h]))]
def PK {l m:List Req}(E:ir Z v l) (D:ir Z w m) (H:l.length<=100) (F:m.length<=100):
  Ev (gO 43 [v,w] Z) (fun r=>r=⟨false,.bool (decide (l=m)),Z⟩) ⟨⟩:=by
 obtain⟨a,c,b,off,cells,rfl,C,s⟩:=E.use;obtain⟨a',c',b',tQ,j8,rfl,h1',j⟩:=D.use;refine G1 Tryz.func43 rfl rfl ?_;by_cases g:l.length=m.length
 ·have z:decide ((l.length:Int)=(m.length:Int))=true:=by simp[g]
  refine gS1 z ?_
  refine I9 l.length (fun i fr Z'=>fr.get 13=some (.int .i64 i)/\fr.get 12=some (.int .i64 l.length)/\fr.get 0=some (.slice a l.length c)/\fr.get 1=some (.slice a' m.length c')/\Z'=Z/\l.take i=m.take i)
   (fun r=>(∃ fr,r=⟨.exit 0,fr,Z⟩/\l=m)\/(∃ fr,r=⟨.ret,fr,Z⟩/\fr.get 4=some (.bool false)/\l≠m)) ?_ ?_ ?_ ?_
  ·exact⟨fR,fR,fR,fR,rfl,by simp⟩
  ·rintro i fr Z' hi ⟨e,d,p,q,rfl,n⟩;have A:=M3 hi;have u:i<m.length:=om;obtain⟨sp,rfl,G,B⟩:=C om;obtain⟨sp',rfl,hb',hr'⟩:=h1' om;obtain⟨x,hx⟩:=I3 hi;obtain⟨y,hy⟩:=I3 u;have s:=(s i x hx).1;have j:=(j i y hy).1;cases f:decide (x=y)with
   | true=>
     have o:x=y:=z6z f;refine gS1 (aI p (aI q (aI d (aI e (aI A (aI B (aI hr' (aI s (aI j (aI @tO f)))))))))) ?_
     try refine dW ?_
     try(refine gS1 (aI p (aI q (aI d (aI e f)))) ?_;try exact⟨⟩)
     exact⟨fR,fR1 d,fR1 p,fR1 q,by trivial,by rw[Gf,Gf,n,hx,hy,o]⟩
   | false=>
     have o:¬ x=y:=z9z f;refine gS1 (aI p (aI q (aI d (aI e (aI A (aI B (aI hr' (aI s (aI j (aI @tO f)))))))))) ?_
     try refine dW ?_
     try(refine gS1 (aI p (aI q (aI d (aI e f)))) ?_;try exact⟨⟩)
     refine .inr ⟨_,rfl,fR,fun h=>?_⟩;subst h;rw[hx]at hy;cases hy;exact o rfl
  ·rintro fr Z' ⟨e,d,p,q,rfl,n⟩;refine gS1 (aI d e) ?_;refine .inl ⟨_,rfl,?_⟩;rw[Dq,g,Dq]at n;exact n
  ·rintro r (⟨fr,rfl,n⟩|⟨fr,rfl,g4,n⟩)
   ·refine gS1 @Tryz.results43 ?_;rw[AK n]
   ·refine gS1 (aI @Tryz.results43 g4) ?_;rw[z4z n]
 ·have z:decide ((l.length:Int)=(m.length:Int))=false:=by simp;omega
  refine gS1 (aI z @Tryz.results43) ?_;rw[z4z (fun h=>g (by rw[h]))]
def WN {l m:List (List Int)}(I:LU Z v l) (H:LU Z w m) (O:l.length<=100) (J:m.length<=100) (hi:∀ c∈l,c.length<=100) (B:∀ c∈m,c.length<=100):
  Ev (gO 45 [v,w,.func (.func 46) ⟨[]⟩ ⟨[]⟩] Z) (fun r=>r=⟨false,.bool (decide (l=m)),Z⟩) ⟨⟩:=by
 obtain⟨vs,L,E⟩:=I;obtain⟨vs',k1',k2'⟩:=H;obtain⟨a,c,b,off,cells,rfl,h1,z⟩:=SL.SU L;obtain⟨a',c',b',tQ,j8,rfl,h1',g⟩:=SL.SU k1';have F:=E.len;have M:=k2'.len;refine G1 Tryz.func45 rfl rfl ?_;by_cases j:l.length=m.length
 ·have A:decide ((vs.length:Int)=(vs'.length:Int))=true:=by simp;omega
  refine gS1 A ?_
  refine I9 vs.length (fun i fr Z'=>fr.get 17=some (.int .i64 i)/\fr.get 16=some (.int .i64 vs.length)/\fr.get 15=some (.slice a vs.length c)/\fr.get 1=some (.slice a' vs'.length c')/\fr.get 2=some (.func (.func 46) ⟨[]⟩ ⟨[]⟩)/\Z'=Z/\l.take i=m.take i)
   (fun r=>(∃ fr,r=⟨.exit 0,fr,Z⟩/\l=m)\/(∃ fr,r=⟨.ret,fr,Z⟩/\fr.get 6=some (.bool false)/\l≠m)) ?_ ?_ ?_ ?_
  ·exact⟨fR,fR,fR,fR,fR,rfl,by simp⟩
  ·rintro i fr Z' s ⟨f,d,e,p,g2,rfl,n⟩;have G:=M3 s;obtain⟨sp,rfl,N,K⟩:=h1 om;obtain⟨sp',rfl,hb',hr'⟩:=h1' om;obtain⟨u,hu⟩:=I3 s;obtain⟨u',hu'⟩:=I3 (l:=vs') (k:=i) om;obtain⟨x,hx⟩:=I3 (l:=l) (k:=i) om;obtain⟨y,hy⟩:=I3 (l:=m) (k:=i) om;have z:=z i u hu;have g:=g i u' hu';rw[Fh]at z g;have C:=E.get hu hx;have D:=k2'.get hu' hy;obtain⟨sa,sc,sb,so,scs,rfl,-,-⟩:=C.use;obtain⟨sa',sc',sb',so',Ao6,rfl,-,-⟩:=D.use;refine gS1 (aI p (aI g2 (aI e (aI d (aI f (aI G (aI K (aI hr' (aI z g))))))))) ?_;refine(PI C D (hi x (y6 hx)) (B y (y6 hy))).mono ?_;rintro r rfl;cases q:decide (x=y)with
   | true=>
     have o:x=y:=z6z q;refine gS1 (aI p (aI g2 (aI e (aI d f)))) ?_;exact⟨fR,fR1 d,fR1 e,fR1 p,fR1 g2,by trivial,by rw[Gf,Gf,n,hx,hy,o]⟩
   | false=>
     have o:¬ x=y:=z9z q;refine gS1 (aI p (aI g2 (aI e (aI d f)))) ?_;refine .inr ⟨_,rfl,fR,fun h=>?_⟩;subst h;rw[hx]at hy;cases hy;exact o rfl
  ·rintro fr Z' ⟨f,d,e,p,g2,rfl,n⟩;refine gS1 (aI d f) ?_;refine .inl ⟨_,rfl,?_⟩;rw[F,Dq,j,Dq]at n;exact n
  ·rintro r (⟨fr,rfl,n⟩|⟨fr,rfl,g4,n⟩)
   ·refine gS1 @Tryz.results45 ?_;rw[AK n]
   ·refine gS1 (aI @Tryz.results45 g4) ?_;rw[z4z n]
 ·have A:decide ((vs.length:Int)=(vs'.length:Int))=false:=by simp;omega
  refine gS1 (aI A @Tryz.results45) ?_;rw[z4z (fun h=>j (by rw[h]))]
def AU7:∀ (n:Nat){Z:St}{ra rb:List Value}{a b:Ex},SizeOf.sizeOf a<n->Aq Z ra a->Aq Z rb b->Ev (gO 47 [.agg ⟨ra⟩,.agg ⟨rb⟩] Z) (fun r=>∃ Z',r=⟨false,.bool (HJ a b),Z'⟩/\Ext Z Z') ⟨⟩:=by
 intro n;induction n with
 |zero=>intro Z ra rb a b h;omega
 | succ n ih=>
   rintro Z ra rb ⟨o,B,p,nm,es⟩ ⟨C,g,d,f,i⟩ A ⟨v,D0,rfl,D,G,E⟩ ⟨v',R,rfl,j,q,l⟩;have F:HJ (.mk o B p nm es) (.mk C g d f i)=(decide (o=C)&&(decide (B=g)&&decide (p=d))&&decide (nm=f)&&BC es i):=by unfold HJ;rfl
   obtain⟨M,O,N,Q,I,rfl,-,-⟩:=BH.slice D E;obtain⟨sa',sc',sb',so',Ao6,rfl,-,-⟩:=BH.slice j l;refine G1 Tryz.func47 rfl rfl ?_;rw[F];cases c:decide (o=C)with
   |false=>refine gS1 (aI @I1 (aI @I1 (aI c (a4N @H7 @I0 @CZ @Tryz.results47)))) ?_;exact⟨_,rfl,eX⟩
   |true=>
   cases e:(decide (B=g)&&decide (p=d))with
   |false=>refine gS1 (aI @I1 (aI @I1 (aI c (aI e (a5N @H7 @I0 @CZ @Bx @Tryz.results47))))) ?_;exact⟨_,rfl,eX⟩
   |true=>
   cases m:decide (nm=f)with
   |false=>refine gS1 (aI @I1 (aI @I1 (aI c (aI e (aI m (a5N @H7 @I0 @CZ @Bx @Tryz.results47)))))) ?_;exact⟨_,rfl,eX⟩
   | true=>
     refine gS1 (aI @I1 (aI @I1 (aI c (aI e (aI m (a4N @H7 @I0 @CZ @Bx)))))) ?_;refine(ym (D.mono (eX)) (BH.mono (eX) E) (j.mono (eX)) (BH.mono (eX) l) G q fun a b H ra rb Z' L u z=>ih ?_ u z).mono ?_
     ·have K:=List.sizeOf_lt_of_mem H;simp at A;omega
     rintro r ⟨J,rfl,s⟩;refine gS1 (a3N @H7 @I0 @Tryz.results47) ?_;exact⟨_,rfl,Ext.trans (eX) s⟩
mutual
theorem Zn:∀ {a b:Ex},HJ a b=true->a=b
 | .mk o n d nm es,.mk o' n' d' nm' es',h=>by
   unfold HJ at h;simp only[T1,Ej]at h;obtain⟨⟨⟨h1,h2,h3⟩,h4⟩,h5⟩:=h;rw[h1,h2,h3,h4,Um h5]
theorem Um:∀ {a b:List Ex},BC a b=true->a=b
 | [],[],_=>rfl
 | a::l,b::k,h=>by
   unfold BC at h;rw[T1]at h;rw[Zn h.1,Um h.2]
 | [],_::_,h=>by unfold BC at h;cases h
 |_::_,[],h=>by unfold BC at h;cases h
end
def LD (T U:Tn):Bool:=decide (T.name=U.name)&&(decide (T.low=U.low)&&(decide (T.high=U.high)&&(decide (T.G4=U.G4)&&(decide (T.C9=U.C9)&&(decide (T.t=U.t)&&(decide (T.F9=U.F9)&&(decide (T.E9=U.E9)&&(decide (T.reqs=U.reqs)&&(decide (T.H2=U.H2)&&(decide (T.C8=U.C8)&&HJ T.f U.f))))))))))
def SB (T:Tn):LD T T=true:=by unfold LD;rw[SN];simp
def sh (h:LD T U=true):T=U:=by
 unfold LD at h;simp only[T1,Ej]at h;obtain⟨d,e,f,g,i,j,l,m,n,b,c,a⟩:=h;have:=Zn a;cases T;cases U;simp_all
structure Cap (T:Tn):Prop where
 F9:T.F9.length<=100
 E9:T.E9.length<=100
 reqs:T.reqs.length<=100
 H2:T.H2.length<=100
 C8:T.C8.length<=100
 combo:∀ c∈T.C8,c.length<=100
def BL.cap (h:BL T):Cap T:=⟨by have:=h.F9;omega,by have:=h.E9;omega,by have:=h.reqs;omega,by have:=h.H2;omega,by have:=h.C8;omega,fun c a=>by have:=(h.combo c a).2.1;omega⟩
def NI {o u:List Value}(I:Bj Z o T) (J:Bj Z u U) (f:Cap T) (h:Cap U):Ev (gO 19 [.agg ⟨o⟩,.agg ⟨u⟩] Z) (fun r=>∃ Z',r=⟨false,.bool (LD T U),Z'⟩/\Ext Z Z') ⟨⟩:=by
 obtain⟨V,R,W,Q,X,S,d,C,D,E,F,G,H⟩:=I.parts;obtain⟨ul,uc,ur,ey,ut,uk,hq,k2,k3,k4,k5,k6,k7⟩:=J.parts;have c:Ext Z ((Z.new o).new u):=eX;have K:∀ (t:Tim),[Value.int .i64 t.q,.int .i64 t.b,.int .i64 t.g,.int .i64 t.p,.int .i64 t.s]=t.row:=fun _=>rfl;have l:=d.p15;have m:=hq.p15;rw[K]at l m;have a:=And.intro d.all (And.intro hq.all (And.intro d.p0 (And.intro hq.p0 (And.intro d.p4 (And.intro hq.p4 (And.intro d.p5 (And.intro hq.p5 (And.intro d.p12 (And.intro hq.p12 (And.intro d.p14 (And.intro hq.p14 (And.intro l (And.intro m (And.intro d.p1 (And.intro hq.p1 (And.intro d.p2 (And.intro hq.p2 (And.intro d.p3 (And.intro hq.p3 (And.intro d.p11 (And.intro hq.p11 (And.intro d.p13 (And.intro hq.p13 (And.intro d.p6 (And.intro hq.p6 (And.intro H7 (I0)))))))))))))))))))))))))));refine G1 Tryz.func19 rfl rfl ?_;simp only[List.append_eq,JF,KP];unfold LD;cases e:decide (T.name=U.name)with
 |false=>refine gS1 (aI a (aI @Ct (aI e (a3N @CZ @Bx @Tryz.results19)))) ?_;exact⟨_,rfl,eX⟩
 |true=>
 cases i:decide (T.low=U.low)with
 |false=>refine gS1 (aI a (aI @Ct (aI e (aI i (a3N @CZ @Bx @Tryz.results19))))) ?_;exact⟨_,rfl,eX⟩
 |true=>
 cases j:decide (T.high=U.high)with
 |false=>refine gS1 (aI a (aI @Ct (aI e (aI i (aI j (a3N @CZ @Bx @Tryz.results19)))))) ?_;exact⟨_,rfl,eX⟩
 |true=>
 cases n:decide (T.G4=U.G4)with
 |false=>refine gS1 (aI a (aI @Ct (aI e (aI i (aI j (aI n (a3N @CZ @Bx @Tryz.results19))))))) ?_;exact⟨_,rfl,eX⟩
 |true=>
 cases z:decide (T.C9=U.C9)with
 |false=>refine gS1 (aI a (aI @Ct (aI e (aI i (aI j (aI n (aI z (a3N @CZ @Bx @Tryz.results19)))))))) ?_;exact⟨_,rfl,eX⟩
 |true=>
 cases B:decide (T.t=U.t)with
 |false=>refine gS1 (aI a (aI @Ct (aI e (aI i (aI j (aI n (aI z (aI B (a3N @CZ @Bx @Tryz.results19))))))))) ?_;exact⟨_,rfl,eX⟩
 |true=>
 refine gS1 (aI a (aI @Ct (aI e (aI i (aI j (aI n (aI z (aI B (aI @CZ @Bx))))))))) ?_;refine(PJ (C.mono c) (k2.mono c) f.F9 h.F9).mono ?_;rintro r rfl;cases M:decide (T.F9=U.F9)with
 |false=>refine gS1 (aI a (a4N @Ct @CZ @Bx @Tryz.results19)) ?_;exact⟨_,rfl,eX⟩
 |true=>
 refine gS1 (aI a (a3N @Ct @CZ @Bx)) ?_;refine(OC (D.mono c) (k3.mono c) f.E9 h.E9).mono ?_;rintro r rfl;cases N:decide (T.E9=U.E9)with
 |false=>refine gS1 (aI a (a4N @Ct @CZ @Bx @Tryz.results19)) ?_;exact⟨_,rfl,eX⟩
 |true=>
 refine gS1 (aI a (a3N @Ct @CZ @Bx)) ?_;refine(PK (E.mono c) (k4.mono c) f.reqs h.reqs).mono ?_;rintro r rfl;cases O:decide (T.reqs=U.reqs)with
 |false=>refine gS1 (aI a (a4N @Ct @CZ @Bx @Tryz.results19)) ?_;exact⟨_,rfl,eX⟩
 |true=>
 refine gS1 (aI a (a3N @Ct @CZ @Bx)) ?_;refine(PH (G.mono c) (k6.mono c) f.H2 h.H2).mono ?_;rintro r rfl;cases d10:decide (T.H2=U.H2)with
 |false=>refine gS1 (aI a (a4N @Ct @CZ @Bx @Tryz.results19)) ?_;exact⟨_,rfl,eX⟩
 |true=>
 refine gS1 (aI a (a3N @Ct @CZ @Bx)) ?_;refine(WN (H.mono c) (k7.mono c) f.C8 h.C8 f.combo h.combo).mono ?_;rintro r rfl;cases d11:decide (T.C8=U.C8)with
 |false=>refine gS1 (aI a (a4N @Ct @CZ @Bx @Tryz.results19)) ?_;exact⟨_,rfl,eX⟩
 |true=>
 refine gS1 (aI a (a3N @Ct @CZ @Bx)) ?_;refine(AU7 _ (JQ _) (F.mono c) (k5.mono c)).mono ?_;rintro r ⟨L,rfl,A⟩;refine gS1 (a3N @H7 @I0 @Tryz.results19) ?_;exact⟨_,rfl,c.trans A⟩
end
end Go.Proofs.T
