/- types: Ax9 the parts of a CQ, one after the other. -/
import Derived.Test.YtgjocfjdecjhoaaGreatDoorITZA
import Derived.Test.YtgjocfjdecjhoaaGreatDoorISC
import Derived.Test.YtgjocfjdecjhoaaGreatDoorICD
set_option linter.unusedSimpArgs false
set_option linter.unusedVariables false
set_option linter.defProp false
set_option maxHeartbeats 32000000
set_option maxRecDepth 100000
namespace Go.Proofs.T
open Go Go.Ab Go.N9
def Af1 {b:Nat}:Na (.func (.yield b) ⟨[]⟩ ⟨[]⟩)=some ⟨.yld b,[],[]⟩:=rfl
def JM {op nm:By}{n d:Int}{len:Nat}(h:AL op n d nm len=true) :
  (op=K8/\1<=d/\Int.gcd n d=1/\0<=n/\(1000000:Int) % d=0/\n<=1000000000*d/\nm=[]/\len=0)\/(op=nmB/\n=0/\d=0/\AP nm=true/\len=0)\/(OpB op/\n=0/\d=0/\nm=[]/\len=2):=by
 by_cases k:op=K8
 ·subst k;rw[OJ]at h;unfold Dd at h;simp only[R2,EO]at h;obtain⟨⟨⟨⟨⟨⟨a,e⟩,f⟩,c⟩,g⟩,i⟩,m⟩:=h;exact .inl ⟨rfl,a,e,f,c,g,i,m⟩
 ·by_cases l:op=nmB
  ·subst l;rw[Lt]at h;simp only[R2,EO]at h;obtain⟨⟨⟨⟨a,e⟩,f⟩,c,g⟩,i⟩:=h;exact .inr (.inl ⟨rfl,c,g,a,i⟩)
  ·by_cases j:op=[43]\/op=[45]\/op=[42]\/op=[47]\/op=Q7\/op=R4
   ·rw[P5 j]at h;simp only[R2,EO]at h;obtain⟨⟨⟨a,e⟩,f⟩,c⟩:=h;exact .inr (.inr ⟨j,a,e,f,c⟩)
   ·rw[IL k l j]at h;cases h
def wh {op nm:By}{n d:Int}{len:Nat}(h:AL op n d nm len=true):len<=2:=by
 rcases JM h with h|h|h
 ·omega
 ·omega
 ·omega
def VL {α:Type}(val:Ex->Except Int α):List Ex->List α->Prop
 | [],xs=>xs=[]
 |e::es,xs=>∃ x ys,xs=x::ys/\val e= .ok x/\VL val es ys
def VL.snoc {α:Type}{val:Ex->Except Int α}{e:Ex}{x:α}(a:val e= .ok x):∀ {es:List Ex}{xs:List α},VL val es xs->VL val (es++[e]) (xs++[x])
 | [],xs,h=>by obtain rfl:xs=[]:=h;exact⟨x,[],rfl,a,rfl⟩
 | f::es,xs,h=>by
   obtain⟨y,ys,rfl,c,d⟩:=h;exact⟨y,ys++[x],rfl,c,VL.snoc a d⟩
def VL.len {α:Type}{val:Ex->Except Int α}:∀ {es:List Ex}{xs:List α},VL val es xs->xs.length=es.length
 | [],xs,h=>by obtain rfl:xs=[]:=h;rfl
 | f::es,xs,h=>by
   obtain⟨y,ys,rfl,c,a⟩:=h;simp only[Ap,VL.len a]
def PM {f:Ex}:∀ {es:List Ex}{k:Nat},es[k]? =some f->AR f<=Iy es
 | [],k,h=>by simp at h
 |e::es,0,h=>by cases h;rw[An];omega
 | e::es,k+1,h=>by
   have:=PM (es:=es) (k:=k) (by simpa using h);rw[An];omega
structure VI {α:Type}(S0:St) (J:List (Nat×List Value)->List α->St->Prop):Prop where
 get:∀ {F st Z q X},J F st Z->(q,X)∈F->q<Z.n/\Z.A7 q=some X
 push:∀ {F st Z Z' q X},J F st Z->Ext Z Z'->Z.n<=q->q<Z'.n->Z'.A7 q=some X->J ((q,X)::F) st Z'
 ext:∀ {F st Z Z'},J F st Z->Ext Z Z'->J F st Z'
 drop:∀ {F x st Z},J (x::F) st Z->J F st Z
 B8:∀ {F st Z},J F st Z->FG S0 Z
section
variable {α:Type}{S0:St}{val:Ex->Except Int α}{J:List (Nat×List Value)->List α->St->Prop}{D:Int->St->Prop}{b ps py:Nat}{K:Ex->Prop}
def VP (val:Ex->Except Int α) (J:List (Nat×List Value)->List α->St->Prop) (D:Int->St->Prop) (F:List (Nat×List Value)) (a:List α) (e:Ex) (r:CR):Prop :=
 ∃ Z',(∃ x,val e= .ok x/\r=⟨false,.bool true,Z'⟩/\J F (a++[x]) Z')\/(∃ k,val e= .error k/\r=⟨false,.bool false,Z'⟩/\D k Z')
def jX (S0:St) (K:Ex->Prop) (val:Ex->Except Int α) (J:List (Nat×List Value)->List α->St->Prop) (D:Int->St->Prop) (b:Nat):Prop :=
 ∀ {F st Z op n d nm args row xs},K (.mk op n d nm args)->P8 S0 row (.mk op n d nm args)->VL val args xs->st.length+xs.length<=1000->J F (st++xs) Z->Ev (go Tryz.prog HS (.yld b) [.agg ⟨row⟩] Z) (VP val J D F st (.mk op n d nm args)) ⟨⟩
def Vm (val:Ex->Except Int α):Prop:=∀ {op n d nm l a l2 xs k},VL val l xs->val a= .error k->val (.mk op n d nm (l++a::l2))= .error k
abbrev wi (ps py:Nat):Value:= .func (.func 101) ⟨[]⟩ ⟨[DB ps,DB py]⟩
abbrev cP (b:Nat):Value:= .func (.yield b) ⟨[]⟩ ⟨[]⟩
def oL (y:VI S0 J) (hK:∀ {e},K e->DC e=true) (W:∀ {o nm:By}{n d:Int}{es:List Ex}{k:Nat}{f:Ex},K (.mk o n d nm es)->es[k]? =some f->K f) (H:jX S0 K val J D b) (hE:Vm val):∀ (s:Nat){e:Ex}{row:List Value}{F:List (Nat×List Value)}{st:List α}{Z:St},SizeOf.sizeOf e<s->K e->P8 S0 row e->st.length+AR e<=1000->J F st Z ->
  (ps,[wi ps py])∈F->(py,[cP b])∈F->Ev (gO 101 [.agg ⟨row⟩,DB ps,DB py] Z) (VP val J D F st e) ⟨⟩:=by
 intro s;induction s with
 |zero=>intro e row F st Z hs;omega
 | succ s ih=>
   intro e row F st Z hs hw he X l M N;obtain⟨o,n,d,nm,es⟩:=e;have I:=he;obtain⟨v,B9,rfl,h1,-,h2⟩:=he;obtain⟨a,c,B,off,cells,rfl,s1,s2⟩:=Cn.slice h1 h2;have O:=hK hw;rw[AX,R2]at O;have a8:=wh O.1;rw[DQ]at X;obtain⟨R,hR⟩:∃ R:List Value,[str o,.int .i64 n,.int .i64 d,str nm,.slice a es.length c]=R:=⟨_,rfl⟩
   have L:sub R 0 5=some R:=by rw[<- hR];rfl
   have a0:sub R 4 1=some [.slice a es.length c]:=by rw[<- hR];rfl
   have E0:Ext Z (Z.new R):=eX;have r0:(Z.new R).A7 Z.n=some R:=cL;have a7:=A9 r0;rw[hR]at I ⊢;have J0:J ((Z.n,R)::F) st (Z.new R):=y.push l E0 nL (by simp) r0;refine C8 Tryz.func101 rfl rfl ?_;refine gS1 (aI L (aI a7 a0)) ?_
   refine G8 es.length (fun k g i=>g.get 10=some (.int .i64 k)/\g.get 9=some (.int .i64 es.length)/\g.get 8=some (.slice a es.length c)/\g.get 1=some (DB ps)/\g.get 2=some (DB py)/\g.get 3=some (DB Z.n) /\
     ∃ xs,VL val (es.take k) xs/\J ((Z.n,R)::F) (st++xs) i)
    (fun r=>∃ g i,(r=⟨.exit 0,g,i⟩/\g.get 2=some (DB py)/\g.get 3=some (DB Z.n)/\∃ xs,VL val es xs/\J ((Z.n,R)::F) (st++xs) i)\/(r=⟨.ret,g,i⟩/\g.get 4=some (.bool false)/\∃ k,val (.mk o n d nm es)= .error k/\D k i)) ?_ ?_ ?_ ?_
   ·exact⟨fR,fR,fR,fR,fR,fR,[],by rw[PZ];rfl,by rw[Du];exact J0⟩
   ·rintro k g i A ⟨j,z,E,C,p,q,xs,m,l⟩;have hc:=M4 A;have lk:Nat.blt k es.length=true:=by rw[BW];omega
    obtain⟨sp,rfl,l1,l2⟩:=s1 om;obtain⟨f,hf⟩:∃ f,es[k]? =some f:=⟨_,List.getElem?_eq_getElem A⟩
    obtain⟨rr,s3,x3⟩:=s2 k f hf;have w2:i.row B=some cells:=(y.B8 l).row B cells l1 l2;obtain⟨q1,q2,q3,q4,q5,rfl⟩:=dZ x3.len;obtain⟨p1,U⟩:=y.get l (De _ M);obtain⟨S,H⟩:=nW (((i.new [str [],.int .i64 0,.int .i64 0,str [],.slice none 0 0] (some 32)).upd i.n [q1,q2,q3,q4,q5]));have ES:Ext i S:=by rw[<- H];exact eX
    have z1:S.row ps=some [wi ps py]:=by rw[ES.row p1];exact A9 U
    have z2:S.row i.n=some [q1,q2,q3,q4,q5]:=by rw[<- H];exact cL
    have a5:=A9 U;refine gS1 (aI j (aI z (aI E (aI C (aI p (aI q (aI hc (aI lk (aI w2 (aI s3 a5)))))))))) ?_;rw[H];have a3:K f:=W hw hf;have a2:SizeOf.sizeOf f<s:=by
     have:=List.sizeOf_lt_of_mem (Ag hf);simp at hs;omega
    refine(ih a2 a3 x3 (by have:=PM hf;have:=m.len;rw[Jw]at this;rw[CU];omega) (y.ext l ES) (De _ M) (De _ N)).mono ?_;have ht:es.take (k+1)=es.take k++[f]:=by rw[Rv,hf];rfl
    rintro r ⟨Z2,⟨x,h,rfl,u⟩|⟨V,h,rfl,G⟩⟩
    ·refine gS1 (aI j (aI z (aI E (aI C (aI p q))))) ?_;exact⟨fR,fR1 z,fR1 E,fR1 C,fR1 p,fR1 q,xs++[x],by rw[ht];exact VL.snoc h m,by rw[<- OU];exact u⟩
    ·refine gS1 (aI j (aI z (aI E (aI C (aI p q))))) ?_;refine⟨_,_,.inr ⟨rfl,fR,V,?_,G⟩⟩;have a1:es=es.take k++f::es.drop (k+1):=by
      conv=>lhs;rw[<- iB k es]
      rw[Oe A];congr 2;have:=List.getElem?_eq_getElem A;rw[hf]at this;exact(z8z this).symm
     rw[a1];exact hE m h
   ·rintro g i ⟨j,z,E,C,p,q,xs,m,l⟩;rw[Jf]at m;refine gS1 (aI j (aI z @Kt)) ?_;exact⟨_,_,.inl ⟨rfl,fR1 p,fR1 q,xs,m,l⟩⟩
   rintro r ⟨g,i,⟨rfl,p,q,xs,m,l⟩|⟨rfl,g4,k,A,G⟩⟩
   ·obtain⟨p1,U⟩:=y.get l (De _ N);obtain⟨p3,p4⟩:=y.get l HV;have a4:=A9 U;have a6:=A9 p4;have Y:st.length+xs.length<=1000:=by
     have:=m.len;cases es with
     |nil=>simp at this;subst this;simp;omega
     | cons f fs=>
       have h2:=PM (es:=f::fs) (k:=0) rfl;have h3:=RL (e:=f);omega
    refine gS1 (aI p (aI q (aI a4 (aI a6 (aI L @Af1))))) ?_;refine(H hw I m Y l).mono ?_;rintro r ⟨Z2,⟨x,h,rfl,u⟩|⟨V,h,rfl,G⟩⟩
    ·refine gS1 @Tryz.results101 ?_;exact⟨_,.inl ⟨x,h,rfl,y.drop u⟩⟩
    ·refine gS1 @Tryz.results101 ?_;exact⟨_,.inr ⟨V,h,rfl,G⟩⟩
   ·refine gS1 (aI g4 @Tryz.results101) ?_;exact⟨_,.inr ⟨k,A,rfl,G⟩⟩
def Vf (a:VI S0 J) (E:∀ {e},K e->DC e=true) (h:∀ {o nm:By}{n d:Int}{es:List Ex}{k:Nat}{f:Ex},K (.mk o n d nm es)->es[k]? =some f->K f) (G:jX S0 K val J D b) (C:Vm val){e:Ex}{row:List Value}{F:List (Nat×List Value)}{c:List α}{Z:St}{p:Nat}(L:K e) (q:P8 S0 row e) (i:c.length+AR e<=1000) (m:J F c Z)
  (I:(p,row)∈F):Ev (gO 100 [cP b,DB p] Z) (fun r=>∃ v Z',r=⟨false,v,Z'⟩/\((∃ x,val e= .ok x/\J F (c++[x]) Z')\/∃ k,val e= .error k/\D k Z')) ⟨⟩:=by
 have s:=q.len;have j:sub row 0 5=some row:=C9 om om;obtain⟨V,N⟩:=a.get m I;have l:=A9 N;refine C8 Tryz.func100 rfl rfl ?_;have u:Ext Z (Z.new [cP b]):=eX;obtain⟨S1,hS1⟩:=nW (Z.new [cP b]);have z:J ((Z.n,[cP b])::F) c S1:=a.push m (by rw[<- hS1];exact u) nL (by rw[<- hS1];simp) (by rw[<- hS1];exact cL);refine gS1 (aI l j) ?_;obtain⟨S2,hS2⟩:=nW (((Z.new [cP b]).new [.nilFunc] (some 46)).upd (Z.n+1) [wi (Z.n+1) Z.n]);have S:S1.n=Z.n+1:=by rw[<- hS1];rfl
 have U:S2.n=Z.n+1+1:=by rw[<- hS2];rfl
 have O:S2.A7 (Z.n+1)=some [wi (Z.n+1) Z.n]:=by rw[<- hS2];exact cL
 have y:Ext S1 S2:=by rw[<- hS2,hS1];exact(Ext.new S1 _).upd om _
 have A:J ((Z.n+1,[wi (Z.n+1) Z.n])::(Z.n,[cP b])::F) c S2:=a.push z y om om O;rw[hS2];refine(oL a E h G C _ (Jt _) L q i A HV (De _ HV)).mono ?_;rintro r ⟨R,⟨x,M,rfl,g⟩|⟨k,H,rfl,B⟩⟩
 ·refine gS1 @Tryz.results100 ?_;exact⟨_,_,rfl,.inl ⟨x,M,a.drop (a.drop g)⟩⟩
 ·refine gS1 @Tryz.results100 ?_;exact⟨_,_,rfl,.inr ⟨k,H,B⟩⟩
def SG (e:Ex):Prop:=DC e=true/\Y5 e<=60
def WB {f:Ex}:∀ {es:List Ex}{k:Nat},es[k]? =some f->Y5 f<=JK es
 | [],k,h=>by simp at h
 |e::es,0,h=>by cases h;rw[V0];omega
 | e::es,k+1,h=>by
   have:=WB (es:=es) (k:=k) (by simpa using h);rw[V0];omega
def SG.at {o nm:By}{n d:Int}{es:List Ex}{k:Nat}{f:Ex}(h:SG (.mk o n d nm es)) (c:es[k]? =some f):SG f:=by
 obtain⟨a,e⟩:=h;refine⟨?_,?_⟩
 ·rw[AX,R2]at a;have h:=KX c;cases g:DC f with
  |true=>rfl
  | false=>
    rw[g,Ls]at h;rw[JL h]at a;cases a.2
 ·rw[AY]at e;have:=WB c;omega
abbrev wj (S0:St) (val:Ex->Except Int α) (J:List (Nat×List Value)->List α->St->Prop) (D:Int->St->Prop) (b:Nat):Prop:=jX S0 SG val J D b
def oM (i:VI S0 J) (g:wj S0 val J D b) (d:Vm val){e:Ex}{row:List Value}{F:List (Nat×List Value)}{c:List α}{Z:St}{p:Nat}(n:SG e) (j:P8 S0 row e) (a:c.length+AR e<=1000) (f:J F c Z)
  (m:(p,row)∈F):Ev (gO 100 [cP b,DB p] Z) (fun r=>∃ v Z',r=⟨false,v,Z'⟩/\((∃ x,val e= .ok x/\J F (c++[x]) Z')\/∃ k,val e= .error k/\D k Z')) ⟨⟩ :=
 Vf i (fun h=>h.1) (fun h l=>h.at l) g d n j a f m
end
def aw {Z:St}{row:List Value}(c:row.length=5):Ev (gO 49 [.agg ⟨row⟩] Z) (fun r=>r=⟨false,.func (.func 100) ⟨[]⟩ ⟨[DB Z.n]⟩,Z.new row⟩) ⟨⟩:=by
 have a:sub row 0 5=some row:=C9 om om;refine C8 Tryz.func49 rfl rfl ?_;refine gS1 (aI a @Tryz.results49) ?_;try exact⟨⟩
theorem uz {Z:St}{op nm:By}{n d:Int}{v:Value}{ca:List Value}{T:Tn}{p:Nat}(i:J6 v=[v]/\DX v=false) (s:Jb Z ca T) (B:T.G7.length<=1000) (H:p<Z.n) (C:Z.A7 p=some ca) :
  Ev (go Tryz.prog HS (.fn 38) [.agg ⟨[str op,.int .i64 n,.int .i64 d,str nm,v]⟩,DB p] Z) (fun r=>∃ Z',r=⟨false,Aj (HK T op n d nm),Z'⟩/\Ext Z Z') ⟨⟩:=by
 have o:=A9 C;have u:=s.len;have m:sub ca 0 20=some ca:=C9 om om;refine C8 Tryz.func38 rfl rfl ?_;unfold HK;cases h:decide (op=K8)with
 | true=>
   have l:=of_decide_eq_true h;rw[if_pos l];have a:decide (op=[110,117,109])=true:=h;unfold Aj R3;refine gU1 (a7N @D7 (i.1) (i.2) @a @Ms @Mt @Tryz.results38) ?_;exact⟨_,rfl,eX⟩
 | false=>
   have l:=of_decide_eq_false h;rw[if_neg l];have a:decide (op=[110,117,109])=false:=h;refine gS1 (a5N (i.1) (i.2) @a @o @m) ?_;have j:Ext Z ((Z.new [str op,.int .i64 n,.int .i64 d,str nm,v]).new [.int .i64 0,.int .i64 0,.int .i64 0,.int .i64 0] (some 88)):=eX;obtain⟨q,f⟩:∃ S,((Z.new [str op,.int .i64 n,.int .i64 d,str nm,v]).new [.int .i64 0,.int .i64 0,.int .i64 0,.int .i64 0] (some 88))=S:=⟨_,rfl⟩
   have D:q.A7 (Z.n+1)=some AA:=by rw[<- f];unfold AA;exact cL
   have L:q.n=Z.n+1+1:=by rw[<- f];rfl
   rw[f]at j ⊢;refine(dX (s.mono j) B).mono ?_;rintro r ⟨z,rfl,b⟩;have I:=b.n;have g:z.A7 (Z.n+1)=some AA:=by rw[b.A7 om];exact D
   have k:=j.trans b;unfold AA at g;cases G:O5 T nm with
   | none=>
     rw[bdV];simp only[Option.getD_none,Option.isSome_none];unfold Aj AA;refine gS1 (aI @g @Tryz.results38) ?_;exact⟨_,rfl,k.upd om _⟩
   | some ab=>
     obtain⟨x,y⟩:=ab;rw[bdV];simp only[Option.getD_some,Option.isSome_some];cases c1:decide (y<x)with
     | true=>
       rw[if_pos (of_decide_eq_true c1)];unfold Aj AA;refine gS1 (a3N @g @c1 @Tryz.results38) ?_;exact⟨_,rfl,k.upd om _⟩
     | false=>
       rw[if_neg (of_decide_eq_false c1)];refine gS1 (aI @g @c1) ?_;refine XB.mono ?_;rintro r ⟨F,rfl,c⟩;unfold qv P6;refine gS ?_;refine XB.mono ?_;rintro r ⟨A,rfl,e⟩;have J:=c.n;have K:=e.n;have E:A.A7 (Z.n+1)=some [.int .i64 0,.int .i64 0,.int .i64 0,.int .i64 0]:=by rw[e.A7 om,c.A7 om];exact g
       unfold Aj R3 qv P6 ofQ;refine gU1 (a5N @D7 @E @Ms @Mt @Tryz.results38) ?_;exact⟨_,rfl,(k.trans (c.trans e)).upd om _⟩
def uk {M:Ex->Prop}(f:∀ {op nm:By}{n d:Int},SG (.mk op n d nm [])->AL op n d nm 0=true->M (.mk op n d nm []))
  (i:∀ {op:By}{a b:Ex},OpB op->SG (.mk op 0 0 [] [a,b])->SG a->SG b->M a->M b->M (.mk op 0 0 [] [a,b])):∀ (s:Nat) {e:Ex},SizeOf.sizeOf e<s->SG e->M e:=by
 intro s;induction s with
 |zero=>intro e g;omega
 | succ s ih=>
   intro e g h;obtain⟨op,n,d,nm,args⟩:=e;have c:=h.1;rw[AX,R2]at c;rcases JM c.1 with q|q|⟨q,rfl,rfl,rfl,j⟩
   ·obtain rfl:args=[]:=Rb.1 q.2.2.2.2.2.2.2;exact f h c.1
   ·obtain rfl:args=[]:=Rb.1 q.2.2.2.2;exact f h c.1
   ·match args,j with
    | [a,b],_=>
      simp at g;exact i q h (h.at (k:=0) rfl) (h.at (k:=1) rfl) (ih om (h.at (k:=0) rfl)) (ih om (h.at (k:=1) rfl))
def jr {n d:Int}(a:1<=d) (b:Int.gcd n d=1) (e:0<=n) (c:(1000000:Int) % d=0) (f:n<=1000000000*d):Q.Ok ⟨n,d⟩:=by
 have g:d<=1000000:=Int.le_of_dvd om (Int.dvd_of_emod_eq_zero c);exact⟨by show -9223372036854775808<=n;omega,by show n<=9223372036854775807;omega,a,by show d<=9223372036854775807;omega,b⟩
def Tc {T:Tn}(A:BdT T){e:Ex}(B:SG e):∀ {x:QQ},U7 T e= .ok x->Dr x:=by
 refine uk (M:=fun e=>∀ {x:QQ},U7 T e= .ok x->Dr x) ?_ ?_ _ (Jt _) B
 ·intro op nm n d h C x c;rw[AD]at c;unfold HK at c;by_cases f:op=K8
  ·rw[z1z f]at c;rcases JM C with⟨-,m,o,p,r,s,-⟩|⟨q,-⟩|⟨-,-,-,-,q⟩
   ·cases c;exact⟨jr m o p r s,jr m o p r s⟩
   ·subst q;exact absurd f (by decide)
   ·cases q
  ·rw[z0z f]at c;cases j:O5 T nm with
   |none=>rw[j]at c;cases c
   | some ab=>
     obtain⟨a,b⟩:=ab;rw[j]at c;obtain⟨i1,i2⟩:=SO A j;have i:∀ {n:Int},BN n->Q.Ok (ofQ n):=fun{n} h=>⟨h.1,h.2,by show(1:Int)<=1;decide,by show(1:Int)<=_;decide,by show Nat.gcd n.natAbs 1=1;simp⟩
     by_cases g:b<a
     ·simp only[z1z g]at c;cases c
     ·simp only[z0z g]at c;cases c;exact⟨i i1,i i2⟩
 ·intro op a b E h D j k l x c;rw[Ax]at c;obtain⟨y,z,f,u,v⟩:=Oo c;exact SP (k f) (l u) v
def bS {T:Tn}{e:Ex}(i:SG e):∀ {k:Int},U7 T e= .error k->k≠0:=by
 refine uk (M:=fun e=>∀ {k:Int},U7 T e= .error k->k≠0) ?_ ?_ _ (Jt _) i
 ·intro op nm n d h m k c;rw[AD]at c;unfold HK at c;split at c
  ·cases c
  ·split at c
   ·cases c;decide
   ·split at c
    ·cases c;decide
    ·cases c
 ·intro op a b o h j l f g k c;rw[Ax]at c;exact Wy (fun _=>f) (fun _=>g) (fun _ _ _=>Wx) c
def Px {T:Tn}{a:Ex}{k:Int}{c:List Ex}(b:U7 T a= .error k):∀ {l:List Ex}{xs:List QQ},VL (U7 T) l xs->Md T (l++a::c)= .error k
 | [],xs,h=>by rw[MC,Md.eq_2,b]
 | e::l,xs,h=>by
   obtain⟨y,ys,rfl,h1,h2⟩:=h;rw[LN,Md.eq_2,h1];simp only[Px b h2]
def bT {T:Tn}:Vm (U7 T):=by
 intro op n d nm l a h xs k g b;cases l with
 |nil=>rw[MC,U7.eq_2,b]
 | cons e l=>
   obtain⟨y,ys,rfl,c,f⟩:=g;rw[LN,U7.eq_2,c];simp only[Px b f]
end Go.Proofs.T
