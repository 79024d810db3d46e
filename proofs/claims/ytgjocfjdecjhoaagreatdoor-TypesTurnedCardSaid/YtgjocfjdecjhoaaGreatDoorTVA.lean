/- types: Ao8 the parts of a DY, one after the other. -/
import Derived.Test.YtgjocfjdecjhoaaGreatDoorTZA
import Derived.Test.YtgjocfjdecjhoaaGreatDoorSD
import Derived.Test.YtgjocfjdecjhoaaGreatDoorCD
set_option linter.unusedSimpArgs false
set_option linter.unusedVariables false
set_option linter.defProp false
set_option maxHeartbeats 32000000
set_option maxRecDepth 100000
namespace Go.Proofs.T
open Go Go.Ab Go.V6
theorem AU9 {b:Nat}:Mo (.func (.yield b) ⟨[]⟩ ⟨[]⟩)=some ⟨.yld b,[],[]⟩:=rfl
theorem Gw {op nm:By}{n d:Int}{len:Nat}(h:AO op n d nm len=true) :
  (op=K9/\1<=d/\Int.gcd n d=1/\0<=n/\(1000000:Int) % d=0/\n<=1000000000*d/\nm=[]/\len=0)\/(op=nmB/\n=0/\d=0/\AM nm=true/\len=0)\/(OpB op/\n=0/\d=0/\nm=[]/\len=2):=by
 by_cases h1:op=K9
 ·subst h1;rw[NP]at h;unfold DL at h;simp only[Bool.and_eq_true,decide_eq_true_eq]at h;obtain⟨⟨⟨⟨⟨⟨a1,a2⟩,a3⟩,a4⟩,a5⟩,a6⟩,a7⟩:=h;exact .inl ⟨rfl,a1,a2,a3,a4,a5,a6,a7⟩
 ·by_cases h2:op=nmB
  ·subst h2;rw[LH]at h;simp only[Bool.and_eq_true,decide_eq_true_eq]at h;obtain⟨⟨⟨⟨a1,a2⟩,a3⟩,a4,a5⟩,a6⟩:=h;exact .inr (.inl ⟨rfl,a4,a5,a1,a6⟩)
  ·by_cases h3:op=[43]\/op=[45]\/op=[42]\/op=[47]\/op=R3\/op=R6
   ·rw[O4 h3]at h;simp only[Bool.and_eq_true,decide_eq_true_eq]at h;obtain⟨⟨⟨a1,a2⟩,a3⟩,a4⟩:=h;exact .inr (.inr ⟨h3,a1,a2,a3,a4⟩)
   ·rw[Hk h1 h2 h3]at h;cases h
theorem uF {op nm:By}{n d:Int}{len:Nat}(h:AO op n d nm len=true):len<=2:=by
 rcases Gw h with h|h|h
 ·omega
 ·omega
 ·omega
def VL {α:Type}(val:Ex->Except Int α):List Ex->List α->Prop
 | [],xs=>xs=[]
 |e::es,xs=>∃ x ys,xs=x::ys/\val e= .ok x/\VL val es ys
theorem VL.snoc {α:Type}{val:Ex->Except Int α}{e:Ex}{x:α}(he:val e= .ok x):∀ {es:List Ex}{xs:List α},VL val es xs->VL val (es++[e]) (xs++[x])
 | [],xs,h=>by obtain rfl:xs=[]:=h;exact⟨x,[],rfl,he,rfl⟩
 | f::es,xs,h=>by
   obtain⟨y,ys,rfl,h1,h2⟩:=h;exact⟨y,ys++[x],rfl,h1,VL.snoc he h2⟩
theorem VL.len {α:Type}{val:Ex->Except Int α}:∀ {es:List Ex}{xs:List α},VL val es xs->xs.length=es.length
 | [],xs,h=>by obtain rfl:xs=[]:=h;rfl
 | f::es,xs,h=>by
   obtain⟨y,ys,rfl,h1,h2⟩:=h;simp only[List.length_cons,VL.len h2]
theorem OJ {f:Ex}:∀ {es:List Ex}{k:Nat},es[k]? =some f->AB f<=IU es
 | [],k,h=>by simp at h
 |e::es,0,h=>by cases h;rw[Ah];omega
 | e::es,k+1,h=>by
   have:=OJ (es:=es) (k:=k) (by simpa using h);rw[Ah];omega
structure VI {α:Type}(S0:St) (J:List (Nat×List Value)->List α->St->Prop):Prop where
 get:∀ {F st Z q X},J F st Z->(q,X)∈F->q<Z.n/\Z.A7 q=some X
 push:∀ {F st Z Z' q X},J F st Z->Ext Z Z'->Z.n<=q->q<Z'.n->Z'.A7 q=some X->J ((q,X)::F) st Z'
 ext:∀ {F st Z Z'},J F st Z->Ext Z Z'->J F st Z'
 drop:∀ {F x st Z},J (x::F) st Z->J F st Z
 B8:∀ {F st Z},J F st Z->Dr S0 Z
section
variable {α:Type}{S0:St}{val:Ex->Except Int α}{J:List (Nat×List Value)->List α->St->Prop}{D:Int->St->Prop}{b ps py:Nat}{K:Ex->Prop}
def VP (val:Ex->Except Int α) (J:List (Nat×List Value)->List α->St->Prop) (D:Int->St->Prop) (F:List (Nat×List Value)) (st:List α) (e:Ex) (r:CR):Prop :=
 ∃ Z',(∃ x,val e= .ok x/\r=⟨false,.bool true,Z'⟩/\J F (st++[x]) Z')\/(∃ k,val e= .error k/\r=⟨false,.bool false,Z'⟩/\D k Z')
def uG (S0:St) (K:Ex->Prop) (val:Ex->Except Int α) (J:List (Nat×List Value)->List α->St->Prop) (D:Int->St->Prop) (b:Nat):Prop :=
 ∀ {F st Z op n d nm args row xs},K (.mk op n d nm args)->P6 S0 row (.mk op n d nm args)->VL val args xs->st.length+xs.length<=1000->J F (st++xs) Z->Ev (go Tryz.prog HS (.yld b) [.agg ⟨row⟩] Z) (VP val J D F st (.mk op n d nm args)) ⟨⟩
def SN (val:Ex->Except Int α):Prop:=∀ {op n d nm l a l2 xs k},VL val l xs->val a= .error k->val (.mk op n d nm (l++a::l2))= .error k
abbrev uH (ps py:Nat):Value:= .func (.func 101) ⟨[]⟩ ⟨[Bf ps,Bf py]⟩
abbrev ah (b:Nat):Value:= .func (.yield b) ⟨[]⟩ ⟨[]⟩
theorem lj (hV:VI S0 J) (hK:∀ {e},K e->Da e=true) (hKc:∀ {o nm:By}{n d:Int}{es:List Ex}{k:Nat}{f:Ex},K (.mk o n d nm es)->es[k]? =some f->K f) (hS:uG S0 K val J D b) (hE:SN val):∀ (s:Nat){e:Ex}{row:List Value}{F:List (Nat×List Value)}{st:List α}{Z:St},SizeOf.sizeOf e<s->K e->P6 S0 row e->st.length+AB e<=1000->J F st Z ->
  (ps,[uH ps py])∈F->(py,[ah b])∈F->Ev (go Tryz.prog HS (.fn 101) [.agg ⟨row⟩,Bf ps,Bf py] Z) (VP val J D F st e) ⟨⟩:=by
 intro s;induction s with
 |zero=>intro e row F st Z hs;omega
 | succ s ih=>
   intro e row F st Z hs hw he hdp hJ hps hpy;obtain⟨o,n,d,nm,es⟩:=e;have he0:=he;obtain⟨v,B9,rfl,h1,-,h2⟩:=he;obtain⟨a,c,B,off,cells,rfl,s1,s2⟩:=Cb.slice h1 h2;have hw':=hK hw;rw[AP,Bool.and_eq_true]at hw';have hl2:=uF hw'.1;rw[Cw]at hdp;obtain⟨R,hR⟩:∃ R:List Value,[str o,.int .i64 n,.int .i64 d,str nm,.slice a es.length c]=R:=⟨_,rfl⟩
   have hfr:sub R 0 5=some R:=by rw[<- hR];rfl
   have hs3:sub R 4 1=some [.slice a es.length c]:=by rw[<- hR];rfl
   have E0:Ext Z (Z.new R):=eX;have r0:(Z.new R).A7 Z.n=some R:=cL;have r0':=A9 r0;rw[hR]at he0 ⊢;have J0:J ((Z.n,R)::F) st (Z.new R):=hV.push hJ E0 (Nat.le_refl _) (by simp) r0;refine C9 Tryz.func101 rfl rfl ?_;refine gS1 (a3N @hfr @r0' @hs3) ?_
   refine I4 es.length (fun k fr τ=>fr.get 10=some (.int .i64 k)/\fr.get 9=some (.int .i64 es.length)/\fr.get 8=some (.slice a es.length c)/\fr.get 1=some (Bf ps)/\fr.get 2=some (Bf py)/\fr.get 3=some (Bf Z.n) /\
     ∃ xs,VL val (es.take k) xs/\J ((Z.n,R)::F) (st++xs) τ)
    (fun r=>∃ fr τ,(r=⟨.exit 0,fr,τ⟩/\fr.get 2=some (Bf py)/\fr.get 3=some (Bf Z.n)/\∃ xs,VL val es xs/\J ((Z.n,R)::F) (st++xs) τ)\/(r=⟨.ret,fr,τ⟩/\fr.get 4=some (.bool false)/\∃ k,val (.mk o n d nm es)= .error k/\D k τ)) ?_ ?_ ?_ ?_
   ·exact⟨fR,fR,fR,fR,fR,fR,[],by rw[List.take_zero];rfl,by rw[List.append_nil];exact J0⟩
   ·rintro k fr τ hk ⟨g10,g9,g8,g1,g2,g3,xs,hx,hJ⟩;have hc:=L9 hk;have lk:Nat.blt k es.length=true:=by rw[Nat.blt_eq];omega
    obtain⟨sp,rfl,l1,l2⟩:=s1 om;obtain⟨f,hf⟩:∃ f,es[k]? =some f:=⟨_,List.getElem?_eq_getElem hk⟩
    obtain⟨rr,s3,x3⟩:=s2 k f hf;have w2:τ.row B=some cells:=(hV.B8 hJ).row B cells l1 l2;obtain⟨q1,q2,q3,q4,q5,rfl⟩:=jc x3.len;obtain⟨p1,p2⟩:=hV.get hJ (List.mem_cons_of_mem _ hps);obtain⟨S,hS⟩:∃ S,((τ.new [str [],.int .i64 0,.int .i64 0,str [],.slice none 0 0] (some 32)).upd τ.n [q1,q2,q3,q4,q5])=S:=⟨_,rfl⟩
    have ES:Ext τ S:=by rw[<- hS];exact eX
    have z1:S.row ps=some [uH ps py]:=by rw[ES.row p1];exact A9 p2
    have z2:S.row τ.n=some [q1,q2,q3,q4,q5]:=by rw[<- hS];exact cL
    have p2r:=A9 p2;refine gS1 (a11N @g10 @g9 @g8 @g1 @g2 @g3 @hc @lk @w2 @s3 @p2r) ?_;rw[hS];have hwf:K f:=hKc hw hf;have hsz:SizeOf.sizeOf f<s:=by
     have:=List.sizeOf_lt_of_mem (List.mem_of_getElem? hf);simp at hs;omega
    refine(ih hsz hwf x3 (by have:=OJ hf;have:=hx.len;rw[List.length_take]at this;rw[List.length_append];omega) (hV.ext hJ ES) (List.mem_cons_of_mem _ hps) (List.mem_cons_of_mem _ hpy)).mono ?_;have ht:es.take (k+1)=es.take k++[f]:=by rw[List.take_add_one,hf];rfl
    rintro r ⟨Z2,⟨x,hx1,rfl,hJ2⟩|⟨e1,hx1,rfl,hD⟩⟩
    ·refine gS1 (a6N @g10 @g9 @g8 @g1 @g2 @g3) ?_;exact⟨fR,fR1 g9,fR1 g8,fR1 g1,fR1 g2,fR1 g3,xs++[x],by rw[ht];exact VL.snoc hx1 hx,by rw[<- List.append_assoc];exact hJ2⟩
    ·refine gS1 (a6N @g10 @g9 @g8 @g1 @g2 @g3) ?_;refine⟨_,_,.inr ⟨rfl,fR,e1,?_,hD⟩⟩;have hsp:es=es.take k++f::es.drop (k+1):=by
      conv=>lhs;rw[<- List.take_append_drop k es]
      rw[List.drop_eq_getElem_cons hk];congr 2;have:=List.getElem?_eq_getElem hk;rw[hf]at this;exact(Option.some.inj this).symm
     rw[hsp];exact hE hx hx1
   ·rintro fr τ ⟨g10,g9,g8,g1,g2,g3,xs,hx,hJ⟩;rw[List.take_length]at hx;refine gS1 (a3N @g10 @g9 @Pl) ?_;exact⟨_,_,.inl ⟨rfl,fR1 g2,fR1 g3,xs,hx,hJ⟩⟩
   rintro r ⟨fr,τ,⟨rfl,g2,g3,xs,hx,hJ⟩|⟨rfl,g4,k,hk,hD⟩⟩
   ·obtain⟨p1,p2⟩:=hV.get hJ (List.mem_cons_of_mem _ hpy);obtain⟨p3,p4⟩:=hV.get hJ List.mem_cons_self;have p2':=A9 p2;have p4':=A9 p4;have hlx:st.length+xs.length<=1000:=by
     have:=hx.len;cases es with
     |nil=>simp at this;subst this;simp;omega
     | cons f fs=>
       have h2:=OJ (es:=f::fs) (k:=0) rfl;have h3:=Py (e:=f);omega
    refine gS1 (a6N @g2 @g3 @p2' @p4' @hfr @AU9) ?_;refine(hS hw he0 hx hlx hJ).mono ?_;rintro r ⟨Z2,⟨x,hx1,rfl,hJ2⟩|⟨e1,hx1,rfl,hD⟩⟩
    ·refine gS1 @Tryz.results101 ?_;exact⟨_,.inl ⟨x,hx1,rfl,hV.drop hJ2⟩⟩
    ·refine gS1 @Tryz.results101 ?_;exact⟨_,.inr ⟨e1,hx1,rfl,hD⟩⟩
   ·refine gS1 (aI @g4 @Tryz.results101) ?_;exact⟨_,.inr ⟨k,hk,rfl,hD⟩⟩
theorem lu (hV:VI S0 J) (hK:∀ {e},K e->Da e=true) (hKc:∀ {o nm:By}{n d:Int}{es:List Ex}{k:Nat}{f:Ex},K (.mk o n d nm es)->es[k]? =some f->K f) (hS:uG S0 K val J D b) (hE:SN val){e:Ex}{row:List Value}{F:List (Nat×List Value)}{st:List α}{Z:St}{p:Nat}(hw:K e) (he:P6 S0 row e) (hdp:st.length+AB e<=1000) (hJ:J F st Z)
  (hp:(p,row)∈F):Ev (go Tryz.prog HS (.fn 100) [ah b,Bf p] Z) (fun r=>∃ v Z',r=⟨false,v,Z'⟩/\((∃ x,val e= .ok x/\J F (st++[x]) Z')\/∃ k,val e= .error k/\D k Z')) ⟨⟩:=by
 have hlen:=he.len;have hfr:sub row 0 5=some row:=C8 om om;obtain⟨p1,p2⟩:=hV.get hJ hp;have p2r:=A9 p2;refine C9 Tryz.func100 rfl rfl ?_;have E1:Ext Z (Z.new [ah b]):=eX;obtain⟨S1,hS1⟩:∃ S,Z.new [ah b]=S:=⟨_,rfl⟩
 have J1:J ((Z.n,[ah b])::F) st S1:=hV.push hJ (by rw[<- hS1];exact E1) (Nat.le_refl _) (by rw[<- hS1];simp) (by rw[<- hS1];exact cL);refine gS1 (aI @p2r @hfr) ?_;obtain⟨S2,hS2⟩:∃ S,((Z.new [ah b]).new [.nilFunc] (some 46)).upd (Z.n+1) [uH (Z.n+1) Z.n]=S:=⟨_,rfl⟩
 have n1:S1.n=Z.n+1:=by rw[<- hS1];rfl
 have n2:S2.n=Z.n+1+1:=by rw[<- hS2];rfl
 have z2:S2.A7 (Z.n+1)=some [uH (Z.n+1) Z.n]:=by rw[<- hS2];exact cL
 have E2:Ext S1 S2:=by rw[<- hS2,hS1];exact(Ext.new S1 _).upd om _
 have J2:J ((Z.n+1,[uH (Z.n+1) Z.n])::(Z.n,[ah b])::F) st S2:=hV.push J1 E2 om om z2;rw[hS2];refine(lj hV hK hKc hS hE _ (Nat.lt_succ_self _) hw he hdp J2 List.mem_cons_self (List.mem_cons_of_mem _ List.mem_cons_self)).mono ?_;rintro r ⟨Z2,⟨x,hx,rfl,hJ2⟩|⟨k,hk,rfl,hD⟩⟩
 ·refine gS1 @Tryz.results100 ?_;exact⟨_,_,rfl,.inl ⟨x,hx,hV.drop (hV.drop hJ2)⟩⟩
 ·refine gS1 @Tryz.results100 ?_;exact⟨_,_,rfl,.inr ⟨k,hk,hD⟩⟩
def SG (e:Ex):Prop:=Da e=true/\R0 e<=60
theorem Uo {f:Ex}:∀ {es:List Ex}{k:Nat},es[k]? =some f->R0 f<=Ik es
 | [],k,h=>by simp at h
 |e::es,0,h=>by cases h;rw[N4];omega
 | e::es,k+1,h=>by
   have:=Uo (es:=es) (k:=k) (by simpa using h);rw[N4];omega
theorem SG.at {o nm:By}{n d:Int}{es:List Ex}{k:Nat}{f:Ex}(h:SG (.mk o n d nm es)) (hf:es[k]? =some f):SG f:=by
 obtain⟨h1,h2⟩:=h;refine⟨?_,?_⟩
 ·rw[AP,Bool.and_eq_true]at h1;have h:=Ov hf;cases hz:Da f with
  |true=>rfl
  | false=>
    rw[hz,Bool.and_false]at h;rw[NA h]at h1;cases h1.2
 ·rw[X0]at h2;have:=Uo hf;omega
abbrev eZ (S0:St) (val:Ex->Except Int α) (J:List (Nat×List Value)->List α->St->Prop) (D:Int->St->Prop) (b:Nat):Prop:=uG S0 SG val J D b
theorem Uh (hV:VI S0 J) (hS:eZ S0 val J D b) (hE:SN val){e:Ex}{row:List Value}{F:List (Nat×List Value)}{st:List α}{Z:St}{p:Nat}(hw:SG e) (he:P6 S0 row e) (hdp:st.length+AB e<=1000) (hJ:J F st Z)
  (hp:(p,row)∈F):Ev (go Tryz.prog HS (.fn 100) [ah b,Bf p] Z) (fun r=>∃ v Z',r=⟨false,v,Z'⟩/\((∃ x,val e= .ok x/\J F (st++[x]) Z')\/∃ k,val e= .error k/\D k Z')) ⟨⟩ :=
 lu hV (fun h=>h.1) (fun h hf=>h.at hf) hS hE hw he hdp hJ hp
end
theorem aM {Z:St}{row:List Value}(hl:row.length=5):Ev (go Tryz.prog HS (.fn 49) [.agg ⟨row⟩] Z) (fun r=>r=⟨false,.func (.func 100) ⟨[]⟩ ⟨[Bf Z.n]⟩,Z.new row⟩) ⟨⟩:=by
 have hfr:sub row 0 5=some row:=C8 om om;refine C9 Tryz.func49 rfl rfl ?_;refine gS1 (aI @hfr @Tryz.results49) ?_;try exact⟨⟩
theorem ss {Z:St}{op nm:By}{n d:Int}{v:Value}{ca:List Value}{T:Tn}{p:Nat}(hv:J6 v=[v]/\Di v=false) (hT:HW Z ca T) (hc:T.G9.length<=1000) (hp:p<Z.n) (hr:Z.A7 p=some ca) :
  Ev (go Tryz.prog HS (.fn 38) [.agg ⟨[str op,.int .i64 n,.int .i64 d,str nm,v]⟩,Bf p] Z) (fun r=>∃ Z',r=⟨false,Ad (Ko T op n d nm),Z'⟩/\Ext Z Z') ⟨⟩:=by
 have hr':=A9 hr;have hlen:=hT.len;have hfa:sub ca 0 20=some ca:=C8 om om;refine C9 Tryz.func38 rfl rfl ?_;unfold Ko;cases c0:decide (op=K9)with
 | true=>
   have h0:=of_decide_eq_true c0;rw[if_pos h0];have c0':decide (op=[110,117,109])=true:=c0;unfold Ad O8;refine gU1 (a7N @D5 (hv.1) (hv.2) @c0' @MQ @MR @Tryz.results38) ?_;exact⟨_,rfl,eX⟩
 | false=>
   have h0:=of_decide_eq_false c0;rw[if_neg h0];have c0':decide (op=[110,117,109])=false:=c0;refine gS1 (a5N (hv.1) (hv.2) @c0' @hr' @hfa) ?_;have E1:Ext Z ((Z.new [str op,.int .i64 n,.int .i64 d,str nm,v]).new [.int .i64 0,.int .i64 0,.int .i64 0,.int .i64 0] (some 88)):=eX;obtain⟨S1,hS1⟩:∃ S,((Z.new [str op,.int .i64 n,.int .i64 d,str nm,v]).new [.int .i64 0,.int .i64 0,.int .i64 0,.int .i64 0] (some 88))=S:=⟨_,rfl⟩
   have z1:S1.A7 (Z.n+1)=some j9:=by rw[<- hS1];unfold j9;exact cL
   have m1:S1.n=Z.n+1+1:=by rw[<- hS1];rfl
   rw[hS1]at E1 ⊢;refine(Qk (hT.mono E1) hc).mono ?_;rintro r ⟨Z2,rfl,hE2⟩;have k2:=hE2.n;have z2:Z2.A7 (Z.n+1)=some j9:=by rw[hE2.A7 om];exact z1
   have E2:=E1.trans hE2;unfold j9 at z2;cases hb:Av T nm with
   | none=>
     rw[bdV];simp only[Option.getD_none,Option.isSome_none];unfold Ad j9;refine gS1 (aI @z2 @Tryz.results38) ?_;exact⟨_,rfl,E2.upd om _⟩
   | some ab=>
     obtain⟨x,y⟩:=ab;rw[bdV];simp only[Option.getD_some,Option.isSome_some];cases c1:decide (y<x)with
     | true=>
       rw[if_pos (of_decide_eq_true c1)];unfold Ad j9;refine gS1 (a3N @z2 @c1 @Tryz.results38) ?_;exact⟨_,rfl,E2.upd om _⟩
     | false=>
       rw[if_neg (of_decide_eq_false c1)];refine gS1 (aI @z2 @c1) ?_;refine iC.mono ?_;rintro r ⟨Z3,rfl,hE3⟩;unfold qv P7;refine gS ?_;refine iC.mono ?_;rintro r ⟨Z4,rfl,hE4⟩;have k3:=hE3.n;have k4:=hE4.n;have z4:Z4.A7 (Z.n+1)=some [.int .i64 0,.int .i64 0,.int .i64 0,.int .i64 0]:=by rw[hE4.A7 om,hE3.A7 om];exact z2
       unfold Ad O8 qv P7 ofQ;refine gU1 (a5N @D5 @z4 @MQ @MR @Tryz.results38) ?_;exact⟨_,rfl,(E2.trans (hE3.trans hE4)).upd om _⟩
section
variable {T:Tn}{e:Ex}
def Wf {M:Ex->Prop}(h0:∀ {op nm:By}{n d:Int},SG (.mk op n d nm [])->AO op n d nm 0=true->M (.mk op n d nm []))
  (h2:∀ {op:By}{a b:Ex},OpB op->SG (.mk op 0 0 [] [a,b])->SG a->SG b->M a->M b->M (.mk op 0 0 [] [a,b])):∀ (s:Nat) {e:Ex},SizeOf.sizeOf e<s->SG e->M e:=by
 intro s;induction s with
 |zero=>intro e hs;omega
 | succ s ih=>
   intro e hs h;obtain⟨op,n,d,nm,args⟩:=e;have hf:=h.1;rw[AP,Q7]at hf;rcases Gw hf.1 with q|q|⟨q,rfl,rfl,rfl,q4⟩
   ·obtain rfl:args=[]:=PG.1 q.2.2.2.2.2.2.2;exact h0 h hf.1
   ·obtain rfl:args=[]:=PG.1 q.2.2.2.2;exact h0 h hf.1
   ·match args,q4 with
    | [a,b],_=>
      simp at hs;exact h2 q h (h.at (k:=0) rfl) (h.at (k:=1) rfl) (ih om (h.at (k:=0) rfl)) (ih om (h.at (k:=1) rfl))
def iQ {n d:Int}(h1:1<=d) (h2:Int.gcd n d=1) (h3:0<=n) (h4:(1000000:Int) % d=0) (h5:n<=1000000000*d):Q.Ok ⟨n,d⟩:=by
 have h6:d<=1000000:=Int.le_of_dvd om (Int.dvd_of_emod_eq_zero h4);exact⟨by show -9223372036854775808<=n;omega,by show n<=9223372036854775807;omega,h1,by show d<=9223372036854775807;omega,h2⟩
def SM (hT:BdT T)(he:SG e):∀ {x:QQ},Y1 T e= .ok x->EY x:=by
 refine Wf (M:=fun e=>∀ {x:QQ},Y1 T e= .ok x->EY x) ?_ ?_ _ (II _) he
 ·intro op nm n d h hf x hx;rw[Ct]at hx;unfold Ko at hx;by_cases h1:op=K9
  ·rw[z1z h1]at hx;rcases Gw hf with⟨-,a1,a2,a3,a4,a5,-⟩|⟨q,-⟩|⟨-,-,-,-,q⟩
   ·cases hx;exact⟨iQ a1 a2 a3 a4 a5,iQ a1 a2 a3 a4 a5⟩
   ·subst q;exact absurd h1 (by decide)
   ·cases q
  ·rw[z0z h1]at hx;cases hb:Av T nm with
   |none=>rw[hb]at hx;cases hx
   | some ab=>
     obtain⟨a,b⟩:=ab;rw[hb]at hx;obtain⟨i1,i2⟩:=RC hT hb;have okq:∀ {n:Int},Bk n->Q.Ok (ofQ n):=fun{n} h=>⟨h.1,h.2,by show(1:Int)<=1;decide,by show(1:Int)<=_;decide,by show Nat.gcd n.natAbs 1=1;simp⟩
     by_cases hba:b<a
     ·simp only[z1z hba]at hx;cases hx
     ·simp only[z0z hba]at hx;cases hx;exact⟨okq i1,okq i2⟩
 ·intro op a b ho h ha hb iha ihb x hx;rw[Ba]at hx;obtain⟨y,z,h1,h2,h3⟩:=Ni hx;exact cM (iha h1) (ihb h2) h3
def Zz (he:SG e):∀ {k:Int},Y1 T e= .error k->k≠0:=by
 refine Wf (M:=fun e=>∀ {k:Int},Y1 T e= .error k->k≠0) ?_ ?_ _ (II _) he
 ·intro op nm n d h hf k hk;rw[Ct]at hk;unfold Ko at hk;split at hk
  ·cases hk
  ·split at hk
   ·cases hk;decide
   ·split at hk
    ·cases hk;decide
    ·cases hk
 ·intro op a b ho h ha hb iha ihb k hk;rw[Ba]at hk;exact KN (fun _=>iha) (fun _=>ihb) (fun _ _ _=>Vk) hk
def Lp (he:SG e):∀ {k:Int},Am T e= .error k->k≠0:=by
 refine Wf (M:=fun e=>∀ {k:Int},Am T e= .error k->k≠0) ?_ ?_ _ (II _) he
 ·intro op nm n d h hf k hk;rw[De]at hk;unfold Kq at hk;split at hk
  ·cases hk
  ·split at hk
   ·cases hk;decide
   ·split at hk<;>cases hk
 ·intro op a b ho h ha hb iha ihb k hk;rw[DB]at hk;exact KN (fun _=>iha) (fun _=>ihb) (fun _ _ _=>IX) hk
def RR (he:SG e):∀ {u:Un},Am T e= .ok u-> -(R0 e:Int)<=u.1/\u.1<=R0 e:=by
 refine Wf (M:=fun e=>∀ {u:Un},Am T e= .ok u-> -(R0 e:Int)<=u.1/\u.1<=R0 e) ?_ ?_ _ (II _) he
 ·intro op nm n d h hf u hu;rw[X0,R2];rw[De]at hu;unfold Kq at hu;split at hu
  ·cases hu;exact⟨by decide,by decide⟩
  ·split at hu
   ·cases hu
   ·split at hu
    ·cases hu;exact⟨by decide,by decide⟩
    ·cases hu;exact⟨by decide,by decide⟩
 ·intro op a b ho h ha hb iha ihb u hu;rw[X0,N4,N4,R2];rw[DB]at hu;obtain⟨y,z,h1,h2,h3⟩:=Ni hu;have:=iha h1;have:=ihb h2;unfold BP at h3;split at h3
  ·cases h3;exact⟨by show _<=y.1+z.1;omega,by show y.1+z.1<=_;omega⟩
  ·split at h3
   ·split at h3
    ·cases h3;exact⟨by show _<=(0:Int);omega,by show(0:Int)<=_;omega⟩
    ·cases h3;exact⟨by show _<=y.1-z.1;omega,by show y.1-z.1<=_;omega⟩
   ·split at h3
    ·cases h3;exact⟨by show _<=z.1;omega,by show z.1<=_;omega⟩
    ·split at h3
     ·cases h3;exact⟨by show _<=y.1;omega,by show y.1<=_;omega⟩
     ·cases h3
def Ox {T:Tn}{a:Ex}{k:Int}{l2:List Ex}(ha:Y1 T a= .error k):∀ {l:List Ex}{xs:List QQ},VL (Y1 T) l xs->MB T (l++a::l2)= .error k
 | [],xs,h=>by rw[Jb,MB.eq_2,ha]
 | e::l,xs,h=>by
   obtain⟨y,ys,rfl,h1,h2⟩:=h;rw[Mp,MB.eq_2,h1];simp only[Ox ha h2]
def aA:SN (Y1 T):=by
 intro op n d nm l a l2 xs k hl ha;cases l with
 |nil=>rw[Jb,Y1.eq_2,ha]
 | cons e l=>
   obtain⟨y,ys,rfl,h1,h2⟩:=hl;rw[Mp,Y1.eq_2,h1];simp only[Ox ha h2]
def SO {T:Tn}{a:Ex}{k:Int}{l2:List Ex}(ha:Am T a= .error k):∀ {l:List Ex}{xs:List Un},VL (Am T) l xs->SP T (l++a::l2)= .error k
 | [],xs,h=>by rw[Jb,SP.eq_2,ha]
 | e::l,xs,h=>by
   obtain⟨y,ys,rfl,h1,h2⟩:=h;rw[Mp,SP.eq_2,h1];simp only[SO ha h2]
def eQ:SN (Am T):=by
 intro op n d nm l a l2 xs k hl ha;cases l with
 |nil=>rw[Jb,Am.eq_2,ha]
 | cons e l=>
   obtain⟨y,ys,rfl,h1,h2⟩:=hl;rw[Mp,Am.eq_2,h1];simp only[SO ha h2]
end
end Go.Proofs.T
