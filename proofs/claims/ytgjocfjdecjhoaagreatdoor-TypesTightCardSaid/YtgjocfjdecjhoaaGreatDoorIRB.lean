/- A CQ that was printed is read as it was. -/
import Derived.Test.YtgjocfjdecjhoaaGreatDoorIRA
set_option linter.unusedSimpArgs false
set_option linter.unusedVariables false
set_option linter.defProp false
set_option maxHeartbeats 32000000
set_option maxRecDepth 100000
namespace Go.Proofs.T
open Go Go.Ab
def At (D4:List Tok) (k:Nat) (ts post:List By):Prop:=(D4.map Prod.fst).drop k=ts++post
def At.head {D4:List Tok}{k:Nat}{t:By}{ts post:List By}(h:At D4 k (t::ts) post):(Ah D4 k).1=t:=by
 have a:((D4.map Prod.fst).drop k)[0]? =some t:=by rw[show _=_ from h];rfl
 rw[List.getElem?_drop,j7,List.getElem?_map]at a;obtain⟨x,b,c⟩:=ui.1 a;unfold Ah;rw[List.getD_eq_getElem?_getD,b];exact c
def At.skip {D4:List Tok}{k:Nat}{ts us post:List By}(h:At D4 k (ts++us) post):At D4 (k+ts.length) us post:=by
 unfold At at *;rw[<- UM,h,OU,List.drop_left]
def At.pre {D4:List Tok}{k:Nat}{ts us post:List By}(h:At D4 k (ts++us) post):At D4 k ts (us++post):=by
 unfold At at *;rw[h,OU]
def At.next {D4:List Tok}{k:Nat}{t:By}{us post:List By}(h:At D4 k (t::us) post):At D4 (k+1) us post:=At.skip (ts:=[t]) h
def At.lt {D4:List Tok}{k:Nat}{t:By}{us post:List By}(h:At D4 k (t::us) post):k+us.length<D4.length:=by
 have:=congrArg List.length (show _=_ from h);simp at this;omega
def At.post {D4:List Tok}{k:Nat}{ts post:List By}(h:At D4 k ts post):(Ah D4 (k+ts.length)).1=post.getD 0 []:=by
 have a:(D4.map Prod.fst).drop (k+ts.length)=post:=by
  have:=At.skip (ts:=ts) (us:=[]) (post:=post) (k:=k) (D4:=D4) (by rw[Du];exact h);exact this
 cases b:post with
 | nil=>
   rw[b]at a;have c:D4.length<=k+ts.length:=by simpa using a
   unfold Ah;rw[List.getD_eq_getElem?_getD,List.getElem?_eq_none c];rfl
 | cons t us=>
   have:At D4 (k+ts.length) (t::us) []:=by unfold At;rw[a,b,Du]
   rw[this.head];rfl
section
variable {D4:List Tok}
noncomputable def Fa (D4:List Tok) (a:Nat):Nat->Nat->Except Er Fx:=QR (qM D4 a) D4
noncomputable def Tm (D4:List Tok) (a:Nat):Nat->Nat->Except Er Fx:=fun k p=>Mf (Fa D4 a) [42,47] D4 k p
def Nx {a k p:Nat}:qM D4 (a+1) k p=Mf (Tm D4 a) [43,45] D4 k p:=rfl
def Q2 (D4:List Tok) (a g:Nat) (e:Ex) (d m:Nat):Prop:=∀ pos p post,At D4 pos (U9 g 2 e) post->Fa D4 a pos p= .ok (e,d,pos+(U9 g 2 e).length,p+m)
def Q1 (D4:List Tok) (a g:Nat) (e:Ex) (d m:Nat):Prop:=∀ pos p post,At D4 pos (U9 g 1 e) post->Tm D4 a pos p=FV (Fa D4 a) [42,47] D4 (D4.length-(pos+(U9 g 1 e).length)) (e,d,pos+(U9 g 1 e).length,p+m)
def Q0 (D4:List Tok) (a g:Nat) (e:Ex) (d m:Nat):Prop:=∀ pos p post,At D4 pos (U9 g 0 e) post->opB [42,47] (post.getD 0 [])=false->Mf (Tm D4 a) [43,45] D4 pos p=FV (Tm D4 a) [43,45] D4 (D4.length-(pos+(U9 g 0 e).length)) (e,d,pos+(U9 g 0 e).length,p+m)
def FX {A:Nat->Nat->Except Er Fx}{a:By}{f:Nat}{e:Ex}{d k p:Nat}(h:opB a (Ah D4 k).1=false):FV A a D4 f (e,d,k,p)= .ok (e,d,k,p):=by
 cases f with
 |zero=>rfl
 |succ f=>rw[CJ,z0z (by rw[h];simp)]
def Ny {a g:Nat}{e:Ex}{d m:Nat}(ht:U9 g 1 e=U9 g 2 e) (h:Q2 D4 a g e d m):Q1 D4 a g e d m:=by
 intro pos p post b;rw[ht]at b ⊢;unfold Tm Mf;rw[h pos p post b,CF]
def Nz {a g:Nat}{e:Ex}{d m:Nat}(ht:U9 g 0 e=U9 g 1 e) (h:Q1 D4 a g e d m):Q0 D4 a g e d m:=by
 intro pos p post b f;rw[ht]at b ⊢;have c:=h pos p post b;rw[FX (by rw[b.post];exact f)]at c;show Hj (Tm D4 a pos p) _=_;rw[c,CF]
def AR3 {a:Nat}(k p:Nat):Bd k p (Fa D4 a k p):=kI (AG2 _) k p
def Aw1 {a:Nat}(k p:Nat):Bd k p (Tm D4 a k p):=PK AR3 k p
def Tj {A:Nat->Nat->Except Er Fx}{g op:By}{a b:Ex}{l m c i r s:Nat}(n:∀ k p,Bd k p (A k p)) (q:c<D4.length) (z:(Ah D4 c).1=op) (j:opB g op=true) (o:A (c+1) r= .ok (b,m,i,s)) (v:i<=D4.length) :
  FV A g D4 (D4.length-c) (a,l,c,r)=FV A g D4 (D4.length-i) (.mk op 0 0 [] [a,b],1+max l m,i,s+1):=by
 obtain⟨f,u⟩:∃ f,D4.length-c=f+1:=⟨D4.length-c-1,om⟩
 rw[u,CJ,z,z1z j,o,CF]
 try dsimp only
 have y:=(n _ _ _ _ _ _ o).1;exact bq (k0:=0) (fun k p _ e d B C h=>(n k p e d B C h).1) _ _ _ _ _ _ (BH _) om nL om (fun k q=>AG3 q)
def HQ {g G4:Nat}{o:By}{a b:Ex}(h:o=[43]\/o=[45]\/o=[42]\/o=[47]):U9 (g+1) G4 (.mk o 0 0 [] [a,b])=MU (decide (lvl o<G4)) (U9 g (lvl o) a++o::U9 g (lvl o+1) b):=by
 have c:o≠K8/\o≠nmB/\¬ (o=Q7\/o=R4):=by rcases h with rfl|rfl|rfl|rfl<;>decide
 show MU _ (if _ then _ else _)=_;rw[z0z c.1,z0z c.2.1]
 try dsimp only
 rw[z0z c.2.2]
def YH {g G4:Nat}{o:By}{a b:Ex}(h:o=Q7\/o=R4) (e:G4<=2):U9 (g+1) G4 (.mk o 0 0 [] [a,b])=o::[40]::(U9 g 0 a++[44]::(U9 g 0 b++[[41]])):=by
 have c:o≠K8/\o≠nmB:=by rcases h with rfl|rfl<;>decide
 have d:lvl o=2:=by rcases h with rfl|rfl<;>rfl
 show MU _ (if _ then _ else _)=_;rw[z0z c.1,z0z c.2]
 try dsimp only
 rw[z1z h,d];unfold MU;rw[z0z (by simp;omega)]
def vS {b g:Nat}{e:Ex}{d m:Nat}(ht:U9 g 2 e=[40]::(U9 g 0 e++[[41]])) (h:Q0 D4 b g e d m):Q2 D4 (b+1) g e d m:=by
 intro pos p post a;rw[ht]at a ⊢;have j:=a.head;have c:=a.next;have f:=h (pos+1) p ([[41]]++post) c.pre (by rfl);have i:=c.skip.head;rw[FX (by rw[i];rfl)]at f;show QR _ D4 pos p=_;unfold QR;rw[j,z0z (by decide),z1z rfl,Nx,f,CF]
 try dsimp only
 unfold Pz;rw[z1z i,CF];simp;omega
def AG4 {k m:Nat}{e:Ex}(h:FW k m e):∀ (g fu:Nat),k<=g->(k<=fu->Q0 D4 fu g e k m)/\(k+1<=fu->Q1 D4 fu g e k m/\Q2 D4 fu g e k m):=by
 induction h with
 | @num n d h=>
   intro g fu J;obtain⟨g,rfl⟩:∃ x,g=x+1:=⟨g-1,om⟩
   have ht:∀ G4,G4<=2->U9 (g+1) G4 (.mk K8 n d [] [])=[deT n d]:=by
    intro G4 u;show MU _ (if _ then _ else _)=_;rw[z1z rfl];unfold MU;rw[z0z (by rw[show lvl K8=2 from rfl];simp;omega)]
   have s:Q2 D4 fu (g+1) (.mk K8 n d [] []) 1 1:=by
    intro pos p post l;rw[ht 2 om]at l ⊢;show QR _ D4 pos p=_;unfold QR;have I:PY P9 (Ah D4 pos).1=true:=by
     rw[l.head];rcases h.lex with⟨c,w,e,q⟩|⟨c,w,x,v,e,q,_⟩
     ·rw[e];rw[Od,R2]at q;exact q.1
     ·rw[e];rw[Od,R2]at q;exact q.1
    rw[z1z I,h.dec D4 pos p l.head];rfl
   have q:=Ny ((ht 1 om).trans (ht 2 om).symm) s;exact⟨fun _=>Nz ((ht 0 om).trans (ht 1 om).symm) q,fun _=>⟨q,s⟩⟩
 | @name nm q1 q2 q3=>
   intro g fu J;obtain⟨g,rfl⟩:∃ x,g=x+1:=⟨g-1,om⟩
   have ht:∀ G4,G4<=2->U9 (g+1) G4 (.mk nmB 0 0 nm [])=[nm]:=by
    intro G4 u;show MU _ (if _ then _ else _)=_;rw[z0z (by decide),z1z rfl];unfold MU;rw[z0z (by rw[show lvl nmB=2 from rfl];simp;omega)]
   have s:Q2 D4 fu (g+1) (.mk nmB 0 0 nm []) 1 1:=by
    intro pos p post l;rw[ht 2 om]at l ⊢;show QR _ D4 pos p=_;unfold QR;rw[l.head];obtain⟨c,w,e,c1,U⟩:=MV q1;have I:PY P9 nm=false:=by
     rw[e];cases F:on P9 c with
     |false=>exact F
     |true=>rw[XA F]at c1;cases c1
    have L:nm≠[40]:=by rintro rfl;cases e;cases c1
    rw[z0z (by rw[I];simp),z0z L,z0z (by simp[q2,q3]),z1z q1];rfl
   have q:=Ny ((ht 1 om).trans (ht 2 om).symm) s;exact⟨fun _=>Nz ((ht 0 om).trans (ht 1 om).symm) q,fun _=>⟨q,s⟩⟩
 | @bin k j m i o a b h ha hb iha ihb=>
   intro g fu J;obtain⟨g,rfl⟩:∃ x,g=x+1:=⟨g-1,om⟩
   have key:lvl o=0/\opB [43,45] o=true\/lvl o=1/\opB [42,47] o=true:=by
    rcases h with rfl|rfl|rfl|rfl
    ·exact .inl ⟨rfl,by rfl⟩
    ·exact .inl ⟨rfl,by rfl⟩
    ·exact .inr ⟨rfl,by rfl⟩
    ·exact .inr ⟨rfl,by rfl⟩
   rcases key with⟨u,A⟩|⟨u,A⟩
   ·have D:U9 (g+1) 0 (.mk o 0 0 [] [a,b])=U9 g 0 a++o::U9 g 1 b:=by rw[HQ h,u];rfl
    have G:U9 (g+1) 1 (.mk o 0 0 [] [a,b])=[40]::(U9 g 0 a++o::U9 g 1 b++[[41]]):=by rw[HQ h,u];rfl
    have H:U9 (g+1) 2 (.mk o 0 0 [] [a,b])=[40]::(U9 g 0 a++o::U9 g 1 b++[[41]]):=by rw[HQ h,u];rfl
    have C:∀ fu,1+max k j<=fu->Q0 D4 fu (g+1) (.mk o 0 0 [] [a,b]) (1+max k j) (m+i+1):=by
     intro fu f pos p post l L;rw[D]at l ⊢;have B:=(iha g fu om).1 om pos p _ l.pre (by
      rcases h with rfl|rfl|rfl|rfl<;>first|rfl|(cases u))
     have r:=l.skip;have z:=((ihb g fu om).2 om).1 (pos+(U9 g 0 a).length+1) (p+m) post r.next;rw[FX (by rw[r.next.post];exact L)]at z;have K:=r.lt;rw[B,Tj Aw1 om r.head A z om];simp only[CU,Ap];congr 1
     ·omega
     ·simp only[Prod.mk.injEq,true_and];omega
    refine⟨C fu,fun f=>?_⟩;obtain⟨fu,rfl⟩:∃ x,fu=x+1:=⟨fu-1,om⟩
    have s:=vS (by rw[H,D]) (C fu om);exact⟨Ny (by rw[G,H]) s,s⟩
   ·have D:U9 (g+1) 0 (.mk o 0 0 [] [a,b])=U9 g 1 a++o::U9 g 2 b:=by rw[HQ h,u];rfl
    have G:U9 (g+1) 1 (.mk o 0 0 [] [a,b])=U9 g 1 a++o::U9 g 2 b:=by rw[HQ h,u];rfl
    have H:U9 (g+1) 2 (.mk o 0 0 [] [a,b])=[40]::(U9 g 1 a++o::U9 g 2 b++[[41]]):=by rw[HQ h,u];rfl
    have q:∀ fu,1+max k j<=fu->Q1 D4 fu (g+1) (.mk o 0 0 [] [a,b]) (1+max k j) (m+i+1):=by
     intro fu f pos p post l;rw[G]at l ⊢;have B:=((iha g fu om).2 om).1 pos p _ l.pre;have r:=l.skip;have z:=((ihb g fu om).2 om).2 (pos+(U9 g 1 a).length+1) (p+m) post r.next;have K:=r.lt;rw[B,Tj AR3 om r.head A z om];simp only[CU,Ap];congr 1
     ·omega
     ·simp only[Prod.mk.injEq,true_and];omega
    have C:∀ fu,1+max k j<=fu->Q0 D4 fu (g+1) (.mk o 0 0 [] [a,b]) (1+max k j) (m+i+1):=fun fu f=>Nz (by rw[D,G]) (q fu f);refine⟨C fu,fun f=>?_⟩;obtain⟨fu,rfl⟩:∃ x,fu=x+1:=⟨fu-1,om⟩
    exact⟨q _ om,vS (by rw[H,D]) (C fu om)⟩
 | @mm k j m i o a b h ha hb iha ihb=>
   intro g fu J;obtain⟨g,rfl⟩:∃ x,g=x+1:=⟨g-1,om⟩
   have s:1+max k j<=fu->Q2 D4 fu (g+1) (.mk o 0 0 [] [a,b]) (1+max k j) (m+i+1):=by
    intro f pos p post l;obtain⟨fu,rfl⟩:∃ x,fu=x+1:=⟨fu-1,om⟩
    rw[YH h om]at l ⊢;have B:=l.head;have R:=l.next.head;have M:=l.next.next;have z:=(iha g fu om).1 om (pos+1+1) p _ M.pre (by rfl);have E:=M.skip;rw[FX (by rw[E.head];rfl)]at z;have O:=(ihb g fu om).1 om (pos+1+1+(U9 g 0 a).length+1) (p+m) _ E.next.pre (by rfl);have N:=E.next.skip;rw[FX (by rw[N.head];rfl)]at O;show QR _ D4 pos p=_;unfold QR;rw[B,z0z (by rcases h with rfl|rfl<;>decide),z0z (by rcases h with rfl|rfl<;>decide),z1z (by rcases h with rfl|rfl<;>decide)];unfold Pz;rw[z1z R,CF]
    try dsimp only
    rw[Nx,z,CF]
    try dsimp only
    rw[z1z E.head,CF]
    try dsimp only
    rw[Nx,O,CF]
    try dsimp only
    rw[z1z N.head,CF];simp;omega
   have ht:∀ x y,x<=2->y<=2->U9 (g+1) x (.mk o 0 0 [] [a,b])=U9 (g+1) y (.mk o 0 0 [] [a,b]):=fun x y F S=>by rw[YH h F,YH h S]
   have q:=fun f=>Ny (ht 1 2 om om) (s f);exact⟨fun f=>Nz (ht 0 1 om om) (q f),fun f=>⟨q om,s om⟩⟩
def uR {k m:Nat}{e:Ex}(h:FW k m e):∀ g G4,k<=g->k<=(U9 g G4 e).length:=by
 have c:∀ (b:Bool) (ts:List By),ts.length<=(MU b ts).length:=fun b ts=>by unfold MU;split<;>simp;omega
 induction h with
 | @num n d h=>
   intro g G4 f;obtain⟨g,rfl⟩:∃ x,g=x+1:=⟨g-1,om⟩
   refine j9 ?_ (c _ _);rw[z1z rfl];simp
 | @name nm q1 q2 q3=>
   intro g G4 f;obtain⟨g,rfl⟩:∃ x,g=x+1:=⟨g-1,om⟩
   refine j9 ?_ (c _ _);rw[z0z (by decide),z1z rfl];simp
 | @bin k j m i o a b h ha hb iha ihb=>
   intro g G4 f;obtain⟨g,rfl⟩:∃ x,g=x+1:=⟨g-1,om⟩
   rw[HQ h];refine j9 ?_ (c _ _);have:=iha g (lvl o) om;have:=ihb g (lvl o+1) om;simp;omega
 | @mm k j m i o a b h ha hb iha ihb=>
   intro g G4 f;obtain⟨g,rfl⟩:∃ x,g=x+1:=⟨g-1,om⟩
   have l:o≠K8/\o≠nmB:=by rcases h with rfl|rfl<;>decide
   refine j9 ?_ (c _ _);rw[z0z l.1,z0z l.2]
   try dsimp only
   rw[z1z h];have:=iha g 0 om;have:=ihb g 0 om;simp;omega
def nJ {k m g:Nat}{e:Ex}(h:FW k m e) (d:k<=g) (i:k<=12) (j:m<=60) (ht:D4.map Prod.fst=U9 g 0 e++[[]]):qL D4= .ok e:=by
 have f:D4.length=(U9 g 0 e).length+1:=by have:=congrArg List.length ht;simpa using this
 have b:=uR h g 0 d;have a:At D4 0 (U9 g 0 e) [[]]:=ht;have c:=(AG4 (D4:=D4) h g (U9 g 0 e).length d).1 b 0 0 [[]] a (by rfl);rw[FX (by rw[a.post];rfl)]at c;unfold qL;rw[f,Nx,c,CF]
 try dsimp only
 rw[z1z (by rw[a.post];rfl),z0z (by simp;omega)]
end
section
variable {n:Nat}
def AA4:∀ (f g n:Nat),n<f->n<g->dcF f n=dcF g n:=by
 intro f;induction f with
 |zero=>intro g n h;omega
 | succ f ih=>
   intro g n a b;cases g with
   |zero=>omega
   | succ g=>
     show(if n<10 then[dgt n]else dcF f (n / 10)++[dgt n])=(if n<10 then[dgt n]else dcF g (n / 10)++[dgt n])
     by_cases h:n<10
     ·rw[z1z h,z1z h]
     ·rw[z0z h,z0z h,ih g (n / 10) om om]
def Cs (h:n<10):dcN n=[dgt n]:=by
 show(if n<10 then[dgt n]else _)=_;rw[z1z h]
def Nf (h:¬ n<10):dcN n=dcN (n / 10)++[dgt n]:=by
 show(if n<10 then[dgt n]else dcF n (n / 10)++[dgt n])=dcF (n / 10+1) (n / 10)++[dgt n]
 rw[z0z h,AA4 n (n / 10+1) (n / 10) om om]
def Ks:∀ (k n:Nat),n<10 ^ (k+1)->(dcN n).length<=k+1:=by
 intro k;induction k with
 |zero=>intro n h;rw[Cs om];simp
 | succ k ih=>
   intro n h;by_cases a:n<10
   ·rw[Cs a];simp
   ·rw[Nf a];have:=ih (n / 10) (by rw[HG]at h;omega);simp;omega
def Nl:(dgt n).toNat=48+n % 10:=by
 unfold dgt;rw[UInt8.toNat_ofNat'];omega
def XZ:on P9 (dgt n)=true:=by
 unfold on P9;rw[Nl];have a:decide (((48+n % 10:Nat):Int)<48)=false:=by rw[Ob];omega
 have b:decide ((57:Int)<((48+n % 10:Nat):Int))=false:=by rw[Ob];omega
 rw[a,b];rfl
def TJ:∀ (f n:Nat),n<f->(dcN n).all (on P9)=true/\GX (dcN n)=n/\∃ c w,dcN n=c::w/\(c=48->n=0/\w=[]):=by
 intro f;induction f with
 |zero=>intro n h;omega
 | succ f ih=>
   intro n i;by_cases a:n<10
   ·rw[Cs a];refine⟨by rw[Od,XZ];rfl,?_,_,_,rfl,fun h=>⟨?_,rfl⟩⟩
    ·show 10*0+((dgt n).toNat-48)=n;rw[Nl];omega
    ·have:=congrArg UInt8.toNat h;rw[Nl]at this;change 48+n % 10=48 at this;omega
   ·obtain⟨b,d,c,w,e,g⟩:=ih (n / 10) om;rw[Nf a];refine⟨by rw[tN,b,Od,XZ];rfl,?_,c,w++[dgt n],by rw[e];rfl,fun h=>?_⟩
    ·have:GX (dcN (n / 10)++[dgt n])=10*GX (dcN (n / 10))+((dgt n).toNat-48):=by
      unfold GX;rw[aX];rfl
     rw[this,d,Nl];omega
    ·have:=(g h).1;omega
def AA5 (n:Nat):WG (dcN n)=true/\GX (dcN n)=n:=by
 obtain⟨a,d,c,w,b,f⟩:=TJ (n+1) n (Jt _);refine⟨?_,d⟩;unfold WG;rw[a,b];have g:on P9 c=true:=by rw[b,Od,R2]at a;exact a.1
 show(on P9 c&&true&&AN5 (c::w))=true;rw[g];cases w with
 |nil=>rfl
 | cons x v=>
   show(true&&true&& !decide (c=48))=true;have:decide (c=48)=false:=z4z fun e=>by cases(f e).2
   rw[this];rfl
def sH (n:Nat):dcN n≠[]:=by
 obtain⟨-,-,c,w,h,-⟩:=TJ (n+1) n (Jt _);rw[h];simp
section
variable {D4:List Tok}{k:Nat}{T:Tn}
def AK9:By:=[109,111,115,116]
end
end
end Go.Proofs.T
namespace Go.Proofs.T
open Go Go.Ab
open Nat (reduceMul reduceEqDiff reduceAdd)
section
variable {n:Nat}{Z:St}
def mO (h:n<18446744073709551616):(dcN n).length<=20:=Ks 19 n om
def sX:∀ (f n:Nat){Z:St},n<f->n<=9223372036854775807 ->
  Ev (gO 243 [.int .i64 (n:Nat)] Z) (fun r=>∃ Z',r=⟨false,str (dcN n),Z'⟩/\Ext Z Z') ⟨⟩:=by
 intro f;induction f with
 |zero=>intro n Z h;omega
 | succ f ih=>
   intro n Z o p;refine C8 Tryz.func243 rfl rfl ?_;have b:decide ((n:Int)<0)=false:=by first|(simp;done)|(simp;omega)
   by_cases a:n<10
   ·have d:decide ((n:Int)<10)=true:=by first|(simp;done)|(simp;omega)
    have j:UInt8.ofNat (48+(n:Int)).toNat=dgt n:=by unfold dgt;congr 1;omega
    simp(maxSteps:=8000000) (disch:=first|exact dS|fail) only[↓bD,bW,reduceMul,reduceEqDiff,reduceAdd,Nat.reduceBEq,reduceIte,Option.isNone_none,b,d,D6,D8,RN,Ip,GH,Nat.reduceMul,j,Tryz.results243];rw[Cs a];exact⟨_,rfl,(Ext.refl _).Q3 _⟩
   ·have d:decide ((n:Int)<10)=false:=by first|(simp;done)|(simp;omega)
    have k:IntKind.i64.wrap ((n:Int).tdiv 10)=((n / 10:Nat):Int):=by
     rw[show(n:Int).tdiv 10=((n / 10:Nat):Int)from rfl];exact wrap64_in om om
    refine gS1 (aI b (aI d k)) ?_;refine(ih (n / 10) om om).mono ?_;rintro r ⟨Z',rfl,i⟩;have l:(n:Int).tmod 10=((n % 10:Nat):Int):=rfl;refine gS1 l ?_;refine(ih (n % 10) om om).mono ?_;rintro r ⟨m,rfl,c⟩;have e:=mO (n:=n / 10) om;have g:dcN (n % 10)=[dgt n]:=by rw[Cs om];unfold dgt;congr 2;omega
    rw[g];refine gS1 @Tryz.results243 ?_;rw[<- Nf a];exact⟨_,rfl,i.trans c⟩
def AZ5 (h:n<=1000000000):RQ (n:Int) 1:=⟨om,om,om,om,by simp⟩
def sY (h:n<=1000000000):Ev (gO 204 [R5 (n:Nat) 1] Z) (fun r=>∃ Z',r=⟨false,str (dcN n),Z'⟩/\Ext Z Z') ⟨⟩:=by
 refine C8 Tryz.func204 rfl rfl ?_;unfold R5;refine gS ?_;refine(Rp (AZ5 h)).mono ?_;rintro r ⟨c,rfl,a⟩;have r1:c.row Z.n=some [.int .i64 (n:Nat),.int .i64 1]:=eT (a.row (cL)) cL;refine gS1 r1 ?_;refine(sX _ n (Jt _) om).mono ?_;rintro r ⟨d,rfl,b⟩;refine gS1 @Tryz.results204 ?_;exact⟨_,rfl,Ext.trans (eX) (a.trans b)⟩
def JG (h:n<=1000000000):Ev (gO 173 [.int .i64 (n:Nat)] Z) (fun r=>∃ Z',r=⟨false,str (dcN n),Z'⟩/\Ext Z Z') ⟨⟩:=by
 refine C8 Tryz.func173 rfl rfl ?_;refine gS ?_;refine(sY h).mono ?_;rintro r ⟨b,rfl,a⟩;refine gS1 @Tryz.results173 ?_;exact⟨_,rfl,a⟩
def sZ (h:n<=1000000000):(dcN n).length<=10:=Ks 9 n om
def aJ {n d:Int}(h:RQ n d) (X:0<=n) (S:(1000000:Int) % d=0):Ev (gO 205 [R5 n d] Z) (fun r=>∃ Z',r=⟨false,str (deT n d),Z'⟩/\Ext Z Z') ⟨⟩:=by
 obtain⟨N,rfl⟩:=FM X;obtain⟨D,rfl⟩:=FM (by have:=h.d1;omega:0<=d);have d1:=h.d1;have d2:=h.d2;have n2:=h.n2;have I:0<D:=om;obtain⟨m,hm⟩:=nW (N % D);have g:∀ x,x=10 ^ 6*m->x % D=0:=by
  intro x hx;have J:(10 ^ 6) % D=0:=Int.natCast_inj.1 (by rw[Int.natCast_emod];exact S);rw[hx,sd,J,GH,se]
 have G:∀ j D,frT j 0 D=[]:=fun j D=>by cases j<;>rfl
 have fs:∀ j N7,N7≠0->frT (j+1) N7 D=dcN (10*N7 / D)++frT j (10*N7 % D) D:=fun j N7 h=>by show(if N7=0 then _ else _)=_;rw[z0z h]
 have K:deT (N:Int) (D:Int)=dcN (N / D)++(if N % D=0 then[]else 46::frT 6 (N % D) D):=rfl;rw[K];clear S;refine C8 Tryz.func205 rfl rfl ?_;unfold R5;have A:decide ((D:Int)=0)=false:=dF;obtain⟨q,C⟩:=nW (N / D);have O:q<=1000000000:=by rw[<- C];exact AO4 om
 have R:m<D:=by rw[<- hm];exact IP _ I
 have W:IntKind.i64.wrap ((N:Int).tdiv D)=(q:Int):=by
  rw[show(N:Int).tdiv D=((N / D:Nat):Int)from rfl,C];exact wrap64_in om om
 have F:(N:Int).tmod D=(m:Int):=by rw[<- hm];rfl
 refine gS1 (aI A (aI W F)) ?_;refine(JG O).mono ?_;rintro r ⟨U,rfl,p⟩;have r1:U.row Z.n=some [.int .i64 (N:Nat),.int .i64 (D:Nat)]:=eT (p.row (cL)) cL;have hl:=sZ O;have step:∀ k,(10 ^ (k+1)*m) % D=(10*((10 ^ k*m) % D)) % D:=by
  intro k;rw[HG,DG (10 ^ k) 10,Gb,sd 10,sd 10 ((10 ^ k*m) % D),Nat.mod_mod]
 by_cases L:m=0
 ·have E:decide (0<(m:Int))=false:=dF;refine gS1 (aI r1 (aI A (aI F E))) ?_
  refine Bt (fun j a b=>∃ k s N7,j+k=6/\N7=(10 ^ k*m) % D/\a.get 4=some (.int .i64 (N7:Nat))/\a.get 3=some (str s)/\s++frT j N7 D=dcN q/\s.length<=12+k/\a.get 1=some (.pointer (some ⟨Z.n,0,none⟩))/\Ext (Z.new [.int .i64 (N:Nat),.int .i64 (D:Nat)]) b)
   (fun r=>∃ a b,r=⟨.exit 0,a,b⟩/\a.get 3=some (str (dcN q))/\Ext Z b) 6 ⟨0,_,m,rfl,by rw[jK,RN,RU R],fR,fR,(by rw[L,G,Du]),om,fR,p⟩ ?_ ?_
  ·rintro j a b ⟨k,s,N7,Y,i,o,c,ht,hs,l,e⟩;by_cases r0:N7=0
   ·have c1:decide (0<(N7:Int))=false:=dF;refine gS1 (aI o (aI c c1)) ?_;rw[r0,G,Du]at ht;exact⟨_,_,rfl,by rw[<- ht];exact fR1 c,Ext.trans (eX) e⟩
   have k6:k<6:=by
    rcases AU k 6 with h|h
    ·exact h
    ·obtain rfl:k=6:=om;exact absurd (i.trans (g _ rfl)) r0
   have c1:decide (0<(N7:Int))=true:=dT;have rD:N7<D:=by rw[i];exact IP _ I
   have B:b.row Z.n=some [.int .i64 (N:Nat),.int .i64 (D:Nat)]:=eT (e.row (by simp)) cL;obtain⟨u,y⟩:=nW (10*N7 / D);obtain⟨v,hv⟩:=nW (10*N7 % D);have z:u<10:=by rw[<- y];exact ij (by rw[DG];omega)
   have f1:IntKind.i64.wrap ((10*(N7:Int)).tdiv D)=(u:Int):=by
    rw[show(10*(N7:Int))=((10*N7:Nat):Int) by omega,show((10*N7:Nat):Int).tdiv D=((10*N7 / D:Nat):Int)from rfl,y];exact wrap64_in om om
   have H:(10*(N7:Int)).tmod D=(v:Int):=by
    rw[show(10*(N7:Int))=((10*N7:Nat):Int) by omega,show((10*N7:Nat):Int).tmod D=((10*N7 % D:Nat):Int)from rfl,hv]
   refine gS1 (aI o (aI c (aI l (aI c1 (aI B (aI A @f1)))))) ?_;refine(JG (n:=u) om).mono ?_;rintro r ⟨V,rfl,f⟩;have M:=eT (f.row (by have:=e.n;simp at this;omega)) B;have l1:(dcN u).length=1:=by rw[Cs z];rfl
   refine gS1 (aI o (aI c (aI l (aI M (aI A H))))) ?_;refine⟨6-(k+1),om,k+1,s++dcN u,v,om,by rw[step,<- i,hv],fR,fR,?_,by simp;omega,fR1 l,e.trans f⟩;rw[<- ht,show j=6-(k+1)+1 by omega,fs _ _ r0,y,hv,OU]
  rintro r ⟨a,b,rfl,c,e⟩;refine gS1 (aI c @Tryz.results205) ?_;rw[C,hm,z1z L,Du];exact⟨_,rfl,e⟩
 ·have E:decide (0<(m:Int))=true:=dT;refine gS1 (aI r1 (aI A (aI F E))) ?_
  refine Bt (fun j a b=>∃ k s N7,j+k=6/\N7=(10 ^ k*m) % D/\a.get 4=some (.int .i64 (N7:Nat))/\a.get 3=some (str s)/\s++frT j N7 D=dcN q++46::frT 6 m D/\s.length<=12+k/\a.get 1=some (.pointer (some ⟨Z.n,0,none⟩))/\Ext (Z.new [.int .i64 (N:Nat),.int .i64 (D:Nat)]) b)
   (fun r=>∃ a b,r=⟨.exit 0,a,b⟩/\a.get 3=some (str (dcN q++46::frT 6 m D))/\Ext Z b) 6 ⟨0,dcN q++[46],m,rfl,by rw[jK,RN,RU R],fR,fR,(by simp),by simp;omega,fR,p⟩ ?_ ?_
  ·rintro j a b ⟨k,s,N7,Y,i,o,c,ht,hs,l,e⟩;by_cases r0:N7=0
   ·have c1:decide (0<(N7:Int))=false:=dF;refine gS1 (aI o (aI c c1)) ?_;rw[r0,G,Du]at ht;exact⟨_,_,rfl,by rw[<- ht];exact fR1 c,Ext.trans (eX) e⟩
   have k6:k<6:=by
    rcases AU k 6 with h|h
    ·exact h
    ·obtain rfl:k=6:=om;exact absurd (i.trans (g _ rfl)) r0
   have c1:decide (0<(N7:Int))=true:=dT;have rD:N7<D:=by rw[i];exact IP _ I
   have B:b.row Z.n=some [.int .i64 (N:Nat),.int .i64 (D:Nat)]:=eT (e.row (by simp)) cL;obtain⟨u,y⟩:=nW (10*N7 / D);obtain⟨v,hv⟩:=nW (10*N7 % D);have z:u<10:=by rw[<- y];exact ij (by rw[DG];omega)
   have f1:IntKind.i64.wrap ((10*(N7:Int)).tdiv D)=(u:Int):=by
    rw[show(10*(N7:Int))=((10*N7:Nat):Int) by omega,show((10*N7:Nat):Int).tdiv D=((10*N7 / D:Nat):Int)from rfl,y];exact wrap64_in om om
   have H:(10*(N7:Int)).tmod D=(v:Int):=by
    rw[show(10*(N7:Int))=((10*N7:Nat):Int) by omega,show((10*N7:Nat):Int).tmod D=((10*N7 % D:Nat):Int)from rfl,hv]
   refine gS1 (aI o (aI c (aI l (aI c1 (aI B (aI A @f1)))))) ?_;refine(JG (n:=u) om).mono ?_;rintro r ⟨V,rfl,f⟩;have M:=eT (f.row (by have:=e.n;simp at this;omega)) B;have l1:(dcN u).length=1:=by rw[Cs z];rfl
   refine gS1 (aI o (aI c (aI l (aI M (aI A H))))) ?_;refine⟨6-(k+1),om,k+1,s++dcN u,v,om,by rw[step,<- i,hv],fR,fR,?_,by simp;omega,fR1 l,e.trans f⟩;rw[<- ht,show j=6-(k+1)+1 by omega,fs _ _ r0,y,hv,OU]
  rintro r ⟨a,b,rfl,c,e⟩;refine gS1 (aI c @Tryz.results205) ?_;rw[C,hm,z0z L];exact⟨_,rfl,e⟩
end
end Go.Proofs.T
namespace Go.Proofs.T
open Go Go.Ab
def Ml {s:By}:Df s=AP s:=by
 cases s with
 |nil=>rfl
 | cons c w=>
   have a:decide (0<(c::w).length)=true:=sI;have b:Df (c::w)=(decide (0<(c::w).length)&&decide ((c::w).length<=30)&&(c::w).all (on EW)&&on FE c):=rfl;have d:AP (c::w)=(on FE c&&decide ((c::w).length<=30)&&(c::w).all (on EW)):=rfl;rw[b,d,a];cases decide ((c::w).length<=30)<;>cases(c::w).all (on EW)<;>cases on FE c<;>rfl
def FW.le {k m:Nat}{e:Ex}(h:FW k m e):k<=m:=by
 induction h with
 |num=>omega
 |name=>omega
 |bin=>omega
 |mm=>omega
def Dh {Z:St}{v:Value}{f:List (List Value)}{a b:Ex}(g:SL Z 5 v f) (d:Cn Z f [a,b]):∃ B off sp c cells r1 r2,v= .slice (some ⟨B,off,sp⟩) 2 c/\B<Z.n/\Z.row B=some cells /\
  sub cells off 5=some r1/\sub cells (off+5) 5=some r2/\P8 Z r1 a/\P8 Z r2 b:=by
 obtain⟨r1,h,rfl,e,d⟩:=d;obtain⟨r2,rs2,rfl,hx2,d⟩:=d;obtain rfl:rs2=[]:=d;obtain⟨A,C,B,off,cells,rfl,c1,c2⟩:=SL.use g;obtain⟨sp,rfl,l3,l4⟩:=c1 (by simp);exact⟨B,off,sp,C,cells,r1,r2,rfl,l3,l4,by simpa using c2 0 r1 rfl,by simpa using c2 1 r2 rfl,e,hx2⟩
def FW.arg {k m:Nat}{e:Ex}(q:FW k m e){Z:St}{row:List Value}(g:P8 Z row e):∃ o n d nm a len c,row=[str o,.int .i64 n,.int .i64 d,str nm,.slice a len c]/\((len=0/\k=1/\m=1)\/∃ B off sp cells k1 k2 m1 m2 e1 e2 r1 r2,len=2/\a=some ⟨B,off,sp⟩/\B<Z.n/\Z.row B=some cells/\k=1+max k1 k2/\m=m1+m2+1/\FW k1 m1 e1/\FW k2 m2 e2 /\
  sub cells off 5=some r1/\sub cells (off+5) 5=some r2/\P8 Z r1 e1/\P8 Z r2 e2):=by
 cases q with
 | num h=>
   obtain⟨v,f,rfl,i,-,j⟩:=g;obtain rfl:f=[]:=j;obtain⟨a,c,b,off,cells,rfl,-⟩:=SL.use i;exact⟨_,_,_,_,_,_,_,rfl,.inl ⟨rfl,rfl,rfl⟩⟩
 | name h=>
   obtain⟨v,f,rfl,i,-,j⟩:=g;obtain rfl:f=[]:=j;obtain⟨a,c,b,off,cells,rfl,-⟩:=SL.use i;exact⟨_,_,_,_,_,_,_,rfl,.inl ⟨rfl,rfl,rfl⟩⟩
 | bin h ha hb=>
   obtain⟨v,f,rfl,l,-,p⟩:=g;obtain⟨B,off,sp,c,cells,r1,r2,rfl,l3,l4,s1,s2,x1,x2⟩:=Dh l p;exact⟨_,_,_,_,_,_,_,rfl,.inr ⟨B,off,sp,cells,_,_,_,_,_,_,r1,r2,rfl,rfl,l3,l4,rfl,rfl,ha,hb,s1,s2,x1,x2⟩⟩
 | mm h ha hb=>
   obtain⟨v,f,rfl,l,-,p⟩:=g;obtain⟨B,off,sp,c,cells,r1,r2,rfl,l3,l4,s1,s2,x1,x2⟩:=Dh l p;exact⟨_,_,_,_,_,_,_,rfl,.inr ⟨B,off,sp,cells,_,_,_,_,_,_,r1,r2,rfl,rfl,l3,l4,rfl,rfl,ha,hb,s1,s2,x1,x2⟩⟩
def mW:∀ (s:Nat){Z:St}{kd j:Nat}{e:Ex}{row:List Value},j<s->j<=1000000000->FW kd j e->P8 Z row e->Ev (gO 42 [.agg ⟨row⟩] Z) (fun r=>∃ Z':St,r=⟨false,.int .i64 (j:Nat),Z'⟩/\Ext Z Z') ⟨⟩:=by
 intro s;induction s with
 |zero=>intro Z kd j e row X;omega
 | succ s ih=>
   intro Z kd j e row X hj U S;obtain⟨o,n,d,nm,a,m,c,rfl,h⟩:=U.arg S;refine C8 Tryz.func42 rfl rfl ?_;refine gS ?_;obtain⟨R,hR⟩:∃ R:List Value,[str o,.int .i64 n,.int .i64 d,str nm,.slice a m c]=R:=⟨_,rfl⟩
   have l:sub R 4 1=some [.slice a m c]:=by rw[<- hR];rfl
   rw[hR];rcases h with⟨rfl,rfl,rfl⟩|⟨B,off,sp,cells,Y,k2,z,A,K,L,r1,r2,rfl,rfl,l3,l4,rfl,rfl,f1,M,s1,s2,x1,x2⟩
   ·refine G8 0 (fun k b Z'=>b.get 4=some (.int .i64 k)/\b.get 1=some (.pointer (some ⟨Z.n,0,none⟩))/\Z'=Z.new R/\b.get 3=some (.int .i64 1))
     (fun r=>∃ b,r=⟨.exit 0,b,Z.new R⟩/\b.get 3=some (.int .i64 1)) ?_ ?_ ?_ ?_
    ·exact⟨fR,fR,rfl,fR⟩
    ·rintro k b Z' I;omega
    ·rintro b Z' ⟨u,i,rfl,f⟩;refine gS1 (aI u (aI i l)) ?_;exact⟨_,rfl,fR1 f⟩
    rintro r ⟨b,rfl,f⟩;refine gS1 (aI f @Tryz.results42) ?_;exact⟨_,rfl,eX⟩
   refine G8 2 (fun k b Z'=>b.get 4=some (.int .i64 k)/\b.get 1=some (.pointer (some ⟨Z.n,0,none⟩))/\Ext (Z.new R) Z'/\∃ p:Nat,b.get 3=some (.int .i64 (p:Nat))/\((k=0/\p=1)\/(k=1/\p=1+z)\/(k=2/\p=z+A+1)))
    (fun r=>∃ b Z',r=⟨.exit 0,b,Z'⟩/\Ext Z Z'/\∃ p:Nat,b.get 3=some (.int .i64 (p:Nat))/\p=z+A+1) ?_ ?_ ?_ ?_
   ·exact⟨fR,fR,.refl _,_,fR,.inl ⟨rfl,rfl⟩⟩
   ·rintro k b Z' I ⟨u,i,g,p,f,V⟩;have O:=M4 I;have H:Z'.row Z.n=some R:=eT (g.row (by simp)) cL;have E:=g.n;simp only[G3]at E;have y:Ext Z Z':=Ext.trans (eX) g;have w2:=eT (y.row l3) l4;have F:k=0\/k=1:=om;have v:∃ J q C G,sub cells (off+k*5) 5=some G/\FW J q C/\P8 Z G C/\q<s/\q<=1000000000/\((k=0/\q=z)\/(k=1/\q=A)):=by
     rcases F with rfl|rfl
     ·exact⟨Y,z,K,r1,by simpa using s1,f1,x1,om,om,.inl ⟨rfl,rfl⟩⟩
     ·exact⟨k2,A,L,r2,by simpa using s2,M,x2,om,om,.inr ⟨rfl,rfl⟩⟩
    obtain⟨J,q,C,G,s3,N,x3,y1,y2,y3⟩:=v;refine gS1 (aI u (aI i (aI f (aI O (aI H (aI l (aI w2 s3))))))) ?_;refine(ih y1 y2 N (x3.mono y)).mono ?_;rintro r ⟨Z2,rfl,D⟩;refine gS1 (aI u (aI i f)) ?_;refine⟨fR,fR1 i,g.trans D,p+q,fR,?_⟩;omega
   ·rintro b Z' ⟨u,i,g,p,f,V⟩;have H:Z'.row Z.n=some R:=eT (g.row (by simp)) cL;refine gS1 (aI u (aI i (aI H l))) ?_;exact⟨_,_,rfl,Ext.trans (eX) g,p,fR1 f,om⟩
   rintro r ⟨b,Z',rfl,g,p,f,W⟩;refine gS1 (aI f @Tryz.results42) ?_;subst W;exact⟨_,rfl,g⟩
def mX:∀ (s:Nat){Z:St}{kd j:Nat}{e:Ex}{row:List Value},j<s->j<=1000000000->FW kd j e->P8 Z row e->Ev (gO 43 [.agg ⟨row⟩] Z) (fun r=>∃ Z':St,r=⟨false,.int .i64 (kd:Nat),Z'⟩/\Ext Z Z') ⟨⟩:=by
 intro s;induction s with
 |zero=>intro Z kd j e row X;omega
 | succ s ih=>
   intro Z kd j e row X hj U S;obtain⟨o,n,d,nm,a,m,c,rfl,h⟩:=U.arg S;refine C8 Tryz.func43 rfl rfl ?_;refine gS ?_;obtain⟨R,hR⟩:∃ R:List Value,[str o,.int .i64 n,.int .i64 d,str nm,.slice a m c]=R:=⟨_,rfl⟩
   have l:sub R 4 1=some [.slice a m c]:=by rw[<- hR];rfl
   rw[hR];rcases h with⟨rfl,rfl,rfl⟩|⟨B,off,sp,cells,v,A,Y,j2,L,M,r1,r2,rfl,rfl,l3,l4,rfl,rfl,f1,J,s1,s2,x1,x2⟩
   ·refine G8 0 (fun k b Z'=>b.get 4=some (.int .i64 k)/\b.get 1=some (.pointer (some ⟨Z.n,0,none⟩))/\Z'=Z.new R/\b.get 3=some (.int .i64 0))
     (fun r=>∃ b,r=⟨.exit 0,b,Z.new R⟩/\b.get 3=some (.int .i64 0)) ?_ ?_ ?_ ?_
    ·exact⟨fR,fR,rfl,fR⟩
    ·rintro k b Z' K;omega
    ·rintro b Z' ⟨u,i,rfl,f⟩;refine gS1 (aI u (aI i l)) ?_;exact⟨_,rfl,fR1 f⟩
    rintro r ⟨b,rfl,f⟩;refine gS1 (aI f @Tryz.results43) ?_;exact⟨_,rfl,eX⟩
   refine G8 2 (fun k b Z'=>b.get 4=some (.int .i64 k)/\b.get 1=some (.pointer (some ⟨Z.n,0,none⟩))/\Ext (Z.new R) Z'/\∃ p:Nat,b.get 3=some (.int .i64 (p:Nat))/\((k=0/\p=0)\/(k=1/\p=v)\/(k=2/\p=max v A)))
    (fun r=>∃ b Z',r=⟨.exit 0,b,Z'⟩/\Ext Z Z'/\∃ p:Nat,b.get 3=some (.int .i64 (p:Nat))/\p=max v A) ?_ ?_ ?_ ?_
   ·exact⟨fR,fR,.refl _,_,fR,.inl ⟨rfl,rfl⟩⟩
   ·rintro k b Z' K ⟨u,i,g,p,f,V⟩;have O:=M4 K;have I:Z'.row Z.n=some R:=eT (g.row (by simp)) cL;have F:=g.n;simp only[G3]at F;have z:Ext Z Z':=Ext.trans (eX) g;have w2:=eT (z.row l3) l4;have G:k=0\/k=1:=om;have y:∃ q C D H,sub cells (off+k*5) 5=some H/\FW q C D/\P8 Z H D/\C<s/\C<=1000000000/\((k=0/\q=v)\/(k=1/\q=A)):=by
     rcases G with rfl|rfl
     ·exact⟨v,Y,L,r1,by simpa using s1,f1,x1,om,om,.inl ⟨rfl,rfl⟩⟩
     ·exact⟨A,j2,M,r2,by simpa using s2,J,x2,om,om,.inr ⟨rfl,rfl⟩⟩
    obtain⟨q,C,D,H,s3,N,x3,y1,y2,y3⟩:=y;refine gS1 (aI u (aI i (aI f (aI O (aI I (aI l (aI w2 s3))))))) ?_;refine(ih y1 y2 N (x3.mono z)).mono ?_;rintro r ⟨Z2,rfl,E⟩;refine gS1 (aI u (aI i f)) ?_;refine⟨fR,fR1 i,g.trans E,max p q,by rw[show((max p q:Nat):Int)=max (p:Int) (q:Int) by omega],?_⟩;omega
   ·rintro b Z' ⟨u,i,g,p,f,V⟩;have I:Z'.row Z.n=some R:=eT (g.row (by simp)) cL;refine gS1 (aI u (aI i (aI I l))) ?_;exact⟨_,_,rfl,Ext.trans (eX) g,p,fR1 f,om⟩
   rintro r ⟨b,Z',rfl,g,p,f,W⟩;have q1:=f1.le;have q2:=J.le;refine gS1 (aI f @Tryz.results43) ?_;subst W;exact⟨_,by rw[AP2 (max v A) 1],g⟩
section
variable {o:By}{Z:St}{e:Ex}{row r:List Value}{b:Bool}
def Cl (Z:St):List (Nat×List Value)->Prop
 | []=>True
 | (b,cs)::l=>(b<Z.n/\Z.A7 b=some cs)/\Cl Z l
def Cl.Ar1 {Z Z':St}(hE:Ext Z Z'):∀ {l:List (Nat×List Value)},Cl Z l->Cl Z' l
 | [],_=>trivial
 | (b,cs)::l,h=>⟨⟨z5z h.1.1 hE.n,by rw[hE.A7 h.1.1];exact h.1.2⟩,Cl.Ar1 hE h.2⟩
def Cl.ext {Z':St}{l:List (Nat×List Value)}(h:Cl Z l) (a:Ext Z Z'):Cl Z' l:=Cl.Ar1 a h
def P8.yv {Z:St}{row:List Value}:∀ {e:Ex},P8 Z row e->∃ o n d nm v,row=[str o,.int .i64 n,.int .i64 d,str nm,v]/\∃ l,e= .mk o n d nm l
 | .mk o n d nm l,h=>by obtain⟨v,B9,h,-⟩:=h;exact⟨o,n,d,nm,v,h,l,rfl⟩
def opE:Ex->By
 | .mk o _ _ _ _=>o
def isP (o:By):Bool:=decide (o=[42])||decide (o=[47])
def isS (o:By):Bool:=decide (o=[43])||decide (o=[45])
def Ze {g G4:Nat}:K6 (g+1) G4 e=par (decide (lvl (opE e)<G4)) (K6 (g+1) 0 e):=by
 cases e with
 | mk o n d nm l=>
   show par _ _=par _ (par (decide (lvl o<0)) _);have:decide (lvl o<0)=false:=sI;rw[this];rfl
def Ql:decide (lvl o<1)=isS o:=by
 unfold lvl isS;by_cases h:o=[43]\/o=[45]
 ·rw[z1z h];rcases h with h|h<;>simp[h]
 ·rw[z0z h];have a:o≠[43]:=fun e=>h (.inl e);have c:o≠[45]:=fun e=>h (.inr e);split<;>simp[a,c]
def ig:decide (lvl o<2)=(isS o||isP o):=by
 unfold lvl isS isP;by_cases h:o=[43]\/o=[45]
 ·rw[z1z h];rcases h with h|h<;>simp[h]
 ·rw[z0z h];have c:o≠[43]:=fun e=>h (.inl e);have d:o≠[45]:=fun e=>h (.inr e);by_cases a:o=[42]\/o=[47]
  ·rw[z1z a];rcases a with a|a<;>simp[a]
  ·rw[z0z a];have f:o≠[42]:=fun e=>a (.inl e);have g:o≠[47]:=fun e=>a (.inr e);simp[c,d,f,g]
def yw:∀ (f r D:Nat),r<D->(frT f r D).length<=f:=by
 intro f;induction f with
 |zero=>intro r D _;simp[frT]
 | succ f ih=>
   intro r D h;unfold frT;split
   ·simp
   ·have a:10*r / D<10:=ij (by rw[DG];omega);have:=ih (10*r % D) D (IP _ om);rw[CU,Cs a];simp;omega
def XJ {n d:Int}(h:Jk n d):(deT n d).length<=17:=by
 have a:=h.rq;have i:=h.n0;have j:=a.d1;have k:=a.n2;unfold deT;have c:n.toNat / d.toNat<=1000000000:=AO4 om;have f:=Ks 9 (n.toNat / d.toNat) om;have g:=yw 6 (n.toNat % d.toNat) d.toNat (IP _ om);rw[CU];split
 ·simp;omega
 ·simp;omega
def Gi {s:By}:(par b s).length<=s.length+2:=by
 unfold par;cases b<;>simp
def NX {nm:By}(h:AP nm=true):nm.length<=30:=by
 unfold AP at h;rw[R2,R2]at h;exact z6z h.1.2
def Di {k m:Nat}(h:FW k m e):∀ g G4,k<=g->(K6 g G4 e).length+8<=50*m:=by
 induction h with
 | @num n d h=>
   intro g G4 l;obtain⟨g,rfl⟩:∃ x,g=x+1:=⟨g-1,om⟩
   refine j9 (il (Gi (b:=_) (s:=_)) 8) ?_;rw[z1z rfl];have:=XJ h;omega
 | @name nm f q h3=>
   intro g G4 l;obtain⟨g,rfl⟩:∃ x,g=x+1:=⟨g-1,om⟩
   refine j9 (il (Gi (b:=_) (s:=_)) 8) ?_;rw[z0z (by decide),z1z rfl];have:=NX f;omega
 | @bin k j m i o a b h ha hb iha ihb=>
   intro g G4 l;obtain⟨g,rfl⟩:∃ x,g=x+1:=⟨g-1,om⟩
   refine j9 (il (Gi (b:=_) (s:=_)) 8) ?_;have c:o≠K8/\o≠nmB/\¬ (o=Q7\/o=R4):=by rcases h with rfl|rfl|rfl|rfl<;>decide
   have p:o.length=1:=by rcases h with rfl|rfl|rfl|rfl<;>rfl
   rw[z0z c.1,z0z c.2.1];dsimp only;rw[z0z c.2.2];have f:=iha g (lvl o) om;have q:=ihb g (lvl o+1) om;simp only[CU,Ap,p];omega
 | @mm k j m i o a b h ha hb iha ihb=>
   intro g G4 l;obtain⟨g,rfl⟩:∃ x,g=x+1:=⟨g-1,om⟩
   refine j9 (il (Gi (b:=_) (s:=_)) 8) ?_;have c:o≠K8/\o≠nmB:=by rcases h with rfl|rfl<;>decide
   have p:o.length=3:=by rcases h with rfl|rfl<;>rfl
   rw[z0z c.1,z0z c.2];dsimp only;rw[z1z h];have f:=iha g 0 om;have q:=ihb g 0 om;simp only[CU,Ap,Jg,p];omega
def SV (f:row=str o::r) (g:row.length=5):Ev (gO 206 [.agg ⟨row⟩] Z) (fun r=>∃ Z',r=⟨false,.bool (isP o),Z'⟩/\Ext Z Z') ⟨⟩:=by
 have c:sub row 0 5=some row:=C9 om om;have d:sub row 0 1=some [str o]:=by subst f;rfl
 refine C8 Tryz.func206 rfl rfl ?_;unfold isP;cases a:decide (o=[42])<;>refine gS1 (aI c (aI d (aI a (a3N @D6 @D8 @Tryz.results206)))) ?_<;>exact⟨_,rfl,eX⟩
def VE (f:row=str o::r) (g:row.length=5):Ev (gO 207 [.agg ⟨row⟩] Z) (fun r=>∃ Z',r=⟨false,.bool (isS o),Z'⟩/\Ext Z Z') ⟨⟩:=by
 have c:sub row 0 5=some row:=C9 om om;have d:sub row 0 1=some [str o]:=by subst f;rfl
 refine C8 Tryz.func207 rfl rfl ?_;unfold isS;cases a:decide (o=[43])<;>refine gS1 (aI c (aI d (aI a (a3N @D6 @D8 @Tryz.results207)))) ?_<;>exact⟨_,rfl,eX⟩
def Fg (j:Nat) (e:Ex) (t:By):Prop:=∀ {Z:St}{row:List Value},j<=1000->P8 Z row e->Ev (gO 174 [.agg ⟨row⟩] Z) (fun r=>∃ Z',r=⟨false,str t,Z'⟩/\Ext Z Z') ⟨⟩
def NY {j:Nat}{t:By}(h:Fg j e t) (ht:t.length<=1000000)(g:j<=1000) (f:P8 Z row e):Ev (gO 208 [.agg ⟨row⟩,.bool b] Z) (fun r=>∃ Z',r=⟨false,str (par b t),Z'⟩/\Ext Z Z') ⟨⟩:=by
 have i:=f.len;have a:sub row 0 5=some row:=C9 om om;refine C8 Tryz.func208 rfl rfl ?_;have c:Ext Z (Z.new row):=eX;cases b with
 | true=>
   refine gS1 a ?_;refine(h g (f.mono c)).mono ?_;rintro r ⟨k,rfl,d⟩;refine gS1 @Tryz.results208 ?_;exact⟨_,rfl,c.trans d⟩
 | false=>
   refine gS1 a ?_;refine(h g (f.mono c)).mono ?_;rintro r ⟨k,rfl,d⟩;refine gS1 @Tryz.results208 ?_;exact⟨_,rfl,c.trans d⟩
def lf {a b:Ex}{H I:Nat}{A C:By}(h:o=Q7\/o=R4) (j:Fg H a A) (k:Fg I b C) (V:A.length<=1000000) (W:C.length<=1000000):Fg (H+I+1) (.mk o 0 0 [] [a,b]) (o++40::(A++44::32::(C++[41]))):=by
  intro Z row U M;obtain⟨v,S,rfl,s,-,q⟩:=M;obtain⟨B,off,sp,c,cells,r1,r2,rfl,l3,l4,s1,s2,x1,x2⟩:=Dh s q;have F:decide (o=[110,117,109])=false:=z4z (by rcases h with rfl|rfl<;>decide);have G:decide (o=[110,97,109,101])=false:=z4z (by rcases h with rfl|rfl<;>decide);have lo:o.length=3:=by rcases h with rfl|rfl<;>rfl
  refine C8 Tryz.func174 rfl rfl ?_;obtain⟨R,i⟩:∃ R:List Value,[str o,.int .i64 0,.int .i64 0,str [],.slice (some ⟨B,off,sp⟩) 2 c]=R:=⟨_,rfl⟩
  have q0:sub R 0 1=some [str o]:=by rw[<- i];rfl
  have m:sub R 4 1=some [.slice (some ⟨B,off,sp⟩) 2 c]:=by rw[<- i];rfl
  have K:sub R 0 5=some R:=by rw[<- i];rfl
  have X:R.length=5:=by rw[<- i];rfl
  rw[i];have l:Ext Z (Z.new R):=eX;have key:∀ x y:Bool,decide (o=[109,105,110])=x->decide (o=[109,97,120])=y->(x=true\/y=true):=by
   intro x y N O;rcases h with rfl|rfl
   ·left;rw[<- N];rfl
   ·right;rw[<- O];rfl
  cases u:decide (o=[109,105,110])with
  | true=>
    refine gS1 (aI q0 (aI m (aI K (aI F (aI G (aI u (aI l4 (aI s1 @j7)))))))) ?_;refine(j om (x1.mono l)).mono ?_;rintro r ⟨p,rfl,d⟩;have z:=d.n;simp only[G3]at z;have D:p.row Z.n=some R:=eT (d.row (by simp)) cL;have g:=l.trans d;have E:=eT (g.row l3) l4;refine gS1 (aI D (aI E (aI m s2))) ?_;refine(k om (x2.mono g)).mono ?_;rintro r ⟨L,rfl,f⟩;refine gS1 (aI (asx d) (aI (asx f) @Tryz.results174)) ?_
    try refine dW1 (aI (asx d) (asx f)) ?_
    try(refine gS1 @Tryz.results174 ?_;try exact⟨⟩)
    exact⟨_,by simp,g.trans f⟩
  |false=>
  cases J:decide (o=[109,97,120])with
  |false=>rcases key _ _ u J with h|h<;>cases h
  | true=>
    refine gS1 (aI q0 (aI m (aI K (aI F (aI G (aI u (aI J (aI l4 (aI s1 @j7))))))))) ?_;refine(j om (x1.mono l)).mono ?_;rintro r ⟨p,rfl,d⟩;have z:=d.n;simp only[G3]at z;have D:p.row Z.n=some R:=eT (d.row (by simp)) cL;have g:=l.trans d;have E:=eT (g.row l3) l4;refine gS1 (aI D (aI E (aI m s2))) ?_;refine(k om (x2.mono g)).mono ?_;rintro r ⟨L,rfl,f⟩;refine gS1 (aI (asx d) (aI (asx f) @Tryz.results174)) ?_
    try refine dW1 (aI (asx d) (asx f)) ?_
    try(refine gS1 @Tryz.results174 ?_;try exact⟨⟩)
    exact⟨_,by simp,g.trans f⟩
end
end Go.Proofs.T
namespace Go.Proofs.T
open Go Go.Ab
open Nat (reduceMul reduceEqDiff reduceAdd)
def fI {o:By}{a b:Ex}{O S:Nat}{m p:By}(h:o=[43]\/o=[45]\/o=[42]\/o=[47]) (F:Fg O a m) (G:Fg S b p) (l1:m.length<=1000000) (l2:p.length<=1000000) :
  Fg (O+S+1) (.mk o 0 0 [] [a,b]) (par (isS (opE a)&&isP o) m++32::(o++32::par (isS (opE b)||(isP (opE b)&&isP o)) p)):=by
  intro Z row hj he;obtain⟨v,B9,rfl,E,-,C⟩:=he;obtain⟨B,off,sp,c,cells,r1,r2,rfl,l3,l4,s1,s2,x1,x2⟩:=Dh E C;have d1:decide (o=[110,117,109])=false:=z4z (by rcases h with rfl|rfl|rfl|rfl<;>decide);have d2:decide (o=[110,97,109,101])=false:=z4z (by rcases h with rfl|rfl|rfl|rfl<;>decide);have m1:decide (o=[109,105,110])=false:=z4z (by rcases h with rfl|rfl|rfl|rfl<;>decide);have m2:decide (o=[109,97,120])=false:=z4z (by rcases h with rfl|rfl|rfl|rfl<;>decide);have lo:o.length=1:=by rcases h with rfl|rfl|rfl|rfl<;>rfl
  have kW:=x1.len;have V:=x2.len;have A:sub r1 0 5=some r1:=C9 om om;have k:sub r2 0 5=some r2:=C9 om om;refine C8 Tryz.func174 rfl rfl ?_;obtain⟨R,l⟩:∃ R:List Value,[str o,.int .i64 0,.int .i64 0,str [],.slice (some ⟨B,off,sp⟩) 2 c]=R:=⟨_,rfl⟩
  have q0:sub R 0 1=some [str o]:=by rw[<- l];rfl
  have q4:sub R 4 1=some [.slice (some ⟨B,off,sp⟩) 2 c]:=by rw[<- l];rfl
  have qf:sub R 0 5=some R:=by rw[<- l];rfl
  have ql:R.length=5:=by rw[<- l];rfl
  rw[l];have L:Ext Z (Z.new R):=eX;refine gS1 (aI q0 (aI q4 (aI qf (aI d1 (aI d2 (aI m1 (aI m2 (aI l4 (aI s1 (aI s2 @j7)))))))))) ?_;obtain⟨S0,g⟩:=nW ((((((Z.new R).new [str [],.int .i64 0,.int .i64 0,str [],.slice none 0 0] (some 32)).upd (Z.n+1) r1).new [str [],.int .i64 0,.int .i64 0,str [],.slice none 0 0] (some 32)).upd (Z.n+1+1) r2));rw[g];have L:Ext Z S0:=by rw[<- g];exact eX
  have n0:S0.n=Z.n+3:=by rw[<- g];rfl
  have W:Cl S0 [(Z.n,R),(Z.n+1,r1),(Z.n+1+1,r2)]:=⟨⟨om,by rw[<- g];exact cL⟩,⟨om,by rw[<- g];exact cL⟩,⟨om,by rw[<- g];exact cL⟩,trivial⟩
  obtain⟨U,a4,a3,a5,v1,D,al,rfl⟩:=x1.yv;obtain⟨o2,m2',k2',nn2,v2,hr2,bl,rfl⟩:=x2.yv;have a6:=Gi (b:=true) (s:=m);have a7:=Gi (b:=false) (s:=m);have a8:=Gi (b:=true) (s:=p);have a9:=Gi (b:=false) (s:=p);refine(SV l.symm ql).mono ?_;rintro r ⟨Z2,rfl,q⟩;have H:=W.ext q;have Y:=L.trans q;obtain⟨⟨-,f⟩,⟨-,e⟩,⟨-,d⟩,-⟩:=id H;have f:=A9 f;have e:=A9 e;have d:=A9 d;refine gS1 (aI e A) ?_;refine(VE D kW).mono ?_;rintro r ⟨Z3,rfl,u⟩;have I:=H.ext u;have E3:=Y.trans u;obtain⟨⟨-,f⟩,⟨-,e⟩,⟨-,d⟩,-⟩:=id I;have f:=A9 f;have e:=A9 e;have d:=A9 d;refine gS1 (aI d k) ?_;refine(VE hr2 V).mono ?_;rintro r ⟨Z4,rfl,y⟩;have J:=I.ext y;have E4:=E3.trans y;obtain⟨⟨-,f⟩,⟨-,e⟩,⟨-,d⟩,-⟩:=id J;have f:=A9 f;have e:=A9 e;have d:=A9 d;refine gS1 (aI d k) ?_;refine(SV hr2 V).mono ?_;rintro r ⟨Z5,rfl,z⟩;have K:=J.ext z;have M:=E4.trans z;obtain⟨⟨-,f⟩,⟨-,e⟩,⟨-,d⟩,-⟩:=id K;have f:=A9 f;have e:=A9 e;have d:=A9 d;obtain⟨b1,hb1⟩:=nW (isP o);obtain⟨b2,hb2⟩:=nW (isS U);obtain⟨b3,hb3⟩:=nW (isS o2);obtain⟨b4,hb4⟩:=nW (isP o2)
  cases b1<;>cases b2<;>(
   refine gS1 (aI hb1 (aI hb2 (aI hb3 (aI hb4 (aI e A))))) ?_;refine(NY F l1 om (x1.mono M)).mono ?_;rintro r ⟨Z6,rfl,i⟩;have X:=K.ext i;have N:=M.trans i;obtain⟨⟨-,f⟩,⟨-,e⟩,⟨-,d⟩,-⟩:=id X;have f:=A9 f;have e:=A9 e;have d:=A9 d
   cases b3<;>cases b4<;>(
    refine gS1 (aI hb1 (aI hb3 (aI hb4 (aI f (aI d (aI q0 k)))))) ?_;refine(NY G l2 om (x2.mono N)).mono ?_;rintro r ⟨Z7,rfl,j⟩;refine gS1 (aI (asx i) (aI (asx j) @Tryz.results174)) ?_
    try refine dW1 (aI (asx i) (asx j)) ?_
    try(refine gS1 @Tryz.results174 ?_;try exact⟨⟩)
    refine⟨_,?_,N.trans j⟩;show _=(⟨false,str (par (isS U&&isP o) m++32::(o++32::par (isS o2||(isP o2&&isP o)) p)),_⟩:CR)
    rw[hb1,hb2,hb3,hb4];simp))
def mU {k m:Nat}{e:Ex}(h:FW k m e):∀ g,k<=g->m<=1000->Fg m e (K6 g 0 e):=by
 induction h with
 | @num n d h=>
   intro g q _ Z row p c;obtain⟨g,rfl⟩:∃ x,g=x+1:=⟨g-1,om⟩
   obtain⟨v,s,rfl,-,-,-⟩:=c;have f:K6 (g+1) 0 (.mk K8 n d [] [])=deT n d:=rfl;rw[f];refine C8 Tryz.func174 rfl rfl ?_;simp(maxSteps:=8000000) (disch:=first|exact dS|fail) only[↓bD,bW,reduceMul,reduceEqDiff,reduceAdd,Nat.reduceBEq,reduceIte,Option.isNone_none,K8];refine(aJ h.rq h.n0 h.d6).mono ?_;rintro r ⟨E,rfl,A⟩;refine gS1 @Tryz.results174 ?_;exact⟨_,rfl,Ext.trans (eX) A⟩
 | @name nm h h1 h2=>
   intro g q _ Z row p c;obtain⟨g,rfl⟩:∃ x,g=x+1:=⟨g-1,om⟩
   obtain⟨v,s,rfl,-,-,-⟩:=c;have u:decide (([110,97,109,101]:By)=[110,117,109])=false:=by decide
   have f:K6 (g+1) 0 (.mk nmB 0 0 nm [])=nm:=rfl;rw[f];refine C8 Tryz.func174 rfl rfl ?_;simp(maxSteps:=8000000) (disch:=first|exact dS|fail) only[↓bD,bW,reduceMul,reduceEqDiff,reduceAdd,Nat.reduceBEq,reduceIte,Option.isNone_none,nmB,u,Tryz.results174];exact⟨_,rfl,eX⟩
 | @bin k j m i o a b h ha hb iha ihb=>
   intro g q B;obtain⟨g,rfl⟩:∃ x,g=x+1:=⟨g-1,om⟩
   have l:o≠K8/\o≠nmB/\¬ (o=Q7\/o=R4):=by rcases h with rfl|rfl|rfl|rfl<;>decide
   have C:=Di ha g 0 om;have D:=Di hb g 0 om;have key:Fg (m+i+1) (.mk o 0 0 [] [a,b]) (par (isS (opE a)&&isP o) (K6 g 0 a)++32::(o++32::par (isS (opE b)||(isP (opE b)&&isP o)) (K6 g 0 b))):=fun{_ _} p c=>fI h (iha g om om) (ihb g om om) om om p c;have F:=ha.pos;have G:=hb.pos;obtain⟨g,rfl⟩:∃ x,g=x+1:=⟨g-1,om⟩
   have f:K6 (g+1+1) 0 (.mk o 0 0 [] [a,b])=K6 (g+1) (lvl o) a++32::(o++32::K6 (g+1) (lvl o+1) b):=by
    show par (decide (lvl o<0)) (if _ then _ else _)=_;rw[z0z l.1,z0z l.2.1];dsimp only;rw[z0z l.2.2,show decide (lvl o<0)=false by simp];rfl
   rw[f,Ze (G4:=lvl o),Ze (G4:=lvl o+1)];have y:decide (lvl (opE a)<lvl o)=(isS (opE a)&&isP o):=by
    rcases h with rfl|rfl|rfl|rfl
    ·show decide (lvl (opE a)<0)=_;simp[isP]
    ·show decide (lvl (opE a)<0)=_;simp[isP]
    ·show decide (lvl (opE a)<1)=_;rw[Ql];simp[isP]
    ·show decide (lvl (opE a)<1)=_;rw[Ql];simp[isP]
   have z:decide (lvl (opE b)<lvl o+1)=(isS (opE b)||(isP (opE b)&&isP o)):=by
    rcases h with rfl|rfl|rfl|rfl
    ·show decide (lvl (opE b)<1)=_;rw[Ql];simp[isP]
    ·show decide (lvl (opE b)<1)=_;rw[Ql];simp[isP]
    ·show decide (lvl (opE b)<2)=_;rw[ig];simp[isP]
    ·show decide (lvl (opE b)<2)=_;rw[ig];simp[isP]
   rw[y,z];exact @key
 | @mm k j m i o a b h ha hb iha ihb=>
   intro g q B;obtain⟨g,rfl⟩:∃ x,g=x+1:=⟨g-1,om⟩
   have l:o≠K8/\o≠nmB:=by rcases h with rfl|rfl<;>decide
   have C:=Di ha g 0 om;have D:=Di hb g 0 om;have key:Fg (m+i+1) (.mk o 0 0 [] [a,b]) (o++40::(K6 g 0 a++44::32::(K6 g 0 b++[41]))):=fun{_ _} p c=>lf h (iha g om om) (ihb g om om) om om p c;have f:K6 (g+1) 0 (.mk o 0 0 [] [a,b])=o++40::(K6 g 0 a++44::32::(K6 g 0 b++[41])):=by
    show par (decide (lvl o<0)) (if _ then _ else _)=_;rw[z0z l.1,z0z l.2];dsimp only;rw[z1z h,show decide (lvl o<0)=false by simp];rfl
   rw[f];exact @key
end Go.Proofs.T
namespace Go.Proofs.T
open Go Go.Ab
inductive LM where
 |GG (w:By)
 |lot (a b:Nat)
 |Dn (w:By) (kd lo hi:Nat) (less:Bool)
 |req (w r:By) (n:Nat)
 |PO (a b:Nat)
 |fml (e:Ex)
 |tie (ts:List By)
 |AE (n:Nat)
 |combo (cs:List Nat)
 |U6 (n:Nat)
 |times (a b c d e:Nat)
def LM.word:LM->By
 | .GG _=>[116,101,110,100,101,114]
 | .lot .. =>[108,111,116]
 | .Dn .. =>[99,114,105,116,101,114,105,111,110]
 | .req .. =>[114,101,113,117,105,114,101]
 | .PO .. =>[112,114,105,99,101]
 | .fml _=>[102,111,114,109,117,108,97]
 | .tie _=>[116,105,101]
 | .AE _=>[109,111,115,116]
 | .combo _=>[99,111,109,98,111]
 | .U6 _=>[98,117,100,103,101,116]
 | .times .. =>[116,105,109,101,115]
def LM.txt:LM->List By
 | .GG w=>[w]
 | .lot a b=>[dcN a,AK9,dcN b]
 | .Dn w kd lo hi less=>[w,if kd=2 then pA else pB,dcN lo,dcN hi]++if less=true then[AL0]else[]
 | .req w r n=>[w,r,dcN n]
 | .PO a b=>[dcN a,dcN b]
 | .fml _=>[]
 | .tie ts=>ts
 | .AE n=>[dcN n]
 | .combo cs=>cs.map dcN
 | .U6 n=>[dcN n]
 | .times a b c d e=>[dcN a,dcN b,dcN c,dcN d,dcN e]
def Le9 (n:Nat):Prop:=n<=1000000000
def LM.once:LM->Bool
 | .lot .. =>false
 | .Dn .. =>false
 | .req .. =>false
 | .combo _=>false
 |_=>true
def LM.Ok0:LM->Prop
 | .GG w=>AP w=true
 | .lot a b=>1<=a/\Le9 a/\Le9 b
 | .Dn w kd lo hi _=>FH w=true/\(kd=1\/kd=2)/\Le9 lo/\Le9 hi
 | .req w r n=>FH w=true/\([[60,61],[62,61]]:List By).contains r=true/\Le9 n
 | .PO a b=>Le9 a/\Le9 b
 | .fml e=>∃ k m,FW k m e/\k<=12/\m<=60
 | .tie ts=>ts≠[]/\(∀ w∈ts,(w=J8\/FH w=true))/\ts.Nodup/\ts.length<=12
 | .AE n=>Le9 n
 | .combo cs=>2<=cs.length/\(∀ n∈cs,1<=n/\n<=1000000000)/\cs.Nodup/\cs.length<=12
 | .U6 n=>Le9 n
 | .times a b c d e=>Le9 a/\Le9 b/\Le9 c/\Le9 d/\Le9 e
def AW0:LM->Option Nat
 | .lot a _=>some a
 |_=>none
def AW1:LM->Option By
 | .Dn w .. =>some w
 |_=>none
def Aq4:LM->Option Unit
 | .req .. =>some ()
 |_=>none
def Aq5:LM->Option Unit
 | .combo _=>some ()
 |_=>none
structure BU0 (ms:List LM):Prop where
 each:∀ m∈ms,m.Ok0
 ids:(ms.filterMap AW0).Nodup
 AG:(ms.filterMap AW0).length<=12
 crs:(ms.filterMap AW1).Nodup
 G7:(ms.filterMap AW1).length<=12
 reqs:(ms.filterMap Aq4).length<=24
 K7:(ms.filterMap Aq5).length<=12
 once:ms.Pairwise fun a b=>a.word=b.word->a.once=false
structure Made (ms:List LM) (T:Tn):Prop where
 AG:T.AG.map Lot.id=(ms.filterMap AW0).map fun n:Nat=>(n:Int)
 G7:T.G7.map CL.name=ms.filterMap AW1
 reqs:T.reqs.length=(ms.filterMap Aq4).length
 K7:T.K7.length=(ms.filterMap Aq5).length
 AQ:(∀ ts,LM.tie ts∉ms)->T.AQ=[]
def under (a:List By):By:=(a.map fun l=>l++[10]).flatten
def spJ:List By->By
 | []=>[]
 | [w]=>w
 |w::ws=>w++32::spJ ws
def Dc:LM->By
 | .fml e=>(LM.fml e).word++32::K6 12 0 e
 |m=>spJ (m.word::m.txt)
def Aw2 (T:Tn):List LM :=
 .GG T.name::(T.AG.map (fun l=>LM.lot l.id.toNat l.AE.toNat)++(T.G7.map (fun c=>LM.Dn c.name c.kind.toNat c.low.toNat c.high.toNat c.less)++(T.reqs.map (fun r=>LM.req r.name r.rel r.value.toNat) ++
  (.PO T.low.toNat T.high.toNat:: .fml T.f::((if T.AQ=[]then[]else[.tie T.AQ])++((if T.AE=0 then[]else[.AE T.AE.toNat])++(T.K7.map (fun c=>LM.combo (c.map Int.toNat)) ++
    [.U6 T.U6.toNat,.times T.t.q.toNat T.t.b.toNat T.t.g.toNat T.t.p.toNat T.t.s.toNat])))))))
def JN (T:Tn):By:=under ((Aw2 T).map Dc)
def In9 (n:Int):Prop:=0<=n/\n<=1000000000
structure Iq (T:Tn):Prop where
 name:AP T.name=true
 AG:T.AG.length<=12
 BC8:T.AG≠[]
 lot:∀ l∈T.AG,1<=l.id/\l.id<=1000000000/\In9 l.AE
 ids:(T.AG.map Lot.id).Nodup
 G7:T.G7.length<=12
 Dn:∀ c∈T.G7,FH c.name=true/\(c.kind=1\/c.kind=2)/\In9 c.low/\In9 c.high
 crs:(T.G7.map CL.name).Nodup
 reqs:T.reqs.length<=24
 req:∀ r∈T.reqs,FH r.name=true/\([[60,61],[62,61]]:List By).contains r.rel=true/\In9 r.value
 low:In9 T.low
 high:In9 T.high
 f:∃ k m,FW k m T.f/\k<=12/\m<=60
 AQ:T.AQ.length<=12
 tie:∀ w∈T.AQ,(w=J8\/FH w=true)
 tnd:T.AQ.Nodup
 AE:In9 T.AE
 K7:T.K7.length<=12
 combo:∀ c∈T.K7,2<=c.length/\c.length<=12/\c.Nodup/\∀ n∈c,1<=n/\n<=1000000000
 U6:In9 T.U6
 t:In9 T.t.q/\In9 T.t.b/\In9 T.t.g/\In9 T.t.p/\In9 T.t.s


end Go.Proofs.T
