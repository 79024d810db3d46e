/- A AL Aa was printed is read as it was. -/
import Derived.Test.YtbcanmagihejhaaGreatDoorRA
set_option linter.unusedSimpArgs false
set_option linter.unusedVariables false
set_option linter.defProp false
set_option maxHeartbeats 32000000
set_option maxRecDepth 100000
namespace Go.Proofs.T
open Go Go.Ab
def At (A7:List Tok) (k:Nat) (ts post:List By):Prop:=(A7.map Prod.fst).drop k=ts++post
def At.head {A7:List Tok}{k:Nat}{t:By}{ts post:List By}(h:At A7 k (t::ts) post):(E8 A7 k).1=t:=by
 have a:((A7.map Prod.fst).drop k)[0]? =some t:=by rw[show _=_ from h];rfl
 rw[List.getElem?_drop,Be,List.getElem?_map]at a;obtain⟨x,b,c⟩:=sC.1 a;unfold E8;rw[List.getD_eq_getElem?_getD,b];exact c
def At.skip {A7:List Tok}{k:Nat}{ts us post:List By}(h:At A7 k (ts++us) post):At A7 (k+ts.length) us post:=by
 unfold At at *;rw[<- Ph,h,DT,List.drop_left]
def At.pre {A7:List Tok}{k:Nat}{ts us post:List By}(h:At A7 k (ts++us) post):At A7 k ts (us++post):=by
 unfold At at *;rw[h,DT]
def At.next {A7:List Tok}{k:Nat}{t:By}{us post:List By}(h:At A7 k (t::us) post):At A7 (k+1) us post:=At.skip (ts:=[t]) h
def At.lt {A7:List Tok}{k:Nat}{t:By}{us post:List By}(h:At A7 k (t::us) post):k+us.length<A7.length:=by
 have:=congrArg List.length (show _=_ from h);simp at this;omega
def At.post {A7:List Tok}{k:Nat}{ts post:List By}(h:At A7 k ts post):(E8 A7 (k+ts.length)).1=post.getD 0 []:=by
 have a:(A7.map Prod.fst).drop (k+ts.length)=post:=by
  have:=At.skip (ts:=ts) (us:=[]) (post:=post) (k:=k) (A7:=A7) (by rw[Ca];exact h);exact this
 cases b:post with
 | nil=>
   rw[b]at a;have c:A7.length<=k+ts.length:=by simpa using a
   unfold E8;rw[List.getD_eq_getElem?_getD,List.getElem?_eq_none c];rfl
 | cons t us=>
   have:At A7 (k+ts.length) (t::us) []:=by unfold At;rw[a,b,Ca]
   rw[this.head];rfl
section
variable {A7:List Tok}
noncomputable def Fa (A7:List Tok) (a:Nat):Nat->Nat->Except Er Fx:=Hy (PA A7 a) A7
noncomputable def Tm (A7:List Tok) (a:Nat):Nat->Nat->Except Er Fx:=fun k p=>Eh (Fa A7 a) [42,47] A7 k p
def NJ {a k p:Nat}:PA A7 (a+1) k p=Eh (Tm A7 a) [43,45] A7 k p:=rfl
def Q2 (A7:List Tok) (a g:Nat) (e:Ex) (d m:Nat):Prop:=∀ pos p post,At A7 pos (X0 g 2 e) post->Fa A7 a pos p= .ok (e,d,pos+(X0 g 2 e).length,p+m)
def Q1 (A7:List Tok) (a g:Nat) (e:Ex) (d m:Nat):Prop:=∀ pos p post,At A7 pos (X0 g 1 e) post->Tm A7 a pos p=Ce (Fa A7 a) [42,47] A7 (A7.length-(pos+(X0 g 1 e).length)) (e,d,pos+(X0 g 1 e).length,p+m)
def Q0 (A7:List Tok) (a g:Nat) (e:Ex) (d m:Nat):Prop:=∀ pos p post,At A7 pos (X0 g 0 e) post->opB [42,47] (post.getD 0 [])=false->Eh (Tm A7 a) [43,45] A7 pos p=Ce (Tm A7 a) [43,45] A7 (A7.length-(pos+(X0 g 0 e).length)) (e,d,pos+(X0 g 0 e).length,p+m)
def FI {A:Nat->Nat->Except Er Fx}{a:By}{f:Nat}{e:Ex}{d k p:Nat}(h:opB a (E8 A7 k).1=false):Ce A a A7 f (e,d,k,p)= .ok (e,d,k,p):=by
 cases f with
 |zero=>rfl
 |succ f=>rw[Am,z0z (by rw[h];simp)]
def NK {a g:Nat}{e:Ex}{d m:Nat}(ht:X0 g 1 e=X0 g 2 e) (h:Q2 A7 a g e d m):Q1 A7 a g e d m:=by
 intro pos p post b;rw[ht]at b ⊢;unfold Tm Eh;rw[h pos p post b,F0]
def NL {a g:Nat}{e:Ex}{d m:Nat}(ht:X0 g 0 e=X0 g 1 e) (h:Q1 A7 a g e d m):Q0 A7 a g e d m:=by
 intro pos p post b f;rw[ht]at b ⊢;have c:=h pos p post b;rw[FI (by rw[b.post];exact f)]at c;show V6 (Tm A7 a pos p) _=_;rw[c,F0]
def AF0 {a:Nat}(k p:Nat):Bd k p (Fa A7 a k p):=KI (Jz _) k p
def An8 {a:Nat}(k p:Nat):Bd k p (Tm A7 a k p):=Hz AF0 k p
def SE {A:Nat->Nat->Except Er Fx}{g op:By}{a b:Ex}{l m c i r s:Nat}(n:∀ k p,Bd k p (A k p)) (q:c<A7.length) (z:(E8 A7 c).1=op) (j:opB g op=true) (o:A (c+1) r= .ok (b,m,i,s)) (v:i<=A7.length) :
  Ce A g A7 (A7.length-c) (a,l,c,r)=Ce A g A7 (A7.length-i) (.mk op 0 0 [] [a,b],1+max l m,i,s+1):=by
 obtain⟨f,u⟩:∃ f,A7.length-c=f+1:=⟨A7.length-c-1,om⟩
 rw[u,Am,z,z1z j,o,F0]
 try dsimp only
 have y:=(n _ _ _ _ _ _ o).1;exact Oq (k0:=0) (fun k p _ e d k' B h=>(n k p e d k' B h).1) _ _ _ _ _ _ (Af _) om nL om (fun k q=>gz q)
def Gq {g G7:Nat}{o:By}{a b:Ex}(h:o=[43]\/o=[45]\/o=[42]\/o=[47]):X0 (g+1) G7 (.mk o 0 0 [] [a,b])=Nu (decide (lvl o<G7)) (X0 g (lvl o) a++o::X0 g (lvl o+1) b):=by
 have c:o≠T4/\o≠nmB/\¬ (o=W9\/o=Y4):=by rcases h with rfl|rfl|rfl|rfl<;>decide
 show Nu _ (if _ then _ else _)=_;rw[z0z c.1,z0z c.2.1]
 try dsimp only
 rw[z0z c.2.2]
def WH {g G7:Nat}{o:By}{a b:Ex}(h:o=W9\/o=Y4) (e:G7<=2):X0 (g+1) G7 (.mk o 0 0 [] [a,b])=o::[40]::(X0 g 0 a++[44]::(X0 g 0 b++[[41]])):=by
 have c:o≠T4/\o≠nmB:=by rcases h with rfl|rfl<;>decide
 have d:lvl o=2:=by rcases h with rfl|rfl<;>rfl
 show Nu _ (if _ then _ else _)=_;rw[z0z c.1,z0z c.2]
 try dsimp only
 rw[z1z h,d];unfold Nu;rw[z0z (by simp;omega)]
def sk {b g:Nat}{e:Ex}{d m:Nat}(ht:X0 g 2 e=[40]::(X0 g 0 e++[[41]])) (h:Q0 A7 b g e d m):Q2 A7 (b+1) g e d m:=by
 intro pos p post a;rw[ht]at a ⊢;have j:=a.head;have c:=a.next;have f:=h (pos+1) p ([[41]]++post) c.pre (by rfl);have i:=c.skip.head;rw[FI (by rw[i];rfl)]at f;show Hy _ A7 pos p=_;unfold Hy;rw[j,z0z (by decide),z1z rfl,NJ,f,F0]
 try dsimp only
 unfold Dg;rw[z1z i,F0];simp;omega
def yX {k m:Nat}{e:Ex}(h:FW k m e):∀ (g fu:Nat),k<=g->(k<=fu->Q0 A7 fu g e k m)/\(k+1<=fu->Q1 A7 fu g e k m/\Q2 A7 fu g e k m):=by
 induction h with
 | @num n d h=>
   intro g fu J;obtain⟨g,rfl⟩:∃ x,g=x+1:=⟨g-1,om⟩
   have ht:∀ G7,G7<=2->X0 (g+1) G7 (.mk T4 n d [] [])=[deT n d]:=by
    intro G7 u;show Nu _ (if _ then _ else _)=_;rw[z1z rfl];unfold Nu;rw[z0z (by rw[show lvl T4=2 from rfl];simp;omega)]
   have s:Q2 A7 fu (g+1) (.mk T4 n d [] []) 1 1:=by
    intro pos p post l;rw[ht 2 om]at l ⊢;show Hy _ A7 pos p=_;unfold Hy;have I:GB J3 (E8 A7 pos).1=true:=by
     rw[l.head];rcases h.lex with⟨c,w,e,q⟩|⟨c,w,x,v,e,q,_⟩
     ·rw[e];rw[MZ,T1]at q;exact q.1
     ·rw[e];rw[MZ,T1]at q;exact q.1
    rw[z1z I,h.dec A7 pos p l.head];rfl
   have q:=NK ((ht 1 om).trans (ht 2 om).symm) s;exact⟨fun _=>NL ((ht 0 om).trans (ht 1 om).symm) q,fun _=>⟨q,s⟩⟩
 | @name nm q1 q2 q3=>
   intro g fu J;obtain⟨g,rfl⟩:∃ x,g=x+1:=⟨g-1,om⟩
   have ht:∀ G7,G7<=2->X0 (g+1) G7 (.mk nmB 0 0 nm [])=[nm]:=by
    intro G7 u;show Nu _ (if _ then _ else _)=_;rw[z0z (by decide),z1z rfl];unfold Nu;rw[z0z (by rw[show lvl nmB=2 from rfl];simp;omega)]
   have s:Q2 A7 fu (g+1) (.mk nmB 0 0 nm []) 1 1:=by
    intro pos p post l;rw[ht 2 om]at l ⊢;show Hy _ A7 pos p=_;unfold Hy;rw[l.head];obtain⟨c,w,e,c1,c2⟩:=Ls q1;have I:GB J3 nm=false:=by
     rw[e];cases F:on J3 c with
     |false=>exact F
     |true=>rw[VQ F]at c1;cases c1
    have L:nm≠[40]:=by rintro rfl;cases e;cases c1
    rw[z0z (by rw[I];simp),z0z L,z0z (by simp[q2,q3]),z1z q1];rfl
   have q:=NK ((ht 1 om).trans (ht 2 om).symm) s;exact⟨fun _=>NL ((ht 0 om).trans (ht 1 om).symm) q,fun _=>⟨q,s⟩⟩
 | @bin k j m i o a b h ha hb iha ihb=>
   intro g fu J;obtain⟨g,rfl⟩:∃ x,g=x+1:=⟨g-1,om⟩
   have key:lvl o=0/\opB [43,45] o=true\/lvl o=1/\opB [42,47] o=true:=by
    rcases h with rfl|rfl|rfl|rfl
    ·exact .inl ⟨rfl,by rfl⟩
    ·exact .inl ⟨rfl,by rfl⟩
    ·exact .inr ⟨rfl,by rfl⟩
    ·exact .inr ⟨rfl,by rfl⟩
   rcases key with⟨u,A⟩|⟨u,A⟩
   ·have D:X0 (g+1) 0 (.mk o 0 0 [] [a,b])=X0 g 0 a++o::X0 g 1 b:=by rw[Gq h,u];rfl
    have G:X0 (g+1) 1 (.mk o 0 0 [] [a,b])=[40]::(X0 g 0 a++o::X0 g 1 b++[[41]]):=by rw[Gq h,u];rfl
    have H:X0 (g+1) 2 (.mk o 0 0 [] [a,b])=[40]::(X0 g 0 a++o::X0 g 1 b++[[41]]):=by rw[Gq h,u];rfl
    have C:∀ fu,1+max k j<=fu->Q0 A7 fu (g+1) (.mk o 0 0 [] [a,b]) (1+max k j) (m+i+1):=by
     intro fu f pos p post l L;rw[D]at l ⊢;have B:=(iha g fu om).1 om pos p _ l.pre (by
      rcases h with rfl|rfl|rfl|rfl<;>first|rfl|(cases u))
     have r:=l.skip;have z:=((ihb g fu om).2 om).1 (pos+(X0 g 0 a).length+1) (p+m) post r.next;rw[FI (by rw[r.next.post];exact L)]at z;have K:=r.lt;rw[B,SE An8 om r.head A z om];simp only[W4,AG];congr 1
     ·omega
     ·simp only[Prod.mk.injEq,true_and];omega
    refine⟨C fu,fun f=>?_⟩;obtain⟨fu,rfl⟩:∃ x,fu=x+1:=⟨fu-1,om⟩
    have s:=sk (by rw[H,D]) (C fu om);exact⟨NK (by rw[G,H]) s,s⟩
   ·have D:X0 (g+1) 0 (.mk o 0 0 [] [a,b])=X0 g 1 a++o::X0 g 2 b:=by rw[Gq h,u];rfl
    have G:X0 (g+1) 1 (.mk o 0 0 [] [a,b])=X0 g 1 a++o::X0 g 2 b:=by rw[Gq h,u];rfl
    have H:X0 (g+1) 2 (.mk o 0 0 [] [a,b])=[40]::(X0 g 1 a++o::X0 g 2 b++[[41]]):=by rw[Gq h,u];rfl
    have q:∀ fu,1+max k j<=fu->Q1 A7 fu (g+1) (.mk o 0 0 [] [a,b]) (1+max k j) (m+i+1):=by
     intro fu f pos p post l;rw[G]at l ⊢;have B:=((iha g fu om).2 om).1 pos p _ l.pre;have r:=l.skip;have z:=((ihb g fu om).2 om).2 (pos+(X0 g 1 a).length+1) (p+m) post r.next;have K:=r.lt;rw[B,SE AF0 om r.head A z om];simp only[W4,AG];congr 1
     ·omega
     ·simp only[Prod.mk.injEq,true_and];omega
    have C:∀ fu,1+max k j<=fu->Q0 A7 fu (g+1) (.mk o 0 0 [] [a,b]) (1+max k j) (m+i+1):=fun fu f=>NL (by rw[D,G]) (q fu f);refine⟨C fu,fun f=>?_⟩;obtain⟨fu,rfl⟩:∃ x,fu=x+1:=⟨fu-1,om⟩
    exact⟨q _ om,sk (by rw[H,D]) (C fu om)⟩
 | @mm k j m i o a b h ha hb iha ihb=>
   intro g fu J;obtain⟨g,rfl⟩:∃ x,g=x+1:=⟨g-1,om⟩
   have s:1+max k j<=fu->Q2 A7 fu (g+1) (.mk o 0 0 [] [a,b]) (1+max k j) (m+i+1):=by
    intro f pos p post l;obtain⟨fu,rfl⟩:∃ x,fu=x+1:=⟨fu-1,om⟩
    rw[WH h om]at l ⊢;have B:=l.head;have Q:=l.next.head;have M:=l.next.next;have z:=(iha g fu om).1 om (pos+1+1) p _ M.pre (by rfl);have E:=M.skip;rw[FI (by rw[E.head];rfl)]at z;have O:=(ihb g fu om).1 om (pos+1+1+(X0 g 0 a).length+1) (p+m) _ E.next.pre (by rfl);have N:=E.next.skip;rw[FI (by rw[N.head];rfl)]at O;show Hy _ A7 pos p=_;unfold Hy;rw[B,z0z (by rcases h with rfl|rfl<;>decide),z0z (by rcases h with rfl|rfl<;>decide),z1z (by rcases h with rfl|rfl<;>decide)];unfold Dg;rw[z1z Q,F0]
    try dsimp only
    rw[NJ,z,F0]
    try dsimp only
    rw[z1z E.head,F0]
    try dsimp only
    rw[NJ,O,F0]
    try dsimp only
    rw[z1z N.head,F0];simp;omega
   have ht:∀ x y,x<=2->y<=2->X0 (g+1) x (.mk o 0 0 [] [a,b])=X0 (g+1) y (.mk o 0 0 [] [a,b]):=fun x y F R=>by rw[WH h F,WH h R]
   have q:=fun f=>NK (ht 1 2 om om) (s f);exact⟨fun f=>NL (ht 0 1 om om) (q f),fun f=>⟨q om,s om⟩⟩
def AT1 {k m:Nat}{e:Ex}(h:FW k m e):∀ g G7,k<=g->k<=(X0 g G7 e).length:=by
 have c:∀ (b:Bool) (ts:List By),ts.length<=(Nu b ts).length:=fun b ts=>by unfold Nu;split<;>simp;omega
 induction h with
 | @num n d h=>
   intro g G7 f;obtain⟨g,rfl⟩:∃ x,g=x+1:=⟨g-1,om⟩
   refine W5 ?_ (c _ _);rw[z1z rfl];simp
 | @name nm q1 q2 q3=>
   intro g G7 f;obtain⟨g,rfl⟩:∃ x,g=x+1:=⟨g-1,om⟩
   refine W5 ?_ (c _ _);rw[z0z (by decide),z1z rfl];simp
 | @bin k j m i o a b h ha hb iha ihb=>
   intro g G7 f;obtain⟨g,rfl⟩:∃ x,g=x+1:=⟨g-1,om⟩
   rw[Gq h];refine W5 ?_ (c _ _);have:=iha g (lvl o) om;have:=ihb g (lvl o+1) om;simp;omega
 | @mm k j m i o a b h ha hb iha ihb=>
   intro g G7 f;obtain⟨g,rfl⟩:∃ x,g=x+1:=⟨g-1,om⟩
   have l:o≠T4/\o≠nmB:=by rcases h with rfl|rfl<;>decide
   refine W5 ?_ (c _ _);rw[z0z l.1,z0z l.2]
   try dsimp only
   rw[z1z h];have:=iha g 0 om;have:=ihb g 0 om;simp;omega
def iP {k m g:Nat}{e:Ex}(h:FW k m e) (d:k<=g) (i:k<=12) (j:m<=60) (ht:A7.map Prod.fst=X0 g 0 e++[[]]):JO A7= .ok e:=by
 have f:A7.length=(X0 g 0 e).length+1:=by have:=congrArg List.length ht;simpa using this
 have b:=AT1 h g 0 d;have a:At A7 0 (X0 g 0 e) [[]]:=ht;have c:=(yX (A7:=A7) h g (X0 g 0 e).length d).1 b 0 0 [[]] a (by rfl);rw[FI (by rw[a.post];rfl)]at c;unfold JO;rw[f,NJ,c,F0]
 try dsimp only
 rw[z1z (by rw[a.post];rfl),z0z (by simp;omega)]
end
section
variable {n a b:Nat}{w:By}{ts:List By}
def xM:∀ (f g n:Nat),n<f->n<g->dcF f n=dcF g n:=by
 intro f;induction f with
 |zero=>intro g n h;omega
 | succ f ih=>
   intro g n c d;cases g with
   |zero=>omega
   | succ g=>
     show(if n<10 then[dgt n]else dcF f (n / 10)++[dgt n])=(if n<10 then[dgt n]else dcF g (n / 10)++[dgt n])
     by_cases h:n<10
     ·rw[z1z h,z1z h]
     ·rw[z0z h,z0z h,ih g (n / 10) om om]
def CY (h:n<10):dcN n=[dgt n]:=by
 show(if n<10 then[dgt n]else _)=_;rw[z1z h]
def Mu (h:¬ n<10):dcN n=dcN (n / 10)++[dgt n]:=by
 show(if n<10 then[dgt n]else dcF n (n / 10)++[dgt n])=dcF (n / 10+1) (n / 10)++[dgt n]
 rw[z0z h,xM n (n / 10+1) (n / 10) om om]
def Ia:∀ (k n:Nat),n<10 ^ (k+1)->(dcN n).length<=k+1:=by
 intro k;induction k with
 |zero=>intro n h;rw[CY om];simp
 | succ k ih=>
   intro n h;by_cases c:n<10
   ·rw[CY c];simp
   ·rw[Mu c];have:=ih (n / 10) (by rw[Gd]at h;omega);simp;omega
def NA:(dgt n).toNat=48+n % 10:=by
 unfold dgt;rw[UInt8.toNat_ofNat'];omega
def Vo:on J3 (dgt n)=true:=by
 unfold on J3;rw[NA];have c:decide (((48+n % 10:Nat):Int)<48)=false:=by rw[GF];omega
 have d:decide ((57:Int)<((48+n % 10:Nat):Int))=false:=by rw[GF];omega
 rw[c,d];rfl
def NB:∀ (f n:Nat),n<f->(dcN n).all (on J3)=true/\AZ (dcN n)=n/\∃ c w,dcN n=c::w/\(c=48->n=0/\w=[]):=by
 intro f;induction f with
 |zero=>intro n h;omega
 | succ f ih=>
   intro n l;by_cases d:n<10
   ·rw[CY d];refine⟨by rw[MZ,Vo];rfl,?_,_,_,rfl,fun h=>⟨?_,rfl⟩⟩
    ·show 10*0+((dgt n).toNat-48)=n;rw[NA];omega
    ·have:=congrArg UInt8.toNat h;rw[NA]at this;change 48+n % 10=48 at this;omega
   ·obtain⟨e,g,c,w,i,j⟩:=ih (n / 10) om;rw[Mu d];refine⟨by rw[qj,e,MZ,Vo];rfl,?_,c,w++[dgt n],by rw[i];rfl,fun h=>?_⟩
    ·have:AZ (dcN (n / 10)++[dgt n])=10*AZ (dcN (n / 10))+((dgt n).toNat-48):=by
      unfold AZ;rw[fG];rfl
     rw[this,g,NA];omega
    ·have:=(j h).1;omega
def gJ (n:Nat):JD (dcN n)=true/\AZ (dcN n)=n:=by
 obtain⟨d,g,c,w,f,h⟩:=NB (n+1) n (JQ _);refine⟨?_,g⟩;unfold JD;rw[d,f];have i:on J3 c=true:=by rw[f,MZ,T1]at d;exact d.1
 show(on J3 c&&true&&AB7 (c::w))=true;rw[i];cases w with
 |nil=>rfl
 | cons x v=>
   show(true&&true&& !decide (c=48))=true;have:decide (c=48)=false:=z4z fun e=>by cases(h e).2
   rw[this];rfl
def Vd (n:Nat):dcN n≠[]:=by
 obtain⟨-,-,c,w,h,-⟩:=NB (n+1) n (JQ _);rw[h];simp
section
variable {A7:List Tok}{k:Nat}{T:Tn}
def Rg {G7:Int}{nw:Int->Bool}(h:(E8 A7 k).1=dcN n) (c:n<=1000000000) (d:G7<=n) (e:nw n=true):rdNum A7 G7 nw k= .ok (n,k+1):=by
 obtain⟨a,b⟩:=gJ n;unfold rdNum MP;rw[h,z0z (by rw[a];simp),b,z1z ⟨c,d⟩,z1z e];rfl
def o9 (h:(E8 A7 k).1=dcN n) (c:n<=1000000000):W3 A7 k= .ok (n,k+1):=Rg h c om rfl
def Rh {c:List By}(h:(E8 A7 k).1=w) (d:c.contains w=true):Ha A7 c k= .ok (w,k+1):=by
 unfold Ha;rw[h,z1z d];rfl
def UX (h:(E8 A7 k).1=w) (c:R4 w=true):HN A7 k= .ok w:=by
 unfold HN;rw[h,z1z c]
def eF:By:=[109,111,115,116]
def my (h:At A7 k [dcN a,eF,dcN b] [[]]) (f:1<=a) (c:a<=1000000000) (d:b<=1000000000) (e:(T.F9.any fun l=>decide (l.id=(a:Int)))=false):
  Nb A7 T k= .ok ({ T with F9:=T.F9++[⟨a,b⟩] },k+3):=by
 unfold Nb;rw[Rg h.head c om (by rw[e];rfl),F0];dsimp only;rw[Rh h.next.head (by rfl),F0];dsimp only;rw[o9 h.next.next.head d,F0]
def iR {kd:Nat}{lo hi:Nat}{less:Bool}(h:At A7 k ([w,if kd=2 then CH else Fj,dcN lo,dcN hi]++if less=true then[Dy]else[]) [[]]) (p:R4 w=true) (d:kd=1\/kd=2) (q:lo<=1000000000) (r:hi<=1000000000) (s:(T.E9.any fun c=>decide (c.name=w))=false):
  o7 A7 T k= .ok ({ T with E9:=T.E9++[⟨w,kd,lo,hi,less⟩] },k+(4+if less=true then 1 else 0)):=by
 unfold o7;have j:(E8 A7 k).1=w:=At.head h;have e:At A7 (k+1) ([if kd=2 then CH else Fj,dcN lo,dcN hi]++if less=true then[Dy]else[]) [[]]:=At.next h;have l:(E8 A7 (k+1)).1=if kd=2 then CH else Fj:=At.head e
 have f:At A7 (k+1+1) ([dcN lo,dcN hi]++if less=true then[Dy]else[]) [[]]:=At.next e;have g:At A7 (k+1+1+1) ([dcN hi]++if less=true then[Dy]else[]) [[]]:=At.next f;have i:At A7 (k+1+1+1+1) (if less=true then[Dy]else[]) [[]]:=At.next g;have m:(E8 A7 (k+1+1+1+1)).1=if less=true then Dy else[]:=by
  cases less with
  |true=>exact At.head i
  |false=>have:=At.post i;exact this
 rw[UX j p,F0];rw[z0z (by rw[s];simp)];rw[Rh l (by rcases d with rfl|rfl<;>rfl),F0];dsimp only;rw[o9 (At.head f) q,F0];dsimp only;rw[o9 (At.head g) r,F0];dsimp only;have o:cond (decide ((if kd=2 then CH else Fj)=CH)) (2:Int) 1=kd:=by rcases d with rfl|rfl<;>rfl
 rw[m,o];cases less with
 |true=>rfl
 |false=>rfl
def mz {r:By}(h:At A7 k [w,r,dcN n] [[]]) (c:R4 w=true) (d:([[60,61],[62,61]]:List By).contains r=true) (e:n<=1000000000):
  Bn A7 T k= .ok ({ T with reqs:=T.reqs++[⟨w,r,n⟩] },k+3):=by
 unfold Bn;rw[UX h.head c,F0,Rh h.next.head d,F0];dsimp only;rw[o9 h.next.next.head e,F0]
def aN (h:At A7 k [dcN a,dcN b] [[]]) (c:a<=1000000000) (d:b<=1000000000):Et A7 T k= .ok ({ T with low:=a,high:=b },k+2):=by
 unfold Et;rw[o9 h.head c,F0];dsimp only;rw[o9 h.next.head d,F0]
def iT (h:At A7 k [dcN a] [[]]) (c:a<=1000000000):Hc A7 T k= .ok ({ T with G4:=a },k+1):=by
 unfold Hc;rw[o9 h.head c,F0]
def Wh (h:At A7 k [dcN a] [[]]) (c:a<=1000000000):Cx A7 T k= .ok ({ T with C9:=a },k+1):=by
 unfold Cx;rw[o9 h.head c,F0]
def Wg (h:At A7 k [w] [[]]) (c:W0 w=true):BU A7 T k= .ok ({ T with name:=w },k+1):=by
 unfold BU;rw[h.head,z1z c]
def aP {c d e:Nat}(h:At A7 k [dcN a,dcN b,dcN c,dcN d,dcN e] [[]]) (f:a<=1000000000) (g:b<=1000000000) (i:c<=1000000000) (j:d<=1000000000) (l:e<=1000000000):
  Dp A7 T k= .ok ({ T with t:=⟨a,b,c,d,e⟩ },k+5):=by
 unfold Dp;rw[Ak,o9 h.head f,F0];dsimp only;rw[Ak,o9 h.next.head g,F0];dsimp only;rw[Ak,o9 h.next.next.head i,F0];dsimp only;rw[Ak,o9 h.next.next.next.head j,F0];dsimp only;rw[Ak,o9 h.next.next.next.next.head l,F0];rfl
def kX:∀ (ts:List By) (f k:Nat) (T:Tn),At A7 k ts [[]]->ts.length<=f->(ts=[]->T.H2≠[])->(∀ w∈ts,(w=Fk\/R4 w=true))->ts.Nodup->(∀ w∈ts,w∉T.H2)->T.H2.length+ts.length<=12 ->
  Na A7 f T k= .ok ({ T with H2:=T.H2++ts },k+ts.length):=by
 intro ts;induction ts with
 | nil=>
   intro f k T l _ c _ _ _ _;have o:(E8 A7 k).1=[]:=l.post;have s:decide (T.H2.length=0)=false:=z4z fun h=>c rfl (NV h);cases f with
   |zero=>simp[Na]
   | succ f=>
     unfold Na;rw[s,o,z0z (by simp)];simp
 | cons w ts ih=>
   intro f k T l p _ q i r e;obtain⟨f,rfl⟩:∃ g,f=g+1:=⟨f-1,by simp at p;omega⟩
   have o:=l.head;have j:=q w (Cw ..);have c:w≠[]:=by
    rintro rfl;rcases j with h|h
    ·cases h
    ·cases h
   unfold Na;rw[o,z1z (by simp[c])];rw[z1z (by rcases j with h|h<;>simp[h])];rw[z0z (by simpa using r w (Cw ..))];simp only[AG]at e p;rw[z1z om];rw[ih f (k+1) { T with H2:=T.H2++[w] } l.next om (fun _=>by simp) (fun x m=>q x (Ci _ m)) (List.nodup_cons.1 i).2 ?_ (by simp;omega)]
   ·simp;omega
   ·intro x m d;rcases An.1 d with d|d
    ·exact r x (Ci _ m) d
    ·rw[Cb]at d;subst d;exact(List.nodup_cons.1 i).1 m
def Yt:∀ (cs:List Nat) (f k:Nat) (l:List Int),At A7 k (cs.map dcN) [[]]->cs.length<=f->2<=l.length+cs.length->(∀ n∈cs,1<=n/\n<=1000000000)->cs.Nodup->(∀ n∈cs,(n:Int)∉l)->l.length+cs.length<=12 ->
  Dn A7 f l k= .ok (l++cs.map (fun n:Nat=>(n:Int)),k+cs.length):=by
 intro cs;induction cs with
 | nil=>
   intro f k l j _ o _ _ _ _;have i:(E8 A7 k).1=[]:=j.post;have v:decide (l.length<2)=false:=z4z fun h=>by simp at o;omega
   cases f with
   |zero=>simp[Dn]
   | succ f=>
     unfold Dn;rw[v,i,z0z (by simp)];simp
 | cons n cs ih=>
   intro f k l j q u r e s c;obtain⟨f,rfl⟩:∃ g,f=g+1:=⟨f-1,by simp at q;omega⟩
   have i:(E8 A7 k).1=dcN n:=j.head;have p:=r n (Cw ..);unfold Dn;simp only[AG]at c q u;rw[Rg (n:=n) i p.2 om (by simpa using s n (Cw ..)),i,z1z (by simp[Vd]),F0];dsimp only;rw[z0z om];rw[ih f (k+1) (l++[(n:Int)]) j.next om (by simp;omega) (fun x m=>r x (Ci _ m)) (List.nodup_cons.1 e).2 ?_ (by simp;omega)]
   ·simp;omega
   ·intro x m d;rcases An.1 d with d|d
    ·exact s x (Ci _ m) d
    ·rw[Cb]at d;have:x=n:=om;subst this;exact(List.nodup_cons.1 e).1 m
def At.room (h:At A7 k ts [[]]):ts.length<=A7.length-k:=by
 have:=congrArg List.length (show _=_ from h);simp at this;omega
def nA (h:At A7 k ts [[]]) (c:T.H2=[]) (d:ts≠[]) (f:∀ w∈ts,(w=Fk\/R4 w=true)) (g:ts.Nodup) (i:ts.length<=12):LS A7 T k= .ok ({ T with H2:=ts },k+ts.length):=by
 unfold LS;rw[kX ts _ k T h h.room (fun e=>absurd e d) f g (by rw[c];simp) (by rw[c];simpa using i),c];rfl
def aO {cs:List Nat} (h:At A7 k (cs.map dcN) [[]]) (d:2<=cs.length) (c:∀ n∈cs,1<=n/\n<=1000000000) (e:cs.Nodup) (f:cs.length<=12):Eu A7 T k= .ok ({ T with C8:=T.C8++[cs.map (fun n:Nat=>(n:Int))] },k+cs.length):=by
 unfold Eu;have:=h.room;rw[z2z]at this;rw[Yt cs _ k [] h this (by simpa using d) c e (by simp) (by simpa using f),F0];rfl
end
end
end Go.Proofs.T
namespace Go.Proofs.T
open Go Go.Ab
open Nat (reduceMul reduceEqDiff reduceAdd)
section
variable {n:Nat}{Z:St}
def kI (h:n<18446744073709551616):(dcN n).length<=20:=Ia 19 n om
def qK:∀ (f n:Nat){Z:St},n<f->n<=9223372036854775807 ->
  Ev (gO 179 [.int .i64 (n:Nat)] Z) (fun r=>∃ Z',r=⟨false,str (dcN n),Z'⟩/\Ext Z Z') ⟨⟩:=by
 intro f;induction f with
 |zero=>intro n Z h;omega
 | succ f ih=>
   intro n Z p q;refine G1 Tryz.func179 rfl rfl ?_;have b:decide ((n:Int)<0)=false:=by first|(simp;done)|(simp;omega)
   by_cases a:n<10
   ·have d:decide ((n:Int)<10)=true:=by first|(simp;done)|(simp;omega)
    have j:UInt8.ofNat (48+(n:Int)).toNat=dgt n:=by unfold dgt;congr 1;omega
    simp(maxSteps:=8000000) (disch:=first|exact dS|fail) only[↓bD,bW,reduceMul,reduceEqDiff,reduceAdd,Nat.reduceBEq,reduceIte,Option.isNone_none,b,d,H7,I0,SW,Fh,GV,Nat.reduceMul,j,Tryz.results179];rw[CY a];exact⟨_,rfl,(Ext.refl _).Aw _⟩
   ·have d:decide ((n:Int)<10)=false:=by first|(simp;done)|(simp;omega)
    have l:IntKind.i64.wrap ((n:Int).tdiv 10)=((n / 10:Nat):Int):=by
     rw[show(n:Int).tdiv 10=((n / 10:Nat):Int)from rfl];exact wrap64_in om om
    refine gS1 (aI b (aI d l)) ?_;refine(ih (n / 10) om om).mono ?_;rintro r ⟨Z',rfl,i⟩;have m:(n:Int).tmod 10=((n % 10:Nat):Int):=rfl;refine gS1 m ?_;refine(ih (n % 10) om om).mono ?_;rintro r ⟨o,rfl,c⟩;have e:=kI (n:=n / 10) om;have g:dcN (n % 10)=[dgt n]:=by rw[CY om];unfold dgt;congr 2;omega
    rw[g];refine gS1 @Tryz.results179 ?_;rw[<- Mu a];exact⟨_,rfl,i.trans c⟩
def AM5 (h:n<=1000000000):RQ (n:Int) 1:=⟨om,om,om,om,by simp⟩
def qL (h:n<=1000000000):Ev (gO 139 [ai (n:Nat) 1] Z) (fun r=>∃ Z',r=⟨false,str (dcN n),Z'⟩/\Ext Z Z') ⟨⟩:=by
 refine G1 Tryz.func139 rfl rfl ?_;unfold ai;refine gS ?_;refine(ni (AM5 h)).mono ?_;rintro r ⟨c,rfl,a⟩;have d:c.row Z.n=some [.int .i64 (n:Nat),.int .i64 1]:=eT (a.row (cL)) cL;refine gS1 d ?_;refine(qK _ n (JQ _) om).mono ?_;rintro r ⟨e,rfl,b⟩;refine gS1 @Tryz.results139 ?_;exact⟨_,rfl,Ext.trans (eX) (a.trans b)⟩
def Il (h:n<=1000000000):Ev (gO 100 [.int .i64 (n:Nat)] Z) (fun r=>∃ Z',r=⟨false,str (dcN n),Z'⟩/\Ext Z Z') ⟨⟩:=by
 refine G1 Tryz.func100 rfl rfl ?_;refine gS ?_;refine(qL h).mono ?_;rintro r ⟨b,rfl,a⟩;refine gS1 @Tryz.results100 ?_;exact⟨_,rfl,a⟩
def qM (h:n<=1000000000):(dcN n).length<=10:=Ia 9 n om
def Yl {n d:Int}(h:RQ n d) (V:0<=n) (O:(1000000:Int) % d=0):Ev (gO 80 [ai n d] Z) (fun r=>∃ Z',r=⟨false,str (deT n d),Z'⟩/\Ext Z Z') ⟨⟩:=by
 obtain⟨N,rfl⟩:=KR V;obtain⟨D,rfl⟩:=KR (by have:=h.d1;omega:0<=d);have d1:=h.d1;have d2:=h.d2;have n2:=h.n2;have G:0<D:=om;obtain⟨m,hm⟩:=nW (N % D);have e:∀ x,x=10 ^ 6*m->x % D=0:=by
  intro x Y;have H:(10 ^ 6) % D=0:=Int.natCast_inj.1 (by rw[Int.natCast_emod];exact O);rw[Y,qO,H,GV,qP]
 have E:∀ j D,frT j 0 D=[]:=fun j D=>by cases j<;>rfl
 have fs:∀ j H4,H4≠0->frT (j+1) H4 D=dcN (10*H4 / D)++frT j (10*H4 % D) D:=fun j H4 h=>by show(if H4=0 then _ else _)=_;rw[z0z h]
 have I:deT (N:Int) (D:Int)=dcN (N / D)++(if N % D=0 then[]else 46::frT 6 (N % D) D):=rfl;rw[I];clear O;refine G1 Tryz.func80 rfl rfl ?_;unfold ai;have y:decide ((D:Int)=0)=false:=dF;obtain⟨q,A⟩:=nW (N / D);have L:q<=1000000000:=by rw[<- A];exact AC5 om
 have M:m<D:=by rw[<- hm];exact KU _ G
 have U:IntKind.i64.wrap ((N:Int).tdiv D)=(q:Int):=by
  rw[show(N:Int).tdiv D=((N / D:Nat):Int)from rfl,A];exact wrap64_in om om
 have C:(N:Int).tmod D=(m:Int):=by rw[<- hm];rfl
 refine gS1 (aI y (aI U C)) ?_;refine(Il L).mono ?_;rintro r ⟨R,rfl,i⟩;have Q:R.row Z.n=some [.int .i64 (N:Nat),.int .i64 (D:Nat)]:=eT (i.row (cL)) cL;have hl:=qM L;have step:∀ k,(10 ^ (k+1)*m) % D=(10*((10 ^ k*m) % D)) % D:=by
  intro k;rw[Gd,Cd (10 ^ k) 10,Ek,qO 10,qO 10 ((10 ^ k*m) % D),Nat.mod_mod]
 by_cases J:m=0
 ·have B:decide (0<(m:Int))=false:=dF;refine gS1 (aI Q (aI y (aI C B))) ?_
  refine BE (fun j fr a=>∃ k s H4,j+k=6/\H4=(10 ^ k*m) % D/\fr.get 4=some (.int .i64 (H4:Nat))/\fr.get 3=some (str s)/\s++frT j H4 D=dcN q/\s.length<=12+k/\fr.get 1=some (.pointer (some ⟨Z.n,0,none⟩))/\Ext (Z.new [.int .i64 (N:Nat),.int .i64 (D:Nat)]) a)
   (fun r=>∃ fr a,r=⟨.exit 0,fr,a⟩/\fr.get 3=some (str (dcN q))/\Ext Z a) 6 ⟨0,_,m,rfl,by rw[gC,SW,Pu M],fR,fR,(by rw[J,E,Ca]),om,fR,i⟩ ?_ ?_
  ·rintro j fr a ⟨k,s,H4,W,f,g4,g3,ht,X,g,b⟩;by_cases o:H4=0
   ·have c1:decide (0<(H4:Int))=false:=dF;refine gS1 (aI g4 (aI g3 c1)) ?_;rw[o,E,Ca]at ht;exact⟨_,_,rfl,by rw[<- ht];exact fR1 g3,Ext.trans (eX) b⟩
   have k6:k<6:=by
    rcases AH k 6 with h|h
    ·exact h
    ·obtain rfl:k=6:=om;exact absurd (f.trans (e _ rfl)) o
   have c1:decide (0<(H4:Int))=true:=dT;have rD:H4<D:=by rw[f];exact KU _ G
   have z:a.row Z.n=some [.int .i64 (N:Nat),.int .i64 (D:Nat)]:=eT (b.row (by simp)) cL;obtain⟨u,l⟩:=nW (10*H4 / D);obtain⟨v,hv⟩:=nW (10*H4 % D);have p:u<10:=by rw[<- l];exact fS (by rw[Cd];omega)
   have f1:IntKind.i64.wrap ((10*(H4:Int)).tdiv D)=(u:Int):=by
    rw[show(10*(H4:Int))=((10*H4:Nat):Int) by omega,show((10*H4:Nat):Int).tdiv D=((10*H4 / D:Nat):Int)from rfl,l];exact wrap64_in om om
   have F:(10*(H4:Int)).tmod D=(v:Int):=by
    rw[show(10*(H4:Int))=((10*H4:Nat):Int) by omega,show((10*H4:Nat):Int).tmod D=((10*H4 % D:Nat):Int)from rfl,hv]
   refine gS1 (aI g4 (aI g3 (aI g (aI c1 (aI z (aI y @f1)))))) ?_;refine(Il (n:=u) om).mono ?_;rintro r ⟨S,rfl,c⟩;have K:=eT (c.row (by have:=b.n;simp at this;omega)) z;have l1:(dcN u).length=1:=by rw[CY p];rfl
   refine gS1 (aI g4 (aI g3 (aI g (aI K (aI y F))))) ?_;refine⟨6-(k+1),om,k+1,s++dcN u,v,om,by rw[step,<- f,hv],fR,fR,?_,by simp;omega,fR1 g,b.trans c⟩;rw[<- ht,show j=6-(k+1)+1 by omega,fs _ _ o,l,hv,DT]
  rintro r ⟨fr,a,rfl,g3,b⟩;refine gS1 (aI g3 @Tryz.results80) ?_;rw[A,hm,z1z J,Ca];exact⟨_,rfl,b⟩
 ·have B:decide (0<(m:Int))=true:=dT;refine gS1 (aI Q (aI y (aI C B))) ?_
  refine BE (fun j fr a=>∃ k s H4,j+k=6/\H4=(10 ^ k*m) % D/\fr.get 4=some (.int .i64 (H4:Nat))/\fr.get 3=some (str s)/\s++frT j H4 D=dcN q++46::frT 6 m D/\s.length<=12+k/\fr.get 1=some (.pointer (some ⟨Z.n,0,none⟩))/\Ext (Z.new [.int .i64 (N:Nat),.int .i64 (D:Nat)]) a)
   (fun r=>∃ fr a,r=⟨.exit 0,fr,a⟩/\fr.get 3=some (str (dcN q++46::frT 6 m D))/\Ext Z a) 6 ⟨0,dcN q++[46],m,rfl,by rw[gC,SW,Pu M],fR,fR,(by simp),by simp;omega,fR,i⟩ ?_ ?_
  ·rintro j fr a ⟨k,s,H4,W,f,g4,g3,ht,X,g,b⟩;by_cases o:H4=0
   ·have c1:decide (0<(H4:Int))=false:=dF;refine gS1 (aI g4 (aI g3 c1)) ?_;rw[o,E,Ca]at ht;exact⟨_,_,rfl,by rw[<- ht];exact fR1 g3,Ext.trans (eX) b⟩
   have k6:k<6:=by
    rcases AH k 6 with h|h
    ·exact h
    ·obtain rfl:k=6:=om;exact absurd (f.trans (e _ rfl)) o
   have c1:decide (0<(H4:Int))=true:=dT;have rD:H4<D:=by rw[f];exact KU _ G
   have z:a.row Z.n=some [.int .i64 (N:Nat),.int .i64 (D:Nat)]:=eT (b.row (by simp)) cL;obtain⟨u,l⟩:=nW (10*H4 / D);obtain⟨v,hv⟩:=nW (10*H4 % D);have p:u<10:=by rw[<- l];exact fS (by rw[Cd];omega)
   have f1:IntKind.i64.wrap ((10*(H4:Int)).tdiv D)=(u:Int):=by
    rw[show(10*(H4:Int))=((10*H4:Nat):Int) by omega,show((10*H4:Nat):Int).tdiv D=((10*H4 / D:Nat):Int)from rfl,l];exact wrap64_in om om
   have F:(10*(H4:Int)).tmod D=(v:Int):=by
    rw[show(10*(H4:Int))=((10*H4:Nat):Int) by omega,show((10*H4:Nat):Int).tmod D=((10*H4 % D:Nat):Int)from rfl,hv]
   refine gS1 (aI g4 (aI g3 (aI g (aI c1 (aI z (aI y @f1)))))) ?_;refine(Il (n:=u) om).mono ?_;rintro r ⟨S,rfl,c⟩;have K:=eT (c.row (by have:=b.n;simp at this;omega)) z;have l1:(dcN u).length=1:=by rw[CY p];rfl
   refine gS1 (aI g4 (aI g3 (aI g (aI K (aI y F))))) ?_;refine⟨6-(k+1),om,k+1,s++dcN u,v,om,by rw[step,<- f,hv],fR,fR,?_,by simp;omega,fR1 g,b.trans c⟩;rw[<- ht,show j=6-(k+1)+1 by omega,fs _ _ o,l,hv,DT]
  rintro r ⟨fr,a,rfl,g3,b⟩;refine gS1 (aI g3 @Tryz.results80) ?_;rw[A,hm,z0z J];exact⟨_,rfl,b⟩
end
end Go.Proofs.T
namespace Go.Proofs.T
open Go Go.Ab
def MH {s:By}:DZ s=W0 s:=by
 cases s with
 |nil=>rfl
 | cons c w=>
   have a:decide (0<(c::w).length)=true:=sI;have b:DZ (c::w)=(decide (0<(c::w).length)&&decide ((c::w).length<=30)&&(c::w).all (on DD)&&on DC c):=rfl;have d:W0 (c::w)=(on DC c&&decide ((c::w).length<=30)&&(c::w).all (on DD)):=rfl;rw[b,d,a];cases decide ((c::w).length<=30)<;>cases(c::w).all (on DD)<;>cases on DC c<;>rfl
def FW.le {k m:Nat}{e:Ex}(h:FW k m e):k<=m:=by
 induction h with
 |num=>omega
 |name=>omega
 |bin=>omega
 |mm=>omega
def Hl {Z:St}{v:Value}{D0:List (List Value)}{a b:Ex}(f:SL Z 5 v D0) (d:BH Z D0 [a,b]):∃ B off sp c cells r1 r2,v= .slice (some ⟨B,off,sp⟩) 2 c/\B<Z.n/\Z.row B=some cells /\
  sub cells off 5=some r1/\sub cells (off+5) 5=some r2/\Aq Z r1 a/\Aq Z r2 b:=by
 obtain⟨r1,g,rfl,e,d⟩:=d;obtain⟨r2,rs2,rfl,hx2,d⟩:=d;obtain rfl:rs2=[]:=d;obtain⟨A,C,B,off,cells,rfl,c1,c2⟩:=SL.use f;obtain⟨sp,rfl,l3,l4⟩:=c1 (by simp);exact⟨B,off,sp,C,cells,r1,r2,rfl,l3,l4,by simpa using c2 0 r1 rfl,by simpa using c2 1 r2 rfl,e,hx2⟩
def FW.arg {k m:Nat}{e:Ex}(p:FW k m e){Z:St}{row:List Value}(f:Aq Z row e):∃ o n d nm a len c,row=[str o,.int .i64 n,.int .i64 d,str nm,.slice a len c]/\((len=0/\k=1/\m=1)\/∃ B off sp cells k1 k2 m1 m2 e1 e2 r1 r2,len=2/\a=some ⟨B,off,sp⟩/\B<Z.n/\Z.row B=some cells/\k=1+max k1 k2/\m=m1+m2+1/\FW k1 m1 e1/\FW k2 m2 e2 /\
  sub cells off 5=some r1/\sub cells (off+5) 5=some r2/\Aq Z r1 e1/\Aq Z r2 e2):=by
 cases p with
 | num h=>
   obtain⟨v,D0,rfl,g,-,i⟩:=f;obtain rfl:D0=[]:=i;obtain⟨a,c,b,off,cells,rfl,-⟩:=SL.use g;exact⟨_,_,_,_,_,_,_,rfl,.inl ⟨rfl,rfl,rfl⟩⟩
 | name h=>
   obtain⟨v,D0,rfl,g,-,i⟩:=f;obtain rfl:D0=[]:=i;obtain⟨a,c,b,off,cells,rfl,-⟩:=SL.use g;exact⟨_,_,_,_,_,_,_,rfl,.inl ⟨rfl,rfl,rfl⟩⟩
 | bin h ha hb=>
   obtain⟨v,D0,rfl,j,-,l⟩:=f;obtain⟨B,off,sp,c,cells,r1,r2,rfl,l3,l4,s1,s2,x1,x2⟩:=Hl j l;exact⟨_,_,_,_,_,_,_,rfl,.inr ⟨B,off,sp,cells,_,_,_,_,_,_,r1,r2,rfl,rfl,l3,l4,rfl,rfl,ha,hb,s1,s2,x1,x2⟩⟩
 | mm h ha hb=>
   obtain⟨v,D0,rfl,j,-,l⟩:=f;obtain⟨B,off,sp,c,cells,r1,r2,rfl,l3,l4,s1,s2,x1,x2⟩:=Hl j l;exact⟨_,_,_,_,_,_,_,rfl,.inr ⟨B,off,sp,cells,_,_,_,_,_,_,r1,r2,rfl,rfl,l3,l4,rfl,rfl,ha,hb,s1,s2,x1,x2⟩⟩
def kV:∀ (s:Nat){Z:St}{kd j:Nat}{e:Ex}{row:List Value},j<s->j<=1000000000->FW kd j e->Aq Z row e->Ev (gO 78 [.agg ⟨row⟩] Z) (fun r=>∃ Z':St,r=⟨false,.int .i64 (j:Nat),Z'⟩/\Ext Z Z') ⟨⟩:=by
 intro s;induction s with
 |zero=>intro Z kd j e row S;omega
 | succ s ih=>
   intro Z kd j e row S hj N M;obtain⟨o,n,d,nm,a,m,c,rfl,h⟩:=N.arg M;refine G1 Tryz.func78 rfl rfl ?_;refine gS ?_;obtain⟨R,hR⟩:∃ R:List Value,[str o,.int .i64 n,.int .i64 d,str nm,.slice a m c]=R:=⟨_,rfl⟩
   have g:sub R 4 1=some [.slice a m c]:=by rw[<- hR];rfl
   rw[hR];rcases h with⟨rfl,rfl,rfl⟩|⟨B,off,sp,cells,U,V,u,v,H,I,Y,r2,rfl,rfl,W,X,rfl,rfl,f1,J,s1,s2,x1,x2⟩
   ·refine I9 0 (fun k fr Z'=>fr.get 4=some (.int .i64 k)/\fr.get 1=some (.pointer (some ⟨Z.n,0,none⟩))/\Z'=Z.new R/\fr.get 3=some (.int .i64 1))
     (fun r=>∃ fr,r=⟨.exit 0,fr,Z.new R⟩/\fr.get 3=some (.int .i64 1)) ?_ ?_ ?_ ?_
    ·exact⟨fR,fR,rfl,fR⟩
    ·rintro k fr Z' F;omega
    ·rintro fr Z' ⟨g4,f,rfl,g3⟩;refine gS1 (aI g4 (aI f g)) ?_;exact⟨_,rfl,fR1 g3⟩
    rintro r ⟨fr,rfl,g3⟩;refine gS1 (aI g3 @Tryz.results78) ?_;exact⟨_,rfl,eX⟩
   refine I9 2 (fun k fr Z'=>fr.get 4=some (.int .i64 k)/\fr.get 1=some (.pointer (some ⟨Z.n,0,none⟩))/\Ext (Z.new R) Z'/\∃ p:Nat,fr.get 3=some (.int .i64 (p:Nat))/\((k=0/\p=1)\/(k=1/\p=1+u)\/(k=2/\p=u+v+1)))
    (fun r=>∃ fr Z',r=⟨.exit 0,fr,Z'⟩/\Ext Z Z'/\∃ p:Nat,fr.get 3=some (.int .i64 (p:Nat))/\p=u+v+1) ?_ ?_ ?_ ?_
   ·exact⟨fR,fR,.refl _,_,fR,.inl ⟨rfl,rfl⟩⟩
   ·rintro k fr Z' F ⟨g4,f,b,p,g3,O⟩;have L:=M3 F;have E:Z'.row Z.n=some R:=eT (b.row (by simp)) cL;have A:=b.n;simp only[K9]at A;have q:Ext Z Z':=Ext.trans (eX) b;have w2:=eT (q.row W) X;have C:k=0\/k=1:=om;have l:∃ G i y D,sub cells (off+k*5) 5=some D/\FW G i y/\Aq Z D y/\i<s/\i<=1000000000/\((k=0/\i=u)\/(k=1/\i=v)):=by
     rcases C with rfl|rfl
     ·exact⟨U,u,H,Y,by simpa using s1,f1,x1,om,om,.inl ⟨rfl,rfl⟩⟩
     ·exact⟨V,v,I,r2,by simpa using s2,J,x2,om,om,.inr ⟨rfl,rfl⟩⟩
    obtain⟨G,i,y,D,s3,K,x3,y1,y2,y3⟩:=l;refine gS1 (aI g4 (aI f (aI g3 (aI L (aI E (aI g (aI w2 s3))))))) ?_;refine(ih y1 y2 K (x3.mono q)).mono ?_;rintro r ⟨Z2,rfl,z⟩;refine gS1 (aI g4 (aI f g3)) ?_;refine⟨fR,fR1 f,b.trans z,p+i,fR,?_⟩;omega
   ·rintro fr Z' ⟨g4,f,b,p,g3,O⟩;have E:Z'.row Z.n=some R:=eT (b.row (by simp)) cL;refine gS1 (aI g4 (aI f (aI E g))) ?_;exact⟨_,_,rfl,Ext.trans (eX) b,p,fR1 g3,om⟩
   rintro r ⟨fr,Z',rfl,b,p,g3,Q⟩;refine gS1 (aI g3 @Tryz.results78) ?_;subst Q;exact⟨_,rfl,b⟩
def kW:∀ (s:Nat){Z:St}{kd j:Nat}{e:Ex}{row:List Value},j<s->j<=1000000000->FW kd j e->Aq Z row e->Ev (gO 79 [.agg ⟨row⟩] Z) (fun r=>∃ Z':St,r=⟨false,.int .i64 (kd:Nat),Z'⟩/\Ext Z Z') ⟨⟩:=by
 intro s;induction s with
 |zero=>intro Z kd j e row S;omega
 | succ s ih=>
   intro Z kd j e row S hj N M;obtain⟨o,n,d,nm,a,m,c,rfl,h⟩:=N.arg M;refine G1 Tryz.func79 rfl rfl ?_;refine gS ?_;obtain⟨R,hR⟩:∃ R:List Value,[str o,.int .i64 n,.int .i64 d,str nm,.slice a m c]=R:=⟨_,rfl⟩
   have g:sub R 4 1=some [.slice a m c]:=by rw[<- hR];rfl
   rw[hR];rcases h with⟨rfl,rfl,rfl⟩|⟨B,off,sp,cells,l,v,U,V,I,J,Y,r2,rfl,rfl,W,X,rfl,rfl,f1,G,s1,s2,x1,x2⟩
   ·refine I9 0 (fun k fr Z'=>fr.get 4=some (.int .i64 k)/\fr.get 1=some (.pointer (some ⟨Z.n,0,none⟩))/\Z'=Z.new R/\fr.get 3=some (.int .i64 0))
     (fun r=>∃ fr,r=⟨.exit 0,fr,Z.new R⟩/\fr.get 3=some (.int .i64 0)) ?_ ?_ ?_ ?_
    ·exact⟨fR,fR,rfl,fR⟩
    ·rintro k fr Z' H;omega
    ·rintro fr Z' ⟨g4,f,rfl,g3⟩;refine gS1 (aI g4 (aI f g)) ?_;exact⟨_,rfl,fR1 g3⟩
    rintro r ⟨fr,rfl,g3⟩;refine gS1 (aI g3 @Tryz.results79) ?_;exact⟨_,rfl,eX⟩
   refine I9 2 (fun k fr Z'=>fr.get 4=some (.int .i64 k)/\fr.get 1=some (.pointer (some ⟨Z.n,0,none⟩))/\Ext (Z.new R) Z'/\∃ p:Nat,fr.get 3=some (.int .i64 (p:Nat))/\((k=0/\p=0)\/(k=1/\p=l)\/(k=2/\p=max l v)))
    (fun r=>∃ fr Z',r=⟨.exit 0,fr,Z'⟩/\Ext Z Z'/\∃ p:Nat,fr.get 3=some (.int .i64 (p:Nat))/\p=max l v) ?_ ?_ ?_ ?_
   ·exact⟨fR,fR,.refl _,_,fR,.inl ⟨rfl,rfl⟩⟩
   ·rintro k fr Z' H ⟨g4,f,b,p,g3,O⟩;have L:=M3 H;have F:Z'.row Z.n=some R:=eT (b.row (by simp)) cL;have C:=b.n;simp only[K9]at C;have u:Ext Z Z':=Ext.trans (eX) b;have w2:=eT (u.row W) X;have D:k=0\/k=1:=om;have q:∃ i y z E,sub cells (off+k*5) 5=some E/\FW i y z/\Aq Z E z/\y<s/\y<=1000000000/\((k=0/\i=l)\/(k=1/\i=v)):=by
     rcases D with rfl|rfl
     ·exact⟨l,U,I,Y,by simpa using s1,f1,x1,om,om,.inl ⟨rfl,rfl⟩⟩
     ·exact⟨v,V,J,r2,by simpa using s2,G,x2,om,om,.inr ⟨rfl,rfl⟩⟩
    obtain⟨i,y,z,E,s3,K,x3,y1,y2,y3⟩:=q;refine gS1 (aI g4 (aI f (aI g3 (aI L (aI F (aI g (aI w2 s3))))))) ?_;refine(ih y1 y2 K (x3.mono u)).mono ?_;rintro r ⟨Z2,rfl,A⟩;refine gS1 (aI g4 (aI f g3)) ?_;refine⟨fR,fR1 f,b.trans A,max p i,by rw[show((max p i:Nat):Int)=max (p:Int) (i:Int) by omega],?_⟩;omega
   ·rintro fr Z' ⟨g4,f,b,p,g3,O⟩;have F:Z'.row Z.n=some R:=eT (b.row (by simp)) cL;refine gS1 (aI g4 (aI f (aI F g))) ?_;exact⟨_,_,rfl,Ext.trans (eX) b,p,fR1 g3,om⟩
   rintro r ⟨fr,Z',rfl,b,p,g3,Q⟩;have q1:=f1.le;have q2:=G.le;refine gS1 (aI g3 @Tryz.results79) ?_;subst Q;exact⟨_,by rw[mg (max l v) 1],b⟩
section
variable {o:By}{Z:St}{e:Ex}{row r:List Value}{b:Bool}
def Cl (Z:St):List (Nat×List Value)->Prop
 | []=>True
 | (b,cs)::l=>(b<Z.n/\Z.B8 b=some cs)/\Cl Z l
def Cl.Ah6 {Z Z':St}(hE:Ext Z Z'):∀ {l:List (Nat×List Value)},Cl Z l->Cl Z' l
 | [],_=>trivial
 | (b,cs)::l,h=>⟨⟨z5z h.1.1 hE.n,by rw[hE.B8 h.1.1];exact h.1.2⟩,Cl.Ah6 hE h.2⟩
def Cl.ext {Z':St}{l:List (Nat×List Value)}(h:Cl Z l) (a:Ext Z Z'):Cl Z' l:=Cl.Ah6 a h
def Aq.AK8 {Z:St}{row:List Value}:∀ {e:Ex},Aq Z row e->∃ o n d nm v,row=[str o,.int .i64 n,.int .i64 d,str nm,v]/\∃ l,e= .mk o n d nm l
 | .mk o n d nm l,h=>by obtain⟨v,D0,h,-⟩:=h;exact⟨o,n,d,nm,v,h,l,rfl⟩
def opE:Ex->By
 | .mk o _ _ _ _=>o
def isP (o:By):Bool:=decide (o=[42])||decide (o=[47])
def isS (o:By):Bool:=decide (o=[43])||decide (o=[45])
def YD {g G7:Nat}:L9 (g+1) G7 e=par (decide (lvl (opE e)<G7)) (L9 (g+1) 0 e):=by
 cases e with
 | mk o n d nm l=>
   show par _ _=par _ (par (decide (lvl o<0)) _);have:decide (lvl o<0)=false:=sI;rw[this];rfl
def PT:decide (lvl o<1)=isS o:=by
 unfold lvl isS;by_cases h:o=[43]\/o=[45]
 ·rw[z1z h];rcases h with h|h<;>simp[h]
 ·rw[z0z h];have a:o≠[43]:=fun e=>h (.inl e);have c:o≠[45]:=fun e=>h (.inr e);split<;>simp[a,c]
def fQ:decide (lvl o<2)=(isS o||isP o):=by
 unfold lvl isS isP;by_cases h:o=[43]\/o=[45]
 ·rw[z1z h];rcases h with h|h<;>simp[h]
 ·rw[z0z h];have c:o≠[43]:=fun e=>h (.inl e);have d:o≠[45]:=fun e=>h (.inr e);by_cases a:o=[42]\/o=[47]
  ·rw[z1z a];rcases a with a|a<;>simp[a]
  ·rw[z0z a];have f:o≠[42]:=fun e=>a (.inl e);have g:o≠[47]:=fun e=>a (.inr e);simp[c,d,f,g]
def vp:∀ (f r D:Nat),r<D->(frT f r D).length<=f:=by
 intro f;induction f with
 |zero=>intro r D _;simp[frT]
 | succ f ih=>
   intro r D h;unfold frT;split
   ·simp
   ·have a:10*r / D<10:=fS (by rw[Cd];omega);have:=ih (10*r % D) D (KU _ om);rw[W4,CY a];simp;omega
def fU {n d:Int}(h:MI n d):(deT n d).length<=17:=by
 have a:=h.rq;have i:=h.n0;have j:=a.d1;have l:=a.n2;unfold deT;have c:n.toNat / d.toNat<=1000000000:=AC5 om;have f:=Ia 9 (n.toNat / d.toNat) om;have g:=vp 6 (n.toNat % d.toNat) d.toNat (KU _ om);rw[W4];split
 ·simp;omega
 ·simp;omega
def GM {s:By}:(par b s).length<=s.length+2:=by
 unfold par;cases b<;>simp
def Mp {nm:By}(h:W0 nm=true):nm.length<=30:=by
 unfold W0 at h;rw[T1,T1]at h;exact z6z h.1.2
def Df {k m:Nat}(h:FW k m e):∀ g G7,k<=g->(L9 g G7 e).length+8<=50*m:=by
 induction h with
 | @num n d h=>
   intro g G7 l;obtain⟨g,rfl⟩:∃ x,g=x+1:=⟨g-1,om⟩
   refine W5 (fV (GM (b:=_) (s:=_)) 8) ?_;rw[z1z rfl];have:=fU h;omega
 | @name nm f q h3=>
   intro g G7 l;obtain⟨g,rfl⟩:∃ x,g=x+1:=⟨g-1,om⟩
   refine W5 (fV (GM (b:=_) (s:=_)) 8) ?_;rw[z0z (by decide),z1z rfl];have:=Mp f;omega
 | @bin k j m i o a b h ha hb iha ihb=>
   intro g G7 l;obtain⟨g,rfl⟩:∃ x,g=x+1:=⟨g-1,om⟩
   refine W5 (fV (GM (b:=_) (s:=_)) 8) ?_;have c:o≠T4/\o≠nmB/\¬ (o=W9\/o=Y4):=by rcases h with rfl|rfl|rfl|rfl<;>decide
   have p:o.length=1:=by rcases h with rfl|rfl|rfl|rfl<;>rfl
   rw[z0z c.1,z0z c.2.1];dsimp only;rw[z0z c.2.2];have f:=iha g (lvl o) om;have q:=ihb g (lvl o+1) om;simp only[W4,AG,p];omega
 | @mm k j m i o a b h ha hb iha ihb=>
   intro g G7 l;obtain⟨g,rfl⟩:∃ x,g=x+1:=⟨g-1,om⟩
   refine W5 (fV (GM (b:=_) (s:=_)) 8) ?_;have c:o≠T4/\o≠nmB:=by rcases h with rfl|rfl<;>decide
   have p:o.length=3:=by rcases h with rfl|rfl<;>rfl
   rw[z0z c.1,z0z c.2];dsimp only;rw[z1z h];have f:=iha g 0 om;have q:=ihb g 0 om;simp only[W4,AG,Hf,p];omega
def Qo (f:row=str o::r) (g:row.length=5):Ev (gO 81 [.agg ⟨row⟩] Z) (fun r=>∃ Z',r=⟨false,.bool (isP o),Z'⟩/\Ext Z Z') ⟨⟩:=by
 have c:sub row 0 5=some row:=G3 om om;have d:sub row 0 1=some [str o]:=by subst f;rfl
 refine G1 Tryz.func81 rfl rfl ?_;unfold isP;cases a:decide (o=[42])<;>refine gS1 (aI c (aI d (aI a (a3N @H7 @I0 @Tryz.results81)))) ?_<;>exact⟨_,rfl,eX⟩
def Tu (f:row=str o::r) (g:row.length=5):Ev (gO 82 [.agg ⟨row⟩] Z) (fun r=>∃ Z',r=⟨false,.bool (isS o),Z'⟩/\Ext Z Z') ⟨⟩:=by
 have c:sub row 0 5=some row:=G3 om om;have d:sub row 0 1=some [str o]:=by subst f;rfl
 refine G1 Tryz.func82 rfl rfl ?_;unfold isS;cases a:decide (o=[43])<;>refine gS1 (aI c (aI d (aI a (a3N @H7 @I0 @Tryz.results82)))) ?_<;>exact⟨_,rfl,eX⟩
def FO (j:Nat) (e:Ex) (t:By):Prop:=∀ {Z:St}{row:List Value},j<=1000->Aq Z row e->Ev (gO 49 [.agg ⟨row⟩] Z) (fun r=>∃ Z',r=⟨false,str t,Z'⟩/\Ext Z Z') ⟨⟩
def Mq {j:Nat}{t:By}(h:FO j e t) (ht:t.length<=1000000)(g:j<=1000) (f:Aq Z row e):Ev (gO 83 [.agg ⟨row⟩,.bool b] Z) (fun r=>∃ Z',r=⟨false,str (par b t),Z'⟩/\Ext Z Z') ⟨⟩:=by
 have i:=f.len;have a:sub row 0 5=some row:=G3 om om;refine G1 Tryz.func83 rfl rfl ?_;have c:Ext Z (Z.new row):=eX;cases b with
 | true=>
   refine gS1 a ?_;refine(h g (f.mono c)).mono ?_;rintro r ⟨l,rfl,d⟩;refine gS1 @Tryz.results83 ?_;exact⟨_,rfl,c.trans d⟩
 | false=>
   refine gS1 a ?_;refine(h g (f.mono c)).mono ?_;rintro r ⟨l,rfl,d⟩;refine gS1 @Tryz.results83 ?_;exact⟨_,rfl,c.trans d⟩
def jn {a b:Ex}{H I:Nat}{A C:By}(h:o=W9\/o=Y4) (j:FO H a A) (l:FO I b C) (U:A.length<=1000000) (V:C.length<=1000000):FO (H+I+1) (.mk o 0 0 [] [a,b]) (o++40::(A++44::32::(C++[41]))):=by
  intro Z row S N;obtain⟨v,D0,rfl,s,-,q⟩:=N;obtain⟨B,off,sp,c,cells,r1,r2,rfl,l3,l4,s1,s2,x1,x2⟩:=Hl s q;have F:decide (o=[110,117,109])=false:=z4z (by rcases h with rfl|rfl<;>decide);have G:decide (o=[110,97,109,101])=false:=z4z (by rcases h with rfl|rfl<;>decide);have lo:o.length=3:=by rcases h with rfl|rfl<;>rfl
  refine G1 Tryz.func49 rfl rfl ?_;obtain⟨R,i⟩:∃ R:List Value,[str o,.int .i64 0,.int .i64 0,str [],.slice (some ⟨B,off,sp⟩) 2 c]=R:=⟨_,rfl⟩
  have K:sub R 0 1=some [str o]:=by rw[<- i];rfl
  have q4:sub R 4 1=some [.slice (some ⟨B,off,sp⟩) 2 c]:=by rw[<- i];rfl
  have L:sub R 0 5=some R:=by rw[<- i];rfl
  have W:R.length=5:=by rw[<- i];rfl
  rw[i];have m:Ext Z (Z.new R):=eX;have key:∀ x y:Bool,decide (o=[109,105,110])=x->decide (o=[109,97,120])=y->(x=true\/y=true):=by
   intro x y O Q;rcases h with rfl|rfl
   ·left;rw[<- O];rfl
   ·right;rw[<- Q];rfl
  cases u:decide (o=[109,105,110])with
  | true=>
    refine gS1 (aI K (aI q4 (aI L (aI F (aI G (aI u (aI l4 (aI s1 @Be)))))))) ?_;refine(j om (x1.mono m)).mono ?_;rintro r ⟨p,rfl,d⟩;have z:=d.n;simp only[K9]at z;have D:p.row Z.n=some R:=eT (d.row (by simp)) cL;have g:=m.trans d;have E:=eT (g.row l3) l4;refine gS1 (aI D (aI E (aI q4 s2))) ?_;refine(l om (x2.mono g)).mono ?_;rintro r ⟨M,rfl,f⟩;refine gS1 (aI (asx d) (aI (asx f) @Tryz.results49)) ?_
    try refine dW1 (aI (asx d) (asx f)) ?_
    try(refine gS1 @Tryz.results49 ?_;try exact⟨⟩)
    exact⟨_,by simp,g.trans f⟩
  |false=>
  cases J:decide (o=[109,97,120])with
  |false=>rcases key _ _ u J with h|h<;>cases h
  | true=>
    refine gS1 (aI K (aI q4 (aI L (aI F (aI G (aI u (aI J (aI l4 (aI s1 @Be))))))))) ?_;refine(j om (x1.mono m)).mono ?_;rintro r ⟨p,rfl,d⟩;have z:=d.n;simp only[K9]at z;have D:p.row Z.n=some R:=eT (d.row (by simp)) cL;have g:=m.trans d;have E:=eT (g.row l3) l4;refine gS1 (aI D (aI E (aI q4 s2))) ?_;refine(l om (x2.mono g)).mono ?_;rintro r ⟨M,rfl,f⟩;refine gS1 (aI (asx d) (aI (asx f) @Tryz.results49)) ?_
    try refine dW1 (aI (asx d) (asx f)) ?_
    try(refine gS1 @Tryz.results49 ?_;try exact⟨⟩)
    exact⟨_,by simp,g.trans f⟩
end
end Go.Proofs.T
namespace Go.Proofs.T
open Go Go.Ab
open Nat (reduceMul reduceEqDiff reduceAdd)
def cQ {o:By}{a b:Ex}{Q S:Nat}{p q:By}(h:o=[43]\/o=[45]\/o=[42]\/o=[47]) (G:FO Q a p) (H:FO S b q) (l1:p.length<=1000000) (l2:q.length<=1000000) :
  FO (Q+S+1) (.mk o 0 0 [] [a,b]) (par (isS (opE a)&&isP o) p++32::(o++32::par (isS (opE b)||(isP (opE b)&&isP o)) q)):=by
  intro Z row hj he;obtain⟨v,D0,rfl,F,-,D⟩:=he;obtain⟨B,off,sp,c,cells,r1,r2,rfl,l3,l4,s1,s2,x1,x2⟩:=Hl F D;have d1:decide (o=[110,117,109])=false:=z4z (by rcases h with rfl|rfl|rfl|rfl<;>decide);have d2:decide (o=[110,97,109,101])=false:=z4z (by rcases h with rfl|rfl|rfl|rfl<;>decide);have m1:decide (o=[109,105,110])=false:=z4z (by rcases h with rfl|rfl|rfl|rfl<;>decide);have m2:decide (o=[109,97,120])=false:=z4z (by rcases h with rfl|rfl|rfl|rfl<;>decide);have lo:o.length=1:=by rcases h with rfl|rfl|rfl|rfl<;>rfl
  have iJ:=x1.len;have U:=x2.len;have C:sub r1 0 5=some r1:=G3 om om;have l:sub r2 0 5=some r2:=G3 om om;refine G1 Tryz.func49 rfl rfl ?_;obtain⟨R,m⟩:∃ R:List Value,[str o,.int .i64 0,.int .i64 0,str [],.slice (some ⟨B,off,sp⟩) 2 c]=R:=⟨_,rfl⟩
  have W:sub R 0 1=some [str o]:=by rw[<- m];rfl
  have q4:sub R 4 1=some [.slice (some ⟨B,off,sp⟩) 2 c]:=by rw[<- m];rfl
  have qf:sub R 0 5=some R:=by rw[<- m];rfl
  have ql:R.length=5:=by rw[<- m];rfl
  rw[m];have M:Ext Z (Z.new R):=eX;refine gS1 (aI W (aI q4 (aI qf (aI d1 (aI d2 (aI m1 (aI m2 (aI l4 (aI s1 (aI s2 @Be)))))))))) ?_;obtain⟨S0,g⟩:=nW ((((((Z.new R).new [str [],.int .i64 0,.int .i64 0,str [],.slice none 0 0] (some 35)).upd (Z.n+1) r1).new [str [],.int .i64 0,.int .i64 0,str [],.slice none 0 0] (some 35)).upd (Z.n+1+1) r2));rw[g];have M:Ext Z S0:=by rw[<- g];exact eX
  have n0:S0.n=Z.n+3:=by rw[<- g];rfl
  have X:Cl S0 [(Z.n,R),(Z.n+1,r1),(Z.n+1+1,r2)]:=⟨⟨om,by rw[<- g];exact cL⟩,⟨om,by rw[<- g];exact cL⟩,⟨om,by rw[<- g];exact cL⟩,trivial⟩
  obtain⟨V,a4,a3,a5,v1,E,al,rfl⟩:=x1.AK8;obtain⟨o2,m2',k2',nn2,v2,hr2,bl,rfl⟩:=x2.AK8;have a6:=GM (b:=true) (s:=p);have a7:=GM (b:=false) (s:=p);have a8:=GM (b:=true) (s:=q);have a9:=GM (b:=false) (s:=q);refine(Qo m.symm ql).mono ?_;rintro r ⟨Z2,rfl,u⟩;have I:=X.ext u;have E2:=M.trans u;obtain⟨⟨-,f⟩,⟨-,e⟩,⟨-,d⟩,-⟩:=id I;have f:=C1 f;have e:=C1 e;have d:=C1 d;refine gS1 (aI e C) ?_;refine(Tu E iJ).mono ?_;rintro r ⟨Z3,rfl,y⟩;have J:=I.ext y;have E3:=E2.trans y;obtain⟨⟨-,f⟩,⟨-,e⟩,⟨-,d⟩,-⟩:=id J;have f:=C1 f;have e:=C1 e;have d:=C1 d;refine gS1 (aI d l) ?_;refine(Tu hr2 U).mono ?_;rintro r ⟨Z4,rfl,z⟩;have K:=J.ext z;have E4:=E3.trans z;obtain⟨⟨-,f⟩,⟨-,e⟩,⟨-,d⟩,-⟩:=id K;have f:=C1 f;have e:=C1 e;have d:=C1 d;refine gS1 (aI d l) ?_;refine(Qo hr2 U).mono ?_;rintro r ⟨Z5,rfl,A⟩;have L:=K.ext A;have N:=E4.trans A;obtain⟨⟨-,f⟩,⟨-,e⟩,⟨-,d⟩,-⟩:=id L;have f:=C1 f;have e:=C1 e;have d:=C1 d;obtain⟨b1,hb1⟩:=nW (isP o);obtain⟨b2,hb2⟩:=nW (isS V);obtain⟨b3,hb3⟩:=nW (isS o2);obtain⟨b4,hb4⟩:=nW (isP o2)
  cases b1<;>cases b2<;>(
   refine gS1 (aI hb1 (aI hb2 (aI hb3 (aI hb4 (aI e C))))) ?_;refine(Mq G l1 om (x1.mono N)).mono ?_;rintro r ⟨Z6,rfl,i⟩;have Y:=L.ext i;have O:=N.trans i;obtain⟨⟨-,f⟩,⟨-,e⟩,⟨-,d⟩,-⟩:=id Y;have f:=C1 f;have e:=C1 e;have d:=C1 d
   cases b3<;>cases b4<;>(
    refine gS1 (aI hb1 (aI hb3 (aI hb4 (aI f (aI d (aI W l)))))) ?_;refine(Mq H l2 om (x2.mono O)).mono ?_;rintro r ⟨Z7,rfl,j⟩;refine gS1 (aI (asx i) (aI (asx j) @Tryz.results49)) ?_
    try refine dW1 (aI (asx i) (asx j)) ?_
    try(refine gS1 @Tryz.results49 ?_;try exact⟨⟩)
    refine⟨_,?_,O.trans j⟩;show _=(⟨false,str (par (isS V&&isP o) p++32::(o++32::par (isS o2||(isP o2&&isP o)) q)),_⟩:CR)
    rw[hb1,hb2,hb3,hb4];simp))
def kQ {k m:Nat}{e:Ex}(h:FW k m e):∀ g,k<=g->m<=1000->FO m e (L9 g 0 e):=by
 induction h with
 | @num n d h=>
   intro g q _ Z row p c;obtain⟨g,rfl⟩:∃ x,g=x+1:=⟨g-1,om⟩
   obtain⟨v,D0,rfl,-,-,-⟩:=c;have f:L9 (g+1) 0 (.mk T4 n d [] [])=deT n d:=rfl;rw[f];refine G1 Tryz.func49 rfl rfl ?_;simp(maxSteps:=8000000) (disch:=first|exact dS|fail) only[↓bD,bW,reduceMul,reduceEqDiff,reduceAdd,Nat.reduceBEq,reduceIte,Option.isNone_none,T4];refine(Yl h.rq h.n0 h.d6).mono ?_;rintro r ⟨D,rfl,z⟩;refine gS1 @Tryz.results49 ?_;exact⟨_,rfl,Ext.trans (eX) z⟩
 | @name nm h h1 h2=>
   intro g q _ Z row p c;obtain⟨g,rfl⟩:∃ x,g=x+1:=⟨g-1,om⟩
   obtain⟨v,D0,rfl,-,-,-⟩:=c;have s:decide (([110,97,109,101]:By)=[110,117,109])=false:=by decide
   have f:L9 (g+1) 0 (.mk nmB 0 0 nm [])=nm:=rfl;rw[f];refine G1 Tryz.func49 rfl rfl ?_;simp(maxSteps:=8000000) (disch:=first|exact dS|fail) only[↓bD,bW,reduceMul,reduceEqDiff,reduceAdd,Nat.reduceBEq,reduceIte,Option.isNone_none,nmB,s,Tryz.results49];exact⟨_,rfl,eX⟩
 | @bin k j m i o a b h ha hb iha ihb=>
   intro g q A;obtain⟨g,rfl⟩:∃ x,g=x+1:=⟨g-1,om⟩
   have l:o≠T4/\o≠nmB/\¬ (o=W9\/o=Y4):=by rcases h with rfl|rfl|rfl|rfl<;>decide
   have B:=Df ha g 0 om;have C:=Df hb g 0 om;have key:FO (m+i+1) (.mk o 0 0 [] [a,b]) (par (isS (opE a)&&isP o) (L9 g 0 a)++32::(o++32::par (isS (opE b)||(isP (opE b)&&isP o)) (L9 g 0 b))):=fun{_ _} p c=>cQ h (iha g om om) (ihb g om om) om om p c;have E:=ha.pos;have F:=hb.pos;obtain⟨g,rfl⟩:∃ x,g=x+1:=⟨g-1,om⟩
   have f:L9 (g+1+1) 0 (.mk o 0 0 [] [a,b])=L9 (g+1) (lvl o) a++32::(o++32::L9 (g+1) (lvl o+1) b):=by
    show par (decide (lvl o<0)) (if _ then _ else _)=_;rw[z0z l.1,z0z l.2.1];dsimp only;rw[z0z l.2.2,show decide (lvl o<0)=false by simp];rfl
   rw[f,YD (G7:=lvl o),YD (G7:=lvl o+1)];have u:decide (lvl (opE a)<lvl o)=(isS (opE a)&&isP o):=by
    rcases h with rfl|rfl|rfl|rfl
    ·show decide (lvl (opE a)<0)=_;simp[isP]
    ·show decide (lvl (opE a)<0)=_;simp[isP]
    ·show decide (lvl (opE a)<1)=_;rw[PT];simp[isP]
    ·show decide (lvl (opE a)<1)=_;rw[PT];simp[isP]
   have y:decide (lvl (opE b)<lvl o+1)=(isS (opE b)||(isP (opE b)&&isP o)):=by
    rcases h with rfl|rfl|rfl|rfl
    ·show decide (lvl (opE b)<1)=_;rw[PT];simp[isP]
    ·show decide (lvl (opE b)<1)=_;rw[PT];simp[isP]
    ·show decide (lvl (opE b)<2)=_;rw[fQ];simp[isP]
    ·show decide (lvl (opE b)<2)=_;rw[fQ];simp[isP]
   rw[u,y];exact @key
 | @mm k j m i o a b h ha hb iha ihb=>
   intro g q A;obtain⟨g,rfl⟩:∃ x,g=x+1:=⟨g-1,om⟩
   have l:o≠T4/\o≠nmB:=by rcases h with rfl|rfl<;>decide
   have B:=Df ha g 0 om;have C:=Df hb g 0 om;have key:FO (m+i+1) (.mk o 0 0 [] [a,b]) (o++40::(L9 g 0 a++44::32::(L9 g 0 b++[41]))):=fun{_ _} p c=>jn h (iha g om om) (ihb g om om) om om p c;have f:L9 (g+1) 0 (.mk o 0 0 [] [a,b])=o++40::(L9 g 0 a++44::32::(L9 g 0 b++[41])):=by
    show par (decide (lvl o<0)) (if _ then _ else _)=_;rw[z0z l.1,z0z l.2];dsimp only;rw[z1z h,show decide (lvl o<0)=false by simp];rfl
   rw[f];exact @key
end Go.Proofs.T
namespace Go.Proofs.T
open Go Go.Ab
section
variable {l:By}{k:Nat}{c:UInt8}
inductive LM where
 |AQ (w:By)
 |lot (a b:Nat)
 |Y7 (w:By) (kd lo hi:Nat) (less:Bool)
 |req (w r:By) (n:Nat)
 |FT (a b:Nat)
 |fml (e:Ex)
 |tie (ts:List By)
 |G4 (n:Nat)
 |combo (cs:List Nat)
 |C9 (n:Nat)
 |times (a b c d e:Nat)
def LM.word:LM->By
 | .AQ _=>[116,101,110,100,101,114]
 | .lot .. =>[108,111,116]
 | .Y7 .. =>[99,114,105,116,101,114,105,111,110]
 | .req .. =>[114,101,113,117,105,114,101]
 | .FT .. =>[112,114,105,99,101]
 | .fml _=>[102,111,114,109,117,108,97]
 | .tie _=>[116,105,101]
 | .G4 _=>[109,111,115,116]
 | .combo _=>[99,111,109,98,111]
 | .C9 _=>[98,117,100,103,101,116]
 | .times .. =>[116,105,109,101,115]
def LM.txt:LM->List By
 | .AQ w=>[w]
 | .lot a b=>[dcN a,eF,dcN b]
 | .Y7 w kd lo hi less=>[w,if kd=2 then CH else Fj,dcN lo,dcN hi]++if less=true then[Dy]else[]
 | .req w r n=>[w,r,dcN n]
 | .FT a b=>[dcN a,dcN b]
 | .fml _=>[]
 | .tie ts=>ts
 | .G4 n=>[dcN n]
 | .combo cs=>cs.map dcN
 | .C9 n=>[dcN n]
 | .times a b c d e=>[dcN a,dcN b,dcN c,dcN d,dcN e]
def LM.app:LM->Tn->Tn
 | .AQ w,T=>{ T with name:=w }
 | .lot a b,T=>{ T with F9:=T.F9++[⟨a,b⟩] }
 | .Y7 w kd lo hi less,T=>{ T with E9:=T.E9++[⟨w,kd,lo,hi,less⟩] }
 | .req w r n,T=>{ T with reqs:=T.reqs++[⟨w,r,n⟩] }
 | .FT a b,T=>{ T with low:=a,high:=b }
 | .fml e,T=>{ T with f:=e }
 | .tie ts,T=>{ T with H2:=ts }
 | .G4 n,T=>{ T with G4:=n }
 | .combo cs,T=>{ T with C8:=T.C8++[cs.map (fun n:Nat=>(n:Int))] }
 | .C9 n,T=>{ T with C9:=n }
 | .times a b c d e,T=>{ T with t:=⟨a,b,c,d,e⟩ }
def Le9 (n:Nat):Prop:=n<=1000000000
def LM.Ok:LM->Tn->Prop
 | .AQ w,_=>W0 w=true
 | .lot a b,T=>1<=a/\Le9 a/\Le9 b/\(T.F9.any fun l=>decide (l.id=(a:Int)))=false/\T.F9.length≠12
 | .Y7 w kd lo hi _,T=>R4 w=true/\(kd=1\/kd=2)/\Le9 lo/\Le9 hi/\(T.E9.any fun c=>decide (c.name=w))=false/\T.E9.length≠12
 | .req w r n,T=>R4 w=true/\([[60,61],[62,61]]:List By).contains r=true/\Le9 n/\T.reqs.length≠24
 | .FT a b,_=>Le9 a/\Le9 b
 | .fml e,_=>∃ k m,FW k m e/\k<=12/\m<=60
 | .tie ts,T=>T.H2=[]/\ts≠[]/\(∀ w∈ts,(w=Fk\/R4 w=true))/\ts.Nodup/\ts.length<=12
 | .G4 n,_=>Le9 n
 | .combo cs,T=>2<=cs.length/\(∀ n∈cs,1<=n/\n<=1000000000)/\cs.Nodup/\cs.length<=12/\T.C8.length≠12
 | .C9 n,_=>Le9 n
 | .times a b c d e,_=>Le9 a/\Le9 b/\Le9 c/\Le9 d/\Le9 e
def LM.once:LM->Bool
 | .lot .. =>false
 | .Y7 .. =>false
 | .req .. =>false
 | .combo _=>false
 |_=>true
def Lin (l:By):LM->Prop
 | .fml e=>∃ (n:Nat) (r:By),l=List.replicate n 32++((LM.fml e).word++r)/\(∀ c t,r=c::t->c=32)/\lex r=X0 12 0 e
 |m=>(L7 32 l).filter (fun w=> !decide (w=[]))=m.word::m.txt
def iK:∀ (ws:List By) (k:Nat),(Av ws k).map Prod.fst=ws.filter fun w=> !decide (w=[]):=by
 intro ws;induction ws with
 |nil=>intro k;rfl
 | cons w ws ih=>
   intro k;unfold Av;rw[Ah,ih,List.filter_cons];by_cases h:w=[]
   ·rw[z1z h];simp[h]
   ·rw[z0z h];simp[h]
def iL:(H3 l k).map Prod.fst=(L7 32 l).filter (fun w=> !decide (w=[]))++[[]]:=by
 unfold H3;rw[Ah,iK];rfl
def Po:∀ {w s:By},c∉w->L7 c (w++c::s)=w::L7 c s:=by
 intro w;induction w with
 |nil=>intro s _;show(if c=c then _ else _)=_;rw[z1z rfl]
 | cons x w ih=>
   intro s h;have b:x≠c:=fun e=>h (by rw[e];exact Cw ..);show(if x=c then _ else match L7 c (w++c::s)with|h::t=>(x::h)::t|[]=>[[x]])=_;rw[z0z b,ih fun a=>h (Ci _ a)]
def TH:∀ {w:By},c∉w->L7 c w=[w]:=by
 intro w;induction w with
 |nil=>intro _;rfl
 | cons x w ih=>
   intro h;have b:x≠c:=fun e=>h (by rw[e];exact Cw ..);show(if x=c then _ else match L7 c w with|h::t=>(x::h)::t|[]=>[[x]])=_;rw[z0z b,ih fun a=>h (Ci _ a)]
def OG:∀ (n:Nat) (s:By) (k:Nat),Av (L7 32 (List.replicate n 32++s)) k=Av (L7 32 s) (k+n):=by
 intro n;induction n with
 |zero=>intro s k;rfl
 | succ n ih=>
   intro s k;rw[mu];show Av (if (32:UInt8)=32 then[]::L7 32 (List.replicate n 32++s)else _) k=_;rw[z1z rfl];show(if ([]:By)=[]then[]else _)++Av (L7 32 (List.replicate n 32++s)) (k+0+1)=_;rw[z1z rfl,KP,ih,show k+0+1+n=k+(n+1) by omega]
def iM {n:Nat}{w r:By}(b:w≠[]) (a:32∉w) (d:∀ c t,r=c::t->c=32):E8 (H3 (List.replicate n 32++(w++r)) k) 0=(w,k+n):=by
 have:∃ H4,H3 (List.replicate n 32++(w++r)) k=(w,k+n)::H4:=by
  unfold H3;rw[OG];cases r with
  | nil=>
    rw[Ca,TH a];unfold Av;rw[z0z b];exact⟨_,rfl⟩
  | cons c t=>
    obtain rfl:=d c t rfl;rw[Po a];unfold Av;rw[z0z b];exact⟨_,rfl⟩
 obtain⟨H4,h⟩:=this;rw[h];rfl
def mw {a:Nat}:E8 (H3 l a) ((H3 l a).length-1)=([],a+l.length):=by
 unfold H3;generalize Av (L7 32 l) a=tp;generalize a+l.length=n;unfold E8;rw[List.getD_eq_getElem?_getD,W4,show tp.length+[(([]:By),n)].length-1=tp.length from rfl,List.getElem?_append_right nL,WY];rfl
def LM.eG (m:LM):m.word≠[]:=by cases m<;>simp[LM.word]
def iO {at':Nat}{T:Tn}{seen:List (By×Value)}{m:LM}(j:Lin l m) (G:m.once=true->W1 m.word seen=none) (i:m.Ok T):DL l at' T seen= .ok (m.app T,DM m.word tru seen):=by
 have fin:∀ (o:KS) (k':Nat),(E8 (H3 l at') 0).1=m.word->kS m.word=some o->o.once=m.once->o.full T=false ->
   o.rd (H3 l at') (l.drop ((E8 (H3 l at') 0).2+m.word.length-at')) ((E8 (H3 l at') 0).2+m.word.length) T 1= .ok (m.app T,k')->(E8 (H3 l at') k').1=[]->DL l at' T seen= .ok (m.app T,DM m.word tru seen):=by
  intro o k' p u v y z A;unfold DL;rw[p,z0z (LM.eG m),u];dsimp only;rw[z0z (by
   rw[v];cases E:m.once with
   |false=>simp
   |true=>rw[G E];simp),z0z (by rw[y];simp),z,F0]
  dsimp only;rw[z1z A]
 have f:((L7 32 l).filter (fun w=> !decide (w=[]))=m.word::m.txt)->At (H3 l at') 0 (m.word::m.txt) [[]]:=fun h=>by
  unfold At;rw[iL,h];rfl
 cases m with
 | fml e=>
   obtain⟨n,r,rfl,F,q⟩:=j;have p:=iM (n:=n) (k:=at') (w:=(LM.fml e).word) (r:=r) (LM.eG _) (show(32:UInt8)∉([102,111,114,109,117,108,97]:By) by decide) F;refine fin _ ((H3 (List.replicate n 32++((LM.fml e).word++r)) at').length-1) (by rw[p]) rfl rfl rfl ?_ ?_
   ·rw[p];obtain⟨k,mm,C,s,D⟩:=i;show Bk _ _ _ _ 1=_;unfold Bk;have B:(List.replicate n 32++((LM.fml e).word++r)).drop (at'+n+(LM.fml e).word.length-at')=r:=by
     rw[show at'+n+(LM.fml e).word.length-at'=n+(LM.fml e).word.length by omega,<- DT,List.drop_left' (by simp)]
    rw[B,iP C s s D (by rw[iQ,q]),F0];rfl
   ·rw[mw]
 | AQ w=>
   have g:=f j;exact fin _ _ g.head rfl rfl rfl (Wg g.next i) (At.post g.next)
 | lot a b=>
   have g:=f j;obtain⟨q1,q2,q3,q4,q5⟩:=i;exact fin _ _ g.head rfl rfl (z4z q5) (my g.next q1 q2 q3 q4) (At.post g.next)
 | Y7 w kd lo hi less=>
   have g:=f j;obtain⟨q1,q2,q3,q4,q5,H⟩:=i;refine fin _ _ g.head rfl rfl (z4z H) (iR g.next q1 q2 q3 q4 q5) ?_;have:=At.post g.next;cases less<;>exact this
 | req w r n=>
   have g:=f j;obtain⟨q1,q2,q3,q4⟩:=i;exact fin _ _ g.head rfl rfl (z4z q4) (mz g.next q1 q2 q3) (At.post g.next)
 | FT a b=>
   have g:=f j;exact fin _ _ g.head rfl rfl rfl (aN g.next i.1 i.2) (At.post g.next)
 | tie ts=>
   have g:=f j;obtain⟨q1,q2,q3,q4,q5⟩:=i;exact fin _ _ g.head rfl rfl rfl (nA g.next q1 q2 q3 q4 q5) (At.post g.next)
 | G4 n=>
   have g:=f j;exact fin _ _ g.head rfl rfl rfl (iT g.next i) (At.post g.next)
 | combo cs=>
   have g:=f j;obtain⟨q1,q2,q3,q4,q5⟩:=i;refine fin _ _ g.head rfl rfl (z4z q5) (aO g.next q1 q2 q3 q4) ?_;have:=At.post g.next;rw[show(LM.combo cs).txt.length=cs.length from z2z ..]at this;exact this
 | C9 n=>
   have g:=f j;exact fin _ _ g.head rfl rfl rfl (Wh g.next i) (At.post g.next)
 | times a b c d e=>
   have g:=f j;obtain⟨q1,q2,q3,q4,q5⟩:=i;exact fin _ _ g.head rfl rfl rfl (aP g.next q1 q2 q3 q4 q5) (At.post g.next)
end
def Wq {w x:By}{v:Value}:∀ {l:List (By×Value)},W1 w (DM x v l)=if w=x then some v else W1 w l:=by
 intro l;induction l with
 |nil=>rfl
 | cons p l ih=>
   obtain⟨y,u⟩:=p;rw[Li];by_cases h:x=y
   ·subst h;rw[z1z rfl,Cp,Cp];by_cases a:w=x
    ·rw[z1z a,z1z a]
    ·rw[z0z a,z0z a,z0z a]
   ·rw[z0z h,Cp,Cp,ih];by_cases a:w=y
    ·rw[z1z a,z1z a,z0z (fun e=>h (e.symm.trans a))]
    ·rw[z0z a,z0z a]
def Y8 (a:List LM) (T:Tn):Tn:=a.foldl (fun T m=>m.app T) T
def fE (a:List LM) (s:List (By×Value)):List (By×Value):=a.foldl (fun s m=>DM m.word tru s) s
def Nj (s:List (By×Value)) (a:List LM):Prop:=∀ w,(W1 w s).isSome=true↔∃ m∈a,m.word=w
def jT {s:List (By×Value)}{d:List LM}{m:LM}(h:Nj s d):Nj (DM m.word tru s) (d++[m]):=by
 intro w;rw[Wq];by_cases c:m.word=w
 ·rw[z1z c.symm];exact⟨fun _=>⟨m,by simp,c⟩,fun _=>rfl⟩
 ·rw[z0z (fun e=>c e.symm),h w];constructor
  ·rintro⟨x,a,b⟩;exact⟨x,by simp[a],b⟩
  ·rintro⟨x,a,b⟩;rcases An.1 a with a|a
   ·exact⟨x,a,b⟩
   ·rw[Cb]at a;subst a;exact absurd b c
def LM.Ok0:LM->Prop
 | .AQ w=>W0 w=true
 | .lot a b=>1<=a/\Le9 a/\Le9 b
 | .Y7 w kd lo hi _=>R4 w=true/\(kd=1\/kd=2)/\Le9 lo/\Le9 hi
 | .req w r n=>R4 w=true/\([[60,61],[62,61]]:List By).contains r=true/\Le9 n
 | .FT a b=>Le9 a/\Le9 b
 | .fml e=>∃ k m,FW k m e/\k<=12/\m<=60
 | .tie ts=>ts≠[]/\(∀ w∈ts,(w=Fk\/R4 w=true))/\ts.Nodup/\ts.length<=12
 | .G4 n=>Le9 n
 | .combo cs=>2<=cs.length/\(∀ n∈cs,1<=n/\n<=1000000000)/\cs.Nodup/\cs.length<=12
 | .C9 n=>Le9 n
 | .times a b c d e=>Le9 a/\Le9 b/\Le9 c/\Le9 d/\Le9 e
def VO:LM->Option Nat
 | .lot a _=>some a
 |_=>none
def VP:LM->Option By
 | .Y7 w .. =>some w
 |_=>none
def XV:LM->Option Unit
 | .req .. =>some ()
 |_=>none
def XW:LM->Option Unit
 | .combo _=>some ()
 |_=>none
def jU {a b:LM}(h:a.word=b.word):a.once=b.once:=by
 cases a<;>cases b<;>first|rfl|(simp[LM.word]at h)
structure XX (ms:List LM):Prop where
 each:∀ m∈ms,m.Ok0
 ids:(ms.filterMap VO).Nodup
 F9:(ms.filterMap VO).length<=12
 crs:(ms.filterMap VP).Nodup
 E9:(ms.filterMap VP).length<=12
 reqs:(ms.filterMap XV).length<=24
 C8:(ms.filterMap XW).length<=12
 once:ms.Pairwise fun a b=>a.word=b.word->a.once=false
structure Made (ms:List LM) (T:Tn):Prop where
 F9:T.F9.map Lot.id=(ms.filterMap VO).map fun n:Nat=>(n:Int)
 E9:T.E9.map S8.name=ms.filterMap VP
 reqs:T.reqs.length=(ms.filterMap XV).length
 C8:T.C8.length=(ms.filterMap XW).length
 H2:(∀ ts,LM.tie ts∉ms)->T.H2=[]
def Made.snoc {c:List LM}{T:Tn}{m:LM}(h:Made c T):Made (c++[m]) (m.app T):=by
 obtain⟨d,e,f,g,i⟩:=h;have a:(∀ ts,LM.tie ts∉c++[m])->T.H2=[]:=fun b=>i fun ts j=>b ts (by simp[j]);cases m<;>(refine⟨?_,?_,?_,?_,?_⟩<;>first|(simpa[LM.app,List.filterMap_append,VO,VP,XV,XW]using by assumption)|exact a|skip)
 all_goals first
  | (simp[LM.app,List.filterMap_append,VO,VP,XV,XW,d,e,f,g];done)
  | (intro b;exact absurd (An.2 (.inr (Cb.2 rfl))) (b _))
def vJ {pre:List LM}{m:LM}{H4:List LM}{T:Tn}(g:XX (pre++m::H4)) (B:Made pre T):m.Ok T:=by
 have f:=g.each m (by simp);obtain⟨y,z,D,E,A⟩:=B;have j:=g.ids;have u:=g.F9;have i:=g.crs;have s:=g.E9;have v:=g.reqs;have h:=g.C8;rw[List.filterMap_append]at j u i s v h;cases m with
 |AQ w=>exact f
 | lot a b=>
   obtain⟨q1,q2,q3⟩:=f;rw[show(LM.lot a b::H4).filterMap VO=a::H4.filterMap VO from rfl]at j u;refine⟨q1,q2,q3,?_,?_⟩
   ·rw[Tj];intro q;rw[oW]at q;obtain⟨l,o,p⟩:=q;have:l.id∈T.F9.map Lot.id:=List.mem_map_of_mem o;rw[y]at this;obtain⟨n,hn1,hn2⟩:=GI.1 this;have:n=a:=by have:=z6z p;omega
    subst this;exact(List.nodup_append.1 j).2.2 n hn1 n (Cw ..) rfl
   ·have e:=congrArg List.length y;simp at e u;omega
 | Y7 w kd lo hi less=>
   obtain⟨q1,q2,q3,q4⟩:=f;rw[show(LM.Y7 w kd lo hi less::H4).filterMap VP=w::H4.filterMap VP from rfl]at i s;refine⟨q1,q2,q3,q4,?_,?_⟩
   ·rw[Tj];intro q;rw[oW]at q;obtain⟨l,o,p⟩:=q;have:l.name∈T.E9.map S8.name:=List.mem_map_of_mem o;rw[z,z6z p]at this;exact(List.nodup_append.1 i).2.2 w this w (Cw ..) rfl
   ·have e:=congrArg List.length z;simp at e s;omega
 | req w r n=>
   obtain⟨q1,q2,q3⟩:=f;refine⟨q1,q2,q3,?_⟩;rw[show(LM.req w r n::H4).filterMap XV=()::H4.filterMap XV from rfl]at v;simp at v;omega
 |FT a b=>exact f
 |fml e=>exact f
 | tie ts=>
   obtain⟨q1,q2,q3,q4⟩:=f;refine⟨A fun us C=>?_,q1,q2,q3,q4⟩;have:=List.pairwise_append.1 g.once;have:=this.2.2 _ C (LM.tie ts) (Cw ..) rfl;cases this
 |G4 n=>exact f
 | combo cs=>
   obtain⟨q1,q2,q3,q4⟩:=f;refine⟨q1,q2,q3,q4,?_⟩;rw[show(LM.combo cs::H4).filterMap XW=()::H4.filterMap XW from rfl]at h;simp at h;omega
 |C9 n=>exact f
 |times a b c d e=>exact f
def av:∀ (ms:List LM) (ls:List By) (pre:List LM) (at':Nat) (T:Tn) (seen:List (By×Value)) (more:List By),XX (pre++ms)->Made pre T->Nj seen pre->EK Lin ls ms ->
  BN (ls++more) at' T seen=BN more (at'+lens ls) (Y8 ms T) (fE ms seen)/\Nj (fE ms seen) (pre++ms):=by
 intro ms;induction ms with
 | nil=>
   intro ls pre at' T seen more b h d c;cases ls with
   |nil=>exact⟨rfl,by rw[Ca];exact d⟩
   |cons l ls=>exact c.elim
 | cons m ms ih=>
   intro ls pre at' T seen more b h d c;cases ls with
   |nil=>exact c.elim
   | cons l ls=>
     obtain⟨e,f⟩:=c;have o:m.once=true->W1 m.word seen=none:=by
      intro r;cases g:W1 m.word seen with
      |none=>rfl
      | some v=>
        obtain⟨x,i,a⟩:=(d m.word).1 (by rw[g];rfl);have:=(List.pairwise_append.1 b.once).2.2 x i m (Cw ..) a;rw[jU a,r]at this;cases this
     have p:=iO (at':=at') e o (vJ b h);obtain⟨q,j⟩:=ih ls (pre++[m]) (at'+(l.length+1)) (m.app T) (DM m.word tru seen) more (by rw[DT];exact b) h.snoc (jT d) f;refine⟨?_,?_⟩
     ·show BN (l::(ls++more)) at' T seen=_;rw[show BN (l::(ls++more)) at' T seen=V6 (DL l at' T seen) (fun(T',n)=>BN (ls++more) (at'+(l.length+1)) T' n)from rfl,p,F0];dsimp only;rw[q];show BN more (at'+(l.length+1)+lens ls) _ _=BN more (at'+(l.length+1+lens ls)) _ _;rw[Px];rfl
     ·rw[DT]at j;exact j
def under (a:List By):By:=(a.map fun l=>l++[10]).flatten
def XZ:∀ (ls:List By) (r:By),(∀ l∈ls,(10:UInt8)∉l)->L7 10 (under ls++r)=ls++L7 10 r:=by
 intro ls;induction ls with
 |nil=>intro r _;rfl
 | cons l ls ih=>
   intro r h;have e:under (l::ls)++r=l++10::(under ls++r):=by unfold under;simp
   rw[e,Po (h l (Cw ..)),ih r fun x a=>h x (Ci _ a)];rfl
def jV:∀ (ls:List By),(under ls).length=lens ls:=by
 intro ls;induction ls with
 |nil=>rfl
 | cons l ls ih=>
   have e:under (l::ls)=l++10::under ls:=by unfold under;simp
   rw[e,W4,AG,ih];show _=l.length+1+lens ls;omega
def ax {at':Nat}{T:Tn}{seen:List (By×Value)}{n:Nat}:DL (List.replicate n 32) at' T seen= .ok (T,seen):=by
 have:(E8 (H3 (List.replicate n 32) at') 0).1=[]:=by
  unfold H3;have:=OG n [] at';rw[Ca]at this;rw[this];rfl
 unfold DL;rw[z1z this]
def oX:Made [] T0:=⟨rfl,rfl,rfl,rfl,fun _=>rfl⟩
def oY:Nj [] []:=fun w=>by simp[W1]
def Xg {a:List By}{b:List LM}{r:By}(f:XX b) (g:EK Lin a b) (c:∀ l∈a,(10:UInt8)∉l) :
  ∃ seen,Nj seen b/\BN (L7 10 (under a++r)) 0 T0 []=BN (L7 10 r) (under a).length (Y8 b T0) seen:=by
 obtain⟨d,e⟩:=av b a [] 0 T0 [] (L7 10 r) f oX oY g;refine⟨_,e,?_⟩;rw[XZ a r c,d,jV,Eo]
def Xh {b:List By}{a:List LM}(i:XX a) (j:EK Lin b a) (c:∀ l∈b,(10:UInt8)∉l) (g:∀ w∈six,∃ m∈a,m.word=w):Bo (under b)= .ok (Y8 a T0):=by
 obtain⟨seen,f,d⟩:=Xg (r:=[]) i j c;rw[Ca]at d;unfold Bo;rw[d];have h:=@ax (under b).length (Y8 a T0) seen 0;rw[show BN (L7 10 []) (under b).length (Y8 a T0) seen=V6 (DL [] (under b).length (Y8 a T0) seen) (fun(T',e)=>BN [] ((under b).length+(([]:By).length+1)) T' e)from rfl];rw[show DL [] (under b).length (Y8 a T0) seen=_ from h,F0];show V6 (.ok (Y8 a T0,seen)) _=_;rw[F0];dsimp only;rw[z1z];rw[GH];intro w n;exact(f w).2 (g w n)
section
variable {w:By}{m:LM}
def spJ:List By->By
 | []=>[]
 | [w]=>w
 |w::ws=>w++32::spJ ws
def BI:LM->By
 | .fml e=>(LM.fml e).word++32::L9 12 0 e
 |m=>spJ (m.word::m.txt)
def Jq (T:Tn):List LM :=
 .AQ T.name::(T.F9.map (fun l=>LM.lot l.id.toNat l.G4.toNat)++(T.E9.map (fun c=>LM.Y7 c.name c.kind.toNat c.low.toNat c.high.toNat c.less)++(T.reqs.map (fun r=>LM.req r.name r.rel r.value.toNat) ++
  (.FT T.low.toNat T.high.toNat:: .fml T.f::((if T.H2=[]then[]else[.tie T.H2])++((if T.G4=0 then[]else[.G4 T.G4.toNat])++(T.C8.map (fun c=>LM.combo (c.map Int.toNat)) ++
    [.C9 T.C9.toNat,.times T.t.q.toNat T.t.b.toNat T.t.g.toNat T.t.p.toNat T.t.s.toNat])))))))
def DY (T:Tn):By:=under ((Jq T).map BI)
def In9 (n:Int):Prop:=0<=n/\n<=1000000000
structure BL (T:Tn):Prop where
 name:W0 T.name=true
 F9:T.F9.length<=12
 HM:T.F9≠[]
 lot:∀ l∈T.F9,1<=l.id/\l.id<=1000000000/\In9 l.G4
 ids:(T.F9.map Lot.id).Nodup
 E9:T.E9.length<=12
 Y7:∀ c∈T.E9,R4 c.name=true/\(c.kind=1\/c.kind=2)/\In9 c.low/\In9 c.high
 crs:(T.E9.map S8.name).Nodup
 reqs:T.reqs.length<=24
 req:∀ r∈T.reqs,R4 r.name=true/\([[60,61],[62,61]]:List By).contains r.rel=true/\In9 r.value
 low:In9 T.low
 high:In9 T.high
 f:∃ k m,FW k m T.f/\k<=12/\m<=60
 H2:T.H2.length<=12
 tie:∀ w∈T.H2,(w=Fk\/R4 w=true)
 tnd:T.H2.Nodup
 G4:In9 T.G4
 C8:T.C8.length<=12
 combo:∀ c∈T.C8,2<=c.length/\c.length<=12/\c.Nodup/\∀ n∈c,1<=n/\n<=1000000000
 C9:In9 T.C9
 t:In9 T.t.q/\In9 T.t.b/\In9 T.t.g/\In9 T.t.p/\In9 T.t.s
def Wd (w:By):Prop:=w≠[]/\(32:UInt8)∉w/\(10:UInt8)∉w
def mU:∀ (ws:List By) (w:By),(∀ x∈w::ws,Wd x)->L7 32 (spJ (w::ws))=w::ws:=by
 intro ws;induction ws with
 |nil=>intro w h;exact TH (h w (Cw ..)).2.1
 | cons v ws ih=>
   intro w h;show L7 32 (w++32::spJ (v::ws))=_;rw[Po (h w (Cw ..)).2.1,ih v fun x a=>h x (Ci _ a)]
def zu:∀ (ws:List By) (w:By),(∀ x∈w::ws,Wd x)->(10:UInt8)∉spJ (w::ws):=by
 intro ws;induction ws with
 |nil=>intro w h;exact(h w (Cw ..)).2.2
 | cons v ws ih=>
   intro w h b;rcases An.1 (show(10:UInt8)∈w++32::spJ (v::ws)from b)with a|a
   ·exact(h w (Cw ..)).2.2 a
   ·rcases V9.1 a with a|a
    ·cases a
    ·exact ih v (fun x c=>h x (Ci _ c)) a
def uG (b:w≠[]) (h:w.all (on DD)=true):Wd w :=
 ⟨b,fun a=>(by have:=GH.1 h _ a;cases this),fun a=>(by have:=GH.1 h _ a;cases this)⟩
def WT (h:W0 w=true):Wd w:=by
 obtain⟨c,v,rfl,-,a⟩:=Ls h;exact uG (by simp) a
def WU (h:R4 w=true):Wd w:=by
 unfold R4 at h;rw[T1]at h;exact WT h.1
def HV (n:Nat):Wd (dcN n):=by
 refine uG (Vd n) ?_;rw[GH];intro c a;exact fJ (GH.1 (NB (n+1) n (JQ _)).1 c a)
def Uo (h:(!decide (w=[])&&(!w.contains 32&& !w.contains 10))=true):Wd w:=by
 simp at h;exact⟨h.1,h.2.1,h.2.2⟩
def LM.iG (m:LM):Wd m.word:=by cases m<;>exact Uo (by rfl)
def Ab9 (h:m.Ok0):∀ x∈m.txt,Wd x:=by
 intro x f;cases m with
 |AQ w=>rw[show(LM.AQ w).txt=[w]from rfl,Cb]at f;subst f;exact WT h
 | lot a b=>
   rw[show(LM.lot a b).txt=[dcN a,eF,dcN b]from rfl]at f;simp only[V9,LN,MJ]at f;rcases f with rfl|rfl|rfl
   ·exact HV _
   ·exact Uo (by rfl)
   ·exact HV _
 | Y7 w kd lo hi less=>
   rcases An.1 (show x∈[w,if kd=2 then CH else Fj,dcN lo,dcN hi]++(if less=true then[Dy]else[])from f)with f|f
   ·simp only[V9,LN,MJ]at f;rcases f with rfl|rfl|rfl|rfl
    ·exact WU h.1
    ·split<;>exact Uo (by rfl)
    ·exact HV _
    ·exact HV _
   ·split at f
    ·rw[Cb]at f;subst f;exact Uo (by rfl)
    ·cases f
 | req w r n=>
   rw[show(LM.req w r n).txt=[w,r,dcN n]from rfl]at f;simp only[V9,LN,MJ]at f;obtain⟨g,i,j⟩:=h;rcases f with rfl|rfl|rfl
   ·exact WU g
   ·simp at i;rcases i with rfl|rfl<;>exact Uo (by rfl)
   ·exact HV _
 | FT a b=>
   rw[show(LM.FT a b).txt=[dcN a,dcN b]from rfl]at f;simp only[V9,LN,MJ]at f;rcases f with rfl|rfl<;>exact HV _
 |fml e=>cases f
 | tie ts=>
   rcases h.2.1 x f with rfl|g
   ·exact Uo (by rfl)
   ·exact WU g
 |G4 n=>rw[show(LM.G4 n).txt=[dcN n]from rfl,Cb]at f;subst f;exact HV _
 | combo cs=>
   obtain⟨n,-,rfl⟩:=GI.1 (show x∈cs.map dcN from f);exact HV _
 |C9 n=>rw[show(LM.C9 n).txt=[dcN n]from rfl,Cb]at f;subst f;exact HV _
 | times a b c d e=>
   rw[show(LM.times a b c d e).txt=[dcN a,dcN b,dcN c,dcN d,dcN e]from rfl]at f;simp only[V9,LN,MJ]at f;rcases f with rfl|rfl|rfl|rfl|rfl<;>exact HV _
def Pf {b:Bool}{s:By}(h:(10:UInt8)∉s):(10:UInt8)∉par b s:=by
 unfold par;cases b with
 |false=>exact h
 | true=>
   rw[z1z rfl];intro a;rcases V9.1 a with a|a
   ·cases a
   ·rcases An.1 a with a|a
    ·exact h a
    ·rw[Cb]at a;cases a
def uH {k m:Nat}{e:Ex}(h:FW k m e):∀ (f G7:Nat),k<=f->(10:UInt8)∉L9 f G7 e:=by
 have dg:∀ l:By,l.all (on J3)=true->(10:UInt8)∉l:=fun l z p=>by have:=GH.1 z _ p;cases this
 induction h with
 | @num n d h=>
   intro f G7 u;obtain⟨f,rfl⟩:∃ g,f=g+1:=⟨f-1,om⟩
   unfold L9;refine Pf ?_;rw[z1z rfl];rcases h.lex with⟨c,w,e,q⟩|⟨c,w,x,v,e,q,r⟩
   ·rw[e];exact dg _ q
   ·rw[e];intro p;rcases An.1 p with p|p
    ·exact dg _ q p
    ·rcases V9.1 p with p|p
     ·cases p
     ·exact dg _ r p
 | @name nm q r h3=>
   intro f G7 u;obtain⟨f,rfl⟩:∃ g,f=g+1:=⟨f-1,om⟩
   unfold L9;refine Pf ?_;rw[z0z (by decide),z1z rfl];exact(WT q).2.2
 | @bin k j m i o a b h ha hb iha ihb=>
   intro f G7 u;obtain⟨f,rfl⟩:∃ g,f=g+1:=⟨f-1,om⟩
   unfold L9;refine Pf ?_;have s:o≠T4/\o≠nmB/\¬ (o=W9\/o=Y4):=by rcases h with rfl|rfl|rfl|rfl<;>decide
   have y:(10:UInt8)∉o:=by rcases h with rfl|rfl|rfl|rfl<;>decide
   rw[z0z s.1,z0z s.2.1];dsimp only;rw[z0z s.2.2];have q:=iha f (lvl o) om;have r:=ihb f (lvl o+1) om;simp only[An,V9,not_or];exact⟨q,by decide,y,by decide,r⟩
 | @mm k j m i o a b h ha hb iha ihb=>
   intro f G7 u;obtain⟨f,rfl⟩:∃ g,f=g+1:=⟨f-1,om⟩
   unfold L9;refine Pf ?_;have s:o≠T4/\o≠nmB:=by rcases h with rfl|rfl<;>decide
   have y:(10:UInt8)∉o:=by rcases h with rfl|rfl<;>decide
   rw[z0z s.1,z0z s.2];dsimp only;rw[z1z h];have q:=iha f 0 om;have r:=ihb f 0 om;simp only[An,V9,not_or,LN,MJ];exact⟨y,by decide,q,by decide,by decide,r,by decide⟩
def Ap4 (h:m.Ok0):Lin (BI m) m/\(10:UInt8)∉BI m:=by
 have a:BI m=spJ (m.word::m.txt)->(∀ e,m≠ .fml e)->Lin (BI m) m/\(10:UInt8)∉BI m:=by
  intro d f;have g:∀ x∈m.word::m.txt,Wd x:=fun x i=>(V9.1 i).elim (fun e=>e ▸ m.iG) (Ab9 h x);refine⟨?_,by rw[d];exact zu _ _ g⟩;have key:(L7 32 (BI m)).filter (fun w=> !decide (w=[]))=m.word::m.txt:=by
   rw[d,mU _ _ g,List.filter_eq_self];intro x i;have:=(g x i).1;simp[this]
  cases m with
  |fml e=>exact absurd rfl (f e)
  |_=>exact key
 cases m with
 | fml e=>
   obtain⟨k,mm,j,l,o⟩:=h;refine⟨⟨0,32::L9 12 0 e,rfl,fun c t e=>by cases e;rfl,?_⟩,?_⟩
   ·rw[KD];have:=qp j 12 0 l [] qo;rw[Ca,lex_nil,Ca]at this;exact this
   ·intro n;rcases An.1 (show(10:UInt8)∈(LM.fml e).word++32::L9 12 0 e from n)with b|b
    ·exact(LM.iG (.fml e)).2.2 b
    ·rcases V9.1 b with b|b
     ·cases b
     ·exact uH j 12 0 l b
 |_=>exact a rfl (fun e d=>by cases d)
end
section
variable {k:Nat}{T:Tn}
def KL (a b:List LM) (T:Tn):Y8 (a++b) T=Y8 b (Y8 a T):=fG
def tX:∀ (l:List Lot) (T:Tn),(∀ x∈l,0<=x.id/\0<=x.G4)->Y8 (l.map fun l=>LM.lot l.id.toNat l.G4.toNat) T={ T with F9:=T.F9++l }:=by
 intro l;induction l with
 |nil=>intro T _;simp[Y8]
 | cons x l ih=>
   intro T h;have a:=h x (Cw ..);show Y8 (l.map _) (LM.app (.lot x.id.toNat x.G4.toNat) T)=_;rw[ih _ fun y b=>h y (Ci _ b)];show({ T with F9:=T.F9++[⟨(x.id.toNat:Int),(x.G4.toNat:Int)⟩]++l }:Tn)=_;rw[Int.toNat_of_nonneg a.1,Int.toNat_of_nonneg a.2,DT];rfl
def mI:∀ (l:List S8) (T:Tn),(∀ x∈l,0<=x.kind/\0<=x.low/\0<=x.high)->Y8 (l.map fun c=>LM.Y7 c.name c.kind.toNat c.low.toNat c.high.toNat c.less) T={ T with E9:=T.E9++l }:=by
 intro l;induction l with
 |nil=>intro T _;simp[Y8]
 | cons x l ih=>
   intro T h;have a:=h x (Cw ..);show Y8 (l.map _) (LM.app (.Y7 x.name x.kind.toNat x.low.toNat x.high.toNat x.less) T)=_;rw[ih _ fun y b=>h y (Ci _ b)];show({ T with E9:=T.E9++[⟨x.name,(x.kind.toNat:Int),(x.low.toNat:Int),(x.high.toNat:Int),x.less⟩]++l }:Tn)=_;rw[Int.toNat_of_nonneg a.1,Int.toNat_of_nonneg a.2.1,Int.toNat_of_nonneg a.2.2,DT];rfl
def tY:∀ (l:List Req) (T:Tn),(∀ x∈l,0<=x.value)->Y8 (l.map fun r=>LM.req r.name r.rel r.value.toNat) T={ T with reqs:=T.reqs++l }:=by
 intro l;induction l with
 |nil=>intro T _;simp[Y8]
 | cons x l ih=>
   intro T h;have a:=h x (Cw ..);show Y8 (l.map _) (LM.app (.req x.name x.rel x.value.toNat) T)=_;rw[ih _ fun y b=>h y (Ci _ b)];show({ T with reqs:=T.reqs++[⟨x.name,x.rel,(x.value.toNat:Int)⟩]++l }:Tn)=_;rw[Int.toNat_of_nonneg a,DT];rfl
def Zq:∀ (l:List Int),(∀ n∈l,0<=n)->(l.map Int.toNat).map (fun n:Nat=>(n:Int))=l:=by
 intro l h;rw[Td]
 conv=>rhs;rw[<- List.map_id l]
 exact List.map_congr_left fun n a=>Int.toNat_of_nonneg (h n a)
def dY:∀ (l:List (List Int)) (T:Tn),(∀ c∈l,∀ n∈c,0<=n)->Y8 (l.map fun c=>LM.combo (c.map Int.toNat)) T={ T with C8:=T.C8++l }:=by
 intro l;induction l with
 |nil=>intro T _;simp[Y8]
 | cons x l ih=>
   intro T h;have a:=h x (Cw ..);show Y8 (l.map _) (LM.app (.combo (x.map Int.toNat)) T)=_;rw[ih _ fun y b=>h y (Ci _ b)];show({ T with C8:=T.C8++[(x.map Int.toNat).map (fun n:Nat=>(n:Int))]++l }:Tn)=_;rw[Zq x a,DT];rfl
def AV5 (h:BL T):Y8 (Jq T) T0=T:=by
 obtain⟨v,y,z,A,B⟩:=h.t;unfold Jq;show Y8 _ (LM.app (.AQ T.name) T0)=_;rw[KL,tX _ _ fun x a=>by have:=h.lot x a;exact⟨om,this.2.2.1⟩];rw[KL,mI _ _ fun x a=>by
  obtain⟨-,e,m,o⟩:=h.Y7 x a;exact⟨by rcases e with e|e<;>omega,m.1,o.1⟩]
 rw[KL,tY _ _ fun x a=>(h.req x a).2.2.1];show Y8 _ (LM.app (.fml T.f) (LM.app (.FT T.low.toNat T.high.toNat) _))=_;rw[KL,KL,KL,dY _ _ fun c r n u=>by have:=(h.combo c r).2.2.2 n u;omega];have j:∀ U:Tn,U.H2=[]->Y8 (if T.H2=[]then[]else[.tie T.H2]) U={ U with H2:=T.H2 }:=by
  intro U i;split
  ·rename_i d;rw[d];cases U;cases i;rfl
  ·rfl
 have l:∀ U:Tn,U.G4=0->Y8 (if T.G4=0 then[]else[.G4 T.G4.toNat]) U={ U with G4:=T.G4 }:=by
  intro U i;split
  ·rename_i d;rw[d];cases U;cases i;rfl
  ·show({ U with G4:=(T.G4.toNat:Int) }:Tn)=_;rw[Int.toNat_of_nonneg h.G4.1]
 rw[j _ rfl,l _ rfl];show LM.app (.times T.t.q.toNat T.t.b.toNat T.t.g.toNat T.t.p.toNat T.t.s.toNat) (LM.app (.C9 T.C9.toNat) _)=_;show(⟨T.name,[]++T.F9,[]++T.E9,[]++T.reqs,(T.low.toNat:Int),(T.high.toNat:Int),T.f,T.H2,T.G4,[]++T.C8,(T.C9.toNat:Int),⟨(T.t.q.toNat:Int),(T.t.b.toNat:Int),(T.t.g.toNat:Int),(T.t.p.toNat:Int),(T.t.s.toNat:Int)⟩⟩:Tn)=T;rw[Int.toNat_of_nonneg h.low.1,Int.toNat_of_nonneg h.high.1,Int.toNat_of_nonneg h.C9.1,Int.toNat_of_nonneg v.1,Int.toNat_of_nonneg y.1,Int.toNat_of_nonneg z.1,Int.toNat_of_nonneg A.1,Int.toNat_of_nonneg B.1];rfl
def in9 {n:Int}(h:In9 n):Le9 n.toNat:=by obtain⟨a,b⟩:=h;unfold Le9;omega
def Y6 {a b:Type}{f:LM->Option b}{g:a->LM}{l:List a}(h:∀ x,f (g x)=none):(l.map g).filterMap f=[]:=by
 rw[List.filterMap_map,List.filterMap_eq_nil_iff];intro x _;exact h x
def HK {a b:Type}{f:LM->Option b}{g:a->LM}{v:a->b}(h:∀ x,f (g x)=some (v x)):∀ {l:List a},(l.map g).filterMap f=l.map v:=by
 intro l;induction l with
 |nil=>rfl
 |cons x l c=>rw[OW,List.filterMap_cons,h x,c];rfl
def Jt {a:Type}{f:LM->Option a}{p:Prop} [Decidable p] {m:LM}(h:f m=none):(if p then[]else[m]).filterMap f=[]:=by
 split
 ·rfl
 ·simp[h]
def Ox:∀ {l:List Int},(∀ n∈l,0<=n)->l.Nodup->(l.map Int.toNat).Nodup:=by
 intro l;induction l with
 |nil=>intro _ _;exact List.nodup_nil
 | cons x l ih=>
   intro h c;rw[OW,List.nodup_cons];rw[List.nodup_cons]at c;refine⟨fun b=>?_,ih (fun n b=>h n (Ci _ b)) c.2⟩;obtain⟨y,a,d⟩:=GI.1 b;have e:=h x (Cw ..);have f:=h y (Ci _ a);have:y=x:=om;subst this;exact c.1 a
def LM.rk:LM->Nat
 | .AQ _=>0
 | .lot .. =>1
 | .Y7 .. =>2
 | .req .. =>3
 | .FT .. =>4
 | .fml _=>5
 | .tie _=>6
 | .G4 _=>7
 | .combo _=>8
 | .C9 _=>9
 | .times .. =>10
def yu {a b:LM}(h:a.word=b.word):a.rk=b.rk:=by
 cases a<;>cases b<;>first|rfl|(simp[LM.word]at h)
def LB (k:Nat) (l:List LM):Prop:=∀ b∈l,k<=b.rk
def PW (l:List LM):Prop:=l.Pairwise fun a b=>a.word=b.word->a.once=false
def dZ:LB k []:=fun b h=>by cases h
def LB.mono {j:Nat}{l:List LM}(h:LB k l) (c:j<=k):LB j l:=fun b a=>W5 c (h b a)
def KM {m:LM}{l:List LM}(h:k<=m.rk) (c:LB k l):LB k (m::l):=fun b a=>(V9.1 a).elim (fun e=>e ▸ h) (c b)
def WO {a:Type}{g:a->LM}{s:List a}{l:List LM}(h:∀ x,k<=(g x).rk) (d:LB k l):LB k (s.map g++l):=fun b c=>
 (An.1 c).elim (fun e=>by obtain⟨x,-,rfl⟩:=GI.1 e;exact h x) (d b)
def tZ {p:Prop} [Decidable p] {m:LM}{l:List LM}(h:k<=m.rk) (a:LB k l):LB k ((if p then[]else[m])++l):=by
 split
 ·exact a
 ·exact KM h a
def KN {m:LM}{l:List LM}(h:m.rk<k) (c:LB k l) (d:PW l):PW (m::l) :=
 List.pairwise_cons.2 ⟨fun b a e=>by have:=yu e;have:=c b a;omega,d⟩
def WQ {a:Type}{g:a->LM}{s:List a}{l:List LM}(h:∀ x,(g x).once=false) (b:PW l):PW (s.map g++l):=by
 induction s with
 |nil=>exact b
 |cons x s c=>exact List.pairwise_cons.2 ⟨fun _ _ _=>h x,c⟩
def tf {p:Prop} [Decidable p] {m:LM}{l:List LM}(h:m.rk<k) (b:LB k l) (a:PW l):PW ((if p then[]else[m])++l):=by
 split
 ·exact a
 ·exact KN h b a
def yv (h:BL T):XX (Jq T):=by
 have i:(Jq T).filterMap VO=(T.F9.map Lot.id).map Int.toNat:=by
  unfold Jq;simp only[List.filterMap_cons,List.filterMap_append,List.filterMap_nil,VO];rw[HK (v:=fun l:Lot=>l.id.toNat) (fun x=>rfl),Y6 (fun x=>rfl),Y6 (fun x=>rfl),Jt rfl,Jt rfl,Y6 (fun x=>rfl)];simp[Td]
 have e:(Jq T).filterMap VP=T.E9.map S8.name:=by
  unfold Jq;simp only[List.filterMap_cons,List.filterMap_append,List.filterMap_nil,VP];rw[Y6 (fun x=>rfl),HK (v:=S8.name) (fun x=>rfl),Y6 (fun x=>rfl),Jt rfl,Jt rfl,Y6 (fun x=>rfl)];simp
 have u:(Jq T).filterMap XV=T.reqs.map fun _=>():=by
  unfold Jq;simp only[List.filterMap_cons,List.filterMap_append,List.filterMap_nil,XV];rw[Y6 (fun x=>rfl),Y6 (fun x=>rfl),HK (v:=fun _:Req=>()) (fun x=>rfl),Jt rfl,Jt rfl,Y6 (fun x=>rfl)];simp
 have o:(Jq T).filterMap XW=T.C8.map fun _=>():=by
  unfold Jq;simp only[List.filterMap_cons,List.filterMap_append,List.filterMap_nil,XW];rw[Y6 (fun x=>rfl),Y6 (fun x=>rfl),Y6 (fun x=>rfl),Jt rfl,Jt rfl,HK (v:=fun _:List Int=>()) (fun x=>rfl)];simp
 obtain⟨J,K,L,M,N⟩:=h.t;refine⟨?_,?_,by rw[i];simpa using h.F9,by rw[e];exact h.crs,by rw[e];simpa using h.E9,by rw[u];simpa using h.reqs,by rw[o];simpa using h.C8,?_⟩
 ·intro m a;unfold Jq at a;simp only[V9,An,GI,LN,MJ]at a;rcases a with rfl|⟨x,d,rfl⟩|⟨x,d,rfl⟩|⟨x,d,rfl⟩|rfl|rfl|a|a|⟨x,d,rfl⟩|rfl|rfl
  ·exact h.name
  ·obtain⟨q1,q2,q3⟩:=h.lot x d;exact⟨om,by unfold Le9;omega,in9 q3⟩
  ·obtain⟨q1,q2,q3,q4⟩:=h.Y7 x d;exact⟨q1,om,in9 q3,in9 q4⟩
  ·obtain⟨q1,q2,q3⟩:=h.req x d;exact⟨q1,q2,in9 q3⟩
  ·exact⟨in9 h.low,in9 h.high⟩
  ·exact h.f
  ·split at a
   ·cases a
   ·rename_i z;rw[Cb]at a;subst a;exact⟨z,h.tie,h.tnd,h.H2⟩
  ·split at a
   ·cases a
   ·rw[Cb]at a;subst a;exact in9 h.G4
  ·obtain⟨q1,q2,q3,q4⟩:=h.combo x d;refine⟨by simpa using q1,fun n j=>?_,Ox (fun n j=>by have:=q4 n j;omega) q3,by simpa using q2⟩;obtain⟨y,hy,rfl⟩:=GI.1 j;have:=q4 y hy;omega
  ·exact in9 h.C9
  ·exact⟨in9 J,in9 K,in9 L,in9 M,in9 N⟩
 ·rw[i];exact Ox (fun n j=>by obtain⟨x,d,rfl⟩:=GI.1 j;have:=h.lot x d;omega) h.ids
 ·unfold Jq;have I:LB 9 [.C9 T.C9.toNat,.times T.t.q.toNat T.t.b.toNat T.t.g.toNat T.t.p.toNat T.t.s.toNat]:=KM (Cj rfl) (KM (Cj rfl) dZ);have Y:PW [.C9 T.C9.toNat,.times T.t.q.toNat T.t.b.toNat T.t.g.toNat T.t.p.toNat T.t.s.toNat]:=KN (Cj rfl) (KM (k:=10) (Cj rfl) dZ) (KN (k:=11) (Cj rfl) dZ List.Pairwise.nil);have D:=WO (k:=8) (g:=fun c:List Int=>LM.combo (c.map Int.toNat)) (s:=T.C8) (fun _=>Cj rfl) (I.mono om);have X:=WQ (g:=fun c:List Int=>LM.combo (c.map Int.toNat)) (s:=T.C8) (fun _=>rfl) Y;have C:=tZ (k:=7) (p:=T.G4=0) (m:= .G4 T.G4.toNat) (Cj rfl) (D.mono om);have W:=tf (p:=T.G4=0) (m:= .G4 T.G4.toNat) (Cj rfl) D X;have B:=tZ (k:=6) (p:=T.H2=[]) (m:= .tie T.H2) (Cj rfl) (C.mono om);have V:=tf (p:=T.H2=[]) (m:= .tie T.H2) (Cj rfl) C W;have A:=KM (m:= .fml T.f) (k:=5) (Cj rfl) (B.mono om);have U:=KN (m:= .fml T.f) (Cj rfl) B V;have H:=KM (m:= .FT T.low.toNat T.high.toNat) (k:=4) (Cj rfl) (A.mono om);have S:=KN (m:= .FT T.low.toNat T.high.toNat) (Cj rfl) A U;have G:=WO (k:=3) (g:=fun r:Req=>LM.req r.name r.rel r.value.toNat) (s:=T.reqs) (fun _=>Cj rfl) (H.mono om);have R:=WQ (g:=fun r:Req=>LM.req r.name r.rel r.value.toNat) (s:=T.reqs) (fun _=>rfl) S;have F:=WO (k:=2) (g:=fun c:S8=>LM.Y7 c.name c.kind.toNat c.low.toNat c.high.toNat c.less) (s:=T.E9) (fun _=>Cj rfl) (G.mono om);have Q:=WQ (g:=fun c:S8=>LM.Y7 c.name c.kind.toNat c.low.toNat c.high.toNat c.less) (s:=T.E9) (fun _=>rfl) R;have E:=WO (k:=1) (g:=fun l:Lot=>LM.lot l.id.toNat l.G4.toNat) (s:=T.F9) (fun _=>Cj rfl) (F.mono om);have O:=WQ (g:=fun l:Lot=>LM.lot l.id.toNat l.G4.toNat) (s:=T.F9) (fun _=>rfl) Q;exact KN (m:= .AQ T.name) (Cj rfl) E O
def AV6 (h:BL T):∀ w∈six,∃ m∈Jq T,m.word=w:=by
 intro w a;unfold six at a;simp only[V9,LN,MJ]at a;unfold Jq;rcases a with rfl|rfl|rfl|rfl|rfl|rfl
 ·exact⟨.AQ T.name,by simp,rfl⟩
 ·obtain⟨l,c⟩:=List.exists_mem_of_ne_nil _ h.HM;exact⟨.lot l.id.toNat l.G4.toNat,by simp;exact⟨l,c,rfl,rfl⟩,rfl⟩
 ·exact⟨.FT T.low.toNat T.high.toNat,by simp,rfl⟩
 ·exact⟨.fml T.f,by simp,rfl⟩
 ·exact⟨.C9 T.C9.toNat,by simp,rfl⟩
 ·exact⟨.times T.t.q.toNat T.t.b.toNat T.t.g.toNat T.t.p.toNat T.t.s.toNat,by simp,rfl⟩
def yw:∀ {ms:List LM},(∀ m∈ms,m.Ok0)->EK Lin (ms.map BI) ms/\∀ l∈ms.map BI,(10:UInt8)∉l:=by
 intro ms;induction ms with
 |nil=>intro _;exact⟨trivial,fun l a=>by cases a⟩
 | cons m ms ih=>
   intro h;obtain⟨b,c⟩:=ih fun x d=>h x (Ci _ d);obtain⟨h3,h4⟩:=Ap4 (h m (Cw ..));refine⟨⟨h3,b⟩,fun l a=>?_⟩;rcases V9.1 a with rfl|a
   ·exact h4
   ·exact c l a
def Oo (h:BL T):Bo (DY T)= .ok T:=by
 have a:=yv h;obtain⟨b,c⟩:=yw a.each;have:=Xh a b c (AV6 h);rw[AV5 h]at this;exact this
end

end Go.Proofs.T
