/- A DY that was printed is read as it was. -/
import Derived.Test.YtgjocfjdecjhoaaGreatDoorRA
set_option linter.unusedSimpArgs false
set_option linter.unusedVariables false
set_option linter.defProp false
set_option maxHeartbeats 32000000
set_option maxRecDepth 100000
namespace Go.Proofs.T
open Go Go.Ab
def At (D7:List Tok) (k:Nat) (ts post:List By):Prop:=(D7.map Prod.fst).drop k=ts++post
theorem At.head {D7:List Tok}{k:Nat}{t:By}{ts post:List By}(h:At D7 k (t::ts) post):(AZ D7 k).1=t:=by
 have h1:((D7.map Prod.fst).drop k)[0]? =some t:=by rw[show _=_ from h];rfl
 rw[List.getElem?_drop,Nat.add_zero,List.getElem?_map]at h1;obtain⟨x,h2,h3⟩:=Option.map_eq_some_iff.1 h1;unfold AZ;rw[List.getD_eq_getElem?_getD,h2];exact h3
theorem At.skip {D7:List Tok}{k:Nat}{ts us post:List By}(h:At D7 k (ts++us) post):At D7 (k+ts.length) us post:=by
 unfold At at *;rw[<- List.drop_drop,h,List.append_assoc,List.drop_left]
theorem At.pre {D7:List Tok}{k:Nat}{ts us post:List By}(h:At D7 k (ts++us) post):At D7 k ts (us++post):=by
 unfold At at *;rw[h,List.append_assoc]
theorem At.next {D7:List Tok}{k:Nat}{t:By}{us post:List By}(h:At D7 k (t::us) post):At D7 (k+1) us post:=At.skip (ts:=[t]) h
theorem At.lt {D7:List Tok}{k:Nat}{t:By}{us post:List By}(h:At D7 k (t::us) post):k+us.length<D7.length:=by
 have:=congrArg List.length (show _=_ from h);simp at this;omega
theorem At.post {D7:List Tok}{k:Nat}{ts post:List By}(h:At D7 k ts post):(AZ D7 (k+ts.length)).1=post.getD 0 []:=by
 have h1:(D7.map Prod.fst).drop (k+ts.length)=post:=by
  have:=At.skip (ts:=ts) (us:=[]) (post:=post) (k:=k) (D7:=D7) (by rw[List.append_nil];exact h);exact this
 cases hp:post with
 | nil=>
   rw[hp]at h1;have hl:D7.length<=k+ts.length:=by simpa using h1
   unfold AZ;rw[List.getD_eq_getElem?_getD,List.getElem?_eq_none hl];rfl
 | cons t us=>
   have:At D7 (k+ts.length) (t::us) []:=by unfold At;rw[h1,hp,List.append_nil]
   rw[this.head];rfl
section
variable {D7:List Tok}
noncomputable def Fa (D7:List Tok) (fu:Nat):Nat->Nat->Except Er Fx:=PV (ni D7 fu) D7
noncomputable def Tm (D7:List Tok) (fu:Nat):Nat->Nat->Except Er Fx:=fun k p=>MC (Fa D7 fu) [42,47] D7 k p
theorem NC {fu k p:Nat}:ni D7 (fu+1) k p=MC (Tm D7 fu) [43,45] D7 k p:=rfl
def Q2 (D7:List Tok) (fu g:Nat) (e:Ex) (d m:Nat):Prop:=∀ pos p post,At D7 pos (V0 g 2 e) post->Fa D7 fu pos p= .ok (e,d,pos+(V0 g 2 e).length,p+m)
def Q1 (D7:List Tok) (fu g:Nat) (e:Ex) (d m:Nat):Prop:=∀ pos p post,At D7 pos (V0 g 1 e) post->Tm D7 fu pos p=FD (Fa D7 fu) [42,47] D7 (D7.length-(pos+(V0 g 1 e).length)) (e,d,pos+(V0 g 1 e).length,p+m)
def Q0 (D7:List Tok) (fu g:Nat) (e:Ex) (d m:Nat):Prop:=∀ pos p post,At D7 pos (V0 g 0 e) post->opB [42,47] (post.getD 0 [])=false->MC (Tm D7 fu) [43,45] D7 pos p=FD (Tm D7 fu) [43,45] D7 (D7.length-(pos+(V0 g 0 e).length)) (e,d,pos+(V0 g 0 e).length,p+m)
theorem FE {A:Nat->Nat->Except Er Fx}{ops:By}{f:Nat}{e:Ex}{d k p:Nat}(h:opB ops (AZ D7 k).1=false):FD A ops D7 f (e,d,k,p)= .ok (e,d,k,p):=by
 cases f with
 |zero=>rfl
 |succ f=>rw[Bw,if_neg (by rw[h];simp)]
theorem NF {fu g:Nat}{e:Ex}{d m:Nat}(ht:V0 g 1 e=V0 g 2 e) (h:Q2 D7 fu g e d m):Q1 D7 fu g e d m:=by
 intro pos p post hA;rw[ht]at hA ⊢;unfold Tm MC;rw[h pos p post hA,Bq]
theorem NG {fu g:Nat}{e:Ex}{d m:Nat}(ht:V0 g 0 e=V0 g 1 e) (h:Q1 D7 fu g e d m):Q0 D7 fu g e d m:=by
 intro pos p post hA hp;rw[ht]at hA ⊢;have h1:=h pos p post hA;rw[FE (by rw[hA.post];exact hp)]at h1;show HN (Tm D7 fu pos p) _=_;rw[h1,Bq]
theorem AH4 {fu:Nat}(k p:Nat):Bd k p (Fa D7 fu k p):=ig (zT _) k p
theorem An3 {fu:Nat}(k p:Nat):Bd k p (Tm D7 fu k p):=OH AH4 k p
theorem SV {A:Nat->Nat->Except Er Fx}{ops op:By}{a b:Ex}{da db k1 k2 p1 p2:Nat}(hA:∀ k p,Bd k p (A k p)) (hk:k1<D7.length) (ho:(AZ D7 k1).1=op) (hop:opB ops op=true) (hb:A (k1+1) p1= .ok (b,db,k2,p2)) (hk2:k2<=D7.length) :
  FD A ops D7 (D7.length-k1) (a,da,k1,p1)=FD A ops D7 (D7.length-k2) (.mk op 0 0 [] [a,b],1+max da db,k2,p2+1):=by
 obtain⟨f,hf⟩:∃ f,D7.length-k1=f+1:=⟨D7.length-k1-1,om⟩
 rw[hf,Bw,ho,if_pos hop,hb,Bq]
 try dsimp only
 have hlt:=(hA _ _ _ _ _ _ hb).1;exact aJ (k0:=0) (fun k p _ e d k' p' h=>(hA k p e d k' p' h).1) _ _ _ _ _ _ (Nat.zero_le _) om (Nat.le_refl _) om (fun k hk=>zU hk)
theorem Gx {g F8:Nat}{o:By}{a b:Ex}(h:o=[43]\/o=[45]\/o=[42]\/o=[47]):V0 (g+1) F8 (.mk o 0 0 [] [a,b])=Ls (decide (lvl o<F8)) (V0 g (lvl o) a++o::V0 g (lvl o+1) b):=by
 have hn:o≠K9/\o≠nmB/\¬ (o=R3\/o=R6):=by rcases h with rfl|rfl|rfl|rfl<;>decide
 show Ls _ (if _ then _ else _)=_;rw[if_neg hn.1,if_neg hn.2.1]
 try dsimp only
 rw[if_neg hn.2.2]
theorem Wn {g F8:Nat}{o:By}{a b:Ex}(h:o=R3\/o=R6) (hl:F8<=2):V0 (g+1) F8 (.mk o 0 0 [] [a,b])=o::[40]::(V0 g 0 a++[44]::(V0 g 0 b++[[41]])):=by
 have hn:o≠K9/\o≠nmB:=by rcases h with rfl|rfl<;>decide
 have hv:lvl o=2:=by rcases h with rfl|rfl<;>rfl
 show Ls _ (if _ then _ else _)=_;rw[if_neg hn.1,if_neg hn.2]
 try dsimp only
 rw[if_pos h,hv];unfold Ls;rw[if_neg (by simp;omega)]
theorem tH {fu g:Nat}{e:Ex}{d m:Nat}(ht:V0 g 2 e=[40]::(V0 g 0 e++[[41]])) (h:Q0 D7 fu g e d m):Q2 D7 (fu+1) g e d m:=by
 intro pos p post hA;rw[ht]at hA ⊢;have h1:=hA.head;have h2:=hA.next;have h3:=h (pos+1) p ([[41]]++post) h2.pre (by rfl);have h4:=h2.skip.head;rw[FE (by rw[h4];rfl)]at h3;show PV _ D7 pos p=_;unfold PV;rw[h1,if_neg (by decide),if_pos rfl,NC,h3,Bq]
 try dsimp only
 unfold Oz;rw[if_pos h4,Bq];simp;omega
theorem zV {k m:Nat}{e:Ex}(h:FW k m e):∀ (g fu:Nat),k<=g->(k<=fu->Q0 D7 fu g e k m)/\(k+1<=fu->Q1 D7 fu g e k m/\Q2 D7 fu g e k m):=by
 induction h with
 | @num n d h=>
   intro g fu hg;obtain⟨g,rfl⟩:∃ x,g=x+1:=⟨g-1,om⟩
   have ht:∀ F8,F8<=2->V0 (g+1) F8 (.mk K9 n d [] [])=[deT n d]:=by
    intro F8 hl;show Ls _ (if _ then _ else _)=_;rw[if_pos rfl];unfold Ls;rw[if_neg (by rw[show lvl K9=2 from rfl];simp;omega)]
   have h2:Q2 D7 fu (g+1) (.mk K9 n d [] []) 1 1:=by
    intro pos p post hA;rw[ht 2 om]at hA ⊢;show PV _ D7 pos p=_;unfold PV;have hd:OZ O6 (AZ D7 pos).1=true:=by
     rw[hA.head];rcases h.lex with⟨c,w,e,h1⟩|⟨c,w,x,v,e,h1,_⟩
     ·rw[e];rw[List.all_cons,Bool.and_eq_true]at h1;exact h1.1
     ·rw[e];rw[List.all_cons,Bool.and_eq_true]at h1;exact h1.1
    rw[if_pos hd,h.dec D7 pos p hA.head];rfl
   have h1:=NF ((ht 1 om).trans (ht 2 om).symm) h2;exact⟨fun _=>NG ((ht 0 om).trans (ht 1 om).symm) h1,fun _=>⟨h1,h2⟩⟩
 | @name nm q1 q2 q3=>
   intro g fu hg;obtain⟨g,rfl⟩:∃ x,g=x+1:=⟨g-1,om⟩
   have ht:∀ F8,F8<=2->V0 (g+1) F8 (.mk nmB 0 0 nm [])=[nm]:=by
    intro F8 hl;show Ls _ (if _ then _ else _)=_;rw[if_neg (by decide),if_pos rfl];unfold Ls;rw[if_neg (by rw[show lvl nmB=2 from rfl];simp;omega)]
   have h2:Q2 D7 fu (g+1) (.mk nmB 0 0 nm []) 1 1:=by
    intro pos p post hA;rw[ht 2 om]at hA ⊢;show PV _ D7 pos p=_;unfold PV;rw[hA.head];obtain⟨c,w,e,c1,c2⟩:=Lt q1;have hd:OZ O6 nm=false:=by
     rw[e];cases hx:on O6 c with
     |false=>exact hx
     |true=>rw[Vm hx]at c1;cases c1
    have hp:nm≠[40]:=by rintro rfl;cases e;cases c1
    rw[if_neg (by rw[hd];simp),if_neg hp,if_neg (by simp[q2,q3]),if_pos q1];rfl
   have h1:=NF ((ht 1 om).trans (ht 2 om).symm) h2;exact⟨fun _=>NG ((ht 0 om).trans (ht 1 om).symm) h1,fun _=>⟨h1,h2⟩⟩
 | @bin k j m i o a b h ha hb iha ihb=>
   intro g fu hg;obtain⟨g,rfl⟩:∃ x,g=x+1:=⟨g-1,om⟩
   have key:lvl o=0/\opB [43,45] o=true\/lvl o=1/\opB [42,47] o=true:=by
    rcases h with rfl|rfl|rfl|rfl
    ·exact .inl ⟨rfl,by rfl⟩
    ·exact .inl ⟨rfl,by rfl⟩
    ·exact .inr ⟨rfl,by rfl⟩
    ·exact .inr ⟨rfl,by rfl⟩
   rcases key with⟨hl,hop⟩|⟨hl,hop⟩
   ·have t0:V0 (g+1) 0 (.mk o 0 0 [] [a,b])=V0 g 0 a++o::V0 g 1 b:=by rw[Gx h,hl];rfl
    have t1:V0 (g+1) 1 (.mk o 0 0 [] [a,b])=[40]::(V0 g 0 a++o::V0 g 1 b++[[41]]):=by rw[Gx h,hl];rfl
    have t2:V0 (g+1) 2 (.mk o 0 0 [] [a,b])=[40]::(V0 g 0 a++o::V0 g 1 b++[[41]]):=by rw[Gx h,hl];rfl
    have h0:∀ fu,1+max k j<=fu->Q0 D7 fu (g+1) (.mk o 0 0 [] [a,b]) (1+max k j) (m+i+1):=by
     intro fu hfu pos p post hA hp;rw[t0]at hA ⊢;have a1:=(iha g fu om).1 om pos p _ hA.pre (by
      rcases h with rfl|rfl|rfl|rfl<;>first|rfl|(cases hl))
     have hA2:=hA.skip;have b1:=((ihb g fu om).2 om).1 (pos+(V0 g 0 a).length+1) (p+m) post hA2.next;rw[FE (by rw[hA2.next.post];exact hp)]at b1;have hlt:=hA2.lt;rw[a1,SV An3 om hA2.head hop b1 om];simp only[List.length_append,List.length_cons];congr 1
     ·omega
     ·simp only[Prod.mk.injEq,true_and];omega
    refine⟨h0 fu,fun hfu=>?_⟩;obtain⟨fu,rfl⟩:∃ x,fu=x+1:=⟨fu-1,om⟩
    have h2:=tH (by rw[t2,t0]) (h0 fu om);exact⟨NF (by rw[t1,t2]) h2,h2⟩
   ·have t0:V0 (g+1) 0 (.mk o 0 0 [] [a,b])=V0 g 1 a++o::V0 g 2 b:=by rw[Gx h,hl];rfl
    have t1:V0 (g+1) 1 (.mk o 0 0 [] [a,b])=V0 g 1 a++o::V0 g 2 b:=by rw[Gx h,hl];rfl
    have t2:V0 (g+1) 2 (.mk o 0 0 [] [a,b])=[40]::(V0 g 1 a++o::V0 g 2 b++[[41]]):=by rw[Gx h,hl];rfl
    have h1:∀ fu,1+max k j<=fu->Q1 D7 fu (g+1) (.mk o 0 0 [] [a,b]) (1+max k j) (m+i+1):=by
     intro fu hfu pos p post hA;rw[t1]at hA ⊢;have a1:=((iha g fu om).2 om).1 pos p _ hA.pre;have hA2:=hA.skip;have b1:=((ihb g fu om).2 om).2 (pos+(V0 g 1 a).length+1) (p+m) post hA2.next;have hlt:=hA2.lt;rw[a1,SV AH4 om hA2.head hop b1 om];simp only[List.length_append,List.length_cons];congr 1
     ·omega
     ·simp only[Prod.mk.injEq,true_and];omega
    have h0:∀ fu,1+max k j<=fu->Q0 D7 fu (g+1) (.mk o 0 0 [] [a,b]) (1+max k j) (m+i+1):=fun fu hfu=>NG (by rw[t0,t1]) (h1 fu hfu);refine⟨h0 fu,fun hfu=>?_⟩;obtain⟨fu,rfl⟩:∃ x,fu=x+1:=⟨fu-1,om⟩
    exact⟨h1 _ om,tH (by rw[t2,t0]) (h0 fu om)⟩
 | @mm k j m i o a b h ha hb iha ihb=>
   intro g fu hg;obtain⟨g,rfl⟩:∃ x,g=x+1:=⟨g-1,om⟩
   have h2:1+max k j<=fu->Q2 D7 fu (g+1) (.mk o 0 0 [] [a,b]) (1+max k j) (m+i+1):=by
    intro hfu pos p post hA;obtain⟨fu,rfl⟩:∃ x,fu=x+1:=⟨fu-1,om⟩
    rw[Wn h om]at hA ⊢;have a1:=hA.head;have a2:=hA.next.head;have a3:=hA.next.next;have b1:=(iha g fu om).1 om (pos+1+1) p _ a3.pre (by rfl);have a4:=a3.skip;rw[FE (by rw[a4.head];rfl)]at b1;have b2:=(ihb g fu om).1 om (pos+1+1+(V0 g 0 a).length+1) (p+m) _ a4.next.pre (by rfl);have a5:=a4.next.skip;rw[FE (by rw[a5.head];rfl)]at b2;show PV _ D7 pos p=_;unfold PV;rw[a1,if_neg (by rcases h with rfl|rfl<;>decide),if_neg (by rcases h with rfl|rfl<;>decide),if_pos (by rcases h with rfl|rfl<;>decide)];unfold Oz;rw[if_pos a2,Bq]
    try dsimp only
    rw[NC,b1,Bq]
    try dsimp only
    rw[if_pos a4.head,Bq]
    try dsimp only
    rw[NC,b2,Bq]
    try dsimp only
    rw[if_pos a5.head,Bq];simp;omega
   have ht:∀ x y,x<=2->y<=2->V0 (g+1) x (.mk o 0 0 [] [a,b])=V0 (g+1) y (.mk o 0 0 [] [a,b]):=fun x y hx hy=>by rw[Wn h hx,Wn h hy]
   have h1:=fun hfu=>NF (ht 1 2 om om) (h2 hfu);exact⟨fun hfu=>NG (ht 0 1 om om) (h1 hfu),fun hfu=>⟨h1 om,h2 om⟩⟩
theorem sJ {k m:Nat}{e:Ex}(h:FW k m e):∀ g F8,k<=g->k<=(V0 g F8 e).length:=by
 have hp:∀ (b:Bool) (ts:List By),ts.length<=(Ls b ts).length:=fun b ts=>by unfold Ls;split<;>simp;omega
 induction h with
 | @num n d h=>
   intro g F8 hg;obtain⟨g,rfl⟩:∃ x,g=x+1:=⟨g-1,om⟩
   refine Nat.le_trans ?_ (hp _ _);rw[if_pos rfl];simp
 | @name nm q1 q2 q3=>
   intro g F8 hg;obtain⟨g,rfl⟩:∃ x,g=x+1:=⟨g-1,om⟩
   refine Nat.le_trans ?_ (hp _ _);rw[if_neg (by decide),if_pos rfl];simp
 | @bin k j m i o a b h ha hb iha ihb=>
   intro g F8 hg;obtain⟨g,rfl⟩:∃ x,g=x+1:=⟨g-1,om⟩
   rw[Gx h];refine Nat.le_trans ?_ (hp _ _);have:=iha g (lvl o) om;have:=ihb g (lvl o+1) om;simp;omega
 | @mm k j m i o a b h ha hb iha ihb=>
   intro g F8 hg;obtain⟨g,rfl⟩:∃ x,g=x+1:=⟨g-1,om⟩
   have hn:o≠K9/\o≠nmB:=by rcases h with rfl|rfl<;>decide
   refine Nat.le_trans ?_ (hp _ _);rw[if_neg hn.1,if_neg hn.2]
   try dsimp only
   rw[if_pos h];have:=iha g 0 om;have:=ihb g 0 om;simp;omega
theorem lF {k m g:Nat}{e:Ex}(h:FW k m e) (hg:k<=g) (hk:k<=12) (hm:m<=60) (ht:D7.map Prod.fst=V0 g 0 e++[[]]):nh D7= .ok e:=by
 have hl:D7.length=(V0 g 0 e).length+1:=by have:=congrArg List.length ht;simpa using this
 have hle:=sJ h g 0 hg;have hA:At D7 0 (V0 g 0 e) [[]]:=ht;have h0:=(zV (D7:=D7) h g (V0 g 0 e).length hg).1 hle 0 0 [[]] hA (by rfl);rw[FE (by rw[hA.post];rfl)]at h0;unfold nh;rw[hl,NC,h0,Bq]
 try dsimp only
 rw[if_pos (by rw[hA.post];rfl),if_neg (by simp;omega)]
end
section
variable {n:Nat}
def yH:∀ (f g n:Nat),n<f->n<g->dcF f n=dcF g n:=by
 intro f;induction f with
 |zero=>intro g n h;omega
 | succ f ih=>
   intro g n h1 h2;cases g with
   |zero=>omega
   | succ g=>
     show(if n<10 then[dgt n]else dcF f (n / 10)++[dgt n])=(if n<10 then[dgt n]else dcF g (n / 10)++[dgt n])
     by_cases h:n<10
     ·rw[z1z h,z1z h]
     ·rw[z0z h,z0z h,ih g (n / 10) om om]
def Ci (h:n<10):dcN n=[dgt n]:=by
 show(if n<10 then[dgt n]else _)=_;rw[z1z h]
def Ms (h:¬ n<10):dcN n=dcN (n / 10)++[dgt n]:=by
 show(if n<10 then[dgt n]else dcF n (n / 10)++[dgt n])=dcF (n / 10+1) (n / 10)++[dgt n]
 rw[z0z h,yH n (n / 10+1) (n / 10) om om]
def KO:∀ (k n:Nat),n<10 ^ (k+1)->(dcN n).length<=k+1:=by
 intro k;induction k with
 |zero=>intro n h;rw[Ci om];simp
 | succ k ih=>
   intro n h;by_cases h10:n<10
   ·rw[Ci h10];simp
   ·rw[Ms h10];have:=ih (n / 10) (by rw[Hr]at h;omega);simp;omega
def My:(dgt n).toNat=48+n % 10:=by
 unfold dgt;rw[UInt8.toNat_ofNat'];omega
def WQ:on O6 (dgt n)=true:=by
 unfold on O6;rw[My];have e1:decide (((48+n % 10:Nat):Int)<48)=false:=by rw[VR];omega
 have e2:decide ((57:Int)<((48+n % 10:Nat):Int))=false:=by rw[VR];omega
 rw[e1,e2];rfl
def Rv:∀ (f n:Nat),n<f->(dcN n).all (on O6)=true/\GI (dcN n)=n/\∃ c w,dcN n=c::w/\(c=48->n=0/\w=[]):=by
 intro f;induction f with
 |zero=>intro n h;omega
 | succ f ih=>
   intro n hf;by_cases h10:n<10
   ·rw[Ci h10];refine⟨by rw[Xp,WQ];rfl,?_,_,_,rfl,fun h=>⟨?_,rfl⟩⟩
    ·show 10*0+((dgt n).toNat-48)=n;rw[My];omega
    ·have:=congrArg UInt8.toNat h;rw[My]at this;change 48+n % 10=48 at this;omega
   ·obtain⟨h1,h2,c,w,h3,h4⟩:=ih (n / 10) om;rw[Ms h10];refine⟨by rw[rB,h1,Xp,WQ];rfl,?_,c,w++[dgt n],by rw[h3];rfl,fun h=>?_⟩
    ·have:GI (dcN (n / 10)++[dgt n])=10*GI (dcN (n / 10))+((dgt n).toNat-48):=by
      unfold GI;rw[gu];rfl
     rw[this,h2,My];omega
    ·have:=(h4 h).1;omega
def yI (n:Nat):Us (dcN n)=true/\GI (dcN n)=n:=by
 obtain⟨h1,h2,c,w,h3,h4⟩:=Rv (n+1) n (II _);refine⟨?_,h2⟩;unfold Us;rw[h1,h3];have hc:on O6 c=true:=by rw[h3,Xp,Q7]at h1;exact h1.1
 show(on O6 c&&true&&AE4 (c::w))=true;rw[hc];cases w with
 |nil=>rfl
 | cons x v=>
   show(true&&true&& !decide (c=48))=true;have:decide (c=48)=false:=z4z fun e=>by cases(h4 e).2
   rw[this];rfl
def pf (n:Nat):dcN n≠[]:=by
 obtain⟨-,-,c,w,h,-⟩:=Rv (n+1) n (II _);rw[h];simp
section
variable {D7:List Tok}{k:Nat}{T:Tn}
def AC0:By:=[109,111,115,116]
end
end
end Go.Proofs.T
namespace Go.Proofs.T
open Go Go.Ab
open Nat (reduceMul reduceEqDiff reduceAdd)
section
variable {n:Nat}{Z:St}
def kI (h:n<18446744073709551616):(dcN n).length<=20:=KO 19 n om
def qJ:∀ (f n:Nat){Z:St},n<f->n<=9223372036854775807 ->
  Ev (gO 243 [.int .i64 (n:Nat)] Z) (fun r=>∃ Z',r=⟨false,str (dcN n),Z'⟩/\Ext Z Z') ⟨⟩:=by
 intro f;induction f with
 |zero=>intro n Z h;omega
 | succ f ih=>
   intro n Z hf hn;refine C9 Tryz.func243 rfl rfl ?_;have hlt:decide ((n:Int)<0)=false:=by first|(simp;done)|(simp;omega)
   by_cases h10:n<10
   ·have hc:decide ((n:Int)<10)=true:=by first|(simp;done)|(simp;omega)
    have hd:UInt8.ofNat (48+(n:Int)).toNat=dgt n:=by unfold dgt;congr 1;omega
    simp(maxSteps:=8000000) (disch:=first|exact dS|fail) only[↓bD,bW,reduceMul,reduceEqDiff,reduceAdd,Nat.reduceBEq,reduceIte,Option.isNone_none,hlt,hc,D9,F4,QA,MH,Fp,Nat.reduceMul,hd,Tryz.results243];rw[Ci h10];exact⟨_,rfl,(Ext.refl _).W6 _⟩
   ·have hc:decide ((n:Int)<10)=false:=by first|(simp;done)|(simp;omega)
    have hq:IntKind.i64.wrap ((n:Int).tdiv 10)=((n / 10:Nat):Int):=by
     rw[show(n:Int).tdiv 10=((n / 10:Nat):Int)from rfl];exact wrap64_in om om
    refine gS1 (aI hlt (aI hc hq)) ?_;refine(ih (n / 10) om om).mono ?_;rintro r ⟨Z',rfl,hE⟩;have hr:(n:Int).tmod 10=((n % 10:Nat):Int):=rfl;refine gS1 hr ?_;refine(ih (n % 10) om om).mono ?_;rintro r ⟨Z2,rfl,hE2⟩;have hlen:=kI (n:=n / 10) om;have h1:dcN (n % 10)=[dgt n]:=by rw[Ci om];unfold dgt;congr 2;omega
    rw[h1];refine gS1 @Tryz.results243 ?_;rw[<- Ms h10];exact⟨_,rfl,hE.trans hE2⟩
def AP7 (h:n<=1000000000):RQ (n:Int) 1:=⟨om,om,om,om,by simp⟩
def qK (h:n<=1000000000):Ev (gO 204 [P8 (n:Nat) 1] Z) (fun r=>∃ Z',r=⟨false,str (dcN n),Z'⟩/\Ext Z Z') ⟨⟩:=by
 refine C9 Tryz.func204 rfl rfl ?_;unfold P8;refine gS ?_;refine(Qi (AP7 h)).mono ?_;rintro r ⟨Z2,rfl,hE2⟩;have r1:Z2.row Z.n=some [.int .i64 (n:Nat),.int .i64 1]:=eT (hE2.row (cL)) cL;refine gS1 r1 ?_;refine(qJ _ n (II _) om).mono ?_;rintro r ⟨Z3,rfl,hE3⟩;refine gS1 @Tryz.results204 ?_;exact⟨_,rfl,Ext.trans (eX) (hE2.trans hE3)⟩
def Ig (h:n<=1000000000):Ev (gO 173 [.int .i64 (n:Nat)] Z) (fun r=>∃ Z',r=⟨false,str (dcN n),Z'⟩/\Ext Z Z') ⟨⟩:=by
 refine C9 Tryz.func173 rfl rfl ?_;refine gS ?_;refine(qK h).mono ?_;rintro r ⟨Z2,rfl,hE2⟩;refine gS1 @Tryz.results173 ?_;exact⟨_,rfl,hE2⟩
def qL (h:n<=1000000000):(dcN n).length<=10:=KO 9 n om
def ZA {n d:Int}(h:RQ n d) (h0:0<=n) (hd:(1000000:Int) % d=0):Ev (gO 205 [P8 n d] Z) (fun r=>∃ Z',r=⟨false,str (deT n d),Z'⟩/\Ext Z Z') ⟨⟩:=by
 obtain⟨N,rfl⟩:=Fo h0;obtain⟨D,rfl⟩:=Fo (by have:=h.d1;omega:0<=d);have d1:=h.d1;have d2:=h.d2;have n2:=h.n2;have hD:0<D:=om;obtain⟨m,hm⟩:=nm (N % D);have last:∀ x,x=10 ^ 6*m->x % D=0:=by
  intro x hx;have hdd:(10 ^ 6) % D=0:=Int.natCast_inj.1 (by rw[Int.natCast_emod];exact hd);rw[hx,qM,hdd,Fp,qO]
 have f0:∀ j D,frT j 0 D=[]:=fun j D=>by cases j<;>rfl
 have fs:∀ j N3,N3≠0->frT (j+1) N3 D=dcN (10*N3 / D)++frT j (10*N3 % D) D:=fun j N3 h=>by show(if N3=0 then _ else _)=_;rw[z0z h]
 have hde:deT (N:Int) (D:Int)=dcN (N / D)++(if N % D=0 then[]else 46::frT 6 (N % D) D):=rfl;rw[hde];clear hd;refine C9 Tryz.func205 rfl rfl ?_;unfold P8;have z0:decide ((D:Int)=0)=false:=dF;obtain⟨q,hq⟩:=nm (N / D);have b1:q<=1000000000:=by rw[<- hq];exact AF2 om
 have b2:m<D:=by rw[<- hm];exact MN _ hD
 have e1:IntKind.i64.wrap ((N:Int).tdiv D)=(q:Int):=by
  rw[show(N:Int).tdiv D=((N / D:Nat):Int)from rfl,hq];exact wrap64_in om om
 have e2:(N:Int).tmod D=(m:Int):=by rw[<- hm];rfl
 refine gS1 (aI z0 (aI e1 e2)) ?_;refine(Ig b1).mono ?_;rintro r ⟨Z2,rfl,hE2⟩;have r1:Z2.row Z.n=some [.int .i64 (N:Nat),.int .i64 (D:Nat)]:=eT (hE2.row (cL)) cL;have hl:=qL b1;have step:∀ k,(10 ^ (k+1)*m) % D=(10*((10 ^ k*m) % D)) % D:=by
  intro k;rw[Hr,DW (10 ^ k) 10,Gf,qM 10,qM 10 ((10 ^ k*m) % D),Nat.mod_mod]
 by_cases m0:m=0
 ·have c0:decide (0<(m:Int))=false:=dF;refine gS1 (aI r1 (aI z0 (aI e2 c0))) ?_
  refine CD (fun j fr Z3=>∃ k s N3,j+k=6/\N3=(10 ^ k*m) % D/\fr.get 4=some (.int .i64 (N3:Nat))/\fr.get 3=some (str s)/\s++frT j N3 D=dcN q/\s.length<=12+k/\fr.get 1=some (.pointer (some ⟨Z.n,0,none⟩))/\Ext (Z.new [.int .i64 (N:Nat),.int .i64 (D:Nat)]) Z3)
   (fun r=>∃ fr Z3,r=⟨.exit 0,fr,Z3⟩/\fr.get 3=some (str (dcN q))/\Ext Z Z3) 6 ⟨0,_,m,rfl,by rw[gY,QA,QE b2],fR,fR,(by rw[m0,f0,FV]),om,fR,hE2⟩ ?_ ?_
  ·rintro j fr Z3 ⟨k,s,N3,hj,Rm,g4,g3,ht,hs,g1,hE⟩;by_cases r0:N3=0
   ·have c1:decide (0<(N3:Int))=false:=dF;refine gS1 (aI g4 (aI g3 c1)) ?_;rw[r0,f0,FV]at ht;exact⟨_,_,rfl,by rw[<- ht];exact fR1 g3,Ext.trans (eX) hE⟩
   have k6:k<6:=by
    rcases AW k 6 with h|h
    ·exact h
    ·obtain rfl:k=6:=om;exact absurd (Rm.trans (last _ rfl)) r0
   have c1:decide (0<(N3:Int))=true:=dT;have rD:N3<D:=by rw[Rm];exact MN _ hD
   have w1:Z3.row Z.n=some [.int .i64 (N:Nat),.int .i64 (D:Nat)]:=eT (hE.row (by simp)) cL;obtain⟨u,hu⟩:=nm (10*N3 / D);obtain⟨v,hv⟩:=nm (10*N3 % D);have u10:u<10:=by rw[<- hu];exact gG (by rw[DW];omega)
   have f1:IntKind.i64.wrap ((10*(N3:Int)).tdiv D)=(u:Int):=by
    rw[show(10*(N3:Int))=((10*N3:Nat):Int) by omega,show((10*N3:Nat):Int).tdiv D=((10*N3 / D:Nat):Int)from rfl,hu];exact wrap64_in om om
   have f2:(10*(N3:Int)).tmod D=(v:Int):=by
    rw[show(10*(N3:Int))=((10*N3:Nat):Int) by omega,show((10*N3:Nat):Int).tmod D=((10*N3 % D:Nat):Int)from rfl,hv]
   refine gS1 (aI g4 (aI g3 (aI g1 (aI c1 (aI w1 (aI z0 @f1)))))) ?_;refine(Ig (n:=u) om).mono ?_;rintro r ⟨Z4,rfl,hE4⟩;have w2:=eT (hE4.row (by have:=hE.n;simp at this;omega)) w1;have l1:(dcN u).length=1:=by rw[Ci u10];rfl
   refine gS1 (aI g4 (aI g3 (aI g1 (aI w2 (aI z0 f2))))) ?_;refine⟨6-(k+1),om,k+1,s++dcN u,v,om,by rw[step,<- Rm,hv],fR,fR,?_,by simp;omega,fR1 g1,hE.trans hE4⟩;rw[<- ht,show j=6-(k+1)+1 by omega,fs _ _ r0,hu,hv,PI]
  rintro r ⟨fr,Z3,rfl,g3,hE⟩;refine gS1 (aI g3 @Tryz.results205) ?_;rw[hq,hm,z1z m0,FV];exact⟨_,rfl,hE⟩
 ·have c0:decide (0<(m:Int))=true:=dT;refine gS1 (aI r1 (aI z0 (aI e2 c0))) ?_
  refine CD (fun j fr Z3=>∃ k s N3,j+k=6/\N3=(10 ^ k*m) % D/\fr.get 4=some (.int .i64 (N3:Nat))/\fr.get 3=some (str s)/\s++frT j N3 D=dcN q++46::frT 6 m D/\s.length<=12+k/\fr.get 1=some (.pointer (some ⟨Z.n,0,none⟩))/\Ext (Z.new [.int .i64 (N:Nat),.int .i64 (D:Nat)]) Z3)
   (fun r=>∃ fr Z3,r=⟨.exit 0,fr,Z3⟩/\fr.get 3=some (str (dcN q++46::frT 6 m D))/\Ext Z Z3) 6 ⟨0,dcN q++[46],m,rfl,by rw[gY,QA,QE b2],fR,fR,(by simp),by simp;omega,fR,hE2⟩ ?_ ?_
  ·rintro j fr Z3 ⟨k,s,N3,hj,Rm,g4,g3,ht,hs,g1,hE⟩;by_cases r0:N3=0
   ·have c1:decide (0<(N3:Int))=false:=dF;refine gS1 (aI g4 (aI g3 c1)) ?_;rw[r0,f0,FV]at ht;exact⟨_,_,rfl,by rw[<- ht];exact fR1 g3,Ext.trans (eX) hE⟩
   have k6:k<6:=by
    rcases AW k 6 with h|h
    ·exact h
    ·obtain rfl:k=6:=om;exact absurd (Rm.trans (last _ rfl)) r0
   have c1:decide (0<(N3:Int))=true:=dT;have rD:N3<D:=by rw[Rm];exact MN _ hD
   have w1:Z3.row Z.n=some [.int .i64 (N:Nat),.int .i64 (D:Nat)]:=eT (hE.row (by simp)) cL;obtain⟨u,hu⟩:=nm (10*N3 / D);obtain⟨v,hv⟩:=nm (10*N3 % D);have u10:u<10:=by rw[<- hu];exact gG (by rw[DW];omega)
   have f1:IntKind.i64.wrap ((10*(N3:Int)).tdiv D)=(u:Int):=by
    rw[show(10*(N3:Int))=((10*N3:Nat):Int) by omega,show((10*N3:Nat):Int).tdiv D=((10*N3 / D:Nat):Int)from rfl,hu];exact wrap64_in om om
   have f2:(10*(N3:Int)).tmod D=(v:Int):=by
    rw[show(10*(N3:Int))=((10*N3:Nat):Int) by omega,show((10*N3:Nat):Int).tmod D=((10*N3 % D:Nat):Int)from rfl,hv]
   refine gS1 (aI g4 (aI g3 (aI g1 (aI c1 (aI w1 (aI z0 @f1)))))) ?_;refine(Ig (n:=u) om).mono ?_;rintro r ⟨Z4,rfl,hE4⟩;have w2:=eT (hE4.row (by have:=hE.n;simp at this;omega)) w1;have l1:(dcN u).length=1:=by rw[Ci u10];rfl
   refine gS1 (aI g4 (aI g3 (aI g1 (aI w2 (aI z0 f2))))) ?_;refine⟨6-(k+1),om,k+1,s++dcN u,v,om,by rw[step,<- Rm,hv],fR,fR,?_,by simp;omega,fR1 g1,hE.trans hE4⟩;rw[<- ht,show j=6-(k+1)+1 by omega,fs _ _ r0,hu,hv,PI]
  rintro r ⟨fr,Z3,rfl,g3,hE⟩;refine gS1 (aI g3 @Tryz.results205) ?_;rw[hq,hm,z0z m0];exact⟨_,rfl,hE⟩
end
end Go.Proofs.T
namespace Go.Proofs.T
open Go Go.Ab
def MG {s:By}:DQ s=AM s:=by
 cases s with
 |nil=>rfl
 | cons c w=>
   have e1:decide (0<(c::w).length)=true:=sI;have e2:DQ (c::w)=(decide (0<(c::w).length)&&decide ((c::w).length<=30)&&(c::w).all (on ED)&&on Eh c):=rfl;have e3:AM (c::w)=(on Eh c&&decide ((c::w).length<=30)&&(c::w).all (on ED)):=rfl;rw[e2,e3,e1];cases decide ((c::w).length<=30)<;>cases(c::w).all (on ED)<;>cases on Eh c<;>rfl
def FW.le {k m:Nat}{e:Ex}(h:FW k m e):k<=m:=by
 induction h with
 |num=>omega
 |name=>omega
 |bin=>omega
 |mm=>omega
def FU {Z:St}{v:Value}{B9:List (List Value)}{a b:Ex}(hs:SL Z 5 v B9) (hx:Cb Z B9 [a,b]):∃ B off sp c cells r1 r2,v= .slice (some ⟨B,off,sp⟩) 2 c/\B<Z.n/\Z.row B=some cells /\
  sub cells off 5=some r1/\sub cells (off+5) 5=some r2/\P6 Z r1 a/\P6 Z r2 b:=by
 obtain⟨r1,rs1,rfl,hx1,hx⟩:=hx;obtain⟨r2,rs2,rfl,hx2,hx⟩:=hx;obtain rfl:rs2=[]:=hx;obtain⟨A,C,B,off,cells,rfl,c1,c2⟩:=SL.use hs;obtain⟨sp,rfl,l3,l4⟩:=c1 (by simp);exact⟨B,off,sp,C,cells,r1,r2,rfl,l3,l4,by simpa using c2 0 r1 rfl,by simpa using c2 1 r2 rfl,hx1,hx2⟩
def FW.arg {k m:Nat}{e:Ex}(hf:FW k m e){Z:St}{row:List Value}(he:P6 Z row e):∃ o n d nm a len c,row=[str o,.int .i64 n,.int .i64 d,str nm,.slice a len c]/\((len=0/\k=1/\m=1)\/∃ B off sp cells k1 k2 m1 m2 e1 e2 r1 r2,len=2/\a=some ⟨B,off,sp⟩/\B<Z.n/\Z.row B=some cells/\k=1+max k1 k2/\m=m1+m2+1/\FW k1 m1 e1/\FW k2 m2 e2 /\
  sub cells off 5=some r1/\sub cells (off+5) 5=some r2/\P6 Z r1 e1/\P6 Z r2 e2):=by
 cases hf with
 | num h=>
   obtain⟨v,B9,rfl,h1,-,h2⟩:=he;obtain rfl:B9=[]:=h2;obtain⟨a,c,b,off,cells,rfl,-⟩:=SL.use h1;exact⟨_,_,_,_,_,_,_,rfl,.inl ⟨rfl,rfl,rfl⟩⟩
 | name h=>
   obtain⟨v,B9,rfl,h1,-,h2⟩:=he;obtain rfl:B9=[]:=h2;obtain⟨a,c,b,off,cells,rfl,-⟩:=SL.use h1;exact⟨_,_,_,_,_,_,_,rfl,.inl ⟨rfl,rfl,rfl⟩⟩
 | bin h ha hb=>
   obtain⟨v,B9,rfl,hs,-,hx⟩:=he;obtain⟨B,off,sp,c,cells,r1,r2,rfl,l3,l4,s1,s2,x1,x2⟩:=FU hs hx;exact⟨_,_,_,_,_,_,_,rfl,.inr ⟨B,off,sp,cells,_,_,_,_,_,_,r1,r2,rfl,rfl,l3,l4,rfl,rfl,ha,hb,s1,s2,x1,x2⟩⟩
 | mm h ha hb=>
   obtain⟨v,B9,rfl,hs,-,hx⟩:=he;obtain⟨B,off,sp,c,cells,r1,r2,rfl,l3,l4,s1,s2,x1,x2⟩:=FU hs hx;exact⟨_,_,_,_,_,_,_,rfl,.inr ⟨B,off,sp,cells,_,_,_,_,_,_,r1,r2,rfl,rfl,l3,l4,rfl,rfl,ha,hb,s1,s2,x1,x2⟩⟩
def kQ:∀ (s:Nat){Z:St}{kd j:Nat}{e:Ex}{row:List Value},j<s->j<=1000000000->FW kd j e->P6 Z row e->Ev (gO 42 [.agg ⟨row⟩] Z) (fun r=>∃ Z':St,r=⟨false,.int .i64 (j:Nat),Z'⟩/\Ext Z Z') ⟨⟩:=by
 intro s;induction s with
 |zero=>intro Z kd j e row hs;omega
 | succ s ih=>
   intro Z kd j e row hs hj hf he;obtain⟨o,n,d,nm,a,m,c,rfl,h⟩:=hf.arg he;refine C9 Tryz.func42 rfl rfl ?_;refine gS ?_;obtain⟨R,hR⟩:∃ R:List Value,[str o,.int .i64 n,.int .i64 d,str nm,.slice a m c]=R:=⟨_,rfl⟩
   have hs3:sub R 4 1=some [.slice a m c]:=by rw[<- hR];rfl
   rw[hR];rcases h with⟨rfl,rfl,rfl⟩|⟨B,off,sp,cells,k1,k2,j1,j2,e1,e2,r1,r2,rfl,rfl,l3,l4,rfl,rfl,f1,f2,s1,s2,x1,x2⟩
   ·refine I4 0 (fun k fr Z'=>fr.get 4=some (.int .i64 k)/\fr.get 1=some (.pointer (some ⟨Z.n,0,none⟩))/\Z'=Z.new R/\fr.get 3=some (.int .i64 1))
     (fun r=>∃ fr,r=⟨.exit 0,fr,Z.new R⟩/\fr.get 3=some (.int .i64 1)) ?_ ?_ ?_ ?_
    ·exact⟨fR,fR,rfl,fR⟩
    ·rintro k fr Z' hk;omega
    ·rintro fr Z' ⟨g4,g1,rfl,g3⟩;refine gS1 (aI g4 (aI g1 hs3)) ?_;exact⟨_,rfl,fR1 g3⟩
    rintro r ⟨fr,rfl,g3⟩;refine gS1 (aI g3 @Tryz.results42) ?_;exact⟨_,rfl,eX⟩
   refine I4 2 (fun k fr Z'=>fr.get 4=some (.int .i64 k)/\fr.get 1=some (.pointer (some ⟨Z.n,0,none⟩))/\Ext (Z.new R) Z'/\∃ p:Nat,fr.get 3=some (.int .i64 (p:Nat))/\((k=0/\p=1)\/(k=1/\p=1+j1)\/(k=2/\p=j1+j2+1)))
    (fun r=>∃ fr Z',r=⟨.exit 0,fr,Z'⟩/\Ext Z Z'/\∃ p:Nat,fr.get 3=some (.int .i64 (p:Nat))/\p=j1+j2+1) ?_ ?_ ?_ ?_
   ·exact⟨fR,fR,.refl _,_,fR,.inl ⟨rfl,rfl⟩⟩
   ·rintro k fr Z' hk ⟨g4,g1,hE,p,g3,hh⟩;have hc:=L9 hk;have w1:Z'.row Z.n=some R:=eT (hE.row (by simp)) cL;have hEn:=hE.n;simp only[F6]at hEn;have hE0:Ext Z Z':=Ext.trans (eX) hE;have w2:=eT (hE0.row l3) l4;have hk2:k=0\/k=1:=om;have both:∃ kk jj ee rr,sub cells (off+k*5) 5=some rr/\FW kk jj ee/\P6 Z rr ee/\jj<s/\jj<=1000000000/\((k=0/\jj=j1)\/(k=1/\jj=j2)):=by
     rcases hk2 with rfl|rfl
     ·exact⟨k1,j1,e1,r1,by simpa using s1,f1,x1,om,om,.inl ⟨rfl,rfl⟩⟩
     ·exact⟨k2,j2,e2,r2,by simpa using s2,f2,x2,om,om,.inr ⟨rfl,rfl⟩⟩
    obtain⟨kk,jj,ee,rr,s3,f3,x3,y1,y2,y3⟩:=both;refine gS1 (aI g4 (aI g1 (aI g3 (aI hc (aI w1 (aI hs3 (aI w2 s3))))))) ?_;refine(ih y1 y2 f3 (x3.mono hE0)).mono ?_;rintro r ⟨Z2,rfl,hE2⟩;refine gS1 (aI g4 (aI g1 g3)) ?_;refine⟨fR,fR1 g1,hE.trans hE2,p+jj,fR,?_⟩;omega
   ·rintro fr Z' ⟨g4,g1,hE,p,g3,hh⟩;have w1:Z'.row Z.n=some R:=eT (hE.row (by simp)) cL;refine gS1 (aI g4 (aI g1 (aI w1 hs3))) ?_;exact⟨_,_,rfl,Ext.trans (eX) hE,p,fR1 g3,om⟩
   rintro r ⟨fr,Z',rfl,hE,p,g3,hp⟩;refine gS1 (aI g3 @Tryz.results42) ?_;subst hp;exact⟨_,rfl,hE⟩
def kS:∀ (s:Nat){Z:St}{kd j:Nat}{e:Ex}{row:List Value},j<s->j<=1000000000->FW kd j e->P6 Z row e->Ev (gO 43 [.agg ⟨row⟩] Z) (fun r=>∃ Z':St,r=⟨false,.int .i64 (kd:Nat),Z'⟩/\Ext Z Z') ⟨⟩:=by
 intro s;induction s with
 |zero=>intro Z kd j e row hs;omega
 | succ s ih=>
   intro Z kd j e row hs hj hf he;obtain⟨o,n,d,nm,a,m,c,rfl,h⟩:=hf.arg he;refine C9 Tryz.func43 rfl rfl ?_;refine gS ?_;obtain⟨R,hR⟩:∃ R:List Value,[str o,.int .i64 n,.int .i64 d,str nm,.slice a m c]=R:=⟨_,rfl⟩
   have hs3:sub R 4 1=some [.slice a m c]:=by rw[<- hR];rfl
   rw[hR];rcases h with⟨rfl,rfl,rfl⟩|⟨B,off,sp,cells,k1,k2,j1,j2,e1,e2,r1,r2,rfl,rfl,l3,l4,rfl,rfl,f1,f2,s1,s2,x1,x2⟩
   ·refine I4 0 (fun k fr Z'=>fr.get 4=some (.int .i64 k)/\fr.get 1=some (.pointer (some ⟨Z.n,0,none⟩))/\Z'=Z.new R/\fr.get 3=some (.int .i64 0))
     (fun r=>∃ fr,r=⟨.exit 0,fr,Z.new R⟩/\fr.get 3=some (.int .i64 0)) ?_ ?_ ?_ ?_
    ·exact⟨fR,fR,rfl,fR⟩
    ·rintro k fr Z' hk;omega
    ·rintro fr Z' ⟨g4,g1,rfl,g3⟩;refine gS1 (aI g4 (aI g1 hs3)) ?_;exact⟨_,rfl,fR1 g3⟩
    rintro r ⟨fr,rfl,g3⟩;refine gS1 (aI g3 @Tryz.results43) ?_;exact⟨_,rfl,eX⟩
   refine I4 2 (fun k fr Z'=>fr.get 4=some (.int .i64 k)/\fr.get 1=some (.pointer (some ⟨Z.n,0,none⟩))/\Ext (Z.new R) Z'/\∃ p:Nat,fr.get 3=some (.int .i64 (p:Nat))/\((k=0/\p=0)\/(k=1/\p=k1)\/(k=2/\p=max k1 k2)))
    (fun r=>∃ fr Z',r=⟨.exit 0,fr,Z'⟩/\Ext Z Z'/\∃ p:Nat,fr.get 3=some (.int .i64 (p:Nat))/\p=max k1 k2) ?_ ?_ ?_ ?_
   ·exact⟨fR,fR,.refl _,_,fR,.inl ⟨rfl,rfl⟩⟩
   ·rintro k fr Z' hk ⟨g4,g1,hE,p,g3,hh⟩;have hc:=L9 hk;have w1:Z'.row Z.n=some R:=eT (hE.row (by simp)) cL;have hEn:=hE.n;simp only[F6]at hEn;have hE0:Ext Z Z':=Ext.trans (eX) hE;have w2:=eT (hE0.row l3) l4;have hk2:k=0\/k=1:=om;have both:∃ kk jj ee rr,sub cells (off+k*5) 5=some rr/\FW kk jj ee/\P6 Z rr ee/\jj<s/\jj<=1000000000/\((k=0/\kk=k1)\/(k=1/\kk=k2)):=by
     rcases hk2 with rfl|rfl
     ·exact⟨k1,j1,e1,r1,by simpa using s1,f1,x1,om,om,.inl ⟨rfl,rfl⟩⟩
     ·exact⟨k2,j2,e2,r2,by simpa using s2,f2,x2,om,om,.inr ⟨rfl,rfl⟩⟩
    obtain⟨kk,jj,ee,rr,s3,f3,x3,y1,y2,y3⟩:=both;refine gS1 (aI g4 (aI g1 (aI g3 (aI hc (aI w1 (aI hs3 (aI w2 s3))))))) ?_;refine(ih y1 y2 f3 (x3.mono hE0)).mono ?_;rintro r ⟨Z2,rfl,hE2⟩;refine gS1 (aI g4 (aI g1 g3)) ?_;refine⟨fR,fR1 g1,hE.trans hE2,max p kk,by rw[show((max p kk:Nat):Int)=max (p:Int) (kk:Int) by omega],?_⟩;omega
   ·rintro fr Z' ⟨g4,g1,hE,p,g3,hh⟩;have w1:Z'.row Z.n=some R:=eT (hE.row (by simp)) cL;refine gS1 (aI g4 (aI g1 (aI w1 hs3))) ?_;exact⟨_,_,rfl,Ext.trans (eX) hE,p,fR1 g3,om⟩
   rintro r ⟨fr,Z',rfl,hE,p,g3,hp⟩;have q1:=f1.le;have q2:=f2.le;refine gS1 (aI g3 @Tryz.results43) ?_;subst hp;exact⟨_,by rw[gB (max k1 k2) 1],hE⟩
section
variable {o:By}{Z:St}{e:Ex}{row r:List Value}{b:Bool}
def Cl (Z:St):List (Nat×List Value)->Prop
 | []=>True
 | (b,cs)::l=>(b<Z.n/\Z.A7 b=some cs)/\Cl Z l
def Cl.Ai1 {Z Z':St}(hE:Ext Z Z'):∀ {l:List (Nat×List Value)},Cl Z l->Cl Z' l
 | [],_=>trivial
 | (b,cs)::l,h=>⟨⟨z5z h.1.1 hE.n,by rw[hE.A7 h.1.1];exact h.1.2⟩,Cl.Ai1 hE h.2⟩
def Cl.ext {Z':St}{l:List (Nat×List Value)}(h:Cl Z l) (hE:Ext Z Z'):Cl Z' l:=Cl.Ai1 hE h
def P6.wX {Z:St}{row:List Value}:∀ {e:Ex},P6 Z row e->∃ o n d nm v,row=[str o,.int .i64 n,.int .i64 d,str nm,v]/\∃ l,e= .mk o n d nm l
 | .mk o n d nm l,h=>by obtain⟨v,B9,h,-⟩:=h;exact⟨o,n,d,nm,v,h,l,rfl⟩
def opE:Ex->By
 | .mk o _ _ _ _=>o
def isP (o:By):Bool:=decide (o=[42])||decide (o=[47])
def isS (o:By):Bool:=decide (o=[43])||decide (o=[45])
def YV {g F8:Nat}:J8 (g+1) F8 e=par (decide (lvl (opE e)<F8)) (J8 (g+1) 0 e):=by
 cases e with
 | mk o n d nm l=>
   show par _ _=par _ (par (decide (lvl o<0)) _);have:decide (lvl o<0)=false:=sI;rw[this];rfl
def Pk:decide (lvl o<1)=isS o:=by
 unfold lvl isS;by_cases h:o=[43]\/o=[45]
 ·rw[z1z h];rcases h with h|h<;>simp[h]
 ·rw[z0z h];have h1:o≠[43]:=fun e=>h (.inl e);have h2:o≠[45]:=fun e=>h (.inr e);split<;>simp[h1,h2]
def gF:decide (lvl o<2)=(isS o||isP o):=by
 unfold lvl isS isP;by_cases h:o=[43]\/o=[45]
 ·rw[z1z h];rcases h with h|h<;>simp[h]
 ·rw[z0z h];have h1:o≠[43]:=fun e=>h (.inl e);have h2:o≠[45]:=fun e=>h (.inr e);by_cases h3:o=[42]\/o=[47]
  ·rw[z1z h3];rcases h3 with h3|h3<;>simp[h3]
  ·rw[z0z h3];have h4:o≠[42]:=fun e=>h3 (.inl e);have h5:o≠[47]:=fun e=>h3 (.inr e);simp[h1,h2,h4,h5]
def wZ:∀ (f r D:Nat),r<D->(frT f r D).length<=f:=by
 intro f;induction f with
 |zero=>intro r D _;simp[frT]
 | succ f ih=>
   intro r D h;unfold frT;split
   ·simp
   ·have h1:10*r / D<10:=gG (by rw[DW];omega);have:=ih (10*r % D) D (MN _ om);rw[Dc,Ci h1];simp;omega
def Vt {n d:Int}(h:MI n d):(deT n d).length<=17:=by
 have h1:=h.rq;have h2:=h.n0;have hd:=h1.d1;have hn:=h1.n2;unfold deT;have a1:n.toNat / d.toNat<=1000000000:=AF2 om;have a2:=KO 9 (n.toNat / d.toNat) om;have a3:=wZ 6 (n.toNat % d.toNat) d.toNat (MN _ om);rw[Dc];split
 ·simp;omega
 ·simp;omega
def GM {s:By}:(par b s).length<=s.length+2:=by
 unfold par;cases b<;>simp
def Ml {nm:By}(h:AM nm=true):nm.length<=30:=by
 unfold AM at h;rw[Q7,Q7]at h;exact z6z h.1.2
def DV {k m:Nat}(h:FW k m e):∀ g F8,k<=g->(J8 g F8 e).length+8<=50*m:=by
 induction h with
 | @num n d h=>
   intro g F8 hg;obtain⟨g,rfl⟩:∃ x,g=x+1:=⟨g-1,om⟩
   refine AV (gH (GM (b:=_) (s:=_)) 8) ?_;rw[z1z rfl];have:=Vt h;omega
 | @name nm h1 h2 h3=>
   intro g F8 hg;obtain⟨g,rfl⟩:∃ x,g=x+1:=⟨g-1,om⟩
   refine AV (gH (GM (b:=_) (s:=_)) 8) ?_;rw[z0z (by decide),z1z rfl];have:=Ml h1;omega
 | @bin k j m i o a b h ha hb iha ihb=>
   intro g F8 hg;obtain⟨g,rfl⟩:∃ x,g=x+1:=⟨g-1,om⟩
   refine AV (gH (GM (b:=_) (s:=_)) 8) ?_;have hn:o≠K9/\o≠nmB/\¬ (o=R3\/o=R6):=by rcases h with rfl|rfl|rfl|rfl<;>decide
   have ho:o.length=1:=by rcases h with rfl|rfl|rfl|rfl<;>rfl
   rw[z0z hn.1,z0z hn.2.1];dsimp only;rw[z0z hn.2.2];have h1:=iha g (lvl o) om;have h2:=ihb g (lvl o+1) om;simp only[Dc,CE,ho];omega
 | @mm k j m i o a b h ha hb iha ihb=>
   intro g F8 hg;obtain⟨g,rfl⟩:∃ x,g=x+1:=⟨g-1,om⟩
   refine AV (gH (GM (b:=_) (s:=_)) 8) ?_;have hn:o≠K9/\o≠nmB:=by rcases h with rfl|rfl<;>decide
   have ho:o.length=3:=by rcases h with rfl|rfl<;>rfl
   rw[z0z hn.1,z0z hn.2];dsimp only;rw[z1z h];have h1:=iha g 0 om;have h2:=ihb g 0 om;simp only[Dc,CE,JQ,ho];omega
def RI (hr:row=str o::r) (hl:row.length=5):Ev (gO 206 [.agg ⟨row⟩] Z) (fun r=>∃ Z',r=⟨false,.bool (isP o),Z'⟩/\Ext Z Z') ⟨⟩:=by
 have hfr:sub row 0 5=some row:=C8 om om;have h1:sub row 0 1=some [str o]:=by subst hr;rfl
 refine C9 Tryz.func206 rfl rfl ?_;unfold isP;cases a:decide (o=[42])<;>refine gS1 (aI hfr (aI h1 (aI a (a3N @D9 @F4 @Tryz.results206)))) ?_<;>exact⟨_,rfl,eX⟩
def Ty (hr:row=str o::r) (hl:row.length=5):Ev (gO 207 [.agg ⟨row⟩] Z) (fun r=>∃ Z',r=⟨false,.bool (isS o),Z'⟩/\Ext Z Z') ⟨⟩:=by
 have hfr:sub row 0 5=some row:=C8 om om;have h1:sub row 0 1=some [str o]:=by subst hr;rfl
 refine C9 Tryz.func207 rfl rfl ?_;unfold isS;cases a:decide (o=[43])<;>refine gS1 (aI hfr (aI h1 (aI a (a3N @D9 @F4 @Tryz.results207)))) ?_<;>exact⟨_,rfl,eX⟩
def FK (j:Nat) (e:Ex) (t:By):Prop:=∀ {Z:St}{row:List Value},j<=1000->P6 Z row e->Ev (gO 174 [.agg ⟨row⟩] Z) (fun r=>∃ Z',r=⟨false,str t,Z'⟩/\Ext Z Z') ⟨⟩
def Mm {j:Nat}{t:By}(h:FK j e t) (ht:t.length<=1000000)(hj:j<=1000) (he:P6 Z row e):Ev (gO 208 [.agg ⟨row⟩,.bool b] Z) (fun r=>∃ Z',r=⟨false,str (par b t),Z'⟩/\Ext Z Z') ⟨⟩:=by
 have hlen:=he.len;have hfr:sub row 0 5=some row:=C8 om om;refine C9 Tryz.func208 rfl rfl ?_;have E0:Ext Z (Z.new row):=eX;cases b with
 | true=>
   refine gS1 hfr ?_;refine(h hj (he.mono E0)).mono ?_;rintro r ⟨Z2,rfl,hE⟩;refine gS1 @Tryz.results208 ?_;exact⟨_,rfl,E0.trans hE⟩
 | false=>
   refine gS1 hfr ?_;refine(h hj (he.mono E0)).mono ?_;rintro r ⟨Z2,rfl,hE⟩;refine gS1 @Tryz.results208 ?_;exact⟨_,rfl,E0.trans hE⟩
def jq {a b:Ex}{j1 j2:Nat}{ta tb:By}(h:o=R3\/o=R6) (iha:FK j1 a ta) (ihb:FK j2 b tb) (l1:ta.length<=1000000) (l2:tb.length<=1000000):FK (j1+j2+1) (.mk o 0 0 [] [a,b]) (o++40::(ta++44::32::(tb++[41]))):=by
  intro Z row hj he;obtain⟨v,B9,rfl,hsl,-,hex⟩:=he;obtain⟨B,off,sp,c,cells,r1,r2,rfl,l3,l4,s1,s2,x1,x2⟩:=FU hsl hex;have d1:decide (o=[110,117,109])=false:=z4z (by rcases h with rfl|rfl<;>decide);have d2:decide (o=[110,97,109,101])=false:=z4z (by rcases h with rfl|rfl<;>decide);have lo:o.length=3:=by rcases h with rfl|rfl<;>rfl
  refine C9 Tryz.func174 rfl rfl ?_;obtain⟨R,hR⟩:∃ R:List Value,[str o,.int .i64 0,.int .i64 0,str [],.slice (some ⟨B,off,sp⟩) 2 c]=R:=⟨_,rfl⟩
  have q0:sub R 0 1=some [str o]:=by rw[<- hR];rfl
  have q4:sub R 4 1=some [.slice (some ⟨B,off,sp⟩) 2 c]:=by rw[<- hR];rfl
  have qf:sub R 0 5=some R:=by rw[<- hR];rfl
  have ql:R.length=5:=by rw[<- hR];rfl
  rw[hR];have E0:Ext Z (Z.new R):=eX;have key:∀ x y:Bool,decide (o=[109,105,110])=x->decide (o=[109,97,120])=y->(x=true\/y=true):=by
   intro x y hx hy;rcases h with rfl|rfl
   ·left;rw[<- hx];rfl
   ·right;rw[<- hy];rfl
  cases m1:decide (o=[109,105,110])with
  | true=>
    refine gS1 (aI q0 (aI q4 (aI qf (aI d1 (aI d2 (aI m1 (aI l4 (aI s1 @AG)))))))) ?_;refine(iha om (x1.mono E0)).mono ?_;rintro r ⟨Z2,rfl,hE2⟩;have n2:=hE2.n;simp only[F6]at n2;have w1:Z2.row Z.n=some R:=eT (hE2.row (by simp)) cL;have E2:=E0.trans hE2;have w2:=eT (E2.row l3) l4;refine gS1 (aI w1 (aI w2 (aI q4 s2))) ?_;refine(ihb om (x2.mono E2)).mono ?_;rintro r ⟨Z3,rfl,hE3⟩;refine gS1 (aI (asx hE2) (aI (asx hE3) @Tryz.results174)) ?_
    try refine dW1 (aI (asx hE2) (asx hE3)) ?_
    try(refine gS1 @Tryz.results174 ?_;try exact⟨⟩)
    exact⟨_,by simp,E2.trans hE3⟩
  |false=>
  cases m2:decide (o=[109,97,120])with
  |false=>rcases key _ _ m1 m2 with h|h<;>cases h
  | true=>
    refine gS1 (aI q0 (aI q4 (aI qf (aI d1 (aI d2 (aI m1 (aI m2 (aI l4 (aI s1 @AG))))))))) ?_;refine(iha om (x1.mono E0)).mono ?_;rintro r ⟨Z2,rfl,hE2⟩;have n2:=hE2.n;simp only[F6]at n2;have w1:Z2.row Z.n=some R:=eT (hE2.row (by simp)) cL;have E2:=E0.trans hE2;have w2:=eT (E2.row l3) l4;refine gS1 (aI w1 (aI w2 (aI q4 s2))) ?_;refine(ihb om (x2.mono E2)).mono ?_;rintro r ⟨Z3,rfl,hE3⟩;refine gS1 (aI (asx hE2) (aI (asx hE3) @Tryz.results174)) ?_
    try refine dW1 (aI (asx hE2) (asx hE3)) ?_
    try(refine gS1 @Tryz.results174 ?_;try exact⟨⟩)
    exact⟨_,by simp,E2.trans hE3⟩
end
end Go.Proofs.T
namespace Go.Proofs.T
open Go Go.Ab
open Nat (reduceMul reduceEqDiff reduceAdd)
def dc {o:By}{a b:Ex}{j1 j2:Nat}{ta tb:By}(h:o=[43]\/o=[45]\/o=[42]\/o=[47]) (iha:FK j1 a ta) (ihb:FK j2 b tb) (l1:ta.length<=1000000) (l2:tb.length<=1000000) :
  FK (j1+j2+1) (.mk o 0 0 [] [a,b]) (par (isS (opE a)&&isP o) ta++32::(o++32::par (isS (opE b)||(isP (opE b)&&isP o)) tb)):=by
  intro Z row hj he;obtain⟨v,B9,rfl,hsl,-,hex⟩:=he;obtain⟨B,off,sp,c,cells,r1,r2,rfl,l3,l4,s1,s2,x1,x2⟩:=FU hsl hex;have d1:decide (o=[110,117,109])=false:=z4z (by rcases h with rfl|rfl|rfl|rfl<;>decide);have d2:decide (o=[110,97,109,101])=false:=z4z (by rcases h with rfl|rfl|rfl|rfl<;>decide);have m1:decide (o=[109,105,110])=false:=z4z (by rcases h with rfl|rfl|rfl|rfl<;>decide);have m2:decide (o=[109,97,120])=false:=z4z (by rcases h with rfl|rfl|rfl|rfl<;>decide);have lo:o.length=1:=by rcases h with rfl|rfl|rfl|rfl<;>rfl
  have jC:=x1.len;have mW:=x2.len;have hf1:sub r1 0 5=some r1:=C8 om om;have hf2:sub r2 0 5=some r2:=C8 om om;refine C9 Tryz.func174 rfl rfl ?_;obtain⟨R,hR⟩:∃ R:List Value,[str o,.int .i64 0,.int .i64 0,str [],.slice (some ⟨B,off,sp⟩) 2 c]=R:=⟨_,rfl⟩
  have q0:sub R 0 1=some [str o]:=by rw[<- hR];rfl
  have q4:sub R 4 1=some [.slice (some ⟨B,off,sp⟩) 2 c]:=by rw[<- hR];rfl
  have qf:sub R 0 5=some R:=by rw[<- hR];rfl
  have ql:R.length=5:=by rw[<- hR];rfl
  rw[hR];have E0:Ext Z (Z.new R):=eX;refine gS1 (aI q0 (aI q4 (aI qf (aI d1 (aI d2 (aI m1 (aI m2 (aI l4 (aI s1 (aI s2 @AG)))))))))) ?_;obtain⟨S0,hS0⟩:=nm ((((((Z.new R).new [str [],.int .i64 0,.int .i64 0,str [],.slice none 0 0] (some 32)).upd (Z.n+1) r1).new [str [],.int .i64 0,.int .i64 0,str [],.slice none 0 0] (some 32)).upd (Z.n+1+1) r2));rw[hS0];have E0:Ext Z S0:=by rw[<- hS0];exact eX
  have n0:S0.n=Z.n+3:=by rw[<- hS0];rfl
  have C0:Cl S0 [(Z.n,R),(Z.n+1,r1),(Z.n+1+1,r2)]:=⟨⟨om,by rw[<- hS0];exact cL⟩,⟨om,by rw[<- hS0];exact cL⟩,⟨om,by rw[<- hS0];exact cL⟩,trivial⟩
  obtain⟨o1,m1',k1',nn1,v1,hr1,al,rfl⟩:=x1.wX;obtain⟨o2,m2',k2',nn2,v2,hr2,bl,rfl⟩:=x2.wX;have pl1:=GM (b:=true) (s:=ta);have pl2:=GM (b:=false) (s:=ta);have pl3:=GM (b:=true) (s:=tb);have pl4:=GM (b:=false) (s:=tb);refine(RI hR.symm ql).mono ?_;rintro r ⟨Z2,rfl,hE2⟩;have C2:=C0.ext hE2;have E2:=E0.trans hE2;obtain⟨⟨-,a0⟩,⟨-,a1⟩,⟨-,a2⟩,-⟩:=id C2;have a0:=A9 a0;have a1:=A9 a1;have a2:=A9 a2;refine gS1 (aI a1 hf1) ?_;refine(Ty hr1 jC).mono ?_;rintro r ⟨Z3,rfl,hE3⟩;have C3:=C2.ext hE3;have E3:=E2.trans hE3;obtain⟨⟨-,a0⟩,⟨-,a1⟩,⟨-,a2⟩,-⟩:=id C3;have a0:=A9 a0;have a1:=A9 a1;have a2:=A9 a2;refine gS1 (aI a2 hf2) ?_;refine(Ty hr2 mW).mono ?_;rintro r ⟨Z4,rfl,hE4⟩;have C4:=C3.ext hE4;have E4:=E3.trans hE4;obtain⟨⟨-,a0⟩,⟨-,a1⟩,⟨-,a2⟩,-⟩:=id C4;have a0:=A9 a0;have a1:=A9 a1;have a2:=A9 a2;refine gS1 (aI a2 hf2) ?_;refine(RI hr2 mW).mono ?_;rintro r ⟨Z5,rfl,hE5⟩;have C5:=C4.ext hE5;have E5:=E4.trans hE5;obtain⟨⟨-,a0⟩,⟨-,a1⟩,⟨-,a2⟩,-⟩:=id C5;have a0:=A9 a0;have a1:=A9 a1;have a2:=A9 a2;obtain⟨b1,hb1⟩:=nm (isP o);obtain⟨b2,hb2⟩:=nm (isS o1);obtain⟨b3,hb3⟩:=nm (isS o2);obtain⟨b4,hb4⟩:=nm (isP o2)
  cases b1<;>cases b2<;>(
   refine gS1 (aI hb1 (aI hb2 (aI hb3 (aI hb4 (aI a1 hf1))))) ?_;refine(Mm iha l1 om (x1.mono E5)).mono ?_;rintro r ⟨Z6,rfl,hE6⟩;have C6:=C5.ext hE6;have E6:=E5.trans hE6;obtain⟨⟨-,a0⟩,⟨-,a1⟩,⟨-,a2⟩,-⟩:=id C6;have a0:=A9 a0;have a1:=A9 a1;have a2:=A9 a2
   cases b3<;>cases b4<;>(
    refine gS1 (aI hb1 (aI hb3 (aI hb4 (aI a0 (aI a2 (aI q0 hf2)))))) ?_;refine(Mm ihb l2 om (x2.mono E6)).mono ?_;rintro r ⟨Z7,rfl,hE7⟩;refine gS1 (aI (asx hE6) (aI (asx hE7) @Tryz.results174)) ?_
    try refine dW1 (aI (asx hE6) (asx hE7)) ?_
    try(refine gS1 @Tryz.results174 ?_;try exact⟨⟩)
    refine⟨_,?_,E6.trans hE7⟩;show _=(⟨false,str (par (isS o1&&isP o) ta++32::(o++32::par (isS o2||(isP o2&&isP o)) tb)),_⟩:CR)
    rw[hb1,hb2,hb3,hb4];simp))
def kO {k m:Nat}{e:Ex}(h:FW k m e):∀ g,k<=g->m<=1000->FK m e (J8 g 0 e):=by
 induction h with
 | @num n d h=>
   intro g hg _ Z row hj he;obtain⟨g,rfl⟩:∃ x,g=x+1:=⟨g-1,om⟩
   obtain⟨v,B9,rfl,-,-,-⟩:=he;have hs:J8 (g+1) 0 (.mk K9 n d [] [])=deT n d:=rfl;rw[hs];refine C9 Tryz.func174 rfl rfl ?_;simp(maxSteps:=8000000) (disch:=first|exact dS|fail) only[↓bD,bW,reduceMul,reduceEqDiff,reduceAdd,Nat.reduceBEq,reduceIte,Option.isNone_none,K9];refine(ZA h.rq h.n0 h.d6).mono ?_;rintro r ⟨Z2,rfl,hE⟩;refine gS1 @Tryz.results174 ?_;exact⟨_,rfl,Ext.trans (eX) hE⟩
 | @name nm h h1 h2=>
   intro g hg _ Z row hj he;obtain⟨g,rfl⟩:∃ x,g=x+1:=⟨g-1,om⟩
   obtain⟨v,B9,rfl,-,-,-⟩:=he;have d1:decide (([110,97,109,101]:By)=[110,117,109])=false:=by decide
   have hs:J8 (g+1) 0 (.mk nmB 0 0 nm [])=nm:=rfl;rw[hs];refine C9 Tryz.func174 rfl rfl ?_;simp(maxSteps:=8000000) (disch:=first|exact dS|fail) only[↓bD,bW,reduceMul,reduceEqDiff,reduceAdd,Nat.reduceBEq,reduceIte,Option.isNone_none,nmB,d1,Tryz.results174];exact⟨_,rfl,eX⟩
 | @bin k j m i o a b h ha hb iha ihb=>
   intro g hg hm;obtain⟨g,rfl⟩:∃ x,g=x+1:=⟨g-1,om⟩
   have hn:o≠K9/\o≠nmB/\¬ (o=R3\/o=R6):=by rcases h with rfl|rfl|rfl|rfl<;>decide
   have la:=DV ha g 0 om;have lb:=DV hb g 0 om;have key:FK (m+i+1) (.mk o 0 0 [] [a,b]) (par (isS (opE a)&&isP o) (J8 g 0 a)++32::(o++32::par (isS (opE b)||(isP (opE b)&&isP o)) (J8 g 0 b))):=fun{_ _} hj he=>dc h (iha g om om) (ihb g om om) om om hj he;have pa:=ha.pos;have pb:=hb.pos;obtain⟨g,rfl⟩:∃ x,g=x+1:=⟨g-1,om⟩
   have hs:J8 (g+1+1) 0 (.mk o 0 0 [] [a,b])=J8 (g+1) (lvl o) a++32::(o++32::J8 (g+1) (lvl o+1) b):=by
    show par (decide (lvl o<0)) (if _ then _ else _)=_;rw[z0z hn.1,z0z hn.2.1];dsimp only;rw[z0z hn.2.2,show decide (lvl o<0)=false by simp];rfl
   rw[hs,YV (F8:=lvl o),YV (F8:=lvl o+1)];have e1:decide (lvl (opE a)<lvl o)=(isS (opE a)&&isP o):=by
    rcases h with rfl|rfl|rfl|rfl
    ·show decide (lvl (opE a)<0)=_;simp[isP]
    ·show decide (lvl (opE a)<0)=_;simp[isP]
    ·show decide (lvl (opE a)<1)=_;rw[Pk];simp[isP]
    ·show decide (lvl (opE a)<1)=_;rw[Pk];simp[isP]
   have e2:decide (lvl (opE b)<lvl o+1)=(isS (opE b)||(isP (opE b)&&isP o)):=by
    rcases h with rfl|rfl|rfl|rfl
    ·show decide (lvl (opE b)<1)=_;rw[Pk];simp[isP]
    ·show decide (lvl (opE b)<1)=_;rw[Pk];simp[isP]
    ·show decide (lvl (opE b)<2)=_;rw[gF];simp[isP]
    ·show decide (lvl (opE b)<2)=_;rw[gF];simp[isP]
   rw[e1,e2];exact @key
 | @mm k j m i o a b h ha hb iha ihb=>
   intro g hg hm;obtain⟨g,rfl⟩:∃ x,g=x+1:=⟨g-1,om⟩
   have hn:o≠K9/\o≠nmB:=by rcases h with rfl|rfl<;>decide
   have la:=DV ha g 0 om;have lb:=DV hb g 0 om;have key:FK (m+i+1) (.mk o 0 0 [] [a,b]) (o++40::(J8 g 0 a++44::32::(J8 g 0 b++[41]))):=fun{_ _} hj he=>jq h (iha g om om) (ihb g om om) om om hj he;have hs:J8 (g+1) 0 (.mk o 0 0 [] [a,b])=o++40::(J8 g 0 a++44::32::(J8 g 0 b++[41])):=by
    show par (decide (lvl o<0)) (if _ then _ else _)=_;rw[z0z hn.1,z0z hn.2];dsimp only;rw[z1z h,show decide (lvl o<0)=false by simp];rfl
   rw[hs];exact @key
end Go.Proofs.T
namespace Go.Proofs.T
open Go Go.Ab
inductive LM where
 |Fm (w:By)
 |lot (a b:Nat)
 |Du (w:By) (kd lo hi:Nat) (less:Bool)
 |req (w r:By) (n:Nat)
 |OM (a b:Nat)
 |fml (e:Ex)
 |tie (ts:List By)
 |y8 (n:Nat)
 |combo (cs:List Nat)
 |V9 (n:Nat)
 |times (a b c d e:Nat)
def LM.word:LM->By
 | .Fm _=>[116,101,110,100,101,114]
 | .lot .. =>[108,111,116]
 | .Du .. =>[99,114,105,116,101,114,105,111,110]
 | .req .. =>[114,101,113,117,105,114,101]
 | .OM .. =>[112,114,105,99,101]
 | .fml _=>[102,111,114,109,117,108,97]
 | .tie _=>[116,105,101]
 | .y8 _=>[109,111,115,116]
 | .combo _=>[99,111,109,98,111]
 | .V9 _=>[98,117,100,103,101,116]
 | .times .. =>[116,105,109,101,115]
def LM.txt:LM->List By
 | .Fm w=>[w]
 | .lot a b=>[dcN a,AC0,dcN b]
 | .Du w kd lo hi less=>[w,if kd=2 then mX else mY,dcN lo,dcN hi]++if less=true then[AC1]else[]
 | .req w r n=>[w,r,dcN n]
 | .OM a b=>[dcN a,dcN b]
 | .fml _=>[]
 | .tie ts=>ts
 | .y8 n=>[dcN n]
 | .combo cs=>cs.map dcN
 | .V9 n=>[dcN n]
 | .times a b c d e=>[dcN a,dcN b,dcN c,dcN d,dcN e]
def Le9 (n:Nat):Prop:=n<=1000000000
def LM.once:LM->Bool
 | .lot .. =>false
 | .Du .. =>false
 | .req .. =>false
 | .combo _=>false
 |_=>true
def LM.Ok0:LM->Prop
 | .Fm w=>AM w=true
 | .lot a b=>1<=a/\Le9 a/\Le9 b
 | .Du w kd lo hi _=>Ei w=true/\(kd=1\/kd=2)/\Le9 lo/\Le9 hi
 | .req w r n=>Ei w=true/\([[60,61],[62,61]]:List By).contains r=true/\Le9 n
 | .OM a b=>Le9 a/\Le9 b
 | .fml e=>∃ k m,FW k m e/\k<=12/\m<=60
 | .tie ts=>ts≠[]/\(∀ w∈ts,(w=N9\/Ei w=true))/\ts.Nodup/\ts.length<=12
 | .y8 n=>Le9 n
 | .combo cs=>2<=cs.length/\(∀ n∈cs,1<=n/\n<=1000000000)/\cs.Nodup/\cs.length<=12
 | .V9 n=>Le9 n
 | .times a b c d e=>Le9 a/\Le9 b/\Le9 c/\Le9 d/\Le9 e
def AM0:LM->Option Nat
 | .lot a _=>some a
 |_=>none
def AM1:LM->Option By
 | .Du w .. =>some w
 |_=>none
def Ah7:LM->Option Unit
 | .req .. =>some ()
 |_=>none
def Ah8:LM->Option Unit
 | .combo _=>some ()
 |_=>none
structure BL3 (ms:List LM):Prop where
 each:∀ m∈ms,m.Ok0
 ids:(ms.filterMap AM0).Nodup
 u9:(ms.filterMap AM0).length<=12
 crs:(ms.filterMap AM1).Nodup
 G9:(ms.filterMap AM1).length<=12
 reqs:(ms.filterMap Ah7).length<=24
 J9:(ms.filterMap Ah8).length<=12
 once:ms.Pairwise fun a b=>a.word=b.word->a.once=false
structure Made (ms:List LM) (T:Tn):Prop where
 u9:T.u9.map Lot.id=(ms.filterMap AM0).map fun n:Nat=>(n:Int)
 G9:T.G9.map Bz.name=ms.filterMap AM1
 reqs:T.reqs.length=(ms.filterMap Ah7).length
 J9:T.J9.length=(ms.filterMap Ah8).length
 AJ:(∀ ts,LM.tie ts∉ms)->T.AJ=[]
def under (ls:List By):By:=(ls.map fun l=>l++[10]).flatten
def spJ:List By->By
 | []=>[]
 | [w]=>w
 |w::ws=>w++32::spJ ws
def DK:LM->By
 | .fml e=>(LM.fml e).word++32::J8 12 0 e
 |m=>spJ (m.word::m.txt)
def An4 (T:Tn):List LM :=
 .Fm T.name::(T.u9.map (fun l=>LM.lot l.id.toNat l.y8.toNat)++(T.G9.map (fun c=>LM.Du c.name c.kind.toNat c.low.toNat c.high.toNat c.less)++(T.reqs.map (fun r=>LM.req r.name r.rel r.value.toNat) ++
  (.OM T.low.toNat T.high.toNat:: .fml T.f::((if T.AJ=[]then[]else[.tie T.AJ])++((if T.y8=0 then[]else[.y8 T.y8.toNat])++(T.J9.map (fun c=>LM.combo (c.map Int.toNat)) ++
    [.V9 T.V9.toNat,.times T.t.q.toNat T.t.b.toNat T.t.g.toNat T.t.p.toNat T.t.s.toNat])))))))
def Il (T:Tn):By:=under ((An4 T).map DK)
def In9 (n:Int):Prop:=0<=n/\n<=1000000000
structure IG (T:Tn):Prop where
 name:AM T.name=true
 u9:T.u9.length<=12
 At7:T.u9≠[]
 lot:∀ l∈T.u9,1<=l.id/\l.id<=1000000000/\In9 l.y8
 ids:(T.u9.map Lot.id).Nodup
 G9:T.G9.length<=12
 Du:∀ c∈T.G9,Ei c.name=true/\(c.kind=1\/c.kind=2)/\In9 c.low/\In9 c.high
 crs:(T.G9.map Bz.name).Nodup
 reqs:T.reqs.length<=24
 req:∀ r∈T.reqs,Ei r.name=true/\([[60,61],[62,61]]:List By).contains r.rel=true/\In9 r.value
 low:In9 T.low
 high:In9 T.high
 f:∃ k m,FW k m T.f/\k<=12/\m<=60
 AJ:T.AJ.length<=12
 tie:∀ w∈T.AJ,(w=N9\/Ei w=true)
 tnd:T.AJ.Nodup
 y8:In9 T.y8
 J9:T.J9.length<=12
 combo:∀ c∈T.J9,2<=c.length/\c.length<=12/\c.Nodup/\∀ n∈c,1<=n/\n<=1000000000
 V9:In9 T.V9
 t:In9 T.t.q/\In9 T.t.b/\In9 T.t.g/\In9 T.t.p/\In9 T.t.s


end Go.Proofs.T
