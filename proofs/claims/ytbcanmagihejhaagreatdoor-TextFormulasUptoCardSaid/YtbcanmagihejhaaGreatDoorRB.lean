/- A formula that was printed is read as it was. -/
import Derived.Test.YtbcanmagihejhaaGreatDoorRA
import Derived.Test.YtbcanmagihejhaaGreatDoorBB
set_option linter.unusedSimpArgs false
set_option linter.unusedVariables false
namespace Go.Proofs.T
open Go Go.Ab
set_option maxRecDepth 100000
def At (toks:List Tok) (k:Nat) (ts post:List By):Prop:=(toks.map Prod.fst).drop k=ts++post
theorem At.head {toks:List Tok}{k:Nat}{t:By}{ts post:List By}(h:At toks k (t::ts) post):(tokA toks k).1=t:=by
 have h1:((toks.map Prod.fst).drop k)[0]? =some t:=by rw [show _=_ from h];rfl
 rw [List.getElem?_drop,Nat.add_zero,List.getElem?_map] at h1
 obtain ⟨x,h2,h3⟩:=Option.map_eq_some_iff.1 h1
 unfold tokA
 rw [List.getD_eq_getElem?_getD,h2]
 exact h3
theorem At.skip {toks:List Tok}{k:Nat}{ts us post:List By}(h:At toks k (ts++us) post):At toks (k+ts.length) us post:=by
 unfold At at *
 rw [<- List.drop_drop,h,List.append_assoc,List.drop_left]
theorem At.pre {toks:List Tok}{k:Nat}{ts us post:List By}(h:At toks k (ts++us) post):At toks k ts (us++post):=by
 unfold At at *
 rw [h,List.append_assoc]
theorem At.next {toks:List Tok}{k:Nat}{t:By}{us post:List By}(h:At toks k (t::us) post):At toks (k+1) us post:=At.skip (ts:=[t]) h
theorem At.lt {toks:List Tok}{k:Nat}{t:By}{us post:List By}(h:At toks k (t::us) post):k+us.length<toks.length:=by
 have:=congrArg List.length (show _=_ from h)
 simp at this
 omega
theorem At.post {toks:List Tok}{k:Nat}{ts post:List By}(h:At toks k ts post):(tokA toks (k+ts.length)).1=post.getD 0 []:=by
 have h1:(toks.map Prod.fst).drop (k+ts.length)=post:=by
  have:=At.skip (ts:=ts) (us:=[]) (post:=post) (k:=k) (toks:=toks) (by rw [List.append_nil];exact h)
  exact this
 cases hp:post with
 | nil =>
   rw [hp] at h1
   have hl:toks.length<=k+ts.length:=by simpa using h1
   unfold tokA
   rw [List.getD_eq_getElem?_getD,List.getElem?_eq_none hl];rfl
 | cons t us =>
   have:At toks (k+ts.length) (t::us) []:=by unfold At;rw [h1,hp,List.append_nil]
   rw [this.head];rfl
theorem At.le {toks:List Tok}{k:Nat}{ts post:List By}(h:At toks k ts post) (hk:k<=toks.length):k+ts.length<=toks.length:=by
 have:=congrArg List.length (show _=_ from h)
 simp at this
 omega
section
variable {toks:List Tok}
noncomputable def Fa (toks:List Tok) (fu:Nat):Nat->Nat->Except Er Fx:=facS (fmlF toks fu) toks
noncomputable def Tm (toks:List Tok) (fu:Nat):Nat->Nat->Except Er Fx:=fun k p=>chainS (Fa toks fu) [42,47] toks k p
theorem fml_succ {fu k p:Nat}:fmlF toks (fu+1) k p=chainS (Tm toks fu) [43,45] toks k p:=rfl
def Q2 (toks:List Tok) (fu g:Nat) (e:Ex) (d m:Nat):Prop:=∀ pos p post,At toks pos (tokF g 2 e) post->Fa toks fu pos p= .ok (e,d,pos+(tokF g 2 e).length,p+m)
def Q1 (toks:List Tok) (fu g:Nat) (e:Ex) (d m:Nat):Prop:=∀ pos p post,At toks pos (tokF g 1 e) post->Tm toks fu pos p=chainF (Fa toks fu) [42,47] toks (toks.length-(pos+(tokF g 1 e).length)) (e,d,pos+(tokF g 1 e).length,p+m)
def Q0 (toks:List Tok) (fu g:Nat) (e:Ex) (d m:Nat):Prop:=∀ pos p post,At toks pos (tokF g 0 e) post->opB [42,47] (post.getD 0 [])=false->chainS (Tm toks fu) [43,45] toks pos p=chainF (Tm toks fu) [43,45] toks (toks.length-(pos+(tokF g 0 e).length)) (e,d,pos+(tokF g 0 e).length,p+m)
theorem chain_stop {A:Nat->Nat->Except Er Fx}{ops:By}{f:Nat}{e:Ex}{d k p:Nat}(h:opB ops (tokA toks k).1=false):chainF A ops toks f (e,d,k,p)= .ok (e,d,k,p):=by
 cases f with
 | zero=>rfl
 | succ f=>rw [chainF_succ,if_neg (by rw [h];simp)]
theorem q1_of_q2 {fu g:Nat}{e:Ex}{d m:Nat}(ht:tokF g 1 e=tokF g 2 e) (h:Q2 toks fu g e d m):Q1 toks fu g e d m:=by
 intro pos p post hA
 rw [ht] at hA ⊢
 unfold Tm chainS
 rw [h pos p post hA,thenR_ok]
theorem q0_of_q1 {fu g:Nat}{e:Ex}{d m:Nat}(ht:tokF g 0 e=tokF g 1 e) (h:Q1 toks fu g e d m):Q0 toks fu g e d m:=by
 intro pos p post hA hp
 rw [ht] at hA ⊢
 have h1:=h pos p post hA
 rw [chain_stop (by rw [hA.post];exact hp)] at h1
 show thenR (Tm toks fu pos p) _=_
 rw [h1,thenR_ok]
theorem fa_bd {fu:Nat}(k p:Nat):Bd k p (Fa toks fu k p):=facS_bd (fmlF_bd _) k p
theorem tm_bd {fu:Nat}(k p:Nat):Bd k p (Tm toks fu k p):=chainS_bd fa_bd k p
theorem chain_step {A:Nat->Nat->Except Er Fx}{ops op:By}{a b:Ex}{da db k1 k2 p1 p2:Nat}(hA:∀ k p,Bd k p (A k p)) (hk:k1<toks.length) (ho:(tokA toks k1).1=op) (hop:opB ops op=true) (hb:A (k1+1) p1= .ok (b,db,k2,p2)) (hk2:k2<=toks.length) :
  chainF A ops toks (toks.length-k1) (a,da,k1,p1)=chainF A ops toks (toks.length-k2) (.mk op 0 0 [] [a,b],1+max da db,k2,p2+1):=by
 obtain ⟨f,hf⟩:∃ f,toks.length-k1=f+1:=⟨toks.length-k1-1,om⟩
 rw [hf,chainF_succ,ho,if_pos hop,hb,thenR_ok]
 try dsimp only
 have hlt:=(hA _ _ _ _ _ _ hb).1
 exact chainF_fuel (k0:=0) (fun k p _ e d k' p' h=>(hA k p e d k' p' h).1) _ _ _ _ _ _ (Nat.zero_le _) om (Nat.le_refl _) om (fun k hk=>opB_end hk)
theorem tokF_bin {g least:Nat}{o:By}{a b:Ex}(h:o=[43]\/o=[45]\/o=[42]\/o=[47]):tokF (g+1) least (.mk o 0 0 [] [a,b])=parT (decide (lvl o<least)) (tokF g (lvl o) a++o::tokF g (lvl o+1) b):=by
 have hn:o≠numB3/\o≠nmB/\¬ (o=minB\/o=maxB):=by rcases h with rfl|rfl|rfl|rfl <;> decide
 show parT _ (if _ then _ else _)=_
 rw [if_neg hn.1,if_neg hn.2.1]
 try dsimp only
 rw [if_neg hn.2.2]
theorem tokF_mm {g least:Nat}{o:By}{a b:Ex}(h:o=minB\/o=maxB) (hl:least<=2):tokF (g+1) least (.mk o 0 0 [] [a,b])=o::[40]::(tokF g 0 a++[44]::(tokF g 0 b++[[41]])):=by
 have hn:o≠numB3/\o≠nmB:=by rcases h with rfl|rfl <;> decide
 have hv:lvl o=2:=by rcases h with rfl|rfl <;> rfl
 show parT _ (if _ then _ else _)=_
 rw [if_neg hn.1,if_neg hn.2]
 try dsimp only
 rw [if_pos h,hv]
 unfold parT
 rw [if_neg (by simp;omega)]
theorem q2_par {fu g:Nat}{e:Ex}{d m:Nat}(ht:tokF g 2 e=[40]::(tokF g 0 e++[[41]])) (h:Q0 toks fu g e d m):Q2 toks (fu+1) g e d m:=by
 intro pos p post hA
 rw [ht] at hA ⊢
 have h1:=hA.head
 have h2:=hA.next
 have h3:=h (pos+1) p ([[41]]++post) h2.pre (by rfl)
 have h4:=h2.skip.head
 rw [chain_stop (by rw [h4];rfl)] at h3
 show facS _ toks pos p=_
 unfold facS
 rw [h1,if_neg (by decide),if_pos rfl,fml_succ,h3,thenR_ok]
 try dsimp only
 unfold skipS
 rw [if_pos h4,thenR_ok]
 simp
 omega
theorem fw_read {k m:Nat}{e:Ex}(h:FW k m e):∀ (g fu:Nat),k<=g->(k<=fu->Q0 toks fu g e k m)/\(k+1<=fu->Q1 toks fu g e k m/\Q2 toks fu g e k m):=by
 induction h with
 | @num n d h =>
   intro g fu hg
   obtain ⟨g,rfl⟩:∃ x,g=x+1:=⟨g-1,om⟩
   have ht:∀ least,least<=2->tokF (g+1) least (.mk numB3 n d [] [])=[deT n d]:=by
    intro least hl
    show parT _ (if _ then _ else _)=_
    rw [if_pos rfl]
    unfold parT
    rw [if_neg (by rw [show lvl numB3=2 from rfl];simp;omega)]
   have h2:Q2 toks fu (g+1) (.mk numB3 n d [] []) 1 1:=by
    intro pos p post hA
    rw [ht 2 om] at hA ⊢
    show facS _ toks pos p=_
    unfold facS
    have hd:headB digB (tokA toks pos).1=true:=by
     rw [hA.head]
     rcases h.lex with ⟨c,w,e,h1⟩|⟨c,w,x,v,e,h1,_⟩
     ·rw [e];rw [List.all_cons,Bool.and_eq_true] at h1;exact h1.1
     ·rw [e];rw [List.all_cons,Bool.and_eq_true] at h1;exact h1.1
    rw [if_pos hd,h.dec toks pos p hA.head];rfl
   have h1:=q1_of_q2 ((ht 1 om).trans (ht 2 om).symm) h2
   exact ⟨fun _=>q0_of_q1 ((ht 0 om).trans (ht 1 om).symm) h1,fun _=>⟨h1,h2⟩⟩
 | @name nm q1 q2 q3 =>
   intro g fu hg
   obtain ⟨g,rfl⟩:∃ x,g=x+1:=⟨g-1,om⟩
   have ht:∀ least,least<=2->tokF (g+1) least (.mk nmB 0 0 nm [])=[nm]:=by
    intro least hl
    show parT _ (if _ then _ else _)=_
    rw [if_neg (by decide),if_pos rfl]
    unfold parT
    rw [if_neg (by rw [show lvl nmB=2 from rfl];simp;omega)]
   have h2:Q2 toks fu (g+1) (.mk nmB 0 0 nm []) 1 1:=by
    intro pos p post hA
    rw [ht 2 om] at hA ⊢
    show facS _ toks pos p=_
    unfold facS
    rw [hA.head]
    obtain ⟨c,w,e,c1,c2⟩:=name_split q1
    have hd:headB digB nm=false:=by
     rw [e]
     cases hx:on digB c with
     | false=>exact hx
     | true=>rw [dig_let hx] at c1;cases c1
    have hp:nm≠[40]:=by rintro rfl;cases e;cases c1
    rw [if_neg (by rw [hd];simp),if_neg hp,if_neg (by simp [q2,q3]),if_pos q1];rfl
   have h1:=q1_of_q2 ((ht 1 om).trans (ht 2 om).symm) h2
   exact ⟨fun _=>q0_of_q1 ((ht 0 om).trans (ht 1 om).symm) h1,fun _=>⟨h1,h2⟩⟩
 | @bin k j m i o a b h ha hb iha ihb =>
   intro g fu hg
   obtain ⟨g,rfl⟩:∃ x,g=x+1:=⟨g-1,om⟩
   have key:lvl o=0/\opB [43,45] o=true\/lvl o=1/\opB [42,47] o=true:=by
    rcases h with rfl|rfl|rfl|rfl
    ·exact .inl ⟨rfl,by rfl⟩
    ·exact .inl ⟨rfl,by rfl⟩
    ·exact .inr ⟨rfl,by rfl⟩
    ·exact .inr ⟨rfl,by rfl⟩
   rcases key with ⟨hl,hop⟩|⟨hl,hop⟩
   ·have t0:tokF (g+1) 0 (.mk o 0 0 [] [a,b])=tokF g 0 a++o::tokF g 1 b:=by rw [tokF_bin h,hl];rfl
    have t1:tokF (g+1) 1 (.mk o 0 0 [] [a,b])=[40]::(tokF g 0 a++o::tokF g 1 b++[[41]]):=by rw [tokF_bin h,hl];rfl
    have t2:tokF (g+1) 2 (.mk o 0 0 [] [a,b])=[40]::(tokF g 0 a++o::tokF g 1 b++[[41]]):=by rw [tokF_bin h,hl];rfl
    have h0:∀ fu,1+max k j<=fu->Q0 toks fu (g+1) (.mk o 0 0 [] [a,b]) (1+max k j) (m+i+1):=by
     intro fu hfu pos p post hA hp
     rw [t0] at hA ⊢
     have a1:=(iha g fu om).1 om pos p _ hA.pre (by
      rcases h with rfl|rfl|rfl|rfl <;> first|rfl|(cases hl))
     have hA2:=hA.skip
     have b1:=((ihb g fu om).2 om).1 (pos+(tokF g 0 a).length+1) (p+m) post hA2.next
     rw [chain_stop (by rw [hA2.next.post];exact hp)] at b1
     have hlt:=hA2.lt
     rw [a1,chain_step tm_bd om hA2.head hop b1 om]
     simp only [List.length_append,List.length_cons]
     congr 1
     ·omega
     ·simp only [Prod.mk.injEq,true_and]
      omega
    refine ⟨h0 fu,fun hfu=>?_⟩
    obtain ⟨fu,rfl⟩:∃ x,fu=x+1:=⟨fu-1,om⟩
    have h2:=q2_par (by rw [t2,t0]) (h0 fu om)
    exact ⟨q1_of_q2 (by rw [t1,t2]) h2,h2⟩
   ·have t0:tokF (g+1) 0 (.mk o 0 0 [] [a,b])=tokF g 1 a++o::tokF g 2 b:=by rw [tokF_bin h,hl];rfl
    have t1:tokF (g+1) 1 (.mk o 0 0 [] [a,b])=tokF g 1 a++o::tokF g 2 b:=by rw [tokF_bin h,hl];rfl
    have t2:tokF (g+1) 2 (.mk o 0 0 [] [a,b])=[40]::(tokF g 1 a++o::tokF g 2 b++[[41]]):=by rw [tokF_bin h,hl];rfl
    have h1:∀ fu,1+max k j<=fu->Q1 toks fu (g+1) (.mk o 0 0 [] [a,b]) (1+max k j) (m+i+1):=by
     intro fu hfu pos p post hA
     rw [t1] at hA ⊢
     have a1:=((iha g fu om).2 om).1 pos p _ hA.pre
     have hA2:=hA.skip
     have b1:=((ihb g fu om).2 om).2 (pos+(tokF g 1 a).length+1) (p+m) post hA2.next
     have hlt:=hA2.lt
     rw [a1,chain_step fa_bd om hA2.head hop b1 om]
     simp only [List.length_append,List.length_cons]
     congr 1
     ·omega
     ·simp only [Prod.mk.injEq,true_and]
      omega
    have h0:∀ fu,1+max k j<=fu->Q0 toks fu (g+1) (.mk o 0 0 [] [a,b]) (1+max k j) (m+i+1):=fun fu hfu=>q0_of_q1 (by rw [t0,t1]) (h1 fu hfu)
    refine ⟨h0 fu,fun hfu=>?_⟩
    obtain ⟨fu,rfl⟩:∃ x,fu=x+1:=⟨fu-1,om⟩
    exact ⟨h1 _ om,q2_par (by rw [t2,t0]) (h0 fu om)⟩
 | @mm k j m i o a b h ha hb iha ihb =>
   intro g fu hg
   obtain ⟨g,rfl⟩:∃ x,g=x+1:=⟨g-1,om⟩
   have h2:1+max k j<=fu->Q2 toks fu (g+1) (.mk o 0 0 [] [a,b]) (1+max k j) (m+i+1):=by
    intro hfu pos p post hA
    obtain ⟨fu,rfl⟩:∃ x,fu=x+1:=⟨fu-1,om⟩
    rw [tokF_mm h om] at hA ⊢
    have a1:=hA.head
    have a2:=hA.next.head
    have a3:=hA.next.next
    have b1:=(iha g fu om).1 om (pos+1+1) p _ a3.pre (by rfl)
    have a4:=a3.skip
    rw [chain_stop (by rw [a4.head];rfl)] at b1
    have b2:=(ihb g fu om).1 om (pos+1+1+(tokF g 0 a).length+1) (p+m) _ a4.next.pre (by rfl)
    have a5:=a4.next.skip
    rw [chain_stop (by rw [a5.head];rfl)] at b2
    show facS _ toks pos p=_
    unfold facS
    rw [a1,if_neg (by rcases h with rfl|rfl <;> decide),if_neg (by rcases h with rfl|rfl <;> decide),if_pos (by rcases h with rfl|rfl <;> decide)]
    unfold skipS
    rw [if_pos a2,thenR_ok]
    try dsimp only
    rw [fml_succ,b1,thenR_ok]
    try dsimp only
    rw [if_pos a4.head,thenR_ok]
    try dsimp only
    rw [fml_succ,b2,thenR_ok]
    try dsimp only
    rw [if_pos a5.head,thenR_ok]
    simp
    omega
   have ht:∀ x y,x<=2->y<=2->tokF (g+1) x (.mk o 0 0 [] [a,b])=tokF (g+1) y (.mk o 0 0 [] [a,b]):=fun x y hx hy=>by rw [tokF_mm h hx,tokF_mm h hy]
   have h1:=fun hfu=>q1_of_q2 (ht 1 2 om om) (h2 hfu)
   exact ⟨fun hfu=>q0_of_q1 (ht 0 1 om om) (h1 hfu),fun hfu=>⟨h1 om,h2 om⟩⟩
theorem fw_len {k m:Nat}{e:Ex}(h:FW k m e):∀ g least,k<=g->k<=(tokF g least e).length:=by
 have hp:∀ (b:Bool) (ts:List By),ts.length<=(parT b ts).length:=fun b ts=>by unfold parT;split <;> simp;omega
 induction h with
 | @num n d h =>
   intro g least hg
   obtain ⟨g,rfl⟩:∃ x,g=x+1:=⟨g-1,om⟩
   refine Nat.le_trans ?_ (hp _ _)
   rw [if_pos rfl];simp
 | @name nm q1 q2 q3 =>
   intro g least hg
   obtain ⟨g,rfl⟩:∃ x,g=x+1:=⟨g-1,om⟩
   refine Nat.le_trans ?_ (hp _ _)
   rw [if_neg (by decide),if_pos rfl];simp
 | @bin k j m i o a b h ha hb iha ihb =>
   intro g least hg
   obtain ⟨g,rfl⟩:∃ x,g=x+1:=⟨g-1,om⟩
   rw [tokF_bin h]
   refine Nat.le_trans ?_ (hp _ _)
   have:=iha g (lvl o) om
   have:=ihb g (lvl o+1) om
   simp;omega
 | @mm k j m i o a b h ha hb iha ihb =>
   intro g least hg
   obtain ⟨g,rfl⟩:∃ x,g=x+1:=⟨g-1,om⟩
   have hn:o≠numB3/\o≠nmB:=by rcases h with rfl|rfl <;> decide
   refine Nat.le_trans ?_ (hp _ _)
   rw [if_neg hn.1,if_neg hn.2]
   try dsimp only
   rw [if_pos h]
   have:=iha g 0 om
   have:=ihb g 0 om
   simp;omega
theorem read_show {k m g:Nat}{e:Ex}(h:FW k m e) (hg:k<=g) (hk:k<=12) (hm:m<=60) (ht:toks.map Prod.fst=tokF g 0 e++[[]]):readS toks= .ok e:=by
 have hl:toks.length=(tokF g 0 e).length+1:=by have:=congrArg List.length ht;simpa using this
 have hle:=fw_len h g 0 hg
 have hA:At toks 0 (tokF g 0 e) [[]]:=ht
 have h0:=(fw_read (toks:=toks) h g (tokF g 0 e).length hg).1 hle 0 0 [[]] hA (by rfl)
 rw [chain_stop (by rw [hA.post];rfl)] at h0
 unfold readS
 rw [hl,fml_succ,h0,thenR_ok]
 try dsimp only
 rw [if_pos (by rw [hA.post];rfl),if_neg (by simp;omega)]
end
end Go.Proofs.T
namespace Go.Proofs.T
open Go Go.Ab
set_option maxRecDepth 100000
theorem dcF_any:∀ (f g n:Nat),n<f->n<g->dcF f n=dcF g n:=by
 intro f
 induction f with
 | zero=>intro g n h;omega
 | succ f ih =>
   intro g n h1 h2
   cases g with
   | zero=>omega
   | succ g =>
     show (if n<10 then [dgt n] else dcF f (n / 10)++[dgt n])=(if n<10 then [dgt n] else dcF g (n / 10)++[dgt n])
     by_cases h:n<10
     ·rw [if_pos h,if_pos h]
     ·rw [if_neg h,if_neg h,ih g (n / 10) om om]
theorem dcN_small {n:Nat}(h:n<10):dcN n=[dgt n]:=by
 show (if n<10 then [dgt n] else _)=_
 rw [if_pos h]
theorem dcN_big {n:Nat}(h:¬ n<10):dcN n=dcN (n / 10)++[dgt n]:=by
 show (if n<10 then [dgt n] else dcF n (n / 10)++[dgt n])=dcF (n / 10+1) (n / 10)++[dgt n]
 rw [if_neg h,dcF_any n (n / 10+1) (n / 10) om om]
theorem dcN_len:∀ (k n:Nat),n<10 ^ (k+1)->(dcN n).length<=k+1:=by
 intro k
 induction k with
 | zero=>intro n h;rw [dcN_small om];simp
 | succ k ih =>
   intro n h
   by_cases h10:n<10
   ·rw [dcN_small h10];simp
   ·rw [dcN_big h10]
    have:=ih (n / 10) (by rw [Nat.pow_succ] at h;omega)
    simp;omega
theorem dgt_nat {n:Nat}:(dgt n).toNat=48+n % 10:=by
 unfold dgt
 rw [UInt8.toNat_ofNat']
 omega
theorem dgt_dig {n:Nat}:on digB (dgt n)=true:=by
 unfold on digB
 rw [dgt_nat]
 have e1:decide (((48+n % 10:Nat):Int)<48)=false:=by rw [decide_eq_false_iff_not];omega
 have e2:decide ((57:Int)<((48+n % 10:Nat):Int))=false:=by rw [decide_eq_false_iff_not];omega
 rw [e1,e2];rfl
theorem dcN_spec:∀ (f n:Nat),n<f->(dcN n).all (on digB)=true/\valN (dcN n)=n/\∃ c w,dcN n=c::w/\(c=48->n=0/\w=[]):=by
 intro f
 induction f with
 | zero=>intro n h;omega
 | succ f ih =>
   intro n hf
   by_cases h10:n<10
   ·rw [dcN_small h10]
    refine ⟨by rw [List.all_cons,dgt_dig];rfl,?_,_,_,rfl,fun h=>⟨?_,rfl⟩⟩
    ·show 10*0+((dgt n).toNat-48)=n
     rw [dgt_nat];omega
    ·have:=congrArg UInt8.toNat h
     rw [dgt_nat] at this
     change 48+n % 10=48 at this
     omega
   ·obtain ⟨h1,h2,c,w,h3,h4⟩:=ih (n / 10) om
    rw [dcN_big h10]
    refine ⟨by rw [List.all_append,h1,List.all_cons,dgt_dig];rfl,?_,c,w++[dgt n],by rw [h3];rfl,fun h=>?_⟩
    ·have:valN (dcN (n / 10)++[dgt n])=10*valN (dcN (n / 10))+((dgt n).toNat-48):=by
      unfold valN;rw [List.foldl_append];rfl
     rw [this,h2,dgt_nat];omega
    ·have:=(h4 h).1;omega
theorem dcN_num (n:Nat):numB (dcN n)=true/\valN (dcN n)=n:=by
 obtain ⟨h1,h2,c,w,h3,h4⟩:=dcN_spec (n+1) n (Nat.lt_succ_self _)
 refine ⟨?_,h2⟩
 unfold numB
 rw [h1,h3]
 have hc:on digB c=true:=by rw [h3,List.all_cons,Bool.and_eq_true] at h1;exact h1.1
 show (on digB c&&true&&zero1 (c::w))=true
 rw [hc]
 cases w with
 | nil=>rfl
 | cons x v =>
   show (true&&true&& !decide (c=48))=true
   have:decide (c=48)=false:=decide_eq_false fun e=>by cases (h4 e).2
   rw [this];rfl
theorem dcN_ne (n:Nat):dcN n≠[]:=by
 obtain ⟨-,-,c,w,h,-⟩:=dcN_spec (n+1) n (Nat.lt_succ_self _)
 rw [h];simp
section
variable {toks:List Tok} {k:Nat} {T:Tn}
def mostW:By:=[109,111,115,116]
theorem At.room {ts:List By}(h:At toks k ts [[]]):ts.length<=toks.length-k:=by
 have:=congrArg List.length (show _=_ from h)
 simp at this
 omega
end
end Go.Proofs.T
namespace Go.Proofs.T
open Go Go.Ab
open Nat (reduceMul reduceEqDiff reduceAdd)
set_option maxRecDepth 100000
theorem dcN_len20 {n:Nat}(h:n<18446744073709551616):(dcN n).length<=20:=dcN_len 19 n om
theorem rdec_pos:∀ (f n:Nat){Z:St},n<f->n<=9223372036854775807 ->
  Ev (go Tryz.prog HS (.fn 179) [.int .i64 (n:Nat)] Z) (fun r=>∃ Z',r=⟨false,str (dcN n),Z'⟩/\Ext Z Z') ⟨⟩:=by
 intro f
 induction f with
 | zero=>intro n Z h;omega
 | succ f ih =>
   intro n Z hf hn
   refine ev_go Tryz.func179 rfl rfl ?_
   have hlt:decide ((n:Int)<0)=false:=by first|(simp;done)|(simp;omega)
   by_cases h10:n<10
   ·have hc:decide ((n:Int)<10)=true:=by first|(simp;done)|(simp;omega)
    have hd:UInt8.ofNat (48+(n:Int)).toNat=dgt n:=by unfold dgt;congr 1;omega
    simp (maxSteps:=8000000) (disch:=first|exact dS|fail) only [↓bD,bW,reduceMul,reduceEqDiff,reduceAdd,Nat.reduceBEq,reduceIte,Option.isNone_none,hlt,hc,yu_t,yu_f,Nat.one_mul,Nat.mul_one,Nat.zero_mul,Nat.reduceMul,hd,Tryz.results179]
    rw [dcN_small h10]
    exact ⟨_,rfl,(Ext.refl _).new' _⟩
   ·have hc:decide ((n:Int)<10)=false:=by first|(simp;done)|(simp;omega)
    have hq:IntKind.i64.wrap ((n:Int).tdiv 10)=((n / 10:Nat):Int):=by
     rw [show (n:Int).tdiv 10=((n / 10:Nat):Int) from rfl]
     exact wrap64_in om om
    refine gS1 (aI @hlt (aI @hc (aI @hq (aI @yu_t @yu_f)))) ?_
    refine (ih (n / 10) om om).mono ?_
    rintro r ⟨Z',rfl,hE⟩
    have hr:(n:Int).tmod 10=((n % 10:Nat):Int):=rfl
    refine gS1 @hr ?_
    refine (ih (n % 10) om om).mono ?_
    rintro r ⟨Z2,rfl,hE2⟩
    have hlen:=dcN_len20 (n:=n / 10) om
    have h1:dcN (n % 10)=[dgt n]:=by rw [dcN_small om];unfold dgt;congr 2;omega
    rw [h1]
    refine gS1 @Tryz.results179 ?_
    rw [<- dcN_big h10]
    exact ⟨_,rfl,hE.trans hE2⟩
theorem rq_int {n:Nat}(h:n<=1000000000):RQ (n:Int) 1:=⟨om,om,om,om,by simp⟩
theorem rtext_ok {Z:St}{n:Nat}(h:n<=1000000000):Ev (go Tryz.prog HS (.fn 139) [ratQ (n:Nat) 1] Z) (fun r=>∃ Z',r=⟨false,str (dcN n),Z'⟩/\Ext Z Z') ⟨⟩:=by
 refine ev_go Tryz.func139 rfl rfl ?_
 unfold ratQ
 refine gS ?_
 refine (right_ok (rq_int h)).mono ?_
 rintro r ⟨Z2,rfl,hE2⟩
 have r1:Z2.row Z.n=some [.int .i64 (n:Nat),.int .i64 1]:=by rw [hE2.row (cL)];exact cL
 refine gS1 @r1 ?_
 refine (rdec_pos _ n (Nat.lt_succ_self _) om).mono ?_
 rintro r ⟨Z3,rfl,hE3⟩
 refine gS1 @Tryz.results139 ?_
 exact ⟨_,rfl,Ext.trans (eX) (hE2.trans hE3)⟩
theorem rnumber_ok {Z:St}{n:Nat}(h:n<=1000000000):Ev (go Tryz.prog HS (.fn 100) [.int .i64 (n:Nat)] Z) (fun r=>∃ Z',r=⟨false,str (dcN n),Z'⟩/\Ext Z Z') ⟨⟩:=by
 refine ev_go Tryz.func100 rfl rfl ?_
 refine gS ?_
 refine (rtext_ok h).mono ?_
 rintro r ⟨Z2,rfl,hE2⟩
 refine gS1 @Tryz.results100 ?_
 exact ⟨_,rfl,hE2⟩
theorem dcN_len9 {n:Nat}(h:n<=1000000000):(dcN n).length<=10:=dcN_len 9 n om
set_option maxHeartbeats 2000000 in
theorem rdecimal_ok {Z:St}{n d:Int}(h:RQ n d) (h0:0<=n) (hd:(1000000:Int) % d=0):Ev (go Tryz.prog HS (.fn 80) [ratQ n d] Z) (fun r=>∃ Z',r=⟨false,str (deT n d),Z'⟩/\Ext Z Z') ⟨⟩:=by
 obtain ⟨N,rfl⟩:=Int.eq_ofNat_of_zero_le h0
 obtain ⟨D,rfl⟩:=Int.eq_ofNat_of_zero_le (by have:=h.d1;omega:0<=d)
 have d1:=h.d1
 have d2:=h.d2
 have n2:=h.n2
 have hD:0<D:=om
 obtain ⟨m,hm⟩:∃ m,N % D=m:=⟨_,rfl⟩
 have last:∀ x,x=10 ^ 6*m->x % D=0:=by
  intro x hx
  have hdd:(10 ^ 6) % D=0:=Int.natCast_inj.1 (by rw [Int.natCast_emod];exact hd)
  rw [hx,Nat.mul_mod,hdd,Nat.zero_mul,Nat.zero_mod]
 have f0:∀ j D,frT j 0 D=[]:=fun j D=>by cases j <;> rfl
 have fs:∀ j rest,rest≠0->frT (j+1) rest D=dcN (10*rest / D)++frT j (10*rest % D) D:=fun j rest h=>by show (if rest=0 then _ else _)=_;rw [if_neg h]
 have hde:deT (N:Int) (D:Int)=dcN (N / D)++(if N % D=0 then [] else 46::frT 6 (N % D) D):=rfl
 rw [hde]
 clear hd
 refine ev_go Tryz.func80 rfl rfl ?_
 unfold ratQ
 have z0:decide ((D:Int)=0)=false:=decide_eq_false om
 obtain ⟨q,hq⟩:∃ q,N / D=q:=⟨_,rfl⟩
 have b1:q<=1000000000:=by rw [<- hq];exact Nat.div_le_of_le_mul om
 have b2:m<D:=by rw [<- hm];exact Nat.mod_lt _ hD
 have e1:IntKind.i64.wrap ((N:Int).tdiv D)=(q:Int):=by
  rw [show (N:Int).tdiv D=((N / D:Nat):Int) from rfl,hq];exact wrap64_in om om
 have e2:(N:Int).tmod D=(m:Int):=by rw [<- hm];rfl
 refine gS1 (aI @z0 (aI @e1 @e2)) ?_
 refine (rnumber_ok b1).mono ?_
 rintro r ⟨Z2,rfl,hE2⟩
 have r1:Z2.row Z.n=some [.int .i64 (N:Nat),.int .i64 (D:Nat)]:=by rw [hE2.row (cL)];exact cL
 have hl:=dcN_len9 b1
 have step:∀ k,(10 ^ (k+1)*m) % D=(10*((10 ^ k*m) % D)) % D:=by
  intro k
  rw [Nat.pow_succ,Nat.mul_comm (10 ^ k) 10,Nat.mul_assoc,Nat.mul_mod 10,Nat.mul_mod 10 ((10 ^ k*m) % D),Nat.mod_mod]
 by_cases m0:m=0
 ·have c0:decide (0<(m:Int))=false:=decide_eq_false om
  refine gS1 (aI @r1 (aI @z0 (aI @e2 @c0))) ?_
  refine ev_loop (fun j fr Z3=>∃ k s rest,j+k=6/\rest=(10 ^ k*m) % D/\fr.get 4=some (.int .i64 (rest:Nat))/\fr.get 3=some (str s)/\s++frT j rest D=dcN q/\s.length<=12+k/\fr.get 1=some (.pointer (some ⟨Z.n,0,none⟩))/\Ext (Z.new [.int .i64 (N:Nat),.int .i64 (D:Nat)]) Z3)
   (fun r=>∃ fr Z3,r=⟨.exit 0,fr,Z3⟩/\fr.get 3=some (str (dcN q))/\Ext Z Z3) 6 ⟨0,_,m,rfl,by rw [Nat.pow_zero,Nat.one_mul,Nat.mod_eq_of_lt b2],fR,fR,(by rw [m0,f0,List.append_nil]),om,fR,hE2⟩ ?_ ?_
  ·rintro j fr Z3 ⟨k,s,rest,hj,hrest,g4,g3,ht,hs,g1,hE⟩
   by_cases r0:rest=0
   ·have c1:decide (0<(rest:Int))=false:=decide_eq_false om
    refine gS1 (aI @g4 (aI @g3 @c1)) ?_
    rw [r0,f0,List.append_nil] at ht
    exact ⟨_,_,rfl,by rw [<- ht];exact fR1 g3,Ext.trans (eX) hE⟩
   have k6:k<6:=by
    rcases Nat.lt_or_ge k 6 with h|h
    ·exact h
    ·obtain rfl:k=6:=om
     exact absurd (hrest.trans (last _ rfl)) r0
   have c1:decide (0<(rest:Int))=true:=decide_eq_true om
   have rD:rest<D:=by rw [hrest];exact Nat.mod_lt _ hD
   have w1:Z3.row Z.n=some [.int .i64 (N:Nat),.int .i64 (D:Nat)]:=by rw [hE.row (by simp)];exact cL
   obtain ⟨u,hu⟩:∃ u,10*rest / D=u:=⟨_,rfl⟩
   obtain ⟨v,hv⟩:∃ v,10*rest % D=v:=⟨_,rfl⟩
   have u10:u<10:=by rw [<- hu];exact Nat.div_lt_of_lt_mul (by rw [Nat.mul_comm];omega)
   have f1:IntKind.i64.wrap ((10*(rest:Int)).tdiv D)=(u:Int):=by
    rw [show (10*(rest:Int))=((10*rest:Nat):Int) by omega,show ((10*rest:Nat):Int).tdiv D=((10*rest / D:Nat):Int) from rfl,hu];exact wrap64_in om om
   have f2:(10*(rest:Int)).tmod D=(v:Int):=by
    rw [show (10*(rest:Int))=((10*rest:Nat):Int) by omega,show ((10*rest:Nat):Int).tmod D=((10*rest % D:Nat):Int) from rfl,hv]
   refine gS1 (aI @g4 (aI @g3 (aI @g1 (aI @c1 (aI @w1 (aI @z0 @f1)))))) ?_
   refine (rnumber_ok (n:=u) om).mono ?_
   rintro r ⟨Z4,rfl,hE4⟩
   have w2:Z4.row Z.n=some [.int .i64 (N:Nat),.int .i64 (D:Nat)]:=by rw [hE4.row (by have:=hE.n;simp at this;omega)];exact w1
   have l1:(dcN u).length=1:=by rw [dcN_small u10];rfl
   refine gS1 (aI @g4 (aI @g3 (aI @g1 (aI @w2 (aI @z0 @f2))))) ?_
   refine ⟨6-(k+1),om,k+1,s++dcN u,v,om,by rw [step,<- hrest,hv],fR,fR,?_,by simp;omega,fR1 g1,hE.trans hE4⟩
   rw [<- ht,show j=6-(k+1)+1 by omega,fs _ _ r0,hu,hv,List.append_assoc]
  rintro r ⟨fr,Z3,rfl,g3,hE⟩
  refine gS1 (aI @g3 @Tryz.results80) ?_
  rw [hq,hm,if_pos m0,List.append_nil]
  exact ⟨_,rfl,hE⟩
 ·have c0:decide (0<(m:Int))=true:=decide_eq_true om
  refine gS1 (aI @r1 (aI @z0 (aI @e2 @c0))) ?_
  refine ev_loop (fun j fr Z3=>∃ k s rest,j+k=6/\rest=(10 ^ k*m) % D/\fr.get 4=some (.int .i64 (rest:Nat))/\fr.get 3=some (str s)/\s++frT j rest D=dcN q++46::frT 6 m D/\s.length<=12+k/\fr.get 1=some (.pointer (some ⟨Z.n,0,none⟩))/\Ext (Z.new [.int .i64 (N:Nat),.int .i64 (D:Nat)]) Z3)
   (fun r=>∃ fr Z3,r=⟨.exit 0,fr,Z3⟩/\fr.get 3=some (str (dcN q++46::frT 6 m D))/\Ext Z Z3) 6 ⟨0,dcN q++[46],m,rfl,by rw [Nat.pow_zero,Nat.one_mul,Nat.mod_eq_of_lt b2],fR,fR,(by simp),by simp;omega,fR,hE2⟩ ?_ ?_
  ·rintro j fr Z3 ⟨k,s,rest,hj,hrest,g4,g3,ht,hs,g1,hE⟩
   by_cases r0:rest=0
   ·have c1:decide (0<(rest:Int))=false:=decide_eq_false om
    refine gS1 (aI @g4 (aI @g3 @c1)) ?_
    rw [r0,f0,List.append_nil] at ht
    exact ⟨_,_,rfl,by rw [<- ht];exact fR1 g3,Ext.trans (eX) hE⟩
   have k6:k<6:=by
    rcases Nat.lt_or_ge k 6 with h|h
    ·exact h
    ·obtain rfl:k=6:=om
     exact absurd (hrest.trans (last _ rfl)) r0
   have c1:decide (0<(rest:Int))=true:=decide_eq_true om
   have rD:rest<D:=by rw [hrest];exact Nat.mod_lt _ hD
   have w1:Z3.row Z.n=some [.int .i64 (N:Nat),.int .i64 (D:Nat)]:=by rw [hE.row (by simp)];exact cL
   obtain ⟨u,hu⟩:∃ u,10*rest / D=u:=⟨_,rfl⟩
   obtain ⟨v,hv⟩:∃ v,10*rest % D=v:=⟨_,rfl⟩
   have u10:u<10:=by rw [<- hu];exact Nat.div_lt_of_lt_mul (by rw [Nat.mul_comm];omega)
   have f1:IntKind.i64.wrap ((10*(rest:Int)).tdiv D)=(u:Int):=by
    rw [show (10*(rest:Int))=((10*rest:Nat):Int) by omega,show ((10*rest:Nat):Int).tdiv D=((10*rest / D:Nat):Int) from rfl,hu];exact wrap64_in om om
   have f2:(10*(rest:Int)).tmod D=(v:Int):=by
    rw [show (10*(rest:Int))=((10*rest:Nat):Int) by omega,show ((10*rest:Nat):Int).tmod D=((10*rest % D:Nat):Int) from rfl,hv]
   refine gS1 (aI @g4 (aI @g3 (aI @g1 (aI @c1 (aI @w1 (aI @z0 @f1)))))) ?_
   refine (rnumber_ok (n:=u) om).mono ?_
   rintro r ⟨Z4,rfl,hE4⟩
   have w2:Z4.row Z.n=some [.int .i64 (N:Nat),.int .i64 (D:Nat)]:=by rw [hE4.row (by have:=hE.n;simp at this;omega)];exact w1
   have l1:(dcN u).length=1:=by rw [dcN_small u10];rfl
   refine gS1 (aI @g4 (aI @g3 (aI @g1 (aI @w2 (aI @z0 @f2))))) ?_
   refine ⟨6-(k+1),om,k+1,s++dcN u,v,om,by rw [step,<- hrest,hv],fR,fR,?_,by simp;omega,fR1 g1,hE.trans hE4⟩
   rw [<- ht,show j=6-(k+1)+1 by omega,fs _ _ r0,hu,hv,List.append_assoc]
  rintro r ⟨fr,Z3,rfl,g3,hE⟩
  refine gS1 (aI @g3 @Tryz.results80) ?_
  rw [hq,hm,if_neg m0]
  exact ⟨_,rfl,hE⟩
end Go.Proofs.T
namespace Go.Proofs.T
open Go Go.Ab
open Nat (reduceMul reduceEqDiff reduceAdd)
set_option maxRecDepth 100000
theorem rname_eq {s:By}:rnameB s=nameB s:=by
 cases s with
 | nil=>rfl
 | cons c w =>
   have e1:decide (0<(c::w).length)=true:=by simp
   have e2:rnameB (c::w)=(decide (0<(c::w).length)&&decide ((c::w).length<=30)&&(c::w).all (on folB)&&on letB c):=rfl
   have e3:nameB (c::w)=(on letB c&&decide ((c::w).length<=30)&&(c::w).all (on folB)):=rfl
   rw [e2,e3,e1]
   cases decide ((c::w).length<=30) <;> cases (c::w).all (on folB) <;> cases on letB c <;> rfl
theorem FW.le {k m:Nat}{e:Ex}(h:FW k m e):k<=m:=by
 induction h with
 | num=>omega
 | name=>omega
 | bin=>omega
 | mm=>omega
theorem two_args {Z:St}{v:Value}{rows:List (List Value)}{a b:Ex}(hs:SL Z 5 v rows) (hx:ExsAt Z rows [a,b]):∃ B off sp c cells r1 r2,v= .slice (some ⟨B,off,sp⟩) 2 c/\B<Z.n/\Z.row B=some cells /\
  sub cells off 5=some r1/\sub cells (off+5) 5=some r2/\ExAt Z r1 a/\ExAt Z r2 b:=by
 obtain ⟨r1,rs1,rfl,hx1,hx⟩:=hx
 obtain ⟨r2,rs2,rfl,hx2,hx⟩:=hx
 obtain rfl:rs2=[]:=hx
 obtain ⟨A,C,B,off,cells,rfl,c1,c2⟩:=SL.use hs
 obtain ⟨sp,rfl,l3,l4⟩:=c1 (by simp)
 exact ⟨B,off,sp,C,cells,r1,r2,rfl,l3,l4,by simpa using c2 0 r1 rfl,by simpa using c2 1 r2 rfl,hx1,hx2⟩
theorem FW.arg {k m:Nat}{e:Ex}(hf:FW k m e){Z:St}{row:List Value}(he:ExAt Z row e):∃ o n d nm a len c,row=[str o,.int .i64 n,.int .i64 d,str nm,.slice a len c]/\((len=0/\k=1/\m=1)\/∃ B off sp cells k1 k2 m1 m2 e1 e2 r1 r2,len=2/\a=some ⟨B,off,sp⟩/\B<Z.n/\Z.row B=some cells/\k=1+max k1 k2/\m=m1+m2+1/\FW k1 m1 e1/\FW k2 m2 e2 /\
  sub cells off 5=some r1/\sub cells (off+5) 5=some r2/\ExAt Z r1 e1/\ExAt Z r2 e2):=by
 cases hf with
 | num h =>
   obtain ⟨v,rows,rfl,h1,-,h2⟩:=he
   obtain rfl:rows=[]:=h2
   obtain ⟨a,c,b,off,cells,rfl,-⟩:=SL.use h1
   exact ⟨_,_,_,_,_,_,_,rfl,.inl ⟨rfl,rfl,rfl⟩⟩
 | name h =>
   obtain ⟨v,rows,rfl,h1,-,h2⟩:=he
   obtain rfl:rows=[]:=h2
   obtain ⟨a,c,b,off,cells,rfl,-⟩:=SL.use h1
   exact ⟨_,_,_,_,_,_,_,rfl,.inl ⟨rfl,rfl,rfl⟩⟩
 | bin h ha hb =>
   obtain ⟨v,rows,rfl,hs,-,hx⟩:=he
   obtain ⟨B,off,sp,c,cells,r1,r2,rfl,l3,l4,s1,s2,x1,x2⟩:=two_args hs hx
   exact ⟨_,_,_,_,_,_,_,rfl,.inr ⟨B,off,sp,cells,_,_,_,_,_,_,r1,r2,rfl,rfl,l3,l4,rfl,rfl,ha,hb,s1,s2,x1,x2⟩⟩
 | mm h ha hb =>
   obtain ⟨v,rows,rfl,hs,-,hx⟩:=he
   obtain ⟨B,off,sp,c,cells,r1,r2,rfl,l3,l4,s1,s2,x1,x2⟩:=two_args hs hx
   exact ⟨_,_,_,_,_,_,_,rfl,.inr ⟨B,off,sp,cells,_,_,_,_,_,_,r1,r2,rfl,rfl,l3,l4,rfl,rfl,ha,hb,s1,s2,x1,x2⟩⟩
set_option maxHeartbeats 4000000 in
theorem rparts_ok:∀ (s:Nat){Z:St}{kd j:Nat}{e:Ex}{row:List Value},j<s->j<=1000000000->FW kd j e->ExAt Z row e->Ev (go Tryz.prog HS (.fn 78) [.agg ⟨row⟩] Z) (fun r=>∃ Z':St,r=⟨false,.int .i64 (j:Nat),Z'⟩/\Ext Z Z') ⟨⟩:=by
 intro s
 induction s with
 | zero=>intro Z kd j e row hs;omega
 | succ s ih =>
   intro Z kd j e row hs hj hf he
   obtain ⟨o,n,d,nm,a,m,c,rfl,h⟩:=hf.arg he
   refine ev_go Tryz.func78 rfl rfl ?_
   refine gS ?_
   obtain ⟨R,hR⟩:∃ R:List Value,[str o,.int .i64 n,.int .i64 d,str nm,.slice a m c]=R:=⟨_,rfl⟩
   have hs3:sub R 4 1=some [.slice a m c]:=by rw [<- hR];rfl
   rw [hR]
   rcases h with ⟨rfl,rfl,rfl⟩|⟨B,off,sp,cells,k1,k2,j1,j2,e1,e2,r1,r2,rfl,rfl,l3,l4,rfl,rfl,f1,f2,s1,s2,x1,x2⟩
   ·refine ev_count 0 (fun k fr Z'=>fr.get 4=some (.int .i64 k)/\fr.get 1=some (.pointer (some ⟨Z.n,0,none⟩))/\Z'=Z.new R/\fr.get 3=some (.int .i64 1))
     (fun r=>∃ fr,r=⟨.exit 0,fr,Z.new R⟩/\fr.get 3=some (.int .i64 1)) ?_ ?_ ?_ ?_
    ·exact ⟨fR,fR,rfl,fR⟩
    ·rintro k fr Z' hk;omega
    ·rintro fr Z' ⟨g4,g1,rfl,g3⟩
     refine gS1 (aI @g4 (aI @g1 @hs3)) ?_
     exact ⟨_,rfl,fR1 g3⟩
    rintro r ⟨fr,rfl,g3⟩
    refine gS1 (aI @g3 @Tryz.results78) ?_
    exact ⟨_,rfl,eX⟩
   refine ev_count 2 (fun k fr Z'=>fr.get 4=some (.int .i64 k)/\fr.get 1=some (.pointer (some ⟨Z.n,0,none⟩))/\Ext (Z.new R) Z'/\∃ p:Nat,fr.get 3=some (.int .i64 (p:Nat))/\((k=0/\p=1)\/(k=1/\p=1+j1)\/(k=2/\p=j1+j2+1)))
    (fun r=>∃ fr Z',r=⟨.exit 0,fr,Z'⟩/\Ext Z Z'/\∃ p:Nat,fr.get 3=some (.int .i64 (p:Nat))/\p=j1+j2+1) ?_ ?_ ?_ ?_
   ·exact ⟨fR,fR,.refl _,_,fR,.inl ⟨rfl,rfl⟩⟩
   ·rintro k fr Z' hk ⟨g4,g1,hE,p,g3,hh⟩
    have hc:=lt_true hk
    have w1:Z'.row Z.n=some R:=by rw [hE.row (by simp)];exact cL
    have hEn:=hE.n
    simp only [new_n] at hEn
    have hE0:Ext Z Z':=Ext.trans (eX) hE
    have w2:Z'.row B=some cells:=by rw [hE0.row l3];exact l4
    have hk2:k=0\/k=1:=om
    have both:∃ kk jj ee rr,sub cells (off+k*5) 5=some rr/\FW kk jj ee/\ExAt Z rr ee/\jj<s/\jj<=1000000000/\((k=0/\jj=j1)\/(k=1/\jj=j2)):=by
     rcases hk2 with rfl|rfl
     ·exact ⟨k1,j1,e1,r1,by simpa using s1,f1,x1,om,om,.inl ⟨rfl,rfl⟩⟩
     ·exact ⟨k2,j2,e2,r2,by simpa using s2,f2,x2,om,om,.inr ⟨rfl,rfl⟩⟩
    obtain ⟨kk,jj,ee,rr,s3,f3,x3,y1,y2,y3⟩:=both
    refine gS1 (aI @g4 (aI @g1 (aI @g3 (aI @hc (aI @w1 (aI @hs3 (aI @w2 @s3))))))) ?_
    refine (ih y1 y2 f3 (x3.mono hE0)).mono ?_
    rintro r ⟨Z2,rfl,hE2⟩
    refine gS1 (aI @g4 (aI @g1 @g3)) ?_
    refine ⟨fR,fR1 g1,hE.trans hE2,p+jj,fR,?_⟩
    omega
   ·rintro fr Z' ⟨g4,g1,hE,p,g3,hh⟩
    have w1:Z'.row Z.n=some R:=by rw [hE.row (by simp)];exact cL
    refine gS1 (aI @g4 (aI @g1 (aI @w1 @hs3))) ?_
    exact ⟨_,_,rfl,Ext.trans (eX) hE,p,fR1 g3,om⟩
   rintro r ⟨fr,Z',rfl,hE,p,g3,hp⟩
   refine gS1 (aI @g3 @Tryz.results78) ?_
   subst hp
   exact ⟨_,rfl,hE⟩
set_option maxHeartbeats 4000000 in
theorem rdepth_ok:∀ (s:Nat){Z:St}{kd j:Nat}{e:Ex}{row:List Value},j<s->j<=1000000000->FW kd j e->ExAt Z row e->Ev (go Tryz.prog HS (.fn 79) [.agg ⟨row⟩] Z) (fun r=>∃ Z':St,r=⟨false,.int .i64 (kd:Nat),Z'⟩/\Ext Z Z') ⟨⟩:=by
 intro s
 induction s with
 | zero=>intro Z kd j e row hs;omega
 | succ s ih =>
   intro Z kd j e row hs hj hf he
   obtain ⟨o,n,d,nm,a,m,c,rfl,h⟩:=hf.arg he
   refine ev_go Tryz.func79 rfl rfl ?_
   refine gS ?_
   obtain ⟨R,hR⟩:∃ R:List Value,[str o,.int .i64 n,.int .i64 d,str nm,.slice a m c]=R:=⟨_,rfl⟩
   have hs3:sub R 4 1=some [.slice a m c]:=by rw [<- hR];rfl
   rw [hR]
   rcases h with ⟨rfl,rfl,rfl⟩|⟨B,off,sp,cells,k1,k2,j1,j2,e1,e2,r1,r2,rfl,rfl,l3,l4,rfl,rfl,f1,f2,s1,s2,x1,x2⟩
   ·refine ev_count 0 (fun k fr Z'=>fr.get 4=some (.int .i64 k)/\fr.get 1=some (.pointer (some ⟨Z.n,0,none⟩))/\Z'=Z.new R/\fr.get 3=some (.int .i64 0))
     (fun r=>∃ fr,r=⟨.exit 0,fr,Z.new R⟩/\fr.get 3=some (.int .i64 0)) ?_ ?_ ?_ ?_
    ·exact ⟨fR,fR,rfl,fR⟩
    ·rintro k fr Z' hk;omega
    ·rintro fr Z' ⟨g4,g1,rfl,g3⟩
     refine gS1 (aI @g4 (aI @g1 @hs3)) ?_
     exact ⟨_,rfl,fR1 g3⟩
    rintro r ⟨fr,rfl,g3⟩
    refine gS1 (aI @g3 @Tryz.results79) ?_
    exact ⟨_,rfl,eX⟩
   refine ev_count 2 (fun k fr Z'=>fr.get 4=some (.int .i64 k)/\fr.get 1=some (.pointer (some ⟨Z.n,0,none⟩))/\Ext (Z.new R) Z'/\∃ p:Nat,fr.get 3=some (.int .i64 (p:Nat))/\((k=0/\p=0)\/(k=1/\p=k1)\/(k=2/\p=max k1 k2)))
    (fun r=>∃ fr Z',r=⟨.exit 0,fr,Z'⟩/\Ext Z Z'/\∃ p:Nat,fr.get 3=some (.int .i64 (p:Nat))/\p=max k1 k2) ?_ ?_ ?_ ?_
   ·exact ⟨fR,fR,.refl _,_,fR,.inl ⟨rfl,rfl⟩⟩
   ·rintro k fr Z' hk ⟨g4,g1,hE,p,g3,hh⟩
    have hc:=lt_true hk
    have w1:Z'.row Z.n=some R:=by rw [hE.row (by simp)];exact cL
    have hEn:=hE.n
    simp only [new_n] at hEn
    have hE0:Ext Z Z':=Ext.trans (eX) hE
    have w2:Z'.row B=some cells:=by rw [hE0.row l3];exact l4
    have hk2:k=0\/k=1:=om
    have both:∃ kk jj ee rr,sub cells (off+k*5) 5=some rr/\FW kk jj ee/\ExAt Z rr ee/\jj<s/\jj<=1000000000/\((k=0/\kk=k1)\/(k=1/\kk=k2)):=by
     rcases hk2 with rfl|rfl
     ·exact ⟨k1,j1,e1,r1,by simpa using s1,f1,x1,om,om,.inl ⟨rfl,rfl⟩⟩
     ·exact ⟨k2,j2,e2,r2,by simpa using s2,f2,x2,om,om,.inr ⟨rfl,rfl⟩⟩
    obtain ⟨kk,jj,ee,rr,s3,f3,x3,y1,y2,y3⟩:=both
    refine gS1 (aI @g4 (aI @g1 (aI @g3 (aI @hc (aI @w1 (aI @hs3 (aI @w2 @s3))))))) ?_
    refine (ih y1 y2 f3 (x3.mono hE0)).mono ?_
    rintro r ⟨Z2,rfl,hE2⟩
    refine gS1 (aI @g4 (aI @g1 @g3)) ?_
    refine ⟨fR,fR1 g1,hE.trans hE2,max p kk,by rw [show ((max p kk:Nat):Int)=max (p:Int) (kk:Int) by omega],?_⟩
    omega
   ·rintro fr Z' ⟨g4,g1,hE,p,g3,hh⟩
    have w1:Z'.row Z.n=some R:=by rw [hE.row (by simp)];exact cL
    refine gS1 (aI @g4 (aI @g1 (aI @w1 @hs3))) ?_
    exact ⟨_,_,rfl,Ext.trans (eX) hE,p,fR1 g3,om⟩
   rintro r ⟨fr,Z',rfl,hE,p,g3,hp⟩
   have q1:=f1.le
   have q2:=f2.le
   refine gS1 (aI @g3 @Tryz.results79) ?_
   subst hp
   exact ⟨_,by rw [Nat.add_comm (max k1 k2) 1],hE⟩
end Go.Proofs.T
namespace Go.Proofs.T
open Go Go.Ab
open Nat (reduceMul reduceEqDiff reduceAdd)
set_option maxRecDepth 100000
def Cl (Z:St):List (Nat×List Value)->Prop
 | []=>True
 | (b,cs)::l=>(b<Z.n/\Z.orow b=some cs)/\Cl Z l
theorem Cl.ext_ {Z Z':St}(hE:Ext Z Z'):∀ {l:List (Nat×List Value)},Cl Z l->Cl Z' l
 | [],_=>trivial
 | (b,cs)::l,h=>⟨⟨Nat.lt_of_lt_of_le h.1.1 hE.n,by rw [hE.orow h.1.1];exact h.1.2⟩,Cl.ext_ hE h.2⟩
theorem Cl.ext {Z Z':St}{l:List (Nat×List Value)}(h:Cl Z l) (hE:Ext Z Z'):Cl Z' l:=Cl.ext_ hE h
theorem ExAt.row5 {Z:St}{row:List Value}:∀ {e:Ex},ExAt Z row e->∃ o n d nm v,row=[str o,.int .i64 n,.int .i64 d,str nm,v]/\∃ l,e= .mk o n d nm l
 | .mk o n d nm l,h=>by obtain ⟨v,rows,h,-⟩:=h;exact ⟨o,n,d,nm,v,h,l,rfl⟩
def opE:Ex->By
 | .mk o _ _ _ _=>o
def isP (o:By):Bool:=decide (o=[42])||decide (o=[47])
def isS (o:By):Bool:=decide (o=[43])||decide (o=[45])
theorem show_par {g least:Nat}{e:Ex}:showF (g+1) least e=par (decide (lvl (opE e)<least)) (showF (g+1) 0 e):=by
 cases e with
 | mk o n d nm l =>
   show par _ _=par _ (par (decide (lvl o<0)) _)
   have:decide (lvl o<0)=false:=by simp
   rw [this];rfl
theorem lvl_sum {o:By}:decide (lvl o<1)=isS o:=by
 unfold lvl isS
 by_cases h:o=[43]\/o=[45]
 ·rw [if_pos h];rcases h with h|h <;> simp [h]
 ·rw [if_neg h]
  have h1:o≠[43]:=fun e=>h (.inl e)
  have h2:o≠[45]:=fun e=>h (.inr e)
  split <;> simp [h1,h2]
theorem lvl_two {o:By}:decide (lvl o<2)=(isS o||isP o):=by
 unfold lvl isS isP
 by_cases h:o=[43]\/o=[45]
 ·rw [if_pos h];rcases h with h|h <;> simp [h]
 ·rw [if_neg h]
  have h1:o≠[43]:=fun e=>h (.inl e)
  have h2:o≠[45]:=fun e=>h (.inr e)
  by_cases h3:o=[42]\/o=[47]
  ·rw [if_pos h3];rcases h3 with h3|h3 <;> simp [h3]
  ·rw [if_neg h3]
   have h4:o≠[42]:=fun e=>h3 (.inl e)
   have h5:o≠[47]:=fun e=>h3 (.inr e)
   simp [h1,h2,h4,h5]
theorem frT_len:∀ (f r D:Nat),r<D->(frT f r D).length<=f:=by
 intro f
 induction f with
 | zero=>intro r D _;simp [frT]
 | succ f ih =>
   intro r D h
   unfold frT
   split
   ·simp
   ·have h1:10*r / D<10:=Nat.div_lt_of_lt_mul (by rw [Nat.mul_comm];omega)
    have:=ih (10*r % D) D (Nat.mod_lt _ om)
    rw [List.length_append,dcN_small h1]
    simp;omega
theorem deT_len {n d:Int}(h:NumOk n d):(deT n d).length<=17:=by
 have h1:=h.rq
 have h2:=h.n0
 have hd:=h1.d1
 have hn:=h1.n2
 unfold deT
 have a1:n.toNat / d.toNat<=1000000000:=Nat.div_le_of_le_mul om
 have a2:=dcN_len 9 (n.toNat / d.toNat) om
 have a3:=frT_len 6 (n.toNat % d.toNat) d.toNat (Nat.mod_lt _ om)
 rw [List.length_append]
 split
 ·simp;omega
 ·simp;omega
theorem par_len {b:Bool}{s:By}:(par b s).length<=s.length+2:=by
 unfold par
 cases b <;> simp
theorem name_len {nm:By}(h:nameB nm=true):nm.length<=30:=by
 unfold nameB at h
 rw [Bool.and_eq_true,Bool.and_eq_true] at h
 exact of_decide_eq_true h.1.2
theorem show_len {k m:Nat}{e:Ex}(h:FW k m e):∀ g least,k<=g->(showF g least e).length+8<=50*m:=by
 induction h with
 | @num n d h =>
   intro g least hg
   obtain ⟨g,rfl⟩:∃ x,g=x+1:=⟨g-1,om⟩
   refine Nat.le_trans (Nat.add_le_add_right (par_len (b:=_) (s:=_)) 8) ?_
   rw [if_pos rfl]
   have:=deT_len h
   omega
 | @name nm h1 h2 h3 =>
   intro g least hg
   obtain ⟨g,rfl⟩:∃ x,g=x+1:=⟨g-1,om⟩
   refine Nat.le_trans (Nat.add_le_add_right (par_len (b:=_) (s:=_)) 8) ?_
   rw [if_neg (by decide),if_pos rfl]
   have:=name_len h1
   omega
 | @bin k j m i o a b h ha hb iha ihb =>
   intro g least hg
   obtain ⟨g,rfl⟩:∃ x,g=x+1:=⟨g-1,om⟩
   refine Nat.le_trans (Nat.add_le_add_right (par_len (b:=_) (s:=_)) 8) ?_
   have hn:o≠numB3/\o≠nmB/\¬ (o=minB\/o=maxB):=by rcases h with rfl|rfl|rfl|rfl <;> decide
   have ho:o.length=1:=by rcases h with rfl|rfl|rfl|rfl <;> rfl
   rw [if_neg hn.1,if_neg hn.2.1]
   dsimp only
   rw [if_neg hn.2.2]
   have h1:=iha g (lvl o) om
   have h2:=ihb g (lvl o+1) om
   simp only [List.length_append,List.length_cons,ho]
   omega
 | @mm k j m i o a b h ha hb iha ihb =>
   intro g least hg
   obtain ⟨g,rfl⟩:∃ x,g=x+1:=⟨g-1,om⟩
   refine Nat.le_trans (Nat.add_le_add_right (par_len (b:=_) (s:=_)) 8) ?_
   have hn:o≠numB3/\o≠nmB:=by rcases h with rfl|rfl <;> decide
   have ho:o.length=3:=by rcases h with rfl|rfl <;> rfl
   rw [if_neg hn.1,if_neg hn.2]
   dsimp only
   rw [if_pos h]
   have h1:=iha g 0 om
   have h2:=ihb g 0 om
   simp only [List.length_append,List.length_cons,List.length_nil,ho]
   omega
theorem risprod_ok {Z:St}{row:List Value}{o:By}{r:List Value}(hr:row=str o::r) (hl:row.length=5):Ev (go Tryz.prog HS (.fn 81) [.agg ⟨row⟩] Z) (fun r=>∃ Z',r=⟨false,.bool (isP o),Z'⟩/\Ext Z Z') ⟨⟩:=by
 have hfr:sub row 0 5=some row:=sub_full om om
 have h1:sub row 0 1=some [str o]:=by subst hr;rfl
 refine ev_go Tryz.func81 rfl rfl ?_
 unfold isP
 cases a:decide (o=[42]) <;> simp (maxSteps:=8000000) (disch:=first|exact dS|fail) only [↓bD,bW,reduceMul,reduceEqDiff,reduceAdd,Nat.reduceBEq,reduceIte,Option.isNone_none,hfr,h1,a,yu_t,yu_f,Tryz.results81] <;> exact ⟨_,rfl,eX⟩
theorem rissum_ok {Z:St}{row:List Value}{o:By}{r:List Value}(hr:row=str o::r) (hl:row.length=5):Ev (go Tryz.prog HS (.fn 82) [.agg ⟨row⟩] Z) (fun r=>∃ Z',r=⟨false,.bool (isS o),Z'⟩/\Ext Z Z') ⟨⟩:=by
 have hfr:sub row 0 5=some row:=sub_full om om
 have h1:sub row 0 1=some [str o]:=by subst hr;rfl
 refine ev_go Tryz.func82 rfl rfl ?_
 unfold isS
 cases a:decide (o=[43]) <;> simp (maxSteps:=8000000) (disch:=first|exact dS|fail) only [↓bD,bW,reduceMul,reduceEqDiff,reduceAdd,Nat.reduceBEq,reduceIte,Option.isNone_none,hfr,h1,a,yu_t,yu_f,Tryz.results82] <;> exact ⟨_,rfl,eX⟩
def PrintOk (j:Nat) (e:Ex) (t:By):Prop:=∀ {Z:St}{row:List Value},j<=1000->ExAt Z row e->Ev (go Tryz.prog HS (.fn 49) [.agg ⟨row⟩] Z) (fun r=>∃ Z',r=⟨false,str t,Z'⟩/\Ext Z Z') ⟨⟩
theorem rargument_ok {j:Nat}{e:Ex}{t:By}(h:PrintOk j e t) (ht:t.length<=1000000){Z:St}{row:List Value}{b:Bool}(hj:j<=1000) (he:ExAt Z row e):Ev (go Tryz.prog HS (.fn 83) [.agg ⟨row⟩,.bool b] Z) (fun r=>∃ Z',r=⟨false,str (par b t),Z'⟩/\Ext Z Z') ⟨⟩:=by
 have hlen:=he.len
 have hfr:sub row 0 5=some row:=sub_full om om
 refine ev_go Tryz.func83 rfl rfl ?_
 have E0:Ext Z (Z.new row):=eX
 cases b with
 | true =>
   refine gS1 @hfr ?_
   refine (h hj (he.mono E0)).mono ?_
   rintro r ⟨Z2,rfl,hE⟩
   refine gS1 @Tryz.results83 ?_
   exact ⟨_,rfl,E0.trans hE⟩
 | false =>
   refine gS1 @hfr ?_
   refine (h hj (he.mono E0)).mono ?_
   rintro r ⟨Z2,rfl,hE⟩
   refine gS1 @Tryz.results83 ?_
   exact ⟨_,rfl,E0.trans hE⟩
set_option maxHeartbeats 4000000 in
theorem rprint_mm {o:By}{a b:Ex}{j1 j2:Nat}{ta tb:By}(h:o=minB\/o=maxB) (iha:PrintOk j1 a ta) (ihb:PrintOk j2 b tb) (l1:ta.length<=1000000) (l2:tb.length<=1000000):PrintOk (j1+j2+1) (.mk o 0 0 [] [a,b]) (o++40::(ta++44::32::(tb++[41]))):=by
  intro Z row hj he
  obtain ⟨v,rows,rfl,hsl,-,hex⟩:=he
  obtain ⟨B,off,sp,c,cells,r1,r2,rfl,l3,l4,s1,s2,x1,x2⟩:=two_args hsl hex
  have d1:decide (o=[110,117,109])=false:=decide_eq_false (by rcases h with rfl|rfl <;> decide)
  have d2:decide (o=[110,97,109,101])=false:=decide_eq_false (by rcases h with rfl|rfl <;> decide)
  have lo:o.length=3:=by rcases h with rfl|rfl <;> rfl
  refine ev_go Tryz.func49 rfl rfl ?_
  obtain ⟨R,hR⟩:∃ R:List Value,[str o,.int .i64 0,.int .i64 0,str [],.slice (some ⟨B,off,sp⟩) 2 c]=R:=⟨_,rfl⟩
  have q0:sub R 0 1=some [str o]:=by rw [<- hR];rfl
  have q4:sub R 4 1=some [.slice (some ⟨B,off,sp⟩) 2 c]:=by rw [<- hR];rfl
  have qf:sub R 0 5=some R:=by rw [<- hR];rfl
  have ql:R.length=5:=by rw [<- hR];rfl
  rw [hR]
  have E0:Ext Z (Z.new R):=eX
  have key:∀ x y:Bool,decide (o=[109,105,110])=x->decide (o=[109,97,120])=y->(x=true\/y=true):=by
   intro x y hx hy
   rcases h with rfl|rfl
   ·left;rw [<- hx];rfl
   ·right;rw [<- hy];rfl
  cases m1:decide (o=[109,105,110]) with
  | true =>
    refine gS1 (aI @q0 (aI @q4 (aI @qf (aI @d1 (aI @d2 (aI @m1 (aI @l4 (aI @s1 @Nat.add_zero)))))))) ?_
    refine (iha om (x1.mono E0)).mono ?_
    rintro r ⟨Z2,rfl,hE2⟩
    have n2:=hE2.n
    simp only [new_n] at n2
    have w1:Z2.row Z.n=some R:=by rw [hE2.row (by simp)];exact cL
    have E2:=E0.trans hE2
    have w2:Z2.row B=some cells:=by rw [E2.row l3];exact l4
    refine gS1 (aI @w1 (aI @w2 (aI @q4 @s2))) ?_
    refine (ihb om (x2.mono E2)).mono ?_
    rintro r ⟨Z3,rfl,hE3⟩
    simp (maxSteps:=8000000) (disch:=first|exact dS|fail) only [↓bD,bW,reduceMul,reduceEqDiff,reduceAdd,Nat.reduceBEq,reduceIte,Option.isNone_none,asx hE2,asx hE3,Tryz.results49]
    try refine Must.intro (by (repeat first|simp (disch:=omega) only [as_read,as_upd,as_newb,asx hE2,asx hE3]|rw [as_ord (by kernel_rfl)]);first|done|rfl) ?_
    try simp (maxSteps:=8000000) (disch:=first|exact dS|fail) only [↓bD,bW,reduceMul,reduceEqDiff,reduceAdd,Nat.reduceBEq,reduceIte,Option.isNone_none,Tryz.results49]
    exact ⟨_,by simp,E2.trans hE3⟩
  | false =>
  cases m2:decide (o=[109,97,120]) with
  | false=>rcases key _ _ m1 m2 with h|h <;> cases h
  | true =>
    refine gS1 (aI @q0 (aI @q4 (aI @qf (aI @d1 (aI @d2 (aI @m1 (aI @m2 (aI @l4 (aI @s1 @Nat.add_zero))))))))) ?_
    refine (iha om (x1.mono E0)).mono ?_
    rintro r ⟨Z2,rfl,hE2⟩
    have n2:=hE2.n
    simp only [new_n] at n2
    have w1:Z2.row Z.n=some R:=by rw [hE2.row (by simp)];exact cL
    have E2:=E0.trans hE2
    have w2:Z2.row B=some cells:=by rw [E2.row l3];exact l4
    refine gS1 (aI @w1 (aI @w2 (aI @q4 @s2))) ?_
    refine (ihb om (x2.mono E2)).mono ?_
    rintro r ⟨Z3,rfl,hE3⟩
    simp (maxSteps:=8000000) (disch:=first|exact dS|fail) only [↓bD,bW,reduceMul,reduceEqDiff,reduceAdd,Nat.reduceBEq,reduceIte,Option.isNone_none,asx hE2,asx hE3,Tryz.results49]
    try refine Must.intro (by (repeat first|simp (disch:=omega) only [as_read,as_upd,as_newb,asx hE2,asx hE3]|rw [as_ord (by kernel_rfl)]);first|done|rfl) ?_
    try simp (maxSteps:=8000000) (disch:=first|exact dS|fail) only [↓bD,bW,reduceMul,reduceEqDiff,reduceAdd,Nat.reduceBEq,reduceIte,Option.isNone_none,Tryz.results49]
    exact ⟨_,by simp,E2.trans hE3⟩
end Go.Proofs.T
namespace Go.Proofs.T
open Go Go.Ab
open Nat (reduceMul reduceEqDiff reduceAdd)
set_option maxRecDepth 100000
set_option maxHeartbeats 8000000 in
theorem rprint_bin {o:By}{a b:Ex}{j1 j2:Nat}{ta tb:By}(h:o=[43]\/o=[45]\/o=[42]\/o=[47]) (iha:PrintOk j1 a ta) (ihb:PrintOk j2 b tb) (l1:ta.length<=1000000) (l2:tb.length<=1000000) :
  PrintOk (j1+j2+1) (.mk o 0 0 [] [a,b]) (par (isS (opE a)&&isP o) ta++32::(o++32::par (isS (opE b)||(isP (opE b)&&isP o)) tb)):=by
  intro Z row hj he
  obtain ⟨v,rows,rfl,hsl,-,hex⟩:=he
  obtain ⟨B,off,sp,c,cells,r1,r2,rfl,l3,l4,s1,s2,x1,x2⟩:=two_args hsl hex
  have d1:decide (o=[110,117,109])=false:=decide_eq_false (by rcases h with rfl|rfl|rfl|rfl <;> decide)
  have d2:decide (o=[110,97,109,101])=false:=decide_eq_false (by rcases h with rfl|rfl|rfl|rfl <;> decide)
  have m1:decide (o=[109,105,110])=false:=decide_eq_false (by rcases h with rfl|rfl|rfl|rfl <;> decide)
  have m2:decide (o=[109,97,120])=false:=decide_eq_false (by rcases h with rfl|rfl|rfl|rfl <;> decide)
  have lo:o.length=1:=by rcases h with rfl|rfl|rfl|rfl <;> rfl
  have len1:=x1.len
  have len2:=x2.len
  have hf1:sub r1 0 5=some r1:=sub_full om om
  have hf2:sub r2 0 5=some r2:=sub_full om om
  refine ev_go Tryz.func49 rfl rfl ?_
  obtain ⟨R,hR⟩:∃ R:List Value,[str o,.int .i64 0,.int .i64 0,str [],.slice (some ⟨B,off,sp⟩) 2 c]=R:=⟨_,rfl⟩
  have q0:sub R 0 1=some [str o]:=by rw [<- hR];rfl
  have q4:sub R 4 1=some [.slice (some ⟨B,off,sp⟩) 2 c]:=by rw [<- hR];rfl
  have qf:sub R 0 5=some R:=by rw [<- hR];rfl
  have ql:R.length=5:=by rw [<- hR];rfl
  rw [hR]
  have E0:Ext Z (Z.new R):=eX
  refine gS1 (aI @q0 (aI @q4 (aI @qf (aI @d1 (aI @d2 (aI @m1 (aI @m2 (aI @l4 (aI @s1 (aI @s2 @Nat.add_zero)))))))))) ?_
  obtain ⟨S0,hS0⟩:∃ S,(((((Z.new R).new [str [],.int .i64 0,.int .i64 0,str [],.slice none 0 0] (some 35)).upd (Z.n+1) r1).new [str [],.int .i64 0,.int .i64 0,str [],.slice none 0 0] (some 35)).upd (Z.n+1+1) r2)=S:=⟨_,rfl⟩
  rw [hS0]
  have E0:Ext Z S0:=by rw [<- hS0];exact eX
  have n0:S0.n=Z.n+3:=by rw [<- hS0];rfl
  have C0:Cl S0 [(Z.n,R),(Z.n+1,r1),(Z.n+1+1,r2)]:=⟨⟨om,by rw [<- hS0];exact cL⟩,⟨om,by rw [<- hS0];exact cL⟩,⟨om,by rw [<- hS0];exact cL⟩,trivial⟩
  obtain ⟨o1,m1',k1',nn1,v1,hr1,al,rfl⟩:=x1.row5
  obtain ⟨o2,m2',k2',nn2,v2,hr2,bl,rfl⟩:=x2.row5
  have pl1:=par_len (b:=true) (s:=ta)
  have pl2:=par_len (b:=false) (s:=ta)
  have pl3:=par_len (b:=true) (s:=tb)
  have pl4:=par_len (b:=false) (s:=tb)
  refine (risprod_ok hR.symm ql).mono ?_
  rintro r ⟨Z2,rfl,hE2⟩
  have C2:=C0.ext hE2
  have E2:=E0.trans hE2
  obtain ⟨⟨-,a0⟩,⟨-,a1⟩,⟨-,a2⟩,-⟩:=id C2
  have a0:=row_of a0
  have a1:=row_of a1
  have a2:=row_of a2
  refine gS1 (aI @a1 @hf1) ?_
  refine (rissum_ok hr1 len1).mono ?_
  rintro r ⟨Z3,rfl,hE3⟩
  have C3:=C2.ext hE3
  have E3:=E2.trans hE3
  obtain ⟨⟨-,a0⟩,⟨-,a1⟩,⟨-,a2⟩,-⟩:=id C3
  have a0:=row_of a0
  have a1:=row_of a1
  have a2:=row_of a2
  refine gS1 (aI @a2 @hf2) ?_
  refine (rissum_ok hr2 len2).mono ?_
  rintro r ⟨Z4,rfl,hE4⟩
  have C4:=C3.ext hE4
  have E4:=E3.trans hE4
  obtain ⟨⟨-,a0⟩,⟨-,a1⟩,⟨-,a2⟩,-⟩:=id C4
  have a0:=row_of a0
  have a1:=row_of a1
  have a2:=row_of a2
  refine gS1 (aI @a2 @hf2) ?_
  refine (risprod_ok hr2 len2).mono ?_
  rintro r ⟨Z5,rfl,hE5⟩
  have C5:=C4.ext hE5
  have E5:=E4.trans hE5
  obtain ⟨⟨-,a0⟩,⟨-,a1⟩,⟨-,a2⟩,-⟩:=id C5
  have a0:=row_of a0
  have a1:=row_of a1
  have a2:=row_of a2
  obtain ⟨b1,hb1⟩:∃ x,isP o=x:=⟨_,rfl⟩
  obtain ⟨b2,hb2⟩:∃ x,isS o1=x:=⟨_,rfl⟩
  obtain ⟨b3,hb3⟩:∃ x,isS o2=x:=⟨_,rfl⟩
  obtain ⟨b4,hb4⟩:∃ x,isP o2=x:=⟨_,rfl⟩
  cases b1 <;> cases b2 <;> (
   refine gS1 (aI @hb1 (aI @hb2 (aI @hb3 (aI @hb4 (aI @a1 (aI @hf1 (aI @yu_t @yu_f))))))) ?_
   refine (rargument_ok iha l1 om (x1.mono E5)).mono ?_
   rintro r ⟨Z6,rfl,hE6⟩
   have C6:=C5.ext hE6
   have E6:=E5.trans hE6
   obtain ⟨⟨-,a0⟩,⟨-,a1⟩,⟨-,a2⟩,-⟩:=id C6
   have a0:=row_of a0
   have a1:=row_of a1
   have a2:=row_of a2
   cases b3 <;> cases b4 <;> (
    refine gS1 (aI @hb1 (aI @hb3 (aI @hb4 (aI @a0 (aI @a2 (aI @q0 (aI @hf2 (aI @yu_t @yu_f)))))))) ?_
    refine (rargument_ok ihb l2 om (x2.mono E6)).mono ?_
    rintro r ⟨Z7,rfl,hE7⟩
    simp (maxSteps:=8000000) (disch:=first|exact dS|fail) only [↓bD,bW,reduceMul,reduceEqDiff,reduceAdd,Nat.reduceBEq,reduceIte,Option.isNone_none,asx hE6,asx hE7,Tryz.results49]
    try refine Must.intro (by (repeat first|simp (disch:=omega) only [as_read,as_upd,as_newb,asx hE6,asx hE7]|rw [as_ord (by kernel_rfl)]);first|done|rfl) ?_
    try simp (maxSteps:=8000000) (disch:=first|exact dS|fail) only [↓bD,bW,reduceMul,reduceEqDiff,reduceAdd,Nat.reduceBEq,reduceIte,Option.isNone_none,Tryz.results49]
    refine ⟨_,?_,E6.trans hE7⟩
    show _=(⟨false,str (par (isS o1&&isP o) ta++32::(o++32::par (isS o2||(isP o2&&isP o)) tb)),_⟩:CR)
    rw [hb1,hb2,hb3,hb4]
    simp))
theorem rprint_ok {k m:Nat}{e:Ex}(h:FW k m e):∀ g,k<=g->m<=1000->PrintOk m e (showF g 0 e):=by
 induction h with
 | @num n d h =>
   intro g hg _ Z row hj he
   obtain ⟨g,rfl⟩:∃ x,g=x+1:=⟨g-1,om⟩
   obtain ⟨v,rows,rfl,-,-,-⟩:=he
   have hs:showF (g+1) 0 (.mk numB3 n d [] [])=deT n d:=rfl
   rw [hs]
   refine ev_go Tryz.func49 rfl rfl ?_
   simp (maxSteps:=8000000) (disch:=first|exact dS|fail) only [↓bD,bW,reduceMul,reduceEqDiff,reduceAdd,Nat.reduceBEq,reduceIte,Option.isNone_none,numB3]
   refine (rdecimal_ok h.rq h.n0 h.d6).mono ?_
   rintro r ⟨Z2,rfl,hE⟩
   refine gS1 @Tryz.results49 ?_
   exact ⟨_,rfl,Ext.trans (eX) hE⟩
 | @name nm h h1 h2 =>
   intro g hg _ Z row hj he
   obtain ⟨g,rfl⟩:∃ x,g=x+1:=⟨g-1,om⟩
   obtain ⟨v,rows,rfl,-,-,-⟩:=he
   have d1:decide (([110,97,109,101]:By)=[110,117,109])=false:=by decide
   have hs:showF (g+1) 0 (.mk nmB 0 0 nm [])=nm:=rfl
   rw [hs]
   refine ev_go Tryz.func49 rfl rfl ?_
   simp (maxSteps:=8000000) (disch:=first|exact dS|fail) only [↓bD,bW,reduceMul,reduceEqDiff,reduceAdd,Nat.reduceBEq,reduceIte,Option.isNone_none,nmB,d1,Tryz.results49]
   exact ⟨_,rfl,eX⟩
 | @bin k j m i o a b h ha hb iha ihb =>
   intro g hg hm
   obtain ⟨g,rfl⟩:∃ x,g=x+1:=⟨g-1,om⟩
   have hn:o≠numB3/\o≠nmB/\¬ (o=minB\/o=maxB):=by rcases h with rfl|rfl|rfl|rfl <;> decide
   have la:=show_len ha g 0 om
   have lb:=show_len hb g 0 om
   have key:PrintOk (m+i+1) (.mk o 0 0 [] [a,b]) (par (isS (opE a)&&isP o) (showF g 0 a)++32::(o++32::par (isS (opE b)||(isP (opE b)&&isP o)) (showF g 0 b))):=fun {_ _} hj he=>rprint_bin h (iha g om om) (ihb g om om) om om hj he
   have pa:=ha.pos
   have pb:=hb.pos
   obtain ⟨g,rfl⟩:∃ x,g=x+1:=⟨g-1,om⟩
   have hs:showF (g+1+1) 0 (.mk o 0 0 [] [a,b])=showF (g+1) (lvl o) a++32::(o++32::showF (g+1) (lvl o+1) b):=by
    show par (decide (lvl o<0)) (if _ then _ else _)=_
    rw [if_neg hn.1,if_neg hn.2.1]
    dsimp only
    rw [if_neg hn.2.2,show decide (lvl o<0)=false by simp]
    rfl
   rw [hs,show_par (least:=lvl o),show_par (least:=lvl o+1)]
   have e1:decide (lvl (opE a)<lvl o)=(isS (opE a)&&isP o):=by
    rcases h with rfl|rfl|rfl|rfl
    ·show decide (lvl (opE a)<0)=_;simp [isP]
    ·show decide (lvl (opE a)<0)=_;simp [isP]
    ·show decide (lvl (opE a)<1)=_;rw [lvl_sum];simp [isP]
    ·show decide (lvl (opE a)<1)=_;rw [lvl_sum];simp [isP]
   have e2:decide (lvl (opE b)<lvl o+1)=(isS (opE b)||(isP (opE b)&&isP o)):=by
    rcases h with rfl|rfl|rfl|rfl
    ·show decide (lvl (opE b)<1)=_;rw [lvl_sum];simp [isP]
    ·show decide (lvl (opE b)<1)=_;rw [lvl_sum];simp [isP]
    ·show decide (lvl (opE b)<2)=_;rw [lvl_two];simp [isP]
    ·show decide (lvl (opE b)<2)=_;rw [lvl_two];simp [isP]
   rw [e1,e2]
   exact @key
 | @mm k j m i o a b h ha hb iha ihb =>
   intro g hg hm
   obtain ⟨g,rfl⟩:∃ x,g=x+1:=⟨g-1,om⟩
   have hn:o≠numB3/\o≠nmB:=by rcases h with rfl|rfl <;> decide
   have la:=show_len ha g 0 om
   have lb:=show_len hb g 0 om
   have key:PrintOk (m+i+1) (.mk o 0 0 [] [a,b]) (o++40::(showF g 0 a++44::32::(showF g 0 b++[41]))):=fun {_ _} hj he=>rprint_mm h (iha g om om) (ihb g om om) om om hj he
   have hs:showF (g+1) 0 (.mk o 0 0 [] [a,b])=o++40::(showF g 0 a++44::32::(showF g 0 b++[41])):=by
    show par (decide (lvl o<0)) (if _ then _ else _)=_
    rw [if_neg hn.1,if_neg hn.2]
    dsimp only
    rw [if_pos h,show decide (lvl o<0)=false by simp]
    rfl
   rw [hs]
   exact @key
end Go.Proofs.T
