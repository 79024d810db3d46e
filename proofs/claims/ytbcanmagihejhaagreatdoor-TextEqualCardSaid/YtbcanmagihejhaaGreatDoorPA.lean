/- VH a line AY6, and AO it is read so. -/
import Derived.Test.YtbcanmagihejhaaGreatDoorRA
set_option linter.unusedSimpArgs false
set_option linter.unusedVariables false
set_option maxHeartbeats 32000000
set_option maxRecDepth 100000
namespace Go.Proofs.T
open Go Go.Ab
inductive LM where
 | AY (w:By)
 | lot (a b:Nat)
 | Bi (w:By) (kd lo hi:Nat) (less:Bool)
 | req (w r:By) (n:Nat)
 | BT (a b:Nat)
 | fml (e:Ex)
 | tie (ts:List By)
 | D5 (n:Nat)
 | combo (cs:List Nat)
 | C1 (n:Nat)
 | times (a b c d e:Nat)
def LM.word:LM->By
 | .AY _=>[116,101,110,100,101,114]
 | .lot .. =>[108,111,116]
 | .Bi .. =>[99,114,105,116,101,114,105,111,110]
 | .req .. =>[114,101,113,117,105,114,101]
 | .BT .. =>[112,114,105,99,101]
 | .fml _=>[102,111,114,109,117,108,97]
 | .tie _=>[116,105,101]
 | .D5 _=>[109,111,115,116]
 | .combo _=>[99,111,109,98,111]
 | .C1 _=>[98,117,100,103,101,116]
 | .times .. =>[116,105,109,101,115]
def LM.txt:LM->List By
 | .AY w=>[w]
 | .lot a b=>[dcN a,XZ,dcN b]
 | .Bi w kd lo hi less=>[w,if kd=2 then BU else Cv,dcN lo,dcN hi]++if less=true then [Cq] else []
 | .req w r n=>[w,r,dcN n]
 | .BT a b=>[dcN a,dcN b]
 | .fml _=>[]
 | .tie ts=>ts
 | .D5 n=>[dcN n]
 | .combo cs=>cs.map dcN
 | .C1 n=>[dcN n]
 | .times a b c d e=>[dcN a,dcN b,dcN c,dcN d,dcN e]
def LM.app:LM->Tn->Tn
 | .AY w,T=>{ T with name:=w }
 | .lot a b,T=>{ T with D2:=T.D2++[⟨a,b⟩] }
 | .Bi w kd lo hi less,T=>{ T with C7:=T.C7++[⟨w,kd,lo,hi,less⟩] }
 | .req w r n,T=>{ T with reqs:=T.reqs++[⟨w,r,n⟩] }
 | .BT a b,T=>{ T with low:=a,high:=b }
 | .fml e,T=>{ T with f:=e }
 | .tie ts,T=>{ T with E9:=ts }
 | .D5 n,T=>{ T with D5:=n }
 | .combo cs,T=>{ T with C3:=T.C3++[cs.map (fun n:Nat=>(n:Int))] }
 | .C1 n,T=>{ T with C1:=n }
 | .times a b c d e,T=>{ T with t:=⟨a,b,c,d,e⟩ }
def Le9 (n:Nat):Prop:=n<=1000000000
def LM.Ok:LM->Tn->Prop
 | .AY w,_=>AL w=true
 | .lot a b,T=>1<=a/\Le9 a/\Le9 b/\(T.D2.any fun l=>decide (l.id=(a:Int)))=false/\T.D2.length≠12
 | .Bi w kd lo hi _,T=>Y0 w=true/\(kd=1\/kd=2)/\Le9 lo/\Le9 hi/\(T.C7.any fun c=>decide (c.name=w))=false/\T.C7.length≠12
 | .req w r n,T=>Y0 w=true/\([[60,61],[62,61]]:List By).contains r=true/\Le9 n/\T.reqs.length≠24
 | .BT a b,_=>Le9 a/\Le9 b
 | .fml e,_=>∃ k m,FW k m e/\k<=12/\m<=60
 | .tie ts,T=>T.E9=[]/\ts≠[]/\(∀ w∈ts,(w=Di\/Y0 w=true))/\ts.Nodup/\ts.length<=12
 | .D5 n,_=>Le9 n
 | .combo cs,T=>2<=cs.length/\(∀ n∈cs,1<=n/\n<=1000000000)/\cs.Nodup/\cs.length<=12/\T.C3.length≠12
 | .C1 n,_=>Le9 n
 | .times a b c d e,_=>Le9 a/\Le9 b/\Le9 c/\Le9 d/\Le9 e
def LM.once:LM->Bool
 | .lot .. =>false
 | .Bi .. =>false
 | .req .. =>false
 | .combo _=>false
 | _=>true
def Lin (l:By):LM->Prop
 | .fml e=>∃ (n:Nat) (r:By),l=List.replicate n 32++((LM.fml e).word++r)/\(∀ c t,r=c::t->c=32)/\lex r=T4 12 0 e
 | m=>(I3 32 l).filter (fun w=> !decide (w=[]))=m.word::m.txt
theorem Yw:∀ (ws:List By) (k:Nat),(AE ws k).map Prod.fst=ws.filter fun w=> !decide (w=[]):=by
 intro ws;induction ws with
 | nil=>intro k;rfl
 | cons w ws ih =>
   intro k;unfold AE;rw [List.map_append,ih,List.filter_cons];by_cases h:w=[]
   ·rw [if_pos h];simp [h]
   ·rw [if_neg h];simp [h]
theorem Yx {l:By}{k:Nat}:(C4 l k).map Prod.fst=(I3 32 l).filter (fun w=> !decide (w=[]))++[[]]:=by
 unfold C4;rw [List.map_append,Yw];rfl
theorem Mi {c:UInt8}:∀ {w s:By},c∉w->I3 c (w++c::s)=w::I3 c s:=by
 intro w;induction w with
 | nil=>intro s _;show (if c=c then _ else _)=_;rw [if_pos rfl]
 | cons x w ih =>
   intro s h;have hx:x≠c:=fun e=>h (by rw [e];exact List.mem_cons_self ..);show (if x=c then _ else match I3 c (w++c::s) with|h::t=>(x::h)::t|[]=>[[x]])=_;rw [if_neg hx,ih fun hm=>h (List.mem_cons_of_mem _ hm)]
theorem PO {c:UInt8}:∀ {w:By},c∉w->I3 c w=[w]:=by
 intro w;induction w with
 | nil=>intro _;rfl
 | cons x w ih =>
   intro h;have hx:x≠c:=fun e=>h (by rw [e];exact List.mem_cons_self ..);show (if x=c then _ else match I3 c w with|h::t=>(x::h)::t|[]=>[[x]])=_;rw [if_neg hx,ih fun hm=>h (List.mem_cons_of_mem _ hm)]
theorem LF:∀ (n:Nat) (s:By) (k:Nat),AE (I3 32 (List.replicate n 32++s)) k=AE (I3 32 s) (k+n):=by
 intro n;induction n with
 | zero=>intro s k;rfl
 | succ n ih =>
   intro s k;rw [List.replicate_succ];show AE (if (32:UInt8)=32 then []::I3 32 (List.replicate n 32++s) else _) k=_;rw [if_pos rfl];show (if ([]:By)=[] then [] else _)++AE (I3 32 (List.replicate n 32++s)) (k+0+1)=_;rw [if_pos rfl,List.nil_append,ih,show k+0+1+n=k+(n+1) by omega]
theorem Yy {n k:Nat}{w r:By}(hw:w≠[]) (h32:32∉w) (hr:∀ c t,r=c::t->c=32):A9 (C4 (List.replicate n 32++(w++r)) k) 0=(w,k+n):=by
 have:∃ rest,C4 (List.replicate n 32++(w++r)) k=(w,k+n)::rest:=by
  unfold C4;rw [LF];cases r with
  | nil =>
    rw [List.append_nil,PO h32];unfold AE;rw [if_neg hw];exact ⟨_,rfl⟩
  | cons c t =>
    obtain rfl:=hr c t rfl;rw [Mi h32];unfold AE;rw [if_neg hw];exact ⟨_,rfl⟩
 obtain ⟨rest,h⟩:=this;rw [h];rfl
theorem cS {l:By}{a:Nat}:A9 (C4 l a) ((C4 l a).length-1)=([],a+l.length):=by
 unfold C4;generalize AE (I3 32 l) a=tp;generalize a+l.length=n;unfold A9;rw [List.getD_eq_getElem?_getD,List.length_append,show tp.length+[(([]:By),n)].length-1=tp.length from rfl,List.getElem?_append_right (Nat.le_refl _),Nat.sub_self];rfl
theorem LM.Xg (m:LM):m.word≠[]:=by cases m <;> simp [LM.word]
theorem Yz {l:By}{at':Nat}{T:Tn}{seen:List (By×Value)}{m:LM}(hl:Lin l m) (hs:m.once=true->Y1 m.word seen=none) (hok:m.Ok T):Dy l at' T seen= .ok (m.app T,CN m.word tru seen):=by
 have fin:∀ (ks:KS) (k':Nat),(A9 (C4 l at') 0).1=m.word->kS m.word=some ks->ks.once=m.once->ks.full T=false ->
   ks.rd (C4 l at') (l.drop ((A9 (C4 l at') 0).2+m.word.length-at')) ((A9 (C4 l at') 0).2+m.word.length) T 1= .ok (m.app T,k')->(A9 (C4 l at') k').1=[]->Dy l at' T seen= .ok (m.app T,CN m.word tru seen):=by
  intro ks k' h0 h1 h2 h3 h4 h5;unfold Dy;rw [h0,if_neg (LM.Xg m),h1];dsimp only;rw [if_neg (by
   rw [h2];cases ho:m.once with
   | false=>simp
   | true=>rw [hs ho];simp),if_neg (by rw [h3];simp),h4,C2]
  dsimp only;rw [if_pos h5]
 have simple:((I3 32 l).filter (fun w=> !decide (w=[]))=m.word::m.txt)->At (C4 l at') 0 (m.word::m.txt) [[]]:=fun h=>by
  unfold At;rw [Yx,h];rfl
 cases m with
 | fml e =>
   obtain ⟨n,r,rfl,hr,AE0⟩:=hl;have h0:=Yy (n:=n) (k:=at') (w:=(LM.fml e).word) (r:=r) (LM.Xg _) (show (32:UInt8)∉([102,111,114,109,117,108,97]:By) by decide) hr;refine fin _ ((C4 (List.replicate n 32++((LM.fml e).word++r)) at').length-1) (by rw [h0]) rfl rfl rfl ?_ ?_
   ·rw [h0];obtain ⟨k,mm,hf,hk,hm⟩:=hok;show EM _ _ _ _ 1=_;unfold EM;have hd:(List.replicate n 32++((LM.fml e).word++r)).drop (at'+n+(LM.fml e).word.length-at')=r:=by
     rw [show at'+n+(LM.fml e).word.length-at'=n+(LM.fml e).word.length by omega,<- List.append_assoc,List.drop_left' (by simp)]
    rw [hd,ZA hf hk hk hm (by rw [ZB,AE0]),C2];rfl
   ·rw [cS]
 | AY w =>
   have hA:=simple hl;exact fin _ _ hA.head rfl rfl rfl (SZ hA.next hok) (At.post hA.next)
 | lot a b =>
   have hA:=simple hl;obtain ⟨q1,q2,q3,q4,q5⟩:=hok;exact fin _ _ hA.head rfl rfl (decide_eq_false q5) (cW hA.next q1 q2 q3 q4) (At.post hA.next)
 | Bi w kd lo hi less =>
   have hA:=simple hl;obtain ⟨q1,q2,q3,q4,q5,q6⟩:=hok;refine fin _ _ hA.head rfl rfl (decide_eq_false q6) (ZC hA.next q1 q2 q3 q4 q5) ?_;have:=At.post hA.next;cases less <;> exact this
 | req w r n =>
   have hA:=simple hl;obtain ⟨q1,q2,q3,q4⟩:=hok;exact fin _ _ hA.head rfl rfl (decide_eq_false q4) (cX hA.next q1 q2 q3) (At.post hA.next)
 | BT a b =>
   have hA:=simple hl;exact fin _ _ hA.head rfl rfl rfl (VI hA.next hok.1 hok.2) (At.post hA.next)
 | tie ts =>
   have hA:=simple hl;obtain ⟨q1,q2,q3,q4,q5⟩:=hok;exact fin _ _ hA.head rfl rfl rfl (cY hA.next q1 q2 q3 q4 q5) (At.post hA.next)
 | D5 n =>
   have hA:=simple hl;exact fin _ _ hA.head rfl rfl rfl (ZD hA.next hok) (At.post hA.next)
 | combo cs =>
   have hA:=simple hl;obtain ⟨q1,q2,q3,q4,q5⟩:=hok;refine fin _ _ hA.head rfl rfl (decide_eq_false q5) (VJ hA.next q1 q2 q3 q4) ?_;have:=At.post hA.next;rw [show (LM.combo cs).txt.length=cs.length from List.length_map ..] at this;exact this
 | C1 n =>
   have hA:=simple hl;exact fin _ _ hA.head rfl rfl rfl (Sa hA.next hok) (At.post hA.next)
 | times a b c d e =>
   have hA:=simple hl;obtain ⟨q1,q2,q3,q4,q5⟩:=hok;exact fin _ _ hA.head rfl rfl rfl (VK hA.next q1 q2 q3 q4 q5) (At.post hA.next)
theorem dc {w x:By}{v:Value}:∀ {l:List (By×Value)},Y1 w (CN x v l)=if w=x then some v else Y1 w l:=by
 intro l;induction l with
 | nil=>rfl
 | cons p l ih =>
   obtain ⟨y,u⟩:=p;rw [Ik];by_cases h:x=y
   ·subst h;rw [if_pos rfl,BZ,BZ];by_cases h2:w=x
    ·rw [if_pos h2,if_pos h2]
    ·rw [if_neg h2,if_neg h2,if_neg h2]
   ·rw [if_neg h,BZ,BZ,ih];by_cases h2:w=y
    ·rw [if_pos h2,if_pos h2,if_neg (fun e=>h (e.symm.trans h2))]
    ·rw [if_neg h2,if_neg h2]
def W0 (ms:List LM) (T:Tn):Tn:=ms.foldl (fun T m=>m.app T) T
def Xt (ms:List LM) (s:List (By×Value)):List (By×Value):=ms.foldl (fun s m=>CN m.word tru s) s
def Ke (s:List (By×Value)) (ms:List LM):Prop:=∀ w,(Y1 w s).isSome=true↔∃ m∈ms,m.word=w
theorem Zh {s:List (By×Value)}{ms:List LM}{m:LM}(h:Ke s ms):Ke (CN m.word tru s) (ms++[m]):=by
 intro w;rw [dc];by_cases hw:m.word=w
 ·rw [if_pos hw.symm];exact ⟨fun _=>⟨m,by simp,hw⟩,fun _=>rfl⟩
 ·rw [if_neg (fun e=>hw e.symm),h w];constructor
  ·rintro ⟨x,h1,h2⟩;exact ⟨x,by simp [h1],h2⟩
  ·rintro ⟨x,h1,h2⟩;rcases List.mem_append.1 h1 with h1|h1
   ·exact ⟨x,h1,h2⟩
   ·rw [List.mem_singleton] at h1;subst h1;exact absurd h2 hw
def LM.Ok0:LM->Prop
 | .AY w=>AL w=true
 | .lot a b=>1<=a/\Le9 a/\Le9 b
 | .Bi w kd lo hi _=>Y0 w=true/\(kd=1\/kd=2)/\Le9 lo/\Le9 hi
 | .req w r n=>Y0 w=true/\([[60,61],[62,61]]:List By).contains r=true/\Le9 n
 | .BT a b=>Le9 a/\Le9 b
 | .fml e=>∃ k m,FW k m e/\k<=12/\m<=60
 | .tie ts=>ts≠[]/\(∀ w∈ts,(w=Di\/Y0 w=true))/\ts.Nodup/\ts.length<=12
 | .D5 n=>Le9 n
 | .combo cs=>2<=cs.length/\(∀ n∈cs,1<=n/\n<=1000000000)/\cs.Nodup/\cs.length<=12
 | .C1 n=>Le9 n
 | .times a b c d e=>Le9 a/\Le9 b/\Le9 c/\Le9 d/\Le9 e
def NN:LM->Option Nat
 | .lot a _=>some a
 | _=>none
def NO:LM->Option By
 | .Bi w .. =>some w
 | _=>none
def RJ:LM->Option Unit
 | .req .. =>some ()
 | _=>none
def RK:LM->Option Unit
 | .combo _=>some ()
 | _=>none
theorem Zi {a b:LM}(h:a.word=b.word):a.once=b.once:=by
 cases a <;> cases b <;> first|rfl|(simp [LM.word] at h)
structure LS (ms:List LM):Prop where
 each:∀ m∈ms,m.Ok0
 ids:(ms.filterMap NN).Nodup
 D2:(ms.filterMap NN).length<=12
 crs:(ms.filterMap NO).Nodup
 C7:(ms.filterMap NO).length<=12
 reqs:(ms.filterMap RJ).length<=24
 C3:(ms.filterMap RK).length<=12
 once:ms.Pairwise fun a b=>a.word=b.word->a.once=false
theorem LS.sub {ms ns:List LM}(h:LS ms) (hs:ns.Sublist ms):LS ns where
 each:=fun m hm=>h.each m (hs.subset hm)
 ids:=h.ids.sublist (hs.filterMap NN)
 D2:=Nat.le_trans (hs.filterMap NN).length_le h.D2
 crs:=h.crs.sublist (hs.filterMap NO)
 C7:=Nat.le_trans (hs.filterMap NO).length_le h.C7
 reqs:=Nat.le_trans (hs.filterMap RJ).length_le h.reqs
 C3:=Nat.le_trans (hs.filterMap RK).length_le h.C3
 once:=h.once.sublist hs
structure Made (ms:List LM) (T:Tn):Prop where
 D2:T.D2.map Lot.id=(ms.filterMap NN).map fun n:Nat=>(n:Int)
 C7:T.C7.map R0.name=ms.filterMap NO
 reqs:T.reqs.length=(ms.filterMap RJ).length
 C3:T.C3.length=(ms.filterMap RK).length
 E9:(∀ ts,LM.tie ts∉ms)->T.E9=[]
theorem Made.snoc {ms:List LM}{T:Tn}{m:LM}(h:Made ms T):Made (ms++[m]) (m.app T):=by
 obtain ⟨h1,h2,h3,h4,h5⟩:=h;have h5':(∀ ts,LM.tie ts∉ms++[m])->T.E9=[]:=fun hn=>h5 fun ts hm=>hn ts (by simp [hm]);cases m <;> (refine ⟨?_,?_,?_,?_,?_⟩ <;> first|(simpa [LM.app,List.filterMap_append,NN,NO,RJ,RK] using by assumption)|exact h5'|skip)
 all_goals first
  | (simp [LM.app,List.filterMap_append,NN,NO,RJ,RK,h1,h2,h3,h4];done)
  | (intro hn;exact absurd (List.mem_append.2 (.inr (List.mem_singleton.2 rfl))) (hn _))
theorem kk {pre:List LM}{m:LM}{rest:List LM}{T:Tn}(hg:LS (pre++m::rest)) (hm:Made pre T):m.Ok T:=by
 have h0:=hg.each m (by simp);obtain ⟨h1,h2,h3,h4,h5⟩:=hm;have hid:=hg.ids;have hl:=hg.D2;have hcr:=hg.crs;have hc:=hg.C7;have hr:=hg.reqs;have hco:=hg.C3;rw [List.filterMap_append] at hid hl hcr hc hr hco;cases m with
 | AY w=>exact h0
 | lot a b =>
   obtain ⟨q1,q2,q3⟩:=h0;rw [show (LM.lot a b::rest).filterMap NN=a::rest.filterMap NN from rfl] at hid hl;refine ⟨q1,q2,q3,?_,?_⟩
   ·rw [Bool.eq_false_iff];intro hx;rw [List.any_eq_true] at hx;obtain ⟨l,hl1,hl2⟩:=hx;have:l.id∈T.D2.map Lot.id:=List.mem_map_of_mem hl1;rw [h1] at this;obtain ⟨n,hn1,hn2⟩:=List.mem_map.1 this;have:n=a:=by have:=of_decide_eq_true hl2;omega
    subst this;exact (List.nodup_append.1 hid).2.2 n hn1 n (List.mem_cons_self ..) rfl
   ·have e:=congrArg List.length h1;simp at e hl;omega
 | Bi w kd lo hi less =>
   obtain ⟨q1,q2,q3,q4⟩:=h0;rw [show (LM.Bi w kd lo hi less::rest).filterMap NO=w::rest.filterMap NO from rfl] at hcr hc;refine ⟨q1,q2,q3,q4,?_,?_⟩
   ·rw [Bool.eq_false_iff];intro hx;rw [List.any_eq_true] at hx;obtain ⟨l,hl1,hl2⟩:=hx;have:l.name∈T.C7.map R0.name:=List.mem_map_of_mem hl1;rw [h2,of_decide_eq_true hl2] at this;exact (List.nodup_append.1 hcr).2.2 w this w (List.mem_cons_self ..) rfl
   ·have e:=congrArg List.length h2;simp at e hc;omega
 | req w r n =>
   obtain ⟨q1,q2,q3⟩:=h0;refine ⟨q1,q2,q3,?_⟩;rw [show (LM.req w r n::rest).filterMap RJ=()::rest.filterMap RJ from rfl] at hr;simp at hr;omega
 | BT a b=>exact h0
 | fml e=>exact h0
 | tie ts =>
   obtain ⟨q1,q2,q3,q4⟩:=h0;refine ⟨h5 fun us hu=>?_,q1,q2,q3,q4⟩;have:=List.pairwise_append.1 hg.once;have:=this.2.2 _ hu (LM.tie ts) (List.mem_cons_self ..) rfl;cases this
 | D5 n=>exact h0
 | combo cs =>
   obtain ⟨q1,q2,q3,q4⟩:=h0;refine ⟨q1,q2,q3,q4,?_⟩;rw [show (LM.combo cs::rest).filterMap RK=()::rest.filterMap RK from rfl] at hco;simp at hco;omega
 | C1 n=>exact h0
 | times a b c d e=>exact h0
theorem Vi:∀ (ms:List LM) (ls:List By) (pre:List LM) (at':Nat) (T:Tn) (seen:List (By×Value)) (more:List By),LS (pre++ms)->Made pre T->Ke seen pre->CB Lin ls ms ->
  BB (ls++more) at' T seen=BB more (at'+lens ls) (W0 ms T) (Xt ms seen)/\Ke (Xt ms seen) (pre++ms):=by
 intro ms;induction ms with
 | nil =>
   intro ls pre at' T seen more hg hm hs hl;cases ls with
   | nil=>exact ⟨rfl,by rw [List.append_nil];exact hs⟩
   | cons l ls=>exact hl.elim
 | cons m ms ih =>
   intro ls pre at' T seen more hg hm hs hl;cases ls with
   | nil=>exact hl.elim
   | cons l ls =>
     obtain ⟨hl1,hl2⟩:=hl;have Sz:m.once=true->Y1 m.word seen=none:=by
      intro ho;cases hlk:Y1 m.word seen with
      | none=>rfl
      | some v =>
        obtain ⟨x,hx1,hx2⟩:=(hs m.word).1 (by rw [hlk];rfl);have:=(List.pairwise_append.1 hg.once).2.2 x hx1 m (List.mem_cons_self ..) hx2;rw [Zi hx2,ho] at this;cases this
     have h1:=Yz (at':=at') hl1 Sz (kk hg hm);obtain ⟨h2,h3⟩:=ih ls (pre++[m]) (at'+(l.length+1)) (m.app T) (CN m.word tru seen) more (by rw [List.append_assoc];exact hg) hm.snoc (Zh hs) hl2;refine ⟨?_,?_⟩
     ·show BB (l::(ls++more)) at' T seen=_;rw [show BB (l::(ls++more)) at' T seen=Q9 (Dy l at' T seen) (fun (T',NP)=>BB (ls++more) (at'+(l.length+1)) T' NP) from rfl,h1,C2];dsimp only;rw [h2];show BB more (at'+(l.length+1)+lens ls) _ _=BB more (at'+(l.length+1+lens ls)) _ _;rw [Nat.add_assoc];rfl
     ·rw [List.append_assoc] at h3;exact h3
def under (ls:List By):By:=(ls.map fun l=>l++[10]).flatten
theorem TA:∀ (ls:List By) (r:By),(∀ l∈ls,(10:UInt8)∉l)->I3 10 (under ls++r)=ls++I3 10 r:=by
 intro ls;induction ls with
 | nil=>intro r _;rfl
 | cons l ls ih =>
   intro r h;have e:under (l::ls)++r=l++10::(under ls++r):=by unfold under;simp
   rw [e,Mi (h l (List.mem_cons_self ..)),ih r fun x hx=>h x (List.mem_cons_of_mem _ hx)];rfl
theorem Zj:∀ (ls:List By),(under ls).length=lens ls:=by
 intro ls;induction ls with
 | nil=>rfl
 | cons l ls ih =>
   have e:under (l::ls)=l++10::under ls:=by unfold under;simp
   rw [e,List.length_append,List.length_cons,ih];show _=l.length+1+lens ls;omega
theorem Vj {at':Nat}{T:Tn}{seen:List (By×Value)}{n:Nat}:Dy (List.replicate n 32) at' T seen= .ok (T,seen):=by
 have:(A9 (C4 (List.replicate n 32) at') 0).1=[]:=by
  unfold C4;have:=LF n [] at';rw [List.append_nil] at this;rw [this];rfl
 unfold Dy;rw [if_pos this]
theorem df:Made [] T0:=⟨rfl,rfl,rfl,rfl,fun _=>rfl⟩
theorem dh:Ke [] []:=fun w=>by simp [Y1]
theorem TB {ls:List By}{ms:List LM}{r:By}(hg:LS ms) (hl:CB Lin ls ms) (h10:∀ l∈ls,(10:UInt8)∉l) :
  ∃ seen,Ke seen ms/\BB (I3 10 (under ls++r)) 0 T0 []=BB (I3 10 r) (under ls).length (W0 ms T0) seen:=by
 obtain ⟨h1,h2⟩:=Vi ms ls [] 0 T0 [] (I3 10 r) hg df dh hl;refine ⟨_,h2,?_⟩;rw [TA ls r h10,h1,Zj,Nat.zero_add]
theorem TC {ls:List By}{ms:List LM}(hg:LS ms) (hl:CB Lin ls ms) (h10:∀ l∈ls,(10:UInt8)∉l) (h6:∀ w∈six,∃ m∈ms,m.word=w):Cj (under ls)= .ok (W0 ms T0):=by
 obtain ⟨seen,h1,h2⟩:=TB (r:=[]) hg hl h10;rw [List.append_nil] at h2;unfold Cj;rw [h2];have hb:=@Vj (under ls).length (W0 ms T0) seen 0;rw [show BB (I3 10 []) (under ls).length (W0 ms T0) seen=Q9 (Dy [] (under ls).length (W0 ms T0) seen) (fun (T',NP)=>BB [] ((under ls).length+(([]:By).length+1)) T' NP) from rfl];rw [show Dy [] (under ls).length (W0 ms T0) seen=_ from hb,C2];show Q9 (.ok (W0 ms T0,seen)) _=_;rw [C2];dsimp only;rw [if_pos];rw [List.all_eq_true];intro w hw;exact (h1 w).2 (h6 w hw)
def spJ:List By->By
 | []=>[]
 | [w]=>w
 | w::ws=>w++32::spJ ws
def W6:LM->By
 | .fml e=>(LM.fml e).word++32::N4 12 0 e
 | m=>spJ (m.word::m.txt)
def FQ (T:Tn):List LM :=
 .AY T.name::(T.D2.map (fun l=>LM.lot l.id.toNat l.D5.toNat)++(T.C7.map (fun c=>LM.Bi c.name c.kind.toNat c.low.toNat c.high.toNat c.less)++(T.reqs.map (fun r=>LM.req r.name r.rel r.value.toNat) ++
  (.BT T.low.toNat T.high.toNat:: .fml T.f::((if T.E9=[] then [] else [.tie T.E9])++((if T.D5=0 then [] else [.D5 T.D5.toNat])++(T.C3.map (fun c=>LM.combo (c.map Int.toNat)) ++
    [.C1 T.C1.toNat,.times T.t.q.toNat T.t.b.toNat T.t.g.toNat T.t.p.toNat T.t.s.toNat])))))))
def Ae (T:Tn):By:=under ((FQ T).map W6)
def In9 (n:Int):Prop:=0<=n/\n<=1000000000
structure Ad (T:Tn):Prop where
 name:AL T.name=true
 D2:T.D2.length<=12
 AM4:T.D2≠[]
 lot:∀ l∈T.D2,1<=l.id/\l.id<=1000000000/\In9 l.D5
 ids:(T.D2.map Lot.id).Nodup
 C7:T.C7.length<=12
 Bi:∀ c∈T.C7,Y0 c.name=true/\(c.kind=1\/c.kind=2)/\In9 c.low/\In9 c.high
 crs:(T.C7.map R0.name).Nodup
 reqs:T.reqs.length<=24
 req:∀ r∈T.reqs,Y0 r.name=true/\([[60,61],[62,61]]:List By).contains r.rel=true/\In9 r.value
 low:In9 T.low
 high:In9 T.high
 f:∃ k m,FW k m T.f/\k<=12/\m<=60
 E9:T.E9.length<=12
 tie:∀ w∈T.E9,(w=Di\/Y0 w=true)
 tnd:T.E9.Nodup
 D5:In9 T.D5
 C3:T.C3.length<=12
 combo:∀ c∈T.C3,2<=c.length/\c.length<=12/\c.Nodup/\∀ n∈c,1<=n/\n<=1000000000
 C1:In9 T.C1
 t:In9 T.t.q/\In9 T.t.b/\In9 T.t.g/\In9 T.t.p/\In9 T.t.s
def Wd (w:By):Prop:=w≠[]/\(32:UInt8)∉w/\(10:UInt8)∉w
theorem cI:∀ (ws:List By) (w:By),(∀ x∈w::ws,Wd x)->I3 32 (spJ (w::ws))=w::ws:=by
 intro ws;induction ws with
 | nil=>intro w h;exact PO (h w (List.mem_cons_self ..)).2.1
 | cons v ws ih =>
   intro w h;show I3 32 (w++32::spJ (v::ws))=_;rw [Mi (h w (List.mem_cons_self ..)).2.1,ih v fun x hx=>h x (List.mem_cons_of_mem _ hx)]
theorem qA:∀ (ws:List By) (w:By),(∀ x∈w::ws,Wd x)->(10:UInt8)∉spJ (w::ws):=by
 intro ws;induction ws with
 | nil=>intro w h;exact (h w (List.mem_cons_self ..)).2.2
 | cons v ws ih =>
   intro w h hm;rcases List.mem_append.1 (show (10:UInt8)∈w++32::spJ (v::ws) from hm) with h1|h1
   ·exact (h w (List.mem_cons_self ..)).2.2 h1
   ·rcases List.mem_cons.1 h1 with h1|h1
    ·cases h1
    ·exact ih v (fun x hx=>h x (List.mem_cons_of_mem _ hx)) h1
theorem jZ {w:By}(h0:w≠[]) (h:w.all (on EY)=true):Wd w :=
 ⟨h0,fun hm=>(by have:=List.all_eq_true.1 h _ hm;cases this),fun hm=>(by have:=List.all_eq_true.1 h _ hm;cases this)⟩
theorem SR {w:By}(h:AL w=true):Wd w:=by
 obtain ⟨c,v,rfl,-,h2⟩:=Iz h;exact jZ (by simp) h2
theorem SS {w:By}(h:Y0 w=true):Wd w:=by
 unfold Y0 at h;rw [Bool.and_eq_true] at h;exact SR h.1
theorem FX (n:Nat):Wd (dcN n):=by
 refine jZ (RZ n) ?_;rw [List.all_eq_true];intro c hc;exact YA (List.all_eq_true.1 (OB (n+1) n (Nat.lt_succ_self _)).1 c hc)
theorem QZ {w:By}(h:(!decide (w=[])&&(!w.contains 32&& !w.contains 10))=true):Wd w:=by
 simp at h;exact ⟨h.1,h.2.1,h.2.2⟩
theorem LM.Yu (m:LM):Wd m.word:=by cases m <;> exact QZ (by rfl)
theorem wP {m:LM}(h:m.Ok0):∀ x∈m.txt,Wd x:=by
 intro x hx;cases m with
 | AY w=>rw [show (LM.AY w).txt=[w] from rfl,List.mem_singleton] at hx;subst hx;exact SR h
 | lot a b =>
   rw [show (LM.lot a b).txt=[dcN a,XZ,dcN b] from rfl] at hx;simp only [List.mem_cons,List.not_mem_nil,or_false] at hx;rcases hx with rfl|rfl|rfl
   ·exact FX _
   ·exact QZ (by rfl)
   ·exact FX _
 | Bi w kd lo hi less =>
   rcases List.mem_append.1 (show x∈[w,if kd=2 then BU else Cv,dcN lo,dcN hi]++(if less=true then [Cq] else []) from hx) with hx|hx
   ·simp only [List.mem_cons,List.not_mem_nil,or_false] at hx;rcases hx with rfl|rfl|rfl|rfl
    ·exact SS h.1
    ·split <;> exact QZ (by rfl)
    ·exact FX _
    ·exact FX _
   ·split at hx
    ·rw [List.mem_singleton] at hx;subst hx;exact QZ (by rfl)
    ·cases hx
 | req w r n =>
   rw [show (LM.req w r n).txt=[w,r,dcN n] from rfl] at hx;simp only [List.mem_cons,List.not_mem_nil,or_false] at hx;obtain ⟨h1,h2,h3⟩:=h;rcases hx with rfl|rfl|rfl
   ·exact SS h1
   ·simp at h2;rcases h2 with rfl|rfl <;> exact QZ (by rfl)
   ·exact FX _
 | BT a b =>
   rw [show (LM.BT a b).txt=[dcN a,dcN b] from rfl] at hx;simp only [List.mem_cons,List.not_mem_nil,or_false] at hx;rcases hx with rfl|rfl <;> exact FX _
 | fml e=>cases hx
 | tie ts =>
   rcases h.2.1 x hx with rfl|h1
   ·exact QZ (by rfl)
   ·exact SS h1
 | D5 n=>rw [show (LM.D5 n).txt=[dcN n] from rfl,List.mem_singleton] at hx;subst hx;exact FX _
 | combo cs =>
   obtain ⟨n,-,rfl⟩:=List.mem_map.1 (show x∈cs.map dcN from hx);exact FX _
 | C1 n=>rw [show (LM.C1 n).txt=[dcN n] from rfl,List.mem_singleton] at hx;subst hx;exact FX _
 | times a b c d e =>
   rw [show (LM.times a b c d e).txt=[dcN a,dcN b,dcN c,dcN d,dcN e] from rfl] at hx;simp only [List.mem_cons,List.not_mem_nil,or_false] at hx;rcases hx with rfl|rfl|rfl|rfl|rfl <;> exact FX _
theorem Me {b:Bool}{s:By}(h:(10:UInt8)∉s):(10:UInt8)∉par b s:=by
 unfold par;cases b with
 | false=>exact h
 | true =>
   rw [if_pos rfl];intro hm;rcases List.mem_cons.1 hm with hm|hm
   ·cases hm
   ·rcases List.mem_append.1 hm with hm|hm
    ·exact h hm
    ·rw [List.mem_singleton] at hm;cases hm
theorem ja {k m:Nat}{e:Ex}(h:FW k m e):∀ (f least:Nat),k<=f->(10:UInt8)∉N4 f least e:=by
 have dg:∀ l:By,l.all (on J9)=true->(10:UInt8)∉l:=fun l hl hm=>by have:=List.all_eq_true.1 hl _ hm;cases this
 induction h with
 | @num n d h =>
   intro f least hf;obtain ⟨f,rfl⟩:∃ g,f=g+1:=⟨f-1,om⟩
   unfold N4;refine Me ?_;rw [if_pos rfl];rcases h.lex with ⟨c,w,e,h1⟩|⟨c,w,x,v,e,h1,h2⟩
   ·rw [e];exact dg _ h1
   ·rw [e];intro hm;rcases List.mem_append.1 hm with hm|hm
    ·exact dg _ h1 hm
    ·rcases List.mem_cons.1 hm with hm|hm
     ·cases hm
     ·exact dg _ h2 hm
 | @name nm h1 h2 h3 =>
   intro f least hf;obtain ⟨f,rfl⟩:∃ g,f=g+1:=⟨f-1,om⟩
   unfold N4;refine Me ?_;rw [if_neg (by decide),if_pos rfl];exact (SR h1).2.2
 | @bin k j m i o a b h ha hb iha ihb =>
   intro f least hf;obtain ⟨f,rfl⟩:∃ g,f=g+1:=⟨f-1,om⟩
   unfold N4;refine Me ?_;have hn:o≠R5/\o≠nmB/\¬ (o=Dt\/o=EZ):=by rcases h with rfl|rfl|rfl|rfl <;> decide
   have ho:(10:UInt8)∉o:=by rcases h with rfl|rfl|rfl|rfl <;> decide
   rw [if_neg hn.1,if_neg hn.2.1];dsimp only;rw [if_neg hn.2.2];have h1:=iha f (lvl o) om;have h2:=ihb f (lvl o+1) om;simp only [List.mem_append,List.mem_cons,not_or];exact ⟨h1,by decide,ho,by decide,h2⟩
 | @mm k j m i o a b h ha hb iha ihb =>
   intro f least hf;obtain ⟨f,rfl⟩:∃ g,f=g+1:=⟨f-1,om⟩
   unfold N4;refine Me ?_;have hn:o≠R5/\o≠nmB:=by rcases h with rfl|rfl <;> decide
   have ho:(10:UInt8)∉o:=by rcases h with rfl|rfl <;> decide
   rw [if_neg hn.1,if_neg hn.2];dsimp only;rw [if_pos h];have h1:=iha f 0 om;have h2:=ihb f 0 om;simp only [List.mem_append,List.mem_cons,not_or,List.not_mem_nil,or_false];exact ⟨ho,by decide,h1,by decide,by decide,h2,by decide⟩
theorem zU {m:LM}(h:m.Ok0):Lin (W6 m) m/\(10:UInt8)∉W6 m:=by
 have simple:W6 m=spJ (m.word::m.txt)->(∀ e,m≠ .fml e)->Lin (W6 m) m/\(10:UInt8)∉W6 m:=by
  intro he hne;have hw:∀ x∈m.word::m.txt,Wd x:=fun x hx=>(List.mem_cons.1 hx).elim (fun e=>e ▸ m.Yu) (wP h x);refine ⟨?_,by rw [he];exact qA _ _ hw⟩;have key:(I3 32 (W6 m)).filter (fun w=> !decide (w=[]))=m.word::m.txt:=by
   rw [he,cI _ _ hw,List.filter_eq_self];intro x hx;have:=(hw x hx).1;simp [this]
  cases m with
  | fml e=>exact absurd rfl (hne e)
  | _=>exact key
 cases m with
 | fml e =>
   obtain ⟨k,mm,hf,hk,hm⟩:=h;refine ⟨⟨0,32::N4 12 0 e,rfl,fun c t e=>by cases e;rfl,?_⟩,?_⟩
   ·rw [HV];have:=gE hf 12 0 hk [] gD;rw [List.append_nil,lex_nil,List.append_nil] at this;exact this
   ·intro XC;rcases List.mem_append.1 (show (10:UInt8)∈(LM.fml e).word++32::N4 12 0 e from XC) with h1|h1
    ·exact (LM.Yu (.fml e)).2.2 h1
    ·rcases List.mem_cons.1 h1 with h1|h1
     ·cases h1
     ·exact ja hf 12 0 hk h1
 | _=>exact simple rfl (fun e he=>by cases he)
theorem He (a b:List LM) (T:Tn):W0 (a++b) T=W0 b (W0 a T):=List.foldl_append
theorem jJ:∀ (l:List Lot) (T:Tn),(∀ x∈l,0<=x.id/\0<=x.D5)->W0 (l.map fun l=>LM.lot l.id.toNat l.D5.toNat) T={ T with D2:=T.D2++l }:=by
 intro l;induction l with
 | nil=>intro T _;simp [W0]
 | cons x l ih =>
   intro T h;have hx:=h x (List.mem_cons_self ..);show W0 (l.map _) (LM.app (.lot x.id.toNat x.D5.toNat) T)=_;rw [ih _ fun y hy=>h y (List.mem_cons_of_mem _ hy)];show ({ T with D2:=T.D2++[⟨(x.id.toNat:Int),(x.D5.toNat:Int)⟩]++l }:Tn)=_;rw [Int.toNat_of_nonneg hx.1,Int.toNat_of_nonneg hx.2,List.append_assoc];rfl
theorem bz:∀ (l:List R0) (T:Tn),(∀ x∈l,0<=x.kind/\0<=x.low/\0<=x.high)->W0 (l.map fun c=>LM.Bi c.name c.kind.toNat c.low.toNat c.high.toNat c.less) T={ T with C7:=T.C7++l }:=by
 intro l;induction l with
 | nil=>intro T _;simp [W0]
 | cons x l ih =>
   intro T h;have hx:=h x (List.mem_cons_self ..);show W0 (l.map _) (LM.app (.Bi x.name x.kind.toNat x.low.toNat x.high.toNat x.less) T)=_;rw [ih _ fun y hy=>h y (List.mem_cons_of_mem _ hy)];show ({ T with C7:=T.C7++[⟨x.name,(x.kind.toNat:Int),(x.low.toNat:Int),(x.high.toNat:Int),x.less⟩]++l }:Tn)=_;rw [Int.toNat_of_nonneg hx.1,Int.toNat_of_nonneg hx.2.1,Int.toNat_of_nonneg hx.2.2,List.append_assoc];rfl
theorem jK:∀ (l:List Req) (T:Tn),(∀ x∈l,0<=x.value)->W0 (l.map fun r=>LM.req r.name r.rel r.value.toNat) T={ T with reqs:=T.reqs++l }:=by
 intro l;induction l with
 | nil=>intro T _;simp [W0]
 | cons x l ih =>
   intro T h;have hx:=h x (List.mem_cons_self ..);show W0 (l.map _) (LM.app (.req x.name x.rel x.value.toNat) T)=_;rw [ih _ fun y hy=>h y (List.mem_cons_of_mem _ hy)];show ({ T with reqs:=T.reqs++[⟨x.name,x.rel,(x.value.toNat:Int)⟩]++l }:Tn)=_;rw [Int.toNat_of_nonneg hx,List.append_assoc];rfl
theorem Uq:∀ (l:List Int),(∀ n∈l,0<=n)->(l.map Int.toNat).map (fun n:Nat=>(n:Int))=l:=by
 intro l h;rw [List.map_map]
 conv=>rhs;rw [<- List.map_id l]
 exact List.map_congr_left fun n hn=>Int.toNat_of_nonneg (h n hn)
theorem XJ:∀ (l:List (List Int)) (T:Tn),(∀ c∈l,∀ n∈c,0<=n)->W0 (l.map fun c=>LM.combo (c.map Int.toNat)) T={ T with C3:=T.C3++l }:=by
 intro l;induction l with
 | nil=>intro T _;simp [W0]
 | cons x l ih =>
   intro T h;have hx:=h x (List.mem_cons_self ..);show W0 (l.map _) (LM.app (.combo (x.map Int.toNat)) T)=_;rw [ih _ fun y hy=>h y (List.mem_cons_of_mem _ hy)];show ({ T with C3:=T.C3++[(x.map Int.toNat).map (fun n:Nat=>(n:Int))]++l }:Tn)=_;rw [Uq x hx,List.append_assoc];rfl
theorem uh {T:Tn}(h:Ad T):W0 (FQ T) T0=T:=by
 obtain ⟨t1,t2,t3,t4,t5⟩:=h.t;unfold FQ;show W0 _ (LM.app (.AY T.name) T0)=_;rw [He,jJ _ _ fun x hx=>by have:=h.lot x hx;exact ⟨om,this.2.2.1⟩];rw [He,bz _ _ fun x hx=>by
  obtain ⟨-,h2,h3,h4⟩:=h.Bi x hx;exact ⟨by rcases h2 with h2|h2 <;> omega,h3.1,h4.1⟩]
 rw [He,jK _ _ fun x hx=>(h.req x hx).2.2.1];show W0 _ (LM.app (.fml T.f) (LM.app (.BT T.low.toNat T.high.toNat) _))=_;rw [He,He,He,XJ _ _ fun c hc n hn=>by have:=(h.combo c hc).2.2.2 n hn;omega];have e1:∀ U:Tn,U.E9=[]->W0 (if T.E9=[] then [] else [.tie T.E9]) U={ U with E9:=T.E9 }:=by
  intro U hU;split
  ·rename_i h0;rw [h0];cases U;cases hU;rfl
  ·rfl
 have e2:∀ U:Tn,U.D5=0->W0 (if T.D5=0 then [] else [.D5 T.D5.toNat]) U={ U with D5:=T.D5 }:=by
  intro U hU;split
  ·rename_i h0;rw [h0];cases U;cases hU;rfl
  ·show ({ U with D5:=(T.D5.toNat:Int) }:Tn)=_;rw [Int.toNat_of_nonneg h.D5.1]
 rw [e1 _ rfl,e2 _ rfl];show LM.app (.times T.t.q.toNat T.t.b.toNat T.t.g.toNat T.t.p.toNat T.t.s.toNat) (LM.app (.C1 T.C1.toNat) _)=_;show (⟨T.name,[]++T.D2,[]++T.C7,[]++T.reqs,(T.low.toNat:Int),(T.high.toNat:Int),T.f,T.E9,T.D5,[]++T.C3,(T.C1.toNat:Int),⟨(T.t.q.toNat:Int),(T.t.b.toNat:Int),(T.t.g.toNat:Int),(T.t.p.toNat:Int),(T.t.s.toNat:Int)⟩⟩:Tn)=T;rw [Int.toNat_of_nonneg h.low.1,Int.toNat_of_nonneg h.high.1,Int.toNat_of_nonneg h.C1.1,Int.toNat_of_nonneg t1.1,Int.toNat_of_nonneg t2.1,Int.toNat_of_nonneg t3.1,Int.toNat_of_nonneg t4.1,Int.toNat_of_nonneg t5.1];rfl
theorem in9 {n:Int}(h:In9 n):Le9 n.toNat:=by obtain ⟨h1,h2⟩:=h;unfold Le9;omega
theorem V8 {α β:Type}{f:LM->Option β}{g:α->LM}{l:List α}(h:∀ x,f (g x)=none):(l.map g).filterMap f=[]:=by
 rw [List.filterMap_map,List.filterMap_eq_nil_iff];intro x _;exact h x
theorem FO {α β:Type}{f:LM->Option β}{g:α->LM}{v:α->β}(h:∀ x,f (g x)=some (v x)):∀ {l:List α},(l.map g).filterMap f=l.map v:=by
 intro l;induction l with
 | nil=>rfl
 | cons x l ih=>rw [List.map_cons,List.filterMap_cons,h x,ih];rfl
theorem HM {β:Type}{f:LM->Option β}{p:Prop} [Decidable p] {m:LM}(h:f m=none):(if p then [] else [m]).filterMap f=[]:=by
 split
 ·rfl
 ·simp [h]
theorem Ls:∀ {l:List Int},(∀ n∈l,0<=n)->l.Nodup->(l.map Int.toNat).Nodup:=by
 intro l;induction l with
 | nil=>intro _ _;exact List.nodup_nil
 | cons x l ih =>
   intro h hn;rw [List.map_cons,List.nodup_cons];rw [List.nodup_cons] at hn;refine ⟨fun hm=>?_,ih (fun n hm=>h n (List.mem_cons_of_mem _ hm)) hn.2⟩;obtain ⟨y,hy1,hy2⟩:=List.mem_map.1 hm;have h1:=h x (List.mem_cons_self ..);have h2:=h y (List.mem_cons_of_mem _ hy1);have:y=x:=om;subst this;exact hn.1 hy1
def LM.rk:LM->Nat
 | .AY _=>0
 | .lot .. =>1
 | .Bi .. =>2
 | .req .. =>3
 | .BT .. =>4
 | .fml _=>5
 | .tie _=>6
 | .D5 _=>7
 | .combo _=>8
 | .C1 _=>9
 | .times .. =>10
theorem oe {a b:LM}(h:a.word=b.word):a.rk=b.rk:=by
 cases a <;> cases b <;> first|rfl|(simp [LM.word] at h)
def LB (k:Nat) (l:List LM):Prop:=∀ b∈l,k<=b.rk
def PW (l:List LM):Prop:=l.Pairwise fun a b=>a.word=b.word->a.once=false
theorem XK {k:Nat}:LB k []:=fun b h=>by cases h
theorem LB.mono {k j:Nat}{l:List LM}(h:LB k l) (hk:j<=k):LB j l:=fun b hb=>Nat.le_trans hk (h b hb)
theorem Hf {k:Nat}{m:LM}{l:List LM}(h:k<=m.rk) (hl:LB k l):LB k (m::l):=fun b hb=>(List.mem_cons.1 hb).elim (fun e=>e ▸ h) (hl b)
theorem SK {α:Type}{k:Nat}{g:α->LM}{s:List α}{l:List LM}(h:∀ x,k<=(g x).rk) (hl:LB k l):LB k (s.map g++l):=fun b hb =>
 (List.mem_append.1 hb).elim (fun e=>by obtain ⟨x,-,rfl⟩:=List.mem_map.1 e;exact h x) (hl b)
theorem jL {k:Nat}{p:Prop} [Decidable p] {m:LM}{l:List LM}(h:k<=m.rk) (hl:LB k l):LB k ((if p then [] else [m])++l):=by
 split
 ·exact hl
 ·exact Hf h hl
theorem Hg {k:Nat}{m:LM}{l:List LM}(h:m.rk<k) (hl:LB k l) (hp:PW l):PW (m::l) :=
 List.pairwise_cons.2 ⟨fun b hb hw=>by have:=oe hw;have:=hl b hb;omega,hp⟩
theorem SM {α:Type}{g:α->LM}{s:List α}{l:List LM}(h:∀ x,(g x).once=false) (hp:PW l):PW (s.map g++l):=by
 induction s with
 | nil=>exact hp
 | cons x s ih=>exact List.pairwise_cons.2 ⟨fun _ _ _=>h x,ih⟩
theorem jM {k:Nat}{p:Prop} [Decidable p] {m:LM}{l:List LM}(h:m.rk<k) (hl:LB k l) (hp:PW l):PW ((if p then [] else [m])++l):=by
 split
 ·exact hp
 ·exact Hg h hl hp
theorem og {T:Tn}(h:Ad T):LS (FQ T):=by
 have eid:(FQ T).filterMap NN=(T.D2.map Lot.id).map Int.toNat:=by
  unfold FQ;simp only [List.filterMap_cons,List.filterMap_append,List.filterMap_nil,NN];rw [FO (v:=fun l:Lot=>l.id.toNat) (fun x=>rfl),V8 (fun x=>rfl),V8 (fun x=>rfl),HM rfl,HM rfl,V8 (fun x=>rfl)];simp [List.map_map]
 have ecr:(FQ T).filterMap NO=T.C7.map R0.name:=by
  unfold FQ;simp only [List.filterMap_cons,List.filterMap_append,List.filterMap_nil,NO];rw [V8 (fun x=>rfl),FO (v:=R0.name) (fun x=>rfl),V8 (fun x=>rfl),HM rfl,HM rfl,V8 (fun x=>rfl)];simp
 have erq:(FQ T).filterMap RJ=T.reqs.map fun _=>():=by
  unfold FQ;simp only [List.filterMap_cons,List.filterMap_append,List.filterMap_nil,RJ];rw [V8 (fun x=>rfl),V8 (fun x=>rfl),FO (v:=fun _:Req=>()) (fun x=>rfl),HM rfl,HM rfl,V8 (fun x=>rfl)];simp
 have eco:(FQ T).filterMap RK=T.C3.map fun _=>():=by
  unfold FQ;simp only [List.filterMap_cons,List.filterMap_append,List.filterMap_nil,RK];rw [V8 (fun x=>rfl),V8 (fun x=>rfl),V8 (fun x=>rfl),HM rfl,HM rfl,FO (v:=fun _:List Int=>()) (fun x=>rfl)];simp
 obtain ⟨t1,t2,t3,t4,t5⟩:=h.t;refine ⟨?_,?_,by rw [eid];simpa using h.D2,by rw [ecr];exact h.crs,by rw [ecr];simpa using h.C7,by rw [erq];simpa using h.reqs,by rw [eco];simpa using h.C3,?_⟩
 ·intro m hm;unfold FQ at hm;simp only [List.mem_cons,List.mem_append,List.mem_map,List.not_mem_nil,or_false] at hm;rcases hm with rfl|⟨x,hx,rfl⟩|⟨x,hx,rfl⟩|⟨x,hx,rfl⟩|rfl|rfl|hm|hm|⟨x,hx,rfl⟩|rfl|rfl
  ·exact h.name
  ·obtain ⟨q1,q2,q3⟩:=h.lot x hx;exact ⟨om,by unfold Le9;omega,in9 q3⟩
  ·obtain ⟨q1,q2,q3,q4⟩:=h.Bi x hx;exact ⟨q1,om,in9 q3,in9 q4⟩
  ·obtain ⟨q1,q2,q3⟩:=h.req x hx;exact ⟨q1,q2,in9 q3⟩
  ·exact ⟨in9 h.low,in9 h.high⟩
  ·exact h.f
  ·split at hm
   ·cases hm
   ·rename_i hne;rw [List.mem_singleton] at hm;subst hm;exact ⟨hne,h.tie,h.tnd,h.E9⟩
  ·split at hm
   ·cases hm
   ·rw [List.mem_singleton] at hm;subst hm;exact in9 h.D5
  ·obtain ⟨q1,q2,q3,q4⟩:=h.combo x hx;refine ⟨by simpa using q1,fun n hn=>?_,Ls (fun n hn=>by have:=q4 n hn;omega) q3,by simpa using q2⟩;obtain ⟨y,hy,rfl⟩:=List.mem_map.1 hn;have:=q4 y hy;omega
  ·exact in9 h.C1
  ·exact ⟨in9 t1,in9 t2,in9 t3,in9 t4,in9 t5⟩
 ·rw [eid];exact Ls (fun n hn=>by obtain ⟨x,hx,rfl⟩:=List.mem_map.1 hn;have:=h.lot x hx;omega) h.ids
 ·unfold FQ;have l9:LB 9 [.C1 T.C1.toNat,.times T.t.q.toNat T.t.b.toNat T.t.g.toNat T.t.p.toNat T.t.s.toNat]:=Hf (Nat.le_of_ble_eq_true rfl) (Hf (Nat.le_of_ble_eq_true rfl) XK);have w9:PW [.C1 T.C1.toNat,.times T.t.q.toNat T.t.b.toNat T.t.g.toNat T.t.p.toNat T.t.s.toNat]:=Hg (Nat.le_of_ble_eq_true rfl) (Hf (k:=10) (Nat.le_of_ble_eq_true rfl) XK) (Hg (k:=11) (Nat.le_of_ble_eq_true rfl) XK List.Pairwise.nil);have l8:=SK (k:=8) (g:=fun c:List Int=>LM.combo (c.map Int.toNat)) (s:=T.C3) (fun _=>Nat.le_of_ble_eq_true rfl) (l9.mono om);have w8:=SM (g:=fun c:List Int=>LM.combo (c.map Int.toNat)) (s:=T.C3) (fun _=>rfl) w9;have l7:=jL (k:=7) (p:=T.D5=0) (m:= .D5 T.D5.toNat) (Nat.le_of_ble_eq_true rfl) (l8.mono om);have w7:=jM (p:=T.D5=0) (m:= .D5 T.D5.toNat) (Nat.le_of_ble_eq_true rfl) l8 w8;have l6:=jL (k:=6) (p:=T.E9=[]) (m:= .tie T.E9) (Nat.le_of_ble_eq_true rfl) (l7.mono om);have w6:=jM (p:=T.E9=[]) (m:= .tie T.E9) (Nat.le_of_ble_eq_true rfl) l7 w7;have l5:=Hf (m:= .fml T.f) (k:=5) (Nat.le_of_ble_eq_true rfl) (l6.mono om);have w5:=Hg (m:= .fml T.f) (Nat.le_of_ble_eq_true rfl) l6 w6;have l4:=Hf (m:= .BT T.low.toNat T.high.toNat) (k:=4) (Nat.le_of_ble_eq_true rfl) (l5.mono om);have w4:=Hg (m:= .BT T.low.toNat T.high.toNat) (Nat.le_of_ble_eq_true rfl) l5 w5;have l3:=SK (k:=3) (g:=fun r:Req=>LM.req r.name r.rel r.value.toNat) (s:=T.reqs) (fun _=>Nat.le_of_ble_eq_true rfl) (l4.mono om);have w3:=SM (g:=fun r:Req=>LM.req r.name r.rel r.value.toNat) (s:=T.reqs) (fun _=>rfl) w4;have l2:=SK (k:=2) (g:=fun c:R0=>LM.Bi c.name c.kind.toNat c.low.toNat c.high.toNat c.less) (s:=T.C7) (fun _=>Nat.le_of_ble_eq_true rfl) (l3.mono om);have w2:=SM (g:=fun c:R0=>LM.Bi c.name c.kind.toNat c.low.toNat c.high.toNat c.less) (s:=T.C7) (fun _=>rfl) w3;have l1:=SK (k:=1) (g:=fun l:Lot=>LM.lot l.id.toNat l.D5.toNat) (s:=T.D2) (fun _=>Nat.le_of_ble_eq_true rfl) (l2.mono om);have w1:=SM (g:=fun l:Lot=>LM.lot l.id.toNat l.D5.toNat) (s:=T.D2) (fun _=>rfl) w2;exact Hg (m:= .AY T.name) (Nat.le_of_ble_eq_true rfl) l1 w1
theorem ui {T:Tn}(h:Ad T):∀ w∈six,∃ m∈FQ T,m.word=w:=by
 intro w hw;unfold six at hw;simp only [List.mem_cons,List.not_mem_nil,or_false] at hw;unfold FQ;rcases hw with rfl|rfl|rfl|rfl|rfl|rfl
 ·exact ⟨.AY T.name,by simp,rfl⟩
 ·obtain ⟨l,hl⟩:=List.exists_mem_of_ne_nil _ h.AM4;exact ⟨.lot l.id.toNat l.D5.toNat,by simp;exact ⟨l,hl,rfl,rfl⟩,rfl⟩
 ·exact ⟨.BT T.low.toNat T.high.toNat,by simp,rfl⟩
 ·exact ⟨.fml T.f,by simp,rfl⟩
 ·exact ⟨.C1 T.C1.toNat,by simp,rfl⟩
 ·exact ⟨.times T.t.q.toNat T.t.b.toNat T.t.g.toNat T.t.p.toNat T.t.s.toNat,by simp,rfl⟩
theorem oh:∀ {ms:List LM},(∀ m∈ms,m.Ok0)->CB Lin (ms.map W6) ms/\∀ l∈ms.map W6,(10:UInt8)∉l:=by
 intro ms;induction ms with
 | nil=>intro _;exact ⟨trivial,fun l hl=>by cases hl⟩
 | cons m ms ih =>
   intro h;obtain ⟨h1,h2⟩:=ih fun x hx=>h x (List.mem_cons_of_mem _ hx);obtain ⟨h3,h4⟩:=zU (h m (List.mem_cons_self ..));refine ⟨⟨h3,h1⟩,fun l hl=>?_⟩;rcases List.mem_cons.1 hl with rfl|hl
   ·exact h4
   ·exact h2 l hl
theorem FK {T:Tn}(h:Ad T):Cj (Ae T)= .ok T:=by
 have hg:=og h;obtain ⟨h1,h2⟩:=oh hg.each;have:=TC hg h1 h2 (ui h);rw [uh h] at this;exact this

end Go.Proofs.T
