/- What a line says, and that it is read so. -/
import Derived.Test.YtbcanmagihejhaaGreatDoorRA
set_option linter.unusedSimpArgs false
set_option linter.unusedVariables false
namespace Go.Proofs.T
open Go Go.Ab
set_option maxRecDepth 100000
inductive LM where
 | tender (w:By)
 | lot (a b:Nat)
 | crit (w:By) (kd lo hi:Nat) (less:Bool)
 | req (w r:By) (n:Nat)
 | price (a b:Nat)
 | fml (e:Ex)
 | tie (ts:List By)
 | most (n:Nat)
 | combo (cs:List Nat)
 | budget (n:Nat)
 | times (a b c d e:Nat)
def LM.word:LM->By
 | .tender _=>[116,101,110,100,101,114]
 | .lot .. =>[108,111,116]
 | .crit .. =>[99,114,105,116,101,114,105,111,110]
 | .req .. =>[114,101,113,117,105,114,101]
 | .price .. =>[112,114,105,99,101]
 | .fml _=>[102,111,114,109,117,108,97]
 | .tie _=>[116,105,101]
 | .most _=>[109,111,115,116]
 | .combo _=>[99,111,109,98,111]
 | .budget _=>[98,117,100,103,101,116]
 | .times .. =>[116,105,109,101,115]
def LM.txt:LM->List By
 | .tender w=>[w]
 | .lot a b=>[dcN a,mostW,dcN b]
 | .crit w kd lo hi less=>[w,if kd=2 then offerB else gradeB,dcN lo,dcN hi]++if less=true then [lessB] else []
 | .req w r n=>[w,r,dcN n]
 | .price a b=>[dcN a,dcN b]
 | .fml _=>[]
 | .tie ts=>ts
 | .most n=>[dcN n]
 | .combo cs=>cs.map dcN
 | .budget n=>[dcN n]
 | .times a b c d e=>[dcN a,dcN b,dcN c,dcN d,dcN e]
def LM.app:LM->Tn->Tn
 | .tender w,T=>{ T with name:=w }
 | .lot a b,T=>{ T with lots:=T.lots++[⟨a,b⟩] }
 | .crit w kd lo hi less,T=>{ T with crits:=T.crits++[⟨w,kd,lo,hi,less⟩] }
 | .req w r n,T=>{ T with reqs:=T.reqs++[⟨w,r,n⟩] }
 | .price a b,T=>{ T with low:=a,high:=b }
 | .fml e,T=>{ T with f:=e }
 | .tie ts,T=>{ T with ties:=ts }
 | .most n,T=>{ T with most:=n }
 | .combo cs,T=>{ T with combos:=T.combos++[cs.map (fun n:Nat=>(n:Int))] }
 | .budget n,T=>{ T with budget:=n }
 | .times a b c d e,T=>{ T with t:=⟨a,b,c,d,e⟩ }
def Le9 (n:Nat):Prop:=n<=1000000000
def LM.Ok:LM->Tn->Prop
 | .tender w,_=>nameB w=true
 | .lot a b,T=>1<=a/\Le9 a/\Le9 b/\(T.lots.any fun l=>decide (l.id=(a:Int)))=false/\T.lots.length≠12
 | .crit w kd lo hi _,T=>wordB w=true/\(kd=1\/kd=2)/\Le9 lo/\Le9 hi/\(T.crits.any fun c=>decide (c.name=w))=false/\T.crits.length≠12
 | .req w r n,T=>wordB w=true/\([[60,61],[62,61]]:List By).contains r=true/\Le9 n/\T.reqs.length≠24
 | .price a b,_=>Le9 a/\Le9 b
 | .fml e,_=>∃ k m,FW k m e/\k<=12/\m<=60
 | .tie ts,T=>T.ties=[]/\ts≠[]/\(∀ w∈ts,(w=priceB\/wordB w=true))/\ts.Nodup/\ts.length<=12
 | .most n,_=>Le9 n
 | .combo cs,T=>2<=cs.length/\(∀ n∈cs,1<=n/\n<=1000000000)/\cs.Nodup/\cs.length<=12/\T.combos.length≠12
 | .budget n,_=>Le9 n
 | .times a b c d e,_=>Le9 a/\Le9 b/\Le9 c/\Le9 d/\Le9 e
def LM.once:LM->Bool
 | .lot .. =>false
 | .crit .. =>false
 | .req .. =>false
 | .combo _=>false
 | _=>true
def Lin (l:By):LM->Prop
 | .fml e=>∃ (n:Nat) (r:By),l=List.replicate n 32++((LM.fml e).word++r)/\(∀ c t,r=c::t->c=32)/\lex r=tokF 12 0 e
 | m=>(splitB 32 l).filter (fun w=> !decide (w=[]))=m.word::m.txt
theorem toksP_fst:∀ (ws:List By) (k:Nat),(toksP ws k).map Prod.fst=ws.filter fun w=> !decide (w=[]):=by
 intro ws
 induction ws with
 | nil=>intro k;rfl
 | cons w ws ih =>
   intro k
   unfold toksP
   rw [List.map_append,ih,List.filter_cons]
   by_cases h:w=[]
   ·rw [if_pos h];simp [h]
   ·rw [if_neg h];simp [h]
theorem toksS_fst {l:By}{k:Nat}:(toksS l k).map Prod.fst=(splitB 32 l).filter (fun w=> !decide (w=[]))++[[]]:=by
 unfold toksS
 rw [List.map_append,toksP_fst];rfl
theorem split_at {c:UInt8}:∀ {w s:By},c∉w->splitB c (w++c::s)=w::splitB c s:=by
 intro w
 induction w with
 | nil=>intro s _;show (if c=c then _ else _)=_;rw [if_pos rfl]
 | cons x w ih =>
   intro s h
   have hx:x≠c:=fun e=>h (by rw [e];exact List.mem_cons_self ..)
   show (if x=c then _ else match splitB c (w++c::s) with|h::t=>(x::h)::t|[]=>[[x]])=_
   rw [if_neg hx,ih fun hm=>h (List.mem_cons_of_mem _ hm)]
theorem split_one {c:UInt8}:∀ {w:By},c∉w->splitB c w=[w]:=by
 intro w
 induction w with
 | nil=>intro _;rfl
 | cons x w ih =>
   intro h
   have hx:x≠c:=fun e=>h (by rw [e];exact List.mem_cons_self ..)
   show (if x=c then _ else match splitB c w with|h::t=>(x::h)::t|[]=>[[x]])=_
   rw [if_neg hx,ih fun hm=>h (List.mem_cons_of_mem _ hm)]
theorem toks_blanks:∀ (n:Nat) (s:By) (k:Nat),toksP (splitB 32 (List.replicate n 32++s)) k=toksP (splitB 32 s) (k+n):=by
 intro n
 induction n with
 | zero=>intro s k;rfl
 | succ n ih =>
   intro s k
   rw [List.replicate_succ]
   show toksP (if (32:UInt8)=32 then []::splitB 32 (List.replicate n 32++s) else _) k=_
   rw [if_pos rfl]
   show (if ([]:By)=[] then [] else _)++toksP (splitB 32 (List.replicate n 32++s)) (k+0+1)=_
   rw [if_pos rfl,List.nil_append,ih,show k+0+1+n=k+(n+1) by omega]
theorem fml_first {n k:Nat}{w r:By}(hw:w≠[]) (h32:32∉w) (hr:∀ c t,r=c::t->c=32):tokA (toksS (List.replicate n 32++(w++r)) k) 0=(w,k+n):=by
 have:∃ rest,toksS (List.replicate n 32++(w++r)) k=(w,k+n)::rest:=by
  unfold toksS
  rw [toks_blanks]
  cases r with
  | nil =>
    rw [List.append_nil,split_one h32]
    unfold toksP
    rw [if_neg hw]
    exact ⟨_,rfl⟩
  | cons c t =>
    obtain rfl:=hr c t rfl
    rw [split_at h32]
    unfold toksP
    rw [if_neg hw]
    exact ⟨_,rfl⟩
 obtain ⟨rest,h⟩:=this
 rw [h];rfl
theorem last_tok {l:By}{a:Nat}:tokA (toksS l a) ((toksS l a).length-1)=([],a+l.length):=by
 unfold toksS
 generalize toksP (splitB 32 l) a=tp
 generalize a+l.length=n
 unfold tokA
 rw [List.getD_eq_getElem?_getD,List.length_append,show tp.length+[(([]:By),n)].length-1=tp.length from rfl,List.getElem?_append_right (Nat.le_refl _),Nat.sub_self]
 rfl
theorem LM.word_ne (m:LM):m.word≠[]:=by cases m <;> simp [LM.word]
theorem line_read {l:By}{at':Nat}{T:Tn}{seen:List (By×Value)}{m:LM}(hl:Lin l m) (hs:m.once=true->lookKV m.word seen=none) (hok:m.Ok T):lineS l at' T seen= .ok (m.app T,setKV m.word tru seen):=by
 have fin:∀ (ks:KS) (k':Nat),(tokA (toksS l at') 0).1=m.word->kS m.word=some ks->ks.once=m.once->ks.full T=false ->
   ks.rd (toksS l at') (l.drop ((tokA (toksS l at') 0).2+m.word.length-at')) ((tokA (toksS l at') 0).2+m.word.length) T 1= .ok (m.app T,k')->(tokA (toksS l at') k').1=[]->lineS l at' T seen= .ok (m.app T,setKV m.word tru seen):=by
  intro ks k' h0 h1 h2 h3 h4 h5
  unfold lineS
  rw [h0,if_neg (LM.word_ne m),h1]
  dsimp only
  rw [if_neg (by
   rw [h2]
   cases ho:m.once with
   | false=>simp
   | true=>rw [hs ho];simp),if_neg (by rw [h3];simp),h4,thenR_ok]
  dsimp only
  rw [if_pos h5]
 have simple:((splitB 32 l).filter (fun w=> !decide (w=[]))=m.word::m.txt)->At (toksS l at') 0 (m.word::m.txt) [[]]:=fun h=>by
  unfold At
  rw [toksS_fst,h];rfl
 cases m with
 | fml e =>
   obtain ⟨n,r,rfl,hr,hlex⟩:=hl
   have h0:=fml_first (n:=n) (k:=at') (w:=(LM.fml e).word) (r:=r) (LM.word_ne _) (show (32:UInt8)∉([102,111,114,109,117,108,97]:By) by decide) hr
   refine fin _ ((toksS (List.replicate n 32++((LM.fml e).word++r)) at').length-1) (by rw [h0]) rfl rfl rfl ?_ ?_
   ·rw [h0]
    obtain ⟨k,mm,hf,hk,hm⟩:=hok
    show formulaS _ _ _ _ 1=_
    unfold formulaS
    have hd:(List.replicate n 32++((LM.fml e).word++r)).drop (at'+n+(LM.fml e).word.length-at')=r:=by
     rw [show at'+n+(LM.fml e).word.length-at'=n+(LM.fml e).word.length by omega,<- List.append_assoc,List.drop_left' (by simp)]
    rw [hd,read_show hf hk hk hm (by rw [fToks_lex,hlex]),thenR_ok];rfl
   ·rw [last_tok]
 | tender w =>
   have hA:=simple hl
   exact fin _ _ hA.head rfl rfl rfl (tender_read hA.next hok) (At.post hA.next)
 | lot a b =>
   have hA:=simple hl
   obtain ⟨q1,q2,q3,q4,q5⟩:=hok
   exact fin _ _ hA.head rfl rfl (decide_eq_false q5) (lot_read hA.next q1 q2 q3 q4) (At.post hA.next)
 | crit w kd lo hi less =>
   have hA:=simple hl
   obtain ⟨q1,q2,q3,q4,q5,q6⟩:=hok
   refine fin _ _ hA.head rfl rfl (decide_eq_false q6) (crit_read hA.next q1 q2 q3 q4 q5) ?_
   have:=At.post hA.next
   cases less <;> exact this
 | req w r n =>
   have hA:=simple hl
   obtain ⟨q1,q2,q3,q4⟩:=hok
   exact fin _ _ hA.head rfl rfl (decide_eq_false q4) (req_read hA.next q1 q2 q3) (At.post hA.next)
 | price a b =>
   have hA:=simple hl
   exact fin _ _ hA.head rfl rfl rfl (price_read hA.next hok.1 hok.2) (At.post hA.next)
 | tie ts =>
   have hA:=simple hl
   obtain ⟨q1,q2,q3,q4,q5⟩:=hok
   exact fin _ _ hA.head rfl rfl rfl (tie_read hA.next q1 q2 q3 q4 q5) (At.post hA.next)
 | most n =>
   have hA:=simple hl
   exact fin _ _ hA.head rfl rfl rfl (most_read hA.next hok) (At.post hA.next)
 | combo cs =>
   have hA:=simple hl
   obtain ⟨q1,q2,q3,q4,q5⟩:=hok
   refine fin _ _ hA.head rfl rfl (decide_eq_false q5) (combo_read hA.next q1 q2 q3 q4) ?_
   have:=At.post hA.next
   rw [show (LM.combo cs).txt.length=cs.length from List.length_map ..] at this
   exact this
 | budget n =>
   have hA:=simple hl
   exact fin _ _ hA.head rfl rfl rfl (budget_read hA.next hok) (At.post hA.next)
 | times a b c d e =>
   have hA:=simple hl
   obtain ⟨q1,q2,q3,q4,q5⟩:=hok
   exact fin _ _ hA.head rfl rfl rfl (times_read hA.next q1 q2 q3 q4 q5) (At.post hA.next)
end Go.Proofs.T
namespace Go.Proofs.T
open Go Go.Ab
set_option maxRecDepth 100000
theorem look_set {w x:By}{v:Value}:∀ {l:List (By×Value)},lookKV w (setKV x v l)=if w=x then some v else lookKV w l:=by
 intro l
 induction l with
 | nil=>rfl
 | cons p l ih =>
   obtain ⟨y,u⟩:=p
   rw [setKV_cons]
   by_cases h:x=y
   ·subst h
    rw [if_pos rfl,lookKV_cons,lookKV_cons]
    by_cases h2:w=x
    ·rw [if_pos h2,if_pos h2]
    ·rw [if_neg h2,if_neg h2,if_neg h2]
   ·rw [if_neg h,lookKV_cons,lookKV_cons,ih]
    by_cases h2:w=y
    ·rw [if_pos h2,if_pos h2,if_neg (fun e=>h (e.symm.trans h2))]
    ·rw [if_neg h2,if_neg h2]
def appAll (ms:List LM) (T:Tn):Tn:=ms.foldl (fun T m=>m.app T) T
def seenAll (ms:List LM) (s:List (By×Value)):List (By×Value):=ms.foldl (fun s m=>setKV m.word tru s) s
def SeenIs (s:List (By×Value)) (ms:List LM):Prop:=∀ w,(lookKV w s).isSome=true↔∃ m∈ms,m.word=w
theorem seen_snoc {s:List (By×Value)}{ms:List LM}{m:LM}(h:SeenIs s ms):SeenIs (setKV m.word tru s) (ms++[m]):=by
 intro w
 rw [look_set]
 by_cases hw:m.word=w
 ·rw [if_pos hw.symm]
  exact ⟨fun _=>⟨m,by simp,hw⟩,fun _=>rfl⟩
 ·rw [if_neg (fun e=>hw e.symm),h w]
  constructor
  ·rintro ⟨x,h1,h2⟩;exact ⟨x,by simp [h1],h2⟩
  ·rintro ⟨x,h1,h2⟩
   rcases List.mem_append.1 h1 with h1|h1
   ·exact ⟨x,h1,h2⟩
   ·rw [List.mem_singleton] at h1;subst h1;exact absurd h2 hw
def LM.Ok0:LM->Prop
 | .tender w=>nameB w=true
 | .lot a b=>1<=a/\Le9 a/\Le9 b
 | .crit w kd lo hi _=>wordB w=true/\(kd=1\/kd=2)/\Le9 lo/\Le9 hi
 | .req w r n=>wordB w=true/\([[60,61],[62,61]]:List By).contains r=true/\Le9 n
 | .price a b=>Le9 a/\Le9 b
 | .fml e=>∃ k m,FW k m e/\k<=12/\m<=60
 | .tie ts=>ts≠[]/\(∀ w∈ts,(w=priceB\/wordB w=true))/\ts.Nodup/\ts.length<=12
 | .most n=>Le9 n
 | .combo cs=>2<=cs.length/\(∀ n∈cs,1<=n/\n<=1000000000)/\cs.Nodup/\cs.length<=12
 | .budget n=>Le9 n
 | .times a b c d e=>Le9 a/\Le9 b/\Le9 c/\Le9 d/\Le9 e
def idOf:LM->Option Nat
 | .lot a _=>some a
 | _=>none
def crOf:LM->Option By
 | .crit w .. =>some w
 | _=>none
def rqOf:LM->Option Unit
 | .req .. =>some ()
 | _=>none
def coOf:LM->Option Unit
 | .combo _=>some ()
 | _=>none
theorem word_once {a b:LM}(h:a.word=b.word):a.once=b.once:=by
 cases a <;> cases b <;> first|rfl|(simp [LM.word] at h)
structure GoodL (ms:List LM):Prop where
 each:∀ m∈ms,m.Ok0
 ids:(ms.filterMap idOf).Nodup
 lots:(ms.filterMap idOf).length<=12
 crs:(ms.filterMap crOf).Nodup
 crits:(ms.filterMap crOf).length<=12
 reqs:(ms.filterMap rqOf).length<=24
 combos:(ms.filterMap coOf).length<=12
 once:ms.Pairwise fun a b=>a.word=b.word->a.once=false
theorem GoodL.sub {ms ns:List LM}(h:GoodL ms) (hs:ns.Sublist ms):GoodL ns where
 each:=fun m hm=>h.each m (hs.subset hm)
 ids:=h.ids.sublist (hs.filterMap idOf)
 lots:=Nat.le_trans (hs.filterMap idOf).length_le h.lots
 crs:=h.crs.sublist (hs.filterMap crOf)
 crits:=Nat.le_trans (hs.filterMap crOf).length_le h.crits
 reqs:=Nat.le_trans (hs.filterMap rqOf).length_le h.reqs
 combos:=Nat.le_trans (hs.filterMap coOf).length_le h.combos
 once:=h.once.sublist hs
structure Made (ms:List LM) (T:Tn):Prop where
 lots:T.lots.map Lot.id=(ms.filterMap idOf).map fun n:Nat=>(n:Int)
 crits:T.crits.map Crit.name=ms.filterMap crOf
 reqs:T.reqs.length=(ms.filterMap rqOf).length
 combos:T.combos.length=(ms.filterMap coOf).length
 ties:(∀ ts,LM.tie ts∉ms)->T.ties=[]
theorem Made.snoc {ms:List LM}{T:Tn}{m:LM}(h:Made ms T):Made (ms++[m]) (m.app T):=by
 obtain ⟨h1,h2,h3,h4,h5⟩:=h
 have h5':(∀ ts,LM.tie ts∉ms++[m])->T.ties=[]:=fun hn=>h5 fun ts hm=>hn ts (by simp [hm])
 cases m <;> (refine ⟨?_,?_,?_,?_,?_⟩ <;> first|(simpa [LM.app,List.filterMap_append,idOf,crOf,rqOf,coOf] using by assumption)|exact h5'|skip)
 all_goals first
  | (simp [LM.app,List.filterMap_append,idOf,crOf,rqOf,coOf,h1,h2,h3,h4];done)
  | (intro hn;exact absurd (List.mem_append.2 (.inr (List.mem_singleton.2 rfl))) (hn _))
theorem made_ok {pre:List LM}{m:LM}{rest:List LM}{T:Tn}(hg:GoodL (pre++m::rest)) (hm:Made pre T):m.Ok T:=by
 have h0:=hg.each m (by simp)
 obtain ⟨h1,h2,h3,h4,h5⟩:=hm
 have hid:=hg.ids
 have hl:=hg.lots
 have hcr:=hg.crs
 have hc:=hg.crits
 have hr:=hg.reqs
 have hco:=hg.combos
 rw [List.filterMap_append] at hid hl hcr hc hr hco
 cases m with
 | tender w=>exact h0
 | lot a b =>
   obtain ⟨q1,q2,q3⟩:=h0
   rw [show (LM.lot a b::rest).filterMap idOf=a::rest.filterMap idOf from rfl] at hid hl
   refine ⟨q1,q2,q3,?_,?_⟩
   ·rw [Bool.eq_false_iff]
    intro hx
    rw [List.any_eq_true] at hx
    obtain ⟨l,hl1,hl2⟩:=hx
    have:l.id∈T.lots.map Lot.id:=List.mem_map_of_mem hl1
    rw [h1] at this
    obtain ⟨n,hn1,hn2⟩:=List.mem_map.1 this
    have:n=a:=by have:=of_decide_eq_true hl2;omega
    subst this
    exact (List.nodup_append.1 hid).2.2 n hn1 n (List.mem_cons_self ..) rfl
   ·have e:=congrArg List.length h1
    simp at e hl
    omega
 | crit w kd lo hi less =>
   obtain ⟨q1,q2,q3,q4⟩:=h0
   rw [show (LM.crit w kd lo hi less::rest).filterMap crOf=w::rest.filterMap crOf from rfl] at hcr hc
   refine ⟨q1,q2,q3,q4,?_,?_⟩
   ·rw [Bool.eq_false_iff]
    intro hx
    rw [List.any_eq_true] at hx
    obtain ⟨l,hl1,hl2⟩:=hx
    have:l.name∈T.crits.map Crit.name:=List.mem_map_of_mem hl1
    rw [h2,of_decide_eq_true hl2] at this
    exact (List.nodup_append.1 hcr).2.2 w this w (List.mem_cons_self ..) rfl
   ·have e:=congrArg List.length h2
    simp at e hc
    omega
 | req w r n =>
   obtain ⟨q1,q2,q3⟩:=h0
   refine ⟨q1,q2,q3,?_⟩
   rw [show (LM.req w r n::rest).filterMap rqOf=()::rest.filterMap rqOf from rfl] at hr
   simp at hr
   omega
 | price a b=>exact h0
 | fml e=>exact h0
 | tie ts =>
   obtain ⟨q1,q2,q3,q4⟩:=h0
   refine ⟨h5 fun us hu=>?_,q1,q2,q3,q4⟩
   have:=List.pairwise_append.1 hg.once
   have:=this.2.2 _ hu (LM.tie ts) (List.mem_cons_self ..) rfl
   cases this
 | most n=>exact h0
 | combo cs =>
   obtain ⟨q1,q2,q3,q4⟩:=h0
   refine ⟨q1,q2,q3,q4,?_⟩
   rw [show (LM.combo cs::rest).filterMap coOf=()::rest.filterMap coOf from rfl] at hco
   simp at hco
   omega
 | budget n=>exact h0
 | times a b c d e=>exact h0
theorem good_lines:∀ (ms:List LM) (ls:List By) (pre:List LM) (at':Nat) (T:Tn) (seen:List (By×Value)) (more:List By),GoodL (pre++ms)->Made pre T->SeenIs seen pre->All2 Lin ls ms ->
  linesS (ls++more) at' T seen=linesS more (at'+lens ls) (appAll ms T) (seenAll ms seen)/\SeenIs (seenAll ms seen) (pre++ms):=by
 intro ms
 induction ms with
 | nil =>
   intro ls pre at' T seen more hg hm hs hl
   cases ls with
   | nil=>exact ⟨rfl,by rw [List.append_nil];exact hs⟩
   | cons l ls=>exact hl.elim
 | cons m ms ih =>
   intro ls pre at' T seen more hg hm hs hl
   cases ls with
   | nil=>exact hl.elim
   | cons l ls =>
     obtain ⟨hl1,hl2⟩:=hl
     have hone:m.once=true->lookKV m.word seen=none:=by
      intro ho
      cases hlk:lookKV m.word seen with
      | none=>rfl
      | some v =>
        obtain ⟨x,hx1,hx2⟩:=(hs m.word).1 (by rw [hlk];rfl)
        have:=(List.pairwise_append.1 hg.once).2.2 x hx1 m (List.mem_cons_self ..) hx2
        rw [word_once hx2,ho] at this;cases this
     have h1:=line_read (at':=at') hl1 hone (made_ok hg hm)
     obtain ⟨h2,h3⟩:=ih ls (pre++[m]) (at'+(l.length+1)) (m.app T) (setKV m.word tru seen) more (by rw [List.append_assoc];exact hg) hm.snoc (seen_snoc hs) hl2
     refine ⟨?_,?_⟩
     ·show linesS (l::(ls++more)) at' T seen=_
      rw [show linesS (l::(ls++more)) at' T seen=thenR (lineS l at' T seen) (fun (T',seen')=>linesS (ls++more) (at'+(l.length+1)) T' seen') from rfl,h1,thenR_ok]
      dsimp only
      rw [h2]
      show linesS more (at'+(l.length+1)+lens ls) _ _=linesS more (at'+(l.length+1+lens ls)) _ _
      rw [Nat.add_assoc];rfl
     ·rw [List.append_assoc] at h3;exact h3
def under (ls:List By):By:=(ls.map fun l=>l++[10]).flatten
theorem under_split:∀ (ls:List By) (r:By),(∀ l∈ls,(10:UInt8)∉l)->splitB 10 (under ls++r)=ls++splitB 10 r:=by
 intro ls
 induction ls with
 | nil=>intro r _;rfl
 | cons l ls ih =>
   intro r h
   have e:under (l::ls)++r=l++10::(under ls++r):=by unfold under;simp
   rw [e,split_at (h l (List.mem_cons_self ..)),ih r fun x hx=>h x (List.mem_cons_of_mem _ hx)];rfl
theorem under_len:∀ (ls:List By),(under ls).length=lens ls:=by
 intro ls
 induction ls with
 | nil=>rfl
 | cons l ls ih =>
   have e:under (l::ls)=l++10::under ls:=by unfold under;simp
   rw [e,List.length_append,List.length_cons,ih]
   show _=l.length+1+lens ls
   omega
theorem line_blank {at':Nat}{T:Tn}{seen:List (By×Value)}{n:Nat}:lineS (List.replicate n 32) at' T seen= .ok (T,seen):=by
 have:(tokA (toksS (List.replicate n 32) at') 0).1=[]:=by
  unfold toksS
  have:=toks_blanks n [] at'
  rw [List.append_nil] at this
  rw [this];rfl
 unfold lineS
 rw [if_pos this]
theorem made_nil:Made [] T0:=⟨rfl,rfl,rfl,rfl,fun _=>rfl⟩
theorem seen_nil:SeenIs [] []:=fun w=>by simp [lookKV]
theorem parse_lines {ls:List By}{ms:List LM}{r:By}(hg:GoodL ms) (hl:All2 Lin ls ms) (h10:∀ l∈ls,(10:UInt8)∉l) :
  ∃ seen,SeenIs seen ms/\linesS (splitB 10 (under ls++r)) 0 T0 []=linesS (splitB 10 r) (under ls).length (appAll ms T0) seen:=by
 obtain ⟨h1,h2⟩:=good_lines ms ls [] 0 T0 [] (splitB 10 r) hg made_nil seen_nil hl
 refine ⟨_,h2,?_⟩
 rw [under_split ls r h10,h1,under_len,Nat.zero_add]
theorem parse_under {ls:List By}{ms:List LM}(hg:GoodL ms) (hl:All2 Lin ls ms) (h10:∀ l∈ls,(10:UInt8)∉l) (h6:∀ w∈six,∃ m∈ms,m.word=w):parseS (under ls)= .ok (appAll ms T0):=by
 obtain ⟨seen,h1,h2⟩:=parse_lines (r:=[]) hg hl h10
 rw [List.append_nil] at h2
 unfold parseS
 rw [h2]
 have hb:=@line_blank (under ls).length (appAll ms T0) seen 0
 rw [show linesS (splitB 10 []) (under ls).length (appAll ms T0) seen=thenR (lineS [] (under ls).length (appAll ms T0) seen) (fun (T',seen')=>linesS [] ((under ls).length+(([]:By).length+1)) T' seen') from rfl]
 rw [show lineS [] (under ls).length (appAll ms T0) seen=_ from hb,thenR_ok]
 show thenR (.ok (appAll ms T0,seen)) _=_
 rw [thenR_ok]
 dsimp only
 rw [if_pos]
 rw [List.all_eq_true]
 intro w hw
 exact (h1 w).2 (h6 w hw)
end Go.Proofs.T
namespace Go.Proofs.T
open Go Go.Ab
set_option maxRecDepth 100000
def spJ:List By->By
 | []=>[]
 | [w]=>w
 | w::ws=>w++32::spJ ws
def lineP:LM->By
 | .fml e=>(LM.fml e).word++32::showF 12 0 e
 | m=>spJ (m.word::m.txt)
def lmOf (T:Tn):List LM :=
 .tender T.name::(T.lots.map (fun l=>LM.lot l.id.toNat l.most.toNat)++(T.crits.map (fun c=>LM.crit c.name c.kind.toNat c.low.toNat c.high.toNat c.less)++(T.reqs.map (fun r=>LM.req r.name r.rel r.value.toNat) ++
  (.price T.low.toNat T.high.toNat:: .fml T.f::((if T.ties=[] then [] else [.tie T.ties])++((if T.most=0 then [] else [.most T.most.toNat])++(T.combos.map (fun c=>LM.combo (c.map Int.toNat)) ++
    [.budget T.budget.toNat,.times T.t.q.toNat T.t.b.toNat T.t.g.toNat T.t.p.toNat T.t.s.toNat])))))))
def printT (T:Tn):By:=under ((lmOf T).map lineP)
def In9 (n:Int):Prop:=0<=n/\n<=1000000000
structure RightT (T:Tn):Prop where
 name:nameB T.name=true
 lots:T.lots.length<=12
 lot0:T.lots≠[]
 lot:∀ l∈T.lots,1<=l.id/\l.id<=1000000000/\In9 l.most
 ids:(T.lots.map Lot.id).Nodup
 crits:T.crits.length<=12
 crit:∀ c∈T.crits,wordB c.name=true/\(c.kind=1\/c.kind=2)/\In9 c.low/\In9 c.high
 crs:(T.crits.map Crit.name).Nodup
 reqs:T.reqs.length<=24
 req:∀ r∈T.reqs,wordB r.name=true/\([[60,61],[62,61]]:List By).contains r.rel=true/\In9 r.value
 low:In9 T.low
 high:In9 T.high
 f:∃ k m,FW k m T.f/\k<=12/\m<=60
 ties:T.ties.length<=12
 tie:∀ w∈T.ties,(w=priceB\/wordB w=true)
 tnd:T.ties.Nodup
 most:In9 T.most
 combos:T.combos.length<=12
 combo:∀ c∈T.combos,2<=c.length/\c.length<=12/\c.Nodup/\∀ n∈c,1<=n/\n<=1000000000
 budget:In9 T.budget
 t:In9 T.t.q/\In9 T.t.b/\In9 T.t.g/\In9 T.t.p/\In9 T.t.s
def Wd (w:By):Prop:=w≠[]/\(32:UInt8)∉w/\(10:UInt8)∉w
theorem spJ_split:∀ (ws:List By) (w:By),(∀ x∈w::ws,Wd x)->splitB 32 (spJ (w::ws))=w::ws:=by
 intro ws
 induction ws with
 | nil=>intro w h;exact split_one (h w (List.mem_cons_self ..)).2.1
 | cons v ws ih =>
   intro w h
   show splitB 32 (w++32::spJ (v::ws))=_
   rw [split_at (h w (List.mem_cons_self ..)).2.1,ih v fun x hx=>h x (List.mem_cons_of_mem _ hx)]
theorem spJ_ten:∀ (ws:List By) (w:By),(∀ x∈w::ws,Wd x)->(10:UInt8)∉spJ (w::ws):=by
 intro ws
 induction ws with
 | nil=>intro w h;exact (h w (List.mem_cons_self ..)).2.2
 | cons v ws ih =>
   intro w h hm
   rcases List.mem_append.1 (show (10:UInt8)∈w++32::spJ (v::ws) from hm) with h1|h1
   ·exact (h w (List.mem_cons_self ..)).2.2 h1
   ·rcases List.mem_cons.1 h1 with h1|h1
    ·cases h1
    ·exact ih v (fun x hx=>h x (List.mem_cons_of_mem _ hx)) h1
theorem wd_fol {w:By}(h0:w≠[]) (h:w.all (on folB)=true):Wd w :=
 ⟨h0,fun hm=>(by have:=List.all_eq_true.1 h _ hm;cases this),fun hm=>(by have:=List.all_eq_true.1 h _ hm;cases this)⟩
theorem wd_name {w:By}(h:nameB w=true):Wd w:=by
 obtain ⟨c,v,rfl,-,h2⟩:=name_split h
 exact wd_fol (by simp) h2
theorem wd_word {w:By}(h:wordB w=true):Wd w:=by
 unfold wordB at h
 rw [Bool.and_eq_true] at h
 exact wd_name h.1
theorem wd_num (n:Nat):Wd (dcN n):=by
 refine wd_fol (dcN_ne n) ?_
 rw [List.all_eq_true]
 intro c hc
 exact dig_fol (List.all_eq_true.1 (dcN_spec (n+1) n (Nat.lt_succ_self _)).1 c hc)
theorem wd_of {w:By}(h:(!decide (w=[])&&(!w.contains 32&& !w.contains 10))=true):Wd w:=by
 simp at h
 exact ⟨h.1,h.2.1,h.2.2⟩
theorem LM.word_wd (m:LM):Wd m.word:=by cases m <;> exact wd_of (by rfl)
theorem txt_wd {m:LM}(h:m.Ok0):∀ x∈m.txt,Wd x:=by
 intro x hx
 cases m with
 | tender w=>rw [show (LM.tender w).txt=[w] from rfl,List.mem_singleton] at hx;subst hx;exact wd_name h
 | lot a b =>
   rw [show (LM.lot a b).txt=[dcN a,mostW,dcN b] from rfl] at hx
   simp only [List.mem_cons,List.not_mem_nil,or_false] at hx
   rcases hx with rfl|rfl|rfl
   ·exact wd_num _
   ·exact wd_of (by rfl)
   ·exact wd_num _
 | crit w kd lo hi less =>
   rcases List.mem_append.1 (show x∈[w,if kd=2 then offerB else gradeB,dcN lo,dcN hi]++(if less=true then [lessB] else []) from hx) with hx|hx
   ·simp only [List.mem_cons,List.not_mem_nil,or_false] at hx
    rcases hx with rfl|rfl|rfl|rfl
    ·exact wd_word h.1
    ·split <;> exact wd_of (by rfl)
    ·exact wd_num _
    ·exact wd_num _
   ·split at hx
    ·rw [List.mem_singleton] at hx;subst hx;exact wd_of (by rfl)
    ·cases hx
 | req w r n =>
   rw [show (LM.req w r n).txt=[w,r,dcN n] from rfl] at hx
   simp only [List.mem_cons,List.not_mem_nil,or_false] at hx
   obtain ⟨h1,h2,h3⟩:=h
   rcases hx with rfl|rfl|rfl
   ·exact wd_word h1
   ·simp at h2
    rcases h2 with rfl|rfl <;> exact wd_of (by rfl)
   ·exact wd_num _
 | price a b =>
   rw [show (LM.price a b).txt=[dcN a,dcN b] from rfl] at hx
   simp only [List.mem_cons,List.not_mem_nil,or_false] at hx
   rcases hx with rfl|rfl <;> exact wd_num _
 | fml e=>cases hx
 | tie ts =>
   rcases h.2.1 x hx with rfl|h1
   ·exact wd_of (by rfl)
   ·exact wd_word h1
 | most n=>rw [show (LM.most n).txt=[dcN n] from rfl,List.mem_singleton] at hx;subst hx;exact wd_num _
 | combo cs =>
   obtain ⟨n,-,rfl⟩:=List.mem_map.1 (show x∈cs.map dcN from hx)
   exact wd_num _
 | budget n=>rw [show (LM.budget n).txt=[dcN n] from rfl,List.mem_singleton] at hx;subst hx;exact wd_num _
 | times a b c d e =>
   rw [show (LM.times a b c d e).txt=[dcN a,dcN b,dcN c,dcN d,dcN e] from rfl] at hx
   simp only [List.mem_cons,List.not_mem_nil,or_false] at hx
   rcases hx with rfl|rfl|rfl|rfl|rfl <;> exact wd_num _
theorem par_ten {b:Bool}{s:By}(h:(10:UInt8)∉s):(10:UInt8)∉par b s:=by
 unfold par
 cases b with
 | false=>exact h
 | true =>
   rw [if_pos rfl]
   intro hm
   rcases List.mem_cons.1 hm with hm|hm
   ·cases hm
   ·rcases List.mem_append.1 hm with hm|hm
    ·exact h hm
    ·rw [List.mem_singleton] at hm;cases hm
theorem show_ten {k m:Nat}{e:Ex}(h:FW k m e):∀ (f least:Nat),k<=f->(10:UInt8)∉showF f least e:=by
 have dg:∀ l:By,l.all (on digB)=true->(10:UInt8)∉l:=fun l hl hm=>by have:=List.all_eq_true.1 hl _ hm;cases this
 induction h with
 | @num n d h =>
   intro f least hf
   obtain ⟨f,rfl⟩:∃ g,f=g+1:=⟨f-1,om⟩
   unfold showF
   refine par_ten ?_
   rw [if_pos rfl]
   rcases h.lex with ⟨c,w,e,h1⟩|⟨c,w,x,v,e,h1,h2⟩
   ·rw [e];exact dg _ h1
   ·rw [e]
    intro hm
    rcases List.mem_append.1 hm with hm|hm
    ·exact dg _ h1 hm
    ·rcases List.mem_cons.1 hm with hm|hm
     ·cases hm
     ·exact dg _ h2 hm
 | @name nm h1 h2 h3 =>
   intro f least hf
   obtain ⟨f,rfl⟩:∃ g,f=g+1:=⟨f-1,om⟩
   unfold showF
   refine par_ten ?_
   rw [if_neg (by decide),if_pos rfl]
   exact (wd_name h1).2.2
 | @bin k j m i o a b h ha hb iha ihb =>
   intro f least hf
   obtain ⟨f,rfl⟩:∃ g,f=g+1:=⟨f-1,om⟩
   unfold showF
   refine par_ten ?_
   have hn:o≠numB3/\o≠nmB/\¬ (o=minB\/o=maxB):=by rcases h with rfl|rfl|rfl|rfl <;> decide
   have ho:(10:UInt8)∉o:=by rcases h with rfl|rfl|rfl|rfl <;> decide
   rw [if_neg hn.1,if_neg hn.2.1]
   dsimp only
   rw [if_neg hn.2.2]
   have h1:=iha f (lvl o) om
   have h2:=ihb f (lvl o+1) om
   simp only [List.mem_append,List.mem_cons,not_or]
   exact ⟨h1,by decide,ho,by decide,h2⟩
 | @mm k j m i o a b h ha hb iha ihb =>
   intro f least hf
   obtain ⟨f,rfl⟩:∃ g,f=g+1:=⟨f-1,om⟩
   unfold showF
   refine par_ten ?_
   have hn:o≠numB3/\o≠nmB:=by rcases h with rfl|rfl <;> decide
   have ho:(10:UInt8)∉o:=by rcases h with rfl|rfl <;> decide
   rw [if_neg hn.1,if_neg hn.2]
   dsimp only
   rw [if_pos h]
   have h1:=iha f 0 om
   have h2:=ihb f 0 om
   simp only [List.mem_append,List.mem_cons,not_or,List.not_mem_nil,or_false]
   exact ⟨ho,by decide,h1,by decide,by decide,h2,by decide⟩
theorem lin_p {m:LM}(h:m.Ok0):Lin (lineP m) m/\(10:UInt8)∉lineP m:=by
 have simple:lineP m=spJ (m.word::m.txt)->(∀ e,m≠ .fml e)->Lin (lineP m) m/\(10:UInt8)∉lineP m:=by
  intro he hne
  have hw:∀ x∈m.word::m.txt,Wd x:=fun x hx=>(List.mem_cons.1 hx).elim (fun e=>e ▸ m.word_wd) (txt_wd h x)
  refine ⟨?_,by rw [he];exact spJ_ten _ _ hw⟩
  have key:(splitB 32 (lineP m)).filter (fun w=> !decide (w=[]))=m.word::m.txt:=by
   rw [he,spJ_split _ _ hw,List.filter_eq_self]
   intro x hx
   have:=(hw x hx).1
   simp [this]
  cases m with
  | fml e=>exact absurd rfl (hne e)
  | _=>exact key
 cases m with
 | fml e =>
   obtain ⟨k,mm,hf,hk,hm⟩:=h
   refine ⟨⟨0,32::showF 12 0 e,rfl,fun c t e=>by cases e;rfl,?_⟩,?_⟩
   ·rw [lex_blank]
    have:=lex_show hf 12 0 hk [] stop_nil
    rw [List.append_nil,lex_nil,List.append_nil] at this
    exact this
   ·intro hmem
    rcases List.mem_append.1 (show (10:UInt8)∈(LM.fml e).word++32::showF 12 0 e from hmem) with h1|h1
    ·exact (LM.word_wd (.fml e)).2.2 h1
    ·rcases List.mem_cons.1 h1 with h1|h1
     ·cases h1
     ·exact show_ten hf 12 0 hk h1
 | _=>exact simple rfl (fun e he=>by cases he)
end Go.Proofs.T
namespace Go.Proofs.T
open Go Go.Ab
set_option maxRecDepth 100000
theorem app_app (a b:List LM) (T:Tn):appAll (a++b) T=appAll b (appAll a T):=List.foldl_append
theorem app_lots:∀ (l:List Lot) (T:Tn),(∀ x∈l,0<=x.id/\0<=x.most)->appAll (l.map fun l=>LM.lot l.id.toNat l.most.toNat) T={ T with lots:=T.lots++l }:=by
 intro l
 induction l with
 | nil=>intro T _;simp [appAll]
 | cons x l ih =>
   intro T h
   have hx:=h x (List.mem_cons_self ..)
   show appAll (l.map _) (LM.app (.lot x.id.toNat x.most.toNat) T)=_
   rw [ih _ fun y hy=>h y (List.mem_cons_of_mem _ hy)]
   show ({ T with lots:=T.lots++[⟨(x.id.toNat:Int),(x.most.toNat:Int)⟩]++l }:Tn)=_
   rw [Int.toNat_of_nonneg hx.1,Int.toNat_of_nonneg hx.2,List.append_assoc];rfl
theorem app_crits:∀ (l:List Crit) (T:Tn),(∀ x∈l,0<=x.kind/\0<=x.low/\0<=x.high)->appAll (l.map fun c=>LM.crit c.name c.kind.toNat c.low.toNat c.high.toNat c.less) T={ T with crits:=T.crits++l }:=by
 intro l
 induction l with
 | nil=>intro T _;simp [appAll]
 | cons x l ih =>
   intro T h
   have hx:=h x (List.mem_cons_self ..)
   show appAll (l.map _) (LM.app (.crit x.name x.kind.toNat x.low.toNat x.high.toNat x.less) T)=_
   rw [ih _ fun y hy=>h y (List.mem_cons_of_mem _ hy)]
   show ({ T with crits:=T.crits++[⟨x.name,(x.kind.toNat:Int),(x.low.toNat:Int),(x.high.toNat:Int),x.less⟩]++l }:Tn)=_
   rw [Int.toNat_of_nonneg hx.1,Int.toNat_of_nonneg hx.2.1,Int.toNat_of_nonneg hx.2.2,List.append_assoc];rfl
theorem app_reqs:∀ (l:List Req) (T:Tn),(∀ x∈l,0<=x.value)->appAll (l.map fun r=>LM.req r.name r.rel r.value.toNat) T={ T with reqs:=T.reqs++l }:=by
 intro l
 induction l with
 | nil=>intro T _;simp [appAll]
 | cons x l ih =>
   intro T h
   have hx:=h x (List.mem_cons_self ..)
   show appAll (l.map _) (LM.app (.req x.name x.rel x.value.toNat) T)=_
   rw [ih _ fun y hy=>h y (List.mem_cons_of_mem _ hy)]
   show ({ T with reqs:=T.reqs++[⟨x.name,x.rel,(x.value.toNat:Int)⟩]++l }:Tn)=_
   rw [Int.toNat_of_nonneg hx,List.append_assoc];rfl
theorem to_nat_back:∀ (l:List Int),(∀ n∈l,0<=n)->(l.map Int.toNat).map (fun n:Nat=>(n:Int))=l:=by
 intro l h
 rw [List.map_map]
 conv=>rhs;rw [<- List.map_id l]
 exact List.map_congr_left fun n hn=>Int.toNat_of_nonneg (h n hn)
theorem app_combos:∀ (l:List (List Int)) (T:Tn),(∀ c∈l,∀ n∈c,0<=n)->appAll (l.map fun c=>LM.combo (c.map Int.toNat)) T={ T with combos:=T.combos++l }:=by
 intro l
 induction l with
 | nil=>intro T _;simp [appAll]
 | cons x l ih =>
   intro T h
   have hx:=h x (List.mem_cons_self ..)
   show appAll (l.map _) (LM.app (.combo (x.map Int.toNat)) T)=_
   rw [ih _ fun y hy=>h y (List.mem_cons_of_mem _ hy)]
   show ({ T with combos:=T.combos++[(x.map Int.toNat).map (fun n:Nat=>(n:Int))]++l }:Tn)=_
   rw [to_nat_back x hx,List.append_assoc];rfl
theorem app_lm {T:Tn}(h:RightT T):appAll (lmOf T) T0=T:=by
 obtain ⟨t1,t2,t3,t4,t5⟩:=h.t
 unfold lmOf
 show appAll _ (LM.app (.tender T.name) T0)=_
 rw [app_app,app_lots _ _ fun x hx=>by have:=h.lot x hx;exact ⟨om,this.2.2.1⟩]
 rw [app_app,app_crits _ _ fun x hx=>by
  obtain ⟨-,h2,h3,h4⟩:=h.crit x hx
  exact ⟨by rcases h2 with h2|h2 <;> omega,h3.1,h4.1⟩]
 rw [app_app,app_reqs _ _ fun x hx=>(h.req x hx).2.2.1]
 show appAll _ (LM.app (.fml T.f) (LM.app (.price T.low.toNat T.high.toNat) _))=_
 rw [app_app,app_app,app_app,app_combos _ _ fun c hc n hn=>by have:=(h.combo c hc).2.2.2 n hn;omega]
 have e1:∀ U:Tn,U.ties=[]->appAll (if T.ties=[] then [] else [.tie T.ties]) U={ U with ties:=T.ties }:=by
  intro U hU
  split
  ·rename_i h0;rw [h0];cases U;cases hU;rfl
  ·rfl
 have e2:∀ U:Tn,U.most=0->appAll (if T.most=0 then [] else [.most T.most.toNat]) U={ U with most:=T.most }:=by
  intro U hU
  split
  ·rename_i h0;rw [h0];cases U;cases hU;rfl
  ·show ({ U with most:=(T.most.toNat:Int) }:Tn)=_
   rw [Int.toNat_of_nonneg h.most.1]
 rw [e1 _ rfl,e2 _ rfl]
 show LM.app (.times T.t.q.toNat T.t.b.toNat T.t.g.toNat T.t.p.toNat T.t.s.toNat) (LM.app (.budget T.budget.toNat) _)=_
 show (⟨T.name,[]++T.lots,[]++T.crits,[]++T.reqs,(T.low.toNat:Int),(T.high.toNat:Int),T.f,T.ties,T.most,[]++T.combos,(T.budget.toNat:Int),⟨(T.t.q.toNat:Int),(T.t.b.toNat:Int),(T.t.g.toNat:Int),(T.t.p.toNat:Int),(T.t.s.toNat:Int)⟩⟩:Tn)=T
 rw [Int.toNat_of_nonneg h.low.1,Int.toNat_of_nonneg h.high.1,Int.toNat_of_nonneg h.budget.1,Int.toNat_of_nonneg t1.1,Int.toNat_of_nonneg t2.1,Int.toNat_of_nonneg t3.1,Int.toNat_of_nonneg t4.1,Int.toNat_of_nonneg t5.1]
 rfl
theorem in9 {n:Int}(h:In9 n):Le9 n.toNat:=by obtain ⟨h1,h2⟩:=h;unfold Le9;omega
theorem fm_map_none {α β:Type}{f:LM->Option β}{g:α->LM}{l:List α}(h:∀ x,f (g x)=none):(l.map g).filterMap f=[]:=by
 rw [List.filterMap_map,List.filterMap_eq_nil_iff]
 intro x _;exact h x
theorem fm_map_some {α β:Type}{f:LM->Option β}{g:α->LM}{v:α->β}(h:∀ x,f (g x)=some (v x)):∀ {l:List α},(l.map g).filterMap f=l.map v:=by
 intro l
 induction l with
 | nil=>rfl
 | cons x l ih=>rw [List.map_cons,List.filterMap_cons,h x,ih];rfl
theorem fm_ite {β:Type}{f:LM->Option β}{p:Prop} [Decidable p] {m:LM}(h:f m=none):(if p then [] else [m]).filterMap f=[]:=by
 split
 ·rfl
 ·simp [h]
theorem nodup_toNat:∀ {l:List Int},(∀ n∈l,0<=n)->l.Nodup->(l.map Int.toNat).Nodup:=by
 intro l
 induction l with
 | nil=>intro _ _;exact List.nodup_nil
 | cons x l ih =>
   intro h hn
   rw [List.map_cons,List.nodup_cons]
   rw [List.nodup_cons] at hn
   refine ⟨fun hm=>?_,ih (fun n hm=>h n (List.mem_cons_of_mem _ hm)) hn.2⟩
   obtain ⟨y,hy1,hy2⟩:=List.mem_map.1 hm
   have h1:=h x (List.mem_cons_self ..)
   have h2:=h y (List.mem_cons_of_mem _ hy1)
   have:y=x:=om
   subst this
   exact hn.1 hy1
def LM.rk:LM->Nat
 | .tender _=>0
 | .lot .. =>1
 | .crit .. =>2
 | .req .. =>3
 | .price .. =>4
 | .fml _=>5
 | .tie _=>6
 | .most _=>7
 | .combo _=>8
 | .budget _=>9
 | .times .. =>10
theorem word_rk {a b:LM}(h:a.word=b.word):a.rk=b.rk:=by
 cases a <;> cases b <;> first|rfl|(simp [LM.word] at h)
def LB (k:Nat) (l:List LM):Prop:=∀ b∈l,k<=b.rk
def PW (l:List LM):Prop:=l.Pairwise fun a b=>a.word=b.word->a.once=false
theorem lb_nil {k:Nat}:LB k []:=fun b h=>by cases h
theorem LB.mono {k j:Nat}{l:List LM}(h:LB k l) (hk:j<=k):LB j l:=fun b hb=>Nat.le_trans hk (h b hb)
theorem lb_cons {k:Nat}{m:LM}{l:List LM}(h:k<=m.rk) (hl:LB k l):LB k (m::l):=fun b hb=>(List.mem_cons.1 hb).elim (fun e=>e ▸ h) (hl b)
theorem lb_map {α:Type}{k:Nat}{g:α->LM}{s:List α}{l:List LM}(h:∀ x,k<=(g x).rk) (hl:LB k l):LB k (s.map g++l):=fun b hb =>
 (List.mem_append.1 hb).elim (fun e=>by obtain ⟨x,-,rfl⟩:=List.mem_map.1 e;exact h x) (hl b)
theorem lb_ite {k:Nat}{p:Prop} [Decidable p] {m:LM}{l:List LM}(h:k<=m.rk) (hl:LB k l):LB k ((if p then [] else [m])++l):=by
 split
 ·exact hl
 ·exact lb_cons h hl
theorem pw_cons {k:Nat}{m:LM}{l:List LM}(h:m.rk<k) (hl:LB k l) (hp:PW l):PW (m::l) :=
 List.pairwise_cons.2 ⟨fun b hb hw=>by have:=word_rk hw;have:=hl b hb;omega,hp⟩
theorem pw_map {α:Type}{g:α->LM}{s:List α}{l:List LM}(h:∀ x,(g x).once=false) (hp:PW l):PW (s.map g++l):=by
 induction s with
 | nil=>exact hp
 | cons x s ih=>exact List.pairwise_cons.2 ⟨fun _ _ _=>h x,ih⟩
theorem pw_ite {k:Nat}{p:Prop} [Decidable p] {m:LM}{l:List LM}(h:m.rk<k) (hl:LB k l) (hp:PW l):PW ((if p then [] else [m])++l):=by
 split
 ·exact hp
 ·exact pw_cons h hl hp
theorem good_lm {T:Tn}(h:RightT T):GoodL (lmOf T):=by
 have eid:(lmOf T).filterMap idOf=(T.lots.map Lot.id).map Int.toNat:=by
  unfold lmOf
  simp only [List.filterMap_cons,List.filterMap_append,List.filterMap_nil,idOf]
  rw [fm_map_some (v:=fun l:Lot=>l.id.toNat) (fun x=>rfl),fm_map_none (fun x=>rfl),fm_map_none (fun x=>rfl),fm_ite rfl,fm_ite rfl,fm_map_none (fun x=>rfl)]
  simp [List.map_map]
 have ecr:(lmOf T).filterMap crOf=T.crits.map Crit.name:=by
  unfold lmOf
  simp only [List.filterMap_cons,List.filterMap_append,List.filterMap_nil,crOf]
  rw [fm_map_none (fun x=>rfl),fm_map_some (v:=Crit.name) (fun x=>rfl),fm_map_none (fun x=>rfl),fm_ite rfl,fm_ite rfl,fm_map_none (fun x=>rfl)]
  simp
 have erq:(lmOf T).filterMap rqOf=T.reqs.map fun _=>():=by
  unfold lmOf
  simp only [List.filterMap_cons,List.filterMap_append,List.filterMap_nil,rqOf]
  rw [fm_map_none (fun x=>rfl),fm_map_none (fun x=>rfl),fm_map_some (v:=fun _:Req=>()) (fun x=>rfl),fm_ite rfl,fm_ite rfl,fm_map_none (fun x=>rfl)]
  simp
 have eco:(lmOf T).filterMap coOf=T.combos.map fun _=>():=by
  unfold lmOf
  simp only [List.filterMap_cons,List.filterMap_append,List.filterMap_nil,coOf]
  rw [fm_map_none (fun x=>rfl),fm_map_none (fun x=>rfl),fm_map_none (fun x=>rfl),fm_ite rfl,fm_ite rfl,fm_map_some (v:=fun _:List Int=>()) (fun x=>rfl)]
  simp
 obtain ⟨t1,t2,t3,t4,t5⟩:=h.t
 refine ⟨?_,?_,by rw [eid];simpa using h.lots,by rw [ecr];exact h.crs,by rw [ecr];simpa using h.crits,by rw [erq];simpa using h.reqs,by rw [eco];simpa using h.combos,?_⟩
 ·intro m hm
  unfold lmOf at hm
  simp only [List.mem_cons,List.mem_append,List.mem_map,List.not_mem_nil,or_false] at hm
  rcases hm with rfl|⟨x,hx,rfl⟩|⟨x,hx,rfl⟩|⟨x,hx,rfl⟩|rfl|rfl|hm|hm|⟨x,hx,rfl⟩|rfl|rfl
  ·exact h.name
  ·obtain ⟨q1,q2,q3⟩:=h.lot x hx
   exact ⟨om,by unfold Le9;omega,in9 q3⟩
  ·obtain ⟨q1,q2,q3,q4⟩:=h.crit x hx
   exact ⟨q1,om,in9 q3,in9 q4⟩
  ·obtain ⟨q1,q2,q3⟩:=h.req x hx
   exact ⟨q1,q2,in9 q3⟩
  ·exact ⟨in9 h.low,in9 h.high⟩
  ·exact h.f
  ·split at hm
   ·cases hm
   ·rename_i hne
    rw [List.mem_singleton] at hm;subst hm
    exact ⟨hne,h.tie,h.tnd,h.ties⟩
  ·split at hm
   ·cases hm
   ·rw [List.mem_singleton] at hm;subst hm
    exact in9 h.most
  ·obtain ⟨q1,q2,q3,q4⟩:=h.combo x hx
   refine ⟨by simpa using q1,fun n hn=>?_,nodup_toNat (fun n hn=>by have:=q4 n hn;omega) q3,by simpa using q2⟩
   obtain ⟨y,hy,rfl⟩:=List.mem_map.1 hn
   have:=q4 y hy
   omega
  ·exact in9 h.budget
  ·exact ⟨in9 t1,in9 t2,in9 t3,in9 t4,in9 t5⟩
 ·rw [eid]
  exact nodup_toNat (fun n hn=>by obtain ⟨x,hx,rfl⟩:=List.mem_map.1 hn;have:=h.lot x hx;omega) h.ids
 ·unfold lmOf
  have l9:LB 9 [.budget T.budget.toNat,.times T.t.q.toNat T.t.b.toNat T.t.g.toNat T.t.p.toNat T.t.s.toNat]:=lb_cons (Nat.le_of_ble_eq_true rfl) (lb_cons (Nat.le_of_ble_eq_true rfl) lb_nil)
  have w9:PW [.budget T.budget.toNat,.times T.t.q.toNat T.t.b.toNat T.t.g.toNat T.t.p.toNat T.t.s.toNat]:=pw_cons (Nat.le_of_ble_eq_true rfl) (lb_cons (k:=10) (Nat.le_of_ble_eq_true rfl) lb_nil) (pw_cons (k:=11) (Nat.le_of_ble_eq_true rfl) lb_nil List.Pairwise.nil)
  have l8:=lb_map (k:=8) (g:=fun c:List Int=>LM.combo (c.map Int.toNat)) (s:=T.combos) (fun _=>Nat.le_of_ble_eq_true rfl) (l9.mono om)
  have w8:=pw_map (g:=fun c:List Int=>LM.combo (c.map Int.toNat)) (s:=T.combos) (fun _=>rfl) w9
  have l7:=lb_ite (k:=7) (p:=T.most=0) (m:= .most T.most.toNat) (Nat.le_of_ble_eq_true rfl) (l8.mono om)
  have w7:=pw_ite (p:=T.most=0) (m:= .most T.most.toNat) (Nat.le_of_ble_eq_true rfl) l8 w8
  have l6:=lb_ite (k:=6) (p:=T.ties=[]) (m:= .tie T.ties) (Nat.le_of_ble_eq_true rfl) (l7.mono om)
  have w6:=pw_ite (p:=T.ties=[]) (m:= .tie T.ties) (Nat.le_of_ble_eq_true rfl) l7 w7
  have l5:=lb_cons (m:= .fml T.f) (k:=5) (Nat.le_of_ble_eq_true rfl) (l6.mono om)
  have w5:=pw_cons (m:= .fml T.f) (Nat.le_of_ble_eq_true rfl) l6 w6
  have l4:=lb_cons (m:= .price T.low.toNat T.high.toNat) (k:=4) (Nat.le_of_ble_eq_true rfl) (l5.mono om)
  have w4:=pw_cons (m:= .price T.low.toNat T.high.toNat) (Nat.le_of_ble_eq_true rfl) l5 w5
  have l3:=lb_map (k:=3) (g:=fun r:Req=>LM.req r.name r.rel r.value.toNat) (s:=T.reqs) (fun _=>Nat.le_of_ble_eq_true rfl) (l4.mono om)
  have w3:=pw_map (g:=fun r:Req=>LM.req r.name r.rel r.value.toNat) (s:=T.reqs) (fun _=>rfl) w4
  have l2:=lb_map (k:=2) (g:=fun c:Crit=>LM.crit c.name c.kind.toNat c.low.toNat c.high.toNat c.less) (s:=T.crits) (fun _=>Nat.le_of_ble_eq_true rfl) (l3.mono om)
  have w2:=pw_map (g:=fun c:Crit=>LM.crit c.name c.kind.toNat c.low.toNat c.high.toNat c.less) (s:=T.crits) (fun _=>rfl) w3
  have l1:=lb_map (k:=1) (g:=fun l:Lot=>LM.lot l.id.toNat l.most.toNat) (s:=T.lots) (fun _=>Nat.le_of_ble_eq_true rfl) (l2.mono om)
  have w1:=pw_map (g:=fun l:Lot=>LM.lot l.id.toNat l.most.toNat) (s:=T.lots) (fun _=>rfl) w2
  exact pw_cons (m:= .tender T.name) (Nat.le_of_ble_eq_true rfl) l1 w1
theorem six_lm {T:Tn}(h:RightT T):∀ w∈six,∃ m∈lmOf T,m.word=w:=by
 intro w hw
 unfold six at hw
 simp only [List.mem_cons,List.not_mem_nil,or_false] at hw
 unfold lmOf
 rcases hw with rfl|rfl|rfl|rfl|rfl|rfl
 ·exact ⟨.tender T.name,by simp,rfl⟩
 ·obtain ⟨l,hl⟩:=List.exists_mem_of_ne_nil _ h.lot0
  exact ⟨.lot l.id.toNat l.most.toNat,by simp;exact ⟨l,hl,rfl,rfl⟩,rfl⟩
 ·exact ⟨.price T.low.toNat T.high.toNat,by simp,rfl⟩
 ·exact ⟨.fml T.f,by simp,rfl⟩
 ·exact ⟨.budget T.budget.toNat,by simp,rfl⟩
 ·exact ⟨.times T.t.q.toNat T.t.b.toNat T.t.g.toNat T.t.p.toNat T.t.s.toNat,by simp,rfl⟩
theorem lin_all:∀ {ms:List LM},(∀ m∈ms,m.Ok0)->All2 Lin (ms.map lineP) ms/\∀ l∈ms.map lineP,(10:UInt8)∉l:=by
 intro ms
 induction ms with
 | nil=>intro _;exact ⟨trivial,fun l hl=>by cases hl⟩
 | cons m ms ih =>
   intro h
   obtain ⟨h1,h2⟩:=ih fun x hx=>h x (List.mem_cons_of_mem _ hx)
   obtain ⟨h3,h4⟩:=lin_p (h m (List.mem_cons_self ..))
   refine ⟨⟨h3,h1⟩,fun l hl=>?_⟩
   rcases List.mem_cons.1 hl with rfl|hl
   ·exact h4
   ·exact h2 l hl
theorem parse_print {T:Tn}(h:RightT T):parseS (printT T)= .ok T:=by
 have hg:=good_lm h
 obtain ⟨h1,h2⟩:=lin_all hg.each
 have:=parse_under hg h1 h2 (six_lm h)
 rw [app_lm h] at this
 exact this
end Go.Proofs.T
namespace Go.Proofs.T
open Go Go.Ab
set_option maxRecDepth 100000
end Go.Proofs.T
