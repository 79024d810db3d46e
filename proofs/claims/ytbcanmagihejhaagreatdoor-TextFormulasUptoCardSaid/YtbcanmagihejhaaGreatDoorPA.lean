/- What a line says, and that it is read so. -/
import Derived.Test.YtbcanmagihejhaaGreatDoorRB
set_option linter.unusedSimpArgs false
set_option linter.unusedVariables false
namespace Go.Proofs.T
open Go Go.Ab
set_option maxRecDepth 100000
inductive LM where
 | tender (w:By)
 | lot (a b:Nat)
 | crit (w:By) (kd lo hi:Nat) (less:Bool)
 | req (w r:By) (n:Nat)
 | price (a b:Nat)
 | fml (e:Ex)
 | tie (ts:List By)
 | most (n:Nat)
 | combo (cs:List Nat)
 | budget (n:Nat)
 | times (a b c d e:Nat)
def LM.word:LM->By
 | .tender _=>[116,101,110,100,101,114]
 | .lot .. =>[108,111,116]
 | .crit .. =>[99,114,105,116,101,114,105,111,110]
 | .req .. =>[114,101,113,117,105,114,101]
 | .price .. =>[112,114,105,99,101]
 | .fml _=>[102,111,114,109,117,108,97]
 | .tie _=>[116,105,101]
 | .most _=>[109,111,115,116]
 | .combo _=>[99,111,109,98,111]
 | .budget _=>[98,117,100,103,101,116]
 | .times .. =>[116,105,109,101,115]
def LM.txt:LM->List By
 | .tender w=>[w]
 | .lot a b=>[dcN a,mostW,dcN b]
 | .crit w kd lo hi less=>[w,if kd=2 then offerB else gradeB,dcN lo,dcN hi]++if less=true then [lessB] else []
 | .req w r n=>[w,r,dcN n]
 | .price a b=>[dcN a,dcN b]
 | .fml _=>[]
 | .tie ts=>ts
 | .most n=>[dcN n]
 | .combo cs=>cs.map dcN
 | .budget n=>[dcN n]
 | .times a b c d e=>[dcN a,dcN b,dcN c,dcN d,dcN e]
def LM.app:LM->Tn->Tn
 | .tender w,T=>{ T with name:=w }
 | .lot a b,T=>{ T with lots:=T.lots++[⟨a,b⟩] }
 | .crit w kd lo hi less,T=>{ T with crits:=T.crits++[⟨w,kd,lo,hi,less⟩] }
 | .req w r n,T=>{ T with reqs:=T.reqs++[⟨w,r,n⟩] }
 | .price a b,T=>{ T with low:=a,high:=b }
 | .fml e,T=>{ T with f:=e }
 | .tie ts,T=>{ T with ties:=ts }
 | .most n,T=>{ T with most:=n }
 | .combo cs,T=>{ T with combos:=T.combos++[cs.map (fun n:Nat=>(n:Int))] }
 | .budget n,T=>{ T with budget:=n }
 | .times a b c d e,T=>{ T with t:=⟨a,b,c,d,e⟩ }
def Le9 (n:Nat):Prop:=n<=1000000000
def LM.once:LM->Bool
 | .lot .. =>false
 | .crit .. =>false
 | .req .. =>false
 | .combo _=>false
 | _=>true
end Go.Proofs.T
namespace Go.Proofs.T
open Go Go.Ab
set_option maxRecDepth 100000
def LM.Ok0:LM->Prop
 | .tender w=>nameB w=true
 | .lot a b=>1<=a/\Le9 a/\Le9 b
 | .crit w kd lo hi _=>wordB w=true/\(kd=1\/kd=2)/\Le9 lo/\Le9 hi
 | .req w r n=>wordB w=true/\([[60,61],[62,61]]:List By).contains r=true/\Le9 n
 | .price a b=>Le9 a/\Le9 b
 | .fml e=>∃ k m,FW k m e/\k<=12/\m<=60
 | .tie ts=>ts≠[]/\(∀ w∈ts,(w=priceB\/wordB w=true))/\ts.Nodup/\ts.length<=12
 | .most n=>Le9 n
 | .combo cs=>2<=cs.length/\(∀ n∈cs,1<=n/\n<=1000000000)/\cs.Nodup/\cs.length<=12
 | .budget n=>Le9 n
 | .times a b c d e=>Le9 a/\Le9 b/\Le9 c/\Le9 d/\Le9 e
def idOf:LM->Option Nat
 | .lot a _=>some a
 | _=>none
def crOf:LM->Option By
 | .crit w .. =>some w
 | _=>none
def rqOf:LM->Option Unit
 | .req .. =>some ()
 | _=>none
def coOf:LM->Option Unit
 | .combo _=>some ()
 | _=>none
structure GoodL (ms:List LM):Prop where
 each:∀ m∈ms,m.Ok0
 ids:(ms.filterMap idOf).Nodup
 lots:(ms.filterMap idOf).length<=12
 crs:(ms.filterMap crOf).Nodup
 crits:(ms.filterMap crOf).length<=12
 reqs:(ms.filterMap rqOf).length<=24
 combos:(ms.filterMap coOf).length<=12
 once:ms.Pairwise fun a b=>a.word=b.word->a.once=false
theorem GoodL.sub {ms ns:List LM}(h:GoodL ms) (hs:ns.Sublist ms):GoodL ns where
 each:=fun m hm=>h.each m (hs.subset hm)
 ids:=h.ids.sublist (hs.filterMap idOf)
 lots:=Nat.le_trans (hs.filterMap idOf).length_le h.lots
 crs:=h.crs.sublist (hs.filterMap crOf)
 crits:=Nat.le_trans (hs.filterMap crOf).length_le h.crits
 reqs:=Nat.le_trans (hs.filterMap rqOf).length_le h.reqs
 combos:=Nat.le_trans (hs.filterMap coOf).length_le h.combos
 once:=h.once.sublist hs
structure Made (ms:List LM) (T:Tn):Prop where
 lots:T.lots.map Lot.id=(ms.filterMap idOf).map fun n:Nat=>(n:Int)
 crits:T.crits.map Crit.name=ms.filterMap crOf
 reqs:T.reqs.length=(ms.filterMap rqOf).length
 combos:T.combos.length=(ms.filterMap coOf).length
 ties:(∀ ts,LM.tie ts∉ms)->T.ties=[]
theorem Made.snoc {ms:List LM}{T:Tn}{m:LM}(h:Made ms T):Made (ms++[m]) (m.app T):=by
 obtain ⟨h1,h2,h3,h4,h5⟩:=h
 have h5':(∀ ts,LM.tie ts∉ms++[m])->T.ties=[]:=fun hn=>h5 fun ts hm=>hn ts (by simp [hm])
 cases m <;> (refine ⟨?_,?_,?_,?_,?_⟩ <;> first|(simpa [LM.app,List.filterMap_append,idOf,crOf,rqOf,coOf] using by assumption)|exact h5'|skip)
 all_goals first
  | (simp [LM.app,List.filterMap_append,idOf,crOf,rqOf,coOf,h1,h2,h3,h4];done)
  | (intro hn;exact absurd (List.mem_append.2 (.inr (List.mem_singleton.2 rfl))) (hn _))
def under (ls:List By):By:=(ls.map fun l=>l++[10]).flatten
end Go.Proofs.T
namespace Go.Proofs.T
open Go Go.Ab
set_option maxRecDepth 100000
def spJ:List By->By
 | []=>[]
 | [w]=>w
 | w::ws=>w++32::spJ ws
def lineP:LM->By
 | .fml e=>(LM.fml e).word++32::showF 12 0 e
 | m=>spJ (m.word::m.txt)
def In9 (n:Int):Prop:=0<=n/\n<=1000000000
structure RightT (T:Tn):Prop where
 name:nameB T.name=true
 lots:T.lots.length<=12
 lot0:T.lots≠[]
 lot:∀ l∈T.lots,1<=l.id/\l.id<=1000000000/\In9 l.most
 ids:(T.lots.map Lot.id).Nodup
 crits:T.crits.length<=12
 crit:∀ c∈T.crits,wordB c.name=true/\(c.kind=1\/c.kind=2)/\In9 c.low/\In9 c.high
 crs:(T.crits.map Crit.name).Nodup
 reqs:T.reqs.length<=24
 req:∀ r∈T.reqs,wordB r.name=true/\([[60,61],[62,61]]:List By).contains r.rel=true/\In9 r.value
 low:In9 T.low
 high:In9 T.high
 f:∃ k m,FW k m T.f/\k<=12/\m<=60
 ties:T.ties.length<=12
 tie:∀ w∈T.ties,(w=priceB\/wordB w=true)
 tnd:T.ties.Nodup
 most:In9 T.most
 combos:T.combos.length<=12
 combo:∀ c∈T.combos,2<=c.length/\c.length<=12/\c.Nodup/\∀ n∈c,1<=n/\n<=1000000000
 budget:In9 T.budget
 t:In9 T.t.q/\In9 T.t.b/\In9 T.t.g/\In9 T.t.p/\In9 T.t.s
end Go.Proofs.T
namespace Go.Proofs.T
open Go Go.Ab
set_option maxRecDepth 100000
def LM.rk:LM->Nat
 | .tender _=>0
 | .lot .. =>1
 | .crit .. =>2
 | .req .. =>3
 | .price .. =>4
 | .fml _=>5
 | .tie _=>6
 | .most _=>7
 | .combo _=>8
 | .budget _=>9
 | .times .. =>10
def LB (k:Nat) (l:List LM):Prop:=∀ b∈l,k<=b.rk
theorem LB.mono {k j:Nat}{l:List LM}(h:LB k l) (hk:j<=k):LB j l:=fun b hb=>Nat.le_trans hk (h b hb)
end Go.Proofs.T
namespace Go.Proofs.T
open Go Go.Ab
set_option maxRecDepth 100000
end Go.Proofs.T
