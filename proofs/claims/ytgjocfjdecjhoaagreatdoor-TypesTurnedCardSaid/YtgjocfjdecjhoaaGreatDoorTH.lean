/- Ak1 with keys that are texts; the kinds of lines. -/
import Derived.Test.YtgjocfjdecjhoaaGreatDoorTF
set_option linter.unusedSimpArgs false
set_option linter.unusedVariables false
set_option linter.defProp false
set_option maxHeartbeats 32000000
set_option maxRecDepth 100000
namespace Go.Proofs.T
open Go Go.Ab
section
variable {w k:By}{v:Value}{l:List (By×Value)}{cs:List Value}{fr:Fr}
def JY (kv:List (By×Value)):List Value:=(kv.map fun p=>[str p.1,p.2]).flatten
def EV (w:By):List (By×Value)->Option Value
 | []=>none
 | (k,v)::l=>if w=k then some v else EV w l
def aE (w:By) (x:Value):List (By×Value)->List (By×Value)
 | []=>[(w,x)]
 | (k,v)::l=>if w=k then(w,x)::l else(k,v)::aE w x l
def Ub {a b:By}:Kz (str a) (str b)=some (decide (a=b)):=by
 show some (Li a b)=_;rw[Rr];congr 1;rw[z7z];simp
def aF:EV w ((k,v)::l)=if w=k then some v else EV w l:=rfl
def eS {x:Value}:aE w x ((k,v)::l)=if w=k then(w,x)::l else(k,v)::aE w x l:=rfl
def iU {w:By}:∀ kv:List (By×Value),PS (str w) (JY kv)=some (EV w kv)
 | []=>rfl
 | (k,v)::l=>by
   show ob (Kz (str w) (str k)) (fun s=>bi s (some (some v)) (PS (str w) (JY l)))=_;rw[Ub,D4,iU l];rw[aF];by_cases h:w=k
   ·rw[z1z h,Be h];rfl
   ·rw[z0z h,z4z h];rfl
def iV {w:By}{x:Value}:∀ kv:List (By×Value),Mw (str w) x (JY kv)=some (JY (aE w x kv))
 | []=>rfl
 | (k,v)::l=>by
   show ob (Kz (str w) (str k)) (fun s=>bi s (some (str w::x::JY l)) (ob (Mw (str w) x (JY l)) fun r=>some (str k::v::r)))=_;rw[Ub,D4,iV l];rw[eS];by_cases h:w=k
   ·rw[z1z h,Be h];rfl
   ·rw[z0z h,z4z h];rfl
def JX (Z:St) (b:Nat) (kv:List (By×Value)):Prop:=∃ ver,Z.h.get b=some ⟨JY kv,true,true,ver,.map⟩
noncomputable def PK (Z:St) (b:Nat) (cs:List Value):St:=⟨Z.h.set b ⟨cs,true,true,(Z.ver b)+1,.map⟩,Z.n⟩
section
variable {Z Z':St}{b:Nat}{kv:List (By×Value)}
def JX.ext (h:JX Z b kv) (hb:b<Z.n) (hE:Ext Z Z'):JX Z' b kv:=let ⟨v,h⟩:=h;⟨v,by rw[hE.same b hb];exact h⟩
@[simp] theorem BA7 {cs:List Value}:(PK Z b cs).n=Z.n:=rfl
theorem KI {kv':List (By×Value)}:JX (PK Z b (JY kv')) b kv':=⟨_,Tr.get_set_same _ _ _⟩
def sq {c:Nat}(h:c≠b):(PK Z b cs).h.get c=Z.h.get c:=Tr.L7 _ _ h
def vS:JX (Z.Dd [] .map) Z.n []:=⟨0,Tr.get_set_same _ _ _⟩
def jO {Z0:St}(h:Ext Z0 Z) (hb:Z0.n<=b):Ext Z0 (PK Z b cs):=⟨h.n,fun c hc=>by rw[sq om];exact h.same c hc⟩
def JX.blk (h:JX Z b kv):∃ ver,Z.Ss b=some ⟨JY kv,true,true,ver,.map⟩/\ver=Z.ver b:=by
 obtain⟨v,h⟩:=h;refine⟨v,?_,?_⟩
 ·show ob (ob (Z.h.get b) _) _=_;rw[h];rfl
 ·unfold St.ver;rw[h]
def GX {P:Program}{fr:Fr}{t kt et:TypeId}{m k x:Operand}{w:By}{xv:Value}{Q:Value×St->Prop}{uq:Hd Q}(hT:Iw P t=some (kt,et)) (hK:∀ s,DI (P.underlying kt) (str s)=true)
  (hm:ev fr m=some (.map (some b))) (hk:ev fr k=some (str w)) (hx:ev fr x=some xv) (hB:JX Z b kv) (h:Q (P9,PK Z b (JY (aE w xv kv)))):Ev (Bb P fr Z t m k x) Q uq:=by
 obtain⟨ver,h1,h2⟩:=hB.blk;refine⟨_,?_,h⟩;unfold Bb;rw[hT,D4,Jv,hm,D4];show ob (some (some b)) _=_;rw[D4,D4,hk,D4,hK,Ax,hx,D4,h1,D4,iV,D4];show ob (ob (Z.Ss b) _) _=_;rw[h1];subst h2;rfl
def KZ {P:Program}{fr:Fr}{t kt et:TypeId}{m k:Operand}{w:By}{z:Value}{ok:Bool}{Q:Value×St->Prop}{uq:Hd Q}(hT:Iw P t=some (kt,et)) (hK:∀ s,DI (P.underlying kt) (str s)=true) (hz:BJ P et=some z)
  (hm:ev fr m=some (.map (some b))) (hk:ev fr k=some (str w)) (hB:JX Z b kv)
  (h:Q (bi ok (.tuple ⟨[(EV w kv).getD z,.bool (EV w kv).isSome]⟩) ((EV w kv).getD z),Z)):Ev (GO P fr Z t m k ok) Q uq:=by
 obtain⟨ver,h1,h2⟩:=hB.blk;refine⟨_,?_,h⟩;unfold GO;rw[hT,D4,Jv,hm,D4];show ob (some (some b)) _=_;rw[D4,hk,D4,hK,Ax];show ob (ob (Z.Ss b) _) _=_;rw[h1,D4,D4];show ob (PS (str w) (JY kv)) _=_;rw[iU,D4];cases EV w kv with
 |none=>show ob (ob (BJ P et) _) _=_;rw[hz];rfl
 |some v=>rfl
end
def PJ (s:By):DI ((Tryz.prog).underlying 9) (str s)=true:=kR
def AK1:ev fr (.const (.map none))=some (.map none):=rfl
def emk {Z:St}:Fg fr Z none=some (.map (some Z.n),Z.Dd [] .map):=rfl
end
structure KS where
 once:Bool
 full:Tn->Bool
 rd:List Tok->By->Nat->Tn->Nat->Except Er (Tn×Nat)
section
variable {Z ZL:St}{bt bx:Nat}{T:Tn}{tv:Value}{D7:List Tok}{k:Nat}{N3:List Value}{v:Nat->Value}{fc vs:List Value}
end
structure Fits (T:Tn):Prop where
 u9:T.u9.length<=100000
 G9:T.G9.length<=100000
 reqs:T.reqs.length<=100000
 AJ:T.AJ.length<=100000
 J9:T.J9.length<=100000
def AB6 (bt:Nat) (v:Nat->Value):List Nat:=List.range bt++bt::(Sk (v 0)++Sk (v 1)++Sk (v 2)++Sk (v 3)++Sk (v 4))
structure Tp (ZL Z:St) (bt:Nat) (T:Tn) (v:Nat->Value) (fc vs:List Value):Prop where
 ext:J7 bt ZL Z
 btl:bt<ZL.n
 row:Z.A7 bt=some (tnR T v fc)
 sl:∀ i,i<5->OL ZL.n Z (szT i) (v i) (AB7 T vs i)
 dis:∀ i j c,i<5->j<5->i≠j->N0 (v i)=some c->N0 (v j)≠some c
 fx:P6 (M8 Z (AB6 bt v)) fc T.f
 iv:MF (PC (M8 Z (AB6 bt v))) vs T.J9
section
variable {ZL Z Z':St}{bt bx:Nat}{T:Tn}{tv:Value}{D7:List Tok}{k:Nat}{N3:List Value}{v:Nat->Value}{fc vs:List Value}
end
def T0:Tn:=⟨[],[],[],[],0,0,.mk [] 0 0 [] [],[],0,[],0,⟨0,0,0,0,0⟩⟩
structure BM3 (n:Nat) (T:Tn):Prop where
 u9:T.u9.length<=n
 G9:T.G9.length<=n
 reqs:T.reqs.length<=n
 AJ:T.AJ.length<=n
 J9:T.J9.length<=n
end Go.Proofs.T
