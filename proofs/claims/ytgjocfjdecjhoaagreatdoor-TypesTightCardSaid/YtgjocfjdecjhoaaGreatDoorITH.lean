/- At1 with keys that are texts; the kinds of lines. -/
import Derived.Test.YtgjocfjdecjhoaaGreatDoorITF
set_option linter.unusedSimpArgs false
set_option linter.unusedVariables false
set_option linter.defProp false
set_option maxHeartbeats 32000000
set_option maxRecDepth 100000
namespace Go.Proofs.T
open Go Go.Ab
section
variable {w k:By}{v:Value}{l:List (By×Value)}{cs:List Value}{fr:Fr}
def KC (kv:List (By×Value)):List Value:=(kv.map fun p=>[str p.1,p.2]).flatten
def FA (w:By):List (By×Value)->Option Value
 | []=>none
 | (k,v)::l=>if w=k then some v else FA w l
def bf (w:By) (x:Value):List (By×Value)->List (By×Value)
 | []=>[(w,x)]
 | (k,v)::l=>if w=k then(w,x)::l else(k,v)::bf w x l
def Vn {a b:By}:Lj (str a) (str b)=some (decide (a=b)):=by
 show some (MN a b)=_;rw[TG];congr 1;rw[z7z];simp
def bg:FA w ((k,v)::l)=if w=k then some v else FA w l:=rfl
def gA {x:Value}:bf w x ((k,v)::l)=if w=k then(w,x)::l else(k,v)::bf w x l:=rfl
def ju {w:By}:∀ kv:List (By×Value),QP (str w) (KC kv)=some (FA w kv)
 | []=>rfl
 | (k,v)::l=>by
   show ob (Lj (str w) (str k)) (fun s=>bi s (some (some v)) (QP (str w) (KC l)))=_;rw[Vn,D5,ju l];rw[bg];by_cases h:w=k
   ·rw[z1z h,AW h];rfl
   ·rw[z0z h,z4z h];rfl
def jv {w:By}{x:Value}:∀ kv:List (By×Value),Nj (str w) x (KC kv)=some (KC (bf w x kv))
 | []=>rfl
 | (k,v)::l=>by
   show ob (Lj (str w) (str k)) (fun s=>bi s (some (str w::x::KC l)) (ob (Nj (str w) x (KC l)) fun r=>some (str k::v::r)))=_;rw[Vn,D5,jv l];rw[gA];by_cases h:w=k
   ·rw[z1z h,AW h];rfl
   ·rw[z0z h,z4z h];rfl
def KB (Z:St) (b:Nat) (kv:List (By×Value)):Prop:=∃ ver,Z.h.get b=some ⟨KC kv,true,true,ver,.map⟩
noncomputable def QH (Z:St) (b:Nat) (cs:List Value):St:=⟨Z.h.set b ⟨cs,true,true,(Z.ver b)+1,.map⟩,Z.n⟩
section
variable {Z Z':St}{b:Nat}{kv:List (By×Value)}
def KB.ext (h:KB Z b kv) (c:b<Z.n) (a:Ext Z Z'):KB Z' b kv:=let ⟨v,h⟩:=h;⟨v,by rw[a.same b c];exact h⟩
@[simp] theorem BI7 {cs:List Value}:(QH Z b cs).n=Z.n:=rfl
theorem Km {a:List (By×Value)}:KB (QH Z b (KC a)) b a:=⟨_,Tr.get_set_same _ _ _⟩
def uy {c:Nat}(h:c≠b):(QH Z b cs).h.get c=Z.h.get c:=Tr.M7 _ _ h
def xz:KB (Z.Dt [] .map) Z.n []:=⟨0,Tr.get_set_same _ _ _⟩
def ks {Z0:St}(h:Ext Z0 Z) (d:Z0.n<=b):Ext Z0 (QH Z b cs):=⟨h.n,fun c a=>by rw[uy om];exact h.same c a⟩
def KB.blk (h:KB Z b kv):∃ ver,Z.UG b=some ⟨KC kv,true,true,ver,.map⟩/\ver=Z.ver b:=by
 obtain⟨v,h⟩:=h;refine⟨v,?_,?_⟩
 ·show ob (ob (Z.h.get b) _) _=_;rw[h];rfl
 ·unfold St.ver;rw[h]
def Gn {P:Program}{fr:Fr}{t c d:TypeId}{m k x:Operand}{w:By}{xv:Value}{Q:Value×St->Prop}{p:Hd Q}(i:JV P t=some (c,d)) (g:∀ s,Da (P.underlying c) (str s)=true)
  (n:ev fr m=some (.map (some b))) (j:ev fr k=some (str w)) (o:ev fr x=some xv) (f:KB Z b kv) (h:Q (R6,QH Z b (KC (bf w xv kv)))):Ev (Bm P fr Z t m k x) Q p:=by
 obtain⟨ver,a,e⟩:=f.blk;refine⟨_,?_,h⟩;unfold Bm;rw[i,D5,Pv,n,D5];show ob (some (some b)) _=_;rw[D5,D5,j,D5,g,DA,o,D5,a,D5,jv,D5];show ob (ob (Z.UG b) _) _=_;rw[a];subst e;rfl
def LD {P:Program}{fr:Fr}{t c a:TypeId}{m k:Operand}{w:By}{z:Value}{ok:Bool}{Q:Value×St->Prop}{o:Hd Q}(g:JV P t=some (c,a)) (f:∀ s,Da (P.underlying c) (str s)=true) (n:Bn P a=some z)
  (j:ev fr m=some (.map (some b))) (i:ev fr k=some (str w)) (e:KB Z b kv)
  (h:Q (bi ok (.tuple ⟨[(FA w kv).getD z,.bool (FA w kv).isSome]⟩) ((FA w kv).getD z),Z)):Ev (Gj P fr Z t m k ok) Q o:=by
 obtain⟨ver,d,p⟩:=e.blk;refine⟨_,?_,h⟩;unfold Gj;rw[g,D5,Pv,j,D5];show ob (some (some b)) _=_;rw[D5,i,D5,f,DA];show ob (ob (Z.UG b) _) _=_;rw[d,D5,D5];show ob (QP (str w) (KC kv)) _=_;rw[ju,D5];cases FA w kv with
 |none=>show ob (ob (Bn P a) _) _=_;rw[n];rfl
 |some v=>rfl
end
def QG (s:By):Da ((Tryz.prog).underlying 9) (str s)=true:=kR
def AT9:ev fr (.const (.map none))=some (.map none):=rfl
def emk {Z:St}:Fv fr Z none=some (.map (some Z.n),Z.Dt [] .map):=rfl
end
structure KS where
 once:Bool
 full:Tn->Bool
 rd:List Tok->By->Nat->Tn->Nat->Except Er (Tn×Nat)
section
variable {Z ZL:St}{bt bx:Nat}{T:Tn}{tv:Value}{D4:List Tok}{k:Nat}{N7:List Value}{v:Nat->Value}{fc vs:List Value}
end
structure Fits (T:Tn):Prop where
 AG:T.AG.length<=100000
 G7:T.G7.length<=100000
 reqs:T.reqs.length<=100000
 AQ:T.AQ.length<=100000
 K7:T.K7.length<=100000
def AK4 (bt:Nat) (v:Nat->Value):List Nat:=List.range bt++bt::(Ty (v 0)++Ty (v 1)++Ty (v 2)++Ty (v 3)++Ty (v 4))
structure Tp (ZL Z:St) (bt:Nat) (T:Tn) (v:Nat->Value) (fc vs:List Value):Prop where
 ext:J9 bt ZL Z
 btl:bt<ZL.n
 row:Z.A7 bt=some (tnR T v fc)
 sl:∀ i,i<5->OL ZL.n Z (szT i) (v i) (AK5 T vs i)
 dis:∀ i j c,i<5->j<5->i≠j->P4 (v i)=some c->P4 (v j)≠some c
 fx:P8 (N5 Z (AK4 bt v)) fc T.f
 iv:Mk (LJ (N5 Z (AK4 bt v))) vs T.K7
section
variable {ZL Z Z':St}{bt bx:Nat}{T:Tn}{tv:Value}{D4:List Tok}{k:Nat}{N7:List Value}{v:Nat->Value}{fc vs:List Value}
end
def T0:Tn:=⟨[],[],[],[],0,0,.mk [] 0 0 [] [],[],0,[],0,⟨0,0,0,0,0⟩⟩
structure BV0 (n:Nat) (T:Tn):Prop where
 AG:T.AG.length<=n
 G7:T.G7.length<=n
 reqs:T.reqs.length<=n
 AQ:T.AQ.length<=n
 K7:T.K7.length<=n
def Eo:By->Nat->Bool
 | [],_=>true
 |b::l,c=>bif on P9 b then Nat.ble (c+1) 18&&Eo l (c+1)else Eo l 0
def Hr {b:UInt8}{l:By}{c:Nat}:Eo (b::l) c=bif on P9 b then Nat.ble (c+1) 18&&Eo l (c+1)else Eo l 0:=rfl
end Go.Proofs.T
