/- The tokens of a CQ. -/
import Derived.Test.YtgjocfjdecjhoaaGreatDoorITC
set_option linter.unusedSimpArgs false
set_option linter.unusedVariables false
set_option linter.defProp false
set_option maxHeartbeats 32000000
set_option maxRecDepth 100000
namespace Go.Proofs.T
open Go Go.Ab
def Jh (s:By) (k:Nat) (c:UInt8):Nat :=
 if on FE c then k+BQ EW s k else if on P9 c then
  if (decide (k+BQ P9 s k<s.length)&&decide (s[k+BQ P9 s k]? =some 46)&&decide (k+BQ P9 s k+1<min (k+BQ P9 s k+1) s.length+BQ P9 s (min (k+BQ P9 s k+1) s.length)))=true
  then min (k+BQ P9 s k+1) s.length+BQ P9 s (min (k+BQ P9 s k+1) s.length)else k+BQ P9 s k
 else k+1
def fT (s:By) (Hk:Nat):Nat->Nat->List Tok
 |0,_=>[]
 | f+1,k=>match s[k]? with
   |none=>[]
   |some c=>if c=32 then fT s Hk f (k+1)else((s.drop k).take (Jh s k c-k),Hk+k)::fT s Hk f (Jh s k c)
def ZT (s:By) (a:Nat):List Tok:=fT s a s.length 0++[([],a+s.length)]
def bj {p:Int->Bool}{s:By}{k:Nat}{c:UInt8}(h:s[k]? =some c) (d:on p c=true):0<BQ p s k:=by
 obtain⟨a,b⟩:=List.getElem?_eq_some_iff.1 h;unfold BQ;rw[Oe a,b,lC,d];simp
def yV {s:By}{k:Nat}{c:UInt8}(h:s[k]? =some c):k<Jh s k c/\Jh s k c<=s.length:=by
 obtain⟨f,g⟩:=List.getElem?_eq_some_iff.1 h;unfold Jh;split
 ·rename_i d;have b:on EW c=true:=by unfold on EW;rw[show FE (c.toNat:Nat)=true from d];rfl
  have:=bj h b;have:=Qj EW s k om;omega
 ·split
  ·rename_i a;have:=bj h a;have:=Qj P9 s k om;have:=Qj P9 s (min (k+BQ P9 s k+1) s.length) om;split
   ·rename_i e;rw[R2,R2,z3z,z3z,z3z]at e;omega
   ·omega
  ·omega
abbrev Fx:=Ex×Nat×Nat×Nat
section
variable {L:Nat->Prop}{b:Nat}{Z:St}{tv:Value}{D4:List Tok}{k p:Nat}
end
section
variable {ops:By}{D4:List Tok}{A:Nat->Nat->Except Er Fx}{k:Nat}
noncomputable def opB (ops t:By):Bool:=match t with
 | [c]=> !decide (NZ c ops<0)
 |_=>false
noncomputable def FV (A:Nat->Nat->Except Er Fx) (ops:By) (D4:List Tok):Nat->Fx->Except Er Fx
 |0,x=> .ok x
 |f+1,(e,d,k,p)=>if opB ops (Ah D4 k).1=true then Hj (A (k+1) p) fun(e',d',k',p')=>FV A ops D4 f (.mk (Ah D4 k).1 0 0 [] [e,e'],1+max d d',k',p'+1)else .ok (e,d,k,p)
def CJ {f:Nat}{e:Ex}{d p:Nat}:FV A ops D4 (f+1) (e,d,k,p)=if opB ops (Ah D4 k).1=true then Hj (A (k+1) p) fun(e',d',k',p')=>FV A ops D4 f (.mk (Ah D4 k).1 0 0 [] [e,e'],1+max d d',k',p'+1)else .ok (e,d,k,p):=rfl
def bq {k0:Nat}(o:∀ k p,k0<=k->∀ e d k' p',A k p= .ok (e,d,k',p')->k<k'):∀ (f f':Nat) (e:Ex) (d k p:Nat),k0<=k->D4.length-k<=f->D4.length-k<=f'->k<D4.length+1->(∀ k,D4.length<=k->opB ops (Ah D4 k).1=false) ->
  FV A ops D4 f (e,d,k,p)=FV A ops D4 f' (e,d,k,p):=by
 intro f;induction f with
 | zero=>
   intro f' e d k p j l m n a;cases f' with
   |zero=>rfl
   |succ f'=>rw[CJ,z0z (by rw[a k om];simp)];rfl
 | succ f ih=>
   intro f' e d k p j l m n a;cases f' with
   |zero=>rw[CJ,z0z (by rw[a k om];simp)];rfl
   | succ f'=>
     rw[CJ,CJ];by_cases b:opB ops (Ah D4 k).1=true
     ·rw [z1z b,z1z b];cases q:A (k+1) p with
      |error e=>rfl
      | ok x=>
        obtain⟨h,c,k',p'⟩:=x;have:=o (k+1) p om _ _ _ _ q;rw[CF,CF];dsimp only;by_cases r:k'<D4.length+1
        ·exact ih f' _ _ _ _ om om om r a
        ·have i:∀ g,FV A ops D4 g (.mk (Ah D4 k).1 0 0 [] [e,h],1+max d c,k',p'+1)= .ok (.mk (Ah D4 k).1 0 0 [] [e,h],1+max d c,k',p'+1):=by
          intro g;cases g with
          |zero=>rfl
          |succ g=>rw[CJ,z0z (by rw[a k' om];simp)]
         rw[i,i]
     ·rw[z0z b,z0z b]
noncomputable def Mf (A:Nat->Nat->Except Er Fx) (ops:By) (D4:List Tok) (k p:Nat):Except Er Fx:=Hj (A k p) fun(e,d,k,p)=>FV A ops D4 (D4.length-k) (e,d,k,p)
def Bd (k0 a:Nat) (R:Except Er Fx):Prop:=∀ e d k p,R= .ok (e,d,k,p)->k0<k/\p<=a+(k-k0)/\d<=k-k0
def AG3 (h:D4.length<=k):opB ops (Ah D4 k).1=false:=by
 have:Ah D4 k=([],0):=by unfold Ah;rw[List.getD_eq_getElem?_getD,List.getElem?_eq_none h];rfl
 rw[this];rfl
end
def Fi {n:Int}(a:0<=n) (b:n<18446744073709551616):IntKind.u64.wrap n=n:=by
 have c:n % 18446744073709551616=n:=Int.emod_eq_of_lt a b;simp[IntKind.wrap,IntKind.bits,IntKind.signed,c]
def Kg {Z:St}{a b:Nat} :
  Ev (gO 143 [.int .u64 (a:Nat),.int .u64 (b:Nat)] Z) (fun r=>r=⟨false,.int .u64 (Nat.gcd a b:Nat),Z⟩) ⟨⟩:=by
 refine C8 Tryz.func143 rfl rfl ?_;refine gS ?_
 refine Bt (fun m c Z'=>∃ a':Nat,c.get 0=some (.int .u64 (a':Nat))/\c.get 1=some (.int .u64 (m:Nat))/\Z'=Z/\Nat.gcd a' m=Nat.gcd a b)
  (fun r=>∃ c,r=⟨.exit 0,c,Z⟩/\c.get 0=some (.int .u64 (Nat.gcd a b:Nat))) b ?_ ?_ ?_
 ·exact⟨a,fR,fR,rfl,rfl⟩
 ·rintro m c Z' ⟨a',d,h,rfl,i⟩;have g:decide ((0:Int)<(m:Int))=decide (0<m):=by rw[z7z];simp
  cases e:decide (0<m)with
  | false=>
    have:m=0:=by have:=z9z e;omega
    subst this;refine gS1 (aI d (aI h (aI g (aI e @BT)))) ?_;exact⟨_,rfl,by rw[<- i,pF];exact fR1 d⟩
  | true=>
    have f:=z6z e;have j:Int.tmod (a':Int) (m:Int)=((a' % m:Nat):Int):=by
     rw[<- Int.ofNat_tmod]
    refine gS1 (aI d (aI h (aI g (aI e (aI j @X8))))) ?_;exact⟨a' % m,IP _ f,m,fR,fR,by trivial,by rw[<- i,RW m,<- pG,RW]⟩
 rintro r ⟨c,rfl,d⟩;refine gS1 (aI d @Tryz.results143) ?_;try exact⟨⟩
noncomputable def CM (t:By):By×By:=if decide (NZ 46 t<0)=true then(t,[])else(t.take (NZ 46 t).toNat,t.drop ((NZ 46 t).toNat+1))
def oh (s:By):Bool:=decide (s.drop (s.length-1)=[48])
def Jd (n:Nat) (l:By):Nat:=l.foldl (fun n c=>10*n+(c.toNat+208) % 256) n
def K8:By:=[110,117,109]
noncomputable def ot (D4:List Tok) (k p:Nat):Except Er Fx :=
 if (WG (CM (Ah D4 k).1).1&& !oh (CM (Ah D4 k).1).2)=true then
  if (decide (GX (CM (Ah D4 k).1).1<=1000000000)&&decide ((CM (Ah D4 k).1).2.length<=6)&&(decide (GX (CM (Ah D4 k).1).1<1000000000)||decide ((CM (Ah D4 k).1).2=[])))=true then
   .ok (.mk K8 (Jd (GX (CM (Ah D4 k).1).1) (CM (Ah D4 k).1).2 / Nat.gcd (Jd (GX (CM (Ah D4 k).1).1) (CM (Ah D4 k).1).2) (10 ^ (CM (Ah D4 k).1).2.length):Nat)
    (10 ^ (CM (Ah D4 k).1).2.length / Nat.gcd (Jd (GX (CM (Ah D4 k).1).1) (CM (Ah D4 k).1).2) (10 ^ (CM (Ah D4 k).1).2.length):Nat) [] [],1,k+1,p+1)
  else .error ((Ah D4 k).2,3)
 else .error ((Ah D4 k).2,12)
def AW4 (D4:List Tok):Prop:=∀ t∈D4,t.1.length<10000000
section
variable {D4:List Tok}{A:Nat->Nat->Except Er Fx}{ops:By}
def Q7:By:=[109,105,110]
def R4:By:=[109,97,120]
def nmB:By:=[110,97,109,101]
def Pz (D4:List Tok) (w:By) (k:Nat):Except Er Nat:=if (Ah D4 k).1=w then .ok (k+1)else .error ((Ah D4 k).2,12)
noncomputable def QR (F:Nat->Nat->Except Er Fx) (D4:List Tok) (k p:Nat):Except Er Fx :=
 if PY P9 (Ah D4 k).1=true then ot D4 k p else
 if (Ah D4 k).1=[40]then Hj (F (k+1) p) fun(e,d,k,p)=>Hj (Pz D4 [41] k) fun k=> .ok (e,d,k,p)else
 if (decide ((Ah D4 k).1=Q7)||decide ((Ah D4 k).1=R4))=true then
  Hj (Pz D4 [40] (k+1)) fun c=>Hj (F c p) fun(e,d,f,j)=>Hj (Pz D4 [44] f) fun g=>Hj (F g j) fun(b,a,h,l)=>Hj (Pz D4 [41] h) fun i=>
   .ok (.mk (Ah D4 k).1 0 0 [] [e,b],1+max d a,i,l+1)else
 if AP (Ah D4 k).1=true then .ok (.mk nmB 0 0 (Ah D4 k).1 [],1,k+1,p+1)else .error ((Ah D4 k).2,12)
noncomputable def qM (D4:List Tok):Nat->Nat->Nat->Except Er Fx
 |0,_,_=> .error (0,0)
 |f+1,k,p=>Mf (fun k p=>Mf (QR (qM D4 f) D4) [42,47] D4 k p) [43,45] D4 k p
def Cm {c d:Type}{x:Except Er c}{f:c->Except Er d}{b:d}(h:Hj x f= .ok b):∃ a,x= .ok a/\f a= .ok b:=by
 cases x with
 |error e=>cases h
 |ok a=>exact⟨a,rfl,h⟩
def OC {w:By}{k a:Nat}(h:Pz D4 w k= .ok a):a=k+1:=by
 unfold Pz at h;split at h<;>cases h;rfl
def kI {F:Nat->Nat->Except Er Fx}(c:∀ k p,Bd k p (F k p)) (k p:Nat):Bd k p (QR F D4 k p):=by
 intro e d j l h;unfold QR at h;split at h
 ·unfold ot at h;split at h
  ·split at h
   ·cases h;omega
   ·cases h
  ·cases h
 ·split at h
  ·obtain⟨⟨i,g,f,m⟩,a,b⟩:=Cm h;obtain⟨k2,h3,h4⟩:=Cm b;have:=c _ _ _ _ _ _ a;have:=OC h3;cases h4;omega
  ·split at h
   ·obtain⟨f,a,h⟩:=Cm h;obtain⟨⟨e2,d2,k2,p2⟩,b,h⟩:=Cm h;obtain⟨k3,h3,h⟩:=Cm h;obtain⟨⟨e4,d4,k4,p4⟩,h4,h⟩:=Cm h;obtain⟨k5,h5,h⟩:=Cm h;have:=OC a;have:=c _ _ _ _ _ _ b;have:=OC h3;have:=c _ _ _ _ _ _ h4;have:=OC h5;cases h;omega
   ·split at h
    ·cases h;omega
    ·cases h
def oX (j:∀ k p,Bd k p (A k p)):∀ (f:Nat) (e0:Ex) (d0 k0 p0 k p:Nat),k<k0->p0<=p+(k0-k)->d0<=k0-k->Bd k p (FV A ops D4 f (e0,d0,k0,p0)):=by
 intro f;induction f with
 |zero=>intro e0 d0 k0 p0 k p a b c e d l m h;cases h;omega
 | succ f ih=>
   intro e0 d0 k0 p0 k p a b c e d l m h;rw[CJ]at h;split at h
   ·obtain⟨⟨o,n,q,r⟩,g,i⟩:=Cm h;have:=j _ _ _ _ _ _ g;exact ih _ _ _ _ k p om om om _ _ _ _ i
   ·cases h;omega
def PK (a:∀ k p,Bd k p (A k p)) (k p:Nat):Bd k p (Mf A ops D4 k p):=by
 intro e d i l h;obtain⟨⟨g,f,j,m⟩,b,c⟩:=Cm h;have:=a _ _ _ _ _ _ b;exact oX a _ _ _ _ _ k p om om om _ _ _ _ c
def AG2:∀ f k p,Bd k p (qM D4 f k p):=by
 intro f;induction f with
 |zero=>intro k p e d b c h;cases h
 |succ f a=>intro k p;exact PK (fun k p=>PK (fun k p=>kI a k p) k p) k p
end

noncomputable def qL (D4:List Tok):Except Er Ex:=Hj (qM D4 D4.length 0 0) fun(e,d,k,p)=>
 if (Ah D4 k).1=[]then if (decide (60<p)||decide (12<d))=true then .error ((Ah D4 0).2,2)else .ok e else .error ((Ah D4 k).2,12)
section
variable {Z ZL:St}{bt bx:Nat}{T:Tn}{tv:Value}{D4:List Tok}{k:Nat}{tx:By}{Hk:Nat}{v:Nat->Value}{fc vs:List Value}
end
end Go.Proofs.T
