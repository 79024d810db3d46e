/- The tokens of a DY. -/
import Derived.Test.YtgjocfjdecjhoaaGreatDoorTD
set_option linter.unusedSimpArgs false
set_option linter.unusedVariables false
set_option linter.defProp false
set_option maxHeartbeats 32000000
set_option maxRecDepth 100000
namespace Go.Proofs.T
open Go Go.Ab
def JG (s:By) (k:Nat) (c:UInt8):Nat :=
 if on Eh c then k+BI ED s k else if on O6 c then
  if (decide (k+BI O6 s k<s.length)&&decide (s[k+BI O6 s k]? =some 46)&&decide (k+BI O6 s k+1<min (k+BI O6 s k+1) s.length+BI O6 s (min (k+BI O6 s k+1) s.length)))=true
  then min (k+BI O6 s k+1) s.length+BI O6 s (min (k+BI O6 s k+1) s.length)else k+BI O6 s k
 else k+1
def fT (s:By) (HO:Nat):Nat->Nat->List Tok
 |0,_=>[]
 | f+1,k=>match s[k]? with
   |none=>[]
   |some c=>if c=32 then fT s HO f (k+1)else((s.drop k).take (JG s k c-k),HO+k)::fT s HO f (JG s k c)
def YO (s:By) (HO:Nat):List Tok:=fT s HO s.length 0++[([],HO+s.length)]
def aG {p:Int->Bool}{s:By}{k:Nat}{c:UInt8}(h:s[k]? =some c) (hp:on p c=true):0<BI p s k:=by
 obtain⟨h1,h2⟩:=List.getElem?_eq_some_iff.1 h;unfold BI;rw[PL h1,h2,vU,hp];simp
def wD {s:By}{k:Nat}{c:UInt8}(h:s[k]? =some c):k<JG s k c/\JG s k c<=s.length:=by
 obtain⟨h1,h2⟩:=List.getElem?_eq_some_iff.1 h;unfold JG;split
 ·rename_i hl;have hf:on ED c=true:=by unfold on ED;rw[show Eh (c.toNat:Nat)=true from hl];rfl
  have:=aG h hf;have:=Pb ED s k om;omega
 ·split
  ·rename_i hd;have:=aG h hd;have:=Pb O6 s k om;have:=Pb O6 s (min (k+BI O6 s k+1) s.length) om;split
   ·rename_i hx;rw[Q7,Q7,z3z,z3z,z3z]at hx;omega
   ·omega
  ·omega
abbrev Fx:=Ex×Nat×Nat×Nat
section
variable {L:Nat->Prop}{b:Nat}{Z:St}{tv:Value}{D7:List Tok}{k p:Nat}
end
section
variable {ops:By}{D7:List Tok}{A:Nat->Nat->Except Er Fx}{k:Nat}
noncomputable def opB (ops t:By):Bool:=match t with
 | [c]=> !decide (Mn c ops<0)
 |_=>false
noncomputable def FD (A:Nat->Nat->Except Er Fx) (ops:By) (D7:List Tok):Nat->Fx->Except Er Fx
 |0,x=> .ok x
 |f+1,(e,d,k,p)=>if opB ops (AZ D7 k).1=true then HN (A (k+1) p) fun(e',d',k',p')=>FD A ops D7 f (.mk (AZ D7 k).1 0 0 [] [e,e'],1+max d d',k',p'+1)else .ok (e,d,k,p)
def Bw {f:Nat}{e:Ex}{d p:Nat}:FD A ops D7 (f+1) (e,d,k,p)=if opB ops (AZ D7 k).1=true then HN (A (k+1) p) fun(e',d',k',p')=>FD A ops D7 f (.mk (AZ D7 k).1 0 0 [] [e,e'],1+max d d',k',p'+1)else .ok (e,d,k,p):=rfl
def aJ {k0:Nat}(hA:∀ k p,k0<=k->∀ e d k' p',A k p= .ok (e,d,k',p')->k<k'):∀ (f f':Nat) (e:Ex) (d k p:Nat),k0<=k->D7.length-k<=f->D7.length-k<=f'->k<D7.length+1->(∀ k,D7.length<=k->opB ops (AZ D7 k).1=false) ->
  FD A ops D7 f (e,d,k,p)=FD A ops D7 f' (e,d,k,p):=by
 intro f;induction f with
 | zero=>
   intro f' e d k p h0 h1 h2 h3 hop;cases f' with
   |zero=>rfl
   |succ f'=>rw[Bw,z0z (by rw[hop k om];simp)];rfl
 | succ f ih=>
   intro f' e d k p h0 h1 h2 h3 hop;cases f' with
   |zero=>rw[Bw,z0z (by rw[hop k om];simp)];rfl
   | succ f'=>
     rw[Bw,Bw];by_cases ho:opB ops (AZ D7 k).1=true
     ·rw [z1z ho,z1z ho];cases hR:A (k+1) p with
      |error e=>rfl
      | ok x=>
        obtain⟨e',d',k',p'⟩:=x;have:=hA (k+1) p om _ _ _ _ hR;rw[Bq,Bq];dsimp only;by_cases hk:k'<D7.length+1
        ·exact ih f' _ _ _ _ om om om hk hop
        ·have hz:∀ g,FD A ops D7 g (.mk (AZ D7 k).1 0 0 [] [e,e'],1+max d d',k',p'+1)= .ok (.mk (AZ D7 k).1 0 0 [] [e,e'],1+max d d',k',p'+1):=by
          intro g;cases g with
          |zero=>rfl
          |succ g=>rw[Bw,z0z (by rw[hop k' om];simp)]
         rw[hz,hz]
     ·rw[z0z ho,z0z ho]
noncomputable def MC (A:Nat->Nat->Except Er Fx) (ops:By) (D7:List Tok) (k p:Nat):Except Er Fx:=HN (A k p) fun(e,d,k,p)=>FD A ops D7 (D7.length-k) (e,d,k,p)
def Bd (k0 p0:Nat) (R:Except Er Fx):Prop:=∀ e d k p,R= .ok (e,d,k,p)->k0<k/\p<=p0+(k-k0)/\d<=k-k0
def zU (h:D7.length<=k):opB ops (AZ D7 k).1=false:=by
 have:AZ D7 k=([],0):=by unfold AZ;rw[List.getD_eq_getElem?_getD,List.getElem?_eq_none h];rfl
 rw[this];rfl
end
def FO {n:Int}(h1:0<=n) (h2:n<18446744073709551616):IntKind.u64.wrap n=n:=by
 have hm:n % 18446744073709551616=n:=Int.emod_eq_of_lt h1 h2;simp[IntKind.wrap,IntKind.bits,IntKind.signed,hm]
def KC {Z:St}{a b:Nat} :
  Ev (gO 143 [.int .u64 (a:Nat),.int .u64 (b:Nat)] Z) (fun r=>r=⟨false,.int .u64 (Nat.gcd a b:Nat),Z⟩) ⟨⟩:=by
 refine C9 Tryz.func143 rfl rfl ?_;refine gS ?_
 refine CD (fun m fr Z'=>∃ a':Nat,fr.get 0=some (.int .u64 (a':Nat))/\fr.get 1=some (.int .u64 (m:Nat))/\Z'=Z/\Nat.gcd a' m=Nat.gcd a b)
  (fun r=>∃ fr,r=⟨.exit 0,fr,Z⟩/\fr.get 0=some (.int .u64 (Nat.gcd a b:Nat))) b ?_ ?_ ?_
 ·exact⟨a,fR,fR,rfl,rfl⟩
 ·rintro m fr Z' ⟨a',g0,g1,rfl,hg⟩;have e1:decide ((0:Int)<(m:Int))=decide (0<m):=by rw[z7z];simp
  cases hm:decide (0<m)with
  | false=>
    have:m=0:=by have:=z9z hm;omega
    subst this;refine gS1 (aI g0 (aI g1 (aI e1 (aI hm @Bj)))) ?_;exact⟨_,rfl,by rw[<- hg,mf];exact fR1 g0⟩
  | true=>
    have hm':=z6z hm;have e2:Int.tmod (a':Int) (m:Int)=((a' % m:Nat):Int):=by
     rw[<- Int.ofNat_tmod]
    refine gS1 (aI g0 (aI g1 (aI e1 (aI hm (aI e2 @j7))))) ?_;exact⟨a' % m,MN _ hm',m,fR,fR,by trivial,by rw[<- hg,QH m,<- mg,QH]⟩
 rintro r ⟨fr,rfl,g0⟩;refine gS1 (aI g0 @Tryz.results143) ?_;try exact⟨⟩
noncomputable def CA (t:By):By×By:=if decide (Mn 46 t<0)=true then(t,[])else(t.take (Mn 46 t).toNat,t.drop ((Mn 46 t).toNat+1))
def mQ (s:By):Bool:=decide (s.drop (s.length-1)=[48])
def JE (n:Nat) (l:By):Nat:=l.foldl (fun n c=>10*n+(c.toNat+208) % 256) n
def K9:By:=[110,117,109]
noncomputable def mR (D7:List Tok) (k p:Nat):Except Er Fx :=
 if (Us (CA (AZ D7 k).1).1&& !mQ (CA (AZ D7 k).1).2)=true then
  if (decide (GI (CA (AZ D7 k).1).1<=1000000000)&&decide ((CA (AZ D7 k).1).2.length<=6)&&(decide (GI (CA (AZ D7 k).1).1<1000000000)||decide ((CA (AZ D7 k).1).2=[])))=true then
   .ok (.mk K9 (JE (GI (CA (AZ D7 k).1).1) (CA (AZ D7 k).1).2 / Nat.gcd (JE (GI (CA (AZ D7 k).1).1) (CA (AZ D7 k).1).2) (10 ^ (CA (AZ D7 k).1).2.length):Nat)
    (10 ^ (CA (AZ D7 k).1).2.length / Nat.gcd (JE (GI (CA (AZ D7 k).1).1) (CA (AZ D7 k).1).2) (10 ^ (CA (AZ D7 k).1).2.length):Nat) [] [],1,k+1,p+1)
  else .error ((AZ D7 k).2,3)
 else .error ((AZ D7 k).2,12)
def AM4 (D7:List Tok):Prop:=∀ t∈D7,t.1.length<10000000
section
variable {D7:List Tok}{A:Nat->Nat->Except Er Fx}{ops:By}
def R3:By:=[109,105,110]
def R6:By:=[109,97,120]
def nmB:By:=[110,97,109,101]
def Oz (D7:List Tok) (w:By) (k:Nat):Except Er Nat:=if (AZ D7 k).1=w then .ok (k+1)else .error ((AZ D7 k).2,12)
noncomputable def PV (F:Nat->Nat->Except Er Fx) (D7:List Tok) (k p:Nat):Except Er Fx :=
 if OZ O6 (AZ D7 k).1=true then mR D7 k p else
 if (AZ D7 k).1=[40]then HN (F (k+1) p) fun(e,d,k,p)=>HN (Oz D7 [41] k) fun k=> .ok (e,d,k,p)else
 if (decide ((AZ D7 k).1=R3)||decide ((AZ D7 k).1=R6))=true then
  HN (Oz D7 [40] (k+1)) fun k1=>HN (F k1 p) fun(e,d,k2,p2)=>HN (Oz D7 [44] k2) fun k3=>HN (F k3 p2) fun(e',d',k4,p4)=>HN (Oz D7 [41] k4) fun k5=>
   .ok (.mk (AZ D7 k).1 0 0 [] [e,e'],1+max d d',k5,p4+1)else
 if AM (AZ D7 k).1=true then .ok (.mk nmB 0 0 (AZ D7 k).1 [],1,k+1,p+1)else .error ((AZ D7 k).2,12)
noncomputable def ni (D7:List Tok):Nat->Nat->Nat->Except Er Fx
 |0,_,_=> .error (0,0)
 |f+1,k,p=>MC (fun k p=>MC (PV (ni D7 f) D7) [42,47] D7 k p) [43,45] D7 k p
def CZ {α β:Type}{x:Except Er α}{f:α->Except Er β}{b:β}(h:HN x f= .ok b):∃ a,x= .ok a/\f a= .ok b:=by
 cases x with
 |error e=>cases h
 |ok a=>exact⟨a,rfl,h⟩
def NJ {w:By}{k k':Nat}(h:Oz D7 w k= .ok k'):k'=k+1:=by
 unfold Oz at h;split at h<;>cases h;rfl
def ig {F:Nat->Nat->Except Er Fx}(hF:∀ k p,Bd k p (F k p)) (k p:Nat):Bd k p (PV F D7 k p):=by
 intro e d k' p' h;unfold PV at h;split at h
 ·unfold mR at h;split at h
  ·split at h
   ·cases h;omega
   ·cases h
  ·cases h
 ·split at h
  ·obtain⟨⟨e1,d1,k1,p1⟩,h1,h2⟩:=CZ h;obtain⟨k2,h3,h4⟩:=CZ h2;have:=hF _ _ _ _ _ _ h1;have:=NJ h3;cases h4;omega
  ·split at h
   ·obtain⟨k1,h1,h⟩:=CZ h;obtain⟨⟨e2,d2,k2,p2⟩,h2,h⟩:=CZ h;obtain⟨k3,h3,h⟩:=CZ h;obtain⟨⟨e4,d4,k4,p4⟩,h4,h⟩:=CZ h;obtain⟨k5,h5,h⟩:=CZ h;have:=NJ h1;have:=hF _ _ _ _ _ _ h2;have:=NJ h3;have:=hF _ _ _ _ _ _ h4;have:=NJ h5;cases h;omega
   ·split at h
    ·cases h;omega
    ·cases h
def mG (hA:∀ k p,Bd k p (A k p)):∀ (f:Nat) (e0:Ex) (d0 k0 p0 k p:Nat),k<k0->p0<=p+(k0-k)->d0<=k0-k->Bd k p (FD A ops D7 f (e0,d0,k0,p0)):=by
 intro f;induction f with
 |zero=>intro e0 d0 k0 p0 k p h1 h2 h3 e d k' p' h;cases h;omega
 | succ f ih=>
   intro e0 d0 k0 p0 k p h1 h2 h3 e d k' p' h;rw[Bw]at h;split at h
   ·obtain⟨⟨e1,d1,k1,p1⟩,h4,h5⟩:=CZ h;have:=hA _ _ _ _ _ _ h4;exact ih _ _ _ _ k p om om om _ _ _ _ h5
   ·cases h;omega
def OH (hA:∀ k p,Bd k p (A k p)) (k p:Nat):Bd k p (MC A ops D7 k p):=by
 intro e d k' p' h;obtain⟨⟨e1,d1,k1,p1⟩,h1,h2⟩:=CZ h;have:=hA _ _ _ _ _ _ h1;exact mG hA _ _ _ _ _ k p om om om _ _ _ _ h2
def zT:∀ f k p,Bd k p (ni D7 f k p):=by
 intro f;induction f with
 |zero=>intro k p e d k' p' h;cases h
 |succ f ih=>intro k p;exact OH (fun k p=>OH (fun k p=>ig ih k p) k p) k p
end

noncomputable def nh (D7:List Tok):Except Er Ex:=HN (ni D7 D7.length 0 0) fun(e,d,k,p)=>
 if (AZ D7 k).1=[]then if (decide (60<p)||decide (12<d))=true then .error ((AZ D7 0).2,2)else .ok e else .error ((AZ D7 k).2,12)
section
variable {Z ZL:St}{bt bx:Nat}{T:Tn}{tv:Value}{D7:List Tok}{k:Nat}{tx:By}{HO:Nat}{v:Nat->Value}{fc vs:List Value}
end
end Go.Proofs.T
