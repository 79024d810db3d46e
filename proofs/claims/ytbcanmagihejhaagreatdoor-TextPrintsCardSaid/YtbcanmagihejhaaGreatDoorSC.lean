/- A builder of text; put. -/
import Derived.Test.YtbcanmagihejhaaGreatDoorSB
import Derived.Test.YtbcanmagihejhaaGreatDoorEB
set_option linter.unusedSimpArgs false
set_option linter.unusedVariables false
set_option linter.defProp false
set_option maxHeartbeats 32000000
set_option maxRecDepth 100000
namespace Go.Proofs.T
open Go Go.Ab
section
variable {Z Z' Z0:St}{b N c w n:Nat}{t s:By}{cs:List Value}{sp:Option Nat}{l:List By}
def OE (h:Z'.h.get b=Z.h.get b):Z'.typ b=Z.typ b:=by
 show ob (Z'.h.get b) _=ob (Z.h.get b) _;rw[h]
def It {t:Option TypeId}:(Z.new cs t).typ Z.n=t:=by
 show ob ((Z.new cs t).h.get Z.n) _=_;rw[N8,z1z rfl];rfl
def WR:(Z.upd c cs).typ b=Z.typ b:=by
 show ob ((Z.upd c cs).h.get b) _=_;rw[M4];by_cases h:b=c
 ·subst h;rw[z1z rfl];rfl
 ·rw[z0z h];rfl
structure BDN (Z:St) (b:Nat) (t:By) (N:Nat):Prop where
 lt:b<N
 le:N<=Z.n
 typ:Z.typ b=some 116
 D0:(t=[]/\Z.B8 b=some [.pointer none,.slice none 0 0])\/∃ g,t≠[]/\Z.B8 b=some [.pointer (some ⟨b,0,none⟩),.slice (some ⟨g,0,some 1⟩) t.length t.length]/\b<g/\g<N/\Z.typ g=some 5/\Z.B8 g=some (O9 t)
abbrev BD (Z:St) (b:Nat) (t:By):Prop:=BDN Z b t Z.n
def BDN.ext (h:BDN Z b t N) (a:Ext Z Z'):BDN Z' b t N:=by
 obtain⟨o,r,p,q⟩:=h;refine⟨o,W5 r a.n,by rw[OE (a.same b om)];exact p,?_⟩;rcases q with⟨d,e⟩|⟨g,d,e,f,i,j,m⟩
 ·exact .inl ⟨d,by rw[a.B8 om];exact e⟩
 ·exact .inr ⟨g,d,by rw[a.B8 om];exact e,f,i,by rw[OE (a.same g om)];exact j,by rw[a.B8 om];exact m⟩
def BR (Z:St) (N b:Nat) (t:By) (v:Value):Prop:=(t=[]/\v= .slice none 0 0)\/∃ g,t≠[]/\v= .slice (some ⟨g,0,some 1⟩) t.length t.length/\b<g/\g<N/\Z.typ g=some 5/\Z.B8 g=some (O9 t)
def Au0 (h:BDN Z b t N):∃ Z' v,go Tryz.prog HS (.fn 110) [.pointer (some ⟨b,0,none⟩)] Z=some ⟨false,.tuple ⟨[]⟩,Z'⟩/\G5 b Z Z'/\Z'.n=Z.n/\Z'.typ b=some 116/\Z'.B8 b=some [.pointer (some ⟨b,0,none⟩),v]/\BR Z' N b t v:=by
 obtain⟨r,u,d,p⟩:=h;rcases p with⟨e,a⟩|⟨g,e,a,i,j,m,o⟩
 ·refine⟨Z.upd b [.pointer (some ⟨b,0,none⟩),.slice none 0 0],.slice none 0 0,?_,G5.refl.upd _,rfl,by rw[WR];exact d,cL,.inl ⟨e,rfl⟩⟩;have f:Z.read b 0 2=some [.pointer none,.slice none 0 0]:=by rw[AB,C1 a];rfl
  have q:Z.write b 0 [.pointer (some ⟨b,0,none⟩)]=some (Z.upd b [.pointer (some ⟨b,0,none⟩),.slice none 0 0]):=by rw[Jc,a];rfl
  show ckF [.pointer (some ⟨b,0,none⟩)] Z=_;show ob (Z.typ b) _=_;rw[d];show ob (Z.read b 0 2) _=_;rw[f];show ob (Z.write b 0 [.pointer (some ⟨b,0,none⟩)]) _=_;rw[q];rfl
 ·refine⟨Z,.slice (some ⟨g,0,some 1⟩) t.length t.length,?_,.refl,rfl,d,a,.inr ⟨g,e,rfl,i,j,m,o⟩⟩;have f:Z.read b 0 2=some [.pointer (some ⟨b,0,none⟩),.slice (some ⟨g,0,some 1⟩) t.length t.length]:=by rw[AB,C1 a];rfl
  show ckF [.pointer (some ⟨b,0,none⟩)] Z=_;show ob (Z.typ b) _=_;rw[d];show ob (Z.read b 0 2) _=_;rw[f];show bb (Nat.beq b b) _=_;rw[Mr rfl];rfl
def mR {v:Value}(E:N<=Z.n) (u:BR Z N b t v) (q:s≠[]) (i:(t++s).length<=1000000):
  ∃ Z',CO Tryz.prog Z 43 v (str s)=some (.slice (some ⟨Z.n,0,some 1⟩) (t++s).length (t++s).length,Z')/\Z'.n=Z.n+1/\Z'.typ Z.n=some 5/\Z'.B8 Z.n=some (O9 (t++s))/\∀ c,(c<=b\/N<=c)->c<Z.n->Z'.h.get c=Z.h.get c:=by
 have r:0<s.length:=Pp.2 q;rw[W4]at i;have e:AJ Z 1 (str s)=some (s.length,O9 s):=rfl;have d:∀ x y:By,O9 (x++y)=O9 x++O9 y:=fun x y=>by unfold O9;simp
 have a:∀ x:By,(O9 x).length=x.length:=fun x=>by unfold O9;simp
 rcases u with⟨rfl,rfl⟩|⟨g,B,rfl,C,D,j,f⟩
 ·refine⟨Z.new (O9 s) (some 5),?_,rfl,It,K2 nL nL,fun c _ m=>by rw[N8,z0z om]⟩;rw[K4,e,F8,Jb,Jd om,j7,Fi (by unfold room;simp at i;omega),V0,VV];rfl
 ·have z:Z.kill g=some (Z.dead g):=by rw[PU,f];rfl
  have A:Z.read g 0 (t.length*1)=some (O9 t):=by rw[AB,C1 f];exact G3 (by rw[a];omega) (by rw[a];omega)
  have p:MQ 5 0 (Z.typ g)=some 5:=by rw[j];rfl
  refine⟨(Z.dead g).new (O9 t++O9 s) (some 5),?_,rfl,It (Z:=Z.dead g),?_,fun c o m=>?_⟩
  ·rw[K4,e,F8,Jb,Jd om,j7,Fi (by unfold room;omega),V0,VW,A,F8,z,F8,p,W4];rfl
  ·rw[d];exact K2 (Z:=Z.dead g) nL nL
  ·rw[N8,z0z (by rw[Nw];omega),FX,z0z om]
def zn (h:BDN Z b t N) (a:Ext Z0 Z) (C:Z0.n<=b) (f:s≠[]) (p:(t++s).length<=1000000):
  Ev (gO 65 [.pointer (some ⟨b,0,none⟩),str s] Z) (fun r=>∃ Z' v,r=⟨false,v,Z'⟩/\BD Z' b (t++s)/\Ext Z0 Z'/\∀ c,N<=c->c<Z.n->Z'.h.get c=Z.h.get c) ⟨⟩:=by
 obtain⟨e,v,j,g,y,B,d,i⟩:=Au0 h;obtain⟨Z2,e2,n2,t2,o2,s2⟩:=mR (by rw[y];exact h.le) i f p;have u:=h.lt;have q:=h.le;have A:=C1 d;have z:Z2.B8 b=some [.pointer (some ⟨b,0,none⟩),v]:=by rw[B9 (s2 b (.inl nL) om)];exact d
 refine G1 Tryz.func65 rfl rfl ?_;refine gS1 (aI j (aI A (aI d (aI e2 (aI z @Tryz.results65))))) ?_;have E:b<Z2.n:=om;have m:t++s≠[]:=by simp[f]
 refine⟨_,_,rfl,⟨by show b<Z2.n;omega,AP _,?_,.inr ⟨e.n,m,cL,om,by show e.n<Z2.n;omega,?_,?_⟩⟩,?_,?_⟩
 ·rw[WR,OE (s2 b (.inl nL) om)];exact B
 ·rw[WR];exact t2
 ·rw[H6 om];exact o2
 ·refine⟨by have:=a.n;show Z0.n<=Z2.n;omega,fun c o=>?_⟩;have D:=a.n;rw[M4,z0z om,s2 c (.inl om) om,g.same c om om,a.same c o]
 ·intro c c1 c2;rw[M4,z0z om,s2 c (.inr c1) om,g.same c c2 om]
def zo (l:List By):Rc (l.map str)=some l:=by
 induction l with
 |nil=>rfl
 |cons x l a=>exact(congrArg (fun z=>ob z fun r=>some (x::r)) a).trans rfl
def uC (l:List By):UT [32] l=blk l:=by
 induction l with
 |nil=>rfl
 | cons x l ih=>
   show[32]++(x++UT [32] l)=_;rw[ih];simp[blk]
def uD (l:List By):UU l [32]=spJ l:=by
 cases l with
 |nil=>rfl
 |cons x l=>rw[Jl,<- uC];rfl
def join_eq (a:l.length<=c) (e:(spJ l).length<=1000000) (f:l.length<=1000000) (d:Z.read w 0 l.length=some (l.map str)):
  go Tryz.prog HS (.fn 66) [.slice (some ⟨w,0,sp⟩) l.length c,str [32]] Z=some ⟨false,str (spJ l),Z⟩:=by
 show bb (Nat.ble l.length c) (bb (Nat.ble l.length room) (ob (Z.read w 0 l.length) fun cs=>ob (Rc cs) fun l=>bb (Nat.ble (UU l [32]).length room) (some (⟨false,str (UU l [32]),Z⟩:CR))))=_;rw[Py a,V0,Py (show l.length<=room by unfold room;omega),V0,d,F8,zo,F8,uD,Py (show(spJ l).length<=room by unfold room;omega),V0]
def Ni (h:BDN Z b t N) (j:Ext Z0 Z) (m:Z0.n<=b) (q:n=l.length) (o:n<=c) (g:(t++(spJ l++[10])).length<=1000000) (e:l.length<=1000000) (u:Z.row w=some (l.map str)):
  Ev (gO 64 [.slice (some ⟨w,0,sp⟩) n c,.pointer (some ⟨b,0,none⟩)] Z) (fun r=>∃ Z',r=⟨false,.tuple ⟨[]⟩,Z'⟩/\BD Z' b (t++(spJ l++[10]))/\Ext Z0 Z'/\∀ c,N<=c->c<Z.n->Z'.h.get c=Z.h.get c) ⟨⟩:=by
 subst q;have d:=g;simp only[W4,AG,Hf]at g;have p:=join_eq (Z:=Z) (w:=w) (c:=c) (sp:=sp) (l:=l) o om e (by rw[AB,u];exact G3 (by simp) (by simp));refine G1 Tryz.func64 rfl rfl ?_;refine gS1 p ?_;refine(zn h j m (s:=spJ l++[10]) (by simp) d).mono ?_;rintro r ⟨y,v,rfl,i,a,f⟩;refine gS1 @Tryz.results64 ?_;exact⟨_,rfl,i,a,f⟩
def HR {a b:St}{bs:List Nat}{i j X off:Nat}{d:List Ab.Trace}(h:b.h.get X=a.h.get X):M7 bs i ⟨X,off,n⟩ (.eff j a b::d)=M7 bs i ⟨X,off,n⟩ d:=Je fun _=>h
end
def pE (l:By):Nn (O9 l)=some l:=by
 induction l with
 |nil=>rfl
 | cons x l ih=>
   have a:YE (.int .u8 (x.toNat:Nat))=some x:=by
    show bb (Nat.blt x.toNat 256) (some (UInt8.ofNat x.toNat))=_;rw[show Nat.blt x.toNat 256=true from by rw[EJ];exact UInt8.toNat_lt x,V0];simp
   show ob (YE (.int .u8 (x.toNat:Nat))) (fun b=>ob (Nn (O9 l)) fun bs=>some (b::bs))=_;rw[a,F8,ih];rfl
def jo {Z0 Z:St}{b:Nat}{t:By}(h:BD Z b t) (a:Ext Z0 Z) (A:Z0.n<=b) (ht:t≠[]) (B:t.length<=1000000) :
  ∃ Z',go Tryz.prog HS (.fn 68) [.pointer (some ⟨b,0,none⟩)] Z=some ⟨false,str t,Z'⟩/\Ext Z0 Z':=by
 obtain⟨z,-,o,p⟩:=h;rcases p with⟨d,e⟩|⟨g,d,e,v,y,m,f⟩
 ·exact absurd d ht
 ·have i:Z.read b 0 2=some [.pointer (some ⟨b,0,none⟩),.slice (some ⟨g,0,some 1⟩) t.length t.length]:=by rw[AB,C1 e];rfl
  have r:(O9 t).length=t.length:=by unfold O9;simp
  have j:Z.read g 0 t.length=some (O9 t):=by rw[AB,C1 f];exact G3 om om
  have u:Z.kill g=some (Z.dead g):=by rw[PU,f];rfl
  have C:=a.n;refine⟨Z.dead g,?_,⟨a.n,fun c s=>by rw[FX,z0z om];exact a.same c s⟩⟩;obtain⟨n,q⟩:∃ n,t.length=n+1:=⟨t.length-1,by have:=Pp.2 ht;omega⟩
  rw[q]at i j;show vy [.pointer (some ⟨b,0,none⟩)] Z=_;show ob (Z.typ b) _=_;rw[o];show ob (Z.read b 0 2) _=_;rw[i];show ob (Z.typ g) _=_;rw[m];show bb (Nat.ble (n+1) (n+1)) (bb (Nat.ble n room) (ob (Z.read g 0 (n+1)) fun cs=>ob (Nn cs) fun l=>ob (Z.kill g) fun Z=>some (⟨false,.string ⟨l.toArray⟩,Z⟩:CR)))=_;rw[Py nL,V0,Py (show n<=room by unfold room;omega),V0,j,F8,pE,F8,u];rfl
section
variable {P:Program}{H:EP}{rd:Option Nat}
def pF {k:Nat}{l:List Oper}{fr:Fr}{Z:St}{Q:Res->Prop}{u:Hd Q}{g:Gh}{kv V:Value}(q:Dd l=true) (o:pG l=some g) (h:fr.get g.tm=none) (i:fr.get g.tv=none)
  (n:YF P g kv=some V) (c:(pH l (W6 l V) g&&JV (W6 l V).toArray)=true)
  (j:Ev (K7 P (go P H) (W6 l (.string ⟨#[]⟩)).toArray (W6 l (.string ⟨#[]⟩)) 0 fr Z []) (fun r=>r.fr.get g.key=some kv) ⟨⟩)
  (b:veq kv kv=true)
  (m:Ev (K7 P (go P H) (W6 l V).toArray (W6 l V) 0 fr Z []) (fun r=>T3 (Ai (Region.before (W6 l V).toArray).toList r.ds r.ds) (r.p=none/\r.fr.get g.key=some kv/\Q ⟨.normal,r.fr,r.Z⟩) ⟨⟩) ⟨⟩) :
  Ev (lim P H rd (.region k l.toArray true) fr Z) Q u:=by
 have e:lim P H rd (.region k l.toArray true) fr Z=bi (Dd l.toArray.toList) (MW P (go P H) l.toArray.toList fr Z) (drawn l.toArray (K7 P (go P H) l.toArray l.toArray.toList 0 fr Z [])):=(HT ..).trans rfl;rw[e,show l.toArray.toList=l from rfl,q,N5];obtain⟨s,d,f⟩:=j;obtain⟨r,b1,b2,b3,b4,b5⟩:=m;refine Ev.intro (a:=⟨.normal,r.fr,r.Z⟩) ?_ b5;obtain⟨fr',Z',ds,pp⟩:=r;cases b3;show ob (pG l) _=_;rw[o,F8];show bb ((fr.get g.tm).isNone&&(fr.get g.tv).isNone) _=_;rw[h,i];show ob _ _=_;rw[d,F8,f,F8,n,F8,c,V0,b1,F8];show bb (Ai (Region.before (W6 l V).toArray).toList ds ds&&true) (ob (fr'.get g.key) fun kv'=>bb (veq kv' kv) (some (⟨.normal,fr',Z'⟩:Res)))=_;rw[b2,b4];show bb (veq kv kv) _=_;rw[b];rfl
end
end Go.Proofs.T
namespace Go.Proofs.T
noncomputable section
open Go Go.Ab
open Nat (reduceMul reduceEqDiff reduceAdd)
def PV (b:Nat):Value:= .func (.func 64) #[] #[.pointer (some ⟨b,0,none⟩)]
def IV:Value:= .func (.func 67) #[] #[]
structure DV (Z:St) (ca:List Value) (t:By) (m:Nat) (fr:Fr) (Z':St):Prop where
 g1:fr.get 1=some (.pointer (some ⟨Z.n,0,none⟩))
 g3:fr.get 3=some (.pointer (some ⟨Z.n+1,0,none⟩))
 g4:fr.get 4=some (PV (Z.n+1))
 g5:fr.get 5=some IV
 g53:fr.get 53=none
 g54:fr.get 54=none
 bd:BD Z' (Z.n+1) t
 len:t.length<=m
 ext:Ext (Z.new ca) Z'
def iZ (n:Int):By:=Lib.itoa n
def DU {n:Int}(h:0<=n):iZ n=dcN n.toNat:=XN h
def DX {n:Int}(h:SmW n):(iZ n).length<=11:=by
 obtain⟨b,c⟩:=h;by_cases a:0<=n
 ·rw[DU a];have:=Ia 9 n.toNat om;omega
 ·obtain rfl:n= -1:=om;exact z6z (by kernel_rfl:decide ((iZ (-1)).length<=11)=true)
def Lf {Z Z':St}{n:Int}(c:SmW n) (d:Z.read 1 0 20=some T7) (a:1<Z.n) (b:Ext Z Z'):go Tryz.prog HS (.fn 67) [.int .i64 n] Z'=some ⟨false,str (iZ n),Z'⟩:=by
 obtain⟨f,g⟩:=c;have e:go Tryz.prog HS (.fn 67) [.int .i64 n] Z'=bb (Aj (Z'.read 1 0 20) (some T7)) (bb (decide (-9223372036854775808<=n/\n<=9223372036854775807)) (some ⟨false,.string ⟨(Lib.itoa n).toArray⟩,Z'⟩)):=rfl;rw[e,Bs b a d,Tc,V0,dT,V0];rfl
def ei (n:Int):By:=if n=1 then Fj else if n=2 then CH else[]
def fZ (e:Ex):By:=if EM e=true then L9 12 0 e else[]
def AI3 {e:Ex}:(fZ e).length<=2400:=by
 unfold fZ;split
 ·rename_i h;obtain⟨a,b,c⟩:=NW h;have:=oJ a 12 0 b;omega
 ·simp
def dl (l:Lot):By:=spJ [[108,111,116],iZ l.id,[109,111,115,116],iZ l.G4]
def dc (c:S8):By:=spJ ([[99,114,105,116,101,114,105,111,110],c.name,ei c.kind,iZ c.low,iZ c.high]++if c.less=true then[Dy]else[])
def dr (r:Req):By:=spJ [[114,101,113,117,105,114,101],r.name,r.rel,iZ r.value]
def dk (c:List Int):By:=spJ ([[99,111,109,98,111]]++c.map fun n=>iZ n)
def D1 (T:Tn):By:=B0 T++under (T.F9.map dl)
def D2 (T:Tn):By:=D1 T++under (T.E9.map dc)
def D3 (T:Tn):By:=D2 T++under (T.reqs.map dr)
def D3p (T:Tn):By:=D3 T++(spJ [[112,114,105,99,101],iZ T.low,iZ T.high]++[10])
def D4 (T:Tn):By:=D3p T++(spJ [[102,111,114,109,117,108,97],fZ T.f]++[10])
def D5 (T:Tn):By:=D4 T++(if T.H2=[]then[]else spJ (QS::T.H2)++[10])
def D6 (T:Tn):By:=D5 T++(if T.G4=0 then[]else spJ [[109,111,115,116],iZ T.G4]++[10])
def D7 (T:Tn):By:=D6 T++under (T.C8.map dk)
def D8 (T:Tn):By:=D7 T++(spJ [[98,117,100,103,101,116],iZ T.C9]++[10])
def Bt (T:Tn):By:=D8 T++(spJ [[116,105,109,101,115],iZ T.t.q,iZ T.t.b,iZ T.t.g,iZ T.t.p,iZ T.t.s]++[10])
def HC {a:Type}{f g:a->By}{l:List a}(h:∀ x∈l,f x=g x):under (l.map f)=under (l.map g):=by rw[List.map_congr_left h]
def Jg {T:Tn}(h:BL T):Bt T=DY T:=by
 obtain⟨k,m,v,y,z⟩:=h.f;have j:D1 T=B1 T:=by
  unfold D1 B1;congr 1;refine HC fun x g=>?_;obtain⟨a,b,c⟩:=h.lot x g;unfold dl;rw[DU om,DU c.1];rfl
 have l:D2 T=B2 T:=by
  unfold D2 B2;rw[j];congr 1;refine HC fun x g=>?_;obtain⟨a,b,c,d⟩:=h.Y7 x g;unfold dc gc;rw[DU c.1,DU d.1];rcases b with b|b<;>rw[b]<;>rfl
 have o:D3 T=B3 T:=by
  unfold D3 B3;rw[l];congr 1;refine HC fun x g=>?_;obtain⟨a,b,c⟩:=h.req x g;unfold dr;rw[DU c.1];rfl
 have p:D4 T=B4 T:=by
  unfold D4 D3p B4;rw[o,DT,DU h.low.1,DU h.high.1];have:fZ T.f=L9 12 0 T.f:=by unfold fZ;rw[z1z (TI v y z)]
  rw[this];rfl
 have q:D5 T=B5 T:=by unfold D5 B5;rw[p];rfl
 have r:D6 T=B6 T:=by unfold D6 B6;rw[q,DU h.G4.1];rfl
 have s:D7 T=B7 T:=by
  unfold D7 B7;rw[r];congr 1;refine HC fun c u=>?_;obtain⟨a,b,d,e⟩:=h.combo c u;have:(c.map fun n=>iZ n)=c.map fun n=>dcN n.toNat:=List.map_congr_left fun n A=>DU (by have:=(e n A).1;omega);unfold dk gk;rw[this];have i:(c.map Int.toNat).map dcN=c.map fun n=>dcN n.toNat:=by rw[Td];rfl
  rw[<- i];rfl
 obtain⟨q1,q2,q3,q4,q5⟩:=h.t;unfold Bt D8;rw[s,DU h.C9.1,DU q1.1,DU q2.1,DU q3.1,DU q4.1,DU q5.1,ej,DT];rfl
def drC (l:List Nat):Code:=JE l ((Tryz.f37).body.getD .skip)
def vA {Z q:St}{j:Fr}{ca:List Value}{T:Tn}(E:Bj Z ca T) (y:WkT 4 1000 100 T) (o:Z.read 1 0 20=some T7) (m:1<Z.n) (h:DV Z ca (B0 T) 200 j q) :
  Ev (lim Tryz.prog HS none (drC [1,1,1,1,1,0]) j q) (fun r=>∃ fr Z',r=⟨.normal,fr,Z'⟩/\DV Z ca (D1 T) 10200 fr Z') ⟨⟩:=by
 obtain⟨vl,vc,vr,Q,vt,vk,G,D,R,U,V,W,vs,X,Y⟩:=E.parts;obtain⟨la,lc,lb,lo,lcs,rfl,l1,l2⟩:=D.use;have L1:=y.F9;have L:=G.p1;have B:Ext Z (Z.new ca):=eX;have M:q.row Z.n=some ca:=by rw[h.ext.row (by simp)];exact cL
 have a:=h.g1;simp only[drC,Tryz.f37,J2,M1,y7,y8,y9,AA];refine gU1 (aI @A6 (aI @C7 (aI a (aI M L)))) ?_
 refine I9 T.F9.length (fun k fr Z'=>fr.get 28=some (.int .i64 k)/\fr.get 27=some (.int .i64 (T.F9.length:Nat))/\fr.get 26=some (.slice la T.F9.length lc)/\DV Z ca (B0 T++under ((T.F9.take k).map dl)) (200+100*k) fr Z')
  (fun r=>∃ fr Z',r=⟨.exit 0,fr,Z'⟩/\DV Z ca (D1 T) 10200 fr Z') ?_ ?_ ?_ ?_
 ·obtain⟨a,g3,g4,g5,c,d,g,len,ext⟩:=h;exact⟨fR,fR,fR,fR1 a,fR1 g3,fR1 g4,fR1 g5,fR1 c,fR1 d,by rw[AU,Ca];exact g,by rw[AU,Ca];omega,ext⟩
 ·rintro k fr Z' v ⟨gk,e,i,a,g3,g4,g5,c,d,g,len,ext⟩;have F:=M3 v;have f:Ext Z Z':=B.trans ext;obtain⟨x,u⟩:=I3 v;obtain⟨sp,rfl,l3,l4⟩:=l1 om;have N:=eT (f.row l3) l4;obtain⟨m0,m1,m2⟩:=l2 k x u;obtain⟨z1,z2⟩:=y.lot x (y6 u);have H:=DX z1;have I:=DX z2;unfold Lot.row at m0;simp(maxSteps:=8000000) (disch:=first|exact dS|fail) only[↓bD,bU,reduceMul,reduceEqDiff,reduceAdd,Nat.reduceBEq,reduceIte,Option.isNone_none,A6,C7,gk,e,i,a,g3,g4,g5,F,N,m0,IV,PV];obtain⟨S,hS'⟩:=nW (((Z'.new [.int .i64 0,.int .i64 0] (some 78)).upd Z'.n [.int .i64 x.id,.int .i64 x.G4]));rw[hS'];have p:Ext Z' S:=by rw[<- hS'];exact eX
  have nS:S.n=Z'.n+1:=by rw[<- hS'];rfl
  have A:S.row Z'.n=some [.int .i64 x.id,.int .i64 x.G4]:=by rw[<- hS'];exact cL
  have J:=Lf z1 o m (f.trans p);have K:=Lf z2 o m (f.trans p);simp(maxSteps:=8000000) (disch:=first|exact dS|fail) only[↓bD,bU,reduceMul,reduceEqDiff,reduceAdd,Nat.reduceBEq,reduceIte,Option.isNone_none,A6,C7,gk,e,i,a,g3,g4,g5,A,J,K,IV,PV];refine(Ni (Z0:=Z.new ca) (b:=Z.n+1) (t:=B0 T++under ((T.F9.take k).map dl)) (l:=[[108,111,116],iZ x.id,[109,111,115,116],iZ x.G4]) (g.ext (p.trans (.new _ _))) (ext.trans (p.trans (.new _ _))) (by simp) rfl nL (by simp[spJ]at len ⊢;omega) (by simp) (cL)).mono ?_;rintro r ⟨O,rfl,s,C,z⟩;simp(maxSteps:=8000000) (disch:=first|exact dS|fail) only[↓bD,bU,reduceMul,reduceEqDiff,reduceAdd,Nat.reduceBEq,reduceIte,Option.isNone_none,A6,C7,gk,e,i,a,g3,g4,g5,A,asx (Ext.refl _),HR (z Z'.n nL (by simp;omega))]
  try refine T3.intro (by(repeat first|simp(disch:=omega) only[N7,Q9,N1,asx (Ext.refl _),HR (z Z'.n nL (by simp;omega))]|rw[U0 (by kernel_rfl)]);first|done|rfl) ?_
  try simp(maxSteps:=8000000) (disch:=first|exact dS|fail) only[↓bD,bU,reduceMul,reduceEqDiff,reduceAdd,Nat.reduceBEq,reduceIte,Option.isNone_none,A6,C7,gk,e,i,a,g3,g4,g5]
  have ht:B0 T++under ((T.F9.take (k+1)).map dl)=B0 T++under ((T.F9.take k).map dl)++(spJ [[108,111,116],iZ x.id,[109,111,115,116],iZ x.G4]++[10]):=by show _=B0 T++under ((T.F9.take k).map dl)++(dl x++[10]);rw[Co u,DT]
  exact⟨fR,fR1 e,fR1 i,fR1 a,fR1 g3,fR1 g4,fR1 g5,fR1 c,fR1 d,by rw[ht];exact s,by rw[ht];simp[spJ]at len ⊢;omega,C⟩
 ·rintro fr Z' ⟨gk,e,i,a,g3,g4,g5,c,d,g,len,ext⟩;simp(maxSteps:=8000000) (disch:=first|exact dS|fail) only[↓bD,bU,reduceMul,reduceEqDiff,reduceAdd,Nat.reduceBEq,reduceIte,Option.isNone_none,A6,C7,gk,e];exact⟨_,_,rfl,fR1 a,fR1 g3,fR1 g4,fR1 g5,fR1 c,fR1 d,by rw[AV]at g;exact g,by rw[AV]at len;show(B0 T++under (T.F9.map dl)).length<=_;omega,ext⟩
 rintro r ⟨fr,Z',rfl,h⟩;refine gU1 (aI @A6 @C7) ?_;exact⟨_,_,rfl,h⟩
end
end Go.Proofs.T
namespace Go.Proofs.T
open Go Go.Ab
def opsOf:Code->List Oper
 | .region _ os _=>os.toList
 |_=>[]
def Vp {fr:Fr}{t:By}:ev fr (.const (str t))=some (str t):=rfl
noncomputable def drL:List Oper:=opsOf (drC [1,1,1,1,1,1,0,1,2,3,1,1,0,2,1,0])
def G0:Gh:=⟨53,54,56,124,.int .i64 1,str [103,114,97,100,101],.int .i64 2,str [111,102,102,101,114]⟩
def xP {n:Int}(h:1<=n/\n<=3):∃ t:By,t.length<=5/\t=ei n/\YF Tryz.prog G0 (.int .i64 n)=some (str t)/\(pH drL (W6 drL (str t)) G0&&JV (W6 drL (str t)).toArray)=true/\veq (.int .i64 n) (.int .i64 n)=true:=by
 obtain rfl|rfl|rfl:n=1\/n=2\/n=3:=om
 ·exact⟨[103,114,97,100,101],by decide,rfl,by kernel_rfl,by kernel_rfl,by kernel_rfl⟩
 ·exact⟨[111,102,102,101,114],by decide,rfl,by kernel_rfl,by kernel_rfl,by kernel_rfl⟩
 ·exact⟨[],by decide,rfl,by kernel_rfl,by kernel_rfl,by kernel_rfl⟩
def BC0 {S:St}{fr:Fr}{X:Nat}{nm:By}{kd d c:Int}{h:Bool}(e:fr.get 9=some (.pointer (some ⟨X,0,none⟩))) (g5:fr.get 5=some IV) (i:S.row X=some [str nm,.int .i64 kd,.int .i64 d,.int .i64 c,.bool h])
  {a b:By} (f:go Tryz.prog HS (.fn 67) [.int .i64 d] S=some ⟨false,str a,S⟩) (g:go Tryz.prog HS (.fn 67) [.int .i64 c] S=some ⟨false,str b,S⟩) :
  Ev (K7 Tryz.prog (go Tryz.prog HS) (W6 drL (str [])).toArray (W6 drL (str [])) 0 fr S []) (fun r=>r.fr.get 56=some (.int .i64 kd)) ⟨⟩:=by
 simp only[drL,drC,Tryz.f37,J2,M1,y7,y8,y9,AA,opsOf,List.toList_toArray,W6,EH,Oh];unfold IV at g5;refine gU1 (aI @A6 (aI @C7 (aI e (aI g5 (aI i (aI f (aI g @Vp))))))) ?_;try exact⟨⟩
def Ak7 {S:St}{fr:Fr}{X:Nat}{nm:By}{kd o j:Int}{u:Bool}(h:fr.get 9=some (.pointer (some ⟨X,0,none⟩))) (g5:fr.get 5=some IV) (c:fr.get 53=none) (d:fr.get 54=none) (p:S.row X=some [str nm,.int .i64 kd,.int .i64 o,.int .i64 j,.bool u])
  {a b t:By} (l:go Tryz.prog HS (.fn 67) [.int .i64 o] S=some ⟨false,str a,S⟩) (m:go Tryz.prog HS (.fn 67) [.int .i64 j] S=some ⟨false,str b,S⟩)
  (q:YF Tryz.prog G0 (.int .i64 kd)=some (str t)) (f:(pH drL (W6 drL (str t)) G0&&JV (W6 drL (str t)).toArray)=true) (e:veq (.int .i64 kd) (.int .i64 kd)=true) :
  Ev (lim Tryz.prog HS none (.region 13 drL.toArray true) fr S) (fun r=>∃ fr',r=⟨.normal,fr',S.new [str [99,114,105,116,101,114,105,111,110],str nm,str t,str a,str b]⟩/\fr'.get 10=some (.slice (some ⟨S.n,0,none⟩) 5 5)/\∀ i,i<10\/i=45\/i=46\/i=47\/i=53\/i=54->fr'.get i=fr.get i) ⟨⟩:=by
 refine pF (g:=G0) (kv:= .int .i64 kd) (V:=str t) rfl kR c d q f (BC0 h g5 p l m) e ?_;simp only[drL,drC,Tryz.f37,J2,M1,y7,y8,y9,AA,opsOf,List.toList_toArray,W6,EH,Oh];unfold IV at g5;refine gU1 (aI @A6 (aI @C7 (aI h (aI g5 (aI p (aI l (aI m @Vp))))))) ?_;refine T3.intro (by(repeat first|simp(disch:=omega) only[N7,Q9,N1,asx (Ext.refl _)]|rw[U0 (by kernel_rfl)]);first|done|rfl) ?_;refine⟨rfl,?_⟩;refine gU1 (aI @A6 @C7) ?_;have s:G0.key=56:=rfl;refine⟨by simp only[s,Nat.reduceEqDiff,reduceIte],_,rfl,fR,fun i hi=>?_⟩
 iterate 15 rw[N4,z0z om]
end Go.Proofs.T
namespace Go.Proofs.T
open Go Go.Ab
open Nat (reduceMul reduceEqDiff reduceAdd)
section
variable {Z Z1:St}{fr1:Fr}{ca:List Value}{T:Tn}
def Ii {Z0:St}{b w n c N:Nat}{sp:Option Nat}{t:By}{l:List By}(h:BDN Z b t N) (f:Ext Z0 Z) (m:Z0.n<=b) (q:n=l.length) (o:n<=c) (p:(t++(spJ l++[10])).length<=1000000) (d:l.length<=1000000) (s:Z.row w=some (l.map str)):
  Ev (gO 64 [.slice (some ⟨w,0,sp⟩) n c,.pointer (some ⟨b,0,none⟩)] Z) (fun r=>∃ Z',r=⟨false,.tuple ⟨[]⟩,Z'⟩/\BD Z' b (t++(spJ l++[10]))/\Ext Z0 Z'/\∀ c,(c<Z0.n\/N<=c)->c<Z.n->Z'.h.get c=Z.h.get c) ⟨⟩:=by
 refine(Ni h f m q o p d s).mono ?_;rintro r ⟨g,rfl,i,e,u⟩;refine⟨g,rfl,i,e,fun c a j=>?_⟩;rcases a with a|a
 ·rw[e.same c a,f.same c a]
 ·exact u c a j
def yC (D:Bj Z ca T) (v:WkT 4 1000 100 T) (p:Z.read 1 0 20=some T7) (o:1<Z.n) (h:DV Z ca (D2 T) 20200 fr1 Z1):
  Ev (lim Tryz.prog HS none (drC [1,1,1,1,1,1,1,0]) fr1 Z1) (fun r=>∃ fr Z',r=⟨.normal,fr,Z'⟩/\DV Z ca (D3 T) 30200 fr Z') ⟨⟩:=by
 obtain⟨vl,X,vr,M,vt,Y,F,N,O,C,Q,R,vs,U,V⟩:=D.parts;obtain⟨la,lc,lb,lo,lcs,rfl,l1,l2⟩:=C.use;have L1:=v.reqs;have I:=F.p3;have A:Ext Z (Z.new ca):=eX;have J:Z1.row Z.n=some ca:=by rw[h.ext.row (by simp)];exact cL
 have a:=h.g1;simp only[drC,Tryz.f37,J2,M1,y7,y8,y9,AA];refine gU1 (aI @A6 (aI @C7 (aI a (aI J I)))) ?_
 refine I9 T.reqs.length (fun k fr Z'=>fr.get 79=some (.int .i64 k)/\fr.get 78=some (.int .i64 (T.reqs.length:Nat))/\fr.get 77=some (.slice la T.reqs.length lc)/\DV Z ca (D2 T++under ((T.reqs.take k).map dr)) (20200+100*k) fr Z')
  (fun r=>∃ fr Z',r=⟨.exit 4,fr,Z'⟩/\DV Z ca (D3 T) 30200 fr Z') ?_ ?_ ?_ ?_
 ·obtain⟨a,g3,g4,g5,c,d,f,len,ext⟩:=h;exact⟨fR,fR,fR,fR1 a,fR1 g3,fR1 g4,fR1 g5,fR1 c,fR1 d,by rw[AU,Ca];exact f,by rw[AU,Ca];omega,ext⟩
 ·rintro k fr Z' u ⟨gk,e,g,a,g3,g4,g5,c,d,f,len,ext⟩;have E:=M3 u;have i:Ext Z Z':=A.trans ext;obtain⟨x,q⟩:=I3 u;obtain⟨sp,rfl,l3,l4⟩:=l1 om;have K:=eT (i.row l3) l4;obtain⟨m0,m1,m2⟩:=l2 k x q;have s:=y6 q;obtain⟨ln,lr,z1⟩:=v.req x s;have G:=DX z1;unfold Req.row at m0;simp(maxSteps:=8000000) (disch:=first|exact dS|fail) only[↓bD,bU,reduceMul,reduceEqDiff,reduceAdd,Nat.reduceBEq,reduceIte,Option.isNone_none,A6,C7,gk,e,g,a,g3,g4,g5,E,K,m0,IV,PV];obtain⟨S,hS'⟩:=nW (((Z'.new [str [],str [],.int .i64 0] (some 82)).upd Z'.n [str x.name,str x.rel,.int .i64 x.value]));rw[hS'];have j:Ext Z' S:=by rw[<- hS'];exact eX
  have W:S.n=Z'.n+1:=by rw[<- hS'];rfl
  have z:S.row Z'.n=some [str x.name,str x.rel,.int .i64 x.value]:=by rw[<- hS'];exact cL
  have H:=Lf z1 p o (i.trans j);simp(maxSteps:=8000000) (disch:=first|exact dS|fail) only[↓bD,bU,reduceMul,reduceEqDiff,reduceAdd,Nat.reduceBEq,reduceIte,Option.isNone_none,A6,C7,gk,e,g,a,g3,g4,g5,z,H,IV,PV];refine(Ni (Z0:=Z.new ca) (b:=Z.n+1) (t:=D2 T++under ((T.reqs.take k).map dr)) (l:=[[114,101,113,117,105,114,101],x.name,x.rel,iZ x.value]) (f.ext (j.trans (.new _ _))) (ext.trans (j.trans (.new _ _))) (by simp) rfl nL (by simp[spJ]at len ⊢;omega) (by simp) (cL)).mono ?_;rintro r ⟨L,rfl,m,B,y⟩;simp(maxSteps:=8000000) (disch:=first|exact dS|fail) only[↓bD,bU,reduceMul,reduceEqDiff,reduceAdd,Nat.reduceBEq,reduceIte,Option.isNone_none,A6,C7,gk,e,g,a,g3,g4,g5,z,asx (Ext.refl _),HR (y Z'.n nL (by simp;omega))]
  try refine T3.intro (by(repeat first|simp(disch:=omega) only[N7,Q9,N1,asx (Ext.refl _),HR (y Z'.n nL (by simp;omega))]|rw[U0 (by kernel_rfl)]);first|done|rfl) ?_
  try simp(maxSteps:=8000000) (disch:=first|exact dS|fail) only[↓bD,bU,reduceMul,reduceEqDiff,reduceAdd,Nat.reduceBEq,reduceIte,Option.isNone_none,A6,C7,gk,e,g,a,g3,g4,g5]
  have ht:D2 T++under ((T.reqs.take (k+1)).map dr)=D2 T++under ((T.reqs.take k).map dr)++(spJ [[114,101,113,117,105,114,101],x.name,x.rel,iZ x.value]++[10]):=by show _=D2 T++under ((T.reqs.take k).map dr)++(dr x++[10]);rw[Co q,DT]
  exact⟨fR,fR1 e,fR1 g,fR1 a,fR1 g3,fR1 g4,fR1 g5,fR1 c,fR1 d,by rw[ht];exact m,by rw[ht];simp[spJ]at len ⊢;omega,B⟩
 ·rintro fr Z' ⟨gk,e,g,a,g3,g4,g5,c,d,f,len,ext⟩;simp(maxSteps:=8000000) (disch:=first|exact dS|fail) only[↓bD,bU,reduceMul,reduceEqDiff,reduceAdd,Nat.reduceBEq,reduceIte,Option.isNone_none,A6,C7,gk,e];exact⟨_,_,rfl,fR1 a,fR1 g3,fR1 g4,fR1 g5,fR1 c,fR1 d,by rw[AV]at f;exact f,by rw[AV]at len;show(D2 T++under (T.reqs.map dr)).length<=_;omega,ext⟩
 rintro r ⟨fr,Z',rfl,h⟩;refine gU1 (aI @A6 @C7) ?_;exact⟨_,_,rfl,h⟩
def re (o:Bj Z ca T) (d:WkT 4 1000 100 T) (c:Z.read 1 0 20=some T7) (a:1<Z.n) (h:DV Z ca (D3 T) 30200 fr1 Z1):
  Ev (lim Tryz.prog HS none (drC [1,1,1,1,1,1,1,1,0]) fr1 Z1) (fun r=>∃ fr Z',r=⟨.normal,fr,Z'⟩/\DV Z ca (D3p T) 30300 fr Z') ⟨⟩:=by
 obtain⟨L,J,M,B,N,K,i,C,D,E,F,G,vs,H,I⟩:=o.parts;obtain⟨g1,g3,g4,g5,g53,g54,bd,len,ext⟩:=h;have v:=i.p4;have y:=i.p5;have g:Ext Z (Z.new ca):=eX;have z:Z1.row Z.n=some ca:=eT (ext.row (by simp)) cL;have f:=ext.n;simp only[K9]at f;have s:=Lf d.low c a (g.trans ext);have u:=Lf d.high c a (g.trans ext);have p:=DX d.low;have q:=DX d.high;simp only[drC,Tryz.f37,J2,M1,y7,y8,y9,AA];simp(maxSteps:=8000000) (disch:=first|exact dS|fail) only[↓bD,bU,reduceMul,reduceEqDiff,reduceAdd,Nat.reduceBEq,reduceIte,Option.isNone_none,A6,C7,g1,g3,g4,g5,z,v,y,s,u,IV,PV];refine(Ii (Z0:=Z.new ca) (b:=Z.n+1) (t:=D3 T) (l:=[[112,114,105,99,101],iZ T.low,iZ T.high]) (bd.ext (.new _ _)) (ext.trans (.new _ _)) (by simp) rfl nL (by simp[spJ]at len ⊢;omega) (by simp) (cL)).mono ?_;rintro r ⟨A,rfl,e,m,j⟩
 try simp(maxSteps:=8000000) (disch:=first|exact dS|fail) only[↓bD,bU,reduceMul,reduceEqDiff,reduceAdd,Nat.reduceBEq,reduceIte,Option.isNone_none,A6,C7,asx (Ext.refl _),HR (j Z.n (.inl (by simp)) (by simp;omega))]
 try refine T3.intro (by(repeat first|simp(disch:=omega) only[N7,Q9,N1,asx (Ext.refl _),HR (j Z.n (.inl (by simp)) (by simp;omega))]|rw[U0 (by kernel_rfl)]);first|done|rfl) ?_
 try(refine gP1 g1 ?_;try exact⟨⟩)
 have ht:D3p T=D3 T++(spJ [[112,114,105,99,101],iZ T.low,iZ T.high]++[10]):=rfl;exact⟨_,_,rfl,fR1 g1,fR1 g3,fR1 g4,fR1 g5,fR1 g53,fR1 g54,by rw[ht];exact e,by rw[ht];simp[spJ]at len ⊢;omega,m⟩
def AQ2 (u:Bj Z ca T) (z:WkT 4 1000 100 T) (o:Z.read 1 0 20=some T7) (m:1<Z.n) (h:DV Z ca (D3p T) 30300 fr1 Z1):
  Ev (lim Tryz.prog HS none (drC [1,1,1,1,1,1,1,1,1,0]) fr1 Z1) (fun r=>∃ fr Z',r=⟨.normal,fr,Z'⟩/\DV Z ca (D4 T) 33000 fr Z') ⟨⟩:=by
 obtain⟨N,L,O,E,Q,M,v,F,G,H,s,I,vs,J,K⟩:=u.parts;obtain⟨g1,g3,g4,g5,g53,g54,bd,len,ext⟩:=h;have A:=v.p6;have q:Ext Z (Z.new ca):=eX;have B:Z1.row Z.n=some ca:=eT (ext.row (by simp)) cL;have j:=ext.n;simp only[K9]at j;have c:Ext Z Z1:=q.trans ext;have y:=AI3 (e:=T.f);simp only[drC,Tryz.f37,J2,M1,y7,y8,y9,AA];simp(maxSteps:=8000000) (disch:=first|exact dS|fail) only[↓bD,bU,reduceMul,reduceEqDiff,reduceAdd,Nat.reduceBEq,reduceIte,Option.isNone_none,A6,C7,g1,g3,g4,g5,B,A,IV,PV];refine(lN z.f nL (s.mono c) (Bs c m o) om).mono ?_;rintro r ⟨C,rfl,a⟩;have i:(if EM T.f=true then L9 12 0 T.f else[])=fZ T.f:=rfl;rw[i];simp(maxSteps:=8000000) (disch:=first|exact dS|fail) only[↓bD,bU,reduceMul,reduceEqDiff,reduceAdd,Nat.reduceBEq,reduceIte,Option.isNone_none,A6,C7,g1,g3,g4,g5,IV,PV];refine(Ii (Z0:=Z.new ca) (b:=Z.n+1) (t:=D3p T) (l:=[[102,111,114,109,117,108,97],fZ T.f]) (bd.ext (a.trans (.new _ _))) (ext.trans (a.trans (.new _ _))) (by simp) rfl nL (by simp[spJ]at len ⊢;omega) (by simp) (cL)).mono ?_;rintro r ⟨D,rfl,g,d,p⟩
 try simp(maxSteps:=8000000) (disch:=first|exact dS|fail) only[↓bD,bU,reduceMul,reduceEqDiff,reduceAdd,Nat.reduceBEq,reduceIte,Option.isNone_none,A6,C7,asx (Ext.refl _),HR (p Z.n (.inl (by simp)) (by have:=a.n;simp;omega))]
 try refine T3.intro (by(repeat first|simp(disch:=omega) only[N7,Q9,N1,asx (Ext.refl _),asx a,HR (p Z.n (.inl (by simp)) (by have:=a.n;simp;omega))]|rw[U0 (by kernel_rfl)]);first|done|rfl) ?_
 try(refine gP1 g1 ?_;try exact⟨⟩)
 have ht:D4 T=D3p T++(spJ [[102,111,114,109,117,108,97],fZ T.f]++[10]):=rfl;exact⟨_,_,rfl,fR1 g1,fR1 g3,fR1 g4,fR1 g5,fR1 g53,fR1 g54,by rw[ht];exact g,by rw[ht];simp[spJ]at len ⊢;omega,d⟩
end
end Go.Proofs.T
