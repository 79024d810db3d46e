/- How BV8 names BV9; bits of a number; the picks that bits say. -/
import Derived.Test.YtgjocfjdecjhoaaGreatDoorILA
set_option linter.unusedSimpArgs false
set_option linter.unusedVariables false
set_option linter.defProp false
set_option maxHeartbeats 32000000
set_option maxRecDepth 100000
namespace Go.Proofs.T
open Go Go.Ab Go.N9
def AJ5 {k m:Nat}{e:Ex}(he:FW k m e):∀ {Z:St}{row:List Value},P8 Z row e->m<=1000 ->
  Ev (gO 17 [.agg ⟨row⟩] Z) (fun r=>∃ Z',r=⟨false,.int .i64 ((S8 e).length:Nat),Z'⟩/\Ext Z Z') ⟨⟩:=by
 have two:∀ {o:By}{a b:Ex}{J K:Nat},Op6 o->(S8 a).length<=J->(S8 b).length<=K->J+K<=1000 ->
   (∀ {Z:St}{row:List Value},P8 Z row a->Ev (gO 17 [.agg ⟨row⟩] Z) (fun r=>∃ Z',r=⟨false,.int .i64 ((S8 a).length:Nat),Z'⟩/\Ext Z Z') ⟨⟩) ->
   (∀ {Z:St}{row:List Value},P8 Z row b->Ev (gO 17 [.agg ⟨row⟩] Z) (fun r=>∃ Z',r=⟨false,.int .i64 ((S8 b).length:Nat),Z'⟩/\Ext Z Z') ⟨⟩) ->
   ∀ {Z:St}{row:List Value},P8 Z row (.mk o 0 0 [] [a,b])->Ev (gO 17 [.agg ⟨row⟩] Z) (fun r=>∃ Z',r=⟨false,.int .i64 ((S8 (.mk o 0 0 [] [a,b])).length:Nat),Z'⟩/\Ext Z Z') ⟨⟩:=by
  intro o a b J K W l1 l2 a0 l p Z row g;rw[El (JD W),CU];obtain⟨v,I,rfl,z,-,y⟩:=g;obtain⟨B,off,sp,c,cells,r1,r2,rfl,l3,l4,s1,s2,x1,x2⟩:=Dh z y;have L:decide (o=[110,97,109,101])=false:=by rcases W with rfl|rfl|rfl|rfl|rfl|rfl<;>decide
  refine C8 Tryz.func17 rfl rfl ?_;refine gS1 L ?_;obtain⟨S1,u⟩:=nW ((Z.new [str o,.int .i64 0,.int .i64 0,str [],.slice (some ⟨B,off,sp⟩) 2 c]));have F:Ext Z S1:=by rw[<- u];exact eX
  have n1:S1.n=Z.n+1:=by rw[<- u];rfl
  have G:S1.row Z.n=some [str o,.int .i64 0,.int .i64 0,str [],.slice (some ⟨B,off,sp⟩) 2 c]:=by rw[<- u];exact cL
  try rw[u]
  obtain⟨A,Y⟩:=nW ((S8 a).length);obtain⟨D,hD⟩:=nW ((S8 b).length);rw[Y]at l l1 ⊢;rw[hD]at p l2 ⊢
  let cnt:Nat->Nat:=fun k=>if k=0 then 0 else if k=1 then A else A+D
  have w1:L9 .i64 (((cnt 0:Nat):Int)+(A:Int))=((cnt 1:Nat):Int):=by
   show L9 .i64 (((0:Nat):Int)+(A:Int))=(A:Int)
   rw[o7,wrap64_in om om];omega
  have w2:L9 .i64 (((cnt 1:Nat):Int)+(D:Int))=((cnt 2:Nat):Int):=by
   show L9 .i64 ((A:Int)+(D:Int))=((A+D:Nat):Int)
   rw[o7,wrap64_in om om];omega
  refine G8 2 (fun k f i=>Ext S1 i/\f.get 4=some (.int .i64 k)/\f.get 3=some (.int .i64 (cnt k:Nat))/\f.get 1=some (.pointer (some ⟨Z.n,0,none⟩)))
   (fun r=>∃ f i,r=⟨.exit 0,f,i⟩/\Ext S1 i/\f.get 3=some (.int .i64 (A+D:Nat))) ?_ ?_ ?_ ?_
  ·exact⟨.refl _,fR,fR,fR⟩
  ·rintro k f i O ⟨j,C,q,s⟩;have H:=eT (j.row om) G;have U:i.row B=some cells:=by rw[(F.trans j).row l3];exact l4
   have c1:decide (k<2)=true:=AW O;have V:Nat.blt k 2=true:=by rw[BW];exact O
   have R:k=0\/k=1:=om;rcases R with rfl|rfl
   ·refine gS1 (aI C (aI q (aI s (aI H (aI U (aI c1 (aI V (aI s1 (aI @GH @j7))))))))) ?_;refine(l (x1.mono (F.trans j))).mono ?_;rintro r ⟨X,rfl,E⟩;refine gS1 (aI C (aI q s)) ?_;exact⟨j.trans E,fR,by rw[w1],fR1 s⟩
   ·refine gS1 (aI C (aI q (aI s (aI H (aI U (aI c1 (aI V (aI s2 @RN)))))))) ?_;refine(p (x2.mono (F.trans j))).mono ?_;rintro r ⟨X,rfl,E⟩;refine gS1 (aI C (aI q s)) ?_;exact⟨j.trans E,fR,by rw[w2],fR1 s⟩
  ·rintro f i ⟨j,C,q,s⟩;have H:=eT (j.row om) G;have c1:decide (2<2)=false:=by decide
   refine gS1 (aI C (aI s (aI H c1))) ?_;exact⟨_,_,rfl,j,fR1 q⟩
  rintro r ⟨f,i,rfl,j,q⟩;refine gS1 (aI q @Tryz.results17) ?_;exact⟨_,rfl,F.trans j⟩
 induction he with
 |bin h M N l p=>exact fun g S=>two (lY h) (JS M) (JS N) om (fun g=>l g om) (fun g=>p g om) g
 |mm h M N l p=>exact fun g S=>two (mm6 h) (JS M) (JS N) om (fun g=>l g om) (fun g=>p g om) g
 | @num n d h=>
   intro Z row g S;obtain⟨v,I,rfl,z,-,y⟩:=g;obtain rfl:I=[]:=y;obtain⟨a,c,b,off,cells,rfl,-,-⟩:=SL.use z;rw[No];have L:decide (([110,117,109]:By)=[110,97,109,101])=false:=by decide
   refine C8 Tryz.func17 rfl rfl ?_;unfold K8;rw[Jg];refine gS1 L ?_
   refine G8 0 (fun k f i=>Ext Z i/\i.row Z.n=some [str [110,117,109],.int .i64 n,.int .i64 d,str [],.slice a 0 c]/\f.get 4=some (.int .i64 k)/\f.get 3=some (.int .i64 0)/\f.get 1=some (.pointer (some ⟨Z.n,0,none⟩)))
    (fun r=>∃ f i,r=⟨.exit 0,f,i⟩/\Ext Z i/\f.get 3=some (.int .i64 0)) ?_ ?_ ?_ ?_
   ·exact⟨eX,cL,fR,fR,fR⟩
   ·intro k f i O;omega
   ·rintro f i ⟨j,G,C,q,s⟩;have c1:decide (0<0)=false:=by decide
    refine gS1 (aI C (aI s (aI G c1))) ?_;exact⟨_,_,rfl,j,fR1 q⟩
   rintro r ⟨f,i,rfl,j,q⟩;refine gS1 (aI q @Tryz.results17) ?_;exact⟨_,rfl,j⟩
 | @name nm h1 h2 h3=>
   intro Z row g S;obtain⟨v,I,rfl,z,-,y⟩:=g;rw[Gr];refine C8 Tryz.func17 rfl rfl ?_;unfold nmB;refine gS1 @Tryz.results17 ?_;exact⟨_,rfl,eX⟩
section
variable {T:Tn}{e:Ex}{NN:List By}{j k m:Nat}
def enc:List Bool->Nat
 | []=>0
 |b::bs=>b.toNat+2*enc bs
def tX:∀ bs:List Bool,enc bs<2 ^ bs.length
 | []=>by decide
 | b::bs=>by
   have:=tX bs;rw[Ap,HG];show b.toNat+2*enc bs<_;cases b
   ·show 0+2*enc bs<_;omega
   ·show 1+2*enc bs<_;omega
def jV:∀ {bs:List Bool}{i:Nat}{b:Bool},bs[i]? =some b->enc bs / 2 ^ i % 2=b.toNat
 | [],i,b,h=>by simp at h
 | c::bs,0,b,h=>by
   cases h;show(c.toNat+2*enc bs) / 2 ^ 0 % 2=c.toNat;cases c
   ·show(0+2*enc bs) / 1 % 2=0;omega
   ·show(1+2*enc bs) / 1 % 2=1;omega
 | c::bs,i+1,b,h=>by
   have:=jV (bs:=bs) (i:=i) (b:=b) (by simpa using h);rw[<- this,HG,DG (2 ^ i) 2,<- Nat.div_div_eq_div_mul];have e:enc (c::bs) / 2=enc bs:=by
    show(c.toNat+2*enc bs) / 2=enc bs;cases c
    ·show(0+2*enc bs) / 2=enc bs;omega
    ·show(1+2*enc bs) / 2=enc bs;omega
   rw[e]
def wid (T:Tn) (nm:By):Int:=(N4 T nm).2.1-(N4 T nm).1
def Cj (T:Tn) (NN:List By) (j:Nat):List Int:=NN.mapIdx fun i nm=>wid T nm*((j / 2 ^ i % 2:Nat):Int)
def Gt:(Cj T NN j).length=NN.length:=by unfold Cj;rw[List.length_mapIdx]
def TL {i:Nat}{nm:By}(h:NN[i]? =some nm):(Cj T NN j)[i]? =some (wid T nm*((j / 2 ^ i % 2:Nat):Int)):=by
 unfold Cj;rw[List.getElem?_mapIdx,h];rfl
def aj {names:List By}{picks:List Int}{nm:By}(a:names.Nodup){i:Nat}(hi:names[i]? =some nm):∀ k,i<k->k<=names.length->GU names picks nm k=(picks[i]?).getD 0
 |0,h,_=>om
 | k+1,h,hk=>by
   unfold GU;by_cases e:names[k]? =some nm
   ·rw[z1z e];have:i=k:=by
     exact(List.getElem?_inj (List.getElem?_eq_some_iff.1 hi).1 a).1 (hi.trans e.symm)
    rw[this]
   ·rw[z0z e];exact aj a hi k (by
     rcases Nat.lt_or_eq_of_le (Nat.le_of_lt_succ h)with h|h
     ·exact h
     ·exact absurd (h ▸ hi) e) om
def ak (h:K5 T e) (l:(S8 e).Nodup){s:By->Int}(n:Nn T s):∃ j,j<2 ^ (S8 e).length/\∀ nm∈S8 e,sAt T (S8 e) (Cj T (S8 e) j) nm=s nm:=by
 refine⟨enc ((S8 e).map fun nm=>decide (s nm≠(N4 T nm).1)),?_,fun nm f=>?_⟩
 ·have:=tX ((S8 e).map fun nm=>decide (s nm≠(N4 T nm).1))
  rwa [z2z]at this
 ·obtain⟨a,b,d,o,-,-⟩:=h nm f;have g:=KL d;obtain⟨i,hi⟩:=List.getElem?_of_mem f;obtain⟨hil,-⟩:=List.getElem?_eq_some_iff.1 hi;unfold sAt;rw[Gt,Nat.min_self,aj l hi _ hil nL,TL hi,jV (b:=decide (s nm≠(N4 T nm).1)) (by rw[List.getElem?_map,hi];rfl)];unfold wid;rw[g];show a+(b-a)*((decide (s nm≠a)).toNat:Int) % (b-a+1)=s nm;rcases n nm a b d with e|e
  ·rw[e,z4z (by simp)];show a+(b-a)*((0:Nat):Int) % (b-a+1)=a;simp
  ·by_cases c:b=a
   ·subst c;rw[e,z4z (by simp)];show b+(b-b)*((0:Nat):Int) % (b-b+1)=b;simp
   ·rw[e,AW c];show a+(b-a)*((1:Nat):Int) % (b-a+1)=b;rw[Int.ofNat_one,Int.mul_one,Int.emod_eq_of_lt om om];omega
def TM (f:BdT T)(a:FW k m e) (g:K5 T e) (b:(S8 e).Nodup){x:QQ}(i:U7 T e= .ok x) (w:Q) (h:w=x.1\/w=x.2):
  ∃ j,j<2 ^ (S8 e).length/\Fs (sAt T (S8 e) (Cj T (S8 e) j)) e=some w:=by
 obtain⟨s,c,d⟩:=tight f a b i w h;obtain⟨j,j1,j2⟩:=ak g b c;exact⟨j,j1,by rw[MX a (t:=s) j2];exact d⟩
def aq (n:∀ nm a b,O5 T nm=some (a,b)-> -1000000000<=a/\b<=1000000000)(o:FW k m e):∀ {x:QQ},U7 T e= .ok x->K5 T e:=by
 induction o with
 |num h=>intro x _ nm f;rw[No]at f;cases f
 | @name s g i l=>
   intro x c nm f;rw[Gr,JB]at f;subst f;rw[AD]at c;unfold HK at c;rw[z0z (by decide)]at c;cases d:O5 T nm with
   |none=>rw[d]at c;cases c
   | some ab=>
     obtain⟨a,b⟩:=ab;rw[d]at c;dsimp only at c;split at c
     ·cases c
     ·have:=n nm a b d;exact⟨a,b,d,om,this.1,this.2⟩
 | bin h ha d iha ihb=>
   intro x c;rw[Ax]at c;obtain⟨u,v,g,i,l⟩:=Oo c;exact AK (lY h) (iha g) (ihb i)
 | mm h ha d iha ihb=>
   intro x c;rw[Ax]at c;obtain⟨u,v,g,i,l⟩:=Oo c;exact AK (mm6 h) (iha g) (ihb i)
end
section
variable {T:Tn}{j m:Nat}{e:Ex}{NN:List By}{b:Bool}
section
variable {P:Program}{t:TypeId}{x y:Operand}
def AF9 (c:m<9223372036854775808):Aq P .and t x y (.int .i64 (m:Nat)) (.int .i64 1)=some (.int .i64 ((m % 2:Nat):Int)):=by
 rw[sB];have a:(BitVec.ofInt 64 (m:Int)).toNat=m:=by
  rw[toNat_ofInt ⟨om,om⟩];rfl
 have h:(BitVec.ofInt IntKind.i64.bits (m:Int) &&& BitVec.ofInt IntKind.i64.bits 1).toNat=m % 2:=by
  show(BitVec.ofInt 64 (m:Int) &&& BitVec.ofInt 64 1).toNat=m % 2;rw[BitVec.toNat_and,a];exact Nat.and_one_is_mod m
 rw[h,wrap64_in om om]
def AG0 {i:Nat}(hi:i<=64):Aq P .shr t x y (.int .i64 (j:Nat)) (.int .i64 (i:Nat))=some (.int .i64 ((j / 2 ^ i:Nat):Int)):=by
 rw[HB hi om];congr 2
def jx {N:Nat}(h:N<=5):Aq P .shl t x y (.int .i64 1) (.int .i64 (N:Nat))=some (.int .i64 ((2 ^ N:Nat):Int)):=by
 have:N=0\/N=1\/N=2\/N=3\/N=4\/N=5:=om;rcases this with rfl|rfl|rfl|rfl|rfl|rfl<;>(rw[pR om];rfl)
end
def GD (f:Nat->Bool):Nat->Bool
 |0=>false
 |k+1=>GD f k||f k
def PI {f:Nat->Bool}{i:Nat}(h:f i=true):∀ n,i<n->GD f n=true
 |0,hi=>om
 | n+1,hi=>by
   unfold GD;by_cases e:i=n
   ·rw[<- e,h,Bool.or_true]
   ·rw[PI h n om,Bool.true_or]
def isB (T:Tn) (NN:List By) (e:Ex) (w:Q) (j:Nat):Bool:=decide (Fs (sAt T NN (Cj T NN j)) e=some w)
def Ad6 {w:Q}{q:Q}(h:Fs (sAt T NN (Cj T NN j)) e=if b=true then some q else none):isB T NN e w j=(b&&decide (q=w)):=by
 unfold isB;rw[h];cases b
 ·rw[z0z (by decide)];simp
 ·rw[z1z rfl];simp
def Vp {w:Q}{q:Q}(h:Fs (sAt T NN (Cj T NN j)) e=if b=true then some q else none):GD (isB T NN e w) (j+1)=(GD (isB T NN e w) j||(b&&decide (q=w))):=by
 show(_||isB T NN e w j)=_;rw[Ad6 h]
def AQ2 {a b:Q}:(decide (a.n=b.n)&&decide (a.d=b.d))=decide (a=b):=by
 obtain⟨c,f⟩:=a;obtain⟨b1,b2⟩:=b;rw[z7z];simp
def YD (h:SE T):∀ nm a b,O5 T nm=some (a,b)-> -1000000000<=a/\b<=1000000000:=by
 intro nm a b d;have n:=h.rng.l1;have o:=h.rng.l3;have p:=h.rng.h1;have q:=h.rng.h5;unfold O5 at d;split at d
 ·cases d;exact⟨om,om⟩
 ·cases f:T.G7.find? (fun c=>decide (c.name=nm))with
  |none=>rw[f]at d;cases d
  | some c=>
    rw[f]at d;cases d;obtain⟨-,-,-,g,i,k,l⟩:=h.rng.Dn c (Mx f).1;exact⟨om,om⟩
def nr {k:Nat}(d:FW k m e){x:QQ}(h:Me T e=(x,0)):AF e=true/\U7 T e= .ok x:=by
 unfold Me at h;cases c:AF e with
 |false=>rw[c,z0z (by decide)]at h;cases h
 | true=>
   rw[c,z1z rfl]at h;cases a:U7 T e with
   |error j=>rw[a]at h;exact absurd (congrArg Prod.snd h) (eC d j a)
   |ok y=>rw[a]at h;cases h;exact⟨rfl,rfl⟩
end
end Go.Proofs.T
