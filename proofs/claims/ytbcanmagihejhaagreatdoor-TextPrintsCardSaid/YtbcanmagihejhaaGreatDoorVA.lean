/- YB on the types of the Fb. -/
import Derived.Test.YtbcanmagihejhaaGreatDoorSA
set_option linter.unusedSimpArgs false
set_option linter.unusedVariables false
set_option linter.defProp false
set_option maxHeartbeats 32000000
set_option maxRecDepth 100000
namespace Go.Proofs.T
open Go Go.Ab
section
variable {fr:Fr}{Z:St}{x ix a v:Operand}{ve:Value}
end
section
variable {fr:Fr}{Z:St}{x ix a v:Operand}{ve:Value}
end
set_option linter.defProp false
def Pb {p:Int->Bool}{s:By}{k j:Nat}(h:j<R3 p s k):∃ c,s[k+j]? =some c/\on p c=true:=by
 obtain⟨c,b,a⟩:=oO (show j<((s.drop k).takeWhile (on p)).length from h);rw[List.getElem?_drop]at b;exact⟨c,b,a⟩
def yG {c:UInt8}(h:on DC c=true):on J3 c=false:=by
 cases a:on J3 c
 ·rfl
 ·have b:=TT a;unfold on DC at h;simp at h;omega
section
variable {b:Nat}{Z:St}{tv:Value}{A7:List Tok}{k:Nat}{H4:List Value}
end
def AD1 {n d:Nat}:qn (n:Nat) (d:Nat)=(n / Nat.gcd n d:Nat)/\qd (n:Nat) (d:Nat)=(d / Nat.gcd n d:Nat):=by
 have a:Int.gcd (n:Nat) (d:Nat)=Nat.gcd n d:=rfl;unfold qn qd;rw[z0z om,z0z om,a];exact⟨rfl,rfl⟩
def rf (n:Nat) (s:By):Prop:=n<=s.length/\∀ (j:Nat) (c:UInt8),s[j]? =some c->(c=46↔j=n)
def yE {n:Nat}{s:By}(h:rf n s):BJ s=(s.take n,s.drop (n+1)):=by
 obtain⟨q,g⟩:=h;have a:∀ x∈s.take n,x≠46:=fun x p e=>by
  obtain⟨j,d⟩:=eZ.1 p;rw[List.getElem?_take]at d;split at d
  ·have:=(g j x d).1 e;omega
  ·cases d
 by_cases o:n<s.length
 ·obtain⟨c,i⟩:=I3 o;have f:=(g n c i).2 rfl;have e:s=s.take n++46::s.drop (n+1):=by
   obtain⟨l,m⟩:=List.getElem?_eq_some_iff.1 i
   conv=>lhs;rw[<- ph n s,Mk l,m,f]
  have:=gR (t:=s.drop (n+1)) a;rw[<- e]at this;exact this
 ·have e:n=s.length:=om;rw[e,Dq]at a ⊢;rw[Ub a,rh om]
section
variable {L:Nat->Prop}{b:Nat}{Z τ:St}{tv:Value}{A7:List Tok}{k:Nat}{H4:List Value}
end
section
variable {L:Nat->Prop}{b:Nat}{Z S τ:St}{tv:Value}{A7:List Tok}{k p:Nat}{H4:List Value}{F:Nat->Nat->Except Er Fx}{fr:Fr}
end
section
variable {L:Nat->Prop}{b:Nat}{Z S τ:St}{tv:Value}{A7:List Tok}{k p:Nat}{H4:List Value}{F:Nat->Nat->Except Er Fx}{fr:Fr}
end
def AG9 {t:By}:opB [42,47] t=(decide (t=[42])||decide (t=[47])):=by
 match t with
 | []=>rfl
 | [c]=>
   by_cases f:c=42
   ·subst f;rfl
   ·by_cases g:c=47
    ·subst g;rfl
    ·have a:decide (([c]:By)=[42])=false:=z4z (by simp[f]);have e:decide (([c]:By)=[47])=false:=z4z (by simp[g]);rw[a,e];show(!decide (CD c [42,47]<0))=false;have i:((42:UInt8)==c)=false:=by rw[ah];exact fun h=>f h.symm
     have j:((47:UInt8)==c)=false:=by rw[ah];exact fun h=>g h.symm
     rw[FB,FB,i,j];rfl
 | c::d::r=>
   have a:decide ((c::d::r:By)=[42])=false:=z4z (by simp);have e:decide ((c::d::r:By)=[47])=false:=z4z (by simp);rw[a,e];rfl
def AH0 {t:By}:opB [43,45] t=(decide (t=[43])||decide (t=[45])):=by
 match t with
 | []=>rfl
 | [c]=>
   by_cases f:c=43
   ·subst f;rfl
   ·by_cases g:c=45
    ·subst g;rfl
    ·have a:decide (([c]:By)=[43])=false:=z4z (by simp[f]);have e:decide (([c]:By)=[45])=false:=z4z (by simp[g]);rw[a,e];show(!decide (CD c [43,45]<0))=false;have i:((43:UInt8)==c)=false:=by rw[ah];exact fun h=>f h.symm
     have j:((45:UInt8)==c)=false:=by rw[ah];exact fun h=>g h.symm
     rw[FB,FB,i,j];rfl
 | c::d::r=>
   have a:decide ((c::d::r:By)=[43])=false:=z4z (by simp);have e:decide ((c::d::r:By)=[45])=false:=z4z (by simp);rw[a,e];rfl
section
variable {L:Nat->Prop}{b:Nat}{Z S τ:St}{tv:Value}{A7:List Tok}{k p:Nat}{H4:List Value}{A:Nat->Nat->Except Er Fx}
end
section
variable {k p a:Nat}{A:Nat->Nat->Except Er Fx}{ops t s:By}
def ZH:∀ (l:By) (n:Nat),l.all (on J3)=true->As n l<(n+1)*10 ^ l.length
 | [],n,_=>by simp[As]
 | c::l,n,h=>by
   rw[MZ,T1]at h;have hc:=TT h.1;have:=ZH l (10*n+(c.toNat+208) % 256) h.2;have e:As n (c::l)=As (10*n+(c.toNat+208) % 256) l:=rfl;rw[e,AG,Gd];have b:(c.toNat+208) % 256=c.toNat-48:=om;rw[b]at this ⊢;refine z5z this ?_;have d:10*n+(c.toNat-48)+1<=(n+1)*10:=om
   calc (10*n+(c.toNat-48)+1)*10 ^ l.length<=((n+1)*10)*10 ^ l.length:=SZ _ d
    _=(n+1)*(10 ^ l.length*10):=by rw[Ek,Cd 10]
def yD {v:Nat}{b:By}(E:b.all (on J3)=true) (I:v<=1000000000) (H:b.length<=6) (l:v<1000000000\/b=[]):
  MI (As v b / Nat.gcd (As v b) (10 ^ b.length):Nat) (10 ^ b.length / Nat.gcd (As v b) (10 ^ b.length):Nat):=by
 have o:0<10 ^ b.length:=bL om;have B:As v b<=1000000000*10 ^ b.length:=by
  rcases l with l|l
  ·have F:=ZH b v E;have G:(v+1)*10 ^ b.length<=1000000000*10 ^ b.length:=SZ _ om;omega
  ·subst l;show v<=1000000000*10 ^ 0;omega
 have u:10 ^ b.length∣1000000:=by
  have e:(1000000:Nat)=10 ^ b.length*10 ^ (6-b.length):=by rw[<- rY];have:b.length+(6-b.length)=6:=om
                                                           rw[this]
  exact⟨_,e⟩
 generalize As v b=N at *;generalize 10 ^ b.length=D at *;have i:=AB6 (n:=(N:Nat)) (d:=(D:Nat)) om;rw[AD1.1,AD1.2]at i;obtain⟨g,m⟩:=nW (Nat.gcd N D);have h:0<g:=by rw[<- m];exact eK _ o
 obtain⟨n',j⟩:g∣N:=by rw[<- m];exact Nat.gcd_dvd_left _ _
 obtain⟨d',f⟩:g∣D:=by rw[<- m];exact Nat.gcd_dvd_right _ _
 rw[m]at i ⊢;have q:N / g=n':=by rw[j,AD8 _ h]
 have r:D / g=d':=by rw[f,AD8 _ h]
 rw[q,r]at i ⊢;refine XG i.1 i.2 om ?_ ?_
 ·obtain⟨c,C⟩:=u;have:(1000000:Nat)=d'*(g*c):=by rw[C,f,Cd g d',Ek]
  have y:1000000 % d'=0:=Nat.mod_eq_zero_of_dvd ⟨_,this⟩;have:((1000000 % d':Nat):Int)=0:=by rw[y];rfl
  exact this
 ·have z:g*n'<=g*(1000000000*d'):=by
   rw[<- j,<- Ek,Cd g 1000000000,Ek,<- f];exact B
  have:=Nat.le_of_mul_le_mul_left z h;omega
def iY (A7:List Tok):Prop:=∀ t∈A7,GB J3 t.1=true->∃ n,rf n t.1/\(t.1.drop (n+1)).all (on J3)=true
section
variable {A7:List Tok}
def Rd1 (A7:List Tok) (p:Nat) (R:Except Er Fx):Prop:=(∀ e d k p',R= .ok (e,d,k,p')->p<=p'/\FW d (p'-p) e/\k<A7.length)/\∀ q er,R= .error (q,er)->er≠0
def Pa {w:By}(b:Ends A7) (d:w≠[]) (c:k<A7.length):(∀ k',Dg A7 w k= .ok k'->k'=k+1/\k'<A7.length)/\∀ q er,Dg A7 w k= .error (q,er)->er≠0:=by
 unfold Dg;by_cases h:(E8 A7 k).1=w
 ·rw[z1z h];exact⟨fun k' e=>by cases e;exact⟨rfl,b k _ (R9 c) (by rw[h];exact d)⟩,fun q er e=>by cases e⟩
 ·rw[z0z h];exact⟨fun k' e=>by(cases e),fun q er e=>by cases e;omega⟩
def AQ3 (l:Ends A7) (r:iY A7)(i:k<A7.length) (c:GB J3 (E8 A7 k).1=true):Rd1 A7 p (SV A7 k p):=by
 obtain⟨n,m,o⟩:=r _ (y6 (R9 i)) c;have b:=yE m;have g:(E8 A7 k).1≠[]:=by intro e;rw[e]at c;cases c
 have f:=l k _ (R9 i) g;unfold SV;rw[b];dsimp only;split
 ·split
  ·rename_i c1 c2;simp only[T1,II,Ej]at c2;refine⟨fun e d k' j e=>?_,fun q h e=>by cases e⟩;cases e;refine⟨om,?_,f⟩;rw[show p+1-p=1 by omega];exact .num (yD o c2.1.1 c2.1.2 c2.2)
  ·exact⟨fun e d k' j e=>by(cases e),fun q h e=>by cases e;omega⟩
 ·exact⟨fun e d k' j e=>by(cases e),fun q h e=>by cases e;omega⟩
def AQ4 {F:Nat->Nat->Except Er Fx}(l:Ends A7) (S:iY A7)(K:k<A7.length) (B:∀ k' p',k<k'->k'<A7.length->Rd1 A7 p' (F k' p')) (R:∀ k p,Bd k p (F k p)):Rd1 A7 p (Hy F A7 k p):=by
 have H:(E8 A7 k).1≠[]->k+1<A7.length:=l k _ (R9 K);unfold Hy;split
 ·rename_i h;exact AQ3 l S K h
 ·split
  ·rename_i h;have g:=H (by rw[h];simp);obtain⟨f1,z⟩:=B (k+1) p om g;cases m:F (k+1) p with
   |error f=>obtain⟨q,j⟩:=f;rw[I8];exact⟨fun e d k' p' e=>by(cases e),fun i b e=>by cases e;exact z _ _ m⟩
   | ok x=>
     obtain⟨O,N,L,Y⟩:=x;obtain⟨a1,a2,a3⟩:=f1 _ _ _ _ m;rw[F0];dsimp only;obtain⟨I,J⟩:=Pa (w:=[41]) l (by simp) a3;cases o:Dg A7 [41] L with
     |error f=>obtain⟨q,j⟩:=f;rw[I8];exact⟨fun e d k' p' e=>by(cases e),fun i b e=>by cases e;exact J _ _ o⟩
     | ok v=>
       rw[F0];exact⟨fun e d k' p' e=>by cases e;exact⟨a1,a2,(I _ o).2⟩,fun i b e=>by(cases e)⟩
  ·split
   ·rename_i Q c;have G:(E8 A7 k).1≠[]:=by intro e;rw[e]at c;cases c
    have g:=H G;obtain⟨I,J⟩:=Pa (w:=[40]) l (by simp) g;cases o:Dg A7 [40] (k+1)with
    |error f=>obtain⟨q,j⟩:=f;rw[I8];exact⟨fun e d k' p' e=>by(cases e),fun i b e=>by cases e;exact J _ _ o⟩
    | ok L=>
      obtain⟨rfl,C⟩:=I _ o;rw[F0];obtain⟨f1,z⟩:=B (k+1+1) p om C;cases m:F (k+1+1) p with
      |error f=>obtain⟨q,j⟩:=f;rw[I8];exact⟨fun e d k' p' e=>by(cases e),fun i b e=>by cases e;exact z _ _ m⟩
      | ok x=>
        obtain⟨O,N,v,y⟩:=x;obtain⟨a1,a2,a3⟩:=f1 _ _ _ _ m;have V:=(R _ _ _ _ _ _ m).1;rw[F0];dsimp only;obtain⟨s3,s4⟩:=Pa (w:=[44]) l (by simp) a3;cases r:Dg A7 [44] v with
        |error f=>obtain⟨q,j⟩:=f;rw[I8];exact⟨fun e d k' p' e=>by(cases e),fun i b e=>by cases e;exact s4 _ _ r⟩
        | ok k3=>
          obtain⟨rfl,D⟩:=s3 _ r;rw[F0];obtain⟨f3,f4⟩:=B (v+1) y om D;cases n:F (v+1) y with
          |error f=>obtain⟨q,j⟩:=f;rw[I8];exact⟨fun e d k' p' e=>by(cases e),fun i b e=>by cases e;exact f4 _ _ n⟩
          | ok x=>
            obtain⟨X,W,U,M⟩:=x;obtain⟨c1,c2,c3⟩:=f3 _ _ _ _ n;rw[F0];dsimp only;obtain⟨s5,s6⟩:=Pa (w:=[41]) l (by simp) c3;cases u:Dg A7 [41] U with
            |error f=>obtain⟨q,j⟩:=f;rw[I8];exact⟨fun e d k' p' e=>by(cases e),fun i b e=>by cases e;exact s6 _ _ u⟩
            | ok k5=>
              rw[F0];refine⟨fun e d k' p' e=>?_,fun i b e=>by(cases e)⟩;cases e;refine⟨om,?_,(s5 _ u).2⟩;rw[show M+1-p=(y-p)+(M-y)+1 by omega];refine .mm ?_ a2 c2;rw[II,z3z,z3z]at c;exact c
   ·rename_i c;split
    ·rename_i E;have g:=H (by intro e;rw[e]at E;cases E);refine⟨fun e d k' p' e=>?_,fun i b e=>by(cases e)⟩;cases e;refine⟨om,?_,g⟩;rw[show p+1-p=1 by omega];rw[nN,AD9,GF,GF]at c;exact .name E c.1 c.2
    ·exact⟨fun e d k' p' e=>by(cases e),fun q j e=>by cases e;omega⟩
def lO (r:Ends A7) (j:∀ t,opB ops t=true->t=[43]\/t=[45]\/t=[42]\/t=[47]){k0:Nat}(z:∀ k p,k0<k->k<A7.length->Rd1 A7 p (A k p)) (B:∀ k p,Bd k p (A k p)):
  ∀ (f:Nat) (e:Ex) (d k p p0:Nat),k0<=k->k<A7.length->p0<=p->FW d (p-p0) e->Rd1 A7 p0 (Ce A ops A7 f (e,d,k,p)):=by
 intro f;induction f with
 |zero=>intro e d k p p0 y c l b;exact⟨fun e d k' n e=>by cases e;exact⟨l,b,c⟩,fun q m e=>by(cases e)⟩
 | succ f ih=>
   intro e d k p p0 y c l b;rw[Am];by_cases g:opB ops (E8 A7 k).1=true
   ·rw[z1z g];have i:=r k _ (R9 c) (AQ5 g);obtain⟨f1,v⟩:=z (k+1) p om i;cases h:A (k+1) p with
    |error C=>obtain⟨q,m⟩:=C;rw[I8];exact⟨fun e d k' n e=>by(cases e),fun H u e=>by cases e;exact v _ _ h⟩
    | ok x=>
      obtain⟨F,E,G,o⟩:=x;obtain⟨a1,a2,a3⟩:=f1 _ _ _ _ h;have D:=(B _ _ _ _ _ _ h).1;rw[F0];dsimp only;refine ih _ _ _ _ p0 om a3 om ?_;rw[show o+1-p0=(p-p0)+(o-p)+1 by omega];exact .bin (j _ g) b a2
   ·rw[z0z g];exact⟨fun e d k' n e=>by cases e;exact⟨l,b,c⟩,fun q m e=>by(cases e)⟩
def ZI (h:Ends A7) (c:∀ t,opB ops t=true->t=[43]\/t=[45]\/t=[42]\/t=[47])(m:k<A7.length) (f:∀ k' p',k<=k'->k'<A7.length->Rd1 A7 p' (A k' p')) (g:∀ k p,Bd k p (A k p)):Rd1 A7 p (Eh A ops A7 k p):=by
 unfold Eh;obtain⟨f1,j⟩:=f k p nL m;cases b:A k p with
 |error n=>obtain⟨q,v⟩:=n;rw[I8];exact⟨fun e d k' p' e=>by(cases e),fun C i e=>by cases e;exact j _ _ b⟩
 | ok x=>
   obtain⟨u,r,z,B⟩:=x;obtain⟨a1,a2,a3⟩:=f1 _ _ _ _ b;have o:=(g _ _ _ _ _ _ b).1;rw[F0];exact lO (k0:=k) h c (fun k' p' y l=>f k' p' om l) g _ _ _ _ _ _ om a3 a1 a2
def AQ6 (h:opB [42,47] t=true):t=[43]\/t=[45]\/t=[42]\/t=[47]:=by
 rw[AG9,II,z3z,z3z]at h;rcases h with h|h<;>simp[h]
def AQ7 (h:opB [43,45] t=true):t=[43]\/t=[45]\/t=[42]\/t=[47]:=by
 rw[AH0,II,z3z,z3z]at h;rcases h with h|h<;>simp[h]
def nK (b:Ends A7) (i:iY A7):∀ (f k p:Nat),A7.length-k<=f->k<A7.length->Rd1 A7 p (PA A7 f k p):=by
 intro f;induction f with
 |zero=>intro k p d c;omega
 | succ f ih=>
   intro k p d c;refine ZI b (fun t=>AQ7) c (fun k' r m e=>?_) fun k p=>Hz (fun k p=>KI (Jz f) k p) k p;refine ZI b (fun t=>AQ6) e (fun q u n g=>?_) fun k p=>KI (Jz f) k p;exact AQ4 b i g (fun j l o h=>ih j l om h) (Jz f)
def yF (f:Ends A7) (l:iY A7) (j:0<A7.length){q:Nat}{c:Int}(h:JO A7= .error (q,c)):c≠0:=by
 obtain⟨f1,i⟩:=nK f l A7.length 0 0 om j;unfold JO at h;cases b:PA A7 A7.length 0 0 with
 |error m=>obtain⟨n,g⟩:=m;rw[b,I8]at h;cases h;exact i _ _ b
 | ok x=>
   obtain⟨e,d,k,p⟩:=x;rw[b,F0]at h;dsimp only at h;split at h
   ·split at h
    ·cases h;omega
    ·cases h
   ·cases h;omega
end
def AQ8:∀ (f k:Nat),∀ t∈fT s a f k,GB J3 t.1=true->∃ n,rf n t.1/\(t.1.drop (n+1)).all (on J3)=true:=by
 intro f;induction f with
 |zero=>intro k t ht;unfold fT at ht;cases ht
 | succ f ih=>
   intro k t ht u;unfold fT at ht;cases v:s[k]? with
   |none=>rw[v]at ht;cases ht
   | some c=>
     rw[v]at ht;dsimp only at ht;split at ht
     ·exact ih _ t ht u
     ·rcases V9.1 ht with rfl|ht
      ·dsimp only at u ⊢;have L:=Mo v;obtain⟨I,J⟩:=List.getElem?_eq_some_iff.1 v;obtain⟨m,hm⟩:∃ m,P7 s k c=k+m:=⟨P7 s k c-k,om⟩
       rw[hm,Nat.add_sub_cancel_left]at u ⊢;have M:((s.drop k).take m).length=m:=by rw[KW,HW];omega
       have D:∀ j,j<m->((s.drop k).take m)[j]? =s[k+j]? :=fun j d=>by rw[List.getElem?_take,z1z d,List.getElem?_drop]
       have z:((s.drop k).take m)[0]? =some c:=by rw[D 0 om];exact v
       have l:on J3 c=true:=by
        cases ht:(s.drop k).take m with
        |nil=>rw[ht]at z;cases z
        |cons x w=>rw[ht]at z u;cases z;exact u
       have E:on DC c=false:=by
        cases h:on DC c
        ·rfl
        ·rw[yG h]at l;cases l
       have B:P7 s k c=if (decide (k+R3 J3 s k<s.length)&&decide (s[k+R3 J3 s k]? =some 46)&&decide (k+R3 J3 s k+1<min (k+R3 J3 s k+1) s.length+R3 J3 s (min (k+R3 J3 s k+1) s.length)))=true
         then min (k+R3 J3 s k+1) s.length+R3 J3 s (min (k+R3 J3 s k+1) s.length)else k+R3 J3 s k:=by
        unfold P7;rw[z0z (by rw[E];simp),z1z l]
       have q:∀ {x:UInt8},on J3 x=true->x≠46:=fun{x} h e=>by rw[e]at h;exact absurd h (by decide)
       rw[hm]at B;split at B
       ·rename_i C;rw[T1,T1,z3z,z3z,z3z]at C;obtain⟨⟨K,G⟩,H⟩:=C;rw[vw om]at B H;obtain⟨r,hr⟩:=nW (R3 J3 s k);rw[hr]at B K G H;refine⟨r,⟨om,fun j x d=>?_⟩,?_⟩
        ·have o:j<m:=by
          have:=(List.getElem?_eq_some_iff.1 d).1;omega
         rw[D j o]at d;rcases bj j r with h|h|h
         ·obtain⟨y,g,b⟩:=Pb (p:=J3) (s:=s) (k:=k) (j:=j) om;rw[d]at g;cases g;exact⟨fun e=>absurd e (q b),fun e=>om⟩
         ·subst h;rw[G]at d;cases d;exact⟨fun _=>rfl,fun _=>rfl⟩
         ·obtain⟨y,g,b⟩:=Pb (p:=J3) (s:=s) (k:=k+r+1) (j:=j-(r+1)) om;rw[show k+r+1+(j-(r+1))=k+j by omega,d]at g;cases g;exact⟨fun e=>absurd e (q b),fun e=>om⟩
        ·rw[GH];intro x C;obtain⟨i,hi⟩:=eZ.1 C;rw[List.getElem?_drop]at hi;have F:r+1+i<m:=by
          have:=(List.getElem?_eq_some_iff.1 hi).1;omega
         rw[D _ F]at hi;obtain⟨y,g,b⟩:=Pb (p:=J3) (s:=s) (k:=k+r+1) (j:=i) om;rw[show k+r+1+i=k+(r+1+i) by omega,hi]at g;cases g;exact b
       ·refine⟨m,⟨om,fun j x d=>?_⟩,by rw[rh om];rfl⟩;have o:j<m:=by
         have:=(List.getElem?_eq_some_iff.1 d).1;omega
        rw[D j o]at d;obtain⟨y,g,b⟩:=Pb (p:=J3) (s:=s) (k:=k) (j:=j) om;rw[d]at g;cases g;exact⟨fun e=>absurd e (q b),fun e=>om⟩
      ·exact ih _ t ht u
def TN:iY (Ck s a):=by
 intro t ht b;unfold Ck at ht;rcases An.1 ht with ht|ht
 ·exact AQ8 _ _ t ht b
 ·rw[Cb]at ht;subst ht;cases b
end
def z5:List Value:=[str [],.int .i64 0,.int .i64 0,str [],.slice none 0 0]

end Go.Proofs.T
