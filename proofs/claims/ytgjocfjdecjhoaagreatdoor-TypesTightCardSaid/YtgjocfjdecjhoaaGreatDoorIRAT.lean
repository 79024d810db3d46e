/- Operations on bits, and BG2. -/
import Derived.Test.YtgjocfjdecjhoaaGreatDoorITF
import Derived.Test.YtgjocfjdecjhoaaGreatDoorIQA
set_option linter.unusedSimpArgs false
set_option linter.unusedVariables false
set_option linter.defProp false
set_option maxHeartbeats 32000000
set_option maxRecDepth 100000
namespace Go.Ab
open Go
section
variable {m n:Int}{v:Value}
section
variable {P:Program}{t:TypeId}{x y:Operand}
def jB {b:BinOp}(a:b= .and\/b= .or\/b= .xor\/b= .andNot){k:IntKind}(h:Op.intBits b k m n= .pure v) (c:KO v=true):Aq P b t x y (.int k m) (.int k n)=some v:=by
 have key:Em P b t x y (.int k m) (.int k n)=some v:=by
  unfold Em;rcases a with rfl|rfl|rfl|rfl<;>(simp only[eqGuard,binOp,ne_eq,not_true_eq_false,GZ,h];show ob (some v) cst=_;rw[D5];unfold cst;rw[c];rfl)
 show orV (JW b (.int k m) (.int k n)) (bi (flat (.int k m)&&flat (.int k n)) (Em P b t x y (.int k m) (.int k n)) _)=_;rw[key];rcases a with rfl|rfl|rfl|rfl<;>cases k<;>rfl
def sB {k:IntKind}:Aq P .and t x y (.int k m) (.int k n)=some (.int k (k.wrap ((BitVec.ofInt k.bits m &&& BitVec.ofInt k.bits n).toNat:Nat))):=jB (.inl rfl) rfl rfl
def Ar7 {k:IntKind}:Aq P .or t x y (.int k m) (.int k n)=some (.int k (k.wrap ((BitVec.ofInt k.bits m ||| BitVec.ofInt k.bits n).toNat:Nat))):=jB (.inr (.inl rfl)) rfl rfl
def Zs {b:BinOp}(c:b= .shl\/b= .shr){k a:IntKind}(h:Op.shift b k m a n= .pure v) (e:KO v=true):Aq P b t x y (.int k m) (.int a n)=some v:=by
 have key:Em P b t x y (.int k m) (.int a n)=some v:=by
  unfold Em;rcases c with rfl|rfl<;>(simp only[eqGuard,binOp];rw[h];show ob (some v) cst=_;rw[D5];unfold cst;rw[e];rfl)
 show orV (JW b (.int k m) (.int a n)) (bi (flat (.int k m)&&flat (.int a n)) (Em P b t x y (.int k m) (.int a n)) _)=_;rw[key];have d:JW b (.int k m) (.int a n)=none:=by
  show bb (keq k a) (Ar8 b k m n)=none;rcases c with rfl|rfl<;>cases keq k a<;>rfl
 rw[d];rfl
def pR {k a:IntKind}(b:0<=n):Aq P .shl t x y (.int k m) (.int a n)=some (.int k (k.wrap (m*2 ^ min n.toNat k.bits))) :=
 Zs (.inl rfl) (by unfold Op.shift;rw[z0z om];rfl) rfl
def AY4 {k a:IntKind}(b:0<=n):Aq P .shr t x y (.int k m) (.int a n)=some (.int k (m.fdiv (2 ^ min n.toNat k.bits))) :=
 Zs (.inr rfl) (by unfold Op.shift;rw[z0z om];rfl) rfl
def sD (m n:Int):Int:=((BitVec.ofInt 64 m &&& BitVec.ofInt 64 n).toNat:Nat)
def AT4 (m n:Int):Int:=((BitVec.ofInt 64 m ||| BitVec.ofInt 64 n).toNat:Nat)
def Sp (v:BitVec 64):IntKind.u64.wrap ((v.toNat:Nat):Int)=((v.toNat:Nat):Int):=by
 have h:=v.isLt;show((v.toNat:Nat):Int) % 18446744073709551616=_;omega
def Yk:Aq P .and t x y (.int .u64 m) (.int .u64 n)=some (.int .u64 (sD m n)):=by rw[sB];exact congrArg (fun z=>some (Value.int .u64 z)) (Sp _)
def xr:Aq P .or t x y (.int .u64 m) (.int .u64 n)=some (.int .u64 (AT4 m n)):=by rw[Ar7];exact congrArg (fun z=>some (Value.int .u64 z)) (Sp _)
def HB {k b:IntKind}{n:Nat}(a:n<=k.bits) (c:0<=m):Aq P .shr t x y (.int k m) (.int b (n:Int))=some (.int k (m / 2 ^ n)):=by
 rw[AY4 om,Jq,pS a,Int.fdiv_eq_ediv_of_nonneg _ (Int.pow_nonneg om)]
end
section
def toNat_ofInt (h:0<=m/\m<18446744073709551616):(BitVec.ofInt 64 m).toNat=m.toNat:=by
 rw[BitVec.toNat_ofInt];show(m % 18446744073709551616).toNat=_;rw[Int.emod_eq_of_lt h.1 h.2]
def HC (h:0<=m/\m<18446744073709551616):sD m 4294967295=m % 4294967296:=by
 unfold sD;rw[BitVec.toNat_and,toNat_ofInt h,toNat_ofInt ⟨om,om⟩];show((m.toNat &&& (2 ^ 32-1):Nat):Int)=_;rw[Nat.and_two_pow_sub_one_eq_mod];omega
end
end
end Go.Ab
namespace Go.Proofs.T
open Go Go.Ab Go.N9
open Nat (reduceMul reduceEqDiff reduceAdd)
section
variable {P:Program}{x y:Operand}{m n c:Int}{Z:St}
def U64 (n:Int):Prop:=0<=n/\n<18446744073709551616
def HD:L9 .u64 n=n % 18446744073709551616:=o7 _ _
def Al (a:0<=n) (b:n<18446744073709551616):L9 .u64 n=n:=by rw[HD];exact Int.emod_eq_of_lt a b
def Rh {t:TypeId}(h:0<=m):Aq P .shr t x y (.int .u64 m) (.int .u64 32)=some (.int .u64 (m / 4294967296)):=HB (n:=32) (by decide) h
def AB1 {t:TypeId}(h:0<=m):Aq P .shr t x y (.int .u64 m) (.int .u64 16)=some (.int .u64 (m / 65536)):=HB (n:=16) (by decide) h
def sh8 {t:TypeId}(h:0<=m):Aq P .shr t x y (.int .u64 m) (.int .u64 8)=some (.int .u64 (m / 256)):=HB (n:=8) (by decide) h
def wP {x y:Int}(d:U64 x) (e:U64 y):
  Ev (gO 108 [.int .u64 x,.int .u64 y] Z) (fun r=>r=⟨false,.tuple ⟨[.int .u64 (x*y / 18446744073709551616),.int .u64 (x*y % 18446744073709551616)]⟩,Z⟩) ⟨⟩:=by
 have b:=Av4 d e;dsimp only at b;have v:L9 .u64 (x*y)=x*y % 18446744073709551616:=HD;have g:=HC d;have h:=HC e;obtain⟨k,a⟩:=nW (x % 4294967296);obtain⟨x1,hx1⟩:=nW (x / 4294967296);obtain⟨y0,hy0⟩:=nW (y % 4294967296);obtain⟨y1,hy1⟩:=nW (y / 4294967296);have j:=d.1;have f:=e.1;rw[a,hx1,hy0,hy1]at b;rw[a]at g;rw[hy0]at h;obtain⟨P0,hP0⟩:=nW (k*y0);obtain⟨P1,hP1⟩:=nW (x1*y0);obtain⟨P2,hP2⟩:=nW (k*y1);obtain⟨P3,hP3⟩:=nW (x1*y1);rw[hP0,hP1,hP2,hP3]at b;obtain⟨m0,m1,m2,m3,m4,m5,m6⟩:=b;obtain⟨t,ht⟩:=nW (P1+P0 / 4294967296);rw[ht]at m2 m4 m6;have i:=HC (m:=t) m2;obtain⟨t0,ht0⟩:=nW (t % 4294967296);obtain⟨w1,hw1⟩:=nW (t0+P2);rw[ht0,hw1]at m4 m6;rw[ht0]at i;have w0:L9 .u64 P0=P0:=Al m0.1 m0.2;have l:L9 .u64 P1=P1:=Al m1.1 m1.2;have o:L9 .u64 t=t:=Al m2.1 m2.2;have p:L9 .u64 P2=P2:=Al m3.1 m3.2;have q:L9 .u64 w1=w1:=Al m4.1 m4.2;have s:L9 .u64 P3=P3:=Al m5.1 m5.2;have q0:0<=x*y:=Int.mul_nonneg j f;have q1:x*y / 18446744073709551616<18446744073709551616:=by
  have:x*y<=18446744073709551615*18446744073709551615:=Int.mul_le_mul (by have:=d.2;omega) (by have:=e.2;omega) f om;omega
 have u:L9 .u64 (P3+t / 4294967296)=P3+t / 4294967296:=Al om om;have w8:L9 .u64 (P3+t / 4294967296+w1 / 4294967296)=x*y / 18446744073709551616:=by rw[m6];exact Al om q1
 refine C8 Tryz.func108 rfl rfl ?_;simp(maxSteps:=8000000) (disch:=first|exact dS|fail) only[↓bD,bW,reduceMul,reduceEqDiff,reduceAdd,Nat.reduceBEq,reduceIte,Option.isNone_none,Yk,Rh j,Rh f,Rh m0.1,Rh m2.1,Rh m4.1,g,h,i,hx1,hy1,hP0,hP1,hP2,hP3,ht,hw1,w0,l,o,p,q,s,u,w8,v,Tryz.results108]
def aO {x y:Int}(b:U64 x) (d:U64 y)(a:c=0\/c=1):
  go Tryz.prog HS (.fn 190) [.int .u64 x,.int .u64 y,.int .u64 c] Z=some ⟨false,.tuple ⟨[.int .u64 ((x+y+c) % 18446744073709551616),.int .u64 ((x+y+c) / 18446744073709551616)]⟩,Z⟩:=by
 obtain⟨X,rfl⟩:=FM b.1;obtain⟨Y,rfl⟩:=FM d.1;rcases a with rfl|rfl
 ·have e:go Tryz.prog HS (.fn 190) [.int .u64 (X:Int),.int .u64 (Y:Int),.int .u64 0] Z=some ⟨false,.tuple ⟨[.int .u64 (((X+Y+0) % 18446744073709551616:Nat):Int),.int .u64 (((X+Y+0) / 18446744073709551616:Nat):Int)]⟩,Z⟩:=kR;rw[e];congr 6<;>omega
 ·have e:go Tryz.prog HS (.fn 190) [.int .u64 (X:Int),.int .u64 (Y:Int),.int .u64 1] Z=some ⟨false,.tuple ⟨[.int .u64 (((X+Y+1) % 18446744073709551616:Nat):Int),.int .u64 (((X+Y+1) / 18446744073709551616:Nat):Int)]⟩,Z⟩:=kR;rw[e];congr 6<;>omega
def aP {x y:Int}(d:U64 x) (a:U64 y)(b:c=0\/c=1):
  go Tryz.prog HS (.fn 191) [.int .u64 x,.int .u64 y,.int .u64 c] Z=some ⟨false,.tuple ⟨[.int .u64 ((x-y-c) % 18446744073709551616),.int .u64 (if x<y+c then 1 else 0)]⟩,Z⟩:=by
 obtain⟨X,rfl⟩:=FM d.1;obtain⟨Y,rfl⟩:=FM a.1;have f:=a.2;have hi:∀ c:Nat,((if X<Y+c then(1:Nat)else 0:Nat):Int)=if (X:Int)<(Y:Int)+(c:Int)then 1 else 0:=fun c=>by
  by_cases h:X<Y+c
  ·rw[z1z h,z1z om];rfl
  ·rw[z0z h,z0z om];rfl
 rcases b with rfl|rfl
 ·have e:go Tryz.prog HS (.fn 191) [.int .u64 (X:Int),.int .u64 (Y:Int),.int .u64 0] Z=some ⟨false,.tuple ⟨[.int .u64 (((X+18446744073709551616-Y-0) % 18446744073709551616:Nat):Int),.int .u64 ((if X<Y+0 then(1:Nat)else 0:Nat):Int)]⟩,Z⟩:=kR;rw[e,hi 0];congr 6;omega
 ·have e:go Tryz.prog HS (.fn 191) [.int .u64 (X:Int),.int .u64 (Y:Int),.int .u64 1] Z=some ⟨false,.tuple ⟨[.int .u64 (((X+18446744073709551616-Y-1) % 18446744073709551616:Nat):Int),.int .u64 ((if X<Y+1 then(1:Nat)else 0:Nat):Int)]⟩,Z⟩:=kR;rw[e,hi 1];congr 6;omega
end
end Go.Proofs.T
namespace Go.Proofs.T
open Go Go.Ab Go.N9
def l8 (n:Nat):Nat:=if n<1 then 0 else if n<2 then 1 else if n<4 then 2 else if n<8 then 3 else if n<16 then 4 else if n<32 then 5 else if n<64 then 6 else if n<128 then 7 else 8
def AB0:((List.range 256).all fun k=>decide (sub (List.append (List.append [0,1,2,2,3,3,3,3,4,4,4,4,4,4,4,4,5,5,5,5,5,5,5,5,5,5,5,5,5,5,5,5,6,6,6,6,6,6,6,6,6,6,6,6,6,6,6,6,6,6,6,6,6,6,6,6,6,6,6,6,6,6,6,6] [7,7,7,7,7,7,7,7,7,7,7,7,7,7,7,7,7,7,7,7,7,7,7,7,7,7,7,7,7,7,7,7,7,7,7,7,7,7,7,7,7,7,7,7,7,7,7,7,7,7,7,7,7,7,7,7,7,7,7,7,7,7,7,7]) (List.append [8,8,8,8,8,8,8,8,8,8,8,8,8,8,8,8,8,8,8,8,8,8,8,8,8,8,8,8,8,8,8,8,8,8,8,8,8,8,8,8,8,8,8,8,8,8,8,8,8,8,8,8,8,8,8,8,8,8,8,8,8,8,8,8] [8,8,8,8,8,8,8,8,8,8,8,8,8,8,8,8,8,8,8,8,8,8,8,8,8,8,8,8,8,8,8,8,8,8,8,8,8,8,8,8,8,8,8,8,8,8,8,8,8,8,8,8,8,8,8,8,8,8,8,8,8,8,8,8]):List UInt8) k 1=some [UInt8.ofNat (l8 k)]))=true:=kR
def KV {k:Nat}(h:k<256):sub (List.append (List.append [0,1,2,2,3,3,3,3,4,4,4,4,4,4,4,4,5,5,5,5,5,5,5,5,5,5,5,5,5,5,5,5,6,6,6,6,6,6,6,6,6,6,6,6,6,6,6,6,6,6,6,6,6,6,6,6,6,6,6,6,6,6,6,6] [7,7,7,7,7,7,7,7,7,7,7,7,7,7,7,7,7,7,7,7,7,7,7,7,7,7,7,7,7,7,7,7,7,7,7,7,7,7,7,7,7,7,7,7,7,7,7,7,7,7,7,7,7,7,7,7,7,7,7,7,7,7,7,7]) (List.append [8,8,8,8,8,8,8,8,8,8,8,8,8,8,8,8,8,8,8,8,8,8,8,8,8,8,8,8,8,8,8,8,8,8,8,8,8,8,8,8,8,8,8,8,8,8,8,8,8,8,8,8,8,8,8,8,8,8,8,8,8,8,8,8] [8,8,8,8,8,8,8,8,8,8,8,8,8,8,8,8,8,8,8,8,8,8,8,8,8,8,8,8,8,8,8,8,8,8,8,8,8,8,8,8,8,8,8,8,8,8,8,8,8,8,8,8,8,8,8,8,8,8,8,8,8,8,8,8]):List UInt8) k 1=some [UInt8.ofNat (l8 k)]:=z6z (GY.1 AB0 k (xY.2 h))
def Aa6 (n:Nat) (x:Int):Prop:=(x<2 ^ n/\n<=64)/\(1<=x->1<=n/\2 ^ (n-1)<=x)
def Hs {k:Nat}(h:k<256) (s:Nat) (n:s<=56){x:Int}(o:0<=x) (a:x / 2 ^ s=(k:Nat)) (c:0<s->1<=k):Aa6 (s+l8 k) x:=by
 have f:(0:Int)<2 ^ s:=Int.pow_pos om;have l:=Int.mul_ediv_add_emod x (2 ^ s);have r:=Int.emod_nonneg x (show(2:Int) ^ s≠0 by omega);have u:=Int.emod_lt_of_pos x f;rw[a]at l;have key:(k:Int)+1<=2 ^ l8 k/\l8 k<=8/\(1<=k->1<=l8 k/\(2:Int) ^ (l8 k-1)<=k):=by
  unfold l8
  repeat' split
  all_goals (refine⟨om,om,fun _=>⟨om,om⟩⟩)
 obtain⟨g,p,i⟩:=key;refine⟨⟨?_,om⟩,fun m=>?_⟩
 ·rw[Int.pow_add];have:(2:Int) ^ s*(k+1)<=2 ^ s*2 ^ l8 k:=Int.mul_le_mul_of_nonneg_left g om;rw[Int.mul_add]at this;omega
 ·have d:1<=k:=by
   rcases Wf s with e|e
   ·subst e;rw[Int.pow_zero,Int.ediv_one]at a;omega
   ·exact c e
  obtain⟨q,j⟩:=i d;refine⟨om,?_⟩;have b:s+l8 k-1=s+(l8 k-1):=om;rw[b,Int.pow_add];have:(2:Int) ^ s*2 ^ (l8 k-1)<=2 ^ s*k:=Int.mul_le_mul_of_nonneg_left j om;omega
section
variable {Z:St}{k:Nat}{x:Int}
def EI {n:Int}:IX Tryz.prog Z 101 5 (.int .u64 n)=some ⟨.int .u8 (IntKind.u8.wrap n),Z,.none⟩:=kR
def GA:l8 k<=8:=by
 unfold l8
 repeat' split
 all_goals omega
def KW:((UInt8.ofNat (l8 k)).toNat:Nat)=l8 k:=by
 have:=GA (k:=k);rw[UInt8.toNat_ofNat'];omega
def Ht {c:UInt8}:lJ [c]=some (.int .u8 (c.toNat:Nat)):=rfl
def w8 {n:Nat}(h:n<=8):IntKind.i64.wrap (n:Int)=(n:Nat):=wrap64_in om om
def tS (H:U64 x):Ev (gO 216 [.int .u64 x] Z) (fun r=>∃ n:Nat,r=⟨false,.int .i64 (n:Nat),Z⟩/\Aa6 n x) ⟨⟩:=by
 obtain⟨K,L⟩:=H;refine C8 Tryz.func216 rfl rfl ?_;cases i:decide (x<(4294967296:Int))with
 | true=>
   have I:=z6z i;cases c1:decide (x<(65536:Int))with
   | true=>
     have F:=z6z c1;cases b:decide (x<(256:Int))with
     | true=>
       have l:=z6z b;obtain⟨k,rfl⟩:=FM (show 0<=x by omega);have a:k<256:=om;have ht:=KV a;have e:IntKind.u8.wrap (k:Int)=(k:Nat):=Ep om om;have d:=w8 (GA (k:=k));have j:=GA (k:=k);have c:((0:Int))+((l8 k:Nat):Int)=((0+l8 k:Nat):Int):=om;refine gS1 (aI i (aI c1 (aI b (aI @EI (aI e (aI ht (aI @KW (aI @Ht (aI d (aI c (a3N @D6 @D8 @Tryz.results216))))))))))) ?_;exact⟨l8 k,rfl,by have:=Hs a 0 om (x:=(k:Nat)) om (by rw[Int.pow_zero,Int.ediv_one]) (fun h=>om);rwa [GK]at this⟩
     | false=>
       have l:=z9z b;obtain⟨J,p⟩:=nW (x / 256);have E:=p;obtain⟨k,f⟩:=FM (show 0<=J by omega);subst f;have a:k<256:=om;have ht:=KV a;have e:IntKind.u8.wrap (k:Int)=(k:Nat):=Ep om om;have d:=w8 (GA (k:=k));have j:=GA (k:=k);have c:((8:Int))+((l8 k:Nat):Int)=((8+l8 k:Nat):Int):=om;refine gS1 (aI i (aI c1 (aI b (aI @sh8 (aI p (aI @EI (aI e (aI ht (aI @KW (aI @Ht (aI d (aI c (a3N @D6 @D8 @Tryz.results216))))))))))))) ?_;exact⟨8+l8 k,rfl,Hs a 8 om om (by rw[show(2:Int) ^ 8=256 by decide];exact E) (fun _=>om)⟩
   | false=>
     have F:=z9z c1;obtain⟨m,G⟩:=nW (x / 65536);have y:=G;cases b:decide (m<(256:Int))with
     | true=>
       have l:=z6z b;obtain⟨k,f⟩:=FM (show 0<=m by omega);subst f;have a:k<256:=om;have ht:=KV a;have e:IntKind.u8.wrap (k:Int)=(k:Nat):=Ep om om;have d:=w8 (GA (k:=k));have j:=GA (k:=k);have c:((16:Int))+((l8 k:Nat):Int)=((16+l8 k:Nat):Int):=om;refine gS1 (aI i (aI c1 (aI b (aI @AB1 (aI G (aI @EI (aI e (aI ht (aI @KW (aI @Ht (aI d (aI c (a3N @D6 @D8 @Tryz.results216))))))))))))) ?_;exact⟨16+l8 k,rfl,Hs a 16 om om (by rw[show(2:Int) ^ 16=65536 by decide];exact y) (fun _=>om)⟩
     | false=>
       have l:=z9z b;obtain⟨z24,s⟩:=nW (m / 256);have z:x / 16777216=z24:=om;obtain⟨k,f⟩:=FM (show 0<=z24 by omega);subst f;have a:k<256:=om;have ht:=KV a;have e:IntKind.u8.wrap (k:Int)=(k:Nat):=Ep om om;have d:=w8 (GA (k:=k));have j:=GA (k:=k);have c:((24:Int))+((l8 k:Nat):Int)=((24+l8 k:Nat):Int):=om;refine gS1 (aI i (aI c1 (aI b (aI @AB1 (aI G (aI @sh8 (aI s (aI @EI (aI e (aI ht (aI @KW (aI @Ht (aI d (aI c (a3N @D6 @D8 @Tryz.results216))))))))))))))) ?_;exact⟨24+l8 k,rfl,Hs a 24 om om (by rw[show(2:Int) ^ 24=16777216 by decide];exact z) (fun _=>om)⟩
 | false=>
   have I:=z9z i;obtain⟨g,q⟩:=nW (x / 4294967296);have A:=q;cases c1:decide (g<(65536:Int))with
   | true=>
     have F:=z6z c1;cases b:decide (g<(256:Int))with
     | true=>
       have l:=z6z b;obtain⟨k,f⟩:=FM (show 0<=g by omega);subst f;have a:k<256:=om;have ht:=KV a;have e:IntKind.u8.wrap (k:Int)=(k:Nat):=Ep om om;have d:=w8 (GA (k:=k));have j:=GA (k:=k);have c:((32:Int))+((l8 k:Nat):Int)=((32+l8 k:Nat):Int):=om;refine gS1 (aI i (aI c1 (aI b (aI @Rh (aI q (aI @EI (aI e (aI ht (aI @KW (aI @Ht (aI d (aI c (a3N @D6 @D8 @Tryz.results216))))))))))))) ?_;exact⟨32+l8 k,rfl,Hs a 32 om om (by rw[show(2:Int) ^ 32=4294967296 by decide];exact A) (fun _=>om)⟩
     | false=>
       have l:=z9z b;obtain⟨z40,u⟩:=nW (g / 256);have B:x / 1099511627776=z40:=om;obtain⟨k,f⟩:=FM (show 0<=z40 by omega);subst f;have a:k<256:=om;have ht:=KV a;have e:IntKind.u8.wrap (k:Int)=(k:Nat):=Ep om om;have d:=w8 (GA (k:=k));have j:=GA (k:=k);have c:((40:Int))+((l8 k:Nat):Int)=((40+l8 k:Nat):Int):=om;refine gS1 (aI i (aI c1 (aI b (aI @Rh (aI q (aI @sh8 (aI u (aI @EI (aI e (aI ht (aI @KW (aI @Ht (aI d (aI c (a3N @D6 @D8 @Tryz.results216))))))))))))))) ?_;exact⟨40+l8 k,rfl,Hs a 40 om om (by rw[show(2:Int) ^ 40=1099511627776 by decide];exact B) (fun _=>om)⟩
   | false=>
     have F:=z9z c1;obtain⟨z48,o⟩:=nW (g / 65536);have C:x / 281474976710656=z48:=om;cases b:decide (z48<(256:Int))with
     | true=>
       have l:=z6z b;obtain⟨k,f⟩:=FM (show 0<=z48 by omega);subst f;have a:k<256:=om;have ht:=KV a;have e:IntKind.u8.wrap (k:Int)=(k:Nat):=Ep om om;have d:=w8 (GA (k:=k));have j:=GA (k:=k);have c:((48:Int))+((l8 k:Nat):Int)=((48+l8 k:Nat):Int):=om;refine gS1 (aI i (aI c1 (aI b (aI @Rh (aI q (aI @AB1 (aI o (aI @EI (aI e (aI ht (aI @KW (aI @Ht (aI d (aI c (a3N @D6 @D8 @Tryz.results216))))))))))))))) ?_;exact⟨48+l8 k,rfl,Hs a 48 om om (by rw[show(2:Int) ^ 48=281474976710656 by decide];exact C) (fun _=>om)⟩
     | false=>
       have l:=z9z b;obtain⟨z56,v⟩:=nW (z48 / 256);have D:x / 72057594037927936=z56:=om;obtain⟨k,f⟩:=FM (show 0<=z56 by omega);subst f;have a:k<256:=om;have ht:=KV a;have e:IntKind.u8.wrap (k:Int)=(k:Nat):=Ep om om;have d:=w8 (GA (k:=k));have j:=GA (k:=k);have c:((56:Int))+((l8 k:Nat):Int)=((56+l8 k:Nat):Int):=om;refine gS1 (aI i (aI c1 (aI b (aI @Rh (aI q (aI @AB1 (aI o (aI @sh8 (aI v (aI @EI (aI e (aI ht (aI @KW (aI @Ht (aI d (aI c (a3N @D6 @D8 @Tryz.results216))))))))))))))))) ?_;exact⟨56+l8 k,rfl,Hs a 56 om om (by rw[show(2:Int) ^ 56=72057594037927936 by decide];exact D) (fun _=>om)⟩
def xm (b:U64 x):Ev (gO 220 [.int .u64 x] Z) (fun r=>∃ n:Nat,r=⟨false,.int .i64 (64-(n:Nat)),Z⟩/\Aa6 n x) ⟨⟩:=by
 refine C8 Tryz.func220 rfl rfl ?_;refine gS ?_;refine(tS b).mono ?_;rintro r ⟨n,rfl,a⟩;have:=a.1.2;refine gS1 @Tryz.results220 ?_;exact⟨n,rfl,a⟩
end
end Go.Proofs.T
namespace Go.Proofs.T
open Go Go.Ab Go.N9
open Nat (reduceMul reduceEqDiff reduceAdd)
theorem Yj {Z:St}{n:Int}:IX Tryz.prog Z 3 182 (.int .i64 n)=some ⟨.int .u64 (IntKind.u64.wrap n),Z,.none⟩:=by kernel_rfl
theorem Ao1 {P:Program}{t:TypeId}{x y:Operand}{m:Int}{s:Nat}(h:s<=64):Aq P .shl t x y (.int .u64 m) (.int .u64 (s:Int))=some (.int .u64 (m*2 ^ s % 18446744073709551616)):=by
 rw[pR om,Int.toNat_natCast,show min s IntKind.u64.bits=s from Nat.min_eq_left h];rfl
theorem AM3 {P:Program}{t:TypeId}{x y:Operand}{m:Int}{s:Nat}(h:s<=64) (a:0<=m):Aq P .shr t x y (.int .u64 m) (.int .u64 (s:Int))=some (.int .u64 (m / 2 ^ s)):=HB h a
theorem AT3 {a b:Int}{s:Nat}(k:s<=64) (e:0<=a) (c:a*2 ^ s<18446744073709551616) (f:0<=b) (g:b<2 ^ s) (j:b<18446744073709551616):AT4 (a*2 ^ s) b=a*2 ^ s+b:=by
 obtain⟨A,rfl⟩:=Int.eq_ofNat_of_zero_le e;obtain⟨B,rfl⟩:=Int.eq_ofNat_of_zero_le f;have i:((2:Int) ^ s)=((2 ^ s:Nat):Int):=by rw[Int.natCast_pow];rfl
 rw[i]at c g ⊢;have d:((A:Int)*((2 ^ s:Nat):Int))=((A*2 ^ s:Nat):Int):=(Int.natCast_mul _ _).symm;rw[d]at c ⊢;have h:B<2 ^ s:=om;unfold AT4;rw[BitVec.toNat_or,toNat_ofInt ⟨om,om⟩,toNat_ofInt ⟨om,om⟩,Int.toNat_natCast,Int.toNat_natCast];rw[<- Nat.shiftLeft_eq,<- Nat.shiftLeft_add_eq_or_of_lt h,Nat.shiftLeft_eq];omega
theorem pT {Z:St}{hi lo y:Int}(hh:0<=hi) (b9:hi<y) (hl:U64 lo) (hy:y<18446744073709551616) :
  Ev (go Tryz.prog HS (.fn 192) [.int .u64 hi,.int .u64 lo,.int .u64 y] Z) (fun r=>r=⟨false,.tuple ⟨[.int .u64 ((hi*18446744073709551616+lo) / y),.int .u64 ((hi*18446744073709551616+lo) % y)]⟩,Z⟩) ⟨⟩:=by
 obtain⟨l0,l1⟩:=hl;have y0:decide (y=0)=false:=decide_eq_false om;have y1:decide (hi<y)=true:=decide_eq_true om;refine C8 Tryz.func192 rfl rfl ?_;cases z0:decide (hi=0)with
 | true=>
   have z:=of_decide_eq_true z0;have t1:L9 .u64 (Int.tdiv lo y)=(hi*18446744073709551616+lo) / y:=by
    rw[z,Int.zero_mul,Int.zero_add,Int.tdiv_eq_ediv_of_nonneg l0];have a1:0<=lo / y:=Int.ediv_nonneg l0 om;have a2:lo / y<=lo:=Int.ediv_le_self _ l0;exact Al a1 om
   have a7:IntKind.u64.wrap (Int.tdiv lo y)=(hi*18446744073709551616+lo) / y:=by rw[<- o7];exact t1
   have t2:Int.tmod lo y=(hi*18446744073709551616+lo) % y:=by
    rw[z,Int.zero_mul,Int.zero_add,Int.tmod_eq_emod_of_nonneg l0]
   refine gS1 (a7N @y0 @y1 @z0 @t1 @a7 @t2 @Tryz.results192) ?_
   try refine Ct.intro (by(repeat first|simp(disch:=omega) only[O4,G6,G9]|rw[W6 (by kernel_rfl)]);first|done|rfl) ?_
   try exact⟨⟩
   try(refine gS1 (a7N @y0 @y1 @z0 @t1 @a7 @t2 @Tryz.results192) ?_;try exact⟨⟩)
 |false=>
 refine gS1 (a3N @y0 @y1 @z0) ?_;refine(xm ⟨om,hy⟩).mono ?_;rintro r ⟨n,rfl,⟨b1,b6⟩,b2⟩;have b2:=b2 om;obtain⟨s,hs⟩:∃ s:Nat,n+s=64:=⟨64-n,om⟩
 have s0:(64:Int)-(n:Int)=(s:Int):=om;have s1:IntKind.u64.wrap ((s:Nat):Int)=(s:Nat):=Fi om om;have s2:L9 .u64 (64-((s:Nat):Int))=(n:Nat):=by rw[show(64:Int)-(s:Nat)=(n:Nat) by omega];exact Al om om
 have a0:s<=64:=om;obtain⟨⟨T1,T2⟩,⟨T3,T4⟩,⟨T5,T6,T7⟩,T8,T9⟩:=km hh b9 ⟨l0,l1⟩ hy hs b1 b2;have hp:(0:Int)<2 ^ s:=Int.pow_pos om;obtain⟨Y,hY⟩:∃ v,y*2 ^ s=v:=⟨_,rfl⟩
 have b7:Y % 18446744073709551616=Y:=Int.emod_eq_of_lt om om;have a5:=AT3 (a:=hi) a0 hh T4 T5 T6 T7;have b8:hi*2 ^ s % 18446744073709551616=hi*2 ^ s:=Int.emod_eq_of_lt T3 T4;obtain⟨u,hu⟩:∃ v,hi*2 ^ s+lo / 2 ^ n=v:=⟨_,rfl⟩
 obtain⟨v,hv⟩:∃ v,lo*2 ^ s % 18446744073709551616=v:=⟨_,rfl⟩
 have v0:0<=v/\v<18446744073709551616:=by rw[<- hv];exact⟨Int.emod_nonneg _ om,Int.emod_lt_of_pos _ om⟩
 have u0:0<=u:=om;rw[hY]at T1 T2 T8;rw[hu]at a5 T8 T9;rw[hv]at T9;have uY:u<Y:=T8;have aY:=HC (m:=Y) ⟨om,T2⟩;have av:=HC (m:=v) v0;obtain⟨p1,c2⟩:∃ w,Y / 4294967296=w:=⟨_,rfl⟩
 obtain⟨p0,c1⟩:∃ w,Y % 4294967296=w:=⟨_,rfl⟩
 obtain⟨a,ha⟩:∃ w,v / 4294967296=w:=⟨_,rfl⟩
 obtain⟨b,hb⟩:∃ w,v % 4294967296=w:=⟨_,rfl⟩
 rw[c1]at aY;rw[hb]at av;have B1:2147483648<=p1/\p1<4294967296:=om;have B0:0<=p0/\p0<4294967296:=om;have BA:0<=a/\a<4294967296:=om;have BB:0<=b/\b<4294967296:=om;have eY:p1*4294967296+p0=Y:=om;have ev:a*4294967296+b=v:=om;simp(maxSteps:=8000000) (disch:=first|exact dS|fail) only[↓bD,bW,reduceMul,reduceEqDiff,reduceAdd,Nat.reduceBEq,reduceIte,Option.isNone_none,s0,s1,s2,Yj,Ao1 a0,hY,b7,Rh (show 0<=Y by omega),Yk,xr,aY,c2,AM3 b6 l0,b8,a5,hu,hv,Rh v0.1,ha,av];have J:Jy u a p1 p0 (u / p1) (u-u / p1*p1):=PS B1 B0 ⟨u0,by rw[eY];exact uY⟩ BA;have pW:0<=u / p1:=Int.ediv_nonneg u0 om;have a8:0<=u-u / p1*p1/\u-u / p1*p1<p1:=by
  have e:=Int.mul_ediv_add_emod u p1;have e1:=Int.emod_nonneg u (show p1≠0 by omega);have e2:=Int.emod_lt_of_pos u (show 0<p1 by omega);rw[Int.mul_comm]at e;omega
 have a9:=J.AE;have a3:IntKind.u64.wrap (Int.tdiv u p1)=u / p1:=by rw[Int.tdiv_eq_ediv_of_nonneg u0];exact Fi om om
 obtain⟨qq1,b4⟩:∃ zz,u / p1=zz:=⟨_,rfl⟩
 rw[b4]at J pW a8 a9 a3;have d1:L9 .u64 (Int.tdiv u p1)=qq1:=by rw[o7];exact a3
 have d5:0<=qq1*p1:=Int.mul_nonneg pW om;have c9:L9 .u64 (qq1*p1)=qq1*p1:=Al d5 om;have d3:L9 .u64 (u-qq1*p1)=u-qq1*p1:=Al om om;refine gS1 (a4N @a3 @d1 @c9 @d3) ?_
 refine Bt (fun m f τ=>τ=Z/\f.get 2=some (.int .u64 Y)/\f.get 8=some (.int .u64 ((s:Nat):Int))/\f.get 9=some (.int .u64 p1)/\f.get 10=some (.int .u64 p0)/\f.get 11=some (.int .u64 u)/\f.get 13=some (.int .u64 a)/\f.get 14=some (.int .u64 b)/\∃ q r,f.get 15=some (.int .u64 q)/\f.get 16=some (.int .u64 r)/\m=q.toNat/\Jy u a p1 p0 q r/\0<=q/\0<=r/\r<4294967296)
  (fun r=>∃ f,r=⟨.exit 0,f,Z⟩/\f.get 2=some (.int .u64 Y)/\f.get 8=some (.int .u64 ((s:Nat):Int))/\f.get 9=some (.int .u64 p1)/\f.get 10=some (.int .u64 p0)/\f.get 11=some (.int .u64 u)/\f.get 13=some (.int .u64 a)/\f.get 14=some (.int .u64 b)/\f.get 15=some (.int .u64 ((u*4294967296+a) / (p1*4294967296+p0)))) qq1.toNat ?_ ?_ ?_
 ·exact⟨rfl,fR,fR,fR,fR,fR,fR,fR,qq1,_,fR,fR,rfl,J,pW,om,om⟩
 ·rintro m f τ ⟨rfl,k,l,o,c,i,j,d,q,r,E,gr,rfl,M,q0,r0,r1⟩;have c0:=M.AE;have wr:L9 .u64 (4294967296*r)=4294967296*r:=Al om om;have D:L9 .u64 (4294967296*r+a)=4294967296*r+a:=Al om om;have B:1<=q->L9 .u64 (q-1)=q-1:=fun h=>Al om om;have I:L9 .u64 (r+p1)=r+p1:=Al om om;have G:(4294967296<=q\/4294967296*r+a<q*p0)->1<=q:=fun h=>by
   rcases h with h|h
   ·omega
   ·refine Int.not_lt.1 fun hc=>?_;have:q=0:=om;rw[this,Int.zero_mul]at h;omega
  have step:(4294967296<=q\/4294967296*r+a<q*p0)->Jy u a p1 p0 (q-1) (r+p1):=fun h=>Ri M B1 B0 ⟨u0,by rw[eY];exact uY⟩ BA h;cases C:decide (q<4294967296)with
  | false=>
    have hc:4294967296<=q:=by have:=of_decide_eq_false C;omega
    have B:=B om;have H:=step (.inl hc);cases A:decide (r+p1<4294967296)with
    | false=>
      have:=of_decide_eq_false A;simp(maxSteps:=8000000) (disch:=first|exact dS|fail) only[↓bD,bW,reduceMul,reduceEqDiff,reduceAdd,Nat.reduceBEq,reduceIte,Option.isNone_none,E,gr,k,l,o,c,i,j,d,C,B,I,A,D6,D8,BT];exact⟨_,rfl,fR1 k,fR1 l,fR1 o,fR1 c,fR1 i,fR1 j,fR1 d,by rw[<- Iu H B1 B0 BA om om];exact(fR)⟩
    | true=>
      have:=of_decide_eq_true A;simp(maxSteps:=8000000) (disch:=first|exact dS|fail) only[↓bD,bW,reduceMul,reduceEqDiff,reduceAdd,Nat.reduceBEq,reduceIte,Option.isNone_none,E,gr,k,l,o,c,i,j,d,C,B,I,A,D6,D8,X8];exact⟨(q-1).toNat,om,trivial,fR1 k,fR1 l,fR1 o,fR1 c,fR1 i,fR1 j,fR1 d,q-1,r+p1,fR,fR,rfl,H,om,om,om⟩
  | true=>
    have hq:=of_decide_eq_true C;have y1:0<=q*p0:=Int.mul_nonneg q0 B0.1;have y2:q*p0<=4294967295*4294967295:=Int.mul_le_mul om om B0.1 om;have wm:L9 .u64 (q*p0)=q*p0:=Al y1 om;cases F:decide (4294967296*r+a<q*p0)with
    | false=>
      have N:=of_decide_eq_false F;simp(maxSteps:=8000000) (disch:=first|exact dS|fail) only[↓bD,bW,reduceMul,reduceEqDiff,reduceAdd,Nat.reduceBEq,reduceIte,Option.isNone_none,E,gr,k,l,o,c,i,j,d,C,wm,wr,D,F,D6,D8,BT];exact⟨_,rfl,fR1 k,fR1 l,fR1 o,fR1 c,fR1 i,fR1 j,fR1 d,by rw[<- OV M B1 B0 om];exact(fR1 E)⟩
    | true=>
      have N:=of_decide_eq_true F;have O:=G (.inr N);have B:=B O;have H:=step (.inr N);cases A:decide (r+p1<4294967296)with
      | false=>
        have:=of_decide_eq_false A;simp(maxSteps:=8000000) (disch:=first|exact dS|fail) only[↓bD,bW,reduceMul,reduceEqDiff,reduceAdd,Nat.reduceBEq,reduceIte,Option.isNone_none,E,gr,k,l,o,c,i,j,d,C,wm,wr,D,F,B,I,A,D6,D8,BT];exact⟨_,rfl,fR1 k,fR1 l,fR1 o,fR1 c,fR1 i,fR1 j,fR1 d,by rw[<- Iu H B1 B0 BA om om];exact(fR)⟩
      | true=>
        have:=of_decide_eq_true A;simp(maxSteps:=8000000) (disch:=first|exact dS|fail) only[↓bD,bW,reduceMul,reduceEqDiff,reduceAdd,Nat.reduceBEq,reduceIte,Option.isNone_none,E,gr,k,l,o,c,i,j,d,C,wm,wr,D,F,B,I,A,D6,D8,X8];exact⟨(q-1).toNat,om,trivial,fR1 k,fR1 l,fR1 o,fR1 c,fR1 i,fR1 j,fR1 d,q-1,r+p1,fR,fR,rfl,H,om,om,om⟩
 rintro r ⟨f,rfl,k,l,o,c,i,j,d,g⟩;rw[eY]at g;have S:=Int.mul_ediv_add_emod (u*4294967296+a) Y;have W:=Int.emod_nonneg (u*4294967296+a) (show Y≠0 by omega);have R:=Int.emod_lt_of_pos (u*4294967296+a) (show 0<Y by omega);have c7:0<=(u*4294967296+a) / Y:=Int.ediv_nonneg om om;have c5:(u*4294967296+a) / Y<4294967296:=Int.ediv_lt_of_lt_mul om om;obtain⟨q1,c3⟩:∃ w,(u*4294967296+a) / Y=w:=⟨_,rfl⟩
 obtain⟨w,hw⟩:∃ w,(u*4294967296+a) % Y=w:=⟨_,rfl⟩
 rw[c3]at g S c7 c5;rw[hw]at S W R;rw[Int.mul_comm]at S;have w0:0<=w:=W;have wY:w<Y:=R;have tw:L9 .u64 (L9 .u64 (L9 .u64 (u*4294967296)+a)-L9 .u64 (q1*Y))=w:=by
  simp only[HD];omega
 have K:Jy w b p1 p0 (w / p1) (w-w / p1*p1):=PS B1 B0 ⟨w0,by rw[eY];exact wY⟩ BB;have pZ:0<=w / p1:=Int.ediv_nonneg w0 om;have b0:0<=w-w / p1*p1/\w-w / p1*p1<p1:=by
  have e:=Int.mul_ediv_add_emod w p1;have e1:=Int.emod_nonneg w (show p1≠0 by omega);have e2:=Int.emod_lt_of_pos w (show 0<p1 by omega);rw[Int.mul_comm]at e;omega
 have b3:=K.AE;have a4:IntKind.u64.wrap (Int.tdiv w p1)=w / p1:=by rw[Int.tdiv_eq_ediv_of_nonneg w0];exact Fi om om
 obtain⟨qq2,b5⟩:∃ zz,w / p1=zz:=⟨_,rfl⟩
 rw[b5]at K pZ b0 b3 a4;have d2:L9 .u64 (Int.tdiv w p1)=qq2:=by rw[o7];exact a4
 have d6:0<=qq2*p1:=Int.mul_nonneg pZ om;have d0:L9 .u64 (qq2*p1)=qq2*p1:=Al d6 om;have d4:L9 .u64 (w-qq2*p1)=w-qq2*p1:=Al om om;refine gS1 (a13N @k @l @o @c @d @i @j @a4 @d2 @d0 @d4 @g @tw) ?_
 refine Bt (fun m f τ=>τ=Z/\f.get 2=some (.int .u64 Y)/\f.get 8=some (.int .u64 ((s:Nat):Int))/\f.get 9=some (.int .u64 p1)/\f.get 10=some (.int .u64 p0)/\f.get 14=some (.int .u64 b)/\f.get 15=some (.int .u64 q1)/\f.get 17=some (.int .u64 w)/\∃ q r,f.get 18=some (.int .u64 q)/\f.get 16=some (.int .u64 r)/\m=q.toNat/\Jy w b p1 p0 q r/\0<=q/\0<=r/\r<4294967296)
  (fun r=>∃ f,r=⟨.exit 2,f,Z⟩/\f.get 2=some (.int .u64 Y)/\f.get 8=some (.int .u64 ((s:Nat):Int))/\f.get 9=some (.int .u64 p1)/\f.get 10=some (.int .u64 p0)/\f.get 14=some (.int .u64 b)/\f.get 15=some (.int .u64 q1)/\f.get 17=some (.int .u64 w)/\f.get 18=some (.int .u64 ((w*4294967296+b) / (p1*4294967296+p0)))) qq2.toNat ?_ ?_ ?_
 ·exact⟨rfl,fR1 k,fR1 l,fR1 o,fR1 c,fR1 d,fR1 g,fR,qq2,_,fR,fR,rfl,K,pZ,om,om⟩
 ·clear k l o c i j d g f;rintro m f τ ⟨rfl,k,l,o,c,d,g,p,q,r,E,gr,rfl,M,q0,r0,r1⟩;have c0:=M.AE;have wr:L9 .u64 (4294967296*r)=4294967296*r:=Al om om;have D:L9 .u64 (4294967296*r+b)=4294967296*r+b:=Al om om;have B:1<=q->L9 .u64 (q-1)=q-1:=fun h=>Al om om;have I:L9 .u64 (r+p1)=r+p1:=Al om om;have G:(4294967296<=q\/4294967296*r+b<q*p0)->1<=q:=fun h=>by
   rcases h with h|h
   ·omega
   ·refine Int.not_lt.1 fun hc=>?_;have:q=0:=om;rw[this,Int.zero_mul]at h;omega
  have step:(4294967296<=q\/4294967296*r+b<q*p0)->Jy w b p1 p0 (q-1) (r+p1):=fun h=>Ri M B1 B0 ⟨w0,by rw[eY];exact wY⟩ BB h;cases C:decide (q<4294967296)with
  | false=>
    have hc:4294967296<=q:=by have:=of_decide_eq_false C;omega
    have B:=B om;have H:=step (.inl hc);cases A:decide (r+p1<4294967296)with
    | false=>
      have:=of_decide_eq_false A;simp(maxSteps:=8000000) (disch:=first|exact dS|fail) only[↓bD,bW,reduceMul,reduceEqDiff,reduceAdd,Nat.reduceBEq,reduceIte,Option.isNone_none,E,gr,k,l,o,c,d,g,p,C,B,I,A,D6,D8,BT];exact⟨_,rfl,fR1 k,fR1 l,fR1 o,fR1 c,fR1 d,fR1 g,fR1 p,by rw[<- Iu H B1 B0 BB om om];exact(fR)⟩
    | true=>
      have:=of_decide_eq_true A;simp(maxSteps:=8000000) (disch:=first|exact dS|fail) only[↓bD,bW,reduceMul,reduceEqDiff,reduceAdd,Nat.reduceBEq,reduceIte,Option.isNone_none,E,gr,k,l,o,c,d,g,p,C,B,I,A,D6,D8,X8];exact⟨(q-1).toNat,om,trivial,fR1 k,fR1 l,fR1 o,fR1 c,fR1 d,fR1 g,fR1 p,q-1,r+p1,fR,fR,rfl,H,om,om,om⟩
  | true=>
    have hq:=of_decide_eq_true C;have y1:0<=q*p0:=Int.mul_nonneg q0 B0.1;have y2:q*p0<=4294967295*4294967295:=Int.mul_le_mul om om B0.1 om;have wm:L9 .u64 (q*p0)=q*p0:=Al y1 om;cases F:decide (4294967296*r+b<q*p0)with
    | false=>
      have N:=of_decide_eq_false F;simp(maxSteps:=8000000) (disch:=first|exact dS|fail) only[↓bD,bW,reduceMul,reduceEqDiff,reduceAdd,Nat.reduceBEq,reduceIte,Option.isNone_none,E,gr,k,l,o,c,d,g,p,C,wm,wr,D,F,D6,D8,BT];exact⟨_,rfl,fR1 k,fR1 l,fR1 o,fR1 c,fR1 d,fR1 g,fR1 p,by rw[<- OV M B1 B0 om];exact(fR1 E)⟩
    | true=>
      have N:=of_decide_eq_true F;have O:=G (.inr N);have B:=B O;have H:=step (.inr N);cases A:decide (r+p1<4294967296)with
      | false=>
        have:=of_decide_eq_false A;simp(maxSteps:=8000000) (disch:=first|exact dS|fail) only[↓bD,bW,reduceMul,reduceEqDiff,reduceAdd,Nat.reduceBEq,reduceIte,Option.isNone_none,E,gr,k,l,o,c,d,g,p,C,wm,wr,D,F,B,I,A,D6,D8,BT];exact⟨_,rfl,fR1 k,fR1 l,fR1 o,fR1 c,fR1 d,fR1 g,fR1 p,by rw[<- Iu H B1 B0 BB om om];exact(fR)⟩
      | true=>
        have:=of_decide_eq_true A;simp(maxSteps:=8000000) (disch:=first|exact dS|fail) only[↓bD,bW,reduceMul,reduceEqDiff,reduceAdd,Nat.reduceBEq,reduceIte,Option.isNone_none,E,gr,k,l,o,c,d,g,p,C,wm,wr,D,F,B,I,A,D6,D8,X8];exact⟨(q-1).toNat,om,trivial,fR1 k,fR1 l,fR1 o,fR1 c,fR1 d,fR1 g,fR1 p,q-1,r+p1,fR,fR,rfl,H,om,om,om⟩
 clear k l o c i j d g f;rintro r ⟨f,rfl,k,l,o,c,d,g,p,L⟩;rw[eY]at L;have V:=Int.mul_ediv_add_emod (w*4294967296+b) Y;have X:=Int.emod_nonneg (w*4294967296+b) (show Y≠0 by omega);have a6:=Int.emod_lt_of_pos (w*4294967296+b) (show 0<Y by omega);have c8:0<=(w*4294967296+b) / Y:=Int.ediv_nonneg om om;have c6:(w*4294967296+b) / Y<4294967296:=Int.ediv_lt_of_lt_mul om om;obtain⟨q2,c4⟩:∃ w',(w*4294967296+b) / Y=w':=⟨_,rfl⟩
 obtain⟨z,hz⟩:∃ w',(w*4294967296+b) % Y=w':=⟨_,rfl⟩
 rw[c4]at L V c8 c6;rw[hz]at V X a6;rw[Int.mul_comm]at V;have tz:L9 .u64 (L9 .u64 (L9 .u64 (w*4294967296)+b)-L9 .u64 (q2*Y))=z:=by
  simp only[HD];omega
 have te:L9 .u64 (L9 .u64 (q1*4294967296)+q2)=q1*4294967296+q2:=by
  simp only[HD];omega
 obtain⟨D1,D2⟩:=xt (u:=u) (a:=a) (b:=b) (Y:=Y) (q1:=q1) (r1:=w) (q0:=q2) (r0:=z) om om ⟨W,R⟩ om ⟨X,a6⟩;rw[ev,<- T9,<- hY]at D1 D2;obtain⟨K1,K2⟩:=pf (U:=hi*18446744073709551616+lo) (y:=y) hp om;have f1:L9 .u64 (L9 .u64 (q1*4294967296)+q2)=(hi*18446744073709551616+lo) / y:=by rw[te,<- D1,K1]
 have f2:z / 2 ^ s=(hi*18446744073709551616+lo) % y:=by rw[<- D2,K2]
 simp(maxSteps:=8000000) (disch:=first|exact dS|fail) only[↓bD,bW,reduceMul,reduceEqDiff,reduceAdd,Nat.reduceBEq,reduceIte,Option.isNone_none,k,l,o,c,d,g,p,L,tz,f1,AM3 a0 X,f2,Tryz.results192]
end Go.Proofs.T
namespace Go.Proofs.T
open Go Go.Ab Go.N9
section
variable {Z:St}{x n y m:Int}
def W2 (n:Int):Prop:=0<=n/\n<340282366920938463463374607431768211456
def II (n:Int):List Value:=[.int .u64 (n / 18446744073709551616),.int .u64 (n % 18446744073709551616)]
def wv (n:Int):Value:= .agg ⟨II n⟩
def tA:U64 (n % 18446744073709551616):=⟨Int.emod_nonneg _ om,Int.emod_lt_of_pos _ om⟩
def tB (h:W2 n):U64 (n / 18446744073709551616):=by
 obtain⟨a,b⟩:=h;exact⟨om,om⟩
def Ci {a b:Int}(c:U64 a) (d:U64 b):Ev (gO 55 [.int .u64 a,.int .u64 b] Z) (fun r=>∃ Z',r=⟨false,wv (a*b),Z'⟩/\Ext Z Z') ⟨⟩:=by
 refine C8 Tryz.func55 rfl rfl ?_;refine gS ?_;refine(wP c d).mono ?_;rintro r rfl;refine gS1 @Tryz.results55 ?_;exact⟨_,rfl,eX⟩
def Fz (x y:Int):Int:=if x<y then -1 else if y<x then 1 else 0
def Tt:Ev (gO 148 [.int .u64 x] Z) (fun r=>r=⟨false,.bool false,Z⟩) ⟨⟩:=by
 have e:decide (x=x)=true:=sI;refine C8 Tryz.func148 rfl rfl ?_;refine gS1 (aI e @Tryz.results148) ?_;try exact⟨⟩
def cF:Ev (gO 105 [.int .i64 x] Z) (fun r=>r=⟨false,.bool false,Z⟩) ⟨⟩:=by
 have e:decide (x=x)=true:=sI;refine C8 Tryz.func105 rfl rfl ?_;refine gS1 (aI e @Tryz.results105) ?_;try exact⟨⟩
def cG:Ev (gO 107 [.int .u64 x,.int .u64 y] Z) (fun r=>r=⟨false,.int .i64 (Fz x y),Z⟩) ⟨⟩:=by
 refine C8 Tryz.func107 rfl rfl ?_;refine gS ?_;refine Tt.mono ?_;rintro r rfl;refine gS ?_;refine Tt.mono ?_;rintro r rfl;unfold Fz;cases c1:decide (x<y)with
 | true=>
   rw[z1z (z6z c1)];refine gS1 (aI c1 @Tryz.results107) ?_;try exact⟨⟩
 | false=>
   rw[z0z (z9z c1)];cases a:decide (y<x)with
   | true=>
     rw[z1z (z6z a)];refine gS1 (aI c1 (aI a @Tryz.results107)) ?_;try exact⟨⟩
   | false=>
     rw[z0z (z9z a)];refine gS1 (aI c1 (aI a @Tryz.results107)) ?_;try exact⟨⟩
def jT:Ev (gO 53 [.int .i64 x,.int .i64 y] Z) (fun r=>r=⟨false,.int .i64 (Fz x y),Z⟩) ⟨⟩:=by
 refine C8 Tryz.func53 rfl rfl ?_;refine gS ?_;refine cF.mono ?_;rintro r rfl;refine gS ?_;refine cF.mono ?_;rintro r rfl;unfold Fz;cases c1:decide (x<y)with
 | true=>
   rw[z1z (z6z c1)];refine gS1 (aI c1 @Tryz.results53) ?_;try exact⟨⟩
 | false=>
   rw[z0z (z9z c1)];cases a:decide (y<x)with
   | true=>
     rw[z1z (z6z a)];refine gS1 (aI c1 (aI a @Tryz.results53)) ?_;try exact⟨⟩
   | false=>
     rw[z0z (z9z a)];refine gS1 (aI c1 (aI a @Tryz.results53)) ?_;try exact⟨⟩
def gL (x y:Int):Int:=if x=0 then y else x
def wQ {b:Nat}(i:Z.row b=some [.int .i64 x,.int .i64 y]):Ev (gO 106 [.slice (some ⟨b,0,none⟩) 2 2] Z) (fun r=>r=⟨false,.int .i64 (gL x y),Z⟩) ⟨⟩:=by
 refine C8 Tryz.func106 rfl rfl ?_;refine gS ?_
 refine G8 2 (fun k a q=>q=Z/\a.get 8=some (.int .i64 k)/\a.get 7=some (.int .i64 2)/\a.get 6=some (.slice (some ⟨b,0,none⟩) 2 2)/\a.get 3=some (.int .i64 0)/\(1<=k->x=0)/\(2<=k->y=0))
  (fun r=>∃ a,(r=⟨.exit 0,a,Z⟩/\a.get 3=some (.int .i64 0)/\x=0/\y=0)\/(r=⟨.ret,a,Z⟩/\a.get 2=some (.int .i64 (gL x y)))) ?_ ?_ ?_ ?_
 ·exact⟨rfl,fR,fR,fR,fR,om,om⟩
 ·rintro k a q z ⟨rfl,g,d,f,c,o,s⟩;have p:k=0\/k=1:=om;rcases p with rfl|rfl
  ·have e:decide (((0:Nat):Int)<2)=true:=by decide
   cases h:decide (x=0)with
   | true=>
     refine gS1 (aI g (aI d (aI f (aI c (aI e (aI i h)))))) ?_;exact⟨by trivial,fR,fR1 d,fR1 f,fR1 c,fun _=>z6z h,om⟩
   | false=>
     refine gS1 (aI g (aI d (aI f (aI c (aI e (aI i h)))))) ?_;exact⟨_,.inr ⟨rfl,by unfold gL;rw[z0z (z9z h)];exact(fR)⟩⟩
  ·have e:decide (((1:Nat):Int)<2)=true:=by decide
   have j:=o om;cases l:decide (y=0)with
   | true=>
     refine gS1 (aI g (aI d (aI f (aI c (aI e (aI i l)))))) ?_;exact⟨by trivial,fR,fR1 d,fR1 f,fR1 c,fun _=>j,fun _=>z6z l⟩
   | false=>
     refine gS1 (aI g (aI d (aI f (aI c (aI e (aI i l)))))) ?_;exact⟨_,.inr ⟨rfl,by unfold gL;rw[z1z j];exact(fR)⟩⟩
 ·rintro a q ⟨rfl,g,d,f,c,o,s⟩;have e:decide (((2:Nat):Int)<2)=false:=by decide
  refine gS1 (aI g (aI d e)) ?_;exact⟨_,.inl ⟨rfl,fR1 c,o om,s om⟩⟩
 rintro r ⟨a,⟨rfl,c,j,v⟩|⟨rfl,u⟩⟩
 ·refine gS1 (aI c @Tryz.results106) ?_;unfold gL;rw[z1z j,v]
 ·refine gS1 (aI u @Tryz.results106) ?_;try exact⟨⟩
def oH:gL (Fz (m / 18446744073709551616) (n / 18446744073709551616)) (Fz (m % 18446744073709551616) (n % 18446744073709551616))=Fz m n:=by
 unfold gL Fz
 repeat' split
 all_goals omega
def KU:Ev (gO 54 [wv m,wv n] Z) (fun r=>∃ Z',r=⟨false,.int .i64 (Fz m n),Z'⟩/\Ext Z Z') ⟨⟩:=by
 have a:Ext Z ((Z.new (II m)).new (II n)):=eX;refine C8 Tryz.func54 rfl rfl ?_;unfold wv II;refine gS ?_;refine cG.mono ?_;rintro r rfl;refine gS ?_;refine cG.mono ?_;rintro r rfl;refine gS ?_;refine(wQ (cL)).mono ?_;rintro r rfl;rw[oH];refine gS1 (aI @asR @Tryz.results54) ?_
 try refine Ct.intro (by(repeat first|simp(disch:=omega) only[O4,G6,G9,asx (Ext.refl _)]|rw[W6 (by kernel_rfl)]);first|done|rfl) ?_
 try(refine gS1 @Tryz.results54 ?_;try exact⟨⟩)
 exact⟨_,rfl,eX⟩
end
section
variable {n m b:Int}{Z:St}
def zq (g:W2 m) (i:W2 n) (h:m+n<340282366920938463463374607431768211456):Ev (gO 144 [wv m,wv n] Z) (fun r=>∃ Z',r=⟨false,wv (m+n),Z'⟩/\Ext Z Z') ⟨⟩:=by
 have e:∀ a:St,go Tryz.prog HS (.fn 190) [.int .u64 (m % 18446744073709551616),.int .u64 (n % 18446744073709551616),.int .u64 0] a=_:=fun a=>aO tA tA (.inl rfl);obtain⟨c,j⟩:=nW ((m % 18446744073709551616+n % 18446744073709551616+0) / 18446744073709551616);have d:c=0\/c=1:=om;rw[j]at e;have f:∀ a:St,go Tryz.prog HS (.fn 190) [.int .u64 (m / 18446744073709551616),.int .u64 (n / 18446744073709551616),.int .u64 c] a=_:=fun a=>aO (tB g) (tB i) d;have k:(m % 18446744073709551616+n % 18446744073709551616+0) % 18446744073709551616=(m+n) % 18446744073709551616:=om;have l:(m / 18446744073709551616+n / 18446744073709551616+c) % 18446744073709551616=(m+n) / 18446744073709551616:=by
  obtain⟨o,p⟩:=g;obtain⟨n1,n2⟩:=i;omega
 rw[k]at e;rw[l]at f;refine C8 Tryz.func144 rfl rfl ?_;unfold wv II;refine gS1 (aI e (aI f @Tryz.results144)) ?_;exact⟨_,rfl,eX⟩
def jP (i:W2 m) (j:W2 n) (h:n<=m):Ev (gO 145 [wv m,wv n] Z) (fun r=>∃ Z',r=⟨false,wv (m-n),Z'⟩/\Ext Z Z') ⟨⟩:=by
 have e:∀ d:St,go Tryz.prog HS (.fn 191) [.int .u64 (m % 18446744073709551616),.int .u64 (n % 18446744073709551616),.int .u64 0] d=_:=fun d=>aP tA tA (.inl rfl);obtain⟨c,g⟩:=nW ((if m % 18446744073709551616<n % 18446744073709551616+0 then(1:Int)else 0));have a:(c=0/\n % 18446744073709551616<=m % 18446744073709551616)\/(c=1/\m % 18446744073709551616<n % 18446744073709551616):=by
  split at g
  ·right;omega
  ·left;omega
 rw[g]at e;have f:∀ d:St,go Tryz.prog HS (.fn 191) [.int .u64 (m / 18446744073709551616),.int .u64 (n / 18446744073709551616),.int .u64 c] d=_:=fun d=>aP (tB i) (tB j) (by rcases a with h|h<;>omega);have l:(m % 18446744073709551616-n % 18446744073709551616-0) % 18446744073709551616=(m-n) % 18446744073709551616:=om;have o:(m / 18446744073709551616-n / 18446744073709551616-c) % 18446744073709551616=(m-n) / 18446744073709551616:=by
  obtain⟨p,q⟩:=i;obtain⟨n1,n2⟩:=j;rcases a with⟨rfl,k⟩|⟨rfl,k⟩<;>omega
 rw[l]at e;rw[o]at f;refine C8 Tryz.func145 rfl rfl ?_;unfold wv II;refine gS1 (aI e (aI f @Tryz.results145)) ?_;exact⟨_,rfl,eX⟩
def fA (o:W2 n) (i:0<b) (l:b<18446744073709551616):
  (0<=n / 18446744073709551616 % b/\n / 18446744073709551616 % b<b)/\n / 18446744073709551616 / b=n / b / 18446744073709551616 /\
  (n / 18446744073709551616 % b*18446744073709551616+n % 18446744073709551616) / b=n / b % 18446744073709551616/\(n / 18446744073709551616 % b*18446744073709551616+n % 18446744073709551616) % b=n % b/\U64 (n / 18446744073709551616 / b):=by
 obtain⟨u,v⟩:=o;have e:=Int.emod_nonneg (n / 18446744073709551616) (show b≠0 by omega);have f:=Int.emod_lt_of_pos (n / 18446744073709551616) i;have c:=Int.mul_ediv_add_emod (n / 18446744073709551616) b;have g:0<=n / 18446744073709551616 / b:=Int.ediv_nonneg om om;have j:n / 18446744073709551616 / b<=n / 18446744073709551616:=Int.ediv_le_self _ om;obtain⟨q,hq⟩:=nW (n / 18446744073709551616 / b);obtain⟨r,hr⟩:=nW (n / 18446744073709551616 % b);rw[hq]at c g j ⊢;rw[hr]at e f c ⊢;obtain⟨x,hx⟩:=nW (r*18446744073709551616+n % 18446744073709551616);rw[hx];have a:n=q*18446744073709551616*b+x:=by
  have:n=n / 18446744073709551616*18446744073709551616+n % 18446744073709551616:=om;rw[this,<- c,<- hx]
  grind
 have d:0<=x:=om;have h:n / b=q*18446744073709551616+x / b:=by rw[a,Int.add_comm,Int.add_mul_ediv_right _ _ om,Int.add_comm]
 have k:n % b=x % b:=by rw[a,Int.add_comm,Int.add_mul_emod_self_right]
 have s:x / b<18446744073709551616:=by
  refine Int.ediv_lt_of_lt_mul i ?_;have:(r+1)*18446744073709551616<=b*18446744073709551616:=Int.mul_le_mul_of_nonneg_right om om;rw[Int.mul_comm 18446744073709551616];omega
 have p:0<=x / b:=Int.ediv_nonneg d om;refine⟨⟨e,f⟩,?_,?_,k.symm,g,om⟩
 ·rw[h];omega
 ·rw[h];omega
def aQ (d:W2 n) (i:0<b) (a:b<18446744073709551616):Ev (gO 146 [wv n,.int .u64 b] Z) (fun r=>∃ Z',r=⟨false,.tuple ⟨[wv (n / b),.int .u64 (n % b)]⟩,Z'⟩/\Ext Z Z') ⟨⟩:=by
 obtain⟨⟨j,k⟩,l,o,p,e⟩:=fA d i a;have c:=tB d;have f:IntKind.u64.wrap (Int.tdiv (n / 18446744073709551616) b)=n / b / 18446744073709551616:=by
  rw[Int.tdiv_eq_ediv_of_nonneg c.1,<- l];exact Fi e.1 e.2
 have g:Int.tmod (n / 18446744073709551616) b=n / 18446744073709551616 % b:=Uf c.1;have h:decide (b=0)=false:=dF;refine C8 Tryz.func146 rfl rfl ?_;unfold wv II;refine gS1 (aI f (aI g h)) ?_
 try refine dW ?_
 try(refine gS1 (aI f (aI g h)) ?_;try exact⟨⟩)
 refine(pT j k tA a).mono ?_;rintro r rfl;rw[o,p];refine gS1 @Tryz.results146 ?_;exact⟨_,rfl,eX⟩
end
section
variable {Z:St}{n:Int}{p:Int×Nat}
def P6 (q:Q):List Value:=[.int .i64 q.n,.int .i64 q.d]
def qv (q:Q):Value:= .agg ⟨P6 q⟩
def mc (s:Bool) (n d:Int):List Value:=[.bool s,.int .u64 n,.int .u64 d]
def fv (s:Bool) (n d:Int):Value:= .agg ⟨mc s n d⟩
def DJ:Q:=⟨0,1⟩
def Ek (o:Option Q):Value:= .tuple ⟨[qv (o.getD DJ),.bool o.isSome]⟩
def Gk:Ev (gO 99 [] Z) (fun r=>∃ Z',r=⟨false,qv DJ,Z'⟩/\Ext Z Z') ⟨⟩:=by
 refine C8 Tryz.func99 rfl rfl ?_;refine gS1 @Tryz.results99 ?_;exact⟨_,rfl,eX⟩
def XB:Ev (gO 25 [.int .i64 n] Z) (fun r=>∃ Z',r=⟨false,qv (ofQ n),Z'⟩/\Ext Z Z') ⟨⟩:=by
 refine C8 Tryz.func25 rfl rfl ?_;refine gS1 @Tryz.results25 ?_;exact⟨_,rfl,eX⟩
def TS (h:BN n):Ev (gO 104 [.int .i64 n] Z) (fun r=>r=⟨false,.int .u64 (n.natAbs:Int),Z⟩) ⟨⟩:=by
 obtain⟨d,e⟩:=h;have b:∀ m:Int,IntKind.u64.wrap m=m % 18446744073709551616:=fun m=>rfl;refine C8 Tryz.func104 rfl rfl ?_;cases c:decide (n<0)with
 | true=>
   have:=z6z c;have a:IntKind.u64.wrap (0-IntKind.u64.wrap n)=(n.natAbs:Int):=by rw[b,b];omega
   refine gS1 (aI c (aI a @Tryz.results104)) ?_;try exact⟨⟩
 | false=>
   have:=z9z c;have a:IntKind.u64.wrap n=(n.natAbs:Int):=by rw[b];omega
   refine gS1 (aI c (aI a @Tryz.results104)) ?_;try exact⟨⟩
def Xj {q:Q}(a:BN q.n) (b:BN q.d):Ev (gO 52 [qv q] Z) (fun r=>∃ Z',r=⟨false,fv (decide (q.n<0)) (q.n.natAbs:Int) (q.d.natAbs:Int),Z'⟩/\Ext Z Z') ⟨⟩:=by
 refine C8 Tryz.func52 rfl rfl ?_;unfold qv P6;refine gS ?_;refine(TS a).mono ?_;rintro r rfl;refine gS ?_;refine(TS b).mono ?_;rintro r rfl;refine gS1 (aI @asR @Tryz.results52) ?_
 try refine Ct.intro (by(repeat first|simp(disch:=omega) only[O4,G6,G9,asx (Ext.refl _)]|rw[W6 (by kernel_rfl)]);first|done|rfl) ?_
 try(refine gS1 @Tryz.results52 ?_;try exact⟨⟩)
 exact⟨_,rfl,eX⟩
def TT {q:Q}(h:q.Ok):Ev (gO 103 [qv q] Z) (fun r=>∃ Z',r=⟨false,.bool true,Z'⟩/\Ext Z Z') ⟨⟩:=by
 obtain⟨n,d⟩:=q;obtain⟨h1,h2,h3,h4,h5⟩:=h;dsimp only at h1 h2 h3 h4 h5;obtain⟨D,rfl⟩:=FM (show 0<=d by omega);have c1:decide ((0:Int)<(D:Int))=true:=dT;have b:IntKind.u64.wrap (D:Int)=(D:Nat):=Fi om om;refine C8 Tryz.func103 rfl rfl ?_;unfold qv P6;refine gS1 c1 ?_;refine(TS ⟨h1,h2⟩).mono ?_;rintro r rfl;have q0:(Z.new [.int .i64 n,.int .i64 (D:Nat)]).row Z.n=some [.int .i64 n,.int .i64 (D:Nat)]:=cL;refine gS1 (aI q0 b) ?_;refine Kg.mono ?_;rintro r rfl;rw[Int.natAbs_natCast]at h5;rw[h5];have a:decide (((1:Nat):Int)=1)=true:=rfl;refine gS1 (aI a @asR) ?_
 try refine Ct.intro (by(repeat first|simp(disch:=omega) only[O4,G6,G9,asx (Ext.refl _),a,b]|rw[W6 (by kernel_rfl)]);first|done|rfl) ?_
 try(refine gS1 (aI a @Tryz.results103) ?_;try exact⟨⟩)
 exact⟨_,rfl,eX⟩
def ae {a b:Q}(h:a.Ok) (i:b.Ok):Ev (gO 51 [qv a,qv b] Z) (fun r=>∃ Z',r=⟨false,.bool true,Z'⟩/\Ext Z Z') ⟨⟩:=by
 refine C8 Tryz.func51 rfl rfl ?_;unfold qv P6;refine gS ?_;refine(TT h).mono ?_;rintro r ⟨f,rfl,c⟩;have j:=c.n;simp only[G3]at j;have k:f.row (Z.n+1)=some [.int .i64 b.n,.int .i64 b.d]:=eT (c.row (cL)) cL;refine gS1 k ?_;refine(TT i).mono ?_;rintro r ⟨Z3,rfl,e⟩;have g:Ext Z Z3:=Ext.trans (eX) (c.trans e);refine gS1 (a3N @D6 @D8 @Tryz.results51) ?_;exact⟨_,rfl,g⟩
def bG (a: -9223372036854775808<=p.1) (b:p.1<=9223372036854775807) (c:p.2<=9223372036854775807):fit p=some ⟨p.1,p.2⟩:=by unfold fit;rw[z1z ⟨a,b,c⟩]
def KZ (h:¬ (-9223372036854775808<=p.1/\p.1<=9223372036854775807/\p.2<=9223372036854775807)):fit p=none:=by unfold fit;rw[z0z h]
def jY {s:Bool}{d:Int}(F:W2 n) (E:W2 d):Ev (gO 147 [.bool s,wv n,wv d] Z) (fun r=>∃ Z',r=⟨false,Ek (fit (sg s n,d.toNat)),Z'⟩/\Ext Z Z') ⟨⟩:=by
 obtain⟨M,N⟩:=F;obtain⟨d1,d2⟩:=E;have C:∀ {D:Fr},True:=fun{D}=>trivial;refine C8 Tryz.func147 rfl rfl ?_;unfold wv II;have L:∀ τ:St,Ext Z τ->fit (sg s n,d.toNat)=none->True:=fun _ _ _=>trivial;have k:¬ (-9223372036854775808<=sg s n/\sg s n<=9223372036854775807/\d.toNat<=9223372036854775807)↔(0<n / 18446744073709551616\/0<d / 18446744073709551616\/9223372036854775807<d % 18446744073709551616\/9223372036854775808<n % 18446744073709551616\/(n % 18446744073709551616=9223372036854775808/\s=false)):=by
  unfold sg;cases s
  ·rw[z0z (by simp)];simp only[and_true];omega
  ·rw[z1z rfl];simp only[Bool.true_eq_false,and_false,EK];omega
 cases c1:decide (0<n / 18446744073709551616)with
 | true=>
   have f:fit (sg s n,d.toNat)=none:=KZ (k.2 (.inl (z6z c1)));refine gS1 c1 ?_;refine Gk.mono ?_;rintro r ⟨c,rfl,a⟩;have g:=a.n;simp only[G3]at g;have i:c.A7 (Z.n+1+1)=some [.int .i64 0,.int .i64 0]:=eT (a.A7 (cL)) cL;unfold qv P6 DJ;refine gS1 (aI i @Tryz.results147) ?_;rw[f];exact⟨_,rfl,(Ext.trans (eX) a).upd om _⟩
 |false=>
 cases b:decide (0<d / 18446744073709551616)with
 | true=>
   have f:fit (sg s n,d.toNat)=none:=KZ (k.2 (.inr (.inl (z6z b))));refine gS1 (aI c1 b) ?_;refine Gk.mono ?_;rintro r ⟨c,rfl,a⟩;have g:=a.n;simp only[G3]at g;have i:c.A7 (Z.n+1+1)=some [.int .i64 0,.int .i64 0]:=eT (a.A7 (cL)) cL;unfold qv P6 DJ;refine gS1 (aI i @Tryz.results147) ?_;rw[f];exact⟨_,rfl,(Ext.trans (eX) a).upd om _⟩
 |false=>
 cases e:decide ((9223372036854775807:Int)<d % 18446744073709551616)with
 | true=>
   have f:fit (sg s n,d.toNat)=none:=KZ (k.2 (.inr (.inr (.inl (z6z e)))));refine gS1 (aI c1 (aI b e)) ?_;refine Gk.mono ?_;rintro r ⟨c,rfl,a⟩;have g:=a.n;simp only[G3]at g;have i:c.A7 (Z.n+1+1)=some [.int .i64 0,.int .i64 0]:=eT (a.A7 (cL)) cL;unfold qv P6 DJ;refine gS1 (aI i @Tryz.results147) ?_;rw[f];exact⟨_,rfl,(Ext.trans (eX) a).upd om _⟩
 |false=>
 cases j:decide ((9223372036854775808:Int)<n % 18446744073709551616)with
 | true=>
   have f:fit (sg s n,d.toNat)=none:=KZ (k.2 (.inr (.inr (.inr (.inl (z6z j))))));refine gS1 (aI c1 (aI b (aI e j))) ?_;refine Gk.mono ?_;rintro r ⟨c,rfl,a⟩;have g:=a.n;simp only[G3]at g;have i:c.A7 (Z.n+1+1)=some [.int .i64 0,.int .i64 0]:=eT (a.A7 (cL)) cL;unfold qv P6 DJ;refine gS1 (aI i @Tryz.results147) ?_;rw[f];exact⟨_,rfl,(Ext.trans (eX) a).upd om _⟩
 |false=>
 have H:=z9z c1;have I:=z9z b;have J:=z9z e;have K:=z9z j;have B:n % 18446744073709551616=n:=om;have A:d % 18446744073709551616=d:=om;have o:n / 18446744073709551616=0:=om;have m:d / 18446744073709551616=0:=om;rw[B]at j k;rw[A]at e k;rw[o]at c1;rw[m]at b;rw[B,A,o,m];have v:IntKind.i64.wrap d=d:=wrap64_in om om;have y:(d.toNat:Int)=d:=om;cases l:decide (n=9223372036854775808)with
 | true=>
   have z:=z6z l;subst z;cases s with
   | false=>
     have f:fit (sg false 9223372036854775808,d.toNat)=none:=KZ (k.2 (.inr (.inr (.inr (.inr ⟨rfl,rfl⟩)))));refine gS1 (aI c1 (aI b (aI e (aI j l)))) ?_;refine Gk.mono ?_;rintro r ⟨c,rfl,a⟩;have g:=a.n;simp only[G3]at g;have i:c.A7 (Z.n+1+1)=some [.int .i64 0,.int .i64 0]:=eT (a.A7 (cL)) cL;unfold qv P6 DJ;refine gS1 (aI i @Tryz.results147) ?_;rw[f];exact⟨_,rfl,(Ext.trans (eX) a).upd om _⟩
   | true=>
     have f1:fit (sg true 9223372036854775808,d.toNat)=some ⟨-9223372036854775808,d⟩:=by
      rw[bG (by show -9223372036854775808<=(-9223372036854775808:Int);omega) (by show(-9223372036854775808:Int)<=_;omega) (by show d.toNat<=_;omega)];show some (⟨-9223372036854775808,(d.toNat:Int)⟩:Q)=_;rw[y]
     have q:IntKind.i64.wrap 9223372036854775808= -9223372036854775808:=by decide
     have u:IntKind.i64.wrap (0- -9223372036854775808)= -9223372036854775808:=by decide
     have G:IntKind.i64.wrap (-(-9223372036854775808))= -9223372036854775808:=by decide
     rw[f1];refine gS1 (aI c1 (aI b (aI e (aI j (aI l (aI q (aI u (aI G (aI v (a3N @D6 @D8 @Tryz.results147)))))))))) ?_;exact⟨_,rfl,eX⟩
 | false=>
   have z:=z9z l;have q:IntKind.i64.wrap n=n:=wrap64_in om om;have f1:fit (sg s n,d.toNat)=some ⟨sg s n,d⟩:=by
    have: -9223372036854775808<=sg s n/\sg s n<=9223372036854775807/\d.toNat<=9223372036854775807:=by
     refine TU fun h=>?_;have:=k.1 h;omega
    rw[bG this.1 this.2.1 this.2.2];show some (⟨sg s n,(d.toNat:Int)⟩:Q)=_;rw[y]
   rw[f1];cases s with
   | false=>
     refine gS1 (aI c1 (aI b (aI e (aI j (aI l (aI q (aI v (a3N @D6 @D8 @Tryz.results147)))))))) ?_;exact⟨_,rfl,eX⟩
   | true=>
     have u:IntKind.i64.wrap (0-n)= -n:=by rw[Int.zero_sub];exact wrap64_in om om
     refine gS1 (aI c1 (aI b (aI e (aI j (aI l (aI q (aI u (aI v (a3N @D6 @D8 @Tryz.results147))))))))) ?_;exact⟨_,rfl,eX⟩
end
end Go.Proofs.T
namespace Go.Proofs.T
open Go Go.Ab Go.N9
open Nat (reduceMul reduceEqDiff reduceAdd)
def ag {x y:Operand}{a b:Bool}:Aq Tryz.prog .neq 4 x y (.bool a) (.bool b)=some (.bool (a != b)):=by cases a<;>cases b<;>kernel_rfl
def VZ {Z:St}{m o:Bool}{N1 N2 f i:Nat}(G:IY (sg m N1) f) (H:IY (sg o N2) i) (q:N1<=9223372036854775808) (s:N2<=9223372036854775808) (u:f<=9223372036854775808) (v:i<=9223372036854775808) :
  Ev (gO 97 [fv m (N1:Nat) (f:Nat),fv o (N2:Nat) (i:Nat)] Z) (fun r=>∃ Z',r=⟨false,Ek (fit (low (sg m N1*sg o N2) (f*i))),Z'⟩/\Ext Z Z') ⟨⟩:=by
 have W:=G.1;have X:=H.1;refine C8 Tryz.func97 rfl rfl ?_;unfold fv mc;have K:N1=0\/N2=0->fit (low (sg m N1*sg o N2) (f*i))=some DJ:=fun h=>by
  have e:sg m N1*sg o N2=0:=by
   rcases h with rfl|rfl
   ·rw[show sg m ((0:Nat):Int)=0 by cases m<;>rfl,Int.zero_mul]
   ·rw[show sg o ((0:Nat):Int)=0 by cases o<;>rfl,Int.mul_zero]
  rw[e,cO (Nat.mul_pos W X)];rfl
 cases c1:decide ((N1:Int)=0)with
 | true=>
   have D:=K (.inl (by have:=z6z c1;omega));refine gS1 c1 ?_;refine Gk.mono ?_;rintro r ⟨Z2,rfl,d⟩;have y:=d.n;simp only[G3]at y;have z:Z2.A7 (Z.n+1+1)=some [.int .i64 0,.int .i64 0]:=eT (d.A7 (cL)) cL;unfold qv P6 DJ;refine gS1 (aI z @Tryz.results97) ?_;rw[D];exact⟨_,rfl,(Ext.trans (eX) d).upd om _⟩
 |false=>
 cases A:decide ((N2:Int)=0)with
 | true=>
   have D:=K (.inr (by have:=z6z A;omega));refine gS1 (aI c1 A) ?_;refine Gk.mono ?_;rintro r ⟨Z2,rfl,d⟩;have y:=d.n;simp only[G3]at y;have z:Z2.A7 (Z.n+1+1)=some [.int .i64 0,.int .i64 0]:=eT (d.A7 (cL)) cL;unfold qv P6 DJ;refine gS1 (aI z @Tryz.results97) ?_;rw[D];exact⟨_,rfl,(Ext.trans (eX) d).upd om _⟩
 |false=>
 have S:0<N1:=by have:=z9z c1;omega
 have U:0<N2:=by have:=z9z A;omega
 rw[cM G H];refine gS1 (aI c1 A) ?_;refine Kg.mono ?_;rintro r rfl;refine gS ?_;refine Kg.mono ?_;rintro r rfl;obtain⟨g,J⟩:=nW (Nat.gcd N1 i);obtain⟨h,hh⟩:=nW (Nat.gcd N2 f);have g0:0<g:=by rw[<- J];exact Nat.gcd_pos_of_pos_left _ S
 have h0:0<h:=by rw[<- hh];exact Nat.gcd_pos_of_pos_left _ U
 rw[J,hh];have C:∀ (a b:Nat),a<=9223372036854775808->IntKind.u64.wrap (Int.tdiv (a:Int) (b:Int))=((a / b:Nat):Int):=fun a b B=>by
  have:a / b<=a:=KD _ _;rw[<- Int.ofNat_tdiv];generalize a / b=c at *;exact Fi om om
 have p:∀ (a b:Nat),a<=9223372036854775808->U64 ((a / b:Nat):Int):=fun a b B=>by
  have:a / b<=a:=KD _ _;generalize a / b=c at *;exact⟨om,om⟩
 have M:decide ((g:Int)=0)=false:=dF;have N:decide ((h:Int)=0)=false:=dF;simp(maxSteps:=8000000) (disch:=first|exact dS|fail) only[↓bD,bW,reduceMul,reduceEqDiff,reduceAdd,Nat.reduceBEq,reduceIte,Option.isNone_none,asx (Ext.refl _),G9,G6,ag,C N1 g q,C N2 h s,M,N];refine(Ci (p N1 g q) (p N2 h s)).mono ?_;rintro r ⟨Z2,rfl,d⟩;have y:=d.n;simp only[G3]at y;have r0:Z2.row Z.n=some [.bool m,.int .u64 (N1:Nat),.int .u64 (f:Nat)]:=eT (d.row (cL)) cL;have r1:Z2.row (Z.n+1)=some [.bool o,.int .u64 (N2:Nat),.int .u64 (i:Nat)]:=eT (d.row (cL)) cL;have z:Z2.A7 (Z.n+1+1)=some [.int .i64 0,.int .i64 0]:=eT (d.A7 (cL)) cL;have O:Ext Z Z2:=Ext.trans (eX) d;simp(maxSteps:=8000000) (disch:=first|exact dS|fail) only[↓bD,bW,reduceMul,reduceEqDiff,reduceAdd,Nat.reduceBEq,reduceIte,Option.isNone_none,asx (Ext.refl _),asx d,G9,G6,r0,r1,C f h u,C i g v,M,N];refine(Ci (p f h u) (p i g v)).mono ?_;rintro r ⟨Y,rfl,j⟩;have k3:=j.n;have V:=eT (j.A7 om) z;have u1:=p N1 g q;have u2:=p N2 h s;have u3:=p f h u;have u4:=p i g v;have le:∀ {a b:Int},0<=a->a<=9223372036854775808->0<=b->b<=9223372036854775808->W2 (a*b):=fun B E I F=>by
  refine⟨Int.mul_nonneg B I,?_⟩;have:=Int.mul_le_mul E F I om;omega
 have l:∀ (a b:Nat),a<=9223372036854775808->0<=((a / b:Nat):Int)/\((a / b:Nat):Int)<=9223372036854775808:=fun a b B=>by
  have:a / b<=a:=KD _ _;generalize a / b=c at *;exact⟨om,om⟩
 refine gS1 (aI @asR (aI (asx d) (aI (asx j) (aI @G9 @G6)))) ?_;refine(jY (le (l N1 g q).1 (l N1 g q).2 (l N2 h s).1 (l N2 h s).2) (le (l f h u).1 (l f h u).2 (l i g v).1 (l i g v).2)).mono ?_;rintro r ⟨Z4,rfl,k⟩;have k4:=k.n;have L:=eT (k.A7 om) V;have R:((((f / h:Nat):Int)*((i / g:Nat):Int)).toNat)=f / h*(i / g):=by rw[<- Int.natCast_mul,Jq]
 rw[R];unfold Ek qv P6;refine gS1 (aI @asR (aI (asx d) (aI (asx j) (aI (asx k) (aI @G9 (aI @G6 (aI L @Tryz.results97))))))) ?_
 try refine Ct.intro (by(repeat first|simp(disch:=omega) only[O4,G6,G9,asx (Ext.refl _),asx d,asx j,asx k]|rw[W6 (by kernel_rfl)]);first|done|rfl) ?_
 try(refine gS1 (aI L @Tryz.results97) ?_;try exact⟨⟩)
 exact⟨_,rfl,((O.trans j).trans k).upd om _⟩
end Go.Proofs.T
