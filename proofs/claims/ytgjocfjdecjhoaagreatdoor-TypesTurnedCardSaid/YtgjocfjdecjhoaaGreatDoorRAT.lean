/- Operations on bits, and Aw8. -/
import Derived.Test.YtgjocfjdecjhoaaGreatDoorTF
import Derived.Test.YtgjocfjdecjhoaaGreatDoorQA
set_option linter.unusedSimpArgs false
set_option linter.unusedVariables false
set_option linter.defProp false
set_option maxHeartbeats 32000000
set_option maxRecDepth 100000
namespace Go.Ab
open Go
section
variable {m n:Int}{v:Value}
section
variable {P:Program}{t:TypeId}{x y:Operand}
def gL {b:BinOp}(hb:b= .and\/b= .or\/b= .xor\/b= .andNot){k:IntKind}(h:Op.intBits b k m n= .pure v) (hv:Ji v=true):Ay P b t x y (.int k m) (.int k n)=some v:=by
 have key:EI P b t x y (.int k m) (.int k n)=some v:=by
  unfold EI;rcases hb with rfl|rfl|rfl|rfl<;>(simp only[eqGuard,binOp,ne_eq,not_true_eq_false,Gc,h];show ob (some v) cst=_;rw[D4];unfold cst;rw[hv];rfl)
 show orV (Ix b (.int k m) (.int k n)) (bi (flat (.int k m)&&flat (.int k n)) (EI P b t x y (.int k m) (.int k n)) _)=_;rw[key];rcases hb with rfl|rfl|rfl|rfl<;>cases k<;>rfl
def AO5 {k:IntKind}:Ay P .and t x y (.int k m) (.int k n)=some (.int k (k.wrap ((BitVec.ofInt k.bits m &&& BitVec.ofInt k.bits n).toNat:Nat))):=gL (.inl rfl) rfl rfl
def Ai8 {k:IntKind}:Ay P .or t x y (.int k m) (.int k n)=some (.int k (k.wrap ((BitVec.ofInt k.bits m ||| BitVec.ofInt k.bits n).toNat:Nat))):=gL (.inr (.inl rfl)) rfl rfl
def Yl {b:BinOp}(hb:b= .shl\/b= .shr){k yk:IntKind}(h:Op.shift b k m yk n= .pure v) (hv:Ji v=true):Ay P b t x y (.int k m) (.int yk n)=some v:=by
 have key:EI P b t x y (.int k m) (.int yk n)=some v:=by
  unfold EI;rcases hb with rfl|rfl<;>(simp only[eqGuard,binOp];rw[h];show ob (some v) cst=_;rw[D4];unfold cst;rw[hv];rfl)
 show orV (Ix b (.int k m) (.int yk n)) (bi (flat (.int k m)&&flat (.int yk n)) (EI P b t x y (.int k m) (.int yk n)) _)=_;rw[key];have hf:Ix b (.int k m) (.int yk n)=none:=by
  show bb (keq k yk) (Ai9 b k m n)=none;rcases hb with rfl|rfl<;>cases keq k yk<;>rfl
 rw[hf];rfl
def AJ6 {k yk:IntKind}(hn:0<=n):Ay P .shl t x y (.int k m) (.int yk n)=some (.int k (k.wrap (m*2 ^ min n.toNat k.bits))) :=
 Yl (.inl rfl) (by unfold Op.shift;rw[z0z om];rfl) rfl
def AO6 {k yk:IntKind}(hn:0<=n):Ay P .shr t x y (.int k m) (.int yk n)=some (.int k (m.fdiv (2 ^ min n.toNat k.bits))) :=
 Yl (.inr rfl) (by unfold Op.shift;rw[z0z om];rfl) rfl
def pT (m n:Int):Int:=((BitVec.ofInt 64 m &&& BitVec.ofInt 64 n).toNat:Nat)
def AJ8 (m n:Int):Int:=((BitVec.ofInt 64 m ||| BitVec.ofInt 64 n).toNat:Nat)
def Rb (v:BitVec 64):IntKind.u64.wrap ((v.toNat:Nat):Int)=((v.toNat:Nat):Int):=by
 have h:=v.isLt;show((v.toNat:Nat):Int) % 18446744073709551616=_;omega
def XV:Ay P .and t x y (.int .u64 m) (.int .u64 n)=some (.int .u64 (pT m n)):=by rw[AO5];exact congrArg (fun z=>some (Value.int .u64 z)) (Rb _)
def vN:Ay P .or t x y (.int .u64 m) (.int .u64 n)=some (.int .u64 (AJ8 m n)):=by rw[Ai8];exact congrArg (fun z=>some (Value.int .u64 z)) (Rb _)
def IL {k yk:IntKind}{n:Nat}(hn:n<=k.bits) (hm:0<=m):Ay P .shr t x y (.int k m) (.int yk (n:Int))=some (.int k (m / 2 ^ n)):=by
 rw[AO6 om,OO,wh hn,Int.fdiv_eq_ediv_of_nonneg _ (Int.pow_nonneg om)]
end
section
def toNat_ofInt (h:0<=m/\m<18446744073709551616):(BitVec.ofInt 64 m).toNat=m.toNat:=by
 rw[BitVec.toNat_ofInt];show(m % 18446744073709551616).toNat=_;rw[Int.emod_eq_of_lt h.1 h.2]
def Gj (h:0<=m/\m<18446744073709551616):pT m 4294967295=m % 4294967296:=by
 unfold pT;rw[BitVec.toNat_and,toNat_ofInt h,toNat_ofInt ⟨om,om⟩];show((m.toNat &&& (2 ^ 32-1):Nat):Int)=_;rw[Nat.and_two_pow_sub_one_eq_mod];omega
end
end
end Go.Ab
namespace Go.Proofs.T
open Go Go.Ab Go.V6
open Nat (reduceMul reduceEqDiff reduceAdd)
section
variable {P:Program}{x y:Operand}{m n c:Int}{Z:St}
def U64 (n:Int):Prop:=0<=n/\n<18446744073709551616
def Gk:M6 .u64 n=n % 18446744073709551616:=Ac _ _
def Af (h1:0<=n) (h2:n<18446744073709551616):M6 .u64 n=n:=by rw[Gk];exact Int.emod_eq_of_lt h1 h2
def QR {t:TypeId}(h:0<=m):Ay P .shr t x y (.int .u64 m) (.int .u64 32)=some (.int .u64 (m / 4294967296)):=IL (n:=32) (by decide) h
def yR {t:TypeId}(h:0<=m):Ay P .shr t x y (.int .u64 m) (.int .u64 16)=some (.int .u64 (m / 65536)):=IL (n:=16) (by decide) h
def sh8 {t:TypeId}(h:0<=m):Ay P .shr t x y (.int .u64 m) (.int .u64 8)=some (.int .u64 (m / 256)):=IL (n:=8) (by decide) h
def ti {x y:Int}(hx:U64 x) (hy:U64 y):
  Ev (gO 108 [.int .u64 x,.int .u64 y] Z) (fun r=>r=⟨false,.tuple ⟨[.int .u64 (x*y / 18446744073709551616),.int .u64 (x*y % 18446744073709551616)]⟩,Z⟩) ⟨⟩:=by
 have hm:=An0 hx hy;dsimp only at hm;have wu:M6 .u64 (x*y)=x*y % 18446744073709551616:=Gk;have a0:=Gj hx;have b0:=Gj hy;obtain⟨x0,hx0⟩:=nm (x % 4294967296);obtain⟨x1,hx1⟩:=nm (x / 4294967296);obtain⟨y0,hy0⟩:=nm (y % 4294967296);obtain⟨y1,hy1⟩:=nm (y / 4294967296);have px:=hx.1;have py:=hy.1;rw[hx0,hx1,hy0,hy1]at hm;rw[hx0]at a0;rw[hy0]at b0;obtain⟨P0,hP0⟩:=nm (x0*y0);obtain⟨P1,hP1⟩:=nm (x1*y0);obtain⟨P2,hP2⟩:=nm (x0*y1);obtain⟨P3,hP3⟩:=nm (x1*y1);rw[hP0,hP1,hP2,hP3]at hm;obtain⟨m0,m1,m2,m3,m4,m5,m6⟩:=hm;obtain⟨t,ht⟩:=nm (P1+P0 / 4294967296);rw[ht]at m2 m4 m6;have c0:=Gj (m:=t) m2;obtain⟨t0,ht0⟩:=nm (t % 4294967296);obtain⟨w1,hw1⟩:=nm (t0+P2);rw[ht0,hw1]at m4 m6;rw[ht0]at c0;have w0:M6 .u64 P0=P0:=Af m0.1 m0.2;have w2:M6 .u64 P1=P1:=Af m1.1 m1.2;have w3:M6 .u64 t=t:=Af m2.1 m2.2;have w4:M6 .u64 P2=P2:=Af m3.1 m3.2;have w5:M6 .u64 w1=w1:=Af m4.1 m4.2;have w6:M6 .u64 P3=P3:=Af m5.1 m5.2;have q0:0<=x*y:=Int.mul_nonneg px py;have q1:x*y / 18446744073709551616<18446744073709551616:=by
  have:x*y<=18446744073709551615*18446744073709551615:=Int.mul_le_mul (by have:=hx.2;omega) (by have:=hy.2;omega) py om;omega
 have w7:M6 .u64 (P3+t / 4294967296)=P3+t / 4294967296:=Af om om;have w8:M6 .u64 (P3+t / 4294967296+w1 / 4294967296)=x*y / 18446744073709551616:=by rw[m6];exact Af om q1
 refine C9 Tryz.func108 rfl rfl ?_;simp(maxSteps:=8000000) (disch:=first|exact dS|fail) only[↓bD,bW,reduceMul,reduceEqDiff,reduceAdd,Nat.reduceBEq,reduceIte,Option.isNone_none,XV,QR px,QR py,QR m0.1,QR m2.1,QR m4.1,a0,b0,c0,hx1,hy1,hP0,hP1,hP2,hP3,ht,hw1,w0,w2,w3,w4,w5,w6,w7,w8,wu,Tryz.results108]
def ZG {x y:Int}(hx:U64 x) (hy:U64 y)(hc:c=0\/c=1):
  go Tryz.prog HS (.fn 190) [.int .u64 x,.int .u64 y,.int .u64 c] Z=some ⟨false,.tuple ⟨[.int .u64 ((x+y+c) % 18446744073709551616),.int .u64 ((x+y+c) / 18446744073709551616)]⟩,Z⟩:=by
 obtain⟨X,rfl⟩:=Fo hx.1;obtain⟨Y,rfl⟩:=Fo hy.1;rcases hc with rfl|rfl
 ·have e:go Tryz.prog HS (.fn 190) [.int .u64 (X:Int),.int .u64 (Y:Int),.int .u64 0] Z=some ⟨false,.tuple ⟨[.int .u64 (((X+Y+0) % 18446744073709551616:Nat):Int),.int .u64 (((X+Y+0) / 18446744073709551616:Nat):Int)]⟩,Z⟩:=kR;rw[e];congr 6<;>omega
 ·have e:go Tryz.prog HS (.fn 190) [.int .u64 (X:Int),.int .u64 (Y:Int),.int .u64 1] Z=some ⟨false,.tuple ⟨[.int .u64 (((X+Y+1) % 18446744073709551616:Nat):Int),.int .u64 (((X+Y+1) / 18446744073709551616:Nat):Int)]⟩,Z⟩:=kR;rw[e];congr 6<;>omega
def ZH {x y:Int}(hx:U64 x) (hy:U64 y)(hc:c=0\/c=1):
  go Tryz.prog HS (.fn 191) [.int .u64 x,.int .u64 y,.int .u64 c] Z=some ⟨false,.tuple ⟨[.int .u64 ((x-y-c) % 18446744073709551616),.int .u64 (if x<y+c then 1 else 0)]⟩,Z⟩:=by
 obtain⟨X,rfl⟩:=Fo hx.1;obtain⟨Y,rfl⟩:=Fo hy.1;have hy':=hy.2;have hi:∀ c:Nat,((if X<Y+c then(1:Nat)else 0:Nat):Int)=if (X:Int)<(Y:Int)+(c:Int)then 1 else 0:=fun c=>by
  by_cases h:X<Y+c
  ·rw[z1z h,z1z om];rfl
  ·rw[z0z h,z0z om];rfl
 rcases hc with rfl|rfl
 ·have e:go Tryz.prog HS (.fn 191) [.int .u64 (X:Int),.int .u64 (Y:Int),.int .u64 0] Z=some ⟨false,.tuple ⟨[.int .u64 (((X+18446744073709551616-Y-0) % 18446744073709551616:Nat):Int),.int .u64 ((if X<Y+0 then(1:Nat)else 0:Nat):Int)]⟩,Z⟩:=kR;rw[e,hi 0];congr 6;omega
 ·have e:go Tryz.prog HS (.fn 191) [.int .u64 (X:Int),.int .u64 (Y:Int),.int .u64 1] Z=some ⟨false,.tuple ⟨[.int .u64 (((X+18446744073709551616-Y-1) % 18446744073709551616:Nat):Int),.int .u64 ((if X<Y+1 then(1:Nat)else 0:Nat):Int)]⟩,Z⟩:=kR;rw[e,hi 1];congr 6;omega
end
end Go.Proofs.T
namespace Go.Proofs.T
open Go Go.Ab Go.V6
def l8 (n:Nat):Nat:=if n<1 then 0 else if n<2 then 1 else if n<4 then 2 else if n<8 then 3 else if n<16 then 4 else if n<32 then 5 else if n<64 then 6 else if n<128 then 7 else 8
def yP:((List.range 256).all fun k=>decide (sub (List.append (List.append [0,1,2,2,3,3,3,3,4,4,4,4,4,4,4,4,5,5,5,5,5,5,5,5,5,5,5,5,5,5,5,5,6,6,6,6,6,6,6,6,6,6,6,6,6,6,6,6,6,6,6,6,6,6,6,6,6,6,6,6,6,6,6,6] [7,7,7,7,7,7,7,7,7,7,7,7,7,7,7,7,7,7,7,7,7,7,7,7,7,7,7,7,7,7,7,7,7,7,7,7,7,7,7,7,7,7,7,7,7,7,7,7,7,7,7,7,7,7,7,7,7,7,7,7,7,7,7,7]) (List.append [8,8,8,8,8,8,8,8,8,8,8,8,8,8,8,8,8,8,8,8,8,8,8,8,8,8,8,8,8,8,8,8,8,8,8,8,8,8,8,8,8,8,8,8,8,8,8,8,8,8,8,8,8,8,8,8,8,8,8,8,8,8,8,8] [8,8,8,8,8,8,8,8,8,8,8,8,8,8,8,8,8,8,8,8,8,8,8,8,8,8,8,8,8,8,8,8,8,8,8,8,8,8,8,8,8,8,8,8,8,8,8,8,8,8,8,8,8,8,8,8,8,8,8,8,8,8,8,8]):List UInt8) k 1=some [UInt8.ofNat (l8 k)]))=true:=kR
def Jq {k:Nat}(h:k<256):sub (List.append (List.append [0,1,2,2,3,3,3,3,4,4,4,4,4,4,4,4,5,5,5,5,5,5,5,5,5,5,5,5,5,5,5,5,6,6,6,6,6,6,6,6,6,6,6,6,6,6,6,6,6,6,6,6,6,6,6,6,6,6,6,6,6,6,6,6] [7,7,7,7,7,7,7,7,7,7,7,7,7,7,7,7,7,7,7,7,7,7,7,7,7,7,7,7,7,7,7,7,7,7,7,7,7,7,7,7,7,7,7,7,7,7,7,7,7,7,7,7,7,7,7,7,7,7,7,7,7,7,7,7]) (List.append [8,8,8,8,8,8,8,8,8,8,8,8,8,8,8,8,8,8,8,8,8,8,8,8,8,8,8,8,8,8,8,8,8,8,8,8,8,8,8,8,8,8,8,8,8,8,8,8,8,8,8,8,8,8,8,8,8,8,8,8,8,8,8,8] [8,8,8,8,8,8,8,8,8,8,8,8,8,8,8,8,8,8,8,8,8,8,8,8,8,8,8,8,8,8,8,8,8,8,8,8,8,8,8,8,8,8,8,8,8,8,8,8,8,8,8,8,8,8,8,8,8,8,8,8,8,8,8,8]):List UInt8) k 1=some [UInt8.ofNat (l8 k)]:=z6z (GJ.1 yP k (uy.2 h))
def AQ8 (n:Nat) (x:Int):Prop:=(x<2 ^ n/\n<=64)/\(1<=x->1<=n/\2 ^ (n-1)<=x)
def HT {k:Nat}(h:k<256) (s:Nat) (hs:s<=56){x:Int}(hx:0<=x) (he:x / 2 ^ s=(k:Nat)) (h0:0<s->1<=k):AQ8 (s+l8 k) x:=by
 have hp:(0:Int)<2 ^ s:=Int.pow_pos om;have m1:=Int.mul_ediv_add_emod x (2 ^ s);have m2:=Int.emod_nonneg x (show(2:Int) ^ s≠0 by omega);have m3:=Int.emod_lt_of_pos x hp;rw[he]at m1;have key:(k:Int)+1<=2 ^ l8 k/\l8 k<=8/\(1<=k->1<=l8 k/\(2:Int) ^ (l8 k-1)<=k):=by
  unfold l8
  repeat' split
  all_goals (refine⟨om,om,fun _=>⟨om,om⟩⟩)
 obtain⟨k1,k2,k3⟩:=key;refine⟨⟨?_,om⟩,fun h1=>?_⟩
 ·rw[Int.pow_add];have:(2:Int) ^ s*(k+1)<=2 ^ s*2 ^ l8 k:=Int.mul_le_mul_of_nonneg_left k1 om;rw[Int.mul_add]at this;omega
 ·have hk:1<=k:=by
   rcases VV s with e|e
   ·subst e;rw[Int.pow_zero,Int.ediv_one]at he;omega
   ·exact h0 e
  obtain⟨k4,k5⟩:=k3 hk;refine⟨om,?_⟩;have e1:s+l8 k-1=s+(l8 k-1):=om;rw[e1,Int.pow_add];have:(2:Int) ^ s*2 ^ (l8 k-1)<=2 ^ s*k:=Int.mul_le_mul_of_nonneg_left k5 om;omega
section
variable {Z:St}{k:Nat}{x:Int}
def Dm {n:Int}:Hp Tryz.prog Z 101 5 (.int .u64 n)=some ⟨.int .u8 (IntKind.u8.wrap n),Z,.none⟩:=kR
def Fk:l8 k<=8:=by
 unfold l8
 repeat' split
 all_goals omega
def Jr:((UInt8.ofNat (l8 k)).toNat:Nat)=l8 k:=by
 have:=Fk (k:=k);rw[UInt8.toNat_ofNat'];omega
def HU {c:UInt8}:jW [c]=some (.int .u8 (c.toNat:Nat)):=rfl
def w8 {n:Nat}(h:n<=8):IntKind.i64.wrap (n:Int)=(n:Nat):=wrap64_in om om
def rL (hx:U64 x):Ev (gO 216 [.int .u64 x] Z) (fun r=>∃ n:Nat,r=⟨false,.int .i64 (n:Nat),Z⟩/\AQ8 n x) ⟨⟩:=by
 obtain⟨x0,x1⟩:=hx;refine C9 Tryz.func216 rfl rfl ?_;cases c0:decide (x<(4294967296:Int))with
 | true=>
   have n0:=z6z c0;cases c1:decide (x<(65536:Int))with
   | true=>
     have n1:=z6z c1;cases c2:decide (x<(256:Int))with
     | true=>
       have n2:=z6z c2;obtain⟨k,rfl⟩:=Fo (show 0<=x by omega);have Gu:k<256:=om;have ht:=Jq Gu;have hu:IntKind.u8.wrap (k:Int)=(k:Nat):=ER om om;have hb:=w8 (Fk (k:=k));have hl:=Fk (k:=k);have ha:((0:Int))+((l8 k:Nat):Int)=((0+l8 k:Nat):Int):=om;refine gS1 (aI c0 (aI c1 (aI c2 (aI @Dm (aI hu (aI ht (aI @Jr (aI @HU (aI hb (aI ha (a3N @D9 @F4 @Tryz.results216))))))))))) ?_;exact⟨l8 k,rfl,by have:=HT Gu 0 om (x:=(k:Nat)) om (by rw[Int.pow_zero,Int.ediv_one]) (fun h=>om);rwa [HC]at this⟩
     | false=>
       have n2:=z9z c2;obtain⟨z8,Al2⟩:=nm (x / 256);have hz8:=Al2;obtain⟨k,hk⟩:=Fo (show 0<=z8 by omega);subst hk;have Gu:k<256:=om;have ht:=Jq Gu;have hu:IntKind.u8.wrap (k:Int)=(k:Nat):=ER om om;have hb:=w8 (Fk (k:=k));have hl:=Fk (k:=k);have ha:((8:Int))+((l8 k:Nat):Int)=((8+l8 k:Nat):Int):=om;refine gS1 (aI c0 (aI c1 (aI c2 (aI @sh8 (aI Al2 (aI @Dm (aI hu (aI ht (aI @Jr (aI @HU (aI hb (aI ha (a3N @D9 @F4 @Tryz.results216))))))))))))) ?_;exact⟨8+l8 k,rfl,HT Gu 8 om om (by rw[show(2:Int) ^ 8=256 by decide];exact hz8) (fun _=>om)⟩
   | false=>
     have n1:=z9z c1;obtain⟨z16,rM⟩:=nm (x / 65536);have Ay2:=rM;cases c2:decide (z16<(256:Int))with
     | true=>
       have n2:=z6z c2;obtain⟨k,hk⟩:=Fo (show 0<=z16 by omega);subst hk;have Gu:k<256:=om;have ht:=Jq Gu;have hu:IntKind.u8.wrap (k:Int)=(k:Nat):=ER om om;have hb:=w8 (Fk (k:=k));have hl:=Fk (k:=k);have ha:((16:Int))+((l8 k:Nat):Int)=((16+l8 k:Nat):Int):=om;refine gS1 (aI c0 (aI c1 (aI c2 (aI @yR (aI rM (aI @Dm (aI hu (aI ht (aI @Jr (aI @HU (aI hb (aI ha (a3N @D9 @F4 @Tryz.results216))))))))))))) ?_;exact⟨16+l8 k,rfl,HT Gu 16 om om (by rw[show(2:Int) ^ 16=65536 by decide];exact Ay2) (fun _=>om)⟩
     | false=>
       have n2:=z9z c2;obtain⟨z24,Al3⟩:=nm (z16 / 256);have Ay3:x / 16777216=z24:=om;obtain⟨k,hk⟩:=Fo (show 0<=z24 by omega);subst hk;have Gu:k<256:=om;have ht:=Jq Gu;have hu:IntKind.u8.wrap (k:Int)=(k:Nat):=ER om om;have hb:=w8 (Fk (k:=k));have hl:=Fk (k:=k);have ha:((24:Int))+((l8 k:Nat):Int)=((24+l8 k:Nat):Int):=om;refine gS1 (aI c0 (aI c1 (aI c2 (aI @yR (aI rM (aI @sh8 (aI Al3 (aI @Dm (aI hu (aI ht (aI @Jr (aI @HU (aI hb (aI ha (a3N @D9 @F4 @Tryz.results216))))))))))))))) ?_;exact⟨24+l8 k,rfl,HT Gu 24 om om (by rw[show(2:Int) ^ 24=16777216 by decide];exact Ay3) (fun _=>om)⟩
 | false=>
   have n0:=z9z c0;obtain⟨z32,ZV⟩:=nm (x / 4294967296);have Ay4:=ZV;cases c1:decide (z32<(65536:Int))with
   | true=>
     have n1:=z6z c1;cases c2:decide (z32<(256:Int))with
     | true=>
       have n2:=z6z c2;obtain⟨k,hk⟩:=Fo (show 0<=z32 by omega);subst hk;have Gu:k<256:=om;have ht:=Jq Gu;have hu:IntKind.u8.wrap (k:Int)=(k:Nat):=ER om om;have hb:=w8 (Fk (k:=k));have hl:=Fk (k:=k);have ha:((32:Int))+((l8 k:Nat):Int)=((32+l8 k:Nat):Int):=om;refine gS1 (aI c0 (aI c1 (aI c2 (aI @QR (aI ZV (aI @Dm (aI hu (aI ht (aI @Jr (aI @HU (aI hb (aI ha (a3N @D9 @F4 @Tryz.results216))))))))))))) ?_;exact⟨32+l8 k,rfl,HT Gu 32 om om (by rw[show(2:Int) ^ 32=4294967296 by decide];exact Ay4) (fun _=>om)⟩
     | false=>
       have n2:=z9z c2;obtain⟨z40,Al4⟩:=nm (z32 / 256);have Ay5:x / 1099511627776=z40:=om;obtain⟨k,hk⟩:=Fo (show 0<=z40 by omega);subst hk;have Gu:k<256:=om;have ht:=Jq Gu;have hu:IntKind.u8.wrap (k:Int)=(k:Nat):=ER om om;have hb:=w8 (Fk (k:=k));have hl:=Fk (k:=k);have ha:((40:Int))+((l8 k:Nat):Int)=((40+l8 k:Nat):Int):=om;refine gS1 (aI c0 (aI c1 (aI c2 (aI @QR (aI ZV (aI @sh8 (aI Al4 (aI @Dm (aI hu (aI ht (aI @Jr (aI @HU (aI hb (aI ha (a3N @D9 @F4 @Tryz.results216))))))))))))))) ?_;exact⟨40+l8 k,rfl,HT Gu 40 om om (by rw[show(2:Int) ^ 40=1099511627776 by decide];exact Ay5) (fun _=>om)⟩
   | false=>
     have n1:=z9z c1;obtain⟨z48,AG0⟩:=nm (z32 / 65536);have Ay6:x / 281474976710656=z48:=om;cases c2:decide (z48<(256:Int))with
     | true=>
       have n2:=z6z c2;obtain⟨k,hk⟩:=Fo (show 0<=z48 by omega);subst hk;have Gu:k<256:=om;have ht:=Jq Gu;have hu:IntKind.u8.wrap (k:Int)=(k:Nat):=ER om om;have hb:=w8 (Fk (k:=k));have hl:=Fk (k:=k);have ha:((48:Int))+((l8 k:Nat):Int)=((48+l8 k:Nat):Int):=om;refine gS1 (aI c0 (aI c1 (aI c2 (aI @QR (aI ZV (aI @yR (aI AG0 (aI @Dm (aI hu (aI ht (aI @Jr (aI @HU (aI hb (aI ha (a3N @D9 @F4 @Tryz.results216))))))))))))))) ?_;exact⟨48+l8 k,rfl,HT Gu 48 om om (by rw[show(2:Int) ^ 48=281474976710656 by decide];exact Ay6) (fun _=>om)⟩
     | false=>
       have n2:=z9z c2;obtain⟨z56,Al5⟩:=nm (z48 / 256);have Ay7:x / 72057594037927936=z56:=om;obtain⟨k,hk⟩:=Fo (show 0<=z56 by omega);subst hk;have Gu:k<256:=om;have ht:=Jq Gu;have hu:IntKind.u8.wrap (k:Int)=(k:Nat):=ER om om;have hb:=w8 (Fk (k:=k));have hl:=Fk (k:=k);have ha:((56:Int))+((l8 k:Nat):Int)=((56+l8 k:Nat):Int):=om;refine gS1 (aI c0 (aI c1 (aI c2 (aI @QR (aI ZV (aI @yR (aI AG0 (aI @sh8 (aI Al5 (aI @Dm (aI hu (aI ht (aI @Jr (aI @HU (aI hb (aI ha (a3N @D9 @F4 @Tryz.results216))))))))))))))))) ?_;exact⟨56+l8 k,rfl,HT Gu 56 om om (by rw[show(2:Int) ^ 56=72057594037927936 by decide];exact Ay7) (fun _=>om)⟩
def vM (hx:U64 x):Ev (gO 220 [.int .u64 x] Z) (fun r=>∃ n:Nat,r=⟨false,.int .i64 (64-(n:Nat)),Z⟩/\AQ8 n x) ⟨⟩:=by
 refine C9 Tryz.func220 rfl rfl ?_;refine gS ?_;refine(rL hx).mono ?_;rintro r ⟨n,rfl,hn⟩;have:=hn.1.2;refine gS1 @Tryz.results220 ?_;exact⟨n,rfl,hn⟩
end
end Go.Proofs.T
namespace Go.Proofs.T
open Go Go.Ab Go.V6
open Nat (reduceMul reduceEqDiff reduceAdd)
theorem XU {Z:St}{n:Int}:Hp Tryz.prog Z 3 182 (.int .i64 n)=some ⟨.int .u64 (IntKind.u64.wrap n),Z,.none⟩:=by kernel_rfl
theorem Af6 {P:Program}{t:TypeId}{x y:Operand}{m:Int}{s:Nat}(h:s<=64):Ay P .shl t x y (.int .u64 m) (.int .u64 (s:Int))=some (.int .u64 (m*2 ^ s % 18446744073709551616)):=by
 rw[AJ6 om,Int.toNat_natCast,show min s IntKind.u64.bits=s from Nat.min_eq_left h];rfl
theorem AD2 {P:Program}{t:TypeId}{x y:Operand}{m:Int}{s:Nat}(h:s<=64) (hm:0<=m):Ay P .shr t x y (.int .u64 m) (.int .u64 (s:Int))=some (.int .u64 (m / 2 ^ s)):=IL h hm
theorem AJ7 {a b:Int}{s:Nat}(hs:s<=64) (h1:0<=a) (h2:a*2 ^ s<18446744073709551616) (h3:0<=b) (h4:b<2 ^ s) (h5:b<18446744073709551616):AJ8 (a*2 ^ s) b=a*2 ^ s+b:=by
 obtain⟨A,rfl⟩:=Int.eq_ofNat_of_zero_le h1;obtain⟨B,rfl⟩:=Int.eq_ofNat_of_zero_le h3;have hp:((2:Int) ^ s)=((2 ^ s:Nat):Int):=by rw[Int.natCast_pow];rfl
 rw[hp]at h2 h4 ⊢;have e0:((A:Int)*((2 ^ s:Nat):Int))=((A*2 ^ s:Nat):Int):=(Int.natCast_mul _ _).symm;rw[e0]at h2 ⊢;have hB:B<2 ^ s:=om;unfold AJ8;rw[BitVec.toNat_or,toNat_ofInt ⟨om,om⟩,toNat_ofInt ⟨om,om⟩,Int.toNat_natCast,Int.toNat_natCast];rw[<- Nat.shiftLeft_eq,<- Nat.shiftLeft_add_eq_or_of_lt hB,Nat.shiftLeft_eq];omega
theorem nD {Z:St}{hi lo y:Int}(hh:0<=hi) (hlt:hi<y) (hl:U64 lo) (hy:y<18446744073709551616) :
  Ev (go Tryz.prog HS (.fn 192) [.int .u64 hi,.int .u64 lo,.int .u64 y] Z) (fun r=>r=⟨false,.tuple ⟨[.int .u64 ((hi*18446744073709551616+lo) / y),.int .u64 ((hi*18446744073709551616+lo) % y)]⟩,Z⟩) ⟨⟩:=by
 obtain⟨l0,l1⟩:=hl;have y0:decide (y=0)=false:=decide_eq_false om;have y1:decide (hi<y)=true:=decide_eq_true om;refine C9 Tryz.func192 rfl rfl ?_;cases z0:decide (hi=0)with
 | true=>
   have z:=of_decide_eq_true z0;have t1:M6 .u64 (Int.tdiv lo y)=(hi*18446744073709551616+lo) / y:=by
    rw[z,Int.zero_mul,Int.zero_add,Int.tdiv_eq_ediv_of_nonneg l0];have a1:0<=lo / y:=Int.ediv_nonneg l0 om;have a2:lo / y<=lo:=Int.ediv_le_self _ l0;exact Af a1 om
   have t1':IntKind.u64.wrap (Int.tdiv lo y)=(hi*18446744073709551616+lo) / y:=by rw[<- Ac];exact t1
   have t2:Int.tmod lo y=(hi*18446744073709551616+lo) % y:=by
    rw[z,Int.zero_mul,Int.zero_add,Int.tmod_eq_emod_of_nonneg l0]
   refine gS1 (a7N @y0 @y1 @z0 @t1 @t1' @t2 @Tryz.results192) ?_
   try refine Ca.intro (by(repeat first|simp(disch:=omega) only[M9,G3,G8]|rw[V8 (by kernel_rfl)]);first|done|rfl) ?_
   try exact⟨⟩
   try(refine gS1 (a7N @y0 @y1 @z0 @t1 @t1' @t2 @Tryz.results192) ?_;try exact⟨⟩)
 |false=>
 refine gS1 (a3N @y0 @y1 @z0) ?_;refine(vM ⟨om,hy⟩).mono ?_;rintro r ⟨n,rfl,⟨b1,b64⟩,b2⟩;have b2:=b2 om;obtain⟨s,hs⟩:∃ s:Nat,n+s=64:=⟨64-n,om⟩
 have s0:(64:Int)-(n:Int)=(s:Int):=om;have s1:IntKind.u64.wrap ((s:Nat):Int)=(s:Nat):=FO om om;have s2:M6 .u64 (64-((s:Nat):Int))=(n:Nat):=by rw[show(64:Int)-(s:Nat)=(n:Nat) by omega];exact Af om om
 have s64:s<=64:=om;obtain⟨⟨T1,T2⟩,⟨T3,T4⟩,⟨T5,T6,T7⟩,T8,T9⟩:=jM hh hlt ⟨l0,l1⟩ hy hs b1 b2;have hp:(0:Int)<2 ^ s:=Int.pow_pos om;obtain⟨Y,hY⟩:∃ v,y*2 ^ s=v:=⟨_,rfl⟩
 have hYm:Y % 18446744073709551616=Y:=Int.emod_eq_of_lt om om;have hor:=AJ7 (a:=hi) s64 hh T4 T5 T6 T7;have hhm:hi*2 ^ s % 18446744073709551616=hi*2 ^ s:=Int.emod_eq_of_lt T3 T4;obtain⟨u,hu⟩:∃ v,hi*2 ^ s+lo / 2 ^ n=v:=⟨_,rfl⟩
 obtain⟨v,hv⟩:∃ v,lo*2 ^ s % 18446744073709551616=v:=⟨_,rfl⟩
 have v0:0<=v/\v<18446744073709551616:=by rw[<- hv];exact⟨Int.emod_nonneg _ om,Int.emod_lt_of_pos _ om⟩
 have u0:0<=u:=om;rw[hY]at T1 T2 T8;rw[hu]at hor T8 T9;rw[hv]at T9;have uY:u<Y:=T8;have aY:=Gj (m:=Y) ⟨om,T2⟩;have av:=Gj (m:=v) v0;obtain⟨p1,hp1⟩:∃ w,Y / 4294967296=w:=⟨_,rfl⟩
 obtain⟨p0,hp0⟩:∃ w,Y % 4294967296=w:=⟨_,rfl⟩
 obtain⟨a,ha⟩:∃ w,v / 4294967296=w:=⟨_,rfl⟩
 obtain⟨b,hb⟩:∃ w,v % 4294967296=w:=⟨_,rfl⟩
 rw[hp0]at aY;rw[hb]at av;have B1:2147483648<=p1/\p1<4294967296:=om;have B0:0<=p0/\p0<4294967296:=om;have BA:0<=a/\a<4294967296:=om;have BB:0<=b/\b<4294967296:=om;have eY:p1*4294967296+p0=Y:=om;have ev:a*4294967296+b=v:=om;simp(maxSteps:=8000000) (disch:=first|exact dS|fail) only[↓bD,bW,reduceMul,reduceEqDiff,reduceAdd,Nat.reduceBEq,reduceIte,Option.isNone_none,s0,s1,s2,XU,Af6 s64,hY,hYm,QR (show 0<=Y by omega),XV,vN,aY,hp1,AD2 b64 l0,hhm,hor,hu,hv,QR v0.1,ha,av];have AJ9:JU u a p1 p0 (u / p1) (u-u / p1*p1):=OS B1 B0 ⟨u0,by rw[eY];exact uY⟩ BA;have nE:0<=u / p1:=Int.ediv_nonneg u0 om;have Af7:0<=u-u / p1*p1/\u-u / p1*p1<p1:=by
  have e:=Int.mul_ediv_add_emod u p1;have e1:=Int.emod_nonneg u (show p1≠0 by omega);have e2:=Int.emod_lt_of_pos u (show 0<p1 by omega);rw[Int.mul_comm]at e;omega
 have Af8:=AJ9.y8;have tq1:IntKind.u64.wrap (Int.tdiv u p1)=u / p1:=by rw[Int.tdiv_eq_ediv_of_nonneg u0];exact FO om om
 obtain⟨qq1,Au5⟩:∃ zz,u / p1=zz:=⟨_,rfl⟩
 rw[Au5]at AJ9 nE Af7 Af8 tq1;have tp1:M6 .u64 (Int.tdiv u p1)=qq1:=by rw[Ac];exact tq1
 have ym1:0<=qq1*p1:=Int.mul_nonneg nE om;have tm1:M6 .u64 (qq1*p1)=qq1*p1:=Af ym1 om;have ts1:M6 .u64 (u-qq1*p1)=u-qq1*p1:=Af om om;refine gS1 (a4N @tq1 @tp1 @tm1 @ts1) ?_
 refine CD (fun m fr τ=>τ=Z/\fr.get 2=some (.int .u64 Y)/\fr.get 8=some (.int .u64 ((s:Nat):Int))/\fr.get 9=some (.int .u64 p1)/\fr.get 10=some (.int .u64 p0)/\fr.get 11=some (.int .u64 u)/\fr.get 13=some (.int .u64 a)/\fr.get 14=some (.int .u64 b)/\∃ q r,fr.get 15=some (.int .u64 q)/\fr.get 16=some (.int .u64 r)/\m=q.toNat/\JU u a p1 p0 q r/\0<=q/\0<=r/\r<4294967296)
  (fun r=>∃ fr,r=⟨.exit 0,fr,Z⟩/\fr.get 2=some (.int .u64 Y)/\fr.get 8=some (.int .u64 ((s:Nat):Int))/\fr.get 9=some (.int .u64 p1)/\fr.get 10=some (.int .u64 p0)/\fr.get 11=some (.int .u64 u)/\fr.get 13=some (.int .u64 a)/\fr.get 14=some (.int .u64 b)/\fr.get 15=some (.int .u64 ((u*4294967296+a) / (p1*4294967296+p0)))) qq1.toNat ?_ ?_ ?_
 ·exact⟨rfl,fR,fR,fR,fR,fR,fR,fR,qq1,_,fR,fR,rfl,AJ9,nE,om,om⟩
 ·rintro m fr τ ⟨rfl,g2,g8,g9,g10,g11,g13,g14,q,r,gq,gr,rfl,hd,q0,r0,r1⟩;have hmo:=hd.y8;have wr:M6 .u64 (4294967296*r)=4294967296*r:=Af om om;have wr2:M6 .u64 (4294967296*r+a)=4294967296*r+a:=Af om om;have wq:1<=q->M6 .u64 (q-1)=q-1:=fun h=>Af om om;have wp:M6 .u64 (r+p1)=r+p1:=Af om om;have down:(4294967296<=q\/4294967296*r+a<q*p0)->1<=q:=fun h=>by
   rcases h with h|h
   ·omega
   ·refine Int.not_lt.1 fun hc=>?_;have:q=0:=om;rw[this,Int.zero_mul]at h;omega
  have step:(4294967296<=q\/4294967296*r+a<q*p0)->JU u a p1 p0 (q-1) (r+p1):=fun h=>QT hd B1 B0 ⟨u0,by rw[eY];exact uY⟩ BA h;cases cq:decide (q<4294967296)with
  | false=>
    have hc:4294967296<=q:=by have:=of_decide_eq_false cq;omega
    have wq:=wq om;have st:=step (.inl hc);cases cr:decide (r+p1<4294967296)with
    | false=>
      have:=of_decide_eq_false cr;simp(maxSteps:=8000000) (disch:=first|exact dS|fail) only[↓bD,bW,reduceMul,reduceEqDiff,reduceAdd,Nat.reduceBEq,reduceIte,Option.isNone_none,gq,gr,g2,g8,g9,g10,g11,g13,g14,cq,wq,wp,cr,D9,F4,Bj];exact⟨_,rfl,fR1 g2,fR1 g8,fR1 g9,fR1 g10,fR1 g11,fR1 g13,fR1 g14,by rw[<- IM st B1 B0 BA om om];exact(fR)⟩
    | true=>
      have:=of_decide_eq_true cr;simp(maxSteps:=8000000) (disch:=first|exact dS|fail) only[↓bD,bW,reduceMul,reduceEqDiff,reduceAdd,Nat.reduceBEq,reduceIte,Option.isNone_none,gq,gr,g2,g8,g9,g10,g11,g13,g14,cq,wq,wp,cr,D9,F4,j7];exact⟨(q-1).toNat,om,trivial,fR1 g2,fR1 g8,fR1 g9,fR1 g10,fR1 g11,fR1 g13,fR1 g14,q-1,r+p1,fR,fR,rfl,st,om,om,om⟩
  | true=>
    have hq:=of_decide_eq_true cq;have y1:0<=q*p0:=Int.mul_nonneg q0 B0.1;have y2:q*p0<=4294967295*4294967295:=Int.mul_le_mul om om B0.1 om;have wm:M6 .u64 (q*p0)=q*p0:=Af y1 om;cases cg:decide (4294967296*r+a<q*p0)with
    | false=>
      have hg:=of_decide_eq_false cg;simp(maxSteps:=8000000) (disch:=first|exact dS|fail) only[↓bD,bW,reduceMul,reduceEqDiff,reduceAdd,Nat.reduceBEq,reduceIte,Option.isNone_none,gq,gr,g2,g8,g9,g10,g11,g13,g14,cq,wm,wr,wr2,cg,D9,F4,Bj];exact⟨_,rfl,fR1 g2,fR1 g8,fR1 g9,fR1 g10,fR1 g11,fR1 g13,fR1 g14,by rw[<- NZ hd B1 B0 om];exact(fR1 gq)⟩
    | true=>
      have hg:=of_decide_eq_true cg;have q1':=down (.inr hg);have wq:=wq q1';have st:=step (.inr hg);cases cr:decide (r+p1<4294967296)with
      | false=>
        have:=of_decide_eq_false cr;simp(maxSteps:=8000000) (disch:=first|exact dS|fail) only[↓bD,bW,reduceMul,reduceEqDiff,reduceAdd,Nat.reduceBEq,reduceIte,Option.isNone_none,gq,gr,g2,g8,g9,g10,g11,g13,g14,cq,wm,wr,wr2,cg,wq,wp,cr,D9,F4,Bj];exact⟨_,rfl,fR1 g2,fR1 g8,fR1 g9,fR1 g10,fR1 g11,fR1 g13,fR1 g14,by rw[<- IM st B1 B0 BA om om];exact(fR)⟩
      | true=>
        have:=of_decide_eq_true cr;simp(maxSteps:=8000000) (disch:=first|exact dS|fail) only[↓bD,bW,reduceMul,reduceEqDiff,reduceAdd,Nat.reduceBEq,reduceIte,Option.isNone_none,gq,gr,g2,g8,g9,g10,g11,g13,g14,cq,wm,wr,wr2,cg,wq,wp,cr,D9,F4,j7];exact⟨(q-1).toNat,om,trivial,fR1 g2,fR1 g8,fR1 g9,fR1 g10,fR1 g11,fR1 g13,fR1 g14,q-1,r+p1,fR,fR,rfl,st,om,om,om⟩
 rintro r ⟨fr,rfl,g2,g8,g9,g10,g11,g13,g14,g15⟩;rw[eY]at g15;have rm1:=Int.mul_ediv_add_emod (u*4294967296+a) Y;have rn1:=Int.emod_nonneg (u*4294967296+a) (show Y≠0 by omega);have rl1:=Int.emod_lt_of_pos (u*4294967296+a) (show 0<Y by omega);have qn1:0<=(u*4294967296+a) / Y:=Int.ediv_nonneg om om;have qb1:(u*4294967296+a) / Y<4294967296:=Int.ediv_lt_of_lt_mul om om;obtain⟨q1,hq1⟩:∃ w,(u*4294967296+a) / Y=w:=⟨_,rfl⟩
 obtain⟨w,hw⟩:∃ w,(u*4294967296+a) % Y=w:=⟨_,rfl⟩
 rw[hq1]at g15 rm1 qn1 qb1;rw[hw]at rm1 rn1 rl1;rw[Int.mul_comm]at rm1;have w0:0<=w:=rn1;have wY:w<Y:=rl1;have tw:M6 .u64 (M6 .u64 (M6 .u64 (u*4294967296)+a)-M6 .u64 (q1*Y))=w:=by
  simp only[Gk];omega
 have AK0:JU w b p1 p0 (w / p1) (w-w / p1*p1):=OS B1 B0 ⟨w0,by rw[eY];exact wY⟩ BB;have nF:0<=w / p1:=Int.ediv_nonneg w0 om;have Af9:0<=w-w / p1*p1/\w-w / p1*p1<p1:=by
  have e:=Int.mul_ediv_add_emod w p1;have e1:=Int.emod_nonneg w (show p1≠0 by omega);have e2:=Int.emod_lt_of_pos w (show 0<p1 by omega);rw[Int.mul_comm]at e;omega
 have Ag0:=AK0.y8;have tq2:IntKind.u64.wrap (Int.tdiv w p1)=w / p1:=by rw[Int.tdiv_eq_ediv_of_nonneg w0];exact FO om om
 obtain⟨qq2,Au6⟩:∃ zz,w / p1=zz:=⟨_,rfl⟩
 rw[Au6]at AK0 nF Af9 Ag0 tq2;have tp2:M6 .u64 (Int.tdiv w p1)=qq2:=by rw[Ac];exact tq2
 have ym2:0<=qq2*p1:=Int.mul_nonneg nF om;have tm2:M6 .u64 (qq2*p1)=qq2*p1:=Af ym2 om;have ts2:M6 .u64 (w-qq2*p1)=w-qq2*p1:=Af om om;refine gS1 (a13N @g2 @g8 @g9 @g10 @g14 @g11 @g13 @tq2 @tp2 @tm2 @ts2 @g15 @tw) ?_
 refine CD (fun m fr τ=>τ=Z/\fr.get 2=some (.int .u64 Y)/\fr.get 8=some (.int .u64 ((s:Nat):Int))/\fr.get 9=some (.int .u64 p1)/\fr.get 10=some (.int .u64 p0)/\fr.get 14=some (.int .u64 b)/\fr.get 15=some (.int .u64 q1)/\fr.get 17=some (.int .u64 w)/\∃ q r,fr.get 18=some (.int .u64 q)/\fr.get 16=some (.int .u64 r)/\m=q.toNat/\JU w b p1 p0 q r/\0<=q/\0<=r/\r<4294967296)
  (fun r=>∃ fr,r=⟨.exit 2,fr,Z⟩/\fr.get 2=some (.int .u64 Y)/\fr.get 8=some (.int .u64 ((s:Nat):Int))/\fr.get 9=some (.int .u64 p1)/\fr.get 10=some (.int .u64 p0)/\fr.get 14=some (.int .u64 b)/\fr.get 15=some (.int .u64 q1)/\fr.get 17=some (.int .u64 w)/\fr.get 18=some (.int .u64 ((w*4294967296+b) / (p1*4294967296+p0)))) qq2.toNat ?_ ?_ ?_
 ·exact⟨rfl,fR1 g2,fR1 g8,fR1 g9,fR1 g10,fR1 g14,fR1 g15,fR,qq2,_,fR,fR,rfl,AK0,nF,om,om⟩
 ·clear g2 g8 g9 g10 g11 g13 g14 g15 fr;rintro m fr τ ⟨rfl,g2,g8,g9,g10,g14,g15,g17,q,r,gq,gr,rfl,hd,q0,r0,r1⟩;have hmo:=hd.y8;have wr:M6 .u64 (4294967296*r)=4294967296*r:=Af om om;have wr2:M6 .u64 (4294967296*r+b)=4294967296*r+b:=Af om om;have wq:1<=q->M6 .u64 (q-1)=q-1:=fun h=>Af om om;have wp:M6 .u64 (r+p1)=r+p1:=Af om om;have down:(4294967296<=q\/4294967296*r+b<q*p0)->1<=q:=fun h=>by
   rcases h with h|h
   ·omega
   ·refine Int.not_lt.1 fun hc=>?_;have:q=0:=om;rw[this,Int.zero_mul]at h;omega
  have step:(4294967296<=q\/4294967296*r+b<q*p0)->JU w b p1 p0 (q-1) (r+p1):=fun h=>QT hd B1 B0 ⟨w0,by rw[eY];exact wY⟩ BB h;cases cq:decide (q<4294967296)with
  | false=>
    have hc:4294967296<=q:=by have:=of_decide_eq_false cq;omega
    have wq:=wq om;have st:=step (.inl hc);cases cr:decide (r+p1<4294967296)with
    | false=>
      have:=of_decide_eq_false cr;simp(maxSteps:=8000000) (disch:=first|exact dS|fail) only[↓bD,bW,reduceMul,reduceEqDiff,reduceAdd,Nat.reduceBEq,reduceIte,Option.isNone_none,gq,gr,g2,g8,g9,g10,g14,g15,g17,cq,wq,wp,cr,D9,F4,Bj];exact⟨_,rfl,fR1 g2,fR1 g8,fR1 g9,fR1 g10,fR1 g14,fR1 g15,fR1 g17,by rw[<- IM st B1 B0 BB om om];exact(fR)⟩
    | true=>
      have:=of_decide_eq_true cr;simp(maxSteps:=8000000) (disch:=first|exact dS|fail) only[↓bD,bW,reduceMul,reduceEqDiff,reduceAdd,Nat.reduceBEq,reduceIte,Option.isNone_none,gq,gr,g2,g8,g9,g10,g14,g15,g17,cq,wq,wp,cr,D9,F4,j7];exact⟨(q-1).toNat,om,trivial,fR1 g2,fR1 g8,fR1 g9,fR1 g10,fR1 g14,fR1 g15,fR1 g17,q-1,r+p1,fR,fR,rfl,st,om,om,om⟩
  | true=>
    have hq:=of_decide_eq_true cq;have y1:0<=q*p0:=Int.mul_nonneg q0 B0.1;have y2:q*p0<=4294967295*4294967295:=Int.mul_le_mul om om B0.1 om;have wm:M6 .u64 (q*p0)=q*p0:=Af y1 om;cases cg:decide (4294967296*r+b<q*p0)with
    | false=>
      have hg:=of_decide_eq_false cg;simp(maxSteps:=8000000) (disch:=first|exact dS|fail) only[↓bD,bW,reduceMul,reduceEqDiff,reduceAdd,Nat.reduceBEq,reduceIte,Option.isNone_none,gq,gr,g2,g8,g9,g10,g14,g15,g17,cq,wm,wr,wr2,cg,D9,F4,Bj];exact⟨_,rfl,fR1 g2,fR1 g8,fR1 g9,fR1 g10,fR1 g14,fR1 g15,fR1 g17,by rw[<- NZ hd B1 B0 om];exact(fR1 gq)⟩
    | true=>
      have hg:=of_decide_eq_true cg;have q1':=down (.inr hg);have wq:=wq q1';have st:=step (.inr hg);cases cr:decide (r+p1<4294967296)with
      | false=>
        have:=of_decide_eq_false cr;simp(maxSteps:=8000000) (disch:=first|exact dS|fail) only[↓bD,bW,reduceMul,reduceEqDiff,reduceAdd,Nat.reduceBEq,reduceIte,Option.isNone_none,gq,gr,g2,g8,g9,g10,g14,g15,g17,cq,wm,wr,wr2,cg,wq,wp,cr,D9,F4,Bj];exact⟨_,rfl,fR1 g2,fR1 g8,fR1 g9,fR1 g10,fR1 g14,fR1 g15,fR1 g17,by rw[<- IM st B1 B0 BB om om];exact(fR)⟩
      | true=>
        have:=of_decide_eq_true cr;simp(maxSteps:=8000000) (disch:=first|exact dS|fail) only[↓bD,bW,reduceMul,reduceEqDiff,reduceAdd,Nat.reduceBEq,reduceIte,Option.isNone_none,gq,gr,g2,g8,g9,g10,g14,g15,g17,cq,wm,wr,wr2,cg,wq,wp,cr,D9,F4,j7];exact⟨(q-1).toNat,om,trivial,fR1 g2,fR1 g8,fR1 g9,fR1 g10,fR1 g14,fR1 g15,fR1 g17,q-1,r+p1,fR,fR,rfl,st,om,om,om⟩
 clear g2 g8 g9 g10 g11 g13 g14 g15 fr;rintro r ⟨fr,rfl,g2,g8,g9,g10,g14,g15,g17,g18⟩;rw[eY]at g18;have rm2:=Int.mul_ediv_add_emod (w*4294967296+b) Y;have rn2:=Int.emod_nonneg (w*4294967296+b) (show Y≠0 by omega);have rl2:=Int.emod_lt_of_pos (w*4294967296+b) (show 0<Y by omega);have qn2:0<=(w*4294967296+b) / Y:=Int.ediv_nonneg om om;have qb2:(w*4294967296+b) / Y<4294967296:=Int.ediv_lt_of_lt_mul om om;obtain⟨q2,hq2⟩:∃ w',(w*4294967296+b) / Y=w':=⟨_,rfl⟩
 obtain⟨z,hz⟩:∃ w',(w*4294967296+b) % Y=w':=⟨_,rfl⟩
 rw[hq2]at g18 rm2 qn2 qb2;rw[hz]at rm2 rn2 rl2;rw[Int.mul_comm]at rm2;have tz:M6 .u64 (M6 .u64 (M6 .u64 (w*4294967296)+b)-M6 .u64 (q2*Y))=z:=by
  simp only[Gk];omega
 have te:M6 .u64 (M6 .u64 (q1*4294967296)+q2)=q1*4294967296+q2:=by
  simp only[Gk];omega
 obtain⟨D1,D2⟩:=vO (u:=u) (a:=a) (b:=b) (Y:=Y) (q1:=q1) (r1:=w) (q0:=q2) (r0:=z) om om ⟨rn1,rl1⟩ om ⟨rn2,rl2⟩;rw[ev,<- T9,<- hY]at D1 D2;obtain⟨K1,K2⟩:=nG (U:=hi*18446744073709551616+lo) (y:=y) hp om;have f1:M6 .u64 (M6 .u64 (q1*4294967296)+q2)=(hi*18446744073709551616+lo) / y:=by rw[te,<- D1,K1]
 have f2:z / 2 ^ s=(hi*18446744073709551616+lo) % y:=by rw[<- D2,K2]
 simp(maxSteps:=8000000) (disch:=first|exact dS|fail) only[↓bD,bW,reduceMul,reduceEqDiff,reduceAdd,Nat.reduceBEq,reduceIte,Option.isNone_none,g2,g8,g9,g10,g14,g15,g17,g18,tz,f1,AD2 s64 rn2,f2,Tryz.results192]
end Go.Proofs.T
namespace Go.Proofs.T
open Go Go.Ab Go.V6
def AU2 {b:St}:=@asx b b (Ext.refl b)
section
variable {Z:St}{x n y m:Int}
def W2 (n:Int):Prop:=0<=n/\n<340282366920938463463374607431768211456
def Hi (n:Int):List Value:=[.int .u64 (n / 18446744073709551616),.int .u64 (n % 18446744073709551616)]
def wv (n:Int):Value:= .agg ⟨Hi n⟩
def qW:U64 (n % 18446744073709551616):=⟨Int.emod_nonneg _ om,Int.emod_lt_of_pos _ om⟩
def qX (h:W2 n):U64 (n / 18446744073709551616):=by
 obtain⟨h1,h2⟩:=h;exact⟨om,om⟩
def CK {a b:Int}(ha:U64 a) (hb:U64 b):Ev (gO 55 [.int .u64 a,.int .u64 b] Z) (fun r=>∃ Z',r=⟨false,wv (a*b),Z'⟩/\Ext Z Z') ⟨⟩:=by
 refine C9 Tryz.func55 rfl rfl ?_;refine gS ?_;refine(ti ha hb).mono ?_;rintro r rfl;refine gS1 @Tryz.results55 ?_;exact⟨_,rfl,eX⟩
def Fj (x y:Int):Int:=if x<y then -1 else if y<x then 1 else 0
def Sa:Ev (gO 148 [.int .u64 x] Z) (fun r=>r=⟨false,.bool false,Z⟩) ⟨⟩:=by
 have e:decide (x=x)=true:=sI;refine C9 Tryz.func148 rfl rfl ?_;refine gS1 (aI e @Tryz.results148) ?_;try exact⟨⟩
def aS:Ev (gO 105 [.int .i64 x] Z) (fun r=>r=⟨false,.bool false,Z⟩) ⟨⟩:=by
 have e:decide (x=x)=true:=sI;refine C9 Tryz.func105 rfl rfl ?_;refine gS1 (aI e @Tryz.results105) ?_;try exact⟨⟩
def aU:Ev (gO 107 [.int .u64 x,.int .u64 y] Z) (fun r=>r=⟨false,.int .i64 (Fj x y),Z⟩) ⟨⟩:=by
 refine C9 Tryz.func107 rfl rfl ?_;refine gS ?_;refine Sa.mono ?_;rintro r rfl;refine gS ?_;refine Sa.mono ?_;rintro r rfl;unfold Fj;cases c1:decide (x<y)with
 | true=>
   rw[z1z (z6z c1)];refine gS1 (aI c1 @Tryz.results107) ?_;try exact⟨⟩
 | false=>
   rw[z0z (z9z c1)];cases c2:decide (y<x)with
   | true=>
     rw[z1z (z6z c2)];refine gS1 (aI c1 (aI c2 @Tryz.results107)) ?_;try exact⟨⟩
   | false=>
     rw[z0z (z9z c2)];refine gS1 (aI c1 (aI c2 @Tryz.results107)) ?_;try exact⟨⟩
def gx:Ev (gO 53 [.int .i64 x,.int .i64 y] Z) (fun r=>r=⟨false,.int .i64 (Fj x y),Z⟩) ⟨⟩:=by
 refine C9 Tryz.func53 rfl rfl ?_;refine gS ?_;refine aS.mono ?_;rintro r rfl;refine gS ?_;refine aS.mono ?_;rintro r rfl;unfold Fj;cases c1:decide (x<y)with
 | true=>
   rw[z1z (z6z c1)];refine gS1 (aI c1 @Tryz.results53) ?_;try exact⟨⟩
 | false=>
   rw[z0z (z9z c1)];cases c2:decide (y<x)with
   | true=>
     rw[z1z (z6z c2)];refine gS1 (aI c1 (aI c2 @Tryz.results53)) ?_;try exact⟨⟩
   | false=>
     rw[z0z (z9z c2)];refine gS1 (aI c1 (aI c2 @Tryz.results53)) ?_;try exact⟨⟩
def ef (x y:Int):Int:=if x=0 then y else x
def tj {b:Nat}(hr:Z.row b=some [.int .i64 x,.int .i64 y]):Ev (gO 106 [.slice (some ⟨b,0,none⟩) 2 2] Z) (fun r=>r=⟨false,.int .i64 (ef x y),Z⟩) ⟨⟩:=by
 refine C9 Tryz.func106 rfl rfl ?_;refine gS ?_
 refine I4 2 (fun k fr τ=>τ=Z/\fr.get 8=some (.int .i64 k)/\fr.get 7=some (.int .i64 2)/\fr.get 6=some (.slice (some ⟨b,0,none⟩) 2 2)/\fr.get 3=some (.int .i64 0)/\(1<=k->x=0)/\(2<=k->y=0))
  (fun r=>∃ fr,(r=⟨.exit 0,fr,Z⟩/\fr.get 3=some (.int .i64 0)/\x=0/\y=0)\/(r=⟨.ret,fr,Z⟩/\fr.get 2=some (.int .i64 (ef x y)))) ?_ ?_ ?_ ?_
 ·exact⟨rfl,fR,fR,fR,fR,om,om⟩
 ·rintro k fr τ hk ⟨rfl,g8,g7,g6,g3,h1,h2⟩;have hk2:k=0\/k=1:=om;rcases hk2 with rfl|rfl
  ·have c0:decide (((0:Nat):Int)<2)=true:=by decide
   cases cx:decide (x=0)with
   | true=>
     refine gS1 (aI g8 (aI g7 (aI g6 (aI g3 (aI c0 (aI hr cx)))))) ?_;exact⟨by trivial,fR,fR1 g7,fR1 g6,fR1 g3,fun _=>z6z cx,om⟩
   | false=>
     refine gS1 (aI g8 (aI g7 (aI g6 (aI g3 (aI c0 (aI hr cx)))))) ?_;exact⟨_,.inr ⟨rfl,by unfold ef;rw[z0z (z9z cx)];exact(fR)⟩⟩
  ·have c0:decide (((1:Nat):Int)<2)=true:=by decide
   have hx:=h1 om;cases cy:decide (y=0)with
   | true=>
     refine gS1 (aI g8 (aI g7 (aI g6 (aI g3 (aI c0 (aI hr cy)))))) ?_;exact⟨by trivial,fR,fR1 g7,fR1 g6,fR1 g3,fun _=>hx,fun _=>z6z cy⟩
   | false=>
     refine gS1 (aI g8 (aI g7 (aI g6 (aI g3 (aI c0 (aI hr cy)))))) ?_;exact⟨_,.inr ⟨rfl,by unfold ef;rw[z1z hx];exact(fR)⟩⟩
 ·rintro fr τ ⟨rfl,g8,g7,g6,g3,h1,h2⟩;have c0:decide (((2:Nat):Int)<2)=false:=by decide
  refine gS1 (aI g8 (aI g7 c0)) ?_;exact⟨_,.inl ⟨rfl,fR1 g3,h1 om,h2 om⟩⟩
 rintro r ⟨fr,⟨rfl,g3,hx,hy⟩|⟨rfl,g2⟩⟩
 ·refine gS1 (aI g3 @Tryz.results106) ?_;unfold ef;rw[z1z hx,hy]
 ·refine gS1 (aI g2 @Tryz.results106) ?_;try exact⟨⟩
def lZ:ef (Fj (m / 18446744073709551616) (n / 18446744073709551616)) (Fj (m % 18446744073709551616) (n % 18446744073709551616))=Fj m n:=by
 unfold ef Fj
 repeat' split
 all_goals omega
def Jp:Ev (gO 54 [wv m,wv n] Z) (fun r=>∃ Z',r=⟨false,.int .i64 (Fj m n),Z'⟩/\Ext Z Z') ⟨⟩:=by
 have E0:Ext Z ((Z.new (Hi m)).new (Hi n)):=eX;refine C9 Tryz.func54 rfl rfl ?_;unfold wv Hi;refine gS ?_;refine aU.mono ?_;rintro r rfl;refine gS ?_;refine aU.mono ?_;rintro r rfl;refine gS ?_;refine(tj (cL)).mono ?_;rintro r rfl;rw[lZ];refine gS1 (aI @AU2 @Tryz.results54) ?_
 try refine Ca.intro (by(repeat first|simp(disch:=omega) only[M9,G3,G8,asx (Ext.refl _)]|rw[V8 (by kernel_rfl)]);first|done|rfl) ?_
 try(refine gS1 @Tryz.results54 ?_;try exact⟨⟩)
 exact⟨_,rfl,eX⟩
end
section
variable {n m b:Int}{Z:St}
def xw (hm:W2 m) (hn:W2 n) (h:m+n<340282366920938463463374607431768211456):Ev (gO 144 [wv m,wv n] Z) (fun r=>∃ Z',r=⟨false,wv (m+n),Z'⟩/\Ext Z Z') ⟨⟩:=by
 have e1:∀ τ:St,go Tryz.prog HS (.fn 190) [.int .u64 (m % 18446744073709551616),.int .u64 (n % 18446744073709551616),.int .u64 0] τ=_:=fun τ=>ZG qW qW (.inl rfl);obtain⟨c,hc⟩:=nm ((m % 18446744073709551616+n % 18446744073709551616+0) / 18446744073709551616);have c01:c=0\/c=1:=om;rw[hc]at e1;have e2:∀ τ:St,go Tryz.prog HS (.fn 190) [.int .u64 (m / 18446744073709551616),.int .u64 (n / 18446744073709551616),.int .u64 c] τ=_:=fun τ=>ZG (qX hm) (qX hn) c01;have k1:(m % 18446744073709551616+n % 18446744073709551616+0) % 18446744073709551616=(m+n) % 18446744073709551616:=om;have k2:(m / 18446744073709551616+n / 18446744073709551616+c) % 18446744073709551616=(m+n) / 18446744073709551616:=by
  obtain⟨m1,m2⟩:=hm;obtain⟨n1,n2⟩:=hn;omega
 rw[k1]at e1;rw[k2]at e2;refine C9 Tryz.func144 rfl rfl ?_;unfold wv Hi;refine gS1 (aI e1 (aI e2 @Tryz.results144)) ?_;exact⟨_,rfl,eX⟩
def gj (hm:W2 m) (hn:W2 n) (h:n<=m):Ev (gO 145 [wv m,wv n] Z) (fun r=>∃ Z',r=⟨false,wv (m-n),Z'⟩/\Ext Z Z') ⟨⟩:=by
 have e1:∀ τ:St,go Tryz.prog HS (.fn 191) [.int .u64 (m % 18446744073709551616),.int .u64 (n % 18446744073709551616),.int .u64 0] τ=_:=fun τ=>ZH qW qW (.inl rfl);obtain⟨c,hc⟩:=nm ((if m % 18446744073709551616<n % 18446744073709551616+0 then(1:Int)else 0));have c01:(c=0/\n % 18446744073709551616<=m % 18446744073709551616)\/(c=1/\m % 18446744073709551616<n % 18446744073709551616):=by
  split at hc
  ·right;omega
  ·left;omega
 rw[hc]at e1;have e2:∀ τ:St,go Tryz.prog HS (.fn 191) [.int .u64 (m / 18446744073709551616),.int .u64 (n / 18446744073709551616),.int .u64 c] τ=_:=fun τ=>ZH (qX hm) (qX hn) (by rcases c01 with h|h<;>omega);have k1:(m % 18446744073709551616-n % 18446744073709551616-0) % 18446744073709551616=(m-n) % 18446744073709551616:=om;have k2:(m / 18446744073709551616-n / 18446744073709551616-c) % 18446744073709551616=(m-n) / 18446744073709551616:=by
  obtain⟨m1,m2⟩:=hm;obtain⟨n1,n2⟩:=hn;rcases c01 with⟨rfl,h'⟩|⟨rfl,h'⟩<;>omega
 rw[k1]at e1;rw[k2]at e2;refine C9 Tryz.func145 rfl rfl ?_;unfold wv Hi;refine gS1 (aI e1 (aI e2 @Tryz.results145)) ?_;exact⟨_,rfl,eX⟩
def dN (hn:W2 n) (hb:0<b) (hb2:b<18446744073709551616):
  (0<=n / 18446744073709551616 % b/\n / 18446744073709551616 % b<b)/\n / 18446744073709551616 / b=n / b / 18446744073709551616 /\
  (n / 18446744073709551616 % b*18446744073709551616+n % 18446744073709551616) / b=n / b % 18446744073709551616/\(n / 18446744073709551616 % b*18446744073709551616+n % 18446744073709551616) % b=n % b/\U64 (n / 18446744073709551616 / b):=by
 obtain⟨n1,n2⟩:=hn;have b1:=Int.emod_nonneg (n / 18446744073709551616) (show b≠0 by omega);have b2:=Int.emod_lt_of_pos (n / 18446744073709551616) hb;have b3:=Int.mul_ediv_add_emod (n / 18446744073709551616) b;have b4:0<=n / 18446744073709551616 / b:=Int.ediv_nonneg om om;have b5:n / 18446744073709551616 / b<=n / 18446744073709551616:=Int.ediv_le_self _ om;obtain⟨q,hq⟩:=nm (n / 18446744073709551616 / b);obtain⟨r,hr⟩:=nm (n / 18446744073709551616 % b);rw[hq]at b3 b4 b5 ⊢;rw[hr]at b1 b2 b3 ⊢;obtain⟨x,hx⟩:=nm (r*18446744073709551616+n % 18446744073709551616);rw[hx];have hn':n=q*18446744073709551616*b+x:=by
  have:n=n / 18446744073709551616*18446744073709551616+n % 18446744073709551616:=om;rw[this,<- b3,<- hx]
  grind
 have hx0:0<=x:=om;have e1:n / b=q*18446744073709551616+x / b:=by rw[hn',Int.add_comm,Int.add_mul_ediv_right _ _ om,Int.add_comm]
 have e2:n % b=x % b:=by rw[hn',Int.add_comm,Int.add_mul_emod_self_right]
 have hxb:x / b<18446744073709551616:=by
  refine Int.ediv_lt_of_lt_mul hb ?_;have:(r+1)*18446744073709551616<=b*18446744073709551616:=Int.mul_le_mul_of_nonneg_right om om;rw[Int.mul_comm 18446744073709551616];omega
 have hx1:0<=x / b:=Int.ediv_nonneg hx0 om;refine⟨⟨b1,b2⟩,?_,?_,e2.symm,b4,om⟩
 ·rw[e1];omega
 ·rw[e1];omega
def ZI (hn:W2 n) (hb:0<b) (hb2:b<18446744073709551616):Ev (gO 146 [wv n,.int .u64 b] Z) (fun r=>∃ Z',r=⟨false,.tuple ⟨[wv (n / b),.int .u64 (n % b)]⟩,Z'⟩/\Ext Z Z') ⟨⟩:=by
 obtain⟨⟨o1,o2⟩,o3,o4,o5,o6⟩:=dN hn hb hb2;have h1:=qX hn;have t1:IntKind.u64.wrap (Int.tdiv (n / 18446744073709551616) b)=n / b / 18446744073709551616:=by
  rw[Int.tdiv_eq_ediv_of_nonneg h1.1,<- o3];exact FO o6.1 o6.2
 have t2:Int.tmod (n / 18446744073709551616) b=n / 18446744073709551616 % b:=XC h1.1;have t3:decide (b=0)=false:=dF;refine C9 Tryz.func146 rfl rfl ?_;unfold wv Hi;refine gS1 (aI t1 (aI t2 t3)) ?_
 try refine dW ?_
 try(refine gS1 (aI t1 (aI t2 t3)) ?_;try exact⟨⟩)
 refine(nD o1 o2 qW hb2).mono ?_;rintro r rfl;rw[o4,o5];refine gS1 @Tryz.results146 ?_;exact⟨_,rfl,eX⟩
end
def sE {b:St}:=@asx b b (Ext.refl b)
section
variable {Z:St}{n:Int}{p:Int×Nat}
def P7 (q:Q):List Value:=[.int .i64 q.n,.int .i64 q.d]
def qv (q:Q):Value:= .agg ⟨P7 q⟩
def kV (s:Bool) (n d:Int):List Value:=[.bool s,.int .u64 n,.int .u64 d]
def fv (s:Bool) (n d:Int):Value:= .agg ⟨kV s n d⟩
def GH:Q:=⟨0,1⟩
def GC (o:Option Q):Value:= .tuple ⟨[qv (o.getD GH),.bool o.isSome]⟩
def GP:Ev (gO 99 [] Z) (fun r=>∃ Z',r=⟨false,qv GH,Z'⟩/\Ext Z Z') ⟨⟩:=by
 refine C9 Tryz.func99 rfl rfl ?_;refine gS1 @Tryz.results99 ?_;exact⟨_,rfl,eX⟩
def iC:Ev (gO 25 [.int .i64 n] Z) (fun r=>∃ Z',r=⟨false,qv (ofQ n),Z'⟩/\Ext Z Z') ⟨⟩:=by
 refine C9 Tryz.func25 rfl rfl ?_;refine gS1 @Tryz.results25 ?_;exact⟨_,rfl,eX⟩
def Rz (h:Bk n):Ev (gO 104 [.int .i64 n] Z) (fun r=>r=⟨false,.int .u64 (n.natAbs:Int),Z⟩) ⟨⟩:=by
 obtain⟨h1,h2⟩:=h;have wu:∀ m:Int,IntKind.u64.wrap m=m % 18446744073709551616:=fun m=>rfl;refine C9 Tryz.func104 rfl rfl ?_;cases c:decide (n<0)with
 | true=>
   have:=z6z c;have e1:IntKind.u64.wrap (0-IntKind.u64.wrap n)=(n.natAbs:Int):=by rw[wu,wu];omega
   refine gS1 (aI c (aI e1 @Tryz.results104)) ?_;try exact⟨⟩
 | false=>
   have:=z9z c;have e1:IntKind.u64.wrap n=(n.natAbs:Int):=by rw[wu];omega
   refine gS1 (aI c (aI e1 @Tryz.results104)) ?_;try exact⟨⟩
def WT {q:Q}(h1:Bk q.n) (h2:Bk q.d):Ev (gO 52 [qv q] Z) (fun r=>∃ Z',r=⟨false,fv (decide (q.n<0)) (q.n.natAbs:Int) (q.d.natAbs:Int),Z'⟩/\Ext Z Z') ⟨⟩:=by
 refine C9 Tryz.func52 rfl rfl ?_;unfold qv P7;refine gS ?_;refine(Rz h1).mono ?_;rintro r rfl;refine gS ?_;refine(Rz h2).mono ?_;rintro r rfl;refine gS1 (aI @sE @Tryz.results52) ?_
 try refine Ca.intro (by(repeat first|simp(disch:=omega) only[M9,G3,G8,asx (Ext.refl _)]|rw[V8 (by kernel_rfl)]);first|done|rfl) ?_
 try(refine gS1 @Tryz.results52 ?_;try exact⟨⟩)
 exact⟨_,rfl,eX⟩
def SA {q:Q}(h:q.Ok):Ev (gO 103 [qv q] Z) (fun r=>∃ Z',r=⟨false,.bool true,Z'⟩/\Ext Z Z') ⟨⟩:=by
 obtain⟨n,d⟩:=q;obtain⟨h1,h2,h3,h4,h5⟩:=h;dsimp only at h1 h2 h3 h4 h5;obtain⟨D,rfl⟩:=Fo (show 0<=d by omega);have c1:decide ((0:Int)<(D:Int))=true:=dT;have e5:IntKind.u64.wrap (D:Int)=(D:Nat):=FO om om;refine C9 Tryz.func103 rfl rfl ?_;unfold qv P7;refine gS1 c1 ?_;refine(Rz ⟨h1,h2⟩).mono ?_;rintro r rfl;have q0:(Z.new [.int .i64 n,.int .i64 (D:Nat)]).row Z.n=some [.int .i64 n,.int .i64 (D:Nat)]:=cL;refine gS1 (aI q0 e5) ?_;refine KC.mono ?_;rintro r rfl;rw[Int.natAbs_natCast]at h5;rw[h5];have z1:decide (((1:Nat):Int)=1)=true:=rfl;refine gS1 (aI z1 @sE) ?_
 try refine Ca.intro (by(repeat first|simp(disch:=omega) only[M9,G3,G8,asx (Ext.refl _),z1,e5]|rw[V8 (by kernel_rfl)]);first|done|rfl) ?_
 try(refine gS1 (aI z1 @Tryz.results103) ?_;try exact⟨⟩)
 exact⟨_,rfl,eX⟩
def ZQ {a b:Q}(ha:a.Ok) (hb:b.Ok):Ev (gO 51 [qv a,qv b] Z) (fun r=>∃ Z',r=⟨false,.bool true,Z'⟩/\Ext Z Z') ⟨⟩:=by
 refine C9 Tryz.func51 rfl rfl ?_;unfold qv P7;refine gS ?_;refine(SA ha).mono ?_;rintro r ⟨Z2,rfl,hE2⟩;have n2:=hE2.n;simp only[F6]at n2;have q2:Z2.row (Z.n+1)=some [.int .i64 b.n,.int .i64 b.d]:=eT (hE2.row (cL)) cL;refine gS1 q2 ?_;refine(SA hb).mono ?_;rintro r ⟨Z3,rfl,hE3⟩;have hE:Ext Z Z3:=Ext.trans (eX) (hE2.trans hE3);refine gS1 (a3N @D9 @F4 @Tryz.results51) ?_;exact⟨_,rfl,hE⟩
def Zh (h1: -9223372036854775808<=p.1) (h2:p.1<=9223372036854775807) (h3:p.2<=9223372036854775807):fit p=some ⟨p.1,p.2⟩:=by unfold fit;rw[z1z ⟨h1,h2,h3⟩]
def Jt (h:¬ (-9223372036854775808<=p.1/\p.1<=9223372036854775807/\p.2<=9223372036854775807)):fit p=none:=by unfold fit;rw[z0z h]
def iD {s:Bool}{d:Int}(hn:W2 n) (hd:W2 d):Ev (gO 147 [.bool s,wv n,wv d] Z) (fun r=>∃ Z',r=⟨false,GC (fit (sg s n,d.toNat)),Z'⟩/\Ext Z Z') ⟨⟩:=by
 obtain⟨n1,n2⟩:=hn;obtain⟨d1,d2⟩:=hd;have bad:∀ {fr:Fr},True:=fun{fr}=>trivial;refine C9 Tryz.func147 rfl rfl ?_;unfold wv Hi;have hz:∀ τ:St,Ext Z τ->fit (sg s n,d.toNat)=none->True:=fun _ _ _=>trivial;have wn:¬ (-9223372036854775808<=sg s n/\sg s n<=9223372036854775807/\d.toNat<=9223372036854775807)↔(0<n / 18446744073709551616\/0<d / 18446744073709551616\/9223372036854775807<d % 18446744073709551616\/9223372036854775808<n % 18446744073709551616\/(n % 18446744073709551616=9223372036854775808/\s=false)):=by
  unfold sg;cases s
  ·rw[z0z (by simp)];simp only[and_true];omega
  ·rw[z1z rfl];simp only[Bool.true_eq_false,and_false,Em];omega
 cases c1:decide (0<n / 18446744073709551616)with
 | true=>
   have f0:fit (sg s n,d.toNat)=none:=Jt (wn.2 (.inl (z6z c1)));refine gS1 c1 ?_;refine GP.mono ?_;rintro r ⟨Z2,rfl,hE2⟩;have k2:=hE2.n;simp only[F6]at k2;have o2:Z2.A7 (Z.n+1+1)=some [.int .i64 0,.int .i64 0]:=eT (hE2.A7 (cL)) cL;unfold qv P7 GH;refine gS1 (aI o2 @Tryz.results147) ?_;rw[f0];exact⟨_,rfl,(Ext.trans (eX) hE2).upd om _⟩
 |false=>
 cases c2:decide (0<d / 18446744073709551616)with
 | true=>
   have f0:fit (sg s n,d.toNat)=none:=Jt (wn.2 (.inr (.inl (z6z c2))));refine gS1 (aI c1 c2) ?_;refine GP.mono ?_;rintro r ⟨Z2,rfl,hE2⟩;have k2:=hE2.n;simp only[F6]at k2;have o2:Z2.A7 (Z.n+1+1)=some [.int .i64 0,.int .i64 0]:=eT (hE2.A7 (cL)) cL;unfold qv P7 GH;refine gS1 (aI o2 @Tryz.results147) ?_;rw[f0];exact⟨_,rfl,(Ext.trans (eX) hE2).upd om _⟩
 |false=>
 cases c3:decide ((9223372036854775807:Int)<d % 18446744073709551616)with
 | true=>
   have f0:fit (sg s n,d.toNat)=none:=Jt (wn.2 (.inr (.inr (.inl (z6z c3)))));refine gS1 (aI c1 (aI c2 c3)) ?_;refine GP.mono ?_;rintro r ⟨Z2,rfl,hE2⟩;have k2:=hE2.n;simp only[F6]at k2;have o2:Z2.A7 (Z.n+1+1)=some [.int .i64 0,.int .i64 0]:=eT (hE2.A7 (cL)) cL;unfold qv P7 GH;refine gS1 (aI o2 @Tryz.results147) ?_;rw[f0];exact⟨_,rfl,(Ext.trans (eX) hE2).upd om _⟩
 |false=>
 cases c4:decide ((9223372036854775808:Int)<n % 18446744073709551616)with
 | true=>
   have f0:fit (sg s n,d.toNat)=none:=Jt (wn.2 (.inr (.inr (.inr (.inl (z6z c4))))));refine gS1 (aI c1 (aI c2 (aI c3 c4))) ?_;refine GP.mono ?_;rintro r ⟨Z2,rfl,hE2⟩;have k2:=hE2.n;simp only[F6]at k2;have o2:Z2.A7 (Z.n+1+1)=some [.int .i64 0,.int .i64 0]:=eT (hE2.A7 (cL)) cL;unfold qv P7 GH;refine gS1 (aI o2 @Tryz.results147) ?_;rw[f0];exact⟨_,rfl,(Ext.trans (eX) hE2).upd om _⟩
 |false=>
 have g1:=z9z c1;have g2:=z9z c2;have g3:=z9z c3;have g4:=z9z c4;have en:n % 18446744073709551616=n:=om;have ed:d % 18446744073709551616=d:=om;have en0:n / 18446744073709551616=0:=om;have ed0:d / 18446744073709551616=0:=om;rw[en]at c4 wn;rw[ed]at c3 wn;rw[en0]at c1;rw[ed0]at c2;rw[en,ed,en0,ed0];have wd:IntKind.i64.wrap d=d:=wrap64_in om om;have dt:(d.toNat:Int)=d:=om;cases c5:decide (n=9223372036854775808)with
 | true=>
   have e5:=z6z c5;subst e5;cases s with
   | false=>
     have f0:fit (sg false 9223372036854775808,d.toNat)=none:=Jt (wn.2 (.inr (.inr (.inr (.inr ⟨rfl,rfl⟩)))));refine gS1 (aI c1 (aI c2 (aI c3 (aI c4 c5)))) ?_;refine GP.mono ?_;rintro r ⟨Z2,rfl,hE2⟩;have k2:=hE2.n;simp only[F6]at k2;have o2:Z2.A7 (Z.n+1+1)=some [.int .i64 0,.int .i64 0]:=eT (hE2.A7 (cL)) cL;unfold qv P7 GH;refine gS1 (aI o2 @Tryz.results147) ?_;rw[f0];exact⟨_,rfl,(Ext.trans (eX) hE2).upd om _⟩
   | true=>
     have f1:fit (sg true 9223372036854775808,d.toNat)=some ⟨-9223372036854775808,d⟩:=by
      rw[Zh (by show -9223372036854775808<=(-9223372036854775808:Int);omega) (by show(-9223372036854775808:Int)<=_;omega) (by show d.toNat<=_;omega)];show some (⟨-9223372036854775808,(d.toNat:Int)⟩:Q)=_;rw[dt]
     have w1:IntKind.i64.wrap 9223372036854775808= -9223372036854775808:=by decide
     have w2:IntKind.i64.wrap (0- -9223372036854775808)= -9223372036854775808:=by decide
     have w3:IntKind.i64.wrap (-(-9223372036854775808))= -9223372036854775808:=by decide
     rw[f1];refine gS1 (aI c1 (aI c2 (aI c3 (aI c4 (aI c5 (aI w1 (aI w2 (aI w3 (aI wd (a3N @D9 @F4 @Tryz.results147)))))))))) ?_;exact⟨_,rfl,eX⟩
 | false=>
   have e5:=z9z c5;have w1:IntKind.i64.wrap n=n:=wrap64_in om om;have f1:fit (sg s n,d.toNat)=some ⟨sg s n,d⟩:=by
    have: -9223372036854775808<=sg s n/\sg s n<=9223372036854775807/\d.toNat<=9223372036854775807:=by
     refine SB fun h=>?_;have:=wn.1 h;omega
    rw[Zh this.1 this.2.1 this.2.2];show some (⟨sg s n,(d.toNat:Int)⟩:Q)=_;rw[dt]
   rw[f1];cases s with
   | false=>
     refine gS1 (aI c1 (aI c2 (aI c3 (aI c4 (aI c5 (aI w1 (aI wd (a3N @D9 @F4 @Tryz.results147)))))))) ?_;exact⟨_,rfl,eX⟩
   | true=>
     have w2:IntKind.i64.wrap (0-n)= -n:=by rw[Int.zero_sub];exact wrap64_in om om
     refine gS1 (aI c1 (aI c2 (aI c3 (aI c4 (aI c5 (aI w1 (aI w2 (aI wd (a3N @D9 @F4 @Tryz.results147))))))))) ?_;exact⟨_,rfl,eX⟩
end
end Go.Proofs.T
namespace Go.Proofs.T
open Go Go.Ab Go.V6
open Nat (reduceMul reduceEqDiff reduceAdd)
def uk {b:St}:=@asx b b (Ext.refl b)
def ZR {x y:Operand}{a b:Bool}:Ay Tryz.prog .neq 4 x y (.bool a) (.bool b)=some (.bool (a != b)):=by cases a<;>cases b<;>kernel_rfl
def US {Z:St}{s1 s2:Bool}{N1 N2 D1 D2:Nat}(h1:Hq (sg s1 N1) D1) (h2:Hq (sg s2 N2) D2) (b1:N1<=9223372036854775808) (b2:N2<=9223372036854775808) (b3:D1<=9223372036854775808) (b4:D2<=9223372036854775808) :
  Ev (gO 97 [fv s1 (N1:Nat) (D1:Nat),fv s2 (N2:Nat) (D2:Nat)] Z) (fun r=>∃ Z',r=⟨false,GC (fit (low (sg s1 N1*sg s2 N2) (D1*D2))),Z'⟩/\Ext Z Z') ⟨⟩:=by
 have p1:=h1.1;have p2:=h2.1;refine C9 Tryz.func97 rfl rfl ?_;unfold fv kV;have hz:N1=0\/N2=0->fit (low (sg s1 N1*sg s2 N2) (D1*D2))=some GH:=fun h=>by
  have e:sg s1 N1*sg s2 N2=0:=by
   rcases h with rfl|rfl
   ·rw[show sg s1 ((0:Nat):Int)=0 by cases s1<;>rfl,Int.zero_mul]
   ·rw[show sg s2 ((0:Nat):Int)=0 by cases s2<;>rfl,Int.mul_zero]
  rw[e,ag (Nat.mul_pos p1 p2)];rfl
 cases c1:decide ((N1:Int)=0)with
 | true=>
   have f0:=hz (.inl (by have:=z6z c1;omega));refine gS1 c1 ?_;refine GP.mono ?_;rintro r ⟨Z2,rfl,hE2⟩;have k2:=hE2.n;simp only[F6]at k2;have o2:Z2.A7 (Z.n+1+1)=some [.int .i64 0,.int .i64 0]:=eT (hE2.A7 (cL)) cL;unfold qv P7 GH;refine gS1 (aI o2 @Tryz.results97) ?_;rw[f0];exact⟨_,rfl,(Ext.trans (eX) hE2).upd om _⟩
 |false=>
 cases c2:decide ((N2:Int)=0)with
 | true=>
   have f0:=hz (.inr (by have:=z6z c2;omega));refine gS1 (aI c1 c2) ?_;refine GP.mono ?_;rintro r ⟨Z2,rfl,hE2⟩;have k2:=hE2.n;simp only[F6]at k2;have o2:Z2.A7 (Z.n+1+1)=some [.int .i64 0,.int .i64 0]:=eT (hE2.A7 (cL)) cL;unfold qv P7 GH;refine gS1 (aI o2 @Tryz.results97) ?_;rw[f0];exact⟨_,rfl,(Ext.trans (eX) hE2).upd om _⟩
 |false=>
 have n1:0<N1:=by have:=z9z c1;omega
 have n2:0<N2:=by have:=z9z c2;omega
 rw[ae h1 h2];refine gS1 (aI c1 c2) ?_;refine KC.mono ?_;rintro r rfl;refine gS ?_;refine KC.mono ?_;rintro r rfl;obtain⟨g,hg⟩:=nm (Nat.gcd N1 D2);obtain⟨h,hh⟩:=nm (Nat.gcd N2 D1);have g0:0<g:=by rw[<- hg];exact Nat.gcd_pos_of_pos_left _ n1
 have h0:0<h:=by rw[<- hh];exact Nat.gcd_pos_of_pos_left _ n2
 rw[hg,hh];have tq:∀ (a b:Nat),a<=9223372036854775808->IntKind.u64.wrap (Int.tdiv (a:Int) (b:Int))=((a / b:Nat):Int):=fun a b ha=>by
  have:a / b<=a:=OX _ _;rw[<- Int.ofNat_tdiv];generalize a / b=c at *;exact FO om om
 have uq:∀ (a b:Nat),a<=9223372036854775808->U64 ((a / b:Nat):Int):=fun a b ha=>by
  have:a / b<=a:=OX _ _;generalize a / b=c at *;exact⟨om,om⟩
 have zg:decide ((g:Int)=0)=false:=dF;have zh:decide ((h:Int)=0)=false:=dF;simp(maxSteps:=8000000) (disch:=first|exact dS|fail) only[↓bD,bW,reduceMul,reduceEqDiff,reduceAdd,Nat.reduceBEq,reduceIte,Option.isNone_none,asx (Ext.refl _),G8,G3,ZR,tq N1 g b1,tq N2 h b2,zg,zh];refine(CK (uq N1 g b1) (uq N2 h b2)).mono ?_;rintro r ⟨Z2,rfl,hE2⟩;have k2:=hE2.n;simp only[F6]at k2;have r0:Z2.row Z.n=some [.bool s1,.int .u64 (N1:Nat),.int .u64 (D1:Nat)]:=eT (hE2.row (cL)) cL;have r1:Z2.row (Z.n+1)=some [.bool s2,.int .u64 (N2:Nat),.int .u64 (D2:Nat)]:=eT (hE2.row (cL)) cL;have o2:Z2.A7 (Z.n+1+1)=some [.int .i64 0,.int .i64 0]:=eT (hE2.A7 (cL)) cL;have E2:Ext Z Z2:=Ext.trans (eX) hE2;simp(maxSteps:=8000000) (disch:=first|exact dS|fail) only[↓bD,bW,reduceMul,reduceEqDiff,reduceAdd,Nat.reduceBEq,reduceIte,Option.isNone_none,asx (Ext.refl _),asx hE2,G8,G3,r0,r1,tq D1 h b3,tq D2 g b4,zg,zh];refine(CK (uq D1 h b3) (uq D2 g b4)).mono ?_;rintro r ⟨Z3,rfl,hE3⟩;have k3:=hE3.n;have o3:=eT (hE3.A7 om) o2;have u1:=uq N1 g b1;have u2:=uq N2 h b2;have u3:=uq D1 h b3;have u4:=uq D2 g b4;have le:∀ {a b:Int},0<=a->a<=9223372036854775808->0<=b->b<=9223372036854775808->W2 (a*b):=fun ha ha' hb hb'=>by
  refine⟨Int.mul_nonneg ha hb,?_⟩;have:=Int.mul_le_mul ha' hb' hb om;omega
 have dl:∀ (a b:Nat),a<=9223372036854775808->0<=((a / b:Nat):Int)/\((a / b:Nat):Int)<=9223372036854775808:=fun a b ha=>by
  have:a / b<=a:=OX _ _;generalize a / b=c at *;exact⟨om,om⟩
 refine gS1 (aI @uk (aI (asx hE2) (aI (asx hE3) (aI @G8 @G3)))) ?_;refine(iD (le (dl N1 g b1).1 (dl N1 g b1).2 (dl N2 h b2).1 (dl N2 h b2).2) (le (dl D1 h b3).1 (dl D1 h b3).2 (dl D2 g b4).1 (dl D2 g b4).2)).mono ?_;rintro r ⟨Z4,rfl,hE4⟩;have k4:=hE4.n;have o4:=eT (hE4.A7 om) o3;have ed:((((D1 / h:Nat):Int)*((D2 / g:Nat):Int)).toNat)=D1 / h*(D2 / g):=by rw[<- Int.natCast_mul,OO]
 rw[ed];unfold GC qv P7;refine gS1 (aI @uk (aI (asx hE2) (aI (asx hE3) (aI (asx hE4) (aI @G8 (aI @G3 (aI o4 @Tryz.results97))))))) ?_
 try refine Ca.intro (by(repeat first|simp(disch:=omega) only[M9,G3,G8,asx (Ext.refl _),asx hE2,asx hE3,asx hE4]|rw[V8 (by kernel_rfl)]);first|done|rfl) ?_
 try(refine gS1 (aI o4 @Tryz.results97) ?_;try exact⟨⟩)
 exact⟨_,rfl,((E2.trans hE3).trans hE4).upd om _⟩
end Go.Proofs.T
