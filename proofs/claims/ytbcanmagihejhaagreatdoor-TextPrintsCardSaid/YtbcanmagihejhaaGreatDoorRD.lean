/- Uq of Ar, one by one. -/
import Derived.Test.YtbcanmagihejhaaGreatDoorRC
import Derived.Test.YtbcanmagihejhaaGreatDoorTI
set_option linter.unusedSimpArgs false
set_option linter.unusedVariables false
set_option linter.defProp false
set_option maxHeartbeats 32000000
set_option maxRecDepth 100000
namespace Go.Proofs.T
open Go Go.Ab
section
variable {d n:Int}{s:By}
noncomputable def mi (s:By):Option (Int×Int) :=
 if (JD (BJ s).1&& !Wc (BJ s).2)=true then
  if (decide (AZ (BJ s).1<=1000000000)&&decide ((BJ s).2.length<=6)&&(decide (AZ (BJ s).1<1000000000)||decide ((BJ s).2=[])))=true then
   some ((As (AZ (BJ s).1) (BJ s).2 / Nat.gcd (As (AZ (BJ s).1) (BJ s).2) (10 ^ (BJ s).2.length):Nat),(10 ^ (BJ s).2.length / Nat.gcd (As (AZ (BJ s).1) (BJ s).2) (10 ^ (BJ s).2.length):Nat))
  else none
 else none
def Ur (h:mi s=some (n,d)) (A7:List Tok) (k p:Nat) (c:(E8 A7 k).1=s):SV A7 k p= .ok (.mk T4 n d [] [],1,k+1,p+1):=by
 unfold SV;rw[c];unfold mi at h;split at h
 ·rename_i a;rw[z1z a];split at h
  ·rename_i b;rw[z1z b];cases h;rfl
  ·cases h
 ·cases h
def AF8 (s:By):Bool:=(!s.isEmpty&&s.all (on J3))||(!(s.takeWhile fun b=>b != 46).isEmpty&&(s.takeWhile fun b=>b != 46).all (on J3)&&decide ((s.dropWhile fun b=>b != 46).take 1=[46])&& !(s.dropWhile fun b=>b != 46).tail.isEmpty&&(s.dropWhile fun b=>b != 46).tail.all (on J3))
def uS (h:AF8 s=true):(∃ c w,s=c::w/\(c::w).all (on J3)=true)\/∃ c w x v,s=c::w++46::x::v/\(c::w).all (on J3)=true/\(x::v).all (on J3)=true:=by
 unfold AF8 at h;rw[II]at h;rcases h with h|h
 ·rw[T1]at h;cases s with
  |nil=>cases h.1
  |cons c w=>exact .inl ⟨c,w,rfl,h.2⟩
 ·have e:=(List.takeWhile_append_dropWhile (p:=fun b:UInt8=>b != 46) (l:=s)).symm;generalize (s.takeWhile fun b=>b != 46)=a at h e;generalize (s.dropWhile fun b=>b != 46)=b at h e;simp only[T1]at h;obtain⟨⟨⟨⟨i,j⟩,f⟩,g⟩,m⟩:=h;cases a with
  |nil=>cases i
  | cons c w=>
    cases b with
    |nil=>cases g
    | cons y b=>
      have f:=z6z f;cases b with
      |nil=>cases g
      | cons x v=>
        cases f;exact .inr ⟨c,w,x,v,e,j,m⟩
noncomputable def AF9 (n d:Int):Bool:=decide (-1000000000<n)&&decide (n<=1000000000*d)&&decide (1<=d)&&decide (d<1000000000)&&decide (Int.gcd n d=1)&&decide (0<=n)&&decide ((1000000:Int) % d=0)&&AF8 (deT n d)&&decide (mi (deT n d)=some (n,d))&&decide ((deT n d).length<=7)
def uT (h:AF9 n d=true):MI n d/\(deT n d).length<=7:=by
 unfold AF9 at h;simp only[T1,Ej]at h;obtain⟨⟨⟨⟨⟨⟨⟨⟨⟨b,c⟩,e⟩,f⟩,g⟩,i⟩,j⟩,l⟩,m⟩,a⟩:=h;exact⟨⟨⟨b,c,e,f,g⟩,i,j,uS l,fun A7 k p o=>Ur m A7 k p o⟩,a⟩
def mj:List Int:=[1,2,4,10,100]
def uU:((List.range 30).all fun n=>mj.all fun d=>AF9 (qn n d) (qd n d))=true:=kR
def AG0 {n:Nat}(h:n<30) (a:d∈mj):MI (qn n d) (qd n d)/\(deT (qn n d) (qd n d)).length<=7 :=
 uT (GH.1 (GH.1 uU n (We.2 h)) d a)
def uV {x:Nat}(h:(x:Int)<6):∃ d,sub ([.int .i64 1,.int .i64 1,.int .i64 2,.int .i64 4,.int .i64 10,.int .i64 100]:List Value) x 1=some [.int .i64 d]/\d∈mj:=by
 have:x=0\/x=1\/x=2\/x=3\/x=4\/x=5:=om;rcases this with rfl|rfl|rfl|rfl|rfl|rfl
 ·exact⟨1,rfl,by decide⟩
 ·exact⟨1,rfl,by decide⟩
 ·exact⟨2,rfl,by decide⟩
 ·exact⟨4,rfl,by decide⟩
 ·exact⟨10,rfl,by decide⟩
 ·exact⟨100,rfl,by decide⟩
def uW (h:d∈mj):1<=d/\d<=100:=by
 simp only[mj,V9,LN,MJ]at h;omega
end
section
variable {s r o:By}{b:UInt8}{k j m i:Nat}{a:Ex}
def Nd (r:By):Prop:=∀ b l,r=b::l->on J3 b=false
def gD {l:By}(h:on J3 b=false):Nd (b::l):=fun c l' e=>by cases e;exact h
def xD (h:Nd r) (c:Nat):Eg r c=Eg r 0:=by
 cases r with
 |nil=>rfl
 |cons b l=>rw[HF,HF,h b l rfl];rfl
def Ra (h:on J3 b=false){c:Nat}:Eg (b::r) c=Eg r 0:=by
 rw[HF,h];rfl
def cF (e:Nd r) (h:Eg r 0=true):∀ (s:By) (c:Nat),c+s.length<=18->Eg (s++r) c=true:=by
 intro s;induction s with
 |nil=>intro c _;rw[KP,xD e];exact h
 | cons b s ih=>
   intro c d;rw[AG]at d;rw[JF,HF];cases on J3 b with
   |false=>exact ih 0 om
   |true=>rw[cond_true,T1];exact⟨by rw[Nat.ble_eq];omega,ih (c+1) om⟩
def Rs (s:By):Prop:=∀ r,Nd r->Eg r 0=true->Eg (s++r) 0=true
def Rb (h:s.length<=18):Rs s:=fun r c d=>cF c d s 0 om
def Vi (h:on J3 b=false) (e:Rs s):Rs (b::s):=fun r c d=>by rw[JF,Ra h];exact e r c d
def gE (h:on J3 b=false) (d:Rs s):Rs (s++[b]):=fun r e c=>by
 rw[DT];exact d _ (gD h) (by show Eg (b::r) 0=true;rw[Ra h];exact c)
def cG {t:By}(h:on J3 b=false) (e:Rs s) (ht:Rs t):Rs (s++b::t):=fun r c d=>by
 rw[DT,JF];exact e _ (gD h) (by rw[Ra h];exact ht r c d)
def Vj {b:Bool}(h:Rs s):Rs (par b s):=by
 unfold par;split
 ·exact Vi (by rfl) (gE (by rfl) h)
 ·exact h
def Vk {b:Bool}{n:Nat}(h:s.length+2<=n):(par b s).length<=n:=by
 unfold par;split
 ·simp only[AG,W4,Hf];omega
 ·omega
structure FSw (k m:Nat) (e:Ex):Prop where
 fw:FW k m e
 len:∀ f G7,k<=f->(L9 f G7 e).length<=9*m
 rs:∀ f G7,k<=f->Rs (L9 f G7 e)
def AI0 {n d:Int}(h:MI n d) (e:(deT n d).length<=7):FSw 1 1 (.mk T4 n d [] []):=by
 refine⟨.num h,fun f G7 c=>?_,fun f G7 c=>?_⟩<;>obtain⟨f,rfl⟩:∃ g,f=g+1:=⟨f-1,om⟩<;>unfold L9<;>rw[z1z rfl]
 ·exact Vk om
 ·exact Vj (Rb om)
def ux {nm:By}(c:W0 nm=true) (d:nm≠W9) (e:nm≠Y4) (l:nm.length<=7):FSw 1 1 (.mk nmB 0 0 nm []):=by
 refine⟨.name c d e,fun f G7 h=>?_,fun f G7 h=>?_⟩<;>obtain⟨f,rfl⟩:∃ g,f=g+1:=⟨f-1,om⟩<;>unfold L9<;>rw[z0z (by decide),z1z rfl]
 ·exact Vk om
 ·exact Vj (Rb om)
def AI1 {b:Ex}(h:o=[43]\/o=[45]\/o=[42]\/o=[47]) (d:FSw k m a) (e:FSw j i b):FSw (1+max k j) (m+i+1) (.mk o 0 0 [] [a,b]):=by
 have l:o≠T4/\o≠nmB/\¬ (o=W9\/o=Y4):=by rcases h with rfl|rfl|rfl|rfl<;>decide
 obtain⟨c,rfl,q⟩:∃ c,o=[c]/\on J3 c=false:=by rcases h with rfl|rfl|rfl|rfl<;>exact⟨_,rfl,by rfl⟩
 refine⟨.bin h d.fw e.fw,fun f G7 u=>?_,fun f G7 u=>?_⟩<;>obtain⟨f,rfl⟩:∃ g,f=g+1:=⟨f-1,om⟩<;>unfold L9<;>rw[z0z l.1,z0z l.2.1]<;>dsimp only<;>rw[z0z l.2.2]
 ·have n:=d.len f (lvl [c]) om;have p:=e.len f (lvl [c]+1) om;refine Vk ?_;simp only[AG,W4,Hf];omega
 ·have n:=d.rs f (lvl [c]) om;have p:=e.rs f (lvl [c]+1) om;exact Vj (cG (by rfl) n (Vi q (Vi (by rfl) p)))
def Ag2 {b:Ex}(h:o=W9\/o=Y4) (c:FSw k m a) (d:FSw j i b):FSw (1+max k j) (m+i+1) (.mk o 0 0 [] [a,b]):=by
 have e:o≠T4/\o≠nmB:=by rcases h with rfl|rfl<;>decide
 have q:o.length=3:=by rcases h with rfl|rfl<;>rfl
 refine⟨.mm h c.fw d.fw,fun f G7 p=>?_,fun f G7 p=>?_⟩<;>obtain⟨f,rfl⟩:∃ g,f=g+1:=⟨f-1,om⟩<;>unfold L9<;>rw[z0z e.1,z0z e.2]<;>dsimp only<;>rw[z1z h]
 ·have l:=c.len f 0 om;have n:=d.len f 0 om;refine Vk ?_;simp only[AG,W4,Hf];omega
 ·have l:=c.rs f 0 om;have n:=d.rs f 0 om;refine Vj (cG (by rfl) (Rb om) ?_);exact cG (by rfl) l (Vi (by rfl) (gE (by rfl) n))
end
section
variable {q:Nat}{H H':List Nat}{v vn:Value}{l:List Int}{Z Z' Zm:St}{nms:List By}
def MS.new {cs:List Value}{t:Option Nat}(h:MS H q v l Z):MS H q v l (Z.new cs t):=h.ext (.new _ _)
def S7 {b:Nat}{a a':St}(h:G5 q a a')(d:b≠q):∀ (bs:List Nat) (i j o n:Nat) (ds:List Ab.Trace),M7 bs i ⟨b,o,n⟩ (.eff j a a'::ds)=M7 bs i ⟨b,o,n⟩ ds:=fun bs i j o n ds=>Je fun c=>h.same b c d
structure oB (nms:List By):Prop where
 all:∀ s∈nms,W0 s=true/\s≠W9/\s≠Y4/\s.length<=7
 pos:0<nms.length
 le:nms.length<=1000
def AH9 {x:Nat}(h:x<6):∃ o,sub ([str [43],str [45],str [42],str [47],str [109,105,110],str [109,97,120]]:List Value) x 1=some [str o]/\((o=[43]\/o=[45]\/o=[42]\/o=[47])\/(o=W9\/o=Y4)):=by
 have:x=0\/x=1\/x=2\/x=3\/x=4\/x=5:=om;rcases this with rfl|rfl|rfl|rfl|rfl|rfl
 ·exact⟨_,rfl,.inl (.inl rfl)⟩
 ·exact⟨_,rfl,.inl (.inr (.inl rfl))⟩
 ·exact⟨_,rfl,.inl (.inr (.inr (.inl rfl)))⟩
 ·exact⟨_,rfl,.inl (.inr (.inr (.inr rfl)))⟩
 ·exact⟨_,rfl,.inr (.inl rfl)⟩
 ·exact⟨_,rfl,.inr (.inr rfl)⟩
def MS.fin (a:MS H q v l Z) (b:G5 q Z Z') (e:MS H' q v l Zm) (f:Z'.B8 q=Zm.B8 q):MS H q v l Z':=by
 obtain⟨k,c,g,d⟩:=e.oC;exact⟨a.mem,⟨k,by rw[f];exact c,z5z a.lt b.n,d⟩,a.arg.I4 (b.OT a.mem),a.len⟩
def Nh (a:G5 q Z Z') (f:q∈H):Ao (J0 Z H) (J0 Z' (Z.n::H)) :=
 K8 a.n fun c d b=>⟨fun h=>by rcases V9.1 h with h|h<;>first|omega|exact b h,a.row d fun e=>b (e ▸ f)⟩
def MS.more (a:MS H q v l Z) (b:G5 q Z Zm) (c:MS H' q v l Zm):MS (Z.n::H) q v l Zm :=
 ⟨Ci _ a.mem,c.oC,a.arg.I4 (Nh b a.mem),a.len⟩
def TZ {p:Nat}{c1 c2:List Value}(b:G5 q Z Z') (i:q∈H):Ao (J0 Z (p::H)) (J0 ((Z'.new c1).upd p c2) H):=by
 have j:=b.n;refine K8 (by show Z.n<=Z'.n+1;omega) fun c g d=>?_;have a:c∉H:=fun h=>d (Ci _ h);have f:c≠p:=fun h=>d (by simp[h]);exact⟨a,by rw[I2 f,CQ om,b.row g fun e=>a (e ▸ i)]⟩
def Ag0 (H:List Nat) (q:Nat) (v:Value) (l:List Int) (a:Nat) (Z:St) (r:CR):Prop:=∃ row e k m Z',r=⟨false,.agg ⟨row⟩,Z'⟩/\MS H q v l Z'/\G5 q Z Z'/\ExX (J0 Z' H) row e/\FSw k m e/\k<=a+1/\m+1<=2 ^ (a+1)
def oD (q:Nat) (v vn:Value) (l:List Int) (nms:List By) (a:Nat):Prop:=∀ {Z:St}{H:List Nat},(∀ x∈H,x<Z.n)->MS H q v l Z->SL (J0 Z H) 1 vn (nms.map fun s=>[str s]) ->
  Ev (gO 34 [.pointer (some ⟨q,0,none⟩),.int .i64 (a:Nat),vn] Z) (Ag0 H q v l a Z) ⟨⟩
def Ta (hN:oB nms) (a:Nat) (hd:a<=4) (ih:∀ d,d+1=a->oD q v vn l nms d):oD q v vn l nms a:=by
 intro Z H I D hV;have hq:=D.lt;have p:=D.mem;obtain⟨na,nc,nb,no,b6,rfl,n1,n2⟩:=SL.SU hV;obtain⟨nsp,rfl,n3,n4⟩:=n1 hN.pos;rw[FD]at n3;have nH:nb∉H:=fun hb=>by rw[Mc hb]at n4;cases n4
 have nq:nb≠q:=fun h=>nH (h ▸ p);rw[CW nH]at n4;refine G1 Tryz.func34 rfl rfl ?_;refine gS ?_;refine(QP (n:=9) D.new om om).mono ?_;rintro r ⟨C,Z1,rfl,c8,a0,E⟩;have s1:=E.n;simp only[K9]at s1;have X1:G5 q Z Z1:=(G5.of (.new _ _)).trans E;have o1:Z1.B8 Z.n=some [str [],.int .i64 0,.int .i64 0,str [],.slice none 0 0]:=eT (E.B8 (by simp) om) cL;by_cases c3:a=0\/C<4
 ·have hc:(decide ((a:Int)=0)=true)\/(decide ((a:Int)=0)=false/\decide ((C:Int)<4)=true):=by
   by_cases g:a=0
   ·exact .inl (by simp[g])
   ·exact .inr ⟨by simp [g],by have:C<4:=om
                               simp;omega⟩
  obtain⟨z,⟨g,G⟩|⟨g,G⟩⟩:∃ z:Int,(decide ((a:Int)=0)=true/\decide (z<4)=true)\/(decide ((a:Int)=0)=false/\decide ((C:Int)<4)=true):=by
   rcases hc with g|⟨g,G⟩
   ·exact⟨0,.inl ⟨g,rfl⟩⟩
   ·exact⟨0,.inr ⟨g,G⟩⟩
  all_goals
   refine gS1 (aI g G) ?_;refine(QP (n:=2) a0 om om).mono ?_;rintro r ⟨x2,Z2,rfl,c9,A,f⟩;have s2:=f.n;have X2:G5 q Z Z2:=X1.trans f;have o2:=eT (f.B8 om om) o1;by_cases z2:x2=0
   ·have c2:decide ((x2:Int)=0)=true:=by simp[z2]
    refine gS1 c2 ?_;refine(QP (n:=(nms.length:Nat)) A (by have:=hN.pos;omega) (by have:=hN.le;omega)).mono ?_;rintro r ⟨u,Z3,rfl,b0,i,e⟩;have s3:=e.n;have F:G5 q Z Z3:=X2.trans e;have o3:=eT (e.B8 om om) o2;have m3:=eT (F.row om nq) n4;obtain⟨nm,a7⟩:=I3 (l:=nms) (k:=u) om;have hs:sub b6 (no+u) 1=some [str nm]:=by have:=n2 u nm a7;simpa using this
    refine gS1 (aI m3 (aI hs (aI o3 @Tryz.results34))) ?_;have s:G5 q Z (Z3.upd Z.n [str [110,97,109,101],.int .i64 0,.int .i64 0,str nm,.slice none 0 0]):=F.De nL _;obtain⟨w1,w2,w3,w4⟩:=hN.all nm (y6 a7);exact⟨_,_,1,1,_,rfl,D.fin s i (by rw[H6 om]),s,ar,ux w1 w2 w3 w4,om,by have:=Nat.one_le_two_pow (n:=a);rw[Gd];omega⟩
   ·have c2:decide ((x2:Int)=0)=false:=by simp[z2]
    refine gS1 c2 ?_;refine(QP (n:=30) A om om).mono ?_;rintro r ⟨u,Z3,rfl,b0,i,e⟩;have s3:=e.n;have F:G5 q Z Z3:=X2.trans e;have o3:=eT (e.B8 om om) o2;refine gS ?_;refine(QP (n:=6) i.new om om).mono ?_;rintro r ⟨x4,Z4,rfl,a8,B,c⟩;have s4:=c.n;simp only[K9]at s4;have X4:G5 q Z Z4:=F.trans ((G5.of (.new _ _)).trans c);have o4:Z4.B8 Z.n=some [str [],.int .i64 0,.int .i64 0,str [],.slice none 0 0]:=by rw[c.B8 (by simp;omega) om,J1 om];exact o3
    have k4:Z4.row Z3.n=some [.int .i64 1,.int .i64 1,.int .i64 2,.int .i64 4,.int .i64 10,.int .i64 100]:=eT (c.row (by simp) om) cL;obtain⟨X,ix,a6⟩:=uV a8;obtain⟨dd1,BQ9⟩:=uW a6;refine gS1 (aI k4 ix) ?_;refine(oE (n:=(u:Int)) (d:=X) om om om om om).mono ?_;rintro r ⟨Z5,rfl,y⟩;have s5:=y.n;have X5:G5 q Z Z5:=X4.trans (G5.of y);have o5:=eT (y.B8 om) o4;refine gS1 (aI o5 @Tryz.results34) ?_;obtain⟨w1,w2⟩:=AG0 (n:=u) om a6
    have s:G5 q Z (((Z5.new [.int .i64 0,.int .i64 0] (some 32)).upd Z5.n [.int .i64 (qn (u:Int) X),.int .i64 (qd (u:Int) X)]).upd Z.n [str [110,117,109],.int .i64 (qn (u:Int) X),.int .i64 (qd (u:Int) X),str [],.slice none 0 0]) :=
     ((X5.trans (G5.of (.new _ _))).De om _).De nL _
    exact⟨_,_,1,1,_,rfl,D.fin s B (by rw[H6 om,H6 om,J1 om,y.B8 om]),s,ar,AI0 w1 w2,om,by have:=Nat.one_le_two_pow (n:=a);rw[Gd];omega⟩
 ·have g:decide ((a:Int)=0)=false:=by simp;omega
  have G:decide ((C:Int)<4)=false:=by simp;omega
  obtain⟨d,rfl⟩:∃ d,a=d+1:=⟨a-1,om⟩
  have e1:((d+1:Nat):Int)-1=(d:Nat):=om;refine gS1 (aI g (aI G e1)) ?_;have Y:∀ x∈Z.n::H,x<Z.n+1:=fun x hx=>by rcases V9.1 hx with h|h<;>first|omega|(have:=I x h;omega)
  refine(ih d rfl (H:=Z.n::H) (fun x hx=>by have:=Y x hx;omega) (D.more X1 a0) (SL.I4 hV (Nh X1 p))).mono ?_;rintro r ⟨ra,ea,ka,ma,Z2,rfl,A,f,ha,fa,c4,c6⟩;have s2:=f.n;obtain⟨L,M,N,O,Q,rfl⟩:=fc5 ha.to;have X2:G5 q Z Z2:=X1.trans f;refine gS1 e1 ?_;obtain⟨S2,hS2⟩:=nW (((Z2.new [str [],.int .i64 0,.int .i64 0,str [],.slice none 0 0] (some 35)).upd Z2.n [L,M,N,O,Q]));rw[hS2];have E2:Ext Z2 S2:=by rw[<- hS2];exact eX
  have d2:S2.n=Z2.n+1:=by rw[<- hS2];rfl
  have b7:S2.B8 Z2.n=some [L,M,N,O,Q]:=by rw[<- hS2];exact cL
  have K:G5 q Z S2:=X2.trans (G5.of E2);refine(ih d rfl (H:=Z.n::H) (fun x hx=>by have:=Y x hx;omega) (A.ext E2) (SL.I4 hV (Nh K p))).mono ?_;rintro r ⟨rb,eb,kb,mb,Z3,rfl,i,e,hb,fb,c5,c7⟩;have s3:=e.n;obtain⟨R,S,U,V,W,rfl⟩:=fc5 hb.to;have F:G5 q Z Z3:=K.trans e;have o3:=eT (e.B8 om om) b7;refine gS ?_;obtain⟨S3,hS3⟩:=nW (((Z3.new [str [],.int .i64 0,.int .i64 0,str [],.slice none 0 0] (some 35)).upd Z3.n [R,S,U,V,W]));rw[hS3];have J:Ext Z3 S3:=by rw[<- hS3];exact eX
  have d3:S3.n=Z3.n+1:=by rw[<- hS3];rfl
  have b8:S3.B8 Z3.n=some [R,S,U,V,W]:=by rw[<- hS3];exact cL
  have c0:=eT (J.B8 om) o3;have a9:G5 q Z S3:=F.trans (G5.of J);refine(QP (n:=6) (i.ext J).new om om).mono ?_;rintro r ⟨x4,Z4,rfl,a8,B,c⟩;have s4:=c.n;simp only[K9]at s4;have X4:G5 q Z Z4:=a9.trans ((G5.of (.new _ _)).trans c);have o4:Z4.B8 Z.n=some [str [],.int .i64 0,.int .i64 0,str [],.slice none 0 0]:=by
   rw[c.B8 (by simp;omega) om,J1 om,J.B8 om,e.B8 om om,E2.B8 om,f.B8 om om];exact o1
  have p4:Z4.B8 Z2.n=some [L,M,N,O,Q]:=by rw[c.B8 (by simp;omega) om,J1 om];exact c0
  have r4:Z4.B8 Z3.n=some [R,S,U,V,W]:=by rw[c.B8 (by simp;omega) om,J1 om];exact b8
  have k4:Z4.row S3.n=some [str [43],str [45],str [42],str [47],str [109,105,110],str [109,97,120]]:=eT (c.row (by simp) om) cL;refine gS ?_;refine(AN (n:=(C:Int)+(x4:Int)) (m:=6) (by unfold X6;omega) om om).mono ?_;rintro r rfl;have e6:((C:Int)+(x4:Int)) % 6=(((C+x4) % 6:Nat):Int):=om;obtain⟨o,ho,j⟩:=AH9 (x:=(C+x4) % 6) om;have b9:=C1 p4;have c1:=C1 r4;refine gS1 (aI e6 (aI k4 (aI ho (aI b9 (aI c1 (aI o4 (aI @asR @Tryz.results34))))))) ?_;refine T3.intro (by simp(disch:=omega) only[N7,Q9,N1,asx (Ext.refl _),S7 (b:=Z3.n) c om,S7 (b:=Z2.n) c om,S7 (b:=S3.n) c om];first|done|rfl) ?_
  try(refine gS1 @Tryz.results34 ?_;try exact⟨⟩)
  have s:G5 q Z ((Z4.new [L,M,N,O,Q,R,S,U,V,W]).upd Z.n [str o,.int .i64 0,.int .i64 0,str [],.slice (some ⟨Z4.n,0,none⟩) 2 2]):=(X4.trans (G5.of (.new _ _))).De nL _;have Y3:G5 q Z3 Z4:=(G5.of J).trans ((G5.of (.new _ _)).trans c);have Y2:G5 q Z2 Z4:=(G5.of E2).trans (e.trans Y3);have hX:ExX (J0 ((Z4.new [L,M,N,O,Q,R,S,U,V,W]).upd Z.n [str o,.int .i64 0,.int .i64 0,str [],.slice (some ⟨Z4.n,0,none⟩) 2 2]) H) [str o,.int .i64 0,.int .i64 0,str [],.slice (some ⟨Z4.n,0,none⟩) 2 2] (.mk o 0 0 [] [ea,eb]):=by
   refine uy (by rw[FD];show Z4.n<Z4.n+1;omega) (by rw[CW fun h=>by have:=I _ h;omega];exact cL) rfl (ha.I4 (TZ Y2 p)) (hb.I4 (TZ Y3 p))
  have p2:2 ^ (d+1+1)=2*2 ^ (d+1):=by rw[Gd];omega
  rcases j with j|j
  ·exact⟨_,_,_,_,_,rfl,D.fin s B (by rw[H6 om,J1 om]),s,hX,AI1 j fa fb,om,om⟩
  ·exact⟨_,_,_,_,_,rfl,D.fin s B (by rw[H6 om,J1 om]),s,hX,Ag2 j fa fb,om,om⟩
def uz (a:oB nms):∀ deep:Nat,deep<=4->oD q v vn l nms deep:=by
 intro deep;induction deep with
 |zero=>exact fun h=>Ta a 0 h fun d h=>om
 |succ d c=>exact fun b=>Ta a (d+1) b fun d' h=>by cases h;exact c om
end
structure ng (T:Tn):Prop where
 right:BL T
 sm:T.Sm
 nm:T.name.length<=9
 F9:T.F9.length<=3
 E9:T.E9.length<=3
 Y7:∀ c∈T.E9,c.name.length<=9
 reqs:T.reqs.length<=2
 req:∀ r∈T.reqs,r.name.length<=9
 H2:T.H2.length<=3
 tie:∀ w∈T.H2,w.length<=9
 C8:T.C8.length<=2
 combo:∀ c∈T.C8,c.length<=5
 f:∃ k m,FSw k m T.f/\k<=12/\m<=16
section
variable {v:Value}{l:List Int}{τ τ':St}{lo size:Nat}{D0:List (List Value)}{H0:List Nat}{cs:List Value}
def AE4:List By:=[[112,114,105,99,101],[108,111,119],[115,112,101,101,100],[99,111,109,102,111,114,116],[119,101,105,103,104,116]]
def sX:oB AE4:=⟨by decide,by decide,by decide⟩
def QE {Z:St}:Ev (gO 23 [] Z) (fun r=>∃ b Z',r=⟨false,.slice (some ⟨b,0,none⟩) 5 5,Z'⟩/\Ext Z Z'/\Z.n<=b/\b<Z'.n/\Z'.B8 b=some [str [112,114,105,99,101],str [108,111,119],str [115,112,101,101,100],str [99,111,109,102,111,114,116],str [119,101,105,103,104,116]]) ⟨⟩:=by
 refine G1 Tryz.func23 rfl rfl ?_;refine gS1 @Tryz.results23 ?_;exact⟨_,_,rfl,eX,AP _,by simp,cL⟩
def GQ (q:Nat) (v:Value) (l:List Int) (τ:St):Prop:=∃ k,k<=l.length/\τ.B8 q=some [v,.int .i64 (k:Nat)]
def GQ.ext {q:Nat}(h:GQ q v l τ) (c:Ext τ τ') (d:q<τ.n):GQ q v l τ':=by
 obtain⟨k,a,b⟩:=h;exact⟨k,a,by rw[c.B8 d];exact b⟩
def GQ.x {p q:Nat}(h:GQ q v l τ) (d:G5 p τ τ') (e:q<τ.n) (a:q≠p):GQ q v l τ':=by
 obtain⟨k,b,c⟩:=h;exact⟨k,b,by rw[d.B8 e a];exact c⟩
def GQ.app {q:Nat}{w w':Value}(h:GQ q v l τ) (c:App τ τ' w w') (f:OL lo τ size w D0) (g:q<τ.n) (e:q<lo):GQ q v l τ':=by
 obtain⟨k,a,b⟩:=h;exact⟨k,a,by rw[B9 (c.same q g fun d=>by have:=(f.blk d).1;omega)];exact b⟩
def AE5 {Z:St}{q:Nat}{H:List Nat}(j:BX (J0 Z H0) v l) (a:l.length<=9223372036854775807) (b:Ext Z τ) (f:∀ c∈H,Z.n<=c\/c∈H0) (r:q<τ.n) (g:GQ q v l τ) (m:q∈H):MS H q v l τ:=by
 obtain⟨k,d,e⟩:=g;exact⟨m,⟨k,e,r,d⟩,j.I4 (K8 b.n fun c i o=>⟨fun h=>by rcases f c h with h|h<;>first|omega|exact o h,b.row i⟩),a⟩
def nxg {Z:St}{q:Nat}{n:Int}(o:BX (J0 Z H0) v l) (b:l.length<=9223372036854775807) (d:Ext Z τ) (a:Z.n<=q) (s:q<τ.n) (j:GQ q v l τ) (f:0<n) (g:n<=100000):
  Ev (gO 33 [.pointer (some ⟨q,0,none⟩),.int .i64 n] τ) (fun r=>∃ (x:Nat) (Z':St),r=⟨false,.int .i64 (x:Nat),Z'⟩/\(x:Int)<n/\Ext Z Z'/\GQ q v l Z'/\G5 q τ Z') ⟨⟩:=by
 refine(QP (AE5 (H:=q::H0) o b d (fun c m=>by rcases V9.1 m with rfl|h<;>first|exact .inl a|exact .inr h) s j (by simp)) f g).mono ?_;rintro r ⟨x,Z',rfl,u,i,e⟩;obtain⟨k,y,A,z⟩:=i.oC;exact⟨x,Z',rfl,u,e.ext d a,⟨k,z,y⟩,e⟩
def OL.upd {p:Nat}{Z:St}(h:OL lo Z size v D0) (a:p<lo):OL lo (Z.upd p cs) size v D0:=OL.W7 h (G5.refl.upd _) a
structure T9 (q p:Nat) (Z Z':St):Prop where
 n:Z.n<=Z'.n
 same:∀ b,b<Z.n->b≠q->b≠p->Z'.h.get b=Z.h.get b
section
variable {p q:Nat}{Z Z' Z'':St}
def T9.refl:T9 q p Z Z:=⟨AP _,fun _ _ _ _=>rfl⟩
def T9.of (h:Ext Z Z'):T9 q p Z Z':=⟨h.n,fun b a _ _=>h.same b a⟩
def T9.xq (h:G5 q Z Z'):T9 q p Z Z':=⟨h.n,fun b c a _=>h.same b c a⟩
def T9.xp (h:G5 p Z Z'):T9 q p Z Z':=⟨h.n,fun b c _ a=>h.same b c a⟩
def T9.trans (h:T9 q p Z Z') (k:T9 q p Z' Z''):T9 q p Z Z'':=⟨W5 h.n k.n,fun b d a c=>by rw[k.same b (z5z d h.n) a c,h.same b d a c]⟩
def T9.upd (h:T9 q p Z Z'):T9 q p Z (Z'.upd p cs):=h.trans (.xp (G5.refl.upd _))
def T9.app {v':Value}(b:App Z' Z'' v v') (a:T9 q p Z Z') (h:OL lo Z' size v D0) (i:Z.n<=lo):T9 q p Z Z'' :=
 ⟨W5 a.n b.n,fun c d e f=>by rw[b.same c (z5z d a.n) (fun g=>by have:=(h.blk g).1;omega),a.same c d e f]⟩
def T9.ext {Z0:St}(h:T9 q p Z Z') (a:Ext Z0 Z) (e:Z0.n<=q) (d:Z0.n<=p):Ext Z0 Z':=⟨W5 a.n h.n,fun b c=>by rw[h.same b (z5z c a.n) om om,a.same b c]⟩
def T9.B8 {b:Nat}(h:T9 q p Z Z') (d:b<Z.n) (a:b≠q) (c:b≠p):Z'.B8 b=Z.B8 b:=B9 (h.same b d a c)
def OL.UD (h:OL lo Z size v D0) (a:T9 q p Z Z') (e:q<lo) (d:p<lo):OL lo Z' size v D0:=by
 refine h.I4 a.n fun b c=>?_;have:=h.blk c;exact a.same b this.2 om om
end
end
def Sg (L:List Lot):Prop:=(L.map Lot.id).Pairwise (fun a b=>a<b)
def nQ:Sg []:=List.Pairwise.nil
def TQ {L:List Lot}{x:Lot}(h:Sg L) (e:∀ y∈L,y.id<x.id):Sg (L++[x]):=by
 unfold Sg at h ⊢;rw[Ah,List.pairwise_append];refine⟨h,AA5 _ _,fun a c b d=>?_⟩;obtain⟨y,f,rfl⟩:=GI.1 c;obtain⟨z,hz,rfl⟩:=GI.1 d;rw[Cb.1 hz];exact e y f
def ag {L:List Lot}(h:Sg L):(L.map Lot.id).Nodup:=List.Pairwise.imp (fun h=>om) h
def MU:List By:=[[112,114,105,99,101],[115,112,101,101,100],[99,111,109,102,111,114,116]]
def iz:∀ k:Nat,k<=3->(MU.take k).Nodup/\(∀ w∈MU.take k,(w=Fk\/R4 w=true)/\w.length<=9):=by
 intro k a;have:k=0\/k=1\/k=2\/k=3:=om;rcases this with rfl|rfl|rfl|rfl<;>decide
def OI:List By:=[[115,112,101,101,100],[99,111,109,102,111,114,116],[119,101,105,103,104,116]]
def jA:∀ k:Nat,k<=3->(OI.take k).Nodup/\(∀ w∈OI.take k,R4 w=true/\w.length<=9):=by
 intro k a;have:k=0\/k=1\/k=2\/k=3:=om;rcases this with rfl|rfl|rfl|rfl<;>decide
end Go.Proofs.T
