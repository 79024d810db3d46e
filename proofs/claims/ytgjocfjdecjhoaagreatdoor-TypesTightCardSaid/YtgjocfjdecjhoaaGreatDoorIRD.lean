/- WE of R7, one by one. -/
import Derived.Test.YtgjocfjdecjhoaaGreatDoorIRC
set_option linter.unusedSimpArgs false
set_option linter.unusedVariables false
set_option linter.defProp false
set_option maxHeartbeats 32000000
set_option maxRecDepth 100000
namespace Go.Proofs.T
open Go Go.Ab
section
variable {d n:Int}{s:By}
noncomputable def og (s:By):Option (Int×Int) :=
 if (WG (CM s).1&& !oh (CM s).2)=true then
  if (decide (GX (CM s).1<=1000000000)&&decide ((CM s).2.length<=6)&&(decide (GX (CM s).1<1000000000)||decide ((CM s).2=[])))=true then
   some ((Jd (GX (CM s).1) (CM s).2 / Nat.gcd (Jd (GX (CM s).1) (CM s).2) (10 ^ (CM s).2.length):Nat),(10 ^ (CM s).2.length / Nat.gcd (Jd (GX (CM s).1) (CM s).2) (10 ^ (CM s).2.length):Nat))
  else none
 else none
def WH (h:og s=some (n,d)) (D4:List Tok) (k p:Nat) (c:(Ah D4 k).1=s):ot D4 k p= .ok (.mk K8 n d [] [],1,k+1,p+1):=by
 unfold ot;rw[c];unfold og at h;split at h
 ·rename_i a;rw[z1z a];split at h
  ·rename_i b;rw[z1z b];cases h;rfl
  ·cases h
 ·cases h
def AS3 (s:By):Bool:=(!s.isEmpty&&s.all (on P9))||(!(s.takeWhile fun b=>b != 46).isEmpty&&(s.takeWhile fun b=>b != 46).all (on P9)&&decide ((s.dropWhile fun b=>b != 46).take 1=[46])&& !(s.dropWhile fun b=>b != 46).tail.isEmpty&&(s.dropWhile fun b=>b != 46).tail.all (on P9))
def xV (h:AS3 s=true):(∃ c w,s=c::w/\(c::w).all (on P9)=true)\/∃ c w x v,s=c::w++46::x::v/\(c::w).all (on P9)=true/\(x::v).all (on P9)=true:=by
 unfold AS3 at h;rw[RI]at h;rcases h with h|h
 ·rw[R2]at h;cases s with
  |nil=>cases h.1
  |cons c w=>exact .inl ⟨c,w,rfl,h.2⟩
 ·have e:=(List.takeWhile_append_dropWhile (p:=fun b:UInt8=>b != 46) (l:=s)).symm;generalize (s.takeWhile fun b=>b != 46)=a at h e;generalize (s.dropWhile fun b=>b != 46)=b at h e;simp only[R2]at h;obtain⟨⟨⟨⟨i,j⟩,f⟩,g⟩,k⟩:=h;cases a with
  |nil=>cases i
  | cons c w=>
    cases b with
    |nil=>cases g
    | cons y b=>
      have f:=z6z f;cases b with
      |nil=>cases g
      | cons x v=>
        cases f;exact .inr ⟨c,w,x,v,e,j,k⟩
noncomputable def AS4 (n d:Int):Bool:=decide (-1000000000<n)&&decide (n<=1000000000*d)&&decide (1<=d)&&decide (d<1000000000)&&decide (Int.gcd n d=1)&&decide (0<=n)&&decide ((1000000:Int) % d=0)&&AS3 (deT n d)&&decide (og (deT n d)=some (n,d))&&decide ((deT n d).length<=7)
def xW (h:AS4 n d=true):Jk n d/\(deT n d).length<=7:=by
 unfold AS4 at h;simp only[R2,EO]at h;obtain⟨⟨⟨⟨⟨⟨⟨⟨⟨b,c⟩,e⟩,f⟩,g⟩,i⟩,j⟩,l⟩,m⟩,a⟩:=h;exact⟨⟨⟨b,c,e,f,g⟩,i,j,xV l,fun D4 k p o=>WH m D4 k p o⟩,a⟩
def ou:List Int:=[1,2,4,10,100]
def xX:((List.range 30).all fun n=>ou.all fun d=>AS4 (qn n d) (qd n d))=true:=kR
def cu {n:Nat}(h:n<30) (a:d∈ou):Jk (qn n d) (qd n d)/\(deT (qn n d) (qd n d)).length<=7 :=
 xW (GY.1 (GY.1 xX n (xY.2 h)) d a)
def xZ {x:Nat}(h:(x:Int)<6):∃ d,sub ([.int .i64 1,.int .i64 1,.int .i64 2,.int .i64 4,.int .i64 10,.int .i64 100]:List Value) x 1=some [.int .i64 d]/\d∈ou:=by
 have:x=0\/x=1\/x=2\/x=3\/x=4\/x=5:=om;rcases this with rfl|rfl|rfl|rfl|rfl|rfl
 ·exact⟨1,rfl,by decide⟩
 ·exact⟨1,rfl,by decide⟩
 ·exact⟨2,rfl,by decide⟩
 ·exact⟨4,rfl,by decide⟩
 ·exact⟨10,rfl,by decide⟩
 ·exact⟨100,rfl,by decide⟩
def xc (h:d∈ou):1<=d/\d<=100:=by
 simp only[ou,W1,EP,EK]at h;omega
end
section
variable {s r o:By}{b:UInt8}{k j m i:Nat}{a:Ex}
def Nd (r:By):Prop:=∀ b l,r=b::l->on P9 b=false
def jL {l:By}(h:on P9 b=false):Nd (b::l):=fun c l' e=>by cases e;exact h
def zo (h:Nd r) (c:Nat):Eo r c=Eo r 0:=by
 cases r with
 |nil=>rfl
 |cons b l=>rw[Hr,Hr,h b l rfl];rfl
def TE (h:on P9 b=false){c:Nat}:Eo (b::r) c=Eo r 0:=by
 rw[Hr,h];rfl
def eo (e:Nd r) (h:Eo r 0=true):∀ (s:By) (c:Nat),c+s.length<=18->Eo (s++r) c=true:=by
 intro s;induction s with
 |nil=>intro c _;rw[MC,zo e];exact h
 | cons b s ih=>
   intro c d;rw[Ap]at d;rw[LN,Hr];cases on P9 b with
   |false=>exact ih 0 om
   |true=>rw[cond_true,R2];exact⟨by rw[Nat.ble_eq];omega,ih (c+1) om⟩
def Rs (s:By):Prop:=∀ r,Nd r->Eo r 0=true->Eo (s++r) 0=true
def TF (h:s.length<=18):Rs s:=fun r c d=>eo c d s 0 om
def XU (h:on P9 b=false) (e:Rs s):Rs (b::s):=fun r c d=>by rw[LN,TE h];exact e r c d
def jM (h:on P9 b=false) (d:Rs s):Rs (s++[b]):=fun r e c=>by
 rw[OU];exact d _ (jL h) (by show Eo (b::r) 0=true;rw[TE h];exact c)
def ep {t:By}(h:on P9 b=false) (e:Rs s) (ht:Rs t):Rs (s++b::t):=fun r c d=>by
 rw[OU,LN];exact e _ (jL h) (by rw[TE h];exact ht r c d)
def XV {b:Bool}(h:Rs s):Rs (par b s):=by
 unfold par;split
 ·exact XU (by rfl) (jM (by rfl) h)
 ·exact h
def XW {b:Bool}{n:Nat}(h:s.length+2<=n):(par b s).length<=n:=by
 unfold par;split
 ·simp only[Ap,CU,Jg];omega
 ·omega
structure FSw (k m:Nat) (e:Ex):Prop where
 fw:FW k m e
 len:∀ f G4,k<=f->(K6 f G4 e).length<=9*m
 rs:∀ f G4,k<=f->Rs (K6 f G4 e)
def AU5 {n d:Int}(h:Jk n d) (e:(deT n d).length<=7):FSw 1 1 (.mk K8 n d [] []):=by
 refine⟨.num h,fun f G4 c=>?_,fun f G4 c=>?_⟩<;>obtain⟨f,rfl⟩:∃ g,f=g+1:=⟨f-1,om⟩<;>unfold K6<;>rw[z1z rfl]
 ·exact XW om
 ·exact XV (TF om)
def yD {nm:By}(c:AP nm=true) (d:nm≠Q7) (e:nm≠R4) (l:nm.length<=7):FSw 1 1 (.mk nmB 0 0 nm []):=by
 refine⟨.name c d e,fun f G4 h=>?_,fun f G4 h=>?_⟩<;>obtain⟨f,rfl⟩:∃ g,f=g+1:=⟨f-1,om⟩<;>unfold K6<;>rw[z0z (by decide),z1z rfl]
 ·exact XW om
 ·exact XV (TF om)
def AU6 {b:Ex}(h:o=[43]\/o=[45]\/o=[42]\/o=[47]) (d:FSw k m a) (e:FSw j i b):FSw (1+max k j) (m+i+1) (.mk o 0 0 [] [a,b]):=by
 have l:o≠K8/\o≠nmB/\¬ (o=Q7\/o=R4):=by rcases h with rfl|rfl|rfl|rfl<;>decide
 obtain⟨c,rfl,q⟩:∃ c,o=[c]/\on P9 c=false:=by rcases h with rfl|rfl|rfl|rfl<;>exact⟨_,rfl,by rfl⟩
 refine⟨.bin h d.fw e.fw,fun f G4 u=>?_,fun f G4 u=>?_⟩<;>obtain⟨f,rfl⟩:∃ g,f=g+1:=⟨f-1,om⟩<;>unfold K6<;>rw[z0z l.1,z0z l.2.1]<;>dsimp only<;>rw[z0z l.2.2]
 ·have n:=d.len f (lvl [c]) om;have p:=e.len f (lvl [c]+1) om;refine XW ?_;simp only[Ap,CU,Jg];omega
 ·have n:=d.rs f (lvl [c]) om;have p:=e.rs f (lvl [c]+1) om;exact XV (ep (by rfl) n (XU q (XU (by rfl) p)))
def Ap7 {b:Ex}(h:o=Q7\/o=R4) (c:FSw k m a) (d:FSw j i b):FSw (1+max k j) (m+i+1) (.mk o 0 0 [] [a,b]):=by
 have e:o≠K8/\o≠nmB:=by rcases h with rfl|rfl<;>decide
 have q:o.length=3:=by rcases h with rfl|rfl<;>rfl
 refine⟨.mm h c.fw d.fw,fun f G4 p=>?_,fun f G4 p=>?_⟩<;>obtain⟨f,rfl⟩:∃ g,f=g+1:=⟨f-1,om⟩<;>unfold K6<;>rw[z0z e.1,z0z e.2]<;>dsimp only<;>rw[z1z h]
 ·have l:=c.len f 0 om;have n:=d.len f 0 om;refine XW ?_;simp only[Ap,CU,Jg];omega
 ·have l:=c.rs f 0 om;have n:=d.rs f 0 om;refine XV (ep (by rfl) (TF om) ?_);exact ep (by rfl) l (XU (by rfl) (jM (by rfl) n))
end
section
variable {q:Nat}{H H':List Nat}{v vn:Value}{l:List Int}{Z Z' Zm:St}{nms:List By}
def MS.new {cs:List Value}{t:Option Nat}(h:MS H q v l Z):MS H q v l (Z.new cs t):=h.ext (.new _ _)
def V6 {b:Nat}{a a':St}(h:J9 q a a')(d:b≠q):∀ (bs:List Nat) (i j o n:Nat) (ds:List Ab.Trace),W5 bs i ⟨b,o,n⟩ (.eff j a a'::ds)=W5 bs i ⟨b,o,n⟩ ds:=fun bs i j o n ds=>Wi fun c=>h.same b c d
structure iD (nms:List By):Prop where
 all:∀ s∈nms,AP s=true/\s≠Q7/\s≠R4/\s.length<=7
 pos:0<nms.length
 le:nms.length<=1000
def AU4 {x:Nat}(h:x<6):∃ o,sub ([str [43],str [45],str [42],str [47],str [109,105,110],str [109,97,120]]:List Value) x 1=some [str o]/\((o=[43]\/o=[45]\/o=[42]\/o=[47])\/(o=Q7\/o=R4)):=by
 have:x=0\/x=1\/x=2\/x=3\/x=4\/x=5:=om;rcases this with rfl|rfl|rfl|rfl|rfl|rfl
 ·exact⟨_,rfl,.inl (.inl rfl)⟩
 ·exact⟨_,rfl,.inl (.inr (.inl rfl))⟩
 ·exact⟨_,rfl,.inl (.inr (.inr (.inl rfl)))⟩
 ·exact⟨_,rfl,.inl (.inr (.inr (.inr rfl)))⟩
 ·exact⟨_,rfl,.inr (.inl rfl)⟩
 ·exact⟨_,rfl,.inr (.inr rfl)⟩
def MS.fin (a:MS H q v l Z) (b:J9 q Z Z') (e:MS H' q v l Zm) (f:Z'.A7 q=Zm.A7 q):MS H q v l Z':=by
 obtain⟨k,c,g,d⟩:=e.UJ;exact⟨a.mem,⟨k,by rw[f];exact c,z5z a.lt b.n,d⟩,a.arg.I2 (b.NI a.mem),a.len⟩
def Oh (a:J9 q Z Z') (f:q∈H):FG (N5 Z H) (N5 Z' (Z.n::H)) :=
 AZ a.n fun c d b=>⟨fun h=>by rcases W1.1 h with h|h<;>first|omega|exact b h,a.row d fun e=>b (e ▸ f)⟩
def MS.more (a:MS H q v l Z) (b:J9 q Z Zm) (c:MS H' q v l Zm):MS (Z.n::H) q v l Zm :=
 ⟨De _ a.mem,c.UJ,a.arg.I2 (Oh b a.mem),a.len⟩
def Uu {p:Nat}{c1 f:List Value}(b:J9 q Z Z') (j:q∈H):FG (N5 Z (p::H)) (N5 ((Z'.new c1).upd p f) H):=by
 have k:=b.n;refine AZ (by show Z.n<=Z'.n+1;omega) fun c i d=>?_;have a:c∉H:=fun h=>d (De _ h);have g:c≠p:=fun h=>d (by simp[h]);exact⟨a,by rw[Ae g,CY om,b.row i fun e=>a (e ▸ j)]⟩
def Ap5 (H:List Nat) (q:Nat) (v:Value) (l:List Int) (a:Nat) (Z:St) (r:CR):Prop:=∃ row e k m Z',r=⟨false,.agg ⟨row⟩,Z'⟩/\MS H q v l Z'/\J9 q Z Z'/\ExX (N5 Z' H) row e/\FSw k m e/\k<=a+1/\m+1<=2 ^ (a+1)
def qQ (q:Nat) (v vn:Value) (l:List Int) (nms:List By) (a:Nat):Prop:=∀ {Z:St}{H:List Nat},(∀ x∈H,x<Z.n)->MS H q v l Z->SL (N5 Z H) 1 vn (nms.map fun s=>[str s]) ->
  Ev (gO 31 [.pointer (some ⟨q,0,none⟩),.int .i64 (a:Nat),vn] Z) (Ap5 H q v l a Z) ⟨⟩
def Uv (hN:iD nms) (a:Nat) (hd:a<=4) (ih:∀ d,d+1=a->qQ q v vn l nms d):qQ q v vn l nms a:=by
 intro Z H yB D hV;have hq:=D.lt;have p:=D.mem;obtain⟨na,nc,nb,no,b6,rfl,n1,n2⟩:=SL.Lo hV;obtain⟨nsp,rfl,n3,n4⟩:=n1 hN.pos;rw[EY]at n3;have nH:nb∉H:=fun hb=>by rw[KF hb]at n4;cases n4
 have nq:nb≠q:=fun h=>nH (h ▸ p);rw[Bx nH]at n4;refine C8 Tryz.func31 rfl rfl ?_;refine gS ?_;refine(Rx (n:=9) D.new om om).mono ?_;rintro r ⟨C,Z1,rfl,c8,a0,E⟩;have s1:=E.n;simp only[G3]at s1;have X1:J9 q Z Z1:=(J9.of (.new _ _)).trans E;have o1:Z1.A7 Z.n=some [str [],.int .i64 0,.int .i64 0,str [],.slice none 0 0]:=eT (E.A7 (by simp) om) cL;by_cases c3:a=0\/C<4
 ·have hc:(decide ((a:Int)=0)=true)\/(decide ((a:Int)=0)=false/\decide ((C:Int)<4)=true):=by
   by_cases g:a=0
   ·exact .inl (by simp[g])
   ·exact .inr ⟨by simp [g],by have:C<4:=om
                               simp;omega⟩
  obtain⟨z,⟨g,G⟩|⟨g,G⟩⟩:∃ z:Int,(decide ((a:Int)=0)=true/\decide (z<4)=true)\/(decide ((a:Int)=0)=false/\decide ((C:Int)<4)=true):=by
   rcases hc with g|⟨g,G⟩
   ·exact⟨0,.inl ⟨g,rfl⟩⟩
   ·exact⟨0,.inr ⟨g,G⟩⟩
  all_goals
   refine gS1 (aI g G) ?_;refine(Rx (n:=2) a0 om om).mono ?_;rintro r ⟨x2,Z2,rfl,c9,A,f⟩;have s2:=f.n;have X2:J9 q Z Z2:=X1.trans f;have o2:=eT (f.A7 om om) o1;by_cases z2:x2=0
   ·have c2:decide ((x2:Int)=0)=true:=by simp[z2]
    refine gS1 c2 ?_;refine(Rx (n:=(nms.length:Nat)) A (by have:=hN.pos;omega) (by have:=hN.le;omega)).mono ?_;rintro r ⟨u,Z3,rfl,b0,i,e⟩;have s3:=e.n;have F:J9 q Z Z3:=X2.trans e;have o3:=eT (e.A7 om om) o2;have m3:=eT (F.row om nq) n4;obtain⟨nm,a7⟩:=I1 (l:=nms) (k:=u) om;have hs:sub b6 (no+u) 1=some [str nm]:=by have:=n2 u nm a7;simpa using this
    refine gS1 (aI m3 (aI hs (aI o3 @Tryz.results31))) ?_;have s:J9 q Z (Z3.upd Z.n [str [110,97,109,101],.int .i64 0,.int .i64 0,str nm,.slice none 0 0]):=F.yC nL _;obtain⟨w1,w2,w3,w4⟩:=hN.all nm (Ag a7);exact⟨_,_,1,1,_,rfl,D.fin s i (by rw[K9 om]),s,Ap6,yD w1 w2 w3 w4,om,by have:=Nat.one_le_two_pow (n:=a);rw[HG];omega⟩
   ·have c2:decide ((x2:Int)=0)=false:=by simp[z2]
    refine gS1 c2 ?_;refine(Rx (n:=30) A om om).mono ?_;rintro r ⟨u,Z3,rfl,b0,i,e⟩;have s3:=e.n;have F:J9 q Z Z3:=X2.trans e;have o3:=eT (e.A7 om om) o2;refine gS ?_;refine(Rx (n:=6) i.new om om).mono ?_;rintro r ⟨x4,Z4,rfl,a8,B,c⟩;have s4:=c.n;simp only[G3]at s4;have X4:J9 q Z Z4:=F.trans ((J9.of (.new _ _)).trans c);have o4:Z4.A7 Z.n=some [str [],.int .i64 0,.int .i64 0,str [],.slice none 0 0]:=by rw[c.A7 (by simp;omega) om,M9 om];exact o3
    have k4:Z4.row Z3.n=some [.int .i64 1,.int .i64 1,.int .i64 2,.int .i64 4,.int .i64 10,.int .i64 100]:=eT (c.row (by simp) om) cL;obtain⟨X,ix,a6⟩:=xZ a8;obtain⟨dd1,BT9⟩:=xc a6;refine gS1 (aI k4 ix) ?_;refine(qR (n:=(u:Int)) (d:=X) om om om om om).mono ?_;rintro r ⟨Z5,rfl,y⟩;have s5:=y.n;have X5:J9 q Z Z5:=X4.trans (J9.of y);have o5:=eT (y.A7 om) o4;refine gS1 (aI o5 @Tryz.results31) ?_;obtain⟨w1,w2⟩:=cu (n:=u) om a6
    have s:J9 q Z (((Z5.new [.int .i64 0,.int .i64 0] (some 29)).upd Z5.n [.int .i64 (qn (u:Int) X),.int .i64 (qd (u:Int) X)]).upd Z.n [str [110,117,109],.int .i64 (qn (u:Int) X),.int .i64 (qd (u:Int) X),str [],.slice none 0 0]) :=
     ((X5.trans (J9.of (.new _ _))).yC om _).yC nL _
    exact⟨_,_,1,1,_,rfl,D.fin s B (by rw[K9 om,K9 om,M9 om,y.A7 om]),s,Ap6,AU5 w1 w2,om,by have:=Nat.one_le_two_pow (n:=a);rw[HG];omega⟩
 ·have g:decide ((a:Int)=0)=false:=by simp;omega
  have G:decide ((C:Int)<4)=false:=by simp;omega
  obtain⟨d,rfl⟩:∃ d,a=d+1:=⟨a-1,om⟩
  have e1:((d+1:Nat):Int)-1=(d:Nat):=om;refine gS1 (aI g (aI G e1)) ?_;have Y:∀ x∈Z.n::H,x<Z.n+1:=fun x hx=>by rcases W1.1 hx with h|h<;>first|omega|(have:=yB x h;omega)
  refine(ih d rfl (H:=Z.n::H) (fun x hx=>by have:=Y x hx;omega) (D.more X1 a0) (SL.I2 hV (Oh X1 p))).mono ?_;rintro r ⟨ra,ea,ka,ma,Z2,rfl,A,f,ha,fa,c4,c6⟩;have s2:=f.n;obtain⟨K,L,M,N,O,rfl⟩:=fc5 ha.to;have X2:J9 q Z Z2:=X1.trans f;refine gS1 e1 ?_;obtain⟨S2,hS2⟩:=nW (((Z2.new [str [],.int .i64 0,.int .i64 0,str [],.slice none 0 0] (some 32)).upd Z2.n [K,L,M,N,O]));rw[hS2];have E2:Ext Z2 S2:=by rw[<- hS2];exact eX
  have d2:S2.n=Z2.n+1:=by rw[<- hS2];rfl
  have b7:S2.A7 Z2.n=some [K,L,M,N,O]:=by rw[<- hS2];exact cL
  have J:J9 q Z S2:=X2.trans (J9.of E2);refine(ih d rfl (H:=Z.n::H) (fun x hx=>by have:=Y x hx;omega) (A.ext E2) (SL.I2 hV (Oh J p))).mono ?_;rintro r ⟨rb,eb,kb,mb,Z3,rfl,i,e,hb,fb,c5,c7⟩;have s3:=e.n;obtain⟨R,S,U,V,W,rfl⟩:=fc5 hb.to;have F:J9 q Z Z3:=J.trans e;have o3:=eT (e.A7 om om) b7;refine gS ?_;obtain⟨S3,hS3⟩:=nW (((Z3.new [str [],.int .i64 0,.int .i64 0,str [],.slice none 0 0] (some 32)).upd Z3.n [R,S,U,V,W]));rw[hS3];have I:Ext Z3 S3:=by rw[<- hS3];exact eX
  have d3:S3.n=Z3.n+1:=by rw[<- hS3];rfl
  have b8:S3.A7 Z3.n=some [R,S,U,V,W]:=by rw[<- hS3];exact cL
  have c0:=eT (I.A7 om) o3;have a9:J9 q Z S3:=F.trans (J9.of I);refine(Rx (n:=6) (i.ext I).new om om).mono ?_;rintro r ⟨x4,Z4,rfl,a8,B,c⟩;have s4:=c.n;simp only[G3]at s4;have X4:J9 q Z Z4:=a9.trans ((J9.of (.new _ _)).trans c);have o4:Z4.A7 Z.n=some [str [],.int .i64 0,.int .i64 0,str [],.slice none 0 0]:=by
   rw[c.A7 (by simp;omega) om,M9 om,I.A7 om,e.A7 om om,E2.A7 om,f.A7 om om];exact o1
  have p4:Z4.A7 Z2.n=some [K,L,M,N,O]:=by rw[c.A7 (by simp;omega) om,M9 om];exact c0
  have r4:Z4.A7 Z3.n=some [R,S,U,V,W]:=by rw[c.A7 (by simp;omega) om,M9 om];exact b8
  have k4:Z4.row S3.n=some [str [43],str [45],str [42],str [47],str [109,105,110],str [109,97,120]]:=eT (c.row (by simp) om) cL;refine gS ?_;refine(iE (n:=(C:Int)+(x4:Int)) (m:=6) (by unfold BN;omega) om om).mono ?_;rintro r rfl;have e6:((C:Int)+(x4:Int)) % 6=(((C+x4) % 6:Nat):Int):=om;obtain⟨o,ho,j⟩:=AU4 (x:=(C+x4) % 6) om;have b9:=A9 p4;have c1:=A9 r4;refine gS1 (aI e6 (aI k4 (aI ho (aI b9 (aI c1 (aI o4 (aI @asR @Tryz.results31))))))) ?_;refine Ct.intro (by simp(disch:=omega) only[O4,G6,G9,asx (Ext.refl _),V6 (b:=Z3.n) c om,V6 (b:=Z2.n) c om,V6 (b:=S3.n) c om];first|done|rfl) ?_
  try(refine gS1 @Tryz.results31 ?_;try exact⟨⟩)
  have s:J9 q Z ((Z4.new [K,L,M,N,O,R,S,U,V,W]).upd Z.n [str o,.int .i64 0,.int .i64 0,str [],.slice (some ⟨Z4.n,0,none⟩) 2 2]):=(X4.trans (J9.of (.new _ _))).yC nL _;have Y3:J9 q Z3 Z4:=(J9.of I).trans ((J9.of (.new _ _)).trans c);have Y2:J9 q Z2 Z4:=(J9.of E2).trans (e.trans Y3);have hX:ExX (N5 ((Z4.new [K,L,M,N,O,R,S,U,V,W]).upd Z.n [str o,.int .i64 0,.int .i64 0,str [],.slice (some ⟨Z4.n,0,none⟩) 2 2]) H) [str o,.int .i64 0,.int .i64 0,str [],.slice (some ⟨Z4.n,0,none⟩) 2 2] (.mk o 0 0 [] [ea,eb]):=by
   refine BE2 (by rw[EY];show Z4.n<Z4.n+1;omega) (by rw[Bx fun h=>by have:=yB _ h;omega];exact cL) rfl (ha.I2 (Uu Y2 p)) (hb.I2 (Uu Y3 p))
  have p2:2 ^ (d+1+1)=2*2 ^ (d+1):=by rw[HG];omega
  rcases j with j|j
  ·exact⟨_,_,_,_,_,rfl,D.fin s B (by rw[K9 om,M9 om]),s,hX,AU6 j fa fb,om,om⟩
  ·exact⟨_,_,_,_,_,rfl,D.fin s B (by rw[K9 om,M9 om]),s,hX,Ap7 j fa fb,om,om⟩
def yE (a:iD nms):∀ deep:Nat,deep<=4->qQ q v vn l nms deep:=by
 intro deep;induction deep with
 |zero=>exact fun h=>Uv a 0 h fun d h=>om
 |succ d c=>exact fun b=>Uv a (d+1) b fun e h=>by cases h;exact c om
end
structure BT5 (T:Tn):Prop where
 right:Iq T
 sm:T.Sm
 nm:T.name.length<=9
 AG:T.AG.length<=3
 G7:T.G7.length<=3
 Dn:∀ c∈T.G7,c.name.length<=9
 reqs:T.reqs.length<=2
 req:∀ r∈T.reqs,r.name.length<=9
 AQ:T.AQ.length<=3
 tie:∀ w∈T.AQ,w.length<=9
 K7:T.K7.length<=2
 combo:∀ c∈T.K7,c.length<=5
 f:∃ k m,FSw k m T.f/\k<=12/\m<=16
section
variable {v:Value}{l:List Int}{τ τ':St}{lo size b:Nat}{B9:List (List Value)}{H0:List Nat}{cs:List Value}
def AQ5:List By:=[[112,114,105,99,101],[108,111,119],[115,112,101,101,100],[99,111,109,102,111,114,116],[119,101,105,103,104,116]]
def vH:iD AQ5:=⟨by decide,by decide,by decide⟩
def GQ (q:Nat) (v:Value) (l:List Int) (τ:St):Prop:=∃ k,k<=l.length/\τ.A7 q=some [v,.int .i64 (k:Nat)]
def GQ.ext {q:Nat}(h:GQ q v l τ) (d:Ext τ τ') (e:q<τ.n):GQ q v l τ':=by
 obtain⟨k,a,c⟩:=h;exact⟨k,a,by rw[d.A7 e];exact c⟩
def GQ.x {p q:Nat}(h:GQ q v l τ) (e:J9 p τ τ') (f:q<τ.n) (a:q≠p):GQ q v l τ':=by
 obtain⟨k,c,d⟩:=h;exact⟨k,c,by rw[e.A7 f a];exact d⟩
def GQ.app {q:Nat}{w w':Value}(h:GQ q v l τ) (d:App τ τ' w w') (g:OL lo τ size w B9) (i:q<τ.n) (f:q<lo):GQ q v l τ':=by
 obtain⟨k,a,c⟩:=h;exact⟨k,a,by rw[F7 (d.same q i fun e=>by have:=(g.blk e).1;omega)];exact c⟩
def ZH {Z:St}{q:Nat}{H:List Nat}(m:BG (N5 Z H0) v l) (a:l.length<=9223372036854775807) (d:Ext Z τ) (g:∀ c∈H,Z.n<=c\/c∈H0) (s:q<τ.n) (i:GQ q v l τ) (o:q∈H):MS H q v l τ:=by
 obtain⟨k,e,f⟩:=i;exact⟨o,⟨k,f,s,e⟩,m.I2 (AZ d.n fun c j r=>⟨fun h=>by rcases g c h with h|h<;>first|omega|exact r h,d.row j⟩),a⟩
def nxg {Z:St}{q:Nat}{n:Int}(s:BG (N5 Z H0) v l) (d:l.length<=9223372036854775807) (e:Ext Z τ) (a:Z.n<=q) (u:q<τ.n) (m:GQ q v l τ) (g:0<n) (i:n<=100000):
  Ev (gO 32 [.pointer (some ⟨q,0,none⟩),.int .i64 n] τ) (fun r=>∃ (x:Nat) (Z':St),r=⟨false,.int .i64 (x:Nat),Z'⟩/\(x:Int)<n/\Ext Z Z'/\GQ q v l Z'/\J9 q τ Z') ⟨⟩:=by
 refine(Rx (ZH (H:=q::H0) s d e (fun c o=>by rcases W1.1 o with rfl|h<;>first|exact .inl a|exact .inr h) u m (by simp)) g i).mono ?_;rintro r ⟨x,Z',rfl,y,j,f⟩;obtain⟨k,r1,A,z⟩:=j.UJ;exact⟨x,Z',rfl,y,f.ext e a,⟨k,z,r1⟩,f⟩
def OL.upd {p:Nat}{Z:St}(h:OL lo Z size v B9) (a:p<lo):OL lo (Z.upd p cs) size v B9:=OL.BX h (J9.refl.upd _) a
structure y8 (q p:Nat) (Z Z':St):Prop where
 n:Z.n<=Z'.n
 same:∀ b,b<Z.n->b≠q->b≠p->Z'.h.get b=Z.h.get b
section
variable {p q:Nat}{Z Z' Z'':St}
def y8.refl:y8 q p Z Z:=⟨Bh _,fun _ _ _ _=>rfl⟩
def y8.of (h:Ext Z Z'):y8 q p Z Z':=⟨h.n,fun b a _ _=>h.same b a⟩
def y8.xq (h:J9 q Z Z'):y8 q p Z Z':=⟨h.n,fun b c a _=>h.same b c a⟩
def y8.xp (h:J9 p Z Z'):y8 q p Z Z':=⟨h.n,fun b c _ a=>h.same b c a⟩
def y8.trans (h:y8 q p Z Z') (k:y8 q p Z' Z''):y8 q p Z Z'':=⟨j9 h.n k.n,fun b d a c=>by rw[k.same b (z5z d h.n) a c,h.same b d a c]⟩
def y8.upd (h:y8 q p Z Z'):y8 q p Z (Z'.upd p cs):=h.trans (.xp (J9.refl.upd _))
def y8.app {v':Value}(d:App Z' Z'' v v') (a:y8 q p Z Z') (i:OL lo Z' size v B9) (j:Z.n<=lo):y8 q p Z Z'' :=
 ⟨j9 a.n d.n,fun c e f g=>by rw[d.same c (z5z e a.n) (fun h=>by have:=(i.blk h).1;omega),a.same c e f g]⟩
def y8.ext {Z0:St}(h:y8 q p Z Z') (a:Ext Z0 Z) (e:Z0.n<=q) (d:Z0.n<=p):Ext Z0 Z':=⟨j9 a.n h.n,fun b c=>by rw[h.same b (z5z c a.n) om om,a.same b c]⟩
def y8.row (h:y8 q p Z Z') (d:b<Z.n) (a:b≠q) (c:b≠p):Z'.row b=Z.row b:=BS (h.same b d a c)
def y8.A7 (h:y8 q p Z Z') (d:b<Z.n) (a:b≠q) (c:b≠p):Z'.A7 b=Z.A7 b:=F7 (h.same b d a c)
def OL.Ei (h:OL lo Z size v B9) (a:y8 q p Z Z') (e:q<lo) (d:p<lo):OL lo Z' size v B9:=by
 refine h.I2 a.n fun b c=>?_;have:=h.blk c;exact a.same b this.2 om om
end
end
end Go.Proofs.T
