/- Ur of Y6, one by one. -/
import Derived.Test.YtgjocfjdecjhoaaGreatDoorRC
import Derived.Test.YtgjocfjdecjhoaaGreatDoorTI
set_option linter.unusedSimpArgs false
set_option linter.unusedVariables false
set_option linter.defProp false
set_option maxHeartbeats 32000000
set_option maxRecDepth 100000
namespace Go.Proofs.T
open Go Go.Ab
section
variable {d n:Int}{s:By}
noncomputable def mP (s:By):Option (Int×Int) :=
 if (Us (CA s).1&& !mQ (CA s).2)=true then
  if (decide (GI (CA s).1<=1000000000)&&decide ((CA s).2.length<=6)&&(decide (GI (CA s).1<1000000000)||decide ((CA s).2=[])))=true then
   some ((JE (GI (CA s).1) (CA s).2 / Nat.gcd (JE (GI (CA s).1) (CA s).2) (10 ^ (CA s).2.length):Nat),(10 ^ (CA s).2.length / Nat.gcd (JE (GI (CA s).1) (CA s).2) (10 ^ (CA s).2.length):Nat))
  else none
 else none
def Ut (h:mP s=some (n,d)) (D7:List Tok) (k p:Nat) (hs:(AZ D7 k).1=s):mR D7 k p= .ok (.mk K9 n d [] [],1,k+1,p+1):=by
 unfold mR;rw[hs];unfold mP at h;split at h
 ·rename_i h1;rw[z1z h1];split at h
  ·rename_i h2;rw[z1z h2];cases h;rfl
  ·cases h
 ·cases h
def AI5 (s:By):Bool:=(!s.isEmpty&&s.all (on O6))||(!(s.takeWhile fun b=>b != 46).isEmpty&&(s.takeWhile fun b=>b != 46).all (on O6)&&decide ((s.dropWhile fun b=>b != 46).take 1=[46])&& !(s.dropWhile fun b=>b != 46).tail.isEmpty&&(s.dropWhile fun b=>b != 46).tail.all (on O6))
def uv (h:AI5 s=true):(∃ c w,s=c::w/\(c::w).all (on O6)=true)\/∃ c w x v,s=c::w++46::x::v/\(c::w).all (on O6)=true/\(x::v).all (on O6)=true:=by
 unfold AI5 at h;rw[Sn]at h;rcases h with h|h
 ·rw[Q7]at h;cases s with
  |nil=>cases h.1
  |cons c w=>exact .inl ⟨c,w,rfl,h.2⟩
 ·have e:=(List.takeWhile_append_dropWhile (p:=fun b:UInt8=>b != 46) (l:=s)).symm;generalize (s.takeWhile fun b=>b != 46)=a at h e;generalize (s.dropWhile fun b=>b != 46)=b at h e;simp only[Q7]at h;obtain⟨⟨⟨⟨h1,h2⟩,h3⟩,h4⟩,h5⟩:=h;cases a with
  |nil=>cases h1
  | cons c w=>
    cases b with
    |nil=>cases h4
    | cons y b=>
      have h3:=z6z h3;cases b with
      |nil=>cases h4
      | cons x v=>
        cases h3;exact .inr ⟨c,w,x,v,e,h2,h5⟩
noncomputable def AI6 (n d:Int):Bool:=decide (-1000000000<n)&&decide (n<=1000000000*d)&&decide (1<=d)&&decide (d<1000000000)&&decide (Int.gcd n d=1)&&decide (0<=n)&&decide ((1000000:Int) % d=0)&&AI5 (deT n d)&&decide (mP (deT n d)=some (n,d))&&decide ((deT n d).length<=7)
def uw (h:AI6 n d=true):MI n d/\(deT n d).length<=7:=by
 unfold AI6 at h;simp only[Q7,Dn]at h;obtain⟨⟨⟨⟨⟨⟨⟨⟨⟨h1,h2⟩,h3⟩,h4⟩,h5⟩,h6⟩,h7⟩,h8⟩,h9⟩,h10⟩:=h;exact⟨⟨⟨h1,h2,h3,h4,h5⟩,h6,h7,uv h8,fun D7 k p hs=>Ut h9 D7 k p hs⟩,h10⟩
def mS:List Int:=[1,2,4,10,100]
def ux:((List.range 30).all fun n=>mS.all fun d=>AI6 (qn n d) (qd n d))=true:=kR
def AI7 {n:Nat}(h:n<30) (hd:d∈mS):MI (qn n d) (qd n d)/\(deT (qn n d) (qd n d)).length<=7 :=
 uw (GJ.1 (GJ.1 ux n (uy.2 h)) d hd)
def uz {x:Nat}(h:(x:Int)<6):∃ d,sub ([.int .i64 1,.int .i64 1,.int .i64 2,.int .i64 4,.int .i64 10,.int .i64 100]:List Value) x 1=some [.int .i64 d]/\d∈mS:=by
 have:x=0\/x=1\/x=2\/x=3\/x=4\/x=5:=om;rcases this with rfl|rfl|rfl|rfl|rfl|rfl
 ·exact⟨1,rfl,by decide⟩
 ·exact⟨1,rfl,by decide⟩
 ·exact⟨2,rfl,by decide⟩
 ·exact⟨4,rfl,by decide⟩
 ·exact⟨10,rfl,by decide⟩
 ·exact⟨100,rfl,by decide⟩
def vA (h:d∈mS):1<=d/\d<=100:=by
 simp only[mS,Y5,FN,Em]at h;omega
end
section
variable {s r o:By}{b:UInt8}{k j m i:Nat}{a:Ex}
def Nd (r:By):Prop:=∀ b l,r=b::l->on O6 b=false
def gb {l:By}(h:on O6 b=false):Nd (b::l):=fun b' l' e=>by cases e;exact h
def xt (h:Nd r) (c:Nat):EM r c=EM r 0:=by
 cases r with
 |nil=>rfl
 |cons b l=>rw[HR,HR,h b l rfl];rfl
def Rp (h:on O6 b=false){c:Nat}:EM (b::r) c=EM r 0:=by
 rw[HR,h];rfl
def dJ (hr:Nd r) (h:EM r 0=true):∀ (s:By) (c:Nat),c+s.length<=18->EM (s++r) c=true:=by
 intro s;induction s with
 |nil=>intro c _;rw[Jb,xt hr];exact h
 | cons b s ih=>
   intro c hc;rw[CE]at hc;rw[Mp,HR];cases on O6 b with
   |false=>exact ih 0 om
   |true=>rw[cond_true,Q7];exact⟨by rw[Nat.ble_eq];omega,ih (c+1) om⟩
def Rs (s:By):Prop:=∀ r,Nd r->EM r 0=true->EM (s++r) 0=true
def Rq (h:s.length<=18):Rs s:=fun r h1 h2=>dJ h1 h2 s 0 om
def WJ (h:on O6 b=false) (hs:Rs s):Rs (b::s):=fun r h1 h2=>by rw[Mp,Rp h];exact hs r h1 h2
def gf (h:on O6 b=false) (hs:Rs s):Rs (s++[b]):=fun r h1 h2=>by
 rw[PI];exact hs _ (gb h) (by show EM (b::r) 0=true;rw[Rp h];exact h2)
def dK {t:By}(h:on O6 b=false) (hs:Rs s) (ht:Rs t):Rs (s++b::t):=fun r h1 h2=>by
 rw[PI,Mp];exact hs _ (gb h) (by rw[Rp h];exact ht r h1 h2)
def WK {b:Bool}(h:Rs s):Rs (par b s):=by
 unfold par;split
 ·exact WJ (by rfl) (gf (by rfl) h)
 ·exact h
def WL {b:Bool}{n:Nat}(h:s.length+2<=n):(par b s).length<=n:=by
 unfold par;split
 ·simp only[CE,Dc,JQ];omega
 ·omega
structure FSw (k m:Nat) (e:Ex):Prop where
 fw:FW k m e
 len:∀ f F8,k<=f->(J8 f F8 e).length<=9*m
 rs:∀ f F8,k<=f->Rs (J8 f F8 e)
def AK8 {n d:Int}(h:MI n d) (hl:(deT n d).length<=7):FSw 1 1 (.mk K9 n d [] []):=by
 refine⟨.num h,fun f F8 hf=>?_,fun f F8 hf=>?_⟩<;>obtain⟨f,rfl⟩:∃ g,f=g+1:=⟨f-1,om⟩<;>unfold J8<;>rw[z1z rfl]
 ·exact WL om
 ·exact WK (Rq om)
def vX {nm:By}(h1:AM nm=true) (h2:nm≠R3) (h3:nm≠R6) (hl:nm.length<=7):FSw 1 1 (.mk nmB 0 0 nm []):=by
 refine⟨.name h1 h2 h3,fun f F8 hf=>?_,fun f F8 hf=>?_⟩<;>obtain⟨f,rfl⟩:∃ g,f=g+1:=⟨f-1,om⟩<;>unfold J8<;>rw[z0z (by decide),z1z rfl]
 ·exact WL om
 ·exact WK (Rq om)
def AK9 {b:Ex}(h:o=[43]\/o=[45]\/o=[42]\/o=[47]) (ha:FSw k m a) (hb:FSw j i b):FSw (1+max k j) (m+i+1) (.mk o 0 0 [] [a,b]):=by
 have hn:o≠K9/\o≠nmB/\¬ (o=R3\/o=R6):=by rcases h with rfl|rfl|rfl|rfl<;>decide
 obtain⟨c,rfl,hc⟩:∃ c,o=[c]/\on O6 c=false:=by rcases h with rfl|rfl|rfl|rfl<;>exact⟨_,rfl,by rfl⟩
 refine⟨.bin h ha.fw hb.fw,fun f F8 hf=>?_,fun f F8 hf=>?_⟩<;>obtain⟨f,rfl⟩:∃ g,f=g+1:=⟨f-1,om⟩<;>unfold J8<;>rw[z0z hn.1,z0z hn.2.1]<;>dsimp only<;>rw[z0z hn.2.2]
 ·have l1:=ha.len f (lvl [c]) om;have l2:=hb.len f (lvl [c]+1) om;refine WL ?_;simp only[CE,Dc,JQ];omega
 ·have l1:=ha.rs f (lvl [c]) om;have l2:=hb.rs f (lvl [c]+1) om;exact WK (dK (by rfl) l1 (WJ hc (WJ (by rfl) l2)))
def Ah1 {b:Ex}(h:o=R3\/o=R6) (ha:FSw k m a) (hb:FSw j i b):FSw (1+max k j) (m+i+1) (.mk o 0 0 [] [a,b]):=by
 have hn:o≠K9/\o≠nmB:=by rcases h with rfl|rfl<;>decide
 have hl:o.length=3:=by rcases h with rfl|rfl<;>rfl
 refine⟨.mm h ha.fw hb.fw,fun f F8 hf=>?_,fun f F8 hf=>?_⟩<;>obtain⟨f,rfl⟩:∃ g,f=g+1:=⟨f-1,om⟩<;>unfold J8<;>rw[z0z hn.1,z0z hn.2]<;>dsimp only<;>rw[z1z h]
 ·have l1:=ha.len f 0 om;have l2:=hb.len f 0 om;refine WL ?_;simp only[CE,Dc,JQ];omega
 ·have l1:=ha.rs f 0 om;have l2:=hb.rs f 0 om;refine WK (dK (by rfl) (Rq om) ?_);exact dK (by rfl) l1 (WJ (by rfl) (gf (by rfl) l2))
end
def AK6 {b:St}:=@asx b b (Ext.refl b)
section
variable {q:Nat}{H H':List Nat}{v vn:Value}{l:List Int}{Z Z' Zm:St}{nms:List By}
def MS.new {cs:List Value}{t:Option Nat}(h:MS H q v l Z):MS H q v l (Z.new cs t):=h.ext (.new _ _)
def V7 {b:Nat}{a a':St}(h:J7 q a a')(hne:b≠q):∀ (bs:List Nat) (i j o n:Nat) (ds:List Ab.Trace),W3 bs i ⟨b,o,n⟩ (.eff j a a'::ds)=W3 bs i ⟨b,o,n⟩ ds:=fun bs i j o n ds=>VY fun hlt=>h.same b hlt hne
structure fX (nms:List By):Prop where
 all:∀ s∈nms,AM s=true/\s≠R3/\s≠R6/\s.length<=7
 pos:0<nms.length
 le:nms.length<=1000
def AK7 {x:Nat}(h:x<6):∃ o,sub ([str [43],str [45],str [42],str [47],str [109,105,110],str [109,97,120]]:List Value) x 1=some [str o]/\((o=[43]\/o=[45]\/o=[42]\/o=[47])\/(o=R3\/o=R6)):=by
 have:x=0\/x=1\/x=2\/x=3\/x=4\/x=5:=om;rcases this with rfl|rfl|rfl|rfl|rfl|rfl
 ·exact⟨_,rfl,.inl (.inl rfl)⟩
 ·exact⟨_,rfl,.inl (.inr (.inl rfl))⟩
 ·exact⟨_,rfl,.inl (.inr (.inr (.inl rfl)))⟩
 ·exact⟨_,rfl,.inl (.inr (.inr (.inr rfl)))⟩
 ·exact⟨_,rfl,.inr (.inl rfl)⟩
 ·exact⟨_,rfl,.inr (.inr rfl)⟩
def MS.fin (h0:MS H q v l Z) (hX:J7 q Z Z') (hm:MS H' q v l Zm) (hr:Z'.A7 q=Zm.A7 q):MS H q v l Z':=by
 obtain⟨k,h1,h2,h3⟩:=hm.Sx;exact⟨h0.mem,⟨k,by rw[hr];exact h1,z5z h0.lt hX.n,h3⟩,h0.arg.H4 (hX.Md h0.mem),h0.len⟩
def Nf (hX:J7 q Z Z') (hq:q∈H):Dr (M8 Z H) (M8 Z' (Z.n::H)) :=
 AQ hX.n fun c hc hm=>⟨fun h=>by rcases Y5.1 h with h|h<;>first|omega|exact hm h,hX.row hc fun e=>hm (e ▸ hq)⟩
def MS.more (h0:MS H q v l Z) (hX:J7 q Z Zm) (hm:MS H' q v l Zm):MS (Z.n::H) q v l Zm :=
 ⟨GA _ h0.mem,hm.Sx,h0.arg.H4 (Nf hX h0.mem),h0.len⟩
def Te {p:Nat}{c1 c2:List Value}(hX:J7 q Z Z') (hq:q∈H):Dr (M8 Z (p::H)) (M8 ((Z'.new c1).upd p c2) H):=by
 have hn:=hX.n;refine AQ (by show Z.n<=Z'.n+1;omega) fun c hc hm=>?_;have h1:c∉H:=fun h=>hm (GA _ h);have h2:c≠p:=fun h=>hm (by simp[h]);exact⟨h1,by rw[AX h2,CI om,hX.row hc fun e=>h1 (e ▸ hq)]⟩
def Ag9 (H:List Nat) (q:Nat) (v:Value) (l:List Int) (deep:Nat) (Z:St) (r:CR):Prop:=∃ row e k m Z',r=⟨false,.agg ⟨row⟩,Z'⟩/\MS H q v l Z'/\J7 q Z Z'/\ExX (M8 Z' H) row e/\FSw k m e/\k<=deep+1/\m+1<=2 ^ (deep+1)
def ns (q:Nat) (v vn:Value) (l:List Int) (nms:List By) (deep:Nat):Prop:=∀ {Z:St}{H:List Nat},(∀ x∈H,x<Z.n)->MS H q v l Z->SL (M8 Z H) 1 vn (nms.map fun s=>[str s]) ->
  Ev (gO 31 [.pointer (some ⟨q,0,none⟩),.int .i64 (deep:Nat),vn] Z) (Ag9 H q v l deep Z) ⟨⟩
def Tf (hN:fX nms) (deep:Nat) (hd:deep<=4) (ih:∀ d,d+1=deep->ns q v vn l nms d):ns q v vn l nms deep:=by
 intro Z H vV hM hV;have hq:=hM.lt;have hqH:=hM.mem;obtain⟨na,nc,nb,no,ncs,rfl,n1,n2⟩:=SL.LD hV;obtain⟨nsp,rfl,n3,n4⟩:=n1 hN.pos;rw[EG]at n3;have nH:nb∉H:=fun hb=>by rw[Ja hb]at n4;cases n4
 have nq:nb≠q:=fun h=>nH (h ▸ hqH);rw[Bn nH]at n4;refine C9 Tryz.func31 rfl rfl ?_;refine gS ?_;refine(Qm (n:=9) hM.new om om).mono ?_;rintro r ⟨x1,Z1,rfl,hx1,hM1,hX1⟩;have s1:=hX1.n;simp only[F6]at s1;have X1:J7 q Z Z1:=(J7.of (.new _ _)).trans hX1;have o1:Z1.A7 Z.n=some [str [],.int .i64 0,.int .i64 0,str [],.slice none 0 0]:=eT (hX1.A7 (by simp) om) cL;by_cases leaf:deep=0\/x1<4
 ·have hc:(decide ((deep:Int)=0)=true)\/(decide ((deep:Int)=0)=false/\decide ((x1:Int)<4)=true):=by
   by_cases d0:deep=0
   ·exact .inl (by simp[d0])
   ·exact .inr ⟨by simp [d0],by have:x1<4:=om
                                simp;omega⟩
  obtain⟨z,⟨d0,d1⟩|⟨d0,d1⟩⟩:∃ z:Int,(decide ((deep:Int)=0)=true/\decide (z<4)=true)\/(decide ((deep:Int)=0)=false/\decide ((x1:Int)<4)=true):=by
   rcases hc with d0|⟨d0,d1⟩
   ·exact⟨0,.inl ⟨d0,rfl⟩⟩
   ·exact⟨0,.inr ⟨d0,d1⟩⟩
  all_goals
   refine gS1 (aI d0 d1) ?_;refine(Qm (n:=2) hM1 om om).mono ?_;rintro r ⟨x2,Z2,rfl,hx2,hM2,hX2⟩;have s2:=hX2.n;have X2:J7 q Z Z2:=X1.trans hX2;have o2:=eT (hX2.A7 om om) o1;by_cases z2:x2=0
   ·have c2:decide ((x2:Int)=0)=true:=by simp[z2]
    refine gS1 c2 ?_;refine(Qm (n:=(nms.length:Nat)) hM2 (by have:=hN.pos;omega) (by have:=hN.le;omega)).mono ?_;rintro r ⟨x3,Z3,rfl,hx3,hM3,hX3⟩;have s3:=hX3.n;have X3:J7 q Z Z3:=X2.trans hX3;have o3:=eT (hX3.A7 om om) o2;have m3:=eT (X3.row om nq) n4;obtain⟨nm,hnm⟩:=H5 (l:=nms) (k:=x3) om;have hs:sub ncs (no+x3) 1=some [str nm]:=by have:=n2 x3 nm hnm;simpa using this
    refine gS1 (aI m3 (aI hs (aI o3 @Tryz.results31))) ?_;have XF:J7 q Z (Z3.upd Z.n [str [110,97,109,101],.int .i64 0,.int .i64 0,str nm,.slice none 0 0]):=X3.vW nL _;obtain⟨w1,w2,w3,w4⟩:=hN.all nm (Bs hnm);exact⟨_,_,1,1,_,rfl,hM.fin XF hM3 (by rw[K0 om]),XF,Ah0,vX w1 w2 w3 w4,om,by have:=Nat.one_le_two_pow (n:=deep);rw[Hr];omega⟩
   ·have c2:decide ((x2:Int)=0)=false:=by simp[z2]
    refine gS1 c2 ?_;refine(Qm (n:=30) hM2 om om).mono ?_;rintro r ⟨x3,Z3,rfl,hx3,hM3,hX3⟩;have s3:=hX3.n;have X3:J7 q Z Z3:=X2.trans hX3;have o3:=eT (hX3.A7 om om) o2;refine gS ?_;refine(Qm (n:=6) hM3.new om om).mono ?_;rintro r ⟨x4,Z4,rfl,hx4,hM4,hX4⟩;have s4:=hX4.n;simp only[F6]at s4;have X4:J7 q Z Z4:=X3.trans ((J7.of (.new _ _)).trans hX4);have o4:Z4.A7 Z.n=some [str [],.int .i64 0,.int .i64 0,str [],.slice none 0 0]:=by rw[hX4.A7 (by simp;omega) om,M4 om];exact o3
    have k4:Z4.row Z3.n=some [.int .i64 1,.int .i64 1,.int .i64 2,.int .i64 4,.int .i64 10,.int .i64 100]:=eT (hX4.row (by simp) om) cL;obtain⟨dd,ix,hdd⟩:=uz hx4;obtain⟨dd1,BL2⟩:=vA hdd;refine gS1 (aI k4 ix) ?_;refine(nt (n:=(x3:Int)) (d:=dd) om om om om om).mono ?_;rintro r ⟨Z5,rfl,hE5⟩;have s5:=hE5.n;have X5:J7 q Z Z5:=X4.trans (J7.of hE5);have o5:=eT (hE5.A7 om) o4;refine gS1 (aI o5 @Tryz.results31) ?_;obtain⟨w1,w2⟩:=AI7 (n:=x3) om hdd
    have XF:J7 q Z (((Z5.new [.int .i64 0,.int .i64 0] (some 29)).upd Z5.n [.int .i64 (qn (x3:Int) dd),.int .i64 (qd (x3:Int) dd)]).upd Z.n [str [110,117,109],.int .i64 (qn (x3:Int) dd),.int .i64 (qd (x3:Int) dd),str [],.slice none 0 0]) :=
     ((X5.trans (J7.of (.new _ _))).vW om _).vW nL _
    exact⟨_,_,1,1,_,rfl,hM.fin XF hM4 (by rw[K0 om,K0 om,M4 om,hE5.A7 om]),XF,Ah0,AK8 w1 w2,om,by have:=Nat.one_le_two_pow (n:=deep);rw[Hr];omega⟩
 ·have d0:decide ((deep:Int)=0)=false:=by simp;omega
  have d1:decide ((x1:Int)<4)=false:=by simp;omega
  obtain⟨d,rfl⟩:∃ d,deep=d+1:=⟨deep-1,om⟩
  have e1:((d+1:Nat):Int)-1=(d:Nat):=om;refine gS1 (aI d0 (aI d1 e1)) ?_;have hH1:∀ x∈Z.n::H,x<Z.n+1:=fun x hx=>by rcases Y5.1 hx with h|h<;>first|omega|(have:=vV x h;omega)
  refine(ih d rfl (H:=Z.n::H) (fun x hx=>by have:=hH1 x hx;omega) (hM.more X1 hM1) (SL.H4 hV (Nf X1 hqH))).mono ?_;rintro r ⟨ra,ea,ka,ma,Z2,rfl,hM2,hX2,ha,fa,hka,hma⟩;have s2:=hX2.n;obtain⟨a1,a2,a3,a4,a5,rfl⟩:=fc5 ha.to;have X2:J7 q Z Z2:=X1.trans hX2;refine gS1 e1 ?_;obtain⟨S2,hS2⟩:=nm (((Z2.new [str [],.int .i64 0,.int .i64 0,str [],.slice none 0 0] (some 32)).upd Z2.n [a1,a2,a3,a4,a5]));rw[hS2];have E2:Ext Z2 S2:=by rw[<- hS2];exact eX
  have nS2:S2.n=Z2.n+1:=by rw[<- hS2];rfl
  have oS2:S2.A7 Z2.n=some [a1,a2,a3,a4,a5]:=by rw[<- hS2];exact cL
  have XS2:J7 q Z S2:=X2.trans (J7.of E2);refine(ih d rfl (H:=Z.n::H) (fun x hx=>by have:=hH1 x hx;omega) (hM2.ext E2) (SL.H4 hV (Nf XS2 hqH))).mono ?_;rintro r ⟨rb,eb,kb,mb,Z3,rfl,hM3,hX3,hb,fb,hkb,hmb⟩;have s3:=hX3.n;obtain⟨b1,b2,b3,b4,b5,rfl⟩:=fc5 hb.to;have X3:J7 q Z Z3:=XS2.trans hX3;have o3:=eT (hX3.A7 om om) oS2;refine gS ?_;obtain⟨S3,hS3⟩:=nm (((Z3.new [str [],.int .i64 0,.int .i64 0,str [],.slice none 0 0] (some 32)).upd Z3.n [b1,b2,b3,b4,b5]));rw[hS3];have E3:Ext Z3 S3:=by rw[<- hS3];exact eX
  have nS3:S3.n=Z3.n+1:=by rw[<- hS3];rfl
  have oS3:S3.A7 Z3.n=some [b1,b2,b3,b4,b5]:=by rw[<- hS3];exact cL
  have pS3:=eT (E3.A7 om) o3;have XS3:J7 q Z S3:=X3.trans (J7.of E3);refine(Qm (n:=6) (hM3.ext E3).new om om).mono ?_;rintro r ⟨x4,Z4,rfl,hx4,hM4,hX4⟩;have s4:=hX4.n;simp only[F6]at s4;have X4:J7 q Z Z4:=XS3.trans ((J7.of (.new _ _)).trans hX4);have o4:Z4.A7 Z.n=some [str [],.int .i64 0,.int .i64 0,str [],.slice none 0 0]:=by
   rw[hX4.A7 (by simp;omega) om,M4 om,E3.A7 om,hX3.A7 om om,E2.A7 om,hX2.A7 om om];exact o1
  have p4:Z4.A7 Z2.n=some [a1,a2,a3,a4,a5]:=by rw[hX4.A7 (by simp;omega) om,M4 om];exact pS3
  have r4:Z4.A7 Z3.n=some [b1,b2,b3,b4,b5]:=by rw[hX4.A7 (by simp;omega) om,M4 om];exact oS3
  have k4:Z4.row S3.n=some [str [43],str [45],str [42],str [47],str [109,105,110],str [109,97,120]]:=eT (hX4.row (by simp) om) cL;refine gS ?_;refine(fY (n:=(x1:Int)+(x4:Int)) (m:=6) (by unfold Bk;omega) om om).mono ?_;rintro r rfl;have e6:((x1:Int)+(x4:Int)) % 6=(((x1+x4) % 6:Nat):Int):=om;obtain⟨o,ho,hop⟩:=AK7 (x:=(x1+x4) % 6) om;have p4r:=A9 p4;have r4r:=A9 r4;refine gS1 (aI e6 (aI k4 (aI ho (aI p4r (aI r4r (aI o4 (aI @AK6 @Tryz.results31))))))) ?_;refine Ca.intro (by simp(disch:=omega) only[M9,G3,G8,asx (Ext.refl _),V7 (b:=Z3.n) hX4 om,V7 (b:=Z2.n) hX4 om,V7 (b:=S3.n) hX4 om];first|done|rfl) ?_
  try(refine gS1 @Tryz.results31 ?_;try exact⟨⟩)
  have XF:J7 q Z ((Z4.new [a1,a2,a3,a4,a5,b1,b2,b3,b4,b5]).upd Z.n [str o,.int .i64 0,.int .i64 0,str [],.slice (some ⟨Z4.n,0,none⟩) 2 2]):=(X4.trans (J7.of (.new _ _))).vW nL _;have Y3:J7 q Z3 Z4:=(J7.of E3).trans ((J7.of (.new _ _)).trans hX4);have Y2:J7 q Z2 Z4:=(J7.of E2).trans (hX3.trans Y3);have hX:ExX (M8 ((Z4.new [a1,a2,a3,a4,a5,b1,b2,b3,b4,b5]).upd Z.n [str o,.int .i64 0,.int .i64 0,str [],.slice (some ⟨Z4.n,0,none⟩) 2 2]) H) [str o,.int .i64 0,.int .i64 0,str [],.slice (some ⟨Z4.n,0,none⟩) 2 2] (.mk o 0 0 [] [ea,eb]):=by
   refine Av2 (by rw[EG];show Z4.n<Z4.n+1;omega) (by rw[Bn fun h=>by have:=vV _ h;omega];exact cL) rfl (ha.H4 (Te Y2 hqH)) (hb.H4 (Te Y3 hqH))
  have p2:2 ^ (d+1+1)=2*2 ^ (d+1):=by rw[Hr];omega
  rcases hop with hop|hop
  ·exact⟨_,_,_,_,_,rfl,hM.fin XF hM4 (by rw[K0 om,M4 om]),XF,hX,AK9 hop fa fb,om,om⟩
  ·exact⟨_,_,_,_,_,rfl,hM.fin XF hM4 (by rw[K0 om,M4 om]),XF,hX,Ah1 hop fa fb,om,om⟩
def vY (hN:fX nms):∀ deep:Nat,deep<=4->ns q v vn l nms deep:=by
 intro deep;induction deep with
 |zero=>exact fun h=>Tf hN 0 h fun d h=>om
 |succ d ih=>exact fun hd=>Tf hN (d+1) hd fun d' h=>by cases h;exact ih om
end
structure BK8 (T:Tn):Prop where
 right:IG T
 sm:T.Sm
 nm:T.name.length<=9
 u9:T.u9.length<=3
 G9:T.G9.length<=3
 Du:∀ c∈T.G9,c.name.length<=9
 reqs:T.reqs.length<=2
 req:∀ r∈T.reqs,r.name.length<=9
 AJ:T.AJ.length<=3
 tie:∀ w∈T.AJ,w.length<=9
 J9:T.J9.length<=2
 combo:∀ c∈T.J9,c.length<=5
 f:∃ k m,FSw k m T.f/\k<=12/\m<=16
section
variable {v:Value}{l:List Int}{τ τ':St}{lo size b:Nat}{B9:List (List Value)}{H0:List Nat}{cs:List Value}
def Zi:List By:=[[112,114,105,99,101],[108,111,119],[115,112,101,101,100],[99,111,109,102,111,114,116],[119,101,105,103,104,116]]
def Zk:fX Zi:=⟨by decide,by decide,by decide⟩
def GQ (q:Nat) (v:Value) (l:List Int) (τ:St):Prop:=∃ k,k<=l.length/\τ.A7 q=some [v,.int .i64 (k:Nat)]
def GQ.ext {q:Nat}(h:GQ q v l τ) (hE:Ext τ τ') (hq:q<τ.n):GQ q v l τ':=by
 obtain⟨k,h1,h2⟩:=h;exact⟨k,h1,by rw[hE.A7 hq];exact h2⟩
def GQ.x {p q:Nat}(h:GQ q v l τ) (hE:J7 p τ τ') (hq:q<τ.n) (hne:q≠p):GQ q v l τ':=by
 obtain⟨k,h1,h2⟩:=h;exact⟨k,h1,by rw[hE.A7 hq hne];exact h2⟩
def GQ.app {q:Nat}{w w':Value}(h:GQ q v l τ) (hA:App τ τ' w w') (ho:OL lo τ size w B9) (hq:q<τ.n) (hlo:q<lo):GQ q v l τ':=by
 obtain⟨k,h1,h2⟩:=h;exact⟨k,h1,by rw[D6 (hA.same q hq fun hb=>by have:=(ho.blk hb).1;omega)];exact h2⟩
def ZT {Z:St}{q:Nat}{H:List Nat}(hl:Aw (M8 Z H0) v l) (hll:l.length<=9223372036854775807) (hE:Ext Z τ) (hH:∀ c∈H,Z.n<=c\/c∈H0) (hq:q<τ.n) (hQ:GQ q v l τ) (hm:q∈H):MS H q v l τ:=by
 obtain⟨k,h1,h2⟩:=hQ;exact⟨hm,⟨k,h2,hq,h1⟩,hl.H4 (AQ hE.n fun c hc hn=>⟨fun h=>by rcases hH c h with h|h<;>first|omega|exact hn h,hE.row hc⟩),hll⟩
def nxg {Z:St}{q:Nat}{n:Int}(hl:Aw (M8 Z H0) v l) (hll:l.length<=9223372036854775807) (hE:Ext Z τ) (hq0:Z.n<=q) (hq:q<τ.n) (hQ:GQ q v l τ) (h1:0<n) (h2:n<=100000):
  Ev (gO 32 [.pointer (some ⟨q,0,none⟩),.int .i64 n] τ) (fun r=>∃ (x:Nat) (Z':St),r=⟨false,.int .i64 (x:Nat),Z'⟩/\(x:Int)<n/\Ext Z Z'/\GQ q v l Z'/\J7 q τ Z') ⟨⟩:=by
 refine(Qm (ZT (H:=q::H0) hl hll hE (fun c hc=>by rcases Y5.1 hc with rfl|h<;>first|exact .inl hq0|exact .inr h) hq hQ (by simp)) h1 h2).mono ?_;rintro r ⟨x,Z',rfl,hx,hM,hX⟩;obtain⟨k,r1,r2,r3⟩:=hM.Sx;exact⟨x,Z',rfl,hx,hX.ext hE hq0,⟨k,r3,r1⟩,hX⟩
def OL.upd {p:Nat}{Z:St}(h:OL lo Z size v B9) (hp:p<lo):OL lo (Z.upd p cs) size v B9:=OL.BN h (J7.refl.upd _) hp
structure Y9 (q p:Nat) (Z Z':St):Prop where
 n:Z.n<=Z'.n
 same:∀ b,b<Z.n->b≠q->b≠p->Z'.h.get b=Z.h.get b
section
variable {p q:Nat}{Z Z' Z'':St}
def Y9.refl:Y9 q p Z Z:=⟨BF _,fun _ _ _ _=>rfl⟩
def Y9.of (h:Ext Z Z'):Y9 q p Z Z':=⟨h.n,fun b hb _ _=>h.same b hb⟩
def Y9.xq (h:J7 q Z Z'):Y9 q p Z Z':=⟨h.n,fun b hb h1 _=>h.same b hb h1⟩
def Y9.xp (h:J7 p Z Z'):Y9 q p Z Z':=⟨h.n,fun b hb _ h2=>h.same b hb h2⟩
def Y9.trans (h:Y9 q p Z Z') (k:Y9 q p Z' Z''):Y9 q p Z Z'':=⟨AV h.n k.n,fun b hb h1 h2=>by rw[k.same b (z5z hb h.n) h1 h2,h.same b hb h1 h2]⟩
def Y9.upd (h:Y9 q p Z Z'):Y9 q p Z (Z'.upd p cs):=h.trans (.xp (J7.refl.upd _))
def Y9.app {v':Value}(hA:App Z' Z'' v v') (hE:Y9 q p Z Z') (hl:OL lo Z' size v B9) (hlo:Z.n<=lo):Y9 q p Z Z'' :=
 ⟨AV hE.n hA.n,fun c hc h1 h2=>by rw[hA.same c (z5z hc hE.n) (fun hb=>by have:=(hl.blk hb).1;omega),hE.same c hc h1 h2]⟩
def Y9.ext {Z0:St}(h:Y9 q p Z Z') (h0:Ext Z0 Z) (hq:Z0.n<=q) (hp:Z0.n<=p):Ext Z0 Z':=⟨AV h0.n h.n,fun b hb=>by rw[h.same b (z5z hb h0.n) om om,h0.same b hb]⟩
def Y9.row (h:Y9 q p Z Z') (hb:b<Z.n) (h1:b≠q) (h2:b≠p):Z'.row b=Z.row b:=AR (h.same b hb h1 h2)
def Y9.A7 (h:Y9 q p Z Z') (hb:b<Z.n) (h1:b≠q) (h2:b≠p):Z'.A7 b=Z.A7 b:=D6 (h.same b hb h1 h2)
def OL.EP (h:OL lo Z size v B9) (hE:Y9 q p Z Z') (hq:q<lo) (hp:p<lo):OL lo Z' size v B9:=by
 refine h.H4 hE.n fun b hb=>?_;have:=h.blk hb;exact hE.same b this.2 om om
end
end
end Go.Proofs.T
