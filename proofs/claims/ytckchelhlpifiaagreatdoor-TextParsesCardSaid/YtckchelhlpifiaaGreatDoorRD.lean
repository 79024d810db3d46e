/- UC of BN, one by one. -/
import Derived.Test.YtckchelhlpifiaaGreatDoorRC
import Derived.Test.YtckchelhlpifiaaGreatDoorTI
set_option linter.unusedSimpArgs false
set_option linter.unusedVariables false
set_option linter.defProp false
set_option maxHeartbeats 32000000
set_option maxRecDepth 100000
namespace Go.Proofs.T
open Go Go.Ab
section
variable {d n:Int}{s:By}
noncomputable def lN (s:By):Option (Int×Int) :=
 if (Fl (An s).1&& !Ou (An s).2)=true then
  if (decide (T6 (An s).1<=1000000000)&&decide ((An s).2.length<=6)&&(decide (T6 (An s).1<1000000000)||decide ((An s).2=[])))=true then
   some ((W7 (T6 (An s).1) (An s).2 / Nat.gcd (W7 (T6 (An s).1) (An s).2) (10 ^ (An s).2.length):Nat),(10 ^ (An s).2.length / Nat.gcd (W7 (T6 (An s).1) (An s).2) (10 ^ (An s).2.length):Nat))
  else none
 else none
def UD (h:lN s=some (n,d)) (A1:List Tok) (k p:Nat) (hs:(A9 A1 k).1=s):Lx A1 k p= .ok (.mk CJ n d [] [],1,k+1,p+1):=by
 unfold Lx;rw[hs];unfold lN at h;split at h
 ·rename_i h1;rw[z1z h1];split at h
  ·rename_i h2;rw[z1z h2];cases h;rfl
  ·cases h
 ·cases h
def AB2 (s:By):Bool:=(!s.isEmpty&&s.all (on F0))||(!(s.takeWhile fun b=>b != 46).isEmpty&&(s.takeWhile fun b=>b != 46).all (on F0)&&decide ((s.dropWhile fun b=>b != 46).take 1=[46])&& !(s.dropWhile fun b=>b != 46).tail.isEmpty&&(s.dropWhile fun b=>b != 46).tail.all (on F0))
def se (h:AB2 s=true):(∃ c w,s=c::w/\(c::w).all (on F0)=true)\/∃ c w x v,s=c::w++46::x::v/\(c::w).all (on F0)=true/\(x::v).all (on F0)=true:=by
 unfold AB2 at h;rw[IJ]at h;rcases h with h|h
 ·rw[y6]at h;cases s with
  |nil=>cases h.1
  |cons c w=>exact .inl ⟨c,w,rfl,h.2⟩
 ·have e:=(List.takeWhile_append_dropWhile (p:=fun b:UInt8=>b != 46) (l:=s)).symm;generalize (s.takeWhile fun b=>b != 46)=a at h e;generalize (s.dropWhile fun b=>b != 46)=b at h e;simp only[y6]at h;obtain⟨⟨⟨⟨h1,h2⟩,h3⟩,h4⟩,h5⟩:=h;cases a with
  |nil=>cases h1
  | cons c w=>
    cases b with
    |nil=>cases h4
    | cons y b=>
      have h3:=z6z h3;cases b with
      |nil=>cases h4
      | cons x v=>
        cases h3;exact .inr ⟨c,w,x,v,e,h2,h5⟩
noncomputable def AB3 (n d:Int):Bool:=decide (-1000000000<n)&&decide (n<=1000000000*d)&&decide (1<=d)&&decide (d<1000000000)&&decide (Int.gcd n d=1)&&decide (0<=n)&&decide ((1000000:Int) % d=0)&&AB2 (deT n d)&&decide (lN (deT n d)=some (n,d))&&decide ((deT n d).length<=7)
def sf (h:AB3 n d=true):Ni n d/\(deT n d).length<=7:=by
 unfold AB3 at h;simp only[y6,IK]at h;obtain⟨⟨⟨⟨⟨⟨⟨⟨⟨h1,h2⟩,h3⟩,h4⟩,h5⟩,h6⟩,h7⟩,h8⟩,h9⟩,h10⟩:=h;exact⟨⟨⟨h1,h2,h3,h4,h5⟩,h6,h7,se h8,fun A1 k p hs=>UD h9 A1 k p hs⟩,h10⟩
def lO:List Int:=[1,2,4,10,100]
def sh:((List.range 30).all fun n=>lO.all fun d=>AB3 (qn n d) (qd n d))=true:=kR
def AB4 {n:Nat}(h:n<30) (hd:d∈lO):Ni (qn n d) (qd n d)/\(deT (qn n d) (qd n d)).length<=7 :=
 sf (HA.1 (HA.1 sh n (ZU.2 h)) d hd)
def si {x:Nat}(h:(x:Int)<6):∃ d,sub ([.int .i64 1,.int .i64 1,.int .i64 2,.int .i64 4,.int .i64 10,.int .i64 100]:List Value) x 1=some [.int .i64 d]/\d∈lO:=by
 have:x=0\/x=1\/x=2\/x=3\/x=4\/x=5:=om;rcases this with rfl|rfl|rfl|rfl|rfl|rfl
 ·exact⟨1,rfl,by decide⟩
 ·exact⟨1,rfl,by decide⟩
 ·exact⟨2,rfl,by decide⟩
 ·exact⟨4,rfl,by decide⟩
 ·exact⟨10,rfl,by decide⟩
 ·exact⟨100,rfl,by decide⟩
def sj (h:d∈lO):1<=d/\d<=100:=by
 simp only[lO,BJ,LA,Ly]at h;omega
end
section
variable {s r o:By}{b:UInt8}{k j m i:Nat}{a:Ex}
def Nd (r:By):Prop:=∀ b l,r=b::l->on F0 b=false
def ei {l:By}(h:on F0 b=false):Nd (b::l):=fun b' l' e=>by cases e;exact h
def AC4:Nd []:=fun b l e=>by cases e
def vm (h:Nd r) (c:Nat):Cx r c=Cx r 0:=by
 cases r with
 |nil=>rfl
 |cons b l=>rw[HR,HR,h b l rfl];rfl
def Qn (h:on F0 b=false){c:Nat}:Cx (b::r) c=Cx r 0:=by
 rw[HR,h];rfl
def bB (hr:Nd r) (h:Cx r 0=true):∀ (s:By) (c:Nat),c+s.length<=18->Cx (s++r) c=true:=by
 intro s;induction s with
 |nil=>intro c _;rw[Mz,vm hr];exact h
 | cons b s ih=>
   intro c hc;rw[Ah]at hc;rw[OO,HR];cases on F0 b with
   |false=>exact ih 0 om
   |true=>rw[cond_true,y6];exact⟨by rw[Nat.ble_eq];omega,ih (c+1) om⟩
def Rs (s:By):Prop:=∀ r,Nd r->Cx r 0=true->Cx (s++r) 0=true
def JV (h:s.length<=18):Rs s:=fun r h1 h2=>bB h1 h2 s 0 om
def Uw (h:on F0 b=false) (hs:Rs s):Rs (b::s):=fun r h1 h2=>by rw[OO,Qn h];exact hs r h1 h2
def ej (h:on F0 b=false) (hs:Rs s):Rs (s++[b]):=fun r h1 h2=>by
 rw[Ky];exact hs _ (ei h) (by show Cx (b::r) 0=true;rw[Qn h];exact h2)
def NI {t:By}(h:on F0 b=false) (hs:Rs s) (ht:Rs t):Rs (s++b::t):=fun r h1 h2=>by
 rw[Ky,OO];exact hs _ (ei h) (by rw[Qn h];exact ht r h1 h2)
def mD:Rs []:=fun r _ h=>h
def Ux {b:Bool}(h:Rs s):Rs (par b s):=by
 unfold par;split
 ·exact Uw (by rfl) (ej (by rfl) h)
 ·exact h
def Uy {b:Bool}{n:Nat}(h:s.length+2<=n):(par b s).length<=n:=by
 unfold par;split
 ·simp only[Ah,BD,JH];omega
 ·omega
structure FSw (k m:Nat) (e:Ex):Prop where
 fw:FW k m e
 len:∀ f I3,k<=f->(Az f I3 e).length<=9*m
 rs:∀ f I3,k<=f->Rs (Az f I3 e)
def AE5 {n d:Int}(h:Ni n d) (hl:(deT n d).length<=7):FSw 1 1 (.mk CJ n d [] []):=by
 refine⟨.num h,fun f I3 hf=>?_,fun f I3 hf=>?_⟩<;>obtain⟨f,rfl⟩:∃ g,f=g+1:=⟨f-1,om⟩<;>unfold Az<;>rw[z1z rfl]
 ·exact Uy om
 ·exact Ux (JV om)
def tW {nm:By}(h1:BB nm=true) (h2:nm≠GJ) (h3:nm≠HC) (hl:nm.length<=7):FSw 1 1 (.mk nmB 0 0 nm []):=by
 refine⟨.name h1 h2 h3,fun f I3 hf=>?_,fun f I3 hf=>?_⟩<;>obtain⟨f,rfl⟩:∃ g,f=g+1:=⟨f-1,om⟩<;>unfold Az<;>rw[z0z (by decide),z1z rfl]
 ·exact Uy om
 ·exact Ux (JV om)
def AE6 {b:Ex}(h:o=[43]\/o=[45]\/o=[42]\/o=[47]) (ha:FSw k m a) (hb:FSw j i b):FSw (1+max k j) (m+i+1) (.mk o 0 0 [] [a,b]):=by
 have hn:o≠CJ/\o≠nmB/\¬ (o=GJ\/o=HC):=by rcases h with rfl|rfl|rfl|rfl<;>decide
 obtain⟨c,rfl,hc⟩:∃ c,o=[c]/\on F0 c=false:=by rcases h with rfl|rfl|rfl|rfl<;>exact⟨_,rfl,by rfl⟩
 refine⟨.bin h ha.fw hb.fw,fun f I3 hf=>?_,fun f I3 hf=>?_⟩<;>obtain⟨f,rfl⟩:∃ g,f=g+1:=⟨f-1,om⟩<;>unfold Az<;>rw[z0z hn.1,z0z hn.2.1]<;>dsimp only<;>rw[z0z hn.2.2]
 ·have l1:=ha.len f (lvl [c]) om;have l2:=hb.len f (lvl [c]+1) om;refine Uy ?_;simp only[Ah,BD,JH];omega
 ·have l1:=ha.rs f (lvl [c]) om;have l2:=hb.rs f (lvl [c]+1) om;exact Ux (NI (by rfl) l1 (Uw hc (Uw (by rfl) l2)))
def AY4 {b:Ex}(h:o=GJ\/o=HC) (ha:FSw k m a) (hb:FSw j i b):FSw (1+max k j) (m+i+1) (.mk o 0 0 [] [a,b]):=by
 have hn:o≠CJ/\o≠nmB:=by rcases h with rfl|rfl<;>decide
 have hl:o.length=3:=by rcases h with rfl|rfl<;>rfl
 refine⟨.mm h ha.fw hb.fw,fun f I3 hf=>?_,fun f I3 hf=>?_⟩<;>obtain⟨f,rfl⟩:∃ g,f=g+1:=⟨f-1,om⟩<;>unfold Az<;>rw[z0z hn.1,z0z hn.2]<;>dsimp only<;>rw[z1z h]
 ·have l1:=ha.len f 0 om;have l2:=hb.len f 0 om;refine Uy ?_;simp only[Ah,BD,JH];omega
 ·have l1:=ha.rs f 0 om;have l2:=hb.rs f 0 om;refine Ux (NI (by rfl) (JV om) ?_);exact NI (by rfl) l1 (Uw (by rfl) (ej (by rfl) l2))
end
end Go.Proofs.T
namespace Go.Proofs.T
open Go Go.Ab
open Nat (reduceMul reduceEqDiff reduceAdd)
theorem MS.new {H:List Nat}{q:Nat}{v:Value}{l:List Int}{Z:St}{cs:List Value}{t:Option Nat}(h:MS H q v l Z):MS H q v l (Z.new cs t):=h.ext (.new _ _)
theorem S7 {b q:Nat}{a a':St}(h:B9 q a a')(hne:b≠q):∀ (bs:List Nat) (i j o n:Nat) (ds:List Ab.Trace),K1 bs i ⟨b,o,n⟩ (.eff j a a'::ds)=K1 bs i ⟨b,o,n⟩ ds:=fun bs i j o n ds=>LU fun hlt=>h.same b hlt hne
structure me (nms:List By):Prop where
 all:∀ s∈nms,BB s=true/\s≠GJ/\s≠HC/\s.length<=7
 pos:0<nms.length
 le:nms.length<=1000
theorem AE4 {x:Nat}(h:x<6):∃ o,sub ([str [43],str [45],str [42],str [47],str [109,105,110],str [109,97,120]]:List Value) x 1=some [str o]/\((o=[43]\/o=[45]\/o=[42]\/o=[47])\/(o=GJ\/o=HC)):=by
 have:x=0\/x=1\/x=2\/x=3\/x=4\/x=5:=om;rcases this with rfl|rfl|rfl|rfl|rfl|rfl
 ·exact⟨_,rfl,.inl (.inl rfl)⟩
 ·exact⟨_,rfl,.inl (.inr (.inl rfl))⟩
 ·exact⟨_,rfl,.inl (.inr (.inr (.inl rfl)))⟩
 ·exact⟨_,rfl,.inl (.inr (.inr (.inr rfl)))⟩
 ·exact⟨_,rfl,.inr (.inl rfl)⟩
 ·exact⟨_,rfl,.inr (.inr rfl)⟩
theorem MS.fin {H H':List Nat}{q:Nat}{v:Value}{l:List Int}{Z Zm Z':St}(h0:MS H q v l Z) (hX:B9 q Z Z') (hm:MS H' q v l Zm) (hr:Z'.A7 q=Zm.A7 q):MS H q v l Z':=by
 obtain⟨k,h1,h2,h3⟩:=hm.mf;exact⟨h0.mem,⟨k,by rw[hr];exact h1,Nat.lt_of_lt_of_le h0.lt hX.n,h3⟩,h0.arg.J3 (hX.Pg h0.mem),h0.len⟩
theorem NN {H:List Nat}{q:Nat}{Z Z':St}(hX:B9 q Z Z') (hq:q∈H):ET (J5 Z H) (J5 Z' (Z.n::H)) :=
 K0 hX.n fun c hc hm=>⟨fun h=>by rcases List.mem_cons.1 h with h|h<;>first|omega|exact hm h,hX.row hc fun e=>hm (e ▸ hq)⟩
theorem MS.more {H H':List Nat}{q:Nat}{v:Value}{l:List Int}{Z Zm:St}(h0:MS H q v l Z) (hX:B9 q Z Zm) (hm:MS H' q v l Zm):MS (Z.n::H) q v l Zm :=
 ⟨List.mem_cons_of_mem _ h0.mem,hm.mf,h0.arg.J3 (NN hX h0.mem),h0.len⟩
theorem Sd {H:List Nat}{q p:Nat}{Z Z':St}{c1 c2:List Value}(hX:B9 q Z Z') (hq:q∈H):ET (J5 Z (p::H)) (J5 ((Z'.new c1).upd p c2) H):=by
 have hn:=hX.n;refine K0 (by show Z.n<=Z'.n+1;omega) fun c hc hm=>?_;have h1:c∉H:=fun h=>hm (List.mem_cons_of_mem _ h);have h2:c≠p:=fun h=>hm (by simp[h]);exact⟨h1,by rw[M1 h2,CQ om,hX.row hc fun e=>h1 (e ▸ hq)]⟩
def AY1 (H:List Nat) (q:Nat) (v:Value) (l:List Int) (deep:Nat) (Z:St) (r:CR):Prop:=∃ row e k m Z',r=⟨false,.agg ⟨row⟩,Z'⟩/\MS H q v l Z'/\B9 q Z Z'/\ExX (J5 Z' H) row e/\FSw k m e/\k<=deep+1/\m+1<=2 ^ (deep+1)
def mg (q:Nat) (v vn:Value) (l:List Int) (nms:List By) (deep:Nat):Prop:=∀ {Z:St}{H:List Nat},(∀ x∈H,x<Z.n)->MS H q v l Z->SL (J5 Z H) 1 vn (nms.map fun s=>[str s]) ->
  Ev (go Tryz.prog HS (.fn 18) [.pointer (some ⟨q,0,none⟩),.int .i64 (deep:Nat),vn] Z) (AY1 H q v l deep Z) ⟨⟩
theorem Se {q:Nat}{v vn:Value}{l:List Int}{nms:List By}(hN:me nms) (deep:Nat) (hd:deep<=4) (ih:∀ d,d+1=deep->mg q v vn l nms d):mg q v vn l nms deep:=by
 intro Z H AY2 hM hV;have hq:=hM.lt;have hqH:=hM.mem;obtain⟨na,nc,nb,no,ncs,rfl,n1,n2⟩:=SL.Pe hV;obtain⟨nsp,rfl,n3,n4⟩:=n1 hN.pos;rw[Ik]at n3;have nH:nb∉H:=fun hb=>by rw[Pc hb]at n4;cases n4
 have nq:nb≠q:=fun h=>nH (h ▸ hqH);rw[FZ nH]at n4;refine D0 Tryz.func18 rfl rfl ?_;refine gS ?_;refine(Ph (n:=9) hM.new om om).mono ?_;rintro r ⟨x1,Z1,rfl,hx1,hM1,hX1⟩;have s1:=hX1.n;simp only[N8]at s1;have X1:B9 q Z Z1:=(B9.of (.new _ _)).trans hX1;have o1:Z1.A7 Z.n=some [str [],.int .i64 0,.int .i64 0,str [],.slice none 0 0]:=by rw[hX1.A7 (by simp) om];exact cL
 by_cases leaf:deep=0\/x1<4
 ·have hc:(decide ((deep:Int)=0)=true)\/(decide ((deep:Int)=0)=false/\decide ((x1:Int)<4)=true):=by
   by_cases d0:deep=0
   ·exact .inl (by simp[d0])
   ·exact .inr ⟨by simp [d0],by have:x1<4:=om
                                simp;omega⟩
  obtain⟨z,⟨d0,d1⟩|⟨d0,d1⟩⟩:∃ z:Int,(decide ((deep:Int)=0)=true/\decide (z<4)=true)\/(decide ((deep:Int)=0)=false/\decide ((x1:Int)<4)=true):=by
   rcases hc with d0|⟨d0,d1⟩
   ·exact⟨0,.inl ⟨d0,rfl⟩⟩
   ·exact⟨0,.inr ⟨d0,d1⟩⟩
  all_goals
   refine gS1 (aI @d0 @d1) ?_;refine(Ph (n:=2) hM1 om om).mono ?_;rintro r ⟨x2,Z2,rfl,hx2,hM2,hX2⟩;have s2:=hX2.n;have X2:B9 q Z Z2:=X1.trans hX2;have o2:Z2.A7 Z.n=some [str [],.int .i64 0,.int .i64 0,str [],.slice none 0 0]:=by rw[hX2.A7 om om];exact o1
   by_cases z2:x2=0
   ·have c2:decide ((x2:Int)=0)=true:=by simp[z2]
    refine gS1 @c2 ?_;refine(Ph (n:=(nms.length:Nat)) hM2 (by have:=hN.pos;omega) (by have:=hN.le;omega)).mono ?_;rintro r ⟨x3,Z3,rfl,hx3,hM3,hX3⟩;have s3:=hX3.n;have X3:B9 q Z Z3:=X2.trans hX3;have o3:Z3.A7 Z.n=some [str [],.int .i64 0,.int .i64 0,str [],.slice none 0 0]:=by rw[hX3.A7 om om];exact o2
    have m3:Z3.row nb=some ncs:=by rw[X3.row om nq];exact n4
    obtain⟨nm,hnm⟩:=E8 (l:=nms) (k:=x3) om;have hs:sub ncs (no+x3) 1=some [str nm]:=by have:=n2 x3 nm hnm;simpa using this
    refine gS1 (a4N @m3 @hs @o3 @Tryz.results18) ?_;have XF:B9 q Z (Z3.upd Z.n [str [110,97,109,101],.int .i64 0,.int .i64 0,str nm,.slice none 0 0]):=X3.As (Nat.le_refl _) _;obtain⟨w1,w2,w3,w4⟩:=hN.all nm (List.mem_of_getElem? hnm);exact⟨_,_,1,1,_,rfl,hM.fin XF hM3 (by rw[I1 om]),XF,AY3,tW w1 w2 w3 w4,om,by have:=Nat.one_le_two_pow (n:=deep);rw[Nat.pow_succ];omega⟩
   ·have c2:decide ((x2:Int)=0)=false:=by simp[z2]
    refine gS1 @c2 ?_;refine(Ph (n:=30) hM2 om om).mono ?_;rintro r ⟨x3,Z3,rfl,hx3,hM3,hX3⟩;have s3:=hX3.n;have X3:B9 q Z Z3:=X2.trans hX3;have o3:Z3.A7 Z.n=some [str [],.int .i64 0,.int .i64 0,str [],.slice none 0 0]:=by rw[hX3.A7 om om];exact o2
    refine gS ?_;refine(Ph (n:=6) hM3.new om om).mono ?_;rintro r ⟨x4,Z4,rfl,hx4,hM4,hX4⟩;have s4:=hX4.n;simp only[N8]at s4;have X4:B9 q Z Z4:=X3.trans ((B9.of (.new _ _)).trans hX4);have o4:Z4.A7 Z.n=some [str [],.int .i64 0,.int .i64 0,str [],.slice none 0 0]:=by rw[hX4.A7 (by simp;omega) om,E9 om];exact o3
    have k4:Z4.row Z3.n=some [.int .i64 1,.int .i64 1,.int .i64 2,.int .i64 4,.int .i64 10,.int .i64 100]:=by rw[hX4.row (by simp) om];exact cL
    obtain⟨dd,ix,hdd⟩:=si hx4;obtain⟨dd1,BJ6⟩:=sj hdd;refine gS1 (aI @k4 @ix) ?_;refine(WT (n:=(x3:Int)) (d:=dd) om om om om om).mono ?_;rintro r ⟨Z5,rfl,hE5⟩;have s5:=hE5.n;have X5:B9 q Z Z5:=X4.trans (B9.of hE5);have o5:Z5.A7 Z.n=some [str [],.int .i64 0,.int .i64 0,str [],.slice none 0 0]:=by rw[hE5.A7 om];exact o4
    refine gS1 (aI @o5 @Tryz.results18) ?_;obtain⟨w1,w2⟩:=AB4 (n:=x3) om hdd
    have XF:B9 q Z (((Z5.new [.int .i64 0,.int .i64 0] (some 32)).upd Z5.n [.int .i64 (qn (x3:Int) dd),.int .i64 (qd (x3:Int) dd)]).upd Z.n [str [110,117,109],.int .i64 (qn (x3:Int) dd),.int .i64 (qd (x3:Int) dd),str [],.slice none 0 0]) :=
     ((X5.trans (B9.of (.new _ _))).As om _).As (Nat.le_refl _) _
    exact⟨_,_,1,1,_,rfl,hM.fin XF hM4 (by rw[I1 om,I1 om,E9 om,hE5.A7 om]),XF,AY3,AE5 w1 w2,om,by have:=Nat.one_le_two_pow (n:=deep);rw[Nat.pow_succ];omega⟩
 ·have d0:decide ((deep:Int)=0)=false:=by simp;omega
  have d1:decide ((x1:Int)<4)=false:=by simp;omega
  obtain⟨d,rfl⟩:∃ d,deep=d+1:=⟨deep-1,om⟩
  have e1:((d+1:Nat):Int)-1=(d:Nat):=om;refine gS1 (a3N @d0 @d1 @e1) ?_;have hH1:∀ x∈Z.n::H,x<Z.n+1:=fun x hx=>by rcases List.mem_cons.1 hx with h|h<;>first|omega|(have:=AY2 x h;omega)
  refine(ih d rfl (H:=Z.n::H) (fun x hx=>by have:=hH1 x hx;omega) (hM.more X1 hM1) (SL.J3 hV (NN X1 hqH))).mono ?_;rintro r ⟨ra,ea,ka,ma,Z2,rfl,hM2,hX2,ha,fa,hka,hma⟩;have s2:=hX2.n;obtain⟨a1,a2,a3,a4,a5,rfl⟩:=fc5 ha.to;have X2:B9 q Z Z2:=X1.trans hX2;refine gS1 @e1 ?_;obtain⟨S2,hS2⟩:∃ S,((Z2.new [str [],.int .i64 0,.int .i64 0,str [],.slice none 0 0] (some 35)).upd Z2.n [a1,a2,a3,a4,a5])=S:=⟨_,rfl⟩
  rw[hS2];have E2:Ext Z2 S2:=by rw[<- hS2];exact eX
  have nS2:S2.n=Z2.n+1:=by rw[<- hS2];rfl
  have oS2:S2.A7 Z2.n=some [a1,a2,a3,a4,a5]:=by rw[<- hS2];exact cL
  have XS2:B9 q Z S2:=X2.trans (B9.of E2);refine(ih d rfl (H:=Z.n::H) (fun x hx=>by have:=hH1 x hx;omega) (hM2.ext E2) (SL.J3 hV (NN XS2 hqH))).mono ?_;rintro r ⟨rb,eb,kb,mb,Z3,rfl,hM3,hX3,hb,fb,hkb,hmb⟩;have s3:=hX3.n;obtain⟨b1,b2,b3,b4,b5,rfl⟩:=fc5 hb.to;have X3:B9 q Z Z3:=XS2.trans hX3;have o3:Z3.A7 Z2.n=some [a1,a2,a3,a4,a5]:=by rw[hX3.A7 om om];exact oS2
  refine gS ?_;obtain⟨S3,hS3⟩:∃ S,((Z3.new [str [],.int .i64 0,.int .i64 0,str [],.slice none 0 0] (some 35)).upd Z3.n [b1,b2,b3,b4,b5])=S:=⟨_,rfl⟩
  rw[hS3];have E3:Ext Z3 S3:=by rw[<- hS3];exact eX
  have nS3:S3.n=Z3.n+1:=by rw[<- hS3];rfl
  have oS3:S3.A7 Z3.n=some [b1,b2,b3,b4,b5]:=by rw[<- hS3];exact cL
  have pS3:S3.A7 Z2.n=some [a1,a2,a3,a4,a5]:=by rw[E3.A7 om];exact o3
  have XS3:B9 q Z S3:=X3.trans (B9.of E3);refine(Ph (n:=6) (hM3.ext E3).new om om).mono ?_;rintro r ⟨x4,Z4,rfl,hx4,hM4,hX4⟩;have s4:=hX4.n;simp only[N8]at s4;have X4:B9 q Z Z4:=XS3.trans ((B9.of (.new _ _)).trans hX4);have o4:Z4.A7 Z.n=some [str [],.int .i64 0,.int .i64 0,str [],.slice none 0 0]:=by
   rw[hX4.A7 (by simp;omega) om,E9 om,E3.A7 om,hX3.A7 om om,E2.A7 om,hX2.A7 om om];exact o1
  have p4:Z4.A7 Z2.n=some [a1,a2,a3,a4,a5]:=by rw[hX4.A7 (by simp;omega) om,E9 om];exact pS3
  have r4:Z4.A7 Z3.n=some [b1,b2,b3,b4,b5]:=by rw[hX4.A7 (by simp;omega) om,E9 om];exact oS3
  have k4:Z4.row S3.n=some [str [43],str [45],str [42],str [47],str [109,105,110],str [109,97,120]]:=by rw[hX4.row (by simp) om];exact cL
  refine gS ?_;refine(UY (n:=(x1:Int)+(x4:Int)) (m:=6) (by unfold EU;omega) om om).mono ?_;rintro r rfl;have e6:((x1:Int)+(x4:Int)) % 6=(((x1+x4) % 6:Nat):Int):=om;obtain⟨o,ho,hop⟩:=AE4 (x:=(x1+x4) % 6) om;have p4r:=A6 p4;have r4r:=A6 r4;simp(maxSteps:=8000000) (disch:=first|exact dS|fail) only[↓bD,bW,reduceMul,reduceEqDiff,reduceAdd,Nat.reduceBEq,reduceIte,Option.isNone_none,e6,k4,ho,p4r,r4r,o4,asx (Ext.refl _),Tryz.results18];refine Ar.intro (by simp(disch:=omega) only[DH,Gc,Bq,asx (Ext.refl _),S7 (b:=Z3.n) hX4 om,S7 (b:=Z2.n) hX4 om,S7 (b:=S3.n) hX4 om];first|done|rfl) ?_
  try(refine gS1 @Tryz.results18 ?_;try exact⟨⟩)
  have XF:B9 q Z ((Z4.new [a1,a2,a3,a4,a5,b1,b2,b3,b4,b5]).upd Z.n [str o,.int .i64 0,.int .i64 0,str [],.slice (some ⟨Z4.n,0,none⟩) 2 2]):=(X4.trans (B9.of (.new _ _))).As (Nat.le_refl _) _;have Y3:B9 q Z3 Z4:=(B9.of E3).trans ((B9.of (.new _ _)).trans hX4);have Y2:B9 q Z2 Z4:=(B9.of E2).trans (hX3.trans Y3);have hX:ExX (J5 ((Z4.new [a1,a2,a3,a4,a5,b1,b2,b3,b4,b5]).upd Z.n [str o,.int .i64 0,.int .i64 0,str [],.slice (some ⟨Z4.n,0,none⟩) 2 2]) H) [str o,.int .i64 0,.int .i64 0,str [],.slice (some ⟨Z4.n,0,none⟩) 2 2] (.mk o 0 0 [] [ea,eb]):=by
   refine As9 (by rw[Ik];show Z4.n<Z4.n+1;omega) (by rw[FZ fun h=>by have:=AY2 _ h;omega];exact cL) rfl (ha.J3 (Sd Y2 hqH)) (hb.J3 (Sd Y3 hqH))
  have p2:2 ^ (d+1+1)=2*2 ^ (d+1):=by rw[Nat.pow_succ];omega
  rcases hop with hop|hop
  ·exact⟨_,_,_,_,_,rfl,hM.fin XF hM4 (by rw[I1 om,E9 om]),XF,hX,AE6 hop fa fb,om,om⟩
  ·exact⟨_,_,_,_,_,rfl,hM.fin XF hM4 (by rw[I1 om,E9 om]),XF,hX,AY4 hop fa fb,om,om⟩
theorem tX {q:Nat}{v vn:Value}{l:List Int}{nms:List By}(hN:me nms):∀ deep:Nat,deep<=4->mg q v vn l nms deep:=by
 intro deep;induction deep with
 |zero=>exact fun h=>Se hN 0 h fun d h=>om
 |succ d ih=>exact fun hd=>Se hN (d+1) hd fun d' h=>by cases h;exact ih om
end Go.Proofs.T
namespace Go.Proofs.T
open Go Go.Ab
def SQ {w v:By}{ws:List By}:spJ (w::v::ws)=w++32::spJ (v::ws):=rfl
def AC2:∀ ws:List By,(∀ w∈ws,w.length<=9)->(spJ ws).length<=10*ws.length:=by
 intro ws;induction ws with
 |nil=>intro _;simp[spJ]
 | cons w ws ih=>
   intro h;have h1:=h w (IU ..);have h2:=ih fun x hx=>h x (GH _ hx);cases ws with
   |nil=>simp only[spJ,Ah,JH];omega
   |cons v ws=>rw[SQ,BD,Ah];simp only[Ah]at h2 ⊢;omega
def AC3:∀ ws:List By,(∀ w∈ws,w.length<=9)->Rs (spJ ws):=by
 intro ws;induction ws with
 |nil=>intro _;exact mD
 | cons w ws ih=>
   intro h;have h1:=JV (s:=w) (by have:=h w (IU ..);omega);have h2:=ih fun x hx=>h x (GH _ hx);cases ws with
   |nil=>exact h1
   |cons v ws=>rw[SQ];exact NI (by rfl) h1 h2
def PO {l:By}{ls:List By}:under (l::ls)=l++10::under ls:=by unfold under;simp
def mE:∀ ls:List By,(∀ l∈ls,Rs l)->Rs (under ls):=by
 intro ls;induction ls with
 |nil=>intro _;exact mD
 | cons l ls ih=>
   intro h;rw[PO];exact NI (by rfl) (h l (IU ..)) (ih fun x hx=>h x (GH _ hx))
def mF {n:Nat}:∀ ls:List By,(∀ l∈ls,l.length<=n)->(under ls).length<=(n+1)*ls.length:=by
 intro ls;induction ls with
 |nil=>intro _;simp[under]
 | cons l ls ih=>
   intro h;have h1:=h l (IU ..);have h2:=ih fun x hx=>h x (GH _ hx);rw[PO,BD,Ah,Ah,Nat.mul_succ];omega
def tD {s:By}(h:Rs s):Cx s 0=true:=by
 have:=h [] AC4 rfl
 rwa [IV]at this
def AC5 (m:LM):Prop:=m.txt.length<=5/\∀ w∈m.txt,w.length<=9
def tE (m:LM):m.word.length<=9:=by cases m<;>simp[LM.word]
def BF {m:LM}(hf:∀ e,m≠ .fml e) (h:AC5 m):(BU m).length<=160/\Rs (BU m):=by
 have e:BU m=spJ (m.word::m.txt):=by cases m<;>first|rfl|exact absurd rfl (hf _)
 have hw:∀ w∈m.word::m.txt,w.length<=9:=by
  intro w hw;rcases BJ.1 hw with rfl|hw
  ·exact tE m
  ·exact h.2 w hw
 have h1:=AC2 _ hw;have h2:=h.1;simp only[Ah]at h1;rw[e];exact⟨om,AC3 _ hw⟩
structure SR (T:Tn):Prop where
 right:PQ T
 sm:T.Sm
 nm:T.name.length<=9
 G8:T.G8.length<=3
 D2:T.D2.length<=3
 MB:∀ c∈T.D2,c.name.length<=9
 reqs:T.reqs.length<=2
 req:∀ r∈T.reqs,r.name.length<=9
 F5:T.F5.length<=3
 tie:∀ w∈T.F5,w.length<=9
 D6:T.D6.length<=2
 combo:∀ c∈T.D6,c.length<=5
 f:∃ k m,FSw k m T.f/\k<=12/\m<=16
def Zh {T:Tn}(h:SR T):∀ m∈gv T,(BU m).length<=160/\Rs (BU m):=by
 intro m hm;have n9:∀ {n:Int},SmN n->(dcN n.toNat).length<=9:=fun h=>Cy h;have s:=h.sm;obtain⟨t1,t2,t3,t4,t5⟩:=s.tim;unfold gv at hm;simp only[BJ,DK,MJ,LA,Ly]at hm;rcases hm with rfl|⟨l,hl,rfl⟩|⟨c,hc,rfl⟩|⟨r,hr,rfl⟩|rfl|rfl|hm|hm|⟨c,hc,rfl⟩|rfl|rfl
 ·exact BF (fun e h=>by cases h) ⟨by simp[LM.txt],by simp only[LM.txt,BJ,LA,Ly];rintro w rfl;exact h.nm⟩
 ·obtain⟨h1,h2⟩:=s.lot l hl;exact BF (fun e h=>by cases h) ⟨by simp[LM.txt],by simp only[LM.txt,BJ,LA,Ly];rintro w (rfl|rfl|rfl)<;>first|exact n9 h1|exact n9 h2|decide⟩
 ·obtain⟨-,h1,h2⟩:=s.MB c hc;have hn:=h.MB c hc;refine BF (fun e h=>by cases h) ⟨?_,?_⟩
  ·cases c.less<;>simp[LM.txt]
  ·intro w hw;simp only[LM.txt,BJ,DK,LA,Ly]at hw;rcases hw with(rfl|rfl|rfl|rfl)|hw
   ·exact hn
   ·split<;>decide
   ·exact n9 h1
   ·exact n9 h2
   ·split at hw
    ·rw[GK.1 hw];decide
    ·cases hw
 ·have h1:=s.req r hr;have hn:=h.req r hr;have Vx:=(h.right.req r hr).2.1;have hl:r.rel.length<=9:=by
   simp only[List.contains_cons,List.contains_nil,SS,IJ,dK]at Vx;rcases Vx with e|e<;>rw[e]<;>decide
  exact BF (fun e h=>by cases h) ⟨by simp[LM.txt],by simp only[LM.txt,BJ,LA,Ly];rintro w (rfl|rfl|rfl)<;>first|exact n9 h1|assumption⟩
 ·exact BF (fun e h=>by cases h) ⟨by simp[LM.txt],by simp only[LM.txt,BJ,LA,Ly];rintro w (rfl|rfl)<;>first|exact n9 s.low|exact n9 s.high⟩
 ·obtain⟨k,m,hf,hk,hm⟩:=h.f;have h1:=hf.len 12 0 om;refine⟨?_,?_⟩
  ·show((LM.fml T.f).word++32::Az 12 0 T.f).length<=160;rw[BD,Ah];have:(LM.fml T.f).word.length=7:=rfl;omega
  ·show Rs ((LM.fml T.f).word++32::Az 12 0 T.f);exact NI (by rfl) (JV (by simp[LM.word])) (hf.rs 12 0 om)
 ·split at hm
  ·cases hm
  ·rw[GK.1 hm];exact BF (fun e h=>by cases h) ⟨by have:=h.F5;show T.F5.length<=5;omega,h.tie⟩
 ·split at hm
  ·cases hm
  ·rw[GK.1 hm];exact BF (fun e h=>by cases h) ⟨by simp[LM.txt],by simp only[LM.txt,BJ,LA,Ly];rintro w rfl;exact n9 s.P8⟩
 ·have h1:=s.combo c hc;refine BF (fun e h=>by cases h) ⟨by have:=h.combo c hc;simp[LM.txt];omega,?_⟩;intro w hw;simp only[LM.txt,MJ]at hw;obtain⟨x,⟨n,hn,rfl⟩,rfl⟩:=hw;exact n9 (h1 n hn)
 ·exact BF (fun e h=>by cases h) ⟨by simp[LM.txt],by simp only[LM.txt,BJ,LA,Ly];rintro w rfl;exact n9 s.J8⟩
 ·exact BF (fun e h=>by cases h) ⟨by simp[LM.txt],by simp only[LM.txt,BJ,LA,Ly];rintro w (rfl|rfl|rfl|rfl|rfl)<;>first|exact n9 t1|exact n9 t2|exact n9 t3|exact n9 t4|exact n9 t5⟩
def Zi {T:Tn}(h:SR T):(gv T).length<=17:=by
 have h1:=h.G8;have h2:=h.D2;have h3:=h.reqs;have h4:=h.D6;unfold gv;simp only[Ah,BD,z2z,JH];split<;>split<;>simp only[Ah,JH]<;>omega
def SU {T:Tn}(h:SR T):(DQ T).length<=4000/\Cx (DQ T) 0=true:=by
 have hl:=Zh h;have hc:=Zi h;unfold DQ;constructor
 ·refine X0 (mF (n:=160) _ fun l hm=>?_) (by rw[z2z];omega);obtain⟨m,hm',rfl⟩:=MJ.1 hm;exact(hl m hm').1
 ·refine tD (mE _ fun l hm=>?_);obtain⟨m,hm',rfl⟩:=MJ.1 hm;exact(hl m hm').2
section
variable {v:Value}{l:List Int}{τ τ':St}{lo size:Nat}{D4:List (List Value)}{H0:List Nat}{cs:List Value}
def zv:List By:=[[112,114,105,99,101],[108,111,119],[115,112,101,101,100],[99,111,109,102,111,114,116],[119,101,105,103,104,116]]
def rF:me zv:=⟨by decide,by decide,by decide⟩
def PN {Z:St}:Ev (gO 17 [] Z) (fun r=>∃ b Z',r=⟨false,.slice (some ⟨b,0,none⟩) 5 5,Z'⟩/\Ext Z Z'/\Z.n<=b/\b<Z'.n/\Z'.A7 b=some [str [112,114,105,99,101],str [108,111,119],str [115,112,101,101,100],str [99,111,109,102,111,114,116],str [119,101,105,103,104,116]]) ⟨⟩:=by
 refine D0 Tryz.func17 rfl rfl ?_;refine gS1 @Tryz.results17 ?_;exact⟨_,_,rfl,eX,AR _,by simp,cL⟩
def GQ (q:Nat) (v:Value) (l:List Int) (τ:St):Prop:=∃ k,k<=l.length/\τ.A7 q=some [v,.int .i64 (k:Nat)]
def GQ.ext {q:Nat}(h:GQ q v l τ) (hE:Ext τ τ') (hq:q<τ.n):GQ q v l τ':=by
 obtain⟨k,h1,h2⟩:=h;exact⟨k,h1,by rw[hE.A7 hq];exact h2⟩
def GQ.x {p q:Nat}(h:GQ q v l τ) (hE:B9 p τ τ') (hq:q<τ.n) (hne:q≠p):GQ q v l τ':=by
 obtain⟨k,h1,h2⟩:=h;exact⟨k,h1,by rw[hE.A7 hq hne];exact h2⟩
def GQ.app {q:Nat}{w w':Value}(h:GQ q v l τ) (hA:App τ τ' w w') (ho:OL lo τ size w D4) (hq:q<τ.n) (hlo:q<lo):GQ q v l τ':=by
 obtain⟨k,h1,h2⟩:=h;exact⟨k,h1,by rw[B8 (hA.same q hq fun hb=>by have:=(ho.blk hb).1;omega)];exact h2⟩
def zw {Z:St}{q:Nat}{H:List Nat}(hl:Y9 (J5 Z H0) v l) (hll:l.length<=9223372036854775807) (hE:Ext Z τ) (hH:∀ c∈H,Z.n<=c\/c∈H0) (hq:q<τ.n) (hQ:GQ q v l τ) (hm:q∈H):MS H q v l τ:=by
 obtain⟨k,h1,h2⟩:=hQ;exact⟨hm,⟨k,h2,hq,h1⟩,hl.J3 (K0 hE.n fun c hc hn=>⟨fun h=>by rcases hH c h with h|h<;>first|omega|exact hn h,hE.row hc⟩),hll⟩
def nxg {Z:St}{q:Nat}{n:Int}(hl:Y9 (J5 Z H0) v l) (hll:l.length<=9223372036854775807) (hE:Ext Z τ) (hq0:Z.n<=q) (hq:q<τ.n) (hQ:GQ q v l τ) (h1:0<n) (h2:n<=100000):
  Ev (gO 16 [.pointer (some ⟨q,0,none⟩),.int .i64 n] τ) (fun r=>∃ (x:Nat) (Z':St),r=⟨false,.int .i64 (x:Nat),Z'⟩/\(x:Int)<n/\Ext Z Z'/\GQ q v l Z'/\B9 q τ Z') ⟨⟩:=by
 refine(Ph (zw (H:=q::H0) hl hll hE (fun c hc=>by rcases BJ.1 hc with rfl|h<;>first|exact .inl hq0|exact .inr h) hq hQ (by simp)) h1 h2).mono ?_;rintro r ⟨x,Z',rfl,hx,hM,hX⟩;obtain⟨k,r1,r2,r3⟩:=hM.mf;exact⟨x,Z',rfl,hx,hX.ext hE hq0,⟨k,r3,r1⟩,hX⟩
def OL.upd {p:Nat}{Z:St}(h:OL lo Z size v D4) (hp:p<lo):OL lo (Z.upd p cs) size v D4:=OL.BI h (B9.refl.upd _) hp
structure U6 (q p:Nat) (Z Z':St):Prop where
 n:Z.n<=Z'.n
 same:∀ b,b<Z.n->b≠q->b≠p->Z'.h.get b=Z.h.get b
section
variable {p q:Nat}{Z Z' Z'':St}
def U6.refl:U6 q p Z Z:=⟨AR _,fun _ _ _ _=>rfl⟩
def U6.of (h:Ext Z Z'):U6 q p Z Z':=⟨h.n,fun b hb _ _=>h.same b hb⟩
def U6.xq (h:B9 q Z Z'):U6 q p Z Z':=⟨h.n,fun b hb h1 _=>h.same b hb h1⟩
def U6.xp (h:B9 p Z Z'):U6 q p Z Z':=⟨h.n,fun b hb _ h2=>h.same b hb h2⟩
def U6.trans (h:U6 q p Z Z') (k:U6 q p Z' Z''):U6 q p Z Z'':=⟨X0 h.n k.n,fun b hb h1 h2=>by rw[k.same b (z5z hb h.n) h1 h2,h.same b hb h1 h2]⟩
def U6.upd (h:U6 q p Z Z'):U6 q p Z (Z'.upd p cs):=h.trans (.xp (B9.refl.upd _))
def U6.app {v':Value}(hA:App Z' Z'' v v') (hE:U6 q p Z Z') (hl:OL lo Z' size v D4) (hlo:Z.n<=lo):U6 q p Z Z'' :=
 ⟨X0 hE.n hA.n,fun c hc h1 h2=>by rw[hA.same c (z5z hc hE.n) (fun hb=>by have:=(hl.blk hb).1;omega),hE.same c hc h1 h2]⟩
def U6.ext {Z0:St}(h:U6 q p Z Z') (h0:Ext Z0 Z) (hq:Z0.n<=q) (hp:Z0.n<=p):Ext Z0 Z':=⟨X0 h0.n h.n,fun b hb=>by rw[h.same b (z5z hb h0.n) om om,h0.same b hb]⟩
def U6.A7 {b:Nat}(h:U6 q p Z Z') (hb:b<Z.n) (h1:b≠q) (h2:b≠p):Z'.A7 b=Z.A7 b:=B8 (h.same b hb h1 h2)
def OL.TH (h:OL lo Z size v D4) (hE:U6 q p Z Z') (hq:q<lo) (hp:p<lo):OL lo Z' size v D4:=by
 refine h.J3 hE.n fun b hb=>?_;have:=h.blk hb;exact hE.same b this.2 om om
end
end
def Re (L:List Lot):Prop:=(L.map Lot.id).Pairwise (fun a b=>a<b)
def lj:Re []:=List.Pairwise.nil
def SN {L:List Lot}{x:Lot}(h:Re L) (hx:∀ y∈L,y.id<x.id):Re (L++[x]):=by
 unfold Re at h ⊢;rw[y7,List.pairwise_append];refine⟨h,zA _ _,fun a ha b hb=>?_⟩;obtain⟨y,hy,rfl⟩:=MJ.1 ha;obtain⟨z,hz,rfl⟩:=MJ.1 hb;rw[GK.1 hz];exact hx y hy
def Zg {L:List Lot}(h:Re L):(L.map Lot.id).Nodup:=List.Pairwise.imp (fun h=>om) h
def MK:List By:=[[112,114,105,99,101],[115,112,101,101,100],[99,111,109,102,111,114,116]]
def gj:∀ k:Nat,k<=3->(MK.take k).Nodup/\(∀ w∈MK.take k,(w=Ft\/AL w=true)/\w.length<=9):=by
 intro k hk;have:k=0\/k=1\/k=2\/k=3:=om;rcases this with rfl|rfl|rfl|rfl<;>decide
def Nl:List By:=[[115,112,101,101,100],[99,111,109,102,111,114,116],[119,101,105,103,104,116]]
def gm:∀ k:Nat,k<=3->(Nl.take k).Nodup/\(∀ w∈Nl.take k,AL w=true/\w.length<=9):=by
 intro k hk;have:k=0\/k=1\/k=2\/k=3:=om;rcases this with rfl|rfl|rfl|rfl<;>decide
end Go.Proofs.T
