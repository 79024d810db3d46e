/- The J4 Hs: AS. -/
import Derived.Test.YtbcanmagihejhaaGreatDoorTC
import Derived.Test.YtbcanmagihejhaaGreatDoorPB
import Derived.Test.YtbcanmagihejhaaGreatDoorRC
set_option linter.unusedSimpArgs false
set_option linter.unusedVariables false
set_option maxHeartbeats 32000000
set_option maxRecDepth 100000
namespace Go.Proofs.T
open Go Go.Ab
open Nat (reduceMul reduceEqDiff reduceAdd)
theorem MS.new {H:List Nat}{q:Nat}{v:Value}{l:List Int}{Z:St}{cs:List Value}{t:Option Nat}(h:MS H q v l Z):MS H q v l (Z.new cs t):=h.ext (.new _ _)
theorem P0 {bs:List Nat}{i j b o n q:Nat}{a a':St}{ds:List Ab.Trace}(h:C5 q a a') (hne:b≠q):M1 bs i ⟨b,o,n⟩ (.eff j a a'::ds)=M1 bs i ⟨b,o,n⟩ ds:=Gw fun hlt=>h.same b hlt hne
structure dJ (nms:List By):Prop where
 all:∀ s∈nms,AL s=true/\s≠Dt/\s≠EZ/\s.length<=7
 pos:0<nms.length
 le:nms.length<=1000
theorem rW {x:Nat}(h:x<6):∃ o,sub ([str [43],str [45],str [42],str [47],str [109,105,110],str [109,97,120]]:List Value) x 1=some [str o]/\((o=[43]\/o=[45]\/o=[42]\/o=[47])\/(o=Dt\/o=EZ)):=by
 have:x=0\/x=1\/x=2\/x=3\/x=4\/x=5:=om;rcases this with rfl|rfl|rfl|rfl|rfl|rfl
 ·exact ⟨_,rfl,.inl (.inl rfl)⟩
 ·exact ⟨_,rfl,.inl (.inr (.inl rfl))⟩
 ·exact ⟨_,rfl,.inl (.inr (.inr (.inl rfl)))⟩
 ·exact ⟨_,rfl,.inl (.inr (.inr (.inr rfl)))⟩
 ·exact ⟨_,rfl,.inr (.inl rfl)⟩
 ·exact ⟨_,rfl,.inr (.inr rfl)⟩
theorem MS.fin {H H':List Nat}{q:Nat}{v:Value}{l:List Int}{Z Zm Z':St}(h0:MS H q v l Z) (hX:C5 q Z Z') (hm:MS H' q v l Zm) (hr:Z'.A5 q=Zm.A5 q):MS H q v l Z':=by
 obtain ⟨k,h1,h2,h3⟩:=hm.dK;exact ⟨h0.mem,⟨k,by rw [hr];exact h1,Nat.lt_of_lt_of_le h0.lt hX.n,h3⟩,h0.arg.E8 (hX.Pd h0.mem),h0.len⟩
theorem Kb {H:List Nat}{q:Nat}{Z Z':St}(hX:C5 q Z Z') (hq:q∈H):o0 (H6 Z H) (H6 Z' (Z.n::H)) :=
 I5 hX.n fun c hc hm=>⟨fun h=>by rcases List.mem_cons.1 h with h|h <;> first|omega|exact hm h,hX.row hc fun e=>hm (e ▸ hq)⟩
theorem MS.more {H H':List Nat}{q:Nat}{v:Value}{l:List Int}{Z Zm:St}(h0:MS H q v l Z) (hX:C5 q Z Zm) (hm:MS H' q v l Zm):MS (Z.n::H) q v l Zm :=
 ⟨List.mem_cons_of_mem _ h0.mem,hm.dK,h0.arg.E8 (Kb hX h0.mem),h0.len⟩
theorem Pe {H:List Nat}{q p:Nat}{Z Z':St}{c1 c2:List Value}(hX:C5 q Z Z') (hq:q∈H):o0 (H6 Z (p::H)) (H6 ((Z'.new c1).upd p c2) H):=by
 have hn:=hX.n;refine I5 (by show Z.n<=Z'.n+1;omega) fun c hc hm=>?_;have h1:c∉H:=fun h=>hm (List.mem_cons_of_mem _ h);have h2:c≠p:=fun h=>hm (by simp [h]);exact ⟨h1,by rw [D9 h2,Af om,hX.row hc fun e=>h1 (e ▸ hq)]⟩
def xO (H:List Nat) (q:Nat) (v:Value) (l:List Int) (deep:Nat) (Z:St) (r:CR):Prop:=∃ row e k m Z',r=⟨false,.agg ⟨row⟩,Z'⟩/\MS H q v l Z'/\C5 q Z Z'/\ExX (H6 Z' H) row e/\FSw k m e/\k<=deep+1/\m+1<=2 ^ (deep+1)
def dL (q:Nat) (v vn:Value) (l:List Int) (nms:List By) (deep:Nat):Prop:=∀ {Z:St}{H:List Nat},(∀ x∈H,x<Z.n)->MS H q v l Z->SL (H6 Z H) 1 vn (nms.map fun s=>[str s]) ->
  Ev (go Tryz.prog HS (.fn 34) [.pointer (some ⟨q,0,none⟩),.int .i64 (deep:Nat),vn] Z) (xO H q v l deep Z) ⟨⟩
theorem Pf {q:Nat}{v vn:Value}{l:List Int}{nms:List By}(hN:dJ nms) (deep:Nat) (hd:deep<=4) (ih:∀ d,d+1=deep->dL q v vn l nms d):dL q v vn l nms deep:=by
 intro Z H xP hM hV;have hq:=hM.lt;have hqH:=hM.mem;obtain ⟨na,nc,nb,no,ncs,rfl,n1,n2⟩:=SL.Lx hV;obtain ⟨nsp,rfl,n3,n4⟩:=n1 hN.pos;rw [Cz] at n3;have nH:nb∉H:=fun hb=>by rw [JZ hb] at n4;cases n4
 have nq:nb≠q:=fun h=>nH (h ▸ hqH);rw [BG nH] at n4;refine D7 Tryz.func34 rfl rfl ?_;refine gS ?_;refine (NI (n:=9) hM.new om om).mono ?_;rintro r ⟨x1,Z1,rfl,hx1,hM1,hX1⟩;have s1:=hX1.n;simp only [N3] at s1;have X1:C5 q Z Z1:=(C5.of (.new _ _)).trans hX1;have o1:Z1.A5 Z.n=some [str [],.int .i64 0,.int .i64 0,str [],.slice none 0 0]:=by rw [hX1.A5 (by simp) om];exact cL
 by_cases leaf:deep=0\/x1<4
 ·have hc:(decide ((deep:Int)=0)=true)\/(decide ((deep:Int)=0)=false/\decide ((x1:Int)<4)=true):=by
   by_cases d0:deep=0
   ·exact .inl (by simp [d0])
   ·exact .inr ⟨by simp [d0],by have:x1<4:=om
                                simp;omega⟩
  obtain ⟨z,⟨d0,d1⟩|⟨d0,d1⟩⟩:∃ z:Int,(decide ((deep:Int)=0)=true/\decide (z<4)=true)\/(decide ((deep:Int)=0)=false/\decide ((x1:Int)<4)=true):=by
   rcases hc with d0|⟨d0,d1⟩
   ·exact ⟨0,.inl ⟨d0,rfl⟩⟩
   ·exact ⟨0,.inr ⟨d0,d1⟩⟩
  all_goals
   refine gS1 (a4N @d0 @d1 @J1 @J2) ?_;refine (NI (n:=2) hM1 om om).mono ?_;rintro r ⟨x2,Z2,rfl,hx2,hM2,hX2⟩;have s2:=hX2.n;have X2:C5 q Z Z2:=X1.trans hX2;have o2:Z2.A5 Z.n=some [str [],.int .i64 0,.int .i64 0,str [],.slice none 0 0]:=by rw [hX2.A5 om om];exact o1
   by_cases z2:x2=0
   ·have c2:decide ((x2:Int)=0)=true:=by simp [z2]
    refine gS1 @c2 ?_;refine (NI (n:=(nms.length:Nat)) hM2 (by have:=hN.pos;omega) (by have:=hN.le;omega)).mono ?_;rintro r ⟨x3,Z3,rfl,hx3,hM3,hX3⟩;have s3:=hX3.n;have X3:C5 q Z Z3:=X2.trans hX3;have o3:Z3.A5 Z.n=some [str [],.int .i64 0,.int .i64 0,str [],.slice none 0 0]:=by rw [hX3.A5 om om];exact o2
    have m3:Z3.row nb=some ncs:=by rw [X3.row om nq];exact n4
    obtain ⟨nm,hnm⟩:=H8 (l:=nms) (k:=x3) om;have hs:sub ncs (no+x3) 1=some [str nm]:=by have:=n2 x3 nm hnm;simpa using this
    refine gS1 (a4N @m3 @hs @o3 @Tryz.results34) ?_;have XF:C5 q Z (Z3.upd Z.n [str [110,97,109,101],.int .i64 0,.int .i64 0,str nm,.slice none 0 0]):=X3.BJ (Nat.le_refl _) _;obtain ⟨w1,w2,w3,w4⟩:=hN.all nm (List.mem_of_getElem? hnm);exact ⟨_,_,1,1,_,rfl,hM.fin XF hM3 (by rw [D1 om]),XF,Vc,kP w1 w2 w3 w4,om,by have:=Nat.one_le_two_pow (n:=deep);rw [Nat.pow_succ];omega⟩
   ·have c2:decide ((x2:Int)=0)=false:=by simp [z2]
    refine gS1 @c2 ?_;refine (NI (n:=30) hM2 om om).mono ?_;rintro r ⟨x3,Z3,rfl,hx3,hM3,hX3⟩;have s3:=hX3.n;have X3:C5 q Z Z3:=X2.trans hX3;have o3:Z3.A5 Z.n=some [str [],.int .i64 0,.int .i64 0,str [],.slice none 0 0]:=by rw [hX3.A5 om om];exact o2
    refine gS ?_;refine (NI (n:=6) hM3.new om om).mono ?_;rintro r ⟨x4,Z4,rfl,hx4,hM4,hX4⟩;have s4:=hX4.n;simp only [N3] at s4;have X4:C5 q Z Z4:=X3.trans ((C5.of (.new _ _)).trans hX4);have o4:Z4.A5 Z.n=some [str [],.int .i64 0,.int .i64 0,str [],.slice none 0 0]:=by rw [hX4.A5 (by simp;omega) om,F5 om];exact o3
    have k4:Z4.row Z3.n=some [.int .i64 1,.int .i64 1,.int .i64 2,.int .i64 4,.int .i64 10,.int .i64 100]:=by rw [hX4.row (by simp) om];exact cL
    obtain ⟨dd,ix,hdd⟩:=js hx4;obtain ⟨dd1,AW6⟩:=jt hdd;refine gS1 (aI @k4 @ix) ?_;refine (dM (n:=(x3:Int)) (d:=dd) om om om om om).mono ?_;rintro r ⟨Z5,rfl,hE5⟩;have s5:=hE5.n;have X5:C5 q Z Z5:=X4.trans (C5.of hE5);have o5:Z5.A5 Z.n=some [str [],.int .i64 0,.int .i64 0,str [],.slice none 0 0]:=by rw [hE5.A5 om];exact o4
    refine gS1 (aI @o5 @Tryz.results34) ?_;obtain ⟨w1,w2⟩:=qp (n:=x3) om hdd
    have XF:C5 q Z (((Z5.new [.int .i64 0,.int .i64 0] (some 32)).upd Z5.n [.int .i64 (qn (x3:Int) dd),.int .i64 (qd (x3:Int) dd)]).upd Z.n [str [110,117,109],.int .i64 (qn (x3:Int) dd),.int .i64 (qd (x3:Int) dd),str [],.slice none 0 0]) :=
     ((X5.trans (C5.of (.new _ _))).BJ om _).BJ (Nat.le_refl _) _
    exact ⟨_,_,1,1,_,rfl,hM.fin XF hM4 (by rw [D1 om,D1 om,F5 om,hE5.A5 om]),XF,Vc,rX w1 w2,om,by have:=Nat.one_le_two_pow (n:=deep);rw [Nat.pow_succ];omega⟩
 ·have d0:decide ((deep:Int)=0)=false:=by simp;omega
  have d1:decide ((x1:Int)<4)=false:=by simp;omega
  obtain ⟨d,rfl⟩:∃ d,deep=d+1:=⟨deep-1,om⟩
  have e1:((d+1:Nat):Int)-1=(d:Nat):=om;refine gS1 (a3N @d0 @d1 @e1) ?_;have hH1:∀ x∈Z.n::H,x<Z.n+1:=fun x hx=>by rcases List.mem_cons.1 hx with h|h <;> first|omega|(have:=xP x h;omega)
  refine (ih d rfl (H:=Z.n::H) (fun x hx=>by have:=hH1 x hx;omega) (hM.more X1 hM1) (SL.E8 hV (Kb X1 hqH))).mono ?_;rintro r ⟨ra,ea,ka,ma,Z2,rfl,hM2,hX2,ha,fa,hka,hma⟩;have s2:=hX2.n;obtain ⟨a1,a2,a3,a4,a5,rfl⟩:=fc5 ha.to;have X2:C5 q Z Z2:=X1.trans hX2;refine gS1 @e1 ?_;obtain ⟨S2,hS2⟩:∃ S,((Z2.new [str [],.int .i64 0,.int .i64 0,str [],.slice none 0 0] (some 35)).upd Z2.n [a1,a2,a3,a4,a5])=S:=⟨_,rfl⟩
  rw [hS2];have E2:Ext Z2 S2:=by rw [<- hS2];exact eX
  have nS2:S2.n=Z2.n+1:=by rw [<- hS2];rfl
  have oS2:S2.A5 Z2.n=some [a1,a2,a3,a4,a5]:=by rw [<- hS2];exact cL
  have XS2:C5 q Z S2:=X2.trans (C5.of E2);refine (ih d rfl (H:=Z.n::H) (fun x hx=>by have:=hH1 x hx;omega) (hM2.ext E2) (SL.E8 hV (Kb XS2 hqH))).mono ?_;rintro r ⟨rb,eb,kb,mb,Z3,rfl,hM3,hX3,hb,fb,hkb,hmb⟩;have s3:=hX3.n;obtain ⟨b1,b2,b3,b4,b5,rfl⟩:=fc5 hb.to;have X3:C5 q Z Z3:=XS2.trans hX3;have o3:Z3.A5 Z2.n=some [a1,a2,a3,a4,a5]:=by rw [hX3.A5 om om];exact oS2
  refine gS ?_;obtain ⟨S3,hS3⟩:∃ S,((Z3.new [str [],.int .i64 0,.int .i64 0,str [],.slice none 0 0] (some 35)).upd Z3.n [b1,b2,b3,b4,b5])=S:=⟨_,rfl⟩
  rw [hS3];have E3:Ext Z3 S3:=by rw [<- hS3];exact eX
  have nS3:S3.n=Z3.n+1:=by rw [<- hS3];rfl
  have oS3:S3.A5 Z3.n=some [b1,b2,b3,b4,b5]:=by rw [<- hS3];exact cL
  have pS3:S3.A5 Z2.n=some [a1,a2,a3,a4,a5]:=by rw [E3.A5 om];exact o3
  have XS3:C5 q Z S3:=X3.trans (C5.of E3);refine (NI (n:=6) (hM3.ext E3).new om om).mono ?_;rintro r ⟨x4,Z4,rfl,hx4,hM4,hX4⟩;have s4:=hX4.n;simp only [N3] at s4;have X4:C5 q Z Z4:=XS3.trans ((C5.of (.new _ _)).trans hX4);have o4:Z4.A5 Z.n=some [str [],.int .i64 0,.int .i64 0,str [],.slice none 0 0]:=by
   rw [hX4.A5 (by simp;omega) om,F5 om,E3.A5 om,hX3.A5 om om,E2.A5 om,hX2.A5 om om];exact o1
  have p4:Z4.A5 Z2.n=some [a1,a2,a3,a4,a5]:=by rw [hX4.A5 (by simp;omega) om,F5 om];exact pS3
  have r4:Z4.A5 Z3.n=some [b1,b2,b3,b4,b5]:=by rw [hX4.A5 (by simp;omega) om,F5 om];exact oS3
  have k4:Z4.row S3.n=some [str [43],str [45],str [42],str [47],str [109,105,110],str [109,97,120]]:=by rw [hX4.row (by simp) om];exact cL
  refine gS ?_;refine (Y9 (n:=(x1:Int)+(x4:Int)) (m:=6) (by unfold u7;omega) om om).mono ?_;rintro r rfl;have e6:((x1:Int)+(x4:Int)) % 6=(((x1+x4) % 6:Nat):Int):=om;obtain ⟨o,ho,hop⟩:=rW (x:=(x1+x4) % 6) om;have p4r:=A8 p4;have r4r:=A8 r4;simp (maxSteps:=8000000) (disch:=first|exact dS|fail) only [↓bD,bW,reduceMul,reduceEqDiff,reduceAdd,Nat.reduceBEq,reduceIte,Option.isNone_none,e6,k4,ho,p4r,r4r,o4,asx (Ext.refl _),Tryz.results34];refine H3.intro (by simp (disch:=omega) only [B9,C9,C0,asx (Ext.refl _),P0 (b:=Z3.n) hX4 om,P0 (b:=Z2.n) hX4 om,P0 (b:=S3.n) hX4 om];first|done|rfl) ?_
  try (refine gS1 @Tryz.results34 ?_;try exact ⟨⟩)
  have XF:C5 q Z ((Z4.new [a1,a2,a3,a4,a5,b1,b2,b3,b4,b5]).upd Z.n [str o,.int .i64 0,.int .i64 0,str [],.slice (some ⟨Z4.n,0,none⟩) 2 2]):=(X4.trans (C5.of (.new _ _))).BJ (Nat.le_refl _) _;have Y3:C5 q Z3 Z4:=(C5.of E3).trans ((C5.of (.new _ _)).trans hX4);have Y2:C5 q Z2 Z4:=(C5.of E2).trans (hX3.trans Y3);have hX:ExX (H6 ((Z4.new [a1,a2,a3,a4,a5,b1,b2,b3,b4,b5]).upd Z.n [str o,.int .i64 0,.int .i64 0,str [],.slice (some ⟨Z4.n,0,none⟩) 2 2]) H) [str o,.int .i64 0,.int .i64 0,str [],.slice (some ⟨Z4.n,0,none⟩) 2 2] (.mk o 0 0 [] [ea,eb]):=by
   refine kQ (by rw [Cz];show Z4.n<Z4.n+1;omega) (by rw [BG fun h=>by have:=xP _ h;omega];exact cL) rfl (ha.E8 (Pe Y2 hqH)) (hb.E8 (Pe Y3 hqH))
  have p2:2 ^ (d+1+1)=2*2 ^ (d+1):=by rw [Nat.pow_succ];omega
  rcases hop with hop|hop
  ·exact ⟨_,_,_,_,_,rfl,hM.fin XF hM4 (by rw [D1 om,F5 om]),XF,hX,rY hop fa fb,om,om⟩
  ·exact ⟨_,_,_,_,_,rfl,hM.fin XF hM4 (by rw [D1 om,F5 om]),XF,hX,xQ hop fa fb,om,om⟩
theorem kR {q:Nat}{v vn:Value}{l:List Int}{nms:List By}(hN:dJ nms):∀ deep:Nat,deep<=4->dL q v vn l nms deep:=by
 intro deep;induction deep with
 | zero=>exact fun h=>Pf hN 0 h fun d h=>om
 | succ d ih=>exact fun hd=>Pf hN (d+1) hd fun d' h=>by cases h;exact ih om
end Go.Proofs.T
namespace Go.Proofs.T
open Go Go.Ab
theorem PU {w v:By}{ws:List By}:spJ (w::v::ws)=w++32::spJ (v::ws):=rfl
theorem rB:∀ ws:List By,(∀ w∈ws,w.length<=9)->(spJ ws).length<=10*ws.length:=by
 intro ws;induction ws with
 | nil=>intro _;simp [spJ]
 | cons w ws ih =>
   intro h;have h1:=h w (List.mem_cons_self ..);have h2:=ih fun x hx=>h x (List.mem_cons_of_mem _ hx);cases ws with
   | nil=>simp only [spJ,List.length_cons,List.length_nil];omega
   | cons v ws=>rw [PU,List.length_append,List.length_cons];simp only [List.length_cons] at h2 ⊢;omega
theorem rC:∀ ws:List By,(∀ w∈ws,w.length<=9)->Rs (spJ ws):=by
 intro ws;induction ws with
 | nil=>intro _;exact cy
 | cons w ws ih =>
   intro h;have h1:=Gr (s:=w) (by have:=h w (List.mem_cons_self ..);omega);have h2:=ih fun x hx=>h x (List.mem_cons_of_mem _ hx);cases ws with
   | nil=>exact h1
   | cons v ws=>rw [PU];exact KW (by rfl) h1 h2
theorem Mx {l:By}{ls:List By}:under (l::ls)=l++10::under ls:=by unfold under;simp
theorem cz:∀ ls:List By,(∀ l∈ls,Rs l)->Rs (under ls):=by
 intro ls;induction ls with
 | nil=>intro _;exact cy
 | cons l ls ih =>
   intro h;rw [Mx];exact KW (by rfl) (h l (List.mem_cons_self ..)) (ih fun x hx=>h x (List.mem_cons_of_mem _ hx))
theorem dA {n:Nat}:∀ ls:List By,(∀ l∈ls,l.length<=n)->(under ls).length<=(n+1)*ls.length:=by
 intro ls;induction ls with
 | nil=>intro _;simp [under]
 | cons l ls ih =>
   intro h;have h1:=h l (List.mem_cons_self ..);have h2:=ih fun x hx=>h x (List.mem_cons_of_mem _ hx);rw [Mx,List.length_append,List.length_cons,List.length_cons,Nat.mul_succ];omega
theorem kD {s:By}(h:Rs s):Aa s 0=true:=by
 have:=h [] rD rfl
 rwa [List.append_nil] at this
def rE (m:LM):Prop:=m.txt.length<=5/\∀ w∈m.txt,w.length<=9
theorem kE (m:LM):m.word.length<=9:=by cases m <;> simp [LM.word]
theorem Ac {m:LM}(hf:∀ e,m≠ .fml e) (h:rE m):(W6 m).length<=160/\Rs (W6 m):=by
 have e:W6 m=spJ (m.word::m.txt):=by cases m <;> first|rfl|exact absurd rfl (hf _)
 have hw:∀ w∈m.word::m.txt,w.length<=9:=by
  intro w hw;rcases List.mem_cons.1 hw with rfl|hw
  ·exact kE m
  ·exact h.2 w hw
 have h1:=rB _ hw;have h2:=h.1;simp only [List.length_cons] at h1;rw [e];exact ⟨om,rC _ hw⟩
structure PX (T:Tn):Prop where
 right:Ad T
 sm:T.Sm
 nm:T.name.length<=9
 D2:T.D2.length<=3
 C7:T.C7.length<=3
 Bi:∀ c∈T.C7,c.name.length<=9
 reqs:T.reqs.length<=2
 req:∀ r∈T.reqs,r.name.length<=9
 E9:T.E9.length<=3
 tie:∀ w∈T.E9,w.length<=9
 C3:T.C3.length<=2
 combo:∀ c∈T.C3,c.length<=5
 f:∃ k m,FSw k m T.f/\k<=12/\m<=16
theorem VY {T:Tn}(h:PX T):∀ m∈FQ T,(W6 m).length<=160/\Rs (W6 m):=by
 intro m hm;have n9:∀ {n:Int},SmN n->(dcN n.toNat).length<=9:=fun h=>Bv h;have s:=h.sm;obtain ⟨t1,t2,t3,t4,t5⟩:=s.tim;unfold FQ at hm;simp only [List.mem_cons,List.mem_append,List.mem_map,List.not_mem_nil,or_false] at hm;rcases hm with rfl|⟨l,hl,rfl⟩|⟨c,hc,rfl⟩|⟨r,hr,rfl⟩|rfl|rfl|hm|hm|⟨c,hc,rfl⟩|rfl|rfl
 ·exact Ac (fun e h=>by cases h) ⟨by simp [LM.txt],by simp only [LM.txt,List.mem_cons,List.not_mem_nil,or_false];rintro w rfl;exact h.nm⟩
 ·obtain ⟨h1,h2⟩:=s.lot l hl;exact Ac (fun e h=>by cases h) ⟨by simp [LM.txt],by simp only [LM.txt,List.mem_cons,List.not_mem_nil,or_false];rintro w (rfl|rfl|rfl) <;> first|exact n9 h1|exact n9 h2|decide⟩
 ·obtain ⟨-,h1,h2⟩:=s.Bi c hc;have hn:=h.Bi c hc;refine Ac (fun e h=>by cases h) ⟨?_,?_⟩
  ·cases c.less <;> simp [LM.txt]
  ·intro w hw;simp only [LM.txt,List.mem_cons,List.mem_append,List.not_mem_nil,or_false] at hw;rcases hw with (rfl|rfl|rfl|rfl)|hw
   ·exact hn
   ·split <;> decide
   ·exact n9 h1
   ·exact n9 h2
   ·split at hw
    ·rw [List.mem_singleton.1 hw];decide
    ·cases hw
 ·have h1:=s.req r hr;have hn:=h.req r hr;have Sq:=(h.right.req r hr).2.1;have hl:r.rel.length<=9:=by
   simp only [List.contains_cons,List.contains_nil,Bool.or_false,Bool.or_eq_true,beq_iff_eq] at Sq;rcases Sq with e|e <;> rw [e] <;> decide
  exact Ac (fun e h=>by cases h) ⟨by simp [LM.txt],by simp only [LM.txt,List.mem_cons,List.not_mem_nil,or_false];rintro w (rfl|rfl|rfl) <;> first|exact n9 h1|assumption⟩
 ·exact Ac (fun e h=>by cases h) ⟨by simp [LM.txt],by simp only [LM.txt,List.mem_cons,List.not_mem_nil,or_false];rintro w (rfl|rfl) <;> first|exact n9 s.low|exact n9 s.high⟩
 ·obtain ⟨k,m,hf,hk,hm⟩:=h.f;have h1:=hf.len 12 0 om;refine ⟨?_,?_⟩
  ·show ((LM.fml T.f).word++32::N4 12 0 T.f).length<=160;rw [List.length_append,List.length_cons];have:(LM.fml T.f).word.length=7:=rfl;omega
  ·show Rs ((LM.fml T.f).word++32::N4 12 0 T.f);exact KW (by rfl) (Gr (by simp [LM.word])) (hf.rs 12 0 om)
 ·split at hm
  ·cases hm
  ·rw [List.mem_singleton.1 hm];exact Ac (fun e h=>by cases h) ⟨by have:=h.E9;show T.E9.length<=5;omega,h.tie⟩
 ·split at hm
  ·cases hm
  ·rw [List.mem_singleton.1 hm];exact Ac (fun e h=>by cases h) ⟨by simp [LM.txt],by simp only [LM.txt,List.mem_cons,List.not_mem_nil,or_false];rintro w rfl;exact n9 s.D5⟩
 ·have h1:=s.combo c hc;refine Ac (fun e h=>by cases h) ⟨by have:=h.combo c hc;simp [LM.txt];omega,?_⟩;intro w hw;simp only [LM.txt,List.mem_map] at hw;obtain ⟨x,⟨n,hn,rfl⟩,rfl⟩:=hw;exact n9 (h1 n hn)
 ·exact Ac (fun e h=>by cases h) ⟨by simp [LM.txt],by simp only [LM.txt,List.mem_cons,List.not_mem_nil,or_false];rintro w rfl;exact n9 s.C1⟩
 ·exact Ac (fun e h=>by cases h) ⟨by simp [LM.txt],by simp only [LM.txt,List.mem_cons,List.not_mem_nil,or_false];rintro w (rfl|rfl|rfl|rfl|rfl) <;> first|exact n9 t1|exact n9 t2|exact n9 t3|exact n9 t4|exact n9 t5⟩
theorem VZ {T:Tn}(h:PX T):(FQ T).length<=17:=by
 have h1:=h.D2;have h2:=h.C7;have h3:=h.reqs;have h4:=h.C3;unfold FQ;simp only [List.length_cons,List.length_append,List.length_map,List.length_nil];split <;> split <;> simp only [List.length_cons,List.length_nil] <;> omega
theorem PY {T:Tn}(h:PX T):(Ae T).length<=4000/\Aa (Ae T) 0=true:=by
 have hl:=VY h;have hc:=VZ h;unfold Ae;constructor
 ·refine Nat.le_trans (dA (n:=160) _ fun l hm=>?_) (by rw [List.length_map];omega);obtain ⟨m,hm',rfl⟩:=List.mem_map.1 hm;exact (hl m hm').1
 ·refine kD (cz _ fun l hm=>?_);obtain ⟨m,hm',rfl⟩:=List.mem_map.1 hm;exact (hl m hm').2
end Go.Proofs.T
namespace Go.Proofs.T
open Go Go.Ab
open Nat (reduceMul reduceEqDiff reduceAdd)
def qW:List By:=[[112,114,105,99,101],[108,111,119],[115,112,101,101,100],[99,111,109,102,111,114,116],[119,101,105,103,104,116]]
theorem iI:dJ qW:=⟨by decide,by decide,by decide⟩
theorem Mv {Z:St}:Ev (go Tryz.prog HS (.fn 23) [] Z) (fun r=>∃ b Z',r=⟨false,.slice (some ⟨b,0,none⟩) 5 5,Z'⟩/\Ext Z Z'/\Z.n<=b/\b<Z'.n/\Z'.A5 b=some [str [112,114,105,99,101],str [108,111,119],str [115,112,101,101,100],str [99,111,109,102,111,114,116],str [119,101,105,103,104,116]]) ⟨⟩:=by
 refine D7 Tryz.func23 rfl rfl ?_;refine gS1 @Tryz.results23 ?_;exact ⟨_,_,rfl,eX,Nat.le_refl _,by simp,cL⟩
def GQ (q:Nat) (v:Value) (l:List Int) (τ:St):Prop:=∃ k,k<=l.length/\τ.A5 q=some [v,.int .i64 (k:Nat)]
theorem GQ.ext {q:Nat}{v:Value}{l:List Int}{τ τ':St}(h:GQ q v l τ) (hE:Ext τ τ') (hq:q<τ.n):GQ q v l τ':=by
 obtain ⟨k,h1,h2⟩:=h;exact ⟨k,h1,by rw [hE.A5 hq];exact h2⟩
theorem GQ.x {p q:Nat}{v:Value}{l:List Int}{τ τ':St}(h:GQ q v l τ) (hE:C5 p τ τ') (hq:q<τ.n) (hne:q≠p):GQ q v l τ':=by
 obtain ⟨k,h1,h2⟩:=h;exact ⟨k,h1,by rw [hE.A5 hq hne];exact h2⟩
theorem GQ.app {q lo size:Nat}{v w w':Value}{l:List Int}{τ τ':St}{rows:List (List Value)}(h:GQ q v l τ) (hA:App τ τ' w w') (ho:OL lo τ size w rows) (hq:q<τ.n) (hlo:q<lo):GQ q v l τ':=by
 obtain ⟨k,h1,h2⟩:=h;exact ⟨k,h1,by rw [A6 (hA.same q hq fun hb=>by have:=(ho.blk hb).1;omega)];exact h2⟩
theorem qX {Z τ:St}{q:Nat}{v:Value}{l:List Int}{H0 H:List Nat}(hl:Y8 (H6 Z H0) v l) (hll:l.length<=9223372036854775807) (hE:Ext Z τ) (hH:∀ c∈H,Z.n<=c\/c∈H0) (hq:q<τ.n) (hQ:GQ q v l τ) (hm:q∈H):MS H q v l τ:=by
 obtain ⟨k,h1,h2⟩:=hQ;exact ⟨hm,⟨k,h2,hq,h1⟩,hl.E8 (I5 hE.n fun c hc hn=>⟨fun h=>by rcases hH c h with h|h <;> first|omega|exact hn h,hE.row hc⟩),hll⟩
theorem nxg {Z τ:St}{q:Nat}{v:Value}{l:List Int}{H0:List Nat}{n:Int}(hl:Y8 (H6 Z H0) v l) (hll:l.length<=9223372036854775807) (hE:Ext Z τ) (hq0:Z.n<=q) (hq:q<τ.n) (hQ:GQ q v l τ) (h1:0<n) (h2:n<=100000) :
  Ev (go Tryz.prog HS (.fn 33) [.pointer (some ⟨q,0,none⟩),.int .i64 n] τ) (fun r=>∃ (x:Nat) (Z':St),r=⟨false,.int .i64 (x:Nat),Z'⟩/\(x:Int)<n/\Ext Z Z'/\GQ q v l Z'/\C5 q τ Z') ⟨⟩:=by
 refine (NI (qX (H:=q::H0) hl hll hE (fun c hc=>by rcases List.mem_cons.1 hc with rfl|h <;> first|exact .inl hq0|exact .inr h) hq hQ (by simp)) h1 h2).mono ?_;rintro r ⟨x,Z',rfl,hx,hM,hX⟩;obtain ⟨k,r1,r2,r3⟩:=hM.dK;exact ⟨x,Z',rfl,hx,hX.ext hE hq0,⟨k,r3,r1⟩,hX⟩
theorem OL.upd {lo p:Nat}{Z:St}{size:Nat}{v:Value}{rows:List (List Value)}{cs:List Value}(h:OL lo Z size v rows) (hp:p<lo):OL lo (Z.upd p cs) size v rows:=OL.R8 h (C5.refl.upd _) hp
structure P4 (q p:Nat) (Z Z':St):Prop where
 n:Z.n<=Z'.n
 same:∀ b,b<Z.n->b≠q->b≠p->Z'.h.get b=Z.h.get b
section
variable {p q:Nat} {Z Z' Z'':St}
theorem P4.refl:P4 q p Z Z:=⟨Nat.le_refl _,fun _ _ _ _=>rfl⟩
theorem P4.of (h:Ext Z Z'):P4 q p Z Z':=⟨h.n,fun b hb _ _=>h.same b hb⟩
theorem P4.xq (h:C5 q Z Z'):P4 q p Z Z':=⟨h.n,fun b hb h1 _=>h.same b hb h1⟩
theorem P4.xp (h:C5 p Z Z'):P4 q p Z Z':=⟨h.n,fun b hb _ h2=>h.same b hb h2⟩
theorem P4.trans (h:P4 q p Z Z') (k:P4 q p Z' Z''):P4 q p Z Z'':=⟨Nat.le_trans h.n k.n,fun b hb h1 h2=>by rw [k.same b (Nat.lt_of_lt_of_le hb h.n) h1 h2,h.same b hb h1 h2]⟩
theorem P4.upd {cs:List Value}(h:P4 q p Z Z'):P4 q p Z (Z'.upd p cs):=h.trans (.xp (C5.refl.upd _))
theorem P4.app {v v':Value}{lo size:Nat}{rows:List (List Value)}(hA:App Z' Z'' v v') (hE:P4 q p Z Z') (hl:OL lo Z' size v rows) (hlo:Z.n<=lo):P4 q p Z Z'' :=
 ⟨Nat.le_trans hE.n hA.n,fun c hc h1 h2=>by rw [hA.same c (Nat.lt_of_lt_of_le hc hE.n) (fun hb=>by have:=(hl.blk hb).1;omega),hE.same c hc h1 h2]⟩
theorem P4.ext {Z0:St}(h:P4 q p Z Z') (h0:Ext Z0 Z) (hq:Z0.n<=q) (hp:Z0.n<=p):Ext Z0 Z':=⟨Nat.le_trans h0.n h.n,fun b hb=>by rw [h.same b (Nat.lt_of_lt_of_le hb h0.n) om om,h0.same b hb]⟩
theorem P4.row {b:Nat}(h:P4 q p Z Z') (hb:b<Z.n) (h1:b≠q) (h2:b≠p):Z'.row b=Z.row b:=O4 (h.same b hb h1 h2)
theorem P4.A5 {b:Nat}(h:P4 q p Z Z') (hb:b<Z.n) (h1:b≠q) (h2:b≠p):Z'.A5 b=Z.A5 b:=A6 (h.same b hb h1 h2)
theorem OL.Pu {lo size:Nat}{v:Value}{rows:List (List Value)}(h:OL lo Z size v rows) (hE:P4 q p Z Z') (hq:q<lo) (hp:p<lo):OL lo Z' size v rows:=by
 refine h.E8 hE.n fun b hb=>?_;have:=h.blk hb;exact hE.same b this.2 om om
end
end Go.Proofs.T
namespace Go.Proofs.T
open Go Go.Ab
def Oj (L:List Lot):Prop:=(L.map Lot.id).Pairwise (fun a b=>a<b)
theorem cl:Oj []:=List.Pairwise.nil
theorem PS {L:List Lot}{x:Lot}(h:Oj L) (hx:∀ y∈L,y.id<x.id):Oj (L++[x]):=by
 unfold Oj at h ⊢;rw [List.map_append,List.pairwise_append];refine ⟨h,List.pairwise_singleton _ _,fun a ha b hb=>?_⟩;obtain ⟨y,hy,rfl⟩:=List.mem_map.1 ha;obtain ⟨z,hz,rfl⟩:=List.mem_map.1 hb;rw [List.mem_singleton.1 hz];exact hx y hy
theorem VU {L:List Lot}(h:Oj L):(L.map Lot.id).Nodup:=List.Pairwise.imp (fun h=>om) h
def JT:List By:=[[112,114,105,99,101],[115,112,101,101,100],[99,111,109,102,111,114,116]]
theorem ZK:∀ k:Nat,k<=3->(JT.take k).Nodup/\(∀ w∈JT.take k,(w=Di\/Y0 w=true)/\w.length<=9):=by
 intro k hk;have:k=0\/k=1\/k=2\/k=3:=om;rcases this with rfl|rfl|rfl|rfl <;> decide
def LH:List By:=[[115,112,101,101,100],[99,111,109,102,111,114,116],[119,101,105,103,104,116]]
theorem ZM:∀ k:Nat,k<=3->(LH.take k).Nodup/\(∀ w∈LH.take k,Y0 w=true/\w.length<=9):=by
 intro k hk;have:k=0\/k=1\/k=2\/k=3:=om;rcases this with rfl|rfl|rfl|rfl <;> decide
end Go.Proofs.T
