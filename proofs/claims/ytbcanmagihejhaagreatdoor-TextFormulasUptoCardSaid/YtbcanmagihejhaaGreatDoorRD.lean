/- The reference's maker: formulas. -/
import Derived.Test.YtbcanmagihejhaaGreatDoorTC
import Derived.Test.YtbcanmagihejhaaGreatDoorPB
import Derived.Test.YtbcanmagihejhaaGreatDoorRC
set_option linter.unusedSimpArgs false
set_option linter.unusedVariables false
namespace Go.Proofs.T
open Go Go.Ab
open Nat (reduceMul reduceEqDiff reduceAdd)
set_option maxRecDepth 100000
theorem MS.new {H:List Nat}{q:Nat}{v:Value}{l:List Int}{Z:St}{cs:List Value}{t:Option Nat}(h:MS H q v l Z):MS H q v l (Z.new cs t):=h.ext (.new _ _)
theorem as_extx {bs:List Nat}{i j b o n q:Nat}{a a':St}{ds:List Ab.Trace}(h:ExtX q a a') (hne:b≠q):allSame bs i ⟨b,o,n⟩ (.eff j a a'::ds)=allSame bs i ⟨b,o,n⟩ ds:=as_eff fun hlt=>h.same b hlt hne
structure NmsOk (nms:List By):Prop where
 all:∀ s∈nms,nameB s=true/\s≠minB/\s≠maxB/\s.length<=7
 pos:0<nms.length
 le:nms.length<=1000
theorem ops_at {x:Nat}(h:x<6):∃ o,sub ([str [43],str [45],str [42],str [47],str [109,105,110],str [109,97,120]]:List Value) x 1=some [str o]/\((o=[43]\/o=[45]\/o=[42]\/o=[47])\/(o=minB\/o=maxB)):=by
 have:x=0\/x=1\/x=2\/x=3\/x=4\/x=5:=om
 rcases this with rfl|rfl|rfl|rfl|rfl|rfl
 ·exact ⟨_,rfl,.inl (.inl rfl)⟩
 ·exact ⟨_,rfl,.inl (.inr (.inl rfl))⟩
 ·exact ⟨_,rfl,.inl (.inr (.inr (.inl rfl)))⟩
 ·exact ⟨_,rfl,.inl (.inr (.inr (.inr rfl)))⟩
 ·exact ⟨_,rfl,.inr (.inl rfl)⟩
 ·exact ⟨_,rfl,.inr (.inr rfl)⟩
theorem MS.fin {H H':List Nat}{q:Nat}{v:Value}{l:List Int}{Z Zm Z':St}(h0:MS H q v l Z) (hX:ExtX q Z Z') (hm:MS H' q v l Zm) (hr:Z'.orow q=Zm.orow q):MS H q v l Z':=by
 obtain ⟨k,h1,h2,h3⟩:=hm.mker
 exact ⟨h0.mem,⟨k,by rw [hr];exact h1,Nat.lt_of_lt_of_le h0.lt hX.n,h3⟩,h0.arg.keep (hX.keepH h0.mem),h0.len⟩
theorem keep_more {H:List Nat}{q:Nat}{Z Z':St}(hX:ExtX q Z Z') (hq:q∈H):Keep (hide Z H) (hide Z' (Z.n::H)) :=
 keep_hide hX.n fun c hc hm=>⟨fun h=>by rcases List.mem_cons.1 h with h|h <;> first|omega|exact hm h,hX.row hc fun e=>hm (e ▸ hq)⟩
theorem MS.more {H H':List Nat}{q:Nat}{v:Value}{l:List Int}{Z Zm:St}(h0:MS H q v l Z) (hX:ExtX q Z Zm) (hm:MS H' q v l Zm):MS (Z.n::H) q v l Zm :=
 ⟨List.mem_cons_of_mem _ h0.mem,hm.mker,h0.arg.keep (keep_more hX h0.mem),h0.len⟩
theorem keep_back {H:List Nat}{q p:Nat}{Z Z':St}{c1 c2:List Value}(hX:ExtX q Z Z') (hq:q∈H):Keep (hide Z (p::H)) (hide ((Z'.new c1).upd p c2) H):=by
 have hn:=hX.n
 refine keep_hide (by show Z.n<=Z'.n+1;omega) fun c hc hm=>?_
 have h1:c∉H:=fun h=>hm (List.mem_cons_of_mem _ h)
 have h2:c≠p:=fun h=>hm (by simp [h])
 exact ⟨h1,by rw [row_upd_ne h2,row_new_ne om,hX.row hc fun e=>h1 (e ▸ hq)]⟩
def TreeP (H:List Nat) (q:Nat) (v:Value) (l:List Int) (deep:Nat) (Z:St) (r:CR):Prop:=∃ row e k m Z',r=⟨false,.agg ⟨row⟩,Z'⟩/\MS H q v l Z'/\ExtX q Z Z'/\ExX (hide Z' H) row e/\FSw k m e/\k<=deep+1/\m+1<=2 ^ (deep+1)
def TreeS (q:Nat) (v vn:Value) (l:List Int) (nms:List By) (deep:Nat):Prop:=∀ {Z:St}{H:List Nat},(∀ x∈H,x<Z.n)->MS H q v l Z->SL (hide Z H) 1 vn (nms.map fun s=>[str s]) ->
  Ev (go Tryz.prog HS (.fn 34) [.pointer (some ⟨q,0,none⟩),.int .i64 (deep:Nat),vn] Z) (TreeP H q v l deep Z) ⟨⟩
set_option maxHeartbeats 16000000 in
theorem tree_step {q:Nat}{v vn:Value}{l:List Int}{nms:List By}(hN:NmsOk nms) (deep:Nat) (hd:deep<=4) (ih:∀ d,d+1=deep->TreeS q v vn l nms d):TreeS q v vn l nms deep:=by
 intro Z H hHlt hM hV
 have hq:=hM.lt
 have hqH:=hM.mem
 obtain ⟨na,nc,nb,no,ncs,rfl,n1,n2⟩:=SL.use' hV
 obtain ⟨nsp,rfl,n3,n4⟩:=n1 hN.pos
 rw [hide_n] at n3
 have nH:nb∉H:=fun hb=>by rw [hide_mem hb] at n4;cases n4
 have nq:nb≠q:=fun h=>nH (h ▸ hqH)
 rw [hide_row nH] at n4
 refine ev_go Tryz.func34 rfl rfl ?_
 refine gS ?_
 refine (nx_ok (n:=9) hM.new om om).mono ?_
 rintro r ⟨x1,Z1,rfl,hx1,hM1,hX1⟩
 have s1:=hX1.n
 simp only [new_n] at s1
 have X1:ExtX q Z Z1:=(ExtX.of (.new _ _)).trans hX1
 have o1:Z1.orow Z.n=some [str [],.int .i64 0,.int .i64 0,str [],.slice none 0 0]:=by rw [hX1.orow (by simp) om];exact cL
 by_cases leaf:deep=0\/x1<4
 ·have hc:(decide ((deep:Int)=0)=true)\/(decide ((deep:Int)=0)=false/\decide ((x1:Int)<4)=true):=by
   by_cases d0:deep=0
   ·exact .inl (by simp [d0])
   ·exact .inr ⟨by simp [d0],by have:x1<4:=om
                                simp;omega⟩
  obtain ⟨z,⟨d0,d1⟩|⟨d0,d1⟩⟩:∃ z:Int,(decide ((deep:Int)=0)=true/\decide (z<4)=true)\/(decide ((deep:Int)=0)=false/\decide ((x1:Int)<4)=true):=by
   rcases hc with d0|⟨d0,d1⟩
   ·exact ⟨0,.inl ⟨d0,rfl⟩⟩
   ·exact ⟨0,.inr ⟨d0,d1⟩⟩
  all_goals
   refine gS1 (aI @d0 (aI @d1 (aI @yu_t @yu_f))) ?_
   refine (nx_ok (n:=2) hM1 om om).mono ?_
   rintro r ⟨x2,Z2,rfl,hx2,hM2,hX2⟩
   have s2:=hX2.n
   have X2:ExtX q Z Z2:=X1.trans hX2
   have o2:Z2.orow Z.n=some [str [],.int .i64 0,.int .i64 0,str [],.slice none 0 0]:=by rw [hX2.orow om om];exact o1
   by_cases z2:x2=0
   ·have c2:decide ((x2:Int)=0)=true:=by simp [z2]
    refine gS1 @c2 ?_
    refine (nx_ok (n:=(nms.length:Nat)) hM2 (by have:=hN.pos;omega) (by have:=hN.le;omega)).mono ?_
    rintro r ⟨x3,Z3,rfl,hx3,hM3,hX3⟩
    have s3:=hX3.n
    have X3:ExtX q Z Z3:=X2.trans hX3
    have o3:Z3.orow Z.n=some [str [],.int .i64 0,.int .i64 0,str [],.slice none 0 0]:=by rw [hX3.orow om om];exact o2
    have m3:Z3.row nb=some ncs:=by rw [X3.row om nq];exact n4
    obtain ⟨nm,hnm⟩:=at_some (l:=nms) (k:=x3) om
    have hs:sub ncs (no+x3) 1=some [str nm]:=by have:=n2 x3 nm hnm;simpa using this
    refine gS1 (aI @m3 (aI @hs (aI @o3 @Tryz.results34))) ?_
    have XF:ExtX q Z (Z3.upd Z.n [str [110,97,109,101],.int .i64 0,.int .i64 0,str nm,.slice none 0 0]):=X3.updF (Nat.le_refl _) _
    obtain ⟨w1,w2,w3,w4⟩:=hN.all nm (List.mem_of_getElem? hnm)
    exact ⟨_,_,1,1,_,rfl,hM.fin XF hM3 (by rw [orow_upd_ne om]),XF,ex0x,fs_name w1 w2 w3 w4,om,by have:=Nat.one_le_two_pow (n:=deep);rw [Nat.pow_succ];omega⟩
   ·have c2:decide ((x2:Int)=0)=false:=by simp [z2]
    refine gS1 @c2 ?_
    refine (nx_ok (n:=30) hM2 om om).mono ?_
    rintro r ⟨x3,Z3,rfl,hx3,hM3,hX3⟩
    have s3:=hX3.n
    have X3:ExtX q Z Z3:=X2.trans hX3
    have o3:Z3.orow Z.n=some [str [],.int .i64 0,.int .i64 0,str [],.slice none 0 0]:=by rw [hX3.orow om om];exact o2
    refine gS ?_
    refine (nx_ok (n:=6) hM3.new om om).mono ?_
    rintro r ⟨x4,Z4,rfl,hx4,hM4,hX4⟩
    have s4:=hX4.n
    simp only [new_n] at s4
    have X4:ExtX q Z Z4:=X3.trans ((ExtX.of (.new _ _)).trans hX4)
    have o4:Z4.orow Z.n=some [str [],.int .i64 0,.int .i64 0,str [],.slice none 0 0]:=by rw [hX4.orow (by simp;omega) om,orow_new_ne om];exact o3
    have k4:Z4.row Z3.n=some [.int .i64 1,.int .i64 1,.int .i64 2,.int .i64 4,.int .i64 10,.int .i64 100]:=by rw [hX4.row (by simp) om];exact cL
    obtain ⟨dd,ix,hdd⟩:=mden_at hx4
    obtain ⟨dd1,dd100⟩:=mden_bd hdd
    refine gS1 (aI @k4 @ix) ?_
    refine (rmake_ok (n:=(x3:Int)) (d:=dd) om om om om om).mono ?_
    rintro r ⟨Z5,rfl,hE5⟩
    have s5:=hE5.n
    have X5:ExtX q Z Z5:=X4.trans (ExtX.of hE5)
    have o5:Z5.orow Z.n=some [str [],.int .i64 0,.int .i64 0,str [],.slice none 0 0]:=by rw [hE5.orow om];exact o4
    refine gS1 (aI @o5 @Tryz.results34) ?_
    obtain ⟨w1,w2⟩:=num_at (n:=x3) om hdd
    have XF:ExtX q Z (((Z5.new [.int .i64 0,.int .i64 0] (some 32)).upd Z5.n [.int .i64 (qn (x3:Int) dd),.int .i64 (qd (x3:Int) dd)]).upd Z.n [str [110,117,109],.int .i64 (qn (x3:Int) dd),.int .i64 (qd (x3:Int) dd),str [],.slice none 0 0]) :=
     ((X5.trans (ExtX.of (.new _ _))).updF om _).updF (Nat.le_refl _) _
    exact ⟨_,_,1,1,_,rfl,hM.fin XF hM4 (by rw [orow_upd_ne om,orow_upd_ne om,orow_new_ne om,hE5.orow om]),XF,ex0x,fs_num w1 w2,om,by have:=Nat.one_le_two_pow (n:=deep);rw [Nat.pow_succ];omega⟩
 ·have d0:decide ((deep:Int)=0)=false:=by simp;omega
  have d1:decide ((x1:Int)<4)=false:=by simp;omega
  obtain ⟨d,rfl⟩:∃ d,deep=d+1:=⟨deep-1,om⟩
  have e1:((d+1:Nat):Int)-1=(d:Nat):=om
  refine gS1 (aI @d0 (aI @d1 @e1)) ?_
  have hH1:∀ x∈Z.n::H,x<Z.n+1:=fun x hx=>by rcases List.mem_cons.1 hx with h|h <;> first|omega|(have:=hHlt x h;omega)
  refine (ih d rfl (H:=Z.n::H) (fun x hx=>by have:=hH1 x hx;omega) (hM.more X1 hM1) (SL.keep hV (keep_more X1 hqH))).mono ?_
  rintro r ⟨ra,ea,ka,ma,Z2,rfl,hM2,hX2,ha,fa,hka,hma⟩
  have s2:=hX2.n
  obtain ⟨a1,a2,a3,a4,a5,rfl⟩:=fc5 ha.to
  have X2:ExtX q Z Z2:=X1.trans hX2
  refine gS1 @e1 ?_
  obtain ⟨S2,hS2⟩:∃ S,((Z2.new [str [],.int .i64 0,.int .i64 0,str [],.slice none 0 0] (some 35)).upd Z2.n [a1,a2,a3,a4,a5])=S:=⟨_,rfl⟩
  rw [hS2]
  have E2:Ext Z2 S2:=by rw [<- hS2];exact eX
  have nS2:S2.n=Z2.n+1:=by rw [<- hS2];rfl
  have oS2:S2.orow Z2.n=some [a1,a2,a3,a4,a5]:=by rw [<- hS2];exact cL
  have XS2:ExtX q Z S2:=X2.trans (ExtX.of E2)
  refine (ih d rfl (H:=Z.n::H) (fun x hx=>by have:=hH1 x hx;omega) (hM2.ext E2) (SL.keep hV (keep_more XS2 hqH))).mono ?_
  rintro r ⟨rb,eb,kb,mb,Z3,rfl,hM3,hX3,hb,fb,hkb,hmb⟩
  have s3:=hX3.n
  obtain ⟨b1,b2,b3,b4,b5,rfl⟩:=fc5 hb.to
  have X3:ExtX q Z Z3:=XS2.trans hX3
  have o3:Z3.orow Z2.n=some [a1,a2,a3,a4,a5]:=by rw [hX3.orow om om];exact oS2
  refine gS ?_
  obtain ⟨S3,hS3⟩:∃ S,((Z3.new [str [],.int .i64 0,.int .i64 0,str [],.slice none 0 0] (some 35)).upd Z3.n [b1,b2,b3,b4,b5])=S:=⟨_,rfl⟩
  rw [hS3]
  have E3:Ext Z3 S3:=by rw [<- hS3];exact eX
  have nS3:S3.n=Z3.n+1:=by rw [<- hS3];rfl
  have oS3:S3.orow Z3.n=some [b1,b2,b3,b4,b5]:=by rw [<- hS3];exact cL
  have pS3:S3.orow Z2.n=some [a1,a2,a3,a4,a5]:=by rw [E3.orow om];exact o3
  have XS3:ExtX q Z S3:=X3.trans (ExtX.of E3)
  refine (nx_ok (n:=6) (hM3.ext E3).new om om).mono ?_
  rintro r ⟨x4,Z4,rfl,hx4,hM4,hX4⟩
  have s4:=hX4.n
  simp only [new_n] at s4
  have X4:ExtX q Z Z4:=XS3.trans ((ExtX.of (.new _ _)).trans hX4)
  have o4:Z4.orow Z.n=some [str [],.int .i64 0,.int .i64 0,str [],.slice none 0 0]:=by
   rw [hX4.orow (by simp;omega) om,orow_new_ne om,E3.orow om,hX3.orow om om,E2.orow om,hX2.orow om om];exact o1
  have p4:Z4.orow Z2.n=some [a1,a2,a3,a4,a5]:=by rw [hX4.orow (by simp;omega) om,orow_new_ne om];exact pS3
  have r4:Z4.orow Z3.n=some [b1,b2,b3,b4,b5]:=by rw [hX4.orow (by simp;omega) om,orow_new_ne om];exact oS3
  have k4:Z4.row S3.n=some [str [43],str [45],str [42],str [47],str [109,105,110],str [109,97,120]]:=by rw [hX4.row (by simp) om];exact cL
  refine gS ?_
  refine (mod1_ok (n:=(x1:Int)+(x4:Int)) (m:=6) (by unfold In64;omega) om om).mono ?_
  rintro r rfl
  have e6:((x1:Int)+(x4:Int)) % 6=(((x1+x4) % 6:Nat):Int):=om
  obtain ⟨o,ho,hop⟩:=ops_at (x:=(x1+x4) % 6) om
  have p4r:=row_of p4
  have r4r:=row_of r4
  simp (maxSteps:=8000000) (disch:=first|exact dS|fail) only [↓bD,bW,reduceMul,reduceEqDiff,reduceAdd,Nat.reduceBEq,reduceIte,Option.isNone_none,e6,k4,ho,p4r,r4r,o4,asx (Ext.refl _),Tryz.results34]
  refine Must.intro (by simp (disch:=omega) only [as_read,as_upd,as_newb,asx (Ext.refl _),as_extx (b:=Z3.n) hX4 om,as_extx (b:=Z2.n) hX4 om,as_extx (b:=S3.n) hX4 om];first|done|rfl) ?_
  try simp (maxSteps:=8000000) (disch:=first|exact dS|fail) only [↓bD,bW,reduceMul,reduceEqDiff,reduceAdd,Nat.reduceBEq,reduceIte,Option.isNone_none,Tryz.results34]
  have XF:ExtX q Z ((Z4.new [a1,a2,a3,a4,a5,b1,b2,b3,b4,b5]).upd Z.n [str o,.int .i64 0,.int .i64 0,str [],.slice (some ⟨Z4.n,0,none⟩) 2 2]):=(X4.trans (ExtX.of (.new _ _))).updF (Nat.le_refl _) _
  have Y3:ExtX q Z3 Z4:=(ExtX.of E3).trans ((ExtX.of (.new _ _)).trans hX4)
  have Y2:ExtX q Z2 Z4:=(ExtX.of E2).trans (hX3.trans Y3)
  have hX:ExX (hide ((Z4.new [a1,a2,a3,a4,a5,b1,b2,b3,b4,b5]).upd Z.n [str o,.int .i64 0,.int .i64 0,str [],.slice (some ⟨Z4.n,0,none⟩) 2 2]) H) [str o,.int .i64 0,.int .i64 0,str [],.slice (some ⟨Z4.n,0,none⟩) 2 2] (.mk o 0 0 [] [ea,eb]):=by
   refine ex2x (by rw [hide_n];show Z4.n<Z4.n+1;omega) (by rw [hide_row fun h=>by have:=hHlt _ h;omega];exact cL) rfl (ha.keep (keep_back Y2 hqH)) (hb.keep (keep_back Y3 hqH))
  have p2:2 ^ (d+1+1)=2*2 ^ (d+1):=by rw [Nat.pow_succ];omega
  rcases hop with hop|hop
  ·exact ⟨_,_,_,_,_,rfl,hM.fin XF hM4 (by rw [orow_upd_ne om,orow_new_ne om]),XF,hX,fs_bin hop fa fb,om,om⟩
  ·exact ⟨_,_,_,_,_,rfl,hM.fin XF hM4 (by rw [orow_upd_ne om,orow_new_ne om]),XF,hX,fs_mm hop fa fb,om,om⟩
theorem tree_ok {q:Nat}{v vn:Value}{l:List Int}{nms:List By}(hN:NmsOk nms):∀ deep:Nat,deep<=4->TreeS q v vn l nms deep:=by
 intro deep
 induction deep with
 | zero=>exact fun h=>tree_step hN 0 h fun d h=>om
 | succ d ih=>exact fun hd=>tree_step hN (d+1) hd fun d' h=>by cases h;exact ih om
end Go.Proofs.T
namespace Go.Proofs.T
open Go Go.Ab
set_option maxRecDepth 100000
structure MadeT (T:Tn):Prop where
 right:RightT T
 sm:T.Sm
 nm:T.name.length<=9
 lots:T.lots.length<=3
 crits:T.crits.length<=3
 crit:∀ c∈T.crits,c.name.length<=9
 reqs:T.reqs.length<=2
 req:∀ r∈T.reqs,r.name.length<=9
 ties:T.ties.length<=3
 tie:∀ w∈T.ties,w.length<=9
 combos:T.combos.length<=2
 combo:∀ c∈T.combos,c.length<=5
 f:∃ k m,FSw k m T.f/\k<=12/\m<=16
end Go.Proofs.T
namespace Go.Proofs.T
open Go Go.Ab
open Nat (reduceMul reduceEqDiff reduceAdd)
set_option maxRecDepth 100000
def madeN:List By:=[[112,114,105,99,101],[108,111,119],[115,112,101,101,100],[99,111,109,102,111,114,116],[119,101,105,103,104,116]]
theorem madeN_ok:NmsOk madeN:=⟨by decide,by decide,by decide⟩
theorem names_ok {Z:St}:Ev (go Tryz.prog HS (.fn 23) [] Z) (fun r=>∃ b Z',r=⟨false,.slice (some ⟨b,0,none⟩) 5 5,Z'⟩/\Ext Z Z'/\Z.n<=b/\b<Z'.n/\Z'.orow b=some [str [112,114,105,99,101],str [108,111,119],str [115,112,101,101,100],str [99,111,109,102,111,114,116],str [119,101,105,103,104,116]]) ⟨⟩:=by
 refine ev_go Tryz.func23 rfl rfl ?_
 refine gS1 @Tryz.results23 ?_
 exact ⟨_,_,rfl,eX,Nat.le_refl _,by simp,cL⟩
def GQ (q:Nat) (v:Value) (l:List Int) (τ:St):Prop:=∃ k,k<=l.length/\τ.orow q=some [v,.int .i64 (k:Nat)]
theorem GQ.ext {q:Nat}{v:Value}{l:List Int}{τ τ':St}(h:GQ q v l τ) (hE:Ext τ τ') (hq:q<τ.n):GQ q v l τ':=by
 obtain ⟨k,h1,h2⟩:=h;exact ⟨k,h1,by rw [hE.orow hq];exact h2⟩
theorem GQ.x {p q:Nat}{v:Value}{l:List Int}{τ τ':St}(h:GQ q v l τ) (hE:ExtX p τ τ') (hq:q<τ.n) (hne:q≠p):GQ q v l τ':=by
 obtain ⟨k,h1,h2⟩:=h;exact ⟨k,h1,by rw [hE.orow hq hne];exact h2⟩
theorem GQ.app {q lo size:Nat}{v w w':Value}{l:List Int}{τ τ':St}{rows:List (List Value)}(h:GQ q v l τ) (hA:App τ τ' w w') (ho:OL lo τ size w rows) (hq:q<τ.n) (hlo:q<lo):GQ q v l τ':=by
 obtain ⟨k,h1,h2⟩:=h
 exact ⟨k,h1,by rw [orow_congr (hA.same q hq fun hb=>by have:=(ho.blk hb).1;omega)];exact h2⟩
theorem mk_ms {Z τ:St}{q:Nat}{v:Value}{l:List Int}{H0 H:List Nat}(hl:ArgInts (hide Z H0) v l) (hll:l.length<=9223372036854775807) (hE:Ext Z τ) (hH:∀ c∈H,Z.n<=c\/c∈H0) (hq:q<τ.n) (hQ:GQ q v l τ) (hm:q∈H):MS H q v l τ:=by
 obtain ⟨k,h1,h2⟩:=hQ
 exact ⟨hm,⟨k,h2,hq,h1⟩,hl.keep (keep_hide hE.n fun c hc hn=>⟨fun h=>by rcases hH c h with h|h <;> first|omega|exact hn h,hE.row hc⟩),hll⟩
theorem nxg {Z τ:St}{q:Nat}{v:Value}{l:List Int}{H0:List Nat}{n:Int}(hl:ArgInts (hide Z H0) v l) (hll:l.length<=9223372036854775807) (hE:Ext Z τ) (hq0:Z.n<=q) (hq:q<τ.n) (hQ:GQ q v l τ) (h1:0<n) (h2:n<=100000) :
  Ev (go Tryz.prog HS (.fn 33) [.pointer (some ⟨q,0,none⟩),.int .i64 n] τ) (fun r=>∃ (x:Nat) (Z':St),r=⟨false,.int .i64 (x:Nat),Z'⟩/\(x:Int)<n/\Ext Z Z'/\GQ q v l Z'/\ExtX q τ Z') ⟨⟩:=by
 refine (nx_ok (mk_ms (H:=q::H0) hl hll hE (fun c hc=>by rcases List.mem_cons.1 hc with rfl|h <;> first|exact .inl hq0|exact .inr h) hq hQ (by simp)) h1 h2).mono ?_
 rintro r ⟨x,Z',rfl,hx,hM,hX⟩
 obtain ⟨k,r1,r2,r3⟩:=hM.mker
 exact ⟨x,Z',rfl,hx,hX.ext hE hq0,⟨k,r3,r1⟩,hX⟩
theorem OL.upd {lo p:Nat}{Z:St}{size:Nat}{v:Value}{rows:List (List Value)}{cs:List Value}(h:OL lo Z size v rows) (hp:p<lo):OL lo (Z.upd p cs) size v rows:=OL.keepX h (ExtX.refl.upd _) hp
structure ExtM (q p:Nat) (Z Z':St):Prop where
 n:Z.n<=Z'.n
 same:∀ b,b<Z.n->b≠q->b≠p->Z'.h.get b=Z.h.get b
section
variable {p q:Nat} {Z Z' Z'':St}
theorem ExtM.refl:ExtM q p Z Z:=⟨Nat.le_refl _,fun _ _ _ _=>rfl⟩
theorem ExtM.of (h:Ext Z Z'):ExtM q p Z Z':=⟨h.n,fun b hb _ _=>h.same b hb⟩
theorem ExtM.xp (h:ExtX p Z Z'):ExtM q p Z Z':=⟨h.n,fun b hb _ h2=>h.same b hb h2⟩
theorem ExtM.trans (h:ExtM q p Z Z') (k:ExtM q p Z' Z''):ExtM q p Z Z'':=⟨Nat.le_trans h.n k.n,fun b hb h1 h2=>by rw [k.same b (Nat.lt_of_lt_of_le hb h.n) h1 h2,h.same b hb h1 h2]⟩
theorem ExtM.upd {cs:List Value}(h:ExtM q p Z Z'):ExtM q p Z (Z'.upd p cs):=h.trans (.xp (ExtX.refl.upd _))
theorem ExtM.app {v v':Value}{lo size:Nat}{rows:List (List Value)}(hA:App Z' Z'' v v') (hE:ExtM q p Z Z') (hl:OL lo Z' size v rows) (hlo:Z.n<=lo):ExtM q p Z Z'' :=
 ⟨Nat.le_trans hE.n hA.n,fun c hc h1 h2=>by rw [hA.same c (Nat.lt_of_lt_of_le hc hE.n) (fun hb=>by have:=(hl.blk hb).1;omega),hE.same c hc h1 h2]⟩
theorem ExtM.ext {Z0:St}(h:ExtM q p Z Z') (h0:Ext Z0 Z) (hq:Z0.n<=q) (hp:Z0.n<=p):Ext Z0 Z':=⟨Nat.le_trans h0.n h.n,fun b hb=>by rw [h.same b (Nat.lt_of_lt_of_le hb h0.n) om om,h0.same b hb]⟩
theorem ExtM.row {b:Nat}(h:ExtM q p Z Z') (hb:b<Z.n) (h1:b≠q) (h2:b≠p):Z'.row b=Z.row b:=row_congr (h.same b hb h1 h2)
theorem ExtM.orow {b:Nat}(h:ExtM q p Z Z') (hb:b<Z.n) (h1:b≠q) (h2:b≠p):Z'.orow b=Z.orow b:=orow_congr (h.same b hb h1 h2)
end
end Go.Proofs.T
namespace Go.Proofs.T
open Go Go.Ab
open Nat (reduceMul reduceEqDiff reduceAdd)
set_option maxRecDepth 100000
set_option maxHeartbeats 8000000 in
theorem rtree_ok {Z:St}{v vn:Value}{l:List Int}{nms:List By}(hN:NmsOk nms) (H0:List Nat) (hH0:∀ c∈H0,c<Z.n) (hl:ArgInts (hide Z H0) v l) (hll:l.length<=9223372036854775807) (hV:SL (hide Z H0) 1 vn (nms.map fun s=>[str s])) :
  Ev (go Tryz.prog HS (.fn 22) [v,vn] Z) (fun r=>∃ row e k m Z',r=⟨false,.agg ⟨row⟩,Z'⟩/\Ext Z Z'/\ExX (hide Z' H0) row e/\FSw k m e/\k<=5/\m<=31) ⟨⟩:=by
 obtain ⟨d0,n0,e0,rfl⟩:∃ a n c,v= .slice a n c:=by
  obtain ⟨a,c,b,off,cells,h,-⟩:=hl.1.use;exact ⟨a,_,c,h⟩
 obtain ⟨d1,n1,e1,rfl⟩:∃ a n c,vn= .slice a n c:=by
  obtain ⟨a,c,b,off,cells,h,-⟩:=SL.use' hV;exact ⟨a,_,c,h⟩
 refine ev_go Tryz.func22 rfl rfl ?_
 refine gS1 (aI @ze75 @bv75) ?_
 obtain ⟨S,hS⟩:∃ S,((Z.new [str [],.int .i64 0,.int .i64 0,str [],.slice none 0 0] (some 35)).new [.slice d0 n0 e0,.int .i64 0])=S:=⟨_,rfl⟩
 have ES:Ext Z S:=by rw [<- hS];exact eX
 have nS:S.n=Z.n+2:=by rw [<- hS];rfl
 have oz:S.orow Z.n=some [str [],.int .i64 0,.int .i64 0,str [],.slice none 0 0]:=by rw [<- hS];exact cL
 have oq:S.orow (Z.n+1)=some [.slice d0 n0 e0,.int .i64 0]:=by rw [<- hS];exact cL
 have QS:GQ (Z.n+1) (.slice d0 n0 e0) l S:=⟨0,om,oq⟩
 rw [hS]
 refine (nxg (n:=5) hl hll ES om om QS om om).mono ?_
 rintro r ⟨x,Z1,rfl,hx,E1,Q1,X1⟩
 have k1:=X1.n
 refine gS ?_
 have hsl:SL (hide Z1 (Z.n::(Z.n+1)::H0)) 1 (.slice d1 n1 e1) (nms.map fun s=>[str s]):=SL.keep hV (keep_hide E1.n fun c hc hm=>⟨fun h=>by
  rcases List.mem_cons.1 h with h|h
  ·omega
  ·rcases List.mem_cons.1 h with h|h
   ·omega
   ·exact hm h,by rw [E1.row hc]⟩)
 refine (tree_ok hN x om (H:=Z.n::(Z.n+1)::H0) (fun c hc=>by
  rcases List.mem_cons.1 hc with h|h
  ·omega
  ·rcases List.mem_cons.1 h with h|h
   ·omega
   ·have:=hH0 c h;omega) (mk_ms hl hll E1 (fun c hc=>by
  rcases List.mem_cons.1 hc with h|h
  ·exact .inl om
  ·rcases List.mem_cons.1 h with h|h
   ·exact .inl om
   ·exact .inr h) om Q1 (by simp)) hsl).mono ?_
 rintro r ⟨row,e,k,m,Z2,rfl,hM2,X2,hx2,hf,hk,hm⟩
 have k2:=X2.n
 obtain ⟨x1,x2,x3,x4,x5,rfl⟩:=fc5 hx2.to
 have rz:Z2.orow Z.n=some [str [],.int .i64 0,.int .i64 0,str [],.slice none 0 0]:=by rw [X2.orow om om,X1.orow om om];exact oz
 refine gS1 (aI @rz @Tryz.results22) ?_
 have hmx:m<=31:=by
  have:2 ^ (x+1)<=32:=Nat.le_trans (Nat.pow_le_pow_right om (show x+1<=5 by omega)) (by decide)
  omega
 refine ⟨_,e,k,m,_,rfl,(X2.ext E1 om).upd om _,?_,hf,om,hmx⟩
 refine hx2.keep (keep_hide (by simp) fun c hc hm=>⟨fun h=>hm (by simp [h]),?_⟩)
 rw [row_upd_ne fun e=>hm (by simp [e])]
end Go.Proofs.T
