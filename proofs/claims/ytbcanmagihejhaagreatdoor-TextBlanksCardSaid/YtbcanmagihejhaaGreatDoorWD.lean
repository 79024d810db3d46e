/- Arguments: small arrays of bytes. -/
import Derived.Test.YtbcanmagihejhaaGreatDoorWA
import Derived.Test.YtbcanmagihejhaaGreatDoorWC
import Derived.Test.YtbcanmagihejhaaGreatDoorQB
set_option linter.unusedSimpArgs false
set_option linter.unusedVariables false
namespace Go.Proofs.T
open Go Go.Ab Go.Ab.Args
theorem u8_in {P:Program}{Z:St}{t:TypeId}(ht:P.underlying t=some (.int .u8)){f:Nat}{cs:List Value}(h:AbIn P Z f t cs):∃ n:Nat,cs=[.int .u8 (n:Nat)]/\n<256:=by
 cases f with
 | zero=>exact h.elim
 | succ f =>
   unfold AbIn at h
   rw [ht] at h
   obtain ⟨n,h1,h2⟩:=h
   have e1:IntKind.u8.min=0:=rfl
   have e2:IntKind.u8.max=255:=rfl
   simp only [Lit.wf,Bool.and_eq_true,decide_eq_true_eq,e1,e2] at h2
   refine ⟨n.toNat,?_,om⟩
   rw [h1,show ((n.toNat:Nat):Int)=n by omega]
theorem ai_array {P:Program}{Z:St}{t e:TypeId}{n:Nat}(ht:P.underlying t=some (.array n e)){f:Nat}{cs:List Value}(h:AbIn P Z f t cs):∃ (g:Nat) (ps:List (List Value)),cs=ps.flatten/\ps.length=n/\∀ p∈ps,AbIn P Z g e p:=by
 cases f with
 | zero=>exact h.elim
 | succ f =>
   unfold AbIn at h
   rw [ht] at h
   obtain ⟨ps,h1,h2,h3⟩:=h
   exact ⟨f,ps,h1,h2,fun p hp=>(h3 p hp).2⟩
theorem four_in {Z:St}{f:Nat}{cs:List Value}(h:AbIn Tryz.prog Z f 65 cs):∃ B:Nat->Nat,cs=row4 B/\∀ j,B j<256:=by
 obtain ⟨g,ps,rfl,p1,p2⟩:=ai_array Tryz.underlying65 h
 match ps,p1,p2 with
 | [x0,x1,x2,x3],_,p2 =>
   obtain ⟨a0,rfl,m0⟩:=u8_in Tryz.underlying5 (p2 x0 (by simp))
   obtain ⟨a1,rfl,m1⟩:=u8_in Tryz.underlying5 (p2 x1 (by simp))
   obtain ⟨a2,rfl,m2⟩:=u8_in Tryz.underlying5 (p2 x2 (by simp))
   obtain ⟨a3,rfl,m3⟩:=u8_in Tryz.underlying5 (p2 x3 (by simp))
   refine ⟨fun j=>if j=0 then a0 else if j=1 then a1 else if j=2 then a2 else a3,rfl,fun j=>?_⟩
   dsimp only
   split
   ·exact m0
   ·split
    ·exact m1
    ·split
     ·exact m2
     ·exact m3
end Go.Proofs.T
namespace Go.Proofs.T
open Go Go.Ab
open Nat (reduceMul reduceEqDiff reduceAdd)
set_option maxRecDepth 100000
theorem parseT_ok {s:By}{T:Tn}(h:s.length<=4000) (hp:parseS s= .ok T):parseT s= .ok T:=by
 unfold parseT
 rw [if_neg om];exact hp
set_option maxHeartbeats 32000000 in
theorem blanks_walk {B:Nat->Nat}(hB:∀ j,B j<256){fst:Nat}(hf:fst<256){Z:St}{v:Value}{l:List Int}(h1n:1<Z.n) (hl:ArgInts (hide Z []) v l) (hll:l.length<=9223372036854775807) (hp:Z.read 1 0 20=some pows) :
  Ev (go Tryz.prog HS (.fn 8) [v,.agg ⟨row4 B⟩,.int .u8 (fst:Nat)] Z) (fun r=>∃ Z',r=⟨false,.bool true,Z'⟩) ⟨⟩:=by
 have hv:∃ a n c,v= .slice a n c:=by
  obtain ⟨a,c,b,off,cells,h,-⟩:=hl.1.use;exact ⟨a,_,c,h⟩
 have hvc:cellsL v=[v]/\isTup v=false:=by obtain ⟨a,n,c,rfl⟩:=hv;exact ⟨rfl,rfl⟩
 have hr4:sub (row4 B) 0 4=some (row4 B):=rfl
 have hl4:(row4 B).length=4:=rfl
 have hsan:∀ (cs:List Value) (t:Option Nat),go Tryz.prog HS (.fn 12) [] (Z.new cs t)=some ⟨false,.bool true,Z.new cs t⟩:=fun cs t=>sanity_ok (by rw [read_new_ne _ _ _ _ om];exact hp)
 refine ev_go Tryz.func8 rfl rfl ?_
 refine gS1 (aI (hvc.1) (aI (hvc.2) (aI @hr4 (aI @hl4 @hsan)))) ?_
 obtain ⟨S0,hS0⟩:∃ S,Z.new (row4 B)=S:=⟨_,rfl⟩
 rw [hS0]
 have E0:Ext Z S0:=by rw [<- hS0];exact eX
 have rb0:S0.orow Z.n=some (row4 B):=by rw [<- hS0];exact cL
 have n0:S0.n=Z.n+1:=by rw [<- hS0];rfl
 clear hS0
 refine (rmade_ok [] (by simp) (hl.keep (keep_ext E0)) hll).mono ?_
 rintro r ⟨ca,T,Z1,rfl,E1,hT,hM⟩
 have hT:TnAt Z1 ca T:=hT
 have n1:=E1.n
 have hca:=hT.len
 have hfa:sub ca 0 20=some ca:=sub_full om om
 refine gS1 (aI @hca @hfa) ?_
 obtain ⟨S2,hS2⟩:∃ S,(Z1.new [str [],.slice none 0 0,.slice none 0 0,.slice none 0 0,.int .i64 0,.int .i64 0,str [],.int .i64 0,.int .i64 0,str [],.slice none 0 0,.slice none 0 0,.int .i64 0,.slice none 0 0,.int .i64 0,.int .i64 0,.int .i64 0,.int .i64 0,.int .i64 0,.int .i64 0] (some 41)).upd Z1.n ca=S:=⟨_,rfl⟩
 try rw [hS2]
 have E2:Ext Z1 S2:=by rw [<- hS2];exact eX
 have n2:S2.n=Z1.n+1:=by rw [<- hS2];rfl
 have rt2:S2.orow Z1.n=some ca:=by rw [<- hS2];exact cL
 clear hS2
 have hT2:=hT.mono E2
 have hfa:sub ca 0 20=some ca:=sub_full om om
 try simp (maxSteps:=8000000) (disch:=first|exact dS|fail) only [↓bD,bW,reduceMul,reduceEqDiff,reduceAdd,Nat.reduceBEq,reduceIte,Option.isNone_none,row_of rt2,hfa]
 refine (rPrint_ok hT2 hM.right hM.sm (made_text hM).1).mono ?_
 rintro r ⟨Z3,rfl,E3⟩
 have n3:=E3.n
 obtain ⟨-,hnl⟩:=lin_all (good_lm hM.right).each
 have rb3:Z3.orow Z.n=some (row4 B):=by rw [E3.orow om,E2.orow om,E1.orow om];exact rb0
 have hul:(under ((lmOf T).map lineP)).length<=2737:=(made_sub hM (List.Sublist.refl (lmOf T))).1
 refine gS ?_
 refine (blanks_loop (ls:=(lmOf T).map lineP) (B:=B) (bb:=Z.n) hB om hnl rb3 om ⟨fR,fR,fR,fR,fR,fR,fR,fR⟩ (fR)).mono ?_
 rintro r ⟨fr,τ,v',rfl,E4,ho,g2,g7,g8,g10,g11⟩
 have n4:=E4.n
 obtain ⟨w1,w2,w3⟩:=blanks_wide hM (bl:=blF B) (fun k=>blF_le k)
 have hW:wideF (blF B) (under ((lmOf T).map lineP)) 0=wideF (blF B) (printT T) 0:=rfl
 rw [hW] at g10
 have hP:=parseT_ok w3 w1
 refine gS1 @g10 ?_
 refine (Parse_ok w2.1 w2.2.1 w2.2.2).mono ?_
 rw [hP]
 rintro r ⟨Z5,cb,rfl,E5,hT5⟩
 have hT5:TnAt Z5 cb T:=hT5 [] (by simp)
 have n5:=E5.n
 have hcb:=hT5.len
 obtain ⟨L,hLd⟩:∃ L,((lmOf T).map lineP).map (fun l=>l++[10])=L:=⟨_,rfl⟩
 rw [hLd] at ho
 have hLl:L.length=(lmOf T).length:=by rw [<- hLd];simp
 have hLf:L.flatten.length<=100000:=by rw [<- hLd];show (under ((lmOf T).map lineP)).length<=100000;omega
 have hLc:=made_count hM
 have hL0:0<L.length:=by rw [hLl];unfold lmOf;simp
 obtain ⟨va,hva⟩:∃ a,v'= .slice a L.length L.length:=by obtain ⟨a,h⟩:=OL.shape ho;exact ⟨a,by rw [h];simp⟩
 have e1:((fst:Nat):Int).tmod ((L.length:Nat):Int)=((fst % L.length:Nat):Int):=rfl
 have e2:IntKind.i64.wrap ((fst:Nat):Int)=((fst:Nat):Int):=wrap64_in om om
 have hlt:fst % L.length<L.length:=Nat.mod_lt _ hL0
 have e3:decide (L.length=0)=false:=decide_eq_false om
 have e4:decide (((L.length:Nat):Int)=0)=false:=decide_eq_false om
 subst hva
 refine gS1 (aI @g2 (aI @g7 (aI @g8 (aI @g11 (aI @hcb (aI @e1 (aI @e2 (aI @e3 @e4)))))))) ?_
 obtain ⟨S6,hS6⟩:∃ S,(Z5.new [str [],.slice none 0 0,.slice none 0 0,.slice none 0 0,.int .i64 0,.int .i64 0,str [],.int .i64 0,.int .i64 0,str [],.slice none 0 0,.slice none 0 0,.int .i64 0,.slice none 0 0,.int .i64 0,.int .i64 0,.int .i64 0,.int .i64 0,.int .i64 0,.int .i64 0] (some 41)).upd Z5.n cb=S:=⟨_,rfl⟩
 try rw [hS6]
 have E6:Ext Z5 S6:=by rw [<- hS6];exact eX
 have n6:S6.n=Z5.n+1:=by rw [<- hS6];rfl
 have ru6:S6.orow Z5.n=some cb:=by rw [<- hS6];exact cL
 clear hS6
 have hv6:Strs S6 (.slice va L.length L.length) L:=OStrs.strs (lo:=Z3.n) (OL.ext ho (E5.trans E6))
 refine (turn_loop (L:=L) (n:=fst % L.length) hlt om hLf hv6 (fR1 g7) (fR1 g8) (fR) (fR) (fR) (fR1 g11) (fR) (fR) (fR)).mono ?_
 rintro r ⟨fr2,rfl,k7,k8,k17,k18,k19,k21⟩
 have hrot:(rot (fst % L.length) L).flatten=under (rot (fst % L.length) ((lmOf T).map lineP)):=by
  have:=under_rot (fst % L.length) ((lmOf T).map lineP)
  rw [hLd] at this
  exact this
 rw [hrot] at k21
 obtain ⟨U,u1,u2,u3,u4,u5,u6,u7,u8,u9⟩:=turned_text hM (n:=fst % L.length)
 have hPu:=parseT_ok u3 u1
 refine gS1 @k21 ?_
 refine (Parse_ok u2.1 u2.2.1 u2.2.2).mono ?_
 rw [hPu]
 rintro r ⟨Z7,cu,rfl,E7,hT7⟩
 have hT7:TnAt Z7 cu U:=hT7 [] (by simp)
 have n7:=E7.n
 have hcu:=hT7.len
 have hfu:sub cu 0 20=some cu:=sub_full om om
 have hfb:sub cb 0 20=some cb:=sub_full om om
 have hE2_7:Ext S2 Z7:=(((E3.trans E4).trans E5).trans E6).trans E7
 have rt7:Z7.orow Z1.n=some ca:=by rw [hE2_7.orow om];exact rt2
 have ru7:Z7.orow Z5.n=some cb:=by rw [E7.orow om];exact ru6
 have E8:Ext Z7 ((Z7.new [str [],.slice none 0 0,.slice none 0 0,.slice none 0 0,.int .i64 0,.int .i64 0,str [],.int .i64 0,.int .i64 0,str [],.slice none 0 0,.slice none 0 0,.int .i64 0,.slice none 0 0,.int .i64 0,.int .i64 0,.int .i64 0,.int .i64 0,.int .i64 0,.int .i64 0] (some 41)).upd Z7.n cu):=eX
 have mT:=hT2.mono (hE2_7.trans E8)
 have mB:=hT5.mono ((E6.trans E7).trans E8)
 have mU:=hT7.mono E8
 have rtr:=row_of rt7
 have rur:=row_of ru7
 obtain ⟨vl,vc,vr,ex,vt,vk,hq,q2,q3,q4,q5,q6,q7⟩:=mT.parts
 obtain ⟨ul,uc,ur,ey,ut,uk,hu,k2,k3,k4,k5,k6,k77⟩:=mU.parts
 obtain ⟨ya,yc,yb,yo,ycs,rfl,-,-⟩:=q2.use
 obtain ⟨ya',yc',yb',yo',ycs',rfl,-,-⟩:=k2.use
 obtain ⟨za,zc,zb,zo,zcs,rfl,-,-⟩:=q3.use
 obtain ⟨za',zc',zb',zo',zcs',rfl,-,-⟩:=k3.use
 have tq:∀ (t:Tim),[Value.int .i64 t.q,.int .i64 t.b,.int .i64 t.g,.int .i64 t.p,.int .i64 t.s]=t.row:=fun _=>rfl
 have p15:=hu.p15
 have q15:=hq.p15
 rw [tq] at p15 q15
 have d1:decide (((U.lots.length:Nat):Int)=((T.lots.length:Nat):Int))=true:=by rw [u4];simp
 have d2:decide (((U.crits.length:Nat):Int)=((T.crits.length:Nat):Int))=true:=by rw [u5];simp
 have d3:decide (U.name=T.name)=true:=by rw [u6];simp
 have d4:decide (U.t=T.t)=true:=by rw [u7];simp
 have d5:decide (U.budget=T.budget)=true:=by rw [u8];simp
 simp (maxSteps:=8000000) (disch:=first|exact dS|fail) only [↓bD,bW,reduceMul,reduceEqDiff,reduceAdd,Nat.reduceBEq,reduceIte,Option.isNone_none,k7,k8,k17,k18,k19,hcu,hfu,rtr,rur,hu.p1,hq.p1,hu.p2,hq.p2,hu.p0,hq.p0,p15,q15,b2_tim.1,hu.p14,hq.p14,hu.p6,hq.p6,d1,d2,d3,d4,d5,hfa,hfb,yu_t,yu_f]
 refine (textequal_ok mB mT hM.right.cap hM.right.cap).mono ?_
 rintro r ⟨Z9,rfl,E9⟩
 rw [tnEqb_self]
 have r9u:Z9.row Z7.n=some cu:=by rw [E9.row (by simp)];exact cL
 have r9t:Z9.row Z1.n=some ca:=by rw [E9.row (by simp;omega)];exact cL1 rtr
 refine gS1 (aI @k7 (aI @k8 (aI @k17 (aI @k18 (aI @k19 (aI @r9u (aI @r9t (aI @hu.p6 (aI @hq.p6 (aI @yu_t @yu_f)))))))))) ?_
 refine (reqf_ok _ (Nat.lt_succ_self _) (k5.mono E9) (q5.mono E9)).mono ?_
 rintro r ⟨Z10,rfl,E10⟩
 rw [u9,exEqb_refl]
 refine gS1 (aI @yu_t (aI @yu_f @Tryz.results8)) ?_
 exact ⟨_,rfl⟩
end Go.Proofs.T
