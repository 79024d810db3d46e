/- The program's Print of right tenders. -/
import Derived.Test.YtbcanmagihejhaaGreatDoorSC
import Derived.Test.YtbcanmagihejhaaGreatDoorQA
import Derived.Test.YtbcanmagihejhaaGreatDoorTK
import Derived.Test.YtbcanmagihejhaaGreatDoorTJ
import Derived.Test.YtbcanmagihejhaaGreatDoorPA
import Derived.Test.YtbcanmagihejhaaGreatDoorRF
set_option linter.unusedSimpArgs false
set_option linter.unusedVariables false
namespace Go.Proofs.T
open Go Go.Ab
open Nat (reduceMul reduceEqDiff reduceAdd)
set_option maxRecDepth 100000
theorem draft_lines {s:By}(h4:s.length<=4000) (hr:runsOk s 0=true):s.length<=4000->∀ (l:By) (a:Nat),l∈splitB 10 s->a<=s.length+1->LineOk l a:=fun _ l a hl _=>line_ok hr h4 hl
set_option maxHeartbeats 8000000 in
theorem pPrint_ok {Z:St}{ca:List Value}{T:Tn}(hT:TnAt Z ca T) (hr:RightT T) (hS:T.Sm) (hpw:Z.read 1 0 20=some pows) (hp1:1<Z.n) (h4:(printT T).length<=4000) (hrs:runsOk (printT T) 0=true) :
  Ev (go Tryz.prog HS (.fn 17) [.agg ⟨ca⟩] Z) (fun r=>∃ Z',r=⟨false,str (printT T),Z'⟩/\Ext Z Z') ⟨⟩:=by
 obtain ⟨vl,vc,vr,ex,vt,vk,hpp,-⟩:=hT.parts
 have hfa:=hpp.all
 have hpt:parseT (printT T)= .ok T:=by unfold parseT;rw [if_neg om];exact parse_print hr
 refine ev_go Tryz.func17 rfl rfl ?_
 refine gU1 (aI @splice_succ (aI @bunAP @hfa)) ?_
 have E0:Ext Z (Z.new ca):=eX
 refine (draft_ok (hT.mono E0) hr hS (pows_ext E0 hp1 hpw) (by simp;omega)).mono ?_
 rintro r ⟨Z1,rfl,E1⟩
 refine gU1 (aI @splice_succ @bunAP) ?_
 refine (Parse_ok (draft_lines h4 hrs) (fun _ p e h=>by rw [parse_print hr] at h;cases h) om).mono ?_
 rw [hpt]
 rintro r ⟨Z2,cells,rfl,E2,hU⟩
 have hU':TnAt Z2 cells T:=hU [] (by simp)
 have n1:=E1.n
 have n2:=E2.n
 simp only [new_n] at n1
 have rr:Z2.row Z.n=some ca:=by rw [E2.row om,E1.row (by simp)];exact cL
 obtain ⟨a0,a1,a2,a3,a4,a5,a6,a7,a8,a9,a10,a11,a12,a13,a14,a15,a16,a17,a18,a19,rfl⟩:=hU'.cells
 refine gU1 (aI @splice_succ (aI @bunAP (aI @yu_t (aI @yu_f (aI @rr @hfa))))) ?_
 have EA:Ext Z Z2:=(E0.trans E1).trans E2
 refine (textequal_ok (hT.mono (EA.trans (eX))) (hU'.mono (eX)) hr.cap hr.cap).mono ?_
 rintro r ⟨Z3,rfl,E3⟩
 rw [tnEqb_self]
 refine gU1 (aI @splice_succ (aI @bunAP (aI @yu_t (aI @yu_f @Tryz.results17)))) ?_
 exact ⟨_,rfl,(EA.trans (eX)).trans E3⟩
end Go.Proofs.T
namespace Go.Proofs.T
open Go Go.Ab
open Nat (reduceMul reduceEqDiff reduceAdd)
set_option maxRecDepth 100000
set_option maxHeartbeats 16000000 in
theorem round_walk {Z:St}{v:Value}{l:List Int}(hl:ArgInts (hide Z []) v l) (hll:l.length<=9223372036854775807) (hp:Z.read 1 0 20=some pows) (hp1:1<Z.n) :
  Ev (go Tryz.prog HS (.fn 4) [v] Z) (fun r=>∃ Z',r=⟨false,.bool true,Z'⟩) ⟨⟩:=by
 have hv:∃ a n c,v= .slice a n c:=by
  obtain ⟨a,c,b,off,cells,h,-⟩:=hl.1.use;exact ⟨a,_,c,h⟩
 have hvc:cellsL v=[v]/\isTup v=false:=by obtain ⟨a,n,c,rfl⟩:=hv;exact ⟨rfl,rfl⟩
 refine ev_go Tryz.func4 rfl rfl ?_
 simp (maxSteps:=8000000) (disch:=first|exact dS|fail) only [↓bD,bW,reduceMul,reduceEqDiff,reduceAdd,Nat.reduceBEq,reduceIte,Option.isNone_none,hvc.1,hvc.2,sanity_ok hp]
 refine (rmade_ok [] (by simp) hl hll).mono ?_
 rintro r ⟨cells,T,Z1,rfl,E1,hT,hM⟩
 have hT':TnAt Z1 cells T:=hT
 obtain ⟨h4,hrs⟩:=made_text hM
 have hne:decide (printT T=[])=false:=decide_eq_false (by rw [print_B];simp [nl])
 have hself:decide (printT T=printT T)=true:=by simp
 have hpt:parseT (printT T)= .ok T:=by unfold parseT;rw [if_neg om];exact parse_print hM.right
 obtain ⟨vl,vc,vr,ex,vt,vk,hpa,-⟩:=hT'.parts
 obtain ⟨a0,a1,a2,a3,a4,a5,a6,a7,a8,a9,a10,a11,a12,a13,a14,a15,a16,a17,a18,a19,rfl⟩:=hT'.cells
 refine gS ?_
 have n1:=E1.n
 have F1:Ext Z1 ((Z1.new [str [],.slice none 0 0,.slice none 0 0,.slice none 0 0,.int .i64 0,.int .i64 0,str [],.int .i64 0,.int .i64 0,str [],.slice none 0 0,.slice none 0 0,.int .i64 0,.slice none 0 0,.int .i64 0,.int .i64 0,.int .i64 0,.int .i64 0,.int .i64 0,.int .i64 0] (some 41)).upd Z1.n [a0,a1,a2,a3,a4,a5,a6,a7,a8,a9,a10,a11,a12,a13,a14,a15,a16,a17,a18,a19]):=eX
 refine (pPrint_ok (hT'.mono F1) hM.right hM.sm (pows_ext (E1.trans F1) hp1 hp) (by simp;omega) h4 hrs).mono ?_
 rintro r ⟨Z2,rfl,E2⟩
 refine gS ?_
 refine (Parse_ok (draft_lines h4 hrs) (fun _ p e h=>by rw [parse_print hM.right] at h;cases h) om).mono ?_
 rw [hpt]
 rintro r ⟨Z3,cells2,rfl,E3,hU⟩
 have hU':TnAt Z3 cells2 T:=hU [] (by simp)
 obtain ⟨b0,b1,b2,b3,b4,b5,b6,b7,b8,b9,b10,b11,b12,b13,b14,b15,b16,b17,b18,b19,rfl⟩:=hU'.cells
 have n2:=E2.n
 have n3:=E3.n
 simp only [new_n,upd_n] at n2
 have rr:Z3.row Z1.n=some [a0,a1,a2,a3,a4,a5,a6,a7,a8,a9,a10,a11,a12,a13,a14,a15,a16,a17,a18,a19]:=by rw [E3.row om,E2.row (by simp)];exact cL
 have EA:Ext Z1 Z3:=(F1.trans E2).trans E3
 refine gS1 (aI @hne (aI @rr (aI @yu_t @yu_f))) ?_
 have G1:Ext Z3 ((Z3.new [str [],.slice none 0 0,.slice none 0 0,.slice none 0 0,.int .i64 0,.int .i64 0,str [],.int .i64 0,.int .i64 0,str [],.slice none 0 0,.slice none 0 0,.int .i64 0,.slice none 0 0,.int .i64 0,.int .i64 0,.int .i64 0,.int .i64 0,.int .i64 0,.int .i64 0] (some 41)).upd Z3.n [b0,b1,b2,b3,b4,b5,b6,b7,b8,b9,b10,b11,b12,b13,b14,b15,b16,b17,b18,b19]):=eX
 refine (textequal_ok (hT'.mono (EA.trans G1)) (hU'.mono G1) hM.right.cap hM.right.cap).mono ?_
 rintro r ⟨Z4,rfl,E4⟩
 rw [tnEqb_self]
 have n4:=E4.n
 simp only [new_n,upd_n] at n4
 have rU:Z4.row Z3.n=some [b0,b1,b2,b3,b4,b5,b6,b7,b8,b9,b10,b11,b12,b13,b14,b15,b16,b17,b18,b19]:=by rw [E4.row (by simp)];exact cL
 refine gS1 (aI @rU (aI @yu_t @yu_f)) ?_
 have EB:=(E1.trans EA).trans (G1.trans E4)
 refine (pPrint_ok (hU'.mono (G1.trans E4)) hM.right hM.sm (pows_ext EB hp1 hp) om h4 hrs).mono ?_
 rintro r ⟨Z5,rfl,E5⟩
 refine gS1 (aI @hself (aI @yu_t (aI @yu_f @Tryz.results4))) ?_
 exact ⟨_,rfl⟩
end Go.Proofs.T
