/- The CX Print of right AV. -/
import Derived.Test.YtbcanmagihejhaaGreatDoorSC
import Derived.Test.YtbcanmagihejhaaGreatDoorQA
import Derived.Test.YtbcanmagihejhaaGreatDoorTK
import Derived.Test.YtbcanmagihejhaaGreatDoorTJ
import Derived.Test.YtbcanmagihejhaaGreatDoorPA
import Derived.Test.YtbcanmagihejhaaGreatDoorEC
import Derived.Test.YtbcanmagihejhaaGreatDoorED
import Derived.Test.YtbcanmagihejhaaGreatDoorRF
set_option linter.unusedSimpArgs false
set_option linter.unusedVariables false
set_option maxHeartbeats 32000000
set_option maxRecDepth 100000
namespace Go.Proofs.T
open Go Go.Ab
open Nat (reduceMul reduceEqDiff reduceAdd)
theorem UK {s:By}(h4:s.length<=4000) (hr:Aa s 0=true):s.length<=4000->∀ (l:By) (a:Nat),l∈I3 10 s->a<=s.length+1->Kc l a:=fun _ l a hl _=>mo hr h4 hl
theorem Pk {Z:St}{ca:List Value}{T:Tn}(hT:Ar Z ca T) (hr:Ad T) (hS:T.Sm) (hpw:Z.read 1 0 20=some P9) (hp1:1<Z.n) (h4:(Ae T).length<=4000) (hrs:Aa (Ae T) 0=true) :
  Ev (go Tryz.prog HS (.fn 17) [.agg ⟨ca⟩] Z) (fun r=>∃ Z',r=⟨false,str (Ae T),Z'⟩/\Ext Z Z') ⟨⟩:=by
 obtain ⟨vl,vc,vr,ex,vt,vk,hpp,-⟩:=hT.parts;have hfa:=hpp.all;have hpt:RD (Ae T)= .ok T:=by unfold RD;rw [if_neg om];exact FK hr
 refine D7 Tryz.func17 rfl rfl ?_;refine gU1 (a3N @A1 @A7 @hfa) ?_;have E0:Ext Z (Z.new ca):=eX;refine (gF (hT.mono E0) hr hS (An E0 hp1 hpw) (by simp;omega)).mono ?_;rintro r ⟨Z1,rfl,E1⟩;refine gU1 (aI @A1 @A7) ?_;refine (dT (UK h4 hrs) (fun _ p e h=>by rw [FK hr] at h;cases h) om).mono ?_;rw [hpt];rintro r ⟨Z2,cells,rfl,E2,hU⟩;have hU':Ar Z2 cells T:=hU [] (by simp);have n1:=E1.n;have n2:=E2.n;simp only [N3] at n1;have rr:Z2.row Z.n=some ca:=by rw [E2.row om,E1.row (by simp)];exact cL
 obtain ⟨a0,a1,a2,a3,a4,a5,a6,a7,a8,a9,a10,a11,a12,a13,a14,a15,a16,a17,a18,a19,rfl⟩:=hU'.cells;refine gU1 (a6N @A1 @A7 @J1 @J2 @rr @hfa) ?_;have EA:Ext Z Z2:=(E0.trans E1).trans E2;refine (BA (hT.mono (EA.trans (eX))) (hU'.mono (eX)) hr.cap hr.cap).mono ?_;rintro r ⟨Z3,rfl,E3⟩;rw [Eh];refine gU1 (a5N @A1 @A7 @J1 @J2 @Tryz.results17) ?_;exact ⟨_,rfl,(EA.trans (eX)).trans E3⟩
end Go.Proofs.T
namespace Go.Proofs.T
open Go Go.Ab
theorem Zf {T U:Tn}(hT:Ad T) (hU:Ad U):N9 T U=decide (Ae T=Ae U):=by
 by_cases h:Ae T=Ae U
 ·have e:(Except.ok T:Except Er Tn)= .ok U:=by rw [<- FK hT,h,FK hU]
  cases e;rw [Eh];simp
 ·rw [decide_eq_false h];cases h2:N9 T U with
  | false=>rfl
  | true=>exact absurd (by rw [NX h2]) h
theorem Vg {T U:Tn}:N9 T U=N9 U T:=by
 cases h:N9 T U with
 | true=>rw [NX h,Eh]
 | false =>
   cases h2:N9 U T with
   | false=>rfl
   | true=>rw [NX h2,Eh] at h;cases h
theorem xm {k m:Nat}{e:Ex}(h:FW k m e):(∀ n,n<=31->True)->Bx e=m:=by
 intro _;induction h with
 | num h=>rw [P5,T8]
 | name h1 h2 h3=>rw [P5,T8]
 | bin h ha hb iha ihb=>rw [P5,P3,P3,T8,iha,ihb];omega
 | mm h ha hb iha ihb=>rw [P5,P3,P3,T8,iha,ihb];omega
theorem xr {k m:Nat}{e:Ex}(h:FW k m e):WfE 2 e:=by
 induction h with
 | num h=>exact Ap.2 ⟨by show (3:Nat)<=4;omega,by simp,⟨by have:=h.n0;omega,by have:=h.rq.n2;omega⟩,⟨by have:=h.rq.d1;omega,Int.le_of_dvd om (Int.dvd_of_emod_eq_zero h.d6)⟩,by simp,Bm⟩
 | name h1 h2 h3=>exact Ap.2 ⟨by show (4:Nat)<=4;omega,by have:=Fk h1;omega,om,om,by simp,Bm⟩
 | bin h ha hb iha ihb=>exact Ap.2 ⟨by rcases h with rfl|rfl|rfl|rfl <;> decide,by simp,om,om,by simp,T9.2 ⟨iha,T9.2 ⟨ihb,Bm⟩⟩⟩
 | mm h ha hb iha ihb=>exact Ap.2 ⟨by rcases h with rfl|rfl <;> decide,by simp,om,om,by simp,T9.2 ⟨iha,T9.2 ⟨ihb,Bm⟩⟩⟩
theorem Ir {n:Int}(h:SmN n):SmW n:=by obtain ⟨h1,h2⟩:=h;unfold SmW;omega
theorem ke {T:Tn}(h:PX T):WkT 2 16 12 T:=by
 obtain ⟨k,m,hf,-,hm⟩:=h.f;refine ⟨by have:=h.nm;omega,by have:=h.D2;omega,fun l hl=>?_,by have:=h.C7;omega,fun c hc=>?_,by have:=h.reqs;omega,fun r hr=>?_,by have:=h.E9;omega,fun s hs=>by have:=h.tie s hs;omega,by have:=h.C3;omega,fun c hc=>⟨by have:=h.combo c hc;omega,fun k hk=>Ir (h.sm.combo c hc k hk)⟩,Ir h.sm.low,Ir h.sm.high,Ir h.sm.D5,Ir h.sm.C1,?_,xr hf.1,?_⟩
 ·exact ⟨Ir (h.sm.lot l hl).1,Ir (h.sm.lot l hl).2⟩
 ·obtain ⟨a,b,c'⟩:=h.sm.Bi c hc;exact ⟨by have:=h.Bi c hc;omega,om,Ir b,Ir c'⟩
 ·refine ⟨by have:=h.req r hr;omega,?_,Ir (h.sm.req r hr)⟩;have:=(h.right.req r hr).2.1;simp at this;rcases this with h|h <;> rw [h] <;> decide
 ·obtain ⟨a,b,c,d,e⟩:=h.sm.tim;exact ⟨Ir a,Ir b,Ir c,Ir d,Ir e⟩
 ·rw [xm hf.1 (fun _ _=>trivial)];exact hm
theorem sC {w m n:Nat}{T:Tn}(h:WkT w m n T) (hn:n<=100):Cap T:=⟨by have:=h.D2;omega,by have:=h.C7;omega,by have:=h.reqs;omega,by have:=h.E9;omega,by have:=h.C3;omega,fun c hc=>by have:=(h.combo c hc).1;omega⟩
end Go.Proofs.T
