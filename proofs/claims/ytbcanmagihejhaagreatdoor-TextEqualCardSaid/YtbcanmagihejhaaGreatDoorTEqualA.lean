/- GD.HU returns true for every input, and each argument reads Ia as it read before; where the listed package-level Cy hold Ff the CX text rG. -/
import Derived.Test.YtbcanmagihejhaaGreatDoorTWalkEqual
import Derived.Test.YtbcanmagihejhaaGreatDoorRows
import Derived.Test.YtbcanmagihejhaaGreatDoorCards
import Derived.Test.YtbcanmagihejhaaGreatDoorTie
import Derived.WalkKit
import Derived.ProofKit
import Derived.OpenShut
import Derived.ShutString
import Derived.ChangeOld
import Derived.Below
import Derived.LaidMore
import Derived.Lay
import Derived.Stop.Joined
import Derived.SevenTiedAt
import Derived.ChangeReads
set_option linter.unusedSimpArgs false
set_option linter.unusedVariables false
set_option maxHeartbeats 32000000
set_option maxRecDepth 100000
namespace Go.Proofs.YtbcanmagihejhaaGreatDoor.textEqual
open Go Go.ChangeShapes Go.WideShapes Go.ChangeAt Go.RowKit
open Go.ChangeMaps (open_string shut_string)
set_option linter.unusedVariables false
theorem own:ownKnob Tryz.prog.godebug=none:=by kernel_rfl
theorem laidOut:laidOutB Tryz.prog=true:=by kernel_rfl
theorem XS {W:World}(h:laidMetH Tryz.prog Rows.textEqualRow.laid W):8<=W.heap.size:=by
 rw [MakeChecks.laidMetH_plain _ _ _ (by kernel_rfl)] at h;obtain ⟨ps,hv,-,-⟩:=h;obtain ⟨g0,t0,cs0,f0,p0,q0,hg0,ht0,hv0,hd0,hv,-⟩:=hv;obtain ⟨g1,t1,cs1,f1,p1,q1,hg1,ht1,hv1,hd1,hv,-⟩:=hv;obtain ⟨g2,t2,cs2,f2,p2,q2,hg2,ht2,hv2,hd2,hv,-⟩:=hv;obtain ⟨g3,t3,cs3,f3,p3,q3,hg3,ht3,hv3,hd3,hv,-⟩:=hv;obtain ⟨g4,t4,cs4,f4,p4,q4,hg4,ht4,hv4,hd4,-,-⟩:=hv;have e:Tryz.prog.globalNamed "strconv.ErrRange"=some 7:=by kernel_rfl
 obtain rfl:=Option.some.inj (e.symm.trans hg4);simp only [World.var?,hg4,Option.bind_some] at hv4;rcases Nat.lt_or_ge 7 W.heap.size with h|h
 ·exact h
 ·rw [Array.getElem?_eq_none h] at hv4;cases hv4
theorem jY (os:Os) (args:Array Value):laidMetH Tryz.prog Rows.textEqualRow.laid ((World.laidAll Tryz.prog os Rows.textEqualRow.laid).forCall (fun _ _=>0) ⟨#[],args,[]⟩).memory:=by
 rw [MakeChecks.laidMetH_plain _ _ _ (by kernel_rfl)];exact laidMet_laidAll _ (by kernel_rfl) (by kernel_rfl)
theorem Oe {P:Program}{w:World}{r:Reach}{base:Nat}{t e:TypeId}{n:Nat}{v:Value}(ht:P.underlying t=some (.array n e)) (h:Value.okWide P w r base t v):∃ cs,v= .agg cs:=by
 unfold Value.okWide at h;rw [ht] at h;obtain ⟨cs,h,-⟩:=h;exact ⟨cs,h⟩
theorem lifted (os:Os) (started:os.Started) (H:Type) (enc:TypeId×Value->H) :
  ReturnsInHanded {} Tryz.checked os 11 .any (fun w args=>(Rows.textEqualSpec.pre enc Tryz.prog Tryz.f11 Rows.textEqualRow.domain false w args/\laidMetH Tryz.prog Rows.textEqualRow.laid w)/\sizedMet enc Tryz.prog Tryz.f11 (OpenSpec.ofChange Rows.textEqualSpec) false w args)
   (Rows.textEqualSpec.post enc Tryz.prog Tryz.f11 false true false false):=by
 refine returnsInHanded_of_change_and (C:=Tryz.checked) (X:=fun w _=>laidMetH Tryz.prog Rows.textEqualRow.laid w) (fun _ _ _ hh h=>h.of_heap hh) own started (by kernel_rfl) Tryz.func11
  (ChangeSpec.witness_shaped (enc:=enc) (C:=Tryz.checked) (os:=os) (X:=fun w _=>laidMetH Tryz.prog Rows.textEqualRow.laid w) false (World.laidAll Tryz.prog os Rows.textEqualRow.laid) #[.agg #[.slice none 0 0,.slice none 0 0],.agg #[.int .i64 0,.int .i64 0,.int .i64 0]] 8 (World.laidAll_os _ _ _) (World.shaped_of_ZipB (by kernel_rfl) (by kernel_rfl)) (by kernel_rfl) (by kernel_rfl) (by kernel_rfl) (jY os _)) ?_
 intro W base args ds gs before qj hW Ac1 _ hL _;have bh:∀ (j:Nat) t v,Tryz.f11.params[j]? =some t->args[j]? =some v->Value.okWide Tryz.prog W .any base t v:=qj;have hW':=hW;obtain ⟨p,q,hA0,hV,rfl,hfz,hnd⟩:=hW;have hA:DataW.TrodAll enc Tryz.prog W 0 (fun _=>true) true Tryz.f11.params.toList args.toList ds p:=hA0;rw [Tryz.params11] at hA bh;obtain ⟨v0,vs0,d0,ds0,p0,q0,Ce,rfl,rfl,h0,r0⟩:=trodAll_cons hA;obtain ⟨v1,vs1,d1,ds1,p1,q1,rfl,rfl,rfl,h1,r1⟩:=trodAll_cons r0;obtain ⟨rfl,rfl,rfl⟩:=trodAll_nil r1;obtain rfl:args=#[v0,v1]:=by cases args;simp_all
 obtain ⟨rfl,rfl⟩:=trodVars_none hV;obtain ⟨cs0,rfl⟩:=Oe Tryz.underlying23 (bh 0 23 v0 rfl rfl);obtain ⟨cs1,rfl⟩:=Oe Tryz.underlying52 (bh 1 52 v1 rfl rfl);have k0:=h0;have k1:=h1;have lt0:∀ x∈p0,x.block<W.heap.size:=by obtain ⟨m,hm⟩:=k0;exact DataW.trod_lt m _ _ _ hm
 have lt1:∀ x∈p1,x.block<W.heap.size:=by obtain ⟨m,hm⟩:=k1;exact DataW.trod_lt m _ _ _ hm
 obtain ⟨m0,hm0⟩:=h0;obtain ⟨m1,hm1⟩:=h1;have AV3:=DataW.trod_le (Nat.le_add_right m0 6) hm0;have AV4:=DataW.trod_le (Nat.le_add_right m1 6) hm1;obtain ⟨arr,e,f,hc,h20,hp⟩:=xR (show laidMetH Tryz.prog Rows.textManyRow.laid W from hL);clear hA0 qj;refine (bo cs0 cs1 AV3 AV4 (jB m0) (jC m1) (XS hL) hc h20 hp).mono fun e W' ⟨he,bel⟩=>?_;subst he;exact ⟨_,rfl,_,_,_,[],_,[],hW',trodAll_mk1 (shut_bool Tryz.underlying4 _),(trodAll_cons_mk (Below.trod laidOut (by kernel_rfl) (of_decide_eq_true (by kernel_rfl)) k0 bel lt0) (trodAll_cons_mk (Below.trod laidOut (by kernel_rfl) (of_decide_eq_true (by kernel_rfl)) k1 bel lt1) trodAll_mk0)),rfl,bel.frame _,fun h=>by cases h⟩
end Go.Proofs.YtbcanmagihejhaaGreatDoor.textEqual
