/- probitylaw02.TextFormulas returns true for every input of bulk at most 1048576, and each argument reads afterwards as it read before; where the listed package-level variables hold what the program's text lays. -/
import Derived.Test.YtbcanmagihejhaaGreatDoorTWalkFormulas
import Derived.Test.YtbcanmagihejhaaGreatDoorWC
import Derived.Test.YtbcanmagihejhaaGreatDoorRows
import Derived.Test.YtbcanmagihejhaaGreatDoorCards
import Derived.Test.YtbcanmagihejhaaGreatDoorTie
import Derived.WalkKit
import Derived.ProofKit
import Derived.OpenShut
import Derived.ShutString
import Derived.ChangeOld
import Derived.Below
import Derived.LaidMore
import Derived.Lay
import Derived.Stop.Joined
import Derived.SevenTiedAt
import Derived.ChangeReads
import Derived.Deep.DeepHandedRow
set_option linter.unusedSimpArgs false
set_option linter.unusedVariables false
namespace Go.Proofs.YtbcanmagihejhaaGreatDoor.textFormulas
open Go Go.ChangeShapes Go.WideShapes Go.ChangeAt Go.RowKit
open Go.ChangeMaps (open_string shut_string)
set_option linter.unusedVariables false
theorem own:ownKnob Tryz.prog.godebug=none:=by kernel_rfl
theorem laidOut:laidOutB Tryz.prog=true:=by kernel_rfl
theorem globals_of {W:World}(h:laidMetH Tryz.prog Rows.textFormulasUptoRow.laid W):8<=W.heap.size:=by
 rw [MakeChecks.laidMetH_plain _ _ _ (by kernel_rfl)] at h
 obtain ⟨ps,hv,-,-⟩:=h
 obtain ⟨g0,t0,cs0,f0,p0,q0,hg0,ht0,hv0,hd0,hv,-⟩:=hv
 obtain ⟨g1,t1,cs1,f1,p1,q1,hg1,ht1,hv1,hd1,hv,-⟩:=hv
 obtain ⟨g2,t2,cs2,f2,p2,q2,hg2,ht2,hv2,hd2,hv,-⟩:=hv
 obtain ⟨g3,t3,cs3,f3,p3,q3,hg3,ht3,hv3,hd3,hv,-⟩:=hv
 obtain ⟨g4,t4,cs4,f4,p4,q4,hg4,ht4,hv4,hd4,-,-⟩:=hv
 have e:Tryz.prog.globalNamed "strconv.ErrRange"=some 7:=by kernel_rfl
 obtain rfl:=Option.some.inj (e.symm.trans hg4)
 simp only [World.var?,hg4,Option.bind_some] at hv4
 rcases Nat.lt_or_ge 7 W.heap.size with h|h
 ·exact h
 ·rw [Array.getElem?_eq_none h] at hv4;cases hv4
theorem door_met (os:Os) (args:Array Value):laidMetH Tryz.prog Rows.textFormulasUptoRow.laid ((World.laidAll Tryz.prog os Rows.textFormulasUptoRow.laid).forCall (fun _ _=>0) ⟨#[],args,[]⟩).memory:=by
 rw [MakeChecks.laidMetH_plain _ _ _ (by kernel_rfl)]
 exact laidMet_laidAll _ (by kernel_rfl) (by kernel_rfl)
theorem okWide_arr {P:Program}{w:World}{r:Reach}{base:Nat}{t e:TypeId}{n:Nat}{v:Value}(ht:P.underlying t=some (.array n e)) (h:Value.okWide P w r base t v):∃ cs,v= .agg cs:=by
 unfold Value.okWide at h
 rw [ht] at h
 obtain ⟨cs,h,-⟩:=h
 exact ⟨cs,h⟩
set_option maxRecDepth 100000 in
theorem reads (os:Os){H:Type}(enc:TypeId×Value->H):DataW.whole enc Tryz.prog ((World.laidAll Tryz.prog os Rows.textFormulasUptoRow.laid).forCall (fun _ _=>0) ⟨#[],#[.agg #[.slice none 0 0,.slice none 0 0],.string ⟨#[]⟩,.agg #[.int .u16 0,.int .u16 0]],[]⟩).memory Tryz.f6.params.toList Rows.textFormulasSpec.vars false (#[.agg #[.slice none 0 0,.slice none 0 0],.string ⟨#[]⟩,.agg #[.int .u16 0,.int .u16 0]]:Array Value).toList 8=some ([.agg [.nil,.nil],.lit (.string []),.agg [.lit (.int .u16 0),.lit (.int .u16 0)]],[],[]):=by kernel_rfl
set_option maxRecDepth 100000 in
theorem lifted (os:Os) (started:os.Started) (H:Type) (enc:TypeId×Value->H) (F:Stop.Interp) :
  ReturnsInHanded {} Tryz.checked os 6 .any ((Rows.OpenSpec.upto Rows.textFormulasSpec).preRow enc Tryz.prog Tryz.f6 Rows.textFormulasUptoRow.domain false Rows.textFormulasUptoRow.laid) (((Rows.OpenSpec.upto Rows.textFormulasSpec).at F).post enc Tryz.prog Tryz.f6 false true false false):=by
 refine returnsInHanded_of_row (C:=Tryz.checked) (s:=Rows.OpenSpec.upto Rows.textFormulasSpec) own started (by kernel_rfl) Tryz.func6
  (witness_row_shaped (enc:=enc) (C:=Tryz.checked) false (World.laidAll Tryz.prog os Rows.textFormulasUptoRow.laid) #[.agg #[.slice none 0 0,.slice none 0 0],.string ⟨#[]⟩,.agg #[.int .u16 0,.int .u16 0]] (World.laidAll_os _ _ _) (World.shaped_of_ZipB (by kernel_rfl) (by kernel_rfl)) (by kernel_rfl)
    (OpenSpec.preRow_of_cond 8 (reads os enc) (by kernel_rfl) (fun k hk=>by cases hk;kernel_rfl) (by kernel_rfl) (door_met os _))) ?_
 intro W base args ds gs before hval0 hW _ hcond _ hL _ _
 have hval:∀ (j:Nat) t v,Tryz.f6.params[j]? =some t->args[j]? =some v->Value.okWide Tryz.prog W .any base t v:=hval0
 have hW':=hW
 obtain ⟨p,q,hA0,hV,rfl,hfz,hnd⟩:=hW
 have hA:DataW.TrodAll enc Tryz.prog W 0 (fun _=>true) true Tryz.f6.params.toList args.toList ds p:=hA0
 rw [Tryz.params6] at hA hval
 obtain ⟨v0,vs0,d0,ds0,p0,q0,hargs,rfl,rfl,h0,r0⟩:=trodAll_cons hA
 obtain ⟨v1,vs1,d1,ds1,p1,q1,rfl,rfl,rfl,h1,r1⟩:=trodAll_cons r0
 obtain ⟨v2,vs2,d2,ds2,p2,q2,rfl,rfl,rfl,h2,r2⟩:=trodAll_cons r1
 obtain ⟨rfl,rfl,rfl⟩:=trodAll_nil r2
 obtain rfl:args=#[v0,v1,v2]:=by cases args;simp_all
 obtain ⟨rfl,rfl⟩:=trodVars_none hV
 obtain ⟨cs0,rfl⟩:=okWide_arr Tryz.underlying23 (hval 0 23 v0 rfl rfl)
 have k1:=h1
 obtain ⟨s,rfl,rfl,rfl,hsz⟩:=open_string Tryz.underlying9 (hval 1 9 v1 rfl rfl) h1
 obtain ⟨cs2,rfl⟩:=okWide_arr Tryz.underlying55 (hval 2 55 v2 rfl rfl)
 have k0:=h0
 have k2:=h2
 have lt0:∀ x∈p0,x.block<W.heap.size:=by obtain ⟨m,hm⟩:=k0;exact DataW.trod_lt m _ _ _ hm
 have lt2:∀ x∈p2,x.block<W.heap.size:=by obtain ⟨m,hm⟩:=k2;exact DataW.trod_lt m _ _ _ hm
 obtain ⟨m0,hm0⟩:=h0
 obtain ⟨m1,hm1⟩:=h1
 obtain ⟨m2,hm2⟩:=h2
 have bulk:=of_decide_eq_true (hcond _ rfl)
 have b1:=bulks.part_le (d:=(DataW.lit (.string s.data.toList):DataW H)) (l:=([d0,.lit (.string s.data.toList),d2]++[]:List (DataW H))) (by simp)
 rw [bulks.string_eq] at b1
 have hm0':=DataW.trod_le (Nat.le_add_right m0 6) hm0
 have hm1':=DataW.trod_le (Nat.le_add_right m1 6) hm1
 have hm2':=DataW.trod_le (Nat.le_add_right m2 6) hm2
 obtain ⟨arr,e,f,hc,h20,hp⟩:=heap0 (show laidMetH Tryz.prog Rows.textManyRow.laid W from hL)
 have hE:=heap7 (show laidMetH Tryz.prog Rows.textManyRow.laid W from hL)
 clear hA0 hval0
 refine (walkFormulas cs0 s cs2 hm0' hm1' hm2' (dataOk23 m0) (dataOk9 m1) (dataOk55 m2) (by omega) (globals_of hL) hE hc h20 hp).mono fun e W' ⟨he,bel⟩=>?_
 subst he
 exact ⟨_,rfl,_,_,_,[],_,[],hW',trodAll_mk1 (shut_bool Tryz.underlying4 _),(trodAll_cons_mk (Below.trod laidOut (by kernel_rfl) (of_decide_eq_true (by kernel_rfl)) k0 bel lt0) (trodAll_cons_mk (shut_string Tryz.underlying9 hsz) (trodAll_cons_mk (Below.trod laidOut (by kernel_rfl) (of_decide_eq_true (by kernel_rfl)) k2 bel lt2) trodAll_mk0))),rfl,bel.frame _,fun h=>by cases h⟩
end Go.Proofs.YtbcanmagihejhaaGreatDoor.textFormulas
