/- probitylaw03.TypesTurned returns true for every input, and each argument reads Ll as it read before; where the listed package-level Cx hold what the Cg text xA. -/
import Derived.Test.YtgjocfjdecjhoaaGreatDoorWB
import Derived.Test.YtgjocfjdecjhoaaGreatDoorCards
import Derived.Lay
set_option linter.unusedSimpArgs false
set_option linter.unusedVariables false
set_option linter.defProp false
set_option maxHeartbeats 32000000
set_option maxRecDepth 100000
namespace Go.Proofs.YtgjocfjdecjhoaaGreatDoor.typesTurned
open Go Go.ChangeShapes Go.WideShapes Go.ChangeAt Go.RowKit
open Go.ChangeMaps (open_string shut_string)
set_option linter.unusedVariables false
def own:ownKnob Tryz.prog.godebug=none:=by kernel_rfl
def laidOut:laidOutB Tryz.prog=true:=by kernel_rfl
def de {W:World}(h:laidMetH Tryz.prog Rows.typesTurnedRow.laid W):10<=W.heap.size:=by
 rw[MakeChecks.laidMetH_plain _ _ _ (by kernel_rfl)]at h;obtain⟨ps,hv,-,-⟩:=h;obtain⟨g0,t0,cs0,f0,p0,q0,hg0,ht0,hv0,hd0,hv,-⟩:=hv;obtain⟨g1,t1,cs1,f1,p1,q1,hg1,ht1,hv1,hd1,hv,-⟩:=hv;obtain⟨g2,t2,cs2,f2,p2,q2,hg2,ht2,hv2,hd2,hv,-⟩:=hv;obtain⟨g3,t3,cs3,f3,p3,q3,hg3,ht3,hv3,hd3,hv,-⟩:=hv;obtain⟨g4,t4,cs4,f4,p4,q4,hg4,ht4,hv4,hd4,-,-⟩:=hv;have e:Tryz.prog.globalNamed "strconv.ErrRange"=some 9:=by kernel_rfl
 obtain rfl:=Option.some.inj (e.symm.trans hg4);simp only[World.var?,hg4,Option.bind_some]at hv4;rcases Nat.lt_or_ge 9 W.heap.size with h|h
 ·exact h
 ·rw[Array.getElem?_eq_none h]at hv4;cases hv4
def qw (os:Os) (args:Array Value):laidMetH Tryz.prog Rows.typesTurnedRow.laid ((World.laidAll Tryz.prog os Rows.typesTurnedRow.laid).forCall (fun _ _=>0) ⟨#[],args,[]⟩).memory:=by
 rw[MakeChecks.laidMetH_plain _ _ _ (by kernel_rfl)];exact laidMet_laidAll _ (by kernel_rfl) (by kernel_rfl)
def dh {P:Program}{w:World}{r:Reach}{B8:Nat}{t e:TypeId}{n:Nat}{v:Value}(ht:P.underlying t=some (.array n e)) (h:Value.okWide P w r B8 t v):∃ cs,v= .agg cs:=by
 unfold Value.okWide at h;rw[ht]at h;obtain⟨cs,h,-⟩:=h;exact⟨cs,h⟩
def lifted (os:Os) (started:os.Started) (H:Type) (enc:TypeId×Value->H) :
  ReturnsInHanded {} Tryz.checked os 3 .any (fun w args=>(Rows.typesTurnedSpec.pre enc Tryz.prog Tryz.f3 Rows.typesTurnedRow.domain false w args/\laidMetH Tryz.prog Rows.typesTurnedRow.laid w)/\sizedMet enc Tryz.prog Tryz.f3 (OpenSpec.ofChange Rows.typesTurnedSpec) false w args)
   (Rows.typesTurnedSpec.post enc Tryz.prog Tryz.f3 false true false false):=by
 refine returnsInHanded_of_change_and (C:=Tryz.checked) (X:=fun w _=>laidMetH Tryz.prog Rows.typesTurnedRow.laid w) (fun _ _ _ hh h=>h.of_heap hh) own started (by kernel_rfl) Tryz.func3
  (ChangeSpec.witness_shaped (enc:=enc) (C:=Tryz.checked) (os:=os) (X:=fun w _=>laidMetH Tryz.prog Rows.typesTurnedRow.laid w) false (World.laidAll Tryz.prog os Rows.typesTurnedRow.laid) #[.slice none 0 0,.agg #[.slice none 0 0,.slice none 0 0],.int .u8 0] 8 (World.laidAll_os _ _ _) (World.shaped_of_ZipB (by kernel_rfl) (by kernel_rfl)) (by kernel_rfl) (by kernel_rfl) (by kernel_rfl) (qw os _)) ?_
 intro W B8 args ds gs before AF9 hW BP3 _ hL _;have Vc:∀ (j:Nat) t v,Tryz.f3.params[j]? =some t->args[j]? =some v->Value.okWide Tryz.prog W .any B8 t v:=AF9;have hW':=hW;obtain⟨p,q,hA0,hV,rfl,hfz,hnd⟩:=hW;have hA:DataW.TrodAll enc Tryz.prog W 0 (fun _=>true) true Tryz.f3.params.toList args.toList ds p:=hA0;rw[Tryz.params3]at hA Vc;obtain⟨v0,vs0,d0,ds0,p0,q0,Dy,rfl,rfl,h0,r0⟩:=trodAll_cons hA;obtain⟨v1,vs1,d1,ds1,p1,q1,rfl,rfl,rfl,h1,r1⟩:=trodAll_cons r0;obtain⟨v2,vs2,d2,ds2,p2,q2,rfl,rfl,rfl,h2,r2⟩:=trodAll_cons r1;obtain⟨rfl,rfl,rfl⟩:=trodAll_nil r2;obtain rfl:args=#[v0,v1,v2]:=by cases args;simp_all
 obtain⟨rfl,rfl⟩:=trodVars_none hV;obtain⟨sa,sl,sc,rfl⟩:=okWide_slice Tryz.underlying22 (Vc 0 22 v0 rfl rfl);obtain⟨cs1,rfl⟩:=dh Tryz.underlying23 (Vc 1 23 v1 rfl rfl);obtain⟨nq,rfl⟩:=okWide_int Tryz.underlying5 (Vc 2 5 v2 rfl rfl);have k0:=h0;have k1:=h1;have k2:=h2;have lt0:∀ x∈p0,x.block<W.heap.size:=by obtain⟨m,hm⟩:=k0;exact DataW.trod_lt m _ _ _ hm
 have lt1:∀ x∈p1,x.block<W.heap.size:=by obtain⟨m,hm⟩:=k1;exact DataW.trod_lt m _ _ _ hm
 have lt2:∀ x∈p2,x.block<W.heap.size:=by obtain⟨m,hm⟩:=k2;exact DataW.trod_lt m _ _ _ hm
 obtain⟨m0,hm0⟩:=h0;obtain⟨m1,hm1⟩:=h1;obtain⟨m2,hm2⟩:=h2;have Ax4:=DataW.trod_le (Nat.le_add_right m0 6) hm0;have Ax5:=DataW.trod_le (Nat.le_add_right m1 6) hm1;have Ax6:=DataW.trod_le (Nat.le_add_right m2 6) hm2;obtain⟨arr,e,f,hc,h20,hp⟩:=Ah2 (show laidMetH Tryz.prog Rows.typesTurnedRow.laid W from hL);have hE:=Ak8 (show laidMetH Tryz.prog Rows.typesTurnedRow.laid W from hL);clear hA0 AF9;refine(bO sa sl sc cs1 _ Ax4 Ax5 Ax6 (qy m0) (mq m1) (vG m2) (de hL) hE hc h20 hp).mono fun e W' ⟨he,bel⟩=>?_;subst he;exact⟨_,rfl,_,_,_,[],_,[],hW',trodAll_mk1 (shut_bool Tryz.underlying4 _),(trodAll_cons_mk (Below.trod laidOut (by kernel_rfl) (of_decide_eq_true (by kernel_rfl)) k0 bel lt0) (trodAll_cons_mk (Below.trod laidOut (by kernel_rfl) (of_decide_eq_true (by kernel_rfl)) k1 bel lt1) (trodAll_cons_mk (Below.trod laidOut (by kernel_rfl) (of_decide_eq_true (by kernel_rfl)) k2 bel lt2) trodAll_mk0))),rfl,bel.frame _,fun h=>by cases h⟩
end Go.Proofs.YtgjocfjdecjhoaaGreatDoor.typesTurned
