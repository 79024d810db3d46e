/- probitylaw03.TypesTight returns true for every input, and each argument reads CO as it read before; where the listed package-level X0 hold what the X6 text RJ. -/
import Derived.Test.YtgjocfjdecjhoaaGreatDoorILD
import Derived.Test.YtgjocfjdecjhoaaGreatDoorCards
import Derived.Lay
set_option linter.unusedSimpArgs false
set_option linter.unusedVariables false
set_option linter.defProp false
set_option maxHeartbeats 32000000
set_option maxRecDepth 100000
namespace Go.Proofs.YtgjocfjdecjhoaaGreatDoor.typesTight
open Go Go.ChangeShapes Go.WideShapes Go.ChangeAt Go.RowKit
open Go.ChangeMaps (open_string shut_string)
set_option linter.unusedVariables false
def own:ownKnob Tryz.prog.godebug=none:=by kernel_rfl
def laidOut:laidOutB Tryz.prog=true:=by kernel_rfl
def Lq {W:World}(h:laidMetH Tryz.prog Rows.typesTightRow.laid W):10<=W.heap.size:=by
 rw[MakeChecks.laidMetH_plain _ _ _ (by kernel_rfl)]at h;obtain⟨ps,a,-,-⟩:=h;obtain⟨g0,t0,cs0,f0,p0,q0,hg0,ht0,hv0,hd0,a,-⟩:=a;obtain⟨g1,t1,cs1,f1,p1,q1,hg1,ht1,hv1,hd1,a,-⟩:=a;obtain⟨g2,t2,cs2,f2,p2,q2,hg2,ht2,hv2,hd2,a,-⟩:=a;obtain⟨g3,t3,cs3,f5,p3,q3,hg3,ht3,hv3,hd3,a,-⟩:=a;obtain⟨g4,t4,cs4,f4,p4,q4,hg4,ht4,hv4,hd4,-,-⟩:=a;have e:Tryz.prog.globalNamed "strconv.ErrRange"=some 9:=by kernel_rfl
 obtain rfl:=Option.some.inj (e.symm.trans hg4);simp only[World.var?,hg4,Option.bind_some]at hv4;rcases Nat.lt_or_ge 9 W.heap.size with h|h
 ·exact h
 ·rw[Array.getElem?_eq_none h]at hv4;cases hv4
def RK (os:Os) (args:Array Value):laidMetH Tryz.prog Rows.typesTightRow.laid ((World.laidAll Tryz.prog os Rows.typesTightRow.laid).forCall (fun _ _=>0) ⟨#[],args,[]⟩).memory:=by
 rw[MakeChecks.laidMetH_plain _ _ _ (by kernel_rfl)];exact laidMet_laidAll _ (by kernel_rfl) (by kernel_rfl)
def lifted (os:Os) (a:os.Started) (H:Type) (enc:TypeId×Value->H) :
  ReturnsInHanded {} Tryz.checked os 5 .any (fun w args=>(Rows.typesTightSpec.pre enc Tryz.prog Tryz.f5 Rows.typesTightRow.domain false w args/\laidMetH Tryz.prog Rows.typesTightRow.laid w)/\sizedMet enc Tryz.prog Tryz.f5 (OpenSpec.ofChange Rows.typesTightSpec) false w args)
   (Rows.typesTightSpec.post enc Tryz.prog Tryz.f5 false true false false):=by
 refine returnsInHanded_of_change_and (C:=Tryz.checked) (X:=fun w _=>laidMetH Tryz.prog Rows.typesTightRow.laid w) (fun _ _ _ L h=>h.of_heap L) own a (by kernel_rfl) Tryz.func5
  (ChangeSpec.witness_shaped (enc:=enc) (C:=Tryz.checked) (os:=os) (X:=fun w _=>laidMetH Tryz.prog Rows.typesTightRow.laid w) false (World.laidAll Tryz.prog os Rows.typesTightRow.laid) #[.slice none 0 0,.slice none 0 0] 8 (World.laidAll_os _ _ _) (World.shaped_of_ZipB (by kernel_rfl) (by kernel_rfl)) (by kernel_rfl) (by kernel_rfl) (by kernel_rfl) (RK os _)) ?_
 intro W B8 args F O d y A E _ l _;have k:∀ (j:Nat) t v,Tryz.f5.params[j]? =some t->args[j]? =some v->Value.okWide Tryz.prog W .any B8 t v:=y;have n:=A;obtain⟨p,q,c,I,rfl,K,M⟩:=A;have z:DataW.TrodAll enc Tryz.prog W 0 (fun _=>true) true Tryz.f5.params.toList args.toList F p:=c;rw[Tryz.params5]at z k;obtain⟨v0,vs0,d0,ds0,p0,q0,Dy,rfl,rfl,h0,r0⟩:=trodAll_cons z;obtain⟨v1,vs1,d1,ds1,p1,q1,rfl,rfl,rfl,h1,r1⟩:=trodAll_cons r0;obtain⟨rfl,rfl,rfl⟩:=trodAll_nil r1;obtain rfl:args=#[v0,v1]:=by cases args;simp_all
 obtain⟨rfl,rfl⟩:=trodVars_none I;obtain⟨sa,sl,sc,rfl⟩:=okWide_slice Tryz.underlying22 (k 0 22 v0 rfl rfl);obtain⟨ta,tl,tc,rfl⟩:=okWide_slice Tryz.underlying22 (k 1 22 v1 rfl rfl);have k0:=h0;have B:=h1;have s:∀ x∈p0,x.block<W.heap.size:=by obtain⟨m,o⟩:=k0;exact DataW.trod_lt m _ _ _ o
 have u:∀ x∈p1,x.block<W.heap.size:=by obtain⟨m,o⟩:=B;exact DataW.trod_lt m _ _ _ o
 obtain⟨D,r⟩:=h0;obtain⟨m1,hm1⟩:=h1;have g:=DataW.trod_le (Nat.le_add_right D 6) r;have i:=DataW.trod_le (Nat.le_add_right m1 6) hm1;obtain⟨arr,e,f,hc,h20,hp⟩:=AK7 (show laidMetH Tryz.prog Rows.typesTurnedRow.laid W from l);have G:=AK8 (show laidMetH Tryz.prog Rows.typesTurnedRow.laid W from l);clear c y;refine(AH5 sa sl sc ta tl tc g i (Mn D) (Mn m1) (Lq l) G hc h20 hp).mono fun e N ⟨J,b⟩=>?_;subst J;exact⟨_,rfl,_,_,_,[],_,[],n,trodAll_mk1 (shut_bool Tryz.underlying4 _),(trodAll_cons_mk (Below.trod laidOut (by kernel_rfl) (of_decide_eq_true (by kernel_rfl)) k0 b s) (trodAll_cons_mk (Below.trod laidOut (by kernel_rfl) (of_decide_eq_true (by kernel_rfl)) B b u) trodAll_mk0)),rfl,b.frame _,fun h=>by cases h⟩
end Go.Proofs.YtgjocfjdecjhoaaGreatDoor.typesTight
