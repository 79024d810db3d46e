/- The reference compares formulas. -/
import Derived.Test.YtbcanmagihejhaaGreatDoorRE
set_option linter.unusedSimpArgs false
set_option linter.unusedVariables false
namespace Go.Proofs.T
open Go Go.Ab
open Nat (reduceMul reduceEqDiff reduceAdd)
set_option maxRecDepth 100000
set_option maxHeartbeats 4000000 in
theorem reqf_ok:∀ (n:Nat){Z:St}{ra rb:List Value}{a b:Ex},SizeOf.sizeOf a<n->ExAt Z ra a->ExAt Z rb b->Ev (go Tryz.prog HS (.fn 26) [.agg ⟨ra⟩,.agg ⟨rb⟩] Z) (fun r=>∃ Z',r=⟨false,.bool (exEqb a b),Z'⟩/\Ext Z Z') ⟨⟩:=by
 intro n
 induction n with
 | zero=>intro Z ra rb a b h;omega
 | succ n ih =>
   rintro Z ra rb ⟨o,nu,de,nm,es⟩ ⟨o',nu',de',nm',es'⟩ hsz ⟨v,rows,rfl,h2,h4,h3⟩ ⟨v',rows',rfl,h2',h4',h3'⟩
   obtain ⟨sa,sc,sb,so,scs,rfl,s1,s2⟩:=ExsAt.slice h2 h3
   obtain ⟨sa',sc',sb',so',scs',rfl,s1',s2'⟩:=ExsAt.slice h2' h3'
   have e0:exEqb (.mk o nu de nm es) (.mk o' nu' de' nm' es')=(decide (o=o')&&(decide (nu=nu')&&decide (de=de'))&&decide (nm=nm')&&exsEqb es es'):=by unfold exEqb;rfl
   refine ev_go Tryz.func26 rfl rfl ?_
   rw [e0]
   have ext2:∀ u v:List Value,Ext Z ((Z.new u).new v):=fun u v=>((Ext.refl _).new' _).new' _
   cases hd1:decide (o=o') with
   | false=>simp (maxSteps:=8000000) (disch:=first|exact dS|fail) only [↓bD,bW,reduceMul,reduceEqDiff,reduceAdd,Nat.reduceBEq,reduceIte,Option.isNone_none,b2_rat.1,b2_rat.2,hd1,Bool.false_and,Tryz.results26];exact ⟨_,rfl,ext2 _ _⟩
   | true =>
   cases hd2:(decide (nu=nu')&&decide (de=de')) with
   | false=>simp (maxSteps:=8000000) (disch:=first|exact dS|fail) only [↓bD,bW,reduceMul,reduceEqDiff,reduceAdd,Nat.reduceBEq,reduceIte,Option.isNone_none,b2_rat.1,b2_rat.2,hd1,hd2,Bool.false_and,Bool.true_and,Tryz.results26];exact ⟨_,rfl,ext2 _ _⟩
   | true =>
   cases hd3:decide (nm=nm') with
   | false=>simp (maxSteps:=8000000) (disch:=first|exact dS|fail) only [↓bD,bW,reduceMul,reduceEqDiff,reduceAdd,Nat.reduceBEq,reduceIte,Option.isNone_none,b2_rat.1,b2_rat.2,hd1,hd2,hd3,Bool.false_and,Bool.true_and,Tryz.results26];exact ⟨_,rfl,ext2 _ _⟩
   | true =>
   by_cases hlen:es.length=es'.length
   ·have hd4:decide ((es.length:Int)=(es'.length:Int))=true:=by simp [hlen]
    simp (maxSteps:=8000000) (disch:=first|exact dS|fail) only [↓bD,bW,reduceMul,reduceEqDiff,reduceAdd,Nat.reduceBEq,reduceIte,Option.isNone_none,b2_rat.1,b2_rat.2,hd1,hd2,hd3,hd4,Bool.false_and,Bool.true_and]
    refine ev_count es.length (fun k fr Z'=>fr.get 5=some (.int .i64 k)/\fr.get 2=some (.pointer (some ⟨Z.n,0,none⟩))/\fr.get 3=some (.pointer (some ⟨Z.n+1,0,none⟩)) /\
      Ext ((Z.new [str o,.int .i64 nu,.int .i64 de,str nm,.slice sa es.length sc]).new [str o',.int .i64 nu',.int .i64 de',str nm',.slice sa' es'.length sc']) Z'/\(∀ i a b,i<k->es[i]? =some a->es'[i]? =some b->exEqb a b=true))
     (fun r=>(∃ fr Z',r=⟨.exit 0,fr,Z'⟩/\Ext Z Z'/\exsEqb es es'=true)\/(∃ fr Z',r=⟨.ret,fr,Z'⟩/\Ext Z Z'/\fr.get 4=some (.bool false)/\exsEqb es es'=false)) ?_ ?_ ?_ ?_
    ·exact ⟨fR,fR,fR,.refl _,fun i a b h=>om⟩
    ·rintro k fr Z' hk ⟨g5,g2,g3,hE,hm⟩
     have hc:=lt_true hk
     have hE0:Ext Z Z':=(ext2 _ _).trans hE
     have hc':k<es'.length:=om
     obtain ⟨x,hx⟩:=at_some hk
     obtain ⟨y,hy⟩:=at_some hc'
     obtain ⟨rx,hrx,hex⟩:=s2 k x hx
     obtain ⟨ry,hry,hey⟩:=s2' k y hy
     obtain ⟨sp,rfl,l3,l4⟩:=s1 om
     obtain ⟨sp',rfl,l3',l4'⟩:=s1' om
     have r1:Z'.row sb=some scs:=by rw [hE0.row l3];exact l4
     have r2:Z'.row sb'=some scs':=by rw [hE0.row l3'];exact l4'
     have r3:Z'.row Z.n=some [str o,.int .i64 nu,.int .i64 de,str nm,.slice (some ⟨sb,so,sp⟩) es.length sc]:=by rw [hE.row (by simp;omega)];exact cL
     have r4:Z'.row (Z.n+1)=some [str o',.int .i64 nu',.int .i64 de',str nm',.slice (some ⟨sb',so',sp'⟩) es'.length sc']:=by rw [hE.row (by simp)];exact cL
     have hrl:rx.length=5:=hex.len
     have hrl':ry.length=5:=hey.len
     refine gS1 (aI @g2 (aI @g3 (aI @g5 (aI @hc (aI @r1 (aI @r2 (aI @r3 (aI @r4 (aI @hrx @hry))))))))) ?_
     refine (ih (a:=x) (b:=y) ?_ (hex.mono hE0) (hey.mono hE0)).mono ?_
     ·have h5:=List.sizeOf_lt_of_mem (List.mem_of_getElem? hx)
      simp at hsz
      omega
     rintro r ⟨Z2,rfl,hE2⟩
     simp (maxSteps:=8000000) (disch:=first|exact dS|fail) only [↓bD,bW,reduceMul,reduceEqDiff,reduceAdd,Nat.reduceBEq,reduceIte,Option.isNone_none,g2,g3,g5,asx hE2]
     cases hq:exEqb x y with
     | true =>
       refine gS1 (aI @g2 (aI @g3 @g5)) ?_
       refine ⟨fR,fR1 g2,fR1 g3,hE.trans hE2,fun i a b hi ha hb=>?_⟩
       by_cases e:i=k
       ·subst e;rw [hx] at ha;rw [hy] at hb;cases ha;cases hb;exact hq
       ·exact hm i a b om ha hb
     | false =>
       refine gS1 (aI @g2 (aI @g3 @g5)) ?_
       exact .inr ⟨_,_,rfl,hE0.trans hE2,fR,exsEqb_take hlen hx hy hq⟩
    ·rintro fr Z' ⟨g5,g2,g3,hE,hm⟩
     have r3:Z'.row Z.n=some [str o,.int .i64 nu,.int .i64 de,str nm,.slice sa es.length sc]:=by rw [hE.row (by simp;omega)];exact cL
     refine gS1 (aI @g2 (aI @g3 (aI @g5 @r3))) ?_
     exact .inl ⟨_,_,rfl,(ext2 _ _).trans hE,exsEqb_all hlen fun k a b ha hb=>hm k a b (List.getElem?_eq_some_iff.1 ha).1 ha hb⟩
    ·rintro r (⟨fr,Z',rfl,hE,hq⟩|⟨fr,Z',rfl,hE,g4,hq⟩)
     ·simp (maxSteps:=8000000) (disch:=first|exact dS|fail) only [↓bD,bW,reduceMul,reduceEqDiff,reduceAdd,Nat.reduceBEq,reduceIte,Option.isNone_none,Tryz.results26];rw [hq];exact ⟨_,rfl,hE⟩
     ·simp (maxSteps:=8000000) (disch:=first|exact dS|fail) only [↓bD,bW,reduceMul,reduceEqDiff,reduceAdd,Nat.reduceBEq,reduceIte,Option.isNone_none,Tryz.results26,g4];rw [hq];exact ⟨_,rfl,hE⟩
   ·have hd4:decide ((es.length:Int)=(es'.length:Int))=false:=by simp;omega
    simp (maxSteps:=8000000) (disch:=first|exact dS|fail) only [↓bD,bW,reduceMul,reduceEqDiff,reduceAdd,Nat.reduceBEq,reduceIte,Option.isNone_none,b2_rat.1,b2_rat.2,hd1,hd2,hd3,hd4,Bool.false_and,Bool.true_and,Tryz.results26]
    rw [exsEqb_len hlen]
    exact ⟨_,rfl,ext2 _ _⟩
end Go.Proofs.T
