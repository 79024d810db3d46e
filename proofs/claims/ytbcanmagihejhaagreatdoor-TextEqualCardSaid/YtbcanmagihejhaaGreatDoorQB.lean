/- The reference cZ AS. -/
import Derived.Test.YtbcanmagihejhaaGreatDoorQA
import Derived.Test.YtbcanmagihejhaaGreatDoorRE
set_option linter.unusedSimpArgs false
set_option linter.unusedVariables false
set_option maxHeartbeats 32000000
set_option maxRecDepth 100000
namespace Go.Proofs.T
open Go Go.Ab
open Nat (reduceMul reduceEqDiff reduceAdd)
theorem ju:∀ (n:Nat){Z:St}{ra rb:List Value}{a b:Ex},SizeOf.sizeOf a<n->Ah Z ra a->Ah Z rb b->Ev (go Tryz.prog HS (.fn 26) [.agg ⟨ra⟩,.agg ⟨rb⟩] Z) (fun r=>∃ Z',r=⟨false,.bool (CO a b),Z'⟩/\Ext Z Z') ⟨⟩:=by
 intro n;induction n with
 | zero=>intro Z ra rb a b h;omega
 | succ n ih =>
   rintro Z ra rb ⟨o,nu,de,nm,es⟩ ⟨o',nu',de',nm',es'⟩ hsz ⟨v,rows,rfl,h2,h4,h3⟩ ⟨v',Xh,rfl,h2',h4',h3'⟩;obtain ⟨sa,sc,sb,so,scs,rfl,s1,s2⟩:=AM.slice h2 h3;obtain ⟨sa',sc',sb',so',cd,rfl,s1',s2'⟩:=AM.slice h2' h3';have e0:CO (.mk o nu de nm es) (.mk o' nu' de' nm' es')=(decide (o=o')&&(decide (nu=nu')&&decide (de=de'))&&decide (nm=nm')&&Y4 es es'):=by unfold CO;rfl
   refine D7 Tryz.func26 rfl rfl ?_;rw [e0];have Cp:∀ u v:List Value,Ext Z ((Z.new u).new v):=fun u v=>((Ext.refl _).AF _).AF _;cases hd1:decide (o=o') with
   | false=>simp (maxSteps:=8000000) (disch:=first|exact dS|fail) only [↓bD,bW,reduceMul,reduceEqDiff,reduceAdd,Nat.reduceBEq,reduceIte,Option.isNone_none,Y5.1,Y5.2,hd1,Bool.false_and,Tryz.results26];exact ⟨_,rfl,Cp _ _⟩
   | true =>
   cases hd2:(decide (nu=nu')&&decide (de=de')) with
   | false=>simp (maxSteps:=8000000) (disch:=first|exact dS|fail) only [↓bD,bW,reduceMul,reduceEqDiff,reduceAdd,Nat.reduceBEq,reduceIte,Option.isNone_none,Y5.1,Y5.2,hd1,hd2,Bool.false_and,Bool.true_and,Tryz.results26];exact ⟨_,rfl,Cp _ _⟩
   | true =>
   cases hd3:decide (nm=nm') with
   | false=>simp (maxSteps:=8000000) (disch:=first|exact dS|fail) only [↓bD,bW,reduceMul,reduceEqDiff,reduceAdd,Nat.reduceBEq,reduceIte,Option.isNone_none,Y5.1,Y5.2,hd1,hd2,hd3,Bool.false_and,Bool.true_and,Tryz.results26];exact ⟨_,rfl,Cp _ _⟩
   | true =>
   by_cases hlen:es.length=es'.length
   ·have hd4:decide ((es.length:Int)=(es'.length:Int))=true:=by simp [hlen]
    simp (maxSteps:=8000000) (disch:=first|exact dS|fail) only [↓bD,bW,reduceMul,reduceEqDiff,reduceAdd,Nat.reduceBEq,reduceIte,Option.isNone_none,Y5.1,Y5.2,hd1,hd2,hd3,hd4,Bool.false_and,Bool.true_and]
    refine L8 es.length (fun k fr Z'=>fr.get 5=some (.int .i64 k)/\fr.get 2=some (.pointer (some ⟨Z.n,0,none⟩))/\fr.get 3=some (.pointer (some ⟨Z.n+1,0,none⟩)) /\
      Ext ((Z.new [str o,.int .i64 nu,.int .i64 de,str nm,.slice sa es.length sc]).new [str o',.int .i64 nu',.int .i64 de',str nm',.slice sa' es'.length sc']) Z'/\(∀ i a b,i<k->es[i]? =some a->es'[i]? =some b->CO a b=true))
     (fun r=>(∃ fr Z',r=⟨.exit 0,fr,Z'⟩/\Ext Z Z'/\Y4 es es'=true)\/(∃ fr Z',r=⟨.ret,fr,Z'⟩/\Ext Z Z'/\fr.get 4=some (.bool false)/\Y4 es es'=false)) ?_ ?_ ?_ ?_
    ·exact ⟨fR,fR,fR,.refl _,fun i a b h=>om⟩
    ·rintro k fr Z' hk ⟨g5,g2,g3,hE,hm⟩;have hc:=O9 hk;have hE0:Ext Z Z':=(Cp _ _).trans hE;have hc':k<es'.length:=om;obtain ⟨x,hx⟩:=H8 hk;obtain ⟨y,hy⟩:=H8 hc';obtain ⟨rx,hrx,hex⟩:=s2 k x hx;obtain ⟨ry,hry,hey⟩:=s2' k y hy;obtain ⟨sp,rfl,l3,l4⟩:=s1 om;obtain ⟨sp',rfl,l3',l4'⟩:=s1' om;have r1:Z'.row sb=some scs:=by rw [hE0.row l3];exact l4
     have r2:Z'.row sb'=some cd:=by rw [hE0.row l3'];exact l4'
     have r3:Z'.row Z.n=some [str o,.int .i64 nu,.int .i64 de,str nm,.slice (some ⟨sb,so,sp⟩) es.length sc]:=by rw [hE.row (by simp;omega)];exact cL
     have r4:Z'.row (Z.n+1)=some [str o',.int .i64 nu',.int .i64 de',str nm',.slice (some ⟨sb',so',sp'⟩) es'.length sc']:=by rw [hE.row (by simp)];exact cL
     have hrl:rx.length=5:=hex.len;have wh:ry.length=5:=hey.len;refine gS1 (a10N @g2 @g3 @g5 @hc @r1 @r2 @r3 @r4 @hrx @hry) ?_;refine (ih (a:=x) (b:=y) ?_ (hex.mono hE0) (hey.mono hE0)).mono ?_
     ·have h5:=List.sizeOf_lt_of_mem (List.mem_of_getElem? hx);simp at hsz;omega
     rintro r ⟨Z2,rfl,hE2⟩;simp (maxSteps:=8000000) (disch:=first|exact dS|fail) only [↓bD,bW,reduceMul,reduceEqDiff,reduceAdd,Nat.reduceBEq,reduceIte,Option.isNone_none,g2,g3,g5,asx hE2];cases hq:CO x y with
     | true =>
       refine gS1 (a3N @g2 @g3 @g5) ?_;refine ⟨fR,fR1 g2,fR1 g3,hE.trans hE2,fun i a b hi ha hb=>?_⟩;by_cases e:i=k
       ·subst e;rw [hx] at ha;rw [hy] at hb;cases ha;cases hb;exact hq
       ·exact hm i a b om ha hb
     | false =>
       refine gS1 (a3N @g2 @g3 @g5) ?_;exact .inr ⟨_,_,rfl,hE0.trans hE2,fR,Gg hlen hx hy hq⟩
    ·rintro fr Z' ⟨g5,g2,g3,hE,hm⟩;have r3:Z'.row Z.n=some [str o,.int .i64 nu,.int .i64 de,str nm,.slice sa es.length sc]:=by rw [hE.row (by simp;omega)];exact cL
     refine gS1 (a4N @g2 @g3 @g5 @r3) ?_;exact .inl ⟨_,_,rfl,(Cp _ _).trans hE,IM hlen fun k a b ha hb=>hm k a b (List.getElem?_eq_some_iff.1 ha).1 ha hb⟩
    ·rintro r (⟨fr,Z',rfl,hE,hq⟩|⟨fr,Z',rfl,hE,g4,hq⟩)
     ·simp (maxSteps:=8000000) (disch:=first|exact dS|fail) only [↓bD,bW,reduceMul,reduceEqDiff,reduceAdd,Nat.reduceBEq,reduceIte,Option.isNone_none,Tryz.results26];rw [hq];exact ⟨_,rfl,hE⟩
     ·simp (maxSteps:=8000000) (disch:=first|exact dS|fail) only [↓bD,bW,reduceMul,reduceEqDiff,reduceAdd,Nat.reduceBEq,reduceIte,Option.isNone_none,Tryz.results26,g4];rw [hq];exact ⟨_,rfl,hE⟩
   ·have hd4:decide ((es.length:Int)=(es'.length:Int))=false:=by simp;omega
    simp (maxSteps:=8000000) (disch:=first|exact dS|fail) only [↓bD,bW,reduceMul,reduceEqDiff,reduceAdd,Nat.reduceBEq,reduceIte,Option.isNone_none,Y5.1,Y5.2,hd1,hd2,hd3,hd4,Bool.false_and,Bool.true_and,Tryz.results26];rw [IP hlen];exact ⟨_,rfl,Cp _ _⟩
noncomputable def eqC (l:List Nat):Code:=Gd l ((Tryz.f30).body.getD .skip)
theorem gb {Z:St}{v w:Value}{l m:List Int}(hl:Ca Z v l) (hk:Ca Z w m) (hn:l.length<=100) (hn2:m.length<=100) :
  Ev (go Tryz.prog HS (.fn 56) [v,w] Z) (fun r=>r=⟨false,.bool (decide (l=m)),Z⟩) ⟨⟩:=by
 obtain ⟨a,c,b,off,cells,rfl,h1,h2⟩:=hl.use;obtain ⟨a',c',b',OM,P7,rfl,h1',h2'⟩:=hk.use;refine D7 Tryz.func56 rfl rfl ?_;by_cases hlen:l.length=m.length
 ·have hd:decide ((l.length:Int)=(m.length:Int))=true:=by simp [hlen]
  refine gU1 (a3N @A1 @A7 @hd) ?_
  refine L8 l.length (fun i fr Z'=>fr.get 5=some (.int .i64 i)/\fr.get 0=some (.slice a l.length c)/\fr.get 1=some (.slice a' m.length c')/\Z'=Z/\l.take i=m.take i)
   (fun r=>(∃ fr,r=⟨.exit 0,fr,Z⟩/\l=m)\/(∃ fr,r=⟨.ret,fr,Z⟩/\fr.get 4=some (.bool false)/\l≠m)) ?_ ?_ ?_ ?_
  ·exact ⟨fR,fR,fR,rfl,by simp⟩
  ·rintro i fr Z' hi ⟨g5,g0,g1,rfl,hm⟩;have hc:=O9 hi;have hci:i<m.length:=om;obtain ⟨sp,rfl,hb,hr⟩:=h1 om;obtain ⟨sp',rfl,hb',hr'⟩:=h1' om;obtain ⟨x,hx⟩:=H8 hi;obtain ⟨y,hy⟩:=H8 hci;have h2:=h2 i x hx;have h2':=h2' i y hy;cases hd2:decide (x=y) with
   | true =>
     have hxy:x=y:=of_decide_eq_true hd2;refine gU1 (a11N @A1 @A7 @g0 @g1 @g5 @hc @hr @hr' @h2 @h2' @hd2) ?_
     try refine H3.intro (by (repeat first|simp (disch:=omega) only [B9,C9,C0]|rw [D0 (by kernel_rfl)]);first|done|rfl) ?_
     try (refine gU1 (a6N @A1 @A7 @g0 @g1 @g5 @hd2) ?_;try exact ⟨⟩)
     exact ⟨fR,fR1 g0,fR1 g1,by trivial,by rw [List.take_add_one,List.take_add_one,hm,hx,hy,hxy]⟩
   | false =>
     have hxy:¬ x=y:=of_decide_eq_false hd2;refine gU1 (a11N @A1 @A7 @g0 @g1 @g5 @hc @hr @hr' @h2 @h2' @hd2) ?_
     try refine H3.intro (by (repeat first|simp (disch:=omega) only [B9,C9,C0]|rw [D0 (by kernel_rfl)]);first|done|rfl) ?_
     try (refine gU1 (a6N @A1 @A7 @g0 @g1 @g5 @hd2) ?_;try exact ⟨⟩)
     refine .inr ⟨_,rfl,fR,fun h=>?_⟩;subst h;rw [hx] at hy;cases hy;exact hxy rfl
  ·rintro fr Z' ⟨g5,g0,g1,rfl,hm⟩;refine gU1 (a5N @A1 @A7 @g0 @g5 @Bo) ?_;refine .inl ⟨_,rfl,?_⟩;rw [List.take_length,hlen,List.take_length] at hm;exact hm
  ·rintro r (⟨fr,rfl,hm⟩|⟨fr,rfl,g4,hm⟩)
   ·refine gU1 (a3N @A1 @A7 @Tryz.results56) ?_;rw [decide_eq_true hm]
   ·refine gU1 (a4N @A1 @A7 @Tryz.results56 @g4) ?_;rw [decide_eq_false hm]
 ·have hd:decide ((l.length:Int)=(m.length:Int))=false:=by simp;omega
  refine gU1 (a4N @A1 @A7 @hd @Tryz.results56) ?_;rw [decide_eq_false (fun h=>hlen (by rw [h]))]
theorem kL {τ:St}{fr0:Fr}{p q:Nat}{ca cb:List Value}{vl ul:Value}{l m:List Lot}(g2:fr0.get 2=some (.pointer (some ⟨p,0,none⟩))) (g3:fr0.get 3=some (.pointer (some ⟨q,0,none⟩))) (wp:τ.row p=some ca) (wq:τ.row q=some cb) (s1:sub ca 1 1=some [vl]) (q1:sub cb 1 1=some [ul])
  (hl:Sf τ vl l) (hk:Sf τ ul m) (hlen:l.length=m.length) (hn:l.length<=100) :
  Ev (lim Tryz.prog HS none (eqC [1,1,1,0]) fr0 τ) (fun r=>(∃ fr,r=⟨.normal,fr,τ⟩/\(fr.get 2=some (.pointer (some ⟨p,0,none⟩))/\fr.get 3=some (.pointer (some ⟨q,0,none⟩)))/\l=m)\/(∃ fr,r=⟨.ret,fr,τ⟩/\fr.get 4=some (.bool false)/\l≠m)) ⟨⟩:=by
 obtain ⟨a,c,b,off,cells,rfl,h1,h2⟩:=hl.use;obtain ⟨a',c',b',OM,P7,rfl,h1',h2'⟩:=hk.use;simp only [eqC,Tryz.f30,F9,I7,U9,V0,V6,V7];refine gU1 (aI @A1 @A7) ?_
 refine L8 l.length (fun i fr Z'=>fr.get 6=some (.int .i64 i)/\fr.get 2=some (.pointer (some ⟨p,0,none⟩))/\fr.get 3=some (.pointer (some ⟨q,0,none⟩))/\Z'=τ/\l.take i=m.take i)
  (fun r=>(∃ fr,r=⟨.exit 0,fr,τ⟩/\(fr.get 2=some (.pointer (some ⟨p,0,none⟩))/\fr.get 3=some (.pointer (some ⟨q,0,none⟩)))/\l=m)\/(∃ fr,r=⟨.ret,fr,τ⟩/\fr.get 4=some (.bool false)/\l≠m)) ?_ ?_ ?_ ?_
 ·exact ⟨fR,fR1 g2,fR1 g3,rfl,by simp⟩
 ·clear g2 g3 fr0;rintro i fr Z' hi ⟨gi,g2,g3,rfl,hm⟩;have hc:=O9 hi;have hci:i<m.length:=om;obtain ⟨sp,rfl,hb,hr⟩:=h1 om;obtain ⟨sp',rfl,hb',hr'⟩:=h1' om;obtain ⟨x,hx⟩:=H8 hi;obtain ⟨y,hy⟩:=H8 hci;have h2:=(h2 i x hx).1;have h2':=(h2' i y hy).1;cases hd2:decide (x=y) with
  | true =>
    have hxy:x=y:=of_decide_eq_true hd2;simp (maxSteps:=8000000) (disch:=first|exact dS|fail) only [↓bD,bU,reduceMul,reduceEqDiff,reduceAdd,Nat.reduceBEq,reduceIte,Option.isNone_none,A1,A7,gi,g2,g3,wp,wq,s1,q1,hc,hr,hr',h2,h2',Rv.2,hd2]
    try refine H3.intro (by (repeat first|simp (disch:=omega) only [B9,C9,C0]|rw [D0 (by kernel_rfl)]);first|done|rfl) ?_
    try (refine gU1 (a6N @A1 @A7 @gi @g2 @g3 @hd2) ?_;try exact ⟨⟩)
    exact ⟨fR,fR1 g2,fR1 g3,by trivial,by rw [List.take_add_one,List.take_add_one,hm,hx,hy,hxy]⟩
  | false =>
    have hxy:¬ x=y:=of_decide_eq_false hd2;simp (maxSteps:=8000000) (disch:=first|exact dS|fail) only [↓bD,bU,reduceMul,reduceEqDiff,reduceAdd,Nat.reduceBEq,reduceIte,Option.isNone_none,A1,A7,gi,g2,g3,wp,wq,s1,q1,hc,hr,hr',h2,h2',Rv.2,hd2]
    try refine H3.intro (by (repeat first|simp (disch:=omega) only [B9,C9,C0]|rw [D0 (by kernel_rfl)]);first|done|rfl) ?_
    try (refine gU1 (a6N @A1 @A7 @gi @g2 @g3 @hd2) ?_;try exact ⟨⟩)
    refine .inr ⟨_,rfl,fR,fun h=>?_⟩;subst h;rw [hx] at hy;cases hy;exact hxy rfl
 ·clear g2 g3 fr0;rintro fr Z' ⟨gi,g2,g3,rfl,hm⟩;refine gU1 (a8N @A1 @A7 @gi @g2 @g3 @wp @s1 @Bo) ?_;rw [List.take_length,hlen,List.take_length] at hm;exact .inl ⟨_,rfl,⟨fR1 g2,fR1 g3⟩,hm⟩
 ·rintro r (⟨fr,rfl,⟨g2,g3⟩,hm⟩|⟨fr,rfl,g4,hm⟩)
  ·refine gU1 (aI @A1 @A7) ?_;exact .inl ⟨_,rfl,⟨g2,g3⟩,hm⟩
  ·refine gU1 (aI @A1 @A7) ?_;exact .inr ⟨_,rfl,g4,hm⟩
theorem dI {τ:St}{fr0:Fr}{p q:Nat}{ca cb:List Value}{vl ul:Value}{l m:List R0}(g2:fr0.get 2=some (.pointer (some ⟨p,0,none⟩))) (g3:fr0.get 3=some (.pointer (some ⟨q,0,none⟩))) (wp:τ.row p=some ca) (wq:τ.row q=some cb) (s1:sub ca 2 1=some [vl]) (q1:sub cb 2 1=some [ul])
  (hl:LG τ vl l) (hk:LG τ ul m) (hlen:l.length=m.length) (hn:l.length<=100) :
  Ev (lim Tryz.prog HS none (eqC [1,1,1,1,0]) fr0 τ) (fun r=>(∃ fr,r=⟨.normal,fr,τ⟩/\(fr.get 2=some (.pointer (some ⟨p,0,none⟩))/\fr.get 3=some (.pointer (some ⟨q,0,none⟩)))/\l=m)\/(∃ fr,r=⟨.ret,fr,τ⟩/\fr.get 4=some (.bool false)/\l≠m)) ⟨⟩:=by
 obtain ⟨a,c,b,off,cells,rfl,h1,h2⟩:=hl.use;obtain ⟨a',c',b',OM,P7,rfl,h1',h2'⟩:=hk.use;simp only [eqC,Tryz.f30,F9,I7,U9,V0,V6,V7];refine gU1 (aI @A1 @A7) ?_
 refine L8 l.length (fun i fr Z'=>fr.get 7=some (.int .i64 i)/\fr.get 2=some (.pointer (some ⟨p,0,none⟩))/\fr.get 3=some (.pointer (some ⟨q,0,none⟩))/\Z'=τ/\l.take i=m.take i)
  (fun r=>(∃ fr,r=⟨.exit 2,fr,τ⟩/\(fr.get 2=some (.pointer (some ⟨p,0,none⟩))/\fr.get 3=some (.pointer (some ⟨q,0,none⟩)))/\l=m)\/(∃ fr,r=⟨.ret,fr,τ⟩/\fr.get 4=some (.bool false)/\l≠m)) ?_ ?_ ?_ ?_
 ·exact ⟨fR,fR1 g2,fR1 g3,rfl,by simp⟩
 ·clear g2 g3 fr0;rintro i fr Z' hi ⟨gi,g2,g3,rfl,hm⟩;have hc:=O9 hi;have hci:i<m.length:=om;obtain ⟨sp,rfl,hb,hr⟩:=h1 om;obtain ⟨sp',rfl,hb',hr'⟩:=h1' om;obtain ⟨x,hx⟩:=H8 hi;obtain ⟨y,hy⟩:=H8 hci;have h2:=(h2 i x hx).1;have h2':=(h2' i y hy).1;cases hd2:decide (x=y) with
  | true =>
    have hxy:x=y:=of_decide_eq_true hd2;simp (maxSteps:=8000000) (disch:=first|exact dS|fail) only [↓bD,bU,reduceMul,reduceEqDiff,reduceAdd,Nat.reduceBEq,reduceIte,Option.isNone_none,A1,A7,gi,g2,g3,wp,wq,s1,q1,hc,hr,hr',h2,h2',Ma.2,hd2]
    try refine H3.intro (by (repeat first|simp (disch:=omega) only [B9,C9,C0]|rw [D0 (by kernel_rfl)]);first|done|rfl) ?_
    try (refine gU1 (a6N @A1 @A7 @gi @g2 @g3 @hd2) ?_;try exact ⟨⟩)
    exact ⟨fR,fR1 g2,fR1 g3,by trivial,by rw [List.take_add_one,List.take_add_one,hm,hx,hy,hxy]⟩
  | false =>
    have hxy:¬ x=y:=of_decide_eq_false hd2;simp (maxSteps:=8000000) (disch:=first|exact dS|fail) only [↓bD,bU,reduceMul,reduceEqDiff,reduceAdd,Nat.reduceBEq,reduceIte,Option.isNone_none,A1,A7,gi,g2,g3,wp,wq,s1,q1,hc,hr,hr',h2,h2',Ma.2,hd2]
    try refine H3.intro (by (repeat first|simp (disch:=omega) only [B9,C9,C0]|rw [D0 (by kernel_rfl)]);first|done|rfl) ?_
    try (refine gU1 (a6N @A1 @A7 @gi @g2 @g3 @hd2) ?_;try exact ⟨⟩)
    refine .inr ⟨_,rfl,fR,fun h=>?_⟩;subst h;rw [hx] at hy;cases hy;exact hxy rfl
 ·clear g2 g3 fr0;rintro fr Z' ⟨gi,g2,g3,rfl,hm⟩;refine gU1 (a8N @A1 @A7 @gi @g2 @g3 @wp @s1 @Bo) ?_;rw [List.take_length,hlen,List.take_length] at hm;exact .inl ⟨_,rfl,⟨fR1 g2,fR1 g3⟩,hm⟩
 ·rintro r (⟨fr,rfl,⟨g2,g3⟩,hm⟩|⟨fr,rfl,g4,hm⟩)
  ·refine gU1 (aI @A1 @A7) ?_;exact .inl ⟨_,rfl,⟨g2,g3⟩,hm⟩
  ·refine gU1 (aI @A1 @A7) ?_;exact .inr ⟨_,rfl,g4,hm⟩
theorem kM {τ:St}{fr0:Fr}{p q:Nat}{ca cb:List Value}{vl ul:Value}{l m:List Req}(g2:fr0.get 2=some (.pointer (some ⟨p,0,none⟩))) (g3:fr0.get 3=some (.pointer (some ⟨q,0,none⟩))) (wp:τ.row p=some ca) (wq:τ.row q=some cb) (s1:sub ca 3 1=some [vl]) (q1:sub cb 3 1=some [ul])
  (hl:Sg τ vl l) (hk:Sg τ ul m) (hlen:l.length=m.length) (hn:l.length<=100) :
  Ev (lim Tryz.prog HS none (eqC [1,1,1,1,1,0]) fr0 τ) (fun r=>(∃ fr,r=⟨.normal,fr,τ⟩/\(fr.get 2=some (.pointer (some ⟨p,0,none⟩))/\fr.get 3=some (.pointer (some ⟨q,0,none⟩)))/\l=m)\/(∃ fr,r=⟨.ret,fr,τ⟩/\fr.get 4=some (.bool false)/\l≠m)) ⟨⟩:=by
 obtain ⟨a,c,b,off,cells,rfl,h1,h2⟩:=hl.use;obtain ⟨a',c',b',OM,P7,rfl,h1',h2'⟩:=hk.use;simp only [eqC,Tryz.f30,F9,I7,U9,V0,V6,V7];refine gU1 (aI @A1 @A7) ?_
 refine L8 l.length (fun i fr Z'=>fr.get 8=some (.int .i64 i)/\fr.get 2=some (.pointer (some ⟨p,0,none⟩))/\fr.get 3=some (.pointer (some ⟨q,0,none⟩))/\Z'=τ/\l.take i=m.take i)
  (fun r=>(∃ fr,r=⟨.exit 4,fr,τ⟩/\(fr.get 2=some (.pointer (some ⟨p,0,none⟩))/\fr.get 3=some (.pointer (some ⟨q,0,none⟩)))/\l=m)\/(∃ fr,r=⟨.ret,fr,τ⟩/\fr.get 4=some (.bool false)/\l≠m)) ?_ ?_ ?_ ?_
 ·exact ⟨fR,fR1 g2,fR1 g3,rfl,by simp⟩
 ·clear g2 g3 fr0;rintro i fr Z' hi ⟨gi,g2,g3,rfl,hm⟩;have hc:=O9 hi;have hci:i<m.length:=om;obtain ⟨sp,rfl,hb,hr⟩:=h1 om;obtain ⟨sp',rfl,hb',hr'⟩:=h1' om;obtain ⟨x,hx⟩:=H8 hi;obtain ⟨y,hy⟩:=H8 hci;have h2:=(h2 i x hx).1;have h2':=(h2' i y hy).1;cases hd2:decide (x=y) with
  | true =>
    have hxy:x=y:=of_decide_eq_true hd2;simp (maxSteps:=8000000) (disch:=first|exact dS|fail) only [↓bD,bU,reduceMul,reduceEqDiff,reduceAdd,Nat.reduceBEq,reduceIte,Option.isNone_none,A1,A7,gi,g2,g3,wp,wq,s1,q1,hc,hr,hr',h2,h2',Rw.2,hd2]
    try refine H3.intro (by (repeat first|simp (disch:=omega) only [B9,C9,C0]|rw [D0 (by kernel_rfl)]);first|done|rfl) ?_
    try (refine gU1 (a6N @A1 @A7 @gi @g2 @g3 @hd2) ?_;try exact ⟨⟩)
    exact ⟨fR,fR1 g2,fR1 g3,by trivial,by rw [List.take_add_one,List.take_add_one,hm,hx,hy,hxy]⟩
  | false =>
    have hxy:¬ x=y:=of_decide_eq_false hd2;simp (maxSteps:=8000000) (disch:=first|exact dS|fail) only [↓bD,bU,reduceMul,reduceEqDiff,reduceAdd,Nat.reduceBEq,reduceIte,Option.isNone_none,A1,A7,gi,g2,g3,wp,wq,s1,q1,hc,hr,hr',h2,h2',Rw.2,hd2]
    try refine H3.intro (by (repeat first|simp (disch:=omega) only [B9,C9,C0]|rw [D0 (by kernel_rfl)]);first|done|rfl) ?_
    try (refine gU1 (a6N @A1 @A7 @gi @g2 @g3 @hd2) ?_;try exact ⟨⟩)
    refine .inr ⟨_,rfl,fR,fun h=>?_⟩;subst h;rw [hx] at hy;cases hy;exact hxy rfl
 ·clear g2 g3 fr0;rintro fr Z' ⟨gi,g2,g3,rfl,hm⟩;refine gU1 (a8N @A1 @A7 @gi @g2 @g3 @wp @s1 @Bo) ?_;rw [List.take_length,hlen,List.take_length] at hm;exact .inl ⟨_,rfl,⟨fR1 g2,fR1 g3⟩,hm⟩
 ·rintro r (⟨fr,rfl,⟨g2,g3⟩,hm⟩|⟨fr,rfl,g4,hm⟩)
  ·refine gU1 (aI @A1 @A7) ?_;exact .inl ⟨_,rfl,⟨g2,g3⟩,hm⟩
  ·refine gU1 (aI @A1 @A7) ?_;exact .inr ⟨_,rfl,g4,hm⟩
theorem kN {τ:St}{fr0:Fr}{p q:Nat}{ca cb:List Value}{vl ul:Value}{l m:List By}(g2:fr0.get 2=some (.pointer (some ⟨p,0,none⟩))) (g3:fr0.get 3=some (.pointer (some ⟨q,0,none⟩))) (wp:τ.row p=some ca) (wq:τ.row q=some cb) (s1:sub ca 11 1=some [vl]) (q1:sub cb 11 1=some [ul])
  (hl:Dh τ vl l) (hk:Dh τ ul m) (hlen:l.length=m.length) (hn:l.length<=100) :
  Ev (lim Tryz.prog HS none (eqC [1,1,1,1,1,1,0]) fr0 τ) (fun r=>(∃ fr,r=⟨.normal,fr,τ⟩/\(fr.get 2=some (.pointer (some ⟨p,0,none⟩))/\fr.get 3=some (.pointer (some ⟨q,0,none⟩)))/\l=m)\/(∃ fr,r=⟨.ret,fr,τ⟩/\fr.get 4=some (.bool false)/\l≠m)) ⟨⟩:=by
 obtain ⟨a,c,b,off,cells,rfl,h1,h2⟩:=hl.use;obtain ⟨a',c',b',OM,P7,rfl,h1',h2'⟩:=hk.use;simp only [eqC,Tryz.f30,F9,I7,U9,V0,V6,V7];refine gU1 (aI @A1 @A7) ?_
 refine L8 l.length (fun i fr Z'=>fr.get 9=some (.int .i64 i)/\fr.get 2=some (.pointer (some ⟨p,0,none⟩))/\fr.get 3=some (.pointer (some ⟨q,0,none⟩))/\Z'=τ/\l.take i=m.take i)
  (fun r=>(∃ fr,r=⟨.exit 6,fr,τ⟩/\(fr.get 2=some (.pointer (some ⟨p,0,none⟩))/\fr.get 3=some (.pointer (some ⟨q,0,none⟩)))/\l=m)\/(∃ fr,r=⟨.ret,fr,τ⟩/\fr.get 4=some (.bool false)/\l≠m)) ?_ ?_ ?_ ?_
 ·exact ⟨fR,fR1 g2,fR1 g3,rfl,by simp⟩
 ·clear g2 g3 fr0;rintro i fr Z' hi ⟨gi,g2,g3,rfl,hm⟩;have hc:=O9 hi;have hci:i<m.length:=om;obtain ⟨sp,rfl,hb,hr⟩:=h1 om;obtain ⟨sp',rfl,hb',hr'⟩:=h1' om;obtain ⟨x,hx⟩:=H8 hi;obtain ⟨y,hy⟩:=H8 hci;have h2:=(h2 i x hx)
  have h2':=(h2' i y hy)
  cases hd2:decide (x=y) with
  | true =>
    have hxy:x=y:=of_decide_eq_true hd2;refine gU1 (a15N @A1 @A7 @gi @g2 @g3 @wp @wq @s1 @q1 @hc @hr @hr' @h2 @h2' @hd2) ?_
    try refine H3.intro (by (repeat first|simp (disch:=omega) only [B9,C9,C0]|rw [D0 (by kernel_rfl)]);first|done|rfl) ?_
    try (refine gU1 (a6N @A1 @A7 @gi @g2 @g3 @hd2) ?_;try exact ⟨⟩)
    exact ⟨fR,fR1 g2,fR1 g3,by trivial,by rw [List.take_add_one,List.take_add_one,hm,hx,hy,hxy]⟩
  | false =>
    have hxy:¬ x=y:=of_decide_eq_false hd2;refine gU1 (a15N @A1 @A7 @gi @g2 @g3 @wp @wq @s1 @q1 @hc @hr @hr' @h2 @h2' @hd2) ?_
    try refine H3.intro (by (repeat first|simp (disch:=omega) only [B9,C9,C0]|rw [D0 (by kernel_rfl)]);first|done|rfl) ?_
    try (refine gU1 (a6N @A1 @A7 @gi @g2 @g3 @hd2) ?_;try exact ⟨⟩)
    refine .inr ⟨_,rfl,fR,fun h=>?_⟩;subst h;rw [hx] at hy;cases hy;exact hxy rfl
 ·clear g2 g3 fr0;rintro fr Z' ⟨gi,g2,g3,rfl,hm⟩;refine gU1 (a8N @A1 @A7 @gi @g2 @g3 @wp @s1 @Bo) ?_;rw [List.take_length,hlen,List.take_length] at hm;exact .inl ⟨_,rfl,⟨fR1 g2,fR1 g3⟩,hm⟩
 ·rintro r (⟨fr,rfl,⟨g2,g3⟩,hm⟩|⟨fr,rfl,g4,hm⟩)
  ·refine gU1 (aI @A1 @A7) ?_;exact .inl ⟨_,rfl,⟨g2,g3⟩,hm⟩
  ·refine gU1 (aI @A1 @A7) ?_;exact .inr ⟨_,rfl,g4,hm⟩
theorem ZV {τ:St}{fr0:Fr}{p q:Nat}{ca cb:List Value}{vl ul:Value}{vs us:List Value}{l m:List (List Int)}(g2:fr0.get 2=some (.pointer (some ⟨p,0,none⟩))) (g3:fr0.get 3=some (.pointer (some ⟨q,0,none⟩))) (wp:τ.row p=some ca) (wq:τ.row q=some cb) (s1:sub ca 13 1=some [vl]) (q1:sub cb 13 1=some [ul])
  (hl:SL τ 1 vl (vs.map fun v=>[v])) (hvl:CB (Ca τ) vs l) (hku:SL τ 1 ul (us.map fun v=>[v])) (hul:CB (Ca τ) us m) (hlen:l.length=m.length) (hn:l.length<=100) (hi:∀ c∈l,c.length<=100) (hi2:∀ c∈m,c.length<=100) :
  Ev (lim Tryz.prog HS none (eqC [1,1,1,1,1,1,1,0]) fr0 τ) (fun r=>(∃ fr,r=⟨.normal,fr,τ⟩/\l=m)\/(∃ fr,r=⟨.ret,fr,τ⟩/\fr.get 4=some (.bool false)/\l≠m)) ⟨⟩:=by
 obtain ⟨a,c,b,off,cells,rfl,h1,h2⟩:=SL.Lx hl;obtain ⟨a',c',b',OM,P7,rfl,h1',h2'⟩:=SL.Lx hku;have e1:=hvl.len;have e2:=hul.len;simp only [eqC,Tryz.f30,F9,I7,U9,V0,V6,V7];refine gU1 (aI @A1 @A7) ?_
 refine L8 vs.length (fun i fr Z'=>fr.get 10=some (.int .i64 i)/\fr.get 2=some (.pointer (some ⟨p,0,none⟩))/\fr.get 3=some (.pointer (some ⟨q,0,none⟩))/\Z'=τ/\l.take i=m.take i)
  (fun r=>(∃ fr,r=⟨.exit 8,fr,τ⟩/\l=m)\/(∃ fr,r=⟨.ret,fr,τ⟩/\fr.get 4=some (.bool false)/\l≠m)) ?_ ?_ ?_ ?_
 ·exact ⟨fR,fR1 g2,fR1 g3,rfl,by simp⟩
 ·clear g2 g3 fr0;rintro i fr Z' hk ⟨gi,g2,g3,rfl,hm⟩;have hc:=O9 hk;have hck:i<us.length:=om;obtain ⟨x,hx⟩:=H8 hk;obtain ⟨y,hy⟩:=H8 hck;obtain ⟨A,hA⟩:=H8 (show i<l.length by omega);obtain ⟨B,hB⟩:=H8 (show i<m.length by omega);obtain ⟨sp,rfl,hb,hr⟩:=h1 om;obtain ⟨sp',rfl,hb',hr'⟩:=h1' om;have h2:=h2 i x hx;have h2':=h2' i y hy;rw [Nat.mul_one] at h2 h2';have i1:=hvl.get hx hA;have i2:=hul.get hy hB;have c1:=hi A (List.mem_of_getElem? hA);have c2:=hi2 B (List.mem_of_getElem? hB);obtain ⟨xa,xc,xb,xo,xcs,rfl,-,-⟩:=i1.use;obtain ⟨ya,yc,yb,yo,ycs,rfl,-,-⟩:=i2.use;refine gU1 (a14N @A1 @A7 @gi @g2 @g3 @wp @wq @s1 @q1 @hc @hr @hr' @h2 @h2') ?_;refine (gb i1 i2 c1 c2).mono ?_;rintro r rfl;cases hd2:decide (A=B) with
  | true =>
    have hxy:A=B:=of_decide_eq_true hd2;refine gU1 (a5N @A1 @A7 @gi @g2 @g3) ?_
    try refine H3.intro (by (repeat first|simp (disch:=omega) only [B9,C9,C0,asx (Ext.refl _)]|rw [D0 (by kernel_rfl)]);first|done|rfl) ?_
    try (refine gU1 (a5N @A1 @A7 @gi @g2 @g3) ?_;try exact ⟨⟩)
    exact ⟨fR,fR1 g2,fR1 g3,by trivial,by rw [List.take_add_one,List.take_add_one,hm,hA,hB,hxy]⟩
  | false =>
    have hxy:¬ A=B:=of_decide_eq_false hd2;refine gU1 (a5N @A1 @A7 @gi @g2 @g3) ?_
    try refine H3.intro (by (repeat first|simp (disch:=omega) only [B9,C9,C0,asx (Ext.refl _)]|rw [D0 (by kernel_rfl)]);first|done|rfl) ?_
    try (refine gU1 (a5N @A1 @A7 @gi @g2 @g3) ?_;try exact ⟨⟩)
    refine .inr ⟨_,rfl,fR,fun h=>?_⟩;subst h;rw [hA] at hB;cases hB;exact hxy rfl
 ·clear g2 g3 fr0;rintro fr Z' ⟨gi,g2,g3,rfl,hm⟩;refine gU1 (a8N @A1 @A7 @gi @g2 @g3 @wp @s1 @Bo) ?_;rw [e1,List.take_length,hlen,List.take_length] at hm;exact .inl ⟨_,rfl,hm⟩
 ·rintro r (⟨fr,rfl,hm⟩|⟨fr,rfl,g4,hm⟩)
  ·refine gU1 (aI @A1 @A7) ?_;exact .inl ⟨_,rfl,hm⟩
  ·refine gU1 (aI @A1 @A7) ?_;exact .inr ⟨_,rfl,g4,hm⟩
end Go.Proofs.T
