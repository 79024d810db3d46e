/- zN of AV: lists, AS, text.Equal. -/
import Derived.Test.YtbcanmagihejhaaGreatDoorRC
set_option linter.unusedSimpArgs false
set_option linter.unusedVariables false
set_option maxHeartbeats 32000000
set_option maxRecDepth 100000
namespace Go.Proofs.T
open Go Go.Ab
open Nat (reduceMul reduceEqDiff reduceAdd)
section
variable {x y:Operand}
theorem JG {a b:By}:((⟨⟨a⟩⟩:ByteArray)==⟨⟨b⟩⟩)=decide (a=b):=by
 rw [beq_toListBytes,ByteArray.toList_eq,ByteArray.toList_eq];show (a==b)=_;rw [Bool.eq_iff_iff];simp
theorem Rv {a b:Lot}:Aw Tryz.prog .eql 78 x y (.agg ⟨a.row⟩) (.agg ⟨b.row⟩)=some (.bool (decide (a=b)))/\Aw Tryz.prog .neq 78 x y (.agg ⟨a.row⟩) (.agg ⟨b.row⟩)=some (.bool (!decide (a=b))):=by
 have he:eqF Tryz.prog 9999 ⟨a.row⟩ ⟨b.row⟩ (Tryz.prog.fieldsOf 78).toList=bi (a.id==b.id) (bi (a.D5==b.D5) (some true) (some false)) (some false):=by kernel_rfl
 have h:=Fz (x:=x) (y:=y) rfl (by kernel_rfl) (by kernel_rfl) (by kernel_rfl) he;rw [Bh,Bh,Bp,Bp,Bool.and_true] at h;have e:(decide (a.id=b.id)&&decide (a.D5=b.D5))=decide (a=b):=by
  rw [Bool.eq_iff_iff];cases a;cases b;simp
 rw [e] at h;exact h
theorem Ma {a b:R0}:Aw Tryz.prog .eql 80 x y (.agg ⟨a.row⟩) (.agg ⟨b.row⟩)=some (.bool (decide (a=b)))/\Aw Tryz.prog .neq 80 x y (.agg ⟨a.row⟩) (.agg ⟨b.row⟩)=some (.bool (!decide (a=b))):=by
 have he:eqF Tryz.prog 9999 ⟨a.row⟩ ⟨b.row⟩ (Tryz.prog.fieldsOf 80).toList=bi ((⟨⟨a.name⟩⟩:ByteArray)==⟨⟨b.name⟩⟩) (bi (a.kind==b.kind) (bi (a.low==b.low) (bi (a.high==b.high) (bi (a.less==b.less) (some true) (some false)) (some false)) (some false)) (some false)) (some false):=by kernel_rfl
 have h:=Fz (x:=x) (y:=y) rfl (by kernel_rfl) (by kernel_rfl) (by kernel_rfl) he;rw [Bh,Bh,Bh,Bh,Bh,JG,Bp,Bp,Bp,Bool.and_true] at h;have e:(decide (a.name=b.name)&&(decide (a.kind=b.kind)&&(decide (a.low=b.low)&&(decide (a.high=b.high)&&(a.less==b.less)))))=decide (a=b):=by
  rw [Bool.eq_iff_iff];cases a;cases b;simp
 rw [e] at h;exact h
theorem Rw {a b:Req}:Aw Tryz.prog .eql 82 x y (.agg ⟨a.row⟩) (.agg ⟨b.row⟩)=some (.bool (decide (a=b)))/\Aw Tryz.prog .neq 82 x y (.agg ⟨a.row⟩) (.agg ⟨b.row⟩)=some (.bool (!decide (a=b))):=by
 have he:eqF Tryz.prog 9999 ⟨a.row⟩ ⟨b.row⟩ (Tryz.prog.fieldsOf 82).toList=bi ((⟨⟨a.name⟩⟩:ByteArray)==⟨⟨b.name⟩⟩) (bi ((⟨⟨a.rel⟩⟩:ByteArray)==⟨⟨b.rel⟩⟩) (bi (a.value==b.value) (some true) (some false)) (some false)) (some false):=by kernel_rfl
 have h:=Fz (x:=x) (y:=y) rfl (by kernel_rfl) (by kernel_rfl) (by kernel_rfl) he;rw [Bh,Bh,Bh,JG,JG,Bp,Bool.and_true] at h;have e:(decide (a.name=b.name)&&(decide (a.rel=b.rel)&&decide (a.value=b.value)))=decide (a=b):=by
  rw [Bool.eq_iff_iff];cases a;cases b;simp
 rw [e] at h;exact h
def Tim.row (t:Tim):List Value:=[.int .i64 t.q,.int .i64 t.b,.int .i64 t.g,.int .i64 t.p,.int .i64 t.s]
theorem N0 {a b:Tim}:Aw Tryz.prog .eql 39 x y (.agg ⟨a.row⟩) (.agg ⟨b.row⟩)=some (.bool (decide (a=b)))/\Aw Tryz.prog .neq 39 x y (.agg ⟨a.row⟩) (.agg ⟨b.row⟩)=some (.bool (!decide (a=b))):=by
 have he:eqF Tryz.prog 9999 ⟨a.row⟩ ⟨b.row⟩ (Tryz.prog.fieldsOf 39).toList=bi (a.q==b.q) (bi (a.b==b.b) (bi (a.g==b.g) (bi (a.p==b.p) (bi (a.s==b.s) (some true) (some false)) (some false)) (some false)) (some false)) (some false):=by kernel_rfl
 have h:=Fz (x:=x) (y:=y) rfl (by kernel_rfl) (by kernel_rfl) (by kernel_rfl) he;rw [Bh,Bh,Bh,Bh,Bh,Bp,Bp,Bp,Bp,Bp,Bool.and_true] at h;have e:(decide (a.q=b.q)&&(decide (a.b=b.b)&&(decide (a.g=b.g)&&(decide (a.p=b.p)&&decide (a.s=b.s)))))=decide (a=b):=by
  rw [Bool.eq_iff_iff];cases a;cases b;simp
 rw [e] at h;exact h
end
mutual
def CO:Ex->Ex->Bool
 | .mk o n d nm es,.mk o' n' d' nm' es'=>decide (o=o')&&(decide (n=n')&&decide (d=d'))&&decide (nm=nm')&&Y4 es es'
def Y4:List Ex->List Ex->Bool
 | [],[]=>true
 | a::es,b::fs=>CO a b&&Y4 es fs
 | [],_::_=>false
 | _::_,[]=>false
end
theorem IP:∀ {es fs:List Ex},es.length≠fs.length->Y4 es fs=false
 | [],[],h=>absurd rfl h
 | a::es,b::fs,h=>by
   unfold Y4;rw [IP (es:=es) (fs:=fs) (by simpa using h),Bool.and_false]
 | [],_::_,_=>by unfold Y4;rfl
 | _::_,[],_=>by unfold Y4;rfl
theorem Gg:∀ {es fs:List Ex}{k:Nat}{a b:Ex},es.length=fs.length->es[k]? =some a->fs[k]? =some b->CO a b=false->Y4 es fs=false
 | a::es,b::fs,0,_,_,_,h1,h2,h=>by cases h1;cases h2;unfold Y4;rw [h,Bool.false_and]
 | a::es,b::fs,k+1,_,_,hl,h1,h2,h=>by
   unfold Y4;rw [Gg (es:=es) (fs:=fs) (k:=k) (by simpa using hl) (by simpa using h1) (by simpa using h2) h,Bool.and_false]
 | [],_,_,_,_,_,h1,_,_=>by simp at h1
 | _::_,[],_,_,_,hl,_,_,_=>by simp at hl
theorem IM:∀ {es fs:List Ex},es.length=fs.length->(∀ (k:Nat) (a b:Ex),es[k]? =some a->fs[k]? =some b->CO a b=true)->Y4 es fs=true
 | [],[],_,_=>by unfold Y4;rfl
 | a::es,b::fs,hl,h=>by
   unfold Y4;rw [h 0 a b rfl rfl,IM (es:=es) (fs:=fs) (by simpa using hl) (fun k x y hx hy=>h (k+1) x y (by simpa using hx) (by simpa using hy)),Bool.and_true]
 | [],_::_,hl,_=>by simp at hl
 | _::_,[],hl,_=>by simp at hl
mutual
theorem OZ:∀ a:Ex,CO a a=true
 | .mk o n d nm es=>by unfold CO;rw [Lr es];simp
theorem Lr:∀ es:List Ex,Y4 es es=true
 | []=>by unfold Y4;rfl
 | a::es=>by unfold Y4;rw [OZ a,Lr es];rfl
end
theorem AM.slice {Z:St}{v:Value}{rows:List (List Value)}{es:List Ex}(h:SL Z 5 v rows) (hx:AM Z rows es):∃ a c b off cells,v= .slice a es.length c/\(0<es.length->∃ sp,a=some ⟨b,off,sp⟩/\b<Z.n/\Z.row b=some cells) /\
  ∀ k e,es[k]? =some e->∃ row,sub cells (off+k*5) 5=some row/\Ah Z row e:=by
 obtain ⟨a,c,b,off,cells,h1,h2,h3⟩:=SL.use h;rw [hx.len] at h1 h2;refine ⟨a,c,b,off,cells,h1,h2,fun k e he=>?_⟩;obtain ⟨hlt,_⟩:=List.getElem?_eq_some_iff.1 he;obtain ⟨row,hr⟩:=H8 (l:=rows) (k:=k) (by rw [hx.len];exact hlt);exact ⟨row,h3 k row hr,hx.get hr he⟩
theorem oW {Z:St}{v w:Value}{rows Xh:List (List Value)}{es fs:List Ex}{g:Nat}(h2:SL Z 5 v rows) (h3:AM Z rows es) (h2':SL Z 5 w Xh) (h3':AM Z Xh fs) (hl:es.length<=4) (hl':fs.length<=4)
  (hf:∀ a b,a∈es->∀ ra rb Z',Ext Z Z'->Ah Z' ra a->Ah Z' rb b->Ev (go Tryz.prog HS (.fn g) [.agg ⟨ra⟩,.agg ⟨rb⟩] Z') (fun r=>∃ Z2,r=⟨false,.bool (CO a b),Z2⟩/\Ext Z' Z2) ⟨⟩) :
  Ev (go Tryz.prog HS (.fn 76) [v,w,.func (.func g) ⟨[]⟩ ⟨[]⟩] Z) (fun r=>∃ Z2,r=⟨false,.bool (Y4 es fs),Z2⟩/\Ext Z Z2) ⟨⟩:=by
 obtain ⟨sa,sc,sb,so,scs,rfl,s1,s2⟩:=AM.slice h2 h3;obtain ⟨sa',sc',sb',so',cd,rfl,s1',s2'⟩:=AM.slice h2' h3';refine D7 Tryz.func76 rfl rfl ?_;by_cases hlen:es.length=fs.length
 ·have hd4:decide ((es.length:Int)=(fs.length:Int))=true:=by simp [hlen]
  refine gS1 @hd4 ?_
  refine L8 es.length (fun k fr Z'=>fr.get 17=some (.int .i64 k)/\fr.get 16=some (.int .i64 es.length)/\fr.get 15=some (.slice sa es.length sc)/\fr.get 1=some (.slice sa' fs.length sc')/\fr.get 2=some (.func (.func g) ⟨[]⟩ ⟨[]⟩)/\Ext Z Z'/\(∀ i a b,i<k->es[i]? =some a->fs[i]? =some b->CO a b=true))
   (fun r=>(∃ fr Z',r=⟨.exit 0,fr,Z'⟩/\Ext Z Z'/\Y4 es fs=true)\/(∃ fr Z',r=⟨.ret,fr,Z'⟩/\Ext Z Z'/\fr.get 6=some (.bool false)/\Y4 es fs=false)) ?_ ?_ ?_ ?_
  ·exact ⟨fR,fR,fR,fR,fR,.refl _,fun i a b h=>om⟩
  ·rintro k fr Z' hk ⟨g17,g16,g15,g1,g2,hE,hm⟩;have hc:=O9 hk;have hc':k<fs.length:=om;obtain ⟨x,hx⟩:=H8 hk;obtain ⟨y,hy⟩:=H8 hc';obtain ⟨rx,hrx,hex⟩:=s2 k x hx;obtain ⟨ry,hry,hey⟩:=s2' k y hy;obtain ⟨sp,rfl,l3,l4⟩:=s1 om;obtain ⟨sp',rfl,l3',l4'⟩:=s1' om;have r1:Z'.row sb=some scs:=by rw [hE.row l3];exact l4
   have r2:Z'.row sb'=some cd:=by rw [hE.row l3'];exact l4'
   have hrl:rx.length=5:=hex.len;have wh:ry.length=5:=hey.len;have hEn:=hE.n;have t1:sub rx 0 5=some rx:=D6 om om;have t2:sub ry 0 5=some ry:=D6 om om;have w1:∀ l:List Value,l.length=5->M3 l 0 rx=some rx:=fun l h=>FN om om;have w2:∀ l:List Value,l.length=5->M3 l 0 ry=some ry:=fun l h=>FN om om;refine gS1 (a14N @g1 @g2 @g15 @g16 @g17 @hc @r1 @r2 @hrx @hry @hrl @wh @t1 @t2) ?_;refine (hf x y (List.mem_of_getElem? hx) rx ry _ ?_ ?_ ?_).mono ?_
   ·exact eX
   ·exact hex.mono (eX)
   ·exact hey.mono (eX)
   rintro r ⟨Z2,rfl,hE2⟩;have hE3:Ext Z Z2:=Ext.trans (eX) hE2;refine gS1 (a5N @g1 @g2 @g15 @g16 @g17) ?_;cases hq:CO x y with
   | true =>
     refine gS1 (a5N @g1 @g2 @g15 @g16 @g17) ?_;refine ⟨fR,fR1 g16,fR1 g15,fR1 g1,fR1 g2,hE3,fun i a b hi ha hb=>?_⟩;by_cases e:i=k
     ·subst e;rw [hx] at ha;rw [hy] at hb;cases ha;cases hb;exact hq
     ·exact hm i a b om ha hb
   | false =>
     refine gS1 (a5N @g1 @g2 @g15 @g16 @g17) ?_;exact .inr ⟨_,_,rfl,hE3,fR,Gg hlen hx hy hq⟩
  ·rintro fr Z' ⟨g17,g16,g15,g1,g2,hE,hm⟩;refine gS1 (aI @g16 @g17) ?_;exact .inl ⟨_,_,rfl,hE,IM hlen fun k a b ha hb=>hm k a b (List.getElem?_eq_some_iff.1 ha).1 ha hb⟩
  ·rintro r (⟨fr,Z',rfl,hE,hq⟩|⟨fr,Z',rfl,hE,g4,hq⟩)
   ·simp (maxSteps:=8000000) (disch:=first|exact dS|fail) only [↓bD,bW,reduceMul,reduceEqDiff,reduceAdd,Nat.reduceBEq,reduceIte,Option.isNone_none,Tryz.results76];rw [hq];exact ⟨_,rfl,hE⟩
   ·simp (maxSteps:=8000000) (disch:=first|exact dS|fail) only [↓bD,bW,reduceMul,reduceEqDiff,reduceAdd,Nat.reduceBEq,reduceIte,Option.isNone_none,Tryz.results76,g4];rw [hq];exact ⟨_,rfl,hE⟩
 ·have hd4:decide ((es.length:Int)=(fs.length:Int))=false:=by simp;omega
  refine gS1 (aI @hd4 @Tryz.results76) ?_;rw [IP hlen];exact ⟨_,rfl,.refl _⟩
theorem MD {Z:St}{v w:Value}{l m:List By}(hl:Dh Z v l) (hk:Dh Z w m) (hn:l.length<=100) (hn2:m.length<=100) :
  Ev (go Tryz.prog HS (.fn 44) [v,w] Z) (fun r=>r=⟨false,.bool (decide (l=m)),Z⟩) ⟨⟩:=by
 obtain ⟨a,c,b,off,cells,rfl,h1,h2⟩:=hl.use;obtain ⟨a',c',b',OM,P7,rfl,h1',h2'⟩:=hk.use;refine D7 Tryz.func44 rfl rfl ?_;by_cases hlen:l.length=m.length
 ·have hd:decide ((l.length:Int)=(m.length:Int))=true:=by simp [hlen]
  refine gS1 @hd ?_
  refine L8 l.length (fun i fr Z'=>fr.get 13=some (.int .i64 i)/\fr.get 12=some (.int .i64 l.length)/\fr.get 0=some (.slice a l.length c)/\fr.get 1=some (.slice a' m.length c')/\Z'=Z/\l.take i=m.take i)
   (fun r=>(∃ fr,r=⟨.exit 0,fr,Z⟩/\l=m)\/(∃ fr,r=⟨.ret,fr,Z⟩/\fr.get 4=some (.bool false)/\l≠m)) ?_ ?_ ?_ ?_
  ·exact ⟨fR,fR,fR,fR,rfl,by simp⟩
  ·rintro i fr Z' hi ⟨g13,g12,g0,g1,rfl,hm⟩;have hc:=O9 hi;have hci:i<m.length:=om;obtain ⟨sp,rfl,hb,hr⟩:=h1 om;obtain ⟨sp',rfl,hb',hr'⟩:=h1' om;obtain ⟨x,hx⟩:=H8 hi;obtain ⟨y,hy⟩:=H8 hci;have h2:=h2 i x hx;have h2':=h2' i y hy;cases hd2:decide (x=y) with
   | true =>
     have hxy:x=y:=of_decide_eq_true hd2;refine gS1 (a10N @g0 @g1 @g12 @g13 @hc @hr @hr' @h2 @h2' @hd2) ?_;exact ⟨fR,fR1 g12,fR1 g0,fR1 g1,by trivial,by rw [List.take_add_one,List.take_add_one,hm,hx,hy,hxy]⟩
   | false =>
     have hxy:¬ x=y:=of_decide_eq_false hd2;refine gS1 (a10N @g0 @g1 @g12 @g13 @hc @hr @hr' @h2 @h2' @hd2) ?_;refine .inr ⟨_,rfl,fR,fun h=>?_⟩;subst h;rw [hx] at hy;cases hy;exact hxy rfl
  ·rintro fr Z' ⟨g13,g12,g0,g1,rfl,hm⟩;refine gS1 (aI @g12 @g13) ?_;refine .inl ⟨_,rfl,?_⟩;rw [List.take_length,hlen,List.take_length] at hm;exact hm
  ·rintro r (⟨fr,rfl,hm⟩|⟨fr,rfl,g4,hm⟩)
   ·refine gS1 @Tryz.results44 ?_;rw [decide_eq_true hm]
   ·refine gS1 (aI @Tryz.results44 @g4) ?_;rw [decide_eq_false hm]
 ·have hd:decide ((l.length:Int)=(m.length:Int))=false:=by simp;omega
  refine gS1 (aI @hd @Tryz.results44) ?_;rw [decide_eq_false (fun h=>hlen (by rw [h]))]
theorem ME {Z:St}{v w:Value}{l m:List Int}(hl:Ca Z v l) (hk:Ca Z w m) (hn:l.length<=100) (hn2:m.length<=100) :
  Ev (go Tryz.prog HS (.fn 46) [v,w] Z) (fun r=>r=⟨false,.bool (decide (l=m)),Z⟩) ⟨⟩:=by
 obtain ⟨a,c,b,off,cells,rfl,h1,h2⟩:=hl.use;obtain ⟨a',c',b',OM,P7,rfl,h1',h2'⟩:=hk.use;refine D7 Tryz.func46 rfl rfl ?_;by_cases hlen:l.length=m.length
 ·have hd:decide ((l.length:Int)=(m.length:Int))=true:=by simp [hlen]
  refine gS1 @hd ?_
  refine L8 l.length (fun i fr Z'=>fr.get 13=some (.int .i64 i)/\fr.get 12=some (.int .i64 l.length)/\fr.get 0=some (.slice a l.length c)/\fr.get 1=some (.slice a' m.length c')/\Z'=Z/\l.take i=m.take i)
   (fun r=>(∃ fr,r=⟨.exit 0,fr,Z⟩/\l=m)\/(∃ fr,r=⟨.ret,fr,Z⟩/\fr.get 4=some (.bool false)/\l≠m)) ?_ ?_ ?_ ?_
  ·exact ⟨fR,fR,fR,fR,rfl,by simp⟩
  ·rintro i fr Z' hi ⟨g13,g12,g0,g1,rfl,hm⟩;have hc:=O9 hi;have hci:i<m.length:=om;obtain ⟨sp,rfl,hb,hr⟩:=h1 om;obtain ⟨sp',rfl,hb',hr'⟩:=h1' om;obtain ⟨x,hx⟩:=H8 hi;obtain ⟨y,hy⟩:=H8 hci;have h2:=h2 i x hx;have h2':=h2' i y hy;cases hd2:decide (x=y) with
   | true =>
     have hxy:x=y:=of_decide_eq_true hd2;refine gS1 (a10N @g0 @g1 @g12 @g13 @hc @hr @hr' @h2 @h2' @hd2) ?_;exact ⟨fR,fR1 g12,fR1 g0,fR1 g1,by trivial,by rw [List.take_add_one,List.take_add_one,hm,hx,hy,hxy]⟩
   | false =>
     have hxy:¬ x=y:=of_decide_eq_false hd2;refine gS1 (a10N @g0 @g1 @g12 @g13 @hc @hr @hr' @h2 @h2' @hd2) ?_;refine .inr ⟨_,rfl,fR,fun h=>?_⟩;subst h;rw [hx] at hy;cases hy;exact hxy rfl
  ·rintro fr Z' ⟨g13,g12,g0,g1,rfl,hm⟩;refine gS1 (aI @g12 @g13) ?_;refine .inl ⟨_,rfl,?_⟩;rw [List.take_length,hlen,List.take_length] at hm;exact hm
  ·rintro r (⟨fr,rfl,hm⟩|⟨fr,rfl,g4,hm⟩)
   ·refine gS1 @Tryz.results46 ?_;rw [decide_eq_true hm]
   ·refine gS1 (aI @Tryz.results46 @g4) ?_;rw [decide_eq_false hm]
 ·have hd:decide ((l.length:Int)=(m.length:Int))=false:=by simp;omega
  refine gS1 (aI @hd @Tryz.results46) ?_;rw [decide_eq_false (fun h=>hlen (by rw [h]))]
theorem MF {Z:St}{v w:Value}{l m:List Lot}(hl:Sf Z v l) (hk:Sf Z w m) (hn:l.length<=100) (hn2:m.length<=100) :
  Ev (go Tryz.prog HS (.fn 41) [v,w] Z) (fun r=>r=⟨false,.bool (decide (l=m)),Z⟩) ⟨⟩:=by
 obtain ⟨a,c,b,off,cells,rfl,h1,h2⟩:=hl.use;obtain ⟨a',c',b',OM,P7,rfl,h1',h2'⟩:=hk.use;refine D7 Tryz.func41 rfl rfl ?_;by_cases hlen:l.length=m.length
 ·have hd:decide ((l.length:Int)=(m.length:Int))=true:=by simp [hlen]
  refine gS1 @hd ?_
  refine L8 l.length (fun i fr Z'=>fr.get 13=some (.int .i64 i)/\fr.get 12=some (.int .i64 l.length)/\fr.get 0=some (.slice a l.length c)/\fr.get 1=some (.slice a' m.length c')/\Z'=Z/\l.take i=m.take i)
   (fun r=>(∃ fr,r=⟨.exit 0,fr,Z⟩/\l=m)\/(∃ fr,r=⟨.ret,fr,Z⟩/\fr.get 4=some (.bool false)/\l≠m)) ?_ ?_ ?_ ?_
  ·exact ⟨fR,fR,fR,fR,rfl,by simp⟩
  ·rintro i fr Z' hi ⟨g13,g12,g0,g1,rfl,hm⟩;have hc:=O9 hi;have hci:i<m.length:=om;obtain ⟨sp,rfl,hb,hr⟩:=h1 om;obtain ⟨sp',rfl,hb',hr'⟩:=h1' om;obtain ⟨x,hx⟩:=H8 hi;obtain ⟨y,hy⟩:=H8 hci;have h2:=(h2 i x hx).1;have h2':=(h2' i y hy).1;cases hd2:decide (x=y) with
   | true =>
     have hxy:x=y:=of_decide_eq_true hd2;simp (maxSteps:=8000000) (disch:=first|exact dS|fail) only [↓bD,bW,reduceMul,reduceEqDiff,reduceAdd,Nat.reduceBEq,reduceIte,Option.isNone_none,g0,g1,g12,g13,hc,hr,hr',h2,h2',Rv.2,hd2]
     try refine H3.intro (by (repeat first|simp (disch:=omega) only [B9,C9,C0]|rw [D0 (by kernel_rfl)]);first|done|rfl) ?_
     try (refine gS1 (a5N @g0 @g1 @g12 @g13 @hd2) ?_;try exact ⟨⟩)
     exact ⟨fR,fR1 g12,fR1 g0,fR1 g1,by trivial,by rw [List.take_add_one,List.take_add_one,hm,hx,hy,hxy]⟩
   | false =>
     have hxy:¬ x=y:=of_decide_eq_false hd2;simp (maxSteps:=8000000) (disch:=first|exact dS|fail) only [↓bD,bW,reduceMul,reduceEqDiff,reduceAdd,Nat.reduceBEq,reduceIte,Option.isNone_none,g0,g1,g12,g13,hc,hr,hr',h2,h2',Rv.2,hd2]
     try refine H3.intro (by (repeat first|simp (disch:=omega) only [B9,C9,C0]|rw [D0 (by kernel_rfl)]);first|done|rfl) ?_
     try (refine gS1 (a5N @g0 @g1 @g12 @g13 @hd2) ?_;try exact ⟨⟩)
     refine .inr ⟨_,rfl,fR,fun h=>?_⟩;subst h;rw [hx] at hy;cases hy;exact hxy rfl
  ·rintro fr Z' ⟨g13,g12,g0,g1,rfl,hm⟩;refine gS1 (aI @g12 @g13) ?_;refine .inl ⟨_,rfl,?_⟩;rw [List.take_length,hlen,List.take_length] at hm;exact hm
  ·rintro r (⟨fr,rfl,hm⟩|⟨fr,rfl,g4,hm⟩)
   ·refine gS1 @Tryz.results41 ?_;rw [decide_eq_true hm]
   ·refine gS1 (aI @Tryz.results41 @g4) ?_;rw [decide_eq_false hm]
 ·have hd:decide ((l.length:Int)=(m.length:Int))=false:=by simp;omega
  refine gS1 (aI @hd @Tryz.results41) ?_;rw [decide_eq_false (fun h=>hlen (by rw [h]))]
theorem Kz {Z:St}{v w:Value}{l m:List R0}(hl:LG Z v l) (hk:LG Z w m) (hn:l.length<=100) (hn2:m.length<=100) :
  Ev (go Tryz.prog HS (.fn 42) [v,w] Z) (fun r=>r=⟨false,.bool (decide (l=m)),Z⟩) ⟨⟩:=by
 obtain ⟨a,c,b,off,cells,rfl,h1,h2⟩:=hl.use;obtain ⟨a',c',b',OM,P7,rfl,h1',h2'⟩:=hk.use;refine D7 Tryz.func42 rfl rfl ?_;by_cases hlen:l.length=m.length
 ·have hd:decide ((l.length:Int)=(m.length:Int))=true:=by simp [hlen]
  refine gS1 @hd ?_
  refine L8 l.length (fun i fr Z'=>fr.get 13=some (.int .i64 i)/\fr.get 12=some (.int .i64 l.length)/\fr.get 0=some (.slice a l.length c)/\fr.get 1=some (.slice a' m.length c')/\Z'=Z/\l.take i=m.take i)
   (fun r=>(∃ fr,r=⟨.exit 0,fr,Z⟩/\l=m)\/(∃ fr,r=⟨.ret,fr,Z⟩/\fr.get 4=some (.bool false)/\l≠m)) ?_ ?_ ?_ ?_
  ·exact ⟨fR,fR,fR,fR,rfl,by simp⟩
  ·rintro i fr Z' hi ⟨g13,g12,g0,g1,rfl,hm⟩;have hc:=O9 hi;have hci:i<m.length:=om;obtain ⟨sp,rfl,hb,hr⟩:=h1 om;obtain ⟨sp',rfl,hb',hr'⟩:=h1' om;obtain ⟨x,hx⟩:=H8 hi;obtain ⟨y,hy⟩:=H8 hci;have h2:=(h2 i x hx).1;have h2':=(h2' i y hy).1;cases hd2:decide (x=y) with
   | true =>
     have hxy:x=y:=of_decide_eq_true hd2;simp (maxSteps:=8000000) (disch:=first|exact dS|fail) only [↓bD,bW,reduceMul,reduceEqDiff,reduceAdd,Nat.reduceBEq,reduceIte,Option.isNone_none,g0,g1,g12,g13,hc,hr,hr',h2,h2',Ma.2,hd2]
     try refine H3.intro (by (repeat first|simp (disch:=omega) only [B9,C9,C0]|rw [D0 (by kernel_rfl)]);first|done|rfl) ?_
     try (refine gS1 (a5N @g0 @g1 @g12 @g13 @hd2) ?_;try exact ⟨⟩)
     exact ⟨fR,fR1 g12,fR1 g0,fR1 g1,by trivial,by rw [List.take_add_one,List.take_add_one,hm,hx,hy,hxy]⟩
   | false =>
     have hxy:¬ x=y:=of_decide_eq_false hd2;simp (maxSteps:=8000000) (disch:=first|exact dS|fail) only [↓bD,bW,reduceMul,reduceEqDiff,reduceAdd,Nat.reduceBEq,reduceIte,Option.isNone_none,g0,g1,g12,g13,hc,hr,hr',h2,h2',Ma.2,hd2]
     try refine H3.intro (by (repeat first|simp (disch:=omega) only [B9,C9,C0]|rw [D0 (by kernel_rfl)]);first|done|rfl) ?_
     try (refine gS1 (a5N @g0 @g1 @g12 @g13 @hd2) ?_;try exact ⟨⟩)
     refine .inr ⟨_,rfl,fR,fun h=>?_⟩;subst h;rw [hx] at hy;cases hy;exact hxy rfl
  ·rintro fr Z' ⟨g13,g12,g0,g1,rfl,hm⟩;refine gS1 (aI @g12 @g13) ?_;refine .inl ⟨_,rfl,?_⟩;rw [List.take_length,hlen,List.take_length] at hm;exact hm
  ·rintro r (⟨fr,rfl,hm⟩|⟨fr,rfl,g4,hm⟩)
   ·refine gS1 @Tryz.results42 ?_;rw [decide_eq_true hm]
   ·refine gS1 (aI @Tryz.results42 @g4) ?_;rw [decide_eq_false hm]
 ·have hd:decide ((l.length:Int)=(m.length:Int))=false:=by simp;omega
  refine gS1 (aI @hd @Tryz.results42) ?_;rw [decide_eq_false (fun h=>hlen (by rw [h]))]
theorem MG {Z:St}{v w:Value}{l m:List Req}(hl:Sg Z v l) (hk:Sg Z w m) (hn:l.length<=100) (hn2:m.length<=100) :
  Ev (go Tryz.prog HS (.fn 43) [v,w] Z) (fun r=>r=⟨false,.bool (decide (l=m)),Z⟩) ⟨⟩:=by
 obtain ⟨a,c,b,off,cells,rfl,h1,h2⟩:=hl.use;obtain ⟨a',c',b',OM,P7,rfl,h1',h2'⟩:=hk.use;refine D7 Tryz.func43 rfl rfl ?_;by_cases hlen:l.length=m.length
 ·have hd:decide ((l.length:Int)=(m.length:Int))=true:=by simp [hlen]
  refine gS1 @hd ?_
  refine L8 l.length (fun i fr Z'=>fr.get 13=some (.int .i64 i)/\fr.get 12=some (.int .i64 l.length)/\fr.get 0=some (.slice a l.length c)/\fr.get 1=some (.slice a' m.length c')/\Z'=Z/\l.take i=m.take i)
   (fun r=>(∃ fr,r=⟨.exit 0,fr,Z⟩/\l=m)\/(∃ fr,r=⟨.ret,fr,Z⟩/\fr.get 4=some (.bool false)/\l≠m)) ?_ ?_ ?_ ?_
  ·exact ⟨fR,fR,fR,fR,rfl,by simp⟩
  ·rintro i fr Z' hi ⟨g13,g12,g0,g1,rfl,hm⟩;have hc:=O9 hi;have hci:i<m.length:=om;obtain ⟨sp,rfl,hb,hr⟩:=h1 om;obtain ⟨sp',rfl,hb',hr'⟩:=h1' om;obtain ⟨x,hx⟩:=H8 hi;obtain ⟨y,hy⟩:=H8 hci;have h2:=(h2 i x hx).1;have h2':=(h2' i y hy).1;cases hd2:decide (x=y) with
   | true =>
     have hxy:x=y:=of_decide_eq_true hd2;simp (maxSteps:=8000000) (disch:=first|exact dS|fail) only [↓bD,bW,reduceMul,reduceEqDiff,reduceAdd,Nat.reduceBEq,reduceIte,Option.isNone_none,g0,g1,g12,g13,hc,hr,hr',h2,h2',Rw.2,hd2]
     try refine H3.intro (by (repeat first|simp (disch:=omega) only [B9,C9,C0]|rw [D0 (by kernel_rfl)]);first|done|rfl) ?_
     try (refine gS1 (a5N @g0 @g1 @g12 @g13 @hd2) ?_;try exact ⟨⟩)
     exact ⟨fR,fR1 g12,fR1 g0,fR1 g1,by trivial,by rw [List.take_add_one,List.take_add_one,hm,hx,hy,hxy]⟩
   | false =>
     have hxy:¬ x=y:=of_decide_eq_false hd2;simp (maxSteps:=8000000) (disch:=first|exact dS|fail) only [↓bD,bW,reduceMul,reduceEqDiff,reduceAdd,Nat.reduceBEq,reduceIte,Option.isNone_none,g0,g1,g12,g13,hc,hr,hr',h2,h2',Rw.2,hd2]
     try refine H3.intro (by (repeat first|simp (disch:=omega) only [B9,C9,C0]|rw [D0 (by kernel_rfl)]);first|done|rfl) ?_
     try (refine gS1 (a5N @g0 @g1 @g12 @g13 @hd2) ?_;try exact ⟨⟩)
     refine .inr ⟨_,rfl,fR,fun h=>?_⟩;subst h;rw [hx] at hy;cases hy;exact hxy rfl
  ·rintro fr Z' ⟨g13,g12,g0,g1,rfl,hm⟩;refine gS1 (aI @g12 @g13) ?_;refine .inl ⟨_,rfl,?_⟩;rw [List.take_length,hlen,List.take_length] at hm;exact hm
  ·rintro r (⟨fr,rfl,hm⟩|⟨fr,rfl,g4,hm⟩)
   ·refine gS1 @Tryz.results43 ?_;rw [decide_eq_true hm]
   ·refine gS1 (aI @Tryz.results43 @g4) ?_;rw [decide_eq_false hm]
 ·have hd:decide ((l.length:Int)=(m.length:Int))=false:=by simp;omega
  refine gS1 (aI @hd @Tryz.results43) ?_;rw [decide_eq_false (fun h=>hlen (by rw [h]))]
theorem SJ {Z:St}{v w:Value}{l m:List (List Int)}(hl:IT Z v l) (hk:IT Z w m) (hn:l.length<=100) (hn2:m.length<=100) (hi:∀ c∈l,c.length<=100) (hi2:∀ c∈m,c.length<=100) :
  Ev (go Tryz.prog HS (.fn 45) [v,w,.func (.func 46) ⟨[]⟩ ⟨[]⟩] Z) (fun r=>r=⟨false,.bool (decide (l=m)),Z⟩) ⟨⟩:=by
 obtain ⟨vs,k1,k2⟩:=hl;obtain ⟨vs',k1',k2'⟩:=hk;obtain ⟨a,c,b,off,cells,rfl,h1,h2⟩:=SL.Lx k1;obtain ⟨a',c',b',OM,P7,rfl,h1',h2'⟩:=SL.Lx k1';have e1:=k2.len;have e2:=k2'.len;refine D7 Tryz.func45 rfl rfl ?_;by_cases hlen:l.length=m.length
 ·have hd:decide ((vs.length:Int)=(vs'.length:Int))=true:=by simp;omega
  refine gS1 @hd ?_
  refine L8 vs.length (fun i fr Z'=>fr.get 17=some (.int .i64 i)/\fr.get 16=some (.int .i64 vs.length)/\fr.get 15=some (.slice a vs.length c)/\fr.get 1=some (.slice a' vs'.length c')/\fr.get 2=some (.func (.func 46) ⟨[]⟩ ⟨[]⟩)/\Z'=Z/\l.take i=m.take i)
   (fun r=>(∃ fr,r=⟨.exit 0,fr,Z⟩/\l=m)\/(∃ fr,r=⟨.ret,fr,Z⟩/\fr.get 6=some (.bool false)/\l≠m)) ?_ ?_ ?_ ?_
  ·exact ⟨fR,fR,fR,fR,fR,rfl,by simp⟩
  ·rintro i fr Z' hi' ⟨g17,g16,g15,g1,g2,rfl,hm⟩;have hc:=O9 hi';obtain ⟨sp,rfl,hb,hr⟩:=h1 om;obtain ⟨sp',rfl,hb',hr'⟩:=h1' om;obtain ⟨u,hu⟩:=H8 hi';obtain ⟨u',hu'⟩:=H8 (l:=vs') (k:=i) om;obtain ⟨x,hx⟩:=H8 (l:=l) (k:=i) om;obtain ⟨y,hy⟩:=H8 (l:=m) (k:=i) om;have h2:=h2 i u hu;have h2':=h2' i u' hu';rw [Nat.mul_one] at h2 h2';have i1:=k2.get hu hx;have i2:=k2'.get hu' hy;obtain ⟨sa,sc,sb,so,scs,rfl,-,-⟩:=i1.use;obtain ⟨sa',sc',sb',so',cd,rfl,-,-⟩:=i2.use;refine gS1 (a10N @g1 @g2 @g15 @g16 @g17 @hc @hr @hr' @h2 @h2') ?_;refine (ME i1 i2 (hi x (List.mem_of_getElem? hx)) (hi2 y (List.mem_of_getElem? hy))).mono ?_;rintro r rfl;cases hd2:decide (x=y) with
   | true =>
     have hxy:x=y:=of_decide_eq_true hd2;refine gS1 (a5N @g1 @g2 @g15 @g16 @g17) ?_;exact ⟨fR,fR1 g16,fR1 g15,fR1 g1,fR1 g2,by trivial,by rw [List.take_add_one,List.take_add_one,hm,hx,hy,hxy]⟩
   | false =>
     have hxy:¬ x=y:=of_decide_eq_false hd2;refine gS1 (a5N @g1 @g2 @g15 @g16 @g17) ?_;refine .inr ⟨_,rfl,fR,fun h=>?_⟩;subst h;rw [hx] at hy;cases hy;exact hxy rfl
  ·rintro fr Z' ⟨g17,g16,g15,g1,g2,rfl,hm⟩;refine gS1 (aI @g16 @g17) ?_;refine .inl ⟨_,rfl,?_⟩;rw [e1,List.take_length,hlen,List.take_length] at hm;exact hm
  ·rintro r (⟨fr,rfl,hm⟩|⟨fr,rfl,g4,hm⟩)
   ·refine gS1 @Tryz.results45 ?_;rw [decide_eq_true hm]
   ·refine gS1 (aI @Tryz.results45 @g4) ?_;rw [decide_eq_false hm]
 ·have hd:decide ((vs.length:Int)=(vs'.length:Int))=false:=by simp;omega
  refine gS1 (aI @hd @Tryz.results45) ?_;rw [decide_eq_false (fun h=>hlen (by rw [h]))]
theorem ub:∀ (n:Nat){Z:St}{ra rb:List Value}{a b:Ex},SizeOf.sizeOf a<n->Ah Z ra a->Ah Z rb b->Ev (go Tryz.prog HS (.fn 47) [.agg ⟨ra⟩,.agg ⟨rb⟩] Z) (fun r=>∃ Z',r=⟨false,.bool (CO a b),Z'⟩/\Ext Z Z') ⟨⟩:=by
 intro n;induction n with
 | zero=>intro Z ra rb a b h;omega
 | succ n ih =>
   rintro Z ra rb ⟨o,nu,de,nm,es⟩ ⟨o',nu',de',nm',es'⟩ hsz ⟨v,rows,rfl,h2,h4,h3⟩ ⟨v',Xh,rfl,h2',h4',h3'⟩;have e0:CO (.mk o nu de nm es) (.mk o' nu' de' nm' es')=(decide (o=o')&&(decide (nu=nu')&&decide (de=de'))&&decide (nm=nm')&&Y4 es es'):=by unfold CO;rfl
   obtain ⟨sa,sc,sb,so,scs,rfl,-,-⟩:=AM.slice h2 h3;obtain ⟨sa',sc',sb',so',cd,rfl,-,-⟩:=AM.slice h2' h3';refine D7 Tryz.func47 rfl rfl ?_;rw [e0];cases hd1:decide (o=o') with
   | false=>simp (maxSteps:=8000000) (disch:=first|exact dS|fail) only [↓bD,bW,reduceMul,reduceEqDiff,reduceAdd,Nat.reduceBEq,reduceIte,Option.isNone_none,Y5.1,Y5.2,hd1,J1,J2,Bool.false_and,Tryz.results47];exact ⟨_,rfl,eX⟩
   | true =>
   cases hd2:(decide (nu=nu')&&decide (de=de')) with
   | false=>simp (maxSteps:=8000000) (disch:=first|exact dS|fail) only [↓bD,bW,reduceMul,reduceEqDiff,reduceAdd,Nat.reduceBEq,reduceIte,Option.isNone_none,Y5.1,Y5.2,hd1,hd2,J1,J2,Bool.false_and,Bool.true_and,Tryz.results47];exact ⟨_,rfl,eX⟩
   | true =>
   cases hd3:decide (nm=nm') with
   | false=>simp (maxSteps:=8000000) (disch:=first|exact dS|fail) only [↓bD,bW,reduceMul,reduceEqDiff,reduceAdd,Nat.reduceBEq,reduceIte,Option.isNone_none,Y5.1,Y5.2,hd1,hd2,hd3,J1,J2,Bool.false_and,Bool.true_and,Tryz.results47];exact ⟨_,rfl,eX⟩
   | true =>
     simp (maxSteps:=8000000) (disch:=first|exact dS|fail) only [↓bD,bW,reduceMul,reduceEqDiff,reduceAdd,Nat.reduceBEq,reduceIte,Option.isNone_none,Y5.1,Y5.2,hd1,hd2,hd3,J1,J2,Bool.false_and,Bool.true_and];refine (oW (h2.mono (eX)) (AM.mono (eX) h3) (h2'.mono (eX)) (AM.mono (eX) h3') h4 h4' fun a b ha ra rb Z' hE hra hrb=>ih ?_ hra hrb).mono ?_
     ·have h5:=List.sizeOf_lt_of_mem ha;simp at hsz;omega
     rintro r ⟨Z2,rfl,hE2⟩;refine gS1 (a3N @J1 @J2 @Tryz.results47) ?_;exact ⟨_,rfl,Ext.trans (eX) hE2⟩
mutual
theorem Uo:∀ {a b:Ex},CO a b=true->a=b
 | .mk o n d nm es,.mk o' n' d' nm' es',h=>by
   unfold CO at h;simp only [Bool.and_eq_true,decide_eq_true_eq] at h;obtain ⟨⟨⟨h1,h2,h3⟩,h4⟩,h5⟩:=h;rw [h1,h2,h3,h4,QX h5]
theorem QX:∀ {a b:List Ex},Y4 a b=true->a=b
 | [],[],_=>rfl
 | a::l,b::k,h=>by
   unfold Y4 at h;rw [Bool.and_eq_true] at h;rw [Uo h.1,QX h.2]
 | [],_::_,h=>by unfold Y4 at h;cases h
 | _::_,[],h=>by unfold Y4 at h;cases h
end
def N9 (T U:Tn):Bool:=decide (T.name=U.name)&&(decide (T.low=U.low)&&(decide (T.high=U.high)&&(decide (T.D5=U.D5)&&(decide (T.C1=U.C1)&&(decide (T.t=U.t)&&(decide (T.D2=U.D2)&&(decide (T.C7=U.C7)&&(decide (T.reqs=U.reqs)&&(decide (T.E9=U.E9)&&(decide (T.C3=U.C3)&&CO T.f U.f))))))))))
theorem Eh (T:Tn):N9 T T=true:=by unfold N9;rw [OZ];simp
theorem NX {T U:Tn}(h:N9 T U=true):T=U:=by
 unfold N9 at h;simp only [Bool.and_eq_true,decide_eq_true_eq] at h;obtain ⟨h1,h2,h3,h4,h5,h6,h7,h8,h9,h10,h11,h12⟩:=h;have:=Uo h12;cases T;cases U;simp_all
structure Cap (T:Tn):Prop where
 D2:T.D2.length<=100
 C7:T.C7.length<=100
 reqs:T.reqs.length<=100
 E9:T.E9.length<=100
 C3:T.C3.length<=100
 combo:∀ c∈T.C3,c.length<=100
theorem Ad.cap {T:Tn}(h:Ad T):Cap T:=⟨by have:=h.D2;omega,by have:=h.C7;omega,by have:=h.reqs;omega,by have:=h.E9;omega,by have:=h.C3;omega,fun c hc=>by have:=(h.combo c hc).2.1;omega⟩
theorem BA {Z:St}{ca cb:List Value}{T U:Tn}(hT:Ar Z ca T) (hU:Ar Z cb U) (cT:Cap T) (cU:Cap U):Ev (go Tryz.prog HS (.fn 19) [.agg ⟨ca⟩,.agg ⟨cb⟩] Z) (fun r=>∃ Z',r=⟨false,.bool (N9 T U),Z'⟩/\Ext Z Z') ⟨⟩:=by
 obtain ⟨vl,vc,vr,ex,vt,vk,hp,h2,h3,h4,h5,h6,h7⟩:=hT.parts;obtain ⟨ul,uc,ur,ey,ut,uk,hq,k2,k3,k4,k5,k6,k7⟩:=hU.parts;have E0:Ext Z ((Z.new ca).new cb):=eX;have tq:∀ (t:Tim),[Value.int .i64 t.q,.int .i64 t.b,.int .i64 t.g,.int .i64 t.p,.int .i64 t.s]=t.row:=fun _=>rfl;have p15:=hp.p15;have q15:=hq.p15;rw [tq] at p15 q15;have hz:=And.intro hp.all (And.intro hq.all (And.intro hp.p0 (And.intro hq.p0 (And.intro hp.p4 (And.intro hq.p4 (And.intro hp.p5 (And.intro hq.p5 (And.intro hp.p12 (And.intro hq.p12 (And.intro hp.p14 (And.intro hq.p14 (And.intro p15 (And.intro q15 (And.intro hp.p1 (And.intro hq.p1 (And.intro hp.p2 (And.intro hq.p2 (And.intro hp.p3 (And.intro hq.p3 (And.intro hp.p11 (And.intro hq.p11 (And.intro hp.p13 (And.intro hq.p13 (And.intro hp.p6 (And.intro hq.p6 (And.intro J1 (J2)))))))))))))))))))))))))));refine D7 Tryz.func19 rfl rfl ?_;simp only [List.append_eq,List.cons_append,List.nil_append];unfold N9;cases d1:decide (T.name=U.name) with
 | false=>simp (maxSteps:=8000000) (disch:=first|exact dS|fail) only [↓bD,bW,reduceMul,reduceEqDiff,reduceAdd,Nat.reduceBEq,reduceIte,Option.isNone_none,hz,N0.1,d1,Bool.false_and,Bool.true_and,Tryz.results19];exact ⟨_,rfl,eX⟩
 | true =>
 cases d2:decide (T.low=U.low) with
 | false=>simp (maxSteps:=8000000) (disch:=first|exact dS|fail) only [↓bD,bW,reduceMul,reduceEqDiff,reduceAdd,Nat.reduceBEq,reduceIte,Option.isNone_none,hz,N0.1,d1,d2,Bool.false_and,Bool.true_and,Tryz.results19];exact ⟨_,rfl,eX⟩
 | true =>
 cases d3:decide (T.high=U.high) with
 | false=>simp (maxSteps:=8000000) (disch:=first|exact dS|fail) only [↓bD,bW,reduceMul,reduceEqDiff,reduceAdd,Nat.reduceBEq,reduceIte,Option.isNone_none,hz,N0.1,d1,d2,d3,Bool.false_and,Bool.true_and,Tryz.results19];exact ⟨_,rfl,eX⟩
 | true =>
 cases d4:decide (T.D5=U.D5) with
 | false=>simp (maxSteps:=8000000) (disch:=first|exact dS|fail) only [↓bD,bW,reduceMul,reduceEqDiff,reduceAdd,Nat.reduceBEq,reduceIte,Option.isNone_none,hz,N0.1,d1,d2,d3,d4,Bool.false_and,Bool.true_and,Tryz.results19];exact ⟨_,rfl,eX⟩
 | true =>
 cases d5:decide (T.C1=U.C1) with
 | false=>simp (maxSteps:=8000000) (disch:=first|exact dS|fail) only [↓bD,bW,reduceMul,reduceEqDiff,reduceAdd,Nat.reduceBEq,reduceIte,Option.isNone_none,hz,N0.1,d1,d2,d3,d4,d5,Bool.false_and,Bool.true_and,Tryz.results19];exact ⟨_,rfl,eX⟩
 | true =>
 cases d6:decide (T.t=U.t) with
 | false=>simp (maxSteps:=8000000) (disch:=first|exact dS|fail) only [↓bD,bW,reduceMul,reduceEqDiff,reduceAdd,Nat.reduceBEq,reduceIte,Option.isNone_none,hz,N0.1,d1,d2,d3,d4,d5,d6,Bool.false_and,Bool.true_and,Tryz.results19];exact ⟨_,rfl,eX⟩
 | true =>
 simp (maxSteps:=8000000) (disch:=first|exact dS|fail) only [↓bD,bW,reduceMul,reduceEqDiff,reduceAdd,Nat.reduceBEq,reduceIte,Option.isNone_none,hz,N0.1,d1,d2,d3,d4,d5,d6,Bool.false_and,Bool.true_and];refine (MF (h2.mono E0) (k2.mono E0) cT.D2 cU.D2).mono ?_;rintro r rfl;cases d7:decide (T.D2=U.D2) with
 | false=>simp (maxSteps:=8000000) (disch:=first|exact dS|fail) only [↓bD,bW,reduceMul,reduceEqDiff,reduceAdd,Nat.reduceBEq,reduceIte,Option.isNone_none,hz,N0.1,Bool.false_and,Bool.true_and,Tryz.results19];exact ⟨_,rfl,eX⟩
 | true =>
 simp (maxSteps:=8000000) (disch:=first|exact dS|fail) only [↓bD,bW,reduceMul,reduceEqDiff,reduceAdd,Nat.reduceBEq,reduceIte,Option.isNone_none,hz,N0.1,Bool.false_and,Bool.true_and];refine (Kz (h3.mono E0) (k3.mono E0) cT.C7 cU.C7).mono ?_;rintro r rfl;cases d8:decide (T.C7=U.C7) with
 | false=>simp (maxSteps:=8000000) (disch:=first|exact dS|fail) only [↓bD,bW,reduceMul,reduceEqDiff,reduceAdd,Nat.reduceBEq,reduceIte,Option.isNone_none,hz,N0.1,Bool.false_and,Bool.true_and,Tryz.results19];exact ⟨_,rfl,eX⟩
 | true =>
 simp (maxSteps:=8000000) (disch:=first|exact dS|fail) only [↓bD,bW,reduceMul,reduceEqDiff,reduceAdd,Nat.reduceBEq,reduceIte,Option.isNone_none,hz,N0.1,Bool.false_and,Bool.true_and];refine (MG (h4.mono E0) (k4.mono E0) cT.reqs cU.reqs).mono ?_;rintro r rfl;cases d9:decide (T.reqs=U.reqs) with
 | false=>simp (maxSteps:=8000000) (disch:=first|exact dS|fail) only [↓bD,bW,reduceMul,reduceEqDiff,reduceAdd,Nat.reduceBEq,reduceIte,Option.isNone_none,hz,N0.1,Bool.false_and,Bool.true_and,Tryz.results19];exact ⟨_,rfl,eX⟩
 | true =>
 simp (maxSteps:=8000000) (disch:=first|exact dS|fail) only [↓bD,bW,reduceMul,reduceEqDiff,reduceAdd,Nat.reduceBEq,reduceIte,Option.isNone_none,hz,N0.1,Bool.false_and,Bool.true_and];refine (MD (h6.mono E0) (k6.mono E0) cT.E9 cU.E9).mono ?_;rintro r rfl;cases d10:decide (T.E9=U.E9) with
 | false=>simp (maxSteps:=8000000) (disch:=first|exact dS|fail) only [↓bD,bW,reduceMul,reduceEqDiff,reduceAdd,Nat.reduceBEq,reduceIte,Option.isNone_none,hz,N0.1,Bool.false_and,Bool.true_and,Tryz.results19];exact ⟨_,rfl,eX⟩
 | true =>
 simp (maxSteps:=8000000) (disch:=first|exact dS|fail) only [↓bD,bW,reduceMul,reduceEqDiff,reduceAdd,Nat.reduceBEq,reduceIte,Option.isNone_none,hz,N0.1,Bool.false_and,Bool.true_and];refine (SJ (h7.mono E0) (k7.mono E0) cT.C3 cU.C3 cT.combo cU.combo).mono ?_;rintro r rfl;cases d11:decide (T.C3=U.C3) with
 | false=>simp (maxSteps:=8000000) (disch:=first|exact dS|fail) only [↓bD,bW,reduceMul,reduceEqDiff,reduceAdd,Nat.reduceBEq,reduceIte,Option.isNone_none,hz,N0.1,Bool.false_and,Bool.true_and,Tryz.results19];exact ⟨_,rfl,eX⟩
 | true =>
 simp (maxSteps:=8000000) (disch:=first|exact dS|fail) only [↓bD,bW,reduceMul,reduceEqDiff,reduceAdd,Nat.reduceBEq,reduceIte,Option.isNone_none,hz,N0.1,Bool.false_and,Bool.true_and];refine (ub _ (Nat.lt_succ_self _) (h5.mono E0) (k5.mono E0)).mono ?_;rintro r ⟨Z2,rfl,hE2⟩;refine gS1 (a3N @J1 @J2 @Tryz.results19) ?_;exact ⟨_,rfl,E0.trans hE2⟩
end Go.Proofs.T
