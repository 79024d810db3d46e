/- Equality of tenders: lists, formulas, text.Equal. -/
import Derived.Test.YtbcanmagihejhaaGreatDoorRC
set_option linter.unusedSimpArgs false
set_option linter.unusedVariables false
namespace Go.Proofs.T
open Go Go.Ab
open Nat (reduceMul reduceEqDiff reduceAdd)
set_option maxRecDepth 100000
section
variable {x y:Operand}
theorem beq_bytes' {a b:By}:((⟨⟨a⟩⟩:ByteArray)==⟨⟨b⟩⟩)=decide (a=b):=by
 rw [beq_toListBytes,ByteArray.toList_eq,ByteArray.toList_eq]
 show (a==b)=_
 rw [Bool.eq_iff_iff];simp
theorem b2_lot {a b:Lot}:bin2 Tryz.prog .eql 78 x y (.agg ⟨a.row⟩) (.agg ⟨b.row⟩)=some (.bool (decide (a=b)))/\bin2 Tryz.prog .neq 78 x y (.agg ⟨a.row⟩) (.agg ⟨b.row⟩)=some (.bool (!decide (a=b))):=by
 have he:eqF Tryz.prog 9999 ⟨a.row⟩ ⟨b.row⟩ (Tryz.prog.fieldsOf 78).toList=bi (a.id==b.id) (bi (a.most==b.most) (some true) (some false)) (some false):=by kernel_rfl
 have h:=b2_struct (x:=x) (y:=y) rfl (by kernel_rfl) (by kernel_rfl) (by kernel_rfl) he
 rw [bi_and,bi_and,beq_dec,beq_dec,Bool.and_true] at h
 have e:(decide (a.id=b.id)&&decide (a.most=b.most))=decide (a=b):=by
  rw [Bool.eq_iff_iff];cases a;cases b;simp
 rw [e] at h
 exact h
theorem b2_crit {a b:Crit}:bin2 Tryz.prog .eql 80 x y (.agg ⟨a.row⟩) (.agg ⟨b.row⟩)=some (.bool (decide (a=b)))/\bin2 Tryz.prog .neq 80 x y (.agg ⟨a.row⟩) (.agg ⟨b.row⟩)=some (.bool (!decide (a=b))):=by
 have he:eqF Tryz.prog 9999 ⟨a.row⟩ ⟨b.row⟩ (Tryz.prog.fieldsOf 80).toList=bi ((⟨⟨a.name⟩⟩:ByteArray)==⟨⟨b.name⟩⟩) (bi (a.kind==b.kind) (bi (a.low==b.low) (bi (a.high==b.high) (bi (a.less==b.less) (some true) (some false)) (some false)) (some false)) (some false)) (some false):=by kernel_rfl
 have h:=b2_struct (x:=x) (y:=y) rfl (by kernel_rfl) (by kernel_rfl) (by kernel_rfl) he
 rw [bi_and,bi_and,bi_and,bi_and,bi_and,beq_bytes',beq_dec,beq_dec,beq_dec,Bool.and_true] at h
 have e:(decide (a.name=b.name)&&(decide (a.kind=b.kind)&&(decide (a.low=b.low)&&(decide (a.high=b.high)&&(a.less==b.less)))))=decide (a=b):=by
  rw [Bool.eq_iff_iff];cases a;cases b;simp
 rw [e] at h
 exact h
theorem b2_req {a b:Req}:bin2 Tryz.prog .eql 82 x y (.agg ⟨a.row⟩) (.agg ⟨b.row⟩)=some (.bool (decide (a=b)))/\bin2 Tryz.prog .neq 82 x y (.agg ⟨a.row⟩) (.agg ⟨b.row⟩)=some (.bool (!decide (a=b))):=by
 have he:eqF Tryz.prog 9999 ⟨a.row⟩ ⟨b.row⟩ (Tryz.prog.fieldsOf 82).toList=bi ((⟨⟨a.name⟩⟩:ByteArray)==⟨⟨b.name⟩⟩) (bi ((⟨⟨a.rel⟩⟩:ByteArray)==⟨⟨b.rel⟩⟩) (bi (a.value==b.value) (some true) (some false)) (some false)) (some false):=by kernel_rfl
 have h:=b2_struct (x:=x) (y:=y) rfl (by kernel_rfl) (by kernel_rfl) (by kernel_rfl) he
 rw [bi_and,bi_and,bi_and,beq_bytes',beq_bytes',beq_dec,Bool.and_true] at h
 have e:(decide (a.name=b.name)&&(decide (a.rel=b.rel)&&decide (a.value=b.value)))=decide (a=b):=by
  rw [Bool.eq_iff_iff];cases a;cases b;simp
 rw [e] at h
 exact h
def Tim.row (t:Tim):List Value:=[.int .i64 t.q,.int .i64 t.b,.int .i64 t.g,.int .i64 t.p,.int .i64 t.s]
theorem b2_tim {a b:Tim}:bin2 Tryz.prog .eql 39 x y (.agg ⟨a.row⟩) (.agg ⟨b.row⟩)=some (.bool (decide (a=b)))/\bin2 Tryz.prog .neq 39 x y (.agg ⟨a.row⟩) (.agg ⟨b.row⟩)=some (.bool (!decide (a=b))):=by
 have he:eqF Tryz.prog 9999 ⟨a.row⟩ ⟨b.row⟩ (Tryz.prog.fieldsOf 39).toList=bi (a.q==b.q) (bi (a.b==b.b) (bi (a.g==b.g) (bi (a.p==b.p) (bi (a.s==b.s) (some true) (some false)) (some false)) (some false)) (some false)) (some false):=by kernel_rfl
 have h:=b2_struct (x:=x) (y:=y) rfl (by kernel_rfl) (by kernel_rfl) (by kernel_rfl) he
 rw [bi_and,bi_and,bi_and,bi_and,bi_and,beq_dec,beq_dec,beq_dec,beq_dec,beq_dec,Bool.and_true] at h
 have e:(decide (a.q=b.q)&&(decide (a.b=b.b)&&(decide (a.g=b.g)&&(decide (a.p=b.p)&&decide (a.s=b.s)))))=decide (a=b):=by
  rw [Bool.eq_iff_iff];cases a;cases b;simp
 rw [e] at h
 exact h
end
mutual
/-- Formulas are the same. -/
def exEqb:Ex->Ex->Bool
 | .mk o n d nm es,.mk o' n' d' nm' es'=>decide (o=o')&&(decide (n=n')&&decide (d=d'))&&decide (nm=nm')&&exsEqb es es'
def exsEqb:List Ex->List Ex->Bool
 | [],[]=>true
 | a::es,b::fs=>exEqb a b&&exsEqb es fs
 | [],_::_=>false
 | _::_,[]=>false
end
theorem exsEqb_len:∀ {es fs:List Ex},es.length≠fs.length->exsEqb es fs=false
 | [],[],h=>absurd rfl h
 | a::es,b::fs,h=>by
   unfold exsEqb
   rw [exsEqb_len (es:=es) (fs:=fs) (by simpa using h),Bool.and_false]
 | [],_::_,_=>by unfold exsEqb;rfl
 | _::_,[],_=>by unfold exsEqb;rfl
theorem exsEqb_take:∀ {es fs:List Ex}{k:Nat}{a b:Ex},es.length=fs.length->es[k]? =some a->fs[k]? =some b->exEqb a b=false->exsEqb es fs=false
 | a::es,b::fs,0,_,_,_,h1,h2,h=>by cases h1;cases h2;unfold exsEqb;rw [h,Bool.false_and]
 | a::es,b::fs,k+1,_,_,hl,h1,h2,h=>by
   unfold exsEqb
   rw [exsEqb_take (es:=es) (fs:=fs) (k:=k) (by simpa using hl) (by simpa using h1) (by simpa using h2) h,Bool.and_false]
 | [],_,_,_,_,_,h1,_,_=>by simp at h1
 | _::_,[],_,_,_,hl,_,_,_=>by simp at hl
theorem exsEqb_all:∀ {es fs:List Ex},es.length=fs.length->(∀ (k:Nat) (a b:Ex),es[k]? =some a->fs[k]? =some b->exEqb a b=true)->exsEqb es fs=true
 | [],[],_,_=>by unfold exsEqb;rfl
 | a::es,b::fs,hl,h=>by
   unfold exsEqb
   rw [h 0 a b rfl rfl,exsEqb_all (es:=es) (fs:=fs) (by simpa using hl) (fun k x y hx hy=>h (k+1) x y (by simpa using hx) (by simpa using hy)),Bool.and_true]
 | [],_::_,hl,_=>by simp at hl
 | _::_,[],hl,_=>by simp at hl
mutual
theorem exEqb_refl:∀ a:Ex,exEqb a a=true
 | .mk o n d nm es=>by unfold exEqb;rw [exsEqb_refl es];simp
theorem exsEqb_refl:∀ es:List Ex,exsEqb es es=true
 | []=>by unfold exsEqb;rfl
 | a::es=>by unfold exsEqb;rw [exEqb_refl a,exsEqb_refl es];rfl
end
theorem ExsAt.slice {Z:St}{v:Value}{rows:List (List Value)}{es:List Ex}(h:SL Z 5 v rows) (hx:ExsAt Z rows es):∃ a c b off cells,v= .slice a es.length c/\(0<es.length->∃ sp,a=some ⟨b,off,sp⟩/\b<Z.n/\Z.row b=some cells) /\
  ∀ k e,es[k]? =some e->∃ row,sub cells (off+k*5) 5=some row/\ExAt Z row e:=by
 obtain ⟨a,c,b,off,cells,h1,h2,h3⟩:=SL.use h
 rw [hx.len] at h1 h2
 refine ⟨a,c,b,off,cells,h1,h2,fun k e he=>?_⟩
 obtain ⟨hlt,_⟩:=List.getElem?_eq_some_iff.1 he
 obtain ⟨row,hr⟩:=at_some (l:=rows) (k:=k) (by rw [hx.len];exact hlt)
 exact ⟨row,h3 k row hr,hx.get hr he⟩
theorem eqfx_ok {Z:St}{v w:Value}{rows rows':List (List Value)}{es fs:List Ex}{g:Nat}(h2:SL Z 5 v rows) (h3:ExsAt Z rows es) (h2':SL Z 5 w rows') (h3':ExsAt Z rows' fs) (hl:es.length<=4) (hl':fs.length<=4)
  (hf:∀ a b,a∈es->∀ ra rb Z',Ext Z Z'->ExAt Z' ra a->ExAt Z' rb b->Ev (go Tryz.prog HS (.fn g) [.agg ⟨ra⟩,.agg ⟨rb⟩] Z') (fun r=>∃ Z2,r=⟨false,.bool (exEqb a b),Z2⟩/\Ext Z' Z2) ⟨⟩) :
  Ev (go Tryz.prog HS (.fn 76) [v,w,.func (.func g) ⟨[]⟩ ⟨[]⟩] Z) (fun r=>∃ Z2,r=⟨false,.bool (exsEqb es fs),Z2⟩/\Ext Z Z2) ⟨⟩:=by
 obtain ⟨sa,sc,sb,so,scs,rfl,s1,s2⟩:=ExsAt.slice h2 h3
 obtain ⟨sa',sc',sb',so',scs',rfl,s1',s2'⟩:=ExsAt.slice h2' h3'
 refine ev_go Tryz.func76 rfl rfl ?_
 by_cases hlen:es.length=fs.length
 ·have hd4:decide ((es.length:Int)=(fs.length:Int))=true:=by simp [hlen]
  refine gS1 @hd4 ?_
  refine ev_count es.length (fun k fr Z'=>fr.get 17=some (.int .i64 k)/\fr.get 16=some (.int .i64 es.length)/\fr.get 15=some (.slice sa es.length sc)/\fr.get 1=some (.slice sa' fs.length sc')/\fr.get 2=some (.func (.func g) ⟨[]⟩ ⟨[]⟩)/\Ext Z Z'/\(∀ i a b,i<k->es[i]? =some a->fs[i]? =some b->exEqb a b=true))
   (fun r=>(∃ fr Z',r=⟨.exit 0,fr,Z'⟩/\Ext Z Z'/\exsEqb es fs=true)\/(∃ fr Z',r=⟨.ret,fr,Z'⟩/\Ext Z Z'/\fr.get 6=some (.bool false)/\exsEqb es fs=false)) ?_ ?_ ?_ ?_
  ·exact ⟨fR,fR,fR,fR,fR,.refl _,fun i a b h=>om⟩
  ·rintro k fr Z' hk ⟨g17,g16,g15,g1,g2,hE,hm⟩
   have hc:=lt_true hk
   have hc':k<fs.length:=om
   obtain ⟨x,hx⟩:=at_some hk
   obtain ⟨y,hy⟩:=at_some hc'
   obtain ⟨rx,hrx,hex⟩:=s2 k x hx
   obtain ⟨ry,hry,hey⟩:=s2' k y hy
   obtain ⟨sp,rfl,l3,l4⟩:=s1 om
   obtain ⟨sp',rfl,l3',l4'⟩:=s1' om
   have r1:Z'.row sb=some scs:=by rw [hE.row l3];exact l4
   have r2:Z'.row sb'=some scs':=by rw [hE.row l3'];exact l4'
   have hrl:rx.length=5:=hex.len
   have hrl':ry.length=5:=hey.len
   have hEn:=hE.n
   have t1:sub rx 0 5=some rx:=sub_full om om
   have t2:sub ry 0 5=some ry:=sub_full om om
   have w1:∀ l:List Value,l.length=5->splice l 0 rx=some rx:=fun l h=>splice_full om om
   have w2:∀ l:List Value,l.length=5->splice l 0 ry=some ry:=fun l h=>splice_full om om
   refine gS1 (aI @g1 (aI @g2 (aI @g15 (aI @g16 (aI @g17 (aI @hc (aI @r1 (aI @r2 (aI @hrx (aI @hry (aI @hrl (aI @hrl' (aI @t1 @t2))))))))))))) ?_
   refine (hf x y (List.mem_of_getElem? hx) rx ry _ ?_ ?_ ?_).mono ?_
   ·exact eX
   ·exact hex.mono (eX)
   ·exact hey.mono (eX)
   rintro r ⟨Z2,rfl,hE2⟩
   have hE3:Ext Z Z2:=Ext.trans (eX) hE2
   refine gS1 (aI @g1 (aI @g2 (aI @g15 (aI @g16 @g17)))) ?_
   cases hq:exEqb x y with
   | true =>
     refine gS1 (aI @g1 (aI @g2 (aI @g15 (aI @g16 @g17)))) ?_
     refine ⟨fR,fR1 g16,fR1 g15,fR1 g1,fR1 g2,hE3,fun i a b hi ha hb=>?_⟩
     by_cases e:i=k
     ·subst e;rw [hx] at ha;rw [hy] at hb;cases ha;cases hb;exact hq
     ·exact hm i a b om ha hb
   | false =>
     refine gS1 (aI @g1 (aI @g2 (aI @g15 (aI @g16 @g17)))) ?_
     exact .inr ⟨_,_,rfl,hE3,fR,exsEqb_take hlen hx hy hq⟩
  ·rintro fr Z' ⟨g17,g16,g15,g1,g2,hE,hm⟩
   refine gS1 (aI @g16 @g17) ?_
   exact .inl ⟨_,_,rfl,hE,exsEqb_all hlen fun k a b ha hb=>hm k a b (List.getElem?_eq_some_iff.1 ha).1 ha hb⟩
  ·rintro r (⟨fr,Z',rfl,hE,hq⟩|⟨fr,Z',rfl,hE,g4,hq⟩)
   ·simp (maxSteps:=8000000) (disch:=first|exact dS|fail) only [↓bD,bW,reduceMul,reduceEqDiff,reduceAdd,Nat.reduceBEq,reduceIte,Option.isNone_none,Tryz.results76];rw [hq];exact ⟨_,rfl,hE⟩
   ·simp (maxSteps:=8000000) (disch:=first|exact dS|fail) only [↓bD,bW,reduceMul,reduceEqDiff,reduceAdd,Nat.reduceBEq,reduceIte,Option.isNone_none,Tryz.results76,g4];rw [hq];exact ⟨_,rfl,hE⟩
 ·have hd4:decide ((es.length:Int)=(fs.length:Int))=false:=by simp;omega
  refine gS1 (aI @hd4 @Tryz.results76) ?_
  rw [exsEqb_len hlen]
  exact ⟨_,rfl,.refl _⟩
theorem sliceseq_str_ok {Z:St}{v w:Value}{l m:List By}(hl:Strs Z v l) (hk:Strs Z w m) (hn:l.length<=100) (hn2:m.length<=100) :
  Ev (go Tryz.prog HS (.fn 44) [v,w] Z) (fun r=>r=⟨false,.bool (decide (l=m)),Z⟩) ⟨⟩:=by
 obtain ⟨a,c,b,off,cells,rfl,h1,h2⟩:=hl.use
 obtain ⟨a',c',b',off',cells',rfl,h1',h2'⟩:=hk.use
 refine ev_go Tryz.func44 rfl rfl ?_
 by_cases hlen:l.length=m.length
 ·have hd:decide ((l.length:Int)=(m.length:Int))=true:=by simp [hlen]
  refine gS1 @hd ?_
  refine ev_count l.length (fun i fr Z'=>fr.get 13=some (.int .i64 i)/\fr.get 12=some (.int .i64 l.length)/\fr.get 0=some (.slice a l.length c)/\fr.get 1=some (.slice a' m.length c')/\Z'=Z/\l.take i=m.take i)
   (fun r=>(∃ fr,r=⟨.exit 0,fr,Z⟩/\l=m)\/(∃ fr,r=⟨.ret,fr,Z⟩/\fr.get 4=some (.bool false)/\l≠m)) ?_ ?_ ?_ ?_
  ·exact ⟨fR,fR,fR,fR,rfl,by simp⟩
  ·rintro i fr Z' hi ⟨g13,g12,g0,g1,rfl,hm⟩
   have hc:=lt_true hi
   have hci:i<m.length:=om
   obtain ⟨sp,rfl,hb,hr⟩:=h1 om
   obtain ⟨sp',rfl,hb',hr'⟩:=h1' om
   obtain ⟨x,hx⟩:=at_some hi
   obtain ⟨y,hy⟩:=at_some hci
   have h2:=h2 i x hx
   have h2':=h2' i y hy
   cases hd2:decide (x=y) with
   | true =>
     have hxy:x=y:=of_decide_eq_true hd2
     refine gS1 (aI @g0 (aI @g1 (aI @g12 (aI @g13 (aI @hc (aI @hr (aI @hr' (aI @h2 (aI @h2' @hd2))))))))) ?_
     exact ⟨fR,fR1 g12,fR1 g0,fR1 g1,by trivial,by rw [List.take_add_one,List.take_add_one,hm,hx,hy,hxy]⟩
   | false =>
     have hxy:¬ x=y:=of_decide_eq_false hd2
     refine gS1 (aI @g0 (aI @g1 (aI @g12 (aI @g13 (aI @hc (aI @hr (aI @hr' (aI @h2 (aI @h2' @hd2))))))))) ?_
     refine .inr ⟨_,rfl,fR,fun h=>?_⟩
     subst h
     rw [hx] at hy;cases hy;exact hxy rfl
  ·rintro fr Z' ⟨g13,g12,g0,g1,rfl,hm⟩
   refine gS1 (aI @g12 @g13) ?_
   refine .inl ⟨_,rfl,?_⟩
   rw [List.take_length,hlen,List.take_length] at hm
   exact hm
  ·rintro r (⟨fr,rfl,hm⟩|⟨fr,rfl,g4,hm⟩)
   ·refine gS1 @Tryz.results44 ?_
    rw [decide_eq_true hm]
   ·refine gS1 (aI @Tryz.results44 @g4) ?_
    rw [decide_eq_false hm]
 ·have hd:decide ((l.length:Int)=(m.length:Int))=false:=by simp;omega
  refine gS1 (aI @hd @Tryz.results44) ?_
  rw [decide_eq_false (fun h=>hlen (by rw [h]))]
theorem sliceseq_int_ok {Z:St}{v w:Value}{l m:List Int}(hl:Ints Z v l) (hk:Ints Z w m) (hn:l.length<=100) (hn2:m.length<=100) :
  Ev (go Tryz.prog HS (.fn 46) [v,w] Z) (fun r=>r=⟨false,.bool (decide (l=m)),Z⟩) ⟨⟩:=by
 obtain ⟨a,c,b,off,cells,rfl,h1,h2⟩:=hl.use
 obtain ⟨a',c',b',off',cells',rfl,h1',h2'⟩:=hk.use
 refine ev_go Tryz.func46 rfl rfl ?_
 by_cases hlen:l.length=m.length
 ·have hd:decide ((l.length:Int)=(m.length:Int))=true:=by simp [hlen]
  refine gS1 @hd ?_
  refine ev_count l.length (fun i fr Z'=>fr.get 13=some (.int .i64 i)/\fr.get 12=some (.int .i64 l.length)/\fr.get 0=some (.slice a l.length c)/\fr.get 1=some (.slice a' m.length c')/\Z'=Z/\l.take i=m.take i)
   (fun r=>(∃ fr,r=⟨.exit 0,fr,Z⟩/\l=m)\/(∃ fr,r=⟨.ret,fr,Z⟩/\fr.get 4=some (.bool false)/\l≠m)) ?_ ?_ ?_ ?_
  ·exact ⟨fR,fR,fR,fR,rfl,by simp⟩
  ·rintro i fr Z' hi ⟨g13,g12,g0,g1,rfl,hm⟩
   have hc:=lt_true hi
   have hci:i<m.length:=om
   obtain ⟨sp,rfl,hb,hr⟩:=h1 om
   obtain ⟨sp',rfl,hb',hr'⟩:=h1' om
   obtain ⟨x,hx⟩:=at_some hi
   obtain ⟨y,hy⟩:=at_some hci
   have h2:=h2 i x hx
   have h2':=h2' i y hy
   cases hd2:decide (x=y) with
   | true =>
     have hxy:x=y:=of_decide_eq_true hd2
     refine gS1 (aI @g0 (aI @g1 (aI @g12 (aI @g13 (aI @hc (aI @hr (aI @hr' (aI @h2 (aI @h2' @hd2))))))))) ?_
     exact ⟨fR,fR1 g12,fR1 g0,fR1 g1,by trivial,by rw [List.take_add_one,List.take_add_one,hm,hx,hy,hxy]⟩
   | false =>
     have hxy:¬ x=y:=of_decide_eq_false hd2
     refine gS1 (aI @g0 (aI @g1 (aI @g12 (aI @g13 (aI @hc (aI @hr (aI @hr' (aI @h2 (aI @h2' @hd2))))))))) ?_
     refine .inr ⟨_,rfl,fR,fun h=>?_⟩
     subst h
     rw [hx] at hy;cases hy;exact hxy rfl
  ·rintro fr Z' ⟨g13,g12,g0,g1,rfl,hm⟩
   refine gS1 (aI @g12 @g13) ?_
   refine .inl ⟨_,rfl,?_⟩
   rw [List.take_length,hlen,List.take_length] at hm
   exact hm
  ·rintro r (⟨fr,rfl,hm⟩|⟨fr,rfl,g4,hm⟩)
   ·refine gS1 @Tryz.results46 ?_
    rw [decide_eq_true hm]
   ·refine gS1 (aI @Tryz.results46 @g4) ?_
    rw [decide_eq_false hm]
 ·have hd:decide ((l.length:Int)=(m.length:Int))=false:=by simp;omega
  refine gS1 (aI @hd @Tryz.results46) ?_
  rw [decide_eq_false (fun h=>hlen (by rw [h]))]
theorem sliceseq_lot_ok {Z:St}{v w:Value}{l m:List Lot}(hl:Lots Z v l) (hk:Lots Z w m) (hn:l.length<=100) (hn2:m.length<=100) :
  Ev (go Tryz.prog HS (.fn 41) [v,w] Z) (fun r=>r=⟨false,.bool (decide (l=m)),Z⟩) ⟨⟩:=by
 obtain ⟨a,c,b,off,cells,rfl,h1,h2⟩:=hl.use
 obtain ⟨a',c',b',off',cells',rfl,h1',h2'⟩:=hk.use
 refine ev_go Tryz.func41 rfl rfl ?_
 by_cases hlen:l.length=m.length
 ·have hd:decide ((l.length:Int)=(m.length:Int))=true:=by simp [hlen]
  refine gS1 @hd ?_
  refine ev_count l.length (fun i fr Z'=>fr.get 13=some (.int .i64 i)/\fr.get 12=some (.int .i64 l.length)/\fr.get 0=some (.slice a l.length c)/\fr.get 1=some (.slice a' m.length c')/\Z'=Z/\l.take i=m.take i)
   (fun r=>(∃ fr,r=⟨.exit 0,fr,Z⟩/\l=m)\/(∃ fr,r=⟨.ret,fr,Z⟩/\fr.get 4=some (.bool false)/\l≠m)) ?_ ?_ ?_ ?_
  ·exact ⟨fR,fR,fR,fR,rfl,by simp⟩
  ·rintro i fr Z' hi ⟨g13,g12,g0,g1,rfl,hm⟩
   have hc:=lt_true hi
   have hci:i<m.length:=om
   obtain ⟨sp,rfl,hb,hr⟩:=h1 om
   obtain ⟨sp',rfl,hb',hr'⟩:=h1' om
   obtain ⟨x,hx⟩:=at_some hi
   obtain ⟨y,hy⟩:=at_some hci
   have h2:=(h2 i x hx).1
   have h2':=(h2' i y hy).1
   cases hd2:decide (x=y) with
   | true =>
     have hxy:x=y:=of_decide_eq_true hd2
     simp (maxSteps:=8000000) (disch:=first|exact dS|fail) only [↓bD,bW,reduceMul,reduceEqDiff,reduceAdd,Nat.reduceBEq,reduceIte,Option.isNone_none,g0,g1,g12,g13,hc,hr,hr',h2,h2',b2_lot.2,hd2]
     try refine Must.intro (by (repeat first|simp (disch:=omega) only [as_read,as_upd,as_newb]|rw [as_ord (by kernel_rfl)]);first|done|rfl) ?_
     try simp (maxSteps:=8000000) (disch:=first|exact dS|fail) only [↓bD,bW,reduceMul,reduceEqDiff,reduceAdd,Nat.reduceBEq,reduceIte,Option.isNone_none,g0,g1,g12,g13,hd2]
     exact ⟨fR,fR1 g12,fR1 g0,fR1 g1,by trivial,by rw [List.take_add_one,List.take_add_one,hm,hx,hy,hxy]⟩
   | false =>
     have hxy:¬ x=y:=of_decide_eq_false hd2
     simp (maxSteps:=8000000) (disch:=first|exact dS|fail) only [↓bD,bW,reduceMul,reduceEqDiff,reduceAdd,Nat.reduceBEq,reduceIte,Option.isNone_none,g0,g1,g12,g13,hc,hr,hr',h2,h2',b2_lot.2,hd2]
     try refine Must.intro (by (repeat first|simp (disch:=omega) only [as_read,as_upd,as_newb]|rw [as_ord (by kernel_rfl)]);first|done|rfl) ?_
     try simp (maxSteps:=8000000) (disch:=first|exact dS|fail) only [↓bD,bW,reduceMul,reduceEqDiff,reduceAdd,Nat.reduceBEq,reduceIte,Option.isNone_none,g0,g1,g12,g13,hd2]
     refine .inr ⟨_,rfl,fR,fun h=>?_⟩
     subst h
     rw [hx] at hy;cases hy;exact hxy rfl
  ·rintro fr Z' ⟨g13,g12,g0,g1,rfl,hm⟩
   refine gS1 (aI @g12 @g13) ?_
   refine .inl ⟨_,rfl,?_⟩
   rw [List.take_length,hlen,List.take_length] at hm
   exact hm
  ·rintro r (⟨fr,rfl,hm⟩|⟨fr,rfl,g4,hm⟩)
   ·refine gS1 @Tryz.results41 ?_
    rw [decide_eq_true hm]
   ·refine gS1 (aI @Tryz.results41 @g4) ?_
    rw [decide_eq_false hm]
 ·have hd:decide ((l.length:Int)=(m.length:Int))=false:=by simp;omega
  refine gS1 (aI @hd @Tryz.results41) ?_
  rw [decide_eq_false (fun h=>hlen (by rw [h]))]
theorem sliceseq_crit_ok {Z:St}{v w:Value}{l m:List Crit}(hl:Crits Z v l) (hk:Crits Z w m) (hn:l.length<=100) (hn2:m.length<=100) :
  Ev (go Tryz.prog HS (.fn 42) [v,w] Z) (fun r=>r=⟨false,.bool (decide (l=m)),Z⟩) ⟨⟩:=by
 obtain ⟨a,c,b,off,cells,rfl,h1,h2⟩:=hl.use
 obtain ⟨a',c',b',off',cells',rfl,h1',h2'⟩:=hk.use
 refine ev_go Tryz.func42 rfl rfl ?_
 by_cases hlen:l.length=m.length
 ·have hd:decide ((l.length:Int)=(m.length:Int))=true:=by simp [hlen]
  refine gS1 @hd ?_
  refine ev_count l.length (fun i fr Z'=>fr.get 13=some (.int .i64 i)/\fr.get 12=some (.int .i64 l.length)/\fr.get 0=some (.slice a l.length c)/\fr.get 1=some (.slice a' m.length c')/\Z'=Z/\l.take i=m.take i)
   (fun r=>(∃ fr,r=⟨.exit 0,fr,Z⟩/\l=m)\/(∃ fr,r=⟨.ret,fr,Z⟩/\fr.get 4=some (.bool false)/\l≠m)) ?_ ?_ ?_ ?_
  ·exact ⟨fR,fR,fR,fR,rfl,by simp⟩
  ·rintro i fr Z' hi ⟨g13,g12,g0,g1,rfl,hm⟩
   have hc:=lt_true hi
   have hci:i<m.length:=om
   obtain ⟨sp,rfl,hb,hr⟩:=h1 om
   obtain ⟨sp',rfl,hb',hr'⟩:=h1' om
   obtain ⟨x,hx⟩:=at_some hi
   obtain ⟨y,hy⟩:=at_some hci
   have h2:=(h2 i x hx).1
   have h2':=(h2' i y hy).1
   cases hd2:decide (x=y) with
   | true =>
     have hxy:x=y:=of_decide_eq_true hd2
     simp (maxSteps:=8000000) (disch:=first|exact dS|fail) only [↓bD,bW,reduceMul,reduceEqDiff,reduceAdd,Nat.reduceBEq,reduceIte,Option.isNone_none,g0,g1,g12,g13,hc,hr,hr',h2,h2',b2_crit.2,hd2]
     try refine Must.intro (by (repeat first|simp (disch:=omega) only [as_read,as_upd,as_newb]|rw [as_ord (by kernel_rfl)]);first|done|rfl) ?_
     try simp (maxSteps:=8000000) (disch:=first|exact dS|fail) only [↓bD,bW,reduceMul,reduceEqDiff,reduceAdd,Nat.reduceBEq,reduceIte,Option.isNone_none,g0,g1,g12,g13,hd2]
     exact ⟨fR,fR1 g12,fR1 g0,fR1 g1,by trivial,by rw [List.take_add_one,List.take_add_one,hm,hx,hy,hxy]⟩
   | false =>
     have hxy:¬ x=y:=of_decide_eq_false hd2
     simp (maxSteps:=8000000) (disch:=first|exact dS|fail) only [↓bD,bW,reduceMul,reduceEqDiff,reduceAdd,Nat.reduceBEq,reduceIte,Option.isNone_none,g0,g1,g12,g13,hc,hr,hr',h2,h2',b2_crit.2,hd2]
     try refine Must.intro (by (repeat first|simp (disch:=omega) only [as_read,as_upd,as_newb]|rw [as_ord (by kernel_rfl)]);first|done|rfl) ?_
     try simp (maxSteps:=8000000) (disch:=first|exact dS|fail) only [↓bD,bW,reduceMul,reduceEqDiff,reduceAdd,Nat.reduceBEq,reduceIte,Option.isNone_none,g0,g1,g12,g13,hd2]
     refine .inr ⟨_,rfl,fR,fun h=>?_⟩
     subst h
     rw [hx] at hy;cases hy;exact hxy rfl
  ·rintro fr Z' ⟨g13,g12,g0,g1,rfl,hm⟩
   refine gS1 (aI @g12 @g13) ?_
   refine .inl ⟨_,rfl,?_⟩
   rw [List.take_length,hlen,List.take_length] at hm
   exact hm
  ·rintro r (⟨fr,rfl,hm⟩|⟨fr,rfl,g4,hm⟩)
   ·refine gS1 @Tryz.results42 ?_
    rw [decide_eq_true hm]
   ·refine gS1 (aI @Tryz.results42 @g4) ?_
    rw [decide_eq_false hm]
 ·have hd:decide ((l.length:Int)=(m.length:Int))=false:=by simp;omega
  refine gS1 (aI @hd @Tryz.results42) ?_
  rw [decide_eq_false (fun h=>hlen (by rw [h]))]
theorem sliceseq_req_ok {Z:St}{v w:Value}{l m:List Req}(hl:Reqs Z v l) (hk:Reqs Z w m) (hn:l.length<=100) (hn2:m.length<=100) :
  Ev (go Tryz.prog HS (.fn 43) [v,w] Z) (fun r=>r=⟨false,.bool (decide (l=m)),Z⟩) ⟨⟩:=by
 obtain ⟨a,c,b,off,cells,rfl,h1,h2⟩:=hl.use
 obtain ⟨a',c',b',off',cells',rfl,h1',h2'⟩:=hk.use
 refine ev_go Tryz.func43 rfl rfl ?_
 by_cases hlen:l.length=m.length
 ·have hd:decide ((l.length:Int)=(m.length:Int))=true:=by simp [hlen]
  refine gS1 @hd ?_
  refine ev_count l.length (fun i fr Z'=>fr.get 13=some (.int .i64 i)/\fr.get 12=some (.int .i64 l.length)/\fr.get 0=some (.slice a l.length c)/\fr.get 1=some (.slice a' m.length c')/\Z'=Z/\l.take i=m.take i)
   (fun r=>(∃ fr,r=⟨.exit 0,fr,Z⟩/\l=m)\/(∃ fr,r=⟨.ret,fr,Z⟩/\fr.get 4=some (.bool false)/\l≠m)) ?_ ?_ ?_ ?_
  ·exact ⟨fR,fR,fR,fR,rfl,by simp⟩
  ·rintro i fr Z' hi ⟨g13,g12,g0,g1,rfl,hm⟩
   have hc:=lt_true hi
   have hci:i<m.length:=om
   obtain ⟨sp,rfl,hb,hr⟩:=h1 om
   obtain ⟨sp',rfl,hb',hr'⟩:=h1' om
   obtain ⟨x,hx⟩:=at_some hi
   obtain ⟨y,hy⟩:=at_some hci
   have h2:=(h2 i x hx).1
   have h2':=(h2' i y hy).1
   cases hd2:decide (x=y) with
   | true =>
     have hxy:x=y:=of_decide_eq_true hd2
     simp (maxSteps:=8000000) (disch:=first|exact dS|fail) only [↓bD,bW,reduceMul,reduceEqDiff,reduceAdd,Nat.reduceBEq,reduceIte,Option.isNone_none,g0,g1,g12,g13,hc,hr,hr',h2,h2',b2_req.2,hd2]
     try refine Must.intro (by (repeat first|simp (disch:=omega) only [as_read,as_upd,as_newb]|rw [as_ord (by kernel_rfl)]);first|done|rfl) ?_
     try simp (maxSteps:=8000000) (disch:=first|exact dS|fail) only [↓bD,bW,reduceMul,reduceEqDiff,reduceAdd,Nat.reduceBEq,reduceIte,Option.isNone_none,g0,g1,g12,g13,hd2]
     exact ⟨fR,fR1 g12,fR1 g0,fR1 g1,by trivial,by rw [List.take_add_one,List.take_add_one,hm,hx,hy,hxy]⟩
   | false =>
     have hxy:¬ x=y:=of_decide_eq_false hd2
     simp (maxSteps:=8000000) (disch:=first|exact dS|fail) only [↓bD,bW,reduceMul,reduceEqDiff,reduceAdd,Nat.reduceBEq,reduceIte,Option.isNone_none,g0,g1,g12,g13,hc,hr,hr',h2,h2',b2_req.2,hd2]
     try refine Must.intro (by (repeat first|simp (disch:=omega) only [as_read,as_upd,as_newb]|rw [as_ord (by kernel_rfl)]);first|done|rfl) ?_
     try simp (maxSteps:=8000000) (disch:=first|exact dS|fail) only [↓bD,bW,reduceMul,reduceEqDiff,reduceAdd,Nat.reduceBEq,reduceIte,Option.isNone_none,g0,g1,g12,g13,hd2]
     refine .inr ⟨_,rfl,fR,fun h=>?_⟩
     subst h
     rw [hx] at hy;cases hy;exact hxy rfl
  ·rintro fr Z' ⟨g13,g12,g0,g1,rfl,hm⟩
   refine gS1 (aI @g12 @g13) ?_
   refine .inl ⟨_,rfl,?_⟩
   rw [List.take_length,hlen,List.take_length] at hm
   exact hm
  ·rintro r (⟨fr,rfl,hm⟩|⟨fr,rfl,g4,hm⟩)
   ·refine gS1 @Tryz.results43 ?_
    rw [decide_eq_true hm]
   ·refine gS1 (aI @Tryz.results43 @g4) ?_
    rw [decide_eq_false hm]
 ·have hd:decide ((l.length:Int)=(m.length:Int))=false:=by simp;omega
  refine gS1 (aI @hd @Tryz.results43) ?_
  rw [decide_eq_false (fun h=>hlen (by rw [h]))]
theorem eqcombos2_ok {Z:St}{v w:Value}{l m:List (List Int)}(hl:Combos Z v l) (hk:Combos Z w m) (hn:l.length<=100) (hn2:m.length<=100) (hi:∀ c∈l,c.length<=100) (hi2:∀ c∈m,c.length<=100) :
  Ev (go Tryz.prog HS (.fn 45) [v,w,.func (.func 46) ⟨[]⟩ ⟨[]⟩] Z) (fun r=>r=⟨false,.bool (decide (l=m)),Z⟩) ⟨⟩:=by
 obtain ⟨vs,k1,k2⟩:=hl
 obtain ⟨vs',k1',k2'⟩:=hk
 obtain ⟨a,c,b,off,cells,rfl,h1,h2⟩:=SL.use' k1
 obtain ⟨a',c',b',off',cells',rfl,h1',h2'⟩:=SL.use' k1'
 have e1:=k2.len
 have e2:=k2'.len
 refine ev_go Tryz.func45 rfl rfl ?_
 by_cases hlen:l.length=m.length
 ·have hd:decide ((vs.length:Int)=(vs'.length:Int))=true:=by simp;omega
  refine gS1 @hd ?_
  refine ev_count vs.length (fun i fr Z'=>fr.get 17=some (.int .i64 i)/\fr.get 16=some (.int .i64 vs.length)/\fr.get 15=some (.slice a vs.length c)/\fr.get 1=some (.slice a' vs'.length c')/\fr.get 2=some (.func (.func 46) ⟨[]⟩ ⟨[]⟩)/\Z'=Z/\l.take i=m.take i)
   (fun r=>(∃ fr,r=⟨.exit 0,fr,Z⟩/\l=m)\/(∃ fr,r=⟨.ret,fr,Z⟩/\fr.get 6=some (.bool false)/\l≠m)) ?_ ?_ ?_ ?_
  ·exact ⟨fR,fR,fR,fR,fR,rfl,by simp⟩
  ·rintro i fr Z' hi' ⟨g17,g16,g15,g1,g2,rfl,hm⟩
   have hc:=lt_true hi'
   obtain ⟨sp,rfl,hb,hr⟩:=h1 om
   obtain ⟨sp',rfl,hb',hr'⟩:=h1' om
   obtain ⟨u,hu⟩:=at_some hi'
   obtain ⟨u',hu'⟩:=at_some (l:=vs') (k:=i) om
   obtain ⟨x,hx⟩:=at_some (l:=l) (k:=i) om
   obtain ⟨y,hy⟩:=at_some (l:=m) (k:=i) om
   have h2:=h2 i u hu
   have h2':=h2' i u' hu'
   rw [Nat.mul_one] at h2 h2'
   have i1:=k2.get hu hx
   have i2:=k2'.get hu' hy
   obtain ⟨sa,sc,sb,so,scs,rfl,-,-⟩:=i1.use
   obtain ⟨sa',sc',sb',so',scs',rfl,-,-⟩:=i2.use
   refine gS1 (aI @g1 (aI @g2 (aI @g15 (aI @g16 (aI @g17 (aI @hc (aI @hr (aI @hr' (aI @h2 @h2'))))))))) ?_
   refine (sliceseq_int_ok i1 i2 (hi x (List.mem_of_getElem? hx)) (hi2 y (List.mem_of_getElem? hy))).mono ?_
   rintro r rfl
   cases hd2:decide (x=y) with
   | true =>
     have hxy:x=y:=of_decide_eq_true hd2
     refine gS1 (aI @g1 (aI @g2 (aI @g15 (aI @g16 @g17)))) ?_
     exact ⟨fR,fR1 g16,fR1 g15,fR1 g1,fR1 g2,by trivial,by rw [List.take_add_one,List.take_add_one,hm,hx,hy,hxy]⟩
   | false =>
     have hxy:¬ x=y:=of_decide_eq_false hd2
     refine gS1 (aI @g1 (aI @g2 (aI @g15 (aI @g16 @g17)))) ?_
     refine .inr ⟨_,rfl,fR,fun h=>?_⟩
     subst h
     rw [hx] at hy;cases hy;exact hxy rfl
  ·rintro fr Z' ⟨g17,g16,g15,g1,g2,rfl,hm⟩
   refine gS1 (aI @g16 @g17) ?_
   refine .inl ⟨_,rfl,?_⟩
   rw [e1,List.take_length,hlen,List.take_length] at hm
   exact hm
  ·rintro r (⟨fr,rfl,hm⟩|⟨fr,rfl,g4,hm⟩)
   ·refine gS1 @Tryz.results45 ?_
    rw [decide_eq_true hm]
   ·refine gS1 (aI @Tryz.results45 @g4) ?_
    rw [decide_eq_false hm]
 ·have hd:decide ((vs.length:Int)=(vs'.length:Int))=false:=by simp;omega
  refine gS1 (aI @hd @Tryz.results45) ?_
  rw [decide_eq_false (fun h=>hlen (by rw [h]))]
theorem eqf_ok:∀ (n:Nat){Z:St}{ra rb:List Value}{a b:Ex},SizeOf.sizeOf a<n->ExAt Z ra a->ExAt Z rb b->Ev (go Tryz.prog HS (.fn 47) [.agg ⟨ra⟩,.agg ⟨rb⟩] Z) (fun r=>∃ Z',r=⟨false,.bool (exEqb a b),Z'⟩/\Ext Z Z') ⟨⟩:=by
 intro n
 induction n with
 | zero=>intro Z ra rb a b h;omega
 | succ n ih =>
   rintro Z ra rb ⟨o,nu,de,nm,es⟩ ⟨o',nu',de',nm',es'⟩ hsz ⟨v,rows,rfl,h2,h4,h3⟩ ⟨v',rows',rfl,h2',h4',h3'⟩
   have e0:exEqb (.mk o nu de nm es) (.mk o' nu' de' nm' es')=(decide (o=o')&&(decide (nu=nu')&&decide (de=de'))&&decide (nm=nm')&&exsEqb es es'):=by unfold exEqb;rfl
   obtain ⟨sa,sc,sb,so,scs,rfl,-,-⟩:=ExsAt.slice h2 h3
   obtain ⟨sa',sc',sb',so',scs',rfl,-,-⟩:=ExsAt.slice h2' h3'
   refine ev_go Tryz.func47 rfl rfl ?_
   rw [e0]
   cases hd1:decide (o=o') with
   | false=>simp (maxSteps:=8000000) (disch:=first|exact dS|fail) only [↓bD,bW,reduceMul,reduceEqDiff,reduceAdd,Nat.reduceBEq,reduceIte,Option.isNone_none,b2_rat.1,b2_rat.2,hd1,yu_t,yu_f,Bool.false_and,Tryz.results47];exact ⟨_,rfl,eX⟩
   | true =>
   cases hd2:(decide (nu=nu')&&decide (de=de')) with
   | false=>simp (maxSteps:=8000000) (disch:=first|exact dS|fail) only [↓bD,bW,reduceMul,reduceEqDiff,reduceAdd,Nat.reduceBEq,reduceIte,Option.isNone_none,b2_rat.1,b2_rat.2,hd1,hd2,yu_t,yu_f,Bool.false_and,Bool.true_and,Tryz.results47];exact ⟨_,rfl,eX⟩
   | true =>
   cases hd3:decide (nm=nm') with
   | false=>simp (maxSteps:=8000000) (disch:=first|exact dS|fail) only [↓bD,bW,reduceMul,reduceEqDiff,reduceAdd,Nat.reduceBEq,reduceIte,Option.isNone_none,b2_rat.1,b2_rat.2,hd1,hd2,hd3,yu_t,yu_f,Bool.false_and,Bool.true_and,Tryz.results47];exact ⟨_,rfl,eX⟩
   | true =>
     simp (maxSteps:=8000000) (disch:=first|exact dS|fail) only [↓bD,bW,reduceMul,reduceEqDiff,reduceAdd,Nat.reduceBEq,reduceIte,Option.isNone_none,b2_rat.1,b2_rat.2,hd1,hd2,hd3,yu_t,yu_f,Bool.false_and,Bool.true_and]
     refine (eqfx_ok (h2.mono (eX)) (ExsAt.mono (eX) h3) (h2'.mono (eX)) (ExsAt.mono (eX) h3') h4 h4' fun a b ha ra rb Z' hE hra hrb=>ih ?_ hra hrb).mono ?_
     ·have h5:=List.sizeOf_lt_of_mem ha
      simp at hsz
      omega
     rintro r ⟨Z2,rfl,hE2⟩
     refine gS1 (aI @yu_t (aI @yu_f @Tryz.results47)) ?_
     exact ⟨_,rfl,Ext.trans (eX) hE2⟩
mutual
theorem exEqb_eq:∀ {a b:Ex},exEqb a b=true->a=b
 | .mk o n d nm es,.mk o' n' d' nm' es',h=>by
   unfold exEqb at h
   simp only [Bool.and_eq_true,decide_eq_true_eq] at h
   obtain ⟨⟨⟨h1,h2,h3⟩,h4⟩,h5⟩:=h
   rw [h1,h2,h3,h4,exsEqb_eq h5]
theorem exsEqb_eq:∀ {a b:List Ex},exsEqb a b=true->a=b
 | [],[],_=>rfl
 | a::l,b::k,h=>by
   unfold exsEqb at h
   rw [Bool.and_eq_true] at h
   rw [exEqb_eq h.1,exsEqb_eq h.2]
 | [],_::_,h=>by unfold exsEqb at h;cases h
 | _::_,[],h=>by unfold exsEqb at h;cases h
end
def tnEqb (T U:Tn):Bool:=decide (T.name=U.name)&&(decide (T.low=U.low)&&(decide (T.high=U.high)&&(decide (T.most=U.most)&&(decide (T.budget=U.budget)&&(decide (T.t=U.t)&&(decide (T.lots=U.lots)&&(decide (T.crits=U.crits)&&(decide (T.reqs=U.reqs)&&(decide (T.ties=U.ties)&&(decide (T.combos=U.combos)&&exEqb T.f U.f))))))))))
theorem tnEqb_self (T:Tn):tnEqb T T=true:=by unfold tnEqb;rw [exEqb_refl];simp
structure Cap (T:Tn):Prop where
 lots:T.lots.length<=100
 crits:T.crits.length<=100
 reqs:T.reqs.length<=100
 ties:T.ties.length<=100
 combos:T.combos.length<=100
 combo:∀ c∈T.combos,c.length<=100
theorem RightT.cap {T:Tn}(h:RightT T):Cap T:=⟨by have:=h.lots;omega,by have:=h.crits;omega,by have:=h.reqs;omega,by have:=h.ties;omega,by have:=h.combos;omega,fun c hc=>by have:=(h.combo c hc).2.1;omega⟩
set_option maxHeartbeats 16000000 in
theorem textequal_ok {Z:St}{ca cb:List Value}{T U:Tn}(hT:TnAt Z ca T) (hU:TnAt Z cb U) (cT:Cap T) (cU:Cap U):Ev (go Tryz.prog HS (.fn 19) [.agg ⟨ca⟩,.agg ⟨cb⟩] Z) (fun r=>∃ Z',r=⟨false,.bool (tnEqb T U),Z'⟩/\Ext Z Z') ⟨⟩:=by
 obtain ⟨vl,vc,vr,ex,vt,vk,hp,h2,h3,h4,h5,h6,h7⟩:=hT.parts
 obtain ⟨ul,uc,ur,ey,ut,uk,hq,k2,k3,k4,k5,k6,k7⟩:=hU.parts
 have E0:Ext Z ((Z.new ca).new cb):=eX
 have tq:∀ (t:Tim),[Value.int .i64 t.q,.int .i64 t.b,.int .i64 t.g,.int .i64 t.p,.int .i64 t.s]=t.row:=fun _=>rfl
 have p15:=hp.p15
 have q15:=hq.p15
 rw [tq] at p15 q15
 have hz:=And.intro hp.all (And.intro hq.all (And.intro hp.p0 (And.intro hq.p0 (And.intro hp.p4 (And.intro hq.p4 (And.intro hp.p5 (And.intro hq.p5 (And.intro hp.p12 (And.intro hq.p12 (And.intro hp.p14 (And.intro hq.p14 (And.intro p15 (And.intro q15 (And.intro hp.p1 (And.intro hq.p1 (And.intro hp.p2 (And.intro hq.p2 (And.intro hp.p3 (And.intro hq.p3 (And.intro hp.p11 (And.intro hq.p11 (And.intro hp.p13 (And.intro hq.p13 (And.intro hp.p6 (And.intro hq.p6 (And.intro yu_t (yu_f)))))))))))))))))))))))))))
 refine ev_go Tryz.func19 rfl rfl ?_
 simp only [List.append_eq,List.cons_append,List.nil_append]
 unfold tnEqb
 cases d1:decide (T.name=U.name) with
 | false=>simp (maxSteps:=8000000) (disch:=first|exact dS|fail) only [↓bD,bW,reduceMul,reduceEqDiff,reduceAdd,Nat.reduceBEq,reduceIte,Option.isNone_none,hz,b2_tim.1,d1,Bool.false_and,Bool.true_and,Tryz.results19];exact ⟨_,rfl,eX⟩
 | true =>
 cases d2:decide (T.low=U.low) with
 | false=>simp (maxSteps:=8000000) (disch:=first|exact dS|fail) only [↓bD,bW,reduceMul,reduceEqDiff,reduceAdd,Nat.reduceBEq,reduceIte,Option.isNone_none,hz,b2_tim.1,d1,d2,Bool.false_and,Bool.true_and,Tryz.results19];exact ⟨_,rfl,eX⟩
 | true =>
 cases d3:decide (T.high=U.high) with
 | false=>simp (maxSteps:=8000000) (disch:=first|exact dS|fail) only [↓bD,bW,reduceMul,reduceEqDiff,reduceAdd,Nat.reduceBEq,reduceIte,Option.isNone_none,hz,b2_tim.1,d1,d2,d3,Bool.false_and,Bool.true_and,Tryz.results19];exact ⟨_,rfl,eX⟩
 | true =>
 cases d4:decide (T.most=U.most) with
 | false=>simp (maxSteps:=8000000) (disch:=first|exact dS|fail) only [↓bD,bW,reduceMul,reduceEqDiff,reduceAdd,Nat.reduceBEq,reduceIte,Option.isNone_none,hz,b2_tim.1,d1,d2,d3,d4,Bool.false_and,Bool.true_and,Tryz.results19];exact ⟨_,rfl,eX⟩
 | true =>
 cases d5:decide (T.budget=U.budget) with
 | false=>simp (maxSteps:=8000000) (disch:=first|exact dS|fail) only [↓bD,bW,reduceMul,reduceEqDiff,reduceAdd,Nat.reduceBEq,reduceIte,Option.isNone_none,hz,b2_tim.1,d1,d2,d3,d4,d5,Bool.false_and,Bool.true_and,Tryz.results19];exact ⟨_,rfl,eX⟩
 | true =>
 cases d6:decide (T.t=U.t) with
 | false=>simp (maxSteps:=8000000) (disch:=first|exact dS|fail) only [↓bD,bW,reduceMul,reduceEqDiff,reduceAdd,Nat.reduceBEq,reduceIte,Option.isNone_none,hz,b2_tim.1,d1,d2,d3,d4,d5,d6,Bool.false_and,Bool.true_and,Tryz.results19];exact ⟨_,rfl,eX⟩
 | true =>
 simp (maxSteps:=8000000) (disch:=first|exact dS|fail) only [↓bD,bW,reduceMul,reduceEqDiff,reduceAdd,Nat.reduceBEq,reduceIte,Option.isNone_none,hz,b2_tim.1,d1,d2,d3,d4,d5,d6,Bool.false_and,Bool.true_and]
 refine (sliceseq_lot_ok (h2.mono E0) (k2.mono E0) cT.lots cU.lots).mono ?_
 rintro r rfl
 cases d7:decide (T.lots=U.lots) with
 | false=>simp (maxSteps:=8000000) (disch:=first|exact dS|fail) only [↓bD,bW,reduceMul,reduceEqDiff,reduceAdd,Nat.reduceBEq,reduceIte,Option.isNone_none,hz,b2_tim.1,Bool.false_and,Bool.true_and,Tryz.results19];exact ⟨_,rfl,eX⟩
 | true =>
 simp (maxSteps:=8000000) (disch:=first|exact dS|fail) only [↓bD,bW,reduceMul,reduceEqDiff,reduceAdd,Nat.reduceBEq,reduceIte,Option.isNone_none,hz,b2_tim.1,Bool.false_and,Bool.true_and]
 refine (sliceseq_crit_ok (h3.mono E0) (k3.mono E0) cT.crits cU.crits).mono ?_
 rintro r rfl
 cases d8:decide (T.crits=U.crits) with
 | false=>simp (maxSteps:=8000000) (disch:=first|exact dS|fail) only [↓bD,bW,reduceMul,reduceEqDiff,reduceAdd,Nat.reduceBEq,reduceIte,Option.isNone_none,hz,b2_tim.1,Bool.false_and,Bool.true_and,Tryz.results19];exact ⟨_,rfl,eX⟩
 | true =>
 simp (maxSteps:=8000000) (disch:=first|exact dS|fail) only [↓bD,bW,reduceMul,reduceEqDiff,reduceAdd,Nat.reduceBEq,reduceIte,Option.isNone_none,hz,b2_tim.1,Bool.false_and,Bool.true_and]
 refine (sliceseq_req_ok (h4.mono E0) (k4.mono E0) cT.reqs cU.reqs).mono ?_
 rintro r rfl
 cases d9:decide (T.reqs=U.reqs) with
 | false=>simp (maxSteps:=8000000) (disch:=first|exact dS|fail) only [↓bD,bW,reduceMul,reduceEqDiff,reduceAdd,Nat.reduceBEq,reduceIte,Option.isNone_none,hz,b2_tim.1,Bool.false_and,Bool.true_and,Tryz.results19];exact ⟨_,rfl,eX⟩
 | true =>
 simp (maxSteps:=8000000) (disch:=first|exact dS|fail) only [↓bD,bW,reduceMul,reduceEqDiff,reduceAdd,Nat.reduceBEq,reduceIte,Option.isNone_none,hz,b2_tim.1,Bool.false_and,Bool.true_and]
 refine (sliceseq_str_ok (h6.mono E0) (k6.mono E0) cT.ties cU.ties).mono ?_
 rintro r rfl
 cases d10:decide (T.ties=U.ties) with
 | false=>simp (maxSteps:=8000000) (disch:=first|exact dS|fail) only [↓bD,bW,reduceMul,reduceEqDiff,reduceAdd,Nat.reduceBEq,reduceIte,Option.isNone_none,hz,b2_tim.1,Bool.false_and,Bool.true_and,Tryz.results19];exact ⟨_,rfl,eX⟩
 | true =>
 simp (maxSteps:=8000000) (disch:=first|exact dS|fail) only [↓bD,bW,reduceMul,reduceEqDiff,reduceAdd,Nat.reduceBEq,reduceIte,Option.isNone_none,hz,b2_tim.1,Bool.false_and,Bool.true_and]
 refine (eqcombos2_ok (h7.mono E0) (k7.mono E0) cT.combos cU.combos cT.combo cU.combo).mono ?_
 rintro r rfl
 cases d11:decide (T.combos=U.combos) with
 | false=>simp (maxSteps:=8000000) (disch:=first|exact dS|fail) only [↓bD,bW,reduceMul,reduceEqDiff,reduceAdd,Nat.reduceBEq,reduceIte,Option.isNone_none,hz,b2_tim.1,Bool.false_and,Bool.true_and,Tryz.results19];exact ⟨_,rfl,eX⟩
 | true =>
 simp (maxSteps:=8000000) (disch:=first|exact dS|fail) only [↓bD,bW,reduceMul,reduceEqDiff,reduceAdd,Nat.reduceBEq,reduceIte,Option.isNone_none,hz,b2_tim.1,Bool.false_and,Bool.true_and]
 refine (eqf_ok _ (Nat.lt_succ_self _) (h5.mono E0) (k5.mono E0)).mono ?_
 rintro r ⟨Z2,rfl,hE2⟩
 refine gS1 (aI @yu_t (aI @yu_f @Tryz.results19)) ?_
 exact ⟨_,rfl,E0.trans hE2⟩
end Go.Proofs.T
