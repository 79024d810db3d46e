/- The reference's checks of a tender's lists: right ones are found right. -/
import Derived.Test.YtbcanmagihejhaaGreatDoorRB
import Derived.Test.YtbcanmagihejhaaGreatDoorPA
import Derived.Test.YtbcanmagihejhaaGreatDoorAbD
import Derived.Test.YtbcanmagihejhaaGreatDoorTA
import Derived.Test.YtbcanmagihejhaaGreatDoorProg
import Derived.KernelRfl
set_option linter.unusedSimpArgs false
set_option linter.unusedVariables false
namespace Go.Proofs.T
open Go Go.Ab
open Nat (reduceMul reduceEqDiff reduceAdd)
set_option maxRecDepth 100000
theorem rsmall_ok {Z:St}{n m:Int}(h1:m<=n) (h2:n<=1000000000):Ev (go Tryz.prog HS (.fn 59) [.int .i64 n,.int .i64 m] Z) (fun r=>r=⟨false,.bool true,Z⟩) ⟨⟩:=by
 have c1:decide (n<m)=false:=decide_eq_false om
 have c2:decide (1000000000<n)=false:=decide_eq_false om
 refine ev_go Tryz.func59 rfl rfl ?_
 refine gS1 (aI @c1 (aI @c2 (aI @yu_t (aI @yu_f @Tryz.results59)))) ?_;try exact ⟨⟩
structure Parts (Z:St) (ca:List Value) (T:Tn) (vl vc vr:Value) (ex:List Value) (vt vk:Value):Prop where
 all:sub ca 0 20=some ca
 p0:sub ca 0 1=some [str T.name]
 p1:sub ca 1 1=some [vl]
 p2:sub ca 2 1=some [vc]
 p3:sub ca 3 1=some [vr]
 p4:sub ca 4 1=some [.int .i64 T.low]
 p5:sub ca 5 1=some [.int .i64 T.high]
 p6:sub ca 6 5=some ex
 p11:sub ca 11 1=some [vt]
 p12:sub ca 12 1=some [.int .i64 T.most]
 p13:sub ca 13 1=some [vk]
 p14:sub ca 14 1=some [.int .i64 T.budget]
 p15:sub ca 15 5=some [.int .i64 T.t.q,.int .i64 T.t.b,.int .i64 T.t.g,.int .i64 T.t.p,.int .i64 T.t.s]
 q15:sub ca 15 1=some [.int .i64 T.t.q]
 q16:sub ca 16 1=some [.int .i64 T.t.b]
 q17:sub ca 17 1=some [.int .i64 T.t.g]
 q18:sub ca 18 1=some [.int .i64 T.t.p]
 q19:sub ca 19 1=some [.int .i64 T.t.s]
theorem TnAt.parts {Z:St}{ca:List Value}{T:Tn}(h:TnAt Z ca T):∃ vl vc vr ex vt vk,Parts Z ca T vl vc vr ex vt vk/\Lots Z vl T.lots/\Crits Z vc T.crits/\Reqs Z vr T.reqs/\ExAt Z ex T.f/\Strs Z vt T.ties/\Combos Z vk T.combos:=by
 obtain ⟨vl,vc,vr,ex,vt,vk,rfl,h2,h3,h4,h5,h6,h7⟩:=h
 have hx:=h5.len
 match ex,hx with
 | [x0,x1,x2,x3,x4],_ =>
 exact ⟨vl,vc,vr,_,vt,vk,⟨rfl,rfl,rfl,rfl,rfl,rfl,rfl,rfl,rfl,rfl,rfl,rfl,rfl,rfl,rfl,rfl,rfl,rfl⟩,h2,h3,h4,h5,h6,h7⟩
theorem rword_eq {s:By}(h:wordB s=true):rwordB s=true:=by
 unfold wordB at h
 rw [Bool.and_eq_true] at h
 unfold rwordB
 rw [rname_eq,h.1]
 have:=h.2
 unfold words4 at this
 simp at this
 obtain ⟨h1,h2,h3,h4⟩:=this
 simp [h1,h2,h3,h4]
theorem nodup_ne {α:Type}{l:List α}(h:l.Nodup){i j:Nat}{a b:α}(hij:i<j) (ha:l[i]? =some a) (hb:l[j]? =some b):a≠b:=by
 obtain ⟨h1,rfl⟩:=List.getElem?_eq_some_iff.1 ha
 obtain ⟨h2,rfl⟩:=List.getElem?_eq_some_iff.1 hb
 exact List.pairwise_iff_getElem.1 h i j h1 h2 hij
set_option maxHeartbeats 8000000 in
theorem rlisted_ok {Z:St}{ca:List Value}{T:Tn}(hT:TnAt Z ca T) (hr:RightT T):Ev (go Tryz.prog HS (.fn 58) [.agg ⟨ca⟩] Z) (fun r=>∃ Z',r=⟨false,.bool true,Z'⟩/\Ext Z Z') ⟨⟩:=by
 obtain ⟨vl,vc,vr,ex,vt,vk,hp,h2,h3,h4,h5,h6,vs,h7,h8⟩:=hT.parts
 obtain ⟨la,lc,lb,lo,lcs,rfl,l1,l2⟩:=h2.use
 obtain ⟨ca',cc,cb,co,ccs,rfl,c1,c2⟩:=h3.use
 obtain ⟨ra,rc,rb,ro,rcs,rfl,r1,r2⟩:=h4.use
 obtain ⟨ta,tc,tb,to',tcs,rfl,t1,t2⟩:=h6.use
 obtain ⟨ka,kc,kb,ko,kcs,rfl,k1,k2⟩:=SL.use' h7
 have hfa:=hp.all
 have L0:=List.length_pos_iff.2 hr.lot0
 have L1:=hr.lots
 have L2:=hr.crits
 have L3:=hr.reqs
 have L4:=hr.ties
 have L5:=hr.combos
 have L6:=h8.len
 have s1:=hp.p1
 have s2:=hp.p2
 have s3:=hp.p3
 have s7:=hp.p11
 have s9:=hp.p13
 refine ev_go Tryz.func58 rfl rfl ?_
 refine gS1 (aI @hfa @s1) ?_
 have E0:Ext Z (Z.new ca):=eX
 have z1:decide ((T.lots.length:Int)<1)=false:=decide_eq_false om
 have z2:decide (12<(T.lots.length:Int))=false:=decide_eq_false om
 have z3:decide (12<(T.crits.length:Int))=false:=decide_eq_false om
 have z4:decide (24<(T.reqs.length:Int))=false:=decide_eq_false om
 have z5:decide (12<(T.ties.length:Int))=false:=decide_eq_false om
 have z6:decide (12<(vs.length:Int))=false:=decide_eq_false om
 refine gS1 (aI @z1 (aI @z2 (aI @z3 (aI @z4 (aI @z5 (aI @z6 (aI @s1 (aI @s2 (aI @s3 (aI @s7 (aI @s9 (aI @yu_t @yu_f)))))))))))) ?_
 clear z1 z2 z3 z4 z5 z6
 refine ev_count T.lots.length (fun k fr Z'=>fr.get 4=some (.int .i64 k)/\fr.get 1=some (.pointer (some ⟨Z.n,0,none⟩))/\fr.get 3=some (.bool true)/\Ext (Z.new ca) Z')
  (fun r=>∃ fr Z',r=⟨.exit 0,fr,Z'⟩/\fr.get 1=some (.pointer (some ⟨Z.n,0,none⟩))/\fr.get 3=some (.bool true)/\Ext (Z.new ca) Z') ?_ ?_ ?_ ?_
 ·exact ⟨fR,fR,fR,.refl _⟩
 ·rintro k fr Z' hk ⟨g4,g1,g3,hE⟩
  have hc:=lt_true hk
  have w1:Z'.row Z.n=some ca:=by rw [hE.row (by simp)];exact cL
  have hE0:Ext Z Z':=E0.trans hE
  obtain ⟨x,hx⟩:=at_some hk
  obtain ⟨sp,rfl,l3,l4⟩:=l1 om
  have w2:Z'.row lb=some lcs:=by rw [hE0.row l3];exact l4
  obtain ⟨-,m1,m2⟩:=l2 k x hx
  obtain ⟨y1,y2,y3⟩:=hr.lot x (List.mem_of_getElem? hx)
  obtain ⟨S,hS⟩:∃ S,Z'=S:=⟨_,rfl⟩
  rw [hS] at w1 w2 hE hE0 ⊢
  refine gS1 (aI @g4 (aI @g1 (aI @g3 (aI @hc (aI @w1 (aI @s1 (aI @w2 (aI @m1 (aI @yu_t @yu_f))))))))) ?_
  refine (rsmall_ok y1 y2).mono ?_
  rintro r rfl
  refine gS1 (aI @g4 (aI @g1 (aI @g3 (aI @w1 (aI @s1 (aI @w2 (aI @m1 (aI @m2 (aI @yu_t @yu_f))))))))) ?_
  refine (rsmall_ok y3.1 y3.2).mono ?_
  rintro r rfl
  refine gS1 (aI @g4 (aI @g1 (aI @g3 (aI @w1 (aI @s1 (aI @w2 (aI @m1 (aI @yu_t @yu_f)))))))) ?_
  refine ev_count k (fun j fr τ=>fr.get 5=some (.int .i64 j)/\fr.get 4=some (.int .i64 k)/\fr.get 1=some (.pointer (some ⟨Z.n,0,none⟩))/\fr.get 3=some (.bool true)/\τ=S)
   (fun r=>∃ fr,r=⟨.exit 2,fr,S⟩/\fr.get 4=some (.int .i64 k)/\fr.get 1=some (.pointer (some ⟨Z.n,0,none⟩))/\fr.get 3=some (.bool true)) ?_ ?_ ?_ ?_
  ·exact ⟨fR,fR1 g4,fR1 g1,fR1 g3,rfl⟩
  ·rintro j fr τ hj ⟨h5,h4,g1,g3,rfl⟩
   have hc:=lt_true hj
   obtain ⟨y,hy⟩:=at_some (show j<T.lots.length by omega)
   obtain ⟨-,n1,-⟩:=l2 j y hy
   have dn:decide (y.id=x.id)=false:=decide_eq_false (nodup_ne hr.ids hj (by rw [List.getElem?_map,hy];rfl) (by rw [List.getElem?_map,hx];rfl))
   refine gS1 (aI @h5 (aI @h4 (aI @g1 (aI @g3 (aI @hc (aI @w1 (aI @s1 (aI @w2 (aI @m1 (aI @n1 (aI @dn (aI @yu_t @yu_f)))))))))))) ?_
   exact ⟨fR,fR1 h4,fR1 g1,fR,by trivial⟩
  ·rintro fr τ ⟨h5,h4,g1,g3,rfl⟩
   refine gS1 (aI @h5 @h4) ?_
   exact ⟨_,rfl,fR1 h4,fR1 g1,fR1 g3⟩
  rintro r ⟨fr,rfl,g4,g1,g3⟩
  refine gS1 (aI @g4 @g1) ?_
  exact ⟨fR,fR1 g1,fR1 g3,hE⟩
 ·rintro fr Z' ⟨g4,g1,g3,hE⟩
  have w1:Z'.row Z.n=some ca:=by rw [hE.row (by simp)];exact cL
  refine gS1 (aI @g4 (aI @g1 (aI @w1 @s1))) ?_
  exact ⟨_,_,rfl,fR1 g1,fR1 g3,hE⟩
 rintro r ⟨fr,Z',rfl,g1,g3,hE⟩
 refine gS ?_
 refine ev_count T.crits.length (fun k fr Z'=>fr.get 6=some (.int .i64 k)/\fr.get 1=some (.pointer (some ⟨Z.n,0,none⟩))/\fr.get 3=some (.bool true)/\Ext (Z.new ca) Z')
  (fun r=>∃ fr Z',r=⟨.exit 4,fr,Z'⟩/\fr.get 1=some (.pointer (some ⟨Z.n,0,none⟩))/\fr.get 3=some (.bool true)/\Ext (Z.new ca) Z') ?_ ?_ ?_ ?_
 ·exact ⟨fR,fR1 g1,fR1 g3,hE⟩
 ·clear g1 g3 hE fr
  rintro k fr Z' hk ⟨g4,g1,g3,hE⟩
  have hc:=lt_true hk
  have w1:Z'.row Z.n=some ca:=by rw [hE.row (by simp)];exact cL
  have hEn:=hE.n
  simp only [new_n] at hEn
  have hE0:Ext Z Z':=E0.trans hE
  obtain ⟨x,hx⟩:=at_some hk
  obtain ⟨sp,rfl,l3,l4⟩:=c1 om
  have w2:Z'.row cb=some ccs:=by rw [hE0.row l3];exact l4
  obtain ⟨m0,m1,-⟩:=c2 k x hx
  obtain ⟨y1,y2,y3,y4⟩:=hr.crit x (List.mem_of_getElem? hx)
  unfold Crit.row at m0
  refine gS1 (aI @g4 (aI @g1 (aI @g3 (aI @hc (aI @w1 (aI @s2 (aI @w2 @m0))))))) ?_
  obtain ⟨S,hS⟩:∃ S,((Z'.new [str [],.int .i64 0,.int .i64 0,.int .i64 0,.bool false] (some 80)).upd Z'.n [str x.name,.int .i64 x.kind,.int .i64 x.low,.int .i64 x.high,.bool x.less])=S:=⟨_,rfl⟩
  rw [hS]
  have E1:Ext Z' S:=by rw [<- hS];exact eX
  have wS:S.row Z'.n=some [str x.name,.int .i64 x.kind,.int .i64 x.low,.int .i64 x.high,.bool x.less]:=by rw [<- hS];exact cL
  have w1:S.row Z.n=some ca:=by rw [E1.row om];exact w1
  have w2:S.row cb=some ccs:=by rw [E1.row om];exact w2
  refine risword_ok.mono ?_
  rintro r rfl
  have q1:=rword_eq y1
  refine gS1 (aI @q1 (aI @wS (aI @yu_t @yu_f))) ?_
  refine (rsmall_ok y3.1 y3.2).mono ?_
  rintro r rfl
  refine gS1 (aI @wS (aI @yu_t @yu_f)) ?_
  refine (rsmall_ok y4.1 y4.2).mono ?_
  rintro r rfl
  have q2:∀ b,decide (x.kind=1)=b->(b=true\/decide (x.kind=2)=true):=by
   intro b hb
   rcases y2 with h|h
   ·left;rw [<- hb,h];rfl
   ·right;rw [h];rfl
  have step:∀ fr:Fr,fr.get 8=some (.int .i64 (0:Nat))->True:=fun _ _=>trivial
  clear step
  cases q3:decide (x.kind=1) with
  | true =>
    refine gS1 (aI @wS (aI @yu_t (aI @yu_f @q3))) ?_
    refine ev_count k (fun j fr τ=>fr.get 8=some (.int .i64 j)/\fr.get 6=some (.int .i64 k)/\fr.get 1=some (.pointer (some ⟨Z.n,0,none⟩))/\fr.get 7=some (.pointer (some ⟨Z'.n,0,none⟩))/\fr.get 3=some (.bool true)/\τ=S)
     (fun r=>∃ fr,r=⟨.exit 6,fr,S⟩/\fr.get 6=some (.int .i64 k)/\fr.get 1=some (.pointer (some ⟨Z.n,0,none⟩))/\fr.get 7=some (.pointer (some ⟨Z'.n,0,none⟩))/\fr.get 3=some (.bool true)) ?_ ?_ ?_ ?_
    ·exact ⟨fR,fR1 g4,fR1 g1,fR,fR,rfl⟩
    ·rintro j fr τ hj ⟨h5,h4,g1,g7,g3,rfl⟩
     have hc:=lt_true hj
     obtain ⟨y,hy⟩:=at_some (show j<T.crits.length by omega)
     obtain ⟨-,n1,-⟩:=c2 j y hy
     have dn:decide (y.name=x.name)=false:=decide_eq_false (nodup_ne hr.crs hj (by rw [List.getElem?_map,hy];rfl) (by rw [List.getElem?_map,hx];rfl))
     refine gS1 (aI @h5 (aI @h4 (aI @g1 (aI @g3 (aI @hc (aI @w1 (aI @g7 (aI @s2 (aI @w2 (aI @n1 (aI @wS (aI @dn (aI @yu_t @yu_f))))))))))))) ?_
     exact ⟨fR,fR1 h4,fR1 g1,fR1 g7,fR,by trivial⟩
    ·rintro fr τ ⟨h5,h4,g1,g7,g3,rfl⟩
     refine gS1 (aI @h5 @h4) ?_
     exact ⟨_,rfl,fR1 h4,fR1 g1,fR1 g7,fR1 g3⟩
    rintro r ⟨fr,rfl,g4,g1,g7,g3⟩
    refine gS1 (aI @g4 @g1) ?_
    exact ⟨fR,fR1 g1,fR1 g3,hE.trans E1⟩
  | false =>
    have q4:decide (x.kind=2)=true:=(q2 _ q3).resolve_left (by simp)
    refine gS1 (aI @wS (aI @yu_t (aI @yu_f (aI @q3 @q4)))) ?_
    refine ev_count k (fun j fr τ=>fr.get 8=some (.int .i64 j)/\fr.get 6=some (.int .i64 k)/\fr.get 1=some (.pointer (some ⟨Z.n,0,none⟩))/\fr.get 7=some (.pointer (some ⟨Z'.n,0,none⟩))/\fr.get 3=some (.bool true)/\τ=S)
     (fun r=>∃ fr,r=⟨.exit 6,fr,S⟩/\fr.get 6=some (.int .i64 k)/\fr.get 1=some (.pointer (some ⟨Z.n,0,none⟩))/\fr.get 7=some (.pointer (some ⟨Z'.n,0,none⟩))/\fr.get 3=some (.bool true)) ?_ ?_ ?_ ?_
    ·exact ⟨fR,fR1 g4,fR1 g1,fR,fR,rfl⟩
    ·rintro j fr τ hj ⟨h5,h4,g1,g7,g3,rfl⟩
     have hc:=lt_true hj
     obtain ⟨y,hy⟩:=at_some (show j<T.crits.length by omega)
     obtain ⟨-,n1,-⟩:=c2 j y hy
     have dn:decide (y.name=x.name)=false:=decide_eq_false (nodup_ne hr.crs hj (by rw [List.getElem?_map,hy];rfl) (by rw [List.getElem?_map,hx];rfl))
     refine gS1 (aI @h5 (aI @h4 (aI @g1 (aI @g3 (aI @hc (aI @w1 (aI @g7 (aI @s2 (aI @w2 (aI @n1 (aI @wS (aI @dn (aI @yu_t @yu_f))))))))))))) ?_
     exact ⟨fR,fR1 h4,fR1 g1,fR1 g7,fR,by trivial⟩
    ·rintro fr τ ⟨h5,h4,g1,g7,g3,rfl⟩
     refine gS1 (aI @h5 @h4) ?_
     exact ⟨_,rfl,fR1 h4,fR1 g1,fR1 g7,fR1 g3⟩
    rintro r ⟨fr,rfl,g4,g1,g7,g3⟩
    refine gS1 (aI @g4 @g1) ?_
    exact ⟨fR,fR1 g1,fR1 g3,hE.trans E1⟩
 ·rintro fr Z' ⟨g4,g1,g3,hE⟩
  have w1:Z'.row Z.n=some ca:=by rw [hE.row (by simp)];exact cL
  refine gS1 (aI @g4 (aI @g1 (aI @w1 @s2))) ?_
  exact ⟨_,_,rfl,fR1 g1,fR1 g3,hE⟩
 rintro r ⟨fr,Z',rfl,g1,g3,hE⟩
 refine gS ?_
 refine ev_count T.reqs.length (fun k fr Z'=>fr.get 9=some (.int .i64 k)/\fr.get 1=some (.pointer (some ⟨Z.n,0,none⟩))/\fr.get 3=some (.bool true)/\Ext (Z.new ca) Z')
  (fun r=>∃ fr Z',r=⟨.exit 8,fr,Z'⟩/\fr.get 1=some (.pointer (some ⟨Z.n,0,none⟩))/\fr.get 3=some (.bool true)/\Ext (Z.new ca) Z') ?_ ?_ ?_ ?_
 ·exact ⟨fR,fR1 g1,fR1 g3,hE⟩
 ·clear g1 g3 hE fr
  rintro k fr Z' hk ⟨g4,g1,g3,hE⟩
  have hc:=lt_true hk
  have w1:Z'.row Z.n=some ca:=by rw [hE.row (by simp)];exact cL
  have hEn:=hE.n
  simp only [new_n] at hEn
  have hE0:Ext Z Z':=E0.trans hE
  obtain ⟨x,hx⟩:=at_some hk
  obtain ⟨sp,rfl,l3,l4⟩:=r1 om
  have w2:Z'.row rb=some rcs:=by rw [hE0.row l3];exact l4
  obtain ⟨m0,m1,-⟩:=r2 k x hx
  obtain ⟨y1,y2,y3⟩:=hr.req x (List.mem_of_getElem? hx)
  unfold Req.row at m0
  refine gS1 (aI @g4 (aI @g1 (aI @g3 (aI @hc (aI @w1 (aI @s3 (aI @w2 @m0))))))) ?_
  obtain ⟨S,hS⟩:∃ S,((Z'.new [str [],str [],.int .i64 0] (some 82)).upd Z'.n [str x.name,str x.rel,.int .i64 x.value])=S:=⟨_,rfl⟩
  rw [hS]
  have E1:Ext Z' S:=by rw [<- hS];exact eX
  have wS:S.row Z'.n=some [str x.name,str x.rel,.int .i64 x.value]:=by rw [<- hS];exact cL
  refine risword_ok.mono ?_
  rintro r rfl
  have q1:=rword_eq y1
  refine gS1 (aI @q1 (aI @wS (aI @yu_t @yu_f))) ?_
  refine (rsmall_ok y3.1 y3.2).mono ?_
  rintro r rfl
  have q2:∀ b,decide (x.rel=[60,61])=b->(b=true\/decide (x.rel=[62,61])=true):=by
   intro b hb
   simp at y2
   rcases y2 with h|h
   ·left;rw [<- hb,h];rfl
   ·right;rw [h];rfl
  cases q3:decide (x.rel=[60,61]) with
  | true =>
    refine gS1 (aI @wS (aI @g4 (aI @yu_t (aI @yu_f @q3)))) ?_
    exact ⟨fR,fR1 g1,fR,hE.trans E1⟩
  | false =>
    have q4:decide (x.rel=[62,61])=true:=(q2 _ q3).resolve_left (by simp)
    refine gS1 (aI @wS (aI @g4 (aI @yu_t (aI @yu_f (aI @q3 @q4))))) ?_
    exact ⟨fR,fR1 g1,fR,hE.trans E1⟩
 ·rintro fr Z' ⟨g4,g1,g3,hE⟩
  have w1:Z'.row Z.n=some ca:=by rw [hE.row (by simp)];exact cL
  refine gS1 (aI @g4 (aI @g1 (aI @w1 @s3))) ?_
  exact ⟨_,_,rfl,fR1 g1,fR1 g3,hE⟩
 rintro r ⟨fr,Z',rfl,g1,g3,hE⟩
 refine gS ?_
 refine ev_count T.ties.length (fun k fr Z'=>fr.get 11=some (.int .i64 k)/\fr.get 1=some (.pointer (some ⟨Z.n,0,none⟩))/\fr.get 3=some (.bool true)/\Ext (Z.new ca) Z')
  (fun r=>∃ fr Z',r=⟨.exit 10,fr,Z'⟩/\fr.get 1=some (.pointer (some ⟨Z.n,0,none⟩))/\fr.get 3=some (.bool true)/\Ext (Z.new ca) Z') ?_ ?_ ?_ ?_
 ·exact ⟨fR,fR1 g1,fR1 g3,hE⟩
 ·clear g1 g3 hE fr
  rintro k fr Z' hk ⟨g4,g1,g3,hE⟩
  have hc:=lt_true hk
  have w1:Z'.row Z.n=some ca:=by rw [hE.row (by simp)];exact cL
  have hE0:Ext Z Z':=E0.trans hE
  obtain ⟨x,hx⟩:=at_some hk
  obtain ⟨sp,rfl,l3,l4⟩:=t1 om
  have w2:Z'.row tb=some tcs:=by rw [hE0.row l3];exact l4
  have m1:=t2 k x hx
  have y1:=hr.tie x (List.mem_of_getElem? hx)
  obtain ⟨S,hS⟩:∃ S,Z'=S:=⟨_,rfl⟩
  rw [hS] at w1 w2 hE hE0 ⊢
  have inner:∀ fr:Fr,fr.get 12=some (.int .i64 (0:Nat))->fr.get 11=some (.int .i64 k)->fr.get 1=some (.pointer (some ⟨Z.n,0,none⟩))->fr.get 3=some (.bool true)->True:=fun _ _ _ _ _=>trivial
  clear inner
  cases q2:decide (x=[112,114,105,99,101]) with
  | true =>
    refine gS1 (aI @g4 (aI @g1 (aI @g3 (aI @hc (aI @w1 (aI @s7 (aI @w2 (aI @m1 (aI @q2 (aI @yu_t @yu_f)))))))))) ?_
    refine ev_count k (fun j fr τ=>fr.get 12=some (.int .i64 j)/\fr.get 11=some (.int .i64 k)/\fr.get 1=some (.pointer (some ⟨Z.n,0,none⟩))/\fr.get 3=some (.bool true)/\τ=S)
     (fun r=>∃ fr,r=⟨.exit 12,fr,S⟩/\fr.get 11=some (.int .i64 k)/\fr.get 1=some (.pointer (some ⟨Z.n,0,none⟩))/\fr.get 3=some (.bool true)) ?_ ?_ ?_ ?_
    ·exact ⟨fR,fR1 g4,fR1 g1,fR,rfl⟩
    ·rintro j fr τ hj ⟨h5,h4,g1,g3,rfl⟩
     have hc:=lt_true hj
     obtain ⟨y,hy⟩:=at_some (show j<T.ties.length by omega)
     have n1:=t2 j y hy
     have dn:decide (y=x)=false:=decide_eq_false (nodup_ne hr.tnd hj hy hx)
     refine gS1 (aI @h5 (aI @h4 (aI @g1 (aI @g3 (aI @hc (aI @w1 (aI @s7 (aI @w2 (aI @n1 (aI @m1 (aI @dn (aI @yu_t @yu_f)))))))))))) ?_
     exact ⟨fR,fR1 h4,fR1 g1,fR,by trivial⟩
    ·rintro fr τ ⟨h5,h4,g1,g3,rfl⟩
     refine gS1 (aI @h5 @h4) ?_
     exact ⟨_,rfl,fR1 h4,fR1 g1,fR1 g3⟩
    rintro r ⟨fr,rfl,g4,g1,g3⟩
    refine gS1 (aI @g4 @g1) ?_
    exact ⟨fR,fR1 g1,fR1 g3,hE⟩
  | false =>
    refine gS1 (aI @g4 (aI @g1 (aI @g3 (aI @hc (aI @w1 (aI @s7 (aI @w2 (aI @m1 (aI @q2 (aI @yu_t @yu_f)))))))))) ?_
    refine risword_ok.mono ?_
    rintro r rfl
    have q5:=rword_eq (y1.resolve_left (of_decide_eq_false q2))
    refine gS1 (aI @q5 (aI @yu_t @yu_f)) ?_
    refine ev_count k (fun j fr τ=>fr.get 12=some (.int .i64 j)/\fr.get 11=some (.int .i64 k)/\fr.get 1=some (.pointer (some ⟨Z.n,0,none⟩))/\fr.get 3=some (.bool true)/\τ=S)
     (fun r=>∃ fr,r=⟨.exit 12,fr,S⟩/\fr.get 11=some (.int .i64 k)/\fr.get 1=some (.pointer (some ⟨Z.n,0,none⟩))/\fr.get 3=some (.bool true)) ?_ ?_ ?_ ?_
    ·exact ⟨fR,fR1 g4,fR1 g1,fR,rfl⟩
    ·rintro j fr τ hj ⟨h5,h4,g1,g3,rfl⟩
     have hc:=lt_true hj
     obtain ⟨y,hy⟩:=at_some (show j<T.ties.length by omega)
     have n1:=t2 j y hy
     have dn:decide (y=x)=false:=decide_eq_false (nodup_ne hr.tnd hj hy hx)
     refine gS1 (aI @h5 (aI @h4 (aI @g1 (aI @g3 (aI @hc (aI @w1 (aI @s7 (aI @w2 (aI @n1 (aI @m1 (aI @dn (aI @yu_t @yu_f)))))))))))) ?_
     exact ⟨fR,fR1 h4,fR1 g1,fR,by trivial⟩
    ·rintro fr τ ⟨h5,h4,g1,g3,rfl⟩
     refine gS1 (aI @h5 @h4) ?_
     exact ⟨_,rfl,fR1 h4,fR1 g1,fR1 g3⟩
    rintro r ⟨fr,rfl,g4,g1,g3⟩
    refine gS1 (aI @g4 @g1) ?_
    exact ⟨fR,fR1 g1,fR1 g3,hE⟩
 ·rintro fr Z' ⟨g4,g1,g3,hE⟩
  have w1:Z'.row Z.n=some ca:=by rw [hE.row (by simp)];exact cL
  refine gS1 (aI @g4 (aI @g1 (aI @w1 @s7))) ?_
  exact ⟨_,_,rfl,fR1 g1,fR1 g3,hE⟩
 rintro r ⟨fr,Z',rfl,g1,g3,hE⟩
 refine gS ?_
 refine ev_count vs.length (fun k fr Z'=>fr.get 13=some (.int .i64 k)/\fr.get 1=some (.pointer (some ⟨Z.n,0,none⟩))/\fr.get 3=some (.bool true)/\Ext (Z.new ca) Z')
  (fun r=>∃ fr Z',r=⟨.exit 14,fr,Z'⟩/\fr.get 1=some (.pointer (some ⟨Z.n,0,none⟩))/\fr.get 3=some (.bool true)/\Ext (Z.new ca) Z') ?_ ?_ ?_ ?_
 ·exact ⟨fR,fR1 g1,fR1 g3,hE⟩
 ·clear g1 g3 hE fr
  rintro k fr Z' hk ⟨g4,g1,g3,hE⟩
  have hc:=lt_true hk
  have w1:Z'.row Z.n=some ca:=by rw [hE.row (by simp)];exact cL
  have hE0:Ext Z Z':=E0.trans hE
  obtain ⟨x,hx⟩:=at_some hk
  obtain ⟨C,hC⟩:=at_some (show k<T.combos.length by omega)
  obtain ⟨ia,ic,ib,io,ics,rfl,i1,i2⟩:=(h8.get hx hC).use
  obtain ⟨y1,y2,y3,y4⟩:=hr.combo C (List.mem_of_getElem? hC)
  obtain ⟨sp,rfl,l3,l4⟩:=k1 om
  have w2:Z'.row kb=some kcs:=by rw [hE0.row l3];exact l4
  have m1:=k2 k _ hx
  rw [Nat.mul_one] at m1
  have q2:decide ((C.length:Int)<2)=false:=decide_eq_false om
  have q3:decide (12<(C.length:Int))=false:=decide_eq_false om
  obtain ⟨S,hS⟩:∃ S,Z'=S:=⟨_,rfl⟩
  rw [hS] at w1 w2 hE hE0 ⊢
  refine gS1 (aI @g4 (aI @g1 (aI @g3 (aI @hc (aI @w1 (aI @s9 (aI @w2 (aI @m1 (aI @q2 (aI @q3 (aI @yu_t @yu_f))))))))))) ?_
  refine ev_count C.length (fun i fr τ=>fr.get 15=some (.int .i64 i)/\fr.get 13=some (.int .i64 k)/\fr.get 1=some (.pointer (some ⟨Z.n,0,none⟩))/\fr.get 14=some (.slice ia C.length ic)/\fr.get 3=some (.bool true)/\τ=S)
   (fun r=>∃ fr,r=⟨.exit 16,fr,S⟩/\fr.get 13=some (.int .i64 k)/\fr.get 1=some (.pointer (some ⟨Z.n,0,none⟩))/\fr.get 3=some (.bool true)) ?_ ?_ ?_ ?_
  ·exact ⟨fR,fR1 g4,fR1 g1,fR,fR,rfl⟩
  ·clear g1 g3 g4 hc
   rintro i fr τ hi ⟨g15,g13,g1,g14,g3,rfl⟩
   have hc:=lt_true hi
   obtain ⟨y,hy⟩:=at_some hi
   obtain ⟨sp,rfl,l3,l4⟩:=i1 om
   have w3:τ.row ib=some ics:=by rw [hE0.row l3];exact l4
   have n1:=i2 i y hy
   have yy:=y4 y (List.mem_of_getElem? hy)
   obtain ⟨S,hS⟩:∃ S,τ=S:=⟨_,rfl⟩
   rw [hS] at w1 w2 w3 hE hE0 ⊢
   refine gS1 (aI @g15 (aI @g14 (aI @hc (aI @g3 (aI @w3 (aI @n1 (aI @yu_t @yu_f))))))) ?_
   refine (rsmall_ok yy.1 yy.2).mono ?_
   rintro r rfl
   refine gS1 (aI @g3 (aI @g15 (aI @yu_t @yu_f))) ?_
   refine ev_count i (fun j fr τ=>fr.get 16=some (.int .i64 j)/\fr.get 15=some (.int .i64 i)/\fr.get 13=some (.int .i64 k)/\fr.get 1=some (.pointer (some ⟨Z.n,0,none⟩))/\fr.get 14=some (.slice (some ⟨ib,io,sp⟩) C.length ic)/\fr.get 3=some (.bool true)/\τ=S)
    (fun r=>∃ fr,r=⟨.exit 18,fr,S⟩/\fr.get 15=some (.int .i64 i)/\fr.get 13=some (.int .i64 k)/\fr.get 1=some (.pointer (some ⟨Z.n,0,none⟩))/\fr.get 14=some (.slice (some ⟨ib,io,sp⟩) C.length ic)/\fr.get 3=some (.bool true)) ?_ ?_ ?_ ?_
   ·exact ⟨fR,fR1 g15,fR1 g13,fR1 g1,fR1 g14,fR,rfl⟩
   ·clear g15 g13 g1 g14 g3 hc
    rintro j fr τ hj ⟨g16,g15,g13,g1,g14,g3,rfl⟩
    have hc:=lt_true hj
    obtain ⟨z,hz⟩:=at_some (show j<C.length by omega)
    have n2:=i2 j z hz
    have dn:decide (z=y)=false:=decide_eq_false (nodup_ne y3 hj hz hy)
    refine gS1 (aI @g16 (aI @g15 (aI @g13 (aI @g1 (aI @g14 (aI @g3 (aI @hc (aI @w3 (aI @n1 (aI @n2 (aI @dn (aI @yu_t @yu_f)))))))))))) ?_
    exact ⟨fR,fR1 g15,fR1 g13,fR1 g1,fR1 g14,fR,by trivial⟩
   ·rintro fr τ ⟨g16,g15,g13,g1,g14,g3,rfl⟩
    refine gS1 (aI @g16 @g15) ?_
    exact ⟨_,rfl,fR1 g15,fR1 g13,fR1 g1,fR1 g14,fR1 g3⟩
   rintro r ⟨fr,rfl,g15,g13,g1,g14,g3⟩
   refine gS1 @g15 ?_
   exact ⟨fR,fR1 g13,fR1 g1,fR1 g14,fR1 g3,by trivial⟩
  ·rintro fr τ ⟨g15,g13,g1,g14,g3,rfl⟩
   refine gS1 (aI @g15 @g14) ?_
   exact ⟨_,rfl,fR1 g13,fR1 g1,fR1 g3⟩
  rintro r ⟨fr,rfl,g4,g1,g3⟩
  refine gS1 @g4 ?_
  exact ⟨fR,fR1 g1,fR1 g3,hE⟩
 ·rintro fr Z' ⟨g4,g1,g3,hE⟩
  have w1:Z'.row Z.n=some ca:=by rw [hE.row (by simp)];exact cL
  refine gS1 (aI @g4 (aI @g1 (aI @w1 @s9))) ?_
  exact ⟨_,_,rfl,fR1 g1,fR1 g3,hE⟩
 rintro r ⟨fr,Z',rfl,g1,g3,hE⟩
 refine gS1 (aI @g3 @Tryz.results58) ?_
 exact ⟨_,rfl,E0.trans hE⟩
end Go.Proofs.T
namespace Go.Proofs.T
open Go Go.Ab
open Nat (reduceMul reduceEqDiff reduceAdd)
set_option maxRecDepth 100000
def gl (l:Lot):By:=lineP (.lot l.id.toNat l.most.toNat)
def gc (c:Crit):By:=lineP (.crit c.name c.kind.toNat c.low.toNat c.high.toNat c.less)
def gr (r:Req):By:=lineP (.req r.name r.rel r.value.toNat)
def gk (c:List Int):By:=lineP (.combo (c.map Int.toNat))
def nl (l:By):By:=l++[10]
def B0 (T:Tn):By:=nl (lineP (.tender T.name))
def B1 (T:Tn):By:=B0 T++under (T.lots.map gl)
def B2 (T:Tn):By:=B1 T++under (T.crits.map gc)
def B3 (T:Tn):By:=B2 T++under (T.reqs.map gr)
def B4 (T:Tn):By:=B3 T++(nl (lineP (.price T.low.toNat T.high.toNat))++nl (lineP (.fml T.f)))
def B5 (T:Tn):By:=B4 T++(if T.ties=[] then [] else nl (lineP (.tie T.ties)))
def B6 (T:Tn):By:=B5 T++(if T.most=0 then [] else nl (lineP (.most T.most.toNat)))
def B7 (T:Tn):By:=B6 T++under (T.combos.map gk)
theorem under_take {α:Type}{l:List α}{g:α->By}{k:Nat}{x:α}(h:l[k]? =some x):under ((l.take (k+1)).map g)=under ((l.take k).map g)++(g x++[10]):=by
 rw [List.take_add_one,h]
 unfold under
 simp
theorem under_zero {α:Type}{l:List α}{g:α->By}:under ((l.take 0).map g)=[]:=rfl
theorem under_full {α:Type}{l:List α}{g:α->By}:under ((l.take l.length).map g)=under (l.map g):=by rw [List.take_length]
def blk (ws:List By):By:=(ws.map fun x=>32::x).flatten
theorem spJ_flat:∀ (ws:List By) (w:By),spJ (w::ws)=w++blk ws:=by
 intro ws
 induction ws with
 | nil=>intro w;simp [spJ,blk]
 | cons v ws ih =>
   intro w
   show w++32::spJ (v::ws)=_
   rw [ih];simp [blk]
theorem blk_take {l:List By}{k:Nat}{x:By}(h:l[k]? =some x):blk (l.take (k+1))=blk (l.take k)++32::x:=by
 rw [List.take_add_one,h]
 unfold blk
 simp
theorem blk_take_map {α:Type}{l:List α}{f:α->By}{k:Nat}{x:α}(h:l[k]? =some x):blk ((l.take (k+1)).map f)=blk ((l.take k).map f)++32::f x:=by
 rw [List.take_add_one,h]
 unfold blk
 simp
theorem print_B {T:Tn}:printT T=B7 T++(nl (lineP (.budget T.budget.toNat))++nl (lineP (.times T.t.q.toNat T.t.b.toNat T.t.g.toNat T.t.p.toNat T.t.s.toNat))):=by
 have e:∀ (p:Prop) [Decidable p] (m:LM),under ((if p then [] else [m]).map lineP)=if p then [] else nl (lineP m):=fun p _ m=>by split <;> simp [under,nl]
 have ua:∀ a b:List By,under (a++b)=under a++under b:=fun a b=>by unfold under;simp
 have uc:∀ (a:By) (b:List By),under (a::b)=nl a++under b:=fun a b=>by unfold under nl;simp
 have un:under []=[]:=rfl
 unfold printT lmOf B7 B6 B5 B4 B3 B2 B1 B0
 simp only [List.map_cons,List.map_append,List.map_map,List.map_nil,ua,uc,un,e,List.append_assoc,List.append_nil]
 rfl
theorem sm_len {n:Int}(h:0<=n/\n<1000000000):(dcN n.toNat).length<=9:=dcN_len9 om
theorem word_len {s:By}(h:wordB s=true):s.length<=30:=by
 unfold wordB at h
 rw [Bool.and_eq_true] at h
 exact name_len h.1
def tieW:By:=[116,105,101]
def comboW:By:=[99,111,109,98,111]
theorem ev_cut {P:Program}{H:Sums}{rd:Option Nat}{a b:Code}{fr:Fr}{Z:St}{Q:Res->Prop}{u:Hd Q}(J:Fr->St->Prop) (h:Ev (lim P H rd a fr Z) (fun r=>∃ fr' Z',r=⟨.normal,fr',Z'⟩/\J fr' Z') ⟨⟩)
  (k:∀ fr' Z',J fr' Z'->Ev (lim P H rd b fr' Z') Q ⟨⟩):Ev (lim P H rd (.seq a b) fr Z) Q u:=by
 rw [er_seq]
 refine h.mono ?_
 rintro r ⟨fr',Z',rfl,hJ⟩
 rw [en_normal]
 exact k fr' Z' hJ
def SmN (n:Int):Prop:=0<=n/\n<1000000000
structure Tn.Sm (T:Tn):Prop where
 lot:∀ l∈T.lots,SmN l.id/\SmN l.most
 crit:∀ c∈T.crits,(c.kind=1\/c.kind=2)/\SmN c.low/\SmN c.high
 req:∀ r∈T.reqs,SmN r.value
 combo:∀ l∈T.combos,∀ n∈l,SmN n
 low:SmN T.low
 high:SmN T.high
 most:SmN T.most
 budget:SmN T.budget
 tim:SmN T.t.q/\SmN T.t.b/\SmN T.t.g/\SmN T.t.p/\SmN T.t.s
theorem rnum_ok {Z:St}{n:Int}(h:SmN n):Ev (go Tryz.prog HS (.fn 100) [.int .i64 n] Z) (fun r=>∃ Z',r=⟨false,str (dcN n.toNat),Z'⟩/\Ext Z Z') ⟨⟩:=by
 obtain ⟨N,rfl⟩:=Int.eq_ofNat_of_zero_le h.1
 have h2:=h.2
 exact rnumber_ok (n:=N) om
set_option maxHeartbeats 16000000 in
theorem rprinted_ok {Z:St}{ca:List Value}{T:Tn}(hT:TnAt Z ca T) (hr:RightT T) (hS:T.Sm):Ev (go Tryz.prog HS (.fn 60) [.agg ⟨ca⟩] Z) (fun r=>∃ Z',r=⟨false,str (printT T),Z'⟩/\Ext Z Z') ⟨⟩:=by
 obtain ⟨vl,vc,vr,ex,vt,vk,hp,h2,h3,h4,h5,h6,vs,h7,h8⟩:=hT.parts
 obtain ⟨la,lc,lb,lo,lcs,rfl,l1,l2⟩:=h2.use
 obtain ⟨ca',cc,cb,co,ccs,rfl,c1,c2⟩:=h3.use
 obtain ⟨ra,rc,rb,ro,rcs,rfl,r1,r2⟩:=h4.use
 obtain ⟨ta,tc,tb,to',tcs,rfl,t1,t2⟩:=h6.use
 obtain ⟨ka,kc,kb,ko,kcs,rfl,k1,k2⟩:=SL.use' h7
 have hfa:=hp.all
 have L0:=name_len hr.name
 have L1:=hr.lots
 have L2:=hr.crits
 have L3:=hr.reqs
 have L4:=hr.ties
 have L5:=hr.combos
 obtain ⟨kf,jf,hf,hk12,hj60⟩:=hr.f
 have L6:=h8.len
 have s0:=hp.p0
 have s1:=hp.p1
 have s2:=hp.p2
 have s3:=hp.p3
 have s4:=hp.p4
 have s5:=hp.p5
 have s6:=hp.p6
 have s7:=hp.p11
 have s8:=hp.p12
 have s9:=hp.p13
 have s10:=hp.p14
 have s15:=hp.p15
 refine ev_go Tryz.func60 rfl rfl ?_
 refine gS1 (aI @hfa @s0) ?_
 have E0:Ext Z (Z.new ca):=eX
 refine ev_count T.lots.length (fun k fr Z'=>fr.get 4=some (.int .i64 k)/\fr.get 1=some (.pointer (some ⟨Z.n,0,none⟩))/\(∃ s,fr.get 3=some (str s)/\s=B0 T++under ((T.lots.take k).map gl)/\s.length<=200+100*k)/\Ext (Z.new ca) Z')
  (fun r=>∃ fr Z',r=⟨.exit 0,fr,Z'⟩/\fr.get 1=some (.pointer (some ⟨Z.n,0,none⟩))/\(∃ s,fr.get 3=some (str s)/\s=B1 T/\s.length<=2000)/\Ext (Z.new ca) Z') ?_ ?_ ?_ ?_
 ·exact ⟨fR,fR,⟨_,fR,(by rw [under_zero,List.append_nil];simp [B0,nl,lineP,spJ,LM.word,LM.txt]),by simp;omega⟩,.refl _⟩
 ·skip
  rintro k fr Z' hk ⟨g4,g1,⟨s,g3,hsp,hs⟩,hE⟩
  have hc:=lt_true hk
  have w1:Z'.row Z.n=some ca:=by rw [hE.row (by simp)];exact cL
  have hEn:=hE.n
  simp only [new_n] at hEn
  have hE0:Ext Z Z':=E0.trans hE
  obtain ⟨x,hx⟩:=at_some hk
  obtain ⟨sp,rfl,l3,l4⟩:=l1 om
  have w2:Z'.row lb=some lcs:=by rw [hE0.row l3];exact l4
  obtain ⟨-,m1,m2⟩:=l2 k x hx
  obtain ⟨z1,z2⟩:=hS.lot x (List.mem_of_getElem? hx)
  have hu1:=sm_len z1
  have hu2:=sm_len z2
  refine gS1 (aI @g4 (aI @g1 (aI @g3 (aI @hc (aI @w1 (aI @s1 (aI @w2 @m1))))))) ?_
  refine (rnum_ok z1).mono ?_
  rintro r ⟨Z2,rfl,hE2⟩
  have n2:=hE2.n
  have w1:Z2.row Z.n=some ca:=by rw [hE2.row om];exact w1
  have w2:Z2.row lb=some lcs:=by rw [hE2.row om];exact w2
  refine gS1 (aI @g4 (aI @g1 (aI @w1 (aI @s1 (aI @w2 @m2))))) ?_
  refine (rnum_ok z2).mono ?_
  rintro r ⟨Z3,rfl,hE3⟩
  simp (maxSteps:=8000000) (disch:=first|exact dS|fail) only [↓bD,bW,reduceMul,reduceEqDiff,reduceAdd,Nat.reduceBEq,reduceIte,Option.isNone_none,asx hE2,asx hE3,g4,g1]
  try refine Must.intro (by (repeat first|simp (disch:=omega) only [as_read,as_upd,as_newb,asx hE2,asx hE3]|rw [as_ord (by kernel_rfl)]);first|done|rfl) ?_
  try simp (maxSteps:=8000000) (disch:=first|exact dS|fail) only [↓bD,bW,reduceMul,reduceEqDiff,reduceAdd,Nat.reduceBEq,reduceIte,Option.isNone_none,g4,g1]
  exact ⟨fR,fR1 g1,⟨_,fR,(by rw [hsp,under_take hx];simp [gl,lineP,spJ,LM.word,LM.txt,mostW]),by simp;omega⟩,hE.trans (hE2.trans hE3)⟩
 ·rintro fr Z' ⟨g4,g1,⟨s,g3,hsp,hs⟩,hE⟩
  have w1:Z'.row Z.n=some ca:=by rw [hE.row (by simp)];exact cL
  refine gS1 (aI @g4 (aI @g1 (aI @w1 @s1))) ?_
  exact ⟨_,_,rfl,fR1 g1,⟨s,fR1 g3,(by rw [hsp,under_full];rfl),om⟩,hE⟩
 rintro r ⟨fr,Z',rfl,g1,⟨s,g3,hsp,hs⟩,hE⟩
 refine gS ?_
 refine ev_count T.crits.length (fun k fr Z'=>fr.get 5=some (.int .i64 k)/\fr.get 1=some (.pointer (some ⟨Z.n,0,none⟩))/\(∃ s,fr.get 3=some (str s)/\s=B1 T++under ((T.crits.take k).map gc)/\s.length<=2000+100*k)/\Ext (Z.new ca) Z')
  (fun r=>∃ fr Z',r=⟨.exit 2,fr,Z'⟩/\fr.get 1=some (.pointer (some ⟨Z.n,0,none⟩))/\(∃ s,fr.get 3=some (str s)/\s=B2 T/\s.length<=4000)/\Ext (Z.new ca) Z') ?_ ?_ ?_ ?_
 ·exact ⟨fR,fR1 g1,⟨_,fR1 g3,(by rw [under_zero,List.append_nil];exact hsp),by (try simp) <;> omega⟩,hE⟩
 ·clear g1 g3 hsp hs hE s fr
  rintro k fr Z' hk ⟨g4,g1,⟨s,g3,hsp,hs⟩,hE⟩
  have hc:=lt_true hk
  have w1:Z'.row Z.n=some ca:=by rw [hE.row (by simp)];exact cL
  have hEn:=hE.n
  simp only [new_n] at hEn
  have hE0:Ext Z Z':=E0.trans hE
  obtain ⟨x,hx⟩:=at_some hk
  obtain ⟨sp,rfl,l3,l4⟩:=c1 om
  have w2:Z'.row cb=some ccs:=by rw [hE0.row l3];exact l4
  obtain ⟨m0,m1,-⟩:=c2 k x hx
  have mem:=List.mem_of_getElem? hx
  obtain ⟨kd,z1,z2⟩:=hS.crit x mem
  have ln:=word_len (hr.crit x mem).1
  have hu1:=sm_len z1
  have hu2:=sm_len z2
  unfold Crit.row at m0
  refine gS1 (aI @g4 (aI @g1 (aI @hc (aI @w1 (aI @s2 (aI @w2 @m0)))))) ?_
  obtain ⟨S,hS'⟩:∃ S,((Z'.new [str [],.int .i64 0,.int .i64 0,.int .i64 0,.bool false] (some 80)).upd Z'.n [str x.name,.int .i64 x.kind,.int .i64 x.low,.int .i64 x.high,.bool x.less])=S:=⟨_,rfl⟩
  rw [hS']
  have E1:Ext Z' S:=by rw [<- hS'];exact eX
  have nS:S.n=Z'.n+1:=by rw [<- hS'];rfl
  have wS:S.row Z'.n=some [str x.name,.int .i64 x.kind,.int .i64 x.low,.int .i64 x.high,.bool x.less]:=by rw [<- hS'];exact cL
  clear hS'
  have ix:∃ t:By,t.length=5/\t=(if x.kind.toNat=2 then offerB else gradeB)/\sub [str [103,114,97,100,101],str [111,102,102,101,114]] (x.kind-1).toNat 1=some [str t]/\(∃ q:Nat,x.kind=(q:Int)+1/\q<2):=by
   rcases kd with h|h
   ·exact ⟨[103,114,97,100,101],rfl,by rw [h];rfl,by rw [h];rfl,0,om,om⟩
   ·exact ⟨[111,102,102,101,114],rfl,by rw [h];rfl,by rw [h];rfl,1,om,om⟩
  obtain ⟨t,ht,htk,ix,q,hq,q2⟩:=ix
  rw [hq] at wS ix
  rw [show ((q:Int)+1-1).toNat=q by omega] at ix
  have e1:(((q+1:Nat):Int)-1)=(q:Int):=om
  refine gS1 (aI @g3 (aI @wS (aI @e1 @ix))) ?_
  refine (rnum_ok z1).mono ?_
  rintro r ⟨Z2,rfl,hE2⟩
  have n2:=hE2.n
  simp only [new_n] at n2
  have wS2:Z2.row Z'.n=some [str x.name,.int .i64 ((q:Int)+1),.int .i64 x.low,.int .i64 x.high,.bool x.less]:=by rw [hE2.row (cL),row_new_ne om];exact wS
  refine gS1 @wS2 ?_
  refine (rnum_ok z2).mono ?_
  rintro r ⟨Z3,rfl,hE3⟩
  have n3:=hE3.n
  have wS3:Z3.row Z'.n=some [str x.name,.int .i64 ((q:Int)+1),.int .i64 x.low,.int .i64 x.high,.bool x.less]:=by rw [hE3.row om];exact wS2
  have hE':Ext (Z.new ca) Z3:=hE.trans (E1.trans (Ext.trans (Ext.trans (Ext.new' (.refl _) _) hE2) hE3))
  simp (maxSteps:=8000000) (disch:=first|exact dS|fail) only [↓bD,bW,reduceMul,reduceEqDiff,reduceAdd,Nat.reduceBEq,reduceIte,Option.isNone_none,asx hE2,asx hE3,as_newb,g4,g1,wS3]
  try refine Must.intro (by (repeat first|simp (disch:=omega) only [as_read,as_upd,as_newb,asx hE2,asx hE3]|rw [as_ord (by kernel_rfl)]);first|done|rfl) ?_
  try simp (maxSteps:=8000000) (disch:=first|exact dS|fail) only [↓bD,bW,reduceMul,reduceEqDiff,reduceAdd,Nat.reduceBEq,reduceIte,Option.isNone_none,g4,g1,wS3]
  cases hl:x.less with
  | true =>
    refine gS1 (aI @hl (aI @g4 @g1)) ?_
    exact ⟨fR,fR1 g1,⟨_,fR,(by rw [hsp,under_take hx];simp [gc,lineP,spJ,LM.word,LM.txt,hl,htk,lessB]),by simp;omega⟩,hE'⟩
  | false =>
    refine gS1 (aI @hl (aI @g4 @g1)) ?_
    exact ⟨fR,fR1 g1,⟨_,fR,(by rw [hsp,under_take hx];simp [gc,lineP,spJ,LM.word,LM.txt,hl,htk,lessB]),by simp;omega⟩,hE'⟩
 ·rintro fr Z' ⟨g4,g1,⟨s,g3,hsp,hs⟩,hE⟩
  have w1:Z'.row Z.n=some ca:=by rw [hE.row (by simp)];exact cL
  refine gS1 (aI @g4 (aI @g1 (aI @w1 @s2))) ?_
  exact ⟨_,_,rfl,fR1 g1,⟨s,fR1 g3,(by rw [hsp,under_full];rfl),om⟩,hE⟩
 clear g1 g3 hsp hs hE s fr
 rintro r ⟨fr,Z',rfl,g1,⟨s,g3,hsp,hs⟩,hE⟩
 refine gS ?_
 refine ev_count T.reqs.length (fun k fr Z'=>fr.get 7=some (.int .i64 k)/\fr.get 1=some (.pointer (some ⟨Z.n,0,none⟩))/\(∃ s,fr.get 3=some (str s)/\s=B2 T++under ((T.reqs.take k).map gr)/\s.length<=4000+100*k)/\Ext (Z.new ca) Z')
  (fun r=>∃ fr Z',r=⟨.exit 4,fr,Z'⟩/\fr.get 1=some (.pointer (some ⟨Z.n,0,none⟩))/\(∃ s,fr.get 3=some (str s)/\s=B3 T/\s.length<=8000)/\Ext (Z.new ca) Z') ?_ ?_ ?_ ?_
 ·exact ⟨fR,fR1 g1,⟨_,fR1 g3,(by rw [under_zero,List.append_nil];exact hsp),by (try simp) <;> omega⟩,hE⟩
 ·clear g1 g3 hsp hs hE s fr
  rintro k fr Z' hk ⟨g4,g1,⟨s,g3,hsp,hs⟩,hE⟩
  have hc:=lt_true hk
  have w1:Z'.row Z.n=some ca:=by rw [hE.row (by simp)];exact cL
  have hEn:=hE.n
  simp only [new_n] at hEn
  have hE0:Ext Z Z':=E0.trans hE
  obtain ⟨x,hx⟩:=at_some hk
  obtain ⟨sp,rfl,l3,l4⟩:=r1 om
  have w2:Z'.row rb=some rcs:=by rw [hE0.row l3];exact l4
  obtain ⟨m0,m1,-⟩:=r2 k x hx
  have mem:=List.mem_of_getElem? hx
  have z1:=hS.req x mem
  have hu1:=sm_len z1
  have ln:=word_len (hr.req x mem).1
  have lr:x.rel.length<=2:=by
   have:=(hr.req x mem).2.1
   simp at this
   rcases this with h|h <;> rw [h] <;> decide
  unfold Req.row at m0
  refine gS1 (aI @g4 (aI @g1 (aI @g3 (aI @hc (aI @w1 (aI @s3 (aI @w2 @m0))))))) ?_
  obtain ⟨S,hS'⟩:∃ S,((Z'.new [str [],str [],.int .i64 0] (some 82)).upd Z'.n [str x.name,str x.rel,.int .i64 x.value])=S:=⟨_,rfl⟩
  rw [hS']
  have E1:Ext Z' S:=by rw [<- hS'];exact eX
  refine (rnum_ok z1).mono ?_
  rintro r ⟨Z2,rfl,hE2⟩
  simp (maxSteps:=8000000) (disch:=first|exact dS|fail) only [↓bD,bW,reduceMul,reduceEqDiff,reduceAdd,Nat.reduceBEq,reduceIte,Option.isNone_none,asx hE2,g4,g1]
  try refine Must.intro (by (repeat first|simp (disch:=omega) only [as_read,as_upd,as_newb,asx hE2]|rw [as_ord (by kernel_rfl)]);first|done|rfl) ?_
  try simp (maxSteps:=8000000) (disch:=first|exact dS|fail) only [↓bD,bW,reduceMul,reduceEqDiff,reduceAdd,Nat.reduceBEq,reduceIte,Option.isNone_none,g4,g1]
  exact ⟨fR,fR1 g1,⟨_,fR,(by rw [hsp,under_take hx];simp [gr,lineP,spJ,LM.word,LM.txt]),by simp;omega⟩,hE.trans (E1.trans hE2)⟩
 ·rintro fr Z' ⟨g4,g1,⟨s,g3,hsp,hs⟩,hE⟩
  have w1:Z'.row Z.n=some ca:=by rw [hE.row (by simp)];exact cL
  refine gS1 (aI @g4 (aI @g1 (aI @w1 @s3))) ?_
  exact ⟨_,_,rfl,fR1 g1,⟨s,fR1 g3,(by rw [hsp,under_full];rfl),om⟩,hE⟩
 clear g1 g3 hsp hs hE s fr
 rintro r ⟨fr,Z',rfl,g1,⟨s,g3,hsp,hs⟩,hE⟩
 refine Ev.mono (R:=fun r=>r=⟨.normal,fr,Z'⟩) (v:=⟨⟩) (by simp (maxSteps:=8000000) (disch:=first|exact dS|fail) only [↓bD,bW,reduceMul,reduceEqDiff,reduceAdd,Nat.reduceBEq,reduceIte,Option.isNone_none]) ?_
 rintro r rfl
 simp only [en_normal]
 refine ev_cut (fun fr Z'=>fr.get 1=some (.pointer (some ⟨Z.n,0,none⟩))/\(∃ s,fr.get 3=some (str s)/\s=B4 T/\s.length<=60000)/\Ext (Z.new ca) Z') ?_ ?_
 ·
  have w1:Z'.row Z.n=some ca:=by rw [hE.row (by simp)];exact cL
  have hEn:=hE.n
  simp only [new_n] at hEn
  have hE0:Ext Z Z':=E0.trans hE
  refine gS1 (aI @g1 (aI @g3 (aI @w1 @s4))) ?_
  have hu1:=sm_len hS.low
  have hu2:=sm_len hS.high
  refine (rnum_ok hS.low).mono ?_
  rintro r ⟨Z2,rfl,hE2⟩
  have n2:=hE2.n
  have w2:Z2.row Z.n=some ca:=by rw [hE2.row om];exact w1
  refine gS1 (aI @g1 (aI @w2 @s5)) ?_
  refine (rnum_ok hS.high).mono ?_
  rintro r ⟨Z3,rfl,hE3⟩
  have n3:=hE3.n
  have w3:Z3.row Z.n=some ca:=by rw [hE3.row om];exact w2
  have E3:Ext Z Z3:=hE0.trans (hE2.trans hE3)
  refine gS1 (aI @g1 (aI @w3 @s6)) ?_
  have hu3:=show_len hf 12 0 hk12
  refine (rprint_ok hf 12 hk12 om om (h5.mono E3)).mono ?_
  rintro r ⟨Z4,rfl,hE4⟩
  simp (maxSteps:=8000000) (disch:=first|exact dS|fail) only [↓bD,bW,reduceMul,reduceEqDiff,reduceAdd,Nat.reduceBEq,reduceIte,Option.isNone_none,asx hE2,asx hE3,asx hE4,g1]
  try refine Must.intro (by (repeat first|simp (disch:=omega) only [as_read,as_upd,as_newb,asx hE2,asx hE3,asx hE4]|rw [as_ord (by kernel_rfl)]);first|done|rfl) ?_
  exact ⟨_,_,rfl,fR1 g1,⟨_,fR,(by rw [hsp];simp [B4,nl,lineP,spJ,LM.word,LM.txt]),by simp;omega⟩,hE.trans (hE2.trans (hE3.trans hE4))⟩
 clear g1 g3 hsp hs hE s fr Z'
 rintro fr Z' ⟨g1,⟨s,g3,hsp,hs⟩,hE⟩
 refine ev_cut (fun fr Z'=>fr.get 1=some (.pointer (some ⟨Z.n,0,none⟩))/\(∃ s,fr.get 3=some (str s)/\s=B5 T/\s.length<=62000)/\Ext (Z.new ca) Z') ?_ ?_
 ·
  have w1:Z'.row Z.n=some ca:=by rw [hE.row (by simp)];exact cL
  have hEn:=hE.n
  simp only [new_n] at hEn
  have hE0:Ext Z Z':=E0.trans hE
  refine gS1 (aI @g1 (aI @w1 @s7)) ?_
  cases ht:decide (0<(T.ties.length:Int)) with
  | false =>
    refine gS ?_
    exact ⟨_,_,rfl,fR1 g1,⟨_,fR1 g3,(by rw [hsp];unfold B5;rw [if_pos (List.eq_nil_of_length_eq_zero (by have:=of_decide_eq_false ht;omega)),List.append_nil]),om⟩,hE⟩
  | true =>
    refine gS1 @g3 ?_
    refine ev_count T.ties.length (fun k fr Z'=>fr.get 9=some (.int .i64 k)/\fr.get 1=some (.pointer (some ⟨Z.n,0,none⟩))/\(∃ s,fr.get 3=some (str s)/\s=B4 T++(tieW++blk (T.ties.take k))/\s.length<=60010+100*k)/\Ext (Z.new ca) Z')
     (fun r=>∃ fr Z',r=⟨.exit 6,fr,Z'⟩/\fr.get 1=some (.pointer (some ⟨Z.n,0,none⟩))/\(∃ s,fr.get 3=some (str s)/\s=B4 T++(tieW++blk T.ties)/\s.length<=61900)/\Ext (Z.new ca) Z') ?_ ?_ ?_ ?_
    ·exact ⟨fR,fR1 g1,⟨_,fR1 g3,(by rw [hsp];simp [tieW,blk]),by (try simp) <;> omega⟩,hE⟩
    ·clear g1 g3 hsp hs hE s fr
     rintro k fr Z' hk ⟨g4,g1,⟨s,g3,hsp,hs⟩,hE⟩
     have hc:=lt_true hk
     have w1:Z'.row Z.n=some ca:=by rw [hE.row (by simp)];exact cL
     have hEn:=hE.n
     simp only [new_n] at hEn
     have hE0:Ext Z Z':=E0.trans hE
     obtain ⟨x,hx⟩:=at_some hk
     obtain ⟨sp,rfl,l3,l4⟩:=t1 om
     have w2:Z'.row tb=some tcs:=by rw [hE0.row l3];exact l4
     have m1:=t2 k x hx
     have ln:x.length<=30:=by
      rcases hr.tie x (List.mem_of_getElem? hx) with h|h
      ·rw [h];decide
      ·exact word_len h
     refine gS1 (aI @g4 (aI @g1 (aI @g3 (aI @hc (aI @w1 (aI @s7 (aI @w2 @m1))))))) ?_
     exact ⟨fR,fR1 g1,⟨_,fR,(by rw [hsp,blk_take hx];simp),by simp;omega⟩,hE⟩
    ·rintro fr Z' ⟨g4,g1,⟨s,g3,hsp,hs⟩,hE⟩
     have w1:Z'.row Z.n=some ca:=by rw [hE.row (by simp)];exact cL
     refine gS1 (aI @g4 (aI @g1 (aI @w1 @s7))) ?_
     exact ⟨_,_,rfl,fR1 g1,⟨s,fR1 g3,(by rw [hsp,List.take_length]),om⟩,hE⟩
    rintro r ⟨fr,Z',rfl,g1,⟨s,g3,hsp,hs⟩,hE⟩
    refine gS1 @g3 ?_
    exact ⟨_,_,rfl,fR1 g1,⟨_,fR,(by rw [hsp];unfold B5;rw [if_neg (by intro h0;rw [h0] at ht;simp at ht),show lineP (.tie T.ties)=tieW++blk T.ties from spJ_flat _ _];simp [nl]),by simp;omega⟩,hE⟩
 clear g1 g3 hsp hs hE s fr Z'
 rintro fr Z' ⟨g1,⟨s,g3,hsp,hs⟩,hE⟩
 refine ev_cut (fun fr Z'=>fr.get 1=some (.pointer (some ⟨Z.n,0,none⟩))/\(∃ s,fr.get 3=some (str s)/\s=B6 T/\s.length<=62100)/\Ext (Z.new ca) Z') ?_ ?_
 ·
  have w1:Z'.row Z.n=some ca:=by rw [hE.row (by simp)];exact cL
  have hEn:=hE.n
  simp only [new_n] at hEn
  have hE0:Ext Z Z':=E0.trans hE
  refine gS1 (aI @g1 (aI @w1 @s8)) ?_
  cases hm:decide (T.most=0) with
  | true =>
    refine gS ?_
    exact ⟨_,_,rfl,fR1 g1,⟨_,fR1 g3,(by rw [hsp];unfold B6;rw [if_pos (of_decide_eq_true hm),List.append_nil]),om⟩,hE⟩
  | false =>
    refine gS1 (aI @g1 (aI @g3 (aI @w1 @s8))) ?_
    have hu1:=sm_len hS.most
    refine (rnum_ok hS.most).mono ?_
    rintro r ⟨Z2,rfl,hE2⟩
    refine gS ?_
    exact ⟨_,_,rfl,fR1 g1,⟨_,fR,(by rw [hsp];unfold B6;rw [if_neg (of_decide_eq_false hm)];simp [nl,lineP,spJ,LM.word,LM.txt]),by simp;omega⟩,hE.trans hE2⟩
 clear g1 g3 hsp hs hE s fr Z'
 rintro fr Z' ⟨g1,⟨s,g3,hsp,hs⟩,hE⟩
 refine gS ?_
 refine ev_count vs.length (fun k fr Z'=>fr.get 10=some (.int .i64 k)/\fr.get 1=some (.pointer (some ⟨Z.n,0,none⟩))/\(∃ s,fr.get 3=some (str s)/\s=B6 T++under ((T.combos.take k).map gk)/\s.length<=62100+400*k)/\Ext (Z.new ca) Z')
  (fun r=>∃ fr Z',r=⟨.exit 8,fr,Z'⟩/\fr.get 1=some (.pointer (some ⟨Z.n,0,none⟩))/\(∃ s,fr.get 3=some (str s)/\s=B7 T/\s.length<=70000)/\Ext (Z.new ca) Z') ?_ ?_ ?_ ?_
 ·exact ⟨fR,fR1 g1,⟨_,fR1 g3,(by rw [under_zero,List.append_nil];exact hsp),by (try simp) <;> omega⟩,hE⟩
 ·clear g1 g3 hsp hs hE s fr
  rintro k fr Z' hk ⟨g4,g1,⟨s,g3,hsp,hs⟩,hE⟩
  have hc:=lt_true hk
  have w1:Z'.row Z.n=some ca:=by rw [hE.row (by simp)];exact cL
  have hEn:=hE.n
  simp only [new_n] at hEn
  have hE0:Ext Z Z':=E0.trans hE
  obtain ⟨x,hx⟩:=at_some hk
  obtain ⟨C,hC⟩:=at_some (show k<T.combos.length by omega)
  obtain ⟨ia,ic,ib,io,ics,rfl,i1,i2⟩:=(h8.get hx hC).use
  have LC:=(hr.combo C (List.mem_of_getElem? hC)).2.1
  obtain ⟨sp,rfl,l3,l4⟩:=k1 om
  have w2:Z'.row kb=some kcs:=by rw [hE0.row l3];exact l4
  have m1:=k2 k _ hx
  rw [Nat.mul_one] at m1
  refine gS1 (aI @g4 (aI @g1 (aI @g3 (aI @hc (aI @w1 @s9))))) ?_
  refine ev_count C.length (fun i fr τ=>fr.get 11=some (.int .i64 i)/\fr.get 10=some (.int .i64 k)/\fr.get 1=some (.pointer (some ⟨Z.n,0,none⟩))/\(∃ s,fr.get 3=some (str s)/\s=B6 T++(under ((T.combos.take k).map gk)++(comboW++blk ((C.take i).map fun n=>dcN n.toNat)))/\s.length<=62110+400*k+20*i)/\Ext (Z.new ca) τ)
   (fun r=>∃ fr τ,r=⟨.exit 10,fr,τ⟩/\fr.get 10=some (.int .i64 k)/\fr.get 1=some (.pointer (some ⟨Z.n,0,none⟩))/\(∃ s,fr.get 3=some (str s)/\s=B6 T++(under ((T.combos.take k).map gk)++(comboW++blk (C.map fun n=>dcN n.toNat)))/\s.length<=62450+400*k)/\Ext (Z.new ca) τ) ?_ ?_ ?_ ?_
  ·exact ⟨fR,fR1 g4,fR1 g1,⟨_,fR,(by rw [hsp];simp [comboW,blk]),by simp;omega⟩,hE⟩
  ·clear g4 g1 g3 hsp hs s fr
   rintro i fr τ hi ⟨g11,g10,g1,⟨s,g3,hsp,hs⟩,hF⟩
   have hc:=lt_true hi
   obtain ⟨y,hy⟩:=at_some hi
   obtain ⟨sp',rfl,l5,l6⟩:=i1 om
   have zy:=hS.combo C (List.mem_of_getElem? hC) y (List.mem_of_getElem? hy)
   have hF0:Ext Z τ:=E0.trans hF
   have v1:τ.row Z.n=some ca:=by rw [hF.row (by simp)];exact cL
   have v2:τ.row kb=some kcs:=by rw [hF0.row l3];exact l4
   have v3:τ.row ib=some ics:=by rw [hF0.row l5];exact l6
   have n1:=i2 i y hy
   refine gS1 (aI @g11 (aI @g10 (aI @g1 (aI @g3 (aI @hc (aI @v1 (aI @s9 (aI @v2 (aI @m1 (aI @v3 @n1)))))))))) ?_
   have hu1:=sm_len zy
   refine (rnum_ok zy).mono ?_
   rintro r ⟨Z2,rfl,hE2⟩
   refine gS1 @g11 ?_
   exact ⟨fR,fR1 g10,fR1 g1,⟨_,fR,(by rw [hsp,blk_take_map hy];simp),by simp;omega⟩,hF.trans hE2⟩
  ·clear g4 g1 g3 hsp hs s fr
   rintro fr τ ⟨g11,g10,g1,⟨s,g3,hsp,hs⟩,hF⟩
   have hF0:Ext Z τ:=E0.trans hF
   have v1:τ.row Z.n=some ca:=by rw [hF.row (by simp)];exact cL
   have v2:τ.row kb=some kcs:=by rw [hF0.row l3];exact l4
   refine gS1 (aI @g11 (aI @g10 (aI @g1 (aI @v1 (aI @s9 (aI @v2 @m1)))))) ?_
   exact ⟨_,_,rfl,fR1 g10,fR1 g1,⟨s,fR1 g3,(by rw [hsp,List.take_length]),om⟩,hF⟩
  clear g4 g1 g3 hsp hs s fr
  rintro r ⟨fr,τ,rfl,g4,g1,⟨s,g3,hsp,hs⟩,hF⟩
  refine gS1 (aI @g4 @g3) ?_
  exact ⟨fR,fR1 g1,⟨_,fR,(by rw [hsp,under_take hC,show gk C=comboW++blk ((C.map Int.toNat).map dcN) from spJ_flat _ _,List.map_map];simp;rfl),by simp;omega⟩,hF⟩
 ·rintro fr Z' ⟨g4,g1,⟨s,g3,hsp,hs⟩,hE⟩
  have w1:Z'.row Z.n=some ca:=by rw [hE.row (by simp)];exact cL
  refine gS1 (aI @g4 (aI @g1 (aI @w1 @s9))) ?_
  exact ⟨_,_,rfl,fR1 g1,⟨s,fR1 g3,(by rw [hsp,L6,under_full];rfl),om⟩,hE⟩
 rintro r ⟨fr,Z',rfl,g1,⟨s,g3,hsp,hs⟩,hE⟩
 have w1:Z'.row Z.n=some ca:=by rw [hE.row (by simp)];exact cL
 have hEn:=hE.n
 simp only [new_n] at hEn
 have hE0:Ext Z Z':=E0.trans hE
 refine gS1 (aI @g1 (aI @w1 @s15)) ?_
 obtain ⟨S,hS'⟩:∃ S,((Z'.new [.int .i64 0,.int .i64 0,.int .i64 0,.int .i64 0,.int .i64 0] (some 39)).upd Z'.n [.int .i64 T.t.q,.int .i64 T.t.b,.int .i64 T.t.g,.int .i64 T.t.p,.int .i64 T.t.s])=S:=⟨_,rfl⟩
 rw [hS']
 have E1:Ext Z' S:=by rw [<- hS'];exact eX
 have nS:S.n=Z'.n+1:=by rw [<- hS'];rfl
 have wS:S.row Z'.n=some [.int .i64 T.t.q,.int .i64 T.t.b,.int .i64 T.t.g,.int .i64 T.t.p,.int .i64 T.t.s]:=by rw [<- hS'];exact cL
 have w1:S.row Z.n=some ca:=by rw [E1.row om];exact w1
 have EF:=hE0.trans E1
 refine gS1 (aI @g1 (aI @g3 (aI @w1 @s10))) ?_
 have hu1:=sm_len hS.budget
 have hv0:=sm_len hS.tim.1
 have hv1:=sm_len hS.tim.2.1
 have hv2:=sm_len hS.tim.2.2.1
 have hv3:=sm_len hS.tim.2.2.2.1
 have hv4:=sm_len hS.tim.2.2.2.2
 refine (rnum_ok hS.budget).mono ?_
 rintro r ⟨Z2,rfl,hE2⟩
 have n2:=hE2.n
 have wS:Z2.row Z'.n=some [.int .i64 T.t.q,.int .i64 T.t.b,.int .i64 T.t.g,.int .i64 T.t.p,.int .i64 T.t.s]:=by rw [hE2.row om];exact wS
 have EF:=EF.trans hE2
 refine gS1 @wS ?_
 refine (rnum_ok hS.tim.1).mono ?_
 rintro r ⟨Z3,rfl,hF0⟩
 have m0:=hF0.n
 have wS:Z3.row Z'.n=some [.int .i64 T.t.q,.int .i64 T.t.b,.int .i64 T.t.g,.int .i64 T.t.p,.int .i64 T.t.s]:=by rw [hF0.row om];exact wS
 have EF:=EF.trans hF0
 refine gS1 @wS ?_
 refine (rnum_ok hS.tim.2.1).mono ?_
 rintro r ⟨Z4,rfl,hF1⟩
 have m1:=hF1.n
 have wS:Z4.row Z'.n=some [.int .i64 T.t.q,.int .i64 T.t.b,.int .i64 T.t.g,.int .i64 T.t.p,.int .i64 T.t.s]:=by rw [hF1.row om];exact wS
 have EF:=EF.trans hF1
 refine gS1 @wS ?_
 refine (rnum_ok hS.tim.2.2.1).mono ?_
 rintro r ⟨Z5,rfl,hF2⟩
 have m2:=hF2.n
 have wS:Z5.row Z'.n=some [.int .i64 T.t.q,.int .i64 T.t.b,.int .i64 T.t.g,.int .i64 T.t.p,.int .i64 T.t.s]:=by rw [hF2.row om];exact wS
 have EF:=EF.trans hF2
 refine gS1 @wS ?_
 refine (rnum_ok hS.tim.2.2.2.1).mono ?_
 rintro r ⟨Z6,rfl,hF3⟩
 have m3:=hF3.n
 have wS:Z6.row Z'.n=some [.int .i64 T.t.q,.int .i64 T.t.b,.int .i64 T.t.g,.int .i64 T.t.p,.int .i64 T.t.s]:=by rw [hF3.row om];exact wS
 have EF:=EF.trans hF3
 refine gS1 @wS ?_
 refine (rnum_ok hS.tim.2.2.2.2).mono ?_
 rintro r ⟨Z7,rfl,hF4⟩
 have m4:=hF4.n
 have wS:Z7.row Z'.n=some [.int .i64 T.t.q,.int .i64 T.t.b,.int .i64 T.t.g,.int .i64 T.t.p,.int .i64 T.t.s]:=by rw [hF4.row om];exact wS
 have EF:=EF.trans hF4
 simp (maxSteps:=8000000) (disch:=first|exact dS|fail) only [↓bD,bW,reduceMul,reduceEqDiff,reduceAdd,Nat.reduceBEq,reduceIte,Option.isNone_none,asx hF0,asx hF1,asx hF2,asx hF3,asx hF4,Tryz.results60]
 try refine Must.intro (by (repeat first|simp (disch:=omega) only [as_read,as_upd,as_newb,asx hF0,asx hF1,asx hF2,asx hF3,asx hF4]|rw [as_ord (by kernel_rfl)]);first|done|rfl) ?_
 try simp (maxSteps:=8000000) (disch:=first|exact dS|fail) only [↓bD,bW,reduceMul,reduceEqDiff,reduceAdd,Nat.reduceBEq,reduceIte,Option.isNone_none,Tryz.results60]
 refine ⟨_,?_,EF⟩
 rw [print_B,<- hsp]
 simp [nl,lineP,spJ,LM.word,LM.txt]
end Go.Proofs.T
namespace Go.Proofs.T
open Go Go.Ab
open Nat (reduceMul reduceEqDiff reduceAdd)
set_option maxRecDepth 100000
set_option maxHeartbeats 16000000 in
theorem rright_ok {Z:St}{ca:List Value}{T:Tn}(hT:TnAt Z ca T) (hr:RightT T) (hS:T.Sm):Ev (go Tryz.prog HS (.fn 32) [.agg ⟨ca⟩] Z) (fun r=>∃ Z',r=⟨false,.tuple ⟨[str (printT T),.bool (!decide (4000<(printT T).length))]⟩,Z'⟩/\Ext Z Z') ⟨⟩:=by
 obtain ⟨vl,vc,vr,ex,vt,vk,hp,-,-,-,h5,-⟩:=hT.parts
 obtain ⟨kf,jf,hf,hk12,hj60⟩:=hr.f
 obtain ⟨y0,y1,y2,y3,y4⟩:=hr.t
 have hfa:=hp.all
 have s0:=hp.p0
 have s4:=hp.p4
 have s5:=hp.p5
 have s6:=hp.p6
 have s8:=hp.p12
 have s10:=hp.p14
 have s15:=hp.p15
 refine ev_go Tryz.func32 rfl rfl ?_
 refine gS1 (aI @hfa @s0) ?_
 have E0:Ext Z (Z.new ca):=eX
 refine risname_ok.mono ?_
 rintro r rfl
 have q1:rnameB T.name=true:=by rw [rname_eq];exact hr.name
 refine gS1 (aI @s6 @q1) ?_
 refine (rrightf_ok hk12 hj60 hf (h5.mono E0)).mono ?_
 rintro r ⟨Z2,rfl,hE2⟩
 have n2:=hE2.n
 simp only [new_n] at n2
 have w2:Z2.row Z.n=some ca:=by rw [hE2.row (cL)];exact cL
 have E2:=E0.trans hE2
 refine gS1 (aI @w2 @hfa) ?_
 refine (rlisted_ok (hT.mono E2) hr).mono ?_
 rintro r ⟨Z3,rfl,hE3⟩
 have n3:=hE3.n
 have w3:Z3.row Z.n=some ca:=by rw [hE3.row om];exact w2
 have E3:=E2.trans hE3
 refine gS1 (aI @w3 (aI @s15 @s4)) ?_
 obtain ⟨S,hS'⟩:∃ S,((Z3.new [.int .i64 0,.int .i64 0,.int .i64 0,.int .i64 0,.int .i64 0] (some 39)).upd Z3.n [.int .i64 T.t.q,.int .i64 T.t.b,.int .i64 T.t.g,.int .i64 T.t.p,.int .i64 T.t.s])=S:=⟨_,rfl⟩
 rw [hS']
 have E1:Ext Z3 S:=by rw [<- hS'];exact eX
 have nS:S.n=Z3.n+1:=by rw [<- hS'];rfl
 have wS:S.row Z3.n=some [.int .i64 T.t.q,.int .i64 T.t.b,.int .i64 T.t.g,.int .i64 T.t.p,.int .i64 T.t.s]:=by rw [<- hS'];exact cL
 have w1:S.row Z.n=some ca:=by rw [E1.row om];exact w3
 have EF:=E3.trans E1
 refine (rsmall_ok hr.low.1 hr.low.2).mono ?_
 rintro r rfl
 refine gS1 (aI @w1 (aI @s5 (aI @yu_t @yu_f))) ?_
 refine (rsmall_ok hr.high.1 hr.high.2).mono ?_
 rintro r rfl
 refine gS1 (aI @w1 (aI @s8 (aI @yu_t @yu_f))) ?_
 refine (rsmall_ok hr.most.1 hr.most.2).mono ?_
 rintro r rfl
 refine gS1 (aI @w1 (aI @s10 (aI @yu_t @yu_f))) ?_
 refine (rsmall_ok hr.budget.1 hr.budget.2).mono ?_
 rintro r rfl
 refine gS1 (aI @wS (aI @yu_t @yu_f)) ?_
 refine (rsmall_ok y0.1 y0.2).mono ?_
 rintro r rfl
 refine gS1 (aI @wS (aI @yu_t @yu_f)) ?_
 refine (rsmall_ok y1.1 y1.2).mono ?_
 rintro r rfl
 refine gS1 (aI @wS (aI @yu_t @yu_f)) ?_
 refine (rsmall_ok y2.1 y2.2).mono ?_
 rintro r rfl
 refine gS1 (aI @wS (aI @yu_t @yu_f)) ?_
 refine (rsmall_ok y3.1 y3.2).mono ?_
 rintro r rfl
 refine gS1 (aI @wS (aI @yu_t @yu_f)) ?_
 refine (rsmall_ok y4.1 y4.2).mono ?_
 rintro r rfl
 refine gS1 (aI @w1 (aI @hfa (aI @q1 (aI @yu_t @yu_f)))) ?_
 refine (rprinted_ok (hT.mono EF) hr hS).mono ?_
 rintro r ⟨Z4,rfl,hE4⟩
 have e:decide ((4000:Int)<(((printT T).length:Nat):Int))=decide (4000<(printT T).length):=by rw [Bool.eq_iff_iff,decide_eq_true_iff,decide_eq_true_iff];omega
 refine gS1 (aI @e @Tryz.results32) ?_
 exact ⟨_,rfl,EF.trans hE4⟩
theorem rPrint_ok {Z:St}{ca:List Value}{T:Tn}(hT:TnAt Z ca T) (hr:RightT T) (hS:T.Sm) (hl:(printT T).length<=4000):Ev (go Tryz.prog HS (.fn 13) [.agg ⟨ca⟩] Z) (fun r=>∃ Z',r=⟨false,str (printT T),Z'⟩/\Ext Z Z') ⟨⟩:=by
 have hfa:sub ca 0 20=some ca:=sub_full (by rw [hT.len];omega) (by rw [hT.len];omega)
 refine ev_go Tryz.func13 rfl rfl ?_
 refine gS1 @hfa ?_
 have E0:Ext Z (Z.new ca):=eX
 refine (rright_ok (hT.mono E0) hr hS).mono ?_
 rintro r ⟨Z2,rfl,hE⟩
 have e:decide (4000<(printT T).length)=false:=decide_eq_false om
 refine gS1 (aI @e (aI @Bool.not_false (aI @yu_t (aI @yu_f @Tryz.results13)))) ?_
 exact ⟨_,rfl,E0.trans hE⟩
end Go.Proofs.T
namespace Go.Proofs.T
open Go Go.Ab
section
variable {fr:Fr} {Z:St} {x ix a v:Operand} {ve:Value}
theorem ld75:LDn 75 2:=by unfold LDn;intros;kernel_rfl
theorem st75:STn 75 2:=by unfold STn;intros;kernel_rfl
theorem ze75:zero? Tryz.prog 75=some (.agg ⟨[.slice none 0 0,.int .i64 0]⟩):=by kernel_rfl
theorem bv75 {z:List Value}{ps:List (Nat×Value)}:buildV Tryz.prog 75 z ps=ob (fillL (fun i=>[(0,1),(1,1)][i]?) ps z) fun l=>some (.agg ⟨l⟩):=by kernel_rfl
theorem fa75_0:FAo 75 0:=by unfold FAo;intros;kernel_rfl
theorem fi75_0:FIo 75 0 0:=by unfold FIo;intros;kernel_rfl
theorem fa75_1:FAn 75 1 1:=by unfold FAn;intros;kernel_rfl
theorem fi75_1:FIo 75 1 1:=by unfold FIo;intros;kernel_rfl
end
end Go.Proofs.T
namespace Go.Proofs.T
open Go Go.Ab
open Nat (reduceMul reduceEqDiff reduceAdd)
set_option maxRecDepth 100000
def ArgInts (Z:St) (v:Value) (l:List Int):Prop:=Ints Z v l/\∀ n∈l,In64 n
theorem mod1_ok {Z:St}{n m:Int}(h1:In64 n) (h3:0<m) (h4:m<=4294967296) :
  Ev (go Tryz.prog HS (.fn 35) [.int .i64 n,.int .i64 m] Z) (fun r=>r=⟨false,.int .i64 (n % m),Z⟩) ⟨⟩:=by
 obtain ⟨h1,h2⟩:=h1
 have hm0:m≠0:=om
 have a1:=Int.tmod_lt_of_pos n h3
 have a2: -m<n.tmod m:=by
  have:=Int.lt_tmod_of_pos n h3
  omega
 have e:(n.tmod m+m).tmod m=n % m:=by
  rw [Int.tmod_eq_emod_of_nonneg om,Int.add_emod_right]
  rw [Int.tmod_def]
  exact Int.sub_mul_emod_self_left _ _ _
 refine ev_go Tryz.func35 rfl rfl ?_
 refine gS1 (aI @Tryz.results35 @e) ?_;try exact ⟨⟩
structure MkAt (Z:St) (q:Nat) (v:Value) (l:List Int) (k:Nat):Prop where
 row:Z.orow q=some [v,.int .i64 (k:Nat)]
 lt:q<Z.n
 le:k<=l.length
theorem next_ok {Z:St}{q k:Nat}{v:Value}{l:List Int}{n:Int}(H:List Nat) (hH:q∈H) (hm:MkAt Z q v l k) (hl:ArgInts (hide Z H) v l) (hll:l.length<=9223372036854775807) (h1:0<n) (h2:n<=100000) :
  Ev (go Tryz.prog HS (.fn 33) [.pointer (some ⟨q,0,none⟩),.int .i64 n] Z) (fun r=>∃ x k' Z',r=⟨false,.int .i64 x,Z'⟩/\0<=x/\x<n/\MkAt Z' q v l k'/\ExtX q Z Z') ⟨⟩:=by
 obtain ⟨a,c,b,off,cells,rfl,l1,l2⟩:=hl.1.use
 have ro:=hm.row
 have rr:=row_of ro
 have hk:=hm.le
 refine ev_go Tryz.func33 rfl rfl ?_
 by_cases hlt:k<l.length
 ·have c1:decide (k<l.length)=true:=decide_eq_true hlt
  obtain ⟨y,hy⟩:=at_some hlt
  obtain ⟨sp,rfl,l3,l4⟩:=l1 om
  have hbq:b∉H:=fun hb=>by rw [hide_mem hb] at l4;cases l4
  have hne:b≠q:=fun h=>hbq (h ▸ hH)
  rw [hide_row hbq] at l4
  rw [hide_n] at l3
  have s1:=l2 k y hy
  have e1:(((k+1:Nat):Int)-1)=(k:Int):=om
  simp (maxSteps:=8000000) (disch:=first|exact dS|fail) only [↓bD,bW,reduceMul,reduceEqDiff,reduceAdd,Nat.reduceBEq,reduceIte,Option.isNone_none,↓ld75,↓st75,↓fa75_0,↓fi75_0,↓fa75_1,↓fi75_1,rr,ro,c1,l4,s1,e1,nn_ptr]
  have hn64:=hl.2 y (List.mem_of_getElem? hy)
  refine (mod1_ok hn64 h1 om).mono ?_
  rintro r rfl
  simp (maxSteps:=8000000) (disch:=first|exact dS|fail) only [↓bD,bW,reduceMul,reduceEqDiff,reduceAdd,Nat.reduceBEq,reduceIte,Option.isNone_none,↓ld75,↓st75,↓fa75_0,↓fi75_0,↓fa75_1,↓fi75_1,asx (Ext.refl _),Tryz.results33]
  try refine Must.intro (by (repeat first|simp (disch:=omega) only [as_read,as_upd,as_newb,asx (Ext.refl _)]|rw [as_ord (by kernel_rfl)]);first|done|rfl) ?_
  try simp (maxSteps:=8000000) (disch:=first|exact dS|fail) only [↓bD,bW,reduceMul,reduceEqDiff,reduceAdd,Nat.reduceBEq,reduceIte,Option.isNone_none,↓ld75,↓st75,↓fa75_0,↓fi75_0,↓fa75_1,↓fi75_1,Tryz.results33]
  exact ⟨_,k+1,_,rfl,Int.emod_nonneg _ om,Int.emod_lt_of_pos _ h1,⟨cL,hm.lt,om⟩,ExtX.refl.upd _⟩
 ·have c1:decide (k<l.length)=false:=decide_eq_false hlt
  simp (maxSteps:=8000000) (disch:=first|exact dS|fail) only [↓bD,bW,reduceMul,reduceEqDiff,reduceAdd,Nat.reduceBEq,reduceIte,Option.isNone_none,↓ld75,↓st75,↓fa75_0,↓fi75_0,↓fa75_1,↓fi75_1,rr,c1,nn_ptr,Tryz.results33]
  exact ⟨0,k,_,rfl,om,h1,hm,.refl⟩
theorem ExtX.keepH {q:Nat}{Z Z':St}{H:List Nat}(h:ExtX q Z Z') (hq:q∈H):Keep (hide Z H) (hide Z' H):=keep_hide h.n fun c hc hm=>⟨hm,h.row hc fun e=>hm (e ▸ hq)⟩
theorem ArgInts.keep {Z Z':St}{v:Value}{l:List Int}(h:ArgInts Z v l) (hE:Keep Z Z'):ArgInts Z' v l:=⟨SL.keep h.1 hE,h.2⟩
structure MS (H:List Nat) (q:Nat) (v:Value) (l:List Int) (Z:St):Prop where
 mem:q∈H
 mker:∃ k,MkAt Z q v l k
 arg:ArgInts (hide Z H) v l
 len:l.length<=9223372036854775807
theorem MS.ext {H:List Nat}{q:Nat}{v:Value}{l:List Int}{Z Z':St}(h:MS H q v l Z) (hE:Ext Z Z'):MS H q v l Z':=by
 obtain ⟨m,⟨k,h1,h2,h3⟩,h4,h5⟩:=h
 exact ⟨m,⟨k,by rw [hE.orow h2];exact h1,Nat.lt_of_lt_of_le h2 hE.n,h3⟩,h4.keep (keep_ext hE),h5⟩
theorem MS.lt {H:List Nat}{q:Nat}{v:Value}{l:List Int}{Z:St}(h:MS H q v l Z):q<Z.n:=by
 obtain ⟨k,hk⟩:=h.mker
 exact hk.lt
theorem nx_ok {H:List Nat}{q:Nat}{v:Value}{l:List Int}{Z:St}{n:Int}(h:MS H q v l Z) (h1:0<n) (h2:n<=100000) :
  Ev (go Tryz.prog HS (.fn 33) [.pointer (some ⟨q,0,none⟩),.int .i64 n] Z) (fun r=>∃ (x:Nat) (Z':St),r=⟨false,.int .i64 (x:Nat),Z'⟩/\(x:Int)<n/\MS H q v l Z'/\ExtX q Z Z') ⟨⟩:=by
 obtain ⟨k,hk⟩:=h.mker
 refine (next_ok H h.mem hk h.arg h.len h1 h2).mono ?_
 rintro r ⟨x,k',Z',rfl,x0,x1,hm,hE⟩
 obtain ⟨X,rfl⟩:=Int.eq_ofNat_of_zero_le x0
 exact ⟨X,Z',rfl,x1,⟨h.mem,⟨k',hm⟩,h.arg.keep (hE.keepH h.mem),h.len⟩,hE⟩
end Go.Proofs.T
