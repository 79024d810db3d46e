/- The program's check of any formula. -/
import Derived.Test.YtbcanmagihejhaaGreatDoorSA
import Derived.Test.YtbcanmagihejhaaGreatDoorRE
import Derived.Test.YtbcanmagihejhaaGreatDoorPD
import Derived.Test.YtbcanmagihejhaaGreatDoorTH
set_option linter.unusedSimpArgs false
set_option linter.unusedVariables false
namespace Go.Proofs.T
open Go Go.Ab
open Nat (reduceMul reduceEqDiff reduceAdd)
set_option maxRecDepth 100000
theorem sizeg_ok {Z:St}{n:Int}(h: -1000000000000000000<=n/\n<=1000000000000000000) :
  Ev (go Tryz.prog HS (.fn 137) [.int .i64 n] Z) (fun r=>r=⟨false,.int .u64 ((n.natAbs:Nat):Int),Z⟩) ⟨⟩:=by
 have wu:∀ m:Int,IntKind.u64.wrap m=m % 18446744073709551616:=fun m=>rfl
 refine ev_go Tryz.func137 rfl rfl ?_
 cases c:decide (n<0) with
 | true =>
   have:=of_decide_eq_true c
   have e1:IntKind.u64.wrap (0-IntKind.u64.wrap n)=((n.natAbs:Nat):Int):=by rw [wu,wu];omega
   refine gS1 (aI @c (aI @e1 @Tryz.results137)) ?_;try exact ⟨⟩
 | false =>
   have:=of_decide_eq_false c
   have e1:IntKind.u64.wrap n=((n.natAbs:Nat):Int):=by rw [wu];omega
   refine gS1 (aI @c (aI @e1 @Tryz.results137)) ?_;try exact ⟨⟩
theorem prightg_ok {Z:St}{n d:Int}(hn: -1000000000000000000<=n/\n<=1000000000000000000) (hd:0<=d/\d<=1000000):Ev (go Tryz.prog HS (.fn 93) [.agg ⟨[.int .i64 n,.int .i64 d]⟩] Z) (fun r=>∃ Z',r=⟨false,.bool (rightQ n d),Z'⟩/\Ext Z Z') ⟨⟩:=by
 unfold rightQ
 refine ev_go Tryz.func93 rfl rfl ?_
 cases c1:decide ((0:Int)<d) with
 | false =>
   rw [decide_eq_false (p:=1<=d) (by have:=of_decide_eq_false c1;omega),Bool.false_and]
   refine gS1 (aI @c1 (aI @yu_t (aI @yu_f @Tryz.results93))) ?_
   exact ⟨_,rfl,eX⟩
 | true =>
   have hd1:1<=d:=by have:=of_decide_eq_true c1;omega
   rw [decide_eq_true hd1,Bool.true_and]
   obtain ⟨D,rfl⟩:=Int.eq_ofNat_of_zero_le (show 0<=d by omega)
   have e5:IntKind.u64.wrap ((D:Nat):Int)=(D:Nat):=wrapU_in om om
   refine gS1 (aI @c1 (aI @yu_t @yu_f)) ?_
   refine (sizeg_ok hn).mono ?_
   rintro r rfl
   have q0:(Z.new [.int .i64 n,.int .i64 (D:Nat)]).row Z.n=some [.int .i64 n,.int .i64 (D:Nat)]:=cL
   refine gS1 (aI @q0 @e5) ?_
   refine gcdU_ok.mono ?_
   rintro r rfl
   have hg:Nat.gcd n.natAbs D=Int.gcd n (D:Nat):=rfl
   rw [hg]
   have z1:decide (((Int.gcd n (D:Nat):Nat):Int)=1)=decide (Int.gcd n (D:Nat)=1):=len_dec (m:=1)
   simp (maxSteps:=8000000) (disch:=first|exact dS|fail) only [↓bD,bW,reduceMul,reduceEqDiff,reduceAdd,Nat.reduceBEq,reduceIte,Option.isNone_none,z1,asx (Ext.refl _)]
   try refine Must.intro (by (repeat first|simp (disch:=omega) only [as_read,as_upd,as_newb,asx (Ext.refl _),z1,e5]|rw [as_ord (by kernel_rfl)]);first|done|rfl) ?_
   try simp (maxSteps:=8000000) (disch:=first|exact dS|fail) only [↓bD,bW,reduceMul,reduceEqDiff,reduceAdd,Nat.reduceBEq,reduceIte,Option.isNone_none,z1,Tryz.results93]
   exact ⟨_,rfl,eX⟩
def rfB (e:Ex) (dp p:Nat):Bool:=soundE e&&decide (depthE e<=dp)&&decide (p+partsE e<=60)
theorem depthE_pos {e:Ex}:1<=depthE e:=by cases e;rw [depthE_mk];omega
theorem rfB_deep {e:Ex}{p:Nat}:rfB e 0 p=false:=by
 unfold rfB
 have:=depthE_pos (e:=e)
 rw [decide_eq_false (p:=depthE e<=0) om,Bool.and_false,Bool.false_and]
theorem rfB_many {e:Ex}{dp p:Nat}(h:60<p+1):rfB e dp p=false:=by
 unfold rfB
 have:=partsE_pos (e:=e)
 rw [decide_eq_false (p:=p+partsE e<=60) om,Bool.and_false]
theorem rfB_no {op nm:By}{n d:Int}{es:List Ex}{dp p:Nat}(h:fitsP op n d nm es.length=false):rfB (.mk op n d nm es) dp p=false:=by
 unfold rfB
 rw [soundE_mk,h,Bool.false_and,Bool.false_and,Bool.false_and]
theorem rfB_leaf {op nm:By}{n d:Int}{es:List Ex}{dp p:Nat}(h:fitsP op n d nm es.length=true) (h0:es.length=0) (h1:1<=dp) (h2:p+1<=60):rfB (.mk op n d nm es) dp p=true/\partsE (.mk op n d nm es)=1:=by
 obtain rfl:=List.eq_nil_of_length_eq_zero h0
 refine ⟨?_,by rw [partsE_mk,partsL_nil]⟩
 unfold rfB
 rw [soundE_mk,h,soundL_nil,depthE_mk,depthL_nil,partsE_mk,partsL_nil,decide_eq_true om,decide_eq_true om]
 rfl
theorem rfB_two {op nm:By}{n d:Int}{a b:Ex}{dp p:Nat}(h:fitsP op n d nm 2=true):rfB (.mk op n d nm [a,b]) (dp+1) p=(rfB a dp (p+1)&&rfB b dp (p+1+partsE a)):=by
 unfold rfB
 rw [soundE_mk,show ([a,b]:List Ex).length=2 from rfl,h,soundL_cons,soundL_cons,soundL_nil,depthE_mk,depthL_cons,depthL_cons,depthL_nil,partsE_mk,partsL_cons,partsL_cons,partsL_nil]
 have:=partsE_pos (e:=b)
 rw [Bool.eq_iff_iff]
 simp only [Bool.and_eq_true,decide_eq_true_eq,Bool.true_and,and_true]
 constructor
 ·rintro ⟨⟨⟨h1,h2⟩,h3⟩,h4⟩
  exact ⟨⟨⟨h1,om⟩,om⟩,⟨h2,om⟩,om⟩
 ·rintro ⟨⟨⟨h1,h3⟩,h4⟩,⟨h2,h5⟩,h6⟩
  exact ⟨⟨⟨h1,h2⟩,om⟩,om⟩
def RfG (e:Ex):Prop:=∀ {Z0 Z:St}{row:List Value}{p dp cb:Nat},ExAt Z0 row e->Ext Z0 Z->Z0.n<=cb->cb<Z.n->Z.orow cb=some [.int .i64 (p:Nat)]->dp<=12->p<=60 ->
 Ev (go Tryz.prog HS (.fn 54) [.agg ⟨row⟩,.int .i64 (dp:Nat),.pointer (some ⟨cb,0,none⟩)] Z) (fun r=>∃ Z',r=⟨false,.bool (rfB e dp p),Z'⟩/\ExtX cb Z Z'/\(rfB e dp p=true->Z'.orow cb=some [.int .i64 (p+partsE e:Nat)])) ⟨⟩
set_option maxHeartbeats 32000000 in
theorem rfg_ok:∀ (s:Nat){w:Nat}{e:Ex},SizeOf.sizeOf e<s->WfE w e->w<=4->RfG e:=by
 intro s
 induction s with
 | zero=>intro w e hs;omega
 | succ s ih =>
   intro w e hs hw hw4 Z0 Z row p dp cb he hE0 hcb hlt ho hd hp
   obtain ⟨o,n,d,nm,es⟩:=e
   obtain ⟨v,rows,rfl,h1,-,h2⟩:=he
   obtain ⟨a,c,B,off,cells,rfl,s1,s2⟩:=ExsAt.slice h1 h2
   obtain ⟨k1,k2,k3,k4,k5,k6⟩:=WfE_mk.1 hw
   obtain ⟨k,hk⟩:∃ k,es.length=k:=⟨_,rfl⟩
   rw [hk]
   have rr:=row_of ho
   have hne:cb≠Z.n:=om
   have E0':Ext Z (Z.new [str o,.int .i64 n,.int .i64 d,str nm,.slice a k c]):=eX
   obtain ⟨R,hR⟩:∃ R:List Value,[str o,.int .i64 n,.int .i64 d,str nm,.slice a k c]=R:=⟨_,rfl⟩
   have q0:sub R 0 1=some [str o]:=by rw [<- hR];rfl
   have q1:sub R 1 2=some [.int .i64 n,.int .i64 d]:=by rw [<- hR];rfl
   have q11:sub R 1 1=some [.int .i64 n]:=by rw [<- hR];rfl
   have q12:sub R 2 1=some [.int .i64 d]:=by rw [<- hR];rfl
   have q3:sub R 3 1=some [str nm]:=by rw [<- hR];rfl
   have q4:sub R 4 1=some [.slice a k c]:=by rw [<- hR];rfl
   have qf:sub R 0 5=some R:=by rw [<- hR];rfl
   have ql:R.length=5:=by rw [<- hR];rfl
   have lk0:decide (((k:Nat):Int)=0)=decide (k=0):=len_dec (m:=0)
   have lk2:decide (((k:Nat):Int)=2)=decide (k=2):=len_dec (m:=2)
   rw [hR]
   rw [hR] at E0'
   obtain ⟨S,hS⟩:∃ S,(Z.new R).upd cb [.int .i64 ((p+1:Nat):Int)]=S:=⟨_,rfl⟩
   have EX0:ExtX cb Z S:=by rw [<- hS];exact (ExtX.of E0').upd _
   have oS:S.orow cb=some [.int .i64 (p+1:Nat)]:=by rw [<- hS];exact cL
   have nS:S.n=Z.n+1:=by rw [<- hS];rfl
   have wS:S.row Z.n=some R:=by rw [<- hS];exact cL
   have ES:Ext Z0 S:=EX0.ext hE0 hcb
   have no:∀ {τ:St} {b:Bool},ExtX cb Z τ->b=false->∃ Z',(⟨false,.bool false,τ⟩:CR)=⟨false,.bool b,Z'⟩/\ExtX cb Z Z'/\(b=true->Z'.orow cb=some [.int .i64 (p+partsE (.mk o n d nm es):Nat)]):=fun {τ b} h hb=>by
    subst hb
    exact ⟨_,rfl,h,fun h=>by cases h⟩
   refine ev_go Tryz.func54 rfl rfl ?_
   cases c0:decide (((dp:Nat):Int)=0) with
   | true =>
     obtain rfl:dp=0:=by have:=of_decide_eq_true c0;omega
     refine gS1 (aI @qf (aI @ql (aI @q0 (aI @rr (aI @ho (aI @c0 (aI @yu_t (aI @yu_f @Tryz.results54)))))))) ?_
     rw [hS]
     exact no EX0 rfB_deep
   | false =>
   have dp1:1<=dp:=by have:=of_decide_eq_false c0;omega
   cases c1:decide ((60:Int)<((p+1:Nat):Int)) with
   | true =>
     refine gS1 (aI @qf (aI @ql (aI @q0 (aI @rr (aI @ho (aI @c0 (aI @c1 (aI @yu_t (aI @yu_f @Tryz.results54))))))))) ?_
     rw [hS]
     exact no EX0 (rfB_many (by have:=of_decide_eq_true c1;omega))
   | false =>
   have p1:p+1<=60:=by have:=of_decide_eq_false c1;omega
   cases d1:decide (o=[110,117,109]) with
   | true =>
     obtain rfl:o=[110,117,109]:=of_decide_eq_true d1
     have fq:∀ b,(rightQ n d&&decide (0<=n)&&decide ((1000000:Int) % d=0)&&decide (n<=1000000000*d)&&decide (nm=[])&&decide (k=0))=b->fitsP [110,117,109] n d nm es.length=b:=fun b h=>by rw [hk];exact Eq.trans fitsP_num h
     refine gS1 (aI @qf (aI @ql (aI @q0 (aI @q1 (aI @q11 (aI @q12 (aI @q3 (aI @q4 (aI @rr (aI @ho (aI @c0 (aI @c1 (aI @d1 (aI @yu_t @yu_f)))))))))))))) ?_
     rw [hS]
     refine (prightg_ok (n:=n) (d:=d) ⟨om,om⟩ k4).mono ?_
     rintro r ⟨Z2,rfl,hE2⟩
     have n2:=hE2.n
     have w1:Z2.row Z.n=some R:=by rw [hE2.row om];exact wS
     have EX:ExtX cb Z Z2:=EX0.trans (.of hE2)
     have o2:Z2.orow cb=some [.int .i64 (p+1:Nat)]:=by rw [hE2.orow om];exact oS
     cases b1:rightQ n d
     ·refine gS1 (aI @w1 (aI @q1 (aI @q11 (aI @q12 (aI @q3 (aI @q4 (aI @yu_t (aI @yu_f @Tryz.results54)))))))) ?_
      exact no EX (rfB_no (fq _ (by rw [b1];rfl)))
     have hd1:1<=d:=by unfold rightQ at b1;simp only [Bool.and_eq_true,decide_eq_true_eq] at b1;exact b1.1
     have z0:decide (d=0)=false:=decide_eq_false om
     cases b2:decide (n<0)
     case true =>
      have b2':decide (0<=n)=false:=decide_eq_false (by have:=of_decide_eq_true b2;omega)
      refine gS1 (aI @w1 (aI @q1 (aI @q11 (aI @q12 (aI @q3 (aI @q4 (aI @b2 (aI @z0 (aI @yu_t (aI @yu_f @Tryz.results54)))))))))) ?_
      exact no EX (rfB_no (fq _ (by rw [b1,b2'];rfl)))
     have hn0:0<=n:=by have:=of_decide_eq_false b2;omega
     have b2':decide (0<=n)=true:=decide_eq_true hn0
     have hm:(1000000:Int).tmod d=1000000 % d:=Int.tmod_eq_emod_of_nonneg om
     cases b3:decide ((1000000:Int) % d=0)
     ·refine gS1 (aI @w1 (aI @q1 (aI @q11 (aI @q12 (aI @q3 (aI @q4 (aI @b2 (aI @z0 (aI @hm (aI @b3 (aI @yu_t (aI @yu_f @Tryz.results54)))))))))))) ?_
      exact no EX (rfB_no (fq _ (by rw [b1,b2',b3];rfl)))
     cases b4:decide (1000000000*d<n)
     case true =>
      have b4':decide (n<=1000000000*d)=false:=decide_eq_false (by have:=of_decide_eq_true b4;omega)
      refine gS1 (aI @w1 (aI @q1 (aI @q11 (aI @q12 (aI @q3 (aI @q4 (aI @b2 (aI @z0 (aI @hm (aI @b3 (aI @b4 (aI @yu_t (aI @yu_f @Tryz.results54))))))))))))) ?_
      exact no EX (rfB_no (fq _ (by rw [b1,b2',b3,b4'];rfl)))
     have b4':decide (n<=1000000000*d)=true:=decide_eq_true (by have:=of_decide_eq_false b4;omega)
     cases b5:decide (nm=[])
     ·refine gS1 (aI @w1 (aI @q1 (aI @q11 (aI @q12 (aI @q3 (aI @q4 (aI @b2 (aI @z0 (aI @hm (aI @b3 (aI @b4 (aI @b5 (aI @yu_t (aI @yu_f @Tryz.results54)))))))))))))) ?_
      exact no EX (rfB_no (fq _ (by rw [b1,b2',b3,b4',b5];rfl)))
     cases b6:decide (k=0)
     ·refine gS1 (aI @w1 (aI @q1 (aI @q11 (aI @q12 (aI @q3 (aI @q4 (aI @b2 (aI @z0 (aI @hm (aI @b3 (aI @b4 (aI @b5 (aI @lk0 (aI @b6 (aI @yu_t (aI @yu_f @Tryz.results54)))))))))))))))) ?_
      exact no EX (rfB_no (fq _ (by rw [b1,b2',b3,b4',b5,b6];rfl)))
     ·obtain ⟨l1,l2⟩:=rfB_leaf (p:=p) (fq true (by rw [b1,b2',b3,b4',b5,b6];rfl)) (by rw [hk];exact of_decide_eq_true b6) dp1 p1
      rw [l1,l2]
      refine gS1 (aI @w1 (aI @q1 (aI @q11 (aI @q12 (aI @q3 (aI @q4 (aI @b2 (aI @z0 (aI @hm (aI @b3 (aI @b4 (aI @b5 (aI @lk0 (aI @b6 (aI @yu_t (aI @yu_f @Tryz.results54)))))))))))))))) ?_
      exact ⟨_,rfl,EX,fun _=>o2⟩
   | false =>
   have o1:o≠numB3:=of_decide_eq_false d1
   cases d2:decide (o=[110,97,109,101]) with
   | true =>
     obtain rfl:o=[110,97,109,101]:=of_decide_eq_true d2
     have fq:∀ b,(nameB nm&& !decide (nm=minB)&& !decide (nm=maxB)&&(decide (n=0)&&decide (d=0))&&decide (k=0))=b->fitsP [110,97,109,101] n d nm es.length=b:=fun b h=>by rw [hk];exact Eq.trans fitsP_name h
     refine gS1 (aI @qf (aI @ql (aI @q0 (aI @q1 (aI @q3 (aI @q4 (aI @rr (aI @ho (aI @c0 (aI @c1 (aI @d1 (aI @d2 (aI @yu_t @yu_f))))))))))))) ?_
     rw [hS]
     refine (isname_ok om).mono ?_
     rintro r rfl
     have EX:=EX0
     cases b1:nameB nm
     ·refine gS1 (aI @wS (aI @q1 (aI @q3 (aI @q4 (aI @yu_t (aI @yu_f @Tryz.results54)))))) ?_
      exact no EX (rfB_no (fq _ (by rw [b1];rfl)))
     cases b2:decide (nm=[109,105,110])
     case true =>
      refine gS1 (aI @wS (aI @q1 (aI @q3 (aI @q4 (aI @b2 (aI @yu_t (aI @yu_f @Tryz.results54))))))) ?_
      exact no EX (rfB_no (fq _ (by rw [b1,show decide (nm=minB)=true from b2];rfl)))
     have b2':decide (nm=minB)=false:=b2
     cases b3:decide (nm=[109,97,120])
     case true =>
      refine gS1 (aI @wS (aI @q1 (aI @q3 (aI @q4 (aI @b2 (aI @b3 (aI @yu_t (aI @yu_f @Tryz.results54)))))))) ?_
      exact no EX (rfB_no (fq _ (by rw [b1,b2',show decide (nm=maxB)=true from b3];rfl)))
     have b3':decide (nm=maxB)=false:=b3
     cases b4:(decide (n=0)&&decide (d=0))
     ·simp (maxSteps:=8000000) (disch:=first|exact dS|fail) only [↓bD,bW,reduceMul,reduceEqDiff,reduceAdd,Nat.reduceBEq,reduceIte,Option.isNone_none,wS,q1,q3,q4,b2,b3,b2_rat.1,b4,yu_t,yu_f,Tryz.results54]
      exact no EX (rfB_no (fq _ (by rw [b1,b2',b3',b4];rfl)))
     cases b5:decide (k=0)
     ·simp (maxSteps:=8000000) (disch:=first|exact dS|fail) only [↓bD,bW,reduceMul,reduceEqDiff,reduceAdd,Nat.reduceBEq,reduceIte,Option.isNone_none,wS,q1,q3,q4,b2,b3,b2_rat.1,b4,lk0,b5,yu_t,yu_f,Tryz.results54]
      exact no EX (rfB_no (fq _ (by rw [b1,b2',b3',b4,b5];rfl)))
     ·obtain ⟨l1,l2⟩:=rfB_leaf (p:=p) (fq true (by rw [b1,b2',b3',b4,b5];rfl)) (by rw [hk];exact of_decide_eq_true b5) dp1 p1
      rw [l1,l2]
      simp (maxSteps:=8000000) (disch:=first|exact dS|fail) only [↓bD,bW,reduceMul,reduceEqDiff,reduceAdd,Nat.reduceBEq,reduceIte,Option.isNone_none,wS,q1,q3,q4,b2,b3,b2_rat.1,b4,lk0,b5,yu_t,yu_f,Tryz.results54]
      exact ⟨_,rfl,EX,fun _=>oS⟩
   | false =>
   have o2:o≠nmB:=of_decide_eq_false d2
   have EX:=EX0
   cases z3:decide (k=2) with
   | false =>
     cases a1:decide (o=[43])
     case true =>
      have hop:o=[43]\/o=[45]\/o=[42]\/o=[47]\/o=minB\/o=maxB:=(.inl (of_decide_eq_true a1))
      simp (maxSteps:=8000000) (disch:=first|exact dS|fail) only [↓bD,bW,reduceMul,reduceEqDiff,reduceAdd,Nat.reduceBEq,reduceIte,Option.isNone_none,qf,ql,q0,q1,q3,q4,rr,ho,c0,c1,d1,d2,b2_rat.1,lk2,z3,a1,yu_t,yu_f,Tryz.results54]
      rw [hS]
      exact no EX (rfB_no (by rw [fitsP_op hop,hk,z3,Bool.and_false]))
     cases a2:decide (o=[45])
     case true =>
      have hop:o=[43]\/o=[45]\/o=[42]\/o=[47]\/o=minB\/o=maxB:=(.inr (.inl (of_decide_eq_true a2)))
      simp (maxSteps:=8000000) (disch:=first|exact dS|fail) only [↓bD,bW,reduceMul,reduceEqDiff,reduceAdd,Nat.reduceBEq,reduceIte,Option.isNone_none,qf,ql,q0,q1,q3,q4,rr,ho,c0,c1,d1,d2,b2_rat.1,lk2,z3,a1,a2,yu_t,yu_f,Tryz.results54]
      rw [hS]
      exact no EX (rfB_no (by rw [fitsP_op hop,hk,z3,Bool.and_false]))
     cases a3:decide (o=[42])
     case true =>
      have hop:o=[43]\/o=[45]\/o=[42]\/o=[47]\/o=minB\/o=maxB:=(.inr (.inr (.inl (of_decide_eq_true a3))))
      simp (maxSteps:=8000000) (disch:=first|exact dS|fail) only [↓bD,bW,reduceMul,reduceEqDiff,reduceAdd,Nat.reduceBEq,reduceIte,Option.isNone_none,qf,ql,q0,q1,q3,q4,rr,ho,c0,c1,d1,d2,b2_rat.1,lk2,z3,a1,a2,a3,yu_t,yu_f,Tryz.results54]
      rw [hS]
      exact no EX (rfB_no (by rw [fitsP_op hop,hk,z3,Bool.and_false]))
     cases a4:decide (o=[47])
     case true =>
      have hop:o=[43]\/o=[45]\/o=[42]\/o=[47]\/o=minB\/o=maxB:=(.inr (.inr (.inr (.inl (of_decide_eq_true a4)))))
      simp (maxSteps:=8000000) (disch:=first|exact dS|fail) only [↓bD,bW,reduceMul,reduceEqDiff,reduceAdd,Nat.reduceBEq,reduceIte,Option.isNone_none,qf,ql,q0,q1,q3,q4,rr,ho,c0,c1,d1,d2,b2_rat.1,lk2,z3,a1,a2,a3,a4,yu_t,yu_f,Tryz.results54]
      rw [hS]
      exact no EX (rfB_no (by rw [fitsP_op hop,hk,z3,Bool.and_false]))
     cases a5:decide (o=[109,105,110])
     case true =>
      have hop:o=[43]\/o=[45]\/o=[42]\/o=[47]\/o=minB\/o=maxB:=(.inr (.inr (.inr (.inr (.inl (of_decide_eq_true a5))))))
      simp (maxSteps:=8000000) (disch:=first|exact dS|fail) only [↓bD,bW,reduceMul,reduceEqDiff,reduceAdd,Nat.reduceBEq,reduceIte,Option.isNone_none,qf,ql,q0,q1,q3,q4,rr,ho,c0,c1,d1,d2,b2_rat.1,lk2,z3,a1,a2,a3,a4,a5,yu_t,yu_f,Tryz.results54]
      rw [hS]
      exact no EX (rfB_no (by rw [fitsP_op hop,hk,z3,Bool.and_false]))
     cases a6:decide (o=[109,97,120])
     case true =>
      have hop:o=[43]\/o=[45]\/o=[42]\/o=[47]\/o=minB\/o=maxB:=(.inr (.inr (.inr (.inr (.inr (of_decide_eq_true a6))))))
      simp (maxSteps:=8000000) (disch:=first|exact dS|fail) only [↓bD,bW,reduceMul,reduceEqDiff,reduceAdd,Nat.reduceBEq,reduceIte,Option.isNone_none,qf,ql,q0,q1,q3,q4,rr,ho,c0,c1,d1,d2,b2_rat.1,lk2,z3,a1,a2,a3,a4,a5,a6,yu_t,yu_f,Tryz.results54]
      rw [hS]
      exact no EX (rfB_no (by rw [fitsP_op hop,hk,z3,Bool.and_false]))
     simp (maxSteps:=8000000) (disch:=first|exact dS|fail) only [↓bD,bW,reduceMul,reduceEqDiff,reduceAdd,Nat.reduceBEq,reduceIte,Option.isNone_none,qf,ql,q0,q1,q3,q4,rr,ho,c0,c1,d1,d2,b2_rat.1,a1,a2,a3,a4,a5,a6,yu_t,yu_f,Tryz.results54]
     rw [hS]
     exact no EX (rfB_no (fitsP_no o1 o2 (by
      rintro (h|h|h|h|h|h)
      ·exact of_decide_eq_false a1 h
      ·exact of_decide_eq_false a2 h
      ·exact of_decide_eq_false a3 h
      ·exact of_decide_eq_false a4 h
      ·exact of_decide_eq_false a5 h
      ·exact of_decide_eq_false a6 h)))
   | true =>
   obtain rfl:k=2:=of_decide_eq_true z3
   cases b1:(decide (n=0)&&decide (d=0)) with
   | false =>
     cases a1:decide (o=[43])
     case true =>
      have hop:o=[43]\/o=[45]\/o=[42]\/o=[47]\/o=minB\/o=maxB:=(.inl (of_decide_eq_true a1))
      simp (maxSteps:=8000000) (disch:=first|exact dS|fail) only [↓bD,bW,reduceMul,reduceEqDiff,reduceAdd,Nat.reduceBEq,reduceIte,Option.isNone_none,qf,ql,q0,q1,q3,q4,rr,ho,c0,c1,d1,d2,b2_rat.1,lk2,z3,b1,a1,yu_t,yu_f,Tryz.results54]
      rw [hS]
      exact no EX (rfB_no (by rw [fitsP_op hop,b1];rfl))
     cases a2:decide (o=[45])
     case true =>
      have hop:o=[43]\/o=[45]\/o=[42]\/o=[47]\/o=minB\/o=maxB:=(.inr (.inl (of_decide_eq_true a2)))
      simp (maxSteps:=8000000) (disch:=first|exact dS|fail) only [↓bD,bW,reduceMul,reduceEqDiff,reduceAdd,Nat.reduceBEq,reduceIte,Option.isNone_none,qf,ql,q0,q1,q3,q4,rr,ho,c0,c1,d1,d2,b2_rat.1,lk2,z3,b1,a1,a2,yu_t,yu_f,Tryz.results54]
      rw [hS]
      exact no EX (rfB_no (by rw [fitsP_op hop,b1];rfl))
     cases a3:decide (o=[42])
     case true =>
      have hop:o=[43]\/o=[45]\/o=[42]\/o=[47]\/o=minB\/o=maxB:=(.inr (.inr (.inl (of_decide_eq_true a3))))
      simp (maxSteps:=8000000) (disch:=first|exact dS|fail) only [↓bD,bW,reduceMul,reduceEqDiff,reduceAdd,Nat.reduceBEq,reduceIte,Option.isNone_none,qf,ql,q0,q1,q3,q4,rr,ho,c0,c1,d1,d2,b2_rat.1,lk2,z3,b1,a1,a2,a3,yu_t,yu_f,Tryz.results54]
      rw [hS]
      exact no EX (rfB_no (by rw [fitsP_op hop,b1];rfl))
     cases a4:decide (o=[47])
     case true =>
      have hop:o=[43]\/o=[45]\/o=[42]\/o=[47]\/o=minB\/o=maxB:=(.inr (.inr (.inr (.inl (of_decide_eq_true a4)))))
      simp (maxSteps:=8000000) (disch:=first|exact dS|fail) only [↓bD,bW,reduceMul,reduceEqDiff,reduceAdd,Nat.reduceBEq,reduceIte,Option.isNone_none,qf,ql,q0,q1,q3,q4,rr,ho,c0,c1,d1,d2,b2_rat.1,lk2,z3,b1,a1,a2,a3,a4,yu_t,yu_f,Tryz.results54]
      rw [hS]
      exact no EX (rfB_no (by rw [fitsP_op hop,b1];rfl))
     cases a5:decide (o=[109,105,110])
     case true =>
      have hop:o=[43]\/o=[45]\/o=[42]\/o=[47]\/o=minB\/o=maxB:=(.inr (.inr (.inr (.inr (.inl (of_decide_eq_true a5))))))
      simp (maxSteps:=8000000) (disch:=first|exact dS|fail) only [↓bD,bW,reduceMul,reduceEqDiff,reduceAdd,Nat.reduceBEq,reduceIte,Option.isNone_none,qf,ql,q0,q1,q3,q4,rr,ho,c0,c1,d1,d2,b2_rat.1,lk2,z3,b1,a1,a2,a3,a4,a5,yu_t,yu_f,Tryz.results54]
      rw [hS]
      exact no EX (rfB_no (by rw [fitsP_op hop,b1];rfl))
     cases a6:decide (o=[109,97,120])
     case true =>
      have hop:o=[43]\/o=[45]\/o=[42]\/o=[47]\/o=minB\/o=maxB:=(.inr (.inr (.inr (.inr (.inr (of_decide_eq_true a6))))))
      simp (maxSteps:=8000000) (disch:=first|exact dS|fail) only [↓bD,bW,reduceMul,reduceEqDiff,reduceAdd,Nat.reduceBEq,reduceIte,Option.isNone_none,qf,ql,q0,q1,q3,q4,rr,ho,c0,c1,d1,d2,b2_rat.1,lk2,z3,b1,a1,a2,a3,a4,a5,a6,yu_t,yu_f,Tryz.results54]
      rw [hS]
      exact no EX (rfB_no (by rw [fitsP_op hop,b1];rfl))
     simp (maxSteps:=8000000) (disch:=first|exact dS|fail) only [↓bD,bW,reduceMul,reduceEqDiff,reduceAdd,Nat.reduceBEq,reduceIte,Option.isNone_none,qf,ql,q0,q1,q3,q4,rr,ho,c0,c1,d1,d2,b2_rat.1,a1,a2,a3,a4,a5,a6,yu_t,yu_f,Tryz.results54]
     rw [hS]
     exact no EX (rfB_no (fitsP_no o1 o2 (by
      rintro (h|h|h|h|h|h)
      ·exact of_decide_eq_false a1 h
      ·exact of_decide_eq_false a2 h
      ·exact of_decide_eq_false a3 h
      ·exact of_decide_eq_false a4 h
      ·exact of_decide_eq_false a5 h
      ·exact of_decide_eq_false a6 h)))
   | true =>
   cases b2:decide (nm=[]) with
   | false =>
     cases a1:decide (o=[43])
     case true =>
      have hop:o=[43]\/o=[45]\/o=[42]\/o=[47]\/o=minB\/o=maxB:=(.inl (of_decide_eq_true a1))
      simp (maxSteps:=8000000) (disch:=first|exact dS|fail) only [↓bD,bW,reduceMul,reduceEqDiff,reduceAdd,Nat.reduceBEq,reduceIte,Option.isNone_none,qf,ql,q0,q1,q3,q4,rr,ho,c0,c1,d1,d2,b2_rat.1,lk2,z3,b1,b2,a1,yu_t,yu_f,Tryz.results54]
      rw [hS]
      exact no EX (rfB_no (by rw [fitsP_op hop,b1,b2];rfl))
     cases a2:decide (o=[45])
     case true =>
      have hop:o=[43]\/o=[45]\/o=[42]\/o=[47]\/o=minB\/o=maxB:=(.inr (.inl (of_decide_eq_true a2)))
      simp (maxSteps:=8000000) (disch:=first|exact dS|fail) only [↓bD,bW,reduceMul,reduceEqDiff,reduceAdd,Nat.reduceBEq,reduceIte,Option.isNone_none,qf,ql,q0,q1,q3,q4,rr,ho,c0,c1,d1,d2,b2_rat.1,lk2,z3,b1,b2,a1,a2,yu_t,yu_f,Tryz.results54]
      rw [hS]
      exact no EX (rfB_no (by rw [fitsP_op hop,b1,b2];rfl))
     cases a3:decide (o=[42])
     case true =>
      have hop:o=[43]\/o=[45]\/o=[42]\/o=[47]\/o=minB\/o=maxB:=(.inr (.inr (.inl (of_decide_eq_true a3))))
      simp (maxSteps:=8000000) (disch:=first|exact dS|fail) only [↓bD,bW,reduceMul,reduceEqDiff,reduceAdd,Nat.reduceBEq,reduceIte,Option.isNone_none,qf,ql,q0,q1,q3,q4,rr,ho,c0,c1,d1,d2,b2_rat.1,lk2,z3,b1,b2,a1,a2,a3,yu_t,yu_f,Tryz.results54]
      rw [hS]
      exact no EX (rfB_no (by rw [fitsP_op hop,b1,b2];rfl))
     cases a4:decide (o=[47])
     case true =>
      have hop:o=[43]\/o=[45]\/o=[42]\/o=[47]\/o=minB\/o=maxB:=(.inr (.inr (.inr (.inl (of_decide_eq_true a4)))))
      simp (maxSteps:=8000000) (disch:=first|exact dS|fail) only [↓bD,bW,reduceMul,reduceEqDiff,reduceAdd,Nat.reduceBEq,reduceIte,Option.isNone_none,qf,ql,q0,q1,q3,q4,rr,ho,c0,c1,d1,d2,b2_rat.1,lk2,z3,b1,b2,a1,a2,a3,a4,yu_t,yu_f,Tryz.results54]
      rw [hS]
      exact no EX (rfB_no (by rw [fitsP_op hop,b1,b2];rfl))
     cases a5:decide (o=[109,105,110])
     case true =>
      have hop:o=[43]\/o=[45]\/o=[42]\/o=[47]\/o=minB\/o=maxB:=(.inr (.inr (.inr (.inr (.inl (of_decide_eq_true a5))))))
      simp (maxSteps:=8000000) (disch:=first|exact dS|fail) only [↓bD,bW,reduceMul,reduceEqDiff,reduceAdd,Nat.reduceBEq,reduceIte,Option.isNone_none,qf,ql,q0,q1,q3,q4,rr,ho,c0,c1,d1,d2,b2_rat.1,lk2,z3,b1,b2,a1,a2,a3,a4,a5,yu_t,yu_f,Tryz.results54]
      rw [hS]
      exact no EX (rfB_no (by rw [fitsP_op hop,b1,b2];rfl))
     cases a6:decide (o=[109,97,120])
     case true =>
      have hop:o=[43]\/o=[45]\/o=[42]\/o=[47]\/o=minB\/o=maxB:=(.inr (.inr (.inr (.inr (.inr (of_decide_eq_true a6))))))
      simp (maxSteps:=8000000) (disch:=first|exact dS|fail) only [↓bD,bW,reduceMul,reduceEqDiff,reduceAdd,Nat.reduceBEq,reduceIte,Option.isNone_none,qf,ql,q0,q1,q3,q4,rr,ho,c0,c1,d1,d2,b2_rat.1,lk2,z3,b1,b2,a1,a2,a3,a4,a5,a6,yu_t,yu_f,Tryz.results54]
      rw [hS]
      exact no EX (rfB_no (by rw [fitsP_op hop,b1,b2];rfl))
     simp (maxSteps:=8000000) (disch:=first|exact dS|fail) only [↓bD,bW,reduceMul,reduceEqDiff,reduceAdd,Nat.reduceBEq,reduceIte,Option.isNone_none,qf,ql,q0,q1,q3,q4,rr,ho,c0,c1,d1,d2,b2_rat.1,a1,a2,a3,a4,a5,a6,yu_t,yu_f,Tryz.results54]
     rw [hS]
     exact no EX (rfB_no (fitsP_no o1 o2 (by
      rintro (h|h|h|h|h|h)
      ·exact of_decide_eq_false a1 h
      ·exact of_decide_eq_false a2 h
      ·exact of_decide_eq_false a3 h
      ·exact of_decide_eq_false a4 h
      ·exact of_decide_eq_false a5 h
      ·exact of_decide_eq_false a6 h)))
   | true =>
   obtain ⟨x,y,rfl⟩:∃ x y,es=[x,y]:=by
    match es,hk with
    | [x,y],_=>exact ⟨x,y,rfl⟩
   obtain ⟨r1,t1,x1⟩:=s2 0 x rfl
   obtain ⟨r2,t2,x2⟩:=s2 1 y rfl
   obtain ⟨sp,rfl,l3,l4⟩:=s1 (by simp)
   rw [Nat.zero_mul,Nat.add_zero] at t1
   rw [Nat.one_mul] at t2
   obtain ⟨dp,rfl⟩:∃ x,dp=x+1:=⟨dp-1,om⟩
   have len1:=x1.len
   have len2:=x2.len
   have hf1:sub r1 0 5=some r1:=sub_full om om
   have hf2:sub r2 0 5=some r2:=sub_full om om
   have l3':B<Z.n:=Nat.lt_of_lt_of_le l3 hE0.n
   have hB:B≠cb:=om
   have lB:Z.row B=some cells:=by rw [hE0.row l3];exact l4
   have lBS:S.row B=some cells:=by rw [EX0.row l3' hB];exact lB
   have e1:((dp+1:Nat):Int)-1=(dp:Nat):=om
   have wx:=WfL.get (k:=0) k6 rfl
   have wy:=WfL.get (k:=1) k6 rfl
   have sx:SizeOf.sizeOf x<s:=by simp at hs;omega
   have sy:SizeOf.sizeOf y<s:=by simp at hs;omega
   have ihx:RfG x:=@ih _ _ sx wx hw4
   have ihy:RfG y:=@ih _ _ sy wy hw4
   cases a1:decide (o=[43])
   case' true =>
    have hop:o=[43]\/o=[45]\/o=[42]\/o=[47]\/o=minB\/o=maxB:=(.inl (of_decide_eq_true a1))
    simp (maxSteps:=8000000) (disch:=first|exact dS|fail) only [↓bD,bW,reduceMul,reduceEqDiff,reduceAdd,Nat.reduceBEq,reduceIte,Option.isNone_none,qf,ql,q0,q1,q3,q4,rr,ho,c0,c1,d1,d2,b2_rat.1,wS,lB,lBS,t1,t2,hf1,hf2,e1,lk2,z3,b1,b2,Nat.add_zero,a1,yu_t,yu_f]
    rw [hS]
    try simp (maxSteps:=8000000) (disch:=first|exact dS|fail) only [↓bD,bW,reduceMul,reduceEqDiff,reduceAdd,Nat.reduceBEq,reduceIte,Option.isNone_none,qf,ql,q0,q1,q3,q4,rr,ho,c0,c1,d1,d2,b2_rat.1,wS,lB,lBS,t1,t2,hf1,hf2,e1,lk2,z3,b1,b2,Nat.add_zero,a1,yu_t,yu_f]
   case' false =>
    cases a2:decide (o=[45])
    case' true =>
     have hop:o=[43]\/o=[45]\/o=[42]\/o=[47]\/o=minB\/o=maxB:=(.inr (.inl (of_decide_eq_true a2)))
     simp (maxSteps:=8000000) (disch:=first|exact dS|fail) only [↓bD,bW,reduceMul,reduceEqDiff,reduceAdd,Nat.reduceBEq,reduceIte,Option.isNone_none,qf,ql,q0,q1,q3,q4,rr,ho,c0,c1,d1,d2,b2_rat.1,wS,lB,lBS,t1,t2,hf1,hf2,e1,lk2,z3,b1,b2,Nat.add_zero,a1,a2,yu_t,yu_f]
     rw [hS]
     try simp (maxSteps:=8000000) (disch:=first|exact dS|fail) only [↓bD,bW,reduceMul,reduceEqDiff,reduceAdd,Nat.reduceBEq,reduceIte,Option.isNone_none,qf,ql,q0,q1,q3,q4,rr,ho,c0,c1,d1,d2,b2_rat.1,wS,lB,lBS,t1,t2,hf1,hf2,e1,lk2,z3,b1,b2,Nat.add_zero,a1,a2,yu_t,yu_f]
    case' false =>
     cases a3:decide (o=[42])
     case' true =>
      have hop:o=[43]\/o=[45]\/o=[42]\/o=[47]\/o=minB\/o=maxB:=(.inr (.inr (.inl (of_decide_eq_true a3))))
      simp (maxSteps:=8000000) (disch:=first|exact dS|fail) only [↓bD,bW,reduceMul,reduceEqDiff,reduceAdd,Nat.reduceBEq,reduceIte,Option.isNone_none,qf,ql,q0,q1,q3,q4,rr,ho,c0,c1,d1,d2,b2_rat.1,wS,lB,lBS,t1,t2,hf1,hf2,e1,lk2,z3,b1,b2,Nat.add_zero,a1,a2,a3,yu_t,yu_f]
      rw [hS]
      try simp (maxSteps:=8000000) (disch:=first|exact dS|fail) only [↓bD,bW,reduceMul,reduceEqDiff,reduceAdd,Nat.reduceBEq,reduceIte,Option.isNone_none,qf,ql,q0,q1,q3,q4,rr,ho,c0,c1,d1,d2,b2_rat.1,wS,lB,lBS,t1,t2,hf1,hf2,e1,lk2,z3,b1,b2,Nat.add_zero,a1,a2,a3,yu_t,yu_f]
     case' false =>
      cases a4:decide (o=[47])
      case' true =>
       have hop:o=[43]\/o=[45]\/o=[42]\/o=[47]\/o=minB\/o=maxB:=(.inr (.inr (.inr (.inl (of_decide_eq_true a4)))))
       simp (maxSteps:=8000000) (disch:=first|exact dS|fail) only [↓bD,bW,reduceMul,reduceEqDiff,reduceAdd,Nat.reduceBEq,reduceIte,Option.isNone_none,qf,ql,q0,q1,q3,q4,rr,ho,c0,c1,d1,d2,b2_rat.1,wS,lB,lBS,t1,t2,hf1,hf2,e1,lk2,z3,b1,b2,Nat.add_zero,a1,a2,a3,a4,yu_t,yu_f]
       rw [hS]
       try simp (maxSteps:=8000000) (disch:=first|exact dS|fail) only [↓bD,bW,reduceMul,reduceEqDiff,reduceAdd,Nat.reduceBEq,reduceIte,Option.isNone_none,qf,ql,q0,q1,q3,q4,rr,ho,c0,c1,d1,d2,b2_rat.1,wS,lB,lBS,t1,t2,hf1,hf2,e1,lk2,z3,b1,b2,Nat.add_zero,a1,a2,a3,a4,yu_t,yu_f]
      case' false =>
       cases a5:decide (o=[109,105,110])
       case' true =>
        have hop:o=[43]\/o=[45]\/o=[42]\/o=[47]\/o=minB\/o=maxB:=(.inr (.inr (.inr (.inr (.inl (of_decide_eq_true a5))))))
        simp (maxSteps:=8000000) (disch:=first|exact dS|fail) only [↓bD,bW,reduceMul,reduceEqDiff,reduceAdd,Nat.reduceBEq,reduceIte,Option.isNone_none,qf,ql,q0,q1,q3,q4,rr,ho,c0,c1,d1,d2,b2_rat.1,wS,lB,lBS,t1,t2,hf1,hf2,e1,lk2,z3,b1,b2,Nat.add_zero,a1,a2,a3,a4,a5,yu_t,yu_f]
        rw [hS]
        try simp (maxSteps:=8000000) (disch:=first|exact dS|fail) only [↓bD,bW,reduceMul,reduceEqDiff,reduceAdd,Nat.reduceBEq,reduceIte,Option.isNone_none,qf,ql,q0,q1,q3,q4,rr,ho,c0,c1,d1,d2,b2_rat.1,wS,lB,lBS,t1,t2,hf1,hf2,e1,lk2,z3,b1,b2,Nat.add_zero,a1,a2,a3,a4,a5,yu_t,yu_f]
       case' false =>
        cases a6:decide (o=[109,97,120])
        case' true =>
         have hop:o=[43]\/o=[45]\/o=[42]\/o=[47]\/o=minB\/o=maxB:=(.inr (.inr (.inr (.inr (.inr (of_decide_eq_true a6))))))
         simp (maxSteps:=8000000) (disch:=first|exact dS|fail) only [↓bD,bW,reduceMul,reduceEqDiff,reduceAdd,Nat.reduceBEq,reduceIte,Option.isNone_none,qf,ql,q0,q1,q3,q4,rr,ho,c0,c1,d1,d2,b2_rat.1,wS,lB,lBS,t1,t2,hf1,hf2,e1,lk2,z3,b1,b2,Nat.add_zero,a1,a2,a3,a4,a5,a6,yu_t,yu_f]
         rw [hS]
         try simp (maxSteps:=8000000) (disch:=first|exact dS|fail) only [↓bD,bW,reduceMul,reduceEqDiff,reduceAdd,Nat.reduceBEq,reduceIte,Option.isNone_none,qf,ql,q0,q1,q3,q4,rr,ho,c0,c1,d1,d2,b2_rat.1,wS,lB,lBS,t1,t2,hf1,hf2,e1,lk2,z3,b1,b2,Nat.add_zero,a1,a2,a3,a4,a5,a6,yu_t,yu_f]
        case' false =>
         exact (by
          simp (maxSteps:=8000000) (disch:=first|exact dS|fail) only [↓bD,bW,reduceMul,reduceEqDiff,reduceAdd,Nat.reduceBEq,reduceIte,Option.isNone_none,qf,ql,q0,q1,q3,q4,rr,ho,c0,c1,d1,d2,b2_rat.1,a1,a2,a3,a4,a5,a6,yu_t,yu_f,Tryz.results54]
          rw [hS]
          exact no EX (rfB_no (fitsP_no o1 o2 (by
           rintro (h|h|h|h|h|h)
           ·exact of_decide_eq_false a1 h
           ·exact of_decide_eq_false a2 h
           ·exact of_decide_eq_false a3 h
           ·exact of_decide_eq_false a4 h
           ·exact of_decide_eq_false a5 h
           ·exact of_decide_eq_false a6 h))))
   all_goals
    have hfit:fitsP o n d nm 2=true:=by rw [fitsP_op hop,b1,b2];rfl
    rw [rfB_two hfit]
    refine (@ihx _ _ _ (p+1) dp _ x1 ES om om oS om om).mono ?_
    rintro r ⟨Z2,rfl,EX2,o2⟩
    have n2:=EX2.n
    have w2:Z2.row Z.n=some R:=by rw [EX2.row om om];exact wS
    have lB2:Z2.row B=some cells:=by rw [EX2.row om hB];exact lBS
    cases bx:rfB x dp (p+1)
    ·refine gS1 (aI @yu_t (aI @yu_f @Tryz.results54)) ?_
     exact ⟨_,rfl,EX0.trans EX2,fun h=>by cases h⟩
    ·have p2:p+1+partsE x<=60:=by unfold rfB at bx;simp only [Bool.and_eq_true,decide_eq_true_eq] at bx;exact bx.2
     refine gS1 (aI @q1 (aI @q3 (aI @q4 (aI @w2 (aI @lB2 (aI @t1 (aI @t2 (aI @hf1 (aI @hf2 (aI @e1 (aI @yu_t (aI @yu_f @Nat.add_zero)))))))))))) ?_
     refine (@ihy _ _ _ (p+1+partsE x) dp _ x2 (EX2.ext ES hcb) om om (o2 bx) om p2).mono ?_
     rintro r ⟨Z3,rfl,EX3,o3⟩
     refine gS1 @Tryz.results54 ?_
     refine ⟨_,rfl,EX0.trans (EX2.trans EX3),fun h=>?_⟩
     rw [o3 h,partsE_mk,partsL_cons,partsL_cons,partsL_nil]
     congr 4
     omega
end Go.Proofs.T
namespace Go.Proofs.T
open Go Go.Ab
open Nat (reduceMul reduceEqDiff reduceAdd)
set_option maxRecDepth 100000
theorem rfB_right {e:Ex}:rfB e 12 0=rightE e:=by
 unfold rfB rightE
 rw [Nat.zero_add,Bool.and_right_comm]
theorem pformg_ok {Z:St}{w:Nat}{e:Ex}{row:List Value}(hw:WfE w e) (hw4:w<=4) (he:ExAt Z row e) (hp:Z.read 1 0 20=some pows) (h1:1<Z.n) :
  Ev (go Tryz.prog HS (.fn 27) [.agg ⟨row⟩] Z) (fun r=>∃ Z',r=⟨false,str (if rightE e=true then showF 12 0 e else []),Z'⟩/\Ext Z Z') ⟨⟩:=by
 have hlen:=he.len
 have hfr:sub row 0 5=some row:=sub_full om om
 refine ev_go Tryz.func27 rfl rfl ?_
 refine gS1 (aI @hfr @hlen) ?_
 have E0:Ext Z (Z.new row):=eX
 have E1:Ext Z (((Z.new row).new [.int .i64 0] (some 3)).upd (Z.n+1) [.int .i64 0]):=eX
 refine (rfg_ok _ (Nat.lt_succ_self _) hw hw4 (Z0:=Z) (p:=0) (dp:=12) he E1 om (by simp) (cL) om om).mono ?_
 rintro r ⟨Z2,rfl,EX,o2⟩
 have n2:=EX.n
 simp only [new_n,upd_n] at n2
 have E2:Ext Z Z2:=EX.ext E1 om
 have w2:Z2.row Z.n=some row:=by rw [EX.row (by simp;omega) om];exact cL
 rw [rfB_right]
 cases hr:rightE e with
 | false =>
   rw [if_neg (by simp)]
   refine gS1 (aI @w2 (aI @hfr (aI @hlen (aI @yu_t (aI @yu_f @Tryz.results27))))) ?_
   exact ⟨_,rfl,E2⟩
 | true =>
   rw [if_pos rfl]
   obtain ⟨hf,hk,hm⟩:=rightE_fw hr
   refine gS1 (aI @w2 (aI @hfr (aI @hlen (aI @yu_t @yu_f)))) ?_
   refine (show_ok hf 12 hk om (least:=0) om (pows_ext E2 h1 hp) om (he.mono E2)).mono ?_
   rintro r ⟨Z3,rfl,E3⟩
   refine gS1 @Tryz.results27 ?_
   exact ⟨_,rfl,E2.trans E3⟩
theorem rpformg_ok {Z:St}{w m:Nat}{e:Ex}{row:List Value}(hw:WfE w e) (hw4:w<=4) (hm:partsE e<=m) (hm1:m<=1000) (he:ExAt Z row e) :
  Ev (go Tryz.prog HS (.fn 21) [.agg ⟨row⟩] Z) (fun r=>∃ Z',r=⟨false,str (if rightE e=true then showF 12 0 e else []),Z'⟩/\Ext Z Z') ⟨⟩:=by
 have hlen:=he.len
 have hfr:sub row 0 5=some row:=sub_full om om
 refine ev_go Tryz.func21 rfl rfl ?_
 refine gS1 (aI @hfr @hlen) ?_
 have E1:Ext Z (Z.new row):=eX
 refine (rrightg_ok hw hw4 hm hm1 (he.mono E1)).mono ?_
 rintro r ⟨Z2,rfl,EX⟩
 have n2:=EX.n
 simp only [new_n] at n2
 have E2:Ext Z Z2:=E1.trans EX
 have w2:Z2.row Z.n=some row:=by rw [EX.row (by simp)];exact cL
 cases hr:rightE e with
 | false =>
   rw [if_neg (by simp)]
   refine gS1 (aI @w2 (aI @hfr (aI @hlen (aI @yu_t (aI @yu_f @Tryz.results21))))) ?_
   exact ⟨_,rfl,E2⟩
 | true =>
   rw [if_pos rfl]
   obtain ⟨hf,hk,hm⟩:=rightE_fw hr
   refine gS1 (aI @w2 (aI @hfr (aI @hlen (aI @yu_t @yu_f)))) ?_
   refine (rprint_ok hf 12 hk om om (he.mono E2)).mono ?_
   rintro r ⟨Z3,rfl,E3⟩
   refine gS1 @Tryz.results21 ?_
   exact ⟨_,rfl,E2.trans E3⟩
end Go.Proofs.T
namespace Go.Proofs.T
open Go Go.Ab
open Nat (reduceMul reduceEqDiff reduceAdd)
set_option maxRecDepth 100000
def z5:List Value:=[str [],.int .i64 0,.int .i64 0,str [],.slice none 0 0]
def FcP (Z:St) (c:Nat) (R:Except Er Ex) (r:CR):Prop:=match R with
 | .ok e=>∃ Z' row,r=⟨false,.tuple ⟨[]⟩,Z'⟩/\ExtX c Z Z'/\Z'.orow c=some row/\Fresh (fun q=>q<Z.n) Z' row e
 | .error (p,e)=>∃ Z',r=⟨true,fault p e,Z'⟩/\Ext Z Z'
set_option maxHeartbeats 4000000 in
theorem fclosure_ok {Z:St}{s:By}{b c:Nat}(hs:s.length<10000000) (hsh:ShortF (fToks s 0)) (hb:Z.row b=some [str s]) (hc:Z.orow c=some z5) (hcl:c<Z.n) :
  Ev (go Tryz.prog HS (.fn 50) [.pointer (some ⟨b,0,none⟩),.pointer (some ⟨c,0,none⟩)] Z) (FcP Z c (readS (fToks s 0))) ⟨⟩:=by
 refine ev_go Tryz.func50 rfl rfl ?_
 have hlen0:(fToks s 0).length<=s.length+1:=by
  unfold fToks;rw [List.length_append];have:=fT_len (s:=s) (from':=0) s.length 0;simp;omega
 have hpos:0<(fToks s 0).length:=by unfold fToks;simp
 refine gS1 @hb ?_
 refine (ftokens_ok (from':=0) hs om).mono ?_
 rintro r ⟨fv,Z1,rfl,hol,hE1⟩
 obtain ⟨fa,rfl⟩:=OL.shape hol
 have hol':=OL.sl hol
 refine gS ?_
 refine (read_ok hol' hpos ends_ftoks hsh om).mono ?_
 intro r
 cases hR:readS (fToks s 0) with
 | error pe =>
   obtain ⟨p,e⟩:=pe
   rintro ⟨Z2,rfl,hE2⟩
   refine gS ?_
   exact ⟨_,rfl,hE1.trans hE2⟩
 | ok e =>
   rintro ⟨Z2,row,rfl,hE2,hf2⟩
   obtain ⟨u1,u2,u3,u4,u5,rfl⟩:=hf2.five
   have n1:=hE1.n
   have hc1:Z2.orow c=some z5:=by rw [hE2.orow om,hE1.orow hcl];exact hc
   unfold z5 at hc1
   refine gS1 @hc1 ?_
   try refine Must.intro (by (repeat first|simp (disch:=omega) only [as_read,as_upd,as_newb,rok_read,rok_eff,rok_nil,bi_true,as_nil,as_e hE1,as_e hE2]|rw [as_ord (by kernel_rfl)]);first|done|rfl) ?_
   try simp (maxSteps:=8000000) (disch:=first|exact dS|fail) only [↓bD,bW,reduceMul,reduceEqDiff,reduceAdd,Nat.reduceBEq,reduceIte,Option.isNone_none,hc1,Tryz.results50]
   refine ⟨_,_,rfl,(ExtX.of (hE1.trans hE2)).upd _,orow_upd_same,?_⟩
   exact (hf2.extX (b:=c) (ExtX.upd .refl _) (by show c<Z1.n;omega)).weak fun q hq=>by show q<Z1.n;omega
def FaP (Z:St) (c:Nat) (R:Except Er Ex) (r:CR):Prop:=match R with
 | .ok e=>∃ Z' row,r=⟨false,.agg ⟨[.int .i64 0,.int .i64 0]⟩,Z'⟩/\ExtX c Z Z'/\Z'.orow c=some row/\Fresh (fun q=>q<Z.n) Z' row e
 | .error (p,e)=>∃ Z',r=⟨false,.agg ⟨[.int .i64 (p:Nat),.int .i64 e]⟩,Z'⟩/\Ext Z Z'
theorem cformula_ok {Z:St}{s:By}{b c:Nat}(hs:s.length<10000000) (hsh:ShortF (fToks s 0)) (hb:Z.row b=some [str s]) (hc:Z.orow c=some z5) (hbl:b<Z.n) (hcl:c<Z.n) :
  Ev (go Tryz.prog HS (.fn 38) [.func (.func 50) ⟨[]⟩ ⟨[.pointer (some ⟨b,0,none⟩),.pointer (some ⟨c,0,none⟩)]⟩] Z) (FaP Z c (readS (fToks s 0))) ⟨⟩:=by
 refine (caught_ok (R:=FcP (Z.new [.int .i64 0,.int .i64 0] (some 86)) c (readS (fToks s 0))) ((fclosure_ok (b:=b) (c:=c) (s:=s) hs hsh (by rw [row_new_ne om];exact hb) (by rw [orow_new_ne om];exact hc) (by simp;omega)).mono ?_)).mono ?_
 ·intro r hr
  cases hR:readS (fToks s 0) with
  | ok T =>
    rw [hR] at hr
    obtain ⟨Z',row,rfl,hE,ho,hT⟩:=hr
    have hn:=hE.n
    simp at hn
    refine ⟨by dsimp only;omega,?_,.inl ⟨rfl,rfl⟩,Z',row,rfl,hE,ho,hT⟩
    dsimp only
    rw [hE.orow (by simp) om];exact cL
  | error pe =>
    obtain ⟨p,e⟩:=pe
    rw [hR] at hr
    obtain ⟨Z',rfl,hE⟩:=hr
    have hn:=hE.n
    simp at hn
    refine ⟨by dsimp only;omega,?_,.inr ⟨p,e,rfl,rfl⟩,Z',rfl,hE⟩
    dsimp only
    rw [orow_congr (hE.same _ (by simp))];exact cL
 ·rintro r ⟨r0,Z',p,e,hr,hE,rfl,hx⟩
  have hn:=hE.n
  cases hR:readS (fToks s 0) with
  | ok T =>
    rw [hR] at hr
    obtain ⟨Z1,row,rfl,hE1,ho,hT⟩:=hr
    rcases hx with ⟨-,-,rfl,rfl⟩|⟨hx,-⟩
    rotate_left
    ·cases hx
    have hn1:=hE1.n
    simp at hn1
    dsimp only at hn hE
    refine ⟨Z',row,rfl,⟨om,fun q h1 h2=>?_⟩,?_,?_⟩
    ·rw [hE.same q om om,hE1.same q (by simp;omega) h2,new_get,if_neg om]
    ·rw [hE.orow om om];exact ho
    ·exact (hT.extX hE (by simp)).weak fun q hq=>by simp;omega
  | error pe =>
    obtain ⟨p',e'⟩:=pe
    rw [hR] at hr
    obtain ⟨Z1,rfl,hE1⟩:=hr
    rcases hx with ⟨hx,-⟩|⟨-,hx⟩
    ·cases hx
    have hn1:=hE1.n
    simp at hn1
    dsimp only at hn hE hx
    obtain ⟨h1,h2⟩:p'=p/\e'=e:=by
     unfold fault at hx
     simp at hx
     exact ⟨om,hx.2⟩
    subst h1 h2
    refine ⟨Z',rfl,⟨om,fun q h1=>?_⟩⟩
    rw [hE.same q om om,hE1.same q (by simp;omega),new_get,if_neg om]
def FoP (Z:St) (R:Except Er Ex) (r:CR):Prop:=match R with
 | .ok e=>∃ Z' row,r=⟨false,.tuple ⟨[.agg ⟨row⟩,.int .i64 0,.int .i64 0]⟩,Z'⟩/\Ext Z Z'/\Fresh (fun q=>q<Z.n) Z' row e
 | .error (p,e)=>∃ Z',r=⟨false,.tuple ⟨[.agg ⟨z5⟩,.int .i64 (p:Nat),.int .i64 e]⟩,Z'⟩/\Ext Z Z'
set_option maxHeartbeats 8000000 in
theorem Formula_ok {Z:St}{s:By}(hs:s.length<10000000) (hsh:ShortF (fToks s 0)) (he:∀ p e,readS (fToks s 0)= .error (p,e)->e≠0) :
  Ev (go Tryz.prog HS (.fn 24) [str s] Z) (FoP Z (readS (fToks s 0))) ⟨⟩:=by
 refine ev_go Tryz.func24 rfl rfl ?_
 refine gS ?_
 refine (cformula_ok (b:=Z.n) (c:=Z.n+1+1) hs hsh ?_ ?_ ?_ ?_).mono ?_
 ·exact cL
 ·unfold z5;exact cL
 ·simp;omega
 ·simp
 ·intro r hr
  cases hR:readS (fToks s 0) with
  | ok T =>
    rw [hR] at hr
    obtain ⟨Z',row,rfl,hE,ho,hT⟩:=hr
    have hn:=hE.n
    simp at hn
    obtain ⟨u1,u2,u3,u4,u5,rfl⟩:=hT.five
    have hrc:=row_of ho
    have hro:Z'.orow (Z.n+1)=some [str [],.int .i64 0,.int .i64 0,str [],.slice none 0 0]:=by
     rw [hE.orow (by simp) om];exact cL
    refine gS1 (aI @ho (aI @hrc (aI @hro @Tryz.results24))) ?_
    have EN:Ext Z (((Z.new [str s]).new [str [],.int .i64 0,.int .i64 0,str [],.slice none 0 0]).new [str [],.int .i64 0,.int .i64 0,str [],.slice none 0 0]):=((Ext.new _ _).trans (.new _ _)).trans (.new _ _)
    refine ⟨_,_,rfl,?_,?_⟩
    ·exact (((ExtX.ext (Z0:=Z) hE (((Ext.new _ _).trans (.new _ _)).trans (.new _ _)) om).new' _).upd om _).upd om _
    ·exact ((hT.ext ((Ext.new' (.refl _) [.int .i64 0,.int .i64 0]).upd (Nat.le_refl _) [.int .i64 0,.int .i64 0])).extX (b:=Z.n+1) (ExtX.upd .refl _) (by show Z.n+1<Z.n+3;omega)).weak fun q hq=>by show q<Z.n+3;omega
  | error pe =>
    obtain ⟨p,e⟩:=pe
    rw [hR] at hr
    obtain ⟨Z',rfl,hE⟩:=hr
    have hn:=hE.n
    simp at hn
    have he0:=he _ _ hR
    have e0:decide (e=0)=false:=decide_eq_false he0
    have hro:Z'.orow (Z.n+1)=some [str [],.int .i64 0,.int .i64 0,str [],.slice none 0 0]:=by
     rw [hE.orow (by simp)];exact cL
    refine gS1 (aI @e0 (aI @hro @Tryz.results24)) ?_
    try refine Must.intro (by (repeat first|simp (disch:=omega) only [as_read,as_upd,as_newb,asx (Ext.refl _)]|rw [as_ord (by kernel_rfl)]);first|done|rfl) ?_
    try simp (maxSteps:=8000000) (disch:=first|exact dS|fail) only [↓bD,bW,reduceMul,reduceEqDiff,reduceAdd,Nat.reduceBEq,reduceIte,Option.isNone_none,Tryz.results24]
    exact ⟨_,rfl,((((((Ext.new _ _).trans (.new _ _)).trans (.new _ _)).trans hE).new' _).upd om _).upd om _⟩
end Go.Proofs.T
