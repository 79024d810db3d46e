/- The reference's check of any part of a formula. -/
import Derived.Test.YtbcanmagihejhaaGreatDoorPC
import Derived.Test.YtbcanmagihejhaaGreatDoorRC
set_option linter.unusedSimpArgs false
set_option linter.unusedVariables false
namespace Go.Proofs.T
open Go Go.Ab
open Nat (reduceMul reduceEqDiff reduceAdd)
set_option maxRecDepth 100000
theorem len_dec {k m:Nat}:decide (((k:Nat):Int)=((m:Nat):Int))=decide (k=m):=by rw [Bool.eq_iff_iff,decide_eq_true_iff,decide_eq_true_iff];omega
theorem fitsP_num {n d:Int}{nm:By}{k:Nat}:fitsP numB3 n d nm k=(rightQ n d&&decide (0<=n)&&decide ((1000000:Int) % d=0)&&decide (n<=1000000000*d)&&decide (nm=[])&&decide (k=0)):=by unfold fitsP;rw [if_pos rfl]
theorem fitsP_name {n d:Int}{nm:By}{k:Nat}:fitsP nmB n d nm k=(nameB nm&& !decide (nm=minB)&& !decide (nm=maxB)&&(decide (n=0)&&decide (d=0))&&decide (k=0)):=by unfold fitsP;rw [if_neg (by decide),if_pos rfl]
theorem fitsP_op {o:By}{n d:Int}{nm:By}{k:Nat}(h:o=[43]\/o=[45]\/o=[42]\/o=[47]\/o=minB\/o=maxB):fitsP o n d nm k=((decide (n=0)&&decide (d=0))&&decide (nm=[])&&decide (k=2)):=by
 unfold fitsP
 rw [if_neg (by rcases h with rfl|rfl|rfl|rfl|rfl|rfl <;> decide),if_neg (by rcases h with rfl|rfl|rfl|rfl|rfl|rfl <;> decide),if_pos h]
theorem fitsP_no {o:By}{n d:Int}{nm:By}{k:Nat}(h1:o≠numB3) (h2:o≠nmB) (h:¬ (o=[43]\/o=[45]\/o=[42]\/o=[47]\/o=minB\/o=maxB)):fitsP o n d nm k=false:=by
 unfold fitsP
 rw [if_neg h1,if_neg h2,if_neg h]
set_option maxHeartbeats 16000000 in
theorem rfitsg_ok {Z:St}{o nm:By}{n d:Int}{a:Option Addr}{k c:Nat}(hn: -1000000000000000000<=n/\n<=1000000000000000000) (hd:0<=d/\d<=1000000) :
  Ev (go Tryz.prog HS (.fn 131) [.agg ⟨[str o,.int .i64 n,.int .i64 d,str nm,.slice a k c]⟩] Z) (fun r=>∃ Z',r=⟨false,.bool (fitsP o n d nm k),Z'⟩/\Ext Z Z') ⟨⟩:=by
 have E0:Ext Z (Z.new [str o,.int .i64 n,.int .i64 d,str nm,.slice a k c]):=eX
 have lk0:decide (((k:Nat):Int)=0)=decide (k=0):=len_dec (m:=0)
 have lk2:decide (((k:Nat):Int)=2)=decide (k=2):=len_dec (m:=2)
 refine ev_go Tryz.func131 rfl rfl ?_
 cases d1:decide (o=[110,117,109]) with
 | true =>
   obtain rfl:o=[110,117,109]:=of_decide_eq_true d1
   rw [show fitsP [110,117,109] n d nm k=_ from fitsP_num]
   refine gS1 @d1 ?_
   refine (bright_ok (n:=n) (d:=d) ⟨om,om⟩ ⟨om,om⟩).mono ?_
   rintro r ⟨Z2,rfl,hE2⟩
   have r1:Z2.row Z.n=some [str [110,117,109],.int .i64 n,.int .i64 d,str nm,.slice a k c]:=by rw [hE2.row (cL)];exact cL
   have hE:Ext Z Z2:=(Ext.new' (.refl _) _).trans hE2
   cases b1:rightQ n d
   ·refine gS1 (aI @r1 (aI @yu_t (aI @yu_f @Tryz.results131))) ?_
    exact ⟨_,rfl,hE⟩
   have hd1:1<=d:=by unfold rightQ at b1;simp only [Bool.and_eq_true,decide_eq_true_eq] at b1;exact b1.1
   have c0:decide (d=0)=false:=decide_eq_false om
   cases b2:decide (n<0)
   case true =>
    rw [decide_eq_false (p:=0<=n) (by have:=of_decide_eq_true b2;omega)]
    refine gS1 (aI @r1 (aI @b2 (aI @c0 (aI @yu_t (aI @yu_f @Tryz.results131))))) ?_
    exact ⟨_,rfl,hE⟩
   have hn0:0<=n:=by have:=of_decide_eq_false b2;omega
   rw [decide_eq_true hn0]
   have hm:(1000000:Int).tmod d=1000000 % d:=Int.tmod_eq_emod_of_nonneg om
   have hp:(10:Int) ^ 0=1:=rfl
   cases b3:decide ((1000000:Int) % d=0)
   ·refine gS1 (aI @r1 (aI @b2 (aI @c0 (aI @hm (aI @b3 (aI @yu_t (aI @yu_f @Tryz.results131))))))) ?_
    exact ⟨_,rfl,hE⟩
   cases b4:decide (1000000000*d<n)
   case true =>
    rw [decide_eq_false (p:=n<=1000000000*d) (by have:=of_decide_eq_true b4;omega)]
    refine gS1 (aI @r1 (aI @b2 (aI @c0 (aI @hm (aI @b3 (aI @b4 (aI @yu_t (aI @yu_f @Tryz.results131)))))))) ?_
    exact ⟨_,rfl,hE⟩
   rw [decide_eq_true (p:=n<=1000000000*d) (by have:=of_decide_eq_false b4;omega)]
   cases b5:decide (nm=[])
   ·refine gS1 (aI @r1 (aI @b2 (aI @c0 (aI @hm (aI @b3 (aI @b4 (aI @b5 (aI @yu_t (aI @yu_f @Tryz.results131))))))))) ?_
    exact ⟨_,rfl,hE⟩
   cases b6:decide (k=0)
   ·refine gS1 (aI @r1 (aI @b2 (aI @c0 (aI @hm (aI @b3 (aI @b4 (aI @b5 (aI @lk0 (aI @b6 (aI @yu_t (aI @yu_f @Tryz.results131))))))))))) ?_
    exact ⟨_,rfl,hE⟩
   ·refine gS1 (aI @r1 (aI @b2 (aI @c0 (aI @hm (aI @b3 (aI @b4 (aI @b5 (aI @lk0 (aI @b6 (aI @yu_t (aI @yu_f @Tryz.results131))))))))))) ?_
    exact ⟨_,rfl,hE⟩
 | false =>
   have o1:o≠numB3:=of_decide_eq_false d1
   cases d2:decide (o=[110,97,109,101]) with
   | true =>
     obtain rfl:o=[110,97,109,101]:=of_decide_eq_true d2
     rw [show fitsP [110,97,109,101] n d nm k=_ from fitsP_name]
     refine gS1 (aI @d1 @d2) ?_
     refine risname_ok.mono ?_
     rintro r rfl
     rw [rname_eq]
     have hE:=E0
     cases b1:nameB nm
     ·refine gS1 (aI @b1 (aI @yu_t (aI @yu_f @Tryz.results131))) ?_
      exact ⟨_,rfl,hE⟩
     cases b2:decide (nm=[109,105,110])
     case true =>
      rw [show decide (nm=minB)=true from b2]
      refine gS1 (aI @b1 (aI @b2 (aI @yu_t (aI @yu_f @Tryz.results131)))) ?_
      exact ⟨_,rfl,hE⟩
     rw [show decide (nm=minB)=false from b2]
     cases b3:decide (nm=[109,97,120])
     case true =>
      rw [show decide (nm=maxB)=true from b3]
      refine gS1 (aI @b1 (aI @b2 (aI @b3 (aI @yu_t (aI @yu_f @Tryz.results131))))) ?_
      exact ⟨_,rfl,hE⟩
     rw [show decide (nm=maxB)=false from b3]
     cases b4:(decide (n=0)&&decide (d=0))
     ·simp (maxSteps:=8000000) (disch:=first|exact dS|fail) only [↓bD,bW,reduceMul,reduceEqDiff,reduceAdd,Nat.reduceBEq,reduceIte,Option.isNone_none,b1,b2,b3,b2_rat.1,b4,yu_t,yu_f,Tryz.results131]
      exact ⟨_,rfl,hE⟩
     cases b5:decide (k=0)
     ·simp (maxSteps:=8000000) (disch:=first|exact dS|fail) only [↓bD,bW,reduceMul,reduceEqDiff,reduceAdd,Nat.reduceBEq,reduceIte,Option.isNone_none,b1,b2,b3,b2_rat.1,b4,lk0,b5,yu_t,yu_f,Tryz.results131]
      exact ⟨_,rfl,hE⟩
     ·simp (maxSteps:=8000000) (disch:=first|exact dS|fail) only [↓bD,bW,reduceMul,reduceEqDiff,reduceAdd,Nat.reduceBEq,reduceIte,Option.isNone_none,b1,b2,b3,b2_rat.1,b4,lk0,b5,yu_t,yu_f,Tryz.results131]
      exact ⟨_,rfl,hE⟩
   | false =>
     have o2:o≠nmB:=of_decide_eq_false d2
     have hE:=E0
     cases a1:decide (o=[43])
     case true =>
      rw [fitsP_op (.inl (of_decide_eq_true a1))]
      cases b1:(decide (n=0)&&decide (d=0))
      ·simp (maxSteps:=8000000) (disch:=first|exact dS|fail) only [↓bD,bW,reduceMul,reduceEqDiff,reduceAdd,Nat.reduceBEq,reduceIte,Option.isNone_none,d1,d2,a1,b2_rat.1,b1,yu_t,yu_f,Tryz.results131]
       exact ⟨_,rfl,hE⟩
      cases b2:decide (nm=[])
      ·simp (maxSteps:=8000000) (disch:=first|exact dS|fail) only [↓bD,bW,reduceMul,reduceEqDiff,reduceAdd,Nat.reduceBEq,reduceIte,Option.isNone_none,d1,d2,a1,b2_rat.1,b1,b2,yu_t,yu_f,Tryz.results131]
       exact ⟨_,rfl,hE⟩
      cases b3:decide (k=2)
      ·simp (maxSteps:=8000000) (disch:=first|exact dS|fail) only [↓bD,bW,reduceMul,reduceEqDiff,reduceAdd,Nat.reduceBEq,reduceIte,Option.isNone_none,d1,d2,a1,b2_rat.1,b1,b2,lk2,b3,yu_t,yu_f,Tryz.results131]
       exact ⟨_,rfl,hE⟩
      ·simp (maxSteps:=8000000) (disch:=first|exact dS|fail) only [↓bD,bW,reduceMul,reduceEqDiff,reduceAdd,Nat.reduceBEq,reduceIte,Option.isNone_none,d1,d2,a1,b2_rat.1,b1,b2,lk2,b3,yu_t,yu_f,Tryz.results131]
       exact ⟨_,rfl,hE⟩
     cases a2:decide (o=[45])
     case true =>
      rw [fitsP_op (.inr (.inl (of_decide_eq_true a2)))]
      cases b1:(decide (n=0)&&decide (d=0))
      ·simp (maxSteps:=8000000) (disch:=first|exact dS|fail) only [↓bD,bW,reduceMul,reduceEqDiff,reduceAdd,Nat.reduceBEq,reduceIte,Option.isNone_none,d1,d2,a1,a2,b2_rat.1,b1,yu_t,yu_f,Tryz.results131]
       exact ⟨_,rfl,hE⟩
      cases b2:decide (nm=[])
      ·simp (maxSteps:=8000000) (disch:=first|exact dS|fail) only [↓bD,bW,reduceMul,reduceEqDiff,reduceAdd,Nat.reduceBEq,reduceIte,Option.isNone_none,d1,d2,a1,a2,b2_rat.1,b1,b2,yu_t,yu_f,Tryz.results131]
       exact ⟨_,rfl,hE⟩
      cases b3:decide (k=2)
      ·simp (maxSteps:=8000000) (disch:=first|exact dS|fail) only [↓bD,bW,reduceMul,reduceEqDiff,reduceAdd,Nat.reduceBEq,reduceIte,Option.isNone_none,d1,d2,a1,a2,b2_rat.1,b1,b2,lk2,b3,yu_t,yu_f,Tryz.results131]
       exact ⟨_,rfl,hE⟩
      ·simp (maxSteps:=8000000) (disch:=first|exact dS|fail) only [↓bD,bW,reduceMul,reduceEqDiff,reduceAdd,Nat.reduceBEq,reduceIte,Option.isNone_none,d1,d2,a1,a2,b2_rat.1,b1,b2,lk2,b3,yu_t,yu_f,Tryz.results131]
       exact ⟨_,rfl,hE⟩
     cases a3:decide (o=[42])
     case true =>
      rw [fitsP_op (.inr (.inr (.inl (of_decide_eq_true a3))))]
      cases b1:(decide (n=0)&&decide (d=0))
      ·simp (maxSteps:=8000000) (disch:=first|exact dS|fail) only [↓bD,bW,reduceMul,reduceEqDiff,reduceAdd,Nat.reduceBEq,reduceIte,Option.isNone_none,d1,d2,a1,a2,a3,b2_rat.1,b1,yu_t,yu_f,Tryz.results131]
       exact ⟨_,rfl,hE⟩
      cases b2:decide (nm=[])
      ·simp (maxSteps:=8000000) (disch:=first|exact dS|fail) only [↓bD,bW,reduceMul,reduceEqDiff,reduceAdd,Nat.reduceBEq,reduceIte,Option.isNone_none,d1,d2,a1,a2,a3,b2_rat.1,b1,b2,yu_t,yu_f,Tryz.results131]
       exact ⟨_,rfl,hE⟩
      cases b3:decide (k=2)
      ·simp (maxSteps:=8000000) (disch:=first|exact dS|fail) only [↓bD,bW,reduceMul,reduceEqDiff,reduceAdd,Nat.reduceBEq,reduceIte,Option.isNone_none,d1,d2,a1,a2,a3,b2_rat.1,b1,b2,lk2,b3,yu_t,yu_f,Tryz.results131]
       exact ⟨_,rfl,hE⟩
      ·simp (maxSteps:=8000000) (disch:=first|exact dS|fail) only [↓bD,bW,reduceMul,reduceEqDiff,reduceAdd,Nat.reduceBEq,reduceIte,Option.isNone_none,d1,d2,a1,a2,a3,b2_rat.1,b1,b2,lk2,b3,yu_t,yu_f,Tryz.results131]
       exact ⟨_,rfl,hE⟩
     cases a4:decide (o=[47])
     case true =>
      rw [fitsP_op (.inr (.inr (.inr (.inl (of_decide_eq_true a4)))))]
      cases b1:(decide (n=0)&&decide (d=0))
      ·simp (maxSteps:=8000000) (disch:=first|exact dS|fail) only [↓bD,bW,reduceMul,reduceEqDiff,reduceAdd,Nat.reduceBEq,reduceIte,Option.isNone_none,d1,d2,a1,a2,a3,a4,b2_rat.1,b1,yu_t,yu_f,Tryz.results131]
       exact ⟨_,rfl,hE⟩
      cases b2:decide (nm=[])
      ·simp (maxSteps:=8000000) (disch:=first|exact dS|fail) only [↓bD,bW,reduceMul,reduceEqDiff,reduceAdd,Nat.reduceBEq,reduceIte,Option.isNone_none,d1,d2,a1,a2,a3,a4,b2_rat.1,b1,b2,yu_t,yu_f,Tryz.results131]
       exact ⟨_,rfl,hE⟩
      cases b3:decide (k=2)
      ·simp (maxSteps:=8000000) (disch:=first|exact dS|fail) only [↓bD,bW,reduceMul,reduceEqDiff,reduceAdd,Nat.reduceBEq,reduceIte,Option.isNone_none,d1,d2,a1,a2,a3,a4,b2_rat.1,b1,b2,lk2,b3,yu_t,yu_f,Tryz.results131]
       exact ⟨_,rfl,hE⟩
      ·simp (maxSteps:=8000000) (disch:=first|exact dS|fail) only [↓bD,bW,reduceMul,reduceEqDiff,reduceAdd,Nat.reduceBEq,reduceIte,Option.isNone_none,d1,d2,a1,a2,a3,a4,b2_rat.1,b1,b2,lk2,b3,yu_t,yu_f,Tryz.results131]
       exact ⟨_,rfl,hE⟩
     cases a5:decide (o=[109,105,110])
     case true =>
      rw [fitsP_op (.inr (.inr (.inr (.inr (.inl (of_decide_eq_true a5))))))]
      cases b1:(decide (n=0)&&decide (d=0))
      ·simp (maxSteps:=8000000) (disch:=first|exact dS|fail) only [↓bD,bW,reduceMul,reduceEqDiff,reduceAdd,Nat.reduceBEq,reduceIte,Option.isNone_none,d1,d2,a1,a2,a3,a4,a5,b2_rat.1,b1,yu_t,yu_f,Tryz.results131]
       exact ⟨_,rfl,hE⟩
      cases b2:decide (nm=[])
      ·simp (maxSteps:=8000000) (disch:=first|exact dS|fail) only [↓bD,bW,reduceMul,reduceEqDiff,reduceAdd,Nat.reduceBEq,reduceIte,Option.isNone_none,d1,d2,a1,a2,a3,a4,a5,b2_rat.1,b1,b2,yu_t,yu_f,Tryz.results131]
       exact ⟨_,rfl,hE⟩
      cases b3:decide (k=2)
      ·simp (maxSteps:=8000000) (disch:=first|exact dS|fail) only [↓bD,bW,reduceMul,reduceEqDiff,reduceAdd,Nat.reduceBEq,reduceIte,Option.isNone_none,d1,d2,a1,a2,a3,a4,a5,b2_rat.1,b1,b2,lk2,b3,yu_t,yu_f,Tryz.results131]
       exact ⟨_,rfl,hE⟩
      ·simp (maxSteps:=8000000) (disch:=first|exact dS|fail) only [↓bD,bW,reduceMul,reduceEqDiff,reduceAdd,Nat.reduceBEq,reduceIte,Option.isNone_none,d1,d2,a1,a2,a3,a4,a5,b2_rat.1,b1,b2,lk2,b3,yu_t,yu_f,Tryz.results131]
       exact ⟨_,rfl,hE⟩
     cases a6:decide (o=[109,97,120])
     case true =>
      rw [fitsP_op (.inr (.inr (.inr (.inr (.inr (of_decide_eq_true a6))))))]
      cases b1:(decide (n=0)&&decide (d=0))
      ·simp (maxSteps:=8000000) (disch:=first|exact dS|fail) only [↓bD,bW,reduceMul,reduceEqDiff,reduceAdd,Nat.reduceBEq,reduceIte,Option.isNone_none,d1,d2,a1,a2,a3,a4,a5,a6,b2_rat.1,b1,yu_t,yu_f,Tryz.results131]
       exact ⟨_,rfl,hE⟩
      cases b2:decide (nm=[])
      ·simp (maxSteps:=8000000) (disch:=first|exact dS|fail) only [↓bD,bW,reduceMul,reduceEqDiff,reduceAdd,Nat.reduceBEq,reduceIte,Option.isNone_none,d1,d2,a1,a2,a3,a4,a5,a6,b2_rat.1,b1,b2,yu_t,yu_f,Tryz.results131]
       exact ⟨_,rfl,hE⟩
      cases b3:decide (k=2)
      ·simp (maxSteps:=8000000) (disch:=first|exact dS|fail) only [↓bD,bW,reduceMul,reduceEqDiff,reduceAdd,Nat.reduceBEq,reduceIte,Option.isNone_none,d1,d2,a1,a2,a3,a4,a5,a6,b2_rat.1,b1,b2,lk2,b3,yu_t,yu_f,Tryz.results131]
       exact ⟨_,rfl,hE⟩
      ·simp (maxSteps:=8000000) (disch:=first|exact dS|fail) only [↓bD,bW,reduceMul,reduceEqDiff,reduceAdd,Nat.reduceBEq,reduceIte,Option.isNone_none,d1,d2,a1,a2,a3,a4,a5,a6,b2_rat.1,b1,b2,lk2,b3,yu_t,yu_f,Tryz.results131]
       exact ⟨_,rfl,hE⟩
     rw [fitsP_no o1 o2 (by
      rintro (h|h|h|h|h|h)
      ·exact of_decide_eq_false a1 h
      ·exact of_decide_eq_false a2 h
      ·exact of_decide_eq_false a3 h
      ·exact of_decide_eq_false a4 h
      ·exact of_decide_eq_false a5 h
      ·exact of_decide_eq_false a6 h)]
     refine gS1 (aI @d1 (aI @d2 (aI @a1 (aI @a2 (aI @a3 (aI @a4 (aI @a5 (aI @a6 (aI @yu_t (aI @yu_f @Tryz.results131)))))))))) ?_
     exact ⟨_,rfl,hE⟩
end Go.Proofs.T
namespace Go.Proofs.T
open Go Go.Ab
set_option maxRecDepth 100000
section
variable {x y:Operand}
def Tim.row (t:Tim):List Value:=[.int .i64 t.q,.int .i64 t.b,.int .i64 t.g,.int .i64 t.p,.int .i64 t.s]
end
mutual
/-- Formulas are the same. -/
def exEqb:Ex->Ex->Bool
 | .mk o n d nm es,.mk o' n' d' nm' es'=>decide (o=o')&&(decide (n=n')&&decide (d=d'))&&decide (nm=nm')&&exsEqb es es'
def exsEqb:List Ex->List Ex->Bool
 | [],[]=>true
 | a::es,b::fs=>exEqb a b&&exsEqb es fs
 | [],_::_=>false
 | _::_,[]=>false
end
theorem exsEqb_len:∀ {es fs:List Ex},es.length≠fs.length->exsEqb es fs=false
 | [],[],h=>absurd rfl h
 | a::es,b::fs,h=>by
   unfold exsEqb
   rw [exsEqb_len (es:=es) (fs:=fs) (by simpa using h),Bool.and_false]
 | [],_::_,_=>by unfold exsEqb;rfl
 | _::_,[],_=>by unfold exsEqb;rfl
theorem exsEqb_take:∀ {es fs:List Ex}{k:Nat}{a b:Ex},es.length=fs.length->es[k]? =some a->fs[k]? =some b->exEqb a b=false->exsEqb es fs=false
 | a::es,b::fs,0,_,_,_,h1,h2,h=>by cases h1;cases h2;unfold exsEqb;rw [h,Bool.false_and]
 | a::es,b::fs,k+1,_,_,hl,h1,h2,h=>by
   unfold exsEqb
   rw [exsEqb_take (es:=es) (fs:=fs) (k:=k) (by simpa using hl) (by simpa using h1) (by simpa using h2) h,Bool.and_false]
 | [],_,_,_,_,_,h1,_,_=>by simp at h1
 | _::_,[],_,_,_,hl,_,_,_=>by simp at hl
theorem exsEqb_all:∀ {es fs:List Ex},es.length=fs.length->(∀ (k:Nat) (a b:Ex),es[k]? =some a->fs[k]? =some b->exEqb a b=true)->exsEqb es fs=true
 | [],[],_,_=>by unfold exsEqb;rfl
 | a::es,b::fs,hl,h=>by
   unfold exsEqb
   rw [h 0 a b rfl rfl,exsEqb_all (es:=es) (fs:=fs) (by simpa using hl) (fun k x y hx hy=>h (k+1) x y (by simpa using hx) (by simpa using hy)),Bool.and_true]
 | [],_::_,hl,_=>by simp at hl
 | _::_,[],hl,_=>by simp at hl
mutual
theorem exEqb_refl:∀ a:Ex,exEqb a a=true
 | .mk o n d nm es=>by unfold exEqb;rw [exsEqb_refl es];simp
theorem exsEqb_refl:∀ es:List Ex,exsEqb es es=true
 | []=>by unfold exsEqb;rfl
 | a::es=>by unfold exsEqb;rw [exEqb_refl a,exsEqb_refl es];rfl
end
theorem ExsAt.slice {Z:St}{v:Value}{rows:List (List Value)}{es:List Ex}(h:SL Z 5 v rows) (hx:ExsAt Z rows es):∃ a c b off cells,v= .slice a es.length c/\(0<es.length->∃ sp,a=some ⟨b,off,sp⟩/\b<Z.n/\Z.row b=some cells) /\
  ∀ k e,es[k]? =some e->∃ row,sub cells (off+k*5) 5=some row/\ExAt Z row e:=by
 obtain ⟨a,c,b,off,cells,h1,h2,h3⟩:=SL.use h
 rw [hx.len] at h1 h2
 refine ⟨a,c,b,off,cells,h1,h2,fun k e he=>?_⟩
 obtain ⟨hlt,_⟩:=List.getElem?_eq_some_iff.1 he
 obtain ⟨row,hr⟩:=at_some (l:=rows) (k:=k) (by rw [hx.len];exact hlt)
 exact ⟨row,h3 k row hr,hx.get hr he⟩
mutual
theorem exEqb_eq:∀ {a b:Ex},exEqb a b=true->a=b
 | .mk o n d nm es,.mk o' n' d' nm' es',h=>by
   unfold exEqb at h
   simp only [Bool.and_eq_true,decide_eq_true_eq] at h
   obtain ⟨⟨⟨h1,h2,h3⟩,h4⟩,h5⟩:=h
   rw [h1,h2,h3,h4,exsEqb_eq h5]
theorem exsEqb_eq:∀ {a b:List Ex},exsEqb a b=true->a=b
 | [],[],_=>rfl
 | a::l,b::k,h=>by
   unfold exsEqb at h
   rw [Bool.and_eq_true] at h
   rw [exEqb_eq h.1,exsEqb_eq h.2]
 | [],_::_,h=>by unfold exsEqb at h;cases h
 | _::_,[],h=>by unfold exsEqb at h;cases h
end
structure Cap (T:Tn):Prop where
 lots:T.lots.length<=100
 crits:T.crits.length<=100
 reqs:T.reqs.length<=100
 ties:T.ties.length<=100
 combos:T.combos.length<=100
 combo:∀ c∈T.combos,c.length<=100
theorem RightT.cap {T:Tn}(h:RightT T):Cap T:=⟨by have:=h.lots;omega,by have:=h.crits;omega,by have:=h.reqs;omega,by have:=h.ties;omega,by have:=h.combos;omega,fun c hc=>by have:=(h.combo c hc).2.1;omega⟩
end Go.Proofs.T
namespace Go.Proofs.T
open Go Go.Ab
open Nat (reduceMul reduceEqDiff reduceAdd)
set_option maxRecDepth 100000
theorem soundL_app:∀ {a b:List Ex},soundL (a++b)=(soundL a&&soundL b)
 | [],b=>by rw [soundL_nil,Bool.true_and];rfl
 | e::a,b=>by rw [List.cons_append,soundL_cons,soundL_cons,soundL_app,Bool.and_assoc]
theorem soundL_take {es:List Ex}{k:Nat}{e:Ex}(h:es[k]? =some e):soundL (es.take (k+1))=(soundL (es.take k)&&soundE e):=by
 rw [List.take_add_one,h,soundL_app]
 show _=_
 rw [show (some e).toList=[e] from rfl,soundL_cons,soundL_nil,Bool.and_true]
theorem soundL_false {es:List Ex}{k:Nat}(h:soundL (es.take k)=false):soundL es=false:=by
 rw [<- List.take_append_drop k es,soundL_app,h,Bool.false_and]
theorem WfL.get {w:Nat}:∀ {es:List Ex}{k:Nat}{e:Ex},WfL w es->es[k]? =some e->WfE w e
 | a::es,0,e,h,he=>by cases he;exact (WfL_cons.1 h).1
 | a::es,k+1,e,h,he=>WfL.get (WfL_cons.1 h).2 (by simpa using he)
 | [],k,e,h,he=>by simp at he
theorem size_get:∀ {es:List Ex}{k:Nat}{e:Ex},es[k]? =some e->SizeOf.sizeOf e<SizeOf.sizeOf es
 | a::es,0,e,he=>by cases he;simp;omega
 | a::es,k+1,e,he=>by have:=size_get (es:=es) (k:=k) (by simpa using he);simp;omega
 | [],k,e,he=>by simp at he
set_option maxHeartbeats 8000000 in
theorem rsoundg_ok:∀ (s:Nat){Z:St}{w:Nat}{e:Ex}{row:List Value},SizeOf.sizeOf e<s->WfE w e->w<=4->ExAt Z row e->Ev (go Tryz.prog HS (.fn 77) [.agg ⟨row⟩] Z) (fun r=>∃ Z',r=⟨false,.bool (soundE e),Z'⟩/\Ext Z Z') ⟨⟩:=by
 intro s
 induction s with
 | zero=>intro Z w e row hs;omega
 | succ s ih =>
   intro Z w e row hs hw hw4 he
   obtain ⟨o,n,d,nm,es⟩:=e
   obtain ⟨v,rows,rfl,h1,-,h2⟩:=he
   obtain ⟨a,c,b,off,cells,rfl,s1,s2⟩:=ExsAt.slice h1 h2
   obtain ⟨k1,k2,k3,k4,k5,k6⟩:=WfE_mk.1 hw
   rw [soundE_mk]
   obtain ⟨R,hR⟩:∃ R:List Value,[str o,.int .i64 n,.int .i64 d,str nm,.slice a es.length c]=R:=⟨_,rfl⟩
   have hfr:sub R 0 5=some R:=by rw [<- hR];rfl
   have hs3:sub R 4 1=some [.slice a es.length c]:=by rw [<- hR];rfl
   have E0:Ext Z (Z.new R):=eX
   rw [hR]
   refine ev_go Tryz.func77 rfl rfl ?_
   refine gS1 @hfr ?_
   rw [<- hR]
   refine (rfitsg_ok (o:=o) (nm:=nm) (k:=es.length) ⟨om,om⟩ k4).mono ?_
   rintro r ⟨Z2,rfl,hE2⟩
   rw [hR] at hE2 ⊢
   refine gS ?_
   refine ev_upto es.length (fun k fr Z'=>fr.get 4=some (.int .i64 k)/\fr.get 1=some (.pointer (some ⟨Z.n,0,none⟩))/\Ext (Z.new R) Z'/\fr.get 3=some (.bool (fitsP o n d nm es.length&&soundL (es.take k))))
    (fun r=>∃ fr Z',r=⟨.exit 0,fr,Z'⟩/\Ext Z Z'/\fr.get 3=some (.bool (fitsP o n d nm es.length&&soundL es))) ?_ ?_ ?_
   ·exact ⟨fR,fR,hE2,by rw [List.take_zero,soundL_nil,Bool.and_true];exact (fR)⟩
   ·rintro k fr Z' hk ⟨g4,g1,hE,g3⟩
    have w1:Z'.row Z.n=some R:=by rw [hE.row (by simp)];exact cL
    have hEn:=hE.n
    simp only [new_n] at hEn
    have hE0:Ext Z Z':=E0.trans hE
    have lkk:decide (((k:Nat):Int)<((es.length:Nat):Int))=decide (k<es.length):=by rw [Bool.eq_iff_iff,decide_eq_true_iff,decide_eq_true_iff];omega
    by_cases hk2:k=es.length
    ·subst hk2
     rw [List.take_length] at g3
     have hc:decide (es.length<es.length)=false:=decide_eq_false om
     refine gS1 (aI @g4 (aI @g1 (aI @g3 (aI @hc (aI @w1 (aI @hs3 (aI @yu_t @yu_f))))))) ?_
     exact ⟨_,_,rfl,hE0,fR1 g3⟩
    ·have hc:decide (k<es.length)=true:=decide_eq_true om
     cases hok:(fitsP o n d nm es.length&&soundL (es.take k)) with
     | false =>
       rw [hok] at g3
       refine gS1 (aI @g4 (aI @g1 (aI @g3 (aI @hc (aI @w1 (aI @hs3 (aI @yu_t @yu_f))))))) ?_
       refine ⟨_,_,rfl,hE0,?_⟩
       have:(fitsP o n d nm es.length&&soundL es)=false:=by
        cases hf:fitsP o n d nm es.length
        ·rfl
        ·rw [hf,Bool.true_and] at hok
         rw [soundL_false hok];rfl
       rw [this]
       exact (fR1 g3)
     | true =>
       rw [hok] at g3
       rw [Bool.and_eq_true] at hok
       obtain ⟨x,hx⟩:=at_some (l:=es) (k:=k) om
       obtain ⟨rx,s3,x3⟩:=s2 k x hx
       obtain ⟨sp,rfl,l3,l4⟩:=s1 om
       have w2:Z'.row b=some cells:=by rw [hE0.row l3];exact l4
       have l5:Nat.blt k es.length=true:=by rw [Nat.blt_eq];omega
       have lx:=x3.len
       have hfx:sub rx 0 5=some rx:=sub_full om om
       refine gS1 (aI @g4 (aI @g1 (aI @g3 (aI @hc (aI @w1 (aI @hs3 (aI @w2 (aI @s3 (aI @l5 (aI @hfx (aI @yu_t @yu_f))))))))))) ?_
       refine (ih (by have:=size_get hx;simp at hs;omega) (WfL.get k6 hx) hw4 (x3.mono hE0)).mono ?_
       rintro r ⟨Z3,rfl,hE3⟩
       refine gS1 (aI @g4 (aI @g1 @g3)) ?_
       refine ⟨om,fR,fR1 g1,hE.trans hE3,?_⟩
       rw [soundL_take hx,hok.1,hok.2,Bool.true_and,Bool.true_and]
       exact (fR)
   ·rintro r ⟨fr,Z',rfl,hE,g3⟩
    refine gS1 (aI @g3 @Tryz.results77) ?_
    exact ⟨_,rfl,hE⟩
theorem rrightg_ok {Z:St}{w m:Nat}{e:Ex}{row:List Value}(hw:WfE w e) (hw4:w<=4) (hm:partsE e<=m) (hm1:m<=1000) (he:ExAt Z row e):Ev (go Tryz.prog HS (.fn 48) [.agg ⟨row⟩] Z) (fun r=>∃ Z',r=⟨false,.bool (rightE e),Z'⟩/\Ext Z Z') ⟨⟩:=by
 have hlen:=he.len
 have hfr:sub row 0 5=some row:=sub_full om om
 refine ev_go Tryz.func48 rfl rfl ?_
 refine gS1 @hfr ?_
 have E0:Ext Z (Z.new row):=eX
 refine (rsoundg_ok _ (Nat.lt_succ_self _) hw hw4 (he.mono E0)).mono ?_
 rintro r ⟨Z2,rfl,hE2⟩
 have w2:Z2.row Z.n=some row:=by rw [hE2.row (by simp)];exact cL
 have E2:=E0.trans hE2
 unfold rightE
 cases hs:soundE e with
 | false =>
   refine gS1 (aI @w2 (aI @hfr (aI @yu_t (aI @yu_f @Tryz.results48)))) ?_
   exact ⟨_,rfl,E2⟩
 | true =>
   have hf:=sound_fw _ _ (Nat.lt_succ_self _) hs
   refine gS1 (aI @w2 (aI @hfr (aI @yu_t @yu_f))) ?_
   refine (rparts_ok _ (Nat.lt_succ_self _) om hf (he.mono E2)).mono ?_
   rintro r ⟨Z3,rfl,hE3⟩
   have w3:Z3.row Z.n=some row:=by rw [hE3.row (by have:=hE2.n;simp at this;omega)];exact w2
   have E3:=E2.trans hE3
   cases hq:decide (partsE e<=60) with
   | false =>
     have q:decide (60<((partsE e:Nat):Int))=true:=decide_eq_true (by have:=of_decide_eq_false hq;omega)
     refine gS1 (aI @q (aI @w3 (aI @hfr (aI @yu_t (aI @yu_f @Tryz.results48))))) ?_
     exact ⟨_,rfl,E3⟩
   | true =>
     have q:decide (60<((partsE e:Nat):Int))=false:=decide_eq_false (by have:=of_decide_eq_true hq;omega)
     refine gS1 (aI @q (aI @w3 (aI @hfr (aI @yu_t @yu_f)))) ?_
     refine (rdepth_ok _ (Nat.lt_succ_self _) om hf (he.mono E3)).mono ?_
     rintro r ⟨Z4,rfl,hE4⟩
     cases hq2:decide (depthE e<=12) with
     | false =>
       have q2:decide (12<((depthE e:Nat):Int))=true:=decide_eq_true (by have:=of_decide_eq_false hq2;omega)
       refine gS1 (aI @q2 (aI @yu_t (aI @yu_f @Tryz.results48))) ?_
       exact ⟨_,rfl,E3.trans hE4⟩
     | true =>
       have q2:decide (12<((depthE e:Nat):Int))=false:=decide_eq_false (by have:=of_decide_eq_true hq2;omega)
       refine gS1 (aI @q2 (aI @yu_t (aI @yu_f @Tryz.results48))) ?_
       exact ⟨_,rfl,E3.trans hE4⟩
end Go.Proofs.T
