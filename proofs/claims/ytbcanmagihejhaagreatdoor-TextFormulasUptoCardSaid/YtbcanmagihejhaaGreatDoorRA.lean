/- The tokens of a formula's text, without their offsets. -/
import Derived.Test.YtbcanmagihejhaaGreatDoorTH
import Derived.Test.YtbcanmagihejhaaGreatDoorAbE
set_option linter.unusedSimpArgs false
set_option linter.unusedVariables false
namespace Go.Proofs.T
open Go Go.Ab
open Nat (reduceMul reduceEqDiff reduceAdd)
set_option maxRecDepth 100000
theorem rletter_ok {Z:St}{n:Int}:Ev (go Tryz.prog HS (.fn 98) [.int .u8 n] Z) (fun r=>r=⟨false,.bool (letB n),Z⟩) ⟨⟩:=by
 refine ev_go Tryz.func98 rfl rfl ?_
 unfold letB
 cases a:decide (n<97) <;> cases b:decide (122<n) <;> cases c:decide (n<65) <;> cases d:decide (90<n) <;> simp (maxSteps:=8000000) (disch:=first|exact dS|fail) only [↓bD,bW,reduceMul,reduceEqDiff,reduceAdd,Nat.reduceBEq,reduceIte,Option.isNone_none,a,b,c,d,yu_t,yu_f,Tryz.results98] <;> rfl
theorem rdigit_ok {Z:St}{n:Int}:Ev (go Tryz.prog HS (.fn 134) [.int .u8 n] Z) (fun r=>r=⟨false,.bool (digB n),Z⟩) ⟨⟩:=by
 refine ev_go Tryz.func134 rfl rfl ?_
 unfold digB
 cases a:decide (n<48) <;> cases b:decide (57<n) <;> simp (maxSteps:=8000000) (disch:=first|exact dS|fail) only [↓bD,bW,reduceMul,reduceEqDiff,reduceAdd,Nat.reduceBEq,reduceIte,Option.isNone_none,a,b,Tryz.results134] <;> rfl
theorem rfollows_ok {Z:St}{n:Int}:Ev (go Tryz.prog HS (.fn 97) [.int .u8 n] Z) (fun r=>r=⟨false,.bool (folB n),Z⟩) ⟨⟩:=by
 refine ev_go Tryz.func97 rfl rfl ?_
 refine gS ?_
 refine rletter_ok.mono ?_
 rintro r rfl
 refine gS ?_
 refine rdigit_ok.mono ?_
 rintro r rfl
 unfold folB
 cases a:letB n <;> cases b:digB n <;> cases c:decide (n=95) <;> simp (maxSteps:=8000000) (disch:=first|exact dS|fail) only [↓bD,bW,reduceMul,reduceEqDiff,reduceAdd,Nat.reduceBEq,reduceIte,Option.isNone_none,a,b,c,Tryz.results97] <;> rfl
def rnameB (s:By):Bool:=decide (0<s.length)&&decide (s.length<=30)&&(s.all fun c=>folB c.toNat)&&(match s with|c::_=>letB c.toNat|[]=>false)
set_option maxHeartbeats 1000000 in
theorem risname_ok {Z:St}{s:By}:Ev (go Tryz.prog HS (.fn 57) [str s] Z) (fun r=>r=⟨false,.bool (rnameB s),Z⟩) ⟨⟩:=by
 refine ev_go Tryz.func57 rfl rfl ?_
 by_cases h1:s.length<1
 ·have e1:decide ((s.length:Int)<1)=true:=by rw [decide_eq_true_iff];omega
  have hb:rnameB s=false:=by unfold rnameB;rw [decide_eq_false (show ¬ 0<s.length by omega)];rfl
  refine gS1 (aI @e1 (aI @hb @Tryz.results57)) ?_;try exact ⟨⟩
 have e1:decide ((s.length:Int)<1)=false:=by rw [decide_eq_false_iff_not];omega
 by_cases h2:30<s.length
 ·have e2:decide (30<(s.length:Int))=true:=by rw [decide_eq_true_iff];omega
  have hb:rnameB s=false:=by unfold rnameB;rw [decide_eq_false (show ¬ s.length<=30 by omega)];simp
  refine gS1 (aI @e1 (aI @e2 (aI @hb @Tryz.results57))) ?_;try exact ⟨⟩
 have e2:decide (30<(s.length:Int))=false:=by rw [decide_eq_false_iff_not];omega
 refine gS1 (aI @e1 @e2) ?_
 refine ev_count s.length (fun k fr Z'=>fr.get 3=some (.int .i64 k)/\fr.get 0=some (str s)/\Z'=Z/\(∀ i c,i<k->s[i]? =some c->folB c.toNat=true)/\(∀ c,0<k->s[0]? =some c->letB c.toNat=true))
  (fun r=>(∃ fr,r=⟨.exit 0,fr,Z⟩/\rnameB s=true)\/∃ fr,r=⟨.ret,fr,Z⟩/\fr.get 2=some (.bool false)/\rnameB s=false) ?_ ?_ ?_ ?_
 ·exact ⟨fR,fR,rfl,fun i c h=>om,fun c h=>om⟩
 ·rintro k fr Z' hk ⟨g3,g0,rfl,ha,hb⟩
  have hc:=lt_true hk
  obtain ⟨c,hck⟩:=at_some hk
  have hs:=sub_at1 hck
  refine gS1 (aI @g3 (aI @g0 (aI @hc (aI @hs @oneB_one)))) ?_
  refine rfollows_ok.mono ?_
  rintro r rfl
  refine gS1 (aI @g3 (aI @g0 (aI @hs @oneB_one))) ?_
  refine rletter_ok.mono ?_
  rintro r rfl
  have no:∀ x,(∀ d∈s,folB d.toNat=true)=x->True:=fun _ _=>trivial
  cases q1:folB c.toNat with
  | false =>
    have hn:rnameB s=false:=by
     unfold rnameB
     have:(s.all fun c=>folB c.toNat)=false:=by
      rw [Bool.eq_false_iff];intro h
      rw [List.all_eq_true] at h
      have:=h c (List.mem_of_getElem? hck)
      rw [q1] at this;cases this
     rw [this];simp
    refine gS1 (aI @g3 (aI @g0 (aI @q1 (aI @yu_t @yu_f)))) ?_
    exact Or.inr ⟨_,rfl,fR,hn⟩
  | true =>
    by_cases k0:k=0
    ·subst k0
     have e3:decide (((0:Nat):Int)=0)=true:=by decide
     cases q2:letB c.toNat with
     | false =>
       have hn:rnameB s=false:=by
        cases s with
        | nil=>rfl
        | cons d s=>cases hck;unfold rnameB;simp only [q2,Bool.and_false]
       refine gS1 (aI @g3 (aI @g0 (aI @q1 (aI @q2 (aI @e3 (aI @yu_t @yu_f)))))) ?_
       exact Or.inr ⟨_,rfl,fR,hn⟩
     | true =>
       refine gS1 (aI @g3 (aI @g0 (aI @q1 (aI @q2 (aI @e3 (aI @yu_t @yu_f)))))) ?_
       refine ⟨fR,fR1 g0,by trivial,fun i d hi hd=>?_,fun d _ hd=>?_⟩
       ·obtain rfl:i=0:=om
        rw [hck] at hd;cases hd;exact q1
       ·rw [hck] at hd;cases hd;exact q2
    ·have e3:decide ((k:Int)=0)=false:=by rw [decide_eq_false_iff_not];omega
     refine gS1 (aI @g3 (aI @g0 (aI @q1 (aI @e3 (aI @yu_t @yu_f))))) ?_
     refine ⟨fR,fR1 g0,by trivial,fun i d hi hd=>?_,fun d _ hd=>hb d om hd⟩
     by_cases e:i=k
     ·subst e;rw [hck] at hd;cases hd;exact q1
     ·exact ha i d om hd
 ·rintro fr Z' ⟨g3,g0,rfl,ha,hb⟩
  refine gS1 (aI @g3 @g0) ?_
  refine Or.inl ⟨_,rfl,?_⟩
  unfold rnameB
  rw [decide_eq_true (show 0<s.length by omega),decide_eq_true (show s.length<=30 by omega)]
  have:(s.all fun c=>folB c.toNat)=true:=by
   rw [List.all_eq_true]
   intro c hc
   obtain ⟨i,hi,he⟩:=List.mem_iff_getElem.1 hc
   exact ha i c hi (by rw [List.getElem?_eq_getElem hi,he])
  rw [this]
  cases s with
  | nil=>simp at h1
  | cons c s=>simpa using hb c (by simp) rfl
 rintro r (⟨fr,rfl,hn⟩|⟨fr,rfl,g2,hn⟩)
 ·refine gS1 (aI @hn @Tryz.results57) ?_;try exact ⟨⟩
 ·refine gS1 (aI @g2 (aI @hn @Tryz.results57)) ?_;try exact ⟨⟩
end Go.Proofs.T
namespace Go.Proofs.T
open Go Go.Ab
set_option maxRecDepth 100000
def tokL (s:By):Nat:=match s with
 | []=>0
 | c::_=>endT s 0 c
def lexF:Nat->By->List By
 | 0,_=>[]
 | f+1,s=>match s with
   | []=>[]
   | c::r=>if c=32 then lexF f r else s.take (tokL s)::lexF f (s.drop (tokL s))
theorem runs_drop {p:Int->Bool}{s:By}{k m:Nat}:runs p s (k+m)=runs p (s.drop k) m:=by unfold runs;rw [List.drop_drop]
theorem runs_drop0 {p:Int->Bool}{s:By}{k:Nat}:runs p s k=runs p (s.drop k) 0:=runs_drop (m:=0)
theorem endT_drop {s:By}{k:Nat}{c:UInt8}(hk:k<s.length):endT s k c=k+endT (s.drop k) 0 c:=by
 have e1:∀ R,min (k+R+1) s.length=k+min (R+1) (s.length-k):=fun R=>om
 unfold endT
 rw [@runs_drop0 folB s k,@runs_drop0 digB s k]
 simp only [Nat.zero_add]
 generalize runs digB (s.drop k) 0=R
 rw [e1,@runs_drop digB s k,List.getElem?_drop,List.length_drop]
 by_cases h1:on letB c=true
 ·rw [if_pos h1,if_pos h1]
 ·rw [if_neg h1,if_neg h1]
  by_cases h2:on digB c=true
  ·rw [if_pos h2,if_pos h2]
   have d1:decide (k+R<s.length)=decide (R<s.length-k):=by rw [Bool.eq_iff_iff,decide_eq_true_iff,decide_eq_true_iff];omega
   generalize runs digB (s.drop k) (min (R+1) (s.length-k))=M
   have d2:decide (k+R+1<k+min (R+1) (s.length-k)+M)=decide (R+1<min (R+1) (s.length-k)+M):=by rw [Bool.eq_iff_iff,decide_eq_true_iff,decide_eq_true_iff];omega
   rw [d1,d2]
   split
   ·omega
   ·rfl
  ·rw [if_neg h2,if_neg h2]
theorem fT_lex {s:By}{a:Nat}:∀ (f k:Nat),(fT s a f k).map Prod.fst=lexF f (s.drop k):=by
 intro f
 induction f with
 | zero=>intro k;rfl
 | succ f ih =>
   intro k
   unfold fT
   rcases Nat.lt_or_ge k s.length with hk|hk
   ·have hD:s.drop k=s[k]::s.drop (k+1):=List.drop_eq_getElem_cons hk
    have hl:lexF (f+1) (s.drop k)=if s[k]=32 then lexF f (s.drop (k+1)) else (s.drop k).take (tokL (s.drop k))::lexF f ((s.drop k).drop (tokL (s.drop k))):=by rw [hD];rfl
    have e:endT s k s[k]=k+tokL (s.drop k):=by rw [endT_drop hk,hD];rfl
    rw [hl,List.getElem?_eq_getElem hk]
    dsimp only
    by_cases hc:s[k]=32
    ·rw [if_pos hc,if_pos hc];exact ih _
    ·rw [if_neg hc,if_neg hc,List.map_cons,ih,e,show k+tokL (s.drop k)-k=tokL (s.drop k) by omega,<- List.drop_drop]
   ·rw [List.getElem?_eq_none hk,List.drop_of_length_le hk];rfl
theorem tokL_pos {c:UInt8}{r:By}:0<tokL (c::r)/\tokL (c::r)<=(c::r).length:=by
 have:=endT_in (s:=c::r) (k:=0) (c:=c) rfl
 exact this
theorem lexF_fuel:∀ (f f':Nat) (s:By),s.length<=f->s.length<=f'->lexF f s=lexF f' s:=by
 intro f
 induction f with
 | zero =>
   intro f' s h1 _
   obtain rfl:=List.eq_nil_of_length_eq_zero (Nat.le_zero.1 h1)
   cases f' <;> rfl
 | succ f ih =>
   intro f' s h1 h2
   cases s with
   | nil=>cases f' <;> rfl
   | cons c r =>
     cases f' with
     | zero=>simp at h2
     | succ f' =>
       unfold lexF
       dsimp only
       simp only [List.length_cons] at h1 h2
       have hp:=@tokL_pos c r
       by_cases hc:c=32
       ·rw [if_pos hc,if_pos hc];exact ih _ _ om om
       ·rw [if_neg hc,if_neg hc,ih f' _ (by rw [List.length_drop,List.length_cons];omega) (by rw [List.length_drop,List.length_cons];omega)]
def lex (s:By):List By:=lexF s.length s
theorem fToks_lex {s:By}{a:Nat}:(fToks s a).map Prod.fst=lex s++[[]]:=by
 unfold fToks lex
 rw [List.map_append,fT_lex,List.drop_zero];rfl
theorem lex_nil:lex []=[]:=rfl
theorem lex_blank {r:By}:lex (32::r)=lex r:=by
 unfold lex
 rw [List.length_cons]
 rfl
theorem lex_tok {c:UInt8}{r:By}(h:c≠32):lex (c::r)=(c::r).take (tokL (c::r))::lex ((c::r).drop (tokL (c::r))):=by
 have hp:=@tokL_pos c r
 show lexF (r.length+1) (c::r)=_
 unfold lexF
 dsimp only
 rw [if_neg h]
 unfold lex
 rw [lexF_fuel r.length _ _ (by rw [List.length_drop,List.length_cons];omega) (Nat.le_refl _)]
def Stop (r:By):Prop:=∀ c t,r=c::t->on folB c=false/\c≠46
theorem takeWhile_all {p:UInt8->Bool}{w r:By}(hw:w.all p=true) (hr:∀ c t,r=c::t->p c=false):(w++r).takeWhile p=w:=by
 induction w with
 | nil =>
   cases r with
   | nil=>rfl
   | cons c t=>rw [List.nil_append,List.takeWhile_cons,hr c t rfl];rfl
 | cons c w ih =>
   rw [List.all_cons,Bool.and_eq_true] at hw
   rw [List.cons_append,List.takeWhile_cons,hw.1,if_pos rfl,ih hw.2]
theorem lex_name {c:UInt8}{w r:By}(h1:on letB c=true) (h2:(c::w).all (on folB)=true) (h3:Stop r):lex (c::w++r)=(c::w)::lex r:=by
 have hne:c≠32:=by rintro rfl;cases h1
 have ht:tokL (c::(w++r))=(c::w).length:=by
  show endT _ 0 c=_
  unfold endT
  rw [if_pos h1,Nat.zero_add]
  unfold runs
  rw [List.drop_zero,show c::(w++r)=(c::w)++r from rfl,takeWhile_all h2 fun c t e=>(h3 c t e).1]
 rw [List.cons_append,lex_tok hne,ht,show c::(w++r)=(c::w)++r from rfl,List.take_left,List.drop_left]
theorem lex_punct {c:UInt8}{r:By}(h1:on letB c=false) (h2:on digB c=false) (h3:c≠32):lex (c::r)=[c]::lex r:=by
 have ht:tokL (c::r)=1:=by
  show endT _ 0 c=_
  unfold endT
  rw [if_neg (by rw [h1];simp),if_neg (by rw [h2];simp)]
 rw [lex_tok h3,ht];rfl
theorem dig_fol {c:UInt8}(h:on digB c=true):on folB c=true:=by
 unfold on folB at *
 rw [h];simp
theorem stop_dig {r:By}(h:Stop r):∀ c t,r=c::t->on digB c=false:=fun c t e=>by
 cases hd:on digB c with
 | false=>rfl
 | true=>have:=(h c t e).1;rw [dig_fol hd] at this;cases this
theorem dig_let {c:UInt8}(h:on digB c=true):on letB c=false:=by
 unfold on digB letB at *
 simp only [Bool.and_eq_true,Bool.not_eq_true',decide_eq_false_iff_not] at h
 have e1:decide ((c.toNat:Int)<97)=true:=by rw [decide_eq_true_iff];omega
 have e2:decide ((c.toNat:Int)<65)=true:=by rw [decide_eq_true_iff];omega
 rw [e1,e2];rfl
theorem dig_ne {c:UInt8}(h:on digB c=true):c≠32/\c≠46:=⟨(by rintro rfl;cases h),(by rintro rfl;cases h)⟩
theorem lex_int {c:UInt8}{w r:By}(h2:(c::w).all (on digB)=true) (h3:Stop r):lex (c::w++r)=(c::w)::lex r:=by
 have h1:on digB c=true:=by rw [List.all_cons,Bool.and_eq_true] at h2;exact h2.1
 have hR:runs digB (c::(w++r)) 0=(c::w).length:=by
  unfold runs
  rw [List.drop_zero,show c::(w++r)=(c::w)++r from rfl,takeWhile_all h2 (stop_dig h3)]
 have ht:tokL (c::(w++r))=(c::w).length:=by
  show endT _ 0 c=_
  unfold endT
  rw [if_neg (by rw [dig_let h1];simp),if_pos h1,Nat.zero_add,hR]
  have hx:decide ((c::(w++r))[(c::w).length]? =some 46)=false:=by
   rw [decide_eq_false_iff_not,show c::(w++r)=(c::w)++r from rfl,List.getElem?_append_right (Nat.le_refl _),Nat.sub_self]
   cases r with
   | nil=>simp
   | cons x t=>intro he;cases he;exact (h3 46 t rfl).2 rfl
  rw [hx,Bool.and_false,Bool.false_and,if_neg (by simp)]
 rw [List.cons_append,lex_tok (dig_ne h1).1,ht,show c::(w++r)=(c::w)++r from rfl,List.take_left,List.drop_left]
theorem lex_dec {c x:UInt8}{w v r:By}(h2:(c::w).all (on digB)=true) (h4:(x::v).all (on digB)=true) (h3:Stop r):lex (c::w++46::x::v++r)=(c::w++46::x::v)::lex r:=by
 have h1:on digB c=true:=by rw [List.all_cons,Bool.and_eq_true] at h2;exact h2.1
 have e0:c::w++46::x::v++r=(c::w)++(46::((x::v)++r)):=by simp
 have hR:runs digB ((c::w)++(46::((x::v)++r))) 0=(c::w).length:=by
  unfold runs
  rw [List.drop_zero,takeWhile_all h2 (fun c t e=>by cases e;rfl)]
 have hM:runs digB ((c::w)++(46::((x::v)++r))) ((c::w).length+1)=(x::v).length:=by
  unfold runs
  rw [show (c::w)++(46::((x::v)++r))=((c::w)++[46])++((x::v)++r) by simp,List.drop_left' (by simp),takeWhile_all h4 (stop_dig h3)]
 have hlen:((c::w)++(46::((x::v)++r))).length=(c::w).length+1+(x::v).length+r.length:=by simp;omega
 have ht:tokL ((c::w)++(46::((x::v)++r)))=(c::w++46::x::v).length:=by
  show endT _ 0 c=_
  unfold endT
  rw [if_neg (by rw [dig_let h1];simp),if_pos h1,Nat.zero_add,hR]
  rw [show min ((c::w).length+1) ((c::w)++(46::((x::v)++r))).length=(c::w).length+1 by rw [hlen];omega,hM]
  have hx:decide (((c::w)++(46::((x::v)++r)))[(c::w).length]? =some 46)=true:=by
   rw [decide_eq_true_iff,List.getElem?_append_right (Nat.le_refl _),Nat.sub_self];rfl
  have hl:decide ((c::w).length<((c::w)++(46::((x::v)++r))).length)=true:=by rw [decide_eq_true_iff,hlen];omega
  have hl2:decide ((c::w).length+1<(c::w).length+1+(x::v).length)=true:=by rw [decide_eq_true_iff];simp
  rw [hx,hl,hl2]
  simp;omega
 rw [e0]
 have hc:(c::w)++(46::((x::v)++r))=c::(w++(46::((x::v)++r))):=rfl
 rw [hc,lex_tok (dig_ne h1).1,<- hc,ht,show (c::w)++(46::((x::v)++r))=(c::w++46::x::v)++r by simp,List.take_left,List.drop_left]
end Go.Proofs.T
namespace Go.Proofs.T
open Go Go.Ab
set_option maxRecDepth 100000
def lvl (op:By):Nat:=if op=[43]\/op=[45] then 0 else if op=[42]\/op=[47] then 1 else 2
def dgt (n:Nat):UInt8:=UInt8.ofNat (48+n % 10)
def dcF:Nat->Nat->By
 | 0,_=>[]
 | f+1,n=>if n<10 then [dgt n] else dcF f (n / 10)++[dgt n]
def dcN (n:Nat):By:=dcF (n+1) n
def frT:Nat->Nat->Nat->By
 | 0,_,_=>[]
 | f+1,r,D=>if r=0 then [] else dcN (10*r / D)++frT f (10*r % D) D
def deT (n d:Int):By:=dcN (n.toNat / d.toNat)++(if n.toNat % d.toNat=0 then [] else 46::frT 6 (n.toNat % d.toNat) d.toNat)
def par (b:Bool) (s:By):By:=if b=true then 40::(s++[41]) else s
def parT (b:Bool) (s:List By):List By:=if b=true then [40]::(s++[[41]]) else s
def showF:Nat->Nat->Ex->By
 | 0,_,_=>[]
 | f+1,least,.mk op n d nm args=>par (decide (lvl op<least)) (if op=numB3 then deT n d else if op=nmB then nm else match args with
   | [a,b]=>if op=minB\/op=maxB then op++40::(showF f 0 a++44::32::(showF f 0 b++[41])) else showF f (lvl op) a++32::(op++32::showF f (lvl op+1) b)
   | _=>[])
def tokF:Nat->Nat->Ex->List By
 | 0,_,_=>[]
 | f+1,least,.mk op n d nm args=>parT (decide (lvl op<least)) (if op=numB3 then [deT n d] else if op=nmB then [nm] else match args with
   | [a,b]=>if op=minB\/op=maxB then op::[40]::(tokF f 0 a++[44]::(tokF f 0 b++[[41]])) else tokF f (lvl op) a++op::tokF f (lvl op+1) b
   | _=>[])
structure RQ (n d:Int):Prop where
 n1: -1000000000<n
 n2:n<=1000000000*d
 d1:1<=d
 d2:d<1000000000
 low:Int.gcd n d=1
structure NumOk (n d:Int):Prop where
 rq:RQ n d
 n0:0<=n
 d6:(1000000:Int) % d=0
 lex:(∃ c w,deT n d=c::w/\(c::w).all (on digB)=true)\/∃ c w x v,deT n d=c::w++46::x::v/\(c::w).all (on digB)=true/\(x::v).all (on digB)=true
 dec:∀ toks k p,(tokA toks k).1=deT n d->decS toks k p= .ok (.mk numB3 n d [] [],1,k+1,p+1)
inductive FW:Nat->Nat->Ex->Prop
 | num {n d:Int} (h:NumOk n d):FW 1 1 (.mk numB3 n d [] [])
 | name {nm:By} (h1:nameB nm=true) (h2:nm≠minB) (h3:nm≠maxB):FW 1 1 (.mk nmB 0 0 nm [])
 | bin {k j m i:Nat} {o:By} {a b:Ex} (h:o=[43]\/o=[45]\/o=[42]\/o=[47]) (ha:FW k m a) (hb:FW j i b):FW (1+max k j) (m+i+1) (.mk o 0 0 [] [a,b])
 | mm {k j m i:Nat} {o:By} {a b:Ex} (h:o=minB\/o=maxB) (ha:FW k m a) (hb:FW j i b):FW (1+max k j) (m+i+1) (.mk o 0 0 [] [a,b])
theorem FW.pos {k m:Nat}{e:Ex}(h:FW k m e):1<=k/\1<=m:=by cases h <;> omega
theorem stop_cons {c:UInt8}{r:By}(h1:on folB c=false) (h2:c≠46):Stop (c::r):=fun c' t e=>by cases e;exact ⟨h1,h2⟩
theorem stop_nil:Stop []:=fun c t e=>by cases e
theorem lex_par {b:Bool}{s:By}{ts:List By}(h:∀ r,Stop r->lex (s++r)=ts++lex r){r:By}(hr:Stop r):lex (par b s++r)=parT b ts++lex r:=by
 unfold par parT
 cases b with
 | false=>exact h r hr
 | true =>
   rw [if_pos rfl,if_pos rfl,show 40::(s++[41])++r=40::(s++(41::r)) by simp,lex_punct (by rfl) (by rfl) (by decide),h (41::r) (stop_cons (by rfl) (by decide)),lex_punct (by rfl) (by rfl) (by decide)]
   simp
theorem name_split {nm:By}(h:nameB nm=true):∃ c w,nm=c::w/\on letB c=true/\(c::w).all (on folB)=true:=by
 unfold nameB at h
 rw [Bool.and_eq_true,Bool.and_eq_true] at h
 cases nm with
 | nil=>cases h.1.1
 | cons c w=>exact ⟨c,w,rfl,h.1.1,h.2⟩
theorem lex_show {k m:Nat}{e:Ex}(h:FW k m e):∀ (f least:Nat),k<=f->∀ r:By,Stop r->lex (showF f least e++r)=tokF f least e++lex r:=by
 induction h with
 | @num n d h =>
   intro f least hf r hr
   obtain ⟨f,rfl⟩:∃ g,f=g+1:=⟨f-1,om⟩
   unfold showF tokF
   refine lex_par (fun r hr=>?_) hr
   rw [if_pos rfl,if_pos rfl]
   rcases h.lex with ⟨c,w,e,h1⟩|⟨c,w,x,v,e,h1,h2⟩
   ·rw [e];exact lex_int h1 hr
   ·rw [e];exact lex_dec h1 h2 hr
 | @name nm h1 h2 h3 =>
   intro f least hf r hr
   obtain ⟨f,rfl⟩:∃ g,f=g+1:=⟨f-1,om⟩
   unfold showF tokF
   refine lex_par (fun r hr=>?_) hr
   rw [if_neg (by decide),if_pos rfl,if_neg (by decide),if_pos rfl]
   obtain ⟨c,w,rfl,q1,q2⟩:=name_split h1
   exact lex_name q1 q2 hr
 | @bin k j m i o a b h ha hb iha ihb =>
   intro f least hf r hr
   obtain ⟨f,rfl⟩:∃ g,f=g+1:=⟨f-1,om⟩
   unfold showF tokF
   refine lex_par (fun r hr=>?_) hr
   have hn:o≠numB3/\o≠nmB/\¬ (o=minB\/o=maxB):=by rcases h with rfl|rfl|rfl|rfl <;> decide
   rw [if_neg hn.1,if_neg hn.2.1,if_neg hn.1,if_neg hn.2.1]
   dsimp only
   rw [if_neg hn.2.2,if_neg hn.2.2]
   obtain ⟨c,rfl,c1,c2,c3⟩:∃ c,o=[c]/\on letB c=false/\on digB c=false/\c≠32:=by
    rcases h with rfl|rfl|rfl|rfl <;> exact ⟨_,rfl,by rfl,by rfl,by decide⟩
   rw [show showF f (lvl [c]) a++32::([c]++32::showF f (lvl [c]+1) b)++r=showF f (lvl [c]) a++(32::c::32::(showF f (lvl [c]+1) b++r)) by simp,
    iha f _ om _ (stop_cons (by rfl) (by decide)),lex_blank,lex_punct c1 c2 c3,lex_blank,ihb f _ om r hr]
   simp
 | @mm k j m i o a b h ha hb iha ihb =>
   intro f least hf r hr
   obtain ⟨f,rfl⟩:∃ g,f=g+1:=⟨f-1,om⟩
   unfold showF tokF
   refine lex_par (fun r hr=>?_) hr
   have hn:o≠numB3/\o≠nmB:=by rcases h with rfl|rfl <;> decide
   rw [if_neg hn.1,if_neg hn.2,if_neg hn.1,if_neg hn.2]
   dsimp only
   rw [if_pos h,if_pos h]
   obtain ⟨c,w,rfl,c1,c2⟩:∃ c w,o=c::w/\on letB c=true/\(c::w).all (on folB)=true:=by
    rcases h with rfl|rfl <;> exact ⟨_,_,rfl,by rfl,by rfl⟩
   rw [show c::w++40::(showF f 0 a++44::32::(showF f 0 b++[41]))++r=c::w++(40::(showF f 0 a++(44::32::(showF f 0 b++(41::r))))) by simp,
    lex_name c1 c2 (stop_cons (by rfl) (by decide)),lex_punct (by rfl) (by rfl) (by decide),iha f 0 om _ (stop_cons (by rfl) (by decide)),lex_punct (by rfl) (by rfl) (by decide),lex_blank,ihb f 0 om _ (stop_cons (by rfl) (by decide)),lex_punct (by rfl) (by rfl) (by decide)]
   simp
end Go.Proofs.T
namespace Go.Proofs.T
open Go Go.Ab
open Nat (reduceMul reduceEqDiff reduceAdd)
set_option maxRecDepth 100000
def qn (n d:Int):Int:=(if d<0 then -n else n) / (Int.gcd n d:Nat)
def qd (n d:Int):Int:=(if d<0 then -d else d) / (Int.gcd n d:Nat)
theorem gcd_step {a b:Nat}:Nat.gcd b (a % b)=Nat.gcd a b:=by
 rw [Nat.gcd_comm b,<- Nat.gcd_rec,Nat.gcd_comm]
def Lim (n:Int):Prop:= -4000000000000000000<=n/\n<=4000000000000000000
theorem tmod_nat {a b:Nat}:(a:Int).tmod (b:Int)=((a % b:Nat):Int):=rfl
theorem tdiv_gcd {n:Int}{g:Nat}(h:(g:Int)∣n):n.tdiv g=n / g:=Int.tdiv_eq_ediv_of_dvd h
theorem beq_dec {a b:Int}:(a==b)=decide (a=b):=by rw [Bool.eq_iff_iff];simp
theorem bi_and {a b:Bool}:bi a (some b) (some false)=some (a&&b):=by cases a <;> rfl
theorem b2_rat {x y:Operand}{a b c d:Int}:bin2 Tryz.prog .eql 32 x y (.agg ⟨[.int .i64 a,.int .i64 b]⟩) (.agg ⟨[.int .i64 c,.int .i64 d]⟩)=some (.bool (decide (a=c)&&decide (b=d))) /\
  bin2 Tryz.prog .neq 32 x y (.agg ⟨[.int .i64 a,.int .i64 b]⟩) (.agg ⟨[.int .i64 c,.int .i64 d]⟩)=some (.bool (!(decide (a=c)&&decide (b=d)))):=by
 have he:eqF Tryz.prog 9999 ⟨[.int .i64 a,.int .i64 b]⟩ ⟨[.int .i64 c,.int .i64 d]⟩ (Tryz.prog.fieldsOf 32).toList=bi (a==c) (bi (b==d) (some true) (some false)) (some false):=by kernel_rfl
 have h:=b2_struct (x:=x) (y:=y) rfl (by kernel_rfl) (by kernel_rfl) (by kernel_rfl) he
 rw [bi_and,bi_and,beq_dec,beq_dec,Bool.and_true] at h
 exact h
theorem quick_ok {Z:St}{n d:Int}(h1:Lim n) (h2:Lim d) (h3:d≠0) :
  Ev (go Tryz.prog HS (.fn 103) [.int .i64 n,.int .i64 d] Z) (fun r=>∃ Z',r=⟨false,.agg ⟨[.int .i64 (qn n d),.int .i64 (qd n d)]⟩,Z'⟩/\Ext Z Z') ⟨⟩:=by
 obtain ⟨a1,a2⟩:=h1
 obtain ⟨b1,b2⟩:=h2
 obtain ⟨N,hN⟩:∃ N,(if d<0 then -n else n)=N:=⟨_,rfl⟩
 obtain ⟨D,hD⟩:∃ D,(if d<0 then -d else d)=D:=⟨_,rfl⟩
 have hgcd:Int.gcd n d=Nat.gcd N.natAbs D.natAbs:=by
  have h1:N.natAbs=n.natAbs:=by rw [<- hN];split <;> omega
  have h2:D.natAbs=d.natAbs:=by rw [<- hD];split <;> omega
  unfold Int.gcd;rw [h1,h2]
 have hDp:0<D:=by rw [<- hD];split <;> omega
 have hDl:D<=4000000000000000000:=by rw [<- hD];split <;> omega
 have hNl: -4000000000000000000<=N/\N<=4000000000000000000:=by rw [<- hN];split <;> omega
 have e3:IntKind.i64.wrap (0-N)= -N:=by rw [wrap64_in om om];omega
 have hmx:max N (-N)=(N.natAbs:Int):=om
 have hDn:D=(D.natAbs:Int):=om
 have hq1:qn n d=N / (Nat.gcd N.natAbs D.natAbs:Nat):=by unfold qn;rw [hN,hgcd]
 have hq2:qd n d=D / (Nat.gcd N.natAbs D.natAbs:Nat):=by unfold qd;rw [hD,hgcd]
 rw [hq1,hq2]
 have hg0:Nat.gcd N.natAbs D.natAbs≠0:=fun h=>by have:=Nat.eq_zero_of_gcd_eq_zero_right h;omega
 have hgN:((Nat.gcd N.natAbs D.natAbs:Nat):Int)∣N:=Int.ofNat_dvd_left.2 (Nat.gcd_dvd_left _ _)
 have hgD:((Nat.gcd N.natAbs D.natAbs:Nat):Int)∣D:=Int.ofNat_dvd_left.2 (Nat.gcd_dvd_right _ _)
 obtain ⟨g,hg⟩:∃ g,Nat.gcd N.natAbs D.natAbs=g:=⟨_,rfl⟩
 rw [hg] at hg0 hgN hgD ⊢
 have hgi:(g:Int)≠0:=om
 have c1:N.tdiv g=N / g:=tdiv_gcd hgN
 have c2:D.tdiv g=D / g:=tdiv_gcd hgD
 have hb1: -4000000000000000000<=N / (g:Int)/\N / (g:Int)<=4000000000000000000:=by
  obtain ⟨k,hk⟩:=hgN
  rw [hk,Int.mul_ediv_cancel_left _ hgi]
  have hg1:1<=(g:Int):=om
  constructor
  ·rcases Int.le_total 0 k with h|h
   ·omega
   ·have:=Int.mul_le_mul_of_nonpos_right hg1 h;omega
  ·rcases Int.le_total 0 k with h|h
   ·have:=Int.mul_le_mul_of_nonneg_right hg1 h;omega
   ·omega
 have hb2:0<=D / (g:Int)/\D / (g:Int)<=4000000000000000000:=by
  refine ⟨Int.ediv_nonneg om om,Int.le_trans (Int.ediv_le_self _ om) hDl⟩
 have w1:IntKind.i64.wrap (N / (g:Int))=N / (g:Int):=wrap64_in om om
 have w2:IntKind.i64.wrap (D / (g:Int))=D / (g:Int):=wrap64_in om om
 refine ev_go Tryz.func103 rfl rfl ?_
 have hcases:(decide (d<0)=true/\IntKind.i64.wrap (0-n)=N/\IntKind.i64.wrap (0-d)=D)\/(decide (D<0)=false/\n=N/\d=D):=by
  by_cases hd:d<0
  ·rw [if_pos hd] at hN hD
   exact .inl ⟨by simpa using hd,by rw [wrap64_in om om];omega,by rw [wrap64_in om om];omega⟩
  ·rw [if_neg hd] at hN hD
   exact .inr ⟨by rw [<- hD];simpa using hd,hN,hD⟩
 clear hN hD hgcd hq1 hq2
 rcases hcases with ⟨hc,e1,e2⟩|⟨hc,e1,e2⟩
 all_goals
  refine gS1 (aI @hc (aI @e1 (aI @e2 (aI @e3 @hmx)))) ?_
  refine ev_loop (fun m fr Z'=>∃ a:Nat,fr.get 0=some (.int .i64 N)/\fr.get 1=some (.int .i64 D)/\fr.get 4=some (.pointer (some ⟨Z.n,0,none⟩))/\fr.get 5=some (.int .i64 (a:Int))/\fr.get 6=some (.int .i64 (m:Int))/\Z'=Z.new [.int .i64 0,.int .i64 0] (some 32)/\Nat.gcd a m=g)
   (fun r=>∃ fr,r=⟨.exit 0,fr,Z.new [.int .i64 0,.int .i64 0] (some 32)⟩/\fr.get 0=some (.int .i64 N)/\fr.get 1=some (.int .i64 D)/\fr.get 4=some (.pointer (some ⟨Z.n,0,none⟩))/\fr.get 5=some (.int .i64 (g:Int))) D.natAbs ?_ ?_ ?_
  ·exact ⟨N.natAbs,fR1 (And.intro e1 e2),fR1 (And.intro e1 e2),fR1 (And.intro e1 e2),fR1 (And.intro e1 e2),by rw [<- hDn];exact fR1 (And.intro e1 e2),rfl,hg⟩
  ·rintro m fr Z' ⟨a,g0,g1,g4,g5,g6,rfl,hgc⟩
   by_cases hm:0<m
   ·have hc':decide ((0:Int)<(m:Int))=true:=by simpa using hm
    have hm0:(m:Int)≠0:=om
    refine gS1 (aI @g0 (aI @g1 (aI @g4 (aI @g5 (aI @g6 (aI @hc' (aI @tmod_nat @lp_normal))))))) ?_
    refine ⟨a % m,Nat.mod_lt _ hm,m,fR1 g0,fR1 g1,fR1 g4,fR,fR,by trivial,by rw [gcd_step];exact hgc⟩
   ·obtain rfl:m=0:=om
    have hc':decide ((0:Int)<((0:Nat):Int))=false:=by decide
    rw [Nat.gcd_zero_right] at hgc
    subst hgc
    refine gS1 (aI @g0 (aI @g1 (aI @g4 (aI @g5 (aI @g6 (aI @hc' @lp_exit)))))) ?_
    exact ⟨_,rfl,fR1 g0,fR1 g1,fR1 g4,fR1 g5⟩
  ·rintro r ⟨fr,rfl,g0,g1,g4,g5⟩
   refine gS1 (aI @g0 (aI @g1 (aI @g4 (aI @g5 (aI @c1 (aI @c2 (aI @w1 (aI @w2 @Tryz.results103)))))))) ?_
   exact ⟨_,rfl,eX⟩
theorem small_ok {Z:St}{n:Int}(h1: -1000000000<n) (h2:n<1000000000):Ev (go Tryz.prog HS (.fn 102) [.int .i64 n] Z) (fun r=>r=⟨false,.bool true,Z⟩) ⟨⟩:=by
 have c1:decide (-1000000000<n)=true:=by simpa using h1
 have c2:decide (n<1000000000)=true:=by simpa using h2
 refine ev_go Tryz.func102 rfl rfl ?_
 refine gS1 (aI @c1 (aI @c2 (aI @yu_t (aI @yu_f @Tryz.results102)))) ?_;try exact ⟨⟩
theorem rmake_ok {Z:St}{n d:Int}(h1: -1000000000<n) (h2:n<1000000000) (h3: -1000000000<d) (h4:d<1000000000) (h5:d≠0) :
  Ev (go Tryz.prog HS (.fn 61) [.int .i64 n,.int .i64 d] Z) (fun r=>∃ Z',r=⟨false,.tuple ⟨[.agg ⟨[.int .i64 (qn n d),.int .i64 (qd n d)]⟩,.bool true]⟩,Z'⟩/\Ext Z Z') ⟨⟩:=by
 have c5:decide (d=0)=false:=by simpa using h5
 refine ev_go Tryz.func61 rfl rfl ?_
 refine gS1 @c5 ?_
 refine (small_ok h1 h2).mono ?_
 rintro r rfl
 refine gS1 @yu_t ?_
 refine (small_ok h3 h4).mono ?_
 rintro r rfl
 refine gS ?_
 refine (quick_ok ⟨om,om⟩ ⟨om,om⟩ h5).mono ?_
 rintro r ⟨Z2,rfl,e2⟩
 have n2:=e2.n
 have o2:Z2.orow Z.n=some [.int .i64 0,.int .i64 0]:=by rw [e2.orow (cL)];exact cL
 have hE:Ext Z Z2:=Ext.trans (eX) e2
 refine gS1 (aI @o2 @Tryz.results61) ?_
 exact ⟨_,rfl,eX⟩
def ratQ (n d:Int):Value:= .agg ⟨[.int .i64 n,.int .i64 d]⟩
theorem q_low {n d:Int}(h:d≠0):Int.gcd (qn n d) (qd n d)=1/\1<=qd n d:=by
 obtain ⟨N,hN⟩:∃ N,(if d<0 then -n else n)=N:=⟨_,rfl⟩
 obtain ⟨D,hD⟩:∃ D,(if d<0 then -d else d)=D:=⟨_,rfl⟩
 have hDp:0<D:=by rw [<- hD];split <;> omega
 have hg:Int.gcd n d=Int.gcd N D:=by rw [<- hN,<- hD];split <;> simp [Int.gcd]
 unfold qn qd
 rw [hN,hD,hg]
 have hg0:0<Int.gcd N D:=Int.gcd_pos_of_ne_zero_right _ om
 obtain ⟨k,hk⟩:((Int.gcd N D:Nat):Int)∣N:=Int.gcd_dvd_left _ _
 obtain ⟨m,hm⟩:((Int.gcd N D:Nat):Int)∣D:=Int.gcd_dvd_right _ _
 obtain ⟨g,hgg⟩:∃ g,Int.gcd N D=g:=⟨_,rfl⟩
 rw [hgg] at hk hm hg0 ⊢
 have hgi:(0:Int)<(g:Int):=om
 have e1:N / (g:Int)=k:=by rw [hk,Int.mul_ediv_cancel_left _ om]
 have e2:D / (g:Int)=m:=by rw [hm,Int.mul_ediv_cancel_left _ om]
 rw [e1,e2]
 refine ⟨?_,?_⟩
 ·rw [hk,hm,Int.gcd_mul_left,Int.natAbs_natCast] at hgg
  exact Nat.eq_of_mul_eq_mul_left hg0 (by rw [hgg,Nat.mul_one])
 ·rcases Int.lt_or_le 0 m with h|h
  ·omega
  ·exfalso
   have:=Int.mul_nonpos_of_nonneg_of_nonpos (Int.le_of_lt hgi) h
   omega
theorem q_self {n d:Int}(h:1<=d) (hg:Int.gcd n d=1):qn n d=n/\qd n d=d:=by
 unfold qn qd
 rw [if_neg om,if_neg om,hg]
 simp
end Go.Proofs.T
