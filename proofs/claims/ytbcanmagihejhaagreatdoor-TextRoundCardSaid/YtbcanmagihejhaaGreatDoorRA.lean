/- The tokens of a formula's text, without their offsets. -/
import Derived.Test.YtbcanmagihejhaaGreatDoorTH
import Derived.Test.YtbcanmagihejhaaGreatDoorAbE
set_option linter.unusedSimpArgs false
set_option linter.unusedVariables false
namespace Go.Proofs.T
open Go Go.Ab
set_option maxRecDepth 100000
end Go.Proofs.T
namespace Go.Proofs.T
open Go Go.Ab
set_option maxRecDepth 100000
def tokL (s:By):Nat:=match s with
 | []=>0
 | c::_=>endT s 0 c
def lexF:Nat->By->List By
 | 0,_=>[]
 | f+1,s=>match s with
   | []=>[]
   | c::r=>if c=32 then lexF f r else s.take (tokL s)::lexF f (s.drop (tokL s))
theorem runs_drop {p:Int->Bool}{s:By}{k m:Nat}:runs p s (k+m)=runs p (s.drop k) m:=by unfold runs;rw [List.drop_drop]
theorem runs_drop0 {p:Int->Bool}{s:By}{k:Nat}:runs p s k=runs p (s.drop k) 0:=runs_drop (m:=0)
theorem endT_drop {s:By}{k:Nat}{c:UInt8}(hk:k<s.length):endT s k c=k+endT (s.drop k) 0 c:=by
 have e1:∀ R,min (k+R+1) s.length=k+min (R+1) (s.length-k):=fun R=>om
 unfold endT
 rw [@runs_drop0 folB s k,@runs_drop0 digB s k]
 simp only [Nat.zero_add]
 generalize runs digB (s.drop k) 0=R
 rw [e1,@runs_drop digB s k,List.getElem?_drop,List.length_drop]
 by_cases h1:on letB c=true
 ·rw [if_pos h1,if_pos h1]
 ·rw [if_neg h1,if_neg h1]
  by_cases h2:on digB c=true
  ·rw [if_pos h2,if_pos h2]
   have d1:decide (k+R<s.length)=decide (R<s.length-k):=by rw [Bool.eq_iff_iff,decide_eq_true_iff,decide_eq_true_iff];omega
   generalize runs digB (s.drop k) (min (R+1) (s.length-k))=M
   have d2:decide (k+R+1<k+min (R+1) (s.length-k)+M)=decide (R+1<min (R+1) (s.length-k)+M):=by rw [Bool.eq_iff_iff,decide_eq_true_iff,decide_eq_true_iff];omega
   rw [d1,d2]
   split
   ·omega
   ·rfl
  ·rw [if_neg h2,if_neg h2]
theorem fT_lex {s:By}{a:Nat}:∀ (f k:Nat),(fT s a f k).map Prod.fst=lexF f (s.drop k):=by
 intro f
 induction f with
 | zero=>intro k;rfl
 | succ f ih =>
   intro k
   unfold fT
   rcases Nat.lt_or_ge k s.length with hk|hk
   ·have hD:s.drop k=s[k]::s.drop (k+1):=List.drop_eq_getElem_cons hk
    have hl:lexF (f+1) (s.drop k)=if s[k]=32 then lexF f (s.drop (k+1)) else (s.drop k).take (tokL (s.drop k))::lexF f ((s.drop k).drop (tokL (s.drop k))):=by rw [hD];rfl
    have e:endT s k s[k]=k+tokL (s.drop k):=by rw [endT_drop hk,hD];rfl
    rw [hl,List.getElem?_eq_getElem hk]
    dsimp only
    by_cases hc:s[k]=32
    ·rw [if_pos hc,if_pos hc];exact ih _
    ·rw [if_neg hc,if_neg hc,List.map_cons,ih,e,show k+tokL (s.drop k)-k=tokL (s.drop k) by omega,<- List.drop_drop]
   ·rw [List.getElem?_eq_none hk,List.drop_of_length_le hk];rfl
theorem tokL_pos {c:UInt8}{r:By}:0<tokL (c::r)/\tokL (c::r)<=(c::r).length:=by
 have:=endT_in (s:=c::r) (k:=0) (c:=c) rfl
 exact this
theorem lexF_fuel:∀ (f f':Nat) (s:By),s.length<=f->s.length<=f'->lexF f s=lexF f' s:=by
 intro f
 induction f with
 | zero =>
   intro f' s h1 _
   obtain rfl:=List.eq_nil_of_length_eq_zero (Nat.le_zero.1 h1)
   cases f' <;> rfl
 | succ f ih =>
   intro f' s h1 h2
   cases s with
   | nil=>cases f' <;> rfl
   | cons c r =>
     cases f' with
     | zero=>simp at h2
     | succ f' =>
       unfold lexF
       dsimp only
       simp only [List.length_cons] at h1 h2
       have hp:=@tokL_pos c r
       by_cases hc:c=32
       ·rw [if_pos hc,if_pos hc];exact ih _ _ om om
       ·rw [if_neg hc,if_neg hc,ih f' _ (by rw [List.length_drop,List.length_cons];omega) (by rw [List.length_drop,List.length_cons];omega)]
def lex (s:By):List By:=lexF s.length s
theorem fToks_lex {s:By}{a:Nat}:(fToks s a).map Prod.fst=lex s++[[]]:=by
 unfold fToks lex
 rw [List.map_append,fT_lex,List.drop_zero];rfl
theorem lex_nil:lex []=[]:=rfl
theorem lex_blank {r:By}:lex (32::r)=lex r:=by
 unfold lex
 rw [List.length_cons]
 rfl
theorem lex_tok {c:UInt8}{r:By}(h:c≠32):lex (c::r)=(c::r).take (tokL (c::r))::lex ((c::r).drop (tokL (c::r))):=by
 have hp:=@tokL_pos c r
 show lexF (r.length+1) (c::r)=_
 unfold lexF
 dsimp only
 rw [if_neg h]
 unfold lex
 rw [lexF_fuel r.length _ _ (by rw [List.length_drop,List.length_cons];omega) (Nat.le_refl _)]
def Stop (r:By):Prop:=∀ c t,r=c::t->on folB c=false/\c≠46
theorem takeWhile_all {p:UInt8->Bool}{w r:By}(hw:w.all p=true) (hr:∀ c t,r=c::t->p c=false):(w++r).takeWhile p=w:=by
 induction w with
 | nil =>
   cases r with
   | nil=>rfl
   | cons c t=>rw [List.nil_append,List.takeWhile_cons,hr c t rfl];rfl
 | cons c w ih =>
   rw [List.all_cons,Bool.and_eq_true] at hw
   rw [List.cons_append,List.takeWhile_cons,hw.1,if_pos rfl,ih hw.2]
theorem lex_name {c:UInt8}{w r:By}(h1:on letB c=true) (h2:(c::w).all (on folB)=true) (h3:Stop r):lex (c::w++r)=(c::w)::lex r:=by
 have hne:c≠32:=by rintro rfl;cases h1
 have ht:tokL (c::(w++r))=(c::w).length:=by
  show endT _ 0 c=_
  unfold endT
  rw [if_pos h1,Nat.zero_add]
  unfold runs
  rw [List.drop_zero,show c::(w++r)=(c::w)++r from rfl,takeWhile_all h2 fun c t e=>(h3 c t e).1]
 rw [List.cons_append,lex_tok hne,ht,show c::(w++r)=(c::w)++r from rfl,List.take_left,List.drop_left]
theorem lex_punct {c:UInt8}{r:By}(h1:on letB c=false) (h2:on digB c=false) (h3:c≠32):lex (c::r)=[c]::lex r:=by
 have ht:tokL (c::r)=1:=by
  show endT _ 0 c=_
  unfold endT
  rw [if_neg (by rw [h1];simp),if_neg (by rw [h2];simp)]
 rw [lex_tok h3,ht];rfl
theorem dig_fol {c:UInt8}(h:on digB c=true):on folB c=true:=by
 unfold on folB at *
 rw [h];simp
theorem stop_dig {r:By}(h:Stop r):∀ c t,r=c::t->on digB c=false:=fun c t e=>by
 cases hd:on digB c with
 | false=>rfl
 | true=>have:=(h c t e).1;rw [dig_fol hd] at this;cases this
theorem dig_let {c:UInt8}(h:on digB c=true):on letB c=false:=by
 unfold on digB letB at *
 simp only [Bool.and_eq_true,Bool.not_eq_true',decide_eq_false_iff_not] at h
 have e1:decide ((c.toNat:Int)<97)=true:=by rw [decide_eq_true_iff];omega
 have e2:decide ((c.toNat:Int)<65)=true:=by rw [decide_eq_true_iff];omega
 rw [e1,e2];rfl
theorem dig_ne {c:UInt8}(h:on digB c=true):c≠32/\c≠46:=⟨(by rintro rfl;cases h),(by rintro rfl;cases h)⟩
theorem lex_int {c:UInt8}{w r:By}(h2:(c::w).all (on digB)=true) (h3:Stop r):lex (c::w++r)=(c::w)::lex r:=by
 have h1:on digB c=true:=by rw [List.all_cons,Bool.and_eq_true] at h2;exact h2.1
 have hR:runs digB (c::(w++r)) 0=(c::w).length:=by
  unfold runs
  rw [List.drop_zero,show c::(w++r)=(c::w)++r from rfl,takeWhile_all h2 (stop_dig h3)]
 have ht:tokL (c::(w++r))=(c::w).length:=by
  show endT _ 0 c=_
  unfold endT
  rw [if_neg (by rw [dig_let h1];simp),if_pos h1,Nat.zero_add,hR]
  have hx:decide ((c::(w++r))[(c::w).length]? =some 46)=false:=by
   rw [decide_eq_false_iff_not,show c::(w++r)=(c::w)++r from rfl,List.getElem?_append_right (Nat.le_refl _),Nat.sub_self]
   cases r with
   | nil=>simp
   | cons x t=>intro he;cases he;exact (h3 46 t rfl).2 rfl
  rw [hx,Bool.and_false,Bool.false_and,if_neg (by simp)]
 rw [List.cons_append,lex_tok (dig_ne h1).1,ht,show c::(w++r)=(c::w)++r from rfl,List.take_left,List.drop_left]
theorem lex_dec {c x:UInt8}{w v r:By}(h2:(c::w).all (on digB)=true) (h4:(x::v).all (on digB)=true) (h3:Stop r):lex (c::w++46::x::v++r)=(c::w++46::x::v)::lex r:=by
 have h1:on digB c=true:=by rw [List.all_cons,Bool.and_eq_true] at h2;exact h2.1
 have e0:c::w++46::x::v++r=(c::w)++(46::((x::v)++r)):=by simp
 have hR:runs digB ((c::w)++(46::((x::v)++r))) 0=(c::w).length:=by
  unfold runs
  rw [List.drop_zero,takeWhile_all h2 (fun c t e=>by cases e;rfl)]
 have hM:runs digB ((c::w)++(46::((x::v)++r))) ((c::w).length+1)=(x::v).length:=by
  unfold runs
  rw [show (c::w)++(46::((x::v)++r))=((c::w)++[46])++((x::v)++r) by simp,List.drop_left' (by simp),takeWhile_all h4 (stop_dig h3)]
 have hlen:((c::w)++(46::((x::v)++r))).length=(c::w).length+1+(x::v).length+r.length:=by simp;omega
 have ht:tokL ((c::w)++(46::((x::v)++r)))=(c::w++46::x::v).length:=by
  show endT _ 0 c=_
  unfold endT
  rw [if_neg (by rw [dig_let h1];simp),if_pos h1,Nat.zero_add,hR]
  rw [show min ((c::w).length+1) ((c::w)++(46::((x::v)++r))).length=(c::w).length+1 by rw [hlen];omega,hM]
  have hx:decide (((c::w)++(46::((x::v)++r)))[(c::w).length]? =some 46)=true:=by
   rw [decide_eq_true_iff,List.getElem?_append_right (Nat.le_refl _),Nat.sub_self];rfl
  have hl:decide ((c::w).length<((c::w)++(46::((x::v)++r))).length)=true:=by rw [decide_eq_true_iff,hlen];omega
  have hl2:decide ((c::w).length+1<(c::w).length+1+(x::v).length)=true:=by rw [decide_eq_true_iff];simp
  rw [hx,hl,hl2]
  simp;omega
 rw [e0]
 have hc:(c::w)++(46::((x::v)++r))=c::(w++(46::((x::v)++r))):=rfl
 rw [hc,lex_tok (dig_ne h1).1,<- hc,ht,show (c::w)++(46::((x::v)++r))=(c::w++46::x::v)++r by simp,List.take_left,List.drop_left]
end Go.Proofs.T
namespace Go.Proofs.T
open Go Go.Ab
set_option maxRecDepth 100000
def lvl (op:By):Nat:=if op=[43]\/op=[45] then 0 else if op=[42]\/op=[47] then 1 else 2
def dgt (n:Nat):UInt8:=UInt8.ofNat (48+n % 10)
def dcF:Nat->Nat->By
 | 0,_=>[]
 | f+1,n=>if n<10 then [dgt n] else dcF f (n / 10)++[dgt n]
def dcN (n:Nat):By:=dcF (n+1) n
def frT:Nat->Nat->Nat->By
 | 0,_,_=>[]
 | f+1,r,D=>if r=0 then [] else dcN (10*r / D)++frT f (10*r % D) D
def deT (n d:Int):By:=dcN (n.toNat / d.toNat)++(if n.toNat % d.toNat=0 then [] else 46::frT 6 (n.toNat % d.toNat) d.toNat)
def par (b:Bool) (s:By):By:=if b=true then 40::(s++[41]) else s
def parT (b:Bool) (s:List By):List By:=if b=true then [40]::(s++[[41]]) else s
def showF:Nat->Nat->Ex->By
 | 0,_,_=>[]
 | f+1,least,.mk op n d nm args=>par (decide (lvl op<least)) (if op=numB3 then deT n d else if op=nmB then nm else match args with
   | [a,b]=>if op=minB\/op=maxB then op++40::(showF f 0 a++44::32::(showF f 0 b++[41])) else showF f (lvl op) a++32::(op++32::showF f (lvl op+1) b)
   | _=>[])
def tokF:Nat->Nat->Ex->List By
 | 0,_,_=>[]
 | f+1,least,.mk op n d nm args=>parT (decide (lvl op<least)) (if op=numB3 then [deT n d] else if op=nmB then [nm] else match args with
   | [a,b]=>if op=minB\/op=maxB then op::[40]::(tokF f 0 a++[44]::(tokF f 0 b++[[41]])) else tokF f (lvl op) a++op::tokF f (lvl op+1) b
   | _=>[])
structure RQ (n d:Int):Prop where
 n1: -1000000000<n
 n2:n<1000000000
 d1:1<=d
 d2:d<1000000000
 low:Int.gcd n d=1
structure NumOk (n d:Int):Prop where
 rq:RQ n d
 n0:0<=n
 d6:(1000000:Int) % d=0
 lex:(∃ c w,deT n d=c::w/\(c::w).all (on digB)=true)\/∃ c w x v,deT n d=c::w++46::x::v/\(c::w).all (on digB)=true/\(x::v).all (on digB)=true
 dec:∀ toks k p,(tokA toks k).1=deT n d->decS toks k p= .ok (.mk numB3 n d [] [],1,k+1,p+1)
inductive FW:Nat->Nat->Ex->Prop
 | num {n d:Int} (h:NumOk n d):FW 1 1 (.mk numB3 n d [] [])
 | name {nm:By} (h1:nameB nm=true) (h2:nm≠minB) (h3:nm≠maxB):FW 1 1 (.mk nmB 0 0 nm [])
 | bin {k j m i:Nat} {o:By} {a b:Ex} (h:o=[43]\/o=[45]\/o=[42]\/o=[47]) (ha:FW k m a) (hb:FW j i b):FW (1+max k j) (m+i+1) (.mk o 0 0 [] [a,b])
 | mm {k j m i:Nat} {o:By} {a b:Ex} (h:o=minB\/o=maxB) (ha:FW k m a) (hb:FW j i b):FW (1+max k j) (m+i+1) (.mk o 0 0 [] [a,b])
theorem FW.pos {k m:Nat}{e:Ex}(h:FW k m e):1<=k/\1<=m:=by cases h <;> omega
theorem stop_cons {c:UInt8}{r:By}(h1:on folB c=false) (h2:c≠46):Stop (c::r):=fun c' t e=>by cases e;exact ⟨h1,h2⟩
theorem stop_nil:Stop []:=fun c t e=>by cases e
theorem lex_par {b:Bool}{s:By}{ts:List By}(h:∀ r,Stop r->lex (s++r)=ts++lex r){r:By}(hr:Stop r):lex (par b s++r)=parT b ts++lex r:=by
 unfold par parT
 cases b with
 | false=>exact h r hr
 | true =>
   rw [if_pos rfl,if_pos rfl,show 40::(s++[41])++r=40::(s++(41::r)) by simp,lex_punct (by rfl) (by rfl) (by decide),h (41::r) (stop_cons (by rfl) (by decide)),lex_punct (by rfl) (by rfl) (by decide)]
   simp
theorem name_split {nm:By}(h:nameB nm=true):∃ c w,nm=c::w/\on letB c=true/\(c::w).all (on folB)=true:=by
 unfold nameB at h
 rw [Bool.and_eq_true,Bool.and_eq_true] at h
 cases nm with
 | nil=>cases h.1.1
 | cons c w=>exact ⟨c,w,rfl,h.1.1,h.2⟩
theorem lex_show {k m:Nat}{e:Ex}(h:FW k m e):∀ (f least:Nat),k<=f->∀ r:By,Stop r->lex (showF f least e++r)=tokF f least e++lex r:=by
 induction h with
 | @num n d h =>
   intro f least hf r hr
   obtain ⟨f,rfl⟩:∃ g,f=g+1:=⟨f-1,om⟩
   unfold showF tokF
   refine lex_par (fun r hr=>?_) hr
   rw [if_pos rfl,if_pos rfl]
   rcases h.lex with ⟨c,w,e,h1⟩|⟨c,w,x,v,e,h1,h2⟩
   ·rw [e];exact lex_int h1 hr
   ·rw [e];exact lex_dec h1 h2 hr
 | @name nm h1 h2 h3 =>
   intro f least hf r hr
   obtain ⟨f,rfl⟩:∃ g,f=g+1:=⟨f-1,om⟩
   unfold showF tokF
   refine lex_par (fun r hr=>?_) hr
   rw [if_neg (by decide),if_pos rfl,if_neg (by decide),if_pos rfl]
   obtain ⟨c,w,rfl,q1,q2⟩:=name_split h1
   exact lex_name q1 q2 hr
 | @bin k j m i o a b h ha hb iha ihb =>
   intro f least hf r hr
   obtain ⟨f,rfl⟩:∃ g,f=g+1:=⟨f-1,om⟩
   unfold showF tokF
   refine lex_par (fun r hr=>?_) hr
   have hn:o≠numB3/\o≠nmB/\¬ (o=minB\/o=maxB):=by rcases h with rfl|rfl|rfl|rfl <;> decide
   rw [if_neg hn.1,if_neg hn.2.1,if_neg hn.1,if_neg hn.2.1]
   dsimp only
   rw [if_neg hn.2.2,if_neg hn.2.2]
   obtain ⟨c,rfl,c1,c2,c3⟩:∃ c,o=[c]/\on letB c=false/\on digB c=false/\c≠32:=by
    rcases h with rfl|rfl|rfl|rfl <;> exact ⟨_,rfl,by rfl,by rfl,by decide⟩
   rw [show showF f (lvl [c]) a++32::([c]++32::showF f (lvl [c]+1) b)++r=showF f (lvl [c]) a++(32::c::32::(showF f (lvl [c]+1) b++r)) by simp,
    iha f _ om _ (stop_cons (by rfl) (by decide)),lex_blank,lex_punct c1 c2 c3,lex_blank,ihb f _ om r hr]
   simp
 | @mm k j m i o a b h ha hb iha ihb =>
   intro f least hf r hr
   obtain ⟨f,rfl⟩:∃ g,f=g+1:=⟨f-1,om⟩
   unfold showF tokF
   refine lex_par (fun r hr=>?_) hr
   have hn:o≠numB3/\o≠nmB:=by rcases h with rfl|rfl <;> decide
   rw [if_neg hn.1,if_neg hn.2,if_neg hn.1,if_neg hn.2]
   dsimp only
   rw [if_pos h,if_pos h]
   obtain ⟨c,w,rfl,c1,c2⟩:∃ c w,o=c::w/\on letB c=true/\(c::w).all (on folB)=true:=by
    rcases h with rfl|rfl <;> exact ⟨_,_,rfl,by rfl,by rfl⟩
   rw [show c::w++40::(showF f 0 a++44::32::(showF f 0 b++[41]))++r=c::w++(40::(showF f 0 a++(44::32::(showF f 0 b++(41::r))))) by simp,
    lex_name c1 c2 (stop_cons (by rfl) (by decide)),lex_punct (by rfl) (by rfl) (by decide),iha f 0 om _ (stop_cons (by rfl) (by decide)),lex_punct (by rfl) (by rfl) (by decide),lex_blank,ihb f 0 om _ (stop_cons (by rfl) (by decide)),lex_punct (by rfl) (by rfl) (by decide)]
   simp
end Go.Proofs.T
namespace Go.Proofs.T
open Go Go.Ab
open Nat (reduceMul reduceEqDiff reduceAdd)
set_option maxRecDepth 100000
def qn (n d:Int):Int:=(if d<0 then -n else n) / (Int.gcd n d:Nat)
def qd (n d:Int):Int:=(if d<0 then -d else d) / (Int.gcd n d:Nat)
theorem gcd_step {a b:Nat}:Nat.gcd b (a % b)=Nat.gcd a b:=by
 rw [Nat.gcd_comm b,<- Nat.gcd_rec,Nat.gcd_comm]
def Lim (n:Int):Prop:= -4000000000000000000<=n/\n<=4000000000000000000
theorem tmod_nat {a b:Nat}:(a:Int).tmod (b:Int)=((a % b:Nat):Int):=rfl
theorem tdiv_gcd {n:Int}{g:Nat}(h:(g:Int)∣n):n.tdiv g=n / g:=Int.tdiv_eq_ediv_of_dvd h
theorem beq_dec {a b:Int}:(a==b)=decide (a=b):=by rw [Bool.eq_iff_iff];simp
theorem bi_and {a b:Bool}:bi a (some b) (some false)=some (a&&b):=by cases a <;> rfl
theorem b2_rat {x y:Operand}{a b c d:Int}:bin2 Tryz.prog .eql 32 x y (.agg ⟨[.int .i64 a,.int .i64 b]⟩) (.agg ⟨[.int .i64 c,.int .i64 d]⟩)=some (.bool (decide (a=c)&&decide (b=d))) /\
  bin2 Tryz.prog .neq 32 x y (.agg ⟨[.int .i64 a,.int .i64 b]⟩) (.agg ⟨[.int .i64 c,.int .i64 d]⟩)=some (.bool (!(decide (a=c)&&decide (b=d)))):=by
 have he:eqF Tryz.prog 9999 ⟨[.int .i64 a,.int .i64 b]⟩ ⟨[.int .i64 c,.int .i64 d]⟩ (Tryz.prog.fieldsOf 32).toList=bi (a==c) (bi (b==d) (some true) (some false)) (some false):=by kernel_rfl
 have h:=b2_struct (x:=x) (y:=y) rfl (by kernel_rfl) (by kernel_rfl) (by kernel_rfl) he
 rw [bi_and,bi_and,beq_dec,beq_dec,Bool.and_true] at h
 exact h
theorem quick_ok {Z:St}{n d:Int}(h1:Lim n) (h2:Lim d) (h3:d≠0) :
  Ev (go Tryz.prog HS (.fn 103) [.int .i64 n,.int .i64 d] Z) (fun r=>∃ Z',r=⟨false,.agg ⟨[.int .i64 (qn n d),.int .i64 (qd n d)]⟩,Z'⟩/\Ext Z Z') ⟨⟩:=by
 obtain ⟨a1,a2⟩:=h1
 obtain ⟨b1,b2⟩:=h2
 obtain ⟨N,hN⟩:∃ N,(if d<0 then -n else n)=N:=⟨_,rfl⟩
 obtain ⟨D,hD⟩:∃ D,(if d<0 then -d else d)=D:=⟨_,rfl⟩
 have hgcd:Int.gcd n d=Nat.gcd N.natAbs D.natAbs:=by
  have h1:N.natAbs=n.natAbs:=by rw [<- hN];split <;> omega
  have h2:D.natAbs=d.natAbs:=by rw [<- hD];split <;> omega
  unfold Int.gcd;rw [h1,h2]
 have hDp:0<D:=by rw [<- hD];split <;> omega
 have hDl:D<=4000000000000000000:=by rw [<- hD];split <;> omega
 have hNl: -4000000000000000000<=N/\N<=4000000000000000000:=by rw [<- hN];split <;> omega
 have e3:IntKind.i64.wrap (0-N)= -N:=by rw [wrap64_in om om];omega
 have hmx:max N (-N)=(N.natAbs:Int):=om
 have hDn:D=(D.natAbs:Int):=om
 have hq1:qn n d=N / (Nat.gcd N.natAbs D.natAbs:Nat):=by unfold qn;rw [hN,hgcd]
 have hq2:qd n d=D / (Nat.gcd N.natAbs D.natAbs:Nat):=by unfold qd;rw [hD,hgcd]
 rw [hq1,hq2]
 have hg0:Nat.gcd N.natAbs D.natAbs≠0:=fun h=>by have:=Nat.eq_zero_of_gcd_eq_zero_right h;omega
 have hgN:((Nat.gcd N.natAbs D.natAbs:Nat):Int)∣N:=Int.ofNat_dvd_left.2 (Nat.gcd_dvd_left _ _)
 have hgD:((Nat.gcd N.natAbs D.natAbs:Nat):Int)∣D:=Int.ofNat_dvd_left.2 (Nat.gcd_dvd_right _ _)
 obtain ⟨g,hg⟩:∃ g,Nat.gcd N.natAbs D.natAbs=g:=⟨_,rfl⟩
 rw [hg] at hg0 hgN hgD ⊢
 have hgi:(g:Int)≠0:=om
 have c1:N.tdiv g=N / g:=tdiv_gcd hgN
 have c2:D.tdiv g=D / g:=tdiv_gcd hgD
 have hb1: -4000000000000000000<=N / (g:Int)/\N / (g:Int)<=4000000000000000000:=by
  obtain ⟨k,hk⟩:=hgN
  rw [hk,Int.mul_ediv_cancel_left _ hgi]
  have hg1:1<=(g:Int):=om
  constructor
  ·rcases Int.le_total 0 k with h|h
   ·omega
   ·have:=Int.mul_le_mul_of_nonpos_right hg1 h;omega
  ·rcases Int.le_total 0 k with h|h
   ·have:=Int.mul_le_mul_of_nonneg_right hg1 h;omega
   ·omega
 have hb2:0<=D / (g:Int)/\D / (g:Int)<=4000000000000000000:=by
  refine ⟨Int.ediv_nonneg om om,Int.le_trans (Int.ediv_le_self _ om) hDl⟩
 have w1:IntKind.i64.wrap (N / (g:Int))=N / (g:Int):=wrap64_in om om
 have w2:IntKind.i64.wrap (D / (g:Int))=D / (g:Int):=wrap64_in om om
 refine ev_go Tryz.func103 rfl rfl ?_
 have hcases:(decide (d<0)=true/\IntKind.i64.wrap (0-n)=N/\IntKind.i64.wrap (0-d)=D)\/(decide (D<0)=false/\n=N/\d=D):=by
  by_cases hd:d<0
  ·rw [if_pos hd] at hN hD
   exact .inl ⟨by simpa using hd,by rw [wrap64_in om om];omega,by rw [wrap64_in om om];omega⟩
  ·rw [if_neg hd] at hN hD
   exact .inr ⟨by rw [<- hD];simpa using hd,hN,hD⟩
 clear hN hD hgcd hq1 hq2
 rcases hcases with ⟨hc,e1,e2⟩|⟨hc,e1,e2⟩
 all_goals
  refine gS1 (aI @hc (aI @e1 (aI @e2 (aI @e3 @hmx)))) ?_
  refine ev_loop (fun m fr Z'=>∃ a:Nat,fr.get 0=some (.int .i64 N)/\fr.get 1=some (.int .i64 D)/\fr.get 4=some (.pointer (some ⟨Z.n,0,none⟩))/\fr.get 5=some (.int .i64 (a:Int))/\fr.get 6=some (.int .i64 (m:Int))/\Z'=Z.new [.int .i64 0,.int .i64 0] (some 32)/\Nat.gcd a m=g)
   (fun r=>∃ fr,r=⟨.exit 0,fr,Z.new [.int .i64 0,.int .i64 0] (some 32)⟩/\fr.get 0=some (.int .i64 N)/\fr.get 1=some (.int .i64 D)/\fr.get 4=some (.pointer (some ⟨Z.n,0,none⟩))/\fr.get 5=some (.int .i64 (g:Int))) D.natAbs ?_ ?_ ?_
  ·exact ⟨N.natAbs,fR1 (And.intro e1 e2),fR1 (And.intro e1 e2),fR1 (And.intro e1 e2),fR1 (And.intro e1 e2),by rw [<- hDn];exact fR1 (And.intro e1 e2),rfl,hg⟩
  ·rintro m fr Z' ⟨a,g0,g1,g4,g5,g6,rfl,hgc⟩
   by_cases hm:0<m
   ·have hc':decide ((0:Int)<(m:Int))=true:=by simpa using hm
    have hm0:(m:Int)≠0:=om
    refine gS1 (aI @g0 (aI @g1 (aI @g4 (aI @g5 (aI @g6 (aI @hc' (aI @tmod_nat @lp_normal))))))) ?_
    refine ⟨a % m,Nat.mod_lt _ hm,m,fR1 g0,fR1 g1,fR1 g4,fR,fR,by trivial,by rw [gcd_step];exact hgc⟩
   ·obtain rfl:m=0:=om
    have hc':decide ((0:Int)<((0:Nat):Int))=false:=by decide
    rw [Nat.gcd_zero_right] at hgc
    subst hgc
    refine gS1 (aI @g0 (aI @g1 (aI @g4 (aI @g5 (aI @g6 (aI @hc' @lp_exit)))))) ?_
    exact ⟨_,rfl,fR1 g0,fR1 g1,fR1 g4,fR1 g5⟩
  ·rintro r ⟨fr,rfl,g0,g1,g4,g5⟩
   refine gS1 (aI @g0 (aI @g1 (aI @g4 (aI @g5 (aI @c1 (aI @c2 (aI @w1 (aI @w2 @Tryz.results103)))))))) ?_
   exact ⟨_,rfl,eX⟩
theorem small_ok {Z:St}{n:Int}(h1: -1000000000<n) (h2:n<1000000000):Ev (go Tryz.prog HS (.fn 102) [.int .i64 n] Z) (fun r=>r=⟨false,.bool true,Z⟩) ⟨⟩:=by
 have c1:decide (-1000000000<n)=true:=by simpa using h1
 have c2:decide (n<1000000000)=true:=by simpa using h2
 refine ev_go Tryz.func102 rfl rfl ?_
 refine gS1 (aI @c1 (aI @c2 (aI @yu_t (aI @yu_f @Tryz.results102)))) ?_;try exact ⟨⟩
theorem rmake_ok {Z:St}{n d:Int}(h1: -1000000000<n) (h2:n<1000000000) (h3: -1000000000<d) (h4:d<1000000000) (h5:d≠0) :
  Ev (go Tryz.prog HS (.fn 61) [.int .i64 n,.int .i64 d] Z) (fun r=>∃ Z',r=⟨false,.tuple ⟨[.agg ⟨[.int .i64 (qn n d),.int .i64 (qd n d)]⟩,.bool true]⟩,Z'⟩/\Ext Z Z') ⟨⟩:=by
 have c5:decide (d=0)=false:=by simpa using h5
 refine ev_go Tryz.func61 rfl rfl ?_
 refine gS1 @c5 ?_
 refine (small_ok h1 h2).mono ?_
 rintro r rfl
 refine gS1 @yu_t ?_
 refine (small_ok h3 h4).mono ?_
 rintro r rfl
 refine gS ?_
 refine (quick_ok ⟨om,om⟩ ⟨om,om⟩ h5).mono ?_
 rintro r ⟨Z2,rfl,e2⟩
 have n2:=e2.n
 have o2:Z2.orow Z.n=some [.int .i64 0,.int .i64 0]:=by rw [e2.orow (cL)];exact cL
 have hE:Ext Z Z2:=Ext.trans (eX) e2
 refine gS1 (aI @o2 @Tryz.results61) ?_
 exact ⟨_,rfl,eX⟩
end Go.Proofs.T
namespace Go.Proofs.T
open Go Go.Ab
set_option maxRecDepth 100000
def At (toks:List Tok) (k:Nat) (ts post:List By):Prop:=(toks.map Prod.fst).drop k=ts++post
theorem At.head {toks:List Tok}{k:Nat}{t:By}{ts post:List By}(h:At toks k (t::ts) post):(tokA toks k).1=t:=by
 have h1:((toks.map Prod.fst).drop k)[0]? =some t:=by rw [show _=_ from h];rfl
 rw [List.getElem?_drop,Nat.add_zero,List.getElem?_map] at h1
 obtain ⟨x,h2,h3⟩:=Option.map_eq_some_iff.1 h1
 unfold tokA
 rw [List.getD_eq_getElem?_getD,h2]
 exact h3
theorem At.skip {toks:List Tok}{k:Nat}{ts us post:List By}(h:At toks k (ts++us) post):At toks (k+ts.length) us post:=by
 unfold At at *
 rw [<- List.drop_drop,h,List.append_assoc,List.drop_left]
theorem At.pre {toks:List Tok}{k:Nat}{ts us post:List By}(h:At toks k (ts++us) post):At toks k ts (us++post):=by
 unfold At at *
 rw [h,List.append_assoc]
theorem At.next {toks:List Tok}{k:Nat}{t:By}{us post:List By}(h:At toks k (t::us) post):At toks (k+1) us post:=At.skip (ts:=[t]) h
theorem At.lt {toks:List Tok}{k:Nat}{t:By}{us post:List By}(h:At toks k (t::us) post):k+us.length<toks.length:=by
 have:=congrArg List.length (show _=_ from h)
 simp at this
 omega
theorem At.post {toks:List Tok}{k:Nat}{ts post:List By}(h:At toks k ts post):(tokA toks (k+ts.length)).1=post.getD 0 []:=by
 have h1:(toks.map Prod.fst).drop (k+ts.length)=post:=by
  have:=At.skip (ts:=ts) (us:=[]) (post:=post) (k:=k) (toks:=toks) (by rw [List.append_nil];exact h)
  exact this
 cases hp:post with
 | nil =>
   rw [hp] at h1
   have hl:toks.length<=k+ts.length:=by simpa using h1
   unfold tokA
   rw [List.getD_eq_getElem?_getD,List.getElem?_eq_none hl];rfl
 | cons t us =>
   have:At toks (k+ts.length) (t::us) []:=by unfold At;rw [h1,hp,List.append_nil]
   rw [this.head];rfl
theorem At.le {toks:List Tok}{k:Nat}{ts post:List By}(h:At toks k ts post) (hk:k<=toks.length):k+ts.length<=toks.length:=by
 have:=congrArg List.length (show _=_ from h)
 simp at this
 omega
section
variable {toks:List Tok}
noncomputable def Fa (toks:List Tok) (fu:Nat):Nat->Nat->Except Er Fx:=facS (fmlF toks fu) toks
noncomputable def Tm (toks:List Tok) (fu:Nat):Nat->Nat->Except Er Fx:=fun k p=>chainS (Fa toks fu) [42,47] toks k p
theorem fml_succ {fu k p:Nat}:fmlF toks (fu+1) k p=chainS (Tm toks fu) [43,45] toks k p:=rfl
def Q2 (toks:List Tok) (fu g:Nat) (e:Ex) (d m:Nat):Prop:=∀ pos p post,At toks pos (tokF g 2 e) post->Fa toks fu pos p= .ok (e,d,pos+(tokF g 2 e).length,p+m)
def Q1 (toks:List Tok) (fu g:Nat) (e:Ex) (d m:Nat):Prop:=∀ pos p post,At toks pos (tokF g 1 e) post->Tm toks fu pos p=chainF (Fa toks fu) [42,47] toks (toks.length-(pos+(tokF g 1 e).length)) (e,d,pos+(tokF g 1 e).length,p+m)
def Q0 (toks:List Tok) (fu g:Nat) (e:Ex) (d m:Nat):Prop:=∀ pos p post,At toks pos (tokF g 0 e) post->opB [42,47] (post.getD 0 [])=false->chainS (Tm toks fu) [43,45] toks pos p=chainF (Tm toks fu) [43,45] toks (toks.length-(pos+(tokF g 0 e).length)) (e,d,pos+(tokF g 0 e).length,p+m)
theorem chain_stop {A:Nat->Nat->Except Er Fx}{ops:By}{f:Nat}{e:Ex}{d k p:Nat}(h:opB ops (tokA toks k).1=false):chainF A ops toks f (e,d,k,p)= .ok (e,d,k,p):=by
 cases f with
 | zero=>rfl
 | succ f=>rw [chainF_succ,if_neg (by rw [h];simp)]
theorem q1_of_q2 {fu g:Nat}{e:Ex}{d m:Nat}(ht:tokF g 1 e=tokF g 2 e) (h:Q2 toks fu g e d m):Q1 toks fu g e d m:=by
 intro pos p post hA
 rw [ht] at hA ⊢
 unfold Tm chainS
 rw [h pos p post hA,thenR_ok]
theorem q0_of_q1 {fu g:Nat}{e:Ex}{d m:Nat}(ht:tokF g 0 e=tokF g 1 e) (h:Q1 toks fu g e d m):Q0 toks fu g e d m:=by
 intro pos p post hA hp
 rw [ht] at hA ⊢
 have h1:=h pos p post hA
 rw [chain_stop (by rw [hA.post];exact hp)] at h1
 show thenR (Tm toks fu pos p) _=_
 rw [h1,thenR_ok]
theorem fa_bd {fu:Nat}(k p:Nat):Bd k p (Fa toks fu k p):=facS_bd (fmlF_bd _) k p
theorem tm_bd {fu:Nat}(k p:Nat):Bd k p (Tm toks fu k p):=chainS_bd fa_bd k p
theorem chain_step {A:Nat->Nat->Except Er Fx}{ops op:By}{a b:Ex}{da db k1 k2 p1 p2:Nat}(hA:∀ k p,Bd k p (A k p)) (hk:k1<toks.length) (ho:(tokA toks k1).1=op) (hop:opB ops op=true) (hb:A (k1+1) p1= .ok (b,db,k2,p2)) (hk2:k2<=toks.length) :
  chainF A ops toks (toks.length-k1) (a,da,k1,p1)=chainF A ops toks (toks.length-k2) (.mk op 0 0 [] [a,b],1+max da db,k2,p2+1):=by
 obtain ⟨f,hf⟩:∃ f,toks.length-k1=f+1:=⟨toks.length-k1-1,om⟩
 rw [hf,chainF_succ,ho,if_pos hop,hb,thenR_ok]
 try dsimp only
 have hlt:=(hA _ _ _ _ _ _ hb).1
 exact chainF_fuel (k0:=0) (fun k p _ e d k' p' h=>(hA k p e d k' p' h).1) _ _ _ _ _ _ (Nat.zero_le _) om (Nat.le_refl _) om (fun k hk=>opB_end hk)
theorem tokF_bin {g least:Nat}{o:By}{a b:Ex}(h:o=[43]\/o=[45]\/o=[42]\/o=[47]):tokF (g+1) least (.mk o 0 0 [] [a,b])=parT (decide (lvl o<least)) (tokF g (lvl o) a++o::tokF g (lvl o+1) b):=by
 have hn:o≠numB3/\o≠nmB/\¬ (o=minB\/o=maxB):=by rcases h with rfl|rfl|rfl|rfl <;> decide
 show parT _ (if _ then _ else _)=_
 rw [if_neg hn.1,if_neg hn.2.1]
 try dsimp only
 rw [if_neg hn.2.2]
theorem tokF_mm {g least:Nat}{o:By}{a b:Ex}(h:o=minB\/o=maxB) (hl:least<=2):tokF (g+1) least (.mk o 0 0 [] [a,b])=o::[40]::(tokF g 0 a++[44]::(tokF g 0 b++[[41]])):=by
 have hn:o≠numB3/\o≠nmB:=by rcases h with rfl|rfl <;> decide
 have hv:lvl o=2:=by rcases h with rfl|rfl <;> rfl
 show parT _ (if _ then _ else _)=_
 rw [if_neg hn.1,if_neg hn.2]
 try dsimp only
 rw [if_pos h,hv]
 unfold parT
 rw [if_neg (by simp;omega)]
theorem q2_par {fu g:Nat}{e:Ex}{d m:Nat}(ht:tokF g 2 e=[40]::(tokF g 0 e++[[41]])) (h:Q0 toks fu g e d m):Q2 toks (fu+1) g e d m:=by
 intro pos p post hA
 rw [ht] at hA ⊢
 have h1:=hA.head
 have h2:=hA.next
 have h3:=h (pos+1) p ([[41]]++post) h2.pre (by rfl)
 have h4:=h2.skip.head
 rw [chain_stop (by rw [h4];rfl)] at h3
 show facS _ toks pos p=_
 unfold facS
 rw [h1,if_neg (by decide),if_pos rfl,fml_succ,h3,thenR_ok]
 try dsimp only
 unfold skipS
 rw [if_pos h4,thenR_ok]
 simp
 omega
theorem fw_read {k m:Nat}{e:Ex}(h:FW k m e):∀ (g fu:Nat),k<=g->(k<=fu->Q0 toks fu g e k m)/\(k+1<=fu->Q1 toks fu g e k m/\Q2 toks fu g e k m):=by
 induction h with
 | @num n d h =>
   intro g fu hg
   obtain ⟨g,rfl⟩:∃ x,g=x+1:=⟨g-1,om⟩
   have ht:∀ least,least<=2->tokF (g+1) least (.mk numB3 n d [] [])=[deT n d]:=by
    intro least hl
    show parT _ (if _ then _ else _)=_
    rw [if_pos rfl]
    unfold parT
    rw [if_neg (by rw [show lvl numB3=2 from rfl];simp;omega)]
   have h2:Q2 toks fu (g+1) (.mk numB3 n d [] []) 1 1:=by
    intro pos p post hA
    rw [ht 2 om] at hA ⊢
    show facS _ toks pos p=_
    unfold facS
    have hd:headB digB (tokA toks pos).1=true:=by
     rw [hA.head]
     rcases h.lex with ⟨c,w,e,h1⟩|⟨c,w,x,v,e,h1,_⟩
     ·rw [e];rw [List.all_cons,Bool.and_eq_true] at h1;exact h1.1
     ·rw [e];rw [List.all_cons,Bool.and_eq_true] at h1;exact h1.1
    rw [if_pos hd,h.dec toks pos p hA.head];rfl
   have h1:=q1_of_q2 ((ht 1 om).trans (ht 2 om).symm) h2
   exact ⟨fun _=>q0_of_q1 ((ht 0 om).trans (ht 1 om).symm) h1,fun _=>⟨h1,h2⟩⟩
 | @name nm q1 q2 q3 =>
   intro g fu hg
   obtain ⟨g,rfl⟩:∃ x,g=x+1:=⟨g-1,om⟩
   have ht:∀ least,least<=2->tokF (g+1) least (.mk nmB 0 0 nm [])=[nm]:=by
    intro least hl
    show parT _ (if _ then _ else _)=_
    rw [if_neg (by decide),if_pos rfl]
    unfold parT
    rw [if_neg (by rw [show lvl nmB=2 from rfl];simp;omega)]
   have h2:Q2 toks fu (g+1) (.mk nmB 0 0 nm []) 1 1:=by
    intro pos p post hA
    rw [ht 2 om] at hA ⊢
    show facS _ toks pos p=_
    unfold facS
    rw [hA.head]
    obtain ⟨c,w,e,c1,c2⟩:=name_split q1
    have hd:headB digB nm=false:=by
     rw [e]
     cases hx:on digB c with
     | false=>exact hx
     | true=>rw [dig_let hx] at c1;cases c1
    have hp:nm≠[40]:=by rintro rfl;cases e;cases c1
    rw [if_neg (by rw [hd];simp),if_neg hp,if_neg (by simp [q2,q3]),if_pos q1];rfl
   have h1:=q1_of_q2 ((ht 1 om).trans (ht 2 om).symm) h2
   exact ⟨fun _=>q0_of_q1 ((ht 0 om).trans (ht 1 om).symm) h1,fun _=>⟨h1,h2⟩⟩
 | @bin k j m i o a b h ha hb iha ihb =>
   intro g fu hg
   obtain ⟨g,rfl⟩:∃ x,g=x+1:=⟨g-1,om⟩
   have key:lvl o=0/\opB [43,45] o=true\/lvl o=1/\opB [42,47] o=true:=by
    rcases h with rfl|rfl|rfl|rfl
    ·exact .inl ⟨rfl,by rfl⟩
    ·exact .inl ⟨rfl,by rfl⟩
    ·exact .inr ⟨rfl,by rfl⟩
    ·exact .inr ⟨rfl,by rfl⟩
   rcases key with ⟨hl,hop⟩|⟨hl,hop⟩
   ·have t0:tokF (g+1) 0 (.mk o 0 0 [] [a,b])=tokF g 0 a++o::tokF g 1 b:=by rw [tokF_bin h,hl];rfl
    have t1:tokF (g+1) 1 (.mk o 0 0 [] [a,b])=[40]::(tokF g 0 a++o::tokF g 1 b++[[41]]):=by rw [tokF_bin h,hl];rfl
    have t2:tokF (g+1) 2 (.mk o 0 0 [] [a,b])=[40]::(tokF g 0 a++o::tokF g 1 b++[[41]]):=by rw [tokF_bin h,hl];rfl
    have h0:∀ fu,1+max k j<=fu->Q0 toks fu (g+1) (.mk o 0 0 [] [a,b]) (1+max k j) (m+i+1):=by
     intro fu hfu pos p post hA hp
     rw [t0] at hA ⊢
     have a1:=(iha g fu om).1 om pos p _ hA.pre (by
      rcases h with rfl|rfl|rfl|rfl <;> first|rfl|(cases hl))
     have hA2:=hA.skip
     have b1:=((ihb g fu om).2 om).1 (pos+(tokF g 0 a).length+1) (p+m) post hA2.next
     rw [chain_stop (by rw [hA2.next.post];exact hp)] at b1
     have hlt:=hA2.lt
     rw [a1,chain_step tm_bd om hA2.head hop b1 om]
     simp only [List.length_append,List.length_cons]
     congr 1
     ·omega
     ·simp only [Prod.mk.injEq,true_and]
      omega
    refine ⟨h0 fu,fun hfu=>?_⟩
    obtain ⟨fu,rfl⟩:∃ x,fu=x+1:=⟨fu-1,om⟩
    have h2:=q2_par (by rw [t2,t0]) (h0 fu om)
    exact ⟨q1_of_q2 (by rw [t1,t2]) h2,h2⟩
   ·have t0:tokF (g+1) 0 (.mk o 0 0 [] [a,b])=tokF g 1 a++o::tokF g 2 b:=by rw [tokF_bin h,hl];rfl
    have t1:tokF (g+1) 1 (.mk o 0 0 [] [a,b])=tokF g 1 a++o::tokF g 2 b:=by rw [tokF_bin h,hl];rfl
    have t2:tokF (g+1) 2 (.mk o 0 0 [] [a,b])=[40]::(tokF g 1 a++o::tokF g 2 b++[[41]]):=by rw [tokF_bin h,hl];rfl
    have h1:∀ fu,1+max k j<=fu->Q1 toks fu (g+1) (.mk o 0 0 [] [a,b]) (1+max k j) (m+i+1):=by
     intro fu hfu pos p post hA
     rw [t1] at hA ⊢
     have a1:=((iha g fu om).2 om).1 pos p _ hA.pre
     have hA2:=hA.skip
     have b1:=((ihb g fu om).2 om).2 (pos+(tokF g 1 a).length+1) (p+m) post hA2.next
     have hlt:=hA2.lt
     rw [a1,chain_step fa_bd om hA2.head hop b1 om]
     simp only [List.length_append,List.length_cons]
     congr 1
     ·omega
     ·simp only [Prod.mk.injEq,true_and]
      omega
    have h0:∀ fu,1+max k j<=fu->Q0 toks fu (g+1) (.mk o 0 0 [] [a,b]) (1+max k j) (m+i+1):=fun fu hfu=>q0_of_q1 (by rw [t0,t1]) (h1 fu hfu)
    refine ⟨h0 fu,fun hfu=>?_⟩
    obtain ⟨fu,rfl⟩:∃ x,fu=x+1:=⟨fu-1,om⟩
    exact ⟨h1 _ om,q2_par (by rw [t2,t0]) (h0 fu om)⟩
 | @mm k j m i o a b h ha hb iha ihb =>
   intro g fu hg
   obtain ⟨g,rfl⟩:∃ x,g=x+1:=⟨g-1,om⟩
   have h2:1+max k j<=fu->Q2 toks fu (g+1) (.mk o 0 0 [] [a,b]) (1+max k j) (m+i+1):=by
    intro hfu pos p post hA
    obtain ⟨fu,rfl⟩:∃ x,fu=x+1:=⟨fu-1,om⟩
    rw [tokF_mm h om] at hA ⊢
    have a1:=hA.head
    have a2:=hA.next.head
    have a3:=hA.next.next
    have b1:=(iha g fu om).1 om (pos+1+1) p _ a3.pre (by rfl)
    have a4:=a3.skip
    rw [chain_stop (by rw [a4.head];rfl)] at b1
    have b2:=(ihb g fu om).1 om (pos+1+1+(tokF g 0 a).length+1) (p+m) _ a4.next.pre (by rfl)
    have a5:=a4.next.skip
    rw [chain_stop (by rw [a5.head];rfl)] at b2
    show facS _ toks pos p=_
    unfold facS
    rw [a1,if_neg (by rcases h with rfl|rfl <;> decide),if_neg (by rcases h with rfl|rfl <;> decide),if_pos (by rcases h with rfl|rfl <;> decide)]
    unfold skipS
    rw [if_pos a2,thenR_ok]
    try dsimp only
    rw [fml_succ,b1,thenR_ok]
    try dsimp only
    rw [if_pos a4.head,thenR_ok]
    try dsimp only
    rw [fml_succ,b2,thenR_ok]
    try dsimp only
    rw [if_pos a5.head,thenR_ok]
    simp
    omega
   have ht:∀ x y,x<=2->y<=2->tokF (g+1) x (.mk o 0 0 [] [a,b])=tokF (g+1) y (.mk o 0 0 [] [a,b]):=fun x y hx hy=>by rw [tokF_mm h hx,tokF_mm h hy]
   have h1:=fun hfu=>q1_of_q2 (ht 1 2 om om) (h2 hfu)
   exact ⟨fun hfu=>q0_of_q1 (ht 0 1 om om) (h1 hfu),fun hfu=>⟨h1 om,h2 om⟩⟩
theorem fw_len {k m:Nat}{e:Ex}(h:FW k m e):∀ g least,k<=g->k<=(tokF g least e).length:=by
 have hp:∀ (b:Bool) (ts:List By),ts.length<=(parT b ts).length:=fun b ts=>by unfold parT;split <;> simp;omega
 induction h with
 | @num n d h =>
   intro g least hg
   obtain ⟨g,rfl⟩:∃ x,g=x+1:=⟨g-1,om⟩
   refine Nat.le_trans ?_ (hp _ _)
   rw [if_pos rfl];simp
 | @name nm q1 q2 q3 =>
   intro g least hg
   obtain ⟨g,rfl⟩:∃ x,g=x+1:=⟨g-1,om⟩
   refine Nat.le_trans ?_ (hp _ _)
   rw [if_neg (by decide),if_pos rfl];simp
 | @bin k j m i o a b h ha hb iha ihb =>
   intro g least hg
   obtain ⟨g,rfl⟩:∃ x,g=x+1:=⟨g-1,om⟩
   rw [tokF_bin h]
   refine Nat.le_trans ?_ (hp _ _)
   have:=iha g (lvl o) om
   have:=ihb g (lvl o+1) om
   simp;omega
 | @mm k j m i o a b h ha hb iha ihb =>
   intro g least hg
   obtain ⟨g,rfl⟩:∃ x,g=x+1:=⟨g-1,om⟩
   have hn:o≠numB3/\o≠nmB:=by rcases h with rfl|rfl <;> decide
   refine Nat.le_trans ?_ (hp _ _)
   rw [if_neg hn.1,if_neg hn.2]
   try dsimp only
   rw [if_pos h]
   have:=iha g 0 om
   have:=ihb g 0 om
   simp;omega
theorem read_show {k m g:Nat}{e:Ex}(h:FW k m e) (hg:k<=g) (hk:k<=12) (hm:m<=60) (ht:toks.map Prod.fst=tokF g 0 e++[[]]):readS toks= .ok e:=by
 have hl:toks.length=(tokF g 0 e).length+1:=by have:=congrArg List.length ht;simpa using this
 have hle:=fw_len h g 0 hg
 have hA:At toks 0 (tokF g 0 e) [[]]:=ht
 have h0:=(fw_read (toks:=toks) h g (tokF g 0 e).length hg).1 hle 0 0 [[]] hA (by rfl)
 rw [chain_stop (by rw [hA.post];rfl)] at h0
 unfold readS
 rw [hl,fml_succ,h0,thenR_ok]
 try dsimp only
 rw [if_pos (by rw [hA.post];rfl),if_neg (by simp;omega)]
end
end Go.Proofs.T
namespace Go.Proofs.T
open Go Go.Ab
set_option maxRecDepth 100000
theorem dcF_any:∀ (f g n:Nat),n<f->n<g->dcF f n=dcF g n:=by
 intro f
 induction f with
 | zero=>intro g n h;omega
 | succ f ih =>
   intro g n h1 h2
   cases g with
   | zero=>omega
   | succ g =>
     show (if n<10 then [dgt n] else dcF f (n / 10)++[dgt n])=(if n<10 then [dgt n] else dcF g (n / 10)++[dgt n])
     by_cases h:n<10
     ·rw [if_pos h,if_pos h]
     ·rw [if_neg h,if_neg h,ih g (n / 10) om om]
theorem dcN_small {n:Nat}(h:n<10):dcN n=[dgt n]:=by
 show (if n<10 then [dgt n] else _)=_
 rw [if_pos h]
theorem dcN_big {n:Nat}(h:¬ n<10):dcN n=dcN (n / 10)++[dgt n]:=by
 show (if n<10 then [dgt n] else dcF n (n / 10)++[dgt n])=dcF (n / 10+1) (n / 10)++[dgt n]
 rw [if_neg h,dcF_any n (n / 10+1) (n / 10) om om]
theorem dcN_len:∀ (k n:Nat),n<10 ^ (k+1)->(dcN n).length<=k+1:=by
 intro k
 induction k with
 | zero=>intro n h;rw [dcN_small om];simp
 | succ k ih =>
   intro n h
   by_cases h10:n<10
   ·rw [dcN_small h10];simp
   ·rw [dcN_big h10]
    have:=ih (n / 10) (by rw [Nat.pow_succ] at h;omega)
    simp;omega
theorem dgt_nat {n:Nat}:(dgt n).toNat=48+n % 10:=by
 unfold dgt
 rw [UInt8.toNat_ofNat']
 omega
theorem dgt_dig {n:Nat}:on digB (dgt n)=true:=by
 unfold on digB
 rw [dgt_nat]
 have e1:decide (((48+n % 10:Nat):Int)<48)=false:=by rw [decide_eq_false_iff_not];omega
 have e2:decide ((57:Int)<((48+n % 10:Nat):Int))=false:=by rw [decide_eq_false_iff_not];omega
 rw [e1,e2];rfl
theorem dcN_spec:∀ (f n:Nat),n<f->(dcN n).all (on digB)=true/\valN (dcN n)=n/\∃ c w,dcN n=c::w/\(c=48->n=0/\w=[]):=by
 intro f
 induction f with
 | zero=>intro n h;omega
 | succ f ih =>
   intro n hf
   by_cases h10:n<10
   ·rw [dcN_small h10]
    refine ⟨by rw [List.all_cons,dgt_dig];rfl,?_,_,_,rfl,fun h=>⟨?_,rfl⟩⟩
    ·show 10*0+((dgt n).toNat-48)=n
     rw [dgt_nat];omega
    ·have:=congrArg UInt8.toNat h
     rw [dgt_nat] at this
     change 48+n % 10=48 at this
     omega
   ·obtain ⟨h1,h2,c,w,h3,h4⟩:=ih (n / 10) om
    rw [dcN_big h10]
    refine ⟨by rw [List.all_append,h1,List.all_cons,dgt_dig];rfl,?_,c,w++[dgt n],by rw [h3];rfl,fun h=>?_⟩
    ·have:valN (dcN (n / 10)++[dgt n])=10*valN (dcN (n / 10))+((dgt n).toNat-48):=by
      unfold valN;rw [List.foldl_append];rfl
     rw [this,h2,dgt_nat];omega
    ·have:=(h4 h).1;omega
theorem dcN_num (n:Nat):numB (dcN n)=true/\valN (dcN n)=n:=by
 obtain ⟨h1,h2,c,w,h3,h4⟩:=dcN_spec (n+1) n (Nat.lt_succ_self _)
 refine ⟨?_,h2⟩
 unfold numB
 rw [h1,h3]
 have hc:on digB c=true:=by rw [h3,List.all_cons,Bool.and_eq_true] at h1;exact h1.1
 show (on digB c&&true&&zero1 (c::w))=true
 rw [hc]
 cases w with
 | nil=>rfl
 | cons x v =>
   show (true&&true&& !decide (c=48))=true
   have:decide (c=48)=false:=decide_eq_false fun e=>by cases (h4 e).2
   rw [this];rfl
theorem dcN_ne (n:Nat):dcN n≠[]:=by
 obtain ⟨-,-,c,w,h,-⟩:=dcN_spec (n+1) n (Nat.lt_succ_self _)
 rw [h];simp
section
variable {toks:List Tok} {k:Nat} {T:Tn}
theorem rdNum_ok {least:Int}{nw:Int->Bool}{n:Nat}(h:(tokA toks k).1=dcN n) (h1:n<=1000000000) (h2:least<=n) (h3:nw n=true):rdNum toks least nw k= .ok (n,k+1):=by
 obtain ⟨a,b⟩:=dcN_num n
 unfold rdNum numR
 rw [h,if_neg (by rw [a];simp),b,if_pos ⟨h1,h2⟩,if_pos h3];rfl
theorem rdPlain_ok {n:Nat}(h:(tokA toks k).1=dcN n) (h1:n<=1000000000):rdPlain toks k= .ok (n,k+1):=rdNum_ok h h1 om rfl
theorem rdOne_ok {ws:List By}{w:By}(h:(tokA toks k).1=w) (hw:ws.contains w=true):rdOne toks ws k= .ok (w,k+1):=by
 unfold rdOne
 rw [h,if_pos hw];rfl
theorem rdWord_ok {w:By}(h:(tokA toks k).1=w) (hw:wordB w=true):rdWord toks k= .ok w:=by
 unfold rdWord
 rw [h,if_pos hw]
def mostW:By:=[109,111,115,116]
theorem lot_read {a b:Nat}(h:At toks k [dcN a,mostW,dcN b] [[]]) (h1:1<=a) (h2:a<=1000000000) (h3:b<=1000000000) (h4:(T.lots.any fun l=>decide (l.id=(a:Int)))=false) :
  lotS toks T k= .ok ({ T with lots:=T.lots++[⟨a,b⟩] },k+3):=by
 unfold lotS
 rw [rdNum_ok h.head h2 om (by rw [h4];rfl),thenR_ok]
 dsimp only
 rw [rdOne_ok h.next.head (by rfl),thenR_ok]
 dsimp only
 rw [rdPlain_ok h.next.next.head h3,thenR_ok]
theorem crit_read {w:By}{kd:Nat}{lo hi:Nat}{less:Bool}(h:At toks k ([w,if kd=2 then offerB else gradeB,dcN lo,dcN hi]++if less=true then [lessB] else []) [[]]) (h1:wordB w=true) (hk:kd=1\/kd=2) (h2:lo<=1000000000) (h3:hi<=1000000000) (h4:(T.crits.any fun c=>decide (c.name=w))=false) :
  criterionS toks T k= .ok ({ T with crits:=T.crits++[⟨w,kd,lo,hi,less⟩] },k+(4+if less=true then 1 else 0)):=by
 unfold criterionS
 have a0:(tokA toks k).1=w:=At.head h
 have n1:At toks (k+1) ([if kd=2 then offerB else gradeB,dcN lo,dcN hi]++if less=true then [lessB] else []) [[]]:=At.next h
 have a1:(tokA toks (k+1)).1=if kd=2 then offerB else gradeB:=At.head n1
 have n2:At toks (k+1+1) ([dcN lo,dcN hi]++if less=true then [lessB] else []) [[]]:=At.next n1
 have n3:At toks (k+1+1+1) ([dcN hi]++if less=true then [lessB] else []) [[]]:=At.next n2
 have n4:At toks (k+1+1+1+1) (if less=true then [lessB] else []) [[]]:=At.next n3
 have a4:(tokA toks (k+1+1+1+1)).1=if less=true then lessB else []:=by
  cases less with
  | true=>exact At.head n4
  | false=>have:=At.post n4;exact this
 rw [rdWord_ok a0 h1,thenR_ok]
 rw [if_neg (by rw [h4];simp)]
 rw [rdOne_ok a1 (by rcases hk with rfl|rfl <;> rfl),thenR_ok]
 dsimp only
 rw [rdPlain_ok (At.head n2) h2,thenR_ok]
 dsimp only
 rw [rdPlain_ok (At.head n3) h3,thenR_ok]
 dsimp only
 have e1:cond (decide ((if kd=2 then offerB else gradeB)=offerB)) (2:Int) 1=kd:=by rcases hk with rfl|rfl <;> rfl
 rw [a4,e1]
 cases less with
 | true=>rfl
 | false=>rfl
theorem req_read {w r:By}{n:Nat}(h:At toks k [w,r,dcN n] [[]]) (h1:wordB w=true) (h2:([[60,61],[62,61]]:List By).contains r=true) (h3:n<=1000000000) :
  requireS toks T k= .ok ({ T with reqs:=T.reqs++[⟨w,r,n⟩] },k+3):=by
 unfold requireS
 rw [rdWord_ok h.head h1,thenR_ok,rdOne_ok h.next.head h2,thenR_ok]
 dsimp only
 rw [rdPlain_ok h.next.next.head h3,thenR_ok]
theorem price_read {a b:Nat} (h:At toks k [dcN a,dcN b] [[]]) (h1:a<=1000000000) (h2:b<=1000000000):priceS toks T k= .ok ({ T with low:=a,high:=b },k+2):=by
 unfold priceS
 rw [rdPlain_ok h.head h1,thenR_ok]
 dsimp only
 rw [rdPlain_ok h.next.head h2,thenR_ok]
theorem most_read {a:Nat} (h:At toks k [dcN a] [[]]) (h1:a<=1000000000):mostS toks T k= .ok ({ T with most:=a },k+1):=by
 unfold mostS
 rw [rdPlain_ok h.head h1,thenR_ok]
theorem budget_read {a:Nat} (h:At toks k [dcN a] [[]]) (h1:a<=1000000000):budgetS toks T k= .ok ({ T with budget:=a },k+1):=by
 unfold budgetS
 rw [rdPlain_ok h.head h1,thenR_ok]
theorem tender_read {w:By} (h:At toks k [w] [[]]) (h1:nameB w=true):tenderS toks T k= .ok ({ T with name:=w },k+1):=by
 unfold tenderS
 rw [h.head,if_pos h1]
theorem times_read {a b c d e:Nat}(h:At toks k [dcN a,dcN b,dcN c,dcN d,dcN e] [[]]) (h1:a<=1000000000) (h2:b<=1000000000) (h3:c<=1000000000) (h4:d<=1000000000) (h5:e<=1000000000) :
  timesS toks T k= .ok ({ T with t:=⟨a,b,c,d,e⟩ },k+5):=by
 unfold timesS
 rw [timesG_succ,rdPlain_ok h.head h1,thenR_ok]
 dsimp only
 rw [timesG_succ,rdPlain_ok h.next.head h2,thenR_ok]
 dsimp only
 rw [timesG_succ,rdPlain_ok h.next.next.head h3,thenR_ok]
 dsimp only
 rw [timesG_succ,rdPlain_ok h.next.next.next.head h4,thenR_ok]
 dsimp only
 rw [timesG_succ,rdPlain_ok h.next.next.next.next.head h5,thenR_ok]
 rfl
theorem tie_readF:∀ (ts:List By) (f k:Nat) (T:Tn),At toks k ts [[]]->ts.length<=f->(ts=[]->T.ties≠[])->(∀ w∈ts,(w=priceB\/wordB w=true))->ts.Nodup->(∀ w∈ts,w∉T.ties)->T.ties.length+ts.length<=12 ->
  tieF toks f T k= .ok ({ T with ties:=T.ties++ts },k+ts.length):=by
 intro ts
 induction ts with
 | nil =>
   intro f k T hA _ hne _ _ _ _
   have h0:(tokA toks k).1=[]:=hA.post
   have hl:decide (T.ties.length=0)=false:=decide_eq_false fun h=>hne rfl (List.eq_nil_of_length_eq_zero h)
   cases f with
   | zero=>simp [tieF]
   | succ f =>
     unfold tieF
     rw [hl,h0,if_neg (by simp)]
     simp
 | cons w ts ih =>
   intro f k T hA hf _ hw hnd hnot hlen
   obtain ⟨f,rfl⟩:∃ g,f=g+1:=⟨f-1,by simp at hf;omega⟩
   have h0:=hA.head
   have hw0:=hw w (List.mem_cons_self ..)
   have hne:w≠[]:=by
    rintro rfl
    rcases hw0 with h|h
    ·cases h
    ·cases h
   unfold tieF
   rw [h0,if_pos (by simp [hne])]
   rw [if_pos (by rcases hw0 with h|h <;> simp [h])]
   rw [if_neg (by simpa using hnot w (List.mem_cons_self ..))]
   simp only [List.length_cons] at hlen hf
   rw [if_pos om]
   rw [ih f (k+1) { T with ties:=T.ties++[w] } hA.next om (fun _=>by simp) (fun x hx=>hw x (List.mem_cons_of_mem _ hx)) (List.nodup_cons.1 hnd).2 ?_ (by simp;omega)]
   ·simp;omega
   ·intro x hx hm
    rcases List.mem_append.1 hm with hm|hm
    ·exact hnot x (List.mem_cons_of_mem _ hx) hm
    ·rw [List.mem_singleton] at hm
     subst hm
     exact (List.nodup_cons.1 hnd).1 hx
theorem combo_readF:∀ (cs:List Nat) (f k:Nat) (l:List Int),At toks k (cs.map dcN) [[]]->cs.length<=f->2<=l.length+cs.length->(∀ n∈cs,1<=n/\n<=1000000000)->cs.Nodup->(∀ n∈cs,(n:Int)∉l)->l.length+cs.length<=12 ->
  comboF toks f l k= .ok (l++cs.map (fun n:Nat=>(n:Int)),k+cs.length):=by
 intro cs
 induction cs with
 | nil =>
   intro f k l hA _ hne _ _ _ _
   have h0:(tokA toks k).1=[]:=hA.post
   have hl:decide (l.length<2)=false:=decide_eq_false fun h=>by simp at hne;omega
   cases f with
   | zero=>simp [comboF]
   | succ f =>
     unfold comboF
     rw [hl,h0,if_neg (by simp)]
     simp
 | cons n cs ih =>
   intro f k l hA hf h2 hw hnd hnot hlen
   obtain ⟨f,rfl⟩:∃ g,f=g+1:=⟨f-1,by simp at hf;omega⟩
   have h0:(tokA toks k).1=dcN n:=hA.head
   have hw0:=hw n (List.mem_cons_self ..)
   unfold comboF
   simp only [List.length_cons] at hlen hf h2
   rw [rdNum_ok (n:=n) h0 hw0.2 om (by simpa using hnot n (List.mem_cons_self ..)),h0,if_pos (by simp [dcN_ne]),thenR_ok]
   dsimp only
   rw [if_neg om]
   rw [ih f (k+1) (l++[(n:Int)]) hA.next om (by simp;omega) (fun x hx=>hw x (List.mem_cons_of_mem _ hx)) (List.nodup_cons.1 hnd).2 ?_ (by simp;omega)]
   ·simp;omega
   ·intro x hx hm
    rcases List.mem_append.1 hm with hm|hm
    ·exact hnot x (List.mem_cons_of_mem _ hx) hm
    ·rw [List.mem_singleton] at hm
     have:x=n:=om
     subst this
     exact (List.nodup_cons.1 hnd).1 hx
theorem At.room {ts:List By}(h:At toks k ts [[]]):ts.length<=toks.length-k:=by
 have:=congrArg List.length (show _=_ from h)
 simp at this
 omega
theorem tie_read {ts:List By} (h:At toks k ts [[]]) (h0:T.ties=[]) (h1:ts≠[]) (h2:∀ w∈ts,(w=priceB\/wordB w=true)) (h3:ts.Nodup) (h4:ts.length<=12):tieS toks T k= .ok ({ T with ties:=ts },k+ts.length):=by
 unfold tieS
 rw [tie_readF ts _ k T h h.room (fun e=>absurd e h1) h2 h3 (by rw [h0];simp) (by rw [h0];simpa using h4),h0];rfl
theorem combo_read {cs:List Nat} (h:At toks k (cs.map dcN) [[]]) (h2:2<=cs.length) (h1:∀ n∈cs,1<=n/\n<=1000000000) (h3:cs.Nodup) (h4:cs.length<=12):comboS toks T k= .ok ({ T with combos:=T.combos++[cs.map (fun n:Nat=>(n:Int))] },k+cs.length):=by
 unfold comboS
 have:=h.room
 rw [List.length_map] at this
 rw [combo_readF cs _ k [] h this (by simpa using h2) h1 h3 (by simp) (by simpa using h4),thenR_ok];rfl
end
end Go.Proofs.T
