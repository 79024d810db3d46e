/- The tokens of a ZR text, Xv LL AC6. -/
import Derived.Test.YtbcanmagihejhaaGreatDoorTH
import Derived.Test.YtbcanmagihejhaaGreatDoorAbE
set_option linter.unusedSimpArgs false
set_option linter.unusedVariables false
set_option maxHeartbeats 32000000
set_option maxRecDepth 100000
namespace Go.Proofs.T
open Go Go.Ab

def Ip (s:By):Nat:=match s with
 | []=>0
 | c::_=>N5 s 0 c
def MA:Nat->By->List By
 | 0,_=>[]
 | f+1,s=>match s with
   | []=>[]
   | c::r=>if c=32 then MA f r else s.take (Ip s)::MA f (s.drop (Ip s))
theorem Pm {p:Int->Bool}{s:By}{k m:Nat}:runs p s (k+m)=runs p (s.drop k) m:=by unfold runs;rw [List.drop_drop]
theorem NW {p:Int->Bool}{s:By}{k:Nat}:runs p s k=runs p (s.drop k) 0:=Pm (m:=0)
theorem Zq {s:By}{k:Nat}{c:UInt8}(hk:k<s.length):N5 s k c=k+N5 (s.drop k) 0 c:=by
 have e1:∀ R,min (k+R+1) s.length=k+min (R+1) (s.length-k):=fun R=>om;unfold N5;rw [@NW EY s k,@NW J9 s k];simp only [Nat.zero_add];generalize runs J9 (s.drop k) 0=R;rw [e1,@Pm J9 s k,List.getElem?_drop,List.length_drop];by_cases h1:on FR c=true
 ·rw [if_pos h1,if_pos h1]
 ·rw [if_neg h1,if_neg h1];by_cases h2:on J9 c=true
  ·rw [if_pos h2,if_pos h2];have d1:decide (k+R<s.length)=decide (R<s.length-k):=by rw [Bool.eq_iff_iff,decide_eq_true_iff,decide_eq_true_iff];omega
   generalize runs J9 (s.drop k) (min (R+1) (s.length-k))=M;have d2:decide (k+R+1<k+min (R+1) (s.length-k)+M)=decide (R+1<min (R+1) (s.length-k)+M):=by rw [Bool.eq_iff_iff,decide_eq_true_iff,decide_eq_true_iff];omega
   rw [d1,d2];split
   ·omega
   ·rfl
  ·rw [if_neg h2,if_neg h2]
theorem sI {s:By}{a:Nat}:∀ (f k:Nat),(fT s a f k).map Prod.fst=MA f (s.drop k):=by
 intro f;induction f with
 | zero=>intro k;rfl
 | succ f ih =>
   intro k;unfold fT;rcases Nat.lt_or_ge k s.length with hk|hk
   ·have hD:s.drop k=s[k]::s.drop (k+1):=List.drop_eq_getElem_cons hk;have hl:MA (f+1) (s.drop k)=if s[k]=32 then MA f (s.drop (k+1)) else (s.drop k).take (Ip (s.drop k))::MA f ((s.drop k).drop (Ip (s.drop k))):=by rw [hD];rfl
    have e:N5 s k s[k]=k+Ip (s.drop k):=by rw [Zq hk,hD];rfl
    rw [hl,List.getElem?_eq_getElem hk];dsimp only;by_cases hc:s[k]=32
    ·rw [if_pos hc,if_pos hc];exact ih _
    ·rw [if_neg hc,if_neg hc,List.map_cons,ih,e,show k+Ip (s.drop k)-k=Ip (s.drop k) by omega,<- List.drop_drop]
   ·rw [List.getElem?_eq_none hk,List.drop_of_length_le hk];rfl
theorem TK {c:UInt8}{r:By}:0<Ip (c::r)/\Ip (c::r)<=(c::r).length:=by
 have:=MO (s:=c::r) (k:=0) (c:=c) rfl;exact this
theorem Zr:∀ (f f':Nat) (s:By),s.length<=f->s.length<=f'->MA f s=MA f' s:=by
 intro f;induction f with
 | zero =>
   intro f' s h1 _;obtain rfl:=List.eq_nil_of_length_eq_zero (Nat.le_zero.1 h1);cases f' <;> rfl
 | succ f ih =>
   intro f' s h1 h2;cases s with
   | nil=>cases f' <;> rfl
   | cons c r =>
     cases f' with
     | zero=>simp at h2
     | succ f' =>
       unfold MA;dsimp only;simp only [List.length_cons] at h1 h2;have hp:=@TK c r;by_cases hc:c=32
       ·rw [if_pos hc,if_pos hc];exact ih _ _ om om
       ·rw [if_neg hc,if_neg hc,ih f' _ (by rw [List.length_drop,List.length_cons];omega) (by rw [List.length_drop,List.length_cons];omega)]
def lex (s:By):List By:=MA s.length s
theorem ZB {s:By}{a:Nat}:(Cr s a).map Prod.fst=lex s++[[]]:=by
 unfold Cr lex;rw [List.map_append,sI,List.drop_zero];rfl
theorem lex_nil:lex []=[]:=rfl
theorem HV {r:By}:lex (32::r)=lex r:=by
 unfold lex;rw [List.length_cons];rfl
theorem MP {c:UInt8}{r:By}(h:c≠32):lex (c::r)=(c::r).take (Ip (c::r))::lex ((c::r).drop (Ip (c::r))):=by
 have hp:=@TK c r;show MA (r.length+1) (c::r)=_;unfold MA;dsimp only;rw [if_neg h];unfold lex;rw [Zr r.length _ _ (by rw [List.length_drop,List.length_cons];omega) (Nat.le_refl _)]
def Stop (r:By):Prop:=∀ c t,r=c::t->on EY c=false/\c≠46
theorem DJ {p:UInt8->Bool}{w r:By}(hw:w.all p=true) (hr:∀ c t,r=c::t->p c=false):(w++r).takeWhile p=w:=by
 induction w with
 | nil =>
   cases r with
   | nil=>rfl
   | cons c t=>rw [List.nil_append,List.takeWhile_cons,hr c t rfl];rfl
 | cons c w ih =>
   rw [List.all_cons,Bool.and_eq_true] at hw;rw [List.cons_append,List.takeWhile_cons,hw.1,if_pos rfl,ih hw.2]
theorem TL {c:UInt8}{w r:By}(h1:on FR c=true) (h2:(c::w).all (on EY)=true) (h3:Stop r):lex (c::w++r)=(c::w)::lex r:=by
 have hne:c≠32:=by rintro rfl;cases h1
 have ht:Ip (c::(w++r))=(c::w).length:=by
  show N5 _ 0 c=_;unfold N5;rw [if_pos h1,Nat.zero_add];unfold runs;rw [List.drop_zero,show c::(w++r)=(c::w)++r from rfl,DJ h2 fun c t e=>(h3 c t e).1]
 rw [List.cons_append,MP hne,ht,show c::(w++r)=(c::w)++r from rfl,List.take_left,List.drop_left]
theorem EI {c:UInt8}{r:By}(h1:on FR c=false) (h2:on J9 c=false) (h3:c≠32):lex (c::r)=[c]::lex r:=by
 have ht:Ip (c::r)=1:=by
  show N5 _ 0 c=_;unfold N5;rw [if_neg (by rw [h1];simp),if_neg (by rw [h2];simp)]
 rw [MP h3,ht];rfl
theorem YA {c:UInt8}(h:on J9 c=true):on EY c=true:=by
 unfold on EY at *;rw [h];simp
theorem TM {r:By}(h:Stop r):∀ c t,r=c::t->on J9 c=false:=fun c t e=>by
 cases hd:on J9 c with
 | false=>rfl
 | true=>have:=(h c t e).1;rw [YA hd] at this;cases this
theorem RM {c:UInt8}(h:on J9 c=true):on FR c=false:=by
 unfold on J9 FR at *;simp only [Bool.and_eq_true,Bool.not_eq_true',decide_eq_false_iff_not] at h;have e1:decide ((c.toNat:Int)<97)=true:=by rw [decide_eq_true_iff];omega
 have e2:decide ((c.toNat:Int)<65)=true:=by rw [decide_eq_true_iff];omega
 rw [e1,e2];rfl
theorem eA {c:UInt8}(h:on J9 c=true):c≠32/\c≠46:=⟨(by rintro rfl;cases h),(by rintro rfl;cases h)⟩
theorem ky {c:UInt8}{w r:By}(h2:(c::w).all (on J9)=true) (h3:Stop r):lex (c::w++r)=(c::w)::lex r:=by
 have h1:on J9 c=true:=by rw [List.all_cons,Bool.and_eq_true] at h2;exact h2.1
 have hR:runs J9 (c::(w++r)) 0=(c::w).length:=by
  unfold runs;rw [List.drop_zero,show c::(w++r)=(c::w)++r from rfl,DJ h2 (TM h3)]
 have ht:Ip (c::(w++r))=(c::w).length:=by
  show N5 _ 0 c=_;unfold N5;rw [if_neg (by rw [RM h1];simp),if_pos h1,Nat.zero_add,hR];have hx:decide ((c::(w++r))[(c::w).length]? =some 46)=false:=by
   rw [decide_eq_false_iff_not,show c::(w++r)=(c::w)++r from rfl,List.getElem?_append_right (Nat.le_refl _),Nat.sub_self];cases r with
   | nil=>simp
   | cons x t=>intro he;cases he;exact (h3 46 t rfl).2 rfl
  rw [hx,Bool.and_false,Bool.false_and,if_neg (by simp)]
 rw [List.cons_append,MP (eA h1).1,ht,show c::(w++r)=(c::w)++r from rfl,List.take_left,List.drop_left]
theorem kz {c x:UInt8}{w v r:By}(h2:(c::w).all (on J9)=true) (h4:(x::v).all (on J9)=true) (h3:Stop r):lex (c::w++46::x::v++r)=(c::w++46::x::v)::lex r:=by
 have h1:on J9 c=true:=by rw [List.all_cons,Bool.and_eq_true] at h2;exact h2.1
 have e0:c::w++46::x::v++r=(c::w)++(46::((x::v)++r)):=by simp
 have hR:runs J9 ((c::w)++(46::((x::v)++r))) 0=(c::w).length:=by
  unfold runs;rw [List.drop_zero,DJ h2 (fun c t e=>by cases e;rfl)]
 have hM:runs J9 ((c::w)++(46::((x::v)++r))) ((c::w).length+1)=(x::v).length:=by
  unfold runs;rw [show (c::w)++(46::((x::v)++r))=((c::w)++[46])++((x::v)++r) by simp,List.drop_left' (by simp),DJ h4 (TM h3)]
 have hlen:((c::w)++(46::((x::v)++r))).length=(c::w).length+1+(x::v).length+r.length:=by simp;omega
 have ht:Ip ((c::w)++(46::((x::v)++r)))=(c::w++46::x::v).length:=by
  show N5 _ 0 c=_;unfold N5;rw [if_neg (by rw [RM h1];simp),if_pos h1,Nat.zero_add,hR];rw [show min ((c::w).length+1) ((c::w)++(46::((x::v)++r))).length=(c::w).length+1 by rw [hlen];omega,hM];have hx:decide (((c::w)++(46::((x::v)++r)))[(c::w).length]? =some 46)=true:=by
   rw [decide_eq_true_iff,List.getElem?_append_right (Nat.le_refl _),Nat.sub_self];rfl
  have hl:decide ((c::w).length<((c::w)++(46::((x::v)++r))).length)=true:=by rw [decide_eq_true_iff,hlen];omega
  have hl2:decide ((c::w).length+1<(c::w).length+1+(x::v).length)=true:=by rw [decide_eq_true_iff];simp
  rw [hx,hl,hl2];simp;omega
 rw [e0];have hc:(c::w)++(46::((x::v)++r))=c::(w++(46::((x::v)++r))):=rfl;rw [hc,MP (eA h1).1,<- hc,ht,show (c::w)++(46::((x::v)++r))=(c::w++46::x::v)++r by simp,List.take_left,List.drop_left]
def lvl (op:By):Nat:=if op=[43]\/op=[45] then 0 else if op=[42]\/op=[47] then 1 else 2
def dgt (n:Nat):UInt8:=UInt8.ofNat (48+n % 10)
def dcF:Nat->Nat->By
 | 0,_=>[]
 | f+1,n=>if n<10 then [dgt n] else dcF f (n / 10)++[dgt n]
def dcN (n:Nat):By:=dcF (n+1) n
def frT:Nat->Nat->Nat->By
 | 0,_,_=>[]
 | f+1,r,D=>if r=0 then [] else dcN (10*r / D)++frT f (10*r % D) D
def deT (n d:Int):By:=dcN (n.toNat / d.toNat)++(if n.toNat % d.toNat=0 then [] else 46::frT 6 (n.toNat % d.toNat) d.toNat)
def par (b:Bool) (s:By):By:=if b=true then 40::(s++[41]) else s
def Kr (b:Bool) (s:List By):List By:=if b=true then [40]::(s++[[41]]) else s
def N4:Nat->Nat->Ex->By
 | 0,_,_=>[]
 | f+1,least,.mk op n d nm args=>par (decide (lvl op<least)) (if op=R5 then deT n d else if op=nmB then nm else match args with
   | [a,b]=>if op=Dt\/op=EZ then op++40::(N4 f 0 a++44::32::(N4 f 0 b++[41])) else N4 f (lvl op) a++32::(op++32::N4 f (lvl op+1) b)
   | _=>[])
def T4:Nat->Nat->Ex->List By
 | 0,_,_=>[]
 | f+1,least,.mk op n d nm args=>Kr (decide (lvl op<least)) (if op=R5 then [deT n d] else if op=nmB then [nm] else match args with
   | [a,b]=>if op=Dt\/op=EZ then op::[40]::(T4 f 0 a++[44]::(T4 f 0 b++[[41]])) else T4 f (lvl op) a++op::T4 f (lvl op+1) b
   | _=>[])
structure RQ (n d:Int):Prop where
 n1: -1000000000<n
 n2:n<1000000000
 d1:1<=d
 d2:d<1000000000
 low:Int.gcd n d=1
structure Mh (n d:Int):Prop where
 rq:RQ n d
 n0:0<=n
 d6:(1000000:Int) % d=0
 lex:(∃ c w,deT n d=c::w/\(c::w).all (on J9)=true)\/∃ c w x v,deT n d=c::w++46::x::v/\(c::w).all (on J9)=true/\(x::v).all (on J9)=true
 dec:∀ toks k p,(A9 toks k).1=deT n d->SY toks k p= .ok (.mk R5 n d [] [],1,k+1,p+1)
inductive FW:Nat->Nat->Ex->Prop
 | num {n d:Int} (h:Mh n d):FW 1 1 (.mk R5 n d [] [])
 | name {nm:By} (h1:AL nm=true) (h2:nm≠Dt) (h3:nm≠EZ):FW 1 1 (.mk nmB 0 0 nm [])
 | bin {k j m i:Nat} {o:By} {a b:Ex} (h:o=[43]\/o=[45]\/o=[42]\/o=[47]) (ha:FW k m a) (hb:FW j i b):FW (1+max k j) (m+i+1) (.mk o 0 0 [] [a,b])
 | mm {k j m i:Nat} {o:By} {a b:Ex} (h:o=Dt\/o=EZ) (ha:FW k m a) (hb:FW j i b):FW (1+max k j) (m+i+1) (.mk o 0 0 [] [a,b])
theorem FW.pos {k m:Nat}{e:Ex}(h:FW k m e):1<=k/\1<=m:=by cases h <;> omega
theorem Fu {c:UInt8}{r:By}(h1:on EY c=false) (h2:c≠46):Stop (c::r):=fun c' t e=>by cases e;exact ⟨h1,h2⟩
theorem gD:Stop []:=fun c t e=>by cases e
theorem MY {b:Bool}{s:By}{ts:List By}(h:∀ r,Stop r->lex (s++r)=ts++lex r){r:By}(hr:Stop r):lex (par b s++r)=Kr b ts++lex r:=by
 unfold par Kr;cases b with
 | false=>exact h r hr
 | true =>
   rw [if_pos rfl,if_pos rfl,show 40::(s++[41])++r=40::(s++(41::r)) by simp,EI (by rfl) (by rfl) (by decide),h (41::r) (Fu (by rfl) (by decide)),EI (by rfl) (by rfl) (by decide)];simp
theorem Iz {nm:By}(h:AL nm=true):∃ c w,nm=c::w/\on FR c=true/\(c::w).all (on EY)=true:=by
 unfold AL at h;rw [Bool.and_eq_true,Bool.and_eq_true] at h;cases nm with
 | nil=>cases h.1.1
 | cons c w=>exact ⟨c,w,rfl,h.1.1,h.2⟩
theorem gE {k m:Nat}{e:Ex}(h:FW k m e):∀ (f least:Nat),k<=f->∀ r:By,Stop r->lex (N4 f least e++r)=T4 f least e++lex r:=by
 induction h with
 | @num n d h =>
   intro f least hf r hr;obtain ⟨f,rfl⟩:∃ g,f=g+1:=⟨f-1,om⟩
   unfold N4 T4;refine MY (fun r hr=>?_) hr;rw [if_pos rfl,if_pos rfl];rcases h.lex with ⟨c,w,e,h1⟩|⟨c,w,x,v,e,h1,h2⟩
   ·rw [e];exact ky h1 hr
   ·rw [e];exact kz h1 h2 hr
 | @name nm h1 h2 h3 =>
   intro f least hf r hr;obtain ⟨f,rfl⟩:∃ g,f=g+1:=⟨f-1,om⟩
   unfold N4 T4;refine MY (fun r hr=>?_) hr;rw [if_neg (by decide),if_pos rfl,if_neg (by decide),if_pos rfl];obtain ⟨c,w,rfl,q1,q2⟩:=Iz h1;exact TL q1 q2 hr
 | @bin k j m i o a b h ha hb iha ihb =>
   intro f least hf r hr;obtain ⟨f,rfl⟩:∃ g,f=g+1:=⟨f-1,om⟩
   unfold N4 T4;refine MY (fun r hr=>?_) hr;have hn:o≠R5/\o≠nmB/\¬ (o=Dt\/o=EZ):=by rcases h with rfl|rfl|rfl|rfl <;> decide
   rw [if_neg hn.1,if_neg hn.2.1,if_neg hn.1,if_neg hn.2.1];dsimp only;rw [if_neg hn.2.2,if_neg hn.2.2];obtain ⟨c,rfl,c1,c2,c3⟩:∃ c,o=[c]/\on FR c=false/\on J9 c=false/\c≠32:=by
    rcases h with rfl|rfl|rfl|rfl <;> exact ⟨_,rfl,by rfl,by rfl,by decide⟩
   rw [show N4 f (lvl [c]) a++32::([c]++32::N4 f (lvl [c]+1) b)++r=N4 f (lvl [c]) a++(32::c::32::(N4 f (lvl [c]+1) b++r)) by simp,
    iha f _ om _ (Fu (by rfl) (by decide)),HV,EI c1 c2 c3,HV,ihb f _ om r hr]
   simp
 | @mm k j m i o a b h ha hb iha ihb =>
   intro f least hf r hr;obtain ⟨f,rfl⟩:∃ g,f=g+1:=⟨f-1,om⟩
   unfold N4 T4;refine MY (fun r hr=>?_) hr;have hn:o≠R5/\o≠nmB:=by rcases h with rfl|rfl <;> decide
   rw [if_neg hn.1,if_neg hn.2,if_neg hn.1,if_neg hn.2];dsimp only;rw [if_pos h,if_pos h];obtain ⟨c,w,rfl,c1,c2⟩:∃ c w,o=c::w/\on FR c=true/\(c::w).all (on EY)=true:=by
    rcases h with rfl|rfl <;> exact ⟨_,_,rfl,by rfl,by rfl⟩
   rw [show c::w++40::(N4 f 0 a++44::32::(N4 f 0 b++[41]))++r=c::w++(40::(N4 f 0 a++(44::32::(N4 f 0 b++(41::r))))) by simp,
    TL c1 c2 (Fu (by rfl) (by decide)),EI (by rfl) (by rfl) (by decide),iha f 0 om _ (Fu (by rfl) (by decide)),EI (by rfl) (by rfl) (by decide),HV,ihb f 0 om _ (Fu (by rfl) (by decide)),EI (by rfl) (by rfl) (by decide)]
   simp
end Go.Proofs.T
namespace Go.Proofs.T
open Go Go.Ab
open Nat (reduceMul reduceEqDiff reduceAdd)
def qn (n d:Int):Int:=(if d<0 then -n else n) / (Int.gcd n d:Nat)
def qd (n d:Int):Int:=(if d<0 then -d else d) / (Int.gcd n d:Nat)
theorem jb {a b:Nat}:Nat.gcd b (a % b)=Nat.gcd a b:=by
 rw [Nat.gcd_comm b,<- Nat.gcd_rec,Nat.gcd_comm]
def Lim (n:Int):Prop:= -4000000000000000000<=n/\n<=4000000000000000000
theorem jc {a b:Nat}:(a:Int).tmod (b:Int)=((a % b:Nat):Int):=rfl
theorem VC {n:Int}{g:Nat}(h:(g:Int)∣n):n.tdiv g=n / g:=Int.tdiv_eq_ediv_of_dvd h
theorem Bp {a b:Int}:(a==b)=decide (a=b):=by rw [Bool.eq_iff_iff];simp
theorem Bh {a b:Bool}:bi a (some b) (some false)=some (a&&b):=by cases a <;> rfl
theorem Y5 {x y:Operand}{a b c d:Int}:Aw Tryz.prog .eql 32 x y (.agg ⟨[.int .i64 a,.int .i64 b]⟩) (.agg ⟨[.int .i64 c,.int .i64 d]⟩)=some (.bool (decide (a=c)&&decide (b=d))) /\
  Aw Tryz.prog .neq 32 x y (.agg ⟨[.int .i64 a,.int .i64 b]⟩) (.agg ⟨[.int .i64 c,.int .i64 d]⟩)=some (.bool (!(decide (a=c)&&decide (b=d)))):=by
 have he:eqF Tryz.prog 9999 ⟨[.int .i64 a,.int .i64 b]⟩ ⟨[.int .i64 c,.int .i64 d]⟩ (Tryz.prog.fieldsOf 32).toList=bi (a==c) (bi (b==d) (some true) (some false)) (some false):=by kernel_rfl
 have h:=Fz (x:=x) (y:=y) rfl (by kernel_rfl) (by kernel_rfl) (by kernel_rfl) he;rw [Bh,Bh,Bp,Bp,Bool.and_true] at h;exact h
theorem jd {Z:St}{n d:Int}(h1:Lim n) (h2:Lim d) (h3:d≠0) :
  Ev (go Tryz.prog HS (.fn 103) [.int .i64 n,.int .i64 d] Z) (fun r=>∃ Z',r=⟨false,.agg ⟨[.int .i64 (qn n d),.int .i64 (qd n d)]⟩,Z'⟩/\Ext Z Z') ⟨⟩:=by
 obtain ⟨a1,a2⟩:=h1;obtain ⟨b1,b2⟩:=h2;obtain ⟨N,hN⟩:∃ N,(if d<0 then -n else n)=N:=⟨_,rfl⟩
 obtain ⟨D,hD⟩:∃ D,(if d<0 then -d else d)=D:=⟨_,rfl⟩
 have wQ:Int.gcd n d=Nat.gcd N.natAbs D.natAbs:=by
  have h1:N.natAbs=n.natAbs:=by rw [<- hN];split <;> omega
  have h2:D.natAbs=d.natAbs:=by rw [<- hD];split <;> omega
  unfold Int.gcd;rw [h1,h2]
 have hDp:0<D:=by rw [<- hD];split <;> omega
 have hDl:D<=4000000000000000000:=by rw [<- hD];split <;> omega
 have hNl: -4000000000000000000<=N/\N<=4000000000000000000:=by rw [<- hN];split <;> omega
 have e3:IntKind.i64.wrap (0-N)= -N:=by rw [wrap64_in om om];omega
 have hmx:max N (-N)=(N.natAbs:Int):=om;have hDn:D=(D.natAbs:Int):=om;have hq1:qn n d=N / (Nat.gcd N.natAbs D.natAbs:Nat):=by unfold qn;rw [hN,wQ]
 have hq2:qd n d=D / (Nat.gcd N.natAbs D.natAbs:Nat):=by unfold qd;rw [hD,wQ]
 rw [hq1,hq2];have hg0:Nat.gcd N.natAbs D.natAbs≠0:=fun h=>by have:=Nat.eq_zero_of_gcd_eq_zero_right h;omega
 have hgN:((Nat.gcd N.natAbs D.natAbs:Nat):Int)∣N:=Int.ofNat_dvd_left.2 (Nat.gcd_dvd_left _ _);have hgD:((Nat.gcd N.natAbs D.natAbs:Nat):Int)∣D:=Int.ofNat_dvd_left.2 (Nat.gcd_dvd_right _ _);obtain ⟨g,hg⟩:∃ g,Nat.gcd N.natAbs D.natAbs=g:=⟨_,rfl⟩
 rw [hg] at hg0 hgN hgD ⊢;have hgi:(g:Int)≠0:=om;have c1:N.tdiv g=N / g:=VC hgN;have c2:D.tdiv g=D / g:=VC hgD;have hb1: -4000000000000000000<=N / (g:Int)/\N / (g:Int)<=4000000000000000000:=by
  obtain ⟨k,hk⟩:=hgN;rw [hk,Int.mul_ediv_cancel_left _ hgi];have hg1:1<=(g:Int):=om;constructor
  ·rcases Int.le_total 0 k with h|h
   ·omega
   ·have:=Int.mul_le_mul_of_nonpos_right hg1 h;omega
  ·rcases Int.le_total 0 k with h|h
   ·have:=Int.mul_le_mul_of_nonneg_right hg1 h;omega
   ·omega
 have hb2:0<=D / (g:Int)/\D / (g:Int)<=4000000000000000000:=by
  refine ⟨Int.ediv_nonneg om om,Int.le_trans (Int.ediv_le_self _ om) hDl⟩
 have w1:IntKind.i64.wrap (N / (g:Int))=N / (g:Int):=wrap64_in om om;have w2:IntKind.i64.wrap (D / (g:Int))=D / (g:Int):=wrap64_in om om;refine D7 Tryz.func103 rfl rfl ?_;have wR:(decide (d<0)=true/\IntKind.i64.wrap (0-n)=N/\IntKind.i64.wrap (0-d)=D)\/(decide (D<0)=false/\n=N/\d=D):=by
  by_cases hd:d<0
  ·rw [if_pos hd] at hN hD;exact .inl ⟨by simpa using hd,by rw [wrap64_in om om];omega,by rw [wrap64_in om om];omega⟩
  ·rw [if_neg hd] at hN hD;exact .inr ⟨by rw [<- hD];simpa using hd,hN,hD⟩
 clear hN hD wQ hq1 hq2;rcases wR with ⟨hc,e1,e2⟩|⟨hc,e1,e2⟩
 all_goals
  refine gS1 (a5N @hc @e1 @e2 @e3 @hmx) ?_
  refine Bj (fun m fr Z'=>∃ a:Nat,fr.get 0=some (.int .i64 N)/\fr.get 1=some (.int .i64 D)/\fr.get 4=some (.pointer (some ⟨Z.n,0,none⟩))/\fr.get 5=some (.int .i64 (a:Int))/\fr.get 6=some (.int .i64 (m:Int))/\Z'=Z.new [.int .i64 0,.int .i64 0] (some 32)/\Nat.gcd a m=g)
   (fun r=>∃ fr,r=⟨.exit 0,fr,Z.new [.int .i64 0,.int .i64 0] (some 32)⟩/\fr.get 0=some (.int .i64 N)/\fr.get 1=some (.int .i64 D)/\fr.get 4=some (.pointer (some ⟨Z.n,0,none⟩))/\fr.get 5=some (.int .i64 (g:Int))) D.natAbs ?_ ?_ ?_
  ·exact ⟨N.natAbs,fR1 (And.intro e1 e2),fR1 (And.intro e1 e2),fR1 (And.intro e1 e2),fR1 (And.intro e1 e2),by rw [<- hDn];exact fR1 (And.intro e1 e2),rfl,hg⟩
  ·rintro m fr Z' ⟨a,g0,g1,g4,g5,g6,rfl,hgc⟩;by_cases hm:0<m
   ·have hc':decide ((0:Int)<(m:Int))=true:=by simpa using hm
    have hm0:(m:Int)≠0:=om;refine gS1 (a8N @g0 @g1 @g4 @g5 @g6 @hc' @jc @O5) ?_;refine ⟨a % m,Nat.mod_lt _ hm,m,fR1 g0,fR1 g1,fR1 g4,fR,fR,by trivial,by rw [jb];exact hgc⟩
   ·obtain rfl:m=0:=om;have hc':decide ((0:Int)<((0:Nat):Int))=false:=by decide
    rw [Nat.gcd_zero_right] at hgc;subst hgc;refine gS1 (a7N @g0 @g1 @g4 @g5 @g6 @hc' @BM) ?_;exact ⟨_,rfl,fR1 g0,fR1 g1,fR1 g4,fR1 g5⟩
  ·rintro r ⟨fr,rfl,g0,g1,g4,g5⟩;refine gS1 (a9N @g0 @g1 @g4 @g5 @c1 @c2 @w1 @w2 @Tryz.results103) ?_;exact ⟨_,rfl,eX⟩
theorem VD {Z:St}{n:Int}(h1: -1000000000<n) (h2:n<1000000000):Ev (go Tryz.prog HS (.fn 102) [.int .i64 n] Z) (fun r=>r=⟨false,.bool true,Z⟩) ⟨⟩:=by
 have c1:decide (-1000000000<n)=true:=by simpa using h1
 have c2:decide (n<1000000000)=true:=by simpa using h2
 refine D7 Tryz.func102 rfl rfl ?_;refine gS1 (a5N @c1 @c2 @J1 @J2 @Tryz.results102) ?_;try exact ⟨⟩
theorem dM {Z:St}{n d:Int}(h1: -1000000000<n) (h2:n<1000000000) (h3: -1000000000<d) (h4:d<1000000000) (h5:d≠0) :
  Ev (go Tryz.prog HS (.fn 61) [.int .i64 n,.int .i64 d] Z) (fun r=>∃ Z',r=⟨false,.tuple ⟨[.agg ⟨[.int .i64 (qn n d),.int .i64 (qd n d)]⟩,.bool true]⟩,Z'⟩/\Ext Z Z') ⟨⟩:=by
 have c5:decide (d=0)=false:=by simpa using h5
 refine D7 Tryz.func61 rfl rfl ?_;refine gS1 @c5 ?_;refine (VD h1 h2).mono ?_;rintro r rfl;refine gS1 @J1 ?_;refine (VD h3 h4).mono ?_;rintro r rfl;refine gS ?_;refine (jd ⟨om,om⟩ ⟨om,om⟩ h5).mono ?_;rintro r ⟨Z2,rfl,e2⟩;have n2:=e2.n;have o2:Z2.A5 Z.n=some [.int .i64 0,.int .i64 0]:=by rw [e2.A5 (cL)];exact cL
 have hE:Ext Z Z2:=Ext.trans (eX) e2;refine gS1 (aI @o2 @Tryz.results61) ?_;exact ⟨_,rfl,eX⟩
end Go.Proofs.T
namespace Go.Proofs.T
open Go Go.Ab
def At (toks:List Tok) (k:Nat) (ts post:List By):Prop:=(toks.map Prod.fst).drop k=ts++post
theorem At.head {toks:List Tok}{k:Nat}{t:By}{ts post:List By}(h:At toks k (t::ts) post):(A9 toks k).1=t:=by
 have h1:((toks.map Prod.fst).drop k)[0]? =some t:=by rw [show _=_ from h];rfl
 rw [List.getElem?_drop,Nat.add_zero,List.getElem?_map] at h1;obtain ⟨x,h2,h3⟩:=Option.map_eq_some_iff.1 h1;unfold A9;rw [List.getD_eq_getElem?_getD,h2];exact h3
theorem At.skip {toks:List Tok}{k:Nat}{ts us post:List By}(h:At toks k (ts++us) post):At toks (k+ts.length) us post:=by
 unfold At at *;rw [<- List.drop_drop,h,List.append_assoc,List.drop_left]
theorem At.pre {toks:List Tok}{k:Nat}{ts us post:List By}(h:At toks k (ts++us) post):At toks k ts (us++post):=by
 unfold At at *;rw [h,List.append_assoc]
theorem At.next {toks:List Tok}{k:Nat}{t:By}{us post:List By}(h:At toks k (t::us) post):At toks (k+1) us post:=At.skip (ts:=[t]) h
theorem At.lt {toks:List Tok}{k:Nat}{t:By}{us post:List By}(h:At toks k (t::us) post):k+us.length<toks.length:=by
 have:=congrArg List.length (show _=_ from h);simp at this;omega
theorem At.post {toks:List Tok}{k:Nat}{ts post:List By}(h:At toks k ts post):(A9 toks (k+ts.length)).1=post.getD 0 []:=by
 have h1:(toks.map Prod.fst).drop (k+ts.length)=post:=by
  have:=At.skip (ts:=ts) (us:=[]) (post:=post) (k:=k) (toks:=toks) (by rw [List.append_nil];exact h);exact this
 cases hp:post with
 | nil =>
   rw [hp] at h1;have hl:toks.length<=k+ts.length:=by simpa using h1
   unfold A9;rw [List.getD_eq_getElem?_getD,List.getElem?_eq_none hl];rfl
 | cons t us =>
   have:At toks (k+ts.length) (t::us) []:=by unfold At;rw [h1,hp,List.append_nil]
   rw [this.head];rfl
theorem At.le {toks:List Tok}{k:Nat}{ts post:List By}(h:At toks k ts post) (hk:k<=toks.length):k+ts.length<=toks.length:=by
 have:=congrArg List.length (show _=_ from h);simp at this;omega
section
variable {toks:List Tok}
noncomputable def Fa (toks:List Tok) (fu:Nat):Nat->Nat->Except Er Fx:=Ge (Om toks fu) toks
noncomputable def Tm (toks:List Tok) (fu:Nat):Nat->Nat->Except Er Fx:=fun k p=>Dw (Fa toks fu) [42,47] toks k p
theorem KF {fu k p:Nat}:Om toks (fu+1) k p=Dw (Tm toks fu) [43,45] toks k p:=rfl
def Q2 (toks:List Tok) (fu g:Nat) (e:Ex) (d m:Nat):Prop:=∀ pos p post,At toks pos (T4 g 2 e) post->Fa toks fu pos p= .ok (e,d,pos+(T4 g 2 e).length,p+m)
def Q1 (toks:List Tok) (fu g:Nat) (e:Ex) (d m:Nat):Prop:=∀ pos p post,At toks pos (T4 g 1 e) post->Tm toks fu pos p=Bf (Fa toks fu) [42,47] toks (toks.length-(pos+(T4 g 1 e).length)) (e,d,pos+(T4 g 1 e).length,p+m)
def Q0 (toks:List Tok) (fu g:Nat) (e:Ex) (d m:Nat):Prop:=∀ pos p post,At toks pos (T4 g 0 e) post->opB [42,47] (post.getD 0 [])=false->Dw (Tm toks fu) [43,45] toks pos p=Bf (Tm toks fu) [43,45] toks (toks.length-(pos+(T4 g 0 e).length)) (e,d,pos+(T4 g 0 e).length,p+m)
theorem DE {A:Nat->Nat->Except Er Fx}{ops:By}{f:Nat}{e:Ex}{d k p:Nat}(h:opB ops (A9 toks k).1=false):Bf A ops toks f (e,d,k,p)= .ok (e,d,k,p):=by
 cases f with
 | zero=>rfl
 | succ f=>rw [AX,if_neg (by rw [h];simp)]
theorem KG {fu g:Nat}{e:Ex}{d m:Nat}(ht:T4 g 1 e=T4 g 2 e) (h:Q2 toks fu g e d m):Q1 toks fu g e d m:=by
 intro pos p post hA;rw [ht] at hA ⊢;unfold Tm Dw;rw [h pos p post hA,C2]
theorem KH {fu g:Nat}{e:Ex}{d m:Nat}(ht:T4 g 0 e=T4 g 1 e) (h:Q1 toks fu g e d m):Q0 toks fu g e d m:=by
 intro pos p post hA hp;rw [ht] at hA ⊢;have h1:=h pos p post hA;rw [DE (by rw [hA.post];exact hp)] at h1;show Q9 (Tm toks fu pos p) _=_;rw [h1,C2]
theorem qa {fu:Nat}(k p:Nat):Bd k p (Fa toks fu k p):=MZ (RA _) k p
theorem zJ {fu:Nat}(k p:Nat):Bd k p (Tm toks fu k p):=HZ qa k p
theorem OV {A:Nat->Nat->Except Er Fx}{ops op:By}{a b:Ex}{da db k1 k2 p1 p2:Nat}(hA:∀ k p,Bd k p (A k p)) (hk:k1<toks.length) (ho:(A9 toks k1).1=op) (hop:opB ops op=true) (hb:A (k1+1) p1= .ok (b,db,k2,p2)) (hk2:k2<=toks.length) :
  Bf A ops toks (toks.length-k1) (a,da,k1,p1)=Bf A ops toks (toks.length-k2) (.mk op 0 0 [] [a,b],1+max da db,k2,p2+1):=by
 obtain ⟨f,hf⟩:∃ f,toks.length-k1=f+1:=⟨toks.length-k1-1,om⟩
 rw [hf,AX,ho,if_pos hop,hb,C2]
 try dsimp only
 have hlt:=(hA _ _ _ _ _ _ hb).1;exact Lp (k0:=0) (fun k p _ e d k' p' h=>(hA k p e d k' p' h).1) _ _ _ _ _ _ (Nat.zero_le _) om (Nat.le_refl _) om (fun k hk=>Yo hk)
theorem Eu {g least:Nat}{o:By}{a b:Ex}(h:o=[43]\/o=[45]\/o=[42]\/o=[47]):T4 (g+1) least (.mk o 0 0 [] [a,b])=Kr (decide (lvl o<least)) (T4 g (lvl o) a++o::T4 g (lvl o+1) b):=by
 have hn:o≠R5/\o≠nmB/\¬ (o=Dt\/o=EZ):=by rcases h with rfl|rfl|rfl|rfl <;> decide
 show Kr _ (if _ then _ else _)=_;rw [if_neg hn.1,if_neg hn.2.1]
 try dsimp only
 rw [if_neg hn.2.2]
theorem SE {g least:Nat}{o:By}{a b:Ex}(h:o=Dt\/o=EZ) (hl:least<=2):T4 (g+1) least (.mk o 0 0 [] [a,b])=o::[40]::(T4 g 0 a++[44]::(T4 g 0 b++[[41]])):=by
 have hn:o≠R5/\o≠nmB:=by rcases h with rfl|rfl <;> decide
 have hv:lvl o=2:=by rcases h with rfl|rfl <;> rfl
 show Kr _ (if _ then _ else _)=_;rw [if_neg hn.1,if_neg hn.2]
 try dsimp only
 rw [if_pos h,hv];unfold Kr;rw [if_neg (by simp;omega)]
theorem iP {fu g:Nat}{e:Ex}{d m:Nat}(ht:T4 g 2 e=[40]::(T4 g 0 e++[[41]])) (h:Q0 toks fu g e d m):Q2 toks (fu+1) g e d m:=by
 intro pos p post hA;rw [ht] at hA ⊢;have h1:=hA.head;have h2:=hA.next;have h3:=h (pos+1) p ([[41]]++post) h2.pre (by rfl);have h4:=h2.skip.head;rw [DE (by rw [h4];rfl)] at h3;show Ge _ toks pos p=_;unfold Ge;rw [h1,if_neg (by decide),if_pos rfl,KF,h3,C2]
 try dsimp only
 unfold De;rw [if_pos h4,C2];simp;omega
theorem oI {k m:Nat}{e:Ex}(h:FW k m e):∀ (g fu:Nat),k<=g->(k<=fu->Q0 toks fu g e k m)/\(k+1<=fu->Q1 toks fu g e k m/\Q2 toks fu g e k m):=by
 induction h with
 | @num n d h =>
   intro g fu hg;obtain ⟨g,rfl⟩:∃ x,g=x+1:=⟨g-1,om⟩
   have ht:∀ least,least<=2->T4 (g+1) least (.mk R5 n d [] [])=[deT n d]:=by
    intro least hl;show Kr _ (if _ then _ else _)=_;rw [if_pos rfl];unfold Kr;rw [if_neg (by rw [show lvl R5=2 from rfl];simp;omega)]
   have h2:Q2 toks fu (g+1) (.mk R5 n d [] []) 1 1:=by
    intro pos p post hA;rw [ht 2 om] at hA ⊢;show Ge _ toks pos p=_;unfold Ge;have hd:Fg J9 (A9 toks pos).1=true:=by
     rw [hA.head];rcases h.lex with ⟨c,w,e,h1⟩|⟨c,w,x,v,e,h1,_⟩
     ·rw [e];rw [List.all_cons,Bool.and_eq_true] at h1;exact h1.1
     ·rw [e];rw [List.all_cons,Bool.and_eq_true] at h1;exact h1.1
    rw [if_pos hd,h.dec toks pos p hA.head];rfl
   have h1:=KG ((ht 1 om).trans (ht 2 om).symm) h2;exact ⟨fun _=>KH ((ht 0 om).trans (ht 1 om).symm) h1,fun _=>⟨h1,h2⟩⟩
 | @name nm q1 q2 q3 =>
   intro g fu hg;obtain ⟨g,rfl⟩:∃ x,g=x+1:=⟨g-1,om⟩
   have ht:∀ least,least<=2->T4 (g+1) least (.mk nmB 0 0 nm [])=[nm]:=by
    intro least hl;show Kr _ (if _ then _ else _)=_;rw [if_neg (by decide),if_pos rfl];unfold Kr;rw [if_neg (by rw [show lvl nmB=2 from rfl];simp;omega)]
   have h2:Q2 toks fu (g+1) (.mk nmB 0 0 nm []) 1 1:=by
    intro pos p post hA;rw [ht 2 om] at hA ⊢;show Ge _ toks pos p=_;unfold Ge;rw [hA.head];obtain ⟨c,w,e,c1,c2⟩:=Iz q1;have hd:Fg J9 nm=false:=by
     rw [e];cases hx:on J9 c with
     | false=>exact hx
     | true=>rw [RM hx] at c1;cases c1
    have hp:nm≠[40]:=by rintro rfl;cases e;cases c1
    rw [if_neg (by rw [hd];simp),if_neg hp,if_neg (by simp [q2,q3]),if_pos q1];rfl
   have h1:=KG ((ht 1 om).trans (ht 2 om).symm) h2;exact ⟨fun _=>KH ((ht 0 om).trans (ht 1 om).symm) h1,fun _=>⟨h1,h2⟩⟩
 | @bin k j m i o a b h ha hb iha ihb =>
   intro g fu hg;obtain ⟨g,rfl⟩:∃ x,g=x+1:=⟨g-1,om⟩
   have key:lvl o=0/\opB [43,45] o=true\/lvl o=1/\opB [42,47] o=true:=by
    rcases h with rfl|rfl|rfl|rfl
    ·exact .inl ⟨rfl,by rfl⟩
    ·exact .inl ⟨rfl,by rfl⟩
    ·exact .inr ⟨rfl,by rfl⟩
    ·exact .inr ⟨rfl,by rfl⟩
   rcases key with ⟨hl,hop⟩|⟨hl,hop⟩
   ·have t0:T4 (g+1) 0 (.mk o 0 0 [] [a,b])=T4 g 0 a++o::T4 g 1 b:=by rw [Eu h,hl];rfl
    have t1:T4 (g+1) 1 (.mk o 0 0 [] [a,b])=[40]::(T4 g 0 a++o::T4 g 1 b++[[41]]):=by rw [Eu h,hl];rfl
    have t2:T4 (g+1) 2 (.mk o 0 0 [] [a,b])=[40]::(T4 g 0 a++o::T4 g 1 b++[[41]]):=by rw [Eu h,hl];rfl
    have h0:∀ fu,1+max k j<=fu->Q0 toks fu (g+1) (.mk o 0 0 [] [a,b]) (1+max k j) (m+i+1):=by
     intro fu hfu pos p post hA hp;rw [t0] at hA ⊢;have a1:=(iha g fu om).1 om pos p _ hA.pre (by
      rcases h with rfl|rfl|rfl|rfl <;> first|rfl|(cases hl))
     have hA2:=hA.skip;have b1:=((ihb g fu om).2 om).1 (pos+(T4 g 0 a).length+1) (p+m) post hA2.next;rw [DE (by rw [hA2.next.post];exact hp)] at b1;have hlt:=hA2.lt;rw [a1,OV zJ om hA2.head hop b1 om];simp only [List.length_append,List.length_cons];congr 1
     ·omega
     ·simp only [Prod.mk.injEq,true_and];omega
    refine ⟨h0 fu,fun hfu=>?_⟩;obtain ⟨fu,rfl⟩:∃ x,fu=x+1:=⟨fu-1,om⟩
    have h2:=iP (by rw [t2,t0]) (h0 fu om);exact ⟨KG (by rw [t1,t2]) h2,h2⟩
   ·have t0:T4 (g+1) 0 (.mk o 0 0 [] [a,b])=T4 g 1 a++o::T4 g 2 b:=by rw [Eu h,hl];rfl
    have t1:T4 (g+1) 1 (.mk o 0 0 [] [a,b])=T4 g 1 a++o::T4 g 2 b:=by rw [Eu h,hl];rfl
    have t2:T4 (g+1) 2 (.mk o 0 0 [] [a,b])=[40]::(T4 g 1 a++o::T4 g 2 b++[[41]]):=by rw [Eu h,hl];rfl
    have h1:∀ fu,1+max k j<=fu->Q1 toks fu (g+1) (.mk o 0 0 [] [a,b]) (1+max k j) (m+i+1):=by
     intro fu hfu pos p post hA;rw [t1] at hA ⊢;have a1:=((iha g fu om).2 om).1 pos p _ hA.pre;have hA2:=hA.skip;have b1:=((ihb g fu om).2 om).2 (pos+(T4 g 1 a).length+1) (p+m) post hA2.next;have hlt:=hA2.lt;rw [a1,OV qa om hA2.head hop b1 om];simp only [List.length_append,List.length_cons];congr 1
     ·omega
     ·simp only [Prod.mk.injEq,true_and];omega
    have h0:∀ fu,1+max k j<=fu->Q0 toks fu (g+1) (.mk o 0 0 [] [a,b]) (1+max k j) (m+i+1):=fun fu hfu=>KH (by rw [t0,t1]) (h1 fu hfu);refine ⟨h0 fu,fun hfu=>?_⟩;obtain ⟨fu,rfl⟩:∃ x,fu=x+1:=⟨fu-1,om⟩
    exact ⟨h1 _ om,iP (by rw [t2,t0]) (h0 fu om)⟩
 | @mm k j m i o a b h ha hb iha ihb =>
   intro g fu hg;obtain ⟨g,rfl⟩:∃ x,g=x+1:=⟨g-1,om⟩
   have h2:1+max k j<=fu->Q2 toks fu (g+1) (.mk o 0 0 [] [a,b]) (1+max k j) (m+i+1):=by
    intro hfu pos p post hA;obtain ⟨fu,rfl⟩:∃ x,fu=x+1:=⟨fu-1,om⟩
    rw [SE h om] at hA ⊢;have a1:=hA.head;have a2:=hA.next.head;have a3:=hA.next.next;have b1:=(iha g fu om).1 om (pos+1+1) p _ a3.pre (by rfl);have a4:=a3.skip;rw [DE (by rw [a4.head];rfl)] at b1;have b2:=(ihb g fu om).1 om (pos+1+1+(T4 g 0 a).length+1) (p+m) _ a4.next.pre (by rfl);have a5:=a4.next.skip;rw [DE (by rw [a5.head];rfl)] at b2;show Ge _ toks pos p=_;unfold Ge;rw [a1,if_neg (by rcases h with rfl|rfl <;> decide),if_neg (by rcases h with rfl|rfl <;> decide),if_pos (by rcases h with rfl|rfl <;> decide)];unfold De;rw [if_pos a2,C2]
    try dsimp only
    rw [KF,b1,C2]
    try dsimp only
    rw [if_pos a4.head,C2]
    try dsimp only
    rw [KF,b2,C2]
    try dsimp only
    rw [if_pos a5.head,C2];simp;omega
   have ht:∀ x y,x<=2->y<=2->T4 (g+1) x (.mk o 0 0 [] [a,b])=T4 (g+1) y (.mk o 0 0 [] [a,b]):=fun x y hx hy=>by rw [SE h hx,SE h hy]
   have h1:=fun hfu=>KG (ht 1 2 om om) (h2 hfu);exact ⟨fun hfu=>KH (ht 0 1 om om) (h1 hfu),fun hfu=>⟨h1 om,h2 om⟩⟩
theorem uT {k m:Nat}{e:Ex}(h:FW k m e):∀ g least,k<=g->k<=(T4 g least e).length:=by
 have hp:∀ (b:Bool) (ts:List By),ts.length<=(Kr b ts).length:=fun b ts=>by unfold Kr;split <;> simp;omega
 induction h with
 | @num n d h =>
   intro g least hg;obtain ⟨g,rfl⟩:∃ x,g=x+1:=⟨g-1,om⟩
   refine Nat.le_trans ?_ (hp _ _);rw [if_pos rfl];simp
 | @name nm q1 q2 q3 =>
   intro g least hg;obtain ⟨g,rfl⟩:∃ x,g=x+1:=⟨g-1,om⟩
   refine Nat.le_trans ?_ (hp _ _);rw [if_neg (by decide),if_pos rfl];simp
 | @bin k j m i o a b h ha hb iha ihb =>
   intro g least hg;obtain ⟨g,rfl⟩:∃ x,g=x+1:=⟨g-1,om⟩
   rw [Eu h];refine Nat.le_trans ?_ (hp _ _);have:=iha g (lvl o) om;have:=ihb g (lvl o+1) om;simp;omega
 | @mm k j m i o a b h ha hb iha ihb =>
   intro g least hg;obtain ⟨g,rfl⟩:∃ x,g=x+1:=⟨g-1,om⟩
   have hn:o≠R5/\o≠nmB:=by rcases h with rfl|rfl <;> decide
   refine Nat.le_trans ?_ (hp _ _);rw [if_neg hn.1,if_neg hn.2]
   try dsimp only
   rw [if_pos h];have:=iha g 0 om;have:=ihb g 0 om;simp;omega
theorem ZA {k m g:Nat}{e:Ex}(h:FW k m e) (hg:k<=g) (hk:k<=12) (hm:m<=60) (ht:toks.map Prod.fst=T4 g 0 e++[[]]):Pa toks= .ok e:=by
 have hl:toks.length=(T4 g 0 e).length+1:=by have:=congrArg List.length ht;simpa using this
 have hle:=uT h g 0 hg;have hA:At toks 0 (T4 g 0 e) [[]]:=ht;have h0:=(oI (toks:=toks) h g (T4 g 0 e).length hg).1 hle 0 0 [[]] hA (by rfl);rw [DE (by rw [hA.post];rfl)] at h0;unfold Pa;rw [hl,KF,h0,C2]
 try dsimp only
 rw [if_pos (by rw [hA.post];rfl),if_neg (by simp;omega)]
end
theorem ml:∀ (f g n:Nat),n<f->n<g->dcF f n=dcF g n:=by
 intro f;induction f with
 | zero=>intro g n h;omega
 | succ f ih =>
   intro g n h1 h2;cases g with
   | zero=>omega
   | succ g =>
     show (if n<10 then [dgt n] else dcF f (n / 10)++[dgt n])=(if n<10 then [dgt n] else dcF g (n / 10)++[dgt n])
     by_cases h:n<10
     ·rw [if_pos h,if_pos h]
     ·rw [if_neg h,if_neg h,ih g (n / 10) om om]
theorem EJ {n:Nat}(h:n<10):dcN n=[dgt n]:=by
 show (if n<10 then [dgt n] else _)=_;rw [if_pos h]
theorem MW {n:Nat}(h:¬ n<10):dcN n=dcN (n / 10)++[dgt n]:=by
 show (if n<10 then [dgt n] else dcF n (n / 10)++[dgt n])=dcF (n / 10+1) (n / 10)++[dgt n]
 rw [if_neg h,ml n (n / 10+1) (n / 10) om om]
theorem MQ:∀ (k n:Nat),n<10 ^ (k+1)->(dcN n).length<=k+1:=by
 intro k;induction k with
 | zero=>intro n h;rw [EJ om];simp
 | succ k ih =>
   intro n h;by_cases h10:n<10
   ·rw [EJ h10];simp
   ·rw [MW h10];have:=ih (n / 10) (by rw [Nat.pow_succ] at h;omega);simp;omega
theorem MX {n:Nat}:(dgt n).toNat=48+n % 10:=by
 unfold dgt;rw [UInt8.toNat_ofNat'];omega
theorem YW {n:Nat}:on J9 (dgt n)=true:=by
 unfold on J9;rw [MX];have e1:decide (((48+n % 10:Nat):Int)<48)=false:=by rw [decide_eq_false_iff_not];omega
 have e2:decide ((57:Int)<((48+n % 10:Nat):Int))=false:=by rw [decide_eq_false_iff_not];omega
 rw [e1,e2];rfl
theorem OB:∀ (f n:Nat),n<f->(dcN n).all (on J9)=true/\y9 (dcN n)=n/\∃ c w,dcN n=c::w/\(c=48->n=0/\w=[]):=by
 intro f;induction f with
 | zero=>intro n h;omega
 | succ f ih =>
   intro n hf;by_cases h10:n<10
   ·rw [EJ h10];refine ⟨by rw [List.all_cons,YW];rfl,?_,_,_,rfl,fun h=>⟨?_,rfl⟩⟩
    ·show 10*0+((dgt n).toNat-48)=n;rw [MX];omega
    ·have:=congrArg UInt8.toNat h;rw [MX] at this;change 48+n % 10=48 at this;omega
   ·obtain ⟨h1,h2,c,w,h3,h4⟩:=ih (n / 10) om;rw [MW h10];refine ⟨by rw [List.all_append,h1,List.all_cons,YW];rfl,?_,c,w++[dgt n],by rw [h3];rfl,fun h=>?_⟩
    ·have:y9 (dcN (n / 10)++[dgt n])=10*y9 (dcN (n / 10))+((dgt n).toNat-48):=by
      unfold y9;rw [List.foldl_append];rfl
     rw [this,h2,MX];omega
    ·have:=(h4 h).1;omega
theorem mn (n:Nat):FZ (dcN n)=true/\y9 (dcN n)=n:=by
 obtain ⟨h1,h2,c,w,h3,h4⟩:=OB (n+1) n (Nat.lt_succ_self _);refine ⟨?_,h2⟩;unfold FZ;rw [h1,h3];have hc:on J9 c=true:=by rw [h3,List.all_cons,Bool.and_eq_true] at h1;exact h1.1
 show (on J9 c&&true&&qH (c::w))=true;rw [hc];cases w with
 | nil=>rfl
 | cons x v =>
   show (true&&true&& !decide (c=48))=true;have:decide (c=48)=false:=decide_eq_false fun e=>by cases (h4 e).2
   rw [this];rfl
theorem RZ (n:Nat):dcN n≠[]:=by
 obtain ⟨-,-,c,w,h,-⟩:=OB (n+1) n (Nat.lt_succ_self _);rw [h];simp
section
variable {toks:List Tok} {k:Nat} {T:Tn}
theorem OC {least:Int}{nw:Int->Bool}{n:Nat}(h:(A9 toks k).1=dcN n) (h1:n<=1000000000) (h2:least<=n) (h3:nw n=true):rdNum toks least nw k= .ok (n,k+1):=by
 obtain ⟨a,b⟩:=mn n;unfold rdNum MC;rw [h,if_neg (by rw [a];simp),b,if_pos ⟨h1,h2⟩,if_pos h3];rfl
theorem W5 {n:Nat}(h:(A9 toks k).1=dcN n) (h1:n<=1000000000):U6 toks k= .ok (n,k+1):=OC h h1 om rfl
theorem OD {ws:List By}{w:By}(h:(A9 toks k).1=w) (hw:ws.contains w=true):Ju toks ws k= .ok (w,k+1):=by
 unfold Ju;rw [h,if_pos hw];rfl
theorem QM {w:By}(h:(A9 toks k).1=w) (hw:Y0 w=true):Kn toks k= .ok w:=by
 unfold Kn;rw [h,if_pos hw]
def XZ:By:=[109,111,115,116]
theorem cW {a b:Nat}(h:At toks k [dcN a,XZ,dcN b] [[]]) (h1:1<=a) (h2:a<=1000000000) (h3:b<=1000000000) (h4:(T.D2.any fun l=>decide (l.id=(a:Int)))=false) :
  Wg toks T k= .ok ({ T with D2:=T.D2++[⟨a,b⟩] },k+3):=by
 unfold Wg;rw [OC h.head h2 om (by rw [h4];rfl),C2];dsimp only;rw [OD h.next.head (by rfl),C2];dsimp only;rw [W5 h.next.next.head h3,C2]
theorem ZC {w:By}{kd:Nat}{lo hi:Nat}{less:Bool}(h:At toks k ([w,if kd=2 then BU else Cv,dcN lo,dcN hi]++if less=true then [Cq] else []) [[]]) (h1:Y0 w=true) (hk:kd=1\/kd=2) (h2:lo<=1000000000) (h3:hi<=1000000000) (h4:(T.C7.any fun c=>decide (c.name=w))=false) :
  CL toks T k= .ok ({ T with C7:=T.C7++[⟨w,kd,lo,hi,less⟩] },k+(4+if less=true then 1 else 0)):=by
 unfold CL;have a0:(A9 toks k).1=w:=At.head h;have n1:At toks (k+1) ([if kd=2 then BU else Cv,dcN lo,dcN hi]++if less=true then [Cq] else []) [[]]:=At.next h;have a1:(A9 toks (k+1)).1=if kd=2 then BU else Cv:=At.head n1
 have n2:At toks (k+1+1) ([dcN lo,dcN hi]++if less=true then [Cq] else []) [[]]:=At.next n1;have n3:At toks (k+1+1+1) ([dcN hi]++if less=true then [Cq] else []) [[]]:=At.next n2;have n4:At toks (k+1+1+1+1) (if less=true then [Cq] else []) [[]]:=At.next n3;have a4:(A9 toks (k+1+1+1+1)).1=if less=true then Cq else []:=by
  cases less with
  | true=>exact At.head n4
  | false=>have:=At.post n4;exact this
 rw [QM a0 h1,C2];rw [if_neg (by rw [h4];simp)];rw [OD a1 (by rcases hk with rfl|rfl <;> rfl),C2];dsimp only;rw [W5 (At.head n2) h2,C2];dsimp only;rw [W5 (At.head n3) h3,C2];dsimp only;have e1:cond (decide ((if kd=2 then BU else Cv)=BU)) (2:Int) 1=kd:=by rcases hk with rfl|rfl <;> rfl
 rw [a4,e1];cases less with
 | true=>rfl
 | false=>rfl
theorem cX {w r:By}{n:Nat}(h:At toks k [w,r,dcN n] [[]]) (h1:Y0 w=true) (h2:([[60,61],[62,61]]:List By).contains r=true) (h3:n<=1000000000) :
  En toks T k= .ok ({ T with reqs:=T.reqs++[⟨w,r,n⟩] },k+3):=by
 unfold En;rw [QM h.head h1,C2,OD h.next.head h2,C2];dsimp only;rw [W5 h.next.next.head h3,C2]
theorem VI {a b:Nat} (h:At toks k [dcN a,dcN b] [[]]) (h1:a<=1000000000) (h2:b<=1000000000):Ix toks T k= .ok ({ T with low:=a,high:=b },k+2):=by
 unfold Ix;rw [W5 h.head h1,C2];dsimp only;rw [W5 h.next.head h2,C2]
theorem ZD {a:Nat} (h:At toks k [dcN a] [[]]) (h1:a<=1000000000):OE toks T k= .ok ({ T with D5:=a },k+1):=by
 unfold OE;rw [W5 h.head h1,C2]
theorem Sa {a:Nat} (h:At toks k [dcN a] [[]]) (h1:a<=1000000000):GM toks T k= .ok ({ T with C1:=a },k+1):=by
 unfold GM;rw [W5 h.head h1,C2]
theorem SZ {w:By} (h:At toks k [w] [[]]) (h1:AL w=true):FM toks T k= .ok ({ T with name:=w },k+1):=by
 unfold FM;rw [h.head,if_pos h1]
theorem VK {a b c d e:Nat}(h:At toks k [dcN a,dcN b,dcN c,dcN d,dcN e] [[]]) (h1:a<=1000000000) (h2:b<=1000000000) (h3:c<=1000000000) (h4:d<=1000000000) (h5:e<=1000000000) :
  GN toks T k= .ok ({ T with t:=⟨a,b,c,d,e⟩ },k+5):=by
 unfold GN;rw [Be,W5 h.head h1,C2];dsimp only;rw [Be,W5 h.next.head h2,C2];dsimp only;rw [Be,W5 h.next.next.head h3,C2];dsimp only;rw [Be,W5 h.next.next.next.head h4,C2];dsimp only;rw [Be,W5 h.next.next.next.next.head h5,C2];rfl
theorem aY:∀ (ts:List By) (f k:Nat) (T:Tn),At toks k ts [[]]->ts.length<=f->(ts=[]->T.E9≠[])->(∀ w∈ts,(w=Di\/Y0 w=true))->ts.Nodup->(∀ w∈ts,w∉T.E9)->T.E9.length+ts.length<=12 ->
  PA toks f T k= .ok ({ T with E9:=T.E9++ts },k+ts.length):=by
 intro ts;induction ts with
 | nil =>
   intro f k T hA _ hne _ _ _ _;have h0:(A9 toks k).1=[]:=hA.post;have hl:decide (T.E9.length=0)=false:=decide_eq_false fun h=>hne rfl (List.eq_nil_of_length_eq_zero h);cases f with
   | zero=>simp [PA]
   | succ f =>
     unfold PA;rw [hl,h0,if_neg (by simp)];simp
 | cons w ts ih =>
   intro f k T hA hf _ hw hnd gB hlen;obtain ⟨f,rfl⟩:∃ g,f=g+1:=⟨f-1,by simp at hf;omega⟩
   have h0:=hA.head;have hw0:=hw w (List.mem_cons_self ..);have hne:w≠[]:=by
    rintro rfl;rcases hw0 with h|h
    ·cases h
    ·cases h
   unfold PA;rw [h0,if_pos (by simp [hne])];rw [if_pos (by rcases hw0 with h|h <;> simp [h])];rw [if_neg (by simpa using gB w (List.mem_cons_self ..))];simp only [List.length_cons] at hlen hf;rw [if_pos om];rw [ih f (k+1) { T with E9:=T.E9++[w] } hA.next om (fun _=>by simp) (fun x hx=>hw x (List.mem_cons_of_mem _ hx)) (List.nodup_cons.1 hnd).2 ?_ (by simp;omega)]
   ·simp;omega
   ·intro x hx hm;rcases List.mem_append.1 hm with hm|hm
    ·exact gB x (List.mem_cons_of_mem _ hx) hm
    ·rw [List.mem_singleton] at hm;subst hm;exact (List.nodup_cons.1 hnd).1 hx
theorem UJ:∀ (cs:List Nat) (f k:Nat) (l:List Int),At toks k (cs.map dcN) [[]]->cs.length<=f->2<=l.length+cs.length->(∀ n∈cs,1<=n/\n<=1000000000)->cs.Nodup->(∀ n∈cs,(n:Int)∉l)->l.length+cs.length<=12 ->
  Dv toks f l k= .ok (l++cs.map (fun n:Nat=>(n:Int)),k+cs.length):=by
 intro cs;induction cs with
 | nil =>
   intro f k l hA _ hne _ _ _ _;have h0:(A9 toks k).1=[]:=hA.post;have hl:decide (l.length<2)=false:=decide_eq_false fun h=>by simp at hne;omega
   cases f with
   | zero=>simp [Dv]
   | succ f =>
     unfold Dv;rw [hl,h0,if_neg (by simp)];simp
 | cons n cs ih =>
   intro f k l hA hf h2 hw hnd gB hlen;obtain ⟨f,rfl⟩:∃ g,f=g+1:=⟨f-1,by simp at hf;omega⟩
   have h0:(A9 toks k).1=dcN n:=hA.head;have hw0:=hw n (List.mem_cons_self ..);unfold Dv;simp only [List.length_cons] at hlen hf h2;rw [OC (n:=n) h0 hw0.2 om (by simpa using gB n (List.mem_cons_self ..)),h0,if_pos (by simp [RZ]),C2];dsimp only;rw [if_neg om];rw [ih f (k+1) (l++[(n:Int)]) hA.next om (by simp;omega) (fun x hx=>hw x (List.mem_cons_of_mem _ hx)) (List.nodup_cons.1 hnd).2 ?_ (by simp;omega)]
   ·simp;omega
   ·intro x hx hm;rcases List.mem_append.1 hm with hm|hm
    ·exact gB x (List.mem_cons_of_mem _ hx) hm
    ·rw [List.mem_singleton] at hm;have:x=n:=om;subst this;exact (List.nodup_cons.1 hnd).1 hx
theorem At.room {ts:List By}(h:At toks k ts [[]]):ts.length<=toks.length-k:=by
 have:=congrArg List.length (show _=_ from h);simp at this;omega
theorem cY {ts:List By} (h:At toks k ts [[]]) (h0:T.E9=[]) (h1:ts≠[]) (h2:∀ w∈ts,(w=Di\/Y0 w=true)) (h3:ts.Nodup) (h4:ts.length<=12):Rn toks T k= .ok ({ T with E9:=ts },k+ts.length):=by
 unfold Rn;rw [aY ts _ k T h h.room (fun e=>absurd e h1) h2 h3 (by rw [h0];simp) (by rw [h0];simpa using h4),h0];rfl
theorem VJ {cs:List Nat} (h:At toks k (cs.map dcN) [[]]) (h2:2<=cs.length) (h1:∀ n∈cs,1<=n/\n<=1000000000) (h3:cs.Nodup) (h4:cs.length<=12):Iy toks T k= .ok ({ T with C3:=T.C3++[cs.map (fun n:Nat=>(n:Int))] },k+cs.length):=by
 unfold Iy;have:=h.room;rw [List.length_map] at this;rw [UJ cs _ k [] h this (by simpa using h2) h1 h3 (by simp) (by simpa using h4),C2];rfl
end
end Go.Proofs.T
