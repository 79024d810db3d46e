/- Numbers of formulas, one by one. -/
import Derived.Test.YtbcanmagihejhaaGreatDoorPA
import Derived.Test.YtbcanmagihejhaaGreatDoorRC
import Derived.Test.YtbcanmagihejhaaGreatDoorTH
set_option linter.unusedSimpArgs false
set_option linter.unusedVariables false
namespace Go.Proofs.T
open Go Go.Ab
set_option maxRecDepth 100000
noncomputable def decV (s:By):Option (Int×Int) :=
 if (numB (cutS s).1&& !sufB (cutS s).2)=true then
  if (decide (valN (cutS s).1<=1000000000)&&decide ((cutS s).2.length<=6)&&(decide (valN (cutS s).1<1000000000)||decide ((cutS s).2=[])))=true then
   some ((decN (valN (cutS s).1) (cutS s).2 / Nat.gcd (decN (valN (cutS s).1) (cutS s).2) (10 ^ (cutS s).2.length):Nat),(10 ^ (cutS s).2.length / Nat.gcd (decN (valN (cutS s).1) (cutS s).2) (10 ^ (cutS s).2.length):Nat))
  else none
 else none
theorem decS_of {s:By}{n d:Int}(h:decV s=some (n,d)) (toks:List Tok) (k p:Nat) (hs:(tokA toks k).1=s):decS toks k p= .ok (.mk numB3 n d [] [],1,k+1,p+1):=by
 unfold decS
 rw [hs]
 unfold decV at h
 split at h
 ·rename_i h1
  rw [if_pos h1]
  split at h
  ·rename_i h2
   rw [if_pos h2]
   cases h
   rfl
  ·cases h
 ·cases h
def lexC (s:By):Bool:=(!s.isEmpty&&s.all (on digB))||(!(s.takeWhile fun b=>b != 46).isEmpty&&(s.takeWhile fun b=>b != 46).all (on digB)&&decide ((s.dropWhile fun b=>b != 46).take 1=[46])&& !(s.dropWhile fun b=>b != 46).tail.isEmpty&&(s.dropWhile fun b=>b != 46).tail.all (on digB))
theorem lexC_ok {s:By}(h:lexC s=true):(∃ c w,s=c::w/\(c::w).all (on digB)=true)\/∃ c w x v,s=c::w++46::x::v/\(c::w).all (on digB)=true/\(x::v).all (on digB)=true:=by
 unfold lexC at h
 rw [Bool.or_eq_true] at h
 rcases h with h|h
 ·rw [Bool.and_eq_true] at h
  cases s with
  | nil=>cases h.1
  | cons c w=>exact .inl ⟨c,w,rfl,h.2⟩
 ·have e:=(List.takeWhile_append_dropWhile (p:=fun b:UInt8=>b != 46) (l:=s)).symm
  generalize (s.takeWhile fun b=>b != 46)=a at h e
  generalize (s.dropWhile fun b=>b != 46)=b at h e
  simp only [Bool.and_eq_true] at h
  obtain ⟨⟨⟨⟨h1,h2⟩,h3⟩,h4⟩,h5⟩:=h
  cases a with
  | nil=>cases h1
  | cons c w =>
    cases b with
    | nil=>cases h4
    | cons y b =>
      have h3:=of_decide_eq_true h3
      cases b with
      | nil=>cases h4
      | cons x v =>
        cases h3
        exact .inr ⟨c,w,x,v,e,h2,h5⟩
noncomputable def numC (n d:Int):Bool:=decide (-1000000000<n)&&decide (n<=1000000000*d)&&decide (1<=d)&&decide (d<1000000000)&&decide (Int.gcd n d=1)&&decide (0<=n)&&decide ((1000000:Int) % d=0)&&lexC (deT n d)&&decide (decV (deT n d)=some (n,d))&&decide ((deT n d).length<=7)
theorem numC_ok {n d:Int}(h:numC n d=true):NumOk n d/\(deT n d).length<=7:=by
 unfold numC at h
 simp only [Bool.and_eq_true,decide_eq_true_eq] at h
 obtain ⟨⟨⟨⟨⟨⟨⟨⟨⟨h1,h2⟩,h3⟩,h4⟩,h5⟩,h6⟩,h7⟩,h8⟩,h9⟩,h10⟩:=h
 exact ⟨⟨⟨h1,h2,h3,h4,h5⟩,h6,h7,lexC_ok h8,fun toks k p hs=>decS_of h9 toks k p hs⟩,h10⟩
def mden:List Int:=[1,2,4,10,100]
theorem num_all:((List.range 30).all fun n=>mden.all fun d=>numC (qn n d) (qd n d))=true:=by kernel_rfl
theorem num_at {n:Nat}{d:Int}(h:n<30) (hd:d∈mden):NumOk (qn n d) (qd n d)/\(deT (qn n d) (qd n d)).length<=7 :=
 numC_ok (List.all_eq_true.1 (List.all_eq_true.1 num_all n (List.mem_range.2 h)) d hd)
theorem mden_at {x:Nat}(h:(x:Int)<6):∃ d,sub ([.int .i64 1,.int .i64 1,.int .i64 2,.int .i64 4,.int .i64 10,.int .i64 100]:List Value) x 1=some [.int .i64 d]/\d∈mden:=by
 have:x=0\/x=1\/x=2\/x=3\/x=4\/x=5:=om
 rcases this with rfl|rfl|rfl|rfl|rfl|rfl
 ·exact ⟨1,rfl,by decide⟩
 ·exact ⟨1,rfl,by decide⟩
 ·exact ⟨2,rfl,by decide⟩
 ·exact ⟨4,rfl,by decide⟩
 ·exact ⟨10,rfl,by decide⟩
 ·exact ⟨100,rfl,by decide⟩
theorem mden_bd {d:Int}(h:d∈mden):1<=d/\d<=100:=by
 simp only [mden,List.mem_cons,List.not_mem_nil,or_false] at h
 omega
end Go.Proofs.T
namespace Go.Proofs.T
open Go Go.Ab
set_option maxRecDepth 100000
def Nd (r:By):Prop:=∀ b l,r=b::l->on digB b=false
theorem nd_cons {b:UInt8}{l:By}(h:on digB b=false):Nd (b::l):=fun b' l' e=>by cases e;exact h
theorem runs_nd {r:By}(h:Nd r) (c:Nat):runsOk r c=runsOk r 0:=by
 cases r with
 | nil=>rfl
 | cons b l=>rw [runsOk_cons,runsOk_cons,h b l rfl];rfl
theorem runs_sep {b:UInt8}(h:on digB b=false){r:By}{c:Nat}:runsOk (b::r) c=runsOk r 0:=by
 rw [runsOk_cons,h];rfl
theorem runs_short {r:By}(hr:Nd r) (h:runsOk r 0=true):∀ (s:By) (c:Nat),c+s.length<=18->runsOk (s++r) c=true:=by
 intro s
 induction s with
 | nil=>intro c _;rw [List.nil_append,runs_nd hr];exact h
 | cons b s ih =>
   intro c hc
   rw [List.length_cons] at hc
   rw [List.cons_append,runsOk_cons]
   cases on digB b with
   | false=>exact ih 0 om
   | true=>rw [cond_true,Bool.and_eq_true];exact ⟨by rw [Nat.ble_eq];omega,ih (c+1) om⟩
def Rs (s:By):Prop:=∀ r,Nd r->runsOk r 0=true->runsOk (s++r) 0=true
theorem rs_short {s:By}(h:s.length<=18):Rs s:=fun r h1 h2=>runs_short h1 h2 s 0 om
theorem rs_pre {b:UInt8}{s:By}(h:on digB b=false) (hs:Rs s):Rs (b::s):=fun r h1 h2=>by rw [List.cons_append,runs_sep h];exact hs r h1 h2
theorem rs_post {b:UInt8}{s:By}(h:on digB b=false) (hs:Rs s):Rs (s++[b]):=fun r h1 h2=>by
 rw [List.append_assoc]
 exact hs _ (nd_cons h) (by show runsOk (b::r) 0=true;rw [runs_sep h];exact h2)
theorem rs_mid {b:UInt8}{s t:By}(h:on digB b=false) (hs:Rs s) (ht:Rs t):Rs (s++b::t):=fun r h1 h2=>by
 rw [List.append_assoc,List.cons_append]
 exact hs _ (nd_cons h) (by rw [runs_sep h];exact ht r h1 h2)
theorem rs_par {b:Bool}{s:By}(h:Rs s):Rs (par b s):=by
 unfold par
 split
 ·exact rs_pre (by rfl) (rs_post (by rfl) h)
 ·exact h
theorem par_le {b:Bool}{s:By}{n:Nat}(h:s.length+2<=n):(par b s).length<=n:=by
 unfold par
 split
 ·simp only [List.length_cons,List.length_append,List.length_nil];omega
 ·omega
structure FSw (k m:Nat) (e:Ex):Prop where
 fw:FW k m e
 len:∀ f least,k<=f->(showF f least e).length<=9*m
 rs:∀ f least,k<=f->Rs (showF f least e)
theorem fs_num {n d:Int}(h:NumOk n d) (hl:(deT n d).length<=7):FSw 1 1 (.mk numB3 n d [] []):=by
 refine ⟨.num h,fun f least hf=>?_,fun f least hf=>?_⟩ <;> obtain ⟨f,rfl⟩:∃ g,f=g+1:=⟨f-1,om⟩ <;> unfold showF <;> rw [if_pos rfl]
 ·exact par_le om
 ·exact rs_par (rs_short om)
theorem fs_name {nm:By}(h1:nameB nm=true) (h2:nm≠minB) (h3:nm≠maxB) (hl:nm.length<=7):FSw 1 1 (.mk nmB 0 0 nm []):=by
 refine ⟨.name h1 h2 h3,fun f least hf=>?_,fun f least hf=>?_⟩ <;> obtain ⟨f,rfl⟩:∃ g,f=g+1:=⟨f-1,om⟩ <;> unfold showF <;> rw [if_neg (by decide),if_pos rfl]
 ·exact par_le om
 ·exact rs_par (rs_short om)
theorem fs_bin {k j m i:Nat}{o:By}{a b:Ex}(h:o=[43]\/o=[45]\/o=[42]\/o=[47]) (ha:FSw k m a) (hb:FSw j i b):FSw (1+max k j) (m+i+1) (.mk o 0 0 [] [a,b]):=by
 have hn:o≠numB3/\o≠nmB/\¬ (o=minB\/o=maxB):=by rcases h with rfl|rfl|rfl|rfl <;> decide
 obtain ⟨c,rfl,hc⟩:∃ c,o=[c]/\on digB c=false:=by rcases h with rfl|rfl|rfl|rfl <;> exact ⟨_,rfl,by rfl⟩
 refine ⟨.bin h ha.fw hb.fw,fun f least hf=>?_,fun f least hf=>?_⟩ <;> obtain ⟨f,rfl⟩:∃ g,f=g+1:=⟨f-1,om⟩ <;> unfold showF <;> rw [if_neg hn.1,if_neg hn.2.1] <;> dsimp only <;> rw [if_neg hn.2.2]
 ·have l1:=ha.len f (lvl [c]) om
  have l2:=hb.len f (lvl [c]+1) om
  refine par_le ?_
  simp only [List.length_cons,List.length_append,List.length_nil]
  omega
 ·have l1:=ha.rs f (lvl [c]) om
  have l2:=hb.rs f (lvl [c]+1) om
  exact rs_par (rs_mid (by rfl) l1 (rs_pre hc (rs_pre (by rfl) l2)))
theorem fs_mm {k j m i:Nat}{o:By}{a b:Ex}(h:o=minB\/o=maxB) (ha:FSw k m a) (hb:FSw j i b):FSw (1+max k j) (m+i+1) (.mk o 0 0 [] [a,b]):=by
 have hn:o≠numB3/\o≠nmB:=by rcases h with rfl|rfl <;> decide
 have hl:o.length=3:=by rcases h with rfl|rfl <;> rfl
 refine ⟨.mm h ha.fw hb.fw,fun f least hf=>?_,fun f least hf=>?_⟩ <;> obtain ⟨f,rfl⟩:∃ g,f=g+1:=⟨f-1,om⟩ <;> unfold showF <;> rw [if_neg hn.1,if_neg hn.2] <;> dsimp only <;> rw [if_pos h]
 ·have l1:=ha.len f 0 om
  have l2:=hb.len f 0 om
  refine par_le ?_
  simp only [List.length_cons,List.length_append,List.length_nil]
  omega
 ·have l1:=ha.rs f 0 om
  have l2:=hb.rs f 0 om
  refine rs_par (rs_mid (by rfl) (rs_short om) ?_)
  exact rs_mid (by rfl) l1 (rs_pre (by rfl) (rs_post (by rfl) l2))
end Go.Proofs.T
