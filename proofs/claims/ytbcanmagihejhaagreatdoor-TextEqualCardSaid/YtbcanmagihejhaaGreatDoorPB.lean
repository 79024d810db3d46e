/- XY of AS, one by one. -/
import Derived.Test.YtbcanmagihejhaaGreatDoorPA
import Derived.Test.YtbcanmagihejhaaGreatDoorRC
import Derived.Test.YtbcanmagihejhaaGreatDoorTJ
set_option linter.unusedSimpArgs false
set_option linter.unusedVariables false
set_option maxHeartbeats 32000000
set_option maxRecDepth 100000
namespace Go.Proofs.T
open Go Go.Ab
noncomputable def qk (s:By):Option (Int×Int) :=
 if (FZ (AU s).1&& !cQ (AU s).2)=true then
  if (decide (y9 (AU s).1<=1000000000)&&decide ((AU s).2.length<=6)&&(decide (y9 (AU s).1<1000000000)||decide ((AU s).2=[])))=true then
   some ((Ak (y9 (AU s).1) (AU s).2 / Nat.gcd (Ak (y9 (AU s).1) (AU s).2) (10 ^ (AU s).2.length):Nat),(10 ^ (AU s).2.length / Nat.gcd (Ak (y9 (AU s).1) (AU s).2) (10 ^ (AU s).2.length):Nat))
  else none
 else none
theorem jn {s:By}{n d:Int}(h:qk s=some (n,d)) (toks:List Tok) (k p:Nat) (hs:(A9 toks k).1=s):SY toks k p= .ok (.mk R5 n d [] [],1,k+1,p+1):=by
 unfold SY;rw [hs];unfold qk at h;split at h
 ·rename_i h1;rw [if_pos h1];split at h
  ·rename_i h2;rw [if_pos h2];cases h;rfl
  ·cases h
 ·cases h
def qm (s:By):Bool:=(!s.isEmpty&&s.all (on J9))||(!(s.takeWhile fun b=>b != 46).isEmpty&&(s.takeWhile fun b=>b != 46).all (on J9)&&decide ((s.dropWhile fun b=>b != 46).take 1=[46])&& !(s.dropWhile fun b=>b != 46).tail.isEmpty&&(s.dropWhile fun b=>b != 46).tail.all (on J9))
theorem jo {s:By}(h:qm s=true):(∃ c w,s=c::w/\(c::w).all (on J9)=true)\/∃ c w x v,s=c::w++46::x::v/\(c::w).all (on J9)=true/\(x::v).all (on J9)=true:=by
 unfold qm at h;rw [Bool.or_eq_true] at h;rcases h with h|h
 ·rw [Bool.and_eq_true] at h;cases s with
  | nil=>cases h.1
  | cons c w=>exact .inl ⟨c,w,rfl,h.2⟩
 ·have e:=(List.takeWhile_append_dropWhile (p:=fun b:UInt8=>b != 46) (l:=s)).symm;generalize (s.takeWhile fun b=>b != 46)=a at h e;generalize (s.dropWhile fun b=>b != 46)=b at h e;simp only [Bool.and_eq_true] at h;obtain ⟨⟨⟨⟨h1,h2⟩,h3⟩,h4⟩,h5⟩:=h;cases a with
  | nil=>cases h1
  | cons c w =>
    cases b with
    | nil=>cases h4
    | cons y b =>
      have h3:=of_decide_eq_true h3;cases b with
      | nil=>cases h4
      | cons x v =>
        cases h3;exact .inr ⟨c,w,x,v,e,h2,h5⟩
noncomputable def qo (n d:Int):Bool:=decide (-1000000000<n)&&decide (n<1000000000)&&decide (1<=d)&&decide (d<1000000000)&&decide (Int.gcd n d=1)&&decide (0<=n)&&decide ((1000000:Int) % d=0)&&qm (deT n d)&&decide (qk (deT n d)=some (n,d))&&decide ((deT n d).length<=7)
theorem jq {n d:Int}(h:qo n d=true):Mh n d/\(deT n d).length<=7:=by
 unfold qo at h;simp only [Bool.and_eq_true,decide_eq_true_eq] at h;obtain ⟨⟨⟨⟨⟨⟨⟨⟨⟨h1,h2⟩,h3⟩,h4⟩,h5⟩,h6⟩,h7⟩,h8⟩,h9⟩,h10⟩:=h;exact ⟨⟨⟨h1,h2,h3,h4,h5⟩,h6,h7,jo h8,fun toks k p hs=>jn h9 toks k p hs⟩,h10⟩
def cR:List Int:=[1,2,4,10,100]
theorem jr:((List.range 30).all fun n=>cR.all fun d=>qo (qn n d) (qd n d))=true:=by kernel_rfl
theorem qp {n:Nat}{d:Int}(h:n<30) (hd:d∈cR):Mh (qn n d) (qd n d)/\(deT (qn n d) (qd n d)).length<=7 :=
 jq (List.all_eq_true.1 (List.all_eq_true.1 jr n (List.mem_range.2 h)) d hd)
theorem js {x:Nat}(h:(x:Int)<6):∃ d,sub ([.int .i64 1,.int .i64 1,.int .i64 2,.int .i64 4,.int .i64 10,.int .i64 100]:List Value) x 1=some [.int .i64 d]/\d∈cR:=by
 have:x=0\/x=1\/x=2\/x=3\/x=4\/x=5:=om;rcases this with rfl|rfl|rfl|rfl|rfl|rfl
 ·exact ⟨1,rfl,by decide⟩
 ·exact ⟨1,rfl,by decide⟩
 ·exact ⟨2,rfl,by decide⟩
 ·exact ⟨4,rfl,by decide⟩
 ·exact ⟨10,rfl,by decide⟩
 ·exact ⟨100,rfl,by decide⟩
theorem jt {d:Int}(h:d∈cR):1<=d/\d<=100:=by
 simp only [cR,List.mem_cons,List.not_mem_nil,or_false] at h;omega
def Nd (r:By):Prop:=∀ b l,r=b::l->on J9 b=false
theorem YR {b:UInt8}{l:By}(h:on J9 b=false):Nd (b::l):=fun b' l' e=>by cases e;exact h
theorem rD:Nd []:=fun b l e=>by cases e
theorem mV {r:By}(h:Nd r) (c:Nat):Aa r c=Aa r 0:=by
 cases r with
 | nil=>rfl
 | cons b l=>rw [CY,CY,h b l rfl];rfl
theorem Nx {b:UInt8}(h:on J9 b=false){r:By}{c:Nat}:Aa (b::r) c=Aa r 0:=by
 rw [CY,h];rfl
theorem WS {r:By}(hr:Nd r) (h:Aa r 0=true):∀ (s:By) (c:Nat),c+s.length<=18->Aa (s++r) c=true:=by
 intro s;induction s with
 | nil=>intro c _;rw [List.nil_append,mV hr];exact h
 | cons b s ih =>
   intro c hc;rw [List.length_cons] at hc;rw [List.cons_append,CY];cases on J9 b with
   | false=>exact ih 0 om
   | true=>rw [cond_true,Bool.and_eq_true];exact ⟨by rw [Nat.ble_eq];omega,ih (c+1) om⟩
def Rs (s:By):Prop:=∀ r,Nd r->Aa r 0=true->Aa (s++r) 0=true
theorem Gr {s:By}(h:s.length<=18):Rs s:=fun r h1 h2=>WS h1 h2 s 0 om
theorem Rf {b:UInt8}{s:By}(h:on J9 b=false) (hs:Rs s):Rs (b::s):=fun r h1 h2=>by rw [List.cons_append,Nx h];exact hs r h1 h2
theorem YS {b:UInt8}{s:By}(h:on J9 b=false) (hs:Rs s):Rs (s++[b]):=fun r h1 h2=>by
 rw [List.append_assoc];exact hs _ (YR h) (by show Aa (b::r) 0=true;rw [Nx h];exact h2)
theorem KW {b:UInt8}{s t:By}(h:on J9 b=false) (hs:Rs s) (ht:Rs t):Rs (s++b::t):=fun r h1 h2=>by
 rw [List.append_assoc,List.cons_append];exact hs _ (YR h) (by rw [Nx h];exact ht r h1 h2)
theorem cy:Rs []:=fun r _ h=>h
theorem Rg {b:Bool}{s:By}(h:Rs s):Rs (par b s):=by
 unfold par;split
 ·exact Rf (by rfl) (YS (by rfl) h)
 ·exact h
theorem Rh {b:Bool}{s:By}{n:Nat}(h:s.length+2<=n):(par b s).length<=n:=by
 unfold par;split
 ·simp only [List.length_cons,List.length_append,List.length_nil];omega
 ·omega
structure FSw (k m:Nat) (e:Ex):Prop where
 fw:FW k m e
 len:∀ f least,k<=f->(N4 f least e).length<=9*m
 rs:∀ f least,k<=f->Rs (N4 f least e)
theorem rX {n d:Int}(h:Mh n d) (hl:(deT n d).length<=7):FSw 1 1 (.mk R5 n d [] []):=by
 refine ⟨.num h,fun f least hf=>?_,fun f least hf=>?_⟩ <;> obtain ⟨f,rfl⟩:∃ g,f=g+1:=⟨f-1,om⟩ <;> unfold N4 <;> rw [if_pos rfl]
 ·exact Rh om
 ·exact Rg (Gr om)
theorem kP {nm:By}(h1:AL nm=true) (h2:nm≠Dt) (h3:nm≠EZ) (hl:nm.length<=7):FSw 1 1 (.mk nmB 0 0 nm []):=by
 refine ⟨.name h1 h2 h3,fun f least hf=>?_,fun f least hf=>?_⟩ <;> obtain ⟨f,rfl⟩:∃ g,f=g+1:=⟨f-1,om⟩ <;> unfold N4 <;> rw [if_neg (by decide),if_pos rfl]
 ·exact Rh om
 ·exact Rg (Gr om)
theorem rY {k j m i:Nat}{o:By}{a b:Ex}(h:o=[43]\/o=[45]\/o=[42]\/o=[47]) (ha:FSw k m a) (hb:FSw j i b):FSw (1+max k j) (m+i+1) (.mk o 0 0 [] [a,b]):=by
 have hn:o≠R5/\o≠nmB/\¬ (o=Dt\/o=EZ):=by rcases h with rfl|rfl|rfl|rfl <;> decide
 obtain ⟨c,rfl,hc⟩:∃ c,o=[c]/\on J9 c=false:=by rcases h with rfl|rfl|rfl|rfl <;> exact ⟨_,rfl,by rfl⟩
 refine ⟨.bin h ha.fw hb.fw,fun f least hf=>?_,fun f least hf=>?_⟩ <;> obtain ⟨f,rfl⟩:∃ g,f=g+1:=⟨f-1,om⟩ <;> unfold N4 <;> rw [if_neg hn.1,if_neg hn.2.1] <;> dsimp only <;> rw [if_neg hn.2.2]
 ·have l1:=ha.len f (lvl [c]) om;have l2:=hb.len f (lvl [c]+1) om;refine Rh ?_;simp only [List.length_cons,List.length_append,List.length_nil];omega
 ·have l1:=ha.rs f (lvl [c]) om;have l2:=hb.rs f (lvl [c]+1) om;exact Rg (KW (by rfl) l1 (Rf hc (Rf (by rfl) l2)))
theorem xQ {k j m i:Nat}{o:By}{a b:Ex}(h:o=Dt\/o=EZ) (ha:FSw k m a) (hb:FSw j i b):FSw (1+max k j) (m+i+1) (.mk o 0 0 [] [a,b]):=by
 have hn:o≠R5/\o≠nmB:=by rcases h with rfl|rfl <;> decide
 have hl:o.length=3:=by rcases h with rfl|rfl <;> rfl
 refine ⟨.mm h ha.fw hb.fw,fun f least hf=>?_,fun f least hf=>?_⟩ <;> obtain ⟨f,rfl⟩:∃ g,f=g+1:=⟨f-1,om⟩ <;> unfold N4 <;> rw [if_neg hn.1,if_neg hn.2] <;> dsimp only <;> rw [if_pos h]
 ·have l1:=ha.len f 0 om;have l2:=hb.len f 0 om;refine Rh ?_;simp only [List.length_cons,List.length_append,List.length_nil];omega
 ·have l1:=ha.rs f 0 om;have l2:=hb.rs f 0 om;refine Rg (KW (by rfl) (Gr om) ?_);exact KW (by rfl) l1 (Rf (by rfl) (YS (by rfl) l2))
end Go.Proofs.T
