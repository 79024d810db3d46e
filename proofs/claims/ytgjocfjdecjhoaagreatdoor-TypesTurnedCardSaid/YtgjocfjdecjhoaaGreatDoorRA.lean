/- The tokens of a Tc text, without Iu As2. -/
import Derived.Test.YtgjocfjdecjhoaaGreatDoorTH
set_option linter.unusedSimpArgs false
set_option linter.unusedVariables false
set_option linter.defProp false
set_option maxHeartbeats 32000000
set_option maxRecDepth 100000
namespace Go.Proofs.T
open Go Go.Ab
section
variable {Z:St}{n:Int}{s:By}
def RH:Ev (gO 171 [.int .u8 n] Z) (fun r=>r=⟨false,.bool (Eh n),Z⟩) ⟨⟩:=by
 refine C9 Tryz.func171 rfl rfl ?_;unfold Eh;cases a:decide (n<97)<;>cases b:decide (122<n)<;>cases c:decide (n<65)<;>cases d:decide (90<n)<;>refine gS1 (aI a (aI b (aI c (aI d (a3N @D9 @F4 @Tryz.results171))))) ?_<;>rfl
def jm:Ev (gO 203 [.int .u8 n] Z) (fun r=>r=⟨false,.bool (O6 n),Z⟩) ⟨⟩:=by
 refine C9 Tryz.func203 rfl rfl ?_;unfold O6;cases a:decide (n<48)<;>cases b:decide (57<n)<;>refine gS1 (aI a (aI b @Tryz.results203)) ?_<;>rfl
def YR:Ev (gO 170 [.int .u8 n] Z) (fun r=>r=⟨false,.bool (ED n),Z⟩) ⟨⟩:=by
 refine C9 Tryz.func170 rfl rfl ?_;refine gS ?_;refine RH.mono ?_;rintro r rfl;refine gS ?_;refine jm.mono ?_;rintro r rfl;unfold ED;cases a:Eh n<;>cases b:O6 n<;>cases c:decide (n=95)<;>refine gS1 (aI a (aI b (aI c @Tryz.results170))) ?_<;>rfl
def DQ (s:By):Bool:=decide (0<s.length)&&decide (s.length<=30)&&(s.all fun c=>ED c.toNat)&&(match s with|c::_=>Eh c.toNat|[]=>false)
def Lh:Ev (gO 121 [str s] Z) (fun r=>r=⟨false,.bool (DQ s),Z⟩) ⟨⟩:=by
 refine C9 Tryz.func121 rfl rfl ?_;by_cases h1:s.length<1
 ·have e1:decide ((s.length:Int)<1)=true:=by rw[z3z];omega
  have hb:DQ s=false:=by unfold DQ;rw[z4z (show ¬ 0<s.length by omega)];rfl
  refine gS1 (aI e1 (aI hb @Tryz.results121)) ?_;try exact⟨⟩
 have e1:decide ((s.length:Int)<1)=false:=by rw[VR];omega
 by_cases h2:30<s.length
 ·have e2:decide (30<(s.length:Int))=true:=by rw[z3z];omega
  have hb:DQ s=false:=by unfold DQ;rw[z4z (show ¬ s.length<=30 by omega)];simp
  refine gS1 (aI e1 (aI e2 (aI hb @Tryz.results121))) ?_;try exact⟨⟩
 have e2:decide (30<(s.length:Int))=false:=by rw[VR];omega
 refine gS1 (aI e1 e2) ?_
 refine I4 s.length (fun k fr Z'=>fr.get 3=some (.int .i64 k)/\fr.get 0=some (str s)/\Z'=Z/\(∀ i c,i<k->s[i]? =some c->ED c.toNat=true)/\(∀ c,0<k->s[0]? =some c->Eh c.toNat=true))
  (fun r=>(∃ fr,r=⟨.exit 0,fr,Z⟩/\DQ s=true)\/∃ fr,r=⟨.ret,fr,Z⟩/\fr.get 2=some (.bool false)/\DQ s=false) ?_ ?_ ?_ ?_
 ·exact⟨fR,fR,rfl,fun i c h=>om,fun c h=>om⟩
 ·rintro k fr Z' hk ⟨g3,g0,rfl,ha,hb⟩;have hc:=L9 hk;obtain⟨c,hck⟩:=H5 hk;have hs:=Pa hck;refine gS1 (aI g3 (aI g0 (aI hc (aI hs @FY)))) ?_;refine YR.mono ?_;rintro r rfl;refine gS1 (aI g3 (aI g0 (aI hs @FY))) ?_;refine RH.mono ?_;rintro r rfl;have no:∀ x,(∀ d∈s,ED d.toNat=true)=x->True:=fun _ _=>trivial;cases q1:ED c.toNat with
  | false=>
    have hn:DQ s=false:=by
     unfold DQ;have:(s.all fun c=>ED c.toNat)=false:=by
      rw[oZ];intro h;rw[GJ]at h;have:=h c (Bs hck);rw[q1]at this;cases this
     rw[this];simp
    refine gS1 (aI g3 (aI g0 q1)) ?_;exact Or.inr ⟨_,rfl,fR,hn⟩
  | true=>
    by_cases k0:k=0
    ·subst k0;have e3:decide (((0:Nat):Int)=0)=true:=by decide
     cases q2:Eh c.toNat with
     | false=>
       have hn:DQ s=false:=by
        cases s with
        |nil=>rfl
        |cons d s=>cases hck;unfold DQ;simp only[q2,NO]
       refine gS1 (aI g3 (aI g0 (aI q1 (aI q2 e3)))) ?_;exact Or.inr ⟨_,rfl,fR,hn⟩
     | true=>
       refine gS1 (aI g3 (aI g0 (aI q1 (aI q2 e3)))) ?_;refine⟨fR,fR1 g0,by trivial,fun i d hi hd=>?_,fun d _ hd=>?_⟩
       ·obtain rfl:i=0:=om;rw[hck]at hd;cases hd;exact q1
       ·rw[hck]at hd;cases hd;exact q2
    ·have e3:decide ((k:Int)=0)=false:=by rw[VR];omega
     refine gS1 (aI g3 (aI g0 (aI q1 e3))) ?_;refine⟨fR,fR1 g0,by trivial,fun i d hi hd=>?_,fun d _ hd=>hb d om hd⟩;by_cases e:i=k
     ·subst e;rw[hck]at hd;cases hd;exact q1
     ·exact ha i d om hd
 ·rintro fr Z' ⟨g3,g0,rfl,ha,hb⟩;refine gS1 (aI g3 g0) ?_;refine Or.inl ⟨_,rfl,?_⟩;unfold DQ;rw[Be (show 0<s.length by omega),Be (show s.length<=30 by omega)];have:(s.all fun c=>ED c.toNat)=true:=by
   rw[GJ];intro c hc;obtain⟨i,hi,he⟩:=List.mem_iff_getElem.1 hc;exact ha i c hi (by rw[List.getElem?_eq_getElem hi,he])
  rw[this];cases s with
  |nil=>simp at h1
  |cons c s=>simpa using hb c (by simp) rfl
 rintro r (⟨fr,rfl,hn⟩|⟨fr,rfl,g2,hn⟩)
 ·refine gS1 (aI hn @Tryz.results121) ?_;try exact⟨⟩
 ·refine gS1 (aI g2 (aI hn @Tryz.results121)) ?_;try exact⟨⟩
def NN (s:By):Bool:=DQ s&& !decide (s=[112,114,105,99,101])&& !decide (s=[108,111,119])&& !decide (s=[109,105,110])&& !decide (s=[109,97,120])
def LG:Ev (gO 172 [str s] Z) (fun r=>r=⟨false,.bool (NN s),Z⟩) ⟨⟩:=by
 refine C9 Tryz.func172 rfl rfl ?_;refine gS ?_;refine Lh.mono ?_;rintro r rfl;unfold NN;cases a:DQ s
 ·refine gS1 (aI a (a3N @D9 @F4 @Tryz.results172)) ?_;rfl
 cases b:decide (s=[112,114,105,99,101])
 case true=>refine gS1 (aI a (aI b (a3N @D9 @F4 @Tryz.results172))) ?_;rfl
 cases c:decide (s=[108,111,119])
 case true=>refine gS1 (aI a (aI b (aI c (a3N @D9 @F4 @Tryz.results172)))) ?_;rfl
 cases d:decide (s=[109,105,110])
 case true=>refine gS1 (aI a (aI b (aI c (aI d (a3N @D9 @F4 @Tryz.results172))))) ?_;rfl
 cases e:decide (s=[109,97,120])<;>refine gS1 (aI a (aI b (aI c (aI d (aI e (a3N @D9 @F4 @Tryz.results172)))))) ?_<;>rfl
end
def Lg (s:By):Nat:=match s with
 | []=>0
 |c::_=>JG s 0 c
def PO:Nat->By->List By
 |0,_=>[]
 | f+1,s=>match s with
   | []=>[]
   |c::r=>if c=32 then PO f r else s.take (Lg s)::PO f (s.drop (Lg s))
theorem Tv {p:Int->Bool}{s:By}{k m:Nat}:BI p s (k+m)=BI p (s.drop k) m:=by unfold BI;rw[List.drop_drop]
theorem RG {p:Int->Bool}{s:By}{k:Nat}:BI p s k=BI p (s.drop k) 0:=Tv (m:=0)
theorem jh {s:By}{k:Nat}{c:UInt8}(hk:k<s.length):JG s k c=k+JG (s.drop k) 0 c:=by
 have e1:∀ R,min (k+R+1) s.length=k+min (R+1) (s.length-k):=fun R=>om;unfold JG;rw[@RG ED s k,@RG O6 s k];simp only[Nat.zero_add];generalize BI O6 (s.drop k) 0=R;rw[e1,@Tv O6 s k,List.getElem?_drop,List.length_drop];by_cases h1:on Eh c=true
 ·rw[if_pos h1,if_pos h1]
 ·rw[if_neg h1,if_neg h1];by_cases h2:on O6 c=true
  ·rw[if_pos h2,if_pos h2];have d1:decide (k+R<s.length)=decide (R<s.length-k):=by rw[Bool.eq_iff_iff,decide_eq_true_iff,decide_eq_true_iff];omega
   generalize BI O6 (s.drop k) (min (R+1) (s.length-k))=M;have d2:decide (k+R+1<k+min (R+1) (s.length-k)+M)=decide (R+1<min (R+1) (s.length-k)+M):=by rw[Bool.eq_iff_iff,decide_eq_true_iff,decide_eq_true_iff];omega
   rw[d1,d2];split
   ·omega
   ·rfl
  ·rw[if_neg h2,if_neg h2]
theorem AM5 {s:By}{a:Nat}:∀ (f k:Nat),(fT s a f k).map Prod.fst=PO f (s.drop k):=by
 intro f;induction f with
 |zero=>intro k;rfl
 | succ f ih=>
   intro k;unfold fT;rcases Nat.lt_or_ge k s.length with hk|hk
   ·have hD:s.drop k=s[k]::s.drop (k+1):=List.drop_eq_getElem_cons hk;have hl:PO (f+1) (s.drop k)=if s[k]=32 then PO f (s.drop (k+1))else(s.drop k).take (Lg (s.drop k))::PO f ((s.drop k).drop (Lg (s.drop k))):=by rw[hD];rfl
    have e:JG s k s[k]=k+Lg (s.drop k):=by rw[jh hk,hD];rfl
    rw[hl,List.getElem?_eq_getElem hk];dsimp only;by_cases hc:s[k]=32
    ·rw[if_pos hc,if_pos hc];exact ih _
    ·rw[if_neg hc,if_neg hc,List.map_cons,ih,e,show k+Lg (s.drop k)-k=Lg (s.drop k) by omega,<- List.drop_drop]
   ·rw[List.getElem?_eq_none hk,List.drop_of_length_le hk];rfl
theorem YN {c:UInt8}{r:By}:0<Lg (c::r)/\Lg (c::r)<=(c::r).length:=by
 have:=wD (s:=c::r) (k:=0) (c:=c) rfl;exact this
theorem ji:∀ (f f':Nat) (s:By),s.length<=f->s.length<=f'->PO f s=PO f' s:=by
 intro f;induction f with
 | zero=>
   intro f' s h1 _;obtain rfl:=List.eq_nil_of_length_eq_zero (Nat.le_zero.1 h1);cases f'<;>rfl
 | succ f ih=>
   intro f' s h1 h2;cases s with
   |nil=>cases f'<;>rfl
   | cons c r=>
     cases f' with
     |zero=>simp at h2
     | succ f'=>
       unfold PO;dsimp only;simp only[List.length_cons]at h1 h2;have hp:=@YN c r;by_cases hc:c=32
       ·rw[if_pos hc,if_pos hc];exact ih _ _ om om
       ·rw[if_neg hc,if_neg hc,ih f' _ (by rw[List.length_drop,List.length_cons];omega) (by rw[List.length_drop,List.length_cons];omega)]
def lex (s:By):List By:=PO s.length s
theorem jl {s:By}{a:Nat}:(YO s a).map Prod.fst=lex s++[[]]:=by
 unfold YO lex;rw[List.map_append,AM5,List.drop_zero];rfl
theorem lex_nil:lex []=[]:=rfl
theorem Nl {r:By}:lex (32::r)=lex r:=by
 unfold lex;rw[List.length_cons];rfl
theorem Pj {c:UInt8}{r:By}(h:c≠32):lex (c::r)=(c::r).take (Lg (c::r))::lex ((c::r).drop (Lg (c::r))):=by
 have hp:=@YN c r;show PO (r.length+1) (c::r)=_;unfold PO;dsimp only;rw[if_neg h];unfold lex;rw[ji r.length _ _ (by rw[List.length_drop,List.length_cons];omega) (Nat.le_refl _)]
def Stop (r:By):Prop:=∀ c t,r=c::t->on ED c=false/\c≠46
theorem FJ {p:UInt8->Bool}{w r:By}(hw:w.all p=true) (hr:∀ c t,r=c::t->p c=false):(w++r).takeWhile p=w:=by
 induction w with
 | nil=>
   cases r with
   |nil=>rfl
   |cons c t=>rw[List.nil_append,List.takeWhile_cons,hr c t rfl];rfl
 | cons c w ih=>
   rw[List.all_cons,Bool.and_eq_true]at hw;rw[List.cons_append,List.takeWhile_cons,hw.1,if_pos rfl,ih hw.2]
theorem YP {c:UInt8}{w r:By}(h1:on Eh c=true) (h2:(c::w).all (on ED)=true) (h3:Stop r):lex (c::w++r)=(c::w)::lex r:=by
 have hne:c≠32:=by rintro rfl;cases h1
 have ht:Lg (c::(w++r))=(c::w).length:=by
  show JG _ 0 c=_;unfold JG;rw[if_pos h1,Nat.zero_add];unfold BI;rw[List.drop_zero,show c::(w++r)=(c::w)++r from rfl,FJ h2 fun c t e=>(h3 c t e).1]
 rw[List.cons_append,Pj hne,ht,show c::(w++r)=(c::w)++r from rfl,List.take_left,List.drop_left]
theorem GY {c:UInt8}{r:By}(h1:on Eh c=false) (h2:on O6 c=false) (h3:c≠32):lex (c::r)=[c]::lex r:=by
 have ht:Lg (c::r)=1:=by
  show JG _ 0 c=_;unfold JG;rw[if_neg (by rw[h1];simp),if_neg (by rw[h2];simp)]
 rw[Pj h3,ht];rfl
theorem wE {c:UInt8}(h:on O6 c=true):on ED c=true:=by
 unfold on ED at *;rw[h];simp
theorem YQ {r:By}(h:Stop r):∀ c t,r=c::t->on O6 c=false:=fun c t e=>by
 cases hd:on O6 c with
 |false=>rfl
 |true=>have:=(h c t e).1;rw[wE hd]at this;cases this
theorem Vm {c:UInt8}(h:on O6 c=true):on Eh c=false:=by
 unfold on O6 Eh at *;simp only[Bool.and_eq_true,Bool.not_eq_true',decide_eq_false_iff_not]at h;have e1:decide ((c.toNat:Int)<97)=true:=by rw[decide_eq_true_iff];omega
 have e2:decide ((c.toNat:Int)<65)=true:=by rw[decide_eq_true_iff];omega
 rw[e1,e2];rfl
theorem oY {c:UInt8}(h:on O6 c=true):c≠32/\c≠46:=⟨(by rintro rfl;cases h),(by rintro rfl;cases h)⟩
theorem wF {c:UInt8}{w r:By}(h2:(c::w).all (on O6)=true) (h3:Stop r):lex (c::w++r)=(c::w)::lex r:=by
 have h1:on O6 c=true:=by rw[List.all_cons,Bool.and_eq_true]at h2;exact h2.1
 have hR:BI O6 (c::(w++r)) 0=(c::w).length:=by
  unfold BI;rw[List.drop_zero,show c::(w++r)=(c::w)++r from rfl,FJ h2 (YQ h3)]
 have ht:Lg (c::(w++r))=(c::w).length:=by
  show JG _ 0 c=_;unfold JG;rw[if_neg (by rw[Vm h1];simp),if_pos h1,Nat.zero_add,hR];have hx:decide ((c::(w++r))[(c::w).length]? =some 46)=false:=by
   rw[decide_eq_false_iff_not,show c::(w++r)=(c::w)++r from rfl,List.getElem?_append_right (Nat.le_refl _),Nat.sub_self];cases r with
   |nil=>simp
   |cons x t=>intro he;cases he;exact(h3 46 t rfl).2 rfl
  rw[hx,Bool.and_false,Bool.false_and,if_neg (by simp)]
 rw[List.cons_append,Pj (oY h1).1,ht,show c::(w++r)=(c::w)++r from rfl,List.take_left,List.drop_left]
theorem wG {c x:UInt8}{w v r:By}(h2:(c::w).all (on O6)=true) (h4:(x::v).all (on O6)=true) (h3:Stop r):lex (c::w++46::x::v++r)=(c::w++46::x::v)::lex r:=by
 have h1:on O6 c=true:=by rw[List.all_cons,Bool.and_eq_true]at h2;exact h2.1
 have e0:c::w++46::x::v++r=(c::w)++(46::((x::v)++r)):=by simp
 have hR:BI O6 ((c::w)++(46::((x::v)++r))) 0=(c::w).length:=by
  unfold BI;rw[List.drop_zero,FJ h2 (fun c t e=>by cases e;rfl)]
 have hM:BI O6 ((c::w)++(46::((x::v)++r))) ((c::w).length+1)=(x::v).length:=by
  unfold BI;rw[show(c::w)++(46::((x::v)++r))=((c::w)++[46])++((x::v)++r) by simp,List.drop_left' (by simp),FJ h4 (YQ h3)]
 have hlen:((c::w)++(46::((x::v)++r))).length=(c::w).length+1+(x::v).length+r.length:=by simp;omega
 have ht:Lg ((c::w)++(46::((x::v)++r)))=(c::w++46::x::v).length:=by
  show JG _ 0 c=_;unfold JG;rw[if_neg (by rw[Vm h1];simp),if_pos h1,Nat.zero_add,hR];rw[show min ((c::w).length+1) ((c::w)++(46::((x::v)++r))).length=(c::w).length+1 by rw[hlen];omega,hM];have hx:decide (((c::w)++(46::((x::v)++r)))[(c::w).length]? =some 46)=true:=by
   rw[decide_eq_true_iff,List.getElem?_append_right (Nat.le_refl _),Nat.sub_self];rfl
  have hl:decide ((c::w).length<((c::w)++(46::((x::v)++r))).length)=true:=by rw[decide_eq_true_iff,hlen];omega
  have hl2:decide ((c::w).length+1<(c::w).length+1+(x::v).length)=true:=by rw[decide_eq_true_iff];simp
  rw[hx,hl,hl2];simp;omega
 rw[e0];have hc:(c::w)++(46::((x::v)++r))=c::(w++(46::((x::v)++r))):=rfl;rw[hc,Pj (oY h1).1,<- hc,ht,show(c::w)++(46::((x::v)++r))=(c::w++46::x::v)++r by simp,List.take_left,List.drop_left]
def lvl (op:By):Nat:=if op=[43]\/op=[45]then 0 else if op=[42]\/op=[47]then 1 else 2
def dgt (n:Nat):UInt8:=UInt8.ofNat (48+n % 10)
def dcF:Nat->Nat->By
 |0,_=>[]
 |f+1,n=>if n<10 then[dgt n]else dcF f (n / 10)++[dgt n]
def dcN (n:Nat):By:=dcF (n+1) n
def frT:Nat->Nat->Nat->By
 |0,_,_=>[]
 |f+1,r,D=>if r=0 then[]else dcN (10*r / D)++frT f (10*r % D) D
def deT (n d:Int):By:=dcN (n.toNat / d.toNat)++(if n.toNat % d.toNat=0 then[]else 46::frT 6 (n.toNat % d.toNat) d.toNat)
def par (b:Bool) (s:By):By:=if b=true then 40::(s++[41])else s
def Ls (b:Bool) (s:List By):List By:=if b=true then[40]::(s++[[41]])else s
def J8:Nat->Nat->Ex->By
 |0,_,_=>[]
 | f+1,F8,.mk op n d nm args=>par (decide (lvl op<F8)) (if op=K9 then deT n d else if op=nmB then nm else match args with
   | [a,b]=>if op=R3\/op=R6 then op++40::(J8 f 0 a++44::32::(J8 f 0 b++[41]))else J8 f (lvl op) a++32::(op++32::J8 f (lvl op+1) b)
   |_=>[])
def V0:Nat->Nat->Ex->List By
 |0,_,_=>[]
 | f+1,F8,.mk op n d nm args=>Ls (decide (lvl op<F8)) (if op=K9 then[deT n d]else if op=nmB then[nm]else match args with
   | [a,b]=>if op=R3\/op=R6 then op::[40]::(V0 f 0 a++[44]::(V0 f 0 b++[[41]]))else V0 f (lvl op) a++op::V0 f (lvl op+1) b
   |_=>[])
structure RQ (n d:Int):Prop where
 n1: -1000000000<n
 n2:n<=1000000000*d
 d1:1<=d
 d2:d<1000000000
 low:Int.gcd n d=1
structure MI (n d:Int):Prop where
 rq:RQ n d
 n0:0<=n
 d6:(1000000:Int) % d=0
 lex:(∃ c w,deT n d=c::w/\(c::w).all (on O6)=true)\/∃ c w x v,deT n d=c::w++46::x::v/\(c::w).all (on O6)=true/\(x::v).all (on O6)=true
 dec:∀ D7 k p,(AZ D7 k).1=deT n d->mR D7 k p= .ok (.mk K9 n d [] [],1,k+1,p+1)
inductive FW:Nat->Nat->Ex->Prop
 |num {n d:Int} (h:MI n d):FW 1 1 (.mk K9 n d [] [])
 |name {nm:By} (h1:AM nm=true) (h2:nm≠R3) (h3:nm≠R6):FW 1 1 (.mk nmB 0 0 nm [])
 |bin {k j m i:Nat}{o:By}{a b:Ex} (h:o=[43]\/o=[45]\/o=[42]\/o=[47]) (ha:FW k m a) (hb:FW j i b):FW (1+max k j) (m+i+1) (.mk o 0 0 [] [a,b])
 |mm {k j m i:Nat}{o:By}{a b:Ex} (h:o=R3\/o=R6) (ha:FW k m a) (hb:FW j i b):FW (1+max k j) (m+i+1) (.mk o 0 0 [] [a,b])
def FW.pos {k m:Nat}{e:Ex}(h:FW k m e):1<=k/\1<=m:=by cases h<;>omega
def Hx {c:UInt8}{r:By}(h1:on ED c=false) (h2:c≠46):Stop (c::r):=fun c' t e=>by cases e;exact⟨h1,h2⟩
def rC:Stop []:=fun c t e=>by cases e
def Po {b:Bool}{s:By}{ts:List By}(h:∀ r,Stop r->lex (s++r)=ts++lex r){r:By}(hr:Stop r):lex (par b s++r)=Ls b ts++lex r:=by
 unfold par Ls;cases b with
 |false=>exact h r hr
 | true=>
   rw[z1z rfl,z1z rfl,show 40::(s++[41])++r=40::(s++(41::r)) by simp,GY (by rfl) (by rfl) (by decide),h (41::r) (Hx (by rfl) (by decide)),GY (by rfl) (by rfl) (by decide)];simp
def Lt {nm:By}(h:AM nm=true):∃ c w,nm=c::w/\on Eh c=true/\(c::w).all (on ED)=true:=by
 unfold AM at h;rw[Q7,Q7]at h;cases nm with
 |nil=>cases h.1.1
 |cons c w=>exact⟨c,w,rfl,h.1.1,h.2⟩
def rE {k m:Nat}{e:Ex}(h:FW k m e):∀ (f F8:Nat),k<=f->∀ r:By,Stop r->lex (J8 f F8 e++r)=V0 f F8 e++lex r:=by
 induction h with
 | @num n d h=>
   intro f F8 hf r hr;obtain⟨f,rfl⟩:∃ g,f=g+1:=⟨f-1,om⟩
   unfold J8 V0;refine Po (fun r hr=>?_) hr;rw[z1z rfl,z1z rfl];rcases h.lex with⟨c,w,e,h1⟩|⟨c,w,x,v,e,h1,h2⟩
   ·rw[e];exact wF h1 hr
   ·rw[e];exact wG h1 h2 hr
 | @name nm h1 h2 h3=>
   intro f F8 hf r hr;obtain⟨f,rfl⟩:∃ g,f=g+1:=⟨f-1,om⟩
   unfold J8 V0;refine Po (fun r hr=>?_) hr;rw[z0z (by decide),z1z rfl,z0z (by decide),z1z rfl];obtain⟨c,w,rfl,q1,q2⟩:=Lt h1;exact YP q1 q2 hr
 | @bin k j m i o a b h ha hb iha ihb=>
   intro f F8 hf r hr;obtain⟨f,rfl⟩:∃ g,f=g+1:=⟨f-1,om⟩
   unfold J8 V0;refine Po (fun r hr=>?_) hr;have hn:o≠K9/\o≠nmB/\¬ (o=R3\/o=R6):=by rcases h with rfl|rfl|rfl|rfl<;>decide
   rw[z0z hn.1,z0z hn.2.1,z0z hn.1,z0z hn.2.1];dsimp only;rw[z0z hn.2.2,z0z hn.2.2];obtain⟨c,rfl,c1,c2,c3⟩:∃ c,o=[c]/\on Eh c=false/\on O6 c=false/\c≠32:=by
    rcases h with rfl|rfl|rfl|rfl<;>exact⟨_,rfl,by rfl,by rfl,by decide⟩
   rw[show J8 f (lvl [c]) a++32::([c]++32::J8 f (lvl [c]+1) b)++r=J8 f (lvl [c]) a++(32::c::32::(J8 f (lvl [c]+1) b++r)) by simp,
    iha f _ om _ (Hx (by rfl) (by decide)),Nl,GY c1 c2 c3,Nl,ihb f _ om r hr]
   simp
 | @mm k j m i o a b h ha hb iha ihb=>
   intro f F8 hf r hr;obtain⟨f,rfl⟩:∃ g,f=g+1:=⟨f-1,om⟩
   unfold J8 V0;refine Po (fun r hr=>?_) hr;have hn:o≠K9/\o≠nmB:=by rcases h with rfl|rfl<;>decide
   rw[z0z hn.1,z0z hn.2,z0z hn.1,z0z hn.2];dsimp only;rw[z1z h,z1z h];obtain⟨c,w,rfl,c1,c2⟩:∃ c w,o=c::w/\on Eh c=true/\(c::w).all (on ED)=true:=by
    rcases h with rfl|rfl<;>exact⟨_,_,rfl,by rfl,by rfl⟩
   rw[show c::w++40::(J8 f 0 a++44::32::(J8 f 0 b++[41]))++r=c::w++(40::(J8 f 0 a++(44::32::(J8 f 0 b++(41::r))))) by simp,
    YP c1 c2 (Hx (by rfl) (by decide)),GY (by rfl) (by rfl) (by decide),iha f 0 om _ (Hx (by rfl) (by decide)),GY (by rfl) (by rfl) (by decide),Nl,ihb f 0 om _ (Hx (by rfl) (by decide)),GY (by rfl) (by rfl) (by decide)]
   simp
section
variable {n d:Int}{Z:St}{a b:Nat}
def qn (n d:Int):Int:=(if d<0 then -n else n) / (Int.gcd n d:Nat)
def qd (n d:Int):Int:=(if d<0 then -d else d) / (Int.gcd n d:Nat)
def ui:Nat.gcd b (a % b)=Nat.gcd a b:=by
 rw[QH b,<- mg,QH]
def Lim (n:Int):Prop:= -4000000000000000000<=n/\n<=4000000000000000000
def uj:(a:Int).tmod (b:Int)=((a % b:Nat):Int):=rfl
def bE {g:Nat}(h:(g:Int)∣n):n.tdiv g=n / g:=Int.tdiv_eq_ediv_of_dvd h
def Pw {a b:Int}:(a==b)=decide (a=b):=by rw[z7z];simp
def Wv {a b:Bool}:bi a (some b) (some false)=some (a&&b):=by cases a<;>rfl
def G5 {x y:Operand}{a b c:Int}:Ay Tryz.prog .eql 29 x y (.agg ⟨[.int .i64 a,.int .i64 b]⟩) (.agg ⟨[.int .i64 c,.int .i64 d]⟩)=some (.bool (decide (a=c)&&decide (b=d))) /\
  Ay Tryz.prog .neq 29 x y (.agg ⟨[.int .i64 a,.int .i64 b]⟩) (.agg ⟨[.int .i64 c,.int .i64 d]⟩)=some (.bool (!(decide (a=c)&&decide (b=d)))):=by
 have he:eqF Tryz.prog 9999 ⟨[.int .i64 a,.int .i64 b]⟩ ⟨[.int .i64 c,.int .i64 d]⟩ (Tryz.prog.fieldsOf 29).toList=bi (a==c) (bi (b==d) (some true) (some false)) (some false):=kR;have h:=Uk (x:=x) (y:=y) rfl kR kR kR he;rw[Wv,Wv,Pw,Pw,bh]at h;exact h
def Gl (h1:Lim n) (h2:Lim d) (h3:d≠0):
  Ev (gO 135 [.int .i64 n,.int .i64 d] Z) (fun r=>∃ Z',r=⟨false,.agg ⟨[.int .i64 (qn n d),.int .i64 (qd n d)]⟩,Z'⟩/\Ext Z Z') ⟨⟩:=by
 obtain⟨a1,a2⟩:=h1;obtain⟨b1,b2⟩:=h2;obtain⟨N,hN⟩:=nm ((if d<0 then -n else n));obtain⟨D,hD⟩:=nm ((if d<0 then -d else d));have Ad9:Int.gcd n d=Nat.gcd N.natAbs D.natAbs:=by
  have h1:N.natAbs=n.natAbs:=by rw[<- hN];split<;>omega
  have h2:D.natAbs=d.natAbs:=by rw[<- hD];split<;>omega
  unfold Int.gcd;rw[h1,h2]
 have hDp:0<D:=by rw[<- hD];split<;>omega
 have hDl:D<=4000000000000000000:=by rw[<- hD];split<;>omega
 have hNl: -4000000000000000000<=N/\N<=4000000000000000000:=by rw[<- hN];split<;>omega
 have e3:IntKind.i64.wrap (0-N)= -N:=by rw[wrap64_in om om];omega
 have hmx:max N (-N)=(N.natAbs:Int):=om;have hDn:D=(D.natAbs:Int):=om;have hq1:qn n d=N / (Nat.gcd N.natAbs D.natAbs:Nat):=by unfold qn;rw[hN,Ad9]
 have hq2:qd n d=D / (Nat.gcd N.natAbs D.natAbs:Nat):=by unfold qd;rw[hD,Ad9]
 rw[hq1,hq2];have hg0:Nat.gcd N.natAbs D.natAbs≠0:=fun h=>by have:=Nat.eq_zero_of_gcd_eq_zero_right h;omega
 have hgN:((Nat.gcd N.natAbs D.natAbs:Nat):Int)∣N:=Int.ofNat_dvd_left.2 (Nat.gcd_dvd_left _ _);have hgD:((Nat.gcd N.natAbs D.natAbs:Nat):Int)∣D:=Int.ofNat_dvd_left.2 (Nat.gcd_dvd_right _ _);obtain⟨g,hg⟩:=nm (Nat.gcd N.natAbs D.natAbs);rw[hg]at hg0 hgN hgD ⊢;have hgi:(g:Int)≠0:=om;have c1:N.tdiv g=N / g:=bE hgN;have c2:D.tdiv g=D / g:=bE hgD;have hb1: -4000000000000000000<=N / (g:Int)/\N / (g:Int)<=4000000000000000000:=by
  obtain⟨k,hk⟩:=hgN;rw[hk,TQ _ hgi];have hg1:1<=(g:Int):=om;constructor
  ·rcases Int.le_total 0 k with h|h
   ·omega
   ·have:=Int.mul_le_mul_of_nonpos_right hg1 h;omega
  ·rcases Int.le_total 0 k with h|h
   ·have:=Int.mul_le_mul_of_nonneg_right hg1 h;omega
   ·omega
 have hb2:0<=D / (g:Int)/\D / (g:Int)<=4000000000000000000:=by
  refine⟨Int.ediv_nonneg om om,Int.le_trans (Int.ediv_le_self _ om) hDl⟩
 have w1:IntKind.i64.wrap (N / (g:Int))=N / (g:Int):=wrap64_in om om;have w2:IntKind.i64.wrap (D / (g:Int))=D / (g:Int):=wrap64_in om om;refine C9 Tryz.func135 rfl rfl ?_;have eW:(decide (d<0)=true/\IntKind.i64.wrap (0-n)=N/\IntKind.i64.wrap (0-d)=D)\/(decide (D<0)=false/\n=N/\d=D):=by
  by_cases hd:d<0
  ·rw[z1z hd]at hN hD;exact .inl ⟨by simpa using hd,by rw[wrap64_in om om];omega,by rw[wrap64_in om om];omega⟩
  ·rw[z0z hd]at hN hD;exact .inr ⟨by rw[<- hD];simpa using hd,hN,hD⟩
 clear hN hD Ad9 hq1 hq2;rcases eW with⟨hc,e1,e2⟩|⟨hc,e1,e2⟩
 all_goals
  refine gS1 (aI hc (aI e1 (aI e2 (aI e3 hmx)))) ?_
  refine CD (fun m fr Z'=>∃ a:Nat,fr.get 0=some (.int .i64 N)/\fr.get 1=some (.int .i64 D)/\fr.get 4=some (.pointer (some ⟨Z.n,0,none⟩))/\fr.get 5=some (.int .i64 (a:Int))/\fr.get 6=some (.int .i64 (m:Int))/\Z'=Z.new [.int .i64 0,.int .i64 0] (some 29)/\Nat.gcd a m=g)
   (fun r=>∃ fr,r=⟨.exit 0,fr,Z.new [.int .i64 0,.int .i64 0] (some 29)⟩/\fr.get 0=some (.int .i64 N)/\fr.get 1=some (.int .i64 D)/\fr.get 4=some (.pointer (some ⟨Z.n,0,none⟩))/\fr.get 5=some (.int .i64 (g:Int))) D.natAbs ?_ ?_ ?_
  ·exact⟨N.natAbs,fR1 (And.intro e1 e2),fR1 (And.intro e1 e2),fR1 (And.intro e1 e2),fR1 (And.intro e1 e2),by rw[<- hDn];exact fR1 (And.intro e1 e2),rfl,hg⟩
  ·rintro m fr Z' ⟨a,g0,g1,g4,g5,g6,rfl,hgc⟩;by_cases hm:0<m
   ·have hc':decide ((0:Int)<(m:Int))=true:=by simpa using hm
    have hm0:(m:Int)≠0:=om;refine gS1 (aI g0 (aI g1 (aI g4 (aI g5 (aI g6 (aI hc' (aI @uj @j7))))))) ?_;refine⟨a % m,MN _ hm,m,fR1 g0,fR1 g1,fR1 g4,fR,fR,by trivial,by rw[ui];exact hgc⟩
   ·obtain rfl:m=0:=om;have hc':decide ((0:Int)<((0:Nat):Int))=false:=by decide
    rw[mf]at hgc;subst hgc;refine gS1 (aI g0 (aI g1 (aI g4 (aI g5 (aI g6 (aI hc' @Bj)))))) ?_;exact⟨_,rfl,fR1 g0,fR1 g1,fR1 g4,fR1 g5⟩
  ·rintro r ⟨fr,rfl,g0,g1,g4,g5⟩;refine gS1 (aI g0 (aI g1 (aI g4 (aI g5 (aI c1 (aI c2 (aI w1 (aI w2 @Tryz.results135)))))))) ?_;exact⟨_,rfl,eX⟩
def IC (h1: -1000000000<n) (h2:n<1000000000):Ev (gO 134 [.int .i64 n] Z) (fun r=>r=⟨false,.bool true,Z⟩) ⟨⟩:=by
 have c1:decide (-1000000000<n)=true:=by simpa using h1
 have c2:decide (n<1000000000)=true:=by simpa using h2
 refine C9 Tryz.func134 rfl rfl ?_;refine gS1 (aI c1 (aI c2 (a3N @D9 @F4 @Tryz.results134))) ?_;try exact⟨⟩
def nt (h1: -1000000000<n) (h2:n<1000000000) (h3: -1000000000<d) (h4:d<1000000000) (h5:d≠0):
  Ev (gO 72 [.int .i64 n,.int .i64 d] Z) (fun r=>∃ Z',r=⟨false,.tuple ⟨[.agg ⟨[.int .i64 (qn n d),.int .i64 (qd n d)]⟩,.bool true]⟩,Z'⟩/\Ext Z Z') ⟨⟩:=by
 have c5:decide (d=0)=false:=by simpa using h5
 refine C9 Tryz.func72 rfl rfl ?_;refine gS1 c5 ?_;refine(IC h1 h2).mono ?_;rintro r rfl;refine gS1 @D9 ?_;refine(IC h3 h4).mono ?_;rintro r rfl;refine gS ?_;refine(Gl ⟨om,om⟩ ⟨om,om⟩ h5).mono ?_;rintro r ⟨Z2,rfl,e2⟩;have n2:=e2.n;have o2:Z2.A7 Z.n=some [.int .i64 0,.int .i64 0]:=eT (e2.A7 (cL)) cL;have hE:Ext Z Z2:=Ext.trans (eX) e2;refine gS1 (aI o2 @Tryz.results72) ?_;exact⟨_,rfl,eX⟩
def P8 (n d:Int):Value:= .agg ⟨[.int .i64 n,.int .i64 d]⟩
def Wz (h:d≠0):Int.gcd (qn n d) (qd n d)=1/\1<=qd n d:=by
 obtain⟨N,hN⟩:=nm ((if d<0 then -n else n));obtain⟨D,hD⟩:=nm ((if d<0 then -d else d));have hDp:0<D:=by rw[<- hD];split<;>omega
 have hg:Int.gcd n d=Int.gcd N D:=by rw[<- hN,<- hD];split<;>simp[Int.gcd]
 unfold qn qd;rw[hN,hD,hg];have hg0:0<Int.gcd N D:=Int.gcd_pos_of_ne_zero_right _ om;obtain⟨k,hk⟩:((Int.gcd N D:Nat):Int)∣N:=Int.gcd_dvd_left _ _;obtain⟨m,hm⟩:((Int.gcd N D:Nat):Int)∣D:=Int.gcd_dvd_right _ _;obtain⟨g,hgg⟩:=nm (Int.gcd N D);rw[hgg]at hk hm hg0 ⊢;have hgi:(0:Int)<(g:Int):=om;have e1:N / (g:Int)=k:=by rw[hk,TQ _ om]
 have e2:D / (g:Int)=m:=by rw[hm,TQ _ om]
 rw[e1,e2];refine⟨?_,?_⟩
 ·rw[hk,hm,Int.gcd_mul_left,Int.natAbs_natCast]at hgg;exact AG6 hg0 (by rw[hgg,MH])
 ·rcases Int.lt_or_le 0 m with h|h
  ·omega
  ·exfalso;have:=Int.mul_nonpos_of_nonneg_of_nonpos (Int.le_of_lt hgi) h;omega
def nT (h:1<=d) (hg:Int.gcd n d=1):qn n d=n/\qd n d=d:=by
 unfold qn qd;rw[z0z om,z0z om,hg];simp
end
def UP (J:Nat->Fr->St->Prop) (R:Res->Prop) (n k:Nat) (r:Res):Prop:=match r.o with
 | .normal=>k+1<=n/\J (k+1) r.fr r.Z
 |_=>R r
section
variable {P:Program}{H:Dq}{rd:Option Nat}{fr:Fr}{Z:St}
def KK {body:Code}{Q:Res->Prop}{u:Hd Q}(n:Nat) (J:Nat->Fr->St->Prop) (R:Res->Prop) (h0:J 0 fr Z)
  (hs:∀ k fr Z,k<=n->J k fr Z->Ev (lim P H rd body fr Z) (UP J R n k) ⟨⟩) (hR:∀ r,R r->Q r) :
  Ev (lim P H rd (.loop body) fr Z) Q u:=by
 refine CD (fun j fr Z=>∃ k,j+k=n/\J k fr Z) R n ⟨0,om,h0⟩ ?_ hR;rintro j fr Z ⟨k,hk,hJ⟩;refine(hs k fr Z om hJ).mono ?_;rintro⟨o,fr',Z'⟩ hq;cases o with
 |normal=>exact⟨n-(k+1),by have:=hq.1;omega,k+1,by have:=hq.1;omega,hq.2⟩
 |exit i=>exact hq
 |ret=>exact hq
 |pan v=>exact hq
end
section
variable {l a b:List Nat}{d k:Nat}
def D8:List Nat->Nat
 | []=>0
 |d::l=>d+65536*D8 l
def Dig (l:List Nat):Prop:=∀ d∈l,d<65536
def Trm (l:List Nat):Prop:=∀ d,l.getLast? =some d->d≠0
def RZ:D8 []=0:=rfl
def j8:D8 (d::l)=d+65536*D8 l:=rfl
def Ra:∀ {a b:List Nat},D8 (a++b)=D8 a+65536 ^ a.length*D8 b
 | [],b=>by simp[D8]
 | d::a,b=>by
   rw[Mp,j8,j8,Ra,CE,Hr,Sz];rw[<- Gf,DW 65536 (65536 ^ a.length)];omega
def GZ:D8 (a++[d])=D8 a+65536 ^ a.length*d:=by
 rw[Ra,j8,RZ,cP,AG]
def UA {α:Type}{l:List α}{d:α}(h:l[k]? =some d):l.take (k+1)=l.take k++[d]:=by
 rw[Sw,h];rfl
def Cu {α:Type}{l:List α}(h:k<=l.length):(l.take k).length=k:=by rw[IK];omega
def DE (h:l[k]? =some d):D8 (l.take (k+1))=D8 (l.take k)+65536 ^ k*d:=by
 have hk:=(List.getElem?_eq_some_iff.1 h).1;rw[UA h,GZ,Cu om]
def Dig.nil:Dig []:=fun d h=>by cases h
def Dig.snoc (h:Dig l) (hd:d<65536):Dig (l++[d]):=fun x hx=>by
 rcases HX.1 hx with hx|hx
 ·exact h x hx
 ·rw[Lf]at hx;rw[hx];exact hd
def Dig.cons (h:Dig l) (hd:d<65536):Dig (d::l):=fun x hx=>by
 rcases Y5.1 hx with rfl|hx
 ·exact hd
 ·exact h x hx
def Dig.take (h:Dig l) (k:Nat):Dig (l.take k):=fun x hx=>h x (PF hx)
def Dig.get (h:Dig l)(hk:l[k]? =some d):d<65536:=h d (Bs hk)
def KP:∀ {l:List Nat},Dig l->D8 l<65536 ^ l.length
 | [],_=>by simp[D8]
 | d::l,h=>by
   have h1:=h d (Kf ..);have h2:=KP (l:=l) fun x hx=>h x (GA _ hx);rw[j8,CE,Hr];have:D8 l+1<=65536 ^ l.length:=h2;have:=XI 65536 this;omega
def Trm.nil:Trm []:=fun d h=>by simp at h
def Trm.le (h:Trm l) (h0:l≠[]):65536 ^ (l.length-1)<=D8 l:=by
 have e:=List.dropLast_concat_getLast h0;have hl:l.getLast h0≠0:=h _ (List.getLast?_eq_some_getLast h0);rw[<- e,GZ,Dc,List.length_dropLast];have:65536 ^ (l.length-1)*1<=65536 ^ (l.length-1)*l.getLast h0:=XI _ om;simp only[CE,JQ];rw[show l.length-1+(0+1)-1=l.length-1 by omega];omega
def Trm.zero (h:Trm l) (h0:D8 l=0):l=[]:=by
 by_cases hn:l=[]
 ·exact hn
 ·have:=h.le hn;have:0<65536 ^ (l.length-1):=pR om;omega
def Trm.len (ha:Dig a) (hb:Trm b) (h:a.length<b.length):D8 a<D8 b:=by
 have h1:=KP ha;have h2:=hb.le (fun e=>by rw[e]at h;simp at h);have:65536 ^ a.length<=65536 ^ (b.length-1):=pS om om;omega
def UF (hk:k<=l.length):D8 l=D8 (l.take k)+65536 ^ k*D8 (l.drop k):=by
 have h:=Ra (a:=l.take k) (b:=l.drop k);rw[fV,Cu hk]at h;exact h
def Tx (ha:Dig a) (hl:a.length=b.length){x y:Nat}(hx:a[k]? =some x) (hy:b[k]? =some y) (hd:a.drop (k+1)=b.drop (k+1)) (hxy:x<y):D8 a<D8 b:=by
 have k1:=(List.getElem?_eq_some_iff.1 hx).1;have k2:=(List.getElem?_eq_some_iff.1 hy).1;rw[UF (l:=a) (k:=k+1) om,UF (l:=b) (k:=k+1) om,hd,DE hx,DE hy];have h1:=KP (ha.take k);rw[Cu om]at h1;have h2:65536 ^ k*(x+1)<=65536 ^ k*y:=XI _ hxy;rw[Sz,MH]at h2;omega
def FZ (ha:Dig a) (hb:Dig b) (ta:Trm a) (tb:Trm b) (h:D8 a=D8 b):a=b:=by
 have hl:a.length=b.length:=by
  rcases jy a.length b.length with h1|h1|h1
  ·have:=Trm.len ha tb h1;omega
  ·exact h1
  ·have:=Trm.len hb ta h1;omega
 clear ta tb;induction a generalizing b with
 | nil=>cases b with
   |nil=>rfl
   |cons y b=>simp at hl
 | cons x a ih=>
   cases b with
   |nil=>simp at hl
   | cons y b=>
     have h1:=ha x (Kf ..);have h2:=hb y (Kf ..);rw[j8,j8]at h;have e1:x=y:=om;have e2:D8 a=D8 b:=om;rw[e1,ih (fun d hd=>ha d (GA _ hd)) (fun d hd=>hb d (GA _ hd)) e2 (by simpa using hl)]
end
section
variable {l:List Nat}{Z:St}{v:Value}{cells:List Value}{off n k:Nat}
def dgv (d:Nat):Value:= .int .i64 (d:Int)
def DN (Z:St) (v:Value) (l:List Nat):Prop:=(v= .slice none 0 0/\l=[])\/∃ b off sp c cells,v= .slice (some ⟨b,off,sp⟩) l.length c/\l.length<=c/\(sp=none\/sp=some 1)/\b<Z.n/\Z.row b=some cells/\sub cells off l.length=some (l.map dgv)
def DN.mono {Z':St}(h:DN Z v l) (hE:Ext Z Z'):DN Z' v l:=by
 rcases h with h|⟨b,off,sp,c,cells,h1,h2,h3,h4,h5,h6⟩
 ·exact .inl h
 ·exact .inr ⟨b,off,sp,c,cells,h1,h2,h3,z5z h4 hE.n,by rw[hE.row h4];exact h5,h6⟩
def DN.shape (h:DN Z v l):∃ a c,v= .slice a l.length c:=by
 rcases h with⟨rfl,rfl⟩|⟨b,off,sp,c,cells,h1,-⟩
 ·exact⟨_,_,rfl⟩
 ·exact⟨_,_,h1⟩
def gE (h:sub cells off n=some (l.map dgv)){d:Nat}(hk:l[k]? =some d):sub cells (off+k) 1=some [dgv d]:=by
 obtain⟨h1,h2⟩:=sub_eq h;obtain⟨hl,hd⟩:=List.getElem?_eq_some_iff.1 hk;have e:=congrArg List.length h2;rw[z2z,IK,Ng]at e;rw[o9 om];congr 1;have h3:=congrArg (fun z=>z[k]?) h2;rw[List.getElem?_map,hk,List.getElem?_take,z1z om,List.getElem?_drop]at h3;rw[PL (show off+k<cells.length by omega)];rw[List.getElem?_eq_getElem (show off+k<cells.length by omega)]at h3;simp only[TS,Option.some.injEq]at h3;rw[<- h3];rfl
def we (h:sub cells off n=some (l.map dgv))(hk:k<=l.length):sub cells off k=some ((l.take k).map dgv):=by
 obtain⟨h1,h2⟩:=sub_eq h;have e:=congrArg List.length h2;rw[z2z,IK,Ng]at e;rw[o9 om,List.map_take,h2,Tz,wh om]
def Ck (h:DN Z v l) (hl:l.length<=1000):
  Ev (gO 179 [v] Z) (fun r=>∃ v' l',r=⟨false,v',Z⟩/\DN Z v' l'/\(∃ k,l'=l.take k)/\Trm l'/\D8 l'=D8 l/\N0 v'=N0 v) ⟨⟩:=by
 obtain⟨a,c,rfl⟩:=h.shape;refine C9 Tryz.func179 rfl rfl ?_;refine gU1 (aI @A6 @D5) ?_
 refine KK l.length (fun j fr τ=>τ=Z/\∃ v',fr.get 0=some v'/\DN Z v' (l.take (l.length-j))/\D8 (l.take (l.length-j))=D8 l/\N0 v'=N0 (.slice a l.length c))
  (fun r=>∃ fr v' l',r=⟨.exit 0,fr,Z⟩/\fr.get 0=some v'/\DN Z v' l'/\(∃ k,l'=l.take k)/\Trm l'/\D8 l'=D8 l/\N0 v'=N0 (.slice a l.length c)) ?_ ?_ ?_
 ·exact⟨rfl,_,fR,by rw[Va,JF];exact h,by rw[Va,JF],rfl⟩
 ·rintro j fr τ hj ⟨rfl,v',g0,hd,hv,hbk⟩;obtain⟨m,hm⟩:=nm (l.length-j);rw[hm]at hd hv;have hlen:(l.take m).length=m:=Cu om;rcases hd with⟨rfl,mw⟩|⟨b,off,sp,cc,cells,rfl,hc,hsp,hb,hr,hs⟩
  ·have d0:decide ((0:Int)<((0:Nat):Int))=false:=rfl;refine gU1 (aI @A6 (aI @D5 (aI g0 d0))) ?_;rw[mw]at hv;exact⟨_,_,_,rfl,fR1 g0,.inl ⟨rfl,rfl⟩,⟨0,rfl⟩,Trm.nil,hv,by exact hbk⟩
  ·rw [hlen]at hc hs;rw[hlen]at g0;cases m with
   | zero=>
     have d0:decide ((0:Int)<((0:Nat):Int))=false:=rfl;refine gU1 (aI @A6 (aI @D5 (aI g0 d0))) ?_;exact⟨_,_,[],rfl,fR1 g0,.inr ⟨b,off,sp,cc,cells,rfl,BM _,hsp,hb,hr,by rw[Oa]at hs;exact hs⟩,⟨0,by rw[Oa]⟩,Trm.nil,by rw[<- hv,Oa],by exact hbk⟩
   | succ m=>
     obtain⟨d,hd⟩:=H5 (l:=l) (k:=m) om;have hd':(l.take (m+1))[m]? =some d:=by rw[List.getElem?_take,z1z om];exact hd
     have e1:=gE hs hd';unfold dgv at e1;have c0:decide ((0:Int)<((m+1:Nat):Int))=true:=dT;have em:((m+1:Nat):Int)-1=(m:Nat):=om;have hlt:Nat.blt m (m+1)=true:=by rw[Bt];omega
     have hsa:sliceAt 1 (some ⟨b,off,sp⟩) 0 m cc=some (.slice (some ⟨b,off,sp⟩) m cc):=by
      rcases hsp with rfl|rfl
      ·rfl
      ·rw[gI];rfl
     cases dz:decide ((d:Int)=0)with
     | true=>
       have hz:d=0:=by have:=z6z dz;omega
       refine gU1 (aI @A6 (aI @D5 (aI g0 (aI c0 (aI em (aI hr (aI e1 (aI dz (aI hlt hsa))))))))) ?_;have e9:l.length-(j+1)=m:=om;have hvm:D8 (l.take m)=D8 l:=by rw[<- hv,DE hd,hz,cP,AG]
       refine⟨om,rfl,_,fR,.inr ⟨b,off,sp,cc,cells,by rw[e9,Cu om],by rw[e9,Cu om];omega,hsp,hb,hr,?_⟩,by rw[e9];exact hvm,by exact hbk⟩;rw[e9,Cu om];have:=we hs (k:=m) (by rw[Cu om];omega);rw[Tz,wh om]at this;exact this
     | false=>
       have hz:d≠0:=by have:=z9z dz;omega
       refine gU1 (aI @A6 (aI @D5 (aI g0 (aI c0 (aI em (aI hr (aI e1 (aI dz hlt)))))))) ?_;refine⟨_,_,l.take (m+1),rfl,fR1 g0,.inr ⟨b,off,sp,cc,cells,by rw[Cu om],by rw[Cu om];omega,hsp,hb,hr,by rw[Cu om];exact hs⟩,⟨_,rfl⟩,fun x hx=>?_,hv,by exact hbk⟩;rw[UA hd,List.getLast?_concat]at hx;cases hx;exact hz
 ·rintro r ⟨fr,v',l',rfl,g0,hd,hk,ht,hv,hbk⟩;obtain⟨a',c',rfl⟩:=hd.shape;refine gU1 (aI @A6 (aI @D5 (aI g0 @Tryz.results179))) ?_;exact⟨_,l',rfl,hd,hk,ht,hv,hbk⟩
end
section
variable {x y:Nat}{Z:St}{v:Value}
def PQ (x y:Nat):Int:=if x<y then -1 else if x=y then 0 else 1
def Vr (h:x<y):PQ x y= -1:=z1z h
def gD:PQ x x=0:=by unfold PQ;rw[z0z om,z1z rfl]
def Vs (h:y<x):PQ x y=1:=by unfold PQ;rw[z0z om,z0z om]
def DN.use {l:List Nat}(h:DN Z v l):∃ a c b off cells,v= .slice a l.length c/\(0<l.length->∃ sp,a=some ⟨b,off,sp⟩/\b<Z.n/\Z.row b=some cells)/\∀ k d,l[k]? =some d->sub cells (off+k) 1=some [.int .i64 ((d:Nat):Int)]:=by
 rcases h with⟨rfl,rfl⟩|⟨b,off,sp,c,cells,h1,h2,h3,h4,h5,h6⟩
 ·exact⟨none,0,0,0,[],rfl,fun h=>by simp at h,fun k d h=>by simp at h⟩
 ·exact⟨_,c,b,off,cells,h1,fun _=>⟨sp,rfl,h4,h5⟩,fun k d hk=>gE h6 hk⟩
def LV {w:Value}{a b:List Nat}(ha:DN Z v a) (hb:DN Z w b) (da:Dig a) (db:Dig b) (ta:Trm a) (tb:Trm b) (la:a.length<=1000) (lb:b.length<=1000):
  Ev (gO 210 [v,w] Z) (fun r=>r=⟨false,.int .i64 (PQ (D8 a) (D8 b)),Z⟩) ⟨⟩:=by
 obtain⟨aa,ac,ab,ao,acs,rfl,a1,a2⟩:=ha.use;obtain⟨ba,bc,bb,bo,bcs,rfl,b1,b2⟩:=hb.use;refine C9 Tryz.func210 rfl rfl ?_;by_cases hl:a.length=b.length
 ·have d1:decide ((a.length:Int)=(b.length:Int))=true:=by simp[hl]
  refine gU1 (aI @A6 (aI @D5 d1)) ?_
  refine KK a.length (fun k fr τ=>τ=Z/\fr.get 5=some (.int .i64 ((a.length:Int)-1-(k:Nat)))/\fr.get 0=some (.slice aa a.length ac)/\fr.get 1=some (.slice ba b.length bc)/\a.drop (a.length-k)=b.drop (a.length-k))
   (fun r=>(∃ fr,r=⟨.exit 0,fr,Z⟩/\a=b)\/∃ fr,r=⟨.ret,fr,Z⟩/\fr.get 4=some (.int .i64 (PQ (D8 a) (D8 b)))) ?_ ?_ ?_
  ·exact⟨rfl,by rw[show((a.length:Int)-1-((0:Nat):Int))=(a.length:Int)-1 by omega];exact(fR),fR,fR,by rw[Va,fh,hl,fh]⟩
  ·rintro k fr τ hk ⟨rfl,g5,g0,g1,hd⟩;by_cases hk2:k=a.length
   ·subst hk2;have e1:((a.length:Int)-1-(a.length:Nat))= -1:=om;rw[e1]at g5;have d2:decide ((-1:Int)<0)=true:=rfl;refine gU1 (aI @A6 (aI @D5 (aI g5 (aI d2 @br)))) ?_;rw[Vb,Sv,Sv]at hd;exact .inl ⟨_,rfl,hd⟩
   ·obtain⟨m,hm⟩:=nm (a.length-1-k);have e1:((a.length:Int)-1-(k:Nat))=((m:Nat):Int):=om;rw[e1]at g5;obtain⟨x,hx⟩:=H5 (l:=a) (k:=m) om;obtain⟨y,hy⟩:=H5 (l:=b) (k:=m) om;obtain⟨sp,rfl,h3,h4⟩:=a1 om;obtain⟨sp',rfl,h3',h4'⟩:=b1 om;have s1:=a2 m x hx;have s2:=b2 m y hy;have c1:decide (((m:Nat):Int)<0)=false:=dF;have l1:Nat.blt m a.length=true:=by rw[Bt];omega
    have l2:Nat.blt m b.length=true:=by rw[Bt];omega
    have hd1:a.drop (m+1)=b.drop (m+1):=by rw[show m+1=a.length-k by omega];exact hd
    have e2:((m:Nat):Int)-1=(a.length:Int)-1-((k+1:Nat):Int):=om;cases dz:decide (((x:Nat):Int)=((y:Nat):Int))with
    | true=>
      have hxy:x=y:=by have:=z6z dz;omega
      refine gU1 (aI @A6 (aI @D5 (aI g5 (aI g0 (aI g1 (aI c1 (aI l1 (aI l2 (aI h4 (aI h4' (aI s1 (aI s2 dz)))))))))))) ?_;refine⟨om,rfl,by rw[<- e2];exact(fR),fR1 g0,fR1 g1,?_⟩;rw[show a.length-(k+1)=m by omega,PL (show m<a.length by omega),PL (show m<b.length by omega),hd1];have:=(List.getElem?_eq_some_iff.1 hx).2;have:=(List.getElem?_eq_some_iff.1 hy).2;congr 1;omega
    | false=>
      have hxy:x≠y:=by have:=z9z dz;omega
      rcases Nat.lt_or_gt_of_ne hxy with h1|h1
      ·have dl:decide (((x:Nat):Int)<((y:Nat):Int))=true:=dT;refine gU1 (aI @A6 (aI @D5 (aI g5 (aI g0 (aI g1 (aI c1 (aI l1 (aI l2 (aI h4 (aI h4' (aI s1 (aI s2 (aI dz dl))))))))))))) ?_;exact .inr ⟨_,rfl,by rw[Vr (Tx da hl hx hy hd1 h1)];exact(fR)⟩
      ·have dl:decide (((x:Nat):Int)<((y:Nat):Int))=false:=dF;refine gU1 (aI @A6 (aI @D5 (aI g5 (aI g0 (aI g1 (aI c1 (aI l1 (aI l2 (aI h4 (aI h4' (aI s1 (aI s2 (aI dz dl))))))))))))) ?_;exact .inr ⟨_,rfl,by rw[Vs (Tx db hl.symm hy hx hd1.symm h1)];exact(fR)⟩
  ·rintro r (⟨fr,rfl,e⟩|⟨fr,rfl,g4⟩)
   ·refine gU1 (a3N @A6 @D5 @Tryz.results210) ?_;rw[e,gD]
   ·refine gU1 (aI @A6 (aI @D5 (aI g4 @Tryz.results210))) ?_;try exact⟨⟩
 ·have d1:decide ((a.length:Int)=(b.length:Int))=false:=by simp;omega
  rcases Nat.lt_or_gt_of_ne hl with h1|h1
  ·have d2:decide ((a.length:Int)<(b.length:Int))=true:=dT;rw[Vr (Trm.len da tb h1)];refine gU1 (aI @A6 (aI @D5 (aI d1 (aI d2 @Tryz.results210)))) ?_;try exact⟨⟩
  ·have d2:decide ((a.length:Int)<(b.length:Int))=false:=dF;rw[Vs (Trm.len db ta h1)];refine gU1 (aI @A6 (aI @D5 (aI d1 (aI d2 @Tryz.results210)))) ?_;try exact⟨⟩
end
def DN.ot {lo:Nat}{Z:St}{v:Value}{l:List Nat}(h:OL lo Z 1 v (l.map fun d=>[dgv d])):DN Z v l:=by
 have hfl:(l.map fun d=>[dgv d]).flatten=l.map dgv:=by
  clear h;induction l with
  |nil=>rfl
  |cons d l ih=>rw[YW,Vu,ih];rfl
 obtain⟨hr,⟨rfl,h0⟩|⟨b,sp,rfl,hs,h1,h2,h3⟩⟩:=h
 ·exact .inl ⟨rfl,List.map_eq_nil_iff.1 h0⟩
 ·rw[z2z];refine .inr ⟨b,0,sp,l.length,_,rfl,BF _,hs,h2,A9 h3,?_⟩;rw[hfl];exact C8 (by simp) (by simp)
def RJ {x y be:Nat}(hx:x<65536) (hy:y<65536) (hb:be<=1):∃ d be',d<65536/\be'<=1/\d+be+y=x+65536*be'/\((be'=1/\decide (((x:Nat):Int)-(be:Nat)-(y:Nat)<0)=true/\((x:Nat):Int)-(be:Nat)-(y:Nat)+65536=(d:Nat))\/(be'=0/\decide (((x:Nat):Int)-(be:Nat)-(y:Nat)<0)=false/\((x:Nat):Int)-(be:Nat)-(y:Nat)=(d:Nat))):=by
 by_cases h:x<be+y
 ·exact⟨x+65536-be-y,1,om,om,om,.inl ⟨rfl,dT,om⟩⟩
 ·exact⟨x-be-y,0,om,om,om,.inr ⟨rfl,dF,om⟩⟩
def UB {O A B P d be be' x y:Nat}(h:O+B=A+be*P) (hd:d+be+y=x+65536*be'):O+P*d+(B+P*y)=A+P*x+be'*(P*65536):=by
 have e:=congrArg (P*·) hd;simp only[Sz]at e;rw[DW be P]at h;rw[DW be' (P*65536),Gf];omega
def Qo {Z:St}{v w:Value}{a b:List Nat}(ha:DN Z v a) (hb:DN Z w b) (da:Dig a) (db:Dig b) (la:a.length<=100) (lb:b.length<=100) (hle:D8 b<=D8 a) (hbl:b.length<=a.length) :
  Ev (gO 211 [v,w] Z) (fun r=>∃ v' l Z',r=⟨false,v',Z'⟩/\Ext Z Z'/\DN Z' v' l/\Dig l/\Trm l/\D8 l=D8 a-D8 b/\l.length<=a.length/\∀ k,N0 v'=some k->Z.n<=k) ⟨⟩:=by
 obtain⟨aa,ac,ab,ao,acs,rfl,a1,a2⟩:=ha.use;obtain⟨ba,bc,bb,bo,bcs,rfl,b1,b2⟩:=hb.use;refine C9 Tryz.func211 rfl rfl ?_;refine gU1 (a15N @A6 @W4 @Y0 @W8 @U5 @W5 @U6 @U7 @U8 @K3 @H9 @J3 @I5 @I6 @I0) ?_
 refine I4 a.length (fun i fr τ=>fr.get 7=some (.int .i64 i)/\fr.get 0=some (.slice aa a.length ac)/\fr.get 1=some (.slice ba b.length bc)/\Ext Z τ/\∃ be v o,fr.get 6=some (.int .i64 ((be:Nat):Int))/\fr.get 5=some v/\OL Z.n τ 1 v (o.map fun d=>[dgv d])/\be<=1/\o.length=i/\Dig o/\D8 o+D8 (b.take i)=D8 (a.take i)+be*65536 ^ i)
  (fun r=>∃ fr τ v o,r=⟨.exit 0,fr,τ⟩/\Ext Z τ/\fr.get 5=some v/\OL Z.n τ 1 v (o.map fun d=>[dgv d])/\o.length=a.length/\Dig o/\D8 o=D8 a-D8 b) ?_ ?_ ?_ ?_
 ·exact⟨fR,fR,fR,.refl _,0,_,[],fR,fR,OL.nil,om,rfl,Dig.nil,by simp[D8]⟩
 ·rintro i fr τ hi ⟨g7,g0,g1,hE,be,v,o,g6,g5,ho,hbe,hol,hod,hv⟩;have hc:=L9 hi;have hn:=hE.n;obtain⟨x,hx⟩:=H5 hi;have hx6:=da.get hx;obtain⟨sp,rfl,h3,h4⟩:=a1 om;have s1:=a2 i x hx;have r1:=eT (hE.row h3) h4;have l1:Nat.blt i a.length=true:=by rw[Bt];omega
  have e1:((i:Nat):Int)+1=((i+1:Nat):Int):=om;by_cases hib:i<b.length
  ·obtain⟨y,hy⟩:=H5 hib;have hy6:=db.get hy;obtain⟨sp',rfl,h3',h4'⟩:=b1 om;have s2:=b2 i y hy;have r2:=eT (hE.row h3') h4';have l2:Nat.blt i b.length=true:=by rw[Bt];omega
   have dib:decide (i<b.length)=true:=by simpa using hib
   obtain⟨d,be',hd6,Aw3,hde,hcs⟩:=RJ hx6 hy6 hbe;have hv':D8 (o++[d])+D8 (b.take (i+1))=D8 (a.take (i+1))+be'*65536 ^ (i+1):=by
    rw[GZ,hol,DE hx,DE hy,Hr];exact UB hv hde
   rcases hcs with⟨rfl,dn,ed⟩|⟨rfl,dn,ed⟩
   ·refine gU1 (aI @A6 (aI @W4 (aI @Y0 (aI @W8 (aI @U5 (aI @W5 (aI @U6 (aI @U7 (aI @U8 (aI @K3 (aI @H9 (aI @J3 (aI @I5 (aI @I6 (aI @I0 (aI g7 (aI g0 (aI g1 (aI g6 (aI g5 (aI hc (aI r1 (aI s1 (aI l1 (aI r2 (aI s2 (aI l2 (aI dib (aI dn ed))))))))))))))))))))))))))))) ?_;have ho':OL Z.n (τ.new [Value.int .i64 ((d:Nat):Int)]) 1 v (o.map fun d=>[dgv d]):=OL.ext ho (.new _ _);refine AF (row:=[dgv d]) (fun _ _ _ _=>Ag) ho' (K5 om om) (C8 (by simp) (by simp)) (by rw[z2z];omega) (by simp;omega) ?_;rintro v2 τ2 ho2 hap -;refine gU1 (aI @A6 (aI @W4 (aI @Y0 (aI @W8 (aI @U5 (aI @W5 (aI @U6 (aI @U7 (aI @U8 (aI @K3 (aI @H9 (aI @J3 (aI @I5 (aI @I6 (aI @I0 (aI g7 e1)))))))))))))))) ?_;exact⟨fR,fR1 g0,fR1 g1,hap.ext (hE.trans (.new _ _)) ho' nL,1,v2,o++[d],fR,fR,by rw[IY];exact ho2,om,by rw[Dc,hol];rfl,hod.snoc hd6,hv'⟩
   ·have dn':decide (((d:Nat):Int)<0)=false:=dF;refine gU1 (aI @A6 (aI @W4 (aI @Y0 (aI @W8 (aI @U5 (aI @W5 (aI @U6 (aI @U7 (aI @U8 (aI @K3 (aI @H9 (aI @J3 (aI @I5 (aI @I6 (aI @I0 (aI g7 (aI g0 (aI g1 (aI g6 (aI g5 (aI hc (aI r1 (aI s1 (aI l1 (aI r2 (aI s2 (aI l2 (aI dib (aI dn (aI dn' ed)))))))))))))))))))))))))))))) ?_;have ho':OL Z.n (τ.new [Value.int .i64 ((d:Nat):Int)]) 1 v (o.map fun d=>[dgv d]):=OL.ext ho (.new _ _);refine AF (row:=[dgv d]) (fun _ _ _ _=>Ag) ho' (K5 om om) (C8 (by simp) (by simp)) (by rw[z2z];omega) (by simp;omega) ?_;rintro v2 τ2 ho2 hap -;refine gU1 (aI @A6 (aI @W4 (aI @Y0 (aI @W8 (aI @U5 (aI @W5 (aI @U6 (aI @U7 (aI @U8 (aI @K3 (aI @H9 (aI @J3 (aI @I5 (aI @I6 (aI @I0 (aI g7 e1)))))))))))))))) ?_;exact⟨fR,fR1 g0,fR1 g1,hap.ext (hE.trans (.new _ _)) ho' nL,0,v2,o++[d],fR,fR,by rw[IY];exact ho2,om,by rw[Dc,hol];rfl,hod.snoc hd6,hv'⟩
  ·have dib:decide (i<b.length)=false:=by simpa using hib
   obtain⟨d,be',hd6,Aw3,hde,hcs⟩:=RJ (y:=0) hx6 om hbe;have z0:((x:Nat):Int)-(be:Nat)-((0:Nat):Int)=((x:Nat):Int)-(be:Nat):=om;rw[z0]at hcs;have hv':D8 (o++[d])+D8 (b.take (i+1))=D8 (a.take (i+1))+be'*65536 ^ (i+1):=by
    have hh:=UB hv hde;rw[cP,AG,Ql (show b.length<=i by omega)]at hh;rw[GZ,hol,DE hx,Ql (show b.length<=i+1 by omega),Hr];exact hh
   rcases hcs with⟨rfl,dn,ed⟩|⟨rfl,dn,ed⟩
   ·refine gU1 (aI @A6 (aI @W4 (aI @Y0 (aI @W8 (aI @U5 (aI @W5 (aI @U6 (aI @U7 (aI @U8 (aI @K3 (aI @H9 (aI @J3 (aI @I5 (aI @I6 (aI @I0 (aI g7 (aI g0 (aI g1 (aI g6 (aI g5 (aI hc (aI r1 (aI s1 (aI l1 (aI dib (aI dn ed)))))))))))))))))))))))))) ?_;have ho':OL Z.n (τ.new [Value.int .i64 ((d:Nat):Int)]) 1 v (o.map fun d=>[dgv d]):=OL.ext ho (.new _ _);refine AF (row:=[dgv d]) (fun _ _ _ _=>Ag) ho' (K5 om om) (C8 (by simp) (by simp)) (by rw[z2z];omega) (by simp;omega) ?_;rintro v2 τ2 ho2 hap -;refine gU1 (aI @A6 (aI @W4 (aI @Y0 (aI @W8 (aI @U5 (aI @W5 (aI @U6 (aI @U7 (aI @U8 (aI @K3 (aI @H9 (aI @J3 (aI @I5 (aI @I6 (aI @I0 (aI g7 e1)))))))))))))))) ?_;exact⟨fR,fR1 g0,fR1 g1,hap.ext (hE.trans (.new _ _)) ho' nL,1,v2,o++[d],fR,fR,by rw[IY];exact ho2,om,by rw[Dc,hol];rfl,hod.snoc hd6,hv'⟩
   ·have dn':decide (((d:Nat):Int)<0)=false:=dF;refine gU1 (aI @A6 (aI @W4 (aI @Y0 (aI @W8 (aI @U5 (aI @W5 (aI @U6 (aI @U7 (aI @U8 (aI @K3 (aI @H9 (aI @J3 (aI @I5 (aI @I6 (aI @I0 (aI g7 (aI g0 (aI g1 (aI g6 (aI g5 (aI hc (aI r1 (aI s1 (aI l1 (aI dib (aI dn (aI dn' ed))))))))))))))))))))))))))) ?_;have ho':OL Z.n (τ.new [Value.int .i64 ((d:Nat):Int)]) 1 v (o.map fun d=>[dgv d]):=OL.ext ho (.new _ _);refine AF (row:=[dgv d]) (fun _ _ _ _=>Ag) ho' (K5 om om) (C8 (by simp) (by simp)) (by rw[z2z];omega) (by simp;omega) ?_;rintro v2 τ2 ho2 hap -;refine gU1 (aI @A6 (aI @W4 (aI @Y0 (aI @W8 (aI @U5 (aI @W5 (aI @U6 (aI @U7 (aI @U8 (aI @K3 (aI @H9 (aI @J3 (aI @I5 (aI @I6 (aI @I0 (aI g7 e1)))))))))))))))) ?_;exact⟨fR,fR1 g0,fR1 g1,hap.ext (hE.trans (.new _ _)) ho' nL,0,v2,o++[d],fR,fR,by rw[IY];exact ho2,om,by rw[Dc,hol];rfl,hod.snoc hd6,hv'⟩
 ·rintro fr τ ⟨g7,g0,g1,hE,be,v,o,g6,g5,ho,hbe,hol,hod,hv⟩;refine gU1 (aI @A6 (aI @W4 (aI @Y0 (aI @W8 (aI @U5 (aI @W5 (aI @U6 (aI @U7 (aI @U8 (aI @K3 (aI @H9 (aI @J3 (aI @I5 (aI @I6 (aI @I0 (aI g7 (aI g0 @Pl))))))))))))))))) ?_;refine⟨_,_,v,o,rfl,hE,fR1 g5,ho,hol,hod,?_⟩;rw[JF,Ql hbl]at hv;have h1:=KP hod;rw[hol]at h1;rcases(show be=0\/be=1 by omega)with rfl|rfl
  ·omega
  ·rw[QA]at hv;omega
 rintro r ⟨fr,τ,v,o,rfl,hE,g5,ho,hol,hod,hv⟩;have hdn:=DN.ot ho;obtain⟨va,vc,rfl⟩:=hdn.shape;refine gU1 (aI @A6 (aI @W4 (aI @Y0 (aI @W8 (aI @U5 (aI @W5 (aI @U6 (aI @U7 (aI @U8 (aI @K3 (aI @H9 (aI @J3 (aI @I5 (aI @I6 (aI @I0 g5))))))))))))))) ?_;refine(Ck hdn om).mono ?_;rintro r ⟨v',l',rfl,hd',⟨k,hk⟩,ht,hv',hbk⟩;obtain⟨va',vc',rfl⟩:=hd'.shape;refine gU1 (a3N @A6 @D5 @Tryz.results211) ?_;exact⟨_,l',_,rfl,hE,hd',by rw[hk];exact hod.take k,ht,by rw[hv',hv],by rw[hk,IK,hol];omega,fun k hk=>(ho.blk (by rw[<- hbk];exact hk)).1⟩
section
variable {l:List Nat}{y x k j V Q P c o V':Nat}
def GU (x:Nat) (b:List Nat) (i:Nat) (out:List Nat):Nat->List Nat×Nat
 |0=>(out,0)
 |k+1=>((GU x b i out k).1.set (i+k) (((GU x b i out k).1.getD (i+k) 0+x*b.getD k 0+(GU x b i out k).2) % 65536),((GU x b i out k).1.getD (i+k) 0+x*b.getD k 0+(GU x b i out k).2) / 65536)
def Gy (a b:List Nat):Nat->List Nat
 |0=>List.replicate (a.length+b.length) 0
 |i+1=>(GU (a.getD i 0) b i (Gy a b i) b.length).1.set (i+b.length) (GU (a.getD i 0) b i (Gy a b i) b.length).2
def getD_at (h:l[k]? =some x):l.getD k 0=x:=by rw[List.getD,h];rfl
def iw (h:Dig l) (hy:y<65536):Dig (l.set j y):=fun x hx=>by
 rcases AE8 hx with hx|rfl
 ·exact h x hx
 ·exact hy
def IB (h:Dig l) (k:Nat):l.getD k 0<65536:=by
 cases hk:l[k]? with
 |none=>simp[List.getD,hk]
 |some x=>rw[getD_at hk];exact h x (Bs hk)
def getD_set_ne (h:j≠k):(l.set j y).getD k 0=l.getD k 0:=by
 rw[List.getD,List.getD,List.getElem?_set_ne h]
def Jw (x:Nat) (b:List Nat) (i:Nat) (out:List Nat):∀ k,(GU x b i out k).1.length=out.length
 |0=>rfl
 |k+1=>by rw[GU,oB,Jw x b i out k]
def il (hx:x<65536) (hy:y<65536):x*y<=4294836225:=by
 have:=mz (Nat.le_of_lt_succ hx) (Nat.le_of_lt_succ hy);omega
def Ws {x:Nat}{b:List Nat}{i:Nat}{out:List Nat}(hx:x<65536) (hb:∀ k,b.getD k 0<65536) (ho:Dig out):∀ k,Dig (GU x b i out k).1/\(GU x b i out k).2<65536
 |0=>⟨ho,by show 0<65536;omega⟩
 | k+1=>by
   obtain⟨h1,h2⟩:=Ws (i:=i) hx hb ho k;have h3:=IB h1 (i+k);have h4:=il hx (hb k);rw[GU];exact⟨iw h1 om,by show _ / 65536<65536;omega⟩
def Gz (a b:List Nat):∀ i,(Gy a b i).length=a.length+b.length
 |0=>by simp[Gy]
 |i+1=>by rw[Gy,oB,Jw,Gz a b i]
def Wu {a b:List Nat}(ha:∀ k,a.getD k 0<65536) (hb:∀ k,b.getD k 0<65536):∀ i,Dig (Gy a b i)
 | 0=>fun x hx=>by
   rw[Gy]at hx;obtain⟨_,rfl⟩:=List.mem_replicate.1 hx;omega
 | i+1=>by
   obtain⟨h1,h2⟩:=Ws (i:=i) (ha i) hb (Wu ha hb i) b.length;rw[Gy];exact iw h1 h2
def Sh:∀ {l:List Nat}{j:Nat}(y:Nat),j<l.length->D8 (l.set j y)+65536 ^ j*l.getD j 0=D8 l+65536 ^ j*y
 | [],j,y,h=>by simp at h
 | d::l,0,y,_=>by
   rw[List.set_cons_zero,j8,j8,gY,QA,QA];show y+65536*D8 l+d=_;omega
 | d::l,j+1,y,h=>by
   have ih:=Sh (l:=l) (j:=j) y (by simpa using h);rw[List.set_cons_succ,j8,j8,Hr];show d+65536*D8 (l.set j y)+65536 ^ j*65536*l.getD j 0=_;have e:=congrArg (65536*·) ih;simp only[Sz]at e;rw[<- Gf,<- Gf,DW 65536 (65536 ^ j)]at e;omega
def Uq:∀ n,D8 (List.replicate n 0)=0
 |0=>rfl
 |n+1=>by rw[AG5,j8,Uq n]
def mH (n k:Nat):(List.replicate n 0).getD k 0=0:=by
 rw[List.getD,List.getElem?_replicate];by_cases h:k<n
 ·rw[z1z h];rfl
 ·rw[z0z h];rfl
def Sj (x:Nat) (b:List Nat) (i:Nat) (out:List Nat):∀ k j,i+k<=j->(GU x b i out k).1.getD j 0=out.getD j 0
 |0,j,h=>rfl
 |k+1,j,h=>by rw[GU,getD_set_ne om,Sj x b i out k j om]
def uV {M D R:Nat}(h:V+P*c=Q) (h2:V'+P*o=V+P*R) (hd:65536*D+R=o+M+c):V'+P*65536*D=Q+P*M:=by
 have e:=congrArg (P*·) hd;simp only[Sz]at e;rw[<- Gf]at e;omega
def AA8 (h:V+P*c=Q) (h2:V'+P*o=V+P*((o+x*y+c) % 65536)):V'+P*65536*((o+x*y+c) / 65536)=Q+P*(x*y) :=
 uV h h2 (Rc ..)
def ar {x:Nat}{b:List Nat}{i:Nat}{out:List Nat}(hl:i+b.length<=out.length):∀ k,k<=b.length->D8 (GU x b i out k).1+65536 ^ (i+k)*(GU x b i out k).2=D8 out+65536 ^ i*(x*D8 (b.take k))
 |0,_=>by simp[GU,D8]
 | k+1,h=>by
   have ih:=ar (x:=x) hl k om;obtain⟨y,hy⟩:∃ y,b[k]? =some y:=⟨_,List.getElem?_eq_getElem om⟩
   have hs:=Sh (l:=(GU x b i out k).1) (j:=i+k) (((GU x b i out k).1.getD (i+k) 0+x*b.getD k 0+(GU x b i out k).2) % 65536) (by rw[Jw];omega);rw[GU,<- VD,Hr,DE hy];have:=AA8 ih hs;rw[this,getD_at hy,Sz,Sz,Nat.pow_add];rw[show 65536 ^ i*(x*(65536 ^ k*y))=65536 ^ i*65536 ^ k*(x*y)from by rw[Nat.mul_left_comm x,Gf]];omega
def au (a b:List Nat):∀ i j,i+b.length<=j->(Gy a b i).getD j 0=0
 |0,j,_=>mH _ _
 |i+1,j,h=>by rw[Gy,getD_set_ne om,Sj _ _ _ _ _ _ om,au a b i j om]
def aQ {a b:List Nat}:∀ i,i<=a.length->D8 (Gy a b i)=D8 (a.take i)*D8 b
 |0,_=>by rw[Gy,Uq,Oa,RZ,Fp]
 | i+1,h=>by
   obtain⟨x,hx⟩:∃ x,a[i]? =some x:=⟨_,List.getElem?_eq_getElem om⟩
   have h1:=ar (x:=a.getD i 0) (b:=b) (i:=i) (out:=Gy a b i) (by rw[Gz];omega) b.length nL;have h2:=Sh (l:=(GU (a.getD i 0) b i (Gy a b i) b.length).1) (j:=i+b.length) (GU (a.getD i 0) b i (Gy a b i) b.length).2 (by rw[Jw,Gz];omega);rw[Sj _ _ _ _ _ _ nL,au _ _ _ _ nL,cP,AG]at h2;rw[Gy,h2,h1,aQ i om,JF,DE hx,getD_at hx,Sr,Gf]
end
section
variable {l:List Nat}{j:Nat}{Z:St}
def LW {y:Nat}(h:j<l.length):M7 (l.map dgv) j [.int .i64 (y:Int)]=some ((l.set j y).map dgv):=by
 rw[LU (by simp;omega),List.map_set,List.set_eq_take_append_cons_drop,z1z (by simpa using h)];simp[dgv]
def AU0 (h:j<l.length):sub (l.map dgv) j 1=some [.int .i64 ((l.getD j 0:Nat):Int)]:=by
 rw[o9 (by simp;omega),PL (by simpa using h)];simp[List.getD,List.getElem?_eq_getElem h,dgv]
def VZ:∀ n,rep [.int .i64 0] n=(List.replicate n 0).map dgv
 |0=>rfl
 |n+1=>by rw[Ya,VZ n];rfl
def DN.Vd {b:Nat}(hb:b<Z.n) (hr:Z.row b=some (l.map dgv)):DN Z (.slice (some ⟨b,0,none⟩) l.length l.length) l :=
 .inr ⟨b,0,none,_,_,rfl,BF _,.inl rfl,hb,hr,C8 (by simp) (by simp)⟩
def Uc {v w:Value}{a b:List Nat}(ha:DN Z v a) (hb:DN Z w b) (da:Dig a) (db:Dig b) (la:a.length<=100) (lb:b.length<=100):
  Ev (gO 212 [v,w] Z) (fun r=>∃ v' l Z',r=⟨false,v',Z'⟩/\Ext Z Z'/\DN Z' v' l/\Dig l/\Trm l/\D8 l=D8 a*D8 b/\l.length<=a.length+b.length) ⟨⟩:=by
 have dla:∀ k,a.getD k 0<65536:=IB da;have dlb:∀ k,b.getD k 0<65536:=IB db;obtain⟨va,vc,vb,vo,vcs,rfl,h1,h2⟩:=ha.use;obtain⟨wa,wc,wb,wo,wcs,rfl,k1,k2⟩:=hb.use;have BB9:((a.length:Int)+(b.length:Int))=((a.length+b.length:Nat):Int):=om;have Uw:rep [.int .i64 0] (a.length+b.length)=(Gy a b 0).map dgv:=VZ _;refine C9 Tryz.func212 rfl rfl ?_;refine gU1 (aI @A6 (aI @D5 (aI BB9 Uw))) ?_
 refine I4 a.length (fun i fr Z'=>fr.get 5=some (.slice (some ⟨Z.n,0,none⟩) (a.length+b.length) (a.length+b.length))/\fr.get 6=some (.int .i64 (i:Nat))/\fr.get 0=some (.slice va a.length vc)/\fr.get 1=some (.slice wa b.length wc)/\Ext Z Z'/\Z.n<Z'.n/\Z'.A7 Z.n=some ((Gy a b i).map dgv))
  (fun r=>∃ fr Z',r=⟨.exit 0,fr,Z'⟩/\fr.get 5=some (.slice (some ⟨Z.n,0,none⟩) (a.length+b.length) (a.length+b.length))/\Ext Z Z'/\Z.n<Z'.n/\Z'.A7 Z.n=some ((Gy a b a.length).map dgv)) ?_ ?_ ?_ ?_
 ·exact⟨fR,fR,fR,fR,eX,by simp,cL⟩
 ·rintro i fr Z1 hi ⟨g5,g6,g0,g1,hE1,hn1,ho1⟩;have ca:decide (i<a.length)=true:=by simpa using hi
  obtain⟨x,hx'⟩:=H5 hi;have hx:=getD_at hx';have xl:=dla i;rw[hx]at xl;obtain⟨sp,rfl,l3,l4⟩:=h1 om;have l7:=h2 i _ hx';obtain⟨tr,htr⟩:=nm (GU x b i (Gy a b i));have hlt:∀ k,Dig (tr k).1/\(tr k).2<65536:=fun k=>by rw[<- htr];exact Ws xl dlb (Wu dla dlb i) k
  have hln:∀ k,(tr k).1.length=a.length+b.length:=fun k=>by rw[<- htr,Jw,Gz]
  have ht0:(tr 0)=(Gy a b i,0):=by rw[<- htr];rfl
  have hts:∀ k,tr (k+1)=((tr k).1.set (i+k) (((tr k).1.getD (i+k) 0+x*b.getD k 0+(tr k).2) % 65536),((tr k).1.getD (i+k) 0+x*b.getD k 0+(tr k).2) / 65536):=fun k=>by rw[<- htr];rfl
  refine gU1 (aI @A6 (aI @D5 (aI g5 (aI g6 (aI g0 (aI g1 ca)))))) ?_
  refine I4 b.length (fun k fr Z'=>fr.get 5=some (.slice (some ⟨Z.n,0,none⟩) (a.length+b.length) (a.length+b.length))/\fr.get 6=some (.int .i64 (i:Nat))/\fr.get 7=some (.int .i64 ((tr k).2:Nat))/\fr.get 8=some (.int .i64 (k:Nat))/\fr.get 0=some (.slice (some ⟨vb,vo,sp⟩) a.length vc)/\fr.get 1=some (.slice wa b.length wc)/\Ext Z Z'/\Z.n<Z'.n/\Z'.A7 Z.n=some ((tr k).1.map dgv))
   (fun r=>∃ fr Z',r=⟨.exit 2,fr,Z'⟩/\fr.get 5=some (.slice (some ⟨Z.n,0,none⟩) (a.length+b.length) (a.length+b.length))/\fr.get 6=some (.int .i64 (i:Nat))/\fr.get 7=some (.int .i64 ((tr b.length).2:Nat))/\fr.get 0=some (.slice (some ⟨vb,vo,sp⟩) a.length vc)/\fr.get 1=some (.slice wa b.length wc)/\Ext Z Z'/\Z.n<Z'.n/\Z'.A7 Z.n=some ((tr b.length).1.map dgv)) ?_ ?_ ?_ ?_
  ·exact⟨fR1 g5,fR1 g6,by rw[ht0];exact(fR),fR,fR1 g0,fR1 g1,hE1,hn1,by rw[ht0];exact ho1⟩
  ·rintro k fr Z' hk ⟨g5,g6,g7,g8,g0,g1,hE,hn,ho⟩;have cb:decide (k<b.length)=true:=by simpa using hk
   obtain⟨y,hy'⟩:=H5 hk;have hy:=getD_at hy';have yl:=dlb k;rw[hy]at yl;obtain⟨sp',rfl,l3',l4'⟩:=k1 om;have l5:=eT (hE.row l3) l4;have l5':=eT (hE.row l3') l4';have l7':=k2 k _ hy';have hij:i+k<(tr k).1.length:=by rw[hln];omega
   obtain⟨ts,BC0⟩:=nm ((tr k).1);obtain⟨c,hc⟩:=nm ((tr k).2);have hcl:=(hlt k).2;have htl:=(hlt k).1;have hst:=hts k;have hll:=hln k;rw[BC0]at ho hij htl hst hll;rw[hc]at g7 hcl hst;obtain⟨o,hod⟩:=nm (ts.getD (i+k) 0);have ol:o<65536:=by rw[<- hod];exact IB htl _
   obtain⟨Pr,hP⟩:=nm (x*y);have hPl:Pr<=4294836225:=by rw[<- hP];exact il xl yl
   have hPi:(x:Int)*(y:Int)=(Pr:Int):=by rw[<- hP];exact(Int.natCast_mul x y).symm
   obtain⟨D,hD⟩:=nm (o+Pr+c);rw[hy,hod,hP,hD]at hst;have so:=AU0 hij;rw[hod]at so;have ho':=A9 ho;have hix:((i:Int)+(k:Int))=((i+k:Nat):Int):=om;have hbl:Nat.blt (i+k) (a.length+b.length)=true:=dE om;have f2:((o:Int)+(Pr:Int)+(c:Int))=(D:Int):=om;have f3:(D:Int).tmod 65536=((D % 65536:Nat):Int):=rfl;have f4:(D:Int).tdiv 65536=((D / 65536:Nat):Int):=rfl;have f6:M7 (ts.map dgv) (i+k) [.int .i64 ((D % 65536:Nat):Int)]=some ((ts.set (i+k) (D % 65536)).map dgv):=LW hij;refine gU1 (aI @A6 (aI @D5 (aI g5 (aI g6 (aI g7 (aI g8 (aI g0 (aI g1 (aI cb (aI hix (aI hbl (aI ho' (aI so (aI l5 (aI l7 (aI l5' (aI l7' (aI hPi (aI f2 (aI f3 (aI f4 (aI ho f6)))))))))))))))))))))) ?_;refine⟨trivial,trivial,by rw[hst],trivial,trivial,trivial,hE.upd nL _,by simpa using hn,by rw[hst]⟩
  ·rintro fr Z' ⟨g5,g6,g7,g8,g0,g1,hE,hn,ho⟩;refine gU1 (aI @A6 (aI @D5 (aI g5 (aI g6 (aI g7 (aI g8 (aI g0 g1))))))) ?_;exact⟨_,_,rfl,fR1 g5,fR1 g6,fR1 g7,fR1 g0,fR1 g1,hE,hn,ho⟩
  rintro r ⟨fr,Z',rfl,g5,g6,g7,g0,g1,hE,hn,ho⟩;have hix:((i:Int)+(b.length:Int))=((i+b.length:Nat):Int):=om;have hbl:Nat.blt (i+b.length) (a.length+b.length)=true:=dE om;have f6:M7 ((tr b.length).1.map dgv) (i+b.length) [.int .i64 ((tr b.length).2:Nat)]=some (((tr b.length).1.set (i+b.length) (tr b.length).2).map dgv):=LW (by rw[hln];omega);refine gU1 (aI @A6 (aI @D5 (aI g5 (aI g6 (aI g7 (aI g0 (aI g1 (aI hix (aI hbl (aI ho f6)))))))))) ?_;refine⟨trivial,trivial,trivial,trivial,hE.upd nL _,by simpa using hn,?_⟩;rw[show Gy a b (i+1)=(tr b.length).1.set (i+b.length) (tr b.length).2 from by rw[Gy,hx,htr]]
 ·rintro i Z' ⟨g5,g6,g0,g1,hE,hn,ho⟩;refine gU1 (aI @A6 (aI @D5 (aI g5 (aI g6 (aI g0 g1))))) ?_;exact⟨_,_,rfl,fR1 g5,hE,hn,ho⟩
 rintro r ⟨fr,Z',rfl,g5,hE,hn,ho⟩;have hD:=DN.Vd hn (A9 ho);rw[Gz]at hD;refine gU1 (aI @A6 (aI @D5 g5)) ?_;refine(Ck hD (by rw[Gz];omega)).mono ?_;rintro r ⟨v',l',rfl,hd',⟨k,hk⟩,ht,hv',-⟩;obtain⟨va',vc',rfl⟩:=hd'.shape;refine gU1 (a3N @A6 @D5 @Tryz.results212) ?_;exact⟨_,l',_,rfl,hE,hd',by rw[hk];exact(Wu dla dlb _).take k,ht,by rw[hv',aQ _ nL,JF],by rw[hk,IK,Gz];omega⟩
end
section
variable {x d y B r:Nat}{Z:St}{v:Value}{a:List Nat}
def Dig.one (h:d<65536):Dig [d]:=fun x hx=>by rw[Lf]at hx;rw[hx];exact h
def AE7 (ha:DN Z v a) (da:Dig a) (hd:d<65536) (la:a.length<=100):
  Ev (gO 213 [v,.int .i64 (d:Int)] Z) (fun r=>∃ v' l Z',r=⟨false,v',Z'⟩/\Ext Z Z'/\DN Z' v' l/\Dig l/\Trm l/\D8 l=D8 a*d/\l.length<=a.length+1) ⟨⟩:=by
 obtain⟨aa,ac,hsh⟩:=ha.shape;subst hsh;have hE:Ext Z (Z.new [Value.int .i64 (d:Int)]):= .new _ _;have hd1:DN (Z.new [Value.int .i64 (d:Int)]) (.slice (some ⟨Z.n,0,none⟩) 1 1) [d]:=DN.Vd (l:=[d]) (by simp) (K5 nL nL);refine C9 Tryz.func213 rfl rfl ?_;refine gU1 (aI @A6 @D5) ?_;refine(Uc (ha.mono hE) hd1 da (Dig.one hd) la (by simp)).mono ?_;rintro r ⟨v',l,Z',rfl,hE',hd',h1,h2,h3,h4⟩;obtain⟨va',vc',rfl⟩:=hd'.shape;refine gU1 (a3N @A6 @D5 @Tryz.results213) ?_;exact⟨_,l,_,rfl,hE.trans hE',hd',h1,h2,by rw[h3,j8,RZ,cP,AG],by simpa using h4⟩
def DN.src {l:List Nat}(h:DN Z v l):Ao Z 1 v=some (l.length,l.map dgv):=by
 rcases h with⟨rfl,rfl⟩|⟨b,off,sp,c,cells,rfl,h2,h3,h4,h5,h6⟩
 ·rfl
 ·rw[KR,Cz,h5,D4,MH,h6,D4]
def AL5 {Z:St}{v:Value}{l:List Nat}{x:Nat}{Q:Value×St->Prop}{uq:Hd Q}(hl:DN Z v l) (hlen:l.length<=1000)
  (h:∀ v' Z',DN Z' v' (x::l)->Ext Z Z'->(∀ k,N0 v'=some k->Z.n<=k)->Q (v',Z')):Ev (FL Tryz.prog (Z.new [Value.int .i64 (x:Int)]) 22 (.slice (some ⟨Z.n,0,none⟩) 1 1) v) Q uq:=by
 have hE:Ext Z (Z.new [Value.int .i64 (x:Int)]):= .new _ _;have hl':=hl.mono hE;have AI4:(Z.new [Value.int .i64 (x:Int)]).A7 Z.n=some [dgv x]:=O9 nL nL;rw[Ag,hl'.src,D4,Jv];by_cases h0:l.length=0
 ·obtain rfl:l=[]:=XB h0;rw[show Nat.ble (1+([]:List Nat).length) 1=true from rfl,GN,Vx,Mz,AI4,D4];rw[show M7 [dgv x] (0+1*1) (([]:List Nat).map dgv)=some [dgv x]from rfl,D4,D4,K6];refine h _ _ ?_ (hE.upd nL _) fun k hk=>by cases hk;exact BF _
  exact DN.Vd (l:=[x]) (by simp) (A9 R5)
 ·have Cj:Nat.ble ((1+l.length)*9) room=true:=Jk (by show _<=4294967296;omega);rw[Lm om,BR,Cj,Ax,YY,Cz,A9 AI4,D4];rw[show sub [dgv x] 0 (1*1)=some [dgv x]from rfl,D4,K6];refine h _ _ ?_ (hE.trans (.new _ _)) fun k hk=>by cases hk;simp
  refine .inr ⟨_,0,some 1,1+l.length,_,by rw[CE,gB],by rw[CE];omega,.inr rfl,by simp,A9 (O9 nL nL),?_⟩;exact C8 (by simp) (by simp)
def vg:decide (PQ x y<0)=decide (x<y):=by
 unfold PQ;by_cases h:x<y
 ·rw[z1z h];simp[h]
 ·rw[z0z h];by_cases h2:x=y
  ·rw[z1z h2];simp[h]
  ·rw[z0z h2];simp[h]
def fi:decide ((0:Int)<PQ x y)=decide (y<x):=by
 unfold PQ;by_cases h:x<y
 ·rw[z1z h];simp;omega
 ·rw[z0z h];by_cases h2:x=y
  ·rw[z1z h2];simp;omega
  ·rw[z0z h2];simp;omega
def Xs {A q:Nat}(hB:r<B) (h:A=q*B+r):q=A / B/\r=A % B:=by
 subst h;rw[DW];constructor
 ·rw[Nat.mul_add_div om,sW hB,AG]
 ·rw[Nat.mul_add_mod,QE hB]
def jX {Qd R low r':Nat}(hR:R=x+65536*r) (h1:low*B<=R) (hr:r'=R-B*low):x+65536*(Qd*B+r)=(low+65536*Qd)*B+r':=by
 rw[DW B low]at hr;rw[Sr,Sz,Gf];omega
def Trm.length_le {b:List Nat}(da:Dig a) (tb:Trm b) (h:D8 b<=D8 a):b.length<=a.length:=by
 rcases AW a.length b.length with h1|h1
 ·have:=Trm.len da tb h1;omega
 ·exact h1
end
def set_drop {α:Type}{l:List α}{m:Nat}{y:α}(h:m<l.length):(l.set m y).drop m=y::l.drop (m+1):=by
 rw[PL (by simpa using h),List.getElem_set_self,List.drop_set_of_lt om]
def DN.upd {Z:St}{v:Value}{l:List Nat}{c:Nat}{cs:List Value}(h:DN Z v l) (hc:N0 v≠some c):DN (Z.upd c cs) v l:=by
 rcases h with h|⟨b,off,sp,c',cells,h1,h2,h3,h4,h5,h6⟩
 ·exact .inl h
 ·subst h1;have hne:b≠c:=fun e=>hc (by rw[e];rfl);exact .inr ⟨b,off,sp,c',cells,rfl,h2,h3,h4,by rw[AR (show(Z.upd c cs).h.get b=Z.h.get b by rw[W1,z0z hne])];exact h5,h6⟩
def VU {Z:St}{v w:Value}{a b:List Nat}(ha:DN Z v a) (hb:DN Z w b) (da:Dig a) (db:Dig b) (tb:Trm b) (la:a.length<=50) (lb:b.length<=50) (h0:0<D8 b) :
  Ev (gO 181 [v,w] Z) (fun r=>∃ v1 v2 q l Z',r=⟨false,.tuple ⟨[v1,v2]⟩,Z'⟩/\Ext Z Z'/\DN Z' v1 q/\DN Z' v2 l/\Dig q/\Dig l/\Trm q/\Trm l/\D8 q=D8 a / D8 b/\D8 l=D8 a % D8 b/\q.length<=a.length/\l.length<=b.length) ⟨⟩:=by
 obtain⟨aa,ac,ab,ao,acs,hsa,a1,a2⟩:=ha.use;obtain⟨wa,wc,hsb⟩:=hb.shape;subst hsa hsb;obtain⟨B,hB⟩:=nm (D8 b);rw[hB]at h0;have Uw:rep [.int .i64 0] a.length=(List.replicate a.length 0).map dgv:=VZ _;refine C9 Tryz.func181 rfl rfl ?_;refine gU1 (aI @A6 (aI @D5 Uw)) ?_
 refine KK a.length (fun k fr τ=>fr.get 8=some (.int .i64 ((a.length:Int)-1-(k:Nat)))/\fr.get 0=some (.slice aa a.length ac)/\fr.get 1=some (.slice wa b.length wc)/\fr.get 6=some (.slice (some ⟨Z.n,0,none⟩) a.length a.length)/\Ext Z τ/\Z.n<τ.n /\
   ∃ vr r Q,fr.get 7=some vr/\DN τ vr r/\(∀ k,N0 vr=some k->Z.n<k)/\Dig r/\Trm r/\D8 r<B/\τ.A7 Z.n=some (Q.map dgv)/\Q.length=a.length/\Dig Q/\D8 (a.drop (a.length-k))=D8 (Q.drop (a.length-k))*B+D8 r)
  (fun r=>∃ fr τ vr l Q,r=⟨.exit 0,fr,τ⟩/\Ext Z τ/\Z.n<τ.n/\fr.get 6=some (.slice (some ⟨Z.n,0,none⟩) a.length a.length)/\fr.get 7=some vr/\DN τ vr l/\Dig l/\Trm l/\D8 l<B/\τ.A7 Z.n=some (Q.map dgv)/\Q.length=a.length/\Dig Q/\D8 a=D8 Q*B+D8 l) ?_ ?_ ?_
 ·refine⟨by rw[show((a.length:Int)-1-((0:Nat):Int))=(a.length:Int)-1 by omega];exact(fR),fR,fR,fR,.new _ _,by simp,.slice none 0 0,[],List.replicate a.length 0,fR,.inl ⟨rfl,rfl⟩,fun k hk=>(by cases hk),.nil,.nil,h0,O9 nL nL,by simp,?_,?_⟩
  ·intro x hx;obtain⟨_,rfl⟩:=List.mem_replicate.1 hx;omega
  ·rw[Va,fh,Xr (by simp)];simp[D8]
 ·rintro k fr τ hk ⟨g8,g0,g1,g6,hE,hn,vr,r,Q,g7,hr,hrb,dr,tr,hrB,hQ,hQl,dQ,hinv⟩;by_cases hk2:k=a.length
  ·subst hk2;have e1:((a.length:Int)-1-(a.length:Nat))= -1:=om;rw[e1]at g8;have d2:decide ((-1:Int)<0)=true:=rfl;refine gU1 (aI @A6 (aI @D5 (aI g8 (aI d2 @br)))) ?_;rw[Vb,Sv,Sv]at hinv;exact⟨_,_,vr,r,Q,rfl,hE,hn,fR1 g6,fR1 g7,hr,dr,tr,hrB,hQ,hQl,dQ,hinv⟩
  ·obtain⟨m,hm⟩:=nm (a.length-1-k);have e1:((a.length:Int)-1-(k:Nat))=((m:Nat):Int):=om;rw[e1]at g8;rw[show a.length-k=m+1 by omega]at hinv;obtain⟨x,hx⟩:=H5 (l:=a) (k:=m) om;have xl:=da.get hx;obtain⟨sp,rfl,h3,h4⟩:=a1 om;have s1:=a2 m x hx;have r1:=eT (hE.row h3) h4;have c1:decide (((m:Nat):Int)<0)=false:=dF;have l1:Nat.blt m a.length=true:=by rw[Bt];omega
   have lr:r.length<=b.length:=Trm.length_le db tr om;obtain⟨ra,rc,hrs⟩:=hr.shape;refine gU1 (aI @A6 (aI @W4 (aI @Y0 (aI @W8 (aI @U5 (aI @W5 (aI @U6 (aI @U7 (aI @U8 (aI @K3 (aI @H9 (aI @J3 (aI @I5 (aI @I6 (aI @I0 (aI g8 (aI g0 (aI g1 (aI g6 (aI g7 (aI c1 (aI r1 (aI s1 (aI l1 @XN)))))))))))))))))))))))) ?_;refine AL5 hr om ?_;rintro v2 τ2 hd2 hE2 hb2;obtain⟨w2,c2,hs2⟩:=hd2.shape;subst hs2;refine gU1 (aI @A6 (aI @D5 (aI g8 (aI g0 (aI g1 g6))))) ?_;refine(Ck hd2 (by rw[CE];omega)).mono ?_;rintro z ⟨v3,l3,rfl,hd3,⟨kk,hkk⟩,ht3,hv3,Av4⟩;obtain⟨w3,c3,hs3⟩:=hd3.shape;subst hs3;have dl3:Dig l3:=by rw[hkk];exact(dr.cons xl).take kk
   have ll3:l3.length<=r.length+1:=by rw[hkk,IK,CE];omega
   obtain⟨R,hR⟩:=nm (D8 l3);have hRv:R=x+65536*D8 r:=by rw[<- hR,hv3,j8]
   have hRB:R<65536*B:=om;have AL6:=hE.trans hE2;refine gU1 (aI @A6 (aI @D5 (aI g8 (aI g0 (aI g1 g6))))) ?_;refine(LV hd3 (hb.mono AL6) dl3 db ht3 tb om om).mono ?_;rintro z rfl;rw[hR,hB];have hn2:Z.n<τ2.n:=z5z hn hE2.n;have hQ2:τ2.A7 Z.n=some (Q.map dgv):=by rw[D6 (hE2.same _ hn)];exact hQ
   have hb3:N0 (.slice w3 l3.length c3)≠some Z.n:=fun e=>by
    have:=hb2 Z.n (by rw[<- Av4];exact e);omega
   have hmQ:m<Q.length:=om;cases hc:decide (R<B)
   all_goals
    refine gU1 (aI @A6 (aI @D5 (aI g8 (aI g0 (aI g1 (aI g6 (aI @vg hc))))))) ?_
    refine CD (fun n fr τ'=>∃ lo hi,hi-lo<=n/\fr.get 9=some (.int .i64 ((lo:Nat):Int))/\fr.get 10=some (.int .i64 ((hi:Nat):Int))/\fr.get 8=some (.int .i64 ((m:Nat):Int))/\fr.get 0=some (.slice (some ⟨ab,ao,sp⟩) a.length ac)/\fr.get 1=some (.slice wa b.length wc)/\fr.get 6=some (.slice (some ⟨Z.n,0,none⟩) a.length a.length)/\fr.get 7=some (.slice w3 l3.length c3)/\Ext τ2 τ'/\lo<hi/\hi<=65536/\B*lo<=R/\R<B*hi)
     (fun r=>∃ fr τ' lo,r=⟨.exit 2,fr,τ'⟩/\fr.get 9=some (.int .i64 ((lo:Nat):Int))/\fr.get 8=some (.int .i64 ((m:Nat):Int))/\fr.get 0=some (.slice (some ⟨ab,ao,sp⟩) a.length ac)/\fr.get 1=some (.slice wa b.length wc)/\fr.get 6=some (.slice (some ⟨Z.n,0,none⟩) a.length a.length)/\fr.get 7=some (.slice w3 l3.length c3)/\Ext τ2 τ'/\lo<65536/\B*lo<=R/\R<B*(lo+1)) 65536 ?_ ?_ ?_
    ·have hc0:=hc;simp only[Dn,VR]at hc0
     first
     |exact⟨0,65536,om,fR,fR,fR1 g8,fR1 g0,fR1 g1,fR1 g6,fR,.refl _,om,om,om,om⟩
     |exact⟨0,1,om,fR,fR,fR1 g8,fR1 g0,fR1 g1,fR1 g6,fR,.refl _,om,om,om,om⟩
    ·rintro n fr τ' ⟨lo,hi,hnn,g9,g10,g8,g0,g1,g6,g7,hE3,h1,h2,h3,h4⟩;by_cases hd:lo+1<hi
     ·have d1:decide ((1:Int)<((hi:Nat):Int)-((lo:Nat):Int))=true:=dT;have f1:((lo:Nat):Int)+((hi:Nat):Int)=((lo+hi:Nat):Int):=om;have f2:(((lo+hi:Nat):Nat):Int).tdiv 2=(((lo+hi) / 2:Nat):Int):=rfl;obtain⟨mid,Av5⟩:=nm ((lo+hi) / 2);rw[Av5]at f2;refine gU1 (aI @A6 (aI @D5 (aI g8 (aI g0 (aI g1 (aI g6 (aI g7 (aI g9 (aI g10 (aI d1 (aI @f1 f2))))))))))) ?_;refine(AE7 (hb.mono (AL6.trans hE3)) db om om).mono ?_;rintro z ⟨v4,l4,τ4,rfl,hE4,hd4,dl4,tl4,hv4,ll4⟩;obtain⟨w4,c4,hs4⟩:=hd4.shape;subst hs4;refine gU1 (aI @A6 (aI @D5 (aI g8 (aI g0 (aI g1 (aI g6 (aI g7 (aI g9 g10)))))))) ?_;refine(LV hd4 (hd3.mono (hE3.trans hE4)) dl4 dl3 tl4 ht3 om om).mono ?_;rintro z rfl;rw[hR,hv4,hB];cases hc2:decide (R<B*mid)
      ·refine gU1 (aI @A6 (aI @D5 (aI g8 (aI g0 (aI g1 (aI g6 (aI g7 (aI g9 (aI g10 (aI @fi (aI hc2 @j7))))))))))) ?_;have:=z9z hc2;exact⟨hi-mid,om,mid,hi,om,fR,fR1 g10,fR1 g8,fR1 g0,fR1 g1,fR1 g6,fR1 g7,hE3.trans hE4,om,h2,om,h4⟩
      ·refine gU1 (aI @A6 (aI @D5 (aI g8 (aI g0 (aI g1 (aI g6 (aI g7 (aI g9 (aI g10 (aI @fi (aI hc2 @j7))))))))))) ?_;have:=z6z hc2;exact⟨mid-lo,om,lo,mid,om,fR1 g9,fR,fR1 g8,fR1 g0,fR1 g1,fR1 g6,fR1 g7,hE3.trans hE4,om,om,h3,om⟩
     ·have d1:decide ((1:Int)<((hi:Nat):Int)-((lo:Nat):Int))=false:=dF;obtain rfl:hi=lo+1:=om;refine gU1 (aI @A6 (aI @D5 (aI g8 (aI g0 (aI g1 (aI g6 (aI g7 (aI g9 (aI g10 (aI d1 @Bj)))))))))) ?_;exact⟨_,_,lo,rfl,fR1 g9,fR1 g8,fR1 g0,fR1 g1,fR1 g6,fR1 g7,hE3,om,h3,h4⟩
    rintro z ⟨fr',τ3,lo,rfl,g9,g8,g0,g1,g6,g7,hE3,hlo,h3,h4⟩;have Av6:=AL6.trans hE3;have hQ3:τ3.A7 Z.n=some (Q.map dgv):=by rw[D6 (hE3.same _ hn2)];exact hQ2
    have l5:Nat.blt m a.length=true:=by rw[Bt];omega
    have f6:M7 (Q.map dgv) m [.int .i64 ((lo:Nat):Int)]=some ((Q.set m lo).map dgv):=LW hmQ;refine gU1 (aI @A6 (aI @D5 (aI g8 (aI g0 (aI g1 (aI g6 (aI g7 (aI g9 (aI l5 (aI hQ3 f6)))))))))) ?_;have Ah4:Ext Z (τ3.upd Z.n ((Q.set m lo).map dgv)):=Av6.upd nL _;refine(AE7 (hb.mono Ah4) db hlo om).mono ?_;rintro z ⟨v5,l5',τ5,rfl,hE5,hd5,dl5,tl5,hv5,ll5⟩;obtain⟨w5,c5,hs5⟩:=hd5.shape;subst hs5;rw[hB]at hv5;have Av7:DN τ5 (.slice w3 l3.length c3) l3:=((hd3.mono hE3).upd hb3).mono hE5;refine gU1 (aI @A6 (aI @D5 (aI g8 (aI g0 (aI g1 (aI g6 (aI g7 g9))))))) ?_;refine(Qo Av7 hd5 dl3 dl5 om om om (Trm.length_le dl3 tl5 om)).mono ?_;rintro z ⟨v6,l6,τ6,rfl,hE6,hd6,dl6,tl6,hv6,ll6,hb6⟩;obtain⟨w6,c6,hs6⟩:=hd6.shape;subst hs6;refine gU1 (aI @A6 (aI @D5 (aI g8 (aI g0 (aI g1 (aI g6 (aI g7 g9))))))) ?_;have hn4:Z.n<(τ3.upd Z.n ((Q.set m lo).map dgv)).n:=by rw[Gn];exact z5z hn2 hE3.n
    have hn5:Z.n<τ5.n:=z5z hn4 hE5.n;have e2:((m:Nat):Int)-1=(a.length:Int)-1-((k+1:Nat):Int):=om;have ek:a.length-(k+1)=m:=om;have hx':=(List.getElem?_eq_some_iff.1 hx).2;have Av8:D8 l6=R-B*lo:=by rw[hv6,hR,hv5]
    have Av9:D8 l6<B:=by
     rw[Sz,MH]at h4;omega
    refine⟨om,by rw[<- e2];exact(fR),fR1 g0,fR1 g1,fR1 g6,(Ah4.trans hE5).trans hE6,z5z hn5 hE6.n,.slice w6 l6.length c6,l6,Q.set m lo,fR,hd6,fun q hq=>(by have:=hb6 q hq;omega),dl6,tl6,Av9,?_,by rw[oB];exact hQl,?_,?_⟩
    ·rw[D6 (hE6.same _ hn5),D6 (hE5.same _ hn4)];exact R5
    ·intro y hy;rcases AE8 hy with hy|rfl
     ·exact dQ y hy
     ·exact hlo
    ·rw[ek,PL (show m<a.length by omega),hx',set_drop hmQ,j8,j8,hinv];exact jX hRv (by rw[DW];exact h3) Av8
 ·rintro z ⟨fr,τ,vr,l,Q,rfl,hE,hn,g6,g7,hl,dl,tl,hlB,hQ,hQl,dQ,Vc⟩;have hD:=DN.Vd (l:=Q) hn (A9 hQ);rw[hQl]at hD;obtain⟨wl,cl,hsl⟩:=hl.shape;subst hsl;refine gU1 (aI @A6 (aI @D5 (aI g6 g7))) ?_;refine(Ck hD om).mono ?_;rintro z ⟨v7,l7,rfl,hd7,⟨kk,hkk⟩,ht7,hv7,-⟩;obtain⟨w7,c7,hs7⟩:=hd7.shape;subst hs7;refine gU1 (aI @A6 (aI @D5 (aI g6 (aI g7 @Tryz.results181)))) ?_;obtain⟨u1,u2⟩:=Xs hlB Vc;exact⟨_,_,l7,l,_,rfl,hE,hd7,hl,by rw[hkk];exact dQ.take kk,dl,ht7,tl,by rw[hv7,hB];exact u1,by rw[hB];exact u2,by rw[hkk,IK];omega,Trm.length_le db tl om⟩
section
variable {fr:Fr}{Z:St}{x ix a v:Operand}{ve:Value}
def Y7:LDn 168 2:=by unfold LDn;intros;kernel_rfl
def Y8:LVn 168 2:=by unfold LVn;intros;kernel_rfl
def Bc:STn 168 2:=by unfold STn;intros;kernel_rfl
def Cr:X8 Tryz.prog 168=some ([.bool false,.slice none 0 0],ptrTo):=kR
def BD:BJ Tryz.prog 168=some (.agg ⟨[.bool false,.slice none 0 0]⟩):=kR
def Az:Ft Tryz.prog fr 168 #[]=some (.agg ⟨[.bool false,.slice none 0 0]⟩):=kR
def BC {z:List Value}{ps:List (Nat×Value)}:DM Tryz.prog 168 z ps=ob (Cq (fun i=>[(0,1),(1,1)][i]?) ps z) fun l=>some (.agg ⟨l⟩):=kR
def K7:FAo 168 0:=by unfold FAo;intros;kernel_rfl
def N5:FIo 168 0 0:=by unfold FIo;intros;kernel_rfl
def K8:FAn 168 1 1:=by unfold FAn;intros;kernel_rfl
def N6:FIo 168 1 1:=by unfold FIo;intros;kernel_rfl
end
def Kk (Z:St) (v:Value) (neg:Bool) (l:List Nat):Prop:=∃ w,v= .agg ⟨[.bool neg,w]⟩/\DN Z w l
def lV {m V P N:Nat}(h:V+P*m=N):V+P*(m % 65536)+P*65536*(m / 65536)=N:=by
 have e:=congrArg (P*·) (Rc m 65536);simp only[Sz]at e;rw[<- Gf]at e;omega
def Trm.lW {l:List Nat}{d:Nat}(h:d≠0):Trm (l++[d]):=fun x hx=>by
 rw[List.getLast?_concat]at hx;cases hx;exact h
def OY {Z:St}{n:Int}(h:Bk n):Ev (gO 137 [.int .i64 n] Z) (fun r=>∃ v l Z',r=⟨false,v,Z'⟩/\Ext Z Z'/\Kk Z' v (decide (n<0)) l/\Dig l/\Trm l/\D8 l=n.natAbs/\l.length<=4) ⟨⟩:=by
 obtain⟨h1,h2⟩:=h;obtain⟨N,hN⟩:=nm n.natAbs;have hNl:N<=9223372036854775808:=om;have wu:∀ m:Int,IntKind.u64.wrap m=m % 18446744073709551616:=fun m=>rfl;rw[hN];refine C9 Tryz.func137 rfl rfl ?_;have eW:(decide (n<0)=true/\IntKind.u64.wrap (0-IntKind.u64.wrap n)=(N:Int))\/(decide (n<0)=false/\IntKind.u64.wrap n=(N:Int)):=by
  by_cases hn:n<0
  ·exact .inl ⟨by simpa using hn,by rw[wu,wu];omega⟩
  ·exact .inr ⟨by simpa using hn,by rw[wu];omega⟩
 rcases eW with⟨hc,e1⟩|⟨hc,e1⟩
 all_goals
  refine gU1 (aI @A6 (aI @W4 (aI @Y0 (aI @W8 (aI @U5 (aI @W5 (aI @U6 (aI @U7 (aI @U8 (aI @K3 (aI @H9 (aI @J3 (aI @I5 (aI @I6 (aI @I0 (aI hc (aI e1 @Cr))))))))))))))))) ?_
  refine CD (fun m fr Z'=>∃ v l,fr.get 0=some (.int .i64 n)/\fr.get 2=some (.pointer (some ⟨Z.n,0,none⟩))/\fr.get 3=some v/\fr.get 4=some (.int .u64 (m:Int))/\Ext (Z.new [.bool false,.slice none 0 0] (some 168)) Z'/\OL (Z.n+1) Z' 1 v (l.map fun d=>[dgv d])/\D8 l+65536 ^ l.length*m=N/\m<=N/\Dig l/\(m=0->Trm l)/\m<65536 ^ (4-l.length)/\l.length<=4)
   (fun r=>∃ fr Z' v l,r=⟨.exit 0,fr,Z'⟩/\fr.get 0=some (.int .i64 n)/\fr.get 2=some (.pointer (some ⟨Z.n,0,none⟩))/\fr.get 3=some v/\Ext (Z.new [.bool false,.slice none 0 0] (some 168)) Z'/\OL (Z.n+1) Z' 1 v (l.map fun d=>[dgv d])/\D8 l=N/\Dig l/\Trm l/\l.length<=4) N ?_ ?_ ?_
  ·exact⟨.slice none 0 0,[],fR,fR,fR,fR,.refl _,OL.nil,by simp[D8],BF _,.nil,fun _=> .nil,by simp;omega,by simp⟩
  ·rintro m fr Z' ⟨v,l,g0,g2,g3,g4,hE,ho,hl,hm,hd,ht,hm4,hl4⟩;by_cases hm0:m=0
   ·subst hm0;have hc':decide ((0:Int)<((0:Nat):Int))=false:=by decide
    refine gU1 (aI @A6 (aI @W4 (aI @Y0 (aI @W8 (aI @U5 (aI @W5 (aI @U6 (aI @U7 (aI @U8 (aI @K3 (aI @H9 (aI @J3 (aI @I5 (aI @I6 (aI @I0 (aI g0 (aI g2 (aI g3 (aI g4 (aI hc' @Bj)))))))))))))))))))) ?_;rw[cP,AG]at hl;exact⟨_,_,v,l,rfl,fR1 g0,fR1 g2,fR1 g3,hE,ho,hl,hd,ht rfl,hl4⟩
   ·have hc':decide ((0:Int)<(m:Int))=true:=by rw[z3z];omega
    have hl3:l.length<4:=by
     rcases AW l.length 4 with h|h
     ·exact h
     ·rw[show 4-l.length=0 by omega]at hm4;simp at hm4;omega
    have f1:(m:Int).tmod 65536=((m % 65536:Nat):Int):=rfl;have f2:IntKind.i64.wrap ((m % 65536:Nat):Int)=((m % 65536:Nat):Int):=wrap64_in om om;have f3:IntKind.u64.wrap ((m:Int).tdiv 65536)=((m / 65536:Nat):Int):=by rw[wu,show(m:Int).tdiv 65536=((m / 65536:Nat):Int)from rfl];omega
    refine gU1 (aI @A6 (aI @W4 (aI @Y0 (aI @W8 (aI @U5 (aI @W5 (aI @U6 (aI @U7 (aI @U8 (aI @K3 (aI @H9 (aI @J3 (aI @I5 (aI @I6 (aI @I0 (aI g0 (aI g2 (aI g3 (aI g4 (aI hc' (aI @f1 (aI f2 f3)))))))))))))))))))))) ?_;have hoN:OL (Z.n+1) (Z'.new [.int .i64 ((m % 65536:Nat):Int)]) 1 v (l.map fun d=>[dgv d]):=OL.ext ho (.new _ _);have en:=hE.n;refine AF (row:=[dgv (m % 65536)]) (fun _ _ _ _=>Ag) hoN (K5 nL nL) (C8 (by simp) (by simp)) (by rw[z2z];omega) (by simp only[F6]at en ⊢;omega) ?_;rintro v' Z8 ho' hA -;refine gU1 (aI @A6 (aI @W4 (aI @Y0 (aI @W8 (aI @U5 (aI @W5 (aI @U6 (aI @U7 (aI @U8 (aI @K3 (aI @H9 (aI @J3 (aI @I5 (aI @I6 (aI @I0 (aI g0 (aI g2 (aI g3 (aI g4 (aI @f1 (aI f2 (aI f3 @j7)))))))))))))))))))))) ?_;refine⟨m / 65536,om,v',l++[m % 65536],fR1 g0,fR1 g2,fR,fR,hA.ext (hE.W6 _) hoN (by simp),by rw[IY];exact ho',?_,om,hd.snoc om,fun h=>Trm.lW om,?_,by simp;omega⟩
    ·rw[GZ,Dc,AH7,Hr];exact lV hl
    ·rw[Dc,AH7];rw[show 4-l.length=4-(l.length+1)+1 by omega,Hr]at hm4;omega
  ·rintro r ⟨fr,Z',v,l,rfl,g0,g2,g3,hE,ho,hl,hd,ht,hl4⟩;have en:=hE.n;simp only[F6]at en;obtain⟨hs,ht'⟩:J6 v=[v]/\Di v=false:=by obtain⟨va,h⟩:=OL.shape ho;rw[h];exact⟨rfl,rfl⟩
   have o3:Z'.A7 Z.n=some [.bool false,.slice none 0 0]:=by rw[D6 (hE.same _ (by simp))];exact O9 nL nL
   have hE0:Ext Z Z':=Ext.trans (.new _ _) hE;refine gUd (aI @Bc @Y7) (aI @A6 (aI @W4 (aI @Y0 (aI @W8 (aI @U5 (aI @W5 (aI @U6 (aI @U7 (aI @U8 (aI @K3 (aI @H9 (aI @J3 (aI @I5 (aI @I6 (aI @I0 (aI g0 (aI g2 (aI g3 (aI hc (aI hs (aI ht' (aI o3 (a5N @Az @BC @BD @Y8 @Tryz.results137))))))))))))))))))))))) ?_
   have hD:=DN.ot (ho.H4 (Z':=Z'.upd Z.n [.bool (decide (n<0)),v]) (by simp) fun b hb=>by
    have:=(ho.blk hb).1;rw[W1,z0z om])
   rw[hc]at hD;exact⟨_,l,_,rfl,hE0.upd nL _,⟨v,rfl,hD⟩,hd,ht,hl,hl4⟩
def Fy (neg:Bool) (m:Nat):Int×Bool:=if neg=true/\m<=9223372036854775808 then(-(m:Int),true)else if 9223372036854775808<=m then(0,false)else((m:Int),true)
def jT {Z:St}{v w:Value}{a b:List Nat}(ha:DN Z v a) (hb:DN Z w b) (da:Dig a) (db:Dig b) (ta:Trm a) (tb:Trm b) (la:a.length<=30) (lb:b.length<=30) :
  Ev (gO 180 [v,w] Z) (fun r=>∃ v' l Z',r=⟨false,v',Z'⟩/\Ext Z Z'/\DN Z' v' l/\Dig l/\Trm l/\D8 l=Nat.gcd (D8 a) (D8 b)/\l.length<=30) ⟨⟩:=by
 refine C9 Tryz.func180 rfl rfl ?_;obtain⟨wa,ca,hsa⟩:=ha.shape;obtain⟨wb,cb,hsb⟩:=hb.shape;subst hsa hsb;refine gU1 (aI @A6 @D5) ?_
 refine CD (fun n fr τ=>∃ v w x y,fr.get 0=some v/\fr.get 1=some w/\Ext Z τ/\DN τ v x/\DN τ w y/\Dig x/\Dig y/\Trm x/\Trm y/\x.length<=30/\y.length<=30/\D8 y=n/\Nat.gcd (D8 x) (D8 y)=Nat.gcd (D8 a) (D8 b))
  (fun r=>∃ fr τ v x,r=⟨.exit 0,fr,τ⟩/\fr.get 0=some v/\Ext Z τ/\DN τ v x/\Dig x/\Trm x/\x.length<=30/\D8 x=Nat.gcd (D8 a) (D8 b)) (D8 b) ?_ ?_ ?_
 ·exact⟨_,_,a,b,fR,fR,.refl _,ha,hb,da,db,ta,tb,la,lb,rfl,rfl⟩
 ·rintro n fr τ ⟨v,w,x,y,g0,g1,hE,hx,hy,dx,dy,tx,ty,lx,ly,rfl,hg⟩;obtain⟨wx,cx,hsx⟩:=hx.shape;obtain⟨wy,cy,hsy⟩:=hy.shape;subst hsx hsy;refine gU1 (aI @A6 (aI @D5 (aI g0 g1))) ?_;refine(Ck hy om).mono ?_;rintro z ⟨v3,y',rfl,hy',⟨k,hk⟩,ty',hv,-⟩;have dy':Dig y':=by rw[hk];exact dy.take k
  obtain rfl:y'=y:=FZ dy' dy ty' ty hv;obtain⟨w3,c3,hs3⟩:=hy'.shape;subst hs3;by_cases h0:D8 y'=0
  ·have e0:=Trm.zero ty h0;subst e0;have d0:decide ((0:Int)<((0:Nat):Int))=false:=rfl;refine gP1 (aI g0 (aI g1 (aI d0 (aI @D9 (aI @F4 (aI @Bj @JQ.{0})))))) ?_;rw[h0,mf]at hg;exact⟨_,_,_,x,rfl,fR1 g0,hE,hx,dx,tx,lx,hg⟩
  ·have hl0:0<y'.length:=by
    rcases VV y'.length with h|h
    ·rw[XB h]at h0;exact absurd rfl h0
    ·exact h
   have d0:decide ((0:Int)<(y'.length:Int))=true:=dT;refine gU1 (aI @A6 (aI @D5 (aI g0 (aI g1 d0)))) ?_;refine(Ck hx om).mono ?_;rintro z ⟨v4,x',rfl,hx',⟨k4,hk4⟩,tx',hvx,-⟩;have dx':Dig x':=by rw[hk4];exact dx.take k4
   obtain rfl:x'=x:=FZ dx' dx tx' tx hvx;obtain⟨w4,c4,hs4⟩:=hx'.shape;subst hs4;refine gU1 (aI @A6 (aI @D5 (aI g0 g1))) ?_;refine(Ck hy om).mono ?_;rintro z ⟨v5,y5,rfl,hy5,⟨k5,hk5⟩,ty5,hv5,-⟩;have dy5:Dig y5:=by rw[hk5];exact dy.take k5
   obtain rfl:y5=y':=FZ dy5 dy ty5 ty hv5;obtain⟨w5,c5,hs5⟩:=hy5.shape;subst hs5;refine gU1 (aI @A6 (aI @D5 (aI g0 g1))) ?_;refine(VU hx' hy5 dx dy ty om om om).mono ?_;rintro z ⟨v6,v7,q,l,τ',rfl,hE',hq,hl,dq,dl,tq,tl,hvq,hvl,lq,ll⟩;obtain⟨w6,c6,hs6⟩:=hq.shape;obtain⟨w7,c7,hs7⟩:=hl.shape;subst hs6 hs7;refine gU1 (aI @A6 (aI @D5 (aI g0 (aI g1 @j7)))) ?_;have hlt:=MN (D8 x') (show 0<D8 y5 by omega);exact⟨D8 l,om,_,_,y5,l,fR,fR,hE.trans hE',hy.mono hE',hl,dy,dl,ty,tl,ly,om,rfl,by rw[hvl,<- hg,QH (D8 x'),mg (D8 y5) (D8 x'),QH (D8 y5)]⟩
 ·rintro z ⟨fr,τ,v,x,rfl,g0,hE,hx,dx,tx,lx,hg⟩;obtain⟨wx,cx,hsx⟩:=hx.shape;subst hsx;refine gU1 (aI @A6 (aI @D5 g0)) ?_;refine(Ck hx om).mono ?_;rintro z ⟨v4,x',rfl,hx',⟨k4,hk4⟩,tx',hvx,-⟩;obtain⟨w4,c4,hs4⟩:=hx'.shape;subst hs4;refine gU1 (a3N @A6 @D5 @Tryz.results180) ?_;exact⟨_,x',_,rfl,hE,hx',by rw[hk4];exact dx.take k4,tx',by rw[hvx];exact hg,by rw[hk4,IK];omega⟩
def LS {Z:St}{v:Value}{neg:Bool}{l:List Nat}(hb:Kk Z v neg l) (dl:Dig l) (tl:Trm l) (ll:l.length<=50) :
  Ev (gO 182 [v] Z) (fun r=>∃ Z',r=⟨false,.tuple ⟨[.int .i64 (Fy neg (D8 l)).1,.bool (Fy neg (D8 l)).2]⟩,Z'⟩/\Ext Z Z') ⟨⟩:=by
 obtain⟨w,rfl,hw⟩:=hb;obtain⟨ww,wc,hs⟩:=hw.shape;subst hs;have hE:Ext Z (Z.new [.bool neg,.slice ww l.length wc]):= .new _ _;have wu:∀ m:Int,IntKind.u64.wrap m=m % 18446744073709551616:=fun m=>rfl;refine C9 Tryz.func182 rfl rfl ?_;refine gPd (a6N @Bc @Y7 @K7 @K8 @N5 @N6) (a5N @Az @BC @BD @Cr @Y8) ?_;refine(Ck (hw.mono hE) om).mono ?_;rintro z ⟨v3,l',rfl,hl',⟨k,hk⟩,tl',hv,-⟩;have dl':Dig l':=by rw[hk];exact dl.take k
 obtain rfl:l'=l:=FZ dl' dl tl' tl hv;obtain⟨la,lc,lb,lo,lcs,hs3,a1,a2⟩:=hl'.use;subst hs3;by_cases h4:4<l'.length
 ·have d0:decide ((4:Int)<(l'.length:Int))=true:=dT;refine gU1 (aI @A6 (aI @D5 (aI d0 @Tryz.results182))) ?_;have hV:18446744073709551616<=D8 l':=by
   have h5:=tl'.le (fun e=>by rw[e]at h4;simp at h4);have h6:65536 ^ 4<=65536 ^ (l'.length-1):=pS om om;have h7:(65536:Nat) ^ 4=18446744073709551616:=by decide
   omega
  have e:Fy neg (D8 l')=(0,false):=by unfold Fy;rw[z0z om,z1z om]
  rw[e];exact⟨_,rfl,hE⟩
 ·have d0:decide ((4:Int)<(l'.length:Int))=false:=dF;refine gU1 (aI @A6 (aI @D5 d0)) ?_
  refine KK l'.length (fun k fr τ=>fr.get 1=some (.pointer (some ⟨Z.n,0,none⟩))/\fr.get 4=some (.slice la l'.length lc)/\fr.get 6=some (.int .i64 ((l'.length:Int)-1-(k:Nat)))/\τ=Z.new [.bool neg,.slice ww l'.length wc]/\fr.get 5=some (.int .u64 ((D8 (l'.drop (l'.length-k)):Nat):Int)))
   (fun r=>∃ fr,r=⟨.exit 0,fr,Z.new [.bool neg,.slice ww l'.length wc]⟩/\fr.get 1=some (.pointer (some ⟨Z.n,0,none⟩))/\fr.get 5=some (.int .u64 ((D8 l':Nat):Int))) ?_ ?_ ?_
  ·exact⟨fR,fR,by rw[show((l'.length:Int)-1-((0:Nat):Int))=(l'.length:Int)-1 by omega];exact(fR),rfl,by rw[Va,fh];exact(fR)⟩
  ·rintro k fr τ hk ⟨g1,g4,g6,rfl,g5⟩;by_cases hk2:k=l'.length
   ·subst hk2;have e1:((l'.length:Int)-1-(l'.length:Nat))= -1:=om;rw[e1]at g6;rw[Vb,Sv]at g5;have d2:decide ((-1:Int)<0)=true:=rfl;refine gU1 (aI @A6 (aI @D5 (aI g6 (aI d2 @br)))) ?_;exact⟨_,rfl,fR1 g1,fR1 g5⟩
   ·obtain⟨m,hm⟩:=nm (l'.length-1-k);have e1:((l'.length:Int)-1-(k:Nat))=(m:Int):=om;rw[e1]at g6;rw[show l'.length-k=m+1 by omega]at g5;obtain⟨x,hx⟩:=H5 (l:=l') (k:=m) om;have xl:=dl'.get hx;obtain⟨sp,rfl,h3,h4⟩:=a1 om;have s1:=a2 m x hx;have c1:decide ((m:Int)<0)=false:=dF;have l1:Nat.blt m l'.length=true:=by rw[Bt];omega
    have hx':=(List.getElem?_eq_some_iff.1 hx).2;obtain⟨V,hV⟩:=nm (D8 (l'.drop (m+1)));have hVl:V<281474976710656:=by
     have:=KP (l:=l'.drop (m+1)) (fun y hy=>dl' y (bJ hy));rw[hV,Ng]at this;have h5:65536 ^ (l'.length-(m+1))<=65536 ^ 3:=pS om om;have h6:(65536:Nat) ^ 3=281474976710656:=by decide
     omega
    rw[hV]at g5;have f1:M6 .u64 ((V:Int)*65536)=((V*65536:Nat):Int):=by rw[Ac,wu];omega
    have f2:IntKind.u64.wrap (x:Int)=(x:Int):=by rw[wu];omega
    have f3:M6 .u64 (((V*65536:Nat):Int)+(x:Int))=((x+65536*V:Nat):Int):=by rw[Ac,wu];omega
    have e2:(m:Int)-1=(l'.length:Int)-1-((k+1:Nat):Int):=om;refine gU1 (aI @A6 (aI @D5 (aI g1 (aI g4 (aI g5 (aI g6 (aI c1 (aI h4 (aI s1 (aI l1 (aI @f1 (aI f2 (aI f3 @XN))))))))))))) ?_;refine⟨om,fR1 g1,fR1 g4,by rw[<- e2];exact(fR),rfl,?_⟩;rw[show l'.length-(k+1)=m by omega,PL (show m<l'.length by omega),hx',j8,hV];exact(fR)
  ·rintro z ⟨fr,rfl,g1,g5⟩;obtain⟨M,hM⟩:=nm (D8 l');rw[hM]at g5;have hMl:M<18446744073709551616:=by
    have:=KP dl';rw[hM]at this;have h5:65536 ^ l'.length<=65536 ^ 4:=pS om om;have h6:(65536:Nat) ^ 4=18446744073709551616:=by decide
    omega
   rw[hM];cases d1:decide (9223372036854775808<(M:Int))with
   | true=>
     have h1:=z6z d1;have d2:decide ((M:Int)<9223372036854775808)=false:=dF;have e:Fy neg M=(0,false):=by unfold Fy;rw[z0z om,z1z om]
     rw[e];cases neg
     ·refine gPd (a4N @Bc @Y7 @K7 @K8) (aI g1 (aI g5 (aI @Y8 (aI d1 (aI d2 @Tryz.results182))))) ?_;exact⟨_,rfl,hE⟩
     ·refine gPd (a4N @Bc @Y7 @K7 @K8) (aI g1 (aI g5 (aI @Y8 (aI d1 (aI d2 @Tryz.results182))))) ?_;exact⟨_,rfl,hE⟩
   | false=>
     have h1:=z9z d1;cases neg
     ·cases d2:decide ((M:Int)<9223372036854775808)with
      | true=>
        have h2:=z6z d2;have e:Fy false M=((M:Int),true):=by unfold Fy;rw[z0z (by simp),z0z om]
        have e1:IntKind.i64.wrap (M:Int)=(M:Int):=wrap64_in om om;rw[e];refine gPd (a4N @Bc @Y7 @K7 @K8) (aI g1 (aI g5 (aI @Y8 (aI d1 (aI d2 (aI e1 @Tryz.results182)))))) ?_;exact⟨_,rfl,hE⟩
      | false=>
        have h2:=z9z d2;have e:Fy false M=(0,false):=by unfold Fy;rw[z0z (by simp),z1z om]
        rw[e];refine gPd (a4N @Bc @Y7 @K7 @K8) (aI g1 (aI g5 (aI @Y8 (aI d1 (aI d2 @Tryz.results182))))) ?_;exact⟨_,rfl,hE⟩
     ·have e:Fy true M=(-(M:Int),true):=by unfold Fy;rw[z1z ⟨rfl,om⟩]
      have e1:IntKind.i64.wrap (IntKind.u64.wrap (0-(M:Int)))= -(M:Int):=by
       rw[wu,wrap_i64];split<;>omega
      rw[e];refine gPd (a4N @Bc @Y7 @K7 @K8) (aI g1 (aI g5 (aI @Y8 (aI d1 (aI e1 @Tryz.results182))))) ?_;exact⟨_,rfl,hE⟩
def QZ (neg:Bool) (N D:Nat):Int×Int×Bool :=
 if (Fy (neg&&decide (0<N / Nat.gcd N D)) (N / Nat.gcd N D)).2&&(Fy false (D / Nat.gcd N D)).2 then((Fy (neg&&decide (0<N / Nat.gcd N D)) (N / Nat.gcd N D)).1,(Fy false (D / Nat.gcd N D)).1,true)else(0,1,false)
def VT {x y:Operand}{a b:Bool}:Ay Tryz.prog .neq 4 x y (.bool a) (.bool b)=some (.bool (a != b)):=by cases a<;>cases b<;>kernel_rfl
def nY {Z:St}{n:Int}:Ev (gO 125 [.int .i64 n] Z) (fun r=>∃ Z',r=⟨false,.agg ⟨[.int .i64 n,.int .i64 1]⟩,Z'⟩/\Ext Z Z') ⟨⟩:=by
 refine C9 Tryz.func125 rfl rfl ?_;refine gU1 (a3N @A6 @D5 @Tryz.results125) ?_;exact⟨_,rfl,eX⟩
def Qh {Z:St}{v w:Value}{n1 n2:Bool}{a b:List Nat}(ha:Kk Z v n1 a) (hb:Kk Z w n2 b) (da:Dig a) (db:Dig b) (ta:Trm a) (tb:Trm b) (la:a.length<=20) (lb:b.length<=20) (h0:0<D8 b) :
  Ev (gO 136 [v,w] Z) (fun r=>∃ Z',r=⟨false,.tuple ⟨[.agg ⟨[.int .i64 (QZ (n1 != n2) (D8 a) (D8 b)).1,.int .i64 (QZ (n1 != n2) (D8 a) (D8 b)).2.1]⟩,.bool (QZ (n1 != n2) (D8 a) (D8 b)).2.2]⟩,Z'⟩/\Ext Z Z') ⟨⟩:=by
 obtain⟨va,rfl,hva⟩:=ha;obtain⟨vb,rfl,hvb⟩:=hb;obtain⟨wa,ca,hsa⟩:=hva.shape;obtain⟨wb,cb,hsb⟩:=hvb.shape;subst hsa hsb;obtain⟨LF,hLF⟩:=nm (QZ (n1 != n2) (D8 a) (D8 b));rw[hLF];refine C9 Tryz.func136 rfl rfl ?_;refine gPd (a6N @Bc @Y7 @K7 @K8 @N5 @N6) (a5N @Az @BC @BD @Cr @Y8) ?_;obtain⟨S,hS⟩:∃ S,S=(((Z.new [Value.bool n1,Value.slice wa a.length ca]).new [Value.bool n2,Value.slice wb b.length cb]).new [Value.int IntKind.i64 0,Value.int IntKind.i64 0] (some 29)):=⟨_,rfl⟩
 have hE0:Ext Z S:=by rw[hS];exact((Ext.new _ _).trans (.new _ _)).trans (.new _ _)
 have hn:S.n=Z.n+3:=by rw[hS];simp
 have o1:S.A7 Z.n=some [.bool n1,.slice wa a.length ca]:=by rw[hS];exact cL
 have o2:S.A7 (Z.n+1)=some [.bool n2,.slice wb b.length cb]:=by rw[hS];exact cL
 have o3:S.A7 (Z.n+2)=some [.int .i64 0,.int .i64 0]:=by rw[hS];exact cL
 rw[<- hS];have jS:∀ {τ:St},Ext S τ->Ext Z τ/\Z.n+3<=τ.n/\τ.row Z.n=some [.bool n1,.slice wa a.length ca]/\τ.row (Z.n+1)=some [.bool n2,.slice wb b.length cb]/\τ.A7 (Z.n+2)=some [.int .i64 0,.int .i64 0]:=fun{τ} h=>
  ⟨hE0.trans h,by have:=h.n;omega,by rw[h.row om];exact A9 o1,by rw[h.row om];exact A9 o2,by rw[D6 (h.same _ om)];exact o3⟩
 refine(jT (hva.mono hE0) (hvb.mono hE0) da db ta tb om om).mono ?_;rintro z ⟨v1,g,τ1,rfl,hE1,hg,dg,tg,hgv,lg⟩;obtain⟨wg,cg,hsg⟩:=hg.shape;subst hsg;obtain⟨hF1,n1',r1,r2,r3⟩:=jS hE1;clear hS;refine gPd (a5N @Y7 @K7 @K8 @N5 @N6) (aI @Y8 (aI r1 r2)) ?_;refine(Ck (hva.mono hF1) om).mono ?_;rintro z ⟨v2,a',rfl,ha',⟨k2,hk2⟩,ta',Au9,-⟩;have da':Dig a':=by rw[hk2];exact da.take k2
 obtain rfl:a'=a:=FZ da' da ta' ta Au9;obtain⟨w2,c2,hs2⟩:=ha'.shape;subst hs2;refine gPd (a5N @Y7 @K7 @K8 @N5 @N6) @Y8 ?_;have hg0:0<D8 g:=by rw[hgv];exact AE2 _ h0
 refine(VU ha' hg da dg tg om om hg0).mono ?_;rintro z ⟨v3,v4,x,rx,τ2,rfl,hE2,hx,hrx,dx,drx,tx,trx,hxv,-,lx,-⟩;obtain⟨w3,c3,hs3⟩:=hx.shape;obtain⟨w4,c4,hs4⟩:=hrx.shape;subst hs3 hs4;obtain⟨hF2,n2',r4,r5,r6⟩:=jS (hE1.trans hE2);refine gPd (a5N @Y7 @K7 @K8 @N5 @N6) (aI @Y8 (aI r4 r5)) ?_;refine(Ck (hvb.mono hF2) om).mono ?_;rintro z ⟨v5,b',rfl,hb',⟨k5,hk5⟩,tb',Av0,-⟩;have db':Dig b':=by rw[hk5];exact db.take k5
 obtain rfl:b'=b:=FZ db' db tb' tb Av0;obtain⟨w5,c5,hs5⟩:=hb'.shape;subst hs5;refine gPd (a5N @Y7 @K7 @K8 @N5 @N6) @Y8 ?_;refine(VU hb' (hg.mono hE2) db dg tg om om hg0).mono ?_;rintro z ⟨v6,v7,y,ry,τ3,rfl,hE3,hy,hry,dy,dry,ty,BO1,hyv,-,ly,-⟩;obtain⟨w6,c6,hs6⟩:=hy.shape;obtain⟨w7,c7,hs7⟩:=hry.shape;subst hs6 hs7;obtain⟨hF3,n3',r7,r8,r9⟩:=jS ((hE1.trans hE2).trans hE3);obtain⟨sg,hsg⟩:=nm (((n1 != n2)&&decide (0<D8 x)));have hlx:decide ((0:Int)<(x.length:Int))=decide (0<D8 x):=by
  by_cases hz:D8 x=0
  ·rw[Trm.zero tx hz];rfl
  ·have:0<x.length:=by
    rcases VV x.length with h|h
    ·rw[XB h]at hz;exact absurd rfl hz
    ·exact h
   rw[dT,dT]
 have key:∀ {Q:CR->Prop},(∀ τ,Ext τ3 τ->Q ⟨false,.tuple ⟨[.int .i64 (Fy sg (D8 x)).1,.bool (Fy sg (D8 x)).2]⟩,τ⟩)->Ev (gO 182 [.agg ⟨[.bool sg,.slice w3 x.length c3]⟩] τ3) Q ⟨⟩:=fun{Q} h=>by
  refine(LS ⟨_,rfl,hx.mono hE3⟩ dx tx om).mono ?_;rintro z ⟨τ,rfl,hτ⟩;exact h τ hτ
 cases hne:(n1 != n2)
 all_goals
  rw[hne]at hsg;simp only[MJ,IE]at hsg;subst hsg;refine gPd (a5N @Y7 @K7 @K8 @N5 @N6) (aI @Y8 (aI r7 (aI r8 (aI @VT (aI hne (aI hlx (a3N @Az @BC @BD))))))) ?_;refine key ?_;intro τ4 hE4;refine gPd (a5N @Y7 @K7 @K8 @N5 @N6) (a4N @Y8 @Az @BC @BD) ?_;refine(LS (Z:=τ4) ⟨_,rfl,hy.mono hE4⟩ dy ty om).mono ?_;rintro z ⟨τ5,rfl,hE5⟩;obtain⟨hF5,n5',r10,r11,r12⟩:=jS ((((hE1.trans hE2).trans hE3).trans hE4).trans hE5);rw[hne]at hLF;unfold QZ at hLF;rw[<- hgv,<- hxv,<- hyv]at hLF;simp only[MJ,IE]at hLF;generalize Fy false (D8 y)=fy at hLF ⊢;generalize Fy _ (D8 x)=fx at hLF ⊢;obtain⟨xn,xo⟩:=fx;obtain⟨yn,yo⟩:=fy;dsimp only at hLF;have hF6:∀ cs:List Value,Ext Z (τ5.upd (Z.n+2) cs):=fun cs=>hF5.upd om _;cases xo
  ·obtain rfl:(0,1,false)=LF:=by rw[<- hLF];rfl
   refine gPd (a5N @Y7 @K7 @K8 @N5 @N6) (a4N @Y8 @Az @BC @BD) ?_;refine nY.mono ?_;rintro z ⟨τ6,rfl,hE6⟩;obtain⟨hF7,n7',r13,r14,r15⟩:=jS (((((hE1.trans hE2).trans hE3).trans hE4).trans hE5).trans hE6);refine gPd (a5N @Y7 @K7 @K8 @N5 @N6) (aI @Y8 (aI @Az (aI @BC (aI @BD (aI r15 @Tryz.results136))))) ?_;exact⟨_,rfl,hF7.upd om _⟩
  ·cases yo
   ·obtain rfl:(0,1,false)=LF:=by rw[<- hLF];rfl
    refine gPd (a5N @Y7 @K7 @K8 @N5 @N6) (a4N @Y8 @Az @BC @BD) ?_;refine nY.mono ?_;rintro z ⟨τ6,rfl,hE6⟩;obtain⟨hF7,n7',r13,r14,r15⟩:=jS (((((hE1.trans hE2).trans hE3).trans hE4).trans hE5).trans hE6);refine gPd (a5N @Y7 @K7 @K8 @N5 @N6) (aI @Y8 (aI @Az (aI @BC (aI @BD (aI r15 @Tryz.results136))))) ?_;exact⟨_,rfl,hF7.upd om _⟩
   ·obtain rfl:(xn,yn,true)=LF:=by rw[<- hLF];rfl
    refine gPd (a5N @Y7 @K7 @K8 @N5 @N6) (aI @Y8 (aI @Az (aI @BC (aI @BD (aI r12 @Tryz.results136))))) ?_;exact⟨_,rfl,hF6 _⟩
section
variable {n d:Int}{Z:St}
def QY (n:Int):Bool:=decide (-1000000000<n)&&decide (n<1000000000)
def TY:Ev (gO 134 [.int .i64 n] Z) (fun r=>r=⟨false,.bool (QY n),Z⟩) ⟨⟩:=by
 unfold QY;refine C9 Tryz.func134 rfl rfl ?_;cases c1:decide (-1000000000<n)
 ·refine gU1 (aI @A6 (aI @D5 (aI c1 (a4N @D9 @F4 @Tryz.results134 @MJ)))) ?_;try exact⟨⟩
 ·refine gU1 (aI @A6 (aI @D5 (aI c1 (a4N @D9 @F4 @Tryz.results134 @IE)))) ?_;try exact⟨⟩
def DL (n d:Int):Bool:=decide (1<=d)&&decide (Int.gcd n d=1)
def Xo (h:1<=d):(decide (qn n d=n)&&decide (qd n d=d))=decide (Int.gcd n d=1):=by
 by_cases hg:Int.gcd n d=1
 ·obtain⟨e1,e2⟩:=nT h hg;rw[e1,e2,Be hg];simp
 ·rw[z4z hg,<- Bool.not_eq_true,Q7,Dn,Dn];rintro⟨e1,e2⟩;have:=(Wz (n:=n) (d:=d) om).1;rw[e1,e2]at this;exact hg this
def TZ (hn:Bk n) (hd:Bk d) (h:1<=d):((QZ (decide (n<0) != decide (d<0)) n.natAbs d.natAbs).2.2&&(decide (n=(QZ (decide (n<0) != decide (d<0)) n.natAbs d.natAbs).1)&&decide (d=(QZ (decide (n<0) != decide (d<0)) n.natAbs d.natAbs).2.1)))=decide (Int.gcd n d=1):=by
 obtain⟨h1,h2⟩:=hn;obtain⟨h3,h4⟩:=hd;have hd0:decide (d<0)=false:=dF;have e0:(decide (n<0) != false)=decide (n<0):=by cases decide (n<0)<;>rfl
 rw[hd0,e0];have hgg:Int.gcd n d=Nat.gcd n.natAbs d.natAbs:=rfl;obtain⟨N,hN⟩:=nm n.natAbs;obtain⟨D,hD⟩:=nm d.natAbs;rw[hgg,hN,hD];have hDd:d=(D:Int):=om;have hF:∀ m,m<=9223372036854775807->Fy false m=((m:Int),true):=fun m hm=>by unfold Fy;rw[z0z (by simp),z0z om]
 have hDg:D / Nat.gcd N D<=D:=OX _ _;unfold QZ;rw[hF (D / Nat.gcd N D) om,bh];by_cases hg:Nat.gcd N D=1
 ·rw[hg,nU,nU,Be (rfl:(1:Nat)=1)];have hx:Fy (decide (n<0)&&decide (0<N)) N=(n,true):=by
   unfold Fy;by_cases hn:n<0
   ·rw[z1z ⟨by rw[Be hn,dT];rfl,om⟩];congr 1;omega
   ·rw[z0z (by rw[z4z hn];simp),z0z om];congr 1;omega
  rw[hx];simp[hDd]
 ·rw[z4z hg];have hlt:D / Nat.gcd N D≠D:=by
   have hg0:0<Nat.gcd N D:=AE2 _ om;have:=Nat.div_lt_self (show 0<D by omega) (show 1<Nat.gcd N D by omega);omega
  cases hb:(Fy (decide (n<0)&&decide (0<N / Nat.gcd N D)) (N / Nat.gcd N D)).2
  ·simp
  ·simp only[reduceIte,IE];rw[z4z (p:=d=_) om,NO]
def Ta (hn:Bk n) (hd:Bk d):Ev (gO 142 [P8 n d] Z) (fun r=>∃ Z',r=⟨false,.bool (DL n d),Z'⟩/\Ext Z Z') ⟨⟩:=by
 refine C9 Tryz.func142 rfl rfl ?_;unfold P8 DL;cases c1:decide (d<1)with
 | true=>
   rw[z4z (p:=1<=d) (by have:=z6z c1;omega),MJ];refine gU1 (aI @A6 (aI @D5 (aI c1 @Tryz.results142))) ?_;exact⟨_,rfl,eX⟩
 | false=>
   have hd1:1<=d:=by have:=z9z c1;omega
   rw[Be hd1,IE];refine gU1 (aI @A6 (aI @D5 c1)) ?_;refine TY.mono ?_;rintro r rfl;have BO0:∀ {fr:Fr}{τ:St},True:=fun{fr τ}=>trivial;cases b1:QY n
   ·refine gU1 (aI @A6 @D5) ?_;refine(OY hn).mono ?_;rintro r ⟨v1,l1,Z2,rfl,hE2,⟨w1,rfl,hw1⟩,dl1,tl1,hv1,ll1⟩;obtain⟨x1,y1,hs1⟩:=hw1.shape;subst hs1;have n2:=hE2.n;simp only[F6]at n2;have q2:Z2.row Z.n=some [.int .i64 n,.int .i64 d]:=eT (hE2.row (cL)) cL;refine gU1 (aI @A6 (aI @D5 q2)) ?_;refine(OY hd).mono ?_;rintro r ⟨v3,l3,Z3,rfl,hE3,⟨w3,rfl,hw3⟩,dl3,tl3,hv3,ll3⟩;obtain⟨x3,y3,hs3⟩:=hw3.shape;subst hs3;have n3:=hE3.n;refine gU1 (aI @A6 @D5) ?_;refine(Qh ⟨_,rfl,hw1.mono hE3⟩ ⟨_,rfl,hw3⟩ dl1 dl3 tl1 tl3 om om om).mono ?_;rintro r ⟨Z4,rfl,hE4⟩;have n4:=hE4.n;have q4:=eT (hE4.row om) (eT (hE3.row om) q2);rw[hv1,hv3];have hE:Ext Z Z4:=((Ext.trans (eX) hE2).trans hE3).trans hE4;rw[<- TZ hn hd hd1];generalize QZ (decide (n<0) != decide (d<0)) n.natAbs d.natAbs=LF;obtain⟨la,lb,lo⟩:=LF;refine gP1 (aI q4 (aI @G5 (aI (asx hE2) (aI (asx hE3) (aI (asx hE4) @G8))))) ?_;refine dW1 (aI (asx hE2) (aI (asx hE3) (asx hE4))) ?_;cases lo
    ·refine gP1 (aI q4 (a3N @G5 @MJ @Tryz.results142)) ?_;exact⟨_,rfl,eX⟩
    ·refine gP1 (aI q4 (a3N @G5 @IE @Tryz.results142)) ?_;exact⟨_,rfl,eX⟩
   ·refine gU1 (aI @A6 @D5) ?_;refine TY.mono ?_;rintro r rfl;cases b2:QY d
    ·refine gU1 (aI @A6 @D5) ?_;refine(OY hn).mono ?_;rintro r ⟨v1,l1,Z2,rfl,hE2,⟨w1,rfl,hw1⟩,dl1,tl1,hv1,ll1⟩;obtain⟨x1,y1,hs1⟩:=hw1.shape;subst hs1;have n2:=hE2.n;simp only[F6]at n2;have q2:Z2.row Z.n=some [.int .i64 n,.int .i64 d]:=eT (hE2.row (cL)) cL;refine gU1 (aI @A6 (aI @D5 q2)) ?_;refine(OY hd).mono ?_;rintro r ⟨v3,l3,Z3,rfl,hE3,⟨w3,rfl,hw3⟩,dl3,tl3,hv3,ll3⟩;obtain⟨x3,y3,hs3⟩:=hw3.shape;subst hs3;have n3:=hE3.n;refine gU1 (aI @A6 @D5) ?_;refine(Qh ⟨_,rfl,hw1.mono hE3⟩ ⟨_,rfl,hw3⟩ dl1 dl3 tl1 tl3 om om om).mono ?_;rintro r ⟨Z4,rfl,hE4⟩;have n4:=hE4.n;have q4:=eT (hE4.row om) (eT (hE3.row om) q2);rw[hv1,hv3];have hE:Ext Z Z4:=((Ext.trans (eX) hE2).trans hE3).trans hE4;rw[<- TZ hn hd hd1];generalize QZ (decide (n<0) != decide (d<0)) n.natAbs d.natAbs=LF;obtain⟨la,lb,lo⟩:=LF;refine gP1 (aI q4 (aI @G5 (aI (asx hE2) (aI (asx hE3) (aI (asx hE4) @G8))))) ?_;refine dW1 (aI (asx hE2) (aI (asx hE3) (asx hE4))) ?_;cases lo
     ·refine gP1 (aI q4 (a3N @G5 @MJ @Tryz.results142)) ?_;exact⟨_,rfl,eX⟩
     ·refine gP1 (aI q4 (a3N @G5 @IE @Tryz.results142)) ?_;exact⟨_,rfl,eX⟩
    ·unfold QY at b1 b2;simp only[Q7,Dn]at b1 b2;refine gU1 (aI @A6 @D5) ?_;refine(Gl (n:=n) (d:=d) ⟨om,om⟩ ⟨om,om⟩ om).mono ?_;rintro r ⟨Z2,rfl,hE2⟩;have n2:=hE2.n;simp only[F6]at n2;have q2:Z2.row Z.n=some [.int .i64 n,.int .i64 d]:=eT (hE2.row (cL)) cL;have hE:Ext Z Z2:=Ext.trans (eX) hE2;rw[<- Xo hd1];refine gP1 (aI q2 (aI @G5 (aI (asx hE2) (aI @G8 @Tryz.results142)))) ?_;exact⟨_,rfl,eX⟩
def Qi (h:RQ n d):Ev (gO 142 [P8 n d] Z) (fun r=>∃ Z',r=⟨false,.bool true,Z'⟩/\Ext Z Z') ⟨⟩:=by
 have e:DL n d=true:=by
  unfold DL;rw[Be h.d1,Be h.low];rfl
 have:=h.n1;have:=h.n2;have:=h.d1;have:=h.d2;refine(Ta (n:=n) (d:=d) ⟨om,om⟩ ⟨om,om⟩).mono ?_;rintro r ⟨Z',rfl,hE⟩;rw[e];exact⟨_,rfl,hE⟩
end
end Go.Proofs.T
