/- The tokens of a jI text, fI MY Av1. -/
import Derived.Test.YtbcanmagihejhaaGreatDoorTH
set_option linter.unusedSimpArgs false
set_option linter.unusedVariables false
set_option linter.defProp false
set_option maxHeartbeats 32000000
set_option maxRecDepth 100000
namespace Go.Proofs.T
open Go Go.Ab
section
variable {Z:St}{n:Int}{s:By}
def Ql:Ev (gO 98 [.int .u8 n] Z) (fun r=>r=⟨false,.bool (DC n),Z⟩) ⟨⟩:=by
 refine G1 Tryz.func98 rfl rfl ?_;unfold DC;cases a:decide (n<97)<;>cases b:decide (122<n)<;>cases c:decide (n<65)<;>cases d:decide (90<n)<;>refine gS1 (aI a (aI b (aI c (aI d (a3N @H7 @I0 @Tryz.results98))))) ?_<;>rfl
def jg:Ev (gO 134 [.int .u8 n] Z) (fun r=>r=⟨false,.bool (J3 n),Z⟩) ⟨⟩:=by
 refine G1 Tryz.func134 rfl rfl ?_;unfold J3;cases a:decide (n<48)<;>cases b:decide (57<n)<;>refine gS1 (aI a (aI b @Tryz.results134)) ?_<;>rfl
def Xu:Ev (gO 97 [.int .u8 n] Z) (fun r=>r=⟨false,.bool (DD n),Z⟩) ⟨⟩:=by
 refine G1 Tryz.func97 rfl rfl ?_;refine gS ?_;refine Ql.mono ?_;rintro r rfl;refine gS ?_;refine jg.mono ?_;rintro r rfl;unfold DD;cases a:DC n<;>cases b:J3 n<;>cases c:decide (n=95)<;>refine gS1 (aI a (aI b (aI c @Tryz.results97))) ?_<;>rfl
def DZ (s:By):Bool:=decide (0<s.length)&&decide (s.length<=30)&&(s.all fun c=>DD c.toNat)&&(match s with|c::_=>DC c.toNat|[]=>false)
def Lo:Ev (gO 57 [str s] Z) (fun r=>r=⟨false,.bool (DZ s),Z⟩) ⟨⟩:=by
 refine G1 Tryz.func57 rfl rfl ?_;by_cases y:s.length<1
 ·have l:decide ((s.length:Int)<1)=true:=by rw[z3z];omega
  have g:DZ s=false:=by unfold DZ;rw[z4z (show ¬ 0<s.length by omega)];rfl
  refine gS1 (aI l (aI g @Tryz.results57)) ?_;try exact⟨⟩
 have l:decide ((s.length:Int)<1)=false:=by rw[GF];omega
 by_cases A:30<s.length
 ·have o:decide (30<(s.length:Int))=true:=by rw[z3z];omega
  have g:DZ s=false:=by unfold DZ;rw[z4z (show ¬ s.length<=30 by omega)];simp
  refine gS1 (aI l (aI o (aI g @Tryz.results57))) ?_;try exact⟨⟩
 have o:decide (30<(s.length:Int))=false:=by rw[GF];omega
 refine gS1 (aI l o) ?_
 refine I9 s.length (fun k fr Z'=>fr.get 3=some (.int .i64 k)/\fr.get 0=some (str s)/\Z'=Z/\(∀ i c,i<k->s[i]? =some c->DD c.toNat=true)/\(∀ c,0<k->s[0]? =some c->DC c.toNat=true))
  (fun r=>(∃ fr,r=⟨.exit 0,fr,Z⟩/\DZ s=true)\/∃ fr,r=⟨.ret,fr,Z⟩/\fr.get 2=some (.bool false)/\DZ s=false) ?_ ?_ ?_ ?_
 ·exact⟨fR,fR,rfl,fun i c h=>om,fun c h=>om⟩
 ·rintro k fr Z' u ⟨g3,f,rfl,p,g⟩;have q:=M3 u;obtain⟨c,a⟩:=I3 u;have v:=FJ a;refine gS1 (aI g3 (aI f (aI q (aI v @X7)))) ?_;refine Xu.mono ?_;rintro r rfl;refine gS1 (aI g3 (aI f (aI v @X7))) ?_;refine Ql.mono ?_;rintro r rfl;have no:∀ x,(∀ d∈s,DD d.toNat=true)=x->True:=fun _ _=>trivial;cases q1:DD c.toNat with
  | false=>
    have j:DZ s=false:=by
     unfold DZ;have:(s.all fun c=>DD c.toNat)=false:=by
      rw[Tj];intro h;rw[GH]at h;have:=h c (y6 a);rw[q1]at this;cases this
     rw[this];simp
    refine gS1 (aI g3 (aI f q1)) ?_;exact Or.inr ⟨_,rfl,fR,j⟩
  | true=>
    by_cases k0:k=0
    ·subst k0;have m:decide (((0:Nat):Int)=0)=true:=by decide
     cases q2:DC c.toNat with
     | false=>
       have j:DZ s=false:=by
        cases s with
        |nil=>rfl
        |cons d s=>cases a;unfold DZ;simp only[q2,LO]
       refine gS1 (aI g3 (aI f (aI q1 (aI q2 m)))) ?_;exact Or.inr ⟨_,rfl,fR,j⟩
     | true=>
       refine gS1 (aI g3 (aI f (aI q1 (aI q2 m)))) ?_;refine⟨fR,fR1 f,by trivial,fun i d hi b=>?_,fun d _ b=>?_⟩
       ·obtain rfl:i=0:=om;rw[a]at b;cases b;exact q1
       ·rw[a]at b;cases b;exact q2
    ·have m:decide ((k:Int)=0)=false:=by rw[GF];omega
     refine gS1 (aI g3 (aI f (aI q1 m))) ?_;refine⟨fR,fR1 f,by trivial,fun i d hi b=>?_,fun d _ b=>g d om b⟩;by_cases e:i=k
     ·subst e;rw[a]at b;cases b;exact q1
     ·exact p i d om b
 ·rintro fr Z' ⟨g3,f,rfl,p,g⟩;refine gS1 (aI g3 f) ?_;refine Or.inl ⟨_,rfl,?_⟩;unfold DZ;rw[AK (show 0<s.length by omega),AK (show s.length<=30 by omega)];have:(s.all fun c=>DD c.toNat)=true:=by
   rw[GH];intro c q;obtain⟨i,hi,z⟩:=List.mem_iff_getElem.1 q;exact p i c hi (by rw[List.getElem?_eq_getElem hi,z])
  rw[this];cases s with
  |nil=>simp at y
  |cons c s=>simpa using g c (by simp) rfl
 rintro r (⟨fr,rfl,j⟩|⟨fr,rfl,g2,j⟩)
 ·refine gS1 (aI j @Tryz.results57) ?_;try exact⟨⟩
 ·refine gS1 (aI g2 (aI j @Tryz.results57)) ?_;try exact⟨⟩
def NU (s:By):Bool:=DZ s&& !decide (s=[112,114,105,99,101])&& !decide (s=[108,111,119])&& !decide (s=[109,105,110])&& !decide (s=[109,97,120])
def LL:Ev (gO 99 [str s] Z) (fun r=>r=⟨false,.bool (NU s),Z⟩) ⟨⟩:=by
 refine G1 Tryz.func99 rfl rfl ?_;refine gS ?_;refine Lo.mono ?_;rintro r rfl;unfold NU;cases a:DZ s
 ·refine gS1 (aI a (a3N @H7 @I0 @Tryz.results99)) ?_;rfl
 cases b:decide (s=[112,114,105,99,101])
 case true=>refine gS1 (aI a (aI b (a3N @H7 @I0 @Tryz.results99))) ?_;rfl
 cases c:decide (s=[108,111,119])
 case true=>refine gS1 (aI a (aI b (aI c (a3N @H7 @I0 @Tryz.results99)))) ?_;rfl
 cases d:decide (s=[109,105,110])
 case true=>refine gS1 (aI a (aI b (aI c (aI d (a3N @H7 @I0 @Tryz.results99))))) ?_;rfl
 cases e:decide (s=[109,97,120])<;>refine gS1 (aI a (aI b (aI c (aI d (aI e (a3N @H7 @I0 @Tryz.results99)))))) ?_<;>rfl
end
def Lm (s:By):Nat:=match s with
 | []=>0
 |c::_=>P7 s 0 c
def PE:Nat->By->List By
 |0,_=>[]
 | f+1,s=>match s with
   | []=>[]
   |c::r=>if c=32 then PE f r else s.take (Lm s)::PE f (s.drop (Lm s))
def Tl {p:Int->Bool}{s:By}{k m:Nat}:R3 p s (k+m)=R3 p (s.drop k) m:=by unfold R3;rw[Ph]
def Qk {p:Int->Bool}{s:By}{k:Nat}:R3 p s k=R3 p (s.drop k) 0:=Tl (m:=0)
def jd {s:By}{k:Nat}{c:UInt8}(g:k<s.length):P7 s k c=k+P7 (s.drop k) 0 c:=by
 have f:∀ R,min (k+R+1) s.length=k+min (R+1) (s.length-k):=fun R=>om;unfold P7;rw[@Qk DD s k,@Qk J3 s k];simp only[Eo];generalize R3 J3 (s.drop k) 0=R;rw[f,@Tl J3 s k,List.getElem?_drop,HW];by_cases a:on DC c=true
 ·rw[z1z a,z1z a]
 ·rw[z0z a,z0z a];by_cases b:on J3 c=true
  ·rw[z1z b,z1z b];have d:decide (k+R<s.length)=decide (R<s.length-k):=by rw[z7z,z3z,z3z];omega
   generalize R3 J3 (s.drop k) (min (R+1) (s.length-k))=M;have e:decide (k+R+1<k+min (R+1) (s.length-k)+M)=decide (R+1<min (R+1) (s.length-k)+M):=by rw[z7z,z3z,z3z];omega
   rw[d,e];split
   ·omega
   ·rfl
  ·rw[z0z b,z0z b]
def AJ1 {s:By}{a:Nat}:∀ (f k:Nat),(fT s a f k).map Prod.fst=PE f (s.drop k):=by
 intro f;induction f with
 |zero=>intro k;rfl
 | succ f ih=>
   intro k;unfold fT;rcases AH k s.length with b|b
   ·have d:s.drop k=s[k]::s.drop (k+1):=Mk b;have g:PE (f+1) (s.drop k)=if s[k]=32 then PE f (s.drop (k+1))else(s.drop k).take (Lm (s.drop k))::PE f ((s.drop k).drop (Lm (s.drop k))):=by rw[d];rfl
    have e:P7 s k s[k]=k+Lm (s.drop k):=by rw[jd b,d];rfl
    rw[g,List.getElem?_eq_getElem b];dsimp only;by_cases c:s[k]=32
    ·rw[z1z c,z1z c];exact ih _
    ·rw[z0z c,z0z c,OW,ih,e,show k+Lm (s.drop k)-k=Lm (s.drop k) by omega,<- Ph]
   ·rw[List.getElem?_eq_none b,me b];rfl
def Xq {c:UInt8}{r:By}:0<Lm (c::r)/\Lm (c::r)<=(c::r).length:=by
 have:=Mo (s:=c::r) (k:=0) (c:=c) rfl;exact this
def je:∀ (f f':Nat) (s:By),s.length<=f->s.length<=f'->PE f s=PE f' s:=by
 intro f;induction f with
 | zero=>
   intro f' s b _;obtain rfl:=NV (Nat.le_zero.1 b);cases f'<;>rfl
 | succ f ih=>
   intro f' s b d;cases s with
   |nil=>cases f'<;>rfl
   | cons c r=>
     cases f' with
     |zero=>simp at d
     | succ f'=>
       unfold PE;dsimp only;simp only[AG]at b d;have e:=@Xq c r;by_cases a:c=32
       ·rw[z1z a,z1z a];exact ih _ _ om om
       ·rw[z0z a,z0z a,ih f' _ (by rw[HW,AG];omega) (by rw[HW,AG];omega)]
def lex (s:By):List By:=PE s.length s
def iQ {s:By}{a:Nat}:(Ck s a).map Prod.fst=lex s++[[]]:=by
 unfold Ck lex;rw[Ah,AJ1,Ma];rfl
def lex_nil:lex []=[]:=rfl
def KD {r:By}:lex (32::r)=lex r:=by
 unfold lex;rw[AG];rfl
def PS {c:UInt8}{r:By}(h:c≠32):lex (c::r)=(c::r).take (Lm (c::r))::lex ((c::r).drop (Lm (c::r))):=by
 have a:=@Xq c r;show PE (r.length+1) (c::r)=_;unfold PE;dsimp only;rw[z0z h];unfold lex;rw[je r.length _ _ (by rw[HW,AG];omega) nL]
def Stop (r:By):Prop:=∀ c t,r=c::t->on DD c=false/\c≠46
def FN {p:UInt8->Bool}{w r:By}(a:w.all p=true) (b:∀ c t,r=c::t->p c=false):(w++r).takeWhile p=w:=by
 induction w with
 | nil=>
   cases r with
   |nil=>rfl
   |cons c t=>rw[KP,jF,b c t rfl];rfl
 | cons c w ih=>
   rw[MZ,T1]at a;rw[JF,jF,a.1,z1z rfl,ih a.2]
def Xr {c:UInt8}{w r:By}(b:on DC c=true) (d:(c::w).all (on DD)=true) (f:Stop r):lex (c::w++r)=(c::w)::lex r:=by
 have a:c≠32:=by rintro rfl;cases b
 have ht:Lm (c::(w++r))=(c::w).length:=by
  show P7 _ 0 c=_;unfold P7;rw[z1z b,Eo];unfold R3;rw[Ma,show c::(w++r)=(c::w)++r from rfl,FN d fun c t e=>(f c t e).1]
 rw[JF,PS a,ht,show c::(w++r)=(c::w)++r from rfl,List.take_left,List.drop_left]
def GR {c:UInt8}{r:By}(a:on DC c=false) (b:on J3 c=false) (d:c≠32):lex (c::r)=[c]::lex r:=by
 have ht:Lm (c::r)=1:=by
  show P7 _ 0 c=_;unfold P7;rw[z0z (by rw[a];simp),z0z (by rw[b];simp)]
 rw[PS d,ht];rfl
def fJ {c:UInt8}(h:on J3 c=true):on DD c=true:=by
 unfold on DD at *;rw[h];simp
def Xt {r:By}(h:Stop r):∀ c t,r=c::t->on J3 c=false:=fun c t e=>by
 cases a:on J3 c with
 |false=>rfl
 |true=>have:=(h c t e).1;rw[fJ a]at this;cases this
def VQ {c:UInt8}(h:on J3 c=true):on DC c=false:=by
 unfold on J3 DC at *;simp only[T1,Bool.not_eq_true',GF]at h;have a:decide ((c.toNat:Int)<97)=true:=by rw[z3z];omega
 have b:decide ((c.toNat:Int)<65)=true:=by rw[z3z];omega
 rw[a,b];rfl
def ou {c:UInt8}(h:on J3 c=true):c≠32/\c≠46:=⟨(by rintro rfl;cases h),(by rintro rfl;cases h)⟩
def vN {c:UInt8}{w r:By}(b:(c::w).all (on J3)=true) (d:Stop r):lex (c::w++r)=(c::w)::lex r:=by
 have a:on J3 c=true:=by rw[MZ,T1]at b;exact b.1
 have e:R3 J3 (c::(w++r)) 0=(c::w).length:=by
  unfold R3;rw[Ma,show c::(w++r)=(c::w)++r from rfl,FN b (Xt d)]
 have ht:Lm (c::(w++r))=(c::w).length:=by
  show P7 _ 0 c=_;unfold P7;rw[z0z (by rw[VQ a];simp),z1z a,Eo,e];have g:decide ((c::(w++r))[(c::w).length]? =some 46)=false:=by
   rw[GF,show c::(w++r)=(c::w)++r from rfl,List.getElem?_append_right nL,WY];cases r with
   |nil=>simp
   |cons x t=>intro f;cases f;exact(d 46 t rfl).2 rfl
  rw[g,LO,CZ,z0z (by simp)]
 rw[JF,PS (ou a).1,ht,show c::(w++r)=(c::w)++r from rfl,List.take_left,List.drop_left]
def vO {c x:UInt8}{w v r:By}(d:(c::w).all (on J3)=true) (j:(x::v).all (on J3)=true) (i:Stop r):lex (c::w++46::x::v++r)=(c::w++46::x::v)::lex r:=by
 have b:on J3 c=true:=by rw[MZ,T1]at d;exact d.1
 have h:c::w++46::x::v++r=(c::w)++(46::((x::v)++r)):=sI;have m:R3 J3 ((c::w)++(46::((x::v)++r))) 0=(c::w).length:=by
  unfold R3;rw[Ma,FN d (fun c t e=>by cases e;rfl)]
 have l:R3 J3 ((c::w)++(46::((x::v)++r))) ((c::w).length+1)=(x::v).length:=by
  unfold R3;rw[show(c::w)++(46::((x::v)++r))=((c::w)++[46])++((x::v)++r) by simp,List.drop_left' (by simp),FN j (Xt i)]
 have a:((c::w)++(46::((x::v)++r))).length=(c::w).length+1+(x::v).length+r.length:=by simp;omega
 have ht:Lm ((c::w)++(46::((x::v)++r)))=(c::w++46::x::v).length:=by
  show P7 _ 0 c=_;unfold P7;rw[z0z (by rw[VQ b];simp),z1z b,Eo,m];rw[show min ((c::w).length+1) ((c::w)++(46::((x::v)++r))).length=(c::w).length+1 by rw[a];omega,l];have o:decide (((c::w)++(46::((x::v)++r)))[(c::w).length]? =some 46)=true:=by
   rw[z3z,List.getElem?_append_right nL,WY];rfl
  have n:decide ((c::w).length<((c::w)++(46::((x::v)++r))).length)=true:=by rw[z3z,a];omega
  have f:decide ((c::w).length+1<(c::w).length+1+(x::v).length)=true:=by rw[z3z];simp
  rw[o,n,f];simp;omega
 rw[h];have g:(c::w)++(46::((x::v)++r))=c::(w++(46::((x::v)++r))):=rfl;rw[g,PS (ou b).1,<- g,ht,show(c::w)++(46::((x::v)++r))=(c::w++46::x::v)++r by simp,List.take_left,List.drop_left]
def lvl (op:By):Nat:=if op=[43]\/op=[45]then 0 else if op=[42]\/op=[47]then 1 else 2
def dgt (n:Nat):UInt8:=UInt8.ofNat (48+n % 10)
def dcF:Nat->Nat->By
 |0,_=>[]
 |f+1,n=>if n<10 then[dgt n]else dcF f (n / 10)++[dgt n]
def dcN (n:Nat):By:=dcF (n+1) n
def frT:Nat->Nat->Nat->By
 |0,_,_=>[]
 |f+1,r,D=>if r=0 then[]else dcN (10*r / D)++frT f (10*r % D) D
def deT (n d:Int):By:=dcN (n.toNat / d.toNat)++(if n.toNat % d.toNat=0 then[]else 46::frT 6 (n.toNat % d.toNat) d.toNat)
def par (b:Bool) (s:By):By:=if b=true then 40::(s++[41])else s
def Nu (b:Bool) (s:List By):List By:=if b=true then[40]::(s++[[41]])else s
def L9:Nat->Nat->Ex->By
 |0,_,_=>[]
 | f+1,G7,.mk op n d nm args=>par (decide (lvl op<G7)) (if op=T4 then deT n d else if op=nmB then nm else match args with
   | [a,b]=>if op=W9\/op=Y4 then op++40::(L9 f 0 a++44::32::(L9 f 0 b++[41]))else L9 f (lvl op) a++32::(op++32::L9 f (lvl op+1) b)
   |_=>[])
def X0:Nat->Nat->Ex->List By
 |0,_,_=>[]
 | f+1,G7,.mk op n d nm args=>Nu (decide (lvl op<G7)) (if op=T4 then[deT n d]else if op=nmB then[nm]else match args with
   | [a,b]=>if op=W9\/op=Y4 then op::[40]::(X0 f 0 a++[44]::(X0 f 0 b++[[41]]))else X0 f (lvl op) a++op::X0 f (lvl op+1) b
   |_=>[])
structure RQ (n d:Int):Prop where
 n1: -1000000000<n
 n2:n<=1000000000*d
 d1:1<=d
 d2:d<1000000000
 low:Int.gcd n d=1
structure MI (n d:Int):Prop where
 rq:RQ n d
 n0:0<=n
 d6:(1000000:Int) % d=0
 lex:(∃ c w,deT n d=c::w/\(c::w).all (on J3)=true)\/∃ c w x v,deT n d=c::w++46::x::v/\(c::w).all (on J3)=true/\(x::v).all (on J3)=true
 dec:∀ A7 k p,(E8 A7 k).1=deT n d->SV A7 k p= .ok (.mk T4 n d [] [],1,k+1,p+1)
inductive FW:Nat->Nat->Ex->Prop
 |num {n d:Int} (h:MI n d):FW 1 1 (.mk T4 n d [] [])
 |name {nm:By} (h1:W0 nm=true) (h2:nm≠W9) (h3:nm≠Y4):FW 1 1 (.mk nmB 0 0 nm [])
 |bin {k j m i:Nat}{o:By}{a b:Ex} (h:o=[43]\/o=[45]\/o=[42]\/o=[47]) (ha:FW k m a) (hb:FW j i b):FW (1+max k j) (m+i+1) (.mk o 0 0 [] [a,b])
 |mm {k j m i:Nat}{o:By}{a b:Ex} (h:o=W9\/o=Y4) (ha:FW k m a) (hb:FW j i b):FW (1+max k j) (m+i+1) (.mk o 0 0 [] [a,b])
def FW.pos {k m:Nat}{e:Ex}(h:FW k m e):1<=k/\1<=m:=by cases h<;>omega
def Hx {c:UInt8}{r:By}(a:on DD c=false) (b:c≠46):Stop (c::r):=fun d t e=>by cases e;exact⟨a,b⟩
def qo:Stop []:=fun c t e=>by cases e
def PY {b:Bool}{s:By}{ts:List By}(h:∀ r,Stop r->lex (s++r)=ts++lex r){r:By}(a:Stop r):lex (par b s++r)=Nu b ts++lex r:=by
 unfold par Nu;cases b with
 |false=>exact h r a
 | true=>
   rw[z1z rfl,z1z rfl,show 40::(s++[41])++r=40::(s++(41::r)) by simp,GR (by rfl) (by rfl) (by decide),h (41::r) (Hx (by rfl) (by decide)),GR (by rfl) (by rfl) (by decide)];simp
def Ls {nm:By}(h:W0 nm=true):∃ c w,nm=c::w/\on DC c=true/\(c::w).all (on DD)=true:=by
 unfold W0 at h;rw[T1,T1]at h;cases nm with
 |nil=>cases h.1.1
 |cons c w=>exact⟨c,w,rfl,h.1.1,h.2⟩
def qp {k m:Nat}{e:Ex}(h:FW k m e):∀ (f G7:Nat),k<=f->∀ r:By,Stop r->lex (L9 f G7 e++r)=X0 f G7 e++lex r:=by
 induction h with
 | @num n d h=>
   intro f G7 s r l;obtain⟨f,rfl⟩:∃ g,f=g+1:=⟨f-1,om⟩
   unfold L9 X0;refine PY (fun r l=>?_) l;rw[z1z rfl,z1z rfl];rcases h.lex with⟨c,w,e,q⟩|⟨c,w,x,v,e,q,u⟩
   ·rw[e];exact vN q l
   ·rw[e];exact vO q u l
 | @name nm q u h3=>
   intro f G7 s r l;obtain⟨f,rfl⟩:∃ g,f=g+1:=⟨f-1,om⟩
   unfold L9 X0;refine PY (fun r l=>?_) l;rw[z0z (by decide),z1z rfl,z0z (by decide),z1z rfl];obtain⟨c,w,rfl,q1,q2⟩:=Ls q;exact Xr q1 q2 l
 | @bin k j m i o a b h ha hb iha ihb=>
   intro f G7 s r l;obtain⟨f,rfl⟩:∃ g,f=g+1:=⟨f-1,om⟩
   unfold L9 X0;refine PY (fun r l=>?_) l;have p:o≠T4/\o≠nmB/\¬ (o=W9\/o=Y4):=by rcases h with rfl|rfl|rfl|rfl<;>decide
   rw[z0z p.1,z0z p.2.1,z0z p.1,z0z p.2.1];dsimp only;rw[z0z p.2.2,z0z p.2.2];obtain⟨c,rfl,c1,c2,c3⟩:∃ c,o=[c]/\on DC c=false/\on J3 c=false/\c≠32:=by
    rcases h with rfl|rfl|rfl|rfl<;>exact⟨_,rfl,by rfl,by rfl,by decide⟩
   rw[show L9 f (lvl [c]) a++32::([c]++32::L9 f (lvl [c]+1) b)++r=L9 f (lvl [c]) a++(32::c::32::(L9 f (lvl [c]+1) b++r)) by simp,
    iha f _ om _ (Hx (by rfl) (by decide)),KD,GR c1 c2 c3,KD,ihb f _ om r l]
   simp
 | @mm k j m i o a b h ha hb iha ihb=>
   intro f G7 s r l;obtain⟨f,rfl⟩:∃ g,f=g+1:=⟨f-1,om⟩
   unfold L9 X0;refine PY (fun r l=>?_) l;have p:o≠T4/\o≠nmB:=by rcases h with rfl|rfl<;>decide
   rw[z0z p.1,z0z p.2,z0z p.1,z0z p.2];dsimp only;rw[z1z h,z1z h];obtain⟨c,w,rfl,c1,c2⟩:∃ c w,o=c::w/\on DC c=true/\(c::w).all (on DD)=true:=by
    rcases h with rfl|rfl<;>exact⟨_,_,rfl,by rfl,by rfl⟩
   rw[show c::w++40::(L9 f 0 a++44::32::(L9 f 0 b++[41]))++r=c::w++(40::(L9 f 0 a++(44::32::(L9 f 0 b++(41::r))))) by simp,
    Xr c1 c2 (Hx (by rfl) (by decide)),GR (by rfl) (by rfl) (by decide),iha f 0 om _ (Hx (by rfl) (by decide)),GR (by rfl) (by rfl) (by decide),KD,ihb f 0 om _ (Hx (by rfl) (by decide)),GR (by rfl) (by rfl) (by decide)]
   simp
section
variable {n d:Int}{Z:St}{a b:Nat}
def qn (n d:Int):Int:=(if d<0 then -n else n) / (Int.gcd n d:Nat)
def qd (n d:Int):Int:=(if d<0 then -d else d) / (Int.gcd n d:Nat)
def uI:Nat.gcd b (a % b)=Nat.gcd a b:=by
 rw[TM b,<- nJ,TM]
def Lim (n:Int):Prop:= -4000000000000000000<=n/\n<=4000000000000000000
def uJ:(a:Int).tmod (b:Int)=((a % b:Nat):Int):=rfl
def aE {g:Nat}(h:(g:Int)∣n):n.tdiv g=n / g:=Int.tdiv_eq_ediv_of_dvd h
def DK {a b:Int}:(a==b)=decide (a=b):=by rw[z7z];simp
def Cs {a b:Bool}:bi a (some b) (some false)=some (a&&b):=by cases a<;>rfl
def I1 {x y:Operand}{a b c:Int}:CI Tryz.prog .eql 32 x y (.agg ⟨[.int .i64 a,.int .i64 b]⟩) (.agg ⟨[.int .i64 c,.int .i64 d]⟩)=some (.bool (decide (a=c)&&decide (b=d))) /\
  CI Tryz.prog .neq 32 x y (.agg ⟨[.int .i64 a,.int .i64 b]⟩) (.agg ⟨[.int .i64 c,.int .i64 d]⟩)=some (.bool (!(decide (a=c)&&decide (b=d)))):=by
 have e:eqF Tryz.prog 9999 ⟨[.int .i64 a,.int .i64 b]⟩ ⟨[.int .i64 c,.int .i64 d]⟩ (Tryz.prog.fieldsOf 32).toList=bi (a==c) (bi (b==d) (some true) (some false)) (some false):=kR;have h:=IE (x:=x) (y:=y) rfl kR kR kR e;rw[Cs,Cs,DK,DK,Sh]at h;exact h
def XJ (z:Lim n) (A:Lim d) (h3:d≠0):
  Ev (gO 103 [.int .i64 n,.int .i64 d] Z) (fun r=>∃ Z',r=⟨false,.agg ⟨[.int .i64 (qn n d),.int .i64 (qd n d)]⟩,Z'⟩/\Ext Z Z') ⟨⟩:=by
 obtain⟨X,Y⟩:=z;obtain⟨b1,b2⟩:=A;obtain⟨N,hN⟩:=nW ((if d<0 then -n else n));obtain⟨D,hD⟩:=nW ((if d<0 then -d else d));have c:Int.gcd n d=Nat.gcd N.natAbs D.natAbs:=by
  have z:N.natAbs=n.natAbs:=by rw[<- hN];split<;>omega
  have A:D.natAbs=d.natAbs:=by rw[<- hD];split<;>omega
  unfold Int.gcd;rw[z,A]
 have M:0<D:=by rw[<- hD];split<;>omega
 have B:D<=4000000000000000000:=by rw[<- hD];split<;>omega
 have O: -4000000000000000000<=N/\N<=4000000000000000000:=by rw[<- hN];split<;>omega
 have L:IntKind.i64.wrap (0-N)= -N:=by rw[wrap64_in om om];omega
 have G:max N (-N)=(N.natAbs:Int):=om;have C:D=(D.natAbs:Int):=om;have u:qn n d=N / (Nat.gcd N.natAbs D.natAbs:Nat):=by unfold qn;rw[hN,c]
 have v:qd n d=D / (Nat.gcd N.natAbs D.natAbs:Nat):=by unfold qd;rw[hD,c]
 rw[u,v];have E:Nat.gcd N.natAbs D.natAbs≠0:=fun h=>by have:=Nat.eq_zero_of_gcd_eq_zero_right h;omega
 have j:((Nat.gcd N.natAbs D.natAbs:Nat):Int)∣N:=Int.ofNat_dvd_left.2 (Nat.gcd_dvd_left _ _);have s:((Nat.gcd N.natAbs D.natAbs:Nat):Int)∣D:=Int.ofNat_dvd_left.2 (Nat.gcd_dvd_right _ _);obtain⟨g,I⟩:=nW (Nat.gcd N.natAbs D.natAbs);rw[I]at E j s ⊢;have F:(g:Int)≠0:=om;have c1:N.tdiv g=N / g:=aE j;have c2:D.tdiv g=D / g:=aE s;have Q: -4000000000000000000<=N / (g:Int)/\N / (g:Int)<=4000000000000000000:=by
  obtain⟨k,S⟩:=j;rw[S,tR _ F];have q:1<=(g:Int):=om;constructor
  ·rcases Int.le_total 0 k with h|h
   ·omega
   ·have:=Int.mul_le_mul_of_nonpos_right q h;omega
  ·rcases Int.le_total 0 k with h|h
   ·have:=Int.mul_le_mul_of_nonneg_right q h;omega
   ·omega
 have R:0<=D / (g:Int)/\D / (g:Int)<=4000000000000000000:=by
  refine⟨Int.ediv_nonneg om om,Int.le_trans (Int.ediv_le_self _ om) B⟩
 have V:IntKind.i64.wrap (N / (g:Int))=N / (g:Int):=wrap64_in om om;have W:IntKind.i64.wrap (D / (g:Int))=D / (g:Int):=wrap64_in om om;refine G1 Tryz.func103 rfl rfl ?_;have K:(decide (d<0)=true/\IntKind.i64.wrap (0-n)=N/\IntKind.i64.wrap (0-d)=D)\/(decide (D<0)=false/\n=N/\d=D):=by
  by_cases y:d<0
  ·rw[z1z y]at hN hD;exact .inl ⟨by simpa using y,by rw[wrap64_in om om];omega,by rw[wrap64_in om om];omega⟩
  ·rw[z0z y]at hN hD;exact .inr ⟨by rw[<- hD];simpa using y,hN,hD⟩
 clear hN hD c u v;rcases K with⟨H,e,f⟩|⟨H,e,f⟩
 all_goals
  refine gS1 (aI H (aI e (aI f (aI L G)))) ?_
  refine BE (fun m fr Z'=>∃ a:Nat,fr.get 0=some (.int .i64 N)/\fr.get 1=some (.int .i64 D)/\fr.get 4=some (.pointer (some ⟨Z.n,0,none⟩))/\fr.get 5=some (.int .i64 (a:Int))/\fr.get 6=some (.int .i64 (m:Int))/\Z'=Z.new [.int .i64 0,.int .i64 0] (some 32)/\Nat.gcd a m=g)
   (fun r=>∃ fr,r=⟨.exit 0,fr,Z.new [.int .i64 0,.int .i64 0] (some 32)⟩/\fr.get 0=some (.int .i64 N)/\fr.get 1=some (.int .i64 D)/\fr.get 4=some (.pointer (some ⟨Z.n,0,none⟩))/\fr.get 5=some (.int .i64 (g:Int))) D.natAbs ?_ ?_ ?_
  ·exact⟨N.natAbs,fR1 (And.intro e f),fR1 (And.intro e f),fR1 (And.intro e f),fR1 (And.intro e f),by rw[<- C];exact fR1 (And.intro e f),rfl,I⟩
  ·rintro m fr Z' ⟨a,o,p,g4,g5,g6,rfl,l⟩;by_cases J:0<m
   ·have i:decide ((0:Int)<(m:Int))=true:=by simpa using J
    have U:(m:Int)≠0:=om;refine gS1 (aI o (aI p (aI g4 (aI g5 (aI g6 (aI i (aI @uJ @R8))))))) ?_;refine⟨a % m,KU _ J,m,fR1 o,fR1 p,fR1 g4,fR,fR,by trivial,by rw[uI];exact l⟩
   ·obtain rfl:m=0:=om;have i:decide ((0:Int)<((0:Nat):Int))=false:=by decide
    rw[nI]at l;subst l;refine gS1 (aI o (aI p (aI g4 (aI g5 (aI g6 (aI i @BS)))))) ?_;exact⟨_,rfl,fR1 o,fR1 p,fR1 g4,fR1 g5⟩
  ·rintro r ⟨fr,rfl,o,p,g4,g5⟩;refine gS1 (aI o (aI p (aI g4 (aI g5 (aI c1 (aI c2 (aI V (aI W @Tryz.results103)))))))) ?_;exact⟨_,rfl,eX⟩
def aF (c: -1000000000<n) (e:n<1000000000):Ev (gO 102 [.int .i64 n] Z) (fun r=>r=⟨false,.bool true,Z⟩) ⟨⟩:=by
 have c1:decide (-1000000000<n)=true:=by simpa using c
 have c2:decide (n<1000000000)=true:=by simpa using e
 refine G1 Tryz.func102 rfl rfl ?_;refine gS1 (aI c1 (aI c2 (a3N @H7 @I0 @Tryz.results102))) ?_;try exact⟨⟩
def oE (g: -1000000000<n) (h:n<1000000000) (i: -1000000000<d) (j:d<1000000000) (e:d≠0):
  Ev (gO 61 [.int .i64 n,.int .i64 d] Z) (fun r=>∃ Z',r=⟨false,.tuple ⟨[.agg ⟨[.int .i64 (qn n d),.int .i64 (qd n d)]⟩,.bool true]⟩,Z'⟩/\Ext Z Z') ⟨⟩:=by
 have f:decide (d=0)=false:=by simpa using e
 refine G1 Tryz.func61 rfl rfl ?_;refine gS1 f ?_;refine(aF g h).mono ?_;rintro r rfl;refine gS1 @H7 ?_;refine(aF i j).mono ?_;rintro r rfl;refine gS ?_;refine(XJ ⟨om,om⟩ ⟨om,om⟩ e).mono ?_;rintro r ⟨Z2,rfl,c⟩;have o:=c.n;have l:Z2.B8 Z.n=some [.int .i64 0,.int .i64 0]:=eT (c.B8 (cL)) cL;have m:Ext Z Z2:=Ext.trans (eX) c;refine gS1 (aI l @Tryz.results61) ?_;exact⟨_,rfl,eX⟩
def ai (n d:Int):Value:= .agg ⟨[.int .i64 n,.int .i64 d]⟩
def AB6 (h:d≠0):Int.gcd (qn n d) (qd n d)=1/\1<=qd n d:=by
 obtain⟨N,i⟩:=nW ((if d<0 then -n else n));obtain⟨D,hD⟩:=nW ((if d<0 then -d else d));have o:0<D:=by rw[<- hD];split<;>omega
 have p:Int.gcd n d=Int.gcd N D:=by rw[<- i,<- hD];split<;>simp[Int.gcd]
 unfold qn qd;rw[i,hD,p];have c:0<Int.gcd N D:=Int.gcd_pos_of_ne_zero_right _ om;obtain⟨k,f⟩:((Int.gcd N D:Nat):Int)∣N:=Int.gcd_dvd_left _ _;obtain⟨m,hm⟩:((Int.gcd N D:Nat):Int)∣D:=Int.gcd_dvd_right _ _;obtain⟨g,hgg⟩:=nW (Int.gcd N D);rw[hgg]at f hm c ⊢;have e:(0:Int)<(g:Int):=om;have j:N / (g:Int)=k:=by rw[f,tR _ om]
 have l:D / (g:Int)=m:=by rw[hm,tR _ om]
 rw[j,l];refine⟨?_,?_⟩
 ·rw[f,hm,Int.gcd_mul_left,Int.natAbs_natCast]at hgg;exact AD7 c (by rw[hgg,Fh])
 ·rcases Int.lt_or_le 0 m with h|h
  ·omega
  ·exfalso;have:=Int.mul_nonpos_of_nonneg_of_nonpos (Int.le_of_lt e) h;omega
def AH3 (h:1<=d) (c:Int.gcd n d=1):qn n d=n/\qd n d=d:=by
 unfold qn qd;rw[z0z om,z0z om,c];simp
end
section
variable {l:List Nat}{a c b:Code}{n k i:Nat}
def UP (J:Nat->Fr->St->Prop) (R:Res->Prop) (n k:Nat) (r:Res):Prop:=match r.o with
 | .normal=>k+1<=n/\J (k+1) r.fr r.Z
 |_=>R r
section
variable {P:Program}{H:EP}{rd:Option Nat}{fr:Fr}{Z:St}
def Jx {J:Nat->Fr->St->Prop}{R:Res->Prop}:UP J R n k ⟨.normal,fr,Z⟩=(k+1<=n/\J (k+1) fr Z):=rfl
def PO {J:Nat->Fr->St->Prop}{R:Res->Prop}:UP J R n k ⟨.exit i,fr,Z⟩=R ⟨.exit i,fr,Z⟩:=rfl
def GL {body:Code}{Q:Res->Prop}{u:Hd Q}(n:Nat) (J:Nat->Fr->St->Prop) (R:Res->Prop) (f:J 0 fr Z)
  (m:∀ k fr Z,k<=n->J k fr Z->Ev (lim P H rd body fr Z) (UP J R n k) ⟨⟩) (h:∀ r,R r->Q r) :
  Ev (lim P H rd (.loop body) fr Z) Q u:=by
 refine BE (fun j fr Z=>∃ k,j+k=n/\J k fr Z) R n ⟨0,om,f⟩ ?_ h;rintro j fr Z ⟨k,p,g⟩;refine(m k fr Z om g).mono ?_;rintro⟨o,e,Z'⟩ d;cases o with
 |normal=>exact⟨n-(k+1),by have:=d.1;omega,k+1,by have:=d.1;omega,d.2⟩
 |exit i=>exact d
 |ret=>exact d
 |pan v=>exact d
end
def JE:List Nat->Code->Code
 | [],c=>c
 |0::l,.seq a _=>JE l a
 |1::l,.seq _ b=>JE l b
 |2::l,.block _ b=>JE l b
 |3::l,.loop b=>JE l b
 |_::_,c=>c
def M1:JE [] c=c:=rfl
def y7:JE (0::l) (.seq a b)=JE l a:=rfl
def y8:JE (1::l) (.seq a b)=JE l b:=rfl
def y9:JE (2::l) (.block i a)=JE l a:=rfl
def AA:JE (3::l) (.loop a)=JE l a:=rfl
def J2 {d:Code}:(some c).getD d=c:=rfl
end
section
variable {l a b:List Nat}{d k:Nat}
def I7:List Nat->Nat
 | []=>0
 |d::l=>d+65536*I7 l
def Dig (l:List Nat):Prop:=∀ d∈l,d<65536
def Trm (l:List Nat):Prop:=∀ d,l.getLast? =some d->d≠0
def RK:I7 []=0:=rfl
def Y1:I7 (d::l)=d+65536*I7 l:=rfl
def RL:∀ {a b:List Nat},I7 (a++b)=I7 a+65536 ^ a.length*I7 b
 | [],b=>by simp[I7]
 | d::a,b=>by
   rw[JF,Y1,Y1,RL,AG,Gd,QU];rw[<- Ek,Cd 65536 (65536 ^ a.length)];omega
def Hp:I7 (a++[d])=I7 a+65536 ^ a.length*d:=by
 rw[RL,Y1,RK,bO,Be]
def Tv {c:Type}{l:List c}{d:c}(h:l[k]? =some d):l.take (k+1)=l.take k++[d]:=by
 rw[Gf,h];rfl
def Cr {c:Type}{l:List c}(h:k<=l.length):(l.take k).length=k:=by rw[KW];omega
def EG (h:l[k]? =some d):I7 (l.take (k+1))=I7 (l.take k)+65536 ^ k*d:=by
 have c:=(List.getElem?_eq_some_iff.1 h).1;rw[Tv h,Hp,Cr om]
def Dig.nil:Dig []:=fun d h=>by cases h
def Dig.snoc (h:Dig l) (e:d<65536):Dig (l++[d]):=fun x c=>by
 rcases An.1 c with c|c
 ·exact h x c
 ·rw[Cb]at c;rw[c];exact e
def Dig.cons (h:Dig l) (e:d<65536):Dig (d::l):=fun x c=>by
 rcases V9.1 c with rfl|c
 ·exact e
 ·exact h x c
def Dig.take (h:Dig l) (k:Nat):Dig (l.take k):=fun x c=>h x (Wi c)
def Dig.get (h:Dig l)(c:l[k]? =some d):d<65536:=h d (y6 c)
def KE:∀ {l:List Nat},Dig l->I7 l<65536 ^ l.length
 | [],_=>by simp[I7]
 | d::l,h=>by
   have h1:=h d (Cw ..);have c:=KE (l:=l) fun x e=>h x (Ci _ e);rw[Y1,AG,Gd];have:I7 l+1<=65536 ^ l.length:=c;have:=Wn 65536 this;omega
def Trm.nil:Trm []:=fun d h=>by simp at h
def Trm.le (h:Trm l) (h0:l≠[]):65536 ^ (l.length-1)<=I7 l:=by
 have e:=List.dropLast_concat_getLast h0;have c:l.getLast h0≠0:=h _ (List.getLast?_eq_some_getLast h0);rw[<- e,Hp,W4,List.length_dropLast];have:65536 ^ (l.length-1)*1<=65536 ^ (l.length-1)*l.getLast h0:=Wn _ om;simp only[AG,Hf];rw[show l.length-1+(0+1)-1=l.length-1 by omega];omega
def Trm.zero (h:Trm l) (e:I7 l=0):l=[]:=by
 by_cases c:l=[]
 ·exact c
 ·have:=h.le c;have:0<65536 ^ (l.length-1):=bL om;omega
def Trm.len (c:Dig a) (f:Trm b) (h:a.length<b.length):I7 a<I7 b:=by
 have g:=KE c;have i:=f.le (fun e=>by rw[e]at h;simp at h);have:65536 ^ a.length<=65536 ^ (b.length-1):=bK om om;omega
def Tz (c:k<=l.length):I7 l=I7 (l.take k)+65536 ^ k*I7 (l.drop k):=by
 have h:=RL (a:=l.take k) (b:=l.drop k);rw[ph,Cr c]at h;exact h
def Tt (i:Dig a) (m:a.length=b.length){x y:Nat}(e:a[k]? =some x) (f:b[k]? =some y) (j:a.drop (k+1)=b.drop (k+1)) (c:x<y):I7 a<I7 b:=by
 have n:=(List.getElem?_eq_some_iff.1 e).1;have o:=(List.getElem?_eq_some_iff.1 f).1;rw[Tz (l:=a) (k:=k+1) om,Tz (l:=b) (k:=k+1) om,j,EG e,EG f];have g:=KE (i.take k);rw[Cr om]at g;have h:65536 ^ k*(x+1)<=65536 ^ k*y:=Wn _ c;rw[QU,Fh]at h;omega
def Hj (e:Dig a) (f:Dig b) (j:Trm a) (m:Trm b) (h:I7 a=I7 b):a=b:=by
 have i:a.length=b.length:=by
  rcases bj a.length b.length with c|c|c
  ·have:=Trm.len e m c;omega
  ·exact c
  ·have:=Trm.len f j c;omega
 clear j m;induction a generalizing b with
 | nil=>cases b with
   |nil=>rfl
   |cons y b=>simp at i
 | cons x a ih=>
   cases b with
   |nil=>simp at i
   | cons y b=>
     have c:=e x (Cw ..);have p:=f y (Cw ..);rw[Y1,Y1]at h;have n:x=y:=om;have o:I7 a=I7 b:=om;rw[n,ih (fun d g=>e d (Ci _ g)) (fun d g=>f d (Ci _ g)) o (by simpa using i)]
end
section
variable {l:List Nat}{Z:St}{v:Value}{cells:List Value}{off n k:Nat}
def dgv (d:Nat):Value:= .int .i64 (d:Int)
def DN (Z:St) (v:Value) (l:List Nat):Prop:=(v= .slice none 0 0/\l=[])\/∃ b off sp c cells,v= .slice (some ⟨b,off,sp⟩) l.length c/\l.length<=c/\(sp=none\/sp=some 1)/\b<Z.n/\Z.row b=some cells/\sub cells off l.length=some (l.map dgv)
def DN.mono {Z':St}(h:DN Z v l) (d:Ext Z Z'):DN Z' v l:=by
 rcases h with h|⟨b,off,sp,c,cells,e,f,g,a,i,j⟩
 ·exact .inl h
 ·exact .inr ⟨b,off,sp,c,cells,e,f,g,z5z a d.n,by rw[d.row a];exact i,j⟩
def DN.shape (h:DN Z v l):∃ a c,v= .slice a l.length c:=by
 rcases h with⟨rfl,rfl⟩|⟨b,off,sp,c,cells,d,-⟩
 ·exact⟨_,_,rfl⟩
 ·exact⟨_,_,d⟩
def fN (h:sub cells off n=some (l.map dgv)){d:Nat}(c:l[k]? =some d):sub cells (off+k) 1=some [dgv d]:=by
 obtain⟨f,b⟩:=sub_eq h;obtain⟨hl,hd⟩:=List.getElem?_eq_some_iff.1 c;have e:=congrArg List.length b;rw[z2z,KW,HW]at e;rw[AE om];congr 1;have a:=congrArg (fun z=>z[k]?) b;rw[List.getElem?_map,c,List.getElem?_take,z1z om,List.getElem?_drop]at a;rw[Mk (show off+k<cells.length by omega)];rw[List.getElem?_eq_getElem (show off+k<cells.length by omega)]at a;simp only[TL,Option.some.injEq]at a;rw[<- a];rfl
def vu (h:sub cells off n=some (l.map dgv))(c:k<=l.length):sub cells off k=some ((l.take k).map dgv):=by
 obtain⟨b,a⟩:=sub_eq h;have e:=congrArg List.length a;rw[z2z,KW,HW]at e;rw[AE om,List.map_take,a,fW,vw om]
def EW (h:DN Z v l) (U:l.length<=1000):
  Ev (gO 142 [v] Z) (fun r=>∃ v' l',r=⟨false,v',Z⟩/\DN Z v' l'/\(∃ k,l'=l.take k)/\Trm l'/\I7 l'=I7 l/\K3 v'=K3 v) ⟨⟩:=by
 obtain⟨a,c,rfl⟩:=h.shape;refine G1 Tryz.func142 rfl rfl ?_;refine gU1 (aI @A6 @C7) ?_
 refine GL l.length (fun j fr L=>L=Z/\∃ v',fr.get 0=some v'/\DN Z v' (l.take (l.length-j))/\I7 (l.take (l.length-j))=I7 l/\K3 v'=K3 (.slice a l.length c))
  (fun r=>∃ fr v' l',r=⟨.exit 0,fr,Z⟩/\fr.get 0=some v'/\DN Z v' l'/\(∃ k,l'=l.take k)/\Trm l'/\I7 l'=I7 l/\K3 v'=K3 (.slice a l.length c)) ?_ ?_ ?_
 ·exact⟨rfl,_,fR,by rw[Up,Dq];exact h,by rw[Up,Dq],rfl⟩
 ·rintro j fr L S ⟨rfl,v',f,g,p,e⟩;obtain⟨m,Q⟩:=nW (l.length-j);rw[Q]at g p;have o:(l.take m).length=m:=Cr om;rcases g with⟨rfl,M⟩|⟨b,off,sp,s,cells,rfl,N,i,D,y,q⟩
  ·have B:decide ((0:Int)<((0:Nat):Int))=false:=rfl;refine gU1 (aI @A6 (aI @C7 (aI f B))) ?_;rw[M]at p;exact⟨_,_,_,rfl,fR1 f,.inl ⟨rfl,rfl⟩,⟨0,rfl⟩,Trm.nil,p,by exact e⟩
  ·rw [o]at N q;rw[o]at f;cases m with
   | zero=>
     have B:decide ((0:Int)<((0:Nat):Int))=false:=rfl;refine gU1 (aI @A6 (aI @C7 (aI f B))) ?_;exact⟨_,_,[],rfl,fR1 f,.inr ⟨b,off,sp,s,cells,rfl,Af _,i,D,y,by rw[TY]at q;exact q⟩,⟨0,by rw[TY]⟩,Trm.nil,by rw[<- p,TY],by exact e⟩
   | succ m=>
     obtain⟨d,g⟩:=I3 (l:=l) (k:=m) om;have E:(l.take (m+1))[m]? =some d:=by rw[List.getElem?_take,z1z om];exact g
     have C:=fN q E;unfold dgv at C;have I:decide ((0:Int)<((m+1:Nat):Int))=true:=dT;have J:((m+1:Nat):Int)-1=(m:Nat):=om;have u:Nat.blt m (m+1)=true:=by rw[EJ];omega
     have F:sliceAt 1 (some ⟨b,off,sp⟩) 0 m s=some (.slice (some ⟨b,off,sp⟩) m s):=by
      rcases i with rfl|rfl
      ·rfl
      ·rw[vx];rfl
     cases z:decide ((d:Int)=0)with
     | true=>
       have H:d=0:=by have:=z6z z;omega
       refine gU1 (aI @A6 (aI @C7 (aI f (aI I (aI J (aI y (aI C (aI z (aI u F))))))))) ?_;have A:l.length-(j+1)=m:=om;have G:I7 (l.take m)=I7 l:=by rw[<- p,EG g,H,bO,Be]
       refine⟨om,rfl,_,fR,.inr ⟨b,off,sp,s,cells,by rw[A,Cr om],by rw[A,Cr om];omega,i,D,y,?_⟩,by rw[A];exact G,by exact e⟩;rw[A,Cr om];have:=vu q (k:=m) (by rw[Cr om];omega);rw[fW,vw om]at this;exact this
     | false=>
       have H:d≠0:=by have:=z9z z;omega
       refine gU1 (aI @A6 (aI @C7 (aI f (aI I (aI J (aI y (aI C (aI z u)))))))) ?_;refine⟨_,_,l.take (m+1),rfl,fR1 f,.inr ⟨b,off,sp,s,cells,by rw[Cr om],by rw[Cr om];omega,i,D,y,by rw[Cr om];exact q⟩,⟨_,rfl⟩,fun x K=>?_,p,by exact e⟩;rw[Tv g,List.getLast?_concat]at K;cases K;exact H
 ·rintro r ⟨fr,v',l',rfl,f,g,O,ht,p,e⟩;obtain⟨a',R,rfl⟩:=g.shape;refine gU1 (aI @A6 (aI @C7 (aI f @Tryz.results142))) ?_;exact⟨_,l',rfl,g,O,ht,p,e⟩
end
end Go.Proofs.T
namespace Go.Proofs.T
open Go Go.Ab
open Nat (reduceMul reduceEqDiff reduceAdd)
section
variable {x y:Nat}{Z:St}{v:Value}
def Qm (x y:Nat):Int:=if x<y then -1 else if x=y then 0 else 1
def fL (h:x<y):Qm x y= -1:=z1z h
def vm:Qm x x=0:=by unfold Qm;rw[z0z om,z1z rfl]
def fM (h:y<x):Qm x y=1:=by unfold Qm;rw[z0z om,z0z om]
def DN.use {l:List Nat}(h:DN Z v l):∃ a c b off cells,v= .slice a l.length c/\(0<l.length->∃ sp,a=some ⟨b,off,sp⟩/\b<Z.n/\Z.row b=some cells)/\∀ k d,l[k]? =some d->sub cells (off+k) 1=some [.int .i64 ((d:Nat):Int)]:=by
 rcases h with⟨rfl,rfl⟩|⟨b,off,sp,c,cells,e,m,o,f,g,i⟩
 ·exact⟨none,0,0,0,[],rfl,fun h=>by simp at h,fun k d h=>by simp at h⟩
 ·exact⟨_,c,b,off,cells,e,fun _=>⟨sp,rfl,f,g⟩,fun k d j=>fN i j⟩
def QT {w:Value}{a b:List Nat}(L:DN Z v a) (M:DN Z w b) (C:Dig a) (D:Dig b) (N:Trm a) (O:Trm b) (V:a.length<=1000) (W:b.length<=1000):
  Ev (gO 180 [v,w] Z) (fun r=>r=⟨false,.int .i64 (Qm (I7 a) (I7 b)),Z⟩) ⟨⟩:=by
 obtain⟨H,I,Q,R,J,rfl,F,G⟩:=L.use;obtain⟨ba,bc,bb,bo,bcs,rfl,b1,b2⟩:=M.use;refine G1 Tryz.func180 rfl rfl ?_;by_cases h:a.length=b.length
 ·have j:decide ((a.length:Int)=(b.length:Int))=true:=by simp[h]
  refine gU1 (aI @A6 (aI @C7 j)) ?_
  refine GL a.length (fun k fr E=>E=Z/\fr.get 5=some (.int .i64 ((a.length:Int)-1-(k:Nat)))/\fr.get 0=some (.slice H a.length I)/\fr.get 1=some (.slice ba b.length bc)/\a.drop (a.length-k)=b.drop (a.length-k))
   (fun r=>(∃ fr,r=⟨.exit 0,fr,Z⟩/\a=b)\/∃ fr,r=⟨.ret,fr,Z⟩/\fr.get 4=some (.int .i64 (Qm (I7 a) (I7 b)))) ?_ ?_ ?_
  ·exact⟨rfl,by rw[show((a.length:Int)-1-((0:Nat):Int))=(a.length:Int)-1 by omega];exact(fR),fR,fR,by rw[Up,XO,h,XO]⟩
  ·rintro k fr E S ⟨rfl,g5,n,o,q⟩;by_cases s:k=a.length
   ·subst s;have p:((a.length:Int)-1-(a.length:Nat))= -1:=om;rw[p]at g5;have f:decide ((-1:Int)<0)=true:=rfl;refine gU1 (aI @A6 (aI @C7 (aI g5 (aI f @XP)))) ?_;rw[WY,Ma,Ma]at q;exact .inl ⟨_,rfl,q⟩
   ·obtain⟨m,U⟩:=nW (a.length-1-k);have p:((a.length:Int)-1-(k:Nat))=((m:Nat):Int):=om;rw[p]at g5;obtain⟨x,hx⟩:=I3 (l:=a) (k:=m) om;obtain⟨y,hy⟩:=I3 (l:=b) (k:=m) om;obtain⟨sp,rfl,h3,h4⟩:=F om;obtain⟨sp',rfl,h3',h4'⟩:=b1 om;have A:=G m x hx;have B:=b2 m y hy;have c1:decide (((m:Nat):Int)<0)=false:=dF;have u:Nat.blt m a.length=true:=by rw[EJ];omega
    have z:Nat.blt m b.length=true:=by rw[EJ];omega
    have d:a.drop (m+1)=b.drop (m+1):=by rw[show m+1=a.length-k by omega];exact q
    have K:((m:Nat):Int)-1=(a.length:Int)-1-((k+1:Nat):Int):=om;cases g:decide (((x:Nat):Int)=((y:Nat):Int))with
    | true=>
      have i:x=y:=by have:=z6z g;omega
      refine gU1 (aI @A6 (aI @C7 (aI g5 (aI n (aI o (aI c1 (aI u (aI z (aI h4 (aI h4' (aI A (aI B g)))))))))))) ?_;refine⟨om,rfl,by rw[<- K];exact(fR),fR1 n,fR1 o,?_⟩;rw[show a.length-(k+1)=m by omega,Mk (show m<a.length by omega),Mk (show m<b.length by omega),d];have:=(List.getElem?_eq_some_iff.1 hx).2;have:=(List.getElem?_eq_some_iff.1 hy).2;congr 1;omega
    | false=>
      have i:x≠y:=by have:=z9z g;omega
      rcases Nat.lt_or_gt_of_ne i with c|c
      ·have dl:decide (((x:Nat):Int)<((y:Nat):Int))=true:=dT;simp(maxSteps:=8000000) (disch:=first|exact dS|fail) only[↓bD,bU,reduceMul,reduceEqDiff,reduceAdd,Nat.reduceBEq,reduceIte,Option.isNone_none,A6,C7,g5,n,o,c1,u,z,h4,h4',A,B,g,dl];exact .inr ⟨_,rfl,by rw[fL (Tt C h hx hy d c)];exact(fR)⟩
      ·have dl:decide (((x:Nat):Int)<((y:Nat):Int))=false:=dF;simp(maxSteps:=8000000) (disch:=first|exact dS|fail) only[↓bD,bU,reduceMul,reduceEqDiff,reduceAdd,Nat.reduceBEq,reduceIte,Option.isNone_none,A6,C7,g5,n,o,c1,u,z,h4,h4',A,B,g,dl];exact .inr ⟨_,rfl,by rw[fM (Tt D h.symm hy hx d.symm c)];exact(fR)⟩
  ·rintro r (⟨fr,rfl,e⟩|⟨fr,rfl,g4⟩)
   ·refine gU1 (a3N @A6 @C7 @Tryz.results180) ?_;rw[e,vm]
   ·refine gU1 (aI @A6 (aI @C7 (aI g4 @Tryz.results180))) ?_;try exact⟨⟩
 ·have j:decide ((a.length:Int)=(b.length:Int))=false:=by simp;omega
  rcases Nat.lt_or_gt_of_ne h with c|c
  ·have f:decide ((a.length:Int)<(b.length:Int))=true:=dT;rw[fL (Trm.len C O c)];refine gU1 (aI @A6 (aI @C7 (aI j (aI f @Tryz.results180)))) ?_;try exact⟨⟩
  ·have f:decide ((a.length:Int)<(b.length:Int))=false:=dF;rw[fM (Trm.len D N c)];refine gU1 (aI @A6 (aI @C7 (aI j (aI f @Tryz.results180)))) ?_;try exact⟨⟩
end
end Go.Proofs.T
namespace Go.Proofs.T
open Go Go.Ab
def DN.AC6 {lo:Nat}{Z:St}{v:Value}{l:List Nat}(h:OL lo Z 1 v (l.map fun d=>[dgv d])):DN Z v l:=by
 have a:(l.map fun d=>[dgv d]).flatten=l.map dgv:=by
  clear h;induction l with
  |nil=>rfl
  |cons d l i=>rw[OW,Qp,i];rfl
 obtain⟨m,⟨rfl,c⟩|⟨b,sp,rfl,g,j,e,f⟩⟩:=h
 ·exact .inl ⟨rfl,List.map_eq_nil_iff.1 c⟩
 ·rw[z2z];refine .inr ⟨b,0,sp,l.length,_,rfl,AP _,g,e,C1 f,?_⟩;rw[a];exact G3 (by simp) (by simp)
def Qq {x y a:Nat}(c:x<65536) (e:y<65536) (b:a<=1):∃ d be',d<65536/\be'<=1/\d+a+y=x+65536*be'/\((be'=1/\decide (((x:Nat):Int)-(a:Nat)-(y:Nat)<0)=true/\((x:Nat):Int)-(a:Nat)-(y:Nat)+65536=(d:Nat))\/(be'=0/\decide (((x:Nat):Int)-(a:Nat)-(y:Nat)<0)=false/\((x:Nat):Int)-(a:Nat)-(y:Nat)=(d:Nat))):=by
 by_cases h:x<a+y
 ·exact⟨x+65536-a-y,1,om,om,om,.inl ⟨rfl,dT,om⟩⟩
 ·exact⟨x-a-y,0,om,om,om,.inr ⟨rfl,dF,om⟩⟩
def Tw {O A B P d b a x y:Nat}(h:O+B=A+b*P) (c:d+b+y=x+65536*a):O+P*d+(B+P*y)=A+P*x+a*(P*65536):=by
 have e:=congrArg (P*·) c;simp only[QU]at e;rw[Cd b P]at h;rw[Cd a (P*65536),Ek];omega
def oQ {Z:St}{v w:Value}{a b:List Nat}(ha:DN Z v a) (hb:DN Z w b) (da:Dig a) (db:Dig b) (la:a.length<=100) (lb:b.length<=100) (a7:I7 b<=I7 a) (a4:b.length<=a.length) :
  Ev (gO 182 [v,w] Z) (fun r=>∃ v' l Z',r=⟨false,v',Z'⟩/\Ext Z Z'/\DN Z' v' l/\Dig l/\Trm l/\I7 l=I7 a-I7 b/\l.length<=a.length/\∀ k,K3 v'=some k->Z.n<=k) ⟨⟩:=by
 obtain⟨aa,ac,ab,ao,a6,rfl,a1,a2⟩:=ha.use;obtain⟨ba,bc,bb,bo,bcs,rfl,b1,b2⟩:=hb.use;refine G1 Tryz.func182 rfl rfl ?_;refine gU1 (a10N @A6 @R5 @R6 @R1 @K6 @R2 @P5 @K4 @K5 @H5) ?_
 refine I9 a.length (fun i fr m=>fr.get 7=some (.int .i64 i)/\fr.get 0=some (.slice aa a.length ac)/\fr.get 1=some (.slice ba b.length bc)/\Ext Z m/\∃ A v o,fr.get 6=some (.int .i64 ((A:Nat):Int))/\fr.get 5=some v/\OL Z.n m 1 v (o.map fun d=>[dgv d])/\A<=1/\o.length=i/\Dig o/\I7 o+I7 (b.take i)=I7 (a.take i)+A*65536 ^ i)
  (fun r=>∃ fr m v o,r=⟨.exit 0,fr,m⟩/\Ext Z m/\fr.get 5=some v/\OL Z.n m 1 v (o.map fun d=>[dgv d])/\o.length=a.length/\Dig o/\I7 o=I7 a-I7 b) ?_ ?_ ?_ ?_
 ·exact⟨fR,fR,fR,.refl _,0,_,[],fR,fR,OL.nil,om,rfl,Dig.nil,by simp[I7]⟩
 ·rintro i fr m hi ⟨z,u,B,q,A,v,o,g6,g5,D,I,e,f,L⟩;have U:=M3 hi;have hn:=q.n;obtain⟨x,W⟩:=I3 hi;have R:=da.get W;obtain⟨sp,rfl,h3,h4⟩:=a1 om;have s1:=a2 i x W;have Y:=eT (q.row h3) h4;have X:Nat.blt i a.length=true:=by rw[EJ];omega
  have S:((i:Nat):Int)+1=((i+1:Nat):Int):=om;by_cases K:i<b.length
  ·obtain⟨y,hy⟩:=I3 K;have a5:=db.get hy;obtain⟨sp',rfl,h3',h4'⟩:=b1 om;have s2:=b2 i y hy;have r2:=eT (q.row h3') h4';have l2:Nat.blt i b.length=true:=by rw[EJ];omega
   have p:decide (i<b.length)=true:=by simpa using K
   obtain⟨d,E,s,a0,J,C⟩:=Qq R a5 I;have j:I7 (o++[d])+I7 (b.take (i+1))=I7 (a.take (i+1))+E*65536 ^ (i+1):=by
    rw[Hp,e,EG W,EG hy,Gd];exact Tw L J
   rcases C with⟨rfl,F,H⟩|⟨rfl,F,H⟩
   ·refine gU1 (aI @A6 (aI @R5 (aI @R6 (aI @R1 (aI @K6 (aI @R2 (aI @P5 (aI @K4 (aI @K5 (aI @H5 (aI z (aI u (aI B (aI g6 (aI g5 (aI U (aI Y (aI s1 (aI X (aI r2 (aI s2 (aI l2 (aI p (aI F H)))))))))))))))))))))))) ?_;have c:OL Z.n (m.new [Value.int .i64 ((d:Nat):Int)]) 1 v (o.map fun d=>[dgv d]):=OL.ext D (.new _ _);refine J6 (row:=[dgv d]) (fun _ _ _ _=>P2) c (G6 om om) (G3 (by simp) (by simp)) (by rw[z2z];omega) (by simp;omega) ?_;rintro M N h g -;refine gU1 (aI @A6 (aI @R5 (aI @R6 (aI @R1 (aI @K6 (aI @R2 (aI @P5 (aI @K4 (aI @K5 (aI @H5 (aI z S))))))))))) ?_;exact⟨fR,fR1 u,fR1 B,g.ext (q.trans (.new _ _)) c nL,1,M,o++[d],fR,fR,by rw[Ah];exact h,om,by rw[W4,e];rfl,f.snoc s,j⟩
   ·have G:decide (((d:Nat):Int)<0)=false:=dF;refine gU1 (aI @A6 (aI @R5 (aI @R6 (aI @R1 (aI @K6 (aI @R2 (aI @P5 (aI @K4 (aI @K5 (aI @H5 (aI z (aI u (aI B (aI g6 (aI g5 (aI U (aI Y (aI s1 (aI X (aI r2 (aI s2 (aI l2 (aI p (aI F (aI G H))))))))))))))))))))))))) ?_;have c:OL Z.n (m.new [Value.int .i64 ((d:Nat):Int)]) 1 v (o.map fun d=>[dgv d]):=OL.ext D (.new _ _);refine J6 (row:=[dgv d]) (fun _ _ _ _=>P2) c (G6 om om) (G3 (by simp) (by simp)) (by rw[z2z];omega) (by simp;omega) ?_;rintro M N h g -;refine gU1 (aI @A6 (aI @R5 (aI @R6 (aI @R1 (aI @K6 (aI @R2 (aI @P5 (aI @K4 (aI @K5 (aI @H5 (aI z S))))))))))) ?_;exact⟨fR,fR1 u,fR1 B,g.ext (q.trans (.new _ _)) c nL,0,M,o++[d],fR,fR,by rw[Ah];exact h,om,by rw[W4,e];rfl,f.snoc s,j⟩
  ·have p:decide (i<b.length)=false:=by simpa using K
   obtain⟨d,E,s,a0,J,C⟩:=Qq (y:=0) R om I;have z0:((x:Nat):Int)-(A:Nat)-((0:Nat):Int)=((x:Nat):Int)-(A:Nat):=om;rw[z0]at C;have j:I7 (o++[d])+I7 (b.take (i+1))=I7 (a.take (i+1))+E*65536 ^ (i+1):=by
    have hh:=Tw L J;rw[bO,Be,Pg (show b.length<=i by omega)]at hh;rw[Hp,e,EG W,Pg (show b.length<=i+1 by omega),Gd];exact hh
   rcases C with⟨rfl,F,H⟩|⟨rfl,F,H⟩
   ·refine gU1 (aI @A6 (aI @R5 (aI @R6 (aI @R1 (aI @K6 (aI @R2 (aI @P5 (aI @K4 (aI @K5 (aI @H5 (aI z (aI u (aI B (aI g6 (aI g5 (aI U (aI Y (aI s1 (aI X (aI p (aI F H))))))))))))))))))))) ?_;have c:OL Z.n (m.new [Value.int .i64 ((d:Nat):Int)]) 1 v (o.map fun d=>[dgv d]):=OL.ext D (.new _ _);refine J6 (row:=[dgv d]) (fun _ _ _ _=>P2) c (G6 om om) (G3 (by simp) (by simp)) (by rw[z2z];omega) (by simp;omega) ?_;rintro M N h g -;refine gU1 (aI @A6 (aI @R5 (aI @R6 (aI @R1 (aI @K6 (aI @R2 (aI @P5 (aI @K4 (aI @K5 (aI @H5 (aI z S))))))))))) ?_;exact⟨fR,fR1 u,fR1 B,g.ext (q.trans (.new _ _)) c nL,1,M,o++[d],fR,fR,by rw[Ah];exact h,om,by rw[W4,e];rfl,f.snoc s,j⟩
   ·have G:decide (((d:Nat):Int)<0)=false:=dF;refine gU1 (aI @A6 (aI @R5 (aI @R6 (aI @R1 (aI @K6 (aI @R2 (aI @P5 (aI @K4 (aI @K5 (aI @H5 (aI z (aI u (aI B (aI g6 (aI g5 (aI U (aI Y (aI s1 (aI X (aI p (aI F (aI G H)))))))))))))))))))))) ?_;have c:OL Z.n (m.new [Value.int .i64 ((d:Nat):Int)]) 1 v (o.map fun d=>[dgv d]):=OL.ext D (.new _ _);refine J6 (row:=[dgv d]) (fun _ _ _ _=>P2) c (G6 om om) (G3 (by simp) (by simp)) (by rw[z2z];omega) (by simp;omega) ?_;rintro M N h g -;refine gU1 (aI @A6 (aI @R5 (aI @R6 (aI @R1 (aI @K6 (aI @R2 (aI @P5 (aI @K4 (aI @K5 (aI @H5 (aI z S))))))))))) ?_;exact⟨fR,fR1 u,fR1 B,g.ext (q.trans (.new _ _)) c nL,0,M,o++[d],fR,fR,by rw[Ah];exact h,om,by rw[W4,e];rfl,f.snoc s,j⟩
 ·rintro fr m ⟨z,u,B,q,A,v,o,g6,g5,D,I,e,f,L⟩;refine gU1 (aI @A6 (aI @R5 (aI @R6 (aI @R1 (aI @K6 (aI @R2 (aI @P5 (aI @K4 (aI @K5 (aI @H5 (aI z (aI u @HD)))))))))))) ?_;refine⟨_,_,v,o,rfl,q,fR1 g5,D,e,f,?_⟩;rw[Dq,Pg a4]at L;have h1:=KE f;rw[e]at h1;rcases(show A=0\/A=1 by omega)with rfl|rfl
  ·omega
  ·rw[SW]at L;omega
 rintro r ⟨fr,m,v,o,rfl,q,g5,D,e,f,L⟩;have Q:=DN.AC6 D;obtain⟨va,vc,rfl⟩:=Q.shape;refine gU1 (aI @A6 (aI @R5 (aI @R6 (aI @R1 (aI @K6 (aI @R2 (aI @P5 (aI @K4 (aI @K5 (aI @H5 g5)))))))))) ?_;refine(EW Q om).mono ?_;rintro r ⟨v',l',rfl,O,⟨k,V⟩,ht,j,a3⟩;obtain⟨va',vc',rfl⟩:=O.shape;refine gU1 (a3N @A6 @C7 @Tryz.results182) ?_;exact⟨_,l',_,rfl,q,O,by rw[V];exact f.take k,ht,by rw[j,L],by rw[V,KW,e];omega,fun k V=>(D.blk (by rw[<- a3];exact V)).1⟩
section
variable {l:List Nat}{y x k j V Q P c o V':Nat}
def GO (x:Nat) (b:List Nat) (i:Nat) (out:List Nat):Nat->List Nat×Nat
 |0=>(out,0)
 |k+1=>((GO x b i out k).1.set (i+k) (((GO x b i out k).1.getD (i+k) 0+x*b.getD k 0+(GO x b i out k).2) % 65536),((GO x b i out k).1.getD (i+k) 0+x*b.getD k 0+(GO x b i out k).2) / 65536)
def Gr (a b:List Nat):Nat->List Nat
 |0=>List.replicate (a.length+b.length) 0
 |i+1=>(GO (a.getD i 0) b i (Gr a b i) b.length).1.set (i+b.length) (GO (a.getD i 0) b i (Gr a b i) b.length).2
def getD_at (h:l[k]? =some x):l.getD k 0=x:=by rw[List.getD,h];rfl
def iE (h:Dig l) (b:y<65536):Dig (l.set j y):=fun x a=>by
 rcases fA a with a|rfl
 ·exact h x a
 ·exact b
def NN (h:Dig l) (k:Nat):l.getD k 0<65536:=by
 cases a:l[k]? with
 |none=>simp[List.getD,a]
 |some x=>rw[getD_at a];exact h x (y6 a)
def getD_set_ne (h:j≠k):(l.set j y).getD k 0=l.getD k 0:=by
 rw[List.getD,List.getD,List.getElem?_set_ne h]
def Jr (x:Nat) (b:List Nat) (i:Nat) (out:List Nat):∀ k,(GO x b i out k).1.length=out.length
 |0=>rfl
 |k+1=>by rw[GO,QV,Jr x b i out k]
def hZ (a:x<65536) (b:y<65536):x*y<=4294836225:=by
 have:=oo (Nat.le_of_lt_succ a) (Nat.le_of_lt_succ b);omega
def WL {x:Nat}{b:List Nat}{i:Nat}{out:List Nat}(e:x<65536) (a:∀ k,b.getD k 0<65536) (d:Dig out):∀ k,Dig (GO x b i out k).1/\(GO x b i out k).2<65536
 |0=>⟨d,by show 0<65536;omega⟩
 | k+1=>by
   obtain⟨h1,h2⟩:=WL (i:=i) e a d k;have f:=NN h1 (i+k);have g:=hZ e (a k);rw[GO];exact⟨iE h1 om,by show _ / 65536<65536;omega⟩
def Gs (a b:List Nat):∀ i,(Gr a b i).length=a.length+b.length
 |0=>by simp[Gr]
 |i+1=>by rw[Gr,QV,Jr,Gs a b i]
def WM {a b:List Nat}(d:∀ k,a.getD k 0<65536) (e:∀ k,b.getD k 0<65536):∀ i,Dig (Gr a b i)
 | 0=>fun x hx=>by
   rw[Gr]at hx;obtain⟨_,rfl⟩:=List.mem_replicate.1 hx;omega
 | i+1=>by
   obtain⟨f,g⟩:=WL (i:=i) (d i) e (WM d e i) b.length;rw[Gr];exact iE f g
def SQ:∀ {l:List Nat}{j:Nat}(y:Nat),j<l.length->I7 (l.set j y)+65536 ^ j*l.getD j 0=I7 l+65536 ^ j*y
 | [],j,y,h=>by simp at h
 | d::l,0,y,_=>by
   rw[List.set_cons_zero,Y1,Y1,gC,SW,SW];show y+65536*I7 l+d=_;omega
 | d::l,j+1,y,h=>by
   have ih:=SQ (l:=l) (j:=j) y (by simpa using h);rw[List.set_cons_succ,Y1,Y1,Gd];show d+65536*I7 (l.set j y)+65536 ^ j*65536*l.getD j 0=_;have e:=congrArg (65536*·) ih;simp only[QU]at e;rw[<- Ek,<- Ek,Cd 65536 (65536 ^ j)]at e;omega
def Un:∀ n,I7 (List.replicate n 0)=0
 |0=>rfl
 |n+1=>by rw[mu,Y1,Un n]
def mQ (n k:Nat):(List.replicate n 0).getD k 0=0:=by
 rw[List.getD,List.getElem?_replicate];by_cases h:k<n
 ·rw[z1z h];rfl
 ·rw[z0z h];rfl
def SR (x:Nat) (b:List Nat) (i:Nat) (out:List Nat):∀ k j,i+k<=j->(GO x b i out k).1.getD j 0=out.getD j 0
 |0,j,h=>rfl
 |k+1,j,h=>by rw[GO,getD_set_ne om,SR x b i out k j om]
def uB {M D R:Nat}(h:V+P*c=Q) (b:V'+P*o=V+P*R) (a:65536*D+R=o+M+c):V'+P*65536*D=Q+P*M:=by
 have e:=congrArg (P*·) a;simp only[QU]at e;rw[<- Ek]at e;omega
def zm (h:V+P*c=Q) (a:V'+P*o=V+P*((o+x*y+c) % 65536)):V'+P*65536*((o+x*y+c) / 65536)=Q+P*(x*y) :=
 uB h a (RM ..)
def Zv {x:Nat}{b:List Nat}{i:Nat}{out:List Nat}(d:i+b.length<=out.length):∀ k,k<=b.length->I7 (GO x b i out k).1+65536 ^ (i+k)*(GO x b i out k).2=I7 out+65536 ^ i*(x*I7 (b.take k))
 |0,_=>by simp[GO,I7]
 | k+1,h=>by
   have ih:=Zv (x:=x) d k om;obtain⟨y,a⟩:∃ y,b[k]? =some y:=⟨_,List.getElem?_eq_getElem om⟩
   have e:=SQ (l:=(GO x b i out k).1) (j:=i+k) (((GO x b i out k).1.getD (i+k) 0+x*b.getD k 0+(GO x b i out k).2) % 65536) (by rw[Jr];omega);rw[GO,<- Px,Gd,EG a];have:=zm ih e;rw[this,getD_at a,QU,QU,rY];rw[show 65536 ^ i*(x*(65536 ^ k*y))=65536 ^ i*65536 ^ k*(x*y)from by rw[Nat.mul_left_comm x,Ek]];omega
def Zw (a b:List Nat):∀ i j,i+b.length<=j->(Gr a b i).getD j 0=0
 |0,j,_=>mQ _ _
 |i+1,j,h=>by rw[Gr,getD_set_ne om,SR _ _ _ _ _ _ om,Zw a b i j om]
def Zi {a b:List Nat}:∀ i,i<=a.length->I7 (Gr a b i)=I7 (a.take i)*I7 b
 |0,_=>by rw[Gr,Un,TY,RK,GV]
 | i+1,h=>by
   obtain⟨x,hx⟩:∃ x,a[i]? =some x:=⟨_,List.getElem?_eq_getElem om⟩
   have e:=Zv (x:=a.getD i 0) (b:=b) (i:=i) (out:=Gr a b i) (by rw[Gs];omega) b.length nL;have d:=SQ (l:=(GO (a.getD i 0) b i (Gr a b i) b.length).1) (j:=i+b.length) (GO (a.getD i 0) b i (Gr a b i) b.length).2 (by rw[Jr,Gs];omega);rw[SR _ _ _ _ _ _ nL,Zw _ _ _ _ nL,bO,Be]at d;rw[Gr,d,e,Zi i om,Dq,EG hx,getD_at hx,Sd,Ek]
end
section
variable {l:List Nat}{j:Nat}{Z:St}
def Lg {y:Nat}(h:j<l.length):M5 (l.map dgv) j [.int .i64 (y:Int)]=some ((l.set j y).map dgv):=by
 rw[LI (by simp;omega),List.map_set,List.set_eq_take_append_cons_drop,z1z (by simpa using h)];simp[dgv]
def AU0 (h:j<l.length):sub (l.map dgv) j 1=some [.int .i64 ((l.getD j 0:Nat):Int)]:=by
 rw[AE (by simp;omega),Mk (by simpa using h)];simp[List.getD,List.getElem?_eq_getElem h,dgv]
def VI:∀ n,rep [.int .i64 0] n=(List.replicate n 0).map dgv
 |0=>rfl
 |n+1=>by rw[YI,VI n];rfl
def DN.VK {b:Nat}(a:b<Z.n) (c:Z.row b=some (l.map dgv)):DN Z (.slice (some ⟨b,0,none⟩) l.length l.length) l :=
 .inr ⟨b,0,none,_,_,rfl,AP _,.inl rfl,a,c,G3 (by simp) (by simp)⟩
def mD {v w:Value}{a b:List Nat}(ha:DN Z v a) (hb:DN Z w b) (da:Dig a) (db:Dig b) (la:a.length<=100) (lb:b.length<=100):
  Ev (gO 210 [v,w] Z) (fun r=>∃ v' l Z',r=⟨false,v',Z'⟩/\Ext Z Z'/\DN Z' v' l/\Dig l/\Trm l/\I7 l=I7 a*I7 b/\l.length<=a.length+b.length) ⟨⟩:=by
 have q:∀ k,a.getD k 0<65536:=NN da;have m:∀ k,b.getD k 0<65536:=NN db;obtain⟨va,vc,vb,vo,a8,rfl,h1,h2⟩:=ha.use;obtain⟨wa,wc,wb,wo,wcs,rfl,k1,k2⟩:=hb.use;have M:((a.length:Int)+(b.length:Int))=((a.length+b.length:Nat):Int):=om;have Uv:rep [.int .i64 0] (a.length+b.length)=(Gr a b 0).map dgv:=VI _;refine G1 Tryz.func210 rfl rfl ?_;refine gU1 (aI @A6 (aI @C7 (aI M Uv))) ?_
 refine I9 a.length (fun i fr Z'=>fr.get 5=some (.slice (some ⟨Z.n,0,none⟩) (a.length+b.length) (a.length+b.length))/\fr.get 6=some (.int .i64 (i:Nat))/\fr.get 0=some (.slice va a.length vc)/\fr.get 1=some (.slice wa b.length wc)/\Ext Z Z'/\Z.n<Z'.n/\Z'.B8 Z.n=some ((Gr a b i).map dgv))
  (fun r=>∃ fr Z',r=⟨.exit 0,fr,Z'⟩/\fr.get 5=some (.slice (some ⟨Z.n,0,none⟩) (a.length+b.length) (a.length+b.length))/\Ext Z Z'/\Z.n<Z'.n/\Z'.B8 Z.n=some ((Gr a b a.length).map dgv)) ?_ ?_ ?_ ?_
 ·exact⟨fR,fR,fR,fR,eX,by simp,cL⟩
 ·rintro i fr Z1 hi ⟨g5,g6,d,e,R,X,a0⟩;have ca:decide (i<a.length)=true:=by simpa using hi
  obtain⟨x,I⟩:=I3 hi;have hx:=getD_at I;have xl:=q i;rw[hx]at xl;obtain⟨sp,rfl,l3,l4⟩:=h1 om;have l7:=h2 i _ I;obtain⟨tr,htr⟩:=nW (GO x b i (Gr a b i));have F:∀ k,Dig (tr k).1/\(tr k).2<65536:=fun k=>by rw[<- htr];exact WL xl m (WM q m i) k
  have B:∀ k,(tr k).1.length=a.length+b.length:=fun k=>by rw[<- htr,Jr,Gs]
  have G:(tr 0)=(Gr a b i,0):=by rw[<- htr];rfl
  have a1:∀ k,tr (k+1)=((tr k).1.set (i+k) (((tr k).1.getD (i+k) 0+x*b.getD k 0+(tr k).2) % 65536),((tr k).1.getD (i+k) 0+x*b.getD k 0+(tr k).2) / 65536):=fun k=>by rw[<- htr];rfl
  refine gU1 (aI @A6 (aI @C7 (aI g5 (aI g6 (aI d (aI e ca)))))) ?_
  refine I9 b.length (fun k fr Z'=>fr.get 5=some (.slice (some ⟨Z.n,0,none⟩) (a.length+b.length) (a.length+b.length))/\fr.get 6=some (.int .i64 (i:Nat))/\fr.get 7=some (.int .i64 ((tr k).2:Nat))/\fr.get 8=some (.int .i64 (k:Nat))/\fr.get 0=some (.slice (some ⟨vb,vo,sp⟩) a.length vc)/\fr.get 1=some (.slice wa b.length wc)/\Ext Z Z'/\Z.n<Z'.n/\Z'.B8 Z.n=some ((tr k).1.map dgv))
   (fun r=>∃ fr Z',r=⟨.exit 2,fr,Z'⟩/\fr.get 5=some (.slice (some ⟨Z.n,0,none⟩) (a.length+b.length) (a.length+b.length))/\fr.get 6=some (.int .i64 (i:Nat))/\fr.get 7=some (.int .i64 ((tr b.length).2:Nat))/\fr.get 0=some (.slice (some ⟨vb,vo,sp⟩) a.length vc)/\fr.get 1=some (.slice wa b.length wc)/\Ext Z Z'/\Z.n<Z'.n/\Z'.B8 Z.n=some ((tr b.length).1.map dgv)) ?_ ?_ ?_ ?_
  ·exact⟨fR1 g5,fR1 g6,by rw[G];exact(fR),fR,fR1 d,fR1 e,R,X,by rw[G];exact a0⟩
  ·rintro k fr Z' E ⟨g5,g6,s,Q,d,e,f,p,g⟩;have cb:decide (k<b.length)=true:=by simpa using E
   obtain⟨y,J⟩:=I3 E;have hy:=getD_at J;have yl:=m k;rw[hy]at yl;obtain⟨sp',rfl,l3',l4'⟩:=k1 om;have l5:=eT (f.row l3) l4;have a3:=eT (f.row l3') l4';have a4:=k2 k _ J;have z:i+k<(tr k).1.length:=by rw[B];omega
   obtain⟨ts,N⟩:=nW ((tr k).1);obtain⟨c,hc⟩:=nW ((tr k).2);have V:=(F k).2;have H:=(F k).1;have h:=a1 k;have W:=B k;rw[N]at g z H h W;rw[hc]at s V h;obtain⟨o,hod⟩:=nW (ts.getD (i+k) 0);have ol:o<65536:=by rw[<- hod];exact NN H _
   obtain⟨K,S⟩:=nW (x*y);have a5:K<=4294836225:=by rw[<- S];exact hZ xl yl
   have U:(x:Int)*(y:Int)=(K:Int):=by rw[<- S];exact(Int.natCast_mul x y).symm
   obtain⟨D,L⟩:=nW (o+K+c);rw[hy,hod,S,L]at h;have so:=AU0 z;rw[hod]at so;have Y:=C1 g;have A:((i:Int)+(k:Int))=((i+k:Nat):Int):=om;have u:Nat.blt (i+k) (a.length+b.length)=true:=cC om;have f2:((o:Int)+(K:Int)+(c:Int))=(D:Int):=om;have f3:(D:Int).tmod 65536=((D % 65536:Nat):Int):=rfl;have f4:(D:Int).tdiv 65536=((D / 65536:Nat):Int):=rfl;have O:M5 (ts.map dgv) (i+k) [.int .i64 ((D % 65536:Nat):Int)]=some ((ts.set (i+k) (D % 65536)).map dgv):=Lg z;refine gU1 (aI @A6 (aI @C7 (aI g5 (aI g6 (aI s (aI Q (aI d (aI e (aI cb (aI A (aI u (aI Y (aI so (aI l5 (aI l7 (aI a3 (aI a4 (aI U (aI f2 (aI f3 (aI f4 (aI g O)))))))))))))))))))))) ?_;refine⟨trivial,trivial,by rw[h],trivial,trivial,trivial,f.upd nL _,by simpa using p,by rw[h]⟩
  ·rintro fr Z' ⟨g5,g6,s,Q,d,e,f,p,g⟩;refine gU1 (aI @A6 (aI @C7 (aI g5 (aI g6 (aI s (aI Q (aI d e))))))) ?_;exact⟨_,_,rfl,fR1 g5,fR1 g6,fR1 s,fR1 d,fR1 e,f,p,g⟩
  rintro r ⟨fr,Z',rfl,g5,g6,s,d,e,f,p,g⟩;have A:((i:Int)+(b.length:Int))=((i+b.length:Nat):Int):=om;have u:Nat.blt (i+b.length) (a.length+b.length)=true:=cC om;have O:M5 ((tr b.length).1.map dgv) (i+b.length) [.int .i64 ((tr b.length).2:Nat)]=some (((tr b.length).1.set (i+b.length) (tr b.length).2).map dgv):=Lg (by rw[B];omega);refine gU1 (aI @A6 (aI @C7 (aI g5 (aI g6 (aI s (aI d (aI e (aI A (aI u (aI g O)))))))))) ?_;refine⟨trivial,trivial,trivial,trivial,f.upd nL _,by simpa using p,?_⟩;rw[show Gr a b (i+1)=(tr b.length).1.set (i+b.length) (tr b.length).2 from by rw[Gr,hx,htr]]
 ·rintro i Z' ⟨g5,g6,d,e,f,p,g⟩;refine gU1 (aI @A6 (aI @C7 (aI g5 (aI g6 (aI d e))))) ?_;exact⟨_,_,rfl,fR1 g5,f,p,g⟩
 rintro r ⟨fr,Z',rfl,g5,f,p,g⟩;have L:=DN.VK p (C1 g);rw[Gs]at L;refine gU1 (aI @A6 (aI @C7 g5)) ?_;refine(EW L (by rw[Gs];omega)).mono ?_;rintro r ⟨v',l',rfl,C,⟨k,E⟩,ht,a2,-⟩;obtain⟨a6,a7,rfl⟩:=C.shape;refine gU1 (a3N @A6 @C7 @Tryz.results210) ?_;exact⟨_,l',_,rfl,f,C,by rw[E];exact(WM q m _).take k,ht,by rw[a2,Zi _ nL,Dq],by rw[E,KW,Gs];omega⟩
end
section
variable {x d y B r:Nat}{Z:St}{v:Value}{a:List Nat}
def Dig.one (h:d<65536):Dig [d]:=fun x b=>by rw[Cb]at b;rw[b];exact h
def AC0 (h:DN Z v a) (i:Dig a) (q:d<65536) (s:a.length<=100):
  Ev (gO 181 [v,.int .i64 (d:Int)] Z) (fun r=>∃ v' l Z',r=⟨false,v',Z'⟩/\Ext Z Z'/\DN Z' v' l/\Dig l/\Trm l/\I7 l=I7 a*d/\l.length<=a.length+1) ⟨⟩:=by
 obtain⟨u,z,f⟩:=h.shape;subst f;have g:Ext Z (Z.new [Value.int .i64 (d:Int)]):= .new _ _;have e:DN (Z.new [Value.int .i64 (d:Int)]) (.slice (some ⟨Z.n,0,none⟩) 1 1) [d]:=DN.VK (l:=[d]) (by simp) (G6 nL nL);refine G1 Tryz.func181 rfl rfl ?_;refine gU1 (aI @A6 @C7) ?_;refine(mD (h.mono g) e i (Dig.one q) s (by simp)).mono ?_;rintro r ⟨v',l,Z',rfl,c,b,j,m,o,p⟩;obtain⟨va',vc',rfl⟩:=b.shape;refine gU1 (a3N @A6 @C7 @Tryz.results181) ?_;exact⟨_,l,_,rfl,g.trans c,b,j,m,by rw[o,Y1,RK,bO,Be],by simpa using p⟩
def DN.src {l:List Nat}(h:DN Z v l):AJ Z 1 v=some (l.length,l.map dgv):=by
 rcases h with⟨rfl,rfl⟩|⟨b,off,sp,c,cells,rfl,g,i,j,e,f⟩
 ·rfl
 ·rw[KC,AB,e,F8,Fh,f,F8]
def AI6 {Z:St}{v:Value}{l:List Nat}{x:Nat}{Q:Value×St->Prop}{o:Hd Q}(m:DN Z v l) (g:l.length<=1000)
  (h:∀ v' Z',DN Z' v' (x::l)->Ext Z Z'->(∀ k,K3 v'=some k->Z.n<=k)->Q (v',Z')):Ev (CO Tryz.prog (Z.new [Value.int .i64 (x:Int)]) 22 (.slice (some ⟨Z.n,0,none⟩) 1 1) v) Q o:=by
 have c:Ext Z (Z.new [Value.int .i64 (x:Int)]):= .new _ _;have f:=m.mono c;have b:(Z.new [Value.int .i64 (x:Int)]).B8 Z.n=some [dgv x]:=K2 nL nL;rw[P2,f.src,F8,Jb];by_cases j:l.length=0
 ·obtain rfl:l=[]:=NV j;rw[show Nat.ble (1+([]:List Nat).length) 1=true from rfl,N5,eh,Jc,b,F8];rw[show M5 [dgv x] (0+1*1) (([]:List Nat).map dgv)=some [dgv x]from rfl,F8,F8,M0];refine h _ _ ?_ (c.upd nL _) fun k e=>by cases e;exact AP _
  exact DN.VK (l:=[x]) (by simp) (C1 G8)
 ·have i:Nat.ble ((1+l.length)*9) room=true:=Fi (by show _<=4294967296;omega);rw[Jd om,j7,i,V0,Me,AB,C1 b,F8];rw[show sub [dgv x] 0 (1*1)=some [dgv x]from rfl,F8,M0];refine h _ _ ?_ (c.trans (.new _ _)) fun k e=>by cases e;simp
  refine .inr ⟨_,0,some 1,1+l.length,_,by rw[AG,mg],by rw[AG];omega,.inr rfl,by simp,C1 (K2 nL nL),?_⟩;exact G3 (by simp) (by simp)
def vC:decide (Qm x y<0)=decide (x<y):=by
 unfold Qm;by_cases h:x<y
 ·rw[z1z h];simp[h]
 ·rw[z0z h];by_cases b:x=y
  ·rw[z1z b];simp[h]
  ·rw[z0z b];simp[h]
def ep:decide ((0:Int)<Qm x y)=decide (y<x):=by
 unfold Qm;by_cases h:x<y
 ·rw[z1z h];simp;omega
 ·rw[z0z h];by_cases b:x=y
  ·rw[z1z b];simp;omega
  ·rw[z0z b];simp;omega
def XQ {A q:Nat}(b:r<B) (h:A=q*B+r):q=A / B/\r=A % B:=by
 subst h;rw[Cd];constructor
 ·rw[Nat.mul_add_div om,rm b,Be]
 ·rw[Nat.mul_add_mod,Pu b]
def jQ {b R low c:Nat}(g:R=x+65536*r) (f:low*B<=R) (e:c=R-B*low):x+65536*(b*B+r)=(low+65536*b)*B+c:=by
 rw[Cd B low]at e;rw[Sd,QU,Ek];omega
def Trm.length_le {b:List Nat}(e:Dig a) (f:Trm b) (h:I7 b<=I7 a):b.length<=a.length:=by
 rcases AH a.length b.length with c|c
 ·have:=Trm.len e f c;omega
 ·exact c
end
def set_drop {a:Type}{l:List a}{m:Nat}{y:a}(h:m<l.length):(l.set m y).drop m=y::l.drop (m+1):=by
 rw[Mk (by simpa using h),List.getElem_set_self,List.drop_set_of_lt om]
def DN.upd {Z:St}{v:Value}{l:List Nat}{c:Nat}{cs:List Value}(h:DN Z v l) (o:K3 v≠some c):DN (Z.upd c cs) v l:=by
 rcases h with h|⟨b,off,sp,d,cells,f,g,i,j,m,n⟩
 ·exact .inl h
 ·subst f;have a:b≠c:=fun e=>o (by rw[e];rfl);exact .inr ⟨b,off,sp,d,cells,rfl,g,i,j,by rw[V7 (show(Z.upd c cs).h.get b=Z.h.get b by rw[M4,z0z a])];exact m,n⟩
def VG {Z:St}{v w:Value}{a b:List Nat}(ha:DN Z v a) (hb:DN Z w b) (da:Dig a) (U:Dig b) (tb:Trm b) (la:a.length<=50) (lb:b.length<=50) (h0:0<I7 b) :
  Ev (gO 141 [v,w] Z) (fun r=>∃ v1 v2 q l Z',r=⟨false,.tuple ⟨[v1,v2]⟩,Z'⟩/\Ext Z Z'/\DN Z' v1 q/\DN Z' v2 l/\Dig q/\Dig l/\Trm q/\Trm l/\I7 q=I7 a / I7 b/\I7 l=I7 a % I7 b/\q.length<=a.length/\l.length<=b.length) ⟨⟩:=by
 obtain⟨aa,ac,ab,ao,f7,e3,a1,a2⟩:=ha.use;obtain⟨wa,wc,hsb⟩:=hb.shape;subst e3 hsb;obtain⟨B,hB⟩:=nW (I7 b);rw[hB]at h0;have Uv:rep [.int .i64 0] a.length=(List.replicate a.length 0).map dgv:=VI _;refine G1 Tryz.func141 rfl rfl ?_;refine gU1 (aI @A6 (aI @C7 Uv)) ?_
 refine GL a.length (fun k fr o=>fr.get 8=some (.int .i64 ((a.length:Int)-1-(k:Nat)))/\fr.get 0=some (.slice aa a.length ac)/\fr.get 1=some (.slice wa b.length wc)/\fr.get 6=some (.slice (some ⟨Z.n,0,none⟩) a.length a.length)/\Ext Z o/\Z.n<o.n /\
   ∃ H r Q,fr.get 7=some H/\DN o H r/\(∀ k,K3 H=some k->Z.n<k)/\Dig r/\Trm r/\I7 r<B/\o.B8 Z.n=some (Q.map dgv)/\Q.length=a.length/\Dig Q/\I7 (a.drop (a.length-k))=I7 (Q.drop (a.length-k))*B+I7 r)
  (fun r=>∃ fr o H l Q,r=⟨.exit 0,fr,o⟩/\Ext Z o/\Z.n<o.n/\fr.get 6=some (.slice (some ⟨Z.n,0,none⟩) a.length a.length)/\fr.get 7=some H/\DN o H l/\Dig l/\Trm l/\I7 l<B/\o.B8 Z.n=some (Q.map dgv)/\Q.length=a.length/\Dig Q/\I7 a=I7 Q*B+I7 l) ?_ ?_ ?_
 ·refine⟨by rw[show((a.length:Int)-1-((0:Nat):Int))=(a.length:Int)-1 by omega];exact(fR),fR,fR,fR,.new _ _,by simp,.slice none 0 0,[],List.replicate a.length 0,fR,.inl ⟨rfl,rfl⟩,fun k hk=>(by cases hk),.nil,.nil,h0,K2 nL nL,by simp,?_,?_⟩
  ·intro x hx;obtain⟨_,rfl⟩:=List.mem_replicate.1 hx;omega
  ·rw[Up,XO,me (by simp)];simp[I7]
 ·rintro k fr o hk ⟨c,f,g,g6,V,hn,H,r,Q,h,hr,g3,dr,tr,d9,hQ,E,dQ,i⟩;by_cases d7:k=a.length
  ·subst d7;have e1:((a.length:Int)-1-(a.length:Nat))= -1:=om;rw[e1]at c;have d2:decide ((-1:Int)<0)=true:=rfl;refine gU1 (aI @A6 (aI @C7 (aI c (aI d2 @XP)))) ?_;rw[WY,Ma,Ma]at i;exact⟨_,_,H,r,Q,rfl,V,hn,fR1 g6,fR1 h,hr,dr,tr,d9,hQ,E,dQ,i⟩
  ·obtain⟨m,hm⟩:=nW (a.length-1-k);have e1:((a.length:Int)-1-(k:Nat))=((m:Nat):Int):=om;rw[e1]at c;rw[show a.length-k=m+1 by omega]at i;obtain⟨x,hx⟩:=I3 (l:=a) (k:=m) om;have xl:=da.get hx;obtain⟨sp,rfl,O,S⟩:=a1 om;have s1:=a2 m x hx;have r1:=eT (V.row O) S;have c1:decide (((m:Nat):Int)<0)=false:=dF;have l1:Nat.blt m a.length=true:=by rw[EJ];omega
   have lr:r.length<=b.length:=Trm.length_le U tr om;obtain⟨ra,rc,g4⟩:=hr.shape;refine gU1 (aI @A6 (aI @R5 (aI @R6 (aI @R1 (aI @K6 (aI @R2 (aI @P5 (aI @K4 (aI @K5 (aI @H5 (aI c (aI f (aI g (aI g6 (aI h (aI c1 (aI r1 (aI s1 (aI l1 @SY))))))))))))))))))) ?_;refine AI6 hr om ?_;rintro v2 I W K d3;obtain⟨w2,c2,hs2⟩:=W.shape;subst hs2;refine gU1 (aI @A6 (aI @C7 (aI c (aI f (aI g g6))))) ?_;refine(EW W (by rw[AG];omega)).mono ?_;rintro z ⟨v3,l3,rfl,G,⟨kk,s⟩,a9,e6,b2⟩;obtain⟨w3,c3,hs3⟩:=G.shape;subst hs3;have C:Dig l3:=by rw[s];exact(dr.cons xl).take kk
   have h5:l3.length<=r.length+1:=by rw[s,KW,AG];omega
   obtain⟨R,hR⟩:=nW (I7 l3);have d0:R=x+65536*I7 r:=by rw[<- hR,e6,Y1]
   have f9:R<65536*B:=om;have J:=V.trans K;refine gU1 (aI @A6 (aI @C7 (aI c (aI f (aI g g6))))) ?_;refine(QT G (hb.mono J) C U a9 tb om om).mono ?_;rintro z rfl;rw[hR,hB];have a6:Z.n<I.n:=z5z hn K.n;have c8:I.B8 Z.n=some (Q.map dgv):=by rw[B9 (K.same _ hn)];exact hQ
   have d4:K3 (.slice w3 l3.length c3)≠some Z.n:=fun e=>by
    have:=d3 Z.n (by rw[<- b2];exact e);omega
   have a5:m<Q.length:=om;cases hc:decide (R<B)
   all_goals
    refine gU1 (aI @A6 (aI @C7 (aI c (aI f (aI g (aI g6 (aI @vC hc))))))) ?_
    refine BE (fun n fr A=>∃ lo hi,hi-lo<=n/\fr.get 9=some (.int .i64 ((lo:Nat):Int))/\fr.get 10=some (.int .i64 ((hi:Nat):Int))/\fr.get 8=some (.int .i64 ((m:Nat):Int))/\fr.get 0=some (.slice (some ⟨ab,ao,sp⟩) a.length ac)/\fr.get 1=some (.slice wa b.length wc)/\fr.get 6=some (.slice (some ⟨Z.n,0,none⟩) a.length a.length)/\fr.get 7=some (.slice w3 l3.length c3)/\Ext I A/\lo<hi/\hi<=65536/\B*lo<=R/\R<B*hi)
     (fun r=>∃ fr A lo,r=⟨.exit 2,fr,A⟩/\fr.get 9=some (.int .i64 ((lo:Nat):Int))/\fr.get 8=some (.int .i64 ((m:Nat):Int))/\fr.get 0=some (.slice (some ⟨ab,ao,sp⟩) a.length ac)/\fr.get 1=some (.slice wa b.length wc)/\fr.get 6=some (.slice (some ⟨Z.n,0,none⟩) a.length a.length)/\fr.get 7=some (.slice w3 l3.length c3)/\Ext I A/\lo<65536/\B*lo<=R/\R<B*(lo+1)) 65536 ?_ ?_ ?_
    ·have d6:=hc;simp only[Ej,GF]at d6
     first
     |exact⟨0,65536,om,fR,fR,fR1 c,fR1 f,fR1 g,fR1 g6,fR,.refl _,om,om,om,om⟩
     |exact⟨0,1,om,fR,fR,fR1 c,fR1 f,fR1 g,fR1 g6,fR,.refl _,om,om,om,om⟩
    ·rintro n fr A ⟨lo,hi,g2,p,j,c,f,g,g6,h,d,h1,h2,O,S⟩;by_cases hd:lo+1<hi
     ·have d1:decide ((1:Int)<((hi:Nat):Int)-((lo:Nat):Int))=true:=dT;have f1:((lo:Nat):Int)+((hi:Nat):Int)=((lo+hi:Nat):Int):=om;have f2:(((lo+hi:Nat):Nat):Int).tdiv 2=(((lo+hi) / 2:Nat):Int):=rfl;obtain⟨u,b3⟩:=nW ((lo+hi) / 2);rw[b3]at f2;refine gU1 (aI @A6 (aI @C7 (aI c (aI f (aI g (aI g6 (aI h (aI p (aI j (aI d1 (aI @f1 f2))))))))))) ?_;refine(AC0 (hb.mono (J.trans d)) U om om).mono ?_;rintro z ⟨v4,l4,h9,rfl,L,X,b8,f3,e7,h6⟩;obtain⟨w4,c4,hs4⟩:=X.shape;subst hs4;refine gU1 (aI @A6 (aI @C7 (aI c (aI f (aI g (aI g6 (aI h (aI p j)))))))) ?_;refine(QT X (G.mono (d.trans L)) b8 C f3 a9 om om).mono ?_;rintro z rfl;rw[hR,e7,hB];cases F:decide (R<B*u)
      ·refine gU1 (aI @A6 (aI @C7 (aI c (aI f (aI g (aI g6 (aI h (aI p (aI j (aI @ep (aI F @R8))))))))))) ?_;have:=z9z F;exact⟨hi-u,om,u,hi,om,fR,fR1 j,fR1 c,fR1 f,fR1 g,fR1 g6,fR1 h,d.trans L,om,h2,om,S⟩
      ·refine gU1 (aI @A6 (aI @C7 (aI c (aI f (aI g (aI g6 (aI h (aI p (aI j (aI @ep (aI F @R8))))))))))) ?_;have:=z6z F;exact⟨u-lo,om,lo,u,om,fR1 p,fR,fR1 c,fR1 f,fR1 g,fR1 g6,fR1 h,d.trans L,om,om,O,om⟩
     ·have d1:decide ((1:Int)<((hi:Nat):Int)-((lo:Nat):Int))=false:=dF;obtain rfl:hi=lo+1:=om;refine gU1 (aI @A6 (aI @C7 (aI c (aI f (aI g (aI g6 (aI h (aI p (aI j (aI d1 @BS)))))))))) ?_;exact⟨_,_,lo,rfl,fR1 p,fR1 c,fR1 f,fR1 g,fR1 g6,fR1 h,d,om,O,S⟩
    rintro z ⟨f8,N,lo,rfl,p,c,f,g,g6,h,d,a4,O,S⟩;have b4:=J.trans d;have c9:N.B8 Z.n=some (Q.map dgv):=by rw[B9 (d.same _ a6)];exact c8
    have l5:Nat.blt m a.length=true:=by rw[EJ];omega
    have f6:M5 (Q.map dgv) m [.int .i64 ((lo:Nat):Int)]=some ((Q.set m lo).map dgv):=Lg a5;refine gU1 (aI @A6 (aI @C7 (aI c (aI f (aI g (aI g6 (aI h (aI p (aI l5 (aI c9 f6)))))))))) ?_;have QN:Ext Z (N.upd Z.n ((Q.set m lo).map dgv)):=b4.upd nL _;refine(AC0 (hb.mono QN) U a4 om).mono ?_;rintro z ⟨v5,g5,b1,rfl,D,Y,b9,f4,b0,h7⟩;obtain⟨w5,c5,e0⟩:=Y.shape;subst e0;rw[hB]at b0;have b5:DN b1 (.slice w3 l3.length c3) l3:=((G.mono d).upd d4).mono D;refine gU1 (aI @A6 (aI @C7 (aI c (aI f (aI g (aI g6 (aI h p))))))) ?_;refine(oQ b5 Y C b9 om om om (Trm.length_le C f4 om)).mono ?_;rintro z ⟨v6,l6,i0,rfl,M,a0,c0,f5,e8,h8,d5⟩;obtain⟨w6,c6,hs6⟩:=a0.shape;subst hs6;refine gU1 (aI @A6 (aI @C7 (aI c (aI f (aI g (aI g6 (aI h p))))))) ?_;have a7:Z.n<(N.upd Z.n ((Q.set m lo).map dgv)).n:=by rw[Te];exact z5z a6 d.n
    have a8:Z.n<b1.n:=z5z a7 D.n;have e2:((m:Nat):Int)-1=(a.length:Int)-1-((k+1:Nat):Int):=om;have ek:a.length-(k+1)=m:=om;have f0:=(List.getElem?_eq_some_iff.1 hx).2;have b6:I7 l6=R-B*lo:=by rw[e8,hR,b0]
    have b7:I7 l6<B:=by
     rw[QU,Fh]at S;omega
    refine⟨om,by rw[<- e2];exact(fR),fR1 f,fR1 g,fR1 g6,(QN.trans D).trans M,z5z a8 M.n,.slice w6 l6.length c6,l6,Q.set m lo,fR,a0,fun q hq=>(by have:=d5 q hq;omega),c0,f5,b7,?_,by rw[QV];exact E,?_,?_⟩
    ·rw[B9 (M.same _ a8),B9 (D.same _ a7)];exact G8
    ·intro y hy;rcases fA hy with hy|rfl
     ·exact dQ y hy
     ·exact a4
    ·rw[ek,Mk (show m<a.length by omega),f0,set_drop a5,Y1,Y1,i];exact jQ d0 (by rw[Cd];exact O) b6
 ·rintro z ⟨fr,o,H,l,Q,rfl,V,hn,g6,h,hl,dl,tl,d8,hQ,E,dQ,VJ⟩;have hD:=DN.VK (l:=Q) hn (C1 hQ);rw[E]at hD;obtain⟨wl,cl,e4⟩:=hl.shape;subst e4;refine gU1 (aI @A6 (aI @C7 (aI g6 h))) ?_;refine(EW hD om).mono ?_;rintro z ⟨v7,l7,rfl,a3,⟨kk,s⟩,e5,e9,-⟩;obtain⟨w7,c7,hs7⟩:=a3.shape;subst hs7;refine gU1 (aI @A6 (aI @C7 (aI g6 (aI h @Tryz.results141)))) ?_;obtain⟨u1,u2⟩:=XQ d8 VJ;exact⟨_,_,l7,l,_,rfl,V,a3,hl,by rw[s];exact dQ.take kk,dl,e5,tl,by rw[e9,hB];exact u1,by rw[hB];exact u2,by rw[s,KW];omega,Trm.length_le U tl om⟩
section
variable {fr:Fr}{Z:St}{x ix a v:Operand}{ve:Value}
def EU:LDn 169 2:=by unfold LDn;intros;kernel_rfl
def EV:LVn 169 2:=by unfold LVn;intros;kernel_rfl
def OS:STn 169 2:=by unfold STn;intros;kernel_rfl
def nn:AR Tryz.prog 169=some ([.bool false,.slice none 0 0],ptrTo):=kR
def Kj:Ad Tryz.prog 169=some (.agg ⟨[.bool false,.slice none 0 0]⟩):=kR
def Kh:Ep Tryz.prog fr 169 #[]=some (.agg ⟨[.bool false,.slice none 0 0]⟩):=kR
def Ki {z:List Value}{b:List (Nat×Value)}:Bm Tryz.prog 169 z b=ob (Bl (fun i=>[(0,1),(1,1)][i]?) b z) fun l=>some (.agg ⟨l⟩):=kR
def BF:FAo 169 0:=by unfold FAo;intros;kernel_rfl
def DE:FIo 169 0 0:=by unfold FIo;intros;kernel_rfl
def BG:FAn 169 1 1:=by unfold FAn;intros;kernel_rfl
def DG:FIo 169 1 1:=by unfold FIo;intros;kernel_rfl
end
def ef (Z:St) (v:Value) (a:Bool) (l:List Nat):Prop:=∃ w,v= .agg ⟨[.bool a,w]⟩/\DN Z w l
def mB {m V P N:Nat}(h:V+P*m=N):V+P*(m % 65536)+P*65536*(m / 65536)=N:=by
 have e:=congrArg (P*·) (RM m 65536);simp only[QU]at e;rw[<- Ek]at e;omega
def Trm.mC {l:List Nat}{d:Nat}(h:d≠0):Trm (l++[d]):=fun x a=>by
 rw[List.getLast?_concat]at a;cases a;exact h
def eY {Z:St}{n:Int}(h:X6 n):Ev (gO 105 [.int .i64 n] Z) (fun r=>∃ v l Z',r=⟨false,v,Z'⟩/\Ext Z Z'/\ef Z' v (decide (n<0)) l/\Dig l/\Trm l/\I7 l=n.natAbs/\l.length<=4) ⟨⟩:=by
 obtain⟨R,S⟩:=h;obtain⟨N,hN⟩:=nW n.natAbs;have J:N<=9223372036854775808:=om;have s:∀ m:Int,IntKind.u64.wrap m=m % 18446744073709551616:=fun m=>rfl;rw[hN];refine G1 Tryz.func105 rfl rfl ?_;have H:(decide (n<0)=true/\IntKind.u64.wrap (0-IntKind.u64.wrap n)=(N:Int))\/(decide (n<0)=false/\IntKind.u64.wrap n=(N:Int)):=by
  by_cases G:n<0
  ·exact .inl ⟨by simpa using G,by rw[s,s];omega⟩
  ·exact .inr ⟨by simpa using G,by rw[s];omega⟩
 rcases H with⟨p,C⟩|⟨p,C⟩
 all_goals
  refine gU1 (aI @A6 (aI @R5 (aI @R6 (aI @R1 (aI @K6 (aI @R2 (aI @P5 (aI @K4 (aI @K5 (aI @H5 (aI p (aI C @nn)))))))))))) ?_
  refine BE (fun m fr Z'=>∃ v l,fr.get 0=some (.int .i64 n)/\fr.get 2=some (.pointer (some ⟨Z.n,0,none⟩))/\fr.get 3=some v/\fr.get 4=some (.int .u64 (m:Int))/\Ext (Z.new [.bool false,.slice none 0 0] (some 169)) Z'/\OL (Z.n+1) Z' 1 v (l.map fun d=>[dgv d])/\I7 l+65536 ^ l.length*m=N/\m<=N/\Dig l/\(m=0->Trm l)/\m<65536 ^ (4-l.length)/\l.length<=4)
   (fun r=>∃ fr Z' v l,r=⟨.exit 0,fr,Z'⟩/\fr.get 0=some (.int .i64 n)/\fr.get 2=some (.pointer (some ⟨Z.n,0,none⟩))/\fr.get 3=some v/\Ext (Z.new [.bool false,.slice none 0 0] (some 169)) Z'/\OL (Z.n+1) Z' 1 v (l.map fun d=>[dgv d])/\I7 l=N/\Dig l/\Trm l/\l.length<=4) N ?_ ?_ ?_
  ·exact⟨.slice none 0 0,[],fR,fR,fR,fR,.refl _,OL.nil,by simp[I7],AP _,.nil,fun _=> .nil,by simp;omega,by simp⟩
  ·rintro m fr Z' ⟨v,l,a,g2,g3,g4,c,i,j,U,q,ht,g,f⟩;by_cases z:m=0
   ·subst z;have e:decide ((0:Int)<((0:Nat):Int))=false:=by decide
    refine gU1 (aI @A6 (aI @R5 (aI @R6 (aI @R1 (aI @K6 (aI @R2 (aI @P5 (aI @K4 (aI @K5 (aI @H5 (aI a (aI g2 (aI g3 (aI g4 (aI e @BS))))))))))))))) ?_;rw[bO,Be]at j;exact⟨_,_,v,l,rfl,fR1 a,fR1 g2,fR1 g3,c,i,j,q,ht rfl,f⟩
   ·have e:decide ((0:Int)<(m:Int))=true:=by rw[z3z];omega
    have L:l.length<4:=by
     rcases AH l.length 4 with h|h
     ·exact h
     ·rw[show 4-l.length=0 by omega]at g;simp at g;omega
    have f1:(m:Int).tmod 65536=((m % 65536:Nat):Int):=rfl;have D:IntKind.i64.wrap ((m % 65536:Nat):Int)=((m % 65536:Nat):Int):=wrap64_in om om;have E:IntKind.u64.wrap ((m:Int).tdiv 65536)=((m / 65536:Nat):Int):=by rw[s,show(m:Int).tdiv 65536=((m / 65536:Nat):Int)from rfl];omega
    refine gU1 (aI @A6 (aI @R5 (aI @R6 (aI @R1 (aI @K6 (aI @R2 (aI @P5 (aI @K4 (aI @K5 (aI @H5 (aI a (aI g2 (aI g3 (aI g4 (aI e (aI @f1 (aI D E))))))))))))))))) ?_;have o:OL (Z.n+1) (Z'.new [.int .i64 ((m % 65536:Nat):Int)]) 1 v (l.map fun d=>[dgv d]):=OL.ext i (.new _ _);have u:=c.n;refine J6 (row:=[dgv (m % 65536)]) (fun _ _ _ _=>P2) o (G6 nL nL) (G3 (by simp) (by simp)) (by rw[z2z];omega) (by simp only[K9]at u ⊢;omega) ?_;rintro v' Q A I -;refine gU1 (aI @A6 (aI @R5 (aI @R6 (aI @R1 (aI @K6 (aI @R2 (aI @P5 (aI @K4 (aI @K5 (aI @H5 (aI a (aI g2 (aI g3 (aI g4 (aI @f1 (aI D (aI E @R8))))))))))))))))) ?_;refine⟨m / 65536,om,v',l++[m % 65536],fR1 a,fR1 g2,fR,fR,I.ext (c.Aw _) o (by simp),by rw[Ah];exact A,?_,om,q.snoc om,fun h=>Trm.mC om,?_,by simp;omega⟩
    ·rw[Hp,W4,WX,Gd];exact mB j
    ·rw[W4,WX];rw[show 4-l.length=4-(l.length+1)+1 by omega,Gd]at g;omega
  ·rintro r ⟨fr,Z',v,l,rfl,a,g2,g3,c,i,j,q,ht,f⟩;have u:=c.n;simp only[K9]at u;obtain⟨M,B⟩:M6 v=[v]/\El v=false:=by obtain⟨va,h⟩:=OL.shape i;rw[h];exact⟨rfl,rfl⟩
   have O:Z'.B8 Z.n=some [.bool false,.slice none 0 0]:=by rw[B9 (c.same _ (by simp))];exact K2 nL nL
   have y:Ext Z Z':=Ext.trans (.new _ _) c;refine gUd (aI @OS @EU) (aI @A6 (aI @R5 (aI @R6 (aI @R1 (aI @K6 (aI @R2 (aI @P5 (aI @K4 (aI @K5 (aI @H5 (aI a (aI g2 (aI g3 (aI p (aI M (aI B (aI O (a5N @Kh @Ki @Kj @EV @Tryz.results105)))))))))))))))))) ?_
   have F:=DN.AC6 (i.I4 (Z':=Z'.upd Z.n [.bool (decide (n<0)),v]) (by simp) fun b K=>by
    have:=(i.blk K).1;rw[M4,z0z om])
   rw[p]at F;exact⟨_,l,_,rfl,y.upd nL _,⟨v,rfl,F⟩,q,ht,j,f⟩
def Ft (a:Bool) (m:Nat):Int×Bool:=if a=true/\m<=9223372036854775808 then(-(m:Int),true)else if 9223372036854775808<=m then(0,false)else((m:Int),true)
def jH {Z:St}{v w:Value}{a b:List Nat}(U:DN Z v a) (V:DN Z w b) (da:Dig a) (db:Dig b) (ta:Trm a) (tb:Trm b) (la:a.length<=30) (lb:b.length<=30) :
  Ev (gO 140 [v,w] Z) (fun r=>∃ v' l Z',r=⟨false,v',Z'⟩/\Ext Z Z'/\DN Z' v' l/\Dig l/\Trm l/\I7 l=Nat.gcd (I7 a) (I7 b)/\l.length<=30) ⟨⟩:=by
 refine G1 Tryz.func140 rfl rfl ?_;obtain⟨wa,ca,K⟩:=U.shape;obtain⟨wb,cb,hsb⟩:=V.shape;subst K hsb;refine gU1 (aI @A6 @C7) ?_
 refine BE (fun n fr f=>∃ v w x y,fr.get 0=some v/\fr.get 1=some w/\Ext Z f/\DN f v x/\DN f w y/\Dig x/\Dig y/\Trm x/\Trm y/\x.length<=30/\y.length<=30/\I7 y=n/\Nat.gcd (I7 x) (I7 y)=Nat.gcd (I7 a) (I7 b))
  (fun r=>∃ fr f v x,r=⟨.exit 0,fr,f⟩/\fr.get 0=some v/\Ext Z f/\DN f v x/\Dig x/\Trm x/\x.length<=30/\I7 x=Nat.gcd (I7 a) (I7 b)) (I7 b) ?_ ?_ ?_
 ·exact⟨_,_,a,b,fR,fR,.refl _,U,V,da,db,ta,tb,la,lb,rfl,rfl⟩
 ·rintro n fr f ⟨v,w,x,y,d,p,D,s,E,m,o,Q,ty,X,ly,rfl,A⟩;obtain⟨wx,Y,g⟩:=s.shape;obtain⟨wy,cy,hsy⟩:=E.shape;subst g hsy;refine gU1 (aI @A6 (aI @C7 (aI d p))) ?_;refine(EW E om).mono ?_;rintro z ⟨v3,y',rfl,N,⟨k,hk⟩,R,hv,-⟩;have H:Dig y':=by rw[hk];exact o.take k
  obtain rfl:y'=y:=Hj H o R ty hv;obtain⟨w3,c3,hs3⟩:=N.shape;subst hs3;by_cases C:I7 y'=0
  ·have e0:=Trm.zero ty C;subst e0;have F:decide ((0:Int)<((0:Nat):Int))=false:=rfl;refine gP1 (aI d (aI p (aI F (aI @H7 (aI @I0 (aI @BS @Hf.{0})))))) ?_;rw[C,nI]at A;exact⟨_,_,_,x,rfl,fR1 d,D,s,m,Q,X,A⟩
  ·have a0:0<y'.length:=by
    rcases XL y'.length with h|h
    ·rw[NV h]at C;exact absurd rfl C
    ·exact h
   have F:decide ((0:Int)<(y'.length:Int))=true:=dT;refine gU1 (aI @A6 (aI @C7 (aI d (aI p F)))) ?_;refine(EW s om).mono ?_;rintro z ⟨v4,x',rfl,c,⟨O,e⟩,j,i,-⟩;have G:Dig x':=by rw[e];exact m.take O
   obtain rfl:x'=x:=Hj G m j Q i;obtain⟨w4,c4,hs4⟩:=c.shape;subst hs4;refine gU1 (aI @A6 (aI @C7 (aI d p))) ?_;refine(EW E om).mono ?_;rintro z ⟨v5,y5,rfl,B,⟨k5,J⟩,S,L,-⟩;have I:Dig y5:=by rw[J];exact o.take k5
   obtain rfl:y5=y':=Hj I o S ty L;obtain⟨w5,c5,hs5⟩:=B.shape;subst hs5;refine gU1 (aI @A6 (aI @C7 (aI d p))) ?_;refine(VG c B m o ty om om om).mono ?_;rintro z ⟨v6,v7,q,l,a3,rfl,u,hq,W,dq,dl,tq,tl,a2,M,lq,ll⟩;obtain⟨w6,c6,hs6⟩:=hq.shape;obtain⟨w7,c7,hs7⟩:=W.shape;subst hs6 hs7;refine gU1 (aI @A6 (aI @C7 (aI d (aI p @R8)))) ?_;have a1:=KU (I7 x') (show 0<I7 y5 by omega);exact⟨I7 l,om,_,_,y5,l,fR,fR,D.trans u,E.mono u,W,o,dl,ty,tl,ly,om,rfl,by rw[M,<- A,TM (I7 x'),nJ (I7 y5) (I7 x'),TM (I7 y5)]⟩
 ·rintro z ⟨fr,f,v,x,rfl,d,D,s,m,Q,X,A⟩;obtain⟨wx,Y,g⟩:=s.shape;subst g;refine gU1 (aI @A6 (aI @C7 d)) ?_;refine(EW s om).mono ?_;rintro z ⟨v4,x',rfl,c,⟨O,e⟩,j,i,-⟩;obtain⟨w4,c4,hs4⟩:=c.shape;subst hs4;refine gU1 (a3N @A6 @C7 @Tryz.results140) ?_;exact⟨_,x',_,rfl,D,c,by rw[e];exact m.take O,j,by rw[i];exact A,by rw[e,KW];omega⟩
def nr {Z:St}{v:Value}{a:Bool}{l:List Nat}(Q:ef Z v a l) (dl:Dig l) (X:Trm l) (ll:l.length<=50) :
  Ev (gO 143 [v] Z) (fun r=>∃ Z',r=⟨false,.tuple ⟨[.int .i64 (Ft a (I7 l)).1,.bool (Ft a (I7 l)).2]⟩,Z'⟩/\Ext Z Z') ⟨⟩:=by
 obtain⟨w,rfl,F⟩:=Q;obtain⟨ww,wc,hs⟩:=F.shape;subst hs;have h:Ext Z (Z.new [.bool a,.slice ww l.length wc]):= .new _ _;have p:∀ m:Int,IntKind.u64.wrap m=m % 18446744073709551616:=fun m=>rfl;refine G1 Tryz.func143 rfl rfl ?_;refine gPd (a6N @OS @EU @BF @BG @DE @DG) (a5N @Kh @Ki @Kj @nn @EV) ?_;refine(EW (F.mono h) om).mono ?_;rintro z ⟨v3,l',rfl,A,⟨k,E⟩,i,R,-⟩;have c:Dig l':=by rw[E];exact dl.take k
 obtain rfl:l'=l:=Hj c dl i X R;obtain⟨la,lc,lb,lo,lcs,hs3,a1,a2⟩:=A.use;subst hs3;by_cases j:4<l'.length
 ·have q:decide ((4:Int)<(l'.length:Int))=true:=dT;refine gU1 (aI @A6 (aI @C7 (aI q @Tryz.results143))) ?_;have o:18446744073709551616<=I7 l':=by
   have C:=i.le (fun e=>by rw[e]at j;simp at j);have D:65536 ^ 4<=65536 ^ (l'.length-1):=bK om om;have Y:(65536:Nat) ^ 4=18446744073709551616:=by decide
   omega
  have e:Ft a (I7 l')=(0,false):=by unfold Ft;rw[z0z om,z1z om]
  rw[e];exact⟨_,rfl,h⟩
 ·have q:decide ((4:Int)<(l'.length:Int))=false:=dF;refine gU1 (aI @A6 (aI @C7 q)) ?_
  refine GL l'.length (fun k fr G=>fr.get 1=some (.pointer (some ⟨Z.n,0,none⟩))/\fr.get 4=some (.slice la l'.length lc)/\fr.get 6=some (.int .i64 ((l'.length:Int)-1-(k:Nat)))/\G=Z.new [.bool a,.slice ww l'.length wc]/\fr.get 5=some (.int .u64 ((I7 (l'.drop (l'.length-k)):Nat):Int)))
   (fun r=>∃ fr,r=⟨.exit 0,fr,Z.new [.bool a,.slice ww l'.length wc]⟩/\fr.get 1=some (.pointer (some ⟨Z.n,0,none⟩))/\fr.get 5=some (.int .u64 ((I7 l':Nat):Int))) ?_ ?_ ?_
  ·exact⟨fR,fR,by rw[show((l'.length:Int)-1-((0:Nat):Int))=(l'.length:Int)-1 by omega];exact(fR),rfl,by rw[Up,XO];exact(fR)⟩
  ·rintro k fr G E ⟨d,g4,g6,rfl,g5⟩;by_cases u:k=l'.length
   ·subst u;have g:((l'.length:Int)-1-(l'.length:Nat))= -1:=om;rw[g]at g6;rw[WY,Ma]at g5;have b:decide ((-1:Int)<0)=true:=rfl;refine gU1 (aI @A6 (aI @C7 (aI g6 (aI b @XP)))) ?_;exact⟨_,rfl,fR1 d,fR1 g5⟩
   ·obtain⟨m,hm⟩:=nW (l'.length-1-k);have g:((l'.length:Int)-1-(k:Nat))=(m:Int):=om;rw[g]at g6;rw[show l'.length-k=m+1 by omega]at g5;obtain⟨x,hx⟩:=I3 (l:=l') (k:=m) om;have xl:=c.get hx;obtain⟨sp,rfl,h3,j⟩:=a1 om;have W:=a2 m x hx;have c1:decide ((m:Int)<0)=false:=dF;have U:Nat.blt m l'.length=true:=by rw[EJ];omega
    have B:=(List.getElem?_eq_some_iff.1 hx).2;obtain⟨V,o⟩:=nW (I7 (l'.drop (m+1)));have O:V<281474976710656:=by
     have:=KE (l:=l'.drop (m+1)) (fun y S=>c y (aR S));rw[o,HW]at this;have C:65536 ^ (l'.length-(m+1))<=65536 ^ 3:=bK om om;have D:(65536:Nat) ^ 3=281474976710656:=by decide
     omega
    rw[o]at g5;have f1:Hn .u64 ((V:Int)*65536)=((V*65536:Nat):Int):=by rw[Jk,p];omega
    have I:IntKind.u64.wrap (x:Int)=(x:Int):=by rw[p];omega
    have J:Hn .u64 (((V*65536:Nat):Int)+(x:Int))=((x+65536*V:Nat):Int):=by rw[Jk,p];omega
    have H:(m:Int)-1=(l'.length:Int)-1-((k+1:Nat):Int):=om;refine gU1 (aI @A6 (aI @C7 (aI d (aI g4 (aI g5 (aI g6 (aI c1 (aI j (aI W (aI U (aI @f1 (aI I (aI J @SY))))))))))))) ?_;refine⟨om,fR1 d,fR1 g4,by rw[<- H];exact(fR),rfl,?_⟩;rw[show l'.length-(k+1)=m by omega,Mk (show m<l'.length by omega),B,Y1,o];exact(fR)
  ·rintro z ⟨fr,rfl,d,g5⟩;obtain⟨M,s⟩:=nW (I7 l');rw[s]at g5;have N:M<18446744073709551616:=by
    have:=KE c;rw[s]at this;have C:65536 ^ l'.length<=65536 ^ 4:=bK om om;have D:(65536:Nat) ^ 4=18446744073709551616:=by decide
    omega
   rw[s];cases f:decide (9223372036854775808<(M:Int))with
   | true=>
     have K:=z6z f;have b:decide ((M:Int)<9223372036854775808)=false:=dF;have e:Ft a M=(0,false):=by unfold Ft;rw[z0z om,z1z om]
     rw[e];cases a
     ·refine gPd (a4N @OS @EU @BF @BG) (aI d (aI g5 (aI @EV (aI f (aI b @Tryz.results143))))) ?_;exact⟨_,rfl,h⟩
     ·refine gPd (a4N @OS @EU @BF @BG) (aI d (aI g5 (aI @EV (aI f (aI b @Tryz.results143))))) ?_;exact⟨_,rfl,h⟩
   | false=>
     have K:=z9z f;cases a
     ·cases b:decide ((M:Int)<9223372036854775808)with
      | true=>
        have L:=z6z b;have e:Ft false M=((M:Int),true):=by unfold Ft;rw[z0z (by simp),z0z om]
        have g:IntKind.i64.wrap (M:Int)=(M:Int):=wrap64_in om om;rw[e];refine gPd (a4N @OS @EU @BF @BG) (aI d (aI g5 (aI @EV (aI f (aI b (aI g @Tryz.results143)))))) ?_;exact⟨_,rfl,h⟩
      | false=>
        have L:=z9z b;have e:Ft false M=(0,false):=by unfold Ft;rw[z0z (by simp),z1z om]
        rw[e];refine gPd (a4N @OS @EU @BF @BG) (aI d (aI g5 (aI @EV (aI f (aI b @Tryz.results143))))) ?_;exact⟨_,rfl,h⟩
     ·have e:Ft true M=(-(M:Int),true):=by unfold Ft;rw[z1z ⟨rfl,om⟩]
      have g:IntKind.i64.wrap (IntKind.u64.wrap (0-(M:Int)))= -(M:Int):=by
       rw[p,wrap_i64];split<;>omega
      rw[e];refine gPd (a4N @OS @EU @BF @BG) (aI d (aI g5 (aI @EV (aI f (aI g @Tryz.results143))))) ?_;exact⟨_,rfl,h⟩
def QH (a:Bool) (N D:Nat):Int×Int×Bool :=
 if (Ft (a&&decide (0<N / Nat.gcd N D)) (N / Nat.gcd N D)).2&&(Ft false (D / Nat.gcd N D)).2 then((Ft (a&&decide (0<N / Nat.gcd N D)) (N / Nat.gcd N D)).1,(Ft false (D / Nat.gcd N D)).1,true)else(0,1,false)
def uv {x y:Operand}{a b:Bool}:CI Tryz.prog .neq 4 x y (.bool a) (.bool b)=some (.bool (a != b)):=by cases a<;>cases b<;>kernel_rfl
def nj {Z:St}{n:Int}:Ev (gO 101 [.int .i64 n] Z) (fun r=>∃ Z',r=⟨false,.agg ⟨[.int .i64 n,.int .i64 1]⟩,Z'⟩/\Ext Z Z') ⟨⟩:=by
 refine G1 Tryz.func101 rfl rfl ?_;refine gU1 (a3N @A6 @C7 @Tryz.results101) ?_;exact⟨_,rfl,eX⟩
def QI {Z:St}{v w:Value}{j l:Bool}{a b:List Nat}(ha:ef Z v j a) (hb:ef Z w l b) (I:Dig a) (J:Dig b) (ta:Trm a) (tb:Trm b) (la:a.length<=20) (lb:b.length<=20) (h0:0<I7 b) :
  Ev (gO 104 [v,w] Z) (fun r=>∃ Z',r=⟨false,.tuple ⟨[.agg ⟨[.int .i64 (QH (j != l) (I7 a) (I7 b)).1,.int .i64 (QH (j != l) (I7 a) (I7 b)).2.1]⟩,.bool (QH (j != l) (I7 a) (I7 b)).2.2]⟩,Z'⟩/\Ext Z Z') ⟨⟩:=by
 obtain⟨va,rfl,A⟩:=ha;obtain⟨vb,rfl,hvb⟩:=hb;obtain⟨wa,ca,hsa⟩:=A.shape;obtain⟨wb,cb,hsb⟩:=hvb.shape;subst hsa hsb;obtain⟨LF,hLF⟩:=nW (QH (j != l) (I7 a) (I7 b));rw[hLF];refine G1 Tryz.func104 rfl rfl ?_;refine gPd (a6N @OS @EU @BF @BG @DE @DG) (a5N @Kh @Ki @Kj @nn @EV) ?_;obtain⟨S,hS⟩:∃ S,S=(((Z.new [Value.bool j,Value.slice wa a.length ca]).new [Value.bool l,Value.slice wb b.length cb]).new [Value.int IntKind.i64 0,Value.int IntKind.i64 0] (some 32)):=⟨_,rfl⟩
 have o:Ext Z S:=by rw[hS];exact((Ext.new _ _).trans (.new _ _)).trans (.new _ _)
 have hn:S.n=Z.n+3:=by rw[hS];simp
 have o1:S.B8 Z.n=some [.bool j,.slice wa a.length ca]:=by rw[hS];exact cL
 have o2:S.B8 (Z.n+1)=some [.bool l,.slice wb b.length cb]:=by rw[hS];exact cL
 have o3:S.B8 (Z.n+2)=some [.int .i64 0,.int .i64 0]:=by rw[hS];exact cL
 rw[<- hS];have C:∀ {e:St},Ext S e->Ext Z e/\Z.n+3<=e.n/\e.row Z.n=some [.bool j,.slice wa a.length ca]/\e.row (Z.n+1)=some [.bool l,.slice wb b.length cb]/\e.B8 (Z.n+2)=some [.int .i64 0,.int .i64 0]:=fun{e} h=>
  ⟨o.trans h,by have:=h.n;omega,by rw[h.row om];exact C1 o1,by rw[h.row om];exact C1 o2,by rw[B9 (h.same _ om)];exact o3⟩
 refine(jH (A.mono o) (hvb.mono o) I J ta tb om om).mono ?_;rintro z ⟨v1,g,c1,rfl,c,U,dg,tg,G,lg⟩;obtain⟨wg,cg,i⟩:=U.shape;subst i;obtain⟨hF1,n1',r1,r2,r3⟩:=C c;clear hS;refine gPd (a5N @EU @BF @BG @DE @DG) (aI @EV (aI r1 r2)) ?_;refine(EW (A.mono hF1) om).mono ?_;rintro z ⟨v2,a',rfl,D,⟨k2,V⟩,a9,K,-⟩;have M:Dig a':=by rw[V];exact I.take k2
 obtain rfl:a'=a:=Hj M I a9 ta K;obtain⟨w2,c2,hs2⟩:=D.shape;subst hs2;refine gPd (a5N @EU @BF @BG @DE @DG) @EV ?_;have F:0<I7 g:=by rw[G];exact eK _ h0
 refine(VG D U I dg tg om om F).mono ?_;rintro z ⟨v3,v4,x,rx,c8,rfl,d,hx,Y,dx,b5,tx,c0,a2,-,lx,-⟩;obtain⟨w3,c3,a1⟩:=hx.shape;obtain⟨w4,c4,hs4⟩:=Y.shape;subst a1 hs4;obtain⟨hF2,n2',r4,r5,r6⟩:=C (c.trans d);refine gPd (a5N @EU @BF @BG @DE @DG) (aI @EV (aI r4 r5)) ?_;refine(EW (hvb.mono hF2) om).mono ?_;rintro z ⟨v5,b',rfl,E,⟨k5,W⟩,b0,L,-⟩;have N:Dig b':=by rw[W];exact J.take k5
 obtain rfl:b'=b:=Hj N J b0 tb L;obtain⟨w5,c5,hs5⟩:=E.shape;subst hs5;refine gPd (a5N @EU @BF @BG @DE @DG) @EV ?_;refine(VG E (U.mono d) J dg tg om om F).mono ?_;rintro z ⟨v6,v7,y,ry,H,rfl,f,hy,a0,dy,b6,ty,b4,a3,-,ly,-⟩;obtain⟨w6,c6,hs6⟩:=hy.shape;obtain⟨w7,c7,hs7⟩:=a0.shape;subst hs6 hs7;obtain⟨hF3,n3',r7,r8,r9⟩:=C ((c.trans d).trans f);obtain⟨sg,i⟩:=nW (((j != l)&&decide (0<I7 x)));have X:decide ((0:Int)<(x.length:Int))=decide (0<I7 x):=by
  by_cases hz:I7 x=0
  ·rw[Trm.zero tx hz];rfl
  ·have:0<x.length:=by
    rcases XL x.length with h|h
    ·rw[NV h]at hz;exact absurd rfl hz
    ·exact h
   rw[dT,dT]
 have key:∀ {Q:CR->Prop},(∀ e,Ext H e->Q ⟨false,.tuple ⟨[.int .i64 (Ft sg (I7 x)).1,.bool (Ft sg (I7 x)).2]⟩,e⟩)->Ev (gO 143 [.agg ⟨[.bool sg,.slice w3 x.length c3]⟩] H) Q ⟨⟩:=fun{Q} h=>by
  refine(nr ⟨_,rfl,hx.mono f⟩ dx tx om).mono ?_;rintro z ⟨e,rfl,a4⟩;exact h e a4
 cases u:(j != l)
 all_goals
  rw[u]at i;simp only[CZ,Bx]at i;subst i;refine gPd (a5N @EU @BF @BG @DE @DG) (aI @EV (aI r7 (aI r8 (aI @uv (aI u (aI X (a3N @Kh @Ki @Kj))))))) ?_;refine key ?_;intro b1 m;refine gPd (a5N @EU @BF @BG @DE @DG) (a4N @EV @Kh @Ki @Kj) ?_;refine(nr (Z:=b1) ⟨_,rfl,hy.mono m⟩ dy ty om).mono ?_;rintro z ⟨b2,rfl,p⟩;obtain⟨O,b7,b8,b9,a6⟩:=C ((((c.trans d).trans f).trans m).trans p);rw[u]at hLF;unfold QH at hLF;rw[<- G,<- a2,<- a3]at hLF;simp only[CZ,Bx]at hLF;generalize Ft false (I7 y)=fy at hLF ⊢;generalize Ft _ (I7 x)=fx at hLF ⊢;obtain⟨xn,xo⟩:=fx;obtain⟨yn,yo⟩:=fy;dsimp only at hLF;have R:∀ cs:List Value,Ext Z (b2.upd (Z.n+2) cs):=fun cs=>O.upd om _;cases xo
  ·obtain rfl:(0,1,false)=LF:=by rw[<- hLF];rfl
   refine gPd (a5N @EU @BF @BG @DE @DG) (a4N @EV @Kh @Ki @Kj) ?_;refine nj.mono ?_;rintro z ⟨b3,rfl,q⟩;obtain⟨s,a5,a7,a8,B⟩:=C (((((c.trans d).trans f).trans m).trans p).trans q);refine gPd (a5N @EU @BF @BG @DE @DG) (aI @EV (aI @Kh (aI @Ki (aI @Kj (aI B @Tryz.results104))))) ?_;exact⟨_,rfl,s.upd om _⟩
  ·cases yo
   ·obtain rfl:(0,1,false)=LF:=by rw[<- hLF];rfl
    refine gPd (a5N @EU @BF @BG @DE @DG) (a4N @EV @Kh @Ki @Kj) ?_;refine nj.mono ?_;rintro z ⟨b3,rfl,q⟩;obtain⟨s,a5,a7,a8,B⟩:=C (((((c.trans d).trans f).trans m).trans p).trans q);refine gPd (a5N @EU @BF @BG @DE @DG) (aI @EV (aI @Kh (aI @Ki (aI @Kj (aI B @Tryz.results104))))) ?_;exact⟨_,rfl,s.upd om _⟩
   ·obtain rfl:(xn,yn,true)=LF:=by rw[<- hLF];rfl
    refine gPd (a5N @EU @BF @BG @DE @DG) (aI @EV (aI @Kh (aI @Ki (aI @Kj (aI a6 @Tryz.results104))))) ?_;exact⟨_,rfl,R _⟩
section
variable {n d:Int}{Z:St}
def QG (n:Int):Bool:=decide (-1000000000<n)&&decide (n<1000000000)
def TU:Ev (gO 102 [.int .i64 n] Z) (fun r=>r=⟨false,.bool (QG n),Z⟩) ⟨⟩:=by
 unfold QG;refine G1 Tryz.func102 rfl rfl ?_;cases c1:decide (-1000000000<n)
 ·refine gU1 (aI @A6 (aI @C7 (aI c1 (a4N @H7 @I0 @Tryz.results102 @CZ)))) ?_;try exact⟨⟩
 ·refine gU1 (aI @A6 (aI @C7 (aI c1 (a4N @H7 @I0 @Tryz.results102 @Bx)))) ?_;try exact⟨⟩
def Dk (n d:Int):Bool:=decide (1<=d)&&decide (Int.gcd n d=1)
def XI (h:1<=d):(decide (qn n d=n)&&decide (qd n d=d))=decide (Int.gcd n d=1):=by
 by_cases a:Int.gcd n d=1
 ·obtain⟨b,c⟩:=AH3 h a;rw[b,c,AK a];simp
 ·rw[z4z a,<- nN,T1,Ej,Ej];rintro⟨b,c⟩;have:=(AB6 (n:=n) (d:=d) om).1;rw[b,c]at this;exact a this
def TV (a:X6 n) (o:X6 d) (h:1<=d):((QH (decide (n<0) != decide (d<0)) n.natAbs d.natAbs).2.2&&(decide (n=(QH (decide (n<0) != decide (d<0)) n.natAbs d.natAbs).1)&&decide (d=(QH (decide (n<0) != decide (d<0)) n.natAbs d.natAbs).2.1)))=decide (Int.gcd n d=1):=by
 obtain⟨u,v⟩:=a;obtain⟨h3,h4⟩:=o;have c:decide (d<0)=false:=dF;have g:(decide (n<0) != false)=decide (n<0):=by cases decide (n<0)<;>rfl
 rw[c,g];have e:Int.gcd n d=Nat.gcd n.natAbs d.natAbs:=rfl;obtain⟨N,l⟩:=nW n.natAbs;obtain⟨D,hD⟩:=nW d.natAbs;rw[e,l,hD];have b:d=(D:Int):=om;have j:∀ m,m<=9223372036854775807->Ft false m=((m:Int),true):=fun m z=>by unfold Ft;rw[z0z (by simp),z0z om]
 have i:D / Nat.gcd N D<=D:=Wp _ _;unfold QH;rw[j (D / Nat.gcd N D) om,Sh];by_cases f:Nat.gcd N D=1
 ·rw[f,nh,nh,AK (rfl:(1:Nat)=1)];have s:Ft (decide (n<0)&&decide (0<N)) N=(n,true):=by
   unfold Ft;by_cases a:n<0
   ·rw[z1z ⟨by rw[AK a,dT];rfl,om⟩];congr 1;omega
   ·rw[z0z (by rw[z4z a];simp),z0z om];congr 1;omega
  rw[s];simp[b]
 ·rw[z4z f];have r:D / Nat.gcd N D≠D:=by
   have q:0<Nat.gcd N D:=eK _ om;have:=Nat.div_lt_self (show 0<D by omega) (show 1<Nat.gcd N D by omega);omega
  cases y:(Ft (decide (n<0)&&decide (0<N / Nat.gcd N D)) (N / Nat.gcd N D)).2
  ·simp
  ·simp only[reduceIte,Bx];rw[z4z (p:=d=_) om,LO]
def TW (v:X6 n) (u:X6 d):Ev (gO 170 [ai n d] Z) (fun r=>∃ Z',r=⟨false,.bool (Dk n d),Z'⟩/\Ext Z Z') ⟨⟩:=by
 refine G1 Tryz.func170 rfl rfl ?_;unfold ai Dk;cases c1:decide (d<1)with
 | true=>
   rw[z4z (p:=1<=d) (by have:=z6z c1;omega),CZ];refine gU1 (aI @A6 (aI @C7 (aI c1 @Tryz.results170))) ?_;exact⟨_,rfl,eX⟩
 | false=>
   have g:1<=d:=by have:=z9z c1;omega
   rw[AK g,Bx];refine gU1 (aI @A6 (aI @C7 c1)) ?_;refine TU.mono ?_;rintro r rfl;have D:∀ {fr:Fr}{Q:St},True:=fun{fr Q}=>trivial;cases A:QG n
   ·refine gU1 (aI @A6 @C7) ?_;refine(eY v).mono ?_;rintro r ⟨J,F,Z2,rfl,a,⟨L,rfl,e⟩,h,o,l,y⟩;obtain⟨N,O,j⟩:=e.shape;subst j;have s:=a.n;simp only[K9]at s;have q2:Z2.row Z.n=some [.int .i64 n,.int .i64 d]:=eT (a.row (cL)) cL;refine gU1 (aI @A6 (aI @C7 q2)) ?_;refine(eY u).mono ?_;rintro r ⟨K,G,E,rfl,b,⟨M,rfl,f⟩,i,q,m,z⟩;obtain⟨x3,y3,hs3⟩:=f.shape;subst hs3;have H:=b.n;refine gU1 (aI @A6 @C7) ?_;refine(QI ⟨_,rfl,e.mono b⟩ ⟨_,rfl,f⟩ h i o q om om om).mono ?_;rintro r ⟨Z4,rfl,c⟩;have I:=c.n;have q4:=eT (c.row om) (eT (b.row om) q2);rw[l,m];have C:Ext Z Z4:=((Ext.trans (eX) a).trans b).trans c;rw[<- TV v u g];generalize QH (decide (n<0) != decide (d<0)) n.natAbs d.natAbs=LF;obtain⟨la,lb,lo⟩:=LF;refine gP1 (aI q4 (aI @I1 (aI (asx a) (aI (asx b) (aI (asx c) @N1))))) ?_;refine dW1 (aI (asx a) (aI (asx b) (asx c))) ?_;cases lo
    ·refine gP1 (aI q4 (a3N @I1 @CZ @Tryz.results170)) ?_;exact⟨_,rfl,eX⟩
    ·refine gP1 (aI q4 (a3N @I1 @Bx @Tryz.results170)) ?_;exact⟨_,rfl,eX⟩
   ·refine gU1 (aI @A6 @C7) ?_;refine TU.mono ?_;rintro r rfl;cases B:QG d
    ·refine gU1 (aI @A6 @C7) ?_;refine(eY v).mono ?_;rintro r ⟨J,F,Z2,rfl,a,⟨L,rfl,e⟩,h,o,l,y⟩;obtain⟨N,O,j⟩:=e.shape;subst j;have s:=a.n;simp only[K9]at s;have q2:Z2.row Z.n=some [.int .i64 n,.int .i64 d]:=eT (a.row (cL)) cL;refine gU1 (aI @A6 (aI @C7 q2)) ?_;refine(eY u).mono ?_;rintro r ⟨K,G,E,rfl,b,⟨M,rfl,f⟩,i,q,m,z⟩;obtain⟨x3,y3,hs3⟩:=f.shape;subst hs3;have H:=b.n;refine gU1 (aI @A6 @C7) ?_;refine(QI ⟨_,rfl,e.mono b⟩ ⟨_,rfl,f⟩ h i o q om om om).mono ?_;rintro r ⟨Z4,rfl,c⟩;have I:=c.n;have q4:=eT (c.row om) (eT (b.row om) q2);rw[l,m];have C:Ext Z Z4:=((Ext.trans (eX) a).trans b).trans c;rw[<- TV v u g];generalize QH (decide (n<0) != decide (d<0)) n.natAbs d.natAbs=LF;obtain⟨la,lb,lo⟩:=LF;refine gP1 (aI q4 (aI @I1 (aI (asx a) (aI (asx b) (aI (asx c) @N1))))) ?_;refine dW1 (aI (asx a) (aI (asx b) (asx c))) ?_;cases lo
     ·refine gP1 (aI q4 (a3N @I1 @CZ @Tryz.results170)) ?_;exact⟨_,rfl,eX⟩
     ·refine gP1 (aI q4 (a3N @I1 @Bx @Tryz.results170)) ?_;exact⟨_,rfl,eX⟩
    ·unfold QG at A B;simp only[T1,Ej]at A B;refine gU1 (aI @A6 @C7) ?_;refine(XJ (n:=n) (d:=d) ⟨om,om⟩ ⟨om,om⟩ om).mono ?_;rintro r ⟨Z2,rfl,a⟩;have s:=a.n;simp only[K9]at s;have q2:Z2.row Z.n=some [.int .i64 n,.int .i64 d]:=eT (a.row (cL)) cL;have C:Ext Z Z2:=Ext.trans (eX) a;rw[<- XI g];refine gP1 (aI q2 (aI @I1 (aI (asx a) (aI @N1 @Tryz.results170)))) ?_;exact⟨_,rfl,eX⟩
def ni (h:RQ n d):Ev (gO 170 [ai n d] Z) (fun r=>∃ Z',r=⟨false,.bool true,Z'⟩/\Ext Z Z') ⟨⟩:=by
 have e:Dk n d=true:=by
  unfold Dk;rw[AK h.d1,AK h.low];rfl
 have:=h.n1;have:=h.n2;have:=h.d1;have:=h.d2;refine(TW (n:=n) (d:=d) ⟨om,om⟩ ⟨om,om⟩).mono ?_;rintro r ⟨Z',rfl,a⟩;rw[e];exact⟨_,rfl,a⟩
end
end Go.Proofs.T
