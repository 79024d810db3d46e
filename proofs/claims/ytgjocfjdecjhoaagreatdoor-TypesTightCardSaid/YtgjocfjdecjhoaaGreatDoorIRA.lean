/- The tokens of a Us text, without Fl BB2. -/
import Derived.Test.YtgjocfjdecjhoaaGreatDoorITH
set_option linter.unusedSimpArgs false
set_option linter.unusedVariables false
set_option linter.defProp false
set_option maxHeartbeats 32000000
set_option maxRecDepth 100000
namespace Go.Proofs.T
open Go Go.Ab
section
variable {Z:St}{n:Int}{s:By}
def SS:Ev (gO 171 [.int .u8 n] Z) (fun r=>r=⟨false,.bool (FE n),Z⟩) ⟨⟩:=by
 refine C8 Tryz.func171 rfl rfl ?_;unfold FE;cases a:decide (n<97)<;>cases b:decide (122<n)<;>cases c:decide (n<65)<;>cases d:decide (90<n)<;>refine gS1 (aI a (aI b (aI c (aI d (a3N @D6 @D8 @Tryz.results171))))) ?_<;>rfl
def lX:Ev (gO 203 [.int .u8 n] Z) (fun r=>r=⟨false,.bool (P9 n),Z⟩) ⟨⟩:=by
 refine C8 Tryz.func203 rfl rfl ?_;unfold P9;cases a:decide (n<48)<;>cases b:decide (57<n)<;>refine gS1 (aI a (aI b @Tryz.results203)) ?_<;>rfl
def ZW:Ev (gO 170 [.int .u8 n] Z) (fun r=>r=⟨false,.bool (EW n),Z⟩) ⟨⟩:=by
 refine C8 Tryz.func170 rfl rfl ?_;refine gS ?_;refine SS.mono ?_;rintro r rfl;refine gS ?_;refine lX.mono ?_;rintro r rfl;unfold EW;cases a:FE n<;>cases b:P9 n<;>cases c:decide (n=95)<;>refine gS1 (aI a (aI b (aI c @Tryz.results170))) ?_<;>rfl
def Df (s:By):Bool:=decide (0<s.length)&&decide (s.length<=30)&&(s.all fun c=>EW c.toNat)&&(match s with|c::_=>FE c.toNat|[]=>false)
def MM:Ev (gO 121 [str s] Z) (fun r=>r=⟨false,.bool (Df s),Z⟩) ⟨⟩:=by
 refine C8 Tryz.func121 rfl rfl ?_;by_cases C:s.length<1
 ·have o:decide ((s.length:Int)<1)=true:=by rw[z3z];omega
  have l:Df s=false:=by unfold Df;rw[z4z (show ¬ 0<s.length by omega)];rfl
  refine gS1 (aI o (aI l @Tryz.results121)) ?_;try exact⟨⟩
 have o:decide ((s.length:Int)<1)=false:=by rw[Ob];omega
 by_cases E:30<s.length
 ·have u:decide (30<(s.length:Int))=true:=by rw[z3z];omega
  have l:Df s=false:=by unfold Df;rw[z4z (show ¬ s.length<=30 by omega)];simp
  refine gS1 (aI o (aI u (aI l @Tryz.results121))) ?_;try exact⟨⟩
 have u:decide (30<(s.length:Int))=false:=by rw[Ob];omega
 refine gS1 (aI o u) ?_
 refine G8 s.length (fun k b Z'=>b.get 3=some (.int .i64 k)/\b.get 0=some (str s)/\Z'=Z/\(∀ i c,i<k->s[i]? =some c->EW c.toNat=true)/\(∀ c,0<k->s[0]? =some c->FE c.toNat=true))
  (fun r=>(∃ b,r=⟨.exit 0,b,Z⟩/\Df s=true)\/∃ b,r=⟨.ret,b,Z⟩/\b.get 2=some (.bool false)/\Df s=false) ?_ ?_ ?_ ?_
 ·exact⟨fR,fR,rfl,fun i c h=>om,fun c h=>om⟩
 ·rintro k b Z' z ⟨j,g,rfl,v,l⟩;have y:=M4 z;obtain⟨c,a⟩:=I1 z;have A:=QW a;refine gS1 (aI j (aI g (aI y (aI A @Fp)))) ?_;refine ZW.mono ?_;rintro r rfl;refine gS1 (aI j (aI g (aI A @Fp))) ?_;refine SS.mono ?_;rintro r rfl;have no:∀ x,(∀ d∈s,EW d.toNat=true)=x->True:=fun _ _=>trivial;cases q1:EW c.toNat with
  | false=>
    have m:Df s=false:=by
     unfold Df;have:(s.all fun c=>EW c.toNat)=false:=by
      rw[rG];intro h;rw[GY]at h;have:=h c (Ag a);rw[q1]at this;cases this
     rw[this];simp
    refine gS1 (aI j (aI g q1)) ?_;exact Or.inr ⟨_,rfl,fR,m⟩
  | true=>
    by_cases k0:k=0
    ·subst k0;have p:decide (((0:Nat):Int)=0)=true:=by decide
     cases q:FE c.toNat with
     | false=>
       have m:Df s=false:=by
        cases s with
        |nil=>rfl
        |cons d s=>cases a;unfold Df;simp only[q,Ls]
       refine gS1 (aI j (aI g (aI q1 (aI q p)))) ?_;exact Or.inr ⟨_,rfl,fR,m⟩
     | true=>
       refine gS1 (aI j (aI g (aI q1 (aI q p)))) ?_;refine⟨fR,fR1 g,by trivial,fun i d hi f=>?_,fun d _ f=>?_⟩
       ·obtain rfl:i=0:=om;rw[a]at f;cases f;exact q1
       ·rw[a]at f;cases f;exact q
    ·have p:decide ((k:Int)=0)=false:=by rw[Ob];omega
     refine gS1 (aI j (aI g (aI q1 p))) ?_;refine⟨fR,fR1 g,by trivial,fun i d hi f=>?_,fun d _ f=>l d om f⟩;by_cases e:i=k
     ·subst e;rw[a]at f;cases f;exact q1
     ·exact v i d om f
 ·rintro b Z' ⟨j,g,rfl,v,l⟩;refine gS1 (aI j g) ?_;refine Or.inl ⟨_,rfl,?_⟩;unfold Df;rw[AW (show 0<s.length by omega),AW (show s.length<=30 by omega)];have:(s.all fun c=>EW c.toNat)=true:=by
   rw[GY];intro c y;obtain⟨i,hi,D⟩:=List.mem_iff_getElem.1 y;exact v i c hi (by rw[List.getElem?_eq_getElem hi,D])
  rw[this];cases s with
  |nil=>simp at C
  |cons c s=>simpa using l c (by simp) rfl
 rintro r (⟨b,rfl,m⟩|⟨b,rfl,B,m⟩)
 ·refine gS1 (aI m @Tryz.results121) ?_;try exact⟨⟩
 ·refine gS1 (aI B (aI m @Tryz.results121)) ?_;try exact⟨⟩
def OI (s:By):Bool:=Df s&& !decide (s=[112,114,105,99,101])&& !decide (s=[108,111,119])&& !decide (s=[109,105,110])&& !decide (s=[109,97,120])
def Lp:Ev (gO 172 [str s] Z) (fun r=>r=⟨false,.bool (OI s),Z⟩) ⟨⟩:=by
 refine C8 Tryz.func172 rfl rfl ?_;refine gS ?_;refine MM.mono ?_;rintro r rfl;unfold OI;cases a:Df s
 ·refine gS1 (aI a (a3N @D6 @D8 @Tryz.results172)) ?_;rfl
 cases b:decide (s=[112,114,105,99,101])
 case true=>refine gS1 (aI a (aI b (a3N @D6 @D8 @Tryz.results172))) ?_;rfl
 cases c:decide (s=[108,111,119])
 case true=>refine gS1 (aI a (aI b (aI c (a3N @D6 @D8 @Tryz.results172)))) ?_;rfl
 cases d:decide (s=[109,105,110])
 case true=>refine gS1 (aI a (aI b (aI c (aI d (a3N @D6 @D8 @Tryz.results172))))) ?_;rfl
 cases e:decide (s=[109,97,120])<;>refine gS1 (aI a (aI b (aI c (aI d (aI e (a3N @D6 @D8 @Tryz.results172)))))) ?_<;>rfl
end
def ML (s:By):Nat:=match s with
 | []=>0
 |c::_=>Jh s 0 c
def QM:Nat->By->List By
 |0,_=>[]
 | f+1,s=>match s with
   | []=>[]
   |c::r=>if c=32 then QM f r else s.take (ML s)::QM f (s.drop (ML s))
def VB {p:Int->Bool}{s:By}{k m:Nat}:BQ p s (k+m)=BQ p (s.drop k) m:=by unfold BQ;rw[UM]
def SQ {p:Int->Bool}{s:By}{k:Nat}:BQ p s k=BQ p (s.drop k) 0:=VB (m:=0)
def lU {s:By}{k:Nat}{c:UInt8}(g:k<s.length):Jh s k c=k+Jh (s.drop k) 0 c:=by
 have f:∀ R,min (k+R+1) s.length=k+min (R+1) (s.length-k):=fun R=>om;unfold Jh;rw[@SQ EW s k,@SQ P9 s k];simp only[GK];generalize BQ P9 (s.drop k) 0=R;rw[f,@VB P9 s k,List.getElem?_drop,MD];by_cases a:on FE c=true
 ·rw[z1z a,z1z a]
 ·rw[z0z a,z0z a];by_cases b:on P9 c=true
  ·rw[z1z b,z1z b];have d:decide (k+R<s.length)=decide (R<s.length-k):=by rw[z7z,z3z,z3z];omega
   generalize BQ P9 (s.drop k) (min (R+1) (s.length-k))=M;have e:decide (k+R+1<k+min (R+1) (s.length-k)+M)=decide (R+1<min (R+1) (s.length-k)+M):=by rw[z7z,z3z,z3z];omega
   rw[d,e];split
   ·omega
   ·rfl
  ·rw[z0z b,z0z b]
def AW5 {s:By}{a:Nat}:∀ (f k:Nat),(fT s a f k).map Prod.fst=QM f (s.drop k):=by
 intro f;induction f with
 |zero=>intro k;rfl
 | succ f ih=>
   intro k;unfold fT;rcases AU k s.length with b|b
   ·have d:s.drop k=s[k]::s.drop (k+1):=Oe b;have g:QM (f+1) (s.drop k)=if s[k]=32 then QM f (s.drop (k+1))else(s.drop k).take (ML (s.drop k))::QM f ((s.drop k).drop (ML (s.drop k))):=by rw[d];rfl
    have e:Jh s k s[k]=k+ML (s.drop k):=by rw[lU b,d];rfl
    rw[g,List.getElem?_eq_getElem b];dsimp only;by_cases c:s[k]=32
    ·rw[z1z c,z1z c];exact ih _
    ·rw[z0z c,z0z c,SR,ih,e,show k+ML (s.drop k)-k=ML (s.drop k) by omega,<- UM]
   ·rw[List.getElem?_eq_none b,iJ b];rfl
def ZS {c:UInt8}{r:By}:0<ML (c::r)/\ML (c::r)<=(c::r).length:=by
 have:=yV (s:=c::r) (k:=0) (c:=c) rfl;exact this
def lV:∀ (f f':Nat) (s:By),s.length<=f->s.length<=f'->QM f s=QM f' s:=by
 intro f;induction f with
 | zero=>
   intro f' s b _;obtain rfl:=WI (Nat.le_zero.1 b);cases f'<;>rfl
 | succ f ih=>
   intro f' s b d;cases s with
   |nil=>cases f'<;>rfl
   | cons c r=>
     cases f' with
     |zero=>simp at d
     | succ f'=>
       unfold QM;dsimp only;simp only[Ap]at b d;have e:=@ZS c r;by_cases a:c=32
       ·rw[z1z a,z1z a];exact ih _ _ om om
       ·rw[z0z a,z0z a,ih f' _ (by rw[MD,Ap];omega) (by rw[MD,Ap];omega)]
def lex (s:By):List By:=QM s.length s
def lW {s:By}{a:Nat}:(ZT s a).map Prod.fst=lex s++[[]]:=by
 unfold ZT lex;rw[HI,AW5,NG];rfl
def lex_nil:lex []=[]:=rfl
def Oq {r:By}:lex (32::r)=lex r:=by
 unfold lex;rw[Ap];rfl
def Qk {c:UInt8}{r:By}(h:c≠32):lex (c::r)=(c::r).take (ML (c::r))::lex ((c::r).drop (ML (c::r))):=by
 have a:=@ZS c r;show QM (r.length+1) (c::r)=_;unfold QM;dsimp only;rw[z0z h];unfold lex;rw[lV r.length _ _ (by rw[MD,Ap];omega) nL]
def Stop (r:By):Prop:=∀ c t,r=c::t->on EW c=false/\c≠46
def Ff {p:UInt8->Bool}{w r:By}(a:w.all p=true) (b:∀ c t,r=c::t->p c=false):(w++r).takeWhile p=w:=by
 induction w with
 | nil=>
   cases r with
   |nil=>rfl
   |cons c t=>rw[MC,lC,b c t rfl];rfl
 | cons c w ih=>
   rw[Od,R2]at a;rw[LN,lC,a.1,z1z rfl,ih a.2]
def ZU {c:UInt8}{w r:By}(b:on FE c=true) (d:(c::w).all (on EW)=true) (f:Stop r):lex (c::w++r)=(c::w)::lex r:=by
 have a:c≠32:=by rintro rfl;cases b
 have ht:ML (c::(w++r))=(c::w).length:=by
  show Jh _ 0 c=_;unfold Jh;rw[z1z b,GK];unfold BQ;rw[NG,show c::(w++r)=(c::w)++r from rfl,Ff d fun c t e=>(f c t e).1]
 rw[LN,Qk a,ht,show c::(w++r)=(c::w)++r from rfl,List.take_left,List.drop_left]
def Gq {c:UInt8}{r:By}(a:on FE c=false) (b:on P9 c=false) (d:c≠32):lex (c::r)=[c]::lex r:=by
 have ht:ML (c::r)=1:=by
  show Jh _ 0 c=_;unfold Jh;rw[z0z (by rw[a];simp),z0z (by rw[b];simp)]
 rw[Qk d,ht];rfl
def yW {c:UInt8}(h:on P9 c=true):on EW c=true:=by
 unfold on EW at *;rw[h];simp
def ZV {r:By}(h:Stop r):∀ c t,r=c::t->on P9 c=false:=fun c t e=>by
 cases a:on P9 c with
 |false=>rfl
 |true=>have:=(h c t e).1;rw[yW a]at this;cases this
def XA {c:UInt8}(h:on P9 c=true):on FE c=false:=by
 unfold on P9 FE at *;simp only[R2,Bool.not_eq_true',Ob]at h;have a:decide ((c.toNat:Int)<97)=true:=by rw[z3z];omega
 have b:decide ((c.toNat:Int)<65)=true:=by rw[z3z];omega
 rw[a,b];rfl
def rF {c:UInt8}(h:on P9 c=true):c≠32/\c≠46:=⟨(by rintro rfl;cases h),(by rintro rfl;cases h)⟩
def yX {c:UInt8}{w r:By}(b:(c::w).all (on P9)=true) (d:Stop r):lex (c::w++r)=(c::w)::lex r:=by
 have a:on P9 c=true:=by rw[Od,R2]at b;exact b.1
 have e:BQ P9 (c::(w++r)) 0=(c::w).length:=by
  unfold BQ;rw[NG,show c::(w++r)=(c::w)++r from rfl,Ff b (ZV d)]
 have ht:ML (c::(w++r))=(c::w).length:=by
  show Jh _ 0 c=_;unfold Jh;rw[z0z (by rw[XA a];simp),z1z a,GK,e];have g:decide ((c::(w++r))[(c::w).length]? =some 46)=false:=by
   rw[Ob,show c::(w++r)=(c::w)++r from rfl,List.getElem?_append_right nL,Yz];cases r with
   |nil=>simp
   |cons x t=>intro f;cases f;exact(d 46 t rfl).2 rfl
  rw[g,Ls,Lr,z0z (by simp)]
 rw[LN,Qk (rF a).1,ht,show c::(w++r)=(c::w)++r from rfl,List.take_left,List.drop_left]
def yY {c x:UInt8}{w v r:By}(d:(c::w).all (on P9)=true) (j:(x::v).all (on P9)=true) (i:Stop r):lex (c::w++46::x::v++r)=(c::w++46::x::v)::lex r:=by
 have b:on P9 c=true:=by rw[Od,R2]at d;exact d.1
 have h:c::w++46::x::v++r=(c::w)++(46::((x::v)++r)):=sI;have l:BQ P9 ((c::w)++(46::((x::v)++r))) 0=(c::w).length:=by
  unfold BQ;rw[NG,Ff d (fun c t e=>by cases e;rfl)]
 have k:BQ P9 ((c::w)++(46::((x::v)++r))) ((c::w).length+1)=(x::v).length:=by
  unfold BQ;rw[show(c::w)++(46::((x::v)++r))=((c::w)++[46])++((x::v)++r) by simp,List.drop_left' (by simp),Ff j (ZV i)]
 have a:((c::w)++(46::((x::v)++r))).length=(c::w).length+1+(x::v).length+r.length:=by simp;omega
 have ht:ML ((c::w)++(46::((x::v)++r)))=(c::w++46::x::v).length:=by
  show Jh _ 0 c=_;unfold Jh;rw[z0z (by rw[XA b];simp),z1z b,GK,l];rw[show min ((c::w).length+1) ((c::w)++(46::((x::v)++r))).length=(c::w).length+1 by rw[a];omega,k];have n:decide (((c::w)++(46::((x::v)++r)))[(c::w).length]? =some 46)=true:=by
   rw[z3z,List.getElem?_append_right nL,Yz];rfl
  have m:decide ((c::w).length<((c::w)++(46::((x::v)++r))).length)=true:=by rw[z3z,a];omega
  have f:decide ((c::w).length+1<(c::w).length+1+(x::v).length)=true:=by rw[z3z];simp
  rw[n,m,f];simp;omega
 rw[h];have g:(c::w)++(46::((x::v)++r))=c::(w++(46::((x::v)++r))):=rfl;rw[g,Qk (rF b).1,<- g,ht,show(c::w)++(46::((x::v)++r))=(c::w++46::x::v)++r by simp,List.take_left,List.drop_left]
def lvl (op:By):Nat:=if op=[43]\/op=[45]then 0 else if op=[42]\/op=[47]then 1 else 2
def dgt (n:Nat):UInt8:=UInt8.ofNat (48+n % 10)
def dcF:Nat->Nat->By
 |0,_=>[]
 |f+1,n=>if n<10 then[dgt n]else dcF f (n / 10)++[dgt n]
def dcN (n:Nat):By:=dcF (n+1) n
def frT:Nat->Nat->Nat->By
 |0,_,_=>[]
 |f+1,r,D=>if r=0 then[]else dcN (10*r / D)++frT f (10*r % D) D
def deT (n d:Int):By:=dcN (n.toNat / d.toNat)++(if n.toNat % d.toNat=0 then[]else 46::frT 6 (n.toNat % d.toNat) d.toNat)
def par (b:Bool) (s:By):By:=if b=true then 40::(s++[41])else s
def MU (b:Bool) (s:List By):List By:=if b=true then[40]::(s++[[41]])else s
def K6:Nat->Nat->Ex->By
 |0,_,_=>[]
 | f+1,G4,.mk op n d nm args=>par (decide (lvl op<G4)) (if op=K8 then deT n d else if op=nmB then nm else match args with
   | [a,b]=>if op=Q7\/op=R4 then op++40::(K6 f 0 a++44::32::(K6 f 0 b++[41]))else K6 f (lvl op) a++32::(op++32::K6 f (lvl op+1) b)
   |_=>[])
def U9:Nat->Nat->Ex->List By
 |0,_,_=>[]
 | f+1,G4,.mk op n d nm args=>MU (decide (lvl op<G4)) (if op=K8 then[deT n d]else if op=nmB then[nm]else match args with
   | [a,b]=>if op=Q7\/op=R4 then op::[40]::(U9 f 0 a++[44]::(U9 f 0 b++[[41]]))else U9 f (lvl op) a++op::U9 f (lvl op+1) b
   |_=>[])
structure RQ (n d:Int):Prop where
 n1: -1000000000<n
 n2:n<=1000000000*d
 d1:1<=d
 d2:d<1000000000
 low:Int.gcd n d=1
structure Jk (n d:Int):Prop where
 rq:RQ n d
 n0:0<=n
 d6:(1000000:Int) % d=0
 lex:(∃ c w,deT n d=c::w/\(c::w).all (on P9)=true)\/∃ c w x v,deT n d=c::w++46::x::v/\(c::w).all (on P9)=true/\(x::v).all (on P9)=true
 dec:∀ D4 k p,(Ah D4 k).1=deT n d->ot D4 k p= .ok (.mk K8 n d [] [],1,k+1,p+1)
inductive FW:Nat->Nat->Ex->Prop
 |num {n d:Int} (h:Jk n d):FW 1 1 (.mk K8 n d [] [])
 |name {nm:By} (h1:AP nm=true) (h2:nm≠Q7) (h3:nm≠R4):FW 1 1 (.mk nmB 0 0 nm [])
 |bin {k j m i:Nat}{o:By}{a b:Ex} (h:o=[43]\/o=[45]\/o=[42]\/o=[47]) (ha:FW k m a) (hb:FW j i b):FW (1+max k j) (m+i+1) (.mk o 0 0 [] [a,b])
 |mm {k j m i:Nat}{o:By}{a b:Ex} (h:o=Q7\/o=R4) (ha:FW k m a) (hb:FW j i b):FW (1+max k j) (m+i+1) (.mk o 0 0 [] [a,b])
def FW.pos {k m:Nat}{e:Ex}(h:FW k m e):1<=k/\1<=m:=by cases h<;>omega
def Ih {c:UInt8}{r:By}(a:on EW c=false) (b:c≠46):Stop (c::r):=fun d t e=>by cases e;exact⟨a,b⟩
def tO:Stop []:=fun c t e=>by cases e
def Qo {b:Bool}{s:By}{ts:List By}(h:∀ r,Stop r->lex (s++r)=ts++lex r){r:By}(a:Stop r):lex (par b s++r)=MU b ts++lex r:=by
 unfold par MU;cases b with
 |false=>exact h r a
 | true=>
   rw[z1z rfl,z1z rfl,show 40::(s++[41])++r=40::(s++(41::r)) by simp,Gq (by rfl) (by rfl) (by decide),h (41::r) (Ih (by rfl) (by decide)),Gq (by rfl) (by rfl) (by decide)];simp
def MV {nm:By}(h:AP nm=true):∃ c w,nm=c::w/\on FE c=true/\(c::w).all (on EW)=true:=by
 unfold AP at h;rw[R2,R2]at h;cases nm with
 |nil=>cases h.1.1
 |cons c w=>exact⟨c,w,rfl,h.1.1,h.2⟩
def tP {k m:Nat}{e:Ex}(h:FW k m e):∀ (f G4:Nat),k<=f->∀ r:By,Stop r->lex (K6 f G4 e++r)=U9 f G4 e++lex r:=by
 induction h with
 | @num n d h=>
   intro f G4 u r l;obtain⟨f,rfl⟩:∃ g,f=g+1:=⟨f-1,om⟩
   unfold K6 U9;refine Qo (fun r l=>?_) l;rw[z1z rfl,z1z rfl];rcases h.lex with⟨c,w,e,q⟩|⟨c,w,x,v,e,q,y⟩
   ·rw[e];exact yX q l
   ·rw[e];exact yY q y l
 | @name nm q y h3=>
   intro f G4 u r l;obtain⟨f,rfl⟩:∃ g,f=g+1:=⟨f-1,om⟩
   unfold K6 U9;refine Qo (fun r l=>?_) l;rw[z0z (by decide),z1z rfl,z0z (by decide),z1z rfl];obtain⟨c,w,rfl,q1,A⟩:=MV q;exact ZU q1 A l
 | @bin k j m i o a b h ha hb iha ihb=>
   intro f G4 u r l;obtain⟨f,rfl⟩:∃ g,f=g+1:=⟨f-1,om⟩
   unfold K6 U9;refine Qo (fun r l=>?_) l;have p:o≠K8/\o≠nmB/\¬ (o=Q7\/o=R4):=by rcases h with rfl|rfl|rfl|rfl<;>decide
   rw[z0z p.1,z0z p.2.1,z0z p.1,z0z p.2.1];dsimp only;rw[z0z p.2.2,z0z p.2.2];obtain⟨c,rfl,c1,s,z⟩:∃ c,o=[c]/\on FE c=false/\on P9 c=false/\c≠32:=by
    rcases h with rfl|rfl|rfl|rfl<;>exact⟨_,rfl,by rfl,by rfl,by decide⟩
   rw[show K6 f (lvl [c]) a++32::([c]++32::K6 f (lvl [c]+1) b)++r=K6 f (lvl [c]) a++(32::c::32::(K6 f (lvl [c]+1) b++r)) by simp,
    iha f _ om _ (Ih (by rfl) (by decide)),Oq,Gq c1 s z,Oq,ihb f _ om r l]
   simp
 | @mm k j m i o a b h ha hb iha ihb=>
   intro f G4 u r l;obtain⟨f,rfl⟩:∃ g,f=g+1:=⟨f-1,om⟩
   unfold K6 U9;refine Qo (fun r l=>?_) l;have p:o≠K8/\o≠nmB:=by rcases h with rfl|rfl<;>decide
   rw[z0z p.1,z0z p.2,z0z p.1,z0z p.2];dsimp only;rw[z1z h,z1z h];obtain⟨c,w,rfl,c1,s⟩:∃ c w,o=c::w/\on FE c=true/\(c::w).all (on EW)=true:=by
    rcases h with rfl|rfl<;>exact⟨_,_,rfl,by rfl,by rfl⟩
   rw[show c::w++40::(K6 f 0 a++44::32::(K6 f 0 b++[41]))++r=c::w++(40::(K6 f 0 a++(44::32::(K6 f 0 b++(41::r))))) by simp,
    ZU c1 s (Ih (by rfl) (by decide)),Gq (by rfl) (by rfl) (by decide),iha f 0 om _ (Ih (by rfl) (by decide)),Gq (by rfl) (by rfl) (by decide),Oq,ihb f 0 om _ (Ih (by rfl) (by decide)),Gq (by rfl) (by rfl) (by decide)]
   simp
section
variable {n d:Int}{Z:St}{a b:Nat}
def qn (n d:Int):Int:=(if d<0 then -n else n) / (Int.gcd n d:Nat)
def qd (n d:Int):Int:=(if d<0 then -d else d) / (Int.gcd n d:Nat)
def xP:Nat.gcd b (a % b)=Nat.gcd a b:=by
 rw[RW b,<- pG,RW]
def Lim (n:Int):Prop:= -4000000000000000000<=n/\n<=4000000000000000000
def xQ:(a:Int).tmod (b:Int)=((a % b:Nat):Int):=rfl
def cf {g:Nat}(h:(g:Int)∣n):n.tdiv g=n / g:=Int.tdiv_eq_ediv_of_dvd h
def RH {a b:Int}:(a==b)=decide (a=b):=by rw[z7z];simp
def YP {a b:Bool}:bi a (some b) (some false)=some (a&&b):=by cases a<;>rfl
def F4 {x y:Operand}{a b c:Int}:Aq Tryz.prog .eql 29 x y (.agg ⟨[.int .i64 a,.int .i64 b]⟩) (.agg ⟨[.int .i64 c,.int .i64 d]⟩)=some (.bool (decide (a=c)&&decide (b=d))) /\
  Aq Tryz.prog .neq 29 x y (.agg ⟨[.int .i64 a,.int .i64 b]⟩) (.agg ⟨[.int .i64 c,.int .i64 d]⟩)=some (.bool (!(decide (a=c)&&decide (b=d)))):=by
 have e:eqF Tryz.prog 9999 ⟨[.int .i64 a,.int .i64 b]⟩ ⟨[.int .i64 c,.int .i64 d]⟩ (Tryz.prog.fieldsOf 29).toList=bi (a==c) (bi (b==d) (some true) (some false)) (some false):=kR;have h:=Vx (x:=x) (y:=y) rfl kR kR kR e;rw[YP,YP,RH,RH,dR]at h;exact h
def HF (C:Lim n) (E:Lim d) (h3:d≠0):
  Ev (gO 135 [.int .i64 n,.int .i64 d] Z) (fun r=>∃ Z',r=⟨false,.agg ⟨[.int .i64 (qn n d),.int .i64 (qd n d)]⟩,Z'⟩/\Ext Z Z') ⟨⟩:=by
 obtain⟨a1,a2⟩:=C;obtain⟨b1,b2⟩:=E;obtain⟨N,hN⟩:=nW ((if d<0 then -n else n));obtain⟨D,hD⟩:=nW ((if d<0 then -d else d));have e:Int.gcd n d=Nat.gcd N.natAbs D.natAbs:=by
  have C:N.natAbs=n.natAbs:=by rw[<- hN];split<;>omega
  have E:D.natAbs=d.natAbs:=by rw[<- hD];split<;>omega
  unfold Int.gcd;rw[C,E]
 have V:0<D:=by rw[<- hD];split<;>omega
 have F:D<=4000000000000000000:=by rw[<- hD];split<;>omega
 have W: -4000000000000000000<=N/\N<=4000000000000000000:=by rw[<- hN];split<;>omega
 have S:IntKind.i64.wrap (0-N)= -N:=by rw[wrap64_in om om];omega
 have J:max N (-N)=(N.natAbs:Int):=om;have G:D=(D.natAbs:Int):=om;have z:qn n d=N / (Nat.gcd N.natAbs D.natAbs:Nat):=by unfold qn;rw[hN,e]
 have A:qd n d=D / (Nat.gcd N.natAbs D.natAbs:Nat):=by unfold qd;rw[hD,e]
 rw[z,A];have H:Nat.gcd N.natAbs D.natAbs≠0:=fun h=>by have:=Nat.eq_zero_of_gcd_eq_zero_right h;omega
 have l:((Nat.gcd N.natAbs D.natAbs:Nat):Int)∣N:=Int.ofNat_dvd_left.2 (Nat.gcd_dvd_left _ _);have y:((Nat.gcd N.natAbs D.natAbs:Nat):Int)∣D:=Int.ofNat_dvd_left.2 (Nat.gcd_dvd_right _ _);obtain⟨g,M⟩:=nW (Nat.gcd N.natAbs D.natAbs);rw[M]at H l y ⊢;have I:(g:Int)≠0:=om;have c1:N.tdiv g=N / g:=cf l;have R:D.tdiv g=D / g:=cf y;have X: -4000000000000000000<=N / (g:Int)/\N / (g:Int)<=4000000000000000000:=by
  obtain⟨k,hk⟩:=l;rw[hk,Ue _ I];have v:1<=(g:Int):=om;constructor
  ·rcases Int.le_total 0 k with h|h
   ·omega
   ·have:=Int.mul_le_mul_of_nonpos_right v h;omega
  ·rcases Int.le_total 0 k with h|h
   ·have:=Int.mul_le_mul_of_nonneg_right v h;omega
   ·omega
 have Y:0<=D / (g:Int)/\D / (g:Int)<=4000000000000000000:=by
  refine⟨Int.ediv_nonneg om om,Int.le_trans (Int.ediv_le_self _ om) F⟩
 have w1:IntKind.i64.wrap (N / (g:Int))=N / (g:Int):=wrap64_in om om;have w2:IntKind.i64.wrap (D / (g:Int))=D / (g:Int):=wrap64_in om om;refine C8 Tryz.func135 rfl rfl ?_;have U:(decide (d<0)=true/\IntKind.i64.wrap (0-n)=N/\IntKind.i64.wrap (0-d)=D)\/(decide (D<0)=false/\n=N/\d=D):=by
  by_cases B:d<0
  ·rw[z1z B]at hN hD;exact .inl ⟨by simpa using B,by rw[wrap64_in om om];omega,by rw[wrap64_in om om];omega⟩
  ·rw[z0z B]at hN hD;exact .inr ⟨by rw[<- hD];simpa using B,hN,hD⟩
 clear hN hD e z A;rcases U with⟨L,f,i⟩|⟨L,f,i⟩
 all_goals
  refine gS1 (aI L (aI f (aI i (aI S J)))) ?_
  refine Bt (fun m c Z'=>∃ a:Nat,c.get 0=some (.int .i64 N)/\c.get 1=some (.int .i64 D)/\c.get 4=some (.pointer (some ⟨Z.n,0,none⟩))/\c.get 5=some (.int .i64 (a:Int))/\c.get 6=some (.int .i64 (m:Int))/\Z'=Z.new [.int .i64 0,.int .i64 0] (some 29)/\Nat.gcd a m=g)
   (fun r=>∃ c,r=⟨.exit 0,c,Z.new [.int .i64 0,.int .i64 0] (some 29)⟩/\c.get 0=some (.int .i64 N)/\c.get 1=some (.int .i64 D)/\c.get 4=some (.pointer (some ⟨Z.n,0,none⟩))/\c.get 5=some (.int .i64 (g:Int))) D.natAbs ?_ ?_ ?_
  ·exact⟨N.natAbs,fR1 (And.intro f i),fR1 (And.intro f i),fR1 (And.intro f i),fR1 (And.intro f i),by rw[<- G];exact fR1 (And.intro f i),rfl,M⟩
  ·rintro m c Z' ⟨a,p,q,s,u,K,rfl,o⟩;by_cases O:0<m
   ·have j:decide ((0:Int)<(m:Int))=true:=by simpa using O
    have a0:(m:Int)≠0:=om;refine gS1 (aI p (aI q (aI s (aI u (aI K (aI j (aI @xQ @X8))))))) ?_;refine⟨a % m,IP _ O,m,fR1 p,fR1 q,fR1 s,fR,fR,by trivial,by rw[xP];exact o⟩
   ·obtain rfl:m=0:=om;have j:decide ((0:Int)<((0:Nat):Int))=false:=by decide
    rw[pF]at o;subst o;refine gS1 (aI p (aI q (aI s (aI u (aI K (aI j @BT)))))) ?_;exact⟨_,rfl,fR1 p,fR1 q,fR1 s,fR1 u⟩
  ·rintro r ⟨c,rfl,p,q,s,u⟩;refine gS1 (aI p (aI q (aI s (aI u (aI c1 (aI R (aI w1 (aI w2 @Tryz.results135)))))))) ?_;exact⟨_,rfl,eX⟩
def Im (e: -1000000000<n) (f:n<1000000000):Ev (gO 134 [.int .i64 n] Z) (fun r=>r=⟨false,.bool true,Z⟩) ⟨⟩:=by
 have c1:decide (-1000000000<n)=true:=by simpa using e
 have c:decide (n<1000000000)=true:=by simpa using f
 refine C8 Tryz.func134 rfl rfl ?_;refine gS1 (aI c1 (aI c (a3N @D6 @D8 @Tryz.results134))) ?_;try exact⟨⟩
def qR (g: -1000000000<n) (h:n<1000000000) (i: -1000000000<d) (j:d<1000000000) (e:d≠0):
  Ev (gO 72 [.int .i64 n,.int .i64 d] Z) (fun r=>∃ Z',r=⟨false,.tuple ⟨[.agg ⟨[.int .i64 (qn n d),.int .i64 (qd n d)]⟩,.bool true]⟩,Z'⟩/\Ext Z Z') ⟨⟩:=by
 have f:decide (d=0)=false:=by simpa using e
 refine C8 Tryz.func72 rfl rfl ?_;refine gS1 f ?_;refine(Im g h).mono ?_;rintro r rfl;refine gS1 @D6 ?_;refine(Im i j).mono ?_;rintro r rfl;refine gS ?_;refine(HF ⟨om,om⟩ ⟨om,om⟩ e).mono ?_;rintro r ⟨Z2,rfl,c⟩;have m:=c.n;have k:Z2.A7 Z.n=some [.int .i64 0,.int .i64 0]:=eT (c.A7 (cL)) cL;have l:Ext Z Z2:=Ext.trans (eX) c;refine gS1 (aI k @Tryz.results72) ?_;exact⟨_,rfl,eX⟩
def R5 (n d:Int):Value:= .agg ⟨[.int .i64 n,.int .i64 d]⟩
def YT (h:d≠0):Int.gcd (qn n d) (qd n d)=1/\1<=qd n d:=by
 obtain⟨N,i⟩:=nW ((if d<0 then -n else n));obtain⟨D,hD⟩:=nW ((if d<0 then -d else d));have o:0<D:=by rw[<- hD];split<;>omega
 have p:Int.gcd n d=Int.gcd N D:=by rw[<- i,<- hD];split<;>simp[Int.gcd]
 unfold qn qd;rw[i,hD,p];have c:0<Int.gcd N D:=Int.gcd_pos_of_ne_zero_right _ om;obtain⟨k,f⟩:((Int.gcd N D:Nat):Int)∣N:=Int.gcd_dvd_left _ _;obtain⟨m,hm⟩:((Int.gcd N D:Nat):Int)∣D:=Int.gcd_dvd_right _ _;obtain⟨g,hgg⟩:=nW (Int.gcd N D);rw[hgg]at f hm c ⊢;have e:(0:Int)<(g:Int):=om;have j:N / (g:Int)=k:=by rw[f,Ue _ om]
 have l:D / (g:Int)=m:=by rw[hm,Ue _ om]
 rw[j,l];refine⟨?_,?_⟩
 ·rw[f,hm,Int.gcd_mul_left,Int.natAbs_natCast]at hgg;exact AP9 c (by rw[hgg,Ip])
 ·rcases Int.lt_or_le 0 m with h|h
  ·omega
  ·exfalso;have:=Int.mul_nonpos_of_nonneg_of_nonpos (Int.le_of_lt e) h;omega
def qF (h:1<=d) (c:Int.gcd n d=1):qn n d=n/\qd n d=d:=by
 unfold qn qd;rw[z0z om,z0z om,c];simp
end
def UP (J:Nat->Fr->St->Prop) (R:Res->Prop) (n k:Nat) (r:Res):Prop:=match r.o with
 | .normal=>k+1<=n/\J (k+1) r.fr r.Z
 |_=>R r
section
variable {P:Program}{H:EV}{rd:Option Nat}{fr:Fr}{Z:St}
def Ko {a:Code}{Q:Res->Prop}{u:Hd Q}(n:Nat) (J:Nat->Fr->St->Prop) (R:Res->Prop) (d:J 0 fr Z)
  (g:∀ k fr Z,k<=n->J k fr Z->Ev (lim P H rd a fr Z) (UP J R n k) ⟨⟩) (f:∀ r,R r->Q r) :
  Ev (lim P H rd (.loop a) fr Z) Q u:=by
 refine Bt (fun j fr Z=>∃ k,j+k=n/\J k fr Z) R n ⟨0,om,d⟩ ?_ f;rintro j fr Z ⟨k,h,e⟩;refine(g k fr Z om e).mono ?_;rintro⟨o,c,Z'⟩ b;cases o with
 |normal=>exact⟨n-(k+1),by have:=b.1;omega,k+1,by have:=b.1;omega,b.2⟩
 |exit i=>exact b
 |ret=>exact b
 |pan v=>exact b
end
section
variable {l a b:List Nat}{d k:Nat}
def D9:List Nat->Nat
 | []=>0
 |d::l=>d+65536*D9 l
def Dig (l:List Nat):Prop:=∀ d∈l,d<65536
def Trm (l:List Nat):Prop:=∀ d,l.getLast? =some d->d≠0
def Sn:D9 []=0:=rfl
def y9:D9 (d::l)=d+65536*D9 l:=rfl
def So:∀ {a b:List Nat},D9 (a++b)=D9 a+65536 ^ a.length*D9 b
 | [],b=>by simp[D9]
 | d::a,b=>by
   rw[LN,y9,y9,So,Ap,HG,Oi];rw[<- Gb,DG 65536 (65536 ^ a.length)];omega
def Gs:D9 (a++[d])=D9 a+65536 ^ a.length*d:=by
 rw[So,y9,Sn,eF,j7]
def VF {c:Type}{l:List c}{d:c}(h:l[k]? =some d):l.take (k+1)=l.take k++[d]:=by
 rw[Rv,h];rfl
def DK {c:Type}{l:List c}(h:k<=l.length):(l.take k).length=k:=by rw[Jw];omega
def DV (h:l[k]? =some d):D9 (l.take (k+1))=D9 (l.take k)+65536 ^ k*d:=by
 have c:=(List.getElem?_eq_some_iff.1 h).1;rw[VF h,Gs,DK om]
def Dig.nil:Dig []:=fun d h=>by cases h
def Dig.snoc (h:Dig l) (e:d<65536):Dig (l++[d]):=fun x c=>by
 rcases EM.1 c with c|c
 ·exact h x c
 ·rw[JB]at c;rw[c];exact e
def Dig.cons (h:Dig l) (e:d<65536):Dig (d::l):=fun x c=>by
 rcases W1.1 c with rfl|c
 ·exact e
 ·exact h x c
def Dig.take (h:Dig l) (k:Nat):Dig (l.take k):=fun x c=>h x (RR c)
def Dig.get (h:Dig l)(c:l[k]? =some d):d<65536:=h d (Ag c)
def Ku:∀ {l:List Nat},Dig l->D9 l<65536 ^ l.length
 | [],_=>by simp[D9]
 | d::l,h=>by
   have h1:=h d (HV ..);have c:=Ku (l:=l) fun x e=>h x (De _ e);rw[y9,Ap,HG];have:D9 l+1<=65536 ^ l.length:=c;have:=Yb 65536 this;omega
def Trm.nil:Trm []:=fun d h=>by simp at h
def Trm.le (h:Trm l) (h0:l≠[]):65536 ^ (l.length-1)<=D9 l:=by
 have e:=AO8 h0;have c:l.getLast h0≠0:=h _ (List.getLast?_eq_some_getLast h0);rw[<- e,Gs,CU,List.length_dropLast];have:65536 ^ (l.length-1)*1<=65536 ^ (l.length-1)*l.getLast h0:=Yb _ om;simp only[Ap,Jg];rw[show l.length-1+(0+1)-1=l.length-1 by omega];omega
def Trm.zero (h:Trm l) (e:D9 l=0):l=[]:=by
 by_cases c:l=[]
 ·exact c
 ·have:=h.le c;have:0<65536 ^ (l.length-1):=mD om;omega
def Trm.len (c:Dig a) (f:Trm b) (h:a.length<b.length):D9 a<D9 b:=by
 have g:=Ku c;have i:=f.le (fun e=>by rw[e]at h;simp at h);have:65536 ^ a.length<=65536 ^ (b.length-1):=mE om om;omega
def VK (c:k<=l.length):D9 l=D9 (l.take k)+65536 ^ k*D9 (l.drop k):=by
 have h:=So (a:=l.take k) (b:=l.drop k);rw[iB,DK c]at h;exact h
def VD (i:Dig a) (m:a.length=b.length){x y:Nat}(e:a[k]? =some x) (f:b[k]? =some y) (j:a.drop (k+1)=b.drop (k+1)) (c:x<y):D9 a<D9 b:=by
 have n:=(List.getElem?_eq_some_iff.1 e).1;have o:=(List.getElem?_eq_some_iff.1 f).1;rw[VK (l:=a) (k:=k+1) om,VK (l:=b) (k:=k+1) om,j,DV e,DV f];have g:=Ku (i.take k);rw[DK om]at g;have h:65536 ^ k*(x+1)<=65536 ^ k*y:=Yb _ c;rw[Oi,Ip]at h;omega
def Fq (e:Dig a) (f:Dig b) (j:Trm a) (m:Trm b) (h:D9 a=D9 b):a=b:=by
 have i:a.length=b.length:=by
  rcases eS a.length b.length with c|c|c
  ·have:=Trm.len e m c;omega
  ·exact c
  ·have:=Trm.len f j c;omega
 clear j m;induction a generalizing b with
 | nil=>cases b with
   |nil=>rfl
   |cons y b=>simp at i
 | cons x a ih=>
   cases b with
   |nil=>simp at i
   | cons y b=>
     have c:=e x (HV ..);have p:=f y (HV ..);rw[y9,y9]at h;have n:x=y:=om;have o:D9 a=D9 b:=om;rw[n,ih (fun d g=>e d (De _ g)) (fun d g=>f d (De _ g)) o (by simpa using i)]
end
section
variable {l:List Nat}{Z:St}{v:Value}{cells:List Value}{off n k:Nat}
def dgv (d:Nat):Value:= .int .i64 (d:Int)
def DN (Z:St) (v:Value) (l:List Nat):Prop:=(v= .slice none 0 0/\l=[])\/∃ b off sp c cells,v= .slice (some ⟨b,off,sp⟩) l.length c/\l.length<=c/\(sp=none\/sp=some 1)/\b<Z.n/\Z.row b=some cells/\sub cells off l.length=some (l.map dgv)
def DN.mono {Z':St}(h:DN Z v l) (d:Ext Z Z'):DN Z' v l:=by
 rcases h with h|⟨b,off,sp,c,cells,e,f,g,a,i,j⟩
 ·exact .inl h
 ·exact .inr ⟨b,off,sp,c,cells,e,f,g,z5z a d.n,by rw[d.row a];exact i,j⟩
def DN.shape (h:DN Z v l):∃ a c,v= .slice a l.length c:=by
 rcases h with⟨rfl,rfl⟩|⟨b,off,sp,c,cells,d,-⟩
 ·exact⟨_,_,rfl⟩
 ·exact⟨_,_,d⟩
def ie (h:sub cells off n=some (l.map dgv)){d:Nat}(c:l[k]? =some d):sub cells (off+k) 1=some [dgv d]:=by
 obtain⟨f,b⟩:=sub_eq h;obtain⟨hl,hd⟩:=List.getElem?_eq_some_iff.1 c;have e:=congrArg List.length b;rw[z2z,Jw,MD]at e;rw[BR om];congr 1;have a:=congrArg (fun z=>z[k]?) b;rw[List.getElem?_map,c,List.getElem?_take,z1z om,List.getElem?_drop]at a;rw[Oe (show off+k<cells.length by omega)];rw[List.getElem?_eq_getElem (show off+k<cells.length by omega)]at a;simp only[Uh,Option.some.injEq]at a;rw[<- a];rfl
def yx (h:sub cells off n=some (l.map dgv))(c:k<=l.length):sub cells off k=some ((l.take k).map dgv):=by
 obtain⟨b,a⟩:=sub_eq h;have e:=congrArg List.length a;rw[z2z,Jw,MD]at e;rw[BR om,List.map_take,a,Zf,pS om]
def Cv (h:DN Z v l) (W:l.length<=1000):
  Ev (gO 179 [v] Z) (fun r=>∃ v' l',r=⟨false,v',Z⟩/\DN Z v' l'/\(∃ k,l'=l.take k)/\Trm l'/\D9 l'=D9 l/\P4 v'=P4 v) ⟨⟩:=by
 obtain⟨a,c,rfl⟩:=h.shape;refine C8 Tryz.func179 rfl rfl ?_;refine gU1 (aI @A6 @D7) ?_
 refine Ko l.length (fun j q M=>M=Z/\∃ v',q.get 0=some v'/\DN Z v' (l.take (l.length-j))/\D9 (l.take (l.length-j))=D9 l/\P4 v'=P4 (.slice a l.length c))
  (fun r=>∃ q v' l',r=⟨.exit 0,q,Z⟩/\q.get 0=some v'/\DN Z v' l'/\(∃ k,l'=l.take k)/\Trm l'/\D9 l'=D9 l/\P4 v'=P4 (.slice a l.length c)) ?_ ?_ ?_
 ·exact⟨rfl,_,fR,by rw[Yy,Jf];exact h,by rw[Yy,Jf],rfl⟩
 ·rintro j q M V ⟨rfl,v',f,g,p,e⟩;obtain⟨m,R⟩:=nW (l.length-j);rw[R]at g p;have o:(l.take m).length=m:=DK om;rcases g with⟨rfl,S⟩|⟨b,off,sp,u,cells,rfl,N,i,E,z,s⟩
  ·have C:decide ((0:Int)<((0:Nat):Int))=false:=rfl;refine gU1 (aI @A6 (aI @D7 (aI f C))) ?_;rw[S]at p;exact⟨_,_,_,rfl,fR1 f,.inl ⟨rfl,rfl⟩,⟨0,rfl⟩,Trm.nil,p,by exact e⟩
  ·rw [o]at N s;rw[o]at f;cases m with
   | zero=>
     have C:decide ((0:Int)<((0:Nat):Int))=false:=rfl;refine gU1 (aI @A6 (aI @D7 (aI f C))) ?_;exact⟨_,_,[],rfl,fR1 f,.inr ⟨b,off,sp,u,cells,rfl,BH _,i,E,z,by rw[PZ]at s;exact s⟩,⟨0,by rw[PZ]⟩,Trm.nil,by rw[<- p,PZ],by exact e⟩
   | succ m=>
     obtain⟨d,g⟩:=I1 (l:=l) (k:=m) om;have F:(l.take (m+1))[m]? =some d:=by rw[List.getElem?_take,z1z om];exact g
     have D:=ie s F;unfold dgv at D;have J:decide ((0:Int)<((m+1:Nat):Int))=true:=dT;have K:((m+1:Nat):Int)-1=(m:Nat):=om;have y:Nat.blt m (m+1)=true:=by rw[BW];omega
     have G:sliceAt 1 (some ⟨b,off,sp⟩) 0 m u=some (.slice (some ⟨b,off,sp⟩) m u):=by
      rcases i with rfl|rfl
      ·rfl
      ·rw[iq];rfl
     cases A:decide ((d:Int)=0)with
     | true=>
       have I:d=0:=by have:=z6z A;omega
       refine gU1 (aI @A6 (aI @D7 (aI f (aI J (aI K (aI z (aI D (aI A (aI y G))))))))) ?_;have B:l.length-(j+1)=m:=om;have H:D9 (l.take m)=D9 l:=by rw[<- p,DV g,I,eF,j7]
       refine⟨om,rfl,_,fR,.inr ⟨b,off,sp,u,cells,by rw[B,DK om],by rw[B,DK om];omega,i,E,z,?_⟩,by rw[B];exact H,by exact e⟩;rw[B,DK om];have:=yx s (k:=m) (by rw[DK om];omega);rw[Zf,pS om]at this;exact this
     | false=>
       have I:d≠0:=by have:=z9z A;omega
       refine gU1 (aI @A6 (aI @D7 (aI f (aI J (aI K (aI z (aI D (aI A y)))))))) ?_;refine⟨_,_,l.take (m+1),rfl,fR1 f,.inr ⟨b,off,sp,u,cells,by rw[DK om],by rw[DK om];omega,i,E,z,by rw[DK om];exact s⟩,⟨_,rfl⟩,fun x L=>?_,p,by exact e⟩;rw[VF g,List.getLast?_concat]at L;cases L;exact I
 ·rintro r ⟨q,v',l',rfl,f,g,O,ht,p,e⟩;obtain⟨a',U,rfl⟩:=g.shape;refine gU1 (aI @A6 (aI @D7 (aI f @Tryz.results179))) ?_;exact⟨_,l',rfl,g,O,ht,p,e⟩
end
section
variable {x y:Nat}{Z:St}{v:Value}
def QN (x y:Nat):Int:=if x<y then -1 else if x=y then 0 else 1
def XH (h:x<y):QN x y= -1:=z1z h
def iZ:QN x x=0:=by unfold QN;rw[z0z om,z1z rfl]
def XI (h:y<x):QN x y=1:=by unfold QN;rw[z0z om,z0z om]
def DN.use {l:List Nat}(h:DN Z v l):∃ a c b off cells,v= .slice a l.length c/\(0<l.length->∃ sp,a=some ⟨b,off,sp⟩/\b<Z.n/\Z.row b=some cells)/\∀ k d,l[k]? =some d->sub cells (off+k) 1=some [.int .i64 ((d:Nat):Int)]:=by
 rcases h with⟨rfl,rfl⟩|⟨b,off,sp,c,cells,e,m,o,f,g,i⟩
 ·exact⟨none,0,0,0,[],rfl,fun h=>by simp at h,fun k d h=>by simp at h⟩
 ·exact⟨_,c,b,off,cells,e,fun _=>⟨sp,rfl,f,g⟩,fun k d j=>ie i j⟩
def ME {w:Value}{a b:List Nat}(R:DN Z v a) (S:DN Z w b) (F:Dig a) (G:Dig b) (U:Trm a) (V:Trm b) (la:a.length<=1000) (lb:b.length<=1000):
  Ev (gO 210 [v,w] Z) (fun r=>r=⟨false,.int .i64 (QN (D9 a) (D9 b)),Z⟩) ⟨⟩:=by
 obtain⟨K,L,W,X,M,rfl,I,J⟩:=R.use;obtain⟨ba,bc,bb,bo,bcs,rfl,b1,b2⟩:=S.use;refine C8 Tryz.func210 rfl rfl ?_;by_cases j:a.length=b.length
 ·have o:decide ((a.length:Int)=(b.length:Int))=true:=by simp[j]
  refine gU1 (aI @A6 (aI @D7 o)) ?_
  refine Ko a.length (fun k c H=>H=Z/\c.get 5=some (.int .i64 ((a.length:Int)-1-(k:Nat)))/\c.get 0=some (.slice K a.length L)/\c.get 1=some (.slice ba b.length bc)/\a.drop (a.length-k)=b.drop (a.length-k))
   (fun r=>(∃ c,r=⟨.exit 0,c,Z⟩/\a=b)\/∃ c,r=⟨.ret,c,Z⟩/\c.get 4=some (.int .i64 (QN (D9 a) (D9 b)))) ?_ ?_ ?_
  ·exact⟨rfl,by rw[show((a.length:Int)-1-((0:Nat):Int))=(a.length:Int)-1 by omega];exact(fR),fR,fR,by rw[Yy,iI,j,iI]⟩
  ·rintro k c H Y ⟨rfl,g,p,q,z⟩;by_cases A:k=a.length
   ·subst A;have u:((a.length:Int)-1-(a.length:Nat))= -1:=om;rw[u]at g;have h:decide ((-1:Int)<0)=true:=rfl;refine gU1 (aI @A6 (aI @D7 (aI g (aI h @lK)))) ?_;rw[Yz,NG,NG]at z;exact .inl ⟨_,rfl,z⟩
   ·obtain⟨m,hm⟩:=nW (a.length-1-k);have u:((a.length:Int)-1-(k:Nat))=((m:Nat):Int):=om;rw[u]at g;obtain⟨x,hx⟩:=I1 (l:=a) (k:=m) om;obtain⟨y,hy⟩:=I1 (l:=b) (k:=m) om;obtain⟨sp,rfl,h3,h4⟩:=I om;obtain⟨sp',rfl,h3',h4'⟩:=b1 om;have D:=J m x hx;have E:=b2 m y hy;have c1:decide (((m:Nat):Int)<0)=false:=dF;have B:Nat.blt m a.length=true:=by rw[BW];omega
    have C:Nat.blt m b.length=true:=by rw[BW];omega
    have f:a.drop (m+1)=b.drop (m+1):=by rw[show m+1=a.length-k by omega];exact z
    have N:((m:Nat):Int)-1=(a.length:Int)-1-((k+1:Nat):Int):=om;cases i:decide (((x:Nat):Int)=((y:Nat):Int))with
    | true=>
      have n:x=y:=by have:=z6z i;omega
      refine gU1 (aI @A6 (aI @D7 (aI g (aI p (aI q (aI c1 (aI B (aI C (aI h4 (aI h4' (aI D (aI E i)))))))))))) ?_;refine⟨om,rfl,by rw[<- N];exact(fR),fR1 p,fR1 q,?_⟩;rw[show a.length-(k+1)=m by omega,Oe (show m<a.length by omega),Oe (show m<b.length by omega),f];have:=(List.getElem?_eq_some_iff.1 hx).2;have:=(List.getElem?_eq_some_iff.1 hy).2;congr 1;omega
    | false=>
      have n:x≠y:=by have:=z9z i;omega
      rcases Nat.lt_or_gt_of_ne n with d|d
      ·have s:decide (((x:Nat):Int)<((y:Nat):Int))=true:=dT;refine gU1 (aI @A6 (aI @D7 (aI g (aI p (aI q (aI c1 (aI B (aI C (aI h4 (aI h4' (aI D (aI E (aI i s))))))))))))) ?_;exact .inr ⟨_,rfl,by rw[XH (VD F j hx hy f d)];exact(fR)⟩
      ·have s:decide (((x:Nat):Int)<((y:Nat):Int))=false:=dF;refine gU1 (aI @A6 (aI @D7 (aI g (aI p (aI q (aI c1 (aI B (aI C (aI h4 (aI h4' (aI D (aI E (aI i s))))))))))))) ?_;exact .inr ⟨_,rfl,by rw[XI (VD G j.symm hy hx f.symm d)];exact(fR)⟩
  ·rintro r (⟨c,rfl,e⟩|⟨c,rfl,O⟩)
   ·refine gU1 (a3N @A6 @D7 @Tryz.results210) ?_;rw[e,iZ]
   ·refine gU1 (aI @A6 (aI @D7 (aI O @Tryz.results210))) ?_;try exact⟨⟩
 ·have o:decide ((a.length:Int)=(b.length:Int))=false:=by simp;omega
  rcases Nat.lt_or_gt_of_ne j with d|d
  ·have h:decide ((a.length:Int)<(b.length:Int))=true:=dT;rw[XH (Trm.len F V d)];refine gU1 (aI @A6 (aI @D7 (aI o (aI h @Tryz.results210)))) ?_;try exact⟨⟩
  ·have h:decide ((a.length:Int)<(b.length:Int))=false:=dF;rw[XI (Trm.len G U d)];refine gU1 (aI @A6 (aI @D7 (aI o (aI h @Tryz.results210)))) ?_;try exact⟨⟩
end
def DN.rM {lo:Nat}{Z:St}{v:Value}{l:List Nat}(h:OL lo Z 1 v (l.map fun d=>[dgv d])):DN Z v l:=by
 have a:(l.map fun d=>[dgv d]).flatten=l.map dgv:=by
  clear h;induction l with
  |nil=>rfl
  |cons d l i=>rw[SR,UN,i];rfl
 obtain⟨k,⟨rfl,c⟩|⟨b,sp,rfl,g,j,e,f⟩⟩:=h
 ·exact .inl ⟨rfl,List.map_eq_nil_iff.1 c⟩
 ·rw[z2z];refine .inr ⟨b,0,sp,l.length,_,rfl,Bh _,g,e,A9 f,?_⟩;rw[a];exact C9 (by simp) (by simp)
def SW {x y a:Nat}(c:x<65536) (e:y<65536) (b:a<=1):∃ d be',d<65536/\be'<=1/\d+a+y=x+65536*be'/\((be'=1/\decide (((x:Nat):Int)-(a:Nat)-(y:Nat)<0)=true/\((x:Nat):Int)-(a:Nat)-(y:Nat)+65536=(d:Nat))\/(be'=0/\decide (((x:Nat):Int)-(a:Nat)-(y:Nat)<0)=false/\((x:Nat):Int)-(a:Nat)-(y:Nat)=(d:Nat))):=by
 by_cases h:x<a+y
 ·exact⟨x+65536-a-y,1,om,om,om,.inl ⟨rfl,dT,om⟩⟩
 ·exact⟨x-a-y,0,om,om,om,.inr ⟨rfl,dF,om⟩⟩
def VG {O A B P d b a x y:Nat}(h:O+B=A+b*P) (c:d+b+y=x+65536*a):O+P*d+(B+P*y)=A+P*x+a*(P*65536):=by
 have e:=congrArg (P*·) c;simp only[Oi]at e;rw[DG b P]at h;rw[DG a (P*65536),Gb];omega
def SB {Z:St}{v w:Value}{a b:List Nat}(ha:DN Z v a) (hb:DN Z w b) (da:Dig a) (db:Dig b) (la:a.length<=100) (lb:b.length<=100) (a7:D9 b<=D9 a) (a4:b.length<=a.length) :
  Ev (gO 211 [v,w] Z) (fun r=>∃ v' l Z',r=⟨false,v',Z'⟩/\Ext Z Z'/\DN Z' v' l/\Dig l/\Trm l/\D9 l=D9 a-D9 b/\l.length<=a.length/\∀ k,P4 v'=some k->Z.n<=k) ⟨⟩:=by
 obtain⟨aa,ac,ab,ao,a6,rfl,a1,a2⟩:=ha.use;obtain⟨ba,bc,bb,bo,bcs,rfl,b1,b2⟩:=hb.use;refine C8 Tryz.func211 rfl rfl ?_;refine gU1 (a15N @A6 @W8 @Y8 @X9 @V7 @Y0 @V8 @V9 @W0 @L7 @I4 @J5 @J3 @I5 @I6) ?_
 refine G8 a.length (fun i q m=>q.get 7=some (.int .i64 i)/\q.get 0=some (.slice aa a.length ac)/\q.get 1=some (.slice ba b.length bc)/\Ext Z m/\∃ B v o,q.get 6=some (.int .i64 ((B:Nat):Int))/\q.get 5=some v/\OL Z.n m 1 v (o.map fun d=>[dgv d])/\B<=1/\o.length=i/\Dig o/\D9 o+D9 (b.take i)=D9 (a.take i)+B*65536 ^ i)
  (fun r=>∃ q m v o,r=⟨.exit 0,q,m⟩/\Ext Z m/\q.get 5=some v/\OL Z.n m 1 v (o.map fun d=>[dgv d])/\o.length=a.length/\Dig o/\D9 o=D9 a-D9 b) ?_ ?_ ?_ ?_
 ·exact⟨fR,fR,fR,.refl _,0,_,[],fR,fR,OL.nil,om,rfl,Dig.nil,by simp[D9]⟩
 ·rintro i q m hi ⟨A,z,C,s,B,v,o,S,F,E,K,e,f,N⟩;have Y:=M4 hi;have hn:=s.n;obtain⟨x,hx⟩:=I1 hi;have W:=da.get hx;obtain⟨sp,rfl,h3,h4⟩:=a1 om;have s1:=a2 i x hx;have r1:=eT (s.row h3) h4;have l1:Nat.blt i a.length=true:=by rw[BW];omega
  have X:((i:Nat):Int)+1=((i+1:Nat):Int):=om;by_cases M:i<b.length
  ·obtain⟨y,hy⟩:=I1 M;have a5:=db.get hy;obtain⟨sp',rfl,h3',h4'⟩:=b1 om;have s2:=b2 i y hy;have r2:=eT (s.row h3') h4';have l2:Nat.blt i b.length=true:=by rw[BW];omega
   have p:decide (i<b.length)=true:=by simpa using M
   obtain⟨d,G,u,a0,L,D⟩:=SW W a5 K;have j:D9 (o++[d])+D9 (b.take (i+1))=D9 (a.take (i+1))+G*65536 ^ (i+1):=by
    rw[Gs,e,DV hx,DV hy,HG];exact VG N L
   rcases D with⟨rfl,H,J⟩|⟨rfl,H,J⟩
   ·refine gU1 (aI @A6 (aI @W8 (aI @Y8 (aI @X9 (aI @V7 (aI @Y0 (aI @V8 (aI @V9 (aI @W0 (aI @L7 (aI @I4 (aI @J5 (aI @J3 (aI @I5 (aI @I6 (aI A (aI z (aI C (aI S (aI F (aI Y (aI r1 (aI s1 (aI l1 (aI r2 (aI s2 (aI l2 (aI p (aI H J))))))))))))))))))))))))))))) ?_;have c:OL Z.n (m.new [Value.int .i64 ((d:Nat):Int)]) 1 v (o.map fun d=>[dgv d]):=OL.ext E (.new _ _);refine Y1 (row:=[dgv d]) (fun _ _ _ _=>Av) c (K0 om om) (C9 (by simp) (by simp)) (by rw[z2z];omega) (by simp;omega) ?_;rintro O R h g -;refine gU1 (aI @A6 (aI @W8 (aI @Y8 (aI @X9 (aI @V7 (aI @Y0 (aI @V8 (aI @V9 (aI @W0 (aI @L7 (aI @I4 (aI @J5 (aI @J3 (aI @I5 (aI @I6 (aI A X)))))))))))))))) ?_;exact⟨fR,fR1 z,fR1 C,g.ext (s.trans (.new _ _)) c nL,1,O,o++[d],fR,fR,by rw[HI];exact h,om,by rw[CU,e];rfl,f.snoc u,j⟩
   ·have I:decide (((d:Nat):Int)<0)=false:=dF;refine gU1 (aI @A6 (aI @W8 (aI @Y8 (aI @X9 (aI @V7 (aI @Y0 (aI @V8 (aI @V9 (aI @W0 (aI @L7 (aI @I4 (aI @J5 (aI @J3 (aI @I5 (aI @I6 (aI A (aI z (aI C (aI S (aI F (aI Y (aI r1 (aI s1 (aI l1 (aI r2 (aI s2 (aI l2 (aI p (aI H (aI I J)))))))))))))))))))))))))))))) ?_;have c:OL Z.n (m.new [Value.int .i64 ((d:Nat):Int)]) 1 v (o.map fun d=>[dgv d]):=OL.ext E (.new _ _);refine Y1 (row:=[dgv d]) (fun _ _ _ _=>Av) c (K0 om om) (C9 (by simp) (by simp)) (by rw[z2z];omega) (by simp;omega) ?_;rintro O R h g -;refine gU1 (aI @A6 (aI @W8 (aI @Y8 (aI @X9 (aI @V7 (aI @Y0 (aI @V8 (aI @V9 (aI @W0 (aI @L7 (aI @I4 (aI @J5 (aI @J3 (aI @I5 (aI @I6 (aI A X)))))))))))))))) ?_;exact⟨fR,fR1 z,fR1 C,g.ext (s.trans (.new _ _)) c nL,0,O,o++[d],fR,fR,by rw[HI];exact h,om,by rw[CU,e];rfl,f.snoc u,j⟩
  ·have p:decide (i<b.length)=false:=by simpa using M
   obtain⟨d,G,u,a0,L,D⟩:=SW (y:=0) W om K;have z0:((x:Nat):Int)-(B:Nat)-((0:Nat):Int)=((x:Nat):Int)-(B:Nat):=om;rw[z0]at D;have j:D9 (o++[d])+D9 (b.take (i+1))=D9 (a.take (i+1))+G*65536 ^ (i+1):=by
    have hh:=VG N L;rw[eF,j7,Og (show b.length<=i by omega)]at hh;rw[Gs,e,DV hx,Og (show b.length<=i+1 by omega),HG];exact hh
   rcases D with⟨rfl,H,J⟩|⟨rfl,H,J⟩
   ·refine gU1 (aI @A6 (aI @W8 (aI @Y8 (aI @X9 (aI @V7 (aI @Y0 (aI @V8 (aI @V9 (aI @W0 (aI @L7 (aI @I4 (aI @J5 (aI @J3 (aI @I5 (aI @I6 (aI A (aI z (aI C (aI S (aI F (aI Y (aI r1 (aI s1 (aI l1 (aI p (aI H J)))))))))))))))))))))))))) ?_;have c:OL Z.n (m.new [Value.int .i64 ((d:Nat):Int)]) 1 v (o.map fun d=>[dgv d]):=OL.ext E (.new _ _);refine Y1 (row:=[dgv d]) (fun _ _ _ _=>Av) c (K0 om om) (C9 (by simp) (by simp)) (by rw[z2z];omega) (by simp;omega) ?_;rintro O R h g -;refine gU1 (aI @A6 (aI @W8 (aI @Y8 (aI @X9 (aI @V7 (aI @Y0 (aI @V8 (aI @V9 (aI @W0 (aI @L7 (aI @I4 (aI @J5 (aI @J3 (aI @I5 (aI @I6 (aI A X)))))))))))))))) ?_;exact⟨fR,fR1 z,fR1 C,g.ext (s.trans (.new _ _)) c nL,1,O,o++[d],fR,fR,by rw[HI];exact h,om,by rw[CU,e];rfl,f.snoc u,j⟩
   ·have I:decide (((d:Nat):Int)<0)=false:=dF;refine gU1 (aI @A6 (aI @W8 (aI @Y8 (aI @X9 (aI @V7 (aI @Y0 (aI @V8 (aI @V9 (aI @W0 (aI @L7 (aI @I4 (aI @J5 (aI @J3 (aI @I5 (aI @I6 (aI A (aI z (aI C (aI S (aI F (aI Y (aI r1 (aI s1 (aI l1 (aI p (aI H (aI I J))))))))))))))))))))))))))) ?_;have c:OL Z.n (m.new [Value.int .i64 ((d:Nat):Int)]) 1 v (o.map fun d=>[dgv d]):=OL.ext E (.new _ _);refine Y1 (row:=[dgv d]) (fun _ _ _ _=>Av) c (K0 om om) (C9 (by simp) (by simp)) (by rw[z2z];omega) (by simp;omega) ?_;rintro O R h g -;refine gU1 (aI @A6 (aI @W8 (aI @Y8 (aI @X9 (aI @V7 (aI @Y0 (aI @V8 (aI @V9 (aI @W0 (aI @L7 (aI @I4 (aI @J5 (aI @J3 (aI @I5 (aI @I6 (aI A X)))))))))))))))) ?_;exact⟨fR,fR1 z,fR1 C,g.ext (s.trans (.new _ _)) c nL,0,O,o++[d],fR,fR,by rw[HI];exact h,om,by rw[CU,e];rfl,f.snoc u,j⟩
 ·rintro q m ⟨A,z,C,s,B,v,o,S,F,E,K,e,f,N⟩;refine gU1 (aI @A6 (aI @W8 (aI @Y8 (aI @X9 (aI @V7 (aI @Y0 (aI @V8 (aI @V9 (aI @W0 (aI @L7 (aI @I4 (aI @J5 (aI @J3 (aI @I5 (aI @I6 (aI A (aI z @Kt))))))))))))))))) ?_;refine⟨_,_,v,o,rfl,s,fR1 F,E,e,f,?_⟩;rw[Jf,Og a4]at N;have h1:=Ku f;rw[e]at h1;rcases(show B=0\/B=1 by omega)with rfl|rfl
  ·omega
  ·rw[RN]at N;omega
 rintro r ⟨q,m,v,o,rfl,s,F,E,e,f,N⟩;have V:=DN.rM E;obtain⟨va,vc,rfl⟩:=V.shape;refine gU1 (aI @A6 (aI @W8 (aI @Y8 (aI @X9 (aI @V7 (aI @Y0 (aI @V8 (aI @V9 (aI @W0 (aI @L7 (aI @I4 (aI @J5 (aI @J3 (aI @I5 (aI @I6 F))))))))))))))) ?_;refine(Cv V om).mono ?_;rintro r ⟨v',l',rfl,U,⟨k,hk⟩,ht,j,a3⟩;obtain⟨va',vc',rfl⟩:=U.shape;refine gU1 (a3N @A6 @D7 @Tryz.results211) ?_;exact⟨_,l',_,rfl,s,U,by rw[hk];exact f.take k,ht,by rw[j,N],by rw[hk,Jw,e];omega,fun k hk=>(E.blk (by rw[<- a3];exact hk)).1⟩
section
variable {l:List Nat}{y x k j V Q P c o V':Nat}
def Gl (x:Nat) (b:List Nat) (i:Nat) (out:List Nat):Nat->List Nat×Nat
 |0=>(out,0)
 |k+1=>((Gl x b i out k).1.set (i+k) (((Gl x b i out k).1.getD (i+k) 0+x*b.getD k 0+(Gl x b i out k).2) % 65536),((Gl x b i out k).1.getD (i+k) 0+x*b.getD k 0+(Gl x b i out k).2) / 65536)
def HR (a b:List Nat):Nat->List Nat
 |0=>List.replicate (a.length+b.length) 0
 |i+1=>(Gl (a.getD i 0) b i (HR a b i) b.length).1.set (i+b.length) (Gl (a.getD i 0) b i (HR a b i) b.length).2
def getD_at (h:l[k]? =some x):l.getD k 0=x:=by rw[List.getD,h];rfl
def kS (h:Dig l) (b:y<65536):Dig (l.set j y):=fun x a=>by
 rcases AN9 a with a|rfl
 ·exact h x a
 ·exact b
def Il (h:Dig l) (k:Nat):l.getD k 0<65536:=by
 cases a:l[k]? with
 |none=>simp[List.getD,a]
 |some x=>rw[getD_at a];exact h x (Ag a)
def getD_set_ne (h:j≠k):(l.set j y).getD k 0=l.getD k 0:=by
 rw[List.getD,List.getD,List.getElem?_set_ne h]
def Kd (x:Nat) (b:List Nat) (i:Nat) (out:List Nat):∀ k,(Gl x b i out k).1.length=out.length
 |0=>rfl
 |k+1=>by rw[Gl,qW,Kd x b i out k]
def kK (a:x<65536) (b:y<65536):x*y<=4294836225:=by
 have:=IT (Nat.le_of_lt_succ a) (Nat.le_of_lt_succ b);omega
def YL {x:Nat}{b:List Nat}{i:Nat}{out:List Nat}(e:x<65536) (a:∀ k,b.getD k 0<65536) (d:Dig out):∀ k,Dig (Gl x b i out k).1/\(Gl x b i out k).2<65536
 |0=>⟨d,by show 0<65536;omega⟩
 | k+1=>by
   obtain⟨h1,h2⟩:=YL (i:=i) e a d k;have f:=Il h1 (i+k);have g:=kK e (a k);rw[Gl];exact⟨kS h1 om,by show _ / 65536<65536;omega⟩
def HT (a b:List Nat):∀ i,(HR a b i).length=a.length+b.length
 |0=>by simp[HR]
 |i+1=>by rw[HR,qW,Kd,HT a b i]
def YM {a b:List Nat}(d:∀ k,a.getD k 0<65536) (e:∀ k,b.getD k 0<65536):∀ i,Dig (HR a b i)
 | 0=>fun x hx=>by
   rw[HR]at hx;obtain⟨_,rfl⟩:=List.mem_replicate.1 hx;omega
 | i+1=>by
   obtain⟨f,g⟩:=YL (i:=i) (d i) e (YM d e i) b.length;rw[HR];exact kS f g
def Tw:∀ {l:List Nat}{j:Nat}(y:Nat),j<l.length->D9 (l.set j y)+65536 ^ j*l.getD j 0=D9 l+65536 ^ j*y
 | [],j,y,h=>by simp at h
 | d::l,0,y,_=>by
   rw[List.set_cons_zero,y9,y9,jK,RN,RN];show y+65536*D9 l+d=_;omega
 | d::l,j+1,y,h=>by
   have ih:=Tw (l:=l) (j:=j) y (by simpa using h);rw[List.set_cons_succ,y9,y9,HG];show d+65536*D9 (l.set j y)+65536 ^ j*65536*l.getD j 0=_;have e:=congrArg (65536*·) ih;simp only[Oi]at e;rw[<- Gb,<- Gb,DG 65536 (65536 ^ j)]at e;omega
def WD:∀ n,D9 (List.replicate n 0)=0
 |0=>rfl
 |n+1=>by rw[AP8,y9,WD n]
def oY (n k:Nat):(List.replicate n 0).getD k 0=0:=by
 rw[List.getD,List.getElem?_replicate];by_cases h:k<n
 ·rw[z1z h];rfl
 ·rw[z0z h];rfl
def Tx (x:Nat) (b:List Nat) (i:Nat) (out:List Nat):∀ k j,i+k<=j->(Gl x b i out k).1.getD j 0=out.getD j 0
 |0,j,h=>rfl
 |k+1,j,h=>by rw[Gl,getD_set_ne om,Tx x b i out k j om]
def xL {M D R:Nat}(h:V+P*c=Q) (b:V'+P*o=V+P*R) (a:65536*D+R=o+M+c):V'+P*65536*D=Q+P*M:=by
 have e:=congrArg (P*·) a;simp only[Oi]at e;rw[<- Gb]at e;omega
def AJ6 (h:V+P*c=Q) (a:V'+P*o=V+P*((o+x*y+c) % 65536)):V'+P*65536*((o+x*y+c) / 65536)=Q+P*(x*y) :=
 xL h a (Sq ..)
def cS {x:Nat}{b:List Nat}{i:Nat}{out:List Nat}(d:i+b.length<=out.length):∀ k,k<=b.length->D9 (Gl x b i out k).1+65536 ^ (i+k)*(Gl x b i out k).2=D9 out+65536 ^ i*(x*D9 (b.take k))
 |0,_=>by simp[Gl,D9]
 | k+1,h=>by
   have ih:=cS (x:=x) d k om;obtain⟨y,a⟩:∃ y,b[k]? =some y:=⟨_,List.getElem?_eq_getElem om⟩
   have e:=Tw (l:=(Gl x b i out k).1) (j:=i+k) (((Gl x b i out k).1.getD (i+k) 0+x*b.getD k 0+(Gl x b i out k).2) % 65536) (by rw[Kd];omega);rw[Gl,<- UE,HG,DV a];have:=AJ6 ih e;rw[this,getD_at a,Oi,Oi,Nat.pow_add];rw[show 65536 ^ i*(x*(65536 ^ k*y))=65536 ^ i*65536 ^ k*(x*y)from by rw[Nat.mul_left_comm x,Gb]];omega
def cT (a b:List Nat):∀ i j,i+b.length<=j->(HR a b i).getD j 0=0
 |0,j,_=>oY _ _
 |i+1,j,h=>by rw[HR,getD_set_ne om,Tx _ _ _ _ _ _ om,cT a b i j om]
def cA {a b:List Nat}:∀ i,i<=a.length->D9 (HR a b i)=D9 (a.take i)*D9 b
 |0,_=>by rw[HR,WD,PZ,Sn,GH]
 | i+1,h=>by
   obtain⟨x,hx⟩:∃ x,a[i]? =some x:=⟨_,List.getElem?_eq_getElem om⟩
   have e:=cS (x:=a.getD i 0) (b:=b) (i:=i) (out:=HR a b i) (by rw[HT];omega) b.length nL;have d:=Tw (l:=(Gl (a.getD i 0) b i (HR a b i) b.length).1) (j:=i+b.length) (Gl (a.getD i 0) b i (HR a b i) b.length).2 (by rw[Kd,HT];omega);rw[Tx _ _ _ _ _ _ nL,cT _ _ _ _ nL,eF,j7]at d;rw[HR,d,e,cA i om,Jf,DV hx,getD_at hx,UF,Gb]
end
section
variable {l:List Nat}{j:Nat}{Z:St}
def MF {y:Nat}(h:j<l.length):N8 (l.map dgv) j [.int .i64 (y:Int)]=some ((l.set j y).map dgv):=by
 rw[Rw (by simp;omega),List.map_set,List.set_eq_take_append_cons_drop,z1z (by simpa using h)];simp[dgv]
def Ae3 (h:j<l.length):sub (l.map dgv) j 1=some [.int .i64 ((l.getD j 0:Nat):Int)]:=by
 rw[BR (by simp;omega),Oe (by simpa using h)];simp[List.getD,List.getElem?_eq_getElem h,dgv]
def Wn:∀ n,rep [.int .i64 0] n=(List.replicate n 0).map dgv
 |0=>rfl
 |n+1=>by rw[Zj,Wn n];rfl
def DN.Wo {b:Nat}(a:b<Z.n) (c:Z.row b=some (l.map dgv)):DN Z (.slice (some ⟨b,0,none⟩) l.length l.length) l :=
 .inr ⟨b,0,none,_,_,rfl,Bh _,.inl rfl,a,c,C9 (by simp) (by simp)⟩
def Vo {v w:Value}{a b:List Nat}(ha:DN Z v a) (hb:DN Z w b) (da:Dig a) (db:Dig b) (la:a.length<=100) (lb:b.length<=100):
  Ev (gO 212 [v,w] Z) (fun r=>∃ v' l Z',r=⟨false,v',Z'⟩/\Ext Z Z'/\DN Z' v' l/\Dig l/\Trm l/\D9 l=D9 a*D9 b/\l.length<=a.length+b.length) ⟨⟩:=by
 have z:∀ k,a.getD k 0<65536:=Il da;have s:∀ k,b.getD k 0<65536:=Il db;obtain⟨va,vc,vb,vo,b2,rfl,h1,h2⟩:=ha.use;obtain⟨wa,wc,wb,wo,wcs,rfl,k1,k2⟩:=hb.use;have R:((a.length:Int)+(b.length:Int))=((a.length+b.length:Nat):Int):=om;have WL:rep [.int .i64 0] (a.length+b.length)=(HR a b 0).map dgv:=Wn _;refine C8 Tryz.func212 rfl rfl ?_;refine gU1 (aI @A6 (aI @D7 (aI R WL))) ?_
 refine G8 a.length (fun i d Z'=>d.get 5=some (.slice (some ⟨Z.n,0,none⟩) (a.length+b.length) (a.length+b.length))/\d.get 6=some (.int .i64 (i:Nat))/\d.get 0=some (.slice va a.length vc)/\d.get 1=some (.slice wa b.length wc)/\Ext Z Z'/\Z.n<Z'.n/\Z'.A7 Z.n=some ((HR a b i).map dgv))
  (fun r=>∃ d Z',r=⟨.exit 0,d,Z'⟩/\d.get 5=some (.slice (some ⟨Z.n,0,none⟩) (a.length+b.length) (a.length+b.length))/\Ext Z Z'/\Z.n<Z'.n/\Z'.A7 Z.n=some ((HR a b a.length).map dgv)) ?_ ?_ ?_ ?_
 ·exact⟨fR,fR,fR,fR,eX,by simp,cL⟩
 ·rintro i d Z1 hi ⟨e,h,f,g,W,a2,a4⟩;have ca:decide (i<a.length)=true:=by simpa using hi
  obtain⟨x,L⟩:=I1 hi;have hx:=getD_at L;have xl:=z i;rw[hx]at xl;obtain⟨sp,rfl,l3,l4⟩:=h1 om;have l7:=h2 i _ L;obtain⟨tr,htr⟩:=nW (Gl x b i (HR a b i));have I:∀ k,Dig (tr k).1/\(tr k).2<65536:=fun k=>by rw[<- htr];exact YL xl s (YM z s i) k
  have F:∀ k,(tr k).1.length=a.length+b.length:=fun k=>by rw[<- htr,Kd,HT]
  have J:(tr 0)=(HR a b i,0):=by rw[<- htr];rfl
  have a5:∀ k,tr (k+1)=((tr k).1.set (i+k) (((tr k).1.getD (i+k) 0+x*b.getD k 0+(tr k).2) % 65536),((tr k).1.getD (i+k) 0+x*b.getD k 0+(tr k).2) / 65536):=fun k=>by rw[<- htr];rfl
  refine gU1 (aI @A6 (aI @D7 (aI e (aI h (aI f (aI g ca)))))) ?_
  refine G8 b.length (fun k d Z'=>d.get 5=some (.slice (some ⟨Z.n,0,none⟩) (a.length+b.length) (a.length+b.length))/\d.get 6=some (.int .i64 (i:Nat))/\d.get 7=some (.int .i64 ((tr k).2:Nat))/\d.get 8=some (.int .i64 (k:Nat))/\d.get 0=some (.slice (some ⟨vb,vo,sp⟩) a.length vc)/\d.get 1=some (.slice wa b.length wc)/\Ext Z Z'/\Z.n<Z'.n/\Z'.A7 Z.n=some ((tr k).1.map dgv))
   (fun r=>∃ d Z',r=⟨.exit 2,d,Z'⟩/\d.get 5=some (.slice (some ⟨Z.n,0,none⟩) (a.length+b.length) (a.length+b.length))/\d.get 6=some (.int .i64 (i:Nat))/\d.get 7=some (.int .i64 ((tr b.length).2:Nat))/\d.get 0=some (.slice (some ⟨vb,vo,sp⟩) a.length vc)/\d.get 1=some (.slice wa b.length wc)/\Ext Z Z'/\Z.n<Z'.n/\Z'.A7 Z.n=some ((tr b.length).1.map dgv)) ?_ ?_ ?_ ?_
  ·exact⟨fR1 e,fR1 h,by rw[J];exact(fR),fR,fR1 f,fR1 g,W,a2,by rw[J];exact a4⟩
  ·rintro k d Z' H ⟨e,h,A,V,f,g,m,u,p⟩;have cb:decide (k<b.length)=true:=by simpa using H
   obtain⟨y,M⟩:=I1 H;have hy:=getD_at M;have yl:=s k;rw[hy]at yl;obtain⟨sp',rfl,l3',l4'⟩:=k1 om;have l5:=eT (m.row l3) l4;have a7:=eT (m.row l3') l4';have a8:=k2 k _ M;have C:i+k<(tr k).1.length:=by rw[F];omega
   obtain⟨ts,S⟩:=nW ((tr k).1);obtain⟨c,hc⟩:=nW ((tr k).2);have a0:=(I k).2;have K:=(I k).1;have q:=a5 k;have a1:=F k;rw[S]at p C K q a1;rw[hc]at A a0 q;obtain⟨o,hod⟩:=nW (ts.getD (i+k) 0);have ol:o<65536:=by rw[<- hod];exact Il K _
   obtain⟨N,X⟩:=nW (x*y);have a9:N<=4294836225:=by rw[<- X];exact kK xl yl
   have Y:(x:Int)*(y:Int)=(N:Int):=by rw[<- X];exact(Int.natCast_mul x y).symm
   obtain⟨D,O⟩:=nW (o+N+c);rw[hy,hod,X,O]at q;have so:=Ae3 C;rw[hod]at so;have a3:=A9 p;have E:((i:Int)+(k:Int))=((i+k:Nat):Int):=om;have B:Nat.blt (i+k) (a.length+b.length)=true:=eg om;have f2:((o:Int)+(N:Int)+(c:Int))=(D:Int):=om;have f3:(D:Int).tmod 65536=((D % 65536:Nat):Int):=rfl;have f4:(D:Int).tdiv 65536=((D / 65536:Nat):Int):=rfl;have U:N8 (ts.map dgv) (i+k) [.int .i64 ((D % 65536:Nat):Int)]=some ((ts.set (i+k) (D % 65536)).map dgv):=MF C;refine gU1 (aI @A6 (aI @D7 (aI e (aI h (aI A (aI V (aI f (aI g (aI cb (aI E (aI B (aI a3 (aI so (aI l5 (aI l7 (aI a7 (aI a8 (aI Y (aI f2 (aI f3 (aI f4 (aI p U)))))))))))))))))))))) ?_;refine⟨trivial,trivial,by rw[q],trivial,trivial,trivial,m.upd nL _,by simpa using u,by rw[q]⟩
  ·rintro d Z' ⟨e,h,A,V,f,g,m,u,p⟩;refine gU1 (aI @A6 (aI @D7 (aI e (aI h (aI A (aI V (aI f g))))))) ?_;exact⟨_,_,rfl,fR1 e,fR1 h,fR1 A,fR1 f,fR1 g,m,u,p⟩
  rintro r ⟨d,Z',rfl,e,h,A,f,g,m,u,p⟩;have E:((i:Int)+(b.length:Int))=((i+b.length:Nat):Int):=om;have B:Nat.blt (i+b.length) (a.length+b.length)=true:=eg om;have U:N8 ((tr b.length).1.map dgv) (i+b.length) [.int .i64 ((tr b.length).2:Nat)]=some (((tr b.length).1.set (i+b.length) (tr b.length).2).map dgv):=MF (by rw[F];omega);refine gU1 (aI @A6 (aI @D7 (aI e (aI h (aI A (aI f (aI g (aI E (aI B (aI p U)))))))))) ?_;refine⟨trivial,trivial,trivial,trivial,m.upd nL _,by simpa using u,?_⟩;rw[show HR a b (i+1)=(tr b.length).1.set (i+b.length) (tr b.length).2 from by rw[HR,hx,htr]]
 ·rintro i Z' ⟨e,h,f,g,m,u,p⟩;refine gU1 (aI @A6 (aI @D7 (aI e (aI h (aI f g))))) ?_;exact⟨_,_,rfl,fR1 e,m,u,p⟩
 rintro r ⟨d,Z',rfl,e,m,u,p⟩;have O:=DN.Wo u (A9 p);rw[HT]at O;refine gU1 (aI @A6 (aI @D7 e)) ?_;refine(Cv O (by rw[HT];omega)).mono ?_;rintro r ⟨v',l',rfl,G,⟨k,H⟩,ht,a6,-⟩;obtain⟨b0,b1,rfl⟩:=G.shape;refine gU1 (a3N @A6 @D7 @Tryz.results212) ?_;exact⟨_,l',_,rfl,m,G,by rw[H];exact(YM z s _).take k,ht,by rw[a6,cA _ nL,Jf],by rw[H,Jw,HT];omega⟩
end
section
variable {x d y B r:Nat}{Z:St}{v:Value}{a:List Nat}
def Dig.one (h:d<65536):Dig [d]:=fun x b=>by rw[JB]at b;rw[b];exact h
def AN8 (h:DN Z v a) (i:Dig a) (p:d<65536) (q:a.length<=100):
  Ev (gO 213 [v,.int .i64 (d:Int)] Z) (fun r=>∃ v' l Z',r=⟨false,v',Z'⟩/\Ext Z Z'/\DN Z' v' l/\Dig l/\Trm l/\D9 l=D9 a*d/\l.length<=a.length+1) ⟨⟩:=by
 obtain⟨s,u,f⟩:=h.shape;subst f;have g:Ext Z (Z.new [Value.int .i64 (d:Int)]):= .new _ _;have e:DN (Z.new [Value.int .i64 (d:Int)]) (.slice (some ⟨Z.n,0,none⟩) 1 1) [d]:=DN.Wo (l:=[d]) (by simp) (K0 nL nL);refine C8 Tryz.func213 rfl rfl ?_;refine gU1 (aI @A6 @D7) ?_;refine(Vo (h.mono g) e i (Dig.one p) q (by simp)).mono ?_;rintro r ⟨v',l,Z',rfl,c,b,j,k,m,o⟩;obtain⟨va',vc',rfl⟩:=b.shape;refine gU1 (a3N @A6 @D7 @Tryz.results213) ?_;exact⟨_,l,_,rfl,g.trans c,b,j,k,by rw[m,y9,Sn,eF,j7],by simpa using o⟩
def DN.src {l:List Nat}(h:DN Z v l):Az Z 1 v=some (l.length,l.map dgv):=by
 rcases h with⟨rfl,rfl⟩|⟨b,off,sp,c,cells,rfl,g,i,j,e,f⟩
 ·rfl
 ·rw[Ox,Eh,e,D5,Ip,f,D5]
def AV3 {Z:St}{v:Value}{l:List Nat}{x:Nat}{Q:Value×St->Prop}{o:Hd Q}(m:DN Z v l) (g:l.length<=1000)
  (h:∀ v' Z',DN Z' v' (x::l)->Ext Z Z'->(∀ k,P4 v'=some k->Z.n<=k)->Q (v',Z')):Ev (Dj Tryz.prog (Z.new [Value.int .i64 (x:Int)]) 22 (.slice (some ⟨Z.n,0,none⟩) 1 1) v) Q o:=by
 have c:Ext Z (Z.new [Value.int .i64 (x:Int)]):= .new _ _;have f:=m.mono c;have b:(Z.new [Value.int .i64 (x:Int)]).A7 Z.n=some [dgv x]:=W3 nL nL;rw[Av,f.src,D5,Pv];by_cases j:l.length=0
 ·obtain rfl:l=[]:=WI j;rw[show Nat.ble (1+([]:List Nat).length) 1=true from rfl,Hq,iw,TQ,b,D5];rw[show N8 [dgv x] (0+1*1) (([]:List Nat).map dgv)=some [dgv x]from rfl,D5,D5,N3];refine h _ _ ?_ (c.upd nL _) fun k e=>by cases e;exact Bh _
  exact DN.Wo (l:=[x]) (by simp) (A9 W4)
 ·have i:Nat.ble ((1+l.length)*9) room=true:=Oz (by show _<=4294967296;omega);rw[SZ om,Cp,i,DA,Zh,Eh,A9 b,D5];rw[show sub [dgv x] 0 (1*1)=some [dgv x]from rfl,D5,N3];refine h _ _ ?_ (c.trans (.new _ _)) fun k e=>by cases e;simp
  refine .inr ⟨_,0,some 1,1+l.length,_,by rw[Ap,AP2],by rw[Ap];omega,.inr rfl,by simp,A9 (W3 nL nL),?_⟩;exact C9 (by simp) (by simp)
def yJ:decide (QN x y<0)=decide (x<y):=by
 unfold QN;by_cases h:x<y
 ·rw[z1z h];simp[h]
 ·rw[z0z h];by_cases b:x=y
  ·rw[z1z b];simp[h]
  ·rw[z0z b];simp[h]
def iK:decide ((0:Int)<QN x y)=decide (y<x):=by
 unfold QN;by_cases h:x<y
 ·rw[z1z h];simp;omega
 ·rw[z0z h];by_cases b:x=y
  ·rw[z1z b];simp;omega
  ·rw[z0z b];simp;omega
def ZA {A q:Nat}(b:r<B) (h:A=q*B+r):q=A / B/\r=A % B:=by
 subst h;rw[DG];constructor
 ·rw[Nat.mul_add_div om,ug b,j7]
 ·rw[Nat.mul_add_mod,RU b]
def lL {b R low c:Nat}(g:R=x+65536*r) (f:low*B<=R) (e:c=R-B*low):x+65536*(b*B+r)=(low+65536*b)*B+c:=by
 rw[DG B low]at e;rw[UF,Oi,Gb];omega
def Trm.length_le {b:List Nat}(e:Dig a) (f:Trm b) (h:D9 b<=D9 a):b.length<=a.length:=by
 rcases AU a.length b.length with c|c
 ·have:=Trm.len e f c;omega
 ·exact c
end
def set_drop {a:Type}{l:List a}{m:Nat}{y:a}(h:m<l.length):(l.set m y).drop m=y::l.drop (m+1):=by
 rw[Oe (by simpa using h),List.getElem_set_self,List.drop_set_of_lt om]
def DN.upd {Z:St}{v:Value}{l:List Nat}{c:Nat}{cs:List Value}(h:DN Z v l) (n:P4 v≠some c):DN (Z.upd c cs) v l:=by
 rcases h with h|⟨b,off,sp,d,cells,f,g,i,j,k,m⟩
 ·exact .inl h
 ·subst f;have a:b≠c:=fun e=>n (by rw[e];rfl);exact .inr ⟨b,off,sp,d,cells,rfl,g,i,j,by rw[BS (show(Z.upd c cs).h.get b=Z.h.get b by rw[Aa,z0z a])];exact k,m⟩
def We {Z:St}{v w:Value}{a b:List Nat}(ha:DN Z v a) (hb:DN Z w b) (da:Dig a) (X:Dig b) (tb:Trm b) (la:a.length<=50) (lb:b.length<=50) (h0:0<D9 b) :
  Ev (gO 181 [v,w] Z) (fun r=>∃ v1 v2 q l Z',r=⟨false,.tuple ⟨[v1,v2]⟩,Z'⟩/\Ext Z Z'/\DN Z' v1 q/\DN Z' v2 l/\Dig q/\Dig l/\Trm q/\Trm l/\D9 q=D9 a / D9 b/\D9 l=D9 a % D9 b/\q.length<=a.length/\l.length<=b.length) ⟨⟩:=by
 obtain⟨aa,ac,ab,ao,g2,e6,a1,a2⟩:=ha.use;obtain⟨wa,wc,hsb⟩:=hb.shape;subst e6 hsb;obtain⟨B,hB⟩:=nW (D9 b);rw[hB]at h0;have WL:rep [.int .i64 0] a.length=(List.replicate a.length 0).map dgv:=Wn _;refine C8 Tryz.func181 rfl rfl ?_;refine gU1 (aI @A6 (aI @D7 WL)) ?_
 refine Ko a.length (fun k c s=>c.get 8=some (.int .i64 ((a.length:Int)-1-(k:Nat)))/\c.get 0=some (.slice aa a.length ac)/\c.get 1=some (.slice wa b.length wc)/\c.get 6=some (.slice (some ⟨Z.n,0,none⟩) a.length a.length)/\Ext Z s/\Z.n<s.n /\
   ∃ J r Q,c.get 7=some J/\DN s J r/\(∀ k,P4 J=some k->Z.n<k)/\Dig r/\Trm r/\D9 r<B/\s.A7 Z.n=some (Q.map dgv)/\Q.length=a.length/\Dig Q/\D9 (a.drop (a.length-k))=D9 (Q.drop (a.length-k))*B+D9 r)
  (fun r=>∃ c s J l Q,r=⟨.exit 0,c,s⟩/\Ext Z s/\Z.n<s.n/\c.get 6=some (.slice (some ⟨Z.n,0,none⟩) a.length a.length)/\c.get 7=some J/\DN s J l/\Dig l/\Trm l/\D9 l<B/\s.A7 Z.n=some (Q.map dgv)/\Q.length=a.length/\Dig Q/\D9 a=D9 Q*B+D9 l) ?_ ?_ ?_
 ·refine⟨by rw[show((a.length:Int)-1-((0:Nat):Int))=(a.length:Int)-1 by omega];exact(fR),fR,fR,fR,.new _ _,by simp,.slice none 0 0,[],List.replicate a.length 0,fR,.inl ⟨rfl,rfl⟩,fun k hk=>(by cases hk),.nil,.nil,h0,W3 nL nL,by simp,?_,?_⟩
  ·intro x hx;obtain⟨_,rfl⟩:=List.mem_replicate.1 hx;omega
  ·rw[Yy,iI,iJ (by simp)];simp[D9]
 ·rintro k c s hk ⟨f,h,i,d,Y,hn,J,r,Q,j,hr,h5,dr,tr,e4,hQ,G,dQ,o⟩;by_cases e0:k=a.length
  ·subst e0;have e1:((a.length:Int)-1-(a.length:Nat))= -1:=om;rw[e1]at f;have d2:decide ((-1:Int)<0)=true:=rfl;refine gU1 (aI @A6 (aI @D7 (aI f (aI d2 @lK)))) ?_;rw[Yz,NG,NG]at o;exact⟨_,_,J,r,Q,rfl,Y,hn,fR1 d,fR1 j,hr,dr,tr,e4,hQ,G,dQ,o⟩
  ·obtain⟨m,hm⟩:=nW (a.length-1-k);have e1:((a.length:Int)-1-(k:Nat))=((m:Nat):Int):=om;rw[e1]at f;rw[show a.length-k=m+1 by omega]at o;obtain⟨x,hx⟩:=I1 (l:=a) (k:=m) om;have xl:=da.get hx;obtain⟨sp,rfl,U,V⟩:=a1 om;have s1:=a2 m x hx;have r1:=eT (Y.row U) V;have c1:decide (((m:Nat):Int)<0)=false:=dF;have l1:Nat.blt m a.length=true:=by rw[BW];omega
   have lr:r.length<=b.length:=Trm.length_le X tr om;obtain⟨ra,rc,h6⟩:=hr.shape;refine gU1 (aI @A6 (aI @W8 (aI @Y8 (aI @X9 (aI @V7 (aI @Y0 (aI @V8 (aI @V9 (aI @W0 (aI @L7 (aI @I4 (aI @J5 (aI @J3 (aI @I5 (aI @I6 (aI f (aI h (aI i (aI d (aI j (aI c1 (aI r1 (aI s1 (aI l1 @Yd)))))))))))))))))))))))) ?_;refine AV3 hr om ?_;rintro v2 K a0 M d6;obtain⟨w2,c2,hs2⟩:=a0.shape;subst hs2;refine gU1 (aI @A6 (aI @D7 (aI f (aI h (aI i d))))) ?_;refine(Cv a0 (by rw[Ap];omega)).mono ?_;rintro z ⟨v3,l3,rfl,I,⟨kk,A⟩,b2,e9,b5⟩;obtain⟨w3,c3,hs3⟩:=I.shape;subst hs3;have E:Dig l3:=by rw[A];exact(dr.cons xl).take kk
   have h8:l3.length<=r.length+1:=by rw[A,Jw,Ap];omega
   obtain⟨R,hR⟩:=nW (D9 l3);have d5:R=x+65536*D9 r:=by rw[<- hR,e9,y9]
   have g4:R<65536*B:=om;have L:=Y.trans M;refine gU1 (aI @A6 (aI @D7 (aI f (aI h (aI i d))))) ?_;refine(ME I (hb.mono L) E X b2 tb om om).mono ?_;rintro z rfl;rw[hR,hB];have a9:Z.n<K.n:=z5z hn M.n;have d3:K.A7 Z.n=some (Q.map dgv):=by rw[F7 (M.same _ hn)];exact hQ
   have d7:P4 (.slice w3 l3.length c3)≠some Z.n:=fun e=>by
    have:=d6 Z.n (by rw[<- b5];exact e);omega
   have a8:m<Q.length:=om;cases hc:decide (R<B)
   all_goals
    refine gU1 (aI @A6 (aI @D7 (aI f (aI h (aI i (aI d (aI @yJ hc))))))) ?_
    refine Bt (fun n c D=>∃ lo hi,hi-lo<=n/\c.get 9=some (.int .i64 ((lo:Nat):Int))/\c.get 10=some (.int .i64 ((hi:Nat):Int))/\c.get 8=some (.int .i64 ((m:Nat):Int))/\c.get 0=some (.slice (some ⟨ab,ao,sp⟩) a.length ac)/\c.get 1=some (.slice wa b.length wc)/\c.get 6=some (.slice (some ⟨Z.n,0,none⟩) a.length a.length)/\c.get 7=some (.slice w3 l3.length c3)/\Ext K D/\lo<hi/\hi<=65536/\B*lo<=R/\R<B*hi)
     (fun r=>∃ c D lo,r=⟨.exit 2,c,D⟩/\c.get 9=some (.int .i64 ((lo:Nat):Int))/\c.get 8=some (.int .i64 ((m:Nat):Int))/\c.get 0=some (.slice (some ⟨ab,ao,sp⟩) a.length ac)/\c.get 1=some (.slice wa b.length wc)/\c.get 6=some (.slice (some ⟨Z.n,0,none⟩) a.length a.length)/\c.get 7=some (.slice w3 l3.length c3)/\Ext K D/\lo<65536/\B*lo<=R/\R<B*(lo+1)) 65536 ?_ ?_ ?_
    ·have d9:=hc;simp only[EO,Ob]at d9
     first
     |exact⟨0,65536,om,fR,fR,fR1 f,fR1 h,fR1 i,fR1 d,fR,.refl _,om,om,om,om⟩
     |exact⟨0,1,om,fR,fR,fR1 f,fR1 h,fR1 i,fR1 d,fR,.refl _,om,om,om,om⟩
    ·rintro n c D ⟨lo,hi,g5,u,p,f,h,i,d,j,g,h1,h2,U,V⟩;by_cases hd:lo+1<hi
     ·have d1:decide ((1:Int)<((hi:Nat):Int)-((lo:Nat):Int))=true:=dT;have f1:((lo:Nat):Int)+((hi:Nat):Int)=((lo+hi:Nat):Int):=om;have f2:(((lo+hi:Nat):Nat):Int).tdiv 2=(((lo+hi) / 2:Nat):Int):=rfl;obtain⟨C,b6⟩:=nW ((lo+hi) / 2);rw[b6]at f2;refine gU1 (aI @A6 (aI @D7 (aI f (aI h (aI i (aI d (aI j (aI u (aI p (aI d1 (aI @f1 f2))))))))))) ?_;refine(AN8 (hb.mono (L.trans g)) X om om).mono ?_;rintro z ⟨v4,l4,i2,rfl,N,a3,c8,f7,f0,h9⟩;obtain⟨w4,c4,hs4⟩:=a3.shape;subst hs4;refine gU1 (aI @A6 (aI @D7 (aI f (aI h (aI i (aI d (aI j (aI u p)))))))) ?_;refine(ME a3 (I.mono (g.trans N)) c8 E f7 b2 om om).mono ?_;rintro z rfl;rw[hR,f0,hB];cases H:decide (R<B*C)
      ·refine gU1 (aI @A6 (aI @D7 (aI f (aI h (aI i (aI d (aI j (aI u (aI p (aI @iK (aI H @X8))))))))))) ?_;have:=z9z H;exact⟨hi-C,om,C,hi,om,fR,fR1 p,fR1 f,fR1 h,fR1 i,fR1 d,fR1 j,g.trans N,om,h2,om,V⟩
      ·refine gU1 (aI @A6 (aI @D7 (aI f (aI h (aI i (aI d (aI j (aI u (aI p (aI @iK (aI H @X8))))))))))) ?_;have:=z6z H;exact⟨C-lo,om,lo,C,om,fR1 u,fR,fR1 f,fR1 h,fR1 i,fR1 d,fR1 j,g.trans N,om,om,U,om⟩
     ·have d1:decide ((1:Int)<((hi:Nat):Int)-((lo:Nat):Int))=false:=dF;obtain rfl:hi=lo+1:=om;refine gU1 (aI @A6 (aI @D7 (aI f (aI h (aI i (aI d (aI j (aI u (aI p (aI d1 @BT)))))))))) ?_;exact⟨_,_,lo,rfl,fR1 u,fR1 f,fR1 h,fR1 i,fR1 d,fR1 j,g,om,U,V⟩
    rintro z ⟨g3,S,lo,rfl,u,f,h,i,d,j,g,a7,U,V⟩;have b7:=L.trans g;have d4:S.A7 Z.n=some (Q.map dgv):=by rw[F7 (g.same _ a9)];exact d3
    have l5:Nat.blt m a.length=true:=by rw[BW];omega
    have f6:N8 (Q.map dgv) m [.int .i64 ((lo:Nat):Int)]=some ((Q.set m lo).map dgv):=MF a8;refine gU1 (aI @A6 (aI @D7 (aI f (aI h (aI i (aI d (aI j (aI u (aI l5 (aI d4 f6)))))))))) ?_;have W:Ext Z (S.upd Z.n ((Q.set m lo).map dgv)):=b7.upd nL _;refine(AN8 (hb.mono W) X a7 om).mono ?_;rintro z ⟨v5,h7,b4,rfl,F,a4,c9,f8,b3,i0⟩;obtain⟨w5,c5,e5⟩:=a4.shape;subst e5;rw[hB]at b3;have b8:DN b4 (.slice w3 l3.length c3) l3:=((I.mono g).upd d7).mono F;refine gU1 (aI @A6 (aI @D7 (aI f (aI h (aI i (aI d (aI j u))))))) ?_;refine(SB b8 a4 E c9 om om om (Trm.length_le E f8 om)).mono ?_;rintro z ⟨v6,l6,i3,rfl,O,a5,d0,f9,f3,i1,d8⟩;obtain⟨w6,c6,hs6⟩:=a5.shape;subst hs6;refine gU1 (aI @A6 (aI @D7 (aI f (aI h (aI i (aI d (aI j u))))))) ?_;have b0:Z.n<(S.upd Z.n ((Q.set m lo).map dgv)).n:=by rw[HH];exact z5z a9 g.n
    have b1:Z.n<b4.n:=z5z b0 F.n;have e2:((m:Nat):Int)-1=(a.length:Int)-1-((k+1:Nat):Int):=om;have ek:a.length-(k+1)=m:=om;have f5:=(List.getElem?_eq_some_iff.1 hx).2;have b9:D9 l6=R-B*lo:=by rw[f3,hR,b3]
    have c0:D9 l6<B:=by
     rw[Oi,Ip]at V;omega
    refine⟨om,by rw[<- e2];exact(fR),fR1 h,fR1 i,fR1 d,(W.trans F).trans O,z5z b1 O.n,.slice w6 l6.length c6,l6,Q.set m lo,fR,a5,fun q hq=>(by have:=d8 q hq;omega),d0,f9,c0,?_,by rw[qW];exact G,?_,?_⟩
    ·rw[F7 (O.same _ b1),F7 (F.same _ b0)];exact W4
    ·intro y hy;rcases AN9 hy with hy|rfl
     ·exact dQ y hy
     ·exact a7
    ·rw[ek,Oe (show m<a.length by omega),f5,set_drop a8,y9,y9,o];exact lL d5 (by rw[DG];exact U) b9
 ·rintro z ⟨c,s,J,l,Q,rfl,Y,hn,d,j,hl,dl,tl,e3,hQ,G,dQ,Mm⟩;have hD:=DN.Wo (l:=Q) hn (A9 hQ);rw[G]at hD;obtain⟨wl,cl,e7⟩:=hl.shape;subst e7;refine gU1 (aI @A6 (aI @D7 (aI d j))) ?_;refine(Cv hD om).mono ?_;rintro z ⟨v7,l7,rfl,a6,⟨kk,A⟩,e8,f4,-⟩;obtain⟨w7,c7,hs7⟩:=a6.shape;subst hs7;refine gU1 (aI @A6 (aI @D7 (aI d (aI j @Tryz.results181)))) ?_;obtain⟨u1,u2⟩:=ZA e3 Mm;exact⟨_,_,l7,l,_,rfl,Y,a6,hl,by rw[A];exact dQ.take kk,dl,e8,tl,by rw[f4,hB];exact u1,by rw[hB];exact u2,by rw[A,Jw];omega,Trm.length_le X tl om⟩
section
variable {fr:Fr}{Z:St}{x ix a v:Operand}{ve:Value}
def o9:LDn 168 2:=by unfold LDn;intros;kernel_rfl
def u9:LVn 168 2:=by unfold LVn;intros;kernel_rfl
def Bo:STn 168 2:=by unfold STn;intros;kernel_rfl
def DE:j8 Tryz.prog 168=some ([.bool false,.slice none 0 0],ptrTo):=kR
def BL:Bn Tryz.prog 168=some (.agg ⟨[.bool false,.slice none 0 0]⟩):=kR
def BJ:GJ Tryz.prog fr 168 #[]=some (.agg ⟨[.bool false,.slice none 0 0]⟩):=kR
def BK {z:List Value}{ps:List (Nat×Value)}:Dq Tryz.prog 168 z ps=ob (DW (fun i=>[(0,1),(1,1)][i]?) ps z) fun l=>some (.agg ⟨l⟩):=kR
def M5:FAo 168 0:=by unfold FAo;intros;kernel_rfl
def O6:FIo 168 0 0:=by unfold FIo;intros;kernel_rfl
def M6:FAn 168 1 1:=by unfold FAn;intros;kernel_rfl
def O7:FIo 168 1 1:=by unfold FIo;intros;kernel_rfl
end
def LU (Z:St) (v:Value) (a:Bool) (l:List Nat):Prop:=∃ w,v= .agg ⟨[.bool a,w]⟩/\DN Z w l
def oB {m V P N:Nat}(h:V+P*m=N):V+P*(m % 65536)+P*65536*(m / 65536)=N:=by
 have e:=congrArg (P*·) (Sq m 65536);simp only[Oi]at e;rw[<- Gb]at e;omega
def Trm.oC {l:List Nat}{d:Nat}(h:d≠0):Trm (l++[d]):=fun x a=>by
 rw[List.getLast?_concat]at a;cases a;exact h
def PX {Z:St}{n:Int}(h:BN n):Ev (gO 137 [.int .i64 n] Z) (fun r=>∃ v l Z',r=⟨false,v,Z'⟩/\Ext Z Z'/\LU Z' v (decide (n<0)) l/\Dig l/\Trm l/\D9 l=n.natAbs/\l.length<=4) ⟨⟩:=by
 obtain⟨W,X⟩:=h;obtain⟨N,hN⟩:=nW n.natAbs;have M:N<=9223372036854775808:=om;have y:∀ m:Int,IntKind.u64.wrap m=m % 18446744073709551616:=fun m=>rfl;rw[hN];refine C8 Tryz.func137 rfl rfl ?_;have K:(decide (n<0)=true/\IntKind.u64.wrap (0-IntKind.u64.wrap n)=(N:Int))\/(decide (n<0)=false/\IntKind.u64.wrap n=(N:Int)):=by
  by_cases J:n<0
  ·exact .inl ⟨by simpa using J,by rw[y,y];omega⟩
  ·exact .inr ⟨by simpa using J,by rw[y];omega⟩
 rcases K with⟨s,F⟩|⟨s,F⟩
 all_goals
  refine gU1 (aI @A6 (aI @W8 (aI @Y8 (aI @X9 (aI @V7 (aI @Y0 (aI @V8 (aI @V9 (aI @W0 (aI @L7 (aI @I4 (aI @J5 (aI @J3 (aI @I5 (aI @I6 (aI s (aI F @DE))))))))))))))))) ?_
  refine Bt (fun m a Z'=>∃ v l,a.get 0=some (.int .i64 n)/\a.get 2=some (.pointer (some ⟨Z.n,0,none⟩))/\a.get 3=some v/\a.get 4=some (.int .u64 (m:Int))/\Ext (Z.new [.bool false,.slice none 0 0] (some 168)) Z'/\OL (Z.n+1) Z' 1 v (l.map fun d=>[dgv d])/\D9 l+65536 ^ l.length*m=N/\m<=N/\Dig l/\(m=0->Trm l)/\m<65536 ^ (4-l.length)/\l.length<=4)
   (fun r=>∃ a Z' v l,r=⟨.exit 0,a,Z'⟩/\a.get 0=some (.int .i64 n)/\a.get 2=some (.pointer (some ⟨Z.n,0,none⟩))/\a.get 3=some v/\Ext (Z.new [.bool false,.slice none 0 0] (some 168)) Z'/\OL (Z.n+1) Z' 1 v (l.map fun d=>[dgv d])/\D9 l=N/\Dig l/\Trm l/\l.length<=4) N ?_ ?_ ?_
  ·exact⟨.slice none 0 0,[],fR,fR,fR,fR,.refl _,OL.nil,by simp[D9],Bh _,.nil,fun _=> .nil,by simp;omega,by simp⟩
  ·rintro m a Z' ⟨v,l,c,e,k,A,f,o,p,Y,u,ht,j,i⟩;by_cases C:m=0
   ·subst C;have g:decide ((0:Int)<((0:Nat):Int))=false:=by decide
    refine gU1 (aI @A6 (aI @W8 (aI @Y8 (aI @X9 (aI @V7 (aI @Y0 (aI @V8 (aI @V9 (aI @W0 (aI @L7 (aI @I4 (aI @J5 (aI @J3 (aI @I5 (aI @I6 (aI c (aI e (aI k (aI A (aI g @BT)))))))))))))))))))) ?_;rw[eF,j7]at p;exact⟨_,_,v,l,rfl,fR1 c,fR1 e,fR1 k,f,o,p,u,ht rfl,i⟩
   ·have g:decide ((0:Int)<(m:Int))=true:=by rw[z3z];omega
    have R:l.length<4:=by
     rcases AU l.length 4 with h|h
     ·exact h
     ·rw[show 4-l.length=0 by omega]at j;simp at j;omega
    have f1:(m:Int).tmod 65536=((m % 65536:Nat):Int):=rfl;have G:IntKind.i64.wrap ((m % 65536:Nat):Int)=((m % 65536:Nat):Int):=wrap64_in om om;have H:IntKind.u64.wrap ((m:Int).tdiv 65536)=((m / 65536:Nat):Int):=by rw[y,show(m:Int).tdiv 65536=((m / 65536:Nat):Int)from rfl];omega
    refine gU1 (aI @A6 (aI @W8 (aI @Y8 (aI @X9 (aI @V7 (aI @Y0 (aI @V8 (aI @V9 (aI @W0 (aI @L7 (aI @I4 (aI @J5 (aI @J3 (aI @I5 (aI @I6 (aI c (aI e (aI k (aI A (aI g (aI @f1 (aI G H)))))))))))))))))))))) ?_;have q:OL (Z.n+1) (Z'.new [.int .i64 ((m % 65536:Nat):Int)]) 1 v (l.map fun d=>[dgv d]):=OL.ext o (.new _ _);have z:=f.n;refine Y1 (row:=[dgv (m % 65536)]) (fun _ _ _ _=>Av) q (K0 nL nL) (C9 (by simp) (by simp)) (by rw[z2z];omega) (by simp only[G3]at z ⊢;omega) ?_;rintro v' V D L -;refine gU1 (aI @A6 (aI @W8 (aI @Y8 (aI @X9 (aI @V7 (aI @Y0 (aI @V8 (aI @V9 (aI @W0 (aI @L7 (aI @I4 (aI @J5 (aI @J3 (aI @I5 (aI @I6 (aI c (aI e (aI k (aI A (aI @f1 (aI G (aI H @X8)))))))))))))))))))))) ?_;refine⟨m / 65536,om,v',l++[m % 65536],fR1 c,fR1 e,fR,fR,L.ext (f.Q3 _) q (by simp),by rw[HI];exact D,?_,om,u.snoc om,fun h=>Trm.oC om,?_,by simp;omega⟩
    ·rw[Gs,CU,AR6,HG];exact oB p
    ·rw[CU,AR6];rw[show 4-l.length=4-(l.length+1)+1 by omega,HG]at j;omega
  ·rintro r ⟨a,Z',v,l,rfl,c,e,k,f,o,p,u,ht,i⟩;have z:=f.n;simp only[G3]at z;obtain⟨S,E⟩:J6 v=[v]/\DX v=false:=by obtain⟨va,h⟩:=OL.shape o;rw[h];exact⟨rfl,rfl⟩
   have U:Z'.A7 Z.n=some [.bool false,.slice none 0 0]:=by rw[F7 (f.same _ (by simp))];exact W3 nL nL
   have B:Ext Z Z':=Ext.trans (.new _ _) f;refine gUd (aI @Bo @o9) (aI @A6 (aI @W8 (aI @Y8 (aI @X9 (aI @V7 (aI @Y0 (aI @V8 (aI @V9 (aI @W0 (aI @L7 (aI @I4 (aI @J5 (aI @J3 (aI @I5 (aI @I6 (aI c (aI e (aI k (aI s (aI S (aI E (aI U (a5N @BJ @BK @BL @u9 @Tryz.results137))))))))))))))))))))))) ?_
   have I:=DN.rM (o.I2 (Z':=Z'.upd Z.n [.bool (decide (n<0)),v]) (by simp) fun b O=>by
    have:=(o.blk O).1;rw[Aa,z0z om])
   rw[s]at I;exact⟨_,l,_,rfl,B.upd nL _,⟨v,rfl,I⟩,u,ht,p,i⟩
def GO (a:Bool) (m:Nat):Int×Bool:=if a=true/\m<=9223372036854775808 then(-(m:Int),true)else if 9223372036854775808<=m then(0,false)else((m:Int),true)
def lG {Z:St}{v w:Value}{a b:List Nat}(W:DN Z v a) (X:DN Z w b) (da:Dig a) (db:Dig b) (ta:Trm a) (tb:Trm b) (la:a.length<=30) (lb:b.length<=30) :
  Ev (gO 180 [v,w] Z) (fun r=>∃ v' l Z',r=⟨false,v',Z'⟩/\Ext Z Z'/\DN Z' v' l/\Dig l/\Trm l/\D9 l=Nat.gcd (D9 a) (D9 b)/\l.length<=30) ⟨⟩:=by
 refine C8 Tryz.func180 rfl rfl ?_;obtain⟨wa,ca,L⟩:=W.shape;obtain⟨wb,cb,hsb⟩:=X.shape;subst L hsb;refine gU1 (aI @A6 @D7) ?_
 refine Bt (fun n g f=>∃ v w x y,g.get 0=some v/\g.get 1=some w/\Ext Z f/\DN f v x/\DN f w y/\Dig x/\Dig y/\Trm x/\Trm y/\x.length<=30/\y.length<=30/\D9 y=n/\Nat.gcd (D9 x) (D9 y)=Nat.gcd (D9 a) (D9 b))
  (fun r=>∃ g f v x,r=⟨.exit 0,g,f⟩/\g.get 0=some v/\Ext Z f/\DN f v x/\Dig x/\Trm x/\x.length<=30/\D9 x=Nat.gcd (D9 a) (D9 b)) (D9 b) ?_ ?_ ?_
 ·exact⟨_,_,a,b,fR,fR,.refl _,W,X,da,db,ta,tb,la,lb,rfl,rfl⟩
 ·rintro n g f ⟨v,w,x,y,d,s,E,u,F,o,p,S,ty,lx,ly,rfl,B⟩;obtain⟨wx,cx,i⟩:=u.shape;obtain⟨wy,cy,hsy⟩:=F.shape;subst i hsy;refine gU1 (aI @A6 (aI @D7 (aI d s))) ?_;refine(Cv F om).mono ?_;rintro z ⟨v3,y',rfl,O,⟨k,hk⟩,U,hv,-⟩;have I:Dig y':=by rw[hk];exact p.take k
  obtain rfl:y'=y:=Fq I p U ty hv;obtain⟨w3,c3,hs3⟩:=O.shape;subst hs3;by_cases D:D9 y'=0
  ·have e0:=Trm.zero ty D;subst e0;have G:decide ((0:Int)<((0:Nat):Int))=false:=rfl;refine gP1 (aI d (aI s (aI G (aI @D6 (aI @D8 (aI @BT @Jg.{0})))))) ?_;rw[D,pF]at B;exact⟨_,_,_,x,rfl,fR1 d,E,u,o,S,lx,B⟩
  ·have a0:0<y'.length:=by
    rcases Wf y'.length with h|h
    ·rw[WI h]at D;exact absurd rfl D
    ·exact h
   have G:decide ((0:Int)<(y'.length:Int))=true:=dT;refine gU1 (aI @A6 (aI @D7 (aI d (aI s G)))) ?_;refine(Cv u om).mono ?_;rintro z ⟨v4,x',rfl,c,⟨R,e⟩,m,j,-⟩;have H:Dig x':=by rw[e];exact o.take R
   obtain rfl:x'=x:=Fq H o m S j;obtain⟨w4,c4,hs4⟩:=c.shape;subst hs4;refine gU1 (aI @A6 (aI @D7 (aI d s))) ?_;refine(Cv F om).mono ?_;rintro z ⟨v5,y5,rfl,C,⟨k5,K⟩,V,M,-⟩;have J:Dig y5:=by rw[K];exact p.take k5
   obtain rfl:y5=y':=Fq J p V ty M;obtain⟨w5,c5,hs5⟩:=C.shape;subst hs5;refine gU1 (aI @A6 (aI @D7 (aI d s))) ?_;refine(We c C o p ty om om om).mono ?_;rintro z ⟨v6,v7,q,l,a3,rfl,A,hq,Y,dq,dl,tq,tl,a2,N,lq,ll⟩;obtain⟨w6,c6,hs6⟩:=hq.shape;obtain⟨w7,c7,hs7⟩:=Y.shape;subst hs6 hs7;refine gU1 (aI @A6 (aI @D7 (aI d (aI s @X8)))) ?_;have a1:=IP (D9 x') (show 0<D9 y5 by omega);exact⟨D9 l,om,_,_,y5,l,fR,fR,E.trans A,F.mono A,Y,p,dl,ty,tl,ly,om,rfl,by rw[N,<- B,RW (D9 x'),pG (D9 y5) (D9 x'),RW (D9 y5)]⟩
 ·rintro z ⟨g,f,v,x,rfl,d,E,u,o,S,lx,B⟩;obtain⟨wx,cx,i⟩:=u.shape;subst i;refine gU1 (aI @A6 (aI @D7 d)) ?_;refine(Cv u om).mono ?_;rintro z ⟨v4,x',rfl,c,⟨R,e⟩,m,j,-⟩;obtain⟨w4,c4,hs4⟩:=c.shape;subst hs4;refine gU1 (a3N @A6 @D7 @Tryz.results180) ?_;exact⟨_,x',_,rfl,E,c,by rw[e];exact o.take R,m,by rw[j];exact B,by rw[e,Jw];omega⟩
def MB {Z:St}{v:Value}{a:Bool}{l:List Nat}(Y:LU Z v a l) (F:Dig l) (tl:Trm l) (ll:l.length<=50) :
  Ev (gO 182 [v] Z) (fun r=>∃ Z',r=⟨false,.tuple ⟨[.int .i64 (GO a (D9 l)).1,.bool (GO a (D9 l)).2]⟩,Z'⟩/\Ext Z Z') ⟨⟩:=by
 obtain⟨w,rfl,K⟩:=Y;obtain⟨ww,wc,hs⟩:=K.shape;subst hs;have j:Ext Z (Z.new [.bool a,.slice ww l.length wc]):= .new _ _;have u:∀ m:Int,IntKind.u64.wrap m=m % 18446744073709551616:=fun m=>rfl;refine C8 Tryz.func182 rfl rfl ?_;refine gPd (a6N @Bo @o9 @M5 @M6 @O6 @O7) (a5N @BJ @BK @BL @DE @u9) ?_;refine(Cv (K.mono j) om).mono ?_;rintro z ⟨v3,l',rfl,D,⟨k,J⟩,o,hv,-⟩;have f:Dig l':=by rw[J];exact F.take k
 obtain rfl:l'=l:=Fq f F o tl hv;obtain⟨la,lc,lb,lo,lcs,hs3,a1,a2⟩:=D.use;subst hs3;by_cases q:4<l'.length
 ·have A:decide ((4:Int)<(l'.length:Int))=true:=dT;refine gU1 (aI @A6 (aI @D7 (aI A @Tryz.results182))) ?_;have s:18446744073709551616<=D9 l':=by
   have H:=o.le (fun e=>by rw[e]at q;simp at q);have I:65536 ^ 4<=65536 ^ (l'.length-1):=mE om om;have h7:(65536:Nat) ^ 4=18446744073709551616:=by decide
   omega
  have e:GO a (D9 l')=(0,false):=by unfold GO;rw[z0z om,z1z om]
  rw[e];exact⟨_,rfl,j⟩
 ·have A:decide ((4:Int)<(l'.length:Int))=false:=dF;refine gU1 (aI @A6 (aI @D7 A)) ?_
  refine Ko l'.length (fun k c L=>c.get 1=some (.pointer (some ⟨Z.n,0,none⟩))/\c.get 4=some (.slice la l'.length lc)/\c.get 6=some (.int .i64 ((l'.length:Int)-1-(k:Nat)))/\L=Z.new [.bool a,.slice ww l'.length wc]/\c.get 5=some (.int .u64 ((D9 (l'.drop (l'.length-k)):Nat):Int)))
   (fun r=>∃ c,r=⟨.exit 0,c,Z.new [.bool a,.slice ww l'.length wc]⟩/\c.get 1=some (.pointer (some ⟨Z.n,0,none⟩))/\c.get 5=some (.int .u64 ((D9 l':Nat):Int))) ?_ ?_ ?_
  ·exact⟨fR,fR,by rw[show((l'.length:Int)-1-((0:Nat):Int))=(l'.length:Int)-1 by omega];exact(fR),rfl,by rw[Yy,iI];exact(fR)⟩
  ·rintro k c L J ⟨g,G,p,rfl,b⟩;by_cases C:k=l'.length
   ·subst C;have i:((l'.length:Int)-1-(l'.length:Nat))= -1:=om;rw[i]at p;rw[Yz,NG]at b;have d:decide ((-1:Int)<0)=true:=rfl;refine gU1 (aI @A6 (aI @D7 (aI p (aI d @lK)))) ?_;exact⟨_,rfl,fR1 g,fR1 b⟩
   ·obtain⟨m,hm⟩:=nW (l'.length-1-k);have i:((l'.length:Int)-1-(k:Nat))=(m:Int):=om;rw[i]at p;rw[show l'.length-k=m+1 by omega]at b;obtain⟨x,hx⟩:=I1 (l:=l') (k:=m) om;have xl:=f.get hx;obtain⟨sp,rfl,h3,q⟩:=a1 om;have s1:=a2 m x hx;have c1:decide ((m:Int)<0)=false:=dF;have l1:Nat.blt m l'.length=true:=by rw[BW];omega
    have E:=(List.getElem?_eq_some_iff.1 hx).2;obtain⟨V,s⟩:=nW (D9 (l'.drop (m+1)));have X:V<281474976710656:=by
     have:=Ku (l:=l'.drop (m+1)) (fun y hy=>f y (dB hy));rw[s,MD]at this;have H:65536 ^ (l'.length-(m+1))<=65536 ^ 3:=mE om om;have I:(65536:Nat) ^ 3=281474976710656:=by decide
     omega
    rw[s]at b;have f1:L9 .u64 ((V:Int)*65536)=((V*65536:Nat):Int):=by rw[o7,u];omega
    have O:IntKind.u64.wrap (x:Int)=(x:Int):=by rw[u];omega
    have R:L9 .u64 (((V*65536:Nat):Int)+(x:Int))=((x+65536*V:Nat):Int):=by rw[o7,u];omega
    have N:(m:Int)-1=(l'.length:Int)-1-((k+1:Nat):Int):=om;refine gU1 (aI @A6 (aI @D7 (aI g (aI G (aI b (aI p (aI c1 (aI q (aI s1 (aI l1 (aI @f1 (aI O (aI R @Yd))))))))))))) ?_;refine⟨om,fR1 g,fR1 G,by rw[<- N];exact(fR),rfl,?_⟩;rw[show l'.length-(k+1)=m by omega,Oe (show m<l'.length by omega),E,y9,s];exact(fR)
  ·rintro z ⟨c,rfl,g,b⟩;obtain⟨M,B⟩:=nW (D9 l');rw[B]at b;have W:M<18446744073709551616:=by
    have:=Ku f;rw[B]at this;have H:65536 ^ l'.length<=65536 ^ 4:=mE om om;have I:(65536:Nat) ^ 4=18446744073709551616:=by decide
    omega
   rw[B];cases h:decide (9223372036854775808<(M:Int))with
   | true=>
     have S:=z6z h;have d:decide ((M:Int)<9223372036854775808)=false:=dF;have e:GO a M=(0,false):=by unfold GO;rw[z0z om,z1z om]
     rw[e];cases a
     ·refine gPd (a4N @Bo @o9 @M5 @M6) (aI g (aI b (aI @u9 (aI h (aI d @Tryz.results182))))) ?_;exact⟨_,rfl,j⟩
     ·refine gPd (a4N @Bo @o9 @M5 @M6) (aI g (aI b (aI @u9 (aI h (aI d @Tryz.results182))))) ?_;exact⟨_,rfl,j⟩
   | false=>
     have S:=z9z h;cases a
     ·cases d:decide ((M:Int)<9223372036854775808)with
      | true=>
        have U:=z6z d;have e:GO false M=((M:Int),true):=by unfold GO;rw[z0z (by simp),z0z om]
        have i:IntKind.i64.wrap (M:Int)=(M:Int):=wrap64_in om om;rw[e];refine gPd (a4N @Bo @o9 @M5 @M6) (aI g (aI b (aI @u9 (aI h (aI d (aI i @Tryz.results182)))))) ?_;exact⟨_,rfl,j⟩
      | false=>
        have U:=z9z d;have e:GO false M=(0,false):=by unfold GO;rw[z0z (by simp),z1z om]
        rw[e];refine gPd (a4N @Bo @o9 @M5 @M6) (aI g (aI b (aI @u9 (aI h (aI d @Tryz.results182))))) ?_;exact⟨_,rfl,j⟩
     ·have e:GO true M=(-(M:Int),true):=by unfold GO;rw[z1z ⟨rfl,om⟩]
      have i:IntKind.i64.wrap (IntKind.u64.wrap (0-(M:Int)))= -(M:Int):=by
       rw[u,wrap_i64];split<;>omega
      rw[e];refine gPd (a4N @Bo @o9 @M5 @M6) (aI g (aI b (aI @u9 (aI h (aI i @Tryz.results182))))) ?_;exact⟨_,rfl,j⟩
def Rn (a:Bool) (N D:Nat):Int×Int×Bool :=
 if (GO (a&&decide (0<N / Nat.gcd N D)) (N / Nat.gcd N D)).2&&(GO false (D / Nat.gcd N D)).2 then((GO (a&&decide (0<N / Nat.gcd N D)) (N / Nat.gcd N D)).1,(GO false (D / Nat.gcd N D)).1,true)else(0,1,false)
def Wd {x y:Operand}{a b:Bool}:Aq Tryz.prog .neq 4 x y (.bool a) (.bool b)=some (.bool (a != b)):=by cases a<;>cases b<;>kernel_rfl
def qK {Z:St}{n:Int}:Ev (gO 125 [.int .i64 n] Z) (fun r=>∃ Z',r=⟨false,.agg ⟨[.int .i64 n,.int .i64 1]⟩,Z'⟩/\Ext Z Z') ⟨⟩:=by
 refine C8 Tryz.func125 rfl rfl ?_;refine gU1 (a3N @A6 @D7 @Tryz.results125) ?_;exact⟨_,rfl,eX⟩
def Ro {Z:St}{v w:Value}{j k:Bool}{a b:List Nat}(ha:LU Z v j a) (hb:LU Z w k b) (H:Dig a) (I:Dig b) (ta:Trm a) (tb:Trm b) (la:a.length<=20) (lb:b.length<=20) (h0:0<D9 b) :
  Ev (gO 136 [v,w] Z) (fun r=>∃ Z',r=⟨false,.tuple ⟨[.agg ⟨[.int .i64 (Rn (j != k) (D9 a) (D9 b)).1,.int .i64 (Rn (j != k) (D9 a) (D9 b)).2.1]⟩,.bool (Rn (j != k) (D9 a) (D9 b)).2.2]⟩,Z'⟩/\Ext Z Z') ⟨⟩:=by
 obtain⟨va,rfl,u⟩:=ha;obtain⟨vb,rfl,hvb⟩:=hb;obtain⟨wa,ca,hsa⟩:=u.shape;obtain⟨wb,cb,hsb⟩:=hvb.shape;subst hsa hsb;obtain⟨LF,hLF⟩:=nW (Rn (j != k) (D9 a) (D9 b));rw[hLF];refine C8 Tryz.func136 rfl rfl ?_;refine gPd (a6N @Bo @o9 @M5 @M6 @O6 @O7) (a5N @BJ @BK @BL @DE @u9) ?_;obtain⟨S,hS⟩:∃ S,S=(((Z.new [Value.bool j,Value.slice wa a.length ca]).new [Value.bool k,Value.slice wb b.length cb]).new [Value.int IntKind.i64 0,Value.int IntKind.i64 0] (some 29)):=⟨_,rfl⟩
 have m:Ext Z S:=by rw[hS];exact((Ext.new _ _).trans (.new _ _)).trans (.new _ _)
 have hn:S.n=Z.n+3:=by rw[hS];simp
 have o1:S.A7 Z.n=some [.bool j,.slice wa a.length ca]:=by rw[hS];exact cL
 have o2:S.A7 (Z.n+1)=some [.bool k,.slice wb b.length cb]:=by rw[hS];exact cL
 have o3:S.A7 (Z.n+2)=some [.int .i64 0,.int .i64 0]:=by rw[hS];exact cL
 rw[<- hS];have B:∀ {e:St},Ext S e->Ext Z e/\Z.n+3<=e.n/\e.row Z.n=some [.bool j,.slice wa a.length ca]/\e.row (Z.n+1)=some [.bool k,.slice wb b.length cb]/\e.A7 (Z.n+2)=some [.int .i64 0,.int .i64 0]:=fun{e} h=>
  ⟨m.trans h,by have:=h.n;omega,by rw[h.row om];exact A9 o1,by rw[h.row om];exact A9 o2,by rw[F7 (h.same _ om)];exact o3⟩
 refine(lG (u.mono m) (hvb.mono m) H I ta tb om om).mono ?_;rintro z ⟨v1,g,c0,rfl,c,R,dg,tg,F,lg⟩;obtain⟨wg,cg,i⟩:=R.shape;subst i;obtain⟨hF1,n1',r1,r2,r3⟩:=B c;clear hS;refine gPd (a5N @o9 @M5 @M6 @O6 @O7) (aI @u9 (aI r1 r2)) ?_;refine(Cv (u.mono hF1) om).mono ?_;rintro z ⟨v2,a',rfl,C,⟨k2,U⟩,a8,J,-⟩;have L:Dig a':=by rw[U];exact H.take k2
 obtain rfl:a'=a:=Fq L H a8 ta J;obtain⟨w2,c2,hs2⟩:=C.shape;subst hs2;refine gPd (a5N @o9 @M5 @M6 @O6 @O7) @u9 ?_;have E:0<D9 g:=by rw[F];exact AN3 _ h0
 refine(We C R H dg tg om om E).mono ?_;rintro z ⟨v3,v4,x,rx,c1,rfl,d,hx,X,dx,b4,tx,b9,a1,-,lx,-⟩;obtain⟨w3,c3,a0⟩:=hx.shape;obtain⟨w4,c4,hs4⟩:=X.shape;subst a0 hs4;obtain⟨hF2,n2',r4,r5,r6⟩:=B (c.trans d);refine gPd (a5N @o9 @M5 @M6 @O6 @O7) (aI @u9 (aI r4 r5)) ?_;refine(Cv (hvb.mono hF2) om).mono ?_;rintro z ⟨v5,b',rfl,D,⟨k5,V⟩,a9,K,-⟩;have M:Dig b':=by rw[V];exact I.take k5
 obtain rfl:b'=b:=Fq M I a9 tb K;obtain⟨w5,c5,hs5⟩:=D.shape;subst hs5;refine gPd (a5N @o9 @M5 @M6 @O6 @O7) @u9 ?_;refine(We D (R.mono d) I dg tg om om E).mono ?_;rintro z ⟨v6,v7,y,ry,G,rfl,f,hy,Y,dy,b5,ty,b3,a2,-,ly,-⟩;obtain⟨w6,c6,hs6⟩:=hy.shape;obtain⟨w7,c7,hs7⟩:=Y.shape;subst hs6 hs7;obtain⟨hF3,n3',r7,r8,r9⟩:=B ((c.trans d).trans f);obtain⟨sg,i⟩:=nW (((j != k)&&decide (0<D9 x)));have W:decide ((0:Int)<(x.length:Int))=decide (0<D9 x):=by
  by_cases hz:D9 x=0
  ·rw[Trm.zero tx hz];rfl
  ·have:0<x.length:=by
    rcases Wf x.length with h|h
    ·rw[WI h]at hz;exact absurd rfl hz
    ·exact h
   rw[dT,dT]
 have key:∀ {Q:CR->Prop},(∀ e,Ext G e->Q ⟨false,.tuple ⟨[.int .i64 (GO sg (D9 x)).1,.bool (GO sg (D9 x)).2]⟩,e⟩)->Ev (gO 182 [.agg ⟨[.bool sg,.slice w3 x.length c3]⟩] G) Q ⟨⟩:=fun{Q} h=>by
  refine(MB ⟨_,rfl,hx.mono f⟩ dx tx om).mono ?_;rintro z ⟨e,rfl,a3⟩;exact h e a3
 cases s:(j != k)
 all_goals
  rw[s]at i;simp only[Lr,Io]at i;subst i;refine gPd (a5N @o9 @M5 @M6 @O6 @O7) (aI @u9 (aI r7 (aI r8 (aI @Wd (aI s (aI W (a3N @BJ @BK @BL))))))) ?_;refine key ?_;intro b0 l;refine gPd (a5N @o9 @M5 @M6 @O6 @O7) (a4N @u9 @BJ @BK @BL) ?_;refine(MB (Z:=b0) ⟨_,rfl,hy.mono l⟩ dy ty om).mono ?_;rintro z ⟨b1,rfl,o⟩;obtain⟨N,b6,b7,b8,a5⟩:=B ((((c.trans d).trans f).trans l).trans o);rw[s]at hLF;unfold Rn at hLF;rw[<- F,<- a1,<- a2]at hLF;simp only[Lr,Io]at hLF;generalize GO false (D9 y)=fy at hLF ⊢;generalize GO _ (D9 x)=fx at hLF ⊢;obtain⟨xn,xo⟩:=fx;obtain⟨yn,yo⟩:=fy;dsimp only at hLF;have O:∀ cs:List Value,Ext Z (b1.upd (Z.n+2) cs):=fun cs=>N.upd om _;cases xo
  ·obtain rfl:(0,1,false)=LF:=by rw[<- hLF];rfl
   refine gPd (a5N @o9 @M5 @M6 @O6 @O7) (a4N @u9 @BJ @BK @BL) ?_;refine qK.mono ?_;rintro z ⟨b2,rfl,p⟩;obtain⟨q,a4,a6,a7,A⟩:=B (((((c.trans d).trans f).trans l).trans o).trans p);refine gPd (a5N @o9 @M5 @M6 @O6 @O7) (aI @u9 (aI @BJ (aI @BK (aI @BL (aI A @Tryz.results136))))) ?_;exact⟨_,rfl,q.upd om _⟩
  ·cases yo
   ·obtain rfl:(0,1,false)=LF:=by rw[<- hLF];rfl
    refine gPd (a5N @o9 @M5 @M6 @O6 @O7) (a4N @u9 @BJ @BK @BL) ?_;refine qK.mono ?_;rintro z ⟨b2,rfl,p⟩;obtain⟨q,a4,a6,a7,A⟩:=B (((((c.trans d).trans f).trans l).trans o).trans p);refine gPd (a5N @o9 @M5 @M6 @O6 @O7) (aI @u9 (aI @BJ (aI @BK (aI @BL (aI A @Tryz.results136))))) ?_;exact⟨_,rfl,q.upd om _⟩
   ·obtain rfl:(xn,yn,true)=LF:=by rw[<- hLF];rfl
    refine gPd (a5N @o9 @M5 @M6 @O6 @O7) (aI @u9 (aI @BJ (aI @BK (aI @BL (aI a5 @Tryz.results136))))) ?_;exact⟨_,rfl,O _⟩
section
variable {n d:Int}{Z:St}
def Rm (n:Int):Bool:=decide (-1000000000<n)&&decide (n<1000000000)
def Uo:Ev (gO 134 [.int .i64 n] Z) (fun r=>r=⟨false,.bool (Rm n),Z⟩) ⟨⟩:=by
 unfold Rm;refine C8 Tryz.func134 rfl rfl ?_;cases c1:decide (-1000000000<n)
 ·refine gU1 (aI @A6 (aI @D7 (aI c1 (a4N @D6 @D8 @Tryz.results134 @Lr)))) ?_;try exact⟨⟩
 ·refine gU1 (aI @A6 (aI @D7 (aI c1 (a4N @D6 @D8 @Tryz.results134 @Io)))) ?_;try exact⟨⟩
def Dd (n d:Int):Bool:=decide (1<=d)&&decide (Int.gcd n d=1)
def Yw (h:1<=d):(decide (qn n d=n)&&decide (qd n d=d))=decide (Int.gcd n d=1):=by
 by_cases a:Int.gcd n d=1
 ·obtain⟨b,c⟩:=qF h a;rw[b,c,AW a];simp
 ·rw[z4z a,<- Bool.not_eq_true,R2,EO,EO];rintro⟨b,c⟩;have:=(YT (n:=n) (d:=d) om).1;rw[b,c]at this;exact a this
def Up (a:BN n) (l:BN d) (h:1<=d):((Rn (decide (n<0) != decide (d<0)) n.natAbs d.natAbs).2.2&&(decide (n=(Rn (decide (n<0) != decide (d<0)) n.natAbs d.natAbs).1)&&decide (d=(Rn (decide (n<0) != decide (d<0)) n.natAbs d.natAbs).2.1)))=decide (Int.gcd n d=1):=by
 obtain⟨s,u⟩:=a;obtain⟨h3,h4⟩:=l;have c:decide (d<0)=false:=dF;have g:(decide (n<0) != false)=decide (n<0):=by cases decide (n<0)<;>rfl
 rw[c,g];have e:Int.gcd n d=Nat.gcd n.natAbs d.natAbs:=rfl;obtain⟨N,k⟩:=nW n.natAbs;obtain⟨D,hD⟩:=nW d.natAbs;rw[e,k,hD];have b:d=(D:Int):=om;have j:∀ m,m<=9223372036854775807->GO false m=((m:Int),true):=fun m y=>by unfold GO;rw[z0z (by simp),z0z om]
 have i:D / Nat.gcd N D<=D:=KD _ _;unfold Rn;rw[j (D / Nat.gcd N D) om,dR];by_cases f:Nat.gcd N D=1
 ·rw[f,qG,qG,AW (rfl:(1:Nat)=1)];have r:GO (decide (n<0)&&decide (0<N)) N=(n,true):=by
   unfold GO;by_cases a:n<0
   ·rw[z1z ⟨by rw[AW a,dT];rfl,om⟩];congr 1;omega
   ·rw[z0z (by rw[z4z a];simp),z0z om];congr 1;omega
  rw[r];simp[b]
 ·rw[z4z f];have q:D / Nat.gcd N D≠D:=by
   have o:0<Nat.gcd N D:=AN3 _ om;have:=Nat.div_lt_self (show 0<D by omega) (show 1<Nat.gcd N D by omega);omega
  cases v:(GO (decide (n<0)&&decide (0<N / Nat.gcd N D)) (N / Nat.gcd N D)).2
  ·simp
  ·simp only[reduceIte,Io];rw[z4z (p:=d=_) om,Ls]
def Uq (y:BN n) (v:BN d):Ev (gO 142 [R5 n d] Z) (fun r=>∃ Z',r=⟨false,.bool (Dd n d),Z'⟩/\Ext Z Z') ⟨⟩:=by
 refine C8 Tryz.func142 rfl rfl ?_;unfold R5 Dd;cases c1:decide (d<1)with
 | true=>
   rw[z4z (p:=1<=d) (by have:=z6z c1;omega),Lr];refine gU1 (aI @A6 (aI @D7 (aI c1 @Tryz.results142))) ?_;exact⟨_,rfl,eX⟩
 | false=>
   have g:1<=d:=by have:=z9z c1;omega
   rw[AW g,Io];refine gU1 (aI @A6 (aI @D7 c1)) ?_;refine Uo.mono ?_;rintro r rfl;have E:∀ {G:Fr}{U:St},True:=fun{G U}=>trivial;cases B:Rm n
   ·refine gU1 (aI @A6 @D7) ?_;refine(PX y).mono ?_;rintro r ⟨L,H,Z2,rfl,a,⟨N,rfl,e⟩,h,q,k,z⟩;obtain⟨R,S,j⟩:=e.shape;subst j;have u:=a.n;simp only[G3]at u;have m:Z2.row Z.n=some [.int .i64 n,.int .i64 d]:=eT (a.row (cL)) cL;refine gU1 (aI @A6 (aI @D7 m)) ?_;refine(PX v).mono ?_;rintro r ⟨M,I,F,rfl,b,⟨O,rfl,f⟩,i,s,l,A⟩;obtain⟨x3,y3,hs3⟩:=f.shape;subst hs3;have J:=b.n;refine gU1 (aI @A6 @D7) ?_;refine(Ro ⟨_,rfl,e.mono b⟩ ⟨_,rfl,f⟩ h i q s om om om).mono ?_;rintro r ⟨Z4,rfl,c⟩;have K:=c.n;have o:=eT (c.row om) (eT (b.row om) m);rw[k,l];have D:Ext Z Z4:=((Ext.trans (eX) a).trans b).trans c;rw[<- Up y v g];generalize Rn (decide (n<0) != decide (d<0)) n.natAbs d.natAbs=LF;obtain⟨la,lb,lo⟩:=LF;refine gP1 (aI o (aI @F4 (aI (asx a) (aI (asx b) (aI (asx c) @G9))))) ?_;refine dW1 (aI (asx a) (aI (asx b) (asx c))) ?_;cases lo
    ·refine gP1 (aI o (a3N @F4 @Lr @Tryz.results142)) ?_;exact⟨_,rfl,eX⟩
    ·refine gP1 (aI o (a3N @F4 @Io @Tryz.results142)) ?_;exact⟨_,rfl,eX⟩
   ·refine gU1 (aI @A6 @D7) ?_;refine Uo.mono ?_;rintro r rfl;cases C:Rm d
    ·refine gU1 (aI @A6 @D7) ?_;refine(PX y).mono ?_;rintro r ⟨L,H,Z2,rfl,a,⟨N,rfl,e⟩,h,q,k,z⟩;obtain⟨R,S,j⟩:=e.shape;subst j;have u:=a.n;simp only[G3]at u;have m:Z2.row Z.n=some [.int .i64 n,.int .i64 d]:=eT (a.row (cL)) cL;refine gU1 (aI @A6 (aI @D7 m)) ?_;refine(PX v).mono ?_;rintro r ⟨M,I,F,rfl,b,⟨O,rfl,f⟩,i,s,l,A⟩;obtain⟨x3,y3,hs3⟩:=f.shape;subst hs3;have J:=b.n;refine gU1 (aI @A6 @D7) ?_;refine(Ro ⟨_,rfl,e.mono b⟩ ⟨_,rfl,f⟩ h i q s om om om).mono ?_;rintro r ⟨Z4,rfl,c⟩;have K:=c.n;have o:=eT (c.row om) (eT (b.row om) m);rw[k,l];have D:Ext Z Z4:=((Ext.trans (eX) a).trans b).trans c;rw[<- Up y v g];generalize Rn (decide (n<0) != decide (d<0)) n.natAbs d.natAbs=LF;obtain⟨la,lb,lo⟩:=LF;refine gP1 (aI o (aI @F4 (aI (asx a) (aI (asx b) (aI (asx c) @G9))))) ?_;refine dW1 (aI (asx a) (aI (asx b) (asx c))) ?_;cases lo
     ·refine gP1 (aI o (a3N @F4 @Lr @Tryz.results142)) ?_;exact⟨_,rfl,eX⟩
     ·refine gP1 (aI o (a3N @F4 @Io @Tryz.results142)) ?_;exact⟨_,rfl,eX⟩
    ·unfold Rm at B C;simp only[R2,EO]at B C;refine gU1 (aI @A6 @D7) ?_;refine(HF (n:=n) (d:=d) ⟨om,om⟩ ⟨om,om⟩ om).mono ?_;rintro r ⟨Z2,rfl,a⟩;have u:=a.n;simp only[G3]at u;have m:Z2.row Z.n=some [.int .i64 n,.int .i64 d]:=eT (a.row (cL)) cL;have D:Ext Z Z2:=Ext.trans (eX) a;rw[<- Yw g];refine gP1 (aI m (aI @F4 (aI (asx a) (aI @G9 @Tryz.results142)))) ?_;exact⟨_,rfl,eX⟩
def Rp (h:RQ n d):Ev (gO 142 [R5 n d] Z) (fun r=>∃ Z',r=⟨false,.bool true,Z'⟩/\Ext Z Z') ⟨⟩:=by
 have e:Dd n d=true:=by
  unfold Dd;rw[AW h.d1,AW h.low];rfl
 have:=h.n1;have:=h.n2;have:=h.d1;have:=h.d2;refine(Uq (n:=n) (d:=d) ⟨om,om⟩ ⟨om,om⟩).mono ?_;rintro r ⟨Z',rfl,a⟩;rw[e];exact⟨_,rfl,a⟩
end
end Go.Proofs.T
