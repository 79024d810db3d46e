/- The tokens of a iG text, df MO Ap5. -/
import Derived.Test.YtckchelhlpifiaaGreatDoorTH
set_option linter.unusedSimpArgs false
set_option linter.unusedVariables false
set_option linter.defProp false
set_option maxHeartbeats 32000000
set_option maxRecDepth 100000
namespace Go.Proofs.T
open Go Go.Ab
section
variable {Z:St}{n:Int}{s:By}
def Ld:Ev (gO 71 [.int .u8 n] Z) (fun r=>r=⟨false,.bool (Di n),Z⟩) ⟨⟩:=by
 refine D0 Tryz.func71 rfl rfl ?_;unfold Di;cases a:decide (n<97)<;>cases b:decide (122<n)<;>cases c:decide (n<65)<;>cases d:decide (90<n)<;>refine gS1 (aI a (aI b (aI c (aI d (a3N @G9 @H2 @Tryz.results71))))) ?_<;>rfl
def Cd:Ev (gO 116 [.int .u8 n] Z) (fun r=>r=⟨false,.bool (F0 n),Z⟩) ⟨⟩:=by
 refine D0 Tryz.func116 rfl rfl ?_;unfold F0;cases a:decide (n<48)<;>cases b:decide (57<n)<;>refine gS1 (aI a (aI b @Tryz.results116)) ?_<;>rfl
def Jh:Ev (gO 70 [.int .u8 n] Z) (fun r=>r=⟨false,.bool (Bw n),Z⟩) ⟨⟩:=by
 refine D0 Tryz.func70 rfl rfl ?_;refine gS ?_;refine Ld.mono ?_;rintro r rfl;refine gS ?_;refine Cd.mono ?_;rintro r rfl;unfold Bw;cases a:Di n<;>cases b:F0 n<;>cases c:decide (n=95)<;>refine gS1 (aI a (aI b (aI c @Tryz.results70))) ?_<;>rfl
def CD (s:By):Bool:=decide (0<s.length)&&decide (s.length<=30)&&(s.all fun c=>Bw c.toNat)&&(match s with|c::_=>Di c.toNat|[]=>false)
def Gn:Ev (gO 32 [str s] Z) (fun r=>r=⟨false,.bool (CD s),Z⟩) ⟨⟩:=by
 refine D0 Tryz.func32 rfl rfl ?_;by_cases h1:s.length<1
 ·have e1:decide ((s.length:Int)<1)=true:=by rw[z3z];omega
  have hb:CD s=false:=by unfold CD;rw[z4z (show ¬ 0<s.length by omega)];rfl
  refine gS1 (aI e1 (aI hb @Tryz.results32)) ?_;try exact⟨⟩
 have e1:decide ((s.length:Int)<1)=false:=by rw[Gz];omega
 by_cases h2:30<s.length
 ·have e2:decide (30<(s.length:Int))=true:=by rw[z3z];omega
  have hb:CD s=false:=by unfold CD;rw[z4z (show ¬ s.length<=30 by omega)];simp
  refine gS1 (aI e1 (aI e2 (aI hb @Tryz.results32))) ?_;try exact⟨⟩
 have e2:decide (30<(s.length:Int))=false:=by rw[Gz];omega
 refine gS1 (aI e1 e2) ?_
 refine F4 s.length (fun k fr Z'=>fr.get 3=some (.int .i64 k)/\fr.get 0=some (str s)/\Z'=Z/\(∀ i c,i<k->s[i]? =some c->Bw c.toNat=true)/\(∀ c,0<k->s[0]? =some c->Di c.toNat=true))
  (fun r=>(∃ fr,r=⟨.exit 0,fr,Z⟩/\CD s=true)\/∃ fr,r=⟨.ret,fr,Z⟩/\fr.get 2=some (.bool false)/\CD s=false) ?_ ?_ ?_ ?_
 ·exact⟨fR,fR,rfl,fun i c h=>om,fun c h=>om⟩
 ·rintro k fr Z' hk ⟨g3,g0,rfl,ha,hb⟩;have hc:=J2 hk;obtain⟨c,hck⟩:=E8 hk;have hs:=N3 hck;refine gS1 (aI g3 (aI g0 (aI hc (aI hs @I4)))) ?_;refine Jh.mono ?_;rintro r rfl;refine gS1 (aI g3 (aI g0 (aI hs @I4))) ?_;refine Ld.mono ?_;rintro r rfl;have no:∀ x,(∀ d∈s,Bw d.toNat=true)=x->True:=fun _ _=>trivial;cases q1:Bw c.toNat with
  | false=>
    have hn:CD s=false:=by
     unfold CD;have:(s.all fun c=>Bw c.toNat)=false:=by
      rw[dh];intro h;rw[HA]at h;have:=h c (W8 hck);rw[q1]at this;cases this
     rw[this];simp
    refine gS1 (aI g3 (aI g0 q1)) ?_;exact Or.inr ⟨_,rfl,fR,hn⟩
  | true=>
    by_cases k0:k=0
    ·subst k0;have e3:decide (((0:Nat):Int)=0)=true:=by decide
     cases q2:Di c.toNat with
     | false=>
       have hn:CD s=false:=by
        cases s with
        |nil=>rfl
        |cons d s=>cases hck;unfold CD;simp only[q2,Ge]
       refine gS1 (aI g3 (aI g0 (aI q1 (aI q2 e3)))) ?_;exact Or.inr ⟨_,rfl,fR,hn⟩
     | true=>
       refine gS1 (aI g3 (aI g0 (aI q1 (aI q2 e3)))) ?_;refine⟨fR,fR1 g0,by trivial,fun i d hi hd=>?_,fun d _ hd=>?_⟩
       ·obtain rfl:i=0:=om;rw[hck]at hd;cases hd;exact q1
       ·rw[hck]at hd;cases hd;exact q2
    ·have e3:decide ((k:Int)=0)=false:=by rw[Gz];omega
     refine gS1 (aI g3 (aI g0 (aI q1 e3))) ?_;refine⟨fR,fR1 g0,by trivial,fun i d hi hd=>?_,fun d _ hd=>hb d om hd⟩;by_cases e:i=k
     ·subst e;rw[hck]at hd;cases hd;exact q1
     ·exact ha i d om hd
 ·rintro fr Z' ⟨g3,g0,rfl,ha,hb⟩;refine gS1 (aI g3 g0) ?_;refine Or.inl ⟨_,rfl,?_⟩;unfold CD;rw[Aq (show 0<s.length by omega),Aq (show s.length<=30 by omega)];have:(s.all fun c=>Bw c.toNat)=true:=by
   rw[HA];intro c hc;obtain⟨i,hi,he⟩:=List.mem_iff_getElem.1 hc;exact ha i c hi (by rw[List.getElem?_eq_getElem hi,he])
  rw[this];cases s with
  |nil=>simp at h1
  |cons c s=>simpa using hb c (by simp) rfl
 rintro r (⟨fr,rfl,hn⟩|⟨fr,rfl,g2,hn⟩)
 ·refine gS1 (aI hn @Tryz.results32) ?_;try exact⟨⟩
 ·refine gS1 (aI g2 (aI hn @Tryz.results32)) ?_;try exact⟨⟩
def NP (s:By):Bool:=CD s&& !decide (s=[112,114,105,99,101])&& !decide (s=[108,111,119])&& !decide (s=[109,105,110])&& !decide (s=[109,97,120])
def DT:Ev (gO 75 [str s] Z) (fun r=>r=⟨false,.bool (NP s),Z⟩) ⟨⟩:=by
 refine D0 Tryz.func75 rfl rfl ?_;refine gS ?_;refine Gn.mono ?_;rintro r rfl;unfold NP;cases a:CD s
 ·refine gS1 (aI a (a3N @G9 @H2 @Tryz.results75)) ?_;rfl
 cases b:decide (s=[112,114,105,99,101])
 case true=>refine gS1 (aI a (aI b (a3N @G9 @H2 @Tryz.results75))) ?_;rfl
 cases c:decide (s=[108,111,119])
 case true=>refine gS1 (aI a (aI b (aI c (a3N @G9 @H2 @Tryz.results75)))) ?_;rfl
 cases d:decide (s=[109,105,110])
 case true=>refine gS1 (aI a (aI b (aI c (aI d (a3N @G9 @H2 @Tryz.results75))))) ?_;rfl
 cases e:decide (s=[109,97,120])<;>refine gS1 (aI a (aI b (aI c (aI d (aI e (a3N @G9 @H2 @Tryz.results75)))))) ?_<;>rfl
end
def Aa2 (s:By):Nat:=match s with
 | []=>0
 |c::_=>L7 s 0 c
def AF9:Nat->By->List By
 |0,_=>[]
 | f+1,s=>match s with
   | []=>[]
   |c::r=>if c=32 then AF9 f r else s.take (Aa2 s)::AF9 f (s.drop (Aa2 s))
def lex (s:By):List By:=AF9 s.length s
def lvl (op:By):Nat:=if op=[43]\/op=[45]then 0 else if op=[42]\/op=[47]then 1 else 2
def dgt (n:Nat):UInt8:=UInt8.ofNat (48+n % 10)
def dcF:Nat->Nat->By
 |0,_=>[]
 |f+1,n=>if n<10 then[dgt n]else dcF f (n / 10)++[dgt n]
def dcN (n:Nat):By:=dcF (n+1) n
def frT:Nat->Nat->Nat->By
 |0,_,_=>[]
 |f+1,r,D=>if r=0 then[]else dcN (10*r / D)++frT f (10*r % D) D
def deT (n d:Int):By:=dcN (n.toNat / d.toNat)++(if n.toNat % d.toNat=0 then[]else 46::frT 6 (n.toNat % d.toNat) d.toNat)
def par (b:Bool) (s:By):By:=if b=true then 40::(s++[41])else s
def Av8 (b:Bool) (s:List By):List By:=if b=true then[40]::(s++[[41]])else s
def Az:Nat->Nat->Ex->By
 |0,_,_=>[]
 | f+1,I3,.mk op n d nm args=>par (decide (lvl op<I3)) (if op=CJ then deT n d else if op=nmB then nm else match args with
   | [a,b]=>if op=GJ\/op=HC then op++40::(Az f 0 a++44::32::(Az f 0 b++[41]))else Az f (lvl op) a++32::(op++32::Az f (lvl op+1) b)
   |_=>[])
def OU:Nat->Nat->Ex->List By
 |0,_,_=>[]
 | f+1,I3,.mk op n d nm args=>Av8 (decide (lvl op<I3)) (if op=CJ then[deT n d]else if op=nmB then[nm]else match args with
   | [a,b]=>if op=GJ\/op=HC then op::[40]::(OU f 0 a++[44]::(OU f 0 b++[[41]]))else OU f (lvl op) a++op::OU f (lvl op+1) b
   |_=>[])
structure RQ (n d:Int):Prop where
 n1: -1000000000<n
 n2:n<=1000000000*d
 d1:1<=d
 d2:d<1000000000
 low:Int.gcd n d=1
structure Ni (n d:Int):Prop where
 rq:RQ n d
 n0:0<=n
 d6:(1000000:Int) % d=0
 lex:(∃ c w,deT n d=c::w/\(c::w).all (on F0)=true)\/∃ c w x v,deT n d=c::w++46::x::v/\(c::w).all (on F0)=true/\(x::v).all (on F0)=true
 dec:∀ A1 k p,(A9 A1 k).1=deT n d->Lx A1 k p= .ok (.mk CJ n d [] [],1,k+1,p+1)
inductive FW:Nat->Nat->Ex->Prop
 |num {n d:Int} (h:Ni n d):FW 1 1 (.mk CJ n d [] [])
 |name {nm:By} (h1:BB nm=true) (h2:nm≠GJ) (h3:nm≠HC):FW 1 1 (.mk nmB 0 0 nm [])
 |bin {k j m i:Nat}{o:By}{a b:Ex} (h:o=[43]\/o=[45]\/o=[42]\/o=[47]) (ha:FW k m a) (hb:FW j i b):FW (1+max k j) (m+i+1) (.mk o 0 0 [] [a,b])
 |mm {k j m i:Nat}{o:By}{a b:Ex} (h:o=GJ\/o=HC) (ha:FW k m a) (hb:FW j i b):FW (1+max k j) (m+i+1) (.mk o 0 0 [] [a,b])
def FW.pos {k m:Nat}{e:Ex}(h:FW k m e):1<=k/\1<=m:=by cases h<;>omega
section
variable {n d:Int}{Z:St}{a b:Nat}
def qn (n d:Int):Int:=(if d<0 then -n else n) / (Int.gcd n d:Nat)
def qd (n d:Int):Int:=(if d<0 then -d else d) / (Int.gcd n d:Nat)
def sS:Nat.gcd b (a % b)=Nat.gcd a b:=by
 rw[SI b,<- lW,SI]
def Lim (n:Int):Prop:= -4000000000000000000<=n/\n<=4000000000000000000
def Jj:(a:Int).tmod (b:Int)=((a % b:Nat):Int):=rfl
def ZM {g:Nat}(h:(g:Int)∣n):n.tdiv g=n / g:=Int.tdiv_eq_ediv_of_dvd h
def Cq {a b:Int}:(a==b)=decide (a=b):=by rw[z7z];simp
def Ca {a b:Bool}:bi a (some b) (some false)=some (a&&b):=by cases a<;>rfl
def AK {x y:Operand}{a b c:Int}:Bi Tryz.prog .eql 32 x y (.agg ⟨[.int .i64 a,.int .i64 b]⟩) (.agg ⟨[.int .i64 c,.int .i64 d]⟩)=some (.bool (decide (a=c)&&decide (b=d))) /\
  Bi Tryz.prog .neq 32 x y (.agg ⟨[.int .i64 a,.int .i64 b]⟩) (.agg ⟨[.int .i64 c,.int .i64 d]⟩)=some (.bool (!(decide (a=c)&&decide (b=d)))):=by
 have he:eqF Tryz.prog 9999 ⟨[.int .i64 a,.int .i64 b]⟩ ⟨[.int .i64 c,.int .i64 d]⟩ (Tryz.prog.fieldsOf 32).toList=bi (a==c) (bi (b==d) (some true) (some false)) (some false):=kR;have h:=IH (x:=x) (y:=y) rfl kR kR kR he;rw[Ca,Ca,Cq,Cq,WE]at h;exact h
def WG (h1:Lim n) (h2:Lim d) (h3:d≠0):
  Ev (gO 80 [.int .i64 n,.int .i64 d] Z) (fun r=>∃ Z',r=⟨false,.agg ⟨[.int .i64 (qn n d),.int .i64 (qd n d)]⟩,Z'⟩/\Ext Z Z') ⟨⟩:=by
 obtain⟨a1,a2⟩:=h1;obtain⟨b1,b2⟩:=h2;obtain⟨N,hN⟩:=nm ((if d<0 then -n else n));obtain⟨D,hD⟩:=nm ((if d<0 then -d else d));have AU5:Int.gcd n d=Nat.gcd N.natAbs D.natAbs:=by
  have h1:N.natAbs=n.natAbs:=by rw[<- hN];split<;>omega
  have h2:D.natAbs=d.natAbs:=by rw[<- hD];split<;>omega
  unfold Int.gcd;rw[h1,h2]
 have hDp:0<D:=by rw[<- hD];split<;>omega
 have hDl:D<=4000000000000000000:=by rw[<- hD];split<;>omega
 have hNl: -4000000000000000000<=N/\N<=4000000000000000000:=by rw[<- hN];split<;>omega
 have e3:IntKind.i64.wrap (0-N)= -N:=by rw[wrap64_in om om];omega
 have hmx:max N (-N)=(N.natAbs:Int):=om;have hDn:D=(D.natAbs:Int):=om;have hq1:qn n d=N / (Nat.gcd N.natAbs D.natAbs:Nat):=by unfold qn;rw[hN,AU5]
 have hq2:qd n d=D / (Nat.gcd N.natAbs D.natAbs:Nat):=by unfold qd;rw[hD,AU5]
 rw[hq1,hq2];have hg0:Nat.gcd N.natAbs D.natAbs≠0:=fun h=>by have:=Nat.eq_zero_of_gcd_eq_zero_right h;omega
 have hgN:((Nat.gcd N.natAbs D.natAbs:Nat):Int)∣N:=Int.ofNat_dvd_left.2 (Nat.gcd_dvd_left _ _);have hgD:((Nat.gcd N.natAbs D.natAbs:Nat):Int)∣D:=Int.ofNat_dvd_left.2 (Nat.gcd_dvd_right _ _);obtain⟨g,hg⟩:=nm (Nat.gcd N.natAbs D.natAbs);rw[hg]at hg0 hgN hgD ⊢;have hgi:(g:Int)≠0:=om;have c1:N.tdiv g=N / g:=ZM hgN;have c2:D.tdiv g=D / g:=ZM hgD;have hb1: -4000000000000000000<=N / (g:Int)/\N / (g:Int)<=4000000000000000000:=by
  obtain⟨k,hk⟩:=hgN;rw[hk,sE _ hgi];have hg1:1<=(g:Int):=om;constructor
  ·rcases Int.le_total 0 k with h|h
   ·omega
   ·have:=Int.mul_le_mul_of_nonpos_right hg1 h;omega
  ·rcases Int.le_total 0 k with h|h
   ·have:=Int.mul_le_mul_of_nonneg_right hg1 h;omega
   ·omega
 have hb2:0<=D / (g:Int)/\D / (g:Int)<=4000000000000000000:=by
  refine⟨Int.ediv_nonneg om om,Int.le_trans (Int.ediv_le_self _ om) hDl⟩
 have w1:IntKind.i64.wrap (N / (g:Int))=N / (g:Int):=wrap64_in om om;have w2:IntKind.i64.wrap (D / (g:Int))=D / (g:Int):=wrap64_in om om;refine D0 Tryz.func80 rfl rfl ?_;have cI:(decide (d<0)=true/\IntKind.i64.wrap (0-n)=N/\IntKind.i64.wrap (0-d)=D)\/(decide (D<0)=false/\n=N/\d=D):=by
  by_cases hd:d<0
  ·rw[z1z hd]at hN hD;exact .inl ⟨by simpa using hd,by rw[wrap64_in om om];omega,by rw[wrap64_in om om];omega⟩
  ·rw[z0z hd]at hN hD;exact .inr ⟨by rw[<- hD];simpa using hd,hN,hD⟩
 clear hN hD AU5 hq1 hq2;rcases cI with⟨hc,e1,e2⟩|⟨hc,e1,e2⟩
 all_goals
  refine gS1 (aI hc (aI e1 (aI e2 (aI e3 hmx)))) ?_
  refine V9 (fun m fr Z'=>∃ a:Nat,fr.get 0=some (.int .i64 N)/\fr.get 1=some (.int .i64 D)/\fr.get 4=some (.pointer (some ⟨Z.n,0,none⟩))/\fr.get 5=some (.int .i64 (a:Int))/\fr.get 6=some (.int .i64 (m:Int))/\Z'=Z.new [.int .i64 0,.int .i64 0] (some 32)/\Nat.gcd a m=g)
   (fun r=>∃ fr,r=⟨.exit 0,fr,Z.new [.int .i64 0,.int .i64 0] (some 32)⟩/\fr.get 0=some (.int .i64 N)/\fr.get 1=some (.int .i64 D)/\fr.get 4=some (.pointer (some ⟨Z.n,0,none⟩))/\fr.get 5=some (.int .i64 (g:Int))) D.natAbs ?_ ?_ ?_
  ·exact⟨N.natAbs,fR1 (And.intro e1 e2),fR1 (And.intro e1 e2),fR1 (And.intro e1 e2),fR1 (And.intro e1 e2),by rw[<- hDn];exact fR1 (And.intro e1 e2),rfl,hg⟩
  ·rintro m fr Z' ⟨a,g0,g1,g4,g5,g6,rfl,hgc⟩;by_cases hm:0<m
   ·have hc':decide ((0:Int)<(m:Int))=true:=by simpa using hm
    have hm0:(m:Int)≠0:=om;refine gS1 (aI g0 (aI g1 (aI g4 (aI g5 (aI g6 (aI hc' (aI @Jj @H6))))))) ?_;refine⟨a % m,Hg _ hm,m,fR1 g0,fR1 g1,fR1 g4,fR,fR,by trivial,by rw[sS];exact hgc⟩
   ·obtain rfl:m=0:=om;have hc':decide ((0:Int)<((0:Nat):Int))=false:=by decide
    rw[lV]at hgc;subst hgc;refine gS1 (aI g0 (aI g1 (aI g4 (aI g5 (aI g6 (aI hc' @Q9)))))) ?_;exact⟨_,rfl,fR1 g0,fR1 g1,fR1 g4,fR1 g5⟩
  ·rintro r ⟨fr,rfl,g0,g1,g4,g5⟩;refine gS1 (aI g0 (aI g1 (aI g4 (aI g5 (aI c1 (aI c2 (aI w1 (aI w2 @Tryz.results80)))))))) ?_;exact⟨_,rfl,eX⟩
def ZN (h1: -1000000000<n) (h2:n<1000000000):Ev (gO 79 [.int .i64 n] Z) (fun r=>r=⟨false,.bool true,Z⟩) ⟨⟩:=by
 have c1:decide (-1000000000<n)=true:=by simpa using h1
 have c2:decide (n<1000000000)=true:=by simpa using h2
 refine D0 Tryz.func79 rfl rfl ?_;refine gS1 (aI c1 (aI c2 (a3N @G9 @H2 @Tryz.results79))) ?_;try exact⟨⟩
def WT (h1: -1000000000<n) (h2:n<1000000000) (h3: -1000000000<d) (h4:d<1000000000) (h5:d≠0):
  Ev (gO 37 [.int .i64 n,.int .i64 d] Z) (fun r=>∃ Z',r=⟨false,.tuple ⟨[.agg ⟨[.int .i64 (qn n d),.int .i64 (qd n d)]⟩,.bool true]⟩,Z'⟩/\Ext Z Z') ⟨⟩:=by
 have c5:decide (d=0)=false:=by simpa using h5
 refine D0 Tryz.func37 rfl rfl ?_;refine gS1 c5 ?_;refine(ZN h1 h2).mono ?_;rintro r rfl;refine gS1 @G9 ?_;refine(ZN h3 h4).mono ?_;rintro r rfl;refine gS ?_;refine(WG ⟨om,om⟩ ⟨om,om⟩ h5).mono ?_;rintro r ⟨Z2,rfl,e2⟩;have n2:=e2.n;have o2:Z2.A7 Z.n=some [.int .i64 0,.int .i64 0]:=eT (e2.A7 (cL)) cL;have hE:Ext Z Z2:=Ext.trans (eX) e2;refine gS1 (aI o2 @Tryz.results37) ?_;exact⟨_,rfl,eX⟩
def Zp (n d:Int):Value:= .agg ⟨[.int .i64 n,.int .i64 d]⟩
def zL (h:d≠0):Int.gcd (qn n d) (qd n d)=1/\1<=qd n d:=by
 obtain⟨N,hN⟩:=nm ((if d<0 then -n else n));obtain⟨D,hD⟩:=nm ((if d<0 then -d else d));have hDp:0<D:=by rw[<- hD];split<;>omega
 have hg:Int.gcd n d=Int.gcd N D:=by rw[<- hN,<- hD];split<;>simp[Int.gcd]
 unfold qn qd;rw[hN,hD,hg];have hg0:0<Int.gcd N D:=Int.gcd_pos_of_ne_zero_right _ om;obtain⟨k,hk⟩:((Int.gcd N D:Nat):Int)∣N:=Int.gcd_dvd_left _ _;obtain⟨m,hm⟩:((Int.gcd N D:Nat):Int)∣D:=Int.gcd_dvd_right _ _;obtain⟨g,hgg⟩:=nm (Int.gcd N D);rw[hgg]at hk hm hg0 ⊢;have hgi:(0:Int)<(g:Int):=om;have e1:N / (g:Int)=k:=by rw[hk,sE _ om]
 have e2:D / (g:Int)=m:=by rw[hm,sE _ om]
 rw[e1,e2];refine⟨?_,?_⟩
 ·rw[hk,hm,Int.gcd_mul_left,Int.natAbs_natCast]at hgg;exact zn hg0 (by rw[hgg,Df])
 ·rcases Int.lt_or_le 0 m with h|h
  ·omega
  ·exfalso;have:=Int.mul_nonpos_of_nonneg_of_nonpos (Int.le_of_lt hgi) h;omega
def AD0 (h:1<=d) (hg:Int.gcd n d=1):qn n d=n/\qd n d=d:=by
 unfold qn qd;rw[z0z om,z0z om,hg];simp
end
section
variable {l:List Nat}{a c b:Code}{n k i:Nat}
def UP (J:Nat->Fr->St->Prop) (R:Res->Prop) (n k:Nat) (r:Res):Prop:=match r.o with
 | .normal=>k+1<=n/\J (k+1) r.fr r.Z
 |_=>R r
section
variable {P:Program}{H:EW}{rd:Option Nat}{fr:Fr}{Z:St}
def Jx {J:Nat->Fr->St->Prop}{R:Res->Prop}:UP J R n k ⟨.normal,fr,Z⟩=(k+1<=n/\J (k+1) fr Z):=rfl
def OY {J:Nat->Fr->St->Prop}{R:Res->Prop}:UP J R n k ⟨.exit i,fr,Z⟩=R ⟨.exit i,fr,Z⟩:=rfl
def GM {body:Code}{Q:Res->Prop}{u:Hd Q}(n:Nat) (J:Nat->Fr->St->Prop) (R:Res->Prop) (h0:J 0 fr Z)
  (hs:∀ k fr Z,k<=n->J k fr Z->Ev (lim P H rd body fr Z) (UP J R n k) ⟨⟩) (hR:∀ r,R r->Q r) :
  Ev (lim P H rd (.loop body) fr Z) Q u:=by
 refine V9 (fun j fr Z=>∃ k,j+k=n/\J k fr Z) R n ⟨0,om,h0⟩ ?_ hR;rintro j fr Z ⟨k,hk,hJ⟩;refine(hs k fr Z om hJ).mono ?_;rintro⟨o,fr',Z'⟩ hq;cases o with
 |normal=>exact⟨n-(k+1),by have:=hq.1;omega,k+1,by have:=hq.1;omega,hq.2⟩
 |exit i=>exact hq
 |ret=>exact hq
 |pan v=>exact hq
end
def HF:List Nat->Code->Code
 | [],c=>c
 |0::l,.seq a _=>HF l a
 |1::l,.seq _ b=>HF l b
 |2::l,.block _ b=>HF l b
 |3::l,.loop b=>HF l b
 |_::_,c=>c
def M0:HF [] c=c:=rfl
def BP:HF (0::l) (.seq a b)=HF l a:=rfl
def BQ:HF (1::l) (.seq a b)=HF l b:=rfl
def BR:HF (2::l) (.block i a)=HF l a:=rfl
def BS:HF (3::l) (.loop a)=HF l a:=rfl
def J4 {d:Code}:(some c).getD d=c:=rfl
end
section
variable {l a b:List Nat}{d k:Nat}
def G7:List Nat->Nat
 | []=>0
 |d::l=>d+65536*G7 l
def Dig (l:List Nat):Prop:=∀ d∈l,d<65536
def Trm (l:List Nat):Prop:=∀ d,l.getLast? =some d->d≠0
def QT:G7 []=0:=rfl
def Y5:G7 (d::l)=d+65536*G7 l:=rfl
def QU:∀ {a b:List Nat},G7 (a++b)=G7 a+65536 ^ a.length*G7 b
 | [],b=>by simp[G7]
 | d::a,b=>by
   rw[OO,Y5,Y5,QU,Ah,GO,Ri];rw[<- EV,CG 65536 (65536 ^ a.length)];omega
def Ht:G7 (a++[d])=G7 a+65536 ^ a.length*d:=by
 rw[QU,Y5,QT,aJ,Ej]
def Sx {α:Type}{l:List α}{d:α}(h:l[k]? =some d):l.take (k+1)=l.take k++[d]:=by
 rw[Dj,h];rfl
def CW {α:Type}{l:List α}(h:k<=l.length):(l.take k).length=k:=by rw[Dh];omega
def De (h:l[k]? =some d):G7 (l.take (k+1))=G7 (l.take k)+65536 ^ k*d:=by
 have hk:=(List.getElem?_eq_some_iff.1 h).1;rw[Sx h,Ht,CW om]
def Dig.nil:Dig []:=fun d h=>by cases h
def Dig.snoc (h:Dig l) (hd:d<65536):Dig (l++[d]):=fun x hx=>by
 rcases DK.1 hx with hx|hx
 ·exact h x hx
 ·rw[GK]at hx;rw[hx];exact hd
def Dig.cons (h:Dig l) (hd:d<65536):Dig (d::l):=fun x hx=>by
 rcases BJ.1 hx with rfl|hx
 ·exact hd
 ·exact h x hx
def Dig.take (h:Dig l) (k:Nat):Dig (l.take k):=fun x hx=>h x (Ve hx)
def Dig.get (h:Dig l)(hk:l[k]? =some d):d<65536:=h d (W8 hk)
def KC:∀ {l:List Nat},Dig l->G7 l<65536 ^ l.length
 | [],_=>by simp[G7]
 | d::l,h=>by
   have h1:=h d (IU ..);have h2:=KC (l:=l) fun x hx=>h x (GH _ hx);rw[Y5,Ah,GO];have:G7 l+1<=65536 ^ l.length:=h2;have:=Vj 65536 this;omega
def Trm.nil:Trm []:=fun d h=>by simp at h
def Trm.le (h:Trm l) (h0:l≠[]):65536 ^ (l.length-1)<=G7 l:=by
 have e:=oL h0;have hl:l.getLast h0≠0:=h _ (List.getLast?_eq_some_getLast h0);rw[<- e,Ht,BD,List.length_dropLast];have:65536 ^ (l.length-1)*1<=65536 ^ (l.length-1)*l.getLast h0:=Vj _ om;simp only[Ah,JH];rw[show l.length-1+(0+1)-1=l.length-1 by omega];omega
def Trm.zero (h:Trm l) (h0:G7 l=0):l=[]:=by
 by_cases hn:l=[]
 ·exact hn
 ·have:=h.le hn;have:0<65536 ^ (l.length-1):=Wl om;omega
def Trm.len (ha:Dig a) (hb:Trm b) (h:a.length<b.length):G7 a<G7 b:=by
 have h1:=KC ha;have h2:=hb.le (fun e=>by rw[e]at h;simp at h);have:65536 ^ a.length<=65536 ^ (b.length-1):=Uh om om;omega
def TE (hk:k<=l.length):G7 l=G7 (l.take k)+65536 ^ k*G7 (l.drop k):=by
 have h:=QU (a:=l.take k) (b:=l.drop k);rw[zb,CW hk]at h;exact h
def Su (ha:Dig a) (hl:a.length=b.length){x y:Nat}(hx:a[k]? =some x) (hy:b[k]? =some y) (hd:a.drop (k+1)=b.drop (k+1)) (hxy:x<y):G7 a<G7 b:=by
 have k1:=(List.getElem?_eq_some_iff.1 hx).1;have k2:=(List.getElem?_eq_some_iff.1 hy).1;rw[TE (l:=a) (k:=k+1) om,TE (l:=b) (k:=k+1) om,hd,De hx,De hy];have h1:=KC (ha.take k);rw[CW om]at h1;have h2:65536 ^ k*(x+1)<=65536 ^ k*y:=Vj _ hxy;rw[Ri,Df]at h2;omega
def Hm (ha:Dig a) (hb:Dig b) (ta:Trm a) (tb:Trm b) (h:G7 a=G7 b):a=b:=by
 have hl:a.length=b.length:=by
  rcases aZ a.length b.length with h1|h1|h1
  ·have:=Trm.len ha tb h1;omega
  ·exact h1
  ·have:=Trm.len hb ta h1;omega
 clear ta tb;induction a generalizing b with
 | nil=>cases b with
   |nil=>rfl
   |cons y b=>simp at hl
 | cons x a ih=>
   cases b with
   |nil=>simp at hl
   | cons y b=>
     have h1:=ha x (IU ..);have h2:=hb y (IU ..);rw[Y5,Y5]at h;have e1:x=y:=om;have e2:G7 a=G7 b:=om;rw[e1,ih (fun d hd=>ha d (GH _ hd)) (fun d hd=>hb d (GH _ hd)) e2 (by simpa using hl)]
end
section
variable {l:List Nat}{Z:St}{v:Value}{cells:List Value}{off n k:Nat}
def dgv (d:Nat):Value:= .int .i64 (d:Int)
def DN (Z:St) (v:Value) (l:List Nat):Prop:=(v= .slice none 0 0/\l=[])\/∃ b off sp c cells,v= .slice (some ⟨b,off,sp⟩) l.length c/\l.length<=c/\(sp=none\/sp=some 1)/\b<Z.n/\Z.row b=some cells/\sub cells off l.length=some (l.map dgv)
def DN.mono {Z':St}(h:DN Z v l) (hE:Ext Z Z'):DN Z' v l:=by
 rcases h with h|⟨b,off,sp,c,cells,h1,h2,h3,h4,h5,h6⟩
 ·exact .inl h
 ·exact .inr ⟨b,off,sp,c,cells,h1,h2,h3,z5z h4 hE.n,by rw[hE.row h4];exact h5,h6⟩
def DN.shape (h:DN Z v l):∃ a c,v= .slice a l.length c:=by
 rcases h with⟨rfl,rfl⟩|⟨b,off,sp,c,cells,h1,-⟩
 ·exact⟨_,_,rfl⟩
 ·exact⟨_,_,h1⟩
def dv (h:sub cells off n=some (l.map dgv)){d:Nat}(hk:l[k]? =some d):sub cells (off+k) 1=some [dgv d]:=by
 obtain⟨h1,h2⟩:=sub_eq h;obtain⟨hl,hd⟩:=List.getElem?_eq_some_iff.1 hk;have e:=congrArg List.length h2;rw[z2z,Dh,Ei]at e;rw[V7 om];congr 1;have h3:=congrArg (fun z=>z[k]?) h2;rw[List.getElem?_map,hk,List.getElem?_take,z1z om,List.getElem?_drop]at h3;rw[LW (show off+k<cells.length by omega)];rw[List.getElem?_eq_getElem (show off+k<cells.length by omega)]at h3;simp only[SH,Option.some.injEq]at h3;rw[<- h3];rfl
def ue (h:sub cells off n=some (l.map dgv))(hk:k<=l.length):sub cells off k=some ((l.take k).map dgv):=by
 obtain⟨h1,h2⟩:=sub_eq h;have e:=congrArg List.length h2;rw[z2z,Dh,Ei]at e;rw[V7 om,List.map_take,h2,Sw,Um om]
def Ds (h:DN Z v l) (hl:l.length<=1000):
  Ev (gO 125 [v] Z) (fun r=>∃ v' l',r=⟨false,v',Z⟩/\DN Z v' l'/\(∃ k,l'=l.take k)/\Trm l'/\G7 l'=G7 l/\I2 v'=I2 v) ⟨⟩:=by
 obtain⟨a,c,rfl⟩:=h.shape;refine D0 Tryz.func125 rfl rfl ?_;refine gU1 (aI @A4 @D3) ?_
 refine GM l.length (fun j fr τ=>τ=Z/\∃ v',fr.get 0=some v'/\DN Z v' (l.take (l.length-j))/\G7 (l.take (l.length-j))=G7 l/\I2 v'=I2 (.slice a l.length c))
  (fun r=>∃ fr v' l',r=⟨.exit 0,fr,Z⟩/\fr.get 0=some v'/\DN Z v' l'/\(∃ k,l'=l.take k)/\Trm l'/\G7 l'=G7 l/\I2 v'=I2 (.slice a l.length c)) ?_ ?_ ?_
 ·exact⟨rfl,_,fR,by rw[Oq,Bl];exact h,by rw[Oq,Bl],rfl⟩
 ·rintro j fr τ hj ⟨rfl,v',g0,hd,hv,hbk⟩;obtain⟨m,hm⟩:=nm (l.length-j);rw[hm]at hd hv;have hlen:(l.take m).length=m:=CW om;rcases hd with⟨rfl,lf⟩|⟨b,off,sp,cc,cells,rfl,hc,hsp,hb,hr,hs⟩
  ·have d0:decide ((0:Int)<((0:Nat):Int))=false:=rfl;refine gU1 (aI @A4 (aI @D3 (aI g0 d0))) ?_;rw[lf]at hv;exact⟨_,_,_,rfl,fR1 g0,.inl ⟨rfl,rfl⟩,⟨0,rfl⟩,Trm.nil,hv,by exact hbk⟩
  ·rw [hlen]at hc hs;rw[hlen]at g0;cases m with
   | zero=>
     have d0:decide ((0:Int)<((0:Nat):Int))=false:=rfl;refine gU1 (aI @A4 (aI @D3 (aI g0 d0))) ?_;exact⟨_,_,[],rfl,fR1 g0,.inr ⟨b,off,sp,cc,cells,rfl,y9 _,hsp,hb,hr,by rw[WR]at hs;exact hs⟩,⟨0,by rw[WR]⟩,Trm.nil,by rw[<- hv,WR],by exact hbk⟩
   | succ m=>
     obtain⟨d,hd⟩:=E8 (l:=l) (k:=m) om;have hd':(l.take (m+1))[m]? =some d:=by rw[List.getElem?_take,z1z om];exact hd
     have e1:=dv hs hd';unfold dgv at e1;have c0:decide ((0:Int)<((m+1:Nat):Int))=true:=dT;have em:((m+1:Nat):Int)-1=(m:Nat):=om;have hlt:Nat.blt m (m+1)=true:=by rw[DC];omega
     have hsa:sliceAt 1 (some ⟨b,off,sp⟩) 0 m cc=some (.slice (some ⟨b,off,sp⟩) m cc):=by
      rcases hsp with rfl|rfl
      ·rfl
      ·rw[uf];rfl
     cases dz:decide ((d:Int)=0)with
     | true=>
       have hz:d=0:=by have:=z6z dz;omega
       refine gU1 (aI @A4 (aI @D3 (aI g0 (aI c0 (aI em (aI hr (aI e1 (aI dz (aI hlt hsa))))))))) ?_;have e9:l.length-(j+1)=m:=om;have hvm:G7 (l.take m)=G7 l:=by rw[<- hv,De hd,hz,aJ,Ej]
       refine⟨om,rfl,_,fR,.inr ⟨b,off,sp,cc,cells,by rw[e9,CW om],by rw[e9,CW om];omega,hsp,hb,hr,?_⟩,by rw[e9];exact hvm,by exact hbk⟩;rw[e9,CW om];have:=ue hs (k:=m) (by rw[CW om];omega);rw[Sw,Um om]at this;exact this
     | false=>
       have hz:d≠0:=by have:=z9z dz;omega
       refine gU1 (aI @A4 (aI @D3 (aI g0 (aI c0 (aI em (aI hr (aI e1 (aI dz hlt)))))))) ?_;refine⟨_,_,l.take (m+1),rfl,fR1 g0,.inr ⟨b,off,sp,cc,cells,by rw[CW om],by rw[CW om];omega,hsp,hb,hr,by rw[CW om];exact hs⟩,⟨_,rfl⟩,fun x hx=>?_,hv,by exact hbk⟩;rw[Sx hd,List.getLast?_concat]at hx;cases hx;exact hz
 ·rintro r ⟨fr,v',l',rfl,g0,hd,hk,ht,hv,hbk⟩;obtain⟨a',c',rfl⟩:=hd.shape;refine gU1 (aI @A4 (aI @D3 (aI g0 @Tryz.results125))) ?_;exact⟨_,l',rfl,hd,hk,ht,hv,hbk⟩
end
section
variable {x y:Nat}{Z:St}{v:Value}
def QB (x y:Nat):Int:=if x<y then -1 else if x=y then 0 else 1
def dt (h:x<y):QB x y= -1:=z1z h
def uS:QB x x=0:=by unfold QB;rw[z0z om,z1z rfl]
def du (h:y<x):QB x y=1:=by unfold QB;rw[z0z om,z0z om]
def DN.use {l:List Nat}(h:DN Z v l):∃ a c b off cells,v= .slice a l.length c/\(0<l.length->∃ sp,a=some ⟨b,off,sp⟩/\b<Z.n/\Z.row b=some cells)/\∀ k d,l[k]? =some d->sub cells (off+k) 1=some [.int .i64 ((d:Nat):Int)]:=by
 rcases h with⟨rfl,rfl⟩|⟨b,off,sp,c,cells,h1,h2,h3,h4,h5,h6⟩
 ·exact⟨none,0,0,0,[],rfl,fun h=>by simp at h,fun k d h=>by simp at h⟩
 ·exact⟨_,c,b,off,cells,h1,fun _=>⟨sp,rfl,h4,h5⟩,fun k d hk=>dv h6 hk⟩
def Pn {w:Value}{a b:List Nat}(ha:DN Z v a) (hb:DN Z w b) (da:Dig a) (db:Dig b) (ta:Trm a) (tb:Trm b) (la:a.length<=1000) (lb:b.length<=1000):
  Ev (gO 163 [v,w] Z) (fun r=>r=⟨false,.int .i64 (QB (G7 a) (G7 b)),Z⟩) ⟨⟩:=by
 obtain⟨aa,ac,ab,ao,acs,rfl,a1,a2⟩:=ha.use;obtain⟨ba,bc,bb,bo,bcs,rfl,b1,b2⟩:=hb.use;refine D0 Tryz.func163 rfl rfl ?_;by_cases hl:a.length=b.length
 ·have d1:decide ((a.length:Int)=(b.length:Int))=true:=by simp[hl]
  refine gU1 (aI @A4 (aI @D3 d1)) ?_
  refine GM a.length (fun k fr τ=>τ=Z/\fr.get 5=some (.int .i64 ((a.length:Int)-1-(k:Nat)))/\fr.get 0=some (.slice aa a.length ac)/\fr.get 1=some (.slice ba b.length bc)/\a.drop (a.length-k)=b.drop (a.length-k))
   (fun r=>(∃ fr,r=⟨.exit 0,fr,Z⟩/\a=b)\/∃ fr,r=⟨.ret,fr,Z⟩/\fr.get 4=some (.int .i64 (QB (G7 a) (G7 b)))) ?_ ?_ ?_
  ·exact⟨rfl,by rw[show((a.length:Int)-1-((0:Nat):Int))=(a.length:Int)-1 by omega];exact(fR),fR,fR,by rw[Oq,WW,hl,WW]⟩
  ·rintro k fr τ hk ⟨rfl,g5,g0,g1,hd⟩;by_cases hk2:k=a.length
   ·subst hk2;have e1:((a.length:Int)-1-(a.length:Nat))= -1:=om;rw[e1]at g5;have d2:decide ((-1:Int)<0)=true:=rfl;refine gU1 (aI @A4 (aI @D3 (aI g5 (aI d2 @Gi)))) ?_;rw[gJ,UU,UU]at hd;exact .inl ⟨_,rfl,hd⟩
   ·obtain⟨m,hm⟩:=nm (a.length-1-k);have e1:((a.length:Int)-1-(k:Nat))=((m:Nat):Int):=om;rw[e1]at g5;obtain⟨x,hx⟩:=E8 (l:=a) (k:=m) om;obtain⟨y,hy⟩:=E8 (l:=b) (k:=m) om;obtain⟨sp,rfl,h3,h4⟩:=a1 om;obtain⟨sp',rfl,h3',h4'⟩:=b1 om;have s1:=a2 m x hx;have s2:=b2 m y hy;have c1:decide (((m:Nat):Int)<0)=false:=dF;have l1:Nat.blt m a.length=true:=by rw[DC];omega
    have l2:Nat.blt m b.length=true:=by rw[DC];omega
    have hd1:a.drop (m+1)=b.drop (m+1):=by rw[show m+1=a.length-k by omega];exact hd
    have e2:((m:Nat):Int)-1=(a.length:Int)-1-((k+1:Nat):Int):=om;cases dz:decide (((x:Nat):Int)=((y:Nat):Int))with
    | true=>
      have hxy:x=y:=by have:=z6z dz;omega
      refine gU1 (aI @A4 (aI @D3 (aI g5 (aI g0 (aI g1 (aI c1 (aI l1 (aI l2 (aI h4 (aI h4' (aI s1 (aI s2 dz)))))))))))) ?_;refine⟨om,rfl,by rw[<- e2];exact(fR),fR1 g0,fR1 g1,?_⟩;rw[show a.length-(k+1)=m by omega,LW (show m<a.length by omega),LW (show m<b.length by omega),hd1];have:=(List.getElem?_eq_some_iff.1 hx).2;have:=(List.getElem?_eq_some_iff.1 hy).2;congr 1;omega
    | false=>
      have hxy:x≠y:=by have:=z9z dz;omega
      rcases Nat.lt_or_gt_of_ne hxy with h1|h1
      ·have dl:decide (((x:Nat):Int)<((y:Nat):Int))=true:=dT;refine gU1 (aI @A4 (aI @D3 (aI g5 (aI g0 (aI g1 (aI c1 (aI l1 (aI l2 (aI h4 (aI h4' (aI s1 (aI s2 (aI dz dl))))))))))))) ?_;exact .inr ⟨_,rfl,by rw[dt (Su da hl hx hy hd1 h1)];exact(fR)⟩
      ·have dl:decide (((x:Nat):Int)<((y:Nat):Int))=false:=dF;refine gU1 (aI @A4 (aI @D3 (aI g5 (aI g0 (aI g1 (aI c1 (aI l1 (aI l2 (aI h4 (aI h4' (aI s1 (aI s2 (aI dz dl))))))))))))) ?_;exact .inr ⟨_,rfl,by rw[du (Su db hl.symm hy hx hd1.symm h1)];exact(fR)⟩
  ·rintro r (⟨fr,rfl,e⟩|⟨fr,rfl,g4⟩)
   ·refine gU1 (a3N @A4 @D3 @Tryz.results163) ?_;rw[e,uS]
   ·refine gU1 (aI @A4 (aI @D3 (aI g4 @Tryz.results163))) ?_;try exact⟨⟩
 ·have d1:decide ((a.length:Int)=(b.length:Int))=false:=by simp;omega
  rcases Nat.lt_or_gt_of_ne hl with h1|h1
  ·have d2:decide ((a.length:Int)<(b.length:Int))=true:=dT;rw[dt (Trm.len da tb h1)];refine gU1 (aI @A4 (aI @D3 (aI d1 (aI d2 @Tryz.results163)))) ?_;try exact⟨⟩
  ·have d2:decide ((a.length:Int)<(b.length:Int))=false:=dF;rw[du (Trm.len db ta h1)];refine gU1 (aI @A4 (aI @D3 (aI d1 (aI d2 @Tryz.results163)))) ?_;try exact⟨⟩
end
def DN.zW {lo:Nat}{Z:St}{v:Value}{l:List Nat}(h:OL lo Z 1 v (l.map fun d=>[dgv d])):DN Z v l:=by
 have hfl:(l.map fun d=>[dgv d]).flatten=l.map dgv:=by
  clear h;induction l with
  |nil=>rfl
  |cons d l ih=>rw[SD,Un,ih];rfl
 obtain⟨hr,⟨rfl,h0⟩|⟨b,sp,rfl,hs,h1,h2,h3⟩⟩:=h
 ·exact .inl ⟨rfl,List.map_eq_nil_iff.1 h0⟩
 ·rw[z2z];refine .inr ⟨b,0,sp,l.length,_,rfl,AR _,hs,h2,A6 h3,?_⟩;rw[hfl];exact D8 (by simp) (by simp)
def QE {x y be:Nat}(hx:x<65536) (hy:y<65536) (hb:be<=1):∃ d be',d<65536/\be'<=1/\d+be+y=x+65536*be'/\((be'=1/\decide (((x:Nat):Int)-(be:Nat)-(y:Nat)<0)=true/\((x:Nat):Int)-(be:Nat)-(y:Nat)+65536=(d:Nat))\/(be'=0/\decide (((x:Nat):Int)-(be:Nat)-(y:Nat)<0)=false/\((x:Nat):Int)-(be:Nat)-(y:Nat)=(d:Nat))):=by
 by_cases h:x<be+y
 ·exact⟨x+65536-be-y,1,om,om,om,.inl ⟨rfl,dT,om⟩⟩
 ·exact⟨x-be-y,0,om,om,om,.inr ⟨rfl,dF,om⟩⟩
def Sy {O A B P d be be' x y:Nat}(h:O+B=A+be*P) (hd:d+be+y=x+65536*be'):O+P*d+(B+P*y)=A+P*x+be'*(P*65536):=by
 have e:=congrArg (P*·) hd;simp only[Ri]at e;rw[CG be P]at h;rw[CG be' (P*65536),EV];omega
def mw {Z:St}{v w:Value}{a b:List Nat}(ha:DN Z v a) (hb:DN Z w b) (da:Dig a) (db:Dig b) (la:a.length<=100) (lb:b.length<=100) (hle:G7 b<=G7 a) (hbl:b.length<=a.length) :
  Ev (gO 165 [v,w] Z) (fun r=>∃ v' l Z',r=⟨false,v',Z'⟩/\Ext Z Z'/\DN Z' v' l/\Dig l/\Trm l/\G7 l=G7 a-G7 b/\l.length<=a.length/\∀ k,I2 v'=some k->Z.n<=k) ⟨⟩:=by
 obtain⟨aa,ac,ab,ao,acs,rfl,a1,a2⟩:=ha.use;obtain⟨ba,bc,bb,bo,bcs,rfl,b1,b2⟩:=hb.use;refine D0 Tryz.func165 rfl rfl ?_;refine gU1 (a10N @A4 @N5 @N9 @N6 @K6 @M4 @M5 @K7 @K8 @H8) ?_
 refine F4 a.length (fun i fr τ=>fr.get 7=some (.int .i64 i)/\fr.get 0=some (.slice aa a.length ac)/\fr.get 1=some (.slice ba b.length bc)/\Ext Z τ/\∃ be v o,fr.get 6=some (.int .i64 ((be:Nat):Int))/\fr.get 5=some v/\OL Z.n τ 1 v (o.map fun d=>[dgv d])/\be<=1/\o.length=i/\Dig o/\G7 o+G7 (b.take i)=G7 (a.take i)+be*65536 ^ i)
  (fun r=>∃ fr τ v o,r=⟨.exit 0,fr,τ⟩/\Ext Z τ/\fr.get 5=some v/\OL Z.n τ 1 v (o.map fun d=>[dgv d])/\o.length=a.length/\Dig o/\G7 o=G7 a-G7 b) ?_ ?_ ?_ ?_
 ·exact⟨fR,fR,fR,.refl _,0,_,[],fR,fR,OL.nil,om,rfl,Dig.nil,by simp[G7]⟩
 ·rintro i fr τ hi ⟨g7,g0,g1,hE,be,v,o,g6,g5,ho,hbe,hol,hod,hv⟩;have hc:=J2 hi;have hn:=hE.n;obtain⟨x,hx⟩:=E8 hi;have hx6:=da.get hx;obtain⟨sp,rfl,h3,h4⟩:=a1 om;have s1:=a2 i x hx;have r1:=eT (hE.row h3) h4;have l1:Nat.blt i a.length=true:=by rw[DC];omega
  have e1:((i:Nat):Int)+1=((i+1:Nat):Int):=om;by_cases hib:i<b.length
  ·obtain⟨y,hy⟩:=E8 hib;have hy6:=db.get hy;obtain⟨sp',rfl,h3',h4'⟩:=b1 om;have s2:=b2 i y hy;have r2:=eT (hE.row h3') h4';have l2:Nat.blt i b.length=true:=by rw[DC];omega
   have dib:decide (i<b.length)=true:=by simpa using hib
   obtain⟨d,be',hd6,Au4,hde,hcs⟩:=QE hx6 hy6 hbe;have hv':G7 (o++[d])+G7 (b.take (i+1))=G7 (a.take (i+1))+be'*65536 ^ (i+1):=by
    rw[Ht,hol,De hx,De hy,GO];exact Sy hv hde
   rcases hcs with⟨rfl,dn,ed⟩|⟨rfl,dn,ed⟩
   ·refine gU1 (aI @A4 (aI @N5 (aI @N9 (aI @N6 (aI @K6 (aI @M4 (aI @M5 (aI @K7 (aI @K8 (aI @H8 (aI g7 (aI g0 (aI g1 (aI g6 (aI g5 (aI hc (aI r1 (aI s1 (aI l1 (aI r2 (aI s2 (aI l2 (aI dib (aI dn ed)))))))))))))))))))))))) ?_;have ho':OL Z.n (τ.new [Value.int .i64 ((d:Nat):Int)]) 1 v (o.map fun d=>[dgv d]):=OL.ext ho (.new _ _);refine G4 (row:=[dgv d]) (fun _ _ _ _=>P9) ho' (D1 om om) (D8 (by simp) (by simp)) (by rw[z2z];omega) (by simp;omega) ?_;rintro v2 τ2 ho2 hap -;refine gU1 (aI @A4 (aI @N5 (aI @N9 (aI @N6 (aI @K6 (aI @M4 (aI @M5 (aI @K7 (aI @K8 (aI @H8 (aI g7 e1))))))))))) ?_;exact⟨fR,fR1 g0,fR1 g1,hap.ext (hE.trans (.new _ _)) ho' nL,1,v2,o++[d],fR,fR,by rw[y7];exact ho2,om,by rw[BD,hol];rfl,hod.snoc hd6,hv'⟩
   ·have dn':decide (((d:Nat):Int)<0)=false:=dF;refine gU1 (aI @A4 (aI @N5 (aI @N9 (aI @N6 (aI @K6 (aI @M4 (aI @M5 (aI @K7 (aI @K8 (aI @H8 (aI g7 (aI g0 (aI g1 (aI g6 (aI g5 (aI hc (aI r1 (aI s1 (aI l1 (aI r2 (aI s2 (aI l2 (aI dib (aI dn (aI dn' ed))))))))))))))))))))))))) ?_;have ho':OL Z.n (τ.new [Value.int .i64 ((d:Nat):Int)]) 1 v (o.map fun d=>[dgv d]):=OL.ext ho (.new _ _);refine G4 (row:=[dgv d]) (fun _ _ _ _=>P9) ho' (D1 om om) (D8 (by simp) (by simp)) (by rw[z2z];omega) (by simp;omega) ?_;rintro v2 τ2 ho2 hap -;refine gU1 (aI @A4 (aI @N5 (aI @N9 (aI @N6 (aI @K6 (aI @M4 (aI @M5 (aI @K7 (aI @K8 (aI @H8 (aI g7 e1))))))))))) ?_;exact⟨fR,fR1 g0,fR1 g1,hap.ext (hE.trans (.new _ _)) ho' nL,0,v2,o++[d],fR,fR,by rw[y7];exact ho2,om,by rw[BD,hol];rfl,hod.snoc hd6,hv'⟩
  ·have dib:decide (i<b.length)=false:=by simpa using hib
   obtain⟨d,be',hd6,Au4,hde,hcs⟩:=QE (y:=0) hx6 om hbe;have z0:((x:Nat):Int)-(be:Nat)-((0:Nat):Int)=((x:Nat):Int)-(be:Nat):=om;rw[z0]at hcs;have hv':G7 (o++[d])+G7 (b.take (i+1))=G7 (a.take (i+1))+be'*65536 ^ (i+1):=by
    have hh:=Sy hv hde;rw[aJ,Ej,Kx (show b.length<=i by omega)]at hh;rw[Ht,hol,De hx,Kx (show b.length<=i+1 by omega),GO];exact hh
   rcases hcs with⟨rfl,dn,ed⟩|⟨rfl,dn,ed⟩
   ·refine gU1 (aI @A4 (aI @N5 (aI @N9 (aI @N6 (aI @K6 (aI @M4 (aI @M5 (aI @K7 (aI @K8 (aI @H8 (aI g7 (aI g0 (aI g1 (aI g6 (aI g5 (aI hc (aI r1 (aI s1 (aI l1 (aI dib (aI dn ed))))))))))))))))))))) ?_;have ho':OL Z.n (τ.new [Value.int .i64 ((d:Nat):Int)]) 1 v (o.map fun d=>[dgv d]):=OL.ext ho (.new _ _);refine G4 (row:=[dgv d]) (fun _ _ _ _=>P9) ho' (D1 om om) (D8 (by simp) (by simp)) (by rw[z2z];omega) (by simp;omega) ?_;rintro v2 τ2 ho2 hap -;refine gU1 (aI @A4 (aI @N5 (aI @N9 (aI @N6 (aI @K6 (aI @M4 (aI @M5 (aI @K7 (aI @K8 (aI @H8 (aI g7 e1))))))))))) ?_;exact⟨fR,fR1 g0,fR1 g1,hap.ext (hE.trans (.new _ _)) ho' nL,1,v2,o++[d],fR,fR,by rw[y7];exact ho2,om,by rw[BD,hol];rfl,hod.snoc hd6,hv'⟩
   ·have dn':decide (((d:Nat):Int)<0)=false:=dF;refine gU1 (aI @A4 (aI @N5 (aI @N9 (aI @N6 (aI @K6 (aI @M4 (aI @M5 (aI @K7 (aI @K8 (aI @H8 (aI g7 (aI g0 (aI g1 (aI g6 (aI g5 (aI hc (aI r1 (aI s1 (aI l1 (aI dib (aI dn (aI dn' ed)))))))))))))))))))))) ?_;have ho':OL Z.n (τ.new [Value.int .i64 ((d:Nat):Int)]) 1 v (o.map fun d=>[dgv d]):=OL.ext ho (.new _ _);refine G4 (row:=[dgv d]) (fun _ _ _ _=>P9) ho' (D1 om om) (D8 (by simp) (by simp)) (by rw[z2z];omega) (by simp;omega) ?_;rintro v2 τ2 ho2 hap -;refine gU1 (aI @A4 (aI @N5 (aI @N9 (aI @N6 (aI @K6 (aI @M4 (aI @M5 (aI @K7 (aI @K8 (aI @H8 (aI g7 e1))))))))))) ?_;exact⟨fR,fR1 g0,fR1 g1,hap.ext (hE.trans (.new _ _)) ho' nL,0,v2,o++[d],fR,fR,by rw[y7];exact ho2,om,by rw[BD,hol];rfl,hod.snoc hd6,hv'⟩
 ·rintro fr τ ⟨g7,g0,g1,hE,be,v,o,g6,g5,ho,hbe,hol,hod,hv⟩;refine gU1 (aI @A4 (aI @N5 (aI @N9 (aI @N6 (aI @K6 (aI @M4 (aI @M5 (aI @K7 (aI @K8 (aI @H8 (aI g7 (aI g0 @EJ)))))))))))) ?_;refine⟨_,_,v,o,rfl,hE,fR1 g5,ho,hol,hod,?_⟩;rw[Bl,Kx hbl]at hv;have h1:=KC hod;rw[hol]at h1;rcases(show be=0\/be=1 by omega)with rfl|rfl
  ·omega
  ·rw[Wt]at hv;omega
 rintro r ⟨fr,τ,v,o,rfl,hE,g5,ho,hol,hod,hv⟩;have hdn:=DN.zW ho;obtain⟨va,vc,rfl⟩:=hdn.shape;refine gU1 (aI @A4 (aI @N5 (aI @N9 (aI @N6 (aI @K6 (aI @M4 (aI @M5 (aI @K7 (aI @K8 (aI @H8 g5)))))))))) ?_;refine(Ds hdn om).mono ?_;rintro r ⟨v',l',rfl,hd',⟨k,hk⟩,ht,hv',hbk⟩;obtain⟨va',vc',rfl⟩:=hd'.shape;refine gU1 (a3N @A4 @D3 @Tryz.results165) ?_;exact⟨_,l',_,rfl,hE,hd',by rw[hk];exact hod.take k,ht,by rw[hv',hv],by rw[hk,Dh,hol];omega,fun k hk=>(ho.blk (by rw[<- hbk];exact hk)).1⟩
section
variable {l:List Nat}{y x k j V Q P c o V':Nat}
def GR (x:Nat) (b:List Nat) (i:Nat) (out:List Nat):Nat->List Nat×Nat
 |0=>(out,0)
 |k+1=>((GR x b i out k).1.set (i+k) (((GR x b i out k).1.getD (i+k) 0+x*b.getD k 0+(GR x b i out k).2) % 65536),((GR x b i out k).1.getD (i+k) 0+x*b.getD k 0+(GR x b i out k).2) / 65536)
def Gw (a b:List Nat):Nat->List Nat
 |0=>List.replicate (a.length+b.length) 0
 |i+1=>(GR (a.getD i 0) b i (Gw a b i) b.length).1.set (i+b.length) (GR (a.getD i 0) b i (Gw a b i) b.length).2
def getD_at (h:l[k]? =some x):l.getD k 0=x:=by rw[List.getD,h];rfl
def gG (h:Dig l) (hy:y<65536):Dig (l.set j y):=fun x hx=>by
 rcases zO hx with hx|rfl
 ·exact h x hx
 ·exact hy
def Mq (h:Dig l) (k:Nat):l.getD k 0<65536:=by
 cases hk:l[k]? with
 |none=>simp[List.getD,hk]
 |some x=>rw[getD_at hk];exact h x (W8 hk)
def getD_set_ne (h:j≠k):(l.set j y).getD k 0=l.getD k 0:=by
 rw[List.getD,List.getD,List.getElem?_set_ne h]
def Jq (x:Nat) (b:List Nat) (i:Nat) (out:List Nat):∀ k,(GR x b i out k).1.length=out.length
 |0=>rfl
 |k+1=>by rw[GR,my,Jq x b i out k]
def gB (hx:x<65536) (hy:y<65536):x*y<=4294836225:=by
 have:=Wk (Nat.le_of_lt_succ hx) (Nat.le_of_lt_succ hy);omega
def VU {x:Nat}{b:List Nat}{i:Nat}{out:List Nat}(hx:x<65536) (hb:∀ k,b.getD k 0<65536) (ho:Dig out):∀ k,Dig (GR x b i out k).1/\(GR x b i out k).2<65536
 |0=>⟨ho,by show 0<65536;omega⟩
 | k+1=>by
   obtain⟨h1,h2⟩:=VU (i:=i) hx hb ho k;have h3:=Mq h1 (i+k);have h4:=gB hx (hb k);rw[GR];exact⟨gG h1 om,by show _ / 65536<65536;omega⟩
def Gx (a b:List Nat):∀ i,(Gw a b i).length=a.length+b.length
 |0=>by simp[Gw]
 |i+1=>by rw[Gw,my,Jq,Gx a b i]
def VV {a b:List Nat}(ha:∀ k,a.getD k 0<65536) (hb:∀ k,b.getD k 0<65536):∀ i,Dig (Gw a b i)
 | 0=>fun x hx=>by
   rw[Gw]at hx;obtain⟨_,rfl⟩:=List.mem_replicate.1 hx;omega
 | i+1=>by
   obtain⟨h1,h2⟩:=VU (i:=i) (ha i) hb (VV ha hb i) b.length;rw[Gw];exact gG h1 h2
def RV:∀ {l:List Nat}{j:Nat}(y:Nat),j<l.length->G7 (l.set j y)+65536 ^ j*l.getD j 0=G7 l+65536 ^ j*y
 | [],j,y,h=>by simp at h
 | d::l,0,y,_=>by
   rw[List.set_cons_zero,Y5,Y5,eh,Wt,Wt];show y+65536*G7 l+d=_;omega
 | d::l,j+1,y,h=>by
   have ih:=RV (l:=l) (j:=j) y (by simpa using h);rw[List.set_cons_succ,Y5,Y5,GO];show d+65536*G7 (l.set j y)+65536 ^ j*65536*l.getD j 0=_;have e:=congrArg (65536*·) ih;simp only[Ri]at e;rw[<- EV,<- EV,CG 65536 (65536 ^ j)]at e;omega
def UB:∀ n,G7 (List.replicate n 0)=0
 |0=>rfl
 |n+1=>by rw[zm,Y5,UB n]
def lC (n k:Nat):(List.replicate n 0).getD k 0=0:=by
 rw[List.getD,List.getElem?_replicate];by_cases h:k<n
 ·rw[z1z h];rfl
 ·rw[z0z h];rfl
def RW (x:Nat) (b:List Nat) (i:Nat) (out:List Nat):∀ k j,i+k<=j->(GR x b i out k).1.getD j 0=out.getD j 0
 |0,j,h=>rfl
 |k+1,j,h=>by rw[GR,getD_set_ne om,RW x b i out k j om]
def sQ {M D R:Nat}(h:V+P*c=Q) (h2:V'+P*o=V+P*R) (hd:65536*D+R=o+M+c):V'+P*65536*D=Q+P*M:=by
 have e:=congrArg (P*·) hd;simp only[Ri]at e;rw[<- EV]at e;omega
def yd (h:V+P*c=Q) (h2:V'+P*o=V+P*((o+x*y+c) % 65536)):V'+P*65536*((o+x*y+c) / 65536)=Q+P*(x*y) :=
 sQ h h2 (Th ..)
def Yz {x:Nat}{b:List Nat}{i:Nat}{out:List Nat}(hl:i+b.length<=out.length):∀ k,k<=b.length->G7 (GR x b i out k).1+65536 ^ (i+k)*(GR x b i out k).2=G7 out+65536 ^ i*(x*G7 (b.take k))
 |0,_=>by simp[GR,G7]
 | k+1,h=>by
   have ih:=Yz (x:=x) hl k om;obtain⟨y,hy⟩:∃ y,b[k]? =some y:=⟨_,List.getElem?_eq_getElem om⟩
   have hs:=RV (l:=(GR x b i out k).1) (j:=i+k) (((GR x b i out k).1.getD (i+k) 0+x*b.getD k 0+(GR x b i out k).2) % 65536) (by rw[Jq];omega);rw[GR,<- PE,GO,De hy];have:=yd ih hs;rw[this,getD_at hy,Ri,Ri,qU];rw[show 65536 ^ i*(x*(65536 ^ k*y))=65536 ^ i*65536 ^ k*(x*y)from by rw[Nat.mul_left_comm x,EV]];omega
def ZA (a b:List Nat):∀ i j,i+b.length<=j->(Gw a b i).getD j 0=0
 |0,j,_=>lC _ _
 |i+1,j,h=>by rw[Gw,getD_set_ne om,RW _ _ _ _ _ _ om,ZA a b i j om]
def Ym {a b:List Nat}:∀ i,i<=a.length->G7 (Gw a b i)=G7 (a.take i)*G7 b
 |0,_=>by rw[Gw,UB,WR,QT,HY]
 | i+1,h=>by
   obtain⟨x,hx⟩:∃ x,a[i]? =some x:=⟨_,List.getElem?_eq_getElem om⟩
   have h1:=Yz (x:=a.getD i 0) (b:=b) (i:=i) (out:=Gw a b i) (by rw[Gx];omega) b.length nL;have h2:=RV (l:=(GR (a.getD i 0) b i (Gw a b i) b.length).1) (j:=i+b.length) (GR (a.getD i 0) b i (Gw a b i) b.length).2 (by rw[Jq,Gx];omega);rw[RW _ _ _ _ _ _ nL,ZA _ _ _ _ nL,aJ,Ej]at h2;rw[Gw,h2,h1,Ym i om,Bl,De hx,getD_at hx,Ra,EV]
end
section
variable {l:List Nat}{j:Nat}{Z:St}
def LX {y:Nat}(h:j<l.length):I7 (l.map dgv) j [.int .i64 (y:Int)]=some ((l.set j y).map dgv):=by
 rw[Oo (by simp;omega),List.map_set,List.set_eq_take_append_cons_drop,z1z (by simpa using h)];simp[dgv]
def AP2 (h:j<l.length):sub (l.map dgv) j 1=some [.int .i64 ((l.getD j 0:Nat):Int)]:=by
 rw[V7 (by simp;omega),LW (by simpa using h)];simp[List.getD,List.getElem?_eq_getElem h,dgv]
def Ua:∀ n,rep [.int .i64 0] n=(List.replicate n 0).map dgv
 |0=>rfl
 |n+1=>by rw[XB,Ua n];rfl
def DN.Uc {b:Nat}(hb:b<Z.n) (hr:Z.row b=some (l.map dgv)):DN Z (.slice (some ⟨b,0,none⟩) l.length l.length) l :=
 .inr ⟨b,0,none,_,_,rfl,AR _,.inl rfl,hb,hr,D8 (by simp) (by simp)⟩
def ki {v w:Value}{a b:List Nat}(ha:DN Z v a) (hb:DN Z w b) (da:Dig a) (db:Dig b) (la:a.length<=100) (lb:b.length<=100):
  Ev (gO 194 [v,w] Z) (fun r=>∃ v' l Z',r=⟨false,v',Z'⟩/\Ext Z Z'/\DN Z' v' l/\Dig l/\Trm l/\G7 l=G7 a*G7 b/\l.length<=a.length+b.length) ⟨⟩:=by
 have dla:∀ k,a.getD k 0<65536:=Mq da;have dlb:∀ k,b.getD k 0<65536:=Mq db;obtain⟨va,vc,vb,vo,vcs,rfl,h1,h2⟩:=ha.use;obtain⟨wa,wc,wb,wo,wcs,rfl,k1,k2⟩:=hb.use;have Az2:((a.length:Int)+(b.length:Int))=((a.length+b.length:Nat):Int):=om;have UH:rep [.int .i64 0] (a.length+b.length)=(Gw a b 0).map dgv:=Ua _;refine D0 Tryz.func194 rfl rfl ?_;refine gU1 (aI @A4 (aI @D3 (aI Az2 UH))) ?_
 refine F4 a.length (fun i fr Z'=>fr.get 5=some (.slice (some ⟨Z.n,0,none⟩) (a.length+b.length) (a.length+b.length))/\fr.get 6=some (.int .i64 (i:Nat))/\fr.get 0=some (.slice va a.length vc)/\fr.get 1=some (.slice wa b.length wc)/\Ext Z Z'/\Z.n<Z'.n/\Z'.A7 Z.n=some ((Gw a b i).map dgv))
  (fun r=>∃ fr Z',r=⟨.exit 0,fr,Z'⟩/\fr.get 5=some (.slice (some ⟨Z.n,0,none⟩) (a.length+b.length) (a.length+b.length))/\Ext Z Z'/\Z.n<Z'.n/\Z'.A7 Z.n=some ((Gw a b a.length).map dgv)) ?_ ?_ ?_ ?_
 ·exact⟨fR,fR,fR,fR,eX,by simp,cL⟩
 ·rintro i fr Z1 hi ⟨g5,g6,g0,g1,hE1,hn1,ho1⟩;have ca:decide (i<a.length)=true:=by simpa using hi
  obtain⟨x,hx'⟩:=E8 hi;have hx:=getD_at hx';have xl:=dla i;rw[hx]at xl;obtain⟨sp,rfl,l3,l4⟩:=h1 om;have l7:=h2 i _ hx';obtain⟨tr,htr⟩:=nm (GR x b i (Gw a b i));have hlt:∀ k,Dig (tr k).1/\(tr k).2<65536:=fun k=>by rw[<- htr];exact VU xl dlb (VV dla dlb i) k
  have hln:∀ k,(tr k).1.length=a.length+b.length:=fun k=>by rw[<- htr,Jq,Gx]
  have ht0:(tr 0)=(Gw a b i,0):=by rw[<- htr];rfl
  have hts:∀ k,tr (k+1)=((tr k).1.set (i+k) (((tr k).1.getD (i+k) 0+x*b.getD k 0+(tr k).2) % 65536),((tr k).1.getD (i+k) 0+x*b.getD k 0+(tr k).2) / 65536):=fun k=>by rw[<- htr];rfl
  refine gU1 (aI @A4 (aI @D3 (aI g5 (aI g6 (aI g0 (aI g1 ca)))))) ?_
  refine F4 b.length (fun k fr Z'=>fr.get 5=some (.slice (some ⟨Z.n,0,none⟩) (a.length+b.length) (a.length+b.length))/\fr.get 6=some (.int .i64 (i:Nat))/\fr.get 7=some (.int .i64 ((tr k).2:Nat))/\fr.get 8=some (.int .i64 (k:Nat))/\fr.get 0=some (.slice (some ⟨vb,vo,sp⟩) a.length vc)/\fr.get 1=some (.slice wa b.length wc)/\Ext Z Z'/\Z.n<Z'.n/\Z'.A7 Z.n=some ((tr k).1.map dgv))
   (fun r=>∃ fr Z',r=⟨.exit 2,fr,Z'⟩/\fr.get 5=some (.slice (some ⟨Z.n,0,none⟩) (a.length+b.length) (a.length+b.length))/\fr.get 6=some (.int .i64 (i:Nat))/\fr.get 7=some (.int .i64 ((tr b.length).2:Nat))/\fr.get 0=some (.slice (some ⟨vb,vo,sp⟩) a.length vc)/\fr.get 1=some (.slice wa b.length wc)/\Ext Z Z'/\Z.n<Z'.n/\Z'.A7 Z.n=some ((tr b.length).1.map dgv)) ?_ ?_ ?_ ?_
  ·exact⟨fR1 g5,fR1 g6,by rw[ht0];exact(fR),fR,fR1 g0,fR1 g1,hE1,hn1,by rw[ht0];exact ho1⟩
  ·rintro k fr Z' hk ⟨g5,g6,g7,g8,g0,g1,hE,hn,ho⟩;have cb:decide (k<b.length)=true:=by simpa using hk
   obtain⟨y,hy'⟩:=E8 hk;have hy:=getD_at hy';have yl:=dlb k;rw[hy]at yl;obtain⟨sp',rfl,l3',l4'⟩:=k1 om;have l5:=eT (hE.row l3) l4;have l5':=eT (hE.row l3') l4';have l7':=k2 k _ hy';have hij:i+k<(tr k).1.length:=by rw[hln];omega
   obtain⟨ts,Az3⟩:=nm ((tr k).1);obtain⟨c,hc⟩:=nm ((tr k).2);have hcl:=(hlt k).2;have htl:=(hlt k).1;have hst:=hts k;have hll:=hln k;rw[Az3]at ho hij htl hst hll;rw[hc]at g7 hcl hst;obtain⟨o,hod⟩:=nm (ts.getD (i+k) 0);have ol:o<65536:=by rw[<- hod];exact Mq htl _
   obtain⟨Pr,hP⟩:=nm (x*y);have hPl:Pr<=4294836225:=by rw[<- hP];exact gB xl yl
   have hPi:(x:Int)*(y:Int)=(Pr:Int):=by rw[<- hP];exact(Int.natCast_mul x y).symm
   obtain⟨D,hD⟩:=nm (o+Pr+c);rw[hy,hod,hP,hD]at hst;have so:=AP2 hij;rw[hod]at so;have ho':=A6 ho;have hix:((i:Int)+(k:Int))=((i+k:Nat):Int):=om;have hbl:Nat.blt (i+k) (a.length+b.length)=true:=ay om;have f2:((o:Int)+(Pr:Int)+(c:Int))=(D:Int):=om;have f3:(D:Int).tmod 65536=((D % 65536:Nat):Int):=rfl;have f4:(D:Int).tdiv 65536=((D / 65536:Nat):Int):=rfl;have f6:I7 (ts.map dgv) (i+k) [.int .i64 ((D % 65536:Nat):Int)]=some ((ts.set (i+k) (D % 65536)).map dgv):=LX hij;refine gU1 (aI @A4 (aI @D3 (aI g5 (aI g6 (aI g7 (aI g8 (aI g0 (aI g1 (aI cb (aI hix (aI hbl (aI ho' (aI so (aI l5 (aI l7 (aI l5' (aI l7' (aI hPi (aI f2 (aI f3 (aI f4 (aI ho f6)))))))))))))))))))))) ?_;refine⟨trivial,trivial,by rw[hst],trivial,trivial,trivial,hE.upd nL _,by simpa using hn,by rw[hst]⟩
  ·rintro fr Z' ⟨g5,g6,g7,g8,g0,g1,hE,hn,ho⟩;refine gU1 (aI @A4 (aI @D3 (aI g5 (aI g6 (aI g7 (aI g8 (aI g0 g1))))))) ?_;exact⟨_,_,rfl,fR1 g5,fR1 g6,fR1 g7,fR1 g0,fR1 g1,hE,hn,ho⟩
  rintro r ⟨fr,Z',rfl,g5,g6,g7,g0,g1,hE,hn,ho⟩;have hix:((i:Int)+(b.length:Int))=((i+b.length:Nat):Int):=om;have hbl:Nat.blt (i+b.length) (a.length+b.length)=true:=ay om;have f6:I7 ((tr b.length).1.map dgv) (i+b.length) [.int .i64 ((tr b.length).2:Nat)]=some (((tr b.length).1.set (i+b.length) (tr b.length).2).map dgv):=LX (by rw[hln];omega);refine gU1 (aI @A4 (aI @D3 (aI g5 (aI g6 (aI g7 (aI g0 (aI g1 (aI hix (aI hbl (aI ho f6)))))))))) ?_;refine⟨trivial,trivial,trivial,trivial,hE.upd nL _,by simpa using hn,?_⟩;rw[show Gw a b (i+1)=(tr b.length).1.set (i+b.length) (tr b.length).2 from by rw[Gw,hx,htr]]
 ·rintro i Z' ⟨g5,g6,g0,g1,hE,hn,ho⟩;refine gU1 (aI @A4 (aI @D3 (aI g5 (aI g6 (aI g0 g1))))) ?_;exact⟨_,_,rfl,fR1 g5,hE,hn,ho⟩
 rintro r ⟨fr,Z',rfl,g5,hE,hn,ho⟩;have hD:=DN.Uc hn (A6 ho);rw[Gx]at hD;refine gU1 (aI @A4 (aI @D3 g5)) ?_;refine(Ds hD (by rw[Gx];omega)).mono ?_;rintro r ⟨v',l',rfl,hd',⟨k,hk⟩,ht,hv',-⟩;obtain⟨va',vc',rfl⟩:=hd'.shape;refine gU1 (a3N @A4 @D3 @Tryz.results194) ?_;exact⟨_,l',_,rfl,hE,hd',by rw[hk];exact(VV dla dlb _).take k,ht,by rw[hv',Ym _ nL,Bl],by rw[hk,Dh,Gx];omega⟩
end
section
variable {x d y B r:Nat}{Z:St}{v:Value}{a:List Nat}
def Dig.one (h:d<65536):Dig [d]:=fun x hx=>by rw[GK]at hx;rw[hx];exact h
def zN (ha:DN Z v a) (da:Dig a) (hd:d<65536) (la:a.length<=100):
  Ev (gO 164 [v,.int .i64 (d:Int)] Z) (fun r=>∃ v' l Z',r=⟨false,v',Z'⟩/\Ext Z Z'/\DN Z' v' l/\Dig l/\Trm l/\G7 l=G7 a*d/\l.length<=a.length+1) ⟨⟩:=by
 obtain⟨aa,ac,hsh⟩:=ha.shape;subst hsh;have hE:Ext Z (Z.new [Value.int .i64 (d:Int)]):= .new _ _;have hd1:DN (Z.new [Value.int .i64 (d:Int)]) (.slice (some ⟨Z.n,0,none⟩) 1 1) [d]:=DN.Uc (l:=[d]) (by simp) (D1 nL nL);refine D0 Tryz.func164 rfl rfl ?_;refine gU1 (aI @A4 @D3) ?_;refine(ki (ha.mono hE) hd1 da (Dig.one hd) la (by simp)).mono ?_;rintro r ⟨v',l,Z',rfl,hE',hd',h1,h2,h3,h4⟩;obtain⟨va',vc',rfl⟩:=hd'.shape;refine gU1 (a3N @A4 @D3 @Tryz.results164) ?_;exact⟨_,l,_,rfl,hE.trans hE',hd',h1,h2,by rw[h3,Y5,QT,aJ,Ej],by simpa using h4⟩
def DN.src {l:List Nat}(h:DN Z v l):DF Z 1 v=some (l.length,l.map dgv):=by
 rcases h with⟨rfl,rfl⟩|⟨b,off,sp,c,cells,rfl,h2,h3,h4,h5,h6⟩
 ·rfl
 ·rw[TA,FL,h5,F8,Df,h6,F8]
def AE9 {Z:St}{v:Value}{l:List Nat}{x:Nat}{Q:Value×St->Prop}{uq:Hd Q}(hl:DN Z v l) (hlen:l.length<=1000)
  (h:∀ v' Z',DN Z' v' (x::l)->Ext Z Z'->(∀ k,I2 v'=some k->Z.n<=k)->Q (v',Z')):Ev (KE Tryz.prog (Z.new [Value.int .i64 (x:Int)]) 22 (.slice (some ⟨Z.n,0,none⟩) 1 1) v) Q uq:=by
 have hE:Ext Z (Z.new [Value.int .i64 (x:Int)]):= .new _ _;have hl':=hl.mono hE;have AB1:(Z.new [Value.int .i64 (x:Int)]).A7 Z.n=some [dgv x]:=M7 nL nL;rw[P9,hl'.src,F8,Sf];by_cases h0:l.length=0
 ·obtain rfl:l=[]:=WN h0;rw[show Nat.ble (1+([]:List Nat).length) 1=true from rfl,K3,uo,Pk,AB1,F8];rw[show I7 [dgv x] (0+1*1) (([]:List Nat).map dgv)=some [dgv x]from rfl,F8,F8,J7];refine h _ _ ?_ (hE.upd nL _) fun k hk=>by cases hk;exact AR _
  exact DN.Uc (l:=[x]) (by simp) (A6 D5)
 ·have GC:Nat.ble ((1+l.length)*9) room=true:=JK (by show _<=4294967296;omega);rw[aO om,BV,GC,FK,Wz,FL,A6 AB1,F8];rw[show sub [dgv x] 0 (1*1)=some [dgv x]from rfl,F8,J7];refine h _ _ ?_ (hE.trans (.new _ _)) fun k hk=>by cases hk;simp
  refine .inr ⟨_,0,some 1,1+l.length,_,by rw[Ah,lM],by rw[Ah];omega,.inr rfl,by simp,A6 (M7 nL nL),?_⟩;exact D8 (by simp) (by simp)
def tY:decide (QB x y<0)=decide (x<y):=by
 unfold QB;by_cases h:x<y
 ·rw[z1z h];simp[h]
 ·rw[z0z h];by_cases h2:x=y
  ·rw[z1z h2];simp[h]
  ·rw[z0z h2];simp[h]
def dU:decide ((0:Int)<QB x y)=decide (y<x):=by
 unfold QB;by_cases h:x<y
 ·rw[z1z h];simp;omega
 ·rw[z0z h];by_cases h2:x=y
  ·rw[z1z h2];simp;omega
  ·rw[z0z h2];simp;omega
def WX {A q:Nat}(hB:r<B) (h:A=q*B+r):q=A / B/\r=A % B:=by
 subst h;rw[CG];constructor
 ·rw[Nat.mul_add_div om,qZ hB,Ej]
 ·rw[Nat.mul_add_mod,SG hB]
def iR {Qd R low r':Nat}(hR:R=x+65536*r) (h1:low*B<=R) (hr:r'=R-B*low):x+65536*(Qd*B+r)=(low+65536*Qd)*B+r':=by
 rw[CG B low]at hr;rw[Ra,Ri,EV];omega
def Trm.length_le {b:List Nat}(da:Dig a) (tb:Trm b) (h:G7 b<=G7 a):b.length<=a.length:=by
 rcases y8 a.length b.length with h1|h1
 ·have:=Trm.len da tb h1;omega
 ·exact h1
end
def set_drop {α:Type}{l:List α}{m:Nat}{y:α}(h:m<l.length):(l.set m y).drop m=y::l.drop (m+1):=by
 rw[LW (by simpa using h),List.getElem_set_self,List.drop_set_of_lt om]
def DN.upd {Z:St}{v:Value}{l:List Nat}{c:Nat}{cs:List Value}(h:DN Z v l) (hc:I2 v≠some c):DN (Z.upd c cs) v l:=by
 rcases h with h|⟨b,off,sp,c',cells,h1,h2,h3,h4,h5,h6⟩
 ·exact .inl h
 ·subst h1;have hne:b≠c:=fun e=>hc (by rw[e];rfl);exact .inr ⟨b,off,sp,c',cells,rfl,h2,h3,h4,by rw[T5 (show(Z.upd c cs).h.get b=Z.h.get b by rw[Bt,z0z hne])];exact h5,h6⟩
def UW {Z:St}{v w:Value}{a b:List Nat}(ha:DN Z v a) (hb:DN Z w b) (da:Dig a) (db:Dig b) (tb:Trm b) (la:a.length<=50) (lb:b.length<=50) (h0:0<G7 b) :
  Ev (gO 124 [v,w] Z) (fun r=>∃ v1 v2 q l Z',r=⟨false,.tuple ⟨[v1,v2]⟩,Z'⟩/\Ext Z Z'/\DN Z' v1 q/\DN Z' v2 l/\Dig q/\Dig l/\Trm q/\Trm l/\G7 q=G7 a / G7 b/\G7 l=G7 a % G7 b/\q.length<=a.length/\l.length<=b.length) ⟨⟩:=by
 obtain⟨aa,ac,ab,ao,acs,hsa,a1,a2⟩:=ha.use;obtain⟨wa,wc,hsb⟩:=hb.shape;subst hsa hsb;obtain⟨B,hB⟩:=nm (G7 b);rw[hB]at h0;have UH:rep [.int .i64 0] a.length=(List.replicate a.length 0).map dgv:=Ua _;refine D0 Tryz.func124 rfl rfl ?_;refine gU1 (aI @A4 (aI @D3 UH)) ?_
 refine GM a.length (fun k fr τ=>fr.get 8=some (.int .i64 ((a.length:Int)-1-(k:Nat)))/\fr.get 0=some (.slice aa a.length ac)/\fr.get 1=some (.slice wa b.length wc)/\fr.get 6=some (.slice (some ⟨Z.n,0,none⟩) a.length a.length)/\Ext Z τ/\Z.n<τ.n /\
   ∃ vr r Q,fr.get 7=some vr/\DN τ vr r/\(∀ k,I2 vr=some k->Z.n<k)/\Dig r/\Trm r/\G7 r<B/\τ.A7 Z.n=some (Q.map dgv)/\Q.length=a.length/\Dig Q/\G7 (a.drop (a.length-k))=G7 (Q.drop (a.length-k))*B+G7 r)
  (fun r=>∃ fr τ vr l Q,r=⟨.exit 0,fr,τ⟩/\Ext Z τ/\Z.n<τ.n/\fr.get 6=some (.slice (some ⟨Z.n,0,none⟩) a.length a.length)/\fr.get 7=some vr/\DN τ vr l/\Dig l/\Trm l/\G7 l<B/\τ.A7 Z.n=some (Q.map dgv)/\Q.length=a.length/\Dig Q/\G7 a=G7 Q*B+G7 l) ?_ ?_ ?_
 ·refine⟨by rw[show((a.length:Int)-1-((0:Nat):Int))=(a.length:Int)-1 by omega];exact(fR),fR,fR,fR,.new _ _,by simp,.slice none 0 0,[],List.replicate a.length 0,fR,.inl ⟨rfl,rfl⟩,fun k hk=>(by cases hk),.nil,.nil,h0,M7 nL nL,by simp,?_,?_⟩
  ·intro x hx;obtain⟨_,rfl⟩:=List.mem_replicate.1 hx;omega
  ·rw[Oq,WW,ym (by simp)];simp[G7]
 ·rintro k fr τ hk ⟨g8,g0,g1,g6,hE,hn,vr,r,Q,g7,hr,hrb,dr,tr,hrB,hQ,hQl,dQ,hinv⟩;by_cases hk2:k=a.length
  ·subst hk2;have e1:((a.length:Int)-1-(a.length:Nat))= -1:=om;rw[e1]at g8;have d2:decide ((-1:Int)<0)=true:=rfl;refine gU1 (aI @A4 (aI @D3 (aI g8 (aI d2 @Gi)))) ?_;rw[gJ,UU,UU]at hinv;exact⟨_,_,vr,r,Q,rfl,hE,hn,fR1 g6,fR1 g7,hr,dr,tr,hrB,hQ,hQl,dQ,hinv⟩
  ·obtain⟨m,hm⟩:=nm (a.length-1-k);have e1:((a.length:Int)-1-(k:Nat))=((m:Nat):Int):=om;rw[e1]at g8;rw[show a.length-k=m+1 by omega]at hinv;obtain⟨x,hx⟩:=E8 (l:=a) (k:=m) om;have xl:=da.get hx;obtain⟨sp,rfl,h3,h4⟩:=a1 om;have s1:=a2 m x hx;have r1:=eT (hE.row h3) h4;have c1:decide (((m:Nat):Int)<0)=false:=dF;have l1:Nat.blt m a.length=true:=by rw[DC];omega
   have lr:r.length<=b.length:=Trm.length_le db tr om;obtain⟨ra,rc,hrs⟩:=hr.shape;refine gU1 (aI @A4 (aI @N5 (aI @N9 (aI @N6 (aI @K6 (aI @M4 (aI @M5 (aI @K7 (aI @K8 (aI @H8 (aI g8 (aI g0 (aI g1 (aI g6 (aI g7 (aI c1 (aI r1 (aI s1 (aI l1 @El))))))))))))))))))) ?_;refine AE9 hr om ?_;rintro v2 τ2 hd2 hE2 hb2;obtain⟨w2,c2,hs2⟩:=hd2.shape;subst hs2;refine gU1 (aI @A4 (aI @D3 (aI g8 (aI g0 (aI g1 g6))))) ?_;refine(Ds hd2 (by rw[Ah];omega)).mono ?_;rintro z ⟨v3,l3,rfl,hd3,⟨kk,hkk⟩,ht3,hv3,At1⟩;obtain⟨w3,c3,hs3⟩:=hd3.shape;subst hs3;have dl3:Dig l3:=by rw[hkk];exact(dr.cons xl).take kk
   have ll3:l3.length<=r.length+1:=by rw[hkk,Dh,Ah];omega
   obtain⟨R,hR⟩:=nm (G7 l3);have hRv:R=x+65536*G7 r:=by rw[<- hR,hv3,Y5]
   have hRB:R<65536*B:=om;have AF0:=hE.trans hE2;refine gU1 (aI @A4 (aI @D3 (aI g8 (aI g0 (aI g1 g6))))) ?_;refine(Pn hd3 (hb.mono AF0) dl3 db ht3 tb om om).mono ?_;rintro z rfl;rw[hR,hB];have hn2:Z.n<τ2.n:=z5z hn hE2.n;have hQ2:τ2.A7 Z.n=some (Q.map dgv):=by rw[B8 (hE2.same _ hn)];exact hQ
   have hb3:I2 (.slice w3 l3.length c3)≠some Z.n:=fun e=>by
    have:=hb2 Z.n (by rw[<- At1];exact e);omega
   have hmQ:m<Q.length:=om;cases hc:decide (R<B)
   all_goals
    refine gU1 (aI @A4 (aI @D3 (aI g8 (aI g0 (aI g1 (aI g6 (aI @tY hc))))))) ?_
    refine V9 (fun n fr τ'=>∃ lo hi,hi-lo<=n/\fr.get 9=some (.int .i64 ((lo:Nat):Int))/\fr.get 10=some (.int .i64 ((hi:Nat):Int))/\fr.get 8=some (.int .i64 ((m:Nat):Int))/\fr.get 0=some (.slice (some ⟨ab,ao,sp⟩) a.length ac)/\fr.get 1=some (.slice wa b.length wc)/\fr.get 6=some (.slice (some ⟨Z.n,0,none⟩) a.length a.length)/\fr.get 7=some (.slice w3 l3.length c3)/\Ext τ2 τ'/\lo<hi/\hi<=65536/\B*lo<=R/\R<B*hi)
     (fun r=>∃ fr τ' lo,r=⟨.exit 2,fr,τ'⟩/\fr.get 9=some (.int .i64 ((lo:Nat):Int))/\fr.get 8=some (.int .i64 ((m:Nat):Int))/\fr.get 0=some (.slice (some ⟨ab,ao,sp⟩) a.length ac)/\fr.get 1=some (.slice wa b.length wc)/\fr.get 6=some (.slice (some ⟨Z.n,0,none⟩) a.length a.length)/\fr.get 7=some (.slice w3 l3.length c3)/\Ext τ2 τ'/\lo<65536/\B*lo<=R/\R<B*(lo+1)) 65536 ?_ ?_ ?_
    ·have hc0:=hc;simp only[IK,Gz]at hc0
     first
     |exact⟨0,65536,om,fR,fR,fR1 g8,fR1 g0,fR1 g1,fR1 g6,fR,.refl _,om,om,om,om⟩
     |exact⟨0,1,om,fR,fR,fR1 g8,fR1 g0,fR1 g1,fR1 g6,fR,.refl _,om,om,om,om⟩
    ·rintro n fr τ' ⟨lo,hi,hnn,g9,g10,g8,g0,g1,g6,g7,hE3,h1,h2,h3,h4⟩;by_cases hd:lo+1<hi
     ·have d1:decide ((1:Int)<((hi:Nat):Int)-((lo:Nat):Int))=true:=dT;have f1:((lo:Nat):Int)+((hi:Nat):Int)=((lo+hi:Nat):Int):=om;have f2:(((lo+hi:Nat):Nat):Int).tdiv 2=(((lo+hi) / 2:Nat):Int):=rfl;obtain⟨mid,At2⟩:=nm ((lo+hi) / 2);rw[At2]at f2;refine gU1 (aI @A4 (aI @D3 (aI g8 (aI g0 (aI g1 (aI g6 (aI g7 (aI g9 (aI g10 (aI d1 (aI f1 f2))))))))))) ?_;refine(zN (hb.mono (AF0.trans hE3)) db om om).mono ?_;rintro z ⟨v4,l4,τ4,rfl,hE4,hd4,dl4,tl4,hv4,ll4⟩;obtain⟨w4,c4,hs4⟩:=hd4.shape;subst hs4;refine gU1 (aI @A4 (aI @D3 (aI g8 (aI g0 (aI g1 (aI g6 (aI g7 (aI g9 g10)))))))) ?_;refine(Pn hd4 (hd3.mono (hE3.trans hE4)) dl4 dl3 tl4 ht3 om om).mono ?_;rintro z rfl;rw[hR,hv4,hB];cases hc2:decide (R<B*mid)
      ·refine gU1 (aI @A4 (aI @D3 (aI g8 (aI g0 (aI g1 (aI g6 (aI g7 (aI g9 (aI g10 (aI @dU (aI hc2 @H6))))))))))) ?_;have:=z9z hc2;exact⟨hi-mid,om,mid,hi,om,fR,fR1 g10,fR1 g8,fR1 g0,fR1 g1,fR1 g6,fR1 g7,hE3.trans hE4,om,h2,om,h4⟩
      ·refine gU1 (aI @A4 (aI @D3 (aI g8 (aI g0 (aI g1 (aI g6 (aI g7 (aI g9 (aI g10 (aI @dU (aI hc2 @H6))))))))))) ?_;have:=z6z hc2;exact⟨mid-lo,om,lo,mid,om,fR1 g9,fR,fR1 g8,fR1 g0,fR1 g1,fR1 g6,fR1 g7,hE3.trans hE4,om,om,h3,om⟩
     ·have d1:decide ((1:Int)<((hi:Nat):Int)-((lo:Nat):Int))=false:=dF;obtain rfl:hi=lo+1:=om;refine gU1 (aI @A4 (aI @D3 (aI g8 (aI g0 (aI g1 (aI g6 (aI g7 (aI g9 (aI g10 (aI d1 @Q9)))))))))) ?_;exact⟨_,_,lo,rfl,fR1 g9,fR1 g8,fR1 g0,fR1 g1,fR1 g6,fR1 g7,hE3,om,h3,h4⟩
    rintro z ⟨fr',τ3,lo,rfl,g9,g8,g0,g1,g6,g7,hE3,hlo,h3,h4⟩;have At3:=AF0.trans hE3;have hQ3:τ3.A7 Z.n=some (Q.map dgv):=by rw[B8 (hE3.same _ hn2)];exact hQ2
    have l5:Nat.blt m a.length=true:=by rw[DC];omega
    have f6:I7 (Q.map dgv) m [.int .i64 ((lo:Nat):Int)]=some ((Q.set m lo).map dgv):=LX hmQ;refine gU1 (aI @A4 (aI @D3 (aI g8 (aI g0 (aI g1 (aI g6 (aI g7 (aI g9 (aI l5 (aI hQ3 f6)))))))))) ?_;have PZ:Ext Z (τ3.upd Z.n ((Q.set m lo).map dgv)):=At3.upd nL _;refine(zN (hb.mono PZ) db hlo om).mono ?_;rintro z ⟨v5,l5',τ5,rfl,hE5,hd5,dl5,tl5,hv5,ll5⟩;obtain⟨w5,c5,hs5⟩:=hd5.shape;subst hs5;rw[hB]at hv5;have At4:DN τ5 (.slice w3 l3.length c3) l3:=((hd3.mono hE3).upd hb3).mono hE5;refine gU1 (aI @A4 (aI @D3 (aI g8 (aI g0 (aI g1 (aI g6 (aI g7 g9))))))) ?_;refine(mw At4 hd5 dl3 dl5 om om om (Trm.length_le dl3 tl5 om)).mono ?_;rintro z ⟨v6,l6,τ6,rfl,hE6,hd6,dl6,tl6,hv6,ll6,hb6⟩;obtain⟨w6,c6,hs6⟩:=hd6.shape;subst hs6;refine gU1 (aI @A4 (aI @D3 (aI g8 (aI g0 (aI g1 (aI g6 (aI g7 g9))))))) ?_;have hn4:Z.n<(τ3.upd Z.n ((Q.set m lo).map dgv)).n:=by rw[Po];exact z5z hn2 hE3.n
    have hn5:Z.n<τ5.n:=z5z hn4 hE5.n;have e2:((m:Nat):Int)-1=(a.length:Int)-1-((k+1:Nat):Int):=om;have ek:a.length-(k+1)=m:=om;have hx':=(List.getElem?_eq_some_iff.1 hx).2;have At5:G7 l6=R-B*lo:=by rw[hv6,hR,hv5]
    have At6:G7 l6<B:=by
     rw[Ri,Df]at h4;omega
    refine⟨om,by rw[<- e2];exact(fR),fR1 g0,fR1 g1,fR1 g6,(PZ.trans hE5).trans hE6,z5z hn5 hE6.n,.slice w6 l6.length c6,l6,Q.set m lo,fR,hd6,fun q hq=>(by have:=hb6 q hq;omega),dl6,tl6,At6,?_,by rw[my];exact hQl,?_,?_⟩
    ·rw[B8 (hE6.same _ hn5),B8 (hE5.same _ hn4)];exact D5
    ·intro y hy;rcases zO hy with hy|rfl
     ·exact dQ y hy
     ·exact hlo
    ·rw[ek,LW (show m<a.length by omega),hx',set_drop hmQ,Y5,Y5,hinv];exact iR hRv (by rw[CG];exact h3) At5
 ·rintro z ⟨fr,τ,vr,l,Q,rfl,hE,hn,g6,g7,hl,dl,tl,hlB,hQ,hQl,dQ,Ub⟩;have hD:=DN.Uc (l:=Q) hn (A6 hQ);rw[hQl]at hD;obtain⟨wl,cl,hsl⟩:=hl.shape;subst hsl;refine gU1 (aI @A4 (aI @D3 (aI g6 g7))) ?_;refine(Ds hD om).mono ?_;rintro z ⟨v7,l7,rfl,hd7,⟨kk,hkk⟩,ht7,hv7,-⟩;obtain⟨w7,c7,hs7⟩:=hd7.shape;subst hs7;refine gU1 (aI @A4 (aI @D3 (aI g6 (aI g7 @Tryz.results124)))) ?_;obtain⟨u1,u2⟩:=WX hlB Ub;exact⟨_,_,l7,l,_,rfl,hE,hd7,hl,by rw[hkk];exact dQ.take kk,dl,ht7,tl,by rw[hv7,hB];exact u1,by rw[hB];exact u2,by rw[hkk,Dh];omega,Trm.length_le db tl om⟩
section
variable {fr:Fr}{Z:St}{x ix a v:Operand}{ve:Value}
def Dq:LDn 148 2:=by unfold LDn;intros;kernel_rfl
def Dr:LVn 148 2:=by unfold LVn;intros;kernel_rfl
def Nt:STn 148 2:=by unfold STn;intros;kernel_rfl
def mR:AV Tryz.prog 148=some ([.bool false,.slice none 0 0],ptrTo):=kR
def Kd:u7 Tryz.prog 148=some (.agg ⟨[.bool false,.slice none 0 0]⟩):=kR
def Kb:Fp Tryz.prog fr 148 #[]=some (.agg ⟨[.bool false,.slice none 0 0]⟩):=kR
def Kc {z:List Value}{ps:List (Nat×Value)}:AU Tryz.prog 148 z ps=ob (Ai (fun i=>[(0,1),(1,1)][i]?) ps z) fun l=>some (.agg ⟨l⟩):=kR
def Ae:FAo 148 0:=by unfold FAo;intros;kernel_rfl
def Ci:FIo 148 0 0:=by unfold FIo;intros;kernel_rfl
def Af:FAn 148 1 1:=by unfold FAn;intros;kernel_rfl
def Cj:FIo 148 1 1:=by unfold FIo;intros;kernel_rfl
end
def dM (Z:St) (v:Value) (neg:Bool) (l:List Nat):Prop:=∃ w,v= .agg ⟨[.bool neg,w]⟩/\DN Z w l
def kg {m V P N:Nat}(h:V+P*m=N):V+P*(m % 65536)+P*65536*(m / 65536)=N:=by
 have e:=congrArg (P*·) (Th m 65536);simp only[Ri]at e;rw[<- EV]at e;omega
def Trm.kh {l:List Nat}{d:Nat}(h:d≠0):Trm (l++[d]):=fun x hx=>by
 rw[List.getLast?_concat]at hx;cases hx;exact h
def SX {Z:St}{n:Int}(h:EU n):Ev (gO 82 [.int .i64 n] Z) (fun r=>∃ v l Z',r=⟨false,v,Z'⟩/\Ext Z Z'/\dM Z' v (decide (n<0)) l/\Dig l/\Trm l/\G7 l=n.natAbs/\l.length<=4) ⟨⟩:=by
 obtain⟨h1,h2⟩:=h;obtain⟨N,hN⟩:=nm n.natAbs;have hNl:N<=9223372036854775808:=om;have wu:∀ m:Int,IntKind.u64.wrap m=m % 18446744073709551616:=fun m=>rfl;rw[hN];refine D0 Tryz.func82 rfl rfl ?_;have cI:(decide (n<0)=true/\IntKind.u64.wrap (0-IntKind.u64.wrap n)=(N:Int))\/(decide (n<0)=false/\IntKind.u64.wrap n=(N:Int)):=by
  by_cases hn:n<0
  ·exact .inl ⟨by simpa using hn,by rw[wu,wu];omega⟩
  ·exact .inr ⟨by simpa using hn,by rw[wu];omega⟩
 rcases cI with⟨hc,e1⟩|⟨hc,e1⟩
 all_goals
  refine gU1 (aI @A4 (aI @N5 (aI @N9 (aI @N6 (aI @K6 (aI @M4 (aI @M5 (aI @K7 (aI @K8 (aI @H8 (aI hc (aI e1 @mR)))))))))))) ?_
  refine V9 (fun m fr Z'=>∃ v l,fr.get 0=some (.int .i64 n)/\fr.get 2=some (.pointer (some ⟨Z.n,0,none⟩))/\fr.get 3=some v/\fr.get 4=some (.int .u64 (m:Int))/\Ext (Z.new [.bool false,.slice none 0 0] (some 148)) Z'/\OL (Z.n+1) Z' 1 v (l.map fun d=>[dgv d])/\G7 l+65536 ^ l.length*m=N/\m<=N/\Dig l/\(m=0->Trm l)/\m<65536 ^ (4-l.length)/\l.length<=4)
   (fun r=>∃ fr Z' v l,r=⟨.exit 0,fr,Z'⟩/\fr.get 0=some (.int .i64 n)/\fr.get 2=some (.pointer (some ⟨Z.n,0,none⟩))/\fr.get 3=some v/\Ext (Z.new [.bool false,.slice none 0 0] (some 148)) Z'/\OL (Z.n+1) Z' 1 v (l.map fun d=>[dgv d])/\G7 l=N/\Dig l/\Trm l/\l.length<=4) N ?_ ?_ ?_
  ·exact⟨.slice none 0 0,[],fR,fR,fR,fR,.refl _,OL.nil,by simp[G7],AR _,.nil,fun _=> .nil,by simp;omega,by simp⟩
  ·rintro m fr Z' ⟨v,l,g0,g2,g3,g4,hE,ho,hl,hm,hd,ht,hm4,hl4⟩;by_cases hm0:m=0
   ·subst hm0;have hc':decide ((0:Int)<((0:Nat):Int))=false:=by decide
    refine gU1 (aI @A4 (aI @N5 (aI @N9 (aI @N6 (aI @K6 (aI @M4 (aI @M5 (aI @K7 (aI @K8 (aI @H8 (aI g0 (aI g2 (aI g3 (aI g4 (aI hc' @Q9))))))))))))))) ?_;rw[aJ,Ej]at hl;exact⟨_,_,v,l,rfl,fR1 g0,fR1 g2,fR1 g3,hE,ho,hl,hd,ht rfl,hl4⟩
   ·have hc':decide ((0:Int)<(m:Int))=true:=by rw[z3z];omega
    have hl3:l.length<4:=by
     rcases y8 l.length 4 with h|h
     ·exact h
     ·rw[show 4-l.length=0 by omega]at hm4;simp at hm4;omega
    have f1:(m:Int).tmod 65536=((m % 65536:Nat):Int):=rfl;have f2:IntKind.i64.wrap ((m % 65536:Nat):Int)=((m % 65536:Nat):Int):=wrap64_in om om;have f3:IntKind.u64.wrap ((m:Int).tdiv 65536)=((m / 65536:Nat):Int):=by rw[wu,show(m:Int).tdiv 65536=((m / 65536:Nat):Int)from rfl];omega
    refine gU1 (aI @A4 (aI @N5 (aI @N9 (aI @N6 (aI @K6 (aI @M4 (aI @M5 (aI @K7 (aI @K8 (aI @H8 (aI g0 (aI g2 (aI g3 (aI g4 (aI hc' (aI f1 (aI f2 f3))))))))))))))))) ?_;have hoN:OL (Z.n+1) (Z'.new [.int .i64 ((m % 65536:Nat):Int)]) 1 v (l.map fun d=>[dgv d]):=OL.ext ho (.new _ _);have en:=hE.n;refine G4 (row:=[dgv (m % 65536)]) (fun _ _ _ _=>P9) hoN (D1 nL nL) (D8 (by simp) (by simp)) (by rw[z2z];omega) (by simp only[N8]at en ⊢;omega) ?_;rintro v' Z8 ho' hA -;refine gU1 (aI @A4 (aI @N5 (aI @N9 (aI @N6 (aI @K6 (aI @M4 (aI @M5 (aI @K7 (aI @K8 (aI @H8 (aI g0 (aI g2 (aI g3 (aI g4 (aI f1 (aI f2 (aI f3 @H6))))))))))))))))) ?_;refine⟨m / 65536,om,v',l++[m % 65536],fR1 g0,fR1 g2,fR,fR,hA.ext (hE.AG _) hoN (by simp),by rw[y7];exact ho',?_,om,hd.snoc om,fun h=>Trm.kh om,?_,by simp;omega⟩
    ·rw[Ht,BD,cj,GO];exact kg hl
    ·rw[BD,cj];rw[show 4-l.length=4-(l.length+1)+1 by omega,GO]at hm4;omega
  ·rintro r ⟨fr,Z',v,l,rfl,g0,g2,g3,hE,ho,hl,hd,ht,hl4⟩;have en:=hE.n;simp only[N8]at en;obtain⟨hs,ht'⟩:G6 v=[v]/\EZ v=false:=by obtain⟨va,h⟩:=OL.shape ho;rw[h];exact⟨rfl,rfl⟩
   have o3:Z'.A7 Z.n=some [.bool false,.slice none 0 0]:=by rw[B8 (hE.same _ (by simp))];exact M7 nL nL
   have hE0:Ext Z Z':=Ext.trans (.new _ _) hE;refine gUd (aI @Nt @Dq) (aI @A4 (aI @N5 (aI @N9 (aI @N6 (aI @K6 (aI @M4 (aI @M5 (aI @K7 (aI @K8 (aI @H8 (aI g0 (aI g2 (aI g3 (aI hc (aI hs (aI ht' (aI o3 (a5N @Kb @Kc @Kd @Dr @Tryz.results82)))))))))))))))))) ?_
   have hD:=DN.zW (ho.J3 (Z':=Z'.upd Z.n [.bool (decide (n<0)),v]) (by simp) fun b hb=>by
    have:=(ho.blk hb).1;rw[Bt,z0z om])
   rw[hc]at hD;exact⟨_,l,_,rfl,hE0.upd nL _,⟨v,rfl,hD⟩,hd,ht,hl,hl4⟩
def Et (neg:Bool) (m:Nat):Int×Bool:=if neg=true/\m<=9223372036854775808 then(-(m:Int),true)else if 9223372036854775808<=m then(0,false)else((m:Int),true)
def iE {Z:St}{v w:Value}{a b:List Nat}(ha:DN Z v a) (hb:DN Z w b) (da:Dig a) (db:Dig b) (ta:Trm a) (tb:Trm b) (la:a.length<=30) (lb:b.length<=30) :
  Ev (gO 123 [v,w] Z) (fun r=>∃ v' l Z',r=⟨false,v',Z'⟩/\Ext Z Z'/\DN Z' v' l/\Dig l/\Trm l/\G7 l=Nat.gcd (G7 a) (G7 b)/\l.length<=30) ⟨⟩:=by
 refine D0 Tryz.func123 rfl rfl ?_;obtain⟨wa,ca,hsa⟩:=ha.shape;obtain⟨wb,cb,hsb⟩:=hb.shape;subst hsa hsb;refine gU1 (aI @A4 @D3) ?_
 refine V9 (fun n fr τ=>∃ v w x y,fr.get 0=some v/\fr.get 1=some w/\Ext Z τ/\DN τ v x/\DN τ w y/\Dig x/\Dig y/\Trm x/\Trm y/\x.length<=30/\y.length<=30/\G7 y=n/\Nat.gcd (G7 x) (G7 y)=Nat.gcd (G7 a) (G7 b))
  (fun r=>∃ fr τ v x,r=⟨.exit 0,fr,τ⟩/\fr.get 0=some v/\Ext Z τ/\DN τ v x/\Dig x/\Trm x/\x.length<=30/\G7 x=Nat.gcd (G7 a) (G7 b)) (G7 b) ?_ ?_ ?_
 ·exact⟨_,_,a,b,fR,fR,.refl _,ha,hb,da,db,ta,tb,la,lb,rfl,rfl⟩
 ·rintro n fr τ ⟨v,w,x,y,g0,g1,hE,hx,hy,dx,dy,tx,ty,lx,ly,rfl,hg⟩;obtain⟨wx,cx,hsx⟩:=hx.shape;obtain⟨wy,cy,hsy⟩:=hy.shape;subst hsx hsy;refine gU1 (aI @A4 (aI @D3 (aI g0 g1))) ?_;refine(Ds hy om).mono ?_;rintro z ⟨v3,y',rfl,hy',⟨k,hk⟩,ty',hv,-⟩;have dy':Dig y':=by rw[hk];exact dy.take k
  obtain rfl:y'=y:=Hm dy' dy ty' ty hv;obtain⟨w3,c3,hs3⟩:=hy'.shape;subst hs3;by_cases h0:G7 y'=0
  ·have e0:=Trm.zero ty h0;subst e0;have d0:decide ((0:Int)<((0:Nat):Int))=false:=rfl;refine gP1 (aI g0 (aI g1 (aI d0 (aI @G9 (aI @H2 (aI @Q9 @JH.{0})))))) ?_;rw[h0,lV]at hg;exact⟨_,_,_,x,rfl,fR1 g0,hE,hx,dx,tx,lx,hg⟩
  ·have hl0:0<y'.length:=by
    rcases WM y'.length with h|h
    ·rw[WN h]at h0;exact absurd rfl h0
    ·exact h
   have d0:decide ((0:Int)<(y'.length:Int))=true:=dT;refine gU1 (aI @A4 (aI @D3 (aI g0 (aI g1 d0)))) ?_;refine(Ds hx om).mono ?_;rintro z ⟨v4,x',rfl,hx',⟨k4,hk4⟩,tx',hvx,-⟩;have dx':Dig x':=by rw[hk4];exact dx.take k4
   obtain rfl:x'=x:=Hm dx' dx tx' tx hvx;obtain⟨w4,c4,hs4⟩:=hx'.shape;subst hs4;refine gU1 (aI @A4 (aI @D3 (aI g0 g1))) ?_;refine(Ds hy om).mono ?_;rintro z ⟨v5,y5,rfl,hy5,⟨k5,hk5⟩,ty5,hv5,-⟩;have dy5:Dig y5:=by rw[hk5];exact dy.take k5
   obtain rfl:y5=y':=Hm dy5 dy ty5 ty hv5;obtain⟨w5,c5,hs5⟩:=hy5.shape;subst hs5;refine gU1 (aI @A4 (aI @D3 (aI g0 g1))) ?_;refine(UW hx' hy5 dx dy ty om om om).mono ?_;rintro z ⟨v6,v7,q,l,τ',rfl,hE',hq,hl,dq,dl,tq,tl,hvq,hvl,lq,ll⟩;obtain⟨w6,c6,hs6⟩:=hq.shape;obtain⟨w7,c7,hs7⟩:=hl.shape;subst hs6 hs7;refine gU1 (aI @A4 (aI @D3 (aI g0 (aI g1 @H6)))) ?_;have hlt:=Hg (G7 x') (show 0<G7 y5 by omega);exact⟨G7 l,om,_,_,y5,l,fR,fR,hE.trans hE',hy.mono hE',hl,dy,dl,ty,tl,ly,om,rfl,by rw[hvl,<- hg,SI (G7 x'),lW (G7 y5) (G7 x'),SI (G7 y5)]⟩
 ·rintro z ⟨fr,τ,v,x,rfl,g0,hE,hx,dx,tx,lx,hg⟩;obtain⟨wx,cx,hsx⟩:=hx.shape;subst hsx;refine gU1 (aI @A4 (aI @D3 g0)) ?_;refine(Ds hx om).mono ?_;rintro z ⟨v4,x',rfl,hx',⟨k4,hk4⟩,tx',hvx,-⟩;obtain⟨w4,c4,hs4⟩:=hx'.shape;subst hs4;refine gU1 (a3N @A4 @D3 @Tryz.results123) ?_;exact⟨_,x',_,rfl,hE,hx',by rw[hk4];exact dx.take k4,tx',by rw[hvx];exact hg,by rw[hk4,Dh];omega⟩
def mS {Z:St}{v:Value}{neg:Bool}{l:List Nat}(hb:dM Z v neg l) (dl:Dig l) (tl:Trm l) (ll:l.length<=50) :
  Ev (gO 126 [v] Z) (fun r=>∃ Z',r=⟨false,.tuple ⟨[.int .i64 (Et neg (G7 l)).1,.bool (Et neg (G7 l)).2]⟩,Z'⟩/\Ext Z Z') ⟨⟩:=by
 obtain⟨w,rfl,hw⟩:=hb;obtain⟨ww,wc,hs⟩:=hw.shape;subst hs;have hE:Ext Z (Z.new [.bool neg,.slice ww l.length wc]):= .new _ _;have wu:∀ m:Int,IntKind.u64.wrap m=m % 18446744073709551616:=fun m=>rfl;refine D0 Tryz.func126 rfl rfl ?_;refine gPd (a6N @Nt @Dq @Ae @Af @Ci @Cj) (a5N @Kb @Kc @Kd @mR @Dr) ?_;refine(Ds (hw.mono hE) om).mono ?_;rintro z ⟨v3,l',rfl,hl',⟨k,hk⟩,tl',hv,-⟩;have dl':Dig l':=by rw[hk];exact dl.take k
 obtain rfl:l'=l:=Hm dl' dl tl' tl hv;obtain⟨la,lc,lb,lo,lcs,hs3,a1,a2⟩:=hl'.use;subst hs3;by_cases h4:4<l'.length
 ·have d0:decide ((4:Int)<(l'.length:Int))=true:=dT;refine gU1 (aI @A4 (aI @D3 (aI d0 @Tryz.results126))) ?_;have hV:18446744073709551616<=G7 l':=by
   have h5:=tl'.le (fun e=>by rw[e]at h4;simp at h4);have h6:65536 ^ 4<=65536 ^ (l'.length-1):=Uh om om;have h7:(65536:Nat) ^ 4=18446744073709551616:=by decide
   omega
  have e:Et neg (G7 l')=(0,false):=by unfold Et;rw[z0z om,z1z om]
  rw[e];exact⟨_,rfl,hE⟩
 ·have d0:decide ((4:Int)<(l'.length:Int))=false:=dF;refine gU1 (aI @A4 (aI @D3 d0)) ?_
  refine GM l'.length (fun k fr τ=>fr.get 1=some (.pointer (some ⟨Z.n,0,none⟩))/\fr.get 4=some (.slice la l'.length lc)/\fr.get 6=some (.int .i64 ((l'.length:Int)-1-(k:Nat)))/\τ=Z.new [.bool neg,.slice ww l'.length wc]/\fr.get 5=some (.int .u64 ((G7 (l'.drop (l'.length-k)):Nat):Int)))
   (fun r=>∃ fr,r=⟨.exit 0,fr,Z.new [.bool neg,.slice ww l'.length wc]⟩/\fr.get 1=some (.pointer (some ⟨Z.n,0,none⟩))/\fr.get 5=some (.int .u64 ((G7 l':Nat):Int))) ?_ ?_ ?_
  ·exact⟨fR,fR,by rw[show((l'.length:Int)-1-((0:Nat):Int))=(l'.length:Int)-1 by omega];exact(fR),rfl,by rw[Oq,WW];exact(fR)⟩
  ·rintro k fr τ hk ⟨g1,g4,g6,rfl,g5⟩;by_cases hk2:k=l'.length
   ·subst hk2;have e1:((l'.length:Int)-1-(l'.length:Nat))= -1:=om;rw[e1]at g6;rw[gJ,UU]at g5;have d2:decide ((-1:Int)<0)=true:=rfl;refine gU1 (aI @A4 (aI @D3 (aI g6 (aI d2 @Gi)))) ?_;exact⟨_,rfl,fR1 g1,fR1 g5⟩
   ·obtain⟨m,hm⟩:=nm (l'.length-1-k);have e1:((l'.length:Int)-1-(k:Nat))=(m:Int):=om;rw[e1]at g6;rw[show l'.length-k=m+1 by omega]at g5;obtain⟨x,hx⟩:=E8 (l:=l') (k:=m) om;have xl:=dl'.get hx;obtain⟨sp,rfl,h3,h4⟩:=a1 om;have s1:=a2 m x hx;have c1:decide ((m:Int)<0)=false:=dF;have l1:Nat.blt m l'.length=true:=by rw[DC];omega
    have hx':=(List.getElem?_eq_some_iff.1 hx).2;obtain⟨V,hV⟩:=nm (G7 (l'.drop (m+1)));have hVl:V<281474976710656:=by
     have:=KC (l:=l'.drop (m+1)) (fun y hy=>dl' y (ZY hy));rw[hV,Ei]at this;have h5:65536 ^ (l'.length-(m+1))<=65536 ^ 3:=Uh om om;have h6:(65536:Nat) ^ 3=281474976710656:=by decide
     omega
    rw[hV]at g5;have f1:Gl .u64 ((V:Int)*65536)=((V*65536:Nat):Int):=by rw[Gm,wu];omega
    have f2:IntKind.u64.wrap (x:Int)=(x:Int):=by rw[wu];omega
    have f3:Gl .u64 (((V*65536:Nat):Int)+(x:Int))=((x+65536*V:Nat):Int):=by rw[Gm,wu];omega
    have e2:(m:Int)-1=(l'.length:Int)-1-((k+1:Nat):Int):=om;refine gU1 (aI @A4 (aI @D3 (aI g1 (aI g4 (aI g5 (aI g6 (aI c1 (aI h4 (aI s1 (aI l1 (aI f1 (aI f2 (aI f3 @El))))))))))))) ?_;refine⟨om,fR1 g1,fR1 g4,by rw[<- e2];exact(fR),rfl,?_⟩;rw[show l'.length-(k+1)=m by omega,LW (show m<l'.length by omega),hx',Y5,hV];exact(fR)
  ·rintro z ⟨fr,rfl,g1,g5⟩;obtain⟨M,hM⟩:=nm (G7 l');rw[hM]at g5;have hMl:M<18446744073709551616:=by
    have:=KC dl';rw[hM]at this;have h5:65536 ^ l'.length<=65536 ^ 4:=Uh om om;have h6:(65536:Nat) ^ 4=18446744073709551616:=by decide
    omega
   rw[hM];cases d1:decide (9223372036854775808<(M:Int))with
   | true=>
     have h1:=z6z d1;have d2:decide ((M:Int)<9223372036854775808)=false:=dF;have e:Et neg M=(0,false):=by unfold Et;rw[z0z om,z1z om]
     rw[e];cases neg
     ·refine gPd (a4N @Nt @Dq @Ae @Af) (aI g1 (aI g5 (aI @Dr (aI d1 (aI d2 @Tryz.results126))))) ?_;exact⟨_,rfl,hE⟩
     ·refine gPd (a4N @Nt @Dq @Ae @Af) (aI g1 (aI g5 (aI @Dr (aI d1 (aI d2 @Tryz.results126))))) ?_;exact⟨_,rfl,hE⟩
   | false=>
     have h1:=z9z d1;cases neg
     ·cases d2:decide ((M:Int)<9223372036854775808)with
      | true=>
        have h2:=z6z d2;have e:Et false M=((M:Int),true):=by unfold Et;rw[z0z (by simp),z0z om]
        have e1:IntKind.i64.wrap (M:Int)=(M:Int):=wrap64_in om om;rw[e];refine gPd (a4N @Nt @Dq @Ae @Af) (aI g1 (aI g5 (aI @Dr (aI d1 (aI d2 (aI e1 @Tryz.results126)))))) ?_;exact⟨_,rfl,hE⟩
      | false=>
        have h2:=z9z d2;have e:Et false M=(0,false):=by unfold Et;rw[z0z (by simp),z1z om]
        rw[e];refine gPd (a4N @Nt @Dq @Ae @Af) (aI g1 (aI g5 (aI @Dr (aI d1 (aI d2 @Tryz.results126))))) ?_;exact⟨_,rfl,hE⟩
     ·have e:Et true M=(-(M:Int),true):=by unfold Et;rw[z1z ⟨rfl,om⟩]
      have e1:IntKind.i64.wrap (IntKind.u64.wrap (0-(M:Int)))= -(M:Int):=by
       rw[wu,wrap_i64];split<;>omega
      rw[e];refine gPd (a4N @Nt @Dq @Ae @Af) (aI g1 (aI g5 (aI @Dr (aI d1 (aI e1 @Tryz.results126))))) ?_;exact⟨_,rfl,hE⟩
def NK (neg:Bool) (N D:Nat):Int×Int×Bool :=
 if (Et (neg&&decide (0<N / Nat.gcd N D)) (N / Nat.gcd N D)).2&&(Et false (D / Nat.gcd N D)).2 then((Et (neg&&decide (0<N / Nat.gcd N D)) (N / Nat.gcd N D)).1,(Et false (D / Nat.gcd N D)).1,true)else(0,1,false)
def tN {x y:Operand}{a b:Bool}:Bi Tryz.prog .neq 4 x y (.bool a) (.bool b)=some (.bool (a != b)):=by cases a<;>cases b<;>kernel_rfl
def mQ {Z:St}{n:Int}:Ev (gO 78 [.int .i64 n] Z) (fun r=>∃ Z',r=⟨false,.agg ⟨[.int .i64 n,.int .i64 1]⟩,Z'⟩/\Ext Z Z') ⟨⟩:=by
 refine D0 Tryz.func78 rfl rfl ?_;refine gU1 (a3N @A4 @D3 @Tryz.results78) ?_;exact⟨_,rfl,eX⟩
def LO {Z:St}{v w:Value}{n1 n2:Bool}{a b:List Nat}(ha:dM Z v n1 a) (hb:dM Z w n2 b) (da:Dig a) (db:Dig b) (ta:Trm a) (tb:Trm b) (la:a.length<=20) (lb:b.length<=20) (h0:0<G7 b) :
  Ev (gO 81 [v,w] Z) (fun r=>∃ Z',r=⟨false,.tuple ⟨[.agg ⟨[.int .i64 (NK (n1 != n2) (G7 a) (G7 b)).1,.int .i64 (NK (n1 != n2) (G7 a) (G7 b)).2.1]⟩,.bool (NK (n1 != n2) (G7 a) (G7 b)).2.2]⟩,Z'⟩/\Ext Z Z') ⟨⟩:=by
 obtain⟨va,rfl,hva⟩:=ha;obtain⟨vb,rfl,hvb⟩:=hb;obtain⟨wa,ca,hsa⟩:=hva.shape;obtain⟨wb,cb,hsb⟩:=hvb.shape;subst hsa hsb;obtain⟨LF,hLF⟩:=nm (NK (n1 != n2) (G7 a) (G7 b));rw[hLF];refine D0 Tryz.func81 rfl rfl ?_;refine gPd (a6N @Nt @Dq @Ae @Af @Ci @Cj) (a5N @Kb @Kc @Kd @mR @Dr) ?_;obtain⟨S,hS⟩:∃ S,S=(((Z.new [Value.bool n1,Value.slice wa a.length ca]).new [Value.bool n2,Value.slice wb b.length cb]).new [Value.int IntKind.i64 0,Value.int IntKind.i64 0] (some 32)):=⟨_,rfl⟩
 have hE0:Ext Z S:=by rw[hS];exact((Ext.new _ _).trans (.new _ _)).trans (.new _ _)
 have hn:S.n=Z.n+3:=by rw[hS];simp
 have o1:S.A7 Z.n=some [.bool n1,.slice wa a.length ca]:=by rw[hS];exact cL
 have o2:S.A7 (Z.n+1)=some [.bool n2,.slice wb b.length cb]:=by rw[hS];exact cL
 have o3:S.A7 (Z.n+2)=some [.int .i64 0,.int .i64 0]:=by rw[hS];exact cL
 rw[<- hS];have iD:∀ {τ:St},Ext S τ->Ext Z τ/\Z.n+3<=τ.n/\τ.row Z.n=some [.bool n1,.slice wa a.length ca]/\τ.row (Z.n+1)=some [.bool n2,.slice wb b.length cb]/\τ.A7 (Z.n+2)=some [.int .i64 0,.int .i64 0]:=fun{τ} h=>
  ⟨hE0.trans h,by have:=h.n;omega,by rw[h.row om];exact A6 o1,by rw[h.row om];exact A6 o2,by rw[B8 (h.same _ om)];exact o3⟩
 refine(iE (hva.mono hE0) (hvb.mono hE0) da db ta tb om om).mono ?_;rintro z ⟨v1,g,τ1,rfl,hE1,hg,dg,tg,hgv,lg⟩;obtain⟨wg,cg,hsg⟩:=hg.shape;subst hsg;obtain⟨hF1,n1',r1,r2,r3⟩:=iD hE1;clear hS;refine gPd (a5N @Dq @Ae @Af @Ci @Cj) (aI @Dr (aI r1 r2)) ?_;refine(Ds (hva.mono hF1) om).mono ?_;rintro z ⟨v2,a',rfl,ha',⟨k2,hk2⟩,ta',Ar9,-⟩;have da':Dig a':=by rw[hk2];exact da.take k2
 obtain rfl:a'=a:=Hm da' da ta' ta Ar9;obtain⟨w2,c2,hs2⟩:=ha'.shape;subst hs2;refine gPd (a5N @Dq @Ae @Af @Ci @Cj) @Dr ?_;have hg0:0<G7 g:=by rw[hgv];exact cu _ h0
 refine(UW ha' hg da dg tg om om hg0).mono ?_;rintro z ⟨v3,v4,x,rx,τ2,rfl,hE2,hx,hrx,dx,drx,tx,trx,hxv,-,lx,-⟩;obtain⟨w3,c3,hs3⟩:=hx.shape;obtain⟨w4,c4,hs4⟩:=hrx.shape;subst hs3 hs4;obtain⟨hF2,n2',r4,r5,r6⟩:=iD (hE1.trans hE2);refine gPd (a5N @Dq @Ae @Af @Ci @Cj) (aI @Dr (aI r4 r5)) ?_;refine(Ds (hvb.mono hF2) om).mono ?_;rintro z ⟨v5,b',rfl,hb',⟨k5,hk5⟩,tb',As0,-⟩;have db':Dig b':=by rw[hk5];exact db.take k5
 obtain rfl:b'=b:=Hm db' db tb' tb As0;obtain⟨w5,c5,hs5⟩:=hb'.shape;subst hs5;refine gPd (a5N @Dq @Ae @Af @Ci @Cj) @Dr ?_;refine(UW hb' (hg.mono hE2) db dg tg om om hg0).mono ?_;rintro z ⟨v6,v7,y,ry,τ3,rfl,hE3,hy,hry,dy,dry,ty,BM4,hyv,-,ly,-⟩;obtain⟨w6,c6,hs6⟩:=hy.shape;obtain⟨w7,c7,hs7⟩:=hry.shape;subst hs6 hs7;obtain⟨hF3,n3',r7,r8,r9⟩:=iD ((hE1.trans hE2).trans hE3);obtain⟨sg,hsg⟩:=nm (((n1 != n2)&&decide (0<G7 x)));have hlx:decide ((0:Int)<(x.length:Int))=decide (0<G7 x):=by
  by_cases hz:G7 x=0
  ·rw[Trm.zero tx hz];rfl
  ·have:0<x.length:=by
    rcases WM x.length with h|h
    ·rw[WN h]at hz;exact absurd rfl hz
    ·exact h
   rw[dT,dT]
 have key:∀ {Q:CR->Prop},(∀ τ,Ext τ3 τ->Q ⟨false,.tuple ⟨[.int .i64 (Et sg (G7 x)).1,.bool (Et sg (G7 x)).2]⟩,τ⟩)->Ev (gO 126 [.agg ⟨[.bool sg,.slice w3 x.length c3]⟩] τ3) Q ⟨⟩:=fun{Q} h=>by
  refine(mS ⟨_,rfl,hx.mono hE3⟩ dx tx om).mono ?_;rintro z ⟨τ,rfl,hτ⟩;exact h τ hτ
 cases hne:(n1 != n2)
 all_goals
  rw[hne]at hsg;simp only[CC,DL]at hsg;subst hsg;refine gPd (a5N @Dq @Ae @Af @Ci @Cj) (aI @Dr (aI r7 (aI r8 (aI @tN (aI hne (aI hlx (a3N @Kb @Kc @Kd))))))) ?_;refine key ?_;intro τ4 hE4;refine gPd (a5N @Dq @Ae @Af @Ci @Cj) (a4N @Dr @Kb @Kc @Kd) ?_;refine(mS (Z:=τ4) ⟨_,rfl,hy.mono hE4⟩ dy ty om).mono ?_;rintro z ⟨τ5,rfl,hE5⟩;obtain⟨hF5,n5',r10,r11,r12⟩:=iD ((((hE1.trans hE2).trans hE3).trans hE4).trans hE5);rw[hne]at hLF;unfold NK at hLF;rw[<- hgv,<- hxv,<- hyv]at hLF;simp only[CC,DL]at hLF;generalize Et false (G7 y)=fy at hLF ⊢;generalize Et _ (G7 x)=fx at hLF ⊢;obtain⟨xn,xo⟩:=fx;obtain⟨yn,yo⟩:=fy;dsimp only at hLF;have hF6:∀ cs:List Value,Ext Z (τ5.upd (Z.n+2) cs):=fun cs=>hF5.upd om _;cases xo
  ·obtain rfl:(0,1,false)=LF:=by rw[<- hLF];rfl
   refine gPd (a5N @Dq @Ae @Af @Ci @Cj) (a4N @Dr @Kb @Kc @Kd) ?_;refine mQ.mono ?_;rintro z ⟨τ6,rfl,hE6⟩;obtain⟨hF7,n7',r13,r14,r15⟩:=iD (((((hE1.trans hE2).trans hE3).trans hE4).trans hE5).trans hE6);refine gPd (a5N @Dq @Ae @Af @Ci @Cj) (aI @Dr (aI @Kb (aI @Kc (aI @Kd (aI r15 @Tryz.results81))))) ?_;exact⟨_,rfl,hF7.upd om _⟩
  ·cases yo
   ·obtain rfl:(0,1,false)=LF:=by rw[<- hLF];rfl
    refine gPd (a5N @Dq @Ae @Af @Ci @Cj) (a4N @Dr @Kb @Kc @Kd) ?_;refine mQ.mono ?_;rintro z ⟨τ6,rfl,hE6⟩;obtain⟨hF7,n7',r13,r14,r15⟩:=iD (((((hE1.trans hE2).trans hE3).trans hE4).trans hE5).trans hE6);refine gPd (a5N @Dq @Ae @Af @Ci @Cj) (aI @Dr (aI @Kb (aI @Kc (aI @Kd (aI r15 @Tryz.results81))))) ?_;exact⟨_,rfl,hF7.upd om _⟩
   ·obtain rfl:(xn,yn,true)=LF:=by rw[<- hLF];rfl
    refine gPd (a5N @Dq @Ae @Af @Ci @Cj) (aI @Dr (aI @Kb (aI @Kc (aI @Kd (aI r12 @Tryz.results81))))) ?_;exact⟨_,rfl,hF6 _⟩
section
variable {n d:Int}{Z:St}
def IX (n:Int):Bool:=decide (-1000000000<n)&&decide (n<1000000000)
def Jz:Ev (gO 79 [.int .i64 n] Z) (fun r=>r=⟨false,.bool (IX n),Z⟩) ⟨⟩:=by
 unfold IX;refine D0 Tryz.func79 rfl rfl ?_;cases c1:decide (-1000000000<n)
 ·refine gU1 (aI @A4 (aI @D3 (aI c1 (a4N @G9 @H2 @Tryz.results79 @CC)))) ?_;try exact⟨⟩
 ·refine gU1 (aI @A4 (aI @D3 (aI c1 (a4N @G9 @H2 @Tryz.results79 @DL)))) ?_;try exact⟨⟩
def PT (n d:Int):Bool:=decide (1<=d)&&decide (Int.gcd n d=1)
def WD (h:1<=d):(decide (qn n d=n)&&decide (qd n d=d))=decide (Int.gcd n d=1):=by
 by_cases hg:Int.gcd n d=1
 ·obtain⟨e1,e2⟩:=AD0 h hg;rw[e1,e2,Aq hg];simp
 ·rw[z4z hg,<- dL,y6,IK,IK];rintro⟨e1,e2⟩;have:=(zL (n:=n) (d:=d) om).1;rw[e1,e2]at this;exact hg this
def SW (hn:EU n) (hd:EU d) (h:1<=d):((NK (decide (n<0) != decide (d<0)) n.natAbs d.natAbs).2.2&&(decide (n=(NK (decide (n<0) != decide (d<0)) n.natAbs d.natAbs).1)&&decide (d=(NK (decide (n<0) != decide (d<0)) n.natAbs d.natAbs).2.1)))=decide (Int.gcd n d=1):=by
 obtain⟨h1,h2⟩:=hn;obtain⟨h3,h4⟩:=hd;have hd0:decide (d<0)=false:=dF;have e0:(decide (n<0) != false)=decide (n<0):=by cases decide (n<0)<;>rfl
 rw[hd0,e0];have hgg:Int.gcd n d=Nat.gcd n.natAbs d.natAbs:=rfl;obtain⟨N,hN⟩:=nm n.natAbs;obtain⟨D,hD⟩:=nm d.natAbs;rw[hgg,hN,hD];have hDd:d=(D:Int):=om;have hF:∀ m,m<=9223372036854775807->Et false m=((m:Int),true):=fun m hm=>by unfold Et;rw[z0z (by simp),z0z om]
 have hDg:D / Nat.gcd N D<=D:=Vl _ _;unfold NK;rw[hF (D / Nat.gcd N D) om,WE];by_cases hg:Nat.gcd N D=1
 ·rw[hg,mO,mO,Aq (rfl:(1:Nat)=1)];have hx:Et (decide (n<0)&&decide (0<N)) N=(n,true):=by
   unfold Et;by_cases hn:n<0
   ·rw[z1z ⟨by rw[Aq hn,dT];rfl,om⟩];congr 1;omega
   ·rw[z0z (by rw[z4z hn];simp),z0z om];congr 1;omega
  rw[hx];simp[hDd]
 ·rw[z4z hg];have hlt:D / Nat.gcd N D≠D:=by
   have hg0:0<Nat.gcd N D:=cu _ om;have:=Nat.div_lt_self (show 0<D by omega) (show 1<Nat.gcd N D by omega);omega
  cases hb:(Et (decide (n<0)&&decide (0<N / Nat.gcd N D)) (N / Nat.gcd N D)).2
  ·simp
  ·simp only[reduceIte,DL];rw[z4z (p:=d=_) om,Ge]
def iB (hn:EU n) (hd:EU d):Ev (gO 161 [Zp n d] Z) (fun r=>∃ Z',r=⟨false,.bool (PT n d),Z'⟩/\Ext Z Z') ⟨⟩:=by
 refine D0 Tryz.func161 rfl rfl ?_;unfold Zp PT;cases c1:decide (d<1)with
 | true=>
   rw[z4z (p:=1<=d) (by have:=z6z c1;omega),CC];refine gU1 (aI @A4 (aI @D3 (aI c1 @Tryz.results161))) ?_;exact⟨_,rfl,eX⟩
 | false=>
   have hd1:1<=d:=by have:=z9z c1;omega
   rw[Aq hd1,DL];refine gU1 (aI @A4 (aI @D3 c1)) ?_;refine Jz.mono ?_;rintro r rfl;have BM3:∀ {fr:Fr}{τ:St},True:=fun{fr τ}=>trivial;cases b1:IX n
   ·refine gU1 (aI @A4 @D3) ?_;refine(SX hn).mono ?_;rintro r ⟨v1,l1,Z2,rfl,hE2,⟨w1,rfl,hw1⟩,dl1,tl1,hv1,ll1⟩;obtain⟨x1,y1,hs1⟩:=hw1.shape;subst hs1;have n2:=hE2.n;simp only[N8]at n2;have q2:Z2.row Z.n=some [.int .i64 n,.int .i64 d]:=eT (hE2.row (cL)) cL;refine gU1 (aI @A4 (aI @D3 q2)) ?_;refine(SX hd).mono ?_;rintro r ⟨v3,l3,Z3,rfl,hE3,⟨w3,rfl,hw3⟩,dl3,tl3,hv3,ll3⟩;obtain⟨x3,y3,hs3⟩:=hw3.shape;subst hs3;have n3:=hE3.n;refine gU1 (aI @A4 @D3) ?_;refine(LO ⟨_,rfl,hw1.mono hE3⟩ ⟨_,rfl,hw3⟩ dl1 dl3 tl1 tl3 om om om).mono ?_;rintro r ⟨Z4,rfl,hE4⟩;have n4:=hE4.n;have q4:=eT (hE4.row om) (eT (hE3.row om) q2);rw[hv1,hv3];have hE:Ext Z Z4:=((Ext.trans (eX) hE2).trans hE3).trans hE4;rw[<- SW hn hd hd1];generalize NK (decide (n<0) != decide (d<0)) n.natAbs d.natAbs=LF;obtain⟨la,lb,lo⟩:=LF;refine gP1 (aI q4 (aI @AK (aI (asx hE2) (aI (asx hE3) (aI (asx hE4) @Bq))))) ?_;refine dW1 (aI (asx hE2) (aI (asx hE3) (asx hE4))) ?_;cases lo
    ·refine gP1 (aI q4 (a3N @AK @CC @Tryz.results161)) ?_;exact⟨_,rfl,eX⟩
    ·refine gP1 (aI q4 (a3N @AK @DL @Tryz.results161)) ?_;exact⟨_,rfl,eX⟩
   ·refine gU1 (aI @A4 @D3) ?_;refine Jz.mono ?_;rintro r rfl;cases b2:IX d
    ·refine gU1 (aI @A4 @D3) ?_;refine(SX hn).mono ?_;rintro r ⟨v1,l1,Z2,rfl,hE2,⟨w1,rfl,hw1⟩,dl1,tl1,hv1,ll1⟩;obtain⟨x1,y1,hs1⟩:=hw1.shape;subst hs1;have n2:=hE2.n;simp only[N8]at n2;have q2:Z2.row Z.n=some [.int .i64 n,.int .i64 d]:=eT (hE2.row (cL)) cL;refine gU1 (aI @A4 (aI @D3 q2)) ?_;refine(SX hd).mono ?_;rintro r ⟨v3,l3,Z3,rfl,hE3,⟨w3,rfl,hw3⟩,dl3,tl3,hv3,ll3⟩;obtain⟨x3,y3,hs3⟩:=hw3.shape;subst hs3;have n3:=hE3.n;refine gU1 (aI @A4 @D3) ?_;refine(LO ⟨_,rfl,hw1.mono hE3⟩ ⟨_,rfl,hw3⟩ dl1 dl3 tl1 tl3 om om om).mono ?_;rintro r ⟨Z4,rfl,hE4⟩;have n4:=hE4.n;have q4:=eT (hE4.row om) (eT (hE3.row om) q2);rw[hv1,hv3];have hE:Ext Z Z4:=((Ext.trans (eX) hE2).trans hE3).trans hE4;rw[<- SW hn hd hd1];generalize NK (decide (n<0) != decide (d<0)) n.natAbs d.natAbs=LF;obtain⟨la,lb,lo⟩:=LF;refine gP1 (aI q4 (aI @AK (aI (asx hE2) (aI (asx hE3) (aI (asx hE4) @Bq))))) ?_;refine dW1 (aI (asx hE2) (aI (asx hE3) (asx hE4))) ?_;cases lo
     ·refine gP1 (aI q4 (a3N @AK @CC @Tryz.results161)) ?_;exact⟨_,rfl,eX⟩
     ·refine gP1 (aI q4 (a3N @AK @DL @Tryz.results161)) ?_;exact⟨_,rfl,eX⟩
    ·unfold IX at b1 b2;simp only[y6,IK]at b1 b2;refine gU1 (aI @A4 @D3) ?_;refine(WG (n:=n) (d:=d) ⟨om,om⟩ ⟨om,om⟩ om).mono ?_;rintro r ⟨Z2,rfl,hE2⟩;have n2:=hE2.n;simp only[N8]at n2;have q2:Z2.row Z.n=some [.int .i64 n,.int .i64 d]:=eT (hE2.row (cL)) cL;have hE:Ext Z Z2:=Ext.trans (eX) hE2;rw[<- WD hd1];refine gP1 (aI q2 (aI @AK (aI (asx hE2) (aI @Bq @Tryz.results161)))) ?_;exact⟨_,rfl,eX⟩
def WH (h:RQ n d):Ev (gO 161 [Zp n d] Z) (fun r=>∃ Z',r=⟨false,.bool true,Z'⟩/\Ext Z Z') ⟨⟩:=by
 have e:PT n d=true:=by
  unfold PT;rw[Aq h.d1,Aq h.low];rfl
 have:=h.n1;have:=h.n2;have:=h.d1;have:=h.d2;refine(iB (n:=n) (d:=d) ⟨om,om⟩ ⟨om,om⟩).mono ?_;rintro r ⟨Z',rfl,hE⟩;rw[e];exact⟨_,rfl,hE⟩
end
end Go.Proofs.T
