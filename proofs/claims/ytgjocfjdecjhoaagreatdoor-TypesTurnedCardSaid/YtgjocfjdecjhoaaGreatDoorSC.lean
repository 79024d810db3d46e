/- The Cg check of any DY. -/
import Derived.Test.YtgjocfjdecjhoaaGreatDoorSB
import Derived.Test.YtgjocfjdecjhoaaGreatDoorEA
set_option linter.unusedSimpArgs false
set_option linter.unusedVariables false
set_option linter.defProp false
set_option maxHeartbeats 32000000
set_option maxRecDepth 100000
namespace Go.Proofs.T
open Go Go.Ab
def AB9 {α:Type}:=@nm α
def AI8 {b:St}:=@asx b b (Ext.refl b)
section
variable {n d:Int}{p dp:Nat}{e:Ex}{op nm:By}{Z:St}{es:List Ex}
def mT (h: -1000000000000000000<=n/\n<=1000000000000000000):
  Ev (gO 104 [.int .i64 n] Z) (fun r=>r=⟨false,.int .u64 (n.natAbs:Int),Z⟩) ⟨⟩:=by
 have wu:∀ m:Int,IntKind.u64.wrap m=m % 18446744073709551616:=fun m=>rfl;refine C9 Tryz.func104 rfl rfl ?_;cases c:decide (n<0)with
 | true=>
   have:=z6z c;have e1:IntKind.u64.wrap (0-IntKind.u64.wrap n)=(n.natAbs:Int):=by rw[wu,wu];omega
   refine gS1 (aI c (aI e1 @Tryz.results104)) ?_;try exact⟨⟩
 | false=>
   have:=z9z c;have e1:IntKind.u64.wrap n=(n.natAbs:Int):=by rw[wu];omega
   refine gS1 (aI c (aI e1 @Tryz.results104)) ?_;try exact⟨⟩
def bH (hn: -1000000000000000000<=n/\n<=1000000000000000000) (hd:0<=d/\d<=1000000):Ev (gO 103 [.agg ⟨[.int .i64 n,.int .i64 d]⟩] Z) (fun r=>∃ Z',r=⟨false,.bool (DL n d),Z'⟩/\Ext Z Z') ⟨⟩:=by
 unfold DL;refine C9 Tryz.func103 rfl rfl ?_;cases c1:decide ((0:Int)<d)with
 | false=>
   rw[z4z (p:=1<=d) (by have:=z9z c1;omega),MJ];refine gS1 (aI c1 (a3N @D9 @F4 @Tryz.results103)) ?_;exact⟨_,rfl,eX⟩
 | true=>
   have hd1:1<=d:=by have:=z6z c1;omega
   rw[Be hd1,IE];obtain⟨D,rfl⟩:=Fo (show 0<=d by omega);have e5:IntKind.u64.wrap (D:Int)=(D:Nat):=FO om om;refine gS1 c1 ?_;refine(mT hn).mono ?_;rintro r rfl;have q0:(Z.new [.int .i64 n,.int .i64 (D:Nat)]).row Z.n=some [.int .i64 n,.int .i64 (D:Nat)]:=cL;refine gS1 (aI q0 e5) ?_;refine KC.mono ?_;rintro r rfl;have hg:Nat.gcd n.natAbs D=Int.gcd n (D:Nat):=rfl;rw[hg];have z1:decide (((Int.gcd n (D:Nat):Nat):Int)=1)=decide (Int.gcd n (D:Nat)=1):=MK (m:=1);refine gS1 (aI z1 @AI8) ?_
   try refine Ca.intro (by(repeat first|simp(disch:=omega) only[M9,G3,G8,asx (Ext.refl _),z1,e5]|rw[V8 (by kernel_rfl)]);first|done|rfl) ?_
   try(refine gS1 (aI z1 @Tryz.results103) ?_;try exact⟨⟩)
   exact⟨_,rfl,eX⟩
def rfB (e:Ex) (dp p:Nat):Bool:=Da e&&decide (AB e<=dp)&&decide (p+R0 e<=60)
def Py:1<=AB e:=by cases e;rw[Cw];omega
def mU:rfB e 0 p=false:=by
 unfold rfB;have:=Py (e:=e);rw[z4z (p:=AB e<=0) om,NO,MJ]
def mV (h:60<p+1):rfB e dp p=false:=by
 unfold rfB;have:=Pz (e:=e);rw[z4z (p:=p+R0 e<=60) om,NO]
def S8 (h:AO op n d nm es.length=false):rfB (.mk op n d nm es) dp p=false:=by
 unfold rfB;rw[AP,h,MJ,MJ,MJ]
def XA (h:AO op n d nm es.length=true) (h0:es.length=0) (h1:1<=dp) (h2:p+1<=60):rfB (.mk op n d nm es) dp p=true/\R0 (.mk op n d nm es)=1:=by
 obtain rfl:=XB h0;refine⟨?_,by rw[X0,R2]⟩;unfold rfB;rw[AP,h,BU,Cw,CB,X0,R2,dT,dT];rfl
def vB {a b:Ex}(h:AO op n d nm 2=true):rfB (.mk op n d nm [a,b]) (dp+1) p=(rfB a dp (p+1)&&rfB b dp (p+1+R0 a)):=by
 unfold rfB;rw[AP,show([a,b]:List Ex).length=2 from rfl,h,AK,AK,BU,Cw,Ah,Ah,CB,X0,N4,N4,R2];have:=Pz (e:=b);rw[z7z];simp only[Q7,Dn,IE,and_true];constructor
 ·rintro⟨⟨⟨h1,h2⟩,h3⟩,h4⟩;exact⟨⟨⟨h1,om⟩,om⟩,⟨h2,om⟩,om⟩
 ·rintro⟨⟨⟨h1,h3⟩,h4⟩,⟨h2,h5⟩,h6⟩;exact⟨⟨⟨h1,h2⟩,om⟩,om⟩
def RfG (e:Ex):Prop:=∀ {Z0 Z:St}{row:List Value}{p dp cb:Nat},P6 Z0 row e->Ext Z0 Z->Z0.n<=cb->cb<Z.n->Z.A7 cb=some [.int .i64 (p:Nat)]->dp<=12->p<=60 ->
 Ev (gO 138 [.agg ⟨row⟩,.int .i64 (dp:Nat),.pointer (some ⟨cb,0,none⟩)] Z) (fun r=>∃ Z',r=⟨false,.bool (rfB e dp p),Z'⟩/\J7 cb Z Z'/\(rfB e dp p=true->Z'.A7 cb=some [.int .i64 (p+R0 e:Nat)])) ⟨⟩
def AI9:∀ (s:Nat){w:Nat}{e:Ex},SizeOf.sizeOf e<s->WfE w e->w<=4->RfG e:=by
 intro s;induction s with
 |zero=>intro w e hs;omega
 | succ s ih=>
   intro w e hs hw hw4 Z0 Z row p dp cb he hE0 hcb hlt ho hd hp;obtain⟨o,n,d,nm,es⟩:=e;obtain⟨v,B9,rfl,h1,-,h2⟩:=he;obtain⟨a,c,B,off,cells,rfl,s1,s2⟩:=Cb.slice h1 h2;obtain⟨k1,k2,k3,k4,k5,k6⟩:=Dt.1 hw;obtain⟨k,hk⟩:=AB9 es.length;rw[hk];have rr:=A9 ho;have hne:cb≠Z.n:=om;have E0':Ext Z (Z.new [str o,.int .i64 n,.int .i64 d,str nm,.slice a k c]):=eX;obtain⟨R,hR⟩:∃ R:List Value,[str o,.int .i64 n,.int .i64 d,str nm,.slice a k c]=R:=⟨_,rfl⟩
   have q0:sub R 0 1=some [str o]:=by rw[<- hR];rfl
   have q1:sub R 1 2=some [.int .i64 n,.int .i64 d]:=by rw[<- hR];rfl
   have q11:sub R 1 1=some [.int .i64 n]:=by rw[<- hR];rfl
   have q12:sub R 2 1=some [.int .i64 d]:=by rw[<- hR];rfl
   have q3:sub R 3 1=some [str nm]:=by rw[<- hR];rfl
   have q4:sub R 4 1=some [.slice a k c]:=by rw[<- hR];rfl
   have qf:sub R 0 5=some R:=by rw[<- hR];rfl
   have ql:R.length=5:=by rw[<- hR];rfl
   have lk0:decide ((k:Int)=0)=decide (k=0):=MK (m:=0);have lk2:decide ((k:Int)=2)=decide (k=2):=MK (m:=2);rw[hR];rw[hR]at E0';obtain⟨S,hS⟩:=AB9 ((Z.new R).upd cb [.int .i64 ((p+1:Nat):Int)]);have EX0:J7 cb Z S:=by rw[<- hS];exact(J7.of E0').upd _
   have oS:S.A7 cb=some [.int .i64 (p+1:Nat)]:=by rw[<- hS];exact cL
   have nS:S.n=Z.n+1:=by rw[<- hS];rfl
   have wS:S.row Z.n=some R:=by rw[<- hS];exact cL
   have ES:Ext Z0 S:=EX0.ext hE0 hcb;have no:∀ {τ:St}{b:Bool},J7 cb Z τ->b=false->∃ Z',(⟨false,.bool false,τ⟩:CR)=⟨false,.bool b,Z'⟩/\J7 cb Z Z'/\(b=true->Z'.A7 cb=some [.int .i64 (p+R0 (.mk o n d nm es):Nat)]):=fun{τ b} h hb=>by
    subst hb;exact⟨_,rfl,h,fun h=>by cases h⟩
   refine C9 Tryz.func138 rfl rfl ?_;cases c0:decide ((dp:Int)=0)with
   | true=>
     obtain rfl:dp=0:=by have:=z6z c0;omega
     refine gS1 (aI qf (aI ql (aI q0 (aI rr (aI ho (aI c0 (a3N @D9 @F4 @Tryz.results138))))))) ?_;rw[hS];exact no EX0 mU
   |false=>
   have dp1:1<=dp:=by have:=z9z c0;omega
   cases c1:decide ((60:Int)<((p+1:Nat):Int))with
   | true=>
     refine gS1 (aI qf (aI ql (aI q0 (aI rr (aI ho (aI c0 (aI c1 (a3N @D9 @F4 @Tryz.results138)))))))) ?_;rw[hS];exact no EX0 (mV (by have:=z6z c1;omega))
   |false=>
   have p1:p+1<=60:=by have:=z9z c1;omega
   cases d1:decide (o=[110,117,109])with
   | true=>
     obtain rfl:o=[110,117,109]:=z6z d1;have fq:∀ b,(DL n d&&decide (0<=n)&&decide ((1000000:Int) % d=0)&&decide (n<=1000000000*d)&&decide (nm=[])&&decide (k=0))=b->AO [110,117,109] n d nm es.length=b:=fun b h=>by rw[hk];exact Eq.trans NP h
     refine gS1 (aI qf (aI ql (aI q0 (aI q1 (aI q11 (aI q12 (aI q3 (aI q4 (aI rr (aI ho (aI c0 (aI c1 d1)))))))))))) ?_;rw[hS];refine(bH (n:=n) (d:=d) ⟨om,om⟩ k4).mono ?_;rintro r ⟨Z2,rfl,hE2⟩;have n2:=hE2.n;have w1:=eT (hE2.row om) wS;have EX:J7 cb Z Z2:=EX0.trans (.of hE2);have o2:=eT (hE2.A7 om) oS;cases b1:DL n d
     ·refine gS1 (aI w1 (aI q1 (aI q11 (aI q12 (aI q3 (aI q4 (a3N @D9 @F4 @Tryz.results138))))))) ?_;exact no EX (S8 (fq _ (by rw[b1];rfl)))
     have hd1:1<=d:=by unfold DL at b1;simp only[Q7,Dn]at b1;exact b1.1
     have z0:decide (d=0)=false:=dF;cases b2:decide (n<0)
     case true=>
      have b2':decide (0<=n)=false:=z4z (by have:=z6z b2;omega);refine gS1 (aI w1 (aI q1 (aI q11 (aI q12 (aI q3 (aI q4 (aI b2 (aI z0 (a3N @D9 @F4 @Tryz.results138))))))))) ?_;exact no EX (S8 (fq _ (by rw[b1,b2'];rfl)))
     have hn0:0<=n:=by have:=z9z b2;omega
     have b2':decide (0<=n)=true:=Be hn0;have hm:(1000000:Int).tmod d=1000000 % d:=XC om;cases b3:decide ((1000000:Int) % d=0)
     ·refine gS1 (aI w1 (aI q1 (aI q11 (aI q12 (aI q3 (aI q4 (aI b2 (aI z0 (aI hm (aI b3 (a3N @D9 @F4 @Tryz.results138))))))))))) ?_;exact no EX (S8 (fq _ (by rw[b1,b2',b3];rfl)))
     cases b4:decide (1000000000*d<n)
     case true=>
      have b4':decide (n<=1000000000*d)=false:=z4z (by have:=z6z b4;omega);refine gS1 (aI w1 (aI q1 (aI q11 (aI q12 (aI q3 (aI q4 (aI b2 (aI z0 (aI hm (aI b3 (aI b4 (a3N @D9 @F4 @Tryz.results138)))))))))))) ?_;exact no EX (S8 (fq _ (by rw[b1,b2',b3,b4'];rfl)))
     have b4':decide (n<=1000000000*d)=true:=Be (by have:=z9z b4;omega);cases b5:decide (nm=[])
     ·refine gS1 (aI w1 (aI q1 (aI q11 (aI q12 (aI q3 (aI q4 (aI b2 (aI z0 (aI hm (aI b3 (aI b4 (aI b5 (a3N @D9 @F4 @Tryz.results138))))))))))))) ?_;exact no EX (S8 (fq _ (by rw[b1,b2',b3,b4',b5];rfl)))
     cases b6:decide (k=0)
     ·refine gS1 (aI w1 (aI q1 (aI q11 (aI q12 (aI q3 (aI q4 (aI b2 (aI z0 (aI hm (aI b3 (aI b4 (aI b5 (aI lk0 (aI b6 (a3N @D9 @F4 @Tryz.results138))))))))))))))) ?_;exact no EX (S8 (fq _ (by rw[b1,b2',b3,b4',b5,b6];rfl)))
     ·obtain⟨l1,l2⟩:=XA (p:=p) (fq true (by rw[b1,b2',b3,b4',b5,b6];rfl)) (by rw[hk];exact z6z b6) dp1 p1;rw[l1,l2];refine gS1 (aI w1 (aI q1 (aI q11 (aI q12 (aI q3 (aI q4 (aI b2 (aI z0 (aI hm (aI b3 (aI b4 (aI b5 (aI lk0 (aI b6 (a3N @D9 @F4 @Tryz.results138))))))))))))))) ?_;exact⟨_,rfl,EX,fun _=>o2⟩
   |false=>
   have o1:o≠K9:=z9z d1;cases d2:decide (o=[110,97,109,101])with
   | true=>
     obtain rfl:o=[110,97,109,101]:=z6z d2;have fq:∀ b,(AM nm&& !decide (nm=R3)&& !decide (nm=R6)&&(decide (n=0)&&decide (d=0))&&decide (k=0))=b->AO [110,97,109,101] n d nm es.length=b:=fun b h=>by rw[hk];exact Eq.trans LH h
     refine gS1 (aI qf (aI ql (aI q0 (aI q1 (aI q3 (aI q4 (aI rr (aI ho (aI c0 (aI c1 (aI d1 d2))))))))))) ?_;rw[hS];refine(jB om).mono ?_;rintro r rfl;have EX:=EX0;cases b1:AM nm
     ·refine gS1 (aI wS (aI q1 (aI q3 (aI q4 (a3N @D9 @F4 @Tryz.results138))))) ?_;exact no EX (S8 (fq _ (by rw[b1];rfl)))
     cases b2:decide (nm=[109,105,110])
     case true=>
      refine gS1 (aI wS (aI q1 (aI q3 (aI q4 (aI b2 (a3N @D9 @F4 @Tryz.results138)))))) ?_;exact no EX (S8 (fq _ (by rw[b1,show decide (nm=R3)=true from b2];rfl)))
     have b2':decide (nm=R3)=false:=b2;cases b3:decide (nm=[109,97,120])
     case true=>
      refine gS1 (aI wS (aI q1 (aI q3 (aI q4 (aI b2 (aI b3 (a3N @D9 @F4 @Tryz.results138))))))) ?_;exact no EX (S8 (fq _ (by rw[b1,b2',show decide (nm=R6)=true from b3];rfl)))
     have b3':decide (nm=R6)=false:=b3;cases b4:(decide (n=0)&&decide (d=0))
     ·refine gS1 (aI wS (aI q1 (aI q3 (aI q4 (aI b2 (aI b3 (aI @G5 (aI b4 (a3N @D9 @F4 @Tryz.results138))))))))) ?_;exact no EX (S8 (fq _ (by rw[b1,b2',b3',b4];rfl)))
     cases b5:decide (k=0)
     ·refine gS1 (aI wS (aI q1 (aI q3 (aI q4 (aI b2 (aI b3 (aI @G5 (aI b4 (aI lk0 (aI b5 (a3N @D9 @F4 @Tryz.results138))))))))))) ?_;exact no EX (S8 (fq _ (by rw[b1,b2',b3',b4,b5];rfl)))
     ·obtain⟨l1,l2⟩:=XA (p:=p) (fq true (by rw[b1,b2',b3',b4,b5];rfl)) (by rw[hk];exact z6z b5) dp1 p1;rw[l1,l2];refine gS1 (aI wS (aI q1 (aI q3 (aI q4 (aI b2 (aI b3 (aI @G5 (aI b4 (aI lk0 (aI b5 (a3N @D9 @F4 @Tryz.results138))))))))))) ?_;exact⟨_,rfl,EX,fun _=>oS⟩
   |false=>
   have o2:o≠nmB:=z9z d2;have EX:=EX0;cases z3:decide (k=2)with
   | false=>
     cases a1:decide (o=[43])
     case true=>
      have hop:o=[43]\/o=[45]\/o=[42]\/o=[47]\/o=R3\/o=R6:=(.inl (z6z a1))
      refine gS1 (aI qf (aI ql (aI q0 (aI q1 (aI q3 (aI q4 (aI rr (aI ho (aI c0 (aI c1 (aI d1 (aI d2 (aI @G5 (aI lk2 (aI z3 (aI a1 (a3N @D9 @F4 @Tryz.results138))))))))))))))))) ?_;rw[hS];exact no EX (S8 (by rw[O4 hop,hk,z3,NO]))
     cases a2:decide (o=[45])
     case true=>
      have hop:o=[43]\/o=[45]\/o=[42]\/o=[47]\/o=R3\/o=R6:=(.inr (.inl (z6z a2)))
      refine gS1 (aI qf (aI ql (aI q0 (aI q1 (aI q3 (aI q4 (aI rr (aI ho (aI c0 (aI c1 (aI d1 (aI d2 (aI @G5 (aI lk2 (aI z3 (aI a1 (aI a2 (a3N @D9 @F4 @Tryz.results138)))))))))))))))))) ?_;rw[hS];exact no EX (S8 (by rw[O4 hop,hk,z3,NO]))
     cases a3:decide (o=[42])
     case true=>
      have hop:o=[43]\/o=[45]\/o=[42]\/o=[47]\/o=R3\/o=R6:=(.inr (.inr (.inl (z6z a3))))
      refine gS1 (aI qf (aI ql (aI q0 (aI q1 (aI q3 (aI q4 (aI rr (aI ho (aI c0 (aI c1 (aI d1 (aI d2 (aI @G5 (aI lk2 (aI z3 (aI a1 (aI a2 (aI a3 (a3N @D9 @F4 @Tryz.results138))))))))))))))))))) ?_;rw[hS];exact no EX (S8 (by rw[O4 hop,hk,z3,NO]))
     cases a4:decide (o=[47])
     case true=>
      have hop:o=[43]\/o=[45]\/o=[42]\/o=[47]\/o=R3\/o=R6:=(.inr (.inr (.inr (.inl (z6z a4)))))
      refine gS1 (aI qf (aI ql (aI q0 (aI q1 (aI q3 (aI q4 (aI rr (aI ho (aI c0 (aI c1 (aI d1 (aI d2 (aI @G5 (aI lk2 (aI z3 (aI a1 (aI a2 (aI a3 (aI a4 (a3N @D9 @F4 @Tryz.results138)))))))))))))))))))) ?_;rw[hS];exact no EX (S8 (by rw[O4 hop,hk,z3,NO]))
     cases a5:decide (o=[109,105,110])
     case true=>
      have hop:o=[43]\/o=[45]\/o=[42]\/o=[47]\/o=R3\/o=R6:=(.inr (.inr (.inr (.inr (.inl (z6z a5))))))
      refine gS1 (aI qf (aI ql (aI q0 (aI q1 (aI q3 (aI q4 (aI rr (aI ho (aI c0 (aI c1 (aI d1 (aI d2 (aI @G5 (aI lk2 (aI z3 (aI a1 (aI a2 (aI a3 (aI a4 (aI a5 (a3N @D9 @F4 @Tryz.results138))))))))))))))))))))) ?_;rw[hS];exact no EX (S8 (by rw[O4 hop,hk,z3,NO]))
     cases a6:decide (o=[109,97,120])
     case true=>
      have hop:o=[43]\/o=[45]\/o=[42]\/o=[47]\/o=R3\/o=R6:=(.inr (.inr (.inr (.inr (.inr (z6z a6))))))
      refine gS1 (aI qf (aI ql (aI q0 (aI q1 (aI q3 (aI q4 (aI rr (aI ho (aI c0 (aI c1 (aI d1 (aI d2 (aI @G5 (aI lk2 (aI z3 (aI a1 (aI a2 (aI a3 (aI a4 (aI a5 (aI a6 (a3N @D9 @F4 @Tryz.results138)))))))))))))))))))))) ?_;rw[hS];exact no EX (S8 (by rw[O4 hop,hk,z3,NO]))
     refine gS1 (aI qf (aI ql (aI q0 (aI q1 (aI q3 (aI q4 (aI rr (aI ho (aI c0 (aI c1 (aI d1 (aI d2 (aI @G5 (aI a1 (aI a2 (aI a3 (aI a4 (aI a5 (aI a6 (a3N @D9 @F4 @Tryz.results138)))))))))))))))))))) ?_;rw[hS];exact no EX (S8 (Hk o1 o2 (by
      rintro(h|h|h|h|h|h)
      ·exact z9z a1 h
      ·exact z9z a2 h
      ·exact z9z a3 h
      ·exact z9z a4 h
      ·exact z9z a5 h
      ·exact z9z a6 h)))
   |true=>
   obtain rfl:k=2:=z6z z3;cases b1:(decide (n=0)&&decide (d=0))with
   | false=>
     cases a1:decide (o=[43])
     case true=>
      have hop:o=[43]\/o=[45]\/o=[42]\/o=[47]\/o=R3\/o=R6:=(.inl (z6z a1))
      refine gS1 (aI qf (aI ql (aI q0 (aI q1 (aI q3 (aI q4 (aI rr (aI ho (aI c0 (aI c1 (aI d1 (aI d2 (aI @G5 (aI lk2 (aI z3 (aI b1 (aI a1 (a3N @D9 @F4 @Tryz.results138)))))))))))))))))) ?_;rw[hS];exact no EX (S8 (by rw[O4 hop,b1];rfl))
     cases a2:decide (o=[45])
     case true=>
      have hop:o=[43]\/o=[45]\/o=[42]\/o=[47]\/o=R3\/o=R6:=(.inr (.inl (z6z a2)))
      refine gS1 (aI qf (aI ql (aI q0 (aI q1 (aI q3 (aI q4 (aI rr (aI ho (aI c0 (aI c1 (aI d1 (aI d2 (aI @G5 (aI lk2 (aI z3 (aI b1 (aI a1 (aI a2 (a3N @D9 @F4 @Tryz.results138))))))))))))))))))) ?_;rw[hS];exact no EX (S8 (by rw[O4 hop,b1];rfl))
     cases a3:decide (o=[42])
     case true=>
      have hop:o=[43]\/o=[45]\/o=[42]\/o=[47]\/o=R3\/o=R6:=(.inr (.inr (.inl (z6z a3))))
      refine gS1 (aI qf (aI ql (aI q0 (aI q1 (aI q3 (aI q4 (aI rr (aI ho (aI c0 (aI c1 (aI d1 (aI d2 (aI @G5 (aI lk2 (aI z3 (aI b1 (aI a1 (aI a2 (aI a3 (a3N @D9 @F4 @Tryz.results138)))))))))))))))))))) ?_;rw[hS];exact no EX (S8 (by rw[O4 hop,b1];rfl))
     cases a4:decide (o=[47])
     case true=>
      have hop:o=[43]\/o=[45]\/o=[42]\/o=[47]\/o=R3\/o=R6:=(.inr (.inr (.inr (.inl (z6z a4)))))
      refine gS1 (aI qf (aI ql (aI q0 (aI q1 (aI q3 (aI q4 (aI rr (aI ho (aI c0 (aI c1 (aI d1 (aI d2 (aI @G5 (aI lk2 (aI z3 (aI b1 (aI a1 (aI a2 (aI a3 (aI a4 (a3N @D9 @F4 @Tryz.results138))))))))))))))))))))) ?_;rw[hS];exact no EX (S8 (by rw[O4 hop,b1];rfl))
     cases a5:decide (o=[109,105,110])
     case true=>
      have hop:o=[43]\/o=[45]\/o=[42]\/o=[47]\/o=R3\/o=R6:=(.inr (.inr (.inr (.inr (.inl (z6z a5))))))
      refine gS1 (aI qf (aI ql (aI q0 (aI q1 (aI q3 (aI q4 (aI rr (aI ho (aI c0 (aI c1 (aI d1 (aI d2 (aI @G5 (aI lk2 (aI z3 (aI b1 (aI a1 (aI a2 (aI a3 (aI a4 (aI a5 (a3N @D9 @F4 @Tryz.results138)))))))))))))))))))))) ?_;rw[hS];exact no EX (S8 (by rw[O4 hop,b1];rfl))
     cases a6:decide (o=[109,97,120])
     case true=>
      have hop:o=[43]\/o=[45]\/o=[42]\/o=[47]\/o=R3\/o=R6:=(.inr (.inr (.inr (.inr (.inr (z6z a6))))))
      refine gS1 (aI qf (aI ql (aI q0 (aI q1 (aI q3 (aI q4 (aI rr (aI ho (aI c0 (aI c1 (aI d1 (aI d2 (aI @G5 (aI lk2 (aI z3 (aI b1 (aI a1 (aI a2 (aI a3 (aI a4 (aI a5 (aI a6 (a3N @D9 @F4 @Tryz.results138))))))))))))))))))))))) ?_;rw[hS];exact no EX (S8 (by rw[O4 hop,b1];rfl))
     refine gS1 (aI qf (aI ql (aI q0 (aI q1 (aI q3 (aI q4 (aI rr (aI ho (aI c0 (aI c1 (aI d1 (aI d2 (aI @G5 (aI a1 (aI a2 (aI a3 (aI a4 (aI a5 (aI a6 (a3N @D9 @F4 @Tryz.results138)))))))))))))))))))) ?_;rw[hS];exact no EX (S8 (Hk o1 o2 (by
      rintro(h|h|h|h|h|h)
      ·exact z9z a1 h
      ·exact z9z a2 h
      ·exact z9z a3 h
      ·exact z9z a4 h
      ·exact z9z a5 h
      ·exact z9z a6 h)))
   |true=>
   cases b2:decide (nm=[])with
   | false=>
     cases a1:decide (o=[43])
     case true=>
      have hop:o=[43]\/o=[45]\/o=[42]\/o=[47]\/o=R3\/o=R6:=(.inl (z6z a1))
      refine gS1 (aI qf (aI ql (aI q0 (aI q1 (aI q3 (aI q4 (aI rr (aI ho (aI c0 (aI c1 (aI d1 (aI d2 (aI @G5 (aI lk2 (aI z3 (aI b1 (aI b2 (aI a1 (a3N @D9 @F4 @Tryz.results138))))))))))))))))))) ?_;rw[hS];exact no EX (S8 (by rw[O4 hop,b1,b2];rfl))
     cases a2:decide (o=[45])
     case true=>
      have hop:o=[43]\/o=[45]\/o=[42]\/o=[47]\/o=R3\/o=R6:=(.inr (.inl (z6z a2)))
      refine gS1 (aI qf (aI ql (aI q0 (aI q1 (aI q3 (aI q4 (aI rr (aI ho (aI c0 (aI c1 (aI d1 (aI d2 (aI @G5 (aI lk2 (aI z3 (aI b1 (aI b2 (aI a1 (aI a2 (a3N @D9 @F4 @Tryz.results138)))))))))))))))))))) ?_;rw[hS];exact no EX (S8 (by rw[O4 hop,b1,b2];rfl))
     cases a3:decide (o=[42])
     case true=>
      have hop:o=[43]\/o=[45]\/o=[42]\/o=[47]\/o=R3\/o=R6:=(.inr (.inr (.inl (z6z a3))))
      refine gS1 (aI qf (aI ql (aI q0 (aI q1 (aI q3 (aI q4 (aI rr (aI ho (aI c0 (aI c1 (aI d1 (aI d2 (aI @G5 (aI lk2 (aI z3 (aI b1 (aI b2 (aI a1 (aI a2 (aI a3 (a3N @D9 @F4 @Tryz.results138))))))))))))))))))))) ?_;rw[hS];exact no EX (S8 (by rw[O4 hop,b1,b2];rfl))
     cases a4:decide (o=[47])
     case true=>
      have hop:o=[43]\/o=[45]\/o=[42]\/o=[47]\/o=R3\/o=R6:=(.inr (.inr (.inr (.inl (z6z a4)))))
      refine gS1 (aI qf (aI ql (aI q0 (aI q1 (aI q3 (aI q4 (aI rr (aI ho (aI c0 (aI c1 (aI d1 (aI d2 (aI @G5 (aI lk2 (aI z3 (aI b1 (aI b2 (aI a1 (aI a2 (aI a3 (aI a4 (a3N @D9 @F4 @Tryz.results138)))))))))))))))))))))) ?_;rw[hS];exact no EX (S8 (by rw[O4 hop,b1,b2];rfl))
     cases a5:decide (o=[109,105,110])
     case true=>
      have hop:o=[43]\/o=[45]\/o=[42]\/o=[47]\/o=R3\/o=R6:=(.inr (.inr (.inr (.inr (.inl (z6z a5))))))
      refine gS1 (aI qf (aI ql (aI q0 (aI q1 (aI q3 (aI q4 (aI rr (aI ho (aI c0 (aI c1 (aI d1 (aI d2 (aI @G5 (aI lk2 (aI z3 (aI b1 (aI b2 (aI a1 (aI a2 (aI a3 (aI a4 (aI a5 (a3N @D9 @F4 @Tryz.results138))))))))))))))))))))))) ?_;rw[hS];exact no EX (S8 (by rw[O4 hop,b1,b2];rfl))
     cases a6:decide (o=[109,97,120])
     case true=>
      have hop:o=[43]\/o=[45]\/o=[42]\/o=[47]\/o=R3\/o=R6:=(.inr (.inr (.inr (.inr (.inr (z6z a6))))))
      refine gS1 (aI qf (aI ql (aI q0 (aI q1 (aI q3 (aI q4 (aI rr (aI ho (aI c0 (aI c1 (aI d1 (aI d2 (aI @G5 (aI lk2 (aI z3 (aI b1 (aI b2 (aI a1 (aI a2 (aI a3 (aI a4 (aI a5 (aI a6 (a3N @D9 @F4 @Tryz.results138)))))))))))))))))))))))) ?_;rw[hS];exact no EX (S8 (by rw[O4 hop,b1,b2];rfl))
     refine gS1 (aI qf (aI ql (aI q0 (aI q1 (aI q3 (aI q4 (aI rr (aI ho (aI c0 (aI c1 (aI d1 (aI d2 (aI @G5 (aI a1 (aI a2 (aI a3 (aI a4 (aI a5 (aI a6 (a3N @D9 @F4 @Tryz.results138)))))))))))))))))))) ?_;rw[hS];exact no EX (S8 (Hk o1 o2 (by
      rintro(h|h|h|h|h|h)
      ·exact z9z a1 h
      ·exact z9z a2 h
      ·exact z9z a3 h
      ·exact z9z a4 h
      ·exact z9z a5 h
      ·exact z9z a6 h)))
   |true=>
   obtain⟨x,y,rfl⟩:∃ x y,es=[x,y]:=by
    match es,hk with
    | [x,y],_=>exact⟨x,y,rfl⟩
   obtain⟨r1,t1,x1⟩:=s2 0 x rfl;obtain⟨r2,t2,x2⟩:=s2 1 y rfl;obtain⟨sp,rfl,l3,l4⟩:=s1 (by simp);rw[Fp,AG]at t1;rw[QA]at t2;obtain⟨dp,rfl⟩:∃ x,dp=x+1:=⟨dp-1,om⟩
   have jC:=x1.len;have mW:=x2.len;have hf1:sub r1 0 5=some r1:=C8 om om;have hf2:sub r2 0 5=some r2:=C8 om om;have l3':B<Z.n:=z5z l3 hE0.n;have hB:B≠cb:=om;have lB:=eT (hE0.row l3) l4;have lBS:=eT (EX0.row l3' hB) lB;have e1:((dp+1:Nat):Int)-1=(dp:Nat):=om;have wx:=WfL.get (k:=0) k6 rfl;have wy:=WfL.get (k:=1) k6 rfl;have sx:SizeOf.sizeOf x<s:=by simp at hs;omega
   have sy:SizeOf.sizeOf y<s:=by simp at hs;omega
   have ihx:RfG x:=@ih _ _ sx wx hw4;have ihy:RfG y:=@ih _ _ sy wy hw4;cases a1:decide (o=[43])
   case' true=>
    have hop:o=[43]\/o=[45]\/o=[42]\/o=[47]\/o=R3\/o=R6:=(.inl (z6z a1))
    refine gS1 (aI qf (aI ql (aI q0 (aI q1 (aI q3 (aI q4 (aI rr (aI ho (aI c0 (aI c1 (aI d1 (aI d2 (aI @G5 (aI wS (aI lB (aI lBS (aI t1 (aI t2 (aI hf1 (aI hf2 (aI e1 (aI lk2 (aI z3 (aI b1 (aI b2 (aI @AG a1)))))))))))))))))))))))))) ?_;rw[hS]
    try(refine gS1 (aI qf (aI ql (aI q0 (aI q1 (aI q3 (aI q4 (aI rr (aI ho (aI c0 (aI c1 (aI d1 (aI d2 (aI @G5 (aI wS (aI lB (aI lBS (aI t1 (aI t2 (aI hf1 (aI hf2 (aI e1 (aI lk2 (aI z3 (aI b1 (aI b2 (aI @AG a1)))))))))))))))))))))))))) ?_;try exact⟨⟩)
   case' false=>
    cases a2:decide (o=[45])
    case' true=>
     have hop:o=[43]\/o=[45]\/o=[42]\/o=[47]\/o=R3\/o=R6:=(.inr (.inl (z6z a2)))
     refine gS1 (aI qf (aI ql (aI q0 (aI q1 (aI q3 (aI q4 (aI rr (aI ho (aI c0 (aI c1 (aI d1 (aI d2 (aI @G5 (aI wS (aI lB (aI lBS (aI t1 (aI t2 (aI hf1 (aI hf2 (aI e1 (aI lk2 (aI z3 (aI b1 (aI b2 (aI @AG (aI a1 a2))))))))))))))))))))))))))) ?_;rw[hS]
     try(refine gS1 (aI qf (aI ql (aI q0 (aI q1 (aI q3 (aI q4 (aI rr (aI ho (aI c0 (aI c1 (aI d1 (aI d2 (aI @G5 (aI wS (aI lB (aI lBS (aI t1 (aI t2 (aI hf1 (aI hf2 (aI e1 (aI lk2 (aI z3 (aI b1 (aI b2 (aI @AG (aI a1 a2))))))))))))))))))))))))))) ?_;try exact⟨⟩)
    case' false=>
     cases a3:decide (o=[42])
     case' true=>
      have hop:o=[43]\/o=[45]\/o=[42]\/o=[47]\/o=R3\/o=R6:=(.inr (.inr (.inl (z6z a3))))
      refine gS1 (aI qf (aI ql (aI q0 (aI q1 (aI q3 (aI q4 (aI rr (aI ho (aI c0 (aI c1 (aI d1 (aI d2 (aI @G5 (aI wS (aI lB (aI lBS (aI t1 (aI t2 (aI hf1 (aI hf2 (aI e1 (aI lk2 (aI z3 (aI b1 (aI b2 (aI @AG (aI a1 (aI a2 a3)))))))))))))))))))))))))))) ?_;rw[hS]
      try(refine gS1 (aI qf (aI ql (aI q0 (aI q1 (aI q3 (aI q4 (aI rr (aI ho (aI c0 (aI c1 (aI d1 (aI d2 (aI @G5 (aI wS (aI lB (aI lBS (aI t1 (aI t2 (aI hf1 (aI hf2 (aI e1 (aI lk2 (aI z3 (aI b1 (aI b2 (aI @AG (aI a1 (aI a2 a3)))))))))))))))))))))))))))) ?_;try exact⟨⟩)
     case' false=>
      cases a4:decide (o=[47])
      case' true=>
       have hop:o=[43]\/o=[45]\/o=[42]\/o=[47]\/o=R3\/o=R6:=(.inr (.inr (.inr (.inl (z6z a4)))))
       refine gS1 (aI qf (aI ql (aI q0 (aI q1 (aI q3 (aI q4 (aI rr (aI ho (aI c0 (aI c1 (aI d1 (aI d2 (aI @G5 (aI wS (aI lB (aI lBS (aI t1 (aI t2 (aI hf1 (aI hf2 (aI e1 (aI lk2 (aI z3 (aI b1 (aI b2 (aI @AG (aI a1 (aI a2 (aI a3 a4))))))))))))))))))))))))))))) ?_;rw[hS]
       try(refine gS1 (aI qf (aI ql (aI q0 (aI q1 (aI q3 (aI q4 (aI rr (aI ho (aI c0 (aI c1 (aI d1 (aI d2 (aI @G5 (aI wS (aI lB (aI lBS (aI t1 (aI t2 (aI hf1 (aI hf2 (aI e1 (aI lk2 (aI z3 (aI b1 (aI b2 (aI @AG (aI a1 (aI a2 (aI a3 a4))))))))))))))))))))))))))))) ?_;try exact⟨⟩)
      case' false=>
       cases a5:decide (o=[109,105,110])
       case' true=>
        have hop:o=[43]\/o=[45]\/o=[42]\/o=[47]\/o=R3\/o=R6:=(.inr (.inr (.inr (.inr (.inl (z6z a5))))))
        refine gS1 (aI qf (aI ql (aI q0 (aI q1 (aI q3 (aI q4 (aI rr (aI ho (aI c0 (aI c1 (aI d1 (aI d2 (aI @G5 (aI wS (aI lB (aI lBS (aI t1 (aI t2 (aI hf1 (aI hf2 (aI e1 (aI lk2 (aI z3 (aI b1 (aI b2 (aI @AG (aI a1 (aI a2 (aI a3 (aI a4 a5)))))))))))))))))))))))))))))) ?_;rw[hS]
        try(refine gS1 (aI qf (aI ql (aI q0 (aI q1 (aI q3 (aI q4 (aI rr (aI ho (aI c0 (aI c1 (aI d1 (aI d2 (aI @G5 (aI wS (aI lB (aI lBS (aI t1 (aI t2 (aI hf1 (aI hf2 (aI e1 (aI lk2 (aI z3 (aI b1 (aI b2 (aI @AG (aI a1 (aI a2 (aI a3 (aI a4 a5)))))))))))))))))))))))))))))) ?_;try exact⟨⟩)
       case' false=>
        cases a6:decide (o=[109,97,120])
        case' true=>
         have hop:o=[43]\/o=[45]\/o=[42]\/o=[47]\/o=R3\/o=R6:=(.inr (.inr (.inr (.inr (.inr (z6z a6))))))
         refine gS1 (aI qf (aI ql (aI q0 (aI q1 (aI q3 (aI q4 (aI rr (aI ho (aI c0 (aI c1 (aI d1 (aI d2 (aI @G5 (aI wS (aI lB (aI lBS (aI t1 (aI t2 (aI hf1 (aI hf2 (aI e1 (aI lk2 (aI z3 (aI b1 (aI b2 (aI @AG (aI a1 (aI a2 (aI a3 (aI a4 (aI a5 a6))))))))))))))))))))))))))))))) ?_;rw[hS]
         try(refine gS1 (aI qf (aI ql (aI q0 (aI q1 (aI q3 (aI q4 (aI rr (aI ho (aI c0 (aI c1 (aI d1 (aI d2 (aI @G5 (aI wS (aI lB (aI lBS (aI t1 (aI t2 (aI hf1 (aI hf2 (aI e1 (aI lk2 (aI z3 (aI b1 (aI b2 (aI @AG (aI a1 (aI a2 (aI a3 (aI a4 (aI a5 a6))))))))))))))))))))))))))))))) ?_;try exact⟨⟩)
        case' false=>
         exact(by
          refine gS1 (aI qf (aI ql (aI q0 (aI q1 (aI q3 (aI q4 (aI rr (aI ho (aI c0 (aI c1 (aI d1 (aI d2 (aI @G5 (aI a1 (aI a2 (aI a3 (aI a4 (aI a5 (aI a6 (a3N @D9 @F4 @Tryz.results138)))))))))))))))))))) ?_;rw[hS];exact no EX (S8 (Hk o1 o2 (by
           rintro(h|h|h|h|h|h)
           ·exact z9z a1 h
           ·exact z9z a2 h
           ·exact z9z a3 h
           ·exact z9z a4 h
           ·exact z9z a5 h
           ·exact z9z a6 h))))
   all_goals
    have At5:AO o n d nm 2=true:=by rw[O4 hop,b1,b2];rfl
    rw[vB At5];refine(@ihx _ _ _ (p+1) dp _ x1 ES om om oS om om).mono ?_;rintro r ⟨Z2,rfl,EX2,o2⟩;have n2:=EX2.n;have w2:=eT (EX2.row om om) wS;have lB2:=eT (EX2.row om hB) lBS;cases bx:rfB x dp (p+1)
    ·refine gS1 (a3N @D9 @F4 @Tryz.results138) ?_;exact⟨_,rfl,EX0.trans EX2,fun h=>by cases h⟩
    ·have p2:p+1+R0 x<=60:=by unfold rfB at bx;simp only[Q7,Dn]at bx;exact bx.2
     refine gS1 (aI q1 (aI q3 (aI q4 (aI w2 (aI lB2 (aI t1 (aI t2 (aI hf1 (aI hf2 (aI e1 (a3N @D9 @F4 @AG))))))))))) ?_;refine(@ihy _ _ _ (p+1+R0 x) dp _ x2 (EX2.ext ES hcb) om om (o2 bx) om p2).mono ?_;rintro r ⟨Z3,rfl,EX3,o3⟩;refine gS1 @Tryz.results138 ?_;refine⟨_,rfl,EX0.trans (EX2.trans EX3),fun h=>?_⟩;rw[o3 h,X0,N4,N4,R2];congr 4;omega
end
end Go.Proofs.T
