/- The X6 check of any CQ. -/
import Derived.Test.YtgjocfjdecjhoaaGreatDoorISB
import Derived.Test.YtgjocfjdecjhoaaGreatDoorIEA
set_option linter.unusedSimpArgs false
set_option linter.unusedVariables false
set_option linter.defProp false
set_option maxHeartbeats 32000000
set_option maxRecDepth 100000
namespace Go.Proofs.T
open Go Go.Ab
section
variable {n d:Int}{p dp:Nat}{e:Ex}{op nm:By}{Z:St}{es:List Ex}
def ov (h: -1000000000000000000<=n/\n<=1000000000000000000):
  Ev (gO 104 [.int .i64 n] Z) (fun r=>r=⟨false,.int .u64 (n.natAbs:Int),Z⟩) ⟨⟩:=by
 have b:∀ m:Int,IntKind.u64.wrap m=m % 18446744073709551616:=fun m=>rfl;refine C8 Tryz.func104 rfl rfl ?_;cases c:decide (n<0)with
 | true=>
   have:=z6z c;have a:IntKind.u64.wrap (0-IntKind.u64.wrap n)=(n.natAbs:Int):=by rw[b,b];omega
   refine gS1 (aI c (aI a @Tryz.results104)) ?_;try exact⟨⟩
 | false=>
   have:=z9z c;have a:IntKind.u64.wrap n=(n.natAbs:Int):=by rw[b];omega
   refine gS1 (aI c (aI a @Tryz.results104)) ?_;try exact⟨⟩
def cw (g: -1000000000000000000<=n/\n<=1000000000000000000) (h:0<=d/\d<=1000000):Ev (gO 103 [.agg ⟨[.int .i64 n,.int .i64 d]⟩] Z) (fun r=>∃ Z',r=⟨false,.bool (Dd n d),Z'⟩/\Ext Z Z') ⟨⟩:=by
 unfold Dd;refine C8 Tryz.func103 rfl rfl ?_;cases c1:decide ((0:Int)<d)with
 | false=>
   rw[z4z (p:=1<=d) (by have:=z9z c1;omega),Lr];refine gS1 (aI c1 (a3N @D6 @D8 @Tryz.results103)) ?_;exact⟨_,rfl,eX⟩
 | true=>
   have a:1<=d:=by have:=z6z c1;omega
   rw[AW a,Io];obtain⟨D,rfl⟩:=FM (show 0<=d by omega);have c:IntKind.u64.wrap (D:Int)=(D:Nat):=Fi om om;refine gS1 c1 ?_;refine(ov g).mono ?_;rintro r rfl;have q0:(Z.new [.int .i64 n,.int .i64 (D:Nat)]).row Z.n=some [.int .i64 n,.int .i64 (D:Nat)]:=cL;refine gS1 (aI q0 c) ?_;refine Kg.mono ?_;rintro r rfl;have f:Nat.gcd n.natAbs D=Int.gcd n (D:Nat):=rfl;rw[f];have b:decide (((Int.gcd n (D:Nat):Nat):Int)=1)=decide (Int.gcd n (D:Nat)=1):=Mo (m:=1);refine gS1 (aI b @asR) ?_
   try refine Ct.intro (by(repeat first|simp(disch:=omega) only[O4,G6,G9,asx (Ext.refl _),b,c]|rw[W6 (by kernel_rfl)]);first|done|rfl) ?_
   try(refine gS1 (aI b @Tryz.results103) ?_;try exact⟨⟩)
   exact⟨_,rfl,eX⟩
def rfB (e:Ex) (dp p:Nat):Bool:=DC e&&decide (AR e<=dp)&&decide (p+Y5 e<=60)
def RL:1<=AR e:=by cases e;rw[DQ];omega
def ow:rfB e 0 p=false:=by
 unfold rfB;have:=RL (e:=e);rw[z4z (p:=AR e<=0) om,Ls,Lr]
def ox (h:60<p+1):rfB e dp p=false:=by
 unfold rfB;have:=RM (e:=e);rw[z4z (p:=p+Y5 e<=60) om,Ls]
def U5 (h:AL op n d nm es.length=false):rfB (.mk op n d nm es) dp p=false:=by
 unfold rfB;rw[AX,h,Lr,Lr,Lr]
def YV (h:AL op n d nm es.length=true) (a:es.length=0) (b:1<=dp) (c:p+1<=60):rfB (.mk op n d nm es) dp p=true/\Y5 (.mk op n d nm es)=1:=by
 obtain rfl:=WI a;refine⟨?_,by rw[AY,Y9]⟩;unfold rfB;rw[AX,h,Be,DQ,CT,AY,Y9,dT,dT];rfl
def xf {a b:Ex}(h:AL op n d nm 2=true):rfB (.mk op n d nm [a,b]) (dp+1) p=(rfB a dp (p+1)&&rfB b dp (p+1+Y5 a)):=by
 unfold rfB;rw[AX,show([a,b]:List Ex).length=2 from rfl,h,AS,AS,Be,DQ,An,An,CT,AY,V0,V0,Y9];have:=RM (e:=b);rw[z7z];simp only[R2,EO,Io,and_true];constructor
 ·rintro⟨⟨⟨c,f⟩,g⟩,i⟩;exact⟨⟨⟨c,om⟩,om⟩,⟨f,om⟩,om⟩
 ·rintro⟨⟨⟨c,g⟩,i⟩,⟨f,j⟩,k⟩;exact⟨⟨⟨c,f⟩,om⟩,om⟩
def RfG (e:Ex):Prop:=∀ {Z0 Z:St}{row:List Value}{p dp cb:Nat},P8 Z0 row e->Ext Z0 Z->Z0.n<=cb->cb<Z.n->Z.A7 cb=some [.int .i64 (p:Nat)]->dp<=12->p<=60 ->
 Ev (gO 138 [.agg ⟨row⟩,.int .i64 (dp:Nat),.pointer (some ⟨cb,0,none⟩)] Z) (fun r=>∃ Z',r=⟨false,.bool (rfB e dp p),Z'⟩/\J9 cb Z Z'/\(rfB e dp p=true->Z'.A7 cb=some [.int .i64 (p+Y5 e:Nat)])) ⟨⟩
def AS7:∀ (s:Nat){w:Nat}{e:Ex},SizeOf.sizeOf e<s->WfE w e->w<=4->RfG e:=by
 intro s;induction s with
 |zero=>intro w e hs;omega
 | succ s ih=>
   intro w e hs hw c6 Z0 Z row p dp cb he c2 c5 d7 C hd hp;obtain⟨o,n,d,nm,es⟩:=e;obtain⟨v,B9,rfl,h1,-,h2⟩:=he;obtain⟨a,c,B,off,cells,rfl,s1,s2⟩:=Cn.slice h1 h2;obtain⟨k1,k2,k3,k4,k5,k6⟩:=Gu.1 hw;obtain⟨k,hk⟩:=nW es.length;rw[hk];have G:=A9 C;have d8:cb≠Z.n:=om;have c3:Ext Z (Z.new [str o,.int .i64 n,.int .i64 d,str nm,.slice a k c]):=eX;obtain⟨R,hR⟩:∃ R:List Value,[str o,.int .i64 n,.int .i64 d,str nm,.slice a k c]=R:=⟨_,rfl⟩
   have q0:sub R 0 1=some [str o]:=by rw[<- hR];rfl
   have q1:sub R 1 2=some [.int .i64 n,.int .i64 d]:=by rw[<- hR];rfl
   have a7:sub R 1 1=some [.int .i64 n]:=by rw[<- hR];rfl
   have a8:sub R 2 1=some [.int .i64 d]:=by rw[<- hR];rfl
   have j:sub R 3 1=some [str nm]:=by rw[<- hR];rfl
   have l:sub R 4 1=some [.slice a k c]:=by rw[<- hR];rfl
   have E:sub R 0 5=some R:=by rw[<- hR];rfl
   have F:R.length=5:=by rw[<- hR];rfl
   have b8:decide ((k:Int)=0)=decide (k=0):=Mo (m:=0);have g:decide ((k:Int)=2)=decide (k=2):=Mo (m:=2);rw[hR];rw[hR]at c3;obtain⟨S,K⟩:=nW ((Z.new R).upd cb [.int .i64 ((p+1:Nat):Int)]);have a0:J9 cb Z S:=by rw[<- K];exact(J9.of c3).upd _
   have oS:S.A7 cb=some [.int .i64 (p+1:Nat)]:=by rw[<- K];exact cL
   have nS:S.n=Z.n+1:=by rw[<- K];rfl
   have Y:S.row Z.n=some R:=by rw[<- K];exact cL
   have ES:Ext Z0 S:=a0.ext c2 c5;have no:∀ {τ:St}{b:Bool},J9 cb Z τ->b=false->∃ Z',(⟨false,.bool false,τ⟩:CR)=⟨false,.bool b,Z'⟩/\J9 cb Z Z'/\(b=true->Z'.A7 cb=some [.int .i64 (p+Y5 (.mk o n d nm es):Nat)]):=fun{τ b} h hb=>by
    subst hb;exact⟨_,rfl,h,fun h=>by cases h⟩
   refine C8 Tryz.func138 rfl rfl ?_;cases A:decide ((dp:Int)=0)with
   | true=>
     obtain rfl:dp=0:=by have:=z6z A;omega
     refine gS1 (aI E (aI F (aI q0 (aI G (aI C (aI A (a3N @D6 @D8 @Tryz.results138))))))) ?_;rw[K];exact no a0 ow
   |false=>
   have c4:1<=dp:=by have:=z9z A;omega
   cases c1:decide ((60:Int)<((p+1:Nat):Int))with
   | true=>
     refine gS1 (aI E (aI F (aI q0 (aI G (aI C (aI A (aI c1 (a3N @D6 @D8 @Tryz.results138)))))))) ?_;rw[K];exact no a0 (ox (by have:=z6z c1;omega))
   |false=>
   have p1:p+1<=60:=by have:=z9z c1;omega
   cases D:decide (o=[110,117,109])with
   | true=>
     obtain rfl:o=[110,117,109]:=z6z D;have fq:∀ b,(Dd n d&&decide (0<=n)&&decide ((1000000:Int) % d=0)&&decide (n<=1000000000*d)&&decide (nm=[])&&decide (k=0))=b->AL [110,117,109] n d nm es.length=b:=fun b h=>by rw[hk];exact Eq.trans OJ h
     refine gS1 (aI E (aI F (aI q0 (aI q1 (aI a7 (aI a8 (aI j (aI l (aI G (aI C (aI A (aI c1 D)))))))))))) ?_;rw[K];refine(cw (n:=n) (d:=d) ⟨om,om⟩ k4).mono ?_;rintro r ⟨Z2,rfl,b7⟩;have n2:=b7.n;have w1:=eT (b7.row om) Y;have H:J9 cb Z Z2:=a0.trans (.of b7);have o2:=eT (b7.A7 om) oS;cases i:Dd n d
     ·refine gS1 (aI w1 (aI q1 (aI a7 (aI a8 (aI j (aI l (a3N @D6 @D8 @Tryz.results138))))))) ?_;exact no H (U5 (fq _ (by rw[i];rfl)))
     have d6:1<=d:=by unfold Dd at i;simp only[R2,EO]at i;exact i.1
     have z0:decide (d=0)=false:=dF;cases u:decide (n<0)
     case true=>
      have W:decide (0<=n)=false:=z4z (by have:=z6z u;omega);refine gS1 (aI w1 (aI q1 (aI a7 (aI a8 (aI j (aI l (aI u (aI z0 (a3N @D6 @D8 @Tryz.results138))))))))) ?_;exact no H (U5 (fq _ (by rw[i,W];rfl)))
     have c9:0<=n:=by have:=z9z u;omega
     have W:decide (0<=n)=true:=AW c9;have hm:(1000000:Int).tmod d=1000000 % d:=Uf om;cases b3:decide ((1000000:Int) % d=0)
     ·refine gS1 (aI w1 (aI q1 (aI a7 (aI a8 (aI j (aI l (aI u (aI z0 (aI hm (aI b3 (a3N @D6 @D8 @Tryz.results138))))))))))) ?_;exact no H (U5 (fq _ (by rw[i,W,b3];rfl)))
     cases b4:decide (1000000000*d<n)
     case true=>
      have b0:decide (n<=1000000000*d)=false:=z4z (by have:=z6z b4;omega);refine gS1 (aI w1 (aI q1 (aI a7 (aI a8 (aI j (aI l (aI u (aI z0 (aI hm (aI b3 (aI b4 (a3N @D6 @D8 @Tryz.results138)))))))))))) ?_;exact no H (U5 (fq _ (by rw[i,W,b3,b0];rfl)))
     have b0:decide (n<=1000000000*d)=true:=AW (by have:=z9z b4;omega);cases b5:decide (nm=[])
     ·refine gS1 (aI w1 (aI q1 (aI a7 (aI a8 (aI j (aI l (aI u (aI z0 (aI hm (aI b3 (aI b4 (aI b5 (a3N @D6 @D8 @Tryz.results138))))))))))))) ?_;exact no H (U5 (fq _ (by rw[i,W,b3,b0,b5];rfl)))
     cases b6:decide (k=0)
     ·refine gS1 (aI w1 (aI q1 (aI a7 (aI a8 (aI j (aI l (aI u (aI z0 (aI hm (aI b3 (aI b4 (aI b5 (aI b8 (aI b6 (a3N @D6 @D8 @Tryz.results138))))))))))))))) ?_;exact no H (U5 (fq _ (by rw[i,W,b3,b0,b5,b6];rfl)))
     ·obtain⟨l1,l2⟩:=YV (p:=p) (fq true (by rw[i,W,b3,b0,b5,b6];rfl)) (by rw[hk];exact z6z b6) c4 p1;rw[l1,l2];refine gS1 (aI w1 (aI q1 (aI a7 (aI a8 (aI j (aI l (aI u (aI z0 (aI hm (aI b3 (aI b4 (aI b5 (aI b8 (aI b6 (a3N @D6 @D8 @Tryz.results138))))))))))))))) ?_;exact⟨_,rfl,H,fun _=>o2⟩
   |false=>
   have o1:o≠K8:=z9z D;cases I:decide (o=[110,97,109,101])with
   | true=>
     obtain rfl:o=[110,97,109,101]:=z6z I;have fq:∀ b,(AP nm&& !decide (nm=Q7)&& !decide (nm=R4)&&(decide (n=0)&&decide (d=0))&&decide (k=0))=b->AL [110,97,109,101] n d nm es.length=b:=fun b h=>by rw[hk];exact Eq.trans Lt h
     refine gS1 (aI E (aI F (aI q0 (aI q1 (aI j (aI l (aI G (aI C (aI A (aI c1 (aI D I))))))))))) ?_;rw[K];refine(kV om).mono ?_;rintro r rfl;have H:=a0;cases i:AP nm
     ·refine gS1 (aI Y (aI q1 (aI j (aI l (a3N @D6 @D8 @Tryz.results138))))) ?_;exact no H (U5 (fq _ (by rw[i];rfl)))
     cases u:decide (nm=[109,105,110])
     case true=>
      refine gS1 (aI Y (aI q1 (aI j (aI l (aI u (a3N @D6 @D8 @Tryz.results138)))))) ?_;exact no H (U5 (fq _ (by rw[i,show decide (nm=Q7)=true from u];rfl)))
     have W:decide (nm=Q7)=false:=u;cases b3:decide (nm=[109,97,120])
     case true=>
      refine gS1 (aI Y (aI q1 (aI j (aI l (aI u (aI b3 (a3N @D6 @D8 @Tryz.results138))))))) ?_;exact no H (U5 (fq _ (by rw[i,W,show decide (nm=R4)=true from b3];rfl)))
     have b9:decide (nm=R4)=false:=b3;cases b4:(decide (n=0)&&decide (d=0))
     ·refine gS1 (aI Y (aI q1 (aI j (aI l (aI u (aI b3 (aI @F4 (aI b4 (a3N @D6 @D8 @Tryz.results138))))))))) ?_;exact no H (U5 (fq _ (by rw[i,W,b9,b4];rfl)))
     cases b5:decide (k=0)
     ·refine gS1 (aI Y (aI q1 (aI j (aI l (aI u (aI b3 (aI @F4 (aI b4 (aI b8 (aI b5 (a3N @D6 @D8 @Tryz.results138))))))))))) ?_;exact no H (U5 (fq _ (by rw[i,W,b9,b4,b5];rfl)))
     ·obtain⟨l1,l2⟩:=YV (p:=p) (fq true (by rw[i,W,b9,b4,b5];rfl)) (by rw[hk];exact z6z b5) c4 p1;rw[l1,l2];refine gS1 (aI Y (aI q1 (aI j (aI l (aI u (aI b3 (aI @F4 (aI b4 (aI b8 (aI b5 (a3N @D6 @D8 @Tryz.results138))))))))))) ?_;exact⟨_,rfl,H,fun _=>oS⟩
   |false=>
   have o2:o≠nmB:=z9z I;have H:=a0;cases J:decide (k=2)with
   | false=>
     cases q:decide (o=[43])
     case true=>
      have f:o=[43]\/o=[45]\/o=[42]\/o=[47]\/o=Q7\/o=R4:=(.inl (z6z q))
      refine gS1 (aI E (aI F (aI q0 (aI q1 (aI j (aI l (aI G (aI C (aI A (aI c1 (aI D (aI I (aI @F4 (aI g (aI J (aI q (a3N @D6 @D8 @Tryz.results138))))))))))))))))) ?_;rw[K];exact no H (U5 (by rw[P5 f,hk,J,Ls]))
     cases z:decide (o=[45])
     case true=>
      have f:o=[43]\/o=[45]\/o=[42]\/o=[47]\/o=Q7\/o=R4:=(.inr (.inl (z6z z)))
      refine gS1 (aI E (aI F (aI q0 (aI q1 (aI j (aI l (aI G (aI C (aI A (aI c1 (aI D (aI I (aI @F4 (aI g (aI J (aI q (aI z (a3N @D6 @D8 @Tryz.results138)))))))))))))))))) ?_;rw[K];exact no H (U5 (by rw[P5 f,hk,J,Ls]))
     cases L:decide (o=[42])
     case true=>
      have f:o=[43]\/o=[45]\/o=[42]\/o=[47]\/o=Q7\/o=R4:=(.inr (.inr (.inl (z6z L))))
      refine gS1 (aI E (aI F (aI q0 (aI q1 (aI j (aI l (aI G (aI C (aI A (aI c1 (aI D (aI I (aI @F4 (aI g (aI J (aI q (aI z (aI L (a3N @D6 @D8 @Tryz.results138))))))))))))))))))) ?_;rw[K];exact no H (U5 (by rw[P5 f,hk,J,Ls]))
     cases M:decide (o=[47])
     case true=>
      have f:o=[43]\/o=[45]\/o=[42]\/o=[47]\/o=Q7\/o=R4:=(.inr (.inr (.inr (.inl (z6z M)))))
      refine gS1 (aI E (aI F (aI q0 (aI q1 (aI j (aI l (aI G (aI C (aI A (aI c1 (aI D (aI I (aI @F4 (aI g (aI J (aI q (aI z (aI L (aI M (a3N @D6 @D8 @Tryz.results138)))))))))))))))))))) ?_;rw[K];exact no H (U5 (by rw[P5 f,hk,J,Ls]))
     cases V:decide (o=[109,105,110])
     case true=>
      have f:o=[43]\/o=[45]\/o=[42]\/o=[47]\/o=Q7\/o=R4:=(.inr (.inr (.inr (.inr (.inl (z6z V))))))
      refine gS1 (aI E (aI F (aI q0 (aI q1 (aI j (aI l (aI G (aI C (aI A (aI c1 (aI D (aI I (aI @F4 (aI g (aI J (aI q (aI z (aI L (aI M (aI V (a3N @D6 @D8 @Tryz.results138))))))))))))))))))))) ?_;rw[K];exact no H (U5 (by rw[P5 f,hk,J,Ls]))
     cases X:decide (o=[109,97,120])
     case true=>
      have f:o=[43]\/o=[45]\/o=[42]\/o=[47]\/o=Q7\/o=R4:=(.inr (.inr (.inr (.inr (.inr (z6z X))))))
      refine gS1 (aI E (aI F (aI q0 (aI q1 (aI j (aI l (aI G (aI C (aI A (aI c1 (aI D (aI I (aI @F4 (aI g (aI J (aI q (aI z (aI L (aI M (aI V (aI X (a3N @D6 @D8 @Tryz.results138)))))))))))))))))))))) ?_;rw[K];exact no H (U5 (by rw[P5 f,hk,J,Ls]))
     refine gS1 (aI E (aI F (aI q0 (aI q1 (aI j (aI l (aI G (aI C (aI A (aI c1 (aI D (aI I (aI @F4 (aI q (aI z (aI L (aI M (aI V (aI X (a3N @D6 @D8 @Tryz.results138)))))))))))))))))))) ?_;rw[K];exact no H (U5 (IL o1 o2 (by
      rintro(h|h|h|h|h|h)
      ·exact z9z q h
      ·exact z9z z h
      ·exact z9z L h
      ·exact z9z M h
      ·exact z9z V h
      ·exact z9z X h)))
   |true=>
   obtain rfl:k=2:=z6z J;cases i:(decide (n=0)&&decide (d=0))with
   | false=>
     cases q:decide (o=[43])
     case true=>
      have f:o=[43]\/o=[45]\/o=[42]\/o=[47]\/o=Q7\/o=R4:=(.inl (z6z q))
      refine gS1 (aI E (aI F (aI q0 (aI q1 (aI j (aI l (aI G (aI C (aI A (aI c1 (aI D (aI I (aI @F4 (aI g (aI J (aI i (aI q (a3N @D6 @D8 @Tryz.results138)))))))))))))))))) ?_;rw[K];exact no H (U5 (by rw[P5 f,i];rfl))
     cases z:decide (o=[45])
     case true=>
      have f:o=[43]\/o=[45]\/o=[42]\/o=[47]\/o=Q7\/o=R4:=(.inr (.inl (z6z z)))
      refine gS1 (aI E (aI F (aI q0 (aI q1 (aI j (aI l (aI G (aI C (aI A (aI c1 (aI D (aI I (aI @F4 (aI g (aI J (aI i (aI q (aI z (a3N @D6 @D8 @Tryz.results138))))))))))))))))))) ?_;rw[K];exact no H (U5 (by rw[P5 f,i];rfl))
     cases L:decide (o=[42])
     case true=>
      have f:o=[43]\/o=[45]\/o=[42]\/o=[47]\/o=Q7\/o=R4:=(.inr (.inr (.inl (z6z L))))
      refine gS1 (aI E (aI F (aI q0 (aI q1 (aI j (aI l (aI G (aI C (aI A (aI c1 (aI D (aI I (aI @F4 (aI g (aI J (aI i (aI q (aI z (aI L (a3N @D6 @D8 @Tryz.results138)))))))))))))))))))) ?_;rw[K];exact no H (U5 (by rw[P5 f,i];rfl))
     cases M:decide (o=[47])
     case true=>
      have f:o=[43]\/o=[45]\/o=[42]\/o=[47]\/o=Q7\/o=R4:=(.inr (.inr (.inr (.inl (z6z M)))))
      refine gS1 (aI E (aI F (aI q0 (aI q1 (aI j (aI l (aI G (aI C (aI A (aI c1 (aI D (aI I (aI @F4 (aI g (aI J (aI i (aI q (aI z (aI L (aI M (a3N @D6 @D8 @Tryz.results138))))))))))))))))))))) ?_;rw[K];exact no H (U5 (by rw[P5 f,i];rfl))
     cases V:decide (o=[109,105,110])
     case true=>
      have f:o=[43]\/o=[45]\/o=[42]\/o=[47]\/o=Q7\/o=R4:=(.inr (.inr (.inr (.inr (.inl (z6z V))))))
      refine gS1 (aI E (aI F (aI q0 (aI q1 (aI j (aI l (aI G (aI C (aI A (aI c1 (aI D (aI I (aI @F4 (aI g (aI J (aI i (aI q (aI z (aI L (aI M (aI V (a3N @D6 @D8 @Tryz.results138)))))))))))))))))))))) ?_;rw[K];exact no H (U5 (by rw[P5 f,i];rfl))
     cases X:decide (o=[109,97,120])
     case true=>
      have f:o=[43]\/o=[45]\/o=[42]\/o=[47]\/o=Q7\/o=R4:=(.inr (.inr (.inr (.inr (.inr (z6z X))))))
      refine gS1 (aI E (aI F (aI q0 (aI q1 (aI j (aI l (aI G (aI C (aI A (aI c1 (aI D (aI I (aI @F4 (aI g (aI J (aI i (aI q (aI z (aI L (aI M (aI V (aI X (a3N @D6 @D8 @Tryz.results138))))))))))))))))))))))) ?_;rw[K];exact no H (U5 (by rw[P5 f,i];rfl))
     refine gS1 (aI E (aI F (aI q0 (aI q1 (aI j (aI l (aI G (aI C (aI A (aI c1 (aI D (aI I (aI @F4 (aI q (aI z (aI L (aI M (aI V (aI X (a3N @D6 @D8 @Tryz.results138)))))))))))))))))))) ?_;rw[K];exact no H (U5 (IL o1 o2 (by
      rintro(h|h|h|h|h|h)
      ·exact z9z q h
      ·exact z9z z h
      ·exact z9z L h
      ·exact z9z M h
      ·exact z9z V h
      ·exact z9z X h)))
   |true=>
   cases u:decide (nm=[])with
   | false=>
     cases q:decide (o=[43])
     case true=>
      have f:o=[43]\/o=[45]\/o=[42]\/o=[47]\/o=Q7\/o=R4:=(.inl (z6z q))
      refine gS1 (aI E (aI F (aI q0 (aI q1 (aI j (aI l (aI G (aI C (aI A (aI c1 (aI D (aI I (aI @F4 (aI g (aI J (aI i (aI u (aI q (a3N @D6 @D8 @Tryz.results138))))))))))))))))))) ?_;rw[K];exact no H (U5 (by rw[P5 f,i,u];rfl))
     cases z:decide (o=[45])
     case true=>
      have f:o=[43]\/o=[45]\/o=[42]\/o=[47]\/o=Q7\/o=R4:=(.inr (.inl (z6z z)))
      refine gS1 (aI E (aI F (aI q0 (aI q1 (aI j (aI l (aI G (aI C (aI A (aI c1 (aI D (aI I (aI @F4 (aI g (aI J (aI i (aI u (aI q (aI z (a3N @D6 @D8 @Tryz.results138)))))))))))))))))))) ?_;rw[K];exact no H (U5 (by rw[P5 f,i,u];rfl))
     cases L:decide (o=[42])
     case true=>
      have f:o=[43]\/o=[45]\/o=[42]\/o=[47]\/o=Q7\/o=R4:=(.inr (.inr (.inl (z6z L))))
      refine gS1 (aI E (aI F (aI q0 (aI q1 (aI j (aI l (aI G (aI C (aI A (aI c1 (aI D (aI I (aI @F4 (aI g (aI J (aI i (aI u (aI q (aI z (aI L (a3N @D6 @D8 @Tryz.results138))))))))))))))))))))) ?_;rw[K];exact no H (U5 (by rw[P5 f,i,u];rfl))
     cases M:decide (o=[47])
     case true=>
      have f:o=[43]\/o=[45]\/o=[42]\/o=[47]\/o=Q7\/o=R4:=(.inr (.inr (.inr (.inl (z6z M)))))
      refine gS1 (aI E (aI F (aI q0 (aI q1 (aI j (aI l (aI G (aI C (aI A (aI c1 (aI D (aI I (aI @F4 (aI g (aI J (aI i (aI u (aI q (aI z (aI L (aI M (a3N @D6 @D8 @Tryz.results138)))))))))))))))))))))) ?_;rw[K];exact no H (U5 (by rw[P5 f,i,u];rfl))
     cases V:decide (o=[109,105,110])
     case true=>
      have f:o=[43]\/o=[45]\/o=[42]\/o=[47]\/o=Q7\/o=R4:=(.inr (.inr (.inr (.inr (.inl (z6z V))))))
      refine gS1 (aI E (aI F (aI q0 (aI q1 (aI j (aI l (aI G (aI C (aI A (aI c1 (aI D (aI I (aI @F4 (aI g (aI J (aI i (aI u (aI q (aI z (aI L (aI M (aI V (a3N @D6 @D8 @Tryz.results138))))))))))))))))))))))) ?_;rw[K];exact no H (U5 (by rw[P5 f,i,u];rfl))
     cases X:decide (o=[109,97,120])
     case true=>
      have f:o=[43]\/o=[45]\/o=[42]\/o=[47]\/o=Q7\/o=R4:=(.inr (.inr (.inr (.inr (.inr (z6z X))))))
      refine gS1 (aI E (aI F (aI q0 (aI q1 (aI j (aI l (aI G (aI C (aI A (aI c1 (aI D (aI I (aI @F4 (aI g (aI J (aI i (aI u (aI q (aI z (aI L (aI M (aI V (aI X (a3N @D6 @D8 @Tryz.results138)))))))))))))))))))))))) ?_;rw[K];exact no H (U5 (by rw[P5 f,i,u];rfl))
     refine gS1 (aI E (aI F (aI q0 (aI q1 (aI j (aI l (aI G (aI C (aI A (aI c1 (aI D (aI I (aI @F4 (aI q (aI z (aI L (aI M (aI V (aI X (a3N @D6 @D8 @Tryz.results138)))))))))))))))))))) ?_;rw[K];exact no H (U5 (IL o1 o2 (by
      rintro(h|h|h|h|h|h)
      ·exact z9z q h
      ·exact z9z z h
      ·exact z9z L h
      ·exact z9z M h
      ·exact z9z V h
      ·exact z9z X h)))
   |true=>
   obtain⟨x,y,rfl⟩:∃ x y,es=[x,y]:=by
    match es,hk with
    | [x,y],_=>exact⟨x,y,rfl⟩
   obtain⟨r1,t1,x1⟩:=s2 0 x rfl;obtain⟨r2,t2,x2⟩:=s2 1 y rfl;obtain⟨sp,rfl,l3,l4⟩:=s1 (by simp);rw[GH,j7]at t1;rw[RN]at t2;obtain⟨dp,rfl⟩:∃ x,dp=x+1:=⟨dp-1,om⟩
   have kW:=x1.len;have oy:=x2.len;have N:sub r1 0 5=some r1:=C9 om om;have O:sub r2 0 5=some r2:=C9 om om;have d4:B<Z.n:=z5z l3 c2.n;have hB:B≠cb:=om;have lB:=eT (c2.row l3) l4;have U:=eT (a0.row d4 hB) lB;have e1:((dp+1:Nat):Int)-1=(dp:Nat):=om;have wx:=WfL.get (k:=0) k6 rfl;have wy:=WfL.get (k:=1) k6 rfl;have sx:SizeOf.sizeOf x<s:=by simp at hs;omega
   have sy:SizeOf.sizeOf y<s:=by simp at hs;omega
   have d0:RfG x:=@ih _ _ sx wx c6;have d3:RfG y:=@ih _ _ sy wy c6;cases q:decide (o=[43])
   case' true=>
    have f:o=[43]\/o=[45]\/o=[42]\/o=[47]\/o=Q7\/o=R4:=(.inl (z6z q))
    refine gS1 (aI E (aI F (aI q0 (aI q1 (aI j (aI l (aI G (aI C (aI A (aI c1 (aI D (aI I (aI @F4 (aI Y (aI lB (aI U (aI t1 (aI t2 (aI N (aI O (aI e1 (aI g (aI J (aI i (aI u (aI @j7 q)))))))))))))))))))))))))) ?_;rw[K]
    try(refine gS1 (aI E (aI F (aI q0 (aI q1 (aI j (aI l (aI G (aI C (aI A (aI c1 (aI D (aI I (aI @F4 (aI Y (aI lB (aI U (aI t1 (aI t2 (aI N (aI O (aI e1 (aI g (aI J (aI i (aI u (aI @j7 q)))))))))))))))))))))))))) ?_;try exact⟨⟩)
   case' false=>
    cases z:decide (o=[45])
    case' true=>
     have f:o=[43]\/o=[45]\/o=[42]\/o=[47]\/o=Q7\/o=R4:=(.inr (.inl (z6z z)))
     refine gS1 (aI E (aI F (aI q0 (aI q1 (aI j (aI l (aI G (aI C (aI A (aI c1 (aI D (aI I (aI @F4 (aI Y (aI lB (aI U (aI t1 (aI t2 (aI N (aI O (aI e1 (aI g (aI J (aI i (aI u (aI @j7 (aI q z))))))))))))))))))))))))))) ?_;rw[K]
     try(refine gS1 (aI E (aI F (aI q0 (aI q1 (aI j (aI l (aI G (aI C (aI A (aI c1 (aI D (aI I (aI @F4 (aI Y (aI lB (aI U (aI t1 (aI t2 (aI N (aI O (aI e1 (aI g (aI J (aI i (aI u (aI @j7 (aI q z))))))))))))))))))))))))))) ?_;try exact⟨⟩)
    case' false=>
     cases L:decide (o=[42])
     case' true=>
      have f:o=[43]\/o=[45]\/o=[42]\/o=[47]\/o=Q7\/o=R4:=(.inr (.inr (.inl (z6z L))))
      refine gS1 (aI E (aI F (aI q0 (aI q1 (aI j (aI l (aI G (aI C (aI A (aI c1 (aI D (aI I (aI @F4 (aI Y (aI lB (aI U (aI t1 (aI t2 (aI N (aI O (aI e1 (aI g (aI J (aI i (aI u (aI @j7 (aI q (aI z L)))))))))))))))))))))))))))) ?_;rw[K]
      try(refine gS1 (aI E (aI F (aI q0 (aI q1 (aI j (aI l (aI G (aI C (aI A (aI c1 (aI D (aI I (aI @F4 (aI Y (aI lB (aI U (aI t1 (aI t2 (aI N (aI O (aI e1 (aI g (aI J (aI i (aI u (aI @j7 (aI q (aI z L)))))))))))))))))))))))))))) ?_;try exact⟨⟩)
     case' false=>
      cases M:decide (o=[47])
      case' true=>
       have f:o=[43]\/o=[45]\/o=[42]\/o=[47]\/o=Q7\/o=R4:=(.inr (.inr (.inr (.inl (z6z M)))))
       refine gS1 (aI E (aI F (aI q0 (aI q1 (aI j (aI l (aI G (aI C (aI A (aI c1 (aI D (aI I (aI @F4 (aI Y (aI lB (aI U (aI t1 (aI t2 (aI N (aI O (aI e1 (aI g (aI J (aI i (aI u (aI @j7 (aI q (aI z (aI L M))))))))))))))))))))))))))))) ?_;rw[K]
       try(refine gS1 (aI E (aI F (aI q0 (aI q1 (aI j (aI l (aI G (aI C (aI A (aI c1 (aI D (aI I (aI @F4 (aI Y (aI lB (aI U (aI t1 (aI t2 (aI N (aI O (aI e1 (aI g (aI J (aI i (aI u (aI @j7 (aI q (aI z (aI L M))))))))))))))))))))))))))))) ?_;try exact⟨⟩)
      case' false=>
       cases V:decide (o=[109,105,110])
       case' true=>
        have f:o=[43]\/o=[45]\/o=[42]\/o=[47]\/o=Q7\/o=R4:=(.inr (.inr (.inr (.inr (.inl (z6z V))))))
        refine gS1 (aI E (aI F (aI q0 (aI q1 (aI j (aI l (aI G (aI C (aI A (aI c1 (aI D (aI I (aI @F4 (aI Y (aI lB (aI U (aI t1 (aI t2 (aI N (aI O (aI e1 (aI g (aI J (aI i (aI u (aI @j7 (aI q (aI z (aI L (aI M V)))))))))))))))))))))))))))))) ?_;rw[K]
        try(refine gS1 (aI E (aI F (aI q0 (aI q1 (aI j (aI l (aI G (aI C (aI A (aI c1 (aI D (aI I (aI @F4 (aI Y (aI lB (aI U (aI t1 (aI t2 (aI N (aI O (aI e1 (aI g (aI J (aI i (aI u (aI @j7 (aI q (aI z (aI L (aI M V)))))))))))))))))))))))))))))) ?_;try exact⟨⟩)
       case' false=>
        cases X:decide (o=[109,97,120])
        case' true=>
         have f:o=[43]\/o=[45]\/o=[42]\/o=[47]\/o=Q7\/o=R4:=(.inr (.inr (.inr (.inr (.inr (z6z X))))))
         refine gS1 (aI E (aI F (aI q0 (aI q1 (aI j (aI l (aI G (aI C (aI A (aI c1 (aI D (aI I (aI @F4 (aI Y (aI lB (aI U (aI t1 (aI t2 (aI N (aI O (aI e1 (aI g (aI J (aI i (aI u (aI @j7 (aI q (aI z (aI L (aI M (aI V X))))))))))))))))))))))))))))))) ?_;rw[K]
         try(refine gS1 (aI E (aI F (aI q0 (aI q1 (aI j (aI l (aI G (aI C (aI A (aI c1 (aI D (aI I (aI @F4 (aI Y (aI lB (aI U (aI t1 (aI t2 (aI N (aI O (aI e1 (aI g (aI J (aI i (aI u (aI @j7 (aI q (aI z (aI L (aI M (aI V X))))))))))))))))))))))))))))))) ?_;try exact⟨⟩)
        case' false=>
         exact(by
          refine gS1 (aI E (aI F (aI q0 (aI q1 (aI j (aI l (aI G (aI C (aI A (aI c1 (aI D (aI I (aI @F4 (aI q (aI z (aI L (aI M (aI V (aI X (a3N @D6 @D8 @Tryz.results138)))))))))))))))))))) ?_;rw[K];exact no H (U5 (IL o1 o2 (by
           rintro(h|h|h|h|h|h)
           ·exact z9z q h
           ·exact z9z z h
           ·exact z9z L h
           ·exact z9z M h
           ·exact z9z V h
           ·exact z9z X h))))
   all_goals
    have c7:AL o n d nm 2=true:=by rw[P5 f,i,u];rfl
    rw[xf c7];refine(@d0 _ _ _ (p+1) dp _ x1 ES om om oS om om).mono ?_;rintro r ⟨Z2,rfl,a9,o2⟩;have n2:=a9.n;have w2:=eT (a9.row om om) Y;have d5:=eT (a9.row om hB) U;cases bx:rfB x dp (p+1)
    ·refine gS1 (a3N @D6 @D8 @Tryz.results138) ?_;exact⟨_,rfl,a0.trans a9,fun h=>by cases h⟩
    ·have p2:p+1+Y5 x<=60:=by unfold rfB at bx;simp only[R2,EO]at bx;exact bx.2
     refine gS1 (aI q1 (aI j (aI l (aI w2 (aI d5 (aI t1 (aI t2 (aI N (aI O (aI e1 (a3N @D6 @D8 @j7))))))))))) ?_;refine(@d3 _ _ _ (p+1+Y5 x) dp _ x2 (a9.ext ES c5) om om (o2 bx) om p2).mono ?_;rintro r ⟨Z3,rfl,c8,o3⟩;refine gS1 @Tryz.results138 ?_;refine⟨_,rfl,a0.trans (a9.trans c8),fun h=>?_⟩;rw[o3 h,AY,V0,V0,Y9];congr 4;omega
end
def oP {e:Ex}:rfB e 12 0=AF e:=by
 unfold rfB AF;rw[GK,Bool.and_right_comm]
def oQ {Z:St}{w:Nat}{e:Ex}{row:List Value}(s:WfE w e) (g:w<=4) (f:P8 Z row e) (o:Z.read 0 0 20=some AO) (k:0<Z.n) :
  Ev (gO 74 [.agg ⟨row⟩] Z) (fun r=>∃ Z',r=⟨false,str (if AF e=true then K6 12 0 e else[]),Z'⟩/\Ext Z Z') ⟨⟩:=by
 have a:=f.len;have b:sub row 0 5=some row:=C9 om om;refine C8 Tryz.func74 rfl rfl ?_;refine gS1 (aI b a) ?_;have v:Ext Z (Z.new row):=eX;have h:Ext Z (((Z.new row).new [.int .i64 0] (some 3)).upd (Z.n+1) [.int .i64 0]):=eX;refine(AS7 _ (Jt _) s g (Z0:=Z) (p:=0) (dp:=12) f h om (by simp) (cL) om om).mono ?_;rintro r ⟨Z2,rfl,d,A⟩;have u:=d.n;simp only[G3,HH]at u;have c:Ext Z Z2:=d.ext h om;have i:Z2.row Z.n=some row:=by rw[d.row (by first|(simp;done)|(simp;omega)) om];exact cL
 rw[oP];cases q:AF e with
 | false=>
   rw[z0z (by simp)];refine gS1 (aI i (aI b (aI a (a3N @D6 @D8 @Tryz.results74)))) ?_;exact⟨_,rfl,c⟩
 | true=>
   rw[z1z rfl];obtain⟨l,m,z⟩:=IM q;refine gS1 (aI i (aI b a)) ?_;refine(yN l 12 m om (G4:=0) om (CB c k o) om (f.mono c)).mono ?_;rintro r ⟨y,rfl,j⟩;refine gS1 @Tryz.results74 ?_;exact⟨_,rfl,c.trans j⟩
end Go.Proofs.T
