/- Bytes of a text, changed; numbers of ck bits. -/
import Derived.Test.YtckchelhlpifiaaGreatDoorVG
set_option linter.unusedSimpArgs false
set_option linter.unusedVariables false
set_option linter.defProp false
set_option maxHeartbeats 32000000
set_option maxRecDepth 100000
namespace Go.Proofs.T
open Go Go.Ab
def CK {Z:St}{n:Int}:HG Tryz.prog Z 24 3 (.int .u16 n)=some ⟨.int .i64 (IntKind.i64.wrap n),Z,.none⟩:=kR
def DX {Z:St}{n:Int}:HG Tryz.prog Z 24 5 (.int .u16 n)=some ⟨.int .u8 (IntKind.u8.wrap n),Z,.none⟩:=kR
def gL:∀ l:By,Ac (N4 l)=some l:=by
 intro l;induction l with
 |nil=>rfl
 | cons x l ih=>
   have e:N4 (x::l)= .int .u8 (x.toNat:Nat)::N4 l:=rfl;have hx:Lz (.int .u8 (x.toNat:Nat))=some x:=by
    show some (UInt8.ofNat (Int.toNat (x.toNat:Nat)))=_;simp
   rw[e,MA,hx,F8,ih,F8]
def ZV {l:List Value}{v:Value}:∀ {o:Nat},o<l.length->I7 l o [v]=some (l.take o++v::l.drop (o+1)):=by
 induction l with
 |nil=>intro o h;simp at h
 | cons x l ih=>
   intro o h;cases o with
   |zero=>rfl
   |succ o=>rw[A4,ih (by simpa using h),F8];rfl
def lP (s:By) (i:Nat) (n:Nat):By:=s.take i++UInt8.ofNat (n % 256)::s.drop (i+1)
def ZW {s:By}{i n:Nat}(h:i<s.length):I7 (N4 s) i [.int .u8 ((n % 256:Nat):Int)]=some (N4 (lP s i n))/\(lP s i n).length=s.length:=by
 have hl:(N4 s).length=s.length:=by simp[N4]
 refine⟨?_,by unfold lP;rw[BD,Ah,Dh,Ei];omega⟩;rw[ZV om];congr 1;unfold lP N4;rw[y7,SD,List.map_take,List.map_drop];have:(UInt8.ofNat (n % 256)).toNat=n % 256:=sI;rw[this]
section
variable {fr:Fr}{Z:St}{x ix a v:Operand}{ve:Value}
def Wv {b off i:Nat}:Gk Tryz.prog 23 (.pointer (some ⟨b,off,none⟩)) i=bb (Nat.blt i 2) (some (.pointer (some ⟨b,off+i*1,none⟩))):=kR
end
section
variable {fr:Fr}{Z:St}{x ix a v:Operand}{ve:Value}
def Wx:LDo 24:=by unfold LDo;intros;kernel_rfl
def Wy:LVo 24:=by unfold LVo;intros;kernel_rfl
end
section
variable {fr:Fr}{Z:St}{x ix a v:Operand}{ve:Value}
def Ww {b off i:Nat}:Gk Tryz.prog 25 (.pointer (some ⟨b,off,none⟩)) i=bb (Nat.blt i 3) (some (.pointer (some ⟨b,off+i*1,none⟩))):=kR
end
end Go.Proofs.T
namespace Go.Proofs.T
open Go Go.Ab
open Nat (reduceMul reduceEqDiff reduceAdd)
def Uo {Z:St}{v0 v1:Value}{l0 l1:List Int}{raw:By}{q0 q1 q2:Nat}(hl0:Y9 (J5 Z []) v0 l0) (hl1:Y9 (J5 Z []) v1 l1) (Ab3:l0.length<=9223372036854775807) (Au8:l1.length<=9223372036854775807) (BN8:raw.length<=9223372036854775807) (hq0:q0<65536) (hq1:q1<65536) (hq2:q2<65536) (hp:Z.read 1 0 20=some BG) (hp1:1<Z.n) :
  Ev (gO 3 [.agg ⟨[v0,v1]⟩,.agg ⟨[.int .u16 (q0:Nat),.int .u16 (q1:Nat),.int .u16 (q2:Nat)]⟩,str raw] Z) (fun r=>∃ Z',r=⟨false,.bool true,Z'⟩) ⟨⟩:=by
 obtain⟨d0,n0,e0,rfl⟩:∃ a n c,v0= .slice a n c:=by
  obtain⟨a,c,b,off,cells,h,-⟩:=hl0.1.use;exact⟨a,_,c,h⟩
 obtain⟨d1,n1,e1,rfl⟩:∃ a n c,v1= .slice a n c:=by
  obtain⟨a,c,b,off,cells,h,-⟩:=hl1.1.use;exact⟨a,_,c,h⟩
 obtain⟨S0,hS0⟩:=nm ((Z.new [.slice d0 n0 e0,.slice d1 n1 e1]).new [.int .u16 (q0:Nat),.int .u16 (q1:Nat),.int .u16 (q2:Nat)]);have E0:Ext Z S0:=by rw[<- hS0];exact eX
 have nS0:S0.n=Z.n+2:=by rw[<- hS0];rfl
 have r0:S0.row Z.n=some [.slice d0 n0 e0,.slice d1 n1 e1]:=by rw[<- hS0];exact cL
 have r1:S0.row (Z.n+1)=some [.int .u16 (q0:Nat),.int .u16 (q1:Nat),.int .u16 (q2:Nat)]:=by rw[<- hS0];exact cL
 have f64:∀ n:Nat,n<65536->IntKind.i64.wrap (n:Int)=(n:Int):=fun n h=>wrap64_in om om;have w0:=f64 q0 hq0;have w2:=f64 q2 hq2;have wm:=f64 (q2 % 40) om;have em:(q2:Int).tmod 40=((q2 % 40:Nat):Int):=Jj;have wb:IntKind.u8.wrap (q1:Int)=((q1 % 256:Nat):Int):=by rw[wrap_u8];omega
 refine D0 Tryz.func3 rfl rfl ?_;simp(maxSteps:=8000000) (disch:=first|exact dS|fail) only[↓bD,bW,reduceMul,reduceEqDiff,reduceAdd,Nat.reduceBEq,reduceIte,Option.isNone_none,Wv,Ww,↓Wx,Wy,CK,DX,hS0,Sz (WV E0 hp1 hp)]
 try rw[hS0]
 simp(maxSteps:=8000000) (disch:=first|exact dS|fail) only[↓bD,bW,reduceMul,reduceEqDiff,reduceAdd,Nat.reduceBEq,reduceIte,Option.isNone_none,Wv,Ww,↓Wx,Wy,CK,DX,r0,Sz (WV E0 hp1 hp)];refine(oB [] (by simp) (hl1.J3 (GW E0)) Au8).mono ?_;rintro r ⟨cells,T,Z1,rfl,E1,hT,hM⟩;have k1:=E1.n;obtain⟨a0,a1,a2,a3,a4,a5,a6,a7,a8,a9,a10,a11,a12,a13,a14,a15,a16,a17,a18,a19,rfl⟩:=hT.cells;refine gS ?_;have hT':Dm Z1 _ T:=hT;refine(iw hT' hM.right hM.sm (SU hM).1).mono ?_;rintro r ⟨Z3,rfl,E3⟩;have k3:=E3.n;have Ab4:0<(DQ T).length:=eE.2 (by rw[eG];simp[nl]);have sl2:=(SU hM).1;generalize DQ T=s at Ab4 sl2;clear hT hT' hM;have r1':=eT (E3.row om) (eT (E1.row om) r1);have BN9:(N4 s).length=s.length:=by simp[N4]
 have c0:decide ((s.length:Int)=0)=false:=dF;have i0:q0 % s.length<s.length:=Hg _ om;have e9:(q0:Int).tmod (s.length:Int)=((q0 % s.length:Nat):Int):=Jj;have e11:(q2:Int).tmod (s.length:Int)=((q2 % s.length:Nat):Int):=Jj;have i1:Nat.blt (q0 % s.length) s.length=true:=by rw[DC];exact i0
 have i2:decide (q0 % s.length<s.length)=true:=Aq i0;obtain⟨pc,pl⟩:=ZW (n:=q1) i0;have hAl:q2 % s.length<=s.length:=by have:=Hg q2 Ab4;omega
 generalize q2 % s.length=at' at e11 hAl;generalize lP s (q0 % s.length) q1=sb at pc pl;generalize q0 % s.length=ix at i0 e9 i1 i2 pc;have Au9:q2 % 40<40:=Hg _ om;generalize q2 % 40=x40 at em wm Au9;have e12:(ix:Int)+(x40:Int)=((ix+x40:Nat):Int):=om;obtain⟨to,hto⟩:=nm (min (ix+x40) s.length);have tl:to<=s.length:=om;have e13:min ((ix+x40:Nat):Int) (s.length:Int)=(to:Int):=om;have Av0:min ((ix:Int)+(x40:Int)) (s.length:Int)=(to:Int):=om;obtain⟨mr,hmr⟩:=nm (min raw.length 80);have rl:mr<=raw.length:=om;have r80:mr<=80:=om;have e14:min (raw.length:Int) 80=(mr:Int):=om;obtain⟨S4,hS4⟩:=nm ((Z3.new (N4 s)).upd Z3.n (N4 sb));have E4:Ext Z3 S4:=by rw[<- hS4];exact eX
 have n4:S4.n=Z3.n+1:=by rw[<- hS4];rfl
 have r4:S4.row Z3.n=some (N4 sb):=by rw[<- hS4];exact cL
 have r41:=eT (E4.row om) r1';have ub:=gL sb;have sbl:(N4 sb).length=s.length:=by rw[<- pl];simp[N4]
 refine gSd @Wx (aI @Wv (aI @Ww (aI @Wy (aI @CK (aI @DX (aI r1' (aI w0 (aI w2 (aI wb (aI c0 (aI e9 (aI i1 (aI i2 (aI pc (aI @Df @Gy))))))))))))))) ?_
 try refine Ar.intro (by(repeat first|simp(disch:=omega) only[DH,Gc,Bq,asx (Ext.refl _)]|rw[IT (by kernel_rfl)]);first|done|rfl) ?_
 try(refine gSd @Wx (aI @Wv (aI @Ww (aI @Wy (aI @CK (aI @DX (aI r1' (aI w0 (aI w2 (aI wb (aI c0 (aI e9 (aI i1 (aI i2 (aI pc (aI hS4 (aI @Df @Gy)))))))))))))))) ?_;try exact⟨⟩)
 try rw[hS4]
 refine gSd @Wx (aI @Wv (aI @Ww (aI @Wy (aI @CK (aI @DX (aI r41 (aI w0 (aI w2 (aI em (aI wm (aI c0 (aI e9 (aI e11 (aI e12 (aI e13 Av0))))))))))))))) ?_;refine(Wp (hl0.J3 (GW ((E0.trans E1).trans (E3.trans E4)))) Ab3).mono ?_;rintro r ⟨sp,Z5,rfl,hsp,E5'⟩;have E5:Ext S4 Z5:=E5';have k5:=E5.n;have r5:=eT (E5.row om) r4;have u0:sub s 0 ix=some (s.take ix):=by rw[V7 om];rfl
 have u4:sub s to (s.length-to)=some (s.drop to):=by rw[V7 om,Kx (by rw[Ei];omega)]
 have u1:sub s 0 at'=some (s.take at'):=by rw[V7 om];rfl
 have u2:sub s at' (s.length-at')=some (s.drop at'):=by rw[V7 om,Kx (by rw[Ei];omega)]
 have u3:sub (N4 sb) 0 s.length=some (N4 sb):=D8 om om;have u5:sub raw 0 mr=some (raw.take mr):=by rw[V7 om];rfl
 have t1:(s.take at').length<=s.length:=by rw[Dh];omega
 have t2:(s.drop at').length<=s.length:=by rw[Ei];omega
 have t3:(s.take ix).length<=s.length:=by rw[Dh];omega
 have t4:(s.drop to).length<=s.length:=by rw[Ei];omega
 have t5:(raw.take mr).length<=80:=by rw[Dh];omega
 refine gSd @Wx (aI @Wv (aI @Ww (aI @Wy (aI @CK (aI @DX (aI r5 (aI u0 (aI u1 (aI u2 (aI u3 (aI u4 (aI u5 (aI ub (aI e14 (aI @Oq @Df))))))))))))))) ?_;refine(Wp (hl0.J3 (GW (((E0.trans E1).trans (E3.trans E4)).trans E5))) Ab3).mono ?_;rintro r ⟨sp2,Z6,rfl,tS,E6'⟩;have E6:Ext Z5 Z6:=E6';have k6:=E6.n;refine gSd @Wx (a5N @Wv @Ww @Wy @CK @DX) ?_
 try refine dW1 (aI (asx E5) (aI (asx E6) (asx (E5.trans E6)))) ?_
 try(refine gSd @Wx (a5N @Wv @Ww @Wy @CK @DX) ?_;try exact⟨⟩)
 obtain⟨L,hL⟩:∃ L:List By,L=[sp,s,sb,s.take ix++s.drop to,s.take at'++raw.take mr++s.drop at',raw,s++sp2]:=⟨_,rfl⟩
 have hLc:[str sp,str s,str sb,str (s.take ix++s.drop to),str (s.take at'++raw.take mr++s.drop at'),str raw,str (s++sp2)]=L.map str:=by rw[hL];rfl
 have hLl:L.length=7:=by rw[hL];rfl
 rw[hLc];clear hL hLc;obtain⟨S6,hS6⟩:=nm (Z6.new (L.map str));have n6:S6.n=Z6.n+1:=by rw[<- hS6];rfl
 have r6:S6.row Z6.n=some (L.map str):=by rw[<- hS6];exact cL
 rw[hS6];generalize Z6.n=b6 at n6 r6 ⊢
 try(refine gS ?_;try exact⟨⟩)
 refine F4 7 (fun k fr Z'=>fr.get 15=some (.int .i64 k)/\fr.get 14=some (.slice (some ⟨b6,0,none⟩) 7 7)/\fr.get 7=some (.bool true)/\Ext S6 Z')
  (fun r=>∃ fr Z',r=⟨.exit 0,fr,Z'⟩/\fr.get 7=some (.bool true)) ?_ ?_ ?_ ?_
 ·exact⟨fR,fR,fR,.refl _⟩
 ·rintro k fr Z' hk ⟨g15,g14,g7,hE⟩;have hc:decide ((k:Int)<((7:Nat):Int))=true:=dT;have hc':decide ((k:Int)<7)=true:=dT;have w1:=eT (hE.row om) r6;obtain⟨t,ht⟩:=E8 (show k<L.length by omega);have m1:sub (L.map str) k 1=some [str t]:=N3 (by rw[List.getElem?_map,ht];rfl);have i1:Nat.blt k 7=true:=by rw[DC];exact hk
  have i2:decide (k<7)=true:=Aq hk;have kn:=hE.n;refine gS1 (aI g15 (aI g14 (aI g7 (aI hc (aI hc' (aI w1 (aI m1 (aI i1 i2)))))))) ?_;refine iy.mono ?_;rintro r ⟨Z7,rfl,E7⟩;refine gS1 (aI g15 (aI g14 g7)) ?_;exact⟨fR,fR1 g14,fR1 g7,hE.trans E7⟩
 ·rintro fr Z' ⟨g15,g14,g7,hE⟩;refine gS1 (aI g15 (aI g14 g7)) ?_;exact⟨_,_,rfl,fR1 g7⟩
 rintro r ⟨fr,Z',rfl,g7⟩;refine gS1 (aI g7 @Tryz.results3) ?_;exact⟨_,rfl⟩
end Go.Proofs.T
