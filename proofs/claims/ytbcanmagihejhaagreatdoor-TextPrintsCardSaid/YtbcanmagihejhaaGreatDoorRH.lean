/- The reference Ic Ag of any kind. -/
import Derived.Test.YtbcanmagihejhaaGreatDoorRG
import Derived.Test.YtbcanmagihejhaaGreatDoorRF
import Derived.Test.YtbcanmagihejhaaGreatDoorEB
set_option linter.unusedSimpArgs false
set_option linter.unusedVariables false
set_option linter.defProp false
set_option maxHeartbeats 32000000
set_option maxRecDepth 100000
namespace Go.Proofs.T
open Go Go.Ab
section
variable {T:Tn}{s:By}{Z:St}{ca:List Value}
def PrT (T:Tn) (s:By):Prop:=(BL T/\(DY T).length<=4000->s=DY T)/\(¬(BL T/\(DY T).length<=4000)->s=[])
def PrT.uni {t:By}(h:PrT T s) (k:PrT T t):s=t:=by
 by_cases c:BL T/\(DY T).length<=4000
 ·rw[h.1 c,k.1 c]
 ·rw[h.2 c,k.2 c]
def PrT.none (h:¬BL T):PrT T []:=⟨fun c=>absurd c.1 h,fun _=>rfl⟩
def PrT.right (h:PrT T s) (a:s≠[]):BL T/\(DY T).length<=4000/\s=DY T:=by
 by_cases c:BL T/\(DY T).length<=4000
 ·exact⟨c.1,c.2,h.1 c⟩
 ·exact absurd (h.2 c) a
def dH (I:Bj Z ca T) (J:WkT 4 1000 100 T):Ev (gO 32 [.agg ⟨ca⟩] Z) (fun r=>∃ s b Z',r=⟨false,.tuple ⟨[str s,.bool b]⟩,Z'⟩/\Ext Z Z'/\PrT T (if b=true then s else[])) ⟨⟩:=by
 obtain⟨vl,vc,vr,ex,vt,vk,j,-,-,-,A,-⟩:=I.parts;have V:∀ c∈T.C8,c.length<=12:=fun c hc=>(J.combo c hc).1;have a:=iU V;have v:=j.all;have s0:=j.p0;have s4:=j.p4;have s5:=j.p5;have s6:=j.p6;have s8:=j.p12;have K:=j.p14;have L:=j.p15;refine G1 Tryz.func32 rfl rfl ?_;refine gS1 (aI v s0) ?_;have M:Ext Z (Z.new ca):=eX;refine Lo.mono ?_;rintro r rfl;rw[MH];refine gS1 s6 ?_;refine(dA J.f nL J.fp nL (A.mono M)).mono ?_;rintro r ⟨Z2,rfl,o⟩;have n2:=o.n;simp only[K9]at n2;have X:Z2.row Z.n=some ca:=eT (o.row (cL)) cL;have O:=M.trans o;refine gS1 (aI X v) ?_;refine(Wb (I.mono O) V).mono ?_;rintro r ⟨Q,B,rfl,u,C⟩;have n3:=u.n;have Y:=eT (u.row om) X;have E3:=O.trans u;refine gS1 (aI Y (aI L s4)) ?_;obtain⟨S,hS'⟩:=nW (((B.new [.int .i64 0,.int .i64 0,.int .i64 0,.int .i64 0,.int .i64 0] (some 39)).upd B.n [.int .i64 T.t.q,.int .i64 T.t.b,.int .i64 T.t.g,.int .i64 T.t.p,.int .i64 T.t.s]));rw[hS'];have N:Ext B S:=by rw[<- hS'];exact eX
 have nS:S.n=B.n+1:=by rw[<- hS'];rfl
 have E:S.row B.n=some [.int .i64 T.t.q,.int .i64 T.t.b,.int .i64 T.t.g,.int .i64 T.t.p,.int .i64 T.t.s]:=by rw[<- hS'];exact cL
 have F:=eT (N.row om) Y;have y:=E3.trans N;refine CE.mono ?_;rintro r ⟨c0,rfl,d⟩;refine gS ?_;generalize a1:W0 T.name=b1 at a ⊢;generalize a0:EM T.f=b2 at a ⊢;refine LJ (fun r=>∃ fr',r=⟨.normal,fr',S⟩/\fr'.get 1=some (.pointer (some ⟨Z.n,0,none⟩))/\fr'.get 4=some (.bool b1)/\fr'.get 5=some (.bool b2)/\fr'.get 6=some (.bool Q)/\∃ b,fr'.get 8=some (.bool b)/\Bi b (RnT T)) ?_ ?_
 ·cases c0 with
  | false=>
    refine gS ?_;exact⟨_,rfl,fR,fR,fR,fR,_,fR,d.f1⟩
  |true=>
  refine gS1 (aI F s5) ?_;refine CE.mono ?_;rintro r ⟨c1,rfl,i⟩;cases c1 with
  | false=>
    refine gS ?_;exact⟨_,rfl,fR,fR,fR,fR,_,fR,d.t (i.f1)⟩
  |true=>
  refine gS1 (aI F s8) ?_;refine CE.mono ?_;rintro r ⟨c2,rfl,l⟩;cases c2 with
  | false=>
    refine gS ?_;exact⟨_,rfl,fR,fR,fR,fR,_,fR,d.t (i.t (l.f1))⟩
  |true=>
  refine gS1 (aI F K) ?_;refine CE.mono ?_;rintro r ⟨c3,rfl,z⟩;cases c3 with
  | false=>
    refine gS ?_;exact⟨_,rfl,fR,fR,fR,fR,_,fR,d.t (i.t (l.t (z.f1)))⟩
  |true=>
  refine gS1 E ?_;refine CE.mono ?_;rintro r ⟨c4,rfl,m⟩;cases c4 with
  | false=>
    refine gS ?_;exact⟨_,rfl,fR,fR,fR,fR,_,fR,d.t (i.t (l.t (z.t (m.f1))))⟩
  |true=>
  refine gS1 E ?_;refine CE.mono ?_;rintro r ⟨c5,rfl,A⟩;cases c5 with
  | false=>
    refine gS ?_;exact⟨_,rfl,fR,fR,fR,fR,_,fR,d.t (i.t (l.t (z.t (m.t (A.f1)))))⟩
  |true=>
  refine gS1 E ?_;refine CE.mono ?_;rintro r ⟨c6,rfl,G⟩;cases c6 with
  | false=>
    refine gS ?_;exact⟨_,rfl,fR,fR,fR,fR,_,fR,d.t (i.t (l.t (z.t (m.t (A.t (G.f1))))))⟩
  |true=>
  refine gS1 E ?_;refine CE.mono ?_;rintro r ⟨c7,rfl,U⟩;cases c7 with
  | false=>
    refine gS ?_;exact⟨_,rfl,fR,fR,fR,fR,_,fR,d.t (i.t (l.t (z.t (m.t (A.t (G.t (U.f1)))))))⟩
  |true=>
  refine gS1 E ?_;refine CE.mono ?_;rintro r ⟨c8,rfl,h8⟩;refine gS ?_;exact⟨_,rfl,fR,fR,fR,fR,_,fR,d.t (i.t (l.t (z.t (m.t (A.t (G.t (U.t h8)))))))⟩
 rintro r ⟨fr,rfl,g1,g4,g5,g6,b8,R,D⟩;cases b1 with
 | false=>
   refine gS1 (aI g4 (a3N @H7 @I0 @Tryz.results32)) ?_;exact⟨_,_,_,rfl,y,PrT.none fun h=>Bool.noConfusion (a.1 h).1.1⟩
 |true=>
 cases b2 with
 | false=>
   refine gS1 (aI g4 (aI g5 (a3N @H7 @I0 @Tryz.results32))) ?_;exact⟨_,_,_,rfl,y,PrT.none fun h=>Bool.noConfusion (a.1 h).1.2⟩
 |true=>
 cases Q with
 | false=>
   refine gS1 (aI g4 (aI g5 (aI g6 (a3N @H7 @I0 @Tryz.results32)))) ?_;exact⟨_,_,_,rfl,y,PrT.none fun h=>C.not (a.1 h).2.1⟩
 |true=>
 cases b8 with
 | false=>
   refine gS1 (aI g4 (aI g5 (aI g6 (aI R (a3N @H7 @I0 @Tryz.results32))))) ?_;exact⟨_,_,_,rfl,y,PrT.none fun h=>D.not (a.1 h).2.2⟩
 |true=>
 have W:BL T:=a.2 ⟨⟨rfl,rfl⟩,C.get,D.get⟩;refine gS1 (aI g1 (aI g4 (aI g5 (aI g6 (aI R (aI F v)))))) ?_;refine(WC (I.mono y) W).mono ?_;rintro r ⟨Z4,rfl,H⟩;have e:decide ((4000:Int)<(((DY T).length:Nat):Int))=decide (4000<(DY T).length):=by rw[z7z,z3z,z3z];omega
 refine gS1 (aI e @Tryz.results32) ?_;refine⟨_,_,_,rfl,y.trans H,fun c=>?_,fun c=>?_⟩
 ·rw[z4z (by have:=c.2;omega)];rfl
 ·rw[AK (by
   by_cases m:(DY T).length<=4000
   ·exact absurd ⟨W,m⟩ c
   ·omega)]
  rfl
def Ry (c:Bj Z ca T) (g:WkT 4 1000 100 T):Ev (gO 13 [.agg ⟨ca⟩] Z) (fun r=>∃ s Z',r=⟨false,str s,Z'⟩/\Ext Z Z'/\PrT T s) ⟨⟩:=by
 have d:sub ca 0 20=some ca:=G3 (by rw[c.len];omega) (by rw[c.len];omega);refine G1 Tryz.func13 rfl rfl ?_;refine gS1 d ?_;have a:Ext Z (Z.new ca):=eX;refine(dH (c.mono a) g).mono ?_;rintro r ⟨s,b,h,rfl,e,f⟩;cases b with
 | false=>
   refine gS1 (a4N @SY @H7 @I0 @Tryz.results13) ?_;exact⟨_,_,rfl,a.trans e,f⟩
 | true=>
   refine gS1 (a4N @XP @H7 @I0 @Tryz.results13) ?_;exact⟨_,_,rfl,a.trans e,f⟩
end
end Go.Proofs.T
