/- The reference Iz HW of any kind. -/
import Derived.Test.YtgjocfjdecjhoaaGreatDoorIRG
import Derived.Test.YtgjocfjdecjhoaaGreatDoorIRF
import Derived.Test.YtgjocfjdecjhoaaGreatDoorIEA
set_option linter.unusedSimpArgs false
set_option linter.unusedVariables false
set_option linter.defProp false
set_option maxHeartbeats 32000000
set_option maxRecDepth 100000
namespace Go.Proofs.T
open Go Go.Ab
def PrT (T:Tn) (s:By):Prop:=(Iq T/\(JN T).length<=4000->s=JN T)/\(¬(Iq T/\(JN T).length<=4000)->s=[])
def PrT.none {T:Tn}(h:¬Iq T):PrT T []:=⟨fun c=>absurd c.1 h,fun _=>rfl⟩
def gB {Z:St}{ca:List Value}{T:Tn}(K:Jb Z ca T) (L:WkT 4 1000 100 T):Ev (gO 69 [.agg ⟨ca⟩] Z) (fun r=>∃ s b Z',r=⟨false,.tuple ⟨[str s,.bool b]⟩,Z'⟩/\Ext Z Z'/\PrT T (if b=true then s else[])) ⟨⟩:=by
 obtain⟨vl,vc,vr,ex,vt,vk,j,-,-,-,z,-⟩:=K.parts;have Y:∀ c∈T.K7,c.length<=12:=fun c hc=>(L.combo c hc).1;have a:=kX Y;have u:=j.all;have s0:=j.p0;have s4:=j.p4;have s5:=j.p5;have s6:=j.p6;have s8:=j.p12;have M:=j.p14;have N:=j.p15;refine C8 Tryz.func69 rfl rfl ?_;refine gS1 (aI u s0) ?_;have O:Ext Z (Z.new ca):=eX;refine MM.mono ?_;rintro r rfl;rw[Ml];refine gS1 s6 ?_;refine(fh L.f nL L.fp nL (z.mono O)).mono ?_;rintro r ⟨Z2,rfl,m⟩;have n2:=m.n;simp only[G3]at n2;have w2:Z2.row Z.n=some ca:=eT (m.row (cL)) cL;have U:=O.trans m;refine gS1 (aI w2 u) ?_;refine(YR (K.mono U) Y).mono ?_;rintro r ⟨V,A,rfl,o,C⟩;have n3:=o.n;have w3:=eT (o.row om) w2;have E3:=U.trans o;refine gS1 (aI w3 (aI N s4)) ?_;obtain⟨S,hS'⟩:=nW (((A.new [.int .i64 0,.int .i64 0,.int .i64 0,.int .i64 0,.int .i64 0] (some 36)).upd A.n [.int .i64 T.t.q,.int .i64 T.t.b,.int .i64 T.t.g,.int .i64 T.t.p,.int .i64 T.t.s]));rw[hS'];have R:Ext A S:=by rw[<- hS'];exact eX
 have nS:S.n=A.n+1:=by rw[<- hS'];rfl
 have E:S.row A.n=some [.int .i64 T.t.q,.int .i64 T.t.b,.int .i64 T.t.g,.int .i64 T.t.p,.int .i64 T.t.s]:=by rw[<- hS'];exact cL
 have G:=eT (R.row om) w3;have v:=E3.trans R;refine CK.mono ?_;rintro r ⟨c0,rfl,d⟩;refine gS ?_;generalize a1:AP T.name=b1 at a ⊢;generalize a0:AF T.f=b2 at a ⊢;refine Ji (fun r=>∃ fr',r=⟨.normal,fr',S⟩/\fr'.get 1=some (.pointer (some ⟨Z.n,0,none⟩))/\fr'.get 4=some (.bool b1)/\fr'.get 5=some (.bool b2)/\fr'.get 6=some (.bool V)/\∃ b,fr'.get 8=some (.bool b)/\Bi b (RnT T)) ?_ ?_
 ·cases c0 with
  | false=>
    refine gS ?_;exact⟨_,rfl,fR,fR,fR,fR,_,fR,d.f1⟩
  |true=>
  refine gS1 (aI G s5) ?_;refine CK.mono ?_;rintro r ⟨c1,rfl,i⟩;cases c1 with
  | false=>
    refine gS ?_;exact⟨_,rfl,fR,fR,fR,fR,_,fR,d.t (i.f1)⟩
  |true=>
  refine gS1 (aI G s8) ?_;refine CK.mono ?_;rintro r ⟨c2,rfl,k⟩;cases c2 with
  | false=>
    refine gS ?_;exact⟨_,rfl,fR,fR,fR,fR,_,fR,d.t (i.t (k.f1))⟩
  |true=>
  refine gS1 (aI G M) ?_;refine CK.mono ?_;rintro r ⟨c3,rfl,y⟩;cases c3 with
  | false=>
    refine gS ?_;exact⟨_,rfl,fR,fR,fR,fR,_,fR,d.t (i.t (k.t (y.f1)))⟩
  |true=>
  refine gS1 E ?_;refine CK.mono ?_;rintro r ⟨c4,rfl,l⟩;cases c4 with
  | false=>
    refine gS ?_;exact⟨_,rfl,fR,fR,fR,fR,_,fR,d.t (i.t (k.t (y.t (l.f1))))⟩
  |true=>
  refine gS1 E ?_;refine CK.mono ?_;rintro r ⟨c5,rfl,z⟩;cases c5 with
  | false=>
    refine gS ?_;exact⟨_,rfl,fR,fR,fR,fR,_,fR,d.t (i.t (k.t (y.t (l.t (z.f1)))))⟩
  |true=>
  refine gS1 E ?_;refine CK.mono ?_;rintro r ⟨c6,rfl,I⟩;cases c6 with
  | false=>
    refine gS ?_;exact⟨_,rfl,fR,fR,fR,fR,_,fR,d.t (i.t (k.t (y.t (l.t (z.t (I.f1))))))⟩
  |true=>
  refine gS1 E ?_;refine CK.mono ?_;rintro r ⟨c7,rfl,X⟩;cases c7 with
  | false=>
    refine gS ?_;exact⟨_,rfl,fR,fR,fR,fR,_,fR,d.t (i.t (k.t (y.t (l.t (z.t (I.t (X.f1)))))))⟩
  |true=>
  refine gS1 E ?_;refine CK.mono ?_;rintro r ⟨c8,rfl,h8⟩;refine gS ?_;exact⟨_,rfl,fR,fR,fR,fR,_,fR,d.t (i.t (k.t (y.t (l.t (z.t (I.t (X.t h8)))))))⟩
 rintro r ⟨fr,rfl,g1,B,F,H,b8,W,D⟩;cases b1 with
 | false=>
   refine gS1 (aI B (a3N @D6 @D8 @Tryz.results69)) ?_;exact⟨_,_,_,rfl,v,PrT.none fun h=>Bool.noConfusion (a.1 h).1.1⟩
 |true=>
 cases b2 with
 | false=>
   refine gS1 (aI B (aI F (a3N @D6 @D8 @Tryz.results69))) ?_;exact⟨_,_,_,rfl,v,PrT.none fun h=>Bool.noConfusion (a.1 h).1.2⟩
 |true=>
 cases V with
 | false=>
   refine gS1 (aI B (aI F (aI H (a3N @D6 @D8 @Tryz.results69)))) ?_;exact⟨_,_,_,rfl,v,PrT.none fun h=>C.not (a.1 h).2.1⟩
 |true=>
 cases b8 with
 | false=>
   refine gS1 (aI B (aI F (aI H (aI W (a3N @D6 @D8 @Tryz.results69))))) ?_;exact⟨_,_,_,rfl,v,PrT.none fun h=>D.not (a.1 h).2.2⟩
 |true=>
 have hr:Iq T:=a.2 ⟨⟨rfl,rfl⟩,C.get,D.get⟩;refine gS1 (aI g1 (aI B (aI F (aI H (aI W (aI G u)))))) ?_;refine(YB (K.mono v) hr).mono ?_;rintro r ⟨Z4,rfl,J⟩;have e:decide ((4000:Int)<(((JN T).length:Nat):Int))=decide (4000<(JN T).length):=by rw[z7z,z3z,z3z];omega
 refine gS1 (aI e @Tryz.results69) ?_;refine⟨_,_,_,rfl,v.trans J,fun c=>?_,fun c=>?_⟩
 ·rw[z4z (by have:=c.2;omega)];rfl
 ·rw[AW (by
   by_cases l:(JN T).length<=4000
   ·exact absurd ⟨hr,l⟩ c
   ·omega)]
  rfl
end Go.Proofs.T
