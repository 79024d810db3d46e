/- The reference IV ID of any kind. -/
import Derived.Test.YtgjocfjdecjhoaaGreatDoorRG
import Derived.Test.YtgjocfjdecjhoaaGreatDoorRF
import Derived.Test.YtgjocfjdecjhoaaGreatDoorEA
import Derived.Test.YtgjocfjdecjhoaaGreatDoorEB
set_option linter.unusedSimpArgs false
set_option linter.unusedVariables false
set_option linter.defProp false
set_option maxHeartbeats 32000000
set_option maxRecDepth 100000
namespace Go.Proofs.T
open Go Go.Ab
def PrT (T:Tn) (s:By):Prop:=(IG T/\(Il T).length<=4000->s=Il T)/\(¬(IG T/\(Il T).length<=4000)->s=[])
def PrT.none {T:Tn}(h:¬IG T):PrT T []:=⟨fun c=>absurd c.1 h,fun _=>rfl⟩
def eU {Z:St}{ca:List Value}{T:Tn}(hT:HW Z ca T) (hz:WkT 4 1000 100 T):Ev (gO 69 [.agg ⟨ca⟩] Z) (fun r=>∃ s b Z',r=⟨false,.tuple ⟨[str s,.bool b]⟩,Z'⟩/\Ext Z Z'/\PrT T (if b=true then s else[])) ⟨⟩:=by
 obtain⟨vl,vc,vr,ex,vt,vk,hp,-,-,-,h5,-⟩:=hT.parts;have hC:∀ c∈T.J9,c.length<=12:=fun c hc=>(hz.combo c hc).1;have hri:=jD hC;have hfa:=hp.all;have s0:=hp.p0;have s4:=hp.p4;have s5:=hp.p5;have s6:=hp.p6;have s8:=hp.p12;have s10:=hp.p14;have s15:=hp.p15;refine C9 Tryz.func69 rfl rfl ?_;refine gS1 (aI hfa s0) ?_;have E0:Ext Z (Z.new ca):=eX;refine Lh.mono ?_;rintro r rfl;rw[MG];refine gS1 s6 ?_;refine(SD hz.f nL hz.fp nL (h5.mono E0)).mono ?_;rintro r ⟨Z2,rfl,hE2⟩;have n2:=hE2.n;simp only[F6]at n2;have w2:Z2.row Z.n=some ca:=eT (hE2.row (cL)) cL;have E2:=E0.trans hE2;refine gS1 (aI w2 hfa) ?_;refine(Wx (hT.mono E2) hC).mono ?_;rintro r ⟨b3,Z3,rfl,hE3,hb3⟩;have n3:=hE3.n;have w3:=eT (hE3.row om) w2;have E3:=E2.trans hE3;refine gS1 (aI w3 (aI s15 s4)) ?_;obtain⟨S,hS'⟩:=nm (((Z3.new [.int .i64 0,.int .i64 0,.int .i64 0,.int .i64 0,.int .i64 0] (some 36)).upd Z3.n [.int .i64 T.t.q,.int .i64 T.t.b,.int .i64 T.t.g,.int .i64 T.t.p,.int .i64 T.t.s]));rw[hS'];have E1:Ext Z3 S:=by rw[<- hS'];exact eX
 have nS:S.n=Z3.n+1:=by rw[<- hS'];rfl
 have wS:S.row Z3.n=some [.int .i64 T.t.q,.int .i64 T.t.b,.int .i64 T.t.g,.int .i64 T.t.p,.int .i64 T.t.s]:=by rw[<- hS'];exact cL
 have w1:=eT (E1.row om) w3;have EF:=E3.trans E1;refine Bx.mono ?_;rintro r ⟨c0,rfl,h0⟩;refine gS ?_;generalize hn1:AM T.name=b1 at hri ⊢;generalize hf1:AD T.f=b2 at hri ⊢;refine JH (fun r=>∃ fr',r=⟨.normal,fr',S⟩/\fr'.get 1=some (.pointer (some ⟨Z.n,0,none⟩))/\fr'.get 4=some (.bool b1)/\fr'.get 5=some (.bool b2)/\fr'.get 6=some (.bool b3)/\∃ b,fr'.get 8=some (.bool b)/\Bi b (RnT T)) ?_ ?_
 ·cases c0 with
  | false=>
    refine gS ?_;exact⟨_,rfl,fR,fR,fR,fR,_,fR,h0.f1⟩
  |true=>
  refine gS1 (aI w1 s5) ?_;refine Bx.mono ?_;rintro r ⟨c1,rfl,h1⟩;cases c1 with
  | false=>
    refine gS ?_;exact⟨_,rfl,fR,fR,fR,fR,_,fR,h0.t (h1.f1)⟩
  |true=>
  refine gS1 (aI w1 s8) ?_;refine Bx.mono ?_;rintro r ⟨c2,rfl,h2⟩;cases c2 with
  | false=>
    refine gS ?_;exact⟨_,rfl,fR,fR,fR,fR,_,fR,h0.t (h1.t (h2.f1))⟩
  |true=>
  refine gS1 (aI w1 s10) ?_;refine Bx.mono ?_;rintro r ⟨c3,rfl,h3⟩;cases c3 with
  | false=>
    refine gS ?_;exact⟨_,rfl,fR,fR,fR,fR,_,fR,h0.t (h1.t (h2.t (h3.f1)))⟩
  |true=>
  refine gS1 wS ?_;refine Bx.mono ?_;rintro r ⟨c4,rfl,h4⟩;cases c4 with
  | false=>
    refine gS ?_;exact⟨_,rfl,fR,fR,fR,fR,_,fR,h0.t (h1.t (h2.t (h3.t (h4.f1))))⟩
  |true=>
  refine gS1 wS ?_;refine Bx.mono ?_;rintro r ⟨c5,rfl,h5⟩;cases c5 with
  | false=>
    refine gS ?_;exact⟨_,rfl,fR,fR,fR,fR,_,fR,h0.t (h1.t (h2.t (h3.t (h4.t (h5.f1)))))⟩
  |true=>
  refine gS1 wS ?_;refine Bx.mono ?_;rintro r ⟨c6,rfl,h6⟩;cases c6 with
  | false=>
    refine gS ?_;exact⟨_,rfl,fR,fR,fR,fR,_,fR,h0.t (h1.t (h2.t (h3.t (h4.t (h5.t (h6.f1))))))⟩
  |true=>
  refine gS1 wS ?_;refine Bx.mono ?_;rintro r ⟨c7,rfl,h7⟩;cases c7 with
  | false=>
    refine gS ?_;exact⟨_,rfl,fR,fR,fR,fR,_,fR,h0.t (h1.t (h2.t (h3.t (h4.t (h5.t (h6.t (h7.f1)))))))⟩
  |true=>
  refine gS1 wS ?_;refine Bx.mono ?_;rintro r ⟨c8,rfl,h8⟩;refine gS ?_;exact⟨_,rfl,fR,fR,fR,fR,_,fR,h0.t (h1.t (h2.t (h3.t (h4.t (h5.t (h6.t (h7.t h8)))))))⟩
 rintro r ⟨fr,rfl,g1,g4,g5,g6,b8,g8,hb8⟩;cases b1 with
 | false=>
   refine gS1 (aI g4 (a3N @D9 @F4 @Tryz.results69)) ?_;exact⟨_,_,_,rfl,EF,PrT.none fun h=>Bool.noConfusion (hri.1 h).1.1⟩
 |true=>
 cases b2 with
 | false=>
   refine gS1 (aI g4 (aI g5 (a3N @D9 @F4 @Tryz.results69))) ?_;exact⟨_,_,_,rfl,EF,PrT.none fun h=>Bool.noConfusion (hri.1 h).1.2⟩
 |true=>
 cases b3 with
 | false=>
   refine gS1 (aI g4 (aI g5 (aI g6 (a3N @D9 @F4 @Tryz.results69)))) ?_;exact⟨_,_,_,rfl,EF,PrT.none fun h=>hb3.not (hri.1 h).2.1⟩
 |true=>
 cases b8 with
 | false=>
   refine gS1 (aI g4 (aI g5 (aI g6 (aI g8 (a3N @D9 @F4 @Tryz.results69))))) ?_;exact⟨_,_,_,rfl,EF,PrT.none fun h=>hb8.not (hri.1 h).2.2⟩
 |true=>
 have hr:IG T:=hri.2 ⟨⟨rfl,rfl⟩,hb3.get,hb8.get⟩;refine gS1 (aI g1 (aI g4 (aI g5 (aI g6 (aI g8 (aI w1 hfa)))))) ?_;refine(Wh (hT.mono EF) hr).mono ?_;rintro r ⟨Z4,rfl,hE4⟩;have e:decide ((4000:Int)<(((Il T).length:Nat):Int))=decide (4000<(Il T).length):=by rw[z7z,z3z,z3z];omega
 refine gS1 (aI e @Tryz.results69) ?_;refine⟨_,_,_,rfl,EF.trans hE4,fun c=>?_,fun c=>?_⟩
 ·rw[z4z (by have:=c.2;omega)];rfl
 ·rw[Be (by
   by_cases h4:(Il T).length<=4000
   ·exact absurd ⟨hr,h4⟩ c
   ·omega)]
  rfl
end Go.Proofs.T
