/- The law on printed formulas that are read again: the walk. -/
import Derived.Test.YtbcanmagihejhaaGreatDoorRD
import Derived.Test.YtbcanmagihejhaaGreatDoorSB
import Derived.Test.YtbcanmagihejhaaGreatDoorEA
import Derived.Test.YtbcanmagihejhaaGreatDoorQA
import Derived.Test.YtbcanmagihejhaaGreatDoorTH
set_option linter.unusedSimpArgs false
set_option linter.unusedVariables false
namespace Go.Proofs.T
open Go Go.Ab
open Nat (reduceMul reduceEqDiff reduceAdd)
set_option maxRecDepth 100000
theorem read_nil:readS (fToks [] 0)= .error (0,12):=by rfl
set_option maxHeartbeats 32000000 in
theorem tree_walk {Z:St}{v:Value}{l:List Int}{q0 q1 q2:Int}(hl:ArgInts (hide Z []) v l) (hll:l.length<=9223372036854775807) (hq0:In64 q0) (hq1:In64 q1) (hq2:In64 q2) (hp:Z.read 1 0 20=some pows) (hp1:1<Z.n) :
  Ev (go Tryz.prog HS (.fn 7) [v,.agg ⟨[.int .i64 q0,.int .i64 q1,.int .i64 q2]⟩] Z) (fun r=>∃ Z',r=⟨false,.bool true,Z'⟩) ⟨⟩:=by
 obtain ⟨d0,n0,e0,rfl⟩:∃ a n c,v= .slice a n c:=by
  obtain ⟨a,c,b,off,cells,h,-⟩:=hl.1.use;exact ⟨a,_,c,h⟩
 have EA:Ext Z (Z.new [.int .i64 q0,.int .i64 q1,.int .i64 q2]):=eX
 refine ev_go Tryz.func7 rfl rfl ?_
 simp (maxSteps:=8000000) (disch:=first|exact dS|fail) only [↓bD,bW,reduceMul,reduceEqDiff,reduceAdd,Nat.reduceBEq,reduceIte,Option.isNone_none,ia52,sanity_ok (pows_ext EA hp1 hp)]
 refine names_ok.mono ?_
 rintro r ⟨bn,Z1,rfl,E1,b1,b2,on⟩
 have k1:=E1.n
 simp only [new_n] at k1
 have EB:=EA.trans E1
 refine gS ?_
 have hsl:SL (hide Z1 []) 1 (.slice (some ⟨bn,0,none⟩) 5 5) (madeN.map fun s=>[str s]):=by
  refine .inr ⟨bn,0,none,5,_,rfl,by rw [hide_n];exact b2,by rw [hide_row (by simp)];exact row_of on,?_⟩
  intro k r hk
  match k,hk with
  | 0,hk=>cases hk;rfl
  | 1,hk=>cases hk;rfl
  | 2,hk=>cases hk;rfl
  | 3,hk=>cases hk;rfl
  | 4,hk=>cases hk;rfl
 refine (rtree_ok madeN_ok [] (by simp) (hl.keep (keep_ext EB)) hll hsl).mono ?_
 rintro r ⟨row,e,k,m,Z2,rfl,E2,hx,hf,hk,hm⟩
 obtain ⟨x1,x2,x3,x4,x5,rfl⟩:=fc5 hx.to
 have k2:=E2.n
 have hw:=fwe_ok hf.fw
 have hre:=fw_rightE hf.fw om om
 have hpe:partsE e<=31:=by rw [(fw_sound hf.fw).2.2];exact hm
 have wq:Z2.row Z.n=some [.int .i64 q0,.int .i64 q1,.int .i64 q2]:=by rw [E2.row om,E1.row (by simp)];exact cL
 refine gS ?_
 obtain ⟨S,hS⟩:∃ S,((Z2.new [str [],.int .i64 0,.int .i64 0,str [],.slice none 0 0] (some 35)).upd Z2.n [x1,x2,x3,x4,x5])=S:=⟨_,rfl⟩
 have ES:Ext Z2 S:=by rw [<- hS];exact eX
 have kS:S.n=Z2.n+1:=by rw [<- hS];rfl
 have rx:S.row Z2.n=some [x1,x2,x3,x4,x5]:=by rw [<- hS];exact cL
 have rq:S.row Z.n=some [.int .i64 q0,.int .i64 q1,.int .i64 q2]:=by rw [ES.row om];exact wq
 have hx:ExX (hide S []) [x1,x2,x3,x4,x5] e:=hx.keep (keep_ext ES)
 have EC:=(EB.trans E2).trans ES
 have pS:S.read 1 0 20=some pows:=pows_ext EC hp1 hp
 have n1S:1<S.n:=om
 rw [hS]
 have ax:ExAt S [x1,x2,x3,x4,x5] e:=hx.to
 clear hS
 refine (pformg_ok hw om ax pS n1S).mono ?_
 rintro r ⟨Z3,rfl,E3⟩
 rw [if_pos hre]
 obtain ⟨sl,sn,ss,sr⟩:=show_read hf.fw om om
 have hrp:∀ {Z:St} {row:List Value},ExAt Z row e->Ev (go Tryz.prog HS (.fn 21) [.agg ⟨row⟩] Z) (fun r=>∃ Z',r=⟨false,str (showF 12 0 e),Z'⟩/\Ext Z Z') ⟨⟩:=fun ha=>by
  have:=rpformg_ok (m:=31) hw om hpe om ha
  rw [if_pos hre] at this
  exact this
 generalize showF 12 0 e=s at sl sn ss sr hrp
 have dn:decide (s=[])=false:=decide_eq_false sn
 have ds:decide (s=s)=true:=by simp
 have k3:=E3.n
 refine gS ?_
 refine (Formula_ok sl ss (fun p e h=>by rw [sr] at h;cases h)).mono ?_
 rw [sr]
 rintro r ⟨Z4,row2,rfl,E4,fy⟩
 obtain ⟨y1,y2,y3,y4,y5,rfl⟩:=fy.five
 have k4:=E4.n
 have w4:Z4.row Z2.n=some [x1,x2,x3,x4,x5]:=by rw [E4.row om,E3.row om];exact rx
 have w4q:Z4.row Z.n=some [.int .i64 q0,.int .i64 q1,.int .i64 q2]:=by rw [E4.row om,E3.row om];exact rq
 refine gS1 (aI @ld52 (aI @lv52 (aI @w4 @w4q))) ?_
 obtain ⟨S4,hS4⟩:∃ S,((Z4.new [str [],.int .i64 0,.int .i64 0,str [],.slice none 0 0] (some 35)).upd Z4.n [y1,y2,y3,y4,y5])=S:=⟨_,rfl⟩
 have ES4:Ext Z4 S4:=by rw [<- hS4];exact eX
 have kS4:S4.n=Z4.n+1:=by rw [<- hS4];rfl
 have ry:S4.row Z4.n=some [y1,y2,y3,y4,y5]:=by rw [<- hS4];exact cL
 have rx4:S4.row Z2.n=some [x1,x2,x3,x4,x5]:=by rw [ES4.row om];exact w4
 have EE:=(E3.trans E4).trans ES4
 have hx4:ExX (hide S4 []) [x1,x2,x3,x4,x5] e:=hx.keep (keep_ext EE)
 have ay:ExAt S4 [y1,y2,y3,y4,y5] e:=(fy.ext ES4).at
 have ax4:=hx4.to
 rw [hS4]
 clear hS4
 refine (bentf_ok (H:=[]) _ (Nat.lt_succ_self _) (by simp) hx4 hq0 hq1 hq2 hw om om hpe).mono ?_
 rintro r ⟨row3,b,Z5,rfl,E5,hb,wb,pb⟩
 obtain ⟨z1,z2,z3,z4,z5,rfl⟩:=fc5 hb.to
 have k5:=E5.n
 refine gS ?_
 obtain ⟨S5,hS5⟩:∃ S,((Z5.new [str [],.int .i64 0,.int .i64 0,str [],.slice none 0 0] (some 35)).upd Z5.n [z1,z2,z3,z4,z5])=S:=⟨_,rfl⟩
 have ES5:Ext Z5 S5:=by rw [<- hS5];exact eX
 have kS5:S5.n=Z5.n+1:=by rw [<- hS5];rfl
 have rb:S5.row Z5.n=some [z1,z2,z3,z4,z5]:=by rw [<- hS5];exact cL
 have EF:=E5.trans ES5
 have ab:ExAt S5 [z1,z2,z3,z4,z5] b:=(hb.keep (keep_ext ES5)).to
 have p5:S5.read 1 0 20=some pows:=pows_ext (EE.trans EF) n1S pS
 rw [hS5]
 clear hS5
 refine (pformg_ok wb om ab p5 om).mono ?_
 rintro r ⟨Z6,rfl,E6⟩
 have k6:=E6.n
 have hrb:∀ {Z:St} {row:List Value},ExAt Z row b->Ev (go Tryz.prog HS (.fn 21) [.agg ⟨row⟩] Z) (fun r=>∃ Z',r=⟨false,str (if rightE b=true then showF 12 0 b else []),Z'⟩/\Ext Z Z') ⟨⟩:=fun ha=>rpformg_ok (m:=57) wb om om om ha
 cases hrb2:rightE b
 ·rw [if_neg (by simp)]
  have hrb:∀ {Z:St} {row:List Value},ExAt Z row b->Ev (go Tryz.prog HS (.fn 21) [.agg ⟨row⟩] Z) (fun r=>∃ Z',r=⟨false,str [],Z'⟩/\Ext Z Z') ⟨⟩:=fun ha=>by
   have:=hrb ha
   rw [if_neg (by rw [hrb2];simp)] at this
   exact this
  refine gS ?_
  refine (Formula_ok (s:=[]) (by simp) short_nil (fun p e h=>by rw [read_nil] at h;cases h;omega)).mono ?_
  rw [read_nil]
  rintro r ⟨Z7,rfl,E7⟩
  unfold Go.Proofs.T.z5
  have k7:=E7.n
  obtain ⟨S7,hS7⟩:∃ S,((Z7.new [str [],.int .i64 0,.int .i64 0,str [],.slice none 0 0] (some 35)).upd Z7.n [str [],.int .i64 0,.int .i64 0,str [],.slice none 0 0])=S:=⟨_,rfl⟩
  have ES7:Ext Z7 S7:=by rw [<- hS7];exact eX
  have kS7:S7.n=Z7.n+1:=by rw [<- hS7];rfl
  have EG:=(E6.trans E7).trans ES7
  have EH:=EF.trans EG
  have rx7:S7.row Z2.n=some [x1,x2,x3,x4,x5]:=by rw [EH.row om];exact rx4
  have ry7:S7.row Z4.n=some [y1,y2,y3,y4,y5]:=by rw [EH.row om];exact ry
  have rb7:S7.row Z5.n=some [z1,z2,z3,z4,z5]:=by rw [EG.row om];exact rb
  have ax7:=ax4.mono EH
  have ay7:=ay.mono EH
  have ab7:=ab.mono EG
  have dfx:exEqb e e=true:=exEqb_refl e
  have dfb:exEqb b b=true:=exEqb_refl b
  clear hx hx4 hb ES E1 E2 E3 E4 E5 E6 E7 ES4 ES5 ES7 EA EB EC EE EF EG EH
  refine gS1 (aI @yu_t (aI @yu_f (aI @hS7 (aI @rx7 (aI @ry7 (aI @rb7 (aI @dn @ds))))))) ?_
  refine (hrp (ax7.mono (Ext.refl S7))).mono ?_
  rintro r ⟨T1,rfl,X1⟩
  have X0:Ext ((Z7.new [str [],.int .i64 0,.int .i64 0,str [],.slice none 0 0] (some 35)).upd Z7.n [str [],.int .i64 0,.int .i64 0,str [],.slice none 0 0]) T1:=by rw [hS7];exact X1
  clear hS7
  have G1:Ext S7 T1:=X1
  have rxT1:T1.row Z2.n=some [x1,x2,x3,x4,x5]:=by rw [G1.row om];exact rx7
  have ryT1:T1.row Z4.n=some [y1,y2,y3,y4,y5]:=by rw [G1.row om];exact ry7
  have rbT1:T1.row Z5.n=some [z1,z2,z3,z4,z5]:=by rw [G1.row om];exact rb7
  refine gS1 (aI @yu_t (aI @yu_f (aI @rxT1 (aI @ryT1 (aI @rbT1 (aI @dn @ds)))))) ?_
  refine (reqf_ok _ (Nat.lt_succ_self _) (ax7.mono G1) (ay7.mono G1)).mono ?_
  rintro r ⟨T2,rfl,X2⟩
  rw [dfx]
  have G2:Ext S7 T2:=G1.trans X2
  have rxT2:T2.row Z2.n=some [x1,x2,x3,x4,x5]:=by rw [G2.row om];exact rx7
  have ryT2:T2.row Z4.n=some [y1,y2,y3,y4,y5]:=by rw [G2.row om];exact ry7
  have rbT2:T2.row Z5.n=some [z1,z2,z3,z4,z5]:=by rw [G2.row om];exact rb7
  refine gS1 (aI @yu_t (aI @yu_f (aI @rxT2 (aI @ryT2 (aI @rbT2 (aI @dn @ds)))))) ?_
  refine (hrb (ab7.mono G2)).mono ?_
  rintro r ⟨T3,rfl,X3⟩
  have G3:Ext S7 T3:=G2.trans X3
  have rxT3:T3.row Z2.n=some [x1,x2,x3,x4,x5]:=by rw [G3.row om];exact rx7
  have ryT3:T3.row Z4.n=some [y1,y2,y3,y4,y5]:=by rw [G3.row om];exact ry7
  have rbT3:T3.row Z5.n=some [z1,z2,z3,z4,z5]:=by rw [G3.row om];exact rb7
  refine gS1 (aI @yu_t (aI @yu_f (aI @rxT3 (aI @ryT3 (aI @rbT3 (aI @dn @ds)))))) ?_
  try refine Must.intro (by (repeat first|simp (disch:=omega) only [as_read,as_upd,as_newb,asx X0,asx X1,asx X2,asx X3]|rw [as_ord (by kernel_rfl)]);first|done|rfl) ?_
  try simp (maxSteps:=8000000) (disch:=first|exact dS|fail) only [↓bD,bW,reduceMul,reduceEqDiff,reduceAdd,Nat.reduceBEq,reduceIte,Option.isNone_none,yu_t,yu_f,Tryz.results7]
  exact ⟨_,rfl⟩
 ·rw [if_pos rfl]
  obtain ⟨gf,gk,gm⟩:=rightE_fw hrb2
  obtain ⟨cl,cn,cs,cr⟩:=show_read gf gk gm
  have hrb:∀ {Z:St} {row:List Value},ExAt Z row b->Ev (go Tryz.prog HS (.fn 21) [.agg ⟨row⟩] Z) (fun r=>∃ Z',r=⟨false,str (showF 12 0 b),Z'⟩/\Ext Z Z') ⟨⟩:=fun ha=>by
   have:=hrb ha
   rw [if_pos hrb2] at this
   exact this
  generalize showF 12 0 b=c at cl cn cs cr hrb
  have dc:decide (c=[])=false:=decide_eq_false cn
  have dcc:decide (c=c)=true:=by simp
  refine gS ?_
  refine (Formula_ok cl cs (fun p e h=>by rw [cr] at h;cases h)).mono ?_
  rw [cr]
  rintro r ⟨Z7,row4,rfl,E7,fz⟩
  obtain ⟨u1,u2,u3,u4,u5,rfl⟩:=fz.five
  have k7:=E7.n
  obtain ⟨S7,hS7⟩:∃ S,((Z7.new [str [],.int .i64 0,.int .i64 0,str [],.slice none 0 0] (some 35)).upd Z7.n [u1,u2,u3,u4,u5])=S:=⟨_,rfl⟩
  have ES7:Ext Z7 S7:=by rw [<- hS7];exact eX
  have kS7:S7.n=Z7.n+1:=by rw [<- hS7];rfl
  have EG:=(E6.trans E7).trans ES7
  have EH:=EF.trans EG
  have rx7:S7.row Z2.n=some [x1,x2,x3,x4,x5]:=by rw [EH.row om];exact rx4
  have ry7:S7.row Z4.n=some [y1,y2,y3,y4,y5]:=by rw [EH.row om];exact ry
  have rb7:S7.row Z5.n=some [z1,z2,z3,z4,z5]:=by rw [EG.row om];exact rb
  have rz7:S7.row Z7.n=some [u1,u2,u3,u4,u5]:=by rw [<- hS7];exact cL
  have az:ExAt S7 [u1,u2,u3,u4,u5] b:=(fz.ext ES7).at
  have ax7:=ax4.mono EH
  have ay7:=ay.mono EH
  have ab7:=ab.mono EG
  have dfx:exEqb e e=true:=exEqb_refl e
  have dfb:exEqb b b=true:=exEqb_refl b
  clear hx hx4 hb ES E1 E2 E3 E4 E5 E6 E7 ES4 ES5 ES7 EA EB EC EE EF EG EH
  refine gS1 (aI @yu_t (aI @yu_f (aI @hS7 (aI @rx7 (aI @ry7 (aI @rb7 (aI @dn (aI @ds (aI @dc (aI @dcc @rz7)))))))))) ?_
  refine (hrp (ax7.mono (Ext.refl S7))).mono ?_
  rintro r ⟨T1,rfl,X1⟩
  have X0:Ext ((Z7.new [str [],.int .i64 0,.int .i64 0,str [],.slice none 0 0] (some 35)).upd Z7.n [u1,u2,u3,u4,u5]) T1:=by rw [hS7];exact X1
  clear hS7
  have G1:Ext S7 T1:=X1
  have rxT1:T1.row Z2.n=some [x1,x2,x3,x4,x5]:=by rw [G1.row om];exact rx7
  have ryT1:T1.row Z4.n=some [y1,y2,y3,y4,y5]:=by rw [G1.row om];exact ry7
  have rbT1:T1.row Z5.n=some [z1,z2,z3,z4,z5]:=by rw [G1.row om];exact rb7
  have rzT1:T1.row Z7.n=some [u1,u2,u3,u4,u5]:=by rw [G1.row om];exact rz7
  refine gS1 (aI @yu_t (aI @yu_f (aI @rxT1 (aI @ryT1 (aI @rbT1 (aI @rzT1 (aI @dn (aI @ds (aI @dc @dcc))))))))) ?_
  refine (reqf_ok _ (Nat.lt_succ_self _) (ax7.mono G1) (ay7.mono G1)).mono ?_
  rintro r ⟨T2,rfl,X2⟩
  rw [dfx]
  have G2:Ext S7 T2:=G1.trans X2
  have rxT2:T2.row Z2.n=some [x1,x2,x3,x4,x5]:=by rw [G2.row om];exact rx7
  have ryT2:T2.row Z4.n=some [y1,y2,y3,y4,y5]:=by rw [G2.row om];exact ry7
  have rbT2:T2.row Z5.n=some [z1,z2,z3,z4,z5]:=by rw [G2.row om];exact rb7
  have rzT2:T2.row Z7.n=some [u1,u2,u3,u4,u5]:=by rw [G2.row om];exact rz7
  refine gS1 (aI @yu_t (aI @yu_f (aI @rxT2 (aI @ryT2 (aI @rbT2 (aI @rzT2 (aI @dn (aI @ds (aI @dc @dcc))))))))) ?_
  refine (hrb (ab7.mono G2)).mono ?_
  rintro r ⟨T3,rfl,X3⟩
  have G3:Ext S7 T3:=G2.trans X3
  have rxT3:T3.row Z2.n=some [x1,x2,x3,x4,x5]:=by rw [G3.row om];exact rx7
  have ryT3:T3.row Z4.n=some [y1,y2,y3,y4,y5]:=by rw [G3.row om];exact ry7
  have rbT3:T3.row Z5.n=some [z1,z2,z3,z4,z5]:=by rw [G3.row om];exact rb7
  have rzT3:T3.row Z7.n=some [u1,u2,u3,u4,u5]:=by rw [G3.row om];exact rz7
  refine gS1 (aI @yu_t (aI @yu_f (aI @rxT3 (aI @ryT3 (aI @rbT3 (aI @rzT3 (aI @dn (aI @ds (aI @dc @dcc))))))))) ?_
  refine (reqf_ok _ (Nat.lt_succ_self _) (ab7.mono G3) (az.mono G3)).mono ?_
  rintro r ⟨T4,rfl,X4⟩
  rw [dfb]
  have G4:Ext S7 T4:=G3.trans X4
  have rxT4:T4.row Z2.n=some [x1,x2,x3,x4,x5]:=by rw [G4.row om];exact rx7
  have ryT4:T4.row Z4.n=some [y1,y2,y3,y4,y5]:=by rw [G4.row om];exact ry7
  have rbT4:T4.row Z5.n=some [z1,z2,z3,z4,z5]:=by rw [G4.row om];exact rb7
  have rzT4:T4.row Z7.n=some [u1,u2,u3,u4,u5]:=by rw [G4.row om];exact rz7
  refine gS1 (aI @yu_t (aI @yu_f (aI @rxT4 (aI @ryT4 (aI @rbT4 (aI @rzT4 (aI @dn (aI @ds (aI @dc @dcc))))))))) ?_
  try refine Must.intro (by (repeat first|simp (disch:=omega) only [as_read,as_upd,as_newb,asx X0,asx X1,asx X2,asx X3,asx X4]|rw [as_ord (by kernel_rfl)]);first|done|rfl) ?_
  try simp (maxSteps:=8000000) (disch:=first|exact dS|fail) only [↓bD,bW,reduceMul,reduceEqDiff,reduceAdd,Nat.reduceBEq,reduceIte,Option.isNone_none,yu_t,yu_f,Tryz.results7]
  exact ⟨_,rfl⟩
end Go.Proofs.T
