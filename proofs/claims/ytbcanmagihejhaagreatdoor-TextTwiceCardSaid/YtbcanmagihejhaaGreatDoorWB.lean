/- The law on second lines and missing ones: the walk. -/
import Derived.Test.YtbcanmagihejhaaGreatDoorRF
import Derived.Test.YtbcanmagihejhaaGreatDoorPC
set_option linter.unusedSimpArgs false
set_option linter.unusedVariables false
namespace Go.Proofs.T
open Go Go.Ab
open Nat (reduceMul reduceEqDiff reduceAdd)
set_option maxRecDepth 100000
theorem againT_at {n:Nat}(h:n<5):sub ([str [116,101,110,100,101,114,32,120],str [112,114,105,99,101,32,49,32,50],str [102,111,114,109,117,108,97,32,49],str [98,117,100,103,101,116,32,51],str [116,105,109,101,115,32,49,32,50,32,51,32,52,32,53]]:List Value) n 1=some [str (againT n)]:=by
 match n,h with
 | 0,_=>rfl
 | 1,_=>rfl
 | 2,_=>rfl
 | 3,_=>rfl
 | 4,_=>rfl
theorem againS_at {n:Nat}(h:n<5):sub ([str [116,101,110,100,101,114,32],str [112,114,105,99,101,32],str [102,111,114,109,117,108,97,32],str [98,117,100,103,101,116,32],str [116,105,109,101,115,32]]:List Value) n 1=some [str (againW n++[32])]:=by
 match n,h with
 | 0,_=>rfl
 | 1,_=>rfl
 | 2,_=>rfl
 | 3,_=>rfl
 | 4,_=>rfl
theorem againS_len {n:Nat}(h:n<5):(againW n++[32]).length≤8:=by
 match n,h with
 | 0,_=>decide
 | 1,_=>decide
 | 2,_=>decide
 | 3,_=>decide
 | 4,_=>decide
theorem sub_at {α:Type}{s:List α}{k:Nat}{b:α}(h:s[k]? =some b):sub s k 1=some [b]:=by
 obtain ⟨hk,rfl⟩:=List.getElem?_eq_some_iff.1 h
 rw [sub_of (by omega),List.drop_eq_getElem_cons hk];rfl
theorem ten_of {b:UInt8}:(b=10∧decide ((b.toNat:Int)=10)=true)∨(b≠10∧decide ((b.toNat:Int)=10)=false):=by
 by_cases h:b=10
 ·subst h;exact .inl ⟨rfl,rfl⟩
 ·refine .inr ⟨h,decide_eq_false fun e=>h ?_⟩
  have:b.toNat=10:=by omega
  exact UInt8.toNat_inj.1 this
set_option maxHeartbeats 16000000 in
theorem twice_loop {T:Tn}{m:Nat}(hM:MadeT T) (hm:m<5){fr0:Fr}{τ0:St}(g5:fr0.get 5=some (.bool true)) (g6:fr0.get 6=some (str (printT T))) (g8:fr0.get 8=some (str (againW m++[32]))) (g9:fr0.get 9=some (str [])) (g10:fr0.get 10=some (.int .i64 0)) (g11:fr0.get 11=some (.int .i64 0)) :
  Ev (lim Tryz.prog HS none (.loop (cdAt [1,1,1,1,1,1,1,1,0,1,2,3] ((Tryz.f9).body.getD .skip))) fr0 τ0) (fun r=>∃ fr τ,r=⟨.exit 0,fr,τ⟩∧fr.get 5=some (.bool true)∧fr.get 9=some (str (under ((lessM (againW m) (lmOf T)).map lineP)))) ⟨⟩:=by
 have hlen:=(made_sub hM (List.Sublist.refl (lmOf T))).1
 have hlp:printT T=under ((lmOf T).map lineP):=rfl
 have hwl:=againS_len hm
 obtain ⟨-,hnl⟩:=lin_all (good_lm hM.right).each
 generalize hs:printT T=s at *
 generalize hw:againW m++[32]=w at *
 have hsl:s.length≤2737:=by rw [hlp];exact hlen
 refine ev_count s.length (fun k fr τ=>fr.get 5=some (.bool true)∧fr.get 6=some (str s)∧fr.get 8=some (str w)∧fr.get 11=some (.int .i64 (k:Nat))∧∃ (frm:Nat) (less:By),fr.get 9=some (str less)∧fr.get 10=some (.int .i64 (frm:Nat))∧LessAt w s k frm less)
  (fun r=>∃ fr τ,r=⟨.exit 0,fr,τ⟩∧fr.get 5=some (.bool true)∧fr.get 9=some (str (under ((lessM (againW m) (lmOf T)).map lineP)))) ?_ ?_ ?_ (fun r h=>h)
 ·exact ⟨g5,g6,g8,g11,0,[],g9,g10,less_zero⟩
 ·clear g5 g6 g8 g9 g10 g11 fr0 τ0
  rintro k fr τ hk ⟨g5,g6,g8,g11,frm,less,g9,g10,hL⟩
  have hc:=lt_true hk
  obtain ⟨b,hb⟩:=at_some hk
  have hs1:=sub_at hb
  simp only [Tryz.f9,gd_some,cd_nil,cd_0,cd_1,cd_2,cd_3]
  rcases ten_of (b:=b) with ⟨rfl,hb10⟩|⟨hne,hb10⟩
  ·obtain ⟨line,h1,h2,h3,h4,h5⟩:=less_end hL hb
   have e1:(k:Int)+1=((k+1:Nat):Int):=by omega
   have hll:=less_le hL
   rcases pre_cases w line with ⟨q1,q2⟩|⟨q1,q2,q3⟩|⟨q1,q2,q3⟩
   ·have d1:=lt_true q1
    rw [q2] at h5
    refine gS1 (aI @g5 (aI @g6 (aI @g8 (aI @g9 (aI @g10 (aI @g11 (aI @hc (aI @hs1 (aI @oneB_one (aI @hb10 (aI @h3 (aI @e1 (aI @d1 (aI @yu_t @yu_f)))))))))))))) ?_
    exact ⟨fR1 g5,fR1 g6,fR1 g8,fR,k+1,less++line,fR,fR,h5⟩
   ·have d1:decide (line.length<w.length)=false:=decide_eq_false (by omega)
    rw [q3] at h5
    have s2:sub line 0 w.length=some w:=by rw [sub_of (by omega),List.drop_zero,q2]
    refine gS1 (aI @g5 (aI @g6 (aI @g8 (aI @g9 (aI @g10 (aI @g11 (aI @hc (aI @hs1 (aI @oneB_one (aI @hb10 (aI @h3 (aI @e1 (aI @d1 (aI @Nat.sub_zero (aI @s2 (aI @decide_true (aI @yu_t @yu_f))))))))))))))))) ?_
    exact ⟨fR1 g5,fR1 g6,fR1 g8,fR,k+1,less,fR1 g9,fR,h5⟩
   ·have d1:decide (line.length<w.length)=false:=decide_eq_false (by omega)
    rw [q3] at h5
    have s2:sub line 0 w.length=some (line.take w.length):=by rw [sub_of (by omega),List.drop_zero]
    have d2:decide (line.take w.length=w)=false:=decide_eq_false q2
    refine gS1 (aI @g5 (aI @g6 (aI @g8 (aI @g9 (aI @g10 (aI @g11 (aI @hc (aI @hs1 (aI @oneB_one (aI @hb10 (aI @h3 (aI @e1 (aI @d1 (aI @Nat.sub_zero (aI @s2 (aI @d2 (aI @yu_t @yu_f))))))))))))))))) ?_
    exact ⟨fR1 g5,fR1 g6,fR1 g8,fR,k+1,less++line,fR,fR,h5⟩
  ·refine gS1 (aI @g5 (aI @g6 (aI @g8 (aI @g9 (aI @g10 (aI @g11 (aI @hc (aI @hs1 (aI @oneB_one (aI @hb10 (aI @yu_t @yu_f))))))))))) ?_
   exact ⟨fR1 g5,fR1 g6,fR1 g8,fR,frm,less,fR1 g9,fR1 g10,less_next hL hb hne⟩
 ·clear g5 g6 g8 g9 g10 g11 fr0 τ0
  rintro fr τ ⟨g5,g6,g8,g11,frm,less,g9,g10,hL⟩
  simp only [Tryz.f9,gd_some,cd_nil,cd_0,cd_1,cd_2,cd_3]
  refine gS1 (aI @g5 (aI @g6 (aI @g8 (aI @g9 (aI @g10 (aI @g11 @lt_self)))))) ?_
  subst hlp
  refine ⟨_,_,rfl,fR1 g5,?_⟩
  have:=less_fin hL rfl hnl
  rw [← hw,keep_lm hM hm] at this
  exact fR1 (And.intro g9 this)
set_option maxHeartbeats 16000000 in
theorem twice_walk {n:Int}{m:Nat}(hm:m<5) (hn:n.tmod 5=(m:Nat)){σ:St}{v:Value}{l:List Int}(hl:ArgInts (hide σ []) v l) (hll:l.length≤9223372036854775807) (hp:σ.read 1 0 20=some pows) :
  Ev (go Tryz.prog HS (.fn 9) [v,.int .u8 n] σ) (fun r=>∃ σ',r=⟨false,.bool true,σ'⟩) ⟨⟩:=by
 have hv:∃ a n c,v= .slice a n c:=by
  obtain ⟨a,c,b,off,cells,h,-⟩:=hl.1.use;exact ⟨a,_,c,h⟩
 have hvc:cellsL v=[v]∧isTup v=false:=by obtain ⟨a,n,c,rfl⟩:=hv;exact ⟨rfl,rfl⟩
 refine ev_go Tryz.func9 rfl rfl ?_
 simp (maxSteps:=8000000) (disch:=first|exact dS|fail) only [↓bD,bW,reduceMul,reduceEqDiff,reduceAdd,Nat.reduceBEq,reduceIte,Option.isNone_none,hvc.1,hvc.2,sanity_ok hp]
 refine (rmade_ok [] (by simp) hl hll).mono ?_
 rintro r ⟨cells,T,σ1,rfl,E1,hT,hM⟩
 obtain ⟨a0,a1,a2,a3,a4,a5,a6,a7,a8,a9,a10,a11,a12,a13,a14,a15,a16,a17,a18,a19,rfl⟩:=hT.cells
 refine gS ?_
 have hT':TnAt σ1 _ T:=hT
 refine (rPrint_ok hT' hM.right hM.sm (made_text hM).1).mono ?_
 rintro r ⟨σ2,rfl,E2⟩
 obtain ⟨f1,y1⟩:=twice_again hM hm
 obtain ⟨f2,y2⟩:=twice_less hM hm
 have hlen:=(made_sub hM (List.Sublist.refl (lmOf T))).1
 have hpl:(printT T).length≤2737:=hlen
 have hal:=again_len hm
 have hi1:=againT_at hm
 have hi2:=againS_at hm
 have e4:decide (m<5)=true:=by simpa using hm
 refine gS1 (aI @hn (aI @hi1 @e4)) ?_
 refine (parses_ok f1).mono ?_
 rintro r ⟨σ3,rfl,E3⟩
 refine gS1 (aI @y1 (aI @hn (aI @hi2 (aI @e4 (aI @yu_t @yu_f))))) ?_
 refine (twice_loop hM hm (fR) (fR) (fR) (fR) (fR) (fR)).mono ?_
 rintro r ⟨fr,τ,rfl,g5,g9⟩
 refine gS1 (aI @g5 (aI @g9 (aI @yu_t @yu_f))) ?_
 refine (parses_ok f2).mono ?_
 rintro r ⟨σ4,rfl,E4⟩
 refine gS1 (aI @y2 (aI @yu_t (aI @yu_f @Tryz.results9))) ?_
 exact ⟨_,rfl⟩
end Go.Proofs.T
