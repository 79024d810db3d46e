/- Facts on the types of the translation. -/
import Derived.Test.YtbcanmagihejhaaGreatDoorAbD
import Derived.Test.YtbcanmagihejhaaGreatDoorTA
import Derived.Test.YtbcanmagihejhaaGreatDoorProg
import Derived.KernelRfl
import Derived.Test.YtbcanmagihejhaaGreatDoorVC
import Derived.Test.YtbcanmagihejhaaGreatDoorRD
import Derived.Test.YtbcanmagihejhaaGreatDoorPE
import Derived.Test.YtbcanmagihejhaaGreatDoorQA
import Derived.Test.YtbcanmagihejhaaGreatDoorTH
import Derived.Test.YtbcanmagihejhaaGreatDoorSA
set_option linter.unusedSimpArgs false
set_option linter.unusedVariables false
namespace Go.Proofs.T
open Go Go.Ab
section
variable {fr:Fr} {Z:St} {x ix a v:Operand} {ve:Value}
theorem ia23 {b off i:Nat}:indexAddrV Tryz.prog 23 (.pointer (some ⟨b,off,none⟩)) i=bb (Nat.blt i 2) (some (.pointer (some ⟨b,off+i*1,none⟩))):=by kernel_rfl
end
end Go.Proofs.T
namespace Go.Proofs.T
open Go Go.Ab
section
variable {fr:Fr} {Z:St} {x ix a v:Operand} {ve:Value}
theorem ld24:LDo 24:=by unfold LDo;intros;kernel_rfl
theorem lv24:LVo 24:=by unfold LVo;intros;kernel_rfl
theorem ia55 {b off i:Nat}:indexAddrV Tryz.prog 55 (.pointer (some ⟨b,off,none⟩)) i=bb (Nat.blt i 2) (some (.pointer (some ⟨b,off+i*1,none⟩))):=by kernel_rfl
end
end Go.Proofs.T
namespace Go.Proofs.T
open Go Go.Ab
open Nat (reduceMul reduceEqDiff reduceAdd)
set_option maxRecDepth 100000
theorem cv_u16_int {Z:St}{n:Int}:convA Tryz.prog Z 24 3 (.int .u16 n)=some ⟨.int .i64 (IntKind.i64.wrap n),Z,.none⟩:=by kernel_rfl
theorem cv_u16_u8 {Z:St}{n:Int}:convA Tryz.prog Z 24 5 (.int .u16 n)=some ⟨.int .u8 (IntKind.u8.wrap n),Z,.none⟩:=by kernel_rfl
theorem unbytes_V:∀ l:By,unbytes (bytesV l)=some l:=by
 intro l
 induction l with
 | nil=>rfl
 | cons x l ih =>
   have e:bytesV (x::l)= .int .u8 (x.toNat:Nat)::bytesV l:=rfl
   have hx:byte? (.int .u8 (x.toNat:Nat))=some x:=by
    show some (UInt8.ofNat (Int.toNat (x.toNat:Nat)))=_
    simp
   rw [e,unbytes_cons,hx,ob_some,ih,ob_some]
theorem splice_atV {l:List Value}{v:Value}:∀ {o:Nat},o<l.length->splice l o [v]=some (l.take o++v::l.drop (o+1)):=by
 induction l with
 | nil=>intro o h;simp at h
 | cons x l ih =>
   intro o h
   cases o with
   | zero=>rfl
   | succ o=>rw [splice_succ,ih (by simpa using h),ob_some];rfl
def putB (s:By) (i:Nat) (n:Nat):By:=s.take i++UInt8.ofNat (n % 256)::s.drop (i+1)
theorem putB_cells {s:By}{i n:Nat}(h:i<s.length):splice (bytesV s) i [.int .u8 ((n % 256:Nat):Int)]=some (bytesV (putB s i n))/\(putB s i n).length=s.length:=by
 have hl:(bytesV s).length=s.length:=by simp [bytesV]
 refine ⟨?_,by unfold putB;rw [List.length_append,List.length_cons,List.length_take,List.length_drop];omega⟩
 rw [splice_atV om]
 congr 1
 unfold putB bytesV
 rw [List.map_append,List.map_cons,List.map_take,List.map_drop]
 have:(UInt8.ofNat (n % 256)).toNat=n % 256:=by simp
 rw [this]
theorem fT_tl {s:By}{a:Nat}:∀ (f k:Nat) (t:Tok),t∈fT s a f k->t.1.length<=s.length:=by
 intro f
 induction f with
 | zero=>intro k t ht;cases ht
 | succ f ih =>
   intro k t ht
   unfold fT at ht
   split at ht
   ·cases ht
   ·split at ht
    ·exact ih _ _ ht
    ·rcases List.mem_cons.1 ht with rfl|ht
     ·simp only [List.length_take,List.length_drop];omega
     ·exact ih _ _ ht
theorem fToks_short {s:By}{a:Nat}(h:s.length<10000000):ShortF (fToks s a):=by
 intro t ht
 unfold fToks at ht
 rcases List.mem_append.1 ht with ht|ht
 ·have:=fT_tl _ _ t ht;omega
 ·rw [List.mem_singleton] at ht;subst ht;simp
theorem read_ne' {s:By}:∀ p e,readS (fToks s 0)= .error (p,e)->e≠0:=fun p e h=>read_ne ends_ftoks fToks_dig (by unfold fToks;simp) h
set_option maxHeartbeats 32000000 in
theorem formulas_walk {Z:St}{v0 v1:Value}{l0 l1:List Int}{raw:By}{q0 q1:Nat}(hl0:ArgInts (hide Z []) v0 l0) (hl1:ArgInts (hide Z []) v1 l1) (hll0:l0.length<=9223372036854775807) (hll1:l1.length<=9223372036854775807) (hraw:raw.length<=2000000) (hq0:q0<65536) (hq1:q1<65536) (hp:Z.read 1 0 20=some pows) (hp1:1<Z.n) :
  Ev (go Tryz.prog HS (.fn 6) [.agg ⟨[v0,v1]⟩,str raw,.agg ⟨[.int .u16 (q0:Nat),.int .u16 (q1:Nat)]⟩] Z) (fun r=>∃ Z',r=⟨false,.bool true,Z'⟩) ⟨⟩:=by
 obtain ⟨d0,n0,e0,rfl⟩:∃ a n c,v0= .slice a n c:=by
  obtain ⟨a,c,b,off,cells,h,-⟩:=hl0.1.use;exact ⟨a,_,c,h⟩
 obtain ⟨d1,n1,e1,rfl⟩:∃ a n c,v1= .slice a n c:=by
  obtain ⟨a,c,b,off,cells,h,-⟩:=hl1.1.use;exact ⟨a,_,c,h⟩
 obtain ⟨S0,hS0⟩:∃ S,(Z.new [.slice d0 n0 e0,.slice d1 n1 e1]).new [.int .u16 (q0:Nat),.int .u16 (q1:Nat)]=S:=⟨_,rfl⟩
 have E0:Ext Z S0:=by rw [<- hS0];exact eX
 have nS0:S0.n=Z.n+2:=by rw [<- hS0];rfl
 have r0:S0.row Z.n=some [.slice d0 n0 e0,.slice d1 n1 e1]:=by rw [<- hS0];exact cL
 have r1:S0.row (Z.n+1)=some [.int .u16 (q0:Nat),.int .u16 (q1:Nat)]:=by rw [<- hS0];exact cL
 have f64:∀ n:Nat,n<65536->IntKind.i64.wrap ((n:Nat):Int)=((n:Nat):Int):=fun n h=>wrap64_in om om
 have w0:=f64 q0 hq0
 have w1:=f64 q1 hq1
 have wb:IntKind.u8.wrap ((q1:Nat):Int)=((q1 % 256:Nat):Int):=by rw [wrap_u8];omega
 refine ev_go Tryz.func6 rfl rfl ?_
 simp (maxSteps:=8000000) (disch:=first|exact dS|fail) only [↓bD,bW,reduceMul,reduceEqDiff,reduceAdd,Nat.reduceBEq,reduceIte,Option.isNone_none,ia23,ia55,↓ld24,lv24,cv_u16_int,cv_u16_u8,hS0,sanity_ok (pows_ext E0 hp1 hp)]
 try rw [hS0]
 simp (maxSteps:=8000000) (disch:=first|exact dS|fail) only [↓bD,bW,reduceMul,reduceEqDiff,reduceAdd,Nat.reduceBEq,reduceIte,Option.isNone_none,ia23,ia55,↓ld24,lv24,cv_u16_int,cv_u16_u8,r0,sanity_ok (pows_ext E0 hp1 hp)]
 refine names_ok.mono ?_
 rintro r ⟨bn,Z1,rfl,E1,b1,b2,on⟩
 have k1:=E1.n
 refine gS ?_
 have hsl:SL (hide Z1 []) 1 (.slice (some ⟨bn,0,none⟩) 5 5) (madeN.map fun s=>[str s]):=by
  refine .inr ⟨bn,0,none,5,_,rfl,by rw [hide_n];exact b2,by rw [hide_row (by simp)];exact row_of on,?_⟩
  intro k r hk
  match k,hk with
  | 0,hk=>cases hk;rfl
  | 1,hk=>cases hk;rfl
  | 2,hk=>cases hk;rfl
  | 3,hk=>cases hk;rfl
  | 4,hk=>cases hk;rfl
 refine (rtree_ok madeN_ok [] (by simp) (hl1.keep (keep_ext (E0.trans E1))) hll1 hsl).mono ?_
 rintro r ⟨row,e,k,m,Z2,rfl,E2,hx,hf,hk,hm⟩
 obtain ⟨x1,x2,x3,x4,x5,rfl⟩:=fc5 hx.to
 have k2:=E2.n
 have hw:=fwe_ok hf.fw
 have hre:=fw_rightE hf.fw om om
 have hpe:partsE e<=31:=by rw [(fw_sound hf.fw).2.2];exact hm
 have ax:ExAt Z2 [x1,x2,x3,x4,x5] e:=hx.to
 refine gS ?_
 refine (rpformg_ok (m:=31) hw om hpe om ax).mono ?_
 rintro r ⟨Z3,rfl,E3⟩
 have k3:=E3.n
 rw [if_pos hre]
 obtain ⟨sl,sn,-,-⟩:=show_read hf.fw om om
 have sl2:=fw_len40 hf.fw 12 0 om
 generalize showF 12 0 e=s at sl sn sl2
 have spos:=List.length_pos_iff.2 sn
 refine gS ?_
 try refine Must.intro (by (repeat first|simp (disch:=omega) only [as_read,as_upd,as_newb,asx E1,asx E2,asx E3]|rw [as_ord (by kernel_rfl)]);first|done|rfl) ?_
 have r1':Z3.row (Z.n+1)=some [.int .u16 (q0:Nat),.int .u16 (q1:Nat)]:=by rw [E3.row om,E2.row om,E1.row om];exact r1
 have r0':Z3.row Z.n=some [.slice d0 n0 e0,.slice d1 n1 e1]:=by rw [E3.row om,E2.row om,E1.row om];exact r0
 have blen:(bytesV s).length=s.length:=by simp [bytesV]
 have c0:decide (((s.length:Nat):Int)=0)=false:=decide_eq_false om
 have i0:q0 % s.length<s.length:=Nat.mod_lt _ om
 have e9:((q0:Nat):Int).tmod ((s.length:Nat):Int)=((q0 % s.length:Nat):Int):=tmod_nat
 have i1:Nat.blt (q0 % s.length) s.length=true:=by rw [Nat.blt_eq];exact i0
 have i2:decide (q0 % s.length<s.length)=true:=decide_eq_true i0
 obtain ⟨pc,pl⟩:=putB_cells (n:=q1) i0
 have e10:((s.length:Nat):Int)+1=((s.length+1:Nat):Int):=om
 have c2:decide (((s.length+1:Nat):Int)=0)=false:=decide_eq_false om
 have e11:((q1:Nat):Int).tmod ((s.length+1:Nat):Int)=((q1 % (s.length+1):Nat):Int):=tmod_nat
 have hAl:q1 % (s.length+1)<=s.length:=by have:=Nat.mod_lt q1 (show 0<s.length+1 by omega);omega
 generalize q1 % (s.length+1)=at' at e11 hAl
 generalize putB s (q0 % s.length) q1=sb at pc pl
 generalize q0 % s.length=ix at i0 e9 i1 i2 pc
 obtain ⟨S4,hS4⟩:∃ S,(Z3.new (bytesV s)).upd Z3.n (bytesV sb)=S:=⟨_,rfl⟩
 have E4:Ext Z3 S4:=by rw [<- hS4];exact eX
 have n4:S4.n=Z3.n+1:=by rw [<- hS4];rfl
 have r4:S4.row Z3.n=some (bytesV sb):=by rw [<- hS4];exact cL
 have r40:S4.row Z.n=some [.slice d0 n0 e0,.slice d1 n1 e1]:=by rw [E4.row om];exact r0'
 have r41:S4.row (Z.n+1)=some [.int .u16 (q0:Nat),.int .u16 (q1:Nat)]:=by rw [E4.row om];exact r1'
 have ub:=unbytes_V sb
 have sbl:(bytesV sb).length=s.length:=by rw [<- pl];simp [bytesV]
 simp (maxSteps:=8000000) (disch:=first|exact dS|fail) only [↓bD,bW,reduceMul,reduceEqDiff,reduceAdd,Nat.reduceBEq,reduceIte,Option.isNone_none,ia23,ia55,↓ld24,lv24,cv_u16_int,cv_u16_u8,r1',w0,w1,wb,c0,e9,i1,i2,pc,Nat.mul_one,Nat.zero_add]
 try refine Must.intro (by (repeat first|simp (disch:=omega) only [as_read,as_upd,as_newb,asx (Ext.refl _)]|rw [as_ord (by kernel_rfl)]);first|done|rfl) ?_
 try simp (maxSteps:=8000000) (disch:=first|exact dS|fail) only [↓bD,bW,reduceMul,reduceEqDiff,reduceAdd,Nat.reduceBEq,reduceIte,Option.isNone_none,ia23,ia55,↓ld24,lv24,cv_u16_int,cv_u16_u8,r1',w0,w1,wb,c0,e9,i1,i2,pc,hS4,Nat.mul_one,Nat.zero_add]
 try rw [hS4]
 simp (maxSteps:=8000000) (disch:=first|exact dS|fail) only [↓bD,bW,reduceMul,reduceEqDiff,reduceAdd,Nat.reduceBEq,reduceIte,Option.isNone_none,ia23,ia55,↓ld24,lv24,cv_u16_int,cv_u16_u8,r41,w1,e10,c2,e11,r40]
 refine (rsoup_ok (hl0.keep (keep_ext (((E0.trans E1).trans (E2.trans E3)).trans E4))) hll0).mono ?_
 rintro r ⟨sp,Z5,rfl,hsp,E5'⟩
 have E5:Ext S4 Z5:=E5'
 have k5:=E5.n
 have r5:Z5.row Z3.n=some (bytesV sb):=by rw [E5.row om];exact r4
 have u1:sub s 0 at'=some (s.take at'):=by rw [sub_of om];rfl
 have u2:sub s at' (s.length-at')=some (s.drop at'):=by rw [sub_of om,List.take_of_length_le (by rw [List.length_drop];omega)]
 have u3:sub (bytesV sb) 0 s.length=some (bytesV sb):=sub_full om om
 have t1:(s.take at').length<=s.length:=by rw [List.length_take];omega
 have t2:(s.drop at').length<=s.length:=by rw [List.length_drop];omega
 simp (maxSteps:=8000000) (disch:=first|exact dS|fail) only [↓bD,bW,reduceMul,reduceEqDiff,reduceAdd,Nat.reduceBEq,reduceIte,Option.isNone_none,ia23,ia55,↓ld24,lv24,cv_u16_int,cv_u16_u8,r5,u1,u2,u3,ub,Nat.sub_zero,Nat.mul_one]
 try refine Must.intro (by (repeat first|simp (disch:=omega) only [as_read,as_upd,as_newb,asx E5]|rw [as_ord (by kernel_rfl)]);first|done|rfl) ?_
 obtain ⟨L,hL⟩:∃ L:List By,L=[sp,s,sb,raw,s.take at'++raw++s.drop at',s.take at']:=⟨_,rfl⟩
 have hLc:[str sp,str s,str sb,str raw,str (s.take at'++raw++s.drop at'),str (s.take at')]=L.map str:=by rw [hL];rfl
 have hLl:L.length=6:=by rw [hL];rfl
 have hLs:∀ x∈L,x.length<10000000:=by
  rw [hL]
  intro x hx
  simp only [List.mem_cons,List.not_mem_nil,or_false] at hx
  rcases hx with rfl|rfl|rfl|rfl|rfl|rfl
  ·omega
  ·omega
  ·omega
  ·omega
  ·rw [List.length_append,List.length_append];omega
  ·omega
 rw [hLc]
 clear hL hLc
 obtain ⟨S6,hS6⟩:∃ S,Z5.new (L.map str)=S:=⟨_,rfl⟩
 have n6:S6.n=Z5.n+1:=by rw [<- hS6];rfl
 have r6:S6.row Z5.n=some (L.map str):=by rw [<- hS6];exact cL
 rw [hS6]
 generalize Z5.n=b6 at n6 r6 ⊢
 refine gS ?_
 refine ev_count 6 (fun k fr Z'=>fr.get 12=some (.int .i64 k)/\fr.get 11=some (.slice (some ⟨b6,0,none⟩) 6 6)/\fr.get 7=some (.bool true)/\Ext S6 Z')
  (fun r=>∃ fr Z',r=⟨.exit 0,fr,Z'⟩/\fr.get 7=some (.bool true)) ?_ ?_ ?_ ?_
 ·exact ⟨fR,fR,fR,.refl _⟩
 ·rintro k fr Z' hk ⟨g12,g11,g7,hE⟩
  have hc:decide (((k:Nat):Int)<((6:Nat):Int))=true:=decide_eq_true om
  have hc':decide (((k:Nat):Int)<6)=true:=decide_eq_true om
  have w1:Z'.row b6=some (L.map str):=by rw [hE.row om];exact r6
  obtain ⟨t,ht⟩:=at_some (show k<L.length by omega)
  have htl:=hLs t (List.mem_of_getElem? ht)
  have m1:sub (L.map str) k 1=some [str t]:=sub_at1 (by rw [List.getElem?_map,ht];rfl)
  have i1:Nat.blt k 6=true:=by rw [Nat.blt_eq];exact hk
  have i2:decide (k<6)=true:=decide_eq_true hk
  have kn:=hE.n
  refine gS1 (aI @g12 (aI @g11 (aI @g7 (aI @hc (aI @hc' (aI @w1 (aI @m1 (aI @i1 @i2)))))))) ?_
  refine (Formula_ok htl (fToks_short htl) read_ne').mono ?_
  generalize hR:readS (fToks t 0)=R
  intro r hr
  cases R with
  | ok e =>
    obtain ⟨Z7,row,rfl,E7,F7⟩:=hr
    obtain ⟨c1,c2,c3,c4,c5,rfl⟩:=F7.five
    obtain ⟨S7,hS7⟩:∃ S,(Z7.new [str [],.int .i64 0,.int .i64 0,str [],.slice none 0 0] (some 35)).upd Z7.n [c1,c2,c3,c4,c5]=S:=⟨_,rfl⟩
    have k7:=E7.n
    have n7:S7.n=Z7.n+1:=by rw [<- hS7];rfl
    have E7':Ext Z7 S7:=by rw [<- hS7];exact eX
    have w7:S7.row Z7.n=some [c1,c2,c3,c4,c5]:=by rw [<- hS7];first|exact cL|(unfold z5;exact cL)
    have wa:Z7.row b6=some (L.map str):=by rw [E7.row om];exact w1
    have w1':S7.row b6=some (L.map str):=by rw [E7'.row om,E7.row om];exact w1
    simp (maxSteps:=8000000) (disch:=first|exact dS|fail) only [↓bD,bW,reduceMul,reduceEqDiff,reduceAdd,Nat.reduceBEq,reduceIte,Option.isNone_none,g12,g11,g7,w1,wa,w1',m1,i1,i2,z5,hS7]
    try refine Must.intro (by (repeat first|simp (disch:=omega) only [as_read,as_upd,as_newb,asx E7]|rw [as_ord (by kernel_rfl)]);first|done|rfl) ?_
    try simp (maxSteps:=8000000) (disch:=first|exact dS|fail) only [↓bD,bW,reduceMul,reduceEqDiff,reduceAdd,Nat.reduceBEq,reduceIte,Option.isNone_none,g12,g11,g7,w1,wa,w1',m1,i1,i2,z5,hS7]
    try rw [hS7]
    refine (rFormula_ok htl (fToks_short htl)).mono ?_
    rw [hR]
    rintro r ⟨Z8,row,rfl,E8,F8⟩
    obtain ⟨d1,d2,d3,d4,d5,rfl⟩:=F8.five
    obtain ⟨S8,hS8⟩:∃ S,(Z8.new [str [],.int .i64 0,.int .i64 0,str [],.slice none 0 0] (some 35)).upd Z8.n [d1,d2,d3,d4,d5]=S:=⟨_,rfl⟩
    have k8:=E8.n
    have n8:S8.n=Z8.n+1:=by rw [<- hS8];rfl
    have E8':Ext Z8 S8:=by rw [<- hS8];exact eX
    have w8:S8.row Z8.n=some [d1,d2,d3,d4,d5]:=by rw [<- hS8];first|exact cL|(unfold z5;exact cL)
    have w7':S8.row Z7.n=some [c1,c2,c3,c4,c5]:=by rw [E8'.row om,E8.row om];exact w7
    simp (maxSteps:=8000000) (disch:=first|exact dS|fail) only [↓bD,bW,reduceMul,reduceEqDiff,reduceAdd,Nat.reduceBEq,reduceIte,Option.isNone_none,g12,g11,g7,w1',w8,w7',m1,i1,i2,z5,hS8,yu_t,yu_f]
    try refine Must.intro (by (repeat first|simp (disch:=omega) only [as_read,as_upd,as_newb,asx E8]|rw [as_ord (by kernel_rfl)]);first|done|rfl) ?_
    try simp (maxSteps:=8000000) (disch:=first|exact dS|fail) only [↓bD,bW,reduceMul,reduceEqDiff,reduceAdd,Nat.reduceBEq,reduceIte,Option.isNone_none,g12,g11,g7,w1',w8,w7',m1,i1,i2,z5,hS8,yu_t,yu_f]
    try rw [hS8]
    try simp (maxSteps:=8000000) (disch:=first|exact dS|fail) only [↓bD,bW,reduceMul,reduceEqDiff,reduceAdd,Nat.reduceBEq,reduceIte,Option.isNone_none,g12,g11,g7,w8,w7',yu_t,yu_f]
    refine (reqf_ok _ (Nat.lt_succ_self _) ((F7.at.mono E7').mono (E8.trans E8')) (F8.at.mono E8')).mono ?_
    rintro r ⟨Z9,rfl,E9⟩
    rw [exEqb_refl]
    refine gS1 (aI @g12 (aI @g11 (aI @g7 (aI @yu_t @yu_f)))) ?_
    exact ⟨fR,fR1 g11,fR1 g7,hE.trans (((E7.trans E7').trans (E8.trans E8')).trans E9)⟩
  | error pe =>
    obtain ⟨q,er⟩:=pe
    obtain ⟨Z7,rfl,E7⟩:=hr
    obtain ⟨S7,hS7⟩:∃ S,(Z7.new [str [],.int .i64 0,.int .i64 0,str [],.slice none 0 0] (some 35)).upd Z7.n [str [],.int .i64 0,.int .i64 0,str [],.slice none 0 0]=S:=⟨_,rfl⟩
    have k7:=E7.n
    have n7:S7.n=Z7.n+1:=by rw [<- hS7];rfl
    have E7':Ext Z7 S7:=by rw [<- hS7];exact eX
    have w7:S7.row Z7.n=some z5:=by rw [<- hS7];first|exact cL|(unfold z5;exact cL)
    have wa:Z7.row b6=some (L.map str):=by rw [E7.row om];exact w1
    have w1':S7.row b6=some (L.map str):=by rw [E7'.row om,E7.row om];exact w1
    simp (maxSteps:=8000000) (disch:=first|exact dS|fail) only [↓bD,bW,reduceMul,reduceEqDiff,reduceAdd,Nat.reduceBEq,reduceIte,Option.isNone_none,g12,g11,g7,w1,wa,w1',m1,i1,i2,z5,hS7]
    try refine Must.intro (by (repeat first|simp (disch:=omega) only [as_read,as_upd,as_newb,asx E7]|rw [as_ord (by kernel_rfl)]);first|done|rfl) ?_
    try simp (maxSteps:=8000000) (disch:=first|exact dS|fail) only [↓bD,bW,reduceMul,reduceEqDiff,reduceAdd,Nat.reduceBEq,reduceIte,Option.isNone_none,g12,g11,g7,w1,wa,w1',m1,i1,i2,z5,hS7]
    try rw [hS7]
    refine (rFormula_ok htl (fToks_short htl)).mono ?_
    rw [hR]
    rintro r ⟨Z8,rfl,E8⟩
    obtain ⟨S8,hS8⟩:∃ S,(Z8.new [str [],.int .i64 0,.int .i64 0,str [],.slice none 0 0] (some 35)).upd Z8.n [str [],.int .i64 0,.int .i64 0,str [],.slice none 0 0]=S:=⟨_,rfl⟩
    have k8:=E8.n
    have n8:S8.n=Z8.n+1:=by rw [<- hS8];rfl
    have E8':Ext Z8 S8:=by rw [<- hS8];exact eX
    have w8:S8.row Z8.n=some z5:=by rw [<- hS8];first|exact cL|(unfold z5;exact cL)
    have w7':S8.row Z7.n=some z5:=by rw [E8'.row om,E8.row om];exact w7
    simp (maxSteps:=8000000) (disch:=first|exact dS|fail) only [↓bD,bW,reduceMul,reduceEqDiff,reduceAdd,Nat.reduceBEq,reduceIte,Option.isNone_none,g12,g11,g7,w1',w8,w7',m1,i1,i2,z5,hS8,yu_t,yu_f]
    try refine Must.intro (by (repeat first|simp (disch:=omega) only [as_read,as_upd,as_newb,asx E8]|rw [as_ord (by kernel_rfl)]);first|done|rfl) ?_
    try simp (maxSteps:=8000000) (disch:=first|exact dS|fail) only [↓bD,bW,reduceMul,reduceEqDiff,reduceAdd,Nat.reduceBEq,reduceIte,Option.isNone_none,g12,g11,g7,w1',w8,w7',m1,i1,i2,z5,hS8,yu_t,yu_f]
    try rw [hS8]
    try simp (maxSteps:=8000000) (disch:=first|exact dS|fail) only [↓bD,bW,reduceMul,reduceEqDiff,reduceAdd,Nat.reduceBEq,reduceIte,Option.isNone_none,g12,g11,g7,w8,w7',yu_t,yu_f]
    have hz:∀ τ:St,ExAt τ z5 (.mk [] 0 0 [] []):=fun τ=>(fresh_leaf (L:=fun _=>False) (Z:=τ)).at
    refine (reqf_ok _ (Nat.lt_succ_self _) (hz _) (hz _)).mono ?_
    rintro r ⟨Z9,rfl,E9⟩
    rw [exEqb_refl]
    refine gS1 (aI @g12 (aI @g11 (aI @g7 (aI @yu_t @yu_f)))) ?_
    exact ⟨fR,fR1 g11,fR1 g7,hE.trans (((E7.trans E7').trans (E8.trans E8')).trans E9)⟩
 ·rintro fr Z' ⟨g12,g11,g7,hE⟩
  refine gS1 (aI @g12 (aI @g11 @g7)) ?_
  exact ⟨_,_,rfl,fR1 g7⟩
 rintro r ⟨fr,Z',rfl,g7⟩
 refine gS1 (aI @g7 @Tryz.results6) ?_
 exact ⟨_,rfl⟩
end Go.Proofs.T
